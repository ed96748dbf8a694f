import PyProof.Rows.All
import Wide.All
import OpenK.AllK
import Wide.FinOn
import Lean
import PySem.Challenge.RW_nt0078_01
open PySem PySem.W PyProof.Rows
set_option Elab.async false
set_option maxRecDepth 100000
set_option autoImplicit false
set_option linter.all false
set_option bootstrap.genMatcherCode false
set_option genSizeOf false
set_option genSizeOfSpec false
set_option genInjectivity false
set_option tactic.hygienic false
noncomputable section
namespace Mine
set_option maxHeartbeats 0
noncomputable abbrev E6:=(Code->Sem Fin)->Program->World->SharedT->Thread->Option (SharedT×Thread)
noncomputable def tE(st:E6)(den:Code->Sem Fin)(ok:Nat->Option Value->Thread->Bool)(th:Thread->Bool)(p:Program)(w:World)(n₀:Nat)(ann:Option Value):Nat->SharedT->Thread->Option SharedT
 |0,_,_=>none
 |n+1,s,t=>match th t with
  |true=>some s
  |false=>match ok n₀ ann t with
   |false=>none
   |true=>match st den p w s t with
    |some r=>tE st den ok th p w n₀ ann n r.1 r.2
    |none=>none
theorem E7{tb:String->Option Builtin}{p:Program}{w:World}{n₀:Nat}{ann:Option Value}:∀{n:Nat}{s s':SharedT}{t:Thread},tE stepT (denote tb) stepOk through p w n₀ ann n s t=some s'->topRun tb p w n₀ ann n s.abs t=some s'.abs
 |0,s,s',t,h=>nomatch h
 |n+1,s,s',t,h=>by
  rw[show tE stepT (denote tb) stepOk through p w n₀ ann (n+1) s t=(match through t with|true=>some s|false=>match stepOk n₀ ann t with|false=>none|true=>match stepT (denote tb) p w s t with|some r=>tE stepT (denote tb) stepOk through p w n₀ ann n r.1 r.2|none=>none)from rfl]at h;unfold topRun;cases ht:through t with
  |true=>rw[ht]at h;obtain rfl:=Option.some.inj h;rfl
  |false=>
   rw[ht]at h;cases hk:stepOk n₀ ann t with
   |false=>rw[hk]at h;cases h
   |true=>
    rw[hk]at h;cases hs:stepT (denote tb) p w s t with
    |none=>rw[hs]at h;cases h
    |some r=>
     rw[hs]at h;rw[stepT_spec hs];exact E7 h
noncomputable def tF:List Obj->BT->Nat->Option BT
 |[],T,_=>some T
 |o::l,T,n=>match((T.ins n o).get n).isSome with
  |true=>tF l (T.ins n o)<|n+1
  |false=>none
theorem E8{life:Life}:∀{l:List Obj}{T T':BT}{n:Nat},tF l T n=some T'->absHeap T' (n+l.length) life=⟨(absHeap T n life).objs++l.toArray,life⟩
 |[],T,T',n,h=>by obtain rfl:=Option.some.inj h;show absHeap T n life=_;simp[absHeap]
 |o::l,T,T',n,h=>by
  rw[show tF (o::l) T n=(match((T.ins n o).get n).isSome with|true=>tF l (T.ins n o) (n+1)|false=>none)from rfl]at h;cases e:((T.ins n o).get n).isSome with
  |false=>rw[e]at h;cases h
  |true=>
   rw[e]at h;have:=E8 (life:=life) h;rw[List.length_cons,show n+(l.length+1)=n+1+l.length by omega,this,absHeap_ins e];show Heap.mk _ _=Heap.mk _ _;congr 1;apply Array.ext';simp[Heap.push]
noncomputable def toT(s:Shared):Option SharedT:=(tF s.heap.objs.toList .nil 0).map λT=>⟨T,s.heap.objs.toList.length,s.heap.life,s.gens,s.drawn,s.toks,s.os⟩
theorem Pf{s:Shared}{t:SharedT}(h:toT s=some t):t.abs=s:=by obtain⟨T,h1,rfl⟩:=Option.map_eq_some_iff.mp h;have:=E8 (life:=s.heap.life) h1;rw[Nat.zero_add]at this;obtain⟨⟨⟨ol⟩,lf⟩,g,d,k,os⟩:=s;show Shared.mk _ _ _ _ _=_;rw[show(SharedT.mk T _ lf g d k os).tree=T from rfl];dsimp only at this⊢;rw[this];simp[absHeap,BT.list]
noncomputable def qU(st:E6)(den:Code->Sem Fin)(ok:Nat->Option Value->Thread->Bool)(th:Thread->Bool)(p:Program)(w:World)(N:Nat):Option (Shared×SharedT):=(fencedOpening treeTable p w N).bind λs₀=>(toT s₀).bind λt₀=>match s₀.heap.isNs mainGlobals&&s₀.gens.size==0 with
 |true=>(tE st den ok th p w s₀.heap.objs.size (s₀.heap.nsMap mainGlobals "__annotations__") N t₀<|topStub p).map λt₁=>(s₀,t₁)
 |false=>none
noncomputable def wd(p:Program)(h₀:Heap)(s₁:Shared):Bool:=staticsOk (importedModules p.main.body) h₀ s₁.heap&&namesBound p s₁.heap&&gensDone s₁&&laidKept h₀ s₁.heap
theorem Pg{p:Program}{w:World}{N:Nat}{α:Type}{F:Shared->α}{v:α}
  (h1:(qU stepT (denote treeTable) stepOk through p w N).map (λr=>wd p r.1.heap r.2.abs)=some true)
  (h2:(qU stepT (denote treeTable) stepOk through p w N).map (λr=>F r.2.abs)=some v):(openEnds treeTable p w N).map F=some v:=by
 obtain⟨⟨s₀,t₁⟩,e,h3⟩:=Option.map_eq_some_iff.mp h2;rw[e]at h1;have h1:=Option.some.inj h1;unfold qU at e;obtain⟨s0,e0,e⟩:=Option.bind_eq_some_iff.mp e;obtain⟨t0,e1,e⟩:=Option.bind_eq_some_iff.mp e;cases hg:(s0.heap.isNs mainGlobals&&s0.gens.size==0)with
 |false=>rw[hg]at e;cases e
 |true=>
  rw[hg]at e;obtain⟨t2,e2,e3⟩:=Option.map_eq_some_iff.mp e;obtain⟨rfl,rfl⟩:=Prod.mk.inj e3;have e4:=E7 e2;rw[Pf e1]at e4;have h1:wd p s0.heap t2.abs=true:=h1;unfold wd at h1;have e5:topFrom treeTable p w N s0=some t2.abs:=by unfold topFrom;rw[hg,e4];show(match staticsOk (importedModules p.main.body) s0.heap t2.abs.heap&&namesBound p t2.abs.heap&&gensDone t2.abs&&laidKept s0.heap t2.abs.heap with|true=>some t2.abs|false=>none)=_;rw[h1]
  unfold openEnds;rw[e0];show(topFrom treeTable p w N s0).map F=_;rw[e5];exact congrArg some h3
noncomputable abbrev rr:OpenRow:=PySem.Challenge.rw_nt0078_01.row
noncomputable abbrev pp:Program:=rr.prog
noncomputable def Ph:List String:=["_wall","MAX_DEPTH","STRONG","EMBEDDINGS","INITIATORS","REMOVED","SEPARATOR","CARRIAGE_RETURN","LINE_FEED","bidi_kinds","paragraphs","isolate_pairs","bidi_first_strong","base_level","bidi_base","BidiEntry","BidiStack","explicit","bidi_is_right_isolate","level_runs","BidiSequence","bidi_direction","bidi_level_beside","bidi_joined_runs","isolating_sequences","BidiParagraph","bidi_paragraphs","MOST_BRACKETS","ISOLATE_SIGNS","NEUTRALS","LEFT_OVERS","NUMBERS","bidi_marks","bidi_arabic_numbers","bidi_arabic_letters","bidi_separators","bidi_runs","bidi_beside","bidi_terminators","bidi_left_overs","bidi_left_numbers","weak_classes","weak","bidi_bracket_key","bracket_pairs_of","bracket_pairs","bidi_strong","bidi_embedding","bidi_bracket_direction","bracket_classes","neutral_classes","neutral","implicit_level","implicit","sequence_levels","paragraph_levels","bidi_levels","LINE_SEPARATORS","LINE_BLANKS","LINE_MARKS","line_levels","line_turned","reordered","is_order_of","visual_places","visual_of","logical_of","line_runs","visual_runs","is_line_mark","marks_behind","mirrored","selected","shown_lines","shown","MAX_CODE","place_by_half","range_are_like","RangeMap","data_defaults","Data","_law_draw","_law_data","_law_reset","_law_is_kept","_law_order","_law_spans","_law_tiled","_law_line_right","_law_is_odd"]
noncomputable def tG:List Str:=Ph.map Str.ofString
noncomputable def q0:Program:=PySem.W.view pp [97]
theorem we:qU stepT (denote treeTable) stepOk through=qU Fast.tw10156331382660048174 (Fast.tw11892475500146522536 Fast.tw14364793385576792824) Fast.tw6613529449190102663 through:=by
 rw[Fast.te10156331382660048174,Fast.te11892475500146522536,Fast.te6613529449190102663]
 conv=>rhs;rw[<-Fast.te14364793385576792824]
noncomputable abbrev wg:Shared->Bool:=λs=>xlAt q0 [] s&&recOk (RowW.records rr.toRowW) s
noncomputable abbrev ends(w:World):=qU stepT (denote treeTable) stepOk through pp w 5000
theorem Pj(w:World):(ends w).map (λr=>openSeen q0 tG (importedModules pp.main.body) wg true r.2.abs)=some (openGood q0 tG):=by unfold ends;rw[we,Fast.te4187177175401517315];kernel_rfl
theorem Pk:PySem.Challenge.rw_nt0078_01.wellSaid=true:=by
 rw[Fast.te9446332074065402090]
 iterate 38 refine look_both ?_ (by decide+kernel)
 decide+kernel
theorem E9:(defOf q0 rr.name).isSome=true:=by kernel_rfl
noncomputable def dd:=(defOf q0 rr.name).get E9
theorem Pn:defOf q0 rr.name=some (dd.1,dd.2):=(Option.some_get E9).symm
noncomputable def b9:=@List.casesOn
noncomputable def cP:=@Bool.casesOn
noncomputable def e9:=@Option.casesOn
noncomputable def gD:=@Nat.casesAuxOn
abbrev b5:=List<|Option String
abbrev bj:=List<|Option Int
abbrev aG:=List Nat
abbrev bk:=List Int
abbrev cz:=List Value
abbrev aY:=List String
abbrev bK:=Option Int
abbrev bL:=List Expr
abbrev dg:=Array Value
abbrev cJ:=Value->Shared->Prop
def qV:=@Array.getElem?_toList
def qW:=@Array.length_toList
def wh:=@PySem.AutoSeq1.wpAny_loadPart'
def cy:=@Bool.and_eq_true
def k8:=@Bool.and_eq_true_iff
def gE:=@Bool.false_ne_true
def tH:=@Bool.not_eq_false'
def k9:=@Bool.not_eq_true'
def qX:=@Bool.or_eq_true_iff
def qY:=@Bool.true_and
def jq:=@PySem.Heap.get?_push_of_some
def ik:=@PySem.Heap.get?_push_size
def fJ:=@PySem.Heap.lt_size
def kq:=@Int.le_antisymm
def iX:=@Int.le_of_eq
def k_:=@Int.le_refl
def iY:=@Int.natCast_nonneg
def bN:=@Int.ofNat_le
def oi:=@Int.ofNat_lt
def qZ:=@Int.self_le_toNat
def wj:=@List.Pairwise.filter
def oj:=@List.all_cons
def gj:=@List.all_eq_true
def q3:=@List.any_cons
def pN:=@List.append_nil
def q4:=@List.cons.inj
def tJ:=@List.cons_ne_nil
def tK:=@List.countP_cons
def tL:=@List.drop_eq_getElem_cons
def lg:=@List.filterMap_cons
def q5:=@List.filter_cons
def pO:=@List.foldl_cons
def fV:=@List.getD_eq_getElem?_getD
def iZ:=@List.getElem?_append_left
def ku:=@List.getElem?_append_right
def eE:=@List.getElem?_eq_getElem
def gO:=@List.getElem?_eq_none
def tM:=@List.getElem?_inj
def cQ:=@List.getElem?_map
def kA:=@List.getElem?_of_mem
def lU:=@List.getElem?_range
def jr:=@List.getElem?_set_ne
def jL:=@List.getElem?_set_self
def tO:=@List.getElem?_take_of_lt
def tP:=@List.getElem_mem
def wm:=@List.getLast?_eq_some_getLast
def wo:=@List.getLast?_eq_some_iff
def lh:=@List.isEmpty_iff
def gF:=@List.length_append
def i4:=@List.length_cons
def pP:=@List.length_drop
def bI:=@List.length_map
def tQ:=@List.length_range
def i5:=@List.length_set
def gU:=@List.length_take
def m8:=@List.lookup_cons
def kB:=@List.map_append
def m9:=@List.map_congr_left
def fK:=@List.map_cons
def i6:=@List.map_map
def tR:=@List.map_reverse
def dR:=@List.mem_append
def q6:=@List.mem_append_left
def eO:=@List.mem_cons
def dh:=@List.mem_cons_of_mem
def cR:=@List.mem_cons_self
def bV:=@List.mem_map
def q7:=@List.mem_map_of_mem
def dY:=@List.mem_of_getElem?
def q8:=@List.mem_of_mem_getLast?
def jM:=@List.mem_range
def dO:=@List.mem_singleton
def kC:=@List.nodup_cons
def wq:=@List.nodup_iff_pairwise_ne
def kD:=@List.pairwise_append
def pQ:=@List.pairwise_cons
def pR:=@List.pairwise_map
def pS:=@List.reverse_cons
def om:=@List.size_toArray
def pT:=@List.take_add_one
def q9:=@List.take_append_drop
def m_:=@List.take_length
def tU:=@List.take_of_length_le
def nc:=@List.toList_toArray
def tV:=@Nat.add_sub_cancel_left
def b_:=@Nat.eq_of_beq_eq_true
def jt:=@Nat.le_add_right
def eI:=@Nat.le_antisymm
def cj:=@Nat.le_of_eq
def bY:=@Nat.le_refl
def eR:=@Nat.le_trans
def q_:=@Nat.lt_irrefl
def oq:=@Nat.lt_of_lt_of_le
def dm:=@Nat.lt_or_ge
def rf:=@Nat.lt_trichotomy
def oz:=@Nat.min_eq_left
def jN:=@Nat.min_le_left
def lV:=@Nat.min_le_right
def gP:=@Nat.ne_of_lt
def tW:=@Nat.not_lt_of_le
def rg:=@Nat.not_lt_zero
def nf:=@Nat.sub_le
def pU:=@Nat.sub_self
def ng:=@Nat.succ.inj
def ju:=@Nat.succ_le_of_lt
def tX:=@Nat.succ_le_succ
def iF:=@Nat.zero_le
def tY:=@Option.isNone_iff_eq_none
def nh:=@Option.isSome_iff_exists
def gV:=@Option.map_eq_some_iff
def aK:=@Option.some.inj
def jv:=@Prod.mk.inj
def wu:=@PySem.F.slot_dict_get
def tZ:=@beq_eq_false_iff_ne
def gQ:=@beq_iff_eq
def rh:=@decide_eq_decide
def dG:=@decide_eq_false
def di:=@decide_eq_true
def ff:=@decide_eq_true_iff
def bO:=@if_neg
def bw:=@if_pos
def iG:=@PySem.mem_of_lookup
def lW:=@of_decide_eq_false
def cG:=@of_decide_eq_true
def a_:=@PySem.wpAny_bind
def t6:=@PySem.wpAny_callSpecial?_slot
def jw:=@PySem.wpAny_field
def bz:=@PySem.wpAny_mono
def wz:=@PySem.wpAny_nextOf_list_item
def cF:=@PySem.wpAny_pure
def pV:=@PySem.wpAny_seqItems
def lj:=@PySem.wpAny_setField_rec
def pW:=@PySem.wpAny_truthy_bool
section
variable {A B C D E F G:Sort _}{z1 z2 z3 z4 z5 z6 z7 z8:Prop}{y1 y2 y3 y4 y5 y6 y7 y8:A->Prop}{x1 x2 x3 x4 x5 x6 x7:A->B->Prop}{w1 w2 w3 w4 w5 w6:A->B->C->Prop}{v1 v2 v3 v4 v5 v6 v7:A->B->C->D->Prop}{u1 u2 u3 u4 u5 u6 u7 u8:A->B->C->D->E->Prop}{t1:A->B->C->D->E->F->Prop}{s1 s2:A->B->C->D->E->F->G->Prop}{K:Prop}
theorem U1(h:z1/\z2)(k:z1->z2->K):K:=k h.1 h.2
theorem Po(h:z1/\∃a b,x1 a b/\x2 a b)(k:z1->∀a b,x1 a b->x2 a b->K):K:=h.2.elim λa m=>m.elim λb n=>k h.1 a b n.1 n.2
theorem Pp(h:z1/\∃a b c,w1 a b c/\w2 a b c)(k:z1->∀a b c,w1 a b c->w2 a b c->K):K:=h.2.elim λa m=>m.elim λb n=>n.elim λc o=>k h.1 a b c o.1 o.2
theorem U2(h:z1/\z2/\z3)(k:z1->z2->z3->K):K:=k h.1 h.2.1 h.2.2
theorem U3(h:z1/\z2/\z3/\z4)(k:z1->z2->z3->z4->K):K:=k h.1 h.2.1 h.2.2.1 h.2.2.2
theorem U6(h:z1/\z2/\z3/\z4/\z5/\z6/\z7)(k:z1->z2->z3->z4->z5->z6->z7->K):K:=k h.1 h.2.1 h.2.2.1 h.2.2.2.1 h.2.2.2.2.1 h.2.2.2.2.2.1 h.2.2.2.2.2.2
theorem U7(h:z1/\z2/\z3/\z4/\z5/\z6/\z7/\z8)(k:z1->z2->z3->z4->z5->z6->z7->z8->K):K:=k h.1 h.2.1 h.2.2.1 h.2.2.2.1 h.2.2.2.2.1 h.2.2.2.2.2.1 h.2.2.2.2.2.2.1 h.2.2.2.2.2.2.2
theorem V1(k:z1->z2->K)(h:z1/\z2):K:=k h.1 h.2
theorem Pu(k:z1->∀a,y1 a->y2 a->y3 a->y4 a->K)(h:z1/\∃a,y1 a/\y2 a/\y3 a/\y4 a):K:=h.2.elim λa m=>k h.1 a m.1 m.2.1 m.2.2.1 m.2.2.2
theorem X1(h:∃a,y1 a)(k:∀a,y1 a->K):K:=h.elim λa m=>k a m
theorem aC(h:∃a,y1 a/\y2 a)(k:∀a,y1 a->y2 a->K):K:=h.elim λa m=>k a m.1 m.2
theorem Pw(h:∃a,y1 a/\∃b,x1 a b)(k:∀a,y1 a->∀b,x1 a b->K):K:=h.elim λa m=>m.2.elim λb n=>k a m.1 b n
theorem ni(h:∃a,y1 a/\∃b,x1 a b/\x2 a b)(k:∀a,y1 a->∀b,x1 a b->x2 a b->K):K:=h.elim λa m=>m.2.elim λb n=>k a m.1 b n.1 n.2
theorem Px(h:∃a,y1 a/\∃b c,w1 a b c/\w2 a b c)(k:∀a,y1 a->∀b c,w1 a b c->w2 a b c->K):K:=h.elim λa m=>m.2.elim λb n=>n.elim λc o=>k a m.1 b c o.1 o.2
theorem c_(h:∃a,y1 a/\y2 a/\y3 a)(k:∀a,y1 a->y2 a->y3 a->K):K:=h.elim λa m=>k a m.1 m.2.1 m.2.2
theorem E_(h:∃a,y1 a/\y2 a/\∃b,x1 a b)(k:∀a,y1 a->y2 a->∀b,x1 a b->K):K:=h.elim λa m=>m.2.2.elim λb n=>k a m.1 m.2.1 b n
theorem Py(h:∃a,y1 a/\y2 a/\∃b,x1 a b/\x2 a b)(k:∀a,y1 a->y2 a->∀b,x1 a b->x2 a b->K):K:=h.elim λa m=>m.2.2.elim λb n=>k a m.1 m.2.1 b n.1 n.2
theorem zQ(h:∃a,y1 a/\y2 a/\y3 a/\y4 a)(k:∀a,y1 a->y2 a->y3 a->y4 a->K):K:=h.elim λa m=>k a m.1 m.2.1 m.2.2.1 m.2.2.2
theorem Fb(h:∃a,y1 a/\y2 a/\y3 a/\y4 a/\y5 a)(k:∀a,y1 a->y2 a->y3 a->y4 a->y5 a->K):K:=h.elim λa m=>k a m.1 m.2.1 m.2.2.1 m.2.2.2.1 m.2.2.2.2
theorem Pz(h:∃a,y1 a/\y2 a/\y3 a/\y4 a/\y5 a/\y6 a/\y7 a/\y8 a)(k:∀a,y1 a->y2 a->y3 a->y4 a->y5 a->y6 a->y7 a->y8 a->K):K:=h.elim λa m=>k a m.1 m.2.1 m.2.2.1 m.2.2.2.1 m.2.2.2.2.1 m.2.2.2.2.2.1 m.2.2.2.2.2.2.1 m.2.2.2.2.2.2.2
theorem X2(h:∃a b,x1 a b)(k:∀a b,x1 a b->K):K:=h.elim λa m=>m.elim λb n=>k a b n
theorem gG(h:∃a b,x1 a b/\x2 a b)(k:∀a b,x1 a b->x2 a b->K):K:=h.elim λa m=>m.elim λb n=>k a b n.1 n.2
theorem d_(h:∃a b,x1 a b/\x2 a b/\x3 a b)(k:∀a b,x1 a b->x2 a b->x3 a b->K):K:=h.elim λa m=>m.elim λb n=>k a b n.1 n.2.1 n.2.2
theorem PA(h:∃a b,x1 a b/\x2 a b/\∃c,w1 a b c)(k:∀a b,x1 a b->x2 a b->∀c,w1 a b c->K):K:=h.elim λa m=>m.elim λb n=>n.2.2.elim λc o=>k a b n.1 n.2.1 c o
theorem eJ(h:∃a b,x1 a b/\x2 a b/\x3 a b/\x4 a b)(k:∀a b,x1 a b->x2 a b->x3 a b->x4 a b->K):K:=h.elim λa m=>m.elim λb n=>k a b n.1 n.2.1 n.2.2.1 n.2.2.2
theorem pX(h:∃a b,x1 a b/\x2 a b/\x3 a b/\x4 a b/\x5 a b)(k:∀a b,x1 a b->x2 a b->x3 a b->x4 a b->x5 a b->K):K:=h.elim λa m=>m.elim λb n=>k a b n.1 n.2.1 n.2.2.1 n.2.2.2.1 n.2.2.2.2
theorem Fc(h:∃a b,x1 a b/\x2 a b/\x3 a b/\x4 a b/\x5 a b/\x6 a b)(k:∀a b,x1 a b->x2 a b->x3 a b->x4 a b->x5 a b->x6 a b->K):K:=h.elim λa m=>m.elim λb n=>k a b n.1 n.2.1 n.2.2.1 n.2.2.2.1 n.2.2.2.2.1 n.2.2.2.2.2
theorem t7(h:∃a b,x1 a b/\x2 a b/\x3 a b/\x4 a b/\x5 a b/\x6 a b/\x7 a b)(k:∀a b,x1 a b->x2 a b->x3 a b->x4 a b->x5 a b->x6 a b->x7 a b->K):K:=h.elim λa m=>m.elim λb n=>k a b n.1 n.2.1 n.2.2.1 n.2.2.2.1 n.2.2.2.2.1 n.2.2.2.2.2.1 n.2.2.2.2.2.2
theorem X3(h:∃a b c,w1 a b c)(k:∀a b c,w1 a b c->K):K:=h.elim λa m=>m.elim λb n=>n.elim λc o=>k a b c o
theorem t8(h:∃a b c,w1 a b c/\w2 a b c)(k:∀a b c,w1 a b c->w2 a b c->K):K:=h.elim λa m=>m.elim λb n=>n.elim λc o=>k a b c o.1 o.2
theorem t9(h:∃a b c,w1 a b c/\w2 a b c/\w3 a b c)(k:∀a b c,w1 a b c->w2 a b c->w3 a b c->K):K:=h.elim λa m=>m.elim λb n=>n.elim λc o=>k a b c o.1 o.2.1 o.2.2
theorem kE(h:∃a b c,w1 a b c/\w2 a b c/\w3 a b c/\w4 a b c)(k:∀a b c,w1 a b c->w2 a b c->w3 a b c->w4 a b c->K):K:=h.elim λa m=>m.elim λb n=>n.elim λc o=>k a b c o.1 o.2.1 o.2.2.1 o.2.2.2
theorem t_(h:∃a b c,w1 a b c/\w2 a b c/\w3 a b c/\w4 a b c/\w5 a b c/\w6 a b c)(k:∀a b c,w1 a b c->w2 a b c->w3 a b c->w4 a b c->w5 a b c->w6 a b c->K):K:=h.elim λa m=>m.elim λb n=>n.elim λc o=>k a b c o.1 o.2.1 o.2.2.1 o.2.2.2.1 o.2.2.2.2.1 o.2.2.2.2.2
theorem X4(h:∃a b,∃c d,v1 a b c d)(k:∀a b,∀c d,v1 a b c d->K):K:=h.elim λa m=>m.elim λb n=>n.elim λc o=>o.elim λd p=>k a b c d p
theorem Fd(h:∃a b,∃c d,v1 a b c d/\v2 a b c d)(k:∀a b,∀c d,v1 a b c d->v2 a b c d->K):K:=h.elim λa m=>m.elim λb n=>n.elim λc o=>o.elim λd p=>k a b c d p.1 p.2
theorem wA(h:∃a b,∃c d,v1 a b c d/\v2 a b c d/\v3 a b c d/\v4 a b c d)(k:∀a b,∀c d,v1 a b c d->v2 a b c d->v3 a b c d->v4 a b c d->K):K:=h.elim λa m=>m.elim λb n=>n.elim λc o=>o.elim λd p=>k a b c d p.1 p.2.1 p.2.2.1 p.2.2.2
theorem Fe(h:∃a b,∃c d,v1 a b c d/\v2 a b c d/\v3 a b c d/\v4 a b c d/\v5 a b c d)(k:∀a b,∀c d,v1 a b c d->v2 a b c d->v3 a b c d->v4 a b c d->v5 a b c d->K):K:=h.elim λa m=>m.elim λb n=>n.elim λc o=>o.elim λd p=>k a b c d p.1 p.2.1 p.2.2.1 p.2.2.2.1 p.2.2.2.2
theorem Ff(h:∃a b,∃c d,v1 a b c d/\v2 a b c d/\v3 a b c d/\v4 a b c d/\v5 a b c d/\v6 a b c d/\v7 a b c d)(k:∀a b,∀c d,v1 a b c d->v2 a b c d->v3 a b c d->v4 a b c d->v5 a b c d->v6 a b c d->v7 a b c d->K):K:=h.elim λa m=>m.elim λb n=>n.elim λc o=>o.elim λd p=>k a b c d p.1 p.2.1 p.2.2.1 p.2.2.2.1 p.2.2.2.2.1 p.2.2.2.2.2.1 p.2.2.2.2.2.2
theorem wB(h:∃a b,∃c d e,u1 a b c d e/\u2 a b c d e)(k:∀a b,∀c d e,u1 a b c d e->u2 a b c d e->K):K:=h.elim λa m=>m.elim λb n=>n.elim λc o=>o.elim λd p=>p.elim λe q=>k a b c d e q.1 q.2
theorem Fg(h:∃a b,∃c d e,u1 a b c d e/\u2 a b c d e/\u3 a b c d e/\u4 a b c d e/\u5 a b c d e/\u6 a b c d e)(k:∀a b,∀c d e,u1 a b c d e->u2 a b c d e->u3 a b c d e->u4 a b c d e->u5 a b c d e->u6 a b c d e->K):K:=h.elim λa m=>m.elim λb n=>n.elim λc o=>o.elim λd p=>p.elim λe q=>k a b c d e q.1 q.2.1 q.2.2.1 q.2.2.2.1 q.2.2.2.2.1 q.2.2.2.2.2
theorem PB(h:∃a b,∃c d e,u1 a b c d e/\u2 a b c d e/\u3 a b c d e/\u4 a b c d e/\u5 a b c d e/\u6 a b c d e/\u7 a b c d e/\u8 a b c d e)(k:∀a b,∀c d e,u1 a b c d e->u2 a b c d e->u3 a b c d e->u4 a b c d e->u5 a b c d e->u6 a b c d e->u7 a b c d e->u8 a b c d e->K):K:=h.elim λa m=>m.elim λb n=>n.elim λc o=>o.elim λd p=>p.elim λe q=>k a b c d e q.1 q.2.1 q.2.2.1 q.2.2.2.1 q.2.2.2.2.1 q.2.2.2.2.2.1 q.2.2.2.2.2.2.1 q.2.2.2.2.2.2.2
theorem X6(h:∃a b,∃c d,∃e f,t1 a b c d e f)(k:∀a b,∀c d,∀e f,t1 a b c d e f->K):K:=h.elim λa m=>m.elim λb n=>n.elim λc o=>o.elim λd p=>p.elim λe q=>q.elim λf r=>k a b c d e f r
theorem Fi(h:∃a b,∃c d,∃e f g,s1 a b c d e f g/\s2 a b c d e f g)(k:∀a b,∀c d,∀e f g,s1 a b c d e f g->s2 a b c d e f g->K):K:=h.elim λa m=>m.elim λb n=>n.elim λc o=>o.elim λd p=>p.elim λe q=>q.elim λf r=>r.elim λg s=>k a b c d e f g s.1 s.2
theorem Y1(k:∀a,y1 a->K)(h:∃a,y1 a):K:=h.elim λa m=>k a m
theorem rj(k:∀a,y1 a->y2 a->K)(h:∃a,y1 a/\y2 a):K:=h.elim λa m=>k a m.1 m.2
theorem PC(k:∀a,y1 a->y2 a->y3 a->K)(h:∃a,y1 a/\y2 a/\y3 a):K:=h.elim λa m=>k a m.1 m.2.1 m.2.2
theorem Fj(k:∀a b,x1 a b->x2 a b->K)(h:∃a b,x1 a b/\x2 a b):K:=h.elim λa m=>m.elim λb n=>k a b n.1 n.2
theorem Fl(k:∀a b,x1 a b->x2 a b->x3 a b->K)(h:∃a b,x1 a b/\x2 a b/\x3 a b):K:=h.elim λa m=>m.elim λb n=>k a b n.1 n.2.1 n.2.2
theorem Fo(k:∀a b,x1 a b->x2 a b->x3 a b->x4 a b->K)(h:∃a b,x1 a b/\x2 a b/\x3 a b/\x4 a b):K:=h.elim λa m=>m.elim λb n=>k a b n.1 n.2.1 n.2.2.1 n.2.2.2
theorem PD(k:∀a b c,w1 a b c->w2 a b c->w3 a b c->K)(h:∃a b c,w1 a b c/\w2 a b c/\w3 a b c):K:=h.elim λa m=>m.elim λb n=>n.elim λc o=>k a b c o.1 o.2.1 o.2.2
theorem PE(k:∀a b,∀c d,v1 a b c d->v2 a b c d->v3 a b c d->v4 a b c d->K)(h:∃a b,∃c d,v1 a b c d/\v2 a b c d/\v3 a b c d/\v4 a b c d):K:=h.elim λa m=>m.elim λb n=>n.elim λc o=>o.elim λd p=>k a b c d p.1 p.2.1 p.2.2.1 p.2.2.2
theorem aA(a:A)(h1:y1 a)(h2:y2 a):∃a,y1 a/\y2 a:=⟨a,h1,h2⟩
theorem zR(a:A)(h1:y1 a)(b:B)(h2:x1 a b):∃a,y1 a/\∃b,x1 a b:=⟨a,h1,b,h2⟩
theorem PF(a:A)(h1:y1 a)(b:B)(h2:x1 a b)(h3:x2 a b):∃a,y1 a/\∃b,x1 a b/\x2 a b:=⟨a,h1,b,h2,h3⟩
theorem lX(a:A)(h1:y1 a)(b:B)(h2:x1 a b)(h3:x2 a b)(h4:x3 a b):∃a,y1 a/\∃b,x1 a b/\x2 a b/\x3 a b:=⟨a,h1,b,h2,h3,h4⟩
theorem PG(a:A)(h1:y1 a)(b:B)(h2:x1 a b)(h3:x2 a b)(h4:x3 a b)(h5:x4 a b)(h6:x5 a b):∃a,y1 a/\∃b,x1 a b/\x2 a b/\x3 a b/\x4 a b/\x5 a b:=⟨a,h1,b,h2,h3,h4,h5,h6⟩
theorem Fp(a:A)(h1:y1 a)(b:B)(c:C)(h2:w1 a b c)(h3:w2 a b c)(h4:w3 a b c):∃a,y1 a/\∃b c,w1 a b c/\w2 a b c/\w3 a b c:=⟨a,h1,b,c,h2,h3,h4⟩
theorem Fq(a:A)(h1:y1 a)(b:B)(c:C)(h2:w1 a b c)(h3:w2 a b c)(h4:w3 a b c)(h5:w4 a b c):∃a,y1 a/\∃b c,w1 a b c/\w2 a b c/\w3 a b c/\w4 a b c:=⟨a,h1,b,c,h2,h3,h4,h5⟩
theorem cM(a:A)(h1:y1 a)(h2:y2 a)(h3:y3 a):∃a,y1 a/\y2 a/\y3 a:=⟨a,h1,h2,h3⟩
theorem ua(a:A)(h1:y1 a)(h2:y2 a)(b:B)(h3:x1 a b):∃a,y1 a/\y2 a/\∃b,x1 a b:=⟨a,h1,h2,b,h3⟩
theorem PJ(a:A)(h1:y1 a)(h2:y2 a)(b:B)(h3:x1 a b)(h4:x2 a b):∃a,y1 a/\y2 a/\∃b,x1 a b/\x2 a b:=⟨a,h1,h2,b,h3,h4⟩
theorem iq(a:A)(h1:y1 a)(h2:y2 a)(h3:y3 a)(h4:y4 a):∃a,y1 a/\y2 a/\y3 a/\y4 a:=⟨a,h1,h2,h3,h4⟩
theorem wF(a:A)(h1:y1 a)(h2:y2 a)(h3:y3 a)(h4:y4 a)(h5:y5 a):∃a,y1 a/\y2 a/\y3 a/\y4 a/\y5 a:=⟨a,h1,h2,h3,h4,h5⟩
theorem PK(a:A)(h1:y1 a)(h2:y2 a)(h3:y3 a)(h4:y4 a)(h5:y5 a)(h6:y6 a)(h7:y7 a)(h8:y8 a):∃a,y1 a/\y2 a/\y3 a/\y4 a/\y5 a/\y6 a/\y7 a/\y8 a:=⟨a,h1,h2,h3,h4,h5,h6,h7,h8⟩
theorem I2(a:A)(b:B)(h1:x1 a b):∃a b,x1 a b:=⟨a,b,h1⟩
theorem gR(a:A)(b:B)(h1:x1 a b)(h2:x2 a b):∃a b,x1 a b/\x2 a b:=⟨a,b,h1,h2⟩
theorem fg(a:A)(b:B)(h1:x1 a b)(h2:x2 a b)(h3:x3 a b):∃a b,x1 a b/\x2 a b/\x3 a b:=⟨a,b,h1,h2,h3⟩
theorem fy(a:A)(b:B)(h1:x1 a b)(h2:x2 a b)(h3:x3 a b)(h4:x4 a b):∃a b,x1 a b/\x2 a b/\x3 a b/\x4 a b:=⟨a,b,h1,h2,h3,h4⟩
theorem uc(a:A)(b:B)(h1:x1 a b)(h2:x2 a b)(h3:x3 a b)(h4:x4 a b)(h5:x5 a b):∃a b,x1 a b/\x2 a b/\x3 a b/\x4 a b/\x5 a b:=⟨a,b,h1,h2,h3,h4,h5⟩
theorem Ft(a:A)(b:B)(h1:x1 a b)(h2:x2 a b)(h3:x3 a b)(h4:x4 a b)(h5:x5 a b)(h6:x6 a b):∃a b,x1 a b/\x2 a b/\x3 a b/\x4 a b/\x5 a b/\x6 a b:=⟨a,b,h1,h2,h3,h4,h5,h6⟩
theorem PL(a:A)(b:B)(h1:x1 a b)(h2:x2 a b)(h3:x3 a b)(h4:x4 a b)(h5:x5 a b)(h6:x6 a b)(h7:x7 a b):∃a b,x1 a b/\x2 a b/\x3 a b/\x4 a b/\x5 a b/\x6 a b/\x7 a b:=⟨a,b,h1,h2,h3,h4,h5,h6,h7⟩
theorem I3(a:A)(b:B)(c:C)(h1:w1 a b c):∃a b c,w1 a b c:=⟨a,b,c,h1⟩
theorem wG(a:A)(b:B)(c:C)(h1:w1 a b c)(h2:w2 a b c):∃a b c,w1 a b c/\w2 a b c:=⟨a,b,c,h1,h2⟩
theorem zS(a:A)(b:B)(c:C)(h1:w1 a b c)(h2:w2 a b c)(h3:w3 a b c):∃a b c,w1 a b c/\w2 a b c/\w3 a b c:=⟨a,b,c,h1,h2,h3⟩
theorem PM(a:A)(b:B)(c:C)(h1:w1 a b c)(h2:w2 a b c)(d:D)(h3:v1 a b c d)(h4:v2 a b c d):∃a b c,w1 a b c/\w2 a b c/\∃d,v1 a b c d/\v2 a b c d:=⟨a,b,c,h1,h2,d,h3,h4⟩
theorem lY(a:A)(b:B)(c:C)(h1:w1 a b c)(h2:w2 a b c)(h3:w3 a b c)(h4:w4 a b c):∃a b c,w1 a b c/\w2 a b c/\w3 a b c/\w4 a b c:=⟨a,b,c,h1,h2,h3,h4⟩
theorem PN(a:A)(b:B)(c:C)(h1:w1 a b c)(h2:w2 a b c)(h3:w3 a b c)(h4:w4 a b c)(h5:w5 a b c)(h6:w6 a b c):∃a b c,w1 a b c/\w2 a b c/\w3 a b c/\w4 a b c/\w5 a b c/\w6 a b c:=⟨a,b,c,h1,h2,h3,h4,h5,h6⟩
theorem Fv(a:A)(b:B)(c:C)(d:D)(h1:v1 a b c d)(h2:v2 a b c d):∃a b,∃c d,v1 a b c d/\v2 a b c d:=⟨a,b,c,d,h1,h2⟩
theorem pY(a:A)(b:B)(c:C)(d:D)(h1:v1 a b c d)(h2:v2 a b c d)(h3:v3 a b c d)(h4:v4 a b c d):∃a b,∃c d,v1 a b c d/\v2 a b c d/\v3 a b c d/\v4 a b c d:=⟨a,b,c,d,h1,h2,h3,h4⟩
theorem pZ(a:A)(b:B)(c:C)(d:D)(h1:v1 a b c d)(h2:v2 a b c d)(h3:v3 a b c d)(h4:v4 a b c d)(h5:v5 a b c d):∃a b,∃c d,v1 a b c d/\v2 a b c d/\v3 a b c d/\v4 a b c d/\v5 a b c d:=⟨a,b,c,d,h1,h2,h3,h4,h5⟩
theorem wH(a:A)(b:B)(c:C)(d:D)(h1:v1 a b c d)(h2:v2 a b c d)(h3:v3 a b c d)(h4:v4 a b c d)(h5:v5 a b c d)(h6:v6 a b c d)(h7:v7 a b c d):∃a b,∃c d,v1 a b c d/\v2 a b c d/\v3 a b c d/\v4 a b c d/\v5 a b c d/\v6 a b c d/\v7 a b c d:=⟨a,b,c,d,h1,h2,h3,h4,h5,h6,h7⟩
theorem wI(a:A)(b:B)(c:C)(d:D)(e:E)(h1:u1 a b c d e)(h2:u2 a b c d e):∃a b,∃c d e,u1 a b c d e/\u2 a b c d e:=⟨a,b,c,d,e,h1,h2⟩
theorem Fw(a:A)(b:B)(c:C)(d:D)(e:E)(h1:u1 a b c d e)(h2:u2 a b c d e)(h3:u3 a b c d e)(h4:u4 a b c d e)(h5:u5 a b c d e)(h6:u6 a b c d e):∃a b,∃c d e,u1 a b c d e/\u2 a b c d e/\u3 a b c d e/\u4 a b c d e/\u5 a b c d e/\u6 a b c d e:=⟨a,b,c,d,e,h1,h2,h3,h4,h5,h6⟩
theorem PO(a:A)(b:B)(c:C)(d:D)(e:E)(h1:u1 a b c d e)(h2:u2 a b c d e)(h3:u3 a b c d e)(h4:u4 a b c d e)(h5:u5 a b c d e)(h6:u6 a b c d e)(h7:u7 a b c d e)(h8:u8 a b c d e):∃a b,∃c d e,u1 a b c d e/\u2 a b c d e/\u3 a b c d e/\u4 a b c d e/\u5 a b c d e/\u6 a b c d e/\u7 a b c d e/\u8 a b c d e:=⟨a,b,c,d,e,h1,h2,h3,h4,h5,h6,h7,h8⟩
theorem I6(a:A)(b:B)(c:C)(d:D)(e:E)(f:F)(h1:t1 a b c d e f):∃a b,∃c d,∃e f,t1 a b c d e f:=⟨a,b,c,d,e,f,h1⟩
theorem Fx(a:A)(b:B)(c:C)(d:D)(e:E)(f:F)(g:G)(h1:s1 a b c d e f g)(h2:s2 a b c d e f g):∃a b,∃c d,∃e f g,s1 a b c d e f g/\s2 a b c d e f g:=⟨a,b,c,d,e,f,g,h1,h2⟩
theorem Fy(h1:z1)(a:A)(h2:y1 a)(h3:y2 a):z1/\∃a,y1 a/\y2 a:=⟨h1,a,h2,h3⟩
theorem Fz(h1:z1)(a:A)(h2:y1 a)(h3:y2 a)(h4:y3 a):z1/\∃a,y1 a/\y2 a/\y3 a:=⟨h1,a,h2,h3,h4⟩
theorem FA(h1:z1)(a:A)(b:B)(h2:x1 a b)(h3:x2 a b):z1/\∃a b,x1 a b/\x2 a b:=⟨h1,a,b,h2,h3⟩
theorem FD(h1:z1)(a:A)(b:B)(h2:x1 a b)(h3:x2 a b)(h4:x3 a b)(h5:x4 a b):z1/\∃a b,x1 a b/\x2 a b/\x3 a b/\x4 a b:=⟨h1,a,b,h2,h3,h4,h5⟩
theorem FE(h1:z1)(a:A)(b:B)(c:C)(h2:w1 a b c)(h3:w2 a b c):z1/\∃a b c,w1 a b c/\w2 a b c:=⟨h1,a,b,c,h2,h3⟩
theorem FF(h1:z1)(a:A)(b:B)(c:C)(h2:w1 a b c)(h3:w2 a b c)(h4:w3 a b c)(h5:w4 a b c)(h6:w5 a b c)(h7:w6 a b c):z1/\∃a b c,w1 a b c/\w2 a b c/\w3 a b c/\w4 a b c/\w5 a b c/\w6 a b c:=⟨h1,a,b,c,h2,h3,h4,h5,h6,h7⟩
end
theorem nN{α:Type _}{x:α}{K:Prop}(h:none=some x):K:=by injection h
theorem sN{α:Type _}{x:α}{K:Prop}(h:some x=none):K:=by injection h
theorem nB{K:Prop}(h:false=true):K:=Bool.noConfusion h
theorem tB{K:Prop}(h:true=false):K:=Bool.noConfusion h
inductive Ln|n (k:Nat)|v (k:Nat)|a (x y:Ln)|m (k:Nat) (x:Ln)|s (x y:Ln)|g (x:Ln)
noncomputable def nj{α:Type}(z:α):List α->Nat->α
 |[],_=>z
 |x::_,0=>x
 |_::l,i+1=>nj z l i
def dN(c:aG):Ln->Nat
 |.n k=>k
 |.v i=>nj 0 c i
 |.a x y=>dN c x+dN c y
 |.m k x=>k*dN c x
 |_=>0
def dI(c:bk):Ln->Int
 |.n k=>(k:Int)
 |.v i=>nj 0 c i
 |.a x y=>dI c x+dI c y
 |.m k x=>(k:Int)*dI c x
 |.s x y=>dI c x-dI c y
 |.g x=>-dI c x
noncomputable def i7{α:Type}[Add α]:List α->List α->List α
 |[],q=>q
 |a::p,[]=>a::p
 |a::p,b::q=>(a+b)::i7 p q
noncomputable def nk{α:Type}(z u:α):Nat->List α
 |0=>[u]
 |i+1=>z::nk z u i
def oN:Ln->aG
 |.n k=>[k]
 |.v i=>0::nk 0 1 i
 |.a x y=>i7 (oN x)<|oN y
 |.m k x=>(oN x).map (k*·)
 |_=>[]
def oI:Ln->bk
 |.n k=>[(k:Int)]
 |.v i=>0::nk 0 1 i
 |.a x y=>i7 (oI x)<|oI y
 |.m k x=>(oI x).map ((k:Int)*·)
 |.s x y=>i7 (oI x) ((oI y).map (-1*·))
 |.g x=>(oI x).map (-1*·)
noncomputable def tN:aG->aG->Nat
 |a::p,x::c=>a*x+tN p c
 |_,_=>0
noncomputable def tI:bk->bk->Int
 |a::p,x::c=>a*x+tI p c
 |_,_=>0
theorem wJ:∀(p q c:aG),tN (i7 p q) c=tN p c+tN q c
 |[],q,c=>(Nat.zero_add _).symm
 |a::p,[],c=>rfl
 |a::p,b::q,[]=>rfl
 |a::p,b::q,x::c=>by show(a+b)*x+tN (i7 p q) c=(a*x+tN p c)+(b*x+tN q c);rw[wJ p q c,Nat.add_mul];omega
theorem ud:∀(p q c:bk),tI (i7 p q) c=tI p c+tI q c
 |[],q,c=>(Int.zero_add _).symm
 |a::p,[],c=>(Int.add_zero _).symm
 |a::p,b::q,[]=>rfl
 |a::p,b::q,x::c=>by show(a+b)*x+tI (i7 p q) c=(a*x+tI p c)+(b*x+tI q c);rw[ud p q c,Int.add_mul];omega
theorem wK(k:Nat):∀(p c:aG),tN (p.map (k*·)) c=k*tN p c
 |[],c=>rfl
 |a::p,[]=>rfl
 |a::p,x::c=>by show k*a*x+tN (p.map (k*·)) c=k*(a*x+tN p c);rw[wK k p c,Nat.mul_add,Nat.mul_assoc]
theorem rm(k:Int):∀(p c:bk),tI (p.map (k*·)) c=k*tI p c
 |[],c=>(Int.mul_zero _).symm
 |a::p,[]=>(Int.mul_zero _).symm
 |a::p,x::c=>by show k*a*x+tI (p.map (k*·)) c=k*(a*x+tI p c);rw[rm k p c,Int.mul_add,Int.mul_assoc]
theorem FG:∀(i:Nat)(c:aG),tN (nk 0 1 i) c=nj 0 c i
 |0,[]=>rfl
 |i+1,[]=>rfl
 |0,x::c=>by show 1*x+0=x;omega
 |i+1,x::c=>by show 0*x+tN (nk 0 1 i) c=nj 0 c i;rw[FG i c];omega
theorem FH:∀(i:Nat)(c:bk),tI (nk 0 1 i) c=nj 0 c i
 |0,[]=>rfl
 |i+1,[]=>rfl
 |0,x::c=>by show 1*x+0=x;omega
 |i+1,x::c=>by show 0*x+tI (nk 0 1 i) c=nj 0 c i;rw[FH i c];omega
theorem p5(c:aG):∀x,tN (oN x) (1::c)=dN c x
 |.n k=>by show k*1+0=k;omega
 |.v i=>by show 0*1+tN (nk 0 1 i) c=nj 0 c i;rw[FG];omega
 |.a x y=>by show tN (i7 _ _) _=dN c x+dN c y;rw[wJ,p5 c x,p5 c y]
 |.m k x=>by show tN (List.map _ _) _=k*dN c x;rw[wK,p5 c x]
 |.s x y=>rfl
 |.g x=>rfl
theorem lZ(c:bk):∀x,tI (oI x) (1::c)=dI c x
 |.n k=>by show(k:Int)*1+0=k;omega
 |.v i=>by show 0*1+tI (nk 0 1 i) c=nj 0 c i;rw[FH];omega
 |.a x y=>by show tI (i7 _ _) _=dI c x+dI c y;rw[ud,lZ c x,lZ c y]
 |.m k x=>by show tI (List.map _ _) _=(k:Int)*dI c x;rw[rm,lZ c x]
 |.s x y=>by show tI (i7 _ _) _=dI c x-dI c y;rw[ud,rm,lZ c x,lZ c y];omega
 |.g x=>by show tI (List.map _ _) _=-dI c x;rw[rm,lZ c x];omega
noncomputable def wL:aG->aG->Bool
 |[],_=>true
 |a::p,[]=>Nat.beq a 0&&wL p []
 |a::p,b::q=>Nat.ble a b&&wL p q
noncomputable def zI:bk->Bool
 |[]=>true
 |b::q=>decide (b=0)&&zI q
def wM:bk->bk->Bool
 |[],q=>zI q
 |a::p,[]=>decide (a=0)&&wM p []
 |a::p,b::q=>decide (a=b)&&wM p q
theorem zT:∀(p q c:aG),wL p q=true->tN p c<=tN q c
 |[],q,c,h=>iF _
 |a::p,[],[],h=>bY _
 |a::p,[],x::c,h=>by obtain⟨h1,h2⟩:=(cy _ _).mp h;have e:a=0:=b_ h1;have:=zT p [] c h2;show a*x+tN p c<=0;rw[e];have z:tN ([]:aG) c=0:=rfl;omega
 |a::p,b::q,[],h=>bY _
 |a::p,b::q,x::c,h=>by obtain⟨h1,h2⟩:=(cy _ _).mp h;exact Nat.add_le_add (Nat.mul_le_mul_right x<|Nat.le_of_ble_eq_true h1)<|zT p q c h2
theorem FI:∀(q c:bk),zI q=true->tI q c=0
 |[],c,h=>rfl
 |b::q,[],h=>rfl
 |b::q,x::c,h=>by obtain⟨h1,h2⟩:=(cy _ _).mp h;show b*x+tI q c=0;rw[cG h1,FI q c h2,Int.zero_mul];rfl
theorem zU:∀(p q c:bk),wM p q=true->tI p c=tI q c
 |[],q,c,h=>(FI q c h).symm
 |a::p,[],[],h=>rfl
 |a::p,[],x::c,h=>by obtain⟨h1,h2⟩:=(cy _ _).mp h;have e:=zU p [] c h2;show a*x+tI p c=0;rw[cG h1,e,Int.zero_mul];rfl
 |a::p,b::q,[],h=>rfl
 |a::p,b::q,x::c,h=>by obtain⟨h1,h2⟩:=(cy _ _).mp h;show a*x+tI p c=b*x+tI q c;rw[cG h1,zU p q c h2]
noncomputable def hd0:bk->Int
 |[]=>0
 |a::_=>a
def FJ(p q:bk):Bool:=decide (hd0 p<=hd0 q)&&wM p.tail q.tail
theorem PR{p q c:bk}(h:FJ p q=true):tI p (1::c)<=tI q (1::c):=by
 obtain⟨h1,h2⟩:=(cy _ _).mp h;have e:=zU _ _ c h2;have h1:=cG h1;have f:∀p:bk,tI p (1::c)=hd0 p+tI p.tail c:=λp=>by
  induction p using b9 with
  |nil=>rfl
  |cons a p=>show a*1+tI p c=a+tI p c;omega
 rw[f p,f q,e];omega
def zV(c:aG)(G:Prop):List (Nat×Ln×Ln)->Prop
 |[]=>G
 |r::cs=>dN c r.2.1<=dN c r.2.2->zV c G cs
def zW(c:bk)(G:Prop):List (Nat×Ln×Ln)->Prop
 |[]=>G
 |r::cs=>dI c r.2.1<=dI c r.2.2->zW c G cs
def zX(p q:aG):List (Nat×Ln×Ln)->Bool
 |[]=>wL p q
 |r::cs=>zX (i7 p ((oN r.2.2).map (r.1*·))) (i7 q ((oN r.2.1).map (r.1*·))) cs
def zY(p q:bk):List (Nat×Ln×Ln)->Bool
 |[]=>FJ p q
 |r::cs=>zY (i7 p ((oI r.2.2).map ((r.1:Int)*·))) (i7 q ((oI r.2.1).map ((r.1:Int)*·))) cs
theorem FN(c:aG){l u:Nat}:∀(cs:List<|Nat×Ln×Ln)(p q:aG)(X Y:Nat),X<=Y->tN p (1::c)=l+Y->tN q (1::c)=u+X->zX p q cs=true->zV c (l<=u) cs
 |[],p,q,X,Y,h,e1,e2,k=>by have:=zT p q (1::c) k;show l<=u;omega
 |r::cs,p,q,X,Y,h,e1,e2,k=>λg=>by
  refine FN c cs _ _ (X+r.1*dN c r.2.1) (Y+r.1*dN c r.2.2) (Nat.add_le_add h<|Nat.mul_le_mul_left _ g) ?_ ?_ k
  ·rw[wJ,wK,p5,e1,Nat.add_assoc]
  ·rw[wJ,wK,p5,e2,Nat.add_assoc]
theorem FO(c:bk){l u:Int}:∀(cs:List<|Nat×Ln×Ln)(p q:bk)(X Y:Int),X<=Y->tI p (1::c)=l+Y->tI q (1::c)=u+X->zY p q cs=true->zW c (l<=u) cs
 |[],p,q,X,Y,h,e1,e2,k=>by have:=PR (c:=c) k;show l<=u;omega
 |r::cs,p,q,X,Y,h,e1,e2,k=>λg=>by
  refine FO c cs _ _ (X+(r.1:Int)*dI c r.2.1) (Y+(r.1:Int)*dI c r.2.2) (Int.add_le_add h<|Int.mul_le_mul_of_nonneg_left g<|iY _) ?_ ?_ k
  ·rw[ud,rm,lZ,e1,Int.add_assoc]
  ·rw[ud,rm,lZ,e2,Int.add_assoc]
theorem lN(c:aG)(L R:Ln)(cs:List<|Nat×Ln×Ln)(h:zX (oN L) (oN R) cs=true):zV c (dN c L<=dN c R) cs:=
 FN c cs _ _ 0 0 (bY _) (p5 c L) (p5 c R) h
theorem lI(c:bk)(L R:Ln)(cs:List<|Nat×Ln×Ln)(h:zY (oI L) (oI R) cs=true):zW c (dI c L<=dI c R) cs:=
 FO c cs _ _ 0 0 (k_ _) ((lZ c L).trans (Int.add_zero _).symm) ((lZ c R).trans (Int.add_zero _).symm) h
theorem fB(a b:Nat):a<=a-b+b:=by omega
theorem ue{a b:Nat}(h:b<=a):a-b+b<=a:=by omega
theorem FP{x:Int}(h:0<=x):(x.toNat:Int)<=x:=by omega
theorem jO{a b c:Nat}(h:a<=c+b):a-b<=c:=by omega
theorem wN{a b c:Nat}(h:a<c+b)(k:0<c):a-b<c:=by omega
theorem zZ{a b c:Nat}(h:c<a-b):c+b<a:=by omega
theorem p6{x:Int}{z:Nat}(h:x<=(z:Int)):x.toNat<=z:=by omega
noncomputable abbrev ah:Ln:=.v 0
noncomputable abbrev aj:Ln:=.v 1
noncomputable abbrev ay:Ln:=.v 2
noncomputable abbrev aX:Ln:=.v 3
noncomputable abbrev eg:Ln:=.v 4
noncomputable abbrev kF:Ln:=.v 5
noncomputable abbrev wQ:Ln:=.v 6
noncomputable abbrev dS:Ln:=.n 900
noncomputable abbrev oA:Ln:=.n 200
noncomputable abbrev bD:Ln:=.n 0
noncomputable abbrev kG:Ln:=.n 64
noncomputable abbrev eS:Ln:=.n 2
noncomputable abbrev dZ:Ln:=.n 1048576
noncomputable abbrev rn:Ln:=.n 40
noncomputable abbrev iH:Ln:=.n 1099511627776
noncomputable abbrev i8:Ln:=.g<|.n 1099511627776
noncomputable abbrev bS:Ln:=.n 1
noncomputable abbrev cC:Ln:=.n 1000
noncomputable abbrev gW:Ln:=.n 100
noncomputable abbrev p7:Ln:=.n 9
noncomputable abbrev oB:Ln:=.n 5
noncomputable abbrev iI:Ln:=.g<|.n 1000
noncomputable abbrev cW:Ln:=.n 20
noncomputable abbrev nq:Ln:=.n 90
noncomputable abbrev p8:Ln:=.n 80
noncomputable abbrev aB(x:Ln):Ln:=.a x<|.n 1
noncomputable abbrev cY(x y:Ln):Ln:=.a (.a x y)<|.n 1
noncomputable abbrev cS(x y z:Ln):Ln:=.a (.a x y) z
noncomputable abbrev aaE(w x y z:Ln):Ln:=.a (.a (.a w x) y) z
noncomputable abbrev aq(x y:Ln):Nat×Ln×Ln:=(1,x,y)
noncomputable abbrev aV(x y:Ln):Nat×Ln×Ln:=(1,.a x<|.n 1,y)
section
variable {a b c d e f g h i j:Nat}
theorem A1(h1:a<=b)(h2:c+b<900):c+a<900:=lN [a,b,c] (cY ay ah) dS [aq ah aj,aV (.a ay aj) dS] rfl h1 h2
theorem A2(h1:a<=b)(h2:c+10*b+200<d):c+10*a+200<d:=lN [a,b,c,d] (cY (.a ay<|.m 10 ah) oA) aX [(10,ah,aj),aV (cS ay (.m 10 aj) oA) aX] rfl h1 h2
theorem A5(h1:a+(b+1)<900):a+1+b<900:=lN [a,b] (cY (aB ah) aj) dS [aV (.a ah<|aB aj) dS] rfl h1
theorem A6(h1:a+10*(b+1)+200<c):a+3+10*b+200<c:=lN [a,b,c] (cY (cS ah (.n 3)<|.m 10 aj) oA) ay [aV (cS ah (.m 10<|aB aj) oA) ay] rfl h1
theorem A8(h1:a=b):b<=a:=lN [a,b] aj ah [aq aj ah] rfl<|cj h1.symm
theorem A9(h1:a=b)(h2:c=b):c-a=0:=eI (jO<|lN [a,b,c,c-a] ay (.a bD ah) [aq aj ah,aq ay aj] rfl (cj h1.symm)<|cj h2)<|lN [a,b,c,c-a] bD aX [] rfl
theorem uf(h1:a<b):a+1<=b:=lN [a,b] (aB ah) aj [aV ah aj] rfl h1
theorem PS(h1:a<55296\/57343<a/\a<1114112):a<1114112:=by lia
theorem PT(h1:a+64<b)(h2:c<=2):a+1+min d c<b:=lN [a,b,c,min d c,d] (cY (aB ah) aX) aj [aV (.a ah kG) aj,aq ay eS,aq aX ay] rfl h1 h2<|lV d c
theorem PU(h1:a+10*b+200<c):a+64<c:=lN [a,b,c] (cY ah kG) ay [aV (cS ah (.m 10 aj) oA) ay] rfl h1
theorem PW(h1:a+10*b+200<c):a+1+64<c:=lN [a,b,c] (cY (aB ah) kG) ay [aV (cS ah (.m 10 aj) oA) ay] rfl h1
theorem PX(h1:a<=2^20):a<=16777216:=lN [a] ah (.n 16777216) [aq ah dZ] rfl h1
theorem PY:(0:Nat)<=(300:Nat):=lN [] bD (.n 300) [] rfl
theorem PZ(h1:a<40):a/30+1<=300:=by lia
theorem P0(h1:a<=300):¬a>300:=tW<|lN [a] ah (.n 300) [aq ah<|.n 300] rfl h1
theorem P1:¬(0:Nat)>(64:Nat):=tW<|lN [] bD kG [] rfl
theorem P4(h1:a<40):¬a+1>64:=tW<|lN [a] (aB ah) kG [aV ah rn] rfl h1
theorem FQ(h1:a<=2^20)(h2:a=b):b<=2^20:=lN [a,b] aj dZ [aq ah dZ,aq aj ah] rfl h1<|cj h2.symm
theorem z0:(1:Nat)<(30:Nat):=lN [] (aB bS) (.n 30) [] rfl
theorem P5(h1:a<2^20):a+1<=2^20:=lN [a] (aB ah) dZ [aV ah dZ] rfl h1
theorem P6:(0:Nat)<(30:Nat):=lN [] (aB bD) (.n 30) [] rfl
theorem P7(h1:a=b+1):b<a:=lN [a,b] (aB aj) ah [aV aj ah] rfl<|cj h1.symm
theorem P8(h1:a=b+1):a<=b+1:=lN [a,b] ah (aB aj) [aq ah<|aB aj] rfl<|cj h1
theorem P9(h1:a<=2^20)(h2:a=b+1):min b c<=2^20:=lN [a,b,min b c,c] ay dZ [aq ah dZ,aV aj ah,aq ay aj] rfl h1 (cj h2.symm)<|jN b c
theorem P_:(2:Nat)<(30:Nat):=lN [] (aB eS) (.n 30) [] rfl
theorem Qa(h1:a<=2^20)(h2:a=b):min c b-d<=2^20:=lN [a,b,(min c b)-d,min c b,d,c] ay dZ [aq ah dZ,aq aj ah,aq ay aX,aq aX aj] rfl h1 (cj h2.symm) (nf (min c b) d)<|lV c b
theorem Qc(h1:a<=2^20):(a:Int)<2^63:=lI [(a:Int)] (aB ah) (.n 9223372036854775808) [aq ah dZ] rfl<|bN.mpr h1
theorem Qd(h1:a<64)(h2:b=c)(h3:c=a):b<=2^20:=lN [a,b,c] aj dZ [aV ah kG,aq aj ay,aq ay ah] rfl h1 (cj h2)<|cj h3
theorem FT(h1:a<b+1):a<=b:=lN [a,b] ah aj [aV ah<|aB aj] rfl h1
theorem l8(h1:a<=b):a<=b+1:=lN [a,b] ah (aB aj) [aq ah aj] rfl h1
theorem Qe(h1:a=b+1):0<a:=lN [a,b] (aB bD) ah [aV aj ah] rfl<|cj h1.symm
theorem FU(h1:a<b):a<=b-1:=lN [a,b,b-1] ah ay [aV ah aj,aq aj<|aB ay] rfl h1<|fB b 1
theorem Qf(h1:a=b+1)(h2:c<=a-1):c<a:=by omega
theorem z9(h1:¬a<b):b<=a:=lN [b,a] ah aj [aq ah aj] rfl<|Nat.le_of_not_lt h1
theorem Qg(h1:a<=b+1):a+1<=b+1+1:=lN [a,b] (aB ah) (cY aj bS) [aq ah<|aB aj] rfl h1
theorem Qh(h1:a<=1000)(h2:b<=a+1):b<=16777216+1:=lN [a,b] aj (aB<|.n 16777216) [aq ah cC,aq aj<|aB ah] rfl h1 h2
theorem Qi(h1:a<100)(h2:b=a):b<=1000:=lN [a,b] aj cC [aV ah gW,aq aj ah] rfl h1<|cj h2
theorem Qj(h1:a<2^20)(h2:b<=a):b<=2^20:=lN [a,b] aj dZ [aV ah dZ,aq aj ah] rfl h1 h2
theorem FW(h1:a<=b):a+1<=b+1:=lN [a,b] (aB ah) (aB aj) [aq ah aj] rfl h1
theorem Qk(h1:a<1000):min a b<=2^20:=lN [a,min a b,b] aj dZ [aV ah cC,aq aj ah] rfl h1<|jN a b
theorem z_(h1:a<b):b+1-(a+1)<b+1-a:=wN (lN [a,b,(b+1)-(a+1),(b+1)-a] (cY aj bS) (.a aX<|aB ah) [aV aj<|.a aX ah] rfl<|fB (b+1) a)<|lN [a,b,(b+1)-(a+1),(b+1)-a] (aB bD) aX [aV ah aj,aV aj<|.a aX ah] rfl h1<|fB (b+1) a
theorem FY(h1:a<=b)(h2:¬a<b):a=b:=eI (lN [a,b] ah aj [aq ah aj] rfl h1)<|lN [a,b] aj ah [aq aj ah] rfl<|Nat.le_of_not_lt h2
theorem Ql(h1:a<=2^20)(h2:b<=c)(h3:c<a):b<=2^20:=lN [a,b,c] aj dZ [aq ah dZ,aq aj ay,aV ay ah] rfl h1 h2 h3
theorem Qm(h1:a<=b)(h2:b<=2^20):a<=2^20:=lN [a,b] ah dZ [aq ah aj,aq aj dZ] rfl h1 h2
theorem Qn(h1:a<=b)(h2:b<=a+c)(h3:c<=b):a=b-c+(c-(b-a)):=by lia
theorem Qo(h1:a<=b)(h2:a=b-c+(c-(b-a))):a+(c-(c-(b-a)))=b:=eI (lN [a,b,b-c,c-(b-a),c-(c-(b-a)),c,b-a] (.a ah eg) aj [aq kF<|.a aX wQ,aq (.a eg aX) kF,aq (.a wQ ah) aj] rfl (fB c<|b-a) (ue<|nf c<|b-a)<|ue h1)<|lN [a,b,b-c,c-(b-a),c-(c-(b-a)),c,b-a] aj (.a ah eg) [aq (.a ay aX) ah,aq aj<|.a ay kF,aq kF<|.a eg aX] rfl (cj h2.symm) (fB b c)<|fB c<|c-(b-a)
theorem FZ(h1:a<=b):min a b=a:=by lia
theorem Qp(h1:a+(b+1)<900):a<1000:=lN [a,b] (aB ah) cC [aV (.a ah<|aB aj) dS] rfl h1
theorem Qq(h1:a<=b)(h2:c=a)(h3:d=b):c<=d:=lN [a,b,c,d] ay aX [aq ah aj,aq ay ah,aq aj aX] rfl h1 (cj h2)<|cj h3.symm
theorem Qs(h1:a<=b+c)(h2:d=b)(h3:e=c)(h4:f=a):f<=d+e:=lN [a,b,c,d,e,f] kF (.a aX eg) [aq ah<|.a aj ay,aq aj aX,aq ay eg,aq kF ah] rfl h1 (cj h2.symm) (cj h3.symm)<|cj h4
theorem Qt(h1:a=b)(h2:c=d)(h3:b<=d):a<=c:=lN [a,b,c,d] ah ay [aq ah aj,aq aX ay,aq aj aX] rfl (cj h1) (cj h2.symm) h3
theorem Qu(h1:a<=b)(h2:b<=a+c):a+(c-(c-(b-a)))=b:=by lia
theorem Qv(h1:a+10*(b+1)+200<c)(h2:d<=9):a+d+10*b+200<c:=lN [a,b,c,d] (cY (cS ah aX<|.m 10 aj) oA) ay [aV (cS ah (.m 10<|aB aj) oA) ay,aq aX p7] rfl h1 h2
theorem ug(h1:a<=b):a+(b-a)=b:=eI (lN [a,b,b-a] (.a ah ay) aj [aq (.a ay ah) aj] rfl<|ue h1)<|lN [a,b,b-a] aj (.a ah ay) [aq aj<|.a ay ah] rfl<|fB b a
theorem Qw:¬a=a+1:=gP<|lN [a] (aB ah) (aB ah) [] rfl
theorem Qx:a+4≠a+5:=gP<|lN [a] (cY ah<|.n 4) (.a ah oB) [] rfl
theorem Qy:a+2≠a+5:=gP<|lN [a] (cY ah eS) (.a ah oB) [] rfl
theorem Qz:a+3≠a+5:=gP<|lN [a] (cY ah<|.n 3) (.a ah oB) [] rfl
theorem QA:a≠a+5:=gP<|lN [a] (aB ah) (.a ah oB) [] rfl
theorem QB:a+1≠a+5:=gP<|lN [a] (cY ah bS) (.a ah oB) [] rfl
theorem F0(h1:a<b):a≠b+5:=gP<|lN [a,b] (aB ah) (.a aj oB) [aV ah aj] rfl h1
theorem QC:2*a+2<=2*(a+1):=lN [a] (.a (.m 2 ah) eS) (.m 2<|aB ah) [] rfl
theorem F1:2*a+1<=2*(a+1):=lN [a] (aB<|.m 2 ah) (.m 2<|aB ah) [] rfl
theorem Aa:a+(b+1)=a+1+b:=eI (lN [a,b] (.a ah<|aB aj) (cS ah bS aj) [] rfl)<|lN [a,b] (cS ah bS aj) (.a ah<|aB aj) [] rfl
theorem QD:a+(b+1)+1=a+1+b+1:=eI (lN [a,b] (cY ah<|aB aj) (cY (aB ah) aj) [] rfl)<|lN [a,b] (cY (aB ah) aj) (cY ah<|aB aj) [] rfl
theorem QE(h1:0<a):a=a-1+1:=by lia
theorem F2:0<=(a:Int):=lI [(a:Int)] bD ah [aq bD ah] rfl<|iY _
theorem F3(h1:a<b):(a:Int)<(b:Int):=lI [(a:Int),(b:Int)] (aB ah) aj [aV ah aj] rfl<|bN.mpr<|ju h1
theorem QF:¬(0:Int)<=(-1:Int):=by lia
theorem QG(h1:0<a):0<=-1+(a:Int):=lI [(a:Int)] bD (.a (.g<|.n 1) ah) [aV bD ah] rfl<|bN.mpr<|ju h1
theorem QH:(-1+(a:Int)).toNat=a-1:=eI (p6<|lI [((((-1)+(a:Int)).toNat:Nat):Int),(((a-1):Nat):Int),(a:Int)] (.a (.g<|.n 1) ay) aj [aq ay<|aB aj] rfl<|bN.mpr<|fB a 1)<|jO<|bN.mp<|lI [((((-1)+(a:Int)).toNat:Nat):Int),(((a-1):Nat):Int),(a:Int)] ay (aB ah) [aq (.a (.g<|.n 1) ay) ah] rfl<|qZ _
theorem QI(h1:a<=1000):a<2^20:=lN [a] (aB ah) dZ [aq ah cC] rfl h1
theorem QJ(h1:a+b<=1000):a+b<=2^20:=lN [a,b] (.a ah aj) dZ [aq (.a ah aj) cC] rfl h1
theorem QK(h1:a<=900)(h2:b=c)(h3:c<a):b<=1000:=lN [a,b,c] aj cC [aq ah dS,aq aj ay,aV ay ah] rfl h1 (cj h2) h3
theorem QL(h1:a<=900)(h2:b=c)(h3:c<a):b<=900:=lN [a,b,c] aj dS [aq ah dS,aq aj ay,aV ay ah] rfl h1 (cj h2) h3
theorem rq(h1:a<=900):a<=1000:=lN [a] ah cC [aq ah dS] rfl h1
theorem QM:(-1000:Int)<=(1:Int):=by lia
theorem QN:(1:Int)<=(1000:Int):=lI [] bS cC [] rfl
theorem Ab:-1000<=(a:Int)-1:=lI [(a:Int)] iI (.s ah bS) [aq bD ah] rfl<|iY _
theorem QO(h1:a<=900):(a:Int)-1<=1000:=lI [(a:Int)] (.s ah bS) cC [aq ah dS] rfl<|bN.mpr h1
theorem QS:1+(a:Int)=((a+1:Nat):Int):=kq (lI [(a:Int)] (.a bS ah) (aB ah) [] rfl)<|lI [(a:Int)] (aB ah) (.a bS ah) [] rfl
theorem QT(h1:1+(a:Int)<(b:Int)-1):a+1<b:=bN.mp<|lI [(a:Int),(b:Int)] (cY ah bS) aj [aV (.a bS ah)<|.s aj bS] rfl h1
theorem QU(h1:1+(a:Int)<(b:Int)-1):a<b:=bN.mp<|lI [(a:Int),(b:Int)] (aB ah) aj [aV (.a bS ah)<|.s aj bS] rfl h1
theorem QV(h1:1+(a:Int)<(b:Int)-1):a+2<b:=bN.mp<|lI [(a:Int),(b:Int)] (cY ah eS) aj [aV (.a bS ah)<|.s aj bS] rfl h1
theorem F4:((a+1:Nat):Int)-1=(a:Int):=kq (lI [(a:Int)] (.s (aB ah) bS) ah [] rfl)<|lI [(a:Int)] ah (.s (aB ah) bS) [] rfl
theorem QW:((a+1:Nat):Int)+1=((a+2:Nat):Int):=kq (lI [(a:Int)] (cY ah bS) (.a ah eS) [] rfl)<|lI [(a:Int)] (.a ah eS) (cY ah bS) [] rfl
theorem QX(h1:a=b)(h2:1+(c:Int)<(b:Int)-1):c+1<a:=bN.mp<|lI [(a:Int),(b:Int),(c:Int)] (cY ay bS) ah [aq aj ah,aV (.a bS ay)<|.s aj bS] rfl (bN.mpr<|cj h1.symm) h2
theorem l9:a<a+1:=lN [a] (aB ah) (aB ah) [] rfl
theorem QY(h1:a<=900)(h2:b<=c)(h3:c<a):b<=1000:=lN [a,b,c] aj cC [aq ah dS,aq aj ay,aV ay ah] rfl h1 h2 h3
theorem gX(h1:a<b):a<=b:=lN [a,b] ah aj [aV ah aj] rfl h1
theorem uh(h1:a<=b):a<=b:=lN [a,b] ah aj [aq ah aj] rfl h1
theorem um(h1:a<b):a<b+1:=lN [a,b] (aB ah) (aB aj) [aV ah aj] rfl h1
theorem QZ(h1:a<=900)(h2:b<=a):b<=1000:=lN [a,b] aj cC [aq ah dS,aq aj ah] rfl h1 h2
theorem Q0(h1:a<b)(h2:b<=c):a-1<c:=lN [a,b,c,a-1] (aB aX) ay [aV ah aj,aq aj ay,aq aX ah] rfl h1 h2<|nf a 1
theorem Q2(h1:0<a):(a:Int)-1=((a-1:Nat):Int):=by lia
theorem jx:-1000<=(a:Int):=lI [(a:Int)] iI ah [aq bD ah] rfl<|iY _
theorem Q3(h1:a<=900)(h2:b<c)(h3:c<=a):(b:Int)<=1000:=lI [(a:Int),(b:Int),(c:Int)] aj cC [aq ah dS,aV aj ay,aq ay ah] rfl (bN.mpr h1) (bN.mpr<|ju h2)<|bN.mpr h3
theorem Q4(h1:a<=900)(h2:b<=a):(b:Int)<=1000:=lI [(a:Int),(b:Int)] aj cC [aq ah dS,aq aj ah] rfl (bN.mpr h1)<|bN.mpr h2
theorem F5:(a:Int)+(b:Int)=((a+b:Nat):Int):=kq (lI [(a:Int),(b:Int)] (.a ah aj) (.a ah aj) [] rfl)<|lI [(a:Int),(b:Int)] (.a ah aj) (.a ah aj) [] rfl
theorem Q5(h1:a<=b)(h2:c=b)(h3:(d:Int)+(e:Int)<(a:Int)):d+e<c:=bN.mp<|lI [(a:Int),(b:Int),(c:Int),(d:Int),(e:Int)] (cY aX eg) ay [aq ah aj,aq aj ay,aV (.a aX eg) ah] rfl (bN.mpr h1) (bN.mpr<|cj h2.symm) h3
theorem F6(h1:a<=900)(h2:b=a):b<=900:=lN [a,b] aj dS [aq ah dS,aq aj ah] rfl h1<|cj h2
theorem Q6(h1:a<=900)(h2:b=a)(h3:c=b)(h4:d=c):d<=900:=lN [a,b,c,d] aX dS [aq ah dS,aq aj ah,aq ay aj,aq aX ay] rfl h1 (cj h2) (cj h3)<|cj h4
theorem Q7(h1:a<=900)(h2:b=a)(h3:c=b)(h4:d=c)(h5:e=d):e<=900:=lN [a,b,c,d,e] eg dS [aq ah dS,aq aj ah,aq ay aj,aq aX ay,aq eg aX] rfl h1 (cj h2) (cj h3) (cj h4)<|cj h5
theorem Q8(h1:a<=900)(h2:b=a)(h3:c=b)(h4:d=c)(h5:e=d)(h6:f=e)(h7:g=f):g<=900:=by lia
theorem Q9(h1:a=b)(h2:c=a)(h3:d=c)(h4:e=d)(h5:f=e)(h6:g=f)(h7:i=g):i=b:=by lia
theorem Ac(h1:a<=b)(h2:c<a):c<b:=lN [a,b,c] (aB ay) aj [aq ah aj,aV ay ah] rfl h1 h2
theorem Q_(h1:a<=b)(h2:b<=900)(h3:c<=a):(c:Int)<=1000:=lI [(a:Int),(b:Int),(c:Int)] ay cC [aq ah aj,aq aj dS,aq ay ah] rfl (bN.mpr h1) (bN.mpr h2)<|bN.mpr h3
theorem Ra(h1:a<=b)(h2:b<=900):(a:Int)<=1000:=lI [(a:Int),(b:Int)] ah cC [aq ah aj,aq aj dS] rfl (bN.mpr h1)<|bN.mpr h2
theorem Rb(h1:a<=b)(h2:(c:Int)+(d:Int)<(a:Int)):c+d<b:=bN.mp<|lI [(a:Int),(b:Int),(c:Int),(d:Int)] (cY ay aX) aj [aq ah aj,aV (.a ay aX) ah] rfl (bN.mpr h1) h2
theorem Rc(h1:a<=b)(h2:c=b):a<=c:=lN [a,b,c] ah ay [aq ah aj,aq aj ay] rfl h1<|cj h2.symm
theorem Rd(h1:a=b)(h2:c=a)(h3:d=c):d=b:=eI (lN [a,b,c,d] aX aj [aq ah aj,aq ay ah,aq aX ay] rfl (cj h1) (cj h2)<|cj h3)<|lN [a,b,c,d] aj aX [aq aj ah,aq ah ay,aq ay aX] rfl (cj h1.symm) (cj h2.symm)<|cj h3.symm
theorem F7(h1:a<=900):a<=999:=lN [a] ah (.n 999) [aq ah dS] rfl h1
theorem Rf:1<(a:Int)+1↔0<(a:Int):=by lia
theorem Rg(h1:a<=900):a<1000:=lN [a] (aB ah) cC [aq ah dS] rfl h1
theorem Rh(h1:a+2*b<=2*c/\a+b<=c):a+1+2*b<=2*(c+1)/\a+1+b<=c+1:=⟨lN [a,b,c] (cS ah bS<|.m 2 aj) (.m 2<|aB ay) [aq (.a ah<|.m 2 aj)<|.m 2 ay] rfl h1.1,lN [a,b,c] (cS ah bS aj) (aB ay) [aq (.a ah aj) ay] rfl h1.2⟩
theorem F8(h1:a+2*b<=2*c/\a+b<=c):a+2*b<=2*(c+1)/\a+b<=c+1:=⟨lN [a,b,c] (.a ah<|.m 2 aj) (.m 2<|aB ay) [aq (.a ah<|.m 2 aj)<|.m 2 ay] rfl h1.1,lN [a,b,c] (.a ah aj) (aB ay) [aq (.a ah aj) ay] rfl h1.2⟩
theorem Rj(h1:a+1+2*b<=2*c/\a+1+b<=c):a+2*(b+1)<=2*(c+1)/\a+(b+1)<=c+1:=⟨lN [a,b,c] (.a ah<|.m 2<|aB aj) (.m 2<|aB ay) [aq (cS ah bS<|.m 2 aj)<|.m 2 ay] rfl h1.1,lN [a,b,c] (.a ah<|aB aj) (aB ay) [aq (cS ah bS aj) ay] rfl h1.2⟩
theorem Rk(h1:a<=900):a+1<=1000:=lN [a] (aB ah) cC [aq ah dS] rfl h1
theorem Rm(h1:a<=400)(h2:b<a)(h3:c+d<=b):c<=900:=lN [a,b,c,d] ay dS [aq ah<|.n 400,aV aj ah,aq (.a ay aX) aj] rfl h1 h2 h3
theorem Rn(h1:a<=400)(h2:b<=2*c)(h3:c<a):b<=900:=lN [a,b,c] aj dS [(2,ah,.n 400),aq aj<|.m 2 ay,(2,aB ay,ah)] rfl h1 h2 h3
theorem Ro:0<(a:Int)↔0<a:=by omega
theorem Rp:a<=a+1:=lN [a] ah (aB ah) [] rfl
theorem Rq(h1:a<=b+1)(h2:c<=a+1):c<=b+1+1:=lN [a,b,c] ay (cY aj bS) [aq ah<|aB aj,aq ay<|aB ah] rfl h1 h2
theorem wR(h1:a<=800):a<=1000:=lN [a] ah cC [aq ah<|.n 800] rfl h1
theorem F9(h1:a+1<=800):a<=900:=lN [a] ah dS [aV ah<|.n 800] rfl h1
theorem Rr(h1:a<=800):a<=900:=lN [a] ah dS [aq ah<|.n 800] rfl h1
theorem Ru(h1:a<=40):a<=400:=lN [a] ah (.n 400) [aq ah rn] rfl h1
theorem Rv(h1:a<=40)(h2:b<a)(h3:c<=b+1):c<=800:=lN [a,b,c] ay (.n 800) [aq ah rn,aV aj ah,aq ay<|aB aj] rfl h1 h2 h3
theorem Rw(h1:a<=40)(h2:b<a):b<=800:=lN [a,b] aj (.n 800) [aq ah rn,aV aj ah] rfl h1 h2
theorem jP(h1:a<b+1)(h2:a≥b):a=b:=eI (lN [a,b] ah aj [aV ah<|aB aj] rfl h1)<|lN [a,b] aj ah [aq aj ah] rfl h2
theorem wU(h1:(a:Int)=(b:Int)):a=b:=eI (bN.mp<|lI [(a:Int),(b:Int)] ah aj [aq ah aj] rfl<|iX h1)<|bN.mp<|lI [(a:Int),(b:Int)] aj ah [aq aj ah] rfl<|iX h1.symm
theorem Rx(h1:a<=b/\c<=b):a<=b+1:=lN [a,b,c] ah (aB aj) [aq ah aj] rfl h1.1
theorem Ry(h1:a<=b/\c<=b):c<=b+1:=lN [a,b,c] ay (aB aj) [aq ay aj] rfl h1.2
theorem Rz(h1:a+(b+0)<=c):a+(b+(0+1)+0)<=c+1:=lN [a,b,c] (.a ah<|cS aj (aB bD) bD) (aB ay) [aq (.a ah<|.a aj bD) ay] rfl h1
theorem RA(h1:a+(0+1)<=b):a+(0+1)<=b+1:=lN [a,b] (.a ah<|aB bD) (aB aj) [aq (.a ah<|aB bD) aj] rfl h1
theorem RB(h1:¬a<b)(h2:¬b<a):a=b:=eI (lN [b,a] aj ah [aq aj ah] rfl<|Nat.le_of_not_lt h2)<|lN [b,a] ah aj [aq ah aj] rfl<|Nat.le_of_not_lt h1
theorem RC(h1:a<=b):a+(0+1+0)<=b+1:=lN [a,b] (.a ah<|cS bD bS bD) (aB aj) [aq ah aj] rfl h1
theorem RD(h1:a<=b):a+(0+1)<=b+1:=lN [a,b] (.a ah<|aB bD) (aB aj) [aq ah aj] rfl h1
theorem RE:a+1<=a+1+0:=lN [a] (aB ah) (cS ah bS bD) [] rfl
theorem RG(h1:a<=b)(h2:c<a):c<=b:=lN [a,b,c] ay aj [aq ah aj,aV ay ah] rfl h1 h2
theorem RH:a<a+1+b:=lN [a,b] (aB ah) (cS ah bS aj) [] rfl
theorem RI(h1:a<=b):c+1+a<=c+1+b:=lN [a,b,c] (cS ay bS ah) (cS ay bS aj) [aq ah aj] rfl h1
theorem RJ(h1:a<b)(h2:b<a+1+c):b-a-1<c:=wN (wN (lN [a,b,c,(b-a)-1,b-a] (aB aj) (cS ay bS ah) [aV aj<|cS ah bS ay] rfl h2)<|lN [a,b,c,(b-a)-1,b-a] (aB bD) (aB ay) [] rfl)<|lN [a,b,c,(b-a)-1,b-a] (aB bD) ay [aV ah aj,aV aj<|cS ah bS ay] rfl h1 h2
theorem wV(h1:a<b):a+1+(b-a-1)=b:=by omega
theorem RK(h1:a<=b+1+c):a<=b+1+(c+1):=lN [a,b,c] ah (cS aj bS<|aB ay) [aq ah<|cS aj bS ay] rfl h1
theorem RL:a<a+1+(b+1):=lN [a,b] (aB ah) (cS ah bS<|aB aj) [] rfl
theorem RM:a+1+(b+1)<=a+1+(b+1):=lN [a,b] (cS ah bS<|aB aj) (cS ah bS<|aB aj) [] rfl
theorem RN(h1:a<b+1+(c+1)):a-b-1<=c:=jO<|jO<|lN [a,b,c,(a-b)-1,a-b] ah (cS ay bS aj) [aV ah<|cS aj bS<|aB ay] rfl h1
theorem RO(h1:a<b)(h2:a≥c):c<b:=lN [a,b,c] (aB ay) aj [aV ah aj,aq ay ah] rfl h1 h2
theorem F_(h1:a<=b)(h2:a≥b):a=b:=eI (lN [a,b] ah aj [aq ah aj] rfl h1)<|lN [a,b] aj ah [aq aj ah] rfl h2
theorem RP(h1:a<=100)(h2:b<a)(h3:c<=b/\d<=b):d<=1000:=lN [a,b,c,d] aX cC [aq ah gW,aV aj ah,aq aX aj] rfl h1 h2 h3.2
theorem RQ(h1:a<=100)(h2:b<a)(h3:c+(d+0)<=b/\e<=b):d<=900:=lN [a,b,c,d,e] aX dS [aq ah gW,aV aj ah,aq (.a ay<|.a aX bD) aj] rfl h1 h2 h3.1
theorem wW:a<=a+b:=lN [a,b] ah (.a ah aj) [] rfl
theorem RS(h1:a<=b):a<=c+b:=lN [a,b,c] ah (.a ay aj) [aq ah aj] rfl h1
theorem Ga(h1:a<=20)(h2:b<=a)(h3:c<b):c<=1000:=lN [a,b,c] ay cC [aq ah cW,aq aj ah,aV ay aj] rfl h1 h2 h3
theorem RT(h1:a<=20):a<=900:=lN [a] ah dS [aq ah cW] rfl h1
theorem RU(h1:a<=20):a<=20*(b+1):=lN [a,b] ah (.m 20<|aB aj) [aq ah cW] rfl h1
theorem RV(h1:a<=20):a-b<1000:=lN [a,a-b,b] (aB aj) cC [aq ah cW,aq aj ah] rfl h1<|nf a b
theorem RW(h1:a<b)(h2:c=b-a):0<c:=lN [a,b,c,b-a] (aB bD) ay [aV ah aj,aq aX ay,aq aj<|.a aX ah] rfl h1 (cj h2.symm)<|fB b a
theorem RX(h1:a<=20)(h2:b<=a)(h3:c<a)(h4:d<=c)(h5:e<d)(h6:f<=20*(e+1)):f+b<=1000:=by lia
theorem RY(h1:a=b-c)(h2:d<b)(h3:e<=d)(h4:c<e):b-d<a:=wN (lN [a,b-c,d,b,e,c,b-d] (aB aX) (.a ah ay) [aq aj ah,aq eg ay,aV kF eg,aq aX<|.a aj kF] rfl (cj h1.symm) h3 h4<|fB b c)<|lN [a,b-c,d,b,e,c,b-d] (aB bD) ah [aq aj ah,aV ay aX,aq eg ay,aV kF eg,aq aX<|.a aj kF] rfl (cj h1.symm) h2 h3 h4<|fB b c
theorem RZ(h1:a<=20)(h2:b<=a)(h3:c<a)(h4:d<=c)(h5:e<d)(h6:f<=20*(e+1)):f+b<=900:=by lia
theorem R0(h1:a<=20)(h2:b<=a)(h3:c<=d)(h4:e<c)(h5:f<=20*(e+1)):f+b<=20*(d+1):=by lia
theorem R1(h1:a<=20)(h2:b<=a)(h3:c<=d)(h4:d<b):c<=1000:=lN [a,b,c,d] ay cC [aq ah cW,aq aj ah,aq ay aX,aV aX aj] rfl h1 h2 h3 h4
theorem R3(h1:a<=b)(h2:c<=a):c<=b:=lN [a,b,c] ay aj [aq ah aj,aq ay ah] rfl h1 h2
theorem uo(h1:a<=20):a<=100:=lN [a] ah gW [aq ah cW] rfl h1
theorem Ad(h1:a<=20):a<=400:=lN [a] ah (.n 400) [aq ah cW] rfl h1
theorem R5(h1:0<a):0<(a:Int):=lI [(a:Int)] (aB bD) ah [aV bD ah] rfl<|bN.mpr<|ju h1
theorem R6(h1:a<=400):a<1000:=lN [a] (aB ah) cC [aq ah<|.n 400] rfl h1
theorem R7(h1:(a:Int)<(b:Int)):a<b:=bN.mp<|lI [(a:Int),(b:Int)] (aB ah) aj [aV ah aj] rfl h1
theorem R8(h1:a=b-c)(h2:c<b):a=a-1+1:=by lia
theorem R9(h1:a=b-c)(h2:c<=d):b-(d+1)<=a-1:=jO<|lN [a,b-c,c,d,b-(d+1),a-1,b] wQ (.a kF<|aB aX) [aq aj ah,aq ay aX,aq wQ<|.a aj ay,aq ah<|aB kF] rfl (cj h1.symm) h2 (fB b c)<|fB a 1
theorem R_(h1:a<=1000):-2^40<(a:Int)/\(a:Int)<2^40:=⟨lI [(a:Int)] (aB i8) ah [aq bD ah] rfl<|iY _,lI [(a:Int)] (aB ah) iH [aq ah cC] rfl<|bN.mpr h1⟩
theorem Sa:(0:Nat)<=(1000:Nat):=lN [] bD cC [] rfl
theorem Sb(h1:a<=20):a<=40:=lN [a] ah rn [aq ah cW] rfl h1
theorem Gb(h1:a=0):a=0:=eI (lN [a] ah bD [aq ah bD] rfl<|cj h1)<|lN [a] bD ah [] rfl
theorem Se(h1:a<=20)(h2:b=a):b<=1000:=lN [a,b] aj cC [aq ah cW,aq aj ah] rfl h1<|cj h2
theorem Sf(h1:a<=20):a<=20:=lN [a] ah cW [aq ah cW] rfl h1
theorem Sg(h1:a=b)(h2:c≥a):b<=c:=lN [a,b,c] aj ay [aq aj ah,aq ah ay] rfl (cj h1.symm) h2
theorem Sh(h1:a-1-b<a):a-1-b<a:=lN [(a-1)-b,a,a-1,b] (aB ah) aj [aV ah aj] rfl h1
theorem Sj:a-(b+1)<=a-1-b:=jO<|lN [a-(b+1),(a-1)-b,a,b,a-1] ay (.a aj<|aB aX) [aq eg<|.a aj aX,aq ay<|aB eg] rfl (fB (a-1) b)<|fB a 1
theorem Sk(h1:a-b<=c):a-(b+1)<=c:=jO<|lN [a-b,c,a-(b+1),a,b] aX (.a aj<|aB eg) [aq ah aj,aq aX<|.a ah eg] rfl h1<|fB a b
theorem Sl(h1:¬a-1-b=c)(h2:¬a-b<=c):¬a-(b+1)<=c:=by lia
theorem Ge(h1:a<b)(h2:b<=c):a<c:=lN [a,b,c] (aB ah) ay [aV ah aj,aq aj ay] rfl h1 h2
theorem Sm(h1:a<b):b-a=b-a-1+1:=by lia
theorem So(h1:a-b=c+1):a-(c+1)=b:=by omega
theorem Sp(h1:a-b=c+1):a-(b+1)=c:=by omega
theorem Sq:a+b+c+1-1-b=a+c:=eI (jO<|jO<|lN [((((a+b)+c)+1)-1)-b,a,c,(((a+b)+c)+1)-1,b] (cY (.a aj eg) ay) (cY (.a aj ay) eg) [] rfl)<|lN [((((a+b)+c)+1)-1)-b,a,c,(((a+b)+c)+1)-1,b] (.a aj ay) ah [aq aX<|.a ah eg,aV (cS aj eg ay)<|aB aX] rfl (fB ((((a+b)+c)+1)-1) b)<|fB (((a+b)+c)+1) 1
theorem Ss:((a+b+c+1:Nat):Int)-1-(b:Int)=((a+c:Nat):Int):=kq (lI [(a:Int),(b:Int),(c:Int)] (.s (.s (cY (.a ah aj) ay) bS) aj) (.a ah ay) [] rfl)<|lI [(a:Int),(b:Int),(c:Int)] (.a ah ay) (.s (.s (cY (.a ah aj) ay) bS) aj) [] rfl
theorem Su:a+b+c+1-(a+c)=b+1:=eI (jO<|lN [(((a+b)+c)+1)-(a+c),b,a,c] (cY (.a ay aj) aX) (cS aj bS<|.a ay aX) [] rfl)<|lN [(((a+b)+c)+1)-(a+c),b,a,c] (aB aj) ah [aV (cS ay aj aX)<|.a ah<|.a ay aX] rfl<|fB (((a+b)+c)+1)<|a+c
theorem Sv:a+b+c+1-(a+c+1)=b:=eI (jO<|lN [(((a+b)+c)+1)-((a+c)+1),b,a,c] (cY (.a ay aj) aX) (.a aj<|cY ay aX) [] rfl)<|lN [(((a+b)+c)+1)-((a+c)+1),b,a,c] aj ah [aV (cS ay aj aX)<|.a ah<|cY ay aX] rfl<|fB (((a+b)+c)+1)<|(a+c)+1
theorem Sw:a+b<a+c+b+1:=lN [a,b,c] (cY ah aj) (cY (.a ah ay) aj) [] rfl
theorem Gf(h1:a<=20)(h2:b<c)(h3:c<=a):b<=1000:=lN [a,b,c] aj cC [aq ah cW,aV aj ay,aq ay ah] rfl h1 h2 h3
theorem wX(h1:a<=20)(h2:b<=a):b<=1000:=lN [a,b] aj cC [aq ah cW,aq aj ah] rfl h1 h2
theorem Sy(h1:a=b)(h2:c<=b):c<=a:=lN [a,b,c] ay ah [aq aj ah,aq ay aj] rfl (cj h1.symm) h2
theorem Sz(h1:a<=20)(h2:b<=a):(b:Int)-1<=1000:=lI [(a:Int),(b:Int)] (.s aj bS) cC [aq ah cW,aq aj ah] rfl (bN.mpr h1)<|bN.mpr h2
theorem SA(h1:a<=20)(h2:b<c)(h3:c<=a):(b:Int)-1<=1000:=lI [(a:Int),(b:Int),(c:Int)] (.s aj bS) cC [aq ah cW,aV aj ay,aq ay ah] rfl (bN.mpr h1) (bN.mpr<|ju h2)<|bN.mpr h3
theorem SD(h1:(a:Int)-1<(b:Int)-1-(c:Int)):c<b-a:=bN.mp<|lI [(a:Int),(b:Int),(c:Int),(((b-a):Nat):Int)] (aB ay) aX [aV (.s ah bS)<|.s (.s aj bS) ay,aq aj<|.a aX ah] rfl h1<|bN.mpr<|fB b a
theorem SE:((a:Int)-1-((b:Int)-1)).toNat=a-b:=eI (p6<|lI [(((((a:Int)-1)-((b:Int)-1)).toNat:Nat):Int),(((a-b):Nat):Int),(a:Int),(b:Int)] (.s (.s ay bS)<|.s aX bS) aj [aq ay<|.a aj aX] rfl<|bN.mpr<|fB a b)<|jO<|bN.mp<|lI [(((((a:Int)-1)-((b:Int)-1)).toNat:Nat):Int),(((a-b):Nat):Int),(a:Int),(b:Int)] ay (.a ah aX) [aq (.s (.s ay bS)<|.s aX bS) ah] rfl<|qZ _
theorem Gg(h1:a<=20)(h2:b<c)(h3:c<=a):(b:Int)<=1000:=lI [(a:Int),(b:Int),(c:Int)] aj cC [aq ah cW,aV aj ay,aq ay ah] rfl (bN.mpr h1) (bN.mpr<|ju h2)<|bN.mpr h3
theorem Gh(h1:a<=20)(h2:b<=a):(b:Int)<=1000:=lI [(a:Int),(b:Int)] aj cC [aq ah cW,aq aj ah] rfl (bN.mpr h1)<|bN.mpr h2
theorem SG(h1:(a:Int)+(b:Int)<(c:Int)):a+b<c:=bN.mp<|lI [(a:Int),(b:Int),(c:Int)] (cY ah aj) ay [aV (.a ah aj) ay] rfl h1
theorem SH(h1:a<=20)(h2:b<=a)(h3:(c:Int)+(d:Int)<(b:Int)):d<=900:=bN.mp<|lI [(a:Int),(b:Int),(c:Int),(d:Int)] aX dS [aq ah cW,aq aj ah,aV (.a ay aX) aj,aq bD ay] rfl (bN.mpr h1) (bN.mpr h2) h3<|iY _
theorem SI(h1:a<=20)(h2:b<=a):b-c<1000:=lN [a,b,b-c,c] (aB ay) cC [aq ah cW,aq aj ah,aq ay aj] rfl h1 h2<|nf b c
theorem Gi:((a:Int)-(b:Int)).toNat=a-b:=eI (p6<|lI [((((a:Int)-(b:Int)).toNat:Nat):Int),(((a-b):Nat):Int),(a:Int),(b:Int)] (.s ay aX) aj [aq ay<|.a aj aX] rfl<|bN.mpr<|fB a b)<|jO<|bN.mp<|lI [((((a:Int)-(b:Int)).toNat:Nat):Int),(((a-b):Nat):Int),(a:Int),(b:Int)] ay (.a ah aX) [aq (.s ay aX) ah] rfl<|qZ _
theorem SJ(h1:a<=b)(h2:b<=a+0):b=a:=eI (lN [a,b] aj ah [aq aj<|.a ah bD] rfl h2)<|lN [a,b] ah aj [aq ah aj] rfl h1
theorem Gj(h1:a<=b+c):a<=b+(c+1):=lN [a,b,c] ah (.a aj<|aB ay) [aq ah<|.a aj ay] rfl h1
theorem Gk(h1:a<=b+(c+1))(h2:¬a=b+(c+1)):a<=b+c:=by lia
theorem SK:a<=a+(b+1):=lN [a,b] ah (.a ah<|aB aj) [] rfl
theorem Gl:min a b<=a:=lN [min a b,a,b] ah aj [aq ah aj] rfl<|jN a b
theorem Gm:a<=max a b:=lN [a,max a b,b] ah aj [aq ah aj] rfl<|Nat.le_max_left a b
theorem Gn:min a b<=b:=lN [min a b,b,a] ah aj [aq ah aj] rfl<|lV a b
theorem Gp:a<=max b a:=lN [a,max b a,b] ah aj [aq ah aj] rfl<|Nat.le_max_right b a
theorem SM(h1:a<b)(h2:b<c):a≠c:=gP<|lN [a,b,c] (aB ah) ay [aV ah aj,aV aj ay] rfl h1 h2
theorem SN(h1:a<b):min a c<=b:=lN [a,b,min a c,c] ay aj [aV ah aj,aq ay ah] rfl h1<|jN a c
theorem SO(h1:a<b):a<=max c b:=lN [a,b,max c b,c] ah ay [aV ah aj,aq aj ay] rfl h1<|Nat.le_max_right c b
theorem SQ(h1:a<b)(h2:b<c):a<c:=lN [a,b,c] (aB ah) ay [aV ah aj,aV aj ay] rfl h1 h2
theorem SR(h1:a<b):a≠b:=gP<|lN [a,b] (aB ah) aj [aV ah aj] rfl h1
theorem SS(h1:a<=b):min a c<=b:=lN [a,b,min a c,c] ay aj [aq ah aj,aq ay ah] rfl h1<|jN a c
theorem SV(h1:a<=b):a<=max c b:=lN [a,b,max c b,c] ah ay [aq ah aj,aq aj ay] rfl h1<|Nat.le_max_right c b
theorem Gq(h1:a≥b):b<=a:=lN [b,a] ah aj [aq ah aj] rfl h1
theorem SW(h1:a<=b):min c a<=b:=lN [a,b,min c a,c] ay aj [aq ah aj,aq ay ah] rfl h1<|lV c a
theorem SX(h1:a<=b):a<=max b c:=lN [a,b,max b c,c] ah ay [aq ah aj,aq aj ay] rfl h1<|Nat.le_max_left b c
theorem SY(h1:min a b<=c)(h2:a<b):a<=c:=by lia
theorem S1(h1:a<=max b c)(h2:b<c):a<=c:=by lia
theorem S3(h1:min a b<=c)(h2:a≥b):b<=c:=by lia
theorem S4(h1:a<=max b c)(h2:b≥c):a<=b:=by lia
theorem i9(h1:a<b):¬b<a:=tW<|lN [a,b] ah aj [aV ah aj] rfl h1
theorem S5(h1:a<=100)(h2:b+c<=d)(h3:d<a):c<=1000:=lN [a,b,c,d] ay cC [aq ah gW,aq (.a aj ay) aX,aV aX ah] rfl h1 h2 h3
theorem Gr(h1:a+b<=c):a+(b+1)<=c+1:=lN [a,b,c] (.a ah<|aB aj) (aB ay) [aq (.a ah aj) ay] rfl h1
theorem S6(h1:0<a):a≠0:=Nat.ne_of_gt<|lN [a] (aB bD) ah [aV bD ah] rfl h1
theorem Gs(h1:a<=100)(h2:b+c<=d)(h3:d<a):b+c<=1000:=lN [a,b,c,d] (.a aj ay) cC [aq ah gW,aq (.a aj ay) aX,aV aX ah] rfl h1 h2 h3
theorem Gu(h1:0<a):0<a:=lN [a] (aB bD) ah [aV bD ah] rfl h1
theorem S7(h1:a<=100)(h2:b+c<=a):b+c<=1000:=lN [a,b,c] (.a aj ay) cC [aq ah gW,aq (.a aj ay) ah] rfl h1 h2
theorem Ae(h1:a<=20):(a:Int)<=1000:=lI [(a:Int)] ah cC [aq ah cW] rfl<|bN.mpr h1
theorem S8(h1:a<=20)(h2:b<=a):b<64:=lN [a,b] (aB aj) kG [aq ah cW,aq aj ah] rfl h1 h2
theorem Gv(h1:a<=20)(h2:b<=a):b<=100:=lN [a,b] aj gW [aq ah cW,aq aj ah] rfl h1 h2
theorem S9(h1:a+b<min (c+1) d):a+b<c+1:=lN [a,b,min (c+1) d,c,d] (cY ah aj) (aB aX) [aV (.a ah aj) ay,aq ay<|aB aX] rfl h1<|jN (c+1) d
theorem S_(h1:a+b<min (c+1) d):a+b<=c:=lN [a,b,min (c+1) d,c,d] (.a ah aj) aX [aV (.a ah aj) ay,aq ay<|aB aX] rfl h1<|jN (c+1) d
theorem Tc(h1:a<=b):a<b+1:=lN [a,b] (aB ah) (aB aj) [aq ah aj] rfl h1
theorem Td(h1:a<=20)(h2:b<=c)(h3:c<a):b<=1000:=lN [a,b,c] aj cC [aq ah cW,aq aj ay,aV ay ah] rfl h1 h2 h3
theorem Te(h1:a<=20)(h2:b<a):b+1<=1000:=lN [a,b] (aB aj) cC [aq ah cW,aV aj ah] rfl h1 h2
theorem Tf(h1:a<b):min a b=a:=by lia
theorem Tg(h1:a=b):a+(0+0)=b:=eI (lN [a,b] (.a ah<|.a bD bD) aj [aq ah aj] rfl<|cj h1)<|lN [a,b] aj (.a ah<|.a bD bD) [aq aj ah] rfl<|cj h1.symm
theorem Th:a+(b+1)=a+b+1:=eI (lN [a,b] (.a ah<|aB aj) (cY ah aj) [] rfl)<|lN [a,b] (cY ah aj) (.a ah<|aB aj) [] rfl
theorem Ti:a+1+b=a+b+1:=eI (lN [a,b] (cS ah bS aj) (cY ah aj) [] rfl)<|lN [a,b] (cY ah aj) (cS ah bS aj) [] rfl
theorem Tj(h1:a<=1000):(a:Int)<=2^20:=lI [(a:Int)] ah dZ [aq ah cC] rfl<|bN.mpr h1
theorem Gw:(a:Int)<(b:Int)↔a<b:=by omega
theorem To(h1:a+b=c):(a:Int)+(b:Int)=(c:Int):=kq (lI [(a:Int),(b:Int),(c:Int)] (.a ah aj) ay [aq (.a ah aj) ay] rfl<|bN.mpr<|cj h1)<|lI [(a:Int),(b:Int),(c:Int)] ay (.a ah aj) [aq ay<|.a ah aj] rfl<|bN.mpr<|cj h1.symm
theorem Tp(h1:a<b)(h2:c=b):a<c:=lN [a,b,c] (aB ah) ay [aV ah aj,aq aj ay] rfl h1<|cj h2.symm
theorem Af(h1:a<=100):a<=1000:=lN [a] ah cC [aq ah gW] rfl h1
theorem Tq(h1:a<min b c):a<b:=lN [a,min b c,b,c] (aB ah) ay [aV ah aj,aq aj ay] rfl h1<|jN b c
theorem Tr(h1:a<min b c):a<c:=lN [a,min b c,c,b] (aB ah) ay [aV ah aj,aq aj ay] rfl h1<|lV b c
theorem Tt(h1:a<b):(a:Int)<=(b:Int):=lI [(a:Int),(b:Int)] ah aj [aV ah aj] rfl<|bN.mpr<|ju h1
theorem Tu(h1:a<=20):a<64:=lN [a] (aB ah) kG [aq ah cW] rfl h1
theorem Gx:-1000<=(a:Int)+1:=lI [(a:Int)] iI (aB ah) [aq bD ah] rfl<|iY _
theorem Gy(h1:a<=20)(h2:b<a):(b:Int)+1<=1000:=lI [(a:Int),(b:Int)] (aB aj) cC [aq ah cW,aV aj ah] rfl (bN.mpr h1)<|bN.mpr<|ju h2
theorem Tv(h1:a<=20)(h2:b<a):(b:Int)<=1000:=lI [(a:Int),(b:Int)] aj cC [aq ah cW,aV aj ah] rfl (bN.mpr h1)<|bN.mpr<|ju h2
theorem Tw:(a:Int)+1+(b:Int)=((a+(b+1):Nat):Int):=kq (lI [(a:Int),(b:Int)] (cS ah bS aj) (.a ah<|aB aj) [] rfl)<|lI [(a:Int),(b:Int)] (.a ah<|aB aj) (cS ah bS aj) [] rfl
theorem Tz(h1:a<b+1+(c+1))(h2:a≥b+(c+1)):a=b+(c+1):=eI (lN [a,b,c] ah (.a aj<|aB ay) [aV ah<|cS aj bS<|aB ay] rfl h1)<|lN [a,b,c] (.a aj<|aB ay) ah [aq (.a aj<|aB ay) ah] rfl h2
theorem TA(h1:(a:Int)+1+(b:Int)<(c:Int)):a+(b+1)<c:=bN.mp<|lI [(a:Int),(b:Int),(c:Int)] (cY ah<|aB aj) ay [aV (cS ah bS aj) ay] rfl h1
theorem TF(h1:a<b):a<c+1+((b:Int)-((c:Int)+1)).toNat:=bN.mp<|lI [(a:Int),(b:Int),(c:Int),((((b:Int)-((c:Int)+1)).toNat:Nat):Int)] (aB ah) (cS ay bS aX) [aV ah aj,aq (.s aj<|aB ay) aX] rfl (bN.mpr<|ju h1)<|qZ _
theorem TG(h1:a<b):a<((b:Int)-0).toNat:=bN.mp<|lI [(a:Int),(b:Int),((((b:Int)-0).toNat:Nat):Int)] (aB ah) ay [aV ah aj,aq (.s aj bD) ay] rfl (bN.mpr<|ju h1)<|qZ _
theorem TH:¬a+1<0:=tW<|lN [a] bD (aB ah) [] rfl
theorem TJ:0<a+1:=lN [a] (aB bD) (aB ah) [] rfl
theorem TL(h1:a<=b)(h2:b<a+1):b=a:=eI (lN [a,b] aj ah [aV aj<|aB ah] rfl h2)<|lN [a,b] ah aj [aq ah aj] rfl h1
theorem TM(h1:a+1<=b):a+1<=b+1:=lN [a,b] (aB ah) (aB aj) [aV ah aj] rfl h1
theorem TN(h1:a<b+1):a<b+1:=lN [a,b] (aB ah) (aB aj) [aV ah<|aB aj] rfl h1
theorem Gz(h1:a<b-c):c+a<b:=lN [a,b-c,c,b] (cY ay ah) aX [aV (.a ah ay) aX] rfl<|zZ h1
theorem TP(h1:a<=b)(h2:b<c):b-a<c-a:=lN [a,b,c,b-a,c-a] (aB aX) eg [aV aj ay,aq ay<|.a eg ah,aq (.a aX ah) aj] rfl h2 (fB c a)<|ue h1
theorem TQ(h1:a<b):c+a<c+b:=lN [a,b,c] (cY ay ah) (.a ay aj) [aV ah aj] rfl h1
theorem TS(h1:a<b)(h2:c<=a):c<b:=lN [a,b,c] (aB ay) aj [aV ah aj,aq ay ah] rfl h1 h2
theorem TU(h1:a<=b)(h2:¬b=a):a<b:=by lia
theorem TV(h1:a<=b)(h2:¬a=b):a<b:=by lia
theorem TX(h1:a<=20)(h2:b<a)(h3:c<=b):c<=900:=lN [a,b,c] ay dS [aq ah cW,aV aj ah,aq ay aj] rfl h1 h2 h3
theorem GA(h1:a<=20)(h2:b<=a):b<=20:=lN [a,b] aj cW [aq ah cW,aq aj ah] rfl h1 h2
theorem Ag(h1:a<=b)(h2:c<a-d):d+c<b:=lN [a,b,c,a-d,d] (cY eg ay) aj [aq ah aj,aV (.a ay eg) ah] rfl h1<|zZ h2
theorem TY:0+9<=a+9:=lN [a] (.a bD p7) (.a ah p7) [] rfl
theorem TZ:0+5<=a+5:=lN [a] (.a bD oB) (.a ah oB) [] rfl
theorem T3(h1:a<=20)(h2:b<a):min b c<=20:=lN [a,b,min b c,c] ay cW [aq ah cW,aV aj ah,aq ay aj] rfl h1 h2<|jN b c
theorem T4(h1:a=b)(h2:c<b):c<a:=lN [a,b,c] (aB ay) ah [aq aj ah,aV ay aj] rfl (cj h1.symm) h2
theorem T5(h1:a<=20):a<=1000:=lN [a] ah cC [aq ah cW] rfl h1
theorem T6(h1:a<=100):min b a<=100:=lN [a,min b a,b] aj gW [aq ah gW,aq aj ah] rfl h1<|lV b a
theorem T7(h1:a=b)(h2:c<a):c<b:=lN [a,b,c] (aB ay) aj [aq ah aj,aV ay ah] rfl (cj h1) h2
theorem T8(h1:0<a):0≠a:=gP<|lN [a] (aB bD) ah [aV bD ah] rfl h1
theorem T9(h1:a<=100):a<=999:=lN [a] ah (.n 999) [aq ah gW] rfl h1
theorem T_(h1:a<=b):min a b-c=a-c:=by lia
theorem Ua(h1:a<b-c)(h2:b<=d):c+a<d:=lN [a,b-c,c,b,d] (cY ay ah) eg [aV (.a ah ay) aX,aq aX eg] rfl (zZ h1) h2
theorem GC(h1:a=b-c)(h2:d=b-c)(h3:e<a):e<d:=lN [a,b-c,d,e,b,c] (aB aX) ay [aq ah aj,aq aj ay,aV aX ah] rfl (cj h1) (cj h2.symm) h3
theorem GD(h1:a=b-c)(h2:d=b-c):a=d:=eI (lN [a,b-c,d,b,c] ah ay [aq ah aj,aq aj ay] rfl (cj h1)<|cj h2.symm)<|lN [a,b-c,d,b,c] ay ah [aq aj ah,aq ay aj] rfl (cj h1.symm)<|cj h2
theorem Ub(h1:a<=20)(h2:b<=a)(h3:c=b-d)(h4:e<=c):e<=100:=lN [a,b,c,b-d,e,d] eg gW [aq ah cW,aq aj ah,aq ay aX,aq eg ay,aq aX aj] rfl h1 h2 (cj h3) h4<|nf b d
theorem Uc(h1:a<=20)(h2:b<=a)(h3:c=b-d):c<=20:=lN [a,b,c,b-d,d] ay cW [aq ah cW,aq aj ah,aq ay aX,aq aX aj] rfl h1 h2 (cj h3)<|nf b d
theorem Ud(h1:a<=b+c)(h2:b<=d+1):a<=d+(c+1):=lN [a,b,c,d] ah (.a aX<|aB ay) [aq ah<|.a aj ay,aq aj<|aB aX] rfl h1 h2
theorem Ue(h1:a<=60):a<64:=lN [a] (aB ah) kG [aq ah<|.n 60] rfl h1
theorem Ug(h1:a<=60)(h2:b=a)(h3:c<=min d b):c<=900:=lN [a,b,c,min d b,d] ay dS [aq ah<|.n 60,aq aj ah,aq ay aX,aq aX aj] rfl h1 (cj h2) h3<|lV d b
theorem Uh(h1:a<=b)(h2:b<=20)(h3:c<=a-d):c<64:=lN [a,b,c,a-d,d] (aB ay) kG [aq ah aj,aq aj cW,aq ay aX,aq aX ah] rfl h1 h2 h3<|nf a d
theorem Ui(h1:a<=b)(h2:b<=c)(h3:c<=20):(a:Int)<=1000:=lI [(a:Int),(b:Int),(c:Int)] ah cC [aq ah aj,aq aj ay,aq ay cW] rfl (bN.mpr h1) (bN.mpr h2)<|bN.mpr h3
theorem Uj(h1:a<=b)(h2:b<=20):(a:Int)<=1000:=lI [(a:Int),(b:Int)] ah cC [aq ah aj,aq aj cW] rfl (bN.mpr h1)<|bN.mpr h2
theorem Uk(h1:a<=b)(h2:b<=20)(h3:c<=a-d):c<=20:=lN [a,b,c,a-d,d] ay cW [aq ah aj,aq aj cW,aq ay aX,aq aX ah] rfl h1 h2 h3<|nf a d
theorem Ul(h1:a<=20)(h2:b<=min c a):b<=900:=lN [a,b,min c a,c] aj dS [aq ah cW,aq aj ay,aq ay ah] rfl h1 h2<|lV c a
theorem Um(h1:a≠b):c+a≠c+b:=by lia
theorem Un(h1:a<b)(h2:c<=a):a-c<b-c:=lN [a,b,c,a-c,b-c] (aB aX) eg [aV ah aj,aq aj<|.a eg ay,aq (.a aX ay) ah] rfl h1 (fB b c)<|ue h2
theorem Uo(h1:((a+1:Nat):Int)<=(b:Int)):a<b:=bN.mp<|lI [(a:Int),(b:Int)] (aB ah) aj [aV ah aj] rfl h1
theorem Up:-(2:Int)^(40:Nat)<(60013:Int)/\(60013:Int)<(2:Int)^(40:Nat):=by lia
theorem Uq:-(2:Int)^(40:Nat)<(48271:Int)/\(48271:Int)<(2:Int)^(40:Nat):=by lia
theorem Ur:(0:Int)<(64:Int)/\(64:Int)<(2:Int)^(40:Nat):=by lia
theorem Us(h1:¬(a:Int)=(b:Int))(h2:b=a):c+1<=c:=by lia
theorem GF:(1:Nat)<=(1000:Nat):=lN [] bS cC [] rfl
theorem Ut(h1:a+1+1<=20):a+1+(0+1)<=2^20:=lN [a] (cS ah bS<|aB bD) dZ [aV (aB ah) cW] rfl h1
theorem Uu(h1:a=b):b=a:=eI (lN [a,b] aj ah [aq aj ah] rfl<|cj h1.symm)<|lN [a,b] ah aj [aq ah aj] rfl<|cj h1
theorem Uv(h1:a=b)(h2:b<=20):a<=20:=lN [a,b] ah cW [aq ah aj,aq aj cW] rfl (cj h1) h2
theorem Uw(h1:a<=80):a<=90:=lN [a] ah nq [aq ah p8] rfl h1
theorem Ah:0<(a:Int)+1:=lI [(a:Int)] (aB bD) (aB ah) [aq bD ah] rfl<|iY _
theorem Ux(h1:a<=80):a+1<=90:=lN [a] (aB ah) nq [aq ah p8] rfl h1
theorem Uy:(24:Nat)<=(1000:Nat):=lN [] (.n 24) cC [] rfl
theorem Uz(h1:a+(b+1)<=80):a<=90:=lN [a,b] ah nq [aq (.a ah<|aB aj) p8] rfl h1
theorem UA(h1:a+(b+1)<=80):a+1+b<=80:=lN [a,b] (cS ah bS aj) p8 [aq (.a ah<|aB aj) p8] rfl h1
theorem UB(h1:a<=11):a<=90:=lN [a] ah nq [aq ah<|.n 11] rfl h1
theorem UC(h1:a<=11)(h2:b<=2):a+1+b<=80:=lN [a,b] (cS ah bS aj) p8 [aq ah<|.n 11,aq aj eS] rfl h1 h2
theorem UD(h1:a<=2)(h2:b=a):b<=2:=lN [a,b] aj eS [aq ah eS,aq aj ah] rfl h1<|cj h2
theorem UE(h1:a<=11)(h2:b<=2):a+1+b<=14:=lN [a,b] (cS ah bS aj) (.n 14) [aq ah<|.n 11,aq aj eS] rfl h1 h2
theorem UG:(0:Nat)<=(90:Nat):=lN [] bD nq [] rfl
theorem UH:(1:Nat)<=(90:Nat):=lN [] bS nq [] rfl
theorem UI(h1:a<=9/\0<a):0<a:=lN [a] (aB bD) ah [aV bD ah] rfl h1.2
theorem UJ(h1:a<=9/\0<a):a<=20:=lN [a] ah cW [aq ah p7] rfl h1.1
theorem UK(h1:a<=2):a<64:=lN [a] (aB ah) kG [aq ah eS] rfl h1
theorem UL(h1:a<=14):a<=90:=lN [a] ah nq [aq ah<|.n 14] rfl h1
theorem UM(h1:a<=2)(h2:b<1+a):b<=2:=lN [a,b] aj eS [aq ah eS,aV aj<|.a bS ah] rfl h1 h2
theorem UN(h1:a<=14)(h2:b<=a+1+2*c)(h3:c<=2):b<=80:=lN [a,b,c] aj p8 [aq ah<|.n 14,aq aj<|cS ah bS<|.m 2 ay,(2,ay,eS)] rfl h1 h2 h3
theorem UO(h1:a<=b+1+2*c)(h2:d<=a+2):d<=b+1+2*(c+1):=lN [a,b,c,d] aX (cS aj bS<|.m 2<|aB ay) [aq ah<|cS aj bS<|.m 2 ay,aq aX<|.a ah eS] rfl h1 h2
end
section
variable {a b c d e f g h i j:Int}
theorem GG(h1:-2^40<a/\a<2^40):a.natAbs<2^40:=by omega
theorem UP(h1:0<=a):¬a<0:=Int.not_lt.mpr<|lI [a] bD ah [aq bD ah] rfl h1
theorem Ai(h1:-2^40<a/\a<2^40):a<2^63:=lI [a] (aB ah) (.n 9223372036854775808) [aV ah iH] rfl h1.2
theorem Aj(h1:-2^40<a/\a<2^40):-2^63<=a:=lI [a] (.g<|.n 9223372036854775808) ah [aV i8 ah] rfl h1.1
theorem UQ(h1:0<=a):-2^40<a:=lI [a] (aB i8) ah [aq bD ah] rfl h1
theorem UR(h1:a<0):a<2^40:=lI [a] (aB ah) iH [aV ah bD] rfl h1
theorem US:a<=b->b<=c->a<=c:=by lia
theorem GH:a<=b\/b<=a:=by lia
theorem GI(h1:a<=b)(h2:b<=a):a=b:=kq (lI [a,b] ah aj [aq ah aj] rfl h1)<|lI [a,b] aj ah [aq aj ah] rfl h2
theorem GJ(h1:¬a<b):b<=a:=lI [b,a] ah aj [aq ah aj] rfl<|Int.not_lt.mp h1
theorem UT(h1:¬a>b):a<=b:=lI [a,b] ah aj [aq ah aj] rfl<|Int.not_lt.mp h1
theorem GK(h1:a<b)(h2:b<=c):a<=c:=lI [a,b,c] ah ay [aV ah aj,aq aj ay] rfl h1 h2
theorem GN(h1:a<=min b c):a<=b:=lI [a,min b c,b,c] ah ay [aq ah aj,aq aj ay] rfl h1<|Int.min_le_left b c
theorem GO(h1:a<=min b c):a<=c:=lI [a,min b c,c,b] ah ay [aq ah aj,aq aj ay] rfl h1<|Int.min_le_right b c
theorem UU(h1:a<=b):min a b=a:=by lia
theorem UW(h1:¬a<=b):min a b=b:=by lia
theorem UX(h1:a<=b)(h2:c=b)(h3:c<=a):a=c:=kq (lI [a,b,c] ah ay [aq ah aj,aq aj ay] rfl h1<|iX h2.symm)<|lI [a,b,c] ay ah [aq ay ah] rfl h3
theorem UY(h1:0<=a)(h2:a<=2^20):-9223372036854775808<=a/\a<9223372036854775808:=⟨lI [a] (.g<|.n 9223372036854775808) ah [aq bD ah] rfl h1,lI [a] (aB ah) (.n 9223372036854775808) [aq ah dZ] rfl h2⟩
theorem UZ(h1:a<=2^20):a<=1152921504606846975:=lI [a] ah (.n 1152921504606846975) [aq ah dZ] rfl h1
theorem U0(h1:a<=2^20):a<=16777216:=lI [a] ah (.n 16777216) [aq ah dZ] rfl h1
theorem U4(h1:a<=2^20):a.toNat<=2^20:=p6<|lI [a,(((a).toNat:Nat):Int)] ah dZ [aq ah dZ] rfl h1
theorem GP(h1:a-b<=2^20):(a-b).toNat<=2^20:=p6<|lI [a,b,(((a-b).toNat:Nat):Int)] (.s ah aj) dZ [aq (.s ah aj) dZ] rfl h1
theorem U5(h1:-1000<=a)(h2:a<=1000)(h3:-1000<=b)(h4:b<=1000):((-2^40<a/\a<2^40)/\-2^40<b/\b<2^40)/\b-a<=2^20:=⟨⟨⟨lI [a,b] (aB i8) ah [aq iI ah] rfl h1,lI [a,b] (aB ah) iH [aq ah cC] rfl h2⟩,⟨lI [a,b] (aB i8) aj [aq iI aj] rfl h3,lI [a,b] (aB aj) iH [aq aj cC] rfl h4⟩⟩,lI [a,b] (.s aj ah) dZ [aq iI ah,aq aj cC] rfl h1 h4⟩
theorem U8(h1:-1000<=a)(h2:a<=1000):(-2^40<a/\a<2^40)/\a<=2^20:=⟨⟨lI [a] (aB i8) ah [aq iI ah] rfl h1,lI [a] (aB ah) iH [aq ah cC] rfl h2⟩,lI [a] ah dZ [aq ah cC] rfl h2⟩
theorem U9(h1:-1000<=a)(h2:a<=1000)(h3:-1000<=b)(h4:b<=1000):(((-2^40<a/\a<2^40)/\-2^40<b/\b<2^40)/\-2^40<b-a/\b-a<2^40)/\a-b<=2^20:=⟨⟨⟨⟨lI [a,b] (aB i8) ah [aq iI ah] rfl h1,lI [a,b] (aB ah) iH [aq ah cC] rfl h2⟩,⟨lI [a,b] (aB i8) aj [aq iI aj] rfl h3,lI [a,b] (aB aj) iH [aq aj cC] rfl h4⟩⟩,⟨lI [a,b] (aB i8) (.s aj ah) [aq ah cC,aq iI aj] rfl h2 h3,lI [a,b] (aB<|.s aj ah) iH [aq iI ah,aq aj cC] rfl h1 h4⟩⟩,lI [a,b] (.s ah aj) dZ [aq ah cC,aq iI aj] rfl h2 h3⟩
theorem GQ(h1:a<=80):(a-65).toNat<16:=by omega
theorem U_(h1:65<=a):65+(((a-65).toNat:Nat):Int)=a:=by lia
theorem U':a<=a+0:=lI [a] ah (.a ah bD) [] rfl
theorem Va:a+0<=a+2:=lI [a] (.a ah bD) (.a ah eS) [] rfl
theorem Vb:a<=a+2:=lI [a] ah (.a ah eS) [] rfl
theorem Vc:a+2<=a+2:=lI [a] (.a ah eS) (.a ah eS) [] rfl
theorem Vd:a<=a+1:=lI [a] ah (aB ah) [] rfl
theorem Ve:a+1<=a+2:=lI [a] (aB ah) (.a ah eS) [] rfl
theorem Vf(h1:a<=b/\b<=c):a<=b/\b<=c+2:=⟨lI [a,b,c] ah aj [aq ah aj] rfl h1.1,lI [a,b,c] aj (.a ay eS) [aq aj ay] rfl h1.2⟩
theorem Vg(h1:a<=b/\b<=c)(h2:b+1<=d/\d<=b+2):a<=d/\d<=c+2:=⟨lI [a,b,c,d] ah aX [aq ah aj,aV aj aX] rfl h1.1 h2.1,lI [a,b,c,d] aX (.a ay eS) [aq aj ay,aq aX<|.a aj eS] rfl h1.2 h2.2⟩
theorem Vh:a<=a/\a<=a+2*(0:Int):=⟨lI [a] ah ah [] rfl,lI [a] ah (.a ah<|.m 2 bD) [] rfl⟩
theorem GR(h1:a<=100)(h2:a+1<=b/\b<=a+2):b<=125:=lI [a,b] aj (.n 125) [aq ah gW,aq aj<|.a ah eS] rfl h1 h2.2
theorem Vi(h1:a<b)(h2:b<=c):a<c:=lI [a,b,c] (aB ah) ay [aV ah aj,aq aj ay] rfl h1 h2
theorem GS(h1:a+1<=b/\b<=a+2):a<b:=lI [a,b] (aB ah) aj [aV ah aj] rfl h1.1
theorem Vj(h1:0<=a/\a<=41)(h2:a<=b/\b<=a+2):0<=b:=lI [a,b] bD aj [aq bD ah,aq ah aj] rfl h1.1 h2.1
theorem Vk(h1:0<=a/\a<=41)(h2:a<=b/\b<=a+2):b<=60:=lI [a,b] aj (.n 60) [aq ah<|.n 41,aq aj<|.a ah eS] rfl h1.2 h2.2
theorem GU(h1:¬a<=b):b<=a:=lI [b,a] ah aj [aV ah aj] rfl<|Int.not_le.mp h1
theorem Vl(h1:a<=b):min a c<=b:=lI [a,b,min a c,c] ay aj [aq ah aj,aq ay ah] rfl h1<|Int.min_le_left a c
theorem GW(h1:¬a<=b):b<a:=lI [b,a] (aB ah) aj [aV ah aj] rfl<|Int.not_le.mp h1
theorem Vm(h1:a<b)(h2:c<=a):c<b:=lI [a,b,c] (aB ay) aj [aV ah aj,aq ay ah] rfl h1 h2
theorem Vn(h1:¬(a-(b+1)) %2=0):(a-b) %2=0:=by lia
theorem Vo(h1:a<=b)(h2:¬a+1<=b):(b-a) %2=0:=by lia
theorem Vp(h1:a+1<=b/\(b-(a+1)) %2=0):¬(b-a) %2=0:=by omega
theorem Vq(h1:a<b):¬b<=a:=Int.not_le.mpr<|lI [a,b] (aB ah) aj [aV ah aj] rfl h1
theorem Vr(h1:a<b):¬b+1<=a:=Int.not_le.mpr<|lI [a,b] (aB ah) (aB aj) [aV ah aj] rfl h1
theorem Vs(h1:a %2=1):a<=b/\(b-a) %2=0->¬b %2=0:=by omega
theorem Vt(h1:¬a %2=0):a %2=1:=by lia
theorem Vu(h1:a %2=1)(h2:¬b %2=0):(b-a) %2=0:=by lia
theorem Vv(h1:a<=b)(h2:b<=c):a<=c:=lI [a,b,c] ah ay [aq ah aj,aq aj ay] rfl h1 h2
theorem Vw(h1:a=b):b<=a:=lI [a,b] aj ah [aq aj ah] rfl<|iX h1.symm
theorem Vx(h1:a=b)(h2:0<=a/\a<=100):-1000<=b:=lI [a,b] iI aj [aq ah aj,aq bD ah] rfl (iX h1) h2.1
theorem Vy(h1:a=b)(h2:0<=a/\a<=100):b<=1000:=lI [a,b] aj cC [aq aj ah,aq ah gW] rfl (iX h1.symm) h2.2
theorem Vz(h1:a=b)(h2:0<=a/\a<=100):-1000<=b-1:=lI [a,b] iI (.s aj bS) [aq ah aj,aq bD ah] rfl (iX h1) h2.1
theorem VA(h1:a<=b)(h2:c=b)(h3:0<=c/\c<=100):a-1<=1000:=lI [a,b,c] (.s ah bS) cC [aq ah aj,aq aj ay,aq ay gW] rfl h1 (iX h2.symm) h3.2
theorem VB(h1:a<=b):b-(((b-(a-1)).toNat:Nat):Int)+1=a:=by lia
theorem VC(h1:¬a %2=1):a %2=0:=by lia
theorem VD(h1:-2^40<a/\a<2^40)(h2:0<b/\b<2^40):((-2^40<a/\a<2^40)/\-2^40<b/\b<2^40)/\0<b:=⟨⟨⟨lI [a,b] (aB i8) ah [aV i8 ah] rfl h1.1,lI [a,b] (aB ah) iH [aV ah iH] rfl h1.2⟩,⟨lI [a,b] (aB i8) aj [aV bD aj] rfl h2.1,lI [a,b] (aB aj) iH [aV aj iH] rfl h2.2⟩⟩,lI [a,b] (aB bD) aj [aV bD aj] rfl h2.1⟩
theorem VE(h1:0<a):a≠0:=Int.ne_of_gt<|lI [a] (aB bD) ah [aV bD ah] rfl h1
theorem GX(h1:0<=a)(h2:a<2147483647):-2^40<a/\a<2^40:=⟨lI [a] (aB i8) ah [aq bD ah] rfl h1,lI [a] (aB ah) iH [aV ah<|.n 2147483647] rfl h2⟩
theorem VF(h1:(a*a+b) %2147483579=c):-2^40<c/\c<2^40:=by omega
theorem VG(h1:0<=a/\a<3):a=0\/a=1\/a=2:=by lia
theorem VH(h1:65<=a/\a<=80\/a=40\/a=41):a<=80:=by lia
theorem VI(h1:64<a):0<=a-65:=lI [a] bD (.s ah<|.n 65) [aV kG ah] rfl h1
theorem VJ(h1:0<=a/\a<3):(a-0).toNat<=2:=p6<|lI [a,(((a-0).toNat:Nat):Int)] (.s ah bD) eS [aV ah<|.n 3] rfl h1.2
theorem VK(h1:0<=a/\a<3):-1000<=a:=lI [a] iI ah [aq bD ah] rfl h1.1
theorem VL(h1:0<=a/\a<3):a<=1000:=lI [a] ah cC [aV ah<|.n 3] rfl h1.2
theorem VM(h1:0<=a/\a<9):-1000<=1+a:=lI [a] iI (.a bS ah) [aq bD ah] rfl h1.1
theorem VN(h1:0<=a/\a<9):1+a<=1000:=lI [a] (.a bS ah) cC [aV ah p7] rfl h1.2
theorem VO(h1:0<=a/\a<9):(1+a-0).toNat<=9/\0<(1+a-0).toNat:=⟨p6<|lI [a,((((1+a)-0).toNat:Nat):Int)] (.s (.a bS ah) bD) p7 [aV ah p7] rfl h1.2,bN.mp<|lI [a,((((1+a)-0).toNat:Nat):Int)] (aB bD) aj [aq bD ah,aq (.s (.a bS ah) bD) aj] rfl h1.1<|qZ _⟩
end
theorem VP{a:Int}{b:Nat}(h1:0<=a)(h2:a<(b:Int)):0<=a/\a<(b:Int):=⟨lI [a,(b:Int)] bD ah [aq bD ah] rfl h1,lI [a,(b:Int)] (aB ah) aj [aV ah aj] rfl h2⟩
theorem VQ{a:Nat}{b:Int}(h1:a<=2^20)(h2:b<(a:Int)):b<2^40:=lI [(a:Int),b] (aB aj) iH [aq ah dZ,aV aj ah] rfl (bN.mpr h1) h2
theorem VR{a:Nat}{b:Int}(h1:a<=2^20)(h2:-(a:Int)<=b):-2^40<b:=lI [(a:Int),b] (aB i8) aj [aq ah dZ,aq (.g ah) aj] rfl (bN.mpr h1) h2
theorem VS{a:Nat}{b c:Int}(h1:a<(b-c).toNat):c+(a:Int)<b:=by omega
theorem VT{a:Nat}{b c:Int}(h1:a<(b-c).toNat):c<b-(a:Int):=by omega
theorem VU{a:Int}{b:Nat}:a+2*(b:Int)+2=a+2*((b+1:Nat):Int):=kq (lI [a,(b:Int)] (cS ah (.m 2 aj) eS) (.a ah<|.m 2<|aB aj) [] rfl)<|lI [a,(b:Int)] (.a ah<|.m 2<|aB aj) (cS ah (.m 2 aj) eS) [] rfl
theorem VV{a:Nat}{b:Int}{c:Nat}{d:Int}(h1:a<=40)(h2:b<=1)(h3:c<a)(h4:b<=d/\d<=b+2*(c:Int)):d<=100:=lI [(a:Int),b,(c:Int),d] aX gW [(2,ah,rn),aq aj bS,(2,aB ay,ah),aq aX<|.a aj<|.m 2 ay] rfl (bN.mpr h1) h2 (bN.mpr<|ju h3) h4.2
theorem VW{a:Int}{b:Nat}(h1:0<=a/\a<(b:Int)):a.toNat<b:=bN.mp<|lI [a,(b:Int),(((a).toNat:Nat):Int)] (aB ay) aj [aV ah aj,aq ay ah] rfl h1.2<|FP h1.1
theorem VX{a b:Int}{c:Nat}(h1:0<=a/\a<=1)(h2:a<=b/\b<=a+2*(c:Int)):0<=b:=lI [a,b,(c:Int)] bD aj [aq bD ah,aq ah aj] rfl h1.1 h2.1
theorem VY{a:Nat}{b:Int}{c:Nat}{d:Int}(h1:a<=20)(h2:0<=b/\b<=1)(h3:c<a)(h4:b<=d/\d<=b+2*(c:Int)):d<=60:=lI [(a:Int),b,(c:Int),d] aX (.n 60) [(2,ah,cW),aq aj bS,(2,aB ay,ah),aq aX<|.a aj<|.m 2 ay] rfl (bN.mpr h1) h2.2 (bN.mpr<|ju h3) h4.2
theorem VZ{a:Int}{b c:Nat}{d:Int}(h1:0<=a/\a<=1)(h2:b<=20)(h3:c<b)(h4:a<=d/\d<=a+2*(c:Int)):0<=d/\d<=41:=⟨lI [a,(b:Int),(c:Int),d] bD aX [aq bD ah,aq ah aX] rfl h1.1 h4.1,lI [a,(b:Int),(c:Int),d] aX (.n 41) [aq ah bS,(2,aj,cW),(2,aB ay,aj),aq aX<|.a ah<|.m 2 ay] rfl h1.2 (bN.mpr h2) (bN.mpr<|ju h3) h4.2⟩
theorem V0{a:Int}{b:Nat}:a-((b+1:Nat):Int)+1=a-(b:Int):=kq (lI [a,(b:Int)] (aB<|.s ah<|aB aj) (.s ah aj) [] rfl)<|lI [a,(b:Int)] (.s ah aj) (aB<|.s ah<|aB aj) [] rfl
theorem V2{a:Nat}{b:Int}(h1:a<=90)(h2:((a+1:Nat):Int)=b):1<=b/\b<=100:=⟨lI [(a:Int),b] bS aj [aV ah aj,aq bD ah] rfl (iX h2)<|iY _,lI [(a:Int),b] aj gW [aq ah nq,aq aj<|aB ah] rfl (bN.mpr h1)<|iX h2.symm⟩
theorem GY{a:Nat}{b:Int}(h1:((a+1:Nat):Int)=b):0<=60013*b:=by lia
theorem V3{a:Nat}{b:Int}(h1:((a+1:Nat):Int)=b):0<=b:=lI [(a:Int),b] bD aj [aV ah aj,aq bD ah] rfl (iX h1)<|iY _
theorem GZ{a:Nat}{b:Int}(h1:a<=90)(h2:((a+1:Nat):Int)=b):-2^40<b/\b<2^40:=⟨lI [(a:Int),b] (aB i8) aj [aV ah aj,aq bD ah] rfl (iX h2)<|iY _,lI [(a:Int),b] (aB aj) iH [aq ah nq,aq aj<|aB ah] rfl (bN.mpr h1)<|iX h2.symm⟩
theorem V4{a:Nat}{b:Int}(h1:a<=90)(h2:((a+1:Nat):Int)=b):-2^40<60013*b/\60013*b<2^40:=by omega
theorem V5{a:Nat}{b c d:Int}(h1:a<=90)(h2:((a+1:Nat):Int)=b)(h3:0<=c)(h4:c<=60013*b*100):-2^40<d %2147483629+c+17/\d %2147483629+c+17<2^40:=by lia
theorem V6{a:Int}{b:Nat}(h1:0<=a/\a<(b:Int)+1):0<(b:Int)+1-a:=lI [a,(b:Int)] (aB bD) (.s (aB aj) ah) [aV ah<|aB aj] rfl h1.2
theorem V7{a:Int}{b c d:Nat}(h1:0<=a/\a<(b:Int)+1-(c:Int))(h2:(c:Int)+a=(d:Int)):c<=d:=bN.mp<|lI [a,(b:Int),(c:Int),(d:Int)] ay aX [aq bD ah,aq (.a ay ah) aX] rfl h1.1<|iX h2
theorem V8{a:Int}{b c d:Nat}(h1:0<=a/\a<(b:Int)+1-(c:Int))(h2:(c:Int)+a=(d:Int)):d<=b:=bN.mp<|lI [a,(b:Int),(c:Int),(d:Int)] aX aj [aV ah<|.s (aB aj) ay,aq aX<|.a ay ah] rfl h1.2<|iX h2.symm
theorem V9{a:Int}{b:Nat}(h1:0<=a/\a<(b:Int)+1):0<=a/\a<=(b:Int):=⟨lI [a,(b:Int)] bD ah [aq bD ah] rfl h1.1,lI [a,(b:Int)] ah aj [aV ah<|aB aj] rfl h1.2⟩
theorem V_{a:Int}{b:Nat}(h1:0<=a/\a<=(b:Int)):a.toNat<=b:=bN.mp<|lI [a,(b:Int),(((a).toNat:Nat):Int)] ay aj [aq ah aj,aq ay ah] rfl h1.2<|FP h1.1
@[elab_as_elim] theorem rR{α:Sort _}{a b:α}{motive:α->Prop}(h:a=b)(m:motive b):motive a:=h▸m
@[elab_as_elim] theorem rL{α:Sort _}{a b:α}{motive:α->Prop}(h:a=b)(m:motive a):motive b:=h▸m
section
set_option genInjectivity true in
inductive PV where
 |n
 |b (b:Bool)
 |i (i:Int)
 |s (s:String)
 |t (l:List PV)
 |l (l:List PV)
 |r (l:List PV)
 |d (f:Int->bK)
 |c (ks:aY) (l:List PV)
 |o (c:String) (ns:aY) (l:List PV)
 |e (n:Nat)
inductive AO where
 |l (l:List PV)
 |i (n:Nat) (f:Int->bK)
 |s (ks:aY) (l:List PV)
 |n (c:String) (ns:aY) (l:List PV)
noncomputable def d7:=@PV.casesOn
abbrev bF:=List<|Option PV
abbrev au:=List PV
abbrev bR:=Option PV
abbrev ak:=List<|Option AO
abbrev eF:=PV->ak->Prop
abbrev aaF:=ak->Prop
abbrev Sx(x:String):PySem.Str:=PySem.Str.ofString x
noncomputable def jQ(K:Frag)(c:String):Option Addr:=match nsIn K mainGlobals (Sx c)with
 |some (some<|.ref a)=>some a
 |_=>none
structure Cx where
 prog:Program
 w:World
 K:Frag
 b0:Heap
structure Cf where
 ρ:List (Addr×Addr)
 O:Addr->Prop
 H:ak
noncomputable def kH(ks:aY)(vals:cz)(x:PySem.Str):Option Value:=((ks.map Sx).zip vals).lookup x
noncomputable def jy(ns:aY)(es:List DictEntry):Prop:=∃ts:List Tok,es.map (·.key)=(ns.zip ts).map (λp=>Value.str (Sx p.1) p.2)/\ts.length=ns.length
noncomputable def wY(f:Int->bK)(g:Int->Option Value):Prop:=∀k,match f k with
 |none=>g k=none
 |some i=>∃t,g k=some (Value.int i t)
inductive kI (O:Addr->Prop)(S:Addr->dg->Prop)(R:cz->Prop)(v:Value):Prop
 |mk (a:Addr) (vs:dg) (e:v=Value.ref a) (o:¬O a) (s:S a vs) (z:vs.size<=2^20) (r:R vs.toList):kI O S R v
inductive wZ (X:Cx)(O:Addr->Prop)(h:Heap)(f:Int->bK)(v:Value):Prop
 |mk (a:Addr) (g:Int->Option Value) (e:v=Value.ref a) (o:¬O a) (s:(a==sysModules)=false) (m:h.MapOf (intKind X.prog X.w) a g) (i:wY f g):wZ X O h f v
inductive w7 (X:Cx)(O:Addr->Prop)(h:Heap)(ks:aY)(R:cz->Prop)(v:Value):Prop
 |mk (a:Addr) (vals:cz) (e:v=Value.ref a) (o:¬O a) (s:(a==sysModules)=false) (m:h.MapOf (strKind X.prog X.w) a<|kH ks vals) (l:vals.length=ks.length) (r:R vals):w7 X O h ks R v
inductive w9 (X:Cx)(O:Addr->Prop)(h:Heap)(c:String)(ns:aY)(R:cz->Prop)(v:Value):Prop
 |mk (a d:Addr) (C:Addr) (es:List DictEntry) (n:Nat) (e:v=Value.ref a) (o:¬O a) (od:¬O d) (cc:jQ X.K c=some C) (ha:h.get? a=some (instObj C d)) (hd:h.get? d=some (dictOf es n)) (k:jy ns es) (r:R (es.map (·.val))):w9 X O h c ns R v
inductive G0 (ρ:List<|Addr×Addr)(n:Nat)(v:Value):Prop
 |mk (p:Addr×Addr) (e:ρ[n]?=some p) (r:v=Value.ref p.1):G0 ρ n v
inductive Ak (R:Value->Prop)(S:cz->Prop)(vs:cz):Prop
 |mk (v:Value) (r:cz) (e:vs=v::r) (a:R v) (b:S r):Ak R S vs
variable (X:Cx)
mutual
noncomputable def Rep(cf:Cf)(h:Heap):PV->Value->Prop
 |.n,v=>v=Value.none
 |.b b,v=>v=Value.bool b
 |.i i,v=>∃t,v=Value.int i t
 |.s s,v=>∃t,v=Value.str (Sx s) t
 |.t l,v=>kI cf.O (IsTup h) (aO cf h l) v
 |.l l,v=>kI cf.O h.PlainList (aO cf h l) v
 |.r l,v=>kI cf.O h.IsList (aO cf h l) v
 |.d f,v=>wZ X cf.O h f v
 |.c ks l,v=>w7 X cf.O h ks (aO cf h l) v
 |.o c ns l,v=>w9 X cf.O h c ns (aO cf h l) v
 |.e n,v=>G0 cf.ρ n v
noncomputable def aO(cf:Cf)(h:Heap):au->cz->Prop
 |[],vs=>vs=[]
 |p::ps,vs=>Ak (Rep cf h p) (aO cf h ps) vs
end
inductive G1 (h:Heap)(p:Addr×Addr)(R:cz->Prop):Prop
 |mk (e:p.2=p.1) (vs:dg) (l:h.PlainList p.1 vs) (z:vs.size<=2^20) (r:R vs.toList):G1 h p R
inductive G2 (h:Heap)(p:Addr×Addr)(n:Nat)(f:Int->bK):Prop
 |mk (e:p.2=p.1) (s:(p.1==sysModules)=false) (kvs:List<|Int×Value) (m:h.DictOf (intKind X.prog X.w) p.1 kvs) (z:kvs.length<=n) (i:wY f<|valueAt kvs):G2 h p n f
inductive G3 (h:Heap)(p:Addr×Addr)(ks:aY)(R:cz->Prop):Prop
 |mk (e:p.2=p.1) (s:(p.1==sysModules)=false) (vals:cz) (m:h.DictOf (strKind X.prog X.w) p.1<|(ks.map Sx).zip vals) (z:vals.length=ks.length) (r:R vals):G3 h p ks R
inductive G4 (h:Heap)(p:Addr×Addr)(c:String)(ns:aY)(R:cz->Prop):Prop
 |mk (e:p.2≠p.1) (C:Addr) (es:List DictEntry) (n:Nat) (cc:jQ X.K c=some C) (ha:h.get? p.1=some (instObj C p.2)) (hd:h.get? p.2=some (dictOf es n)) (k:jy ns es) (r:R (es.map (·.val))):G4 h p c ns R
def nu(cf:Cf)(h:Heap)(p:Addr×Addr):AO->Prop
 |.l l=>G1 h p<|aO X cf h l
 |.i n f=>G2 X h p n f
 |.s ks l=>G3 X h p ks<|aO X cf h l
 |.n c ns l=>G4 X h p c ns<|aO X cf h l
inductive G5 (H:ak)(ρ:List<|Addr×Addr)(b:Addr):Prop
 |mk (n:Nat) (ao:AO) (p:Addr×Addr) (a:H[n]?=some (some ao)) (r:ρ[n]?=some p) (e:b=p.1\/b=p.2):G5 H ρ b
noncomputable def Own(cf:Cf)(b:Addr):Prop:=G5 cf.H cf.ρ b
structure aU (cf:Cf)(h:Heap):Prop where
 len:cf.ρ.length=cf.H.length
 rep:∀(n:Nat)(ao:AO)(p:Addr×Addr),cf.H[n]?=some (some ao)->cf.ρ[n]?=some p->nu X cf h p ao
 own:∀b,Own cf b->cf.O b
 inj:∀(n m:Nat)(ao bo:AO)(p q:Addr×Addr),cf.H[n]?=some (some ao)->cf.H[m]?=some (some bo)->cf.ρ[n]?=some p->cf.ρ[m]?=some q->n≠m->
  (@Ne Nat p.1 q.1)/\(@Ne Nat p.1 q.2)/\(@Ne Nat p.2 q.1)/\(@Ne Nat p.2 q.2)
 here:∀b,cf.O b->∃o,h.get? b=some o
 base:∀b o,X.b0.get? b=some o->h.get? b=some o/\¬cf.O b
structure Step (cf:Cf)(s:Shared)(aI:Cf)(s':Shared):Prop where
 same:∃h' tk,s'={s with heap:=h',toks:=tk}
 keep:∀b o,¬Own cf b->s.heap.get? b=some o->s'.heap.get? b=some o
 avoid:∀b o,cf.O b->¬Own cf b->s.heap.get? b=some o->aI.O b
 fresh:∀b,aI.O b->cf.O b\/s.heap.get? b=none
 owned:∀b,Own aI b->Own cf b\/s.heap.get? b=none
 refs:∀(n:Nat)(p:Addr×Addr),cf.ρ[n]?=some p->aI.ρ[n]?=some p
theorem Step.refl(cf:Cf)(s:Shared):Step cf s cf s:=⟨I2 s.heap s.toks rfl,λU U U e=>e,λU U h U U=>h,λU h=>.inl h,λU h=>.inl h,λU U h=>h⟩
theorem Step.trans{cf aI nv:Cf}{s s' s'':Shared}(hown:∀b,Own cf b->cf.O b)(x:Step cf s aI s')(y:Step aI s' nv s''):Step cf s nv s'':=by
 have nw:∀b o,¬Own cf b->s.heap.get? b=some o->¬Own aI b:=λb o hb e hw=>by
  rcases x.owned b hw with h|h
  ·exact hb h
  ·rw[h]at e;exact nN e
 have back:∀b,s'.heap.get? b=none->Own cf b\/s.heap.get? b=none:=λb h'=>by
  by_cases hb:Own cf b
  ·exact .inl hb
  ·cases e:s.heap.get? b with
   |none=>exact .inr rfl
   |some o=>rw[x.keep b o hb e]at h';exact sN h'
 refine⟨?_,λb o hb e=>y.keep b o (nw b o hb e)<|x.keep b o hb e,λb o h hb e=>y.avoid b o (x.avoid b o h hb e) (nw b o hb e)<|x.keep b o hb e,λb h=>?_,λb h=>?_,λn p h=>y.refs n p<|x.refs n p h⟩
 ·(refine X2 x.same λh1 t1 aL=>?_;clear x back;subst aL)
  refine X2 y.same λh2 t2 aM=>?_;clear y;subst aM;exact I2 h2 t2 rfl
 ·rcases y.fresh b h with h'|h'
  ·exact x.fresh b h'
  ·exact(back b h').imp (hown b) id
 ·rcases y.owned b h with h'|h'
  ·exact x.owned b h'
  ·exact back b h'
structure Kept (cf:Cf)(h:Heap)(aI:Cf)(h':Heap):Prop where
 keep:∀b o,¬cf.O b->h.get? b=some o->h'.get? b=some o
 avoid:∀b o,¬cf.O b->h.get? b=some o->¬aI.O b
 refs:∀(n:Nat)(p:Addr×Addr),cf.ρ[n]?=some p->aI.ρ[n]?=some p
theorem Step.kept{cf aI:Cf}{s s':Shared}(hown:∀b,Own cf b->cf.O b)(x:Step cf s aI s'):Kept cf s.heap aI s'.heap:=
 ⟨λb o hb e=>x.keep b o (λh=>hb<|hown b h) e,λb o hb e hO=>(x.fresh b hO).elim hb λh=>(by rw[h]at e;exact nN e),x.refs⟩
theorem Al{h:Heap}{a:Addr}{vs:dg}(x:IsTup h a vs):∃o,h.get? a=some o:=x.imp λU e=>e.1
theorem p9{h:Heap}{a:Addr}{vs:dg}(x:h.IsList a vs):∃o,h.get? a=some o:=x.imp λU e=>e.1
theorem oE{h:Heap}{a:Addr}{vs:dg}(x:h.PlainList a vs):∃o,h.get? a=some o:=let ⟨_,e⟩:=x;⟨_,e⟩
theorem G6{h h':Heap}{a:Addr}{vs:dg}(x:IsTup h a vs)(k:∀o,h.get? a=some o->h'.get? a=some o):IsTup h' a vs:=let ⟨o,e,r⟩:=x;(aA o (k o e) r)
theorem G7{prog:Program}{w:World}{Kt:Type}[DecidableEq Kt]{knd:KeyKind prog w Kt}{h:Heap}{a:Addr}{f:Kt->Option Value}(x:h.MapOf knd a f):∃o,h.get? a=some o:=let ⟨o,_,_,e,_⟩:=x;⟨o,e⟩
theorem G8{prog:Program}{w:World}{Kt:Type}[DecidableEq Kt]{knd:KeyKind prog w Kt}{h h':Heap}{a:Addr}{f:Kt->Option Value}(x:h.MapOf knd a f)(k:∀o,h.get? a=some o->h'.get? a=some o):h'.MapOf knd a f:=
 let ⟨o,es,ep,e,r⟩:=x;(wG o es ep (k o e) r)
theorem uq{prog:Program}{w:World}{Kt:Type}[DecidableEq Kt]{knd:KeyKind prog w Kt}{h:Heap}{a:Addr}{f:List<|Kt×Value}(x:h.DictOf knd a f):∃o,h.get? a=some o:=let ⟨o,_,_,e,_⟩:=x;⟨o,e⟩
theorem G9{prog:Program}{w:World}{Kt:Type}[DecidableEq Kt]{knd:KeyKind prog w Kt}{h h':Heap}{a:Addr}{f:List<|Kt×Value}(x:h.DictOf knd a f)(k:∀o,h.get? a=some o->h'.get? a=some o):h'.DictOf knd a f:=
 let ⟨o,es,ep,e,r⟩:=x;(wG o es ep (k o e) r)
theorem l_{Kt:Type}[DecidableEq Kt]:∀(kvs:List<|Kt×Value)(k:Kt),valueAt kvs k=kvs.lookup k
 |[],k=>rfl
 |(a,v)::r,k=>by
  have ih:=l_ r k;unfold valueAt at ih⊢;rw[List.find?_cons,m8];by_cases h:a=k
  ·clear ih;subst h;simp
  ·have h':(k==a)=false:=by simpa usingλe=>h e.symm
   simp[h,h'];simpa using ih
mutual
theorem Rep.mono{X:Cx}{cf aI:Cf}{h h':Heap}(k:Kept cf h aI h'):∀(p:PV){v:Value},Rep X cf h p v->Rep X aI h' p v
 |.n,v,r=>r
 |.b b,v,r=>r
 |.i i,v,r=>r
 |.s s,v,r=>r
 |.t l,v,r=>by obtain⟨a,vs,rfl,ho,ht,hz,hr⟩:=r;refine X1 (Al ht) λo e=>?_;exact⟨a,vs,rfl,k.avoid a o ho e,G6 ht λo' e'=>k.keep a o' ho e',hz,aO.mono k l hr⟩
 |.l l,v,r=>by obtain⟨a,vs,rfl,ho,ht,hz,hr⟩:=r;refine X1 (oE ht) λo e=>?_;exact⟨a,vs,rfl,k.avoid a o ho e,ht.at λo' e'=>k.keep a o' ho e',hz,aO.mono k l hr⟩
 |.r l,v,r=>by obtain⟨a,vs,rfl,ho,ht,hz,hr⟩:=r;refine X1 (p9 ht) λo e=>?_;exact⟨a,vs,rfl,k.avoid a o ho e,ht.at λo' e'=>k.keep a o' ho e',hz,aO.mono k l hr⟩
 |.d f,v,r=>by obtain⟨a,g,rfl,ho,hs,hm,hi⟩:=r;refine X1 (G7 hm) λo e=>?_;exact⟨a,g,rfl,k.avoid a o ho e,hs,G8 hm λo' e'=>k.keep a o' ho e',hi⟩
 |.c ks l,v,r=>by obtain⟨a,vals,rfl,ho,hs,hm,hl,hr⟩:=r;refine X1 (G7 hm) λo e=>?_;exact⟨a,vals,rfl,k.avoid a o ho e,hs,G8 hm λo' e'=>k.keep a o' ho e',hl,aO.mono k l hr⟩
 |.o c ns l,v,r=>by obtain⟨a,d,C,es,n,rfl,ho,hd,hc,e1,e2,hk,hr⟩:=r;exact⟨a,d,C,es,n,rfl,k.avoid a _ ho e1,k.avoid d _ hd e2,hc,k.keep a _ ho e1,k.keep d _ hd e2,hk,aO.mono k l hr⟩
 |.e n,v,r=>by obtain⟨p,e,rfl⟩:=r;exact⟨p,k.refs n p e,rfl⟩
theorem aO.mono{X:Cx}{cf aI:Cf}{h h':Heap}(k:Kept cf h aI h'):∀(l:au){vs:cz},aO X cf h l vs->aO X aI h' l vs
 |[],vs,r=>r
 |p::ps,vs,r=>by obtain⟨v,t,rfl,hr,hs⟩:=r;exact⟨v,t,rfl,Rep.mono k p hr,aO.mono k ps hs⟩
end
end
section
theorem lq{a b:String}(h:Sx a=Sx b):a=b:=by
 have h1:(Sx a).cps.toList=(Sx b).cps.toList:=by exact rR h rfl
 have e:∀s:String,(Sx s).cps.toList=s.toList.map Char.toNat:=λs=>by show((cpsOfBytes 0 0 s.toByteArray.data.toList).toArray).toList=_;refine rR nc ?_;rw[cpsOfBytes_string]
 rw[e,e]at h1;have inj:Function.Injective Char.toNat:=λx y hxy=>by apply Char.ext;exact UInt32.toNat_inj.mp hxy
 have h2:a.toList=b.toList:=(List.map_inj_right λx y hxy=>inj hxy).mp h1;exact String.toList_inj.mp h2
structure eK (X:Cx):Prop where
 w_:X.K.In X.b0
 nolimit:X.b0.NoLimit
 mg:∃(p:Program)(loose:List Str)(mg mb:Str->Option Value),TopRead p loose mg mb X.b0
structure c7 (d:Nat)(A:Around):Prop where
 hh:A.handled=none
 dep:A.depth+d<900
 units:A.units+10*d+200<cLine
theorem c7.mono{d d':Nat}{A:Around}(x:c7 d A)(h:d'<=d):c7 d' A:=⟨x.hh,by have:=x.dep;exact A1 h this,by have:=x.units;exact A2 h this⟩
theorem c7.deeper{d:Nat}{A:Around}(x:c7 (d+1) A)(aa:Env):c7 d (A.deeper aa):=⟨x.hh,by have:=x.dep;show A.depth+1+d<900;exact A5 this,by have:=x.units;show A.units+3+10*d+200<cLine;exact A6 this⟩
structure cK (X:Cx)(cf:Cf)(aa:Env)(ai:b5)(ae:bF)(h:Heap):Prop where
 kind:aa.scope.kind=.function
 glob:aa.globals=mainGlobals
 blt:aa.builtins=builtinsNs
 av:cf.O aa.locals
 iu:∀n c,(n,c)∈aa.cells->cf.O c/\c≠aa.locals
 apart:aa.cells.Pairwise λx y=>x.2≠y.2
 oF:∀x,aa.kindOf x=some .cell->∃c,aa.cells.lookup x=some c
 off:∀b,Own cf b->b≠aa.locals/\∀n c,(n,c)∈aa.cells->b≠c
 vals:∃(m cm:PySem.Str->Option Value),h.Ns aa.locals m/\(∀n c,aa.cells.lookup n=some c->h.IsCell c (cm n))/\
  ∀(i:Nat)(x:String)(pv:PV),ai[i]?=some (some x)->ae[i]?=some (some pv)->
   ∃v,Rep X cf h pv v/\((aa.kindOf (Sx x)=some .local/\m (Sx x)=some v)\/(aa.kindOf (Sx x)=some .cell/\(∃c,aa.cells.lookup (Sx x)=some c)/\cm (Sx x)=some v))
theorem cK.step{X:Cx}{cf aI:Cf}{aa:Env}{ai:b5}{ae:bF}{s s':Shared}(x:cK X cf aa ai ae s.heap)(S:aU X cf s.heap)(st:Step cf s aI s'):cK X aI aa ai ae s'.heap:=by
 refine d_ x.vals λm cm hn hc hv=>?_;have K:=st.kept S.own;have nL:¬Own cf aa.locals:=λq=>(x.off _ q).1 rfl;have nC:∀n c,(n,c)∈aa.cells->¬Own cf c:=λn c hm q=>(x.off _ q).2 n c hm rfl;refine X1 (S.here _ x.av) λoL eL=>?_;refine⟨x.kind,x.glob,x.blt,st.avoid _ _ x.av nL eL,λn c hm=>⟨?_,(x.iu n c hm).2⟩,x.apart,x.oF,λb hb=>?_,m,cm,hn.at' λo e=>st.keep _ o nL e,λn c hl=>?_,λi y pv hi hp=>?_⟩
 ·refine X1 (S.here _ (x.iu n c hm).1) λo e=>?_;exact st.avoid _ _ (x.iu n c hm).1 (nC n c hm) e
 ·rcases st.owned b hb with h|h
  ·exact x.off b h
  ·refine⟨λe=>?_,λn c hm e=>?_⟩
   ·rw[e,eL]at h;exact sN h
   ·refine X1 (S.here _ (x.iu n c hm).1) λo e2=>?_;rw[e,e2]at h;exact sN h
 ·refine aC (hc n c hl) λo e d=>?_;exact aA o (st.keep _ o (nC n c<|iG hl) e) d
 ·refine aC (hv i y pv hi hp) λv r h=>?_;exact aA v (r.mono K) h
inductive Out (X:Cx)(cf:Cf)(s:Shared)(Q:eF)(v:Value)(s':Shared):Prop
 |mk (aI:Cf) (pv:PV) (st:Step cf s aI s') (sim:aU X aI s'.heap) (rep:Rep X aI s'.heap pv v) (q:Q pv aI.H):Out X cf s Q v s'
noncomputable def AE(X:Cx)(d:Nat)(aa:Env)(ai:b5)(ae:bF)(e:Expr)(H:ak)(Q:eF):Prop:=
 ∀A cf s E,c7 d A->cf.H=H->aU X cf s.heap->cK X cf aa ai ae s.heap->wpAny (model X.prog X.w) A (eval e aa) (Out X cf s Q) E s
theorem Out.mono{X:Cx}{cf:Cf}{s:Shared}{Q Q':eF}(h:∀p H,Q p H->Q' p H){v:Value}{s':Shared}(x:Out X cf s Q v s'):Out X cf s Q' v s':=
 let ⟨aI,pv,a,b,c,d⟩:=x;⟨aI,pv,a,b,c,h _ _ d⟩
theorem Out.now{X:Cx}{cf:Cf}{s:Shared}{Q:eF}{v:Value}{pv:PV}(S:aU X cf s.heap)(r:Rep X cf s.heap pv v)(q:Q pv cf.H):Out X cf s Q v s:=
 ⟨cf,pv,Step.refl _ _,S,r,q⟩
theorem Step.toks{cf aI:Cf}{s s':Shared}(x:Step cf s aI s')(t:Nat):Step cf s aI {s' with toks:=t}:=
 ⟨let ⟨h,_,e⟩:=x.same;(I2 h t<|by exact rR e rfl),x.keep,x.avoid,x.fresh,x.owned,x.refs⟩
theorem Wa{X:Cx}{d:Nat}{aa:Env}{ai:b5}{ae:bF}{x:String}{pos:Pos}{H:ak}{Q:eF}{i:Nat}{pv:PV}
  (hi:ai[i]?=some (some x))(hd:(Sx x==("__debug__":Str))=false)(hp:ae[i]?=some (some pv))(q:Q pv H):AE X d aa ai ae (.Name (Sx x) pos) H Q:=by
 rintro A cf s E U rfl S R;refine d_ R.vals λm cm hn hc hv=>?_;obtain⟨v,r,⟨hk,hm⟩|⟨hk,⟨c,hc'⟩,hm⟩⟩:=hv i x pv hi hp
 ·exact wpAny_Name (wpAny_loadName_local R.kind hk hn hm<|Out.now S r q) hd
 ·exact wpAny_Name (wpAny_loadName_cell R.kind hk hc' (hm▸hc _ c hc')<|Out.now S r q) hd
end
section
inductive lu|a|s|m|f|o
 deriving DecidableEq
inductive gw|e|n|l|a|g|b|i|o|s|t
 deriving DecidableEq
inductive oG|l|i|s|o|m|n|a|B
 deriving DecidableEq
inductive IK|v|r|e|z|n
 deriving DecidableEq
inductive CE where
 |c (p:PV)
 |v (i:Nat)
 |g (x:String) (p:PV)
 |t (es:List CE)
 |l (es:List CE)
 |e (es:List CE)
 |b (op:lu) (a b:CE)
 |n (a:CE)
 |o (a:CE)
 |m (op:gw) (a b:CE)
 |p (o1 o2:gw) (a b c:CE)
 |a (cA:Bool) (es:List CE)
 |i (t a b:CE)
 |d (a i:CE)
 |s (a lo hi:CE)
 |r (a:CE)
 |f (a:CE) (x:String)
 |h (f:String) (es:List CE)
 |j (o:CE) (m:String) (es:List CE)
 |k (b:oG) (es:List CE)
 |q (a b:CE)
 |x (a b:CE)
 |u (a:CE)
 |w (d k:CE)
 |y (d k v:CE)
 |z (n:CE)
 |A
 |B
 |C (ks:aY) (ps:au)
 |D (elt:CE) (tp:Bool) (tn:aY) (k:IK) (bZ:List CE) (cond:List CE)
inductive CS where
 |a (i:Nat) (e:CE)
 |s (is:aG) (e:CE)
 |e (o:CE) (x:String) (e:CE)
 |t (o i e:CE)
 |f (tp:Bool) (tgt:aG) (k:IK) (bZ:List CE) (body:List CS)
 |w (t:CE) (body:List CS)
 |i (t:CE) (a b:List CS)
 |r (e:CE)
 |x (e:CE)
 |b
 |c
 |z (i:Nat)
noncomputable def truth:PV->Option Bool
 |.b b=>some b
 |_=>none
noncomputable def e_(H:ak):PV->Option au
 |.t l=>some l
 |.l l=>some l
 |.e n=>match H[n]? with
  |some (some<|.l l)=>some l
  |_=>none
 |_=>none
noncomputable def fh(H:ak):PV->Option au
 |.l l=>some l
 |.e n=>match H[n]? with
  |some (some<|.l l)=>some l
  |_=>none
 |_=>none
noncomputable def Am:PV->Option au
 |.t l=>some l
 |.l l=>some l
 |_=>none
noncomputable def view(H:ak):PV->PV
 |.e n=>match H[n]? with
  |some (some<|.l l)=>.l l
  |_=>.e n
 |v=>v
noncomputable def isAtom:PV->Bool
 |.n=>true
 |.b _=>false
 |.i _=>true
 |.s _=>true
 |.t _=>false
 |.l _=>false
 |.r _=>false
 |.d _=>false
 |.c _ _=>false
 |.o _ _ _=>false
 |.e _=>false
noncomputable def Wb(q:PV->Bool):PV->Bool
 |.n=>false
 |.b _=>false
 |.i _=>false
 |.s _=>false
 |.t l=>l.all q
 |.l l=>l.all q
 |.r _=>false
 |.d _=>false
 |.c _ _=>false
 |.o _ _ _=>false
 |.e _=>false
def simple:Nat->PV->Bool
 |0,p=>isAtom p
 |n+1,p=>isAtom p||Wb (simple n) p
inductive p_ (n:Nat):PV->Prop
 |none:p_ n .n
 |int (i:Int):p_ n<|.i i
 |str (s:String):p_ n<|.s s
 |tup (l:au) (m:Nat) (e:n=m+1) (h:l.all (simple m)=true):p_ n<|.t l
 |lst (l:au) (m:Nat) (e:n=m+1) (h:l.all (simple m)=true):p_ n<|.l l
theorem G_{n:Nat}{p:PV}(h:isAtom p=true):p_ n p:=by
 induction p using d7 with
 |n=>exact .none
 |i i=>exact .int i
 |s s=>exact .str s
 |_=>nomatch h
theorem iJ{n:Nat}{p:PV}(h:simple n p=true):p_ n p:=by
 induction n using gD with
 |zero=>exact G_ h
 |succ n=>
  rcases qX.mp h with h|h
  ·exact G_ h
  ·induction p using d7 with
   |t l=>exact .tup l n rfl h
   |l l=>exact .lst l n rfl h
   |_=>nomatch h
noncomputable def small(i:Int):Prop:=-(2^40)<i/\i<2^40
open Classical in
def mh(H:ak)(op:gw)(a b:PV)(Q:Bool->Prop):Prop:=match op with
 |.e=>((∃x y,a=.b x/\b=.b y)\/(simple 4 (view H a)=true/\simple 4 (view H b)=true))/\Q (decide<|view H a=view H b)
 |.n=>((∃x y,a=.b x/\b=.b y)\/(simple 4 (view H a)=true/\simple 4 (view H b)=true))/\Q (!decide (view H a=view H b))
 |.l=>∃i j,a=.i i/\b=.i j/\Q (decide<|i<j)
 |.a=>∃i j,a=.i i/\b=.i j/\Q (decide<|i<=j)
 |.g=>∃i j,a=.i i/\b=.i j/\Q (decide<|j<i)
 |.b=>∃i j,a=.i i/\b=.i j/\Q (decide<|j<=i)
 |.s=>(b=.n\/∃x,b=.b x)/\Q (decide<|a=b)
 |.t=>(b=.n\/∃x,b=.b x)/\Q (!decide (a=b))
 |.i=>(∃l,e_ H b=some l/\simple 2 a=true/\l.all (simple 2)=true/\Q (decide<|a∈l))\/
   (∃f i,(b=.d f\/∃n,b=.e n/\∃m,H[n]?=some (some<|.i m f))/\a=.i i/\Q (f i).isSome)\/
   (∃ks l x,(b=.c ks l\/∃n,b=.e n/\H[n]?=some (some<|.s ks l))/\a=.s x/\Q (ks.contains x))
 |.o=>(∃l,e_ H b=some l/\simple 2 a=true/\l.all (simple 2)=true/\Q (!decide (a∈l)))\/
   (∃f i,(b=.d f\/∃n,b=.e n/\∃m,H[n]?=some (some<|.i m f))/\a=.i i/\Q (!(f i).isSome))\/
   (∃ks l x,(b=.c ks l\/∃n,b=.e n/\H[n]?=some (some<|.s ks l))/\a=.s x/\Q (!ks.contains x))
def xd(H:ak)(op:lu)(a b:PV)(Q:PV->Prop):Prop:=match op with
 |.a=>(∃i j,a=.i i/\b=.i j/\Q (.i<|i+j))\/(∃l r,fh H a=some l/\fh H b=some r/\l.length+r.length<=2^20/\Q (.l<|l++r))
 |.s=>∃i j,a=.i i/\b=.i j/\Q (.i<|i-j)
 |.m=>∃i j,a=.i i/\b=.i j/\small i/\small j/\Q (.i<|i*j)
 |.f=>∃i j,a=.i i/\b=.i j/\small i/\small j/\0<j/\Q (.i<|i/j)
 |.o=>∃i j,a=.i i/\b=.i j/\0<j/\Q (.i<|i %j)
noncomputable def fW(x:String):aY->au->bR
 |k::ks,v::vs=>if k=x then some v else fW x ks vs
 |_,_=>none
noncomputable def eT(x:String)(v:PV):aY->au->aY×au
 |k::ks,w::ws=>if k=x then(k::ks,v::ws)else let r:=eT x v ks ws;(k::r.1,w::r.2)
 |_,_=>([x],[v])
theorem rt{x k:String}{v w:PV}{ks:aY}{ws:au}:eT x v (k::ks) (w::ws)=if k=x then(k::ks,v::ws)else(k::(eT x v ks ws).1,w::(eT x v ks ws).2):=rfl
theorem rz{x:String}{v:PV}{ws:au}:eT x v [] ws=([x],[v]):=rfl
noncomputable def gx(k:Int)(n:Nat):Option Nat:=if 0<=k then(if k<n then some k.toNat else none)else(if 0<=k+n then some (k+n).toNat else none)
def An(H:ak)(a i:PV)(Q:PV->Prop):Prop:=
 (∃l k j v,e_ H a=some l/\i=.i k/\gx k l.length=some j/\l[j]?=some v/\Q v)\/
 (∃f k v,(a=.d f\/∃n,a=.e n/\∃m,H[n]?=some (some<|.i m f))/\i=.i k/\f k=some v/\Q (.i v))\/
 (∃ks l x v,(a=.c ks l\/∃n,a=.e n/\H[n]?=some (some<|.s ks l))/\i=.s x/\fW x ks l=some v/\Q v)
noncomputable def cutAt(k:Int)(n:Nat):Nat:=if 0<=k then min k.toNat n else(k+n).toNat
def Hf(H:ak)(a lo hi:PV)(Q:PV->Prop):Prop:=
 ∃l i j,(fh H a=some l\/a=.r l)/\((lo=.n/\i=0)\/∃k,lo=.i k/\small k/\i=cutAt k l.length)/\((hi=.n/\j=l.length)\/∃k,hi=.i k/\small k/\j=cutAt k l.length)/\Q (.l<|(l.take j).drop i)
noncomputable def fieldsOf(H:ak):PV->Option (String×aY×au)
 |.o c ns l=>some (c,ns,l)
 |.e n=>match H[n]? with
  |some (some<|.n c ns l)=>some (c,ns,l)
  |_=>none
 |_=>none
def xe(X:Cx)(c x:String):Prop:=∃C attr,jQ X.K c=some C/\plainGet X.K C (Sx x)=true/\hasDictIn X.K C=true/\findIn X.K (.ref C) (Sx x)=some attr/\noGet X.K attr=true
def storeOk(X:Cx)(c x:String):Prop:=∃C,jQ X.K c=some C/\findIn X.K (.ref C) "__setattr__"=some (some<|.builtin "object.__setattr__")/\plainOver X.K C=true/\takerIn X.K C (Sx x)=some none/\hasDictIn X.K C=true
noncomputable def ly(H:ak)(ao:AO)(Q:eF):Prop:=Q (.e H.length)<|H++[some ao]
noncomputable def intsOf:au->Option bk
 |[]=>some []
 |.i i::r=>(intsOf r).map (i::·)
 |_::_=>none
noncomputable def sortedZ(l:bk):bk:=l.mergeSort λa b=>decide<|a<=b
theorem bG{α β:Type}{o:Option α}{f:α->Option β}{r:β}{G:Prop}(h:o.bind f=some r)(k:∀x,o=some x->f x=some r->G):G:=by
 induction o using e9 with
 |none=>exact nN h
 |some x=>exact k x rfl h
theorem i_{α γ β:Type}{o:Option<|α×γ}{f:α×γ->Option β}{r:β}{G:Prop}(h:o.bind f=some r)(k:∀x y,o=some (x,y)->f (x,y)=some r->G):G:=bG h λx=>k x.1 x.2
@[elab_as_elim] theorem omap{α β:Type}{o:Option α}{f:α->β}{r:β}{M:β->Prop}(h:o.map f=some r)(k:∀x,o=some x->M (f x)):M r:=by
 induction o using e9 with
 |none=>exact nN h
 |some x=>obtain rfl:=aK h;exact k x rfl
theorem gY{α β:Type}{o:Option α}{f:α->β}{r:β}{G:Prop}(h:o.map f=some r)(k:∀x,o=some x->f x=r->G):G:=by
 induction o using e9 with
 |none=>exact nN h
 |some x=>exact k x rfl<|aK h
set_option tactic.hygienic true in
theorem qa{α:Type}{c:Prop}[Decidable c]{x:Option α}{r:α}{G:Prop}(h:(if c then x else none)=some r)(k:c->x=some r->G):G:=by
 split at h
 ·rename_i q;exact k q h
 ·exact nN h
set_option tactic.hygienic true in
@[elab_as_elim] theorem Hg{α:Type}{c:Prop}[Decidable c]{x r:α}{M:α->Prop}(h:(if c then some x else none)=some r)(k:c->M x):M r:=by
 split at h
 ·rename_i q;obtain rfl:=aK h;exact k q
 ·exact nN h
theorem mc{α:Type}{P:α->Prop}{a:α}{l:List α}(h:P a)(t:∀b∈l,P b):∀b∈a::l,P b:=List.forall_mem_cons.mpr ⟨h,t⟩
theorem mz{α:Type}{P:α->Prop}:∀b∈([]:List α),P b:=nofun
end
section
abbrev Rt:=Option<|PV×ak
abbrev b7:=String->String->au->ak->Rt
noncomputable def Ao:List (String×String):=[
 ("BidiEntry","level"),("BidiEntry","override"),("BidiEntry","is_isolate"),
 ("BidiStack","depth"),("BidiStack","entries"),("BidiStack","over_isolates"),("BidiStack","over_embeddings"),("BidiStack","valid_isolates"),
 ("BidiSequence","places"),("BidiSequence","classes"),("BidiSequence","level"),("BidiSequence","sos"),("BidiSequence","eos"),("BidiSequence","codes"),
 ("BidiParagraph","begin"),("BidiParagraph","end"),("BidiParagraph","codes"),("BidiParagraph","base"),("BidiParagraph","kinds"),("BidiParagraph","levels"),("BidiParagraph","classes"),
 ("RangeMap","default"),("RangeMap","starts"),("RangeMap","values"),
 ("Data","defaults"),("Data","maps"),("Data","properties"),("Data","words")]
noncomputable def qc(c x:String):Bool:=Ao.contains (c,x)
mutual
noncomputable def fj:PV->PV->Bool
 |.n,b=>(match b with|.n=>true|_=>false)
 |.b x,b=>(match b with|.b y=>x==y|_=>false)
 |.i x,b=>(match b with|.i y=>decide (x=y)|_=>false)
 |.s x,b=>(match b with|.s y=>decide (x=y)|_=>false)
 |.t l,b=>(match b with|.t m=>ur l m|_=>false)
 |.l l,b=>(match b with|.l m=>ur l m|_=>false)
 |.r _,_=>false
 |.d _,_=>false
 |.c _ _,_=>false
 |.o _ _ _,_=>false
 |.e _,_=>false
noncomputable def ur:au->au->Bool
 |[],r=>r.isEmpty
 |a::l,r=>(match r with|[]=>false|b::m=>fj a b&&ur l m)
end
theorem Hh{q:PV->Bool}(hq:∀a,q a=true->fj a a=true):∀l:au,l.all q=true->ur l l=true:=by
 intro l
 induction l with
 |nil=>exactλU=>rfl
 |cons x r ih=>exactλh=>k8.mpr ⟨hq x (k8.mp h).1,ih (k8.mp h).2⟩
theorem xg:∀(n:Nat)(a:PV),simple n a=true->fj a a=true:=by
 intro n
 induction n with
 |zero=>
  intro a h;cases iJ h with
  |none=>rfl
  |int i=>exact di rfl
  |str i=>exact di rfl
  |tup l m e=>nomatch e
  |lst l m e=>nomatch e
 |succ n ih=>
  intro a h;cases iJ h with
  |none=>rfl
  |int i=>exact di rfl
  |str i=>exact di rfl
  |tup l m e h=>obtain rfl:=ng e;exact Hh ih l h
  |lst l m e h=>obtain rfl:=ng e;exact Hh ih l h
noncomputable def fz:Nat->PV->Bool
 |0,v=>(match v with
  |.n=>true
  |.b _=>true
  |.i _=>true
  |.s _=>true
  |.d _=>true
  |.t _=>false
  |.l _=>false
  |.r _=>false
  |.c _ _=>false
  |.o _ _ _=>false
  |.e _=>false)
 |n+1,v=>(match v with
  |.n=>true
  |.b _=>true
  |.i _=>true
  |.s _=>true
  |.d _=>true
  |.t l=>l.all<|fz n
  |.l l=>l.all<|fz n
  |.r l=>l.all<|fz n
  |.c _ l=>l.all<|fz n
  |.o _ _ l=>l.all<|fz n
  |.e _=>false)
noncomputable def xh:PV->Bool
 |.b _=>true
 |_=>false
noncomputable def xj:PV->Bool
 |.b _=>true
 |.n=>true
 |_=>false
noncomputable def cO(i:Int):Bool:=decide (-(2^40)<i)&&decide (i<2^40)
noncomputable def rA(H:ak):PV->Option (Int->bK)
 |.d f=>some f
 |.e n=>match H[n]? with
  |some (some<|.i _ f)=>some f
  |_=>none
 |_=>none
noncomputable def xm(H:ak):PV->Option (aY×au)
 |.c ks l=>some (ks,l)
 |.e n=>match H[n]? with
  |some (some<|.s ks l)=>some (ks,l)
  |_=>none
 |_=>none
def mj(H:ak)(a b:PV):Bool:=(xh a&&xh b)||(simple 4 (view H a)&&simple 4 (view H b))
def xn(H:ak)(a b:PV):Option Bool:=match e_ H b with
 |some l=>if simple 2 a&&l.all (simple 2)then some (l.any<|fj a)else none
 |none=>match a with
  |.i i=>(rA H b).map λf=>(f i).isSome
  |.s x=>(xm H b).map λp=>p.1.contains x
  |_=>none
def cE(H:ak)(op:gw)(a b:PV):Option Bool:=match op with
 |.e=>if mj H a b then some (fj (view H a)<|view H b)else none
 |.n=>if mj H a b then some (!fj (view H a) (view H b))else none
 |.l=>match a,b with|.i i,.i j=>some (decide<|i<j)|_,_=>none
 |.a=>match a,b with|.i i,.i j=>some (decide<|i<=j)|_,_=>none
 |.g=>match a,b with|.i i,.i j=>some (decide<|j<i)|_,_=>none
 |.b=>match a,b with|.i i,.i j=>some (decide<|j<=i)|_,_=>none
 |.s=>if xj b then some (fj a b)else none
 |.t=>if xj b then some (!fj a b)else none
 |.i=>xn H a b
 |.o=>(xn H a b).map (!·)
def kJ(H:ak)(op:lu)(a b:PV):bR:=match a,b with
 |.i i,.i j=>(match op with
  |.a=>some<|.i<|i+j
  |.s=>some<|.i<|i-j
  |.m=>if cO i&&cO j then some (.i<|i*j)else none
  |.f=>if cO i&&cO j&&decide (0<j)then some (.i<|i/j)else none
  |.o=>if decide (0<j)then some (.i<|i %j)else none)
 |a,b=>(match op with
  |.a=>(match fh H a,fh H b with
   |some l,some r=>if l.length+r.length<=2^20 then some (.l<|l++r)else none
   |_,_=>none)
  |_=>none)
def gH(H:ak)(a i:PV):bR:=match i with
 |.s x=>(xm H a).bind λp=>fW x p.1 p.2
 |.i k=>(match e_ H a with
  |some l=>(gx k l.length).bind λj=>l[j]?
  |none=>(rA H a).bind λf=>(f k).map .i)
 |_=>none
def ny(n d:Nat):PV->Option Nat
 |.n=>some d
 |.i k=>if cO k then some (cutAt k n)else none
 |_=>none
def rB(H:ak):PV->Option au
 |.r l=>some l
 |a=>fh H a
def ja(H:ak)(a lo hi:PV):bR:=
 (rB H a).bind λl=>(ny l.length 0 lo).bind λi=>(ny l.length l.length hi).map λj=>.l<|(l.take j).drop i
noncomputable def jR(H:ak)(ao:AO):PV×ak:=(.e H.length,H++[some ao])
noncomputable def gS{β:Type}(v:PV)(f:Int->Option β):Option β:=match v with
 |.i i=>f i
 |_=>none
@[elab_as_elim] theorem xo{β:Type}{f:Int->Option β}{r:β}{M:PV->Prop}(v:PV)(h:gS v f=some r)(K:∀i,f i=some r->M (.i i)):M v:=by
 induction v using d7<;>first|exact K _ h|exact nN h
noncomputable def rC{β:Type}(v:PV)(f:au->Option β):Option β:=match v with
 |.l i=>f i
 |_=>none
@[elab_as_elim] theorem uu{β:Type}{f:au->Option β}{r:β}{M:PV->Prop}(v:PV)(h:rC v f=some r)(K:∀i,f i=some r->M (.l i)):M v:=by
 induction v using d7<;>first|exact K _ h|exact nN h
noncomputable def u1{α β:Type}(l:List α)(f:α->Option β):Option β:=match l with
 |[]=>none
 |x::r=>(match r with
  |[]=>f x
  |_::_=>none)
@[elab_as_elim] theorem xq{α β:Type}{f:α->Option β}{r:β}{M:List α->Prop}(l:List α)(h:u1 l f=some r)(K:∀i,f i=some r->M [i]):M l:=by
 induction l using b9 with
 |nil=>exact nN h
 |cons x l=>induction l using b9 with
  |nil=>exact K _ h
  |cons _ _=>exact nN h
def u2{α β:Type}(l:List α)(f:α->α->Option β):Option β:=match l with
 |[]=>none
 |x::r=>u1 r<|f x
@[elab_as_elim] theorem Aq{α β:Type}{f:α->α->Option β}{r:β}{M:List α->Prop}(l:List α)(h:u2 l f=some r)(K:∀i j,f i j=some r->M [i,j]):M l:=by
 induction l using b9 with
 |nil=>exact nN h
 |cons x l=>exact xq (M:=λl=>M<|x::l) l h<|K x
noncomputable def xr{β:Type}(v:PV)(f:String->Option β):Option β:=match v with
 |.s i=>f i
 |_=>none
@[elab_as_elim] theorem Wc{β:Type}{f:String->Option β}{r:β}{M:PV->Prop}(v:PV)(h:xr v f=some r)(K:∀i,f i=some r->M (.s i)):M v:=by
 induction v using d7<;>first|exact K _ h|exact nN h
noncomputable def uv{β:Type}(v:PV)(f:(Int->bK)->Option β):Option β:=match v with
 |.d i=>f i
 |_=>none
@[elab_as_elim] theorem Wd{β:Type}{f:(Int->bK)->Option β}{r:β}{M:PV->Prop}(v:PV)(h:uv v f=some r)(K:∀i,f i=some r->M (.d i)):M v:=by
 induction v using d7<;>first|exact K _ h|exact nN h
noncomputable def uw{β:Type}(v:PV)(f:aY->au->Option β):Option β:=match v with
 |.c ks l=>f ks l
 |_=>none
@[elab_as_elim] theorem We{β:Type}{f:aY->au->Option β}{r:β}{M:PV->Prop}(v:PV)(h:uw v f=some r)(K:∀ks l,f ks l=some r->M (.c ks l)):M v:=by
 induction v using d7<;>first|exact K _ _ h|exact nN h
theorem nA{β:Type}{f:Int->Option β}{r:β}{v:PV}{G:Prop}(h:gS v f=some r)(K:∀i,v=.i i->f i=some r->G):G:=by revert K;exact xo v h λi h K=>K i rfl h
theorem Hi{β:Type}{f:String->Option β}{r:β}{v:PV}{G:Prop}(h:xr v f=some r)(K:∀i,v=.s i->f i=some r->G):G:=by revert K;exact Wc v h λi h K=>K i rfl h
theorem Wf{β:Type}{f:(Int->bK)->Option β}{r:β}{v:PV}{G:Prop}(h:uv v f=some r)(K:∀i,v=.d i->f i=some r->G):G:=by revert K;exact Wd v h λi h K=>K i rfl h
theorem Wg{β:Type}{f:aY->au->Option β}{r:β}{v:PV}{G:Prop}(h:uw v f=some r)(K:∀ks l,v=.c ks l->f ks l=some r->G):G:=by revert K;exact We v h λi l h K=>K i l rfl h
noncomputable def xu{β:Type}(v:PV)(f:au->Option β):Option β:=match v with
 |.t l=>f l
 |_=>none
theorem xw{β:Type}{f:au->Option β}{r:β}{v:PV}{G:Prop}(h:xu v f=some r)(K:∀i,v=.t i->f i=some r->G):G:=by
 induction v using d7<;>first|exact K _ rfl h|exact nN h
noncomputable def Ar{β:Type}(v:PV)(f:Nat->Option β):Option β:=match v with
 |.e l=>f l
 |_=>none
theorem Hj{β:Type}{f:Nat->Option β}{r:β}{v:PV}{G:Prop}(h:Ar v f=some r)(K:∀i,v=.e i->f i=some r->G):G:=by
 induction v using d7<;>first|exact K _ rfl h|exact nN h
noncomputable def Hl:PV->Option Bool
 |.b _=>some true
 |.n=>some false
 |.i _=>some false
 |.s _=>some false
 |_=>none
noncomputable def Ho:bk->bK
 |[]=>none
 |n::ns=>some<|ns.foldl min n
def jS(H:ak)(b:oG)(vs:au):Rt:=match b with
 |.l=>u1 vs λv=>(e_ H v).map λl=>(.i l.length,H)
 |.i=>u1 vs λv=>(e_ H v).map λl=>(.l l,H)
 |.s=>u1 vs λv=>(e_ H v).map λl=>jR H<|.l l
 |.o=>u1 vs λv=>(fh H v).bind λl=>(intsOf l).bind λns=>if ns.length<64 then some (.l<|(sortedZ ns).map .i,H)else none
 |.m=>u1 vs λv=>(fh H v).bind λl=>(intsOf l).bind λns=>(Ho ns).map λn=>(.i n,H)
 |.n=>u2 vs λv w=>gS v λi=>gS w λj=>some (.i<|min i j,H)
 |.a=>u2 vs λv w=>gS v λi=>gS w λj=>some (.i<|max i j,H)
 |.B=>u1 vs λv=>(Hl v).map λb=>(.b b,H)
noncomputable def fk(a b:Int):au:=(List.range (b-a).toNat).map λ(i:Nat)=>PV.i<|a+(i:Int)
noncomputable def kK(a b:Int):au:=(List.range (a-b).toNat).map λ(i:Nat)=>PV.i<|a-(i:Int)
noncomputable def dU(l:au):au:=l.zipIdx.map λp=>.t [.i p.2,p.1]
noncomputable def gZ(l r:au):au:=(l.zip r).map λp=>.t [p.1,p.2]
def fb(k:IK)(vs:au):Option au:=match k with
 |.v=>u1 vs Am
 |.r=>(match vs with
  |[]=>none
  |a::r=>gS a λa=>(match r with
   |[]=>if cO a&&decide (a<=2^20)then some (fk 0 a)else none
   |b::r=>gS b λb=>(match r with
    |[]=>if cO a&&cO b&&decide (b-a<=2^20)then some (fk a b)else none
    |c::r=>gS c λc=>(match r with
     |[]=>if cO a&&cO b&&cO (b-a)&&decide (a-b<=2^20)&&decide (c=-1)then some (kK a b)else none
     |_::_=>none))))
 |.e=>u1 vs λl=>rC l λl=>some<|dU l
 |.z=>u2 vs λl r=>rC l λl=>rC r λr=>some<|gZ l r
 |.n=>u2 vs λl r=>rC l λl=>rC r λr=>if l.length=r.length then some (dU<|gZ l r)else none
noncomputable def jT(step:PV->ak->Option (bR×ak)):au->ak->Option (au×ak)
 |[],H=>some ([],H)
 |x::r,H=>(step x H).bind λp=>(jT step r p.2).map λq=>(p.1.toList++q.1,q.2)
noncomputable def iK(tp:Bool)(n:Nat)(x:PV):Option bF:=
 if tp then(match x with
  |.t l=>if l.length=n then some (l.map some)else none
  |_=>none)
 else some [some x]
noncomputable def iL(H:ak):PV->Option (Nat×au)
 |.e n=>match H[n]? with
  |some (some<|.l l)=>some (n,l)
  |_=>none
 |_=>none
mutual
noncomputable def az(Γ:b7):CE->bF->ak->Rt
 |.c p,_,H=>some (p,H)
 |.v i,ae,H=>(ae[i]?).bind λo=>o.map λv=>(v,H)
 |.g _ p,_,H=>some (p,H)
 |.t es,ae,H=>(cX Γ es ae H).map λr=>(.t r.1,r.2)
 |.l es,ae,H=>(cX Γ es ae H).map λr=>(.l r.1,r.2)
 |.e es,ae,H=>(cX Γ es ae H).map λr=>jR r.2<|.l r.1
 |.b op a b,ae,H=>(az Γ a ae H).bind λx=>(az Γ b ae x.2).bind λy=>(kJ y.2 op x.1 y.1).map λv=>(v,y.2)
 |.n a,ae,H=>(az Γ a ae H).bind λx=>gS x.1 λi=>some (.i<|-i,x.2)
 |.o a,ae,H=>(az Γ a ae H).bind λx=>(truth x.1).map λb=>(.b<|!b,x.2)
 |.m op a b,ae,H=>(az Γ a ae H).bind λx=>(az Γ b ae x.2).bind λy=>(cE y.2 op x.1 y.1).map λv=>(.b v,y.2)
 |.p o1 o2 a b c,ae,H=>(az Γ a ae H).bind λx=>(az Γ b ae x.2).bind λy=>(cE y.2 o1 x.1 y.1).bind λt=>
   if t then(az Γ c ae y.2).bind λz=>(cE z.2 o2 y.1 z.1).map λv=>(.b v,z.2)else some (.b false,y.2)
 |.a cA es,ae,H=>jz Γ cA es ae H
 |.i t a b,ae,H=>(az Γ t ae H).bind λx=>(truth x.1).bind λc=>if c then az Γ a ae x.2 else az Γ b ae x.2
 |.d a i,ae,H=>(az Γ a ae H).bind λx=>(az Γ i ae x.2).bind λy=>(gH y.2 x.1 y.1).map λv=>(v,y.2)
 |.s a lo hi,ae,H=>(az Γ a ae H).bind λx=>(az Γ lo ae x.2).bind λy=>(az Γ hi ae y.2).bind λz=>(ja z.2 x.1 y.1 z.1).map λv=>(v,z.2)
 |.r a,ae,H=>(az Γ a ae H).bind λx=>(fh x.2 x.1).map λl=>(.l l.reverse,x.2)
 |.f a f,ae,H=>(az Γ a ae H).bind λx=>(fieldsOf x.2 x.1).bind λo=>if qc o.1 f then(fW f o.2.1 o.2.2).map λv=>(v,x.2)else none
 |.h f es,ae,H=>(cX Γ es ae H).bind λr=>Γ "" f r.1 r.2
 |.j o m es,ae,H=>(az Γ o ae H).bind λx=>(fieldsOf x.2 x.1).bind λc=>(if c.2.1.contains m||c.1=="" then none else cX Γ es ae x.2).bind λr=>Γ c.1 m (x.1::r.1) r.2
 |.k b es,ae,H=>(cX Γ es ae H).bind λr=>jS r.2 b r.1
 |.q a b,ae,H=>(az Γ a ae H).bind λx=>(iL x.2 x.1).bind λU=>(az Γ b ae x.2).bind λy=>(iL y.2 x.1).bind λc=>
   if c.2.length<2^20 then some (.n,y.2.set c.1<|some<|.l<|c.2++[y.1])else none
 |.x a b,ae,H=>(az Γ a ae H).bind λx=>(iL x.2 x.1).bind λU=>(az Γ b ae x.2).bind λy=>(iL y.2 x.1).bind λc=>(fh y.2 y.1).bind λr=>
   if c.2.length+r.length<=2^20 then some (.n,y.2.set c.1<|some<|.l<|c.2++r)else none
 |.u a,ae,H=>(az Γ a ae H).bind λx=>(iL x.2 x.1).bind λc=>(c.2.getLast?).map λv=>(v,x.2.set c.1<|some<|.l c.2.dropLast)
 |.w dd k,ae,H=>(az Γ dd ae H).bind λx=>uw x.1 λks l=>(az Γ k ae x.2).bind λy=>xr y.1 λs=>some ((fW s ks l).getD .n,y.2)
 |.y dd k v,ae,H=>(az Γ dd ae H).bind λx=>uv x.1 λf=>(az Γ k ae x.2).bind λy=>(az Γ v ae y.2).bind λz=>gS y.1 λi=>gS z.1 λj=>some (.i<|(f i).getD j,z.2)
 |.z n,ae,H=>(az Γ n ae H).bind λx=>gS x.1 λk=>if 0<=k/\k<=2^20 then some (jR x.2<|.l<|List.replicate k.toNat .n)else none
 |.A,_,H=>some<|jR H (.i 0 λU=>none)
 |.B,_,H=>some<|jR H<|.s [] []
 |.C ks ps,_,H=>some<|jR H<|.s ks ps
 |.D elt tp tn k bZ cond,ae,H=>(cX Γ bZ ae H).bind λr=>(fb k r.1).bind λitems=>
   (jT (λx h=>(iK tp tn.length x).bind λown=>(jz Γ true cond (ae++own) h).bind λc=>(truth c.1).bind λb=>
    if b then(az Γ elt (ae++own) c.2).map λv=>(some v.1,v.2)else some (none,c.2)) items r.2).map λq=>(.l q.1,q.2)
noncomputable def cX(Γ:b7):List CE->bF->ak->Option (au×ak)
 |[],_,H=>some ([],H)
 |e::es,ae,H=>(az Γ e ae H).bind λx=>(cX Γ es ae x.2).map λr=>(x.1::r.1,r.2)
noncomputable def jz(Γ:b7)(cA:Bool):List CE->bF->ak->Rt
 |[],_,H=>some (.b cA,H)
 |e::es,ae,H=>(az Γ e ae H).bind λx=>(truth x.1).bind λb=>if b=cA then jz Γ cA es ae x.2 else some x
end
inductive dW where
 |n|b|c|r (v:PV)
abbrev Rs:=Option<|dW×bF×ak
noncomputable def oH(step:PV->bF->ak->Rs):au->bF->ak->Rs
 |[],ae,H=>some (.n,ae,H)
 |x::r,ae,H=>(step x ae H).bind λt=>match t.1 with
   |.n=>oH step r t.2.1 t.2.2
   |.c=>oH step r t.2.1 t.2.2
   |.b=>some (.n,t.2.1,t.2.2)
   |.r v=>some (.r v,t.2.1,t.2.2)
noncomputable def oJ(test:bF->ak->Option (Bool×ak))(body:bF->ak->Rs):Nat->bF->ak->Rs
 |0,_,_=>none
 |n+1,ae,H=>(test ae H).bind λt=>if t.1 then(body ae t.2).bind λu=>match u.1 with
   |.n=>oJ test body n u.2.1 u.2.2
   |.c=>oJ test body n u.2.1 u.2.2
   |.b=>some (.n,u.2.1,u.2.2)
   |.r v=>some (.r v,u.2.1,u.2.2)
  else some (.n,ae,t.2)
noncomputable def bx:aG->au->bF->bF
 |i::is,v::vs,ae=>bx is vs<|ae.set i<|some v
 |_,_,ae=>ae
def iw(tp:Bool)(tgt:aG)(x:PV)(ae:bF):Option bF:=match tp with
 |false=>u1 tgt λi=>some<|ae.set i<|some x
 |true=>xu x λl=>if tgt.length=l.length then some (bx tgt l ae)else none
def xx(H:ak)(v:PV):Rt:=(iL H v).bind λc=>if c.2.all (fz 4)then some (.l c.2,H.set c.1 none)else none
def rE(H:ak)(o i v:PV):Option ak:=Ar o λn=>(H[n]?).bind λo=>o.bind λao=>match ao with
 |.l l=>gS i λk=>(gx k l.length).map λj=>H.set n<|some<|.l<|l.set j v
 |.i m f=>gS i λk=>gS v λj=>if m<2^20 then some (H.set n<|some (.i (m+1) λx=>if x=k then some j else f x))else none
 |.s ks l=>xr i λx=>if ks.length<1000 then some (H.set n<|some<|.s (eT x v ks l).1 (eT x v ks l).2)else none
 |.n _ _ _=>none
def Hp(H:ak)(o:PV)(x:String)(v:PV):Option ak:=Ar o λn=>(H[n]?).bind λo=>o.bind λao=>match ao with
 |.n c ns l=>if ns.length<100&&qc c x then some (H.set n<|some<|.n c (eT x v ns l).1 (eT x v ns l).2)else none
 |.l _=>none
 |.i _ _=>none
 |.s _ _=>none
noncomputable def fuel:Nat:=1000
mutual
noncomputable def iy(Γ:b7):CS->bF->ak->Rs
 |.a i e,ae,H=>(az Γ e ae H).map λx=>(.n,ae.set i<|some x.1,x.2)
 |.s is e,ae,H=>(az Γ e ae H).bind λx=>(iw true is x.1 ae).map λcZ=>(.n,cZ,x.2)
 |.e o f e,ae,H=>(az Γ e ae H).bind λx=>(az Γ o ae x.2).bind λy=>(Hp y.2 y.1 f x.1).map λh=>(.n,ae,h)
 |.t o i e,ae,H=>(az Γ e ae H).bind λx=>(az Γ o ae x.2).bind λy=>(az Γ i ae y.2).bind λz=>(rE z.2 y.1 z.1 x.1).map λh=>(.n,ae,h)
 |.f tp tgt k bZ body,ae,H=>(cX Γ bZ ae H).bind λr=>(fb k r.1).bind λitems=>oH (λx cT h=>(iw tp tgt x cT).bind λjU=>aF Γ body jU h) items ae r.2
 |.w t body,ae,H=>oJ (λcT h=>(az Γ t cT h).bind λx=>(truth x.1).map λb=>(b,x.2)) (λcT h=>aF Γ body cT h) fuel ae H
 |.i t a b,ae,H=>(az Γ t ae H).bind λx=>(truth x.1).bind λc=>if c then aF Γ a ae x.2 else aF Γ b ae x.2
 |.r e,ae,H=>(az Γ e ae H).map λx=>(.r x.1,ae,x.2)
 |.x e,ae,H=>(az Γ e ae H).map λx=>(.n,ae,x.2)
 |.b,ae,H=>some (.b,ae,H)
 |.c,ae,H=>some (.c,ae,H)
 |.z i,ae,H=>(ae[i]?).bind λo=>o.bind λv=>(xx H v).map λr=>(.n,ae.set i<|some r.1,r.2)
noncomputable def aF(Γ:b7):List CS->bF->ak->Rs
 |[],ae,H=>some (.n,ae,H)
 |s::r,ae,H=>(iy Γ s ae H).bind λt=>match t.1 with
   |.n=>aF Γ r t.2.1 t.2.2
   |f=>some (f,t.2.1,t.2.2)
end
inductive FK|f|c
 deriving DecidableEq
structure bl where
 name:String
 kind:FK
 pure:Bool
 names:aY
 arity:Nat
 defaults:au
 body:List CS
def lz(v:PV):bR:=if fz 4 v then some v else none
noncomputable def Wh(f:PV->bR):AO->bR
 |.l l=>(l.mapM f).map .l
 |.i _ f=>some<|.d f
 |.s ks l=>(l.mapM f).map<|.c ks
 |.n c ns l=>(l.mapM f).map<|.o c ns
def b8:Nat->ak->PV->bR
 |0,_,v=>lz v
 |n+1,H,v=>(match v with
  |.e m=>(H[m]?).bind λo=>o.bind<|Wh<|b8 n H
  |.t l=>(l.mapM<|b8 n H).map .t
  |.n=>lz .n
  |.b b=>lz<|.b b
  |.i b=>lz<|.i b
  |.s b=>lz<|.s b
  |.l b=>lz<|.l b
  |.r b=>lz<|.r b
  |.d b=>lz<|.d b
  |.c k b=>lz<|.c k b
  |.o c k b=>lz<|.o c k b)
noncomputable def jb(ir:bl)(args:au):Option au:=
 if args.length<=ir.arity/\ir.arity<=args.length+ir.defaults.length then some (args++ir.defaults.drop (ir.defaults.length-(ir.arity-args.length)))else none
noncomputable def fX:dW->PV
 |.r v=>v
 |_=>.n
noncomputable def rF(r:dW×bF×ak):Option ak:=match r.1 with
 |.n=>some r.2.2
 |_=>none
noncomputable def g7(ir:bl)(vs:au):bF:=vs.map some++List.replicate (ir.names.length-vs.length) none
def jA(Γ:b7)(ir:bl)(args:au)(H:ak):Rt:=(jb ir args).bind λvs=>
 match ir.kind,ir.pure with
 |.f,true=>if vs.all (fz 8)then(aF Γ ir.body (g7 ir vs) []).bind λr=>(b8 6 r.2.2<|fX r.1).map λv=>(v,H)else none
 |.f,false=>(aF Γ ir.body (g7 ir vs) H).map λr=>(fX r.1,r.2.2)
 |.c,true=>if vs.all (fz 8)then(aF Γ ir.body (g7 ir<|PV.e 0::vs) [some<|.n ir.name [] []]).bind λr=>(rF r).bind λh=>(b8 6 h<|.e 0).map λv=>(v,H)else none
 |.c,false=>(aF Γ ir.body (g7 ir<|PV.e H.length::vs)<|H++[some<|.n ir.name [] []]).bind λr=>(rF r).map λh=>(.e H.length,h)
end
section
noncomputable def Wi:PV:=(.i 125)
noncomputable def As:PV:=(.t [.s "L",.s "R",.s "AL"])
noncomputable def rG:PV:=(.t [.s "RLE",.s "LRE",.s "RLO",.s "LRO"])
noncomputable def iM:PV:=(.t [.s "LRI",.s "RLI",.s "FSI"])
noncomputable def oK:PV:=(.t [.s "RLE",.s "LRE",.s "RLO",.s "LRO",.s "PDF",.s "BN"])
noncomputable def qd:PV:=(.s "B")
noncomputable def Hq:PV:=(.i 13)
noncomputable def Hr:PV:=(.i 10)
noncomputable def Hs:PV:=(.i 63)
noncomputable def Au:PV:=(.t [.s "LRI",.s "RLI",.s "FSI",.s "PDI"])
noncomputable def Av:PV:=(.t [.s "B",.s "S",.s "WS",.s "ON",.s "LRI",.s "RLI",.s "FSI",.s "PDI"])
noncomputable def Aw:PV:=(.t [.s "ES",.s "ET",.s "CS"])
noncomputable def ux:PV:=(.t [.s "EN",.s "AN"])
noncomputable def uy:PV:=(.t [.s "S",.s "B"])
noncomputable def uz:PV:=(.t [.s "WS",.s "FSI",.s "LRI",.s "RLI",.s "PDI"])
noncomputable def Ax:PV:=(.t [.s "Mn",.s "Me"])
noncomputable def Ht:PV:=(.i 1114111)
def xy:List (String×PV):=[("MAX_DEPTH",Wi),("STRONG",As),("EMBEDDINGS",rG),("INITIATORS",iM),("REMOVED",oK),("SEPARATOR",qd),("CARRIAGE_RETURN",Hq),("LINE_FEED",Hr),("MOST_BRACKETS",Hs),("ISOLATE_SIGNS",Au),("NEUTRALS",Av),("LEFT_OVERS",Aw),("NUMBERS",ux),("LINE_SEPARATORS",uy),("LINE_BLANKS",uz),("LINE_MARKS",Ax),("MAX_CODE",Ht)]
noncomputable def Ay:List CS:=[.r<|.D (.j (.v 1) "get" [.c<|.s "bc",.v 2]) false ["code"] .v [.v 0] []]
def Hu:bl:=⟨"bidi_kinds",.f,true,["text","data"],2,[],Ay⟩
def Az:List CS:=[.a 2<|.e [],
 .a 3 (.c<|.i 0),
 .f true [4,5] .e [.v 0]
  [.i (.m .e (.j (.v 1) "get" [.c<|.s "bc",.v 5])<|.g "SEPARATOR" qd)
   [.a 6<|.a true [.m .e (.v 5)<|.g "CARRIAGE_RETURN" Hq,.m .l (.b .a (.v 4)<|.c<|.i 1)<|.k .l [.v 0],.m .e (.d (.v 0)<|.b .a (.v 4)<|.c<|.i 1)<|.g "LINE_FEED" Hr],
   .i (.o<|.v 6)
    [.x<|.q (.v 2)<|.t [.v 3,.b .a (.v 4)<|.c<|.i 1],
    .a 3 (.b .a (.v 4)<|.c<|.i 1)]
    []]
   []],
 .i (.m .l (.v 3)<|.k .l [.v 0])
  [.x<|.q (.v 2)<|.t [.v 3,.k .l [.v 0]]]
  [],
 .r (.v 2)]
def Hv:bl:=⟨"paragraphs",.f,true,["text","data","found","begun","at","code","is_pair"],2,[],Az⟩
def AA:List CS:=[.a 1 .A,
 .a 2 (.e []),
 .f true [3,4] .e [.v 0]
  [.i (.m .i (.v 4)<|.g "INITIATORS" iM)
   [.x<|.q (.v 2)<|.v 3]
   [.i (.a true [.m .e (.v 4)<|.c<|.s "PDI",.m .n (.v 2)<|.l []])
    [.a 5<|.u<|.v 2,
    .t (.v 1) (.v 5) (.v 3),
    .t (.v 1) (.v 3) (.v 5)]
    [.i (.m .e (.v 4)<|.g "SEPARATOR" qd)
     [.a 2<|.e []]
     []]]],
 .r (.v 1)]
def Hw:bl:=⟨"isolate_pairs",.f,true,["kinds","found","waiting","at","kind","begin"],1,[],AA⟩
def AB:List CS:=[.a 4<|.v 1,
 .w (.m .l (.v 4)<|.v 2)
  [.a 5<|.d (.v 0)<|.v 4,
  .i (.m .i (.v 5)<|.g "STRONG" As)
   [.r<|.v 5]
   [],
  .i (.m .e (.v 5)<|.g "SEPARATOR" qd)
   [.r<|.c .n]
   [],
  .i (.m .i (.v 5)<|.g "INITIATORS" iM)
   [.i (.m .o (.v 4)<|.v 3)
    [.r<|.c .n]
    [],
   .a 4 (.d (.v 3)<|.v 4)]
   [],
  .a 4 (.b .a (.v 4)<|.c<|.i 1)],
 .r (.c .n)]
def Hx:bl:=⟨"bidi_first_strong",.f,true,["kinds","begin","end","pairs","at","kind"],4,[],AB⟩
noncomputable def AD:List CS:=[.r<|.h "bidi_base" [.h "bidi_kinds" [.v 0,.v 1],.v 2]]
def Hy:bl:=⟨"base_level",.f,true,["text","data","word"],3,[.s "auto"],AD⟩
noncomputable def AF:List CS:=[.i (.a false [.m .e (.v 1)<|.c<|.s "ltr",.m .e (.v 1)<|.c<|.s "rtl"])
  [.r<|.i (.m .e (.v 1)<|.c<|.s "ltr") (.c<|.i 0)<|.c<|.i 1]
  [],
 .a 2 (.h "bidi_first_strong" [.v 0,.c<|.i 0,.k .l [.v 0],.h "isolate_pairs" [.v 0]]),
 .i (.m .s (.v 2)<|.c .n)
  [.r<|.i (.m .e (.v 1)<|.c<|.s "auto-rtl") (.c<|.i 1)<|.c<|.i 0]
  [],
 .r (.i (.m .e (.v 2)<|.c<|.s "L") (.c<|.i 0)<|.c<|.i 1)]
def Hz:bl:=⟨"bidi_base",.f,true,["kinds","word","strong"],2,[],AF⟩
noncomputable def Wj:List CS:=[.e (.v 0) "level"<|.v 1,
 .e (.v 0) "override" (.v 2),
 .e (.v 0) "is_isolate" (.v 3)]
def Wk:bl:=⟨"BidiEntry",.c,true,["self","level","override","is_isolate"],3,[],Wj⟩
noncomputable def Wl:List CS:=[.e (.v 0) "depth"<|.v 2,
 .e (.v 0) "entries" (.e [.h "BidiEntry" [.v 1,.c .n,.c<|.b false]]),
 .e (.v 0) "over_isolates" (.c<|.i 0),
 .e (.v 0) "over_embeddings" (.c<|.i 0),
 .e (.v 0) "valid_isolates" (.c<|.i 0)]
def Wm:bl:=⟨"BidiStack",.c,false,["self","base","depth"],2,[],Wl⟩
noncomputable def AG:List CS:=[.r<|.d (.f (.v 0) "entries")<|.n<|.c<|.i 1]
def HA:bl:=⟨"last",.f,false,["self"],1,[],AG⟩
noncomputable def AH:List CS:=[.a 2<|.f (.j (.v 0) "last" []) "level",
 .i (.v 1)
  [.r<|.b .a (.b .a (.v 2)<|.c<|.i 1)<|.b .o (.v 2)<|.c<|.i 2]
  [],
 .r (.b .s (.b .a (.v 2)<|.c<|.i 2)<|.b .o (.v 2)<|.c<|.i 2)]
def HB:bl:=⟨"further",.f,false,["self","is_right","level"],2,[],AH⟩
noncomputable def AI:List CS:=[.r<|.a true [.m .a (.v 1)<|.f (.v 0) "depth",.m .e (.f (.v 0) "over_isolates")<|.c<|.i 0,.m .e (.f (.v 0) "over_embeddings")<|.c<|.i 0]]
def HC:bl:=⟨"is_free",.f,false,["self","level"],2,[],AI⟩
noncomputable def AJ:List CS:=[.a 3<|.j (.v 0) "further" [.v 1],
 .i (.j (.v 0) "is_free" [.v 3])
  [.x<|.q (.f (.v 0) "entries")<|.h "BidiEntry" [.v 3,.v 2,.c<|.b false]]
  [.i (.m .e (.f (.v 0) "over_isolates")<|.c<|.i 0)
   [.e (.v 0) "over_embeddings"<|.b .a (.f (.v 0) "over_embeddings")<|.c<|.i 1]
   []]]
def HD:bl:=⟨"embed",.f,false,["self","is_right","override","level"],3,[],AJ⟩
noncomputable def AK:List CS:=[.a 2<|.j (.v 0) "further" [.v 1],
 .i (.j (.v 0) "is_free" [.v 2])
  [.e (.v 0) "valid_isolates"<|.b .a (.f (.v 0) "valid_isolates")<|.c<|.i 1,
  .x (.q (.f (.v 0) "entries")<|.h "BidiEntry" [.v 2,.c .n,.c<|.b true])]
  [.e (.v 0) "over_isolates"<|.b .a (.f (.v 0) "over_isolates")<|.c<|.i 1]]
def HE:bl:=⟨"isolate",.f,false,["self","is_right","level"],2,[],AK⟩
noncomputable def AL:List CS:=[.i (.m .g (.f (.v 0) "over_isolates")<|.c<|.i 0)
  [.e (.v 0) "over_isolates"<|.b .s (.f (.v 0) "over_isolates")<|.c<|.i 1]
  [.i (.m .g (.f (.v 0) "valid_isolates")<|.c<|.i 0)
   [.e (.v 0) "over_embeddings"<|.c<|.i 0,
   .w (.o<|.f (.j (.v 0) "last" []) "is_isolate")
    [.x<|.u<|.f (.v 0) "entries"],
   .x (.u<|.f (.v 0) "entries"),
   .e (.v 0) "valid_isolates" (.b .s (.f (.v 0) "valid_isolates")<|.c<|.i 1)]
   []]]
def HF:bl:=⟨"end_isolate",.f,false,["self"],1,[],AL⟩
noncomputable def AM:List CS:=[.i (.m .g (.f (.v 0) "over_isolates")<|.c<|.i 0)
  [.r<|.c .n]
  [],
 .i (.m .g (.f (.v 0) "over_embeddings")<|.c<|.i 0)
  [.e (.v 0) "over_embeddings"<|.b .s (.f (.v 0) "over_embeddings")<|.c<|.i 1]
  [.i (.a true [.o<|.f (.j (.v 0) "last" []) "is_isolate",.m .g (.k .l [.f (.v 0) "entries"])<|.c<|.i 1])
   [.x<|.u<|.f (.v 0) "entries"]
   []]]
def HG:bl:=⟨"end_embedding",.f,false,["self"],1,[],AM⟩
def AN:List CS:=[.a 3<|.h "BidiStack" [.v 1,.v 2],
 .a 4 (.h "isolate_pairs" [.v 0]),
 .a 5 (.e []),
 .a 6 (.e []),
 .f true [7,8] .e [.v 0]
  [.i (.m .i (.v 8)<|.g "REMOVED" oK)
   [.x<|.q (.v 5)<|.c .n,
   .x (.q (.v 6)<|.c<|.s "BN"),
   .i (.m .i (.v 8)<|.g "EMBEDDINGS" rG)
    [.a 9<|.a false [.m .e (.v 8)<|.c<|.s "RLE",.m .e (.v 8)<|.c<|.s "RLO"],
    .a 10 (.i (.a false [.m .e (.v 8)<|.c<|.s "RLO",.m .e (.v 8)<|.c<|.s "LRO"]) (.i (.v 9) (.c<|.s "R")<|.c<|.s "L")<|.c .n),
    .x (.j (.v 3) "embed" [.v 9,.v 10])]
    [.i (.m .e (.v 8)<|.c<|.s "PDF")
     [.x<|.j (.v 3) "end_embedding" []]
     []]]
   [.i (.m .e (.v 8)<|.g "SEPARATOR" qd)
    [.x<|.q (.v 5)<|.v 1,
    .x (.q (.v 6)<|.v 8)]
    [.i (.m .e (.v 8)<|.c<|.s "PDI")
     [.x<|.j (.v 3) "end_isolate" []]
     [],
    .a 11 (.j (.v 3) "last" []),
    .x (.q (.v 5)<|.f (.v 11) "level"),
    .x (.q (.v 6)<|.i (.m .t (.f (.v 11) "override")<|.c .n) (.f (.v 11) "override")<|.v 8),
    .i (.m .i (.v 8)<|.g "INITIATORS" iM)
     [.x<|.j (.v 3) "isolate" [.h "bidi_is_right_isolate" [.v 0,.v 7,.v 4]]]
     []]]],
 .r (.t [.v 5,.v 6])]
def HH:bl:=⟨"explicit",.f,true,["kinds","base","depth","stack","pairs","levels","classes","at","kind","is_right","override","entry"],3,[.i 125],AN⟩
noncomputable def AQ:List CS:=[.i (.m .n (.d (.v 0)<|.v 1)<|.c<|.s "FSI")
  [.r<|.m .e (.d (.v 0)<|.v 1)<|.c<|.s "RLI"]
  [],
 .a 3 (.h "bidi_first_strong" [.v 0,.b .a (.v 1)<|.c<|.i 1,.y (.v 2) (.v 1)<|.k .l [.v 0],.v 2]),
 .r (.a false [.m .e (.v 3)<|.c<|.s "R",.m .e (.v 3)<|.c<|.s "AL"])]
def HJ:bl:=⟨"bidi_is_right_isolate",.f,true,["kinds","at","pairs","strong"],3,[],AQ⟩
noncomputable def AR:List CS:=[.a 1<|.e [],
 .a 2 (.c .n),
 .f true [3,4] .e [.v 0]
  [.i (.m .t (.v 4)<|.c .n)
   [.i (.m .n (.v 4)<|.v 2)
    [.x<|.q (.v 1)<|.e []]
    [],
   .x (.q (.d (.v 1)<|.n<|.c<|.i 1)<|.v 3),
   .a 2 (.v 4)]
   []],
 .r (.v 1)]
def HL:bl:=⟨"level_runs",.f,true,["levels","found","last","at","level"],1,[],AR⟩
noncomputable def Wn:List CS:=[.e (.v 0) "places"<|.v 1,
 .e (.v 0) "classes" (.v 2),
 .e (.v 0) "level" (.v 3),
 .e (.v 0) "sos" (.v 4),
 .e (.v 0) "eos" (.v 5),
 .e (.v 0) "codes" (.k .i [.v 6])]
def HM:bl:=⟨"BidiSequence",.c,true,["self","places","classes","level","sos","eos","codes"],6,[.t []],Wn⟩
noncomputable def AS:List CS:=[.r<|.i (.m .e (.b .o (.k .a [.v 0,.v 1])<|.c<|.i 2)<|.c<|.i 1) (.c<|.s "R")<|.c<|.s "L"]
def HN:bl:=⟨"bidi_direction",.f,true,["one","other"],2,[],AS⟩
noncomputable def AU:List CS:=[.a 1<|.b .a (.v 1)<|.v 2,
 .w (.p .a .l (.c<|.i 0) (.v 1)<|.k .l [.v 0])
  [.i (.m .t (.d (.v 0)<|.v 1)<|.c .n)
   [.r<|.d (.v 0)<|.v 1]
   [],
  .a 1 (.b .a (.v 1)<|.v 2)],
 .r (.v 3)]
def HO:bl:=⟨"bidi_level_beside",.f,true,["levels","at","step","base"],4,[],AU⟩
def AV:List CS:=[.a 3<|.h "level_runs" [.v 1],
 .a 4 .A,
 .f true [5,6] .e [.v 3]
  [.t (.v 4) (.d (.v 6)<|.c<|.i 0)<|.v 5],
 .a 7 (.e []),
 .f false [6] .v [.v 3]
  [.i (.a true [.m .e (.d (.v 0)<|.d (.v 6)<|.c<|.i 0)<|.c<|.s "PDI",.m .i (.d (.v 6)<|.c<|.i 0)<|.v 2])
   [.c]
   [],
  .a 8 (.k .s [.v 6]),
  .w (.a true [.m .i (.d (.v 0)<|.d (.v 8)<|.n<|.c<|.i 1)<|.g "INITIATORS" iM,.m .i (.d (.v 8)<|.n<|.c<|.i 1)<|.v 2])
   [.x<|.x (.v 8)<|.d (.v 3)<|.d (.v 4)<|.d (.v 2)<|.d (.v 8)<|.n<|.c<|.i 1],
  .x (.q (.v 7)<|.v 8)],
 .r (.v 7)]
def HP:bl:=⟨"bidi_joined_runs",.f,true,["kinds","levels","pairs","runs","run_of","number","run","found","places"],3,[],AV⟩
def AW:List CS:=[.a 5<|.h "isolate_pairs" [.v 0],
 .a 6 (.e []),
 .f false [7] .v [.h "bidi_joined_runs" [.v 0,.v 1,.v 5]]
  [.a 8<|.d (.v 7)<|.c<|.i 0,
  .a 9 (.d (.v 7)<|.n<|.c<|.i 1),
  .a 10 (.d (.v 1)<|.v 8),
  .a 11 (.h "bidi_direction" [.v 10,.h "bidi_level_beside" [.v 1,.v 8,.n<|.c<|.i 1,.v 3]]),
  .i (.a true [.m .i (.d (.v 0)<|.v 9)<|.g "INITIATORS" iM,.m .o (.v 9)<|.v 5])
   [.a 12<|.h "bidi_direction" [.v 10,.v 3]]
   [.a 12<|.h "bidi_direction" [.v 10,.h "bidi_level_beside" [.v 1,.v 9,.c<|.i 1,.v 3]]],
  .a 13 (.i (.m .t (.v 4)<|.c .n) (.D (.d (.v 4)<|.v 14) false ["at"] .v [.v 7] [])<|.l []),
  .x (.q (.v 6)<|.h "BidiSequence" [.v 7,.D (.d (.v 2)<|.v 14) false ["at"] .v [.v 7] [],.v 10,.v 11,.v 12,.v 13])],
 .r (.v 6)]
def HQ:bl:=⟨"isolating_sequences",.f,true,["kinds","levels","classes","base","codes","pairs","found","places","first","last","level","sos","eos","there"],5,[.n],AW⟩
noncomputable def Wo:List CS:=[.e (.v 0) "begin"<|.v 1,
 .e (.v 0) "end" (.b .a (.v 1)<|.k .l [.v 2]),
 .e (.v 0) "codes" (.v 2),
 .e (.v 0) "base" (.v 3),
 .e (.v 0) "kinds" (.v 4),
 .e (.v 0) "levels" (.v 5),
 .e (.v 0) "classes" (.v 6)]
def HR:bl:=⟨"BidiParagraph",.c,true,["self","begin","codes","base","kinds","levels","classes"],6,[],Wo⟩
noncomputable def AX:List CS:=[.r<|.h "isolating_sequences" [.f (.v 0) "kinds",.f (.v 0) "levels",.f (.v 0) "classes",.f (.v 0) "base",.f (.v 0) "codes"]]
def HS:bl:=⟨"sequences",.f,true,["self"],1,[],AX⟩
noncomputable def AY:List CS:=[.a 4<|.e [],
 .f true [5,6] .v [.h "paragraphs" [.v 0,.v 1]]
  [.a 7<|.s (.v 0) (.v 5)<|.v 6,
  .a 8 (.h "bidi_kinds" [.v 7,.v 1]),
  .a 9 (.h "bidi_base" [.v 8,.v 2]),
  .s [10,11] (.h "explicit" [.v 8,.v 9,.v 3]),
  .x (.q (.v 4)<|.h "BidiParagraph" [.v 5,.v 7,.v 9,.v 8,.v 10,.v 11])],
 .r (.v 4)]
def HT:bl:=⟨"bidi_paragraphs",.f,true,["text","data","word","depth","found","begin","end","codes","kinds","base","levels","classes"],4,[.s "auto",.i 125],AY⟩
def AZ:List CS:=[.a 2<|.e [],
 .a 3 (.v 1),
 .f false [4] .v [.v 0]
  [.i (.m .e (.v 4)<|.c<|.s "NSM")
   [.a 4<|.i (.m .i (.v 3)<|.g "ISOLATE_SIGNS" Au) (.c<|.s "ON")<|.v 3]
   [],
  .x (.q (.v 2)<|.v 4),
  .a 3 (.v 4)],
 .r (.v 2)]
def HU:bl:=⟨"bidi_marks",.f,true,["classes","sos","found","last","kind"],2,[],AZ⟩
noncomputable def HV:List CS:=[.a 2<|.e [],
 .a 3 (.v 1),
 .f false [4] .v [.v 0]
  [.i (.m .i (.v 4)<|.t [.c<|.s "L",.c<|.s "R",.c<|.s "AL"])
   [.a 3<|.v 4]
   [],
  .x (.q (.v 2)<|.i (.a true [.m .e (.v 4)<|.c<|.s "EN",.m .e (.v 3)<|.c<|.s "AL"]) (.c<|.s "AN")<|.v 4)],
 .r (.v 2)]
def HW:bl:=⟨"bidi_arabic_numbers",.f,true,["classes","sos","found","strong","kind"],2,[],HV⟩
noncomputable def A0:List CS:=[.r<|.D (.i (.m .e (.v 1)<|.c<|.s "AL") (.c<|.s "R")<|.v 1) false ["kind"] .v [.v 0] []]
def HX:bl:=⟨"bidi_arabic_letters",.f,true,["classes"],1,[],A0⟩
def A3:List CS:=[.a 1<|.k .s [.v 0],
 .f false [2] .r [.c<|.i 1,.b .s (.k .l [.v 0])<|.c<|.i 1]
  [.s [3,4]<|.t [.d (.v 0)<|.v 2,.d (.v 0)<|.b .s (.v 2)<|.c<|.i 1],
  .i (.m .e (.v 4)<|.d (.v 0)<|.b .a (.v 2)<|.c<|.i 1)
   [.i (.a false [.a true [.m .e (.v 3)<|.c<|.s "CS",.m .i (.v 4)<|.g "NUMBERS" ux],.a true [.m .e (.v 3)<|.c<|.s "ES",.m .e (.v 4)<|.c<|.s "EN"]])
    [.t (.v 1) (.v 2)<|.v 4]
    []]
   []],
 .r (.v 1)]
def HY:bl:=⟨"bidi_separators",.f,true,["classes","found","at","kind","beside"],1,[],A3⟩
noncomputable def A4:List CS:=[.a 2<|.e [],
 .a 3 (.c .n),
 .f true [4,5] .e [.v 0]
  [.i (.a true [.m .i (.v 5)<|.v 1,.m .s (.v 3)<|.c .n])
   [.a 3<|.v 4]
   [.i (.a true [.m .o (.v 5)<|.v 1,.m .t (.v 3)<|.c .n])
    [.x<|.q (.v 2)<|.t [.v 3,.v 4],
    .a 3 (.c .n)]
    []]],
 .i (.m .t (.v 3)<|.c .n)
  [.x<|.q (.v 2)<|.t [.v 3,.k .l [.v 0]]]
  [],
 .r (.v 2)]
def HZ:bl:=⟨"bidi_runs",.f,true,["classes","kinds","found","begun","at","kind"],2,[],A4⟩
noncomputable def A7:List CS:=[.a 5<|.i (.m .g (.v 1)<|.c<|.i 0) (.d (.v 0)<|.b .s (.v 1)<|.c<|.i 1)<|.v 3,
 .r (.t [.v 5,.i (.m .l (.v 2)<|.k .l [.v 0]) (.d (.v 0)<|.v 2)<|.v 4])]
def H6:bl:=⟨"bidi_beside",.f,true,["classes","first","end","ahead","behind","one"],5,[],A7⟩
noncomputable def A_:List CS:=[.a 1<|.k .s [.v 0],
 .f true [2,3] .v [.h "bidi_runs" [.v 0,.t [.c<|.s "ET"]]]
  [.i (.m .i (.c<|.s "EN")<|.h "bidi_beside" [.v 0,.v 2,.v 3,.c .n,.c .n])
   [.f false [4] .r [.v 2,.v 3]
    [.t (.v 1) (.v 4)<|.c<|.s "EN"]]
   []],
 .r (.v 1)]
def H7:bl:=⟨"bidi_terminators",.f,true,["classes","found","first","end","at"],1,[],A_⟩
def Ba:List CS:=[.r<|.D (.i (.m .i (.v 1)<|.g "LEFT_OVERS" Aw) (.c<|.s "ON")<|.v 1) false ["kind"] .v [.v 0] []]
def H8:bl:=⟨"bidi_left_overs",.f,true,["classes"],1,[],Ba⟩
noncomputable def H9:List CS:=[.a 2<|.e [],
 .a 3 (.v 1),
 .f false [4] .v [.v 0]
  [.i (.m .i (.v 4)<|.t [.c<|.s "L",.c<|.s "R"])
   [.a 3<|.v 4]
   [],
  .x (.q (.v 2)<|.i (.a true [.m .e (.v 4)<|.c<|.s "EN",.m .e (.v 3)<|.c<|.s "L"]) (.c<|.s "L")<|.v 4)],
 .r (.v 2)]
def H_:bl:=⟨"bidi_left_numbers",.f,true,["classes","sos","found","strong","kind"],2,[],H9⟩
noncomputable def Bb:List CS:=[.a 2<|.h "bidi_arabic_letters" [.h "bidi_arabic_numbers" [.h "bidi_marks" [.v 0,.v 1],.v 1]],
 .r (.h "bidi_left_numbers" [.h "bidi_left_overs" [.h "bidi_terminators" [.h "bidi_separators" [.v 2]]],.v 1])]
def Ia:bl:=⟨"weak_classes",.f,true,["classes","sos","found"],2,[],Bb⟩
noncomputable def Bc:List CS:=[.r<|.h "weak_classes" [.f (.v 0) "classes",.f (.v 0) "sos"]]
def Ib:bl:=⟨"weak",.f,true,["sequence"],1,[],Bc⟩
noncomputable def Wq:List CS:=[.a 2<|.j (.v 1) "get" [.c<|.s "dm",.v 0],
 .i (.a true [.m .t (.v 2)<|.c .n,.m .e (.d (.v 2)<|.c<|.i 0)<|.c<|.s "",.m .e (.k .l [.d (.v 2)<|.c<|.i 1])<|.c<|.i 1])
  [.r<|.d (.d (.v 2)<|.c<|.i 1)<|.c<|.i 0]
  [],
 .r (.v 0)]
def Wr:bl:=⟨"bidi_bracket_key",.f,true,["code","data","told"],2,[],Wq⟩
def Bd:List CS:=[.a 3<|.e [],
 .a 4 (.e []),
 .f true [5,6] .e [.v 0]
  [.a 7<|.i (.m .e (.d (.v 1)<|.v 5)<|.c<|.s "ON") (.j (.v 2) "get" [.c<|.s "bpb",.v 6])<|.c .n,
  .i (.a true [.m .t (.v 7)<|.c .n,.m .e (.d (.v 7)<|.c<|.i 0)<|.c<|.s "o"])
   [.i (.m .b (.k .l [.v 4])<|.g "MOST_BRACKETS" Hs)
    [.b]
    [],
   .x (.q (.v 4)<|.t [.h "bidi_bracket_key" [.d (.v 7)<|.c<|.i 1,.v 2],.v 5])]
   [.i (.m .t (.v 7)<|.c .n)
    [.a 8<|.h "bidi_bracket_key" [.v 6,.v 2],
    .a 9 (.b .s (.k .l [.v 4])<|.c<|.i 1),
    .w (.a true [.m .b (.v 9)<|.c<|.i 0,.m .n (.d (.d (.v 4)<|.v 9)<|.c<|.i 0)<|.v 8])
     [.a 9<|.b .s (.v 9)<|.c<|.i 1],
    .i (.m .b (.v 9)<|.c<|.i 0)
     [.x<|.q (.v 3)<|.t [.d (.d (.v 4)<|.v 9)<|.c<|.i 1,.v 5],
     .a 4 (.s (.v 4) (.c .n)<|.v 9)]
     []]
    []]],
 .r (.k .o [.v 3])]
def Ic:bl:=⟨"bracket_pairs_of",.f,true,["codes","classes","data","found","waiting","at","code","told","key","number"],3,[],Bd⟩
noncomputable def Be:List CS:=[.r<|.h "bracket_pairs_of" [.f (.v 0) "codes",.f (.v 0) "classes",.v 1]]
def Ie:bl:=⟨"bracket_pairs",.f,true,["sequence","data"],2,[],Be⟩
def Bf:List CS:=[.i (.m .e (.v 0)<|.c<|.s "L")
  [.r<|.c<|.s "L"]
  [],
 .r (.i (.a false [.m .e (.v 0)<|.c<|.s "R",.m .i (.v 0)<|.g "NUMBERS" ux]) (.c<|.s "R")<|.c .n)]
def Ig:bl:=⟨"bidi_strong",.f,true,["kind"],1,[],Bf⟩
noncomputable def Bg:List CS:=[.r<|.i (.m .e (.b .o (.v 0)<|.c<|.i 2)<|.c<|.i 0) (.c<|.s "L")<|.c<|.s "R"]
def Ih:bl:=⟨"bidi_embedding",.f,true,["level"],1,[],Bg⟩
noncomputable def Ws:List CS:=[.a 4<|.h "bidi_embedding" [.v 2],
 .a 5 (.c<|.b false),
 .f false [6] .v [.s (.v 0) (.b .a (.d (.v 1)<|.c<|.i 0)<|.c<|.i 1)<|.d (.v 1)<|.c<|.i 1]
  [.a 7<|.h "bidi_strong" [.v 6],
  .i (.m .e (.v 7)<|.v 4)
   [.r<|.v 4]
   [],
  .a 5 (.a false [.v 5,.m .t (.v 7)<|.c .n])],
 .i (.o<|.v 5)
  [.r<|.c .n]
  [],
 .f false [6] .v [.r<|.s (.v 0) (.c .n)<|.d (.v 1)<|.c<|.i 0]
  [.a 7<|.h "bidi_strong" [.v 6],
  .i (.m .t (.v 7)<|.c .n)
   [.r<|.v 7]
   []],
 .r (.v 3)]
def Wt:bl:=⟨"bidi_bracket_direction",.f,true,["classes","pair","level","sos","own","has_other","kind","strong"],4,[],Ws⟩
noncomputable def Bh:List CS:=[.a 5<|.k .s [.v 0],
 .f false [6] .v [.v 1]
  [.a 7<|.h "bidi_bracket_direction" [.v 5,.v 6,.v 2,.v 3],
  .i (.m .t (.v 7)<|.c .n)
   [.f false [8] .v [.v 6]
    [.t (.v 5) (.v 8)<|.v 7,
    .a 9 (.b .a (.v 8)<|.c<|.i 1),
    .w (.a true [.m .l (.v 9)<|.k .l [.v 5],.m .e (.d (.v 4)<|.v 9)<|.c<|.s "NSM"])
     [.t (.v 5) (.v 9)<|.v 7,
     .a 9 (.b .a (.v 9)<|.c<|.i 1)]]]
   []],
 .r (.v 5)]
def Ii:bl:=⟨"bracket_classes",.f,true,["classes","pairs","level","sos","begun","found","pair","direction","at","behind"],5,[],Bh⟩
def Bj:List CS:=[.a 4<|.k .s [.v 0],
 .f true [5,6] .v [.h "bidi_runs" [.v 0,.g "NEUTRALS" Av]]
  [.s [7,8]<|.h "bidi_beside" [.v 0,.v 5,.v 6,.v 2,.v 3],
  .a 9 (.h "bidi_strong" [.v 7]),
  .i (.m .n (.v 9)<|.h "bidi_strong" [.v 8])
   [.a 9<|.h "bidi_embedding" [.v 1]]
   [],
  .f false [10] .r [.v 5,.v 6]
   [.t (.v 4) (.v 10)<|.v 9]],
 .r (.v 4)]
def Ij:bl:=⟨"neutral_classes",.f,true,["classes","level","sos","eos","found","first","end","one","other","direction","at"],4,[],Bj⟩
noncomputable def Bk:List CS:=[.a 3<|.f (.v 0) "classes",
 .a 4 (.i (.m .s (.v 2)<|.c .n) (.v 3)<|.v 2),
 .a 5 (.h "bracket_classes" [.v 3,.h "bracket_pairs" [.v 0,.v 1],.f (.v 0) "level",.f (.v 0) "sos",.v 4]),
 .r (.h "neutral_classes" [.v 5,.f (.v 0) "level",.f (.v 0) "sos",.f (.v 0) "eos"])]
def Ik:bl:=⟨"neutral",.f,true,["sequence","data","begun","classes","marks","found"],3,[.n],Bk⟩
def Bl:List CS:=[.i (.m .e (.b .o (.v 1)<|.c<|.i 2)<|.c<|.i 0)
  [.r<|.b .a (.v 1)<|.i (.m .i (.v 0)<|.g "NUMBERS" ux) (.c<|.i 2)<|.i (.m .e (.v 0)<|.c<|.s "R") (.c<|.i 1)<|.c<|.i 0]
  [],
 .r (.i (.m .e (.v 0)<|.c<|.s "R") (.v 1)<|.b .a (.v 1)<|.c<|.i 1)]
def Il:bl:=⟨"implicit_level",.f,true,["kind","level"],2,[],Bl⟩
noncomputable def Bm:List CS:=[.r<|.D (.h "implicit_level" [.v 2,.v 1]) false ["kind"] .v [.v 0] []]
def Im:bl:=⟨"implicit",.f,true,["classes","level"],2,[],Bm⟩
noncomputable def Bo:List CS:=[.a 2<|.h "weak" [.v 0],
 .a 3 (.h "BidiSequence" [.f (.v 0) "places",.v 2,.f (.v 0) "level",.f (.v 0) "sos",.f (.v 0) "eos",.f (.v 0) "codes"]),
 .r (.h "implicit" [.h "neutral" [.v 3,.v 1,.f (.v 0) "classes"],.f (.v 0) "level"])]
def Io:bl:=⟨"sequence_levels",.f,true,["sequence","data","classes","weaker"],2,[],Bo⟩
noncomputable def Bp:List CS:=[.a 2<|.k .s [.f (.v 0) "levels"],
 .f false [3] .v [.j (.v 0) "sequences" []]
  [.f true [4,5] .z [.f (.v 3) "places",.h "sequence_levels" [.v 3,.v 1]]
   [.t (.v 2) (.v 4)<|.v 5]],
 .r (.v 2)]
def Ip:bl:=⟨"paragraph_levels",.f,true,["paragraph","data","found","sequence","place","level"],2,[],Bp⟩
noncomputable def Bq:List CS:=[.a 4<|.e [],
 .f false [5] .v [.h "bidi_paragraphs" [.v 0,.v 1,.v 2,.v 3]]
  [.x<|.x (.v 4)<|.h "paragraph_levels" [.v 5,.v 1]],
 .r (.v 4)]
def Iq:bl:=⟨"bidi_levels",.f,true,["text","data","word","depth","found","paragraph"],4,[.s "auto",.i 125],Bq⟩
def Br:List CS:=[.a 4<|.k .s [.s (.v 0) (.d (.v 2)<|.c<|.i 0)<|.d (.v 2)<|.c<|.i 1],
 .a 5 (.c<|.b true),
 .f false [6] .r [.b .s (.d (.v 2)<|.c<|.i 1)<|.c<|.i 1,.b .s (.d (.v 2)<|.c<|.i 0)<|.c<|.i 1,.n<|.c<|.i 1]
  [.a 7<|.d (.v 1)<|.v 6,
  .i (.m .i (.v 7)<|.g "LINE_SEPARATORS" uy)
   [.a 5<|.c<|.b true]
   [.i (.a true [.m .o (.v 7)<|.g "LINE_BLANKS" uz,.m .o (.v 7)<|.g "REMOVED" oK])
    [.a 5<|.c<|.b false]
    []],
  .i (.a true [.v 5,.m .t (.d (.v 4)<|.b .s (.v 6)<|.d (.v 2)<|.c<|.i 0)<|.c .n])
   [.t (.v 4) (.b .s (.v 6)<|.d (.v 2)<|.c<|.i 0)<|.v 3]
   []],
 .r (.v 4)]
def Ir:bl:=⟨"line_levels",.f,true,["levels","classes","line","base","found","is_end","at","kind"],4,[],Br⟩
noncomputable def Bs:List CS:=[.a 3<|.e [],
 .a 4 (.e []),
 .f false [5] .v [.v 0]
  [.i (.m .b (.d (.v 1)<|.v 5)<|.v 2)
   [.x<|.q (.v 4)<|.v 5]
   [.x<|.x (.v 3)<|.r<|.v 4,
   .x (.q (.v 3)<|.v 5),
   .a 4 (.e [])]],
 .x (.x (.v 3)<|.r<|.v 4),
 .r (.v 3)]
def Iu:bl:=⟨"line_turned",.f,true,["order","levels","level","found","run","place"],3,[],Bs⟩
noncomputable def Bt:List CS:=[.a 1<|.D (.v 5) false ["place"] .r [.k .l [.v 0]] [.m .t (.d (.v 0)<|.v 5)<|.c .n],
 .a 2 (.k .o [.D (.d (.v 0)<|.v 5) false ["place"] .v [.v 1] []]),
 .a 3 (.D (.v 5) false ["level"] .v [.v 2] [.m .e (.b .o (.v 5)<|.c<|.i 2)<|.c<|.i 1]),
 .i (.m .n (.v 3)<|.l [])
  [.f false [4] .r [.d (.v 2)<|.n<|.c<|.i 1,.b .s (.d (.v 3)<|.c<|.i 0)<|.c<|.i 1,.n<|.c<|.i 1]
   [.a 1<|.h "line_turned" [.v 1,.v 0,.v 4]]]
  [],
 .r (.v 1)]
def Iv:bl:=⟨"reordered",.f,true,["levels","order","there","odd","level"],1,[],Bt⟩
noncomputable def Bu:List CS:=[.i (.m .n (.k .o [.v 0])<|.D (.v 6) false ["place"] .r [.k .l [.v 1]] [.m .t (.d (.v 1)<|.v 6)<|.c .n])
  [.r<|.c<|.b false]
  [],
 .a 2 (.h "visual_places" [.v 0,.k .l [.v 1]]),
 .f false [3] .r [.k .l [.v 1]]
  [.a 4<|.d (.v 1)<|.v 3,
  .f false [5] .r [.b .a (.v 3)<|.c<|.i 1,.i (.m .t (.v 4)<|.c .n) (.k .l [.v 1])<|.v 3]
   [.i (.m .t (.d (.v 1)<|.v 5)<|.c .n)
    [.a 4<|.k .n [.v 4,.d (.v 1)<|.v 5],
    .i (.m .n (.m .l (.d (.v 2)<|.v 3)<|.d (.v 2)<|.v 5)<|.m .e (.b .o (.v 4)<|.c<|.i 2)<|.c<|.i 0)
     [.r<|.c<|.b false]
     []]
    []]],
 .r (.c<|.b true)]
def Iw:bl:=⟨"is_order_of",.f,true,["order","levels","spots","one","least","other"],2,[],Bu⟩
noncomputable def Bv:List CS:=[.a 2<|.z<|.v 1,
 .f true [3,4] .e [.v 0]
  [.t (.v 2) (.v 4)<|.v 3],
 .r (.v 2)]
def Iz:bl:=⟨"visual_places",.f,true,["order","many","found","spot","place"],2,[],Bv⟩
noncomputable def Bw:List CS:=[.f true [2,3] .e [.v 0]
  [.i (.m .e (.v 3)<|.v 1)
   [.r<|.v 2]
   []],
 .r (.c .n)]
def IA:bl:=⟨"visual_of",.f,true,["order","place","spot","other"],2,[],Bw⟩
noncomputable def Bx:List CS:=[.r<|.i (.p .a .l (.c<|.i 0) (.v 1)<|.k .l [.v 0]) (.d (.v 0)<|.v 1)<|.c .n]
def IB:bl:=⟨"logical_of",.f,true,["order","spot"],2,[],Bx⟩
noncomputable def By:List CS:=[.a 1<|.e [],
 .f true [2,3] .e [.v 0]
  [.i (.m .t (.v 3)<|.c .n)
   [.i (.a true [.m .n (.v 1)<|.l [],.m .e (.d (.d (.v 1)<|.n<|.c<|.i 1)<|.c<|.i 2)<|.v 3])
    [.t (.v 1) (.n<|.c<|.i 1)<|.t [.d (.d (.v 1)<|.n<|.c<|.i 1)<|.c<|.i 0,.b .a (.v 2)<|.c<|.i 1,.v 3]]
    [.x<|.q (.v 1)<|.t [.v 2,.b .a (.v 2)<|.c<|.i 1,.v 3]]]
   []],
 .r (.v 1)]
def IC:bl:=⟨"line_runs",.f,true,["levels","found","place","level"],1,[],By⟩
noncomputable def BA:List CS:=[.a 1<|.h "line_runs" [.v 0],
 .r (.D (.d (.v 1)<|.v 2) false ["number"] .v [.h "reordered" [.D (.d (.v 2)<|.c<|.i 2) false ["run"] .v [.v 1] []]] [])]
def ID:bl:=⟨"visual_runs",.f,true,["levels","runs"],1,[],BA⟩
def BB:List CS:=[.r<|.a true [.m .e (.b .o (.v 1)<|.c<|.i 2)<|.c<|.i 1,.m .i (.j (.v 2) "get" [.c<|.s "gc",.v 0])<|.g "LINE_MARKS" Ax]]
def IE:bl:=⟨"is_line_mark",.f,true,["code","level","data"],3,[],BB⟩
noncomputable def BC:List CS:=[.a 4<|.e [],
 .a 5 (.e []),
 .f false [6] .v [.v 0]
  [.i (.a true [.m .n (.v 5)<|.l [],.a false [.m .n (.d (.v 1)<|.v 6)<|.d (.v 1)<|.d (.v 5)<|.n<|.c<|.i 1,.m .g (.v 6)<|.d (.v 5)<|.n<|.c<|.i 1]])
   [.x<|.x (.v 4)<|.v 5,
   .a 5 (.e [])]
   [],
  .i (.h "is_line_mark" [.d (.v 2)<|.v 6,.d (.v 1)<|.v 6,.v 3])
   [.x<|.q (.v 5)<|.v 6]
   [.x<|.q (.v 4)<|.v 6,
   .x (.x (.v 4)<|.r<|.v 5),
   .a 5 (.e [])]],
 .x (.x (.v 4)<|.v 5),
 .r (.v 4)]
def IF:bl:=⟨"marks_behind",.f,true,["order","levels","text","data","found","group","place"],4,[],BC⟩
noncomputable def BD:List CS:=[.a 3<|.e [],
 .f true [4,5] .e [.v 0]
  [.a 6<|.d (.v 1)<|.v 4,
  .a 7 (.i (.a true [.m .t (.v 6)<|.c .n,.m .e (.b .o (.v 6)<|.c<|.i 2)<|.c<|.i 1]) (.j (.v 2) "get" [.c<|.s "bm",.v 5])<|.c .n),
  .x (.q (.v 3)<|.i (.m .s (.v 7)<|.c .n) (.v 5)<|.v 7)],
 .r (.v 3)]
def IG:bl:=⟨"mirrored",.f,true,["text","levels","data","found","place","code","level","image"],3,[],BD⟩
noncomputable def BE:List CS:=[.a 3<|.h "visual_places" [.h "reordered" [.v 0],.k .l [.v 0]],
 .a 4 (.e []),
 .f false [5] .v [.k .o [.D (.d (.v 3)<|.v 6) false ["place"] .r [.v 1,.v 2] [.m .t (.d (.v 3)<|.v 6)<|.c .n]]]
  [.i (.a true [.m .n (.v 4)<|.l [],.m .e (.d (.d (.v 4)<|.n<|.c<|.i 1)<|.c<|.i 1)<|.v 5])
   [.t (.v 4) (.n<|.c<|.i 1)<|.t [.d (.d (.v 4)<|.n<|.c<|.i 1)<|.c<|.i 0,.b .a (.v 5)<|.c<|.i 1]]
   [.x<|.q (.v 4)<|.t [.v 5,.b .a (.v 5)<|.c<|.i 1]]],
 .r (.v 4)]
def II:bl:=⟨"selected",.f,true,["levels","first","last","spots","found","spot"],3,[],BE⟩
noncomputable def BF:List CS:=[.s [4,5]<|.t [.h "bidi_levels" [.v 0,.v 1,.v 2],.h "bidi_kinds" [.v 0,.v 1]],
 .a 6 (.h "base_level" [.v 0,.v 1,.v 2]),
 .a 7 (.e []),
 .f false [8] .v [.v 3]
  [.a 9<|.h "line_levels" [.v 4,.v 5,.v 8,.v 6],
  .a 10 (.s (.v 0) (.d (.v 8)<|.c<|.i 0)<|.d (.v 8)<|.c<|.i 1),
  .a 11 (.h "marks_behind" [.h "reordered" [.v 9],.v 9,.v 10,.v 1]),
  .a 12 (.h "mirrored" [.v 10,.v 9,.v 1]),
  .x (.q (.v 7)<|.D (.d (.v 12)<|.v 13) false ["place"] .v [.v 11] [])],
 .r (.v 7)]
def IJ:bl:=⟨"shown_lines",.f,true,["text","data","word","lines","levels","classes","base","found","line","there","codes","order","images"],4,[],BF⟩
noncomputable def BG:List CS:=[.r<|.d (.h "shown_lines" [.v 0,.v 1,.v 2,.l [.i (.m .s (.v 3)<|.c .n) (.t [.c<|.i 0,.k .l [.v 0]])<|.v 3]])<|.c<|.i 0]
def IL:bl:=⟨"shown",.f,true,["text","data","word","line"],4,[.s "auto",.n],BG⟩
noncomputable def Wu:List CS:=[.a 2<|.c<|.i 0,
 .a 3 (.k .l [.v 0]),
 .w (.m .l (.v 2)<|.v 3)
  [.a 4<|.b .f (.b .a (.v 2)<|.v 3)<|.c<|.i 2,
  .i (.m .a (.d (.v 0)<|.v 4)<|.v 1)
   [.a 2<|.b .a (.v 4)<|.c<|.i 1]
   [.a 3<|.v 4]],
 .r (.b .s (.v 2)<|.c<|.i 1)]
def Wv:bl:=⟨"place_by_half",.f,true,["firsts","number","low","high","middle"],2,[],Wu⟩
noncomputable def Ww:List CS:=[.r<|.a true [.m .e (.v 0)<|.v 1,.m .e (.k .B [.v 0])<|.k .B [.v 1]]]
def Wx:bl:=⟨"range_are_like",.f,true,["one","other"],2,[],Ww⟩
noncomputable def Wy:List CS:=[.e (.v 0) "default"<|.v 1,
 .e (.v 0) "starts" (.l [.c<|.i 0]),
 .e (.v 0) "values" (.l [.v 1])]
def Wz:bl:=⟨"RangeMap",.c,false,["self","default"],1,[],Wy⟩
noncomputable def WA:List CS:=[.r<|.d (.f (.v 0) "values")<|.h "place_by_half" [.f (.v 0) "starts",.v 1]]
def WB:bl:=⟨"get",.f,true,["self","code"],2,[],WA⟩
def WC:List CS:=[.i (.m .g (.v 1)<|.v 2)
  [.r<|.c .n]
  [],
 .a 4 (.b .a (.h "place_by_half" [.f (.v 0) "starts",.b .s (.v 1)<|.c<|.i 1])<|.c<|.i 1),
 .a 5 (.b .a (.h "place_by_half" [.f (.v 0) "starts",.b .a (.v 2)<|.c<|.i 1])<|.c<|.i 1),
 .a 6 (.d (.f (.v 0) "values")<|.b .s (.v 5)<|.c<|.i 1),
 .s [7,8] (.t [.e [.v 1],.e [.v 3]]),
 .i (.a true [.m .l (.v 2)<|.g "MAX_CODE" Ht,.o<|.h "range_are_like" [.v 6,.v 3]])
  [.x<|.q (.v 7)<|.b .a (.v 2)<|.c<|.i 1,
  .x (.q (.v 8)<|.v 6)]
  [],
 .i (.a true [.m .g (.v 4)<|.c<|.i 0,.h "range_are_like" [.d (.f (.v 0) "values")<|.b .s (.v 4)<|.c<|.i 1,.v 3]])
  [.s [7,8]<|.t [.s (.v 7) (.c<|.i 1)<|.c .n,.s (.v 8) (.c<|.i 1)<|.c .n]]
  [],
 .e (.v 0) "starts" (.b .a (.b .a (.s (.f (.v 0) "starts") (.c .n)<|.v 4)<|.v 7)<|.s (.f (.v 0) "starts") (.v 5)<|.c .n),
 .e (.v 0) "values" (.b .a (.b .a (.s (.f (.v 0) "values") (.c .n)<|.v 4)<|.v 8)<|.s (.f (.v 0) "values") (.v 5)<|.c .n)]
def WD:bl:=⟨"put",.f,false,["self","first","last","value","low","high","behind","starts","values"],4,[],WC⟩
noncomputable def WE:List CS:=[.a 0<|.C ["gc","ccc","bc","lb","ea","sc","jt","incb"] [.s "Cn",.i 0,.s "L",.s "XX",.s "N",.s "Zzzz",.s "U",.s "None"],
 .f false [1] .v [.t [.c<|.s "gcb",.c<|.s "wb",.c<|.s "sb"]]
  [.t (.v 0) (.v 1)<|.c<|.s "Other"],
 .f false [1] .v [.t [.c<|.s "ex",.c<|.s "sd",.c<|.s "cased",.c<|.s "ci",.c<|.s "ep",.c<|.s "di",.c<|.s "ids",.c<|.s "idc",.c<|.s "xids",.c<|.s "xidc",.c<|.s "pat_syn",.c<|.s "pat_ws",.c<|.s "idst"]]
  [.t (.v 0) (.v 1)<|.c<|.b false],
 .f false [1] .v [.t [.c<|.s "dm",.c<|.s "uc",.c<|.s "lc",.c<|.s "tc",.c<|.s "cf",.c<|.s "bm",.c<|.s "bpb",.c<|.s "scx",.c<|.s "nt",.c<|.s "nv",.c<|.s "name",.c<|.s "conf",.c<|.s "nfkc_cf"]]
  [.t (.v 0) (.v 1)<|.c .n],
 .f false [1] .v [.t [.c<|.s "suc",.c<|.s "slc",.c<|.s "stc",.c<|.s "alias"]]
  [.t (.v 0) (.v 1)<|.t []],
 .t (.v 0) (.c<|.s "idna") (.t [.c<|.s "disallowed",.t []]),
 .r (.v 0)]
def WG:bl:=⟨"data_defaults",.f,true,["found","name"],0,[],WE⟩
noncomputable def WH:List CS:=[.e (.v 0) "defaults"<|.h "data_defaults" [],
 .e (.v 0) "maps" .B,
 .e (.v 0) "properties" .B,
 .e (.v 0) "words" .B]
def WI:bl:=⟨"Data",.c,false,["self"],0,[],WH⟩
noncomputable def WJ:List CS:=[.x<|.j (.j (.v 0) "map_of" [.v 1]) "put" [.v 2,.v 3,.v 4]]
def WK:bl:=⟨"put",.f,false,["self","name","first","last","value"],5,[],WJ⟩
noncomputable def WL:List CS:=[.i (.m .i (.v 1)<|.f (.v 0) "maps")
  [.r<|.j (.d (.f (.v 0) "maps")<|.v 1) "get" [.v 2]]
  [],
 .r (.w (.f (.v 0) "defaults")<|.v 1)]
def WM:bl:=⟨"get",.f,true,["self","name","code"],3,[],WL⟩
noncomputable def WN:List CS:=[.i (.m .o (.v 1)<|.f (.v 0) "maps")
  [.t (.f (.v 0) "maps") (.v 1)<|.h "RangeMap" [.w (.f (.v 0) "defaults")<|.v 1]]
  [],
 .r (.d (.f (.v 0) "maps")<|.v 1)]
def WO:bl:=⟨"map_of",.f,false,["self","name"],2,[],WN⟩
noncomputable def BH:List CS:=[.t (.v 0) (.c<|.i 1)<|.b .a (.d (.v 0)<|.c<|.i 1)<|.c<|.i 1,
 .s [2,3] (.t [.d (.v 0)<|.c<|.i 1,.d (.v 0)<|.c<|.i 0]),
 .i (.m .a (.v 2)<|.k .l [.v 3])
  [.r<|.b .o (.d (.v 3)<|.b .s (.v 2)<|.c<|.i 1)<|.v 1]
  [],
 .a 4 (.i (.m .n (.v 3)<|.l []) (.d (.v 3)<|.b .o (.v 2)<|.k .l [.v 3])<|.c<|.i 7),
 .a 5 (.b .o (.b .m (.b .a (.b .a (.b .o (.v 4)<|.c<|.i 2147483629)<|.b .m (.b .m (.c<|.i 60013)<|.v 2)<|.v 2)<|.c<|.i 17)<|.c<|.i 48271)<|.c<|.i 2147483647),
 .a 5 (.b .o (.b .a (.b .m (.v 5)<|.v 5)<|.v 2)<|.c<|.i 2147483579),
 .r (.b .o (.b .f (.v 5)<|.c<|.i 64)<|.v 1)]
def IM:bl:=⟨"_law_draw",.f,false,["deck","below","turn","cells","cell","mixed"],2,[],BH⟩
noncomputable def WQ:List CS:=[.a 1<|.h "Data" [],
 .f true [2,3] .e [.v 0]
  [.x<|.j (.v 1) "put" [.c<|.s "bc",.b .a (.c<|.i 65)<|.v 2,.b .a (.c<|.i 65)<|.v 2,.v 3]],
 .f false [4] .v [.t [.c<|.i 40,.c<|.i 41]]
  [.x<|.j (.v 1) "put" [.c<|.s "bc",.v 4,.v 4,.c<|.s "ON"],
  .x (.j (.v 1) "put" [.c<|.s "bm",.v 4,.v 4,.b .s (.c<|.i 81)<|.v 4])],
 .r (.v 1)]
def WR:bl:=⟨"_law_data",.f,true,["kinds","data","k","kind","code"],1,[],WQ⟩
noncomputable def BI:List CS:=[.s [4,5]<|.t [.e [],.t [.c<|.s "WS",.c<|.s "FSI",.c<|.s "LRI",.c<|.s "RLI",.c<|.s "PDI"]],
 .f false [6] .r [.d (.v 2)<|.c<|.i 0,.d (.v 2)<|.c<|.i 1]
  [.a 7<|.v 6,
  .w (.a true [.m .l (.v 7)<|.d (.v 2)<|.c<|.i 1,.a false [.m .s (.d (.v 0)<|.v 7)<|.c .n,.m .i (.d (.v 1)<|.v 7)<|.v 5]])
   [.a 7<|.b .a (.v 7)<|.c<|.i 1],
  .a 8 (.a false [.m .e (.v 7)<|.d (.v 2)<|.c<|.i 1,.m .i (.d (.v 1)<|.v 7)<|.t [.c<|.s "S",.c<|.s "B"]]),
  .i (.m .s (.d (.v 0)<|.v 6)<|.c .n)
   [.x<|.q (.v 4)<|.c .n]
   [.x<|.q (.v 4)<|.i (.a false [.m .i (.d (.v 1)<|.v 6)<|.t [.c<|.s "S",.c<|.s "B"],.a true [.m .i (.d (.v 1)<|.v 6)<|.v 5,.v 8]]) (.v 3)<|.d (.v 0)<|.v 6]],
 .r (.v 4)]
def IP:bl:=⟨"_law_reset",.f,true,["levels","classes","line","base","found","blanks","at","ahead","is_end"],4,[],BI⟩
noncomputable def BJ:List CS:=[.r<|.m .e (.b .o (.k .m [.D (.v 3) false ["level"] .v [.s (.v 0) (.v 1)<|.b .a (.v 2)<|.c<|.i 1] [.m .t (.v 3)<|.c .n]])<|.c<|.i 2)<|.c<|.i 0]
def IQ:bl:=⟨"_law_is_kept",.f,true,["levels","near","far"],3,[],BJ⟩
noncomputable def BK:List CS:=[.a 1<|.D (.v 5) true ["at","level"] .e [.v 0] [.m .t (.v 6)<|.c .n],
 .a 2 (.z<|.k .l [.v 1]),
 .f false [3] .v [.v 1]
  [.a 4<|.D (.v 5) false ["mate"] .v [.v 1] [.a true [.m .l (.v 5)<|.v 3,.h "_law_is_kept" [.v 0,.v 5,.v 3]]],
  .t (.v 2) (.b .a (.k .l [.v 4])<|.k .l [.D (.v 5) false ["mate"] .v [.v 1] [.a true [.m .g (.v 5)<|.v 3,.o<|.h "_law_is_kept" [.v 0,.v 3,.v 5]]]]) (.v 3)],
 .r (.v 2)]
def IS:bl:=⟨"_law_order",.f,true,["levels","places","found","at","left"],1,[],BK⟩
noncomputable def BL:List CS:=[.a 1<|.e [],
 .f false [2] .v [.k .o [.v 0]]
  [.i (.a true [.m .n (.v 1)<|.l [],.m .e (.d (.d (.v 1)<|.n<|.c<|.i 1)<|.c<|.i 1)<|.v 2])
   [.t (.v 1) (.n<|.c<|.i 1)<|.t [.d (.d (.v 1)<|.n<|.c<|.i 1)<|.c<|.i 0,.b .a (.v 2)<|.c<|.i 1]]
   [.x<|.q (.v 1)<|.t [.v 2,.b .a (.v 2)<|.c<|.i 1]]],
 .r (.v 1)]
def IT:bl:=⟨"_law_spans",.f,true,["spots","found","spot"],1,[],BL⟩
noncomputable def BN:List CS:=[.a 2<|.l [],
 .f true [3,4,5] .v [.v 1]
  [.a 6<|.D (.v 7) false ["at"] .r [.v 3,.v 4] [.m .t (.d (.v 0)<|.v 7)<|.c .n],
  .i (.a false [.m .n (.D (.v 7) false ["at"] .v [.v 6] [.m .n (.d (.v 0)<|.v 7)<|.v 5])<|.l [],.m .e (.v 6)<|.l []])
   [.r<|.c .n]
   [],
  .a 2 (.b .a (.v 2)<|.i (.m .e (.b .o (.v 5)<|.c<|.i 2)<|.c<|.i 0) (.v 6)<|.r<|.v 6)],
 .r (.v 2)]
def IU:bl:=⟨"_law_tiled",.f,true,["levels","stretches","found","first","last","level","some"],2,[],BN⟩
noncomputable def BO:List CS:=[.s [9,10]<|.t [.k .i [.v 4],.k .i [.v 5]],
 .s [11,12] (.t [.h "line_levels" [.v 4,.v 5,.v 6,.v 7],.h "_law_reset" [.v 9,.v 10,.v 6,.v 7]]),
 .i (.m .n (.v 11)<|.v 12)
  [.r<|.c<|.b false]
  [],
 .s [13,14] (.t [.h "reordered" [.v 11],.h "_law_order" [.v 11]]),
 .i (.a false [.m .n (.v 13)<|.v 14,.m .t (.h "is_order_of" [.v 13,.v 11])<|.c<|.b true,.m .n (.h "_law_tiled" [.v 11,.h "visual_runs" [.v 11]])<|.v 14])
  [.r<|.c<|.b false]
  [],
 .i (.a true [.m .g (.k .l [.v 14])<|.c<|.i 1,.m .t (.h "is_order_of" [.b .a (.s (.v 14) (.c<|.i 1)<|.c .n)<|.s (.v 14) (.c .n)<|.c<|.i 1,.v 11])<|.c<|.b false])
  [.r<|.c<|.b false]
  [],
 .f true [15,16] .e [.v 14]
  [.i (.a false [.m .n (.h "visual_of" [.v 13,.v 16])<|.v 15,.m .n (.h "logical_of" [.v 13,.v 15])<|.v 16])
   [.r<|.c<|.b false]
   []],
 .a 17 (.s (.v 1) (.d (.v 6)<|.c<|.i 0)<|.d (.v 6)<|.c<|.i 1),
 .a 18 (.D (.i (.a true [.m .i (.v 23)<|.t [.c<|.i 40,.c<|.i 41],.h "_law_is_odd" [.d (.v 11)<|.v 22]]) (.b .s (.c<|.i 81)<|.v 23)<|.v 23) true ["at","code"] .e [.v 17] []),
 .i (.m .n (.h "mirrored" [.v 17,.v 11,.v 2])<|.v 18)
  [.r<|.c<|.b false]
  [],
 .i (.a true [.v 8,.m .n (.h "shown" [.v 1,.v 2,.v 3,.v 6])<|.D (.d (.v 18)<|.v 22) false ["at"] .v [.v 14] []])
  [.r<|.c<|.b false]
  [],
 .a 19 (.h "_law_draw" [.v 0,.b .a (.k .l [.v 11])<|.c<|.i 1]),
 .a 20 (.b .a (.v 19)<|.h "_law_draw" [.v 0,.b .s (.b .a (.k .l [.v 11])<|.c<|.i 1)<|.v 19]),
 .a 21 (.D (.t [.d (.v 22)<|.c<|.i 0,.d (.v 22)<|.c<|.i 1]) false ["one"] .v [.h "selected" [.v 11,.v 19,.v 20]] []),
 .i (.m .n (.v 21)<|.h "_law_spans" [.D (.v 22) true ["spot","at"] .e [.v 14] [.p .a .l (.v 19) (.v 23)<|.v 20]])
  [.r<|.c<|.b false]
  [],
 .r (.m .e (.l [.v 4,.v 5,.v 11,.v 13])<|.l [.v 9,.v 10,.v 12,.v 14])]
def IV:bl:=⟨"_law_line_right",.f,false,["deck","text","data","word","levels","classes","line","base","is_shown","stood","named","now","fresh","order","due","spot","at","piece","turned","first","last","told"],9,[],BO⟩
noncomputable def BP:List CS:=[.r<|.a true [.m .t (.v 0)<|.c .n,.m .e (.b .o (.v 0)<|.c<|.i 2)<|.c<|.i 1]]
def IW:bl:=⟨"_law_is_odd",.f,true,["level"],1,[],BP⟩
noncomputable def BQ:List CS:=[.a 1<|.l [.c<|.s "L",.c<|.s "R",.c<|.s "AL",.c<|.s "EN",.c<|.s "AN",.c<|.s "ON",.c<|.s "WS",.c<|.s "S",.c<|.s "NSM",.c<|.s "LRI",.c<|.s "RLI",.c<|.s "PDI",.c<|.s "RLE",.c<|.s "LRE",.c<|.s "PDF",.c<|.s "BN"],
 .s [2,3] (.t [.e [.k .i [.s (.v 0) (.c .n)<|.c<|.i 24],.c<|.i 0],.h "_law_data" [.v 1]]),
 .s [4,5] (.t [.d (.l [.c<|.s "rtl",.c<|.s "ltr",.c<|.s "auto"])<|.h "_law_draw" [.v 2,.c<|.i 3],.e []]),
 .f false [6] .r [.b .a (.c<|.i 1)<|.h "_law_draw" [.v 2,.c<|.i 9]]
  [.a 7<|.h "_law_draw" [.v 2,.c<|.i 18],
  .x (.q (.v 5)<|.i (.m .l (.v 7)<|.c<|.i 16) (.b .a (.c<|.i 65)<|.v 7)<|.b .a (.c<|.i 24)<|.v 7)],
 .z 5,
 .a 8 (.D (.i (.m .g (.v 15)<|.c<|.i 64) (.d (.v 1)<|.b .s (.v 15)<|.c<|.i 65)<|.c<|.s "ON") false ["code"] .v [.v 5] []),
 .s [9,10,11] (.t [.h "bidi_levels" [.v 5,.v 3,.v 4],.h "base_level" [.v 5,.v 3,.v 4],.k .i [.v 5]]),
 .a 12 (.k .o [.D (.h "_law_draw" [.v 2,.b .a (.k .l [.v 5])<|.c<|.i 1]) false ["k"] .r [.h "_law_draw" [.v 2,.c<|.i 3]] []]),
 .a 13 (.h "_law_draw" [.v 2,.b .a (.k .l [.v 12])<|.c<|.i 1]),
 .f true [6,14] .n [.b .a (.l [.c<|.i 0])<|.v 12,.b .a (.v 12)<|.l [.k .l [.v 5]]]
  [.i (.a true [.m .l (.d (.v 14)<|.c<|.i 0)<|.d (.v 14)<|.c<|.i 1,.o<|.h "_law_line_right" [.v 2,.v 5,.v 3,.v 4,.v 9,.v 8,.v 14,.v 10,.m .e (.v 6)<|.v 13]])
   [.r<|.c<|.b false]
   []],
 .r (.m .e (.v 5)<|.v 11)]
def IX:bl:=⟨"law",.f,true,["script","kinds","deck","data","word","text","k","number","classes","levels","base","was","cuts","shown_at","line"],1,[],BQ⟩
def iN:List ((String×String)×bl):=[
 (("","bidi_kinds"),Hu),
 (("","paragraphs"),Hv),
 (("","isolate_pairs"),Hw),
 (("","bidi_first_strong"),Hx),
 (("","base_level"),Hy),
 (("","bidi_base"),Hz),
 (("","BidiEntry"),Wk),
 (("","BidiStack"),Wm),
 (("BidiStack","last"),HA),
 (("BidiStack","further"),HB),
 (("BidiStack","is_free"),HC),
 (("BidiStack","embed"),HD),
 (("BidiStack","isolate"),HE),
 (("BidiStack","end_isolate"),HF),
 (("BidiStack","end_embedding"),HG),
 (("","explicit"),HH),
 (("","bidi_is_right_isolate"),HJ),
 (("","level_runs"),HL),
 (("","BidiSequence"),HM),
 (("","bidi_direction"),HN),
 (("","bidi_level_beside"),HO),
 (("","bidi_joined_runs"),HP),
 (("","isolating_sequences"),HQ),
 (("","BidiParagraph"),HR),
 (("BidiParagraph","sequences"),HS),
 (("","bidi_paragraphs"),HT),
 (("","bidi_marks"),HU),
 (("","bidi_arabic_numbers"),HW),
 (("","bidi_arabic_letters"),HX),
 (("","bidi_separators"),HY),
 (("","bidi_runs"),HZ),
 (("","bidi_beside"),H6),
 (("","bidi_terminators"),H7),
 (("","bidi_left_overs"),H8),
 (("","bidi_left_numbers"),H_),
 (("","weak_classes"),Ia),
 (("","weak"),Ib),
 (("","bidi_bracket_key"),Wr),
 (("","bracket_pairs_of"),Ic),
 (("","bracket_pairs"),Ie),
 (("","bidi_strong"),Ig),
 (("","bidi_embedding"),Ih),
 (("","bidi_bracket_direction"),Wt),
 (("","bracket_classes"),Ii),
 (("","neutral_classes"),Ij),
 (("","neutral"),Ik),
 (("","implicit_level"),Il),
 (("","implicit"),Im),
 (("","sequence_levels"),Io),
 (("","paragraph_levels"),Ip),
 (("","bidi_levels"),Iq),
 (("","line_levels"),Ir),
 (("","line_turned"),Iu),
 (("","reordered"),Iv),
 (("","is_order_of"),Iw),
 (("","visual_places"),Iz),
 (("","visual_of"),IA),
 (("","logical_of"),IB),
 (("","line_runs"),IC),
 (("","visual_runs"),ID),
 (("","is_line_mark"),IE),
 (("","marks_behind"),IF),
 (("","mirrored"),IG),
 (("","selected"),II),
 (("","shown_lines"),IJ),
 (("","shown"),IL),
 (("","place_by_half"),Wv),
 (("","range_are_like"),Wx),
 (("","RangeMap"),Wz),
 (("RangeMap","get"),WB),
 (("RangeMap","put"),WD),
 (("","data_defaults"),WG),
 (("","Data"),WI),
 (("Data","put"),WK),
 (("Data","get"),WM),
 (("Data","map_of"),WO),
 (("","_law_draw"),IM),
 (("","_law_data"),WR),
 (("","_law_reset"),IP),
 (("","_law_is_kept"),IQ),
 (("","_law_order"),IS),
 (("","_law_spans"),IT),
 (("","_law_tiled"),IU),
 (("","_law_line_right"),IV),
 (("","_law_is_odd"),IW),
 (("","law"),IX)]
def gam:Nat->b7
 |0=>λU U U U=>none
 |n+1=>λc f args H=>(iN.lookup (c,f)).bind λir=>jA (gam n) ir args H
end
section
inductive bC {α:Type}(X:Cx)(cf:Cf)(s:Shared)(G:α->Cf->Shared->Prop)(x:α)(s':Shared):Prop
 |mk (aI:Cf) (st:Step cf s aI s') (sim:aU X aI s'.heap) (g:G x aI s'):bC X cf s G x s'
inductive IY (X:Cx)(cf:Cf)(h:Heap)(v:Value)(Q:PV->Prop):Prop
 |mk (pv:PV) (r:Rep X cf h pv v) (q:Q pv):IY X cf h v Q
inductive IZ (X:Cx)(cf:Cf)(h:Heap)(vs:cz)(Q:au->Prop):Prop
 |mk (ps:au) (r:aO X cf h ps vs) (q:Q ps):IZ X cf h vs Q
noncomputable def GV(X:Cx)(Q:eF)(v:Value)(cf:Cf)(s:Shared):Prop:=IY X cf s.heap v λpv=>Q pv cf.H
noncomputable def GB(Q:Bool->ak->Prop)(b:Bool)(cf:Cf)(_:Shared):Prop:=Q b cf.H
noncomputable def GL(X:Cx)(Q:au->ak->Prop)(vs:cz)(cf:Cf)(s:Shared):Prop:=IZ X cf s.heap vs λps=>Q ps cf.H
theorem xA{X:Cx}{cf:Cf}{s:Shared}{Q:eF}{v:Value}{s':Shared}:Out X cf s Q v s'↔bC X cf s (GV X Q) v s':=
 ⟨λ⟨aI,pv,a,b,r,q⟩=>⟨aI,a,b,pv,r,q⟩,λ⟨aI,a,b,pv,r,q⟩=>⟨aI,pv,a,b,r,q⟩⟩
section
variable {X:Cx}{α:Type}{cf aI:Cf}{s s' s'':Shared}{G:α->Cf->Shared->Prop}{x:α}
theorem bC.now(S:aU X cf s.heap)(g:G x cf s):bC X cf s G x s:=⟨cf,Step.refl _ _,S,g⟩
theorem bC.tok{t:Nat}(S:aU X cf s.heap)(g:G x cf {s with toks:=t}):bC X cf s G x {s with toks:=t}:=⟨cf,(Step.refl _ _).toks t,S,g⟩
theorem bC.after(S:aU X cf s.heap)(st:Step cf s aI s')(y:bC X aI s' G x s''):bC X cf s G x s'':=
 let ⟨c,a,b,g⟩:=y;⟨c,st.trans S.own a,b,g⟩
theorem bC.mono{G':α->Cf->Shared->Prop}(h:∀c t,G x c t->G' x c t)(y:bC X cf s G x s'):bC X cf s G' x s':=let ⟨c,a,b,g⟩:=y;⟨c,a,b,h _ _ g⟩
end
noncomputable def c5(h h':Heap):Prop:=∀b o,h.get? b=some o->h'.get? b=some o
theorem Kept.grown{cf:Cf}{h h':Heap}(g:c5 h h'):Kept cf h cf h':=⟨λb o U e=>g b o e,λU U h U=>h,λU U h=>h⟩
theorem nu.mono{X:Cx}{cf aI:Cf}{h h':Heap}{p:Addr×Addr}(k:Kept cf h aI h')(h1:∀o,h.get? p.1=some o->h'.get? p.1=some o)(h2:∀o,h.get? p.2=some o->h'.get? p.2=some o):∀{ao:AO},nu X cf h p ao->nu X aI h' p ao
 |.l l,⟨e,vs,hl,hz,r⟩=>⟨e,vs,hl.at h1,hz,r.mono k l⟩
 |.i n f,⟨e,hs,g,hm,hz,hi⟩=>⟨e,hs,g,G9 hm h1,hz,hi⟩
 |.s ks l,⟨e,hs,vals,hm,hl,r⟩=>⟨e,hs,vals,G9 hm h1,hl,r.mono k l⟩
 |.n c ns l,⟨e,C,es,n,hc,e1,e2,hk,r⟩=>⟨e,C,es,n,hc,h1 _ e1,h2 _ e2,hk,r.mono k l⟩
theorem aU.grown{X:Cx}{cf:Cf}{h h':Heap}(S:aU X cf h)(g:c5 h h'):aU X cf h':=
 ⟨S.len,λn ao p e1 e2=>(S.rep n ao p e1 e2).mono (Kept.grown g) (g _)<|g _,S.own,S.inj,λb hb=>let ⟨o,e⟩:=S.here b hb;⟨o,g b o e⟩,λb o e=>⟨g b o (S.base b o e).1,(S.base b o e).2⟩⟩
theorem Step.grown{cf:Cf}{s:Shared}{h':Heap}{t:Nat}(g:c5 s.heap h'):Step cf s cf {s with heap:=h',toks:=t}:=
 ⟨I2 h' t rfl,λb o U e=>g b o e,λU U h U U=>h,λU h=>.inl h,λU h=>.inl h,λU U h=>h⟩
theorem bC.grown{X:Cx}{α:Type}{cf:Cf}{s:Shared}{G:α->Cf->Shared->Prop}{x:α}{h':Heap}{t:Nat}(S:aU X cf s.heap)(g:c5 s.heap h')(q:G x cf {s with heap:=h',toks:=t}):bC X cf s G x {s with heap:=h',toks:=t}:=
 ⟨cf,Step.grown g,S.grown g,q⟩
theorem c5.push(h:Heap)(o:Obj):c5 h (h.push o):=λU U e=>jq o e
theorem c5.trans{h h' h'':Heap}(x:c5 h h')(y:c5 h' h''):c5 h h'':=λb o e=>y b o<|x b o e
theorem aO.grown{X:Cx}{cf:Cf}{h h':Heap}{l:au}{vs:cz}(g:c5 h h')(r:aO X cf h l vs):aO X cf h' l vs:=r.mono (Kept.grown g) l
theorem rH{X:Cx}{cf:Cf}{h:Heap}(S:aU X cf h){a:Addr}(ha:h.objs.size<=a):¬cf.O a:=λhO=>by refine X1 (S.here a hO) λo e=>?_;exact absurd (fJ e)<|Nat.not_lt.mpr ha
theorem jB{h:Heap}{a:Addr}(ha:h.objs.size<=a):h.get? a=none:=by
 cases e:h.get? a with
 |none=>rfl
 |some o=>exact absurd (fJ e)<|Nat.not_lt.mpr ha
theorem aO.length{X:Cx}{cf:Cf}{h:Heap}:∀{l:au}{vs:cz},aO X cf h l vs->vs.length=l.length
 |[],vs,r=>by refine rR (show vs=[]from r) ?_;rfl
 |p::ps,vs,r=>by obtain⟨v,t,rfl,_,hs⟩:=r;exact rR i4<|rR i4<|rR hs.length rfl
theorem aO.gk{X:Cx}{cf:Cf}{h:Heap}:aO X cf h [] []:=rfl
theorem aO.fD{X:Cx}{cf:Cf}{h:Heap}{p:PV}{v:Value}{l:au}{vs:cz}(r:Rep X cf h p v)(t:aO X cf h l vs):aO X cf h (p::l) (v::vs):=⟨v,vs,rfl,r,t⟩
theorem aO.append{X:Cx}{cf:Cf}{h:Heap}:∀{l m:au}{vs ws:cz},aO X cf h l vs->aO X cf h m ws->aO X cf h (l++m) (vs++ws)
 |[],m,vs,ws,r,t=>by refine rR (show vs=[]from r) ?_;exact t
 |p::ps,m,vs,ws,r,t=>by obtain⟨v,u,rfl,hr,hs⟩:=r;exact aO.fD hr<|hs.append t
theorem aO.get{X:Cx}{cf:Cf}{h:Heap}:∀{l:au}{vs:cz}{k:Nat}{p:PV},aO X cf h l vs->l[k]?=some p->∃v,vs[k]?=some v/\Rep X cf h p v
 |[],vs,k,p,r,e=>by simp at e
 |q::ps,vs,k,p,r,e=>by
  obtain⟨v,u,rfl,hr,hs⟩:=r
  induction k using gD with
  |zero=>simp at e;subst e;exact aA v rfl hr
  |succ k=>exact hs.get<|by simpa using e
theorem aO.take{X:Cx}{cf:Cf}{h:Heap}:∀{l:au}{vs:cz}(k:Nat),aO X cf h l vs->aO X cf h (l.take k) (vs.take k)
 |[],vs,k,r=>by obtain rfl:vs=[]:=r;refine rR List.take_nil<|rR List.take_nil ?_;exact aO.gk
 |q::ps,vs,0,r=>aO.gk
 |q::ps,vs,k+1,r=>by obtain⟨v,u,rfl,hr,hs⟩:=r;exact aO.fD hr<|hs.take k
theorem aO.drop{X:Cx}{cf:Cf}{h:Heap}:∀{l:au}{vs:cz}(k:Nat),aO X cf h l vs->aO X cf h (l.drop k) (vs.drop k)
 |[],vs,k,r=>by obtain rfl:vs=[]:=r;refine rR List.drop_nil<|rR List.drop_nil ?_;exact aO.gk
 |q::ps,vs,0,r=>r
 |q::ps,vs,k+1,r=>by obtain⟨v,u,rfl,hr,hs⟩:=r;exact hs.drop k
theorem aO.set{X:Cx}{cf:Cf}{h:Heap}{p:PV}{v:Value}(r:Rep X cf h p v):∀{l:au}{vs:cz}(k:Nat),aO X cf h l vs->aO X cf h (l.set k p) (vs.set k v)
 |[],vs,k,t=>by obtain rfl:vs=[]:=t;exact aO.gk
 |q::ps,vs,0,t=>by obtain⟨w,u,rfl,hr,hs⟩:=t;exact aO.fD r hs
 |q::ps,vs,k+1,t=>by obtain⟨w,u,rfl,hr,hs⟩:=t;exact aO.fD hr<|hs.set r k
theorem aO.reverse{X:Cx}{cf:Cf}{h:Heap}:∀{l:au}{vs:cz},aO X cf h l vs->aO X cf h l.reverse vs.reverse
 |[],vs,t=>by obtain rfl:vs=[]:=t;exact aO.gk
 |q::ps,vs,t=>by
  obtain⟨w,u,rfl,hr,hs⟩:=t;refine rR pS<|rR pS ?_
  exact hs.reverse.append<|aO.fD hr aO.gk
theorem WS{X:Cx}{cf:Cf}{h:Heap}{l:au}{vs:dg}(S:aU X cf h)(r:aO X cf h l vs.toList)(hz:vs.size<=2^20){n:Nat}:Rep X cf (h.push {cls:=.type "list",data:=.seq vs n}) (.l l) (.ref h.objs.size):=by exact⟨_,vs,rfl,rH S<|bY _,⟨n,ik _ rfl⟩,hz,r.grown<|c5.push _ _⟩
theorem WT{X:Cx}{cf:Cf}{h:Heap}{l:au}{vs:dg}(S:aU X cf h)(r:aO X cf h l vs.toList)(hz:vs.size<=2^20){n:Nat}:Rep X cf (h.push {cls:=.type "tuple",data:=.seq vs n}) (.t l) (.ref h.objs.size):=by exact⟨_,vs,rfl,rH S<|bY _,ua _ (ik _ rfl) rfl n rfl,hz,r.grown<|c5.push _ _⟩
noncomputable def eU(cf:Cf)(a b:Addr)(ao:AO):Cf:={ρ:=cf.ρ++[(a,b)],O:=λx=>cf.O x\/x=a\/x=b,H:=cf.H++[some ao]}
theorem I0{X:Cx}{cf:Cf}{h:Heap}(S:aU X cf h){a b:Addr}{ao:AO}{x:Addr}(o:Own (eU cf a b ao) x):Own cf x\/x=a\/x=b:=by
 obtain⟨n,bo,p,e1,e2,e3⟩:=o;have hl:=S.len;rcases rf n cf.H.length with hn|hn|hn
 ·rw[show(eU cf a b ao).H=cf.H++[some ao]from rfl,iZ hn]at e1;rw[show(eU cf a b ao).ρ=cf.ρ++[(a,b)]from rfl,iZ<|hl▸hn]at e2;exact .inl ⟨n,bo,p,e1,e2,e3⟩
 ·rw[show(eU cf a b ao).ρ=cf.ρ++[(a,b)]from rfl,ku<|by refine rR hl ?_;exact A8 hn]at e2;have e:n-cf.ρ.length=0:=A9 hl hn;rw[e]at e2;simp at e2;subst e2;exact .inr e3
 ·rw[show(eU cf a b ao).H=cf.H++[some ao]from rfl,gO<|by simp;exact uf hn]at e1;exact nN e1
theorem xB{X:Cx}{cf:Cf}{s:Shared}{h':Heap}{t:Nat}{a b:Addr}{ao:AO}(S:aU X cf s.heap)(g:c5 s.heap h')(ha:s.heap.objs.size<=a)(hb:s.heap.objs.size<=b)
  (ea:∃o,h'.get? a=some o)(eb:∃o,h'.get? b=some o)(r:nu X (eU cf a b ao) h' (a,b) ao):
  Step cf s (eU cf a b ao) {s with heap:=h',toks:=t}/\aU X (eU cf a b ao) h'/\Rep X (eU cf a b ao) h' (.e cf.H.length) (.ref a)/\Kept cf s.heap (eU cf a b ao) h':=by
 have hl:=S.len;have na:=rH S ha;have nb:=rH S hb;have refs:∀(n:Nat)(p:Addr×Addr),cf.ρ[n]?=some p->(eU cf a b ao).ρ[n]?=some p:=λn p e=>by
  have hn:n<cf.ρ.length:=by
   rcases dm n cf.ρ.length with h|h
   ·exact h
   ·rw[gO h]at e;exact nN e
  show(cf.ρ++[(a,b)])[n]?=_;rw[iZ hn,e]
 have k:Kept cf s.heap (eU cf a b ao) h':=by
  refine⟨λx o U e=>g x o e,λx o hx e hO=>?_,refs⟩;clear ea eb r na nb refs;rcases hO with hO|rfl|rfl
  ·exact hx hO
  ·rw[jB ha]at e;exact nN e
  ·rw[jB hb]at e;exact nN e
 have split:∀(n:Nat)(bo:AO)(p:Addr×Addr),(eU cf a b ao).H[n]?=some (some bo)->(eU cf a b ao).ρ[n]?=some p->(cf.H[n]?=some (some bo)/\cf.ρ[n]?=some p/\n<cf.H.length)\/(n=cf.H.length/\bo=ao/\p=(a,b)):=λn bo p e1 e2=>by
  rcases rf n cf.H.length with hn|hn|hn
  ·rw[show(eU cf a b ao).H=cf.H++[some ao]from rfl,iZ hn]at e1;rw[show(eU cf a b ao).ρ=cf.ρ++[(a,b)]from rfl,iZ<|hl▸hn]at e2;exact .inl ⟨e1,e2,hn⟩
  ·subst hn;rw[show(eU cf a b ao).H=cf.H++[some ao]from rfl,ku<|bY _]at e1;rw[show(eU cf a b ao).ρ=cf.ρ++[(a,b)]from rfl,<-hl,ku<|bY _]at e2;simp at e1 e2;exact .inr ⟨rfl,e1.symm,e2.symm⟩
  ·rw[show(eU cf a b ao).H=cf.H++[some ao]from rfl,gO<|by simp;exact uf hn]at e1;exact nN e1
 have I1:∀(n:Nat)(bo:AO)(p:Addr×Addr),cf.H[n]?=some (some bo)->cf.ρ[n]?=some p->p.1<s.heap.objs.size/\p.2<s.heap.objs.size:=λn bo p e1 e2=>by refine X1 (S.here _ (S.own p.1 ⟨n,bo,p,e1,e2,.inl rfl⟩)) λo1 q1=>?_;refine X1 (S.here _ (S.own p.2 ⟨n,bo,p,e1,e2,.inr rfl⟩)) λo2 q2=>?_;exact⟨fJ q1,fJ q2⟩
 refine⟨⟨I2 h' t rfl,λx o U e=>g x o e,λx o h U U=>.inl h,λx h=>?_,λx h=>?_,refs⟩,⟨?_,λn bo p e1 e2=>?_,λx h=>?_,λn m bo co p q e1 e2 e3 e4 hne=>?_,λx h=>?_,λx o e=>⟨g x o (S.base x o e).1,?_⟩⟩,?_,k⟩
 ·clear ea eb r na nb refs k split;rcases h with h|rfl|rfl
  ·exact .inl h
  ·exact .inr<|jB ha
  ·exact .inr<|jB hb
 ·clear ea eb r na nb refs k split;rcases I0 S h with h|rfl|rfl
  ·exact .inl h
  ·exact .inr<|jB ha
  ·exact .inr<|jB hb
 ·show(cf.ρ++[(a,b)]).length=(cf.H++[some ao]).length;simp[hl]
 ·clear refs;rcases split n bo p e1 e2 with⟨e1,e2,_⟩|⟨_,rfl,rfl⟩
  ·exact(S.rep n bo p e1 e2).mono k (g _)<|g _
  ·exact r
 ·clear ha hb ea eb r na nb refs k split;rcases I0 S h with h|rfl|rfl
  ·exact .inl<|S.own x h
  ·exact .inr<|.inl rfl
  ·exact .inr<|.inr rfl
 ·have oM:∀{x y:Nat},x<s.heap.objs.size->s.heap.objs.size<=y->x≠y:=λh1 h2=>gP<|oq h1 h2
  clear r refs k;rcases split n bo p e1 e3 with⟨f1,f2,_⟩|⟨rfl,rfl,rfl⟩<;>(clear e1 e3;rcases split m co q e2 e4 with⟨g1,g2,_⟩|⟨rfl,rfl,rfl⟩)
  ·exact S.inj n m bo co p q f1 g1 f2 g2 hne
  ·have l:=I1 n bo p f1 f2;exact⟨oM l.1 ha,oM l.1 hb,oM l.2 ha,oM l.2 hb⟩
  ·have l:=I1 m co q g1 g2;exact⟨(oM l.1 ha).symm,(oM l.2 ha).symm,(oM l.1 hb).symm,(oM l.2 hb).symm⟩
  ·exact absurd rfl hne
 ·clear ha hb r na nb refs k split;rcases h with h|rfl|rfl
  ·refine X1 (S.here x h) λo e=>?_;exact⟨o,g x o e⟩
  ·exact ea
  ·exact eb
 ·rintro(h|rfl|rfl)
  ·exact(S.base x o e).2 h
  ·have:=(S.base _ o e).1;rw[jB ha]at this;exact nN this
  ·have:=(S.base _ o e).1;rw[jB hb]at this;exact nN this
 ·refine⟨(a,b),?_,rfl⟩;show(cf.ρ++[(a,b)])[cf.H.length]?=_;rw[<-hl,ku<|bY _];simp
noncomputable def jc(cf:Cf)(n:Nat)(ao:AO):Cf:={cf with H:=cf.H.set n<|some ao}
theorem I4{cf:Cf}{n:Nat}{ao eV:AO}(hn:cf.H[n]?=some (some ao)){x:Addr}:Own (jc cf n eV) x↔Own cf x:=by
 have hlt:n<cf.H.length:=by
  rcases dm n cf.H.length with h|h
  ·exact h
  ·rw[gO h]at hn;exact nN hn
 constructor
 ·rintro⟨m,bo,p,e1,e2,e3⟩;by_cases h:n=m
  ·clear e1;subst h;exact⟨n,ao,p,hn,e2,e3⟩
  ·rw[show(jc cf n eV).H=cf.H.set n (some eV)from rfl,jr h]at e1;exact⟨m,bo,p,e1,e2,e3⟩
 ·rintro⟨m,bo,p,e1,e2,e3⟩;by_cases h:n=m
  ·clear e1;subst h;exact⟨n,eV,p,by rw[show(jc cf n eV).H=cf.H.set n (some eV)from rfl,jL hlt],e2,e3⟩
  ·exact⟨m,bo,p,by rw[show(jc cf n eV).H=cf.H.set n (some eV)from rfl,jr h];exact e1,e2,e3⟩
theorem xC{X:Cx}{cf:Cf}{h h':Heap}{n:Nat}{ao:AO}(eV:AO){p:Addr×Addr}(S:aU X cf h)(hn:cf.H[n]?=some (some ao))(hp:cf.ρ[n]?=some p)
  (k:∀b o,b≠p.1->b≠p.2->h.get? b=some o->h'.get? b=some o):Kept cf h (jc cf n eV) h':=
 ⟨λb o hb e=>k b o (λq=>hb<|q▸S.own p.1 ⟨n,ao,p,hn,hp,.inl rfl⟩) (λq=>hb<|q▸S.own p.2 ⟨n,ao,p,hn,hp,.inr rfl⟩) e,λU U h U=>h,λU U h=>h⟩
theorem nu.I5{X:Cx}{cf:Cf}{h:Heap}{p:Addr×Addr}:∀{ao:AO},nu X cf h p ao->(∃o,h.get? p.1=some o)/\∃o,h.get? p.2=some o
 |.l l,⟨e,vs,hl,_,_⟩=>⟨oE hl,e▸oE hl⟩
 |.i n f,⟨e,_,g,hm,_,_⟩=>⟨uq hm,e▸uq hm⟩
 |.s ks l,⟨e,_,vals,hm,_,_⟩=>⟨uq hm,e▸uq hm⟩
 |.n c ns l,⟨_,C,es,n,_,e1,e2,_,_⟩=>⟨⟨_,e1⟩,⟨_,e2⟩⟩
theorem xD{X:Cx}{cf:Cf}{s:Shared}{h':Heap}{t n:Nat}{ao eV:AO}{p:Addr×Addr}(S:aU X cf s.heap)(hn:cf.H[n]?=some (some ao))(hp:cf.ρ[n]?=some p)
  (k:∀b o,b≠p.1->b≠p.2->s.heap.get? b=some o->h'.get? b=some o)(r:nu X (jc cf n eV) h' p eV):
  Step cf s (jc cf n eV) {s with heap:=h',toks:=t}/\aU X (jc cf n eV) h':=by
 have hlt:n<cf.H.length:=by
  rcases dm n cf.H.length with h|h
  ·exact h
  ·rw[gO h]at hn;exact nN hn
 have K:=xC eV S hn hp k;have o1:Own cf p.1:=⟨n,ao,p,hn,hp,.inl rfl⟩
 have o2:Own cf p.2:=⟨n,ao,p,hn,hp,.inr rfl⟩
 have back:∀(m:Nat)(bo:AO),(jc cf n eV).H[m]?=some (some bo)->(m=n/\bo=eV)\/(m≠n/\cf.H[m]?=some (some bo)):=λm bo e=>by
  by_cases h:n=m
  ·subst h;rw[show(jc cf n eV).H=cf.H.set n (some eV)from rfl,jL hlt]at e;cases e;exact .inl ⟨rfl,rfl⟩
  ·rw[show(jc cf n eV).H=cf.H.set n (some eV)from rfl,jr h]at e;exact .inr ⟨λq=>h q.symm,e⟩
 have old:∀(m:Nat)(bo:AO),(jc cf n eV).H[m]?=some (some bo)->∃co,cf.H[m]?=some (some co):=λm bo e=>by
  clear hp r hlt K;rcases back m bo e with⟨rfl,_⟩|⟨_,h⟩
  ·exact⟨_,hn⟩
  ·exact⟨_,h⟩
 refine⟨⟨I2 h' t rfl,λb o hb e=>k b o (λq=>hb<|q▸o1) (λq=>hb<|q▸o2) e,λb o h U U=>h,λb h=>.inl h,λb h=>.inl<|(I4 hn).mp h,λU U h=>h⟩,
  ⟨?_,λm bo q e1 e2=>?_,λb h=>S.own b<|(I4 hn).mp h,λm i bo co q u e1 e2 e3 e4 hne=>?_,λb h=>?_,λb o e=>?_⟩⟩
 ·show cf.ρ.length=(cf.H.set n<|some eV).length;refine rR i5 ?_;exact S.len
 ·clear hlt old;rcases back m bo e1 with⟨rfl,rfl⟩|⟨hne,e1⟩
  ·have xE:cf.ρ[m]?=some q:=e2;rw[hp]at xE;clear e2;obtain rfl:=aK xE;exact r
  ·have j:=S.inj m n bo ao q p e1 hn e2 hp hne;exact(S.rep m bo q e1 e2).mono K (λo e=>k _ o j.1 j.2.1 e) λo e=>k _ o j.2.2.1 j.2.2.2 e
 ·refine X1 (old m bo e1) λb1 f1=>?_;refine X1 (old i co e2) λb2 f2=>?_;exact S.inj m i b1 b2 q u f1 f2 e3 e4 hne
 ·by_cases q1:b=p.1
  ·refine rR q1 ?_;exact r.I5.1
  ·by_cases q2:b=p.2
   ·refine rR q2 ?_;exact r.I5.2
   ·refine X1 (S.here b h) λo e=>?_;exact⟨o,k b o q1 q2 e⟩
 ·have z:=S.base b o e;exact⟨k b o (λq=>z.2<|q▸S.own _ o1) (λq=>z.2<|q▸S.own _ o2) z.1,z.2⟩
def fM(X:Cx)(d:Nat)(aa:Env)(ai:b5)(ae:bF)(es:bL)(H:ak)(Q:au->ak->Prop):Prop:=
 ∀A cf s E pos,c7 d A->cf.H=H->aU X cf s.heap->cK X cf aa ai ae s.heap->wpAny (model X.prog X.w) A (spliced<|backTo pos<|starEach es aa) (bC X cf s<|GL X Q) E s
section
variable {X:Cx}{d:Nat}{aa:Env}{ai:b5}{ae:bF}{H:ak}
theorem AE.mono{e:Expr}{Q Q':eF}(h:AE X d aa ai ae e H Q)(m:∀p H,Q p H->Q' p H):AE X d aa ai ae e H Q':=
 λA cf s E a b c f=>bz (h A cf s E a b c f) (λU U y=>y.mono m) λU U y=>y
noncomputable def notStar(e:Expr):Bool:=!(Nat.beq e.ctorIdx 22)
theorem rI{e:Expr}(h:notStar e=true)(es:bL):starEach (e::es) aa=(false,eval e aa)::starEach es aa:=by
 induction e using Expr.casesOn<;>first|rfl|exact nB h
theorem BR:∀{es:bL},es.all notStar=true->∀pos,(backTo pos<|starEach es aa).any (·.1)=false
 |[],_,_=>rfl
 |e::es,h,pos=>by rw[oj,cy]at h;rw[rI h.1];show(false||(backTo pos<|starEach es aa).any (·.1))=false;refine rR (BR h.2 pos) ?_;rfl
theorem xF{Q:au->ak->Prop}(q:Q [] H):fM X d aa ai ae [] H Q:=by rintro A cf s E pos U rfl S R;exact Calls.spliced_nil<|bC.now S ⟨[],aO.gk,q⟩
theorem uA{e:Expr}{es:bL}{Q:au->ak->Prop}(hs:notStar e=true)(h:AE X d aa ai ae e H λv H'=>fM X d aa ai ae es H' λvs c8=>Q (v::vs) c8):
  fM X d aa ai ae (e::es) H Q:=by
 rintro A cf s E pos hA rfl S R;rw[rI hs];refine Calls.spliced_cons (bz (h A cf s E hA rfl S R) (λv s₁ y=>?_) λU U y=>y);obtain⟨aS,pv,st,S₁,r,q⟩:=y;refine bz (q A aS s₁ E pos hA rfl S₁<|R.step S st) (λvs s₂ z=>?_) λU U y=>y;obtain⟨gy,cU,S₂,ps,rs,q₂⟩:=z;exact⟨gy,st.trans S.own cU,S₂,pv::ps,aO.fD (r.mono<|cU.kept S₁.own) rs,q₂⟩
theorem BS{α:Type}{e1 e2:Expr}{P:PV->PV->ak->Prop}{G:α->Cf->Shared->Prop}{k:Value->Value->Sem α}
  (h:AE X d aa ai ae e1 H λv1 H'=>AE X d aa ai ae e2 H' λv2 c8=>P v1 v2 c8)
  (op:∀A cf s E v1 v2 p1 p2,c7 d A->aU X cf s.heap->cK X cf aa ai ae s.heap->Rep X cf s.heap p1 v1->Rep X cf s.heap p2 v2->P p1 p2 cf.H->wpAny (model X.prog X.w) A (k v1 v2) (bC X cf s G) E s)
  {A:Around}{cf:Cf}{s:Shared}{E:cJ}(hA:c7 d A)(hH:cf.H=H)(S:aU X cf s.heap)(R:cK X cf aa ai ae s.heap):
  wpAny (model X.prog X.w) A (eval e1 aa) (λv1 s₁=>wpAny (model X.prog X.w) A (eval e2 aa) (λv2 s₂=>wpAny (model X.prog X.w) A (k v1 v2) (bC X cf s G) E s₂) E s₁) E s:=by
 refine bz (h A cf s E hA hH S R) (λv s₁ y=>?_) λU U y=>y;obtain⟨aS,p1,st,S₁,r,q⟩:=y;have cI:=R.step S st;refine bz (q A aS s₁ E hA rfl S₁ cI) (λv2 s₂ y=>?_) λU U y=>y;obtain⟨gy,p2,cU,S₂,r₂,q₂⟩:=y;exact bz (op A gy s₂ E v v2 p1 p2 hA S₂ (cI.step S₁ cU) (r.mono<|cU.kept S₁.own) r₂ q₂) (λU U z=>z.after S<|st.trans S.own cU) λU U y=>y
theorem BU{α:Type}{e1:Expr}{P:eF}{G:α->Cf->Shared->Prop}{k:Value->Sem α}
  (h:AE X d aa ai ae e1 H P)
  (op:∀A cf s E v1 p1,c7 d A->aU X cf s.heap->cK X cf aa ai ae s.heap->Rep X cf s.heap p1 v1->P p1 cf.H->wpAny (model X.prog X.w) A (k v1) (bC X cf s G) E s)
  {A:Around}{cf:Cf}{s:Shared}{E:cJ}(hA:c7 d A)(hH:cf.H=H)(S:aU X cf s.heap)(R:cK X cf aa ai ae s.heap):
  wpAny (model X.prog X.w) A (eval e1 aa) (λv1 s₁=>wpAny (model X.prog X.w) A (k v1) (bC X cf s G) E s₁) E s:=by
 refine bz (h A cf s E hA hH S R) (λv s₁ y=>?_) λU U y=>y;obtain⟨aS,p1,st,S₁,r,q⟩:=y;exact bz (op A aS s₁ E v p1 hA S₁ (R.step S st) r q) (λU U z=>z.after S st) λU U y=>y
theorem fm{e:Expr}{Q:eF}(h:∀A cf s E,c7 d A->cf.H=H->aU X cf s.heap->cK X cf aa ai ae s.heap->wpAny (model X.prog X.w) A (eval e aa) (bC X cf s<|GV X Q) E s):AE X d aa ai ae e H Q:=
 λA cf s E a b c f=>bz (h A cf s E a b c f) (λU U y=>xA.mpr y) λU U y=>y
theorem I7{l r:Expr}{op:Operator}{pos:Pos}{P:PV->PV->ak->Prop}{Q:eF}(h:AE X d aa ai ae l H λv1 H'=>AE X d aa ai ae r H' λv2 c8=>P v1 v2 c8)
  (o:∀A cf s E v1 v2 p1 p2,c7 d A->aU X cf s.heap->cK X cf aa ai ae s.heap->Rep X cf s.heap p1 v1->Rep X cf s.heap p2 v2->P p1 p2 cf.H->wpAny (model X.prog X.w) A (binaryOp op v1 v2) (bC X cf s<|GV X Q) E s):
  AE X d aa ai ae (.BinOp l op r pos) H Q:=fm λA cf s E hA hH S R=>wpAny_BinOp<|BS h o hA hH S R
end
end
section
mutual
noncomputable def toPy:PV->PyData
 |.n=>.none
 |.b b=>.bool b
 |.i i=>.int i
 |.s s=>.str<|Sx s
 |.t l=>.tuple<|jC l
 |.l l=>.list<|jC l
 |.r _=>.none
 |.d _=>.none
 |.c _ _=>.none
 |.o _ _ _=>.none
 |.e _=>.none
noncomputable def jC:au->List PyData
 |[]=>[]
 |p::r=>toPy p::jC r
end
theorem I8(s:String):PyData.strOk (Sx s)=true:=by
 have e:(Sx s).cps.toList=s.toList.map Char.toNat:=by show((cpsOfBytes 0 0 s.toByteArray.data.toList).toArray).toList=_;refine rR nc ?_;rw[cpsOfBytes_string]
 unfold PyData.strOk;refine rL Array.all_toList<|rR e ?_
 rewrite[gj];intro x hx;refine aC (bV.mp hx) λc U aP=>?_;clear hx;subst aP;have hv:=c.valid;simp only[UInt32.isValidChar,Nat.isValidChar]at hv;have ht:c.toNat=c.val.toNat:=rfl;exact di<|by refine rR ht ?_;exact PS hv
theorem rJ{n:Nat}(ih:∀p,simple n p=true->(toPy p).canLay0=true/\(toPy p).depth<=n):∀l:au,l.all (simple n)=true->PyData.canLayAll0 (jC l)=true/\PyData.depthAll (jC l)<=n:=by
 intro l
 induction l with
 |nil=>exactλU=>⟨rfl,iF _⟩
 |cons p l hi=>
  intro h;refine U1 (k8.mp h) λh1 h2=>?_;exact⟨k8.mpr ⟨(ih p h1).1,(hi h2).1⟩,Nat.max_le.mpr ⟨(ih p h1).2,(hi h2).2⟩⟩
theorem rK:∀(n:Nat)(p:PV),simple n p=true->(toPy p).canLay0=true/\(toPy p).depth<=n:=by
 intro n
 induction n with
 |zero=>
  intro p h;cases iJ h with
  |none=>exact⟨rfl,iF _⟩
  |int i=>exact⟨rfl,iF _⟩
  |str s=>exact⟨I8 s,iF _⟩
  |tup l m e=>nomatch e
  |lst l m e=>nomatch e
 |succ n ih=>
  intro p h;cases iJ h with
  |none=>exact⟨rfl,iF _⟩
  |int i=>exact⟨rfl,iF _⟩
  |str s=>exact⟨I8 s,iF _⟩
  |tup l m e h=>obtain rfl:=ng e;exact⟨(rJ ih l h).1,tX (rJ ih l h).2⟩
  |lst l m e h=>obtain rfl:=ng e;exact⟨(rJ ih l h).1,tX (rJ ih l h).2⟩
theorem I9{n k:Nat}(ih:∀p q,simple n p=true->simple k q=true->(PyData.eqv (toPy p) (toPy q)=true↔p=q)):∀(l m:au),l.all (simple n)=true->m.all (simple k)=true->(PyData.eqvAll (jC l) (jC m)=true↔l=m):=by
 intro l
 induction l with
 |nil=>intro m U U;induction m using b9 with
  |nil=>exact⟨λU=>rfl,λU=>rfl⟩
  |cons q m=>exact⟨nofun,nofun⟩
 |cons p l hi=>
  intro m h1 h2
  induction m using b9 with
  |nil=>exact⟨nofun,nofun⟩
  |cons q m=>
   refine U1 (k8.mp h1) λa1 a2=>?_;refine U1 (k8.mp h2) λb1 b2=>?_;exact(k8.trans<|and_congr (ih p q a1 b1)<|hi m a2 b2).trans List.cons_eq_cons.symm
theorem BV:∀(n:Nat)(p q:PV)(k:Nat),simple n p=true->simple k q=true->(PyData.eqv (toPy p) (toPy q)=true↔p=q):=by
 intro n
 induction n with
 |zero=>
  intro p q k h1 h2;cases iJ h1 with
  |tup l m e=>nomatch e
  |lst l m e=>nomatch e
  |none=>cases iJ h2 with
   |none=>exact⟨λU=>rfl,λU=>rfl⟩
   |_=>exact⟨nofun,nofun⟩
  |int i=>cases iJ h2 with
   |int j=>exact gQ.trans ⟨congrArg _,PV.i.inj⟩
   |_=>exact⟨nofun,nofun⟩
  |str i=>cases iJ h2 with
   |str j=>exact gQ.trans ⟨λe=>congrArg _ (lq e),λe=>congrArg _ (PV.s.inj e)⟩
   |_=>exact⟨nofun,nofun⟩
 |succ n ih=>
  intro p q k h1 h2;cases iJ h1 with
  |none=>cases iJ h2 with
   |none=>exact⟨λU=>rfl,λU=>rfl⟩
   |_=>exact⟨nofun,nofun⟩
  |int i=>cases iJ h2 with
   |int j=>exact gQ.trans ⟨congrArg _,PV.i.inj⟩
   |_=>exact⟨nofun,nofun⟩
  |str i=>cases iJ h2 with
   |str j=>exact gQ.trans ⟨λe=>congrArg _ (lq e),λe=>congrArg _ (PV.s.inj e)⟩
   |_=>exact⟨nofun,nofun⟩
  |tup l m e h=>obtain rfl:=ng e;cases iJ h2 with
   |tup l' m' e h'=>exact(I9 (λp q a b=>ih p q m' a b) l l' h h').trans ⟨congrArg _,PV.t.inj⟩
   |_=>exact⟨nofun,nofun⟩
  |lst l m e h=>obtain rfl:=ng e;cases iJ h2 with
   |lst l' m' e h'=>exact(I9 (λp q a b=>ih p q m' a b) l l' h h').trans ⟨congrArg _,PV.l.inj⟩
   |_=>exact⟨nofun,nofun⟩
theorem BW{X:Cx}{cf:Cf}{h:Heap}{n:Nat}(ih:∀(p:PV) {v:Value},simple n p=true->Rep X cf h p v->∃as,Reads h v (toPy p) as):∀(l:au){vs:cz},l.all (simple n)=true->aO X cf h l vs->∃as,ReadsAll h vs (jC l) as:=by
 intro l
 induction l with
 |nil=>intro vs U r;obtain rfl:vs=[]:=r;exact⟨_,.nil⟩
 |cons p l hi=>
  intro vs hs r;obtain⟨v,t,rfl,r1,r2⟩:=r;refine U1 (k8.mp hs) λa1 a2=>?_;refine X1 (ih p a1 r1) λas q=>?_;refine X1 (hi a2 r2) λbs q2=>?_;exact⟨_,.cons q q2⟩
theorem xG{X:Cx}{cf:Cf}{h:Heap}:∀(n:Nat)(p:PV){v:Value},simple n p=true->Rep X cf h p v->∃as,Reads h v (toPy p) as:=by
 have none:∀{v:Value},Rep X cf h .n v->∃as,Reads h v .none as:=λ{v} r=>by obtain rfl:v=.none:=r;exact⟨_,.none⟩
 have int:∀{i:Int}{v:Value},Rep X cf h (.i i) v->∃as,Reads h v (.int i) as:=λr=>by(refine X1 r λt aN=>?_;clear r;subst aN);exact⟨_,.int _ _⟩
 have str:∀{i:String}{v:Value},Rep X cf h (.s i) v->∃as,Reads h v (.str<|Sx i) as:=λr=>by(refine X1 r λt aQ=>?_;clear r;subst aQ);exact⟨_,.str _ _⟩
 intro n
 induction n with
 |zero=>
  intro p v hs r;cases iJ hs with
  |none=>exact none r
  |int i=>exact int r
  |str s=>exact str r
  |tup l m e=>nomatch e
  |lst l m e=>nomatch e
 |succ n ih=>
  intro p v hs r;cases iJ hs with
  |none=>exact none r
  |int i=>exact int r
  |str s=>exact str r
  |tup l m e h=>
   obtain rfl:=ng e;obtain⟨a,vs,rfl,_,⟨o,e1,e2,m,e3⟩,_,rl⟩:=r;refine X1 (BW ih l h rl) λas q=>?_;exact⟨_,reads_tuple_at e1 e2 e3 q⟩
  |lst l m e h=>
   obtain rfl:=ng e;obtain⟨a,vs,rfl,_,hpl,_,rl⟩:=r;refine E_ hpl.isList λo e1 e2 m e3=>?_;refine X1 (BW ih l h rl) λas q=>?_;exact⟨_,reads_list_at e1 e2 e3 q⟩
theorem BX{X:Cx}{cf:Cf}{h:Heap}(n:Nat)(l:au){vs:cz}(a:l.all (simple n)=true)(b:aO X cf h l vs):∃as,ReadsAll h vs (jC l) as:=BW (xG n) l a b
set_option tactic.hygienic true in
theorem rM{X:Cx}{cf:Cf}{h:Heap}{p:PV}{v:Value}{l:au}(S:aU X cf h)(r:Rep X cf h p v)(e:e_ cf.H p=some l):
  ∃a vs,v=.ref a/\(h.IsList a vs\/IsTup h a vs)/\vs.size<=2^20/\aO X cf h l vs.toList:=by
 induction p using d7 with
 |t m=>simp only[e_,Option.some.injEq]at e;subst e;obtain⟨a,vs,rfl,_,ht,hz,rl⟩:=r;exact fy a vs rfl (.inr ht) hz rl
 |l m=>simp only[e_,Option.some.injEq]at e;subst e;obtain⟨a,vs,rfl,_,ht,hz,rl⟩:=r;exact fy a vs rfl (.inl ht.isList) hz rl
 |e n=>
  simp only[e_]at e;split at e
  ·rename_i l' q;obtain rfl:=aK e;obtain⟨pp,e2,rfl⟩:=r;obtain⟨_,vs,hl,hz,rl⟩:=S.rep n _ pp q e2;exact fy pp.1 vs rfl (.inl hl.isList) hz rl
  ·exact nN e
 |_=>simp[e_]at e
set_option tactic.hygienic true in
theorem nD{X:Cx}{cf:Cf}{h:Heap}{p:PV}{v:Value}{l:au}(S:aU X cf h)(r:Rep X cf h p v)(e:fh cf.H p=some l):
  ∃a vs,v=.ref a/\h.PlainList a vs/\vs.size<=2^20/\aO X cf h l vs.toList:=by
 induction p using d7 with
 |l m=>simp only[fh,Option.some.injEq]at e;subst e;obtain⟨a,vs,rfl,_,ht,hz,rl⟩:=r;exact fy a vs rfl ht hz rl
 |e n=>
  simp only[fh]at e;split at e
  ·rename_i l' q;obtain rfl:=aK e;obtain⟨pp,e2,rfl⟩:=r;obtain⟨_,vs,hl,hz,rl⟩:=S.rep n _ pp q e2;exact fy pp.1 vs rfl hl hz rl
  ·exact nN e
 |_=>simp[fh]at e
set_option tactic.hygienic true in
theorem xH{X:Cx}{cf:Cf}{h:Heap}{p:PV}{v:Value}(S:aU X cf h)(r:Rep X cf h p v)(hs:simple 4 (view cf.H p)=true):∃as,Reads h v (toPy<|view cf.H p) as:=by
 induction p using d7 with
 |e n=>
  simp only[view]at hs⊢;split at hs
  ·rename_i l q;refine eJ (nD (p:=.e n) S r (l:=l)<|by simp[fh,q]) λa vs aR hpl U rl=>?_;clear r;subst aR;refine E_ hpl.isList λo e1 e2 m e3=>?_;refine X1 (BX 3 l hs rl) λas ra=>?_;exact⟨_,reads_list_at e1 e2 e3 ra⟩
  ·nomatch hs
 |_=>exact xG 4 _ hs r
noncomputable def gz:gw->CmpOp
 |.e=>.Eq|.n=>.NotEq|.l=>.Lt|.a=>.LtE|.g=>.Gt|.b=>.GtE|.i=>.In|.o=>.NotIn|.s=>.Is|.t=>.IsNot
theorem uB{X:Cx}{cf:Cf}{h:Heap}{p:PV}{v:Value}{f:Int->bK}(S:aU X cf h)(r:Rep X cf h p v)(e:p=.d f\/∃n,p=.e n/\∃m,cf.H[n]?=some (some<|.i m f)):
  ∃a g,v=.ref a/\(a==sysModules)=false/\h.MapOf (intKind X.prog X.w) a g/\wY f g:=by
 rcases e with rfl|⟨n,rfl,q⟩
 ·obtain⟨a,g,rfl,_,hs,hm,hi⟩:=r;exact fy a g rfl hs hm hi
 ·obtain⟨pp,e2,rfl⟩:=r;revert q;refine Y1 λm q=>?_;obtain⟨_,hs,kvs,hm,_,hi⟩:=S.rep n _ pp q e2;exact fy pp.1 _ rfl hs hm.mapOf hi
theorem uC{X:Cx}{cf:Cf}{h:Heap}{p:PV}{v:Value}{ks:aY}{l:au}(S:aU X cf h)(r:Rep X cf h p v)(e:p=.c ks l\/∃n,p=.e n/\cf.H[n]?=some (some<|.s ks l)):
  ∃a vals,v=.ref a/\(a==sysModules)=false/\h.MapOf (strKind X.prog X.w) a (kH ks vals)/\vals.length=ks.length/\aO X cf h l vals:=by
 rcases e with rfl|⟨n,rfl,q⟩
 ·obtain⟨a,vals,rfl,_,hs,hm,hl,rl⟩:=r;exact uc a vals rfl hs hm hl rl
 ·obtain⟨pp,e2,rfl⟩:=r;obtain⟨_,hs,vals,hm,hl,rl⟩:=S.rep n _ pp q e2;have hm':=hm.mapOf;rw[show valueAt ((List.map Sx ks).zip vals)=kH ks vals from funext λx=>l_ _ x]at hm';exact uc pp.1 vals rfl hs hm' hl rl
theorem I_{f:Int->bK}{g:Int->Option Value}(h:wY f g)(k:Int):(g k).isSome=(f k).isSome:=by
 have:=h k;cases e:f k with
 |none=>rw[e]at this;refine rR this ?_;rfl
 |some i=>rw[e]at this;refine X1 this λt q=>?_;refine rR q ?_;rfl
theorem BY:∀{ks:aY}{vals:cz}(x:String),vals.length=ks.length->(kH ks vals<|Sx x).isSome=ks.contains x
 |[],vals,x,_=>by simp[kH]
 |k::ks,[],x,h=>by simp at h
 |k::ks,v::vals,x,h=>by
  have ih:=BY (ks:=ks) (vals:=vals) x<|by simpa using h
  unfold kH at ih⊢;refine rR fK<|rR List.zip_cons_cons<|rR m8<|rR List.contains_cons ?_
  by_cases q:x=k
  ·clear h;subst q;simp
  ·have q1:(Sx x==Sx k)=false:=tZ.mpr λe=>q<|lq e
   have q2:(x==k)=false:=tZ.mpr q;refine rR q1<|rR q2 ?_
   rewrite[Bool.false_or];exact ih
theorem BZ{n:Nat}{p:PV}(hp:simple n p=true):∀{l:au},l.all (simple n)=true->((jC l).any (λy=>PyData.eqv y<|toPy p)=true↔p∈l)
 |[],_=>by simp[show jC []=[]from rfl]
 |q::l,h=>by rw[oj,cy]at h;have a:=BV n q p n h.1 hp;have b:=BZ hp h.2;rewrite[jC];refine rR q3 ?_;rewrite[Bool.or_eq_true,a,b,eO];exact⟨λh=>h.imp Eq.symm id,λh=>h.imp Eq.symm id⟩
section
variable {X:Cx}{cf:Cf}{s:Shared}{A:Around}{d:Nat}{E:cJ}{v1 v2:Value}{p1 p2:PV}
theorem oO{P:Prop}[Decidable P]{b:Bool}(h:b=true↔P):b=decide P:=by
 by_cases q:P
 ·refine rR (di q) ?_;exact h.mpr q
 ·refine rR (dG q) ?_;exact Bool.eq_false_iff.mpr λe=>q<|h.mp e
inductive WU (p:PV)(v:Value):Prop
 |none (e:p=.n) (f:v=.none)
 |bool (b:Bool) (e:p=.b b) (f:v=.bool b)
 |other (e:p≠.n) (e':∀b,p≠.b b) (f:v≠.none) (f':∀b,v≠.bool b)
theorem Ja{h:Heap}{cf:Cf}{p:PV}{v:Value}(r:Rep X cf h p v):WU p v:=by
 induction p using d7 with
 |n=>exact .none rfl r
 |b b=>exact .bool b rfl r
 |i i=>(refine X1 r λt aT=>?_;clear r;subst aT);exact .other nofun nofun nofun nofun
 |s i=>(refine X1 r λt aL=>?_;clear r;subst aL);exact .other nofun nofun nofun nofun
 |t l=>obtain⟨a,_,rfl,_⟩:=r;exact .other nofun nofun nofun nofun
 |l l=>obtain⟨a,_,rfl,_⟩:=r;exact .other nofun nofun nofun nofun
 |r l=>obtain⟨a,_,rfl,_⟩:=r;exact .other nofun nofun nofun nofun
 |d l=>obtain⟨a,_,rfl,_⟩:=r;exact .other nofun nofun nofun nofun
 |c k l=>obtain⟨a,_,rfl,_⟩:=r;exact .other nofun nofun nofun nofun
 |o c n l=>obtain⟨a,_,_,_,_,rfl,_⟩:=r;exact .other nofun nofun nofun nofun
 |e n=>obtain⟨a,_,rfl⟩:=r;exact .other nofun nofun nofun nofun
theorem Jb{h:Heap}{cf:Cf}{p:PV}{v1 v2:Value}(r:Rep X cf h p v1)(h2:v2=.none\/∃b,v2=.bool b):PySem.plainIs v1 v2=true:=by
 have e:v1.ctorIdx≠9:=by
  induction p using d7 with
  |n=>obtain rfl:v1=.none:=r;exact(by decide:0≠9)
  |b b=>obtain rfl:v1=.bool b:=r;exact(by decide:3≠9)
  |i i=>(refine X1 r λt aM=>?_;clear r;subst aM);exact(by decide:4≠9)
  |s i=>(refine X1 r λt aP=>?_;clear r;subst aP);exact(by decide:6≠9)
  |t l=>obtain⟨a,_,rfl,_⟩:=r;exact(by decide:10≠9)
  |l l=>obtain⟨a,_,rfl,_⟩:=r;exact(by decide:10≠9)
  |r l=>obtain⟨a,_,rfl,_⟩:=r;exact(by decide:10≠9)
  |d l=>obtain⟨a,_,rfl,_⟩:=r;exact(by decide:10≠9)
  |c k l=>obtain⟨a,_,rfl,_⟩:=r;exact(by decide:10≠9)
  |o c n l=>obtain⟨a,_,_,_,_,rfl,_⟩:=r;exact(by decide:10≠9)
  |e n=>obtain⟨a,_,rfl⟩:=r;exact(by decide:10≠9)
 rcases h2 with rfl|⟨b,rfl⟩<;>(clear r;induction v1 using Value.casesOn)<;>first|rfl|exact absurd rfl e
theorem Jc(r1:Rep X cf s.heap p1 v1)(r2:Rep X cf s.heap p2 v2)(h:p2=.n\/∃x,p2=.b x):PySem.plainIs v1 v2=true/\((v1==v2)=true↔p1=p2):=by
 rcases h with rfl|⟨b,rfl⟩
 ·obtain rfl:v2=.none:=r2;refine⟨Jb r1<|.inl rfl,gQ.trans ?_⟩;cases Ja r1 with
  |none e f=>exact⟨λU=>e,λU=>f⟩
  |bool b e f=>clear r1;subst e;subst f;exact⟨nofun,nofun⟩
  |other e _ f _=>exact⟨λq=>absurd q f,λq=>absurd q e⟩
 ·obtain rfl:v2=.bool b:=r2;refine⟨Jb r1<|.inr ⟨b,rfl⟩,gQ.trans ?_⟩;cases Ja r1 with
  |none e f=>clear r1;subst e;subst f;exact⟨nofun,nofun⟩
  |bool b e f=>clear r1;subst e;subst f;exact⟨λq=>congrArg _ (Value.bool.inj q),λq=>congrArg _ (PV.b.inj q)⟩
  |other _ e _ f=>exact⟨λq=>absurd q<|f b,λq=>absurd q<|e b⟩
theorem xJ{p:PV}(h:simple 4 p=true):SeqAt.shaped (toPy p)=true:=k8.mpr ⟨(rK 4 p h).1,di<|eR (rK 4 p h).2<|by decide⟩
theorem Jd{u x y c:Nat}(hu:u+64<c)(h:y<=2):u+1+min x y<c:=by have:=lV x y;exact PT hu h
open Classical in
theorem rN(hA:c7 d A)(S:aU X cf s.heap)(r1:Rep X cf s.heap p1 v1)(r2:Rep X cf s.heap p2 v2)(op:gw){Q:Bool->Prop}(h:mh cf.H op p1 p2 Q){R:cJ}
  (k:∀b t,Q b->R (.bool b) {s with toks:=t}):wpAny (model X.prog X.w) A (compareOp (gz op) v1 v2) R E s:=by
 have hu:A.units+64<cLine:=by have:=hA.units;exact PU this
 have hu1:A.units+1+64<cLine:=by have:=hA.units;exact PW this
 have kn:∀b,Q b->R (.bool b) s:=λb q=>k b s.toks q;unfold mh at h
 induction op using gw.casesOn<;>dsimp only at h<;>dsimp only[gz]
 ·refine U1 h λhc q=>?_;clear h;rcases hc with⟨x,y,rfl,rfl⟩|⟨h1,h2⟩
  ·subst r1;subst r2;refine PyProof.Rows.eq_bool<|kn _ ?_
   have e:(x==y)=decide (view cf.H (.b x)=view cf.H (.b y)):=oO<|by simp[view]
   refine rR e ?_;exact q
  ·refine X1 (xH S r1 h1) λas ra=>?_;refine X1 (xH S r2 h2) λbs rb=>?_;refine eq_dataH ra rb (xJ h1) (xJ h2) hu<|kn _ ?_
   refine rR (oO<|BV 4 _ _ 4 h1 h2) ?_;exact q
 ·refine U1 h λhc q=>?_;clear h;rcases hc with⟨x,y,rfl,rfl⟩|⟨h1,h2⟩
  ·subst r1;subst r2;refine PyProof.Rows.ne_bool<|kn _ ?_
   have e:(x==y)=decide (view cf.H (.b x)=view cf.H (.b y)):=oO<|by simp[view]
   show Q<|!(x==y)
   refine rR e ?_;exact q
  ·refine X1 (xH S r1 h1) λas ra=>?_;refine X1 (xH S r2 h2) λbs rb=>?_;refine ne_dataH ra rb (xJ h1) (xJ h2) hu<|kn _ ?_
   refine rR (oO<|BV 4 _ _ 4 h1 h2) ?_;exact q
 ·(refine d_ h λi j aN aQ q=>?_;clear h;subst aN;subst aQ)
  refine X1 r1 λt aR=>?_;clear r1;subst aR;(refine X1 r2 λu aT=>?_;clear r2;subst aT);refine PyProof.Rows.lt_int<|kn _ ?_
  simpa using q
 ·(refine d_ h λi j aL aM q=>?_;clear h;subst aL;subst aM)
  refine X1 r1 λt aP=>?_;clear r1;subst aP;(refine X1 r2 λu aN=>?_;clear r2;subst aN);refine PyProof.Rows.le_int<|kn _ ?_
  simpa using q
 ·(refine d_ h λi j aQ aR q=>?_;clear h;subst aQ;subst aR)
  refine X1 r1 λt aT=>?_;clear r1;subst aT;(refine X1 r2 λu aL=>?_;clear r2;subst aL);refine PyProof.Rows.gt_int<|kn _ ?_
  simpa using q
 ·(refine d_ h λi j aM aP q=>?_;clear h;subst aM;subst aP)
  refine X1 r1 λt aN=>?_;clear r1;subst aN;(refine X1 r2 λu aQ=>?_;clear r2;subst aQ);refine PyProof.Rows.ge_int<|kn _ ?_
  simpa using q
 ·rcases h with⟨l,hs,h1,h2,q⟩|⟨f,i,hf,rfl,q⟩|⟨ks,l,x,hf,rfl,q⟩
  ·(refine eJ (rM S r2 hs) λa vs aR hl hz rl=>?_;clear r2;subst aR)
   refine X1 (xG 2 p1 h1 r1) λas ra=>?_;refine X1 (BX 2 l h2 rl) λbs rb=>?_;have l1:=rK 2 _ h1;have l2:=rJ (rK 2) l h2;have room:=Jd (x:=PyData.depthAll<|jC l) hu l1.2;have e:=oO<|BZ h1 h2
   rcases hl with⟨o,e1,e2,m,e3⟩|⟨o,e1,e2,m,e3⟩
   ·exact SeqAt.in_list_reads (reads_list_at e1 e2 e3 rb) ra l2.1 l1.1 room (by refine rR e ?_;exact kn _ q)
   ·exact SeqAt.in_tuple_reads (reads_tuple_at e1 e2 e3 rb) ra l2.1 l1.1 room (by refine rR e ?_;exact kn _ q)
  ·(refine eJ (uB S r2 hf) λa g aT hs hm hi=>?_;clear r2;subst aT)
   refine X1 r1 λt aL=>?_;clear r1;subst aL;exact wpAny_in_of (knd:=intKind X.prog X.w) (k:=i) (by simp[intKind,Value.isInt]) hs hm<|by rw[I_ hi];exact k _ _ q
  ·(refine pX (uC S r2 hf) λa vals aM hs hm hl rl=>?_;clear r2;subst aM)
   refine X1 r1 λt aP=>?_;clear r1;subst aP;exact wpAny_in_of (knd:=PySem.strKind X.prog X.w) (k:=Sx x) (by simp[PySem.strKind,Value.isStrOf]) hs hm<|by refine rR (BY x hl) ?_;exact k _ _ q
 ·rcases h with⟨l,hs,h1,h2,q⟩|⟨f,i,hf,rfl,q⟩|⟨ks,l,x,hf,rfl,q⟩
  ·(refine eJ (rM S r2 hs) λa vs aN hl hz rl=>?_;clear r2;subst aN)
   refine X1 (xG 2 p1 h1 r1) λas ra=>?_;refine X1 (BX 2 l h2 rl) λbs rb=>?_;have l1:=rK 2 _ h1;have l2:=rJ (rK 2) l h2;have room:=Jd (x:=PyData.depthAll<|jC l) hu l1.2;have e:=oO<|BZ h1 h2
   rcases hl with⟨o,e1,e2,m,e3⟩|⟨o,e1,e2,m,e3⟩
   ·exact SeqAt.notIn_list_reads (reads_list_at e1 e2 e3 rb) ra l2.1 l1.1 room (by refine rR e ?_;exact kn _ q)
   ·exact SeqAt.notIn_tuple_reads (reads_tuple_at e1 e2 e3 rb) ra l2.1 l1.1 room (by refine rR e ?_;exact kn _ q)
  ·(refine eJ (uB S r2 hf) λa g aQ hs hm hi=>?_;clear r2;subst aQ)
   refine X1 r1 λt aR=>?_;clear r1;subst aR;exact wpAny_notIn_of (knd:=intKind X.prog X.w) (k:=i) (by simp[intKind,Value.isInt]) hs hm<|by rw[I_ hi];exact k _ _ q
  ·(refine pX (uC S r2 hf) λa vals aT hs hm hl rl=>?_;clear r2;subst aT)
   refine X1 r1 λt aL=>?_;clear r1;subst aL;exact wpAny_notIn_of (knd:=PySem.strKind X.prog X.w) (k:=Sx x) (by simp[PySem.strKind,Value.isStrOf]) hs hm<|by refine rR (BY x hl) ?_;exact k _ _ q
 ·refine U1 h λh2 q=>?_;refine U1 (Jc r1 r2 h2) λpl e=>?_;exact wpAny_is_plain pl<|kn _ (by refine rR (oO e) ?_;exact q)
 ·refine U1 h λh2 q=>?_;refine U1 (Jc r1 r2 h2) λpl e=>?_;exact wpAny_isNot_plain pl<|kn _ (by refine rR (oO e) ?_;exact q)
end
end
section
theorem iO{n:Nat}(h:n<=2^20):n<=sizeLine:=by refine rR sizeLine_eq ?_;exact PX h
section
variable {X:Cx}{cf:Cf}{s:Shared}{A:Around}{d:Nat}{E:cJ}{v v1 v2 v3:Value}{p p1 p2 p3:PV}{Q:eF}
theorem xK{l:au}{vs:dg}{n t:Nat}(S:aU X cf s.heap)(r:aO X cf s.heap l vs.toList)(hz:vs.size<=2^20)(q:Q (.l l) cf.H):
  bC X cf s (GV X Q) (.ref s.heap.objs.size) {s with heap:=s.heap.push {cls:=.type "list",data:=.seq vs n},toks:=t}:=
 bC.grown S (c5.push _ _) ⟨_,WS S r hz,q⟩
theorem WV{l:au}{vs:dg}{n t:Nat}(S:aU X cf s.heap)(r:aO X cf s.heap l vs.toList)(hz:vs.size<=2^20)(q:Q (.t l) cf.H):
  bC X cf s (GV X Q) (.ref s.heap.objs.size) {s with heap:=s.heap.push {cls:=.type "tuple",data:=.seq vs n},toks:=t}:=
 bC.grown S (c5.push _ _) ⟨_,WT S r hz,q⟩
theorem Je{l:au}{vs:dg}{n t:Nat}(S:aU X cf s.heap)(r:aO X cf s.heap l vs.toList)(hz:vs.size<=2^20)(q:ly cf.H (.l l) Q):
  bC X cf s (GV X Q) (.ref s.heap.objs.size) {s with heap:=s.heap.push {cls:=.type "list",data:=.seq vs n},toks:=t}:=by
 have e:∃o,(s.heap.push {cls:=.type "list",data:=.seq vs n}).get? s.heap.objs.size=some o:=⟨_,ik _ rfl⟩
 have k:Kept cf s.heap (eU cf s.heap.objs.size s.heap.objs.size<|.l l) (s.heap.push {cls:=.type "list",data:=.seq vs n}):=by
  refine⟨λb o U e=>jq _ e,λb o hb e hO=>?_,λm p e=>?_⟩
  ·rcases hO with hO|rfl|rfl
   ·exact hb hO
   ·exact absurd (fJ e)<|q_ _
   ·exact absurd (fJ e)<|q_ _
  ·have hn:m<cf.ρ.length:=by
    rcases dm m cf.ρ.length with h|h
    ·exact h
    ·rw[gO h]at e;exact nN e
   show(cf.ρ++[_])[m]?=_;rw[iZ hn,e]
 have ok:=xB (t:=t) (ao:=.l l) S (c5.push s.heap {cls:=.type "list",data:=.seq vs n}) (bY _) (bY _) e e
  ⟨rfl,vs,⟨n,ik _ rfl⟩,hz,r.mono k l⟩
 exact⟨_,ok.1,ok.2.1,_,ok.2.2.1,q⟩
theorem gm{i:Int}{t:Tok}{h:Heap}:Rep X cf h (.i i) (.int i t):=⟨t,rfl⟩
theorem lA{b:Bool}{h:Heap}:Rep X cf h (.b b) (.bool b):=rfl
theorem kL{h:Heap}:Rep X cf h .n .none:=rfl
theorem B0{x:String}{t:Tok}{h:Heap}:Rep X cf h (.s x) (.str (Sx x) t):=⟨t,rfl⟩
noncomputable def B3:lu->Operator
 |.a=>.Add|.s=>.Sub|.m=>.Mult|.f=>.FloorDiv|.o=>.Mod
theorem Jf{i j:Int}(hi:small i)(hj:small j):Builtin.divisionGoesByPylong i j=false:=by
 unfold Builtin.divisionGoesByPylong;have hd:∀n:Int,small n->(if n==0 then 0 else n.natAbs.log2/30+1)<=300:=λn hn=>by
  split
  ·exact PY
  ·have h1:n.natAbs<2^40:=by unfold small at hn;exact GG hn
   have h2:n.natAbs.log2<40:=by
    by_cases h0:n.natAbs=0
    ·refine rR h0 ?_;decide
    ·exact(Nat.log2_lt h0).mpr h1
   exact PZ h2
 dsimp only;refine rR (dG<|by have:=hd j hj;exact P0 this) ?_;rw[Bool.false_and]
set_option tactic.hygienic true in
theorem WW{i j:Int}(hi:small i)(hj:small j):IntMulOk i j:=by
 unfold IntMulOk;have h1:i.natAbs<2^40:=by unfold small at hi;exact GG hi
 have e:decide (Builtin.Int.intBits i>shortFactorBits)=false:=by
  apply dG;unfold Builtin.Int.intBits shortFactorBits;split
  ·exact P1
  ·rename_i h0;have h2:i.natAbs.log2<40:=(Nat.log2_lt<|by simpa using h0).mpr h1;exact P4 h2
 refine rR e ?_;simp
theorem WX(hA:c7 d A)(S:aU X cf s.heap)(r1:Rep X cf s.heap p1 v1)(r2:Rep X cf s.heap p2 v2)(op:lu)(h:xd cf.H op p1 p2 λv=>Q v cf.H):
  wpAny (model X.prog X.w) A (binaryOp (B3 op) v1 v2) (bC X cf s<|GV X Q) E s:=by
 unfold xd at h
 induction op using lu.casesOn<;>dsimp only at h<;>dsimp only[B3]
 ·rcases h with⟨i,j,rfl,rfl,q⟩|⟨l,r,hl,hr,hz,q⟩
  ·(refine X1 r1 λt aM=>?_;clear r1;subst aM);(refine X1 r2 λu aP=>?_;clear r2;subst aP)
   exact PyProof.Rows.add_int<|bC.tok S ⟨_,gm,q⟩
  ·(refine eJ (nD S r1 hl) λa vs aN aQ hza rl=>?_;clear r1;subst aN;revert aQ;refine Y1 λn ha=>?_)
   refine eJ (nD S r2 hr) λb ws aR aT hzb rr=>?_;clear r2;subst aR;revert aT;refine Y1 λm hb=>?_;have e1:vs.size=l.length:=by have:=rl.length;simpa using this
   have e2:ws.size=r.length:=by have:=rr.length;simpa using this
   exact PySem.P.add_list (items:=vs) (items2:=ws) ha hb (xK S (by refine rR Array.toList_append ?_;exact rl.append rr) (by refine rR Array.size_append<|rR e1<|rR e2 ?_;exact hz) q)<|by refine rR e1<|rR e2 ?_;exact iO hz
 ·(refine d_ h λi j aL aM q=>?_;clear h;subst aL;subst aM)
  refine X1 r1 λt aP=>?_;clear r1;subst aP;(refine X1 r2 λu aN=>?_;clear r2;subst aN);exact PyProof.Rows.sub_int'<|bC.tok S ⟨_,gm,q⟩
 ·(refine pX h λi j aQ aR hi hj q=>?_;clear h;subst aQ;subst aR)
  refine X1 r1 λt aT=>?_;clear r1;subst aT;(refine X1 r2 λu aL=>?_;clear r2;subst aL);exact PyProof.Rows.mul_int (bC.tok S ⟨_,gm,q⟩)<|WW hi hj
 ·(refine Fc h λi j aM aP hi hj h0 q=>?_;clear h;subst aM;subst aP)
  refine X1 r1 λt aN=>?_;clear r1;subst aN;(refine X1 r2 λu aQ=>?_;clear r2;subst aQ);refine PyProof.Rows.floordiv_int (Ne.symm<|Int.ne_of_lt h0) (bC.tok S ⟨_,gm,?_⟩)<|.inl<|Jf hi hj
  refine rR (Int.fdiv_eq_ediv_of_nonneg _ (Int.le_of_lt h0)) ?_;exact q
 ·(refine eJ h λi j aR aT h0 q=>?_;clear h;subst aR;subst aT)
  refine X1 r1 λt aL=>?_;clear r1;subst aL;(refine X1 r2 λu aM=>?_;clear r2;subst aM);refine PyProof.Rows.mod_int' (Ne.symm<|Int.ne_of_lt h0)<|bC.tok S ⟨_,gm,?_⟩
  refine rR (Int.fmod_eq_emod_of_nonneg _ (Int.le_of_lt h0)) ?_;exact q
set_option tactic.hygienic true in
theorem B4{k:Int}{n j:Nat}(h:gx k n=some j):seqIndex? k n=some j/\j<n/\((0<=k/\j=k.toNat)\/(k<0/\-(n:Int)<=k/\j=(k+n).toNat)):=by
 unfold gx at h;split at h
 ·split at h
  ·obtain rfl:=aK h;refine⟨?_,by(first|lia|omega),.inl ⟨by(first|lia|omega),rfl⟩⟩;rename_i h1 h2;have h0:¬k<0:=UP h1;unfold seqIndex?;simp only[h0,if_false];exact rR (bw<|by simp only[Bool.and_eq_true,decide_eq_true_eq];exact VP h1 h2) rfl
  ·exact nN h
 ·split at h
  ·obtain rfl:=aK h;exact⟨seqIndex_neg (by(first|lia|omega))<|by(first|lia|omega),by(first|lia|omega),.inr ⟨by(first|lia|omega),by(first|lia|omega),rfl⟩⟩
  ·exact nN h
theorem WY{a:Addr}{vs:dg}{k:Int}{t:Tok}{j:Nat}{x:Value}{R:cJ}(hl:s.heap.IsList a vs\/IsTup s.heap a vs)(hk:small k)(hj:gx k vs.size=some j)(hx:vs[j]?=some x)(q:R x s):
  wpAny (model X.prog X.w) A (getItem (.ref a)<|.int k t) R E s:=by
 refine U2 (B4 hj) λe hlt hc=>?_;unfold small at hk;rcases hl with hl|hl
 ·clear hj e hlt;rcases hc with⟨h0,rfl⟩|⟨h0,h1,rfl⟩
  ·exact wpAny_getItem_list hl h0 (Ai hk) hx q
  ·exact wpAny_getItem_list_neg hl h0 h1 (Aj hk) hx q
 ·exact PyProof.Rows.getItem_tuple hl (Aj hk) (Ai hk) e hx q
theorem B5:∀{ks:aY}{l:au}{vals:cz}{h:Heap}(x:String){p:PV},aO X cf h l vals->fW x ks l=some p->∃v,kH ks vals (Sx x)=some v/\Rep X cf h p v
 |[],l,vals,h,x,p,r,e=>by simp[fW]at e
 |k::ks,[],vals,h,x,p,r,e=>by simp[fW]at e
 |k::ks,q::l,vals,h,x,p,r,e=>by
  obtain⟨v,t,rfl,r1,r2⟩:=r;unfold fW at e;unfold kH;refine rR fK<|rR List.zip_cons_cons<|rR m8 ?_
  by_cases hk:k=x
  ·subst hk;rw[bw rfl]at e;obtain rfl:=aK e;exact aA v (by simp) r1
  ·rw[bO hk]at e;have q1:(Sx x==Sx k)=false:=tZ.mpr λe=>hk (lq e).symm;refine rR q1 ?_;exact B5 x r2 e
theorem Jg:∀{ks:aY}{l:au}{vals:cz}{h:Heap}(x:String),aO X cf h l vals->l.length=ks.length->fW x ks l=none->kH ks vals (Sx x)=none
 |[],l,vals,h,x,r,hl,e=>by simp[kH]
 |k::ks,[],vals,h,x,r,hl,e=>by simp at hl
 |k::ks,q::l,vals,h,x,r,hl,e=>by
  obtain⟨v,t,rfl,r1,r2⟩:=r;unfold fW at e;unfold kH;refine rR fK<|rR List.zip_cons_cons<|rR m8 ?_
  by_cases hk:k=x
  ·rw[bw hk]at e;exact sN e
  ·rw[bO hk]at e;have q1:(Sx x==Sx k)=false:=tZ.mpr λe=>hk (lq e).symm;refine rR q1 ?_;exact Jg x r2 (by simpa using hl) e
theorem Jh{k:Int}{n j:Nat}(h:gx k n=some j)(hn:n<=2^20):small k:=by
 obtain⟨_,h1,⟨h2,_⟩|⟨h2,h3,_⟩⟩:=B4 h
 ·have hk:k<n:=by
   unfold gx at h;rw[bw h2]at h;split at h
   ·assumption
   ·exact nN h
  exact⟨UQ h2,VQ hn hk⟩
 ·exact⟨VR hn h3,UR h2⟩
theorem WZ{value slice:Expr}(S:aU X cf s.heap)(r1:Rep X cf s.heap p1 v1)(r2:Rep X cf s.heap p2 v2)(h:An cf.H p1 p2 λv=>Q v cf.H)
  (hs:subscripted slice false v1 v2=operate [v1,v2] (getItem v1 v2)):
  wpAny (model X.prog X.w) A (subscriptTail value slice v1 v2) (bC X cf s<|GV X Q) E s:=by
 rcases h with⟨l,k,j,pv,hl,rfl,hj,hv,q⟩|⟨f,k,i,hf,rfl,hv,q⟩|⟨ks,l,x,pv,hf,rfl,hv,q⟩
 ·(refine eJ (rM S r1 hl) λa vs aP hc hz rl=>?_;clear r1;subst aP)
  refine X1 r2 λt aN=>?_;clear r2;subst aN;refine aC (rl.get hv) λx hx rx=>?_;have e1:vs.size=l.length:=by have:=rl.length;simpa using this
  have hk:small k:=Jh hj<|FQ hz e1
  have g:=WY (X:=X) (A:=A) (E:=E) (t:=t) hc hk (by refine rR e1 ?_;exact hj) (by rw[<-qV];exact hx) (R:=bC X cf s<|GV X Q)<|bC.now S ⟨pv,rx,q⟩
  rcases hc with hc|hc
  ·exact tail_any hc.typeIs slot_list_getitem.lookup g hs
  ·exact tail_any (T:="tuple") (by refine c_ hc λo e c U=>?_;exact aA o e c) PySem.F.slot_tuple_getitem.lookup g hs
 ·(refine eJ (uB S r1 hf) λa g aQ hs' hm hi=>?_;clear r1;subst aQ)
  refine X1 r2 λt aR=>?_;clear r2;subst aR;have:=hi k;rw[hv]at this;refine X1 this λu hu=>?_;exact tail_any hm.typeIs slot_dict_getitem.lookup (wpAny_getItem_of (knd:=PySem.intKind X.prog X.w) (k:=k) (by simp[PySem.intKind,Value.isInt]) hm hu<|bC.tok S ⟨_,gm,q⟩) hs
 ·(refine pX (uC S r1 hf) λa vals aT hs' hm hlen rl=>?_;clear r1;subst aT)
  refine X1 r2 λt aL=>?_;clear r2;subst aL;refine aC (B5 x rl hv) λv e rv=>?_;exact tail_any hm.typeIs slot_dict_getitem.lookup (wpAny_getItem_of (knd:=PySem.strKind X.prog X.w) (k:=Sx x) (by simp[PySem.strKind,Value.isStrOf]) hm e<|bC.tok S ⟨_,rv,q⟩) hs
end
end
section
noncomputable def jD:Expr->Bool
 |.Call f a k _=>!(f.ctorIdx.beq 23&&a.isEmpty&&k.isEmpty)
 |_=>true
theorem Ji{o:Expr}{attr:PySem.Str}{aa:Env}{whole:Sem Value}(h:jD o=true):attributeBase o attr aa whole=whole:=by
 induction o using Expr.casesOn with
 |Call f as ks p=>
  induction f using Expr.casesOn with
  |Name i q=>
   induction as using b9 with
   |nil=>induction ks using b9 with
    |nil=>exact nB h
    |cons a r=>rfl
   |cons a r=>rfl
  |_=>rfl
 |_=>rfl
theorem W0{o:Expr}{attr:PySem.Str}{aa:Env}{pos:Pos}(h:jD o=true):eval (.Attribute o attr pos) aa=(do
   let v<-eval o aa
   standAt pos.atName
   let r<-holding [v] (getAttr v attr true)
   letTemporaryGo o v r
   pure r):=by
 show(do
   let v<-attributeBase o attr aa (eval o aa)
   standAt pos.atName
   let r<-holding [v] (getAttr v attr true)
   letTemporaryGo o v r
   pure r)=_
 exact rR (Ji h) rfl
theorem W2{args:bL}{aa:Env}{pos:Pos}(hst:args.all notStar=true)(hl:args.length<30):methodCallForm (args.length+([]:List Keyword).length) (backTo pos<|starEach args aa) (backToKw pos<|keywordEach [] aa)=true:=by
 have e:(backTo pos<|starEach args aa).all (λx=>!x.1)=true:=by
  have:=BR (aa:=aa) hst pos;rw[gj];intro x hx;cases q:x.1 with
  |false=>rfl
  |true=>rw[List.any_eq_true.mpr<|aA x hx q]at this;exact tB this
 unfold methodCallForm;refine rR e ?_;show(true&&true&&decide (args.length+0+0<30))=true;simpa using hl
theorem W3{o:Expr}{name:PySem.Str}{aa:Env}{args:bL}{apos pos:Pos}(h:jD o=true)(hst:args.all notStar=true)(hl:args.length<30)(hp:apos.endLine=pos.line):
  eval (.Call (.Attribute o name apos) args [] pos) aa=(do
   let ov<-eval o aa
   standAt apos.atName
   let (f,first)<-holding [ov] (getMethod ov name<|do return (<-importBound o aa).getD true)
   callWith pos f first (backTo pos<|starEach args aa) []):=by
 show(do
   let ov<-attributeBase o name aa (eval o aa)
   standAt apos.atName
   methodCall o name apos pos aa ov (args.length+([]:List Keyword).length) (backTo pos<|starEach args aa) (backToKw pos<|keywordEach [] aa))=_
 refine rR (Ji h) ?_;unfold methodCall;refine rR (W2 hst hl) ?_;unfold calleeOf methodCallPos;simp only[hp,if_true,Bool.not_true,Bool.false_or,beq_self_eq_true,pure_bind];rfl
section
variable {X:Cx}{d:Nat}{aa:Env}{ai:b5}{ae:bF}{H:ak}{Q:eF}
theorem W4{value slice:Expr}{pos:Pos}(h:AE X d aa ai ae value H λv1 H'=>AE X d aa ai ae slice H' λv2 c8=>An c8 v1 v2 λv=>Q v c8)
  (hs:∀o i,subscripted slice false o i=operate [o,i] (getItem o i)):AE X d aa ai ae (.Subscript value slice pos) H Q:=
 fm λA cf s E hA hH S R=>Subscript_<|BS h (λA cf s E v1 v2 p1 p2 hA S R r1 r2 q=>WZ S r1 r2 q<|hs v1 v2) hA hH S R
set_option tactic.hygienic true in
theorem Jj{cf:Cf}{h:Heap}{p:PV}{v:Value}{c:String}{ns:aY}{l:au}(S:aU X cf h)(r:Rep X cf h p v)(e:fieldsOf cf.H p=some (c,ns,l)):
  ∃a d C es n,v=.ref a/\jQ X.K c=some C/\h.get? a=some (instObj C d)/\h.get? d=some (dictOf es n)/\jy ns es/\aO X cf h l (es.map (·.val)):=by
 induction p using d7 with
 |o c' ns' l'=>
  simp only[fieldsOf,Option.some.injEq,Prod.mk.injEq]at e;refine U2 e λaM aP aN=>?_;subst aM;clear e;subst aP;subst aN;obtain⟨a,d,C,es,n,rfl,_,_,hc,e1,e2,hk,rl⟩:=r;exact Fw a d C es n rfl hc e1 e2 hk rl
 |e m=>
  simp only[fieldsOf]at e;split at e
  ·rename_i c' ns' l' q;cases e;obtain⟨pp,e2,rfl⟩:=r;obtain⟨_,C,es,n,hc,e1,e2,hk,rl⟩:=S.rep m _ pp q e2;exact Fw pp.1 pp.2 C es n rfl hc e1 e2 hk rl
  ·exact nN e
 |_=>simp[fieldsOf]at e
theorem xM{es:List DictEntry}(h:jy [] es):es=[]:=by
 refine aC h λts e hl=>?_
 induction es using b9 with
 |nil=>rfl
 |cons x r=>simp at e
theorem uD{n:String}{ns:aY}{es:List DictEntry}(h:jy (n::ns) es):∃x r t,es=x::r/\x.key=.str (Sx n) t/\jy ns r:=by
 refine aC h λts e hl=>?_
 induction es using b9 with
 |nil=>induction ts using b9 with
  |nil=>simp at hl
  |cons t ts=>simp at e
 |cons x r=>
  induction ts using b9 with
  |nil=>simp at hl
  |cons t ts=>
   simp only[List.map_cons,List.zip_cons_cons,List.cons.injEq]at e;exact PM x r t rfl e.1 ts e.2<|by simpa using hl
theorem Jk:∀{ns:aY}{es:List DictEntry},jy ns es->es.any (·.refKey)=false
 |[],es,h=>by refine rR (xM h) ?_;rfl
 |n::ns,es,h=>by
  refine t9 (uD h) λx r t aQ hk hr=>?_;clear h;subst aQ;refine rR q3<|rR (Jk hr) ?_
  rewrite[Bool.or_false];unfold DictEntry.refKey;exact rR hk rfl
theorem xN{a b:String}{t:Tok}:(Value.str (Sx a) t).isStr (Sx b)=decide (a=b):=by
 show(Sx a==Sx b)=_;by_cases h:a=b
 ·subst h;simp
 ·refine rR (dG h) ?_;exact tZ.mpr λe=>h<|lq e
set_option tactic.hygienic true in
theorem B6{cf:Cf}{h:Heap}:∀{ns:aY}{es:List DictEntry}{l:au}{x:String}{p:PV},jy ns es->aO X cf h l (es.map (·.val))->fW x ns l=some p->
  ∃v,getL (Sx x) es=some (some v)/\Rep X cf h p v
 |[],es,l,x,p,hk,r,e=>by simp[fW]at e
 |n::ns,es,[],x,p,hk,r,e=>by simp[fW]at e
 |n::ns,es,q::l,x,p,hk,r,e=>by
  refine t9 (uD hk) λen er t aR h1 h2=>?_;clear hk;subst aR;simp only[List.map_cons,aO]at r;obtain⟨v,u,e1,r1,r2⟩:=r;refine U1 (q4 e1) λaT aL=>?_;clear e1;subst aT;subst aL;unfold fW at e;unfold getL;rw[List.find?_cons];have hs:en.key.isStr (Sx x)=decide (n=x):=by refine rR h1 ?_;exact xN
  by_cases hx:n=x
  ·rw[bw hx]at e;obtain rfl:=aK e;refine rR hs<|rR (di hx) ?_
   exact aA _ rfl r1
  ·rw[bO hx]at e;refine aC (B6 h2 r2 e) λv g rv=>?_;refine rR hs<|rR (dG hx) ?_
   refine aA v ?_ rv;unfold getL at g;dsimp only;split at g
   ·rename_i e' he';refine rR he' ?_;exact g
   ·split at g<;>cases g
theorem Jl:∀{ns:aY}{es:List DictEntry}{x:String},jy ns es->ns.contains x=false->getL (Sx x) es=some none
 |ns,es,x,hk,e=>by
  have h:es.find? (·.key.isStr (Sx x))=none:=by
   induction ns generalizing es with
   |nil=>refine rR (xM hk) ?_;rfl
   |cons n ns ih=>
    refine t9 (uD hk) λen er t aM h1 h2=>?_;clear hk;subst aM;rw[List.contains_cons,Bool.or_eq_false_iff]at e;have hs:en.key.isStr (Sx x)=decide (n=x):=by refine rR h1 ?_;exact xN
    rw[List.find?_cons,hs,dG<|by have:=e.1;simp at this;exactλq=>this q.symm];exact ih er h2 e.2
  unfold getL;refine rR h ?_;show(if es.any (·.refKey)=true then _ else _)=_;refine rR (Jk hk) ?_;rfl
theorem W5{cf:Cf}{h:Heap}:∀{p:PV}{v:Value},Rep X cf h p v->handedIn v=true:=by
 intro p v r
 induction p using d7 with
 |n=>obtain rfl:v=.none:=r;rfl
 |b b=>obtain rfl:v=.bool b:=r;rfl
 |i i=>(refine X1 r λt aP=>?_;clear r;subst aP);rfl
 |s i=>(refine X1 r λt aN=>?_;clear r;subst aN);rfl
 |t l=>obtain⟨a,_,rfl,_⟩:=r;rfl
 |l l=>obtain⟨a,_,rfl,_⟩:=r;rfl
 |r l=>obtain⟨a,_,rfl,_⟩:=r;rfl
 |d l=>obtain⟨a,_,rfl,_⟩:=r;rfl
 |c k l=>obtain⟨a,_,rfl,_⟩:=r;rfl
 |o c n l=>obtain⟨a,_,_,_,_,rfl,_⟩:=r;rfl
 |e n=>obtain⟨a,_,rfl⟩:=r;rfl
theorem qe{cf:Cf}{h:Heap}(T:eK X)(S:aU X cf h):X.K.In h:=λa o e=>(S.base a o<|T.w_ a o e).1
theorem o_attr{cf:Cf}{s:Shared}{A:Around}{E:cJ}{p:PV}{v:Value}{c:String}{ns:aY}{l:au}{x:String}{pv:PV}(T:eK X)(S:aU X cf s.heap)(r:Rep X cf s.heap p v)
  (hf:fieldsOf cf.H p=some (c,ns,l))(ho:xe X c x)(hl:fW x ns l=some pv)(q:Q pv cf.H):wpAny (model X.prog X.w) A (getAttr v (Sx x) true) (bC X cf s<|GV X Q) E s:=by
 refine Fg (Jj S r hf) λa dd C es n aQ hc e1 e2 hk rl=>?_;clear r;subst aQ;refine pX ho λC' attr hc' hg hh ha hn=>?_;rw[hc]at hc';obtain rfl:=aK hc';refine aC (B6 hk rl hl) λv g rv=>?_;exact get_value (qe T S) (⟨e1,rfl,rfl,e2⟩:InstAt s.heap a (instObj C dd) C<|some<|dictOf es n) (plainGet_of hg).1 (findObj_own hh ha hn<|by rw[lookIn_dict];exact g) (W5 rv)<|bC.tok S ⟨_,rv,q⟩
theorem W6{value:Expr}{x:String}{pos:Pos}(T:eK X)(W7:jD value=true)
  (h:AE X d aa ai ae value H λva H'=>∃c ns l v,fieldsOf H' va=some (c,ns,l)/\xe X c x/\fW x ns l=some v/\Q v H'):AE X d aa ai ae (.Attribute value (Sx x) pos) H Q:=
 fm λA cf s E hA hH S R=>Attribute_any_ (BU h (λA cf s E v1 p1 hA S R r1 q=>by
  revert q;refine PE λc ns l v hf ho hl q=>?_
  exact o_attr T S r1 hf ho hl q) hA hH S R)<|W0 W7
end
end
section
section
variable {X:Cx}{d:Nat}{aa:Env}{ai:b5}{ae:bF}{H:ak}{Q:eF}
 {cf:Cf}{s:Shared}{A:Around}{E:cJ}
theorem W8{α:Type}{l:List α}{n:Nat}{x:α}(h:l[n]?=some x):n<l.length:=by
 rcases dm n l.length with h'|h'
 ·exact h'
 ·rw[gO h']at h;exact nN h
theorem xO{n:Nat}{l l':au}{h':Heap}{vs':dg}{a:Addr}{t:Nat}(S:aU X cf s.heap)(hn:cf.H[n]?=some (some<|.l l))(r:Rep X cf s.heap (.e n)<|.ref a)
  (hl:h'.PlainList a vs')(hs:Heap.SameBut a s.heap h')(hz:vs'.size<=2^20)(rl:aO X cf s.heap l' vs'.toList):
  Step cf s (jc cf n<|.l l') {s with heap:=h',toks:=t}/\aU X (jc cf n<|.l l') h'/\Kept cf s.heap (jc cf n<|.l l') h':=by
 obtain⟨p,e2,e⟩:=r;obtain rfl:=Value.ref.inj e;obtain⟨e1,_⟩:=S.rep n _ p hn e2;have k:∀b o,b≠p.1->b≠p.2->s.heap.get? b=some o->h'.get? b=some o:=λb o h1 U e=>hs.extBut b o h1 e;have K:=xC (.l l') S hn e2 k;have z:=xD (t:=t) (eV:=.l l') S hn e2 k ⟨e1,vs',hl,hz,rl.mono K l'⟩;exact⟨z.1,z.2,K⟩
theorem rO{n:Nat}{l:au}{v:Value}(S:aU X cf s.heap)(hn:cf.H[n]?=some (some<|.l l))(r:Rep X cf s.heap (.e n) v):
  ∃a vs m,v=.ref a/\PySem.IsL s.heap a vs m/\vs.size<=2^20/\aO X cf s.heap l vs.toList:=by
 refine eJ (nD (l:=l) S r<|by simp[fh,hn]) λa vs aR aT hz rl=>?_;clear r;subst aR;revert aT;refine Y1 λm e=>?_;exact lY a vs m rfl e hz rl
theorem B7{name:PySem.Str}{id:String}{a:Addr}{vs:dg}{m:Nat}{pl:Sem Bool}{R:Value×cz->Shared->Prop}(hl:PySem.IsL s.heap a vs m)(slot:Slot "list" name id)
  (hty:typeOf (.builtin id)=pure (.type "method_descriptor"))(h:R (.builtin id,[.ref a]) s):wpAny (model X.prog X.w) A (getMethod (.ref a) name pl) R E s:=
 getMethod_builtin (aA _ hl rfl) PySem.F.plainAttrs_list slot hty (λb e=>by obtain rfl:=Value.ref.inj e;exact aA _ hl rfl) h
theorem rP{o:Expr}{name:PySem.Str}{args:bL}{apos pos:Pos}{P:eF}(h1:jD o=true)(h2:args.all notStar=true)(h3:args.length<30)(h4:apos.endLine=pos.line)
  (h:AE X d aa ai ae o H P)
  (k:∀A cf s E v p,c7 d A->aU X cf s.heap->cK X cf aa ai ae s.heap->Rep X cf s.heap p v->P p cf.H->
   wpAny (model X.prog X.w) A (getMethod v name<|do return (<-importBound o aa).getD true) (λfx s₂=>wpAny (model X.prog X.w) A (callWith pos fx.1 fx.2 (backTo pos<|starEach args aa) []) (bC X cf s<|GV X Q) E s₂) E s):
  AE X d aa ai ae (.Call (.Attribute o name apos) args [] pos) H Q:=by
 refine fm λA cf s E hA hH S R=>MethodCall_ (pl:=(do return (<-importBound o aa).getD true)) ?_<|W3 h1 h2 h3 h4
 refine bz (h A cf s E hA hH S R) (λv s₁ y=>?_) λU U y=>y;obtain⟨aS,p1,st,S₁,r,q⟩:=y;exact bz (k A aS s₁ E v p1 hA S₁ (R.step S st) r q) (λfx s₂ z=>bz z (λU U y=>y.after S st) λU U y=>y) λU U y=>y
theorem mq{f:Value}{first:cz}{args:bL}{pos:Pos}{R:cJ}{P:Heap->Prop}(hst:args.all notStar=true)
  (hk:∀h,P h->∃k,(k=Keeper.frame\/k=Keeper.machine\/k=Keeper.boundFrame)/\Looks (model X.prog X.w) h (keeperOf f) k)
  (h:wpAny (model X.prog X.w) A (spliced<|backTo pos<|starEach args aa) (λvs s₁=>P s₁.heap/\wpAny (model X.prog X.w) A (call f (first++vs) []) R E s₁) E s):
  wpAny (model X.prog X.w) A (callWith pos f first (backTo pos<|starEach args aa) []) R E s:=by
 refine callWith_of (P:=P) (by rw[BR hst];rfl) hk ?_
 induction args using b9 with
 |nil=>exactλΓ p hΓ=>evalArgs_nil3 (h Γ p hΓ) Γ p hΓ
 |cons e es=>
  rw[oj,cy]at hst;rw[rI hst.1]at h⊢;exact Calls.evalArgs_plain h
theorem oQ{id:String}(h:Heap)(_:True):∃k,(k=Keeper.frame\/k=Keeper.machine\/k=Keeper.boundFrame)/\Looks (model X.prog X.w) h (keeperOf<|.builtin id) k:=aA .machine (.inr<|.inl rfl)<|Looks.of_pure rfl
theorem B8{T:String}(h:Heap)(_:True):∃k,(k=Keeper.frame\/k=Keeper.machine\/k=Keeper.boundFrame)/\Looks (model X.prog X.w) h (keeperOf<|.type T) k:=aA .machine (.inr<|.inl rfl)<|Looks.of_pure rfl
theorem B9{a:Expr}{P:eF}(h2:notStar a=true)(h:AE X d aa ai ae a H P):fM X d aa ai ae [a] H (λvs H'=>∃v,vs=[v]/\P v H'):=
 uA h2 (h.mono λv H' q=>xF<|aA v rfl q)
theorem rQ{h:Heap}{p:PV}{vs:cz}(r:aO X cf h [p] vs):∃v,vs=[v]/\Rep X cf h p v:=by obtain⟨v,t,rfl,hr,rfl⟩:=r;exact aA v rfl hr
theorem xP{h:Heap}{p q:PV}{vs:cz}(r:aO X cf h [p,q] vs):∃v u,vs=[v,u]/\Rep X cf h p v/\Rep X cf h q u:=by obtain⟨v,t,rfl,hr,u,t',rfl,hr',rfl⟩:=r;exact fg v u rfl hr hr'
theorem Jm{aI:Cf}{s':Shared}{n:Nat}{a:Addr}(S:aU X cf s.heap)(st:Step cf s aI s')(r:Rep X cf s.heap (.e n)<|.ref a):Rep X aI s'.heap (.e n) (.ref a):=r.mono (st.kept S.own) _
theorem W9{o a:Expr}{apos pos:Pos}(h1:jD o=true)(h2:notStar a=true)(h4:apos.endLine=pos.line)
  (h:AE X d aa ai ae o H λva H'=>∃n l0,va=.e n/\H'[n]?=some (some<|.l l0)/\AE X d aa ai ae a H' (λvb c8=>∃l,c8[n]?=some (some<|.l l)/\l.length<2^20/\Q .n (c8.set n<|some<|.l<|l++[vb]))):
  AE X d aa ai ae (.Call (.Attribute o "append" apos) [a] [] pos) H Q:=by
 refine rP h1 (by simp[h2]) (by show 1<30;exact z0) h4 h λA cf s E v p hA S R r q=>?_;refine d_ q λn l0 aL hn ha=>?_;clear q;subst aL;refine kE (rO S hn r) λad W_ m0 aM B_ U U=>?_;subst aM;refine B7 B_ slot_list_append PySem.F.type_list_append ?_;refine mq (P:=λU=>True) (by simp[h2]) oQ ?_;refine bz (B9 h2 ha A cf s E pos hA rfl S R) (λvs s₁ y=>?_) λU U y=>y;obtain⟨aS,st,S₁,ps,rs,v,rfl,l,hn1,hz,q⟩:=y;refine aC (rQ rs) λx aP rx=>?_;clear rs;subst aP;refine⟨trivial,?_⟩;have r1:=Jm S st r;refine kE (rO S₁ hn1 r1) λCa rS m1 e hl1 hz1 nF=>?_;obtain rfl:=Value.ref.inj e;have e1:rS.size=l.length:=by have:=nF.length;simpa using this
 refine wpAny_list_append_plain (hsz:=iO hz1) ⟨m1,hl1⟩ λh' hp hs=>?_;refine U2 (xO (t:=s₁.toks) (l':=l++[v]) S₁ hn1 r1 hp hs (by(rewrite[Array.size_push];refine rR e1 ?_);exact P5 hz)<|by refine rR Array.toList_push ?_;exact nF.append<|aO.fD rx aO.gk) λst2 S2 K2=>?_;exact⟨_,st.trans S.own st2,S2,.n,kL,q⟩
theorem Xa{o a:Expr}{apos pos:Pos}(h1:jD o=true)(h2:notStar a=true)(h4:apos.endLine=pos.line)
  (h:AE X d aa ai ae o H λva H'=>∃n l0,va=.e n/\H'[n]?=some (some<|.l l0)/\AE X d aa ai ae a H' (λvb c8=>∃l r,c8[n]?=some (some<|.l l)/\fh c8 vb=some r/\l.length+r.length<=2^20/\Q .n (c8.set n<|some<|.l<|l++r))):
  AE X d aa ai ae (.Call (.Attribute o "extend" apos) [a] [] pos) H Q:=by
 refine rP h1 (by simp[h2]) (by show 1<30;exact z0) h4 h λA cf s E v p hA S R r q=>?_;refine d_ q λn l0 aN hn ha=>?_;clear q;subst aN;refine kE (rO S hn r) λad W_ m0 aQ B_ U U=>?_;subst aQ;refine B7 B_ PySem.F.slot_list_extend PySem.F.type_list_extend ?_;refine mq (P:=λU=>True) (by simp[h2]) oQ ?_;refine bz (B9 h2 ha A cf s E pos hA rfl S R) (λvs s₁ y=>?_) λU U y=>y;obtain⟨aS,st,S₁,ps,rs,v,rfl,l,r',hn1,hlr,hz,q⟩:=y;refine aC (rQ rs) λx aR rx=>?_;clear rs;subst aR;refine⟨trivial,?_⟩;have r1:=Jm S st r;refine kE (rO S₁ hn1 r1) λCa rS m1 e hl1 hz1 nF=>?_;obtain rfl:=Value.ref.inj e;have e1:rS.size=l.length:=by have:=nF.length;simpa using this
 refine eJ (nD S₁ rx hlr) λb ws aT aL hz2 rT=>?_;clear rx;subst aT;revert aL;refine Y1 λm2 hl2=>?_;have e2:ws.size=r'.length:=by have:=rT.length;simpa using this
 have Cb:rS.size+ws.size<=2^20:=by refine rR e1<|rR e2 ?_;exact hz
 refine call_meets PySem.F.slot_list_extend (aA _ hl1 rfl) PySem.F.entry_list_extend (PySem.F.args_list_extend_2 _ _) (PySem.AutoSeq1.list_extend_list_list_0 ad rS m1 b ws m2 (extend_door<|iO Cb) (iO hz1)<|Nat.le_succ_of_le<|iO Cb) ⟨hl1,hl2,?_⟩;have hp:(s₁.heap.update ad (Obj.mapSeq λx=>x++ws)).PlainList ad (rS++ws):=⟨_,PySem.IsL.update hl1 λx=>x++ws⟩
 refine U2 (xO (t:=s₁.toks) (l':=l++r') S₁ hn1 r1 hp (Heap.SameBut.update ..) (by refine rR Array.size_append ?_;exact Cb)<|by refine rR Array.toList_append ?_;exact nF.append rT) λst2 S2 K2=>?_;exact⟨_,st.trans S.own st2,S2,.n,kL,q⟩
theorem Xb{o:Expr}{apos pos:Pos}(h1:jD o=true)(h4:apos.endLine=pos.line)
  (h:AE X d aa ai ae o H λva H'=>∃n l v,va=.e n/\H'[n]?=some (some<|.l<|l++[v])/\Q v (H'.set n<|some<|.l l)):
  AE X d aa ai ae (.Call (.Attribute o "pop" apos) [] [] pos) H Q:=by
 refine rP h1 rfl (by show 0<30;exact P6) h4 h λA cf s E v p hA S R r q=>?_;revert q;refine PD λn l pv aM hn q=>?_;subst aM;refine kE (rO S hn r) λad vs m aP hl hz rl=>?_;subst aP;refine B7 hl PySem.F.slot_list_pop PySem.F.type_list_pop ?_;refine mq (P:=λU=>True) rfl oQ<|Calls.spliced_nil ⟨trivial,?_⟩
 have e1:vs.size=l.length+1:=by have:=rl.length;simpa using this
 refine aC (rl.get (k:=l.length) (p:=pv)<|by simp) λx hx rx=>?_;have hx':vs[vs.size-1]?=some x:=by rw[e1,Nat.add_sub_cancel,<-qV];exact hx
 refine call_meets PySem.F.slot_list_pop (aA _ hl rfl) PySem.F.entry_list_pop (PySem.F.args_list_pop_1 _) (PySem.MeetsSeq.list_pop_last ad vs m x hx'<|iO hz) ⟨hl,?_⟩;have ev:vs.eraseIdxIfInBounds (vs.size-1)=(vs.toList.take l.length).toArray:=by
  refine rR e1 ?_;rewrite[Nat.add_sub_cancel];unfold Array.eraseIdxIfInBounds;refine rR (dif_pos<|P7 e1) ?_;apply Array.toList_inj.mp;refine rR Array.toList_eraseIdx<|rR nc ?_
  have:vs.toList.length=l.length+1:=by simpa using e1
  rewrite[List.eraseIdx_eq_take_drop_succ];refine rR (List.drop_of_length_le<|P8 this) ?_;rw[pN]
 have hp:(s.heap.update ad (Obj.mapSeq λxs=>xs.eraseIdxIfInBounds<|vs.size-1)).PlainList ad (vs.toList.take l.length).toArray:=⟨_,ev▸PySem.IsL.update hl (λxs=>xs.eraseIdxIfInBounds<|vs.size-1)⟩
 have uE:aO X cf s.heap l (vs.toList.take l.length):=by have:=rl.take l.length;rwa[List.take_left]at this
 refine U2 (xO (t:=s.toks) (l':=l) S hn r hp (Heap.SameBut.update ..) (by refine rR om<|rR gU ?_;exact P9 hz e1)<|by refine rR nc ?_;exact uE) λst2 S2 K2=>?_;exact⟨_,st2,S2,pv,rx.mono K2,q⟩
theorem Jo{Kt:Type}[DecidableEq Kt]{knd:PySem.KeyKind X.prog X.w Kt}{f:Kt->Option Value}{name:PySem.Str}{id:String}{a:Addr}{pl:Sem Bool}{R:Value×cz->Shared->Prop}(hm:s.heap.MapOf knd a f)(slot:Slot "dict" name id)
  (hty:typeOf (.builtin id)=pure (.type "method_descriptor"))(h:R (.builtin id,[.ref a]) s):wpAny (model X.prog X.w) A (getMethod (.ref a) name pl) R E s:=
 getMethod_builtin hm.typeIs PySem.F.plainAttrs_dict slot hty hm.noDict h
theorem Xc{o a:Expr}{apos pos:Pos}(h1:jD o=true)(h2:notStar a=true)(h4:apos.endLine=pos.line)
  (h:AE X d aa ai ae o H λvd H'=>∃ks l,vd=.c ks l/\AE X d aa ai ae a H' (λvk c8=>∃x,vk=.s x/\Q ((fW x ks l).getD .n) c8)):
  AE X d aa ai ae (.Call (.Attribute o "get" apos) [a] [] pos) H Q:=by
 refine rP h1 (by simp[h2]) (by show 1<30;exact z0) h4 h λA cf s E v p hA S R r q=>?_;refine gG q λks l aN ha=>?_;clear q;subst aN;refine pX (uC S r<|.inl rfl) λad vals aQ hs hm hl rl=>?_;subst aQ;refine Jo hm wu PySem.F.type_dict_get ?_;refine mq (P:=λU=>True) (by simp[h2]) oQ ?_;refine bz (B9 h2 ha A cf s E pos hA rfl S R) (λvs s₁ y=>?_) λU U y=>y;obtain⟨aS,st,S₁,ps,rs,v,rfl,x,rfl,q⟩:=y;refine aC (rQ rs) λy aR rx=>?_;clear rs;subst aR;refine⟨trivial,?_⟩;refine pX (uC S₁ (r.mono<|st.kept S.own)<|.inl rfl) λCa vals' e hs' hm' hl' uE=>?_;obtain rfl:=Value.ref.inj e;refine X1 rx λt aT=>?_;clear rx;subst aT;refine call_meetsIn wu hm'.typeIs PySem.F.entry_dict_get (PySem.F.args_dict_get_2 _ _) (meets_dict_get (PySem.strKind X.prog X.w) (k:=Sx x) ad (by simp[PySem.strKind,Value.isStrOf]) hs')<|aA _ hm' ?_
 refine bC.after S st<|bC.tok S₁ ⟨_,?_,q⟩
 cases e:fW x ks l with
 |none=>refine rR (Jg x uE (by rw[<-uE.length];exact hl') e) ?_;exact kL
 |some p=>refine aC (B5 x uE e) λv e2 rv=>?_;refine rR e2 ?_;exact rv
theorem Xd{o a b:Expr}{apos pos:Pos}(h1:jD o=true)(h2:notStar a=true)(h3:notStar b=true)(h4:apos.endLine=pos.line)
  (h:AE X d aa ai ae o H λvd H'=>∃f,vd=.d f/\AE X d aa ai ae a H' (λvk c8=>AE X d aa ai ae b c8 λvv H3=>∃i j,vk=.i i/\vv=.i j/\Q (.i<|(f i).getD j) H3)):
  AE X d aa ai ae (.Call (.Attribute o "get" apos) [a,b] [] pos) H Q:=by
 refine rP h1 (by simp[h2,h3]) (by show 2<30;exact P_) h4 h λA cf s E v p hA S R r q=>?_;refine aC q λf aL ha=>?_;clear q;subst aL;refine eJ (uB S r<|.inl rfl) λad g aM hs hm hi=>?_;subst aM;refine Jo hm wu PySem.F.type_dict_get ?_;refine mq (P:=λU=>True) (by simp[h2,h3]) oQ ?_;have hes:fM X d aa ai ae [a,b] cf.H (λvs H'=>∃i j,vs=[.i i,.i j]/\Q (.i<|(f i).getD j) H'):=
  uA h2 (ha.mono λv H' q=>uA h3 (q.mono λv2 H2 q2=>xF<|by obtain⟨i,j,rfl,rfl,q⟩:=q2;exact gR i j rfl q))
 refine bz (hes A cf s E pos hA rfl S R) (λvs s₁ y=>?_) λU U y=>y;obtain⟨aS,st,S₁,ps,rs,i,j,rfl,q⟩:=y;refine d_ (xP rs) λx y aP rx ry=>?_;subst aP;refine⟨trivial,?_⟩;refine eJ (uB S₁ (r.mono<|st.kept S.own)<|.inl rfl) λCa g' e hs' hm' hi'=>?_;obtain rfl:=Value.ref.inj e;refine X1 rx λt aN=>?_;clear rx;clear rs;subst aN;refine X1 ry λu aQ=>?_;clear ry;subst aQ;refine call_meetsIn wu hm'.typeIs PySem.F.entry_dict_get (PySem.F.args_dict_get_3 _ _ _) (meets_dict_get_default (PySem.intKind X.prog X.w) (k:=i) ad (by simp[PySem.intKind,Value.isInt]) hs' _)<|aA _ hm' ?_
 refine bC.after S st<|bC.tok S₁ ⟨_,?_,q⟩
 have:=hi' i;cases e:f i with
 |none=>rw[e]at this;refine rR this ?_;exact gm
 |some k=>rw[e]at this;refine X1 this λw e2=>?_;refine rR e2 ?_;exact gm
end
end
section
def AT(X:Cx)(d:Nat)(aa:Env)(ai:b5)(ae:bF)(e:Expr)(H:ak)(Q:Bool->ak->Prop):Prop:=
 ∀A cf s E,c7 d A->cf.H=H->aU X cf s.heap->cK X cf aa ai ae s.heap->wpAny (model X.prog X.w) A (PySem.isTrue e aa<|eval e aa) (bC X cf s<|GB Q) E s
section
variable {X:Cx}{d:Nat}{aa:Env}{ai:b5}{ae:bF}{H:ak}{Q:eF}
theorem AT.mono{e:Expr}{Q Q':Bool->ak->Prop}(h:AT X d aa ai ae e H Q)(m:∀p H,Q p H->Q' p H):AT X d aa ai ae e H Q':=
 λA cf s E a b c f=>bz (h A cf s E a b c f) (λU U y=>y.mono λU U q=>m _ _ q) λU U y=>y
theorem fM.mono{es:bL}{Q Q':au->ak->Prop}(h:fM X d aa ai ae es H Q)(m:∀p H,Q p H->Q' p H):fM X d aa ai ae es H Q':=
 λA cf s E pos a b c f=>bz (h A cf s E pos a b c f) (λU U y=>y.mono λU U ⟨ps,r,q⟩=>⟨ps,r,m _ _ q⟩) λU U y=>y
theorem Jp{k:Nat}{pos:Pos}(q:Q .n H):AE X d aa ai ae (.Constant .none k pos) H Q:=fm λA cf s E U hH S U=>by subst hH;exact PySem.wpAny_Constant_none<|bC.now S ⟨.n,kL,q⟩
theorem Xe{b:Bool}{k:Nat}{pos:Pos}(q:Q (.b b) H):AE X d aa ai ae (.Constant (.bool b) k pos) H Q:=fm λA cf s E U hH S U=>by subst hH;exact PySem.wpAny_Constant_bool<|bC.now S ⟨.b b,lA,q⟩
theorem Xf{i:Int}{k:Nat}{pos:Pos}(q:Q (.i i) H):AE X d aa ai ae (.Constant (.int i) k pos) H Q:=fm λA cf s E U hH S U=>by subst hH;exact PySem.wpAny_Constant_int<|bC.tok S ⟨.i i,gm,q⟩
theorem Xg{x:String}{k:Nat}{pos:Pos}(q:Q (.s x) H):AE X d aa ai ae (.Constant (.str<|Sx x) k pos) H Q:=fm λA cf s E U hH S U=>by subst hH;exact PySem.wpAny_Constant_str<|bC.tok S ⟨.s x,B0,q⟩
def Cc(X:Cx)(x:String)(p:PV):Prop:=∃v,nsIn X.K mainGlobals (Sx x)=some (some v)/\∀cf h,aU X cf h->Rep X cf h p v
theorem Jq{x:String}{v:Value}{pos:Pos}(T:eK X)(e:nsIn X.K mainGlobals (Sx x)=some (some v))(hx:aa.kindOf (Sx x)=some .globalImplicit)(hd:(Sx x==("__debug__":Str))=false)
  {A:Around}{cf:Cf}{s:Shared}{E R:cJ}(S:aU X cf s.heap)(R₀:cK X cf aa ai ae s.heap)(h:R v s):wpAny (model X.prog X.w) A (eval (.Name (Sx x) pos) aa) R E s:=by
 refine X4 T.mg λp loose mg mb TR=>?_;have xQ:=TR.keeps λb o e=>(S.base b o e).1;have hv:=mg_of T.w_ TR.g e;refine Calls.Name_function_global R₀.kind hx (Calls.loadGlobal_global (mg:=mg) ?_ hv h) hd;refine rR R₀.glob ?_;exact xQ.g
theorem Xh{x:String}{p:PV}{pos:Pos}(T:eK X)(g:Cc X x p)(hx:aa.kindOf (Sx x)=some .globalImplicit)(hd:(Sx x==("__debug__":Str))=false)(q:Q p H):
  AE X d aa ai ae (.Name (Sx x) pos) H Q:=fm λA cf s E U hH S R=>by
 subst hH;refine aC g λv e r=>?_;exact Jq T e hx hd S R<|bC.now S ⟨p,r cf _ S,q⟩
theorem Xi{es:bL}{k:Nat}{pos:Pos}(h:fM X d aa ai ae es H λvs H'=>vs.length<=2^20/\Q (.t vs) H'):AE X d aa ai ae (.Tuple es k pos) H Q:=by refine fm λA cf s E hA hH S R=>PySem.wpAny_Tuple ?_;refine bz (h A cf s E pos hA hH S R) (λvs s₁ y=>?_) λU U y=>y;obtain⟨aS,st,S₁,ps,rs,hl,q⟩:=y;have e:=rs.length;refine⟨iO<|e▸hl,bC.after S st ?_⟩;exact WV (t:=s₁.toks) S₁ (by refine rR nc ?_;exact rs) (by refine rR om<|rR e ?_;exact hl) q
theorem Jr{es:bL}{pos:Pos}(h:fM X d aa ai ae es H λvs H'=>vs.length<=2^20/\Q (.l vs) H'):AE X d aa ai ae (.List es pos) H Q:=by refine fm λA cf s E hA hH S R=>PySem.wpAny_List ?_;refine bz (h A cf s E pos hA hH S R) (λvs s₁ y=>?_) λU U y=>y;obtain⟨aS,st,S₁,ps,rs,hl,q⟩:=y;have e:=rs.length;refine⟨iO<|e▸hl,bC.after S st ?_⟩;exact xK (t:=s₁.toks) S₁ (by refine rR nc ?_;exact rs) (by refine rR om<|rR e ?_;exact hl) q
theorem Xj{es:bL}{pos:Pos}(h:fM X d aa ai ae es H λvs H'=>vs.length<=2^20/\ly H' (.l vs) Q):AE X d aa ai ae (.List es pos) H Q:=by refine fm λA cf s E hA hH S R=>PySem.wpAny_List ?_;refine bz (h A cf s E pos hA hH S R) (λvs s₁ y=>?_) λU U y=>y;obtain⟨aS,st,S₁,ps,rs,hl,q⟩:=y;have e:=rs.length;refine⟨iO<|e▸hl,bC.after S st ?_⟩;exact Je (t:=s₁.toks) S₁ (by refine rR nc ?_;exact rs) (by refine rR om<|rR e ?_;exact hl) q
theorem Xk{e:Expr}{pos:Pos}(h:AE X d aa ai ae e H λv H'=>∃i,v=.i i/\Q (.i<|-i) H'):AE X d aa ai ae (.UnaryOp .USub e pos) H Q:=
 fm λA cf s E hA hH S R=>UnaryOp_ (BU h (λA cf s E v p hA S R r q=>by
  revert q;refine rj λi aR q=>?_;subst aR;refine X1 r λt aT=>?_;clear r;subst aT
  exact PyProof.Rows.neg_int<|bC.tok S ⟨_,gm,q⟩) hA hH S R)
theorem Xl{e:Expr}{pos:Pos}(h:AE X d aa ai ae e H λv H'=>∃b,v=.b b/\Q (.b<|!b) H'):AE X d aa ai ae (.UnaryOp .Not e pos) H Q:=
 fm λA cf s E hA hH S R=>UnaryOp_ (BU h (λA cf s E v p hA S R r q=>by
  revert q;refine rj λb aL q=>?_;subst aL;subst r
  exact not_of<|pW<|bC.now S ⟨_,lA,q⟩) hA hH S R)
theorem Xm{A:Around}{cf:Cf}{s:Shared}{E:cJ}{v1 v2:Value}{p1 p2:PV}(hA:c7 d A)(S:aU X cf s.heap)(r1:Rep X cf s.heap p1 v1)(r2:Rep X cf s.heap p2 v2)(op:gw)(h:mh cf.H op p1 p2 λb=>Q (.b b) cf.H):
  wpAny (model X.prog X.w) A (compareOp (gz op) v1 v2) (bC X cf s<|GV X Q) E s:=
 rN hA S r1 r2 op h λb t q=>bC.tok S ⟨_,lA,q⟩
theorem Xn{l r:Expr}{op:gw}{pos:Pos}(hm:behindInMarks (gz op) r=false)
  (h:AE X d aa ai ae l H λv1 H'=>AE X d aa ai ae r H' λv2 c8=>mh c8 op v1 v2 λb=>Q (.b b) c8):
  AE X d aa ai ae (.Compare l [gz op] [r] pos) H Q:=
 fm λA cf s E hA hH S R=>wpAny_Compare1 (BS h (λA cf s E v1 v2 p1 p2 hA S R r1 r2 q=>Xm hA S r1 r2 op q) hA hH S R) hm
theorem Xp{l r:Expr}{op:gw}{pos:Pos}{Q:Bool->ak->Prop}(hm:behindInMarks (gz op) r=false)
  (h:AE X d aa ai ae l H λv1 H'=>AE X d aa ai ae r H' λv2 c8=>mh c8 op v1 v2 λb=>Q b c8):
  AT X d aa ai ae (.Compare l [gz op] [r] pos) H Q:=by
 intro A cf s E hA hH S R;refine wpAny_isTrue_Compare1 ?_ hm;refine bz (h A cf s E hA hH S R) (λv s₁ y=>?_) λU U y=>y;obtain⟨aS,p1,st,S₁,r1,q⟩:=y;have cI:=R.step S st;refine bz (q A aS s₁ E hA rfl S₁ cI) (λv2 s₂ y=>?_) λU U y=>y;obtain⟨gy,p2,cU,S₂,r₂,q₂⟩:=y;refine rN hA S₂ (r1.mono<|cU.kept S₁.own) r₂ op q₂ λb t q=>pW ?_;exact⟨gy,(st.trans S.own cU).toks t,S₂,q⟩
theorem Js{e:Expr}{Q:Bool->ak->Prop}(he:PySem.isTrue e aa (eval e aa)=(do let v<-eval e aa;standAt e.pos;holding [v] (truthy v)))
  (h:AE X d aa ai ae e H λv H'=>∃b,v=.b b/\Q b H'):AT X d aa ai ae e H Q:=by
 intro A cf s E hA hH S R;refine isTrue_plain (bz (h A cf s E hA hH S R) (λv s₁ y=>?_) λU U y=>y) he;obtain⟨aS,p,st,S₁,r,b,rfl,q⟩:=y;subst r;exact pW ⟨aS,st,S₁,q⟩
theorem Xq{e:Expr}{pos:Pos}{Q:Bool->ak->Prop}(h:AT X d aa ai ae e H λb H'=>Q (!b) H'):AT X d aa ai ae (.UnaryOp .Not e pos) H Q:=
 λA cf s E hA hH S R=>isTrue_not (bz (h A cf s E hA hH S R) (λb s₁ ⟨c,st,si,g⟩=>⟨c,st,si,g⟩) λU U y=>y)
theorem AT.use{α:Type}{e:Expr}{P:Bool->ak->Prop}{G:α->Cf->Shared->Prop}{k:Bool->Sem α}(h:AT X d aa ai ae e H P){A:Around}{cf:Cf}{s:Shared}{E:cJ}
  (hA:c7 d A)(hH:cf.H=H)(S:aU X cf s.heap)(R₀:cK X cf aa ai ae s.heap)
  (op:∀aS s₁ b,aU X aS s₁.heap->cK X aS aa ai ae s₁.heap->P b aS.H->wpAny (model X.prog X.w) A (k b) (bC X aS s₁ G) E s₁):
  wpAny (model X.prog X.w) A (PySem.isTrue e aa<|eval e aa) (λb s₁=>wpAny (model X.prog X.w) A (k b) (bC X cf s G) E s₁) E s:=
 bz (h A cf s E hA hH S R₀) (λb s₁ ⟨aS,st,S₁,q⟩=>bz (op aS s₁ b S₁ (R₀.step S st) q) (λU U z=>z.after S st) λU U y=>y) λU U y=>y
theorem Xr{t a b:Expr}{pos:Pos}(h:AT X d aa ai ae t H λc H'=>(c=true->AE X d aa ai ae a H' Q)/\(c=false->AE X d aa ai ae b H' Q)):AE X d aa ai ae (.IfExp t a b pos) H Q:=
 fm λA cf s E hA hH S R=>IfExp_ (by
  have z:=h.use (k:=λc=>if c then eval a aa else eval b aa) (G:=GV X Q) (E:=E) hA hH S R (λaS s₁ c S₁ cI q=>by
   induction c using cP with
   |true=>exact bz (q.1 rfl A aS s₁ E hA rfl S₁ cI) (λU U y=>xA.mp y) λU U y=>y
   |false=>exact bz (q.2 rfl A aS s₁ E hA rfl S₁ cI) (λU U y=>xA.mp y) λU U y=>y)
  exact bz z (λc s₁ y=>by induction c using cP<;>exact y) λU U y=>y)
theorem Xs{t a b:Expr}{pos:Pos}{Q:Bool->ak->Prop}(h:AT X d aa ai ae t H λc H'=>(c=true->AT X d aa ai ae a H' Q)/\(c=false->AT X d aa ai ae b H' Q)):AT X d aa ai ae (.IfExp t a b pos) H Q:=
 λA cf s E hA hH S R=>isTrue_IfExp (by
  have z:=h.use (k:=λc=>if c then PySem.isTrue a aa (eval a aa)else PySem.isTrue b aa (eval b aa)) (G:=GB Q) (E:=E) hA hH S R (λaS s₁ c S₁ cI q=>by
   induction c using cP with
   |true=>exact q.1 rfl A aS s₁ E hA rfl S₁ cI
   |false=>exact q.2 rfl A aS s₁ E hA rfl S₁ cI)
  exact bz z (λc s₁ y=>by induction c using cP<;>exact y) λU U y=>y)
noncomputable def iP(cA:Bool):BoolOp:=if cA then .And else .Or
theorem Xu{cA:Bool}{e:Expr}{pos:Pos}(h:AE X d aa ai ae e H Q):AE X d aa ai ae (.BoolOp (iP cA) [e] pos) H Q:=
 λA cf s E hA hH S R=>BoolOp_one<|h A cf s E hA hH S R
theorem Xv{cA:Bool}{e e₂:Expr}{r:bL}{pos:Pos}
  (h:AE X d aa ai ae e H λv H'=>∃b,v=.b b/\(b=cA->AE X d aa ai ae (.BoolOp (iP cA) (e₂::r) pos) H' Q)/\(b=(!cA)->Q v H')):
  AE X d aa ai ae (.BoolOp (iP cA) (e::e₂::r) pos) H Q:=by
 refine fm λA cf s E hA hH S R=>?_;have z:wpAny (model X.prog X.w) A (eval e aa) (λv s₁=>wpAny (model X.prog X.w) A (truthy v) (λc s₂=>if c=cA then wpAny (model X.prog X.w) A (eval (.BoolOp (iP cA) (e₂::r) pos) aa) (bC X cf s<|GV X Q) E s₂ else bC X cf s (GV X Q) v s₂) E s₁) E s:=by
  refine bz (h A cf s E hA hH S R) (λv s₁ y=>?_) λU U y=>y;obtain⟨aS,p,st,S₁,rr,b,rfl,q1,q2⟩:=y;have r':=rr;subst rr;refine pW ?_;by_cases hb:b=cA
  ·refine rR (bw hb) ?_;exact bz (q1 hb A aS s₁ E hA rfl S₁<|R.step S st) (λU U y=>(xA.mp y).after S st) λU U y=>y
  ·refine rR (bO hb) ?_;exact⟨aS,st,S₁,_,r',q2 (by clear r';induction b using cP<;>(clear h q1 q2;induction cA using cP)<;>first|rfl|exact absurd rfl hb)⟩
 induction cA using cP with
 |true=>exact BoolOp_and (bz z (λv s₁ y=>bz y (λc s₂ x=>by induction c using cP<;>simpa[iP]using x) λU U y=>y) λU U y=>y)
 |false=>exact BoolOp_or (bz z (λv s₁ y=>bz y (λc s₂ x=>by induction c using cP<;>simpa[iP]using x) λU U y=>y) λU U y=>y)
theorem Xw{cA:Bool}{pos:Pos}{Q:Bool->ak->Prop}(q:Q cA H):AT X d aa ai ae (.BoolOp (iP cA) [] pos) H Q:=by
 intro A cf s E hA hH S R;subst hH
 induction cA using cP with
 |true=>exact isTrue_and_nil<|bC.now S q
 |false=>exact isTrue_or_nil<|bC.now S q
theorem Xx{cA:Bool}{e:Expr}{r:bL}{pos:Pos}{Q:Bool->ak->Prop}
  (h:AT X d aa ai ae e H λb H'=>(b=cA->AT X d aa ai ae (.BoolOp (iP cA) r pos) H' Q)/\(b=(!cA)->Q b H')):
  AT X d aa ai ae (.BoolOp (iP cA) (e::r) pos) H Q:=by
 intro A cf s E hA hH S R;have z:wpAny (model X.prog X.w) A (PySem.isTrue e aa<|eval e aa) (λc s₂=>if c=cA then wpAny (model X.prog X.w) A (PySem.isTrue (.BoolOp (iP cA) r pos) aa<|eval (.BoolOp (iP cA) (e::r) pos) aa) (bC X cf s<|GB Q) E s₂ else bC X cf s (GB Q) c s₂) E s:=by
  refine bz (h A cf s E hA hH S R) (λb s₁ y=>?_) λU U y=>y;obtain⟨aS,st,S₁,q1,q2⟩:=y;by_cases hb:b=cA
  ·refine rR (bw hb) ?_;exact bz (q1 hb A aS s₁ E hA rfl S₁<|R.step S st) (λU U y=>y.after S st) λU U y=>y
  ·refine rR (bO hb) ?_;exact⟨aS,st,S₁,q2 (by induction b using cP<;>(clear h q1 q2;induction cA using cP)<;>first|rfl|exact absurd rfl hb)⟩
 induction cA using cP with
 |true=>exact isTrue_and (bz z (λc s₂ x=>by induction c using cP<;>simpa[iP]using x) λU U y=>y)
 |false=>exact isTrue_or (bz z (λc s₂ x=>by induction c using cP<;>simpa[iP]using x) λU U y=>y)
end
end
section
section
variable {X:Cx}{d:Nat}{aa:Env}{ai:b5}{ae:bF}{H:ak}{Q:eF}
theorem Xy{l r₁ r₂:Expr}{o1 o2:gw}{pos:Pos}(hm:lastMarks [gz o1,gz o2] [r₁,r₂]=false)
  (h:AE X d aa ai ae l H (λv1 H1=>AE X d aa ai ae r₁ H1 (λv2 H2=>mh H2 o1 v1 v2 (λt=>
   (t=true->AE X d aa ai ae r₂ H2 (λv3 H3=>mh H3 o2 v2 v3 λb=>Q (.b b) H3))/\(t=false->Q (.b false) H2))))):
  AE X d aa ai ae (.Compare l [gz o1,gz o2] [r₁,r₂] pos) H Q:=by
 refine fm λA cf s E hA hH S R=>Compare_chain ?_ hm;refine bz (h A cf s E hA hH S R) (λv1 s₁ y=>?_) λU U y=>y;obtain⟨aS,p1,st,S₁,r1,q⟩:=y;have cI:=R.step S st;refine chain_link (bz (q A aS s₁ E hA rfl S₁ cI) (λv2 s₂ y=>?_) λU U y=>y);obtain⟨gy,p2,cU,S₂,uF,q₂⟩:=y;have fN:=cI.step S₁ cU;have T₂:=st.trans S.own cU;refine rN hA S₂ (r1.mono<|cU.kept S₁.own) uF o1 q₂ λb t qb=>pW ?_
 induction b using cP with
 |false=>exact⟨gy,T₂.toks t,S₂,.b false,lA,qb.2 rfl⟩
 |true=>
  refine rR (bw rfl) ?_;refine chain_last (bz (qb.1 rfl A gy {s₂ with toks:=t} E hA rfl S₂ fN) (λv3 s₃ y=>?_) λU U y=>y);obtain⟨mu,p3,fO,fE,r3,q₃⟩:=y;have Cd:Rep X mu s₃.heap p2 v2:=uF.mono<|fO.kept S₂.own
  refine rN hA fE Cd r3 o2 q₃ λb t' qb=>⟨mu,((T₂.toks t).trans S.own fO).toks t',fE,.b b,lA,qb⟩
theorem Xz{l r₁ r₂:Expr}{o1 o2:gw}{pos:Pos}{Q:Bool->ak->Prop}(hm:lastMarks [gz o1,gz o2] [r₁,r₂]=false)
  (h:AE X d aa ai ae l H (λv1 H1=>AE X d aa ai ae r₁ H1 (λv2 H2=>mh H2 o1 v1 v2 (λt=>
   (t=true->AE X d aa ai ae r₂ H2 (λv3 H3=>mh H3 o2 v2 v3 λb=>Q b H3))/\(t=false->Q false H2))))):
  AT X d aa ai ae (.Compare l [gz o1,gz o2] [r₁,r₂] pos) H Q:=by
 intro A cf s E hA hH S R;refine isTrue_chain ?_ hm;refine bz (h A cf s E hA hH S R) (λv1 s₁ y=>?_) λU U y=>y;obtain⟨aS,p1,st,S₁,r1,q⟩:=y;have cI:=R.step S st;refine test_link (bz (q A aS s₁ E hA rfl S₁ cI) (λv2 s₂ y=>?_) λU U y=>y);obtain⟨gy,p2,cU,S₂,uF,q₂⟩:=y;have fN:=cI.step S₁ cU;have T₂:=st.trans S.own cU;refine rN hA S₂ (r1.mono<|cU.kept S₁.own) uF o1 q₂ λb t qb=>pW ?_
 induction b using cP with
 |false=>exact⟨gy,T₂.toks t,S₂,qb.2 rfl⟩
 |true=>
  refine rR (bw rfl) ?_;refine test_last (bz (qb.1 rfl A gy {s₂ with toks:=t} E hA rfl S₂ fN) (λv3 s₃ y=>?_) λU U y=>y);obtain⟨mu,p3,fO,fE,r3,q₃⟩:=y;have Cd:Rep X mu s₃.heap p2 v2:=uF.mono<|fO.kept S₂.own
  refine rN hA fE Cd r3 o2 q₃ λb t' qb=>pW ⟨mu,((T₂.toks t).trans S.own fO).toks t',fE,qb⟩
noncomputable def AP(X:Cx)(d:Nat)(aa:Env)(ai:b5)(ae:bF)(e:Option Expr)(H:ak)(Q:eF):Prop:=
 ∀A cf s E,c7 d A->cf.H=H->aU X cf s.heap->cK X cf aa ai ae s.heap->wpAny (model X.prog X.w) A (evalPart e aa) (Out X cf s Q) E s
theorem XA(q:Q .n H):AP X d aa ai ae none H Q:=λA cf s E U hH S U=>by subst hH;exact wpAny_evalPart_none<|Out.now S kL q
theorem XC{e:Expr}(h:AE X d aa ai ae e H Q):AP X d aa ai ae (some e) H Q:=λA cf s E hA hH S R=>wpAny_evalPart_some<|h A cf s E hA hH S R
theorem XD(k:Int)(n:Nat):clipAt n k=cutAt k n:=by have h:=clipAt_cast n k;unfold cutAt;split at h<;>split<;>(first|lia|omega)
theorem part_of{cf:Cf}{h:Heap}{p:PV}{v:Value}(r:Rep X cf h p v){n dflt i:Nat}(hp:(p=.n/\i=dflt)\/∃k,p=.i k/\small k/\i=cutAt k n):
  ∃o:bK,IsPart v o/\o.elim dflt (clipAt n)=i:=by
 rcases hp with⟨rfl,rfl⟩|⟨k,rfl,_,rfl⟩
 ·subst r;exact aA none .none rfl
 ·(refine X1 r λt aM=>?_;clear r;subst aM)
  exact aA (some k) (.int k t)<|XD k n
theorem XE{value:Expr}{lo hi:Option Expr}{p pos:Pos}(h:AE X d aa ai ae value H λv1 H1=>AP X d aa ai ae lo H1 λv2 H2=>AP X d aa ai ae hi H2 λv3 H3=>Hf H3 v1 v2 v3 λv=>Q v H3):
  AE X d aa ai ae (.Subscript value (.Slice lo hi none p) pos) H Q:=by
 refine fm λA cf s E hA hH S R=>Subscript_ ?_;refine bz (h A cf s E hA hH S R) (λv1 s₁ y=>?_) λU U y=>y;obtain⟨aS,p1,st,S₁,r1,q⟩:=y;have cI:=R.step S st;refine wpAny_Slice (bz (q A aS s₁ E hA rfl S₁ cI) (λv2 s₂ y=>?_) λU U y=>y);obtain⟨gy,p2,cU,S₂,r2,q₂⟩:=y;have fN:=cI.step S₁ cU;have r1':=r1.mono<|cU.kept S₁.own
 refine bz (q₂ A gy s₂ E hA rfl S₂ fN) (λv3 s₃ y=>?_) λU U y=>y;obtain⟨mu,p3,fO,fE,r3,l,i,j,hl,hi',hj,q₃⟩:=y;have Jt:=r1'.mono<|fO.kept S₂.own
 have r2':=r2.mono<|fO.kept S₂.own
 have XF:=(st.trans S.own cU).trans S.own fO;rw[evalPart_none];refine cF ?_;obtain⟨a,vs,rfl,hpl,hz,rl⟩:∃a vs,v1=.ref a/\s₃.heap.IsList a vs/\vs.size<=2^20/\aO X mu s₃.heap l vs.toList:=by
  clear r1 q q₂ r1';rcases hl with hl|rfl
  ·refine eJ (nD fE Jt hl) λa vs e hpl hz rl=>?_;exact fy a vs e hpl.isList hz rl
  ·obtain⟨a,vs,e,_,hpl,hz,rl⟩:=Jt;exact fy a vs e hpl hz rl
 have e1:vs.size=l.length:=by have:=rl.length;simpa using this
 refine aC (part_of (n:=vs.size) r2'<|by refine rR e1 ?_;exact hi') λol pl el=>?_;refine aC (part_of (n:=vs.size) (dflt:=vs.size) r3<|by refine rR e1 ?_;exact hj) λou pu eu=>?_;have hl':s₃.heap.IsList a vs:=hpl;refine tail_any (hl'.push _).typeIs slot_list_getitem.lookup (wpAny_getItem_list_slice (hl'.push _) (Heap.IsSliceOf.new ..) pl pu .none (by simp) ?_<|iO hz) rfl;have rr:aO X mu s₃.heap ((l.take j).drop i) (slicePick vs ol ou none).toList:=by
  rewrite[slicePick_plain];refine rR el<|rR eu<|rR nc<|rR List.drop_take ?_
  exact(rl.drop i).take<|j-i
 have hz':(slicePick vs ol ou none).size<=2^20:=by
  have:=rr.length;rw[qW]at this;refine rR this<|rR pP<|rR gU ?_
  exact Qa hz e1
 have g:=c5.push s₃.heap {cls:=.type "slice",data:=.fields #[v2,v3,.none]};have jE:aU X mu ({s₃ with heap:=s₃.heap.push {cls:=.type "slice",data:=.fields #[v2,v3,.none]}}:Shared).heap:=fE.grown g;have o:=xK (t:=s₃.toks) (Q:=Q) (n:=0) jE (rr.grown g) hz' q₃;exact(o.after fE<|Step.grown g).after S XF
theorem XG{value:Expr}{p pos p1 p2:Pos}{k:Nat}(h:AE X d aa ai ae value H λv1 H1=>∃l,fh H1 v1=some l/\Q (.l l.reverse) H1):
  AE X d aa ai ae (.Subscript value (.Slice none none (some<|.UnaryOp .USub (.Constant (.int 1) k p1) p2) p) pos) H Q:=by
 refine fm λA cf s E hA hH S R=>Subscript_ ?_;refine bz (h A cf s E hA hH S R) (λv1 s₁ y=>?_) λU U y=>y;obtain⟨aS,p1,st,S₁,r1,l,hl,q⟩:=y;refine wpAny_Slice<|wpAny_evalPart_none<|wpAny_evalPart_none<|wpAny_evalPart_some<|UnaryOp_<|PySem.wpAny_Constant_int<|PyProof.Rows.neg_int ?_
 refine eJ (nD S₁ r1 hl) λa vs aP hpl hz rl=>?_;clear r1;subst aP;have e1:vs.size=l.length:=by have:=rl.length;simpa using this
 have hl':s₁.heap.IsList a vs:=hpl.isList;refine tail_any (hl'.push _).typeIs slot_list_getitem.lookup (wpAny_getItem_list_slice (hl'.push _) (Heap.IsSliceOf.new ..) .none .none (.int _ _) (by decide) ?_<|iO hz) rfl;rw[krv_pick];have g:=c5.push s₁.heap {cls:=.type "slice",data:=.fields #[.none,.none,.int (-1)<|s₁.toks+1]};have jE:aU X aS ({s₁ with heap:=s₁.heap.push {cls:=.type "slice",data:=.fields #[.none,.none,.int (-1)<|s₁.toks+1]}}:Shared).heap:=S₁.grown g;have o:=xK (t:=s₁.toks+1+1) (Q:=Q) (n:=0) (vs:=vs.toList.reverse.toArray) jE (by refine rR nc ?_;exact rl.reverse.grown g) (by refine rR om<|rR List.length_reverse<|rR qW ?_;exact hz) q;exact(o.after S₁<|Step.grown g).after S st
end
end
section
section
variable {X:Cx}{d:Nat}{aa:Env}{ai:b5}{ae:bF}{H:ak}{Q:eF}
noncomputable def gp(X:Cx)(f:String)(v:Value):Prop:=nsIn X.K mainGlobals (Sx f)=some none/\bootBuiltins (Sx f)=some v/\Sx f≠Sx "__name__"
theorem uG{f:String}{v:Value}{pos:Pos}(T:eK X)(e:gp X f v)(hx:aa.kindOf (Sx f)=some .globalImplicit)(hd:(Sx f==("__debug__":Str))=false)
  {A:Around}{cf:Cf}{s:Shared}{E R:cJ}(S:aU X cf s.heap)(R₀:cK X cf aa ai ae s.heap)(h:R v s):wpAny (model X.prog X.w) A (eval (.Name (Sx f) pos) aa) R E s:=by
 refine X4 T.mg λp loose mg mb TR=>?_;have xQ:=TR.keeps λb o e=>(S.base b o e).1;have hv:=mg_none_of T.w_ TR.g e.1;refine Calls.Name_function_global R₀.kind hx (Calls.loadGlobal_builtin (mg:=mg) (mb:=mb) ?_ hv ?_ ?_ h) hd
 ·refine rR R₀.glob ?_;exact xQ.g
 ·refine rR R₀.blt ?_;exact xQ.b
 ·refine rR (TR.builtins _ e.2.2) ?_;exact e.2.1
theorem Ju{f:String}{p pos:Pos}{args:bL}{v:Value}{P:au->ak->Prop}(h2:args.all notStar=true)
  (ld:∀{A:Around} {cf:Cf} {s:Shared} {E:cJ} {R:cJ},aU X cf s.heap->cK X cf aa ai ae s.heap->R v s->wpAny (model X.prog X.w) A (eval (.Name (Sx f) p) aa) R E s)
  (hk:∀cf h,aU X cf h->∃k,(k=Keeper.frame\/k=Keeper.machine\/k=Keeper.boundFrame)/\Looks (model X.prog X.w) h (keeperOf v) k)
  (h:fM X d aa ai ae args H P)
  (op:∀A cf s E vs ps,c7 d A->aU X cf s.heap->aO X cf s.heap ps vs->P ps cf.H->wpAny (model X.prog X.w) A (call v vs []) (bC X cf s<|GV X Q) E s):
  AE X d aa ai ae (.Call (.Name (Sx f) p) args [] pos) H Q:=by
 refine fm λA cf s E hA hH S R=>?_;rw[arm_eval_Call_Name'];refine a_<|ld S R ?_
 show wpAny _ A (callWith pos v [] (backTo pos<|starEach args aa) []) _ E s;refine mq (P:=λh=>∃cf,aU X cf h) h2 (λh ⟨cf,S⟩=>hk cf h S) ?_;refine bz (h A cf s E pos hA hH S R) (λvs s₁ y=>?_) λU U y=>y;obtain⟨aS,st,S₁,ps,rs,q⟩:=y;exact⟨⟨aS,S₁⟩,bz (op A aS s₁ E vs ps hA S₁ rs q) (λU U z=>z.after S st) λU U y=>y⟩
theorem Jv{f:String}{p pos:Pos}{args:bL}{v:Value}{P:au->ak->Prop}(T:eK X)(e:gp X f v)(hv:(∃id,v=.builtin id)\/∃t,v=.type t)(hx:aa.kindOf (Sx f)=some .globalImplicit)
  (hd:(Sx f==("__debug__":Str))=false)(h2:args.all notStar=true)(h:fM X d aa ai ae args H P)
  (op:∀A cf s E vs ps,c7 d A->aU X cf s.heap->aO X cf s.heap ps vs->P ps cf.H->wpAny (model X.prog X.w) A (call v vs []) (bC X cf s<|GV X Q) E s):
  AE X d aa ai ae (.Call (.Name (Sx f) p) args [] pos) H Q:=by
 refine Ju h2 (λS R h=>uG T e hx hd S R h) (λcf h S=>?_) h op;clear e op;rcases hv with⟨id,rfl⟩|⟨t,rfl⟩
 ·exact oQ h trivial
 ·exact B8 h trivial
end
section
variable {X:Cx}{d:Nat}{A:Around}{cf:Cf}{s:Shared}{E:cJ}{Q:eF}{v:Value}{p:PV}
theorem XH{l:au}(S:aU X cf s.heap)(r:Rep X cf s.heap p v)(hl:e_ cf.H p=some l)(q:Q (.i l.length) cf.H):wpAny (model X.prog X.w) A (call (.builtin "len") [v] []) (bC X cf s<|GV X Q) E s:=by
 refine eJ (rM S r hl) λa vs aN hc hz rl=>?_;clear r;subst aN;have e1:vs.size=l.length:=by have:=rl.length;simpa using this
 have hfit:(vs.size:Int)<2^63:=by have:vs.size<=2^20:=hz;exact Qc hz
 have fin:bC X cf s (GV X Q) (.int vs.size<|s.toks+1) {s with toks:=s.toks+1+1}:=bC.tok S ⟨.i l.length,by refine rR e1 ?_;exact gm,q⟩;rcases hc with hc|hc
 ·exact Calls.call_len_list hc hfit fin
 ·exact PyProof.Rows.len_tuple hc hfit fin
theorem XI{h':Heap}{a:Addr}{l:au}{vs:dg}(S:aU X cf s.heap)(g:c5 s.heap h')(ha:s.heap.objs.size<=a)(hl:h'.PlainList a vs)(hz:vs.size<=2^20)(r:aO X cf s.heap l vs.toList):
  Rep X cf h' (.l l) (.ref a):=by
 exact⟨a,vs,rfl,rH S ha,hl,hz,r.grown g⟩
theorem XJ{h':Heap}{a:Addr}{l:au}{vs:dg}{t:Nat}(S:aU X cf s.heap)(g:c5 s.heap h')(ha:s.heap.objs.size<=a)(hl:h'.PlainList a vs)(hz:vs.size<=2^20)(r:aO X cf s.heap l vs.toList)
  (q:ly cf.H (.l l) Q):bC X cf s (GV X Q) (.ref a) {s with heap:=h',toks:=t}:=by
 have e:=oE hl;have k:Kept cf s.heap (eU cf a a<|.l l) h':=by
  refine⟨λb o U e=>g b o e,λb o hb ee hO=>?_,λm p e=>?_⟩
  ·have hne:b≠a:=λq=>by rw[q,jB ha]at ee;exact nN ee
   rcases hO with hO|hO|hO
   ·exact hb hO
   ·exact hne hO
   ·exact hne hO
  ·have hn:m<cf.ρ.length:=by
    rcases dm m cf.ρ.length with h|h
    ·exact h
    ·rw[gO h]at e;exact nN e
   show(cf.ρ++[_])[m]?=_;rw[iZ hn,e]
 have ok:=xB (t:=t) (ao:=.l l) S g ha ha e e ⟨rfl,vs,hl,hz,r.mono k l⟩;exact⟨_,ok.1,ok.2.1,_,ok.2.2.1,q⟩
theorem Jw{a:Addr}{vs:dg}(hc:s.heap.IsList a vs\/IsTup s.heap a vs):∃(T:String)(o:Obj)(n:Nat),(T="list"\/T="tuple")/\s.heap.get? a=some o/\o.cls=.type T/\o.data=.seq vs n:=by
 rcases hc with⟨o,e,c,n,dd⟩|⟨o,e,c,n,dd⟩
 ·exact lY ("list") o n (.inl rfl) e c dd
 ·exact lY ("tuple") o n (.inr rfl) e c dd
theorem XK{l:au}(S:aU X cf s.heap)(r:Rep X cf s.heap p v)(hl:e_ cf.H p=some l)(q:Q (.l l) cf.H):wpAny (model X.prog X.w) A (call (.type "list") [v] []) (bC X cf s<|GV X Q) E s:=by
 refine eJ (rM S r hl) λa vs aQ hc hz rl=>?_;clear r;subst aQ;refine kE (Jw hc) λT o n hT ho hcl hd=>?_;refine call_list_seq a hT ho hcl hd (λh' c' hk hg=>?_)<|iO hz
 exact bC.grown (t:=s.toks) S hk ⟨.l l,XI S hk (bY _) ⟨c',hg⟩ hz rl,q⟩
theorem XM{l:au}(S:aU X cf s.heap)(r:Rep X cf s.heap p v)(hl:e_ cf.H p=some l)(q:ly cf.H (.l l) Q):wpAny (model X.prog X.w) A (call (.type "list") [v] []) (bC X cf s<|GV X Q) E s:=by
 refine eJ (rM S r hl) λa vs aR hc hz rl=>?_;clear r;subst aR;refine kE (Jw hc) λT o n hT ho hcl hd=>?_;refine call_list_seq a hT ho hcl hd (λh' c' hk hg=>?_)<|iO hz
 exact XJ (t:=s.toks) S hk (bY _) ⟨c',hg⟩ hz rl q
theorem Ce{h:Heap}:∀{l:au}{ns:bk}{vs:cz},intsOf l=some ns->aO X cf h l vs->IntsAre vs ns
 |[],ns,vs,e,r=>by obtain rfl:=aK e;subst r;exact .nil
 |p::ps,ns,vs,e,r=>by
  obtain⟨v,t,rfl,hr,hs⟩:=r
  induction p using d7 with
  |i i=>
   simp only[intsOf,Option.map_eq_some_iff]at e;refine aC e λms e1 aT=>?_;clear e;subst aT;refine X1 hr λu aL=>?_;clear hr;subst aL;exact .cons _ _ (Ce e1 hs)
  |_=>simp[intsOf]at e
theorem Cg{h:Heap}:∀{ns:bk}{vs:cz},IntsAre vs ns->aO X cf h (ns.map PV.i) vs
 |[],vs,r=>by refine rR r.nil_inv ?_;exact aO.gk
 |n::ns,vs,r=>by refine gG r.cons_inv λt vs' aM r'=>?_;clear r;subst aM;exact aO.fD gm<|Cg r'
theorem XN{l:au}{ns:bk}(S:aU X cf s.heap)(r:Rep X cf s.heap p v)(hl:fh cf.H p=some l)(hn:intsOf l=some ns)(h64:ns.length<64)(q:Q (.l<|(sortedZ ns).map .i) cf.H):
  wpAny (model X.prog X.w) A (call (.builtin "sorted") [v] []) (bC X cf s<|GV X Q) E s:=by
 refine eJ (nD S r hl) λa vs aP hpl hz rl=>?_;clear r;subst aP;have hI:=Ce hn rl;have hl':s.heap.IsList a vs.toList.toArray:=by refine rR Array.toArray_toList ?_;exact hpl.isList
 refine PyProof.Rows.sorted_ints hl' hI (by refine rR hI.length ?_;exact h64) λout ns' h1 h2 h3=>?_;have e:ns'=sortedZ ns:=by
  have p1:(sortedZ ns).Perm ns:=List.mergeSort_perm ns _;have p2:(sortedZ ns).Pairwise (·<=·):=by have:=List.pairwise_mergeSort (le:=λa b:Int=>decide<|a<=b) (λa b c=>by simp;exact US) (λa b=>by simp;exact GH) ns;simpa[sortedZ]using this
  exact List.Perm.eq_of_pairwise (λa b U U h1 h2=>GI h1 h2) h3 p2<|h2.trans p1.symm
 clear h3;subst e;refine X1 (sortedAll_at s.heap vs.toList out) λc hc=>?_;have g:c5 s.heap (sortedAll s.heap vs.toList out):=λb o e=>sortedAll_old e;have hz':out.size<=2^20:=by have e1:=h1.length;have e2:=h2.length_eq;have e3:=hI.length;rw[qW]at e1 e3;exact Qd h64 e1 e2
 have rr:Rep X cf (sortedAll s.heap vs.toList out) (.l<|(sortedZ ns).map .i) (.ref<|s.heap.objs.size+1):=by exact⟨_,out,rfl,rH S<|Nat.le_succ _,⟨c,hc⟩,hz',Cg h1⟩
 exact bC.grown (t:=s.toks) S g ⟨_,rr,q⟩
theorem XO{i j:Int}{t u:Tok}(hA:c7 d A)(S:aU X cf s.heap)(q:Q (.i<|min i j) cf.H):wpAny (model X.prog X.w) A (call (.builtin "min") [.int i t,.int j u] []) (bC X cf s<|GV X Q) E s:=
 min_two_ints hA.hh λh' tk hk=>bC.grown (t:=tk) S hk ⟨.i<|min i j,by
  by_cases h:j<i
  ·refine rR (bw h)<|rR (Int.min_eq_right<|Int.le_of_lt h) ?_;exact gm
  ·refine rR (bO h)<|rR (Int.min_eq_left<|GJ h) ?_;exact gm,q⟩
theorem XQ{i j:Int}{t u:Tok}(hA:c7 d A)(S:aU X cf s.heap)(q:Q (.i<|max i j) cf.H):wpAny (model X.prog X.w) A (call (.builtin "max") [.int i t,.int j u] []) (bC X cf s<|GV X Q) E s:=
 max_two_ints hA.hh λh' tk hk=>bC.grown (t:=tk) S hk ⟨.i<|max i j,by
  by_cases h:j>i
  ·refine rR (bw h)<|rR (Int.max_eq_right<|Int.le_of_lt h) ?_;exact gm
  ·refine rR (bO h)<|rR (Int.max_eq_left<|UT h) ?_;exact gm,q⟩
theorem Jx(f:Nat->Int):∀k,argBest (λi j=>decide<|f i<f j) k<=k/\∀i,i<=k->f (argBest (λi j=>decide<|f i<f j) k)<=f i
 |0=>⟨bY _,λi hi=>by refine rR (Nat.le_zero.mp hi) ?_;exact k_ _⟩
 |k+1=>by
  refine U1 (Jx f k) λh1 h2=>?_;simp only[argBest];by_cases h:f (k+1)<f (argBest (λi j=>decide<|f i<f j) k)
  ·refine rR (bw<|by simpa using h) ?_;refine⟨bY _,λi hi=>?_⟩;rcases dm i (k+1)with h'|h'
   ·have:=h2 i<|FT h';exact GK h this
   ·refine rR (eI hi h') ?_;exact k_ _
  ·refine rR (bO<|by simpa using h) ?_;refine⟨l8 h1,λi hi=>?_⟩;rcases dm i (k+1)with h'|h'
   ·exact h2 i<|FT h'
   ·refine rR (eI hi h') ?_;exact GJ h
theorem Jy:∀(ns:bk)(n:Int),ns.foldl min n<=n/\(∀x∈ns,ns.foldl min n<=x)/\(ns.foldl min n=n\/ns.foldl min n∈ns)
 |[],n=>⟨k_ _,λx h=>(by cases h),Or.inl rfl⟩
 |m::ns,n=>by
  refine U2 (Jy ns<|min n m) λh1 h2 h3=>?_;refine rR pO ?_;refine⟨GN h1,λx hx=>?_,?_⟩
  ·clear h3;rcases eO.mp hx with rfl|hx
   ·exact GO h1
   ·exact h2 x hx
  ·rcases h3 with h3|h3
   ·refine rR h3 ?_;by_cases h:n<=m
    ·left;exact UU h
    ·right;refine rR (show min n m=m from UW h) ?_;exact cR
   ·exact .inr<|dh _ h3
theorem Jz:∀{vs:cz}{ns:bk},IntsAre vs ns->∃ps:List<|Int×Tok,vs=ps.map (λp=>Value.int p.1 p.2)/\ps.map (·.1)=ns
 |_,[],r=>aA [] (by refine rR r.nil_inv ?_;rfl) rfl
 |_,n::ns,r=>by refine gG r.cons_inv λt vs' aN r'=>?_;subst aN;refine aC (Jz r') λps aQ aR=>?_;clear r' r;subst aQ;subst aR;exact aA ((n,t)::ps) rfl rfl
theorem XR{l:au}{n:Int}{ns:bk}(hA:c7 d A)(S:aU X cf s.heap)(r:Rep X cf s.heap p v)(hl:fh cf.H p=some l)(hn:intsOf l=some (n::ns))(q:Q (.i<|ns.foldl min n) cf.H):
  wpAny (model X.prog X.w) A (call (.builtin "min") [v] []) (bC X cf s<|GV X Q) E s:=by
 refine eJ (nD S r hl) λa vs aT hpl hz rl=>?_;clear r;subst aT;have hI:=Ce hn rl;refine aC (Jz hI) λps e1 e2=>?_;have ev:vs=intItems ps.toArray:=by apply Array.toList_inj.mp;refine rR e1 ?_;simp[intItems]
 have hsz:ps.length=ns.length+1:=by have:=congrArg List.length e2;simpa using this
 refine min_intList (xs:=ps.toArray) hA.hh (by refine rL ev ?_;exact hpl.isList) (by refine rR om ?_;exact Qe hsz) λv h' tk hv hk=>?_;refine X1 (intItems_at hv) λt aL=>?_;clear hv;subst aL;refine U1 (Jx (numAt ps.toArray)<|ps.toArray.size-1) λb1 b2=>?_;have at':∀i,i<ps.length->(n::ns)[i]?=some (numAt ps.toArray i):=λi hi=>by rw[<-e2,cQ];simp[numAt,List.getElem?_eq_getElem hi]
 have e:numAt ps.toArray (argBest (λi j=>decide<|numAt ps.toArray i<numAt ps.toArray j)<|ps.toArray.size-1)=ns.foldl min n:=by
  rw[om]at b1 b2⊢;refine U2 (Jy ns n) λf1 f2 f3=>?_;have all:∀x∈n::ns,ns.foldl min n<=x:=λx hx=>by
   clear hn q hI e2 at' f3;rcases eO.mp hx with rfl|hx
   ·exact f1
   ·exact f2 x hx
  have mem:ns.foldl min n∈n::ns:=by
   rcases f3 with f3|f3
   ·refine rR f3 ?_;exact cR
   ·exact dh _ f3
  obtain⟨i,hi,hi'⟩:=List.mem_iff_getElem.mp mem;have hi2:i<ps.length:=by refine rR hsz ?_;simpa using hi
  have g1:=b2 i<|FU hi2
  have g2:=at' i hi2;rw[eE hi,hi']at g2;have g2:=aK g2;have g3:=at' _ (show argBest (λi j=>decide<|numAt ps.toArray i<numAt ps.toArray j) (ps.length-1)<ps.length from Qf hsz b1);have g4:=all _ (dY g3);exact UX g1 g2 g4
 refine rR e ?_;exact bC.grown (t:=tk) S hk ⟨_,gm,q⟩
theorem XS{b:Bool}(S:aU X cf s.heap)(r:Rep X cf s.heap p v)(h:(∃c,p=.b c/\b=true)\/((p=.n\/(∃i,p=.i i)\/∃x,p=.s x)/\b=false))(q:Q (.b b) cf.H):
  wpAny (model X.prog X.w) A (call (.builtin "isinstance") [v,.type "bool"] []) (bC X cf s<|GV X Q) E s:=by
 rcases h with⟨c,rfl,rfl⟩|⟨rfl|⟨i,rfl⟩|⟨x,rfl⟩,rfl⟩
 ·obtain rfl:v=.bool c:=r;exact IsiPair.bool_bool<|bC.now S ⟨_,lA,q⟩
 ·obtain rfl:v=.none:=r;exact IsiPair.NoneType_bool<|bC.tok S ⟨_,lA,q⟩
 ·(refine X1 r λt aM=>?_;clear r;subst aM);exact IsiPair.int_bool<|bC.tok S ⟨_,lA,q⟩
 ·(refine X1 r λt aP=>?_;clear r;subst aP);exact IsiPair.str_bool<|bC.tok S ⟨_,lA,q⟩
end
end
section
theorem band{a b:Bool}(h:(a&&b)=true):a=true/\b=true:=by induction a using cP<;>induction b using cP<;>first|exact⟨rfl,rfl⟩|exact nB h
theorem dz{c:Bool}{f:c=true->Bool}(h:(if h:c=true then f h else false)=true):c=true:=by induction c using cP<;>first|rfl|exact nB h
noncomputable def JA(k:Nat)(e:Stmt):Bool:=Nat.beq e.ctorIdx k
noncomputable def xR(q:BoolOp->bL->Bool)(e:Expr):Bool:=if h:Nat.beq e.ctorIdx 0=true then Expr.BoolOp.elim (motive_1:=λU=>Bool) e (b_ h) (λo l U=>q o l)else false
@[elab_as_elim] theorem JB{q:BoolOp->bL->Bool}{M:Expr->Prop}(e:Expr)(h:xR q e=true)(K:∀o l p,q o l=true->M (.BoolOp o l p)):M e:=
 Expr.BoolOp.elim (motive_1:=λe=>xR q e=true->M e) e (b_<|dz h) (λo l p h=>K o l p h) h
theorem XT{q e}(h:xR q e=true):Expr.ctorIdx e=0:=b_<|dz h
noncomputable def uH(q:Expr->Operator->Expr->Bool)(e:Expr):Bool:=if h:Nat.beq e.ctorIdx 2=true then Expr.BinOp.elim (motive_1:=λU=>Bool) e (b_ h) (λl o r U=>q l o r)else false
@[elab_as_elim] theorem JC{q:Expr->Operator->Expr->Bool}{M:Expr->Prop}(e:Expr)(h:uH q e=true)(K:∀l o r p,q l o r=true->M (.BinOp l o r p)):M e:=
 Expr.BinOp.elim (motive_1:=λe=>uH q e=true->M e) e (b_<|dz h) (λl o r p h=>K l o r p h) h
theorem XU{q e}(h:uH q e=true):Expr.ctorIdx e=2:=b_<|dz h
noncomputable def rU(q:UnaryOp->Expr->Bool)(e:Expr):Bool:=if h:Nat.beq e.ctorIdx 3=true then Expr.UnaryOp.elim (motive_1:=λU=>Bool) e (b_ h) (λo x U=>q o x)else false
@[elab_as_elim] theorem uI{q:UnaryOp->Expr->Bool}{M:Expr->Prop}(e:Expr)(h:rU q e=true)(K:∀o x p,q o x=true->M (.UnaryOp o x p)):M e:=
 Expr.UnaryOp.elim (motive_1:=λe=>rU q e=true->M e) e (b_<|dz h) (λo x p h=>K o x p h) h
theorem XW{q e}(h:rU q e=true):Expr.ctorIdx e=3:=b_<|dz h
noncomputable def xS(q:Expr->Expr->Expr->Bool)(e:Expr):Bool:=if h:Nat.beq e.ctorIdx 5=true then Expr.IfExp.elim (motive_1:=λU=>Bool) e (b_ h) (λt a b U=>q t a b)else false
@[elab_as_elim] theorem JD{q:Expr->Expr->Expr->Bool}{M:Expr->Prop}(e:Expr)(h:xS q e=true)(K:∀t a b p,q t a b=true->M (.IfExp t a b p)):M e:=
 Expr.IfExp.elim (motive_1:=λe=>xS q e=true->M e) e (b_<|dz h) (λt a b p h=>K t a b p h) h
theorem XX{q e}(h:xS q e=true):Expr.ctorIdx e=5:=b_<|dz h
noncomputable def rV(q:(List<|Option Expr)->bL->Bool)(e:Expr):Bool:=if h:Nat.beq e.ctorIdx 6=true then Expr.Dict.elim (motive_1:=λU=>Bool) e (b_ h) (λk v U=>q k v)else false
@[elab_as_elim] theorem Ci{q:(List<|Option Expr)->bL->Bool}{M:Expr->Prop}(e:Expr)(h:rV q e=true)(K:∀k v p,q k v=true->M (.Dict k v p)):M e:=
 Expr.Dict.elim (motive_1:=λe=>rV q e=true->M e) e (b_<|dz h) (λk v p h=>K k v p h) h
theorem XY{q e}(h:rV q e=true):Expr.ctorIdx e=6:=b_<|dz h
noncomputable def xT(q:Expr->(List Comprehension)->Scope->Bool)(e:Expr):Bool:=if h:Nat.beq e.ctorIdx 8=true then Expr.ListComp.elim (motive_1:=λU=>Bool) e (b_ h) (λt g s U=>q t g s)else false
@[elab_as_elim] theorem JE{q:Expr->(List Comprehension)->Scope->Bool}{M:Expr->Prop}(e:Expr)(h:xT q e=true)(K:∀t g s p,q t g s=true->M (.ListComp t g s p)):M e:=
 Expr.ListComp.elim (motive_1:=λe=>xT q e=true->M e) e (b_<|dz h) (λt g s p h=>K t g s p h) h
theorem XZ{q e}(h:xT q e=true):Expr.ctorIdx e=8:=b_<|dz h
noncomputable def uJ(q:Expr->(List CmpOp)->bL->Bool)(e:Expr):Bool:=if h:Nat.beq e.ctorIdx 15=true then Expr.Compare.elim (motive_1:=λU=>Bool) e (b_ h) (λl o r U=>q l o r)else false
@[elab_as_elim] theorem xU{q:Expr->(List CmpOp)->bL->Bool}{M:Expr->Prop}(e:Expr)(h:uJ q e=true)(K:∀l o r p,q l o r=true->M (.Compare l o r p)):M e:=
 Expr.Compare.elim (motive_1:=λe=>uJ q e=true->M e) e (b_<|dz h) (λl o r p h=>K l o r p h) h
theorem X0{q e}(h:uJ q e=true):Expr.ctorIdx e=15:=b_<|dz h
noncomputable def uK(q:Expr->bL->(List Keyword)->Pos->Bool)(e:Expr):Bool:=if h:Nat.beq e.ctorIdx 16=true then Expr.Call.elim (motive_1:=λU=>Bool) e (b_ h) (λf a k p=>q f a k p)else false
@[elab_as_elim] theorem JF{q:Expr->bL->(List Keyword)->Pos->Bool}{M:Expr->Prop}(e:Expr)(h:uK q e=true)(K:∀f a k p,q f a k p=true->M (.Call f a k p)):M e:=
 Expr.Call.elim (motive_1:=λe=>uK q e=true->M e) e (b_<|dz h) (λf a k p h=>K f a k p h) h
theorem X5{q e}(h:uK q e=true):Expr.ctorIdx e=16:=b_<|dz h
noncomputable def oR(q:Const->Bool)(e:Expr):Bool:=if h:Nat.beq e.ctorIdx 19=true then Expr.Constant.elim (motive_1:=λU=>Bool) e (b_ h) (λc U U=>q c)else false
@[elab_as_elim] theorem uL{q:Const->Bool}{M:Expr->Prop}(e:Expr)(h:oR q e=true)(K:∀c k p,q c=true->M (.Constant c k p)):M e:=
 Expr.Constant.elim (motive_1:=λe=>oR q e=true->M e) e (b_<|dz h) (λc k p h=>K c k p h) h
theorem X7{q e}(h:oR q e=true):Expr.ctorIdx e=19:=b_<|dz h
noncomputable def rW(q:Expr->PySem.Str->Pos->Bool)(e:Expr):Bool:=if h:Nat.beq e.ctorIdx 20=true then Expr.Attribute.elim (motive_1:=λU=>Bool) e (b_ h) (λv y p=>q v y p)else false
@[elab_as_elim] theorem Cj{q:Expr->PySem.Str->Pos->Bool}{M:Expr->Prop}(e:Expr)(h:rW q e=true)(K:∀v y p,q v y p=true->M (.Attribute v y p)):M e:=
 Expr.Attribute.elim (motive_1:=λe=>rW q e=true->M e) e (b_<|dz h) (λv y p h=>K v y p h) h
theorem X8{q e}(h:rW q e=true):Expr.ctorIdx e=20:=b_<|dz h
noncomputable def qf(q:Expr->Expr->Bool)(e:Expr):Bool:=if h:Nat.beq e.ctorIdx 21=true then Expr.Subscript.elim (motive_1:=λU=>Bool) e (b_ h) (λv s U=>q v s)else false
@[elab_as_elim] theorem xV{q:Expr->Expr->Bool}{M:Expr->Prop}(e:Expr)(h:qf q e=true)(K:∀v s p,q v s=true->M (.Subscript v s p)):M e:=
 Expr.Subscript.elim (motive_1:=λe=>qf q e=true->M e) e (b_<|dz h) (λv s p h=>K v s p h) h
theorem X9{q e}(h:qf q e=true):Expr.ctorIdx e=21:=b_<|dz h
noncomputable def mw(q:PySem.Str->Bool)(e:Expr):Bool:=if h:Nat.beq e.ctorIdx 23=true then Expr.Name.elim (motive_1:=λU=>Bool) e (b_ h) (λy U=>q y)else false
@[elab_as_elim] theorem qg{q:PySem.Str->Bool}{M:Expr->Prop}(e:Expr)(h:mw q e=true)(K:∀y p,q y=true->M (.Name y p)):M e:=
 Expr.Name.elim (motive_1:=λe=>mw q e=true->M e) e (b_<|dz h) (λy p h=>K y p h) h
theorem X_{q e}(h:mw q e=true):Expr.ctorIdx e=23:=b_<|dz h
noncomputable def rX(q:bL->Bool)(e:Expr):Bool:=if h:Nat.beq e.ctorIdx 24=true then Expr.List.elim (motive_1:=λU=>Bool) e (b_ h) (λl U=>q l)else false
@[elab_as_elim] theorem Ck{q:bL->Bool}{M:Expr->Prop}(e:Expr)(h:rX q e=true)(K:∀l p,q l=true->M (.List l p)):M e:=
 Expr.List.elim (motive_1:=λe=>rX q e=true->M e) e (b_<|dz h) (λl p h=>K l p h) h
theorem Yb{q e}(h:rX q e=true):Expr.ctorIdx e=24:=b_<|dz h
noncomputable def rY(q:bL->Bool)(e:Expr):Bool:=if h:Nat.beq e.ctorIdx 25=true then Expr.Tuple.elim (motive_1:=λU=>Bool) e (b_ h) (λl U U=>q l)else false
@[elab_as_elim] theorem Cm{q:bL->Bool}{M:Expr->Prop}(e:Expr)(h:rY q e=true)(K:∀l k p,q l=true->M (.Tuple l k p)):M e:=
 Expr.Tuple.elim (motive_1:=λe=>rY q e=true->M e) e (b_<|dz h) (λl k p h=>K l k p h) h
theorem Yc{q e}(h:rY q e=true):Expr.ctorIdx e=25:=b_<|dz h
noncomputable def xW(q:(Option Expr)->(Option Expr)->(Option Expr)->Bool)(e:Expr):Bool:=if h:Nat.beq e.ctorIdx 26=true then Expr.Slice.elim (motive_1:=λU=>Bool) e (b_ h) (λa b c U=>q a b c)else false
@[elab_as_elim] theorem JG{q:(Option Expr)->(Option Expr)->(Option Expr)->Bool}{M:Expr->Prop}(e:Expr)(h:xW q e=true)(K:∀a b c p,q a b c=true->M (.Slice a b c p)):M e:=
 Expr.Slice.elim (motive_1:=λe=>xW q e=true->M e) e (b_<|dz h) (λa b c p h=>K a b c p h) h
noncomputable def Cn(q:(Option Expr)->Bool)(e:Stmt):Bool:=if h:Nat.beq e.ctorIdx 3=true then Stmt.Return.elim (motive_2:=λU=>Bool) e (b_ h) (λv U=>q v)else false
@[elab_as_elim] theorem Yd{q:(Option Expr)->Bool}{M:Stmt->Prop}(e:Stmt)(h:Cn q e=true)(K:∀v p,q v=true->M (.Return v p)):M e:=
 Stmt.Return.elim (motive_2:=λe=>Cn q e=true->M e) e (b_<|dz h) (λv p h=>K v p h) h
noncomputable def rZ(q:bL->Expr->Bool)(e:Stmt):Bool:=if h:Nat.beq e.ctorIdx 5=true then Stmt.Assign.elim (motive_2:=λU=>Bool) e (b_ h) (λt v U=>q t v)else false
@[elab_as_elim] theorem xX{q:bL->Expr->Bool}{M:Stmt->Prop}(e:Stmt)(h:rZ q e=true)(K:∀t v p,q t v=true->M (.Assign t v p)):M e:=
 Stmt.Assign.elim (motive_2:=λe=>rZ q e=true->M e) e (b_<|dz h) (λt v p h=>K t v p h) h
noncomputable def Co(q:Expr->Expr->(List Stmt)->(List Stmt)->Bool)(e:Stmt):Bool:=if h:Nat.beq e.ctorIdx 9=true then Stmt.For.elim (motive_2:=λU=>Bool) e (b_ h) (λt i b c U=>q t i b c)else false
@[elab_as_elim] theorem Ye{q:Expr->Expr->(List Stmt)->(List Stmt)->Bool}{M:Stmt->Prop}(e:Stmt)(h:Co q e=true)(K:∀t i b c p,q t i b c=true->M (.For t i b c p)):M e:=
 Stmt.For.elim (motive_2:=λe=>Co q e=true->M e) e (b_<|dz h) (λt i b c p h=>K t i b c p h) h
noncomputable def Cp(q:Expr->(List Stmt)->(List Stmt)->Bool)(e:Stmt):Bool:=if h:Nat.beq e.ctorIdx 11=true then Stmt.While.elim (motive_2:=λU=>Bool) e (b_ h) (λt b c U=>q t b c)else false
@[elab_as_elim] theorem Yg{q:Expr->(List Stmt)->(List Stmt)->Bool}{M:Stmt->Prop}(e:Stmt)(h:Cp q e=true)(K:∀t b c p,q t b c=true->M (.While t b c p)):M e:=
 Stmt.While.elim (motive_2:=λe=>Cp q e=true->M e) e (b_<|dz h) (λt b c p h=>K t b c p h) h
noncomputable def Cq(q:Expr->(List Stmt)->(List Stmt)->Bool)(e:Stmt):Bool:=if h:Nat.beq e.ctorIdx 12=true then Stmt.If.elim (motive_2:=λU=>Bool) e (b_ h) (λt b c U=>q t b c)else false
@[elab_as_elim] theorem Yh{q:Expr->(List Stmt)->(List Stmt)->Bool}{M:Stmt->Prop}(e:Stmt)(h:Cq q e=true)(K:∀t b c p,q t b c=true->M (.If t b c p)):M e:=
 Stmt.If.elim (motive_2:=λe=>Cq q e=true->M e) e (b_<|dz h) (λt b c p h=>K t b c p h) h
noncomputable def Cr(q:Expr->Bool)(e:Stmt):Bool:=if h:Nat.beq e.ctorIdx 24=true then Stmt.Expr.elim (motive_2:=λU=>Bool) e (b_ h) (λv U=>q v)else false
@[elab_as_elim] theorem Yi{q:Expr->Bool}{M:Stmt->Prop}(e:Stmt)(h:Cr q e=true)(K:∀v p,q v=true->M (.Expr v p)):M e:=
 Stmt.Expr.elim (motive_2:=λe=>Cr q e=true->M e) e (b_<|dz h) (λv p h=>K v p h) h
noncomputable def l1{α:Type}(q:α->Bool)(l:List α):Bool:=match l with
 |[]=>false
 |x::r=>r.isEmpty&&q x
@[elab_as_elim] theorem jF{α:Type}{M:List α->Prop}(l:List α)(h:l.isEmpty=true)(K:M []):M l:=by
 induction l using b9
 ·exact K
 ·exact nB h
@[elab_as_elim] theorem iz{α:Type}{q:α->Bool}{M:List α->Prop}(l:List α)(h:l1 q l=true)(K:∀x,q x=true->M [x]):M l:=by
 induction l using b9 with
 |nil=>exact nB h
 |cons x r=>exact jF (M:=λr=>M<|x::r) r (band h).1<|K x (band h).2
noncomputable def oS{α:Type}(q:α->Bool)(l:Option α):Bool:=match l with
 |none=>false
 |some x=>q x
@[elab_as_elim] theorem Cs{α:Type}{M:Option α->Prop}(l:Option α)(h:l.isNone=true)(K:M none):M l:=by
 induction l using e9
 ·exact K
 ·exact nB h
@[elab_as_elim] theorem JH{α:Type}{q:α->Bool}{M:Option α->Prop}(l:Option α)(h:oS q l=true)(K:∀x,q x=true->M (some x)):M l:=by
 induction l using e9
 ·exact nB h
 ·exact K _ h
def l2{α:Type}(q:α->α->Bool)(l:List α):Bool:=match l with
 |[]=>false
 |x::r=>l1 (q x) r
@[elab_as_elim] theorem r5{α:Type}{q:α->α->Bool}{M:List α->Prop}(l:List α)(h:l2 q l=true)(K:∀x y,q x y=true->M [x,y]):M l:=by
 induction l using b9 with
 |nil=>exact nB h
 |cons x r=>exact iz (M:=λr=>M<|x::r) r h<|K x
def oT(q:PySem.Str->bL->Bool)(e:Expr):Bool:=uK (λf a k U=>k.isEmpty&&mw (λy=>q y a) f) e
@[elab_as_elim] theorem oU{q:PySem.Str->bL->Bool}{M:Expr->Prop}(e:Expr)(h:oT q e=true)(K:∀y p a p',q y a=true->M (.Call (.Name y p) a [] p')):M e:=
 JF e h λf a k p' h=>jF (M:=λk=>M<|.Call f a k p') k (band h).1 (qg (M:=λf=>M<|.Call f a [] p') f (band h).2 λy p h=>K y p a p' h)
def qh(q:Expr->PySem.Str->bL->Bool)(e:Expr):Bool:=uK (λf a k p=>k.isEmpty&&rW (λv y p'=>jD v&&decide (p'.endLine=p.line)&&q v y a) f) e
@[elab_as_elim] theorem r6{q:Expr->PySem.Str->bL->Bool}{M:Expr->Prop}(e:Expr)(h:qh q e=true)(K:∀v y p' a p,jD v=true->p'.endLine=p.line->q v y a=true->M (.Call (.Attribute v y p') a [] p)):M e:=
 JF e h λf a k p h=>jF (M:=λk=>M<|.Call f a k p) k (band h).1 (Cj (M:=λf=>M<|.Call f a [] p) f (band h).2 λv y p' h=>K v y p' a p (band (band h).1).1 (cG (band (band h).1).2) (band h).2)
noncomputable def lC{α:Type}(q:α->List α->Bool)(l:List α):Bool:=match l with
 |[]=>false
 |x::r=>q x r
@[elab_as_elim] theorem xY{α:Type}{q:α->List α->Bool}{M:List α->Prop}(l:List α)(h:lC q l=true)(K:∀x r,q x r=true->M (x::r)):M l:=by
 induction l using b9 with
 |nil=>exact nB h
 |cons x r=>exact K x r h
noncomputable def xZ(q:Addr->Bool)(v:Value):Bool:=if h:Nat.beq v.ctorIdx 10=true then Value.ref.elim (motive:=λU=>Bool) v (b_ h) q else false
@[elab_as_elim] theorem JI{q:Addr->Bool}{M:Value->Prop}(v:Value)(h:xZ q v=true)(K:∀a,q a=true->M (.ref a)):M v:=
 Value.ref.elim (motive:=λv=>xZ q v=true->M v) v (b_<|dz h) K h
noncomputable def vInt(q:Int->Bool)(v:Value):Bool:=if h:Nat.beq v.ctorIdx 4=true then Value.int.elim (motive:=λU=>Bool) v (b_ h) (λi U=>q i)else false
@[elab_as_elim] theorem Yj{q:Int->Bool}{M:Value->Prop}(v:Value)(h:vInt q v=true)(K:∀i t,q i=true->M (.int i t)):M v:=
 Value.int.elim (motive:=λv=>vInt q v=true->M v) v (b_<|dz h) K h
noncomputable def vStr(q:PySem.Str->Bool)(v:Value):Bool:=if h:Nat.beq v.ctorIdx 6=true then Value.str.elim (motive:=λU=>Bool) v (b_ h) (λi U=>q i)else false
@[elab_as_elim] theorem Yk{q:PySem.Str->Bool}{M:Value->Prop}(v:Value)(h:vStr q v=true)(K:∀i t,q i=true->M (.str i t)):M v:=
 Value.str.elim (motive:=λv=>vStr q v=true->M v) v (b_<|dz h) K h
noncomputable def x8(q:dg->Bool)(d:Data):Bool:=if h:Nat.beq d.ctorIdx (Data.seq #[] 0).ctorIdx=true then Data.seq.elim (motive:=λU=>Bool) d (b_ h) (λi U=>q i)else false
@[elab_as_elim] theorem JJ{q:dg->Bool}{M:Data->Prop}(v:Data)(h:x8 q v=true)(K:∀i t,q i=true->M (.seq i t)):M v:=
 Data.seq.elim (motive:=λv=>x8 q v=true->M v) v (b_<|dz h) K h
noncomputable def Ct(q:FuncData->Bool)(d:Data):Bool:=if h:Nat.beq d.ctorIdx 7=true then Data.func.elim (motive:=λU=>Bool) d (b_ h) q else false
@[elab_as_elim] theorem Yl{q:FuncData->Bool}{M:Data->Prop}(v:Data)(h:Ct q v=true)(K:∀i,q i=true->M (.func i)):M v:=
 Data.func.elim (motive:=λv=>Ct q v=true->M v) v (b_<|dz h) K h
end
section
noncomputable def constOf:PV->Option Const
 |.n=>some .none
 |.b b=>some<|.bool b
 |.i b=>some<|.int b
 |.s b=>some<|.str<|Sx b
 |.t _=>none
 |.l _=>none
 |.r _=>none
 |.d _=>none
 |.c _ _=>none
 |.o _ _ _=>none
 |.e _=>none
def qi(c:Const)(p:PV):Bool:=decide<|constOf p=some c
section
variable {X:Cx}{d:Nat}{aa:Env}{ai:b5}{ae:bF}{H:ak}{Q:eF}
theorem Ym{c:Const}{p:PV}{k:Nat}{pos:Pos}(h:qi c p=true)(q:Q p H):AE X d aa ai ae (.Constant c k pos) H Q:=by
 have h:=cG h
 induction p using d7 with
 |n=>obtain rfl:=aK h;exact Jp q
 |b b=>obtain rfl:=aK h;exact Xe q
 |i b=>obtain rfl:=aK h;exact Xf q
 |s b=>obtain rfl:=aK h;exact Xg q
 |_=>nomatch h
theorem Yn{c:Const}{p:PV}{k:Nat}{pos:Pos}{M:Model}{A:Around}{s:Shared}{E R:cJ}(h:qi c p=true)(q:∀v t,(∀cf h,Rep X cf h p v)->R v {s with toks:=t}):
  wpAny M A (eval (.Constant c k pos) aa) R E s:=by
 have h:=cG h
 induction p using d7 with
 |n=>obtain rfl:=aK h;exact PySem.wpAny_Constant_none (q _ s.toks λU U=>kL)
 |b b=>obtain rfl:=aK h;exact PySem.wpAny_Constant_bool (q _ s.toks λU U=>lA)
 |i b=>obtain rfl:=aK h;exact PySem.wpAny_Constant_int (q _ _ λU U=>gm)
 |s b=>obtain rfl:=aK h;exact PySem.wpAny_Constant_str (q _ _ λU U=>B0)
 |_=>nomatch h
theorem cell_out{cf:Cf}{s:Shared}{h':Heap}{a:Addr}{t:Nat}{ao:AO}(S:aU X cf s.heap)(g:c5 s.heap h')(ha:s.heap.objs.size<=a)(e:∃o,h'.get? a=some o)
  (r:Kept cf s.heap (eU cf a a ao) h'->nu X (eU cf a a ao) h' (a,a) ao)(q:ly cf.H ao Q):bC X cf s (GV X Q) (.ref a) {s with heap:=h',toks:=t}:=by
 have k:Kept cf s.heap (eU cf a a ao) h':=by
  refine⟨λb o U e=>g b o e,λb o hb ee hO=>?_,λm p e=>?_⟩
  ·have hne:b≠a:=λq=>by rw[q,jB ha]at ee;exact nN ee
   rcases hO with hO|hO|hO
   ·exact hb hO
   ·exact hne hO
   ·exact hne hO
  ·have hn:m<cf.ρ.length:=by
    rcases dm m cf.ρ.length with h|h
    ·exact h
    ·rw[gO h]at e;exact nN e
   show(cf.ρ++[_])[m]?=_;rw[iZ hn,e]
 have ok:=xB (t:=t) (ao:=ao) S g ha ha e e<|r k
 exact⟨_,ok.1,ok.2.1,_,ok.2.2.1,q⟩
theorem not_modules{cf:Cf}{h:Heap}{a:Addr}(T:eK X)(S:aU X cf h)(ha:h.objs.size<=a):(a==sysModules)=false:=by
 refine X4 T.mg λp loose mg mb TR=>?_;refine t8 TR.g λo U U e U=>?_;have h1:@LT.lt Nat _ mainGlobals h.objs.size:=fJ (S.base _ _ e).1;have h2:@LE.le Nat _ sysModules mainGlobals:=by decide
 have:a≠sysModules:=λe=>by have h3:@LE.le Nat _ h.objs.size sysModules:=e▸ha;exact absurd (oq h1<|eR h3 h2)<|q_ _
 simpa using this
theorem Yo{pos:Pos}(T:eK X)(q:ly H (.i 0 λU=>none) Q):AE X d aa ai ae (.Dict [] [] pos) H Q:=fm λA cf s E U hH S U=>by
 subst hH;refine wpAny_Dict_empty<|cell_out (t:=s.toks) S (c5.push _ _) (bY _) ⟨_,ik _ rfl⟩ (λk=>?_) q
 exact⟨rfl,not_modules T S<|bY _,[],Heap.DictOf.new _,bY _,λk=>rfl⟩
theorem Yp{pos:Pos}(T:eK X)(q:ly H (.s [] []) Q):AE X d aa ai ae (.Dict [] [] pos) H Q:=fm λA cf s E U hH S U=>by
 subst hH;refine wpAny_Dict_empty<|cell_out (t:=s.toks) S (c5.push _ _) (bY _) ⟨_,ik _ rfl⟩ (λk=>?_) q
 exact⟨rfl,not_modules T S<|bY _,[],Heap.DictOf.new _,rfl,aO.gk⟩
def litOk:List (Option Expr)->bL->aY->au->Bool
 |[],vs,ks,ps=>vs.isEmpty&&ks.isEmpty&&ps.isEmpty
 |e::es,vs,ks,ps=>lC (λv vs=>lC (λk ks=>lC (λp ps=>oS (oR λc=>decide<|c=.str (Sx k)) e&&oR (λc=>qi c p) v&&litOk es vs ks ps) ps) ks) vs
inductive r7:List (Option Expr)->bL->aY->au->Prop
 |nil:r7 [] [] [] []
 |cons {a b c a' b' es vs k ks p ps} (h:qi c p=true) (t:r7 es vs ks ps):r7 (some (.Constant (.str<|Sx k) a b)::es) (.Constant c a' b'::vs) (k::ks)<|p::ps
theorem Yq:∀(es:List<|Option Expr){vs:bL}{ks:aY}{ps:au},litOk es vs ks ps=true->r7 es vs ks ps:=by
 intro es
 induction es with
 |nil=>exactλh=>jF _ (band (band h).1).1 (jF _ (band (band h).1).2 (jF _ (band h).2 .nil))
 |cons e es ih=>exactλ{vs ks ps} h=>xY vs h λv vs h=>xY ks h λk ks h=>xY ps h λp ps h=>JH e (band (band h).1).1 λx q=>uL x q λc U U q=>cG q▸uL v (band (band h).1).2 λU U U q=>.cons q<|ih (band h).2
theorem Yr{es:List<|Option Expr}{vs:bL}{ks:aY}{ps:au}(h:r7 es vs ks ps):es.all (·.isSome)=true/\es.length=vs.length/\es.length=ks.length:=by
 induction h with
 |nil=>exact⟨rfl,rfl,rfl⟩
 |cons _ _ ih=>exact⟨ih.1,congrArg _ ih.2.1,congrArg _ ih.2.2⟩
theorem Ys{pos:Pos}{A:Around}{E:cJ}{keys:List<|Option Expr}{values:bL}{ks:aY}{ps:au}(h:r7 keys values ks ps):∀{s:Shared}{R:List (Value×Value)->Shared->Prop},
  (∀(vs:List<|Value×Value) t,Carries (strKind X.prog X.w) vs ((ks.map Sx).zip (vs.map (·.2)))->vs.length=ks.length->(∀cf h,aO X cf h ps (vs.map (·.2)))->R vs {s with toks:=t})->
  wpAny (model X.prog X.w) A (evalPairs<|pairTrees keys values aa pos) R E s:=by
 induction h with
 |nil=>exactλq=>pairTrees_nil_walk (q [] _ trivial rfl λU U=>aO.gk)
 |@cons _ _ _ _ _ _ _ k _ _ _ h4 _ ih=>
  intro s R q;refine pairTrees_cons_walk<|PySem.wpAny_Constant_str (Yn (X:=X) h4 λv t rv=>ih λvs t' hc hl hr=>?_)
  exact q ((.str (Sx k) s.toks,v)::vs) t' ⟨by simp[PySem.strKind,Value.isStrOf],rfl,hc⟩ (congrArg _ hl) λcf h=>aO.fD (rv cf h)<|hr cf h
theorem Yt{keys:List<|Option Expr}{values:bL}{ks:aY}{ps:au}{pos:Pos}(T:eK X)(h:litOk keys values ks ps=true)(h0:ks≠[])(Cu:ks.length<=15)(hn:ks.Nodup)(q:ly H (.s ks ps) Q):
  AE X d aa ai ae (.Dict keys values pos) H Q:=fm λA cf s E U hH S U=>by
 subst hH;have h:=Yq keys h;refine U2 (Yr h) λs1 s2 s3=>?_;refine wpAny_Dict_walk (knd:=strKind X.prog X.w) s1 s2 (λe=>h0<|List.length_eq_zero_iff.mp<|by refine rL s3<|rR e ?_;rfl) (by refine rR s3 ?_;exact Cu) ?_;refine Ys h λvs t hc hl hr=>cM _ hc (Heap.DictOf.new _) (λh' hd hb=>?_);have g:c5 s.heap h':=λb o e=>(hb.2 b<|gP<|fJ e).trans<|jq _ e
 have hnd:(((ks.map Sx).zip (vs.map (·.2))).map (·.1)).Nodup:=by refine rR (List.map_fst_zip<|by simp[hl]) ?_;exact pR.mpr (hn.imp λh e=>h<|lq e)
 rw[merged_nil_of_nodup _ hnd]at hd;exact cell_out (t:=t+vs.length) (ao:=.s ks ps) S g (bY _) (uq hd) (λk=>⟨rfl,not_modules T S<|bY _,vs.map (·.2),hd,by simp[hl],hr _ _⟩) q
theorem Yu{A:Around}{cf:Cf}{s:Shared}{E:cJ}{v1 v2:Value}{k:Int}(S:aU X cf s.heap)(r1:Rep X cf s.heap (.l [.n]) v1)(r2:Rep X cf s.heap (.i k) v2)(h0:0<=k)(hk:k<=2^20)
  (q:ly cf.H (.l<|List.replicate k.toNat .n) Q):wpAny (model X.prog X.w) A (binaryOp .Mult v1 v2) (bC X cf s<|GV X Q) E s:=by
 obtain⟨a,vs,rfl,_,⟨n,hl⟩,hz,rl⟩:=r1;refine X1 r2 λt aN=>?_;clear r2;subst aN;have ev:vs=#[Value.none]:=by apply Array.toList_inj.mp;obtain⟨v,rfl',hv⟩:=rQ rl;exact rR rfl' (rR hv rfl)
 clear hz rl;subst ev;have hT:s.TypeIs (.ref a) "list":=aA _ hl rfl;refine wpAny_binaryOp_repeat_ref (T:="list") (U:="int") (by decide) hT (λs'=>typeIs_int s' k t) noFill_list_mul F.fills_int_mul F.slot_int_rmul repeat_list F.slot_int_index.lookup
  (call_meets F.slot_int_rmul (typeIs_int s k t) F.entry_int_rmul (F.args_int_rmul_2 _ _) (int___rmul___int_list k t a _ n)
   ⟨hl,rfl,hT,call_meets F.slot_list_mul hT F.entry_list_mul (F.args_list_mul_2 _ _)
    (AutoListH.list___mul___list_int_3 a _ n k t (by simp[Builtin.List.listFitsIndex];exact UY h0 hk) (by simp;exact UZ hk) (by simp[Builtin.List.listTooLong,sizeLine];exact U0 hk))
    ⟨hl,?_⟩⟩)
 have e:(List.foldl (λx1 x2=>x1++x2) #[] (List.replicate (if(#[Value.none]:dg).isEmpty=true then 0 else k.toNat) #[Value.none])).toList=List.replicate k.toNat Value.none:=by
  refine rR (bO<|by simp) ?_;have g:∀(m:Nat)(acc:dg),(List.foldl (λx1 x2=>x1++x2) acc<|List.replicate m #[Value.none]).toList=acc.toList++List.replicate m Value.none:=λm=>by
   induction m with
   |zero=>intro acc;simp
   |succ m ih=>intro acc;(refine rR List.replicate_succ<|rR pO ?_;rewrite[ih];refine rR Array.toList_append<|rR List.replicate_succ ?_);simp
  rw[g];rfl
 have rr:∀(m:Nat)(h:Heap),aO X cf h (List.replicate m .n) (List.replicate m Value.none):=λm h=>by
  induction m with
  |zero=>exact aO.gk
  |succ m ih=>refine rR List.replicate_succ<|rR List.replicate_succ ?_;exact aO.fD kL ih
 refine Je (t:=s.toks) (n:=0) S (by refine rR e ?_;exact rr _ _) ?_ q;have:=congrArg List.length e;rw[List.length_replicate,qW]at this;refine rR this ?_;exact U4 hk
theorem Yv{n:Expr}{k:Nat}{p p1 pos:Pos}(h:AE X d aa ai ae n H λv H'=>∃i,v=.i i/\0<=i/\i<=2^20/\ly H' (.l<|List.replicate i.toNat .n) Q):
  AE X d aa ai ae (.BinOp (.List [.Constant .none k p1] p) .Mult n pos) H Q:=by
 refine I7 (P:=λp1 p2 H'=>p1=.l [.n]/\∃i,p2=.i i/\0<=i/\i<=2^20/\ly H' (.l<|List.replicate i.toNat .n) Q) ?_ λA cf s E v1 v2 p1 p2 hA S R r1 r2 q=>?_
 ·refine Jr<|uA rfl<|Jp<|xF ⟨by simp,?_⟩
  exact h.mono λv H' ⟨i,e,q⟩=>Fy rfl i e q
 ·(revert q;refine Pu λaQ i aR h0 h1 q=>?_;subst aQ;subst aR)
  exact Yu S r1 r2 h0 h1 q
end
def nG(X:Cx)(d:Nat)(fv:Value)(args:au)(H:ak)(Q:eF):Prop:=
 ∀A cf s E vs,c7 d A->cf.H=H->aU X cf s.heap->aO X cf s.heap args vs->wpAny (model X.prog X.w) A (call fv vs []) (bC X cf s<|GV X Q) E s
section
variable {X:Cx}{d:Nat}{aa:Env}{ai:b5}{ae:bF}{H:ak}{Q:eF}
theorem Yw{f:String}{p pos:Pos}{args:bL}(T:eK X)(hx:aa.kindOf (Sx f)=some .globalImplicit)(hd:(Sx f==("__debug__":Str))=false)(h2:args.all notStar=true)
  {fv:Value}(e:nsIn X.K mainGlobals (Sx f)=some (some fv))(hk:keepIn X.K fv=true)
  (h:fM X d aa ai ae args H (λvs H'=>nG X d fv vs H' Q)):AE X d aa ai ae (.Call (.Name (Sx f) p) args [] pos) H Q:=
 Ju h2 (λS R h=>Jq T e hx hd S R h) (λcf h S=>keeps_K hk h<|qe T S) h λA cf s E vs ps hA S r q=>q A cf s E vs hA rfl S r
theorem Yx{o:Expr}{m:String}{args:bL}{apos pos:Pos}(T:eK X)(h1:jD o=true)(h2:args.all notStar=true)(h3:args.length<30)(h4:apos.endLine=pos.line)
  (h:AE X d aa ai ae o H (λvo H'=>∃c ns l C f,fieldsOf H' vo=some (c,ns,l)/\ns.contains m=false/\jQ X.K c=some C/\
   plainGet X.K C (Sx m)=true/\findIn X.K (.ref C) (Sx m)=some (some<|.ref f)/\isFn X.K (.ref f)=true/\keepIn X.K (.ref f)=true/\
   fM X d aa ai ae args H' (λvs c8=>nG X d (.ref f) (vo::vs) c8 Q))):
  AE X d aa ai ae (.Call (.Attribute o (Sx m) apos) args [] pos) H Q:=by
 refine rP h1 h2 h3 h4 h λA cf s E v p hA S R r q=>?_;refine PB q λc ns l C f hf hns hc hg uM hfn hk ha=>?_;refine Fg (Jj S r hf) λa dd C' es n aT hc' e1 e2 hkb rl=>?_;subst aT;rw[hc]at hc';obtain rfl:=aK hc';refine method_fn (qe T S) (⟨e1,rfl,rfl,e2⟩:InstAt s.heap a (instObj C dd) C<|some<|dictOf es n) (plainGet_of hg).1 (plainGet_of hg).2 uM (gQ.mp hfn) (by show(lookIn _ (dictOf es n)).map _=_;(rewrite[lookIn_dict];refine rR (Jl hkb hns) ?_);rfl) ?_;refine mq (P:=λh=>∃cf,aU X cf h) h2 (λh ⟨cf,S⟩=>keeps_K hk h<|qe T S) ?_;refine bz (ha A cf s E pos hA rfl S R) (λvs s₁ y=>?_) λU U y=>y;obtain⟨aS,st,S₁,ps,rs,q⟩:=y;refine⟨⟨aS,S₁⟩,?_⟩;exact bz (q A aS s₁ E (.ref a::vs) hA rfl S₁<|aO.fD (r.mono<|st.kept S.own) rs) (λU U z=>z.after S st) λU U y=>y
end
end
section
noncomputable def cN(aa:Env)(b:Addr):Prop:=b=aa.locals\/∃n,(n,b)∈aa.cells
structure dH (F:Addr->Prop)(cf:Cf)(s:Shared)(aI:Cf)(s':Shared):Prop where
 same:∃h' tk,s'={s with heap:=h',toks:=tk}
 keep:∀b o,¬Own cf b->¬F b->s.heap.get? b=some o->s'.heap.get? b=some o
 avoid:∀b o,cf.O b->¬Own cf b->s.heap.get? b=some o->aI.O b
 fresh:∀b,aI.O b->cf.O b\/s.heap.get? b=none
 owned:∀b,Own aI b->Own cf b\/s.heap.get? b=none
 refs:∀(n:Nat)(p:Addr×Addr),cf.ρ[n]?=some p->aI.ρ[n]?=some p
theorem Step.toF{F:Addr->Prop}{cf aI:Cf}{s s':Shared}(x:Step cf s aI s'):dH F cf s aI s':=⟨x.same,λb o h U e=>x.keep b o h e,x.avoid,x.fresh,x.owned,x.refs⟩
theorem dH.refl{F:Addr->Prop}(cf:Cf)(s:Shared):dH F cf s cf s:=(Step.refl cf s).toF
section
variable {X:Cx}{F:Addr->Prop}{cf aI nv:Cf}{s s' s'':Shared}
theorem dH.trans(S:aU X cf s.heap)(S':aU X aI s'.heap)(hF:∀b,F b->cf.O b/\¬Own cf b)(x:dH F cf s aI s')(y:dH F aI s' nv s''):dH F cf s nv s'':=by
 have nw:∀b o,¬Own cf b->s.heap.get? b=some o->¬Own aI b:=λb o hb e hw=>by
  rcases x.owned b hw with h|h
  ·exact hb h
  ·rw[h]at e;exact nN e
 have back:∀b,s'.heap.get? b=none->Own cf b\/s.heap.get? b=none:=λb h'=>by
  by_cases hb:Own cf b
  ·exact .inl hb
  ·by_cases hf:F b
   ·refine X1 (S.here b (hF b hf).1) λo e=>?_;refine X1 (S'.here b<|x.avoid b o (hF b hf).1 hb e) λo' e'=>?_;rw[h']at e';exact nN e'
   ·cases e:s.heap.get? b with
    |none=>exact .inr rfl
    |some o=>rw[x.keep b o hb hf e]at h';exact sN h'
 refine⟨?_,λb o hb hf e=>y.keep b o (nw b o hb e) hf<|x.keep b o hb hf e,λb o h hb e=>?_,λb h=>?_,λb h=>?_,λn p h=>y.refs n p<|x.refs n p h⟩
 ·(refine X2 x.same λh1 t1 aL=>?_;clear S' x back;subst aL)
  refine X2 y.same λh2 t2 aM=>?_;clear y;subst aM;exact I2 h2 t2 rfl
 ·have h1:=x.avoid b o h hb e;refine X1 (S'.here b h1) λo' e'=>?_;exact y.avoid b o' h1 (nw b o hb e) e'
 ·rcases y.fresh b h with h'|h'
  ·exact x.fresh b h'
  ·exact(back b h').imp (S.own b) id
 ·rcases y.owned b h with h'|h'
  ·exact x.owned b h'
  ·exact back b h'
theorem dH.kept(S:aU X cf s.heap)(hF:∀b,F b->cf.O b/\¬Own cf b)(x:dH F cf s aI s'):Kept cf s.heap aI s'.heap:=
 ⟨λb o hb e=>x.keep b o (λh=>hb<|S.own b h) (λh=>hb (hF b h).1) e,λb o hb e hO=>(x.fresh b hO).elim hb λh=>(by rw[h]at e;exact nN e),x.refs⟩
theorem cN.of{aa:Env}{ai:b5}{ae:bF}{h:Heap}(R:cK X cf aa ai ae h){b:Addr}(h:cN aa b):cf.O b/\¬Own cf b:=by
 rcases h with rfl|⟨n,hm⟩
 ·exact⟨R.av,λq=>(R.off _ q).1 rfl⟩
 ·exact⟨(R.iu _ _ hm).1,λq=>(R.off _ q).2 _ _ hm rfl⟩
end
def Yy(X:Cx)(cf:Cf)(h:Heap):dW->Flow->Prop
 |.n,f=>f=.next
 |.b,f=>f=.brk
 |.c,f=>f=.cont
 |.r p,f=>∃v,f=.ret v/\Rep X cf h p v
abbrev SP:=dW->bF->ak->Prop
inductive kM (X:Cx)(aa:Env)(ai:b5)(cf:Cf)(s:Shared)(Q:SP)(f:Flow)(s':Shared):Prop
 |mk (aI:Cf) (af:dW) (cZ:bF) (st:dH (cN aa) cf s aI s') (sim:aU X aI s'.heap) (er:cK X aI aa ai cZ s'.heap) (fr:Yy X aI s'.heap af f) (q:Q af cZ aI.H):kM X aa ai cf s Q f s'
noncomputable def gq(X:Cx)(d:Nat)(aa:Env)(ai:b5)(ae:bF)(st:Stmt)(H:ak)(Q:SP):Prop:=
 ∀A cf s E,c7 d A->cf.H=H->aU X cf s.heap->cK X cf aa ai ae s.heap->wpAny (model X.prog X.w) A (exec st aa) (kM X aa ai cf s Q) E s
noncomputable def iQ(X:Cx)(d:Nat)(aa:Env)(ai:b5)(ae:bF)(ss:List Stmt)(H:ak)(Q:SP):Prop:=
 ∀A cf s E,c7 d A->cf.H=H->aU X cf s.heap->cK X cf aa ai ae s.heap->wpAny (model X.prog X.w) A (execs ss aa) (kM X aa ai cf s Q) E s
section
variable {X:Cx}{d:Nat}{aa:Env}{ai:b5}{ae:bF}{H:ak}{Q:SP}{cf aI:Cf}{s s' s'':Shared}
theorem kM.after{cZ:bF}{f:Flow}(S:aU X cf s.heap)(R:cK X cf aa ai ae s.heap)(S':aU X aI s'.heap)(st:dH (cN aa) cf s aI s')(y:kM X aa ai aI s' Q f s''):kM X aa ai cf s Q f s'':=
 let ⟨c,af,a',st',Cv,uN,fr,q⟩:=y;⟨c,af,a',st.trans S S' (λb=>cN.of R) st',Cv,uN,fr,q⟩
theorem kM.mono{Q':SP}{f:Flow}(y:kM X aa ai cf s Q f s')(h:∀a b c,Q a b c->Q' a b c):kM X aa ai cf s Q' f s':=
 let ⟨c,af,a',st',Cv,uN,fr,q⟩:=y;⟨c,af,a',st',Cv,uN,fr,h _ _ _ q⟩
theorem Yz(q:Q .n ae H):iQ X d aa ai ae [] H Q:=λA cf s E hA hH S R=>by subst hH;exact wpAny_execs_nil ⟨cf,.n,ae,dH.refl _ _,S,R,rfl,q⟩
theorem JK{st:Stmt}{r:List Stmt}(h:gq X d aa ai ae st H (λf cZ H'=>match f with
   |.n=>iQ X d aa ai cZ r H' Q
   |f=>Q f cZ H')):iQ X d aa ai ae (st::r) H Q:=λA cf s E hA hH S R=>by
 refine wpAny_execs_cons (bz (h A cf s E hA hH S R) (λf s₁ y=>?_) λU U y=>y);obtain⟨aS,af,x9,gI,S₁,cI,fr,q⟩:=y
 induction af using dW.casesOn with
 |n=>
  obtain rfl:f=.next:=fr
  exact bz (q A aS s₁ E hA rfl S₁ cI) (λU U y=>y.after (cZ:=x9) S R S₁ gI) λU U y=>y
 |b=>obtain rfl:f=.brk:=fr;exact⟨aS,.b,x9,gI,S₁,cI,rfl,q⟩
 |c=>obtain rfl:f=.cont:=fr;exact⟨aS,.c,x9,gI,S₁,cI,rfl,q⟩
 |r p=>
  refine aC fr λv aP rv=>?_;clear fr;subst aP;exact⟨aS,.r p,x9,gI,S₁,cI,aA v rfl rv,q⟩
noncomputable def d8(ai:b5):Prop:=∀(i j:Nat)(x:String),ai[i]?=some (some x)->ai[j]?=some (some x)->i=j
def kN(aa:Env)(G:Addr->Prop)(x:String):Prop:=(∀b,G b->cN aa b)/\(aa.kindOf (Sx x)=some .local->G aa.locals)/\(aa.kindOf (Sx x)=some .cell->∀c,aa.cells.lookup (Sx x)=some c->G c)
theorem kN.all(aa:Env)(x:String):kN aa (cN aa) x:=⟨λU h=>h,λU=>.inl rfl,λU c h=>.inr ⟨_,iG h⟩⟩
theorem Cw{G:Addr->Prop}{i:Nat}{x:String}{pv:PV}{v:Value}{A:Around}{E:cJ}{K:Unit->Shared->Prop}(hN:d8 ai)(hi:ai[i]?=some (some x))(hk:aa.kindOf (Sx x)=some .local\/aa.kindOf (Sx x)=some .cell)
  (x_:kN aa G x)(S:aU X cf s.heap)(R:cK X cf aa ai ae s.heap)(r:Rep X cf s.heap pv v)
  (k:∀h',dH G cf s cf {s with heap:=h',toks:=s.toks}->aU X cf h'->cK X cf aa ai (ae.set i<|some pv) h'->∀t,K () {s with heap:=h',toks:=t}):
  wpAny (model X.prog X.w) A (storeName aa (Sx x) v) K E s:=by
 refine d_ R.vals λm cm hn hc hv=>?_
 
 have go:∀(h':Heap)(a:Addr),cN aa a->G a->(∃o,h'.get? a=some o)->Heap.SameBut a s.heap h'->
   dH G cf s cf {s with heap:=h',toks:=s.toks}/\aU X cf h'/\Kept cf s.heap cf h':=λh' a ha YA ho hs=>by
  have oa:=cN.of R ha;have same:∀b o,b≠a->s.heap.get? b=some o->h'.get? b=some o:=λb o hb e=>hs.extBut b o hb e;have K:Kept cf s.heap cf h':=⟨λb o hb e=>same b o (λq=>hb<|q▸oa.1) e,λU U h U=>h,λU U h=>h⟩
  refine⟨⟨I2 h' s.toks rfl,λb o U hf e=>same b o (λq=>hf<|q▸YA) e,λU U h U U=>h,λU h=>.inl h,λU h=>.inl h,λU U h=>h⟩,?_,K⟩;refine⟨S.len,λn ao p e1 e2=>?_,S.own,S.inj,λb hb=>?_,λb o e=>?_⟩
  ·have n1:p.1≠a:=λq=>oa.2 ⟨n,ao,p,e1,e2,.inl q.symm⟩;have n2:p.2≠a:=λq=>oa.2 ⟨n,ao,p,e1,e2,.inr q.symm⟩;exact(S.rep n ao p e1 e2).mono K (λo e=>same _ o n1 e) λo e=>same _ o n2 e
  ·by_cases h:b=a
   ·refine rR h ?_;exact ho
   ·refine X1 (S.here b hb) λo e=>?_;exact⟨o,same b o h e⟩
  ·refine U1 (S.base b o e) λe1 e2=>?_;exact⟨same b o (λq=>e2<|q▸oa.1) e1,e2⟩
 have JL:∀(j:Nat)(y:String)(pw:PV),ai[j]?=some (some y)->(ae.set i<|some pv)[j]?=some (some pw)->(y=x/\pw=pv)\/(y≠x/\ae[j]?=some (some pw)):=λj y pw hj hp=>by
  by_cases oV:i=j
  ·subst oV;rw[hi]at hj;have hj:=aK<|aK hj
   left;refine⟨hj.symm,?_⟩;by_cases hl:i<ae.length
   ·rw[jL hl]at hp;exact(aK<|aK hp).symm
   ·rw[gO<|by refine rR i5 ?_;exact z9 hl]at hp;exact nN hp
  ·rw[jr oV]at hp;refine .inr ⟨λq=>oV<|hN i j x hi<|q▸hj,hp⟩
 have JM:∀{y:String},y≠x->Sx y≠Sx x:=λh e=>h<|lq e
 rcases hk with hk|hk
 ·refine wpAny_storeName_local hk hn (λh' hn' hs'=>?_)<|by refine rR R.kind ?_;rfl
  refine U2 (go h' aa.locals (.inl rfl) (x_.2.1 hk) (let ⟨o,_,_,e,_⟩:=hn';⟨o,e⟩) hs') λst S' K=>?_;refine k h' st S' ⟨R.kind,R.glob,R.blt,R.av,R.iu,R.apart,R.oF,R.off,_,cm,hn',λn c hl=>(hc n c hl).sameBut hs' (R.iu n c<|iG hl).2,λj y pw hj hp=>?_⟩ _;clear hi x_ k hn';rcases JL j y pw hj hp with⟨rfl,rfl⟩|⟨hne,lB⟩
  ·exact aA v (r.mono K)<|.inl ⟨hk,by simp⟩
  ·refine aC (hv j y pw hj lB) λu ru hu=>?_;exact aA u (ru.mono K)<|hu.imp (λh=>⟨h.1,by simp only[if_neg<|JM hne];exact h.2⟩) id
 ·refine X1 (R.oF _ hk) λc hcl=>?_;refine wpAny_storeName_cell R.kind hk hcl (hc _ c hcl) λh' hc' hs'=>?_;have hm:=iG hcl;refine U2 (go h' c (.inr ⟨_,hm⟩) (x_.2.2 hk c hcl) (let ⟨o,e,_⟩:=hc';⟨o,e⟩) hs') λst S' K=>?_;refine k h' st S' ⟨R.kind,R.glob,R.blt,R.av,R.iu,R.apart,R.oF,R.off,m,λn=>if n=Sx x then some v else cm n,hn.sameBut hs'<|Ne.symm (R.iu _ c hm).2,λn c' hl=>?_,λj y pw hj hp=>?_⟩ _
  ·by_cases jV:n=Sx x
   ·subst jV;rw[hcl]at hl;obtain rfl:=aK hl;simpa using hc'
   ·show h'.IsCell c' (if n=Sx x then some v else cm n);refine rR (bO jV) ?_;exact(hc n c' hl).sameBut hs' λe=>jV<|name_of_addr R.apart (iG hl)<|e▸hm
  ·clear hi x_ k hm;rcases JL j y pw hj hp with⟨rfl,rfl⟩|⟨hne,lB⟩
   ·exact aA v (r.mono K)<|.inr ⟨hk,⟨c,hcl⟩,by simp⟩
   ·refine aC (hv j y pw hj lB) λu ru hu=>?_;exact aA u (ru.mono K) (hu.imp id λh=>⟨h.1,h.2.1,by simp only[if_neg<|JM hne];exact h.2.2⟩)
theorem store{i:Nat}{x:String}{pv:PV}{v:Value}{A:Around}{E:cJ}{K:Unit->Shared->Prop}(hN:d8 ai)(hi:ai[i]?=some (some x))(hk:aa.kindOf (Sx x)=some .local\/aa.kindOf (Sx x)=some .cell)
  (S:aU X cf s.heap)(R:cK X cf aa ai ae s.heap)(r:Rep X cf s.heap pv v)
  (k:∀h',dH (cN aa) cf s cf {s with heap:=h',toks:=s.toks}->aU X cf h'->cK X cf aa ai (ae.set i<|some pv) h'->∀t,K () {s with heap:=h',toks:=t}):
  wpAny (model X.prog X.w) A (storeName aa (Sx x) v) K E s:=Cw hN hi hk (kN.all aa x) S R r k
theorem JN{i:Nat}{x:String}{value:Expr}{p pos:Pos}(hN:d8 ai)(hi:ai[i]?=some (some x))(hk:aa.kindOf (Sx x)=some .local\/aa.kindOf (Sx x)=some .cell)
  (hs:swapsWith value (some<|.Name (Sx x) p) pos.line aa=pure false)
  (h:AE X d aa ai ae value H λv H'=>Q .n (ae.set i<|some v) H'):gq X d aa ai ae (.Assign [.Name (Sx x) p] value pos) H Q:=λA cf s E hA hH S R=>by
 refine wpAny_Assign_Name ?_ hs;refine bz (h A cf s E hA hH S R) (λv s₁ y=>?_) λU U y=>y;obtain⟨aS,pv,st,S₁,r,q⟩:=y;have cI:=R.step S st;refine store hN hi hk S₁ cI r λh' st' S' R' t=>?_;exact⟨aS,.n,_,st.toF.trans S S₁ (λb=>cN.of R)<|⟨I2 h' t rfl,st'.keep,st'.avoid,st'.fresh,st'.owned,st'.refs⟩,S',R',rfl,q⟩
theorem JO{t:Expr}{a b:List Stmt}{pos:Pos}(h:AT X d aa ai ae t H λc H'=>(c=true->iQ X d aa ai ae a H' Q)/\(c=false->iQ X d aa ai ae b H' Q)):gq X d aa ai ae (.If t a b pos) H Q:=λA cf s E hA hH S R=>by
 refine wpAny_If (bz (h A cf s E hA hH S R) (λc s₁ y=>?_) λU U y=>y);obtain⟨aS,st,S₁,q⟩:=y
 induction c using cP with
 |true=>exact bz (q.1 rfl A aS s₁ E hA rfl S₁<|R.step S st) (λU U y=>y.after (cZ:=ae) S R S₁ st.toF) λU U y=>y
 |false=>exact bz (q.2 rfl A aS s₁ E hA rfl S₁<|R.step S st) (λU U y=>y.after (cZ:=ae) S R S₁ st.toF) λU U y=>y
theorem YB{e:Expr}{pos:Pos}(h:AE X d aa ai ae e H λv H'=>Q (.r v) ae H'):gq X d aa ai ae (.Return (some e) pos) H Q:=λA cf s E hA hH S R=>by refine wpAny_Return_some (bz (h A cf s E hA hH S R) (λv s₁ y=>?_) λU U y=>y);obtain⟨aS,pv,st,S₁,r,q⟩:=y;exact⟨aS,.r pv,ae,st.toF,S₁,R.step S st,aA v rfl r,q⟩
theorem YC{pos:Pos}(q:Q (.r .n) ae H):gq X d aa ai ae (.Return none pos) H Q:=λA cf s E hA hH S R=>by subst hH;exact wpAny_Return_none ⟨cf,.r .n,ae,dH.refl _ _,S,R,aA .none rfl kL,q⟩
theorem YD{pos:Pos}(q:Q .b ae H):gq X d aa ai ae (.Break pos) H Q:=λA cf s E hA hH S R=>by subst hH;exact a_<|wpAny_standAt<|cF ⟨cf,.b,ae,dH.refl _ _,S,R,rfl,q⟩
theorem YE{pos:Pos}(q:Q .c ae H):gq X d aa ai ae (.Continue pos) H Q:=λA cf s E hA hH S R=>by subst hH;exact a_<|wpAny_standAt<|cF ⟨cf,.c,ae,dH.refl _ _,S,R,rfl,q⟩
end
end
section
section
variable {X:Cx}{A:Around}{E:cJ}{s:Shared}
theorem YF{l:Addr}{items:dg}{n j:Nat}{k:Int}{t:Tok}{v:Value}{R:Unit->Shared->Prop}(hl:PySem.IsL s.heap l items n)(hk:small k)(hj:gx k items.size=some j)
  (q:R () {s with heap:=s.heap.update l (Obj.mapSeq (·.setIfInBounds j v))}):wpAny (model X.prog X.w) A (setItem (.ref l) (.int k t) v) R E s:=by
 refine U2 (B4 hj) λe hlt hc=>?_;have hT:s.heap.IsList l items:=ua _ hl rfl _ rfl;have hx:items[j]?=some items[j]:=Array.getElem?_eq_getElem hlt;unfold small at hk;unfold setItem
 try with_reducible refine wpAny_holding ?_
 refine a_<|wpAny_sequenceKey hT.typeIs (by decide) ?_
 refine a_ (t6 (name:=Str.ofString "__setitem__") hT.typeIs PySem.slot_list_setitem
  (wpAny_call_entry PySem.slot_list_setitem hT.typeIs PySem.entry_list_setitem ?_<|PySem.args_list_setitem _ _ _))
 rcases hc with⟨h0,rfl⟩|⟨h0,h1,rfl⟩
 ·show wpAny _ _ (Builtin.List.listSubscript? (.int k t)>>=_) _ _ s;refine a_<|wpAny_listSubscript_int (fitsIndex_of h0<|Ai hk) ?_
  refine X1 (Int.eq_ofNat_of_zero_le h0) λi aN=>?_;clear hk h0 hj e;subst aN;show wpAny _ _ ((seqItemAt l i>>=λr=>pure (r.map (i,·)))>>=_) _ _ s;refine a_<|a_<|wpAny_seqItemAt hl rfl<|cF ?_
  have hx':items[i]?=some items[i]:=hx;refine rR hx' ?_;show wpAny _ _ (setSeqItemAt l i v>>=_) _ _ s;refine a_<|wpAny_setSeqItemAt hl rfl ?_
  first
   |exact a_<|cF<|cF<|aA .none rfl<|cF q
   |exact cF ⟨.none,rfl,cF q⟩
 ·show wpAny _ _ (Builtin.List.listSubscript? (.int k t)>>=_) _ _ s;refine a_<|wpAny_listSubscript_int (fitsIndex_neg h0<|Aj hk) ?_
  obtain⟨i,rfl⟩:∃i:Nat,k=Int.negSucc i:=by
   induction k using Int.casesOn with
   |ofNat n=>exact absurd h0<|Int.not_lt.mpr<|iY n
   |negSucc n=>exact⟨n,rfl⟩
  show wpAny _ _ ((Builtin.List.listItems (.ref l)>>=λxs=>pure ((seqIndex? (Int.negSucc i) xs.size).bind λi=>xs[i]?.map (i,·)))>>=_) _ _ s;refine a_<|a_ ?_
  show wpAny _ _ (seqItems? (.ref l)>>=_) _ _ s;refine a_<|pV hl rfl<|cF<|cF ?_
  refine rR e ?_;simp only[Option.bind_some,hx,Option.map_some];show wpAny _ _ (setSeqItemAt l _ v>>=_) _ _ s;refine a_<|wpAny_setSeqItemAt hl rfl ?_
  first
   |exact a_<|cF<|cF<|aA .none rfl<|cF q
   |exact cF ⟨.none,rfl,cF q⟩
set_option tactic.hygienic true in
theorem YG{a dd C:Addr}{es:List DictEntry}{n:Nat}{x:PySem.Str}{v:Value}{R:Unit->Shared->Prop}(hX:X.K.In s.heap)(e1:s.heap.get? a=some (instObj C dd))(e2:s.heap.get? dd=some (dictOf es n))
  (h1:findIn X.K (.ref C) "__setattr__"=some (some<|.builtin "object.__setattr__"))(h2:plainOver X.K C=true)(h3:takerIn X.K C x=some none)(h4:hasDictIn X.K C=true)
  (hg:(getL x es).isSome=true)(hz:es.length<=1000)
  (q:∀h' t hsh tk,h'.get? dd=some (dictOf (putL x hsh (.str x tk) v es)<|putN x es n)->(∀b o,b≠dd->s.heap.get? b=some o->h'.get? b=some o)->R () {s with heap:=h',toks:=t}):
  wpAny (model X.prog X.w) A (setAttr (.ref a) x v) R E s:=by
 have I:InstAt s.heap a (instObj C dd) C (some<|dictOf es n):=⟨e1,rfl,rfl,e2⟩
 refine set_plain hX I h1 (osa_open (s:={s with toks:=s.toks+1}) hX I h2 h3 λb=>?_);refine aC (any_some (show(clsIn X.K C).any (·.hasDict)=true from h4)) λcd hc hd'=>?_;have len:∀(hsh:Int)(key:Value)(l:List DictEntry),(putL x hsh key v l).length<=l.length+1:=λhsh key l=>by
  induction l with
  |nil=>simp[putL]
  |cons e r ih=>
   simp only[putL];split
   ·simp
   ·simp only[List.length_cons];exact Qg ih
 have JP:Obj.putName x (PyData.keyHash X.w.params x) (.str x<|s.toks+1) v (dictOf es n)=dictOf (putL x (PyData.keyHash X.w.params x) (.str x<|s.toks+1) v es) (putN x es n):=putName_dict ..;have D':(s.heap.update dd<|Obj.putName x (PyData.keyHash X.w.params x) (.str x<|s.toks+1) v).get? dd=some (dictOf (putL x (PyData.keyHash X.w.params x) (.str x<|s.toks+1) v es)<|putN x es n):=by rw[Heap.get?_update_self _ e2 (by refine rR JP ?_;rfl),JP]
 refine a_<|cF<|a_<|a_<|wpAny_loadPart e1<|a_<|Looks.here (s:={s with toks:=s.toks+1}) (looks_clsIn hX hc) ?_
 refine rR hd' ?_;refine cF (a:=some dd)<|a_<|cF<|a_ ?_
 unfold nsSet;refine a_<|a_<|wpAny_askSetting<|cF<|a_<|wpAny_mkText<|a_<|wpAny_loadPart e2 ?_
 dsimp only[dictOf];have c:(!es.toArray.any (·.key.isStr x)&&es.toArray.any (·.refKey))=false:=by
  refine rR List.any_toArray<|rR List.any_toArray ?_
  unfold getL at hg;split at hg
  ·rename_i en he;rw[List.any_eq_true.mpr<|aA en (List.mem_of_find?_eq_some he)<|List.find?_some he];rfl
  ·split at hg
   ·exact nB hg
   ·rename_i z;rw[Bool.not_eq_true]at z;(refine rR z ?_;rw[Bool.and_false])
 rewrite[aRefKeyMayBeTheName_at];refine rR c ?_;refine wpAny_updatePart e2 ?_;refine a_<|wpAny_lookBehind D' (pastItsLine_dict<|by refine rR om<|rR sizeLine_eq ?_;have:=len (PyData.keyHash X.w.params x) (.str x<|s.toks+1) es;exact Qh hz this) ?_
 exact cF (q _ _ _ _ D' λb o hb e=>(Heap.get?_update_ne _ _ _ _ hb).trans e)
end
end
section
theorem YH{x:String}{hsh:Int}{tk:Tok}{v:Value}:∀{ns:aY}{es:List DictEntry}{l:au}(pv:PV),jy ns es->jy (eT x pv ns l).1 (putL (Sx x) hsh (.str (Sx x) tk) v es)\/l.length≠ns.length:=by
 intro ns
 induction ns with
 |nil=>
  intro es l pv h;refine rR (xM h) ?_
  induction l using b9 with
  |nil=>left;exact aA [tk] (by simp[rz,rt,putL]) rfl
  |cons p l=>right;simp
 |cons n ns ih=>
  intro es l pv h;refine t9 (uD h) λe r t aQ hk hr=>?_;clear h;subst aQ
  induction l using b9 with
  |nil=>right;simp
  |cons p l=>
   simp only[rz,rt,putL,hk,xN];by_cases jV:n=x
   ·left;refine rR (bw jV)<|rR (bw<|by simpa using jV) ?_
    refine aC hr λts h1 h2=>?_;exact aA (t::ts) (by simp[h1,hk])<|by simp[h2]
   ·refine rR (bO jV)<|rR (bO<|by simpa using jV) ?_
    rcases ih (l:=l) pv hr with⟨ts,h1,h2⟩|h1
    ·left;exact aA (t::ts) (by simp[h1,hk])<|by simp[h2]
    ·right;simpa using h1
theorem YI{X:Cx}{cf:Cf}{h:Heap}{x:String}{hsh:Int}{tk:Tok}{v:Value}{pv:PV}(rv:Rep X cf h pv v):∀{ns:aY}{es:List DictEntry}{l:au},jy ns es->aO X cf h l (es.map (·.val))->
  aO X cf h (eT x pv ns l).2 ((putL (Sx x) hsh (.str (Sx x) tk) v es).map (·.val)):=by
 intro ns
 induction ns with
 |nil=>
  intro es l hk r;rw[xM hk]at r⊢
  induction l using b9 with
  |nil=>simp only[rz,rt,putL,List.map_cons,List.map_nil];exact aO.fD rv aO.gk
  |cons p l=>obtain⟨_,_,e,_,_⟩:=r;injection e
 |cons n ns ih=>
  intro es l hk r;refine t9 (uD hk) λe rr t aR hke hr=>?_;clear hk;subst aR
  induction l using b9 with
  |nil=>exact absurd r<|tJ _ _
  |cons p l=>
   rw[fK]at r;obtain⟨w,u,he,r1,r2⟩:=r;refine U1 (q4 he) λaT aL=>?_;clear he;subst aT;subst aL;simp only[rz,rt,putL,hke,xN];by_cases jV:n=x
   ·refine rR (bw jV)<|rR (bw<|by simpa using jV) ?_
    exact aO.fD rv r2
   ·refine rR (bO jV)<|rR (bO<|by simpa using jV) ?_
    exact aO.fD r1<|ih hr r2
theorem YJ{ns:aY}{es:List DictEntry}(h:jy ns es):es.length=ns.length:=by refine aC h λts h1 h2=>?_;have:=congrArg List.length h1;simpa[h2]using this
theorem JQ{x:String}:∀{ns:aY}{l:au},l.length=ns.length->ns.contains x=true->∃pw,fW x ns l=some pw
 |[],_,_,h=>by simp at h
 |k::ks,[],h,_=>by simp at h
 |k::ks,w::ws,h,hx=>by
  simp only[fW];by_cases hkx:k=x
  ·exact⟨w,by exact rR (bw hkx) rfl⟩
  ·refine rR (bO hkx) ?_;refine JQ (by simpa using h) ?_;simpa[List.contains_cons,Ne.symm hkx]using hx
set_option tactic.hygienic true in
theorem YK{Kt:Type}[DecidableEq Kt](kvs:List<|Kt×Value)(k:Kt)(v:Value)(y:Kt):valueAt (stored kvs k v) y=if y=k then some v else valueAt kvs y:=by
 have A:∀l:List<|Kt×Value,y≠k->valueAt (l.map λkv=>if kv.1=k then(kv.1,v)else kv) y=valueAt l y:=λl hy=>by
  induction l with
  |nil=>rfl
  |cons p r ih=>
   rw[l_,l_]at ih⊢;obtain⟨a,b⟩:=p;by_cases ha:a=k
   ·simp only[List.map_cons,if_pos ha,List.lookup_cons,show(y==a)=false by simpa usingλe=>hy<|e.trans ha];exact ih
   ·simp only[List.map_cons,if_neg ha,List.lookup_cons];by_cases uO:y=a
    ·simp[uO]
    ·simp only[show(y==a)=false by simpa using uO];exact ih
 have B:∀l:List<|Kt×Value,l.any (λkv=>kv.1=k)=true->valueAt (l.map λkv=>if kv.1=k then(kv.1,v)else kv) k=some v:=λl hl=>by
  induction l with
  |nil=>exact nB hl
  |cons p r ih=>
   rw[l_]at ih⊢;obtain⟨a,b⟩:=p;by_cases ha:a=k
   ·simp[ha]
   ·simp only[List.map_cons,if_neg ha,List.lookup_cons,show(k==a)=false by simpa usingλe=>ha e.symm];exact ih<|by simpa[ha]using hl
 unfold stored;split
 ·rename_i h;by_cases hy:y=k
  ·refine rR (bw hy)<|rR hy ?_;exact B _ h
  ·refine rR (bO hy) ?_;exact A _ hy
 ·rename_i h;have C:∀l:List<|Kt×Value,¬l.any (λkv=>kv.1=k)=true->valueAt (l++[(k,v)]) y=if y=k then some v else valueAt l y:=λl hl=>by
   induction l with
   |nil=>
    rw[l_,l_];by_cases hy:y=k
    ·simp[hy]
    ·simp[List.lookup_cons,hy,show(y==k)=false by simpa using hy]
   |cons p r ih=>
    rw[l_,l_]at ih⊢;obtain⟨a,b⟩:=p;have ha:a≠k:=λe=>hl<|by simp[e]
    have hr:¬r.any (λkv=>kv.1=k)=true:=λe=>hl<|by simp only[List.any_cons,e,Bool.or_true]
    simp only[List.cons_append,List.lookup_cons];by_cases uO:y=a
    ·clear hl;subst uO;simp[ha]
    ·simp only[show(y==a)=false by simpa using uO];exact ih hr
  exact C _ h
section
variable {X:Cx}{d:Nat}{A:Around}{cf:Cf}{s:Shared}{E:cJ}{R:Unit->Shared->Prop}{v vo vi:Value}{p:PV}
theorem YL{n:Nat}{c x:String}{ns:aY}{l:au}{pv:PV}(T:eK X)(S:aU X cf s.heap)(hn:cf.H[n]?=some (some<|.n c ns l))(ro:Rep X cf s.heap (.e n) vo)(rv:Rep X cf s.heap pv v)(ho:storeOk X c x)(hz:ns.length<100)
  (q:∀aI s',Step cf s aI s'->aU X aI s'.heap->aI.H=cf.H.set n (some<|.n c (eT x pv ns l).1 (eT x pv ns l).2)->R () s'):wpAny (model X.prog X.w) A (setAttr vo (Sx x) v) R E s:=by
 obtain⟨pp,e2,rfl⟩:=ro;obtain⟨hne,C,es,m,hc,g1,g2,hk,rl⟩:=S.rep n _ pp hn e2;refine Fb ho λC' hc' h1 h2 h3 h4=>?_;rw[hc]at hc';obtain rfl:=aK hc';have hl:=YJ hk;have jd:l.length=ns.length:=by have:=rl.length;simpa[hl]using this.symm
 have hg:(getL (Sx x) es).isSome=true:=by
  by_cases hx:ns.contains x=true
  ·have this:=JQ jd hx;refine X1 this λpw ya=>?_;refine aC (B6 hk rl ya) λw hw U=>?_;refine rR hw ?_;rfl
  ·refine rR (Jl hk<|by simpa using hx) ?_;rfl
 refine YG (qe T S) g1 g2 h1 h2 h3 h4 hg (Qi hz hl) λh' t hsh tk hd hkeep=>?_;have k:∀b o,b≠pp.1->b≠pp.2->s.heap.get? b=some o->h'.get? b=some o:=λb o U h2 e=>hkeep b o h2 e;have K:=xC (.n c (eT x pv ns l).1 (eT x pv ns l).2) S hn e2 k;have z:=xD (t:=t) (eV:=.n c (eT x pv ns l).1 (eT x pv ns l).2) S hn e2 k
  ⟨hne,C,putL (Sx x) hsh (.str (Sx x) tk) v es,putN (Sx x) es m,hc,hkeep _ _ (Ne.symm hne) g1,hd,(YH pv hk).resolve_right λh=>h jd,(YI rv hk rl).mono K _⟩
 exact q _ _ z.1 z.2 rfl
theorem size_set{n j:Nat}{l:au}{vs:dg}(r:aO X cf s.heap l vs.toList){pv:PV}(rv:Rep X cf s.heap pv v):aO X cf s.heap (l.set j pv) (vs.setIfInBounds j v).toList:=by refine rR Array.toList_setIfInBounds ?_;exact r.set rv j
theorem YM{n j:Nat}{l:au}{k:Int}{pv:PV}(S:aU X cf s.heap)(hn:cf.H[n]?=some (some<|.l l))(ro:Rep X cf s.heap (.e n) vo)(ri:Rep X cf s.heap (.i k) vi)(rv:Rep X cf s.heap pv v)(hj:gx k l.length=some j)
  (q:∀aI s',Step cf s aI s'->aU X aI s'.heap->aI.H=cf.H.set n (some<|.l<|l.set j pv)->R () s'):wpAny (model X.prog X.w) A (setItem vo vi v) R E s:=by
 refine kE (rO S hn ro) λa vs m aM hl hz rl=>?_;subst aM;refine X1 ri λt aP=>?_;clear ri;subst aP;have e1:vs.size=l.length:=by have:=rl.length;simpa using this
 have hk:small k:=Jh hj<|FQ hz e1
 refine YF hl hk (by refine rR e1 ?_;exact hj) ?_;have hp:(s.heap.update a (Obj.mapSeq (·.setIfInBounds j v))).PlainList a (vs.setIfInBounds j v):=⟨_,PySem.IsL.update hl _⟩
 refine U2 (xO (t:=s.toks) (l':=l.set j pv) S hn ro hp (Heap.SameBut.update ..) (by refine rR Array.size_setIfInBounds ?_;exact hz)<|size_set (n:=n) rl rv) λst2 S2 K2=>?_;exact q _ _ st2 S2 rfl
theorem YN{n m:Nat}{f:Int->bK}{k i:Int}(S:aU X cf s.heap)(hn:cf.H[n]?=some (some<|.i m f))(ro:Rep X cf s.heap (.e n) vo)(ri:Rep X cf s.heap (.i k) vi)(rv:Rep X cf s.heap (.i i) v)(hm:m<2^20)
  (q:∀aI s',Step cf s aI s'->aU X aI s'.heap->aI.H=cf.H.set n (some (.i (m+1) λx=>if x=k then some i else f x))->R () s'):wpAny (model X.prog X.w) A (setItem vo vi v) R E s:=by
 obtain⟨pp,e2,rfl⟩:=ro;refine X1 ri λt aN=>?_;clear ri;subst aN;refine X1 rv λu aQ=>?_;clear rv;subst aQ;obtain⟨he,hs,kvs,hd,hl,hi⟩:=S.rep n _ pp hn e2;refine wpAny_setItem_pairs (knd:=intKind X.prog X.w) (k:=k) (by simp[PySem.intKind,Value.isInt]) hd (λh' hd' hs'=>?_)<|iO<|Qj hm hl
 have k':∀b o,b≠pp.1->b≠pp.2->s.heap.get? b=some o->h'.get? b=some o:=λb o h1 U e=>hs'.extBut b o h1 e;have hval:∀y,valueAt (stored kvs k<|Value.int i u) y=if y=k then some (Value.int i u)else valueAt kvs y:=λy=>YK ..
 have z:=xD (t:=s.toks+1) (eV:=.i (m+1) λx=>if x=k then some i else f x) S hn e2 k'
  ⟨he,hs,_,hd',eR (stored_length_le _ _ _)<|FW hl,λy=>by
   rw[hval];by_cases hy:y=k
   ·simp only[if_pos hy];exact⟨u,rfl⟩
   ·simp only[if_neg hy];exact hi y⟩
 exact q _ _ z.1 z.2 rfl
end
end
section
theorem YO{Kt:Type}[DecidableEq Kt]{a k:Kt}{b v:Value}{r:List<|Kt×Value}(h:a≠k):stored ((a,b)::r) k v=(a,b)::stored r k v:=by
 unfold stored;simp only[List.any_cons,decide_eq_false h,Bool.false_or];split
 ·simp[h]
 ·rfl
theorem YQ{Kt:Type}[DecidableEq Kt]{k:Kt}{b v:Value}{r:List<|Kt×Value}(h:k∉r.map (·.1)):stored ((k,b)::r) k v=(k,v)::r:=by
 unfold stored;simp only[List.any_cons,decide_true,Bool.true_or,if_true,List.map_cons];congr 1
 induction r with
 |nil=>rfl
 |cons p r ih=>
  have h1:p.1≠k:=λe=>h<|by simp[e]
  simp only[List.map_cons,if_neg h1];exact rR (ih λhm=>h<|by rw[fK];exact dh _ hm) rfl
theorem YR{X:Cx}{cf:Cf}{h:Heap}{x:String}{v:Value}{pv:PV}(rv:Rep X cf h pv v):∀{ks:aY}{vals:cz}{l:au},vals.length=ks.length->aO X cf h l vals->(((ks.map Sx).zip vals).map (·.1)).Nodup->
  ∃vals',stored ((ks.map Sx).zip vals) (Sx x) v=((eT x pv ks l).1.map Sx).zip vals'/\vals'.length=(eT x pv ks l).1.length/\aO X cf h (eT x pv ks l).2 vals':=by
 intro ks
 induction ks with
 |nil=>
  intro vals l hl r U
  induction vals using b9 with
  |cons _ _=>simp at hl
  |nil=>
   induction l using b9 with
   |nil=>exact cM [v] rfl rfl<|aO.fD rv aO.gk
   |cons p l=>obtain⟨_,_,e,_,_⟩:=r;injection e
 |cons k ks ih=>
  intro vals l hl r hn
  induction vals using b9 with
  |nil=>simp at hl
  |cons w vals=>
   induction l using b9 with
   |nil=>exact absurd r<|tJ _ _
   |cons p l=>
    obtain⟨w',u,he,r1,r2⟩:=r;refine U1 (q4 he) λaR aT=>?_;clear he;subst aR;subst aT;simp only[List.map_cons,List.zip_cons_cons]at hn⊢;refine U1 (kC.mp hn) λhn1 hn2=>?_;by_cases hkx:k=x
    ·clear ih;subst hkx;simp only[rz,rt,if_pos rfl];exact cM (v::vals) (by refine rR (YQ hn1) ?_;rfl) (by simpa using hl)<|aO.fD rv r2
    ·simp only[rz,rt,if_neg hkx];refine c_ (ih (by simpa using hl) r2 hn2) λvals' e1 e2 e3=>?_;exact cM (w::vals') (by refine rR (YO λe=>hkx<|lq e)<|rR e1 ?_;rfl) (by simpa using e2)<|aO.fD r1 e3
section
variable {X:Cx}{d:Nat}{A:Around}{cf:Cf}{s:Shared}{E:cJ}{R:Unit->Shared->Prop}{v vo vi:Value}{p:PV}
theorem YS{prog:Program}{w:World}{Kt:Type}[DecidableEq Kt]{knd:KeyKind prog w Kt}{h:Heap}{a:Addr}{f:List<|Kt×Value}(x:h.DictOf knd a f):(f.map (·.1)).Nodup:=t_ x λU U U U U U U U n=>n
theorem YT{n:Nat}{ks:aY}{l:au}{x:String}{pv:PV}(S:aU X cf s.heap)(hn:cf.H[n]?=some (some<|.s ks l))(ro:Rep X cf s.heap (.e n) vo)(ri:Rep X cf s.heap (.s x) vi)(rv:Rep X cf s.heap pv v)(hm:ks.length<1000)
  (q:∀aI s',Step cf s aI s'->aU X aI s'.heap->aI.H=cf.H.set n (some<|.s (eT x pv ks l).1 (eT x pv ks l).2)->R () s'):wpAny (model X.prog X.w) A (setItem vo vi v) R E s:=by
 obtain⟨pp,e2,rfl⟩:=ro;refine X1 ri λt aL=>?_;clear ri;subst aL;obtain⟨he,hs,vals,hd,hl,rl⟩:=S.rep n _ pp hn e2;refine wpAny_setItem_pairs (knd:=strKind X.prog X.w) (k:=Sx x) (by simp[PySem.strKind,Value.isStrOf]) hd (λh' hd' hs'=>?_)<|iO<|by(refine rR List.length_zip ?_;rewrite[bI]);exact Qk hm
 have k':∀b o,b≠pp.1->b≠pp.2->s.heap.get? b=some o->h'.get? b=some o:=λb o h1 U e=>hs'.extBut b o h1 e;refine c_ (YR (x:=x) rv hl rl<|YS hd) λvals' e1 xE e3=>?_;rw[e1]at hd';have K:=xC (.s (eT x pv ks l).1 (eT x pv ks l).2) S hn e2 k';have z:=xD (t:=s.toks+1) (eV:=.s (eT x pv ks l).1 (eT x pv ks l).2) S hn e2 k' ⟨he,hs,vals',hd',xE,e3.mono K _⟩;exact q _ _ z.1 z.2 rfl
theorem YU{po pi pv:PV}{H':ak}(S:aU X cf s.heap)(ro:Rep X cf s.heap po vo)(ri:Rep X cf s.heap pi vi)(rv:Rep X cf s.heap pv v)(h:rE cf.H po pi pv=some H')
  (q:∀aI s',Step cf s aI s'->aU X aI s'.heap->aI.H=H'->R () s'):wpAny (model X.prog X.w) A (setItem vo vi v) R E s:=by
 refine Hj h λn en h=>?_;subst en;refine bG h λo ho h=>?_;refine bG h λao hn h=>?_;subst hn
 induction ao using AO.casesOn with
 |l l=>
  refine nA h λk ek h=>?_;subst ek;refine gY h λj hj e=>?_;clear h;clear h;subst e;exact YM S ho ro ri rv hj q
 |i m f=>
  refine nA h λk ek h=>?_;refine nA h λj ej h=>?_;subst ek ej;refine qa h λhm e=>?_;clear h;clear h;obtain rfl:=aK e;exact YN S ho ro ri rv hm q
 |s ks l=>
  refine Hi h λx ex h=>?_;subst ex;refine qa h λhm e=>?_;clear h;clear h;obtain rfl:=aK e;exact YT S ho ro ri rv hm q
 |n c ns l=>exact nN h
end
section
variable {X:Cx}{d:Nat}{aa:Env}{ai:b5}{ae:bF}{H:ak}{Q:SP}{cf aI:Cf}{s s' s'':Shared}
theorem YV{o i value:Expr}{p pos:Pos}(hs:swapsWith value (some<|.Subscript o i p) pos.line aa=pure false)
  (h:AE X d aa ai ae value H λv H'=>AE X d aa ai ae o H' λvo c8=>AE X d aa ai ae i c8 λvi H3=>∃H4,rE H3 vo vi v=some H4/\Q .n ae H4):
  gq X d aa ai ae (.Assign [.Subscript o i p] value pos) H Q:=λA cf s E hA hH S R=>by
 refine wpAny_Assign_Subscript ?_ hs;refine bz (h A cf s E hA hH S R) (λv s₁ y=>?_) λU U y=>y;obtain⟨aS,pv,gI,S₁,r,q⟩:=y;have cI:=R.step S gI;refine bz (q A aS s₁ E hA rfl S₁ cI) (λvo s₂ y=>?_) λU U y=>y;obtain⟨gy,po,cU,S₂,ro,q⟩:=y;have fN:=cI.step S₁ cU;refine bz (q A gy s₂ E hA rfl S₂ fN) (λvi s₃ y=>?_) λU U y=>y;obtain⟨mu,pi,fO,fE,ri,H4,e4,q⟩:=y;have my:=fN.step S₂ fO;refine YU fE (ro.mono<|fO.kept S₂.own) ri ((r.mono<|cU.kept S₁.own).mono<|fO.kept S₂.own) e4 λaI s' st' S' e'=>?_;have ST:=((gI.trans S.own cU).trans S.own fO).trans S.own st';exact⟨aI,.n,ae,ST.toF,S',my.step fE st',rfl,e'.symm▸q⟩
theorem YW{o value:Expr}{x:String}{p pos:Pos}(T:eK X)(hs:swapsWith value (some<|.Attribute o (Sx x) p) pos.line aa=pure false)
  (h:AE X d aa ai ae value H λv H'=>AE X d aa ai ae o H' λvo c8=>∃n c ns l,vo=.e n/\c8[n]?=some (some<|.n c ns l)/\storeOk X c x/\ns.length<100/\Q .n ae (c8.set n<|some<|.n c (eT x v ns l).1 (eT x v ns l).2)):
  gq X d aa ai ae (.Assign [.Attribute o (Sx x) p] value pos) H Q:=λA cf s E hA hH S R=>by
 refine plainObj_wpAny_Assign_Attribute ?_ hs;refine bz (h A cf s E hA hH S R) (λv s₁ y=>?_) λU U y=>y;obtain⟨aS,pv,gI,S₁,r,q⟩:=y;have cI:=R.step S gI;refine bz (q A aS s₁ E hA rfl S₁ cI) (λvo s₂ y=>?_) λU U y=>y;obtain⟨gy,po,cU,S₂,ro,n,c,ns,l,rfl,hn,hso,hz,q⟩:=y;have fN:=cI.step S₁ cU;refine YL T S₂ hn ro (r.mono<|cU.kept S₁.own) hso hz λaI s' st' S' e'=>?_;have ST:=(gI.trans S.own cU).trans S.own st';exact⟨aI,.n,ae,ST.toF,S',fN.step S₂ st',rfl,e'.symm▸q⟩
noncomputable def r8(e:Expr):Bool:=!(e.ctorIdx.beq 8||e.ctorIdx.beq 9||e.ctorIdx.beq 10)
theorem JR{e:Expr}(h:r8 e=true)(t:Option Expr)(l:Nat):swapsWith e t l aa=pure false:=by
 unfold swapsWith
 induction e using Expr.casesOn<;>first|rfl|exact nB h
noncomputable def notName(e:Expr):Bool:=!(Nat.beq e.ctorIdx 23)
theorem Cy{e t:Expr}(h:notName t=true)(l:Nat):swapsWith e (some t) l aa=pure false:=by
 unfold swapsWith
 induction e using Expr.casesOn<;>first|rfl|(induction t using Expr.casesOn<;>first|rfl|exact nB h)
theorem YX{e:Expr}{pos:Pos}(hc:r8 e=true)(h:AE X d aa ai ae e H λv H'=>Q .n ae H'):gq X d aa ai ae (.Expr e pos) H Q:=λA cf s E hA hH S R=>by
 have hi:interactive aa=false:=by unfold interactive;refine rR R.kind ?_;rfl
 show wpAny _ A (do
  standAt pos
  if interactive aa then printExpr (eval e aa)
  else if<-swapsWith e none pos.line aa then do evalThenUse e aa λU=>point;pure .next
  else do dropValue e pos (<-eval e aa)) _ E s
 refine rR hi ?_;rewrite[JR hc];refine a_<|wpAny_standAt ?_
 refine rR (bO<|by decide) ?_;refine a_<|cF ?_
 refine rR (bO<|by decide) ?_;refine a_ (bz (h A cf s E hA hH S R) (λv s₁ y=>?_) λU U y=>y);obtain⟨aS,pv,st,S₁,r,q⟩:=y;exact wpAny_dropValue ⟨aS,.n,ae,st.toF,S₁,R.step S st,rfl,q⟩
end
end
section
section
variable {X:Cx}{d:Nat}{G:Addr->Prop}{aa:Env}{ai:b5}{ae:bF}{H:ak}{Q:SP}{cf aI:Cf}{s s' s'':Shared}
inductive jW (G:Addr->Prop)(ai:b5)(aa:Env):bL->aG->aY->Prop
 |nil:jW G ai aa [] [] []
 |cons {x:String} {p:Pos} {i:Nat} {es:bL} {is:aG} {xs:aY} (h1:ai[i]?=some (some x)) (h2:aa.kindOf (Sx x)=some .local\/aa.kindOf (Sx x)=some .cell) (h3:kN aa G x) (r:jW G ai aa es is xs):
   jW G ai aa (.Name (Sx x) p::es) (i::is) (x::xs)
inductive je (X:Cx)(G:Addr->Prop)(ai:b5)(aa:Env):List (Value->Sem Unit)->aG->Prop
 |nil:je X G ai aa [] []
 |cons {f:Value->Sem Unit} {x:String} {i:Nat} {fs:List<|Value->Sem Unit} {is:aG} (h1:ai[i]?=some (some x)) (h2:aa.kindOf (Sx x)=some .local\/aa.kindOf (Sx x)=some .cell)
   (h3:∀{A:Around}{E:cJ}{s:Shared}{K:Unit->Shared->Prop}{v:Value},wpAny (model X.prog X.w) A (storeName aa (Sx x) v) K E s->wpAny (model X.prog X.w) A (f v) K E s)
   (h4:kN aa G x) (r:je X G ai aa fs is):je X G ai aa (f::fs)<|i::is
theorem je.length{fs:List<|Value->Sem Unit}{is:aG}(h:je X G ai aa fs is):fs.length=is.length:=by
 induction h with
 |nil=>rfl
 |cons _ _ _ _ _ ih=>simp[ih]
theorem je.append{fs gs:List<|Value->Sem Unit}{is js:aG}(h:je X G ai aa fs is)(h':je X G ai aa gs js):je X G ai aa (fs++gs) (is++js):=by
 induction h with
 |nil=>exact h'
 |cons a b c g _ ih=>exact .cons a b c g ih
theorem je.reverse{fs:List<|Value->Sem Unit}{is:aG}(h:je X G ai aa fs is):je X G ai aa fs.reverse is.reverse:=by
 induction h with
 |nil=>exact .nil
 |cons a b c g _ ih=>refine rR pS<|rR pS ?_;exact ih.append<|.cons a b c g .nil
theorem jW.YY{es:bL}{is:aG}{xs:aY}(h:jW G ai aa es is xs):je X G ai aa ((assignEach es aa).map (·.2)) is/\(assignEach es aa).findIdx? (·.1)=none/\(assignEach es aa).length=is.length:=by
 induction h with
 |nil=>exact⟨.nil,rfl,rfl⟩
 |@cons x p i es is xs h1 h2 h3 r ih=>
  have e:assignEach (.Name (Sx x) p::es) aa=(false,assign (.Name (Sx x) p) aa)::assignEach es aa:=rfl;refine rR e ?_;refine⟨.cons h1 h2 (λh=>assign_Name h) h3 ih.1,?_,by simp[ih.2.2]⟩;rw[List.findIdx?_cons];simp[ih.2.1]
theorem jW.binds{es:bL}{is:aG}{xs:aY}(h:jW G ai aa es is xs):je X G ai aa (xs.map λx=>bindName aa<|Sx x) is:=by
 induction h with
 |nil=>exact .nil
 |cons h1 h2 h3 r ih=>exact .cons h1 h2 (λh=>bindName_ h) h3 ih
theorem JS:∀(is:aG)(vs:au)(ae:bF)(i:Nat)(v:PV),is.length=vs.length->bx (is++[i]) (vs++[v]) ae=(bx is vs ae).set i (some v)
 |[],[],ae,i,v,_=>rfl
 |j::is,w::vs,ae,i,v,h=>JS is vs (ae.set j<|some w) i v<|by simpa using h
 |[],_::_,_,_,_,h=>by simp at h
 |_::_,[],_,_,_,h=>by simp at h
theorem JT:∀(is:aG)(vs:au)(ae:bF)(i:Nat)(v:PV),i∉is->bx is vs (ae.set i<|some v)=(bx is vs ae).set i (some v)
 |[],vs,ae,i,v,_=>by induction vs using b9<;>rfl
 |j::is,[],ae,i,v,h=>rfl
 |j::is,w::vs,ae,i,v,h=>by
  have h1:i≠j:=λe=>h<|e▸cR
  simp only[bx];exact rR (List.set_comm _ _ h1)<|rR (JT is vs _ i v λhm=>h<|dh _ hm) rfl
theorem JU:∀(is:aG)(vs:au)(ae:bF),is.Nodup->is.length=vs.length->bx is.reverse vs.reverse ae=bx is vs ae
 |[],vs,ae,_,_=>by induction vs using b9<;>simp[bx]
 |i::is,[],ae,_,h=>by simp at h
 |i::is,v::vs,ae,hn,h=>by
  refine U1 (kC.mp hn) λh1 h2=>?_;refine rR pS<|rR pS<|rR (JS _ _ _ _ _ (by simpa using h))<|rR (JU is vs ae h2<|by simpa using h) ?_
  simp only[bx];exact rR (JT is vs ae i v h1) rfl
theorem stores{A:Around}{E:cJ}(hN:d8 ai)(hG:∀b,G b->cN aa b){fs:List<|Value->Sem Unit}{is:aG}(h:je X G ai aa fs is):∀{jX:au}{vs:cz}{ae:bF}{s:Shared}{K:Unit->Shared->Prop},
  aO X cf s.heap jX vs->aU X cf s.heap->cK X cf aa ai ae s.heap->fs.length=vs.length->(∀s',dH G cf s cf s'->aU X cf s'.heap->cK X cf aa ai (bx is jX ae) s'.heap->K () s')->wpAny (model X.prog X.w) A (assignInOrder fs vs) K E s:=by
 induction h with
 |nil=>
  intro jX vs ae s K r S R hl k
  induction vs using b9 with
  |nil=>
   refine cF<|k s (dH.refl _ _) S ?_
   clear k r
   induction jX using b9<;>exact R
  |cons _ _=>simp at hl
 |@cons f x i fs is h1 h2 h3 h4 _ ih=>
  intro jX vs ae s K r S R hl k
  induction vs using b9 with
  |nil=>simp at hl
  |cons v vs=>
   induction jX using b9 with
   |nil=>exact absurd r<|tJ _ _
   |cons p jX=>
    obtain⟨w,u,he,r1,r2⟩:=r;refine U1 (q4 he) λaM aP=>?_;clear he;subst aM;subst aP;refine a_<|wpAny_holding<|h3 (Cw hN h1 h2 h4 S R r1 λh' st S' R' t=>?_)
    have st':dH G cf s cf {s with heap:=h',toks:=t}:=⟨I2 h' t rfl,st.keep,st.avoid,st.fresh,st.owned,st.refs⟩
    have r2':aO X cf h' jX vs:=r2.mono (st.kept S λb hb=>cN.of R<|hG b hb) jX;refine ih (s:={s with heap:=h',toks:=t}) r2' S' R' (by simpa using hl) λs₂ cU S₂ fN=>k s₂ (st'.trans S S' (λb hb=>cN.of R<|hG b hb) cU) S₂ fN
theorem c5.extBut{h h':Heap}(x:Heap.ExtBut h.objs.size h h'):c5 h h':=λb o e=>x b o (gP<|fJ e) e
theorem JV{A:Around}{E:cJ}{K:cz->Shared->Prop}{l:au}{v:Value}(hA:c7 d A)(S:aU X cf s.heap)(R:cK X cf aa ai ae s.heap)(r:Rep X cf s.heap (.t l) v)
  (k:∀vs s',Step cf s cf s'->aU X cf s'.heap->aO X cf s'.heap l vs->K vs s'):wpAny (model X.prog X.w) A (unpackItems v l.length none) K E s:=by
 obtain⟨a,vs,rfl,_,ht,hz,rl⟩:=r;have e1:vs.size=l.length:=by have:=rl.length;simpa using this
 refine rL e1 ?_;refine PyProof.Rows.unpackItems_tuple hA.hh ht λh' hx=>?_;have g:=c5.extBut hx;exact k _ _ (Step.grown (t:=s.toks) g) (S.grown g) (rl.grown g)
theorem JW{A:Around}{E:cJ}{K:Unit->Shared->Prop}{elts:bL}{is:aG}{xs:aY}{k:Nat}{p:Pos}{l:au}{v:Value}(hN:d8 ai)(hG:∀b,G b->cN aa b)(ht:jW G ai aa elts is xs)(hl:is.length=l.length)
  (hA:c7 d A)(S:aU X cf s.heap)(R:cK X cf aa ai ae s.heap)(r:Rep X cf s.heap (.t l) v)
  (q:∀s',dH G cf s cf s'->aU X cf s'.heap->cK X cf aa ai (bx is l ae) s'.heap->K () s'):wpAny (model X.prog X.w) A (assign (.Tuple elts k p) aa v) K E s:=by
 refine U2 (ht.YY (X:=X)) λh1 h2 h3=>?_;show wpAny _ A (do standAt p;unpack v (assignEach elts aa)) K E s;refine a_<|wpAny_standAt ?_
 unfold unpack;refine rR h2<|rR h3<|rR hl ?_
 refine a_<|wpAny_holding (JV hA S R r λvs s₁ st S₁ rl=>?_)
 refine stores hN hG h1 rl S₁ (R.step S st) ?_ λs₂ cU S₂ fN=>q s₂ (st.toF.trans S S₁ (λb hb=>cN.of R<|hG b hb) cU) S₂ fN;refine rR rl.length<|rL hl ?_
 rewrite[bI];exact rR h3 rfl
theorem YZ{value:Expr}{elts:bL}{is:aG}{xs:aY}{k:Nat}{p pos:Pos}(hN:d8 ai)(ht:jW (cN aa) ai aa elts is xs)(hd:is.Nodup)
  (hw:swappedStores [.Tuple elts k p] value aa=pure none\/swappedStores [.Tuple elts k p] value aa=pure (some<|xs.map Sx))
  (h:AE X d aa ai ae value H λv H'=>∃l,v=.t l/\is.length=l.length/\Q .n (bx is l ae) H'):gq X d aa ai ae (.Assign [.Tuple elts k p] value pos) H Q:=λA cf s E hA hH S R=>by
 have hs:swapsWithSole [.Tuple elts k p] value pos.line aa=pure false:=by show swapsWith value (some<|.Tuple elts k p) pos.line aa=pure false;exact Cy (by rfl) _
 rcases hw with hw|hw
 ·refine PyProof.Rows.Assign_Tuple ?_ hs hw;refine bz (h A cf s E hA hH S R) (λv s₁ y=>?_) λU U y=>y;obtain⟨aS,pv,st,S₁,r,l,rfl,hl,q⟩:=y;refine JW hN (λU h=>h) ht hl hA S₁ (R.step S st) r λs₂ cU S₂ fN=>?_;exact⟨aS,.n,_,st.toF.trans S S₁ (λb=>cN.of R) cU,S₂,fN,rfl,q⟩
 ·refine PyProof.Rows.Assign_Tuple_swapped ?_ hs hw;refine bz (h A cf s E hA hH S R) (λv s₁ y=>?_) λU U y=>y;obtain⟨aS,pv,st,S₁,r,l,rfl,hl,q⟩:=y;have cI:=R.step S st;have hb:=ht.binds (X:=X);have JX:xs.length=is.length:=by have:=hb.length;simpa using this
  rewrite[bI];refine rR JX<|rR hl ?_
  refine JV hA S₁ cI r λvs s₂ cU S₂ rl=>?_;have e:((xs.map Sx).reverse.map λn=>bindName aa n)=(xs.map λx=>bindName aa<|Sx x).reverse:=by refine rL tR<|rR i6<|rL tR ?_;rfl
  refine rR e ?_;refine stores hN (λU h=>h) hb.reverse rl.reverse S₂ (cI.step S₁ cU) (by(refine rR List.length_reverse<|rR List.length_reverse ?_;rewrite[bI];exact rR rl.length<|rR JX<|rR hl rfl)) λs₃ fO fE my=>?_;rw[JU _ _ _ hd hl]at my;exact⟨aS,.n,_,(st.trans S.own cU).toF.trans S S₂ (λb=>cN.of R) fO,fE,my,rfl,q⟩
end
end
section
section
variable {X:Cx}{F:Addr->Prop}{cf aI nv:Cf}{s s' s'':Shared}
theorem dH.JY{W:List Addr}(S:aU X cf s.heap)(S':aU X aI s'.heap)(hF:∀b,F b->cf.O b/\¬Own cf b)(hW:∀b∈W,s.heap.get? b=none)(x:dH F cf s aI s')(y:dH (λb=>F b\/b∈W) aI s' nv s''):dH F cf s nv s'':=by
 have nw:∀b o,¬Own cf b->s.heap.get? b=some o->¬Own aI b:=λb o hb e hw=>by
  rcases x.owned b hw with h|h
  ·exact hb h
  ·rw[h]at e;exact nN e
 have back:∀b,s'.heap.get? b=none->Own cf b\/s.heap.get? b=none:=λb h'=>by
  by_cases hb:Own cf b
  ·exact .inl hb
  ·by_cases hf:F b
   ·refine X1 (S.here b (hF b hf).1) λo e=>?_;refine X1 (S'.here b<|x.avoid b o (hF b hf).1 hb e) λo' e'=>?_;rw[h']at e';exact nN e'
   ·cases e:s.heap.get? b with
    |none=>exact .inr rfl
    |some o=>rw[x.keep b o hb hf e]at h';exact sN h'
 refine⟨?_,λb o hb hf e=>y.keep b o (nw b o hb e) (λh=>h.elim hf λhw=>by rw[hW b hw]at e;exact nN e)<|x.keep b o hb hf e,λb o h hb e=>?_,λb h=>?_,λb h=>?_,λn p h=>y.refs n p<|x.refs n p h⟩
 ·(refine X2 x.same λh1 t1 aN=>?_;clear S' x back;subst aN)
  refine X2 y.same λh2 t2 aQ=>?_;clear y;subst aQ;exact I2 h2 t2 rfl
 ·have h1:=x.avoid b o h hb e;refine X1 (S'.here b h1) λo' e'=>?_;exact y.avoid b o' h1 (nw b o hb e) e'
 ·rcases y.fresh b h with h'|h'
  ·exact x.fresh b h'
  ·exact(back b h').imp (S.own b) id
 ·rcases y.owned b h with h'|h'
  ·exact x.owned b h'
  ·exact back b h'
theorem cK.qj{aa:Env}{ai:b5}{ae:bF}(x:cK X cf aa ai ae s.heap)(S:aU X cf s.heap)(st:dH F cf s aI s')(hF:∀b,F b->cf.O b/\¬Own cf b)(hE:∀b,F b->¬cN aa b):cK X aI aa ai ae s'.heap:=by
 refine d_ x.vals λm cm hn hc hv=>?_;have K:=st.kept S hF;have nL:¬Own cf aa.locals:=λq=>(x.off _ q).1 rfl;have nC:∀n c,(n,c)∈aa.cells->¬Own cf c:=λn c hm q=>(x.off _ q).2 n c hm rfl;have fL:¬F aa.locals:=λq=>hE _ q (.inl rfl);have fC:∀n c,(n,c)∈aa.cells->¬F c:=λn c hm q=>hE _ q (.inr ⟨n,hm⟩);refine X1 (S.here _ x.av) λoL eL=>?_;refine⟨x.kind,x.glob,x.blt,st.avoid _ _ x.av nL eL,λn c hm=>⟨?_,(x.iu n c hm).2⟩,x.apart,x.oF,λb hb=>?_,m,cm,hn.at' λo e=>st.keep _ o nL fL e,λn c hl=>?_,λi y pv hi hp=>?_⟩
 ·refine X1 (S.here _ (x.iu n c hm).1) λo e=>?_;exact st.avoid _ _ (x.iu n c hm).1 (nC n c hm) e
 ·rcases st.owned b hb with h|h
  ·exact x.off b h
  ·refine⟨λe=>?_,λn c hm e=>?_⟩
   ·rw[e,eL]at h;exact sN h
   ·refine X1 (S.here _ (x.iu n c hm).1) λo e2=>?_;rw[e,e2]at h;exact sN h
 ·refine aC (hc n c hl) λo e d=>?_;exact aA o (st.keep _ o (nC n c<|iG hl) (fC n c<|iG hl) e) d
 ·refine aC (hv i y pv hi hp) λv r h=>?_;exact aA v (r.mono K) h
theorem aU.qj{h h':Heap}(S:aU X cf h)(hk:∀b o,¬F b->h.get? b=some o->h'.get? b=some o)(hF:∀b,F b->cf.O b/\¬Own cf b)(hl:∀b,F b->∃o,h'.get? b=some o):aU X cf h':=by
 have K:Kept cf h cf h':=⟨λb o hb e=>hk b o (λq=>hb (hF b q).1) e,λU U h U=>h,λU U h=>h⟩
 refine⟨S.len,λn ao p e1 e2=>?_,S.own,S.inj,λb hb=>?_,λb o e=>?_⟩
 ·exact(S.rep n ao p e1 e2).mono K (λo e=>hk _ o (λq=>(hF _ q).2 ⟨n,ao,p,e1,e2,.inl rfl⟩) e) λo e=>hk _ o (λq=>(hF _ q).2 ⟨n,ao,p,e1,e2,.inr rfl⟩) e
 ·by_cases hf:F b
  ·exact hl b hf
  ·refine X1 (S.here b hb) λo e=>?_;exact⟨o,hk b o hf e⟩
 ·refine U1 (S.base b o e) λe1 e2=>?_;exact⟨hk b o (λq=>e2 (hF b q).1) e1,e2⟩
end
structure Tn (X:Cx)(A:Around)(target:Expr)(I:Addr)(fp wr:List Addr)(n:Nat)(IR:Nat->Value->Heap->Heap->Prop)(Md:Nat->Value->Heap->Prop)(St:Nat->Heap->Prop):Prop where
 sub:∀b∈wr,b∈fp
 frame:∀i h h',St i h->(∀b∈fp,∀o,h.get? b=some o->h'.get? b=some o)->St i h'
 live:∀i h,St i h->∀b∈fp,∃o,h.get? b=some o
 r9:∀i v h,Md i v h->∀b∈wr,∃o,h.get? b=some o
 item:∀i (s:Shared)(Q:Option Value->Shared->Prop)(E:cJ),i<n->St i s.heap->
  (∀v h' tk,Md i v h'->IR i v s.heap h'->(∀b o,b∉wr->s.heap.get? b=some o->h'.get? b=some o)->Q (some v) {s with heap:=h',toks:=tk})->wpAny (model X.prog X.w) A (pyNext<|.ref I) Q E s
 go:∀i v (s:Shared)(Q:Unit->Shared->Prop)(E:cJ),Md i v s.heap->
  (∀h',St (i+1) h'->(∀b o,b∉wr->s.heap.get? b=some o->h'.get? b=some o)->Q () {s with heap:=h'})->wpAny (model X.prog X.w) A (letOwnedTupleGo target (.ref I) v) Q E s
 done:∀(s:Shared)(Q:Option Value->Shared->Prop)(E:cJ),St n s.heap->
  (∀h' tk,(∀b o,b∉wr->s.heap.get? b=some o->h'.get? b=some o)->Q none {s with heap:=h',toks:=tk})->wpAny (model X.prog X.w) A (pyNext<|.ref I) Q E s
 self:∀i (s:Shared)(Q E:cJ),St i s.heap->Q (.ref I) s->wpAny (model X.prog X.w) A (pyIter<|.ref I) Q E s
def Cz(X:Cx)(items:au)(n:Nat)(src:au)(fP:cz)(IR:Nat->Value->Heap->Heap->Prop):Prop:=
 items.length=n/\∀(i:Nat)(cf:Cf)(h h':Heap)(v:Value),aO X cf h src fP->(∀b,cf.O b->∃o,h.get? b=some o)->Kept cf h cf h'->IR i v h h'->∃p,items[i]?=some p/\Rep X cf h' p v
theorem Tn.ofWalks{X:Cx}{A:Around}{target:Expr}{I:Addr}{fp wr:List Addr}{n:Nat}{P:Nat->Value->Prop}{St:Nat->Heap->Prop}(W:Walks X.prog X.w A I fp wr n P St)(live:∀i h,St i h->∀b∈fp,∃o,h.get? b=some o)
  (hgo:∀i v (s:Shared) (Q:Unit->Shared->Prop) (E:cJ),St i s.heap->Q () s->wpAny (model X.prog X.w) A (letOwnedTupleGo target (.ref I) v) Q E s):
  Tn X A target I fp wr n (λi v U U=>P i v) (λi v h=>P i v/\St (i+1) h) St where
 sub:=W.sub
 frame:=W.frame
 live:=live
 r9:=λi v h hm b hb=>live _ _ hm.2 b (W.sub b hb)
 item:=λi s Q E hi st hQ=>W.item i s Q E hi st λv h' tk hP st' hk=>hQ v h' tk ⟨hP,st'⟩ hP hk
 go:=λi v s Q E hm hQ=>hgo (i+1) v s Q E hm.2 (hQ s.heap hm.2 λU U U e=>e)
 done:=W.done
 self:=W.self
theorem Tn.JZ{X:Cx}{A:Around}{elts:bL}{k:Nat}{pos:Pos}{I:Addr}{fp wr:List Addr}{n:Nat}{Pt:Nat->dg->Prop}{St:Nat->Heap->Prop}{Mid:Nat->Addr->Heap->Prop}(W:WalksT X.prog X.w A I fp wr n Pt St Mid)
  (live:∀i h,St i h->∀b∈fp,∃o,h.get? b=some o)(r9:∀i T h,Mid i T h->∀b∈wr,∃o,h.get? b=some o):
  Tn X A (.Tuple elts k pos) I fp wr n (λi v h h'=>∃T vals,v=.ref T/\Pt i vals/\h.objs.size<=T/\h'.IsTuple T vals) (λi v h=>∃T vals,v=.ref T/\Pt i vals/\h.IsTuple T vals/\Mid i T h) St where
 sub:=W.sub
 frame:=W.frame
 live:=live
 r9:=λi v h hm b hb=>by(revert hm;refine Fo λT vals aR U U hm=>?_;subst aR);exact r9 _ _ _ hm b hb
 item:=λi s Q E hi st hQ=>W.item i s Q E hi st λT vals h' tk hP Y0 hT hm hk=>hQ (.ref T) h' tk (fy T vals rfl hP hT hm) (fy T vals rfl hP Y0 hT) hk
 go:=λi v s Q E hm hQ=>by revert hm;refine Fo λT vals aT hP hT hm=>?_;subst aT;exact W.go elts k pos i T s Q E hm hQ
 done:=W.done
 self:=W.self
structure LI (X:Cx)(F:Addr->Prop)(cf:Cf)(s:Shared)(fp W:List Addr)(St:Nat->Heap->Prop)(i:Nat)(cD:Cf)(si:Shared):Prop where
 st:dH F cf s cD si
 sim:aU X cD si.heap
 w:∀b∈W,cD.O b/\¬Own cD b
 m:St i si.heap
structure mF (X:Cx)(F:Addr->Prop)(cf:Cf)(s:Shared)(fp W:List Addr):Prop where
 sim:aU X cf s.heap
 fr:∀b,F b->cf.O b/\¬Own cf b
 new:∀b∈W,s.heap.get? b=none
 old:∀b∈fp,b∈W\/((∃o,s.heap.get? b=some o)/\¬cf.O b)
noncomputable def iA(cf:Cf)(W:List Addr):Cf:={cf with O:=λb=>cf.O b\/b∈W}
noncomputable def oW(cf:Cf)(W:List Addr):Cf:={cf with O:=λb=>cf.O b/\b∉W}
section
variable {X:Cx}{F:Addr->Prop}{cf aI cD:Cf}{s s' si:Shared}{fp W wr:List Addr}{St:Nat->Heap->Prop}{i n:Nat}
theorem aside{h':Heap}{t:Nat}(S:aU X cf s.heap)(g:c5 s.heap h')(new:∀b∈W,s.heap.get? b=none)(live:∀b∈W,∃o,h'.get? b=some o):
  Step cf s (iA cf W) {s with heap:=h',toks:=t}/\aU X (iA cf W) h'/\(∀b∈W,(iA cf W).O b/\¬Own (iA cf W) b):=by
 have own:∀b,Own (iA cf W) b↔Own cf b:=λb=>Iff.rfl;have K:Kept cf s.heap (iA cf W) h':=⟨λb o U e=>g b o e,λb o hb e h=>h.elim hb λhw=>(by rw[new b hw]at e;exact nN e),λU U h=>h⟩
 refine⟨⟨I2 h' t rfl,λb o U e=>g b o e,λb o h U U=>.inl h,λb h=>h.elim .inl λhw=>.inr<|new b hw,λb h=>.inl h,λU U h=>h⟩,
  ⟨S.len,λn ao p e1 e2=>(S.rep n ao p e1 e2).mono K (g _)<|g _,λb h=>.inl<|S.own b h,S.inj,λb h=>?_,λb o e=>?_⟩,λb hb=>⟨.inr hb,λh=>?_⟩⟩
 ·rcases h with h|h
  ·refine X1 (S.here b h) λo e=>?_;exact⟨o,g b o e⟩
  ·exact live b h
 ·refine U1 (S.base b o e) λe1 e2=>?_;exact⟨g b o e1,λh=>h.elim e2 λhw=>by rw[new b hw]at e1;exact nN e1⟩
 ·refine X1 (S.here b<|S.own b h) λo e=>?_;rw[new b hb]at e;exact nN e
theorem LI.start{h':Heap}{t:Nat}(B:mF X F cf s fp W)(g:c5 s.heap h')(live:∀b∈W,∃o,h'.get? b=some o)(m:St 0 h'):LI X F cf s fp W St 0 (iA cf W) {s with heap:=h',toks:=t}:=
 let ⟨a,b,c⟩:=aside (t:=t) B.sim g B.new live
 ⟨a.toF,b,c,m⟩
theorem LI.body{G:Addr->Prop}(B:mF X F cf s fp W)(L:LI X F cf s fp W St i cD si)(live:∀i h,St i h->∀b∈fp,∃o,h.get? b=some o)(frame:∀i h h',St i h->(∀b∈fp,∀o,h.get? b=some o->h'.get? b=some o)->St i h')
  (hW:∀b∈W,∃o,si.heap.get? b=some o)(hG:∀b,G b->F b\/b∈W)(Y3:∀b∈fp,¬G b)(st:dH G cD si aI s')(S':aU X aI s'.heap):LI X F cf s fp W St i aI s':=by
 refine⟨L.st.JY B.sim L.sim B.fr B.new ⟨st.same,λb o h1 h2 e=>st.keep b o h1 (λq=>h2<|hG b q) e,st.avoid,st.fresh,st.owned,st.refs⟩,S',λb hb=>?_,frame _ _ _ L.m λb hb o e=>?_⟩
 ·refine X1 (hW b hb) λo e=>?_;exact⟨st.avoid b o (L.w b hb).1 (L.w b hb).2 e,λh=>(st.owned b h).elim (L.w b hb).2 λq=>by rw[q]at e;exact nN e⟩
 ·refine st.keep b o (λh=>?_) (Y3 b hb) e;rcases B.old b hb with hw|⟨⟨o',e'⟩,hO⟩
  ·exact(L.w b hw).2 h
  ·rcases L.st.owned b h with q|q
   ·exact hO<|B.sim.own b q
   ·rw[q]at e';exact nN e'
theorem LI.draw{A:Around}{target:Expr}{I:Addr}{IR:Nat->Value->Heap->Heap->Prop}{Md:Nat->Value->Heap->Prop}{items src:au}{fP:cz}{E K:cJ}{Kn:Shared->Prop}
  (T:Tn X A target I fp wr n IR Md St)(hwr:∀b∈wr,b∈W)(hs:Cz X items n src fP IR)(B:mF X F cf s fp W)(L:LI X F cf s fp W St i cD si)(hW:∀b∈W,∃o,si.heap.get? b=some o)(hi:i<n)(rs:aO X cD si.heap src fP)
  (k:∀v p s₂,items[i]?=some p->dH (λb=>b∈wr) cD si cD s₂->aU X cD s₂.heap->Rep X cD s₂.heap p v->LI X F cf s fp W St (i+1) cD s₂->(∀b∈W,∃o,s₂.heap.get? b=some o)->K v s₂):
  wpAny (model X.prog X.w) A (pyNext<|.ref I) (λr s₁=>match r with
   |none=>Kn s₁
   |some v=>wpAny (model X.prog X.w) A (letOwnedTupleGo target (.ref I) v) (λU s₂=>K v s₂) E s₁) E si:=by
 have wO:∀b,b∈wr->cD.O b/\¬Own cD b:=λb hb=>L.w b<|hwr b hb
 refine T.item i si _ E hi L.m λv h' tk hm Y4 hk=>?_;have S₁:aU X cD h':=L.sim.qj (F:=λb=>b∈wr) (λb o hb e=>hk b o hb e) wO λb hb=>T.r9 _ _ _ hm b hb;have K₁:Kept cD si.heap cD h':=⟨λb o hb e=>hk b o (λq=>hb (wO b q).1) e,λU U h U=>h,λU U h=>h⟩
 refine aC (hs.2 i cD si.heap h' v rs (λb hb=>L.sim.here b hb) K₁ Y4) λp hp rp=>?_;refine T.go i v {si with heap:=h',toks:=tk} _ E hm λh'' st' hk'=>?_;have lv:=T.live _ _ st';have S₂:aU X cD h'':=S₁.qj (F:=λb=>b∈wr) (λb o hb e=>hk' b o hb e) wO λb hb=>lv b<|T.sub b hb
 have K₂:Kept cD h' cD h'':=⟨λb o hb e=>hk' b o (λq=>hb (wO b q).1) e,λU U h U=>h,λU U h=>h⟩
 have stp:dH (λb=>b∈wr) cD si cD {si with heap:=h'',toks:=tk}:=⟨I2 h'' tk rfl,λb o U hb e=>hk' b o hb<|hk b o hb e,λU U h U U=>h,λU h=>.inl h,λU h=>.inl h,λU U h=>h⟩
 have Y5:∀b∈W,∃o,h''.get? b=some o:=λb hb=>by
  by_cases hw:b∈wr
  ·exact lv b<|T.sub b hw
  ·refine X1 (hW b hb) λo e=>?_;exact⟨o,hk' b o hw<|hk b o hw e⟩
 refine k v p _ hp stp S₂ (rp.mono K₂) ⟨?_,S₂,L.w,st'⟩ Y5;exact L.st.JY B.sim L.sim B.fr B.new ⟨stp.same,λb o h1 h2 e=>stp.keep b o h1 (λq=>h2<|.inr<|hwr b q) e,stp.avoid,stp.fresh,stp.owned,stp.refs⟩
theorem LI.drop{h':Heap}{t:Nat}(B:mF X F cf s fp W)(L:LI X F cf s fp W St i cD si)(hk:∀b o,b∉W->si.heap.get? b=some o->h'.get? b=some o):
  dH F cf s (oW cD W) {si with heap:=h',toks:=t}/\aU X (oW cD W) h'/\Kept cD si.heap (oW cD W) h':=by
 have K:Kept cD si.heap (oW cD W) h':=⟨λb o hb e=>hk b o (λq=>hb (L.w b q).1) e,λb o hb U h=>hb h.1,λU U h=>h⟩
 have nw:∀b o,s.heap.get? b=some o->b∉W:=λb o e hw=>by rw[B.new b hw]at e;exact nN e
 refine⟨⟨?_,λb o h1 h2 e=>hk b o (nw b o e)<|L.st.keep b o h1 h2 e,λb o h1 h2 e=>⟨L.st.avoid b o h1 h2 e,nw b o e⟩,λb h=>L.st.fresh b h.1,λb h=>L.st.owned b h,L.st.refs⟩,
  ⟨L.sim.len,λn ao p e1 e2=>?_,λb h=>⟨L.sim.own b h,λq=>(L.w b q).2 h⟩,L.sim.inj,λb h=>?_,λb o e=>?_⟩,K⟩
 ·(refine X2 L.st.same λh1 t1 aL=>?_;clear L hk K;subst aL)
  exact I2 h' t rfl
 ·exact(L.sim.rep n ao p e1 e2).mono K (λo e=>hk _ o (λq=>(L.w _ q).2 ⟨n,ao,p,e1,e2,.inl rfl⟩) e) λo e=>hk _ o (λq=>(L.w _ q).2 ⟨n,ao,p,e1,e2,.inr rfl⟩) e
 ·refine X1 (L.sim.here b h.1) λo e=>?_;exact⟨o,hk b o h.2 e⟩
 ·refine U1 (L.sim.base b o e) λe1 e2=>?_;exact⟨hk b o (λq=>e2 (L.w b q).1) e1,λh=>e2 h.1⟩
theorem cK.drop{aa:Env}{ai:b5}{ae:bF}{h h':Heap}(x:cK X cD aa ai ae h)(K:Kept cD h (oW cD W) h')(hk:∀b o,b∉W->h.get? b=some o->h'.get? b=some o)(hE:∀b∈W,¬cN aa b):cK X (oW cD W) aa ai ae h':=by
 refine d_ x.vals λm cm hn hc hv=>?_;have nL:aa.locals∉W:=λq=>hE _ q (.inl rfl);have nC:∀n c,(n,c)∈aa.cells->c∉W:=λn c hm q=>hE _ q (.inr ⟨n,hm⟩);refine⟨x.kind,x.glob,x.blt,⟨x.av,nL⟩,λn c hm=>⟨⟨(x.iu n c hm).1,nC n c hm⟩,(x.iu n c hm).2⟩,x.apart,x.oF,x.off,m,cm,hn.at' λo e=>hk _ o nL e,λn c hl=>?_,λi y pv hi hp=>?_⟩
 ·refine aC (hc n c hl) λo e d=>?_;exact aA o (hk _ o (nC n c<|iG hl) e) d
 ·refine aC (hv i y pv hi hp) λv r h=>?_;exact aA v (r.mono K) h
end
end
section
inductive nH (X:Cx)(A:Around)(target:Expr)(cf:Cf)(s:Shared)(P:au->ak->Prop)(it:Value)(s₂:Shared):Prop
 |mk (aS:Cf) (s₁:Shared) (items:au) (I:Addr) (fp wr W:List Addr) (n:Nat) (IR:Nat->Value->Heap->Heap->Prop) (Md:Nat->Value->Heap->Prop) (St:Nat->Heap->Prop) (src:au) (fP:cz) (h₂:Heap) (t₂:Nat)
  (e1:it=.ref I) (e2:s₂={s₁ with heap:=h₂,toks:=t₂}) (w1:∀b∈wr,b∈W) (w2:∀b∈W,b∈fp) (J0:n<=2^20) (T:Tn X A target I fp wr n IR Md St) (hs:Cz X items n src fP IR) (st:Step cf s aS s₁) (S:aU X aS s₁.heap) (g:c5 s₁.heap h₂) (new:∀b∈W,s₁.heap.get? b=none)
  (old:∀b∈fp,b∈W\/((∃o,s₁.heap.get? b=some o)/\¬aS.O b)) (m0:St 0 h₂) (r:aO X aS s₁.heap src fP) (p:P items aS.H):nH X A target cf s P it s₂
noncomputable def jY(X:Cx)(d:Nat)(aa:Env)(ai:b5)(ae:bF)(target iter:Expr)(H:ak)(P:au->ak->Prop):Prop:=
 ∀A cf s E,c7 d A->cf.H=H->aU X cf s.heap->cK X cf aa ai ae s.heap->
  wpAny (model X.prog X.w) A (eval iter aa) (λxv s₁=>wpAny (model X.prog X.w) A (pyIter xv) (λit s₂=>nH X A target cf s P it s₂) E s₁) E s
inductive mG (G:Addr->Prop)(ai:b5)(aa:Env):Bool->aG->Expr->Prop
 |name {i:Nat} {x:String} {p:Pos} (h1:ai[i]?=some (some x)) (h2:aa.kindOf (Sx x)=some .local\/aa.kindOf (Sx x)=some .cell) (h3:kN aa G x):mG G ai aa false [i]<|.Name (Sx x) p
 |tup {is:aG} {elts:bL} {xs:aY} {k:Nat} {p:Pos} (h:jW G ai aa elts is xs):mG G ai aa true is<|.Tuple elts k p
def r_(X:Cx)(d:Nat)(aa:Env)(ai:b5)(tp:Bool)(tgt:aG)(body:List Stmt)(Q:SP):au->bF->ak->Prop
 |[],ae,H=>Q .n ae H
 |x::r,ae,H=>∃cZ,iw tp tgt x ae=some cZ/\iQ X d aa ai cZ body H (λf nI H'=>match f with
   |.n=>r_ X d aa ai tp tgt body Q r nI H'
   |.c=>r_ X d aa ai tp tgt body Q r nI H'
   |.b=>Q .n nI H'
   |.r v=>Q (.r v) nI H')
section
variable {X:Cx}{d:Nat}{aa:Env}{ai:b5}{ae cZ:bF}{H:ak}{Q:SP}{cf aI:Cf}{s s' s'':Shared}
theorem J1{G:Addr->Prop}{tp:Bool}{tgt:aG}{target:Expr}{A:Around}{E:cJ}{K:Unit->Shared->Prop}{p:PV}{v:Value}(hN:d8 ai)(hG:∀b,G b->cN aa b)(ht:mG G ai aa tp tgt target)(hA:c7 d A)(S:aU X cf s.heap)(R:cK X cf aa ai ae s.heap)
  (r:Rep X cf s.heap p v)(h:iw tp tgt p ae=some cZ)(q:∀s',dH G cf s cf s'->aU X cf s'.heap->cK X cf aa ai cZ s'.heap->K () s'):wpAny (model X.prog X.w) A (assign target aa v) K E s:=by
 cases ht with
 |@name i x pp h1 h2 h3=>
  have h:=aK h;subst h;refine assign_Name (Cw hN h1 h2 h3 S R r λh' st S' R' t=>q _ ⟨I2 h' t rfl,st.keep,st.avoid,st.fresh,st.owned,st.refs⟩ S' R')
 |@tup is elts xs k pp ht=>
  refine xw h λl el h=>?_;subst el;refine qa h λhl e=>?_;clear h;clear h;obtain rfl:=aK e;exact JW hN hG ht hl hA S R r q
theorem Y6{A:Around}{target:Expr}{it:Value}{body:List Stmt}{R:Result->Shared->Prop}(I:Nat->Shared->Prop)
  (turn:∀n s,I n s->∀(J:Flow->Shared->Prop) (E:cJ),(∀f m s,f=.next\/f=.cont->m<n->I m s->J f s)->(∀s,R (.ok .next) s->J .brk s)->(∀v s,R (.ok<|.ret v) s->J (.ret v) s)->
   wpAny (model X.prog X.w) A (pyNext it) (λr s₁=>match r with
   |none=>R (.ok .next) s₁
   |some v=>wpAny (model X.prog X.w) A (letOwnedTupleGo target it v) (λU s₁'=>wpAny (model X.prog X.w) A (assign target aa v) (λU s₂=>wpAny (model X.prog X.w) A (execs body aa) J E s₂) E s₁') E s₁) E s)
  (n:Nat)(h:I n s):codeAny (model X.prog X.w) A (.forLoop target it body [] aa) R s:=by
 refine codeAny_forLoop_any I (λn s hI=>?_) n h
 refine bz (turn n s hI (λf s=>match f with
  |.next|.cont=>∃m,m<n/\I m s
  |.brk=>R (.ok .next) s
  |.ret v=>R (.ok<|.ret v) s) _ (λf m s h hm hi=>by rcases h with rfl|rfl<;>exact aA m hm hi) (λU h=>h) (λU U h=>h)) (λr s₁ h=>?_) λU U h=>h
 induction r using e9 with
 |none=>exact wpAny_execs_nil h
 |some v=>exact h
inductive FL (X:Cx)(d:Nat)(aS:Cf)(s₁:Shared)(fp W:List Addr)(St:Nat->Heap->Prop)(aa:Env)(ai:b5)(src:au)(fP:cz)(n:Nat)(ok:au->bF->ak->Prop)(items:au)(k:Nat)(s':Shared):Prop
 |mk (cD:Cf) (cZ:bF) (i:Nat) (L:LI X (cN aa) aS s₁ fp W St i cD s') (R:cK X cD aa ai cZ s'.heap) (r:aO X cD s'.heap src fP) (lv:∀b∈W,∃o,s'.heap.get? b=some o) (hi:i<=n) (hk:k=n+1-i) (ho:ok (items.drop i) cZ cD.H):FL X d aS s₁ fp W St aa ai src fP n ok items k s'
theorem Y7{tp:Bool}{tgt:aG}{target iter:Expr}{body:List Stmt}{pos:Pos}(hN:d8 ai)(ht:mG (cN aa) ai aa tp tgt target)(hs:∀x,foldedSetIterable iter aa x=pure x)
  (h:jY X d aa ai ae target iter H λitems H'=>r_ X d aa ai tp tgt body Q items ae H'):gq X d aa ai ae (.For target iter body [] pos) H Q:=λA cf s E hA hH S R=>by
 refine wpAny_For (bz (h A cf s E hA hH S R) (λxv sx y=>bz y (λit s₂ y=>?_) λU U y=>y) λU U y=>y) hs;obtain⟨aS,s₁,items,I,fp,wr,W,n,IR,Md,St,src,fP,h₂,t₂,rfl,rfl,oX,uP,se,T,qk,gI,S₁,g,new,old,m0,yb,J2⟩:=y;have cI:=R.step S gI;have B:mF X (cN aa) aS s₁ fp W:=⟨S₁,λb=>cN.of cI,new,old⟩
 have nE:∀b∈W,¬cN aa b:=λb hb hf=>by refine X1 (S₁.here b (cN.of cI hf).1) λo e=>?_;rw[new b hb]at e;exact nN e
 have J3:∀b∈fp,¬cN aa b:=λb hb hf=>(old b hb).elim (λhw=>nE b hw hf) λho=>ho.2 (cN.of cI hf).1;have yc:∀b∈W,∃o,h₂.get? b=some o:=λb hb=>T.live _ _ m0 b (uP b hb);refine U2 (aside (t:=t₂) S₁ g new yc) λa1 a2 a3=>?_;refine Y6 (FL X d aS s₁ fp W St aa ai src fP n (r_ X d aa ai tp tgt body Q) items) ?_ (n+1) ⟨_,ae,0,LI.start B g yc m0,cI.step S₁ a1,yb.mono (a1.kept S₁.own) src,yc,iF _,rfl,J2⟩;have mid:=λcf s=>gI.toF.trans (nv:=cf) (s'':=s) S S₁ λb=>cN.of R;clear a1 a2 a3 m0 yb J2 gI g yc se uP;rintro k si ⟨cD,CA,i,L,Ri,ri,lv,hin,rfl,ho⟩ J E' j1 j2 j3;by_cases hlt:i<n
 ·refine bz (LI.draw (Kn:=λs₁=>kM X aa ai cf s Q .next s₁) (K:=λv s₂=>wpAny (model X.prog X.w) A (assign target aa v) _ _ s₂) T oX qk B L lv hlt ri λv p s₂ hp stp S₂ rp L₂ yd=>?_) (λr s' y=>by induction r using e9<;>exact y) λU U y=>y;have ye:=Ri.qj L.sim stp (λb hb=>L.w b<|oX b hb) λb hb=>nE b<|oX b hb
  have ed:items.drop i=p::items.drop (i+1):=by
   have hl:i<items.length:=by refine rR qk.1 ?_;exact hlt
   refine rR (tL hl) ?_;rw[eE hl]at hp;exact rR (aK hp) rfl
  rw[ed]at ho;refine aC ho λuQ hst hb=>?_;have CB:=ri.mono (stp.kept L.sim λb hb=>L.w b<|oX b hb) src;refine J1 hN (λU h=>h) ht hA S₂ ye rp hst λs₃ fO fE my=>?_;have sf:=LI.body B L₂ T.live T.frame yd (λb hb=>.inl hb) J3 fO fE;have CC:∀b∈W,∃o,s₃.heap.get? b=some o:=λb hb=>fE.here b (sf.w b hb).1;refine bz (hb A cD s₃ E' hA rfl fE my) (λf s₄ y=>?_) λU U y=>y;obtain⟨aI,af,yf,ql,jE,qm,fr,q⟩:=y;have nJ:=LI.body B sf T.live T.frame CC (λb hb=>.inl hb) J3 ql jE;have nx:∀f,f=.next\/f=.cont->r_ X d aa ai tp tgt body Q (items.drop<|i+1) yf aI.H->J f s₄:=λf hf q=>j1 f (n+1-(i+1)) s₄ hf (z_ hlt) ⟨aI,yf,i+1,nJ,qm,(CB.mono (fO.kept S₂ λb=>cN.of ye) src).mono (ql.kept fE λb=>cN.of my) src,λb hb=>jE.here b (nJ.w b hb).1,hlt,rfl,q⟩
  induction af using dW.casesOn with
  |n=>
   obtain rfl:f=.next:=fr
   exact nx _ (.inl rfl) q
  |c=>
   obtain rfl:f=.cont:=fr;exact nx _ (.inr rfl) q
  |b=>
   obtain rfl:f=.brk:=fr;exact j2 _ ⟨aI,.n,yf,mid _ _ nJ.st,jE,qm,rfl,q⟩
  |r p'=>
   refine aC fr λv' aM rv=>?_;clear fr;subst aM;exact j3 _ _ ⟨aI,.r p',yf,mid _ _ nJ.st,jE,qm,aA v' rfl rv,q⟩
 ·obtain rfl:i=n:=FY hin hlt;refine T.done si _ _ L.m λh' tk hk=>?_;have hk':∀b o,b∉W->si.heap.get? b=some o->h'.get? b=some o:=λb o hb e=>hk b o (λq=>hb<|oX b q) e;refine U2 (LI.drop (t:=tk) B L hk') λsd Sd Kd=>?_;rw[List.drop_of_length_le<|by refine rR qk.1 ?_;exact bY _]at ho;exact⟨_,.n,CA,mid _ _ sd,Sd,Ri.drop Kd hk' nE,rfl,ho⟩
def uR(X:Cx)(d:Nat)(aa:Env)(ai:b5)(test:Expr)(body:List Stmt)(Q:SP):Nat->bF->ak->Prop
 |0,_,_=>False
 |n+1,ae,H=>AT X d aa ai ae test H (λb H'=>(b=true->iQ X d aa ai ae body H' (λf nI c8=>match f with
   |.n=>uR X d aa ai test body Q n nI c8
   |.c=>uR X d aa ai test body Q n nI c8
   |.b=>Q .n nI c8
   |.r v=>Q (.r v) nI c8))/\(b=false->Q .n ae H'))
theorem Y8{test:Expr}{body:List Stmt}{pos:Pos}{n:Nat}(h:uR X d aa ai test body Q n ae H):gq X d aa ai ae (.While test body [] pos) H Q:=λA cf s E hA hH S R=>by
 refine wpAny_While ?_;refine codeAny_whileLoop (λk s'=>∃cD cZ,dH (cN aa) cf s cD s'/\aU X cD s'.heap/\cK X cD aa ai cZ s'.heap/\uR X d aa ai test body Q k cZ cD.H) ?_ n<|fy cf ae (dH.refl _ _) S R<|hH▸h
 rintro k si ⟨cD,CA,Y9,Si,Ri,ho⟩
 induction k using gD with
 |zero=>exact ho.elim
 |succ k=>
  refine bz (ho A cD si _ hA rfl Si Ri) (λb s₁ y=>?_) λU U y=>y;obtain⟨aS,gI,S₁,q⟩:=y;have cI:=Ri.step Si gI;have go₁:=Y9.trans S Si (λb=>cN.of R) gI.toF
  induction b using cP with
  |false=>
   simp only[Bool.false_eq_true,if_false];exact wpAny_execs_nil ⟨aS,.n,CA,go₁,S₁,cI,rfl,q.2 rfl⟩
  |true=>
   simp only[if_true];refine bz (q.1 rfl A aS s₁ _ hA rfl S₁ cI) (λf s₂ y=>?_) λU U y=>y;obtain⟨gy,af,uQ,cU,S₂,fN,fr,q⟩:=y;have go₂:=go₁.trans S S₁ (λb=>cN.of R) cU
   induction af using dW.casesOn with
   |n=>
    obtain rfl:f=.next:=fr
    exact Fq k (Nat.lt_succ_self _) gy uQ go₂ S₂ fN q
   |c=>
    obtain rfl:f=.cont:=fr;exact Fq k (Nat.lt_succ_self _) gy uQ go₂ S₂ fN q
   |b=>
    obtain rfl:f=.brk:=fr;exact⟨gy,.n,uQ,go₂,S₂,fN,rfl,q⟩
   |r p'=>
    refine aC fr λv' aP rv=>?_;clear fr;subst aP;exact⟨gy,.r p',uQ,go₂,S₂,fN,aA v' rfl rv,q⟩
end
end
section
section
variable {X:Cx}{d:Nat}{aa:Env}{ai:b5}{ae:bF}{H:ak}
theorem J4{target iter:Expr}{P P':au->ak->Prop}(h:jY X d aa ai ae target iter H P)(m:∀p H,P p H->P' p H):jY X d aa ai ae target iter H P':=
 λA cf s E a b c f=>bz (h A cf s E a b c f) (λxv s₁ y=>bz y (λit s₂ y=>by
  obtain⟨aS,s₁,items,I,fp,wr,W,n,IR,Md,St,src,fP,h₂,t₂,e1,e2,w1,w2,w3,T,hs,st,S,g,n1,n2,m0,r,p⟩:=y
  exact⟨aS,s₁,items,I,fp,wr,W,n,IR,Md,St,src,fP,h₂,t₂,e1,e2,w1,w2,w3,T,hs,st,S,g,n1,n2,m0,r,m _ _ p⟩) λU U y=>y) λU U y=>y
theorem aO.at_{cf:Cf}{h:Heap}{l:au}{vs:cz}{i:Nat}{v:Value}(r:aO X cf h l vs)(e:vs[i]?=some v):∃p,l[i]?=some p/\Rep X cf h p v:=by
 have hi:i<l.length:=by refine rL r.length ?_;exact(List.getElem?_eq_some_iff.mp e).1
 refine aC (r.get<|eE hi) λw hw rw=>?_;rw[e]at hw;obtain rfl:=aK hw;exact aA _ (eE hi) rw
theorem lD{h:Heap}{i l:Addr}{k:Nat}(x:h.IsListIter i l k):∃o,h.get? i=some o:=let ⟨o,e,_⟩:=x;⟨o,e⟩
theorem Y_{h:Heap}{i l:Addr}{k:Nat}(x:h.IsTupleIter i l k):∃o,h.get? i=some o:=let ⟨o,e,_⟩:=x;⟨o,e⟩
section
variable {A:Around}{target:Expr}{cf aS:Cf}{s s₁:Shared}{P:au->ak->Prop}
theorem yg{I:Addr}{wr:List Addr}{n:Nat}{IR:Nat->Value->Heap->Heap->Prop}{Md:Nat->Value->Heap->Prop}{St:Nat->Heap->Prop}{items src:au}{fP:cz}{h₂:Heap}{t₂:Nat}(fr old:List Addr)(T:Tn X A target I (fr++old) wr n IR Md St)
  (hwr:∀b∈wr,b∈fr)(hfr:∀b∈fr,s₁.heap.objs.size<=b)(hold:∀b∈old,(∃o,s₁.heap.get? b=some o)/\¬aS.O b)(J0:n<=2^20)(hs:Cz X items n src fP IR)(st:Step cf s aS s₁)(S:aU X aS s₁.heap)(g:c5 s₁.heap h₂)(m0:St 0 h₂)(r:aO X aS s₁.heap src fP)(q:P items aS.H):
  nH X A target cf s P (.ref I) {s₁ with heap:=h₂,toks:=t₂}:=
 ⟨aS,s₁,items,I,fr++old,wr,fr,n,IR,Md,St,src,fP,h₂,t₂,rfl,rfl,hwr,λU=>q6 _,J0,T,hs,st,S,g,λb hb=>jB<|hfr b hb,λb hb=>(dR.mp hb).imp id<|hold b,m0,r,q⟩
theorem J5{a:Addr}{vs:dg}{l:au}{o:Obj}{St:Nat->Heap->Prop}(st:Step cf s aS s₁)(S:aU X aS s₁.heap)(rl:aO X aS s₁.heap l vs.toList)(hO:¬aS.O a)(ea:∃o,s₁.heap.get? a=some o)(hz:vs.size<=2^20)(q:P l aS.H)
  (W:Walks X.prog X.w A s₁.heap.objs.size [s₁.heap.objs.size,a] [s₁.heap.objs.size] vs.size (λi v=>vs[i]?=some v) St)(live:∀i h,St i h->∀b∈[s₁.heap.objs.size,a],∃o,h.get? b=some o)
  (hgo:∀i v (s':Shared) (Q:Unit->Shared->Prop) (E:cJ),St i s'.heap->Q () s'->wpAny (model X.prog X.w) A (letOwnedTupleGo target (.ref s₁.heap.objs.size) v) Q E s')(m0:St 0<|s₁.heap.push o):
  nH X A target cf s P (.ref s₁.heap.objs.size) {s₁ with heap:=s₁.heap.push o}:=
 yg (t₂:=s₁.toks) [s₁.heap.objs.size] [a] (Tn.ofWalks W live hgo) (λU h=>h) (mc (bY _) mz) (mc ⟨ea,hO⟩ mz) hz
  ⟨by refine rL rl.length ?_;rfl,λi cf h h' v r U K e=>let ⟨p,hp,rp⟩:=r.at_ (i:=i) (by rw[qV];exact e);(aA p hp<|rp.mono K)⟩ st S (c5.push _ _) m0 rl q
end
theorem Za{target iter:Expr}{P:au->ak->Prop}(h:AE X d aa ai ae iter H λv H'=>∃l,Am v=some l/\P l H'):jY X d aa ai ae target iter H P:=λA cf s E hA hH S R=>by
 refine bz (h A cf s E hA hH S R) (λv s₁ y=>?_) λU U y=>y;obtain⟨aS,pv,st,S₁,r,l,hl,q⟩:=y
 induction pv using d7 with
 |l l'=>
  obtain rfl:=aK hl;obtain⟨a,vs,rfl,hO,hpl,hz,rl⟩:=(show kI _ _ _ _ from r)
  have ea:=oE hpl;exact wpAny_pyIter_list hpl.isList<|J5 st S₁ rl hO ea hz q (Walks.list hA.hh s₁.heap.objs.size a (gP<|fJ ea.choose_spec) vs) (λi h st=>mc (lD st.1)<|mc (p9 st.2) mz) (λi v s Q E st q=>letGo_listiter st.1 q) ⟨cM _ (ik _ rfl) rfl rfl,hpl.isList.push _⟩
 |t l'=>
  obtain rfl:=aK hl;obtain⟨a,vs,rfl,hO,hpl,hz,rl⟩:=(show kI _ _ _ _ from r)
  have ea:=Al hpl;exact wpAny_pyIter_tuple hpl<|J5 st S₁ rl hO ea hz q (Walks.tuple hA.hh s₁.heap.objs.size a (gP<|fJ ea.choose_spec) vs) (λi h st=>mc (Y_ st.1)<|mc (Al st.2) mz) (λi v s Q E st q=>letGo_tupleiter st.1 q) ⟨cM _ (ik _ rfl) rfl rfl,G6 hpl λo e=>jq _ e⟩
 |_=>exact nomatch hl
theorem yh{f:String}{p pos:Pos}{args:bL}{v:Value}{P:au->ak->Prop}{A:Around}{cf:Cf}{s:Shared}{E K:cJ}(T:eK X)(e:gp X f v)(hv:(∃id,v=.builtin id)\/∃t,v=.type t)
  (hx:aa.kindOf (Sx f)=some .globalImplicit)(hd:(Sx f==("__debug__":Str))=false)(h2:args.all notStar=true)(h:fM X d aa ai ae args H P)
  (hA:c7 d A)(hH:cf.H=H)(S:aU X cf s.heap)(R:cK X cf aa ai ae s.heap)
  (op:∀aS s₁ vs ps,Step cf s aS s₁->aU X aS s₁.heap->cK X aS aa ai ae s₁.heap->aO X aS s₁.heap ps vs->P ps aS.H->wpAny (model X.prog X.w) A (call v vs []) K E s₁):
  wpAny (model X.prog X.w) A (eval (.Call (.Name (Sx f) p) args [] pos) aa) K E s:=by
 rw[arm_eval_Call_Name'];refine a_<|uG T e hx hd S R ?_
 show wpAny _ A (callWith pos v [] (backTo pos<|starEach args aa) []) _ E s;refine mq (P:=λU=>True) h2 (λh U=>?_) ?_
 ·clear e op;rcases hv with⟨id,rfl⟩|⟨t,rfl⟩
  ·exact oQ h trivial
  ·exact B8 h trivial
 ·refine bz (h A cf s E pos hA hH S R) (λvs s₁ y=>?_) λU U y=>y;obtain⟨aS,st,S₁,ps,rs,q⟩:=y;exact⟨trivial,op aS s₁ vs ps st S₁ (R.step S st) rs q⟩
theorem CD{A:Around}{target:Expr}{cf aS:Cf}{s s₁:Shared}{E:cJ}{P:au->ak->Prop}{a b c:Int}{t u v:Tok}{tk:Nat}{items:au}(hA:c7 d A)(st:Step cf s aS s₁)(S₁:aU X aS s₁.heap)(hsm:Builtin.Range.small a b c=true)
  (hn:∃n:Nat,Builtin.Range.rangeSize a b c=(n:Int)/\n<=2^20/\items=(List.range n).map λ(i:Nat)=>PV.i<|a+(i:Int)*c)(q:P items aS.H):
  wpAny (model X.prog X.w) A (pyIter<|.ref s₁.heap.objs.size) (λit s₂=>nH X A target cf s P it s₂) E
   {s₁ with heap:=s₁.heap.push {cls:=.type "range",data:=.fields #[.int a t,.int b u,.int c v]},toks:=tk}:=by
 revert hn;refine PC λn hn se aN=>?_;subst aN;have hr:IsRange (s₁.heap.push {cls:=.type "range",data:=.fields #[.int a t,.int b u,.int c v]}) s₁.heap.objs.size a b c t u v:=ik _ rfl;refine wpAny_pyIter_range hr hsm ?_;refine rR hn ?_;have hz:(s₁.heap.push {cls:=.type "range",data:=.fields #[.int a t,.int b u,.int c v]}).objs.size=s₁.heap.objs.size+1:=Heap.size_push ..;show nH X A target cf s P (.ref (s₁.heap.push {cls:=.type "range",data:=.fields #[.int a t,.int b u,.int c v]}).objs.size) _
 refine⟨aS,s₁,_,_,[s₁.heap.objs.size+1],[s₁.heap.objs.size+1],[s₁.heap.objs.size+1],n,λi v U U=>(∃t,v=.int (a+i*c) t)/\i<n,
  λi v h=>((∃t,v=.int (a+i*c) t)/\i<n)/\IsRangeIter h (s₁.heap.objs.size+1) (a+((i+1:Nat):Int)*c) ((n:Int)-((i+1:Nat):Int)) c,
  λi h=>IsRangeIter h (s₁.heap.objs.size+1) (a+(i:Nat)*c) ((n:Int)-(i:Nat)) c,[],[],_,tk,rfl,rfl,λb hb=>hb,λb hb=>hb,se,?_,⟨by simp,λi cf h h' v U U K e=>?_⟩,st,S₁,(c5.push _ _).trans<|c5.push _ _,λb hb=>?_,λb hb=>.inl hb,?_,aO.gk,q⟩
 ·refine rR hz ?_;have W:=Walks.range (prog:=X.prog) (w:=X.w) (A:=A) hA.hh (s₁.heap.objs.size+1) a c n;refine⟨W.sub,W.frame,λi h st b hb=>?_,λi v h hm b hb=>?_,λi s Q E hi st hQ=>W.item i s Q E hi st λv h' tk hP st' hk=>hQ v h' tk ⟨⟨hP,hi⟩,st'⟩ ⟨hP,hi⟩ hk,λi v s Q E hm hQ=>?_,W.done,W.self⟩
  ·refine rR (dO.mp hb) ?_;exact⟨_,st⟩
  ·refine rR (dO.mp hb) ?_;exact⟨_,hm.2⟩
  ·have st':=hm.2;unfold letOwnedTupleGo;have k:=hQ s.heap st' λU U U e=>e
   have kk:∀m:Sem Unit,m=(do
    let (.ref r,.ref a):=(Value.ref<|s₁.heap.objs.size+1,v)|return
    let o<-load r
    match o.cls,o.data with
    |.type n,.fields vs=>
     if["enumerate","zip","dict_itemiterator","dict_reverseitemiterator","odict_iterator","itertools.zip_longest","itertools.pairwise"].contains n&&vs[0]?==some (rawInt a)then
      rule "for.unpacks-the-owned-tuple"
      updateField r 0 .none
    |_,_=>pure ())->wpAny (model X.prog X.w) A m Q E s:=λm hm'=>by
    refine U1 hm λaQ U=>?_;revert aQ;refine V1 λaR U=>?_;revert aR;refine Y1 λtt aT=>?_;clear hm;subst aT;subst hm';exact cF k
   induction target using Expr.casesOn<;>first|exact kk _ rfl|exact cF k
 ·(refine U1 e λaL hi=>?_;revert aL;refine Y1 λt' aM=>?_;clear e;subst aM)
  exact aA (PV.i<|a+(i:Int)*c) (by simp[hi]) gm
 ·refine rR (dO.mp hb) ?_;exact jB<|Nat.le_succ _
 ·show IsRangeIter _ _ _ _ _;have:=ik (s₁.heap.push {cls:=.type "range",data:=.fields #[.int a t,.int b u,.int c v]}) (o:={cls:=.type "range_iterator",data:=.fields #[rawInt a,rawInt (n:Int),rawInt c]}) rfl;rw[hz]at this;simpa using this
theorem sj{i:Int}:cO i=true↔small i:=by simp[cO,small]
theorem J6{a b:Int}(h1:cO a=true)(h2:cO b=true)(h:b-a<=2^20):Builtin.Range.small a b 1=true/\∃n:Nat,Builtin.Range.rangeSize a b 1=(n:Int)/\n<=2^20/\fk a b=(List.range n).map λ(i:Nat)=>PV.i (a+(i:Int)*1):=by simp only[cO,Bool.and_eq_true,decide_eq_true_eq]at h1 h2;refine Fz (by simp[Builtin.Range.small,Builtin.Range.rangeFitsLong,Builtin.Range.rangeSize];(first|lia|omega)) ((b-a).toNat) (by simp[Builtin.Range.rangeSize];split<;>(first|lia|omega)) (GP h) ?_;simp[fk]
theorem Zb{a b:Int}(h1:cO a=true)(h2:cO b=true)(h:a-b<=2^20):Builtin.Range.small a b (-1)=true/\∃n:Nat,Builtin.Range.rangeSize a b (-1)=(n:Int)/\n<=2^20/\kK a b=(List.range n).map λ(i:Nat)=>PV.i (a+(i:Int)*(-1)):=by simp only[cO,Bool.and_eq_true,decide_eq_true_eq]at h1 h2;refine Fz (by simp[Builtin.Range.small,Builtin.Range.rangeFitsLong,Builtin.Range.rangeSize];(first|lia|omega)) ((a-b).toNat) (by simp[Builtin.Range.rangeSize];split<;>(first|lia|omega)) (GP h) ?_;simp[kK,Int.sub_eq_add_neg]
theorem CF{α:Type}{c:Bool}{x y:α}{G:Prop}(h:(if c=true then some x else none)=some y)(k:c=true->x=y->G):G:=by
 induction c using cP with
 |false=>exact nN h
 |true=>exact k rfl<|aK h
inductive yi (items:au):cz->Prop
 |one (a:Int) (t:Tok) (h1:cO a=true) (h2:a<=2^20) (e:fk 0 a=items):yi items [.int a t]
 |two (a b:Int) (t u:Tok) (h1:cO a=true) (h2:cO b=true) (h3:b-a<=2^20) (e:fk a b=items):yi items [.int a t,.int b u]
 |three (a b:Int) (t u v:Tok) (h1:cO a=true) (h2:cO b=true) (h3:cO (b-a)=true) (h4:a-b<=2^20) (e:kK a b=items):yi items [.int a t,.int b u,.int (-1) v]
theorem Zc{cf:Cf}{h:Heap}{ps items:au}{vs:cz}(hit:fb .r ps=some items)(rs:aO X cf h ps vs):yi items vs:=by
 induction ps using b9 with
 |nil=>exact nN hit
 |cons a r=>
 revert rs;refine xo a hit λa hit rs=>?_;obtain⟨v,rs',rfl,⟨t,rfl⟩,rs⟩:=rs
 induction r using b9 with
 |nil=>
  subst rs;refine CF hit λhb e=>?_;rw[cy,decide_eq_true_eq]at hb;exact .one a t hb.1 hb.2 e
 |cons b r=>
 revert rs;refine xo b hit λb hit rs=>?_;obtain⟨v,rs',rfl,⟨u,rfl⟩,rs⟩:=rs
 induction r using b9 with
 |nil=>
  subst rs;refine CF hit λhb e=>?_;rw[cy,cy,decide_eq_true_eq]at hb;exact .two a b t u hb.1.1 hb.1.2 hb.2 e
 |cons c r=>
 revert rs;refine xo c hit λc hit rs=>?_;obtain⟨v,rs',rfl,⟨y,rfl⟩,rs⟩:=rs
 induction r using b9 with
 |cons _ _=>exact nN hit
 |nil=>
  subst rs;refine CF hit λhb e=>?_;simp only[Bool.and_eq_true,decide_eq_true_eq]at hb;revert hb;refine V1 λhb aP=>?_;clear hit;subst aP;exact .three a b t u y hb.1.1.1 hb.1.1.2 hb.1.2 hb.2 e
theorem Zd{target:Expr}{p pos:Pos}{args:bL}{P:au->ak->Prop}(T:eK X)(e:gp X "range"<|.type "range")
  (hx:aa.kindOf (Sx "range")=some .globalImplicit)(hd:(Sx "range"==("__debug__":Str))=false)(h2:args.all notStar=true)
  (h:fM X d aa ai ae args H (λvs H'=>∃items,fb .r vs=some items/\P items H')):jY X d aa ai ae target (.Call (.Name (Sx "range") p) args [] pos) H P:=λA cf s E hA hH S R=>by
 refine yh T e (.inr ⟨_,rfl⟩) hx hd h2 h hA hH S R λaS s₁ vs ps st S₁ cI rs q=>?_;revert q;refine rj λitems hit q=>?_;cases Zc hit rs with
 |one a t h1 h2 e=>
  have z:=J6 (a:=0) (b:=a) (by decide) h1<|by rw[Int.sub_zero];exact h2
  exact call_range_1<|CD (tk:=s₁.toks+1+1) hA st S₁ z.1 (e▸z.2) q
 |two a b t u h1 h2 h3 e=>
  have z:=J6 h1 h2 h3;exact call_range_2<|CD (tk:=s₁.toks+1) hA st S₁ z.1 (e▸z.2) q
 |three a b t u v h1 h2 h3 h4 e=>
  have z:=Zb h1 h2 h4;exact call_range_3 (by decide) (CD (tk:=s₁.toks) hA st S₁ z.1 (e▸z.2) q)<|.inl<|Jf (sj.mp h3) ⟨by decide,by decide⟩
end
end
section
theorem J7{l:au}{i:Nat}{p:PV}(h:l[i]?=some p):(dU l)[i]?=some (.t [.i i,p]):=by simp[dU,h]
theorem J8{l r:au}{i:Nat}{p q:PV}(h:l[i]?=some p)(h':r[i]?=some q):(gZ l r)[i]?=some (.t [p,q]):=by unfold gZ;have:(l.zip r)[i]?=some (p,q):=List.getElem?_zip_eq_some.mpr ⟨h,h'⟩;rw[cQ,this];rfl
theorem yj{X:Cx}{cf:Cf}{h h':Heap}{T:Addr}{x y:Value}{p q:PV}(live:∀b,cf.O b->∃o,h.get? b=some o)(hT:h.objs.size<=T)(ht:h'.IsTuple T #[x,y])(rx:Rep X cf h' p x)(ry:Rep X cf h' q y):Rep X cf h' (.t [p,q]) (.ref T):=by refine⟨T,#[x,y],rfl,λhO=>?_,ht,by simp,aO.fD rx<|aO.fD ry aO.gk⟩;refine X1 (live T hO) λo e=>?_;exact absurd (fJ e)<|Nat.not_lt.mpr hT
section
variable {X:Cx}{d:Nat}{aa:Env}{ai:b5}{ae:bF}{H:ak}
theorem uS{cf:Cf}{h:Heap}{l:au}{v:Value}(r:Rep X cf h (.l l) v):∃a vs,v=.ref a/\¬cf.O a/\h.IsList a vs/\vs.size=l.length/\vs.size<=2^20/\aO X cf h l vs.toList/\∃o,h.get? a=some o:=by obtain⟨a,vs,rfl,hO,hpl,hz,rl⟩:=r;exact PL a vs rfl hO hpl.isList (by have:=rl.length;simpa using this) hz rl<|oE hpl
theorem J9{cf:Cf}{h:Heap}{l r:au}{xs:dg}{us:cz}{i:Nat}{v:Value}(rr:aO X cf h (l++r)<|xs.toList++us)(e:xs.size=l.length)(hx:xs[i]?=some v):∃p,l[i]?=some p/\Rep X cf h p v:=by have hi:=(Array.getElem?_eq_some_iff.mp hx).1;refine aC (rr.at_ (i:=i) (v:=v)<|by rw[iZ<|by refine rR qW ?_;exact hi,qV,hx]) λp hp q=>?_;rw[iZ<|e▸hi]at hp;exact aA p hp q
theorem J_{cf:Cf}{h:Heap}{l r:au}{xs ys:dg}{i:Nat}{v:Value}(rr:aO X cf h (l++r)<|xs.toList++ys.toList)(e:xs.size=l.length)(hx:ys[i]?=some v):∃p,r[i]?=some p/\Rep X cf h p v:=by refine aC (rr.at_ (i:=xs.toList.length+i) (v:=v)<|by rw[ku<|jt _ _,tV,qV,hx]) λp hp q=>?_;rw[qW,e,ku<|jt _ _,tV]at hp;exact aA p hp q
theorem J'{h:Heap}{a:Addr}(x:∃u v,IsPair h a u v):∃o,h.get? a=some o:=let ⟨_,_,e⟩:=x;⟨_,e⟩
section
variable {A:Around}{cf aS:Cf}{s s₁:Shared}{P:au->ak->Prop}{elts:bL}{k:Nat}{tpos:Pos}{t₂:Nat}
theorem Ze{I i a:Addr}{vs:dg}{l:au}{h':Heap}(hh:A.handled=none)(d1:I≠i)(d2:a≠I)(d3:a≠i)(f1:s₁.heap.objs.size<=I)(f2:s₁.heap.objs.size<=i)(hE:IsEnum h' I i 0 .none)(hI:h'.IsListIter i a 0)(hL:h'.IsList a vs)(ea:∃o,s₁.heap.get? a=some o)(hO:¬aS.O a)
  (hz:vs.size<=2^20)(st:Step cf s aS s₁)(S:aU X aS s₁.heap)(g:c5 s₁.heap h')(r:aO X aS s₁.heap l vs.toList)(q:P (dU l) aS.H):nH X A (.Tuple elts k tpos) cf s P (.ref I) {s₁ with heap:=h',toks:=t₂}:=
 yg [I,i] [a] (Tn.JZ (WalksT.enumerate hh I i a d1 d2 d3 vs) (λU U st=>mc (let ⟨_,e⟩:=st.1;⟨_,e⟩)<|mc (lD st.2.1)<|mc (p9 st.2.2) mz) λU U U st=>mc (let ⟨_,e⟩:=st.1;⟨_,e⟩)<|mc (lD st.2.1) mz)
  (λU h=>h) (mc f1<|mc f2 mz) (mc ⟨ea,hO⟩ mz) hz ⟨by(rewrite[dU,bI];refine rR List.length_zipIdx<|rL r.length ?_);rfl,λi cf h h' v rr live K e=>by
   refine eJ e λT' vals aN aQ hT ht=>?_;clear e;subst aN;revert aQ;refine Fj λt x hx aR=>?_;subst aR;refine aC (rr.at_ (i:=i) (v:=x)<|by rw[qV];exact hx) λp hp rp=>?_
   exact(aA _ (J7 hp) (yj live hT ht gm<|rp.mono K))⟩ st S g ⟨⟨_,hE⟩,hI,hL⟩ r q
theorem Zf{z TI TO i1 i2 a b:Addr}{xs ys:dg}{l r:au}{h':Heap}(hh:A.handled=none)(D:ZipApart z TI TO i1 i2 a b)(fr:∀b∈[z,TI,TO,i1,i2],s₁.heap.objs.size<=b)(hz:IsZip h' z TI TO .none)(hTI:IsPair h' TI (.ref i1)<|.ref i2)(hTO:∃a b,IsPair h' TO a b)(hi1:h'.IsListIter i1 a 0)(hi2:h'.IsListIter i2 b 0)(qo:h'.IsList a xs)(qp:h'.IsList b ys)
  (e1:xs.size=l.length)(e2:ys.size=r.length)(ea:∃o,s₁.heap.get? a=some o)(qq:¬aS.O a)(eb:∃o,s₁.heap.get? b=some o)(qs:¬aS.O b)
  (hz1:xs.size<=2^20)(st:Step cf s aS s₁)(S:aU X aS s₁.heap)(g:c5 s₁.heap h')(r1:aO X aS s₁.heap l xs.toList)(r2:aO X aS s₁.heap r ys.toList)(q:P (gZ l r) aS.H):nH X A (.Tuple elts k tpos) cf s P (.ref z) {s₁ with heap:=h',toks:=t₂}:=
 yg [z,TI,TO,i1,i2] [a,b] (Tn.JZ (WalksT.zip2 hh _ _ _ _ _ _ _ D xs ys) (λU U st=>mc ⟨_,st.1⟩<|mc ⟨_,st.2.1⟩<|mc (J' st.2.2.1)<|mc (lD st.2.2.2.1)<|mc (lD st.2.2.2.2.1)<|mc (p9 st.2.2.2.2.2.1)<|mc (p9 st.2.2.2.2.2.2) mz) λU U U st=>mc ⟨_,st.1⟩<|mc (J' st.2.2.1)<|mc (lD st.2.2.2.1)<|mc (lD st.2.2.2.2.1) mz)
  (mc (.head _)<|mc (.tail _ (.tail _ (.head _)))<|mc (.tail _ (.tail _ (.tail _ (.head _))))<|mc (.tail _ (.tail _ (.tail _ (.tail _ (.head _))))) mz) fr (mc ⟨ea,qq⟩<|mc ⟨eb,qs⟩ mz) (eR (jN _ _) hz1)
  ⟨by(rewrite[gZ,bI];exact rR List.length_zip<|rR e1<|rR e2 rfl),λi cf h h' v rr live K e=>by
   refine eJ e λT' vals aT aL hT ht=>?_;clear e;subst aT;revert aL;refine Fl λx y hx hy aM=>?_;subst aM;refine aC (J9 rr e1 hx) λp hp rp=>?_;refine aC (J_ rr e1 hy) λp' lB rp'=>?_
   exact(aA _ (J8 hp lB) (yj live hT ht (rp.mono K)<|rp'.mono K))⟩ st S g ⟨hz,hTI,hTO,hi1,hi2,qo,qp⟩ (r1.append r2) q
end
theorem Ka(n:Nat):∀b∈[n+4,n+2,n+3,n,n+1],n<=b:=mc (jt _ _)<|mc (jt _ _)<|mc (jt _ _)<|mc (bY _)<|mc (jt _ _) mz
theorem Zg{elts:bL}{k:Nat}{tpos p pos:Pos}{args:bL}{P:au->ak->Prop}(T:eK X)(e:gp X "enumerate"<|.type "enumerate")
  (hx:aa.kindOf (Sx "enumerate")=some .globalImplicit)(hd:(Sx "enumerate"==("__debug__":Str))=false)(h2:args.all notStar=true)
  (h:fM X d aa ai ae args H (λvs H'=>∃l,vs=[.l l]/\P (dU l) H')):jY X d aa ai ae (.Tuple elts k tpos) (.Call (.Name (Sx "enumerate") p) args [] pos) H P:=λA cf s E hA hH S R=>by
 refine yh T e (.inr ⟨_,rfl⟩) hx hd h2 h hA hH S R λaS s₁ vs ps st S₁ cI rs q=>?_;revert q;refine rj λl aP q=>?_;subst aP;refine aC (rQ rs) λv aN r=>?_;clear rs;subst aN;refine t7 (uS r) λa vs aQ hO hL e1 hz1 rl ea=>?_;clear r;subst aQ;have hlt:=fJ ea.choose_spec;exact call_enumerate_list hL λh' hE hI hsz hk=>wpAny_pyIter_enum hE<|Ze (t₂:=s₁.toks) hA.hh (Nat.succ_ne_self _) (ktu_ne 1 hlt) (gP hlt) (Nat.le_succ _) (bY _) hE hI (hL.at λo e=>hk a o e) ea hO hz1 st S₁ hk rl q
theorem Zh{elts:bL}{k:Nat}{tpos p pos:Pos}{args:bL}{P:au->ak->Prop}(T:eK X)(e:gp X "zip"<|.type "zip")
  (hx:aa.kindOf (Sx "zip")=some .globalImplicit)(hd:(Sx "zip"==("__debug__":Str))=false)(h2:args.all notStar=true)
  (h:fM X d aa ai ae args H (λvs H'=>∃l r,vs=[.l l,.l r]/\P (gZ l r) H')):jY X d aa ai ae (.Tuple elts k tpos) (.Call (.Name (Sx "zip") p) args [] pos) H P:=λA cf s E hA hH S R=>by
 refine yh T e (.inr ⟨_,rfl⟩) hx hd h2 h hA hH S R λaS s₁ vs ps st S₁ cI rs q=>?_;revert q;refine Fj λl r aR q=>?_;subst aR;refine d_ (xP rs) λv u aT r1 r2=>?_;subst aT;refine t7 (uS r1) λa xs aL qq qo e1 hz1 nF ea=>?_;clear r1;clear rs;subst aL;refine t7 (uS r2) λb ys aM qs qp e2 hz2 rT eb=>?_;clear r2;subst aM;exact call_zip_2 qo qp λh' hz hTI hTO hi1 hi2 hsz hk=>wpAny_pyIter_zip hz<|Zf (t₂:=s₁.toks) hA.hh (ktu_apart _ _ _ (fJ ea.choose_spec) (fJ eb.choose_spec)) (Ka _) hz hTI (I2 _ _ hTO) hi1 hi2 (qo.at λo e=>hk a o e) (qp.at λo e=>hk b o e) e1 e2 ea qq eb qs hz1 st S₁ hk nF rT q
end
end
section
theorem dH.toStep{cf aI:Cf}{s s':Shared}(x:dH (λU=>False) cf s aI s'):Step cf s aI s':=⟨x.same,λb o h e=>x.keep b o h (λq=>q) e,x.avoid,x.fresh,x.owned,x.refs⟩
section
variable {prog:Program}{w:World}{A:Around}{R:Result->Shared->Prop}{s:Shared}
theorem Zi{elt target iter:Expr}{ifs:bL}{scope:Scope}{pos:Pos}{it acc:Value}{aa:Env}(I:Nat->Shared->Prop)
  (turn:∀n s,I n s->∀(J:Shared->Prop) (E:cJ),(∀m s,m<n->I m s->J s)->wpAny (model prog w) A (pyNext it) (λr s₁=>match r with
   |none=>R (.ok .next) s₁
   |some v=>wpAny (model prog w) A (letOwnedTupleGo target it v) (λU s₁'=>wpAny (model prog w) A (assign target aa v) (λU s₂=>
     wpAny (model prog w) A (forIn ifs true λc r=>if r=true then do let ok<-PySem.isTrue c aa<|eval c aa;pure (ForInStep.yield ok)else pure (ForInStep.yield r)) (λok s₃=>
      if ok=true then wpAny (model prog w) A (eval elt aa) (λx s₄=>wpAny (model prog w) A (call (.builtin "list.append") [acc,x]) (λU=>J) E s₄) E s₃ else J s₃) E s₂) E s₁') E s₁) E s)
  (n:Nat)(h:I n s):codeAny (model prog w) A (.compLoop (.ListComp elt [⟨target,iter,ifs,0⟩] scope pos) 0 it acc aa) R s:=by
 refine codeAny_loop rfl I (λn s hI=>?_) n h;show wpAny _ A ((compTurn (.ListComp elt [⟨target,iter,ifs,0⟩] scope pos) 0 it acc aa).onRaise λx=>do noteFrame x aa;theTreesLotGoes x) _ _ s;refine wpAny_noted ?_;rw[compTurn_list];refine a_<|wpAny_standAt<|a_ (bz (turn n s hI (λs=>∃m,m<n/\I m s) _ λm s h i=>aA m h i) (λr s₁ h₁=>?_) λU U h'=>h')
 induction r using e9 with
 |none=>exact cF h₁
 |some v=>
  refine a_ (bz h₁ (λU s₁' h₁'=>?_) λU U h'=>h');refine a_ (bz h₁' (λU s₂ h₂=>a_ (bz h₂ (λok s₃ h₃=>?_) λU U h'=>h')) λU U h'=>h')
  induction ok using cP with
  |false=>exact cF ⟨rfl,h₃⟩
  |true=>exact a_<|a_ (bz h₃ (λx s₄ h₄=>a_ (bz h₄ (λU s₅ h₅=>cF<|cF ⟨rfl,h₅⟩) λU U h'=>h')) λU U h'=>h')
end
noncomputable def fq(cells:List<|Str×Addr):List (Str×NameKind)->List (Str×Addr)->List (Str×Addr)
 |[],acc=>acc
 |(n,k)::r,acc=>if k==.free then fq cells r ((n,(cells.lookup n).getD 0)::acc)else fq cells r acc
theorem Kc{scope:Scope}{aa:Env}(hf:∀y∈scope.names,y.2=.free->∃c,aa.cells.lookup y.1=some c):closureFor scope aa=pure (fq aa.cells scope.names []):=by
 have go:∀(ai:List<|Str×NameKind)(acc:List<|Str×Addr),(∀y∈ai,y.2=.free->∃c,aa.cells.lookup y.1=some c)->
   (forIn ai acc λ(x:Str×NameKind) (cs:List<|Str×Addr)=>(if x.2==.free then do let a<-cellOf aa x.1;pure (ForInStep.yield<|(x.1,a)::cs)else pure (ForInStep.yield cs):Sem<|ForInStep<|List<|Str×Addr))=pure (fq aa.cells ai acc):=λai=>by
  induction ai with
  |nil=>intro acc U;rfl
  |cons y r ih=>
   intro acc h;obtain⟨n,k⟩:=y;rw[List.forIn_cons];by_cases hk:k=.free
   ·subst hk;refine X1 (h (n,.free) cR rfl) λc hc=>?_;have hc':aa.cells.lookup n=some c:=hc;have e:cellOf aa n=pure c:=by unfold cellOf;exact rR hc' rfl
    simp only[beq_self_eq_true,if_true,e,pure_bind,fq,hc',Option.getD_some];exact ih _ λy hy=>h y<|dh _ hy
   ·have hb:(k==NameKind.free)=false:=by simpa using hk
    simp only[hb,Bool.false_eq_true,if_false,pure_bind,fq];exact ih _ λy hy=>h y<|dh _ hy
 have:=go scope.names [] hf;unfold closureFor;show(forIn scope.names ([]:List<|Str×Addr) _>>=_)=_;exact rL (pure_bind (fq aa.cells scope.names []) λcs=>(pure cs:Sem<|List<|Str×Addr))<|rL this rfl
set_option tactic.hygienic true in
theorem yk{cells:List<|Str×Addr}:∀{ai:List<|Str×NameKind}{acc:List<|Str×Addr}{n:Str}{c:Addr},(∀y∈ai,y.2=.free->∃c,cells.lookup y.1=some c)->(n,c)∈fq cells ai acc->(n,c)∈acc\/(cells.lookup n=some c/\(n,NameKind.free)∈ai)
 |[],acc,n,c,_,h=>.inl h
 |(m,k)::r,acc,n,c,hf,h=>by
  unfold fq at h;split at h
  ·rename_i hk;have hk':k=.free:=by simpa using hk
   rcases yk (λy hy=>hf y<|dh _ hy) h with h|⟨h1,h2⟩
   ·rcases eO.mp h with e|h
    ·refine X1 (hf (m,k) cR hk') λc' hc'=>?_;have Ke:cells.lookup m=some c':=hc';rw[Ke]at e;clear h;clear hf h hc';obtain⟨rfl,rfl⟩:=jv e;exact .inr ⟨Ke,by refine rR hk' ?_;exact cR⟩
    ·exact .inl h
   ·exact .inr ⟨h1,dh _ h2⟩
  ·rcases yk (λy hy=>hf y<|dh _ hy) h with h|⟨h1,h2⟩
   ·exact .inl h
   ·exact .inr ⟨h1,dh _ h2⟩
theorem CG{cells:List<|Str×Addr}{p:Str×Addr}:∀{ai:List<|Str×NameKind}{acc:List<|Str×Addr},p∈acc->p∈fq cells ai acc
 |[],_,h=>h
 |(m,k)::r,acc,h=>by
  unfold fq;split
  ·exact CG<|dh _ h
  ·exact CG h
theorem Kf{cells:List<|Str×Addr}{n:Str}:∀{ai:List<|Str×NameKind}{acc:List<|Str×Addr},(n,NameKind.free)∈ai->∃c,(n,c)∈fq cells ai acc
 |(m,k)::r,acc,h=>by
  unfold fq;rcases eO.mp h with e|h
  ·clear h;obtain⟨rfl,rfl⟩:=jv e;simp only[beq_self_eq_true,if_true];exact⟨_,CG cR⟩
  ·split<;>exact Kf h
set_option tactic.hygienic true in
theorem CH{cells:List<|Str×Addr}(ha:cells.Pairwise λx y=>x.2≠y.2):∀{ai:List<|Str×NameKind}{acc:List<|Str×Addr},(∀y∈ai,y.2=.free->∃c,cells.lookup y.1=some c)->(∀p∈acc,cells.lookup p.1=some p.2)->
  acc.Pairwise (λx y=>x.2≠y.2)->(ai.map (·.1)).Nodup->(∀p∈acc,p.1∉ai.map (·.1))->(fq cells ai acc).Pairwise λx y=>x.2≠y.2
 |[],acc,_,_,hp,_,_=>hp
 |(m,k)::r,acc,hf,hc,hp,hn,hd=>by
  rw[fK]at hn hd;refine U1 (kC.mp hn) λhn1 hn2=>?_;unfold fq;split
  ·rename_i hk;have hk':k=.free:=by simpa using hk
   refine X1 (hf (m,k) cR hk') λc CI=>?_;have CJ:cells.lookup m=some c:=CI;refine rR CJ ?_;refine CH ha (λy hy=>hf y<|dh _ hy) (λp g8=>?_) (pQ.mpr ⟨λp g8 e=>?_,hp⟩) hn2 λp g8=>?_
   ·rcases eO.mp g8 with rfl|g8
    ·exact CJ
    ·exact hc p g8
   ·have h1:=hc p g8;have e':c=p.2:=e;have:m=p.1:=name_of_addr ha (iG CJ)<|e'▸iG h1
    exact hd p g8<|this▸cR
   ·rcases eO.mp g8 with rfl|g8
    ·exact hn1
    ·exactλh=>hd p g8<|dh _ h
  ·exact CH ha (λy hy=>hf y<|dh _ hy) hc hp hn2 λp g8 h=>hd p g8<|dh _ h
noncomputable def fQ(scope:Scope)(ai:b5):b5:=ai.map λ
 |some x=>if scope.names.lookup (Sx x)=some .free then some x else none
 |none=>none
set_option tactic.hygienic true in
theorem Zj{scope:Scope}{ai:b5}{i:Nat}{x:String}(h:(fQ scope ai)[i]?=some (some x)):ai[i]?=some (some x)/\scope.names.lookup (Sx x)=some .free:=by
 unfold fQ at h;rw[cQ]at h;cases e:ai[i]? with
 |none=>rw[e]at h;exact nN h
 |some o=>
  rw[e]at h
  induction o using e9 with
  |none=>simp at h
  |some y=>
   simp only[Option.map_some]at h;split at h
   ·rename_i hf;have h:=aK<|aK h
    subst h;exact⟨rfl,hf⟩
   ·cases h
theorem Kg{scope:Scope}{aa:Env}(hk:aa.scope.kind=.function):∀{ai:List<|Str×NameKind}{x:Str},(∀y∈ai,y.2≠.cell)->(∀y∈ai,y.2=.free->aa.kindOf y.1=some .cell)->
  ((ai.map λ(n,k)=>if(k==NameKind.free&&aa.scope.kind==.function&&aa.kindOf n==some .cell)then(n,NameKind.cell)else(n,k)).lookup x=some .cell↔ai.lookup x=some .free)
 |[],x,_,_=>by simp
 |(n,k)::r,x,hc,hf=>by
  have ih:=Kg (scope:=scope) hk (ai:=r) (x:=x) (λy hy=>hc y<|dh _ hy) λy hy=>hf y<|dh _ hy
  refine rR fK ?_;by_cases hkf:k=.free
  ·clear hc;subst hkf;have h1:aa.kindOf n=some .cell:=hf (n,.free) cR rfl;have e:(NameKind.free==NameKind.free&&aa.scope.kind==.function&&aa.kindOf n==some .cell)=true:=by refine rR hk<|rR h1 ?_;rfl
   simp only[e,if_true,List.lookup_cons];split
   ·simp
   ·exact ih
  ·have e:(k==NameKind.free&&aa.scope.kind==.function&&aa.kindOf n==some .cell)=false:=by
    have:(k==NameKind.free)=false:=by simpa using hkf
    refine rR this ?_;rfl
   simp only[e,Bool.false_eq_true,if_false,List.lookup_cons];split
   ·have h2:=hc (n,k) cR;simp only[Option.some.injEq];exact⟨λh=>absurd h h2,λh=>absurd h hkf⟩
   ·exact ih
end
section
def qt(X:Cx)(d:Nat)(aa:Env)(ai:b5)(ae:bF):bL->ak->(Bool->ak->Prop)->Prop
 |[],H,Q=>Q true H
 |c::cs,H,Q=>AT X d aa ai ae c H λb H'=>(b=true->qt X d aa ai ae cs H' Q)/\(b=false->Q false H')
def oY(X:Cx)(d:Nat)(aa:Env)(ai:b5)(ae:bF)(tp:Bool)(k:Nat)(ifs:bL)(elt:Expr)(Q:au->ak->Prop):au->au->ak->Prop
 |[],acc,H=>Q acc H
 |x::r,acc,H=>∃own,iK tp k x=some own/\qt X d aa ai (ae++own) ifs H (λb H'=>
   (b=true->AE X d aa ai (ae++own) elt H' (λv c8=>oY X d aa ai ae tp k ifs elt Q r (acc++[v]) c8))/\(b=false->oY X d aa ai ae tp k ifs elt Q r acc H'))
theorem Kh:∀(l:au)(ae old:bF),old.length=l.length->bx (List.range' ae.length l.length) l (ae++old)=ae++l.map some
 |[],ae,old,h=>by have:old=[]:=List.length_eq_zero_iff.mp h;clear h;subst this;simp[bx]
 |v::l,ae,[],h=>by simp at h
 |v::l,ae,o::old,h=>by
  refine rR i4<|rR List.range'_succ ?_
  simp only[bx];refine rR (List.set_append_right _ _ (bY _)) ?_;rewrite[pU];refine rR List.set_cons_zero ?_;have:=Kh l (ae++[some v]) old<|by simpa using h
  rw[gF,List.length_singleton]at this;refine rR (show ae++some v::old=(ae++[some v])++old by simp)<|rR this ?_
  simp
set_option tactic.hygienic true in
theorem Zk{tp:Bool}{k:Nat}{x:PV}{own old ae:bF}{tgt:aG}(hk:tp=false->k=1)(ht:tgt=List.range' ae.length k)(h:iK tp k x=some own)(ho:old.length=k):iw tp tgt x (ae++old)=some (ae++own)/\own.length=k:=by
 subst ht
 induction tp using cP with
 |false=>
  obtain rfl:=hk rfl;simp only[iK,Bool.false_eq_true,if_false,Option.some.injEq]at h;subst h;refine X1 (List.length_eq_one_iff.mp ho) λo aP=>?_;clear ho;subst aP;refine⟨?_,rfl⟩;show some ((ae++[o]).set ae.length<|some x)=_;refine rR (List.set_append_right _ _ (bY _)) ?_;rewrite[pU];exact rR List.set_cons_zero rfl
 |true=>
  simp only[iK,if_true]at h;split at h
  ·rename_i l;split at h
   ·rename_i hl;have h:=aK h;subst h;clear hk;subst hl;refine⟨?_,by simp⟩;have hs:=Kh l ae old ho;show(if(List.range' ae.length l.length).length=l.length then some (bx (List.range' ae.length l.length) l<|ae++old)else none)=_;exact rR (bw List.length_range')<|rR hs rfl
   ·exact nN h
  ·exact nN h
section
variable {X:Cx}{d:Nat}{A:Around}{cf aI:Cf}{s s':Shared}{E:cJ}{aa:Env}{ai:b5}{ae:bF}{H:ak}
structure oZ (scope:Scope)(aa:Env):Prop where
 kind:scope.kind=.function
 cell:∀y∈scope.names,y.2≠.cell
 ai:∀y∈scope.names,y.2=.local->scope.names.lookup y.1=some .local
 free:∀y∈scope.names,y.2=.free->aa.kindOf y.1=some .cell
 nodup:(scope.names.map (·.1)).Nodup
theorem oZ.closed{scope:Scope}(K:oZ scope aa)(R:cK X cf aa ai ae s.heap):∀y∈scope.names,y.2=.free->∃c,aa.cells.lookup y.1=some c:=λy hy hf=>R.oF _ (K.free y hy hf)
theorem Zl{scope:Scope}{W:List Addr}{C:Addr}{h':Heap}{t:Nat}{m0:PySem.Str->Option Value}{own:b5}{old:bF}(K:oZ scope aa)(S:aU X cf s.heap)(R:cK X cf aa ai ae s.heap)(hlen:ae.length=ai.length)
  (g:c5 s.heap h')(hC:s.heap.get? C=none)(Zm:C∈W)(st:Kept cf s.heap (iA cf W) h')(hns:h'.Ns C m0)(hold:∀o∈old,o=none):
  cK X (iA cf W) (compEnvC scope (fq aa.cells scope.names []) C aa) (fQ scope ai++own) (ae++old) h':=by
 refine d_ R.vals λm cm hn hc hv=>?_;have cl:=K.closed R;have mem:∀n c,(n,c)∈fq aa.cells scope.names []->aa.cells.lookup n=some c/\(n,NameKind.free)∈scope.names:=λn c h=>(yk cl h).resolve_left<|by simp
 have cellAt:∀n c,aa.cells.lookup n=some c->c≠C:=λn c h e=>by refine aC (hc n c h) λo e' U=>?_;rw[e,hC]at e';exact nN e'
 have ap:(fq aa.cells scope.names []).Pairwise λx y=>x.2≠y.2:=CH R.apart cl (by simp) List.Pairwise.nil K.nodup<|by simp
 have Kl:∀x,(compEnvC scope (fq aa.cells scope.names []) C aa).kindOf x=some .cell↔scope.names.lookup x=some .free:=λx=>Kg (scope:=scope) R.kind K.cell K.free;have has:∀x,scope.names.lookup x=some .free->∃c,(fq aa.cells scope.names []).lookup x=some c:=λx hx=>by
  refine X1 (Kf (cells:=aa.cells) (acc:=[])<|iG hx) λc hm=>?_;cases e:(fq aa.cells scope.names []).lookup x with
  |some c'=>exact⟨c',rfl⟩
  |none=>rw[List.lookup_eq_none_iff]at e;have:=e _ hm;simp at this
 refine⟨K.kind,R.glob,R.blt,.inr Zm,λn c hm=>⟨.inl (R.iu n c<|iG (mem n c hm).1).1,cellAt n c (mem n c hm).1⟩,ap,λx hx=>has x<|(Kl x).mp hx,λb hb=>⟨λe=>?_,λn c hm=>(R.off b hb).2 n c<|iG (mem n c hm).1⟩,
  m0,cm,hns,λn c hl=>(hc n c (mem n c<|iG hl).1).keeps g,λi x pv hi hp=>?_⟩
 ·refine X1 (S.here b<|S.own b hb) λo e'=>?_;rw[e]at e';have:s.heap.get? C=some o:=e';rw[hC]at this;exact nN this
 ·by_cases hlt:i<ai.length
  ·rw[iZ<|by unfold fQ;rw[bI];exact hlt]at hi;rw[iZ<|by refine rR hlen ?_;exact hlt]at hp;refine U1 (Zj hi) λhi' hf=>?_;obtain⟨v,r,⟨hk,_⟩|⟨hk,_,hm⟩⟩:=hv i x pv hi' hp
   ·rw[K.free _ (iG hf) rfl]at hk;cases hk
   ·exact aA v (r.mono st)<|.inr ⟨(Kl _).mpr hf,has _ hf,hm⟩
  ·rw[ku<|by refine rR hlen ?_;exact z9 hlt]at hp;have:=hold _ (dY hp);exact sN this
theorem Km:∀{ifs:bL}{A:Around}{cf:Cf}{s:Shared}{E:cJ}{H:ak}{Q:Bool->ak->Prop},c7 d A->cf.H=H->aU X cf s.heap->cK X cf aa ai ae s.heap->qt X d aa ai ae ifs H Q->
  wpAny (model X.prog X.w) A (forIn ifs true λc r=>if r=true then do let ok<-PySem.isTrue c aa<|eval c aa;pure (ForInStep.yield ok)else pure (ForInStep.yield r)) (bC X cf s<|GB Q) E s
 |[],A,cf,s,E,H,Q,hA,hH,S,R,h=>by subst hH;refine rR List.forIn_nil ?_;exact cF<|bC.now S h
 |c::cs,A,cf,s,E,H,Q,hA,hH,S,R,h=>by
  rw[List.forIn_cons];simp only[if_true];refine a_<|a_ (bz (h A cf s E hA hH S R) (λb s₁ y=>cF ?_) λU U y=>y)
  obtain⟨aS,st,S₁,q⟩:=y
  induction b using cP with
  |true=>exact bz (Km hA rfl S₁ (R.step S st)<|q.1 rfl) (λU U y=>y.after S st) λU U y=>y
  |false=>
   have z:∀(l:bL),wpAny (model X.prog X.w) A (forIn l false λc r=>if r=true then do let ok<-PySem.isTrue c aa<|eval c aa;pure (ForInStep.yield ok)else pure (ForInStep.yield r)) (bC X cf s<|GB Q) E s₁:=λl=>by
    induction l with
    |nil=>refine rR List.forIn_nil ?_;exact cF ⟨aS,st,S₁,q.2 rfl⟩
    |cons a l ih=>
     rw[List.forIn_cons];simp only[Bool.false_eq_true,if_false];exact a_<|cF ih
   exact z cs
inductive CL (X:Cx)(d:Nat)(aS:Cf)(s₁:Shared)(fp W:List Addr)(St:Nat->Heap->Prop)(cenv:Env)(nm:b5)(ae:bF)(tp:Bool)(k:Nat)(ifs:bL)(elt:Expr)(Q:au->ak->Prop)(src:au)(fP:cz)(n:Nat)(D:Addr)(items:au)(kk:Nat)(s':Shared):Prop
 |mk (cD:Cf) (ow:bF) (i:Nat) (acc:au) (vs:dg) (L:LI X (λ_=>False) aS s₁ fp W St i cD s') (R:cK X cD cenv nm (ae++ow) s'.heap) (how:ow.length=k) (r:aO X cD s'.heap src fP) (lv:∀b∈W,∃o,s'.heap.get? b=some o)
   (hi:i<=n) (hk:kk=n+1-i) (hl:s'.heap.PlainList D vs) (hv:vs.size<=i) (ra:aO X cD s'.heap acc vs.toList) (ok:oY X d cenv nm ae tp k ifs elt Q (items.drop i) acc cD.H):CL X d aS s₁ fp W St cenv nm ae tp k ifs elt Q src fP n D items kk s'
theorem Ko{elt target iter:Expr}{ifs:bL}{scope:Scope}{pos:Pos}{tp:Bool}{k:Nat}{tn:aY}{Q:au->ak->Prop}{RR:Value->Addr->Result->Shared->Prop}(K:oZ scope aa)(hlen:ae.length=ai.length)(hk:tp=false->k=1)(yl:tn.length=k)
  (hN:d8<|fQ scope ai++tn.map some)
  (ht:∀C,mG (λb=>b=C) (fQ scope ai++tn.map some) (compEnvC scope (fq aa.cells scope.names []) C aa) tp (List.range' ae.length k) target)
  (h:jY X d aa ai ae target iter H λitems H'=>∀C,oY X d (compEnvC scope (fq aa.cells scope.names []) C aa) (fQ scope ai++tn.map some) ae tp k ifs elt Q items [] H')
  (hA:c7 d A)(hH:cf.H=H)(S:aU X cf s.heap)(R:cK X cf aa ai ae s.heap)
  (hRR:∀D C aS s₁ aI s' acc m,Step cf s aS s₁->aU X aS s₁.heap->cK X aS aa ai ae s₁.heap->LI X (λU=>False) aS s₁ [] [C] (λU U=>True) 0 aI s'->s₁.heap.get? C=none->Rep X aI s'.heap (.l acc) (.ref D)->s'.heap.Ns C m->Q acc aI.H->RR (.ref D) C (.ok .next) s'):
  wpAny (model X.prog X.w) A (eval iter aa) (λxv s₁=>wpAny (model X.prog X.w) A (pyIter xv) (λit s₂=>wpAny (model X.prog X.w) A (newList []) (λacc s₃=>
   wpAny (model X.prog X.w) A (newFunctionEnv scope aa.globals (fq aa.cells scope.names []) [] aa.qual none .none<|some aa) (λcenv s₄=>
    codeAny (model X.prog X.w) A (.compStart (.ListComp elt [⟨target,iter,ifs,0⟩] scope pos) 0 it acc {cenv with scope:=relabel scope aa}) (RR acc cenv.locals) s₄) E s₃) E s₂) E s₁) E s:=by
 refine bz (h A cf s E hA hH S R) (λxv sx y=>bz y (λit s₂ y=>?_) λU U y=>y) λU U y=>y;obtain⟨aS,s₁,items,I,fp,wr,W,n,IR,Md,St,src,fP,h₂,t₂,rfl,rfl,oX,uP,se,T,qk,gI,S₁,g,new,old,m0,yb,hok⟩:=y;have cI:=R.step S gI;have Zn:∀b∈W,∃o,h₂.get? b=some o:=λb hb=>T.live _ _ m0 b (uP b hb);refine wpAny_newList ?_ (iF _)
 
 refine wpAny_newFunctionEnv K.cell (by simp) (λh₄ hns mH=>?_) K.kind;generalize hD:h₂.objs.size=D at hns mH⊢;have ym:(h₂.push {cls:=.type "list",data:=.seq ([]:cz).toArray}).get? D=some {cls:=.type "list",data:=.seq #[]}:=by refine rL hD ?_;exact ik _ rfl
 have hC:(h₂.push {cls:=.type "list",data:=.seq ([]:cz).toArray}).objs.size=D+1:=by(rewrite[Heap.size_push];exact rR hD rfl)
 have hns:h₄.Ns (D+1) (λx=>([]:List<|PySem.Str×Value).reverse.lookup x):=by refine rL hC ?_;exact hns
 have hDC:@Ne Nat D (D+1):=gP<|Nat.lt_succ_self D
 have up:∀b o,h₂.get? b=some o->h₄.get? b=some o:=λb o e=>by have hb:@LT.lt Nat _ b D:=hD▸fJ e;exact mH.extBut b o (by refine rR hC ?_;exact gP<|Nat.lt_succ_of_lt hb)<|jq _ (jq _ e)
 have hacc:h₄.PlainList D #[]:=⟨0,mH.extBut D _ (by refine rR hC ?_;exact hDC) (jq _ ym)⟩
 have g4:c5 s₁.heap h₄:=λb o e=>up b o<|g b o e
 have yn:∀b:Nat,D<=b->s₁.heap.get? b=none:=λb hb=>by
  cases e:s₁.heap.get? b with
  |none=>rfl
  |some o=>exact absurd (fJ<|g b o e)<|Nat.not_lt.mpr<|hD▸hb
 show codeAny _ A (.compStart _ 0 (.ref I) (.ref D) (compEnvC scope (fq aa.cells scope.names []) (h₂.push {cls:=.type "list",data:=.seq ([]:cz).toArray}).objs.size aa)) (RR (.ref D) (h₂.push {cls:=.type "list",data:=.seq ([]:cz).toArray}).objs.size) _;refine rR hC ?_;have hok:=hok<|D+1
 have ht:=ht<|D+1
 generalize hce:compEnvC scope (fq aa.cells scope.names []) (D+1) aa=cenv at hok ht⊢;have hloc:cenv.locals=D+1:=by refine rL hce ?_;rfl
 
 have qu:∀b∈W++[D,D+1],s₁.heap.get? b=none:=λb hb=>by
  rcases dR.mp hb with hb|hb
  ·exact new b hb
  ·simp only[List.mem_cons,List.not_mem_nil,or_false]at hb;clear hD ym hC hns hDC hacc hce ht hloc;rcases hb with rfl|rfl
   ·exact yn _ (bY _)
   ·exact yn _ (Nat.le_succ _)
 have CK:∀b∈W++[D,D+1],∃o,h₄.get? b=some o:=λb hb=>by
  rcases dR.mp hb with hb|hb
  ·refine X1 (Zn b hb) λo e=>?_;exact⟨o,up b o e⟩
  ·simp only[List.mem_cons,List.not_mem_nil,or_false]at hb;clear hD ym hC hDC yn hce ht hloc qu;rcases hb with rfl|rfl
   ·exact oE hacc
   ·refine t8 hns λo U U e U=>?_;exact⟨o,e⟩
 have B:mF X (λU=>False) aS s₁ fp (W++[D,D+1]):=⟨S₁,λU h=>h.elim,qu,λb hb=>(old b hb).imp (λh=>q6 _ h) id⟩
 have m4:St 0 h₄:=T.frame _ _ _ m0 λb U o e=>up b o e;refine U2 (aside (t:=t₂) S₁ g4 qu CK) λa1 a2 a3=>?_;have CM:∀b:Nat,b∈fp->b<D:=λb hb=>by refine X1 (T.live _ _ m0 b hb) λo e=>?_;exact hD▸fJ e
 have Kp:D∉fp:=λhb=>q_ D<|CM D hb
 have CN:D+1∉fp:=λhb=>by have h:=CM (D+1) hb;(first|lia|omega)
 have Kq:D∉wr:=λhb=>Kp<|T.sub _ hb
 have Kr:D+1∉wr:=λhb=>CN<|T.sub _ hb
 have mD:D∈W++[D,D+1]:=List.mem_append_right _ cR;have mC:D+1∈W++[D,D+1]:=List.mem_append_right _ (dh _ cR);have cl:=K.closed cI;have Ks:∀n c,(n,c)∈cenv.cells->∃o,s₁.heap.get? c=some o:=λn c hm=>by rw[<-hce]at hm;have:=((yk cl hm).resolve_left<|by simp).1;refine d_ cI.vals λm cm U hcc U=>?_;refine aC (hcc n c this) λo e U=>?_;exact⟨o,e⟩
 have Ku:∀b∈W++[D,D+1],b≠D+1->¬cN cenv b:=λb hb hne hf=>by
  rcases hf with rfl|⟨n,hm⟩
  ·exact hne hloc
  ·refine X1 (Ks n b hm) λo e=>?_;rw[qu b hb]at e;exact nN e
 have hG:∀b:Addr,b=D+1->cN cenv b:=λb e=>.inl<|e.trans hloc.symm
 have R4:cK X (iA aS<|W++[D,D+1]) cenv (fQ scope ai++tn.map some) (ae++List.replicate k none) h₄:=by refine rL hce ?_;exact Zl (t:=t₂) K S₁ cI hlen g4 (qu _ mC) mC (a1.kept S₁.own) hns λo ho=>(List.mem_replicate.mp ho).2
 have hwr:∀b∈wr,b∈W++[D,D+1]:=λb h=>q6 _ (oX b h);have sub:∀b∈W++[D],b∈W++[D,D+1]:=λb hb=>by
  rcases dR.mp hb with h|h
  ·exact q6 _ h
  ·refine rR (dO.mp h) ?_;exact mD
 have r4:=yb.mono (a1.kept S₁.own) src;generalize W++[D,D+1]=W' at*;generalize fQ scope ai++tn.map some=nm at*;clear hce hns ym mH hC cl Ks a1 a2 a3 yn CM K up
 as_aux_lemma=>
 have loop:∀tk,codeAny (model X.prog X.w) A (.compLoop (.ListComp elt [⟨target,iter,ifs,0⟩] scope pos) 0 (.ref I) (.ref D) cenv) (RR (.ref D)<|D+1) {s₁ with heap:=h₄,toks:=tk}:=λtk=>by
  refine Zi (CL X d aS s₁ fp W' St cenv nm ae tp k ifs elt Q src fP n D items) ?_ (n+1)
   ⟨_,List.replicate k none,0,[],#[],LI.start B g4 CK m4,R4,by simp,r4,CK,iF _,rfl,hacc,bY _,aO.gk,by refine rR List.drop_zero ?_;exact hok⟩
  rintro kk si ⟨cD,ow,i,acc,vs,L,Ri,how,ri,lv,hin,rfl,hpl,hvs,Kv,ho⟩ J E' hJ
  replace hJ:=hJ<|n+1-(i+1)
  by_cases hlt:i<n
  ·refine bz (LI.draw (Kn:=λs₁=>RR (.ref D) (D+1) (.ok .next) s₁) (K:=λv s₂=>wpAny (model X.prog X.w) A (assign target cenv v) _ _ s₂) T hwr qk B L lv hlt ri λv p s₂ hp stp S₂ rp L₂ yd=>?_) (λr s' y=>by induction r using e9<;>exact y) λU U y=>y;have Zo:∀b∈wr,¬cN cenv b:=λb hb=>Ku b (hwr b hb) λe=>Kr<|e▸hb
   have ye:=Ri.qj L.sim stp (λb hb=>L.w b<|hwr b hb) Zo;have ed:items.drop i=p::items.drop (i+1):=by
    have hl:i<items.length:=by refine rR qk.1 ?_;exact hlt
    refine rR (tL hl) ?_;rw[eE hl]at hp;exact rR (aK hp) rfl
   rw[ed]at ho;revert ho;refine rj λown hb ho=>?_;obtain⟨hst,how'⟩:=Zk hk rfl hb how;have kp:=stp.kept L.sim λb hb=>L.w b<|hwr b hb
   have CB:aO X cD s₂.heap src fP:=ri.mono kp src;have Zp:aO X cD s₂.heap acc vs.toList:=Kv.mono kp acc;have Zq:s₂.heap.PlainList D vs:=hpl.at λo e=>stp.keep D o (L.w D mD).2 Kq e;refine J1 hN hG ht hA S₂ ye rp hst λs₃ fO fE my=>?_;have Zr:∀b:Addr,b=D+1->cD.O b/\¬Own cD b:=λb e=>e▸L₂.w _ mC;have sf:=LI.body (G:=λb=>b=D+1) B L₂ T.live T.frame yd (λb hb=>.inr<|hb▸mC) (λb hb e=>CN<|e▸hb) fO fE;have Kw:=fO.kept S₂ Zr;have CC:∀b∈W',∃o,s₃.heap.get? b=some o:=λb hb=>by
    by_cases Kx:b=D+1
    ·exact fE.here b<|Kx▸(sf.w _ mC).1
    ·refine X1 (yd b hb) λo e=>?_;exact⟨o,fO.keep b o (L₂.w b hb).2 Kx e⟩
   have Zs:=CB.mono Kw src;have Zt:=Zp.mono Kw acc;have Zu:s₃.heap.PlainList D vs:=Zq.at λo e=>fO.keep D o (L₂.w D mD).2 hDC e;refine bz (Km hA rfl fE my ho) (λok s₄ y=>?_) λU U y=>y;obtain⟨Ky,ql,jE,q⟩:=y;have qm:=my.step fE ql;have nJ:=LI.body B sf T.live T.frame CC (G:=λU=>False) (λU h=>h.elim) (λU U h=>h) ql.toF jE;have Kz:∀b∈W',∃o,s₄.heap.get? b=some o:=λb hb=>jE.here b (nJ.w b hb).1;have KA:=ql.kept fE.own;have KC:=Zs.mono KA src;have KD:=Zt.mono KA acc;have KG:s₄.heap.PlainList D vs:=Zu.at λo e=>ql.keep D o (sf.w D mD).2 e
   induction ok using cP with
   |false=>
    refine rR (bO<|by decide) ?_;exact hJ _ (z_ hlt) ⟨Ky,own,i+1,acc,vs,nJ,qm,how',KC,Kz,hlt,rfl,KG,l8 hvs,KD,q.2 rfl⟩
   |true=>
    refine rR (bw rfl) ?_;refine bz (q.1 rfl A Ky s₄ _ hA rfl jE qm) (λx s₅ y=>?_) λU U y=>y;obtain⟨sq,px,yo,uT,rx,q⟩:=y;have Zv:=qm.step jE yo;have CO:=LI.body B nJ T.live T.frame Kz (G:=λU=>False) (λU h=>h.elim) (λU U h=>h) yo.toF uT;have KH:=yo.kept jE.own;have Zw:=KC.mono KH src;have Zx:=KD.mono KH acc;have Zy:s₅.heap.PlainList D vs:=KG.at λo e=>yo.keep D o (nJ.w D mD).2 e;refine wpAny_list_append_plain (hsz:=iO<|Ql se hvs hlt) Zy λqv KJ sr=>?_;have wD:=CO.w D mD;have CP:dH (λb=>b=D) sq s₅ sq {s₅ with heap:=qv}:=⟨I2 qv s₅.toks rfl,λb o U hb e=>sr.extBut b o hb e,λU U h U U=>h,λU h=>.inl h,λU h=>.inl h,λU U h=>h⟩
    have CQ:∀b:Addr,b=D->sq.O b/\¬Own sq b:=λb e=>e▸wD;have KL:aU X sq qv:=uT.qj (F:=λb=>b=D) (λb o hb e=>sr.extBut b o hb e) CQ λb e=>e▸oE KJ;have CR:=CP.kept uT CQ;have KN:=LI.body (G:=λb=>b=D) B CO T.live T.frame (λb hb=>uT.here b (CO.w b hb).1) (λb hb=>.inr<|hb▸mD) (λb hb e=>Kp<|e▸hb) CP KL;have Zz:=Zv.qj uT CP CQ λb e=>e▸Ku D mD hDC
    exact hJ _ (z_ hlt) ⟨sq,own,i+1,acc++[px],vs.push x,KN,Zz,how',Zw.mono CR src,λb hb=>KL.here b (KN.w b hb).1,hlt,rfl,KJ,by rw[Array.size_push];exact FW hvs,
     by refine rR Array.toList_push ?_;exact(Zx.mono CR acc).append<|aO.fD (rx.mono CR) aO.gk,q⟩
  ·obtain rfl:i=n:=FY hin hlt;refine T.done si _ _ L.m λh' tk' hkp=>?_;rw[List.drop_of_length_le<|by refine rR qk.1 ?_;exact bY _]at ho
   
   have hk':∀b o,b∉W++[D]->si.heap.get? b=some o->h'.get? b=some o:=λb o hb e=>hkp b o (λq=>hb<|q6 _ (oX b q)) e;have B':mF X (λU=>False) aS s₁ [] (W++[D]):=⟨S₁,λU h=>h.elim,λb hb=>qu b<|sub b hb,λU hb=>by simp at hb⟩
   have L':LI X (λU=>False) aS s₁ [] (W++[D]) (λU U=>True) 0 cD si:=⟨L.st,L.sim,λb hb=>L.w b<|sub b hb,trivial⟩
   refine U2 (LI.drop (t:=tk') B' L' hk') λsd Sd Kd=>?_;have nC:D+1∉W++[D]:=λhb=>by
    rcases dR.mp hb with h|h
    ·exact CN<|uP _ h
    ·exact hDC (dO.mp h).symm
   have ZA:h'.PlainList D vs:=hpl.at λo e=>hkp D o Kq e;refine gG Ri.vals λm cm KO U=>?_;have ZC:h'.Ns (D+1) m:=by rw[hloc]at KO;exact KO.at' λo e=>hkp _ o Kr e
   refine hRR D (D+1) aS s₁ (oW cD<|W++[D]) {si with heap:=h',toks:=tk'} acc m gI S₁ cI ⟨sd,Sd,λb hb=>?_,trivial⟩ (qu _ mC) ?_ ZC ho
   ·refine rR (dO.mp hb) ?_;exact⟨⟨(L.w _ mC).1,nC⟩,(L.w _ mC).2⟩
   ·exact⟨D,vs,rfl,λhO=>hO.2<|List.mem_append_right _ (dO.mpr rfl),ZA,Qm hvs se,Kv.mono Kd acc⟩
 exact codeAny_compStart_list (loop _)<|T.self 0 _ _ _ m4 (loop _)
end
end
section
section
variable {X:Cx}{d:Nat}{aa:Env}{ai:b5}{ae:bF}{H:ak}
theorem ZD{elt target iter:Expr}{ifs:bL}{scope:Scope}{pos:Pos}{tp:Bool}{k:Nat}{tn:aY}{Q:eF}(K:oZ scope aa)(hlen:ae.length=ai.length)(hk:tp=false->k=1)(yl:tn.length=k)
  (hN:d8<|fQ scope ai++tn.map some)(hs:∀x,foldedSetIterable iter aa x=pure x)
  (ht:∀(cl:List<|PySem.Str×Addr) C,mG (λb=>b=C) (fQ scope ai++tn.map some) (compEnvC scope cl C aa) tp (List.range' ae.length k) target)
  (h:jY X d aa ai ae target iter H λitems H'=>∀(cl:List<|PySem.Str×Addr) C,oY X d (compEnvC scope cl C aa) (fQ scope ai++tn.map some) ae tp k ifs elt (λacc c8=>Q (.l acc) c8) items [] H'):
  AE X d aa ai ae (.ListComp elt [⟨target,iter,ifs,0⟩] scope pos) H Q:=fm λA cf s E hA hH S R=>by
 rw[eval_ListComp];refine wpAny_comprehension_free (use:=none) rfl hs (Kc<|K.closed R) K.kind K.ai ?_;refine Ko (RR:=λacc C=>compPost (model X.prog X.w) A E none (bC X cf s<|GV X Q) acc C) K hlen hk yl hN (λC=>ht _ C) (J4 h λitems H' q C=>q _ C) hA hH S R ?_;intro D C aS s₁ aI s' acc m st S₁ cI L hC rD hns q;refine aA m hns λh' hs'=>?_;have B:mF X (λU=>False) aS s₁ [] [C]:=⟨S₁,λU h=>h.elim,λb hb=>by refine rR (dO.mp hb) ?_;exact hC,λU hb=>by simp at hb⟩
 have hk':∀b o,b∉[C]->s'.heap.get? b=some o->h'.get? b=some o:=λb o hb e=>hs'.extBut b o (λq=>hb<|dO.mpr q) e;refine U2 (LI.drop (t:=s'.toks) B L hk') λsd Sd Kd=>?_;exact⟨_,st.trans S.own sd.toStep,Sd,.l acc,rD.mono Kd,q⟩
theorem ZE{i:Nat}{x:String}{py spos:Pos}{elt target iter:Expr}{ifs:bL}{scope:Scope}{pos:Pos}{tp:Bool}{k:Nat}{tn:aY}{Q:SP}(K:oZ scope aa)(hlen:ae.length=ai.length)(hk:tp=false->k=1)(yl:tn.length=k)
  (hN:d8<|fQ scope ai++tn.map some)(hs:∀x,foldedSetIterable iter aa x=pure x)(ZG:d8 ai)(hi:ai[i]?=some (some x))(hkx:aa.kindOf (Sx x)=some .local\/aa.kindOf (Sx x)=some .cell)
  (hsw:swapsWith (.ListComp elt [⟨target,iter,ifs,0⟩] scope pos) (some<|.Name (Sx x) py) spos.line aa=pure true)
  (ht:∀(cl:List<|PySem.Str×Addr) C,mG (λb=>b=C) (fQ scope ai++tn.map some) (compEnvC scope cl C aa) tp (List.range' ae.length k) target)
  (h:jY X d aa ai ae target iter H λitems H'=>∀(cl:List<|PySem.Str×Addr) C,oY X d (compEnvC scope cl C aa) (fQ scope ai++tn.map some) ae tp k ifs elt (λacc c8=>Q .n (ae.set i<|some<|.l acc) c8) items [] H'):
  gq X d aa ai ae (.Assign [.Name (Sx x) py] (.ListComp elt [⟨target,iter,ifs,0⟩] scope pos) spos) H Q:=λA cf s E hA hH S R=>by
 refine rR (exec_Assign_Name_used _ _ _ _ hsw) ?_;refine a_<|wpAny_standAt<|a_ ?_
 show wpAny _ A (do let _<-comprehension (.ListComp elt [⟨target,iter,ifs,0⟩] scope pos) scope aa _ (newList []) false (eval iter aa) (some<|assign (.Name (Sx x) py) aa)) _ _ s;refine a_ (bz (wpAny_comprehension_free (use:=some<|assign (.Name (Sx x) py) aa) (Q:=λU s'=>kM X aa ai cf s Q .next s') rfl hs (Kc<|K.closed R) K.kind K.ai ?_) (λU s' hq=>cF<|cF hq) λU U e=>e);refine Ko (RR:=λacc C=>compPost (model X.prog X.w) A E (some<|assign (.Name (Sx x) py) aa) (λU s'=>kM X aa ai cf s Q .next s') acc C) K hlen hk yl hN (λC=>ht _ C) (J4 h λitems H' q C=>q _ C) hA hH S R ?_;intro D C aS s₁ aI s' acc m st S₁ cI L hC rD hns q;have R':=cI.step S₁ L.st.toStep;show wpAny _ A (assign (.Name (Sx x) py) aa<|.ref D) _ _ _;refine assign_Name (store ZG hi hkx L.sim R' rD λh₂ cU S₂ fN t=>?_);have nC:¬cN aa C:=λhf=>by refine X1 (S₁.here C (cN.of cI hf).1) λo e=>?_;rw[hC]at e;exact nN e
 have ZH:dH (cN aa) aI s' aI {s' with heap:=h₂,toks:=t}:=⟨I2 h₂ t rfl,cU.keep,cU.avoid,cU.fresh,cU.owned,cU.refs⟩
 have wC:=L.w C<|dO.mpr rfl
 refine aA m (hns.at' λo e=>cU.keep _ o wC.2 nC e) λh₃ iR=>?_;have B:mF X (cN aa) aS s₁ [] [C]:=⟨S₁,λb=>cN.of cI,λb hb=>by refine rR (dO.mp hb) ?_;exact hC,λU hb=>by simp at hb⟩
 have L':LI X (cN aa) aS s₁ [] [C] (λU U=>True) 0 aI s':=⟨L.st.toStep.toF,L.sim,L.w,trivial⟩
 have L₂:=LI.body (G:=cN aa) B L' (λU U U U hb=>by simp at hb) (λU U U U U=>trivial) (λb hb=>L.sim.here b (L.w b hb).1) (λb hb=>.inl hb) (λU hb=>by simp at hb) ZH S₂;have hk':∀b o,b∉[C]->h₂.get? b=some o->h₃.get? b=some o:=λb o hb e=>iR.extBut b o (λq=>hb<|dO.mpr q) e;refine U2 (LI.drop (t:=t) B L₂ hk') λsd Sd Kd=>?_;exact⟨_,.n,_,st.toF.trans S S₁ (λb=>cN.of R) sd,Sd,fN.drop Kd hk' λb hb=>by refine rR (dO.mp hb) ?_;exact nC,rfl,q⟩
set_option tactic.hygienic true in
theorem su{H':ak}{p:PV}{n:Nat}{l:au}(h:iL H' p=some (n,l)):p=.e n/\H'[n]?=some (some<|.l l):=by
 unfold iL at h;split at h
 ·split at h
  ·rename_i e;refine U1 (jv<|aK h) λaN aQ=>?_;clear h;subst aN;subst aQ;exact⟨rfl,e⟩
  ·exact nN h
 ·exact nN h
theorem ZI{cf:Cf}{s:Shared}{p p':PV}{v:Value}{H':ak}(S:aU X cf s.heap)(r:Rep X cf s.heap p v)(h:xx cf.H p=some (p',H')):
  ∃aI,aI.H=H'/\Step cf s aI s/\aU X aI s.heap/\Rep X aI s.heap p' v:=by
 unfold xx at h;refine i_ h λn l hc h=>?_;dsimp only at h;split at h
 ·(refine U1 (jv<|aK h) λaR aT=>?_;clear h;subst aR;clear h;subst aT)
  refine U1 (su hc) λaL hn=>?_;clear hc;subst aL;obtain⟨pp,e2,rfl⟩:=r;obtain⟨he,vs,hpl,hz,rl⟩:=S.rep n _ pp hn e2;have o1:Own cf pp.1:=⟨n,_,pp,hn,e2,.inl rfl⟩
  have K:Kept cf s.heap {ρ:=cf.ρ,O:=λb=>cf.O b/\b≠pp.1,H:=cf.H.set n none} s.heap:=⟨λU U U e=>e,λb o hb U h=>hb h.1,λU U h=>h⟩
  have back:∀(m:Nat)(ao:AO),(cf.H.set n none)[m]?=some (some ao)->m≠n/\cf.H[m]?=some (some ao):=λm ao e=>by
   by_cases hmn:n=m
   ·subst hmn;by_cases hl:n<cf.H.length
    ·rw[jL hl]at e;cases e
    ·rw[gO<|by refine rR i5 ?_;exact z9 hl]at e;exact nN e
   ·rw[jr hmn]at e;exact⟨λq=>hmn q.symm,e⟩
  have CT:∀b,Own {ρ:=cf.ρ,O:=λb=>cf.O b/\b≠pp.1,H:=cf.H.set n none} b->Own cf b/\b≠pp.1:=λb hb=>by
   obtain⟨m,ao,q,f1,f2,f3⟩:=hb;refine U1 (back m ao f1) λhmn f1=>?_;refine⟨⟨m,ao,q,f1,f2,f3⟩,?_⟩;have j:=S.inj m n ao _ q pp f1 hn f2 e2 hmn;rcases f3 with rfl|rfl
   ·exact j.1
   ·exact j.2.2.1
  refine⟨{ρ:=cf.ρ,O:=λb=>cf.O b/\b≠pp.1,H:=cf.H.set n none},rfl,⟨I2 s.heap s.toks rfl,λU U U e=>e,λb o h1 h2 U=>⟨h1,λq=>h2<|q▸o1⟩,λb h=>.inl h.1,λb h=>.inl (CT b h).1,λU U h=>h⟩,
   ⟨by refine rR i5 ?_;exact S.len,λm ao q f1 f2=>?_,λb h=>⟨S.own b (CT b h).1,(CT b h).2⟩,λm i ao bo q u f1 f2 f3 f4 hne=>?_,λb h=>S.here b h.1,λb o e=>⟨(S.base b o e).1,λh=>(S.base b o e).2 h.1⟩⟩,?_⟩
  ·refine U1 (back m ao f1) λU f1=>?_;exact(S.rep m ao q f1 f2).mono K (λU e=>e) λU e=>e
  ·exact S.inj m i ao bo q u (back m ao f1).2 (back i bo f2).2 f3 f4 hne
  ·exact⟨pp.1,vs,rfl,λh=>h.2 rfl,hpl,hz,rl.mono K l⟩
 ·exact nN h
theorem ZJ{i:Nat}{x:String}{ss:List Stmt}{Q:SP}(hN:d8 ai)(hi:ai[i]?=some (some x))
  (h:∃v r,ae[i]?=some (some v)/\xx H v=some r/\iQ X d aa ai (ae.set i<|some r.1) ss r.2 Q):iQ X d aa ai ae ss H Q:=λA cf s E hA hH S R=>by
 subst hH;refine d_ h λv aM hv hf hs=>?_;obtain⟨p',H'⟩:=aM;refine d_ R.vals λm cm hn hc KP=>?_;refine aC (KP i x v hi hv) λw rw' hw=>?_;refine zQ (ZI S rw' hf) λaI aP st S' r'=>?_;clear hf;subst aP;have R':=R.step S st;refine d_ R'.vals λm' cm' hn' hc' aaG=>?_
 
 have uN:cK X aI aa ai (ae.set i<|some p') s.heap:=by
  refine⟨R'.kind,R'.glob,R'.blt,R'.av,R'.iu,R'.apart,R'.oF,R'.off,m,cm,hn,hc,λj y pv hj hp=>?_⟩;by_cases hij:i=j
  ·subst hij;rw[hi]at hj;have hj:=aK<|aK hj
   subst hj;rw[jL<|W8 hv]at hp;have hp:=aK<|aK hp
   subst hp;exact aA w r' hw
  ·rw[jr hij]at hp;refine aC (KP j y pv hj hp) λu ru hu=>?_;exact aA u (ru.mono<|st.kept S.own) hu
 exact bz (hs A aI s E hA rfl S' uN) (λU U y=>y.after (cZ:=ae) S R S' st.toF) λU U y=>y
end
section
variable {X:Cx}{cf aI:Cf}{h:Heap}
mutual
theorem KQ(hO:∀a,¬aI.O a->¬cf.O a):∀(n:Nat)(p:PV){v:Value},fz n p=true->Rep X aI h p v->Rep X cf h p v
 |n,.n,v,_,r=>r
 |n,.b b,v,_,r=>r
 |n,.i i,v,_,r=>r
 |n,.s s,v,_,r=>r
 |n,.d f,v,_,r=>by obtain⟨a,g,rfl,ho,hs,hm,hi⟩:=r;exact wZ.mk a g rfl (hO a ho) hs hm hi
 |0,.t l,v,q,_=>absurd q gE
 |0,.l l,v,q,_=>absurd q gE
 |0,.r l,v,q,_=>absurd q gE
 |0,.c ks l,v,q,_=>absurd q gE
 |0,.o c ns l,v,q,_=>absurd q gE
 |0,.e m,v,q,_=>absurd q gE
 |n+1,.e m,v,q,_=>absurd q gE
 |n+1,.t l,v,q,r=>by obtain⟨a,vs,rfl,ho,ht,hz,hr⟩:=r;exact kI.mk a vs rfl (hO a ho) ht hz<|o_ hO n l q hr
 |n+1,.l l,v,q,r=>by obtain⟨a,vs,rfl,ho,ht,hz,hr⟩:=r;exact kI.mk a vs rfl (hO a ho) ht hz<|o_ hO n l q hr
 |n+1,.r l,v,q,r=>by obtain⟨a,vs,rfl,ho,ht,hz,hr⟩:=r;exact kI.mk a vs rfl (hO a ho) ht hz<|o_ hO n l q hr
 |n+1,.c ks l,v,q,r=>by obtain⟨a,vals,rfl,ho,hs,hm,hl,hr⟩:=r;exact w7.mk a vals rfl (hO a ho) hs hm hl<|o_ hO n l q hr
 |n+1,.o c ns l,v,q,r=>by obtain⟨a,d,C,es,m,rfl,ho,hd,hc,e1,e2,hk,hr⟩:=r;exact w9.mk a d C es m rfl (hO a ho) (hO d hd) hc e1 e2 hk<|o_ hO n l q hr
theorem o_(hO:∀a,¬aI.O a->¬cf.O a):∀(n:Nat)(l:au){vs:cz},l.all (fz n)=true->aO X aI h l vs->aO X cf h l vs
 |n,[],vs,_,r=>r
 |n,p::ps,vs,q,r=>by rw[oj,cy]at q;obtain⟨v,t,rfl,hr,hs⟩:=r;exact Ak.mk v t rfl (KQ hO n p q.1 hr)<|o_ hO n ps q.2 hs
end
theorem ZK(S:aU X aI h)(hO:∀a,¬aI.O a->¬cf.O a)(hw:∀b,Own aI b->¬cf.O b):∀(n:Nat){p p':PV}{v:Value},b8 n aI.H p=some p'->Rep X aI h p v->Rep X cf h p' v:=by
 have fin:∀{p p':PV}{v:Value},lz p=some p'->Rep X aI h p v->Rep X cf h p' v:=λ{p p' v} hp r=>qa hp λq e=>aK e▸KQ hO 4 p q r;intro n
 induction n with
 |zero=>exactλhp r=>fin hp r
 |succ n ih=>
  have yp:∀{l l':au}{vs:cz},l.mapM (b8 n aI.H)=some l'->aO X aI h l vs->aO X cf h l' vs:=λ{l}=>by
   induction l with
   |nil=>
    intro l' vs hm r;have:l'=[]:=by simpa using hm.symm
    clear hm;subst this;exact r
   |cons p l CU=>
    intro l' vs hm r;rw[List.mapM_cons]at hm;refine bG hm λq hq hm=>?_;refine bG hm λl'' hl hm=>?_;have hm:=aK hm;subst hm;obtain⟨v,t,rfl,hr,hs⟩:=r;exact aO.fD (ih hq hr)<|CU hl hs
  intro p p' v hp r
  induction p using d7 with
  |e m=>
   obtain⟨pp,e2,rfl⟩:=r;refine bG hp λo ho hp=>?_;refine bG hp λao e1 hp=>?_;subst e1
   induction ao using AO.casesOn with
   |l l=>
    refine omap hp λl' hl=>?_;obtain⟨he,vs,hpl,hz,rl⟩:=S.rep m _ pp ho e2;exact kI.mk pp.1 vs rfl (hw _ ⟨m,_,pp,ho,e2,.inl rfl⟩) hpl hz<|yp hl rl
   |i k f=>
    obtain rfl:=aK hp;obtain⟨he,hs,kvs,hd,hl,hi⟩:=S.rep m _ pp ho e2;exact wZ.mk pp.1 _ rfl (hw _ ⟨m,_,pp,ho,e2,.inl rfl⟩) hs hd.mapOf hi
   |s ks l=>
    refine omap hp λl' hl=>?_;obtain⟨he,hs,vals,hd,hlen,rl⟩:=S.rep m _ pp ho e2;have hd':=hd.mapOf;rw[show valueAt ((List.map Sx ks).zip vals)=kH ks vals from funext λx=>l_ _ x]at hd';exact w7.mk pp.1 vals rfl (hw _ ⟨m,_,pp,ho,e2,.inl rfl⟩) hs hd' hlen<|yp hl rl
   |n c ns l=>
    refine omap hp λl' hl=>?_;obtain⟨he,C,es,k,hc,g1,g2,hk,rl⟩:=S.rep m _ pp ho e2;exact w9.mk pp.1 pp.2 C es k rfl (hw _ ⟨m,_,pp,ho,e2,.inl rfl⟩) (hw _ ⟨m,_,pp,ho,e2,.inr rfl⟩) hc g1 g2 hk<|yp hl rl
  |t l=>
   refine omap hp λl' hl=>?_;obtain⟨a,vs,rfl,ho,ht,hz,hr⟩:=r;exact kI.mk a vs rfl (hO a ho) ht hz<|yp hl hr
  |_=>exact fin hp r
end
end
section
mutual
theorem sA:∀(a b:PV),fj a b=true->a=b
 |.n,b,h=>by induction b using d7<;>first|rfl|exact nB h
 |.b x,b,h=>by induction b using d7<;>first|exact congrArg _ (gQ.mp h)|exact nB h
 |.i x,b,h=>by induction b using d7<;>first|exact congrArg _ (cG h)|exact nB h
 |.s x,b,h=>by induction b using d7<;>first|exact congrArg _ (cG h)|exact nB h
 |.t l,b,h=>by induction b using d7<;>first|exact congrArg _ (CV l _ h)|exact nB h
 |.l l,b,h=>by induction b using d7<;>first|exact congrArg _ (CV l _ h)|exact nB h
 |.r l,b,h=>absurd h gE
 |.d f,b,h=>absurd h gE
 |.c ks l,b,h=>absurd h gE
 |.o c ns l,b,h=>absurd h gE
 |.e n,b,h=>absurd h gE
theorem CV:∀(a b:au),ur a b=true->a=b
 |[],b,h=>(lh.mp h).symm
 |x::r,[],h=>absurd h gE
 |x::r,y::t,h=>by have h:=k8.mp h;exact rR (sA x y h.1)<|rR (CV r t h.2) rfl
end
theorem ZL{n:Nat}{a b:PV}(h:simple n a=true):fj a b=true↔a=b:=⟨sA a b,λe=>e▸xg n a h⟩
theorem CW(x:Bool)(b:PV):fj b (.b x)=true↔b=.b x:=⟨sA _ _,λe=>by subst e;exact beq_self_eq_true x⟩
theorem KR(b:PV):fj b .n=true↔b=.n:=⟨sA _ _,λe=>by subst e;rfl⟩
theorem KU{a:PV}(h:xh a=true):∃x,a=.b x:=by induction a using d7<;>simp[xh]at h;exact⟨_,rfl⟩
theorem yq{a:PV}(h:xj a=true):a=.n\/∃x,a=.b x:=by induction a using d7<;>simp[xj]at h;exact .inl rfl;exact .inr ⟨_,rfl⟩
theorem ZM{a:PV}{n:Nat}(h:simple n a=true)(l:au):l.any (fj a)=true↔a∈l:=by rw[List.any_eq_true];exact⟨λ⟨x,hx,e⟩=>sA a x e▸hx,λhm=>aA a hm<|xg n a h⟩
set_option tactic.hygienic true in
theorem KV{H:ak}{b:PV}{f:Int->bK}(h:rA H b=some f):b=.d f\/∃n,b=.e n/\∃m,H[n]?=some (some<|.i m f):=by
 unfold rA at h;split at h
 ·exact .inl<|by exact rR (aK h) rfl
 ·split at h
  ·rename_i e;exact .inr<|zR _ rfl _ (by exact rR e<|rR (aK h) rfl)
  ·exact nN h
 ·exact nN h
set_option tactic.hygienic true in
theorem KW{H:ak}{b:PV}{p:aY×au}(h:xm H b=some p):b=.c p.1 p.2\/∃n,b=.e n/\H[n]?=some (some<|.s p.1 p.2):=by
 unfold xm at h;split at h
 ·have:=aK h;clear h;subst this;exact .inl rfl
 ·split at h
  ·rename_i e;have:=aK h;clear h;subst this;exact .inr<|aA _ rfl e
  ·exact nN h
 ·exact nN h
section
variable {H:ak}{a b:PV}{Q:Bool->Prop}{r:Bool}
set_option tactic.hygienic true in
theorem KY(h:xn H a b=some r):(∃l,e_ H b=some l/\simple 2 a=true/\l.all (simple 2)=true/\(r=true↔a∈l))\/
   (∃f i,(b=.d f\/∃n,b=.e n/\∃m,H[n]?=some (some<|.i m f))/\a=.i i/\r=(f i).isSome)\/
   (∃ks l x,(b=.c ks l\/∃n,b=.e n/\H[n]?=some (some<|.s ks l))/\a=.s x/\r=ks.contains x):=by
 unfold xn at h;split at h
 ·rename_i l e;split at h
  ·rename_i q;rw[cy]at q;have h:=aK h;subst h;exact .inl<|iq l e q.1 q.2<|ZM q.1 l
  ·exact nN h
 ·split at h
  ·refine gY h λf hf er=>?_;clear h;subst er;exact .inr<|.inl<|fg f _ (KV hf) rfl rfl
  ·refine gY h λp hp er=>?_;clear h;subst er;exact .inr<|.inr<|zS p.1 p.2 _ (KW hp) rfl rfl
  ·exact nN h
theorem KZ(h:mj H a b=true):((∃x y,a=.b x/\b=.b y)\/(simple 4 (view H a)=true/\simple 4 (view H b)=true))/\(fj (view H a) (view H b)=true↔view H a=view H b):=by
 unfold mj at h;rcases qX.mp h with h|h<;>rw[cy]at h
 ·(refine X1 (KU h.1) λx aN=>?_;subst aN)
  refine X1 (KU h.2) λy aQ=>?_;clear h;clear h;subst aQ;exact⟨.inl<|gR x y rfl rfl,CW y<|.b x⟩
 ·exact⟨.inr h,ZL h.1⟩
open Classical in
set_option tactic.hygienic true in
theorem sC{op:gw}(h:cE H op a b=some r)(q:Q r):mh H op a b Q:=by
 have dec:∀{P:Prop}[Decidable P](c:Bool),(c=true↔P)->decide P=c:=λc hc=>by
  induction c using cP<;>simp_all
 induction op using gw.casesOn with
 |e=>
  simp only[cE]at h;split at h
  ·rename_i e;have:=aK h;clear h;subst this;refine U1 (KZ e) λh1 h2=>?_;exact⟨h1,by refine rR (dec _ h2) ?_;exact q⟩
  ·exact nN h
 |n=>
  simp only[cE]at h;split at h
  ·rename_i e;have:=aK h;clear h;subst this;refine U1 (KZ e) λh1 h2=>?_;exact⟨h1,by refine rR (dec _ h2) ?_;exact q⟩
  ·exact nN h
 |l=>simp only[cE]at h;split at h<;>first|(have:=aK h;clear h;subst this;exact fg _ _ rfl rfl q)|exact nN h
 |a=>simp only[cE]at h;split at h<;>first|(have:=aK h;clear h;subst this;exact fg _ _ rfl rfl q)|exact nN h
 |g=>simp only[cE]at h;split at h<;>first|(have:=aK h;clear h;subst this;exact fg _ _ rfl rfl q)|exact nN h
 |b=>simp only[cE]at h;split at h<;>first|(have:=aK h;clear h;subst this;exact fg _ _ rfl rfl q)|exact nN h
 |s=>
  simp only[cE]at h;split at h
  ·rename_i e;have:=aK h;clear h;subst this;refine⟨yq e,?_⟩;rcases yq e with rfl|⟨x,rfl⟩
   ·refine rR (dec _ (KR a)) ?_;exact q
   ·refine rR (dec _ (CW x a)) ?_;exact q
  ·exact nN h
 |t=>
  simp only[cE]at h;split at h
  ·rename_i e;have:=aK h;clear h;subst this;refine⟨yq e,?_⟩;rcases yq e with rfl|⟨x,rfl⟩
   ·refine rR (dec _ (KR a)) ?_;exact q
   ·refine rR (dec _ (CW x a)) ?_;exact q
  ·exact nN h
 |i=>
  simp only[cE]at h;rcases KY h with⟨l,e1,e2,e3,e4⟩|⟨f,i,e1,e2,rfl⟩|⟨ks,l,x,e1,e2,rfl⟩
  ·exact .inl<|iq l e1 e2 e3<|by refine rR (dec _ e4) ?_;exact q
  ·exact .inr<|.inl<|fg f i e1 e2 q
  ·exact .inr<|.inr<|zS ks l x e1 e2 q
 |o=>
  simp only[cE]at h;refine gY h λr' h' er=>?_;clear h;subst er;rcases KY h' with⟨l,e1,e2,e3,e4⟩|⟨f,i,e1,e2,rfl⟩|⟨ks,l,x,e1,e2,rfl⟩
  ·exact .inl<|iq l e1 e2 e3<|by refine rR (dec _ e4) ?_;exact q
  ·exact .inr<|.inl<|fg f i e1 e2 q
  ·exact .inr<|.inr<|zS ks l x e1 e2 q
end
section
variable {H:ak}{a b i lo hi:PV}{Q:PV->Prop}{r:PV}
set_option tactic.hygienic true in
theorem ZN{op:lu}(h:kJ H op a b=some r)(q:Q r):xd H op a b Q:=by
 unfold kJ at h;split at h
 ·induction op using lu.casesOn with
  |a=>have:=aK h;clear h;subst this;exact .inl<|fg _ _ rfl rfl q
  |s=>have:=aK h;clear h;subst this;exact fg _ _ rfl rfl q
  |m=>
   simp only at h;split at h
   ·rename_i e;have:=aK h;clear h;subst this;rw[cy,sj,sj]at e;exact uc _ _ rfl rfl e.1 e.2 q
   ·exact nN h
  |f=>
   simp only at h;split at h
   ·rename_i e;have:=aK h;clear h;subst this;rw[cy,cy,sj,sj,ff]at e;exact Ft _ _ rfl rfl e.1.1 e.1.2 e.2 q
   ·exact nN h
  |o=>
   simp only at h;split at h
   ·rename_i e;have:=aK h;clear h;subst this;rw[ff]at e;exact fy _ _ rfl rfl e q
   ·exact nN h
 ·split at h
  ·split at h
   ·rename_i e1 e2;split at h
    ·rename_i e3;have:=aK h;clear h;subst this;exact .inr<|fy _ _ e1 e2 e3 q
    ·exact nN h
   ·exact nN h
  ·exact nN h
set_option tactic.hygienic true in
theorem ZO(h:gH H a i=some r)(q:Q r):An H a i Q:=by
 unfold gH at h;split at h
 ·refine bG h λp hp h=>?_;exact .inr<|.inr<|pY p.1 p.2 _ r (KW hp) rfl h q
 ·split at h
  ·rename_i l e;refine bG h λj hj h=>?_;exact .inl<|pZ l _ j r e rfl hj h q
  ·refine bG h λf hf h=>?_;refine gY h λv hv er=>?_;clear h;clear h;subst er;exact .inr<|.inl<|lY f _ v (KV hf) rfl hv q
 ·exact nN h
set_option tactic.hygienic true in
theorem K1{n d j:Nat}{p:PV}(h:ny n d p=some j):(p=.n/\j=d)\/∃k,p=.i k/\small k/\j=cutAt k n:=by
 unfold ny at h;split at h
 ·exact .inl ⟨rfl,(aK h).symm⟩
 ·split at h
  ·rename_i hs;exact .inr<|cM _ rfl (sj.mp hs) ((aK h).symm)
  ·exact nN h
 ·exact nN h
theorem ZP(h:ja H a lo hi=some r)(q:Q r):Hf H a lo hi Q:=by
 unfold ja at h;refine bG h λl hl' h=>?_;have hl:fh H a=some l\/a=.r l:=by
  unfold rB at hl';split at hl'
  ·exact .inr<|by exact rR (aK hl') rfl
  ·exact .inl hl'
 refine bG h λi hi' h=>?_;refine gY h λj hj er=>?_;clear h;clear h;subst er;exact lY l i j hl (K1 hi') (K1 hj) q
end
end
section
theorem K3{l r:List<|PySem.Str×Value}{n:PySem.Str}(h:n∉l.map (·.1)):(l++r).lookup n=r.lookup n:=by
 induction l with
 |nil=>rfl
 |cons p l ih=>
  rw[fK,eO,not_or]at h;refine rR List.cons_append<|rR m8 ?_
  have:(n==p.1)=false:=by simpa using h.1
  refine rR this ?_;exact ih h.2
theorem ZQ{l:List<|PySem.Str×Value}{n:PySem.Str}(h:n∉l.map (·.1)):l.lookup n=none:=by
 have:=K3 (r:=[]) h
 rwa[pN]at this
theorem K4{l:List<|PySem.Str×Value}{n:PySem.Str}(h:n∈l.map (·.1)):∃v,l.lookup n=some v:=by
 induction l with
 |nil=>simp at h
 |cons p l ih=>
  refine rR m8 ?_;cases hb:n==p.1 with
  |true=>exact⟨p.2,rfl⟩
  |false=>
   rw[fK,eO]at h;rcases h with h|h
   ·rw[h]at hb;simp at hb
   ·exact ih h
theorem qw{ns:List PySem.Str}:∀{ws:cz},(ns.zip ws).map (·.1)=ns.take ws.length:=by
 induction ns with
 |nil=>intro ws;simp
 |cons n ns ih=>intro ws;induction ws using b9 with
  |nil=>simp
  |cons w ws=>simp[ih]
theorem K5:∀{ns:List PySem.Str}{ws:cz}(pre:List<|PySem.Str×Value),ns.Nodup->(∀n∈ns,n∉pre.map (·.1))->ws.length=ns.length->
  ns.filterMap (λn=>((pre++ns.zip ws).lookup n).map λx=>(n,x))=ns.zip ws
 |[],ws,pre,_,_,_=>by simp
 |n::ns,[],pre,_,_,h=>by simp at h
 |n::ns,w::ws,pre,hn,hp,hl=>by
  refine U1 (kC.mp hn) λh1 h2=>?_;have e:∀m,(pre++(n::ns).zip (w::ws)).lookup m=((pre++[(n,w)])++ns.zip ws).lookup m:=λm=>by rw[List.append_assoc];rfl
  have e1:(pre++(n::ns).zip (w::ws)).lookup n=some w:=by refine rR (K3<|hp n cR) ?_;simp
  refine rR lg<|rR e1 ?_
  simp only[Option.map_some,List.zip_cons_cons]
  have ih:=K5 (pre++[(n,w)]) h2 (λm hm=>by
   refine rR kB ?_;rewrite[dR,not_or];refine⟨hp m<|dh _ hm,?_⟩;simp only[List.map_cons,List.map_nil,List.mem_singleton]
   exactλq=>h1<|q▸hm)<|by simpa using hl
  have cg:∀(f g:PySem.Str->Option (PySem.Str×Value))(l:List PySem.Str),(∀m∈l,f m=g m)->l.filterMap f=l.filterMap g:=λf g l h=>by
   induction l with
   |nil=>rfl
   |cons m l CU=>exact rR lg<|rR lg<|rR (h m cR)<|rR (CU λy hy=>h y<|dh _ hy) rfl
  have z:=cg (λm=>Option.map (λx=>(m,x))<|List.lookup m<|pre++(n::ns).zip (w::ws)) _ ns λm U=>by exact rR (e m) rfl
  exact congrArg _ (z.trans ih)
theorem CX{α β:Type}:∀(k:Nat)(ns:List α)(ws:List β),(ns.zip ws).take k=(ns.take k).zip (ws.take k)
 |0,ns,ws=>by simp
 |k+1,[],ws=>by simp
 |k+1,n::ns,[]=>by simp
 |k+1,n::ns,w::ws=>by simp[CX k ns ws]
theorem K6{α β:Type}:∀(k:Nat)(ns:List α)(ws:List β),(ns.zip ws).drop k=(ns.drop k).zip (ws.drop k)
 |0,ns,ws=>by simp
 |k+1,[],ws=>by simp
 |k+1,n::ns,[]=>by simp
 |k+1,n::ns,w::ws=>by simp[K6 k ns ws]
noncomputable def bindG(acc:List<|PySem.Str×Value)(x:PySem.Str×Value):List (PySem.Str×Value):=if(acc.lookup x.1).isNone then acc++[x]else acc
theorem K7:∀(l acc:List<|PySem.Str×Value),(∀x∈l,x.1∈acc.map (·.1))->l.foldl bindG acc=acc
 |[],acc,_=>rfl
 |x::l,acc,h=>by
  refine X1 (K4<|h x cR) λv hv=>?_;refine rR pO ?_;have:bindG acc x=acc:=by unfold bindG;refine rR hv ?_;rfl
  refine rR this ?_;exact K7 l acc λy hy=>h y<|dh _ hy
theorem K8:∀(l acc:List<|PySem.Str×Value),(∀x∈l,x.1∉acc.map (·.1))->(l.map (·.1)).Nodup->l.foldl bindG acc=acc++l
 |[],acc,_,_=>by simp
 |x::l,acc,h,hn=>by
  rw[fK]at hn;refine U1 (kC.mp hn) λh1 h2=>?_;refine rR pO ?_;have:bindG acc x=acc++[x]:=by unfold bindG;refine rR (ZQ<|h x cR) ?_;rfl
  rw[this,K8 l _ (λy hy=>by
   refine rR kB ?_;rewrite[dR,not_or];refine⟨h y<|dh _ hy,?_⟩;simp only[List.map_cons,List.map_nil,List.mem_singleton]
   exactλq=>h1<|q▸q7 hy) h2]
  simp
set_option tactic.hygienic true in
theorem ZR(l acc:List<|PySem.Str×Value):(forIn l acc λx __s=>if(List.lookup x.fst __s).isNone=true then(pure (ForInStep.yield<|__s++[(x.fst,x.snd)]):Sem _)
        else pure (ForInStep.yield __s))=pure (l.foldl bindG acc):=by
 induction l generalizing acc with
 |nil=>rfl
 |cons x l ih=>
  rewrite[List.forIn_cons];refine rR pO ?_;unfold bindG;split
  ·rename_i h;simp only[pure_bind];rw[ih];rfl
  ·rename_i h;simp only[pure_bind];rw[ih];rfl
theorem ZT{ns:List PySem.Str}{vals dv:cz}{a b:Nat}(hn:ns.Nodup)(hv:vals.length=a+b)(hl:vals.length<=ns.length):((ns.drop a).zip dv).foldl bindG (ns.zip vals)=ns.zip (vals++dv.drop b):=by
 have hsplit:((ns.drop a).zip dv).drop b=(ns.drop vals.length).zip (dv.drop b):=by(rewrite[K6];exact rR List.drop_drop<|rR hv rfl)
 have hk:(ns.zip vals).map (·.1)=ns.take vals.length:=qw;have hnd:(ns.take vals.length++ns.drop vals.length).Nodup:=by rw[q9];exact hn
 have g1:∀x∈((ns.drop a).zip dv).take b,x.1∈(ns.zip vals).map (·.1):=λx hx=>by
  have h7:x.1∈(((ns.drop a).zip dv).take b).map (·.1):=q7 hx;rw[CX,qw,List.take_take,List.take_drop]at h7;refine rR hk<|rR hv ?_
  exact(List.take_sublist_take_left<|Nat.add_le_add_left (by refine rR gU ?_;exact eR (jN _ _)<|jN _ _) a).subset<|List.mem_of_mem_drop h7
 have g2:∀x∈(ns.drop vals.length).zip (dv.drop b),x.1∉(ns.zip vals).map (·.1):=λx hx=>by have h7:x.1∈((ns.drop vals.length).zip<|dv.drop b).map (·.1):=q7 hx;rw[qw]at h7;refine rR hk ?_;exactλhx'=>(List.nodup_append.mp hnd).2.2 _ hx' _ (List.mem_of_mem_take h7) rfl
 have g3:(((ns.drop vals.length).zip<|dv.drop b).map (·.1)).Nodup:=by refine rR qw ?_;exact(hn.sublist<|List.drop_sublist _ _).sublist<|List.take_sublist _ _
 refine rL (q9 b<|(ns.drop a).zip dv)<|rR hsplit<|rR List.foldl_append<|rR (K7 _ (ns.zip vals) g1)<|rR (K8 _ _ g2 g3)<|rL (q9 vals.length ns)<|rR (List.zip_append<|by rw[gU];exact oz hl) ?_
 rewrite[q9];congr 1;refine rL (tU (l:=ns.zip vals) (i:=vals.length)<|by rw[List.length_zip];exact lV _ _) ?_;rewrite[CX];exact rR m_ rfl
theorem bind_none{ns:List PySem.Str}{vals:cz}{a:Nat}(h:a<=vals.length):(ns.take a).filter (λn=>(List.lookup n<|ns.zip vals).isNone)=[]:=by rw[List.filter_eq_nil_iff];intro n hm;refine X1 (K4 (l:=ns.zip vals) (n:=n)<|by refine rR qw ?_;exact(List.take_sublist_take_left h).subset hm) λv hv=>?_;refine rR hv ?_;exact gE
theorem K9{α:Type}{M:Model}{A:Around}{c:Prop}[Decidable c]{a b:Sem α}{Q:α->Shared->Prop}{E:cJ}{s:Shared}(h:¬c)(k:wpAny M A b Q E s):wpAny M A (if c then a else b) Q E s:=by refine rR (bO h) ?_;exact k
theorem ZU{M:Model}{A:Around}{l acc r:List<|PySem.Str×Value}{Q:List (PySem.Str×Value)->Shared->Prop}{E:cJ}{s:Shared}(h:l.foldl bindG acc=r)(q:Q r s):wpAny M A (forIn l acc λx __s=>if(List.lookup x.fst __s).isNone=true then(pure (ForInStep.yield<|__s++[(x.fst,x.snd)]):Sem _)
        else pure (ForInStep.yield __s)) Q E s:=by
 rewrite[ZR];refine rR h ?_;exact cF q
theorem ZV{fd:FuncData}{s:Shared}{vals dv:cz}{ns:List PySem.Str}(h1:fd.params.posonlyargs=[])(h2:fd.params.kwonlyargs=[])(h3:fd.params.vararg=none)(h4:fd.params.kwarg=none)
  (h5:fd.params.args.map (·.arg)=ns)(hn:ns.Nodup)(hd:∀(M:Model) (A:Around) (E:cJ) (Q:Option dg->Shared->Prop),(∀o,(o.getD #[]).toList=dv->Q o s)->wpAny M A (seqItems? fd.defaults) Q E s)
  (hl:vals.length<=ns.length)(hl2:ns.length<=vals.length+dv.length)(CY:dv.length<=ns.length):
  BindsTo s fd ⟨vals,[]⟩ (ns.zip<|vals++dv.drop (dv.length-(ns.length-vals.length))):=by
 intro M A E Q q;obtain⟨nm,qn,⟨po,ar,va,ko,kd,kw,df⟩,f3,f4,f5,f6,f7,f8,f9⟩:=fd;dsimp only at h1 h2 h3 h4 h5 hd;subst h1 h2 h3 h4 h5;show wpAny M A (seqItems? _>>=_) Q E s;refine a_ (hd M A _ _ λo ho=>?_);clear hd;subst ho;generalize ar.map (λx=>x.arg)=ns at hn hl hl2 CY q;have hb:vals.length=(ns.length-(o.getD #[]).toList.length)+((o.getD #[]).toList.length-(ns.length-vals.length)):=Qn hl hl2 CY;have c2:(o.getD #[]).toList.drop ((o.getD #[]).toList.length-ns.length)=(o.getD #[]).toList:=by exact rR (Nat.sub_eq_zero_of_le CY)<|rR List.drop_zero rfl
 refine K9 (show¬(decide (vals.length>ns.length)&&true)=true by refine rR (dG<|Nat.not_lt.mpr hl) ?_;exact gE) ?_
 refine K9 (show¬(!((ns.take<|ns.length-((o.getD #[]).toList.drop<|(o.getD #[]).toList.length-ns.length).length).filter λn=>(List.lookup n<|ns.zip vals).isNone).isEmpty)=true by
  refine rR c2<|rR (bind_none<|hb▸jt _ _) ?_;exact gE) ?_
 refine a_ (ZU (r:=ns.zip<|vals++(o.getD #[]).toList.drop ((o.getD #[]).toList.length-(ns.length-vals.length))) (show List.foldl bindG (ns.zip vals) ((ns.drop<|ns.length-((o.getD #[]).toList.drop<|(o.getD #[]).toList.length-ns.length).length).zip<|(o.getD #[]).toList.drop<|(o.getD #[]).toList.length-ns.length)=_ by
  refine rR c2 ?_;exact ZT hn hb hl) ?_)
 refine cF ?_;have:=K5 (ns:=ns) (ws:=vals++(o.getD #[]).toList.drop ((o.getD #[]).toList.length-(ns.length-vals.length))) [] hn (λU U=>List.not_mem_nil)<|by refine rR gF<|rR pP ?_;exact Qo hl hb
 rw[<-this]at q;show Q (List.filterMap _ (ns++[])) s;rw[pN];exact q
end
section
def all2(f:Value->PV->Bool):cz->au->Bool
 |[],l=>l.isEmpty
 |v::vs,l=>lC (λp ps=>f v p&&all2 f vs ps) l
def CZ(v:Value):PV->Bool
 |.n=>decide<|v=.none
 |.b b=>decide<|v=.bool b
 |.i b=>vInt (λi=>decide<|i=b) v
 |.s b=>vStr (λi=>decide<|i=Sx b) v
 |.t _=>false
 |.l _=>false
 |.r _=>false
 |.d _=>false
 |.c _ _=>false
 |.o _ _ _=>false
 |.e _=>false
def K_(K:Frag)(f:Value->PV->Bool)(v:Value)(p:PV):Bool:=xZ (λa=>oS (λo=>decide (o.cls=.type "tuple")&&x8 (λvs=>decide (vs.size<=2^20)&&(xu p λl=>some<|all2 f vs.toList l).getD false) o.data)<|K.lookup a) v
def qx(K:Frag):Nat->Value->PV->Bool
 |0,v,p=>CZ v p
 |n+1,v,p=>CZ v p||K_ K (qx K n) v p
section
variable {X:Cx}{cf:Cf}{h:Heap}
theorem La{f:Value->PV->Bool}(hf:∀v p,f v p=true->Rep X cf h p v):∀(vs:cz){l:au},all2 f vs l=true->aO X cf h l vs:=by
 intro vs
 induction vs with
 |nil=>exactλe=>jF _ e aO.gk
 |cons v vs ih=>exactλe=>xY _ e λp ps e=>aO.fD (hf v p (band e).1)<|ih (band e).2
theorem Lc{v:Value}{p:PV}(e:CZ v p=true):Rep X cf h p v:=by
 induction p using d7 with
 |n=>refine rR (cG e) ?_;exact kL
 |b b=>refine rR (cG e) ?_;exact lA
 |i b=>exact Yj v e λi t e=>cG e▸gm
 |s b=>exact Yk v e λi t e=>cG e▸B0
 |_=>nomatch e
theorem ZW{o:Option Bool}(e:o.getD false=true):o=some true:=by
 induction o using e9 with
 |none=>nomatch e
 |some b=>exact congrArg some e
theorem ZX(T:eK X)(S:aU X cf h){f:Value->PV->Bool}(hf:∀v p,f v p=true->Rep X cf h p v){v:Value}{p:PV}(e:K_ X.K f v p=true):Rep X cf h p v:=by
 refine JI v e λa e=>?_;cases ho:X.K.lookup a with
 |none=>rw[ho]at e;nomatch e
 |some o=>
  rw[ho]at e;refine U1 (band e) λe1 e2=>?_;refine U1 (S.base a o<|T.w_ a o ho) λg1 g2=>?_;obtain⟨vs,k,hd,e2⟩:∃vs k,o.data=.seq vs k/\(decide (vs.size<=2^20)&&(xu p λl=>some<|all2 f vs.toList l).getD false)=true:=JJ o.data e2 λvs k e=>gR vs k rfl e;refine xw (ZW (band e2).2) λl el e3=>?_;clear e;clear e;subst el;exact⟨a,vs,rfl,g2,ua o g1 (cG e1) k hd,cG (band e2).1,La hf _ (aK e3)⟩
theorem Ld(T:eK X)(S:aU X cf h):∀(n:Nat)(v:Value)(p:PV),qx X.K n v p=true->Rep X cf h p v:=by
 intro n
 induction n with
 |zero=>exactλv p e=>Lc e
 |succ n ih=>exactλv p e=>(qX.mp e).elim Lc<|ZX T S ih
end
structure FnAt (X:Cx)(f:Addr)(fd:FuncData)(body:List Stmt)(ns:aY)(np:Nat)(dv:au):Prop where
 obj:∃oc od osl,X.K.lookup f=some ⟨oc,od,.func fd,osl⟩
 ZY:fd.body=.stmts body
 ZZ:fd.globals=mainGlobals
 blt:fd.builtins=builtinsNs
 Z0:fd.closure=[]
 co:fd.scope.isCoroutine=false
 gen:fd.scope.isGenerator=false
 kind:fd.scope.kind=.function
 code:codeIn X.K fd.code fd.qualname=true
 p1:fd.params.posonlyargs=[]
 p2:fd.params.kwonlyargs=[]
 p3:fd.params.vararg=none
 p4:fd.params.kwarg=none
 args:fd.params.args.map (·.arg)=(ns.take np).map Sx
 pe:np<=ns.length
 nodup:ns.Nodup
 snd:(fd.scope.names.map (·.1)).Nodup
 kinds:∀x∈ns.take np,fd.scope.names.lookup (Sx x)=some .local\/fd.scope.names.lookup (Sx x)=some .cell
 dflt:(fd.defaults=.none/\dv=[])\/∃T o items n,fd.defaults=.ref T/\X.K.lookup T=some o/\o.data=.seq items n/\all2 (qx X.K 3) items.toList dv=true
 Z1:dv.length<=np
section
variable {k:PySem.Str->Option NameKind}
theorem Lf:∀{binds:List<|PySem.Str×Value}{m:PySem.Str->Option Value}{n:PySem.Str},n∉binds.map (·.1)->bindL k binds m n=m n
 |[],m,n,_=>rfl
 |(y,v)::r,m,n,h=>by
  rw[fK,eO,not_or]at h;unfold bindL;refine rR (Lf h.2) ?_;split
  ·show(if n=y then some v else m n)=m n;exact rR (bO h.1) rfl
  ·rfl
theorem Lg:∀{binds:List<|PySem.Str×Value}{m:PySem.Str->Option Value}{n:PySem.Str}{v:Value},(binds.map (·.1)).Nodup->(n,v)∈binds->k n=some .local->bindL k binds m n=some v
 |[],_,_,_,_,hm,_=>absurd hm List.not_mem_nil
 |(y,w)::r,m,n,v,hn,hm,hk=>by
  rw[fK]at hn;refine U1 (kC.mp hn) λh1 h2=>?_;unfold bindL;rcases eO.mp hm with e|hm
  ·clear hm;clear hn;obtain⟨rfl,rfl⟩:=jv e;refine rR (Lf h1)<|rR (bw hk) ?_
   simp
  ·exact Lg h2 hm hk
theorem Lh:∀{binds:List<|PySem.Str×Value}{m:PySem.Str->Option Value}{n:PySem.Str},n∉binds.map (·.1)->bindC k binds m n=m n
 |[],m,n,_=>rfl
 |(y,v)::r,m,n,h=>by
  rw[fK,eO,not_or]at h;unfold bindC;refine rR (Lh h.2) ?_;split
  ·rfl
  ·show(if n=y then some v else m n)=m n;exact rR (bO h.1) rfl
theorem Li:∀{binds:List<|PySem.Str×Value}{m:PySem.Str->Option Value}{n:PySem.Str}{v:Value},(binds.map (·.1)).Nodup->(n,v)∈binds->k n=some .cell->bindC k binds m n=some v
 |[],_,_,_,_,hm,_=>absurd hm List.not_mem_nil
 |(y,w)::r,m,n,v,hn,hm,hk=>by
  rw[fK]at hn;refine U1 (kC.mp hn) λh1 h2=>?_;unfold bindC;rcases eO.mp hm with e|hm
  ·clear hm;clear hn;obtain⟨rfl,rfl⟩:=jv e;refine rR (Lh h1)<|rR (bO<|by rw[hk];decide) ?_
   simp
  ·exact Li h2 hm hk
end
theorem C0{p:PySem.Str×Addr}:∀{ai:List<|PySem.Str×NameKind}{n:Nat}{acc:List<|PySem.Str×Addr},p∈acc->p∈cellsFrom n ai acc
 |[],_,_,h=>h
 |(y,k)::r,n,acc,h=>by
  unfold cellsFrom;split
  ·exact C0<|dh _ h
  ·exact C0 h
theorem Lj{x:PySem.Str}:∀{ai:List<|PySem.Str×NameKind}{n:Nat}{acc:List<|PySem.Str×Addr},(x,NameKind.cell)∈ai->∃c,(x,c)∈cellsFrom n ai acc
 |(y,k)::r,n,acc,h=>by
  unfold cellsFrom;rcases eO.mp h with e|h
  ·clear h;obtain⟨rfl,rfl⟩:=jv e;simp only[beq_self_eq_true,if_true];exact⟨_,C0 cR⟩
  ·split<;>exact Lj h
theorem C1:∀{ai:List<|PySem.Str×NameKind}{n:Nat}{acc:List<|PySem.Str×Addr},(acc.map (·.1)++ai.map (·.1)).Nodup->((cellsFrom n ai acc).map (·.1)).Nodup
 |[],n,acc,h=>by simpa[cellsFrom]using h
 |(y,k)::r,n,acc,h=>by
  unfold cellsFrom;rw[fK]at h;split
  ·refine C1 ?_;refine rR fK<|rR List.cons_append ?_
   exact(List.perm_middle.nodup_iff).mp h
  ·refine C1 ?_;exact h.sublist<|List.Sublist.append_left (List.sublist_cons_self _ _) _
theorem C2{x:PySem.Str}{ai:List<|PySem.Str×NameKind}{n:Nat}(h:ai.lookup x=some .cell):∃c,(cellsFrom n ai []).lookup x=some c:=by
 refine X1 (Lj (n:=n) (acc:=[])<|iG h) λc hm=>?_;cases e:(cellsFrom n ai []).lookup x with
 |some c'=>exact⟨c',rfl⟩
 |none=>rw[List.lookup_eq_none_iff]at e;have:=e _ hm;simp at this
theorem Ll{α:Type}:∀{l:List<|PySem.Str×α}{n:PySem.Str}{c:α},(l.map (·.1)).Nodup->(n,c)∈l->l.lookup n=some c
 |[],_,_,_,hm=>absurd hm List.not_mem_nil
 |(y,d)::r,n,c,hn,hm=>by
  rw[fK]at hn;refine U1 (kC.mp hn) λh1 h2=>?_;refine rR m8 ?_;rcases eO.mp hm with e|hm
  ·clear hm;clear hn h1;obtain⟨rfl,rfl⟩:=jv e;simp
  ·have:(n==y)=false:=by have:n≠y:=λq=>h1 (q▸q7 (f:=(·.1)) hm);simpa using this
   refine rR this ?_;exact Ll h2 hm
section
variable {X:Cx}{d:Nat}{A:Around}{cf:Cf}{s:Shared}
theorem Z2{fd:FuncData}{body:List Stmt}{ns:aY}{np:Nat}{dv jX:au}{vs:cz}{f:Addr}{aa:Env}{s':Shared}{binds:List<|PySem.Str×Value}(F:FnAt X f fd body ns np dv)(S:aU X cf s.heap)(r:aO X cf s.heap jX vs)(hl:jX.length=np)
  (hb:binds=((ns.take np).map Sx).zip vs)(he:aa=newEnv fd.scope s.heap.objs.size fd.globals (cellsFrom (s.heap.objs.size+1) fd.scope.names []) (fd.qualname++".<locals>.") (some f) fd.code none fd.builtins)
  (x:InCallC s aa.locals (bindL aa.kindOf binds λU=>none) aa.cells (bindC aa.kindOf binds λU=>none) s'):
  ∃W,Step cf s (iA cf W) s'/\aU X (iA cf W) s'.heap/\(∀b∈W,(iA cf W).O b/\¬Own (iA cf W) b)/\(∀b∈W,s.heap.get? b=none)/\(∀b,cN aa b->b∈W)/\c5 s.heap s'.heap/\(∀b∈W,∃o,s'.heap.get? b=some o)/\
   cK X (iA cf W) aa (ns.map some) (jX.map some++List.replicate (ns.length-np) none) s'.heap:=by
 have hL:aa.locals=s.heap.objs.size:=by refine rR he ?_;rfl
 have hC:aa.cells=cellsFrom (s.heap.objs.size+1) fd.scope.names []:=by refine rR he ?_;rfl
 have hS:aa.scope=fd.scope:=by refine rR he ?_;rfl
 have hk:∀y,aa.kindOf y=fd.scope.names.lookup y:=λy=>by unfold Env.kindOf;exact rR hS rfl
 have nd:(aa.cells.map (·.1)).Nodup:=by refine rR hC ?_;exact C1<|by simpa using F.snd
 refine X2 x.toInCall.same λh' t aR=>?_;subst aR;have g:c5 s.heap h':=x.toInCall.keep;have Z3:∀n c,(n,c)∈aa.cells->h'.IsCell c (bindC aa.kindOf binds (λU=>none) n):=λn c hm=>x.cell n c<|Ll nd hm
 have new:∀b∈aa.locals::aa.cells.map (·.2),s.heap.get? b=none:=λb hb=>by
  rcases eO.mp hb with rfl|hb
  ·refine rR hL ?_;exact jB<|bY _
  ·(refine aC (bV.mp hb) λaT hm aL=>?_;obtain⟨n,c⟩:=aT;clear hb;clear hb;subst aL)
   have h1:=x.above n c hm;rw[hL]at h1;exact jB<|Nat.le_of_lt h1
 have live:∀b∈aa.locals::aa.cells.map (·.2),∃o,h'.get? b=some o:=λb hb=>by
  rcases eO.mp hb with rfl|hb
  ·refine t8 x.toInCall.ns λo U U e U=>?_;exact⟨o,e⟩
  ·(refine aC (bV.mp hb) λaM hm aP=>?_;obtain⟨n,c⟩:=aM;clear hb;clear hb;subst aP)
   refine aC (Z3 n c hm) λo e U=>?_;exact⟨o,e⟩
 refine U2 (aside (t:=t) S g new live) λst S' hW=>?_;have fr:∀b,cN aa b->b∈aa.locals::aa.cells.map (·.2):=λb hb=>by
  rcases hb with rfl|⟨n,hm⟩
  ·exact cR
  ·exact dh _ (q7 (f:=(·.2)) hm)
 refine PK (aa.locals::aa.cells.map (·.2)) st S' hW new fr g live ?_;have gJ:vs.length=np:=by exact rR r.length<|rR hl rfl
 have sD:((ns.take np).map Sx).length=np:=by(rewrite[bI];refine rR gU ?_);have:=F.pe;exact FZ this
 have Lm:(binds.map (·.1)).Nodup:=by
  refine rR hb<|rR qw<|rR (tU<|by rw[sD,gJ];exact bY _) ?_
  exact(wq.mpr<|pR.mpr ((wq.mp<|F.nodup.sublist<|List.take_sublist _ _).imp λh e=>h<|lq e))
 refine⟨by refine rR hS ?_;exact F.kind,by refine rR he ?_;exact F.ZZ,by refine rR he ?_;exact F.blt,(hW _ cR).1,λn c hm=>⟨(hW _ (fr c<|.inr ⟨n,hm⟩)).1,λe=>?_⟩,x.apart,λy hy=>?_,λb Lo=>⟨λe=>?_,λn c hm e=>?_⟩,
  _,_,x.toInCall.ns,x.cell,λi y pv hi hp=>?_⟩
 ·have:=x.above n c hm;rw[e]at this;exact q_ _ this
 ·rw[hk]at hy;refine rR hC ?_;exact C2 hy
 ·exact(hW b<|fr b<|.inl e).2 Lo
 ·exact(hW b<|fr b<|.inr ⟨n,e▸hm⟩).2 Lo
 ·rw[cQ]at hi;refine aC (gV.mp hi) λy' hy e=>?_;cases e;have pg:i<np:=by
   rcases dm i np with h|h
   ·exact h
   ·rw[ku<|by(rewrite[bI];refine rR hl ?_);exact h]at hp;have:=dY hp;rw[List.mem_replicate]at this;cases this.2
  rw[iZ<|by(rewrite[bI];refine rR hl ?_);exact pg,cQ]at hp;refine aC (gV.mp hp) λpv' Z4 e=>?_;cases e;refine aC (r.get Z4) λv hv rv=>?_;have Lp:(ns.take np)[i]?=some y:=by rw[tO pg];exact hy
  have hm:(Sx y,v)∈binds:=by refine rR hb ?_;refine dY (i:=i) ?_;rw[List.getElem?_zip_eq_some];exact⟨by rw[cQ,Lp];rfl,hv⟩
  refine aA v (rv.mono<|st.kept S.own) ?_;rcases F.kinds y (dY Lp)with h1|h1
  ·exact .inl ⟨(hk _).trans h1,Lg Lm hm<|(hk _).trans h1⟩
  ·exact .inr ⟨(hk _).trans h1,by refine rR hC ?_;exact C2 h1,Li Lm hm<|(hk _).trans h1⟩
theorem yr{fd:FuncData}{body:List Stmt}{ns:aY}{np:Nat}{dv args:au}{vs:cz}{f:Addr}{P:dW->ak->Prop}{R:Result->Shared->Prop}(T:eK X)(hA:c7 (d+1) A)(F:FnAt X f fd body ns np dv)(S:aU X cf s.heap)
  (r:aO X cf s.heap args vs)(hl:args.length<=np)(hl2:np<=args.length+dv.length)
  (h:∀aa,aa.scope.names=fd.scope.names->aa.scope.kind=.function->iQ X d aa (ns.map some) ((args++dv.drop (dv.length-(np-args.length))).map some++List.replicate (ns.length-np) none) body cf.H (λaf U h=>P af h))
  (k:∀aI af v s',Step cf s aI s'->aU X aI s'.heap->Rep X aI s'.heap (fX af) v->P af aI.H->R (.ok<|.ret v) s'):codeAny (model X.prog X.w) A (.call (.ref f) ⟨vs,[]⟩) R s:=by
 refine X3 F.obj λoc od osl hK=>?_;have KI:=qe T S;have hb0:∀b o,X.b0.get? b=some o->s.heap.get? b=some o:=λb o e=>(S.base b o e).1;have lim:s.heap.NoLimit:=T.nolimit.keeps hb0
 
 obtain⟨mJ,rd,hd⟩:∃mJ:cz,aO X cf s.heap dv mJ/\(∀(M:Model)(A:Around)(E:cJ)(Q:Option dg->Shared->Prop),(∀o,(o.getD #[]).toList=mJ->Q o s)->wpAny M A (seqItems? fd.defaults) Q E s):=by
  clear hl2 h;rcases F.dflt with⟨e,rfl⟩|⟨T',o,items,n,e,hT,hdt,ha⟩
  ·exact aA [] aO.gk λM A E Q q=>by refine rR e ?_;exact cF<|q none rfl
  ·exact aA items.toList (La (λv p=>Ld T S 3 v p) _ ha) λM A E Q q=>by refine rR e ?_;exact pV (KI _ _ hT) hdt<|q _ rfl
 have C3:vs.length=args.length:=r.length;have C4:mJ.length=dv.length:=rd.length;have sD:((ns.take np).map Sx).length=np:=by(rewrite[bI];refine rR gU ?_);have:=F.pe;exact FZ this
 have Z5:((ns.take np).map Sx).Nodup:=wq.mpr<|(pR.mpr ((wq.mp<|F.nodup.sublist<|List.take_sublist _ _).imp λh e=>h<|lq e))
 refine codeAny_call_function (by have:=hA.dep;show A.depth<1000;exact Qp this) (KI _ _ hK) rfl F.co F.gen F.ZY (codeRec_of KI F.code) ?_;have dl:=F.Z1;refine ZV F.p1 F.p2 F.p3 F.p4 F.args Z5 hd (Qq hl C3 sD) (Qs hl2 C3 C4 sD) (Qt C4 sD dl) _ _ _ _ ?_;refine rR F.Z0 ?_;have Z6:aO X cf s.heap (args++dv.drop (dv.length-(np-args.length))) (vs++mJ.drop (dv.length-(np-args.length))):=r.append<|rd.drop _
 have Z7:(args++dv.drop (dv.length-(np-args.length))).length=np:=by refine rR gF<|rR pP ?_;exact Qu hl hl2
 refine wpAny_newFunctionEnv_cells F.kind (λy hy=>?_) λaa he s' x=>?_
 ·have:y.1∈(((ns.take np).map Sx).zip<|vs++mJ.drop (mJ.length-(((ns.take np).map Sx).length-vs.length))).map (·.1):=q7 hy;rw[qw]at this;refine aC (bV.mp<|List.mem_of_mem_take this) λz hz e=>?_;refine rL e ?_;rcases F.kinds z hz with h1|h1
  ·exact .inl h1
  ·refine X1 (C2 (n:=s.heap.objs.size+1) h1) λc hc=>?_;exact .inr ⟨h1,by refine rR hc ?_;rfl⟩
 ·have Z8:((ns.take np).map Sx).zip (vs++mJ.drop (mJ.length-(((ns.take np).map Sx).length-vs.length)))=((ns.take np).map Sx).zip (vs++mJ.drop (dv.length-(np-args.length))):=by exact rR sD<|rR C3<|rR C4 rfl
  rw[Z8]at x;refine Pz (Z2 F S Z6 Z7 rfl he x) λW st S' hW new fr g live R'=>?_;refine⟨lim.keeps x.toInCall.keep,codeAny_func ?_⟩;have hs1:aa.scope.names=fd.scope.names:=by refine rR he ?_;rfl
  have hs2:aa.scope.kind=.function:=by refine rR he ?_;exact F.kind
  refine bz (h aa hs1 hs2 (A.deeper aa) (iA cf W) s' _ (hA.deeper aa) rfl S' R') (λfl s₂ y=>?_) λU U y=>y;obtain⟨aI,af,cZ,cU,S₂,fN,uU,q⟩:=y;have B:mF X (λU=>False) cf s [] W:=⟨S,λU h=>h.elim,new,λU hb=>by simp at hb⟩
  have L:LI X (λU=>False) cf s [] W (λU U=>True) 0 (iA cf W) s':=⟨st.toF,S',hW,trivial⟩
  have L₂:=LI.body (G:=cN aa) B L (λU U U U hb=>by simp at hb) (λU U U U U=>trivial) live (λb hb=>.inr<|fr b hb) (λU hb=>by simp at hb) cU S₂;refine U2 (LI.drop (h':=s₂.heap) (t:=s₂.toks) B L₂ λU U U e=>e) λsd Sd Kd=>?_;refine k (oW aI W) af _ s₂ sd.toStep Sd ?_ q
  induction af using dW.casesOn with
  |n=>obtain rfl:fl=.next:=uU;exact kL
  |b=>obtain rfl:fl=.brk:=uU;exact kL
  |c=>obtain rfl:fl=.cont:=uU;exact kL
  |r p=>
   refine aC uU λv aN rv=>?_;clear uU;subst aN;exact rv.mono Kd
end
end
section
theorem c7.under{d:Nat}{A:Around}(x:c7 (d+1) A)(C:Addr)(vals:cz):c7 d (A.under<|.builtin "type.__call__" ⟨.ref C::vals,[]⟩):=by
 have h1:=x.dep;have h2:=x.units;have e1:(A.under<|.builtin "type.__call__" ⟨.ref C::vals,[]⟩).depth=A.depth+1:=depth_under_kw A C vals [];have e2:(A.under<|.builtin "type.__call__" ⟨.ref C::vals,[]⟩).units=A.units+(Code.builtin "type.__call__" ⟨.ref C::vals,[]⟩).cUnits:=rfl;have e3:(Code.builtin "type.__call__" ⟨.ref C::vals,[]⟩).cUnits<=9:=by
  have:(Code.builtin "type.__call__" ⟨.ref C::vals,[]⟩).cUnits=(Code.builtin "type.__call__" ⟨[.none],[]⟩).cUnits:=rfl;refine rR this ?_
  decide+kernel
 exact⟨x.hh,by refine rR e1 ?_;exact A5 h1,by refine rR e2 ?_;exact Qv h2 e3⟩
theorem Lq{α:Type}{c:Bool}{x:Option α}{y:α}{G:Prop}(h:(if c=true then x else none)=some y)(k:c=true->x=some y->G):G:=by
 induction c using cP with
 |false=>exact nN h
 |true=>exact k rfl h
def BodyOk(X:Cx)(d:Nat)(Γ:b7)(ir:bl)(fd:FuncData)(body:List Stmt):Prop:=
 ∀aa ae H r,aa.scope.names=fd.scope.names->aa.scope.kind=.function->ae.length=ir.names.length->aF Γ ir.body ae H=some r->
  iQ X d aa (ir.names.map some) ae body H (λaf cZ h=>af=r.1/\h=r.2.2)
theorem Z9{ir:bl}{vs:au}(h:vs.length<=ir.names.length):(g7 ir vs).length=ir.names.length:=by unfold g7;(refine rR gF ?_;rewrite[bI];refine rR List.length_replicate ?_);exact ug h
set_option tactic.hygienic true in
theorem Lr{ir:bl}{args vs:au}(h:jb ir args=some vs):args.length<=ir.arity/\ir.arity<=args.length+ir.defaults.length/\vs=args++ir.defaults.drop (ir.defaults.length-(ir.arity-args.length))/\vs.length=ir.arity:=by
 unfold jb at h;split at h
 ·rename_i q;have h:=aK h;subst h;exact⟨q.1,q.2,rfl,by exact rR gF<|rR pP<|rR (Nat.sub_sub_self<|Nat.sub_le_iff_le_add'.mpr q.2)<|rR (Nat.add_sub_cancel' q.1) rfl⟩
 ·exact nN h
section
variable {X:Cx}{d:Nat}{Γ:b7}{ir:bl}{fd:FuncData}{body:List Stmt}{args:au}{H H':ak}{p:PV}{f C:Addr}
noncomputable def qy(cf:Cf):Cf:={ρ:=[],O:=cf.O,H:=[]}
theorem C5{cf:Cf}{b:Addr}(h:Own (qy cf) b):False:=by obtain⟨n,ao,q,e,_⟩:=h;simp[qy]at e
theorem C6{cf:Cf}{h:Heap}(S:aU X cf h):aU X (qy cf) h:=
 ⟨rfl,λn ao q e=>by simp[qy]at e,λb h=>(C5 h).elim,λn m ao bo q u e=>by simp[qy]at e,S.here,S.base⟩
theorem Ls{cf aI lE:Cf}{s s':Shared}{v:Value}{n:Nat}{p0:PV}{G:Value->Cf->Shared->Prop}(S:aU X cf s.heap)(h0:∀b,¬Own lE b\/s.heap.get? b=none)(hO:∀b,cf.O b->lE.O b)(st:Step lE s aI s')(S':aU X aI s'.heap)
  (r:Rep X aI s'.heap p0 v)(hz:b8 n aI.H p0=some p)(q:Rep X cf s'.heap p v->G v cf s'):bC X cf s G v s':=by
 have g:c5 s.heap s'.heap:=λb o e=>st.keep b o ((h0 b).resolve_right λq=>by rw[q]at e;exact nN e) e
 have rr:Rep X cf s'.heap p v:=ZK S' (λa ha hc=>ha (by
   refine X1 (S.here a hc) λo e=>?_
   exact st.avoid a o (hO a hc) ((h0 a).resolve_right λq=>by rw[q]at e;exact nN e) e))
  (λb hb hc=>by
   refine X1 (S.here b hc) λo e=>?_;rcases st.owned b hb with h|h
   ·rcases h0 b with h'|h'
    ·exact h' h
    ·rw[e]at h';exact sN h'
   ·rw[e]at h;exact sN h) n hz r
 refine X2 st.same λh2 t2 aQ=>?_;clear st S' r;subst aQ;exact bC.grown S g<|q rr
inductive C7 (Γ:b7)(ir:bl)(vs:au)(p:PV)(H H':ak):Prop
 |pure (r:dW×bF×ak) (hz:vs.all (fz 8)=true) (hr:aF Γ ir.body (g7 ir vs) []=some r) (hf:b8 6 r.2.2 (fX r.1)=some p) (e:H'=H):C7 Γ ir vs p H H'
 |imp (r:dW×bF×ak) (hr:aF Γ ir.body (g7 ir vs) H=some r) (e:p=fX r.1) (e2:H'=r.2.2):C7 Γ ir vs p H H'
theorem Z_(hk:ir.kind=.f)(h:jA Γ ir args H=some (p,H')):∃vs,jb ir args=some vs/\C7 Γ ir vs p H H':=by
 unfold jA at h;refine bG h λws hf h=>?_;rw[hk]at h;refine aA ws hf ?_;clear hf hk;cases hp:ir.pure with
 |true=>
  rw[hp]at h;refine Lq h λhz h=>?_;refine bG h λr1 hr h=>?_;refine gY h λp' lB e=>?_;clear h;clear h;obtain⟨rfl,rfl⟩:=jv e;exact .pure r1 hz hr lB rfl
 |false=>
  rw[hp]at h;refine gY h λr1 hr e=>?_;clear h;clear h;obtain⟨rfl,rfl⟩:=jv e;exact .imp r1 hr rfl rfl
theorem yt{vs:au}{m:Nat}{r:dW×bF×ak}{aa:Env}(B:BodyOk X d Γ ir fd body)(h1:aa.scope.names=fd.scope.names)(h2:aa.scope.kind=.function)(l3:vs.length=m)(pe:m<=ir.names.length)(hr:aF Γ ir.body (g7 ir vs) H=some r):
  iQ X d aa (ir.names.map some) (vs.map some++List.replicate (ir.names.length-m) none) body H (λaf U h=>af=r.1/\h=r.2.2):=by
 subst l3;exactλA cf s E a b c e=>bz (B aa _ _ r h1 h2 (Z9 pe) hr A cf s E a b c e) (λU U y=>y.mono λU U U z=>z) λU U y=>y
theorem Lu(T:eK X)(F:FnAt X f fd body ir.names ir.arity ir.defaults)(hk:ir.kind=.f)(B:BodyOk X d Γ ir fd body)(h:jA Γ ir args H=some (p,H')):
  nG X (d+1) (.ref f) args H (λq h=>q=p/\h=H'):=λA cf s E vs hA hH S r=>by
 subst hH;refine aC (Z_ hk h) λws hf h=>?_;refine U3 (Lr hf) λl1 l2 aR l3=>?_;clear hf;subst aR;refine wpAny_call ?_;cases h with
 |pure r1 hz hr hp e=>
  clear h;subst e;rw[List.all_append,cy]at hz;refine yr T hA F (C6 S) (o_ (cf:=qy cf) (aI:=cf) (λa h=>h) 8 args hz.1 r) l1 l2 (P:=λaf h=>af=r1.1/\h=r1.2.2) (λaa h1 h2=>yt B h1 h2 l3 F.pe hr) λaI af v s' st S' rv q=>?_;refine U1 q λaT hq=>?_;clear q;subst aT;rw[<-hq]at hp;exact Ls S (λb=>.inl C5) (λU h=>h) st S' rv hp λrr=>⟨p,rr,rfl,rfl⟩
 |imp r1 hr e e2=>
  clear h;subst e e2;refine yr T hA F S r l1 l2 (P:=λaf h=>af=r1.1/\h=r1.2.2) (λaa h1 h2=>yt B h1 h2 l3 F.pe hr) λaI af v s' st S' rv q=>?_;refine U1 q λaL hq=>?_;clear q;subst aL;exact⟨aI,st,S',fX r1.1,rv,rfl,hq⟩
structure Z' (X:Cx)(C f:Addr):Prop where
 makes:makesIn X.K C=true
 init:findIn X.K (.ref C) "__init__"=some (some<|.ref f)
 fn:typeIn X.K (.ref f)=some (.type "function")
set_option tactic.hygienic true in
theorem Lv{r:dW×bF×ak}{h:ak}(e:rF r=some h):r.1=.n/\h=r.2.2:=by
 unfold rF at e;split at e
 ·rename_i q;exact⟨q,(aK e).symm⟩
 ·exact nN e
theorem ac:jy [] []:=aA [] rfl rfl
theorem Lw{cf:Cf}{s:Shared}{c:String}(S:aU X cf s.heap)(hC:jQ X.K c=some C):
  Step cf s (eU cf (s.heap.objs.size+1) s.heap.objs.size<|.n c [] []) {s with heap:=(s.heap.push emptyDict).push<|instObj C s.heap.objs.size,toks:=s.toks}/\
  aU X (eU cf (s.heap.objs.size+1) s.heap.objs.size<|.n c [] []) ((s.heap.push emptyDict).push<|instObj C s.heap.objs.size)/\
  Rep X (eU cf (s.heap.objs.size+1) s.heap.objs.size<|.n c [] []) ((s.heap.push emptyDict).push<|instObj C s.heap.objs.size) (.e cf.H.length) (.ref<|s.heap.objs.size+1)/\
  Kept cf s.heap (eU cf (s.heap.objs.size+1) s.heap.objs.size<|.n c [] []) ((s.heap.push emptyDict).push<|instObj C s.heap.objs.size):=by
 have e1:((s.heap.push emptyDict).push<|instObj C s.heap.objs.size).get? (s.heap.objs.size+1)=some (instObj C s.heap.objs.size):=by
  have:=ik (s.heap.push emptyDict) (o:=instObj C s.heap.objs.size) rfl
  rwa[Heap.size_push]at this
 have e2:((s.heap.push emptyDict).push<|instObj C s.heap.objs.size).get? s.heap.objs.size=some (dictOf [] 0):=jq _ (ik _ rfl);exact xB S ((c5.push _ _).trans<|c5.push _ _) (Nat.le_succ _) (bY _) ⟨_,e1⟩ ⟨_,e2⟩
  ⟨λe=>absurd (show(s.heap.objs.size:Nat)=s.heap.objs.size+1 from e) Qw,C,[],0,hC,e1,e2,ac,aO.gk⟩
inductive C8 (Γ:b7)(ir:bl)(vs:au)(p:PV)(H H':ak):Prop
 |pure (r:dW×bF×ak) (hz:vs.all (fz 8)=true) (hr:aF Γ ir.body (g7 ir<|PV.e 0::vs) [some<|.n ir.name [] []]=some r) (hn:r.1=.n) (hf:b8 6 r.2.2 (.e 0)=some p) (e:H'=H):C8 Γ ir vs p H H'
 |imp (r:dW×bF×ak) (hr:aF Γ ir.body (g7 ir<|PV.e H.length::vs) (H++[some<|.n ir.name [] []])=some r) (hn:r.1=.n) (e:p=.e H.length) (e2:H'=r.2.2):C8 Γ ir vs p H H'
theorem ag(hk:ir.kind=.c)(h:jA Γ ir args H=some (p,H')):∃vs,jb ir args=some vs/\C8 Γ ir vs p H H':=by
 unfold jA at h;refine bG h λws hf h=>?_;rw[hk]at h;refine aA ws hf ?_;clear hf hk;cases hp:ir.pure with
 |true=>
  rw[hp]at h;refine Lq h λhz h=>?_;refine bG h λr1 hr h=>?_;refine bG h λh1 hn h=>?_;refine gY h λp' lB e=>?_;clear h;obtain⟨rfl,rfl⟩:=jv e;refine U1 (Lv hn) λez aM=>?_;clear hn h;subst aM;exact .pure r1 hz hr ez lB rfl
 |false=>
  rw[hp]at h;refine bG h λr1 hr h=>?_;refine gY h λh1 hn e=>?_;clear h;obtain⟨rfl,rfl⟩:=jv e;refine U1 (Lv hn) λez aP=>?_;clear h hn;clear h e;subst aP;exact .imp r1 hr ez rfl rfl
theorem Lx{a:PV}(l1:args.length<=ir.arity)(l2:ir.arity<=args.length+ir.defaults.length):(a::args).length<=ir.arity+1/\ir.arity+1<=(a::args).length+ir.defaults.length/\
  (a::args)++ir.defaults.drop (ir.defaults.length-(ir.arity+1-(a::args).length))=a::(args++ir.defaults.drop (ir.defaults.length-(ir.arity-args.length))):=
 ⟨tX l1,by(refine rR i4 ?_;rewrite[Nat.succ_add]);exact tX l2,by(refine rR i4 ?_;rewrite[Nat.add_sub_add_right]);rfl⟩
theorem Ly{cf:Cf}{h:Heap}{v:Value}{af:dW}(e:af=.n)(r:Rep X cf h (fX af) v):v=.none:=by subst e;exact r
theorem al(T:eK X)(F:FnAt X f fd body ir.names (ir.arity+1) ir.defaults)(hk:ir.kind=.c)(hC:jQ X.K ir.name=some C)(M:Z' X C f)(B:BodyOk X d Γ ir fd body)(h:jA Γ ir args H=some (p,H')):
  nG X (d+2) (.ref C) args H (λq h=>q=p/\h=H'):=λA cf s E vs hA hH S r=>by
 subst hH;refine aC (ag hk h) λws hf h=>?_;refine U3 (Lr hf) λl1 l2 aN l3=>?_;clear hf;subst aN;have KI:=qe T S;refine wpAny_call ?_;obtain⟨hh,g,dr,t,os⟩:=s;refine make_core (makes_of KI M.makes) (looks_findIn KI M.init) (λself=>bind_fn KI self M.fn) (.inl rfl) ?_;cases h with
 |pure r1 hz hr hn hp e=>
  clear h;subst e;rw[List.all_append,cy]at hz;refine U3 (Lw (s:=⟨hh,g,dr,t,os⟩) (C6 S) hC) λC9 S0 rc k0=>?_;refine U2 (Lx (a:=.e 0) l1 l2) λm1 m2 m3=>?_;refine yr T (c7.under (d:=d+1) hA C vs) F S0 (aO.fD rc<|(o_ (cf:=qy cf) (aI:=cf) (λa h=>h) 8 args hz.1 r).mono k0 _) m1 m2 (P:=λaf h=>af=r1.1/\h=r1.2.2) (λaa h1 h2=>m3▸yt B h1 h2 (congrArg (·+1) l3) F.pe hr) λaI af v s' st S' rv q=>?_;refine U1 q λaQ hq=>?_;clear q;subst aQ;rw[<-hq]at hp;exact⟨Ly hn rv,Ls (s:=⟨hh,g,dr,t,os⟩) S (λb=>.inl C5) (λU h=>h) (C9.trans (C6 S).own st) S' (rc.mono (st.kept S0.own) _) hp λrr=>⟨p,rr,rfl,rfl⟩⟩
 |imp r1 hr hn e e2=>
  clear h;subst e e2;refine U3 (Lw (s:=⟨hh,g,dr,t,os⟩) S hC) λC9 S0 rc k0=>?_;refine U2 (Lx (a:=.e cf.H.length) l1 l2) λm1 m2 m3=>?_;refine yr T (c7.under (d:=d+1) hA C vs) F S0 (aO.fD rc<|r.mono k0 _) m1 m2 (P:=λaf h=>af=r1.1/\h=r1.2.2) (λaa h1 h2=>m3▸yt B h1 h2 (congrArg (·+1) l3) F.pe hr) λaI af v s' st S' rv q=>?_;refine U1 q λaR hq=>?_;clear q;subst aR;exact⟨Ly hn rv,aI,C9.trans S.own st,S',_,rc.mono (st.kept S0.own) _,rfl,hq⟩
end
end
section
abbrev Sn:=List<|PySem.Str×NameKind
noncomputable def nameAt(ai:b5)(i:Nat)(y:PySem.Str):Bool:=match ai[i]? with
 |some (some x)=>y==Sx x&&!(Sx x==("__debug__":PySem.Str))
 |_=>false
noncomputable def lF(sc:Sn)(f:String)(y:PySem.Str):Bool:=y==Sx f&&decide (sc.lookup (Sx f)=some .globalImplicit)&&!(Sx f==("__debug__":PySem.Str))
def yu(x:String)(p:PV):Bool:=match xy.lookup x with
 |some q=>fj p q
 |none=>false
noncomputable def kindB(sc:Sn)(lc:Bool)(y:PySem.Str):Bool:=decide (sc.lookup y=some .local)||(lc&&decide (sc.lookup y=some .cell))
noncomputable def Lz(e:Expr):Bool:=!(Nat.beq e.ctorIdx 26)
noncomputable def C_(e:Expr):Bool:=!(Nat.beq e.ctorIdx 7)
noncomputable def uV:CE->Bool
 |.c .n=>true
 |_=>false
theorem LA{e:CE}(h:uV e=true):e=.c .n:=by
 induction e using CE.casesOn with
 |c p=>induction p using d7<;>first|rfl|exact nB h
 |_=>exact nB h
noncomputable def am:oG->String
 |.l=>"len"
 |.i=>"list"
 |.s=>"list"
 |.o=>"sorted"
 |.m=>"min"
 |.n=>"min"
 |.a=>"max"
 |.B=>"isinstance"
def yv(sc:Sn)(ai:b5)(lc:Bool):aG->bL->Bool
 |[],[]=>true
 |i::is,e::es=>mw (λy=>nameAt ai i y&&kindB sc lc y) e&&yv sc ai lc is es
 |_,_=>false
def Dc(sc:Sn)(ai:b5)(lc tp:Bool)(is:aG)(e:Expr):Bool:=match tp with
 |false=>l1 (λi=>mw (λy=>nameAt ai i y&&kindB sc lc y) e) is
 |true=>rY (λes=>yv sc ai lc is es) e
noncomputable def yw(sc l:Sn):Sn:=l.map λ(n,k)=>if(k==NameKind.free&&sc.lookup n==some NameKind.cell)then(n,NameKind.cell)else(n,k)
noncomputable def Dd(sc:Sn)(scope:Scope):Bool:=decide (scope.kind=.function)&&scope.names.all (λy=>decide (y.2≠.cell)&&(decide (y.2≠.local)||decide (scope.names.lookup y.1=some .local))&&(decide (y.2≠.free)||decide (sc.lookup y.1=some .cell)))&&decide ((scope.names.map (·.1)).Nodup)
noncomputable def LB(ai:b5):Bool:=decide<|(ai.filterMap id).Nodup
def yx(f:bL->Bool)(k:IK)(sc:Sn)(tp:Bool)(iter:Expr):Bool:=C_ iter&&(match k with
 |.v=>f [iter]
 |.r=>oT (λy args=>lF sc "range" y&&f args) iter
 |.e=>tp&&oT (λy args=>lF sc "enumerate" y&&f args) iter
 |.z=>tp&&oT (λy args=>lF sc "zip" y&&f args) iter
 |.n=>tp&&oT (λy l=>l1 (λc=>oT (λz args=>lF sc "enumerate" y&&lF sc "zip" z&&f args) c) l) iter)
mutual
noncomputable def mE:CE->Sn->b5->Expr->Bool
 |.c p,_,_,e=>oR (λc=>qi c p) e
 |.v i,_,ai,e=>mw (λy=>nameAt ai i y) e
 |.g x p,sc,_,e=>mw (λy=>lF sc x y&&yu x p) e
 |.t es,sc,ai,e=>rY (λl=>decide (es.length<=1000)&&fY es sc ai l) e
 |.l es,sc,ai,e=>rX (λl=>decide (es.length<=1000)&&fY es sc ai l) e
 |.e es,sc,ai,e=>rX (λl=>decide (es.length<=1000)&&fY es sc ai l) e
 |.b op a b,sc,ai,e=>uH (λl o r=>decide (o=B3 op)&&mE a sc ai l&&mE b sc ai r) e
 |.n a,sc,ai,e=>rU (λo x=>decide (o=.USub)&&mE a sc ai x) e
 |.o a,sc,ai,e=>rU (λo x=>decide (o=.Not)&&mE a sc ai x) e
 |.m op a b,sc,ai,e=>uJ (λl os rs=>l1 (λo=>l1 (λr=>decide (o=gz op)&&!behindInMarks (gz op) r&&mE a sc ai l&&mE b sc ai r) rs) os) e
 |.p o1 o2 a b c,sc,ai,e=>uJ (λl os rs=>l2 (λp1 p2=>l2 (λr1 r2=>decide (p1=gz o1)&&decide (p2=gz o2)&&!lastMarks [gz o1,gz o2] [r1,r2]&&mE a sc ai l&&mE b sc ai r1&&mE c sc ai r2) rs) os) e
 |.a cA es,sc,ai,e=>xR (λo l=>decide (o=iP cA)&&!es.isEmpty&&fY es sc ai l) e
 |.i t a b,sc,ai,e=>xS (λt' a' b'=>mE t sc ai t'&&mE a sc ai a'&&mE b sc ai b') e
 |.d a i,sc,ai,e=>qf (λv s=>Lz s&&mE a sc ai v&&mE i sc ai s) e
 |.s a lo hi,sc,ai,e=>qf (λv s=>xW (λlo' hi' st=>st.isNone&&mE a sc ai v&&(match lo' with
    |none=>uV lo
    |some x=>mE lo sc ai x)&&(match hi' with
    |none=>uV hi
    |some x=>mE hi sc ai x)) s) e
 |.r a,sc,ai,e=>qf (λv s=>xW (λlo hi st=>lo.isNone&&hi.isNone&&oS (λx=>rU (λo c=>decide (o=.USub)&&oR (λc=>qi c (.i 1)&&mE a sc ai v) c) x) st) s) e
 |.f a x,sc,ai,e=>rW (λv y U=>y==Sx x&&jD v&&mE a sc ai v) e
 |.h f es,sc,ai,e=>oT (λy args=>lF sc f y&&fY es sc ai args) e
 |.j o m es,sc,ai,e=>qh (λv y args=>y==Sx m&&decide (args.length<30)&&mE o sc ai v&&fY es sc ai args) e
 |.k b es,sc,ai,e=>oT (λy args=>lF sc (am b) y&&(match b with
   |.B=>l2 (λa z=>mw (λz=>lF sc "bool" z&&fY es sc ai [a]) z) args
   |_=>fY es sc ai args)) e
 |.q a b,sc,ai,e=>qh (λv y args=>y==("append":PySem.Str)&&l1 (λw=>notStar w&&mE a sc ai v&&mE b sc ai w) args) e
 |.x a b,sc,ai,e=>qh (λv y args=>y==("extend":PySem.Str)&&l1 (λw=>notStar w&&mE a sc ai v&&mE b sc ai w) args) e
 |.u a,sc,ai,e=>qh (λv y args=>y==("pop":PySem.Str)&&args.isEmpty&&mE a sc ai v) e
 |.w dd k,sc,ai,e=>qh (λv y args=>y==("get":PySem.Str)&&l1 (λw=>notStar w&&mE dd sc ai v&&mE k sc ai w) args) e
 |.y dd k u,sc,ai,e=>qh (λv y args=>y==("get":PySem.Str)&&l2 (λw x=>notStar w&&notStar x&&mE dd sc ai v&&mE k sc ai w&&mE u sc ai x) args) e
 |.z n,sc,ai,e=>uH (λl o r=>decide (o=.Mult)&&rX (λl=>l1 (λc=>oR (λc=>decide (c=.none)&&mE n sc ai r) c) l) l) e
 |.A,_,_,e=>rV (λk v=>k.isEmpty&&v.isEmpty) e
 |.B,_,_,e=>rV (λk v=>k.isEmpty&&v.isEmpty) e
 |.C ks ps,_,_,e=>rV (λkeys vals=>litOk keys vals ks ps&&!ks.isEmpty&&decide (ks.length<=15)&&decide ks.Nodup) e
 |.D elt tp tn k bZ cond,sc,ai,e=>xT (λelt' g scope=>l1 (λg=>decide (g.is_async=0)&&Dd sc scope&&(tp||decide (tn.length=1))&&LB (fQ scope ai++tn.map some)&&
    Dc (yw sc scope.names) (fQ scope ai++tn.map some) false tp (List.range' ai.length tn.length) g.target&&yx (fY bZ sc ai) k sc tp g.iter&&
    mE elt (yw sc scope.names) (fQ scope ai++tn.map some) elt'&&fY cond (yw sc scope.names) (fQ scope ai++tn.map some) g.ifs) g) e
noncomputable def fY:List CE->Sn->b5->bL->Bool
 |[],_,_,l=>l.isEmpty
 |e::es,sc,ai,l=>(match l with
  |[]=>false
  |x::r=>notStar x&&mE e sc ai x&&fY es sc ai r)
end
theorem uW{e:CE}{es:List CE}{sc:Sn}{ai:b5}{l:bL}(h:fY (e::es) sc ai l=true):∃x r,l=x::r/\(notStar x&&mE e sc ai x&&fY es sc ai r)=true:=by
 induction l using b9 with
 |nil=>exact nB h
 |cons x r=>exact gR x r rfl h
noncomputable def Df:Expr->Bool
 |.Tuple vs _ _=>!(vs.all<|constantsAlone 8)
 |_=>true
mutual
noncomputable def mS:CS->Sn->b5->Stmt->Bool
 |.a i e,sc,ai,st=>rZ (λt v=>l1 (λt=>mw (λy=>nameAt ai i y&&kindB sc true y&&mE e sc ai v) t) t) st
 |.s is e,sc,ai,st=>rZ (λt v=>l1 (λt=>rY (λelts=>yv sc ai true is elts&&decide is.Nodup&&Df v&&mE e sc ai v) t) t) st
 |.e o f e,sc,ai,st=>rZ (λt w=>l1 (λt=>rW (λv y U=>y==Sx f&&mE o sc ai v&&mE e sc ai w) t) t) st
 |.t o i e,sc,ai,st=>rZ (λt w=>l1 (λt=>qf (λv s=>mE o sc ai v&&mE i sc ai s&&mE e sc ai w) t) t) st
 |.f tp tgt k bZ body,sc,ai,st=>Co (λtarget iter body' els=>els.isEmpty&&Dc sc ai true tp tgt target&&yx (fY bZ sc ai) k sc tp iter&&jf body sc ai body') st
 |.w t body,sc,ai,st=>Cp (λtest body' els=>els.isEmpty&&mE t sc ai test&&jf body sc ai body') st
 |.i t a b,sc,ai,st=>Cq (λtest a' b'=>mE t sc ai test&&jf a sc ai a'&&jf b sc ai b') st
 |.r e,sc,ai,st=>Cn (λv=>match v with
  |some v=>mE e sc ai v
  |none=>uV e) st
 |.x e,sc,ai,st=>Cr (λv=>r8 v&&mE e sc ai v) st
 |.b,_,_,st=>JA 26 st
 |.c,_,_,st=>JA 27 st
 |.z _,_,_,_=>false
noncomputable def jf:List CS->Sn->b5->List Stmt->Bool
 |[],_,_,l=>l.isEmpty
 |s::r,sc,ai,l=>(match s with
  |.z i=>(match ai[i]? with
   |some (some _)=>jf r sc ai l
   |_=>false)
  |s'=>(match l with
   |[]=>false
   |x::t=>mS s' sc ai x&&jf r sc ai t))
end
end
section
def LC(K:Frag)(v:Value)(dv:au):Bool:=(decide (v=.none)&&dv.isEmpty)||xZ (λt=>oS (λo=>x8 (λitems=>all2 (qx K 3) items.toList dv) o.data)<|K.lookup t) v
noncomputable def Dg(q:List Stmt->Bool)(b:FuncBody):Bool:=if h:Nat.beq b.ctorIdx 0=true then FuncBody.stmts.elim (motive:=λU=>Bool) b (b_ h) q else false
theorem an{q:List Stmt->Bool}{b:FuncBody}{G:Prop}(h:Dg q b=true)(K:∀l,b=.stmts l->q l=true->G):G:=
 FuncBody.stmts.elim (motive:=λv=>v=b->Dg q v=true->G) b (b_<|dz h) (λl e h=>K l e.symm h) rfl h
def uX(K:Frag)(f:Addr)(ir:bl)(np:Nat):Bool:=oS (λo=>Ct (λfd=>Dg (λbody=>
 decide (fd.globals=mainGlobals)&&(decide (fd.builtins=builtinsNs)&&(fd.closure.isEmpty&&(!fd.scope.isCoroutine&&(!fd.scope.isGenerator&&(decide (fd.scope.kind=.function)&&(codeIn K fd.code fd.qualname&&
    (fd.params.posonlyargs.isEmpty&&(fd.params.kwonlyargs.isEmpty&&(fd.params.vararg.isNone&&(fd.params.kwarg.isNone&&(decide (fd.params.args.map (·.arg)=(ir.names.take np).map Sx)&&(decide (np<=ir.names.length)&&(decide ir.names.Nodup&&
    (decide ((fd.scope.names.map (·.1)).Nodup)&&((ir.names.take np).all (λx=>kindB fd.scope.names true<|Sx x)&&(LC K fd.defaults ir.defaults&&(decide (ir.defaults.length<=np)&&jf ir.body fd.scope.names (ir.names.map some) body)))))))))))))))))) fd.body) o.data)<|K.lookup f
def sE(K:Frag)(c:String)(ir:bl):Bool:=match ir.kind with
 |.c=>c==""&&(match nsIn K mainGlobals (Sx ir.name)with
  |some (some<|.ref C)=>makesIn K C&&keepIn K (.ref C)&&(match findIn K (.ref C) "__init__" with
   |some (some<|.ref f)=>decide (typeIn K (.ref f)=some (.type "function"))&&uX K f ir (ir.arity+1)
   |_=>false)
  |_=>false)
 |.f=>if c=="" then(match nsIn K mainGlobals (Sx ir.name)with
   |some (some<|.ref f)=>keepIn K (.ref f)&&uX K f ir ir.arity
   |_=>false)
  else(match nsIn K mainGlobals (Sx c)with
   |some (some<|.ref C)=>plainGet K C (Sx ir.name)&&(match findIn K (.ref C) (Sx ir.name)with
    |some (some<|.ref f)=>isFn K (.ref f)&&keepIn K (.ref f)&&uX K f ir ir.arity
    |_=>false)
   |_=>false)
end
section
structure eA (X:Cx):Prop where
 T:eK X
 glob:∀x p,yu x p=true->Cc X x p
 fld:∀c x,qc c x=true->xe X c x/\storeOk X c x
 aw:gp X "len" (.builtin "len")
 LD:gp X "list" (.type "list")
 ax:gp X "sorted" (.builtin "sorted")
 LF:gp X "min" (.builtin "min")
 a8:gp X "max" (.builtin "max")
 a9:gp X "isinstance" (.builtin "isinstance")
 ba:gp X "bool" (.type "bool")
 bb:gp X "range" (.type "range")
 LG:gp X "enumerate" (.type "enumerate")
 LH:gp X "zip"<|.type "zip"
structure g9 (X:Cx)(d:Nat)(Γ:b7):Prop where
 fn:∀f args H r,Γ "" f args H=some r->∃fv,nsIn X.K mainGlobals (Sx f)=some (some fv)/\keepIn X.K fv=true/\nG X d fv args H (λq h=>q=r.1/\h=r.2)
 mt:∀c m args H r,c≠""->Γ c m args H=some r->∃C f,jQ X.K c=some C/\plainGet X.K C (Sx m)=true/\findIn X.K (.ref C) (Sx m)=some (some<|.ref f)/\isFn X.K (.ref f)=true/\keepIn X.K (.ref f)=true/\
  nG X d (.ref f) args H (λq h=>q=r.1/\h=r.2)
abbrev Pin(r:PV×ak):PV->ak->Prop:=λq h=>q=r.1/\h=r.2
abbrev LJ(r:au×ak):au->ak->Prop:=λq h=>q=r.1/\h=r.2
def bJ(X:Cx)(d:Nat)(Γ:b7)(c:CE):Prop:=∀(aa:Env)(ai:b5)(ae:bF)(e:Expr)(H:ak)(r:PV×ak),
 aa.scope.kind=.function->d8 ai->ae.length=ai.length->mE c aa.scope.names ai e=true->az Γ c ae H=some r->AE X d aa ai ae e H (Pin r)
def gA(X:Cx)(d:Nat)(Γ:b7)(c:CE):Prop:=∀(aa:Env)(ai:b5)(ae:bF)(e:Expr)(H:ak)(b:Bool)(h':ak),
 aa.scope.kind=.function->d8 ai->ae.length=ai.length->mE c aa.scope.names ai e=true->az Γ c ae H=some (.b b,h')->AT X d aa ai ae e H (λq h=>q=b/\h=h')
section
variable {X:Cx}{d:Nat}{Γ:b7}{aa:Env}{ai:b5}{ae:bF}{H:ak}
theorem AE.pin{e:Expr}{r:PV×ak}{Q:eF}(h:AE X d aa ai ae e H<|Pin r)(q:Q r.1 r.2):AE X d aa ai ae e H Q:=h.mono λU U z=>by(refine U1 z λaT aL=>?_;clear z;subst aT;subst aL);exact q
theorem fM.pin{es:bL}{r:au×ak}{Q:au->ak->Prop}(h:fM X d aa ai ae es H<|LJ r)(q:Q r.1 r.2):fM X d aa ai ae es H Q:=h.mono λU U z=>by(refine U1 z λaM aP=>?_;clear z;subst aM;subst aP);exact q
theorem AT.pin{e:Expr}{b:Bool}{h':ak}{Q:Bool->ak->Prop}(h:AT X d aa ai ae e H λq h=>q=b/\h=h')(q:Q b h'):AT X d aa ai ae e H Q:=h.mono λU U z=>by(refine U1 z λaN aQ=>?_;clear h z;subst aN;subst aQ);exact q
set_option tactic.hygienic true in
theorem yy{i:Nat}{y:PySem.Str}(h:nameAt ai i y=true):∃x,ai[i]?=some (some x)/\y=Sx x/\(Sx x==("__debug__":PySem.Str))=false:=by
 unfold nameAt at h;split at h
 ·rename_i x e;rw[cy,gQ,k9]at h;exact cM x e h.1 h.2
 ·exact nB h
theorem mK{sc:Sn}{f:String}{y:PySem.Str}(h:lF sc f y=true):y=Sx f/\sc.lookup (Sx f)=some .globalImplicit/\(Sx f==("__debug__":PySem.Str))=false:=by unfold lF at h;rw[cy,cy,gQ,k9,ff]at h;exact⟨h.1.1,h.1.2,h.2⟩
theorem jZ{es:List CE}(hg:∀c∈es,bJ X d Γ c):∀{l:bL}{H:ak}{r:au×ak},aa.scope.kind=.function->d8 ai->ae.length=ai.length->fY es aa.scope.names ai l=true->cX Γ es ae H=some r->
  fM X d aa ai ae l H (LJ r)/\r.1.length=es.length/\l.all notStar=true/\l.length=es.length:=by
 induction es with
 |nil=>
  intro l H r hk hN hl hm hr;have:l=[]:=lh.mp hm;clear hm;subst this;obtain rfl:=aK hr;exact⟨xF ⟨rfl,rfl⟩,rfl,rfl,rfl⟩
 |cons c es ih=>
  intro l H r hk hN hl hm hr;revert hm;refineλh0=>gG (uW h0) λx t nK hm=>?_;clear h0;subst nK
  ·skip
   rw[cy,cy]at hm;refine bG hr λp hp hr=>?_;refine omap hr λq hq=>?_;refine U3 (ih (λc hc=>hg c<|dh _ hc) hk hN hl hm.2 hq) λh1 h2 h3 h4=>?_;refine⟨uA hm.1.1<|(hg c cR aa ai ae x H p hk hN hl hm.1.2 hp).pin<|h1.pin ⟨rfl,rfl⟩,by exact rR i4<|rR i4<|rR h2 rfl,by refine rR oj<|rR hm.1.1<|rR h3 ?_;rfl,by exact rR i4<|rR i4<|rR h4 rfl⟩
theorem mL{p:PV}{b:Bool}(h:truth p=some b):p=.b b:=by
 unfold truth at h;split at h
 ·exact rR (aK h) rfl
 ·exact nN h
set_option tactic.hygienic true in
theorem LK{cA:Bool}{pos:Pos}:∀{es:List CE}(hg:∀c∈es,bJ X d Γ c){l:bL}{H:ak}{r:PV×ak},aa.scope.kind=.function->d8 ai->ae.length=ai.length->fY es aa.scope.names ai l=true->es≠[]->jz Γ cA es ae H=some r->
  AE X d aa ai ae (.BoolOp (iP cA) l pos) H (Pin r)
 |[],_,_,_,_,_,_,_,_,hne,_=>absurd rfl hne
 |c::es,hg,l,H,r,hk,hN,hl,hm,_,hr=>by
  revert hm;refineλh0=>gG (uW h0) λx t nK hm=>?_;clear h0;subst nK
  ·skip
   rw[cy,cy]at hm;refine bG hr λp hp hr=>?_;refine bG hr λb hb hr=>?_;have LL:=mL hb;have h1:=hg c cR aa ai ae x H p hk hN hl hm.1.2 hp
   induction es using List.casesOn with
   |nil=>
    have:t=[]:=lh.mp hm.2;clear hm;subst this;have e:p=r:=by
     change ite _ _ _=_ at hr;split at hr
     ·rename_i q;have hr:=aK hr;subst hr;exact rL q<|rL LL rfl
     ·exact aK hr
    clear hr;clear hr;subst e;exact Xu h1
   |cons c2 es=>
    have hm2:=hm.2;revert hm2;refineλh0=>gG (uW h0) λx2 t2 nK hm2=>?_;clear h0;subst nK
    ·skip
     refine Xv<|h1.pin<|cM b LL (λe=>?_) λe=>?_
     ·rw[bw e]at hr;exact LK (λc hc=>hg c<|dh _ hc) hk hN hl hm.2 (by simp) hr
     ·rw[bO<|by refine rR e ?_;clear hr e;induction cA using Bool.casesOn<;>decide]at hr;have hr:=aK hr;subst hr;exact⟨rfl,rfl⟩
theorem LM{cA:Bool}{pos:Pos}:∀{es:List CE}(hg:∀c∈es,gA X d Γ c){l:bL}{H:ak}{b:Bool}{h':ak},aa.scope.kind=.function->d8 ai->ae.length=ai.length->fY es aa.scope.names ai l=true->jz Γ cA es ae H=some (.b b,h')->
  AT X d aa ai ae (.BoolOp (iP cA) l pos) H (λq h=>q=b/\h=h')
 |[],_,l,H,b,h',_,_,_,hm,hr=>by
  have:l=[]:=lh.mp hm;clear hm;subst this;have hr:=jv<|aK hr
  exact Xw ⟨PV.b.inj hr.1,hr.2⟩
 |c::es,hg,l,H,b,h',hk,hN,hl,hm,hr=>by
  revert hm;refineλh0=>gG (uW h0) λx t nK hm=>?_;clear h0;subst nK
  ·skip
   rw[cy,cy]at hm;refine i_ hr λp hH hp hr=>?_;refine bG hr λc' hb hr=>?_;obtain rfl:=mL hb;refine Xx<|(hg c cR aa ai ae x H c' hH hk hN hl hm.1.2 hp).pin ⟨λe=>?_,λe=>?_⟩
   ·rw[bw e]at hr;exact LM (λc hc=>hg c<|dh _ hc) hk hN hl hm.2 hr
   ·rw[bO<|by refine rR e ?_;clear hr e;induction cA using cP<;>decide]at hr;simp only[Option.some.injEq,Prod.mk.injEq,PV.b.injEq]at hr;exact hr
theorem be{p pz pos:Pos}{a:Expr}{Q:eF}(T:eK X)(e1:gp X "isinstance"<|.builtin "isinstance")(e2:gp X "bool"<|.type "bool")(k1:aa.kindOf (Sx "isinstance")=some .globalImplicit)(k2:aa.kindOf (Sx "bool")=some .globalImplicit)(hs:notStar a=true)
  (h:AE X d aa ai ae a H λv H'=>∃b,((∃c,v=.b c/\b=true)\/((v=.n\/(∃i,v=.i i)\/∃x,v=.s x)/\b=false))/\Q (.b b) H'):AE X d aa ai ae (.Call (.Name (Sx "isinstance") p) [a,.Name (Sx "bool") pz] [] pos) H Q:=by
 refine fm λA cf s E hA hH S R=>?_;rw[arm_eval_Call_Name'];refine a_<|uG T e1 k1 (by decide) S R ?_
 show wpAny _ A (callWith pos (.builtin "isinstance") [] (backTo pos<|starEach [a,.Name (Sx "bool") pz] aa) []) _ E s;refine mq (P:=λU=>True) (by refine rR oj<|rR oj<|rR hs ?_;rfl) (λh U=>oQ h trivial) ?_;rw[rI hs,rI<|by rfl];refine Calls.spliced_cons (bz (h A cf s E hA hH S R) (λv s₁ y=>?_) λU U y=>y);obtain⟨aS,pv,st,S₁,r,b,hb,q⟩:=y;refine Calls.spliced_cons<|uG T e2 k2 (by decide) S₁ (R.step S st)<|Calls.spliced_nil ⟨trivial,?_⟩
 exact bz (XS S₁ r hb q) (λU U z=>z.after S st) λU U y=>y
theorem LO{a:CE}{r:au×ak}(h:cX Γ [a] ae H=some r):∃x,az Γ a ae H=some x/\r=([x.1],x.2):=by refine bG h λx hx h=>?_;refine omap h λq hq=>?_;have hq:=aK hq;subst hq;exact aA x hx rfl
end
end
section
section
variable {X:Cx}{d:Nat}{Γ:b7}
theorem bi{p:PV}:bJ X d Γ (.c p):=λaa ai ae e H r hk hN hl hm hr=>by refine uL e hm λc k p' hm=>?_;obtain rfl:=aK hr;exact Ym hm ⟨rfl,rfl⟩
theorem bm{i:Nat}:bJ X d Γ (.v i):=λaa ai ae e H r hk hN hl hm hr=>by refine qg e hm λy p hm=>?_;refine c_ (yy hm) λx h1 aR h3=>?_;clear hm;subst aR;refine bG hr λo ho hr=>?_;refine omap hr λv hv=>?_;exact Wa h1 h3 (hv▸ho) ⟨rfl,rfl⟩
theorem bp(G:eA X){x:String}{p:PV}:bJ X d Γ (.g x p):=λaa ai ae e H r hk hN hl hm hr=>by refine qg e hm λy p' hm=>?_;rw[cy]at hm;refine U2 (mK hm.1) λaT h2 h3=>?_;subst aT;obtain rfl:=aK hr;exact Xh G.T (G.glob x p hm.2) h2 h3 ⟨rfl,rfl⟩
theorem bt{es:List CE}(hg:∀c∈es,bJ X d Γ c):bJ X d Γ (.t es):=λaa ai ae e H r hk hN hl hm hr=>by refine Cm e hm λl k p hm=>?_;rw[cy,ff]at hm;refine omap hr λq hq=>?_;refine U3 (jZ hg hk hN hl hm.2 hq) λh1 h2 U U=>?_;exact Xi<|h1.pin ⟨by refine rR h2 ?_;have:=hm.1;(first|lia|omega),rfl,rfl⟩
theorem bv{es:List CE}(hg:∀c∈es,bJ X d Γ c):bJ X d Γ (.l es):=λaa ai ae e H r hk hN hl hm hr=>by refine Ck e hm λl p hm=>?_;rw[cy,ff]at hm;refine omap hr λq hq=>?_;refine U3 (jZ hg hk hN hl hm.2 hq) λh1 h2 U U=>?_;exact Jr<|h1.pin ⟨by refine rR h2 ?_;have:=hm.1;(first|lia|omega),rfl,rfl⟩
theorem ca{es:List CE}(hg:∀c∈es,bJ X d Γ c):bJ X d Γ (.e es):=λaa ai ae e H r hk hN hl hm hr=>by refine Ck e hm λl p hm=>?_;rw[cy,ff]at hm;refine omap hr λq hq=>?_;refine U3 (jZ hg hk hN hl hm.2 hq) λh1 h2 U U=>?_;exact Xj<|h1.pin ⟨by refine rR h2 ?_;have:=hm.1;(first|lia|omega),rfl,rfl⟩
theorem cb{op:lu}{a b:CE}(ha:bJ X d Γ a)(hb:bJ X d Γ b):bJ X d Γ (.b op a b):=λaa ai ae e H r hk hN hl hm hr=>by refine JC e hm λl o r' p hm=>?_;rw[cy,cy,ff]at hm;refine U1 hm λaL m2=>?_;revert aL;refine V1 λaM m1=>?_;clear hm;subst aM;refine bG hr λx hx hr=>?_;refine bG hr λy hy hr=>?_;refine omap hr λv hv=>?_;refine I7 (P:=λp1 p2 H'=>xd H' op p1 p2 λq=>Pin (v,y.2) q H') ((ha aa ai ae _ H x hk hN hl m1 hx).pin<|(hb aa ai ae _ x.2 y hk hN hl m2 hy).pin<|ZN hv ⟨rfl,rfl⟩) ?_;exactλA cf s E v1 v2 p1 p2 hA S R r1 r2 hP=>WX hA S r1 r2 op hP
theorem ce{a:CE}(ha:bJ X d Γ a):bJ X d Γ (.n a):=λaa ai ae e H r hk hN hl hm hr=>by refine uI e hm λo x p hm=>?_;rw[cy,ff]at hm;refine U1 hm λaP m1=>?_;clear hm;subst aP;refine bG hr λx hx hr=>?_;refine nA hr λi hi hr=>?_;obtain rfl:=aK hr;exact Xk<|(ha aa ai ae _ H x hk hN hl m1 hx).pin<|cM i hi rfl rfl
theorem ci{a:CE}(ha:bJ X d Γ a):bJ X d Γ (.o a):=λaa ai ae e H r hk hN hl hm hr=>by refine uI e hm λo x p hm=>?_;rw[cy,ff]at hm;refine U1 hm λaN m1=>?_;clear hm;subst aN;refine bG hr λx hx hr=>?_;refine omap hr λb hb=>?_;exact Xl<|(ha aa ai ae _ H x hk hN hl m1 hx).pin<|cM b (mL hb) rfl rfl
theorem cp{a:CE}(ha:gA X d Γ a):gA X d Γ (.o a):=λaa ai ae e H b h' hk hN hl hm hr=>by refine uI e hm λo x p hm=>?_;rw[cy,ff]at hm;refine U1 hm λaQ m1=>?_;clear hm;subst aQ;refine i_ hr λp h1 hx hr=>?_;refine gY hr λc hb hr=>?_;simp only[Prod.mk.injEq,PV.b.injEq]at hr;refine U1 hr λaR aT=>?_;clear hr;subst aR;clear hr;subst aT;clear hr;obtain rfl:=mL hb;exact Xq<|(ha aa ai ae _ H c h1 hk hN hl m1 hx).pin ⟨rfl,rfl⟩
theorem cq{op:gw}{a b:CE}(ha:bJ X d Γ a)(hb:bJ X d Γ b):bJ X d Γ (.m op a b):=λaa ai ae e H r hk hN hl hm hr=>by refine xU e hm λl os rs p hm=>?_;refine iz os hm λo hm=>?_;refine iz rs hm λq hm=>?_;simp only[Bool.and_eq_true,decide_eq_true_iff,Bool.not_eq_true']at hm;refine U1 hm λaL m2=>?_;revert aL;refine V1 λaM m1=>?_;revert aM;refine V1 λaP m0=>?_;clear hm;clear hm;subst aP;refine bG hr λx hx hr=>?_;refine bG hr λy hy hr=>?_;refine omap hr λv hv=>?_;exact Xn m0<|(ha aa ai ae _ H x hk hN hl m1 hx).pin<|(hb aa ai ae _ x.2 y hk hN hl m2 hy).pin<|sC hv ⟨rfl,rfl⟩
theorem ct{op:gw}{a b:CE}(ha:bJ X d Γ a)(hb:bJ X d Γ b):gA X d Γ (.m op a b):=λaa ai ae e H r h' hk hN hl hm hr=>by refine xU e hm λl os rs p hm=>?_;refine iz os hm λo hm=>?_;refine iz rs hm λq hm=>?_;simp only[Bool.and_eq_true,decide_eq_true_iff,Bool.not_eq_true']at hm;refine U1 hm λaN m2=>?_;revert aN;refine V1 λaQ m1=>?_;revert aQ;refine V1 λaR m0=>?_;clear hm;clear hm;subst aR;refine bG hr λx hx hr=>?_;refine bG hr λy hy hr=>?_;refine gY hr λv hv hr=>?_;simp only[Prod.mk.injEq,PV.b.injEq]at hr;refine U1 hr λaT aL=>?_;clear hr;subst aT;clear hr;clear hr;subst aL;exact Xp m0<|(ha aa ai ae _ H x hk hN hl m1 hx).pin<|(hb aa ai ae _ x.2 y hk hN hl m2 hy).pin<|sC hv ⟨rfl,rfl⟩
theorem cv{o1 o2:gw}{a b c:CE}(ha:bJ X d Γ a)(hb:bJ X d Γ b)(hc:bJ X d Γ c):bJ X d Γ (.p o1 o2 a b c):=λaa ai ae e H r hk hN hl hm hr=>by
 refine xU e hm λl os rs p hm=>?_;refine r5 os hm λp1 p2 hm=>?_;refine r5 rs hm λr1 r2 hm=>?_;simp only[Bool.and_eq_true,decide_eq_true_iff,Bool.not_eq_true']at hm;refine U1 hm λaM m3=>?_;revert aM;refine V1 λaP m2=>?_;revert aP;refine V1 λaN m1=>?_;revert aN;refine V1 λaQ m0=>?_;revert aQ;refine V1 λaR aT=>?_;clear hm;subst aR;clear hm;clear hm;subst aT;refine bG hr λx hx hr=>?_;refine bG hr λy hy hr=>?_;refine bG hr λt ht hr=>?_;refine Xy m0<|(ha aa ai ae _ H x hk hN hl m1 hx).pin<|(hb aa ai ae _ x.2 y hk hN hl m2 hy).pin<|sC ht ⟨λe=>?_,λe=>?_⟩
 ·rw[bw e]at hr;refine bG hr λz hz hr=>?_;refine omap hr λv hv=>?_;exact(hc aa ai ae _ y.2 z hk hN hl m3 hz).pin<|sC hv ⟨rfl,rfl⟩
 ·rw[bO<|by refine rR e ?_;decide]at hr;have hr:=aK hr;subst hr;exact⟨rfl,rfl⟩
theorem cw{o1 o2:gw}{a b c:CE}(ha:bJ X d Γ a)(hb:bJ X d Γ b)(hc:bJ X d Γ c):gA X d Γ (.p o1 o2 a b c):=λaa ai ae e H r h' hk hN hl hm hr=>by
 refine xU e hm λl os rs p hm=>?_;refine r5 os hm λp1 p2 hm=>?_;refine r5 rs hm λr1 r2 hm=>?_;simp only[Bool.and_eq_true,decide_eq_true_iff,Bool.not_eq_true']at hm;refine U1 hm λaL m3=>?_;revert aL;refine V1 λaM m2=>?_;revert aM;refine V1 λaP m1=>?_;revert aP;refine V1 λaN m0=>?_;revert aN;refine V1 λaQ aR=>?_;clear hm;subst aQ;clear hm;clear hm;subst aR;refine bG hr λx hx hr=>?_;refine bG hr λy hy hr=>?_;refine bG hr λt ht hr=>?_;refine Xz m0<|(ha aa ai ae _ H x hk hN hl m1 hx).pin<|(hb aa ai ae _ x.2 y hk hN hl m2 hy).pin<|sC ht ⟨λe=>?_,λe=>?_⟩
 ·rw[bw e]at hr;refine bG hr λz hz hr=>?_;refine gY hr λv hv hr=>?_;simp only[Prod.mk.injEq,PV.b.injEq]at hr;refine U1 hr λaT aL=>?_;clear hr;subst aT;clear hr;clear hr;subst aL;exact(hc aa ai ae _ y.2 z hk hN hl m3 hz).pin<|sC hv ⟨rfl,rfl⟩
 ·rw[bO<|by refine rR e ?_;decide]at hr;simp only[Option.some.injEq,Prod.mk.injEq,PV.b.injEq]at hr;exact hr
theorem g_bool{cA:Bool}{es:List CE}(hg:∀c∈es,bJ X d Γ c):bJ X d Γ (.a cA es):=λaa ai ae e H r hk hN hl hm hr=>by refine JB e hm λo l p hm=>?_;simp only[Bool.and_eq_true,decide_eq_true_iff,Bool.not_eq_true']at hm;refine U1 hm λaM m1=>?_;revert aM;refine V1 λaP m0=>?_;clear hm;subst aP;exact LK hg hk hN hl m1 (by intro q;rw[q]at m0;exact tB m0) hr
theorem gt_bool{cA:Bool}{es:List CE}(hg:∀c∈es,gA X d Γ c):gA X d Γ (.a cA es):=λaa ai ae e H b h' hk hN hl hm hr=>by refine JB e hm λo l p hm=>?_;simp only[Bool.and_eq_true,decide_eq_true_iff,Bool.not_eq_true']at hm;refine U1 hm λaN m1=>?_;revert aN;refine V1 λaQ m0=>?_;clear hm;subst aQ;exact LM hg hk hN hl m1 hr
theorem cx{t a b:CE}(ht:gA X d Γ t)(ha:bJ X d Γ a)(hb:bJ X d Γ b):bJ X d Γ (.i t a b):=λaa ai ae e H r hk hN hl hm hr=>by
 refine JD e hm λt' a' b' p hm=>?_;simp only[Bool.and_eq_true]at hm;refine U1 hm λaR m3=>?_;revert aR;refine V1 λm1 m2=>?_;refine i_ hr λp h1 hx hr=>?_;refine bG hr λc hc hr=>?_;obtain rfl:=mL hc;refine Xr<|(ht aa ai ae _ H c h1 hk hN hl m1 hx).pin ⟨λe=>?_,λe=>?_⟩
 ·rw[bw e]at hr;exact ha aa ai ae _ h1 r hk hN hl m2 hr
 ·rw[bO<|by refine rR e ?_;decide]at hr;exact hb aa ai ae _ h1 r hk hN hl m3 hr
theorem da{t a b:CE}(ht:gA X d Γ t)(ha:gA X d Γ a)(hb:gA X d Γ b):gA X d Γ (.i t a b):=λaa ai ae e H r h' hk hN hl hm hr=>by
 refine JD e hm λt' a' b' p hm=>?_;simp only[Bool.and_eq_true]at hm;refine U1 hm λaT m3=>?_;revert aT;refine V1 λm1 m2=>?_;refine i_ hr λp h1 hx hr=>?_;refine bG hr λc hc hr=>?_;obtain rfl:=mL hc;refine Xs<|(ht aa ai ae _ H c h1 hk hN hl m1 hx).pin ⟨λe=>?_,λe=>?_⟩
 ·rw[bw e]at hr;exact ha aa ai ae _ h1 r h' hk hN hl m2 hr
 ·rw[bO<|by refine rR e ?_;decide]at hr;exact hb aa ai ae _ h1 r h' hk hN hl m3 hr
theorem db{s:Expr}(h:Lz s=true)(o i:Value):subscripted s false o i=operate [o,i] (getItem o i):=by
 induction s using Expr.casesOn<;>first|rfl|exact nB h
theorem de{a i:CE}(ha:bJ X d Γ a)(hi:bJ X d Γ i):bJ X d Γ (.d a i):=λaa ai ae e H r hk hN hl hm hr=>by refine xV e hm λv s p hm=>?_;simp only[Bool.and_eq_true]at hm;refine U1 hm λaL m2=>?_;revert aL;refine V1 λm0 m1=>?_;refine bG hr λx hx hr=>?_;refine bG hr λy hy hr=>?_;refine omap hr λv hv=>?_;exact W4 ((ha aa ai ae _ H x hk hN hl m1 hx).pin<|(hi aa ai ae _ x.2 y hk hN hl m2 hy).pin<|ZO hv ⟨rfl,rfl⟩)<|db m0
theorem LP{lo:CE}(h:bJ X d Γ lo){lo':Option Expr}{aa:Env}{ai:b5}{ae:bF}{H:ak}{x:PV×ak}(hk:aa.scope.kind=.function)(hN:d8 ai)(hl:ae.length=ai.length)
  (hm:(match lo' with
    |none=>uV lo
    |some x=>mE lo aa.scope.names ai x)=true)(hx:az Γ lo ae H=some x){Q:eF}(q:Q x.1 x.2):AP X d aa ai ae lo' H Q:=by
 induction lo' using e9 with
 |none=>
  clear h;obtain rfl:=LA hm;obtain rfl:=aK hx;exact XA q
 |some e=>exact XC<|(h aa ai ae e H x hk hN hl hm hx).pin q
theorem dk{a lo hi:CE}(ha:bJ X d Γ a)(hlo:bJ X d Γ lo)(hhi:bJ X d Γ hi):bJ X d Γ (.s a lo hi):=λaa ai ae e H r hk hN hl hm hr=>by refine xV e hm λv s p hm=>?_;refine JG s hm λlo' hi' st p' hm=>?_;refine Cs st (band (band (band hm).1).1).1 ?_;refine U1 (band hm) λhm m3=>?_;refine U1 (band hm) λhm m2=>?_;have m1:=(band hm).2;refine bG hr λx hx hr=>?_;refine bG hr λy hy hr=>?_;refine bG hr λz hz hr=>?_;refine omap hr λv hv=>?_;exact XE<|(ha aa ai ae _ H x hk hN hl m1 hx).pin<|LP hlo hk hN hl m2 hy<|LP hhi hk hN hl m3 hz<|ZP hv ⟨rfl,rfl⟩
theorem dp{c:Const}{i:Int}(h:qi c (.i i)=true):c=.int i:=(aK<|cG h).symm
theorem dq{a:CE}(ha:bJ X d Γ a):bJ X d Γ (.r a):=λaa ai ae e H r hk hN hl hm hr=>by refine xV e hm λv s p hm=>?_;refine JG s hm λlo' hi' st p' hm=>?_;refine Cs lo' (band (band hm).1).1 ?_;refine Cs hi' (band (band hm).1).2 ?_;refine JH st (band hm).2 λx hm=>?_;refine uI x hm λo c p1 hm=>?_;refine U1 (band hm) λho hm=>?_;obtain rfl:=cG ho;refine uL c hm λc k p2 hm=>?_;rw[cy]at hm;refine U1 hm λm0 m1=>?_;clear hm;obtain rfl:=dp m0;refine bG hr λx hx hr=>?_;refine omap hr λl jd=>?_;exact XG<|(ha aa ai ae _ H x hk hN hl m1 hx).pin<|cM l jd rfl rfl
set_option tactic.hygienic true in
theorem ds(G:eA X){a:CE}{x:String}(ha:bJ X d Γ a):bJ X d Γ (.f a x):=λaa ai ae e H r hk hN hl hm hr=>by
 refine Cj e hm λv y p hm=>?_;rw[cy,cy,gQ]at hm;refine U1 hm λaM m1=>?_;revert aM;refine V1 λaP m0=>?_;clear hm;subst aP;refine bG hr λy hy hr=>?_;refine bG hr λo ho hr=>?_;split at hr
 ·rename_i hf;refine omap hr λv hv=>?_;exact W6 G.T m0<|(ha aa ai ae _ H y hk hN hl m1 hy).pin<|pZ o.1 o.2.1 o.2.2 v ho ((G.fld _ _ hf).1) hv rfl rfl
 ·exact nN hr
theorem du(G:eA X)(hΓ:g9 X d Γ){f:String}{es:List CE}(hg:∀c∈es,bJ X d Γ c):bJ X d Γ (.h f es):=λaa ai ae e H r hk hN hl hm hr=>by refine oU e hm λy p args p2 hm=>?_;rw[cy]at hm;refine U2 (mK hm.1) λaN h2 h3=>?_;subst aN;refine bG hr λq hq hr=>?_;refine U3 (jZ hg hk hN hl hm.2 hq) λg1 U g3 U=>?_;refine c_ (hΓ.fn f q.1 q.2 r hr) λfv e1 e2 e3=>?_;exact Yw G.T h2 h3 g3 e1 e2<|g1.pin e3
set_option tactic.hygienic true in
theorem dx(G:eA X)(hΓ:g9 X d Γ){o:CE}{m:String}{es:List CE}(ho:bJ X d Γ o)(hg:∀c∈es,bJ X d Γ c):bJ X d Γ (.j o m es):=λaa ai ae e H r hk hN hl hm hr=>by
 refine r6 e hm λv y p' args p m0 m2 hm=>?_;simp only[Bool.and_eq_true,beq_iff_eq,decide_eq_true_iff]at hm;refine U1 hm λaQ m4=>?_;revert aQ;refine V1 λaR m3=>?_;revert aR;refine V1 λaT m1=>?_;clear hm;subst aT;refine bG hr λx hx hr=>?_;refine bG hr λc hc hr=>?_;refine bG hr λq hq hr=>?_;split at hq
 ·exact nN hq
 ·rename_i hne;rw[Bool.not_eq_true,Bool.or_eq_false_iff]at hne;refine U3 (jZ hg hk hN hl m4 hq) λg1 U g3 U=>?_;refine Fc (hΓ.mt c.1 m (x.1::q.1) q.2 r (by simpa using hne.2) hr) λC f e1 e2 e3 e4 e5 e6=>?_;exact Yx G.T m0 g3 m1 m2<|(ho aa ai ae _ H x hk hN hl m3 hx).pin<|PO c.1 c.2.1 c.2.2 C f hc hne.1 e1 e2 e3 e4 e5<|g1.pin e6
end
end
section
section
variable {X:Cx}{d:Nat}{Γ:b7}
theorem yC{α β:Type}{f:α->Option β}{r:β}{l:List α}{G:Prop}(h:u1 l f=some r)(K:∀i,l=[i]->f i=some r->G):G:=by revert K;exact xq l h λi h K=>K i rfl h
theorem dy{α β:Type}{f:α->α->Option β}{r:β}{l:List α}{G:Prop}(h:u2 l f=some r)(K:∀i j,l=[i,j]->f i j=some r->G):G:=by revert K;exact Aq l h λi j h K=>K i j rfl h
theorem dA{v:PV}{b:Bool}(h:Hl v=some b):(∃c,v=.b c/\b=true)\/((v=.n\/(∃i,v=.i i)\/∃x,v=.s x)/\b=false):=by
 induction v using d7<;>cases h<;>first|exact .inl (aA _ rfl rfl)|exact .inr ⟨.inl rfl,rfl⟩|exact .inr ⟨.inr<|.inl ⟨_,rfl⟩,rfl⟩|exact .inr ⟨.inr<|.inr ⟨_,rfl⟩,rfl⟩
theorem dC{l:bk}{m:Int}(h:Ho l=some m):∃n ns,l=n::ns/\ns.foldl min n=m:=by
 induction l using b9 with
 |nil=>exact nN h
 |cons n ns=>exact gR n ns rfl<|aK h
theorem uY(G:eA X){b:oG}{es:List CE}{f:String}{v:Value}(hg:∀c∈es,bJ X d Γ c)(eb:gp X f v)(hv:(∃id,v=.builtin id)\/∃t,v=.type t){aa:Env}{ai:b5}{ae:bF}{p pos:Pos}{args:bL}{H:ak}{q:au×ak}{r:PV×ak}(hk:aa.scope.kind=.function)(hN:d8 ai)(hl:ae.length=ai.length)
  (h2:aa.kindOf (Sx f)=some .globalImplicit)(h3:(Sx f==("__debug__":Str))=false)(hm:fY es aa.scope.names ai args=true)(hq:cX Γ es ae H=some q)(w:PV)(ev:q.1=[w])
  (op:∀(A:Around) (cf:Cf) (s:Shared) (E:cJ) (x:Value),c7 d A->aU X cf s.heap->Rep X cf s.heap w x->cf.H=q.2->wpAny (model X.prog X.w) A (call v [x] []) (bC X cf s<|GV X<|Pin r) E s):
  AE X d aa ai ae (.Call (.Name (Sx f) p) args [] pos) H (Pin r):=by
 refine U3 (jZ hg hk hN hl hm hq) λg1 U g3 U=>?_;refine Jv G.T eb hv h2 h3 g3 g1 λA cf s E vs ps hA S rl hP=>?_;refine U1 hP λaL hH=>?_;clear hP;subst aL;rw[ev]at rl;refine aC (rQ rl) λx aM rx=>?_;clear rl;subst aM;exact op A cf s E x hA S rx hH
theorem LQ(G:eA X){es:List CE}{f:String}{v:Value}(hg:∀c∈es,bJ X d Γ c)(eb:gp X f v)(hv:(∃id,v=.builtin id)\/∃t,v=.type t){aa:Env}{ai:b5}{ae:bF}{p pos:Pos}{args:bL}{H:ak}{q:au×ak}{r:PV×ak}(hk:aa.scope.kind=.function)(hN:d8 ai)(hl:ae.length=ai.length)
  (h2:aa.kindOf (Sx f)=some .globalImplicit)(h3:(Sx f==("__debug__":Str))=false)(hm:fY es aa.scope.names ai args=true)(hq:cX Γ es ae H=some q)(i j:Int)(ev:q.1=[.i i,.i j])
  (op:∀(A:Around) (cf:Cf) (s:Shared) (E:cJ) (t u:Tok),c7 d A->aU X cf s.heap->cf.H=q.2->wpAny (model X.prog X.w) A (call v [.int i t,.int j u] []) (bC X cf s<|GV X<|Pin r) E s):
  AE X d aa ai ae (.Call (.Name (Sx f) p) args [] pos) H (Pin r):=by
 refine U3 (jZ hg hk hN hl hm hq) λg1 U g3 U=>?_;refine Jv G.T eb hv h2 h3 g3 g1 λA cf s E vs ps hA S rl hP=>?_;refine U1 hP λaP hH=>?_;clear hP;subst aP;rw[ev]at rl;refine PA (xP rl) λx y aN aQ u aR=>?_;subst aN;revert aQ;refine Y1 λt aT=>?_;clear rl;subst aT;subst aR;exact op A cf s E t u hA S hH
theorem dE(G:eA X){es:List CE}(hg:∀c∈es,bJ X d Γ c):bJ X d Γ (.k .B es):=λaa ai ae e H r hk hN hl hm hr=>by
 refine oU e hm λy py args pos hm=>?_;refine U1 (band hm) λm0 hm2=>?_;clear hm;refine bG hr λq hq hr=>?_;refine U2 (mK m0) λaL h2 h3=>?_;clear m0;subst aL;refine yC hr λv ev hr=>?_;refine omap hr λb hb=>?_;refine r5 args hm2 λa z hm=>?_;refine qg z hm λz pz hm=>?_;refine U1 (band hm) λm1 LS=>?_;clear hm;refine U2 (mK m1) λaM k2 k3=>?_;clear m1;subst aM;refine U3 (jZ hg hk hN hl LS hq) λg1 g2 g3 g4=>?_;obtain⟨c,rfl⟩:∃c,es=[c]:=List.length_eq_one_iff.mp<|by refine rL g4 ?_;rfl
 refine aC (LO hq) λx hx aP=>?_;clear g1 hq g2;subst aP;clear hr;obtain rfl:=(q4 ev).1;refine U1 (band LS) λhm U=>?_;exact be G.T G.a9 G.ba h2 k2 (band hm).1<|(hg c cR aa ai ae a H x hk hN hl (band hm).2 hx).pin<|cM b (dA hb) rfl rfl
theorem dL(G:eA X){b:oG}{es:List CE}(hg:∀c∈es,bJ X d Γ c):bJ X d Γ (.k b es):=by
 induction b using oG.casesOn with
 |B=>exact dE G hg
 |_=>
  refineλaa ai ae e H r hk hN hl hm hr=>?_;refine oU e hm λy py args pos hm=>?_;refine U1 (band hm) λm0 hm2=>?_;clear hm;refine bG hr λq hq hr=>?_;refine U2 (mK m0) λaN h2 h3=>?_;clear m0;subst aN
  first
  |refine yC hr λv ev hr=>?_
   refine omap hr λl jd=>?_
   first
   |exact uY (b:=.l) G hg G.aw (.inl ⟨_,rfl⟩) hk hN hl h2 h3 hm2 hq v ev λA cf s E x hA S rx hH=>XH S rx (hH▸jd) ⟨rfl,hH⟩
   |exact uY (b:=.i) G hg G.LD (.inr ⟨_,rfl⟩) hk hN hl h2 h3 hm2 hq v ev λA cf s E x hA S rx hH=>XK S rx (hH▸jd) ⟨rfl,hH⟩
   |exact uY (b:=.s) G hg G.LD (.inr ⟨_,rfl⟩) hk hN hl h2 h3 hm2 hq v ev λA cf s E x hA S rx hH=>XM S rx (hH▸jd)<|hH▸⟨rfl,rfl⟩
  |refine yC hr λv ev hr=>?_
   refine bG hr λl jd hr=>?_;refine bG hr λns hns hr=>?_
   first
   |exact Hg hr λh64=>uY (b:=.o) G hg G.ax (.inl ⟨_,rfl⟩) hk hN hl h2 h3 hm2 hq v ev λA cf s E x hA S rx hH=>XN S rx (hH▸jd) hns h64 ⟨rfl,hH⟩
   |refine omap hr λn hn=>?_
    refine gG (dC hn) λn ns aQ aR=>?_;clear hr;clear hn;subst aQ;subst aR;exact uY (b:=.m) G hg G.LF (.inl ⟨_,rfl⟩) hk hN hl h2 h3 hm2 hq v ev λA cf s E x hA S rx hH=>XR hA S rx (hH▸jd) hns ⟨rfl,hH⟩
  |refine dy hr λv w ev hr=>?_
   refine nA hr λi hi hr=>?_;refine nA hr λj hj hr=>?_;subst hi hj;obtain rfl:=aK hr
   first
   |exact LQ G hg G.LF (.inl ⟨_,rfl⟩) hk hN hl h2 h3 hm2 hq i j ev λA cf s E t u hA S hH=>XO hA S ⟨rfl,hH⟩
   |exact LQ G hg G.a8 (.inl ⟨_,rfl⟩) hk hN hl h2 h3 hm2 hq i j ev λA cf s E t u hA S hH=>XQ hA S ⟨rfl,hH⟩
set_option tactic.hygienic true in
theorem dT{a b:CE}(ha:bJ X d Γ a)(hb:bJ X d Γ b):bJ X d Γ (.q a b):=λaa ai ae e H r hk hN hl hm hr=>by
 refine r6 e hm λv y p' args p m0 m2 hm=>?_;refine U1 (band hm) λh0 hm=>?_;obtain rfl:=gQ.mp h0;refine iz args hm λw hm=>?_;refine U1 (band hm) λhm m4=>?_;refine U1 (band hm) λm1 m3=>?_;refine bG hr λx hx hr=>?_;refine i_ hr λn0 l0 hc0 hr=>?_;refine bG hr λy hy hr=>?_;refine i_ hr λn1 l1 hc1 hr=>?_;split at hr
 ·rename_i hz;have hr:=aK hr;subst hr;refine U1 (su hc0) λe0 h0=>?_;refine U1 (su hc1) λe1 h1=>?_;rw[e0]at e1;clear hc1 hr;clear hr;obtain rfl:=PV.e.inj e1;exact W9 m0 m1 m2<|(ha aa ai ae _ H x hk hN hl m3 hx).pin<|fg n0 l0 e0 h0<|(hb aa ai ae _ x.2 y hk hN hl m4 hy).pin<|iq l1 h1 hz rfl rfl
 ·exact nN hr
set_option tactic.hygienic true in
theorem d0{a b:CE}(ha:bJ X d Γ a)(hb:bJ X d Γ b):bJ X d Γ (.x a b):=λaa ai ae e H r hk hN hl hm hr=>by
 refine r6 e hm λv y p' args p m0 m2 hm=>?_;refine U1 (band hm) λh0 hm=>?_;obtain rfl:=gQ.mp h0;refine iz args hm λw hm=>?_;refine U1 (band hm) λhm m4=>?_;refine U1 (band hm) λm1 m3=>?_;refine bG hr λx hx hr=>?_;refine i_ hr λn0 l0 hc0 hr=>?_;refine bG hr λy hy hr=>?_;refine i_ hr λn1 l1 hc1 hr=>?_;refine bG hr λrr d4 hr=>?_;split at hr
 ·rename_i hz;have hr:=aK hr;subst hr;refine U1 (su hc0) λe0 h0=>?_;refine U1 (su hc1) λe1 h1=>?_;rw[e0]at e1;clear hc1 hr;clear hr;obtain rfl:=PV.e.inj e1;exact Xa m0 m1 m2<|(ha aa ai ae _ H x hk hN hl m3 hx).pin<|fg n0 l0 e0 h0<|(hb aa ai ae _ x.2 y hk hN hl m4 hy).pin<|uc l1 rr h1 d4 hz rfl rfl
 ·exact nN hr
theorem d5{l:au}{v:PV}(h:l.getLast?=some v):l=l.dropLast++[v]:=by
 induction l using b9 with
 |nil=>simp at h
 |cons a t=>
  have e:=List.dropLast_concat_getLast (l:=a::t)<|by simp
  rw[List.getLast?_eq_getLast<|by simp]at h;refine rL (aK h) ?_;exact e.symm
theorem d6{a:CE}(ha:bJ X d Γ a):bJ X d Γ (.u a):=λaa ai ae e H r hk hN hl hm hr=>by refine r6 e hm λv y p' args p m0 m2 hm=>?_;refine U1 (band hm) λhm m3=>?_;refine U1 (band hm) λh0 hm=>?_;obtain rfl:=gQ.mp h0;refine jF args hm ?_;refine bG hr λx hx hr=>?_;refine i_ hr λn0 l0 hc0 hr=>?_;refine omap hr λv hv=>?_;refine U1 (su hc0) λe0 h0=>?_;exact Xb m0 m2<|(ha aa ai ae _ H x hk hN hl m3 hx).pin<|lY n0 l0.dropLast v e0 (by exact rR h0<|rL (d5 hv) rfl) rfl rfl
theorem eh{a b:CE}(ha:bJ X d Γ a)(hb:bJ X d Γ b):bJ X d Γ (.w a b):=λaa ai ae e H r hk hN hl hm hr=>by refine r6 e hm λv y p' args p m0 m2 hm=>?_;refine U1 (band hm) λh0 hm=>?_;obtain rfl:=gQ.mp h0;refine iz args hm λw hm=>?_;refine U1 (band hm) λhm m4=>?_;refine U1 (band hm) λm1 m3=>?_;refine bG hr λx hx hr=>?_;refine Wg hr λks l hxs hr=>?_;refine bG hr λy hy hr=>?_;refine Hi hr λs hys hr=>?_;obtain rfl:=aK hr;exact Xc m0 m1 m2<|(ha aa ai ae _ H x hk hN hl m3 hx).pin<|gR ks l hxs<|(hb aa ai ae _ x.2 y hk hN hl m4 hy).pin<|cM s hys rfl rfl
theorem ei{a b c:CE}(ha:bJ X d Γ a)(hb:bJ X d Γ b)(hc:bJ X d Γ c):bJ X d Γ (.y a b c):=λaa ai ae e H r hk hN hl hm hr=>by refine r6 e hm λv y p' args p m0 m2 hm=>?_;refine U1 (band hm) λh0 hm=>?_;obtain rfl:=gQ.mp h0;refine r5 args hm λw u hm=>?_;refine U1 (band hm) λhm m5=>?_;refine U1 (band hm) λhm m4=>?_;refine U1 (band hm) λhm m3=>?_;refine U1 (band hm) λm1 eC=>?_;refine bG hr λx hx hr=>?_;refine Wf hr λf hxs hr=>?_;refine bG hr λy hy hr=>?_;refine bG hr λz hz hr=>?_;refine nA hr λi hi hr=>?_;refine nA hr λj hj hr=>?_;obtain rfl:=aK hr;exact Xd m0 m1 eC m2<|(ha aa ai ae _ H x hk hN hl m3 hx).pin<|aA f hxs<|(hb aa ai ae _ x.2 y hk hN hl m4 hy).pin<|(hc aa ai ae _ y.2 z hk hN hl m5 hz).pin<|fy i j hi hj rfl rfl
theorem eD{n:CE}(hn:bJ X d Γ n):bJ X d Γ (.z n):=λaa ai ae e H r hk hN hl hm hr=>by refine JC e hm λl o r' p hm=>?_;refine U1 (band hm) λh0 hm=>?_;obtain rfl:=cG h0;refine Ck l hm λl p' hm=>?_;refine iz l hm λc hm=>?_;refine uL c hm λc k p2 hm=>?_;refine U1 (band hm) λh0 m1=>?_;clear hm;obtain rfl:=cG h0;refine bG hr λx hx hr=>?_;refine nA hr λk hxs hr=>?_;refine Hg hr λhb=>?_;exact Yv<|(hn aa ai ae _ H x hk hN hl m1 hx).pin<|wF k hxs hb.1 hb.2 rfl rfl
theorem eP(G:eA X):bJ X d Γ .A:=λaa ai ae e H r hk hN hl hm hr=>by refine Ci e hm λk v p hm=>?_;refine U1 (band hm) λh0 hm=>?_;refine jF k h0 ?_;refine jF v hm ?_;obtain rfl:=aK hr;exact Yo G.T ⟨rfl,rfl⟩
theorem eQ(G:eA X):bJ X d Γ .B:=λaa ai ae e H r hk hN hl hm hr=>by refine Ci e hm λk v p hm=>?_;refine U1 (band hm) λh0 hm=>?_;refine jF k h0 ?_;refine jF v hm ?_;obtain rfl:=aK hr;exact Yp G.T ⟨rfl,rfl⟩
theorem fe(G:eA X){ks:aY}{ps:au}:bJ X d Γ (.C ks ps):=λaa ai ae e H r hk hN hl hm hr=>by refine Ci e hm λk v p hm=>?_;simp only[Bool.and_eq_true,decide_eq_true_iff,Bool.not_eq_true']at hm;refine U1 hm λaT m3=>?_;revert aT;refine V1 λaL m2=>?_;revert aL;refine V1 λm0 m1=>?_;obtain rfl:=aK hr;exact Yt G.T m0 (by intro q;rw[q]at m1;exact tB m1) m2 m3 ⟨rfl,rfl⟩
end
end
section
abbrev j0(h:Heap)(z TI TO:Addr)(f0 f1:Value):Prop:=
 h.get? z=some {cls:=.type "zip",dict:=none,data:=.fields #[f0,f1,.bool false,.ref TI,.ref TO],slots:=#[]}
section
variable {prog:Program}{w:World}{A:Around}{E:cJ}{s:Shared}
theorem fi{a:Addr}{Q:Option Obj->Shared->Prop}(h:Q (s.heap.get? a) s):wpAny (model prog w) A (loadIfAlive a) Q E s:=λU U U=>h
theorem LU{z TI TO:Addr}{f0 f1:Value}{Q:Bool->Shared->Prop}(hz:j0 s.heap z TI TO f0 f1)(hf:f0=.none\/∃t:Nat,f0=rawInt t)
  (h1:Q true s)(h2:∀h',(∃Dh,j0 h' z TI TO f0 Dh)->Heap.SameBut z s.heap h'->Q false {s with heap:=h'}):wpAny (model prog w) A (Builtin.SmallTypes.ownedTupleIsFree<|.ref z) Q E s:=by
 unfold Builtin.SmallTypes.ownedTupleIsFree;refine a_<|jw hz rfl (x:=f0) rfl ?_
 rcases hf with rfl|⟨t,rfl⟩
 ·exact cF h1
 ·show wpAny _ _ (loadIfAlive _>>=_) _ _ s;refine a_<|fi ?_
  cases s.heap.get? (Int.toNat (t:Int))with
  |none=>simp only[Option.isNone_none,if_true];exact cF h1
  |some o=>
   simp only[Option.isNone_some,Bool.false_eq_true,if_false];refine a_<|jw hz rfl (x:=f1) rfl ?_
   split
   ·refine a_ (lj hz (by simp) λh' hz' hs'=>cF<|h2 h' ⟨_,hz'⟩ hs')
   ·exact cF<|h2 s.heap ⟨_,hz⟩<|Heap.SameBut.refl _ _
inductive ZF (h:Heap)(z TI TO:Addr):Prop
 |mk (f0 f1:Value) (hz:j0 h z TI TO f0 f1) (hf:f0=.none\/∃t:Nat,f0=rawInt t):ZF h z TI TO
inductive uZ (h:Heap)(T:Addr):Prop
 |mk (a b:Value) (e:IsPair h T a b):uZ h T
structure ZS (z TI TO i1 i2 l1 l2:Addr)(xs ys:dg)(i:Nat)(h:Heap):Prop where
 hz:ZF h z TI TO
 hTI:IsPair h TI (.ref i1) (.ref i2)
 hTO:uZ h TO
 h1:h.IsListIter i1 l1 i
 h2:h.IsListIter i2 l2 i
 hl1:h.IsList l1 xs
 hl2:h.IsList l2 ys
theorem ZS.next{z TI TO i1 i2 l1 l2:Addr}{xs ys:dg}{i:Nat}{h h':Heap}(D:ZipApart z TI TO i1 i2 l1 l2)(Z:ZS z TI TO i1 i2 l1 l2 xs ys i h)(hz:ZF h' z TI TO)(hTO:uZ h' TO)(h1:h'.IsListIter i1 l1<|i+1)(h2:h'.IsListIter i2 l2<|i+1)
  (k:∀c o,c≠z->c≠TO->c≠i1->c≠i2->h.get? c=some o->h'.get? c=some o):ZS z TI TO i1 i2 l1 l2 xs ys (i+1) h':=
 ⟨hz,k _ _ D.TIz D.TITO D.TIi1 D.TIi2 Z.hTI,hTO,h1,h2,Z.hl1.at λo q=>k _ o D.l1z D.l1TO D.l1i1 D.l1i2 q,Z.hl2.at λo q=>k _ o D.l2z D.l2TO D.l2i1 D.l2i2 q⟩
theorem fo{z TI TO i1 i2 l1 l2:Addr}{i:Nat}{xs ys:dg}{x y:Value}{Q:Fin->Shared->Prop}(D:ZipApart z TI TO i1 i2 l1 l2)(Z:ZS z TI TO i1 i2 l1 l2 xs ys i s.heap)(hx:xs[i]?=some x)(hy:ys[i]?=some y)
  (hQ:∀h' T,ZS z TI TO i1 i2 l1 l2 xs ys (i+1) h'->IsPair h' T x y->s.heap.objs.size<=T->(∀c o,c≠z->c≠TO->c≠i1->c≠i2->s.heap.get? c=some o->h'.get? c=some o)->Q (.done<|.ret<|.ref T) {s with heap:=h'}):
  wpAny (model prog w) A (Builtin.«zip.__next__» ⟨[.ref z],[]⟩) Q E s:=by
 obtain⟨hp,gn,dr,tk,os⟩:=s;obtain⟨f0,f1,hz,hf⟩:=Z.hz;obtain⟨a,b,hTO⟩:=Z.hTO;have hTI:=Z.hTI;have h1:=Z.h1;have h2:=Z.h2;have hl1:=Z.hl1;have hl2:=Z.hl2;show wpAny _ _ (field (.ref z) 2>>=_) _ _ _;refine a_<|jw hz rfl (x:=.bool false) rfl ?_
 show wpAny _ _ (field (.ref z) 3>>=_) _ _ _;refine a_<|jw hz rfl (x:=.ref TI) rfl ?_
 refine a_<|pV hTI rfl ?_
 show wpAny _ _ (Builtin.SmallTypes.ownedTupleIsFree (.ref z)>>=_) _ _ _;refine a_ (LU hz hf ?_ λh₁ j4 hs₁=>?_)
 ·
  simp only[if_true];refine a_<|wpAny_rule ?_
  refine a_<|jw hz rfl (x:=.ref TO) rfl ?_
  refine a_ (lj hz (by simp) λh₁ j4 hs₁=>?_)
  replace j4:j0 h₁ z TI TO .ellipsis f1:=j4
  refine a_ ?_;simp only[List.zipIdx_cons,List.zipIdx_nil,List.forIn_cons,List.forIn_nil];refine a_<|a_<|wpAny_onRaise ?_
  show wpAny _ _ (Builtin.SmallTypes.nextOf (.ref i1)>>=_) _ _ _;refine a_ (wz (h1.extBut hs₁.extBut D.i1z) (hl1.extBut hs₁.extBut D.l1z) hx λh₂ Di hs₂=>cF ?_);have LV:IsPair h₂ TO a b:=hs₂.extBut _ _ D.TOi1 (hs₁.extBut _ _ D.TOz hTO);refine a_<|pV LV rfl ?_
  refine a_ (wpAny_updateSeq_pair LV λh₃ Dj iR=>?_)
  replace Dj:IsPair h₃ TO x b:=Dj
  refine a_<|wpAny_letGo<|cF ?_
  refine a_<|a_<|wpAny_onRaise ?_
  show wpAny _ _ (Builtin.SmallTypes.nextOf (.ref i2)>>=_) _ _ _
  refine a_ (wz (((h2.extBut hs₁.extBut D.i2z).extBut hs₂.extBut D.i12.symm).extBut iR.extBut D.TOi2.symm)
   (((hl2.extBut hs₁.extBut D.l2z).extBut hs₂.extBut D.l2i1).extBut iR.extBut D.l2TO) hy λh₄ Dk mO=>cF ?_)
  have LW:IsPair h₄ TO x b:=mO.extBut _ _ D.TOi2 Dj;refine a_<|pV LW rfl ?_
  refine a_ (wpAny_updateSeq_pair LW λh₅ yD nM=>?_)
  replace yD:IsPair h₅ TO x y:=yD
  refine a_<|wpAny_letGo<|cF<|cF ?_
  refine a_<|pV yD rfl ?_
  refine a_<|wpAny_newTuple ?_
  have hsz:h₅.objs.size=hp.objs.size:=by exact rR nM.1<|rR mO.1<|rR iR.1<|rR hs₂.1<|rR hs₁.1 rfl
  have LX:j0 h₅ z TI TO .ellipsis f1:=nM.extBut _ _ D.TOz.symm (mO.extBut _ _ D.i2z.symm (iR.extBut _ _ D.TOz.symm (hs₂.extBut _ _ D.i1z.symm j4)));have ft:∀c o,c≠z->c≠TO->c≠i1->c≠i2->hp.get? c=some o->h₅.get? c=some o:=λc o c1 c2 c3 c4 e=>
   nM.extBut _ _ c2 (mO.extBut _ _ c4 (iR.extBut _ _ c2 (hs₂.extBut _ _ c3 (hs₁.extBut _ _ c1 e))))
  have fw:h₅.IsListIter i1 l1 (i+1):=((Di.extBut iR.extBut D.TOi1.symm).extBut mO.extBut D.i12).extBut nM.extBut D.TOi1.symm;have fA:h₅.IsListIter i2 l2 (i+1):=Dk.extBut nM.extBut D.TOi2.symm;have LY:z<h₅.objs.size:=fJ LX;show wpAny _ _ (Builtin.SmallTypes.ownedTupleHandOut (.ref z) (.ref h₅.objs.size)>>=_) _ _ _;refine a_ ?_;unfold Builtin.SmallTypes.ownedTupleHandOut;have fI:j0 (h₅.push {cls:=.type "tuple",data:=.seq #[x,y]}) z TI TO .ellipsis f1:=jq _ LX;refine a_ (lj fI (by simp) λsF Dl sG=>?_)
  replace Dl:j0 sF z TI TO (rawInt h₅.objs.size) f1:=Dl
  refine lj Dl (by simp) λu0 Dm LZ=>?_
  replace Dm:j0 u0 z TI TO (rawInt h₅.objs.size) (.bool false):=Dm
  have up:∀c o,c≠z->h₅.get? c=some o->u0.get? c=some o:=λc o c1 e=>LZ.extBut _ _ c1 (sG.extBut _ _ c1 (jq _ e));have ga:IsPair u0 h₅.objs.size x y:=LZ.extBut _ _ (Nat.ne_of_gt LY) (sG.extBut _ _ (Nat.ne_of_gt LY) (ik _ rfl));have k:∀c o,c≠z->c≠TO->c≠i1->c≠i2->hp.get? c=some o->u0.get? c=some o:=λc o c1 c2 c3 c4 e=>up c o c1<|ft c o c1 c2 c3 c4 e
  exact cF<|hQ u0 h₅.objs.size (Z.next D ⟨_,_,Dm,.inr ⟨_,rfl⟩⟩ ⟨_,_,up _ _ D.TOz yD⟩ (fw.at λo e=>up _ o D.i1z e) (fA.at λo e=>up _ o D.i2z e) k) ga (cj hsz.symm) k
 ·(revert j4;refine Y1 λDh j4=>?_)
  simp only[Bool.false_eq_true,if_false];refine a_ ?_;refine rL Array.forIn_toList ?_;simp only[List.forIn_cons,List.forIn_nil];refine a_<|a_<|wpAny_holding ?_
  show wpAny _ _ (Builtin.SmallTypes.nextOf (.ref i1)>>=_) _ _ _;refine a_ (wz (h1.extBut hs₁.extBut D.i1z) (hl1.extBut hs₁.extBut D.l1z) hx λh₂ Di hs₂=>cF<|cF ?_);refine a_<|a_<|wpAny_holding ?_
  show wpAny _ _ (Builtin.SmallTypes.nextOf (.ref i2)>>=_) _ _ _
  refine a_ (wz ((h2.extBut hs₁.extBut D.i2z).extBut hs₂.extBut D.i12.symm)
   ((hl2.extBut hs₁.extBut D.l2z).extBut hs₂.extBut D.l2i1) hy λh₄ Dk mO=>cF<|cF<|cF ?_)
  show wpAny _ _ (newTuple [x,y]>>=_) _ _ _;refine a_<|wpAny_newTuple ?_
  have hsz:h₄.objs.size=hp.objs.size:=by exact rR mO.1<|rR hs₂.1<|rR hs₁.1 rfl
  have gd:j0 h₄ z TI TO f0 Dh:=mO.extBut _ _ D.i2z.symm (hs₂.extBut _ _ D.i1z.symm j4);have u9:∀c o,c≠z->c≠i1->c≠i2->hp.get? c=some o->h₄.get? c=some o:=λc o c1 c3 c4 e=>mO.extBut _ _ c4 (hs₂.extBut _ _ c3 (hs₁.extBut _ _ c1 e));have ge:h₄.IsListIter i1 l1 (i+1):=Di.extBut mO.extBut D.i12;have up:∀c o,h₄.get? c=some o->(h₄.push {cls:=.type "tuple",data:=.seq #[x,y]}).get? c=some o:=λc o e=>jq _ e;have k:∀c o,c≠z->c≠TO->c≠i1->c≠i2->hp.get? c=some o->(h₄.push {cls:=.type "tuple",data:=.seq #[x,y]}).get? c=some o:=λc o c1 c2 c3 c4 e=>up c o<|u9 c o c1 c3 c4 e
  exact cF<|hQ _ h₄.objs.size (Z.next D ⟨_,_,up _ _ gd,hf⟩ ⟨_,_,up _ _ (u9 _ _ D.TOz D.TOi1 D.TOi2 hTO)⟩ (ge.at λo e=>up _ o e) (Dk.at λo e=>up _ o e) k) (ik _ rfl) (cj hsz.symm) k
theorem gl{z TI TO i1 i2 l1:Addr}{k1:Nat}{xs:dg}{f0 f1:Value}{Q:Fin->Shared->Prop}(hh:A.handled=none)(d1:i1≠z)(d2:l1≠z)
  (hz:j0 s.heap z TI TO f0 f1)(hf:f0=.none\/∃t:Nat,f0=rawInt t)(hTI:IsPair s.heap TI (.ref i1)<|.ref i2)
  (h1:s.heap.IsListIter i1 l1 k1)(hl1:s.heap.IsList l1 xs)(hx:xs[k1]?=none)
  (hE:∀h' e,(∀c o,c≠z->c≠i1->s.heap.get? c=some o->h'.get? c=some o)->(∃o,h'.get? e=some o/\o.cls=.type "StopIteration")->E (.ref e) {s with heap:=h'}):
  wpAny (model prog w) A (Builtin.«zip.__next__» ⟨[.ref z],[]⟩) Q E s:=by
 obtain⟨hp,gn,dr,tk,os⟩:=s;show wpAny _ _ (field (.ref z) 2>>=_) _ _ _;refine a_<|jw hz rfl (x:=.bool false) rfl ?_
 show wpAny _ _ (field (.ref z) 3>>=_) _ _ _;refine a_<|jw hz rfl (x:=.ref TI) rfl ?_
 refine a_<|pV hTI rfl ?_
 show wpAny _ _ (Builtin.SmallTypes.ownedTupleIsFree (.ref z)>>=_) _ _ _;refine a_ (LU hz hf ?_ λh₁ j4 hs₁=>?_)
 ·simp only[if_true];refine a_<|wpAny_rule ?_
  refine a_<|jw hz rfl (x:=.ref TO) rfl ?_
  refine a_ (lj hz (by simp) λh₁ j4 hs₁=>?_)
  replace j4:j0 h₁ z TI TO .ellipsis f1:=j4
  refine a_ ?_;simp only[List.zipIdx_cons,List.zipIdx_nil,List.forIn_cons,List.forIn_nil];refine a_<|a_<|wpAny_onRaise ?_
  show wpAny _ _ (Builtin.SmallTypes.nextOf (.ref i1)>>=_) _ _ _;refine a_ (wpAny_nextOf_list_end hh (h1.extBut hs₁.extBut d1) (hl1.extBut hs₁.extBut d2) hx λh₂ e hs₂ he=>?_);refine aC he λoe Dn hce=>?_;have L0:j0 h₂ z TI TO .ellipsis f1:=hs₂ _ _ d1.symm j4;have gt:e≠z:=λx=>by clear d1 d2 hz hE hs₁ j4;subst x;rw[L0]at Dn;obtain rfl:=aK Dn;simp at hce
  refine lj L0 (by simp) λh₃ U iR=>hE h₃ e (λc o c1 c3 x=>iR.extBut _ _ c1 (hs₂ _ _ c3 (hs₁.extBut _ _ c1 x)))<|aA oe (iR.extBut _ _ gt Dn) hce
 ·simp only[Bool.false_eq_true,if_false];refine a_ ?_;refine rL Array.forIn_toList ?_;simp only[List.forIn_cons,List.forIn_nil];refine a_<|a_<|wpAny_holding ?_
  show wpAny _ _ (Builtin.SmallTypes.nextOf (.ref i1)>>=_) _ _ _;refine a_ (wpAny_nextOf_list_end hh (h1.extBut hs₁.extBut d1) (hl1.extBut hs₁.extBut d2) hx λh₂ e hs₂ he=>?_);exact hE h₂ e (λc o c1 c3 x=>hs₂ _ _ c3 (hs₁.extBut _ _ c1 x)) he
theorem gL{z TI TO i1 i2 l1 l2:Addr}{i:Nat}{xs ys:dg}{x y:Value}{Q:cJ}(D:ZipApart z TI TO i1 i2 l1 l2)(Z:ZS z TI TO i1 i2 l1 l2 xs ys i s.heap)(hx:xs[i]?=some x)(hy:ys[i]?=some y)
  (hQ:∀h' T,ZS z TI TO i1 i2 l1 l2 xs ys (i+1) h'->IsPair h' T x y->s.heap.objs.size<=T->(∀c o,c≠z->c≠TO->c≠i1->c≠i2->s.heap.get? c=some o->h'.get? c=some o)->Q (.ref T) {s with heap:=h'}):
  wpAny (model prog w) A (Builtin.SmallTypes.nextOf<|.ref z) Q E s:=by
 obtain⟨_,_,hz,_⟩:=Z.hz;have hT:s.TypeIs (.ref z) "zip":=aA _ hz rfl;unfold Builtin.SmallTypes.nextOf
 exact a_ (t6 (name:=Str.ofString "__next__") hT F.slot_zip_next
  (wpAny_call_entry F.slot_zip_next hT F.entry_zip_next
   (fo D Z hx hy λh' T a1 a2 a3 a4=>aA _ rfl (cF<|hQ h' T a1 a2 a3 a4)) (F.args_zip_next_1 _)))
theorem gN{z TI TO i1 i2 l1:Addr}{k1:Nat}{xs:dg}{f0 f1:Value}{Q:cJ}(hh:A.handled=none)(d1:i1≠z)(d2:l1≠z)
  (hz:j0 s.heap z TI TO f0 f1)(hf:f0=.none\/∃t:Nat,f0=rawInt t)(hTI:IsPair s.heap TI (.ref i1)<|.ref i2)
  (h1:s.heap.IsListIter i1 l1 k1)(hl1:s.heap.IsList l1 xs)(hx:xs[k1]?=none)
  (hE:∀h' e,(∀c o,c≠z->c≠i1->s.heap.get? c=some o->h'.get? c=some o)->(∃o,h'.get? e=some o/\o.cls=.type "StopIteration")->E (.ref e) {s with heap:=h'}):
  wpAny (model prog w) A (Builtin.SmallTypes.nextOf<|.ref z) Q E s:=by
 have hT:s.TypeIs (.ref z) "zip":=aA _ hz rfl;unfold Builtin.SmallTypes.nextOf
 exact a_ (t6 (name:=Str.ofString "__next__") hT F.slot_zip_next
  (wpAny_call_entry F.slot_zip_next hT F.entry_zip_next (gl hh d1 d2 hz hf hTI h1 hl1 hx hE)<|F.args_zip_next_1 _))
theorem hY{e it:Addr}{i:Int}{old:Value}{Q:cJ}(he:IsEnum s.heap e it i old)
  (hn:∀(A':Around) (K:cJ) (E':cJ),A'.handled=A.handled->(∀x h₁,IsEnum h₁ e it i old->(∀h' T t,IsEnumOut h' e it (i+1) x T->h'.get? T=some {cls:=.type "tuple",data:=.seq #[.int i t,x]}->h₁.objs.size<=T->
   (∀b o,b≠e->h₁.get? b=some o->h'.get? b=some o)->∀tk,Q (.ref T) {s with heap:=h',toks:=tk})->K x {s with heap:=h₁})->wpAny (model prog w) A' (Builtin.SmallTypes.nextOf<|.ref it) K E' s):
  wpAny (model prog w) A (Builtin.«enumerate.__next__» ⟨[.ref e],[]⟩) (λfin s'=>∃v,fin=.done (.ret v)/\Q v s') E s:=by
 obtain⟨hp,g,d,tk,os⟩:=s;show wpAny _ _ (field (.ref e) 2>>=_) _ _ _;refine a_<|jw he rfl (x:=.ref it) rfl ?_
 refine a_ (hn _ _ _ rfl λx h₁ u_ hQ=>?_);show wpAny _ _ (field (.ref e) 3>>=_) _ _ ⟨h₁,g,d,tk,os⟩;refine a_<|jw u_ rfl (x:=rawInt i) rfl ?_
 show wpAny _ _ (field (.ref e) 4>>=_) _ _ ⟨h₁,g,d,tk,os⟩;refine a_<|jw u_ rfl (x:=.none) rfl ?_
 show wpAny _ _ (mkInt i>>=_) _ _ ⟨h₁,g,d,tk,os⟩;refine a_<|wpAny_mkInt ?_
 show wpAny _ _ (setField (.ref e) 3 (rawInt<|i+1)>>=_) _ _ ⟨h₁,g,d,tk+1,os⟩;refine a_ (lj u_ (by simp) λh₂ Dp hs₂=>?_)
 replace hs₂:Heap.SameBut e h₁ h₂:=hs₂
 replace Dp:IsEnum h₂ e it (i+1) old:=Dp
 show wpAny _ _ (setField (.ref e) 4 .none>>=_) _ _ ⟨h₂,g,d,tk+1,os⟩;refine a_ (lj Dp (by simp) λh₃ yE iR=>?_)
 replace iR:Heap.SameBut e h₂ h₃:=iR
 replace yE:IsEnum h₃ e it (i+1) old:=yE
 show wpAny _ _ (newTuple [.int i tk,x]>>=_) _ _ ⟨h₃,g,d,tk+1,os⟩;refine a_<|wpAny_newTuple ?_
 have yF:IsEnum (h₃.push {cls:=.type "tuple",data:=.seq #[.int i tk,x]}) e it (i+1) old:=jq _ yE;have L1:(h₃.push {cls:=.type "tuple",data:=.seq #[.int i tk,x]}).get? h₃.objs.size=some {cls:=.type "tuple",data:=.seq #[.int i tk,x]}:=ik _ rfl;have hsz:h₃.objs.size=h₁.objs.size:=by exact rR iR.1<|rR hs₂.1 rfl
 have hel:e<h₃.objs.size:=fJ yE;have u9:∀b o,b≠e->h₁.get? b=some o->(h₃.push {cls:=.type "tuple",data:=.seq #[.int i tk,x]}).get? b=some o:=λb o L2 hb=>jq _ (iR.extBut b o L2<|hs₂.extBut b o L2 hb);generalize h₃.push {cls:=.type "tuple",data:=.seq #[.int i tk,x]}=h₄ at yF L1 u9;show wpAny _ _ (Builtin.SmallTypes.ownedTupleIsFree (.ref e)>>=_) _ _ ⟨h₄,g,d,tk+1,os⟩;refine a_ ?_;unfold Builtin.SmallTypes.ownedTupleIsFree;refine a_<|jw yF rfl (x:=.none) rfl<|cF ?_
 simp only[if_true];refine a_<|wpAny_rule ?_
 refine a_<|jw yF rfl (x:=old) rfl ?_
 refine a_ (lj yF (by simp) λh₅ Dq nM=>?_)
 replace nM:Heap.SameBut e h₄ h₅:=nM
 replace Dq:IsEnum h₅ e it (i+1) x:=Dq
 show wpAny _ _ (Builtin.SmallTypes.ownedTupleHandOut (.ref e) (.ref h₃.objs.size)>>=_) _ _ ⟨h₅,g,d,tk+1,os⟩;refine a_ ?_;unfold Builtin.SmallTypes.ownedTupleHandOut;refine a_ (lj Dq (by simp) λqv Dr sr=>?_)
 replace sr:Heap.SameBut e h₅ qv:=sr
 replace Dr:IsEnumOut qv e it (i+1) x h₃.objs.size:=Dr
 refine lj Dr (by simp) λsF Ds sG=>?_
 replace sG:Heap.SameBut e qv sF:=sG
 replace Ds:IsEnumOut sF e it (i+1) x h₃.objs.size:=Ds
 have up:∀b o,b≠e->h₄.get? b=some o->sF.get? b=some o:=λb o hb q=>sG.extBut _ _ hb (sr.extBut _ _ hb (nM.extBut _ _ hb q));refine a_<|wpAny_letGo<|cF<|aA _ rfl (hQ sF h₃.objs.size tk Ds (up _ _ (Nat.ne_of_gt hel) L1) (cj hsz.symm) (λb o hb q=>up b o hb<|u9 b o hb q) _)
set_option tactic.hygienic true in
theorem hZ(z TI TO:Addr)(f0:Value):
  Meets (Builtin.«enumerate.__new__» ⟨[.type "enumerate",.ref z],[]⟩) (λU R s=>IsZip s.heap z TI TO f0/\
   R (.ok<|.ret<|.ref s.heap.objs.size)
    {s with heap:=s.heap.push {cls:=.type "enumerate",data:=.fields #[.none,.bool false,.ref z,rawInt 0,.none,.none]}}):=
 .of_wp λprog w A R s h=>by
  obtain⟨hp,g,d,tk,os⟩:=s;(revert h;refine V1 λhl h=>?_);have hsub:=sub_enumerate;have hL:IsZip (Shared.heap ⟨hp,g,d,tk,os⟩) z TI TO f0:=hl
  wp_walk using wh hl
  refine wpAny_stack_any λst=>cF ?_;split
  ·rename_i c _ _ _ _ _;cases (c==Value.type "enumerate")
   ·wp_walk using wh hl,wpAny_pyIter_zip hL
    exact aA _ rfl h
   ·wp_walk using wh hl,wpAny_pyIter_zip hL
    exact aA _ rfl h
  ·wp_walk using wh hl,wpAny_pyIter_zip hL
   exact aA _ rfl h
theorem ib{z TI TO:Addr}{f0:Value}{Q:cJ}(hz:IsZip s.heap z TI TO f0)
  (h:∀h',IsEnum h' s.heap.objs.size z 0 .none->h'.objs.size=s.heap.objs.size+1->(∀b o,s.heap.get? b=some o->h'.get? b=some o)->Q (.ref s.heap.objs.size) {s with heap:=h'}):
  wpAny (model prog w) A (call (.type "enumerate") [.ref z]) Q E s:=by
 refine callType_new F.called_enumerate (by decide) (F.typeCall_enumerate_1 _) (F.newCall_enumerate_1 _) (λobj=>F.args_object_init_2 obj _) F.entry_enumerate_new
  (hZ z TI TO f0) ⟨hz,?_⟩
 show _/\_;have he:IsEnum (s.heap.push {cls:=.type "enumerate",data:=.fields #[.none,.bool false,.ref z,rawInt 0,.none,.none]}) s.heap.objs.size z 0 .none:=ik _ rfl;exact⟨aA _ he rfl,h _ he (Heap.size_push ..) λb o x=>jq _ x⟩
end
theorem ZS.keep{z TI TO i1 i2 l1 l2:Addr}{xs ys:dg}{i:Nat}{h h':Heap}(Z:ZS z TI TO i1 i2 l1 l2 xs ys i h)(k:∀c∈[z,TI,TO,i1,i2,l1,l2],∀o,h.get? c=some o->h'.get? c=some o):ZS z TI TO i1 i2 l1 l2 xs ys i h':=
 ⟨let ⟨f0,f1,hz,hf⟩:=Z.hz;⟨f0,f1,k _ (.head _) _ hz,hf⟩,k _ (.tail _ (.head _)) _ Z.hTI,let ⟨a,b,e⟩:=Z.hTO;⟨a,b,k _ (.tail _ (.tail _ (.head _))) _ e⟩,Z.h1.at<|k _ (.tail _ (.tail _ (.tail _ (.head _)))),Z.h2.at<|k _ (.tail _ (.tail _ (.tail _ (.tail _ (.head _))))),
  Z.hl1.at (k _ (.tail _ (.tail _ (.tail _ (.tail _ (.tail _ (.head _))))))),Z.hl2.at<|k _ (.tail _ (.tail _ (.tail _ (.tail _ (.tail _ (.tail _ (.head _)))))))⟩
theorem ZF.get{z TI TO:Addr}{h:Heap}(x:ZF h z TI TO):∃o,h.get? z=some o:=let ⟨_,_,e,_⟩:=x;⟨_,e⟩
theorem uZ.get{T:Addr}{h:Heap}(x:uZ h T):∃o,h.get? T=some o:=let ⟨_,_,e⟩:=x;⟨_,e⟩
inductive yG (h:Heap)(e z:Addr)(i:Nat):Prop
 |mk (old:Value) (he:IsEnum h e z i old):yG h e z i
inductive Dt (h:Heap)(e z:Addr)(i:Nat)(v:Value):Prop
 |mk (T:Addr) (x:Value) (ev:v=.ref T) (he:IsEnumOut h e z ((i:Int)+1) x T):Dt h e z i v
inductive Du (xs ys:dg)(i:Nat)(v:Value)(h h':Heap):Prop
 |mk (T S:Addr) (t:Tok) (x y:Value) (e:v=.ref T) (hx:xs[i]?=some x) (hy:ys[i]?=some y) (hS:h.objs.size<=S) (tS:h'.IsTuple S #[x,y]) (hT:h.objs.size<=T) (tT:h'.IsTuple T #[.int i t,.ref S]):Du xs ys i v h h'
section
variable {X:Cx}{A:Around}{elts:bL}{k:Nat}{pos:Pos}{e z TI TO i1 i2 l1 l2:Addr}{xs ys:dg}{i:Nat}{s:Shared}{E:cJ}
theorem ii{Q:Option Value->Shared->Prop}(D:ZipApart z TI TO i1 i2 l1 l2)(De:∀c∈[z,TI,TO,i1,i2,l1,l2],c≠e)(hsz:xs.size=ys.size)(hi:i<xs.size)(he:yG s.heap e z i)(Z:ZS z TI TO i1 i2 l1 l2 xs ys i s.heap)
  (hQ:∀v h' tk,Dt h' e z i v->ZS z TI TO i1 i2 l1 l2 xs ys (i+1) h'->Du xs ys i v s.heap h'->(∀b o,b∉[e,z,TO,i1,i2]->s.heap.get? b=some o->h'.get? b=some o)->Q (some v) {s with heap:=h',toks:=tk}):wpAny (model X.prog X.w) A (pyNext<|.ref e) Q E s:=by
 obtain⟨old,he⟩:=he;have hx:xs[i]?=some xs[i]:=Array.getElem?_eq_getElem hi;have hi2:i<ys.size:=hsz▸hi;have hy:ys[i]?=some ys[i]:=Array.getElem?_eq_getElem hi2;generalize xs[i]=x at hx;generalize ys[i]=y at hy;have hT:s.TypeIs (.ref e) "enumerate":=aA _ he rfl;unfold pyNext
 refine a_ (wpAny_attempt (t6 (name:=Str.ofString "__next__") hT F.slot_enumerate_next
  (wpAny_call_entry F.slot_enumerate_next hT F.entry_enumerate_next (hY (Q:=λv s'=>wpAny _ _ _ _ _ s') he λA' K E' U hK=>?_)<|F.args_enumerate_next_1 _)))
 refine gL D Z hx hy λh₁ S ij a5 a6 a7=>?_;have k:∀b o,b∉[e,z,TO,i1,i2]->s.heap.get? b=some o->h₁.get? b=some o:=λb o hb q=>by simp only[List.mem_cons,List.not_mem_nil,or_false,not_or]at hb;exact a7 b o hb.2.1 hb.2.2.1 hb.2.2.2.1 hb.2.2.2.2 q
 have s1:S≠e:=λq=>absurd (fJ he)<|Nat.not_lt.mpr<|q▸a6
 have hlt:=eR a6<|Nat.le_of_lt<|fJ a5
 have u_:=a7 _ _ (De z<|.head _).symm (De TO<|.tail _ (.tail _ (.head _))).symm (De i1<|.tail _ (.tail _ (.tail _ (.head _)))).symm (De i2<|.tail _ (.tail _ (.tail _ (.tail _ (.head _))))).symm he;refine hK (.ref S) h₁ u_ λh' T t hout il hle hk tk=>?_
 exact cF (hQ (.ref T) h' tk ⟨T,.ref S,rfl,hout⟩ (ij.keep λc hc o q=>hk c o (De c hc) q)
  ⟨T,S,t,x,y,rfl,hx,hy,a6,ua _ (hk _ _ s1 a5) rfl _ rfl,eR hlt hle,ua _ il rfl _ rfl⟩ λc o hc q=>hk c o (λq=>hc<|q▸.head _)<|k c o hc q)
theorem io{Q:Option Value->Shared->Prop}(hh:A.handled=none)(D:ZipApart z TI TO i1 i2 l1 l2)(he:yG s.heap e z xs.size)(Z:ZS z TI TO i1 i2 l1 l2 xs ys xs.size s.heap)
  (hQ:∀h' tk,(∀b o,b∉[e,z,TO,i1,i2]->s.heap.get? b=some o->h'.get? b=some o)->Q none {s with heap:=h',toks:=tk}):wpAny (model X.prog X.w) A (pyNext<|.ref e) Q E s:=by
 obtain⟨old,he⟩:=he;obtain⟨f0,f1,hz,hf⟩:=Z.hz;have hT:s.TypeIs (.ref e) "enumerate":=aA _ he rfl;unfold pyNext
 refine a_ (wpAny_attempt (t6 (name:=Str.ofString "__next__") hT F.slot_enumerate_next
  (wpAny_call_entry F.slot_enumerate_next hT F.entry_enumerate_next ?_<|F.args_enumerate_next_1 _)))
 show wpAny _ _ (field (.ref e) 2>>=_) _ _ _;refine a_<|jw he rfl (x:=.ref z) rfl ?_
 refine a_ (gN hh D.i1z D.l1z hz hf Z.hTI Z.h1 Z.hl1 (Array.getElem?_eq_none<|bY _) λh' ex hk hex=>?_);refine aC hex λo ho hc=>?_;refine a_<|wpAny_isInstance (T:="StopIteration") (b:=true) (aA o ho hc) isSubtype_stop ?_
 exact cF (hQ _ _ λc o hc q=>hk c o (λq'=>hc<|q'▸.tail _ (.head _)) (λq'=>hc<|q'▸.tail _ (.tail _ (.tail _ (.head _)))) q)
theorem Tn.ip(hh:A.handled=none)(D:ZipApart z TI TO i1 i2 l1 l2)(De:∀c∈[z,TI,TO,i1,i2,l1,l2],c≠e)(hsz:xs.size=ys.size):
  Tn X A (.Tuple elts k pos) e [e,z,TI,TO,i1,i2,l1,l2] [e,z,TO,i1,i2] xs.size (Du xs ys) (λi v h=>Dt h e z i v/\ZS z TI TO i1 i2 l1 l2 xs ys (i+1) h) (λi h=>yG h e z i/\ZS z TI TO i1 i2 l1 l2 xs ys i h) where
 sub:=mc (.head _) (mc (.tail _ (.head _))<|mc (.tail _ (.tail _ (.tail _ (.head _))))<|mc (.tail _ (.tail _ (.tail _ (.tail _ (.head _)))))<|mc (.tail _ (.tail _ (.tail _ (.tail _ (.tail _ (.head _)))))) mz)
 frame:=λi h h' st hk=>⟨let ⟨old,he⟩:=st.1;⟨old,hk e (.head _) _ he⟩,st.2.keep λc hc=>hk c<|.tail _ hc⟩
 live:=λi h st=>mc (let ⟨old,he⟩:=st.1;⟨_,he⟩) (mc st.2.hz.get<|mc ⟨_,st.2.hTI⟩<|mc st.2.hTO.get<|mc (lD st.2.h1)<|mc (lD st.2.h2)<|mc (p9 st.2.hl1)<|mc (p9 st.2.hl2) mz)
 r9:=λi v h hm=>mc (let ⟨_,_,_,he⟩:=hm.1;⟨_,he⟩) (mc hm.2.hz.get<|mc hm.2.hTO.get<|mc (lD hm.2.h1)<|mc (lD hm.2.h2) mz)
 item:=λi s Q E hi st hQ=>ii D De hsz hi st.1 st.2 λv h' tk a b c d=>hQ v h' tk ⟨a,b⟩ c d
 go:=λi v s Q E hm hQ=>by refine U1 hm λaM Z=>?_;clear hm;obtain⟨T,x,rfl,he⟩:=aM;exact wpAny_letOwnedTupleGo_enum he λh' he' hs'=>hQ h' ⟨⟨x,by simpa using he'⟩,Z.keep λc hc o q=>(hs'.2 c<|De c hc).trans q⟩ λc o hc q=>(hs'.2 c λq'=>hc<|q'▸.head _).trans q
 done:=λs Q E st hQ=>io hh D st.1 st.2 hQ
 self:=λi s Q E st hQ=>by refine U1 st λaP U=>?_;obtain⟨old,he⟩:=aP;exact wpAny_pyIter_enum he hQ
end
section
variable {X:Cx}{d:Nat}{aa:Env}{ai:b5}{ae:bF}{H:ak}
theorem iv{n e a b:Nat}(he:e=n+5)(ha:a<n)(hb:b<n):∀c∈[n+4,n+2,n+3,n,n+1,a,b],@Ne Nat c e:=by subst he;exact mc Qx<|mc Qy<|mc Qz<|mc QA<|mc QB<|mc (F0 ha)<|mc (F0 hb) mz
theorem ix{A:Around}{cf aS:Cf}{s s₁:Shared}{P:au->ak->Prop}{elts:bL}{k:Nat}{tpos:Pos}{t₂:Nat}{e z TI TO i1 i2 a b:Addr}{xs ys:dg}{l r:au}{h'':Heap}(hh:A.handled=none)(D:ZipApart z TI TO i1 i2 a b)(De:∀c∈[z,TI,TO,i1,i2,a,b],c≠e)(fr:∀b∈[e,z,TI,TO,i1,i2],s₁.heap.objs.size<=b)
  (he:IsEnum h'' e z 0 .none)(Z:ZS z TI TO i1 i2 a b xs ys 0 h'')(e1:xs.size=l.length)(e2:ys.size=r.length)(hlen:l.length=r.length)(ea:∃o,s₁.heap.get? a=some o)(qq:¬aS.O a)(eb:∃o,s₁.heap.get? b=some o)(qs:¬aS.O b)
  (hz1:xs.size<=2^20)(st:Step cf s aS s₁)(S:aU X aS s₁.heap)(g:c5 s₁.heap h'')(r1:aO X aS s₁.heap l xs.toList)(r2:aO X aS s₁.heap r ys.toList)(q:P (dU<|gZ l r) aS.H):nH X A (.Tuple elts k tpos) cf s P (.ref e) {s₁ with heap:=h'',toks:=t₂}:=
 yg [e,z,TI,TO,i1,i2] [a,b] (Tn.ip hh D De<|e1.trans<|hlen.trans e2.symm) (mc (.head _)<|mc (.tail _ (.head _))<|mc (.tail _ (.tail _ (.tail _ (.head _))))<|mc (.tail _ (.tail _ (.tail _ (.tail _ (.head _)))))<|mc (.tail _ (.tail _ (.tail _ (.tail _ (.tail _ (.head _)))))) mz) fr
  (mc ⟨ea,qq⟩<|mc ⟨eb,qs⟩ mz) hz1 ⟨by simp[dU,gZ,e1,hlen],λi cf h h' v rr live K it=>by
   obtain⟨T,S,t,x,y,rfl,hx,hy,hS,i',hT,jp⟩:=it;refine aC (J9 rr e1 hx) λp hp rp=>?_;refine aC (J_ rr e1 hy) λp' lB rp'=>?_
   exact(aA _ (J7<|J8 hp lB) (yj live hT jp gm<|yj live hS i' (rp.mono K)<|rp'.mono K))⟩ st S g ⟨⟨_,he⟩,Z⟩ (r1.append r2) q
theorem j'{elts:bL}{k:Nat}{tpos p pos p2 pos2:Pos}{args:bL}{P:au->ak->Prop}(T:eK X)(e1:gp X "enumerate"<|.type "enumerate")(e2:gp X "zip"<|.type "zip")
  (ka:aa.kindOf (Sx "enumerate")=some .globalImplicit)(L3:aa.kindOf (Sx "zip")=some .globalImplicit)(h2:args.all notStar=true)
  (h:fM X d aa ai ae args H (λvs H'=>∃l r,vs=[.l l,.l r]/\l.length=r.length/\P (dU<|gZ l r) H')):
  jY X d aa ai ae (.Tuple elts k tpos) (.Call (.Name (Sx "enumerate") p) [.Call (.Name (Sx "zip") p2) args [] pos2] [] pos) H P:=λA cf s E hA hH S R=>by
 rw[arm_eval_Call_Name'];refine a_<|uG T e1 ka (by decide) S R ?_
 show wpAny _ A (callWith pos (.type "enumerate") [] (backTo pos<|starEach [.Call (.Name (Sx "zip") p2) args [] pos2] aa) []) _ E s;refine mq (P:=λU=>True) (by rfl) (λh U=>B8 h trivial) ?_;rw[rI<|by rfl];refine Calls.spliced_cons ?_;refine yh T e2 (.inr ⟨_,rfl⟩) L3 (by decide) h2 h hA hH S R λaS s₁ vs ps st S₁ cI rs q=>?_;revert q;refine Fl λl r aN hlen q=>?_;subst aN;refine d_ (xP rs) λv u aQ r1 r2=>?_;subst aQ;refine t7 (uS r1) λa xs aR qq qo s1 hz1 nF ea=>?_;clear r1;clear rs;subst aR;refine t7 (uS r2) λb ys aT qs qp s2 hz2 rT eb=>?_;clear r2;subst aT;have l1:=fJ ea.choose_spec;have l2:=fJ eb.choose_spec;refine call_zip_2 qo qp λh' hz hTI hTO hi1 hi2 hsz hk=>?_;refine Calls.spliced_nil ⟨trivial,?_⟩;refine ib hz λh'' he hsz2 hk2=>?_;have up:∀c o,s₁.heap.get? c=some o->h''.get? c=some o:=λc o q=>hk2 c o<|hk c o q
 exact wpAny_pyIter_enum he (ix (s₁:=s₁) (t₂:=s₁.toks) hA.hh (ktu_apart _ _ _ l1 l2) (iv hsz l1 l2) (mc (by refine rR hsz ?_;exact jt _ _)<|Ka _) he
  ⟨⟨_,_,hk2 _ _ hz,.inl rfl⟩,hk2 _ _ hTI,⟨_,_,hk2 _ _ hTO⟩,hi1.at λo e=>hk2 _ o e,hi2.at λo e=>hk2 _ o e,qo.at λo e=>up a o e,qp.at λo e=>up b o e⟩ s1 s2 hlen ea qq eb qs hz1 st S₁ up nF rT q)
end
end
section
theorem L4{iter:Expr}(h:C_ iter=true)(aa:Env)(x:Value):foldedSetIterable iter aa x=pure x:=by
 induction iter using Expr.casesOn<;>first|rfl|exact nB h
theorem Dv{aa:Env}{lc:Bool}{y:PySem.Str}(h:kindB aa.scope.names lc y=true):aa.kindOf y=some .local\/(lc=true/\aa.kindOf y=some .cell):=by
 unfold kindB at h;rcases qX.mp h with h|h
 ·exact .inl<|cG h
 ·rw[cy]at h;exact .inr ⟨h.1,cG h.2⟩
section
variable {G:Addr->Prop}{aa:Env}{ai:b5}{lc:Bool}
theorem Dw(hG:∀x,aa.kindOf (Sx x)=some .local\/(lc=true/\aa.kindOf (Sx x)=some .cell)->kN aa G x):∀{is:aG}{es:bL},yv aa.scope.names ai lc is es=true->∃xs,jW G ai aa es is xs/\es=(es.zip xs).map (λp=>match p.1 with|.Name _ pos=>Expr.Name (Sx p.2) pos|e=>e)/\xs.length=es.length
 |[],[],_=>cM [] .nil rfl rfl
 |i::is,e::es,h=>by refine U1 (band h) λh1 h2=>?_;refine qg e h1 λy pos h1=>?_;refine U1 (band h1) λh0 h1=>?_;refine c_ (yy h0) λx hx aL U=>?_;clear h0;subst aL;refine c_ (Dw hG h2) λxs r e1 e2=>?_;have hk:=Dv h1;exact cM (x::xs) (.cons hx (hk.imp id (·.2)) (hG x hk) r) (by simp only[List.zip_cons_cons,List.map_cons];exact rL e1 rfl)<|by exact rR i4<|rR i4<|rR e2 rfl
 |[],_::_,h=>nomatch (h:false=true)
 |_::_,[],h=>nomatch (h:false=true)
theorem L5(hG:∀x,aa.kindOf (Sx x)=some .local\/(lc=true/\aa.kindOf (Sx x)=some .cell)->kN aa G x){tp:Bool}{is:aG}{e:Expr}(h:Dc aa.scope.names ai lc tp is e=true):mG G ai aa tp is e:=by
 induction tp using cP with
 |false=>
  refine iz is h λi h=>?_;refine qg e h λy p h=>?_;refine U1 (band h) λh0 h1=>?_;refine c_ (yy h0) λx hx aM U=>?_;clear h h0;subst aM;have hk:=Dv h1;exact .name hx (hk.imp id (·.2))<|hG x hk
 |true=>
  refine Cm e h λes k p h=>?_;refine aC (Dw hG h) λxs r U=>?_;exact .tup r
end
theorem L6{ai:b5}(h:(ai.filterMap id).Nodup):d8 ai:=by
 intro i j x hi hj
 induction ai generalizing i j with
 |nil=>simp at hi
 |cons a t ih=>
  have ht:(t.filterMap id).Nodup:=by
   induction a using e9 with
   |none=>simpa using h
   |some y=>rw[lg]at h;exact(kC.mp h).2
  have mem:∀k:Nat,t[k]?=some (some x)->x∈t.filterMap id:=λk hk=>List.mem_filterMap.mpr<|aA (some x) (dY hk) rfl
  induction i using gD with
  |zero=>
   induction j using gD with
   |zero=>rfl
   |succ j=>
    simp only[List.getElem?_cons_zero,Option.some.injEq]at hi;subst hi;rw[lg]at h;exact absurd (mem j<|by simpa using hj) (kC.mp h).1
  |succ i=>
   induction j using gD with
   |zero=>
    simp only[List.getElem?_cons_zero,Option.some.injEq]at hj;subst hj;rw[lg]at h;exact absurd (mem i<|by simpa using hi) (kC.mp h).1
   |succ j=>exact rR (ih ht i j (by simpa using hi)<|by simpa using hj) rfl
theorem kf{ai:b5}(h:LB ai=true):d8 ai:=L6<|cG h
section
variable {X:Cx}{d:Nat}{Γ:b7}{aa:Env}{ai:b5}{ae:bF}{H:ak}
set_option tactic.hygienic true in
theorem kl{k:IK}{vs items:au}(h:fb k vs=some items):(k=.z->∃l r,vs=[.l l,.l r]/\items=gZ l r)/\(k=.n->∃l r,vs=[.l l,.l r]/\l.length=r.length/\items=dU (gZ l r))/\
  (k=.e->∃l,vs=[.l l]/\items=dU l)/\(k=.v->∃v,vs=[v]/\Am v=some items):=by
 induction k using IK.casesOn with
 |v=>exact xq vs h λv h=>⟨nofun,nofun,nofun,λU=>aA _ rfl h⟩
 |r=>exact⟨nofun,nofun,nofun,nofun⟩
 |e=>exact xq vs h λv h=>uu v h λl h=>⟨nofun,nofun,λU=>aA _ rfl ((aK h).symm),nofun⟩
 |z=>exact Aq vs h λv w h=>uu v h λl h=>uu w h λr h=>⟨λU=>gR _ _ rfl ((aK h).symm),nofun,nofun,nofun⟩
 |n=>
  refine Aq vs h λv w h=>?_;refine uu v h λl h=>?_;refine uu w h λr h=>?_;split at h
  ·rename_i e;exact⟨nofun,λU=>fg _ _ rfl e ((aK h).symm),nofun,nofun⟩
  ·exact nN h
theorem L7(Gd:eA X){bZ:List CE}(hg:∀c∈bZ,bJ X d Γ c)(hk:aa.scope.kind=.function)(hN:d8 ai)(hl:ae.length=ai.length){k:IK}{tp:Bool}{target iter:Expr}{q:au×ak}{items:au}
  (hT:tp=true->∃elts kk pos,target=.Tuple elts kk pos)(hm:yx (fY bZ aa.scope.names ai) k aa.scope.names tp iter=true)(hq:cX Γ bZ ae H=some q)(hi:fb k q.1=some items){P:au->ak->Prop}(hP:P items q.2):
  jY X d aa ai ae target iter H P:=by
 unfold yx at hm;rw[cy]at hm;revert hm;refine V1 λms hm=>?_;refine U3 (kl hi) λz1 z2 z3 z4=>?_
 induction k using IK.casesOn with
 |v=>
  dsimp only at hm;refine U3 (jZ hg hk hN hl hm hq) λg1 g2 g3 g4=>?_;obtain⟨c,rfl⟩:∃c,bZ=[c]:=List.length_eq_one_iff.mp<|by refine rL g4 ?_;rfl
  refine aC (LO hq) λx hx aP=>?_;clear hi z1 z2 z3 g1 hq g2;subst aP;refine aC (z4 rfl) λv e hv=>?_;simp only[List.cons.injEq,and_true]at e;subst e;simp only[fY,Bool.and_eq_true]at hm;exact Za<|(hg c cR aa ai ae iter H x hk hN hl hm.1.2 hx).pin<|aA items hv hP
 |r=>
  dsimp only at hm;refine oU iter hm λy py args pos hm=>?_;rw[cy]at hm;refine U2 (mK hm.1) λaN h2 h3=>?_;subst aN;refine U3 (jZ hg hk hN hl hm.2 hq) λg1 g2 g3 g4=>?_;exact Zd Gd.T Gd.bb h2 h3 g3<|g1.pin<|aA items hi hP
 |e=>
  dsimp only at hm;rw[cy]at hm;revert hm;refine V1 λht hm=>?_;refine X3 (hT ht) λelts kk tpos aQ=>?_;clear hT;subst aQ;refine oU iter hm λy py args pos hm=>?_;rw[cy]at hm;refine U2 (mK hm.1) λaR h2 h3=>?_;subst aR;refine U3 (jZ hg hk hN hl hm.2 hq) λg1 g2 g3 g4=>?_;refine aC (z3 rfl) λl e aT=>?_;clear hi z1 z2 z3 z4;subst aT;exact Zg Gd.T Gd.LG h2 h3 g3<|g1.pin<|aA l e hP
 |z=>
  dsimp only at hm;rw[cy]at hm;revert hm;refine V1 λht hm=>?_;refine X3 (hT ht) λelts kk tpos aL=>?_;clear hT;subst aL;refine oU iter hm λy py args pos hm=>?_;rw[cy]at hm;refine U2 (mK hm.1) λaM h2 h3=>?_;subst aM;refine U3 (jZ hg hk hN hl hm.2 hq) λg1 g2 g3 g4=>?_;refine gG (z1 rfl) λl r e aP=>?_;clear hi z1 z2 z3 z4;subst aP;exact Zh Gd.T Gd.LH h2 h3 g3<|g1.pin<|gR l r e hP
 |n=>
  dsimp only at hm;rw[cy]at hm;revert hm;refine V1 λht hm=>?_;refine X3 (hT ht) λelts kk tpos aN=>?_;clear hT;subst aN;refine oU iter hm λy py l pos hm=>?_;refine iz l hm λc hm=>?_;refine oU c hm λz pz args pos2 hm=>?_;rw[cy,cy]at hm;refine U2 (mK hm.1.1) λaQ h2 h3=>?_;subst aQ;refine U2 (mK hm.1.2) λaR h4 h5=>?_;subst aR;refine U3 (jZ hg hk hN hl hm.2 hq) λg1 g2 g3 g4=>?_;refine d_ (z2 rfl) λl r e hlen aT=>?_;clear hi z1 z2 z3 z4;subst aT;exact j' Gd.T Gd.LG Gd.LH h2 h4 g3<|g1.pin<|fg l r e hlen hP
theorem km{cond:List CE}(hg:∀c∈cond,gA X d Γ c):∀{l:bL}{H:ak}{b:Bool}{h':ak},aa.scope.kind=.function->d8 ai->ae.length=ai.length->fY cond aa.scope.names ai l=true->jz Γ true cond ae H=some (.b b,h')->
  qt X d aa ai ae l H (λq h=>q=b/\h=h'):=by
 induction cond with
 |nil=>
  intro l H b h' hk hN hl hm hr;have:l=[]:=lh.mp hm;clear hm;subst this;have hr:=jv<|aK hr
  exact⟨PV.b.inj hr.1,hr.2⟩
 |cons c es ih=>
  intro l H b h' hk hN hl hm hr;revert hm;refineλh0=>gG (uW h0) λx t nK hm=>?_;clear h0;subst nK
  ·skip
   rw[cy,cy]at hm;refine i_ hr λp hH hp hr=>?_;refine bG hr λc' hb hr=>?_;obtain rfl:=mL hb;refine(hg c cR aa ai ae x H c' hH hk hN hl hm.1.2 hp).pin ⟨λe=>?_,λe=>?_⟩
   ·rw[bw e]at hr;exact ih (λc hc=>hg c<|dh _ hc) hk hN hl hm.2 hr
   ·rw[bO<|by refine rR e ?_;decide]at hr;simp only[Option.some.injEq,Prod.mk.injEq,PV.b.injEq]at hr;rw[e]at hr;exact hr
set_option tactic.hygienic true in
theorem kt{tp:Bool}{n:Nat}{x:PV}{own:bF}(hk:tp=false->n=1)(h:iK tp n x=some own):own.length=n:=by
 unfold iK at h
 induction tp using cP with
 |true=>
  simp only[if_true]at h;split at h
  ·split at h
   ·rename_i e;have h:=aK h;subst h;rw[bI];exact e
   ·exact nN h
  ·exact nN h
 |false=>
  simp only[Bool.false_eq_true,if_false]at h;have h:=aK h;subst h;refine rR (hk rfl) ?_;rfl
theorem qt.mono{ifs:bL}:∀{H:ak}{Q Q':Bool->ak->Prop},qt X d aa ai ae ifs H Q->(∀b h,Q b h->Q' b h)->qt X d aa ai ae ifs H Q':=by
 induction ifs with
 |nil=>intro H Q Q' h m;exact m _ _ h
 |cons c cs ih=>
  intro H Q Q' h m;exact AT.mono h λb h' z=>⟨λe=>ih (z.1 e) m,λe=>m _ _ (z.2 e)⟩
theorem Dy{elt:CE}{cond:List CE}(he:bJ X d Γ elt)(hc:∀c∈cond,gA X d Γ c){tp:Bool}{n:Nat}(hn:tp=false->n=1)(hk:aa.scope.kind=.function)(hN:d8 ai)(hl:ai.length=ae.length+n){elt':Expr}{ifs:bL}
  (m1:mE elt aa.scope.names ai elt'=true)(m2:fY cond aa.scope.names ai ifs=true){Q:au->ak->Prop}:∀{items:au}{H:ak}{q:au×ak}{acc:au},
  jT (λx h=>(iK tp n x).bind λown=>(jz Γ true cond (ae++own) h).bind λc=>(truth c.1).bind λb=>
    if b then(az Γ elt (ae++own) c.2).map λv=>(some v.1,v.2)else some (none,c.2)) items H=some q->Q (acc++q.1) q.2->oY X d aa ai ae tp n ifs elt' Q items acc H
 |[],H,q,acc,h,hQ=>by obtain rfl:=aK h;show Q acc H;exact(pN acc)▸hQ
 |x::r,H,q,acc,h,hQ=>by
  refine bG h λp hp h=>?_;refine gY h λq2 hq2 er=>?_;clear h;subst er;refine bG hp λown ho hp=>?_;refine i_ hp λc hH L8 hp=>?_;refine bG hp λb hb hp=>?_;obtain rfl:=mL hb;have hlen:(ae++own).length=ai.length:=by exact rR gF<|rR (kt hn ho)<|rR hl rfl
  refine aA own ho ((km hc hk hN hlen m2 L8).mono λb' h' z=>?_);refine U1 z λaL aM=>?_;clear L8 hb z;subst aL;subst aM;refine⟨λe=>?_,λe=>?_⟩
  ·rw[bw e]at hp;refine gY hp λv hv er=>?_;clear h hp;clear hp;subst er;refine(he aa ai (ae++own) elt' h' v hk hN hlen m1 hv).pin<|Dy he hc hn hk hN hl m1 m2 hq2 ?_
   simpa using hQ
  ·rw[bO<|by refine rR e ?_;decide]at hp;have hp:=aK hp;clear h;subst hp;exact Dy he hc hn hk hN hl m1 m2 hq2<|by simpa using hQ
theorem Dz{scope:Scope}{C:Addr}{cl:List<|PySem.Str×Addr}(hk:aa.scope.kind=.function):(compEnvC scope cl C aa).scope.names=yw aa.scope.names scope.names:=by show(scope.names.map _)=(scope.names.map _);refine m9 λy U=>?_;obtain⟨n,k⟩:=y;show(if(k==NameKind.free&&aa.scope.kind==.function&&aa.kindOf n==some .cell)=true then _ else _)=(if(k==NameKind.free&&aa.scope.names.lookup n==some NameKind.cell)=true then _ else _);refine rR hk ?_;show(if(k==NameKind.free&&true&&aa.kindOf n==some .cell)=true then _ else _)=_;rw[Bool.and_true];rfl
theorem kz{scope:Scope}(h:Dd aa.scope.names scope=true):oZ scope aa:=by
 unfold Dd at h;rw[cy,cy]at h;refine U1 h λaP h3=>?_;revert aP;refine V1 λh1 h2=>?_;rw[gj]at h2;refine⟨cG h1,λy hy=>?_,λy hy e=>?_,λy hy e=>?_,cG h3⟩
 ·have:=h2 y hy;simp only[Bool.and_eq_true,decide_eq_true_iff]at this;exact this.1.1
 ·have:=h2 y hy;simp only[Bool.and_eq_true,Bool.or_eq_true,decide_eq_true_iff]at this;exact this.1.2.resolve_left λq=>q e
 ·have:=h2 y hy;simp only[Bool.and_eq_true,Bool.or_eq_true,decide_eq_true_iff]at this;exact this.2.resolve_left λq=>q e
theorem kS{scope:Scope}{cl:List<|PySem.Str×Addr}{C:Addr}(x:String)(h:(compEnvC scope cl C aa).kindOf (Sx x)=some .local\/(false=true/\(compEnvC scope cl C aa).kindOf (Sx x)=some .cell)):kN (compEnvC scope cl C aa) (λb=>b=C) x:=by
 rcases h with h|⟨h,_⟩
 ·exact⟨λb hb=>.inl hb,λU=>rfl,λe=>by rw[h]at e;cases e⟩
 ·exact nB h
theorem L_(Gd:eA X){elt:CE}{tp:Bool}{tn:aY}{k:IK}{bZ cond:List CE}(he:bJ X d Γ elt)(hi:∀c∈bZ,bJ X d Γ c)(hc:∀c∈cond,gA X d Γ c){elt' target iter:Expr}{ifs:bL}{ia:Int}{scope:Scope}{pos:Pos}{r:PV×ak}
  (hk:aa.scope.kind=.function)(hN:d8 ai)(hl:ae.length=ai.length)(hm:mE (.D elt tp tn k bZ cond) aa.scope.names ai (.ListComp elt' [⟨target,iter,ifs,ia⟩] scope pos)=true)(hr:az Γ (.D elt tp tn k bZ cond) ae H=some r):
  ia=0/\oZ scope aa/\(tp=false->tn.length=1)/\d8 (fQ scope ai++tn.map some)/\(∀x,foldedSetIterable iter aa x=pure x)/\
  (∀(cl:List<|PySem.Str×Addr) C,mG (λb=>b=C) (fQ scope ai++tn.map some) (compEnvC scope cl C aa) tp (List.range' ae.length tn.length) target)/\
  ∀{Q:au->ak->Prop},(∀l,r.1=.l l->Q l r.2)->jY X d aa ai ae target iter H (λitems H'=>∀(cl:List<|PySem.Str×Addr) C,oY X d (compEnvC scope cl C aa) (fQ scope ai++tn.map some) ae tp tn.length ifs elt' Q items [] H'):=by
 refine U1 (band hm) λhm m7=>?_;refine U1 (band hm) λhm m6=>?_;refine U1 (band hm) λhm m5=>?_;refine U1 (band hm) λhm m4=>?_;refine U1 (band hm) λhm m3=>?_;refine U1 (band hm) λhm m2=>?_;refine U1 (band hm) λm0 m1=>?_;have m0:=cG m0;have K:=kz m1;have hn:tp=false->tn.length=1:=λe=>by clear hr m5 m4;subst e;exact cG m2
 have sH:=kf m3;have ht:∀(cl:List<|PySem.Str×Addr) C,mG (λb=>b=C) (fQ scope ai++tn.map some) (compEnvC scope cl C aa) tp (List.range' ae.length tn.length) target:=λcl C=>by rw[<-hl,<-Dz (cl:=cl) (C:=C) hk]at m4;exact L5 (λx hx=>kS x hx) m4
 have ms:C_ iter=true:=(band m5).1;refine⟨m0,K,hn,sH,L4 ms aa,ht,λ{Q} hQ=>?_⟩;refine bG hr λq hq hr=>?_;refine bG hr λitems hit hr=>?_;refine gY hr λq2 hq2 er=>?_;clear hr;clear hr;subst er;refine L7 Gd hi hk hN hl (λe=>?_) m5 hq hit λcl C=>?_
 ·have:=ht [] 0;rw[e]at this;cases this with
  |tup h=>exact I3 _ _ _ rfl
 ·refine Dy he hc hn K.kind sH ?_ ?_ ?_ hq2<|hQ _ rfl
  ·(refine rR gF ?_;rewrite[bI]);unfold fQ;(rewrite[bI];exact rR hl rfl)
  ·refine rR (Dz hk) ?_;exact m6
  ·refine rR (Dz hk) ?_;exact m7
theorem k4(Gd:eA X){elt:CE}{tp:Bool}{tn:aY}{k:IK}{bZ cond:List CE}(he:bJ X d Γ elt)(hi:∀c∈bZ,bJ X d Γ c)(hc:∀c∈cond,gA X d Γ c):bJ X d Γ (.D elt tp tn k bZ cond):=λaa ai ae e H r hk hN hl hm hr=>by have hm':=hm;revert hm;refine JE e hm' λelt' g scope pos hm'=>?_;refine iz g hm' λg U hm=>?_;obtain⟨target,iter,ifs,ia⟩:=g;refine U6 (L_ Gd he hi hc hk hN hl hm hr) λaN K hn sH hs ht hA=>?_;clear hm;subst aN;exact ZD K hl hn rfl sH hs ht (hA λl e=>⟨e.symm,rfl⟩)
end
end
section
section
variable {X:Cx}{d:Nat}{Γ:b7}
noncomputable def Ma:CE->Nat
 |.c _=>19
 |.v _=>23
 |.g ..=>23
 |.t _=>25
 |.l _=>24
 |.e _=>24
 |.b ..=>2
 |.n _=>3
 |.o _=>3
 |.m ..=>15
 |.p ..=>15
 |.a ..=>0
 |.i ..=>5
 |.d ..=>21
 |.s ..=>21
 |.r _=>21
 |.f ..=>20
 |.z _=>2
 |.A=>6
 |.B=>6
 |.C ..=>6
 |.D ..=>8
 |.h ..=>16
 |.j ..=>16
 |.k ..=>16
 |.q ..=>16
 |.x ..=>16
 |.u _=>16
 |.w ..=>16
 |.y ..=>16
theorem Mb{c:CE}{sc:Sn}{ai:b5}{e:Expr}(h:mE c sc ai e=true):e.ctorIdx=Ma c:=by
 induction c using CE.casesOn<;>first|exact X5 h|exact XU h|exact XW h|exact X0 h|exact X9 h|exact X_ h|exact X7 h|exact Yc h|exact Yb h|exact XT h|exact XX h|exact X8 h|exact XY h|exact XZ h
noncomputable def Mc(k:Nat):Bool:=!(k.beq 0||k.beq 3||k.beq 5||k.beq 15)
theorem k5{e:Expr}{aa:Env}(h:Mc e.ctorIdx=true):PySem.isTrue e aa (eval e aa)=(do let v<-eval e aa;standAt e.pos;holding [v] (truthy v)):=by
 induction e using Expr.casesOn<;>first|rfl|exact nB h
theorem li{e:Expr}(h:(e.ctorIdx.beq 8||e.ctorIdx.beq 9||e.ctorIdx.beq 10)=false):r8 e=true:=by
 induction e using Expr.casesOn<;>first|rfl|exact tB h
theorem fR{c:CE}(h:bJ X d Γ c)(hp:Mc (Ma c)=true):bJ X d Γ c/\gA X d Γ c:=
 ⟨h,λaa ai ae e H b h' hk hN hl hm hr=>Js (k5<|by refine rR (Mb hm) ?_;exact hp)<|(h aa ai ae e H (.b b,h') hk hN hl hm hr).pin<|cM b rfl rfl rfl⟩
theorem lm{a:CE}(h:bJ X d Γ<|.n a):bJ X d Γ (.n a)/\gA X d Γ (.n a):=
 ⟨h,λaa ai ae e H b h' hk hN hl hm hr=>Js (by
  refine uI e hm λo x p hm=>?_;obtain rfl:=cG (band hm).1
  rfl)<|(h aa ai ae e H (.b b,h') hk hN hl hm hr).pin<|cM b rfl rfl rfl⟩
mutual
theorem good(Gd:eA X)(hΓ:g9 X d Γ):∀(c:CE),bJ X d Γ c/\gA X d Γ c
 |.c p=>fR bi rfl
 |.v i=>fR bm rfl
 |.g x p=>fR (bp Gd) rfl
 |.t es=>fR (bt λc hc=>(jG Gd hΓ es c hc).1) rfl
 |.l es=>fR (bv λc hc=>(jG Gd hΓ es c hc).1) rfl
 |.e es=>fR (ca λc hc=>(jG Gd hΓ es c hc).1) rfl
 |.b op a b=>fR (cb (good Gd hΓ a).1 (good Gd hΓ b).1) rfl
 |.n a=>lm<|ce (good Gd hΓ a).1
 |.o a=>⟨ci (good Gd hΓ a).1,cp (good Gd hΓ a).2⟩
 |.m op a b=>⟨cq (good Gd hΓ a).1 (good Gd hΓ b).1,ct (good Gd hΓ a).1 (good Gd hΓ b).1⟩
 |.p o1 o2 a b c=>⟨cv (good Gd hΓ a).1 (good Gd hΓ b).1 (good Gd hΓ c).1,cw (good Gd hΓ a).1 (good Gd hΓ b).1 (good Gd hΓ c).1⟩
 |.a cA es=>⟨g_bool λc hc=>(jG Gd hΓ es c hc).1,gt_bool λc hc=>(jG Gd hΓ es c hc).2⟩
 |.i t a b=>⟨cx (good Gd hΓ t).2 (good Gd hΓ a).1 (good Gd hΓ b).1,da (good Gd hΓ t).2 (good Gd hΓ a).2 (good Gd hΓ b).2⟩
 |.d a i=>fR (de (good Gd hΓ a).1 (good Gd hΓ i).1) rfl
 |.s a lo hi=>fR (dk (good Gd hΓ a).1 (good Gd hΓ lo).1 (good Gd hΓ hi).1) rfl
 |.r a=>fR (dq (good Gd hΓ a).1) rfl
 |.f a x=>fR (ds Gd (good Gd hΓ a).1) rfl
 |.h f es=>fR (du Gd hΓ λc hc=>(jG Gd hΓ es c hc).1) rfl
 |.j o m es=>fR (dx Gd hΓ (good Gd hΓ o).1 λc hc=>(jG Gd hΓ es c hc).1) rfl
 |.k b es=>fR (dL Gd λc hc=>(jG Gd hΓ es c hc).1) rfl
 |.q a b=>fR (dT (good Gd hΓ a).1 (good Gd hΓ b).1) rfl
 |.x a b=>fR (d0 (good Gd hΓ a).1 (good Gd hΓ b).1) rfl
 |.u a=>fR (d6 (good Gd hΓ a).1) rfl
 |.w a b=>fR (eh (good Gd hΓ a).1 (good Gd hΓ b).1) rfl
 |.y a b c=>fR (ei (good Gd hΓ a).1 (good Gd hΓ b).1 (good Gd hΓ c).1) rfl
 |.z n=>fR (eD (good Gd hΓ n).1) rfl
 |.A=>fR (eP Gd) rfl
 |.B=>fR (eQ Gd) rfl
 |.C ks ps=>fR (fe Gd) rfl
 |.D elt tp tn k bZ cond=>fR (k4 Gd (good Gd hΓ elt).1 (λc hc=>(jG Gd hΓ bZ c hc).1) λc hc=>(jG Gd hΓ cond c hc).2) rfl
theorem jG(Gd:eA X)(hΓ:g9 X d Γ):∀(es:List CE),∀c∈es,bJ X d Γ c/\gA X d Γ c
 |[],c,h=>nomatch h
 |e::es,c,h=>by
  rcases eO.mp h with q|h
  ·refine rR q ?_;exact good Gd hΓ e
  ·exact jG Gd hΓ es c h
end
abbrev lG(r:dW×bF×ak):SP:=λaf cZ h=>af=r.1/\cZ=r.2.1/\h=r.2.2
def lH(X:Cx)(d:Nat)(Γ:b7)(c:CS):Prop:=∀(aa:Env)(ai:b5)(ae:bF)(st:Stmt)(H:ak)(r:dW×bF×ak),
 aa.scope.kind=.function->d8 ai->ae.length=ai.length->mS c aa.scope.names ai st=true->iy Γ c ae H=some r->gq X d aa ai ae st H (lG r)/\r.2.1.length=ae.length
def nO(X:Cx)(d:Nat)(Γ:b7)(c:List CS):Prop:=∀(aa:Env)(ai:b5)(ae:bF)(ss:List Stmt)(H:ak)(r:dW×bF×ak),
 aa.scope.kind=.function->d8 ai->ae.length=ai.length->jf c aa.scope.names ai ss=true->aF Γ c ae H=some r->iQ X d aa ai ae ss H (lG r)/\r.2.1.length=ae.length
section
variable {aa:Env}{ai:b5}{ae:bF}{H:ak}
theorem gq.pin{st:Stmt}{r:dW×bF×ak}{Q:SP}(h:gq X d aa ai ae st H<|lG r)(q:Q r.1 r.2.1 r.2.2):gq X d aa ai ae st H Q:=
 λA cf s E a b c e=>bz (h A cf s E a b c e) (λU U y=>y.mono λU U U z=>by(refine U2 z λaQ aR aT=>?_;subst aQ;clear z;subst aR;subst aT);exact q) λU U y=>y
theorem iQ.pin{st:List Stmt}{r:dW×bF×ak}{Q:SP}(h:iQ X d aa ai ae st H<|lG r)(q:Q r.1 r.2.1 r.2.2):iQ X d aa ai ae st H Q:=
 λA cf s E a b c e=>bz (h A cf s E a b c e) (λU U y=>y.mono λU U U z=>by(refine U2 z λaL aM aP=>?_;subst aL;clear z;subst aM;subst aP);exact q) λU U y=>y
theorem Me:∀(is:aG)(vs:au)(ae:bF),(bx is vs ae).length=ae.length
 |[],vs,ae=>by induction vs using b9<;>rfl
 |i::is,[],ae=>rfl
 |i::is,v::vs,ae=>by simp only[bx];(rewrite[Me];exact rR i5 rfl)
theorem Mf{tp:Bool}{tgt:aG}{x:PV}{ae cZ:bF}(h:iw tp tgt x ae=some cZ):cZ.length=ae.length:=by
 induction tp using cP with
 |false=>
  refine yC h λi U h=>?_;obtain rfl:=aK h;exact i5
 |true=>
  refine xw h λl U h=>?_;refine qa h λU e=>?_;clear h;clear h;obtain rfl:=aK e;exact Me _ _ _
theorem ln{elt target iter:Expr}{ifs:bL}{ia:Int}{scope:Scope}{pos:Pos}{y:PySem.Str}{py:Pos}{l:Nat}(hk:aa.scope.kind=.function):
  ∃b,swapsWith (.ListComp elt [⟨target,iter,ifs,ia⟩] scope pos) (some<|.Name y py) l aa=pure b:=⟨_,rfl⟩
theorem lp{e:CE}{sc:Sn}{ai:b5}{v:Expr}(hm:mE e sc ai v=true)(hc:r8 v=false):e.ctorIdx=(CE.D e false [] .v [] []).ctorIdx:=by
 induction e using CE.casesOn<;>first
  |rfl
  |(rw[li<|by rw[Mb hm];rfl]at hc;nomatch hc)
theorem lr(Gd:eA X)(hΓ:g9 X d Γ){i:Nat}{elt:CE}{tp:Bool}{tn:aY}{k:IK}{bZ cond:List CE}{v:Expr}{x:String}{py spos:Pos}{q:PV×ak}(hk:aa.scope.kind=.function)(hN:d8 ai)(hl:ae.length=ai.length)
  (hx:ai[i]?=some (some x))(hkx:aa.kindOf (Sx x)=some .local\/aa.kindOf (Sx x)=some .cell)(m3:mE (.D elt tp tn k bZ cond) aa.scope.names ai v=true)(hq:az Γ (.D elt tp tn k bZ cond) ae H=some q):
  gq X d aa ai ae (.Assign [.Name (Sx x) py] v spos) H (lG (.n,ae.set i<|some q.1,q.2)):=by
 have DA:=m3;revert m3;refine JE v DA λelt' g scope cpos DA=>?_;refine iz g DA λg U m3=>?_;obtain⟨target,iter,ifs,ia⟩:=g;refine X1 (ln (elt:=elt') (target:=target) (iter:=iter) (ifs:=ifs) (ia:=ia) (scope:=scope) (pos:=cpos) (y:=Sx x) (py:=py) (l:=spos.line) hk) λb hb=>?_
 induction b using cP with
 |false=>exact JN hN hx hkx hb<|((good Gd hΓ _).1 aa ai ae _ H q hk hN hl m3 hq).pin ⟨rfl,rfl,rfl⟩
 |true=>
  refine U6 (L_ Gd (good Gd hΓ elt).1 (λc hc=>(jG Gd hΓ bZ c hc).1) (λc hc=>(jG Gd hΓ cond c hc).2) hk hN hl m3 hq) λaN K hn sH hs ht hA=>?_;clear m3;subst aN;obtain⟨l,e1⟩:∃l,q.1=.l l:=bG hq λq1 hq1 hq=>bG hq λitems hit hq=>omap hq λq2 hq2=>⟨_,rfl⟩
  exact ZE K hl hn rfl sH hs hN hx hkx hb ht (hA (Q:=λacc c8=>lG (.n,ae.set i<|some q.1,q.2) .n (ae.set i<|some<|.l acc) c8) λl e=>by refine rR e ?_;exact⟨rfl,rfl,rfl⟩)
theorem ls(Gd:eA X)(hΓ:g9 X d Γ){i:Nat}{e:CE}:lH X d Γ (.a i e):=λaa ai ae st H r hk hN hl hm hr=>by
 refine xX st hm λt v spos hm=>?_;refine iz t hm λt hm=>?_;refine qg t hm λy py hm=>?_;refine U1 (band hm) λhm m3=>?_;refine U1 (band hm) λm1 m2=>?_;refine c_ (yy m1) λx hx aQ U=>?_;clear hm m1;clear hm;subst aQ;have hkx:=(Dv m2).imp id (·.2);refine omap hr λq hq=>?_;refine⟨?_,by exact rR i5 rfl⟩;cases hc:r8 v with
 |true=>exact JN hN hx hkx (JR hc _ _)<|((good Gd hΓ e).1 aa ai ae v H q hk hN hl m3 hq).pin ⟨rfl,rfl,rfl⟩
 |false=>exact CE.D.elim (motive_1:=λe=>mE e aa.scope.names ai v=true->az Γ e ae H=some q->gq X d aa ai ae (.Assign [.Name (Sx x) py] v spos) H (lG (.n,ae.set i<|some q.1,q.2))) e (lp m3 hc) (λU U U U U U m3 hq=>lr Gd hΓ hk hN hl hx hkx m3 hq) m3 hq
end
end
end
section
theorem lw{G:Addr->Prop}{aa:Env}{ai:b5}{line:Nat}{elts:bL}{is:aG}{xs:aY}(ht:jW G ai aa elts is xs)
  (f:Expr->Option PySem.Str)(hf:∀id pos,f (.Name id pos)=if(aa.kindOf id==some NameKind.local&&pos.line==line)=true then some id else none):(elts.filterMap f).length=elts.length->elts.filterMap f=xs.map Sx:=by
 induction ht with
 |nil=>exactλU=>rfl
 |@cons x p i es is ys h1 h2 h3 r ih=>
  intro hl;have hle:=List.length_filterMap_le f es;rw[lg]at hl⊢;rw[hf]at hl⊢;by_cases hq:(aa.kindOf (Sx x)==some NameKind.local&&p.line==line)=true
  ·rw[bw hq]at hl⊢;exact rR (ih<|ng hl) rfl
  ·rw[bO hq]at hl;simp only[List.length_cons]at hl;omega
set_option tactic.hygienic true in
theorem lx{G:Addr->Prop}{aa:Env}{ai:b5}{elts:bL}{is:aG}{xs:aY}{k:Nat}{p:Pos}{v:Expr}(ht:jW G ai aa elts is xs)(h:Df v=true):
  swappedStores [.Tuple elts k p] v aa=pure none\/swappedStores [.Tuple elts k p] v aa=pure (some<|xs.map Sx):=by
 induction v using Expr.casesOn with
 |Tuple vs k2 p2=>
  unfold Df at h;rw[k9]at h;unfold swappedStores;dsimp only;split
  ·exact .inl rfl
  ·split
   ·exact .inl rfl
   ·split
    ·exact .inl rfl
    ·rename_i hl;split
     ·exact .inl rfl
     ·refine rR (bO<|by rw[h];decide) ?_;refine .inr ?_;have hl2:_:=hl;rw[Bool.not_eq_true,Bool.or_eq_false_iff]at hl2;refine congrArg (λz=>pure<|some z)<|lw (line:=(Option.map (λx=>x.pos.line) elts.head?).getD 0) ht _ (λid pos=>rfl) ?_
      have:=hl2.1;simpa using this
 |_=>exact .inl rfl
section
variable {X:Cx}{d:Nat}{Γ:b7}{aa:Env}{ai:b5}{ae:bF}{H:ak}
theorem Mg(x:String)(h:aa.kindOf (Sx x)=some .local\/(true=true/\aa.kindOf (Sx x)=some .cell)):kN aa (cN aa) x:=kN.all aa x
theorem lL{is:aG}{x:PV}{ae cZ:bF}(h:iw true is x ae=some cZ):∃l,x=.t l/\is.length=l.length/\cZ=bx is l ae:=by exact xw h λl el h=>qa h λhl e=>cM l el hl<|(aK e).symm
theorem ma(Gd:eA X)(hΓ:g9 X d Γ){is:aG}{e:CE}:lH X d Γ (.s is e):=λaa ai ae st H r hk hN hl hm hr=>by refine xX st hm λt v p hm=>?_;refine iz t hm λt hm=>?_;refine Cm t hm λl k p2 hm=>?_;simp only[Bool.and_eq_true,decide_eq_true_iff]at hm;refine U1 hm λaR m4=>?_;revert aR;refine V1 λaT m3=>?_;revert aT;refine V1 λm1 m2=>?_;refine aC (Dw (G:=cN aa) (λx hx=>Mg x hx) m1) λxs ht U=>?_;refine bG hr λq hq hr=>?_;refine omap hr λcZ hs=>?_;refine⟨YZ hN ht m2 (lx ht m3)<|((good Gd hΓ e).1 aa ai ae _ H q hk hN hl m4 hq).pin ?_,Mf hs⟩;refine c_ (lL hs) λl e1 e2 aL=>?_;clear hs;subst aL;exact wF l e1 e2 rfl rfl rfl
theorem md(Gd:eA X)(hΓ:g9 X d Γ){o e:CE}{f:String}:lH X d Γ (.e o f e):=λaa ai ae st H r hk hN hl hm hr=>by
 refine xX st hm λt w p hm=>?_;refine iz t hm λt hm=>?_;refine Cj t hm λv y p2 hm=>?_;simp only[Bool.and_eq_true,beq_iff_eq]at hm;refine U1 hm λaM m2=>?_;revert aM;refine V1 λaP m1=>?_;clear hm;subst aP;refine bG hr λx hx hr=>?_;refine bG hr λy hy hr=>?_;refine omap hr λh' hh=>?_;refine⟨YW Gd.T (Cy (by rfl) _)<|((good Gd hΓ e).1 aa ai ae _ H x hk hN hl m2 hx).pin<|((good Gd hΓ o).1 aa ai ae _ x.2 y hk hN hl m1 hy).pin ?_,rfl⟩;refine Hj hh λn hn hh=>?_;refine bG hh λo ho hh=>?_;refine bG hh λao ha hh=>?_;subst ha
 induction ao using AO.casesOn with
 |n c ns l=>
  refine qa hh λhz e=>?_;clear hh;clear hh;obtain rfl:=aK e;rw[cy,ff]at hz;exact wH n c ns l hn ho ((Gd.fld _ _ hz.2).2) hz.1 rfl rfl rfl
 |_=>exact nN hh
theorem me(Gd:eA X)(hΓ:g9 X d Γ){o i e:CE}:lH X d Γ (.t o i e):=λaa ai ae st H r hk hN hl hm hr=>by refine xX st hm λt w p hm=>?_;refine iz t hm λt hm=>?_;refine xV t hm λv s p2 hm=>?_;simp only[Bool.and_eq_true]at hm;refine U1 hm λaN m3=>?_;revert aN;refine V1 λm1 m2=>?_;refine bG hr λx hx hr=>?_;refine bG hr λy hy hr=>?_;refine bG hr λz hz hr=>?_;refine omap hr λh' hh=>?_;exact⟨YV (Cy (by rfl) _)<|((good Gd hΓ e).1 aa ai ae _ H x hk hN hl m3 hx).pin<|((good Gd hΓ o).1 aa ai ae _ x.2 y hk hN hl m1 hy).pin<|((good Gd hΓ i).1 aa ai ae _ y.2 z hk hN hl m2 hz).pin<|iq h' hh rfl rfl rfl,rfl⟩
set_option tactic.hygienic true in
theorem DB{tp:Bool}{tgt:aG}{body:List CS}(hb:nO X d Γ body)(hk:aa.scope.kind=.function)(hN:d8 ai){body':List Stmt}(hm:jf body aa.scope.names ai body'=true){Q:SP}:∀{items:au}{ae:bF}{H:ak}{r:dW×bF×ak},
  ae.length=ai.length->oH (λx cT h=>(iw tp tgt x cT).bind λjU=>aF Γ body jU h) items ae H=some r->Q r.1 r.2.1 r.2.2->r_ X d aa ai tp tgt body' Q items ae H/\r.2.1.length=ae.length
 |[],ae,H,r,hl,h,q=>by obtain rfl:=aK h;exact⟨q,rfl⟩
 |x::t,ae,H,r,hl,h,q=>by
  refine bG h λr1 ez h=>?_;refine bG ez λjU hs ez=>?_;have l2:=Mf hs;refine U1 (hb aa ai jU body' H r1 hk hN (by exact rR l2<|rR hl rfl) hm ez) λg1 g2=>?_;have l3:r1.2.1.length=ai.length:=by exact rR g2<|rR l2<|rR hl rfl
  split at h
  ·rename_i e1;refine U1 (DB hb hk hN hm l3 h q) λk1 k2=>?_;exact⟨(aA jU hs<|g1.pin<|by refine rR e1 ?_;exact k1),by exact rR k2<|rR l3<|rR hl rfl⟩
  ·rename_i e1;refine U1 (DB hb hk hN hm l3 h q) λk1 k2=>?_;exact⟨(aA jU hs<|g1.pin<|by refine rR e1 ?_;exact k1),by exact rR k2<|rR l3<|rR hl rfl⟩
  ·rename_i e1;have h:=aK h;subst h;exact⟨(aA jU hs<|g1.pin<|by refine rR e1 ?_;exact q),by dsimp only;exact rR l3<|rR hl rfl⟩
  ·rename_i v e1;have h:=aK h;subst h;exact⟨(aA jU hs<|g1.pin<|by refine rR e1 ?_;exact q),by dsimp only;exact rR l3<|rR hl rfl⟩
theorem mf(Gd:eA X)(hΓ:g9 X d Γ){tp:Bool}{tgt:aG}{k:IK}{bZ:List CE}{body:List CS}(hb:nO X d Γ body):lH X d Γ (.f tp tgt k bZ body):=λaa ai ae st H r hk hN hl hm hr=>by
 refine Ye st hm λtarget iter mi els p hm=>?_;refine U1 (band hm) λhm m3=>?_;refine U1 (band hm) λhm m2=>?_;refine U1 (band hm) λm0 m1=>?_;refine jF els m0 ?_;have ht:=L5 (G:=cN aa) (λx hx=>Mg x hx) m1;have ms:=band m2;refine bG hr λq hq hr=>?_;refine bG hr λitems hit hr=>?_;refine U1 (DB (Q:=lG r) hb hk hN m3 hl hr ⟨rfl,rfl,rfl⟩) λk1 k2=>?_
 exact⟨Y7 hN ht (L4 ms.1 aa) (L7 Gd (λc hc=>(jG Gd hΓ bZ c hc).1) hk hN hl (λe=>by
  clear m2 ms hr k1;clear hr;subst e;cases ht with
  |tup h=>exact I3 _ _ _ rfl) m2 hq hit k1),k2⟩
set_option tactic.hygienic true in
theorem DC{t:CE}{body:List CS}(ht:gA X d Γ t)(hb:nO X d Γ body)(hk:aa.scope.kind=.function)(hN:d8 ai){test:Expr}{body':List Stmt}(m1:mE t aa.scope.names ai test=true)(hm:jf body aa.scope.names ai body'=true){Q:SP}:∀{n:Nat}{ae:bF}{H:ak}{r:dW×bF×ak},
  ae.length=ai.length->oJ (λcT h=>(az Γ t cT h).bind λx=>(truth x.1).map λb=>(b,x.2)) (λcT h=>aF Γ body cT h) n ae H=some r->Q r.1 r.2.1 r.2.2->uR X d aa ai test body' Q n ae H/\r.2.1.length=ae.length
 |0,ae,H,r,hl,h,q=>nN h
 |n+1,ae,H,r,hl,h,q=>by
  refine i_ h λb h1 hc h=>?_;refine i_ hc λp h2 hx hc=>?_;refine gY hc λb' hb' hc=>?_;obtain rfl:=mL hb';simp only[Prod.mk.injEq]at hc;refine U1 hc λaQ aR=>?_;subst aQ;subst aR;have g0:=ht aa ai ae test H b' h2 hk hN hl m1 hx
  induction b' using cP with
  |true=>
   simp only[if_true]at h;refine bG h λr1 ez h=>?_;refine U1 (hb aa ai ae body' h2 r1 hk hN hl hm ez) λg1 g2=>?_;have l3:r1.2.1.length=ai.length:=by exact rR g2<|rR hl rfl
   split at h
   ·rename_i e1;refine U1 (DC ht hb hk hN m1 hm l3 h q) λk1 k2=>?_;exact⟨g0.pin ⟨λU=>g1.pin<|by refine rR e1 ?_;exact k1,tB⟩,by exact rR k2<|rR l3<|rR hl rfl⟩
   ·rename_i e1;refine U1 (DC ht hb hk hN m1 hm l3 h q) λk1 k2=>?_;exact⟨g0.pin ⟨λU=>g1.pin<|by refine rR e1 ?_;exact k1,tB⟩,by exact rR k2<|rR l3<|rR hl rfl⟩
   ·rename_i e1;have h:=aK h;subst h;exact⟨g0.pin ⟨λU=>g1.pin<|by refine rR e1 ?_;exact q,tB⟩,by dsimp only;exact rR l3<|rR hl rfl⟩
   ·rename_i v e1;have h:=aK h;subst h;exact⟨g0.pin ⟨λU=>g1.pin<|by refine rR e1 ?_;exact q,tB⟩,by dsimp only;exact rR l3<|rR hl rfl⟩
  |false=>
   simp only[Bool.false_eq_true,if_false,Option.some.injEq]at h;subst h;exact⟨g0.pin ⟨nB,λU=>q⟩,rfl⟩
theorem ml(Gd:eA X)(hΓ:g9 X d Γ){t:CE}{body:List CS}(hb:nO X d Γ body):lH X d Γ (.w t body):=λaa ai ae st H r hk hN hl hm hr=>by refine Yg st hm λtest mi els p hm=>?_;refine U1 (band hm) λhm m3=>?_;refine U1 (band hm) λm0 m1=>?_;refine jF els m0 ?_;refine U1 (DC (Q:=lG r) (good Gd hΓ t).2 hb hk hN m1 m3 hl hr ⟨rfl,rfl,rfl⟩) λk1 k2=>?_;exact⟨Y8 k1,k2⟩
theorem mm(Gd:eA X)(hΓ:g9 X d Γ){t:CE}{a b:List CS}(ha:nO X d Γ a)(hb:nO X d Γ b):lH X d Γ (.i t a b):=λaa ai ae st H r hk hN hl hm hr=>by
 refine Yh st hm λtest a' b' p hm=>?_;simp only[Bool.and_eq_true]at hm;refine U1 hm λaT m3=>?_;revert aT;refine V1 λm1 m2=>?_;refine i_ hr λp h1 hx hr=>?_;refine bG hr λc hc hr=>?_;obtain rfl:=mL hc;have g0:=(good Gd hΓ t).2 aa ai ae _ H c h1 hk hN hl m1 hx
 induction c using cP with
 |true=>
  refine U1 (ha aa ai ae _ h1 r hk hN hl m2 hr) λg1 g2=>?_;exact⟨JO<|g0.pin ⟨λU=>g1,tB⟩,g2⟩
 |false=>
  refine U1 (hb aa ai ae _ h1 r hk hN hl m3 hr) λg1 g2=>?_;exact⟨JO<|g0.pin ⟨nB,λU=>g1⟩,g2⟩
theorem mr(Gd:eA X)(hΓ:g9 X d Γ){e:CE}:lH X d Γ (.r e):=λaa ai ae st H r hk hN hl hm hr=>by
 refine omap hr λq hq=>?_;refine Yd st hm λv p hm=>?_
 induction v using e9 with
 |some v=>exact⟨YB<|((good Gd hΓ e).1 aa ai ae _ H q hk hN hl hm hq).pin ⟨rfl,rfl,rfl⟩,rfl⟩
 |none=>
  clear hr;obtain rfl:=LA hm;obtain rfl:=aK hq;exact⟨YC ⟨rfl,rfl,rfl⟩,rfl⟩
theorem mv(Gd:eA X)(hΓ:g9 X d Γ){e:CE}:lH X d Γ (.x e):=λaa ai ae st H r hk hN hl hm hr=>by refine omap hr λq hq=>?_;refine Yi st hm λv p hm=>?_;exact⟨YX (band hm).1<|((good Gd hΓ e).1 aa ai ae _ H q hk hN hl (band hm).2 hq).pin ⟨rfl,rfl,rfl⟩,rfl⟩
noncomputable def DE:CS->Option Nat
 |.z i=>some i
 |_=>none
theorem mx{c:CS}{t:List CS}{sc:Sn}{ai:b5}{l:List Stmt}:jf (c::t) sc ai l=(match DE c with
  |some i=>(match ai[i]? with
   |some (some _)=>jf t sc ai l
   |_=>false)
  |none=>(match l with
   |[]=>false
   |x::u=>mS c sc ai x&&jf t sc ai u)):=by
 induction c using CS.casesOn<;>first|(induction l using b9<;>rfl)|rfl
theorem mA{c:CS}{i:Nat}(h:DE c=some i):c=.z i:=by
 induction c using CS.casesOn<;>simp[DE]at h
 exact rR h rfl
set_option tactic.hygienic true in
theorem mB{c:CS}{t:List CS}(hc:lH X d Γ c)(ht:nO X d Γ t):nO X d Γ (c::t):=λaa ai ae ss H r hk hN hl hm hr=>by
 refine bG hr λr1 ez hr=>?_;rw[mx]at hm;split at hm
 ·rename_i i uM;clear hc;obtain rfl:=mA uM;split at hm
  ·rename_i x hx;refine bG ez λo ho ez=>?_;refine bG ez λv hv ez=>?_;refine gY ez λr2 iS er=>?_;clear ez;clear ez;subst er;refine U1 (ht aa ai (ae.set i<|some r2.1) ss r2.2 r hk hN (by refine rR i5 ?_;exact hl) hm hr) λk1 k2=>?_;exact⟨ZJ hN hx<|fg v r2 (hv▸ho) iS k1,by exact rR k2<|rR i5 rfl⟩
  ·exact nB hm
 ·split at hm
  ·exact nB hm
  ·rename_i x u;rw[cy]at hm;refine U1 (hc aa ai ae x H r1 hk hN hl hm.1 ez) λg1 g2=>?_;split at hr
   ·rename_i e1;refine U1 (ht aa ai r1.2.1 u r1.2.2 r hk hN (by exact rR g2<|rR hl rfl) hm.2 hr) λk1 k2=>?_;exact⟨JK<|g1.pin<|by refine rR e1 ?_;exact k1,by exact rR k2<|rR g2 rfl⟩
   ·rename_i f hne;have hr:=aK hr;subst hr;refine⟨JK<|g1.pin ?_,g2⟩;generalize hf:r1.1=f at hne
    induction f using dW.casesOn with
    |n=>exact absurd rfl hne
    |b=>exact⟨rfl,rfl,rfl⟩
    |c=>exact⟨rfl,rfl,rfl⟩
    |r v=>exact⟨rfl,rfl,rfl⟩
mutual
theorem mI(Gd:eA X)(hΓ:g9 X d Γ):∀(c:CS),lH X d Γ c
 |.a i e=>ls Gd hΓ
 |.s is e=>ma Gd hΓ
 |.e o f e=>md Gd hΓ
 |.t o i e=>me Gd hΓ
 |.f tp tgt k bZ body=>mf Gd hΓ<|sI Gd hΓ body
 |.w t body=>ml Gd hΓ<|sI Gd hΓ body
 |.i t a b=>mm Gd hΓ (sI Gd hΓ a)<|sI Gd hΓ b
 |.r e=>mr Gd hΓ
 |.x e=>mv Gd hΓ
 |.b=>λaa ai ae st H r hk hN hl hm hr=>by obtain rfl:=aK hr;exact⟨Stmt.Break.elim (motive_2:=λst=>gq X d aa ai ae st H<|lG (.b,ae,H)) st (b_ hm) λp=>YD ⟨rfl,rfl,rfl⟩,rfl⟩
 |.c=>λaa ai ae st H r hk hN hl hm hr=>by obtain rfl:=aK hr;exact⟨Stmt.Continue.elim (motive_2:=λst=>gq X d aa ai ae st H<|lG (.c,ae,H)) st (b_ hm) λp=>YE ⟨rfl,rfl,rfl⟩,rfl⟩
 |.z i=>λaa ai ae st H r hk hN hl hm hr=>nomatch (hm:false=true)
theorem sI(Gd:eA X)(hΓ:g9 X d Γ):∀(c:List CS),nO X d Γ c
 |[]=>λaa ai ae ss H r hk hN hl hm hr=>by have:ss=[]:=lh.mp hm;clear hm;subst this;obtain rfl:=aK hr;exact⟨Yz ⟨rfl,rfl,rfl⟩,rfl⟩
 |c::t=>mB (mI Gd hΓ c)<|sI Gd hΓ t
end
end
end
section
theorem nG.up{X:Cx}{d:Nat}{fv:Value}{args:au}{H:ak}{Q:eF}(h:nG X d fv args H Q){d':Nat}(hd:d<=d'):nG X d' fv args H Q:=
 λA cf s E vs hA hH S r=>h A cf s E vs (hA.mono hd) hH S r
theorem g_{a b:Bool}{G:Prop}(h:(a&&b)=true)(K:a=true->b=true->G):G:=K (band h).1 (band h).2
theorem mM{K:Frag}{v:Value}{dv:au}(h:LC K v dv=true):(v=.none/\dv=[])\/∃T o items n,v=.ref T/\K.lookup T=some o/\o.data=.seq items n/\all2 (qx K 3) items.toList dv=true:=by
 rcases qX.mp h with h|h
 ·exact .inl ⟨cG (band h).1,lh.mp (band h).2⟩
 ·refine JI v h λt h=>?_;cases ho:K.lookup t with
  |none=>rw[ho]at h;nomatch h
  |some o=>
   rw[ho]at h;obtain⟨i,n,e,h⟩:∃i n,o.data=.seq i n/\all2 (qx K 3) i.toList dv=true:=JJ o.data h λi n h=>gR i n rfl h;exact .inr<|pY t o i n rfl ho e h
theorem kinds_of{l:List<|PySem.Str×NameKind}{x:PySem.Str}(h:kindB l true x=true):l.lookup x=some .local\/l.lookup x=some .cell:=by
 rcases qX.mp h with q|q
 ·exact .inl<|cG q
 ·exact .inr<|cG (band q).2
theorem DF{X:Cx}{f:Addr}{ir:bl}{np:Nat}(h:uX X.K f ir np=true):∃fd body,FnAt X f fd body ir.names np ir.defaults/\jf ir.body fd.scope.names (ir.names.map some) body=true:=by
 unfold uX at h;cases ho:X.K.lookup f with
 |none=>rw[ho]at h;nomatch h
 |some o=>
  rw[ho]at h;obtain⟨oc,od,dt,osl⟩:=o;refine Yl (M:=λdt=>X.K.lookup f=some ⟨oc,od,dt,osl⟩->_) dt h (λfd h ho=>?_) ho;refine an h λbody hb h=>?_;refine g_ h λh1 h=>g_ h λh2 h=>g_ h λh3 h=>g_ h λh4 h=>g_ h λh5 h=>g_ h λh6 h=>g_ h λh7 h=>g_ h λh8 h=>g_ h λh9 h=>g_ h λmN h=>g_ h λh11 h=>g_ h λh12 h=>g_ h λnl h=>g_ h λnn h=>g_ h λCu h=>g_ h λno h=>g_ h λnr h=>g_ h λnz n3=>?_;exact gR fd body ⟨I3 oc od osl ho,hb,cG h1,cG h2,lh.mp h3,(k9 _).mp h4,(k9 _).mp h5,cG h6,h7,lh.mp h8,lh.mp h9,tY.mp mN,tY.mp h11,cG h12,cG nl,cG nn,cG Cu,λx hx=>kinds_of<|gj.mp no x hx,mM nr,cG nz⟩ n3
theorem n4{ns:aY}(h:ns.Nodup):d8 (ns.map some):=by refine L6 ?_;refine rR List.filterMap_map ?_;simpa using h
theorem DG{X:Cx}{d:Nat}{Γ:b7}(Gd:eA X)(hΓ:g9 X d Γ){f:Addr}{fd:FuncData}{body:List Stmt}{ir:bl}{np:Nat}(F:FnAt X f fd body ir.names np ir.defaults)(hm:jf ir.body fd.scope.names (ir.names.map some) body=true):BodyOk X d Γ ir fd body:=
 λaa ae H r h1 h2 h3 h4=>by have:=(sI Gd hΓ ir.body aa (ir.names.map some) ae body H r h2 (n4 F.nodup) (by(refine rR h3 ?_;rw[bI])) (by refine rR h1 ?_;exact hm) h4).1;exactλA cf s E a b c e=>bz (this A cf s E a b c e) (λU U y=>y.mono λU U U z=>⟨z.1,z.2.2⟩) λU U y=>y
noncomputable def Mh:Bool:=iN.all λr=>r.2.name==r.1.2&&(r.2.kind==.f||r.1.1=="")
set_option tactic.hygienic true in
theorem n'{α:Type}{l:List<|(String×String)×α}{k:String×String}{v:α}(h:l.lookup k=some v):(k,v)∈l:=by
 induction l with
 |nil=>simp at h
 |cons p l ih=>
  rw[m8]at h;split at h
  ·rename_i e;have e:=gQ.mp e;have h:=aK h;clear ih;subst h;refine rR e ?_;exact cR
  ·exact dh _ (ih h)
set_option tactic.hygienic true in
theorem Mi{X:Cx}(Gd:eA X)(hB:Mh=true)(hT:iN.all (λr=>sE X.K r.1.1 r.2)=true):∀n,g9 X (2*n)<|gam n
 |0=>⟨λf args H r h=>by simp[gam]at h,λc m args H r U h=>by simp[gam]at h⟩
 |n+1=>by
  have ih:=Mi Gd hB hT n;have row:∀c f ir,iN.lookup (c,f)=some ir->ir.name=f/\(ir.kind=.f\/c="")/\sE X.K c ir=true:=λc f ir h=>by have hm:=n' h;have b1:=gj.mp hB _ hm;have b2:=gj.mp hT _ hm;simp only[Bool.and_eq_true,Bool.or_eq_true,beq_iff_eq]at b1;exact⟨b1.1,b1.2,b2⟩
  refine⟨λf args H r h=>?_,λc m args H r hc h=>?_⟩
  ·refine bG h λir hl j5=>?_;refine U2 (row _ _ _ hl) λhn U hb=>?_;clear h hl;subst hn;unfold sE at hb;split at hb
   ·rename_i hk;rw[cy]at hb;revert hb;refine V1 λU hb=>?_;split at hb
    ·rename_i C hC;simp only[Bool.and_eq_true]at hb;revert hb;refine V1 λaL hb=>?_;revert aL;refine V1 λm1 m2=>?_;split at hb
     ·rename_i fa uM;rw[cy,ff]at hb;refine gG (DF hb.2) λfd body F hm=>?_;refine cM (.ref C) hC m2 ?_;have:=al (d:=2*n) Gd.T F hk (by unfold jQ;exact rR hC rfl) ⟨m1,uM,hb.1⟩ (DG Gd ih F hm) (show jA (gam n) ir args H=some (r.1,r.2)from j5);exact this.up QC
     ·exact nB hb
    ·exact nB hb
   ·rename_i hk;rw[bw<|by rfl]at hb;split at hb
    ·rename_i fa DH;rw[cy]at hb;refine gG (DF hb.2) λfd body F hm=>?_;refine cM (.ref fa) DH hb.1 ?_;have:=Lu (d:=2*n) Gd.T F hk (DG Gd ih F hm) (show jA (gam n) ir args H=some (r.1,r.2)from j5);exact this.up F1
    ·exact nB hb
  ·refine bG h λir hl j5=>?_;refine U2 (row _ _ _ hl) λhn hkc hb=>?_;clear h hl;subst hn;have hk:=hkc.resolve_right hc;unfold sE at hb;rw[hk]at hb;dsimp only at hb;rw[bO<|by simpa using hc]at hb;split at hb
   ·rename_i C hC;rw[cy]at hb;revert hb;refine V1 λm1 hb=>?_;split at hb
    ·rename_i fa DH;simp only[Bool.and_eq_true]at hb;refine gG (DF hb.2) λfd body F hm=>?_;refine Ft C fa (by unfold jQ;exact rR hC rfl) m1 DH hb.1.1 hb.1.2 ?_;have:=Lu (d:=2*n) Gd.T F hk (DG Gd ih F hm) (show jA (gam n) ir args H=some (r.1,r.2)from j5);exact this.up F1
    ·exact nB hb
   ·exact nB hb
def yH(K:Frag):Bool:=xy.all λr=>match nsIn K mainGlobals (Sx r.1)with
 |some (some v)=>qx K 3 v r.2
 |_=>false
noncomputable def Mj(K:Frag)(c x:String):Bool:=match nsIn K mainGlobals (Sx c)with
 |some (some<|.ref C)=>plainGet K C (Sx x)&&hasDictIn K C&&(match findIn K (.ref C) (Sx x)with
   |some attr=>noGet K attr
   |none=>false)&&decide (findIn K (.ref C) "__setattr__"=some (some<|.builtin "object.__setattr__"))&&plainOver K C&&decide (takerIn K C (Sx x)=some none)
 |_=>false
def yI(K:Frag):Bool:=Ao.all λr=>Mj K r.1 r.2
noncomputable def DI(K:Frag):Bool:=["len","list","sorted","min","max","isinstance","bool","range","enumerate","zip"].all λx=>decide<|nsIn K mainGlobals (Sx x)=some none
set_option tactic.hygienic true in
theorem ob{X:Cx}(T:eK X)(h:yH X.K=true):∀x p,yu x p=true->Cc X x p:=λx p hg=>by
 unfold yu at hg;split at hg
 ·rename_i q hq;obtain rfl:=sA _ _ hg;have hm:(x,p)∈xy:=by
   revert hq;generalize xy=l;intro hq
   induction l with
   |nil=>simp at hq
   |cons a l ih=>
    rw[m8]at hq;split at hq
    ·rename_i e;have e:=gQ.mp e;have hq:=aK hq;clear hg ih;subst hq;refine rR e ?_;exact cR
    ·exact dh _ (ih hq)
  have:=gj.mp h _ hm;dsimp only at this;split at this
  ·rename_i v hv;exact aA v hv λcf h S=>Ld T S 3 v p this
  ·exact nB this
 ·exact nB hg
set_option tactic.hygienic true in
theorem og{X:Cx}(h:yI X.K=true):∀c x,qc c x=true->xe X c x/\storeOk X c x:=λc x hf=>by
 have hm:(c,x)∈Ao:=by unfold qc at hf;simpa using hf
 have:=gj.mp h _ hm;unfold Mj at this;dsimp only at this;split at this
 ·rename_i C hC;simp only[Bool.and_eq_true,decide_eq_true_iff]at this;refine U1 this λaM h6=>?_;revert aM;refine V1 λaP h5=>?_;revert aP;refine V1 λaN h4=>?_;revert aN;refine V1 λaQ h3=>?_;revert aQ;refine V1 λh1 h2=>?_;split at h3
  ·rename_i attr ha;have hc:jQ X.K c=some C:=by unfold jQ;exact rR hC rfl
   exact⟨uc C attr hc h1 h2 ha h3,wF C hc h4 h5 h6 h2⟩
  ·exact nB h3
 ·exact nB this
theorem oo{X:Cx}(T:eK X)(h1:yH X.K=true)(h2:yI X.K=true)(h3:DI X.K=true):eA X:=by
 have b:∀x,x∈["len","list","sorted","min","max","isinstance","bool","range","enumerate","zip"]->nsIn X.K mainGlobals (Sx x)=some none:=λx hx=>cG<|gj.mp h3 x hx
 exact⟨T,ob T h1,og h2,
  ⟨b _ (by simp),by kernel_rfl,by decide⟩,⟨b _ (by simp),by kernel_rfl,by decide⟩,⟨b _ (by simp),by kernel_rfl,by decide⟩,⟨b _ (by simp),by kernel_rfl,by decide⟩,⟨b _ (by simp),by kernel_rfl,by decide⟩,
  ⟨b _ (by simp),by kernel_rfl,by decide⟩,⟨b _ (by simp),by kernel_rfl,by decide⟩,⟨b _ (by simp),by kernel_rfl,by decide⟩,⟨b _ (by simp),by kernel_rfl,by decide⟩,⟨b _ (by simp),by kernel_rfl,by decide⟩⟩
end
noncomputable def pn(t:SharedT):Frag:=(List.range t.n).filterMap λa=>((t.tree.get a).bind alive).map λo=>(a,o)
noncomputable def qz(a b:Nat)(K:Frag):Bool:=((iN.drop a).take b).all λr=>sE K r.1.1 r.2
noncomputable def DJ(K:Frag):Bool:=yH K&&yI K&&DI K
noncomputable def allB(K:Frag):Bool:=qz 0 30 K&&(qz 30 30 K&&(qz 60 30 K&&DJ K))
theorem ot{l:List<|Addr×Obj}{a:Addr}{o:Obj}(h:l.lookup a=some o):(a,o)∈l:=by
 induction l with
 |nil=>simp at h
 |cons p l ih=>
  rw[List.lookup_cons]at h;split at h
  ·rename_i e;have e:=beq_iff_eq.mp e;have h:=Option.some.inj h;subst h;rw[e];exact List.mem_cons_self
  ·exact List.mem_cons_of_mem _ (ih h)
theorem ox(t:SharedT):(pn t).In t.abs.heap:=λa o e=>by have:=ot e;unfold pn at this;obtain⟨b,hb,h2⟩:=List.mem_filterMap.mp this;obtain⟨o',h3,h4⟩:=Option.map_eq_some_iff.mp h2;cases h4;obtain⟨o1,h5,h6⟩:=Option.bind_eq_some_iff.mp h3;exact(abs_get (List.mem_range.mp hb) h5).trans h6
theorem oy{α:Type}{l:List α}{i:Nat}{x:α}(h:l[i]?=some x):i<l.length:=by
 rcases Nat.lt_or_ge i l.length with h'|h'
 ·exact h'
 ·rw[List.getElem?_eq_none h']at h;cases h
theorem oC:iN.length<=88:=by decide
theorem oD{K:Frag}(h:allB K=true):iN.all (λr=>sE K r.1.1 r.2)=true/\yH K=true/\yI K=true/\DI K=true:=by
 unfold allB DJ qz at h;simp only[Bool.and_eq_true,List.all_eq_true]at h;obtain⟨h1,h2,h3,⟨h5,h6⟩,h7⟩:=h;refine⟨?_,h5,h6,h7⟩;rw[List.all_eq_true];intro x hx;obtain⟨i,hi⟩:=List.getElem?_of_mem hx;have hl:=oy hi;have hb:=oC
 have key:∀a,a<=i->i<a+30->x∈(iN.drop a).take 30:=λa g1 g2=>List.mem_of_getElem? (i:=i-a) (by
  rw[List.getElem?_take_of_lt<|by omega,List.getElem?_drop,show a+(i-a)=i by omega,hi])
 rcases Nat.lt_or_ge i 30 with g|g
 ·exact h1 x<|key 0 (by omega)<|by omega
 ·rcases Nat.lt_or_ge i 60 with g'|g'
  ·exact h2 x<|key 30 (by omega)<|by omega
  ·exact h3 x<|key 60 (by omega)<|by omega
noncomputable def Mk(h:Heap):Bool:=(Classical.propDecidable (∃K,Frag.In K h/\allB K=true)).decide
noncomputable def HK:Hook where
 α:=Bool
 obs:=λs=>Mk s.heap
 val:=λ_=>true
 says:=λ_ h=>∃K,Frag.In K h/\allB K=true
 of:=λ_ s e=>@of_decide_eq_true _ (Classical.propDecidable _) e
 keeps:=λ_ h h' ⟨K,k1,k2⟩ hk=>⟨K,λa o e=>hk a o<|k1 a o e,k2⟩
theorem Ml(w:World):(ends w).map (λr=>wd pp r.1.heap r.2.abs&&qz 0 30 (pn r.2))=some true:=by unfold ends;rw[we];kernel_rfl
theorem oP(w:World):(ends w).map (λr=>qz 30 30<|pn r.2)=some true:=by unfold ends;rw[we];kernel_rfl
theorem o0(w:World):(ends w).map (λr=>qz 60 30 (pn r.2)&&DJ (pn r.2))=some true:=by unfold ends;rw[we];kernel_rfl
theorem Mm{α:Type}{o:Option α}{f g:α->Bool}(h:o.map (λx=>f x&&g x)=some true):o.map f=some true/\o.map g=some true:=by
 cases o with
 |none=>cases h
 |some x=>exact⟨congrArg some (Bool.and_eq_true_iff.mp<|Option.some.inj h).1,congrArg some (Bool.and_eq_true_iff.mp<|Option.some.inj h).2⟩
theorem Mn{α:Type}{o:Option α}{f g:α->Bool}(h1:o.map f=some true)(h2:o.map g=some true):o.map (λx=>f x&&g x)=some true:=by
 cases o with
 |none=>cases h1
 |some x=>
  have h1:f x=true:=Option.some.inj h1;have h2:g x=true:=Option.some.inj h2;show some (f x&&g x)=_;rw[h1,h2];rfl
theorem pd{α β γ:Type}{o:Option α}{f:α->β}{g:α->γ}{b:β}{c:γ}(h1:o.map f=some b)(h2:o.map g=some c):o.map (λx=>(f x,g x))=some (b,c):=by
 cases o with
 |none=>cases h1
 |some x=>
  have h1:f x=b:=Option.some.inj h1;have h2:g x=c:=Option.some.inj h2;show some (f x,g x)=_;rw[h1,h2]
theorem ph{o:Option<|Shared×SharedT}(h:o.map (λr=>allB<|pn r.2)=some true):o.map (λr=>Mk r.2.abs.heap)=some true:=by
 cases o with
 |none=>cases h
 |some r=>exact congrArg some<|@decide_eq_true _ (Classical.propDecidable _) ⟨pn r.2,ox r.2,Option.some.inj h⟩
theorem pj:LeftO pp q0 tG wg HK.obs HK.val 5000:=λw=>
 Pg (F:=λs=>(openSeen q0 tG (importedModules pp.main.body) wg true s,HK.obs s)) (Mm<|Ml w).1 (pd (Pj w)<|ph<|Mn (Mm<|Ml w).2<|Mn (oP w)<|o0 w)
noncomputable def Ok{α:Type}(o:Option α)(Q:α->Prop):Prop:=∃r,o=some r/\Q r
abbrev bf:=bF
abbrev Res:=dW×bf×ak
section
variable {α β:Type}{Q:α->Prop}
theorem Ok.mk{o:Option α}{r:α}(h:o=some r)(q:Q r):Ok o Q:=aA r h q
theorem Ok.mono{o:Option α}{Q':α->Prop}(h:Ok o Q)(m:∀r,Q r->Q' r):Ok o Q':=let ⟨r,e,q⟩:=h;(aA r e<|m r q)
theorem Ok.bind{o:Option β}{f:β->Option α}(h:Ok o λx=>Ok (f x) Q):Ok (o.bind f) Q:=by refine ni h λx e r e2 q=>?_;exact aA r (by refine rR e ?_;exact e2) q
end
section
variable {Γ:b7}{ae cZ:bf}{H H':ak}{Q:Res->Prop}{s:CS}{t a b:List CS}
theorem cu(q:Q (.n,ae,H)):Ok (aF Γ [] ae H) Q:=aA _ rfl q
theorem nP(h:iy Γ s ae H=some (.n,cZ,H'))(k:Ok (aF Γ t cZ H') Q):Ok (aF Γ (s::t) ae H) Q:=by refine aC k λr e q=>?_;exact aA r (by show(iy Γ s ae H).bind _=_;refine rR h ?_;exact e) q
theorem bX{e:CE}{v:PV}(h:az Γ e ae H=some (v,H'))(q:Q (.r v,ae,H')):Ok (aF Γ (.r e::t) ae H) Q:=
 (aA (.r v,ae,H') (by show((az Γ e ae H).map _).bind _=_;refine rR h ?_;rfl) q)
theorem pk(q:Q (.c,ae,H)):Ok (aF Γ (.c::t) ae H) Q:=aA _ rfl q
def Mp(Γ:b7)(t:List CS)(r:Res):Rs:=match r.1 with
 |.n=>aF Γ t r.2.1 r.2.2
 |.b=>some (.b,r.2.1,r.2.2)
 |.c=>some (.c,r.2.1,r.2.2)
 |.r v=>some (.r v,r.2.1,r.2.2)
theorem yJ:aF Γ (s::t) ae H=(iy Γ s ae H).bind (Mp Γ t):=by
 show(iy Γ s ae H).bind _=_;cases iy Γ s ae H with
 |none=>rfl
 |some r=>obtain⟨f,ae,H⟩:=r;induction f using dW.casesOn<;>rfl
theorem DK:∀(a t:List CS)(ae:bf)(H:ak),aF Γ (a++t) ae H=(aF Γ a ae H).bind (Mp Γ t)
 |[],t,ae,H=>rfl
 |s::a,t,ae,H=>by
  refine rR List.cons_append<|rR yJ<|rR yJ ?_
  cases iy Γ s ae H with
  |none=>rfl
  |some r=>
   obtain⟨f,cT,H1⟩:=r
   induction f using dW.casesOn with
   |n=>exact DK a t cT H1
   |_=>rfl
theorem bU{e:CE}{c:Bool}(h:az Γ e ae H=some (.b c,H'))(h1:c=true->Ok (aF Γ (a++t) ae H') Q)(h2:c=false->Ok (aF Γ (b++t) ae H') Q):Ok (aF Γ (.i e a b::t) ae H) Q:=by
 unfold Ok;refine rR yJ ?_;show Ok (((az Γ e ae H).bind _).bind _) Q;refine rR h ?_
 induction c using cP with
 |true=>have:=h1 rfl;rw[DK]at this;exact this
 |false=>have:=h2 rfl;rw[DK]at this;exact this
def After(Γ:b7)(t:List CS)(Q:Res->Prop)(r:Res):Prop:=match r.1 with
 |.n=>Ok (aF Γ t r.2.1 r.2.2) Q
 |f=>Q (f,r.2.1,r.2.2)
theorem Mq(h:Ok (iy Γ s ae H)<|After Γ t Q):Ok (aF Γ (s::t) ae H) Q:=by
 refine aC h λr e q=>?_;unfold Ok;refine rR yJ<|rR e ?_
 obtain⟨f,cT,H1⟩:=r
 induction f using dW.casesOn with
 |n=>exact q
 |_=>exact aA _ rfl q
noncomputable def Turn(I:bf->ak->Prop)(Q:Res->Prop)(r:Res):Prop:=match r.1 with
 |.n=>I r.2.1 r.2.2
 |.c=>I r.2.1 r.2.2
 |.b=>Q (.n,r.2.1,r.2.2)
 |.r v=>Q (.r v,r.2.1,r.2.2)
theorem Mr{step:PV->bf->ak->Rs}(I:Nat->bf->ak->Prop):∀{items:au}{k:Nat}{ae:bf}{H:ak},I k ae H->
  (∀i x ae H,items[i]?=some x->I (k+i) ae H->Ok (step x ae H) (Turn (I<|k+i+1) Q))->(∀ae H,I (k+items.length) ae H->Q (.n,ae,H))->Ok (oH step items ae H) Q
 |[],k,ae,H,h0,_,he=>aA _ rfl (he ae H h0)
 |x::r,k,ae,H,h0,hs,he=>by
  refine aC (hs 0 x ae H rfl h0) λaR e q=>?_;obtain⟨f,cT,H1⟩:=aR
  have ih:∀ae H,I (k+1) ae H->Ok (oH step r ae H) Q:=λae H h=>Mr I (k:=k+1) h (λi y ae H hi hI=>by
   have:=hs (i+1) y ae H (by simpa using hi)<|by refine rR (show k+(i+1)=k+1+i from Aa) ?_;exact hI
   rw[show k+(i+1)+1=k+1+i+1 from QD]at this
   exact this) λae H h=>he ae H<|by refine rR i4<|rR (show k+(r.length+1)=k+1+r.length from Aa) ?_;exact h
  show Ok ((step x ae H).bind _) Q;refine rR e ?_
  induction f using dW.casesOn with
  |n=>exact ih cT H1 q
  |c=>exact ih cT H1 q
  |_=>exact aA _ rfl q
theorem gr{tp:Bool}{tgt:aG}{k:IK}{bZ:List CE}{body:List CS}{vs items:au}(I:Nat->bf->ak->Prop)(h:cX Γ bZ ae H=some (vs,H'))(hi:fb k vs=some items)(h0:I 0 ae H')
  (hs:∀i x ae H,items[i]?=some x->I i ae H->∃cT,iw tp tgt x ae=some cT/\Ok (aF Γ body cT H) (Turn (I<|i+1)<|After Γ t Q))(he:∀ae H,I items.length ae H->Ok (aF Γ t ae H) Q):
  Ok (aF Γ (.f tp tgt k bZ body::t) ae H) Q:=by
 refine Mq ?_
 have:=Mr (Q:=After Γ t Q) (step:=λx cT h=>(iw tp tgt x cT).bind λjU=>aF Γ body jU h) I h0 (λi x ae H hx hI=>by
  rw[Nat.zero_add]at hI⊢;refine aC (hs i x ae H hx hI) λcT e1 hb=>?_
  refine rR e1 ?_;exact hb) λae H hI=>by rw[Nat.zero_add]at hI;exact he ae H hI
 refine aC this λr e q=>?_;exact aA r (by show(cX Γ bZ ae H).bind _=_;refine rR h ?_;show(fb k vs).bind _=_;refine rR hi ?_;exact e) q
theorem Ms{test:bf->ak->Option (Bool×ak)}{body:bf->ak->Rs}(I:Nat->bf->ak->Prop)
  (hs:∀m ae H,I m ae H->∃c H',test ae H=some (c,H')/\(c=true->∃m',m=m'+1/\Ok (body ae H') (Turn (λae H=>∃j,j<=m'/\I j ae H) Q))/\(c=false->Q (.n,ae,H'))):∀{n m:Nat}{ae:bf}{H:ak},I m ae H->m<n->Ok (oJ test body n ae H) Q
 |0,m,ae,H,_,h=>absurd h<|rg m
 |n+1,m,ae,H,h0,hlt=>by
  refine d_ (hs m ae H h0) λc H1 e ht hf=>?_;show Ok ((test ae H).bind _) Q;refine rR e ?_
  induction c using cP with
  |false=>exact aA _ rfl (hf rfl)
  |true=>
   refine ni (ht rfl) λm' aT aL e2 q=>?_;clear h0 ht;subst aT;obtain⟨f,cT,H2⟩:=aL;show Ok ((body ae H1).bind _) Q;refine rR e2 ?_;have go:(∃j,j<=m'/\I j cT H2)->Ok (oJ test body n cT H2) Q:=λ⟨j,hj,hI⟩=>Ms I hs (n:=n) hI<|Nat.lt_of_le_of_lt hj<|Nat.lt_of_succ_lt_succ hlt
   induction f using dW.casesOn with
   |n=>exact go q
   |c=>exact go q
   |_=>exact aA _ rfl q
theorem yK{e:CE}{body:List CS}{m:Nat}(I:Nat->bf->ak->Prop)(h0:I m ae H)(hm:m<1000)
  (hs:∀m ae H,I m ae H->∃c H',az Γ e ae H=some (.b c,H')/\(c=true->∃m',m=m'+1/\Ok (aF Γ body ae H') (Turn (λae H=>∃j,j<=m'/\I j ae H)<|After Γ t Q))/\(c=false->Ok (aF Γ t ae H') Q)):
  Ok (aF Γ (.w e body::t) ae H) Q:=by
 refine Mq ?_
 have:=Ms (Q:=After Γ t Q) (test:=λcT h=>(az Γ e cT h).bind λx=>(truth x.1).map λb=>(b,x.2)) (body:=λcT h=>aF Γ body cT h) I (λm ae H hI=>by
  refine d_ (hs m ae H hI) λc H' e1 h1 h2=>?_
  exact fg c H' (by refine rR e1 ?_;rfl) h1 h2) h0 (show m<fuel from hm)
 refine aC this λr e q=>?_;exact aA r e q
end
theorem vc(n:Nat)(c f:String)(args:au)(H:ak):gam (n+1) c f args H=(iN.lookup (c,f)).bind λir=>jA (gam n) ir args H:=rfl
theorem lJ{n:Nat}{c f:String}{ir:bl}{args vs:au}{H:ak}{Q:PV->Prop}(hl:iN.lookup (c,f)=some ir)(hk:ir.kind=.f)(hp:ir.pure=true)(hf:jb ir args=some vs)(hz:vs.all (fz 8)=true)
  (hr:Ok (aF (gam n) ir.body (g7 ir vs) []) λr=>∃v,b8 6 r.2.2 (fX r.1)=some v/\Q v):∃v,gam (n+1) c f args H=some (v,H)/\Q v:=by
 refine ni hr λr e v hv q=>?_;refine aA v ?_ q;rewrite[vc];refine rR hl ?_;obtain⟨nm,kd,pu,ns,ar,df,bo⟩:=ir;clear hl hr;subst hk;subst hp;show(jb _ args).bind _=_;refine rR hf ?_;show(if vs.all (fz 8)=true then _ else _)=_;refine rR (bw hz) ?_;show(aF _ _ _ _).bind _=_;refine rR e ?_;show(b8 _ _ _).map _=_;refine rR hv ?_;rfl
theorem dX{n:Nat}{c f:String}{ir:bl}{args vs:au}{H:ak}{v:PV}(hl:iN.lookup (c,f)=some ir)(hk:ir.kind=.f)(hp:ir.pure=true)(hf:jb ir args=some vs)(hz:vs.all (fz 8)=true)
  (hr:Ok (aF (gam n) ir.body (g7 ir vs) []) λr=>b8 6 r.2.2 (fX r.1)=some v):gam (n+1) c f args H=some (v,H):=by
 refine aC (lJ (H:=H) (Q:=λx=>x=v) hl hk hp hf hz (hr.mono λr h=>aA v h rfl)) λv' e aM=>?_;clear hr;subst aM;exact e
theorem Mt{n:Nat}{f:String}{ir:bl}{args vs:au}{H:ak}{v:PV}(hl:iN.lookup ("",f)=some ir)(hk:ir.kind=.c)(hp:ir.pure=true)(hf:jb ir args=some vs)(hz:vs.all (fz 8)=true)
  (hr:Ok (aF (gam n) ir.body (g7 ir<|.e 0::vs) [some<|.n ir.name [] []]) λr=>∃h,rF r=some h/\b8 6 h (.e 0)=some v):gam (n+1) "" f args H=some (v,H):=by
 refine ni hr λr e h hn hv=>?_;rewrite[vc];refine rR hl ?_;obtain⟨nm,kd,pu,ns,ar,df,bo⟩:=ir;clear hl hr;subst hk;subst hp;show(jb _ args).bind _=_;refine rR hf ?_;show(if vs.all (fz 8)=true then _ else _)=_;refine rR (bw hz) ?_;show(aF _ _ _ _).bind _=_;refine rR e ?_;show(rF r).bind _=_;refine rR hn ?_;show(b8 _ _ _).map _=_;refine rR hv ?_;rfl
theorem nQ{n:Nat}{c f:String}{ir:bl}{args vs:au}{H:ak}{Q:eF}(hl:iN.lookup (c,f)=some ir)(hk:ir.kind=.f)(hp:ir.pure=false)(hf:jb ir args=some vs)
  (hr:Ok (aF (gam n) ir.body (g7 ir vs) H) λr=>Q (fX r.1) r.2.2):∃v H',gam (n+1) c f args H=some (v,H')/\Q v H':=by
 refine aC hr λr e q=>?_;refine gR _ _ ?_ q;rewrite[vc];refine rR hl ?_;obtain⟨nm,kd,pu,ns,ar,df,bo⟩:=ir;clear hl hr;subst hk;subst hp;show(jb _ args).bind _=_;refine rR hf ?_;show(aF _ _ _ _).map _=_;refine rR e ?_;rfl
theorem DL{step:PV->ak->Option (bR×ak)}{H:ak}{f:PV->bR}{l:au}(h:∀x∈l,step x H=some (f x,H)):jT step l H=some (l.filterMap f,H):=by
 induction l with
 |nil=>rfl
 |cons x r ih=>
  show(step x H).bind _=_;refine rR (h x cR) ?_;show(jT step r H).map _=_;refine rR (ih λy hy=>h y<|dh _ hy)<|rR lg ?_
  cases f x<;>rfl
theorem comp_map{step:PV->ak->Option (bR×ak)}{H:ak}{f:PV->PV}{l:au}(h:∀x∈l,step x H=some (some<|f x,H)):jT step l H=some (l.map f,H):=by exact rR (DL (f:=some∘f) h)<|rR List.filterMap_eq_map rfl
section
variable {Γ:b7}{ae cZ:bf}{H H':ak}{Q:Res->Prop}{s:CS}{t a b:List CS}
@[elab_as_elim] theorem gen{α:Type}{P:α->Prop}(a:α)(h:∀x,P x):P a:=h a
noncomputable def Nx(T:bf->ak->Prop)(r:Res):Prop:=match r.1 with
 |.n=>T r.2.1 r.2.2
 |.c=>T r.2.1 r.2.2
 |_=>False
theorem DM{σ:Type}(E:σ->bf)(G:Nat->σ->ak)(J:Nat->σ->Prop)(s0:σ){tp:Bool}{tgt:aG}{k:IK}{bZ:List CE}{body:List CS}{vs items:au}
  (h:cX Γ bZ ae H=some (vs,G 0 s0))(e0:ae=E s0)(hi:fb k vs=some items)(h0:J 0 s0)
  (hs:∀i x s,items[i]?=some x->J i s->∀T:bf->ak->Prop,(∀s,J (i+1) s->T (E s) (G (i+1) s))->∃cT,iw tp tgt x (E s)=some cT/\Ok (aF Γ body cT<|G i s) (Nx T))
  (he:∀s,J items.length s->Ok (aF Γ t (E s)<|G items.length s) Q):
  Ok (aF Γ (.f tp tgt k bZ body::t) ae H) Q:=by
 refine gr (λi ae H=>∃s,ae=E s/\H=G i s/\J i s) h hi (cM s0 e0 rfl h0) (λi x ae H hx hI=>?_) λae H hI=>?_
 ·(refine c_ hI λs aP aN hj=>?_;clear hI;subst aP;subst aN)
  refine aC (hs i x s hx hj (λae H=>∃s,ae=E s/\H=G (i+1) s/\J (i+1) s) λs h=>cM s rfl rfl h) λa1 e1 o=>?_;refine aA a1 e1 (o.mono λr q=>?_);obtain⟨f,ae,H⟩:=r
  induction f using dW.casesOn with
  |n=>exact q
  |c=>exact q
  |b=>exact q.elim
  |r v=>exact q.elim
 ·(refine c_ hI λs aQ aR hj=>?_;clear hI;subst aQ;subst aR)
  exact he s hj
theorem lK{α β:Type}(E:α->β->bf)(G:Nat->α->β->ak)(J:Nat->α->β->Prop)(a0:α)(b0:β){tp:Bool}{tgt:aG}{k:IK}{bZ:List CE}{body:List CS}{vs items:au}
  (h:cX Γ bZ ae H=some (vs,G 0 a0 b0))(e0:ae=E a0 b0)(hi:fb k vs=some items)(h0:J 0 a0 b0)
  (hs:∀i x a b,items[i]?=some x->J i a b->∀T:bf->ak->Prop,(∀a b,J (i+1) a b->T (E a b) (G (i+1) a b))->∃cT,iw tp tgt x (E a b)=some cT/\Ok (aF Γ body cT<|G i a b) (Nx T))
  (he:∀a b,J items.length a b->Ok (aF Γ t (E a b)<|G items.length a b) Q):
  Ok (aF Γ (.f tp tgt k bZ body::t) ae H) Q:=
 DM (λs=>E s.1 s.2) (λi s=>G i s.1 s.2) (λi s=>J i s.1 s.2) (a0,b0) h e0 hi h0 (λi x s hx hj T K=>hs i x s.1 s.2 hx hj T λa b h=>K (a,b) h) λs h=>he s.1 s.2 h
theorem sJ{α β γ:Type}(E:α->β->γ->bf)(G:Nat->α->β->γ->ak)(J:Nat->α->β->γ->Prop)(a0:α)(b0:β)(c0:γ){tp:Bool}{tgt:aG}{k:IK}{bZ:List CE}{body:List CS}{vs items:au}
  (h:cX Γ bZ ae H=some (vs,G 0 a0 b0 c0))(e0:ae=E a0 b0 c0)(hi:fb k vs=some items)(h0:J 0 a0 b0 c0)
  (hs:∀i x a b c,items[i]?=some x->J i a b c->∀T:bf->ak->Prop,(∀a b c,J (i+1) a b c->T (E a b c) (G (i+1) a b c))->∃cT,iw tp tgt x (E a b c)=some cT/\Ok (aF Γ body cT<|G i a b c) (Nx T))
  (he:∀a b c,J items.length a b c->Ok (aF Γ t (E a b c)<|G items.length a b c) Q):
  Ok (aF Γ (.f tp tgt k bZ body::t) ae H) Q:=
 lK (λa (s:β×γ)=>E a s.1 s.2) (λi a s=>G i a s.1 s.2) (λi a s=>J i a s.1 s.2) a0 (b0,c0) h e0 hi h0 (λi x a s hx hj T K=>hs i x a s.1 s.2 hx hj T λa b c h=>K a (b,c) h) λa s h=>he a s.1 s.2 h
noncomputable def DN(T:bf->ak->Prop)(R:Res->Prop)(r:Res):Prop:=match r.1 with
 |.n=>T r.2.1 r.2.2
 |.c=>T r.2.1 r.2.2
 |.b=>False
 |.r v=>R (.r v,r.2.1,r.2.2)
theorem pt{σ:Type}(E:σ->bf)(G:Nat->σ->ak)(J:Nat->σ->Prop)(s0:σ){tp:Bool}{tgt:aG}{k:IK}{bZ:List CE}{body:List CS}{vs items:au}
  (h:cX Γ bZ ae H=some (vs,G 0 s0))(e0:ae=E s0)(hi:fb k vs=some items)(h0:J 0 s0)
  (hs:∀i x s,items[i]?=some x->J i s->∀(T:bf->ak->Prop) (R:Res->Prop),(∀s,J (i+1) s->T (E s) (G (i+1) s))->(∀v ae H,Q (.r v,ae,H)->R (.r v,ae,H))->∃cT,iw tp tgt x (E s)=some cT/\Ok (aF Γ body cT<|G i s) (DN T R))
  (he:∀s,J items.length s->Ok (aF Γ t (E s)<|G items.length s) Q):
  Ok (aF Γ (.f tp tgt k bZ body::t) ae H) Q:=by
 refine gr (λi ae H=>∃s,ae=E s/\H=G i s/\J i s) h hi (cM s0 e0 rfl h0) (λi x ae H hx hI=>?_) λae H hI=>?_
 ·(refine c_ hI λs aT aL hj=>?_;clear hI;subst aT;subst aL)
  refine aC (hs i x s hx hj (λae H=>∃s,ae=E s/\H=G (i+1) s/\J (i+1) s) Q (λs h=>cM s rfl rfl h) λU U U h=>h) λa1 e1 o=>?_;refine aA a1 e1 (o.mono λr q=>?_);obtain⟨f,ae,H⟩:=r
  induction f using dW.casesOn with
  |b=>exact q.elim
  |_=>exact q
 ·(refine c_ hI λs aM aP hj=>?_;clear hI;subst aM;subst aP)
  exact he s hj
theorem Mu{α β:Type}(E:α->β->bf)(G:Nat->α->β->ak)(J:Nat->α->β->Prop)(a0:α)(b0:β){tp:Bool}{tgt:aG}{k:IK}{bZ:List CE}{body:List CS}{vs items:au}
  (h:cX Γ bZ ae H=some (vs,G 0 a0 b0))(e0:ae=E a0 b0)(hi:fb k vs=some items)(h0:J 0 a0 b0)
  (hs:∀i x a b,items[i]?=some x->J i a b->∀(T:bf->ak->Prop) (R:Res->Prop),(∀a b,J (i+1) a b->T (E a b) (G (i+1) a b))->(∀v ae H,Q (.r v,ae,H)->R (.r v,ae,H))->∃cT,iw tp tgt x (E a b)=some cT/\Ok (aF Γ body cT<|G i a b) (DN T R))
  (he:∀a b,J items.length a b->Ok (aF Γ t (E a b)<|G items.length a b) Q):
  Ok (aF Γ (.f tp tgt k bZ body::t) ae H) Q:=
 pt (λs=>E s.1 s.2) (λi s=>G i s.1 s.2) (λi s=>J i s.1 s.2) (a0,b0) h e0 hi h0 (λi x s hx hj T R K=>hs i x s.1 s.2 hx hj T R λa b h=>K (a,b) h) λs h=>he s.1 s.2 h
theorem pE{α β γ:Type}(E:α->β->γ->bf)(G:Nat->α->β->γ->ak)(J:Nat->α->β->γ->Prop)(a0:α)(b0:β)(c0:γ){tp:Bool}{tgt:aG}{k:IK}{bZ:List CE}{body:List CS}{vs items:au}
  (h:cX Γ bZ ae H=some (vs,G 0 a0 b0 c0))(e0:ae=E a0 b0 c0)(hi:fb k vs=some items)(h0:J 0 a0 b0 c0)
  (hs:∀i x a b c,items[i]?=some x->J i a b c->∀(T:bf->ak->Prop) (R:Res->Prop),(∀a b c,J (i+1) a b c->T (E a b c) (G (i+1) a b c))->(∀v ae H,Q (.r v,ae,H)->R (.r v,ae,H))->∃cT,iw tp tgt x (E a b c)=some cT/\Ok (aF Γ body cT<|G i a b c) (DN T R))
  (he:∀a b c,J items.length a b c->Ok (aF Γ t (E a b c)<|G items.length a b c) Q):
  Ok (aF Γ (.f tp tgt k bZ body::t) ae H) Q:=
 Mu (λa (s:β×γ)=>E a s.1 s.2) (λi a s=>G i a s.1 s.2) (λi a s=>J i a s.1 s.2) a0 (b0,c0) h e0 hi h0 (λi x a s hx hj T R K=>hs i x a s.1 s.2 hx hj T R λa b c h=>K a (b,c) h) λa s h=>he a s.1 s.2 h
theorem Mv{σ:Type}(E:σ->bf)(G:σ->ak)(J:Nat->σ->Prop)(s0:σ){e:CE}{body:List CS}{m:Nat}(e0:ae=E s0)(g0:H=G s0)(h0:J m s0)(hm:m<1000)
  (hs:∀m s,J m s->∀T:bf->ak->Prop,(∀j s,j<m->J j s->T (E s) (G s))->∃c H',az Γ e (E s) (G s)=some (.b c,H')/\(c=true->0<m/\Ok (aF Γ body (E s) H') (Nx T))/\(c=false->Ok (aF Γ t (E s) H') Q)):
  Ok (aF Γ (.w e body::t) ae H) Q:=by
 subst e0 g0;refine yK (m:=m) (λm ae H=>∃s,ae=E s/\H=G s/\J m s) (cM s0 rfl rfl h0) hm λm ae H hI=>?_;refine c_ hI λs aN aQ hj=>?_;subst aN;clear hI;subst aQ;refine d_ (hs m s hj (λae H=>∃j,j<m/\∃s,ae=E s/\H=G s/\J j s) λj s qr h=>lX j qr s rfl rfl h) λc H' e1 h1 h2=>?_;refine fg c H' e1 (λhc=>?_) h2;refine U1 (h1 hc) λhm o=>?_;refine aA (m-1) (QE hm) (o.mono λr q=>?_);have q2:∀{ae:bf}{H:ak},(∃j,j<m/\∃s,ae=E s/\H=G s/\J j s)->∃j,j<=m-1/\∃s,ae=E s/\H=G s/\J j s:=λq=>by revert q;refine rj λj hj q=>?_;exact aA j (FU hj) q
 obtain⟨f,ae,H⟩:=r
 induction f using dW.casesOn with
 |n=>exact q2 q
 |c=>exact q2 q
 |b=>exact q.elim
 |r v=>exact q.elim
theorem qA{n:Nat}{c f:String}{ir:bl}{args vs:au}{H:ak}{v:PV}(hl:iN.lookup (c,f)=some ir)(hk:ir.kind=.f)(hp:ir.pure=true)(hf:jb ir args=some vs)(hz:vs.all (fz 8)=true)
  (hr:∀T:Res->Prop,(∀u ae H,b8 6 H u=some v->T (.r u,ae,H))->Ok (aF (gam n) ir.body (g7 ir vs) []) T):gam (n+1) c f args H=some (v,H):=
 dX hl hk hp hf hz (hr (λr=>b8 6 r.2.2 (fX r.1)=some v) λu ae H h=>h)
theorem sL{n:Nat}{c f:String}{ir:bl}{args vs:au}{H:ak}{Q:PV->Prop}(hl:iN.lookup (c,f)=some ir)(hk:ir.kind=.f)(hp:ir.pure=true)(hf:jb ir args=some vs)(hz:vs.all (fz 8)=true)
  (hr:∀T:Res->Prop,(∀u v ae H,b8 6 H u=some v->Q v->T (.r u,ae,H))->Ok (aF (gam n) ir.body (g7 ir vs) []) T):∃v,gam (n+1) c f args H=some (v,H)/\Q v:=
 lJ hl hk hp hf hz (hr (λr=>∃v,b8 6 r.2.2 (fX r.1)=some v/\Q v) λu v ae H h q=>aA v h q)
end
section
variable {Γ:b7}{ae r:bf}{H:ak}{o:bR}{v p:PV}{i:Nat}{a b c:CE}{es:List CE}
theorem cL:az Γ (.c p) ae H=some (p,H):=rfl
theorem dP:az Γ (.v 0) (some v::r) H=some (v,H):=rfl
theorem re:az Γ (.v<|i+1) (o::r) H=az Γ (.v i) r H:=rfl
theorem rk{x:String}:az Γ (.g x p) ae H=some (p,H):=rfl
theorem Mw:az Γ (.t es) ae H=(cX Γ es ae H).map λr=>(.t r.1,r.2):=rfl
theorem Mx:az Γ (.l es) ae H=(cX Γ es ae H).map λr=>(.l r.1,r.2):=rfl
theorem yL:az Γ (.e es) ae H=(cX Γ es ae H).map λr=>jR r.2 (.l r.1):=rfl
theorem My{op:lu}:az Γ (.b op a b) ae H=(az Γ a ae H).bind λx=>(az Γ b ae x.2).bind λy=>(kJ y.2 op x.1 y.1).map λv=>(v,y.2):=rfl
theorem yM:az Γ (.o a) ae H=(az Γ a ae H).bind λx=>(truth x.1).map λb=>(.b<|!b,x.2):=rfl
theorem Mz{op:gw}:az Γ (.m op a b) ae H=(az Γ a ae H).bind λx=>(az Γ b ae x.2).bind λy=>(cE y.2 op x.1 y.1).map λv=>(.b v,y.2):=rfl
theorem MA{o1 o2:gw}:az Γ (.p o1 o2 a b c) ae H=(az Γ a ae H).bind λx=>(az Γ b ae x.2).bind λy=>(cE y.2 o1 x.1 y.1).bind λt=>
   if t then(az Γ c ae y.2).bind λz=>(cE z.2 o2 y.1 z.1).map λv=>(.b v,z.2)else some (.b false,y.2):=rfl
theorem pq{cA:Bool}:az Γ (.a cA es) ae H=jz Γ cA es ae H:=rfl
theorem DO:az Γ (.i a b c) ae H=(az Γ a ae H).bind λx=>(truth x.1).bind λd=>if d then az Γ b ae x.2 else az Γ c ae x.2:=rfl
theorem MB:az Γ (.d a b) ae H=(az Γ a ae H).bind λx=>(az Γ b ae x.2).bind λy=>(gH y.2 x.1 y.1).map λv=>(v,y.2):=rfl
theorem MC:az Γ (.s a b c) ae H=(az Γ a ae H).bind λx=>(az Γ b ae x.2).bind λy=>(az Γ c ae y.2).bind λz=>(ja z.2 x.1 y.1 z.1).map λv=>(v,z.2):=rfl
theorem DP:az Γ (.r a) ae H=(az Γ a ae H).bind λx=>(fh x.2 x.1).map λl=>(.l l.reverse,x.2):=rfl
theorem MD{f:String}:az Γ (.f a f) ae H=(az Γ a ae H).bind λx=>(fieldsOf x.2 x.1).bind λo=>if qc o.1 f then(fW f o.2.1 o.2.2).map λv=>(v,x.2)else none:=rfl
theorem ME{f:String}:az Γ (.h f es) ae H=(cX Γ es ae H).bind λr=>Γ "" f r.1 r.2:=rfl
theorem DQ{m:String}:az Γ (.j a m es) ae H=(az Γ a ae H).bind λx=>(fieldsOf x.2 x.1).bind λc=>(if c.2.1.contains m||c.1=="" then none else cX Γ es ae x.2).bind λr=>Γ c.1 m (x.1::r.1) r.2:=rfl
theorem lM{b:oG}:az Γ (.k b es) ae H=(cX Γ es ae H).bind λr=>jS r.2 b r.1:=rfl
theorem MF:az Γ (.q a b) ae H=(az Γ a ae H).bind λx=>(iL x.2 x.1).bind λU=>(az Γ b ae x.2).bind λy=>(iL y.2 x.1).bind λc=>
   if c.2.length<2^20 then some (.n,y.2.set c.1<|some<|.l<|c.2++[y.1])else none:=rfl
theorem MG:az Γ (.x a b) ae H=(az Γ a ae H).bind λx=>(iL x.2 x.1).bind λU=>(az Γ b ae x.2).bind λy=>(iL y.2 x.1).bind λc=>(fh y.2 y.1).bind λr=>
   if c.2.length+r.length<=2^20 then some (.n,y.2.set c.1<|some<|.l<|c.2++r)else none:=rfl
theorem MH:az Γ (.u a) ae H=(az Γ a ae H).bind λx=>(iL x.2 x.1).bind λc=>(c.2.getLast?).map λv=>(v,x.2.set c.1<|some<|.l c.2.dropLast):=rfl
theorem sa:az Γ .A ae H=some (jR H (.i 0 λU=>none)):=rfl
theorem sb:az Γ (.n a) ae H=(az Γ a ae H).bind λx=>gS x.1 λi=>some (.i<|-i,x.2):=rfl
theorem sg{β:Type}{i:Int}{f:Int->Option β}:gS (.i i) f=f i:=rfl
theorem sM{tp:Bool}{tn:aY}{k:IK}{bZ cond:List CE}:az Γ (.D a tp tn k bZ cond) ae H=(cX Γ bZ ae H).bind λr=>(fb k r.1).bind λitems=>
   (jT (λx h=>(iK tp tn.length x).bind λown=>(jz Γ true cond (ae++own) h).bind λc=>(truth c.1).bind λb=>
    if b then(az Γ a (ae++own) c.2).map λv=>(some v.1,v.2)else some (none,c.2)) items r.2).map λq=>(.l q.1,q.2):=rfl
theorem yN:cX Γ [] ae H=some ([],H):=rfl
theorem MI:cX Γ (a::es) ae H=(az Γ a ae H).bind λx=>(cX Γ es ae x.2).map λr=>(x.1::r.1,r.2):=rfl
theorem nR{cA:Bool}:jz Γ cA [] ae H=some (.b cA,H):=rfl
theorem hU{cA:Bool}:jz Γ cA (a::es) ae H=(az Γ a ae H).bind λx=>(truth x.1).bind λb=>if b=cA then jz Γ cA es ae x.2 else some x:=rfl
theorem MJ:iy Γ (.a i a) ae H=(az Γ a ae H).map λx=>(.n,ae.set i<|some x.1,x.2):=rfl
theorem MK{is:aG}:iy Γ (.s is a) ae H=(az Γ a ae H).bind λx=>(iw true is x.1 ae).map λcZ=>(.n,cZ,x.2):=rfl
theorem sk{f:String}:iy Γ (.e a f b) ae H=(az Γ b ae H).bind λx=>(az Γ a ae x.2).bind λy=>(Hp y.2 y.1 f x.1).map λh=>(.n,ae,h):=rfl
theorem ML:iy Γ (.t a b c) ae H=(az Γ c ae H).bind λx=>(az Γ a ae x.2).bind λy=>(az Γ b ae y.2).bind λz=>(rE z.2 y.1 z.1 x.1).map λh=>(.n,ae,h):=rfl
theorem MM:iy Γ (.x a) ae H=(az Γ a ae H).map λx=>(.n,ae,x.2):=rfl
end
theorem fZ(b:Bool):truth (.b b)=some b:=rfl
section
variable {H:ak}{i j:Int}{s t:String}{l m:au}
theorem yO:kJ H .a (.i i) (.i j)=some (.i<|i+j):=rfl
theorem sl:kJ H .s (.i i) (.i j)=some (.i<|i-j):=rfl
theorem sm:kJ H .o (.i i) (.i 2)=some (.i<|i %2):=rfl
theorem yP(h:l.length+m.length<=2^20):kJ H .a (.l l) (.l m)=some (.l<|l++m):=by show(if l.length+m.length<=2^20 then some (PV.l<|l++m)else none)=_;exact rR (bw h) rfl
theorem sn:cE H .e (.i i) (.i j)=some (decide<|i=j):=rfl
theorem MN:cE H .n (.i i) (.i j)=some (!decide (i=j)):=rfl
theorem so:cE H .e (.s s) (.s t)=some (decide<|s=t):=rfl
theorem sp:cE H .n (.s s) (.s t)=some (!decide (s=t)):=rfl
theorem sw:cE H .e .n (.s t)=some false:=rfl
theorem sB:cE H .n (.i i) .n=some true:=rfl
theorem sK:cE H .l (.i i) (.i j)=some (decide<|i<j):=rfl
theorem MO:cE H .a (.i i) (.i j)=some (decide<|i<=j):=rfl
theorem sT:cE H .g (.i i) (.i j)=some (decide<|j<i):=rfl
theorem ta:cE H .b (.i i) (.i j)=some (decide<|j<=i):=rfl
theorem tc:cE H .s (.i i) .n=some false:=rfl
theorem td:cE H .s (.s s) .n=some false:=rfl
theorem te:cE H .s .n .n=some true:=rfl
theorem tf:cE H .s (.t l) .n=some false:=rfl
theorem ti:cE H .s (.l l) .n=some false:=rfl
theorem tj:cE H .t (.i i) .n=some true:=rfl
theorem tm:cE H .t (.s s) .n=some true:=rfl
theorem to:cE H .t .n .n=some false:=rfl
theorem tr:cE H .t (.t l) .n=some true:=rfl
theorem tv:cE H .t (.l l) .n=some true:=rfl
theorem x_len:jS H .l [.l l]=some (.i l.length,H):=rfl
theorem tx:jS H .l [.t l]=some (.i l.length,H):=rfl
theorem ty:jS H .i [.l l]=some (.l l,H):=rfl
theorem tz:jS H .i [.t l]=some (.l l,H):=rfl
theorem tA:jS H .s [.l l]=some (jR H<|.l l):=rfl
theorem t3:jS H .a [.i i,.i j]=some (.i<|max i j,H):=rfl
theorem MP:jS H .n [.i i,.i j]=some (.i<|min i j,H):=rfl
theorem MQ{n k:Nat}(h:k<n):gx (k:Int) n=some k:=by
 unfold gx;refine rR (bw F2)<|rR (bw<|F3 h) ?_
 simp
theorem MR{n:Nat}(h:0<n):gx (-1) n=some (n-1):=by
 unfold gx;refine rR (bO QF)<|rR (bw<|QG h) ?_
 congr 1;exact QH
theorem dB{k:Nat}{v:PV}(h:l[k]?=some v):gH H (.l l) (.i k)=some v:=by
 show(gx (k:Int) l.length).bind (λj=>l[j]?)=_;have hk:k<l.length:=by
  rcases dm k l.length with h'|h'
  ·exact h'
  ·rw[gO h']at h;exact nN h
 refine rR (MQ hk) ?_;exact h
theorem MS{k:Int}{v:PV}(h0:0<=k)(h:l[k.toNat]?=some v):gH H (.l l) (.i k)=some v:=by
 have:=dB (H:=H) h
 rwa[Int.toNat_of_nonneg h0]at this
theorem DR{v:PV}(h:l.getLast?=some v):gH H (.l l) (.i<|-1)=some v:=by
 show(gx (-1) l.length).bind (λj=>l[j]?)=_;have hk:0<l.length:=by
  induction l using b9 with
  |nil=>simp at h
  |cons a t=>simp
 refine rR (MR hk) ?_;rw[List.getLast?_eq_getElem?]at h;exact h
theorem yQ{k m:Nat}{v:PV}(hm:H[m]?=some (some<|.l l))(h:l[k]?=some v):gH H (.e m) (.i k)=some v:=by
 have e:e_ H (.e m)=some l:=by simp only[e_,hm]
 show(match e_ H (.e m)with
  |some l=>(gx (k:Int) l.length).bind λj=>l[j]?
  |none=>_)=_
 refine rR e ?_;exact dB (H:=H) h
theorem ve{m:Nat}{v:PV}(hm:H[m]?=some (some<|.l l))(h:l.getLast?=some v):gH H (.e m) (.i<|-1)=some v:=by
 have e:e_ H (.e m)=some l:=by simp only[e_,hm]
 show(match e_ H (.e m)with
  |some l=>(gx (-1) l.length).bind λj=>l[j]?
  |none=>_)=_
 refine rR e ?_;exact DR (H:=H) h
theorem DS{k:Nat}{v:PV}(h:l[k]?=some v):gH H (.t l) (.i k)=some v:=dB (H:=H) h
theorem sO{v:PV}:gH H (.t<|v::l) (.i 0)=some v:=DS (k:=0) rfl
theorem sP{u v:PV}:gH H (.t<|u::v::l) (.i 1)=some v:=DS (k:=1) rfl
theorem DT{u v w:PV}:gH H (.t<|u::v::w::l) (.i 2)=some w:=DS (k:=2) rfl
theorem vf{v:PV}:gH H (.l<|v::l) (.i 0)=some v:=dB (k:=0) rfl
end
theorem t4{b c:Bool}{H:ak}:(if b=true then some (PV.b c,H)else some (PV.b b,H))=some (PV.b<|b&&c,H):=by induction b using cP<;>rfl
theorem t5{b c:Bool}{H:ak}:(if b=false then some (PV.b c,H)else some (PV.b b,H))=some (PV.b<|b||c,H):=by induction b using cP<;>rfl
noncomputable def isStr(p:PV):Prop:=∃s,p=.s s
def bT(l:au):Prop:=∀x∈l,isStr x
theorem bT.get{l:au}{i:Nat}{x:PV}(h:bT l)(hx:l[i]?=some x):∃s,x=.s s:=h x<|dY hx
theorem bT.app{l:au}(h:bT l)(s:String):bT (l++[.s s]):=λx hx=>by
 rcases dR.mp hx with hx|hx
 ·exact h x hx
 ·refine rR (dO.mp hx) ?_;exact⟨s,rfl⟩
theorem bT.nil:bT []:=λU h=>nomatch h
theorem bT.set{l:au}(h:bT l)(i:Nat)(s:String):bT (l.set i<|.s s):=λx hx=>by
 rcases List.mem_or_eq_of_mem_set hx with hx|rfl
 ·exact h x hx
 ·exact⟨s,rfl⟩
theorem dj{n:Nat}{p:PV}(h:p=.n\/(∃b,p=.b b)\/(∃i,p=.i i)\/∃s,p=.s s):fz n p=true:=by rcases h with rfl|⟨b,rfl⟩|⟨i,rfl⟩|⟨s,rfl⟩<;>induction n using gD<;>rfl
theorem vg{n:Nat}{i:Int}:fz n (.i i)=true:=by induction n using gD<;>rfl
theorem MT{n:Nat}{i:String}:fz n (.s i)=true:=by induction n using gD<;>rfl
theorem nS{n:Nat}{l:au}(h:∀x∈l,fz n x=true):fz (n+1) (.l l)=true:=by exact gj.mpr h
theorem MU{n:Nat}{l:au}(h:∀x∈l,fz n x=true):fz (n+1) (.t l)=true:=by exact gj.mpr h
theorem bT.fz{l:au}(h:bT l)(n:Nat):Mine.fz (n+1) (.l l)=true:=nS λx hx=>by(refine X1 (h x hx) λs aR=>?_;clear hx;subst aR);exact dj<|.inr<|.inr<|.inr ⟨s,rfl⟩
theorem iT{n:Nat}{H:ak}{p:PV}(h:p=.n\/(∃b,p=.b b)\/(∃i,p=.i i)\/∃s,p=.s s):b8 n H p=some p:=by rcases h with rfl|⟨b,rfl⟩|⟨i,rfl⟩|⟨s,rfl⟩<;>induction n using gD<;>rfl
theorem yR{n:Nat}{H:ak}{i:Int}:b8 n H (.i i)=some (.i i):=by induction n using gD<;>rfl
theorem MV{n:Nat}{H:ak}{i:String}:b8 n H (.s i)=some (.s i):=by induction n using gD<;>rfl
theorem qB{n:Nat}{H:ak}{l:au}(h:fz 4 (.l l)=true):b8 n H (.l l)=some (.l l):=by induction n using gD<;>exact bw h
theorem yS{n:Nat}{H:ak}{l:au}(h:∀x∈l,b8 n H x=some x):l.mapM (b8 n H)=some l:=by
 induction l with
 |nil=>rfl
 |cons a t ih=>
  refine rR List.mapM_cons<|rR (h a cR)<|rR (ih λx hx=>h x<|dh _ hx) ?_;rfl
theorem MW{n m:Nat}{H:ak}{l l':au}(hm:H[m]?=some (some<|.l l))(h:l.mapM (b8 n H)=some l'):b8 (n+1) H (.e m)=some (.l l'):=by show(H[m]?).bind _=_;refine rR hm ?_;show Option.map _ (l.mapM _)=_;refine rR h ?_;rfl
theorem gu{n m:Nat}{H:ak}{l:au}(hm:H[m]?=some (some<|.l l))(h:∀x∈l,b8 n H x=some x):b8 (n+1) H (.e m)=some (.l l):=MW hm<|yS h
theorem jg{n:Nat}{H:ak}{l:au}(h:∀x∈l,fz 3 x=true):b8 n H (.l l)=some (.l l):=by
 have e:fz 4 (.l l)=true:=nS h
 induction n using gD<;>exact bw e
theorem yT{n:Nat}{H:ak}{l:au}(h:∀x∈l,b8 n H x=some x):b8 (n+1) H (.t l)=some (.t l):=by show Option.map _ (l.mapM _)=_;refine rR (yS h) ?_;rfl
theorem bT.b8{l:au}(h:bT l){n:Nat}{H:ak}:∀x∈l,Mine.b8 n H x=some x:=λx hx=>by(refine X1 (h x hx) λs aT=>?_;clear hx;subst aT);exact iT<|.inr<|.inr<|.inr ⟨s,rfl⟩
theorem MX{s:String}:∀{l:aY},(l.map PV.s).any (fj<|.s s)=decide (s∈l)
 |[]=>rfl
 |a::t=>by
  refine rR fK<|rR q3<|rR (MX (l:=t)) ?_
  show(decide (s=a)||decide (s∈t))=_;simp
theorem MY:∀{l:aY},(l.map PV.s).all (simple 2)=true
 |[]=>rfl
 |a::t=>by refine rR fK<|rR oj<|rR (MY (l:=t)) ?_;rfl
theorem gT{H:ak}{s:String}{l:aY}:cE H .i (.s s) (.t<|l.map .s)=some (decide<|s∈l):=by show(if simple 2 (.s s)&&(l.map PV.s).all (simple 2)then some ((l.map PV.s).any<|fj<|.s s)else none)=_;refine rR MY<|rR MX ?_;rfl
theorem yU{H:ak}{s:String}{l:aY}:cE H .o (.s s) (.t<|l.map .s)=some (!decide (s∈l)):=by show(cE H .i (.s s)<|.t<|l.map .s).map (!·)=_;refine rR gT ?_;rfl
theorem j6{l:au}{i:Nat}{x:PV}(h:(dU l)[i]?=some x):∃v,l[i]?=some v/\x=.t [.i i,v]:=by
 unfold dU at h;rw[cQ,List.getElem?_zipIdx]at h;cases e:l[i]? with
 |none=>rw[e]at h;simp at h
 |some v=>rw[e]at h;simp at h;exact aA v rfl h.symm
theorem mP{l:au}:(dU l).length=l.length:=by simp[dU]
theorem pA{a b:Int}(h1:-1000<=a)(h2:a<=1000)(h3:-1000<=b)(h4:b<=1000):fb .r [.i a,.i b]=some (fk a b):=by
 have e:(cO a&&cO b&&decide (b-a<=2^20))=true:=by simp only[cO,Bool.and_eq_true,decide_eq_true_eq];exact U5 h1 h2 h3 h4
 show(if(cO a&&cO b&&decide (b-a<=2^20))=true then some (fk a b)else none)=_;exact rR (bw e) rfl
theorem yV{b:Int}(h3:-1000<=b)(h4:b<=1000):fb .r [.i b]=some (fk 0 b):=by
 have e:(cO b&&decide (b<=2^20))=true:=by simp only[cO,Bool.and_eq_true,decide_eq_true_eq];exact U8 h3 h4
 show(if(cO b&&decide (b<=2^20))=true then some (fk 0 b)else none)=_;exact rR (bw e) rfl
theorem MZ{a b:Int}(h1:-1000<=a)(h2:a<=1000)(h3:-1000<=b)(h4:b<=1000):fb .r [.i a,.i b,.i<|-1]=some (kK a b):=by
 have e:(cO a&&cO b&&cO (b-a)&&decide (a-b<=2^20)&&decide ((-1:Int)=-1))=true:=by simp only[cO,Bool.and_eq_true,decide_eq_true_eq,and_true];exact U9 h1 h2 h3 h4
 show(if(cO a&&cO b&&cO (b-a)&&decide (a-b<=2^20)&&decide ((-1:Int)=-1))=true then some (kK a b)else none)=_;exact rR (bw e) rfl
theorem sQ{a b:Int}{i:Nat}{x:PV}(h:(fk a b)[i]?=some x):x=.i (a+i)/\a+i<b:=by
 unfold fk at h;rw[cQ]at h;refine aC (gV.mp h) λj hj aL=>?_;clear h;subst aL;have hlt:i<(b-a).toNat:=by
  rcases dm i (List.range (b-a).toNat).length with h'|h'
  ·simpa using h'
  ·rw[gO h']at hj;exact nN hj
 rw[lU hlt]at hj;have hj:=aK hj;subst hj;exact⟨rfl,VS hlt⟩
theorem qC(a b:Int):(fk a b).length=(b-a).toNat:=by simp[fk]
theorem M0{a b:Int}{i:Nat}{x:PV}(h:(kK a b)[i]?=some x):x=.i (a-i)/\b<a-i:=by
 unfold kK at h;rw[cQ]at h;refine aC (gV.mp h) λj hj aM=>?_;clear h;subst aM;have hlt:i<(a-b).toNat:=by
  rcases dm i (List.range (a-b).toNat).length with h'|h'
  ·simpa using h'
  ·rw[gO h']at hj;exact nN hj
 rw[lU hlt]at hj;have hj:=aK hj;subst hj;exact⟨rfl,VT hlt⟩
theorem M1(a b:Int):(kK a b).length=(a-b).toNat:=by simp[kK]
theorem cH{α:Type}{l:List α}{i:Nat}{x:α}(h:l[i]?=some x):i<l.length:=by
 rcases dm i l.length with h'|h'
 ·exact h'
 ·rw[gO h']at h;exact nN h
theorem h_{α:Type}{l:List α}{i:Nat}(h:i<l.length):∃x,l[i]?=some x:=⟨l[i],eE h⟩
theorem bq{Γ:b7}{ae:bf}{H:ak}{i:Nat}{v:PV}(h:ae[i]?=some (some v)):az Γ (.v i) ae H=some (v,H):=by show(ae[i]?).bind _=_;refine rR h ?_;rfl
theorem lO{Γ:b7}{ae:bf}{H:ak}{i:Nat}{v:PV}{o:bf}(h:ae[i]?=some (some v)):az Γ (.v i) (ae++o) H=some (v,H):=bq<|by rw[iZ<|cH h];exact h
theorem kO{Γ:b7}{ae:bf}{H:ak}{v:PV}{k i:Nat}{o:bf}(hl:ae.length=k)(h:o[i]?=some (some v)):az Γ (.v<|k+i) (ae++o) H=some (v,H):=bq<|by rw[<-hl,ku<|jt _ _,tV];exact h
theorem f_{Γ:b7}{a b:CE}{ae:bf}{H H1:ak}{c d:Bool}(ha:az Γ a ae H=some (.b c,H1))(hb:c=true->az Γ b ae H1=some (.b d,H1)):az Γ (.a true [a,b]) ae H=some (.b<|c&&d,H1):=by
 refine rR pq<|rR hU<|rR ha ?_
 simp only[Option.bind_some,fZ]
 induction c using cP with
 |false=>rfl
 |true=>
  refine rR (bw rfl)<|rR hU<|rR (hb rfl) ?_
  simp only[Option.bind_some,fZ,nR];clear hb
  induction d using cP<;>rfl
theorem pB{Γ:b7}{a b:CE}{ae:bf}{H H1:ak}{c d:Bool}(ha:az Γ a ae H=some (.b c,H1))(hb:c=false->az Γ b ae H1=some (.b d,H1)):az Γ (.a false [a,b]) ae H=some (.b<|c||d,H1):=by
 refine rR pq<|rR hU<|rR ha ?_
 simp only[Option.bind_some,fZ]
 induction c using cP with
 |true=>rfl
 |false=>
  refine rR (bw rfl)<|rR hU<|rR (hb rfl) ?_
  simp only[Option.bind_some,fZ,nR];clear hb
  induction d using cP<;>rfl
theorem iB{Γ:b7}{t a b:CE}{ae:bf}{H H1:ak}{c:Bool}{r:PV×ak}(ht:az Γ t ae H=some (.b c,H1))(ha:c=true->az Γ a ae H1=some r)(hb:c=false->az Γ b ae H1=some r):az Γ (.i t a b) ae H=some r:=by
 refine rR DO<|rR ht ?_
 simp only[Option.bind_some,fZ]
 induction c using cP with
 |true=>refine rR (bw rfl) ?_;exact ha rfl
 |false=>refine rR (bO<|by decide) ?_;exact hb rfl
theorem M3{Γ:b7}{a:CE}{ae:bf}{H H1:ak}{c:Bool}(ha:az Γ a ae H=some (.b c,H1)):az Γ (.o a) ae H=some (.b<|!c,H1):=by refine rR yM<|rR ha ?_;rfl
theorem dD{Γ:b7}{op:lu}{a b:CE}{ae:bf}{H H1 H2:ak}{p q v:PV}(ha:az Γ a ae H=some (p,H1))(hb:az Γ b ae H1=some (q,H2))(h:kJ H2 op p q=some v):az Γ (.b op a b) ae H=some (v,H2):=by
 refine rR My<|rR ha ?_
 simp only[Option.bind_some,hb,h,Option.map_some]
section
variable {Γ:b7}{ae cZ:bf}{H H1 H2 H3 H4:ak}{Q:Res->Prop}{a b c:CE}{t:List CS}{i m:Nat}{v w u:PV}{l1 l2:au}
theorem aZ(h:az Γ a ae H=some (v,H1))(k:Ok (aF Γ t (ae.set i<|some v) H1) Q):Ok (aF Γ (.a i a::t) ae H) Q:=
 nP (by refine rR MJ<|rR h ?_;rfl) k
theorem kP{is:aG}{l:au}(h:az Γ a ae H=some (.t l,H1))(hl:is.length=l.length)(k:Ok (aF Γ t (bx is l ae) H1) Q):Ok (aF Γ (.s is a::t) ae H) Q:=
 nP (by refine rR MK<|rR h ?_;show((if is.length=l.length then some (bx is l ae)else none).map _)=_;refine rR (bw hl) ?_;rfl) k
theorem nT(h:az Γ a ae H=some (v,H1))(k:Ok (aF Γ t ae H1) Q):Ok (aF Γ (.x a::t) ae H) Q:=
 nP (by refine rR MM<|rR h ?_;rfl) k
theorem ub(ha:az Γ a ae H=some (.e m,H1))(h1:H1[m]?=some (some<|.l l1))(hb:az Γ b ae H1=some (v,H2))(h2:H2[m]?=some (some<|.l l2))(hz:l2.length<=1000):
  az Γ (.q a b) ae H=some (.n,H2.set m<|some<|.l<|l2++[v]):=by
 have hz':l2.length<2^20:=QI hz;refine rR MF<|rR ha ?_
 simp only[Option.bind_some,iL,h1,hb,h2];exact rR (bw hz') rfl
theorem eW(ha:az Γ a ae H=some (.e m,H1))(h1:H1[m]?=some (some<|.l l1))(hb:az Γ b ae H1=some (v,H2))(h2:H2[m]?=some (some<|.l l2))(hz:l2.length<=1000)
  (k:Ok (aF Γ t ae<|H2.set m<|some<|.l<|l2++[v]) Q):Ok (aF Γ (.x (.q a b)::t) ae H) Q:=nT (ub ha h1 hb h2 hz) k
theorem sR{r:au}(ha:az Γ a ae H=some (.e m,H1))(h1:H1[m]?=some (some<|.l l1))(hb:az Γ b ae H1=some (v,H2))(h2:H2[m]?=some (some<|.l l2))(hr:fh H2 v=some r)(hz:l2.length+r.length<=1000)
  (k:Ok (aF Γ t ae<|H2.set m<|some<|.l<|l2++r) Q):Ok (aF Γ (.x (.x a b)::t) ae H) Q:=by
 have hz':l2.length+r.length<=2^20:=QJ hz;refine nT (v:=.n) ?_ k;refine rR MG<|rR ha ?_
 simp only[Option.bind_some,iL,h1,hb,h2,hr];exact rR (bw hz') rfl
theorem yW(ha:az Γ a ae H=some (.e m,H1))(h1:H1[m]?=some (some<|.l l1))(hv:l1.getLast?=some v):az Γ (.u a) ae H=some (v,H1.set m<|some<|.l l1.dropLast):=by
 refine rR MH<|rR ha ?_
 simp only[Option.bind_some,iL,h1,hv,Option.map_some]
theorem DU{p u:PV}(hc:az Γ c ae H=some (v,H1))(ha:az Γ a ae H1=some (p,H2))(hb:az Γ b ae H2=some (u,H3))(hs:rE H3 p u v=some H4)(q:Ok (aF Γ t ae H4) Q):Ok (aF Γ (.t a b c::t) ae H) Q:=
 nP (by refine rR ML<|rR hc ?_;simp only[Option.bind_some,ha,hb,hs,Option.map_some]) q
theorem M4{k:Int}{j:Nat}(h:H[m]?=some (some<|.l l1))(hk:gx k l1.length=some j):rE H (.e m) (.i k) v=some (H.set m<|some<|.l<|l1.set j v):=by show(H[m]?).bind _=_;refine rR h ?_;show(gx _ _).map _=_;refine rR hk ?_;rfl
theorem pC{k:Nat}(hc:az Γ c ae H=some (v,H1))(ha:az Γ a ae H1=some (.e m,H2))(hb:az Γ b ae H2=some (.i k,H3))(h3:H3[m]?=some (some<|.l l1))(hk:k<l1.length)
  (q:Ok (aF Γ t ae<|H3.set m<|some<|.l<|l1.set k v) Q):Ok (aF Γ (.t a b c::t) ae H) Q:=DU hc ha hb (M4 h3<|MQ hk) q
theorem M5(hc:az Γ c ae H=some (v,H1))(ha:az Γ a ae H1=some (.e m,H2))(hb:az Γ b ae H2=some (.i<|-1,H3))(h3:H3[m]?=some (some<|.l l1))(hk:0<l1.length)
  (q:Ok (aF Γ t ae<|H3.set m<|some<|.l<|l1.set (l1.length-1) v) Q):Ok (aF Γ (.t a b c::t) ae H) Q:=DU hc ha hb (M4 h3<|MR hk) q
theorem DV{k j:Int}{n:Nat}{f:Int->bK}(hc:az Γ c ae H=some (.i j,H1))(ha:az Γ a ae H1=some (.e m,H2))(hb:az Γ b ae H2=some (.i k,H3))(h3:H3[m]?=some (some<|.i n f))(hk:n<=1000)
  (q:Ok (aF Γ t ae<|H3.set m<|some (.i (n+1) λx=>if x=k then some j else f x)) Q):Ok (aF Γ (.t a b c::t) ae H) Q:=by
 refine DU hc ha hb ?_ q;show(H3[m]?).bind _=_;refine rR h3 ?_;exact bw<|Nat.lt_of_le_of_lt hk<|by decide
end
noncomputable def M6:=And.intro @cL<|And.intro @dP<|And.intro @re<|And.intro @rk<|And.intro @Mw<|And.intro @Mx<|And.intro @yL<|And.intro @My<|And.intro @yM<|And.intro @Mz<|And.intro @MA<|And.intro @pq<|And.intro @DO<|And.intro @MB<|And.intro @MC<|And.intro @DP<|And.intro @MD<|And.intro @ME<|And.intro @DQ<|And.intro @lM<|And.intro @MF<|And.intro @MG<|And.intro @MH<|And.intro @sa<|And.intro @sb<|And.intro @sg<|And.intro @sM<|And.intro @yN<|And.intro @MI<|And.intro @nR<|And.intro @hU<|And.intro @MJ<|And.intro @MK<|And.intro @sk<|And.intro @ML<|And.intro @MM<|And.intro @fZ<|And.intro @yO<|And.intro @sl<|And.intro @sm<|And.intro @sn<|And.intro @MN<|And.intro @so<|And.intro @sp<|And.intro @sw<|And.intro @sB<|And.intro @sK<|And.intro @MO<|And.intro @sT<|And.intro @ta<|And.intro @tc<|And.intro @td<|And.intro @te<|And.intro @tf<|And.intro @ti<|And.intro @tj<|And.intro @tm<|And.intro @to<|And.intro @tr<|And.intro @tv<|And.intro @x_len<|And.intro @tx<|And.intro @ty<|And.intro @tz<|And.intro @tA<|And.intro @t3<|And.intro @MP<|And.intro @t4<|And.intro @t5<|And.intro @Option.bind_some.{0,0} (And.intro @Option.map_some.{0,0} (And.intro @Bool.and_true<|And.intro @qY<|And.intro @Bool.or_false<|And.intro @Bool.false_or<|And.intro @Bool.not_true<|And.intro @Bool.not_false<|And.intro @if_true.{1} (And.intro @if_false.{1} (And.intro @decide_true<|And.intro @decide_false<|And.intro @Bool.false_eq_true<|And.intro @List.set_cons_zero.{0} (And.intro @List.set_cons_succ.{0} (And.intro @sO<|And.intro @sP<|@DT))))))
theorem wl:type_of%@M6:=M6
noncomputable def qD(l:Int):String:=if l %2=1 then "R" else "L"
theorem DW(n:Nat)(a b:Int)(H:ak):gam (n+1) "" "bidi_direction" [.i a,.i b] H=some (.s<|qD<|max a b,H):=by
 refine dX (ir:=HN) (vs:=[.i a,.i b]) (by kernel_rfl) rfl rfl rfl rfl ?_;show Ok (aF (gam n) AS [some<|.i a,some<|.i b] []) _;unfold AS;refine bX (v:=.s<|qD<|max a b) (H':=[]) ?_ rfl
 (try simp only[wl,bx,reduceIte];try rfl)
 unfold qD;split<;>simp_all
def mQ(o:Rt)(m:Nat)(H:ak):Prop:=∃out,o=some (.l out,H)/\bT out/\out.length=m
theorem fF{l:au}:fb .v [.l l]=some l:=rfl
theorem ji{l:au}:fb .e [.l l]=some (dU l):=rfl
theorem ui:Aw=.t (["ES","ET","CS"].map .s):=rfl
theorem DX:ux=.t (["EN","AN"].map .s):=rfl
theorem uj:Au=.t (["LRI","RLI","FSI","PDI"].map .s):=rfl
theorem M7:oK=.t (["RLE","LRE","RLO","LRO","PDF","BN"].map .s):=rfl
theorem uk:rG=.t (["RLE","LRE","RLO","LRO"].map .s):=rfl
theorem ul:iM=.t (["LRI","RLI","FSI"].map .s):=rfl
theorem un:As=.t (["L","R","AL"].map .s):=rfl
theorem ut(n:Nat){l:au}(hl:bT l)(H:ak):mQ (gam (n+1) "" "bidi_left_overs" [.l l] H) l.length H:=by
 obtain⟨v,e,out,rfl,h1,h2⟩:=lJ (n:=n) (c:="") (f:="bidi_left_overs") (ir:=H8) (vs:=[.l l]) (args:=[.l l]) (H:=H) (Q:=λv=>∃out,v=.l out/\bT out/\out.length=l.length) (by kernel_rfl) rfl rfl rfl (by simp[hl.fz]) (by
  show Ok (aF (gam n) Ba [some<|.l l] []) _;unfold Ba
  let f:PV->PV:=λx=>match x with
   |.s s=>if s∈["ES","ET","CS"]then .s "ON" else .s s
   |x=>x
  have hf:bT (l.map f):=λx hx=>by
   refine aC (bV.mp hx) λy hy aP=>?_;clear hx;subst aP;refine X1 (hl y hy) λs aN=>?_;clear hy;subst aN;show isStr (if s∈["ES","ET","CS"]then .s "ON" else .s s);split
   ·exact⟨_,rfl⟩
   ·exact⟨_,rfl⟩
  refine bX (v:=.l<|l.map f) (H':=[]) ?_<|lX _ ?_ _ rfl hf (by simp)
  ·(try simp only[wl,bx,reduceIte];try rfl)
   refine rR fF ?_;simp only[Option.bind_some];rw[comp_map (f:=f) λx hx=>?_]
   ·rfl
   ·(refine X1 (hl x hx) λs aQ=>?_;clear hx;subst aQ)
    simp only[iK,List.cons_append,List.nil_append]
    (try simp only[wl,bx,reduceIte];try rfl)
    refine rR ui (rR gT ?_)
    (try simp only[wl,bx,reduceIte];try rfl)
    show _=some (some (if s∈["ES","ET","CS"]then PV.s "ON" else .s s),_);by_cases h:s∈["ES","ET","CS"]<;>simp[h]
  ·exact jg λx hx=>by(refine X1 (hf x hx) λs aR=>?_;clear hx;subst aR);exact dj<|.inr<|.inr<|.inr ⟨s,rfl⟩)
 exact cM out e h1 h2
theorem vh{n:Nat}{f:String}{ir:bl}{args vs:au}{m:Nat}{H:ak}(hl:iN.lookup ("",f)=some ir)(hk:ir.kind=.f)(hp:ir.pure=true)(hf:jb ir args=some vs)(hz:vs.all (fz 8)=true)
  (hr:Ok (aF (gam n) ir.body (g7 ir vs) []) λr=>∃k out,fX r.1=.e k/\r.2.2[k]?=some (some<|.l out)/\bT out/\out.length=m):mQ (gam (n+1) "" f args H) m H:=by
 obtain⟨v,e,out,rfl,h1,h2⟩:=lJ (H:=H) (Q:=λv=>∃out,v=.l out/\bT out/\out.length=m) hl hk hp hf hz (hr.mono λr h=>by
  refine eJ h λk out e e2 h1 h2=>?_
  exact lX (.l out) (by refine rR e ?_;exact gu e2 h1.b8) out rfl h1 h2)
 exact cM out e h1 h2
theorem u'(n:Nat){l:au}{bh:String}(hl:bT l)(hb:l.length<=900)(H:ak):mQ (gam (n+1) "" "bidi_marks" [.l l,.s bh] H) l.length H:=by
 refine vh (ir:=HU) (vs:=[.l l,.s bh]) (by kernel_rfl) rfl rfl rfl (by simp[hl.fz,dj]) ?_;show Ok (aF (gam n) AZ [some<|.l l,some<|.s bh,none,none,none] []) _;unfold AZ;refine aZ (v:=.e 0) (H1:=[some<|.l []]) rfl ?_;refine aZ (v:=.s bh) (H1:=[some<|.l []]) rfl ?_;refine gr (H':=[some<|.l []]) (items:=l) (λi ae H=>∃out last o4,bT out/\out.length=i/\ae=[some<|.l l,some<|.s bh,some<|.e 0,some<|.s last,o4]/\H=[some<|.l out])
  rfl fF (lY [] bh none bT.nil rfl rfl rfl) (λi x ae H hx hI=>?_) (λae H hI=>?_)
 ·(refine kE hI λout last o4 h1 h2 aT aL=>?_;clear hI;subst aT;subst aL)
  refine X1 (hl.get hx) λs aM=>?_;subst aM;have hi:i<l.length:=by
   rcases dm i l.length with h|h
   ·exact h
   ·rw[gO h]at hx;exact nN hx
  refine aA _ rfl ?_;have fin:∀s':String,Ok (aF (gam n) [.x<|.q (.v 2)<|.v 4,.a 3<|.v 4] [some<|.l l,some<|.s bh,some<|.e 0,some<|.s last,some<|.s s'] [some<|.l out])
    (Turn (λae H=>∃out last o4,bT out/\out.length=i+1/\ae=[some<|.l l,some<|.s bh,some<|.e 0,some<|.s last,o4]/\H=[some<|.l out]) (After (gam n) [.r<|.v 2] λr=>∃k out,fX r.1=.e k/\r.2.2[k]?=some (some<|.l out)/\bT out/\out.length=l.length)):=λs'=>by
   refine eW (m:=0) (l1:=out) (l2:=out) (v:=.s s') (H1:=[some<|.l out]) (H2:=[some<|.l out]) rfl rfl rfl rfl (QK hb h2 hi) ?_;refine aZ (v:=.s s') (H1:=[some<|.l<|out++[.s s']]) rfl<|cu ?_
   exact lY _ _ _ (h1.app s') (by simp[h2]) rfl rfl
  refine bU (c:=decide<|s="NSM") (H':=[some<|.l out]) rfl (λhc=>?_) λhc=>fin s
  refine aZ (v:=.s (if last∈["LRI","RLI","FSI","PDI"]then "ON" else last)) (H1:=[some<|.l out]) (by
   (try simp only[wl,bx,reduceIte];try rfl)
   refine rR uj (rR gT ?_)
   (try simp only[wl,bx,reduceIte];try rfl)
   by_cases h:last∈["LRI","RLI","FSI","PDI"]<;>simp[h])<|fin _
 ·(refine kE hI λout last o4 h1 h2 aP aN=>?_;clear hI;subst aP;subst aN)
  exact bX (v:=.e 0) (H':=[some<|.l out]) rfl<|fy 0 out rfl rfl h1 h2
theorem vl{H:ak}{s:String}:cE H .i (.s s) (.t [.s "L",.s "R",.s "AL"])=some (decide<|s∈["L","R","AL"]):=gT (l:=["L","R","AL"])
theorem vr{H:ak}{s:String}:cE H .i (.s s) (.t [.s "L",.s "R"])=some (decide<|s∈["L","R"]):=gT (l:=["L","R"])
theorem vu(n:Nat){l:au}(hl:bT l)(H:ak):mQ (gam (n+1) "" "bidi_arabic_letters" [.l l] H) l.length H:=by
 obtain⟨v,e,out,rfl,h1,h2⟩:=lJ (n:=n) (c:="") (f:="bidi_arabic_letters") (ir:=HX) (vs:=[.l l]) (args:=[.l l]) (H:=H) (Q:=λv=>∃out,v=.l out/\bT out/\out.length=l.length) (by kernel_rfl) rfl rfl rfl (by simp[hl.fz]) (by
  show Ok (aF (gam n) A0 [some<|.l l] []) _;unfold A0
  let f:PV->PV:=λx=>match x with
   |.s s=>if s="AL" then .s "R" else .s s
   |x=>x
  have hf:bT (l.map f):=λx hx=>by
   refine aC (bV.mp hx) λy hy aQ=>?_;clear hx;subst aQ;refine X1 (hl y hy) λs aR=>?_;clear hy;subst aR;show isStr (if s="AL" then .s "R" else .s s);split
   ·exact⟨_,rfl⟩
   ·exact⟨_,rfl⟩
  refine bX (v:=.l<|l.map f) (H':=[]) ?_<|lX _ ?_ _ rfl hf (by simp)
  ·(try simp only[wl,bx,reduceIte];try rfl)
   refine rR fF ?_;simp only[Option.bind_some];rw[comp_map (f:=f) λx hx=>?_]
   ·rfl
   ·(refine X1 (hl x hx) λs aT=>?_;clear hx;subst aT)
    simp only[iK,List.cons_append,List.nil_append]
    (try simp only[wl,bx,reduceIte];try rfl)
    show _=some (some (if s="AL" then PV.s "R" else .s s),_);by_cases h:s="AL"<;>simp[h]
  ·exact jg λx hx=>by(refine X1 (hf x hx) λs aL=>?_;clear hx;subst aL);exact dj<|.inr<|.inr<|.inr ⟨s,rfl⟩)
 exact cM out e h1 h2
theorem M8{n:Nat}{l:au}{bh:String}{body:List CS}(hl:bT l)(hb:l.length<=900)
  (hs:∀s vj out,out.length<=900->Ok (aF (gam n) body [some<|.l l,some<|.s bh,some<|.e 0,some<|.s vj,some<|.s s] [some<|.l out]) (λr=>r.1=.n/\∃qE s' o4,r.2.1=[some<|.l l,some<|.s bh,some<|.e 0,some<|.s qE,o4]/\r.2.2=[some<|.l<|out++[.s s']])):
  Ok (aF (gam n) [.a 2<|.e [],.a 3<|.v 1,.f false [4] .v [.v 0] body,.r<|.v 2] [some<|.l l,some<|.s bh,none,none,none] []) (λr=>∃k out,fX r.1=.e k/\r.2.2[k]?=some (some<|.l out)/\bT out/\out.length=l.length):=by
 refine aZ (v:=.e 0) (H1:=[some<|.l []]) rfl ?_;refine aZ (v:=.s bh) (H1:=[some<|.l []]) rfl ?_;refine gr (H':=[some<|.l []]) (items:=l) (λi ae H=>∃out last o4,bT out/\out.length=i/\ae=[some<|.l l,some<|.s bh,some<|.e 0,some<|.s last,o4]/\H=[some<|.l out])
  rfl fF (lY [] bh none bT.nil rfl rfl rfl) (λi x ae H hx hI=>?_) (λae H hI=>?_)
 ·(refine kE hI λout last o4 h1 h2 aM aP=>?_;clear hI;subst aM;subst aP)
  refine X1 (hl.get hx) λs aN=>?_;subst aN;have hi:=cH hx;refine aA _ rfl ((hs s last out<|QL hb h2 hi).mono λr h=>?_);obtain⟨f,cZ,H'⟩:=r;refine Pp h λaQ qE s' o4 aR aT=>?_;subst aQ;clear h;subst aR;subst aT;exact lY _ qE o4 (h1.app s') (by simp[h2]) rfl rfl
 ·(refine kE hI λout last o4 h1 h2 aL aM=>?_;clear hI;subst aL;subst aM)
  exact bX (v:=.e 0) (H':=[some<|.l out]) rfl<|fy 0 out rfl rfl h1 h2
theorem vw(n:Nat){l:au}{bh:String}(hl:bT l)(hb:l.length<=900)(H:ak):mQ (gam (n+1) "" "bidi_arabic_numbers" [.l l,.s bh] H) l.length H:=by
 refine vh (ir:=HW) (vs:=[.l l,.s bh]) (by kernel_rfl) rfl rfl rfl (by simp[hl.fz,dj]) ?_;show Ok (aF (gam n) HV [some<|.l l,some<|.s bh,none,none,none] []) _;refine M8 hl hb λs vj out ho=>?_;have fin:∀st:String,Ok (aF (gam n) [.x<|.q (.v 2)<|.i (.a true [.m .e (.v 4)<|.c<|.s "EN",.m .e (.v 3)<|.c<|.s "AL"]) (.c<|.s "AN")<|.v 4] [some<|.l l,some<|.s bh,some<|.e 0,some<|.s st,some<|.s s] [some<|.l out])
   (λr=>r.1=.n/\∃qE s' o4,r.2.1=[some<|.l l,some<|.s bh,some<|.e 0,some<|.s qE,o4]/\r.2.2=[some<|.l<|out++[.s s']]):=λst=>by
  refine eW (m:=0) (l1:=out) (l2:=out) (v:=.s (if(decide (s="EN")&&decide (st="AL"))=true then "AN" else s)) (H1:=[some<|.l out]) (H2:=[some<|.l out]) rfl rfl (by
   (try simp only[wl,bx,reduceIte];try rfl)
   split<;>rfl) rfl (rq ho)<|cu<|FE rfl _ _ _ rfl rfl
 refine bU (c:=decide<|s∈["L","R","AL"]) (H':=[some<|.l out]) (by(try simp only[wl,bx,reduceIte];try rfl);refine rR vl ?_;(try simp only[wl,bx,reduceIte];try rfl)) (λhc=>?_) λhc=>fin vj;exact aZ (v:=.s s) (H1:=[some<|.l out]) rfl<|fin s
theorem vx(n:Nat){l:au}{bh:String}(hl:bT l)(hb:l.length<=900)(H:ak):mQ (gam (n+1) "" "bidi_left_numbers" [.l l,.s bh] H) l.length H:=by
 refine vh (ir:=H_) (vs:=[.l l,.s bh]) (by kernel_rfl) rfl rfl rfl (by simp[hl.fz,dj]) ?_;show Ok (aF (gam n) H9 [some<|.l l,some<|.s bh,none,none,none] []) _;refine M8 hl hb λs vj out ho=>?_;have fin:∀st:String,Ok (aF (gam n) [.x<|.q (.v 2)<|.i (.a true [.m .e (.v 4)<|.c<|.s "EN",.m .e (.v 3)<|.c<|.s "L"]) (.c<|.s "L")<|.v 4] [some<|.l l,some<|.s bh,some<|.e 0,some<|.s st,some<|.s s] [some<|.l out])
   (λr=>r.1=.n/\∃qE s' o4,r.2.1=[some<|.l l,some<|.s bh,some<|.e 0,some<|.s qE,o4]/\r.2.2=[some<|.l<|out++[.s s']]):=λst=>by
  refine eW (m:=0) (l1:=out) (l2:=out) (v:=.s (if(decide (s="EN")&&decide (st="L"))=true then "L" else s)) (H1:=[some<|.l out]) (H2:=[some<|.l out]) rfl rfl (by
   (try simp only[wl,bx,reduceIte];try rfl)
   split<;>rfl) rfl (rq ho)<|cu<|FE rfl _ _ _ rfl rfl
 refine bU (c:=decide<|s∈["L","R"]) (H':=[some<|.l out]) (by(try simp only[wl,bx,reduceIte];try rfl);refine rR vr ?_;(try simp only[wl,bx,reduceIte];try rfl)) (λhc=>?_) λhc=>fin vj;exact aZ (v:=.s s) (H1:=[some<|.l out]) rfl<|fin s
theorem vT(n:Nat){l:au}(hl:bT l)(hb:l.length<=900)(H:ak):mQ (gam (n+1) "" "bidi_separators" [.l l] H) l.length H:=by
 refine vh (ir:=HY) (vs:=[.l l]) (by kernel_rfl) rfl rfl rfl (by simp[hl.fz]) ?_;show Ok (aF (gam n) A3 [some<|.l l,none,none,none,none] []) _;unfold A3;refine aZ (v:=.e 0) (H1:=[some<|.l l]) rfl ?_;refine gr (H':=[some<|.l l]) (vs:=[.i 1,.i<|l.length-1]) (items:=fk 1<|l.length-1) (λi ae H=>∃out o2 o3 o4,bT out/\out.length=l.length/\ae=[some<|.l l,some<|.e 0,o2,o3,o4]/\H=[some<|.l out])
  rfl (pA QM QN Ab<|QO hb) (pY l none none none hl rfl rfl rfl) (λi x ae H hx hI=>?_) (λae H hI=>?_)
 ·(refine wA hI λout o2 o3 o4 h1 h2 aP aN=>?_;clear hI;subst aP;subst aN)
  refine U1 (sQ hx) λaQ hlt=>?_;clear hx;subst aQ;have e1:(1+(i:Int))=((i+1:Nat):Int):=QS;refine X1 (h_ (l:=l) (i:=i+1)<|QT hlt) λx1 g1=>?_;refine X1 (h_ (l:=l) (i:=i)<|QU hlt) λx0 g0=>?_;refine X1 (h_ (l:=l) (i:=i+2)<|QV hlt) λx2 g2=>?_;refine X1 (hl.get g1) λs1 aR=>?_;subst aR;refine X1 (hl.get g0) λs0 aT=>?_;subst aT;refine X1 (hl.get g2) λs2 aL=>?_;subst aL;refine rR e1 ?_;refine aA _ rfl ?_
  refine kP (l:=[.s s1,.s s0]) (H1:=[some<|.l out]) (by
   (try simp only[wl,bx,reduceIte];try rfl)
   refine rR (dB g1) (rR (show(((i+1:Nat):Int)-1)=((i:Nat):Int)from F4) ?_)
   (try simp only[wl,bx,reduceIte];try rfl)
   refine rR (dB g0) ?_
   (try simp only[wl,bx,reduceIte];try rfl)) rfl ?_
  have done:∀out',bT out'->out'.length=l.length->Turn (λae H=>∃out o2 o3 o4,bT out/\out.length=l.length/\ae=[some<|.l l,some<|.e 0,o2,o3,o4]/\H=[some<|.l out]) (After (gam n) [.r<|.v 1] λr=>∃k out,fX r.1=.e k/\r.2.2[k]?=some (some<|.l out)/\bT out/\out.length=l.length)
    (.n,[some<|.l l,some<|.e 0,some<|.i ((i+1:Nat):Int),some<|.s s1,some<|.s s0],[some<|.l out']):=λout' g1 g2=>pY out' _ _ _ g1 g2 rfl rfl
  refine bU (c:=decide<|s0=s2) (H':=[some<|.l out]) (by
   (try simp only[wl,bx,reduceIte];try rfl)
   refine rR (show(((i+1:Nat):Int)+1)=((i+2:Nat):Int)from QW) (rR (dB g2) ?_)
   (try simp only[wl,bx,reduceIte];try rfl)) (λhc=>?_) λhc=>cu<|done out h1 h2
  refine bU (c:=(decide (s1="CS")&&decide (s0∈["EN","AN"]))||(decide (s1="ES")&&decide (s0="EN"))) (H':=[some<|.l out]) (by
   (try simp only[wl,bx,reduceIte];try rfl)
   refine rR DX (rR gT ?_)
   (try simp only[wl,bx,reduceIte];try rfl)) (λhc=>?_) λhc=>cu<|done out h1 h2
  refine pC (k:=i+1) (v:=.s s0) (m:=0) (l1:=out) (H1:=[some<|.l out]) (H2:=[some<|.l out]) (H3:=[some<|.l out]) rfl rfl rfl rfl (QX h2 hlt)<|cu<|done _ (h1.set _ _) (by simp[h2])
 ·(refine wA hI λout o2 o3 o4 h1 h2 aM aP=>?_;clear hI;subst aM;subst aP)
  exact bX (v:=.e 0) (H':=[some<|.l out]) rfl<|fy 0 out rfl rfl h1 h2
theorem dF{Γ:b7}{a:CE}{ae:bf}{H H1:ak}{p v:PV}{c f:String}{ns:aY}{l:au}(ha:az Γ a ae H=some (p,H1))(hf:fieldsOf H1 p=some (c,ns,l))(hb:qc c f=true)(hl:fW f ns l=some v):az Γ (.f a f) ae H=some (v,H1):=by
 refine rR MD<|rR ha ?_
 simp only[Option.bind_some,hf,hb,hl,if_true,Option.map_some]
theorem bP{Γ:b7}{es:List CE}{ae:bf}{H H1:ak}{vs:au}{f:String}{r:PV×ak}(ha:cX Γ es ae H=some (vs,H1))(h:Γ "" f vs H1=some r):az Γ (.h f es) ae H=some r:=by refine rR ME<|rR ha ?_;exact h
theorem e_idx{Γ:b7}{a b:CE}{ae:bf}{H H1 H2:ak}{p q v:PV}(ha:az Γ a ae H=some (p,H1))(hb:az Γ b ae H1=some (q,H2))(h:gH H2 p q=some v):az Γ (.d a b) ae H=some (v,H2):=by
 refine rR MB<|rR ha ?_
 simp only[Option.bind_some,hb,h,Option.map_some]
theorem bu{Γ:b7}{op:gw}{a b:CE}{ae:bf}{H H1 H2:ak}{p q:PV}{c:Bool}(ha:az Γ a ae H=some (p,H1))(hb:az Γ b ae H1=some (q,H2))(h:cE H2 op p q=some c):az Γ (.m op a b) ae H=some (.b c,H2):=by
 refine rR Mz<|rR ha ?_
 simp only[Option.bind_some,hb,h,Option.map_some]
theorem bA{Γ:b7}{ae:bf}{H:ak}:cX Γ [] ae H=some ([],H):=yN
theorem aJ{Γ:b7}{a:CE}{es:List CE}{ae:bf}{H H1 H2:ak}{p:PV}{vs:au}(ha:az Γ a ae H=some (p,H1))(h:cX Γ es ae H1=some (vs,H2)):cX Γ (a::es) ae H=some (p::vs,H2):=by
 refine rR MI<|rR ha ?_
 simp only[Option.bind_some,h,Option.map_some]
theorem j7{Γ:b7}{es:List CE}{ae:bf}{H H1:ak}{vs:au}(h:cX Γ es ae H=some (vs,H1)):az Γ (.t es) ae H=some (.t vs,H1):=by refine rR Mw<|rR h ?_;rfl
theorem M9{Γ:b7}{es:List CE}{ae:bf}{H H1:ak}{vs:au}(h:cX Γ es ae H=some (vs,H1)):az Γ (.l es) ae H=some (.l vs,H1):=by refine rR Mx<|rR h ?_;rfl
noncomputable def j8(n:Nat)(l:au):Prop:=∀x∈l,∃a b:Nat,a<b/\b<=n/\x=.t [.i a,.i b]
theorem j8.nil{n:Nat}:j8 n []:=λU h=>nomatch h
theorem j8.app{n:Nat}{l:au}(h:j8 n l){a b:Nat}(h1:a<b)(h2:b<=n):j8 n (l++[.t [.i a,.i b]]):=λx hx=>by
 rcases dR.mp hx with hx|hx
 ·exact h x hx
 ·refine rR (dO.mp hx) ?_;exact fg a b h1 h2 rfl
theorem j8.b8{m:Nat}{l:au}(h:j8 m l){n:Nat}{H:ak}:∀x∈l,Mine.b8 (n+1) H x=some x:=λx hx=>by
 refine d_ (h x hx) λa b U U aN=>?_;clear hx;subst aN;exact yT λy hy=>by
  simp only[List.mem_cons,List.not_mem_nil,or_false]at hy;rcases hy with rfl|rfl
  ·exact iT<|.inr<|.inr<|.inl ⟨_,rfl⟩
  ·exact iT<|.inr<|.inr<|.inl ⟨_,rfl⟩
theorem M_(n:Nat){l:au}{ks:aY}(hl:bT l)(hb:l.length<=900)(H:ak):∃out,gam (n+1) "" "bidi_runs" [.l l,.t<|ks.map .s] H=some (.l out,H)/\j8 l.length out:=by
 have fin:∃v,gam (n+1) "" "bidi_runs" [.l l,.t<|ks.map .s] H=some (v,H)/\∃out,v=.l out/\j8 l.length out:=by
  refine lJ (ir:=HZ) (vs:=[.l l,.t<|ks.map .s]) (by kernel_rfl) rfl rfl rfl (by
   have:fz 8 (.t<|ks.map .s)=true:=MU λx hx=>by(refine aC (bV.mp hx) λs U aQ=>?_;clear hx;subst aQ);exact dj<|.inr<|.inr<|.inr ⟨s,rfl⟩
   simp[hl.fz,this]) ?_
  show Ok (aF (gam n) A4 [some<|.l l,some<|.t<|ks.map .s,none,none,none,none] []) _;unfold A4;refine aZ (v:=.e 0) (H1:=[some<|.l []]) rfl ?_;refine aZ (v:=.n) (H1:=[some<|.l []]) rfl ?_;refine gr (H':=[some<|.l []]) (items:=dU l) (λi ae H=>∃out bg o4 o5,j8 l.length out/\out.length<=i/\(bg=.n\/∃b:Nat,bg=.i b/\b<i)/\ae=[some<|.l l,some<|.t<|ks.map .s,some<|.e 0,some bg,o4,o5]/\H=[some<|.l out])
   rfl ji (pZ [] .n none none j8.nil (bY _) (.inl rfl) rfl rfl) (λi x ae H hx hI=>?_) (λae H hI=>?_)
  ·(refine Fe hI λout bg o4 o5 h1 h2 h3 aR aT=>?_;subst aR;clear hI;subst aT)
   refine aC (j6 hx) λv hv aL=>?_;clear hx;subst aL;have hi:=cH hv;refine X1 (hl.get hv) λs aM=>?_;clear hv;subst aM;refine aA _ rfl ?_;have stay:∀{P:bf->ak->Prop},True:=trivial;rcases h3 with rfl|⟨b,rfl,hbi⟩
   ·refine bU (c:=decide<|s∈ks) (H':=[some<|.l out]) (by(try simp only[wl,bx,reduceIte];try rfl);refine rR gT ?_;(try simp only[wl,bx,reduceIte];try rfl)) (λhc=>?_) λhc=>?_
    ·exact aZ (v:=.i i) (H1:=[some<|.l out]) rfl<|cu<|pZ out (.i i) _ _ h1 (l8 h2) (.inr<|aA i rfl l9) rfl rfl
    ·refine bU (c:=false) (H':=[some<|.l out]) (by(try simp only[wl,bx,reduceIte];try rfl);refine rR yU ?_;(try simp only[wl,bx,reduceIte];try rfl);simp) nB λU=>cu<|pZ out .n _ _ h1 (l8 h2) (.inl rfl) rfl rfl
   ·refine bU (c:=false) (H':=[some<|.l out]) (by(try simp only[wl,bx,reduceIte];try rfl);refine rR gT ?_;(try simp only[wl,bx,reduceIte];try rfl);simp) nB λU=>?_;refine bU (c:=!decide (s∈ks)) (H':=[some<|.l out]) (by(try simp only[wl,bx,reduceIte];try rfl);refine rR yU ?_;(try simp only[wl,bx,reduceIte];try rfl)) (λhc=>?_) λhc=>?_
    ·refine eW (m:=0) (l1:=out) (l2:=out) (v:=.t [.i b,.i i]) (H1:=[some<|.l out]) (H2:=[some<|.l out]) rfl rfl rfl rfl (QY hb h2 hi) ?_;exact aZ (v:=.n) (H1:=[some<|.l<|out++[.t [.i b,.i i]]]) rfl<|cu<|pZ _ .n _ _ (h1.app hbi<|gX hi) (by simp;exact uh h2) (.inl rfl) rfl rfl
    ·exact cu<|pZ out (.i b) _ _ h1 (l8 h2) (.inr<|aA b rfl<|um hbi) rfl rfl
  ·(refine Fe hI λout bg o4 o5 h1 h2 h3 aP aN=>?_;subst aP;clear hI;subst aN)
   rw[mP]at h2 h3;have fin:∀out',j8 l.length out'->Ok (aF (gam n) [.r<|.v 2] [some<|.l l,some<|.t<|ks.map .s,some<|.e 0,some bg,o4,o5] [some<|.l out']) (λr=>∃v,b8 6 r.2.2 (fX r.1)=some v/\∃out,v=.l out/\j8 l.length out):=λout' h=>
    bX (v:=.e 0) (H':=[some<|.l out']) rfl (PF (.l out') (gu rfl h.b8) out' rfl h)
   rcases h3 with rfl|⟨b,rfl,hbi⟩
   ·exact bU (c:=false) (H':=[some<|.l out]) rfl nB λU=>fin out h1
   ·refine bU (c:=true) (H':=[some<|.l out]) rfl (λU=>?_) tB;exact eW (m:=0) (l1:=out) (l2:=out) (v:=.t [.i b,.i l.length]) (H1:=[some<|.l out]) (H2:=[some<|.l out]) rfl rfl rfl rfl (QZ hb h2)<|fin _ (h1.app hbi<|bY _)
 refine ni fin λv e out aQ h=>?_;subst aQ;exact aA out e h
theorem wa(n:Nat){l:au}{a b:Nat}{p q:PV}(hl:bT l)(hb:l.length<=900)(hab:a<b)(hbn:b<=l.length)(hp:fz 8 p=true)(hq:fz 8 q=true)(H:ak):
  ∃x y,gam (n+1) "" "bidi_beside" [.l l,.i a,.i b,p,q] H=some (.t [x,y],H)/\(x∈l\/x=p)/\(y∈l\/y=q)\/¬(∀z,z∈[p,q]->b8 5 [] z=some z):=by
 by_cases hz:∀z,z∈[p,q]->b8 5 [] z=some z
 ·have fin:∃v,gam (n+1) "" "bidi_beside" [.l l,.i a,.i b,p,q] H=some (v,H)/\∃x y,v=.t [x,y]/\(x∈l\/x=p)/\(y∈l\/y=q):=by
   refine lJ (ir:=H6) (vs:=[.l l,.i a,.i b,p,q]) (by kernel_rfl) rfl rfl rfl (by simp[hl.fz,hp,hq,dj]) ?_;show Ok (aF (gam n) A7 [some<|.l l,some<|.i a,some<|.i b,some p,some q,none] []) _;unfold A7;obtain⟨x,hx,ex⟩:∃x,(x∈l\/x=p)/\az (gam n) (.i (.m .g (.v 1)<|.c<|.i 0) (.d (.v 0)<|.b .s (.v 1)<|.c<|.i 1)<|.v 3) [some<|.l l,some<|.i a,some<|.i b,some p,some q,none] []=some (x,[]):=by
    by_cases h0:0<a
    ·refine X1 (h_ (l:=l) (i:=a-1)<|Q0 hab hbn) λx hx=>?_;refine aA x (.inl<|dY hx) ?_
     (try simp only[wl,bx,reduceIte];try rfl)
     refine rR (show decide ((0:Int)<(a:Int))=true by simpa using h0) (rR (show((a:Int)-1)=((a-1:Nat):Int)from Q2 h0)<|rR (dB hx) ?_);rfl
    ·refine aA p (.inr rfl) ?_
     (try simp only[wl,bx,reduceIte];try rfl)
     refine rR (show decide ((0:Int)<(a:Int))=false by simpa using h0) ?_;rfl
   obtain⟨y,hy,ey⟩:∃y,(y∈l\/y=q)/\az (gam n) (.i (.m .l (.v 2)<|.k .l [.v 0]) (.d (.v 0)<|.v 2)<|.v 4) [some<|.l l,some<|.i a,some<|.i b,some p,some q,some x] []=some (y,[]):=by
    by_cases h0:b<l.length
    ·refine X1 (h_ (l:=l) (i:=b) h0) λy hy=>?_;refine aA y (.inl<|dY hy) ?_
     (try simp only[wl,bx,reduceIte];try rfl)
     refine rR (show decide ((b:Int)<(l.length:Int))=true by simpa using h0) (rR (dB hy) ?_);rfl
    ·refine aA q (.inr rfl) ?_
     (try simp only[wl,bx,reduceIte];try rfl)
     refine rR (show decide ((b:Int)<(l.length:Int))=false by simpa using h0) ?_;rfl
   refine aZ ex ?_;refine bX (v:=.t [x,y]) (H':=[]) (j7<|aJ rfl<|aJ ey bA)<|Fp _ (yT λz hz'=>?_) x y rfl hx hy
   have ok:∀z,z∈l->b8 5 [] z=some z:=λz h=>hl.b8 z h;simp only[List.mem_cons,List.not_mem_nil,or_false]at hz';clear ex ey;rcases hz' with rfl|rfl
   ·clear hp;rcases hx with hx|rfl
    ·exact ok _ hx
    ·exact hz _ (by simp)
   ·clear hq;rcases hy with hy|rfl
    ·exact ok _ hy
    ·exact hz _ (by simp)
  refine Px fin λv e x y aR h=>?_;subst aR;exact I2 x y<|.inl ⟨e,h⟩
 ·exact I2 .n .n<|.inr hz
theorem Na(n:Nat){l:au}{a b:Nat}{p q:PV}(hl:bT l)(hb:l.length<=900)(hab:a<b)(hbn:b<=l.length)(hp:p=.n\/isStr p)(hq:q=.n\/isStr q)(H:ak):
  ∃x y,gam (n+1) "" "bidi_beside" [.l l,.i a,.i b,p,q] H=some (.t [x,y],H)/\(isStr x\/x=p)/\(isStr y\/y=q):=by
 have fl:∀z:PV,z=.n\/isStr z->(z=.n\/(∃b,z=.b b)\/(∃i,z=.i i)\/∃s,z=.s s):=λz h=>h.imp id λh=>.inr<|.inr h
 obtain⟨x,y,⟨e,hx,hy⟩|h⟩:=wa n hl hb hab hbn (dj<|fl p hp) (dj<|fl q hq) H
 ·exact fg x y e (hx.imp (hl x) id)<|hy.imp (hl y) id
 ·refine absurd (λz hz=>?_) h;simp only[List.mem_cons,List.not_mem_nil,or_false]at hz;clear h;rcases hz with rfl|rfl
  ·exact iT<|fl _ hp
  ·exact iT<|fl _ hq
theorem wb{H:ak}{a:PV}{l:au}(ha:simple 2 a=true)(hl:l.all (simple 2)=true):cE H .i a (.t l)=some (l.any<|fj a):=by show(if simple 2 a&&l.all (simple 2)then some (l.any<|fj a)else none)=_;refine rR ha<|rR hl ?_;rfl
theorem wf(n:Nat){l:au}(hl:bT l)(hb:l.length<=900)(H:ak):mQ (gam (n+2) "" "bidi_terminators" [.l l] H) l.length H:=by
 refine vh (n:=n+1) (ir:=H7) (vs:=[.l l]) (by kernel_rfl) rfl rfl rfl (by simp[hl.fz]) ?_;show Ok (aF (gam<|n+1) A_ [some<|.l l,none,none,none,none] []) _;unfold A_;refine aZ (v:=.e 0) (H1:=[some<|.l l]) rfl ?_;refine aC (M_ n (ks:=["ET"]) hl hb [some<|.l l]) λruns er hr=>?_;refine gr (H':=[some<|.l l]) (vs:=[.l runs]) (items:=runs) (λi ae H=>∃out o2 o3 o4,bT out/\out.length=l.length/\ae=[some<|.l l,some<|.e 0,o2,o3,o4]/\H=[some<|.l out])
  (aJ (bP (vs:=[.l l,.t [.s "ET"]]) (H1:=[some<|.l l]) rfl er) bA) fF (pY l none none none hl rfl rfl rfl) (λi x ae H hx hI=>?_) (λae H hI=>?_)
 ·(refine wA hI λout o2 o3 o4 h1 h2 aT aL=>?_;clear hI;subst aT;subst aL)
  refine d_ (hr x<|dY hx) λa b hab hbn aM=>?_;clear hx;subst aM;refine aA _ rfl ?_;refine d_ (Na n (p:=.n) (q:=.n) hl hb hab hbn (.inl rfl) (.inl rfl) [some<|.l out]) λx y eb hx' hy'=>?_;have sx:∀z:PV,isStr z\/z=.n->simple 2 z=true:=λz h=>by rcases h with⟨s,rfl⟩|rfl<;>rfl
  refine bU (c:=[x,y].any (fj<|.s "EN")) (H':=[some<|.l out]) (by
   refine bu (p:=.s "EN") (q:=.t [x,y]) rfl (bP (vs:=[.l l,.i a,.i b,.n,.n]) (H1:=[some<|.l out]) rfl eb) ?_
   exact wb rfl<|by simp[sx x hx',sx y hy']) (λhc=>?_) λhc=>?_
  ·refine gr (H':=[some<|.l out]) (vs:=[.i a,.i b]) (items:=fk a b) (λi ae H=>∃out o4,bT out/\out.length=l.length/\ae=[some<|.l l,some<|.e 0,some<|.i a,some<|.i b,o4]/\H=[some<|.l out])
    rfl (pA jx (Q3 hb hab hbn) jx<|Q4 hb hbn) (fy out o4 h1 h2 rfl rfl) (λj z ae H hz hJ=>?_) (λae H hJ=>?_)
   ·(refine eJ hJ λout o4 g1 g2 aP aN=>?_;clear hJ;subst aP;subst aN)
    refine U1 (sQ hz) λaQ hlt=>?_;clear hz;subst aQ;refine aA _ rfl ?_;refine rR (show((a:Int)+(j:Int))=((a+j:Nat):Int)from F5) ?_;refine pC (k:=a+j) (v:=.s "EN") (m:=0) (l1:=out) (H1:=[some<|.l out]) (H2:=[some<|.l out]) (H3:=[some<|.l out]) rfl rfl rfl rfl (Q5 hbn g2 hlt)<|cu<|fy _ _ (g1.set _ _) (by simp[g2]) rfl rfl
   ·(refine eJ hJ λout o4 g1 g2 aR aT=>?_;clear hJ;subst aR;subst aT)
    exact cu<|pY out _ _ _ g1 g2 rfl rfl
  ·exact cu<|pY out _ _ _ h1 h2 rfl rfl
 ·(refine wA hI λout o2 o3 o4 h1 h2 aL aM=>?_;clear hI;subst aL;subst aM)
  exact bX (v:=.e 0) (H':=[some<|.l out]) rfl<|fy 0 out rfl rfl h1 h2
theorem wi(n:Nat){l:au}{bh:String}(hl:bT l)(hb:l.length<=900)(H:ak):mQ (gam (n+3) "" "weak_classes" [.l l,.s bh] H) l.length H:=by
 refine c_ (u' (n+1) (bh:=bh) hl hb []) λo1 e1 s1 l1=>?_;refine c_ (vw (n+1) (bh:=bh) s1 (F6 hb l1) []) λo2 e2 s2 l2=>?_;refine c_ (vu (n+1) s2 []) λo3 e3 s3 l3=>?_;refine c_ (vT (n+1) s3 (Q6 hb l1 l2 l3) []) λo4 e4 s4 l4=>?_;refine c_ (wf n s4 (Q7 hb l1 l2 l3 l4) []) λo5 e5 s5 l5=>?_;refine c_ (ut (n+1) s5 []) λo6 e6 s6 l6=>?_;refine c_ (vx (n+1) (bh:=bh) s6 (Q8 hb l1 l2 l3 l4 l5 l6) []) λo7 e7 s7 l7=>?_;refine cM o7 ?_ s7<|Q9 l1 l2 l3 l4 l5 l6 l7
 refine dX (n:=n+2) (ir:=Ia) (vs:=[.l l,.s bh]) (by kernel_rfl) rfl rfl rfl (by simp[hl.fz,dj]) ?_;show Ok (aF (gam<|n+2) Bb [some<|.l l,some<|.s bh,none] []) _;unfold Bb
 refine aZ (v:=.l o3) (H1:=[]) (by
  (try simp only[wl,bx,reduceIte];try rfl)
  refine rR e1 ?_;simp only[Option.bind_some]
  (try simp only[wl,bx,reduceIte];try rfl)
  refine rR e2 ?_;simp only[Option.bind_some]
  exact rR e3 rfl) ?_
 refine bX (v:=.l o7) (H':=[]) (by
  (try simp only[wl,bx,reduceIte];try rfl)
  refine rR e4 ?_;simp only[Option.bind_some];refine rR e5 ?_;simp only[Option.bind_some];refine rR e6 ?_;simp only[Option.bind_some]
  (try simp only[wl,bx,reduceIte];try rfl)
  exact rR e7 rfl) ?_
 exact jg λx hx=>by(refine X1 (s7 x hx) λs aP=>?_;clear hx;subst aP);exact dj<|.inr<|.inr<|.inr ⟨s,rfl⟩
noncomputable def KS:aY:=["L","R","AL","EN","AN","ON","WS","S","NSM","LRI","RLI","PDI","RLE","LRE","PDF","BN"]
noncomputable def kindOf(c:Int):String:=if 64<c then KS.getD (c-65).toNat "" else "ON"
noncomputable def j9(c:Int):Prop:=(65<=c/\c<=80)\/c=40\/c=41
noncomputable def bB:PV:=(.o "Data" ["defaults","maps","properties","words"] [.c ["gc","ccc","bc","lb","ea","sc","jt","incb","gcb","wb","sb","ex","sd","cased","ci","ep","di","ids","idc","xids","xidc","pat_syn","pat_ws","idst","dm","uc","lc","tc","cf","bm","bpb","scx","nt","nv","name","conf","nfkc_cf","suc","slc","stc","alias","idna"] [.s "Cn",.i 0,.s "L",.s "XX",.s "N",.s "Zzzz",.s "U",.s "None",.s "Other",.s "Other",.s "Other",.b false,.b false,.b false,.b false,.b false,.b false,.b false,.b false,.b false,.b false,.b false,.b false,.b false,.n,.n,.n,.n,.n,.n,.n,.n,.n,.n,.n,.n,.n,.t [],.t [],.t [],.t [],.t [.s "disallowed",.t []]],.c ["bc","bm"] [.o "RangeMap" ["default","starts","values"] [.s "L",.l [.i 0,.i 40,.i 42,.i 66,.i 67,.i 68,.i 69,.i 70,.i 71,.i 72,.i 73,.i 74,.i 75,.i 76,.i 77,.i 78,.i 79,.i 80,.i 81],.l [.s "L",.s "ON",.s "L",.s "R",.s "AL",.s "EN",.s "AN",.s "ON",.s "WS",.s "S",.s "NSM",.s "LRI",.s "RLI",.s "PDI",.s "RLE",.s "LRE",.s "PDF",.s "BN",.s "L"]],.o "RangeMap" ["default","starts","values"] [.n,.l [.i 0,.i 40,.i 41,.i 42],.l [.n,.i 41,.i 40,.n]]],.c [] [],.c [] []])
noncomputable def Nb:bk:=(List.range 16).map (λk:Nat=>65+(k:Int))++[40,41]
theorem j9.mem{c:Int}(h:j9 c):c∈Nb:=by
 rcases h with⟨h1,h2⟩|rfl|rfl
 ·exact q6 _ (bV.mpr<|aA ((c-65).toNat) (jM.mpr<|GQ h2)<|U_ h1)
 ·decide
 ·decide
theorem j9.el{P:Int->Prop}(h:∀c∈Nb,P c){c:Int}(hc:j9 c):P c:=h c hc.mem
theorem Nc(n:Nat){c:Int}(h:j9 c)(H:ak):gam (n+3) "Data" "get" [bB,.s "bc",.i c] H=some (.s<|kindOf c,H):=by exact h.el (P:=λc=>gam (n+3) "Data" "get" [bB,.s "bc",.i c] H=some (.s<|kindOf c,H))<|mc (by kernel_rfl)<|mc (by kernel_rfl)<|mc (by kernel_rfl)<|mc (by kernel_rfl)<|mc (by kernel_rfl)<|mc (by kernel_rfl)<|mc (by kernel_rfl)<|mc (by kernel_rfl)<|mc (by kernel_rfl)<|mc (by kernel_rfl)<|mc (by kernel_rfl)<|mc (by kernel_rfl)<|mc (by kernel_rfl)<|mc (by kernel_rfl)<|mc (by kernel_rfl)<|mc (by kernel_rfl)<|mc (by kernel_rfl)<|mc (by kernel_rfl) mz
noncomputable def nU(c:Int):PV:=if c=40 then .i 41 else if c=41 then .i 40 else .n
theorem wn(n:Nat){c:Int}(h:j9 c)(H:ak):gam (n+3) "Data" "get" [bB,.s "bm",.i c] H=some (nU c,H):=by exact h.el (P:=λc=>gam (n+3) "Data" "get" [bB,.s "bm",.i c] H=some (nU c,H))<|mc (by kernel_rfl)<|mc (by kernel_rfl)<|mc (by kernel_rfl)<|mc (by kernel_rfl)<|mc (by kernel_rfl)<|mc (by kernel_rfl)<|mc (by kernel_rfl)<|mc (by kernel_rfl)<|mc (by kernel_rfl)<|mc (by kernel_rfl)<|mc (by kernel_rfl)<|mc (by kernel_rfl)<|mc (by kernel_rfl)<|mc (by kernel_rfl)<|mc (by kernel_rfl)<|mc (by kernel_rfl)<|mc (by kernel_rfl)<|mc (by kernel_rfl) mz
theorem wp(n:Nat){c:Int}(H:ak):gam (n+3) "Data" "get" [bB,.s "gc",.i c] H=some (.s "Cn",H):=by kernel_rfl
theorem wv(n:Nat){c:Int}(H:ak):gam (n+3) "Data" "get" [bB,.s "bpb",.i c] H=some (.n,H):=by kernel_rfl
theorem jj:fz 8 bB=true:=by kernel_rfl
theorem ww(n:Nat)(H:ak):gam (n+12) "" "_law_data" [.l<|KS.map .s] H=some (bB,H):=by kernel_rfl
theorem wx{H:ak}:fieldsOf H bB=some ("Data",["defaults","maps","properties","words"],match bB with|.o _ _ l=>l|_=>[]):=rfl
theorem vm{Γ:b7}{a b:CE}{ae:bf}{H H1 H2:ak}{name:String}{p:PV}{r:PV×ak}(ha:az Γ a ae H=some (bB,H1))(hb:az Γ b ae H1=some (p,H2))(h:Γ "Data" "get" [bB,.s name,p] H2=some r):
  az Γ (.j a "get" [.c<|.s name,b]) ae H=some r:=by
 refine rR DQ<|rR ha ?_
 simp only[Option.bind_some,wx];refine rR (bO<|by decide)<|rR (aJ cL<|aJ hb bA) ?_
 exact h
noncomputable def isInt(p:PV):Prop:=∃i,p=.i i
def dJ(l:au):Prop:=∀x∈l,isInt x
theorem dJ.fz{l:au}(h:dJ l)(n:Nat):Mine.fz (n+1) (.l l)=true:=nS λx hx=>by(refine X1 (h x hx) λs aN=>?_;clear hx;subst aN);exact dj<|.inr<|.inr<|.inl ⟨s,rfl⟩
theorem dJ.get{l:au}{i:Nat}{x:PV}(h:dJ l)(hx:l[i]?=some x):∃s,x=.i s:=h x<|dY hx
noncomputable def fG(pl cl:au)(lv:Int)(bh b6:String)(co:au):PV:=.o "BidiSequence" ["places","classes","level","sos","eos","codes"] [.l pl,.l cl,.i lv,.s bh,.s b6,.l co]
theorem Nd(n:Nat){pl cl co:au}{lv:Int}{bh b6:String}(h1:dJ pl)(h2:bT cl)(h3:dJ co)(H:ak):
  gam (n+1) "" "BidiSequence" [.l pl,.l cl,.i lv,.s bh,.s b6,.l co] H=some (fG pl cl lv bh b6 co,H):=by
 refine Mt (ir:=HM) (vs:=[.l pl,.l cl,.i lv,.s bh,.s b6,.l co]) (by kernel_rfl) rfl rfl rfl (by simp[h1.fz,h2.fz,h3.fz,dj]) ?_;refine Ok.mk (r:=(.n,[some<|.e 0,some<|.l pl,some<|.l cl,some<|.i lv,some<|.s bh,some<|.s b6,some<|.l co],[some<|.n "BidiSequence" ["places","classes","level","sos","eos","codes"] [.l pl,.l cl,.i lv,.s bh,.s b6,.l co]])) (by kernel_rfl)<|aA _ rfl ?_
 show Option.map (PV.o _ _) (List.mapM (b8 5 _) [PV.l pl,.l cl,.i lv,.s bh,.s b6,.l co])=_;refine rR (yS<|mc (qB<|h1.fz 3)<|mc (qB<|h2.fz 3)<|mc yR<|mc MV<|mc MV<|mc (qB<|h3.fz 3) mz) ?_;rfl
theorem sS{pl cl co:au}{lv:Int}{bh b6:String}(h1:dJ pl)(h2:bT cl)(h3:dJ co)(n:Nat):fz (n+2) (fG pl cl lv bh b6 co)=true:=by exact gj.mpr<|mc (h1.fz n)<|mc (h2.fz n)<|mc vg<|mc MT<|mc MT<|mc (h3.fz n) mz
theorem wy(n:Nat){pl cl co:au}{lv:Int}{bh b6:String}(h1:dJ pl)(h2:bT cl)(h3:dJ co)(hb:cl.length<=900)(H:ak):mQ (gam (n+4) "" "weak" [fG pl cl lv bh b6 co] H) cl.length H:=by refine c_ (wi n (bh:=bh) h2 hb []) λo e s l=>?_;refine cM o ?_ s l;refine dX (n:=n+3) (ir:=Ib) (vs:=[fG pl cl lv bh b6 co]) (by kernel_rfl) rfl rfl rfl (by simp[sS h1 h2 h3]) ?_;show Ok (aF (gam<|n+3) Bc [some<|fG pl cl lv bh b6 co] []) _;unfold Bc;refine bX (v:=.l o) (H':=[]) (bP (vs:=[.l cl,.s bh]) (H1:=[]) (aJ (dF dP rfl (by decide) rfl)<|aJ (dF dP rfl (by decide) rfl) bA) e) ?_;exact jg λx hx=>by(refine X1 (s x hx) λs' aQ=>?_;clear hx;subst aQ);exact dj<|.inr<|.inr<|.inr ⟨s',rfl⟩
theorem wE(n:Nat){cl co:au}(h2:bT cl)(h3:dJ co)(hl:co.length<=cl.length)(H:ak):gam (n+4) "" "bracket_pairs_of" [.l co,.l cl,bB] H=some (.l [],H):=by
 refine dX (n:=n+3) (ir:=Ic) (vs:=[.l co,.l cl,bB]) (by kernel_rfl) rfl rfl rfl (by simp[h2.fz,h3.fz,jj]) ?_;show Ok (aF (gam<|n+3) Bd [some<|.l co,some<|.l cl,some bB,none,none,none,none,none,none,none] []) _;unfold Bd;refine aZ (v:=.e 0) (H1:=[some<|.l []]) rfl ?_;refine aZ (v:=.e 1) (H1:=[some<|.l [],some<|.l []]) rfl ?_;refine gr (H':=[some<|.l [],some<|.l []]) (items:=dU co) (λi ae H=>∃o5 o6 o7 o8 o9,ae=[some<|.l co,some<|.l cl,some bB,some<|.e 0,some<|.e 1,o5,o6,o7,o8,o9]/\H=[some<|.l [],some<|.l []])
  rfl ji (wI none none none none none rfl rfl) (λi x ae H hx hI=>?_) (λae H hI=>?_)
 ·(refine wB hI λo5 o6 o7 o8 o9 aR aT=>?_;clear hI;subst aR;subst aT)
  refine aC (j6 hx) λv hv aL=>?_;clear hx;subst aL;have hi:=cH hv;refine X1 (h3.get hv) λc aM=>?_;clear hv;subst aM;refine X1 (h_ (l:=cl) (i:=i)<|Ac hl hi) λk hk=>?_;refine X1 (h2.get hk) λs aP=>?_;subst aP;refine aA _ rfl ?_
  refine aZ (v:=.n) (H1:=[some<|.l [],some<|.l []]) (by
   refine rR DO<|rR (bu (p:=.s s) (q:=.s "ON") (c:=decide<|s="ON") (H1:=[some<|.l [],some<|.l []]) (H2:=[some<|.l [],some<|.l []]) (e_idx (p:=.l cl) (q:=.i i) rfl rfl<|dB hk) rfl rfl) ?_
   simp only[Option.bind_some,fZ];split
   ·exact vm (p:=.i c) rfl rfl<|wv n _
   ·(try simp only[wl,bx,reduceIte];try rfl)) ?_
  refine bU (c:=false) (H':=[some<|.l [],some<|.l []]) rfl nB λU=>?_;exact bU (c:=false) (H':=[some<|.l [],some<|.l []]) rfl nB λU=>cu<|wI _ _ _ _ _ rfl rfl
 ·(refine wB hI λo5 o6 o7 o8 o9 aN aQ=>?_;clear hI;subst aN;subst aQ)
  exact bX (v:=.l []) (H':=[some<|.l [],some<|.l []]) (by(try simp only[wl,bx,reduceIte];try rfl);kernel_rfl)<|by rfl
theorem wP(n:Nat){pl cl co:au}{lv:Int}{bh b6:String}(h1:dJ pl)(h2:bT cl)(h3:dJ co)(hl:co.length<=cl.length)(H:ak):gam (n+5) "" "bracket_pairs" [fG pl cl lv bh b6 co,bB] H=some (.l [],H):=by refine dX (n:=n+4) (ir:=Ie) (vs:=[fG pl cl lv bh b6 co,bB]) (by kernel_rfl) rfl rfl rfl (by simp[sS h1 h2 h3,jj]) ?_;show Ok (aF (gam<|n+4) Be [some<|fG pl cl lv bh b6 co,some bB] []) _;unfold Be;exact bX (v:=.l []) (H':=[]) (bP (vs:=[.l co,.l cl,bB]) (H1:=[]) (aJ (dF dP rfl (by decide) rfl)<|aJ (dF dP rfl (by decide) rfl)<|aJ rfl bA)<|wE n h2 h3 hl []) rfl
theorem wS(n:Nat){cl bg:au}{lv:Int}{bh:String}(h2:bT cl)(h3:bT bg)(H:ak):gam (n+1) "" "bracket_classes" [.l cl,.l [],.i lv,.s bh,.l bg] H=some (.l cl,H):=by refine dX (ir:=Ii) (vs:=[.l cl,.l [],.i lv,.s bh,.l bg]) (by kernel_rfl) rfl rfl rfl (by simp[h2.fz,h3.fz,dj,nS]) ?_;show Ok (aF (gam n) Bh [some<|.l cl,some<|.l [],some<|.i lv,some<|.s bh,some<|.l bg,none,none,none,none,none] []) _;unfold Bh;refine aZ (v:=.e 0) (H1:=[some<|.l cl]) rfl ?_;refine nP (cZ:=[some<|.l cl,some<|.l [],some<|.i lv,some<|.s bh,some<|.l bg,some<|.e 0,none,none,none,none]) (H':=[some<|.l cl]) rfl ?_;exact bX (v:=.e 0) (H':=[some<|.l cl]) rfl<|gu rfl h2.b8
def j_(p:PV):Prop:=p=.n\/isStr p
theorem j_.flat{p:PV}(h:j_ p):p=.n\/(∃b,p=.b b)\/(∃i,p=.i i)\/∃s,p=.s s:=h.imp id λh=>.inr<|.inr h
def iU(l:au):Prop:=∀x∈l,j_ x
theorem iU.fz{l:au}(h:iU l)(n:Nat):Mine.fz (n+1) (.l l)=true:=nS λx hx=>dj (h x hx).flat
theorem iU.b8{l:au}(h:iU l){n:Nat}{H:ak}:∀x∈l,Mine.b8 n H x=some x:=λx hx=>iT (h x hx).flat
theorem iU.set{l:au}(h:iU l)(i:Nat){p:PV}(hp:j_ p):iU (l.set i p):=λx hx=>by
 rcases List.mem_or_eq_of_mem_set hx with hx|rfl
 ·exact h x hx
 ·exact hp
theorem bT.ok{l:au}(h:bT l):iU l:=λx hx=>.inr<|h x hx
theorem Nf(n:Nat)(s:String)(H:ak):∃p,gam (n+1) "" "bidi_strong" [.s s] H=some (p,H)/\j_ p:=by
 refine lJ (ir:=Ig) (vs:=[.s s]) (by kernel_rfl) rfl rfl rfl rfl ?_;show Ok (aF (gam n) Bf [some<|.s s] []) _;unfold Bf;refine bU (c:=decide<|s="L") (H':=[]) rfl (λU=>bX (v:=.s "L") (H':=[]) rfl<|aA _ rfl (.inr ⟨_,rfl⟩)) λU=>?_
 refine bX (v:=if(decide (s="R")||decide (s∈["EN","AN"]))=true then .s "R" else .n) (H':=[]) (by
  (try simp only[wl,bx,reduceIte];try rfl)
  refine rR DX (rR gT ?_)
  (try simp only[wl,bx,reduceIte];try rfl)
  split<;>simp_all) ?_
 split
 ·exact aA _ rfl (.inr ⟨_,rfl⟩)
 ·exact aA _ rfl (.inl rfl)
theorem wT(n:Nat)(l:Int)(H:ak):∃s,gam (n+1) "" "bidi_embedding" [.i l] H=some (.s s,H):=by
 refine⟨if l %2=0 then "L" else "R",dX (ir:=Ih) (vs:=[.i l]) (by kernel_rfl) rfl rfl rfl rfl ?_⟩;show Ok (aF (gam n) Bg [some<|.i l] []) _;unfold Bg;refine bX (v:=.s (if l %2=0 then "L" else "R")) (H':=[]) ?_ rfl
 (try simp only[wl,bx,reduceIte];try rfl)
 split<;>simp_all
theorem w0{H:ak}{p q:PV}(hp:j_ p)(hq:j_ q):∃c,cE H .n p q=some c:=by rcases hp with rfl|⟨s,rfl⟩<;>rcases hq with rfl|⟨t,rfl⟩<;>exact⟨_,rfl⟩
theorem w8{n a b N:Nat}{out:au}{d:PV}{E:bR->bf}{x0:bR}{T:bf->ak->Prop}(hE:∀x y,(E x).set 10 y=E y)(v4:∀x,(E x)[4]?=some (some<|.e 0))(v5:∀x,(E x)[5]?=some (some<|.i a))(v6:∀x,(E x)[6]?=some (some<|.i b))(v9:∀x,(E x)[9]?=some (some d))(v10:∀x,(E<|some x)[10]?=some (some x))
  (hbn:b<=N)(hN:N<=900)(hab:a<=b)(h2:out.length=N)(h1:iU out)(hd:j_ d)(K:∀out x,iU out->out.length=N->T (E x) [some<|.l out]):
  Ok (aF (gam n) [.f false [10] .r [.v 5,.v 6] [.t (.v 4) (.v 10)<|.v 9]] (E x0) [some<|.l out]) (Nx T):=by
 refine lK (vs:=[.i a,.i b]) (items:=fk a b) (λ(U:au) x=>E x) (λU out U=>[some<|.l out]) (λU out U=>iU out/\out.length=N) out x0 (aJ (bq<|v5 _)<|aJ (bq<|v6 _) bA) rfl (pA jx (Q_ hbn hN hab) jx<|Ra hbn hN) ⟨h1,h2⟩ (λj z out x hz hj T k=>?_) λout x hj=>cu<|K _ _ hj.1 hj.2
 refine U1 (sQ hz) λaR hlt=>?_;clear hz;subst aR;refine aA _ rfl ?_;rw[hE];exact pC (k:=a+j) (v:=d) (m:=0) (l1:=out) (H1:=[some<|.l out]) (H2:=[some<|.l out]) (H3:=[some<|.l out]) (bq<|v9 _) (bq<|v4 _) (bq<|v10 _) rfl (by refine rR hj.2 ?_;exact Rb hbn hlt)<|cu<|k _ _ ⟨hj.1.set _ hd,by refine rR i5 ?_;exact hj.2⟩
theorem xa(n:Nat){l:au}{lv:Int}{bh b6:String}(hl:bT l)(hb:l.length<=900)(H:ak):∃out,gam (n+2) "" "neutral_classes" [.l l,.i lv,.s bh,.s b6] H=some (.l out,H)/\iU out/\out.length=l.length:=by
 obtain⟨v,e,out,rfl,h⟩:=sL (c:="") (f:="neutral_classes") (H:=H) (args:=[.l l,.i lv,.s bh,.s b6]) (Q:=λv=>∃out,v=.l out/\iU out/\out.length=l.length) (n:=n+1) (ir:=Ij) (vs:=[.l l,.i lv,.s bh,.s b6]) (by kernel_rfl) rfl rfl rfl (by simp[hl.fz,dj]) λT K=>by
  show Ok (aF (gam<|n+1) Bj [some<|.l l,some<|.i lv,some<|.s bh,some<|.s b6,none,none,none,none,none,none,none] []) T;unfold Bj;refine aZ (v:=.e 0) (H1:=[some<|.l l]) rfl ?_;refine aC (M_ n (ks:=["B","S","WS","ON","LRI","RLI","FSI","PDI"]) hl hb [some<|.l l]) λruns er hr=>?_
  let E:bR->bR->bR->bR->bR->bR->bf:=λa b c d e f=>[some<|.l l,some<|.i lv,some<|.s bh,some<|.s b6,some<|.e 0,a,b,c,d,e,f]
  refine lK (vs:=[.l runs]) (items:=runs) (λ(U:au) (z:bR×bR×bR×bR×bR×bR)=>E z.1 z.2.1 z.2.2.1 z.2.2.2.1 z.2.2.2.2.1 z.2.2.2.2.2) (λU out U=>[some<|.l out]) (λU out U=>iU out/\out.length=l.length) l (none,none,none,none,none,none)
   (aJ (bP (vs:=[.l l,Av]) (H1:=[some<|.l l]) rfl er) bA) rfl fF ⟨hl.ok,rfl⟩ (λi x out z hx hj T k=>?_) (λout z hj=>bX (v:=.e 0) (H':=[some<|.l out]) rfl<|K _ (.l out) _ _ (gu rfl hj.1.b8) (cM out rfl hj.1 hj.2))
  refine d_ (hr x<|dY hx) λa b hab hbn aT=>?_;clear hx;subst aT;refine d_ (Na n (p:=.s bh) (q:=.s b6) hl hb hab hbn (.inr ⟨_,rfl⟩) (.inr ⟨_,rfl⟩) [some<|.l out]) λx y eb hx' hy'=>?_;obtain⟨sx,rfl⟩:isStr x:=hx'.elim id λh=>⟨_,h⟩
  obtain⟨sy,rfl⟩:isStr y:=hy'.elim id λh=>⟨_,h⟩
  refine aA _ rfl (kP (l:=[.s sx,.s sy]) (H1:=[some<|.l out]) (bP (vs:=[.l l,.i a,.i b,.s bh,.s b6]) (H1:=[some<|.l out]) rfl eb) rfl ?_);refine aC (Nf n sx [some<|.l out]) λp ep hp=>?_;refine aC (Nf n sy [some<|.l out]) λq eq hq=>?_;refine X1 (wT n lv [some<|.l out]) λem xb=>?_;refine aZ (v:=p) (H1:=[some<|.l out]) (bP (vs:=[.s sx]) (H1:=[some<|.l out]) rfl ep) ?_;have fin:∀d,j_ d->Ok (aF (gam<|n+1) _ (E (some<|.i a) (some<|.i b) (some<|.s sx) (some<|.s sy) (some d) z.2.2.2.2.2) [some<|.l out]) (Nx T):=λd hd=>
   w8 (E:=E (some<|.i a) (some<|.i b) (some<|.s sx) (some<|.s sy)<|some d) (λU U=>rfl) (λU=>rfl) (λU=>rfl) (λU=>rfl) (λU=>rfl) (λU=>rfl) hbn hb (gX hab) hj.2 hj.1 hd λout x h1 h2=>k out (_,_,_,_,_,x) ⟨h1,h2⟩
  refine X1 (w0 (H:=[some<|.l out]) hp hq) λc ec=>?_;refine bU (c:=c) (H':=[some<|.l out]) (bu (p:=p) (q:=q) rfl (bP (vs:=[.s sy]) (H1:=[some<|.l out]) rfl eq) ec) (λU=>?_) λU=>fin p hp;exact aZ (v:=.s em) (H1:=[some<|.l out]) (bP (vs:=[.i lv]) (H1:=[some<|.l out]) rfl xb)<|fin (.s em)<|.inr ⟨_,rfl⟩
 exact aA out e h
theorem xc(n:Nat){pl cl co bg:au}{lv:Int}{bh b6:String}(h1:dJ pl)(h2:bT cl)(h3:dJ co)(h4:bT bg)(hl:co.length<=cl.length)(hb:cl.length<=900)(H:ak):
  ∃out,gam (n+6) "" "neutral" [fG pl cl lv bh b6 co,bB,.l bg] H=some (.l out,H)/\iU out/\out.length=cl.length:=by
 refine c_ (xa (n+3) (lv:=lv) (bh:=bh) (b6:=b6) h2 hb []) λout e h5 h6=>?_;refine cM out ?_ h5 h6;refine dX (n:=n+5) (ir:=Ik) (vs:=[fG pl cl lv bh b6 co,bB,.l bg]) (by kernel_rfl) rfl rfl rfl (by simp[sS h1 h2 h3,jj,h4.fz]) ?_;show Ok (aF (gam<|n+5) Bk [some<|fG pl cl lv bh b6 co,some bB,some<|.l bg,none,none,none] []) _;unfold Bk;refine aZ (v:=.l cl) (H1:=[]) (dF dP rfl (by decide) rfl) ?_;refine aZ (v:=.l bg) (H1:=[]) rfl ?_;refine aZ (v:=.l cl) (H1:=[]) (bP (vs:=[.l cl,.l [],.i lv,.s bh,.l bg]) (H1:=[]) (aJ rfl<|aJ (bP (vs:=[fG pl cl lv bh b6 co,bB]) (H1:=[]) rfl<|wP n h1 h2 h3 hl [])<|aJ (dF dP rfl (by decide) rfl)<|aJ (dF dP rfl (by decide) rfl)<|aJ rfl bA)<|wS (n+4) h2 h4 []) ?_;refine bX (v:=.l out) (H':=[]) (bP (vs:=[.l cl,.i lv,.s bh,.s b6]) (H1:=[]) (aJ rfl<|aJ (dF dP rfl (by decide) rfl)<|aJ (dF dP rfl (by decide) rfl)<|aJ (dF dP rfl (by decide) rfl) bA) e) ?_;exact jg λx hx=>dj (h5 x hx).flat
theorem xf(n:Nat){p:PV}{l:Int}(hp:j_ p)(H:ak):∃k,gam (n+1) "" "implicit_level" [p,.i l] H=some (.i k,H)/\l<=k/\k<=l+2:=by
 have main:∃v,gam (n+1) "" "implicit_level" [p,.i l] H=some (v,H)/\∃k,v=.i k/\l<=k/\k<=l+2:=by
  refine lJ (ir:=Il) (vs:=[p,.i l]) (by kernel_rfl) rfl rfl rfl (by simp[dj hp.flat,dj]) ?_;show Ok (aF (gam n) Bl [some p,some<|.i l] []) _;unfold Bl;refine bU (c:=decide<|l %2=0) (H':=[]) rfl (λU=>?_) λU=>?_
  ·rcases hp with rfl|⟨s,rfl⟩
   ·refine bX (v:=.i<|l+0) (H':=[]) rfl<|lX _ rfl _ rfl U' Va
   ·refine bX (v:=.i<|l+(if s∈["EN","AN"]then 2 else if s="R" then 1 else 0)) (H':=[]) (by
     (try simp only[wl,bx,reduceIte];try rfl)
     refine rR DX (rR gT ?_)
     (try simp only[wl,bx,reduceIte];try rfl)
     by_cases h:s∈["EN","AN"]
     ·simp only[h,decide_true,if_true,Option.bind_some,Option.map_some,yO]
     ·simp only[h,decide_false,Bool.false_eq_true,if_false];by_cases h':s="R"
      ·simp only[h',decide_true,if_true,Option.bind_some,Option.map_some,yO]
      ·simp only[h',decide_false,Bool.false_eq_true,if_false,Option.bind_some,Option.map_some,yO])<|lX _ rfl _ rfl ?_ ?_
    ·split
     ·exact Vb
     ·split<;>(first|lia|omega)
    ·split
     ·exact Vc
     ·split<;>(first|lia|omega)
  ·rcases hp with rfl|⟨s,rfl⟩
   ·exact bX (v:=.i<|l+1) (H':=[]) rfl<|lX _ rfl _ rfl Vd Ve
   ·refine bX (v:=.i (if s="R" then l else l+1)) (H':=[]) (by
     (try simp only[wl,bx,reduceIte];try rfl)
     by_cases h':s="R"
     ·simp only[h',decide_true,if_true]
     ·simp only[h',decide_false,Bool.false_eq_true,if_false])<|lX _ rfl _ rfl ?_ ?_
    ·split<;>(first|lia|omega)
    ·split<;>(first|lia|omega)
 refine ni main λv e k aL h=>?_;subst aL;exact aA k e h
noncomputable def DY(a b:Int)(l:au):Prop:=∀x∈l,∃k,x=.i k/\a<=k/\k<=b
theorem dJ.b8{l:au}(h:dJ l){n:Nat}{H:ak}:∀x∈l,Mine.b8 n H x=some x:=λx hx=>iT<|.inr<|.inr<|.inl<|h x hx
theorem xi(n:Nat){l:au}{lv:Int}(hl:iU l)(H:ak):∃out,gam (n+2) "" "implicit" [.l l,.i lv] H=some (.l out,H)/\DY lv (lv+2) out/\out.length=l.length:=by
 obtain⟨f,hf⟩:∃f:PV->PV,∀x∈l,gam (n+1) "" "implicit_level" [x,.i lv] []=some (f x,[])/\∃k,f x=.i k/\lv<=k/\k<=lv+2:=by
  have:∀x:PV,∃y:PV,x∈l->gam (n+1) "" "implicit_level" [x,.i lv] []=some (y,[])/\∃k,y=.i k/\lv<=k/\k<=lv+2:=λx=>by
   by_cases hx:x∈l
   ·refine aC (xf n (l:=lv) (hl x hx) []) λk e h=>?_;exact⟨.i k,λU=>Fy e k rfl h⟩
   ·exact⟨.n,λh=>absurd h hx⟩
  exact⟨λx=>(this x).choose,λx hx=>(this x).choose_spec hx⟩
 have hb:DY lv (lv+2) (l.map f):=λx hx=>by refine aC (bV.mp hx) λy hy aM=>?_;clear hx;subst aM;exact(hf y hy).2
 refine cM (l.map f) ?_ hb<|by simp
 refine dX (n:=n+1) (ir:=Im) (vs:=[.l l,.i lv]) (by kernel_rfl) rfl rfl rfl (by simp[hl.fz,dj]) ?_;show Ok (aF (gam<|n+1) Bm [some<|.l l,some<|.i lv] []) _;unfold Bm;refine bX (v:=.l<|l.map f) (H':=[]) ?_ (jg λx hx=>by(refine aC (hb x hx) λk aP U=>?_;clear hx;subst aP);exact dj<|.inr<|.inr<|.inl ⟨k,rfl⟩)
 (try simp only[wl,bx,reduceIte];try rfl)
 refine rR fF ?_;simp only[Option.bind_some];rw[comp_map (f:=f) λx hx=>?_]
 ·rfl
 ·simp only[iK,List.cons_append,List.nil_append]
  (try simp only[wl,bx,reduceIte];try rfl)
  refine rR ((hf x hx).1) ?_;rfl
theorem xk(n:Nat){pl cl co:au}{lv:Int}{bh b6:String}(h1:dJ pl)(h2:bT cl)(h3:dJ co)(hl:co.length<=cl.length)(hb:cl.length<=900)(H:ak):
  ∃out,gam (n+7) "" "sequence_levels" [fG pl cl lv bh b6 co,bB] H=some (.l out,H)/\DY lv (lv+2) out/\out.length=cl.length:=by
 refine c_ (wy (n+2) (lv:=lv) (bh:=bh) (b6:=b6) h1 h2 h3 hb []) λwk e1 s1 l1=>?_;refine c_ (xc n (lv:=lv) (bh:=bh) (b6:=b6) h1 s1 h3 h2 (Rc hl l1) (F6 hb l1) []) λnt e2 s2 l2=>?_;refine c_ (xi (n+4) (lv:=lv) s2 []) λim e3 s3 l3=>?_;refine cM im ?_ s3<|Rd l1 l2 l3
 refine dX (n:=n+6) (ir:=Io) (vs:=[fG pl cl lv bh b6 co,bB]) (by kernel_rfl) rfl rfl rfl (by simp[sS h1 h2 h3,jj]) ?_;show Ok (aF (gam<|n+6) Bo [some<|fG pl cl lv bh b6 co,some bB,none,none] []) _;unfold Bo;refine aZ (v:=.l wk) (H1:=[]) (bP (vs:=[fG pl cl lv bh b6 co]) (H1:=[]) rfl e1) ?_
 refine aZ (v:=fG pl wk lv bh b6 co) (H1:=[]) (bP (vs:=[.l pl,.l wk,.i lv,.s bh,.s b6,.l co]) (H1:=[])
  (aJ (dF dP rfl (by decide) rfl)<|aJ rfl<|aJ (dF dP rfl (by decide) rfl)<|aJ (dF dP rfl (by decide) rfl)<|aJ (dF dP rfl (by decide) rfl)<|aJ (dF dP rfl (by decide) rfl) bA) (Nd (n+5) h1 s1 h3 [])) ?_
 refine bX (v:=.l im) (H':=[]) (bP (vs:=[.l nt,.i lv]) (H1:=[]) (aJ (bP (vs:=[fG pl wk lv bh b6 co,bB,.l cl]) (H1:=[]) (aJ rfl<|aJ rfl<|aJ (dF dP rfl (by decide) rfl) bA) e2)<|aJ (dF dP rfl (by decide) rfl) bA) e3) ?_;exact jg λx hx=>by(refine aC (s3 x hx) λk aN U=>?_;clear hx;subst aN);exact dj<|.inr<|.inr<|.inl ⟨k,rfl⟩
theorem kc{Γ:b7}{a:CE}{es:List CE}{ae:bf}{H H1 H2:ak}{p:PV}{vs:au}{c m:String}{ns:aY}{l:au}{r:PV×ak}(ha:az Γ a ae H=some (p,H1))(hf:fieldsOf H1 p=some (c,ns,l))(hn:(ns.contains m||c=="")=false)
  (hes:cX Γ es ae H1=some (vs,H2))(h:Γ c m (p::vs) H2=some r):az Γ (.j a m es) ae H=some r:=by
 refine rR DQ<|rR ha ?_
 simp only[Option.bind_some,hf,hn];refine rR (bO<|by decide)<|rR hes ?_
 exact h
theorem xl{H:ak}{m:Nat}{l:au}(h:H[m]?=some (some<|.l l)):jS H .l [.e m]=some (.i l.length,H):=by show(e_ H<|.e m).map _=_;simp only[e_,h,Option.map_some]
theorem xp{Γ:b7}{a:CE}{ae:bf}{H H1:ak}{m:Nat}{l:au}(ha:az Γ a ae H=some (.e m,H1))(h:H1[m]?=some (some<|.l l)):az Γ (.k .l [a]) ae H=some (.i l.length,H1):=by
 refine rR lM<|rR (aJ ha bA) ?_
 exact xl h
abbrev Ent:=Int×Bool
noncomputable def eG(e:Ent):PV:=.o "BidiEntry" ["level","override","is_isolate"] [.i e.1,.n,.b e.2]
noncomputable def bW(v:Int):Option AO:=some<|.n "BidiStack" ["depth","entries","over_isolates","over_embeddings","valid_isolates"] [.i 125,.e 1,.i 0,.i 0,.i v]
def ents(es:List Ent):Option AO:=some<|.l<|es.reverse.map eG
noncomputable def eB(r:Bool)(l:Int):Int:=if r then l+1+l %2 else l+2-l %2
theorem Ng(n:Nat)(e:Ent)(H:ak):gam (n+1) "" "BidiEntry" [.i e.1,.n,.b e.2] H=some (eG e,H):=by kernel_rfl
section
variable {es:List Ent}{e:Ent}{v:Int}{R:ak}{n:Nat}
theorem yX:((e::es).reverse.map eG).getLast?=some (eG e):=by simp
theorem yY:gam (n+1) "BidiStack" "last" [.e 0] (bW v::ents (e::es)::R)=some (eG e,bW v::ents (e::es)::R):=by
 obtain⟨x,H',h,rfl,rfl⟩:=nQ (n:=n) (c:="BidiStack") (f:="last") (ir:=HA) (args:=[.e 0]) (vs:=[.e 0]) (H:=bW v::ents (e::es)::R) (Q:=λx H'=>x=eG e/\H'=bW v::ents (e::es)::R) (by kernel_rfl) rfl rfl rfl (by
  show Ok (aF (gam n) AG [some<|.e 0] _) _;unfold AG
  refine bX (e_idx (p:=.e 1) (q:=.i<|-1) (dF dP rfl (by decide) rfl) rfl<|ve rfl yX) ⟨rfl,rfl⟩)
 exact h
theorem Nh(r:Bool):gam (n+2) "BidiStack" "further" [.e 0,.b r] (bW v::ents (e::es)::R)=some (.i<|eB r e.1,bW v::ents (e::es)::R):=by
 obtain⟨x,H',h,rfl,rfl⟩:=nQ (n:=n+1) (c:="BidiStack") (f:="further") (ir:=HB) (args:=[.e 0,.b r]) (vs:=[.e 0,.b r]) (H:=bW v::ents (e::es)::R) (Q:=λx H'=>x=.i (eB r e.1)/\H'=bW v::ents (e::es)::R) (by kernel_rfl) rfl rfl rfl (by
  show Ok (aF (gam<|n+1) AH [some<|.e 0,some<|.b r,none] _) _;unfold AH;refine aZ (v:=.i e.1) (H1:=bW v::ents (e::es)::R) (dF (p:=eG e) (H1:=bW v::ents (e::es)::R) (kc (p:=.e 0) (H1:=bW v::ents (e::es)::R) rfl rfl (by decide) bA yY) rfl (by decide) rfl) ?_;refine bU (c:=r) (H':=bW v::ents (e::es)::R) rfl (λh=>?_) λh=>?_
  ·exact bX (v:=.i<|e.1+1+e.1 %2) rfl ⟨by refine rR h ?_;rfl,rfl⟩
  ·exact bX (v:=.i<|e.1+2-e.1 %2) rfl ⟨by refine rR h ?_;rfl,rfl⟩)
 exact h
theorem Ni{l:Int}(hl:l<=125):gam (n+1) "BidiStack" "is_free" [.e 0,.i l] (bW v::ents es::R)=some (.b true,bW v::ents es::R):=by
 obtain⟨x,H',h,rfl,rfl⟩:=nQ (n:=n) (c:="BidiStack") (f:="is_free") (ir:=HC) (args:=[.e 0,.i l]) (vs:=[.e 0,.i l]) (H:=bW v::ents es::R) (Q:=λx H'=>x=.b true/\H'=bW v::ents es::R) (by kernel_rfl) rfl rfl rfl (by
  show Ok (aF (gam n) AI [some<|.e 0,some<|.i l] _) _;unfold AI;refine bX (v:=.b true) (H':=bW v::ents es::R) ?_ ⟨rfl,rfl⟩;refine rR pq<|rR hU<|rR (bu (p:=.i l) (q:=.i 125) (c:=decide<|l<=125) rfl (dF dP rfl (by decide) rfl) rfl) ?_
  simp only[Option.bind_some,fZ,hl,decide_true,if_true];refine rR hU<|rR (bu (p:=.i 0) (q:=.i 0) (c:=true) (dF dP rfl (by decide) rfl) rfl rfl) ?_
  simp only[Option.bind_some,fZ,if_true];refine rR hU (rR (bu (p:=.i 0) (q:=.i 0) (c:=true) (dF dP rfl (by decide) rfl) rfl rfl) ?_)
  rfl)
 exact h
theorem xt(r:Bool)(hl:eB r e.1<=125)(hz:es.length<=900):gam (n+3) "BidiStack" "embed" [.e 0,.b r,.n] (bW v::ents (e::es)::R)=some (.n,bW v::ents ((eB r e.1,false)::e::es)::R):=by
 obtain⟨x,H',h,rfl,rfl⟩:=nQ (n:=n+2) (c:="BidiStack") (f:="embed") (ir:=HD) (args:=[.e 0,.b r,.n]) (vs:=[.e 0,.b r,.n]) (H:=bW v::ents (e::es)::R) (Q:=λx H'=>x=.n/\H'=bW v::ents ((eB r e.1,false)::e::es)::R) (by kernel_rfl) rfl rfl rfl (by
  show Ok (aF (gam<|n+2) AJ [some<|.e 0,some<|.b r,some .n,none] _) _;unfold AJ;refine aZ (v:=.i<|eB r e.1) (H1:=bW v::ents (e::es)::R) (kc (p:=.e 0) (H1:=bW v::ents (e::es)::R) rfl rfl (by decide) (aJ rfl bA)<|Nh r) ?_;refine bU (c:=true) (H':=bW v::ents (e::es)::R) (kc (p:=.e 0) (H1:=bW v::ents (e::es)::R) rfl rfl (by decide) (aJ rfl bA)<|Ni (n:=n+1) hl) (λU=>?_) tB;refine eW (m:=1) (l1:=(e::es).reverse.map eG) (l2:=(e::es).reverse.map eG) (v:=eG (eB r e.1,false)) (H1:=bW v::ents (e::es)::R) (H2:=bW v::ents (e::es)::R) (dF dP rfl (by decide) rfl) rfl (bP (vs:=[.i<|eB r e.1,.n,.b false]) rfl<|Ng (n+1) (eB r e.1,false) _) rfl (by simp;exact F7 hz) ?_;refine cu ⟨rfl,?_⟩;show bW v::some (AO.l<|_++_)::R=_
  simp[ents])
 exact h
theorem xz(r:Bool)(hl:eB r e.1<=125)(hz:es.length<=900):gam (n+3) "BidiStack" "isolate" [.e 0,.b r] (bW v::ents (e::es)::R)=some (.n,bW (v+1)::ents ((eB r e.1,true)::e::es)::R):=by
 obtain⟨x,H',h,rfl,rfl⟩:=nQ (n:=n+2) (c:="BidiStack") (f:="isolate") (ir:=HE) (args:=[.e 0,.b r]) (vs:=[.e 0,.b r]) (H:=bW v::ents (e::es)::R) (Q:=λx H'=>x=.n/\H'=bW (v+1)::ents ((eB r e.1,true)::e::es)::R) (by kernel_rfl) rfl rfl rfl (by
  show Ok (aF (gam<|n+2) AK [some<|.e 0,some<|.b r,none] _) _;unfold AK;refine aZ (v:=.i<|eB r e.1) (H1:=bW v::ents (e::es)::R) (kc (p:=.e 0) (H1:=bW v::ents (e::es)::R) rfl rfl (by decide) (aJ rfl bA)<|Nh r) ?_;refine bU (c:=true) (H':=bW v::ents (e::es)::R) (kc (p:=.e 0) (H1:=bW v::ents (e::es)::R) rfl rfl (by decide) (aJ rfl bA)<|Ni (n:=n+1) hl) (λU=>?_) tB;refine nP (cZ:=[some<|.e 0,some<|.b r,some<|.i<|eB r e.1]) (H':=bW (v+1)::ents (e::es)::R) (by kernel_rfl) ?_;refine eW (m:=1) (l1:=(e::es).reverse.map eG) (l2:=(e::es).reverse.map eG) (v:=eG (eB r e.1,true)) (H1:=bW (v+1)::ents (e::es)::R) (H2:=bW (v+1)::ents (e::es)::R) (dF dP rfl (by decide) rfl) rfl (bP (vs:=[.i<|eB r e.1,.n,.b true]) rfl<|Ng (n+1) (eB r e.1,true) _) rfl (by simp;exact F7 hz) ?_;refine cu ⟨rfl,?_⟩;show bW (v+1)::some (AO.l<|_++_)::R=_
  simp[ents])
 exact h
theorem DZ:((e::es).reverse.map eG).dropLast=es.reverse.map eG:=by simp
noncomputable def fS:List Ent->List Ent
 |[]=>[]
 |e::es=>if !e.2&&decide ((0:Int)<es.length)then es else e::es
theorem xI:gam (n+2) "BidiStack" "end_embedding" [.e 0] (bW v::ents (e::es)::R)=some (.n,bW v::ents (fS<|e::es)::R):=by
 obtain⟨x,H',h,rfl,rfl⟩:=nQ (n:=n+1) (c:="BidiStack") (f:="end_embedding") (ir:=HG) (args:=[.e 0]) (vs:=[.e 0]) (H:=bW v::ents (e::es)::R) (Q:=λx H'=>x=.n/\H'=bW v::ents (fS<|e::es)::R) (by kernel_rfl) rfl rfl rfl (by
  show Ok (aF (gam<|n+1) AM [some<|.e 0] _) _;unfold AM;refine bU (c:=false) (H':=bW v::ents (e::es)::R) (by kernel_rfl) nB λU=>?_;refine bU (c:=false) (H':=bW v::ents (e::es)::R) (by kernel_rfl) nB λU=>?_
  refine bU (c:=!e.2&&decide ((0:Int)<es.length)) (H':=bW v::ents (e::es)::R) (by
   refine rR pq<|rR hU<|rR yM<|rR (dF (p:=eG e) (v:=.b e.2) (H1:=bW v::ents (e::es)::R) (kc (p:=.e 0) (H1:=bW v::ents (e::es)::R) rfl rfl (by decide) bA yY) rfl (by decide) rfl) ?_
   simp only[Option.bind_some,fZ,Option.map_some]
   rw[hU,bu (p:=.i<|es.length+1) (q:=.i 1) (c:=decide<|(1:Int)<es.length+1) (H1:=bW v::ents (e::es)::R) (H2:=bW v::ents (e::es)::R) (by
    refine rR (xp (m:=1) (l:=(e::es).reverse.map eG) (dF dP rfl (by decide) rfl) rfl) ?_
    simp) rfl rfl]
   simp only[Option.bind_some,fZ,nR];have:decide ((1:Int)<es.length+1)=decide ((0:Int)<es.length):=by apply rh.mpr;exact Rf
   refine rR this ?_
   cases e.2<;>cases decide ((0:Int)<es.length)<;>rfl) (λhc=>?_) λhc=>cu ⟨rfl,by simp only[fS,hc];rfl⟩
  refine nT (v:=eG e) (H1:=bW v::ents es::R) ?_<|cu ⟨rfl,by simp only[fS,hc];rfl⟩
  refine rR (yW (m:=1) (l1:=(e::es).reverse.map eG) (v:=eG e) (dF dP rfl (by decide) rfl) rfl yX) (rR DZ ?_)
  rfl)
 exact h
end
noncomputable def eX:List Ent->List Ent
 |[]=>[]
 |e::es=>if e.2 then es else eX es
theorem xL{es:List Ent}{n:Nat}{R:ak}:gam (n+2) "BidiStack" "end_isolate" [.e 0] (bW 0::ents es::R)=some (.n,bW 0::ents es::R):=by kernel_rfl
theorem x'{es:List Ent}{n:Nat}{v:Int}{R:ak}(hv:0<v)(hi:es.any (·.2)=true)(hz:es.length<=900):gam (n+2) "BidiStack" "end_isolate" [.e 0] (bW v::ents es::R)=some (.n,bW (v-1)::ents (eX es)::R):=by
 obtain⟨x,H',h,rfl,rfl⟩:=nQ (n:=n+1) (c:="BidiStack") (f:="end_isolate") (ir:=HF) (args:=[.e 0]) (vs:=[.e 0]) (H:=bW v::ents es::R) (Q:=λx H'=>x=.n/\H'=bW (v-1)::ents (eX es)::R) (by kernel_rfl) rfl rfl rfl (by
  show Ok (aF (gam<|n+1) AL [some<|.e 0] _) _;unfold AL;refine bU (c:=false) (H':=bW v::ents es::R) (by kernel_rfl) nB λU=>?_;refine bU (c:=decide<|0<v) (H':=bW v::ents es::R) (bu (p:=.i v) (q:=.i 0) (dF dP rfl (by decide) rfl) rfl rfl) (λU=>?_) λh=>by simp[hv]at h
  refine nP (cZ:=[some<|.e 0]) (H':=bW v::ents es::R) (by kernel_rfl) ?_;refine yK (m:=es.length) (λm ae H=>∃es1,es1.any (·.2)=true/\eX es1=eX es/\es1.length=m/\ae=[some<|.e 0]/\H=bW v::ents es1::R) (wF es hi rfl rfl rfl rfl) (Rg hz) λm ae H hI=>?_;refine Fb hI λes1 h1 h2 h3 aQ aR=>?_;subst aQ;subst aR
  induction es1 using b9 with
  |nil=>simp at h1
  |cons e es1=>
   refine⟨!e.2,bW v::ents (e::es1)::R,by
    refine rR yM (rR (dF (p:=eG e) (v:=.b e.2) (H1:=bW v::ents (e::es1)::R) (kc (p:=.e 0) (H1:=bW v::ents (e::es1)::R) rfl rfl (by decide) bA yY) rfl (by decide) rfl) ?_)
    rfl,λhc=>?_,λhc=>?_⟩
   ·rw[k9]at hc;refine aA es1.length (by refine rL h3 ?_;rfl) ?_
    refine nT (v:=eG e) (H1:=bW v::ents es1::R) (by
     refine rR (yW (m:=1) (l1:=(e::es1).reverse.map eG) (v:=eG e) (dF dP rfl (by decide) rfl) rfl yX) (rR DZ ?_)
     rfl)<|cu ?_
    refine PG es1.length (bY _) es1 (by simpa[hc]using h1) ?_ rfl rfl rfl;refine rL h2 ?_;simp[eX,hc]
   ·rw[tH]at hc
    refine nT (v:=eG e) (H1:=bW v::ents es1::R) (by
     refine rR (yW (m:=1) (l1:=(e::es1).reverse.map eG) (v:=eG e) (dF dP rfl (by decide) rfl) rfl yX) (rR DZ ?_)
     rfl) ?_
    refine nP (cZ:=[some<|.e 0]) (H':=bW (v-1)::ents es1::R) (by kernel_rfl)<|cu ⟨rfl,?_⟩
    refine rL h2 ?_
    simp[eX,hc])
 exact h
theorem yA(n:Nat)(base:Int):gam (n+2) "" "BidiStack" [.i base,.i 125] []=some (.e 0,[bW 0,ents [(base,false)]]):=by kernel_rfl
noncomputable def gb(k:String):Bool:=k=="LRI"||k=="RLI"||k=="FSI"
def iV(k:String)(i:Nat)(s:aG×List (Nat×Nat)):aG×List (Nat×Nat):=
 if gb k then(i::s.1,s.2)else if k=="PDI" then(match s.1 with
  |[]=>s
  |b::w=>(w,(b,i)::s.2))else s
def eY(ks:aY):Nat->aG×List (Nat×Nat)
 |0=>([],[])
 |i+1=>iV (ks.getD i "") i<|eY ks i
theorem yB{ks:aY}{i:Nat}:eY ks (i+1)=iV (ks.getD i "") i (eY ks i):=rfl
noncomputable def gc:List (Nat×Nat)->Int->bK
 |[]=>λU=>none
 |(b,e)::r=>λx=>if x=(e:Int)then some (b:Int)else if x=(b:Int)then some (e:Int)else gc r x
noncomputable def aE(i:Nat):PV:=.i i
noncomputable def bQ(s:String):PV:=.s s
theorem jH(ks:aY):bT (ks.map bQ):=λx hx=>by(refine aC (bV.mp hx) λs U aT=>?_;clear hx;subst aT);exact⟨s,rfl⟩
theorem Nj{ks:aY}{i:Nat}{x:PV}(h:(ks.map bQ)[i]?=some x):x=.s (ks.getD i ""):=by rw[cQ]at h;refine aC (gV.mp h) λs hs aL=>?_;clear h;subst aL;rw[fV,hs];rfl
set_option tactic.hygienic true in
theorem Nk(ks:aY):∀i,(eY ks i).1.length+2*(eY ks i).2.length<=2*i/\(eY ks i).1.length+(eY ks i).2.length<=i
 |0=>by simp[show eY ks 0=([],[])from rfl]
 |i+1=>by
  have ih:=Nk ks i;simp only[yB,iV];split
  ·simp only[List.length_cons];exact Rh ih
  ·split
   ·split
    ·exact F8 ih
    ·rename_i b w e;rw[e]at ih;simp only[List.length_cons]at ih⊢;exact Rj ih
   ·exact F8 ih
theorem ne_nil{H:ak}{m:Nat}{w:au}(h:H[m]?=some (some<|.l w))(hw:dJ w):cE H .n (.e m) (.l [])=some (!w.isEmpty):=by
 have e1:view H (.e m)=.l w:=by simp only[view,h]
 have e2:simple 4 (.l w)=true:=by show w.all (simple 3)=true;rw[gj];intro x hx;refine X1 (hw x hx) λi aM=>?_;clear hx;subst aM;rfl
 show(if mj H (.e m) (.l [])=true then some (!fj (view H<|.e m) (view H<|.l []))else none)=_;have e3:mj H (.e m) (.l [])=true:=by unfold mj;refine rR e1 (rR e2 ?_);rfl
 refine rR (bw e3)<|rR e1 ?_
 clear h hw e1 e2
 induction w using b9<;>rfl
theorem ints_of(w:aG):dJ (w.map aE):=λx hx=>by(refine aC (bV.mp hx) λs U aP=>?_;clear hx;subst aP);exact⟨s,rfl⟩
def iC(m:Nat)(s:aG×List (Nat×Nat)):ak:=[some<|.i m<|gc s.2,some<|.l<|s.1.reverse.map aE]
theorem Nl{k:String}:gb k=true↔k="LRI"\/k="RLI"\/k="FSI":=by simp[gb,Bool.or_eq_true,or_assoc]
theorem vn{H:ak}{k:String}:cE H .i (.s k) iM=some (gb k):=by
 refine rR ul<|rR gT ?_
 congr 1;rw[Bool.eq_iff_iff,Nl];simp
set_option tactic.hygienic true in
theorem y0{n i m:Nat}{k:String}{w:aG}{ps:List<|Nat×Nat}{ae:bf}{T:bf->ak->Prop}(hB:k≠"B")(hw:w.length<=900)(hm:m<=900)(v1:ae[1]?=some (some<|.e 0))(v2:ae[2]?=some (some<|.e 1))(v3:ae[3]?=some (some<|.i i))(v4:ae[4]?=some (some<|.s k))(h5:ae.length=6)
  (K:∀x m',m'<=m+2->T (ae.set 5 x) (iC m'<|iV k i (w,ps))):Ok (aF (gam n) [.i (.m .i (.v 4)<|.g "INITIATORS" iM)
   [.x<|.q (.v 2)<|.v 3]
   [.i (.a true [.m .e (.v 4)<|.c<|.s "PDI",.m .n (.v 2)<|.l []])
    [.a 5<|.u<|.v 2,
    .t (.v 1) (.v 5) (.v 3),
    .t (.v 1) (.v 3) (.v 5)]
    [.i (.m .e (.v 4)<|.g "SEPARATOR" qd)
     [.a 2<|.e []]
     []]]] ae<|iC m (w,ps)) (Nx T):=by
 refine X1 (h_ (l:=ae) (i:=5)<|by refine rR h5 ?_;decide) λo5 v5=>?_;have K0:∀m',m'<=m+2->T ae (iC m'<|iV k i (w,ps)):=λm' h=>by
  have:=K o5 m' h
  rwa[show ae.set 5 o5=ae by
   refine List.ext_getElem? λj=>?_;by_cases e:5=j
   ·subst e;rw[jL<|cH v5,v5]
   ·rw[jr e]]at this
 have lk:∀{j:Nat}{x:bR}{v:PV},5≠j->ae[j]?=some (some v)->(ae.set 5 x)[j]?=some (some v):=λh e=>by rw[jr h];exact e
 refine bU (c:=gb k) (H':=iC m (w,ps)) (bu (q:=iM) (bq v4) rfl vn) (λhk=>?_) λhk=>?_
 ·have e1:iV k i (w,ps)=(i::w,ps):=bw hk;rw[e1]at K0;refine eW (m:=1) (l1:=w.reverse.map aE) (l2:=w.reverse.map aE) (v:=.i i) (H1:=iC m (w,ps)) (H2:=iC m (w,ps)) (bq v2) rfl (bq v3) rfl (by(rewrite[bI];refine rR List.length_reverse ?_);exact rq hw)<|cu ?_
  have:=K0 m<|jt _ _
  unfold iC at this;rw[pS,kB]at this;exact this
 ·have hnk:¬gb k=true:=by refine rR hk ?_;exact gE
  have ew:(w.reverse.map aE).isEmpty=w.isEmpty:=by clear hw K K0;induction w using b9<;>simp
  refine bU (c:=decide (k="PDI")&&!w.isEmpty) (H':=iC m (w,ps)) (f_ (bu (p:=.s k) (q:=.s "PDI") (bq v4) cL rfl) λU=>bu (p:=.e 1) (q:=.l []) (bq v2) rfl<|by refine rL ew ?_;exact ne_nil rfl<|ints_of _) (λhc=>?_) λhc=>?_
  ·rw[cy,ff,k9]at hc;refine U1 hc λaN hne=>?_;clear hB v4 hk;subst aN
   induction w using b9 with
   |nil=>exact tB hne
   |cons b w=>
    have e1:iV "PDI" i (b::w,ps)=(w,(b,i)::ps):=(bO hnk).trans<|bw rfl
    rw[e1]at K
    refine aZ (v:=.i b) (H1:=iC m (w,ps)) (by
     refine rR (yW (m:=1) (l1:=(b::w).reverse.map aE) (v:=.i b) (H1:=iC m (b::w,ps)) (bq v2) rfl<|by simp[aE]) ?_
     simp[iC]) ?_
    have Nm:(ae.set 5<|some<|.i b)[5]?=some (some<|PV.i b):=jL<|by refine rR h5 ?_;decide
    refine DV (m:=0) (k:=b) (j:=i) (n:=m) (f:=gc ps) (H1:=iC m (w,ps)) (H2:=iC m (w,ps)) (H3:=iC m (w,ps)) (bq<|lk (by decide) v3) (bq<|lk (by decide) v1) (bq Nm) rfl (rq hm) ?_;exact DV (m:=0) (k:=i) (j:=b) (n:=m+1) (f:=λx=>if x=(b:Int)then some (i:Int)else gc ps x) (H1:=[some (.i (m+1) λx=>if x=(b:Int)then some (i:Int)else gc ps x),some<|.l<|w.reverse.map aE]) (H2:=[some (.i (m+1) λx=>if x=(b:Int)then some (i:Int)else gc ps x),some<|.l<|w.reverse.map aE]) (H3:=[some (.i (m+1) λx=>if x=(b:Int)then some (i:Int)else gc ps x),some<|.l<|w.reverse.map aE]) (bq Nm) (bq<|lk (by decide) v1) (bq<|lk (by decide) v3) rfl (Rk hm)<|cu<|K _ (m+2) (bY _)
  ·have e1:iV k i (w,ps)=(w,ps):=by
    unfold iV;refine rR (bO hnk) ?_;split
    ·rename_i hq;rw[di<|gQ.mp hq,qY,tH,lh]at hc;exact rR hc rfl
    ·rfl
   rw[e1]at K0;exact bU (c:=false) (H':=iC m (w,ps)) (bu (p:=.s k) (q:=.s "B") (bq v4) rfl<|by show some (decide<|k="B")=some false;exact rR (dG hB) rfl) nB λU=>cu<|K0 m<|jt _ _
theorem D0(n:Nat){ks:aY}(hB:"B"∉ks)(hb:ks.length<=400)(H:ak):gam (n+1) "" "isolate_pairs" [.l<|ks.map bQ] H=some (.d<|gc (eY ks ks.length).2,H):=by
 refine qA (ir:=Hw) (vs:=[.l<|ks.map bQ]) (by kernel_rfl) rfl rfl rfl (by simp[(jH ks).fz]) λT K=>?_;show Ok (aF (gam n) AA [some<|.l<|ks.map bQ,none,none,none,none,none] []) T;unfold AA;refine aZ (v:=.e 0) (H1:=[some (.i 0 λU=>none)]) rfl ?_;refine aZ (v:=.e 1) (H1:=iC 0 ([],[])) rfl ?_;refine lK (λ(U:Nat) (z:bR×bR×bR)=>[some<|.l<|ks.map bQ,some<|.e 0,some<|.e 1,z.1,z.2.1,z.2.2]) (λi m U=>iC m<|eY ks i) (λi m U=>m<=2*i) 0 (none,none,none)
  rfl rfl ji (bY _) (λi x m z hx hm T k=>?_) (λm z hm=>?_)
 ·(refine aC (j6 hx) λv hv aQ=>?_;clear hx;subst aQ)
  have hi:=cH hv;rw[bI]at hi;obtain rfl:=Nj hv;have zi:ks.getD i ""≠"B":=λq=>hB (q▸by rw[fV,eE hi];exact tP hi);have hp:=(Nk ks i).2;exact aA _ rfl (y0 (i:=i) (w:=(eY ks i).1) (ps:=(eY ks i).2) zi (Rm hb hi hp) (Rn hb hm hi) rfl rfl rfl rfl rfl λx m' h=>k m' (_,_,x)<|eR h<|Nat.add_le_add_right hm 2)
 ·(refine rR mP ?_;rewrite[bI])
  exact bX (v:=.e 0) rfl<|K _ _ _ rfl
noncomputable def fc:List Ent->Int
 |[]=>0
 |e::_=>e.1
def fT(es:List Ent):List Ent:=if es.any (·.2)then eX es else es
noncomputable def kQ(k:String):Bool:=k=="RLE"||k=="LRE"||k=="PDF"||k=="BN"
def fH(k:String)(es:List Ent):List Ent:=
 if k="RLE"\/k="LRE" then(eB (k=="RLE")<|fc es,false)::es
 else if k="PDF" then fS es
 else if k="PDI" then fT es
 else if gb k then(eB (k=="RLI")<|fc es,true)::es else es
def kR(k:String)(es:List Ent):bK:=if kQ k then none else some (fc (if k="PDI" then fT es else es))
def gK(ks:aY)(base:Int):Nat->List Ent
 |0=>[(base,false)]
 |t+1=>fH (ks.getD t "")<|gK ks base t
def eM(ks:aY)(base:Int)(t:Nat):bK:=kR (ks.getD t "")<|gK ks base t
noncomputable def aD:bK->PV
 |none=>.n
 |some i=>.i i
noncomputable def cnt(es:List Ent):Int:=(es.countP (·.2):Nat)
noncomputable def nV(k:String):Prop:=k≠"B"/\k≠"FSI"/\k≠"RLO"/\k≠"LRO"
set_option tactic.hygienic true in
theorem Nn:∀{es:List Ent},es.any (·.2)=true->cnt (eX es)=cnt es-1
 |[],h=>by simp at h
 |e::es,h=>by
  unfold cnt eX;refine rR tK ?_;split
  ·rename_i h';simp
  ·rename_i h';have:es.any (·.2)=true:=by simpa[h']using h
   have ih:=Nn this;unfold cnt at ih;simp[ih]
theorem Np{es:List Ent}:es.any (·.2)=true↔0<cnt es:=by unfold cnt;rw[show((0:Int)<((es.countP (·.2):Nat):Int))↔0<es.countP (·.2)from Ro,List.countP_pos_iff,List.any_eq_true]
theorem Nq:∀(es:List Ent),(eX es).length<=es.length
 |[]=>bY _
 |e::es=>by have:=Nq es;unfold eX;split<;>simp only[List.length_cons]<;>(first|lia|omega)
theorem Nr(es:List Ent):(fT es).length<=es.length:=by have:=Nq es;unfold fT;split<;>(first|lia|omega)
noncomputable def fu(base:Int)(es:List Ent):Prop:=∃pre,es=pre++[(base,false)]
theorem fu.ne{base:Int}{es:List Ent}(h:fu base es):∃e r,es=e::r:=by
 refine X1 h λpre aR=>?_;subst aR
 induction pre using b9 with
 |nil=>exact I2 _ _ rfl
 |cons a t=>exact I2 a _ rfl
theorem fu.push{base:Int}{es:List Ent}(h:fu base es)(e:Ent):fu base (e::es):=by refine X1 h λpre aT=>?_;clear h;subst aT;exact⟨e::pre,rfl⟩
set_option tactic.hygienic true in
theorem fu.eX{base:Int}:∀{es:List Ent},fu base es->es.any (·.2)=true->fu base (eX es)
 |[],h,_=>by(revert h;refine Y1 λpre h=>?_);simp at h
 |e::es,h,ha=>by
  have hb:es.any (·.2)=true\/e.2=true:=by simp only[List.any_cons,Bool.or_eq_true]at ha;exact ha.symm
  have hes:fu base es:=by
   revert h;refine Y1 λpre h=>?_
   induction pre using b9 with
   |nil=>
    simp only[List.nil_append,List.cons.injEq]at h;refine U1 h λaL aM=>?_;clear ha h;subst aL;subst aM;simp at hb
   |cons a t=>
    simp only[List.cons_append,List.cons.injEq]at h;exact⟨t,h.2⟩
  unfold Mine.eX;split
  ·exact hes
  ·rename_i hn;exact fu.eX hes<|hb.resolve_right hn
set_option tactic.hygienic true in
theorem fu.fT{base:Int}{es:List Ent}(h:fu base es):fu base (fT es):=by
 unfold Mine.fT;split
 ·rename_i h';exact h.eX h'
 ·exact h
theorem fu.fS{base:Int}{es:List Ent}(h:fu base es):fu base (fS es):=by
 refine X1 h λpre aP=>?_;subst aP
 induction pre using b9 with
 |nil=>exact⟨[],rfl⟩
 |cons a t=>
  simp only[List.cons_append,Mine.fS];split
  ·exact⟨t,rfl⟩
  ·exact⟨a::t,rfl⟩
theorem fu.step{base:Int}{es:List Ent}(h:fu base es)(k:String):fu base (fH k es):=by
 unfold fH;split
 ·exact h.push _
 ·split
  ·exact h.fS
  ·split
   ·exact h.fT
   ·split
    ·exact h.push _
    ·exact h
theorem vp(ks:aY)(base:Int):∀t,fu base<|gK ks base t
 |0=>⟨[],rfl⟩
 |t+1=>(vp ks base t).step _
noncomputable def Lb(a b:Int)(es:List Ent):Prop:=∀e∈es,a<=e.1/\e.1<=b
theorem Nt:∀{es:List Ent}{e:Ent},e∈eX es->e∈es
 |[],e,h=>h
 |a::es,e,h=>by
  unfold eX at h;split at h
  ·exact dh _ h
  ·exact dh _ (Nt h)
theorem D3{es:List Ent}{e:Ent}(h:e∈fT es):e∈es:=by
 unfold fT at h;split at h
 ·exact Nt h
 ·exact h
theorem zn{es:List Ent}{e:Ent}(h:e∈fS es):e∈es:=by
 induction es using b9 with
 |nil=>exact h
 |cons a t=>
  simp only[fS]at h;split at h
  ·exact dh _ h
  ·exact h
theorem vq(r:Bool)(l:Int):l+1<=eB r l/\eB r l<=l+2:=by unfold eB;split<;>(first|lia|omega)
theorem yZ{base:Int}{es:List Ent}(h:fu base es):∃e∈es,fc es=e.1:=by refine X2 h.ne λe r aN=>?_;clear h;subst aN;exact aA e cR rfl
theorem Lb.step{base a b:Int}{es:List Ent}(h:Lb a b es)(hb:fu base es)(k:String):Lb a (b+2) (fH k es):=by
 refine aC (yZ hb) λe0 h0 e1=>?_;have ht:=h e0 h0;rw[<-e1]at ht;have old:∀e∈es,a<=e.1/\e.1<=b+2:=λe he=>by have:=h e he;exact Vf this
 have push:∀r i,Lb a (b+2) ((eB r<|fc es,i)::es):=λr i e he=>by
  rcases eO.mp he with rfl|he
  ·have:=vq r<|fc es;dsimp only;exact Vg ht this
  ·exact old e he
 unfold fH;split
 ·exact push _ _
 ·split
  ·exactλe he=>old e<|zn he
  ·split
   ·exactλe he=>old e<|D3 he
   ·split
    ·exact push _ _
    ·exact old
theorem y9(ks:aY)(base:Int):∀t:Nat,Lb base (base+2*t)<|gK ks base t
 |0=>λe he=>by rw[show gK ks base 0=[(base,false)]from rfl,dO]at he;subst he;dsimp only;exact Vh
 |t+1=>by
  have:=(y9 ks base t).step (vp ks base t)<|ks.getD t ""
  rw[show base+2*(t:Int)+2=base+2*((t+1:Nat):Int)from VU]at this;exact this
theorem zr(k:String)(es:List Ent):(fH k es).length<=es.length+1:=by
 have h1:=Nr es;have h2:(fS es).length<=es.length:=by
  induction es using b9 with
  |nil=>exact bY _
  |cons a t=>simp only[fS];split<;>simp
 unfold fH;split
 ·simp
 ·split
  ·exact l8 h2
  ·split
   ·exact l8 h1
   ·split
    ·simp
    ·exact Rp
theorem Nu(ks:aY)(base:Int):∀t,(gK ks base t).length<=t+1
 |0=>bY _
 |t+1=>by
  have h1:=Nu ks base t;have h2:=zr (ks.getD t "")<|gK ks base t
  refine rR (show gK ks base (t+1)=fH (ks.getD t "") (gK ks base t)from rfl) ?_;exact Rq h1 h2
theorem Nv(ks:aY)(base:Int)(t:Nat){l:Int}(h:eM ks base t=some l):base<=l/\l<=base+2*t:=by
 unfold eM kR at h;split at h
 ·exact nN h
 ·obtain rfl:=aK h;split
  ·refine aC (yZ (vp ks base t).fT) λe h1 h2=>?_;refine rR h2 ?_;exact y9 ks base t e<|D3 h1
  ·refine aC (yZ<|vp ks base t) λe h1 h2=>?_;refine rR h2 ?_;exact y9 ks base t e h1
theorem zs(n:Nat){l:au}{i:Nat}{k:String}{p:PV}(hl:bT l)(hk:l[i]?=some (.s k))(hF:k≠"FSI")(hp:fz 8 p=true)(H:ak):gam (n+1) "" "bidi_is_right_isolate" [.l l,.i i,p] H=some (.b<|k=="RLI",H):=by
 refine dX (ir:=HJ) (vs:=[.l l,.i i,p]) (by kernel_rfl) rfl rfl rfl (by simp[hl.fz,hp,dj]) ?_;show Ok (aF (gam n) AQ [some<|.l l,some<|.i i,some p,none] []) _;unfold AQ;have hi:az (gam n) (.d (.v 0)<|.v 1) [some<|.l l,some<|.i i,some p,none] []=some (.s k,[]):=e_idx (p:=.l l) (q:=.i i) rfl rfl<|dB hk
 refine bU (c:=true) (H':=[]) (bu hi cL<|by show some (!decide (k="FSI"))=some true;simp[hF]) (λU=>?_) tB;exact bX (v:=.b<|k=="RLI") (H':=[]) (bu hi cL rfl) rfl
theorem D4(f:Int->bK)(n:Nat):fz n (.d f)=true:=by induction n using gD<;>rfl
abbrev zt:List CS:=[.i (.m .i (.v 8)<|.g "REMOVED" oK)
   [.x<|.q (.v 5)<|.c .n,
   .x (.q (.v 6)<|.c<|.s "BN"),
   .i (.m .i (.v 8)<|.g "EMBEDDINGS" rG)
    [.a 9<|.a false [.m .e (.v 8)<|.c<|.s "RLE",.m .e (.v 8)<|.c<|.s "RLO"],
    .a 10 (.i (.a false [.m .e (.v 8)<|.c<|.s "RLO",.m .e (.v 8)<|.c<|.s "LRO"]) (.i (.v 9) (.c<|.s "R")<|.c<|.s "L")<|.c .n),
    .x (.j (.v 3) "embed" [.v 9,.v 10])]
    [.i (.m .e (.v 8)<|.c<|.s "PDF")
     [.x<|.j (.v 3) "end_embedding" []]
     []]]
   [.i (.m .e (.v 8)<|.g "SEPARATOR" qd)
    [.x<|.q (.v 5)<|.v 1,
    .x (.q (.v 6)<|.v 8)]
    [.i (.m .e (.v 8)<|.c<|.s "PDI")
     [.x<|.j (.v 3) "end_isolate" []]
     [],
    .a 11 (.j (.v 3) "last" []),
    .x (.q (.v 5)<|.f (.v 11) "level"),
    .x (.q (.v 6)<|.i (.m .t (.f (.v 11) "override")<|.c .n) (.f (.v 11) "override")<|.v 8),
    .i (.m .i (.v 8)<|.g "INITIATORS" iM)
     [.x<|.j (.v 3) "isolate" [.h "bidi_is_right_isolate" [.v 0,.v 7,.v 4]]]
     []]]]
noncomputable def qF(l:au)(base:Int)(pf:Int->bK)(x y a b c:bR):bf:=[some<|.l l,some<|.i base,some<|.i 125,some<|.e 0,some<|.d pf,some<|.e 2,some<|.e 3,x,y,a,b,c]
def dc(es:List Ent)(lv cl:au):ak:=[bW<|cnt es,ents es,some<|.l lv,some<|.l cl]
section
variable {n:Nat}{l:au}{base:Int}{i:Nat}{k:String}{pf:Int->bK}{es:List Ent}{lv cl:au}{x a b c:bR}{T:bf->ak->Prop}
set_option tactic.hygienic true in
theorem z'(es:List Ent):cnt (fS es)=cnt es:=by
 induction es using b9 with
 |nil=>rfl
 |cons e r=>
  show cnt (if _ then r else e::r)=_;split
  ·rename_i h;rw[cy,k9]at h;unfold cnt;refine rR tK<|rR h.1 ?_;rfl
  ·rfl
theorem Ap(jI:fu base es)(htop:fc es<=100)(hes:es.length<=800)(gJ:lv.length<=800)(hcl:cl.length<=800)(nW:k≠"RLO")(pD:k≠"LRO")(hr:kQ k=true)(K:∀a b c,T (qF l base pf x (some<|.s k) a b c)<|dc (fH k es) (lv++[PV.n])<|cl++[PV.s "BN"]):
  Ok (aF (gam<|n+3) [.x<|.q (.v 5)<|.c .n,
   .x (.q (.v 6)<|.c<|.s "BN"),
   .i (.m .i (.v 8)<|.g "EMBEDDINGS" rG)
    [.a 9<|.a false [.m .e (.v 8)<|.c<|.s "RLE",.m .e (.v 8)<|.c<|.s "RLO"],
    .a 10 (.i (.a false [.m .e (.v 8)<|.c<|.s "RLO",.m .e (.v 8)<|.c<|.s "LRO"]) (.i (.v 9) (.c<|.s "R")<|.c<|.s "L")<|.c .n),
    .x (.j (.v 3) "embed" [.v 9,.v 10])]
    [.i (.m .e (.v 8)<|.c<|.s "PDF")
     [.x<|.j (.v 3) "end_embedding" []]
     []]] (qF l base pf x (some<|.s k) a b c)<|dc es lv cl) (Nx T):=by
 refine eW (m:=2) (l1:=lv) (l2:=lv) (v:=.n) (H1:=dc es lv cl) (H2:=dc es lv cl) rfl rfl rfl rfl (wR gJ) ?_;refine eW (m:=3) (l1:=cl) (l2:=cl) (v:=.s "BN") (H1:=dc es (lv++[PV.n]) cl) (H2:=dc es (lv++[PV.n]) cl) rfl rfl rfl rfl (wR hcl) ?_;show Ok (aF _ _ _ (dc es (lv++[PV.n])<|cl++[PV.s "BN"])) _;refine bU (c:=decide<|k∈["RLE","LRE","RLO","LRO"]) (H':=dc es (lv++[PV.n])<|cl++[PV.s "BN"]) (bu (p:=.s k) (q:=rG) rfl rfl<|by exact rR uk<|rR gT rfl) (λhc=>?_) λhc=>?_
 ·have hk:k="RLE"\/k="LRE":=by have:=cG hc;simp only[List.mem_cons,List.not_mem_nil,or_false,nW,pD]at this;exact this
  have hst:fH k es=(eB (k=="RLE")<|fc es,false)::es:=bw hk;rw[hst]at K;have e8:∀(s:String) ae H,ae[8]?=some (some<|.s k)->az (gam<|n+3) (.m .e (.v 8)<|.c<|.s s) ae H=some (.b<|decide<|k=s,H):=λs ae H h=>bu (p:=.s k) (q:=.s s) (bq h) cL rfl;refine aZ (v:=.b<|k=="RLE") (H1:=dc es (lv++[PV.n])<|cl++[PV.s "BN"]) ((pB (e8 _ _ _ rfl) λU=>e8 _ _ _ rfl).trans<|by(refine rR (dG nW) ?_;rewrite[Bool.or_false]);rfl) ?_;refine aZ (v:=.n) (H1:=dc es (lv++[PV.n])<|cl++[PV.s "BN"]) (iB (c:=false) ((pB (e8 _ _ _ rfl) λU=>e8 _ _ _ rfl).trans<|by refine rR (dG nW)<|rR (dG pD) ?_;rfl) nB λU=>cL) ?_;refine X2 jI.ne λe r aQ=>?_;clear jI hst;subst aQ;have hf:=vq (k=="RLE") e.1
  exact nT (v:=.n) (H1:=[bW<|cnt<|e::r,ents<|(eB (k=="RLE") e.1,false)::e::r,some<|.l<|lv++[PV.n],some<|.l<|cl++[PV.s "BN"]]) (kc (p:=.e 0) (vs:=[.b<|k=="RLE",.n]) (H1:=dc (e::r) (lv++[PV.n])<|cl++[PV.s "BN"]) rfl rfl (by decide) rfl (xt _ (by
   simp only[fc]at htop;exact GR htop hf) (by simp only[List.length_cons]at hes;exact F9 hes)))<|cu<|K _ _ _
 ·have hk:¬(k="RLE"\/k="LRE"):=by have:=lW hc;simp only[List.mem_cons,List.not_mem_nil,or_false,nW,pD]at this;exact this
  refine bU (c:=decide<|k="PDF") (H':=dc es (lv++[PV.n])<|cl++[PV.s "BN"]) rfl (λhc3=>?_) λhc3=>?_
  ·have hst:fH k es=fS es:=(bO hk).trans<|bw<|cG hc3
   rw[hst]at K;refine X2 jI.ne λe r aR=>?_;clear jI htop hes hst;subst aR;refine nT (v:=.n) (H1:=dc (fS<|e::r) (lv++[PV.n])<|cl++[PV.s "BN"]) (kc (p:=.e 0) (vs:=[]) (H1:=dc (e::r) (lv++[PV.n])<|cl++[PV.s "BN"]) rfl rfl (by decide) bA ?_)<|cu<|K _ _ _
   unfold dc;rw[z'];exact xI (n:=n+1)
  ·have At:k="BN":=by have y_:=lW hc3;simp only[kQ,Bool.or_eq_true,beq_iff_eq,hk,y_,false_or]at hr;exact hr
   clear nW pD hr hc hk hc3;subst At;exact cu<|K _ _ _
theorem AC(b:Bool)(v:Int)(es:List Ent):cnt ((v,b)::es)=cnt es+(if b then 1 else 0):=by
 unfold cnt;refine rR tK ?_
 induction b using cP<;>rfl
theorem Ny(hl:bT l)(hk:l[i]?=some (.s k))(hF:k≠"FSI")(jI:fu base es)(htop:fc es<=100)(hes:es.length<=800)(gJ:lv.length<=800)(hcl:cl.length<=800)
  (K:∀a b c,T (qF l base pf (some<|.i i) (some<|.s k) a b c)<|dc (if gb k then(eB (k=="RLI")<|fc es,true)::es else es) (lv++[PV.i<|fc es])<|cl++[PV.s k]):
  Ok (aF (gam<|n+3) [.a 11<|.j (.v 3) "last" [],
    .x (.q (.v 5)<|.f (.v 11) "level"),
    .x (.q (.v 6)<|.i (.m .t (.f (.v 11) "override")<|.c .n) (.f (.v 11) "override")<|.v 8),
    .i (.m .i (.v 8)<|.g "INITIATORS" iM)
     [.x<|.j (.v 3) "isolate" [.h "bidi_is_right_isolate" [.v 0,.v 7,.v 4]]]
     []] (qF l base pf (some<|.i i) (some<|.s k) a b c)<|dc es lv cl) (Nx T):=by
 refine X2 jI.ne λe r aT=>?_;clear jI;subst aT;refine aZ (v:=eG e) (H1:=dc (e::r) lv cl) (kc (p:=.e 0) (vs:=[]) (H1:=dc (e::r) lv cl) rfl rfl (by decide) bA<|yY (n:=n+2)) ?_;refine eW (m:=2) (l1:=lv) (l2:=lv) (v:=.i e.1) (H1:=dc (e::r) lv cl) (H2:=dc (e::r) lv cl) rfl rfl (dF (p:=eG e) (H1:=dc (e::r) lv cl) rfl rfl (by decide) rfl) rfl (wR gJ) ?_;show Ok (aF _ _ _ (dc (e::r) (lv++[PV.i e.1]) cl)) _;refine eW (m:=3) (l1:=cl) (l2:=cl) (v:=.s k) (H1:=dc (e::r) (lv++[PV.i e.1]) cl) (H2:=dc (e::r) (lv++[PV.i e.1]) cl) rfl rfl (iB (c:=false) (bu (p:=.n) (q:=.n) (H1:=dc (e::r) (lv++[PV.i e.1]) cl) (dF (p:=eG e) (H1:=dc (e::r) (lv++[PV.i e.1]) cl) rfl rfl (by decide) rfl) cL rfl) nB λU=>rfl) rfl (wR hcl) ?_;show Ok (aF _ _ _ (dc (e::r) (lv++[PV.i e.1])<|cl++[PV.s k])) _;refine bU (c:=gb k) (H':=dc (e::r) (lv++[PV.i e.1])<|cl++[PV.s k]) (bu (p:=.s k) (q:=iM) rfl rfl vn) (λhi=>?_) λhi=>?_
 ·rw[bw hi]at K;have hf:=vq (k=="RLI") e.1
  refine nT (v:=.n) (H1:=[bW<|cnt (e::r)+1,ents<|(eB (k=="RLI") e.1,true)::e::r,some<|.l<|lv++[PV.i e.1],some<|.l<|cl++[PV.s k]]) (kc (p:=.e 0) (vs:=[.b<|k=="RLI"]) (H1:=dc (e::r) (lv++[PV.i e.1])<|cl++[PV.s k]) rfl rfl (by decide)
   (aJ (bP (vs:=[.l l,.i i,.d pf]) rfl<|zs (n+2) hl hk hF (D4 _ _) _) bA) (xz _ (by
   simp only[fc]at htop;exact GR htop hf) (by simp only[List.length_cons]at hes;exact F9 hes)))<|cu ?_
  have:=K a b<|some<|eG e
  unfold dc at this;rw[AC]at this;exact this
 ·rw[bO<|by refine rR hi ?_;exact gE]at K;exact cu<|K _ _ _
theorem Bi(h:¬es.any (·.2)=true):cnt es=0:=
 kq (Int.not_lt.mp λq=>h<|Np.mpr q) (iY _)
set_option tactic.hygienic true in
theorem Bn(hl:bT l)(hk:l[i]?=some (.s k))(hK:nV k)(jI:fu base es)(hall:∀e∈es,e.1<=100)(hes:es.length<=800)(gJ:lv.length<=800)(hcl:cl.length<=800)
  (K:∀a b c s,T (qF l base pf (some<|.i i) (some<|.s k) a b c)<|dc (fH k es) (lv++[aD<|kR k es])<|cl++[.s s]):
  Ok (aF (gam<|n+3) zt (qF l base pf (some<|.i i) (some<|.s k) a b c)<|dc es lv cl) (Nx T):=by
 refine U3 hK λhB hF nW pD=>?_;have top:∀{D5},fu base D5->(∀e∈D5,e∈es)->fc D5<=100:=λhb hm=>by refine aC (yZ hb) λe h1 h2=>?_;refine rR h2 ?_;exact hall e<|hm e h1
 refine bU (c:=kQ k) (H':=dc es lv cl) (bu (p:=.s k) (q:=oK) rfl rfl (by
  refine rR M7<|rR gT ?_
  congr 1;rw[Bool.eq_iff_iff]
  simp only[decide_eq_true_iff,List.mem_cons,List.not_mem_nil,or_false,nW,pD,false_or,kQ,Bool.or_eq_true,beq_iff_eq,or_assoc])) (λhr=>?_) λhr=>?_
 ·have qG:kR k es=none:=bw hr;rw[qG]at K;exact Ap jI (top jI λU h=>h) hes gJ hcl nW pD hr λa b c=>K a b c _
 ·refine bU (c:=decide<|k="B") (H':=dc es lv cl) rfl (λh=>absurd (cG h) hB) λU=>?_;have iS:=hr;simp only[kQ,Bool.or_eq_false_iff,beq_eq_false_iff_ne]at iS;refine U1 iS λaL n6=>?_;revert aL;refine V1 λaM n5=>?_;revert aM;refine V1 λn1 n2=>?_;have hst:fH k es=if k="PDI" then fT es else if gb k then(eB (k=="RLI")<|fc es,true)::es else es:=by unfold fH;exact rR (bO λh=>h.elim n1 n2)<|rR (bO n5) rfl
  have qG:kR k es=some (fc (if k="PDI" then fT es else es)):=by unfold kR;exact rR (bO<|by rw[hr];exact gE) rfl
  rw[hst,qG]at K;refine bU (c:=decide<|k="PDI") (H':=dc es lv cl) rfl (λhp=>?_) λhp=>?_
  ·have hp:=cG hp;rw[bw hp,bw hp]at K;refine nT (v:=.n) (H1:=dc (fT es) lv cl) (kc (p:=.e 0) (vs:=[]) (H1:=dc es lv cl) rfl rfl (by decide) bA ?_)
    (Ny hl hk hF jI.fT (top jI.fT λU=>D3) (eR (Nr es) hes) gJ hcl λa b c=>?_)
   ·unfold fT dc;split
    ·rename_i ha;refine rR (Nn ha) ?_;exact x' (n:=n+1) (Np.mp ha) ha<|Rr hes
    ·rename_i ha;refine rR (Bi ha) ?_;exact xL (n:=n+1)
   ·refine rR (bO<|by clear hk hK K hB hF nW pD hr iS n6 n5 n1 n2 hst qG;subst hp;decide) ?_;exact K a b c _
  ·have hp:=lW hp;rw[bO hp,bO hp]at K;exact Ny hl hk hF jI (top jI λU h=>h) hes gJ hcl λa b c=>K a b c _
end
def eH(ks:aY)(base:Int):au:=(List.range ks.length).map λt=>aD<|eM ks base t
theorem D6{n:Nat}{H:ak}(o:bK):b8 n H (aD o)=some (aD o):=iT<|by induction o using e9<;>simp[aD]
theorem za{n:Nat}(o:bK):fz n (aD o)=true:=dj<|by induction o using e9<;>simp[aD]
theorem Bz(n:Nat){ks:aY}{base:Int}(hK:∀k∈ks,nV k)(hb:ks.length<=40)(hbase:base<=1)(H:ak):
  ∃cl,gam (n+4) "" "explicit" [.l<|ks.map bQ,.i base,.i 125] H=some (.t [.l<|eH ks base,.l cl],H)/\bT cl/\cl.length=ks.length:=by
 obtain⟨v,e,cl,rfl,h⟩:=sL (c:="") (f:="explicit") (H:=H) (args:=[.l<|ks.map bQ,.i base,.i 125]) (Q:=λv=>∃cl,v=.t [.l<|eH ks base,.l cl]/\bT cl/\cl.length=ks.length) (n:=n+3) (ir:=HH) (vs:=[.l<|ks.map bQ,.i base,.i 125]) (by kernel_rfl) rfl rfl rfl (by simp[(jH ks).fz,dj]) λT K=>by
  show Ok (aF (gam<|n+3) AN [some<|.l<|ks.map bQ,some<|.i base,some<|.i 125,none,none,none,none,none,none,none,none,none] []) T;unfold AN;refine aZ (v:=.e 0) (H1:=[bW 0,ents [(base,false)]]) (bP (vs:=[.i base,.i 125]) (H1:=[]) rfl<|yA (n+1) base) ?_;refine aZ (v:=.d<|gc (eY ks ks.length).2) (H1:=[bW 0,ents [(base,false)]]) (bP (vs:=[.l<|ks.map bQ]) (H1:=[bW 0,ents [(base,false)]]) rfl<|D0 (n+2) (λh=>(hK _ h).1 rfl) (Ru hb) _) ?_;refine gen (gc (eY ks ks.length).2) λpf=>?_;refine aZ (v:=.e 2) (H1:=[bW 0,ents [(base,false)],some<|.l []]) rfl ?_;refine aZ (v:=.e 3) (H1:=dc [(base,false)] [] []) rfl ?_;refine sJ (λ(U:au) x yz=>qF (ks.map bQ) base pf x yz.1 yz.2.1 yz.2.2.1 yz.2.2.2) (λi cl U U=>dc (gK ks base i) ((List.range i).map λt=>aD<|eM ks base t) cl) (λi cl U U=>bT cl/\cl.length=i) [] none (none,none,none,none) rfl rfl ji ⟨bT.nil,rfl⟩ (λi x cl a bc hx hj T k=>?_) λcl a bc hj=>?_
  ·refine U1 hj λh1 h2=>?_;refine aC (j6 hx) λv hv aP=>?_;clear hx;subst aP;have hi:=cH hv;rw[bI]at hi;obtain rfl:=Nj hv;have hmem:ks.getD i ""∈ks:=by rw[fV,eE hi];exact tP hi
   have hlb:=y9 ks base i;have BM:=Nu ks base i;refine aA _ rfl (Bn (jH ks) hv (hK _ hmem) (vp ks base i) (λe he=>by have:=hlb e he;exact VV hb hbase hi this) (Rv hb hi BM) (by(rewrite[bI];refine rR tQ ?_);exact Rw hb hi) (by(first|lia|omega)) λa b c s=>?_);have:=k (cl++[.s s]) (some<|.i i) (some<|.s<|ks.getD i "",a,b,c) ⟨h1.app s,by refine rR gF<|rR h2 ?_;rfl⟩;rw[List.range_succ,kB]at this;exact this
  ·refine U1 hj λh1 h2=>?_;rw[mP,bI]at h2⊢;refine bX (v:=.t [.e 2,.e 3]) rfl<|K _ (.t [.l<|eH ks base,.l cl]) _ _ ?_ (cM cl rfl h1 h2)
   show Option.map PV.t ([PV.e 2,.e 3].mapM (b8 5<|dc (gK ks base ks.length) (eH ks base) cl))=_;have e1:b8 5 (dc (gK ks base ks.length) (eH ks base) cl) (.e 2)=some (.l<|eH ks base):=gu rfl λx hx=>by refine aC (bV.mp hx) λt U aN=>?_;clear hx;subst aN;exact D6 _
   have e2:b8 5 (dc (gK ks base ks.length) (eH ks base) cl) (.e 3)=some (.l cl):=gu rfl h1.b8;refine rR List.mapM_cons (rR e1<|rR List.mapM_cons<|rR e2 ?_);rfl
 exact aA cl e h
noncomputable def Lk(aH:Nat->bK)(t:Nat):List Ent->aG->Prop
 |[],_=>False
 |[e],w=>e.2=false/\w=[]
 |e::f::es,w=>f.1<e.1/\((e.2=true/\∃b w',w=b::w'/\aH b=some f.1/\(∀j,b<j->j<t->∀l,aH j=some l->f.1<l)/\Lk aH t (f::es) w')\/(e.2=false/\Lk aH t (f::es) w))
theorem Lk.ne{aH:Nat->bK}{t:Nat}{es:List Ent}{w:aG}(h:Lk aH t es w):∃e r,es=e::r:=by
 induction es using b9 with
 |nil=>exact h.elim
 |cons e r=>exact I2 e r rfl
theorem Lk.ext{aH:Nat->bK}{t:Nat}:∀{es:List Ent}{w:aG},Lk aH t es w->(∀l,aH t=some l->fc es<=l)->Lk aH (t+1) es w
 |[],_,h,_=>h.elim
 |[e],w,h,_=>h
 |e::f::es,w,h,ht=>by
  refine U1 h λh1 h2=>?_;have ht':∀l,aH t=some l->fc (f::es)<=l:=λl hl=>by have:=ht l hl;simp only[fc]at this⊢;exact GK h1 this
  refine⟨h1,?_⟩;rcases h2 with⟨he,b,w',rfl,hb,hj,hk⟩|⟨he,hk⟩
  ·refine .inl<|FD he b w' rfl hb (λj B1 B2 l hl=>?_)<|Lk.ext hk ht'
   rcases dm j t with h|h
   ·exact hj j B1 h l hl
   ·obtain rfl:j=t:=jP B2 h;have:=ht l hl;simp only[fc]at this;exact Vi h1 this
  ·exact .inr ⟨he,Lk.ext hk ht'⟩
theorem Lk.nil{aH:Nat->bK}{t:Nat}:∀{es:List Ent},Lk aH t es []->es.any (·.2)=false
 |[],h=>h.elim
 |[e],h=>by simp[h.1]
 |e::f::es,h=>by
  rcases h.2 with⟨_,b,w',h',_⟩|⟨he,hk⟩
  ·injection h'
  ·have:=Lk.nil hk;refine rR q3<|rR he<|rR this ?_;rfl
theorem Lk.iso{aH:Nat->bK}{t b:Nat}{w:aG}:∀{es:List Ent},Lk aH t es (b::w)->es.any (·.2)=true/\Lk aH t (eX es) w/\aH b=some (fc<|eX es)/\∀j,b<j->j<t->∀l,aH j=some l->fc (eX es)<l
 |[],h=>h.elim
 |[e],h=>by cases h.2
 |e::f::es,h=>by
  rcases h.2 with⟨he,b',w',h',hb,hj,hk⟩|⟨he,hk⟩
  ·(refine U1 (q4 h') λaQ aR=>?_;clear h';subst aQ;subst aR)
   have e1:eX (e::f::es)=f::es:=by(rewrite[eX];exact rR (bw he) rfl)
   refine rR e1 ?_;exact⟨by refine rR q3<|rR he ?_;rfl,hk,hb,hj⟩
  ·have e1:eX (e::f::es)=eX (f::es):=by(rewrite[eX];exact rR (bO<|by rw[he];decide) rfl)
   refine U3 (Lk.iso hk) λa1 a2 a3 a4=>?_;refine rR e1 ?_;exact⟨by(refine rR q3<|rR a1 ?_;rw[Bool.or_true]),a2,a3,a4⟩
theorem Lk.Ch{aH:Nat->bK}{t:Nat}:∀{es:List Ent}{w:aG},Lk aH t es w->Lk aH t (fS es) w
 |[],w,h=>h
 |[e],w,h=>by
  have:fS [e]=[e]:=by simp[fS]
  refine rR this ?_;exact h
 |e::f::es,w,h=>by
  cases he:e.2 with
  |true=>
   have:fS (e::f::es)=e::f::es:=by simp[fS,he]
   refine rR this ?_;exact h
  |false=>
   have:fS (e::f::es)=f::es:=by rw[fS,bw];refine rR he ?_;simp
   refine rR this ?_;rcases h.2 with⟨h',_⟩|⟨_,hk⟩
   ·rw[he]at h';exact nB h'
   ·exact hk
structure Pr (ks:aY)(aH:Nat->bK)(t b e:Nat):Prop where
 lt:b<e
 et:e<t
 ke:ks.getD e ""="PDI"
 kb:gb (ks.getD b "")=true
 lv:∃L,aH b=some L/\aH e=some L/\∀j,b<j->j<e->∀l,aH j=some l->L<l
structure PI (ks:aY)(aH:Nat->bK)(t:Nat)(es:List Ent)(s:aG×List (Nat×Nat)):Prop where
 lk:Lk aH t es s.1
 wt:∀b∈s.1,b<t/\gb (ks.getD b "")=true
 pr:∀p∈s.2,Pr ks aH t p.1 p.2
theorem Nz(ks:aY)(base:Int):∀t,PI ks (eM ks base) t (gK ks base t)<|eY ks t
 |0=>⟨(⟨rfl,rfl⟩:Lk _ 0 [(base,false)] []),(λU h=>nomatch h),(λU h=>nomatch h)⟩
 |t+1=>by
  have ih:=Nz ks base t;have hl:eM ks base t=kR (ks.getD t "") (gK ks base t):=rfl;have e1:gK ks base (t+1)=fH (ks.getD t "") (gK ks base t):=rfl;have e2:eY ks (t+1)=iV (ks.getD t "") t (eY ks t):=rfl;refine rR e1<|rR e2 ?_
  generalize hes:gK ks base t=es at*;generalize Cl:eY ks t=s at*;generalize hk:ks.getD t ""=k at*;obtain⟨w,ps⟩:=s;obtain⟨lk,wt,pr⟩:=ih;dsimp only at lk wt pr;have sU:∀b∈w,b<t+1/\gb (ks.getD b "")=true:=λb h=>⟨by have:=(wt b h).1;exact um this,(wt b h).2⟩
  have qH:∀p∈ps,Pr ks (eM ks base) (t+1) p.1 p.2:=λp h=>let q:=pr p h;⟨q.lt,by have:=q.et;exact um this,q.ke,q.kb,q.lv⟩
  have zb:k="PDI"->iV k t (w,ps)=(match w with
    |[]=>(w,ps)
    |b::w=>(w,(b,t)::ps)):=λc3=>by
    unfold iV;refine rR (bO<|by rw[c3];decide)<|rR (bw<|by simp[c3]) ?_
    induction w using b9<;>rfl
  have vt:k≠"PDI"->gb k=false->iV k t (w,ps)=(w,ps):=λh1 h2=>by unfold iV;exact rR (bO<|by rw[h2];decide)<|rR (bO<|by simpa using h1) rfl
  by_cases c1:k="RLE"\/k="LRE"
  ·have hn:eM ks base t=none:=by refine rR hl ?_;rewrite[kR];exact rR (bw (by rcases c1 with h|h<;>rw[h]<;>rfl)) rfl
   have hx:fH k es=(eB (k=="RLE")<|fc es,false)::es:=by(rewrite[fH];exact rR (bw c1) rfl)
   refine rR hx<|rR (vt (by intro h';rw[h']at c1;revert c1;decide) (by clear hk hl e1 e2 zb vt hx;rcases c1 with rfl|rfl<;>rfl)) ?_
   refine X2 lk.ne λe r aT=>?_;clear hes hl e1 zb hx;subst aT;refine⟨⟨?_,.inr ⟨rfl,lk.ext λl h=>by rw[hn]at h;exact nN h⟩⟩,sU,qH⟩;have:=vq (k=="RLE") e.1;show e.1<eB (k=="RLE") e.1;exact GS this
  by_cases c2:k="PDF"
  ·have hn:eM ks base t=none:=by(refine rR hl ?_;rewrite[kR];exact rR (bw<|by rw[c2];rfl) rfl)
   have hx:fH k es=fS es:=by(rewrite[fH];exact rR (bO c1)<|rR (bw c2) rfl)
   refine rR hx<|rR (vt (by rw[c2];decide)<|by rw[c2];rfl) ?_
   exact⟨(lk.ext λl h=>by rw[hn]at h;exact nN h).Ch,sU,qH⟩
  by_cases c3:k="PDI"
  ·have hx:fH k es=fT es:=by(rewrite[fH];exact rR (bO c1)<|rR (bO c2)<|rR (bw c3) rfl)
   have hn:eM ks base t=some (fc<|fT es):=by refine rR hl ?_;rewrite[kR];exact rR (bO<|by rw[c3];decide)<|rR (bw c3) rfl
   refine rR hx ?_;have hp:=zb c3;refine rR hp ?_
   induction w using b9 with
   |nil=>
    have:fT es=es:=by unfold fT;exact rR (bO<|by rw[lk.nil];decide) rfl
    rw[this]at hn⊢;exact⟨lk.ext λl h=>by rw[hn]at h;obtain rfl:=aK h;exact k_ _,sU,qH⟩
   |cons b w=>
    refine U3 lk.iso λa1 a2 a3 a4=>?_;have:fT es=eX es:=by unfold fT;exact rR (bw a1) rfl
    rw[this]at hn⊢;refine⟨a2.ext λl h=>by rw[hn]at h;obtain rfl:=aK h;exact k_ _,λb' h=>sU b'<|dh _ h,λp hp=>?_⟩;rcases eO.mp hp with rfl|hp
    ·exact⟨(wt b cR).1,by dsimp only;exact l9,by dsimp only;exact rR hk<|rR c3 rfl,(wt b cR).2,_,a3,hn,a4⟩
    ·exact qH p hp
  by_cases c4:gb k=true
  ·have hx:fH k es=(eB (k=="RLI")<|fc es,true)::es:=by(rewrite[fH];exact rR (bO c1)<|rR (bO c2)<|rR (bO c3)<|rR (bw c4) rfl)
   have hn:eM ks base t=some (fc es):=by refine rR hl ?_;rewrite[kR];exact rR (bO (by rcases Nl.mp c4 with h|h|h<;>rw[h]<;>decide))<|rR (bO c3) rfl
   have hp:iV k t (w,ps)=(t::w,ps):=by unfold iV;exact rR (bw c4) rfl
   refine rR hx<|rR hp ?_
   refine X2 lk.ne λe r aL=>?_;clear hx;clear hes hl e1 zb;subst aL;refine⟨⟨?_,.inl<|FD rfl t w rfl hn (λj h1 h2=>by(first|lia|omega)) (lk.ext λl h=>by rw[hn]at h;obtain rfl:=aK h;exact k_ _)⟩,λb hb=>?_,qH⟩
   ·have:=vq (k=="RLI") e.1;show e.1<eB (k=="RLI") e.1;exact GS this
   ·clear Cl e2 wt pr qH vt hp lk hn;rcases eO.mp hb with rfl|hb
    ·exact⟨l9,by exact rR hk<|rR c4 rfl⟩
    ·exact sU b hb
  ·have hx:fH k es=es:=by(rewrite[fH];exact rR (bO c1)<|rR (bO c2)<|rR (bO c3)<|rR (bO c4) rfl)
   refine rR hx<|rR (vt c3<|by simpa using c4) ?_
   refine⟨lk.ext λl h=>?_,sU,qH⟩;rw[hl,kR]at h;split at h
   ·exact nN h
   ·obtain rfl:=aK h;exact k_ _
set_option tactic.hygienic true in
theorem NB:∀{ps:List<|Nat×Nat}{x y:Int},gc ps x=some y->∃p∈ps,(x=(p.2:Int)/\y=(p.1:Int))\/(x=(p.1:Int)/\y=(p.2:Int))
 |[],x,y,h=>by simp[gc]at h
 |(b,e)::r,x,y,h=>by
  unfold gc at h;split at h
  ·rename_i hx;exact aA (b,e) cR<|.inl ⟨hx,(aK h).symm⟩
  ·split at h
   ·rename_i hx;exact aA (b,e) cR<|.inr ⟨hx,(aK h).symm⟩
   ·refine aC (NB h) λp hp h'=>?_;exact aA p (dh _ hp) h'
theorem NC{ks:aY}{base:Int}{i:Nat}{y:Int}(hi:gb (ks.getD i "")=true)(h:gc (eY ks ks.length).2 i=some y):∃q:Nat,y=q/\Pr ks (eM ks base) ks.length i q:=by
 refine aC (NB h) λaM hp h'=>?_;obtain⟨b,e⟩:=aM;have P:=(Nz ks base ks.length).pr _ hp;dsimp only at h' P;rcases h' with⟨h1,h2⟩|⟨h1,h2⟩
 ·obtain rfl:i=e:=wU h1;rw[P.ke]at hi;exact nB hi
 ·obtain rfl:i=b:=wU h1;exact aA e h2 P
noncomputable def lP(o:bK)(t:Nat)(s:List aG×bK):List aG×bK:=match o with
 |none=>s
 |some l=>if some l=s.2 then(s.1.dropLast++[s.1.getLast?.getD []++[t]],some l)else(s.1++[[t]],some l)
def lrs(aH:Nat->bK):Nat->List aG×bK
 |0=>([],none)
 |t+1=>lP (aH t) t<|lrs aH t
noncomputable def zc(aH:Nat->bK)(t:Nat)(rs:List aG):bK->Prop
 |none=>rs=[]/\∀j,j<t->aH j=none
 |some l=>∃dn cur p,rs=dn++[cur]/\cur.getLast?=some p/\aH p=some l/\p<t/\(∀j,p<j->j<t->aH j=none)/\∀r∈dn,∀x∈r,x<p
structure LR (aH:Nat->bK)(t:Nat)(rs:List aG):Prop where
 ne:∀r∈rs,r≠[]
 el:∀r∈rs,∀x∈r,x<t/\aH x≠none
 mo:∀r∈rs,∀h,r.head?=some h->∀x∈r,h<=x
 hd:∀q,q<t->aH q≠none->(∃r∈rs,r.head?=some q)\/∃p,p<q/\aH p=aH q/\∀j,p<j->j<q->aH j=none
 tl:∀r∈rs,∀i,r.getLast?=some i->∀p,i<p->p<t->aH p≠none->(∀j,i<j->j<p->aH j=none)->aH p≠aH i
 sz:(rs.map List.length).sum<=t/\rs.length<=t
theorem D7(aH:Nat->bK):∀t,LR aH t (lrs aH t).1/\zc aH t (lrs aH t).1 (lrs aH t).2
 |0=>⟨⟨λU h=>(nomatch h),λU h=>(nomatch h),λU h=>(nomatch h),λU h=>absurd h<|rg _,λU h=>(nomatch h),bY _,bY _⟩,rfl,λU h=>absurd h<|rg _⟩
 |t+1=>by
  refine U1 (D7 aH t) λI L=>?_;have e1:lrs aH (t+1)=lP (aH t) t (lrs aH t):=rfl;refine rR e1 ?_;generalize lrs aH t=s at I L;obtain⟨rs,la⟩:=s;dsimp only at I L;have hd0:∀q,q<t->aH q≠none->∀rs':List aG,(∀r∈rs,∀h,r.head?=some h->∃r'∈rs',r'.head?=some h)->(∃r∈rs',r.head?=some q)\/∃p,p<q/\aH p=aH q/\∀j,p<j->j<q->aH j=none:=λq hq hn rs' hr=>by
   rcases I.hd q hq hn with⟨r,h1,h2⟩|h
   ·exact .inl<|hr r h1 q h2
   ·exact .inr h
  cases hl:aH t with
  |none=>
   show LR aH (t+1) rs/\zc aH (t+1) rs la;refine⟨⟨I.ne,λr hr x hx=>⟨by have:=(I.el r hr x hx).1;exact um this,(I.el r hr x hx).2⟩,I.mo,λq hq hn=>?_,λr hr i hi p pg vy hn hj=>?_,by have:=I.sz;exact Rx this,by have:=I.sz;exact Ry this⟩,?_⟩
   ·rcases dm q t with h|h
    ·exact I.hd q h hn
    ·obtain rfl:q=t:=jP hq h;exact absurd hl hn
   ·rcases dm p t with h|h
    ·exact I.tl r hr i hi p pg h hn hj
    ·obtain rfl:p=t:=jP vy h;exact absurd hl hn
   ·induction la using e9 with
    |none=>
     refine⟨L.1,λj hj=>?_⟩;rcases dm j t with h|h
     ·exact L.2 j h
     ·obtain rfl:j=t:=jP hj h;exact hl
    |some l=>
     refine t_ L λdn cur p a1 a2 a3 a4 a5 a6=>?_;refine PN dn cur p a1 a2 a3 (um a4) (λj h1 h2=>?_) a6;rcases dm j t with h|h
     ·exact a5 j h1 h
     ·obtain rfl:j=t:=jP h2 h;exact hl
  |some l=>
   by_cases hc:some l=la
   ·subst hc;refine t_ L λdn cur p0 aP a2 a3 a4 a5 a6=>?_;subst aP;have e2:lP (some l) t (dn++[cur],some l)=(dn++[cur++[t]],some l):=by simp only[lP];refine rR (bw True.intro) ?_;simp
    refine rR e2 ?_;show LR aH (t+1) (dn++[cur++[t]])/\zc aH (t+1) (dn++[cur++[t]]) (some l);have ND:cur≠[]:=by rintro rfl;simp at a2
    have mem:∀{r},r∈dn++[cur++[t]]->r∈dn\/r=cur++[t]:=λh=>by simpa using h
    have m1:∀{r},r∈dn->r∈dn++[cur]:=λh=>dR.mpr<|.inl h
    have m2:cur∈dn++[cur]:=dR.mpr<|.inr cR
    refine FF ⟨λr hr=>?_,λr hr x hx=>?_,λr hr h hh x hx=>?_,λq hq hn=>?_,λr hr i hi p pg vy hn hj=>?_,?_,?_⟩ dn (cur++[t]) t rfl (by simp) hl l9 (λj h1 h2=>by(first|lia|omega)) λr hr x hx=>(I.el r (m1 hr) x hx).1
    ·rcases mem hr with h|rfl
     ·exact I.ne r<|m1 h
     ·simp
    ·rcases mem hr with h|rfl
     ·have:=I.el r (m1 h) x hx;exact⟨by(first|lia|omega),this.2⟩
     ·rcases dR.mp hx with hx|hx
      ·have:=I.el cur m2 x hx;exact⟨by(first|lia|omega),this.2⟩
      ·refine rR (dO.mp hx) ?_;exact⟨l9,by refine rR hl ?_;simp⟩
    ·rcases mem hr with h'|rfl
     ·exact I.mo r (m1 h') h hh x hx
     ·have NF:cur.head?=some h:=by
       induction cur using b9 with
       |nil=>exact absurd rfl ND
       |cons a b=>simpa using hh
      rcases dR.mp hx with hx|hx
      ·exact I.mo cur m2 h NF x hx
      ·refine rR (dO.mp hx) ?_;have:=(I.el cur m2 h<|List.mem_of_mem_head?<|by refine rR NF ?_;rfl).1;exact gX this
    ·rcases dm q t with h|h
     ·refine hd0 q h hn _ λr hr x hx=>?_;rcases dR.mp hr with h'|h'
      ·exact aA r (dR.mpr<|.inl h') hx
      ·rw[dO.mp h']at hx;refine aA (cur++[t]) (by simp) ?_
       induction cur using b9 with
       |nil=>exact absurd rfl ND
       |cons a b=>simpa using hx
     ·obtain rfl:q=t:=jP hq h;exact .inr<|cM p0 a4 (by exact rR a3<|rR hl rfl) a5
    ·rcases mem hr with h|rfl
     ·rcases dm p t with h'|h'
      ·exact I.tl r (m1 h) i hi p pg h' hn hj
      ·obtain rfl:p=t:=jP vy h';have:=a6 r h i<|q8<|by refine rR hi ?_;rfl
       have:=hj p0 this a4;rw[a3]at this;exact sN this
     ·simp at hi;(first|lia|omega)
    ·have:=I.sz.1;simp only[List.map_append,List.sum_append,List.map_cons,List.map_nil,List.length_append,List.sum_cons,List.sum_nil,List.length_cons,List.length_nil]at this⊢;exact Rz this
    ·have:=I.sz.2;simp only[List.length_append,List.length_cons,List.length_nil]at this⊢;exact RA this
   ·have e2:lP (some l) t (rs,la)=(rs++[[t]],some l):=by simp only[lP];exact rR (bO hc) rfl
    refine rR e2 ?_;show LR aH (t+1) (rs++[[t]])/\zc aH (t+1) (rs++[[t]]) (some l);have mem:∀{r},r∈rs++[[t]]->r∈rs\/r=[t]:=λh=>by simpa using h
    refine FF ⟨λr hr=>?_,λr hr x hx=>?_,λr hr h hh x hx=>?_,λq hq hn=>?_,λr hr i hi p pg vy hn hj=>?_,?_,?_⟩ rs [t] t rfl rfl hl l9 (λj h1 h2=>by(first|lia|omega)) λr hr x hx=>(I.el r hr x hx).1
    ·rcases mem hr with h|rfl
     ·exact I.ne r h
     ·simp
    ·rcases mem hr with h|rfl
     ·have:=I.el r h x hx;exact⟨by(first|lia|omega),this.2⟩
     ·refine rR (dO.mp hx) ?_;exact⟨l9,by refine rR hl ?_;simp⟩
    ·rcases mem hr with h'|rfl
     ·exact I.mo r h' h hh x hx
     ·refine rR (dO.mp hx) ?_;simp at hh;exact A8 hh
    ·rcases dm q t with h|h
     ·exact hd0 q h hn _ λr hr x hx=>aA r (dR.mpr<|.inl hr) hx
     ·obtain rfl:q=t:=jP hq h;exact .inl<|aA [q] (by simp) rfl
    ·rcases mem hr with h|rfl
     ·rcases dm p t with h'|h'
      ·exact I.tl r h i hi p pg h' hn hj
      ·obtain rfl:p=t:=jP vy h'
       induction la using e9 with
       |none=>rw[L.1]at h;cases h
       |some l0=>
        refine t_ L λdn cur p0 aN a2 a3 a4 a5 a6=>?_;clear hd0 mem hr L e2;subst aN;have hi':=I.el r h i<|q8<|by refine rR hi ?_;rfl
        have h1:¬i<p0:=λq=>by have:=hj p0 q a4;rw[a3]at this;exact sN this
        have h2:¬p0<i:=λq=>hi'.2<|a5 i q hi'.1
        obtain rfl:i=p0:=RB h1 h2;refine rR hl<|rR a3 ?_
        exact hc
     ·simp at hi;(first|lia|omega)
    ·have:=I.sz.1;simp only[List.map_append,List.sum_append,List.map_cons,List.map_nil,List.sum_cons,List.sum_nil,List.length_cons,List.length_nil]at this⊢;exact RC this
    ·have:=I.sz.2;simp only[List.length_append,List.length_cons,List.length_nil]at this⊢;exact RD this
theorem Da{aH:Nat->bK}{i:Nat}:∀d,aH (i+1+d)≠none->∃p,i<p/\p<=i+1+d/\aH p≠none/\∀j,i<j->j<p->aH j=none
 |0,h=>iq (i+1) l9 RE h λj h1 h2=>by(first|lia|omega)
 |d+1,h=>by
  by_cases hx:∃e,e<=d/\aH (i+1+e)≠none
  ·refine aC hx λe he hn=>?_;have:∀e,e<=d->aH (i+1+e)≠none->∃p,i<p/\p<=i+1+d/\aH p≠none/\∀j,i<j->j<p->aH j=none:=by
    intro e
    induction e using Nat.strongRecOn with
    |ind e ih=>
     intro he hn;by_cases hy:∃f,f<e/\aH (i+1+f)≠none
     ·refine aC hy λf hf hn'=>?_;exact ih f hf (RG he hf) hn'
     ·refine iq (i+1+e) RH (RI he) hn λj h1 h2=>?_;by_cases hz:aH j=none
      ·exact hz
      ·exact absurd ⟨j-i-1,RJ h1 h2,by refine rR (show i+1+(j-i-1)=j from wV h1) ?_;exact hz⟩ hy
   refine c_ (this e he hn) λp a b c=>?_;exact cM p a (RK b) c
  ·refine iq (i+1+(d+1)) RL RM h λj h1 h2=>?_;by_cases hz:aH j=none
   ·exact hz
   ·exact absurd ⟨j-i-1,RN h2,by refine rR (show i+1+(j-i-1)=j from wV h1) ?_;exact hz⟩ hx
theorem LR.jump{ks:aY}{aH:Nat->bK}{n:Nat}{rs:List aG}(I:LR aH n rs){i q:Nat}(P:Pr ks aH n i q){r:aG}(hr:r∈rs)(hi:r.getLast?=some i):∃r'∈rs,r'.head?=some q:=by
 refine c_ P.lv λL l1 l2 l3=>?_;refine zQ (Da (aH:=aH) (i:=i) (q-i-1)<|by refine rR (show i+1+(q-i-1)=q by have:=P.lt;exact wV this)<|rR l2 ?_;simp) λp p1 p2 p3 p4=>?_;have hlt:=P.lt;rw[show i+1+(q-i-1)=q from wV hlt]at p2;rcases dm p q with h|h
 ·rcases I.hd q P.et (by refine rR l2 ?_;simp)with h'|⟨p',h1,h2,h3⟩
  ·exact h'
  ·exfalso;rcases dm i p' with g|g
   ·have:=l3 p' g h1 L (by exact rR h2<|rR l2 rfl)
    (first|lia|omega)
   ·exact p3<|h3 p (RO p1 g) h
 ·obtain rfl:p=q:=F_ p2 h;exact absurd (by exact rR l1<|rR l2 rfl)<|I.tl r hr i hi p p1 P.et p3 p4
def gf(r:aG):PV:=.l<|r.map aE
def cV(r:aG):Option AO:=some<|.l<|r.map aE
noncomputable def iD(o k:Nat):au:=(List.range k).map λi=>.e<|i+o
theorem D8(o k:Nat):iD o (k+1)=iD o k++[.e<|k+o]:=by unfold iD;refine rR List.range_succ<|rR kB ?_;rfl
theorem D9(o k:Nat):(iD o k).length=k:=by simp[iD]
theorem NG{f:PV->bR}:∀{l l':au},l.length=l'.length->(∀(i:Nat)(x y:PV),l[i]?=some x->l'[i]?=some y->f x=some y)->l.mapM f=some l'
 |[],[],_,_=>rfl
 |[],_::_,h,_=>by simp at h
 |_::_,[],h,_=>by simp at h
 |a::l,b::l',h,hf=>by refine rR List.mapM_cons (rR (hf 0 a b rfl rfl)<|rR (NG (l':=l') (by simpa using h) λi x y h1 h2=>hf (i+1) x y (by simpa using h1)<|by simpa using h2) ?_);rfl
theorem NH{n m o:Nat}{H:ak}{rs:List aG}(hm:H[m]?=some (some<|.l<|iD o rs.length))(h:∀i r,rs[i]?=some r->H[i+o]?=some (cV r)):b8 (n+2) H (.e m)=some (.l<|rs.map gf):=by
 refine MW hm (NG (by simp[iD]) λi x y h1 h2=>?_);have hi:=cH h1;rw[D9]at hi;refine X1 (h_ hi) λr hr=>?_;rw[cQ,hr]at h2;obtain rfl:=aK h2;have:x=.e (i+o):=by unfold iD at h1;rw[cQ,lU hi]at h1;exact(aK h1).symm
 clear h1;subst this;exact gu (h i r hr) (ints_of r).b8
set_option tactic.hygienic true in
theorem Db{H:ak}(a b:bK):cE H .n (aD a) (aD b)=some (!decide (a=b)):=by
 induction a using e9<;>induction b using e9<;>try rfl
 rename_i x y;show some (!decide (x=y))=_;simp
theorem qI{H:ak}(a:bK):cE H .t (aD a) .n=some a.isSome:=by induction a using e9<;>rfl
theorem NI{H:ak}(a:bK):cE H .s (aD a) .n=some a.isNone:=by induction a using e9<;>rfl
def gg(aH:Nat->bK)(n:Nat):au:=(List.range n).map λt=>aD<|aH t
theorem zd{aH:Nat->bK}{n i:Nat}(h:i<n):(gg aH n)[i]?=some (aD<|aH i):=by unfold gg;rw[cQ,lU h];rfl
theorem ze(aH:Nat->bK)(n:Nat):(gg aH n).length=n:=by simp[gg]
theorem vz(aH:Nat->bK)(n m:Nat):fz (m+1) (.l<|gg aH n)=true:=nS λx hx=>by(refine aC (bV.mp hx) λt U aQ=>?_;clear hx;subst aQ);exact za _
abbrev hp(rs:List aG):ak:=some (.l<|iD 1 rs.length)::rs.map cV
theorem Do(dn:List aG)(cur:aG):(iD 1 (dn++[cur]).length).getLast?=some (.e<|dn.length+1):=by
 refine rR gF<|rR List.length_singleton ?_
 rewrite[D8];simp
theorem NJ(dn:List aG)(cur:aG):(hp<|dn++[cur])[dn.length+1]?=some (cV cur):=by simp[hp]
theorem Dx(dn:List aG)(cur cur':aG):(hp<|dn++[cur]).set (dn.length+1) (cV cur')=hp (dn++[cur']):=by simp[hp]
theorem DD(m:Nat)(aH:Nat->bK){n:Nat}(hn:n<=100)(H:ak):gam (m+1) "" "level_runs" [.l<|gg aH n] H=some (.l<|(lrs aH n).1.map gf,H):=by
 refine dX (n:=m) (ir:=HL) (vs:=[.l<|gg aH n]) (by kernel_rfl) rfl rfl rfl (by simp[vz]) ?_;show Ok (aF (gam m) AR [some<|.l<|gg aH n,none,none,none,none] []) _;unfold AR;refine aZ (v:=.e 0) (H1:=hp []) rfl ?_;refine aZ (v:=.n) (H1:=hp []) rfl ?_;refine gr (H':=hp []) (items:=dU<|gg aH n) (λi ae H=>∃o3 o4,ae=[some<|.l<|gg aH n,some<|.e 0,some<|aD (lrs aH i).2,o3,o4]/\H=hp (lrs aH i).1)
  rfl ji (gR none none rfl rfl) (λi x ae H hx hI=>?_) (λae H hI=>?_)
 ·(refine gG hI λo3 o4 aR aT=>?_;clear hI;subst aR;subst aT)
  refine aC (j6 hx) λv hv aL=>?_;clear hx;subst aL;have hi:=cH hv;rw[ze]at hi;rw[zd hi]at hv;obtain rfl:=aK hv;refine aA _ rfl ?_;refine U1 (D7 aH i) λI L=>?_;have e1:lrs aH (i+1)=lP (aH i) i (lrs aH i):=rfl;refine rR e1 ?_;generalize lrs aH i=s at I L;obtain⟨rs,la⟩:=s;dsimp only at I L;refine bU (c:=(aH i).isSome) (H':=hp rs) (bu (p:=aD<|aH i) (q:=.n) rfl rfl<|qI _) (λhc=>?_) λhc=>?_
  ·refine X1 (nh.mp hc) λl hl=>?_;refine rR hl ?_;have hsz:=I.sz;have fin:∀dn cur,cur.length<=900->Ok (aF (gam m) [.x<|.q (.d (.v 1)<|.n<|.c<|.i 1)<|.v 3,.a 2<|.v 4] [some<|.l<|gg aH n,some<|.e 0,some<|aD la,some<|.i i,some<|aD<|some l]<|hp<|dn++[cur])
     (λr=>r.1=.n/\r.2.1=[some<|.l<|gg aH n,some<|.e 0,some<|aD<|some l,some<|.i i,some<|aD<|some l]/\r.2.2=hp (dn++[cur++[i]])):=λdn cur hcl=>by
    refine eW (m:=dn.length+1) (l1:=cur.map aE) (l2:=cur.map aE) (v:=.i i) (H1:=hp<|dn++[cur]) (H2:=hp<|dn++[cur])
     (e_idx (p:=.e 0) (q:=.i<|-1) rfl rfl<|ve rfl<|Do dn cur) (NJ dn cur) rfl (NJ dn cur) (by simp;exact rq hcl) ?_
    have:some (AO.l<|cur.map aE++[.i i])=cV (cur++[i]):=by simp[cV,aE]
    refine rR this ?_;rewrite[Dx];exact aZ (v:=aD<|some l) (H1:=hp<|dn++[cur++[i]]) rfl<|cu ⟨rfl,rfl,rfl⟩
   refine bU (c:=!decide (some l=la)) (H':=hp rs) (bu (p:=aD<|some l) (q:=aD la) rfl rfl<|Db _ _) (λhc2=>?_) λhc2=>?_
   ·have hne:¬some l=la:=by simpa using hc2
    have e2:lP (some l) i (rs,la)=(rs++[[i]],some l):=by simp only[lP];exact rR (bO hne) rfl
    refine rR e2 ?_
    refine eW (m:=0) (l1:=iD 1 rs.length) (l2:=iD 1 rs.length) (v:=.e<|rs.length+1) (H1:=hp rs) (H2:=hp rs++[some<|AO.l []]) rfl rfl (by
     refine rR yL<|rR yN ?_
     simp[jR,hp]) rfl (by rw[D9];exact RP hn hi hsz) ?_
    have:(hp rs++[some<|AO.l []]).set 0 (some<|AO.l<|iD 1 rs.length++[PV.e<|rs.length+1])=hp (rs++[[]]):=by simp[hp,D8,cV]
    refine rR this ?_;refine(fin rs []<|by simp).mono λr h=>?_;obtain⟨f,ae,H⟩:=r;refine U2 h λaM aP aN=>?_;subst aM;clear h;subst aP;subst aN;exact gR _ _ rfl rfl
   ·have heq:some l=la:=by simpa using hc2
    clear hc2;subst heq;refine t_ L λdn cur p0 aQ a2 a3 a4 a5 a6=>?_;clear I L;subst aQ;have e2:lP (some l) i (dn++[cur],some l)=(dn++[cur++[i]],some l):=by simp only[lP];refine rR (bw True.intro) ?_;simp
    refine rR e2 ?_;simp only[List.map_append,List.sum_append,List.map_cons,List.map_nil,List.sum_cons,List.sum_nil]at hsz;refine(fin dn cur<|RQ hn hi hsz).mono λr h=>?_;obtain⟨f,ae,H⟩:=r;refine U2 h λaR aT aL=>?_;subst aR;clear h;subst aT;subst aL;exact gR _ _ rfl rfl
  ·have hl:aH i=none:=by simpa using hc
   refine rR hl ?_;exact cu<|gR _ _ rfl rfl
 ·(refine gG hI λo3 o4 aM aP=>?_;clear hI;subst aM;subst aP)
  refine rR mP ?_;rewrite[ze];refine bX (v:=.e 0) rfl (NH (o:=1) rfl λi r hr=>?_);show((lrs aH n).1.map cV)[i]?=_;rw[cQ,hr];rfl
theorem D1(m:Nat)(aH:Nat->bK){n:Nat}{a st base:Int}(hn:n<=100)(ha:0<=a/\a<=n)(hs:st=1\/st=-1)(H:ak):∃v:Int,gam (m+1) "" "bidi_level_beside" [.l<|gg aH n,.i a,.i st,.i base] H=some (.i v,H):=by
 have main:∃v,gam (m+1) "" "bidi_level_beside" [.l<|gg aH n,.i a,.i st,.i base] H=some (v,H)/\∃i:Int,v=.i i:=by
  refine lJ (n:=m) (ir:=HO) (vs:=[.l<|gg aH n,.i a,.i st,.i base]) (by kernel_rfl) rfl rfl rfl (by simp[vz,dj]) ?_;show Ok (aF (gam m) AU [some<|.l<|gg aH n,some<|.i a,some<|.i st,some<|.i base] []) _;unfold AU;refine aZ (v:=.i<|a+st) (H1:=[]) rfl ?_;refine yK (m:=if st=1 then(n-(a+st)).toNat else(a+st+1).toNat) (λk ae H=>∃at':Int,k=(if st=1 then(n-at').toNat else(at'+1).toNat)/\ae=[some<|.l<|gg aH n,some<|.i at',some<|.i st,some<|.i base]/\H=[]) (cM _ rfl rfl rfl) (by split<;>(first|lia|omega)) λk ae H hI=>?_;refine c_ hI λat' hk aN aQ=>?_;subst aN;subst aQ;refine fg (decide (0<=at')&&decide (at'<n)) [] ?_ (λhc=>?_) λU=>bX (v:=.i base) rfl<|zR _ rfl _ rfl
  ·(try simp only[wl,bx,reduceIte];try rfl)
   rw[ze];by_cases h:(0:Int)<=at'<;>simp[h]
  ·simp only[Bool.and_eq_true,decide_eq_true_eq]at hc;have hi:at'.toNat<n:=VW hc;have hx:az (gam m) (.d (.v 0)<|.v 1) [some<|.l<|gg aH n,some<|.i at',some<|.i st,some<|.i base] []=some (aD<|aH at'.toNat,[]):=
    e_idx (p:=.l<|gg aH n) (q:=.i at') rfl rfl (MS hc.1<|zd hi)
   refine aA (k-1) (by split at hk<;>(first|lia|omega)) ?_;refine bU (c:=(aH at'.toNat).isSome) (H':=[]) (bu hx cL<|qI _) (λhs=>?_) λU=>?_
   ·refine X1 (nh.mp hs) λl hl=>?_;rw[hl]at hx;exact bX (v:=.i l) hx<|zR _ rfl _ rfl
   ·refine aZ (v:=.i<|at'+st) (H1:=[]) rfl<|cu ?_
    exact lX _ (by split at hk<;>split<;>(first|lia|omega)) _ rfl rfl rfl
 refine Pw main λv e i aR=>?_;subst aR;exact⟨i,e⟩
theorem NK{H:ak}{x:Int}{f:Int->bK}:cE H .i (.i x) (.d f)=some (f x).isSome:=rfl
theorem NL{H:ak}{x:Int}{f:Int->bK}:cE H .o (.i x) (.d f)=some (!(f x).isSome):=rfl
theorem NN{H:ak}{x y:Int}{f:Int->bK}(h:f x=some y):gH H (.d f) (.i x)=some (.i y):=by show(f x).map PV.i=_;refine rR h ?_;rfl
theorem D2{H:ak}{m n:Nat}{x y:Int}{f:Int->bK}(hm:H[m]?=some (some<|.i n f))(h:f x=some y):gH H (.e m) (.i x)=some (.i y):=by
 show(match e_ H (.e m)with
  |some l=>(gx x l.length).bind λj=>l[j]?
  |none=>(rA H<|.e m).bind λf=>(f x).map .i)=_
 simp only[e_,rA,hm,Option.bind_some,h,Option.map_some]
noncomputable def dM(ks:aY)(i:Nat):String:=ks.getD i ""
theorem sV{ks:aY}{i:Nat}(h:i<ks.length):(ks.map bQ)[i]?=some (.s<|dM ks i):=by rw[cQ,eE h,dM,fV,eE h];rfl
structure pF (aH:Nat->bK)(n:Nat)(r:aG):Prop where
 ne:r≠[]
 sz:r.length<=900
 el:∀x∈r,x<n/\aH x≠none
theorem LR.szr{aH:Nat->bK}{n:Nat}{rs:List aG}(I:LR aH n rs){r:aG}(h:r∈rs):r.length<=n:=by
 have:∀{l:aG}{x:Nat},x∈l->x<=l.sum:=λ{l}=>by
  induction l with
  |nil=>intro x h;cases h
  |cons a t ih=>
   intro x h;refine rR List.sum_cons ?_;rcases eO.mp h with rfl|h
   ·exact wW
   ·have:=ih h;exact RS this
 have:=this (bV.mpr (aA r h rfl):r.length∈rs.map List.length);have:=I.sz.1
 (first|lia|omega)
abbrev jh(m:Nat)(f:Int->bK)(js:List aG):ak:=some (.i m f)::some (.l<|iD 2 js.length)::js.map cV
theorem D_{m:Nat}{f:Int->bK}{js:List aG}{r:aG}:(jh m f js++[cV r])[js.length+2]?=some (cV r):=by simp[jh]
theorem Ee{m:Nat}{f:Int->bK}{js:List aG}{r r':aG}:(jh m f js++[cV r]).set (js.length+2) (cV r')=jh m f js++[cV r']:=by simp[jh]
theorem NO{r:aG}{i:Nat}(h:r.getLast?=some i):(r.map aE).getLast?=some (.i i):=by rw[List.getLast?_map,h];rfl
theorem Ea(a b:aG):some (AO.l<|a.map aE++b.map aE)=cV (a++b):=by simp[cV]
structure zf (rs:List aG)(i:Nat)(f:Int->bK):Prop where
 a:∀(x:Nat)(y:Int),f x=some y->∃(k:Nat)(r:aG),y=k/\rs[k]?=some r/\r.head?=some x
 b:∀(k:Nat)(r:aG)(x:Nat),k<i->rs[k]?=some r->r.head?=some x->(f x).isSome=true
set_option tactic.hygienic true in
theorem zf.step{rs:List aG}{i h0:Nat}{t0:aG}{f:Int->bK}(h:zf rs i f)(hr:rs[i]?=some (h0::t0)):zf rs (i+1) (λx=>if x=h0 then some (i:Int)else f x):=by
 refine⟨λx y h'=>?_,λk r x hk hr' hx'=>?_⟩
 ·split at h'
  ·rename_i hx';obtain rfl:=aK h';obtain rfl:x=h0:=wU hx';exact fg i _ rfl hr rfl
  ·exact h.a x y h'
 ·split
  ·rfl
  ·rename_i L3;rcases dm k i with hk'|hk'
   ·exact h.b k r x hk' hr' hx'
   ·obtain rfl:k=i:=jP hk hk';rw[hr]at hr';obtain rfl:=aK hr';simp at hx'
    (first|lia|omega)
structure NP (ks:aY)(aH:Nat->bK)(rs:List aG)(pl:aG)(i0 k:Nat):Prop where
 P:pF aH ks.length pl
 hl:pl.getLast?=some i0
 ex:∃r∈rs,r.getLast?=some i0
 sz:pl.length<=20*(i0+1)
 hk:k=ks.length-i0
theorem Ev(n:Nat){ks:aY}{K V:PV}{pf:Int->bK}{aH:Nat->bK}{rs:List aG}(hb:ks.length<=20)(hK:PV.l (ks.map bQ)=K)(I:LR aH ks.length rs)(er:∀H,gam (n+1) "" "level_runs" [V] H=some (.l<|rs.map gf,H))
  (Eb:∀{i:Nat} {y:Int},gb (ks.getD i "")=true->pf i=some y->∃q:Nat,y=q/\Pr ks aH ks.length i q){T:Res->Prop}(fin:∀(js:List aG) (u:PV) (ae:bf) (H:ak),b8 6 H u=some (.l<|js.map gf)->js.length<=ks.length->(∀r∈js,pF aH ks.length r)->T (.r u,ae,H)):
  Ok (aF (gam<|n+1) AV [some K,some V,some<|.d pf,none,none,none,none,none,none] []) T:=by
 have hsz:=I.sz.2
 let E:PV->bR->bR->bR->bR->bf:=λc a b x y=>[some K,some V,some<|.d pf,some<|.l<|rs.map gf,some c,a,b,x,y]
 unfold AV;refine aZ (v:=.l<|rs.map gf) (H1:=[]) (bP (vs:=[V]) (H1:=[]) rfl<|er []) ?_;refine aZ (v:=.e 0) (H1:=[some (.i 0 λU=>none)]) rfl ?_;refine sJ (λ(U:Int->bK) a b=>E (.e 0) a b none none) (λi f U U=>[some<|.i i f]) (λi f U U=>zf rs i f) (λU=>none) none none rfl rfl ji ⟨nofun,λk r x h=>absurd h<|rg _⟩ (λi x f a b hx h T k=>?_) λf a b h=>?_
 ·(refine aC (j6 hx) λv hv aL=>?_;subst aL)
  have hi:=cH hv;rw[bI]at hi;refine X1 (h_ hi) λr hr=>?_;rw[cQ,hr]at hv;obtain rfl:=aK hv
  induction r using b9 with
  |nil=>exact absurd rfl<|I.ne _ (dY hr)
  |cons h0 t0=>
  exact aA _ rfl (DV (m:=0) (k:=(h0:Int)) (j:=(i:Int)) (n:=i) (f:=f) (H1:=[some<|.i i f]) (H2:=[some<|.i i f]) (H3:=[some<|.i i f]) rfl rfl (e_idx (p:=gf<|h0::t0) (q:=.i 0) rfl rfl vf) rfl (Ga hb hsz hi)<|cu<|k _ _ _ (h.step hr))
 ·rw[mP,bI]at h⊢;refine aZ (v:=.e 1) (H1:=jh rs.length f []) rfl ?_;refine sJ (λ(js:List aG) b y=>E (.e 0) a b (some<|.e 1) y) (λi js U U=>jh rs.length f js) (λi js U U=>(∀r∈js,pF aH ks.length r)/\js.length<=i) [] b none rfl rfl fF ⟨nofun,bY _⟩ (λi x js b y hx hj T kk=>?_) λjs b y hj=>?_
  ·(revert hj;refine V1 λhj kg=>?_)
   have hi:=cH hx;rw[bI]at hi;refine X1 (h_ hi) λr hr=>?_;rw[cQ,hr]at hx;obtain rfl:=aK hx;have hmem:=dY hr;have mR:=I.szr hmem
   induction r using b9 with
   |nil=>exact absurd rfl<|I.ne _ hmem
   |cons h0 t0=>
   have vA:=(I.el _ hmem h0 cR).1;have hidx:az (gam<|n+1) (.d (.v 6)<|.c<|.i 0) (E (.e 0) a (some<|gf<|h0::t0) (some<|.e 1) y) (jh rs.length f js)=some (.i h0,jh rs.length f js):=e_idx (p:=gf<|h0::t0) (q:=.i 0) rfl rfl vf;refine aA _ rfl (bU (c:=decide (dM ks h0="PDI")&&(pf h0).isSome) (H':=jh rs.length f js) (f_ (bu (e_idx (p:=K) (q:=.i h0) rfl hidx<|by refine rL hK ?_;exact dB<|sV vA) cL rfl) λU=>bu (q:=.d pf) hidx rfl NK) (λU=>pk<|kk _ _ _ ⟨hj,l8 kg⟩) λU=>?_)
   refine aZ (v:=.e<|js.length+2) (H1:=jh rs.length f js++[cV<|h0::t0]) (by
    refine rR lM<|rR (aJ (p:=gf<|h0::t0) (H1:=jh rs.length f js) rfl bA) ?_
    simp only[Option.bind_some];show some (jR _ _)=_
    simp[jR,jh,cV]) ?_
   have nX:=wm<|tJ h0 t0
   revert nX;refine gen ((h0::t0).getLast _) λi0 nX=>?_;refine Mv (λU=>E (.e 0) a (some<|gf<|h0::t0) (some<|.e 1)<|some<|.e<|js.length+2) (λs=>jh rs.length f js++[cV s.1]) (λk s=>NP ks aH rs s.1 s.2 k) (_,i0) rfl rfl ⟨⟨tJ _ _,eR mR<|RT hb,I.el _ hmem⟩,nX,aA _ hmem nX,eR mR<|RU hb,rfl⟩ (RV hb) λk s=>?_;obtain⟨pl,i0⟩:=s;refineλ(J:NP ks aH rs pl i0 k) T kw=>?_;have sW:=(J.P.el i0<|q8<|by refine rR J.hl ?_;rfl).1;have hk:=J.hk;have nY:az (gam<|n+1) (.d (.v 8)<|.n<|.c<|.i 1) (E (.e 0) a (some<|gf<|h0::t0) (some<|.e 1)<|some<|.e<|js.length+2) (jh rs.length f js++[cV pl])=some (.i i0,jh rs.length f js++[cV pl]):=
    e_idx (p:=.e<|js.length+2) (q:=.i<|-1) rfl rfl (ve D_<|NO J.hl)
   refine fg (gb (dM ks i0)&&(pf i0).isSome) (jh rs.length f js++[cV pl]) ?_ (λhc=>?_) λU=>?_
   ·exact f_ (bu (p:=.s<|dM ks i0) (q:=iM) (c:=gb<|dM ks i0) (e_idx (p:=K) (q:=.i i0) rfl nY<|by refine rL hK ?_;exact dB<|sV sW) rfl vn) λU=>bu (q:=.d pf) nY rfl NK
   ·rw[cy]at hc;refine X1 (nh.mp hc.2) λy hy=>?_;refine aC (Eb hc.1 hy) λq aM Pq=>?_;subst aM;refine aC J.ex λr1 ez hl1=>?_;refine aC (I.jump Pq ez hl1) λr2 iS hq2=>?_;refine X1 (kA iS) λk2 hk2=>?_;refine X1 (nh.mp<|h.b k2 r2 q (cH hk2) hk2 hq2) λz hz=>?_;refine d_ (h.a q z hz) λk3 r3 aP y_ EQ=>?_;subst aP;have sX:=dY y_;have Ec:=I.szr sX;obtain⟨i3,Ed⟩:∃i3,r3.getLast?=some i3:=⟨_,wm<|I.ne r3 sX⟩
    have NQ:=q8 (show i3∈r3.getLast? by refine rR Ed ?_;rfl);have Ef:=(I.el r3 sX i3 NQ).1;have hge:q<=i3:=I.mo r3 sX q EQ i3 NQ;have hlt:=Pq.lt;have hpl:=J.sz
    refine⟨RW sW hk,sR (m:=js.length+2) (l1:=pl.map aE) (l2:=pl.map aE) (v:=gf r3) (r:=r3.map aE) (H1:=jh rs.length f js++[cV pl]) (H2:=jh rs.length f js++[cV pl]) rfl D_
     (e_idx (p:=.l<|rs.map gf) (q:=.i k3) rfl (e_idx (p:=.e 0) (q:=.i q) rfl (e_idx (p:=.d pf) (q:=.i i0) rfl nY<|NN hy)<|D2 rfl hz)<|dB<|by rw[cQ,y_];rfl) D_ rfl (by
      simp only[List.length_map];exact RX hb Ec Ef hge hlt hpl) ?_⟩
    rewrite[Ea];refine rR Ee ?_;refine cu<|kw (ks.length-i3) (pl++r3,i3) (RY hk Ef hge hlt) ⟨⟨by simp[J.P.ne],by refine rR gF ?_;exact RZ hb Ec Ef hge hlt hpl,λx hx=>?_⟩,by rw[List.getLast?_append,Ed];rfl,aA r3 sX Ed,by refine rR gF ?_;exact R0 hb Ec hge hlt hpl,rfl⟩
    rcases dR.mp hx with hx|hx
    ·exact J.P.el x hx
    ·exact I.el r3 sX x hx
   ·refine eW (m:=1) (l1:=iD 2 js.length) (l2:=iD 2 js.length) (v:=.e<|js.length+2) (H1:=jh rs.length f js++[cV pl]) (H2:=jh rs.length f js++[cV pl]) rfl rfl rfl rfl (by rw[D9];exact R1 hb hsz kg hi)<|cu ?_
    have:=kk (js++[pl]) (some<|gf<|h0::t0) (some<|.e<|js.length+2) ⟨λr hr=>?_,by refine rR gF ?_;simp;exact uh kg⟩
    ·rwa[show jh rs.length f (js++[pl])=(jh rs.length f js++[cV pl]).set 1 (some<|.l<|iD 2 js.length++[.e<|js.length+2]) by simp[jh,D8]]at this
    ·rcases dR.mp hr with hr|hr
     ·exact hj r hr
     ·refine rR (dO.mp hr) ?_;exact J.P
  ·(revert hj;refine V1 λhj kg=>?_)
   rw[bI]at kg;refine bX (v:=.e 1) rfl<|fin js _ _ _ (NH (o:=2) (rs:=js) rfl λi r hr=>?_) (R3 hsz kg) hj
   show(js.map cV)[i]?=_;rw[cQ,hr];rfl
theorem Fa(n:Nat){ks:aY}{base:Int}(hb:ks.length<=20)(H:ak):
  ∃js:List aG,gam (n+2) "" "bidi_joined_runs" [.l<|ks.map bQ,.l<|eH ks base,.d<|gc (eY ks ks.length).2] H=some (.l<|js.map gf,H)/\js.length<=ks.length/\∀r∈js,pF (eM ks base) ks.length r:=by
 obtain⟨v,e,js,rfl,h⟩:=sL (c:="") (f:="bidi_joined_runs") (args:=[.l<|ks.map bQ,.l<|eH ks base,.d<|gc (eY ks ks.length).2]) (H:=H) (Q:=λv=>∃js:List aG,v=.l (js.map gf)/\js.length<=ks.length/\∀r∈js,pF (eM ks base) ks.length r) (n:=n+1) (ir:=HP) (vs:=[.l<|ks.map bQ,.l<|gg (eM ks base) ks.length,.d<|gc (eY ks ks.length).2]) (by kernel_rfl) rfl rfl rfl (by simp[(jH ks).fz,vz,D4])
  λT K=>Ev n hb rfl (D7 (eM ks base) ks.length).1 (λH=>DD n (eM ks base) (n:=ks.length) (uo hb) H) NC λjs u ae H e h1 h2=>K u _ ae H e (cM js rfl h1 h2)
 exact aA js e h
theorem nZ{Γ:b7}{ae:bf}{H H1:ak}{e:CE}{nm:String}{b:CE}{l:au}{f:PV->PV}(hb:az Γ b ae H=some (.l l,H1))(he:∀x∈l,az Γ e (ae++[some x]) H1=some (f x,H1)):
  az Γ (.D e false [nm] .v [b] []) ae H=some (.l<|l.map f,H1):=by
 refine rR sM<|rR (aJ hb bA) ?_
 simp only[Option.bind_some];refine rR fF ?_;simp only[Option.bind_some];rw[comp_map (f:=f) λx hx=>?_]
 ·rfl
 ·simp only[iK,Bool.false_eq_true,if_false,Option.bind_some];refine rR nR ?_;simp only[Option.bind_some,fZ,if_true];refine rR (he x hx) ?_;rfl
noncomputable def gh(l:au)(x:PV):PV:=match x with
 |.i i=>l.getD i.toNat .n
 |x=>x
theorem vB{l:au}{pl:aG}(h:∀x∈pl,x<l.length){y:PV}(hy:y∈(pl.map aE).map (gh l)):y∈l:=by refine aC (bV.mp hy) λz hz aN=>?_;clear hy;subst aN;refine aC (bV.mp hz) λi hi aQ=>?_;clear hz;subst aQ;show l.getD i .n∈l;rw[fV,eE<|h i hi];exact tP _
theorem zg{H:ak}{l:au}{i:Nat}(h:i<l.length):gH H (.l l) (.i i)=some (gh l<|.i i):=by refine dB ?_;show _=some (l.getD i .n);rw[fV,eE h];rfl
theorem Fh{pl cl co:au}{lv:Int}{bh b6:String}(h1:dJ pl)(h2:bT cl)(h3:dJ co)(n:Nat)(H:ak):b8 n H (fG pl cl lv bh b6 co)=some (fG pl cl lv bh b6 co):=by
 have:=sS (lv:=lv) (bh:=bh) (b6:=b6) h1 h2 h3 2
 induction n using gD<;>exact bw this
structure Eg (aH:Nat->bK)(n:Nat)(s:PV)(pl:aG)(cl:au)(lv:Int)(bh b6:String)(co:au):Prop where
 eq:s=fG (pl.map aE) cl lv bh b6 co
 NR:pF aH n pl
 Eh:bT cl
 cn:cl.length=pl.length
 Ei:dJ co
 con:co.length=pl.length
 Fk:∃x,x<n/\aH x=some lv
noncomputable def vC(aH:Nat->bK)(n:Nat)(s:PV):Prop:=∃pl cl lv bh b6 co,Eg aH n s pl cl lv bh b6 co
theorem qJ{ae:bf}{i j:Nat}{x:bR}{v:PV}(h:i≠j)(e:ae[j]?=some (some v)):(ae.set i x)[j]?=some (some v):=by rw[jr h];exact e
theorem NS{Γ:b7}{ae:bf}{H:ak}{l:au}{r:aG}{a:Nat}(hr:∀x∈r,x<l.length)(hl:ae.length=14)(va:ae[a]?=some (some<|.l l))(v7:ae[7]?=some (some<|gf r)):az Γ (.D (.d (.v a)<|.v 14) false ["at"] .v [.v 7] []) ae H=some (.l<|(r.map aE).map<|gh l,H):=
 nZ (l:=r.map aE) (bq v7) λx hx=>by refine aC (bV.mp hx) λj hj aR=>?_;clear hx;subst aR;exact e_idx (p:=.l l) (q:=.i j) (lO va) (kO (i:=0) hl rfl)<|zg<|hr j hj
theorem Fm{n N:Nat}{aH:Nat->bK}{r:aG}{cl co ss:au}{L:Int}{bh b6:String}{ae:bf}{T:bf->ak->Prop}(P:pF aH N r)(hcl:bT cl)(hcn:cl.length=N)(hco:dJ co)(vD:co.length=N)(hL:∃x,x<N/\aH x=some L)(hsl:ss.length<=900)
  (hl:ae.length=14)(v2:ae[2]?=some (some<|.l cl))(v4:ae[4]?=some (some<|.l co))(v6:ae[6]?=some (some<|.e 0))(v7:ae[7]?=some (some<|gf r))(v10:ae[10]?=some (some<|.i L))(v11:ae[11]?=some (some<|.s bh))(Fn:ae[12]?=some (some<|.s b6))
  (K:∀s o,vC aH N s->T (ae.set 13 o) [some<|.l<|ss++[s]]):
  Ok (aF (gam<|n+2) [.a 13<|.i (.m .t (.v 4)<|.c .n) (.D (.d (.v 4)<|.v 14) false ["at"] .v [.v 7] [])<|.l [],
   .x (.q (.v 6)<|.h "BidiSequence" [.v 7,.D (.d (.v 2)<|.v 14) false ["at"] .v [.v 7] [],.v 10,.v 11,.v 12,.v 13])] ae [some<|.l ss]) (Nx T):=by
 have ez:∀x∈r,x<co.length:=λx hx=>vD▸(P.el x hx).1;have iS:∀x∈r,x<cl.length:=λx hx=>hcn▸(P.el x hx).1;have h1:bT ((r.map aE).map<|gh cl):=λx hx=>hcl x<|vB iS hx
 have h2:dJ ((r.map aE).map<|gh co):=λx hx=>hco x<|vB ez hx
 refine aZ (v:=.l<|(r.map aE).map<|gh co) (H1:=[some<|.l ss]) (iB (c:=true) (bu (p:=.l co) (q:=.n) (bq v4) cL rfl) (λU=>NS ez hl v4 v7) nofun) ?_;refine eW (m:=0) (l1:=ss) (l2:=ss) (v:=fG (r.map aE) ((r.map aE).map<|gh cl) L bh b6<|(r.map aE).map<|gh co) (H1:=[some<|.l ss]) (H2:=[some<|.l ss]) (bq<|qJ (by decide) v6) rfl
  (bP (aJ (bq<|qJ (by decide) v7)<|aJ (NS iS (by refine rR i5 ?_;exact hl) (qJ (by decide) v2)<|qJ (by decide) v7)<|aJ (bq<|qJ (by decide) v10)<|aJ (bq<|qJ (by decide) v11)<|aJ (bq<|qJ (by decide) Fn)<|aJ (bq<|by rw[jL<|by refine rR hl ?_;decide]) bA)<|Nd (n+1) (ints_of r) h1 h2 _) rfl (eR hsl<|by decide) (cu<|K _ _ ?_)
 exact I6 r _ L _ _ _ ⟨rfl,P,h1,by rw[bI,bI],h2,by rw[bI,bI],hL⟩
theorem Fr(n:Nat){ks:aY}{base:Int}{cl co:au}{js:List aG}{aH:Nat->bK}{pf:Int->bK}{K V:PV}{T:Res->Prop}(hb:ks.length<=20)(hcl:bT cl)(hcn:cl.length=ks.length)(hco:dJ co)(vD:co.length=ks.length)
  (hK:PV.l (ks.map bQ)=K)(hV:PV.l (gg aH ks.length)=V)(ej:gam (n+2) "" "bidi_joined_runs" [K,V,.d pf] [some<|.l []]=some (.l<|js.map gf,[some<|.l []]))(NT:js.length<=ks.length)(hj:∀r∈js,pF aH ks.length r)(ep:∀H,gam (n+2) "" "isolate_pairs" [K] H=some (.d pf,H))
  (lb:∀{st a:Int},0<=a/\a<=ks.length->st=1\/st=-1->∀H,∃b:Int,gam (n+2) "" "bidi_level_beside" [V,.i a,.i st,.i base] H=some (.i b,H))(fin:∀ss ae,(∀s∈ss,vC aH ks.length s)->T (.r<|.e 0,ae,[some<|.l ss])):
  Ok (aF (gam<|n+2) AW [some K,some V,some<|.l cl,some<|.i base,some<|.l co,none,none,none,none,none,none,none,none,none] []) T:=by
 unfold AW;refine aZ (v:=.d pf) (H1:=[]) (bP (vs:=[K]) (H1:=[]) rfl<|ep _) ?_;refine aZ (v:=.e 0) (H1:=[some<|.l []]) rfl ?_
 let E:bR->bR->bR->bR->bR->bR->bR->bf:=λa b c d e f g=>[some K,some V,some<|.l cl,some<|.i base,some<|.l co,some<|.d pf,some<|.e 0,a,b,c,d,e,f,g]
 refine lK (λ(U:au) (z:bR×bR×bR×bR×bR×bR×bR)=>E z.1 z.2.1 z.2.2.1 z.2.2.2.1 z.2.2.2.2.1 z.2.2.2.2.2.1 z.2.2.2.2.2.2) (λU ss U=>[some<|.l ss]) (λi ss U=>(∀s∈ss,vC aH ks.length s)/\ss.length<=i) [] (none,none,none,none,none,none,none)
  (aJ (bP (vs:=[K,V,.d pf]) (H1:=[some<|.l []]) rfl ej) bA) rfl fF ⟨nofun,bY _⟩ (λi x ss z hx hI T k=>?_) (λss z hI=>bX (v:=.e 0) rfl<|fin ss _ hI.1)
 refine U1 hI λhs hsl=>?_;have hi:=cH hx;rw[bI]at hi;refine X1 (h_ hi) λr hr=>?_;rw[cQ,hr]at hx;obtain rfl:=aK hx;have P:=hj r<|dY hr
 induction r using b9 with
 |nil=>exact absurd rfl P.ne
 |cons h0 t0=>
 have nX:=wm P.ne;have sW:=P.el _ (q8 (show(h0::t0).getLast P.ne∈(h0::t0).getLast? by refine rR nX ?_;rfl));have vA:=P.el h0 cR;refine X1 (Option.ne_none_iff_exists'.mp vA.2) λL hL=>?_;revert nX sW;refine gen ((h0::t0).getLast P.ne) λi0 nX sW=>?_;refine aA _ rfl (aZ (v:=.i h0) (H1:=[some<|.l ss]) (e_idx (p:=gf<|h0::t0) (q:=.i 0) rfl rfl vf) ?_);refine aZ (v:=.i i0) (H1:=[some<|.l ss]) (e_idx (p:=gf<|h0::t0) (q:=.i<|-1) rfl rfl<|DR<|NO nX) ?_;refine aZ (v:=.i L) (H1:=[some<|.l ss]) (e_idx (p:=V) (q:=.i h0) rfl rfl<|by refine rL hV ?_;exact dB<|by refine rR (zd vA.1)<|rR hL ?_;rfl) ?_;refine X1 (lb (a:=h0) (st:=-1) (by(first|lia|omega)) (.inr rfl) [some<|.l ss]) λb1 Fs=>?_;refine aZ (v:=.s<|qD<|max L b1) (H1:=[some<|.l ss]) (bP (vs:=[.i L,.i b1]) (aJ rfl<|aJ (bP (vs:=[V,.i h0,.i<|-1,.i base]) rfl Fs) bA)<|DW (n+1) L b1 _) ?_;have rest:∀b6,Ok (aF (gam<|n+2) _ (E (some<|gf<|h0::t0) (some<|.i h0) (some<|.i i0) (some<|.i L) (some<|.s<|qD<|max L b1) (some<|.s b6) z.2.2.2.2.2.2) _) _:=λb6=>
  Fm P hcl hcn hco vD (aA h0 vA.1 hL) (by(first|lia|omega)) rfl rfl rfl rfl rfl rfl rfl rfl λs o hq=>k (ss++[s]) (_,_,_,_,_,_,o) ⟨λx hx=>(dR.mp hx).elim (hs x) λh=>dO.mp h▸hq,by refine rR gF ?_;exact tX hsl⟩
 refine bU (c:=gb (dM ks i0)&&!(pf i0).isSome) (H':=[some<|.l ss]) (f_ (bu (p:=.s<|dM ks i0) (q:=iM) (c:=gb<|dM ks i0) (e_idx (p:=K) (q:=.i i0) rfl rfl<|by refine rL hK ?_;exact dB<|sV sW.1) rfl vn) λU=>bu (p:=.i i0) (q:=.d pf) rfl rfl NL) (λU=>?_) λU=>?_
 ·exact aZ (v:=.s<|qD<|max L base) (H1:=[some<|.l ss]) (bP (vs:=[.i L,.i base]) (H1:=[some<|.l ss]) rfl<|DW (n+1) L base _)<|rest _
 ·refine X1 (lb (a:=i0) (st:=1) (by(first|lia|omega)) (.inl rfl) [some<|.l ss]) λb2 Fu=>?_;exact aZ (v:=.s<|qD<|max L b2) (H1:=[some<|.l ss]) (bP (vs:=[.i L,.i b2]) (aJ rfl<|aJ (bP (vs:=[V,.i i0,.i 1,.i base]) rfl Fu) bA)<|DW (n+1) L b2 _)<|rest _
theorem FB(n:Nat){ks:aY}{base:Int}{cl co:au}(hK:∀k∈ks,nV k)(hb:ks.length<=20)(hcl:bT cl)(hcn:cl.length=ks.length)(hco:dJ co)(vD:co.length=ks.length)(H:ak):
  ∃ss,gam (n+3) "" "isolating_sequences" [.l<|ks.map bQ,.l<|eH ks base,.l cl,.i base,.l co] H=some (.l ss,H)/\∀s∈ss,∃pl cl lv bh b6 co,Eg (eM ks base) ks.length s pl cl lv bh b6 co:=by
 refine c_ (Fa n (base:=base) hb [some<|.l []]) λjs ej NT hj=>?_;obtain⟨v,e,ss,rfl,h⟩:=sL (c:="") (f:="isolating_sequences") (H:=H) (args:=[.l<|ks.map bQ,.l<|eH ks base,.l cl,.i base,.l co]) (Q:=λv=>∃ss,v=.l ss/\∀s∈ss,vC (eM ks base) ks.length s) (n:=n+2) (ir:=HQ) (vs:=[.l<|ks.map bQ,.l<|gg (eM ks base) ks.length,.l cl,.i base,.l co]) (by kernel_rfl) rfl rfl rfl (by simp[(jH ks).fz,vz,hcl.fz,hco.fz,dj])
  λT K=>by refine Fr n hb hcl hcn hco vD rfl rfl ej NT hj (λH=>D0 (n+1) (λh=>(hK _ h).1 rfl) (Ad hb) H) (λ{st a} h1 h2 H=>D1 (n+1) (eM ks base) (n:=ks.length) (a:=a) (st:=st) (base:=base) (uo hb) h1 h2 H) λss ae hs=>K _ (.l ss) _ _ (gu (l:=ss) rfl λs h=>?_) (aA ss rfl hs);refine X6 (hs s h) λpl zh lv bh b6 co' Q=>?_;refine rR Q.eq ?_;exact Fh (ints_of pl) Q.Eh Q.Ei _ _
 exact aA ss e h
noncomputable def br(i:Int):PV:=.i i
noncomputable def iW(bg en:Int)(co:au)(base:Int)(kn lv cl:au):PV:=.o "BidiParagraph" ["begin","end","codes","base","kinds","levels","classes"] [.i bg,.i en,.l co,.i base,.l kn,.l lv,.l cl]
theorem Ej{bg en base:Int}{co kn lv cl:au}(h1:dJ co)(h2:bT kn)(h3:∀n,fz (n+1) (.l lv)=true)(h4:bT cl)(n:Nat):fz (n+2) (iW bg en co base kn lv cl)=true:=by exact gj.mpr<|mc vg<|mc vg<|mc (h1.fz n)<|mc vg<|mc (h2.fz n)<|mc (h3 n)<|mc (h4.fz n) mz
theorem FC(n:Nat){bg base:Int}{co kn lv cl:au}(h1:dJ co)(h2:bT kn)(h3:∀n,fz (n+1) (.l lv)=true)(h4:bT cl)(H:ak):
  gam (n+1) "" "BidiParagraph" [.i bg,.l co,.i base,.l kn,.l lv,.l cl] H=some (iW bg (bg+co.length) co base kn lv cl,H):=by
 refine Mt (ir:=HR) (vs:=[.i bg,.l co,.i base,.l kn,.l lv,.l cl]) (by kernel_rfl) rfl rfl rfl (by simp[h1.fz,h2.fz,h3,h4.fz,dj]) ?_;refine Ok.mk (r:=(.n,[some<|.e 0,some<|.i bg,some<|.l co,some<|.i base,some<|.l kn,some<|.l lv,some<|.l cl],[some<|.n "BidiParagraph" ["begin","end","codes","base","kinds","levels","classes"] [.i bg,.i<|bg+co.length,.l co,.i base,.l kn,.l lv,.l cl]])) (by kernel_rfl)<|aA _ rfl ?_
 show Option.map (PV.o _ _) (List.mapM (b8 5 _) [PV.i bg,.i<|bg+co.length,.l co,.i base,.l kn,.l lv,.l cl])=_;refine rR (yS<|mc yR<|mc yR<|mc (qB<|h1.fz 3)<|mc yR<|mc (qB<|h2.fz 3)<|mc (qB<|h3 3)<|mc (qB<|h4.fz 3) mz) ?_;rfl
theorem FM{bg en base:Int}{co kn lv cl:au}(h1:dJ co)(h2:bT kn)(h3:∀n,fz (n+1) (.l lv)=true)(h4:bT cl)(n:Nat)(H:ak):b8 n H (iW bg en co base kn lv cl)=some (iW bg en co base kn lv cl):=by
 have:fz 4 (iW bg en co base kn lv cl)=true:=Ej (bg:=bg) (en:=en) (base:=base) h1 h2 h3 h4 2
 induction n using gD<;>exact bw this
def kT(cs:bk):Prop:=∀c∈cs,j9 c
def bM(cs:bk):PV:=.l<|cs.map br
def aW(cs:bk):aY:=cs.map kindOf
noncomputable def vE:aY:=["L","R","AL","EN","AN","ON","WS","S","NSM","LRI","RLI","PDI","RLE","LRE","PDF","BN"]
theorem NU{c:Int}(h:j9 c):kindOf c∈vE:=by exact h.el (P:=λc=>kindOf c∈vE)<|by decide
theorem FR:∀k∈vE,nV k:=by unfold nV;decide
theorem Ek{k:String}(h:k∈vE):nV k:=FR k h
theorem NV{cs:bk}(h:kT cs){k:String}(hk:k∈aW cs):k∈vE:=by refine aC (bV.mp hk) λc hc aT=>?_;clear hk;subst aT;exact NU<|h c hc
theorem kU(cs:bk):dJ (cs.map br):=λx hx=>by(refine aC (bV.mp hx) λc U aL=>?_;clear hx;subst aL);exact⟨c,rfl⟩
theorem n7(cs:bk)(n:Nat):fz (n+1) (bM cs)=true:=(kU cs).fz n
theorem jk(cs:bk):(aW cs).length=cs.length:=by simp[aW]
theorem El(n:Nat){cs:bk}(hc:kT cs)(H:ak):gam (n+4) "" "bidi_kinds" [bM cs,bB] H=some (.l<|(aW cs).map bQ,H):=by
 refine dX (n:=n+3) (ir:=Hu) (vs:=[bM cs,bB]) (by kernel_rfl) rfl rfl rfl (by simp[n7,jj]) ?_;show Ok (aF (gam<|n+3) Ay [some<|bM cs,some bB] []) _;unfold Ay
 let f:PV->PV:=λx=>match x with
  |.i c=>.s<|kindOf c
  |x=>x
 have e:(cs.map br).map f=(aW cs).map bQ:=by simp only[aW,List.map_map];rfl
 refine bX (v:=.l<|(cs.map br).map f) (H':=[]) (nZ (l:=cs.map br) rfl λx hx=>?_) (by
  refine rR e ?_;exact jg λx hx=>by(refine X1 (jH _ x hx) λs aM=>?_;clear hx;subst aM);exact dj<|.inr<|.inr<|.inr ⟨s,rfl⟩)
 refine aC (bV.mp hx) λc hc' aP=>?_;clear hx;subst aP;exact vm (p:=.i c) (by simp only[List.cons_append,List.nil_append];(try simp only[wl,bx,reduceIte];try rfl)) (by simp only[List.cons_append,List.nil_append];(try simp only[wl,bx,reduceIte];try rfl))<|Nc n (hc c hc') _
theorem FS(n:Nat){cs:bk}(hc:kT cs)(h0:0<cs.length)(H:ak):gam (n+4) "" "paragraphs" [bM cs,bB] H=some (.l [.t [.i 0,.i cs.length]],H):=by
 refine dX (n:=n+3) (ir:=Hv) (vs:=[bM cs,bB]) (by kernel_rfl) rfl rfl rfl (by simp[n7,jj]) ?_;show Ok (aF (gam<|n+3) Az [some<|bM cs,some bB,none,none,none,none,none] []) _;unfold Az;refine aZ (v:=.e 0) (H1:=[some<|.l []]) rfl ?_;refine aZ (v:=.i 0) (H1:=[some<|.l []]) rfl ?_;refine gr (H':=[some<|.l []]) (vs:=[bM cs]) (items:=dU<|cs.map br) (λi ae H=>∃o4 o5 o6,ae=[some<|bM cs,some bB,some<|.e 0,some<|.i 0,o4,o5,o6]/\H=[some<|.l []])
  rfl ji (wG none none none rfl rfl) (λi x ae H hx hI=>?_) (λae H hI=>?_)
 ·(refine t8 hI λo4 o5 o6 aN aQ=>?_;clear hI;subst aN;subst aQ)
  refine aC (j6 hx) λv hv aR=>?_;clear hx;subst aR;refine aC (bV.mp<|dY hv) λc hc' aT=>?_;clear hv;subst aT;refine aA _ rfl ?_;refine bU (c:=false) (H':=[some<|.l []]) (bu (p:=.s<|kindOf c) (q:=.s "B") (vm (p:=.i c) rfl rfl<|Nc n (hc c hc') _) rfl ?_) nB λU=>cu<|wG _ _ _ rfl rfl
  show some (decide<|kindOf c="B")=some false;have:=(Ek<|NU<|hc c hc').1;simp[this]
 ·(refine t8 hI λo4 o5 o6 aL aM=>?_;clear hI;subst aL;subst aM)
  have hl:(cs.map br).length=cs.length:=by simp
  refine bU (c:=true) (H':=[some<|.l []]) (bu (p:=.i 0) (q:=.i cs.length) (H2:=[some<|.l []]) rfl (by unfold bM;(try simp only[wl,bx,reduceIte];try rfl);exact rR hl rfl) (by
   show some (decide<|(0:Int)<cs.length)=some true
   exact rR (di<|R5 h0) rfl)) (λU=>?_) nofun
  refine eW (m:=0) (l1:=[]) (l2:=[]) (v:=.t [.i 0,.i cs.length]) (H1:=[some<|.l []]) (H2:=[some<|.l []]) rfl rfl (by unfold bM;(try simp only[wl,bx,reduceIte];try rfl);exact rR hl rfl) rfl (by simp) ?_;exact bX (v:=.e 0) rfl rfl
theorem FV(n:Nat){ks:aY}(hb:ks.length<=400)(H:ak):∃v,gam (n+1) "" "bidi_first_strong" [.l<|ks.map bQ,.i 0,.i ks.length,.d<|gc (eY ks ks.length).2] H=some (v,H)/\j_ v:=by
 refine lJ (n:=n) (ir:=Hx) (vs:=[.l<|ks.map bQ,.i 0,.i ks.length,.d<|gc (eY ks ks.length).2]) (by kernel_rfl) rfl rfl rfl (by simp[(jH ks).fz,D4,dj]) ?_;show Ok (aF (gam n) AB [some<|.l<|ks.map bQ,some<|.i 0,some<|.i ks.length,some<|.d<|gc (eY ks ks.length).2,none,none] []) _;have Eb:∀{i:Nat}{y:Int},gb (ks.getD i "")=true->gc (eY ks ks.length).2 i=some y->∃q:Nat,y=q/\Pr ks (eM ks 0) ks.length i q:=NC;generalize gc (eY ks ks.length).2=pf at*;generalize hK:PV.l (ks.map bQ)=K at*;unfold AB;refine aZ (v:=.i (0:Nat)) (H1:=[]) rfl ?_;refine yK (m:=ks.length) (λm ae H=>∃(i:Nat)(o5:bR),m=ks.length-i/\ae=[some K,some<|.i 0,some<|.i ks.length,some<|.d pf,some<|.i i,o5]/\H=[]) (fg 0 none rfl rfl rfl) (R6 hb) λm ae H hI=>?_;refine d_ hI λi o5 hm aP aN=>?_;subst aP;clear hI;subst aN;have FX:∀{ae:bf}{t:List CS},Ok (aF (gam n) (.r (.c .n)::t) ae []) (λr=>∃v,b8 6 r.2.2 (fX r.1)=some v/\j_ v):=λ{ae t}=>bX (v:=.n) (H':=[]) cL<|aA _ rfl (.inl rfl)
 refine fg (decide<|(i:Int)<ks.length) [] (by(try simp only[wl,bx,reduceIte];try rfl)) (λhc=>?_) λU=>FX;have hi:i<ks.length:=by have:=cG hc;exact R7 this
 refine aA (m-1) (R8 hm hi) ?_;have fin:∀(j:Nat)(k:String),i<=j->Ok (aF (gam n) [.a 4<|.b .a (.v 4)<|.c<|.i 1] [some K,some<|.i 0,some<|.i ks.length,some<|.d pf,some<|.i j,some<|.s k] [])
   (Turn (λae H=>∃j,j<=m-1/\∃(i:Nat)(o5:bR),j=ks.length-i/\ae=[some K,some<|.i 0,some<|.i ks.length,some<|.d pf,some<|.i i,o5]/\H=[]) (After (gam n) [.r<|.c .n] λr=>∃v,b8 6 r.2.2 (fX r.1)=some v/\j_ v)):=λj k hij=>
  aZ (v:=.i ((j+1:Nat):Int)) (H1:=[]) rfl (cu<|Fp (ks.length-(j+1)) (R9 hm hij) (j+1) _ rfl rfl rfl)
 refine aZ (v:=.s<|dM ks i) (H1:=[]) (e_idx (p:=K) (q:=.i i) rfl rfl<|by refine rL hK ?_;exact dB<|sV hi) ?_;refine bU (c:=decide<|dM ks i∈["L","R","AL"]) (H':=[]) (by(try simp only[wl,bx,reduceIte];try rfl);refine rR un<|rR gT ?_;(try simp only[wl,bx,reduceIte];try rfl)) (λU=>bX (v:=.s<|dM ks i) rfl<|aA _ (iT<|.inr<|.inr<|.inr ⟨_,rfl⟩) (.inr ⟨_,rfl⟩)) λU=>?_;refine bU (c:=decide<|dM ks i="B") (H':=[]) rfl (λU=>bX (v:=.n) (H':=[]) cL<|aA _ rfl (.inl rfl)) λU=>?_;refine bU (c:=gb<|dM ks i) (H':=[]) (bu (p:=.s<|dM ks i) (q:=iM) rfl rfl vn) (λF'=>?_) λU=>fin i _ (bY _);refine bU (c:=!(pf i).isSome) (H':=[]) (bu (p:=.i i) (q:=.d pf) rfl rfl NL) (λU=>bX (v:=.n) (H':=[]) cL<|aA _ rfl (.inl rfl)) λhs=>?_;rw[tH]at hs;refine X1 (nh.mp hs) λy hy=>?_;refine aC (Eb F' hy) λq aQ P=>?_;subst aQ;have:=P.lt;exact aZ (v:=.i q) (H1:=[]) (e_idx (p:=.d pf) (q:=.i i) rfl rfl<|NN hy)<|fin q _ (gX this)
noncomputable def isWord(w:String):Prop:=w="rtl"\/w="ltr"\/w="auto"
theorem NW(n:Nat){ks:aY}{w:String}(hw:isWord w)(hK:∀k∈ks,nV k)(hb:ks.length<=400):∃b:Int,(0<=b/\b<=1)/\∀H,gam (n+2) "" "bidi_base" [.l<|ks.map bQ,.s w] H=some (.i b,H):=by
 have main:∃v,(∀H,gam (n+2) "" "bidi_base" [.l<|ks.map bQ,.s w] H=some (v,H))/\∃b:Int,v=.i b/\0<=b/\b<=1:=by
  suffices h:Ok (aF (gam<|n+1) AF [some<|.l<|ks.map bQ,some<|.s w,none] []) (λr=>∃v,b8 6 r.2.2 (fX r.1)=some v/\∃b:Int,v=.i b/\0<=b/\b<=1) by
   refine ni h λr e v hv q=>?_;exact aA v (λH=>dX (n:=n+1) (ir:=Hz) (vs:=[.l<|ks.map bQ,.s w]) (by kernel_rfl) rfl rfl rfl (by simp[(jH ks).fz,dj])<|aA r e hv) q
  unfold AF;have zj:∀{e:CE}{b:Int}{ae:bf}{t:List CS},az (gam<|n+1) e ae []=some (.i b,[])->0<=b->b<=1->Ok (aF (gam<|n+1) (.r e::t) ae []) (λr=>∃v,b8 6 r.2.2 (fX r.1)=some v/\∃b:Int,v=.i b/\0<=b/\b<=1):=λh h1 h2=>bX h<|lX _ (iT<|.inr<|.inr<|.inl ⟨_,rfl⟩) _ rfl h1 h2
  rcases hw with rfl|rfl|rfl
  ·exact bU (c:=true) (H':=[]) rfl (λU=>zj (b:=1) rfl (by decide)<|by decide) tB
  ·exact bU (c:=true) (H':=[]) rfl (λU=>zj (b:=0) rfl (by decide)<|by decide) tB
  ·refine bU (c:=false) (H':=[]) rfl nB λU=>?_;refine aC (FV n hb []) λv e hv=>?_;refine aZ (v:=v) (H1:=[]) (bP (vs:=[.l<|ks.map bQ,.i 0,.i ks.length,.d<|gc (eY ks ks.length).2]) (H1:=[]) (aJ rfl<|aJ (H1:=[]) rfl<|aJ (p:=.i ks.length) (H1:=[]) (by(try simp only[wl,bx,reduceIte];try rfl);simp)<|aJ (bP (vs:=[.l<|ks.map bQ]) rfl<|D0 n (λh=>(hK _ h).1 rfl) hb _) bA) e) ?_;clear e;rcases hv with rfl|⟨s,rfl⟩
   ·exact bU (c:=true) (H':=[]) rfl (λU=>zj (b:=0) rfl (by decide)<|by decide) tB
   ·refine bU (c:=false) (H':=[]) rfl nB λU=>zj (b:=if s="L" then 0 else 1) (by(try simp only[wl,bx,reduceIte];try rfl);split<;>simp_all) (by split<;>decide)<|by split<;>decide
 refine ni main λv e b aR h=>?_;subst aR;exact aA b h e
theorem vF{n d k:Nat}(h:k<=1000):ny n d (.i k)=some (min k n):=by
 have e:cO (k:Int)=true:=by simp only[cO,Bool.and_eq_true,decide_eq_true_eq];exact R_ h
 have e2:cutAt (k:Int) n=min k n:=by unfold cutAt;refine rR (bw<|iY k) ?_;rw[Int.toNat_natCast]
 simp only[ny,e,if_true,e2]
theorem vG{H:ak}{l:au}{a b:Nat}(ha:a<=1000)(hb:b<=1000)(h:b<=l.length)(hab:a<=b):ja H (.l l) (.i a) (.i b)=some (.l<|(l.take b).drop a):=by have e:rB H (.l l)=some l:=rfl;unfold ja;refine rR e ?_;simp only[Option.bind_some,vF ha,vF hb,Option.map_some];exact rR (oz h)<|rR (oz<|eR hab h) rfl
theorem Gc{H:ak}{l:au}(h:l.length<=1000):ja H (.l l) (.i 0) (.i l.length)=some (.l l):=by
 have:=vG (H:=H) (a:=0) Sa h (bY _)<|iF _
 rw[m_,List.drop_zero]at this;exact this
theorem pG{Γ:b7}{a b c:CE}{ae:bf}{H H1 H2 H3:ak}{p q r v:PV}(ha:az Γ a ae H=some (p,H1))(hb:az Γ b ae H1=some (q,H2))(hc:az Γ c ae H2=some (r,H3))(h:ja H3 p q r=some v):az Γ (.s a b c) ae H=some (v,H3):=by
 refine rR MC<|rR ha ?_
 simp only[Option.bind_some,hb,hc,h,Option.map_some]
theorem zk(ks:aY)(base:Int)(n:Nat):fz (n+1) (.l<|eH ks base)=true:=vz _ _ n
theorem NX(ks:aY)(base:Int):(eH ks base).length=ks.length:=ze _ _
structure mT (cs:bk):Prop where
 ok:kT cs
 pos:0<cs.length
 le:cs.length<=20
theorem mT.zl{cs:bk}(h:mT cs):∀k∈aW cs,nV k:=λk hk=>Ek<|NV h.ok hk
theorem Go(n:Nat){cs:bk}{w:String}(hT:mT cs)(hw:isWord w)(H:ak):
  ∃(b:Int)(cl:au),(0<=b/\b<=1)/\bT cl/\cl.length=cs.length/\gam (n+5) "" "bidi_paragraphs" [bM cs,bB,.s w,.i 125] H=some (.l [iW 0 (0+(cs.map br).length) (cs.map br) b ((aW cs).map bQ) (eH (aW cs) b) cl],H):=by
 have hlen:=hT.le;refine aC (NW (n+2) (ks:=aW cs) hw hT.zl<|by rw[jk];exact Ad hlen) λb hb eb=>?_;refine c_ (Bz n (ks:=aW cs) (base:=b) hT.zl (by rw[jk];exact Sb hlen) hb.2 [some<|.l []]) λcl ec c1 c2=>?_;rw[jk]at c2;refine fy b cl hb c1 c2 ?_;refine dX (n:=n+4) (ir:=HT) (vs:=[bM cs,bB,.s w,.i 125]) (by kernel_rfl) rfl rfl rfl (by simp[n7,jj,dj]) ?_;show Ok (aF (gam<|n+4) AY [some<|bM cs,some bB,some<|.s w,some<|.i 125,none,none,none,none,none,none,none,none] []) _;unfold AY;refine aZ (v:=.e 0) (H1:=[some<|.l []]) rfl ?_
 refine gr (H':=[some<|.l []]) (vs:=[.l [.t [.i 0,.i cs.length]]]) (items:=[.t [.i 0,.i cs.length]]) (λi ae H=>∃o5 o6 o7 o8 o9 qK qL,ae=[some<|bM cs,some bB,some<|.s w,some<|.i 125,some<|.e 0,o5,o6,o7,o8,o9,qK,qL]/\
   H=[some<|.l<|[iW 0 (0+(cs.map br).length) (cs.map br) b ((aW cs).map bQ) (eH (aW cs) b) cl].take i])
  (aJ (bP (vs:=[bM cs,bB]) (H1:=[some<|.l []]) rfl<|FS n hT.ok hT.pos _) bA) fF (Fx none none none none none none none rfl rfl) (λi x ae H hx hI=>?_) (λae H hI=>?_)
 ·(refine Fi hI λo5 o6 o7 o8 o9 qK qL aT aL=>?_;subst aT;subst aL)
  have hi:=cH hx;obtain rfl:i=0:=by simp at hi;exact Gb hi
  obtain rfl:=aK hx;refine aA _ rfl ?_;have hl:(cs.map br).length=cs.length:=by simp
  refine aZ (v:=bM cs) (H1:=[some<|.l []]) (pG (p:=bM cs) (q:=.i 0) (r:=.i cs.length) (H1:=[some<|.l []]) (H2:=[some<|.l []]) rfl rfl rfl<|by have:=Gc (H:=[some<|.l []]) (l:=cs.map br)<|Se hlen hl;rw[hl]at this;exact this) ?_;refine aZ (v:=.l<|(aW cs).map bQ) (H1:=[some<|.l []]) (bP (vs:=[bM cs,bB]) (H1:=[some<|.l []]) rfl<|El n hT.ok _) ?_;refine aZ (v:=.i b) (H1:=[some<|.l []]) (bP (vs:=[.l<|(aW cs).map bQ,.s w]) (H1:=[some<|.l []]) rfl<|eb _) ?_;refine kP (l:=[.l<|eH (aW cs) b,.l cl]) (H1:=[some<|.l []]) (bP (vs:=[.l<|(aW cs).map bQ,.i b,.i 125]) (H1:=[some<|.l []]) rfl ec) rfl ?_;refine eW (m:=0) (l1:=[]) (l2:=[]) (v:=iW 0 (0+(cs.map br).length) (cs.map br) b ((aW cs).map bQ) (eH (aW cs) b) cl) (H1:=[some<|.l []]) (H2:=[some<|.l []]) rfl rfl
   (bP (vs:=[.i 0,bM cs,.i b,.l<|(aW cs).map bQ,.l<|eH (aW cs) b,.l cl]) (H1:=[some<|.l []]) rfl<|FC (n+3) (kU cs) (jH _) (zk _ _) c1 _) rfl (by simp) (cu<|Fx _ _ _ _ _ _ _ rfl rfl)
 ·(refine Fi hI λo5 o6 o7 o8 o9 qK qL aM aP=>?_;clear hI;subst aM;subst aP)
  refine bX (v:=.e 0) rfl (gu (l:=[iW 0 (0+(cs.map br).length) (cs.map br) b ((aW cs).map bQ) (eH (aW cs) b) cl]) rfl λx hx=>?_);refine rR (dO.mp hx) ?_;exact FM (kU cs) (jH _) (zk _ _) c1 _ _
noncomputable def kh(aH:Nat->bK)(n:Nat)(fl:au):Prop:=fl.length=n/\∀i x,fl[i]?=some x->(x=.n/\aH i=none)\/∃l:Int,x=.i l/\aH i≠none/\0<=l/\l<=60
set_option tactic.hygienic true in
theorem kh.set{aH:Nat->bK}{n:Nat}{fl:au}(h:kh aH n fl){i:Nat}{l:Int}(h1:aH i≠none)(h2:0<=l)(h3:l<=60):kh aH n (fl.set i<|.i l):=by
 refine⟨by refine rR i5 ?_;exact h.1,λj x hx=>?_⟩;rw[List.getElem?_set]at hx;split at hx
 ·rename_i e;subst e;split at hx
  ·exact .inr<|iq l ((aK hx).symm) h1 h2 h3
  ·exact nN hx
 ·exact h.2 j x hx
theorem zip_get{l r:au}{i:Nat}{x:PV}(h:(gZ l r)[i]?=some x):∃a b,l[i]?=some a/\r[i]?=some b/\x=.t [a,b]:=by unfold gZ at h;rw[cQ]at h;refine aC (gV.mp h) λp hp aN=>?_;clear h;subst aN;rw[List.getElem?_zip_eq_some]at hp;exact fg p.1 p.2 hp.1 hp.2 rfl
theorem GE{l r:au}:fb .z [.l l,.l r]=some (gZ l r):=rfl
theorem kh.flat{aH:Nat->bK}{n:Nat}{fl:au}(h:kh aH n fl):∀x∈fl,x=.n\/(∃b,x=.b b)\/(∃i,x=.i i)\/∃s,x=.s s:=λx hx=>by
 refine X1 (kA hx) λi hi=>?_;clear hx;rcases h.2 i x hi with⟨rfl,_⟩|⟨l,rfl,_⟩
 ·exact .inl rfl
 ·exact .inr<|.inr<|.inl ⟨l,rfl⟩
theorem GM(n:Nat){cs:bk}{b:Int}{cl:au}(hT:mT cs)(h1:bT cl)(h2:cl.length=cs.length)(H:ak):
  ∃ss,gam (n+4) "BidiParagraph" "sequences" [iW 0 (0+(cs.map br).length) (cs.map br) b ((aW cs).map bQ) (eH (aW cs) b) cl] H=some (.l ss,H)/\∀s∈ss,∃pl cl lv bh b6 co,Eg (eM (aW cs) b) (aW cs).length s pl cl lv bh b6 co:=by
 have hlen:=hT.le;refine aC (FB n (base:=b) (ks:=aW cs) hT.zl (by rw[jk];exact Sf hlen) h1 (by(rewrite[jk];exact rR h2 rfl)) (kU cs) (by rw[jk];simp) []) λss e hs=>?_;refine aA ss ?_ hs;refine dX (n:=n+3) (ir:=HS) (vs:=[iW 0 (0+(cs.map br).length) (cs.map br) b ((aW cs).map bQ) (eH (aW cs) b) cl]) (by kernel_rfl) rfl rfl rfl (by simp only[List.all_cons,List.all_nil,Bool.and_true];exact Ej (kU cs) (jH _) (zk _ _) h1 6) ?_;show Ok (aF (gam<|n+3) AX [some<|iW 0 (0+(cs.map br).length) (cs.map br) b ((aW cs).map bQ) (eH (aW cs) b) cl] []) _;unfold AX
 refine bX (v:=.l ss) (H':=[]) (bP (vs:=[.l<|(aW cs).map bQ,.l<|eH (aW cs) b,.l cl,.i b,.l<|cs.map br]) (H1:=[])
  (aJ (dF dP rfl (by decide) rfl)<|aJ (dF dP rfl (by decide) rfl)<|aJ (dF dP rfl (by decide) rfl)<|aJ (dF dP rfl (by decide) rfl)<|aJ (dF dP rfl (by decide) rfl) bA) e) ?_
 exact jg λx hx=>by refine X6 (hs x hx) λpl cl lv bh b6 co Q=>?_;refine rR Q.eq ?_;exact sS (ints_of pl) Q.Eh Q.Ei 1
theorem GT{cs:bk}{b:Int}(hlen:cs.length<=20)(hb:0<=b/\b<=1):kh (eM (aW cs) b) cs.length (eH (aW cs) b):=by
 refine⟨by rw[NX,jk],λi x hx=>?_⟩;have hi:=cH hx;rw[NX]at hi;rw[show eH (aW cs) b=gg (eM (aW cs) b) (aW cs).length from rfl,zd hi]at hx;obtain rfl:=aK hx;rw[jk]at hi;cases hl:eM (aW cs) b i with
 |none=>exact .inl ⟨rfl,rfl⟩
 |some l=>
  have:=Nv _ _ _ hl;exact .inr<|iq l rfl nofun (VX hb this)<|VY hlen hb hi this
theorem Ha(n:Nat){N:Nat}{ss ll:au}{aH:Nat->bK}{P:PV}{T:Res->Prop}(hat:∀{r:bf} {H:ak},az (gam<|n+7) (.f (.v 0) "levels") (some P::r) H=some (.l ll,H))(em:az (gam<|n+7) (.j (.v 0) "sequences" []) [some P,some bB,some<|.e 0,none,none,none] [some<|.l ll]=some (.l ss,[some<|.l ll]))
  (h0:kh aH N ll)(gJ:∀x l,x<N->aH x=some l->0<=l/\l<=41)(hs:∀s∈ss,vC aH N s)(fin:∀fl ae,kh aH N fl->T (.r<|.e 0,ae,[some<|.l fl])):
  Ok (aF (gam<|n+7) Bp [some P,some bB,none,none,none,none] []) T:=by
 unfold Bp;refine aZ (v:=.e 0) (H1:=[some<|.l ll]) (by refine rR lM<|rR (aJ hat bA) ?_;rfl) ?_;refine lK (vs:=[.l ss]) (items:=ss) (λ(U:au) (z:bR×bR×bR)=>[some P,some bB,some<|.e 0,z.1,z.2.1,z.2.2]) (λU fl U=>[some<|.l fl]) (λU fl U=>kh aH N fl) ll (none,none,none)
  (aJ em bA) rfl fF h0 (λi x fl z hx hf T k=>?_) (λfl z hf=>bX (v:=.e 0) rfl<|fin fl _ hf)
 refine X6 (hs x<|dY hx) λpl zh lv bh b6 co Q=>?_;refine c_ (xk n (pl:=pl.map aE) (lv:=lv) (bh:=bh) (b6:=b6) (ints_of pl) Q.Eh Q.Ei (by refine rR Q.con<|rR Q.cn ?_;exact bY _) (by refine rR Q.cn ?_;exact Q.NR.sz) [some<|.l fl]) λout eo ho hon=>?_;refine aC Q.Fk λx0 Hb hlx=>?_;have hbd:=gJ x0 lv Hb hlx;have hel:=Q.NR.el;refine rR Q.eq ?_;clear Q hs;refine aA _ rfl ?_;refine lK (vs:=[.l<|pl.map aE,.l out]) (items:=gZ (pl.map aE) out) (λ(U:au) (y:bR×bR)=>[some P,some bB,some<|.e 0,some<|fG (pl.map aE) zh lv bh b6 co,y.1,y.2]) (λU fl U=>[some<|.l fl]) (λU fl U=>kh aH N fl) fl z.2
  (aJ (dF (p:=fG (pl.map aE) zh lv bh b6 co) rfl rfl (by decide) rfl)<|aJ (bP (vs:=[fG (pl.map aE) zh lv bh b6 co,bB]) (H1:=[some<|.l fl]) rfl eo) bA) rfl GE hf (λj y fl u hy hf T k=>?_) (λfl u hf=>cu<|k fl (_,u) hf)
 refine d_ (zip_get hy) λp q hp hq aQ=>?_;subst aQ;rw[cQ]at hp;refine aC (gV.mp hp) λc hk aR=>?_;clear hp;clear hy;subst aR;refine aC (ho q<|dY hq) λl aT hl=>?_;clear hq;subst aT;have hel:=hel c<|dY hk
 exact aA _ rfl (pC (k:=c) (v:=.i l) (m:=0) (l1:=fl) (H1:=[some<|.l fl]) (H2:=[some<|.l fl]) (H3:=[some<|.l fl]) rfl rfl rfl rfl (by refine rR hf.1 ?_;exact hel.1)<|cu<|k _ (_,_) (hf.set hel.2 (Vj hbd hl)<|Vk hbd hl))
theorem Hc(n:Nat){cs:bk}{b:Int}{cl:au}(hT:mT cs)(hb:0<=b/\b<=1)(h1:bT cl)(h2:cl.length=cs.length)(H:ak):
  ∃fl,gam (n+8) "" "paragraph_levels" [iW 0 (0+(cs.map br).length) (cs.map br) b ((aW cs).map bQ) (eH (aW cs) b) cl,bB] H=some (.l fl,H)/\kh (eM (aW cs) b) cs.length fl:=by
 have hlen:=hT.le;refine aC (GM (n+3) (b:=b) hT h1 h2 [some<|.l<|eH (aW cs) b]) λss es hs=>?_;rw[jk]at hs;obtain⟨v,e,fl,rfl,h⟩:=sL (c:="") (f:="paragraph_levels") (H:=H) (args:=[iW 0 (0+(cs.map br).length) (cs.map br) b ((aW cs).map bQ) (eH (aW cs) b) cl,bB]) (Q:=λv=>∃fl,v=.l fl/\kh (eM (aW cs) b) cs.length fl) (n:=n+7) (ir:=Ip) (vs:=[iW 0 (0+(cs.map br).length) (cs.map br) b ((aW cs).map bQ) (eH (aW cs) b) cl,bB]) (by kernel_rfl) rfl rfl rfl (by simp only[List.all_cons,List.all_nil,Bool.and_true,jj];exact Ej (kU cs) (jH _) (zk _ _) h1 6)
  λT K=>Ha n (dF dP rfl (by decide) rfl) (kc (H1:=[some<|.l<|eH (aW cs) b]) dP rfl (by decide) bA es) (GT hlen hb) (λx l h h'=>by have:=Nv _ _ _ h';exact VZ hb hlen h this) hs λfl ae hf=>K _ (.l fl) _ _ (gu (l:=fl) rfl λx hx=>iT<|hf.flat x hx) (aA fl rfl hf)
 exact aA fl e h
structure zm (ks:aY)(lv:bj):Prop where
 len:lv.length=ks.length
 none:∀i o,lv[i]?=some o->(o=none↔kQ (dM ks i)=true)
 bd:∀l,some l∈lv->0<=l/\l<=60
theorem NY:∀{fl:au},(∀x∈fl,x=.n\/∃l:Int,x=.i l)->∃lv:bj,fl=lv.map aD
 |[],_=>⟨[],rfl⟩
 |x::fl,h=>by
  refine X1 (NY (fl:=fl) λy hy=>h y<|dh _ hy) λlv aL=>?_;subst aL;rcases h x cR with rfl|⟨l,rfl⟩
  ·exact⟨none::lv,rfl⟩
  ·exact⟨some l::lv,rfl⟩
theorem Hd(ks:aY)(b:Int)(i:Nat):eM ks b i=none↔kQ (dM ks i)=true:=by show(if kQ (dM ks i)then none else some (fc (if dM ks i="PDI" then fT (gK ks b i)else gK ks b i)))=none↔_;cases kQ (dM ks i)<;>simp
theorem He{cs:bk}{b:Int}{fl:au}(hf:kh (eM (aW cs) b) cs.length fl):∃lv:bj,fl=lv.map aD/\zm (aW cs) lv:=by
 obtain⟨lv,rfl⟩:=NY (fl:=fl) λx hx=>by
  refine X1 (kA hx) λi hi=>?_;clear hx;rcases hf.2 i x hi with⟨rfl,_⟩|⟨l,rfl,_⟩
  ·exact .inl rfl
  ·exact .inr ⟨l,rfl⟩
 refine aA lv rfl ⟨by(rewrite[jk];refine rL hf.1 ?_;rw[bI]),λi o ho=>?_,λl hl=>?_⟩
 ·rw[<-Hd _ b];rcases hf.2 i (aD o) (by rw[cQ,ho];rfl)with⟨h1,h2⟩|⟨l,h1,h2,_⟩
  ·induction o using e9 with
   |none=>rw[h2]
   |some l=>injection h1
  ·induction o using e9 with
   |none=>injection h1
   |some l=>exact⟨nofun,λh=>(h2 h).elim⟩
 ·refine X1 (kA hl) λi hi=>?_;rcases hf.2 i (aD<|some l) (by rw[cQ,hi];rfl)with⟨h1,h2⟩|⟨l',h1,h2,h3⟩
  ·injection h1
  ·obtain rfl:=PV.i.inj h1;exact h3
theorem Hk(n:Nat){cs:bk}{w:String}(hT:mT cs)(hw:isWord w):∃lv:bj,zm (aW cs) lv/\∀H,gam (n+9) "" "bidi_levels" [bM cs,bB,.s w] H=some (.l<|lv.map aD,H):=by
 refine eJ (Go (n+3) hT hw [some<|.l []]) λb cl hb h1 h2 e=>?_;refine aC (Hc n hT hb h1 h2 [some<|.l []]) λfl ef hf=>?_;refine aC (He hf) λlv aM gJ=>?_;subst aM;have hlen:((lv.map aD).length:Nat)<=20:=by refine rR hf.1 ?_;exact hT.le
 refine aA lv gJ λH=>qA (n:=n+8) (ir:=Iq) (vs:=[bM cs,bB,.s w,.i 125]) (by kernel_rfl) rfl rfl rfl (by simp[n7,jj,dj]) λT K=>?_;show Ok (aF (gam<|n+8) Bq [some<|bM cs,some bB,some<|.s w,some<|.i 125,none,none] []) T;revert e ef;refine gen (iW 0 (0+(cs.map br).length) (cs.map br) b ((aW cs).map bQ) (eH (aW cs) b) cl) λP e ef=>?_;unfold Bq;refine aZ (v:=.e 0) (H1:=[some<|.l []]) rfl ?_;refine DM (vs:=[.l [P]]) (items:=[P]) (λo=>[some<|bM cs,some bB,some<|.s w,some<|.i 125,some<|.e 0,o]) (λi U=>[some<|.l (if i=0 then[]else lv.map aD)]) (λU U=>True) none
   (aJ (bP (vs:=[bM cs,bB,.s w,.i 125]) (H1:=[some<|.l []]) rfl e) bA) rfl fF trivial (λi x o hx U T k=>?_) (λo U=>?_)
 ·have hi:=cH hx;obtain rfl:i=0:=Nat.lt_one_iff.mp hi;obtain rfl:=aK hx;exact aA _ rfl (sR (m:=0) (l1:=[]) (l2:=[]) (v:=.l<|lv.map aD) (r:=lv.map aD) (H1:=[some<|.l []]) (H2:=[some<|.l []]) rfl rfl (bP (vs:=[P,bB]) (H1:=[some<|.l []]) rfl ef) rfl rfl (by(refine rR List.length_nil ?_;rewrite[Nat.zero_add]);exact eR hlen<|by decide)<|cu<|k _ trivial)
 ·exact bX (v:=.e 0) rfl<|K _ _ _ (gu (l:=lv.map aD) rfl λx hx=>iT<|hf.flat x hx)
theorem Hm(n:Nat){cs:bk}{w:String}(hT:mT cs)(hw:isWord w):∃b:Int,(0<=b/\b<=1)/\∀H,gam (n+5) "" "base_level" [bM cs,bB,.s w] H=some (.i b,H):=by have hlen:=hT.le;refine aC (NW (n+2) (ks:=aW cs) hw hT.zl<|by rw[jk];exact Ad hlen) λb hb eb=>?_;refine aA b hb λH=>dX (n:=n+4) (ir:=Hy) (vs:=[bM cs,bB,.s w]) (by kernel_rfl) rfl rfl rfl (by simp[n7,jj,dj]) ?_;show Ok (aF (gam<|n+4) AD [some<|bM cs,some bB,some<|.s w] []) _;unfold AD;exact bX (v:=.i b) (H':=[]) (bP (vs:=[.l<|(aW cs).map bQ,.s w]) (H1:=[]) (aJ (bP (vs:=[bM cs,bB]) (H1:=[]) rfl<|El n hT.ok _) rfl)<|eb _) rfl
noncomputable def lo(lv:bj)(i:Nat):bK:=lv.getD i none
theorem lQ{lv:bj}{i:Nat}(h:i<lv.length):(lv.map aD)[i]?=some (aD<|lo lv i):=by rw[cQ,eE h,lo,fV,eE h];rfl
theorem zo{lv:bj}{i:Nat}(h:i<lv.length):lv[i]?=some (lo lv i):=by rw[lo,fV,eE h];rfl
noncomputable def jl:aY:=["S","B"]
noncomputable def kW:aY:=["WS","FSI","LRI","RLI","PDI"]
def mU(lv:bj)(ks:aY)(i:Nat):Bool:=(lo lv i).isNone||decide (dM ks i∈kW)
def kX(lv:bj)(ks:aY)(b:Nat):Nat->Bool
 |0=>true
 |k+1=>if mU lv ks (b-(k+1))then kX lv ks b k else decide (dM ks (b-(k+1))∈jl)
def qM(lv:bj)(ks:aY)(base:Int)(b i:Nat):bK:=(lo lv i).map λl=>if kX lv ks b (b-i)then base else l
def gi(lv:bj)(ks:aY)(base:Int)(a b:Nat):bj:=(List.range<|b-a).map λj=>qM lv ks base b<|a+j
theorem Hn:uy=.t (jl.map .s):=rfl
theorem HI:uz=.t (kW.map .s):=rfl
noncomputable def qN:aY:=["RLE","LRE","RLO","LRO","PDF","BN"]
theorem H0{k:String}(h:nV k):k∈qN↔kQ k=true:=by
 simp only[qN,List.mem_cons,List.not_mem_nil,or_false,kQ,Bool.or_eq_true,beq_iff_eq];constructor
 ·rintro(h'|h'|h'|h'|h'|h')
  ·simp[h']
  ·simp[h']
  ·exact absurd h' h.2.2.1
  ·exact absurd h' h.2.2.2
  ·simp[h']
  ·simp[h']
 ·rintro(((h'|h')|h')|h')<;>simp[h']
noncomputable def jm(R O:Nat->PV)(N i:Nat):au:=(List.range N).map λj=>if N-i<=j then R j else O j
theorem zp{R O:Nat->PV}{N i j:Nat}(h:j<N):(jm R O N i)[j]?=some (if N-i<=j then R j else O j):=by unfold jm;rw[cQ,lU h];rfl
theorem Em(R O:Nat->PV)(N i:Nat):(jm R O N i).length=N:=by simp[jm]
theorem ext_get{l r:au}(hl:l.length=r.length)(h:∀i,i<l.length->l[i]?=r[i]?):l=r:=by
 refine List.ext_getElem? λi=>?_;rcases dm i l.length with h'|h'
 ·exact h i h'
 ·rw[gO h',gO<|Sg hl h']
set_option tactic.hygienic true in
theorem H5{R O:Nat->PV}{N i:Nat}(h:i<N):(jm R O N i).set (N-1-i) (R<|N-1-i)=jm R O N (i+1):=by
 refine ext_get (by simp[jm]) λj hj=>?_;rw[i5,Em]at hj;rw[List.getElem?_set,Em,zp hj,zp hj];split
 ·rename_i e;subst e;exact rR (bw<|Sh hj)<|rR (bw Sj) rfl
 ·rename_i e;congr 1;by_cases h1:N-i<=j
  ·exact rR (bw h1)<|rR (bw<|Sk h1) rfl
  ·exact rR (bO h1)<|rR (bO<|Sl e h1) rfl
structure mV (cs:bk)(lv:bj)(a b:Nat):Prop where
 T:mT cs
 lv:zm (aW cs) lv
 ab:a<b
 bn:b<=cs.length
section
variable {cs:bk}{lv:bj}{a b:Nat}(L:mV cs lv a b)
include L
theorem mV.n:lv.length=cs.length:=by(refine rR L.lv.len ?_;rw[jk])
theorem mV.skip{i:Nat}(h:i<b):mU lv (aW cs) i=(decide (dM (aW cs) i∈qN)||decide (dM (aW cs) i∈kW)):=by
 have h1:=L.lv.none i _ (zo<|by refine rR L.n ?_;have:=L.bn;exact Ge h this);have h2:dM (aW cs) i∈aW cs:=by
  have:i<(aW cs).length:=by rw[jk];have:=L.bn;exact Ge h this
  rw[dM,fV,eE this];exact tP this
 unfold mU;congr 1;rw[Bool.eq_iff_iff,tY,ff,h1,H0<|Ek<|NV L.T.ok h2]
theorem mV.end(base:Int){i:Nat}(h:i<b):kX lv (aW cs) b (b-i)=(if mU lv (aW cs) i then kX lv (aW cs) b (b-(i+1))else decide (dM (aW cs) i∈jl)):=by
 obtain⟨k,hk⟩:∃k,b-i=k+1:=⟨b-i-1,Sm h⟩
 refine rR hk ?_;rewrite[kX];exact rR (show b-(k+1)=i from So hk)<|rR (show b-(i+1)=k from Sp hk) rfl
end
theorem set_same{ae:bf}{i:Nat}{v:bR}(h:ae[i]?=some v):ae.set i v=ae:=by
 refine List.ext_getElem? λj=>?_;by_cases e:i=j
 ·subst e;rw[jL<|cH h,h]
 ·rw[jr e]
section
variable {n:Nat}{lv:bj}{base:Int}{a b j:Nat}{k:String}{e:Bool}{X:au}{ae:bf}{H:ak}{T:bf->ak->Prop}{t:List CS}{Q:Res->Prop}
theorem Id(v5:ae[5]?=some (some<|.b e))(v7:ae[7]?=some (some<|.s k))(h:Ok (aF (gam n) t (ae.set 5<|some<|.b (if decide (k∈kW)||decide (k∈qN)then e else decide (k∈jl))) H) Q)(hk:k∈jl->k∉kW/\k∉qN):
  Ok (aF (gam n) (.i (.m .i (.v 7)<|.g "LINE_SEPARATORS" uy)
   [.a 5<|.c<|.b true]
   [.i (.a true [.m .o (.v 7)<|.g "LINE_BLANKS" uz,.m .o (.v 7)<|.g "REMOVED" oK])
    [.a 5<|.c<|.b false]
    []]::t) ae H) Q:=by
 refine bU (c:=decide<|k∈jl) (H':=H) (bu (q:=uy) (bq v7) rfl<|by exact rR Hn<|rR gT rfl) (λhc=>?_) λhc=>?_
 ·have hs:=hk<|cG hc
  rw[dG hs.1,dG hs.2,hc]at h;exact aZ cL h
 ·refine bU (c:=!decide (k∈kW)&&!decide (k∈qN)) (H':=H) (f_ (bu (q:=uz) (bq v7) rfl<|by exact rR HI<|rR yU rfl) λU=>bu (q:=oK) (bq v7) rfl<|by refine rR M7<|rR yU ?_;rfl) (λhc2=>?_) λhc2=>?_
  ·rw[cy,k9,k9]at hc2;rw[hc2.1,hc2.2,hc]at h;exact aZ cL h
  ·rw[<-Bool.not_or,tH]at hc2;rw[bw hc2,set_same v5]at h;exact h
theorem It(qO:a<=j)(hX:X[j-a]?=some (aD<|lo lv j))(v2:ae[2]?=some (some<|.t [.i a,.i b]))(v3:ae[3]?=some (some<|.i base))(v4:ae[4]?=some (some<|.e 0))(v5:ae[5]?=some (some<|.b e))(v6:ae[6]?=some (some<|.i j))
  (K:T ae [some<|.l<|X.set (j-a)<|aD ((lo lv j).map λl=>if e then base else l)]):
  Ok (aF (gam n) [.i (.a true [.v 5,.m .t (.d (.v 4)<|.b .s (.v 6)<|.d (.v 2)<|.c<|.i 0)<|.c .n])
   [.t (.v 4) (.b .s (.v 6)<|.d (.v 2)<|.c<|.i 0)<|.v 3]
   []] ae [some<|.l X]) (Nx T):=by
 have hix:az (gam n) (.b .s (.v 6)<|.d (.v 2)<|.c<|.i 0) ae [some<|.l X]=some (.i ((j-a:Nat):Int),[some<|.l X]):=
  (dD (p:=.i j) (q:=.i a) (bq v6) (e_idx (p:=.t [.i a,.i b]) (q:=.i 0) (bq v2) cL sO) rfl).trans (by exact rR (Int.ofNat_sub qO) rfl)
 refine bU (c:=e&&(lo lv j).isSome) (H':=[some<|.l X]) (f_ (bq v5) λU=>bu (p:=aD<|lo lv j) (q:=.n) (e_idx (p:=.e 0) (q:=.i ((j-a:Nat):Int)) (bq v4) hix<|yQ rfl hX) cL<|qI _) (λhc=>?_) λhc=>?_
 ·rw[cy]at hc;refine X1 (nh.mp hc.2) λl hl=>?_;rw[hl,hc.1]at K;exact pC (k:=j-a) (v:=.i base) (m:=0) (l1:=X) (H1:=[some<|.l X]) (H2:=[some<|.l X]) (H3:=[some<|.l X]) (bq v3) (bq v4) hix rfl (cH hX)<|cu K
 ·have e':((lo lv j).map λl=>if e then base else l)=lo lv j:=by
   cases h:lo lv j with
   |none=>rfl
   |some l=>
    rw[h,show(some l).isSome=true from rfl,Bool.and_true]at hc;refine rR hc ?_;rfl
  have e2:X.set (j-a) (aD<|lo lv j)=X:=by
   refine List.ext_getElem? λi=>?_;by_cases q:j-a=i
   ·subst q;rw[jL<|cH hX,hX]
   ·rw[jr q]
  rw[e',e2]at K;exact cu K
end
theorem NZ{k:String}(h:k∈jl):k∉kW/\k∉qN:=by simp only[jl,List.mem_cons,List.not_mem_nil,or_false]at h;rcases h with rfl|rfl<;>decide
theorem Ix{a b i:Nat}(h:i<b-a):((b:Int)-1-i)=((b-1-i:Nat):Int)/\b-(b-1-i)=i+1/\b-(b-1-i+1)=i/\a<=b-1-i/\b-1-i<b/\b-a-1-i=b-1-i-a/\b-1-i-a<b-a/\¬b-a-i<=b-1-i-a:=by refine X1 (Nat.exists_eq_add_of_lt<|Nat.add_lt_of_lt_sub' h) λc aP=>?_;subst aP;refine rR (show a+i+c+1-1-i=a+c from Sq) ?_;refine⟨Ss,Su,Sv,jt _ _,Sw,?_,?_,?_⟩<;>rw[tV]<;>(first|lia|omega)
def Iy(lv:bj)(ks:aY)(a b:Nat)(base:Int)(e:Bool)(x y:bR):bf:=[some<|.l<|lv.map aD,some<|.l<|ks.map bQ,some<|.t [.i a,.i b],some<|.i base,some<|.e 0,some<|.b e,x,y]
theorem N1(n:Nat){cs:bk}{lv:bj}{a b:Nat}{base:Int}(L:mV cs lv a b)(H:ak):
  gam (n+1) "" "line_levels" [.l<|lv.map aD,.l<|(aW cs).map bQ,.t [.i a,.i b],.i base] H=some (.l<|(gi lv (aW cs) base a b).map aD,H):=by
 have hlen:=L.T.le;have hn:=L.n;have hab:=L.ab;have hbn:=L.bn;have IN:fz 8 (.l<|lv.map aD)=true:=nS λx hx=>by(refine aC (bV.mp hx) λo U aN=>?_;clear hx;subst aN);exact za _
 refine qA (ir:=Ir) (vs:=[.l<|lv.map aD,.l<|(aW cs).map bQ,.t [.i a,.i b],.i base]) (by kernel_rfl) rfl rfl rfl (by simp only[List.all_cons,List.all_nil,Bool.and_true,IN,(jH<|aW cs).fz,Bool.true_and];rfl) λT K=>?_;show Ok (aF (gam n) Br [some<|.l<|lv.map aD,some<|.l<|(aW cs).map bQ,some<|.t [.i a,.i b],some<|.i base,none,none,none,none] []) T;unfold Br;have En:((lv.map aD).take b).drop a=jm (λj=>aD<|qM lv (aW cs) base b<|a+j) (λj=>aD<|lo lv<|a+j) (b-a) 0:=by
  have N2:min b (lv.map aD).length=b:=by(rewrite[bI];refine rR hn ?_);exact oz hbn
  refine ext_get (by(refine rR pP<|rR gU<|rR N2 ?_;rw[Em])) λj hj=>?_;rw[pP,gU,N2]at hj;have hj':a+j<b:=Nat.add_lt_of_lt_sub' hj;rw[List.getElem?_drop,tO hj',lQ<|by refine rR hn ?_;exact oq hj' hbn,zp hj,bO (show¬b-a-0<=j from Nat.not_le.mpr hj)]
 have Eo:jm (λj=>aD<|qM lv (aW cs) base b<|a+j) (λj=>aD<|lo lv<|a+j) (b-a) (b-a)=(gi lv (aW cs) base a b).map aD:=by unfold jm gi;refine rR i6 ?_;exact m9 λj U=>bw<|by rw[pU];exact iF _
 have hR:∀j,a<=j->(λj=>aD<|qM lv (aW cs) base b<|a+j) (j-a)=aD ((lo lv j).map λl=>if kX lv (aW cs) b (b-j)then base else l):=λj h=>by show aD (qM lv (aW cs) base b<|a+(j-a))=_;refine rR (Nat.add_sub_cancel' h) ?_;rfl
 have hO:∀j,a<=j->(λj=>aD<|lo lv<|a+j) (j-a)=aD (lo lv j):=λj h=>by show aD (lo lv<|a+(j-a))=_;exact rR (Nat.add_sub_cancel' h) rfl
 revert En Eo hR hO;refine gen (λj=>aD<|qM lv (aW cs) base b<|a+j) λR=>?_;refine gen (λj=>aD<|lo lv<|a+j) λO En Eo hR hO=>?_
 refine aZ (v:=.e 0) (H1:=[some<|.l<|jm R O (b-a) 0]) (by
  refine rR lM (rR (aJ (pG (p:=.l<|lv.map aD) (q:=.i a) (r:=.i b) (H1:=[]) (H2:=[]) rfl rfl rfl<|vG (Gf hlen hab hbn) (wX hlen hbn) (by rw[bI];exact Sy hn hbn)<|gX hab) bA)<|rR En ?_)
  rfl) ?_
 refine aZ (v:=.b true) (H1:=[some<|.l<|jm R O (b-a) 0]) rfl ?_;refine lK (vs:=[.i<|b-1,.i<|a-1,.i<|-1]) (items:=kK (b-1)<|a-1) (λe (z:bR×bR)=>Iy lv (aW cs) a b base e z.1 z.2) (λi U U=>[some<|.l<|jm R O (b-a) i]) (λi e U=>e=kX lv (aW cs) b i) true (none,none)
  rfl rfl (MZ Ab (Sz hlen hbn) Ab<|SA hlen hab hbn) rfl (λi x e z hx he T k=>?_) (λe z he=>?_)
 ·(refine U1 (M0 hx) λaQ hlt=>?_;clear hx;subst aQ)
  have hi:i<b-a:=SD hlt;refine U7 (Ix hi) λhat h1 h2 qO mW h5 h6 h7=>?_;refine rR hat ?_;have hm:=H5 (R:=R) (O:=O) hi;rw[h5]at hm;have hg:(jm R O (b-a) i)[b-1-i-a]?=some (O<|b-1-i-a):=by exact rR (zp h6)<|rR (bO h7) rfl
  clear hat h5 h6 h7;revert h1 h2 qO mW hm hg;refine gen (b-1-i) λj h1 h2 qO mW hm hg=>?_;have hE:=L.end base mW;rw[h1,h2]at hE;rw[hO j qO]at hg;rw[hR j qO,h1]at hm;refine aA _ rfl (aZ (v:=.s<|dM (aW cs) j) (H1:=[some<|.l<|jm R O (b-a) i]) (e_idx (p:=.l<|(aW cs).map bQ) (q:=.i j) rfl rfl<|dB<|sV<|by rw[jk];exact Ac hbn mW) ?_);rw[L.skip mW,Bool.or_comm,<-he]at hE;refine Id (e:=e) rfl rfl ?_ NZ;refine rL hE ?_;refine It (e:=kX lv (aW cs) b<|i+1) qO hg rfl rfl rfl rfl rfl ?_;refine rR hm ?_;exact k _ (_,_) rfl
 ·(rewrite[M1];refine rR (show((b:Int)-1-(a-1)).toNat=b-a from SE)<|rR Eo ?_)
  exact bX (v:=.e 0) rfl<|K _ _ _ (gu rfl λx hx=>by(refine aC (bV.mp hx) λo U aR=>?_;clear hx;subst aR);exact D6 _)
theorem kY(lv:bj)(n:Nat):fz (n+1) (.l<|lv.map aD)=true:=nS λx hx=>by(refine aC (bV.mp hx) λo U aT=>?_;clear hx;subst aT);exact za _
theorem IO(lv:bj)(n:Nat)(H:ak):∀x∈lv.map aD,b8 n H x=some x:=λx hx=>by(refine aC (bV.mp hx) λo U aL=>?_;clear hx;subst aL);exact D6 _
noncomputable def vH:PV:=.t<|kW.map .s
section
variable {n:Nat}{cs:bk}{lv:bj}{base:Int}{a b j q:Nat}{E:Bool}{X:au}{ae:bf}{H:ak}{T:bf->ak->Prop}
theorem N3{i:Nat}(h:q<lv.length)(v0:ae[0]?=some (some<|.l<|lv.map aD))(vi:ae[i]?=some (some<|.i q)):az (gam n) (.d (.v 0)<|.v i) ae H=some (aD<|lo lv q,H):=
 e_idx (p:=.l<|lv.map aD) (q:=.i q) (bq v0) (bq vi) (dB<|lQ h)
theorem Ep{ks:aY}{i:Nat}(h:q<ks.length)(v1:ae[1]?=some (some<|.l<|ks.map bQ))(vi:ae[i]?=some (some<|.i q)):az (gam n) (.d (.v 1)<|.v i) ae H=some (.s<|dM ks q,H):=
 e_idx (p:=.l<|ks.map bQ) (q:=.i q) (bq v1) (bq vi) (dB<|sV h)
theorem I'{ks:aY}(hb:b<=lv.length)(hk:b<=ks.length)(v0:ae[0]?=some (some<|.l<|lv.map aD))(v1:ae[1]?=some (some<|.l<|ks.map bQ))(v2:ae[2]?=some (some<|.t [.i a,.i b]))(v5:ae[5]?=some (some vH))(v7:ae[7]?=some (some<|.i q)):
  az (gam n) (.a true [.m .l (.v 7)<|.d (.v 2)<|.c<|.i 1,.a false [.m .s (.d (.v 0)<|.v 7)<|.c .n,.m .i (.d (.v 1)<|.v 7)<|.v 5]]) ae H=some (.b<|decide ((q:Int)<b)&&mU lv ks q,H):=
 f_ (bu (p:=.i q) (q:=.i b) (bq v7) (e_idx (p:=.t [.i a,.i b]) (q:=.i 1) (bq v2) cL sP) rfl) λhc=>by
  have hq:q<b:=oi.mp<|cG hc
  exact pB (bu (N3 (oq hq hb) v0 v7) cL<|NI _) λU=>bu (Ep (oq hq hk) v1 v7) (bq v5) gT
theorem Jn{ks:aY}(hk:b<=ks.length)(hq:q<=b)(v1:ae[1]?=some (some<|.l<|ks.map bQ))(v2:ae[2]?=some (some<|.t [.i a,.i b]))(v7:ae[7]?=some (some<|.i q))(hE:q=b->E=true)(N4:q<b->E=decide (dM ks q∈jl)):
  az (gam n) (.a false [.m .e (.v 7)<|.d (.v 2)<|.c<|.i 1,.m .i (.d (.v 1)<|.v 7)<|.t [.c<|.s "S",.c<|.s "B"]]) ae H=some (.b E,H):=by
 have e1:∀H,az (gam n) (.m .e (.v 7)<|.d (.v 2)<|.c<|.i 1) ae H=some (.b<|decide<|(q:Int)=b,H):=λH=>bu (p:=.i q) (q:=.i b) (bq v7) (e_idx (p:=.t [.i a,.i b]) (q:=.i 1) (bq v2) cL sP) rfl;rcases dm q b with h|h
 ·refine rR (N4 h) ?_;have:=pB (b:=.m .i (.d (.v 1)<|.v 7)<|.t [.c<|.s "S",.c<|.s "B"]) (d:=decide<|dM ks q∈jl) (e1 H) λU=>bu (Ep (oq h hk) v1 v7) (q:=.t<|jl.map .s) rfl gT
  rwa[dG λe=>gP h<|Int.ofNat_inj.mp e,Bool.false_or]at this
 ·clear hk v2 N4;obtain rfl:=eI hq h;refine rR (hE rfl) ?_;have:=pB (d:=true) (b:=.m .i (.d (.v 1)<|.v 7)<|.t [.c<|.s "S",.c<|.s "B"]) (e1 H) λh=>absurd (lW h) λh=>h rfl
  rwa[di rfl,Bool.true_or]at this
theorem Kb{ks:aY}(hb:j<lv.length)(hk:j<ks.length)(hX:X.length<=900)(hE:E=if mU lv ks j then E else decide (dM ks j∈jl))(v0:ae[0]?=some (some<|.l<|lv.map aD))(v1:ae[1]?=some (some<|.l<|ks.map bQ))(v3:ae[3]?=some (some<|.i base))(v4:ae[4]?=some (some<|.e 0))(v5:ae[5]?=some (some vH))(v6:ae[6]?=some (some<|.i j))(v8:ae[8]?=some (some<|.b E))
  (K:T ae [some<|.l<|X++[aD ((lo lv j).map λl=>if E then base else l)]]):
  Ok (aF (gam n) [.i (.m .s (.d (.v 0)<|.v 6)<|.c .n)
   [.x<|.q (.v 4)<|.c .n]
   [.x<|.q (.v 4)<|.i (.a false [.m .i (.d (.v 1)<|.v 6)<|.t [.c<|.s "S",.c<|.s "B"],.a true [.m .i (.d (.v 1)<|.v 6)<|.v 5,.v 8]]) (.v 3)<|.d (.v 0)<|.v 6]] ae [some<|.l X]) (Nx T):=by
 have N5:X.length<=1000:=eR hX<|by decide
 have Er:=λH=>N3 (n:=n) (H:=H) hb v0 v6;have N6:=λH=>Ep (n:=n) (H:=H) hk v1 v6;refine bU (c:=(lo lv j).isNone) (H':=[some<|.l X]) (bu (Er _) cL<|NI _) (λhc=>?_) λhc=>?_
 ·rw[tY.mp hc]at K;exact eW (m:=0) (l1:=X) (l2:=X) (v:=.n) (H1:=[some<|.l X]) (H2:=[some<|.l X]) (bq v4) rfl cL rfl N5<|cu K
 ·have hS:mU lv ks j=decide (dM ks j∈kW):=by unfold mU;refine rR hc ?_;rfl
  obtain⟨l,hl⟩:∃l,lo lv j=some l:=nh.mp<|by(rewrite[<-Option.not_isNone];refine rR hc ?_);rfl
  rw[hl]at K Er;rw[hS]at hE;have N7:(decide (dM ks j∈jl)||(decide (dM ks j∈kW)&&E))=E:=by
   by_cases h1:dM ks j∈kW
   ·refine rR (dG λh=>(NZ h).1 h1)<|rR (di h1) ?_;rfl
   ·rw[dG h1]at hE⊢;rw[Bool.false_and,Bool.or_false];exact hE.symm
  refine eW (m:=0) (l1:=X) (l2:=X) (v:=.i (if E then base else l)) (H1:=[some<|.l X]) (H2:=[some<|.l X]) (bq v4) rfl
   (iB (c:=decide (dM ks j∈jl)||(decide (dM ks j∈kW)&&E)) (pB (bu (N6 _) (q:=.t<|jl.map .s) rfl gT) λU=>f_ (bu (N6 _) (q:=vH) (bq v5) gT) λU=>bq v8) (λh=>?_) λh=>?_) rfl N5 (cu K)
  ·rw[N7]at h;refine rR h ?_;exact bq v3
  ·rw[N7]at h;refine rR h ?_;exact Er _
end
def N8(lv:bj)(ks:aY)(a b:Nat)(base:Int)(x y z:bR):bf:=[some<|.l<|lv.map aD,some<|.l<|ks.map bQ,some<|.t [.i a,.i b],some<|.i base,some<|.e 0,some vH,x,y,z]
set_option tactic.hygienic true in
theorem Ki(n:Nat){cs:bk}{lv:bj}{a b:Nat}{base:Int}(L:mV cs lv a b)(H:ak):
  gam (n+1) "" "_law_reset" [.l<|lv.map aD,.l<|(aW cs).map bQ,.t [.i a,.i b],.i base] H=some (.l<|(gi lv (aW cs) base a b).map aD,H):=by
 have hlen:=L.T.le;have hab:=L.ab;have hbn:=L.bn;have hn:b<=lv.length:=L.n▸hbn;have hk:b<=(aW cs).length:=(jk cs).symm▸hbn;refine qA (ir:=IP) (vs:=[.l<|lv.map aD,.l<|(aW cs).map bQ,.t [.i a,.i b],.i base]) (by kernel_rfl) rfl rfl rfl (by simp only[List.all_cons,List.all_nil,Bool.and_true,kY,(jH<|aW cs).fz,Bool.true_and];rfl) λT K=>?_;show Ok (aF (gam n) BI [some<|.l<|lv.map aD,some<|.l<|(aW cs).map bQ,some<|.t [.i a,.i b],some<|.i base,none,none,none,none,none] []) T;unfold BI;refine kP (l:=[.e 0,vH]) (H1:=[some<|.l []]) rfl rfl ?_;refine sJ (vs:=[.i a,.i b]) (items:=fk a b) (N8 lv (aW cs) a b base) (λi U U U=>[some<|.l<|((gi lv (aW cs) base a b).take i).map aD]) (λU U U U=>True) none none none
  rfl rfl (pA jx (Gg hlen hab hbn) jx<|Gh hlen hbn) trivial (λi x u y z hx U T k=>?_) (λu y z U=>?_)
 ·(refine U1 (sQ hx) λaM hlt=>?_;clear hx;subst aM)
  have hi:a+i<b:=SG hlt;refine rR (show((a:Int)+i)=((a+i:Nat):Int)from rfl) ?_;have hnext:((gi lv (aW cs) base a b).take<|i+1).map aD=((gi lv (aW cs) base a b).take i).map aD++[aD ((lo lv<|a+i).map λl=>if kX lv (aW cs) b (b-(a+i))then base else l)]:=by
   refine rR pT<|rR kB ?_
   congr 1;unfold gi;rw[cQ,lU<|Nat.lt_sub_of_add_lt<|by rw[Nat.add_comm];exact hi];rfl
  have pH:(((gi lv (aW cs) base a b).take i).map aD).length<=900:=by rewrite[bI];refine rR gU ?_;exact eR (jN _ _)<|SH hlen hbn hlt
  have k:=k<|some<|.i (a+i:Nat)
  rw[hnext]at k;revert k pH;refine gen (((gi lv (aW cs) base a b).take i).map aD) λX pH k=>?_;clear hnext hlt;revert hi k;refine gen (a+i) λj mW k=>?_;refine aA _ rfl (aZ (v:=.i j) (H1:=[some<|.l X]) rfl ?_);refine Mv (m:=b-j) (λq:Nat=>N8 lv (aW cs) a b base (some<|.i j) (some<|.i q) z) (λU=>[some<|.l X]) (λm q=>q<=b/\m=b-q/\kX lv (aW cs) b (b-q)=kX lv (aW cs) b (b-j)) j rfl rfl
   ⟨Nat.le_of_lt mW,rfl,rfl⟩ (SI hlen hbn) (λm q hI T kw=>?_)
  refine U2 hI λhq2 aP hE=>?_;clear hI;subst aP;refine fg (decide ((q:Int)<b)&&mU lv (aW cs) q) _ (I' hn hk rfl rfl rfl rfl rfl) (λhc=>?_) (λhc=>?_)
  ·rw[cy,ff]at hc;have zq:q<b:=oi.mp hc.1;have e2:=L.end base zq;rw[hc.2,bw rfl,hE]at e2;exact⟨Nat.sub_pos_of_lt zq,aZ (v:=.i ((q+1:Nat):Int)) (H1:=[some<|.l X]) rfl<|cu<|kw (b-(q+1)) (q+1) (Nat.sub_lt_sub_left zq<|Nat.lt_succ_self q) ⟨zq,rfl,e2.symm⟩⟩
  ·refine aZ (v:=.b<|kX lv (aW cs) b<|b-j) (H1:=[some<|.l X]) (Jn hk hq2 rfl rfl rfl (λe=>?_) λh=>?_)<|Kb (oq mW hn) (oq mW hk) pH ?_ rfl rfl rfl rfl rfl rfl rfl<|k _ _ trivial
   ·(refine rL hE<|rR e ?_;rewrite[pU]);rfl
   ·have h2:mU lv (aW cs) q=false:=by rw[di<|oi.mpr h,qY]at hc;exact hc
    refine rL hE<|rR (L.end base h)<|rR h2 ?_;rfl
   ·split
    ·rfl
    ·rename_i h;exact rR (L.end base mW)<|rR (bO h) rfl
 ·(rewrite[qC];refine rR (show((b:Int)-a).toNat=b-a from Gi)<|rR (tU<|by rw[gi,bI,tQ];exact bY _) ?_)
  exact bX (v:=.e 0) rfl<|K _ _ _ (gu rfl<|IO _ _ _)
noncomputable def N9:bK->bK->bK
 |none,o=>o
 |some a,none=>some a
 |some a,some b=>some<|min a b
def jJ(lv:bj)(x:Nat):Nat->bK
 |0=>lo lv x
 |d+1=>N9 (jJ lv x d)<|lo lv<|x+(d+1)
def mn(lv:bj)(x y:Nat):Int:=(jJ lv x<|y-x).getD 0
structure vI (lv:bj)(x y:Nat)(m:Int):Prop where
 at_:∃c,x<=c/\c<=y/\lo lv c=some m
 le:∀c l,x<=c->c<=y->lo lv c=some l->m<=l
def bH(lv:bj)(x:Nat):Bool:=(lo lv x).isSome
def dw(lv:bj)(x:Nat):Int:=(lo lv x).getD 0
theorem lR{lv:bj}{x:Nat}(h:bH lv x=true):lo lv x=some (dw lv x):=by
 unfold bH at h;unfold dw;cases h':lo lv x with
 |none=>rw[h']at h;exact nB h
 |some l=>rfl
theorem ic{lv:bj}{x:Nat}(h:bH lv x=true):x<lv.length:=by
 rcases dm x lv.length with h'|h'
 ·exact h'
 ·unfold bH lo at h;rw[fV,gO h']at h;exact nB h
theorem Es{lv:bj}{x:Nat}(hx:bH lv x=true):∀d,∃m,jJ lv x d=some m/\vI lv x (x+d) m
 |0=>⟨_,lR hx,cM x (bY _) (bY _)<|lR hx,λc l h1 h2 h3=>by
   obtain rfl:c=x:=SJ h1 h2
   rw[lR hx]at h3;obtain rfl:=aK h3;exact k_ _⟩
 |d+1=>by
  refine aC (Es hx d) λm h1 aN=>?_;obtain⟨⟨c,h2,h3,h4⟩,h5⟩:=aN;cases h:lo lv (x+(d+1))with
  |none=>
   refine aA m (by(rewrite[jJ];refine rR h1<|rR h ?_);rfl) ⟨cM c h2 (Gj h3) h4,λc' l g1 g2 g3=>?_⟩;by_cases g:c'=x+(d+1)
   ·rw[g,h]at g3;exact nN g3
   ·exact h5 c' l g1 (Gk g2 g) g3
  |some k=>
   refine aA (min m k) (by(rewrite[jJ];refine rR h1<|rR h ?_);rfl) ⟨?_,λc' l g1 g2 g3=>?_⟩
   ·by_cases g:m<=k
    ·exact cM c h2 (Gj h3)<|by exact rR h4<|rR (Int.min_eq_left g) rfl
    ·exact cM (x+(d+1)) SK (bY _)<|by exact rR h<|rR (Int.min_eq_right<|GU g) rfl
   ·by_cases g:c'=x+(d+1)
    ·rw[g,h]at g3;obtain rfl:=aK g3;exact Int.min_le_right _ _
    ·have:=h5 c' l g1 (Gk g2 g) g3;exact Vl this
theorem pI{lv:bj}{x y:Nat}(hx:bH lv x=true)(h:x<=y):vI lv x y (mn lv x y):=by refine aC (Es hx<|y-x) λm h1 h2=>?_;unfold mn;refine rR h1 ?_;rw[show x+(y-x)=y from ug h]at h2;exact h2
theorem vI.uniq{lv:bj}{x y:Nat}{m k:Int}(h:vI lv x y m)(h':vI lv x y k):m=k:=by
 obtain⟨⟨c,a1,a2,a3⟩,b⟩:=h;obtain⟨⟨d,e1,e2,e3⟩,f⟩:=h';have:=b d k e1 e2 e3;have:=f c m a1 a2 a3
 (first|lia|omega)
def gv(lv:bj)(x y:Nat):Bool:=(decide (x<y)&&decide (mn lv x y %2=0))||(decide (y<x)&&!decide (mn lv y x %2=0))
def n8(lv:bj)(k:Int)(x y:Nat):Bool:=decide (k<=mn lv x y)&&decide ((mn lv x y-k) %2=0)
def Rl(lv:bj)(k:Int)(x y:Nat):Prop:=(x<y/\n8 lv k x y=false)\/(y<x/\n8 lv k y x=true)
noncomputable def turn(aH:Nat->Int)(k:Int):aG->aG->aG
 |[],run=>run.reverse
 |p::r,run=>if k<=aH p then turn aH k r (run++[p])else run.reverse++p::turn aH k r []
theorem zu(aH:Nat->Int)(k:Int):∀(rest run:aG),(turn aH k rest run).Perm<|run++rest
 |[],run=>by rw[turn,pN];exact List.reverse_perm _
 |p::r,run=>by
  unfold turn;split
  ·have:=zu aH k r<|run++[p]
   rwa[List.append_assoc]at this
  ·have:=zu aH k r [];exact(List.reverse_perm run).append<|this.cons p
set_option tactic.hygienic true in
theorem Kj{aH:Nat->Int}{k:Int}{R R':Nat->Nat->Prop}{pl:Nat->Prop}
  (hbig:∀x y,pl x->pl y->x≠y->(∀c,pl c->min x y<=c->c<=max x y->k<=aH c)->R x y->R' y x)
  (hsm:∀x y,pl x->pl y->x≠y->(∃c,pl c/\min x y<=c/\c<=max x y/\aH c<k)->(R x y->x<y)/\(x<y->R' x y)):
  ∀(rest pre run:aG),(pre++run++rest).Pairwise R->(pre++run++rest).Nodup->(∀c,pl c↔c∈pre++run++rest)->(∀x∈run,k<=aH x)->(turn aH k rest run).Pairwise R':=by
 have rev:∀(rest pre run:aG),(pre++run++rest).Pairwise R->(pre++run++rest).Nodup->(∀c,pl c↔c∈pre++run++rest)->(∀x∈run,k<=aH x)->run.reverse.Pairwise R':=by
  intro rest pre run hR hN hpl j5;rw[List.pairwise_reverse];have sY:=kD.mp hR;have N_:=kD.mp sY.1;have Kk:run.Nodup:=((kD.mp (kD.mp hN).1).2.1)
  refine(N_.2.1.and Kk).imp_of_mem λ{a b} ha hb hab=>?_;refine U1 hab λOa Ob=>?_;have pa:pl a:=(hpl a).mpr<|by simp[ha]
  have pb:pl b:=(hpl b).mpr<|by simp[hb]
  refine hbig a b pa pb Ob (λc hc h1 h2=>?_) Oa;refine Decidable.byContradiction λhlt=>?_;have hlt:aH c<k:=GW hlt;have lab:=(hsm a b pa pb Ob<|iq c hc h1 h2 hlt).1 Oa;have hca:c≠a:=by rintro rfl;have:=j5 c ha;(first|lia|omega)
  have hcb:c≠b:=by rintro rfl;have:=j5 c hb;(first|lia|omega)
  have hm:=(hpl c).mp hc;rw[dR,dR]at hm;rcases hm with(hm|hm)|hm
  ·have:=(hsm c a hc pa hca<|iq c hc Gl Gm hlt).1 (N_.2.2 c hm a ha)
   (first|lia|omega)
  ·have:=j5 c hm;(first|lia|omega)
  ·have:=(hsm b c pb hc (Ne.symm hcb)<|iq c hc Gn Gp hlt).1 (sY.2.2 b (by simp[hb]) c hm)
   (first|lia|omega)
 intro rest
 induction rest with
 |nil=>intro pre run hR hN hpl j5;exact rev [] pre run hR hN hpl j5
 |cons p r ih=>
  intro pre run hR hN hpl j5;have sY:=kD.mp hR;have zv:=kD.mp hN;have pp:pl p:=(hpl p).mpr<|by simp
  unfold turn;split
  ·rename_i hk;have e:pre++(run++[p])++r=pre++run++p::r:=by simp
   refine ih pre (run++[p]) (by refine rR e ?_;exact hR) (by refine rR e ?_;exact hN) (by refine rR e ?_;exact hpl) λx hx=>?_;rcases dR.mp hx with hx|hx
   ·exact j5 x hx
   ·refine rR (dO.mp hx) ?_;exact hk
  ·rename_i hk;have hk:aH p<k:=GW hk;have e:pre++run++[p]++[]++r=pre++run++p::r:=by simp
   have IH:=ih (pre++run++[p]) [] (by refine rR e ?_;exact hR) (by refine rR e ?_;exact hN) (by refine rR e ?_;exact hpl) λU h=>nomatch h
   have hmem:∀y,y∈turn aH k r []->y∈r:=λy hy=>by have:=(zu aH k r []).mem_iff.mp hy;simpa using this
   have Oc:=pQ.mp sY.2.1;have hnr:=pQ.mp zv.2.1;have py:∀y∈r,pl y:=λy hy=>(hpl y).mpr<|by simp[hy]
   have px:∀x∈run,pl x:=λx hx=>(hpl x).mpr<|by simp[hx]
   have Od:∀y∈r,p<y/\R' p y:=λy hy=>by
    have:=hsm p y pp (py y hy) (hnr.1 y hy)<|iq p pp Gl Gm hk
    have h:=this.1<|Oc.1 y hy
    exact⟨h,this.2 h⟩
   have Oe:∀x∈run,x<p/\R' x p:=λx hx=>by
    have:=hsm x p (px x hx) pp (zv.2.2 x (by simp[hx]) p<|by simp)<|iq p pp Gn Gp hk
    have h:=this.1<|sY.2.2 x (by simp[hx]) p<|by simp
    exact⟨h,this.2 h⟩
   rw[kD];refine⟨rev (p::r) pre run hR hN hpl j5,pQ.mpr ⟨λy hy=>(Od y<|hmem y hy).2,IH⟩,λx hx y hy=>?_⟩;have hx:x∈run:=by simpa using hx
   clear hR hN hpl sY zv e Oc hnr;rcases eO.mp hy with rfl|hy
   ·exact(Oe x hx).2
   ·have hy:=hmem y hy;have h1:=(Oe x hx).1;have h2:=(Od y hy).1;exact(hsm x y (px x hx) (py y hy) (SM h1 h2)<|iq p pp (SN h1) (SO h2) hk).2<|SQ h1 h2
def dK(lv:bj):aG:=(List.range lv.length).filter<|bH lv
theorem kZ{lv:bj}{x:Nat}:x∈dK lv↔bH lv x=true:=by unfold dK;rw[List.mem_filter,jM];exact⟨λh=>h.2,λh=>⟨ic h,h⟩⟩
theorem zw(lv:bj):(dK lv).Pairwise (·<·):=wj _ List.pairwise_lt_range
theorem Et(lv:bj):(dK lv).Nodup:=(zw lv).imp λh=>SR h
structure Ord (lv:bj)(R:Nat->Nat->Prop)(o:aG):Prop where
 pm:o.Perm (dK lv)
 pw:o.Pairwise R
theorem Ord.nodup{lv:bj}{R:Nat->Nat->Prop}{o:aG}(h:Ord lv R o):o.Nodup:=(h.pm.nodup_iff).mpr<|Et lv
theorem Ord.mem{lv:bj}{R:Nat->Nat->Prop}{o:aG}(h:Ord lv R o){x:Nat}:x∈o↔bH lv x=true:=by rw[h.pm.mem_iff,kZ]
theorem Of{lv:bj}{x y c:Nat}{k:Int}(hx:bH lv x=true)(h:x<=y)(hc:bH lv c=true)(h1:x<=c)(h2:c<=y)(hk:dw lv c<k):mn lv x y<k:=by have:=(pI hx h).le c _ h1 h2 (lR hc);exact Vm hk this
theorem Og{lv:bj}{x y:Nat}{k:Int}(hx:bH lv x=true)(h:x<=y)(hall:∀c,bH lv c=true->x<=c->c<=y->k<=dw lv c):k<=mn lv x y:=by
 refine c_ ((pI hx h).at_) λc h1 h2 h3=>?_;have hc:bH lv c=true:=by unfold bH;refine rR h3 ?_;rfl
 have:=hall c hc h1 h2;rw[lR hc]at h3;have:=aK h3
 (first|lia|omega)
theorem KB{lv:bj}{k:Int}{o:aG}(h:Ord lv (Rl lv<|k+1) o):Ord lv (Rl lv k) (turn (dw lv) k o []):=by
 refine⟨(zu _ _ _ _).trans<|by rw[List.nil_append];exact h.pm,?_⟩;refine Kj (pl:=λc=>bH lv c=true) (R:=Rl lv<|k+1) (λx y hx hy hne hall hr=>?_) (λx y hx hy hne hex=>?_) o [] [] (by simpa using h.pw) (by simpa using h.nodup) (λc=>by rw[List.nil_append,List.nil_append,h.mem]) λU h=>nomatch h
 ·rcases dm x y with hlt|hge
  ·have hk:=Og hx (gX hlt) (λc hc h1 h2=>hall c hc (SS h1) (SV h2):∀c,bH lv c=true->x<=c->c<=y->k<=dw lv c);rcases hr with⟨_,hf⟩|⟨h',_⟩
   ·refine .inr ⟨hlt,?_⟩;unfold n8 at hf⊢;refine rR (di hk) ?_;rewrite[qY,ff];by_cases h1:k+1<=mn lv x y
    ·rw[di h1,qY,decide_eq_false_iff_not]at hf;exact Vn hf
    ·exact Vo hk h1
   ·(first|lia|omega)
  ·have hk:=Og hy (Gq hge) (λc hc h1 h2=>hall c hc (SW h1) (SX h2):∀c,bH lv c=true->y<=c->c<=x->k<=dw lv c);rcases hr with⟨h',_⟩|⟨h',hf⟩
   ·(first|lia|omega)
   ·refine .inl ⟨h',?_⟩;unfold n8 at hf⊢;rw[cy,ff,ff]at hf;refine rR (di hk) ?_;rewrite[qY,decide_eq_false_iff_not];exact Vp hf
 ·refine zQ hex λc hc h1 h2 h3=>?_;rcases dm x y with hlt|hge
  ·refine⟨λU=>hlt,λU=>.inl ⟨hlt,?_⟩⟩;have:=Of hx (gX hlt) hc (by exact SY h1 hlt:x<=c) (by exact S1 h2 hlt:c<=y) h3;unfold n8;refine rR (dG<|Vq this) ?_;rw[Bool.false_and]
  ·refine⟨λhr=>?_,λh'=>by(first|lia|omega)⟩;have:=Of hy (Gq hge) hc (by exact S3 h1 hge:y<=c) (by exact S4 h2 hge:c<=x) h3;rcases hr with⟨h',_⟩|⟨_,hf⟩
   ·exact h'
   ·unfold n8 at hf;rw[dG<|Vr this,Bool.false_and]at hf;exact nB hf
def sZ(lv:bj)(hi:Int):Nat->aG
 |0=>dK lv
 |k+1=>turn (dw lv) (hi-k) (sZ lv hi k) []
theorem Eu{lv:bj}{hi:Int}(h:∀c,bH lv c=true->dw lv c<=hi):∀k:Nat,Ord lv (Rl lv<|hi-k+1)<|sZ lv hi k
 |0=>⟨List.Perm.refl _,(zw lv).imp_of_mem λ{x y} hx hy hlt=>.inl ⟨hlt,by
   have hx:=kZ.mp hx;refine c_ ((pI hx (by exact gX hlt:x<=y)).at_) λc h1 h2 h3=>?_;have hc:bH lv c=true:=by unfold bH;refine rR h3 ?_;rfl
   have:=h c hc;rw[lR hc]at h3;have:=aK h3;unfold n8;refine rR (dG<|by(first|lia|omega)) ?_
   rw[Bool.false_and]⟩⟩
 |k+1=>by
  have:=KB<|Eu h k
  refine rR (show hi-((k+1:Nat):Int)+1=hi-k from V0) ?_;exact this
theorem Oh{lv:bj}{x y:Nat}(h:gv lv x y=true):gv lv y x=false:=by
 unfold gv at h⊢;rcases rf x y with h1|h1|h1
 ·rw[di h1,dG (by exact i9 h1:¬y<x)]at h;refine rR (di h1)<|rR (dG (by exact i9 h1:¬y<x)) ?_
  simp at h⊢;exact h
 ·subst h1;simp at h
 ·rw[di h1,dG (by exact i9 h1:¬x<y)]at h;refine rR (di h1)<|rR (dG (by exact i9 h1:¬x<y)) ?_
  simp at h⊢;exact h
theorem zx{lv:bj}{x:Nat}:gv lv x x=false:=by simp[gv]
abbrev eZ(lv:bj)(o:aG):Prop:=Ord lv (λx y=>gv lv x y=true) o
theorem eZ.uniq{lv:bj}{o o':aG}(h:eZ lv o)(h':eZ lv o'):o=o':=by
 refine List.Perm.eq_of_pairwise (λa b U U h1 h2=>?_) h.pw h'.pw<|h.pm.trans h'.pm.symm
 rw[Oh h1]at h2;exact nB h2
theorem KE{lv:bj}{o:aG}{k:Int}(hk:k %2=1)(hmin:∀c,bH lv c=true->dw lv c %2=1->k<=dw lv c)(h:Ord lv (Rl lv k) o):eZ lv o:=by
 refine⟨h.pm,h.pw.imp_of_mem λ{x y} hx hy hr=>?_⟩;have hx:=h.mem.mp hx;have hy:=h.mem.mp hy;have key:∀{x y},bH lv x=true->x<y->n8 lv k x y=!decide (mn lv x y %2=0):=λ{x y} hx hlt=>by
  refine c_ ((pI hx (by exact gX hlt:x<=y)).at_) λc h1 h2 h3=>?_;have hc:bH lv c=true:=by unfold bH;refine rR h3 ?_;rfl
  have hm:=hmin c hc;rw[lR hc]at h3;have e:=aK h3;rw[e]at hm;unfold n8;rw[Bool.eq_iff_iff];simp only[Bool.and_eq_true,decide_eq_true_eq,Bool.not_eq_true',decide_eq_false_iff_not];constructor
  ·exact Vs hk
  ·intro h';exact⟨hm<|Vt h',Vu hk h'⟩
 unfold gv;rcases hr with⟨h',hf⟩|⟨h',hf⟩
 ·rw[key hx h']at hf;refine rR (di h')<|rR (dG (by exact i9 h':¬y<x)) ?_
  simpa using hf
 ·rw[key hy h']at hf;refine rR (di h')<|rR (dG (by exact i9 h':¬x<y)) ?_
  simpa using hf
theorem KF{lv:bj}(Ew:∀c,bH lv c=true->dw lv c %2=0):eZ lv (dK lv):=by
 refine⟨List.Perm.refl _,(zw lv).imp_of_mem λ{x y} hx hy hlt=>?_⟩;have hx:=kZ.mp hx;refine c_ ((pI hx (by exact gX hlt:x<=y)).at_) λc h1 h2 h3=>?_;have hc:bH lv c=true:=by unfold bH;refine rR h3 ?_;rfl
 have:=Ew c hc;rw[lR hc]at h3;have e:=aK h3;unfold gv;refine rR (di hlt) (rR (dG (by exact i9 hlt:¬y<x))<|rL e<|rR (di this) ?_);rfl
structure ie (lv:bj):Prop where
 le:lv.length<=20
 bd:∀l,some l∈lv->0<=l/\l<=100
theorem ie.aH{lv:bj}(h:ie lv){c:Nat}(hc:bH lv c=true):0<=dw lv c/\dw lv c<=100:=
 h.bd _ (dY (by exact rR (zo<|ic hc) (rR (lR hc) rfl):lv[c]?=some (some<|dw lv c)))
theorem zy{lv:bj}{c:Nat}(hc:bH lv c=true):(lv.map aD)[c]?=some (.i<|dw lv c):=by refine rR (lQ<|ic hc)<|rR (lR hc) ?_;rfl
theorem zz(lv:bj):(dK lv).length<=lv.length:=by
 have:=List.length_filter_le (bH lv)<|List.range lv.length
 rwa[tQ]at this
theorem Ord.len{lv:bj}{R:Nat->Nat->Prop}{o:aG}(h:Ord lv R o):o.length<=lv.length:=by refine rR h.pm.length_eq ?_;exact zz lv
theorem mX{H:ak}{m:Nat}{x y:Option AO}(h:H[m]?=some y):(H.set m x)[m]?=some x:=by have:=cH h;rw[jL this]
theorem Oi{H:ak}{m k:Nat}{x:Option AO}(h:m≠k):(H.set m x)[k]?=H[k]?:=jr h
theorem Ex{Γ:b7}{a:CE}{ae:bf}{H H1:ak}{m:Nat}{l:au}(ha:az Γ a ae H=some (.e m,H1))(h:H1[m]?=some (some<|.l l)):az Γ (.r a) ae H=some (.l l.reverse,H1):=by
 refine rR DP<|rR ha ?_
 simp only[Option.bind_some,fh,h,Option.map_some]
theorem Ey{Γ:b7}{ae:bf}{H:ak}:az Γ (.e []) ae H=some (.e H.length,H++[some<|.l []]):=by refine rR yL<|rR yN ?_;rfl
theorem Oj{H t:ak}{m:Nat}{x:Option AO}(h:H[m]?=some x):(H++t)[m]?=some x:=by rw[iZ<|cH h];exact h
theorem KK(n:Nat){lv:bj}{o:aG}{k:Int}(ho:o.length<=100)(hpl:∀x∈o,bH lv x=true)(H:ak):
  gam (n+1) "" "line_turned" [.l<|o.map aE,.l<|lv.map aD,.i k] H=some (.l<|(turn (dw lv) k o []).map aE,H):=by
 refine dX (ir:=Iu) (vs:=[.l<|o.map aE,.l<|lv.map aD,.i k]) (by kernel_rfl) rfl rfl rfl (by simp only[List.all_cons,List.all_nil,Bool.and_true,kY,(ints_of o).fz,Bool.true_and];rfl) ?_;show Ok (aF (gam n) Bs [some<|.l<|o.map aE,some<|.l<|lv.map aD,some<|.i k,none,none,none] []) _;unfold Bs;refine aZ (v:=.e 0) (H1:=[some<|.l []]) rfl ?_;refine aZ (v:=.e 1) (H1:=[some<|.l [],some<|.l []]) rfl ?_
 refine gr (H':=[some<|.l [],some<|.l []]) (vs:=[.l<|o.map aE]) (items:=o.map aE) (λi ae H=>∃(eN run:aG)(r:Nat)(o5:bR),eN++turn (dw lv) k (o.drop i) run=turn (dw lv) k o []/\eN.length+run.length<=i/\i<=o.length/\0<r/\
   ae=[some<|.l<|o.map aE,some<|.l<|lv.map aD,some<|.i k,some<|.e 0,some<|.e r,o5]/\H[0]?=some (cV eN)/\H[r]?=some (cV run))
  rfl fF (wH [] [] 1 none rfl (bY _) (iF _) (by decide) rfl rfl rfl) (λi x ae H hx hI=>?_) (λae H hI=>?_)
 ·(refine Ff hI λeN run r o5 h1 h2 h3 h4 aQ h5 h6=>?_;clear hI;subst aQ)
  rw[cQ]at hx;refine aC (gV.mp hx) λp hp aR=>?_;clear hx;subst aR;have hi:=cH hp;have KM:o.drop i=p::o.drop (i+1):=by refine rR (tL hi) ?_;rw[eE hi]at hp;exact rR (aK hp) rfl
  have hpp:=hpl p<|dY hp
  rw[KM,turn]at h1;refine aA _ rfl ?_;refine bU (c:=decide<|k<=dw lv p) (H':=H) (bu (p:=.i<|dw lv p) (q:=.i k) (e_idx (p:=.l<|lv.map aD) (q:=.i p) rfl rfl<|dB<|zy hpp) rfl rfl) (λhc=>?_) λhc=>?_
  ·rw[bw<|cG hc]at h1;refine eW (m:=r) (l1:=run.map aE) (l2:=run.map aE) (v:=aE p) (H1:=H) (H2:=H) rfl h6 rfl h6 (by simp;exact S5 ho h2 hi)<|cu ?_
   refine rR (show some (AO.l<|run.map aE++[aE p])=cV (run++[p]) by simp[cV]) ?_;exact wH eN (run++[p]) r _ h1 (by simp;exact Gr h2) (uf hi) h4 rfl (by refine rR (Oi<|S6 h4) ?_;exact h5) (mX h6)
  ·rw[bO<|lW hc]at h1;refine sR (m:=0) (l1:=eN.map aE) (l2:=eN.map aE) (v:=.l<|run.reverse.map aE) (r:=run.reverse.map aE) (H1:=H) (H2:=H) rfl h5 (by exact rR (Ex (m:=r) (l:=run.map aE) (H1:=H) rfl h6)<|rR tR rfl) h5 rfl (by simp;exact Gs ho h2 hi) ?_;rw[Ea];have g5:(H.set 0<|cV<|eN++run.reverse)[0]?=some (cV<|eN++run.reverse):=mX h5;refine eW (m:=0) (l1:=(eN++run.reverse).map aE) (l2:=(eN++run.reverse).map aE) (v:=aE p) (H1:=H.set 0<|cV<|eN++run.reverse) (H2:=H.set 0<|cV<|eN++run.reverse) rfl g5 rfl g5 (by simp;exact Gs ho h2 hi) ?_;refine rR (show some (AO.l<|(eN++run.reverse).map aE++[aE p])=cV (eN++run.reverse++[p]) by simp[cV]) ?_;generalize KT:(H.set 0<|cV<|eN++run.reverse).set 0 (cV<|eN++run.reverse++[p])=H2;have g6:H2[0]?=some (cV<|eN++run.reverse++[p]):=by refine rL KT ?_;exact mX g5
   refine aZ (v:=.e H2.length) (H1:=H2++[some<|.l []]) Ey<|cu ?_
   refine wH (eN++run.reverse++[p]) [] H2.length _ ?_ (by simp;exact Gr h2) (uf hi) ?_ rfl (Oj g6) ?_
   ·refine rL h1 ?_;simp
   ·have:=cH g6;exact Gu this
   ·rw[ku<|bY _,pU];rfl
 ·(refine Ff hI λeN run r o5 h1 h2 h3 h4 aT h5 h6=>?_;clear hI;subst aT)
  rw[bI]at h1;rw[List.drop_length,turn]at h1;rw[bI]at h2;refine sR (m:=0) (l1:=eN.map aE) (l2:=eN.map aE) (v:=.l<|run.reverse.map aE) (r:=run.reverse.map aE) (H1:=H) (H2:=H) rfl h5 (by exact rR (Ex (m:=r) (l:=run.map aE) (H1:=H) rfl h6)<|rR tR rfl) h5 rfl (by simp;exact S7 ho h2) ?_;rewrite[Ea];refine rR h1 ?_;exact bX (v:=.e 0) rfl<|gu (mX h5) (ints_of _).b8
theorem pJ{Γ:b7}{ae:bf}{H H1:ak}{e c:CE}{nm:String}{k:IK}{bZ:List CE}{vs l:au}{f:PV->PV}{t:PV->Bool}(hb:cX Γ bZ ae H=some (vs,H1))(hi:fb k vs=some l)
  (hc:∀x∈l,az Γ c (ae++[some x]) H1=some (.b<|t x,H1))(he:∀x∈l,t x=true->az Γ e (ae++[some x]) H1=some (f x,H1)):
  az Γ (.D e false [nm] k bZ [c]) ae H=some (.l<|(l.filter t).map f,H1):=by
 refine rR sM<|rR hb ?_
 simp only[Option.bind_some];refine rR hi ?_;simp only[Option.bind_some];rw[DL (f:=λx=>if t x then some (f x)else none) λx hx=>?_]
 ·simp only[Option.map_some];congr 3;clear hb hi hc he
  induction l with
  |nil=>rfl
  |cons a l ih=>
   refine rR lg<|rR q5 ?_
   cases t a
   ·simpa using ih
   ·simpa using ih
 ·simp only[iK,Bool.false_eq_true,if_false,Option.bind_some];refine rR hU<|rR (hc x hx) ?_
  simp only[Option.bind_some,fZ];cases h:t x with
  |false=>simp only[Bool.false_eq_true,if_false,Option.bind_some,fZ]
  |true=>
   simp only[if_true,nR,Option.bind_some,fZ];refine rR (he x hx h) ?_;rfl
theorem Ez(n:Nat):fk 0 (n:Int)=(List.range n).map aE:=by unfold fk;rw[Int.sub_zero,Int.toNat_natCast];refine m9 λi U=>?_;rw[Int.zero_add];rfl
theorem zA{l:aG}{t:PV->Bool}{p:Nat->Bool}(h:∀x∈l,t (aE x)=p x):(l.map aE).filter t=(l.filter p).map aE:=by refine rR List.filter_map ?_;congr 1;exact List.filter_congr λx hx=>h x hx
theorem Ol{Γ:b7}{ae:bf}{H:ak}{lv:bj}{a:CE}{j:Nat}{nm:String}(gJ:lv.length<=20)(ha0:az Γ a ae H=some (.l<|lv.map aD,H))(ha:∀x,az Γ a (ae++[some x]) H=some (.l<|lv.map aD,H))(hj:∀x,az Γ (.v j) (ae++[some x]) H=some (x,H)):
  az Γ (.D (.v j) false [nm] .r [.k .l [a]] [.m .t (.d a<|.v j)<|.c .n]) ae H=some (.l<|(dK lv).map aE,H):=by
 have hl:cX Γ [.k .l [a]] ae H=some ([.i lv.length],H):=aJ (by
  refine rR lM<|rR (aJ ha0 bA) ?_
  show some (PV.i (lv.map aD).length,H)=_
  rw[bI]) bA
 rw[pJ (f:=id) (t:=λx=>match x with|.i i=>bH lv i.toNat|_=>false) hl (yV jx<|Ae gJ) (λx hx=>?_) λx hx U=>hj x]
 ·(rewrite[Ez,List.map_id];refine rR (zA (p:=bH lv) λx U=>by simp[aE]) ?_)
  rfl
 ·rw[Ez]at hx;refine aC (bV.mp hx) λi hi aL=>?_;clear hx;subst aL;rw[jM]at hi;exact bu (e_idx (ha _) (hj _)<|dB<|lQ hi) cL<|qI _
theorem EA:∀(l:bk),intsOf (l.map .i)=some l
 |[]=>rfl
 |a::l=>by(refine rR fK ?_;rewrite[intsOf];refine rR (EA l) ?_);rfl
theorem vJ{H:ak}{l:bk}(h:l.length<64):jS H .o [.l<|l.map .i]=some (.l<|(sortedZ l).map .i,H):=by show(some<|l.map PV.i).bind (λl=>(intsOf l).bind λns=>if ns.length<64 then some (PV.l<|(sortedZ ns).map .i,H)else none)=_;simp only[Option.bind_some,EA,h,if_true]
theorem qP(l:bk):(sortedZ l).Perm l:=List.mergeSort_perm _ _
theorem EB(l:bk):(sortedZ l).Pairwise (·<=·):=by
 have:=List.pairwise_mergeSort (le:=λ(a b:Int)=>decide<|a<=b) (λa b c h1 h2=>by
  rw[ff]at h1 h2⊢;exact Vv h1 h2) (λa b=>by
  rw[Bool.or_eq_true,ff,ff];exact GH) l
 exact this.imp λh=>cG h
theorem Om{l s:bk}(hp:s.Perm l)(hs:s.Pairwise (·<=·)):sortedZ l=s:=
 List.Perm.eq_of_pairwise (λa b U U (h1:a<=b) (h2:b<=a)=>GI h1 h2) (EB l) hs ((qP l).trans hp.symm)
theorem EC{n:Nat}(i:Int):simple n (.i i)=true:=by induction n using gD<;>rfl
theorem Oo{H:ak}{l:au}(h:dJ l):cE H .n (.l l) (.l [])=some (!l.isEmpty):=by
 have e:simple 4 (.l l)=true:=by show l.all (simple 3)=true;rw[gj];intro x hx;refine X1 (h x hx) λi aM=>?_;clear hx;subst aM;rfl
 show(if(_||(simple 4 (.l l)&&_))=true then some (!fj (.l l) (.l []))else none)=_;refine rR e ?_;clear h e
 induction l using b9<;>rfl
theorem Oq:∀{l:bk}{m:Int},l.Pairwise (·<=·)->l.getLast?=some m->∀x∈l,x<=m
 |l,m,h,hl,x,hx=>by
  refine X1 (wo.mp hl) λt aP=>?_;clear hl;subst aP;rcases dR.mp hx with hx|hx
  ·exact(kD.mp h).2.2 x hx m<|by simp
  ·refine rR (dO.mp hx) ?_;exact k_ _
theorem Ot(n:Nat){lv:bj}(hS:ie lv):∃o,eZ lv o/\∀H,gam (n+2) "" "reordered" [.l<|lv.map aD] H=some (.l<|o.map aE,H):=by
 have main:Ok (aF (gam<|n+1) Bt [some<|.l<|lv.map aD,none,none,none,none] []) (λr=>∃o,b8 6 r.2.2 (fX r.1)=some (.l<|o.map aE)/\eZ lv o):=by
  have hle:=hS.le;have hpl:=zz lv;unfold Bt;refine aZ (v:=.l<|(dK lv).map aE) (H1:=[]) (Ol hle rfl (λx=>by simp only[List.cons_append,List.nil_append];(try simp only[wl,bx,reduceIte];try rfl)) λx=>by simp only[List.cons_append,List.nil_append];(try simp only[wl,bx,reduceIte];try rfl)) ?_;generalize ED:sortedZ ((dK lv).map<|dw lv)=th;have vK:∀x,x∈th↔∃c,bH lv c=true/\dw lv c=x:=λx=>by refine rL ED ?_;rewrite[(qP _).mem_iff,bV];exact⟨λ⟨c,h1,h2⟩=>aA c (kZ.mp h1) h2,λ⟨c,h1,h2⟩=>aA c (kZ.mpr h1) h2⟩
  have EE:th.Pairwise (·<=·):=by refine rL ED ?_;exact EB _
  refine aZ (v:=.l<|th.map .i) (H1:=[]) (by
   rw[lM,aJ (nZ (l:=(dK lv).map aE) (f:=λx=>match x with|.i i=>.i (dw lv i.toNat)|x=>x) (H1:=[]) rfl λx hx=>?_) bA]
   ·simp only[Option.bind_some]
    rw[show((dK lv).map aE).map (λx=>match x with|.i i=>.i (dw lv i.toNat)|x=>x)=((dK lv).map<|dw lv).map PV.i by
     refine rR i6<|rR i6 ?_;refine m9 λi U=>?_;simp[aE],vJ<|by rw[bI];exact S8 hle hpl,ED]
   ·(refine aC (bV.mp hx) λi hi aN=>?_;clear hx;subst aN)
    have:=kZ.mp hi;refine e_idx (p:=.l<|lv.map aD) (q:=.i i) (by simp only[List.set_cons_succ,List.set_cons_zero,List.cons_append,List.nil_append];(try simp only[wl,bx,reduceIte];try rfl)) (by simp only[List.set_cons_succ,List.set_cons_zero,List.cons_append,List.nil_append];(try simp only[wl,bx,reduceIte];try rfl)) ?_;simp only[aE,Int.toNat_natCast]
    exact dB<|zy this) ?_
  refine aZ (v:=.l<|(th.filter λx=>decide<|x %2=1).map .i) (H1:=[]) (by
   rw[pJ (f:=id) (t:=λx=>match x with|.i i=>decide (i %2=1)|_=>false) (vs:=[.l<|th.map .i]) (H1:=[]) (aJ rfl bA) fF (λx hx=>?_) λx hx U=>?_]
   ·(rewrite[List.map_id];refine rR List.filter_map ?_);rfl
   ·(refine aC (bV.mp hx) λi hi aQ=>?_;clear hx;subst aQ)
    simp only[List.set_cons_succ,List.set_cons_zero,List.cons_append,List.nil_append]
    (try simp only[wl,bx,reduceIte];try rfl)
   ·simp only[List.set_cons_succ,List.set_cons_zero,List.cons_append,List.nil_append]
    (try simp only[wl,bx,reduceIte];try rfl)) ?_
  have hint:dJ ((th.filter λx=>decide<|x %2=1).map .i):=λx hx=>by(refine aC (bV.mp hx) λi U aR=>?_;clear hx;subst aR);exact⟨i,rfl⟩
  refine bU (c:=!((th.filter λx=>decide<|x %2=1).map PV.i).isEmpty) (H':=[]) (bu (p:=.l<|(th.filter λx=>decide<|x %2=1).map .i) (q:=.l []) rfl rfl<|Oo hint) (λhc=>?_) λhc=>?_
  ·cases hod:th.filter λx=>decide (x %2=1)with
   |nil=>rw[hod]at hc;exact nB hc
   |cons k od=>
    have K':(k::od).Pairwise (·<=·):=by refine rL hod ?_;exact wj _ EE
    have Ou:∀x,x∈k::od↔x∈th/\x %2=1:=λx=>by(refine rL hod ?_;rw[List.mem_filter,ff])
    have hk:=(Ou k).mp cR;have hmin:∀c,bH lv c=true->dw lv c %2=1->k<=dw lv c:=λc h1 h2=>by
     have:=(Ou<|dw lv c).mpr ⟨(vK _).mpr<|aA c h1 rfl,h2⟩;rcases eO.mp this with h|h
     ·exact Vw h
     ·exact(pQ.mp K').1 _ h
    obtain⟨hi,hhi⟩:∃hi,th.getLast?=some hi:=by
     induction th using b9 with
     |nil=>cases hk.1
     |cons a t=>exact⟨_,wm<|by simp⟩
    have Ov:∀c,bH lv c=true->dw lv c<=hi:=λc h=>Oq EE hhi _ ((vK _).mpr<|aA c h rfl);have Ow:k<=hi:=Oq EE hhi _ hk.1;refine aC ((vK k).mp hk.1) λck L9 Mo=>?_;refine aC ((vK hi).mp<|q8<|by refine rR hhi ?_;rfl) λch M2 EF=>?_;have b1:=hS.aH L9;have b2:=hS.aH M2;refine gr (H':=[]) (vs:=[.i hi,.i<|k-1,.i<|-1]) (items:=kK hi<|k-1) (λi ae H=>∃o4,ae=[some<|.l<|lv.map aD,some<|.l<|(sZ lv hi i).map aE,some<|.l<|th.map .i,some<|.l<|(k::od).map .i,o4]/\H=[])
     (aJ (e_idx (p:=.l<|th.map .i) (q:=.i<|-1) rfl rfl<|DR<|by rw[List.getLast?_map,hhi];rfl)<|aJ (dD (p:=.i k) (q:=.i 1) (e_idx (p:=.l<|(k::od).map .i) (q:=.i 0) rfl rfl vf) rfl rfl)<|aJ rfl bA)
     (MZ (Vx EF b2) (Vy EF b2) (Vz Mo b1)<|VA Ow EF b2) (aA none rfl rfl) (λi x ae H hx hI=>?_) (λae H hI=>?_)
    ·(refine aC hI λo4 aT aL=>?_;clear hI;subst aT;subst aL)
     refine U1 (M0 hx) λaM hlt=>?_;clear hx;subst aM;have O:=Eu Ov i;have jn:=O.len;refine aA _ rfl ?_;exact aZ (v:=.l<|(sZ lv hi<|i+1).map aE) (H1:=[]) (bP (vs:=[.l<|(sZ lv hi i).map aE,.l<|lv.map aD,.i<|hi-i]) rfl<|KK n (Gv hle jn) (λx hx=>O.mem.mp hx) _)<|cu<|aA _ rfl rfl
    ·(refine aC hI λo4 aP aN=>?_;subst aP;clear hI;subst aN)
     have O:=Eu Ov (hi-(k-1)).toNat;rw[M1,show hi-((hi-(k-1)).toNat:Int)+1=k from VB Ow]at*;exact bX (v:=.l<|(sZ lv hi (hi-(k-1)).toNat).map aE) rfl<|aA _ (jg λx hx=>dj<|.inr<|.inr<|.inl<|ints_of _ x hx) (KE hk.2 hmin O)
  ·refine bX (v:=.l<|(dK lv).map aE) (H':=[]) rfl<|aA _ (jg λx hx=>dj<|.inr<|.inr<|.inl<|ints_of _ x hx) (KF λc h=>?_)
   have h1:th.filter (λx=>decide<|x %2=1)=[]:=by simpa using hc
   have h2:=List.filter_eq_nil_iff.mp h1 (dw lv c)<|(vK _).mpr<|aA c h rfl
   rw[ff]at h2;exact VC h2
 refine ni main λr e o hv ho=>?_;exact aA o ho λH=>dX (n:=n+1) (ir:=Iv) (vs:=[.l<|lv.map aD]) (by kernel_rfl) rfl rfl rfl (by simp only[List.all_cons,List.all_nil,Bool.and_true,kY])<|aA r e hv
theorem zB(n:Nat){lv:bj}{o:aG}(hS:ie lv)(ho:eZ lv o)(H:ak):gam (n+2) "" "reordered" [.l<|lv.map aD] H=some (.l<|o.map aE,H):=by refine aC (Ot n hS) λo' h1 h2=>?_;refine rR (ho.uniq h1) ?_;exact h2 H
theorem Ox{lv:bj}(hS:ie lv):∃o,eZ lv o:=let ⟨o,h,_⟩:=Ot 0 hS;⟨o,h⟩
theorem Oz:∀(l:bk)(a:Int),(l.foldl min a∈a::l)/\∀x∈a::l,l.foldl min a<=x
 |[],a=>⟨cR,λx h=>by refine rR (dO.mp h) ?_;exact k_ _⟩
 |b::l,a=>by
  refine U1 (Oz l<|min a b) λh1 h2=>?_;refine rR pO ?_;refine⟨?_,λx hx=>?_⟩
  ·rcases eO.mp h1 with h|h
   ·refine rR h ?_;by_cases g:a<=b
    ·refine rR (Int.min_eq_left g) ?_;exact cR
    ·refine rR (Int.min_eq_right<|GU g) ?_;exact dh _ cR
   ·exact dh _ (dh _ h)
  ·have h3:=h2 (min a b) cR;clear h1;rcases eO.mp hx with rfl|hx
   ·exact GN h3
   ·rcases eO.mp hx with rfl|hx
    ·exact GO h3
    ·exact h2 x<|dh _ hx
theorem M'{H:ak}{l:bk}{m:Int}(h1:m∈l)(h2:∀x∈l,m<=x):jS H .m [.l<|l.map .i]=some (.i m,H):=by
 induction l using b9 with
 |nil=>cases h1
 |cons a l=>
  refine U1 (Oz l a) λh3 h4=>?_;have e:l.foldl min a=m:=by
   have:=h4 m h1;have:=h2 _ h3
   (first|lia|omega)
  show(intsOf<|(a::l).map PV.i).bind _=_;rw[EA];show some (PV.i<|l.foldl min a,H)=_;exact rR e rfl
noncomputable def mY:PV->Bool
 |.n=>false
 |_=>true
noncomputable def s8(lv:bj)(x y:Nat):bj:=(lv.take<|y+1).drop x
theorem OA{lv:bj}{x y:Nat}{l:Int}:l∈(s8 lv x y).filterMap id↔∃c,x<=c/\c<=y/\lo lv c=some l:=by
 rw[List.mem_filterMap];constructor
 ·rintro⟨o,ho,h⟩;obtain rfl:o=some l:=h;refine X1 (kA ho) λi hi=>?_;unfold s8 at hi;rw[List.getElem?_drop]at hi;have hlt:=cH hi;rw[gU]at hlt;rw[tO<|S9 hlt]at hi;refine cM (x+i) wW (S_ hlt) ?_;rw[lo,fV,hi];rfl
 ·rintro⟨c,h1,h2,h3⟩;have hc:c<lv.length:=ic<|by unfold bH;refine rR h3 ?_;rfl
  refine aA (some l) (dY (i:=c-x) ?_) rfl;unfold s8;rw[List.getElem?_drop,show x+(c-x)=c from ug h1,tO<|Tc h2,zo hc,h3]
theorem EG:∀(l:bj),(l.map aD).filter mY=(l.filterMap id).map .i
 |[]=>rfl
 |none::l=>by refine rR fK (rR q5<|rR (show mY (aD none)=false from rfl)<|rR (bO<|by decide)<|rR (EG l) ?_);rfl
 |some a::l=>by refine rR fK<|rR q5<|rR (show mY (aD<|some a)=true from rfl)<|rR (bw rfl)<|rR (EG l) ?_;rfl
theorem OB(n:Nat){lv:bj}{x y:Nat}(hle:lv.length<=20)(hx:bH lv x=true)(hxy:x<=y)(hy:y<lv.length)(H:ak):gam (n+1) "" "_law_is_kept" [.l<|lv.map aD,.i x,.i y] H=some (.b<|decide<|mn lv x y %2=0,H):=by
 refine dX (ir:=IQ) (vs:=[.l<|lv.map aD,.i x,.i y]) (by kernel_rfl) rfl rfl rfl (by simp only[List.all_cons,List.all_nil,Bool.and_true,kY,Bool.true_and];rfl) ?_;show Ok (aF (gam n) BJ [some<|.l<|lv.map aD,some<|.i x,some<|.i y] []) _;unfold BJ;have hM:=pI hx hxy;have s9:ja [] (.l<|lv.map aD) (.i x) (.i ((y+1:Nat):Int))=some (.l<|(s8 lv x y).map aD):=by refine rR (vG (Td hle hxy hy) (Te hle hy) (by simp;exact uf hy)<|l8 hxy) ?_;rewrite[s8];exact rR List.map_drop<|rR List.map_take rfl
 refine bX (v:=.b<|decide<|mn lv x y %2=0) (H':=[]) (bu (p:=.i<|mn lv x y %2) (q:=.i 0) (dD (p:=.i<|mn lv x y) (q:=.i 2) (?_) rfl rfl) rfl rfl) rfl;rw[lM,aJ (pJ (f:=id) (t:=mY) (vs:=[.l<|(s8 lv x y).map aD]) (H1:=[]) (aJ (pG (p:=.l<|lv.map aD) (q:=.i x) (r:=.i ((y+1:Nat):Int)) (H1:=[]) (H2:=[]) rfl rfl rfl s9) bA) fF (λz hz=>?_) λz hz U=>?_) bA]
 ·simp only[Option.bind_some];rw[List.map_id,EG,M' (m:=mn lv x y)]
  ·rw[OA];exact hM.at_
  ·intro z hz;rw[OA]at hz;refine c_ hz λc h1 h2 h3=>?_;exact hM.le c z h1 h2 h3
 ·(refine aC (bV.mp hz) λo U aQ=>?_;clear hz;subst aQ)
  simp only[List.cons_append,List.nil_append];exact bu (p:=aD o) (q:=.n) rfl rfl<|by induction o using e9<;>rfl
 ·simp only[List.cons_append,List.nil_append]
  (try simp only[wl,bx,reduceIte];try rfl)
theorem e_len{Γ:b7}{a:CE}{ae:bf}{H H1:ak}{l:au}(ha:az Γ a ae H=some (.l l,H1)):az Γ (.k .l [a]) ae H=some (.i l.length,H1):=by refine rR lM<|rR (aJ ha bA) ?_;rfl
theorem OC{Γ:b7}{ae:bf}{H H1:ak}{e c:CE}{tp:Bool}{tn:aY}{k:IK}{bZ:List CE}{vs l:au}{f:PV->PV}{t:PV->Bool}{own:PV->bf}(hb:cX Γ bZ ae H=some (vs,H1))(hi:fb k vs=some l)
  (ho:∀x∈l,iK tp tn.length x=some (own x))(hc:∀x∈l,az Γ c (ae++own x) H1=some (.b<|t x,H1))(he:∀x∈l,t x=true->az Γ e (ae++own x) H1=some (f x,H1)):
  az Γ (.D e tp tn k bZ [c]) ae H=some (.l<|(l.filter t).map f,H1):=by
 refine rR sM<|rR hb ?_
 simp only[Option.bind_some];refine rR hi ?_;simp only[Option.bind_some];rw[DL (f:=λx=>if t x then some (f x)else none) λx hx=>?_]
 ·simp only[Option.map_some];congr 3;clear hb hi hc he ho
  induction l with
  |nil=>rfl
  |cons a l ih=>
   refine rR lg<|rR q5 ?_
   cases t a
   ·simpa using ih
   ·simpa using ih
 ·refine rR (ho x hx) ?_;simp only[Option.bind_some];refine rR hU<|rR (hc x hx) ?_
  simp only[Option.bind_some,fZ];cases h:t x with
  |false=>simp only[Bool.false_eq_true,if_false,Option.bind_some,fZ]
  |true=>
   simp only[if_true,nR,Option.bind_some,fZ];refine rR (he x hx h) ?_;rfl
theorem No{Γ:b7}{ae:bf}{H H1:ak}{e:CE}{tp:Bool}{tn:aY}{k:IK}{bZ:List CE}{vs l:au}{f:PV->PV}{own:PV->bf}(hb:cX Γ bZ ae H=some (vs,H1))(hi:fb k vs=some l)
  (ho:∀x∈l,iK tp tn.length x=some (own x))(he:∀x∈l,az Γ e (ae++own x) H1=some (f x,H1)):
  az Γ (.D e tp tn k bZ []) ae H=some (.l<|l.map f,H1):=by
 refine rR sM<|rR hb ?_
 simp only[Option.bind_some];refine rR hi ?_;simp only[Option.bind_some];rw[comp_map (f:=f) λx hx=>?_]
 ·rfl
 ·refine rR (ho x hx) ?_;simp only[Option.bind_some];refine rR nR ?_;simp only[Option.bind_some,fZ,if_true];refine rR (he x hx) ?_;rfl
theorem EH{l:au}{f:Nat->PV}(h:∀i,i<l.length->l[i]?=some (f i)):dU l=(List.range l.length).map λ(i:Nat)=>.t [.i i,f i]:=by refine ext_get (by simp[dU]) λi hi=>?_;rw[mP]at hi;unfold dU;rw[cQ,List.getElem?_zipIdx,h i hi,cQ,lU hi];simp
theorem EI(lv:bj):dU (lv.map aD)=(List.range lv.length).map λ(i:Nat)=>.t [.i i,aD<|lo lv i]:=by refine rR (EH (f:=λi=>aD<|lo lv i) λi hi=>lQ<|by rwa[bI]at hi) ?_;rw[bI]
noncomputable def vL:PV->PV
 |.t [a,_]=>a
 |x=>x
noncomputable def EJ:PV->PV
 |.t [_,b]=>b
 |x=>x
def vM(x:PV):bf:=[some<|vL x,some<|EJ x]
theorem Nw{lv:bj}{o:aG}(h:eZ lv o){k x:Nat}(hk:o[k]?=some x):o.countP (λy=>gv lv y x)=k:=by
 have hlt:=cH hk;have e:o=o.take k++x::o.drop (k+1):=by
  rw[eE hlt]at hk;refine rL (aK hk)<|rL (tL hlt) ?_
  rw[q9]
 have hp:=h.pw;generalize ha:o.take k=a at e;generalize hb:o.drop (k+1)=b at e;have hal:a.length=k:=by refine rL ha<|rR gU ?_;exact Tf hlt
 rw[e]at hp⊢;have h1:=kD.mp hp;have h2:=pQ.mp h1.2.1;refine rR List.countP_append<|rR tK<|rR zx<|rR (bO<|by decide)<|rR (List.countP_eq_length.mpr λy hy=>h1.2.2 y hy x cR)<|rR (List.countP_eq_zero.mpr λy hy=>by rw[Oh<|h2.1 y hy];decide) ?_
 exact Tg hal
theorem OD{p q:Nat->Bool}:∀{l:aG},(∀x∈l,¬(p x=true/\q x=true))->(l.filter p).length+(l.filter q).length=l.countP λx=>p x||q x
 |[],_=>rfl
 |a::l,h=>by
  have ih:=OD (l:=l) λx hx=>h x<|dh _ hx
  have ha:=h a cR;refine rR q5<|rR q5<|rR tK<|rL ih ?_
  cases hp:p a<;>cases hq:q a
  ·simp
  ·simp;exact Th
  ·simp;exact Ti
  ·exact absurd ⟨hp,hq⟩ ha
theorem OE{Γ:b7}{a:CE}{ae:bf}{H H1:ak}{k:Nat}(ha:az Γ a ae H=some (.i k,H1))(hk:k<=1000):az Γ (.z a) ae H=some (.e H1.length,H1++[some<|.l<|List.replicate k .n]):=by show((az Γ a ae H).bind λx=>gS x.1 λk=>if 0<=k/\k<=2^20 then some (jR x.2<|.l<|List.replicate k.toNat .n)else none)=_;refine rR ha ?_;exact(bw ⟨iY k,Tj hk⟩).trans rfl
def ki(o done:aG):au:=o.map λx=>if x∈done then aE x else .n
set_option tactic.hygienic true in
theorem NA{o done:aG}{k x:Nat}(hn:o.Nodup)(hk:o[k]?=some x):(ki o done).set k (aE x)=ki o (done++[x]):=by
 have hlt:=cH hk;refine ext_get (by simp[ki]) λj hj=>?_;simp only[ki,List.length_set,List.length_map]at hj;refine X1 (h_ hj) λy hy=>?_;rw[List.getElem?_set];unfold ki;rw[bI,cQ,cQ,hy];simp only[Option.map_some];split
 ·rename_i e;clear hj;subst e;rw[hk]at hy;obtain rfl:=aK hy;exact rR (bw<|by simp) rfl
 ·rename_i e;have:y≠x:=by rintro rfl;exact e<|(tM hlt hn).mp<|by exact rR hk<|rR hy rfl
  congr 1;by_cases hm:y∈done
  ·exact rR (bw hm)<|rR (bw<|by simp[hm]) rfl
  ·exact rR (bO hm)<|rR (bO<|by simp[hm,this]) rfl
theorem NE(n:Nat){lv:bj}{o:aG}(hS:ie lv)(ho:eZ lv o)(H:ak):gam (n+2) "" "_law_order" [.l<|lv.map aD] H=some (.l<|o.map aE,H):=by
 refine dX (n:=n+1) (ir:=IS) (vs:=[.l<|lv.map aD]) (by kernel_rfl) rfl rfl rfl (by simp only[List.all_cons,List.all_nil,Bool.and_true,kY]) ?_;show Ok (aF (gam<|n+1) BK [some<|.l<|lv.map aD,none,none,none,none] []) _;have hle:=hS.le;have hpl:=zz lv;have jn:=ho.pm.length_eq;unfold BK
 refine aZ (v:=.l<|(dK lv).map aE) (H1:=[]) (by
  rw[OC (f:=vL) (t:=λx=>mY<|EJ x) (own:=vM) (vs:=[.l<|lv.map aD]) (H1:=[]) (aJ rfl bA) ji (λx hx=>?_) (λx hx=>?_) λx hx U=>?_]
  ·(rewrite[EI];refine rR List.filter_map<|rR i6 ?_)
   unfold dK;refine congrArg (λz=>some (PV.l z,([]:ak))) ?_;rw[List.filter_congr (q:=bH lv)]
   ·refine m9 λi U=>rfl
   ·intro i U;show mY (aD<|lo lv i)=(lo lv i).isSome;cases lo lv i<;>rfl
  ·rw[EI]at hx;refine aC (bV.mp hx) λi U aR=>?_;clear hx;subst aR;rfl
  ·rw[EI]at hx;refine aC (bV.mp hx) λi U aT=>?_;clear hx;subst aT;simp only[vM,vL,EJ,List.cons_append,List.nil_append];exact bu (p:=aD<|lo lv i) (q:=.n) rfl rfl<|by cases lo lv i<;>rfl
  ·simp only[vM,List.cons_append,List.nil_append]
   (try simp only[wl,bx,reduceIte];try rfl)) ?_
 refine aZ (v:=.e 0) (H1:=[some<|.l<|ki o []]) (by
  refine rR (OE (k:=(dK lv).length) (H1:=[]) (by(try simp only[wl,bx,reduceIte];try rfl);simp)<|wX hle hpl) ?_;congr 4;show[some<|AO.l<|List.replicate _ PV.n]=_;congr 2;refine rL jn ?_;unfold ki
  simp[List.map_const']) ?_
 refine gr (H':=[some<|.l<|ki o []]) (vs:=[.l<|(dK lv).map aE]) (items:=(dK lv).map aE) (λi ae H=>∃o3 o4,ae=[some<|.l<|lv.map aD,some<|.l<|(dK lv).map aE,some<|.e 0,o3,o4]/\H=[some<|.l<|ki o<|(dK lv).take i])
  rfl fF (gR none none rfl rfl) (λi x ae H hx hI=>?_) (λae H hI=>?_)
 ·(refine gG hI λo3 o4 aL aM=>?_;subst aL;clear hI;subst aM)
  rw[cQ]at hx;refine aC (gV.mp hx) λp hp aP=>?_;clear hx;subst aP;have hpp:=kZ.mp<|dY hp
  have htk:(dK lv).take (i+1)=(dK lv).take i++[p]:=by refine rR pT<|rR hp ?_;rfl
  refine X1 (kA<|ho.mem.mpr hpp) λk hk=>?_;have NM:=cH hk;have hr:=Nw ho hk
  rw[ho.pm.countP_eq,show(λy=>gv lv y p)=λy=>(decide (y<p)&&decide (mn lv y p %2=0))||(decide (p<y)&&!decide (mn lv p y %2=0))from rfl,<-OD (λx U h=>by
   simp only[Bool.and_eq_true,decide_eq_true_eq]at h;(first|lia|omega))]at hr
  generalize hF:ki o ((dK lv).take i)=F;have N0:F.length=o.length:=by refine rL hF ?_;simp[ki]
  refine aA _ rfl ?_;have cl:∀{e4:bR},az (gam<|n+1) (.D (.v 5) false ["mate"] .v [.v 1] [.a true [.m .l (.v 5)<|.v 3,.h "_law_is_kept" [.v 0,.v 5,.v 3]]]) [some<|.l<|lv.map aD,some<|.l<|(dK lv).map aE,some<|.e 0,some<|aE p,e4] [some<|.l F]=
    some (.l<|((dK lv).filter λy=>decide (y<p)&&decide (mn lv y p %2=0)).map aE,[some<|.l F]):=λ{e4}=>by
   rw[pJ (f:=id) (t:=λx=>match x with|.i i=>decide (i.toNat<p)&&decide (mn lv i.toNat p %2=0)|_=>false) (vs:=[.l<|(dK lv).map aE]) (H1:=[some<|.l F]) (aJ rfl bA) fF (λx hx=>?_) λx hx U=>?_]
   ·(rewrite[List.map_id];exact rR (zA (p:=λy=>decide (y<p)&&decide (mn lv y p %2=0)) λx U=>by simp[aE]) rfl)
   ·(refine aC (bV.mp hx) λq hq aN=>?_;clear hx;subst aN)
    have hq:=kZ.mp hq;simp only[List.cons_append,List.nil_append,aE,Int.toNat_natCast]
    refine f_ (bu (p:=.i q) (q:=.i p) rfl rfl (by
     show some (decide<|(q:Int)<p)=_
     congr 1;exact rh.mpr Gw)) λhc=>?_
    have hc:=cG hc;exact bP (vs:=[.l<|lv.map aD,.i q,.i p]) rfl<|OB n hle hq (gX hc) (ic hpp) _
   ·simp only[List.cons_append,List.nil_append]
    (try simp only[wl,bx,reduceIte];try rfl)
  have cr:∀{e4:bR},az (gam<|n+1) (.D (.v 5) false ["mate"] .v [.v 1] [.a true [.m .g (.v 5)<|.v 3,.o<|.h "_law_is_kept" [.v 0,.v 3,.v 5]]]) [some<|.l<|lv.map aD,some<|.l<|(dK lv).map aE,some<|.e 0,some<|aE p,e4] [some<|.l F]=
    some (.l<|((dK lv).filter λy=>decide (p<y)&&!decide (mn lv p y %2=0)).map aE,[some<|.l F]):=λ{e4}=>by
   rw[pJ (f:=id) (t:=λx=>match x with|.i i=>decide (p<i.toNat)&&!decide (mn lv p i.toNat %2=0)|_=>false) (vs:=[.l<|(dK lv).map aE]) (H1:=[some<|.l F]) (aJ rfl bA) fF (λx hx=>?_) λx hx U=>?_]
   ·(rewrite[List.map_id];exact rR (zA (p:=λy=>decide (p<y)&&!decide (mn lv p y %2=0)) λx U=>by simp[aE]) rfl)
   ·(refine aC (bV.mp hx) λq hq aQ=>?_;clear hx;subst aQ)
    have hq:=kZ.mp hq;simp only[List.cons_append,List.nil_append,aE,Int.toNat_natCast]
    refine f_ (bu (p:=.i q) (q:=.i p) rfl rfl (by
     show some (decide<|(p:Int)<q)=_
     congr 1;exact rh.mpr Gw)) λhc=>?_
    have hc:=cG hc;exact M3<|bP (vs:=[.l<|lv.map aD,.i p,.i q]) rfl<|OB n hle hpp (gX hc) (ic hq) _
   ·simp only[List.cons_append,List.nil_append]
    (try simp only[wl,bx,reduceIte];try rfl)
  refine aZ cl ?_;generalize hl1:(dK lv).filter (λy=>decide (y<p)&&decide (mn lv y p %2=0))=l1 at*;generalize hl2:(dK lv).filter (λy=>decide (p<y)&&!decide (mn lv p y %2=0))=l2 at*
  refine pC (k:=k) (v:=aE p) (m:=0) (l1:=F) (H1:=[some<|.l F]) (H2:=[some<|.l F]) (H3:=[some<|.l F]) rfl rfl (dD (p:=.i (l1.map aE).length) (q:=.i (l2.map aE).length) (H1:=[some<|.l F]) (e_len rfl) (e_len cr) (by
   show some (PV.i _)=some (PV.i _);rw[bI,bI]
   congr 2;exact To hr)) rfl (Tp NM N0)<|cu<|gR _ _ rfl ?_
  refine rR htk (rL (NA ho.nodup hk)<|rR hF ?_);rfl
 ·(refine gG hI λo3 o4 aR aT=>?_;clear hI;subst aR;subst aT)
  rewrite[bI];refine rR m_ ?_;have e:ki o (dK lv)=o.map aE:=by unfold ki;refine m9 λx hx=>?_;exact rR (bw<|kZ.mpr<|ho.mem.mp hx) rfl
  refine rR e ?_;exact bX (v:=.e 0) rfl<|gu rfl (ints_of o).b8
theorem ne_self{H:ak}{l:au}(h:∀x∈l,simple 3 x=true):cE H .n (.l l) (.l l)=some false:=by
 have e:simple 4 (.l l)=true:=(gj.mpr h:l.all (simple 3)=true)
 show(if(_||(simple 4 (.l l)&&simple 4 (.l l)))=true then some (!fj (.l l) (.l l))else none)=_;refine rR e<|rR (xg 4 _ e) ?_
 simp
theorem eq_self{H:ak}{l:au}(h:∀x∈l,simple 3 x=true):cE H .e (.l l) (.l l)=some true:=by
 have e:simple 4 (.l l)=true:=(gj.mpr h:l.all (simple 3)=true)
 show(if(_||(simple 4 (.l l)&&simple 4 (.l l)))=true then some (fj (.l l)<|.l l)else none)=_;refine rR e<|rR (xg 4 _ e) ?_
 simp
theorem N'{n:Nat}(o:bK):simple n (aD o)=true:=by induction o using e9<;>induction n using gD<;>rfl
theorem EK(lv:bj)(n:Nat):∀x∈lv.map aD,simple n x=true:=λx hx=>by(refine aC (bV.mp hx) λo U aL=>?_;clear hx;subst aL);exact N' o
theorem vN(l:aG)(n:Nat):∀x∈l.map aE,simple n x=true:=λx hx=>by(refine aC (bV.mp hx) λo U aM=>?_;clear hx;subst aM);exact EC _
theorem s_{Γ:b7}{es:List CE}{b:oG}{ae:bf}{H H1:ak}{vs:au}{r:PV×ak}(h:cX Γ es ae H=some (vs,H1))(hb:jS H1 b vs=some r):az Γ (.k b es) ae H=some r:=by refine rR lM<|rR h ?_;exact hb
noncomputable def posOf:aG->Nat->Option Nat
 |[],_=>none
 |a::l,p=>if a=p then some 0 else(posOf l p).map (·+1)
def ig(o:aG)(p:Nat):PV:=match posOf o p with
 |some k=>.i k
 |none=>.n
theorem On(l:aG)(a p:Nat):posOf (l++[a]) p=(posOf l p).or (if a=p then some l.length else none):=by
 induction l with
 |nil=>simp only[List.nil_append,posOf,Option.or];split<;>rfl
 |cons b l ih=>
  simp only[List.cons_append,posOf,ih];split
  ·rfl
  ·cases posOf l p with
   |none=>simp only[Option.none_or,Option.map_none];split<;>simp
   |some k=>rfl
theorem zC:∀{o:aG}{k p:Nat},o.Nodup->o[k]?=some p->posOf o p=some k
 |[],k,p,_,h=>by simp at h
 |a::l,0,p,_,h=>by have:=aK h;simp[posOf,this]
 |a::l,k+1,p,hn,h=>by
  have hn:=kC.mp hn;have h:l[k]?=some p:=h;have hne:¬a=p:=λe=>hn.1<|e▸dY h
  rewrite[posOf];refine rR (bO hne)<|rR (zC hn.2 h) ?_;rfl
theorem EL:∀{o:aG}{p:Nat},p∉o->posOf o p=none
 |[],p,_=>rfl
 |a::l,p,h=>by rw[eO,not_or]at h;rewrite[posOf];refine rR (bO λe=>h.1 e.symm)<|rR (EL h.2) ?_;rfl
theorem EM{o:aG}{k p:Nat}(hn:o.Nodup)(h:posOf o p=some k):o[k]?=some p:=by
 by_cases hm:p∈o
 ·refine X1 (kA hm) λj hj=>?_;rw[zC hn hj]at h;refine rL (aK h) ?_;exact hj
 ·rw[EL hm]at h;exact nN h
theorem Op{o:aG}{k p:Nat}(hn:o.Nodup)(h:o[k]?=some p):ig o p=.i k:=by unfold ig;exact rR (zC hn h) rfl
def fU(o:aG)(N:Nat):au:=(List.range N).map<|ig o
theorem zD{o:aG}{N p:Nat}(h:p<N):(fU o N)[p]?=some (ig o p):=by unfold fU;rw[cQ,lU h];rfl
theorem EN(o:aG)(N:Nat):(fU o N).length=N:=by simp[fU]
set_option tactic.hygienic true in
theorem Os{l:aG}{N p:Nat}(hp:p<N)(hn:p∉l):(fU l N).set p (.i l.length)=fU (l++[p]) N:=by
 refine ext_get (by simp[fU]) λj hj=>?_;rw[i5,EN]at hj;rw[List.getElem?_set,EN,zD hj,zD hj];unfold ig;rw[On];split
 ·rename_i e;clear hj;subst e;refine rR (EL hn) ?_;rfl
 ·cases posOf l j<;>rfl
theorem OF(n:Nat){o:aG}{N:Nat}(hN:N<=100)(ho:o.length<=100)(hn:o.Nodup)(hp:∀x∈o,x<N)(H:ak):gam (n+1) "" "visual_places" [.l<|o.map aE,.i N] H=some (.l<|fU o N,H):=by
 refine dX (ir:=Iz) (vs:=[.l<|o.map aE,.i N]) (by kernel_rfl) rfl rfl rfl (by simp only[List.all_cons,List.all_nil,Bool.and_true,(ints_of o).fz,Bool.true_and];rfl) ?_;show Ok (aF (gam n) Bv [some<|.l<|o.map aE,some<|.i N,none,none,none] []) _;unfold Bv
 refine aZ (v:=.e 0) (H1:=[some<|.l<|fU [] N]) (by
  refine rR (OE (k:=N) (H1:=[]) rfl<|Af hN) ?_;congr 4;show[some<|AO.l<|List.replicate _ PV.n]=_;congr 2;show AO.l (List.replicate N PV.n)=AO.l ((List.range N).map λU=>PV.n)
  simp[List.map_const']) ?_
 refine gr (H':=[some<|.l<|fU [] N]) (vs:=[.l<|o.map aE]) (items:=dU<|o.map aE) (λi ae H=>∃o3 o4,ae=[some<|.l<|o.map aE,some<|.i N,some<|.e 0,o3,o4]/\H=[some<|.l<|fU (o.take i) N])
  rfl ji (gR none none rfl rfl) (λi x ae H hx hI=>?_) (λae H hI=>?_)
 ·(refine gG hI λo3 o4 aN aQ=>?_;subst aN;subst aQ)
  refine aC (j6 hx) λv hv aR=>?_;clear hx;subst aR;rw[cQ]at hv;refine aC (gV.mp hv) λp pK aT=>?_;clear hv;subst aT;have hi:=cH pK;have htk:o.take (i+1)=o.take i++[p]:=by refine rR pT<|rR pK ?_;rfl
  have OG:=hp p<|dY pK
  have hnm:p∉o.take i:=λh=>by
   refine X1 (kA h) λj hj=>?_;have kg:=cH hj;rw[gU]at kg;rw[tO<|Tq kg]at hj;have:=(tM (by exact Tr kg:j<o.length) hn).mp (hj.trans pK.symm)
   (first|lia|omega)
  refine aA _ rfl ?_;refine pC (k:=p) (v:=.i i) (m:=0) (l1:=fU (o.take i) N) (H1:=[some<|.l<|fU (o.take i) N]) (H2:=[some<|.l<|fU (o.take i) N]) (H3:=[some<|.l<|fU (o.take i) N]) rfl rfl rfl rfl (by rw[EN];exact OG)<|cu<|gR _ _ rfl ?_
  refine rR htk (rL (Os OG hnm)<|rR gU<|rR (oz<|gX hi) ?_);rfl
 ·(refine gG hI λo3 o4 aL aM=>?_;clear hI;subst aL;subst aM)
  refine rR mP ?_;rewrite[bI];refine rR m_ ?_;refine bX (v:=.e 0) rfl (gu rfl λx hx=>?_);refine aC (bV.mp hx) λp U aP=>?_;clear hx;subst aP;unfold ig;cases posOf o p with
  |none=>exact iT<|.inl rfl
  |some k=>exact iT<|.inr<|.inr<|.inl ⟨_,rfl⟩
def Good(lv:bj)(o:aG)(x y:Nat):Prop:=∀(kx ky:Nat),o[kx]?=some x->o[ky]?=some y->decide (kx<ky)=decide (mn lv x y %2=0)
theorem EO(o:aG):o.map aE=(o.map Int.ofNat).map PV.i:=by refine rR i6 ?_;rfl
theorem Oy{lv:bj}{o:aG}(h:o.Perm<|dK lv):sortedZ (o.map Int.ofNat)=(dK lv).map Int.ofNat:=
 Om (h.symm.map _) (pR.mpr ((zw lv).imp λh=>by simp only[Int.ofNat_eq_natCast];exact Tt h))
theorem ne_bool{H:ak}{a b:Bool}:cE H .n (.b a) (.b b)=some (!decide (a=b)):=by
 show some (!(a==b))=_
 induction a using cP<;>induction b using cP<;>rfl
section
variable {n:Nat}{lv:bj}{o:aG}{i q k1:Nat}{m:Int}{ae:bf}
theorem EP{x:Nat}{l:Int}(h:lo lv x=some l):bH lv x=true:=by unfold bH;refine rR h ?_;rfl
theorem OH{x:Nat}(h:bH lv x=true)(h0:lo lv x=none):False:=by unfold bH at h;rw[h0]at h;exact nB h
theorem OK{P:Res->Prop}(hq:q<lv.length)(hi:i<lv.length)(tg:o[k1]?=some i)(hnd:o.Nodup)(hmem:∀{x},x∈o↔bH lv x=true)(v1:ae[1]?=some (some<|.l<|lv.map aD))(v2:ae[2]?=some (some<|.l<|fU o lv.length))(v3:ae[3]?=some (some<|.i i))(v4:ae[4]?=some (some<|.i m))(v5:ae[5]?=some (some<|.i q))
  (h0:lo lv q=none->P (.n,ae,[]))
  (h1:∀l2 k2,lo lv q=some l2->o[k2]?=some q->decide (k1<k2)=decide (min m l2 %2=0)->P (.n,ae.set 4<|some<|.i<|min m l2,[]))
  (h2:∀l2 k2,lo lv q=some l2->o[k2]?=some q->¬decide (k1<k2)=decide (min m l2 %2=0)->P (.r<|.b false,ae.set 4<|some<|.i<|min m l2,[])):
  Ok (aF (gam<|n+1) [.i (.m .t (.d (.v 1)<|.v 5)<|.c .n)
    [.a 4<|.k .n [.v 4,.d (.v 1)<|.v 5],
    .i (.m .n (.m .l (.d (.v 2)<|.v 3)<|.d (.v 2)<|.v 5)<|.m .e (.b .o (.v 4)<|.c<|.i 2)<|.c<|.i 0)
     [.r<|.c<|.b false]
     []]
    []] ae []) P:=by
 have hidx:az (gam<|n+1) (.d (.v 1)<|.v 5) ae []=some (aD<|lo lv q,[]):=e_idx (p:=.l<|lv.map aD) (q:=.i q) (bq v1) (bq v5)<|dB<|lQ hq
 refine bU (c:=(lo lv q).isSome) (H':=[]) (bu hidx cL<|qI _) (λhc=>?_) λhc=>cu<|h0<|by simpa using hc
 refine X1 (nh.mp hc) λl2 hl2=>?_;rw[hl2]at hidx;refine X1 (kA<|hmem.mpr<|EP hl2) λk2 hk2=>?_;refine aZ (v:=.i<|min m l2) (H1:=[]) (s_ (aJ (p:=.i m) (H1:=[]) (bq v4)<|aJ hidx bA) MP) ?_;have l4:=cH v4;have sv:∀{a:Nat}{v:PV},a≠4->ae[a]?=some (some v)->(ae.set 4<|some<|.i<|min m l2)[a]?=some (some v):=λh e=>by rw[jr h.symm];exact e
 have OI:∀{p k a:Nat},o[k]?=some p->p<lv.length->a≠4->ae[a]?=some (some<|.i p)->az (gam<|n+1) (.d (.v 2)<|.v a) (ae.set 4<|some<|.i<|min m l2) []=some (.i k,[]):=λh1 h2 ha h3=>
  e_idx (p:=.l<|fU o lv.length) (q:=.i _) (bq<|sv (by decide) v2) (bq<|sv ha h3) (dB<|by exact rR (zD h2)<|rR (Op hnd h1) rfl)
 have ek:decide ((k1:Int)<k2)=decide (k1<k2):=rh.mpr oi;refine bU (c:=!decide (decide ((k1:Int)<k2)=decide (min m l2 %2=0))) (H':=[]) (bu (p:=.b<|decide<|(k1:Int)<k2) (q:=.b<|decide<|min m l2 %2=0) (bu (OI tg hi (by decide) v3) (OI hk2 hq (by decide) v5) rfl) (bu (p:=.i<|min m l2 %2) (q:=.i 0) (dD (p:=.i<|min m l2) (q:=.i 2) (bq<|by rw[jL l4]) cL rfl) cL rfl) ne_bool) (λhc=>?_) λhc=>?_
 ·rw[k9,decide_eq_false_iff_not,ek]at hc;exact bX (v:=.b false) (H':=[]) cL<|h2 l2 k2 hl2 hk2 hc
 ·rw[tH,ff,ek]at hc;exact cu<|h1 l2 k2 hl2 hk2 hc
theorem OJ(hg:∀x y,x<i->bH lv x=true->bH lv y=true->x<y->Good lv o x y)(qQ:bH lv i=true->∀y,i<y->bH lv y=true->Good lv o i y):∀x y,x<i+1->bH lv x=true->bH lv y=true->x<y->Good lv o x y:=λx y hxi hx hy hxy=>by
 rcases dm x i with h|h
 ·exact hg x y h hx hy hxy
 ·obtain rfl:x=i:=eI (Nat.le_of_lt_succ hxi) h;exact qQ hx y hxy hy
end
def vO(o:aG)(lv:bj)(a b c:bR):bf:=[some<|.l<|o.map aE,some<|.l<|lv.map aD,some<|.l<|fU o lv.length,a,b,c]
theorem OL(n:Nat){lv:bj}{o:aG}(hS:ie lv)(g8:o.Perm<|dK lv)(H:ak):
  ∃c:Bool,gam (n+2) "" "is_order_of" [.l<|o.map aE,.l<|lv.map aD] H=some (.b c,H)/\(c=true↔∀x y,bH lv x=true->bH lv y=true->x<y->Good lv o x y):=by
 obtain⟨v,e,c,rfl,h⟩:=sL (c:="") (f:="is_order_of") (H:=H) (args:=[.l<|o.map aE,.l<|lv.map aD]) (Q:=λv=>∃c:Bool,v=.b c/\(c=true↔∀x y,bH lv x=true->bH lv y=true->x<y->Good lv o x y)) (n:=n+1) (ir:=Iw) (vs:=[.l<|o.map aE,.l<|lv.map aD]) (by kernel_rfl) rfl rfl rfl (by simp only[List.all_cons,List.all_nil,Bool.and_true,kY,(ints_of o).fz]) λT K=>by
  show Ok (aF (gam<|n+1) Bu [some<|.l<|o.map aE,some<|.l<|lv.map aD,none,none,none,none] []) T;have hle:=hS.le;have jn:o.length<=20:=by refine rR g8.length_eq ?_;exact eR (zz lv) hle
  have hnd:o.Nodup:=g8.nodup_iff.mpr<|Et lv
  have hmem:∀{x},x∈o↔bH lv x=true:=λ{x}=>by rw[g8.mem_iff,kZ]
  have jd:(lv.map aD).length=lv.length:=bI _;unfold Bu
  refine bU (c:=false) (H':=[]) (bu (p:=.l<|(dK lv).map aE) (q:=.l<|(dK lv).map aE) (H1:=[]) (by
   refine rR lM<|rR (aJ (p:=.l<|o.map aE) (H1:=[]) rfl bA) ?_
   simp only[Option.bind_some];rewrite[EO];refine rR (vJ<|by rw[bI];exact Tu jn)<|rR (Oy g8) ?_
   rw[<-EO]) (Ol hle rfl (λx=>by simp only[List.cons_append,List.nil_append];(try simp only[wl,bx,reduceIte];try rfl)) λx=>by simp only[List.cons_append,List.nil_append];(try simp only[wl,bx,reduceIte];try rfl))<|ne_self<|vN _ _) nB λU=>?_
  refine aZ (v:=.l<|fU o lv.length) (H1:=[]) (bP (vs:=[.l<|o.map aE,.i lv.length]) (H1:=[]) (by(try simp only[wl,bx,reduceIte];try rfl);exact rR jd rfl)<|OF n (uo hle) (uo jn) hnd (λx hx=>ic<|hmem.mp hx) _) ?_;clear g8;refine pE (vs:=[.i lv.length]) (vO o lv) (λU U U U=>[]) (λi U U U=>∀x y,x<i->bH lv x=true->bH lv y=true->x<y->Good lv o x y) none none none
   (by(try simp only[wl,bx,reduceIte];try rfl);exact rR jd rfl) rfl (yV jx<|Ae hle) (λU U h=>absurd h<|rg _) (λi x a b c hx hg T R k kr=>?_) (λa b c hg=>?_)
  ·rw[Ez]at hx;have hi:=cH hx;rw[bI,tQ]at hi;rw[cQ,lU hi]at hx;obtain rfl:=aK hx;refine aA _ rfl (aZ (v:=aD<|lo lv i) (H1:=[]) (e_idx (p:=.l<|lv.map aD) (q:=.i i) rfl rfl<|dB<|lQ hi) ?_);show Ok (aF _ _ (vO o lv (some<|.i i) (some<|aD<|lo lv i) c) []) _;cases hl:lo lv i with
   |none=>
    refine DM (λU:Unit=>vO o lv (some<|.i i) (some .n) c) (λU U=>[]) (λU U=>True) ()
     (aJ rfl<|aJ (iB (c:=false) (bu (p:=.n) (q:=.n) rfl rfl rfl) nB λU=>rfl) bA) rfl (pA Gx (Gy hle hi) jx<|Tv hle hi) trivial (λj y U hy U T K=>?_) (λU U=>?_)
    ·have:=cH hy;rw[qC]at this
     (first|lia|omega)
    ·exact cu<|k _ _ _ (OJ hg λh=>(OH h hl).elim)
   |some l=>
    have pK:=EP hl;refine X1 (kA<|hmem.mpr pK) λk1 tg=>?_;refine Mu (vs:=[.i<|(i:Int)+1,.i lv.length]) (λb c=>vO o lv (some<|.i i) b c) (λU U U=>[]) (λj b U=>b=some (aD<|jJ lv i j)/\∀y,i<y->y<i+1+j->bH lv y=true->Good lv o i y) _ c
     (aJ rfl<|aJ (iB (c:=true) (bu (p:=.i l) (q:=.n) rfl rfl rfl) (λU=>(e_len (l:=lv.map aD)<|bq rfl).trans<|by exact rR jd rfl) nofun) bA) rfl (pA Gx (Gy hle hi) jx<|Ae hle) ⟨by(rewrite[jJ];exact rR hl rfl),λy h1 h2=>absurd h2<|Nat.not_lt.mpr h1⟩ (λj y b c hy hJ T2 R2 k2 O'=>?_) (λb c hJ=>?_)
    ·(refine U1 hJ λaN qQ=>?_;clear hJ;subst aN)
     refine U1 (sQ hy) λaQ hlt=>?_;clear hy;subst aQ;refine aC (Es pK j) λm hm U=>?_;have hmn:jJ lv i (j+1)=N9 (some m) (lo lv<|i+(j+1)):=by(rewrite[jJ];exact rR hm rfl)
     have OM:mn lv i (i+(j+1))=(jJ lv i<|j+1).getD 0:=by unfold mn;rw[tV]
     refine rR hm<|rR (show((i:Int)+1+j)=((i+(j+1):Nat):Int)from Tw) ?_
     rw[Nat.add_assoc,Nat.add_comm 1 j]at qQ
     have k2:∀b c,b=some (aD<|jJ lv i<|j+1)->(bH lv (i+(j+1))=true->Good lv o i (i+(j+1)))->T2 (vO o lv (some<|.i i) b c) []:=λb c e h=>k2 b c ⟨e,λy h1 h2 h3=>by
      rcases dm y (i+(j+1))with h'|h'
      ·exact qQ y h1 h' h3
      ·obtain rfl:y=i+(j+1):=Tz h2 h'
       exact h h3⟩
     have hq:i+(j+1)<lv.length:=TA hlt;refine aA _ rfl (OK (q:=i+(j+1)) hq hi tg hnd hmem rfl rfl rfl rfl rfl (λh0=>k2 _ _ (by refine rR hmn<|rR h0 ?_;rfl) λh=>(OH h h0).elim) (λl2 k0 hl2 hk2 hc=>?_) λl2 k0 hl2 hk2 hc=>?_)
     ·have e:jJ lv i (j+1)=some (min m l2):=by refine rR hmn<|rR hl2 ?_;rfl
      refine k2 _ _ (by refine rR e ?_;rfl) λU kx ky e1 e2=>?_;have f1:=(tM (cH e1) hnd).mp<|e1.trans tg.symm
      have f2:=(tM (cH e2) hnd).mp<|e2.trans hk2.symm
      clear tg;subst f1;clear hk2;subst f2;refine rR OM<|rR e ?_;exact hc
     ·have e:jJ lv i (j+1)=some (min m l2):=by refine rR hmn<|rR hl2 ?_;rfl
      refine O' _ _ _ (kr _ _ _ (K _ _ _ _ rfl (aA false rfl ⟨nofun,λh=>?_⟩)));have:=h i _ pK (EP hl2) (Nat.lt_add_of_pos_right<|Nat.succ_pos j) k1 k0 tg hk2;rw[OM,e]at this;exact absurd this hc
    ·(refine U1 hJ λaR qQ=>?_;clear hJ;subst aR)
     rw[qC]at qQ;exact cu<|k _ _ _ (OJ hg λU y hxy hy=>qQ y hxy (by have:=ic hy;exact TF this) hy)
  ·rw[qC]at hg;exact bX (v:=.b true) (H':=[]) cL<|K _ _ _ _ rfl (aA true rfl ⟨λU x y hx hy hxy=>hg x y (by have:=ic hx;exact TG this) hx hy hxy,λU=>rfl⟩)
 exact aA c e h
theorem Pi{lv:bj}{o:aG}(h:eZ lv o):∀x y,bH lv x=true->bH lv y=true->x<y->Good lv o x y:=λx y hx hy hxy kx ky e1 e2=>by
 have hlx:=cH e1;have ER:=cH e2;rw[eE hlx]at e1;rw[eE ER]at e2;have e1:=aK e1;have e2:=aK e2;have hp:=List.pairwise_iff_getElem.mp h.pw;rcases rf kx ky with g|g|g
 ·have:=hp kx ky hlx ER g;rw[e1,e2,gv,di hxy,dG (by exact i9 hxy:¬y<x)]at this;refine rR (di g) ?_;simpa using this
 ·clear e2;subst g;(first|lia|omega)
 ·have:=hp ky kx ER hlx g;rw[e1,e2,gv,di hxy,dG (by exact i9 hxy:¬y<x)]at this;refine rR (dG (by exact i9 g:¬kx<ky)) ?_;simpa using this
theorem Pl{lv:bj}{a b:Nat}{r:aG}(h:eZ lv<|a::b::r):¬∀x y,bH lv x=true->bH lv y=true->x<y->Good lv (b::r++[a]) x y:=λhg=>by
 have ha:bH lv a=true:=h.mem.mp<|by simp
 have hb:bH lv b=true:=h.mem.mp<|by simp
 have hab:gv lv a b=true:=(pQ.mp h.pw).1 b<|by simp
 have e1:(b::r++[a])[r.length+1]?=some a:=by simp
 have e2:(b::r++[a])[0]?=some b:=rfl;rcases rf a b with g|g|g
 ·have:=hg a b ha hb g _ _ e1 e2;rw[gv,di g,dG (by exact i9 g:¬b<a)]at hab;rw[dG TH]at this;simp at hab this
  (first|lia|omega)
 ·clear h hg hb e1 e2;subst g;rw[zx]at hab;exact nB hab
 ·have:=hg b a hb ha g _ _ e2 e1;rw[gv,di g,dG (by exact i9 g:¬a<b)]at hab;rw[di TJ]at this;simp at hab this
  (first|lia|omega)
abbrev Run:=Nat×Nat×Int
noncomputable def c6(r:Run):PV:=.t [.i r.1,.i r.2.1,.i r.2.2]
noncomputable def mZ(o:bK)(t:Nat)(rs:List Run):List Run:=match o with
 |none=>rs
 |some l=>match rs.getLast? with
  |some r=>if r.2.2=l then rs.dropLast++[(r.1,t+1,l)]else rs++[(t,t+1,l)]
  |none=>rs++[(t,t+1,l)]
def gB(lv:bj):Nat->List Run
 |0=>[]
 |t+1=>mZ (lo lv t) t<|gB lv t
structure LN (lv:bj)(t:Nat)(rs:List Run):Prop where
 ok:∀r∈rs,r.1<r.2.1/\r.2.1<=t/\bH lv r.1=true/\∀c,r.1<=c->c<r.2.1->bH lv c=true->dw lv c=r.2.2
 pw:rs.Pairwise λr s=>r.2.1<=s.1
 tq:∀c,c<t->bH lv c=true->∃r∈rs,r.1<=c/\c<r.2.1
 sz:rs.length<=t
set_option tactic.hygienic true in
theorem tu(lv:bj):∀t,LN lv t<|gB lv t
 |0=>⟨(λU h=>nomatch h),List.Pairwise.nil,λU h=>absurd h<|rg _,bY _⟩
 |t+1=>by
  have I:=tu lv t;show LN lv (t+1)<|mZ (lo lv t) t<|gB lv t
  generalize gB lv t=rs at I;cases hl:lo lv t with
  |none=>
   have hn:bH lv t=false:=by unfold bH;refine rR hl ?_;rfl
   refine⟨λr hr=>let q:=I.ok r hr;⟨q.1,by(first|lia|omega),q.2.2⟩,I.pw,λc hc hp=>?_,by have:=I.sz;show rs.length<=_;exact l8 this⟩;rcases dm c t with h|h
   ·exact I.tq c h hp
   ·obtain rfl:c=t:=jP hc h;rw[hn]at hp;exact nB hp
  |some l=>
   have hp:bH lv t=true:=by unfold bH;refine rR hl ?_;rfl
   have qG:dw lv t=l:=by unfold dw;refine rR hl ?_;rfl
   have new:LN lv (t+1) (rs++[(t,t+1,l)]):=by
    refine⟨λr hr=>?_,kD.mpr ⟨I.pw,List.pairwise_singleton _ _,λr hr s hs=>by refine rR (dO.mp hs) ?_;exact(I.ok r hr).2.1⟩,λc hc tw=>?_,by refine rR gF ?_;have:=I.sz;simp;exact uh this⟩
    ·rcases dR.mp hr with hr|hr
     ·have q:=I.ok r hr;exact⟨q.1,by(first|lia|omega),q.2.2⟩
     ·refine rR (dO.mp hr) ?_;refine⟨by dsimp only;exact l9,bY _,hp,λc h1 h2 U=>?_⟩;dsimp only at h1 h2⊢;obtain rfl:c=t:=TL h1 h2;exact qG
    ·rcases dm c t with h|h
     ·refine aC (I.tq c h tw) λr h1 h2=>?_;exact aA r (dR.mpr<|.inl h1) h2
     ·exact cM _ (dR.mpr<|.inr cR) h hc
   unfold mZ;dsimp only;split
   ·rename_i r hr;split
    ·rename_i mR;refine X1 (wo.mp hr) λd aT=>?_;clear hr;subst aT;refine rR List.dropLast_concat ?_;have ES:=kD.mp I.pw;have lS:=I.ok r<|by simp
     refine⟨λs hs=>?_,kD.mpr ⟨ES.1,List.pairwise_singleton _ _,λs hs s' hs'=>by refine rR (dO.mp hs') ?_;exact ES.2.2 s hs r<|by simp⟩,λc hc tw=>?_,by have:=I.sz;simp only[List.length_append,List.length_singleton]at this⊢;exact TM this⟩
     ·rcases dR.mp hs with hs|hs
      ·have q:=I.ok s (by simp[hs]);exact⟨q.1,by(first|lia|omega),q.2.2⟩
      ·refine rR (dO.mp hs) ?_;refine⟨by dsimp only;(first|lia|omega),bY _,lS.2.2.1,λc h1 h2 tw=>?_⟩;dsimp only at h1 h2⊢;rcases dm c t with h|h
       ·rcases dm c r.2.1 with h'|h'
        ·exact rR (lS.2.2.2 c h1 h' tw)<|rR mR rfl
        ·exfalso;refine c_ (I.tq c h tw) λs s1 s2 s3=>?_;rcases dR.mp s1 with s1|s1
         ·have:=ES.2.2 s s1 r (by simp);(first|lia|omega)
         ·rw[dO.mp s1]at s3;(first|lia|omega)
       ·obtain rfl:c=t:=jP h2 h;exact qG
     ·rcases dm c t with h|h
      ·refine c_ (I.tq c h tw) λs s1 s2 s3=>?_;rcases dR.mp s1 with s1|s1
       ·exact cM s (dR.mpr<|.inl s1) s2 s3
       ·rw[dO.mp s1]at s2 s3;exact cM _ (dR.mpr<|.inr cR) s2 (by dsimp only;exact TN hc)
      ·obtain rfl:c=t:=jP hc h;exact cM _ (dR.mpr<|.inr cR) (by dsimp only;(first|lia|omega)) (by dsimp only;exact l9)
    ·exact new
   ·exact new
def gM(lv:bj)(f e:Nat):aG:=((List.range<|e-f).map (f+·)).filter<|bH lv
theorem tC{lv:bj}{f e c:Nat}:c∈gM lv f e↔f<=c/\c<e/\bH lv c=true:=by
 unfold gM;rw[List.mem_filter,bV];constructor
 ·rintro⟨⟨i,hi,rfl⟩,h⟩;rw[jM]at hi;exact⟨wW,Gz hi,h⟩
 ·rintro⟨h1,h2,h3⟩;exact⟨aA (c-f) (by rw[jM];exact TP h1 h2)<|ug h1,h3⟩
theorem ON(lv:bj)(f e:Nat):(gM lv f e).Pairwise (·<·):=
 wj _ (pR.mpr (List.pairwise_lt_range.imp λh=>TQ h))
def orient(lv:bj)(r:Run):aG:=if r.2.2 %2=0 then gM lv r.1 r.2.1 else(gM lv r.1 r.2.1).reverse
theorem zE{lv:bj}{r:Run}{c:Nat}:c∈orient lv r↔r.1<=c/\c<r.2.1/\bH lv c=true:=by
 unfold orient;split
 ·exact tC
 ·rw[List.mem_reverse];exact tC
noncomputable def rlv(rs:List Run):bj:=rs.map λr=>some r.2.2
theorem ET{rs:List Run}{i:Nat}{r:Run}(h:rs[i]?=some r):lo (rlv rs) i=some r.2.2:=by rw[lo,fV,rlv,cQ,h];rfl
theorem tD{rs:List Run}{i:Nat}:bH (rlv rs) i=true↔i<rs.length:=by
 constructor
 ·intro h;have:=ic h;rwa[rlv,bI]at this
 ·intro h;refine X1 (h_ h) λr hr=>?_;unfold bH;refine rR (ET hr) ?_;rfl
theorem EU{lv:bj}{n:Nat}{rs:List Run}(I:LN lv n rs)(hn:lv.length<=n){i j x y:Nat}{r s:Run}(hr:rs[i]?=some r)(hs:rs[j]?=some s)(hij:i<=j)(hxy:x<=y)(hx:r.1<=x/\x<r.2.1/\bH lv x=true)(hy:s.1<=y/\y<s.2.1/\bH lv y=true):
  mn lv x y=mn (rlv rs) i j:=by
 have EV:=cH hr;have kg:=cH hs;have hM:=pI (lv:=rlv rs) (tD.mpr EV) hij;have qR:∀{a b:Nat}{u v:Run},a<b->rs[a]?=some u->rs[b]?=some v->u.2.1<=v.1:=λ{a b u v} hab hu hv=>by have ha:=cH hu;have hb:=cH hv;have:=List.pairwise_iff_getElem.mp I.pw a b ha hb hab;rw[eE ha]at hu;rw[eE hb]at hv;rw[aK hu,aK hv]at this;exact this
 have zF:∀{k c:Nat}{u:Run},rs[k]?=some u->u.1<=c->c<u.2.1->bH lv c=true->lo lv c=lo (rlv rs) k:=λ{k c u} hu h1 h2 h3=>by exact rR (ET hu)<|rR (lR h3)<|rR ((I.ok u<|dY hu).2.2.2 c h1 h2 h3) rfl
 refine(pI hx.2.2 hxy).uniq ⟨?_,λc l h1 h2 h3=>?_⟩
 ·refine c_ hM.at_ λk k1 k2 k3=>?_;by_cases e1:k=i
  ·clear hij EV hM k1;subst e1;exact cM x (bY _) hxy<|by exact rR (zF hr hx.1 hx.2.1 hx.2.2)<|rR k3 rfl
  ·by_cases e2:k=j
   ·clear hij kg hM k2;subst e2;exact cM y hxy (bY _)<|by exact rR (zF hs hy.1 hy.2.1 hy.2.2)<|rR k3 rfl
   ·refine X1 (h_ (l:=rs) (i:=k)<|TS kg k2) λu hu=>?_;have ho:=I.ok u<|dY hu
    have a1:=qR (by exact TU k1 e1:i<k) hr hu;have a2:=qR (by exact TV k2 e2:k<j) hu hs;exact cM u.1 (by(first|lia|omega)) (by(first|lia|omega))<|by exact rR (zF hu (bY _) ho.1 ho.2.2.1)<|rR k3 rfl
 ·have hp:bH lv c=true:=by unfold bH;refine rR h3 ?_;rfl
  refine c_ (I.tq c (by have:=ic hp;exact Ac hn this) hp) λu hu u1 u2=>?_;refine X1 (kA hu) λk hk=>?_;have b1:i<=k:=by
   rcases dm k i with h|h
   ·have:=qR h hk hr;(first|lia|omega)
   ·exact h
  have b2:k<=j:=by
   rcases dm j k with h|h
   ·have:=qR h hs hk;(first|lia|omega)
   ·exact h
  exact hM.le k l b1 b2<|by exact rL (zF hk u1 u2 hp)<|rR h3 rfl
theorem OO{a b:aG}(ha:a.Nodup)(hb:b.Nodup)(h:∀x,x∈a↔x∈b):a.Perm b:=by
 rw[List.perm_iff_count];intro x;by_cases hx:x∈a
 ·exact rR (List.Nodup.count ha)<|rR (List.Nodup.count hb)<|rR (bw hx)<|rR (bw<|(h x).mp hx) rfl
 ·exact rR (List.count_eq_zero_of_not_mem hx)<|rR (List.count_eq_zero_of_not_mem λh'=>hx<|(h x).mpr h') rfl
set_option tactic.hygienic true in
theorem Pm{lv:bj}{rs:List Run}{ro:aG}(I:LN lv lv.length rs)(ho:eZ (rlv rs) ro):eZ lv ((ro.map λi=>rs.getD i (0,0,0)).flatMap<|orient lv):=by
 have hget:∀{i},i∈ro->∃r,rs[i]?=some r/\rs.getD i (0,0,0)=r:=λ{i} hi=>by refine X1 (h_<|tD.mp<|ho.mem.mp hi) λr hr=>?_;exact aA r hr<|by rw[fV,hr];rfl
 have ya:((ro.map λi=>rs.getD i (0,0,0)).flatMap<|orient lv).Pairwise λx y=>gv lv x y=true:=by
  rw[List.pairwise_flatMap];refine⟨λr hr=>?_,?_⟩
  ·(refine aC (bV.mp hr) λi hi aL=>?_;clear hr;subst aL)
   refine aC (hget hi) λr hr e=>?_;refine rR e ?_;have EV:=cH hr;have hm:mn (rlv rs) i i=r.2.2:=by unfold mn;(rewrite[pU,jJ];refine rR (ET hr) ?_);rfl
   have key:∀{x y},x∈gM lv r.1 r.2.1->y∈gM lv r.1 r.2.1->x<y->mn lv x y=r.2.2:=λhx hy hxy=>by exact rR (EU I (bY _) hr hr (bY _) (gX hxy) (tC.mp hx)<|tC.mp hy)<|rR hm rfl
   unfold orient;split
   ·rename_i Ew;refine(ON lv _ _).imp_of_mem λ{x y} hx hy hxy=>?_;rewrite[gv];refine rR (di hxy)<|rR (key hx hy hxy)<|rR (di Ew) ?_;rfl
   ·rename_i hod;rw[List.pairwise_reverse];refine(ON lv _ _).imp_of_mem λ{x y} hx hy hxy=>?_;rewrite[gv];refine rR (di hxy) (rR (key hx hy hxy)<|rR (dG hod)<|rR (dG (by exact i9 hxy:¬y<x)) ?_);rfl
  ·rw[pR];refine ho.pw.imp_of_mem λ{i j} hi hj hb x hx y hy=>?_;refine aC (hget hi) λr hr e=>?_;refine aC (hget hj) λs hs e'=>?_;rw[e]at hx;rw[e']at hy;have hx:=zE.mp hx;have hy:=zE.mp hy;have qR:∀{a b:Nat}{u v:Run},a<b->rs[a]?=some u->rs[b]?=some v->u.2.1<=v.1:=λ{a b u v} hab hu hv=>by have ha:=cH hu;have hb:=cH hv;have:=List.pairwise_iff_getElem.mp I.pw a b ha hb hab;rw[eE ha]at hu;rw[eE hb]at hv;rw[aK hu,aK hv]at this;exact this
   rcases rf i j with h|h|h
   ·have:=qR h hr hs;rw[gv,di h,dG (by exact i9 h:¬j<i)]at hb;rewrite[gv];refine rR (di (by(first|lia|omega):x<y))<|rR (dG (by(first|lia|omega):¬y<x))<|rR (EU I (bY _) hr hs (gX h) (by(first|lia|omega)) hx hy) ?_
    exact hb
   ·clear hj hs e';subst h;rw[zx]at hb;exact nB hb
   ·have:=qR h hs hr;rw[gv,di h,dG (by exact i9 h:¬i<j)]at hb;rewrite[gv];refine rR (di (by(first|lia|omega):y<x))<|rR (dG (by(first|lia|omega):¬x<y))<|rR (EU I (bY _) hs hr (gX h) (by(first|lia|omega)) hy hx) ?_
    exact hb
 refine⟨OO (ya.imp λ{x y} h e=>by subst e;rw[zx]at h;exact nB h) (Et lv) λx=>?_,ya⟩;rw[kZ,List.mem_flatMap];constructor
 ·rintro⟨r,_,h⟩;exact(zE.mp h).2.2
 ·intro hp;refine c_ (I.tq x (ic hp) hp) λr hr h1 h2=>?_;refine X1 (kA hr) λi hi=>?_;refine aA r (bV.mpr<|aA i (ho.mem.mpr<|tD.mpr<|cH hi)<|by rw[fV,hi];rfl)<|zE.mpr ⟨h1,h2,hp⟩
theorem Ps(rs:List Run):∀x∈rs.map c6,simple 3 x=true:=λx hx=>by(refine aC (bV.mp hx) λr U aM=>?_;clear hx;subst aM);rfl
theorem OP(r:Run)(n:Nat):fz (n+1) (c6 r)=true:=MU λx hx=>by simp only[List.mem_cons,List.not_mem_nil,or_false]at hx;rcases hx with rfl|rfl|rfl<;>exact dj<|.inr<|.inr<|.inl ⟨_,rfl⟩
theorem Pv(rs:List Run)(n:Nat):fz (n+2) (.l<|rs.map c6)=true:=nS λx hx=>by(refine aC (bV.mp hx) λr U aP=>?_;clear hx;subst aP);exact OP r n
theorem PH(r:Run)(n:Nat)(H:ak):b8 (n+1) H (c6 r)=some (c6 r):=yT λx hx=>by simp only[List.mem_cons,List.not_mem_nil,or_false]at hx;rcases hx with rfl|rfl|rfl<;>exact iT<|.inr<|.inr<|.inl ⟨_,rfl⟩
theorem vP{H:ak}{m:Nat}{w:au}(h:H[m]?=some (some<|.l w))(hw:∀x∈w,simple 3 x=true):cE H .n (.e m) (.l [])=some (!w.isEmpty):=by
 have e1:view H (.e m)=.l w:=by simp only[view,h]
 have e2:simple 4 (.l w)=true:=(gj.mpr hw:w.all (simple 3)=true)
 show(if mj H (.e m) (.l [])=true then some (!fj (view H<|.e m) (view H<|.l []))else none)=_;have e3:mj H (.e m) (.l [])=true:=by unfold mj;refine rR e1 (rR e2 ?_);rfl
 refine rR (bw e3)<|rR e1 ?_
 clear h hw e1 e2
 induction w using b9<;>rfl
section
variable {n i:Nat}{lv:bj}{rs:List Run}{l:Int}{ae:bf}{T:bf->ak->Prop}
theorem PP{l:Int}{i:Nat}{rs:List Run}(h:∀r,rs.getLast?=some r->r.2.2≠l):mZ (some l) i rs=rs++[(i,i+1,l)]:=by
 unfold mZ;cases iE:rs.getLast? with
 |none=>rfl
 |some r=>exact bO<|h r iE
theorem PQ(hz:rs.length<=900)(v1:ae[1]?=some (some<|.e 0))(v2:ae[2]?=some (some<|.i i))(v3:ae[3]?=some (some<|.i l))(K:T ae [some<|.l<|(mZ (some l) i rs).map c6]):
  Ok (aF (gam n) [.i (.a true [.m .n (.v 1)<|.l [],.m .e (.d (.d (.v 1)<|.n<|.c<|.i 1)<|.c<|.i 2)<|.v 3])
    [.t (.v 1) (.n<|.c<|.i 1)<|.t [.d (.d (.v 1)<|.n<|.c<|.i 1)<|.c<|.i 0,.b .a (.v 2)<|.c<|.i 1,.v 3]]
    [.x<|.q (.v 1)<|.t [.v 2,.b .a (.v 2)<|.c<|.i 1,.v 3]]] ae [some<|.l<|rs.map c6]) (Nx T):=by
 have e2:∀H,az (gam n) (.b .a (.v 2)<|.c<|.i 1) ae H=some (.i<|i+1,H):=λH=>dD (p:=.i i) (q:=.i 1) (bq v2) cL rfl;have app:(∀r,rs.getLast?=some r->r.2.2≠l)->Ok (aF (gam n) [.x<|.q (.v 1)<|.t [.v 2,.b .a (.v 2)<|.c<|.i 1,.v 3]] ae [some<|.l<|rs.map c6]) (Nx T):=λh=>by rw[PP h,kB]at K;exact eW (m:=0) (l1:=rs.map c6) (l2:=rs.map c6) (v:=c6 (i,i+1,l)) (H1:=[some<|.l<|rs.map c6]) (H2:=[some<|.l<|rs.map c6]) (bq v1) rfl (j7<|aJ (bq v2)<|aJ (e2 _)<|aJ (bq v3) bA) rfl (by rw[bI];exact eR hz<|by decide)<|cu K
 cases iE:rs.getLast? with
 |none=>
  clear hz K;obtain rfl:=List.getLast?_eq_none_iff.mp iE;exact bU (c:=false) (H':=[some<|.l<|([]:List Run).map c6]) (f_ (c:=false) (d:=false) (bu (p:=.e 0) (q:=.l []) (H1:=[some<|.l []]) (bq v1) rfl<|vP (w:=[]) rfl λU h=>nomatch h) nofun) nB λU=>app nofun
 |some r=>
  have nY:∀{ae:bf},ae[1]?=some (some<|.e 0)->az (gam n) (.d (.v 1)<|.n<|.c<|.i 1) ae [some<|.l<|rs.map c6]=some (c6 r,[some<|.l<|rs.map c6]):=λv1=>
   e_idx (p:=.e 0) (q:=.i<|-1) (bq v1) rfl (ve rfl<|by rw[List.getLast?_map,iE];rfl)
  have hne:(rs.map c6).isEmpty=false:=by
   induction rs using b9 with
   |nil=>exact nN iE
   |cons a t=>rfl
  refine bU (c:=true&&decide (r.2.2=l)) (H':=[some<|.l<|rs.map c6]) (f_ (bu (p:=.e 0) (q:=.l []) (bq v1) rfl<|by refine rR (vP rfl<|Ps rs)<|rR hne ?_;rfl) λU=>bu (p:=.i r.2.2) (q:=.i l) (e_idx (p:=c6 r) (q:=.i 2) (nY v1) cL DT) (bq v3) rfl) (λhc=>?_) λhc=>?_
  ·have hc:=cG hc;have e:mZ (some l) i rs=rs.dropLast++[(r.1,i+1,l)]:=by unfold mZ;refine rR iE ?_;exact bw hc
   rw[e]at K;refine X1 (wo.mp iE) λd aN=>?_;clear hz app iE hne e;subst aN;refine M5 (v:=c6 (r.1,i+1,l)) (m:=0) (l1:=(d++[r]).map c6) (H1:=[some<|.l<|(d++[r]).map c6]) (H2:=[some<|.l<|(d++[r]).map c6]) (H3:=[some<|.l<|(d++[r]).map c6])
    (j7<|aJ (e_idx (p:=c6 r) (q:=.i 0) (nY v1) cL sO)<|aJ (e2 _)<|aJ (bq v3) bA) (bq v1) rfl rfl (by simp) (cu ?_)
   rw[List.dropLast_concat]at K;show T _ _;simpa using K
  ·exact app λr' h=>by obtain rfl:=aK<|iE.symm.trans h;exact lW hc
end
theorem P2(n:Nat){lv:bj}(hle:lv.length<=20)(H:ak):gam (n+1) "" "line_runs" [.l<|lv.map aD] H=some (.l<|(gB lv lv.length).map c6,H):=by
 refine qA (ir:=IC) (vs:=[.l<|lv.map aD]) (by kernel_rfl) rfl rfl rfl (by simp only[List.all_cons,List.all_nil,Bool.and_true,kY]) λT K=>?_;show Ok (aF (gam n) By [some<|.l<|lv.map aD,none,none,none] []) T;unfold By;refine aZ (v:=.e 0) (H1:=[some<|.l []]) rfl ?_;refine lK (vs:=[.l<|lv.map aD]) (items:=dU<|lv.map aD) (λx y=>[some<|.l<|lv.map aD,some<|.e 0,x,y]) (λi U U=>[some<|.l<|(gB lv i).map c6]) (λU U U=>True) none none
  rfl rfl ji trivial (λi x y z hx U T k=>?_) (λy z U=>?_)
 ·(refine aC (j6 hx) λv hv aQ=>?_;clear hx;subst aQ)
  have hi:=cH hv;rw[bI]at hi;rw[lQ hi]at hv;obtain rfl:=aK hv;have hsz:=(tu lv i).sz;have k:=λx y=>k x y trivial;rw[show gB lv (i+1)=mZ (lo lv i) i (gB lv i)from rfl]at k;refine aA _ rfl (bU (c:=(lo lv i).isSome) (H':=[some<|.l<|(gB lv i).map c6]) (bu (p:=aD<|lo lv i) (q:=.n) rfl rfl<|qI _) (λhc=>?_) λhc=>?_)
  ·refine X1 (nh.mp hc) λl hl=>?_;rw[hl]at k⊢;exact PQ (TX hle hi hsz) rfl rfl rfl<|k _ _
  ·rw[Option.isSome_eq_false_iff,tY]at hc;have k:=k (some<|.i i)<|some<|aD<|lo lv i
   rw[show mZ (lo lv i) i (gB lv i)=gB lv i by refine rR hc ?_;rfl]at k;exact cu k
 ·(refine rR mP ?_;rewrite[bI])
  exact bX (v:=.e 0) rfl<|K _ _ _ (gu rfl λx hx=>by(refine aC (bV.mp hx) λr U aR=>?_;clear hx;subst aR);exact PH r 4 _)
noncomputable def vQ(rs:List Run)(ro:aG):List Run:=ro.map λi=>rs.getD i (0,0,0)
theorem P3(n:Nat){lv:bj}{ro:aG}(hS:ie lv)(ho:eZ (rlv<|gB lv lv.length) ro)(H:ak):gam (n+3) "" "visual_runs" [.l<|lv.map aD] H=some (.l<|(vQ (gB lv lv.length) ro).map c6,H):=by
 refine dX (n:=n+2) (ir:=ID) (vs:=[.l<|lv.map aD]) (by kernel_rfl) rfl rfl rfl (by simp only[List.all_cons,List.all_nil,Bool.and_true,kY]) ?_;show Ok (aF (gam<|n+2) BA [some<|.l<|lv.map aD,none] []) _;have hle:=hS.le;have I:=tu lv lv.length;have el:=P2 (n+1) hle ([]:ak);generalize gB lv lv.length=rs at*;have hsz:=I.sz
 have Qb:ie (rlv rs):=⟨by rw[rlv,bI];exact GA hle hsz,λl hl=>by
  refine aC (bV.mp hl) λr hr e=>?_;clear hl;obtain rfl:=aK e;have q:=I.ok r hr;have:=hS.aH q.2.2.1;rw[q.2.2.2 r.1 (bY _) q.1 q.2.2.1]at this
  exact this⟩
 unfold BA;refine aZ (v:=.l<|rs.map c6) (H1:=[]) (bP (vs:=[.l<|lv.map aD]) (H1:=[]) rfl el) ?_;have e:(ro.map aE).map (gh<|rs.map c6)=(vQ rs ro).map c6:=by
  unfold vQ;refine rR i6<|rR i6 ?_
  refine m9 λi hi=>?_;refine X1 (h_<|tD.mp<|ho.mem.mp hi) λr hr=>?_;show(rs.map c6).getD i .n=c6 (rs.getD i (0,0,0));rw[fV,fV,cQ,hr];rfl
 refine bX (v:=.l<|(ro.map aE).map<|gh<|rs.map c6) (H':=[]) (nZ (l:=ro.map aE) (H1:=[]) (bP (vs:=[.l<|(rlv rs).map aD]) (H1:=[]) (aJ ?_ bA)<|zB n Qb ho _) λx hx=>?_)<|by refine rR e ?_;exact jg λx hx=>by(refine aC (bV.mp hx) λr U aT=>?_;clear hx;subst aT);exact OP r 2
 ·have e2:(rlv rs).map aD=(rs.map c6).map (λx=>match x with|.t [_,_,l]=>l|x=>x):=by unfold rlv;refine rR i6<|rR i6 ?_;rfl
  refine rR e2 ?_;refine nZ (l:=rs.map c6) rfl λx hx=>?_;refine aC (bV.mp hx) λr U aL=>?_;clear hx;subst aL;exact e_idx (p:=c6 r) (q:=.i 2) (by simp only[List.set_cons_succ,List.set_cons_zero,List.cons_append,List.nil_append];(try simp only[wl,bx,reduceIte];try rfl)) (by simp only[List.set_cons_succ,List.set_cons_zero,List.cons_append,List.nil_append];(try simp only[wl,bx,reduceIte];try rfl)) DT
 ·(refine aC (bV.mp hx) λi hi aM=>?_;clear hx;subst aM)
  have:=tD.mp<|ho.mem.mp hi
  exact e_idx (p:=.l<|rs.map c6) (q:=.i i) (by simp only[List.set_cons_succ,List.set_cons_zero,List.cons_append,List.nil_append];(try simp only[wl,bx,reduceIte];try rfl)) (by simp only[List.set_cons_succ,List.set_cons_zero,List.cons_append,List.nil_append];(try simp only[wl,bx,reduceIte];try rfl))<|zg<|by rw[bI];exact this
theorem vR{a b:Nat}(h:a<=b):fk (a:Int) b=((List.range<|b-a).map (a+·)).map aE:=by
 unfold fk;refine rR (show((b:Int)-a).toNat=b-a from Gi)<|rR i6 ?_
 refine m9 λi U=>?_;show PV.i _=PV.i ((a+i:Nat):Int);exact rR (show((a:Int)+i)=((a+i:Nat):Int)from F5) rfl
section
variable {n:Nat}{lv:bj}{f e:Nat}{l:Int}{ae:bf}{H:ak}
theorem Qr(hle:lv.length<=20)(h1:f<e)(h2:e<=lv.length)(v0:ae[0]?=some (some<|.l<|lv.map aD))(v3:ae[3]?=some (some<|.i f))(v4:ae[4]?=some (some<|.i e))(hl:ae.length=7):
  az (gam n) (.D (.v 7) false ["at"] .r [.v 3,.v 4] [.m .t (.d (.v 0)<|.v 7)<|.c .n]) ae H=some (.l<|(gM lv f e).map aE,H):=by
 have e:=pJ (Γ:=gam n) (ae:=ae) (H:=H) (H1:=H) (e:=.v 7) (c:=.m .t (.d (.v 0)<|.v 7)<|.c .n) (nm:="at") (bZ:=[.v 3,.v 4]) (f:=id) (t:=λx=>match x with|.i i=>bH lv i.toNat|_=>false) (vs:=[.i f,.i e]) (aJ (bq v3)<|aJ (bq v4) bA) (pA jx (Gg hle h1 h2) jx<|Gh hle h2) (λx hx=>?_) λx hx U=>kO (i:=0) hl rfl
 ·rw[vR<|Nat.le_of_lt h1,List.map_id,zA (p:=bH lv) λx U=>by simp[aE]]at e;exact e
 ·rw[vR<|Nat.le_of_lt h1]at hx;refine aC (bV.mp hx) λc hc aP=>?_;clear hx;subst aP;refine aC (bV.mp hc) λj hj aN=>?_;clear hc;subst aN;rw[jM]at hj;exact bu (e_idx (p:=.l<|lv.map aD) (q:=.i ((f+j:Nat):Int)) (lO v0) (kO (i:=0) hl rfl)<|dB<|lQ<|Ag h2 hj) cL<|qI _
theorem QP(gJ:∀{c},c∈gM lv f e->bH lv c=true/\dw lv c=l)(v0:ae[0]?=some (some<|.l<|lv.map aD))(v5:ae[5]?=some (some<|.i l))(v6:ae[6]?=some (some<|.l<|(gM lv f e).map aE))(hl:ae.length=7):
  az (gam n) (.D (.v 7) false ["at"] .v [.v 6] [.m .n (.d (.v 0)<|.v 7)<|.v 5]) ae H=some (.l [],H):=by
 have QQ:((gM lv f e).map aE).filter (λx=>match x with|.i i=>!decide (dw lv i.toNat=l)|_=>false)=[]:=by rw[List.filter_eq_nil_iff];intro x hx;refine aC (bV.mp hx) λc hc aQ=>?_;clear hx;subst aQ;have:=(gJ hc).2;simp[aE,this]
 have:=pJ (Γ:=gam n) (ae:=ae) (H:=H) (H1:=H) (e:=.v 7) (c:=.m .n (.d (.v 0)<|.v 7)<|.v 5) (nm:="at") (k:=.v) (bZ:=[.v 6]) (f:=id) (t:=λx=>match x with|.i i=>!decide (dw lv i.toNat=l)|_=>false) (vs:=[.l<|(gM lv f e).map aE]) (aJ (bq v6) bA) fF (λx hx=>?_) λx hx U=>kO (i:=0) hl rfl
 ·rw[QQ]at this;exact this
 ·(refine aC (bV.mp hx) λc hc aR=>?_;clear hx;subst aR)
  exact bu (p:=.i<|dw lv c) (q:=.i l) (e_idx (p:=.l<|lv.map aD) (q:=.i c) (lO v0) (kO (i:=0) hl rfl)<|dB<|zy (gJ hc).1) (lO v5)<|by simp[aE,MN]
theorem QR{a:Nat}{t:aG}:cE H .e (.l<|(a::t).map aE) (.l [])=some false:=by
 have e4:simple 4 (.l<|(a::t).map aE)=true:=gj.mpr<|vN _ _
 show(if(_||(simple 4 (.l<|(a::t).map aE)&&_))=true then some (fj (.l<|(a::t).map aE)<|.l [])else none)=_;refine rR e4 ?_;rfl
theorem Q1{eN:aG}{T:bf->ak->Prop}(hle:lv.length<=20)(r1:f<e)(r2:e<=lv.length)(r3:bH lv f=true)(gJ:∀{c},c∈gM lv f e->bH lv c=true/\dw lv c=l)(hlen:eN.length+(orient lv (f,e,l)).length<=100)
  (v0:ae[0]?=some (some<|.l<|lv.map aD))(v2:ae[2]?=some (some<|.l<|eN.map aE))(v3:ae[3]?=some (some<|.i f))(v4:ae[4]?=some (some<|.i e))(v5:ae[5]?=some (some<|.i l))(hl:ae.length=7)
  (K:∀x,T ((ae.set 6 x).set 2<|some<|.l<|(eN++orient lv (f,e,l)).map aE) H):
  Ok (aF (gam n) [.a 6<|.D (.v 7) false ["at"] .r [.v 3,.v 4] [.m .t (.d (.v 0)<|.v 7)<|.c .n],
  .i (.a false [.m .n (.D (.v 7) false ["at"] .v [.v 6] [.m .n (.d (.v 0)<|.v 7)<|.v 5])<|.l [],.m .e (.v 6)<|.l []])
   [.r<|.c .n]
   [],
  .a 2 (.b .a (.v 2)<|.i (.m .e (.b .o (.v 5)<|.c<|.i 2)<|.c<|.i 0) (.v 6)<|.r<|.v 6)] ae H) (Nx T):=by
 refine aZ (v:=.l<|(gM lv f e).map aE) (H1:=H) (Qr hle r1 r2 v0 v3 v4 hl) ?_;have sv:∀{j:Nat}{v:PV},6≠j->ae[j]?=some (some v)->(ae.set 6<|some<|.l<|(gM lv f e).map aE)[j]?=some (some v):=λh e=>by rw[jr h];exact e
 have v6:(ae.set 6<|some<|.l<|(gM lv f e).map aE)[6]?=some (some<|.l<|(gM lv f e).map aE):=jL<|by refine rR hl ?_;decide
 have hmem:f∈gM lv f e:=tC.mpr ⟨bY _,r1,r3⟩
 refine bU (c:=false) (H':=H) (pB (c:=false) (d:=false) (bu (p:=.l []) (q:=.l []) (H1:=H) (QP gJ (sv (by decide) v0) (sv (by decide) v5) v6<|by refine rR i5 ?_;exact hl) rfl rfl) λU=>bu (p:=.l<|(gM lv f e).map aE) (q:=.l []) (bq v6) rfl (by
  cases hs:gM lv f e with
  |nil=>rw[hs]at hmem;cases hmem
  |cons a t=>exact QR)) nB λU=>?_
 refine aZ (v:=.l<|(eN++orient lv (f,e,l)).map aE) (H1:=H) (dD (p:=.l<|eN.map aE) (q:=.l<|(orient lv (f,e,l)).map aE) (H1:=H) (bq<|sv (by decide) v2) (iB (c:=decide<|l %2=0) (bu (p:=.i<|l %2) (q:=.i 0) (dD (p:=.i l) (q:=.i 2) (bq<|sv (by decide) v5) cL rfl) cL rfl) (λhc=>?_) λhc=>?_) ?_)<|cu<|K _
 ·unfold orient;refine rR (bw<|cG hc) ?_;exact bq v6
 ·unfold orient;refine rR (bO<|lW hc)<|rR tR<|rR DP<|rR (bq v6) ?_;rfl
 ·exact rR (yP<|by rw[bI,bI];exact eR hlen<|by decide)<|rR kB rfl
end
theorem Re{α β:Type}{rs:List α}{g:α->List β}{i m:Nat}{r:α}(pL:rs[i]?=some r)(hz:(rs.flatMap g).length<=m):((rs.take i).flatMap g).length+(g r).length<=m:=by
 have hi:=cH pL;have:rs.flatMap g=(rs.take i).flatMap g++(g r++(rs.drop<|i+1).flatMap g):=by
  refine rL List.flatMap_cons<|rL List.flatMap_append ?_
  congr 1;rw[eE hi]at pL;refine rL (aK pL)<|rL (tL hi) ?_
  rw[q9]
 rw[this,gF,gF,<-Nat.add_assoc]at hz;exact eR (jt _ _) hz
theorem RF(n:Nat){lv:bj}{rs:List Run}(hS:ie lv)(hr:∀r∈rs,r.1<r.2.1/\r.2.1<=lv.length/\bH lv r.1=true/\∀c,r.1<=c->c<r.2.1->bH lv c=true->dw lv c=r.2.2)(hz:(rs.flatMap<|orient lv).length<=100)(H:ak):
  gam (n+1) "" "_law_tiled" [.l<|lv.map aD,.l<|rs.map c6] H=some (.l<|(rs.flatMap<|orient lv).map aE,H):=by
 refine qA (ir:=IU) (vs:=[.l<|lv.map aD,.l<|rs.map c6]) (by kernel_rfl) rfl rfl rfl (by simp only[List.all_cons,List.all_nil,Bool.and_true,kY,Bool.true_and];exact Pv rs 6) λT K=>?_;show Ok (aF (gam n) BN [some<|.l<|lv.map aD,some<|.l<|rs.map c6,none,none,none,none,none] []) T;unfold BN;refine aZ (v:=.l []) (H1:=[]) rfl ?_;refine lK (vs:=[.l<|rs.map c6]) (items:=rs.map c6) (λ(x:aG) (z:bR×bR×bR×bR)=>[some<|.l<|lv.map aD,some<|.l<|rs.map c6,some<|.l<|x.map aE,z.1,z.2.1,z.2.2.1,z.2.2.2]) (λU U U=>[]) (λi x U=>x=(rs.take i).flatMap (orient lv)) [] (none,none,none,none)
  rfl rfl fF rfl (λi x eN z hx hj T k=>?_) (λx z hj=>?_)
 ·rw[cQ]at hx;refine aC (gV.mp hx) λr pL aT=>?_;clear hx;subst aT;refine U3 (hr r<|dY pL) λr1 r2 r3 r4=>?_;have hlen:=Re pL hz;have htk:(rs.take<|i+1).flatMap (orient lv)=eN++orient lv r:=by refine rR pT<|rR pL<|rR hj<|rR List.flatMap_append ?_;exact congrArg _ (List.flatMap_singleton ..)
  rw[<-hj]at hlen;rw[htk]at k;clear pL htk;obtain⟨f,e,l⟩:=r
  exact⟨_,rfl,Q1 hS.le r1 r2 r3 (λ{c} hc=>by
   have:=tC.mp hc
   exact⟨this.2.2,r4 c this.1 this.2.1 this.2.2⟩) hlen rfl rfl rfl rfl rfl rfl λx=>k _ (_,_,_,x) rfl⟩
 ·rw[bI,m_]at hj;subst hj;exact bX (v:=.l<|(rs.flatMap<|orient lv).map aE) rfl<|K _ _ _ (jg λx hx=>dj<|.inr<|.inr<|.inl<|ints_of _ x hx)
noncomputable def Le{α:Type}(a b:Option α):Prop:=∀r,a=some r->b=some r
theorem Le.refl{α:Type}(a:Option α):Le a a:=λU h=>h
theorem Le.bind{α β:Type}{a b:Option α}{f g:α->Option β}(h:Le a b)(k:∀x,Le (f x)<|g x):Le (a.bind f) (b.bind g):=λr hr=>by refine aC (Option.bind_eq_some_iff.mp hr) λx h1 h2=>?_;refine rR (h x h1) ?_;exact k x r h2
theorem Le.map{α β:Type}{a b:Option α}{f:α->β}(h:Le a b):Le (a.map f) (b.map f):=λr hr=>by refine aC (gV.mp hr) λx h1 h2=>?_;refine rR (h x h1)<|rL h2 ?_;rfl
theorem Le.ite{α:Type}{c:Prop}[Decidable c]{a b a' b':Option α}(h1:Le a a')(h2:Le b b'):Le (if c then a else b) (if c then a' else b'):=by
 split
 ·exact h1
 ·exact h2
theorem Le.sd{α:Type}{v:PV}{f g:aY->au->Option α}(h:∀ks l,Le (f ks l)<|g ks l):Le (uw v f) (uw v g):=by
 induction v using d7<;>first|exact h _ _|exact Le.refl _
theorem Le.Sc{α:Type}{v:PV}{f g:(Int->bK)->Option α}(h:∀i,Le (f i)<|g i):Le (uv v f) (uv v g):=by
 induction v using d7<;>first|exact h _|exact Le.refl _
abbrev qS(Γ Γ':b7):Prop:=∀c f args H,Le (Γ c f args H)<|Γ' c f args H
theorem OQ{s s':PV->ak->Option (bR×ak)}(h:∀x H,Le (s x H)<|s' x H):∀(l:au)(H:ak),Le (jT s l H)<|jT s' l H
 |[],H=>Le.refl _
 |x::r,H=>by exact(h x H).bind λp=>(OQ h r p.2).map
mutual
theorem c9{Γ Γ':b7}(h:qS Γ Γ'):∀(e:CE)(ae:bf)(H:ak),Le (az Γ e ae H)<|az Γ' e ae H
 |.c p,ae,H=>Le.refl _
 |.v i,ae,H=>Le.refl _
 |.g x p,ae,H=>Le.refl _
 |.t es,ae,H=>(n9 h es ae H).map
 |.l es,ae,H=>(n9 h es ae H).map
 |.e es,ae,H=>(n9 h es ae H).map
 |.b op a b,ae,H=>(c9 h a ae H).bind λx=>(c9 h b ae _).bind λy=>Le.refl _
 |.n a,ae,H=>(c9 h a ae H).bind λx=>Le.refl _
 |.o a,ae,H=>(c9 h a ae H).bind λx=>Le.refl _
 |.m op a b,ae,H=>(c9 h a ae H).bind λx=>(c9 h b ae _).bind λy=>Le.refl _
 |.p o1 o2 a b c,ae,H=>(c9 h a ae H).bind λx=>(c9 h b ae _).bind λy=>(Le.refl _).bind λt=>Le.ite ((c9 h c ae _).bind λz=>Le.refl _)<|Le.refl _
 |.a cA es,ae,H=>leB h cA es ae H
 |.i t a b,ae,H=>(c9 h t ae H).bind λx=>(Le.refl _).bind λc=>Le.ite (c9 h a ae _)<|c9 h b ae _
 |.d a b,ae,H=>(c9 h a ae H).bind λx=>(c9 h b ae _).bind λy=>Le.refl _
 |.s a b c,ae,H=>(c9 h a ae H).bind λx=>(c9 h b ae _).bind λy=>(c9 h c ae _).bind λz=>Le.refl _
 |.r a,ae,H=>(c9 h a ae H).bind λx=>Le.refl _
 |.f a f,ae,H=>(c9 h a ae H).bind λx=>Le.refl _
 |.h f es,ae,H=>(n9 h es ae H).bind λr=>h _ _ _ _
 |.j o m es,ae,H=>(c9 h o ae H).bind λx=>(Le.refl _).bind λc=>(Le.ite (Le.refl _)<|n9 h es ae _).bind λr=>h _ _ _ _
 |.k b es,ae,H=>(n9 h es ae H).bind λr=>Le.refl _
 |.q a b,ae,H=>(c9 h a ae H).bind λx=>(Le.refl _).bind λU=>(c9 h b ae _).bind λy=>Le.refl _
 |.x a b,ae,H=>(c9 h a ae H).bind λx=>(Le.refl _).bind λU=>(c9 h b ae _).bind λy=>Le.refl _
 |.u a,ae,H=>(c9 h a ae H).bind λx=>Le.refl _
 |.w d k,ae,H=>(c9 h d ae H).bind λx=>Le.sd λks l=>(c9 h k ae _).bind λy=>Le.refl _
 |.y d k v,ae,H=>(c9 h d ae H).bind λx=>Le.Sc λf=>(c9 h k ae _).bind λy=>(c9 h v ae _).bind λz=>Le.refl _
 |.z n,ae,H=>(c9 h n ae H).bind λx=>Le.refl _
 |.A,ae,H=>Le.refl _
 |.B,ae,H=>Le.refl _
 |.C ks ps,ae,H=>Le.refl _
 |.D elt tp tn k bZ cond,ae,H=>by
  refine(n9 h bZ ae H).bind λr=>(Le.refl _).bind λitems=>Le.map<|OQ (λx H=>(Le.refl _).bind λown=>?_) _ _
  exact(leB h true cond (ae++own) H).bind λc=>(Le.refl _).bind λb=>Le.ite (c9 h elt (ae++own) _).map<|Le.refl _
theorem n9{Γ Γ':b7}(h:qS Γ Γ'):∀(es:List CE)(ae:bf)(H:ak),Le (cX Γ es ae H)<|cX Γ' es ae H
 |[],ae,H=>Le.refl _
 |e::es,ae,H=>(c9 h e ae H).bind λx=>(n9 h es ae _).map
theorem leB{Γ Γ':b7}(h:qS Γ Γ'):∀(cA:Bool)(es:List CE)(ae:bf)(H:ak),Le (jz Γ cA es ae H)<|jz Γ' cA es ae H
 |_,[],ae,H=>Le.refl _
 |cA,e::es,ae,H=>(c9 h e ae H).bind λx=>(Le.refl _).bind λb=>Le.ite (leB h cA es ae _)<|Le.refl _
end
theorem EW{s s':PV->bf->ak->Rs}(h:∀x ae H,Le (s x ae H)<|s' x ae H):∀(l:au)(ae:bf)(H:ak),Le (oH s l ae H)<|oH s' l ae H
 |[],ae,H=>Le.refl _
 |x::r,ae,H=>by
  refine(h x ae H).bind λt=>?_;split
  ·exact EW h r _ _
  ·exact EW h r _ _
  ·exact Le.refl _
  ·exact Le.refl _
theorem EX{t t':bf->ak->Option (Bool×ak)}{b b':bf->ak->Rs}(ht:∀ae H,Le (t ae H)<|t' ae H)(hb:∀ae H,Le (b ae H)<|b' ae H):∀(n:Nat)(ae:bf)(H:ak),Le (oJ t b n ae H)<|oJ t' b' n ae H
 |0,ae,H=>Le.refl _
 |n+1,ae,H=>by
  refine(ht ae H).bind λx=>Le.ite ((hb ae _).bind λu=>?_)<|Le.refl _
  split
  ·exact EX ht hb n _ _
  ·exact EX ht hb n _ _
  ·exact Le.refl _
  ·exact Le.refl _
mutual
theorem Sr{Γ Γ':b7}(h:qS Γ Γ'):∀(s:CS)(ae:bf)(H:ak),Le (iy Γ s ae H)<|iy Γ' s ae H
 |.a i e,ae,H=>(c9 h e ae H).map
 |.s is e,ae,H=>(c9 h e ae H).bind λx=>Le.refl _
 |.e o f e,ae,H=>(c9 h e ae H).bind λx=>(c9 h o ae _).bind λy=>Le.refl _
 |.t o i e,ae,H=>(c9 h e ae H).bind λx=>(c9 h o ae _).bind λy=>(c9 h i ae _).bind λz=>Le.refl _
 |.f tp tgt k bZ body,ae,H=>by exact(n9 h bZ ae H).bind λr=>(Le.refl _).bind λitems=>EW (λx cT H1=>(Le.refl _).bind λjU=>n_ h body jU H1) _ _ _
 |.w t body,ae,H=>by exact EX (λae H=>(c9 h t ae H).bind λx=>Le.refl _) (λae H=>n_ h body ae H) _ _ _
 |.i t a b,ae,H=>(c9 h t ae H).bind λx=>(Le.refl _).bind λc=>Le.ite (n_ h a ae _)<|n_ h b ae _
 |.r e,ae,H=>(c9 h e ae H).map
 |.x e,ae,H=>(c9 h e ae H).map
 |.b,ae,H=>Le.refl _
 |.c,ae,H=>Le.refl _
 |.z i,ae,H=>Le.refl _
theorem n_{Γ Γ':b7}(h:qS Γ Γ'):∀(ss:List CS)(ae:bf)(H:ak),Le (aF Γ ss ae H)<|aF Γ' ss ae H
 |[],ae,H=>Le.refl _
 |s::r,ae,H=>by
  refine(Sr h s ae H).bind λt=>?_;split
  ·exact n_ h r _ _
  ·exact Le.refl _
end
theorem SB{Γ Γ':b7}(h:qS Γ Γ')(ir:bl)(args:au)(H:ak):Le (jA Γ ir args H) (jA Γ' ir args H):=by
 unfold jA;refine(Le.refl _).bind λvs=>?_;split
 ·exact Le.ite ((n_ h _ _ _).bind λr=>Le.refl _)<|Le.refl _
 ·exact(n_ h _ _ _).map
 ·exact Le.ite ((n_ h _ _ _).bind λr=>Le.refl _)<|Le.refl _
 ·exact(n_ h _ _ _).bind λr=>Le.refl _
theorem OR:∀n,qS (gam n)<|gam<|n+1
 |0=>λc f args H r hr=>nN hr
 |n+1=>λc f args H=>by rw[vc,vc];exact(Le.refl _).bind λir=>SB (OR n) ir args H
theorem OS{n m:Nat}(h:n<=m){c f:String}{args:au}{H:ak}{r:PV×ak}(e:gam n c f args H=some r):gam m c f args H=some r:=by
 induction h with
 |refl=>exact e
 |step _ ih=>exact OR _ _ _ _ _ _ ih
structure vS (cs:bk)(w:String)(lv:bj)(base:Int):Prop where
 T:mT cs
 lk:zm (aW cs) lv
 OT:∀n H,gam (n+9) "" "bidi_levels" [bM cs,bB,.s w] H=some (.l<|lv.map aD,H)
 b:0<=base/\base<=1
 bE:∀n H,gam (n+5) "" "base_level" [bM cs,bB,.s w] H=some (.i base,H)
theorem SC{cs:bk}{w:String}(hT:mT cs)(hw:isWord w):∃lv base,vS cs w lv base:=by refine aC (Hk 0 hT hw) λlv h1 h2=>?_;refine aC (Hm 0 hT hw) λb h3 h4=>?_;exact I2 lv b ⟨hT,h1,λn H=>OS (n:=0+9) TY<|h2 H,h3,λn H=>OS (n:=0+5) TZ<|h4 H⟩
noncomputable def lT:bK->Bool
 |none=>false
 |some l=>decide<|l %2=1
noncomputable def gC(cs:bk)(i:Nat):Int:=cs.getD i 0
theorem vU{cs:bk}{i:Nat}(h:i<cs.length):(cs.map br)[i]?=some (.i<|gC cs i):=by rw[cQ,eE h,gC,fV,eE h];rfl
theorem SF{cs:bk}{i:Nat}(h:i<cs.length):gC cs i∈cs:=by rw[gC,fV,eE h];exact tP h
def oh(c:Int)(o:bK):Int:=if(decide (c=40)||decide (c=41))&&lT o then 81-c else c
noncomputable def zG(p:PV)(c:Int):Int:=match p with
 |.i k=>k
 |_=>c
def d9(cs:bk)(lv:bj):bk:=(List.range cs.length).map λi=>oh (gC cs i)<|lo lv i
theorem vV(cs:bk)(lv:bj):(d9 cs lv).length=cs.length:=by simp[d9]
theorem SL{cs:bk}{lv:bj}{i:Nat}(h:i<cs.length):((d9 cs lv).take<|i+1).map br=((d9 cs lv).take i).map br++[.i<|oh (gC cs i)<|lo lv i]:=by
 refine rR pT<|rR kB ?_
 congr 1;unfold d9;rw[cQ,lU h];rfl
theorem OU(n:Nat){cs:bk}{lv:bj}(hc:kT cs)(hl:lv.length=cs.length)(hle:cs.length<=20)(H:ak):gam (n+4) "" "mirrored" [bM cs,.l<|lv.map aD,bB] H=some (.l<|(d9 cs lv).map br,H):=by
 refine dX (n:=n+3) (ir:=IG) (vs:=[bM cs,.l<|lv.map aD,bB]) (by kernel_rfl) rfl rfl rfl (by simp only[List.all_cons,List.all_nil,Bool.and_true,kY,n7,jj]) ?_;show Ok (aF (gam<|n+3) BD [some<|bM cs,some<|.l<|lv.map aD,some bB,none,none,none,none,none] []) _;unfold BD;refine aZ (v:=.e 0) (H1:=[some<|.l []]) rfl ?_;refine gr (H':=[some<|.l []]) (vs:=[bM cs]) (items:=dU<|cs.map br) (λi ae H=>∃o4 o5 o6 o7,ae=[some<|bM cs,some<|.l<|lv.map aD,some bB,some<|.e 0,o4,o5,o6,o7]/\H=[some<|.l<|((d9 cs lv).take i).map br])
  rfl ji (Fv none none none none rfl rfl) (λi x ae H hx hI=>?_) (λae H hI=>?_)
 ·(refine Fd hI λo4 o5 o6 o7 aL aM=>?_;subst aL;clear hI;subst aM)
  refine aC (j6 hx) λv hv aP=>?_;subst aP;have hi:=cH hv;rw[bI]at hi;rw[vU hi]at hv;clear hx;obtain rfl:=aK hv;have hcode:=hc _ (SF hi);have hnext:=SL (lv:=lv) hi;have pH:((d9 cs lv).take i).length<=20:=by refine rR gU ?_;exact T3 hle hi
  generalize ((d9 cs lv).take i)=X at*;generalize gC cs i=c at*;refine aA _ rfl ?_;refine aZ (v:=aD<|lo lv i) (H1:=[some<|.l<|X.map br]) (e_idx (p:=.l<|lv.map aD) (q:=.i i) rfl rfl<|dB<|lQ<|T4 hl hi) ?_;have hand:az (gam<|n+3) (.a true [.m .t (.v 6)<|.c .n,.m .e (.b .o (.v 6)<|.c<|.i 2)<|.c<|.i 1]) [some<|bM cs,some<|.l<|lv.map aD,some bB,some<|.e 0,some<|.i i,some<|.i c,some<|aD<|lo lv i,o7] [some<|.l<|X.map br]=some (.b<|lT<|lo lv i,[some<|.l<|X.map br]):=by
   cases lo lv i with
   |none=>exact f_ (c:=false) (d:=false) (bu (p:=.n) (q:=.n) rfl rfl rfl) nofun
   |some l=>exact f_ (c:=true) (d:=decide<|l %2=1) (bu (p:=.i l) (q:=.n) rfl rfl rfl) λU=>bu (p:=.i<|l %2) (q:=.i 1) (dD (p:=.i l) (q:=.i 2) rfl rfl rfl) rfl rfl
  refine aZ (v:=if lT (lo lv i)then nU c else .n) (H1:=[some<|.l<|X.map br]) (iB hand (λh=>?_) λh=>?_) ?_
  ·refine rR h<|rR (bw rfl) ?_
   exact vm (p:=.i c) rfl rfl<|wn n hcode _
  ·refine rR h (rR (bO<|by decide) ?_);(try simp only[wl,bx,reduceIte];try rfl)
  have hval:oh c (lo lv i)=zG (if lT (lo lv i)then nU c else PV.n) c:=by
   unfold oh nU;cases lT (lo lv i)with
   |false=>simp[zG]
   |true=>
    by_cases h1:c=40
    ·clear hv hcode hnext hand;subst h1;rfl
    ·by_cases h2:c=41
     ·clear hv hcode hnext hand h1;subst h2;rfl
     ·simp[h1,h2,zG]
  have hm:(if lT (lo lv i)then nU c else PV.n)=.n\/∃k,(if lT (lo lv i)then nU c else PV.n)=.i k:=by
   unfold nU;split
   ·split
    ·exact .inr ⟨_,rfl⟩
    ·split
     ·exact .inr ⟨_,rfl⟩
     ·exact .inl rfl
   ·exact .inl rfl
  rw[hval]at hnext;generalize (if lT (lo lv i)then nU c else PV.n)=SU at*;refine eW (m:=0) (l1:=X.map br) (l2:=X.map br) (v:=.i<|zG SU c) (H1:=[some<|.l<|X.map br]) (H2:=[some<|.l<|X.map br]) rfl rfl ?_ rfl (by simp;exact T5 pH)<|cu<|Fv _ _ _ _ rfl ?_
  ·clear hnext hval;rcases hm with rfl|⟨k,rfl⟩
   ·exact iB (c:=true) (bu (p:=.n) (q:=.n) rfl rfl rfl) (λU=>rfl) nofun
   ·exact iB (c:=false) (bu (p:=.i k) (q:=.n) rfl rfl rfl) nofun λU=>rfl
  ·refine rR hnext ?_;rfl
 ·(refine Fd hI λo4 o5 o6 o7 aN aQ=>?_;clear hI;subst aN;subst aQ)
  refine rR mP ?_;rewrite[bI];refine rR (tU<|by rw[vV];exact bY _) ?_;exact bX (v:=.e 0) rfl<|gu rfl (kU _).b8
theorem SZ(n:Nat)(c l:Int)(H:ak):gam (n+4) "" "is_line_mark" [.i c,.i l,bB] H=some (.b false,H):=by refine dX (n:=n+3) (ir:=IE) (vs:=[.i c,.i l,bB]) (by kernel_rfl) rfl rfl rfl (by simp only[List.all_cons,List.all_nil,Bool.and_true,jj];rfl) ?_;show Ok (aF (gam<|n+3) BB [some<|.i c,some<|.i l,some bB] []) _;unfold BB;refine bX (v:=.b<|decide (l %2=1)&&false) (H':=[]) (f_ (bu (p:=.i<|l %2) (q:=.i 1) rfl rfl rfl) λU=>bu (p:=.s "Cn") (q:=Ax) (vm (p:=.i c) rfl rfl<|wp n _) rfl rfl)<|by rw[Bool.and_false];rfl
theorem Ta(n:Nat){cs:bk}{lv:bj}{o:aG}(hl:lv.length=cs.length)(ho:∀x∈o,bH lv x=true)(jn:o.length<=100)(H:ak):gam (n+5) "" "marks_behind" [.l<|o.map aE,.l<|lv.map aD,bM cs,bB] H=some (.l<|o.map aE,H):=by
 refine dX (n:=n+4) (ir:=IF) (vs:=[.l<|o.map aE,.l<|lv.map aD,bM cs,bB]) (by kernel_rfl) rfl rfl rfl (by simp only[List.all_cons,List.all_nil,Bool.and_true,kY,n7,jj,(ints_of o).fz]) ?_;show Ok (aF (gam<|n+4) BC [some<|.l<|o.map aE,some<|.l<|lv.map aD,some<|bM cs,some bB,none,none,none] []) _;unfold BC;refine aZ (v:=.e 0) (H1:=[some<|.l []]) rfl ?_;refine aZ (v:=.e 1) (H1:=[some<|.l [],some<|.l []]) rfl ?_;refine gr (H':=[some<|.l [],some<|.l []]) (vs:=[.l<|o.map aE]) (items:=o.map aE) (λi ae H=>∃(r:Nat)(o6:bR),0<r/\ae=[some<|.l<|o.map aE,some<|.l<|lv.map aD,some<|bM cs,some bB,some<|.e 0,some<|.e r,o6]/\H[0]?=some (cV<|o.take i)/\H[r]?=some (some<|.l []))
  rfl fF (fy 1 none (by decide) rfl rfl rfl) (λi x ae H hx hI=>?_) (λae H hI=>?_)
 ·(refine eJ hI λr o6 h1 aR h2 h3=>?_;clear hI;subst aR)
  rw[cQ]at hx;refine aC (gV.mp hx) λp hp aT=>?_;clear hx;subst aT;have hi:=cH hp;have hpp:=ho p<|dY hp
  have hlt:=ic hpp;have htk:o.take (i+1)=o.take i++[p]:=by refine rR pT<|rR hp ?_;rfl
  have pH:(o.take i).length<=100:=by refine rR gU ?_;exact T6 jn
  refine rR htk ?_;generalize o.take i=X at*;refine aA _ rfl ?_;refine bU (c:=false) (H':=H) (f_ (c:=false) (d:=false) (bu (p:=.e r) (q:=.l []) (H1:=H) rfl rfl<|vP (w:=[]) h3 λU h=>nomatch h) nofun) nB λU=>?_;refine bU (c:=false) (H':=H) (bP (vs:=[.i<|gC cs p,.i<|dw lv p,bB]) (H1:=H) (aJ (e_idx (p:=bM cs) (q:=.i p) rfl rfl<|dB<|vU<|T7 hl hlt)<|aJ (e_idx (p:=.l<|lv.map aD) (q:=.i p) rfl rfl<|dB<|zy hpp) rfl)<|SZ n _ _ _) nB λU=>?_;refine eW (m:=0) (l1:=X.map aE) (l2:=X.map aE) (v:=aE p) (H1:=H) (H2:=H) rfl h2 rfl h2 (by simp;exact Af pH) ?_;refine rR (show some (AO.l<|X.map aE++[aE p])=cV (X++[p]) by simp[cV]) ?_;have g2:(H.set 0<|cV<|X++[p])[0]?=some (cV<|X++[p]):=mX h2;have g3:(H.set 0<|cV<|X++[p])[r]?=some (some<|.l []):=by refine rR (Oi<|T8 h1) ?_;exact h3
  generalize H.set 0 (cV<|X++[p])=H2 at*;refine sR (m:=0) (l1:=(X++[p]).map aE) (l2:=(X++[p]).map aE) (v:=.l []) (r:=[]) (H1:=H2) (H2:=H2) rfl g2 (Ex (m:=r) (l:=[]) rfl g3) g2 rfl (by simp;exact T9 pH) ?_;rw[pN];have k2:(H2.set 0<|some<|AO.l<|(X++[p]).map aE)[0]?=some (cV<|X++[p]):=mX g2;generalize H2.set 0 (some<|AO.l<|(X++[p]).map aE)=H3 at*;refine aZ (v:=.e H3.length) (H1:=H3++[some<|.l []]) Ey<|cu<|fy H3.length _ (by have:=cH k2;exact Gu this) rfl (Oj k2) ?_
  rw[ku<|bY _,pU];rfl
 ·(refine eJ hI λr o6 h1 aL h2 h3=>?_;clear hI;subst aL)
  rw[bI,m_]at h2;refine sR (m:=0) (l1:=o.map aE) (l2:=o.map aE) (v:=.e r) (r:=[]) (H1:=H) (H2:=H) rfl h2 rfl h2 (by simp only[fh,h3]) (by simp;exact Af jn) ?_;rw[pN];exact bX (v:=.e 0) rfl<|gu (mX h2) (ints_of o).b8
noncomputable def k6(cs:bk)(a b:Nat):bk:=(cs.take b).drop a
theorem OV{cs:bk}(h:kT cs)(a b:Nat):kT (k6 cs a b):=λc hc=>h c<|List.mem_of_mem_take<|List.mem_of_mem_drop hc
theorem EY{cs:bk}{a b:Nat}(h:b<=cs.length):(k6 cs a b).length=b-a:=by unfold k6;refine rR pP<|rR gU ?_;exact T_ h
theorem zH(lv:bj)(ks:aY)(base:Int)(a b:Nat):(gi lv ks base a b).length=b-a:=by simp[gi]
theorem OW{cs:bk}{lv:bj}{a b:Nat}{base:Int}(L:mV cs lv a b)(hb:0<=base/\base<=1):ie (gi lv (aW cs) base a b):=by
 refine⟨by rw[zH];have:=L.T.le;have:=L.bn;(first|lia|omega),λl hl=>?_⟩;unfold gi at hl;refine aC (bV.mp hl) λj hj e=>?_;rw[jM]at hj;unfold qM at e;refine aC (gV.mp e) λl0 h1 h2=>?_;have:=L.lv.bd l0<|dY (i:=a+j)<|by exact rR (zo<|by rw[L.n];have:=L.bn;exact Ua hj this)<|rR h1 rfl
 split at h2<;>(first|lia|omega)
theorem Tb(n:Nat){cs:bk}{w:String}{lv:bj}{base:Int}{a b:Nat}{o:aG}(hw:isWord w)(X:vS cs w lv base)(L:mV cs lv a b)(ho:eZ (gi lv (aW cs) base a b) o)(H:ak):
  gam (n+10) "" "shown_lines" [bM cs,bB,.s w,.l [.t [.i a,.i b]]] H=some (.l [.l<|(o.map aE).map<|gh<|(d9 (k6 cs a b)<|gi lv (aW cs) base a b).map br],H):=by
 refine dX (n:=n+9) (ir:=IJ) (vs:=[bM cs,bB,.s w,.l [.t [.i a,.i b]]]) (by kernel_rfl) rfl rfl rfl (by simp only[List.all_cons,List.all_nil,Bool.and_true,n7,jj,Bool.true_and];rfl) ?_;show Ok (aF (gam<|n+9) BF [some<|bM cs,some bB,some<|.s w,some<|.l [.t [.i a,.i b]],none,none,none,none,none,none,none,none,none] []) _;have hlen:=X.T.le;have hbn:=L.bn;have hab:=L.ab;have hS:=OW L X.b;have mR:=zH lv (aW cs) base a b;have hcl:=EY (a:=a) hbn;have e1:=λH=>N1 (n+8) (base:=base) L H;generalize gi lv (aW cs) base a b=now at*;have s9:(k6 cs a b).map br=((cs.map br).take b).drop a:=by(rewrite[k6];exact rR List.map_drop<|rR List.map_take rfl)
 have zJ:=OV X.T.ok a b;generalize k6 cs a b=pc at*
 have hint:dJ ((o.map aE).map<|gh<|(d9 pc now).map br):=λx hx=>kU (d9 pc now) x (vB (λy hy=>by
  have:=ic<|ho.mem.mp hy
  rw[bI,vV];exact GC mR hcl this) hx)
 unfold BF;refine kP (l:=[.l<|lv.map aD,.l<|(aW cs).map bQ]) (H1:=[]) (j7<|aJ (bP (vs:=[bM cs,bB,.s w]) (H1:=[]) rfl<|X.OT n _)<|aJ (bP (vs:=[bM cs,bB]) (H1:=[]) rfl<|El (n+5) X.T.ok _) bA) rfl ?_;refine aZ (v:=.i base) (H1:=[]) (bP (vs:=[bM cs,bB,.s w]) (H1:=[]) rfl<|X.bE (n+4) _) ?_;refine aZ (v:=.e 0) (H1:=[some<|.l []]) rfl ?_
 refine gr (H':=[some<|.l []]) (vs:=[.l [.t [.i a,.i b]]]) (items:=[.t [.i a,.i b]]) (λi ae H=>∃o8 o9 qK qL EZ,ae=[some<|bM cs,some bB,some<|.s w,some<|.l [.t [.i a,.i b]],some<|.l<|lv.map aD,some<|.l<|(aW cs).map bQ,some<|.i base,some<|.e 0,o8,o9,qK,qL,EZ]/\
   H=[some<|.l<|[PV.l<|(o.map aE).map<|gh<|(d9 pc now).map br].take i])
  rfl fF (wI none none none none none rfl rfl) (λi x ae H hx hI=>?_) (λae H hI=>?_)
 ·(refine wB hI λo8 o9 qK qL EZ aM aP=>?_;subst aM;subst aP)
  have hi:=cH hx;obtain rfl:i=0:=by simp at hi;exact Gb hi
  obtain rfl:=aK hx;refine aA _ rfl ?_;refine aZ (v:=.l<|now.map aD) (H1:=[some<|.l []]) (bP (vs:=[.l<|lv.map aD,.l<|(aW cs).map bQ,.t [.i a,.i b],.i base]) (H1:=[some<|.l []]) rfl<|e1 _) ?_
  refine aZ (v:=bM pc) (H1:=[some<|.l []]) (pG (p:=bM cs) (q:=.i a) (r:=.i b) (H1:=[some<|.l []]) (H2:=[some<|.l []]) rfl rfl rfl (by
   unfold bM
   exact rR (vG (Ga hlen hbn hab) (wX hlen hbn) (by simp;exact uh hbn)<|gX hab)<|rR s9 rfl)) ?_
  refine aZ (v:=.l<|o.map aE) (H1:=[some<|.l []]) (bP (vs:=[.l<|o.map aE,.l<|now.map aD,bM pc,bB]) (H1:=[some<|.l []]) (aJ (bP (vs:=[.l<|now.map aD]) rfl<|zB (n+7) hS ho _) rfl)<|Ta (n+4) (GD mR hcl) (λx hx=>ho.mem.mp hx) (by have:=ho.len;exact Ub hlen hbn mR this) _) ?_;refine aZ (v:=.l<|(d9 pc now).map br) (H1:=[some<|.l []]) (bP (vs:=[bM pc,.l<|now.map aD,bB]) (H1:=[some<|.l []]) rfl<|OU (n+5) zJ (GD mR hcl) (Uc hlen hbn hcl) _) ?_;refine eW (m:=0) (l1:=[]) (l2:=[]) (v:=.l<|(o.map aE).map<|gh<|(d9 pc now).map br) (H1:=[some<|.l []]) (H2:=[some<|.l []]) rfl rfl (nZ (l:=o.map aE) rfl λx hx=>?_) rfl (by simp)<|cu<|wI _ _ _ _ _ rfl rfl
  refine aC (bV.mp hx) λj hj aN=>?_;clear hx;subst aN;have:=ic<|ho.mem.mp hj
  exact e_idx (p:=.l<|(d9 pc now).map br) (q:=.i j) (by simp only[bx,List.set_cons_succ,List.set_cons_zero,List.cons_append,List.nil_append];(try simp only[wl,bx,reduceIte];try rfl)) (by simp only[bx,List.set_cons_succ,List.set_cons_zero,List.cons_append,List.nil_append];(try simp only[wl,bx,reduceIte];try rfl))<|zg<|by rw[bI,vV];exact GC mR hcl this
 ·(refine wB hI λo8 o9 qK qL EZ aQ aR=>?_;clear hI;subst aQ;subst aR)
  refine bX (v:=.e 0) rfl (gu (l:=[PV.l<|(o.map aE).map<|gh<|(d9 pc now).map br]) rfl λx hx=>?_);refine rR (dO.mp hx) ?_;exact jg λy hy=>dj<|.inr<|.inr<|.inl<|hint y hy
theorem Tk(n:Nat){cs:bk}{w:String}{lv:bj}{base:Int}{a b:Nat}{o:aG}(hw:isWord w)(X:vS cs w lv base)(L:mV cs lv a b)(ho:eZ (gi lv (aW cs) base a b) o)(H:ak):
  gam (n+11) "" "shown" [bM cs,bB,.s w,.t [.i a,.i b]] H=some (.l<|(o.map aE).map<|gh<|(d9 (k6 cs a b)<|gi lv (aW cs) base a b).map br,H):=by
 refine dX (n:=n+10) (ir:=IL) (vs:=[bM cs,bB,.s w,.t [.i a,.i b]]) (by kernel_rfl) rfl rfl rfl (by simp only[List.all_cons,List.all_nil,Bool.and_true,n7,jj,Bool.true_and];rfl) ?_;show Ok (aF (gam<|n+10) BG [some<|bM cs,some bB,some<|.s w,some<|.t [.i a,.i b]] []) _;have e:=Tb n hw X L ho []
 have hint:dJ ((o.map aE).map<|gh<|(d9 (k6 cs a b)<|gi lv (aW cs) base a b).map br):=λx hx=>kU (d9 _ _) x (vB (λy hy=>by
  have:=ic<|ho.mem.mp hy
  rw[zH]at this;rewrite[bI,vV]
  refine rR (EY L.bn) ?_;exact this) hx)
 unfold BG
 refine bX (v:=.l<|(o.map aE).map<|gh<|(d9 (k6 cs a b)<|gi lv (aW cs) base a b).map br) (H':=[]) (e_idx (p:=.l [.l<|(o.map aE).map<|gh<|(d9 (k6 cs a b)<|gi lv (aW cs) base a b).map br]) (q:=.i 0) (bP (vs:=[bM cs,bB,.s w,.l [.t [.i a,.i b]]]) (H1:=[])
  (aJ rfl<|aJ rfl<|aJ rfl<|aJ (M9<|aJ (iB (c:=false) (bu (p:=.t [.i a,.i b]) (q:=.n) rfl rfl rfl) nB λU=>rfl) bA) bA) e) rfl vf) ?_
 exact jg λy hy=>dj<|.inr<|.inr<|.inl<|hint y hy
noncomputable def dQ(p:Int×Int):PV:=.t [.i p.1,.i p.2]
noncomputable def k7(acc:List<|Int×Int)(s:Int):List (Int×Int):=match acc.getLast? with
 |some p=>if p.2=s then acc.dropLast++[(p.1,s+1)]else acc++[(s,s+1)]
 |none=>acc++[(s,s+1)]
def spans(l:bk):List (Int×Int):=l.foldl k7 []
theorem Tl(acc:List<|Int×Int)(s:Int):(k7 acc s).length<=acc.length+1:=by
 unfold k7;split
 ·split
  ·simp
  ·simp
 ·simp
theorem E0:∀(l:bk)(acc:List<|Int×Int),(l.foldl k7 acc).length<=acc.length+l.length
 |[],acc=>bY _
 |s::l,acc=>by
  have h1:=E0 l<|k7 acc s
  have h2:=Tl acc s;refine rR pO<|rR i4 ?_;exact Ud h1 h2
theorem OX(l:List<|Int×Int):∀x∈l.map dQ,simple 3 x=true:=λx hx=>by(refine aC (bV.mp hx) λr U aT=>?_;clear hx;subst aT);rfl
theorem OY(p:Int×Int)(n:Nat)(H:ak):b8 (n+1) H (dQ p)=some (dQ p):=yT λx hx=>by simp only[List.mem_cons,List.not_mem_nil,or_false]at hx;rcases hx with rfl|rfl<;>exact iT<|.inr<|.inr<|.inl ⟨_,rfl⟩
theorem OZ{Γ:b7}{f s:Nat}{ae:bf}{acc:List<|Int×Int}{i:Int}(hf:∀H,az Γ (.v f) ae H=some (.e 0,H))(hs:∀H,az Γ (.v s) ae H=some (.i i,H))(hl:acc.length<=900):
  Ok (aF Γ [.i (.a true [.m .n (.v f)<|.l [],.m .e (.d (.d (.v f)<|.n<|.c<|.i 1)<|.c<|.i 1)<|.v s])
    [.t (.v f) (.n<|.c<|.i 1)<|.t [.d (.d (.v f)<|.n<|.c<|.i 1)<|.c<|.i 0,.b .a (.v s)<|.c<|.i 1]]
    [.x<|.q (.v f)<|.t [.v s,.b .a (.v s)<|.c<|.i 1]]] ae [some<|.l<|acc.map dQ]) (λr=>r.1=.n/\r.2.1=ae/\r.2.2=[some<|.l<|(k7 acc i).map dQ]):=by
 have O0:∀H,az Γ (.b .a (.v s)<|.c<|.i 1) ae H=some (.i<|i+1,H):=λH=>dD (p:=.i i) (q:=.i 1) (hs H) rfl rfl;have app:k7 acc i=acc++[(i,i+1)]->Ok (aF Γ [.x<|.q (.v f)<|.t [.v s,.b .a (.v s)<|.c<|.i 1]] ae [some<|.l<|acc.map dQ]) (λr=>r.1=.n/\r.2.1=ae/\r.2.2=[some<|.l<|(k7 acc i).map dQ]):=λe=>by
  refine rR e ?_;refine eW (m:=0) (l1:=acc.map dQ) (l2:=acc.map dQ) (v:=dQ (i,i+1)) (H1:=[some<|.l<|acc.map dQ]) (H2:=[some<|.l<|acc.map dQ]) (hf _) rfl (j7<|aJ (hs _)<|aJ (O0 _) bA) rfl (by simp;exact rq hl)<|cu ⟨rfl,rfl,?_⟩
  refine rR kB ?_;rfl
 cases iE:acc.getLast? with
 |none=>
  clear hl;obtain rfl:=List.getLast?_eq_none_iff.mp iE;exact bU (c:=false) (H':=[some<|.l<|([]:List<|Int×Int).map dQ]) (f_ (c:=false) (d:=false) (bu (p:=.e 0) (q:=.l []) (hf _) rfl<|vP (w:=[]) rfl λU h=>nomatch h) nofun) nB λU=>app rfl
 |some p=>
  have nY:az Γ (.d (.v f)<|.n<|.c<|.i 1) ae [some<|.l<|acc.map dQ]=some (dQ p,[some<|.l<|acc.map dQ]):=
   e_idx (p:=.e 0) (q:=.i<|-1) (hf _) rfl (ve rfl<|by rw[List.getLast?_map,iE];rfl)
  have hne:(acc.map dQ).isEmpty=false:=by
   induction acc using b9 with
   |nil=>exact nN iE
   |cons a t=>rfl
  refine bU (c:=true&&decide (p.2=i)) (H':=[some<|.l<|acc.map dQ]) (f_ (bu (p:=.e 0) (q:=.l []) (H1:=[some<|.l<|acc.map dQ]) (hf _) rfl<|by refine rR (vP rfl<|OX acc)<|rR hne ?_;rfl) λU=>bu (p:=.i p.2) (q:=.i i) (e_idx (p:=dQ p) (q:=.i 1) nY rfl sP) (hs _) rfl) (λhc=>?_) λhc=>?_
  ·have hc:p.2=i:=by simpa using hc
   have e:k7 acc i=acc.dropLast++[(p.1,i+1)]:=by unfold k7;refine rR iE ?_;dsimp only;exact rR (bw hc) rfl
   refine rR e ?_;refine X1 (wo.mp iE) λd aL=>?_;clear hl app iE hne e;subst aL;refine M5 (v:=dQ (p.1,i+1)) (m:=0) (l1:=(d++[p]).map dQ) (H1:=[some<|.l<|(d++[p]).map dQ]) (H2:=[some<|.l<|(d++[p]).map dQ]) (H3:=[some<|.l<|(d++[p]).map dQ])
    (j7<|aJ (e_idx (p:=dQ p) (q:=.i 0) nY rfl sO)<|aJ (O0 _) bA) (hf _) rfl rfl (by simp) (cu ⟨rfl,rfl,?_⟩)
   refine rR List.dropLast_concat ?_;simp
  ·have hc:¬p.2=i:=by simpa using hc
   exact app<|by unfold k7;refine rR iE ?_;dsimp only;exact rR (bO hc) rfl
theorem O1{l:bk}{i:Nat}{x:Int}(h:l[i]?=some x):spans (l.take<|i+1)=k7 (spans<|l.take i) x:=by unfold spans;refine rR pT<|rR h<|rR List.foldl_append ?_;rfl
theorem Tm(n:Nat){l:bk}(hl:l.length<=60)(H:ak):gam (n+1) "" "_law_spans" [.l<|l.map .i] H=some (.l<|(spans<|sortedZ l).map dQ,H):=by
 have hint:dJ (l.map PV.i):=λx hx=>by(refine aC (bV.mp hx) λi U aM=>?_;clear hx;subst aM);exact⟨i,rfl⟩
 refine dX (ir:=IT) (vs:=[.l<|l.map .i]) (by kernel_rfl) rfl rfl rfl (by simp only[List.all_cons,List.all_nil,Bool.and_true,hint.fz]) ?_;show Ok (aF (gam n) BL [some<|.l<|l.map .i,none,none] []) _;have hsl:(sortedZ l).length=l.length:=(qP l).length_eq;have E1:∀H,az (gam n) (.k .o [.v 0]) [some<|.l<|l.map .i,some<|.e 0,none] H=some (.l<|(sortedZ l).map .i,H):=λH=>s_ (aJ (p:=.l<|l.map .i) (H1:=H) rfl bA)<|vJ<|Ue hl
 generalize sortedZ l=s at*;unfold BL;refine aZ (v:=.e 0) (H1:=[some<|.l []]) rfl ?_;refine gr (H':=[some<|.l []]) (vs:=[.l<|s.map .i]) (items:=s.map .i) (λi ae H=>∃o2,ae=[some<|.l<|l.map .i,some<|.e 0,o2]/\H=[some<|.l<|(spans<|s.take i).map dQ])
  (aJ (E1 _) bA) fF (aA none rfl rfl) (λi x ae H hx hI=>?_) (λae H hI=>?_)
 ·(refine aC hI λo2 aP aN=>?_;subst aP;clear hI;subst aN)
  rw[cQ]at hx;refine aC (gV.mp hx) λp hp aQ=>?_;clear hx;subst aQ;have hi:=cH hp
  refine⟨_,rfl,(OZ (i:=p) (λH=>rfl) (λH=>rfl) (by
   have:=E0 (s.take i) [];rw[gU]at this;unfold spans;simp at this
   exact Ug hl hsl this)).mono λr h=>?_⟩
  obtain⟨f,ae,H⟩:=r;refine U2 h λaR aT aL=>?_;subst aR;clear h;subst aT;subst aL;exact aA _ rfl (by exact rR (O1 hp) rfl)
 ·(refine aC hI λo2 aM aP=>?_;clear hI;subst aM;subst aP)
  rewrite[bI];refine rR m_ ?_;exact bX (v:=.e 0) rfl (gu rfl λx hx=>by(refine aC (bV.mp hx) λr U aN=>?_;clear hx;subst aN);exact OY r 4 _)
def jo(o:aG)(a b:Nat):aG:=((List.range<|b-a).map (a+·)).filterMap<|posOf o
def zK(o:aG)(x:PV):Bool:=match x with
 |.i i=>mY<|ig o i.toNat
 |_=>false
def O2(o:aG)(x:PV):PV:=match x with
 |.i i=>ig o i.toNat
 |x=>x
theorem O3(o:aG):∀(l:aG),((l.map aE).filter<|zK o).map (O2 o)=(l.filterMap<|posOf o).map aE
 |[]=>rfl
 |a::l=>by
  refine rR fK<|rR lg ?_
  have ih:=O3 o l;cases h:posOf o a with
  |none=>
   have e:¬zK o (aE a)=true:=by show¬mY (ig o a)=true;unfold ig;refine rR h ?_;decide
   refine rR (List.filter_cons_of_neg e) ?_;exact ih
  |some k=>
   have e1:ig o a=.i k:=by unfold ig;exact rR h rfl
   have e:zK o (aE a)=true:=by show mY (ig o a)=true;refine rR e1 ?_;rfl
   refine rR (List.filter_cons_of_pos e)<|rR fK<|rR ih ?_
   exact congrArg (·::_) e1
theorem Ts(o:aG)(a b:Nat):(jo o a b).length<=b-a:=by unfold jo;have:=List.length_filterMap_le (posOf o) ((List.range<|b-a).map (a+·));simpa using this
theorem Tx(n:Nat){lv:bj}{o:aG}{a b:Nat}(hS:ie lv)(ho:eZ lv o)(hab:a<=b)(hb:b<=lv.length)(H:ak):gam (n+3) "" "selected" [.l<|lv.map aD,.i a,.i b] H=some (.l<|(spans<|sortedZ<|(jo o a b).map Int.ofNat).map dQ,H):=by
 refine dX (n:=n+2) (ir:=II) (vs:=[.l<|lv.map aD,.i a,.i b]) (by kernel_rfl) rfl rfl rfl (by simp only[List.all_cons,List.all_nil,Bool.and_true,kY,Bool.true_and];rfl) ?_;show Ok (aF (gam<|n+2) BE [some<|.l<|lv.map aD,some<|.i a,some<|.i b,none,none,none] []) _;have hle:=hS.le;have jn:=ho.len;have hsl:=Ts o a b;unfold BE
 refine aZ (v:=.l<|fU o lv.length) (H1:=[]) (bP (vs:=[.l<|o.map aE,.i lv.length]) (H1:=[]) (aJ (bP (vs:=[.l<|lv.map aD]) (H1:=[]) rfl<|zB n hS ho _) (aJ (by
  have:=e_len (Γ:=gam<|n+2) (a:=.v 0) (ae:=[some<|.l<|lv.map aD,some<|.i a,some<|.i b,none,none,none]) (H:=[]) (H1:=[]) (l:=lv.map aD) rfl;rw[bI]at this
  exact this) bA))<|OF (n+1) (uo hle) (Gv hle jn) ho.nodup (λx hx=>ic<|ho.mem.mp hx) _) ?_
 refine aZ (v:=.e 0) (H1:=[some<|.l []]) rfl ?_;have E1:az (gam<|n+2) (.k .o [.D (.d (.v 3)<|.v 6) false ["place"] .r [.v 1,.v 2] [.m .t (.d (.v 3)<|.v 6)<|.c .n]]) [some<|.l<|lv.map aD,some<|.i a,some<|.i b,some<|.l<|fU o lv.length,some<|.e 0,none] [some<|.l []]=some (.l<|(sortedZ<|(jo o a b).map Int.ofNat).map .i,[some<|.l []]):=by
  refine s_ (vs:=[.l<|(jo o a b).map aE]) (H1:=[some<|.l []]) (aJ ?_ bA)<|by rw[EO];exact vJ<|by rw[bI];exact Uh hb hle hsl
  have O4:∀{j:Nat},j<lv.length->az (gam<|n+2) (.d (.v 3)<|.v 6) [some<|.l<|lv.map aD,some<|.i a,some<|.i b,some<|.l<|fU o lv.length,some<|.e 0,none,some<|.i j] [some<|.l []]=some (ig o j,[some<|.l []]):=λ{j} hj=>
   e_idx (p:=.l<|fU o lv.length) (q:=.i j) rfl rfl (dB<|zD hj)
  rw[pJ (f:=O2 o) (t:=zK o) (vs:=[.i a,.i b]) (H1:=[some<|.l []]) rfl (pA jx (Ui hab hb hle) jx<|Uj hb hle) (λx hx=>?_) λx hx U=>?_]
  ·(refine rR (vR hab) ?_;rewrite[O3]);rfl
  ·rw[vR hab]at hx;refine aC (bV.mp hx) λc hc aQ=>?_;clear hx;subst aQ;refine aC (bV.mp hc) λj hj aR=>?_;clear hc;subst aR;rw[jM]at hj;refine bu (p:=ig o<|a+j) (q:=.n) (O4<|Ag hb hj) cL ?_;show cE _ .t (ig o<|a+j) .n=some (mY<|ig o<|a+j);unfold ig;cases posOf o (a+j)<;>rfl
  ·rw[vR hab]at hx;refine aC (bV.mp hx) λc hc aT=>?_;clear hx;subst aT;refine aC (bV.mp hc) λj hj aL=>?_;clear hc;subst aL;rw[jM]at hj;exact O4 (j:=a+j)<|Ag hb hj
 have hl2:(sortedZ<|(jo o a b).map Int.ofNat).length<=20:=by(refine rR ((qP _).length_eq) ?_;rewrite[bI]);exact Uk hb hle hsl
 generalize sortedZ ((jo o a b).map Int.ofNat)=s at*;refine gr (H':=[some<|.l []]) (vs:=[.l<|s.map .i]) (items:=s.map .i) (λi ae H=>∃o5,ae=[some<|.l<|lv.map aD,some<|.i a,some<|.i b,some<|.l<|fU o lv.length,some<|.e 0,o5]/\H=[some<|.l<|(spans<|s.take i).map dQ])
  (aJ E1 bA) fF (aA none rfl rfl) (λi x ae H hx hI=>?_) (λae H hI=>?_)
 ·(refine aC hI λo5 aM aP=>?_;subst aM;clear hI;subst aP)
  rw[cQ]at hx;refine aC (gV.mp hx) λp hp aN=>?_;clear hx;subst aN;have hi:=cH hp
  refine⟨_,rfl,(OZ (i:=p) (λH=>rfl) (λH=>rfl) (by
   have:=E0 (s.take i) [];rw[gU]at this;unfold spans;simp at this
   exact Ul hl2 this)).mono λr h=>?_⟩
  obtain⟨f,ae,H⟩:=r;refine U2 h λaQ aR aT=>?_;subst aQ;clear h;subst aR;subst aT;exact aA _ rfl (by exact rR (O1 hp) rfl)
 ·(refine aC hI λo5 aL aM=>?_;clear hI;subst aL;subst aM)
  rewrite[bI];refine rR m_ ?_;exact bX (v:=.e 0) rfl (gu rfl λx hx=>by(refine aC (bV.mp hx) λr U aP=>?_;clear hx;subst aP);exact OY r 4 _)
noncomputable def qT(o:aG)(a b:Nat):aG:=(List.range o.length).filter λk=>decide (a<=o.getD k 0)&&decide (o.getD k 0<b)
theorem Ty{o:aG}(hn:o.Nodup)(a b:Nat):sortedZ ((jo o a b).map Int.ofNat)=sortedZ ((qT o a b).map Int.ofNat):=by
 have hp:(jo o a b).Perm (qT o a b):=by
  refine OO ?_ (wj _ List.nodup_range) λk=>?_
  ·unfold jo;have hr:((List.range<|b-a).map (a+·)).Nodup:=pR.mpr (List.nodup_range.imp λh=>Um h);refine List.Pairwise.filterMap _ (λx y hxy u hu v hv huv=>?_) hr;subst huv;have h1:=EM hn hu;have h2:=EM hn hv;rw[h1]at h2;exact hxy<|aK h2
  ·unfold jo qT;rw[List.mem_filterMap,List.mem_filter,jM,cy,ff,ff];constructor
   ·rintro⟨p,hp,h⟩;refine aC (bV.mp hp) λj hj aN=>?_;clear hp;subst aN;rw[jM]at hj;have:=EM hn h;have hd:o.getD k 0=a+j:=by rw[fV,this];rfl
    exact⟨cH this,by refine rR hd ?_;exact wW,by refine rR hd ?_;exact Gz hj⟩
   ·rintro⟨h1,h2,h3⟩;refine X1 (h_ h1) λp hp=>?_;have hd:o.getD k 0=p:=by rw[fV,hp];rfl
    rw[hd]at h2 h3;exact aA p (bV.mpr<|aA (p-a) (by rw[jM];exact Un h3 h2)<|ug h2)<|zC hn hp
 exact Om ((qP _).trans<|hp.symm.map _)<|EB _
theorem vW{H:ak}{i j:Int}(h:0<j):kJ H .o (.i i) (.i j)=some (.i<|i %j):=by show(if decide (0<j)=true then some (PV.i<|i %j)else none)=_;exact rR (bw<|di h) rfl
theorem zL{H:ak}{i j:Int}(h1:-(2^40)<i/\i<2^40)(h2:-(2^40)<j/\j<2^40):kJ H .m (.i i) (.i j)=some (.i<|i*j):=by
 have e:(cO i&&cO j)=true:=by simp only[cO,Bool.and_eq_true,decide_eq_true_eq];exact⟨h1,h2⟩
 show(if(cO i&&cO j)=true then some (PV.i<|i*j)else none)=_;exact rR (bw e) rfl
theorem TB{H:ak}{i j:Int}(h1:-(2^40)<i/\i<2^40)(h2:0<j/\j<2^40):kJ H .f (.i i) (.i j)=some (.i<|i/j):=by
 have e:(cO i&&cO j&&decide (0<j))=true:=by simp only[cO,Bool.and_eq_true,decide_eq_true_eq];exact VD h1 h2
 show(if(cO i&&cO j&&decide (0<j))=true then some (PV.i<|i/j)else none)=_;exact rR (bw e) rfl
def cB(cells:bk)(t:Nat):Option AO:=some<|.l [.l<|cells.map br,.i t]
theorem TC(l:bk):dJ (l.map br):=kU l
theorem pM(n:Nat){cells:bk}{t d:Nat}{k:Int}{H:ak}(hd:H[d]?=some (cB cells t))(ht:t<=90)(hc:cells.length<=63)(hk:0<k):
  ∃r:Int,(0<=r/\r<k)/\gam (n+1) "" "_law_draw" [.e d,.i k] H=some (.i r,H.set d<|cB cells<|t+1):=by
 obtain⟨v,H',e,r,rfl,h0,h1,rfl⟩:=nQ (n:=n) (c:="") (f:="_law_draw") (ir:=IM) (args:=[.e d,.i k]) (vs:=[.e d,.i k]) (H:=H) (Q:=λv H'=>∃r:Int,v=.i r/\0<=r/\r<k/\H'=H.set d (cB cells<|t+1)) (by kernel_rfl) rfl rfl rfl (by
  show Ok (aF (gam n) BH [some<|.e d,some<|.i k,none,none,none,none] H) _;unfold BH;have TD:H.set d (some<|AO.l<|[PV.l<|cells.map br,.i t].set 1 (.i ((t+1:Nat):Int)))=H.set d (cB cells<|t+1):=rfl;refine pC (k:=1) (v:=.i ((t+1:Nat):Int)) (m:=d) (l1:=[.l<|cells.map br,.i t]) (H1:=H) (H2:=H) (H3:=H) (dD (p:=.i t) (q:=.i 1) (e_idx (p:=.e d) (q:=.i 1) rfl rfl<|yQ (k:=1) hd rfl) rfl rfl) rfl rfl hd (by simp) ?_;refine rR TD ?_;have hd2:(H.set d<|cB cells<|t+1)[d]?=some (cB cells<|t+1):=mX hd;generalize H.set d (cB cells<|t+1)=H2 at*;refine kP (l:=[.i ((t+1:Nat):Int),.l<|cells.map br]) (H1:=H2) (j7<|aJ (e_idx (p:=.e d) (q:=.i 1) rfl rfl<|yQ (k:=1) hd2 rfl)<|aJ (e_idx (p:=.e d) (q:=.i 0) rfl rfl<|yQ (k:=0) hd2 rfl) bA) rfl ?_;have fin:∀{e:CE}{x:Int}{ae:bf}{tl:List CS},az (gam n) e ae H2=some (.i x,H2)->az (gam n) (.v 1) ae H2=some (.i k,H2)->Ok (aF (gam n) (.r (.b .o e<|.v 1)::tl) ae H2) (λr=>∃r':Int,fX r.1=.i r'/\0<=r'/\r'<k/\r.2.2=H2):=λ{e x ae tl} h1 h2=>
   bX (v:=.i<|x %k) (dD (p:=.i x) (q:=.i k) h1 h2<|vW hk) (iq _ rfl (Int.emod_nonneg _ (VE hk)) (Int.emod_lt_of_pos _ hk) rfl)
  have hlen:(cells.map br).length=cells.length:=bI _;refine bU (c:=decide<|((t+1:Nat):Int)<=(cells.map br).length) (H':=H2) (bu (p:=.i ((t+1:Nat):Int)) (q:=.i (cells.map br).length) rfl (e_len rfl) rfl) (λhcd=>?_) λhcd=>?_
  ·have hcd:=cG hcd;rw[hlen]at hcd;have hi:t<cells.length:=Uo hcd
   exact fin (x:=gC cells t) (e_idx (p:=.l<|cells.map br) (q:=.i t) rfl (dD (p:=.i ((t+1:Nat):Int)) (q:=.i 1) rfl rfl (by
    show some (PV.i<|((t+1:Nat):Int)-1)=_
    exact rR (show(((t+1:Nat):Int)-1)=(t:Int)from F4) rfl))<|dB<|vU hi) rfl
  ·obtain⟨c,hcell⟩:∃c:Int,az (gam n) (.i (.m .n (.v 3)<|.l []) (.d (.v 3)<|.b .o (.v 2)<|.k .l [.v 3])<|.c<|.i 7) [some<|.e d,some<|.i k,some<|.i ((t+1:Nat):Int),some<|.l<|cells.map br,none,none] H2=some (.i c,H2):=by
    induction cells using b9 with
    |nil=>exact⟨7,iB (c:=false) (bu (p:=.l []) (q:=.l []) rfl rfl rfl) nB λU=>rfl⟩
    |cons a l=>
     have hi:(t+1) %(a::l).length<(a::l).length:=Nat.mod_lt _ (by simp);refine⟨gC (a::l)<|(t+1) %(a::l).length,iB (c:=true) (bu (p:=.l<|(a::l).map br) (q:=.l []) rfl rfl<|Oo<|TC _) (λU=>?_) nofun⟩;refine e_idx (p:=.l<|(a::l).map br) (q:=.i (((t+1) %(a::l).length:Nat):Int)) rfl (dD (p:=.i ((t+1:Nat):Int)) (q:=.i ((a::l).map br).length) rfl (e_len rfl) ?_)<|dB<|vU hi
     refine rR (vW<|by rw[hlen];simp)<|rR hlen ?_
     congr 2
   refine aZ hcell ?_;generalize hT:((t+1:Nat):Int)=T at*;have hTb:1<=T/\T<=100:=V2 ht hT;have TK:0<=60013*T*T:=Int.mul_nonneg (GY hT)<|V3 hT
   have hq1:60013*T*T<=60013*T*100:=Int.mul_le_mul_of_nonneg_left hTb.2<|GY hT
   have hc0:=Int.emod_nonneg c (show(2147483629:Int)≠0 by decide);have hc1:=Int.emod_lt_of_pos c (show(0:Int)<2147483629 by decide);generalize hM:(c %2147483629+60013*T*T+17)*48271 %2147483647=M;have O5:0<=M:=by refine rL hM ?_;exact Int.emod_nonneg _ (by decide)
   have O6:M<2147483647:=by refine rL hM ?_;exact Int.emod_lt_of_pos _ (by decide)
   generalize hN:(M*M+T) %2147483579=N;have hN0:0<=N:=by refine rL hN ?_;exact Int.emod_nonneg _ (by decide)
   have zv:N<2147483579:=by refine rL hN ?_;exact Int.emod_lt_of_pos _ (by decide)
   refine aZ (v:=.i M) (H1:=H2) (by
    refine dD (p:=.i<|(c %2147483629+60013*T*T+17)*48271) (q:=.i 2147483647) (dD (p:=.i<|c %2147483629+60013*T*T+17) (q:=.i 48271) (dD (p:=.i<|c %2147483629+60013*T*T) (q:=.i 17) (dD (p:=.i<|c %2147483629) (q:=.i<|60013*T*T) (dD (p:=.i c) (q:=.i 2147483629) rfl rfl<|vW<|by decide) (dD (p:=.i<|60013*T) (q:=.i T) (dD (p:=.i 60013) (q:=.i T) rfl rfl<|zL Up<|GZ ht hT) rfl<|zL (V4 ht hT)<|GZ ht hT) rfl) rfl rfl) rfl<|zL ?_ Uq) rfl ?_
    ·generalize 60013*T*T=q at*;exact V5 ht hT TK hq1
    ·exact rR (vW<|by decide)<|rR hM rfl) ?_
   refine aZ (v:=.i N) (H1:=H2) (by
    refine dD (p:=.i<|M*M+T) (q:=.i 2147483579) (dD (p:=.i<|M*M) (q:=.i T) (dD (p:=.i M) (q:=.i M) rfl rfl<|zL (GX O5 O6)<|GX O5 O6) rfl rfl) rfl ?_
    exact rR (vW<|by decide)<|rR hN rfl) ?_
   exact fin (x:=N/64) (dD (p:=.i N) (q:=.i 64) rfl rfl<|TB (VF hN) Ur) rfl)
 exact aA r ⟨h0,h1⟩ e
theorem TT(n:Nat)(o:bK)(H:ak):gam (n+1) "" "_law_is_odd" [aD o] H=some (.b<|lT o,H):=by
 refine dX (ir:=IW) (vs:=[aD o]) (by kernel_rfl) rfl rfl rfl (by simp only[List.all_cons,List.all_nil,Bool.and_true,za]) ?_;show Ok (aF (gam n) BP [some<|aD o] []) _;unfold BP;refine bX (v:=.b<|lT o) (H':=[]) ?_ rfl
 induction o using e9 with
 |none=>exact f_ (c:=false) (d:=false) (bu (p:=.n) (q:=.n) rfl rfl rfl) nofun
 |some l=>exact f_ (c:=true) (d:=decide<|l %2=1) (bu (p:=.i l) (q:=.n) rfl rfl rfl) λU=>bu (p:=.i<|l %2) (q:=.i 1) (dD (p:=.i l) (q:=.i 2) rfl rfl rfl) rfl rfl
theorem T1(n:Nat){o:aG}{i p:Nat}(hn:o.Nodup)(hi:o[i]?=some p)(H:ak):gam (n+1) "" "visual_of" [.l<|o.map aE,.i p] H=some (.i i,H):=by
 refine dX (ir:=IA) (vs:=[.l<|o.map aE,.i p]) (by kernel_rfl) rfl rfl rfl (by simp only[List.all_cons,List.all_nil,Bool.and_true,(ints_of o).fz,Bool.true_and];rfl) ?_;show Ok (aF (gam n) Bw [some<|.l<|o.map aE,some<|.i p,none,none] []) _;have hlt:=cH hi;unfold Bw;refine gr (H':=[]) (vs:=[.l<|o.map aE]) (items:=dU<|o.map aE) (λj ae H=>j<=i/\∃o2 o3,ae=[some<|.l<|o.map aE,some<|.i p,o2,o3]/\H=[])
  rfl ji (FA (iF _) none none rfl rfl) (λj x ae H hx hI=>?_) (λae H hI=>?_)
 ·(refine Po hI λoV o2 o3 aQ aR=>?_;subst aQ;subst aR)
  refine aC (j6 hx) λv hv aT=>?_;clear hx;subst aT;rw[cQ]at hv;refine aC (gV.mp hv) λq hq aL=>?_;clear hv;subst aL;refine aA _ rfl ?_;refine bU (c:=decide<|(q:Int)=p) (H':=[]) (bu (p:=.i q) (q:=.i p) rfl rfl rfl) (λhc=>?_) λhc=>?_
  ·have hc:q=p:=by have:=cG hc;exact wU this
   clear hI;subst hc;have:=(tM (cH hq) hn).mp<|hq.trans hi.symm
   clear hlt oV hi;subst this;exact bX (v:=.i j) rfl rfl
  ·have hc:=lW hc;refine cu<|FA ?_ _ _ rfl rfl
   rcases dm j i with h|h
   ·exact h
   ·obtain rfl:j=i:=F_ oV h;rw[hi]at hq;have:=aK hq;exact Us hc this
 ·refine U1 hI λoV U=>?_;rw[mP,bI]at oV
  (first|lia|omega)
theorem Uf(n:Nat){o:aG}{i p:Nat}(hi:o[i]?=some p)(H:ak):gam (n+1) "" "logical_of" [.l<|o.map aE,.i i] H=some (.i p,H):=by
 refine dX (ir:=IB) (vs:=[.l<|o.map aE,.i i]) (by kernel_rfl) rfl rfl rfl (by simp only[List.all_cons,List.all_nil,Bool.and_true,(ints_of o).fz,Bool.true_and];rfl) ?_;show Ok (aF (gam n) Bx [some<|.l<|o.map aE,some<|.i i] []) _;have hlt:=cH hi;unfold Bx;refine bX (v:=.i p) (H':=[]) (iB (c:=true) ?_ (λU=>e_idx (p:=.l<|o.map aE) (q:=.i i) rfl rfl<|dB<|by rw[cQ,hi];rfl) nofun) rfl
 (try simp only[wl,bx,reduceIte];try rfl)
 refine rR (di (show(0:Int)<=i from F2))<|rR (bw rfl) ?_
 simp only[Option.bind_some,Option.map_some,List.length_map];exact rR (di (show(i:Int)<o.length from F3 hlt)) rfl
theorem UF{Γ:b7}{a b c:CE}{ae:bf}{H:ak}(ha:az Γ a ae H=some (.b false,H))(hb:az Γ b ae H=some (.b false,H))(hc:az Γ c ae H=some (.b false,H)):az Γ (.a false [a,b,c]) ae H=some (.b false,H):=by
 refine rR pq<|rR hU<|rR ha ?_
 simp only[Option.bind_some,fZ,if_true];refine rR hU<|rR hb ?_
 simp only[Option.bind_some,fZ,if_true];refine rR hU (rR hc ?_);rfl
theorem UV{H:ak}{l:au}:ja H (.l l) (.i 1) .n=some (.l<|l.drop 1):=by
 have e:rB H (.l l)=some l:=rfl;unfold ja;refine rR e ?_;simp only[Option.bind_some];refine rR (show(PV.i 1)=PV.i ((1:Nat):Int)from rfl)<|rR (vF GF) ?_
 simp only[Option.bind_some,ny,Option.map_some,List.take_length]
 induction l using b9 with
 |nil=>rfl
 |cons a t=>exact rR (oz<|by simp) rfl
theorem V'{H:ak}{l:au}:ja H (.l l) .n (.i 1)=some (.l<|l.take 1):=by
 have e:rB H (.l l)=some l:=rfl;unfold ja;refine rR e ?_;simp only[Option.bind_some];refine rR (show(PV.i 1)=PV.i ((1:Nat):Int)from rfl)<|rR (vF GF) ?_
 simp only[Option.bind_some,ny,Option.map_some,List.drop_zero]
 induction l using b9 with
 |nil=>rfl
 |cons a t=>exact rR (oz<|by simp) rfl
theorem Wp{H:ak}{c:Int}:cE H .i (.i c) (.t [.i 40,.i 41])=some (decide (c=40)||decide (c=41)):=by show some (decide (c=40)||(decide (c=41)||false))=_;rw[Bool.or_false]
theorem E2(cs:bk):dU (cs.map br)=(List.range cs.length).map λ(i:Nat)=>.t [.i i,.i<|gC cs i]:=by refine rR (EH (f:=λi=>.i<|gC cs i) λi hi=>vU<|by rwa[bI]at hi) ?_;rw[bI]
noncomputable def jK(o:aG)(i:Nat):Nat:=o.getD i 0
theorem WF{o:aG}{i:Nat}(h:i<o.length):o[i]?=some (jK o i):=by rw[jK,fV,eE h];rfl
theorem zM(o:aG):dU (o.map aE)=(List.range o.length).map λ(i:Nat)=>.t [.i i,.i<|jK o i]:=by
 rw[EH (f:=λi=>.i<|jK o i) λi hi=>by
  rw[bI]at hi
  refine rR (cQ)<|rR (WF hi) ?_;rfl,bI]
theorem WP(ks:aY)(n:Nat):∀x∈ks.map bQ,simple n x=true:=λx hx=>by(refine aC (bV.mp hx) λo U aM=>?_;clear hx;subst aM);induction n using gD<;>rfl
theorem O7(cs:bk)(n:Nat):∀x∈cs.map br,simple n x=true:=λx hx=>by(refine aC (bV.mp hx) λo U aP=>?_;clear hx;subst aP);exact EC _
theorem W1{l:au}(h:dJ l)(n:Nat):∀x∈l,simple n x=true:=λx hx=>by(refine X1 (h x hx) λi aN=>?_;clear hx;subst aN);exact EC _
def O8(now:bj)(x:PV):PV:=match x with
 |.t [.i i,.i c]=>.i<|oh c<|lo now i.toNat
 |x=>x
noncomputable def O9(a b:Nat)(x:PV):Bool:=match x with
 |.t [_,.i c]=>decide ((a:Int)<=c)&&decide (c<(b:Int))
 |_=>false
theorem O_{now:bj}{o ro:aG}(ho:eZ now o)(hr:eZ (rlv<|gB now now.length) ro):(vQ (gB now now.length) ro).flatMap (orient now)=o:=
 (Pm (tu now now.length) hr).uniq ho
theorem XB{now:bj}{ro:aG}(hr:eZ (rlv<|gB now now.length) ro):∀r∈vQ (gB now now.length) ro,r.1<r.2.1/\r.2.1<=now.length/\bH now r.1=true/\∀c,r.1<=c->c<r.2.1->bH now c=true->dw now c=r.2.2:=λr h=>by refine aC (bV.mp h) λi hi aQ=>?_;clear h;subst aQ;refine X1 (h_<|tD.mp<|hr.mem.mp hi) λs hs=>?_;rw[fV,hs];exact(tu now now.length).ok s<|dY hs
theorem XV{now:bj}(hS:ie now):ie (rlv<|gB now now.length):=by
 have I:=tu now now.length;have hle:=hS.le;have hsz:=I.sz
 exact⟨by rw[rlv,bI];exact GA hle hsz,λl hl=>by
  refine aC (bV.mp hl) λr hr e=>?_;clear hl;obtain rfl:=aK e;have q:=I.ok r hr;have:=hS.aH q.2.2.1;rw[q.2.2.2 r.1 (bY _) q.1 q.2.2.1]at this
  exact this⟩
section
variable {n:Nat}{ae:bf}{H H1:ak}{now:bj}{o ro pcn:aG}{pc:bk}
theorem X'(hS:ie now)(ho:eZ now o)(lS:eZ (rlv<|gB now now.length) ro)(v11:ae[11]?=some (some<|.l<|now.map aD))(vX:ae[13]?=some (some<|.l<|o.map aE))(kj:ae[14]?=some (some<|.l<|o.map aE)):
  az (gam<|n+11) (.a false [.m .n (.v 13)<|.v 14,.m .t (.h "is_order_of" [.v 13,.v 11])<|.c<|.b true,.m .n (.h "_law_tiled" [.v 11,.h "visual_runs" [.v 11]])<|.v 14]) ae H=some (.b false,H):=by
 refine aC (OL (n+9) hS ho.pm H) λc1 Y2 hc1=>?_;have hc1:c1=true:=hc1.mpr<|Pi ho
 subst hc1;have et:=RF (n+10) hS (XB lS) (by refine rR (O_ ho lS) ?_;exact eR ho.len<|eR hS.le<|by decide) H;rw[O_ ho lS]at et;exact UF (bu (bq vX) (bq kj)<|ne_self<|vN _ _) (bu (bP (aJ (bq vX)<|aJ (bq v11) bA) Y2) cL rfl)
  (bu (bP (aJ (bq v11)<|aJ (bP (aJ (bq v11) bA)<|P3 (n+8) hS lS _) bA) et) (bq kj)<|ne_self<|vN _ _)
theorem Y'{o:aG}(h:1<o.length):∃p q r,o=p::q::r:=by
 induction o using b9 with
 |nil=>cases h
 |cons p o=>induction o using b9 with
  |nil=>exact absurd h<|q_ 1
  |cons q r=>exact I3 p q r rfl
theorem ZB(hS:ie now)(ho:eZ now o)(v11:ae[11]?=some (some<|.l<|now.map aD))(kj:ae[14]?=some (some<|.l<|o.map aE)):
  az (gam<|n+11) (.a true [.m .g (.k .l [.v 14])<|.c<|.i 1,.m .t (.h "is_order_of" [.b .a (.s (.v 14) (.c<|.i 1)<|.c .n)<|.s (.v 14) (.c .n)<|.c<|.i 1,.v 11])<|.c<|.b false]) ae H=some (.b false,H):=by
 refine Eq.trans (b:=some (.b<|decide ((1:Int)<(o.map aE).length)&&false,H)) ?_<|by rw[Bool.and_false]
 refine f_ (bu (p:=.i (o.map aE).length) (q:=.i 1) (e_len<|bq kj) cL rfl) λhgt=>?_;have hgt:=cG hgt;rw[bI]at hgt;refine X3 (Y'<|oi.mp hgt) λp q r aR=>?_;clear hgt;clear hgt;subst aR;refine aC (OL (n+9) (o:=q::r++[p]) hS ((List.perm_append_comm.trans<|by exact List.Perm.refl _).trans ho.pm) H) λc2 ec2 hc2=>?_;have hc2:c2=false:=Bool.eq_false_iff.mpr λe=>Pl ho<|hc2.mp e
 subst hc2;refine bu (p:=.b false) (q:=.b false) (bP (vs:=[.l<|(q::r++[p]).map aE,.l<|now.map aD]) (H1:=H) (aJ (dD (p:=.l<|(q::r).map aE) (q:=.l [aE p]) (H1:=H) (pG (p:=.l<|(p::q::r).map aE) (q:=.i 1) (r:=.n) (H1:=H) (H2:=H) (bq kj) cL cL UV) (pG (p:=.l<|(p::q::r).map aE) (q:=.n) (r:=.i 1) (H1:=H) (H2:=H) (bq kj) cL cL V') ?_)<|aJ (bq v11) bA) ec2) cL rfl;have:=eR ho.len hS.le;simp only[List.length_cons]at this;refine rR (yP<|by simp only[List.length_map,List.length_cons,List.length_nil];exact Ut this)<|rR kB ?_;rfl
theorem aaa{T:bf->ak->Prop}{i p:Nat}(hn:o.Nodup)(hp:o[i]?=some p)(vX:ae[13]?=some (some<|.l<|o.map aE))(Pa:ae[15]?=some (some<|.i i))(Pb:ae[16]?=some (some<|.i p))(k:T ae H):
  Ok (aF (gam<|n+11) [.i (.a false [.m .n (.h "visual_of" [.v 13,.v 16])<|.v 15,.m .n (.h "logical_of" [.v 13,.v 15])<|.v 16]) [.r<|.c<|.b false] []] ae H) (Nx T):=
 bU (c:=!decide ((i:Int)=i)||!decide ((p:Int)=p)) (H':=H) (pB (bu (p:=.i i) (q:=.i i) (bP (aJ (bq vX)<|aJ (bq Pb) bA)<|T1 (n+10) hn hp _) (bq Pa) rfl) λU=>bu (p:=.i p) (q:=.i p) (bP (aJ (bq vX)<|aJ (bq Pa) bA)<|Uf (n+10) hp _) (bq Pb) rfl) (λh=>by rw[di rfl,di rfl]at h;exact nB h) λU=>cu k
theorem aab:(dU<|pc.map br).map (O8 now)=(d9 pc now).map br:=by rewrite[E2];refine rR i6 ?_;rewrite[d9];refine rR i6 ?_;refine m9 λi U=>?_;show PV.i (oh (gC pc i)<|lo now (i:Int).toNat)=_;rw[Int.toNat_natCast];rfl
theorem aac(hl:pc.length=now.length)(v11:ae[11]?=some (some<|.l<|now.map aD))(v17:ae[17]?=some (some<|bM pc))(hle:ae.length=22):
  az (gam<|n+11) (.D (.i (.a true [.m .i (.v 23)<|.t [.c<|.i 40,.c<|.i 41],.h "_law_is_odd" [.d (.v 11)<|.v 22]]) (.b .s (.c<|.i 81)<|.v 23)<|.v 23) true ["at","code"] .e [.v 17] []) ae H=some (.l<|(d9 pc now).map br,H):=by
 rw[No (f:=O8 now) (own:=vM) (vs:=[bM pc]) (H1:=H) (aJ (bq v17) bA) ji (λx hx=>?_) λx hx=>?_]
 ·exact rR aab rfl
 ·rw[E2]at hx;refine aC (bV.mp hx) λi U aT=>?_;clear hx;subst aT;rfl
 ·rw[E2]at hx;refine aC (bV.mp hx) λi hi aL=>?_;clear hx;subst aL;rw[jM]at hi;have v22:∀H,az (gam<|n+11) (.v 22) (ae++[some<|PV.i i,some<|.i<|gC pc i]) H=some (.i i,H):=λH=>kO (i:=0) hle rfl;have vY:∀H,az (gam<|n+11) (.v 23) (ae++[some<|PV.i i,some<|.i<|gC pc i]) H=some (.i<|gC pc i,H):=λH=>kO (i:=1) hle rfl;show az _ _ (ae++[some<|PV.i i,some<|.i<|gC pc i]) H=some (PV.i<|oh (gC pc i)<|lo now (i:Int).toNat,H);rw[Int.toNat_natCast];refine iB (c:=(decide (gC pc i=40)||decide (gC pc i=41))&&lT (lo now i)) (f_ (bu (p:=.i<|gC pc i) (q:=.t [.i 40,.i 41]) (vY _) rfl Wp) λU=>bP (aJ (e_idx (p:=.l<|now.map aD) (q:=.i i) (lO v11) (v22 _)<|dB<|lQ<|hl▸hi) bA)<|TT (n+10) _ _) (λh=>?_) λh=>?_
  ·unfold oh;refine rR (bw h) ?_;exact dD cL (vY _) rfl
  ·unfold oh;refine rR (bO<|by rw[h];exact gE) ?_;exact vY _
theorem aad{l:bk}(ho:∀x∈o,x<l.length)(kj:ae[14]?=some (some<|.l<|o.map aE))(v18:ae[18]?=some (some<|.l<|l.map br))(hle:ae.length=22):
  az (gam<|n+11) (.D (.d (.v 18)<|.v 22) false ["at"] .v [.v 14] []) ae H=some (.l<|(o.map aE).map<|gh<|l.map br,H):=
 nZ (l:=o.map aE) (bq kj) λx hx=>by refine aC (bV.mp hx) λj hj aM=>?_;clear hx;subst aM;exact e_idx (p:=.l<|l.map br) (q:=.i j) (lO v18) (kO (i:=0) hle rfl)<|zg<|by rw[bI];exact ho j hj
theorem aae{f g:Nat}(hS:ie now)(ho:eZ now o)(hfg:f<=g)(E3:g<=now.length)(v11:ae[11]?=some (some<|.l<|now.map aD))(E4:ae[19]?=some (some<|.i f))(v20:ae[20]?=some (some<|.i g))(hle:ae.length=22):
  az (gam<|n+11) (.D (.t [.d (.v 22)<|.c<|.i 0,.d (.v 22)<|.c<|.i 1]) false ["one"] .v [.h "selected" [.v 11,.v 19,.v 20]] []) ae H=some (.l<|(spans<|sortedZ<|(jo o f g).map Int.ofNat).map dQ,H):=by
 have:=nZ (Γ:=gam<|n+11) (e:=.t [.d (.v 22)<|.c<|.i 0,.d (.v 22)<|.c<|.i 1]) (nm:="one") (f:=id) (l:=(spans<|sortedZ<|(jo o f g).map Int.ofNat).map dQ) (H1:=H) (b:=.h "selected" [.v 11,.v 19,.v 20]) (H:=H) (ae:=ae)
  (bP (aJ (bq v11)<|aJ (bq E4)<|aJ (bq v20) bA)<|Tx (n+8) hS ho hfg E3 _) (λx hx=>by
   refine aC (bV.mp hx) λq U aP=>?_;clear hx;subst aP
   exact j7<|aJ (e_idx (p:=dQ q) (q:=.i 0) (kO (i:=0) hle rfl) cL sO)<|aJ (e_idx (p:=dQ q) (q:=.i 1) (kO (i:=0) hle rfl) cL sP) bA)
 rw[List.map_id]at this;exact this
theorem aaf{f g:Nat}:((dU<|o.map aE).filter<|O9 f g).map vL=((qT o f g).map Int.ofNat).map PV.i:=by
 rewrite[zM];refine rR List.filter_map<|rR i6<|rR i6 ?_
 unfold qT;rw[List.filter_congr (q:=λk=>decide (f<=o.getD k 0)&&decide (o.getD k 0<g)) λi U=>?_]
 ·rfl
 ·show(decide ((f:Int)<=(jK o i:Int))&&decide ((jK o i:Int)<(g:Int)))=_;congr 1
  ·exact rh.mpr bN
  ·exact rh.mpr oi
theorem aag{f g:Nat}(hn:o.Nodup)(jn:o.length<=20)(kj:ae[14]?=some (some<|.l<|o.map aE))(E4:ae[19]?=some (some<|.i f))(v20:ae[20]?=some (some<|.i g))(hle:ae.length=22):
  az (gam<|n+11) (.h "_law_spans" [.D (.v 22) true ["spot","at"] .e [.v 14] [.p .a .l (.v 19) (.v 23)<|.v 20]]) ae H=some (.l<|(spans<|sortedZ<|(jo o f g).map Int.ofNat).map dQ,H):=by
 have aah:((qT o f g).map Int.ofNat).length<=60:=by
  rw[bI];have:=List.length_filter_le (λk=>decide (f<=o.getD k 0)&&decide (o.getD k 0<g))<|List.range o.length
  rw[tQ]at this;exact eR this<|eR jn<|by decide
 refine bP (vs:=[.l<|((qT o f g).map Int.ofNat).map PV.i]) (H1:=H) (aJ ?_ bA)<|by(refine rR (Tm (n+10) aah _) ?_;rw[<-Ty hn])
 rw[OC (f:=vL) (t:=O9 f g) (own:=vM) (vs:=[.l<|o.map aE]) (H1:=H) (aJ (bq kj) bA) ji (λx hx=>?_) (λx hx=>?_) λx hx U=>?_]
 ·exact rR aaf rfl
 ·rw[zM]at hx;refine aC (bV.mp hx) λi U aN=>?_;clear hx;subst aN;rfl
 ·rw[zM]at hx;refine aC (bV.mp hx) λi U aQ=>?_;clear hx;subst aQ;show az _ _ (ae++[some<|PV.i i,some<|.i<|jK o i]) H=some (.b<|decide ((f:Int)<=(jK o i:Int))&&decide ((jK o i:Int)<(g:Int)),H);have vY:∀H,az (gam<|n+11) (.v 23) (ae++[some<|PV.i i,some<|.i<|jK o i]) H=some (.i<|jK o i,H):=λH=>kO (i:=1) hle rfl;refine rR MA<|rR (show az (gam<|n+11) (.v 19) (ae++[some<|PV.i i,some<|.i<|jK o i]) H=some (.i f,H)from lO E4) ?_
  simp only[Option.bind_some];rw[vY];simp only[Option.bind_some,MO];refine rR (show az (gam<|n+11) (.v 20) (ae++[some<|PV.i i,some<|.i<|jK o i]) H=some (.i g,H)from lO v20) ?_;cases decide ((f:Int)<=(jK o i:Int))<;>rfl
 ·rw[zM]at hx;refine aC (bV.mp hx) λi U aR=>?_;clear hx;subst aR;exact kO (i:=0) hle rfl
theorem aai{p q:PV}{H:ak}{l:au}(h:∀x∈l,∃m,x=.l m/\∀y∈m,simple 2 y=true):cE H .e (.l l) (.l l)=some true:=
 eq_self λx hx=>by refine aC (h x hx) λm aT hm=>?_;clear hx;subst aT;exact gj.mpr hm
end
def lrE(D C W L K T B S N O:PV)(a b c d e f g:bR):bf:=[some D,some C,some bB,some W,some L,some K,some T,some B,some S,some L,some K,some N,some N,some O,some O,a,b,c,d,e,f,g]
theorem aaj(n:Nat){cs:bk}{w:String}{lv now:bj}{base:Int}{a b d t:Nat}{cells pc:bk}{o ro:aG}{sh:Bool}{H:ak}{T:Res->Prop}(hlen:cs.length<=20)(hab:a<b)(hbn:b<=cs.length)(hd:H[d]?=some (cB cells t))(ht:t<=80)(hc:cells.length<=63)
  (hS:ie now)(ho:eZ now o)(lS:eZ (rlv<|gB now now.length) ro)(hpl:pc.length=now.length)(s9:pc.map br=((cs.map br).take b).drop a)(zJ:kT pc)
  (e1:∀H,gam (n+11) "" "line_levels" [.l<|lv.map aD,.l<|(aW cs).map bQ,.t [.i a,.i b],.i base] H=some (.l<|now.map aD,H))(e2:∀H,gam (n+11) "" "_law_reset" [.l<|lv.map aD,.l<|(aW cs).map bQ,.t [.i a,.i b],.i base] H=some (.l<|now.map aD,H))
  (e3:∀H,gam (n+11) "" "shown" [bM cs,bB,.s w,.t [.i a,.i b]] H=some (.l<|(o.map aE).map<|gh<|(d9 pc now).map br,H))(K:∀ae H',H'[d]?=some (cB cells<|t+2)->T (.r<|.b true,ae,H')):
  Ok (aF (gam<|n+11) BO [some<|.e d,some<|bM cs,some bB,some<|.s w,some<|.l<|lv.map aD,some<|.l<|(aW cs).map bQ,some<|.t [.i a,.i b],some<|.i base,some<|.b sh,none,none,none,none,none,none,none,none,none,none,none,none,none] H) T:=by
 have jn:=ho.len;have hnl:=hS.le;have E5:∀x∈o,x<(d9 pc now).length:=λx hx=>by(rewrite[vV];refine rR hpl ?_);exact ic<|ho.mem.mp hx
 unfold BO;refine kP (l:=[.l<|lv.map aD,.l<|(aW cs).map bQ]) (H1:=H) rfl rfl ?_;refine kP (l:=[.l<|now.map aD,.l<|now.map aD]) (H1:=H) (j7<|aJ (bP (vs:=[.l<|lv.map aD,.l<|(aW cs).map bQ,.t [.i a,.i b],.i base]) (H1:=H) rfl<|e1 _)<|aJ (bP (vs:=[.l<|lv.map aD,.l<|(aW cs).map bQ,.t [.i a,.i b],.i base]) (H1:=H) rfl<|e2 _) bA) rfl ?_;refine bU (c:=false) (H':=H) (bu (p:=.l<|now.map aD) (q:=.l<|now.map aD) rfl rfl<|ne_self<|EK _ _) nB λU=>?_;refine kP (l:=[.l<|o.map aE,.l<|o.map aE]) (H1:=H) (j7<|aJ (bP (vs:=[.l<|now.map aD]) (H1:=H) rfl<|zB (n+9) hS ho _)<|aJ (bP (vs:=[.l<|now.map aD]) (H1:=H) rfl<|NE (n+9) hS ho _) bA) rfl ?_
 let E:bR->bR->bR->bR->bR->bR->bR->bf:=lrE (.e d) (bM cs) (.s w) (.l<|lv.map aD) (.l<|(aW cs).map bQ) (.t [.i a,.i b]) (.i base) (.b sh) (.l<|now.map aD)<|.l<|o.map aE
 show Ok (aF (gam<|n+11) _ (E none none none none none none none) H) T;refine bU (c:=false) (H':=H) (X' hS ho lS rfl rfl rfl) nB λU=>?_;refine bU (c:=false) (H':=H) (ZB hS ho rfl rfl) nB λU=>?_;refine lK (λx y=>E x y none none none none none) (λU U U=>H) (λU U U=>True) none none (aJ rfl bA) rfl ji trivial (λi x y z hx U T k=>?_) λx y U=>?_
 ·(refine aC (j6 hx) λv hv aL=>?_;clear hx;subst aL)
  rw[cQ]at hv;refine aC (gV.mp hv) λp hp aM=>?_;clear hv;subst aM;exact aA _ rfl (aaa ho.nodup hp rfl rfl rfl<|k _ _ trivial)
 refine aZ (v:=bM pc) (H1:=H) (pG (p:=bM cs) (q:=.i a) (r:=.i b) (H1:=H) (H2:=H) rfl rfl rfl (by
  unfold bM
  exact rR (vG (Gf hlen hab hbn) (wX hlen hbn) (by rw[bI];exact uh hbn)<|gX hab)<|rR s9 rfl)) ?_
 refine aZ (v:=.l<|(d9 pc now).map br) (H1:=H) (aac hpl rfl rfl rfl) ?_;refine bU (c:=false) (H':=H) (bu (p:=.l<|(d9 pc now).map br) (q:=.l<|(d9 pc now).map br) (bP (vs:=[bM pc,.l<|now.map aD,bB]) (H1:=H) rfl<|OU (n+7) zJ (Uu hpl) (Uv hpl hnl) _) rfl<|ne_self<|O7 _ _) nB λU=>?_
 refine bU (c:=sh&&false) (H':=H) (f_ rfl λU=>bu (p:=.l<|(o.map aE).map<|gh<|(d9 pc now).map br) (q:=.l<|(o.map aE).map<|gh<|(d9 pc now).map br) (bP (vs:=[bM cs,bB,.s w,.t [.i a,.i b]]) (H1:=H) rfl<|e3 _) (aad E5 rfl rfl rfl)
  (ne_self<|W1 (λx hx=>kU (d9 pc now) x<|vB (by rw[bI];exact E5) hx) _)) (λh=>by rw[Bool.and_false]at h;exact nB h) λU=>?_
 show Ok (aF (gam<|n+11) _ (E x y (some<|bM pc) (some<|.l<|(d9 pc now).map br) none none none) H) T;clear e1 e2 e3 E5 s9 zJ;refine aC (pM (n+10) (k:=(now.length:Int)+1) hd (Uw ht) hc Ah) λr1 ez vZ=>?_;have hd1:(H.set d<|cB cells<|t+1)[d]?=some (cB cells<|t+1):=mX hd;refine aZ (v:=.i r1) (H1:=H.set d<|cB cells<|t+1) (bP (vs:=[.e d,.i<|(now.length:Int)+1]) (H1:=H) (aJ rfl<|aJ (dD (p:=.i (now.map aD).length) (q:=.i 1) (e_len rfl) rfl<|by rw[bI];rfl) bA) vZ) ?_;revert hd1;refine gen (H.set d<|cB cells<|t+1) λH1 hd1=>?_;refine aC (pM (n+10) (k:=(now.length:Int)+1-r1) hd1 (Ux ht) hc<|V6 ez) λr2 iS zN=>?_;have hd2:(H1.set d<|cB cells<|t+1+1)[d]?=some (cB cells<|t+1+1):=mX hd1;refine aZ (v:=.i<|r1+r2) (H1:=H1.set d<|cB cells<|t+1+1) (dD (p:=.i r1) (q:=.i r2) (H1:=H1) rfl (bP (vs:=[.e d,.i<|(now.length:Int)+1-r1]) (H1:=H1) (aJ rfl<|aJ (dD (p:=.i<|(now.length:Int)+1) (q:=.i r1) (H1:=H1) (dD (p:=.i (now.map aD).length) (q:=.i 1) (e_len rfl) rfl<|by rw[bI];rfl) rfl rfl) bA) zN) rfl) ?_;revert hd2;refine gen (H1.set d<|cB cells<|t+1+1) λH2 hd2=>?_;refine X1 (Int.eq_ofNat_of_zero_le ez.1) λf aP=>?_;clear vZ zN;subst aP;refine X1 (Int.eq_ofNat_of_zero_le<|Int.add_nonneg ez.1 iS.1) λg hg=>?_;refine rR hg ?_;have hfg:f<=g:=V7 iS hg;have E3:g<=now.length:=V8 iS hg;refine aZ (v:=.l<|(spans<|sortedZ<|(jo o f g).map Int.ofNat).map dQ) (H1:=H2) (aae hS ho hfg E3 rfl rfl rfl rfl) ?_;refine bU (c:=false) (H':=H2) (bu rfl (aag ho.nodup (eR jn hnl) rfl rfl rfl rfl)<|ne_self<|OX _) nB λU=>?_
 exact bX (v:=.b true) (H':=H2) (bu (p:=.l [.l<|lv.map aD,.l<|(aW cs).map bQ,.l<|now.map aD,.l<|o.map aE]) (q:=.l [.l<|lv.map aD,.l<|(aW cs).map bQ,.l<|now.map aD,.l<|o.map aE]) rfl rfl
  (aai (p:=.n) (q:=.n)<|mc (aA _ rfl (EK _ _))<|mc (aA _ rfl (WP _ _))<|mc (aA _ rfl (EK _ _))<|mc (aA _ rfl (vN _ _)) mz))<|K _ _ hd2
theorem aak(n:Nat){cs:bk}{w:String}{lv:bj}{base:Int}{a b d t:Nat}{cells:bk}{sh:Bool}{H:ak}(hw:isWord w)(X:vS cs w lv base)(hab:a<b)(hbn:b<=cs.length)(hd:H[d]?=some (cB cells t))(ht:t<=80)(hc:cells.length<=63):
  ∃H',gam (n+12) "" "_law_line_right" [.e d,bM cs,bB,.s w,.l<|lv.map aD,.l<|(aW cs).map bQ,.t [.i a,.i b],.i base,.b sh] H=some (.b true,H')/\H'[d]?=some (cB cells<|t+2):=by
 have L:mV cs lv a b:=⟨X.T,X.lk,hab,hbn⟩
 have hS:=OW L X.b;refine X1 (Ox hS) λo ho=>?_;refine X1 (Ox<|XV hS) λro lS=>?_;obtain⟨v,H',e,rfl,h'⟩:=nQ (n:=n+11) (c:="") (f:="_law_line_right") (ir:=IV) (args:=[.e d,bM cs,bB,.s w,.l<|lv.map aD,.l<|(aW cs).map bQ,.t [.i a,.i b],.i base,.b sh]) (vs:=[.e d,bM cs,bB,.s w,.l<|lv.map aD,.l<|(aW cs).map bQ,.t [.i a,.i b],.i base,.b sh]) (H:=H)
  (Q:=λv H'=>v=.b true/\H'[d]?=some (cB cells<|t+2)) (by kernel_rfl) rfl rfl rfl
  (aaj n X.T.le hab hbn hd ht hc hS ho lS (by(refine rR (EY hbn) ?_;rw[zH])) (by(rewrite[k6];exact rR List.map_drop<|rR List.map_take rfl)) (OV X.T.ok a b) (λH=>N1 (n+10) (base:=base) L H) (λH=>Ki (n+10) (base:=base) L H) (λH=>Tk n hw X L ho H) λae H' h=>⟨rfl,h⟩)
 exact aA H' e h'
theorem aal{Γ:b7}{a b:CE}{ae:bf}{H H1 H2:ak}{d:Bool}(ha:az Γ a ae H=some (.b true,H1))(hb:az Γ b ae H1=some (.b d,H2)):az Γ (.a true [a,b]) ae H=some (.b d,H2):=by
 refine rR pq<|rR hU<|rR ha ?_
 simp only[Option.bind_some,fZ,if_true];refine rR hU<|rR hb ?_
 simp only[Option.bind_some,fZ,nR];clear hb
 induction d using cP<;>rfl
theorem aam{Γ:b7}{a b:CE}{ae:bf}{H H1:ak}(ha:az Γ a ae H=some (.b false,H1)):az Γ (.a true [a,b]) ae H=some (.b false,H1):=by refine rR pq<|rR hU<|rR ha ?_;rfl
theorem aan{H:ak}{l:au}:ja H (.r l) .n (.i 24)=some (.l<|l.take 24):=by
 have e:rB H (.r l)=some l:=rfl;unfold ja;refine rR e ?_;simp only[Option.bind_some];refine rR (show(PV.i 24)=PV.i ((24:Nat):Int)from rfl)<|rR (vF Uy) ?_
 simp only[Option.bind_some,ny,Option.map_some,List.drop_zero];rcases Nat.le_total 24 l.length with h|h
 ·exact rR (oz h) rfl
 ·exact rR (Nat.min_eq_right h)<|rR m_<|rR (tU h) rfl
theorem Pc(n:Nat){cells:bk}{kk:Int}(hc:cells.length<=63)(hk:0<kk){step:PV->ak->Option (bR×ak)}(hs:∀x t r H',gam (n+1) "" "_law_draw" [.e 0,.i kk] [cB cells t,none]=some (.i r,H')->step x [cB cells t,none]=some (some<|.i r,H')):
  ∀(l:au)(t:Nat),t+l.length<=80->∃vs:bk,jT step l [cB cells t,none]=some (vs.map .i,[cB cells<|t+l.length,none])/\vs.length=l.length/\∀v∈vs,0<=v/\v<kk
 |[],t,_=>cM [] rfl rfl λU h=>nomatch h
 |x::l,t,ht=>by
  rw[i4]at ht;refine aC (pM n (H:=[cB cells t,none]) (d:=0) rfl (Uz ht) hc hk) λr hr e=>?_;refine c_ (Pc n hc hk hs l (t+1)<|UA ht) λvs e2 h1 h2=>?_;refine cM (r::vs) ?_ (by simp[h1]) λv hv=>?_
  ·simp only[jT];refine rR (hs x t r _ e) ?_;simp only[Option.bind_some];show(jT step l [cB cells<|t+1,none]).map _=_;refine rR e2 (rR i4<|rR (show t+(l.length+1)=t+1+l.length from Aa) ?_);rfl
  ·clear e;rcases eO.mp hv with rfl|hv
   ·exact hr
   ·exact h2 v hv
theorem aao(ns:bk)(n:Nat):fz (n+1) (.r<|ns.map .i)=true:=by refine gj.mpr λx hx=>?_;refine aC (bV.mp hx) λi U aN=>?_;clear hx;subst aN;exact vg
theorem aap{l r:au}(h:l.length=r.length):fb .n [.l l,.l r]=some (dU<|gZ l r):=by show(if l.length=r.length then some (dU<|gZ l r)else none)=_;exact rR (bw h) rfl
def v_(ns:bk)(w:String)(a b c d e f g h i j:bR):bf:=[some<|.r<|ns.map .i,some<|.l<|KS.map .s,some<|.e 0,some bB,some<|.s w,a,b,c,d,e,f,g,h,i,j]
theorem aaq{r:Int}(h:0<=r/\r<18):j9 (if r<16 then 65+r else 24+r):=by unfold j9;split<;>(first|lia|omega)
theorem aar{cs:bk}{c:Int}(h:kT cs)(hc:j9 c):kT (cs++[c]):=λx hx=>by
 rcases dR.mp hx with hx|hx
 ·exact h x hx
 ·refine rR (dO.mp hx) ?_;exact hc
theorem aas{r:Int}{H:ak}(h:0<=r/\r<3):∃w,isWord w/\gH H (.l [.s "rtl",.s "ltr",.s "auto"]) (.i r)=some (.s w):=by
 have h3:r=0\/r=1\/r=2:=VG h;clear h;rcases h3 with rfl|rfl|rfl
 ·exact aA ("rtl") (.inl rfl)<|dB (k:=0) rfl
 ·exact aA ("ltr") (.inr<|.inl rfl)<|dB (k:=1) rfl
 ·exact aA ("auto") (.inr<|.inr rfl)<|dB (k:=2) rfl
section
variable {Γ:b7}{ae:bf}{H H1 H2:ak}{cs:bk}
theorem aat{elt:CE}{x:String}{k:IK}{bZ:List CE}{vs items l:au}(hes:cX Γ bZ ae H=some (vs,H1))(hi:fb k vs=some items)(hc:jT (λx h=>(az Γ elt (ae++[some x]) h).map λv=>(some v.1,v.2)) items H1=some (l,H2)):az Γ (.D elt false [x] k bZ []) ae H=some (.l l,H2):=by
 refine rR sM<|rR hes ?_
 show(fb k vs).bind _=_;refine rR hi ?_;exact(congrArg (Option.map λq=>(PV.l q.1,q.2)) hc:)
theorem aau{x:Option AO}(h:ae[5]?=some (some<|.e 1)):iy Γ (.z 5) ae [x,some<|.l<|cs.map br]=some (.n,ae.set 5<|some<|bM cs,[x,none]):=by show(ae[5]?).bind _=_;refine rR h ?_;show Option.map _ (if(cs.map br).all (fz 4)=true then some (PV.l<|cs.map br,[x,none])else none)=_;refine rR (bw (gj.mpr λx hx=>dj<|.inr<|.inr<|.inl<|kU cs x hx)) ?_;rfl
theorem law_code{r:Int}(h:ae[7]?=some (some<|.i r)):az Γ (.i (.m .l (.v 7)<|.c<|.i 16) (.b .a (.c<|.i 65)<|.v 7)<|.b .a (.c<|.i 24)<|.v 7) ae H=some (.i (if r<16 then 65+r else 24+r),H):=
 iB (c:=decide<|r<16) (bu (p:=.i r) (q:=.i 16) (bq h) cL rfl) (λq=>by refine rR (bw<|cG q) ?_;exact dD cL (bq h) rfl) (λq=>by refine rR (bO<|lW q) ?_;exact dD cL (bq h) rfl)
theorem aav{c:Int}(h:j9 c)(hc:64<c):gH H (.l<|KS.map .s) (.i<|c-65)=some (.s<|kindOf c):=by
 have hb:c<=80:=by unfold j9 at h;exact VH h
 have hl:(c-65).toNat<KS.length:=by show _<16;exact GQ hb
 refine MS (VI hc) ?_;unfold kindOf;rw[bw hc,cQ,eE hl,fV,eE hl];rfl
theorem aaw(h1:kT cs)(h:ae[1]?=some (some<|.l<|KS.map .s))(h5:ae[5]?=some (some<|bM cs))(hl:ae.length=15):
  az Γ (.D (.i (.m .g (.v 15)<|.c<|.i 64) (.d (.v 1)<|.b .s (.v 15)<|.c<|.i 65)<|.c<|.s "ON") false ["code"] .v [.v 5] []) ae H=some (.l<|(aW cs).map bQ,H):=by
 have e:(aW cs).map bQ=(cs.map br).map (λx=>match x with|.i c=>PV.s (kindOf c)|x=>x):=by simp only[aW,List.map_map];rfl
 refine rR e ?_;refine nZ (l:=cs.map br) (bq h5) λx hx=>?_;refine aC (bV.mp hx) λc CI aQ=>?_;clear hx;subst aQ;have hv:az Γ (.v 15) (ae++[some<|br c]) H=some (.i c,H):=bq<|by rw[ku<|cj hl,hl];rfl
 refine iB (c:=decide<|64<c) (bu (p:=.i c) (q:=.i 64) hv cL rfl) (λq=>?_) λq=>?_
 ·exact e_idx (p:=.l<|KS.map .s) (q:=.i<|c-65) (lO h) (dD hv cL rfl)<|aav (h1 c CI)<|cG q
 ·show some (PV.s "ON",H)=some (PV.s<|kindOf c,H);unfold kindOf;exact rR (bO<|lW q) rfl
theorem aax(n:Nat){cells:bk}{t0:Nat}(hc:cells.length<=63)(h2:ae[2]?=some (some<|.e 0))(h5:ae[5]?=some (some<|bM cs))(ht:t0<=11):
  ∃vs:bk,vs.length<=2/\(∀v∈vs,0<=v/\v<=cs.length)/\∃t1,t1<=14/\az (gam<|n+12) (.D (.h "_law_draw" [.v 2,.b .a (.k .l [.v 5])<|.c<|.i 1]) false ["k"] .r [.h "_law_draw" [.v 2,.c<|.i 3]] []) ae [cB cells t0,none]=some (.l<|vs.map .i,[cB cells t1,none]):=by
 refine aC (pM (n+11) (k:=3) (d:=0) (H:=[cB cells t0,none]) rfl (UB ht) hc<|by decide) λr hr er=>?_;have hl:(fk 0 r).length<=2:=by rw[qC];exact VJ hr
 obtain⟨vs,ev,wc,zO⟩:=Pc (n+11) (cells:=cells) (kk:=(cs.length:Int)+1) hc Ah (step:=λx h=>(az (gam<|n+12) (.h "_law_draw" [.v 2,.b .a (.k .l [.v 5])<|.c<|.i 1]) (ae++[some x]) h).map λv=>(some v.1,v.2))
  (λx t r H' hg=>by
   refine rR (bP (aJ (lO h2)<|aJ (dD (p:=.i (cs.map br).length) (q:=.i 1) (e_len<|lO h5) cL<|by rw[bI];rfl) bA) hg) ?_;rfl) (fk 0 r) (t0+1) (UC ht hl)
 exact PJ vs (UD hl wc) (λv hv=>by have:=zO v hv;exact V9 this) _ (UE ht hl) (aat (aJ (bP (aJ (bq h2)<|aJ cL bA) er) bA) (yV (VK hr)<|VL hr) ev)
theorem aay{N:Nat}{cuts:bk}{i:Nat}{p q:PV}(mH:∀v∈cuts,0<=v/\v<=N)(hp:([PV.i 0]++cuts.map .i)[i]?=some p)(hq:(cuts.map .i++[PV.i N])[i]?=some q):∃a b:Nat,p=.i a/\q=.i b/\a<=N/\b<=N:=by
 have at_:∀{x:PV},x∈cuts.map PV.i->∃a:Nat,x=.i a/\a<=N:=λ{x} hx=>by refine aC (bV.mp hx) λc hc aR=>?_;clear hx;subst aR;have:=mH c hc;exact aA c.toNat (by exact rR (Int.toNat_of_nonneg this.1) rfl)<|V_ this
 have h1:∃a:Nat,p=.i a/\a<=N:=(dR.mp<|dY hp).elim (λh=>aA 0 (dO.mp h)<|iF _) at_;have h2:∃b:Nat,q=.i b/\b<=N:=(dR.mp<|dY hq).elim at_ λh=>aA N (dO.mp h)<|bY _
 refine aC h1 λa ea ha=>?_;refine aC h2 λb eb hb=>?_;exact fy a b ea eb ha hb
theorem aaz(n:Nat){cells:bk}{w:String}{lv:bj}{base r4:Int}{a b i t:Nat}{T:bf->ak->Prop}(hw:isWord w)(X:vS cs w lv base)(ha:a<=cs.length)(hb:b<=cs.length)(hc:cells.length<=63)(hd:H[0]?=some (cB cells t))(ht:t<=80)
  (kj:ae[14]?=some (some<|.t [.i a,.i b]))(hv:∀H,cX (gam<|n+12) [.v 2,.v 5,.v 3,.v 4,.v 9,.v 8,.v 14,.v 10,.m .e (.v 6)<|.v 13] ae H=some ([.e 0,bM cs,bB,.s w,.l<|lv.map aD,.l<|(aW cs).map bQ,.t [.i a,.i b],.i base,.b<|decide<|(i:Int)=r4],H))
  (K:∀t' H',t'<=t+2->H'[0]?=some (cB cells t')->T ae H'):Ok (aF (gam<|n+12) [.i (.a true [.m .l (.d (.v 14)<|.c<|.i 0)<|.d (.v 14)<|.c<|.i 1,.o<|.h "_law_line_right" [.v 2,.v 5,.v 3,.v 4,.v 9,.v 8,.v 14,.v 10,.m .e (.v 6)<|.v 13]])
   [.r<|.c<|.b false] []] ae H) (Nx T):=by
 have hlt:az (gam<|n+12) (.m .l (.d (.v 14)<|.c<|.i 0)<|.d (.v 14)<|.c<|.i 1) ae H=some (.b<|decide<|(a:Int)<b,H):=
  bu (p:=.i a) (q:=.i b) (e_idx (p:=.t [.i a,.i b]) (q:=.i 0) (bq kj) cL sO) (e_idx (p:=.t [.i a,.i b]) (q:=.i 1) (bq kj) cL sP) rfl
 by_cases hab:a<b
 ·rw[di<|oi.mpr hab]at hlt;refine aC (aak n (sh:=decide<|(i:Int)=r4) hw X hab hb hd ht hc) λH2 eH2 hd2=>?_;exact bU (c:=false) (H':=H2) (aal hlt<|M3 (c:=true)<|bP (hv H) eH2) nB λU=>cu<|K _ _ (bY _) hd2
 ·rw[dG λh=>hab<|oi.mp h]at hlt;exact bU (c:=false) (H':=H) (aam hlt) nB λU=>cu<|K _ _ (jt _ _) hd
end
theorem aaA(n:Nat)(ns:bk)(hn:ns.length<=63)(H:ak):gam (n+13) "" "law" [.r<|ns.map .i] H=some (.b true,H):=by
 refine qA (n:=n+12) (ir:=IX) (vs:=[.r<|ns.map .i]) (by kernel_rfl) rfl rfl rfl (by simp only[List.all_cons,List.all_nil,Bool.and_true,aao]) λT K=>?_;show Ok (aF (gam<|n+12) BQ [some<|.r<|ns.map .i,none,none,none,none,none,none,none,none,none,none,none,none,none,none] []) T;unfold BQ;refine aZ (v:=.l<|KS.map .s) (H1:=[]) rfl ?_;have hc:(ns.take 24).length<=63:=eR (List.length_take_le' _ _) hn
 refine kP (l:=[.e 0,bB]) (H1:=[cB (ns.take 24) 0]) (j7 (aJ (p:=.e 0) (H1:=[cB (ns.take 24) 0]) (by
  rw[yL,aJ (p:=.l<|(ns.take 24).map br) (H1:=[]) (s_ (aJ (p:=.l<|(ns.take 24).map br) (H1:=[]) (pG (p:=.r<|ns.map .i) (q:=.n) (r:=.i 24) (H1:=[]) (H2:=[]) rfl rfl rfl (by
   refine rR aan<|rL List.map_take ?_;rfl)) bA) rfl)<|aJ (p:=.i 0) (H1:=[]) rfl bA]
  rfl)<|aJ (bP (vs:=[.l<|KS.map .s]) (H1:=[cB (ns.take 24) 0]) rfl<|ww n _) bA)) rfl ?_
 revert hc;refine gen (P:=λcells=>cells.length<=63->Ok (aF (gam<|n+12) _ _ [cB cells 0]) T) (ns.take 24) λcells hc=>?_;refine aC (pM (n+11) (k:=3) (d:=0) (H:=[cB cells 0]) rfl UG hc<|by decide) λr0 hr0 Pd=>?_;refine aC (aas (H:=[cB cells 1]) hr0) λw hw hwi=>?_;refine kP (l:=[.s w,.e 1]) (H1:=[cB cells 1,some<|.l []]) (j7<|aJ (e_idx (p:=.l [.s "rtl",.s "ltr",.s "auto"]) (q:=.i r0) (H1:=[cB cells 0]) (H2:=[cB cells 1]) rfl (bP (vs:=[.e 0,.i 3]) (H1:=[cB cells 0]) rfl Pd) hwi)<|aJ Ey bA) rfl ?_;show Ok (aF (gam<|n+12) _ (v_ ns w (some<|.e 1) none none none none none none none none none) _) T;refine aC (pM (n+11) (k:=9) (d:=0) (H:=[cB cells 1,some<|.l []]) rfl UH hc<|by decide) λr1 ez vZ=>?_;refine sJ (λ(cs:bk) a b=>v_ ns w (some<|.e 1) a b none none none none none none none) (λi cs U U=>[cB cells<|2+i,some<|.l<|cs.map br]) (λi cs U U=>kT cs/\cs.length=i) [] none none
  (aJ (dD (p:=.i 1) (q:=.i r1) (H1:=[cB cells 1,some<|.l []]) rfl (bP (vs:=[.e 0,.i 9]) (H1:=[cB cells 1,some<|.l []]) rfl vZ) rfl) bA) rfl (yV (VM ez)<|VN ez) ⟨nofun,rfl⟩ (λi x cs a b hx hj T k=>?_) (λcs a b hj=>?_)
 ·have hlt:=cH hx;rw[qC]at hlt;refine U1 (sQ hx) λaT U=>?_;clear hx;subst aT;refine aC (pM (n+11) (k:=18) (d:=0) (H:=[cB cells<|2+i,some<|.l<|cs.map br]) rfl (by(first|lia|omega)) hc<|by decide) λr2 iS zN=>?_;refine aA _ rfl (aZ (v:=.i r2) (H1:=[cB cells<|2+i+1,some<|.l<|cs.map br]) (bP (vs:=[.e 0,.i 18]) (H1:=[cB cells<|2+i,some<|.l<|cs.map br]) rfl zN) ?_);refine eW (m:=1) (l1:=cs.map br) (l2:=cs.map br) (v:=.i (if r2<16 then 65+r2 else 24+r2)) (H1:=[cB cells<|2+i+1,some<|.l<|cs.map br]) (H2:=[cB cells<|2+i+1,some<|.l<|cs.map br]) rfl rfl (law_code rfl) rfl (by rw[bI];(first|lia|omega))<|cu ?_
  have:=k (cs++[if r2<16 then 65+r2 else 24+r2]) (some<|.i<|0+i) (some<|.i r2) ⟨aar hj.1<|aaq iS,by refine rR gF<|rR hj.2 ?_;rfl⟩
  rwa[kB]at this
 refine U1 hj λh1 h2=>?_;have hN:cs.length<=9/\0<cs.length:=by(refine rR h2 ?_;rewrite[qC]);exact VO ez
 have zP:2+(fk 0<|1+r1).length<=11:=by(first|lia|omega)
 revert zP;refine gen (P:=λt0=>t0<=11->Ok (aF (gam<|n+12) _ _ [cB cells t0,some<|.l<|cs.map br]) T) (2+(fk 0<|1+r1).length) λt0 zP=>?_;refine X2 (SC ⟨h1,UI hN,UJ hN⟩ hw) λlv base X=>?_;clear h2 hr0 Pd hwi ez vZ;refine nP (aau rfl) ?_;refine aZ (v:=.l<|(aW cs).map bQ) (H1:=[cB cells t0,none]) (aaw h1 rfl rfl rfl) ?_;refine kP (l:=[.l<|lv.map aD,.i base,bM cs]) (H1:=[cB cells t0,none]) (j7<|aJ (bP (vs:=[bM cs,bB,.s w]) (H1:=[cB cells t0,none]) rfl<|X.OT (n+3) _)<|aJ (bP (vs:=[bM cs,bB,.s w]) (H1:=[cB cells t0,none]) rfl<|X.bE (n+7) _)<|aJ (s_ (aJ (p:=bM cs) (H1:=[cB cells t0,none]) rfl bA) rfl) bA) rfl ?_;refine Py (aax n (cs:=cs) (ae:=v_ ns w (some<|bM cs) a b (some<|.l<|(aW cs).map bQ) (some<|.l<|lv.map aD) (some<|.i base) (some<|bM cs) none none none) hc rfl rfl zP) λvs wc zO t1 Pe ev=>?_;have hsl:(sortedZ vs).length<=2:=by refine rR ((qP vs).length_eq) ?_;exact wc
 have mH:∀v∈sortedZ vs,0<=v/\v<=cs.length:=λv hv=>zO v<|(qP vs).mem_iff.mp hv
 refine aZ (v:=.l<|(sortedZ vs).map .i) (H1:=[cB cells t1,none]) (s_ (vs:=[.l<|vs.map .i]) (H1:=[cB cells t1,none]) (aJ ev bA)<|vJ<|UK wc) ?_;show Ok (aF (gam<|n+12) _ ((v_ ns w (some<|bM cs) a b (some<|.l<|(aW cs).map bQ) (some<|.l<|lv.map aD) (some<|.i base) (some<|bM cs) none none none).set 12<|some<|.l<|(sortedZ vs).map .i) _) T;revert hsl mH;refine gen (sortedZ vs) λcuts hsl mH=>?_;clear ev zO wc zP;refine aC (pM (n+11) (k:=(cuts.length:Int)+1) (d:=0) (H:=[cB cells t1,none]) rfl (UL Pe) hc Ah) λr4 hr4 er4=>?_;refine aZ (v:=.i r4) (H1:=[cB cells<|t1+1,none]) (bP (vs:=[.e 0,.i<|(cuts.length:Int)+1]) (H1:=[cB cells t1,none]) (aJ rfl<|aJ (dD (p:=.i (cuts.map PV.i).length) (q:=.i 1) (e_len rfl) rfl<|by rw[bI];rfl) bA) er4) ?_;refine sJ (λ(U:ak) a j=>v_ ns w (some<|bM cs) a b (some<|.l<|(aW cs).map bQ) (some<|.l<|lv.map aD) (some<|.i base) (some<|bM cs) (some<|.l<|cuts.map .i) (some<|.i r4) j) (λi H U U=>H) (λi H U U=>∃t,t<=t1+1+2*i/\H[0]?=some (cB cells t)) [cB cells<|t1+1,none] a none
  (aJ (dD (p:=.l [.i 0]) (q:=.l<|cuts.map .i) (H1:=[cB cells<|t1+1,none]) rfl rfl<|yP<|by rw[bI];exact eR (Nat.add_le_add_left hsl 1)<|by decide)<|aJ (dD (p:=.l<|cuts.map .i) (q:=.l [.i (cs.map br).length]) (H1:=[cB cells<|t1+1,none]) rfl (M9<|aJ (e_len rfl) bA)<|yP<|by rw[bI];exact eR (Nat.add_le_add_right hsl 1)<|by decide) bA) rfl (aap<|by refine rR gF<|rR gF ?_;exact Nat.add_comm _ _) (aA _ (bY _) rfl) (λi x H a j hx hj T k=>?_) (λH a j hj=>?_)
 ·refine aC hj λt ht hd=>?_;refine aC (j6 hx) λv hv aL=>?_;subst aL;refine d_ (zip_get hv) λp q hp hq aM=>?_;subst aM;have hi:=cH hp;rw[gF,bI]at hi;rw[bI]at hq;refine eJ (aay mH hp hq) λa b aP aN ha hb=>?_;clear hp;clear hv hx;subst aP;clear hq;subst aN;have hi:i<=2:=by simp only[List.length_singleton]at hi;exact UM hsl hi
  exact aA _ rfl (aaz n (i:=i) (r4:=r4) hw X ha hb hc hd (UN Pe ht hi) rfl (λH=>rfl) λt' H' ht' hd'=>k H' _ _ (aA t' (UO ht ht') hd'))
 ·exact bX (v:=.b true) (H':=H) (bu (p:=bM cs) (q:=bM cs) rfl rfl<|eq_self<|O7 _ _)<|K _ _ _ rfl
theorem aaH(ns:bk)(hn:ns.length<=63):∃H',gam 40 "" "law" [.r<|ns.map .i] []=some (.b true,H'):=⟨[],aaA 27 ns hn []⟩
noncomputable def Xo(w:World)(h:Heap)(K:Frag):Cx:=⟨rr.prog,w,K,h⟩
noncomputable def lE:Cf:={ρ:=[],O:=λ_=>False,H:=[]}
theorem aaB:Mh=true:=by decide+kernel
theorem aaC{w:World}{s₁:Shared}{K:Frag}{fa la:Addr}{vs:List Value}{ns:List Int}{p:Program}{loose:List Str}{mg mb:Str->Option Value}(KX:K.In s₁.heap)(hB:allB K=true)(T:TopRead p loose mg mb s₁.heap)(hmg:mg (Sx "law")=some (.ref fa))
  (hl:s₁.heap.IsList la vs.toArray)(hI:IntsAre vs ns)(hn:ns.length<=63){H':ak}(hg:gam 40 "" "law" [.r<|ns.map .i] []=some (.b true,H')){E:Value->Shared->Prop}:
  wpAny (model rr.prog w) callerA (call (.ref fa) [.ref la]) (λv s'=>v=.bool true/\(∀b o,s₁.heap.get? b=some o->s'.heap.get? b=some o)/\∃h t,s'={s₁ with heap:=h,toks:=t}) E s₁:=by
 obtain⟨b1,b2,b3,b4⟩:=oD hB;have T0:eK (Xo w s₁.heap K):=⟨KX,T.nolimit,p,loose,mg,mb,T⟩
 have Gd:eA (Xo w s₁.heap K):=oo T0 b2 b3 b4;obtain⟨fv,e1,_,hF⟩:=(Mi Gd aaB b1 40).fn "law" _ _ _ hg;have e2:=mg_of KX T.g e1;rw[hmg]at e2;obtain rfl:=Option.some.inj e2;have S:aU (Xo w s₁.heap K) lE s₁.heap:=⟨rfl,λn ao q e=>by simp[lE]at e,λb h=>by obtain⟨n,ao,q,e,_⟩:=h;simp[lE]at e,λn m ao bo q u e=>by simp[lE]at e,λb h=>h.elim,λb o e=>⟨e,λh=>h⟩⟩
 have len:vs.length=ns.length:=hI.length;have r:aO (Xo w s₁.heap K) lE s₁.heap [.r<|ns.map .i] [.ref la]:=aO.fD (show kI _ _ _ _ from⟨la,vs.toArray,rfl,λh=>h,hl,by rw[List.size_toArray,len];omega,Cg hI⟩) aO.gk;refine wpAny_mono (hF callerA lE s₁ E [.ref la] ⟨rfl,by decide,by decide⟩ rfl S r) (λv s' y=>?_) λ_ _ y=>y;obtain⟨aI,st,S',pv,rv,rfl,_⟩:=y;have hv:v=.bool true:=rv;exact⟨hv,λb o e=>st.keep b o (λh=>by obtain⟨n,ao,q,e,_⟩:=h;simp[lE]at e) e,st.same⟩
set_option tactic.hygienic true in
theorem aaI(aaD:∀ns:List Int,ns.length<=63->∃H',gam 40 "" "law" [.r<|ns.map .i] []=some (.b true,H')):PySem.Challenge.rw_nt0078_01.Holds:=by
 refine holds_law Pk λsaid=>?_;refine holds_open (q:=q0) (loose:=tG) (Xt:=wg) (XP:=XL q0 []) (Yf:=HK.obs) (Ya:=HK.val) (YP:=HK.says) (N:=5000) pj HK.of HK.keeps (λs e=>xl_of s (Bool.and_eq_true_iff.mp e).1) XL.keeps Pn (by kernel_rfl) (by kernel_rfl) (λs e=>recFacts_of (Bool.and_eq_true_iff.mp e).2) (by rfl) said (by decide+kernel) ⟨rfl,rfl,rfl,rfl,rfl,by decide+kernel⟩ ?hw ?hc
 case hw=>w_witness2
 intro w s₀ s₁ mg mb G Y fa o pm cd doc dV kV ho hd hcd hD hmg hg args vals as hpre hlay hrd hwl hlo;obtain⟨K,KX,hB⟩:=Y;clear hD;refine Ground.open G ?_;intro T B D TE TW;clear B D TE TW
 wrow_args hpre hlay hrd hwl hlo
 rename_i ns _ _ _ _ _ _ _ la vs _ hL _ _ _ hI _ hn _;obtain⟨H',hg2⟩:=aaD ns<|by omega
 refine wpAny_mono (aaC KX hB (topRead_of T) hmg hL hI (by omega) hg2) (λv s' y=>?_) λ_ _ y=>y;obtain⟨rfl,hk,h,t,rfl⟩:=y;refine GoodW.toG ⟨.inl ⟨_,.bool true,[],rfl,?_,.bool true,?_,?_⟩,hk,rfl,hg⟩
 ·exact raisesW_false λ_ h=>nomatch h
 ·exact postW_of (by rfl) (by rfl) (by first|w_fin|simp[same]|decide+kernel)
 ·intro _;exact⟨List.nodup_nil,λ_ h=>by cases h⟩
end Mine
theorem PySem.Challenge.cw_nt0078_01_holds : PySem.Challenge.rw_nt0078_01.Holds :=
 Mine.aaI Mine.aaH
