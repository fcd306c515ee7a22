import PyProof.Rows.All
import KE.KNest
import KE.KIsAll
import KE.KTypeOf
import KE.KIntText
import PyProof.StrCalls
import PyProof.TypeOfCall
import KE.KTryMore
import PyProof.AttrMissHeap
import PyProof.ZipIter
import PyProof.TableCode
import PyProof.DefCall
import PyProof.ExcBaseAll.Exception
import PyProof.InstStoreFacts
import KE.KNestM
import Lean
import PySem.Challenge.RW_sx_r136_3
set_option Elab.async false
set_option autoImplicit false
set_option maxRecDepth 100000
set_option maxHeartbeats 0
set_option genSizeOf false
set_option genInjectivity false
set_option linter.all false
set_option tactic.hygienic false
noncomputable section
section
open PySem PySem.W PyProof.Rows
namespace MineH
abbrev pr:Program:=PySem.Challenge.pw_sx_r136_3
def z0:Pos:={line:=0,col:=0,endLine:=0,endCol:=0}
def envT:Env:={scope:=pr.main.scope,locals:=mainNs,globals:=mainNs,cells:=[],code:=.ref 13,frame:=some 14}
def cT:Code:=.body (behindTheImports pr) envT
def s0(w:World)(os:OsState):Shared:=⟨boot_heap w.params,Array.mk [],boot_drawn,boot_toks,os⟩
def an:Option Value:=some (.ref 6)
def toT:List Obj->BT->Nat->Option (BT×Nat)
 |[],T,n=>some (T,n)
 |o::l,T,n=>match((T.ins n o).get n).isSome with
  |true=>toT l (T.ins n o) (n+1)
  |false=>none
theorem toT_ok{life:Life}:∀(l:List Obj) (T:BT) (n:Nat) (T':BT) (n':Nat),toT l T n=some (T',n')->absHeap T' n' life=⟨(absHeap T n life).objs++l.toArray,life⟩
 |[],T,n,T',n',h=>by cases h;show Heap.mk _ _=_;rw[show([]:List Obj).toArray= #[] from rfl,Array.append_empty];rfl
 |o::l,T,n,T',n',h=>by
  unfold toT at h;cases hs:((T.ins n o).get n).isSome with
  |false=>rw[hs] at h;cases h
  |true=>
   rw[hs] at h;rw[toT_ok l _ _ _ _ h,absHeap_ins hs];show Heap.mk _ _=Heap.mk _ _
   congr 1
   show(Array.push _ o)++l.toArray=_;rw[<-Array.toList_inj];simp[absHeap]
@[irreducible] def SA (w:World) (os:OsState):Shared:=match topGo treeTable pr w 11 an 12 (s0 w os) (topStub pr) with
 |some (s,_)=>s
 |none=>s0 w os
@[irreducible] def TB (w:World) (os:OsState):BT×Nat:=match toT (SA w os).heap.objs.toList .nil 0 with
 |some x=>x
 |none=>(.nil,0)
def SB(w:World)(os:OsState):SharedT:=⟨(TB w os).1,(TB w os).2,(SA w os).heap.life,(SA w os).gens,(SA w os).drawn,(SA w os).toks,(SA w os).os⟩
def keepL:List Nat:=[1,2,3,4,5,6,7,8,9,10,11,12,13,14,15,16,18,19,20,21,22,23,24,25,26,27,28,29,30,31,32,33]
def qv:Program:=view pr keepL
def loose:List PySem.Str:=[Str.ofString "_Home"]
def Xt(s:Shared):Bool:=xlAt qv [] s&&recOk [] s
def thr:Thread:=piecesOf (behindTheImports pr) envT cT z0 [topFrame z0]
def fin(w:World)(s:SharedT)(p:Pos):Option Shared:=topRun treeTable pr w 11 an 3 s.abs ⟨doneF .next,cT,p,[topFrame z0]⟩
def looks(w:World)(s:Shared):=(staticsOk (importedModules pr.main.body) (boot_heap w.params) s.heap&&namesBound pr s.heap&&gensDone s&&laidKept (boot_heap w.params) s.heap,openSeen qv loose (importedModules pr.main.body) Xt true s)
def Big{α:Type}(g:World->Shared->α)(a:α):Prop:=∀w os,((segRunT treeTable pr w 11 an 1 3400 (SB w os) thr).map λr=>(r.1,r.2.2.1,(fin w r.2.1 r.2.2.2).map (g w)))=some (.next,cT,some a)
theorem bigL:Big looks (true,openGood qv loose):=by intro w os;delta fin looks;rw[PySem.W.Fast.te10110043849684766642,PySem.W.Fast.te14364793385576792824,PySem.W.Fast.te14082659384304107361,PySem.W.Fast.te4187177175401517315];kernel_rfl
theorem pre:∀w os,topGo treeTable pr w 11 an 12 (s0 w os) (topStub pr)=some (SA w os,⟨denote treeTable cT,cT,z0,[topFrame z0]⟩):=λw os=>by kernel_rfl
theorem block:∀w os,segRun treeTable pr w 11 an 1 1 (SA w os) (blockOf (behindTheImports pr) envT cT z0 [topFrame z0])=some (.next,SA w os,cT,z0):=λw os=>by kernel_rfl
theorem size0:∀w:PySem.World,((boot_heap w.params).isNs mainGlobals&&(Array.mk []:Array GenState).size==0,(boot_heap w.params).objs.size,(boot_heap w.params).nsMap mainGlobals "__annotations__")=(true,11,an):=λw=>by kernel_rfl
theorem toT_some:∀w os,toT (SA w os).heap.objs.toList .nil 0=some ((TB w os).1,(TB w os).2):=λw os=>by kernel_rfl
theorem open0:∀w:PySem.World,(fencedOpening treeTable pr w 6636).map (λs=>(s.heap,s.gens,s.drawn,s.toks))=some (boot_heap w.params,Array.mk [],boot_drawn,boot_toks):=
 boot_open (by kernel_rfl) (by decide+kernel) (λs=>by kernel_rfl)
theorem key:∀s:Shared,(⟨⟨s.heap.objs.toList.toArray,s.heap.life⟩,s.gens,s.drawn,s.toks,s.os⟩:Shared)=s
 |⟨⟨⟨_⟩,_⟩,_,_,_,_⟩=>rfl
theorem SB_abs(w:World)(os:OsState):(SB w os).abs=SA w os:=by have h:=toT_ok (life:=(SA w os).heap.life) _ _ _ _ _ (toT_some w os);show Shared.mk (absHeap (TB w os).1 (TB w os).2 (SA w os).heap.life) _ _ _ _=_;rw[h];rw[show(absHeap .nil 0 (SA w os).heap.life).objs= #[] from rfl,Array.empty_append];exact key (SA w os)
theorem map_pair{σ α β:Type}{o:Option σ}{s:σ}{f:σ->α}{g:σ->β}{a:α}{b:β}(h:o=some s)(h1:f s=a)(h2:g s=b):o.map (λs=>(f s,g s))=some (a,b):=by subst h;exact congrArg some (Prod.ext h1 h2)
theorem left{α:Type}{Yf:Shared->α}{ya:α}(big:Big (λw s=>Yf s) ya):LeftO pr qv loose Xt Yf (λuu=>ya) 6636:=λw=>by
 obtain⟨⟨h,gs,d,k,os⟩,e,e'⟩:=Option.map_eq_some_iff.mp (open0 w);obtain⟨rfl,rfl,rfl,rfl⟩:h=boot_heap w.params/\gs=Array.mk []/\d=boot_drawn/\k=boot_toks:=by simpa using e'
 obtain⟨z1,z2,z3⟩:_/\_/\_:=by simpa only[Prod.mk.injEq] using size0 w
 obtain⟨⟨f,sT,c,p⟩,h1,h2⟩:=Option.map_eq_some_iff.mp (bigL w os);obtain⟨rfl,rfl,h3⟩:f=.next/\c=cT/\(fin w sT p).map (looks w)=some (true,openGood qv loose):=by simpa only[Prod.mk.injEq] using h2
 obtain⟨s1,h4,h5⟩:=Option.map_eq_some_iff.mp h3;obtain⟨l1,l2⟩:_/\_:=by simpa only[looks,Prod.mk.injEq] using h5
 have b:=big w os;rw[h1,Option.map_some,h4] at b;have l3:=Option.some.inj (Prod.mk.inj (Prod.mk.inj (Option.some.inj b)).2).2;have r1:=segRun_of h1;rw[SB_abs] at r1;have r2:=piece_app (rest:=[]) r1 (piece_nil h4);rw[List.append_nil] at r2;have r3:=piece_block (block w os) r2;have r4:=go_top (pre w os) r3;have r5:=topRun_mono (6636 - (12+(1+(3400+3)))) _ _ _ _ r4;rw[show 12+(1+(3400+3))+(6636 - (12+(1+(3400+3))))=6636 from rfl] at r5;have t:topFrom treeTable pr w 6636 ⟨boot_heap w.params,Array.mk [],boot_drawn,boot_toks,os⟩=some s1:=by unfold topFrom;dsimp only;rw[z1,z2,z3];rw[show(⟨boot_heap w.params,Array.mk [],boot_drawn,boot_toks,os⟩:Shared)=s0 w os from rfl,r5];show(match staticsOk (importedModules pr.main.body) (boot_heap w.params) s1.heap&&namesBound pr s1.heap&&gensDone s1&&laidKept (boot_heap w.params) s1.heap with|true=>some s1|false=>none)=_;rw[l1]
 have h0:openEnds treeTable pr w 6636=some s1:=by unfold openEnds;rw[e,Option.bind_some];exact t
 exact map_pair h0 l2 l3
end MineH
end
section
open PySem PySem.W PyProof.Rows
namespace MineH
theorem law_some:(defOf qv "law").isSome=true:=by kernel_rfl
def dLaw:DefRec×List (PySem.Str×PySem.Expr):=(defOf qv "law").get law_some
theorem said:OpenLaw.wellSaid PySem.Challenge.rw_sx_r136_3=true:=by rw[PySem.W.Fast.te9446332074065402090];kernel_rfl
theorem dLaw_at:defOf qv PySem.Challenge.rw_sx_r136_3.row.name=some (dLaw.1,dLaw.2):=by kernel_rfl
theorem dLaw_def:PySem.Challenge.rw_sx_r136_3.row.toRowW.prog.theDef PySem.Challenge.rw_sx_r136_3.row.name=some (dLaw.1.params,dLaw.1.body,dLaw.1.scope):=by kernel_rfl
theorem dLaw_kw:kwWritten? dLaw.1.params.kwonlyargs dLaw.1.params.kw_defaults=some dLaw.2:=by kernel_rfl
theorem chains:(chainsOk qv&&opensWell PySem.Challenge.rw_sx_r136_3.row.prog&&(frees PySem.Challenge.rw_sx_r136_3.row.toRowW&&PySem.Challenge.rw_sx_r136_3.row.within.isEmpty))=true:=by kernel_rfl
theorem head{α:Type}{Yf:Shared->α}{ya:α}{YP:PySem.World->Heap->Prop}(big:Big (λw s=>Yf s) ya)(hY:∀w s,Yf s=ya->YP w s.heap)
  (hYk:∀w h h',YP w h->(∀b o,h.get? b=some o->h'.get? b=some o)->YP w h')
  (walk:WalkO qv loose (XL qv []) YP PySem.Challenge.rw_sx_r136_3.row.toRowW dLaw.1 dLaw.2 λf vs=>call f vs):PySem.Challenge.rw_sx_r136_3.Holds:=
 holds_law said λsaid'=>PySem.W.holds_open (q:=qv) (loose:=loose) (Xt:=Xt) (XP:=XL qv []) (Yf:=Yf) (Ya:=λuu=>ya) (YP:=YP) (N:=6636) (left big) (λw s e=>hY w s e) hYk
  (λs e=>xl_of s (Bool.and_eq_true_iff.mp e).1) XL.keeps dLaw_at dLaw_def dLaw_kw (λs e=>recFacts_of (Bool.and_eq_true_iff.mp e).2) rfl said' chains ⟨rfl,rfl,rfl,rfl,rfl,by decide+kernel⟩ (by w_witness2) walk
end MineH
end
open Bool renaming and_eq_true_iff->OD,or_eq_true_iff->Pp,and_eq_true->Qh
open List renaming mem_of_getElem?->OE,mem_singleton->OF,getElem?_eq_some_iff->OG,mem_append->OL,getElem?_set_ne->OM,mem_cons_self->ON,length_append->OP,append_assoc->OQ,getElem?_append_left->OR,getElem?_set_self->OT,mem_cons->OZ,mem_cons_of_mem->O0,append_nil->O8,all_eq_true->O9,mem_map->Pa,getElem?_append_right->Pn,getElem?_of_mem->Pq,length_cons->Pr,length_set->Ps,lookup_cons->Pz,map_append->PN,map_cons->PO,mem_flatMap->PP,getElem?_drop->PZ,length_map->P9,drop_drop->Qa,nodup_cons->Qe,not_mem_nil->Qf
open PySem.Heap renaming get?_push_of_some->OH,get?_push_size->OS,lt_size->Pe,get?_update_self->PH,size_push->Qi
open Nat renaming lt_of_le_of_lt->OI,le_of_ble_eq_true->OJ,le_trans->OK,add_le_add->OU,lt_of_lt_of_le->OV,eq_of_beq_eq_true->OW,le_refl->OX,le_add_right->O1,zero_le->O3,add_le_add_left->O4,add_right_comm->O7,le_of_lt->Pc,not_lt->Pd,ble_eq_true_of_le->Po,succ_le_succ->PQ,le_of_lt_succ->Pv,ne_of_gt->PC,ne_of_lt->PD,le_succ->PR,lt_succ_self->PU,le_add_left->PV,add_assoc->PW,add_comm->PX,succ_pos->PY,lt_irrefl->Qk,le_of_eq->Ql,lt_trans->Qn
open Int renaming lt_of_lt_of_le->O2,lt_of_le_of_lt->O5,add_le_add_right->O6,le_trans->Pw,natCast_nonneg->Px,add_le_add_left->PB,sub_le_sub->Qb,ofNat_lt->Qc,le_of_lt->Qm,not_lt->Qo
open Option renaming map_eq_some_iff->Pb,bind_eq_some_iff->Qd
open PySem renaming wpAny_bind->Pf,wpAny_pure->Ph,wpAny_holding->Pi,wpAny_standAt->Pj,wpAny_field->Pk,wpAny_mono->Py,wpAny_attempt->Qp,wpAny_call_entry->Qq,wpAny_callSpecial?_slot->Qr,wpAny_seqItems->Qx,wpAny_setField_rec->Qy,wpAny_execs_nil->Qz
open Array renaming getElem?_eq_some_iff->PA,length_toList->Qg
open Option renaming some->QA,none->QE
open Bool renaming true->QI,false->QK
namespace Mine.Tactic
section
open PySem PySem.W PySem.SeqAt
def OO:= @Option.some.inj
def OY:= @List.cons.inj
def Pl:= @eq_of_beq
def Pm:= @of_decide_eq_true
def PF:= @Calls.spliced_cons
def PJ:= @beq_eq_false_iff_ne
def PK:= @congrArg
def PL:= @decide_eq_true
def PM:= @decide_eq_false
def Qj:= @Heap.SameBut.update
def Qs:= @codeAny_call_builtin
def Qt:= @callWith_of
def Qu:= @Calls.evalArgs_plain
def Qv:= @PyProof.Rows.Call_
def Qw:= @Obj.data_mapFields
end
theorem bj{P0 P1:Prop}{C:Prop}(h:P0/\P1)(k:P0->P1->C):C:=k h.1 h.2
theorem eI{P0 P1 P2:Prop}{C:Prop}(h:P0/\P1/\P2)(k:P0->P1->P2->C):C:=k h.1 h.2.1 h.2.2
theorem Fh{P0 P1 P2 P3:Prop}{C:Prop}(h:P0/\P1/\P2/\P3)(k:P0->P1->P2->P3->C):C:=k h.1 h.2.1 h.2.2.1 h.2.2.2
theorem yI{P0 P1 P2 P3 P4:Prop}{C:Prop}(h:P0/\P1/\P2/\P3/\P4)(k:P0->P1->P2->P3->P4->C):C:=k h.1 h.2.1 h.2.2.1 h.2.2.2.1 h.2.2.2.2
theorem rW{P0 P1 P2 P3 P4 P5:Prop}{C:Prop}(h:P0/\P1/\P2/\P3/\P4/\P5)(k:P0->P1->P2->P3->P4->P5->C):C:=k h.1 h.2.1 h.2.2.1 h.2.2.2.1 h.2.2.2.2.1 h.2.2.2.2.2
theorem IQ{P0 P1 P2 P3 P4 P5 P6:Prop}{C:Prop}(h:P0/\P1/\P2/\P3/\P4/\P5/\P6)(k:P0->P1->P2->P3->P4->P5->P6->C):C:=k h.1 h.2.1 h.2.2.1 h.2.2.2.1 h.2.2.2.2.1 h.2.2.2.2.2.1 h.2.2.2.2.2.2
theorem IR{P0 P1 P2 P3 P4 P5 P6 P7:Prop}{C:Prop}(h:P0/\P1/\P2/\P3/\P4/\P5/\P6/\P7)(k:P0->P1->P2->P3->P4->P5->P6->P7->C):C:=k h.1 h.2.1 h.2.2.1 h.2.2.2.1 h.2.2.2.2.1 h.2.2.2.2.2.1 h.2.2.2.2.2.2.1 h.2.2.2.2.2.2.2
theorem IS{P0 P1 P2 P3 P4 P5 P6 P7 P8:Prop}{C:Prop}(h:P0/\P1/\P2/\P3/\P4/\P5/\P6/\P7/\P8)(k:P0->P1->P2->P3->P4->P5->P6->P7->P8->C):C:=k h.1 h.2.1 h.2.2.1 h.2.2.2.1 h.2.2.2.2.1 h.2.2.2.2.2.1 h.2.2.2.2.2.2.1 h.2.2.2.2.2.2.2.1 h.2.2.2.2.2.2.2.2
theorem aB{α0:Type}{P0:α0->Prop}{C:Prop}(h:∃a0,P0 a0)(k:∀a0,P0 a0->C):C:=h.elim λa0 h=>k a0 h
theorem ak{α0:Type}{P0 P1:α0->Prop}{C:Prop}(h:∃a0,P0 a0/\P1 a0)(k:∀a0,P0 a0->P1 a0->C):C:=h.elim λa0 h=>k a0 h.1 h.2
theorem dh{α0:Type}{P0 P1 P2:α0->Prop}{C:Prop}(h:∃a0,P0 a0/\P1 a0/\P2 a0)(k:∀a0,P0 a0->P1 a0->P2 a0->C):C:=h.elim λa0 h=>k a0 h.1 h.2.1 h.2.2
theorem rX{α0:Type}{P0 P1 P2 P3:α0->Prop}{C:Prop}(h:∃a0,P0 a0/\P1 a0/\P2 a0/\P3 a0)(k:∀a0,P0 a0->P1 a0->P2 a0->P3 a0->C):C:=h.elim λa0 h=>k a0 h.1 h.2.1 h.2.2.1 h.2.2.2
theorem jk{α0 α1:Type}{P0:α0->α1->Prop}{C:Prop}(h:∃a0 a1,P0 a0 a1)(k:∀a0 a1,P0 a0 a1->C):C:=h.elim λa0 h=>h.elim λa1 h=>k a0 a1 h
theorem eX{α0 α1:Type}{P0 P1:α0->α1->Prop}{C:Prop}(h:∃a0 a1,P0 a0 a1/\P1 a0 a1)(k:∀a0 a1,P0 a0 a1->P1 a0 a1->C):C:=h.elim λa0 h=>h.elim λa1 h=>k a0 a1 h.1 h.2
theorem jP{α0 α1:Type}{P0 P1 P2:α0->α1->Prop}{C:Prop}(h:∃a0 a1,P0 a0 a1/\P1 a0 a1/\P2 a0 a1)(k:∀a0 a1,P0 a0 a1->P1 a0 a1->P2 a0 a1->C):C:=h.elim λa0 h=>h.elim λa1 h=>k a0 a1 h.1 h.2.1 h.2.2
theorem lR{α0 α1:Type}{P0 P1 P2 P3:α0->α1->Prop}{C:Prop}(h:∃a0 a1,P0 a0 a1/\P1 a0 a1/\P2 a0 a1/\P3 a0 a1)(k:∀a0 a1,P0 a0 a1->P1 a0 a1->P2 a0 a1->P3 a0 a1->C):C:=h.elim λa0 h=>h.elim λa1 h=>k a0 a1 h.1 h.2.1 h.2.2.1 h.2.2.2
theorem vK{α0 α1:Type}{P0 P1 P2 P3 P4:α0->α1->Prop}{C:Prop}(h:∃a0 a1,P0 a0 a1/\P1 a0 a1/\P2 a0 a1/\P3 a0 a1/\P4 a0 a1)(k:∀a0 a1,P0 a0 a1->P1 a0 a1->P2 a0 a1->P3 a0 a1->P4 a0 a1->C):C:=h.elim λa0 h=>h.elim λa1 h=>k a0 a1 h.1 h.2.1 h.2.2.1 h.2.2.2.1 h.2.2.2.2
theorem yJ{α0 α1:Type}{P0 P1 P2 P3 P4 P5:α0->α1->Prop}{C:Prop}(h:∃a0 a1,P0 a0 a1/\P1 a0 a1/\P2 a0 a1/\P3 a0 a1/\P4 a0 a1/\P5 a0 a1)(k:∀a0 a1,P0 a0 a1->P1 a0 a1->P2 a0 a1->P3 a0 a1->P4 a0 a1->P5 a0 a1->C):C:=h.elim λa0 h=>h.elim λa1 h=>k a0 a1 h.1 h.2.1 h.2.2.1 h.2.2.2.1 h.2.2.2.2.1 h.2.2.2.2.2
theorem eJ{α0 α1 α2:Type}{P0 P1:α0->α1->α2->Prop}{C:Prop}(h:∃a0 a1 a2,P0 a0 a1 a2/\P1 a0 a1 a2)(k:∀a0 a1 a2,P0 a0 a1 a2->P1 a0 a1 a2->C):C:=h.elim λa0 h=>h.elim λa1 h=>h.elim λa2 h=>k a0 a1 a2 h.1 h.2
theorem eK{α0 α1 α2:Type}{P0 P1 P2:α0->α1->α2->Prop}{C:Prop}(h:∃a0 a1 a2,P0 a0 a1 a2/\P1 a0 a1 a2/\P2 a0 a1 a2)(k:∀a0 a1 a2,P0 a0 a1 a2->P1 a0 a1 a2->P2 a0 a1 a2->C):C:=h.elim λa0 h=>h.elim λa1 h=>h.elim λa2 h=>k a0 a1 a2 h.1 h.2.1 h.2.2
theorem oV{α0 α1 α2:Type}{P0 P1 P2 P3:α0->α1->α2->Prop}{C:Prop}(h:∃a0 a1 a2,P0 a0 a1 a2/\P1 a0 a1 a2/\P2 a0 a1 a2/\P3 a0 a1 a2)(k:∀a0 a1 a2,P0 a0 a1 a2->P1 a0 a1 a2->P2 a0 a1 a2->P3 a0 a1 a2->C):C:=h.elim λa0 h=>h.elim λa1 h=>h.elim λa2 h=>k a0 a1 a2 h.1 h.2.1 h.2.2.1 h.2.2.2
theorem IT{α0 α1 α2:Type}{P0 P1 P2 P3 P4:α0->α1->α2->Prop}{C:Prop}(h:∃a0 a1 a2,P0 a0 a1 a2/\P1 a0 a1 a2/\P2 a0 a1 a2/\P3 a0 a1 a2/\P4 a0 a1 a2)(k:∀a0 a1 a2,P0 a0 a1 a2->P1 a0 a1 a2->P2 a0 a1 a2->P3 a0 a1 a2->P4 a0 a1 a2->C):C:=h.elim λa0 h=>h.elim λa1 h=>h.elim λa2 h=>k a0 a1 a2 h.1 h.2.1 h.2.2.1 h.2.2.2.1 h.2.2.2.2
theorem Fi{α0 α1 α2:Type}{P0 P1 P2 P3 P4 P5:α0->α1->α2->Prop}{C:Prop}(h:∃a0 a1 a2,P0 a0 a1 a2/\P1 a0 a1 a2/\P2 a0 a1 a2/\P3 a0 a1 a2/\P4 a0 a1 a2/\P5 a0 a1 a2)(k:∀a0 a1 a2,P0 a0 a1 a2->P1 a0 a1 a2->P2 a0 a1 a2->P3 a0 a1 a2->P4 a0 a1 a2->P5 a0 a1 a2->C):C:=h.elim λa0 h=>h.elim λa1 h=>h.elim λa2 h=>k a0 a1 a2 h.1 h.2.1 h.2.2.1 h.2.2.2.1 h.2.2.2.2.1 h.2.2.2.2.2
theorem yK{α0 α1 α2 α3:Type}{P0:α0->α1->α2->α3->Prop}{C:Prop}(h:∃a0 a1 a2 a3,P0 a0 a1 a2 a3)(k:∀a0 a1 a2 a3,P0 a0 a1 a2 a3->C):C:=h.elim λa0 h=>h.elim λa1 h=>h.elim λa2 h=>h.elim λa3 h=>k a0 a1 a2 a3 h
theorem vN{α0 α1 α2 α3:Type}{P0 P1:α0->α1->α2->α3->Prop}{C:Prop}(h:∃a0 a1 a2 a3,P0 a0 a1 a2 a3/\P1 a0 a1 a2 a3)(k:∀a0 a1 a2 a3,P0 a0 a1 a2 a3->P1 a0 a1 a2 a3->C):C:=h.elim λa0 h=>h.elim λa1 h=>h.elim λa2 h=>h.elim λa3 h=>k a0 a1 a2 a3 h.1 h.2
theorem Fj{α0 α1 α2 α3:Type}{P0 P1 P2:α0->α1->α2->α3->Prop}{C:Prop}(h:∃a0 a1 a2 a3,P0 a0 a1 a2 a3/\P1 a0 a1 a2 a3/\P2 a0 a1 a2 a3)(k:∀a0 a1 a2 a3,P0 a0 a1 a2 a3->P1 a0 a1 a2 a3->P2 a0 a1 a2 a3->C):C:=h.elim λa0 h=>h.elim λa1 h=>h.elim λa2 h=>h.elim λa3 h=>k a0 a1 a2 a3 h.1 h.2.1 h.2.2
theorem oX{α0 α1 α2 α3:Type}{P0 P1 P2 P3:α0->α1->α2->α3->Prop}{C:Prop}(h:∃a0 a1 a2 a3,P0 a0 a1 a2 a3/\P1 a0 a1 a2 a3/\P2 a0 a1 a2 a3/\P3 a0 a1 a2 a3)(k:∀a0 a1 a2 a3,P0 a0 a1 a2 a3->P1 a0 a1 a2 a3->P2 a0 a1 a2 a3->P3 a0 a1 a2 a3->C):C:=h.elim λa0 h=>h.elim λa1 h=>h.elim λa2 h=>h.elim λa3 h=>k a0 a1 a2 a3 h.1 h.2.1 h.2.2.1 h.2.2.2
theorem rY{α0 α1 α2 α3:Type}{P0 P1 P2 P3 P4 P5:α0->α1->α2->α3->Prop}{C:Prop}(h:∃a0 a1 a2 a3,P0 a0 a1 a2 a3/\P1 a0 a1 a2 a3/\P2 a0 a1 a2 a3/\P3 a0 a1 a2 a3/\P4 a0 a1 a2 a3/\P5 a0 a1 a2 a3)(k:∀a0 a1 a2 a3,P0 a0 a1 a2 a3->P1 a0 a1 a2 a3->P2 a0 a1 a2 a3->P3 a0 a1 a2 a3->P4 a0 a1 a2 a3->P5 a0 a1 a2 a3->C):C:=h.elim λa0 h=>h.elim λa1 h=>h.elim λa2 h=>h.elim λa3 h=>k a0 a1 a2 a3 h.1 h.2.1 h.2.2.1 h.2.2.2.1 h.2.2.2.2.1 h.2.2.2.2.2
theorem IU{α0 α1 α2 α3 α4:Type}{P0 P1 P2 P3 P4 P5 P6:α0->α1->α2->α3->α4->Prop}{C:Prop}(h:∃a0 a1 a2 a3 a4,P0 a0 a1 a2 a3 a4/\P1 a0 a1 a2 a3 a4/\P2 a0 a1 a2 a3 a4/\P3 a0 a1 a2 a3 a4/\P4 a0 a1 a2 a3 a4/\P5 a0 a1 a2 a3 a4/\P6 a0 a1 a2 a3 a4)(k:∀a0 a1 a2 a3 a4,P0 a0 a1 a2 a3 a4->P1 a0 a1 a2 a3 a4->P2 a0 a1 a2 a3 a4->P3 a0 a1 a2 a3 a4->P4 a0 a1 a2 a3 a4->P5 a0 a1 a2 a3 a4->P6 a0 a1 a2 a3 a4->C):C:=h.elim λa0 h=>h.elim λa1 h=>h.elim λa2 h=>h.elim λa3 h=>h.elim λa4 h=>k a0 a1 a2 a3 a4 h.1 h.2.1 h.2.2.1 h.2.2.2.1 h.2.2.2.2.1 h.2.2.2.2.2.1 h.2.2.2.2.2.2
theorem m1{α:Type}{x:α}{P:α->Prop}(h:P x):∀a∈[x],P a:=λa ha=>OF.mp ha▸h
theorem m2{α:Type}{x y:α}{P:α->Prop}(h:P x)(k:P y):∀a∈[x,y],P a:=λa ha=>(OZ.mp ha).elim (λe=>e▸h) (m1 k a)
theorem dc{p:Prop}[Decidable p](h:decide p=QI:=by rfl):p:=Pm h
section
variable{i j k:Int}{x y z w:Nat}
theorem oA{x:Int}(a b c:Int)(h:a+b=c):x+a+b=x+c:=(Int.add_assoc x a b).trans (PK _ h)
theorem oW{x k y:Int}(h:x+k=y)(h0:0<=k)(h1:k<=10):x<=y/\y<=x+10:=h▸⟨Int.le_add_of_nonneg_right h0,PB h1 x⟩
theorem o5{x y k:Nat}(h:x+y<k):x<=k:=Pc (OI (O1 _ _) h)
theorem Nc(a: -1000<=i/\i<=1000): -4611686018427387904<i:=O2 (by decide) a.1
theorem Nd(a: -1000<=i/\i<=1000):i<4611686018427387904:=O5 a.2 (by decide)
theorem oy(a: -1000<=i): -4611686018427387904<i:=O2 (by decide) a
theorem Ll(a: -1000<=i): -4611686018427387904<i+(0+1):=O2 (by decide) (O6 a _)
theorem Nf(a: -1000<=i): -4611686018427387904<i+(0+1)+(0+1+1):=O2 (by decide) (O6 (O6 a _) _)
theorem NL(a: -1000<=i): -4611686018427387904<i+(0+1)+(0+1+1)+(0+1+1+1):=O2 (by decide) (O6 (O6 (O6 a _) _) _)
theorem Ng(a:0<=i)(b:i<5): -5<=i/\i<=5:=⟨Pw (by decide) a,Qm b⟩
theorem vO(a:0<=i): -4611686018427387904<i:=O2 (by decide) a
theorem Nh(a:1<=i):0<=i - 1:=Int.sub_nonneg_of_le a
theorem Ni(a:5<=i):5<=i+20:=Pw (by decide) (O6 a _)
theorem ji(a:i<5):i<4611686018427387904:=O2 a (by decide)
theorem Lm(a:i<=1000):i+(0+1)+(0+1+1)+(0+1+1+1)<4611686018427387904:=O5 (O6 (O6 (O6 a _) _) _) (by decide)
theorem IV(a:i<=1000):i+(0+1)+(0+1+1)<4611686018427387904:=O5 (O6 (O6 a _) _) (by decide)
theorem Gy(a:i<=1000):i+(0+1)<4611686018427387904:=O5 (O6 a _) (by decide)
theorem fG(a:i<=1000):i<4611686018427387904:=O5 a (by decide)
theorem IW:i+10=i+(0+1)+(0+1+1)+(0+1+1+1)+(0+1+1+1+1):=((PK (·+_) ((PK (·+_) (oA 1 2 3 rfl)).trans (oA 3 3 6 rfl))).trans (oA 6 4 10 rfl)).symm
theorem IX:i+3=i+(0+1)+(0+1+1):=(oA 1 2 3 rfl).symm
theorem IY:i+6=i+(0+1)+(0+1+1)+(0+1+1+1):=((PK (·+_) (oA 1 2 3 rfl)).trans (oA 3 3 6 rfl)).symm
theorem IZ:i<=i+(0+1)+(0+1+1)+(0+1+1+1)+(0+1+1+1+1)/\i+(0+1)+(0+1+1)+(0+1+1+1)+(0+1+1+1+1)<=i+10:=oW (k:=10) IW (by decide) (by decide)
theorem Lo:i<=i+(0+1)+(0+1+1)+(0+1+1+1)/\i+(0+1)+(0+1+1)+(0+1+1+1)<=i+10:=oW (k:=6) IY (by decide) (by decide)
theorem Lp:i<=i+(0+1)+(0+1+1)/\i+(0+1)+(0+1+1)<=i+10:=oW (k:=3) IX (by decide) (by decide)
theorem Lq:i<=i+(0+1)/\i+(0+1)<=i+10:=oW (k:=0+1) rfl (by decide) (by decide)
theorem Gz(a: -1000<=j)(b:j<i): -4611686018427387904<i:=Int.lt_trans (O2 (by decide) a) b
theorem I0(a: -1000<=j)(b:j=i): -4611686018427387904<i:=b▸O2 (by decide) a
theorem I1(a:0<=j)(b:i<=1000):i - j+1<4611686018427387904:=O5 (O6 (Qb b a) _) (by decide)
theorem GA(a:0<=j)(b:i<=1000):i - j<4611686018427387904:=O5 (Qb b a) (by decide)
theorem I4(a:0<=j)(b:j<i): -4611686018427387904<i:=Int.lt_trans (O2 (by decide) a) b
theorem GB(a:0<=j)(b: ¬i<j): -4611686018427387904<i:=O2 (O2 (by decide) a) (Qo.mp b)
theorem Cs(a:i<j): ¬i=j:=Int.ne_of_lt a
theorem I5(a:i=j): ¬i<j:=a▸Int.lt_irrefl _
theorem GD(a:j<5)(b: -1000<=i): -4611686018427387904<i - j:=O2 (by decide) (Qb b (Qm a))
theorem I7(a:j<5)(b: -1000<=i): -4611686018427387904<i - j+1:=O2 (by decide) (O6 (Qb b (Qm a)) _)
theorem Lr(a:j<5)(b:i<j):i<4611686018427387904:=Int.lt_trans b (Int.lt_trans a (by decide))
theorem GE(a:j<5)(b: ¬j<i):i<4611686018427387904:=O5 (Qo.mp b) (Int.lt_trans a (by decide))
theorem uz(a:j<i): ¬i<j:=Qo.mpr (Qm a)
theorem GG(a:j<i): ¬i=j:=Int.ne_of_gt a
theorem I8(a:j=i): ¬i<j:=Qo.mpr (Int.le_of_eq a)
theorem GH(a:j<=1000)(b:i<j):i<4611686018427387904:=Int.lt_trans b (O5 a (by decide))
theorem I9(a:j<=1000)(b:j=i):i<4611686018427387904:=b▸O5 a (by decide)
theorem Ls(a:0<=j)(b:j<5)(c: -i<=k/\k<=i): -(i+20)<=j - k/\j - k<=i+20:=⟨Int.zero_sub (i+20)▸Qb a (Pw c.2 (Int.le_add_of_nonneg_right (by decide))),Pw (Qb (Qm b) c.1) (Pw (Int.le_of_eq ((Int.sub_neg _ _).trans (Int.add_comm _ _))) (PB (by decide) _))⟩
theorem Ja(a:i+20*(x:Int)<=1000):i<=1000:=Pw (Int.le_add_of_nonneg_right (Int.mul_nonneg (by decide) (Px _))) a
theorem Jb:i+20+20*(x:Int)<=i+20*((x:Int)+1):=Int.le_of_eq ((Int.add_assoc _ _ _).trans (PK (i+ ·) ((Int.add_comm _ _).trans (Int.mul_add 20 x 1).symm)))
theorem Lu:i - 1 - (x:Int)=i - ((x:Int)+1):=(Int.sub_sub _ _ _).trans (PK (i - ·) (Int.add_comm _ _))
theorem Lv(a:i+20*(y:Int)<=1000)(b:y=x+1):i+20+20*(x:Int)<=1000:=by subst b;exact Pw Jb a
theorem Jc(a:0<x):(0:Int)<(x:Int):=Qc.mpr a
theorem Jd(a:x<5):(x:Int)<(5:Int):=Qc.mpr a
theorem Lw(a: ¬(x:Int)<(19:Int)):19<=x:=Pd.mp λh=>a ((Qc (m:=19)).mpr h)
theorem Lx:(-4611686018427387904:Int)<(x:Int):=O2 (by decide) (Px x)
theorem Ly:60+(70*x+2+1)<=70*(x+1)+2:=OK (Ql (PX 60 (70*x+3))) (O4 (by decide:63<=72) (70*x))
theorem Lz:80+(3+(90*x+2))<=90*(x+1)+2:=OK (Ql ((PK (80+ ·) (PX 3 _)).trans (PX 80 _))) (O4 (by decide:85<=92) (90*x))
theorem NM(a:(x:Int)<=i - 1):(x:Int)+1<=i:=Int.add_le_of_le_sub_right a
theorem NN(a: ¬i - 1<0)(b:x=0):(x:Int)+1<=i:=by subst b;exact Int.add_le_of_le_sub_right (Qo.mp a)
theorem Je(a:x+1<=y):x≠y:=PD a
theorem LA(a:x+(y+1)<100000):x+1+y<100000:=OI (Ql (O7 x 1 y)) a
theorem Jf(a:y=4)(b:x<=0+y):x<900:=by subst a;exact OI b (by decide)
theorem Jg(a:x+70*(z+1)<50000)(b:y<=61):x+y+70*z<50000:=OI (OK (Ql (PW _ _ _)) (O4 (OK (Ql (PX y _)) (O4 (OK b (by decide:61<=70)) _)) x)) a
theorem Fk(a:x=y+1+z):x=y+(z+1):=a.trans (Nat.succ_add _ _)
theorem Jh(a:x<=70*z+10)(b:y<=70):x+y<=70*(z+1)+10:=(OU a b:x+y<=70*z+10+70)
theorem Fl(a:z<y)(b:x<z):x≠y:=PD (Qn b a)
theorem Ji(a:y<=3)(b:x<=80)(c:z<=90*w+10):x+y+z<=90*(w+1)+10:=OK (OU (OU b a) c) (OK (Ql (PX 83 _)) (O4 (by decide:93<=100) (90*w)))
end
set_option genCtorIdx false in
inductive AV where
 |none
 |bool (b:Bool)
 |int (i:Int)
 |str (s:List Nat)
 |tup (vs:List AV)
 |flist (vs:List AV)
 |obj (k:Nat)
 |exc (c:Nat) (fs:List AV)
 |word
set_option genCtorIdx false in
inductive az where
 |list (vs:List AV)
 |dict (es:List (List Nat×AV))
 |sset (ss:List (List Nat))
 |inst (c:Nat) (fs:List (Nat×AV))
noncomputable def az.ctorIdx (v:az):Nat:=az.casesOn v (λu=>0) (λu=>1) (λu=>2) λu u=>3
noncomputable def AV.ctorIdx (v:AV):Nat:=AV.casesOn (motive_1:=λu=>Nat) v 0 (λu=>1) (λu=>2) (λu=>3) (λu=>4) (λu=>5) (λu=>6) (λu u=>7) 8
abbrev Hp:=List az
abbrev Loc:=List (Option AV)
set_option genCtorIdx false in
inductive aH where
 |verr
 |own (c:Nat) (fs:List AV)
noncomputable def aH.ctorIdx (v:aH):Nat:=aH.casesOn v 0 λu u=>1
set_option genCtorIdx false in
inductive Flow where
 |next|brk|cont
 |ret (v:AV)
 |err (e:aH)
noncomputable def Flow.ctorIdx (v:Flow):Nat:=Flow.casesOn v 0 1 2 (λu=>3) λu=>4
set_option genCtorIdx false in
mutual
inductive Bop where|add|sub|mul|mod|fdiv
inductive Bf where|len|str|int|setOf|set0|listOf|tupleOf
end
set_option genCtorIdx false in
mutual
inductive oz where|eq|ne|lt|gt|isin|notin|is|isnot
inductive Bm where|append|index|isascii|isalnum|isalpha|isdigit|join|lower
end
noncomputable def Bop.ctorIdx (b:Bop):Nat:=Bop.casesOn (motive_1:=λu=>Nat) b 0 1 2 3 4
noncomputable def oz.ctorIdx (b:oz):Nat:=oz.casesOn (motive_1:=λu=>Nat) b 0 1 2 3 4 5 6 7
set_option genCtorIdx false in
inductive Ty where|int|tuple|list|own(c:Nat)
noncomputable def Ty.ctorIdx (v:Ty):Nat:=Ty.casesOn v 0 1 2 λu=>3
set_option genCtorIdx false in
inductive PE where
 |v (i:Nat)
 |glob (g:Nat)
 |c (c:AV)
 |tup (es:List PE)
 |list (es:List PE)
 |dict (ks:List (List Nat)) (es:List PE)
 |b (op:Bop) (l r:PE)
 |p (op:oz) (l r:PE)
 |d (es:List PE)
 |o (es:List PE)
 |n (e:PE)
 |f (t a b:PE)
 |sub (e i:PE)
 |slice (e:PE) (lo hi:Option PE)
 |attr (e:PE) (f:Nat)
 |call (f:Nat) (args:List PE)
 |new (c:Nat) (args:List PE)
 |meth (e:PE) (m:Nat) (args:List PE)
 |bf (f:Bf) (args:List PE)
 |bm (m:Bm) (e:PE) (args:List PE)
 |isinst (e:PE) (t:Ty)
 |typeIs (e:PE) (t:Ty) (neg:Bool)
 |callv (i t:Nat) (args:List PE)
 |excAttr (i f:Nat)
 |comp1 (elt:PE) (v:Nat) (it:PE)
set_option genCtorIdx false in
inductive PT where
 |v (i:Nat)
 |tup (ts:List PT)
 |attr (e:PE) (f:Nat)
 |sub (e i:PE)
noncomputable def PE.vw {α:Type} (e:PE) (d:α) (f1:Nat->α) (f2:AV->α) (f3:Bop->PE->PE->α) (f4:oz->PE->PE->α) (f5:PE->Nat->α) (f6:PE->Nat->PE->α):α:=PE.casesOn (motive_1:=λu=>α) e f1 (λu=>d) f2 (λu=>d) (λu=>d) (λu u=>d) f3 f4 (λu=>d) (λu=>d) (λu=>d) (λu u u=>d) (λu u=>d) (λu u u=>d) f5 (λu u=>d) (λu u=>d) (λu u u=>d) (λu u=>d) (λu u u=>d) (λu u=>d) (λu u u=>d) (λu u u=>d) (λu u=>d) f6
theorem PE.vw_e{α:Type}{e:PE}{d x:α}{f1:Nat->α}{f2:AV->α}{f3:Bop->PE->PE->α}{f4:oz->PE->PE->α}{f5:PE->Nat->α}{f6:PE->Nat->PE->α}{C:Prop}(h:e.vw d f1 f2 f3 f4 f5 f6=x)(hd:d=x->C)(g1:∀i,e=.v i->f1 i=x->C)(g2:∀i,e=.c i->f2 i=x->C)(g3:∀a b c,e=.b a b c->f3 a b c=x->C)(g4:∀a b c,e=.p a b c->f4 a b c=x->C)(g5:∀a b,e=.attr a b->f5 a b=x->C)(g6:∀a b c,e=.comp1 a b c->f6 a b c=x->C):C:=
 PE.casesOn (motive_1:=λt=>e=t->t.vw d f1 f2 f3 f4 f5 f6=x->C) e g1 (λu u=>hd) g2 (λu u=>hd) (λu u=>hd) (λu u u=>hd) g3 g4 (λu u=>hd) (λu u=>hd) (λu u=>hd) (λu u u u=>hd) (λu u u=>hd) (λu u u u=>hd) g5 (λu u u=>hd) (λu u u=>hd) (λu u u u=>hd) (λu u u=>hd) (λu u u u=>hd) (λu u u=>hd) (λu u u u=>hd) (λu u u u=>hd) (λu u u=>hd) g6 rfl h
noncomputable def PE.isC (e:PE):Bool:=e.vw QK (λu=>QK) (λu=>QK) (λu u u=>QK) (λu u u=>QK) (λu u=>QK) λu u u=>QI
theorem PE.isC_e{e:PE}{C:PE->Prop}(h:e.isC=QI)(g:∀a b c,C (.comp1 a b c)):C e:=PE.vw_e h (λh=>Bool.noConfusion h) (λu u h=>Bool.noConfusion h) (λu u h=>Bool.noConfusion h) (λu u u u h=>Bool.noConfusion h) (λu u u u h=>Bool.noConfusion h) (λu u u h=>Bool.noConfusion h) λa b c q u=>q▸g a b c
noncomputable def PT.isV (t:PT):Bool:=PT.casesOn (motive_1:=λu=>Bool) t (λu=>QI) (λu=>QK) (λu u=>QK) λu u=>QK
theorem PT.isV_e{t:PT}{C:PT->Prop}(h:t.isV=QI)(g:∀i,C (.v i)):C t:=PT.casesOn (motive_1:=λt=>t.isV=QI->C t) t (λi u=>g i) (λu h=>Bool.noConfusion h) (λu u h=>Bool.noConfusion h) (λu u h=>Bool.noConfusion h) h
set_option genCtorIdx false in
inductive PS where
 |expr (e:PE)
 |a (t:PT) (e:PE)
 |augV (i:Nat) (op:Bop) (e:PE)
 |augA (o:PE) (f:Nat) (op:Bop) (e:PE)
 |i (t:PE) (a b:List PS)
 |w (t:PE) (b:List PS)
 |r (t:PT) (e:PE) (b:List PS)
 |ret (e:PE)
 |q (e:PE)
 |raiseO (c:Nat) (args:List PE)
 |reraise
 |tryV (b h:List PS)
 |tryO (c:Nat) (x:Nat) (b h f:List PS)
 |updZip (d a b:PE)
 |defW (i t:Nat)
 |brk|cont
set_option genCtorIdx false in
structure Fn where
 np:Nat
 dfl:List AV
 nl:Nat
 body:List PS
set_option genCtorIdx false in
structure LB where
 fn:Nat->Option Fn
 meth:Nat->Nat->Option Nat
 init:Nat->Option Nat
 cattr:Nat->Nat->Option AV
 excf:Nat->Nat->Option Nat
 glob:Nat->Option AV
 QC:Nat
def be{α:Type}(l:List α):Nat->Option α:=List.rec (λ_=>QE) (λa _ ih n=>Nat.casesOn n (QA a) ih) l
namespace P3
noncomputable abbrev kI (i:Int):PE:=.c (.int i)
noncomputable abbrev kS (s:List Nat):PE:=.c (.str s)
noncomputable abbrev eS (v:Nat) (s:List Nat):PE:=.p .eq (.v v) (.c (.str s))
noncomputable abbrev vA (v f:Nat):PE:=.attr (.v v) f
noncomputable abbrev vS (v:Nat) (i:Int):PE:=.sub (.v v) (.c (.int i))
noncomputable abbrev vM (v m:Nat) (l:List PE):PE:=.meth (.v v) m l
noncomputable abbrev vG (v:Nat) (e:PE):PS:=.a (.v v) e
noncomputable abbrev vR (v:Nat):PS:=.ret (.v v)
noncomputable def f0:Fn:=⟨1,[],7,[vG 1 (.list []),vG 2 (kI 0),.defW 3 0,.w (.p .lt (.v 2) (.bf .len [.v 0])) [vG 4 (.sub (.v 0) (.v 2)),.i (.p .isin (.v 4) (kS [32,10])) [.augV 2 .add (kI 1),.cont] [],.i (.d [.bm .isascii (.v 4) [],.bm .isalpha (.v 4) []]) [vG 5 (.callv 3 0 [.v 2]),vG 6 (.slice (.v 0) (QA (.v 2)) (QA (.v 5))),.i (.d [.p .eq (.slice (.v 0) (QA (.v 5)) (QA (.b .add (.v 5) (kI 1)))) (kS [58]),.p .ne (.slice (.v 0) (QA (.v 5)) (QA (.b .add (.v 5) (kI 2)))) (kS [58,61])]) [.i (.p .isin (.v 6) (.glob 0)) [.q (.v 6)] [],.expr (.bm .append (.v 1) [.tup [kS [107,101,121],.b .add (.v 6) (kS [58])]]),vG 2 (.b .add (.v 5) (kI 1))] [.expr (.bm .append (.v 1) [.tup [.f (.p .isin (.v 6) (.glob 0)) (kS [114,101,115]) (kS [110,97,109,101]),.v 6]]),vG 2 (.v 5)],.cont] [],.i (.d [.bm .isascii (.v 4) [],.bm .isdigit (.v 4) []]) [vG 5 (.callv 3 0 [.v 2]),vG 6 (.slice (.v 0) (QA (.v 2)) (QA (.v 5))),.i (.o [.n (.bm .isdigit (.v 6) []),.p .ne (.bf .str [.bf .int [.v 6]]) (.v 6)]) [.q (.v 6)] [],.expr (.bm .append (.v 1) [.tup [kS [105,110,116],.bf .int [.v 6]]]),vG 2 (.v 5),.cont] [],.i (.p .eq (.slice (.v 0) (QA (.v 2)) (QA (.b .add (.v 2) (kI 2)))) (kS [58,61])) [.expr (.bm .append (.v 1) [.tup [kS [111,112],kS [58,61]]]),.augV 2 .add (kI 2),.cont] [],.i (eS 4 [58]) [vG 5 (.callv 3 0 [.b .add (.v 2) (kI 1)]),vG 6 (.slice (.v 0) (QA (.b .add (.v 2) (kI 1))) (QA (.v 5))),.i (.o [.n (.v 6),.n (.bm .isalpha (vS 6 0) []),.p .isin (.v 6) (.glob 0)]) [.q (.v 6)] [],.expr (.bm .append (.v 1) [.tup [kS [112,97,114,97,109],.v 6]]),vG 2 (.v 5),.cont] [],.i (.p .isin (.v 4) (kS [43,45,42,60,62,61])) [.expr (.bm .append (.v 1) [.tup [kS [98,105,110],.v 4]]),.augV 2 .add (kI 1),.cont] [],.i (.p .isin (.v 4) (kS [40,41,91,93,124,46,94])) [.expr (.bm .append (.v 1) [.tup [kS [111,112],.v 4]]),.augV 2 .add (kI 1),.cont] [],.q (.v 4)],.ret (.b .add (.v 1) (.list [.tup [kS [101,110,100],kS []]]))]⟩
def f1:Fn:=⟨2,[],2,[.a (.attr (.v 0) 0) (.call 0 [.v 1]),.a (.attr (.v 0) 1) (kI 0)]⟩
def f2:Fn:=⟨3,[.none],3,[.ret (.d [.p .eq (.sub (.sub (vA 0 0) (vA 0 1)) (kI 0)) (.v 1),.o [.p .is (.v 2) (.c .none),.p .eq (.sub (.sub (vA 0 0) (vA 0 1)) (kI 1)) (.v 2)]])]⟩
def f3:Fn:=⟨3,[.none],3,[.i (.n (vM 0 2 [.v 1,.v 2])) [.q (.sub (vA 0 0) (vA 0 1))] [],.augA (.v 0) 1 .add (kI 1),.ret (.sub (.sub (vA 0 0) (.b .sub (vA 0 1) (kI 1))) (kI 1))]⟩
def f4:Fn:=⟨1,[],2,[vG 1 (.list []),.w (vM 0 2 [kS [110,97,109,101]]) [.expr (.bm .append (.v 1) [vM 0 3 [kS [110,97,109,101]]])],.ret (.bf .tupleOf [.v 1])]⟩
def f5:Fn:=⟨1,[],2,[.i (.n (vM 0 2 [kS [111,112],kS [124]])) [.ret (.tup [])] [],.expr (vM 0 3 [kS [111,112]]),vG 1 (vM 0 4 []),.expr (vM 0 3 [kS [111,112],kS [124]]),.i (.n (.v 1)) [.q (kS [116,101,109,112,111,114,97,114,105,101,115])] [],vR 1]⟩
def f6:Fn:=⟨2,[],2,[.i (.p .lt (.bf .len [.bf .setOf [.v 1]]) (.bf .len [.v 1])) [.q (kS [116,119,105,99,101])] []]⟩
def f7:Fn:=⟨2,[],3,[vG 2 (.list []),.i (.p .isin (.sub (vA 0 0) (vA 0 1)) (.v 1)) [.ret (.tup [])] [],.w (.c (.bool QI)) [.i (vM 0 2 [kS [111,112],kS [94]]) [.expr (vM 0 3 [kS [111,112]]),.expr (.bm .append (.v 2) [.tup [kS [114,101,116,117,114,110],vM 0 5 []]]),.brk] [],.expr (.bm .append (.v 2) [vM 0 5 []]),.i (.n (vM 0 2 [kS [111,112],kS [46]])) [.brk] [],.expr (vM 0 3 [kS [111,112]])],.i (.p .notin (.sub (vA 0 0) (vA 0 1)) (.v 1)) [.q (.sub (vA 0 0) (vA 0 1))] [],.ret (.bf .tupleOf [.v 2])]⟩
def f8:Fn:=⟨1,[],5,[.i (.d [vM 0 2 [kS [110,97,109,101]],.p .eq (.sub (vA 0 0) (.b .add (vA 0 1) (kI 1))) (.tup [kS [111,112],kS [58,61]])]) [vG 1 (vM 0 3 [kS [110,97,109,101]]),.expr (vM 0 3 [kS [111,112]]),.ret (.tup [kS [115,101,116],.v 1,vM 0 5 []])] [],vG 2 (vM 0 6 []),.i (vM 0 2 [kS [107,101,121]]) [vG 3 (kS []),vG 4 (.list []),.w (vM 0 2 [kS [107,101,121]]) [.augV 3 .add (vM 0 3 [kS [107,101,121]]),.expr (.bm .append (.v 4) [vM 0 6 []])],.i (.p .isin (kS [115,117,112,101,114]) (.v 4)) [.q (kS [115,117,112,101,114])] [],.i (eS 2 [115,117,112,101,114]) [.ret (.tup [kS [115,117,112,101,114],.v 3,.bf .tupleOf [.v 4]])] [],.ret (.tup [kS [115,101,110,100],.v 2,.v 3,.bf .tupleOf [.v 4]])] [],.i (eS 2 [115,117,112,101,114]) [.q (kS [115,117,112,101,114])] [],vR 2]⟩
def f9:Fn:=⟨4,[],4,[.ret (.f (eS 1 [115,117,112,101,114]) (.tup [kS [115,117,112,101,114],.v 2,.v 3]) (.tup [kS [115,101,110,100],.v 1,.v 2,.v 3]))]⟩
def NP:Fn:=⟨1,[],4,[vG 1 (vM 0 7 []),.w (vM 0 2 [kS [98,105,110]]) [vG 2 (vM 0 3 [kS [98,105,110]]),vG 3 (vM 0 7 []),.i (eS 3 [115,117,112,101,114]) [.q (kS [115,117,112,101,114])] [],vG 1 (vM 0 8 [.v 1,.v 2,.tup [.v 3]])],vR 1]⟩
def NQ:Fn:=⟨1,[],2,[vG 1 (vM 0 9 []),.w (vM 0 2 [kS [110,97,109,101]]) [vG 1 (vM 0 8 [.v 1,vM 0 3 [kS [110,97,109,101]],.tup []])],vR 1]⟩
def NR:Fn:=⟨1,[],7,[.a (.tup [.v 1,.v 2]) (.sub (vA 0 0) (vA 0 1)),.augA (.v 0) 1 .add (kI 1),.i (eS 1 [105,110,116]) [.ret (.tup [kS [105,110,116],.v 2])] [],.i (.o [eS 1 [110,97,109,101],.d [eS 1 [114,101,115],.p .isin (.v 2) (.tup [kS [115,101,108,102],kS [116,114,117,101],kS [102,97,108,115,101],kS [110,105,108]])]]) [.ret (.tup [kS [110,97,109,101],.v 2])] [],.i (.p .eq (.tup [.v 1,.v 2]) (.tup [kS [114,101,115],kS [115,117,112,101,114]])) [.ret (kS [115,117,112,101,114])] [],.i (.p .eq (.tup [.v 1,.v 2]) (.tup [kS [111,112],kS [40]])) [vG 3 (vM 0 5 []),.expr (vM 0 3 [kS [111,112],kS [41]]),vR 3] [],.i (.p .eq (.tup [.v 1,.v 2]) (.tup [kS [111,112],kS [91]])) [vG 4 (.list []),.w (vM 0 2 [kS [112,97,114,97,109]]) [.expr (.bm .append (.v 4) [vM 0 3 [kS [112,97,114,97,109]]])],.i (.v 4) [.expr (vM 0 3 [kS [111,112],kS [124]])] [],vG 5 (vM 0 10 []),.expr (vM 0 11 [.b .add (.bf .tupleOf [.v 4]) (.v 5)]),vG 6 (vM 0 12 [.list [.tup [kS [111,112],kS [93]]]]),.expr (vM 0 3 [kS [111,112],kS [93]]),.ret (.tup [kS [98,108,111,99,107],.bf .tupleOf [.v 4],.v 5,.v 6])] [],.q (.tup [.v 1,.v 2])]⟩
def NS:Fn:=⟨1,[],5,[vG 1 (.list []),.i (vM 0 2 [kS [110,97,109,101]]) [vG 2 (vM 0 3 [kS [110,97,109,101]])] [.i (vM 0 2 [kS [98,105,110]]) [vG 2 (vM 0 3 [kS [98,105,110]]),.expr (.bm .append (.v 1) [vM 0 3 [kS [110,97,109,101]]])] [vG 2 (vM 0 3 [kS [107,101,121]]),.expr (.bm .append (.v 1) [vM 0 3 [kS [110,97,109,101]]]),.w (vM 0 2 [kS [107,101,121]]) [.augV 2 .add (vM 0 3 [kS [107,101,121]]),.expr (.bm .append (.v 1) [vM 0 3 [kS [110,97,109,101]]])]]],.expr (vM 0 3 [kS [111,112],kS [91]]),vG 3 (vM 0 10 []),.expr (vM 0 11 [.b .add (.bf .tupleOf [.v 1]) (.v 3)]),vG 4 (vM 0 12 [.list [.tup [kS [111,112],kS [93]]]]),.expr (vM 0 3 [kS [111,112],kS [93]]),.ret (.tup [.v 2,.bf .tupleOf [.v 1],.v 3,.v 4])]⟩
def f14:Fn:=⟨1,[],11,[vG 1 (.list []),.w (vM 0 2 [kS [114,101,115],kS [99,108,97,115,115]]) [.expr (vM 0 3 [kS [114,101,115]]),vG 2 (vM 0 3 [kS [110,97,109,101]]),.expr (vM 0 3 [kS [98,105,110],kS [60]]),vG 3 (vM 0 3 [kS [110,97,109,101]]),.i (.o [eS 2 [79,98,106,101,99,116],.p .isin (.v 2) (.comp1 (vS 8 0) 8 (.v 1)),.d [.p .ne (.v 3) (kS [79,98,106,101,99,116]),.p .notin (.v 3) (.comp1 (vS 9 0) 9 (.v 1))]]) [.q (.v 2)] [],vG 4 (vM 0 10 []),.expr (vM 0 11 [.v 4]),.expr (vM 0 3 [kS [111,112],kS [91]]),vG 5 (.list []),.w (.n (vM 0 2 [kS [111,112],kS [93]])) [.expr (.bm .append (.v 5) [vM 0 13 []])],.expr (vM 0 3 [kS [111,112],kS [93]]),.expr (vM 0 11 [.comp1 (vS 10 0) 10 (.v 5)]),.expr (.bm .append (.v 1) [.tup [.v 2,.v 3,.v 4,.bf .tupleOf [.v 5]]])],vG 6 (vM 0 10 []),.expr (vM 0 11 [.v 6]),vG 7 (vM 0 12 [.list [.tup [kS [101,110,100],kS []]]]),.ret (.tup [kS [112,114,111,103,114,97,109],.bf .tupleOf [.v 1],.v 6,.v 7])]⟩
noncomputable def f15:Fn:=⟨1,[],1,[.ret (.meth (.new 0 [.v 0]) 14 [])]⟩
def NT:Fn:=⟨2,[],3,[.r (.v 2) (vS 0 1) [.i (.p .eq (vS 2 0) (.v 1)) [vR 2] []],.q (.v 1)]⟩
def NU:Fn:=⟨3,[],5,[vG 3 (.call 16 [.v 0,.v 1]),.w (.c (.bool QI)) [.r (.v 4) (vS 3 3) [.i (.p .eq (vS 4 0) (.v 2)) [.ret (.tup [vS 3 0,.v 4])] []],.i (.p .eq (vS 3 1) (kS [79,98,106,101,99,116])) [.q (.v 2)] [],vG 3 (.call 16 [.v 0,vS 3 1])]]⟩
def NV:Fn:=⟨2,[],3,[vG 2 (.call 16 [.v 0,.v 1]),.ret (.b .add (.f (.p .eq (vS 2 1) (kS [79,98,106,101,99,116])) (.list []) (.call 18 [.v 0,vS 2 1])) (.bf .listOf [vS 2 2]))]⟩
noncomputable def NW:Fn:=⟨3,[],3,[.a (.tup [.attr (.v 0) 15,.attr (.v 0) 16]) (.tup [.v 1,.b .mul (.list [.c .none]) (.v 2)])]⟩
noncomputable def NX:Fn:=⟨2,[],2,[.a (.attr (.v 0) 17) (.v 1)]⟩
noncomputable def NY:Fn:=⟨3,[],3,[.a (.tup [.attr (.v 0) 18,.attr (.v 0) 19]) (.tup [.v 1,.v 2])]⟩
noncomputable def NZ:Fn:=⟨3,[],3,[.a (.tup [.attr (.v 0) 20,.attr (.v 0) 16]) (.tup [.v 1,.v 2])]⟩
noncomputable def N1:Fn:=⟨5,[],5,[.a (.tup [.attr (.v 0) 21,.attr (.v 0) 22,.attr (.v 0) 23,.attr (.v 0) 20,.attr (.v 0) 24,.attr (.v 0) 25]) (.tup [.v 1,.v 2,.v 3,.v 4,.dict [] [],.bf .set0 []])]⟩
noncomputable def N2:Fn:=⟨1,[],1,[.q (.v 0)]⟩
def N3:Fn:=⟨3,[],4,[.a (.attr (.v 0) 14) (.v 1),.a (.attr (.v 0) 26) (.v 2),.a (.attr (.v 0) 27) (.list []),.a (.attr (.v 0) 28) (.dict [] []),.r (.v 3) (vS 1 1) [.a (.sub (.attr (.v 0) 28) (.sub (.v 3) (kI 0))) (.new 2 [vS 3 0])]]⟩
def N4:Fn:=⟨1,[],1,[.a (.attr (.v 0) 26) (.b .sub (vA 0 26) (kI 1)),.i (.p .lt (vA 0 26) (kI 0)) [.expr (.call 24 [kS [102,117,101,108]])] []]⟩
def f27:Fn:=⟨2,[],2,[.i (.p .is (.v 1) (.c .none)) [.ret (kS [110,105,108])] [],.i (.o [.p .is (.v 1) (.c (.bool QI)),.p .is (.v 1) (.c (.bool QK))]) [.ret (.bm .lower (.bf .str [.v 1]) [])] [],.i (.isinst (.v 1) .int) [.ret (.bf .str [.v 1])] [],.ret (.f (.isinst (.v 1) (.own 3)) (kS [97,32,98,108,111,99,107]) (.f (.isinst (.v 1) (.own 2)) (vA 1 17) (.b .add (kS [97,32]) (vA 1 15))))]⟩
def N5:Fn:=⟨3,[],4,[vG 3 (.v 2),.w (.p .isnot (.v 3) (.c .none)) [.i (.p .isin (.v 1) (vA 3 24)) [vR 3] [],vG 3 (vA 3 21)],.ret (.c .none)]⟩
def N6:Fn:=⟨3,[],13,[vG 3 (vS 1 0),.i (eS 3 [105,110,116]) [.ret (vS 1 1)] [],.i (eS 3 [98,108,111,99,107]) [.ret (.new 3 [.v 1,.v 2])] [],.i (.p .isin (.v 3) (.tup [kS [110,97,109,101],kS [115,101,116]])) [vG 4 (vM 0 29 [vS 1 1,.v 2]),vG 5 (.f (vA 2 23) (.call 18 [vA 0 14,vA 2 23]) (.list [])),.i (eS 3 [115,101,116]) [.i (.o [.d [.p .isnot (.v 4) (.c .none),.p .isin (vS 1 1) (vA 4 25)],.d [.p .is (.v 4) (.c .none),.p .notin (vS 1 1) (.v 5)]]) [.expr (.call 24 [vS 1 1])] [],vG 6 (vM 0 30 [vS 1 2,.v 2]),.i (.p .isnot (.v 4) (.c .none)) [.a (.sub (.attr (.v 4) 24) (.sub (.v 1) (kI 1))) (.v 6)] [.a (.sub (.attr (.attr (.v 2) 22) 16) (.bm .index (.v 5) [.sub (.v 1) (kI 1)])) (.v 6)],vR 6] [],.i (.p .isnot (.v 4) (.c .none)) [.ret (.sub (vA 4 24) (vS 1 1))] [],.i (.p .isin (vS 1 1) (.v 5)) [.ret (.sub (.attr (vA 2 22) 16) (.bm .index (.v 5) [vS 1 1]))] [],.i (.p .isin (vS 1 1) (.tup [kS [115,101,108,102],kS [116,114,117,101],kS [102,97,108,115,101],kS [110,105,108]])) [.ret (.sub (.dict [[115,101,108,102],[116,114,117,101],[102,97,108,115,101],[110,105,108]] [vA 2 22,.c (.bool QI),.c (.bool QK),.c .none]) (vS 1 1))] [],.i (.p .isin (vS 1 1) (vA 0 28)) [.ret (.sub (vA 0 28) (vS 1 1))] [],.expr (.call 24 [vS 1 1])] [],.i (eS 3 [115,117,112,101,114]) [.i (.n (vA 2 23)) [.expr (.call 24 [kS [115,117,112,101,114]])] [],vG 7 (.comp1 (vM 0 30 [.v 11,.v 2]) 11 (vS 1 2)),vG 8 (.sub (.call 16 [vA 0 14,vA 2 23]) (kI 1)),.expr (vM 0 31 []),.i (.p .ne (.v 8) (kS [79,98,106,101,99,116])) [.tryV [vG 9 (.call 17 [vA 0 14,.v 8,vS 1 1])] [vG 9 (.c .none)],.i (.v 9) [.ret (vM 0 32 [.v 9,vA 2 22,.v 7])] []] [],.ret (vM 0 33 [vA 2 22,vS 1 1,.v 7])] [],vG 10 (vM 0 30 [vS 1 1,.v 2]),vG 7 (.comp1 (vM 0 30 [.v 12,.v 2]) 12 (vS 1 3)),.expr (vM 0 31 []),.i (.isinst (.v 10) (.own 1)) [.tryV [vG 9 (.call 17 [vA 0 14,vA 10 15,vS 1 2])] [vG 9 (.c .none)],.i (.v 9) [.ret (vM 0 32 [.v 9,.v 10,.v 7])] []] [],.ret (vM 0 33 [.v 10,vS 1 2,.v 7])]⟩
def f30:Fn:=⟨3,[],5,[vG 3 (.c .none),.r (.v 4) (.v 1) [.i (.p .eq (vS 4 0) (kS [114,101,116,117,114,110])) [vG 3 (vM 0 30 [vS 4 1,.v 2]),.i (.n (.attr (vA 2 20) 34)) [.expr (.call 24 [kS [100,101,97,100]])] [],.raiseO 7 [vA 2 20,.v 3]] [],vG 3 (vM 0 30 [.v 4,.v 2])],vR 3]⟩
def N7:Fn:=⟨4,[],13,[.a (.tup [.v 4,.tup [.v 5,.v 6,.v 7,.v 8]]) (.v 1),vG 9 (.new 5 []),vG 10 (.new 4 [.c .none,.v 2,.v 4,.v 9]),.updZip (vA 10 24) (.v 6) (.v 3),.a (.attr (.v 10) 25) (.bf .setOf [.v 6]),.r (.v 11) (.v 7) [.a (.sub (.attr (.v 10) 24) (.v 11)) (.c .none)],.tryO 7 12 [.expr (vM 0 12 [.v 8,.v 10]),vR 2] [.i (.p .isnot (.excAttr 12 20) (.v 9)) [.reraise] [],.ret (.excAttr 12 16)] [.a (.attr (.v 9) 34) (.c (.bool QK))]]⟩
def N8:Fn:=⟨3,[],5,[vG 3 (.new 4 [vA 1 19,.attr (vA 1 19) 22,.attr (vA 1 19) 23,.attr (vA 1 19) 20]),.updZip (vA 3 24) (.sub (vA 1 18) (kI 1)) (.v 2),.a (.attr (.v 3) 25) (.bf .setOf [.sub (vA 1 18) (kI 1)]),.r (.v 4) (.sub (vA 1 18) (kI 2)) [.a (.sub (.attr (.v 3) 24) (.v 4)) (.c .none)],.ret (vM 0 12 [.sub (vA 1 18) (kI 3),.v 3])]⟩
def N9:Fn:=⟨2,[],2,[.ret (.d [.isinst (.v 1) (.own 3),.n (.sub (vA 1 18) (kI 1))])]⟩
def Oa:Fn:=⟨4,[],7,[.i (eS 2 [112,114,105,110,116]) [.expr (.bm .append (vA 0 27) [vM 0 35 [.v 1]]),vR 1] [],.i (.d [.typeIs (.v 1) .int QK,.p .isin (.v 2) (.tup [kS [43],kS [45],kS [42],kS [60],kS [62],kS [61]])]) [.i (.typeIs (vS 3 0) .int QI) [.expr (.call 24 [.v 2])] [],vG 4 (vS 3 0),.ret (.sub (.dict [[43],[45],[42],[60],[62],[61]] [.b .add (.v 1) (.v 4),.b .sub (.v 1) (.v 4),.b .mul (.v 1) (.v 4),.p .lt (.v 1) (.v 4),.p .gt (.v 1) (.v 4),.p .eq (.v 1) (.v 4)]) (.v 2))] [],.i (eS 2 [61]) [.ret (.p .is (.v 1) (vS 3 0))] [],.i (.o [.p .is (.v 1) (.c (.bool QI)),.p .is (.v 1) (.c (.bool QK))]) [.i (eS 2 [110,111,116]) [.ret (.n (.v 1))] [],.i (.p .isin (.v 2) (.tup [kS [105,102,84,114,117,101,58],kS [105,102,70,97,108,115,101,58],kS [105,102,84,114,117,101,58,105,102,70,97,108,115,101,58],kS [97,110,100,58],kS [111,114,58]])) [.r (.v 5) (.v 3) [.i (.n (vM 0 36 [.v 5])) [.expr (.call 24 [.v 2])] []],.i (eS 2 [105,102,84,114,117,101,58,105,102,70,97,108,115,101,58]) [.ret (vM 0 37 [.f (.v 1) (vS 3 0) (vS 3 1),.list []])] [],.i (.p .eq (.v 1) (.p .isin (.v 2) (.tup [kS [105,102,84,114,117,101,58],kS [97,110,100,58]]))) [.ret (vM 0 37 [vS 3 0,.list []])] [],.ret (.f (.p .isin (.v 2) (.tup [kS [97,110,100,58],kS [111,114,58]])) (.v 1) (.c .none))] []] [],.i (.isinst (.v 1) (.own 3)) [.i (.d [.p .isin (.v 2) (.tup [kS [118,97,108,117,101],kS [118,97,108,117,101,58],kS [118,97,108,117,101,58,118,97,108,117,101,58]]),.p .eq (.bf .len [.sub (vA 1 18) (kI 1)]) (.bf .len [.v 3])]) [.ret (vM 0 37 [.v 1,.v 3])] [],.i (.d [eS 2 [119,104,105,108,101,84,114,117,101,58],vM 0 36 [.v 1],vM 0 36 [vS 3 0]]) [.w (.c (.bool QI)) [vG 6 (vM 0 37 [.v 1,.list []]),.expr (vM 0 31 []),.i (.p .is (.v 6) (.c (.bool QK))) [.ret (.c .none)] [],.i (.p .isnot (.v 6) (.c (.bool QI))) [.expr (.call 24 [kS [119,104,105,108,101,84,114,117,101,58]])] [],.expr (vM 0 37 [vS 3 0,.list []]),.expr (vM 0 31 [])]] []] [],.i (.d [.isinst (.v 1) (.own 2),eS 2 [110,101,119]]) [.ret (.new 1 [vA 1 17,.bf .len [.call 18 [vA 0 14,vA 1 17]]])] [],.expr (.call 24 [.v 2])]⟩
def f35:Fn:=⟨2,[],8,[vG 2 (.new 6 [.v 0,.v 1]),vG 3 (.new 5 []),vG 4 (.new 4 [.c .none,.c .none,.c .none,.v 3]),.r (.v 5) (vS 0 2) [.a (.sub (.attr (.v 4) 24) (.v 5)) (.c .none)],.tryO 7 7 [vG 6 (vM 2 12 [vS 0 3,.v 4])] [vG 6 (.excAttr 7 16)] [],.ret (.b .add (vA 2 27) (.list [vM 2 35 [.v 6]]))]⟩
noncomputable def Ob:Fn:=⟨2,[],2,[.ret (.b .mod (.v 0) (.v 1))]⟩
def Oc:Fn:=⟨1,[],1,[.i (.p .is (.v 0) (.c .none)) [.ret (kS [110,105,108])] [],.ret (.bf .str [.v 0])]⟩
def Od:Fn:=⟨3,[],5,[vG 3 (kI 5),vG 4 (.p .lt (.v 2) (.v 0)),.i (.v 4) [vG 3 (kI 6),vG 4 (.p .lt (.v 1) (kI 3))] [],.i (.n (.v 4)) [vG 3 (.b .add (.v 3) (kI 1)),vG 4 (.p .eq (.v 2) (.v 0))] [],.i (.v 4) [.ret (.tup [kS [102,97,108,115,101],.v 3])] [],.ret (.tup [kS [116,114,117,101],.v 3])]⟩
def Oe:Fn:=⟨7,[],14,[vG 7 (.b .mod (.v 1) (kI 5)),vG 8 (.b .mod (.v 2) (kI 5)),vG 9 (.sub (.glob 1) (.v 3)),vG 10 (.tup [.v 3,.v 4,.v 5,.v 6]),.i (.p .eq (.v 0) (kI 0)) [vG 11 (kI 1),.i (.p .gt (.v 8) (kI 2)) [vG 3 (.b .sub (.v 8) (kI 3)),vG 4 (.c .none),vG 11 (kI 2)] [],.ret (.tup [.b .add (.b .add (.sub (.glob 2) (.v 8)) (kS [32,112,117,116,58,32])) (.bf .str [.v 7]),.b .add (.v 11) (.v 3),.list [],.sub (.glob 1) (.v 3),.tup [.v 3,.v 7,.v 4,.v 6],kI 0])] [],.i (.p .eq (.v 0) (kI 1)) [.i (.p .gt (.v 8) (kI 1)) [.ret (.tup [kS [112,32,103,101,116,32,112,114,105,110,116],kI 2,.list [.call 37 [.v 4]],.call 37 [.v 4],.v 10,kI 0])] [],.i (.p .eq (.v 3) (kI 0)) [.ret (.tup [kS [112,32,111,108,100,32,112,114,105,110,116],kI 99,.list [],kS [],.v 10,kI 1])] [],.ret (.tup [kS [112,32,111,108,100,32,112,114,105,110,116],kI 2,.list [.call 37 [.v 5]],.call 37 [.v 5],.v 10,kI 0])] [],.i (.p .eq (.v 0) (kI 2)) [vG 12 (.b .add (.b .add (kS [40,112,32,45,32]) (.bf .str [.v 7])) (kS [41,32,112,114,105,110,116])),.i (.p .is (.v 4) (.c .none)) [.ret (.tup [.v 12,kI 99,.list [],kS [],.v 10,kI 1])] [],.ret (.tup [.v 12,.b .add (kI 4) (.b .mul (kI 2) (.v 3)),.list [.bf .str [.b .add (.b .sub (.v 4) (.v 7)) (.v 3)]],.bf .str [.b .add (.b .sub (.v 4) (.v 7)) (.v 3)],.v 10,kI 0])] [],.i (.p .eq (.v 0) (kI 3)) [vG 12 (.b .add (.b .add (.b .add (kS [112,32,97,116,58,32]) (.bf .str [.v 8])) (kS [32,112,117,116,58,32])) (.bf .str [.v 7])),.i (.p .lt (.v 8) (.v 7)) [.ret (.tup [.v 12,kI 3,.list [],.bf .str [.v 7],.tup [.v 3,.v 7,.v 5,.v 6],kI 0])] [],.ret (.tup [.v 12,.b .add (kI 4) (.v 3),.list [],.v 9,.tup [.v 3,.v 8,.v 4,.v 6],kI 0])] [],.i (.p .eq (.v 0) (kI 4)) [vG 12 (.b .add (kS [112,32,115,117,109,58,32]) (.bf .str [.v 7])),.i (.d [.p .gt (.v 7) (kI 0),.p .is (.v 4) (.c .none)]) [.ret (.tup [.v 12,kI 99,.list [],kS [],.v 10,kI 1])] [],.i (.p .gt (.v 7) (kI 0)) [vG 4 (.b .add (.v 4) (.b .fdiv (.b .mul (.v 7) (.b .add (.v 7) (kI 1))) (kI 2)))] [],.ret (.tup [.v 12,.b .add (kI 4) (.b .mul (kI 5) (.v 7)),.list [],.v 9,.tup [.v 3,.v 4,.v 5,.v 6],kI 0])] [],.i (.p .eq (.v 0) (kI 5)) [vG 12 (.b .add (kS [113,32,58,61,32,91,32,58,120,32,124,32,124,32,112,32,124,32,112,32,112,114,105,110,116,46,32,112,32,58,61,32,120,32,45,32,113,32,93,32,118,97,108,117,101,58,32]) (.bf .str [.v 7])),.ret (.tup [.v 12,kI 3,.list [kS [110,105,108]],.bf .str [.b .sub (.v 7) (.v 6)],.tup [.v 3,.v 4,.v 5,.b .sub (.v 7) (.v 6)],kI 0])] [],.i (.p .eq (.v 0) (kI 6)) [vG 12 (.b .add (.b .add (.b .add (.b .add (.b .add (.b .add (kS [40,40,113,32,60,32]) (.bf .str [.v 7])) (kS [32,97,110,100,58,32,91,32])) (.bf .str [.v 8])) (kS [32,60,32,51,32,93,41,32,111,114,58,32,91,32,113,32,61,32])) (.bf .str [.v 7])) (kS [32,93,41,32,110,111,116,32,112,114,105,110,116])),.a (.tup [.v 13,.v 11]) (.call 38 [.v 7,.v 8,.v 6]),.ret (.tup [.v 12,.v 11,.list [.v 13],.v 13,.v 10,kI 0])] [],.i (.p .eq (.v 0) (kI 7)) [vG 13 (kS [110,105,108]),.i (.p .gt (.v 6) (.v 7)) [vG 13 (kS [55])] [],.ret (.tup [.b .add (.b .add (kS [40,40,113,32,62,32]) (.bf .str [.v 7])) (kS [32,105,102,84,114,117,101,58,32,91,32,112,32,93,41,32,61,32,110,105,108,32,105,102,70,97,108,115,101,58,32,91,32,55,32,93,41,32,112,114,105,110,116]),kI 5,.list [.v 13],.v 13,.v 10,kI 0])] [],.i (.p .eq (.v 0) (kI 8)) [.i (.p .eq (.v 8) (kI 0)) [.ret (.tup [.b .add (.b .add (kS [112,32,100,111,58,32,91,32,94]) (.bf .str [.v 7])) (kS [32,93]),kI 2,.list [],.bf .str [.v 7],.v 10,kI 2])] [],.ret (.tup [.b .add (kS [112,32,111,117,116,58,32]) (.bf .str [.v 7]),kI 3,.list [],.bf .str [.v 7],.v 10,kI 0])] [],.i (.p .eq (.v 0) (kI 9)) [.i (.p .lt (.v 8) (kI 2)) [.ret (.tup [kS [112,32,116,101,108,108],kI 2,.list [.v 9],.v 9,.v 10,kI 0])] [],.i (.p .eq (.v 3) (kI 0)) [.ret (.tup [kS [112,32,112,114,105,110,116],kI 1,.list [.v 9],.v 9,.v 10,kI 0])] [],.ret (.tup [kS [112,32,112,114,105,110,116],kI 2,.list [.v 9],.call 37 [.v 5],.v 10,kI 0])] [],.i (.p .eq (.v 0) (kI 10)) [.a (.tup [.v 12,.v 13,.v 11]) (.sub (.glob 3) (.b .mod (.v 1) (kI 12))),.ret (.tup [.b .add (.v 12) (kS [32,112,114,105,110,116]),.b .add (.v 11) (kI 1),.list [.v 13],.v 13,.v 10,kI 0])] [],.ret (.tup [.sub (.glob 4) (.b .add (.b .mod (.v 1) (kI 12)) (.b .mul (kI 12) (.b .mod (.v 2) (kI 2)))),kI 99,.list [],kS [],.v 10,kI 1])]⟩
def f40:Fn:=⟨1,[],34,[.i (.p .lt (.bf .len [.v 0]) (kI 19)) [.ret (.c (.bool QI))] [],vG 1 (.call 36 [vS 0 0,kI 2]),vG 2 (.call 36 [vS 0 1,kI 5]),vG 3 (.c .none),vG 4 (.c .none),vG 5 (kI 1),vG 6 (.list []),vG 7 (kS []),vG 8 (kI 0),vG 9 (.list [.sub (.glob 2) (.b .add (kI 3) (.v 1)),.b .add (kS [113,32,58,61,32]) (.bf .str [.v 2])]),.r (.tup [.v 10,.v 11,.v 12]) (.tup [.tup [vS 0 6,vS 0 7,vS 0 8],.tup [vS 0 9,vS 0 10,vS 0 11],.tup [vS 0 12,vS 0 13,vS 0 14],.tup [vS 0 15,vS 0 16,vS 0 17]]) [.a (.tup [.v 13,.v 14,.v 15,.v 16,.v 17,.v 18]) (.call 39 [.call 36 [.v 10,kI 12],.v 11,.v 12,.v 1,.v 3,.v 4,.v 2]),.expr (.bm .append (.v 9) [.v 13]),.i (.p .eq (.v 8) (kI 0)) [vG 5 (.b .add (.v 5) (.v 14)),vG 6 (.b .add (.v 6) (.v 15)),vG 7 (.v 16),.a (.tup [.v 1,.v 3,.v 4,.v 2]) (.v 17),vG 8 (.v 18)] []],.i (.p .eq (.call 36 [vS 0 2,kI 3]) (kI 0)) [.expr (.bm .append (.v 9) [kS [94,113]]),.i (.p .eq (.v 8) (kI 0)) [vG 7 (.bf .str [.v 2])] []] [],vG 19 (.call 36 [vS 0 4,kI 9]),vG 20 (.call 36 [vS 0 5,kI 12]),vG 21 (kS []),vG 22 (kS [124,32]),.i (.p .eq (.v 19) (kI 0)) [vG 21 (.sub (.glob 5) (.v 20))] [],.i (.p .eq (.v 19) (kI 1)) [vG 21 (.b .add (.b .add (kS [99,108,97,115,115,32,67,32,60,32,65,32,91,32,109,32,91,32]) (.sub (.glob 6) (.v 20))) (kS [32,93,32,93]))] [],.i (.p .eq (.v 19) (kI 2)) [vG 22 (.sub (.glob 7) (.v 20))] [],vG 23 (.b .add (.b .add (.b .add (.b .add (.b .add (.glob 8) (.v 21)) (.glob 9)) (kS [124,32,112,32,113,32])) (.v 22)) (.bm .join (.sub (.glob 10) (.call 36 [vS 0 3,kI 3])) [.v 9])),vG 24 (.c .none),vG 25 (.c (.bool QK)),.tryV [vG 24 (.call 15 [.v 23])] [vG 25 (.c (.bool QI))],.i (.p .lt (.v 19) (kI 3)) [.i (.n (.v 25)) [.ret (.c (.bool QK))] [],.ret (.c (.bool QI))] [],.i (.v 25) [.ret (.c (.bool QK))] [],.i (.p .ne (.call 18 [.v 24,kS [66]]) (.list [kS [118],kS [119]])) [.ret (.c (.bool QK))] [],.a (.tup [.v 26,.v 27,.v 28]) (.sub (.glob 11) (.v 20)),vG 29 (.c .none),vG 30 (.c (.bool QK)),.tryV [vG 29 (.call 17 [.v 24,.v 26,.v 27])] [vG 30 (.c (.bool QI))],.i (.p .ne (.v 30) (eS 28 [])) [.ret (.c (.bool QK))] [],.i (.n (.v 30)) [.i (.typeIs (.v 29) .tuple QI) [.ret (.c (.bool QK))] [],.i (.o [.p .ne (vS 29 0) (.v 28),.p .ne (.sub (vS 29 1) (kI 0)) (.v 27)]) [.ret (.c (.bool QK))] []] [],vG 31 (.b .sub (.call 36 [vS 0 18,kI 5]) (kI 1)),.i (.p .eq (.v 31) (kI 3)) [vG 31 (vS 0 5)] [],.i (.p .lt (.v 31) (kI 0)) [vG 8 (kI 1)] [],vG 32 (.c .none),vG 33 (.c (.bool QK)),.tryV [vG 32 (.call 35 [.v 24,.b .add (.v 5) (.v 31)])] [vG 33 (.c (.bool QI))],.i (.p .ne (.v 33) (.p .eq (.v 8) (kI 1))) [.ret (.c (.bool QK))] [],.i (.n (.v 33)) [.i (.typeIs (.v 32) .list QI) [.ret (.c (.bool QK))] [],.i (.p .ne (.v 32) (.b .add (.v 6) (.list [.v 7]))) [.ret (.c (.bool QK))] []] [],.ret (.c (.bool QI))]⟩
def f41:Fn:=⟨2,[],3,[vG 2 (.v 1),.w (.d [.p .lt (.v 2) (.bf .len [.v 0]),.bm .isascii (.sub (.v 0) (.v 2)) [],.bm .isalnum (.sub (.v 0) (.v 2)) []]) [.augV 2 .add (kI 1)],vR 2]⟩
noncomputable def g0:AV:=(.tup [.str [99,108,97,115,115],.str [115,101,108,102],.str [115,117,112,101,114],.str [116,114,117,101],.str [102,97,108,115,101],.str [110,105,108]])
noncomputable def g1:AV:=(.tup [.str [97,32,65],.str [97,32,66]])
noncomputable def g2:AV:=(.tup [.str [112],.str [112],.str [112],.str [112,32,58,61,32,65,32,110,101,119],.str [112,32,58,61,32,66,32,110,101,119]])
noncomputable def g3:AV:=(.tup [.tup [.str [115,101,108,102],.str [110,105,108],.int 0],.tup [.str [91,32,94,49,32,93],.str [97,32,98,108,111,99,107],.int 0],.tup [.str [66],.str [66],.int 0],.tup [.str [91,32,93,32,118,97,108,117,101],.str [110,105,108],.int 1],.tup [.str [40,65,32,110,101,119,32,61,32,65,32,110,101,119,41],.str [102,97,108,115,101],.int 3],.tup [.str [40,51,32,45,32,53,32,45,32,52,32,42,32,50,41],.str [45,49,50],.int 3],.tup [.str [40,91,32,58,120,32,58,121,32,124,32,120,32,45,32,121,32,93,32,118,97,108,117,101,58,32,50,32,118,97,108,117,101,58,32,55,41],.str [45,53],.int 2],.tup [.str [40,91,32,102,97,108,115,101,32,93,32,119,104,105,108,101,84,114,117,101,58,32,91,32,93,41],.str [110,105,108],.int 2],.tup [.str [40,66,32,61,32,66,32,105,102,84,114,117,101,58,32,91,32,49,32,93,32,105,102,70,97,108,115,101,58,32,91,32,50,32,93,41],.str [49],.int 2],.tup [.str [40,50,32,62,32,50,32,105,102,84,114,117,101,58,32,91,32,49,32,93,32,105,102,70,97,108,115,101,58,32,91,32,50,32,93,41],.str [50],.int 2],.tup [.str [40,110,105,108,32,61,32,102,97,108,115,101,32,105,102,70,97,108,115,101,58,32,91,32,55,32,93,41],.str [55],.int 2],.tup [.str [40,116,114,117,101,32,105,102,70,97,108,115,101,58,32,91,32,49,32,93,41],.str [110,105,108],.int 1]])
noncomputable def g4:AV:=(.tup [.str [117],.str [117,32,58,61,32,49],.str [65,32,58,61,32,49],.str [91,32,58,120,32,124,32,120,32,58,61,32,49,32,93,32,118,97,108,117,101,58,32,50],.str [112,32,110,111,58,32,49],.str [112,32,117],.str [49,32,61,32,110,105,108],.str [49,32,43,32,116,114,117,101],.str [91,32,58,120,32,124,32,120,32,93,32,118,97,108,117,101],.str [91,32,49,32,93,32,118,97,108,117,101,58,32,50],.str [116,114,117,101,32,105,102,84,114,117,101,58,32,49],.str [116,114,117,101,32,105,102,84,114,117,101,58,32,91,32,49,32,93,32,105,102,70,97,108,115,101,58,32,50],.str [116,114,117,101,32,111,114,58,32,91,32,58,120,32,124,32,120,32,93],.str [91,32,49,32,93,32,119,104,105,108,101,84,114,117,101,58,32,91,32,93],.str [91,32,102,97,108,115,101,32,93,32,119,104,105,108,101,84,114,117,101,58,32,49],.str [91,32,58,120,32,124,32,102,97,108,115,101,32,93,32,119,104,105,108,101,84,114,117,101,58,32,91,32,93],.str [112,32,108,97,116,101,32,118,97,108,117,101],.str [115,117,112,101,114,32,112,114,105,110,116],.str [79,98,106,101,99,116],.str [118],.str [49,32,110,101,119],.str [115,101,108,102,32,103,101,116],.str [65,32,103,101,116],.str [110,105,108,32,118,97,108,117,101]])
noncomputable def g5:AV:=(.tup [.str [99,108,97,115,115,32,65,32,60,32,79,98,106,101,99,116,32,91,32,93],.str [99,108,97,115,115,32,79,98,106,101,99,116,32,60,32,65,32,91,32,93],.str [99,108,97,115,115,32,67,32,60,32,68,32,91,32,93],.str [99,108,97,115,115,32,67,32,62,32,65,32,91,32,93],.str [99,108,97,115,115,32,67,32,60,32,65,32,124,32,97,32,97,32,124,32,91,32,93],.str [99,108,97,115,115,32,67,32,60,32,65,32,124,32,124,32,91,32,93],.str [99,108,97,115,115,32,67,32,60,32,65,32,91,32,109,32,91,32,93,32,109,32,91,32,93,32,93],.str [99,108,97,115,115,32,67,32,60,32,65,32,91,32,115,101,108,102,58,32,120,32,91,32,93,32,93],.str [99,108,97,115,115,32,67,32,60,32,65,32,91,32,97,116,58,32,120,32,112,117,116,58,32,120,32,91,32,93,32,93],.str [99,108,97,115,115,32,67,32,60,32,65,32,91,32,43,32,51,32,91,32,93,32,93],.str [99,108,97,115,115,32,67,32,60,32,65,32,91,32,120,58,32,120,32,91,32,124,32,120,32,124,32,93,32,93],.str [99,108,97,115,115,32,67,32,60,32,65,32,91,32,109,32,91,32,93,32]])
noncomputable def g6:AV:=(.tup [.str [48,55],.str [51,97],.str [91,32,58,49,32,124,32,93],.str [91,32,58,32,120,32,124,32,93],.str [91,32,58,110,105,108,32,124,32,93],.str [35,32,49],.str [115,117,112,101,114],.str [49,32,43,32,115,117,112,101,114],.str [49,32,97,58,32,115,117,112,101,114],.str [91,32,58,120,32,58,120,32,124,32,93],.str [94,49,46,32,50],.str [91,32,58,120,32,46,32,120,32,93]])
noncomputable def g7:AV:=(.tup [.str [112,32,124,32],.str [124,32,52,32,53,46,32],.str [124,32,94,52,46,32],.str [124,32,52,32,93,32],.str [124,32,40,52,46,32],.str [124,32,52,41,46,32],.str [124,32,99,108,97,115,115,46,32],.str [124,32,115,117,112,101,114,46,32],.str [124,32,46,32],.str [],.str [124,32,52,32,97,58,32,46,32],.str [124,32,52,32,43,46,32]])
noncomputable def g8:AV:=(.str [99,108,97,115,115,32,65,60,79,98,106,101,99,116,124,118,124,91,112,117,116,58,32,120,91,118,58,61,120,93,103,101,116,91,94,118,93,45,118,91,94,115,101,108,102,32,103,101,116,32,45,32,118,93,116,101,108,108,91,94,115,117,112,101,114,32,112,114,105,110,116,93,97,116,58,120,32,112,117,116,58,121,91,124,116,124,116,58,61,120,46,32,116,60,121,32,105,102,84,114,117,101,58,91,94,118,58,61,121,93,46,32,115,101,108,102,32,112,117,116,58,116,93,115,117,109,58,110,91,124,105,124,105,58,61,48,46,32,91,105,60,110,93,119,104,105,108,101,84,114,117,101,58,91,105,58,61,105,43,49,46,32,118,58,61,118,43,105,93,93,100,111,58,98,91,98,32,118,97,108,117,101,46,32,118,58,61,57,93,111,117,116,58,120,91,115,101,108,102,32,100,111,58,91,94,120,93,46,32,118,58,61,56,93,108,97,116,101,91,94,91,94,49,93,93,110,111,58,120,91,120,58,61,49,93,93])
noncomputable def g9:AV:=(.str [99,108,97,115,115,32,66,32,60,32,65,124,119,124,91,112,117,116,58,120,91,119,58,61,118,46,32,115,117,112,101,114,32,112,117,116,58,120,93,111,108,100,91,94,119,93,45,120,91,94,115,117,112,101,114,32,45,32,120,32,43,32,49,93,112,114,105,110,116,91,115,117,112,101,114,32,112,114,105,110,116,46,32,94,119,93,93])
noncomputable def g10:AV:=(.tup [.str [46,32],.str [46],.str [10,46,10]])
noncomputable def Of:AV:=(.tup [.tup [.str [65],.str [103,101,116],.str [65]],.tup [.str [66],.str [103,101,116],.str [65]],.tup [.str [66],.str [112,117,116,58],.str [66]],.tup [.str [65],.str [112,117,116,58],.str [65]],.tup [.str [66],.str [97,116,58,112,117,116,58],.str [65]],.tup [.str [65],.str [111,108,100],.str []],.tup [.str [67],.str [103,101,116],.str []],.tup [.str [79,98,106,101,99,116],.str [103,101,116],.str []],.tup [.str [66],.str [112,114,105,110,116],.str [66]],.tup [.str [66],.str [45],.str [66]],.tup [.str [65],.str [112,114,105,110,116],.str []],.tup [.str [66],.str [97,116,58],.str []]])
noncomputable def asc {α:Type} (l:List (Nat×α)) (k:Nat):Option α:=List.rec QE (λe _ ih=>cond (Nat.beq e.1 k) (QA e.2) ih) l
noncomputable def asc2 {α:Type} (l:List (List (Nat×α))) (c k:Nat):Option α:=Option.rec QE (λe=>asc e k) (be l c)
noncomputable def fns:List Fn:=[f0,f1,f2,f3,f4,f5,f6,f7,f8,f9,NP,NQ,NR,NS,f14,f15,NT,NU,NV,NW,NX,NY,NZ,N1,N2,N3,N4,f27,N5,N6,f30,N7,N8,N9,Oa,f35,Ob,Oc,Od,Oe,f40,f41]
noncomputable def meths:List (List (Nat×Nat)):=[[(2,2),(3,3),(4,4),(10,5),(11,6),(12,7),(5,8),(8,9),(6,10),(7,11),(9,12),(13,13),(14,14)],[],[],[],[],[],[(31,26),(35,27),(29,28),(30,29),(12,30),(32,31),(37,32),(36,33),(33,34)],[]]
noncomputable def inits:List (Nat×Nat):=[(0,1),(1,19),(2,20),(3,21),(4,23),(6,25)]
noncomputable def cattrs:List (List (Nat×AV)):=[[],[],[],[],[],[(34,(.bool QI))],[],[]]
noncomputable def excs:List (List (Nat×Nat)):=[[],[],[],[],[],[],[],[(20,0),(16,1)]]
noncomputable def globs:List AV:=[g0,g1,g2,g3,g4,g5,g6,g7,g8,g9,g10,Of]
end P3
noncomputable def Pg:LB:={fn:=be P3.fns,meth:=P3.asc2 P3.meths,init:=P3.asc P3.inits,cattr:=P3.asc2 P3.cattrs,excf:=P3.asc2 P3.excs,glob:=be P3.globs,QC:=41}
noncomputable abbrev N:Nat:=4000
noncomputable def aE:Nat:=1048576
noncomputable def Ct:Nat:=100
mutual
inductive kW:Nat->AV->AV->Bool->Prop
 |ss (n:Nat) (a b:List Nat):kW n (.str a) (.str b) (a==b)
 |ii (n:Nat) (a b:Int):kW n (.int a) (.int b) (a==b)
 |bb (n:Nat) (a b:Bool):kW n (.bool a) (.bool b) (a==b)
 |si (n:Nat) (a:List Nat) (b:Int):kW n (.str a) (.int b) QK
 |is (n:Nat) (a:Int) (b:List Nat):kW n (.int a) (.str b) QK
 |st (n:Nat) (a:List Nat) (b:List AV):kW n (.str a) (.tup b) QK
 |ts (n:Nat) (a:List AV) (b:List Nat):kW n (.tup a) (.str b) QK
 |tt (n:Nat) (a b:List AV) (k:Bool):gJ n a b k->kW (n+1) (.tup a) (.tup b) k
inductive gJ:Nat->List AV->List AV->Bool->Prop
 |nn (n:Nat):gJ n [] [] QI
 |nc (n:Nat) (y:AV) (ys:List AV):gJ n [] (y::ys) QK
 |cn (n:Nat) (x:AV) (xs:List AV):gJ n (x::xs) [] QK
 |cc (n:Nat) (x y:AV) (xs ys:List AV) (a b:Bool):kW n x y a->gJ n xs ys b->gJ n (x::xs) (y::ys) (a&&b)
end
inductive ju(x:AV):List AV->Bool->Prop
 |nil:ju x [] QK
 |cons (y:AV) (ys:List AV) (a b:Bool):kW Ct y x a->ju x ys b->ju x (y::ys) (a||b)
inductive eY:AV->AV->Bool->Prop
 |nn:eY .none .none QI
 |bb (a b:Bool):eY (.bool a) (.bool b) (a==b)
 |oo (i j:Nat):eY (.obj i) (.obj j) (i==j)
 |xn (a:AV):a.ctorIdx≠0->eY a .none QK
 |nx (a:AV):a.ctorIdx≠0->eY .none a QK
 |xb (a:AV) (b:Bool):a.ctorIdx≠1->eY a (.bool b) QK
theorem nn{α:Type}{x:α}{P:Prop}(h:QE=QA x):P:=nomatch h
theorem ff{P:Prop}(h:QK=QI):P:=nomatch h
noncomputable def LC (o:az):Option (List AV):=az.casesOn o QA (λu=>QE) (λu=>QE) λu u=>QE
theorem Jj{o:az}{vs:List AV}(h:LC o=QA vs):o=.list vs:=az.casesOn (motive:=λo=>LC o=QA vs->o=.list vs) o (λws h=>PK _ (OO h)) (λu h=>nn h) (λu h=>nn h) (λu u h=>nn h) h
noncomputable def fL (J:Hp) (k:Nat):Option (List AV):=J[k]?.bind LC
theorem fM{J:Hp}{k:Nat}{vs:List AV}(h:fL J k=QA vs):J[k]?=QA (.list vs):=(Qd.mp h).elim λo p=>p.1.trans (PK QA (Jj p.2))
theorem jQ{J:Hp}{k:Nat}{vs:List AV}(e:J[k]?=QA (.list vs)):fL J k=QA vs:=Qd.mpr ⟨_,e,rfl⟩
noncomputable def du (J:Hp) (v:AV):Option (List AV):=AV.casesOn (motive_1:=λu=>Option (List AV)) v QE (λu=>QE) (λu=>QE) (λu=>QE) (λu=>QE) QA (λk=>fL J k) (λu u=>QE) QE
noncomputable def bF (v:AV):Bool:=AV.casesOn (motive_1:=λu=>Bool) v QI (λu=>QI) (λu=>QI) (λu=>QI) (λu=>QI) (λu=>QI) (λu=>QI) (λu u=>QK) QK
inductive Ck(J:Hp)(a b:AV):Bool->Prop
 |v (k:Bool):kW Ct a b k->Ck J a b k
 |ll (xs ys:List AV) (k:Bool):du J a=QA xs->du J b=QA ys->xs.length=ys.length->gJ Ct xs ys k->Ck J a b k
 |ld (xs ys:List AV):du J a=QA xs->du J b=QA ys->xs.length≠ys.length->Ck J a b QK
noncomputable def d4 (s:List Nat):List Nat->Bool:=List.rec (λu=>QI) (λx u ih t=>List.casesOn t QK λy ys=>x==y&&ih ys) s
noncomputable def iw (s t:List Nat):Bool:=List.rec s.isEmpty (λy ys ih=>d4 s (y::ys)||ih) t
theorem oY(x y:Nat)(xs ys:List Nat):d4 (x::xs) (y::ys)=(x==y&&d4 xs ys):=rfl
theorem yL(s:List Nat)(y:Nat)(ys:List Nat):iw s (y::ys)=(d4 s (y::ys)||iw s ys):=rfl
noncomputable def bY (l:List AV):Option (List (List Nat)):=List.rec (QA []) (λv u ih=>AV.casesOn (motive_1:=λu=>Option (List (List Nat))) v QE (λu=>QE) (λu=>QE) (λs=>ih.map (s:: ·)) (λu=>QE) (λu=>QE) (λu=>QE) (λu u=>QE) QE) l
inductive InR(J:Hp):AV->AV->Bool->Prop
 |tup (x:AV) (vs:List AV) (k:Bool):ju x vs k->InR J x (.tup vs) k
 |lst (x c:AV) (vs:List AV) (k:Bool):du J c=QA vs->ju x vs k->InR J x c k
 |txt (s t:List Nat):InR J (.str s) (.str t) (iw s t)
 |dict (s:List Nat) (j:Nat) (es:List (List Nat×AV)):J[j]?=QA (.dict es)->InR J (.str s) (.obj j) (es.any λe=>e.1==s)
 |sset (s:List Nat) (j:Nat) (ss:List (List Nat)):J[j]?=QA (.sset ss)->InR J (.str s) (.obj j) (ss.contains s)
noncomputable def truthy (J:Hp) (v:AV):Option Bool:=AV.casesOn (motive_1:=λu=>Option Bool) v (QA QK) QA (λi=>QA (i != 0)) (λs=>QA (!s.isEmpty)) (λvs=>QA (!vs.isEmpty)) (λu=>QE) (λk=>(fL J k).map λvs=> !vs.isEmpty) (λu u=>QE) QE
noncomputable def fN (i:Int):Bool:=decide (-4611686018427387904<i)&&decide (i<4611686018427387904)
inductive jv(J:Hp):Bop->AV->AV->AV->Hp->Prop
 |addI (x y:Int):jv J .add (.int x) (.int y) (.int (x+y)) J
 |subI (x y:Int):jv J .sub (.int x) (.int y) (.int (x - y)) J
 |mulI (x y:Int):fN x=QI->fN y=QI->jv J .mul (.int x) (.int y) (.int (x*y)) J
 |modI (x y:Int):y≠0->jv J .mod (.int x) (.int y) (.int (Int.fmod x y)) J
 |divI (x y:Int):0<y->y<1000->jv J .fdiv (.int x) (.int y) (.int (Int.fdiv x y)) J
 |addS (x y:List Nat):(x++y).length<=aE->jv J .add (.str x) (.str y) (.str (x++y)) J
 |addT (x y:List AV):(x++y).length<=aE->jv J .add (.tup x) (.tup y) (.tup (x++y)) J
 |addL (i j:Nat) (x y:List AV):J[i]?=QA (.list x)->J[j]?=QA (.list y)->(x++y).length<=aE->jv J .add (.obj i) (.obj j) (.obj J.length) (J++[.list (x++y)])
 |mulL (i:Nat) (n:Int) (x:AV):J[i]?=QA (.list [x])->0<=n->n.toNat<=aE->jv J .mul (.obj i) (.int n) (.obj J.length) (J++[.list (List.replicate n.toNat x)])
inductive kX:Bop->AV->AV->AV->Prop
 |addI (x y:Int):kX .add (.int x) (.int y) (.int (x+y))
 |addS (x y:List Nat):(x++y).length<=aE->kX .add (.str x) (.str y) (.str (x++y))
inductive eQ(J:Hp):oz->AV->AV->Bool->Prop
 |eq (a b:AV) (k:Bool):Ck J a b k->eQ J .eq a b k
 |ne (a b:AV) (k:Bool):Ck J a b k->eQ J .ne a b (!k)
 |lt (x y:Int):eQ J .lt (.int x) (.int y) (decide (x<y))
 |gt (x y:Int):eQ J .gt (.int x) (.int y) (decide (y<x))
 |isin (a b:AV) (k:Bool):InR J a b k->eQ J .isin a b k
 |notin (a b:AV) (k:Bool):InR J a b k->eQ J .notin a b (!k)
 |is (a b:AV) (k:Bool):eY a b k->eQ J .is a b k
 |isnot (a b:AV) (k:Bool):eY a b k->eQ J .isnot a b (!k)
noncomputable def eR (s:List Nat) (l:List (List Nat×AV)):Option AV:=List.rec QE (λe u ih=>if e.1=s then QA e.2 else ih) l
noncomputable def bC (s:List Nat) (v:AV) (l:List (List Nat×AV)):List (List Nat×AV):=List.rec [(s,v)] (λe r ih=>if e.1=s then(e.1,v)::r else e::ih) l
noncomputable def aR (f:Nat) (l:List (Nat×AV)):Option AV:=List.rec QE (λe u ih=>if e.1=f then QA e.2 else ih) l
noncomputable def bU (f:Nat) (v:AV) (l:List (Nat×AV)):List (Nat×AV):=List.rec [(f,v)] (λe r ih=>if e.1=f then(e.1,v)::r else e::ih) l
theorem oZ(s:List Nat)(e:List Nat×AV)(r:List (List Nat×AV)):eR s (e::r)=if e.1=s then QA e.2 else eR s r:=rfl
theorem kY(s:List Nat)(v:AV)(e:List Nat×AV)(r:List (List Nat×AV)):bC s v (e::r)=if e.1=s then(e.1,v)::r else e::bC s v r:=rfl
theorem jR(f:Nat)(e:Nat×AV)(r:List (Nat×AV)):aR f (e::r)=if e.1=f then QA e.2 else aR f r:=rfl
theorem rZ(f:Nat)(v:AV)(e:Nat×AV)(r:List (Nat×AV)):bU f v (e::r)=if e.1=f then(e.1,v)::r else e::bU f v r:=rfl
inductive mT(J:Hp):AV->AV->AV->Prop
 |tup (vs:List AV) (n:Nat) (v:AV):vs[n]?=QA v->mT J (.tup vs) (.int n) v
 |lst (a:AV) (vs:List AV) (n:Nat) (v:AV):du J a=QA vs->vs[n]?=QA v->mT J a (.int n) v
 |txt (x:List Nat) (n:Nat) (c:Nat):x[n]?=QA c->mT J (.str x) (.int n) (.str [c])
 |dict (j:Nat) (es:List (List Nat×AV)) (s:List Nat) (v:AV):J[j]?=QA (.dict es)->eR s es=QA v->mT J (.obj j) (.str s) v
inductive fW:AV->AV->AV->AV->Prop
 |txt (x:List Nat) (i j:Nat):fW (.str x) (.int i) (.int j) (.str ((x.take j).drop i))
inductive iy(J:Hp):AV->Nat->AV->Prop
 |own (k c:Nat) (fs:List (Nat×AV)) (f:Nat) (v:AV):J[k]?=QA (.inst c fs)->Pg.meth c f=QE->aR f fs=QA v->iy J (.obj k) f v
 |cls (k c:Nat) (fs:List (Nat×AV)) (f:Nat) (v:AV):J[k]?=QA (.inst c fs)->Pg.meth c f=QE->aR f fs=QE->Pg.cattr c f=QA v->iy J (.obj k) f v
inductive jS(J:Hp)(v:AV):AV->Nat->Hp->Prop
 |mk (k c:Nat) (fs:List (Nat×AV)) (f:Nat):J[k]?=QA (.inst c fs)->Pg.meth c f=QE->fs.length<100->jS J v (.obj k) f (J.set k (.inst c (bU f v fs)))
inductive oB(J:Hp)(v:AV):AV->AV->Hp->Prop
 |lst (k n:Nat) (vs:List AV):J[k]?=QA (.list vs)->n<vs.length->oB J v (.obj k) (.int n) (J.set k (.list (vs.set n v)))
 |dict (k:Nat) (es:List (List Nat×AV)) (s:List Nat):J[k]?=QA (.dict es)->es.length<aE->oB J v (.obj k) (.str s) (J.set k (.dict (bC s v es)))
noncomputable def aL (s:List Nat):Bool:=s.all (·<128)
noncomputable def kZ (c:Nat):Bool:=(65<=c&&c<=90)||(97<=c&&c<=122)
noncomputable def eZ (c:Nat):Bool:=48<=c&&c<=57
noncomputable def jw (c:Nat):Bool:=kZ c||eZ c
noncomputable def iz (s:List Nat):Nat:=s.foldl (λa c=>a*10+(c - 48)) 0
noncomputable def am (i:Int):List Nat:=(toString i).toList.map Char.toNat
noncomputable def eM (acc l:List (List Nat)):List (List Nat):=List.rec (λacc=>acc) (λs u ih acc=>if acc.contains s then ih acc else ih (acc++[s])) l acc
theorem Cu(acc:List (List Nat))(s:List Nat)(r:List (List Nat)):eM acc (s::r)=if acc.contains s then eM acc r else eM (acc++[s]) r:=rfl
noncomputable def jl (sep:List Nat) (l:List (List Nat)):List Nat:=List.rec [] (λs r ih=>List.casesOn r s λu u=>s++sep++ih) l
theorem vP(sep x y:List Nat)(ys:List (List Nat)):jl sep (x::y::ys)=x++sep++jl sep (y::ys):=rfl
noncomputable def b8 (J:Hp) (v:AV):Option (List AV):=AV.casesOn (motive_1:=λu=>Option (List AV)) v QE (λu=>QE) (λu=>QE) (λu=>QE) QA QA (λk=>fL J k) (λu u=>QE) QE
inductive r7(J:Hp):Bf->List AV->AV->Hp->Prop
 |lenS (x:List Nat):r7 J .len [.str x] (.int x.length) J
 |lenT (vs:List AV):r7 J .len [.tup vs] (.int vs.length) J
 |lenL (a:AV) (vs:List AV):du J a=QA vs->r7 J .len [a] (.int vs.length) J
 |lenM (k:Nat) (ss:List (List Nat)):J[k]?=QA (.sset ss)->r7 J .len [.obj k] (.int ss.length) J
 |strI (i:Int):fN i=QI->r7 J .str [.int i] (.str (am i)) J
 |strS (x:List Nat):r7 J .str [.str x] (.str x) J
 |strB (b:Bool):r7 J .str [.bool b] (.str (if b=QI then[84,114,117,101] else[70,97,108,115,101])) J
 |intS (x:List Nat):x.all eZ=QI->x≠[]->x.length<=100->r7 J .int [.str x] (.int (iz x)) J
 |setOf (a:AV) (vs:List AV) (ss:List (List Nat)):b8 J a=QA vs->bY vs=QA ss->ss.length<4000->r7 J .setOf [a] (.obj J.length) (J++[.sset (eM [] ss)])
 |set0:r7 J .set0 [] (.obj J.length) (J++[.sset []])
 |listOf (a:AV) (vs:List AV):b8 J a=QA vs->r7 J .listOf [a] (.obj J.length) (J++[.list vs])
 |tupleOf (a:AV) (vs:List AV):b8 J a=QA vs->r7 J .tupleOf [a] (.tup vs) J
noncomputable def d9 (s:List Nat) (l:List (List Nat)):Option Nat:=List.rec QE (λx u ih=>if x=s then QA 0 else ih.map (·+1)) l
theorem uA(s x:List Nat)(xs:List (List Nat)):d9 s (x::xs)=if x=s then QA 0 else(d9 s xs).map (·+1):=rfl
inductive vQ(J:Hp):Bm->AV->List AV->AV->Hp->Prop
 |append (k:Nat) (vs:List AV) (v:AV):J[k]?=QA (.list vs)->vs.length<aE->vQ J .append (.obj k) [v] .none (J.set k (.list (vs++[v])))
 |index (k:Nat) (vs:List AV) (ss:List (List Nat)) (t:List Nat) (j:Nat):J[k]?=QA (.list vs)->bY vs=QA ss->d9 t ss=QA j->vQ J .index (.obj k) [.str t] (.int j) J
 |isascii (x:List Nat):vQ J .isascii (.str x) [] (.bool (aL x)) J
 |isalnum (x:List Nat):aL x=QI->vQ J .isalnum (.str x) [] (.bool (x.all jw&& !x.isEmpty)) J
 |isalpha (x:List Nat):aL x=QI->vQ J .isalpha (.str x) [] (.bool (x.all kZ&& !x.isEmpty)) J
 |isdigit (x:List Nat):aL x=QI->vQ J .isdigit (.str x) [] (.bool (x.all eZ&& !x.isEmpty)) J
 |join (sep:List Nat) (a:AV) (vs:List AV) (ss:List (List Nat)):b8 J a=QA vs->bY vs=QA ss->(ss.map λx=>x.length+sep.length).sum<=aE->vQ J .join (.str sep) [a] (.str (jl sep ss)) J
 |lowT:vQ J .lower (.str [84,114,117,101]) [] (.str [116,114,117,101]) J
 |lowF:vQ J .lower (.str [70,97,108,115,101]) [] (.str [102,97,108,115,101]) J
inductive o4(J:Hp):Bm->AV->Prop
 |append (k:Nat) (vs:List AV):J[k]?=QA (.list vs)->o4 J .append (.obj k)
 |index (k:Nat) (vs:List AV):J[k]?=QA (.list vs)->o4 J .index (.obj k)
 |isascii (x:List Nat):o4 J .isascii (.str x)
 |isalnum (x:List Nat):o4 J .isalnum (.str x)
 |isalpha (x:List Nat):o4 J .isalpha (.str x)
 |isdigit (x:List Nat):o4 J .isdigit (.str x)
 |join (x:List Nat):o4 J .join (.str x)
 |lower (x:List Nat):o4 J .lower (.str x)
inductive jx(J:Hp):AV->Ty->Bool->Prop
 |oo (k c:Nat) (fs:List (Nat×AV)) (d:Nat):J[k]?=QA (.inst c fs)->jx J (.obj k) (.own d) (c==d)
 |oi (k c:Nat) (fs:List (Nat×AV)):J[k]?=QA (.inst c fs)->jx J (.obj k) .int QK
 |ni:jx J .none .int QK
 |no (d:Nat):jx J .none (.own d) QK
 |bo (b:Bool) (d:Nat):jx J (.bool b) (.own d) QK
 |io (i:Int) (d:Nat):jx J (.int i) (.own d) QK
 |ii (i:Int):jx J (.int i) .int QI
inductive xk(J:Hp):AV->Ty->Bool->Prop
 |ii (i:Int):xk J (.int i) .int QI
 |bi (b:Bool):xk J (.bool b) .int QK
 |ni:xk J .none .int QK
 |si (x:List Nat):xk J (.str x) .int QK
 |oi (k c:Nat) (fs:List (Nat×AV)):J[k]?=QA (.inst c fs)->xk J (.obj k) .int QK
 |tt (vs:List AV):xk J (.tup vs) .tuple QI
 |ll (a:AV) (vs:List AV):du J a=QA vs->xk J a .list QI
inductive Src where
 |fixed (vs:List AV)
 |lst (k:Nat)
 |rng (n:Nat)
noncomputable def o8 (J:Hp) (v:AV):Option Src:=AV.casesOn (motive_1:=λu=>Option Src) v QE (λu=>QE) (λu=>QE) (λu=>QE) (λvs=>QA (.fixed vs)) (λvs=>QA (.fixed vs)) (λk=>(fL J k).map λu=>.lst k) (λu u=>QE) QE
noncomputable def ot (J:Hp) (i:Nat) (c:Src):Option (Option AV):=Src.casesOn c (λvs=>QA vs[i]?) (λk=>(fL J k).map λvs=>vs[i]?) λn=>QA (if i<n then QA (.int i) else QE)
abbrev KV:=AV->Hp->Prop
abbrev KL:=List AV->Hp->Prop
abbrev KE:=aH->Hp->Prop
abbrev KS:=Flow->Loc->Hp->Prop
abbrev Call:=Nat->List AV->Hp->KV->KE->Prop
def cC{α:Type}(o:Option α)(k:α->Prop):Prop:=match o with
 |some a=>k a
 |none=>False
def cL(U:Loc)(i:Nat)(k:AV->Prop):Prop:=match U[i]? with
 |some (QA v)=>k v
 |_=>False
def yM(v:AV)(k:Prop):Prop:=match v with
 |.word=>k
 |_=>False
def yN(v:AV)(k:List Nat->Prop):Prop:=match v with
 |.str s=>k s
 |_=>False
def Jk(v:AV)(k:Nat->List AV->Prop):Prop:=AV.casesOn (motive_1:=λu=>Prop) v False (λu=>False) (λu=>False) (λu=>False) (λu=>False) (λu=>False) (λu=>False) k False
def vT(J:Hp)(v:AV)(k:Nat->Nat->List (Nat×AV)->Prop):Prop:=∃j c fs,v=.obj j/\J[j]?=QA (.inst c fs)/\k j c fs
def uB(J:Hp)(j:Nat)(k:Prop):Prop:=J[j]?=QA (.dict [])/\k
def Fm(v:AV)(k:Prop):Prop:=AV.casesOn (motive_1:=λu=>Prop) v k (λu=>False) (λu=>False) (λu=>False) (λu=>False) (λu=>False) (λu=>False) (λu u=>False) False
def cM(b:Bool)(x y:Prop):Prop:=match b with
 |true=>x
 |false=>y
def o9(step:AV->Hp->KV->KE->Prop)(src:Src)(Er:KE)(K:KL):Nat->Nat->List AV->Hp->Prop
 |0,_,_,_=>False
 |n+1,i,acc,J=>cC (ot J i src) λo=>match o with
  |none=>K acc J
  |some v=>step v J (λy J=>o9 step src Er K n (i+1) (acc++[y]) J) Er
section
variable(F:Call)
mutual
def cR:PE->Loc->Hp->KV->KE->Prop
 |.v i,U,J,K,_=>cL U i λv=>bF v=QI/\K v J
 |.glob g,_,J,K,_=>cC (Pg.glob g) λv=>K v J
 |.c c,_,J,K,_=>K c J
 |.tup es,U,J,K,Er=>jj es U J (λvs J=>K (.tup vs) J) Er
 |.list es,U,J,K,Er=>jj es U J (λvs J=>K (.obj J.length) (J++[.list vs])) Er
 |.dict ks es,U,J,K,Er=>jj es U (J++[.dict []]) (λvs J'=>uB J' J.length (K (.obj J.length) (J'.set J.length (.dict (ks.zip vs))))) Er
 |.b op l r,U,J,K,Er=>cR l U J (λa J=>cR r U J (λb J=>∃v J1,jv J op a b v J1/\K v J1) Er) Er
 |.p op l r,U,J,K,Er=>cR l U J (λa J=>cR r U J (λb J=>∃k,eQ J op a b k/\K (.bool k) J) Er) Er
 |.d es,U,J,K,Er=>IJ QI es U J K Er
 |.o es,U,J,K,Er=>IJ QK es U J K Er
 |.n e,U,J,K,Er=>cR e U J (λv J=>cC (truthy J v) λb=>K (.bool (!b)) J) Er
 |.f t a b,U,J,K,Er=>cR t U J (λv J=>cC (truthy J v) λc=>cM c (cR a U J K Er) (cR b U J K Er)) Er
 |.sub e i,U,J,K,Er=>cR e U J (λa J=>cR i U J (λb J=>∃v,mT J a b v/\K v J) Er) Er
 |.slice e lo hi,U,J,K,Er=>cR e U J (λa J=>LD lo U J (λl J=>LD hi U J (λh J=>∃v,fW a l h v/\K v J) Er) Er) Er
 |.attr e f,U,J,K,Er=>cR e U J (λa J=>∃v,iy J a f v/\K v J) Er
 |.call f args,U,J,K,Er=>jj args U J (λvs J=>F f vs J K Er) Er
 |.new c args,U,J,K,Er=>jj args U J (λvs J=>match Pg.init c with
  |none=>vs=[]/\K (.obj J.length) (J++[.inst c []])
  |some f=>F f (.obj J.length::vs) (J++[.inst c []]) (λr J'=>Fm r (K (.obj J.length) J')) Er) Er
 |.meth e m args,U,J,K,Er=>cR e U J (λa J=>vT J a λk c fs=>cC (Pg.meth c m) λf=>aR m fs=QE/\jj args U J (λvs J=>F f (.obj k::vs) J K Er) Er) Er
 |.bf f args,U,J,K,Er=>jj args U J (λvs J=>∃v J1,r7 J f vs v J1/\K v J1) Er
 |.bm m e args,U,J,K,Er=>cR e U J (λa J=>o4 J m a/\jj args U J (λvs J=>∃v J1,vQ J m a vs v J1/\K v J1) Er) Er
 |.isinst e t,U,J,K,Er=>cR e U J (λa J=>∃b,jx J a t b/\K (.bool b) J) Er
 |.typeIs e t neg,U,J,K,Er=>cR e U J (λa J=>∃b,xk J a t b/\K (.bool (b != neg)) J) Er
 |.callv i t args,U,J,K,Er=>cL U i λw=>yM w (cL U t λv=>yN v λs=>jj args U J (λvs J=>F Pg.QC (.str s::vs) J K Er) Er)
 |.excAttr i f,U,J,K,_=>cL U i λx=>Jk x λc fs=>cC (Pg.excf c f) λj=>cC fs[j]? λv=>K v J
 |.comp1 elt v it,U,J,K,Er=>cR it U J (λa J=>cC (o8 J a) λsrc=>o9 (λx J K Er=>cR elt (U.set v (QA x)) J K Er) src Er (λvs J=>vs.length<=aE/\K (.obj J.length) (J++[.list vs])) N 0 [] J) Er
def jj:List PE->Loc->Hp->KL->KE->Prop
 |[],_,J,K,_=>K [] J
 |e::es,U,J,K,Er=>cR e U J (λv J=>jj es U J (λvs J=>K (v::vs) J) Er) Er
def IJ:Bool->List PE->Loc->Hp->KV->KE->Prop
 |_,[],_,_,_,_=>False
 |w,e::es,U,J,K,Er=>match es with
  |[]=>cR e U J K Er
  |_::_=>cR e U J (λv J=>cC (truthy J v) λb=>cM (b==w) (IJ w es U J K Er) (K v J)) Er
def LD:Option PE->Loc->Hp->KV->KE->Prop
 |none,_,J,K,_=>K .none J
 |some e,U,J,K,Er=>cR e U J K Er
end
mutual
def yO:PT->AV->Loc->Hp->KS->Prop
 |.v i,v,U,J,K=>i<U.length/\K .next (U.set i (QA v)) J
 |.tup ts,v,U,J,K=>match v with
  |.tup vs=>vs.length=ts.length/\Cv ts vs U J K
  |_=>False
 |.attr e f,v,U,J,K=>cR F e U J (λa J=>∃J1,jS J v a f J1/\K .next U J1) λer J=>K (.err er) U J
 |.sub e i,v,U,J,K=>cR F e U J (λa J=>cR F i U J (λb J=>∃J1,oB J v a b J1/\K .next U J1) λer J=>K (.err er) U J) λer J=>K (.err er) U J
def Cv:List PT->List AV->Loc->Hp->KS->Prop
 |[],[],U,J,K=>K .next U J
 |t::ts,v::vs,U,J,K=>yO t v U J λfl U J=>match fl with
  |.next=>Cv ts vs U J K
  |.err er=>K (.err er) U J
  |_=>False
 |_,_,_,_,_=>False
end
def lT(again:Loc->Hp->Prop)(K:KS):KS:=λfl U J=>match fl with
 |.next=>again U J
 |.cont=>again U J
 |.brk=>K .next U J
 |.ret v=>K (.ret v) U J
 |.err e=>K (.err e) U J
def eE(test:Loc->Hp->(Bool->Hp->Prop)->KE->Prop)(body:Loc->Hp->KS->Prop)(K:KS):Nat->Loc->Hp->Prop
 |0,_,_=>False
 |n+1,U,J=>test U J (λb J=>cM b (body U J (lT (eE test body K n) K)) (K .next U J)) λer J=>K (.err er) U J
def qd(bind:AV->Loc->Hp->KS->Prop)(body:Loc->Hp->KS->Prop)(src:Src)(K:KS):Nat->Nat->Loc->Hp->Prop
 |0,_,_,_=>False
 |n+1,i,U,J=>cC (ot J i src) λo=>match o with
  |none=>K .next U J
  |some v=>bind v U J λfl U J=>match fl with
   |.next=>body U J (lT (qd bind body src K n (i+1)) K)
   |.err er=>K (.err er) U J
   |_=>False
def fO(e:PE)(U:Loc)(J:Hp)(K:Bool->Hp->Prop)(Er:KE):Prop:=cR F e U J (λv J=>cC (truthy J v) λb=>K b J) Er
noncomputable def dw (ss:List (List Nat)):List AV->List (List Nat×AV)->List (List Nat×AV):=List.rec (λu es=>es) (λs u ih vs es=>List.casesOn vs es λv vs=>ih vs (bC s v es)) ss
noncomputable def Og (o:Option AV):Bool:=Option.rec QI (λv=>AV.casesOn (motive_1:=λu=>Bool) v QI (λu=>QI) (λu=>QI) (λu=>QI) (λu=>QI) (λu=>QI) (λu=>QI) (λu u=>QK) QI) o
noncomputable def aP (U:Loc):Bool:=U.all Og
def bP(hd:Option aH):Call:=match hd with
 |none=>F
 |some _=>λu u u u u=>False
def r8(hd:Option aH)(f:Option aH->Loc->Hp->KS->Prop)(K:KS):KS:=λfl U J=>f (Flow.casesOn fl hd hd hd (λu=>hd) QA) U J λfl' U J=>Flow.casesOn fl' (aP U=QI/\K fl U J) False False (λu=>False) λu=>False
def Cw(dv av bv:AV)(J:Hp)(k:Hp->Prop):Prop:=∃j es ws ss vs,dv=.obj j/\J[j]?=QA (.dict es)/\b8 J av=QA ws/\bY ws=QA ss/\b8 J bv=QA vs/\es.length+ss.length<=aE/\k (J.set j (.dict (dw ss vs es)))
mutual
def ux:PS->Option aH->Loc->Hp->KS->Prop
 |.expr e,hd,U,J,K=>cR (bP F hd) e U J (λu J=>K .next U J) λer J=>K (.err er) U J
 |.a t e,hd,U,J,K=>cR (bP F hd) e U J (λv J=>yO (bP F hd) t v U J K) λer J=>K (.err er) U J
 |.augV i op e,hd,U,J,K=>cL U i λa=>cR (bP F hd) e U J (λb J=>∃c,kX op a b c/\K .next (U.set i (QA c)) J) λer J=>K (.err er) U J
 |.augA o f op e,hd,U,J,K=>cR (bP F hd) o U J (λov J=>∃a,iy J ov f a/\cR (bP F hd) e U J (λb J=>∃c,kX op a b c/\∃J1,jS J c ov f J1/\K .next U J1) λer J=>K (.err er) U J) λer J=>K (.err er) U J
 |.i t a b,hd,U,J,K=>fO (bP F hd) t U J (λc J=>cM c (ax a hd U J K) (ax b hd U J K)) λer J=>K (.err er) U J
 |.w t b,hd,U,J,K=>eE (fO (bP F hd) t) (ax b hd) K N U J
 |.r t e b,hd,U,J,K=>cR (bP F hd) e U J (λv J=>cC (o8 J v) λsrc=>qd (yO (bP F hd) t) (ax b hd) src K N 0 U J) λer J=>K (.err er) U J
 |.ret e,hd,U,J,K=>cR (bP F hd) e U J (λv J=>K (.ret v) U J) λer J=>K (.err er) U J
 |.q e,hd,U,J,K=>hd=QE/\cR F e U J (λu J=>K (.err .verr) U J) λer J=>K (.err er) U J
 |.raiseO c args,hd,U,J,K=>hd=QE/\jj F args U J (λvs J=>K (.err (.own c vs)) U J) λer J=>K (.err er) U J
 |.reraise,hd,U,J,K=>cC hd λe=>K (.err e) U J
 |.tryV b h,hd,U,J,K=>ax b hd U J λfl U J=>match fl with
  |.err .verr=>ax h (QA .verr) U J λfl U J=>aP U=QI/\K fl U J
  |fl=>K fl U J
 |.tryO c x b h f,hd,U,J,K=>ax b hd U J λfl U J=>match fl with
  |.err (.own c' fs)=>(c'=c/\ax h (QA (.own c' fs)) (U.set x (QA (.exc c' fs))) J λfl U J=>aP (U.set x QE)=QI/\r8 hd (ax f) K fl (U.set x QE) J)\/(c'≠c/\r8 hd (ax f) K (.err (.own c' fs)) U J)
  |fl=>r8 hd (ax f) K fl U J
 |.updZip d a b,hd,U,J,K=>cR (bP F hd) d U J (λdv J=>cR (bP F hd) a U J (λav J=>cR (bP F hd) b U J (λbv J=>Cw dv av bv J λJ=>K .next U J)
   λer J=>K (.err er) U J) λer J=>K (.err er) U J) λer J=>K (.err er) U J
 |.defW i t,_,U,J,K=>cL U t λv=>yN v λu=>K .next (U.set i (QA .word)) J
 |.brk,_,U,J,K=>K .brk U J
 |.cont,_,U,J,K=>K .cont U J
def ax:List PS->Option aH->Loc->Hp->KS->Prop
 |[],_,U,J,K=>K .next U J
 |s::ss,hd,U,J,K=>ux s hd U J λfl U J=>match fl with
  |.next=>ax ss hd U J K
  |fl=>K fl U J
end
end
noncomputable def cD (f:Fn) (args:List AV):Option Loc:=
 if args.length<=f.np/\f.np<=args.length+f.dfl.length then
  QA ((args++f.dfl.drop (args.length+f.dfl.length - f.np)).map QA++List.replicate (f.nl - f.np) QE)
 else QE
def bk(K:KV)(Er:KE):KS:=λfl u J=>match fl with
 |.ret v=>K v J
 |.next=>K .none J
 |.err e=>Er e J
 |_=>False
def ef:Nat->Call
 |0=>λu u u u u=>False
 |n+1=>λf args J K Er=>cC (Pg.fn f) λfd=>cC (cD fd args) λU=>ax (ef n) fd.body QE U J (bk K Er)
theorem ah{G:Prop}(H:∀P:Prop,(G->P)->P):G:=H G id
variable{α β:Type}{n k i A j c B Oz m a0 a1 OA:Nat}{v a x t:AV}{J O J':Hp}{b d:Bool}{U r U':Loc}{θ f g:Nat->Nat}{rs vs out rest zs l outs ts tk Oy args:List AV}{fl:Flow}{Ou cost z5 z1 L z2 z3 z4 q z18:Int}{Er:KE}{K K' Kk:KS}{fs:List (Nat×AV)}{C p:Prop}{hd:Option aH}{es:List (List Nat×AV)}{o:az}{f':AV->Prop}{log:List (Option Bool)}{F:Call}{P:Option (List AV)->Prop}{op:Bop}
section
set_option genCtorIdx false
open PySem PySem.W
abbrev Mu:=List (Addr×Addr)
noncomputable def own (Z:Mu):List Addr:=Z.map (·.2)
noncomputable def St (s:List Nat):Str:=⟨s.toArray⟩
structure gL where
 name:Str
 params:Arguments
 body:List Stmt
 scope:Scope
structure Wd where
 prog:Program
 w:World
 H:Heap
 os:OsState
 K:Frag
 cls:Nat->Addr
 fn:Nat->Addr
 attr:Nat->Str
 nA:Nat
 nC:Nat
 nX:Nat
 mg:Str->Option Value
 mb:Str->Option Value
 tab:Addr
 wpos:Pos
 QF:Str
 D:gL
noncomputable abbrev Wd.M (G:Wd):Model:=model G.prog G.w
def ej(h:Heap)(a:Addr)(items:Array Value):Prop:=∃n,h.get? a=QA {cls:=.type "tuple",dict:=QE,data:=.seq items n,slots:= #[]}
mutual
def ad(G:Wd)(h:Heap)(Z:Mu):AV->Value->Prop
 |.none,v=>v=.none
 |.bool b,v=>v=.bool b
 |.int i,v=>∃t,v=.int i t
 |.str s,v=>s.length<=aE/\∃t,v=.str (St s) t
 |.tup vs,v=>vs.length<=aE/\∃a items,v=.ref a/\ej h a items/\a∉own Z/\af G h Z vs items.toList
 |.flist vs,v=>vs.length<=aE/\∃a items,v=.ref a/\G.H.IsList a items/\af G h Z vs items.toList
 |.obj k,v=>∃x d,v=.ref x/\Z[k]?=QA (x,d)
 |.word,_=>False
 |.exc _ _,_=>False
def af(G:Wd)(h:Heap)(Z:Mu):List AV->List Value->Prop
 |[],vs=>vs=[]
 |a::as,vs=>∃c cs,vs=c::cs/\ad G h Z a c/\af G h Z as cs
end
def mf(o o':Obj):Prop:=o'=o\/((∃es n,o.data=.dict es n)/\∃sl,o'={o with slots:=sl})
theorem mf.refl(o:Obj):mf o o:=.inl rfl
theorem mf.trans{o o' o'':Obj}(x:mf o o')(y:mf o' o''):mf o o'':=by
 rcases x with rfl|⟨h,sl,rfl⟩
 ·exact y
 ·rcases y with rfl|⟨_,sl',rfl⟩
  ·exact .inr ⟨h,sl,rfl⟩
  ·exact .inr ⟨h,sl',rfl⟩
theorem mf.eq{o o':Obj}(x:mf o o')(h:∀es n,o.data≠ .dict es n):o'=o:=by
 rcases x with rfl|⟨⟨es,n,q⟩,_⟩
 ·rfl
 ·exact absurd q (h es n)
theorem mf.data{o o':Obj}(x:mf o o'):o'.data=o.data:=by rcases x with rfl|⟨_,_,rfl⟩<;>rfl
structure au(W X:List Addr)(Z:Mu)(h:Heap)(Z':Mu)(h':Heap):Prop where
 pre:∃ν:Mu,Z'=Z++ν/\∀p∈ν,h.get? p.2=QE
 live:∀a o,h.get? a=QA o->∃o',h'.get? a=QA o'
 keep:∀a o,h.get? a=QA o->a∉own Z->a∉W->(a∈X->∀vs,o.data≠ .fields vs)->∃o',h'.get? a=QA o'/\mf o o'
def fc(h:Heap)(a:Addr):Prop:=∀o,h.get? a=QA o->(∃es n,o.data=.dict es n)\/∃v,o.data=.cell v
variable{G:Wd}{W X:List Addr}{Z Z' Z'':Mu}{h h' h'':Heap}
theorem au.refl:au W X Z h Z h:=⟨⟨[],(O8 _).symm,by simp⟩,λu o e=>⟨o,e⟩,λu o e u u u=>⟨o,e,.refl o⟩⟩
theorem bc{a:Addr}(ha:h.objs.size<=a):h.get? a=QE:=by
 cases q:h.get? a with
 |none=>rfl
 |some o=>exact absurd (Pe q) (Pd.mpr ha)
theorem au.Pu(st:au W X Z h Z' h'){a:Addr}{o:Obj}(ha:h.get? a=QA o)(hn:a∉own Z):a∉own Z':=by
 refine ak st.pre λν er1 hν=>?_;subst er1;intro hm;rw[own,PN,OL] at hm;rcases hm with hm|hm
 ·exact hn hm
 ·obtain⟨p,hp,rfl⟩:=Pa.mp hm;exact nn ((hν p hp).symm.trans ha)
theorem au.none(st:au W X Z h Z' h'){a:Addr}(ha:h'.get? a=QE):h.get? a=QE:=by
 cases q:h.get? a with
 |none=>rfl
 |some o=>obtain⟨o',z⟩:=st.live a o q;exact nn (ha.symm.trans z)
theorem au.trans(st:au W X Z h Z' h')(st':au W X Z' h' Z'' h''):au W X Z h Z'' h'':=by
 refine⟨?_,λa o e=>(let⟨o',e'⟩:=st.live a o e;st'.live a o' e'),λa o e hn hw hx=>?_⟩
 ·obtain⟨ν,rfl,hν⟩:=st.pre;refine ak st'.pre λν' er1 hν'=>?_;subst er1;refine⟨ν++ν',OQ _ _ _,λp hp=>?_⟩;rcases OL.mp hp with hp|hp
  ·exact hν p hp
  ·exact st.none (hν' p hp)
 ·obtain⟨o',e',q⟩:=st.keep a o e hn hw hx;obtain⟨o'',e'',q'⟩:=st'.keep a _ e' (st.Pu e hn) hw (by(refine q.data.symm▸?_);exact hx);exact⟨o'',e'',q.trans q'⟩
theorem au.on(k:∀b o,h.get? b=QA o->h'.get? b=QA o):au W X Z h Z h':=⟨⟨[],(O8 _).symm,by simp⟩,λa o e=>⟨o,k a o e⟩,λa o e u u u=>⟨o,k a o e,.refl o⟩⟩
theorem au.add(k:∀b o,h.get? b=QA o->h'.get? b=QA o){x d:Addr}(hd:h.objs.size<=d):au W X Z h (Z++[(x,d)]) h':=
 ⟨⟨[(x,d)],rfl,by simpa using bc hd⟩,λa o e=>⟨o,k a o e⟩,λa o e u u u=>⟨o,k a o e,.refl o⟩⟩
theorem au.put{d:Addr}(hd:d∈own Z)(hs:Heap.SameBut d h h'){ob:Obj}(hl:h'.get? d=QA ob):au W X Z h Z h':=
 ⟨⟨[],(O8 _).symm,by simp⟩,λa o e=>(by
  by_cases z:a=d
  ·exact⟨ob,z▸hl⟩
  ·exact⟨o,(hs.2 a z).trans e⟩),λa o q hn u u=>⟨o,(hs.2 a λz=>hn (z▸hd)).trans q,.refl o⟩⟩
theorem au.weaken{W' X':List Addr}(st:au W X Z h Z' h')(hW:∀a∈W,a∈W')(hX:∀a∈X,a∈X'):au W' X' Z h Z' h':=
 ⟨st.pre,st.live,λa o e hn hw hx=>st.keep a o e hn (λq=>hw (hW a q)) λq=>hx (hX a q)⟩
theorem au.wk(st:au [] [G.tab] Z h Z' h')(hX:G.tab∈X):au W X Z h Z' h':=st.weaken (λu q=>nomatch q) (m1 hX)
theorem au.same(st:au W X Z h Z' h')(hW:∀a∈W,fc h a){a:Addr}{o:Obj}(ho:h.get? a=QA o)(hn:a∉own Z)(h1:∀es n,o.data≠ .dict es n)(h2:∀v,o.data≠ .cell v)(h3:∀vs,o.data≠ .fields vs):h'.get? a=QA o:=by
 obtain⟨o',e,q⟩:=st.keep a o ho hn (λq=>by
  rcases hW a q o ho with⟨es,k,q⟩|⟨v,q⟩
  ·exact h1 es k q
  ·exact h2 v q) λu=>h3
 rw[q.eq h1] at e;exact e
theorem ej.isTuple{a:Addr}{items:Array Value}(x:ej h a items):h.IsTuple a items:=let⟨n,e⟩:=x;⟨_,e,rfl,n,rfl⟩
theorem au.tupAt(st:au W X Z h Z' h')(hW:∀a∈W,fc h a){a:Addr}{items:Array Value}(ht:ej h a items)(hn:a∉own Z):ej h' a items:=by exact aB ht λn ho=>⟨n,st.same hW ho hn (by simp) (by simp) (by simp)⟩
theorem au.getμ(st:au W X Z h Z' h'){k:Nat}{p:Addr×Addr}(e:Z[k]?=QA p):Z'[k]?=QA p:=by refine ak st.pre λν er1 u=>?_;subst er1;exact(OR (OG.mp e).1).trans e
theorem ad.map(hT:∀a items,ej h a items->a∉own Z->ej h' a items/\a∉own Z')(hμ:∀(k:Nat) (p:Addr×Addr),Z[k]?=QA p->Z'[k]?=QA p)(v:AV):∀{c:Value},ad G h Z v c->ad G h' Z' v c:=
 AV.rec (motive_1:=λv=>∀{c:Value},ad G h Z v c->ad G h' Z' v c) (motive_2:=λvs=>∀{cs:List Value},af G h Z vs cs->af G h' Z' vs cs) (λr=>r) (λu u r=>r) (λu u r=>r) (λu u r=>r)
  (λu ih u r=>⟨r.1,r.2.elim λa r=>⟨a,r.elim λitems r=>⟨items,r.1,(hT a items r.2.1 r.2.2.1).1,(hT a items r.2.1 r.2.2.1).2,ih r.2.2.2⟩⟩⟩) (λu ih u r=>⟨r.1,r.2.elim λa r=>⟨a,r.elim λitems r=>⟨items,r.1,r.2.1,ih r.2.2⟩⟩⟩) (λk u r=>r.elim λx r=>⟨x,r.elim λd r=>⟨d,r.1,hμ k _ r.2⟩⟩) (λu u u u r=>r) (λr=>r)
  (λr=>r) (λu u i1 i2 u r=>r.elim λc r=>⟨c,r.elim λcs r=>⟨cs,r.1,i1 r.2.1,i2 r.2.2⟩⟩) v
theorem af.map(H:∀(v:AV) {c:Value},ad G h Z v c->ad G h' Z' v c)(vs:List AV):∀{cs:List Value},af G h Z vs cs->af G h' Z' vs cs:=
 List.rec (motive:=λvs=>∀{cs:List Value},af G h Z vs cs->af G h' Z' vs cs) (λr=>r) (λv u ih u r=>r.elim λc r=>⟨c,r.elim λcs r=>⟨cs,r.1,H v r.2.1,ih r.2.2⟩⟩) vs
theorem ad.step(st:au W X Z h Z' h')(hW:∀a∈W,fc h a)(v:AV){c:Value}(r:ad G h Z v c):ad G h' Z' v c:=ad.map (λu u ht hn=>⟨st.tupAt hW ht hn,ht.elim λu ho=>st.Pu ho hn⟩) (λu u e=>st.getμ e) v r
theorem af.step(st:au W X Z h Z' h')(hW:∀a∈W,fc h a)(vs:List AV){cs:List Value}(r:af G h Z vs cs):af G h' Z' vs cs:=af.map (ad.step st hW) vs r
theorem ad.st(st:au [] [G.tab] Z h Z' h'){v:AV}{c:Value}(r:ad G h Z v c):ad G h' Z' v c:=ad.step st (λu q=>nomatch q) v r
theorem af.st(st:au [] [G.tab] Z h Z' h'){v:List AV}{c:List Value}(r:af G h Z v c):af G h' Z' v c:=af.step st (λu q=>nomatch q) v r
theorem af.length:∀{vs:List AV} {cs:List Value},af G h Z vs cs->cs.length=vs.length
 |[],_,r=>by subst r;rfl
 |_::_,_,⟨_,_,e,_,r⟩=>by subst e;simp[af.length r]
theorem af.get:∀{vs:List AV} {cs:List Value},af G h Z vs cs->∀{i:Nat} {v:AV},vs[i]?=QA v->∃c,cs[i]?=QA c/\ad G h Z v c
 |[],_,_,_,_,e=>by exact nn e
 |_::_,_,⟨c,_,e,r1,_⟩,0,_,q=>by subst e;replace q:=OO q;subst q;exact⟨c,rfl,r1⟩
 |_::_,_,⟨_,_,e,_,r2⟩,i+1,_,q=>by subst e;simp at q;exact af.get r2 q
theorem af.append:∀{vs:List AV} {cs:List Value} {vs':List AV} {cs':List Value},af G h Z vs cs->af G h Z vs' cs'->af G h Z (vs++vs') (cs++cs')
 |[],_,_,_,r,r'=>by subst r;exact r'
 |_::_,_,_,_,⟨c,cs,e,r1,r2⟩,r'=>by subst e;exact⟨c,_,rfl,r1,af.append r2 r'⟩
theorem af.nil:af G h Z [] []:=rfl
theorem af.cons{c:Value}{cs:List Value}(r:ad G h Z v c)(r':af G h Z vs cs):af G h Z (v::vs) (c::cs):=⟨c,cs,rfl,r,r'⟩
theorem af.set:∀{vs:List AV} {cs:List Value},af G h Z vs cs->∀(n:Nat) {v:AV} {c:Value},ad G h Z v c->af G h Z (vs.set n v) (cs.set n c)
 |[],_,r,n,_,_,_=>by subst r;exact rfl
 |_::_,_,⟨_,cs,e,_,r⟩,0,v,c,q=>by subst e;exact⟨c,cs,rfl,q,r⟩
 |_::_,_,⟨c,_,e,r1,r⟩,n+1,_,_,q=>by subst e;exact⟨c,_,rfl,r1,af.set r n q⟩
theorem af.replicate{c:Value}(r:ad G h Z v c):∀n,af G h Z (List.replicate n v) (List.replicate n c)
 |0=>rfl
 |n+1=>⟨c,_,rfl,r,af.replicate r n⟩
def dA(h:Heap)(d:Addr)(items:Array Value):Prop:=∃n,h.get? d=QA {cls:=.type "list",dict:=QE,data:=.seq items n,slots:= #[]}
theorem dA.isList{d:Addr}{items:Array Value}(x:dA h d items):h.IsList d items:=let⟨n,a⟩:=x;⟨_,a,rfl,n,rfl⟩
inductive bO(G:Wd)(h:Heap)(Z:Mu):List (List Nat×AV)->List (Str×Value)->Prop
 |nil:bO G h Z [] []
 |cons {s:List Nat} {v:AV} {c:Value} {es:List (List Nat×AV)} {kvs:List (Str×Value)}:ad G h Z v c->bO G h Z es kvs->bO G h Z ((s,v)::es) ((St s,c)::kvs)
def ig(G:Wd)(h:Heap)(Z:Mu)(es:List DictEntry)(fs:List (Nat×AV)):Prop:=
 ∀f,f<G.nA->match aR f fs with
  |some v=>∃c,getL (G.attr f) es=QA (QA c)/\ad G h Z v c
  |none=>getL (G.attr f) es=QA QE
def qf(h:Heap)(x:Addr)(C d:Addr):Prop:=∃o,h.get? x=QA o/\o.cls=.ref C/\o.dict=QA d/\o.data=.plain
def bW(G:Wd)(h:Heap)(Z:Mu)(x d:Addr):az->Prop
 |.list vs=>x=d/\vs.length<=aE/\∃items,dA h d items/\af G h Z vs items.toList
 |.dict es=>x=d/\es.length<=aE/\∃kvs,h.DictOf (strKind G.prog G.w) d kvs/\bO G h Z es kvs
 |.sset ss=>x=d/\ss.length<4096/\h.SetOf (strKind G.prog G.w) d (λk=>ss.contains k.cps.toList) ss.length
 |.inst c fs=>x∉own Z/\c<G.nC/\qf h x (G.cls c) d/\fs.length<=100/\∃es n,h.get? d=QA (dictOf es n)/\es.length<=fs.length/\(∀e∈es,e.refKey=QK)/\ig G h Z es fs
def mU(G:Wd)(Z:Mu)(h:Heap):Prop:=∃ps,h.get? G.tab=QA (tabObj ps)/\TriplesOk ps.toList/\
 (codeAmong G.wpos ps.toList=QE\/∃c,codeAmong G.wpos ps.toList=QA (.ref c)/\h.CodeRec (.ref c) G.QF/\c∉own Z/\c≠G.tab)
theorem mU.move(T:mU G Z h)(e:∀o,h.get? G.tab=QA o->h'.get? G.tab=QA o)
  (k:∀c o,h.get? c=QA o->c∉own Z->c≠G.tab->(∃vs,o.data=.fields vs)->h'.get? c=QA o/\c∉own Z'):mU G Z' h':=by
 refine dh T λps h1 h2 h3=>⟨ps,e _ h1,h2,h3.imp id ?_⟩
 rintro⟨c,q1,⟨c',oc,vs,tq,hc,hoc,hd,hq⟩,q2,q3⟩
 cases hc;exact bj (k c oc hoc q2 q3 ⟨vs,hd⟩) λz1 z2=>⟨c,q1,⟨c,oc,vs,tq,rfl,z1,hd,hq⟩,z2,q3⟩
structure SR(G:Wd)(l:List Env)(Z:Mu)(J:Hp)(s:Shared):Prop where
 stays:G.H.StaysIn s.heap
 frames:s.heap.FunFrames G.H l
 QG:∀a∈l.filterMap (·.frame),∃o es n,s.heap.get? a=QA o/\o.data=.dict es n
 tabs:mU G Z s.heap
 QH:G.tab∉own Z
 gens:s.gens= #[]
 os:s.os=G.os
 len:Z.length=J.length
 nodup:(own Z).Nodup
 fresh:∀d∈own Z,G.H.get? d=QE/\d∉l.filterMap (·.frame)
 objs:∀(k:Nat) (o:az) (x d:Addr),J[k]?=QA o->Z[k]?=QA (x,d)->bW G s.heap Z x d o
theorem bO.map(H:∀(v:AV) {c:Value},ad G h Z v c->ad G h' Z' v c){es:List (List Nat×AV)}{kvs:List (Str×Value)}(r:bO G h Z es kvs):bO G h' Z' es kvs:=by
 induction r with
 |nil=>exact .nil
 |cons r _ ih=>exact .cons (H _ r) ih
theorem bO.step(st:au W X Z h Z' h')(hW:∀a∈W,fc h a){es:List (List Nat×AV)}{kvs:List (Str×Value)}(r:bO G h Z es kvs):bO G h' Z' es kvs:=r.map (ad.step st hW)
theorem ig.map(H:∀(v:AV) {c:Value},ad G h Z v c->ad G h' Z' v c){es:List DictEntry}{fs:List (Nat×AV)}(r:ig G h Z es fs):ig G h' Z' es fs:=λf hf=>by
 have q:=r f hf;revert q;cases aR f fs with
 |none=>exact id
 |some v=>exact λq=>q.elim λc q=>⟨c,q.1,H v q.2⟩
theorem bW.map(H:∀(v:AV) {c:Value},ad G h Z v c->ad G h' Z' v c){x d:Addr}(e:∀o,h.get? d=QA o->h'.get? d=QA o)(hx:∀C,x∉own Z->qf h x C d->x∉own Z'/\qf h' x C d)(o:az)(r:bW G h Z x d o):bW G h' Z' x d o:=by
 cases o with
 |list vs=>exact⟨r.1,r.2.1,r.2.2.elim λitems r=>⟨items,r.1.elim λn a=>⟨n,e _ a⟩,af.map H vs r.2⟩⟩
 |dict es=>exact⟨r.1,r.2.1,r.2.2.elim λkvs r=>⟨kvs,r.1.elim λo c=>⟨o,c.elim λes c=>⟨es,c.elim λep c=>⟨ep,e o c.1,c.2⟩⟩⟩,r.2.map H⟩⟩
 |sset ss=>exact⟨r.1,r.2.1,r.2.2.elim λo c=>⟨o,c.elim λes c=>⟨es,c.elim λep c=>⟨ep,c.elim λt c=>⟨t,e o c.1,c.2⟩⟩⟩⟩⟩
 |inst c fs=>exact⟨(hx _ r.1 r.2.2.1).1,r.2.1,(hx _ r.1 r.2.2.1).2,r.2.2.2.1,r.2.2.2.2.elim λes r=>⟨es,r.elim λn r=>⟨n,e _ r.1,r.2.1,r.2.2.1,r.2.2.2.map H⟩⟩⟩
theorem bW.move(st:au W X Z h Z' h')(hW:∀a∈W,fc h a){x d:Addr}(e:∀o,h.get? d=QA o->h'.get? d=QA o)(o:az)(r:bW G h Z x d o):bW G h' Z' x d o:=
 r.map (ad.step st hW) e (λu hx I=>I.elim λo I=>⟨st.Pu I.1 hx,o,st.same hW I.1 hx (by(refine(I.2.2.2 ..).symm▸?_);exact nofun) (by(refine(I.2.2.2 ..).symm▸?_);exact nofun) (by(refine(I.2.2.2 ..).symm▸?_);exact nofun),I.2⟩) o
theorem bW.there{x d:Addr}(r:bW G h Z x d o):∃ob,h.get? d=QA ob:=by
 cases o with
 |list vs=>obtain⟨_,_,_,⟨_,q⟩,_⟩:=r;exact⟨_,q⟩
 |dict es=>obtain⟨_,_,_,⟨o,_,_,q,_⟩,_⟩:=r;exact⟨o,q⟩
 |sset ss=>obtain⟨_,_,⟨o,_,_,_,q,_⟩⟩:=r;exact⟨o,q⟩
 |inst c fs=>obtain⟨_,_,_,_,_,_,q,_⟩:=r;exact⟨_,q⟩
section
variable{l:List Env}{J:Hp}{s:Shared}
theorem cr{x d:Addr}(e:Z[k]?=QA (x,d)):d∈own Z:=Pa.mpr ⟨(x,d),OE e,rfl⟩
theorem qg(hn:(own Z).Nodup){k k':Nat}{x x' d:Addr}(e:Z[k]?=QA (x,d))(e':Z[k']?=QA (x',d)):k=k':=by
 have h1:(own Z)[k]?=QA d:=by simp[own,e]
 have h2:(own Z)[k']?=QA d:=by simp[own,e']
 exact(List.getElem?_inj (OG.mp h1).1 hn).mp (h1.trans h2.symm)
theorem SR.tok(R:SR G l Z J s)(t:Nat):SR G l Z J {s with toks:=t}:=⟨R.stays,R.frames,R.QG,R.tabs,R.QH,R.gens,R.os,R.len,R.nodup,R.fresh,R.objs⟩
theorem SR.at(R:SR G l Z J s){k:Nat}{o:az}(e:J[k]?=QA o):∃x d,Z[k]?=QA (x,d)/\bW G s.heap Z x d o:=by
 have hk:k<Z.length:=by exact R.len.symm▸((OG.mp e).1)
 exact⟨Z[k].1,Z[k].2,by simp[hk],R.objs k o _ _ e (by simp[hk])⟩
theorem SR.more(R:SR G l Z J s)(k:∀b o,s.heap.get? b=QA o->h'.get? b=QA o)(_hs:s.heap.objs.size<=h'.objs.size)(t:Nat):
  SR G l Z J {s with heap:=h',toks:=t}/\au [] [G.tab] Z s.heap Z h':=by
 have st:au [] [G.tab] Z s.heap Z h':=.on k;exact⟨⟨λb o e=>k b o (R.stays b o e),R.frames.of_keeps λb o e u=>⟨o,k b o e,rfl⟩,λa ha=>(let⟨o,es,n,e,q⟩:=R.QG a ha;⟨o,es,n,k a o e,q⟩),R.tabs.move (k _) (λc o e q u u=>⟨k c o e,q⟩),R.QH,R.gens,R.os,R.len,R.nodup,R.fresh,
  λi o x d e e'=>(R.objs i o x d e e').move st (λu q=>nomatch q) (k d) o⟩,st⟩
theorem SR.app{s':Shared}{x d:Addr}{ob:az}(R:SR G l Z J s)(nd:d∉own Z)(hH:G.H.get? d=QE/\d∉l.filterMap (·.frame))(stays:G.H.StaysIn s'.heap)(frames:s'.heap.FunFrames G.H l)(QG:∀a∈l.filterMap (·.frame),∃o es n,s'.heap.get? a=QA o/\o.data=.dict es n)
  (tabs:mU G (Z++[(x,d)]) s'.heap) (QH:G.tab∉own (Z++[(x,d)])) (gens:s'.gens= #[]) (os:s'.os=G.os) (objs:∀(i:Nat) (o:az) (y c:Addr),J[i]?=QA o->Z[i]?=QA (y,c)->bW G s'.heap (Z++[(x,d)]) y c o)
  (ho:bW G s'.heap (Z++[(x,d)]) x d ob):SR G l (Z++[(x,d)]) (J++[ob]) s':=by
 refine⟨stays,frames,QG,tabs,QH,gens,os,by simp[R.len],?_,λa ha=>?_,λi o y c e e'=>?_⟩
 ·simp only[own,PN,PO,List.map_nil];exact List.nodup_append.mpr ⟨R.nodup,by simp,by rintro a ha b hb rfl;replace hb:=OF.mp hb;subst hb;exact nd ha⟩
 ·simp only[own,PN,PO,List.map_nil,OL,OF] at ha;rcases ha with ha|rfl
  ·exact R.fresh a ha
  ·exact hH
 ·by_cases hi:i<J.length
  ·rw[OR hi] at e;rw[OR (by rw[R.len];exact hi)] at e';exact objs i o y c e e'
  ·rw[Pn (Pd.mp ‹_›)] at e;rw[Pn (by rw[R.len];exact Pd.mp ‹_›)] at e';rw[R.len] at e';cases hj:i - J.length with
   |zero=>rw[hj] at e e';simp at e e';obtain⟨rfl,rfl⟩:=e';subst e;exact ho
   |succ j=>rw[hj] at e;exact nn e
theorem SR.grow(R:SR G l Z J s)(k:∀b o,s.heap.get? b=QA o->h'.get? b=QA o)(_hs:s.heap.objs.size<=h'.objs.size){x d:Addr}(hd:s.heap.objs.size<=d){ob:az}
  (ho:bW G h' (Z++[(x,d)]) x d ob) (t:Nat):
  SR G l (Z++[(x,d)]) (J++[ob]) {s with heap:=h',toks:=t}/\au [] [G.tab] Z s.heap (Z++[(x,d)]) h':=by
 have st:au [] [G.tab] Z s.heap (Z++[(x,d)]) h':=.add k hd;have nd:d∉own Z:=λhm=>by
  obtain⟨nq0,hp,rfl⟩:=Pa.mp hm;obtain⟨x',d'⟩:=nq0;obtain⟨i,hi,e⟩:=List.mem_iff_getElem.mp hp;have hσ:i<J.length:=by exact R.len.symm▸hi
  exact aB ((R.objs i J[i] x' d' (by simp[hσ]) (by simp[hi,e])).there) λob' q=>absurd (Pe q) (Pd.mpr hd)
 refine⟨R.app nd ⟨?_,λhm=>?_⟩ (λb o e=>k b o (R.stays b o e)) (R.frames.of_keeps λb o e u=>⟨o,k b o e,rfl⟩) (λa ha=>(let⟨o,es,n,e,q⟩:=R.QG a ha;⟨o,es,n,k a o e,q⟩)) (R.tabs.move (k _) (λc o e q u u=>⟨k c o e,st.Pu e q⟩))
  (let⟨_,q,_⟩:=R.tabs;st.Pu q R.QH) R.gens R.os (λi o y c e e'=>(R.objs i o y c e e').move st (λu q=>nomatch q) (k c) o) ho,st⟩
 ·cases q:G.H.get? d with
  |none=>rfl
  |some o=>exact absurd (Pe (R.stays d o q)) (Pd.mpr hd)
 ·obtain⟨_,o,q,_⟩:=R.frames.mem hm;exact absurd (Pe q) (Pd.mpr hd)
theorem mV{H:Heap}{a:Addr}(hs:∀b o,b≠a->h.get? b=QA o->h'.get? b=QA o):∀l':List Env,h.FunFrames H l'->a∉l'.filterMap (·.frame)->h'.FunFrames H l':=by
 intro l';induction l' with
 |nil=>intro _ _;trivial
 |cons env r ih=>
  rintro⟨a1,⟨L,o,a2,a3,a4,a5⟩,a6⟩ hn
  rw[List.filterMap_cons,a2] at hn;rw[OZ,not_or] at hn;exact⟨a1,⟨L,o,a2,a3,hs L _ (Ne.symm hn.1) a4,a5⟩,ih a6 hn.2⟩
theorem SR.putMore(R:SR G l Z J s){k:Nat}{x d:Addr}(e:Z[k]?=QA (x,d))(hs:∀b o,b≠d->s.heap.get? b=QA o->h'.get? b=QA o){ob:az}(ho:bW G h' Z x d ob)(t:Nat):
  SR G l Z (J.set k ob) {s with heap:=h',toks:=t}/\au [] [G.tab] Z s.heap Z h':=by
 refine aB ho.there λod hlv=>?_;have st:au [] [G.tab] Z s.heap Z h':=⟨⟨[],(O8 _).symm,by simp⟩,λa o e=>(by
  by_cases z:a=d
  ·exact⟨od,z▸hlv⟩
  ·exact⟨o,hs a o z e⟩),λa o q hn u u=>⟨o,hs a o (λz=>hn (z▸cr e)) q,.refl o⟩⟩
 have hf:=R.fresh d (cr e);refine⟨⟨λb o q=>hs b o (λz=>by rw[z,hf.1] at q;exact nn q) (R.stays b o q),?_,
  λa ha=>(let⟨o,es,n,q,z⟩:=R.QG a ha;⟨o,es,n,hs a o (λw=>hf.2 (w▸ha)) q,z⟩),
  R.tabs.move (λo q=>hs G.tab o (λ(z:G.tab=d)=>R.QH (z▸cr e)) q) (λc o q z u u=>⟨hs c o (λw=>z (w▸cr e)) q,z⟩),R.QH,R.gens,R.os,by simp[R.len],R.nodup,R.fresh,λi o y c q q'=>?_⟩,st⟩
 ·exact mV hs l R.frames hf.2
 ·by_cases hi:k=i
  ·subst hi;cases e.symm.trans q';rw[OT (by have:=(OG.mp e).1;rw[R.len] at this;exact this)] at q
   cases q;exact ho
  ·rw[OM hi] at q;exact(R.objs i o y c q q').move st (λu z=>nomatch z) (λo z=>hs c _ (λw=>hi (qg R.nodup e (w▸q'))) z) o
theorem SR.upd(R:SR G l Z J s){k:Nat}{x d:Addr}(e:Z[k]?=QA (x,d))(hs:Heap.SameBut d s.heap h'){ob:az}(ho:bW G h' Z x d ob)(t:Nat):
  SR G l Z (J.set k ob) {s with heap:=h',toks:=t}/\au [] [G.tab] Z s.heap Z h':=R.putMore e (λb o n q=>(hs.2 b n).trans q) ho t
theorem SR.loc(R:SR G l Z J s){a:Addr}(hs:Heap.SameBut a s.heap h')(ha:a∉own Z)(hat:a≠G.tab)(hH:G.H.get? a=QE)(hk:fc s.heap a)(hk':(∃o es n,h'.get? a=QA o/\o.data=.dict es n)\/a∉l.filterMap (·.frame))(hlv:∃o,h'.get? a=QA o)(t:Nat):
  SR G l Z J {s with heap:=h',toks:=t}/\au [a] [G.tab] Z s.heap Z h':=by
 have st:au [a] [G.tab] Z s.heap Z h':=⟨⟨[],(O8 _).symm,by simp⟩,λb o e=>(by
  by_cases z:b=a
  ·exact z▸hlv
  ·exact⟨o,(hs.2 b z).trans e⟩),λb o q u hw u=>⟨o,(hs.2 b λz=>hw (by simp[z])).trans q,.refl o⟩⟩
 refine⟨⟨λb o q=>(hs.2 b λz=>by rw[z,hH] at q;exact nn q).trans (R.stays b o q),?_,λb hb=>?_,
  R.tabs.move (λo q=>(hs.2 G.tab λ(z:G.tab=a)=>hat z.symm).trans q) (λc o q z u hv=>⟨(hs.2 c λw=>by subst w;refine aB hv λvs hv=>?_;rcases hk o q with⟨_,_,z⟩|⟨_,z⟩<;>rw[hv] at z<;>cases z).trans q,z⟩),R.QH,R.gens,R.os,R.len,R.nodup,R.fresh,λi o y c q q'=>?_⟩,st⟩
 ·have:∀l':List Env,s.heap.FunFrames G.H l'->((∃o es n,h'.get? a=QA o/\o.data=.dict es n)\/a∉l'.filterMap (·.frame))->h'.FunFrames G.H l':=by
   intro l';induction l' with
   |nil=>intro _ _;trivial
   |cons env r ih=>
    rintro⟨a1,⟨L,o,a2,a3,a4,a5⟩,a6⟩ hk
    have hr:h'.FunFrames G.H r:=ih a6 (hk.imp id λq z=>q (by((refine(List.filterMap_cons ..).symm▸?_;refine a2.symm▸?_));exact O0 _ z));by_cases hL:L=a
    ·rcases hk with⟨oa,es,n,q1,q2⟩|hk
     ·exact⟨a1,⟨L,oa,a2,a3,hL▸q1,by simp[q2]⟩,hr⟩
     ·exact absurd (by((refine(List.filterMap_cons ..).symm▸?_;refine a2.symm▸?_;refine hL.symm▸?_));exact ON) hk
    ·exact⟨a1,⟨L,o,a2,a3,(hs.2 L hL).trans a4,a5⟩,hr⟩
  exact this l R.frames hk'
 ·obtain⟨o,es,n,q,z⟩:=R.QG b hb;by_cases hba:b=a
  ·subst hba;rcases hk' with hk'|hk'
   ·exact hk'
   ·exact absurd hb hk'
  ·exact⟨o,es,n,(hs.2 b hba).trans q,z⟩
 ·exact(R.objs i o y c q q').move st (m1 hk) (λo z=>(hs.2 c λw=>ha (w▸cr q')).trans z) o
end
end
section
open PySem PySem.W PySem.SeqAt
variable{G:Wd}{W X:List Addr}{Z Z':Mu}{h h':Heap}{l:List Env}{J J':Hp}{s:Shared}{A:Around}
theorem lU{C:Value->Prop}{c:Value}(r:ad G h Z .none c)(k:C .none):C c:=(show c=.none from r)▸k
theorem jm{C:Value->Prop}{c:Value}(r:ad G h Z (.bool b) c)(k:C (.bool b)):C c:=(show c=.bool b from r)▸k
theorem eU{C:Value->Prop}{c:Value}{i:Int}(r:ad G h Z (.int i) c)(k:∀t,C (.int i t)):C c:=(show ∃t,c=.int i t from r).elim λt e=>e▸k t
theorem cJ{C:Value->Prop}{c:Value}{x:List Nat}(r:ad G h Z (.str x) c)(k:∀t,C (.str (St x) t)):C c:=(show x.length<=aE/\∃t,c=.str (St x) t from r).2.elim λt e=>e▸k t
theorem lb{C:Value->Prop}{c:Value}(r:ad G h Z (.tup vs) c)(k:∀x items,ej h x items->x∉own Z->af G h Z vs items.toList->C (.ref x)):C c:=
 (show vs.length<=aE/\∃a items,c=.ref a/\ej h a items/\a∉own Z/\af G h Z vs items.toList from r).2.elim λx p=>p.elim λitems p=>p.1▸k x items p.2.1 p.2.2.1 p.2.2.2
theorem jy{C:Value->Prop}{c:Value}(r:ad G h Z (.obj j) c)(k:∀x d,Z[j]?=QA (x,d)->C (.ref x)):C c:=(show ∃x d,c=.ref x/\Z[j]?=QA (x,d) from r).elim λx p=>p.elim λd p=>p.1▸k x d p.2
theorem lV{C:List Value->Prop}{cs:List Value}(r:af G h Z [] cs)(k:C []):C cs:=(show cs=[] from r)▸k
theorem qh{C:List Value->Prop}{cs:List Value}(r:af G h Z (v::vs) cs)(k:∀c cs,ad G h Z v c->af G h Z vs cs->C (c::cs)):C cs:=
 (show ∃c cs',cs=c::cs'/\ad G h Z v c/\af G h Z vs cs' from r).elim λc p=>p.elim λcs' p=>p.1▸k c cs' p.2.1 p.2.2
theorem yP{a b:List Nat}{t t':Nat}(e:Value.str (St a) t=Value.str (St b) t'):a=b:=(show a=b/\t=t' by simpa[St] using e).1
theorem kW.same{b:AV}{k:Bool}(e:kW n a b k):∀c:Value,ad G h Z a c->ad G h Z b c->k=QI:=
 kW.rec (motive_1:=λu a b k u=>∀c:Value,ad G h Z a c->ad G h Z b c->k=QI) (motive_2:=λu a b k u=>∀c:List Value,af G h Z a c->af G h Z b c->k=QI)
  (λu a b c r=>cJ (C:=λc=>ad G h Z (.str b) c->(a==b)=QI) r λt r'=>beq_iff_eq.mpr (yP (cJ (C:=λc=>Value.str (St a) t=c->∃t',Value.str (St a) t=.str (St b) t') r' (λt' e=>⟨t',e⟩) rfl).choose_spec))
  (λu a b c r=>eU (C:=λc=>ad G h Z (.int b) c->(a==b)=QI) r λt r'=>(show ∃t',Value.int a t=.int b t' from r').elim λu e=>by cases e;exact beq_self_eq_true a)
  (λu a b c r=>jm (C:=λc=>ad G h Z (.bool b) c->(a==b)=QI) r λr'=>by cases(show Value.bool a=.bool b from r');exact beq_self_eq_true a)
  (λu a b c r=>cJ (C:=λc=>ad G h Z (.int b) c->QK=QI) r λt r'=>(show ∃t',Value.str (St a) t=.int b t' from r').elim λu e=>nomatch e)
  (λu a b c r=>eU (C:=λc=>ad G h Z (.str b) c->QK=QI) r λt r'=>(show _/\∃t',Value.int a t=.str (St b) t' from r').2.elim λu e=>nomatch e)
  (λu a b c r=>cJ (C:=λc=>ad G h Z (.tup b) c->QK=QI) r λt r'=>(show _/\∃x items,Value.str (St a) t=.ref x/\_ from r').2.elim λu p=>p.elim λu p=>nomatch p.1)
  (λu a b c r r'=>cJ (C:=λc=>ad G h Z (.tup a) c->QK=QI) r' (λt r=>(show _/\∃x items,Value.str (St b) t=.ref x/\_ from r).2.elim λu p=>p.elim λu p=>nomatch p.1) r)
  (λu a b k u ih c r=>lb (C:=λc=>ad G h Z (.tup b) c->k=QI) r λx items hx u rs r'=>(show _/\∃y items',Value.ref x=.ref y/\ej h y items'/\_/\af G h Z b items'.toList from r').2.elim λy p=>p.elim λitems' p=>by cases p.1;have:=OO (hx.choose_spec.symm.trans p.2.1.choose_spec);cases this;exact ih _ rs p.2.2.2)
  (λu u u u=>rfl)
  (λu y ys c r=>lV (C:=λc=>af G h Z (y::ys) c->QK=QI) r λr'=>(show ∃c cs,([]:List Value)=c::cs/\_ from r').elim λu p=>p.elim λu p=>nomatch p.1)
  (λu x xs c r r'=>lV (C:=λc=>af G h Z (x::xs) c->QK=QI) r' (λr=>(show ∃c cs,([]:List Value)=c::cs/\_ from r).elim λu p=>p.elim λu p=>nomatch p.1) r)
  (λu x y xs ys a b u u ih1 ih2 c r=>qh (C:=λc=>af G h Z (y::ys) c->(a&&b)=QI) r λc cs r1 r2 r'=>(show ∃d ds,c::cs=d::ds/\ad G h Z y d/\af G h Z ys ds from r').elim λd p=>p.elim λds p=>by cases p.1;exact OD.mpr ⟨ih1 _ r1 p.2.1,ih2 _ r2 p.2.2⟩) e
theorem r9{items:Array Value}(r:af G h Z vs items.toList){j:Nat}(hj:j<items.size):∃v,vs[j]?=QA v/\ad G h Z v items[j]:=by
 have hl:=r.length;have hj':j<vs.length:=by(refine hl▸?_);exact hj
 refine ak (r.get (i:=j) (v:=vs[j]) (by simp[hj'])) λc hc rc=>⟨vs[j],by simp[hj'],?_⟩;have:items[j]=c:=by have:=(Array.getElem?_toList (xs:=items) (i:=j)).symm.trans hc;simpa[hj] using this
 exact this.symm▸rc
theorem yQ(a b:List Nat):(St a==St b)=(a==b):=by
 by_cases h:a=b
 ·subst h;rw[beq_self_eq_true,beq_self_eq_true]
 ·have:St a≠St b:=λq=>h (by simpa[St] using q);exact(PJ.mpr this)▸(PJ.mpr h)▸rfl
def pf(A:Around)(s:Shared)(c d:Value)(k:Bool):Prop:=RcAt A s c d k/\EqAt A s c d k/\RcNeAt A s c d (!k)
def ij(G:Wd)(Z:Mu)(s:Shared)(n:Nat)(a b:List AV)(k:Bool):Prop:=∃e:Nat->Bool,(∀(j:Nat) x y,a[j]?=QA x->b[j]?=QA y->∀(A:Around) (c d:Value),A.units+n<cLine->ad G s.heap Z x c->ad G s.heap Z y d->pf A s c d (e j))/\k=((List.range (min a.length b.length)).all e&&a.length==b.length)
theorem ij.cons{y:AV}{xs ys:List AV}{a:Bool}(h1:∀(A:Around) (c d:Value),A.units+n<cLine->ad G s.heap Z x c->ad G s.heap Z y d->pf A s c d a)(ih:ij G Z s n xs ys b):ij G Z s n (x::xs) (y::ys) (a&&b):=
 ih.elim λe p=>⟨λj=>Nat.casesOn j a e,λj=>Nat.casesOn j (λx' y' q1 q2=>by((have hz:=OO q1;subst hz));((have hz:=OO q2;subst hz));exact h1) λj x' y' q1 q2=>p.1 j x' y' q1 q2,by
  have e1:min (x::xs).length (y::ys).length=min xs.length ys.length+1:=Nat.add_min_add_right xs.length ys.length 1;have e2:((x::xs).length==(y::ys).length)=(xs.length==ys.length):=by simp
  rw[e1,List.range_succ_eq_map,List.all_cons,List.all_map,e2,p.2,Bool.and_assoc];rfl⟩
theorem ij.he{a b:List AV}{items items2:Array Value}{e:Nat->Bool}(p:∀(j:Nat) x y,a[j]?=QA x->b[j]?=QA y->∀(A:Around) (c d:Value),A.units+n<cLine->ad G s.heap Z x c->ad G s.heap Z y d->pf A s c d (e j))
  (rx:af G s.heap Z a items.toList) (ry:af G s.heap Z b items2.toList) (hu:A.units+(n+1)<cLine):∀j (h1:j<items.size) (h2:j<items2.size),EqAt A.in1 s items[j] items2[j] (e j):=λj j1 j2=>
 (r9 rx j1).elim λv z=>(r9 ry j2).elim λv' z'=>(p j v v' z.1 z'.1 A.in1 _ _ (by show A.units+1+n<cLine;exact OI (Ql (O7 _ 1 _)) hu) z.2 z'.2).2.1
def Jl(G:Wd)(Z:Mu)(s:Shared)(n:Nat)(a b:AV)(k:Bool):Prop:=∀(A:Around) (c d:Value),A.units+n<cLine->ad G s.heap Z a c->ad G s.heap Z b d->pf A s c d k
theorem vU{a b:List AV}{k:Bool}(q:gJ n a b k)(ih:ij G Z s n a b k):Jl G Z s (n+1) (.tup a) (.tup b) k:=λA c d hu r r'=>
 lb (C:=λc=>ad G s.heap Z (.tup a) c->pf A s c d k) r (λx items tx nx rx r0=>lb (C:=λd=>ad G s.heap Z (.tup b) d->pf A s (.ref x) d k) r' (λy items2 ty ny ry r0'=>ih.elim λf p=>by
   have hu':A.units<cLine:=OI (O1 A.units (n+1)) hu;have l1:=rx.length;have l2:=ry.length;simp only[Qg] at l1 l2;have he:=ij.he p.1 rx ry hu;have rc:=RcAt.tuples (A:=A) (e:=f) tx.isTuple ty.isTuple hu' he;have rn:=RcNeAt.tuples (A:=A) (e:=f) tx.isTuple ty.isTuple hu' he;rw[l1,l2, <-p.2] at rc rn;refine⟨rc,?_,rn⟩;by_cases hxy:x=y
   ·subst hxy;exact(kW.tt n a b k q).same _ r0 r0'▸ .same _
   ·exact EqAt.of_refs hxy rc) r') r
theorem se{a b:List AV}{k:Bool}(e:gJ n a b k):ij G Z s n a b k/\Jl G Z s (n+1) (.tup a) (.tup b) k:=
 gJ.rec (motive_1:=λn a b k u=>Jl G Z s n a b k) (motive_2:=λn a b k q=>ij G Z s n a b k/\Jl G Z s (n+1) (.tup a) (.tup b) k)
  (λu a b A c d hu r r'=>cJ (C:=λc=>pf A s c d (a==b)) r λt=>cJ (C:=λd=>pf A s (.str (St a) t) d (a==b)) r' λt'=>yQ a b▸⟨.str_str _ _ _ _,.str_str _ _ _ _,.str_str _ _ _ _⟩)
  (λu a b A c d hu r r'=>eU (C:=λc=>pf A s c d (a==b)) r λt=>eU (C:=λd=>pf A s (.int a t) d (a==b)) r' λt'=>⟨.int_int _ _ _ _,.int_int _ _ _ _,.int_int _ _ _ _⟩)
  (λu a b A c d hu r r'=>jm (C:=λc=>pf A s c d (a==b)) r (jm (C:=λd=>pf A s (.bool a) d (a==b)) r' ⟨.bool_bool _ _,.bool_bool _ _,.bool_bool _ _⟩))
  (λu a b A c d hu r r'=>cJ (C:=λc=>pf A s c d QK) r λt=>eU (C:=λd=>pf A s (.str (St a) t) d QK) r' λt'=>⟨.str_int _ _ _ _,.str_int _ _ _ _,.str_int _ _ _ _⟩)
  (λu a b A c d hu r r'=>eU (C:=λc=>pf A s c d QK) r λt=>cJ (C:=λd=>pf A s (.int a t) d QK) r' λt'=>⟨.int_str _ _ _ _,.int_str _ _ _ _,.int_str _ _ _ _⟩)
  (λn a b A c d hu r r'=>cJ (C:=λc=>pf A s c d QK) r λt=>lb (C:=λd=>pf A s (.str (St a) t) d QK) r' λx items hx u u=>
   have hu:=OI (O1 A.units n) hu
   ⟨.str_tuple _ _ hx.isTuple hu,.str_tuple _ _ hx.isTuple hu,.str_tuple _ _ hx.isTuple hu⟩)
  (λn a b A c d hu r r'=>lb (C:=λc=>pf A s c d QK) r λx items hx u u=>cJ (C:=λd=>pf A s (.ref x) d QK) r' λt=>
   have hu:=OI (O1 A.units n) hu
   ⟨.tuple_str _ _ hx.isTuple hu,.tuple_str _ _ hx.isTuple hu,.tuple_str _ _ hx.isTuple hu⟩)
  (λn a b k u ih=>ih.2)
  (λn=>have z:ij G Z s n [] [] QI:=⟨λu=>QI,⟨λu u u h=>absurd h (by trivial),rfl⟩⟩;⟨z,vU (.nn n) z⟩)
  (λn y ys=>have z:ij G Z s n [] (y::ys) QK:=⟨λu=>QI,⟨λu u u h=>absurd h (by trivial),rfl⟩⟩;⟨z,vU (.nc n y ys) z⟩)
  (λn x xs=>have z:ij G Z s n (x::xs) [] QK:=⟨λu=>QI,⟨λu u u u h=>absurd h (by trivial),rfl⟩⟩;⟨z,vU (.cn n x xs) z⟩)
  (λn x y xs ys a b h1 h2 i1 i2=>have z:=i2.1.cons (x:=x) (y:=y) (a:=a) i1;⟨z,vU (.cc n x y xs ys a b h1 h2) z⟩) e
theorem kW.at{b:AV}{k:Bool}(e:kW n a b k):Jl G Z s n a b k:=λA c d hu r r'=>((se (.cc n a b [] [] k QI e (.nn n))).1).elim λf p=>by
 have z:=p.1 0 a b rfl rfl A c d hu r r';have:f 0=k:=by have:=p.2;simpa using this.symm
 rw[this] at z;exact z
end
section
set_option genCtorIdx false
open PySem PySem.W PySem.SeqAt
variable{G:Wd}{W X:List Addr}{Z Z':Mu}{h h':Heap}{l:List Env}{J J':Hp}{s:Shared}{A:Around}{E:Value->Shared->Prop}
structure Fo(G:Wd)(c:Nat):Prop where
 get:plainGet G.K (G.cls c) ""=QI
 dict:hasDictIn G.K (G.cls c)=QI
 set:findIn G.K (.ref (G.cls c)) "__setattr__"=QA (QA (.builtin "object.__setattr__"))
 over:plainOver G.K (G.cls c)=QI
 attr:∀f,f<G.nA->match Pg.meth c f with
  |some k=>findIn G.K (.ref (G.cls c)) (G.attr f)=QA (QA (.ref (G.fn k)))/\typeIn G.K (.ref (G.fn k))=QA (.type "function")
  |none=>takerIn G.K (G.cls c) (G.attr f)=QA QE/\match Pg.cattr c f with
   |some v=>∃b,v=.bool b/\findIn G.K (.ref (G.cls c)) (G.attr f)=QA (QA (.bool b))/\specialIn G.K (.bool b) "__get__"=QA QE/\copiedNames.contains (G.attr f)=QK
   |none=>findIn G.K (.ref (G.cls c)) (G.attr f)=QA QE
structure jN(G:Wd):Prop where
 sys:∃o,G.H.get? sysModules=QA o
 nolim:G.H.NoLimit
 kin:G.K.In G.H
 cls:∀c,c<G.nC->Fo G c
 names:∀f g,f<G.nA->g<G.nA->G.attr f=G.attr g->f=g
def aT(G:Wd)(l:List Env)(Z:Mu)(h:Heap)(v:AV)(J':Hp)(c:Value)(s':Shared):Prop:=
 ∃Z',SR G l Z' J' s'/\au [] [G.tab] Z h Z' s'.heap/\ad G s'.heap Z' v c
theorem aT.here(R:SR G l Z J s){v:AV}{c:Value}(r:ad G s.heap Z v c)(t:Nat):aT G l Z s.heap v J c {s with toks:=t}:=⟨Z,R.tok t,.refl,r⟩
theorem aT.now(R:SR G l Z J s){v:AV}{c:Value}(r:ad G s.heap Z v c):aT G l Z s.heap v J c s:=⟨Z,R,.refl,r⟩
set_option tactic.hygienic true in
theorem jT(R:SR G l Z J s){a:AV}{c:Value}(r:ad G s.heap Z a c){vs:List AV}(e:du J a=QA vs){C:Value->Prop}(k:∀x items,s.heap.IsList x items->af G s.heap Z vs items.toList->C (.ref x)):C c:=by
 revert r e;refine AV.casesOn (motive_1:=λa=>ad G s.heap Z a c->du J a=QA vs->C c) a (λu0u e=>nomatch e) (λu0u u0u e=>nomatch e) (λu0u u0u e=>nomatch e) (λu0u u0u e=>nomatch e) (λu0u u0u e=>nomatch e) (λws r e=>?_) (λj r e=>?_) (λu0u u0u u0u e=>nomatch e) (λu0u e=>nomatch e)
 ·cases(OO e:ws=vs);obtain⟨_,x,items,rfl,nq4,rs⟩:=r;exact ak nq4 λo ho hr=>k x items ⟨o,R.stays x o ho,hr⟩ rs
 ·refine jy (C:=C) r λx d e2=>eX (R.at (fM e)) λx' d' e1 ro=>?_;cases e1.symm.trans e2;obtain⟨rfl,_,items,hl,rs⟩:=ro;exact k _ items hl.isList rs
def IK(A:Around)(s:Shared)(c d:Value)(k:Bool):Prop:=RcAt A s c d k/\RcNeAt A s c d (!k)
theorem Ck.at(R:SR G l Z J s){a b:AV}{c d:Value}(r:ad G s.heap Z a c)(r':ad G s.heap Z b d)(hu:A.units+200<cLine){k:Bool}(e:Ck J a b k):IK A s c d k:=
 have hu':A.units<cLine:=OI (O1 A.units 200) hu
 Ck.casesOn (motive:=λk u0u=>IK A s c d k) e (λk e=>have z:=e.at A c d (OI (O4 dc A.units) hu) r r';⟨z.1,z.2.2⟩)
  (λxs ys k e1 e2 hl e=>jT (C:=λc=>IK A s c d k) R r e1 λx items hx rx=>jT (C:=λd=>IK A s (.ref x) d k) R r' e2 λy items2 hy ry=>(se (G:=G) (Z:=Z) (s:=s) e).1.elim λf p=>by
   have l1:=rx.length;have l2:=ry.length;simp only[Qg] at l1 l2;have hsz:items.size=items2.size:=(l1.trans hl).trans l2.symm;have he:=ij.he (A:=A) p.1 rx ry (OI (O4 dc A.units) hu);have:k=(List.range items.size).all f:=by((refine p.2.symm▸?_;refine hl.symm▸?_;refine(Nat.min_self ..).symm▸?_;refine(l2.symm.trans hsz.symm).symm▸?_));simp
   rw[this];exact⟨RcAt.lists (A:=A) (e:=f) hx hy hsz hu' he,RcNeAt.lists (A:=A) (e:=f) hx hy hsz hu' he⟩)
  (λxs ys e1 e2 hl=>jT (C:=λc=>IK A s c d QK) R r e1 λx items hx rx=>jT (C:=λd=>IK A s (.ref x) d QK) R r' e2 λy items2 hy ry=>by have l1:=rx.length;have l2:=ry.length;simp only[Qg] at l1 l2;have hne:(items.size != items2.size)=QI:=bne_iff_ne.mpr λz=>hl (l1.symm.trans (z.trans l2));exact⟨RcAt.lists_lengths hx hy hne hu',RcNeAt.lists_lengths hx hy hne hu'⟩)
def Cz(G:Wd)(h:Heap)(Z:Mu)(x:AV)(cs:List Value)(k:Bool):Prop:=∃f:Value->Bool,(∀c∈cs,∃y,ad G h Z y c/\kW Ct y x (f c))/\(∀c,f c=QI->c∈cs)/\k=cs.any f
theorem ju.hits{k:Bool}(q:ju x vs k):∀cs,af G h Z vs cs->Cz G h Z x cs k:=by
 classical
 exact ju.rec (motive:=λvs k u0u=>∀cs,af G h Z vs cs->Cz G h Z x cs k)
  (λcs r=>lV (C:=λcs=>Cz G h Z x cs QK) r ⟨λu0u=>QK,(λu0u h=>nomatch h),(λu0u h=>nomatch h),rfl⟩)
  (λy ys a b e u0u ih cs r=>qh (C:=λcs=>Cz G h Z x cs (a||b)) r λc cs r1 r2=>(ih cs r2).elim λf p=>⟨λd=>(decide (d=c)&&a)||f d,by
   refine⟨λd hd=>?_,λd hd=>?_,?_⟩
   ·by_cases hc:d=c
    ·subst hc;cases a
     ·simp only[Bool.and_false,Bool.false_or];cases hf:f d
      ·exact⟨y,r1,e⟩
      ·exact hf▸p.1 d (p.2.1 d hf)
     ·simp only[decide_true,Bool.and_true,Bool.true_or];exact⟨y,r1,e⟩
    ·simp only[hc,decide_false,Bool.false_and,Bool.false_or];exact p.1 d ((OZ.mp hd).resolve_left hc)
   ·rcases Pp.mp hd with z|z
    ·exact(Pm (OD.mp z).1).symm▸ON
    ·exact O0 _ (p.2.1 d z)
   ·rw[p.2.2,Bool.eq_iff_iff,Bool.or_eq_true,List.any_eq_true,List.any_eq_true];constructor
    ·rintro(z|⟨d,h1,h2⟩)
     ·exact⟨c,ON,by simp[z]⟩
     ·exact⟨d,O0 _ h1,by simp[h2]⟩
    ·rintro⟨d,h1,h2⟩
     rcases Pp.mp h2 with z|z
     ·exact .inl (OD.mp z).2
     ·exact .inr ⟨d,p.2.1 d z,z⟩⟩) q
theorem jU:∀(s t:List Nat),d4 s t=QI↔∃r,t=s++r
 |[],t=>⟨λu=>⟨t,rfl⟩,λu=>rfl⟩
 |x::xs,[]=>⟨λh=>ff h,λh=>h.elim λr e=>nomatch e⟩
 |x::xs,y::ys=>by
  simp only[oY,Qh,beq_iff_eq,jU xs ys,List.cons_append,List.cons.injEq];constructor
  ·rintro⟨rfl,r,rfl⟩;exact⟨r,rfl,rfl⟩
  ·rintro⟨r,rfl,rfl⟩;exact⟨rfl,r,rfl⟩
theorem pg(s:List Nat):∀t:List Nat,iw s t=QI↔∃i,i+s.length<=t.length/\d4 s (t.drop i)=QI
 |[]=>by
  show s.isEmpty=QI↔_;simp only[List.isEmpty_iff,List.length_nil,List.drop_nil];constructor
  ·rintro rfl;exact⟨0,by decide,rfl⟩
  ·rintro⟨i,h,_⟩;exact List.eq_nil_of_length_eq_zero (Nat.eq_zero_of_le_zero (OK (PV _ _) h))
 |y::ys=>by
  simp only[yL,Bool.or_eq_true,pg s ys];constructor
  ·rintro(h|⟨i,h1,h2⟩)
   ·refine⟨0,?_,h⟩;refine aB ((jU _ _).mp h) λr e=>?_;rw[e];simp
   ·exact⟨i+1,by simp only[Pr];exact OK (Ql (O7 _ 1 _)) (PQ h1),h2⟩
  ·rintro⟨i,h1,h2⟩
   cases i with
   |zero=>exact .inl h2
   |succ i=>exact .inr ⟨i,by simp only[Pr] at h1;exact Nat.le_of_succ_le_succ (OK (Ql (O7 _ 1 _).symm) h1),h2⟩
theorem lW:∀(y x:List Nat),d4 y x=(x.take y.length==y)
 |[],x=>by show QI=_;rfl
 |a::y,[]=>by show QK=_;rfl
 |a::y,b::x=>by
  simp only[oY,lW y x,Pr,List.take_succ_cons,List.cons_beq_cons];by_cases h:a=b
  ·subst h;rfl
  ·have:(b==a)=QK:=by simp;exact λq=>h q.symm
   simp[h,this]
theorem sf(x y:List Nat)(i:Nat):Builtin.Str.subAt (St x) (St y) i=d4 y (x.drop i):=by rw[StrLaws.subAt_eq,lW];rfl
theorem lX(x y:List Nat):Txt.contains (St x) (St y)=iw y x:=by
 rw[Bool.eq_iff_iff,pg];unfold Txt.contains;refine(StrLaws.found_iff ..).trans ?_;constructor
 ·rintro⟨i,h1,h2⟩;rw[sf] at h2;exact⟨i,h1,h2⟩
 ·rintro⟨i,h1,h2⟩;exact⟨i,h1,by refine(sf ..).trans ?_;exact h2⟩
noncomputable def yR:oz->CmpOp
 |.eq=>.Eq|.ne=>.NotEq|.lt=>.Lt|.gt=>.Gt|.isin=>.In|.notin=>.NotIn|.is=>.Is|.isnot=>.IsNot
theorem bO.value{kvs:List (Str×Value)}(r:bO G h Z es kvs)(k:List Nat):
  match eR k es with
  |some v=>∃c,valueAt kvs (St k)=QA c/\ad G h Z v c
  |none=>valueAt kvs (St k)=QE:=by
 induction r with
 |nil=>show valueAt [] (St k)=QE;simp[valueAt]
 |@cons s v c es kvs rv _ ih=>
  by_cases hk:s=k
  ·subst hk;rw[oZ,if_pos rfl];exact⟨c,by simp[valueAt],rv⟩
  ·have hne:St s≠St k:=λq=>hk (by simpa[St] using q)
   ((refine(oZ ..).symm▸?_;refine(if_neg hk).symm▸?_))
   have:valueAt ((St s,c)::kvs) (St k)=valueAt kvs (St k):=by simp[valueAt,hne]
   exact this.symm▸ih
theorem bO.any{kvs:List (Str×Value)}(r:bO G h Z es kvs)(k:List Nat):(valueAt kvs (St k)).isSome=es.any λe=>e.1==k:=by
 induction r with
 |nil=>simp[valueAt]
 |@cons s v c es kvs rv _ ih=>
  by_cases hk:s=k
  ·subst hk;simp[valueAt]
  ·have hne:St s≠St k:=λq=>hk (by simpa[St] using q);have:valueAt ((St s,c)::kvs) (St k)=valueAt kvs (St k):=by simp[valueAt,hne]
   ((refine this.symm▸?_;refine ih.symm▸?_));simp[hk]
theorem bO.length{kvs:List (Str×Value)}(r:bO G h Z es kvs):kvs.length=es.length:=by
 induction r with
 |nil=>rfl
 |cons _ _ ih=>exact PK _ ‹_›
theorem GI(ok:jN G)(R:SR G l Z J s){k:Nat}{x d:Addr}(e:Z[k]?=QA (x,d)):(d==sysModules)=QK:=by refine aB ok.sys λo q=>PJ.mpr λz=>?_;have:=(R.fresh d (cr e)).1;rw[z,q] at this;exact nn this.symm
def LE(G:Wd)(A:Around)(s:Shared)(x c:Value)(b:Bool):Prop:=∀(E:Value->Shared->Prop) (Q:Value->Shared->Prop),(∀t,Q (.bool b) {s with toks:=t})->wpAny G.M A (compareOp .In x c) Q E s
def CA(G:Wd)(A:Around)(s:Shared)(x c:Value)(b:Bool):Prop:=∀(E:Value->Shared->Prop) (Q:Value->Shared->Prop),(∀t,Q (.bool b) {s with toks:=t})->wpAny G.M A (compareOp .NotIn x c) Q E s
def yC(G:Wd)(A:Around)(s:Shared)(c d:Value)(k:Bool):Prop:=LE G A s c d k/\CA G A s c d (!k)
theorem InR.at(ok:jN G)(R:SR G l Z J s)(hu:A.units+200<cLine){a b:AV}{k:Bool}(e:InR J a b k):∀(c d:Value),ad G s.heap Z a c->ad G s.heap Z b d->yC G A s c d k:=
 have seqs:∀{a:AV} {c:Value} {vs:List AV} {k:Bool} {items:Array Value} {C:Bool->Prop},ju a vs k->ad G s.heap Z a c->af G s.heap Z vs items.toList->(∀f:Value->Bool,(∀y,y∈items->EqAt A.in1 s y c (f y))->C (items.any f))->C k:=λ{a c vs k items C} q r rs hk=>
  (q.hits _ rs).elim λf p=>by
   have:items.any f=k:=by refine Eq.trans ?_ p.2.2.symm;simp
   (refine this▸?_)
   exact hk f λy hy=>(p.1 y (by simpa using hy)).elim λv z=>(z.2.at A.in1 _ _ (by show A.units+1+100<cLine;exact OI (O4 (by decide:101<=200) _) hu) z.1 r).2.1
 InR.rec (motive:=λa b k u0u=>∀(c d:Value),ad G s.heap Z a c->ad G s.heap Z b d->yC G A s c d k)
  (λx vs k q c d r r'=>lb (C:=λd=>yC G A s c d k) r' λy items ht u0u rs=>seqs (C:=λk=>yC G A s c (.ref y) k) q r rs λf h1=>⟨λE Q h=>in_tupleAt f ht.isTuple h1 (h s.toks),λE Q h=>notIn_tupleAt f ht.isTuple h1 (h s.toks)⟩)
  (λx b vs k e q c d r r'=>jT (C:=λd=>yC G A s c d k) R r' e λy items hl rs=>seqs (C:=λk=>yC G A s c (.ref y) k) q r rs λf h1=>⟨λE Q h=>in_listAt f hl h1 (h s.toks),λE Q h=>notIn_listAt f hl h1 (h s.toks)⟩)
  (λx t c d r r'=>cJ (C:=λc=>yC G A s c d (iw x t)) r λt1=>cJ (C:=λd=>yC G A s (.str (St x) t1) d (iw x t)) r' λt2=>⟨λE Q h=>SB.contains (by rw[lX];exact h s.toks),λE Q h=>SB.notContains (by rw[lX];exact h s.toks)⟩)
  (λy j es q c d r r'=>cJ (C:=λc=>yC G A s c d (es.any λe=>e.1==y)) r λt=>jy (C:=λd=>yC G A s (.str (St y) t) d (es.any λe=>e.1==y)) r' λx dd e2=>by
   obtain⟨x',d',e1,rfl,_,kvs,hd,re⟩:=R.at q;cases e1.symm.trans e2;have hk:(strKind G.prog G.w).is (St y) (.str (St y) t)=QI:=by exact if_pos rfl
   have hs:=GI ok R e1;rw[<-re.any];exact⟨λE Q h=>wpAny_in_of hk hs hd.mapOf (h _),λE Q h=>wpAny_notIn_of hk hs hd.mapOf (h _)⟩)
  (λy j ss q c d r r'=>cJ (C:=λc=>yC G A s c d (ss.contains y)) r λt=>jy (C:=λd=>yC G A s (.str (St y) t) d (ss.contains y)) r' λx dd e2=>by
   refine lR (R.at q) λx' d' e1 er3 u hd=>?_;subst er3;cases e1.symm.trans e2;have hk:(strKind G.prog G.w).is (St y) (.str (St y) t)=QI:=by exact if_pos rfl
   exact⟨λE Q h=>wpAny_inSet_of hk rfl hd (h _),λE Q h=>wpAny_notInSet_of hk rfl hd (h _)⟩) e
theorem bW.cls{x d:Addr}(r:bW G h Z x d o):∃ob,h.get? x=QA ob/\ob.cls≠ .type "tuple"/\
  (x=d/\(∃T,ob.cls=.type T)\/ob.dict=QA d/\∃C,ob.cls=.ref C):=by
 cases o with
 |list vs=>obtain⟨rfl,_,_,⟨_,q⟩,_⟩:=r;exact⟨_,q,ne_of_beq_false rfl,.inl ⟨rfl,_,rfl⟩⟩
 |dict es=>obtain⟨rfl,_,_,⟨o,_,_,q,c,_⟩,_⟩:=r;exact⟨o,q,by rw[c.1];decide,.inl ⟨rfl,_,c.1⟩⟩
 |sset ss=>obtain⟨rfl,_,⟨o,_,_,_,q,c,_⟩⟩:=r;exact⟨o,q,by rw[c.1];decide,.inl ⟨rfl,_,c.1⟩⟩
 |inst c fs=>obtain⟨_,_,⟨o,q,c,hd,_⟩,_⟩:=r;exact⟨o,q,by rw[c];simp,.inr ⟨hd,_,c⟩⟩
theorem SR.atμ(R:SR G l Z J s){k:Nat}{x d:Addr}(e:Z[k]?=QA (x,d)):∃o,J[k]?=QA o/\bW G s.heap Z x d o:=by
 have hk:k<J.length:=by exact R.len.symm▸((OG.mp e).1)
 exact⟨J[k],by simp[hk],R.objs k _ _ _ (by simp[hk]) e⟩
theorem yS(R:SR G l Z J s){k k':Nat}{x d d':Addr}(e:Z[k]?=QA (x,d))(e':Z[k']?=QA (x,d')):k=k':=by
 refine ak (R.atμ e) λo u ro=>ak (R.atμ e') λo' u ro'=>dh ro.cls λob q u c=>dh ro'.cls λob' q' u c'=>?_;cases q.symm.trans q';rcases c with⟨rfl,T,c⟩|⟨hd,C,c⟩<;>rcases c' with⟨rfl,T',c'⟩|⟨hd',C',c'⟩
 ·exact qg R.nodup e e'
 ·cases c.symm.trans c'
 ·cases c.symm.trans c'
 ·cases hd.symm.trans hd';exact qg R.nodup e e'
def jz(G:Wd)(A:Around)(s:Shared)(c d:Value)(k:Bool):Prop:=∀(E:Value->Shared->Prop) (Q:Bool->Shared->Prop),Q k s->wpAny G.M A (isSame c d) Q E s
theorem bl{c d:Value}{k:Bool}(h1:plainIs c d=QI)(h2:(c==d)=k):jz G A s c d k:=λu0u u0u q=>wpAny_isSame_plain h1 (by rw[h2];exact q)
theorem GJ{c:Value}(i:Nat)(r:ad G h Z a c)(ha:a.ctorIdx≠i){C:Value->Prop}(k0:i≠0->C .none)(k1:i≠1->∀b,C (.bool b))(k2:∀i t,C (.int i t))(k3:∀x t,C (.str x t))(k4:∀x,C (.ref x)):C c:=by
 revert r ha;exact AV.casesOn (motive_1:=λa=>ad G h Z a c->a.ctorIdx≠i->C c) a (λr ha=>lU (C:=C) r (k0 λe=>ha e.symm)) (λb r ha=>jm (C:=C) r (k1 (λe=>ha e.symm) b)) (λi r u0u=>eU (C:=C) r λt=>k2 i t) (λx r u0u=>cJ (C:=C) r λt=>k3 _ t)
  (λvs r u0u=>lb (C:=C) r λx u0u u0u u0u u0u=>k4 x) (λvs r u0u=>(show vs.length<=aE/\∃a items,c=.ref a/\_ from r).2.elim λx p=>p.elim λu0u p=>p.1▸k4 x) (λj r u0u=>jy (C:=C) r λx u0u u0u=>k4 x) (λu0u u0u r u0u=>(show False from r).elim) (λr u0u=>(show False from r).elim)
theorem eY.at(R:SR G l Z J s){a b:AV}{k:Bool}(e:eY a b k):∀(c d:Value),ad G s.heap Z a c->ad G s.heap Z b d->jz G A s c d k:=
 eY.rec (motive:=λa b k u0u=>∀(c d:Value),ad G s.heap Z a c->ad G s.heap Z b d->jz G A s c d k)
  (λc d r r'=>lU (C:=λc=>jz G A s c d QI) r (lU (C:=λd=>jz G A s .none d QI) r' (bl rfl rfl)))
  (λa b c d r r'=>jm (C:=λc=>jz G A s c d (a==b)) r (jm (C:=λd=>jz G A s (.bool a) d (a==b)) r' (bl rfl (by cases a<;>cases b<;>rfl))))
  (λi j c d r r'=>jy (C:=λc=>jz G A s c d (i==j)) r λx dx ex=>jy (C:=λd=>jz G A s (.ref x) d (i==j)) r' λy dy ey E Q q=>by
   by_cases hij:i=j
   ·subst hij;cases ex.symm.trans ey;rw[beq_self_eq_true] at q;exact wpAny_isSame_ref_self q
   ·rw[PJ.mpr hij] at q;exact(R.atμ ex).elim λo p=>(R.atμ ey).elim λo' p'=>p.2.cls.elim λob z=>p'.2.cls.elim λob' z'=>wpAny_isSame_ref_other' (λe=>hij (yS R ex (e▸ey))) z.1 z'.1 z'.2.1 q)
  (λa ha c d r r'=>lU (C:=λd=>jz G A s c d QK) r' (GJ (C:=λc=>jz G A s c .none QK) 0 r ha (λh=>absurd rfl h) (λu0u u0u=>bl rfl rfl) (λu0u u0u=>bl rfl rfl) (λu0u u0u=>bl rfl rfl) λu0u=>bl rfl rfl))
  (λa ha c d r r'=>lU (C:=λc=>jz G A s c d QK) r (GJ (C:=λd=>jz G A s .none d QK) 0 r' ha (λh=>absurd rfl h) (λu0u u0u=>bl rfl rfl) (λu0u u0u=>bl rfl rfl) (λu0u u0u=>bl rfl rfl) λu0u=>bl rfl rfl))
  (λa b ha c d r r'=>jm (C:=λd=>jz G A s c d QK) r' (GJ (C:=λc=>jz G A s c (.bool b) QK) 1 r ha (λu0u=>bl rfl rfl) (λh=>absurd rfl h) (λu0u u0u=>bl rfl rfl) (λu0u u0u=>bl rfl rfl) λu0u=>bl rfl rfl)) e
def IL(G:Wd)(A:Around)(s:Shared)(op:oz)(c d:Value)(k:Bool):Prop:=∀(E:Value->Shared->Prop) (Q:Value->Shared->Prop),(∀t,Q (.bool k) {s with toks:=t})->wpAny G.M A (compareOp (yR op) c d) Q E s
theorem eQ.at(ok:jN G)(R:SR G l Z J s)(hu:A.units+200<cLine){op:oz}{a b:AV}{k:Bool}(e:eQ J op a b k):∀(c d:Value),ad G s.heap Z a c->ad G s.heap Z b d->IL G A s op c d k:=
 eQ.rec (motive:=λop a b k u0u=>∀(c d:Value),ad G s.heap Z a c->ad G s.heap Z b d->IL G A s op c d k)
  (λa b k e c d r r' E Q q=>(e.at R r r' hu).1 _ _ _ _ (q s.toks))
  (λa b k e c d r r' E Q q=>(e.at R r r' hu).2 _ _ _ _ (q s.toks))
  (λx y c d r r'=>eU (C:=λc=>IL G A s .lt c d (decide (x<y))) r λt=>eU (C:=λd=>IL G A s .lt (.int x t) d (decide (x<y))) r' λt' E Q q=>P.lt_int (q s.toks))
  (λx y c d r r'=>eU (C:=λc=>IL G A s .gt c d (decide (y<x))) r λt=>eU (C:=λd=>IL G A s .gt (.int x t) d (decide (y<x))) r' λt' E Q q=>P.gt_int (q s.toks))
  (λa b k e c d r r' E Q q=>(e.at ok R hu c d r r').1 _ _ q)
  (λa b k e c d r r' E Q q=>(e.at ok R hu c d r r').2 _ _ q)
  (λa b k e c d r r' E Q q=>Pf (e.at R c d r r' E _ (Ph (q s.toks))))
  (λa b k e c d r r' E Q q=>Pf (e.at R c d r r' E _ (Ph (q s.toks)))) e
end
section
open PySem PySem.W PySem.SeqAt
variable{G:Wd}{W X:List Addr}{Z Z':Mu}{h h':Heap}{l:List Env}{J J':Hp}{s:Shared}{A:Around}{E:Value->Shared->Prop}
theorem fX(hn:n<=aE):n<=sizeLine:=by unfold aE at hn;have:sizeLine=16777216:=rfl;exact OK ‹_› dc
theorem jV(hn:n<=aE):(n:Int)<2 ^ 63:=by unfold aE at hn;omega
theorem aM(x:List Nat):(St x).length=x.length:=by rfl
theorem i4(x y:List Nat):St x++St y=St (x++y):=by show(⟨(St x).cps++(St y).cps⟩:Str)=_;simp[St]
theorem gM(R:SR G l Z J s){vs:List AV}{items:Array Value}(r:af G s.heap Z vs items.toList)(hl:vs.length<=aE)(t:Nat):
  aT G l Z s.heap (.obj J.length) (J++[.list vs]) (.ref s.heap.objs.size) {s with heap:=s.heap.push {cls:=.type "list",dict:=QE,data:=.seq items,slots:= #[]},toks:=t}:=by
 have k:∀b o,s.heap.get? b=QA o->(s.heap.push {cls:=.type "list",dict:=QE,data:=.seq items,slots:= #[]}).get? b=QA o:=λb o e=>OH _ e;have st:au [] [G.tab] Z s.heap (Z++[(s.heap.objs.size,s.heap.objs.size)]) (s.heap.push {cls:=.type "list",dict:=QE,data:=.seq items,slots:= #[]}):=
  .add k (OX _)
 refine bj (R.grow (x:=s.heap.objs.size) (d:=s.heap.objs.size) k (by simp) (OX _) (ob:=.list vs) ⟨rfl,hl,items,⟨0,OS _ rfl⟩,af.st st r⟩ t) λR' st=>?_;exact⟨_,R',st,s.heap.objs.size,s.heap.objs.size,rfl,by(refine(R.len ..)▸?_);simp⟩
theorem iA(R:SR G l Z J s){vs:List AV}{items:Array Value}(r:af G s.heap Z vs items.toList)(hl:vs.length<=aE)(t:Nat):
  aT G l Z s.heap (.tup vs) J (.ref s.heap.objs.size) {s with heap:=s.heap.push {cls:=.type "tuple",dict:=QE,data:=.seq items,slots:= #[]},toks:=t}:=by
 have k:∀b o,s.heap.get? b=QA o->(s.heap.push {cls:=.type "tuple",dict:=QE,data:=.seq items,slots:= #[]}).get? b=QA o:=λb o e=>OH _ e;refine bj (R.more k (by simp) t) λR' st=>⟨_,R',st,hl,s.heap.objs.size,items,rfl,⟨0,OS _ rfl⟩,λhm=>?_,af.st st r⟩;refine ah λPG Ox=>ak (Pa.mp hm) λnq0 hp q=>?_;obtain⟨x',d'⟩:=nq0;obtain⟨i,hi,e⟩:=List.mem_iff_getElem.mp hp;refine ak (R.atμ (k:=i) (x:=x') (d:=d') (by simp[hi,e])) λo u ro=>aB ro.there λob z=>Ox ?_;have:=Pe z;rw[show d'=s.heap.objs.size from q] at this;exact absurd this (Qk _)
theorem mw(R:SR G l Z J s){i:Nat}{c:Value}(r:ad G s.heap Z (.obj i) c){vs:List AV}(e:J[i]?=QA (.list vs)):
  ∃d items,c=.ref d/\Z[i]?=QA (d,d)/\dA s.heap d items/\af G s.heap Z vs items.toList/\vs.length<=aE:=by
 refine ah λPG Ox=>?_;obtain⟨x,d,e1,rfl,hl,items,q,rs⟩:=R.at e;refine eX r λx' d' er2 e2=>?_;subst er2;refine Ox ?_;cases e1.symm.trans e2;exact⟨x,items,rfl,e1,q,rs,hl⟩
noncomputable def jn:Bop->Operator
 |.add=>.Add|.sub=>.Sub|.mul=>.Mult|.mod=>.Mod|.fdiv=>.FloorDiv
theorem mW{i:Int}(hi:fN i=QI): -(2 ^ 62)<i/\i<2 ^ 62:=by simp only[fN,Qh,decide_eq_true_eq] at hi;assumption
def ay(G:Wd)(A:Around)(l:List Env)(Z:Mu)(s:Shared)(m:Sem Value)(v:AV)(J':Hp):Prop:=∀(E:Value->Shared->Prop) (Q:Value->Shared->Prop),(∀c s',aT G l Z s.heap v J' c s'->Q c s')->wpAny G.M A m Q E s
theorem yT(R:SR G l Z J s){x y:List AV}(hs:(x++y).length<=aE){c d:Value}(r:ad G s.heap Z (.tup x) c)(r':ad G s.heap Z (.tup y) d):ay G A l Z s (binaryOp .Add c d) (.tup (x++y)) J:=
 lb (C:=λc=>ay G A l Z s (binaryOp .Add c d) (.tup (x++y)) J) r λp items tp np rp=>lb (C:=λd=>ay G A l Z s (binaryOp .Add (.ref p) d) (.tup (x++y)) J) r' λq items2 tq nq rq E Q hQ=>tp.elim λn tp=>tq.elim λn2 tq=>by
   have l1:=rp.length;have l2:=rq.length;simp only[Qg] at l1 l2;by_cases h1:items.isEmpty=QI
   ·refine concat_meets ⟨_,tp,rfl⟩ ⟨_,tq,rfl⟩ noFill_tuple_add seq_tuple_add F.slot_tuple_add F.entry_tuple_add (F.args_tuple_add_2 _ _) (AutoSeq1.tuple___add___tuple_tuple_0 p items n q items2 n2 h1) ⟨tp,tq,?_⟩;have:x=[]:=List.eq_nil_of_length_eq_zero (by refine l1.symm.trans ?_;exact Pl h1);subst this;exact hQ _ _ (aT.now (v:=.tup _) R ⟨hs,q,items2,rfl,⟨n2,tq⟩,nq,rq⟩)
   ·by_cases h2:items2.isEmpty=QI
    ·refine concat_meets ⟨_,tp,rfl⟩ ⟨_,tq,rfl⟩ noFill_tuple_add seq_tuple_add F.slot_tuple_add F.entry_tuple_add (F.args_tuple_add_2 _ _) (AutoSeq1.tuple___add___tuple_tuple_1 p items n q items2 n2 h1 h2) ⟨tp,tq,?_⟩;have:y=[]:=List.eq_nil_of_length_eq_zero (by refine l2.symm.trans ?_;exact Pl h2);subst this;exact hQ _ _ (aT.now (v:=.tup _) R ⟨hs,p,items,rfl,⟨n,tp⟩,np,by simpa using rp⟩)
    ·refine P.add_tuple tp tq h1 h2 (hQ _ _ (iA R (by simpa using rp.append rq) hs _)) (by((refine l1.symm▸?_;refine l2.symm▸?_));exact fX (by simpa using hs))
theorem sh(c:Value):∀(n:Nat) (a:Array Value),List.foldl (λx1 x2=>x1++x2) a (List.replicate n #[c])=a++(List.replicate n c).toArray
 |0,a=>by rfl
 |n+1,a=>by rw[List.replicate_succ,List.foldl_cons,sh c n];apply Array.ext';simp[List.replicate_succ]
theorem yU(R:SR G l Z J s){i:Nat}{x:Int}{y:AV}(q1:J[i]?=QA (.list [y]))(h0:0<=x)(hn:x.toNat<=aE){c d:Value}(r:ad G s.heap Z (.obj i) c)(r':ad G s.heap Z (.int x) d):ay G A l Z s (binaryOp .Mult c d) (.obj J.length) (J++[.list (List.replicate x.toNat y)]):=λE Q hQ=>by
 refine ah λPG Ox=>?_;refine vK (mw R r q1) λp items er2 e1 nq4 rp u=>?_;subst er2;refine aB nq4 λk hp=>Ox (eU (C:=λd=>wpAny G.M A (binaryOp .Mult (.ref p) d) Q E s) r' λu0u=>?_);refine qh (C:=λcs=>items.toList=cs->wpAny G.M A (binaryOp .Mult (.ref p) (.int x u0u)) Q E s) rp (λc cs rc rn=>lV (C:=λcs=>items.toList=c::cs->wpAny G.M A (binaryOp .Mult (.ref p) (.int x u0u)) Q E s) rn λec=>?_) rfl;have hi:items= #[c]:=by apply Array.ext';exact ec
 subst hi;have hz:(#[c]:Array Value).size*x.toNat<=2 ^ 24:=by show 1*x.toNat<=2 ^ 24;rw[Nat.one_mul];exact fX hn
 have hz1:x.toNat<=2 ^ 24:=fX hn;have hhi:x<2 ^ 63:=by have:=jV hn;omega
 clear rp q1 e1;refine wpAny_binaryOp_repeat_ref (U:="int") dc ⟨_,hp,rfl⟩ (λs'=>typeIs_int s' x u0u) noFill_list_mul F.fills_int_mul F.slot_int_rmul repeat_list F.slot_int_index.lookup
   (call_meets F.slot_int_rmul (typeIs_int s x u0u) F.entry_int_rmul (F.args_int_rmul_2 _ _) (int___rmul___int_list x u0u p #[c] k)
    ⟨hp,rfl,⟨_,hp,rfl⟩,call_meets F.slot_list_mul ⟨_,hp,rfl⟩ F.entry_list_mul (F.args_list_mul_2 _ _)
     (AutoListH.list___mul___list_int_3 p #[c] k x u0u (by simp[Builtin.List.listFitsIndex];omega) (by omega) (by simp[Builtin.List.listTooLong,sizeLine];omega)) ⟨hp,?_⟩⟩)
 have:=gM R (items:=(List.replicate x.toNat c).toArray) (vs:=List.replicate x.toNat y) (af.replicate rc x.toNat) (by simpa using hn) s.toks;simp only[sh c x.toNat #[],List.isEmpty_toArray,List.isEmpty_cons,Bool.false_eq_true,if_false,Array.empty_append];exact hQ _ _ this
theorem jv.at(R:SR G l Z J s){op:Bop}{a b v:AV}(e:jv J op a b v J'):∀(c d:Value),ad G s.heap Z a c->ad G s.heap Z b d->ay G A l Z s (binaryOp (jn op) c d) v J':=
 have fin:∀(x:Int) {Q:Value->Shared->Prop},(∀c s',aT G l Z s.heap (.int x) J c s'->Q c s')->Q (.int x s.toks) {s with toks:=s.toks+1}:=λx Q q=>q _ _ (aT.here (v:=.int x) R ⟨_,rfl⟩ _);have two:∀{x y:Int} {v:AV} {c d:Value} {op:Operator},ad G s.heap Z (.int x) c->ad G s.heap Z (.int y) d->(∀t t',ay G A l Z s (binaryOp op (.int x t) (.int y t')) v J)->ay G A l Z s (binaryOp op c d) v J:=λ{x y v c d op} r r' k=>eU (C:=λc=>ay G A l Z s (binaryOp op c d) v J) r λt=>eU (C:=λd=>ay G A l Z s (binaryOp op (.int x t) d) v J) r' λt'=>k t t'
 jv.rec (motive:=λop a b v J' u=>∀(c d:Value),ad G s.heap Z a c->ad G s.heap Z b d->ay G A l Z s (binaryOp (jn op) c d) v J')
  (λx y c d r r'=>two r r' λu u E Q hQ=>P.add_int (fin _ hQ))
  (λx y c d r r'=>two r r' λu u E Q hQ=>P.sub_int (fin _ hQ))
  (λx y h1 h2 c d r r'=>two r r' λu u E Q hQ=>by have h1:=mW h1;have h2:=mW h2;exact P.mul_int (fin _ hQ) (by mul_fits))
  (λx y hy c d r r'=>two r r' λu u E Q hQ=>PyProof.Rows.mod_int' hy (fin _ hQ))
  (λx y h1 h2 c d r r'=>two r r' λu u E Q hQ=>PyProof.Rows.floordiv_int (Int.ne_of_gt h1) (fin _ hQ) (Or.inl (PyProof.noPylong_small (by omega))))
  (λx y hs c d r r'=>cJ (C:=λc=>ay G A l Z s (binaryOp .Add c d) (.str (x++y)) J) r λt=>cJ (C:=λd=>ay G A l Z s (binaryOp .Add (.str (St x) t) d) (.str (x++y)) J) r' λt' E Q hQ=>SB.add (λt'' k=>by rw[i4];exact hQ _ _ (aT.here (v:=.str _) R ⟨hs,_,rfl⟩ _)) (by rw[aM,aM];exact fX (by simpa using hs)))
  (λx y hs c d r r'=>yT R hs r r')
  (λi j x y q1 q2 hs c d r r' E Q hQ=>by refine ah λPG Ox=>?_;refine vK (mw R r q1) λp items er2 e1 nq4 rp u=>?_;subst er2;refine aB nq4 λn hp=>?_;refine vK (mw R r' q2) λq items2 er2 e2 nq4 rq u=>?_;subst er2;refine aB nq4 λn2 hq=>Ox ?_;have l1:=rp.length;have l2:=rq.length;simp only[Qg] at l1 l2;exact P.add_list hp hq (hQ _ _ (gM R (by simpa using rp.append rq) hs _)) (by((refine l1.symm▸?_;refine l2.symm▸?_));exact fX (by simpa using hs)))
  (λi n x q1 h0 hn c d r r'=>yU R q1 h0 hn r r') e
set_option tactic.hygienic true in
theorem truthy_sound(R:SR G l Z J s){a:AV}{c:Value}(r:ad G s.heap Z a c){b:Bool}(e:truthy J a=QA b){Q:Bool->Shared->Prop}(hQ:∀t,Q b {s with toks:=t}):wpAny G.M A (PySem.truthy c) Q E s:=by
 have h0:Q b s:=hQ s.toks;cases a<;>first|exact nn e|replace e:=OO e|skip
 ·subst e;subst r;exact PyProof.Rows.truthy_none h0
 ·subst e;subst r;exact wpAny_truthy_bool h0
 ·subst e;refine aB r λu er1=>?_;subst er1;exact P.truthy_int h0
 ·rename_i x;subst e;obtain⟨hl,_,rfl⟩:=r;have:=jV hl;refine P.truthy_str (by rw[aM];exact Int.not_le.mpr this) ?_;rw[aM];have:(((x.length:Nat):Int) != 0)= !x.isEmpty:=by cases x<;>(rfl)<;>omega
  exact this.symm▸(hQ _)
 ·rename_i x;subst e;obtain⟨hl,_,items,rfl,ht,_,rs⟩:=r;have l1:=rs.length;simp only[Qg] at l1;refine PyProof.Rows.truthy_tuple (ht.isTuple) (by rw[l1];exact jV hl) ?_;have:items.isEmpty=x.isEmpty:=by rw[Bool.eq_iff_iff,Array.isEmpty_iff_size_eq_zero,List.isEmpty_iff_length_eq_zero,l1]
  exact this.symm▸(hQ _)
 ·rename_i k;refine(Pb.mp (show(fL J k).map _=QA b from e)).elim λvs p=>?_;have q:=fM p.1;cases p.2;refine vK (mw R r q) λd items er2 u hl rs hle=>?_;subst er2;have l1:=rs.length;simp only[Qg] at l1;refine wpAny_truthy_list hl.isList (by rw[l1];exact jV hle) ?_;have:items.isEmpty=vs.isEmpty:=by rw[Bool.eq_iff_iff,Array.isEmpty_iff_size_eq_zero,List.isEmpty_iff_length_eq_zero,l1]
  exact this.symm▸(hQ _)
theorem Fp{i:Int}(h0:0<=i)(h1:i.toNat<n):seqIndex? i n=QA i.toNat:=by
 unfold seqIndex?;have h2: ¬i<0:=Qo.mpr h0;have h3:i<(n:Int):=by omega
 simp[h2,h0,h3]
theorem sj{items:Array Value}(rs:af G h Z vs items.toList){n:Nat}{v:AV}(e:vs[n]?=QA v):∃c,items[n]?=QA c/\ad G h Z v c:=(rs.get e).elim λc p=>⟨c,by simpa using p.1,p.2⟩
theorem so(hl:vs.length<=aE)(e:vs[n]?=QA v):((n:Nat):Int)<2 ^ 63:=jV (OK (Pc (OG.mp e).1) hl)
set_option tactic.hygienic true in
theorem mX(R:SR G l Z J s){a:AV}{c:Value}(r:ad G s.heap Z a c){vs:List AV}(e:du J a=QA vs):vs.length<=aE:=by
 cases a with
 |flist ws=>cases(OO e:ws=vs);exact r.1
 |obj k=>exact(R.at (fM e)).elim λu p=>p.elim λu p=>p.2.2.1
 |_=>exact nn e
theorem mT.at(R:SR G l Z J s){a b v:AV}(e:mT J a b v):∀(c d:Value),ad G s.heap Z a c->ad G s.heap Z b d->ay G A l Z s (getItem c d) v J:=
 mT.rec (motive:=λa b v u=>∀(c d:Value),ad G s.heap Z a c->ad G s.heap Z b d->ay G A l Z s (getItem c d) v J)
  (λvs n v q c d r r'=>eU (C:=λd=>ay G A l Z s (getItem c d) v J) r' λu0u=>lb (C:=λc=>vs.length<=aE->ay G A l Z s (getItem c (.int n u0u)) v J) r (λp items ht u rs hl E Q hQ=>(sj rs q).elim λx z=>PyProof.Rows.getItem_tuple ht.isTuple (Pw dc (Px n)) (so hl q) (Fp (Px n) (PA.mp z.1).1) z.1 (hQ _ _ (aT.now R z.2))) r.1)
  (λa vs n v e q c d r r'=>eU (C:=λd=>ay G A l Z s (getItem c d) v J) r' λu0u=>jT (C:=λc=>vs.length<=aE->ay G A l Z s (getItem c (.int n u0u)) v J) R r e (λp items hl rs hle E Q hQ=>(sj rs q).elim λx z=>wpAny_getItem_list hl (Px n) (so hle q) z.1 (hQ _ _ (aT.now R z.2))) (mX R r e))
  (λx n ch hc c d r r'=>eU (C:=λd=>ay G A l Z s (getItem c d) (.str [ch]) J) r' λu0u=>cJ (C:=λc=>x.length<=aE->ay G A l Z s (getItem c (.int n u0u)) (.str [ch]) J) r (λt hl E Q hQ=>by have hlt:=(OG.mp hc).1;refine P.getItem_str (c:=ch) (by unfold aE at hl;simp;exact(Qc (m:=9223372036854775808)).mpr (OV hlt (OK hl dc))) ?_ (hQ _ _ (aT.here (v:=.str [ch]) R ⟨PY _,_,rfl⟩ _));rw[aM,Fp (Px n) hlt];simpa[St] using hc) r.1)
  (λj es y v q1 q c d r r'=>cJ (C:=λd=>ay G A l Z s (getItem c d) v J) r' λt=>jy (C:=λc=>ay G A l Z s (getItem c (.str (St y) t)) v J) r λx dd e2 E Q hQ=>by
   refine ah λPG Ox=>?_;obtain⟨x',d',e1,rfl,_,kvs,hd,re⟩:=R.at q1;refine Ox ?_;cases e1.symm.trans e2;have hk:(strKind G.prog G.w).is (St y) (.str (St y) t)=QI:=by exact if_pos rfl
   have:=re.value y;rw[q] at this;exact ak this λcv hv rv=>wpAny_getItem_of hk hd.mapOf hv (hQ _ _ (aT.here R rv _))) e
theorem Jm(a n:Nat):max (0:Int) (min ((a:Nat):Int) ((n:Nat):Int))=((min a n:Nat):Int):=by omega
theorem yV(x:List Nat)(i:Nat):x.drop (min i x.length)=x.drop i:=by
 by_cases h:i<=x.length
 ·rw[Nat.min_eq_left h]
 ·exact(Nat.min_eq_right (Nat.le_of_not_le h)).symm▸(List.drop_length ..).symm▸(List.drop_eq_nil_of_le (Nat.le_of_not_le h)).symm▸rfl
theorem yW(x:List Nat)(j:Nat):x.take (min j x.length)=x.take j:=by
 by_cases h:j<=x.length
 ·rw[Nat.min_eq_left h]
 ·exact(Nat.min_eq_right (Nat.le_of_not_le h)).symm▸(List.take_length ..).symm▸(List.take_of_length_le (Nat.le_of_not_le h)).symm▸rfl
set_option tactic.hygienic true in
theorem GL(x:List Nat)(i j:Nat):(x.drop (min i x.length)).take (max (min i x.length) (min j x.length) - min i x.length)=(x.take j).drop i:=by
 ((refine(yW x j)▸?_;refine(List.drop_take ..).symm▸?_;refine(yV ..).symm▸?_))
 by_cases h:i<=x.length
 ·((refine(Nat.min_eq_left h).symm▸?_;refine(Nat.max_def ..).symm▸?_))
  split
  ·rfl
  ·rename_i h1;exact(Nat.sub_self ..)▸(Nat.sub_eq_zero_of_le (Nat.le_of_not_le h1))▸rfl
 ·exact(List.drop_eq_nil_of_le (Nat.le_of_not_le h)).symm▸(List.take_nil ..).symm▸(List.take_nil ..).symm▸rfl
set_option tactic.hygienic true in
theorem xl(a b:Nat):sliceRange (a:Int) (b:Int) 1=sliceRange (a:Int) ((max a b:Nat):Int) 1:=by
 rw[Nat.max_def];split
 ·rfl
 ·rename_i h;have c1: ¬(((a:Nat):Int)<((b:Nat):Int)):=λz=>h (Pc (Qc.mp z));simp only[sliceRange,show((1:Int)>0)=True from by decide,if_true,c1,Int.lt_irrefl,if_false]
theorem yX(x:List Nat)(i j:Nat):
  (Builtin.Str.strSliceIndices (QA (i:Int)) (QA (j:Int)) 1 x.length).filterMap ((St x).cps[·]?)=(x.take j).drop i/\
  ((Builtin.Str.strSliceIndices (QA (i:Int)) (QA (j:Int)) 1 x.length).length=x.length->(x.take j).drop i=x):=by
 have key:∀a b:Nat,Builtin.Str.strSliceIndices (QA (a:Int)) (QA (b:Int)) 1 x.length=sliceRange ((min a x.length:Nat):Int) ((min b x.length:Nat):Int) 1:=λa b=>by simp only[Builtin.Str.strSliceIndices,Qo.mpr (Px _),if_false,show((1:Int)>0)=True from by decide,if_true,Jm]
 have h1:min i x.length<=x.length:=Nat.min_le_right _ _;have h2:max (min i x.length) (min j x.length)<=x.length:=Nat.max_le.mpr ⟨h1,Nat.min_le_right _ _⟩;have h3:min i x.length<=max (min i x.length) (min j x.length):=Nat.le_max_left _ _;have e:=GL x i j;have key:Builtin.Str.strSliceIndices (QA (i:Int)) (QA (j:Int)) 1 x.length=Builtin.Str.strSliceIndices (QA ((min i x.length:Nat):Int)) (QA ((max (min i x.length) (min j x.length):Nat):Int)) 1 x.length:=by rw[key,key,Nat.min_eq_left h1,Nat.min_eq_left h2];exact xl _ _
 revert h1 h2 h3 e key;generalize min i x.length=a;generalize max a (min j x.length)=b;intro h1 h2 h3 e key;have p:=StrLaws.sliced_plain (St x) (a:=a) (b:=b) h3 (by rw[aM];exact h2);rw[aM] at p;have ln:=StrLaws.strSliceIndices_plain (len:=x.length) (a:=a) (b:=b) h3 h2;refine⟨by rw[key,p];exact e,λhl=>?_⟩;rw[key,ln,P9,List.length_range] at hl
 ((refine e▸?_;refine hl.symm▸?_))
 have ha:a=0:=by omega
 exact ha.symm▸(List.drop_zero ..).symm▸(List.take_length ..).symm▸rfl
set_option tactic.hygienic true in
theorem mY(R:SR G l Z J s){x:List Nat}{c:Value}(r:ad G s.heap Z (.str x) c){i j:Nat}{ti tj:Tok}{a:Addr}(hs:s.heap.IsSlice a (QA ((i:Int),ti)) (QA ((j:Int),tj)) QE):ay G A l Z s (getItem c (.ref a)) (.str ((x.take j).drop i)) J:=
 cJ (C:=λc=>x.length<=aE->ay G A l Z s (getItem c (.ref a)) (.str ((x.take j).drop i)) J) r (λt hl E Q hQ=>by
  refine wpAny_getItem_str_slice hs rfl ?_;have h:=yX x i j;have hle:((x.take j).drop i).length<=aE:=OK (by rw[List.length_drop,List.length_take];exact OK (Nat.sub_le _ _) (Nat.min_le_right _ _)) hl;have hp:slicePicked (St x) (QA ((i:Int),ti)) (QA ((j:Int),tj)) QE=Builtin.Str.strSliceIndices (QA (i:Int)) (QA (j:Int)) 1 x.length:=by unfold slicePicked;rw[aM];rfl
  unfold sliceMade
  ((refine hp.symm▸?_;rw[aM]))
  split
  ·rename_i hq;simp only[Qh,beq_iff_eq] at hq;exact hQ _ _ (aT.now (v:=.str _) R ⟨hle,t,by rw[h.2 hq.2]⟩)
  ·(refine h.1.symm▸?_)
   exact⟨by show(St _).length<=sizeLine;rw[aM];exact fX hle,hQ _ _ (aT.here (v:=.str _) R ⟨hle,_,rfl⟩ _)⟩) r.1
end
section
open PySem PySem.W PySem.SeqAt
variable{G:Wd}{W X:List Addr}{Z Z':Mu}{h h':Heap}{l:List Env}{J J':Hp}{s:Shared}{A:Around}{E:Value->Shared->Prop}
theorem ad.handed:∀{v:AV} {c:Value},ad G h Z v c->handedIn c=QI
 |.none,_,r=>by subst r;rfl
 |.bool _,_,r=>by subst r;rfl
 |.int _,_,r=>by refine aB r λu er1=>?_;subst er1;rfl
 |.str _,_,r=>by obtain⟨_,_,rfl⟩:=r;rfl
 |.tup _,_,r=>by obtain⟨_,_,_,rfl,_⟩:=r;rfl
 |.flist _,_,r=>by obtain⟨_,_,_,rfl,_⟩:=r;rfl
 |.obj _,_,r=>by refine eX r λu u er2 u=>?_;subst er2;rfl
 |.word,_,r=>r.elim
 |.exc _ _,_,r=>r.elim
theorem uC(R:SR G l Z J s){k:Nat}{c:Value}(r:ad G s.heap Z (.obj k) c){cn:Nat}{fs:List (Nat×AV)}(e:J[k]?=QA (.inst cn fs)):
  ∃x d ox es n,c=.ref x/\Z[k]?=QA (x,d)/\cn<G.nC/\x∉own Z/\s.heap.get? x=QA ox/\ox.dict=QA d/\InstAt s.heap x ox (G.cls cn) (QA (dictOf es n))/\s.heap.get? d=QA (dictOf es n)/\
   fs.length<=100/\es.length<=fs.length/\ig G s.heap Z es fs/\ox.cls=.ref (G.cls cn)/\ox.data=.plain:=by
 refine ah λPG Ox=>?_;obtain⟨x,d,e1,hx,hc,nq5,hl,es,n,hq,hle,_,rf⟩:=R.at e;refine rX nq5 λo ho hcl hd hp=>?_;refine eX r λx' d' er2 e2=>?_;subst er2;refine Ox ?_;rw[e1] at e2;cases e2;exact⟨x,d,o,es,n,rfl,e1,hc,hx,ho,hd,⟨ho,hcl,by simp[notCls,hp],by(refine hd.symm▸?_);exact hq⟩,hq,hl,hle,rf,hcl,hp⟩
theorem ph(R:SR G l Z J s){k:Nat}{c:Value}(r:ad G s.heap Z (.obj k) c){cn:Nat}{fs:List (Nat×AV)}(e:J[k]?=QA (.inst cn fs)){C:Value->Prop}
  (kk:∀x d ox es n,Z[k]?=QA (x,d)->cn<G.nC->x∉own Z->s.heap.get? x=QA ox->ox.dict=QA d->InstAt s.heap x ox (G.cls cn) (QA (dictOf es n))->s.heap.get? d=QA (dictOf es n)->es.length<=fs.length->(∀e∈es,e.refKey=QK)->ig G s.heap Z es fs->ox.cls=.ref (G.cls cn)->ox.data=.plain->C (.ref x)):C c:=by
 refine ah λPG Ox=>?_;obtain⟨x,d,e1,hx,hc,nq5,hl,es,n,hq,hle,sk,rf⟩:=R.at e;refine rX nq5 λo ho hcl hd hp=>Ox (jy (C:=C) r λx' d' e2=>?_);rw[e1] at e2;cases e2;exact kk x d o es n e1 hc hx ho hd ⟨ho,hcl,by simp[notCls,hp],by(refine hd.symm▸?_);exact hq⟩ hq hle sk rf hcl hp
theorem ig.has{es:List DictEntry}(rf:ig G h Z es fs){f:Nat}(hf:f<G.nA){v:AV}(e:aR f fs=QA v):∃c,getL (G.attr f) es=QA (QA c)/\ad G h Z v c:=by have:=rf f hf;rw[e] at this;exact this
theorem ig.not{es:List DictEntry}(rf:ig G h Z es fs){f:Nat}(hf:f<G.nA)(e:aR f fs=QE):getL (G.attr f) es=QA QE:=by have:=rf f hf;rw[e] at this;exact this
theorem iy.at(ok:jN G)(R:SR G l Z J s){a v:AV}{f:Nat}(e:iy J a f v):f<G.nA->∀(c:Value) (expr:Bool),ad G s.heap Z a c->ay G A l Z s (getAttr c (G.attr f) expr) v J:=
 iy.rec (motive:=λa f v u=>f<G.nA->∀(c:Value) (expr:Bool),ad G s.heap Z a c->ay G A l Z s (getAttr c (G.attr f) expr) v J)
  (λk cn fs f v q hm qv hf c expr r=>ph (C:=λc=>ay G A l Z s (getAttr c (G.attr f) expr) v J) R r q λx d ox es n e1 hc hx ho hd I hq hle sk rf hcl hpl E Q hQ=>(rf.has hf qv).elim λcv z=>by
   have C:=ok.cls cn hc;have ca:=C.attr f hf;rw[hm] at ca;have hlk:lookIn (G.attr f) (dictOf es n)=QA (QA cv):=by refine(lookIn_dict ..).trans ?_;exact z.1
   have hfo:findObj G.K (G.cls cn) (QA (dictOf es n)) (G.attr f)=QA (.value cv):=by
    have ca:=ca.2;split at ca
    ·obtain⟨b,rfl,h1,h2,h3⟩:=ca;exact findObj_own C.dict h1 (by rfl) hlk
    ·exact findObj_own C.dict ca (by simp[noGet]) hlk
   exact get_value (ok.kin.keeps R.stays) I (plainGet_of C.get).1 hfo z.2.handed (hQ _ _ (aT.here R z.2 _)))
  (λk cn fs f v q hm qv qc hf c expr r=>ph (C:=λc=>ay G A l Z s (getAttr c (G.attr f) expr) v J) R r q λx d ox es n e1 hc hx ho hd I hq hle sk rf hcl hpl E Q hQ=>by
   have C:=ok.cls cn hc;have ca:=C.attr f hf;rw[hm] at ca;have ca:=ca.2;rw[qc] at ca;refine rX ca λb er1 h1 h2 h3=>?_;subst er1;have hlk:lookIn (G.attr f) (dictOf es n)=QA QE:=by refine(lookIn_dict ..).trans ?_;exact rf.not hf qv
   exact get_value (ok.kin.keeps R.stays) I (plainGet_of C.get).1 (findObj_cls C.dict h1 h2 rfl h3 hlk) rfl (hQ _ _ (aT.here (v:=.bool b) R rfl _))) e
theorem jW{es:List DictEntry}(hs:∀e∈es,e.refKey=QK)(y:Str):getL y es=QA ((es.find? (·.key.isStr y)).map (·.val)):=by
 unfold getL;cases hf:es.find? (·.key.isStr y) with
 |some z=>rfl
 |none=>
  have:es.any (·.refKey)=QK:=by refine(List.any_eq_false ..).mpr ?_;exact λe he=>by simp[hs e he]
  simp[this]
theorem lf(name:Str)(hsh:Int)(t:Tok)(v:Value):∀es:List DictEntry,(∀e∈es,e.refKey=QK)->∀e∈putL name hsh (.str name t) v es,e.refKey=QK
 |[],_,e,he=>by replace he:=OF.mp he;subst he;rfl
 |x::r,hs,e,he=>by
  unfold putL at he;split at he
  ·rcases OZ.mp he with rfl|he
   ·exact hs x (.head _)
   ·exact hs e (.tail _ he)
  ·rcases OZ.mp he with rfl|he
   ·exact hs e (.head _)
   ·exact lf name hsh t v r (λe he=>hs e (.tail _ he)) e he
theorem qi(x n:Str)(t:Tok):Value.isStr (.str x t) n=(x==n):=rfl
theorem mZ(name y:Str)(hsh:Int)(t:Tok)(v:Value):∀es:List DictEntry,((putL name hsh (.str name t) v es).find? (·.key.isStr y)).map (·.val)=if y=name then QA v else(es.find? (·.key.isStr y)).map (·.val)
 |[]=>by
  unfold putL;by_cases hy:y=name
  ·subst hy;simp[qi]
  ·have:(name==y)=QK:=by simp;exact λq=>hy q.symm
   simp[qi,this,hy]
 |e::r=>by
  unfold putL;by_cases hk:e.key.isStr name=QI
  ·rw[if_pos hk];by_cases hy:y=name
   ·subst hy;simp[hk]
   ·have hky:e.key.isStr y=QK:=by
     cases hek:e.key<;>((replace hk:=hek▸hk))<;>first|exact ff hk|(rw[qi] at hk ⊢;simp at hk ⊢)
     rw[hk];exact λq=>hy q.symm
    simp[hy,List.find?_cons,hky]
  ·rw[if_neg hk];by_cases hky:e.key.isStr y=QI
   ·have hy:y≠name:=λq=>hk (q▸hky);simp[List.find?_cons,hky,hy]
   ·simp only[List.find?_cons,hky];exact mZ name y hsh t v r
theorem xm{es:List DictEntry}(hs:∀e∈es,e.refKey=QK)(name y:Str)(hsh:Int)(t:Tok)(v:Value):getL y (putL name hsh (.str name t) v es)=if y=name then QA (QA v) else getL y es:=by rw[jW (lf name hsh t v es hs),mZ,jW hs];split<;>rfl
theorem lY(name:Str)(hsh:Int)(key v:Value):∀es:List DictEntry,(putL name hsh key v es).length=if es.any (·.key.isStr name) then es.length else es.length+1
 |[]=>rfl
 |e::r=>by
  unfold putL;by_cases hk:e.key.isStr name=QI
  ·simp[hk]
  ·((refine(if_neg hk).symm▸?_;refine(Pr ..).symm▸?_;refine(lY name hsh key v r).symm▸?_;refine(List.any_cons ..).symm▸?_))
   have:e.key.isStr name=QK:=by simpa using hk
   ((refine this.symm▸?_;refine(Bool.false_or ..).symm▸?_;refine(Pr ..).symm▸?_))
   split<;>rfl
theorem fY(f:Nat)(v:AV):∀fs:List (Nat×AV),(bU f v fs).length=if(aR f fs).isSome then fs.length else fs.length+1
 |[]=>rfl
 |e::r=>by
  ((refine(rZ ..).symm▸?_;refine(jR ..).symm▸?_))
  by_cases hk:e.1=f
  ·simp[hk]
  ·simp only[hk,if_false,Pr,fY f v r];split<;>rfl
theorem m4(f g:Nat)(v:AV):∀fs:List (Nat×AV),aR g (bU f v fs)=if g=f then QA v else aR g fs
 |[]=>by
  show(if f=g then QA v else QE)=if g=f then QA v else QE;by_cases h:g=f
  ·exact h▸rfl
  ·have h': ¬f=g:=λq=>h q.symm;simp[h,h']
 |e::r=>by
  refine(PK _ (rZ ..)).trans ?_;by_cases hk:e.1=f
  ·refine(PK _ (if_pos hk)).trans ?_;by_cases h:g=f
   ·simp[jR,hk,h]
   ·have h': ¬f=g:=λq=>h q.symm;simp[jR,hk,h,h']
  ·refine(PK _ (if_neg hk)).trans ?_;simp only[jR,m4 f g v r];by_cases h:e.1=g
   ·have: ¬g=f:=λq=>hk (h.trans q);simp[h,this]
   ·simp[h]
theorem uD{es:List DictEntry}(sk:∀e∈es,e.refKey=QK){fs:List (Nat×AV)}(rf:ig G h Z es fs){f:Nat}(hf:f<G.nA):es.any (·.key.isStr (G.attr f))=(aR f fs).isSome:=by
 have h1:=jW sk (G.attr f);cases hg:aR f fs with
 |some w=>refine ak (rf.has hf hg) λcv hv u=>?_;rw[h1] at hv;refine ak (Pb.mp (OO hv)) λz hz u=>?_;refine(List.any_eq_true.mpr ⟨z,List.mem_of_find?_eq_some hz,List.find?_some hz⟩).trans ?_;rfl
 |none=>have fr:=rf.not hf hg;rw[h1] at fr;have:=Option.map_eq_none_iff.mp (OO fr);rw[Option.isSome_none,List.any_eq_false];exact List.find?_eq_none.mp this
def qj(G:Wd)(A:Around)(l:List Env)(Z:Mu)(s:Shared)(m:Sem Unit)(J':Hp):Prop:=∀(E:Value->Shared->Prop) (Q:Unit->Shared->Prop),(∀s',SR G l Z J' s'->au [] [G.tab] Z s.heap Z s'.heap->Q () s')->wpAny G.M A m Q E s
theorem yY(ok:jN G)(R:SR G l Z J s){k cn:Nat}{fs:List (Nat×AV)}{f:Nat}(hf:f<G.nA){va:AV}{v:Value}(rv:ad G s.heap Z va v)(hfs:fs.length<100){x d:Addr}{es:List DictEntry}{n n':Nat}{ox:Obj}{hsh:Int}{t:Tok}{H:Heap}(e1:Z[k]?=QA (x,d))(hc:cn<G.nC)(hx:x∉own Z)
  (ho:s.heap.get? x=QA ox) (hd:ox.dict=QA d) (hcl:ox.cls=.ref (G.cls cn)) (hpl:ox.data=.plain) (hq:s.heap.get? d=QA (dictOf es n)) (hle:es.length<=fs.length) (sk:∀e∈es,e.refKey=QK) (rf:ig G s.heap Z es fs) (hs:Heap.SameBut d s.heap H)
  (hD:H.get? d=QA (dictOf (putL (G.attr f) hsh (.str (G.attr f) t) v es) n')) (tk:Nat):(putL (G.attr f) hsh (.str (G.attr f) t) v es).length<=100/\SR G l Z (J.set k (.inst cn (bU f va fs))) {s with heap:=H,toks:=tk}/\au [] [G.tab] Z s.heap Z H:=by
 have hany:=uD sk rf hf;have OB:(putL (G.attr f) hsh (.str (G.attr f) t) v es).length<=(bU f va fs).length:=by
  ((refine(lY ..).symm▸?_;refine(fY ..).symm▸?_;refine hany.symm▸?_));split
  ·exact hle
  ·exact PQ hle
 have hfl:(bU f va fs).length<=100:=by
  rw[fY];split
  ·exact Pc hfs
  ·exact hfs
 have st:au [] [G.tab] Z s.heap Z H:=.put (cr e1) hs hD;have hxd:x≠d:=λz=>by
  ((replace ho:=z▸ho;replace ho:=hq▸ho));cases ho;cases hpl
 exact⟨OK OB hfl,R.upd e1 hs (ob:=.inst cn (bU f va fs)) ⟨hx,hc,⟨_,(hs.2 x hxd).trans ho,hcl,hd,hpl⟩,hfl,_,_,hD,OB,lf _ _ _ _ _ sk,λg hg=>by
  rw[m4,xm sk];by_cases hgf:g=f
  ·subst hgf;simp only[if_true];exact⟨v,rfl,ad.st st rv⟩
  ·have hne: ¬G.attr g=G.attr f:=λz=>hgf (ok.names g f hg hf z);simp only[hgf,hne,if_false];have:=rf g hg;split at this
   ·obtain⟨cv,z1,z2⟩:=this;exact⟨cv,z1,ad.st st z2⟩
   ·exact this⟩ tk⟩
theorem jS.at(ok:jN G)(R:SR G l Z J s){a va:AV}{f:Nat}(e:jS J va a f J'){v:Value}(rv:ad G s.heap Z va v):f<G.nA->∀(c:Value),ad G s.heap Z a c->qj G A l Z s (setAttr c (G.attr f) v) J':=
 jS.rec (motive:=λa f J' u=>f<G.nA->∀(c:Value),ad G s.heap Z a c->qj G A l Z s (setAttr c (G.attr f) v) J') (λk cn fs f q hm hfs hf c r=>ph (C:=λc=>qj G A l Z s (setAttr c (G.attr f) v) (J.set k (.inst cn (bU f va fs)))) R r q λx d ox es n e1 hc hx ho hd I hq hle sk rf hcl hpl E Q hQ=>by
  have C:=ok.cls cn hc;have ca:=C.attr f hf;rw[hm] at ca;have X:=ok.kin.keeps R.stays;have pi:=λ(t:Tok) (H:Heap) n' hs hD tk=>yY (n':=n') (hsh:=PyData.keyHash G.w.params (G.attr f)) (t:=t) (H:=H) ok R hf rv hfs e1 hc hx ho hd hcl hpl hq hle sk rf hs hD tk;refine set_plain X I C.set (osa_open (s:={s with toks:=s.toks+1}) X I C.over ca.1 λb=>?_);refine ah λPG Ox=>ak (any_some C.dict) λcd hcd hd'=>?_;obtain⟨oc,odi,oda,osl⟩:=ox;refine Ox ?_;dsimp only at hcl hd hpl;subst hcl hd hpl;refine Pf (Ph (Pf (Pf (wpAny_loadPart ho (Pf (Looks.here (s:={s with toks:=s.toks+1}) (looks_clsIn X hcd) ?_))))))
  (refine hd'.symm▸?_)
  refine Ph (a:=QA d) (Pf (Ph (Pf ?_)));unfold nsSet;refine Pf (Pf (wpAny_askSetting (Ph (Pf (wpAny_mkText (Pf (wpAny_loadPart hq ?_)))))));have noRef:(es.toArray).any (·.refKey)=QK:=by((refine(Array.any_toList ..)▸?_;rw[List.any_eq_false]));exact λe he=>by simp[sk e he]
  dsimp only
  ((refine(aRefKeyMayBeTheName_at ..).symm▸?_;refine noRef.symm▸?_;refine(Bool.and_false ..).symm▸?_))
  refine wpAny_updatePart hq ?_;have hpn:=putName_dict (G.attr f) (PyData.keyHash G.w.params (G.attr f)) (.str (G.attr f) (s.toks+1)) v es n;have hs:Heap.SameBut d s.heap (s.heap.update d (Obj.putName (G.attr f) (PyData.keyHash G.w.params (G.attr f)) (.str (G.attr f) (s.toks+1)) v)):=Qj ..;have hD:=PH (Obj.putName (G.attr f) (PyData.keyHash G.w.params (G.attr f)) (.str (G.attr f) (s.toks+1)) v) hq (by refine(PK _ hpn).trans ?_;rfl);rw[hpn] at hD;have z:=pi _ _ _ hs hD (s.toks+2);exact Pf (wpAny_lookBehind hD (pastItsLine_dict (by rw[List.size_toArray,sizeLine_eq];exact OK z.1 dc)) (Ph (hQ _ z.2.1 z.2.2)))) e
end
section
set_option genCtorIdx false
open PySem PySem.W
structure Oh where
 fn:List Str
 cls:List Str
 glob:List Str
 attr:List Str
 nC:Nat
noncomputable def sl (l:List String):List Str:=l.map Str.ofString
noncomputable def T:Oh:={fn:=sl ["_lex","","","","","","","","","","","","","","","parse","_cls","lookup","variables","","","","","","_bad","","","","","","","","","","","run","_law_pick","_law_text","_law_bools","_law_op","law",""],cls:=sl ["_P","_Obj","_Cls","_Blk","_Scope","_Home","_Run","_Ret"],glob:=sl ["_RES","_LAW_ME","_LAW_HEADS","_LAW_SAY","_LAW_WRONG","_LAW_CLASSES","_LAW_BODIES","_LAW_MAINS","_LAW_A","_LAW_B","_LAW_DOTS","_LAW_ASK"],attr:=sl ["t","i","at","take","names","expr","binary","unary","send","atom","temps","once","rows","method","program","c","v","n","e","sc","home","up","me","cls","vars","fixed","left","out","classes","find","ev","spend","call","built","alive","txt","plain","block"],nC:=7}
abbrev Vis:=List (Nat×Str)
abbrev aZ:=List (Str×NameKind)
noncomputable def bn (sc:aZ) (x:Str):Bool:=sc.lookup x==QA .globalImplicit&& !(x==("__debug__":Str))
noncomputable def pj (sc:aZ) (x:Str):Bool:=(sc.lookup x==QA .local||sc.lookup x==QA .cell||sc.lookup x==QA .free)&& !(x==("__debug__":Str))&& !(x==("__classdict__":Str))
theorem dn[Decidable p]{a:p->Bool}{C:Prop}(hn: ¬p)(h:dite p a (λu=>QK)=QI):C:=ff ((dif_neg hn).symm.trans h)
noncomputable def my (e:PySem.Expr) (f:BoolOp->(List Expr)->Pos->Bool):Bool:=if h:e.ctorIdx=0 then @PySem.Expr.BoolOp.elim (λu=>Bool) e h f else QK
theorem fP{C:PySem.Expr->Prop}{e:PySem.Expr}{f:BoolOp->(List Expr)->Pos->Bool}(h:my e f=QI)(k:∀x0 x1 x2,f x0 x1 x2=QI->C (.BoolOp x0 x1 x2)):C e:=
 if hi:e.ctorIdx=0 then @PySem.Expr.BoolOp.elim (λe=>my e f=QI->C e) e hi k h else dn hi h
noncomputable def uE (e:PySem.Expr) (f:Expr->Operator->Expr->Pos->Bool):Bool:=if h:e.ctorIdx=2 then @PySem.Expr.BinOp.elim (λu=>Bool) e h f else QK
theorem m6{C:PySem.Expr->Prop}{e:PySem.Expr}{f:Expr->Operator->Expr->Pos->Bool}(h:uE e f=QI)(k:∀x0 x1 x2 x3,f x0 x1 x2 x3=QI->C (.BinOp x0 x1 x2 x3)):C e:=
 if hi:e.ctorIdx=2 then @PySem.Expr.BinOp.elim (λe=>uE e f=QI->C e) e hi k h else dn hi h
noncomputable def m7 (e:PySem.Expr) (f:UnaryOp->Expr->Pos->Bool):Bool:=if h:e.ctorIdx=3 then @PySem.Expr.UnaryOp.elim (λu=>Bool) e h f else QK
theorem jX{C:PySem.Expr->Prop}{e:PySem.Expr}{f:UnaryOp->Expr->Pos->Bool}(h:m7 e f=QI)(k:∀x0 x1 x2,f x0 x1 x2=QI->C (.UnaryOp x0 x1 x2)):C e:=
 if hi:e.ctorIdx=3 then @PySem.Expr.UnaryOp.elim (λe=>m7 e f=QI->C e) e hi k h else dn hi h
noncomputable def uF (e:PySem.Expr) (f:Expr->Expr->Expr->Pos->Bool):Bool:=if h:e.ctorIdx=5 then @PySem.Expr.IfExp.elim (λu=>Bool) e h f else QK
theorem m8{C:PySem.Expr->Prop}{e:PySem.Expr}{f:Expr->Expr->Expr->Pos->Bool}(h:uF e f=QI)(k:∀x0 x1 x2 x3,f x0 x1 x2 x3=QI->C (.IfExp x0 x1 x2 x3)):C e:=
 if hi:e.ctorIdx=5 then @PySem.Expr.IfExp.elim (λe=>uF e f=QI->C e) e hi k h else dn hi h
noncomputable def yZ (e:PySem.Expr) (f:(List (Option Expr))->(List Expr)->Pos->Bool):Bool:=if h:e.ctorIdx=6 then @PySem.Expr.Dict.elim (λu=>Bool) e h f else QK
theorem pn{C:PySem.Expr->Prop}{e:PySem.Expr}{f:(List (Option Expr))->(List Expr)->Pos->Bool}(h:yZ e f=QI)(k:∀x0 x1 x2,f x0 x1 x2=QI->C (.Dict x0 x1 x2)):C e:=
 if hi:e.ctorIdx=6 then @PySem.Expr.Dict.elim (λe=>yZ e f=QI->C e) e hi k h else dn hi h
noncomputable def i5 (e:PySem.Expr) (f:Expr->(List Comprehension)->Scope->Pos->Bool):Bool:=if h:e.ctorIdx=8 then @PySem.Expr.ListComp.elim (λu=>Bool) e h f else QK
theorem jo{C:PySem.Expr->Prop}{e:PySem.Expr}{f:Expr->(List Comprehension)->Scope->Pos->Bool}(h:i5 e f=QI)(k:∀x0 x1 x2 x3,f x0 x1 x2 x3=QI->C (.ListComp x0 x1 x2 x3)):C e:=
 if hi:e.ctorIdx=8 then @PySem.Expr.ListComp.elim (λe=>i5 e f=QI->C e) e hi k h else dn hi h
noncomputable def jY (e:PySem.Expr) (f:Expr->(List CmpOp)->(List Expr)->Pos->Bool):Bool:=if h:e.ctorIdx=15 then @PySem.Expr.Compare.elim (λu=>Bool) e h f else QK
theorem gN{C:PySem.Expr->Prop}{e:PySem.Expr}{f:Expr->(List CmpOp)->(List Expr)->Pos->Bool}(h:jY e f=QI)(k:∀x0 x1 x2 x3,f x0 x1 x2 x3=QI->C (.Compare x0 x1 x2 x3)):C e:=
 if hi:e.ctorIdx=15 then @PySem.Expr.Compare.elim (λe=>jY e f=QI->C e) e hi k h else dn hi h
noncomputable def cCall (e:PySem.Expr) (f:Expr->(List Expr)->(List Keyword)->Pos->Bool):Bool:=if h:e.ctorIdx=16 then @PySem.Expr.Call.elim (λu=>Bool) e h f else QK
theorem bD{C:PySem.Expr->Prop}{e:PySem.Expr}{f:Expr->(List Expr)->(List Keyword)->Pos->Bool}(h:cCall e f=QI)(k:∀x0 x1 x2 x3,f x0 x1 x2 x3=QI->C (.Call x0 x1 x2 x3)):C e:=
 if hi:e.ctorIdx=16 then @PySem.Expr.Call.elim (λe=>cCall e f=QI->C e) e hi k h else dn hi h
noncomputable def i6 (e:PySem.Expr) (f:Const->Nat->Pos->Bool):Bool:=if h:e.ctorIdx=19 then @PySem.Expr.Constant.elim (λu=>Bool) e h f else QK
theorem fZ{C:PySem.Expr->Prop}{e:PySem.Expr}{f:Const->Nat->Pos->Bool}(h:i6 e f=QI)(k:∀x0 x1 x2,f x0 x1 x2=QI->C (.Constant x0 x1 x2)):C e:=
 if hi:e.ctorIdx=19 then @PySem.Expr.Constant.elim (λe=>i6 e f=QI->C e) e hi k h else dn hi h
noncomputable def bp (e:PySem.Expr) (f:Expr->Str->Pos->Bool):Bool:=if h:e.ctorIdx=20 then @PySem.Expr.Attribute.elim (λu=>Bool) e h f else QK
theorem aX{C:PySem.Expr->Prop}{e:PySem.Expr}{f:Expr->Str->Pos->Bool}(h:bp e f=QI)(k:∀x0 x1 x2,f x0 x1 x2=QI->C (.Attribute x0 x1 x2)):C e:=
 if hi:e.ctorIdx=20 then @PySem.Expr.Attribute.elim (λe=>bp e f=QI->C e) e hi k h else dn hi h
noncomputable def fe (e:PySem.Expr) (f:Expr->Expr->Pos->Bool):Bool:=if h:e.ctorIdx=21 then @PySem.Expr.Subscript.elim (λu=>Bool) e h f else QK
theorem b9{C:PySem.Expr->Prop}{e:PySem.Expr}{f:Expr->Expr->Pos->Bool}(h:fe e f=QI)(k:∀x0 x1 x2,f x0 x1 x2=QI->C (.Subscript x0 x1 x2)):C e:=
 if hi:e.ctorIdx=21 then @PySem.Expr.Subscript.elim (λe=>fe e f=QI->C e) e hi k h else dn hi h
noncomputable def bE (e:PySem.Expr) (f:Str->Pos->Bool):Bool:=if h:e.ctorIdx=23 then @PySem.Expr.Name.elim (λu=>Bool) e h f else QK
theorem aN{C:PySem.Expr->Prop}{e:PySem.Expr}{f:Str->Pos->Bool}(h:bE e f=QI)(k:∀x0 x1,f x0 x1=QI->C (.Name x0 x1)):C e:=
 if hi:e.ctorIdx=23 then @PySem.Expr.Name.elim (λe=>bE e f=QI->C e) e hi k h else dn hi h
noncomputable def y0 (e:PySem.Expr) (f:(List Expr)->Pos->Bool):Bool:=if h:e.ctorIdx=24 then @PySem.Expr.List.elim (λu=>Bool) e h f else QK
theorem pt{C:PySem.Expr->Prop}{e:PySem.Expr}{f:(List Expr)->Pos->Bool}(h:y0 e f=QI)(k:∀x0 x1,f x0 x1=QI->C (.List x0 x1)):C e:=
 if hi:e.ctorIdx=24 then @PySem.Expr.List.elim (λe=>y0 e f=QI->C e) e hi k h else dn hi h
noncomputable def cTuple (e:PySem.Expr) (f:(List Expr)->Nat->Pos->Bool):Bool:=if h:e.ctorIdx=25 then @PySem.Expr.Tuple.elim (λu=>Bool) e h f else QK
theorem dQ{C:PySem.Expr->Prop}{e:PySem.Expr}{f:(List Expr)->Nat->Pos->Bool}(h:cTuple e f=QI)(k:∀x0 x1 x2,f x0 x1 x2=QI->C (.Tuple x0 x1 x2)):C e:=
 if hi:e.ctorIdx=25 then @PySem.Expr.Tuple.elim (λe=>cTuple e f=QI->C e) e hi k h else dn hi h
noncomputable def uG (e:PySem.Expr) (f:(Option Expr)->(Option Expr)->(Option Expr)->Pos->Bool):Bool:=if h:e.ctorIdx=26 then @PySem.Expr.Slice.elim (λu=>Bool) e h f else QK
theorem uH{C:PySem.Expr->Prop}{e:PySem.Expr}{f:(Option Expr)->(Option Expr)->(Option Expr)->Pos->Bool}(h:uG e f=QI)(k:∀x0 x1 x2 x3,f x0 x1 x2 x3=QI->C (.Slice x0 x1 x2 x3)):C e:=
 if hi:e.ctorIdx=26 then @PySem.Expr.Slice.elim (λe=>uG e f=QI->C e) e hi k h else dn hi h
noncomputable def gO (e:PySem.Stmt) (f:Str->Arguments->(List Stmt)->(List Expr)->(Option Expr)->(List TypeParam)->Scope->(Option Scope)->Str->Pos->Bool):Bool:=if h:e.ctorIdx=0 then @PySem.Stmt.FunctionDef.elim (λu=>Bool) e h f else QK
theorem lh{C:PySem.Stmt->Prop}{e:PySem.Stmt}{f:Str->Arguments->(List Stmt)->(List Expr)->(Option Expr)->(List TypeParam)->Scope->(Option Scope)->Str->Pos->Bool}(h:gO e f=QI)(k:∀x0 x1 x2 x3 x4 x5 x6 x7 x8 x9,f x0 x1 x2 x3 x4 x5 x6 x7 x8 x9=QI->C (.FunctionDef x0 x1 x2 x3 x4 x5 x6 x7 x8 x9)):C e:=
 if hi:e.ctorIdx=0 then @PySem.Stmt.FunctionDef.elim (λe=>gO e f=QI->C e) e hi k h else dn hi h
noncomputable def qk (e:PySem.Stmt) (f:(Option Expr)->Pos->Bool):Bool:=if h:e.ctorIdx=3 then @PySem.Stmt.Return.elim (λu=>Bool) e h f else QK
theorem sp{C:PySem.Stmt->Prop}{e:PySem.Stmt}{f:(Option Expr)->Pos->Bool}(h:qk e f=QI)(k:∀x0 x1,f x0 x1=QI->C (.Return x0 x1)):C e:=
 if hi:e.ctorIdx=3 then @PySem.Stmt.Return.elim (λe=>qk e f=QI->C e) e hi k h else dn hi h
noncomputable def mz (e:PySem.Stmt) (f:(List Expr)->Expr->Pos->Bool):Bool:=if h:e.ctorIdx=5 then @PySem.Stmt.Assign.elim (λu=>Bool) e h f else QK
theorem lZ{C:PySem.Stmt->Prop}{e:PySem.Stmt}{f:(List Expr)->Expr->Pos->Bool}(h:mz e f=QI)(k:∀x0 x1 x2,f x0 x1 x2=QI->C (.Assign x0 x1 x2)):C e:=
 if hi:e.ctorIdx=5 then @PySem.Stmt.Assign.elim (λe=>mz e f=QI->C e) e hi k h else dn hi h
noncomputable def gP (e:PySem.Stmt) (f:Expr->Operator->Expr->Pos->Bool):Bool:=if h:e.ctorIdx=7 then @PySem.Stmt.AugAssign.elim (λu=>Bool) e h f else QK
theorem iB{C:PySem.Stmt->Prop}{e:PySem.Stmt}{f:Expr->Operator->Expr->Pos->Bool}(h:gP e f=QI)(k:∀x0 x1 x2 x3,f x0 x1 x2 x3=QI->C (.AugAssign x0 x1 x2 x3)):C e:=
 if hi:e.ctorIdx=7 then @PySem.Stmt.AugAssign.elim (λe=>gP e f=QI->C e) e hi k h else dn hi h
noncomputable def GM (e:PySem.Stmt) (f:Expr->Expr->(List Stmt)->(List Stmt)->Pos->Bool):Bool:=if h:e.ctorIdx=9 then @PySem.Stmt.For.elim (λu=>Bool) e h f else QK
theorem y4{C:PySem.Stmt->Prop}{e:PySem.Stmt}{f:Expr->Expr->(List Stmt)->(List Stmt)->Pos->Bool}(h:GM e f=QI)(k:∀x0 x1 x2 x3 x4,f x0 x1 x2 x3 x4=QI->C (.For x0 x1 x2 x3 x4)):C e:=
 if hi:e.ctorIdx=9 then @PySem.Stmt.For.elim (λe=>GM e f=QI->C e) e hi k h else dn hi h
noncomputable def uI (e:PySem.Stmt) (f:Expr->(List Stmt)->(List Stmt)->Pos->Bool):Bool:=if h:e.ctorIdx=11 then @PySem.Stmt.While.elim (λu=>Bool) e h f else QK
theorem uJ{C:PySem.Stmt->Prop}{e:PySem.Stmt}{f:Expr->(List Stmt)->(List Stmt)->Pos->Bool}(h:uI e f=QI)(k:∀x0 x1 x2 x3,f x0 x1 x2 x3=QI->C (.While x0 x1 x2 x3)):C e:=
 if hi:e.ctorIdx=11 then @PySem.Stmt.While.elim (λe=>uI e f=QI->C e) e hi k h else dn hi h
noncomputable def LG (e:PySem.Stmt) (f:Expr->(List Stmt)->(List Stmt)->Pos->Bool):Bool:=if h:e.ctorIdx=12 then @PySem.Stmt.If.elim (λu=>Bool) e h f else QK
theorem CB{C:PySem.Stmt->Prop}{e:PySem.Stmt}{f:Expr->(List Stmt)->(List Stmt)->Pos->Bool}(h:LG e f=QI)(k:∀x0 x1 x2 x3,f x0 x1 x2 x3=QI->C (.If x0 x1 x2 x3)):C e:=
 if hi:e.ctorIdx=12 then @PySem.Stmt.If.elim (λe=>LG e f=QI->C e) e hi k h else dn hi h
noncomputable def jA (e:PySem.Stmt) (f:(Option Expr)->(Option Expr)->Pos->Bool):Bool:=if h:e.ctorIdx=16 then @PySem.Stmt.Raise.elim (λu=>Bool) e h f else QK
theorem jB{C:PySem.Stmt->Prop}{e:PySem.Stmt}{f:(Option Expr)->(Option Expr)->Pos->Bool}(h:jA e f=QI)(k:∀x0 x1 x2,f x0 x1 x2=QI->C (.Raise x0 x1 x2)):C e:=
 if hi:e.ctorIdx=16 then @PySem.Stmt.Raise.elim (λe=>jA e f=QI->C e) e hi k h else dn hi h
noncomputable def xo (e:PySem.Stmt) (f:(List Stmt)->(List ExceptHandler)->(List Stmt)->(List Stmt)->Pos->Bool):Bool:=if h:e.ctorIdx=17 then @PySem.Stmt.Try.elim (λu=>Bool) e h f else QK
theorem sq{C:PySem.Stmt->Prop}{e:PySem.Stmt}{f:(List Stmt)->(List ExceptHandler)->(List Stmt)->(List Stmt)->Pos->Bool}(h:xo e f=QI)(k:∀x0 x1 x2 x3 x4,f x0 x1 x2 x3 x4=QI->C (.Try x0 x1 x2 x3 x4)):C e:=
 if hi:e.ctorIdx=17 then @PySem.Stmt.Try.elim (λe=>xo e f=QI->C e) e hi k h else dn hi h
noncomputable def sv (e:PySem.Stmt) (f:Expr->Pos->Bool):Bool:=if h:e.ctorIdx=24 then @PySem.Stmt.Expr.elim (λu=>Bool) e h f else QK
theorem pu{C:PySem.Stmt->Prop}{e:PySem.Stmt}{f:Expr->Pos->Bool}(h:sv e f=QI)(k:∀x0 x1,f x0 x1=QI->C (.Expr x0 x1)):C e:=
 if hi:e.ctorIdx=24 then @PySem.Stmt.Expr.elim (λe=>sv e f=QI->C e) e hi k h else dn hi h
noncomputable def uK (e:PySem.Stmt) (f:Pos->Bool):Bool:=if h:e.ctorIdx=26 then @PySem.Stmt.Break.elim (λu=>Bool) e h f else QK
theorem uL{C:PySem.Stmt->Prop}{e:PySem.Stmt}{f:Pos->Bool}(h:uK e f=QI)(k:∀x0,f x0=QI->C (.Break x0)):C e:=
 if hi:e.ctorIdx=26 then @PySem.Stmt.Break.elim (λe=>uK e f=QI->C e) e hi k h else dn hi h
noncomputable def lj (e:PySem.Stmt) (f:Pos->Bool):Bool:=if h:e.ctorIdx=27 then @PySem.Stmt.Continue.elim (λu=>Bool) e h f else QK
theorem oE{C:PySem.Stmt->Prop}{e:PySem.Stmt}{f:Pos->Bool}(h:lj e f=QI)(k:∀x0,f x0=QI->C (.Continue x0)):C e:=
 if hi:e.ctorIdx=27 then @PySem.Stmt.Continue.elim (λe=>lj e f=QI->C e) e hi k h else dn hi h
noncomputable def c0 (l:List α) (b:Bool):Bool:=List.casesOn l b λu u=>QK
theorem bB{C:List α->Prop}{l:List α}(h:c0 l b=QI)(k:b=QI->C []):C l:=by
 cases l with
 |nil=>exact k h
 |cons _ _=>exact Bool.noConfusion h
theorem sw{C:Expr->Prop}{e:Expr}{P:Str->Pos->List Expr->Pos->Bool}(hc:(cCall e λg xs ks pos=>c0 ks (bE g λy p=>P y p xs pos))=QI)(k:∀y p xs pos,P y p xs pos=QI->C (.Call (.Name y p) xs [] pos)):C e:=
 bD hc λg xs ks pos hc=>bB (C:=λks=>C (.Call g xs ks pos)) hc λhc=>aN (C:=λg=>C (.Call g xs [] pos)) hc λy p hc=>k y p xs pos hc
theorem Fq{C:Expr->Prop}{e:Expr}{P:Expr->Str->Pos->List Expr->Pos->Bool}(hc:(cCall e λg xs ks pos=>c0 ks (bp g λo y p=>P o y p xs pos))=QI)(k:∀o y p xs pos,P o y p xs pos=QI->C (.Call (.Attribute o y p) xs [] pos)):C e:=
 bD hc λg xs ks pos hc=>bB (C:=λks=>C (.Call g xs ks pos)) hc λhc=>aX (C:=λg=>C (.Call g xs [] pos)) hc λo y p hc=>k o y p xs pos hc
noncomputable def et (l:List α) (f:α->List α->Bool):Bool:=List.casesOn l QK f
theorem aI{C:List α->Prop}{l:List α}{f:α->List α->Bool}(h:et l f=QI)(k:∀x r,f x r=QI->C (x::r)):C l:=by
 cases l with
 |nil=>exact Bool.noConfusion h
 |cons x r=>exact k x r h
noncomputable def c1 (l:List α) (f:α->Bool):Bool:=et l λx r=>c0 r (f x)
theorem cO{C:List α->Prop}{l:List α}{f:α->Bool}(h:c1 l f=QI)(k:∀x,f x=QI->C [x]):C l:=aI h λx u h=>bB (C:=λr=>C (x::r)) h (k x)
noncomputable def c2 (l:List α) (f:α->α->Bool):Bool:=et l λx r=>c1 r (f x)
theorem lm{C:List α->Prop}{l:List α}{f:α->α->Bool}(h:c2 l f=QI)(k:∀x y,f x y=QI->C [x,y]):C l:=aI h λx u h=>cO (C:=λr=>C (x::r)) h (k x)
noncomputable def fQ (o:Option α) (f:α->Bool):Bool:=Option.casesOn o QK f
theorem dj{C:Option α->Prop}{o:Option α}{f:α->Bool}(h:fQ o f=QI)(k:∀x,f x=QI->C (QA x)):C o:=by
 cases o with
 |none=>exact Bool.noConfusion h
 |some x=>exact k x h
noncomputable def iC (o:Option α) (b:Bool):Bool:=Option.casesOn o b λu=>QK
theorem dR{C:Option α->Prop}{o:Option α}(h:iC o b=QI)(k:b=QI->C QE):C o:=by
 cases o with
 |none=>exact k h
 |some x=>exact Bool.noConfusion h
theorem b2{a:Bool}(h:(a&&b)=QI)(k:a=QI->b=QI->C):C:=k (OD.mp h).1 (OD.mp h).2
theorem b3{a c:Bool}(h:(a&&b&&c)=QI)(k:a=QI->b=QI->c=QI->C):C:=b2 h λh3=>b2 h3 k
theorem b4{a c:Bool}(h:(a&&b&&c&&d)=QI)(k:a=QI->b=QI->c=QI->d=QI->C):C:=b2 h λh3=>b3 h3 k
theorem b5{a c e:Bool}(h:(a&&b&&c&&d&&e)=QI)(k:a=QI->b=QI->c=QI->d=QI->e=QI->C):C:=b2 h λh3=>b4 h3 k
theorem b6{a c e f:Bool}(h:(a&&b&&c&&d&&e&&f)=QI)(k:a=QI->b=QI->c=QI->d=QI->e=QI->f=QI->C):C:=b2 h λh3=>b5 h3 k
noncomputable def vW:AV->Option Const
 |.none=>QA .none
 |.bool b=>QA (.bool b)
 |.int i=>QA (.int i)
 |.str s=>if s.length<=aE then QA (.str ⟨s.toArray⟩) else QE
 |_=>QE
noncomputable def uM:Bf->Str
 |.len=>"len"|.str=>"str"|.int=>"int"|.setOf=>"set"|.set0=>"set"|.listOf=>"list"|.tupleOf=>"tuple"
noncomputable def ql:Bm->Str
 |.append=>"append"|.index=>"index"|.isascii=>"isascii"|.isalnum=>"isalnum"|.isalpha=>"isalpha"|.isdigit=>"isdigit"
 |.join=>"join"|.lower=>"lower"
noncomputable def m9:Ty->Option Str
 |.int=>QA "int"|.tuple=>QA "tuple"|.list=>QA "list"
 |.own c=>if c<T.nC then T.cls[c]? else QE
noncomputable def bQ (e:Expr):Bool:= !(e.ctorIdx==7||e.ctorIdx==22||e.ctorIdx==26)
noncomputable def na (e:Expr):Bool:= !(e.ctorIdx==16)||cCall e λf as u u=> !(f.ctorIdx==23)|| !as.isEmpty
noncomputable def aJ (sc:aZ) (sc':aZ):aZ:=sc'.map λp=>if p.2== .free&&sc.lookup p.1==QA .cell then(p.1,.cell) else p
noncomputable def d5 (sc':aZ) (Ov:Vis):Vis:=Ov.filter λp=>sc'.lookup p.2==QA .cell
noncomputable def CD (names:aZ) (Ov:Vis):Bool:=(Ov.all λp=>Ov.lookup p.1==QA p.2)&&names.all λp=>p.2 != .free||Ov.any λq=>q.2==p.1&&Ov.lookup q.1==QA q.2
noncomputable def gQ:List (List Nat)->List (Option Expr)->Bool
 |[],l=>c0 l QI
 |k::ks,l=>et l λo r=>fQ o λe=>i6 e λc u u=>c== .str ⟨k.toArray⟩&&decide (k.length<=aE)&&gQ ks r
noncomputable def qm (sc:aZ) (Ov:Vis) (x:Str) (scope:Scope):Bool:=scope.kind== .function&&(aJ sc scope.names).lookup x==QA .local&& !(x==(".0":Str))&&(aJ sc scope.names).all (λp=>p.2 != .free)&&
 decide ((scope.names.map (·.1)).Nodup)&&scope.names.all (λp=>p.2 != .cell)&&CD scope.names Ov
section
mutual
noncomputable def bg (sc:aZ) (Ov:Vis):PE->Expr->Bool
 |.v i,e=>bE e λx u=>Ov.lookup i==QA x&&pj sc x
 |.glob g,e=>bE e λx u=>T.glob[g]?==QA x&&bn sc x
 |.c c,e=>i6 e λk u u=>vW c==QA k
 |.tup es,e=>cTuple e λxs u u=>bZ sc Ov es xs&&decide (es.length<=1000)
 |.list es,e=>y0 e λxs u=>bZ sc Ov es xs&&decide (es.length<=1000)
 |.dict ks es,e=>yZ e λkeys vals u=>gQ ks keys&&bZ sc Ov es vals&&decide (es.length<=15)&&decide (ks.length=es.length)&&decide ks.Nodup
 |.b op l r,e=>uE e λa o b u=>o==jn op&&bg sc Ov l a&&bg sc Ov r b
 |.p op l r,e=>jY e λa os bs u=>c1 os λo=>c1 bs λb=>o==yR op&&bg sc Ov l a&&bg sc Ov r b&&bQ b
 |.d es,e=>my e λo xs u=>o== .And&&bZ sc Ov es xs
 |.o es,e=>my e λo xs u=>o== .Or&&bZ sc Ov es xs
 |.n p,e=>m7 e λo x u=>o== .Not&&bg sc Ov p x
 |.f t a b,e=>uF e λx y z u=>bg sc Ov t x&&bg sc Ov a y&&bg sc Ov b z
 |.sub p i,e=>fe e λa b u=>bg sc Ov p a&&bg sc Ov i b&&bQ b
 |.slice p lo hi,e=>fe e λa b u=>uG b λl u0u st u=>iC st (bg sc Ov p a&&GN sc Ov lo l&&GN sc Ov hi u0u)
 |.attr p f,e=>bp e λa n u=>bg sc Ov p a&&na a&&T.attr[f]?==QA n
 |.call f as,e=>cCall e λg xs ks u=>c0 ks (bE g λx u=>T.fn[f]?==QA x&& !(x==("":Str))&&bn sc x&&bZ sc Ov as xs&&decide (as.length<=20))
 |.new c as,e=>cCall e λg xs ks u=>c0 ks (bE g λx u=>T.cls[c]?==QA x&&decide (c<T.nC)&&bn sc x&&bZ sc Ov as xs&&decide (as.length<=20))
 |.meth p m as,e=>cCall e λg xs ks q=>c0 ks (bp g λo n ap=>bg sc Ov p o&&na o&&ap.endLine==q.line&&T.attr[m]?==QA n&&bZ sc Ov as xs&&decide (as.length<=20))
 |.bf f as,e=>cCall e λg xs ks u=>c0 ks (bE g λx u=>x==uM f&&bn sc x&&bZ sc Ov as xs&&decide (as.length<=20))
 |.bm m p as,e=>cCall e λg xs ks q=>c0 ks (bp g λo n ap=>bg sc Ov p o&&na o&&ap.endLine==q.line&&n==ql m&&bZ sc Ov as xs&&decide (as.length<=20))
 |.isinst p t,e=>cCall e λg xs ks u=>c0 ks (bE g λx u=>c2 xs λa b=>bE b λy u=>x==("isinstance":Str)&&bn sc x&&bg sc Ov p a&&bQ a&&m9 t==QA y&&bn sc y)
 |.typeIs p t neg,e=>jY e λl os bs u=>c1 os λo=>c1 bs λb=>cCall l λg xs ks u=>c0 ks (c1 xs λa=>bE g λx u=>bE b λy u=>x==("type":Str)&&bn sc x&&bg sc Ov p a&&bQ a&&o==(cond neg .IsNot .Is)&&(m9 t==QA y&&bn sc y))
 |.callv i t as,e=>cCall e λg xs ks u=>c0 ks (bE g λx u=>Ov.lookup i==QA x&&sc.lookup x==QA .local&&pj sc x&&(Ov.lookup t==QA ("text":Str)&&sc.lookup ("text":Str)==QA .cell)&&bZ sc Ov as xs&&decide (as.length<=20))
 |.excAttr i f,e=>bp e λo n u=>bE o λx u=>Ov.lookup i==QA x&&sc.lookup x==QA .local&&pj sc x&&T.attr[f]?==QA n
 |.comp1 elt v it,e=>i5 e λy gs scope u=>c1 gs λg=>c0 g.ifs (g.is_async==0&&(bE g.target λx u=>bg sc Ov it g.iter&&bQ g.iter&&qm sc Ov x scope&&bg (aJ sc scope.names) ((v,x)::d5 (aJ sc scope.names) Ov) elt y))
noncomputable def bZ (sc:aZ) (Ov:Vis):List PE->List Expr->Bool
 |[],l=>c0 l QI
 |p::ps,l=>et l λx xs=>bg sc Ov p x&&bQ x&&bZ sc Ov ps xs
noncomputable def GN (sc:aZ) (Ov:Vis):Option PE->Option Expr->Bool
 |none,o=>iC o QI
 |some p,o=>fQ o λx=>bg sc Ov p x
end
end
end
section
open PySem PySem.W PySem.SeqAt
variable{G:Wd}{W X:List Addr}{Z Z' Z0:Mu}{h h' h0:Heap}{l:List Env}{J J':Hp}{s:Shared}{A:Around}{E:Value->Shared->Prop}{env:Env}{M:Model}{sc:aZ}{Ov:Vis}{U:Loc}{n:Nat}{F:Call}{L:Addr}{hd:Option aH}{pos:Pos}{c fl cv:Value}{v:AV}{i k f j:Nat}{a t it d z TI TO i1 i2:Addr}{Q E':Value->Shared->Prop}{x name xn:Str}{K:KV}{p elt:PE}{vs args:List AV}{Er:KE}{items xs ys:Array Value}{C:Prop}{m:Str->Option Value}{b w b1 neg:Bool}{o oe:Obj}{s':Shared}{OC:List Env}{body suite fs:List Stmt}{src:Src}{es as ps:List PE}{op:Bop}{ss ks:List (List Nat)}{np hp p2 cp:Pos}{α:Type}{tgt:Expr}{hs:List PS}{b0:Stmt}{pars:List Str}{fn:Fn}{scope:Scope}{A':Around}{U':Loc}{cenv:Env}{sc':aZ}
section
set_option genCtorIdx false
structure LI where
 d:Addr
 es:List DictEntry
 n:Nat
 od:Obj
structure LJ(G:Wd)(h:Heap)(Z:Mu)(ok:Addr->Prop)(oe:Obj)(c:Nat)(fs:List AV)(p:LI):Prop where
 z0:c<G.nX
 z1:oe.cls=.ref (G.cls c)
 z2:oe.dict=QA p.d
 z3:ok p.d
 z4:p.d∉own Z
 z5:h.get? p.d=QA p.od
 z6:p.od.data=.dict (List.toArray p.es) p.n
 z7:∀e∈p.es,e.refKey=QK
 z8:∀f j v,f<G.nA->Pg.excf c f=QA j->fs[j]?=QA v->∃cv,getL (G.attr f) p.es=QA (QA cv)/\ad G h Z v cv
def br(G:Wd)(h:Heap)(Z:Mu)(ok:Addr->Prop)(oe:Obj):aH->Prop
 |.verr=>oe.cls=.type "ValueError"
 |.own c fs=>∃p,LJ G h Z ok oe c fs p
theorem br.map{ok ok':Addr->Prop}{oe':Obj}{err:aH}(hc:oe'.cls=oe.cls)(hd:oe'.dict=oe.dict)(H:∀(v:AV) {c:Value},ad G h Z v c->ad G h' Z' v c)(hk:∀d od es n,ok d->d∉own Z->h.get? d=QA od->od.data=.dict es n->ok' d/\d∉own Z'/\∃od',h'.get? d=QA od'/\od'.data=.dict es n)
  (p:br G h Z ok oe err):br G h' Z' ok' oe' err:=by
 cases err with
 |verr=>exact hc.trans p
 |own c fs=>refine ah λPG Ox=>aB p λd P=>?_;obtain⟨a1,a2,od',a3,a4⟩:=hk _ _ _ _ P.z3 P.z4 P.z5 P.z6;exact Ox (⟨⟨d.d,d.es,d.n,od'⟩,⟨P.z0,hc.trans P.z1,hd.trans P.z2,a1,a2,a3,a4,P.z7,λf j v hf hj hv=>(P.z8 f j v hf hj hv).elim λcv w=>⟨cv,w.1,H v w.2⟩⟩⟩)
theorem br.ok{ok ok':Addr->Prop}{err:aH}(k:∀d,ok d->ok' d)(p:br G h Z ok oe err):br G h Z ok' oe err:=p.map rfl rfl (λu u r=>r) λd od u u a b c e=>⟨k d a,b,od,c,e⟩
structure LK where
 oe:Obj
 vs:Array Value
 t:Addr
 oT:Obj
 ts:Array Value
 a0:Value
structure LL(G:Wd)(h:Heap)(Z:Mu)(h0:Heap)(fl:Value)(e:Addr)(err:aH)(d:LK):Prop where
 p1:h0.get? e=QE
 p2:e∉own Z
 p3:e≠G.tab
 q1:h.get? e=QA d.oe
 q2:d.oe.data=.fields d.vs
 q3:d.vs[0]?=QA d.a0
 q4:d.vs[1]?=QA (.ref d.t)
 q5:h0.get? d.t=QE
 q6:d.t≠e
 q7:d.t∉own Z
 q8:d.t≠G.tab
 q9:h.get? d.t=QA d.oT
 q10:d.oT.data=.fields d.ts
 q11:d.ts[3]?=QA fl
 q13:∃f,d.ts[1]?=QA (.ref f)
 q12:br G h Z (λa=>h0.get? a=QE) d.oe err
def aV(G:Wd)(h:Heap)(Z:Mu)(h0:Heap)(fl:Value)(e:Addr)(err:aH):Prop:=∃d,LL G h Z h0 fl e err d
theorem aV.e{e:Addr}{err:aH}(f:aV G h Z h0 fl e err)(k:∀oe vs t oT ts a0,h0.get? e=QE->e∉own Z->e≠G.tab->h.get? e=QA oe->oe.data=.fields vs->vs[0]?=QA a0->vs[1]?=QA (.ref t)->h0.get? t=QE->t≠e->t∉own Z->t≠G.tab->h.get? t=QA oT->oT.data=.fields ts->ts[3]?=QA fl->(∃f,ts[1]?=QA (.ref f))->br G h Z (λa=>h0.get? a=QE) oe err->C):C:=
 f.elim λd p=>k d.oe d.vs d.t d.oT d.ts d.a0 p.p1 p.p2 p.p3 p.q1 p.q2 p.q3 p.q4 p.q5 p.q6 p.q7 p.q8 p.q9 p.q10 p.q11 p.q13 p.q12
def sy(G:Wd)(l:List Env)(Z:Mu)(h:Heap)(err:aH)(J':Hp)(c:Value)(s':Shared):Prop:=
 ∃Z' e fl,c=.ref e/\SR G l Z' J' s'/\au [] [G.tab] Z h Z' s'.heap/\aV G s'.heap Z' h fl e err
theorem aV.lower{h1:Heap}{e:Addr}{err:aH}(x:aV G h Z h1 fl e err)(hl:∀a,h1.get? a=QE->h0.get? a=QE):aV G h Z h0 fl e err:=by refine ah λPG Ox=>?_;refine x.e λoe vs t oT ts a0 h1 h2 h3 q1 q2 q3 q4 q5 q6 q7 q8 q9 q10 q11 q13 q12=>?_;refine Ox (⟨⟨oe,vs,t,oT,ts,a0⟩,⟨hl _ h1,h2,h3,q1,q2,q3,q4,hl _ q5,q6,q7,q8,q9,q10,q11,q13,?_⟩⟩);exact q12.ok hl
noncomputable def bx (env:Env):List Addr:=[env.locals]
structure GO where
 fa:Addr
 a:Addr
 doc:Value
 pm:Value
 c':Addr
 ctv:Value
structure Jn(G:Wd)(env:Env)(h:Heap)(Z:Mu)(c:Value)(d:GO):Prop where
 e:c=.ref d.fa
 hn:d.fa∉own Z
 hf:h.get? d.fa=QA (fnMade G.D.name G.QF G.D.params G.D.body G.D.scope [(("text":Str),d.a)] d.doc d.pm d.c' d.ctv)
 hc:env.cells.lookup ("text":Str)=QA d.a
 hr:h.CodeRec (.ref d.c') G.QF
 hn':d.c'∉own Z
 ht:d.c'≠G.tab
def aA(G:Wd)(env:Env)(h:Heap)(Z:Mu):AV->Value->Prop
 |.word,c=>∃d,Jn G env h Z c d
 |.exc cn fs,c=>∃e oe,c=.ref e/\e∉own Z/\e≠G.tab/\(∃vs,oe.data=.fields vs)/\h.get? e=QA oe/\br G h Z (·∉bx env) oe (.own cn fs)
 |v,c=>ad G h Z v c
theorem aA.map(H:∀(v:AV) {c:Value},ad G h Z v c->ad G h' Z' v c)(hK:∀b o,b∉own Z->h.get? b=QA o->((∃fd,o.data=.func fd)\/(b≠G.tab/\∃vs,o.data=.fields vs))->h'.get? b=QA o/\b∉own Z'){v:AV}{c:Value}
  (hP:∀cn fs,v=.exc cn fs->∀d od es n,d∉bx env->d∉own Z->h.get? d=QA od->od.data=.dict es n->d∉own Z'/\∃od',h'.get? d=QA od'/\od'.data=.dict es n) (r:aA G env h Z v c):aA G env h' Z' v c:=by
 cases v with
 |word=>refine aB r λd P=>?_;have a1:=hK _ _ P.hn P.hf (.inl ⟨_,rfl⟩);refine ah λPG Ox=>oX P.hr λc2 oc vs tq e1 e2 e3 e4=>Ox ?_;cases e1;have a2:=hK _ _ P.hn' e2 (.inr ⟨P.ht,vs,e3⟩);exact⟨d,⟨P.e,a1.2,a1.1,P.hc,⟨_,oc,vs,tq,rfl,a2.1,e3,e4⟩,a2.2,P.ht⟩⟩
 |exc cn fs=>refine ah λPG Ox=>yJ r λe oe q hn ht hv he hp=>Ox ?_;have a:=hK _ _ hn he (.inr ⟨ht,hv⟩);exact⟨e,oe,q,a.2,ht,hv,a.1,hp.map rfl rfl H λd od es n z3 z4 z5 z6=>⟨z3,hP cn fs rfl d od es n z3 z4 z5 z6⟩⟩
 |none=>exact H .none r
 |bool b=>exact H (.bool b) r
 |int i=>exact H (.int i) r
 |str x=>exact H (.str x) r
 |tup vs=>exact H (.tup vs) r
 |flist vs=>exact H (.flist vs) r
 |obj k=>exact H (.obj k) r
structure ba(G:Wd)(env:Env)(sc:aZ)(Ov:Vis)(U:Loc)(Z:Mu)(h:Heap):Prop where
 kind:env.scope.kind=.function
 names:env.scope.names=sc
 glob:env.globals=mainGlobals
 bi:env.builtins=builtinsNs
 ns:∃m,h.Ns env.locals m/\∀i x v,Ov.lookup i=QA x->sc.lookup x=QA .local->U[i]?=QA (QA v)->∃c,m x=QA c/\aA G env h Z v c
 cells:∀i x,Ov.lookup i=QA x->(sc.lookup x=QA .cell\/sc.lookup x=QA .free)->∃a ov,env.cells.lookup x=QA a/\h.IsCell a ov/\a∉own Z/\(∀v,U[i]?=QA (QA v)->∃c,ov=QA c/\ad G h Z v c)
 loc:env.locals∉own Z
 locT:env.locals≠G.tab
 locH:G.H.get? env.locals=QE
theorem au.dict(st:au W X Z h Z' h'){d:Addr}{od:Obj}{es:Array DictEntry}{n:Nat}(hw:d∉W)(z4:d∉own Z)(z5:h.get? d=QA od)(z6:od.data=.dict es n):d∉own Z'/\∃od',h'.get? d=QA od'/\od'.data=.dict es n:=
 ⟨st.Pu z5 z4,(st.keep d _ z5 z4 hw λu vs w=>nomatch z6.symm.trans w).elim λo' q=>⟨o',q.1,q.2.data.trans z6⟩⟩
theorem br.step(st:au W X Z h Z' h')(hW:∀a∈W,fc h a){ok:Addr->Prop}{oe:Obj}{err:aH}(hlo:∀a∈W, ¬ok a)(p:br G h Z ok oe err):br G h' Z' ok oe err:=
 p.map rfl rfl (ad.step st hW) λd u u u z3 z4 z5 z6=>⟨z3,st.dict (λq=>hlo d q z3) z4 z5 z6⟩
theorem aA.step(st:au W X Z h Z' h')(hW:∀a∈W,fc h a)(hX:∀a∈X,a=G.tab)(hlo:∀a∈W,a∈bx env){v:AV}{c:Value}(r:aA G env h Z v c):aA G env h' Z' v c:=
 r.map (ad.step st hW) (λb o hn ho hd=>by
  have h1:∀es n,o.data≠ .dict es n:=λes n z=>by rcases hd with⟨fd,w⟩|⟨_,vs,w⟩<;>cases w.symm.trans z
  have h2:∀v,o.data≠ .cell v:=λv z=>by rcases hd with⟨fd,w⟩|⟨_,vs,w⟩<;>cases w.symm.trans z
  refine ak (st.keep b o ho hn (λq=>(hW b q o ho).elim (λz=>z.elim λes z=>z.elim λk z=>h1 es k z) λz=>z.elim h2) λq vs z=>hd.elim (λw=>w.elim λfd w=>nomatch w.symm.trans z) λw=>w.1 (hX b q)) λo' e q=>?_;rw[q.eq h1] at e;exact⟨e,st.Pu ho hn⟩) λu u u d u u u z3 z4 z5 z6=>st.dict (λq=>z3 (hlo d q)) z4 z5 z6
theorem jZ(x:h.Ns a m)(k:∀o,h.get? a=QA o->∃o',h'.get? a=QA o'/\mf o o'):h'.Ns a m:=by exact ah λPG Ox=>eK x λo es ep ho hd r=>ak (k o ho) λo' q1 q2=>Ox (⟨o',es,ep,q1,q2.data.trans hd,r⟩)
theorem ba.map(V:ba G env sc Ov U Z h)(hs:∀(i:Nat) (v:AV) {c:Value},U[i]?=QA (QA v)->aA G env h Z v c->aA G env h' Z' v c)(H:∀(v:AV) {c:Value},ad G h Z v c->ad G h' Z' v c)
  (hL:∀m,h.Ns env.locals m->h'.Ns env.locals m/\env.locals∉own Z') (hC:∀a o ov,a∉own Z->h.get? a=QA o->o.data=.cell ov->a∉own Z'/\∃o',h'.get? a=QA o'/\o'.data=.cell ov):ba G env sc Ov U Z' h':=
 ⟨V.kind,V.names,V.glob,V.bi,V.ns.elim λm z=>⟨m,(hL m z.1).1,λi x v q1 q2 q3=>(z.2 i x v q1 q2 q3).elim λc w=>⟨c,w.1,hs i v q3 w.2⟩⟩,λi x q1 q2=>(V.cells i x q1 q2).elim λa z=>z.elim λov z=>z.2.1.elim λo w=>⟨a,ov,z.1,(hC a o ov z.2.2.1 w.1 w.2).2,(hC a o ov z.2.2.1 w.1 w.2).1,λv q=>(z.2.2.2 v q).elim λc w=>⟨c,w.1,H v w.2⟩⟩,
  V.ns.elim λm z=>(hL m z.1).2,V.locT,V.locH⟩
theorem au.cell(st:au [] X Z h Z' h'){a:Addr}{o:Obj}{ov:Option Value}(hn:a∉own Z)(ho:h.get? a=QA o)(hd:o.data=.cell ov):a∉own Z'/\∃o',h'.get? a=QA o'/\o'.data=.cell ov:=
 ⟨st.Pu ho hn,(st.keep a o ho hn (λq=>nomatch q) λu vs w=>nomatch hd.symm.trans w).elim λo' q=>⟨o',q.1,q.2.data.trans hd⟩⟩
theorem ba.step(st:au [] [G.tab] Z h Z' h')(V:ba G env sc Ov U Z h):ba G env sc Ov U Z' h':=
 V.map (λu u u u r=>aA.step st (λu q=>nomatch q) (λa q=>OF.mp q) (λu q=>nomatch q) r) (λu u r=>ad.st st r) (λu hm=>⟨jZ hm λo ho=>st.keep _ o ho V.loc (λq=>nomatch q) (λq=>absurd (OF.mp q) V.locT),hm.elim λu z=>z.elim λu z=>z.elim λu z=>st.Pu z.1 V.loc⟩) λu u u hn ho hd=>st.cell hn ho hd
structure Cx(A:Around)(l:List Env)(n:Nat):Prop where
 frames:A.frames=QA l
 depth:A.depth+4*n+10<recursionLimit
 units:A.units+60*n+600<cLine
structure Cy(A:Around)(l:List Env)(n:Nat):Prop where
 frames:A.frames=QA l
 depth:A.depth+4*n+8<recursionLimit
 units:A.units+60*n+560<cLine
theorem Cx.y(C:Cx A l n):Cy A l n:=⟨C.frames,by have:=C.depth;exact OI (O4 (by decide:8<=10) _) this,by have:=C.units;exact OI (O4 (by decide:560<=600) _) this⟩
end
section
set_option genCtorIdx false
noncomputable def biTab:List (Str×Value):=[("len",.builtin "len"),("str",.type "str"),("int",.type "int"),("set",.type "set"),("list",.type "list"),("tuple",.type "tuple"),("isinstance",.builtin "isinstance"),("type",.type "type"),("range",.type "range"),("zip",.type "zip"),("ValueError",.type "ValueError")]
structure GP(G:Wd):Prop where
 own:∀c d,c<G.nC->d<G.nC->kitOne G.K (.ref (G.cls c)) (.ref (G.cls d))=QA (c==d)
 ownInt:∀c,c<G.nC->kitOne G.K (.ref (G.cls c)) (.type "int")=QA QK
 plain:∀c,c<G.nC->kitOne G.K (.type "int") (.ref (G.cls c))=QA QK/\kitOne G.K (.type "bool") (.ref (G.cls c))=QA QK/\kitOne G.K (.type "NoneType") (.ref (G.cls c))=QA QK
 int:kitOne G.K (.type "int") (.type "int")=QA QI/\kitOne G.K (.type "NoneType") (.type "int")=QA QK
 cls:∀c,c<G.nC->plainGet G.K (G.cls c) "__class__"=QI/\findIn G.K (.ref (G.cls c)) "__class__"=QA (QA (.builtin "object.__class__"))/\mroIn G.K (G.cls c) (.type "object")=QA QI
 get:specialIn G.K (.builtin "object.__class__") "__get__"=QA (QA (.builtin "getset_descriptor.__get__"))/\takesIn G.K (.builtin "object.__class__")=QA QI
structure y5(G:Wd):Prop where
 get:∀c,c<G.nX->G.nC<=c->findIn G.K (.ref (G.cls c)) "__getattribute__"=QA (QA (.builtin "BaseException.__getattribute__"))/\findIn G.K (.ref (G.cls c)) "__getattr__"=QA QE/\
  mroIn G.K (G.cls c) (.type "BaseException")=QA QI/\hasDictIn G.K (G.cls c)=QI
 attr:∀c f j,Pg.excf c f=QA j->c<G.nX/\G.nC<=c/\findIn G.K (.ref (G.cls c)) (G.attr f)=QA QE
structure aQ(G:Wd):Prop where
 gns:G.H.Ns mainGlobals G.mg
 bns:G.H.Ns builtinsNs G.mb
 bi:∀p∈biTab,G.mg p.1=QE/\G.mb p.1=QA p.2
 fn:∀f x,T.fn[f]?=QA x->x≠("":Str)->f≠Pg.QC/\G.mg x=QA (.ref (G.fn f))/\keepIn G.K (.ref (G.fn f))=QI
 cls:∀c x,T.cls[c]?=QA x->c<G.nX/\G.mg x=QA (.ref (G.cls c))/\keepIn G.K (.ref (G.cls c))=QI
 glob:∀g x v,T.glob[g]?=QA x->Pg.glob g=QA v->∃c,G.mg x=QA c/\ad G G.H [] v c
 attr:∀f n,T.attr[f]?=QA n->f<G.nA/\G.attr f=n
 meth:∀c f k,Pg.meth c f=QA k->k≠Pg.QC/\keepIn G.K (.ref (G.fn k))=QI
 nC:T.nC=G.nC
 isi:GP G
 exc:y5 G
 make:∀c,c<G.nC->makesIn G.K (G.cls c)=QI/\match Pg.init c with
  |some k=>k≠Pg.QC/\findIn G.K (.ref (G.cls c)) "__init__"=QA (QA (.ref (G.fn k)))/\typeIn G.K (.ref (G.fn k))=QA (.type "function")
  |none=>findIn G.K (.ref (G.cls c)) "__init__"=QA (QA (.builtin "object.__init__"))
theorem ad.base(R:SR G l Z J s)(v:AV){c:Value}(r:ad G G.H [] v c):ad G s.heap Z v c:=
 ad.map (λa u ht u=>ht.elim λn ht=>⟨⟨n,R.stays _ _ ht⟩,λq=>nn ((R.fresh a q).1.symm.trans ht)⟩) (λu u e=>nn e) v r
theorem af.base(R:SR G l Z J s)(vs:List AV){cs:List Value}(r:af G G.H [] vs cs):af G s.heap Z vs cs:=af.map (ad.base R) vs r
theorem SR.ns(R:SR G l Z J s){a:Addr}{m:Str->Option Value}(x:G.H.Ns a m):s.heap.Ns a m:=by exact eJ x λo es ep ho r=>⟨o,es,ep,R.stays _ _ ho,r⟩
theorem sz(e:pj sc x=QI):(sc.lookup x=QA .local\/sc.lookup x=QA .cell\/sc.lookup x=QA .free)/\(x==("__debug__":Str))=QK/\(x==("__classdict__":Str))=QK:=by simp only[pj,Qh,Bool.or_eq_true,beq_iff_eq,Bool.not_eq_true'] at e;exact⟨by rcases e.1.1 with(h|h)|h<;>simp[h],e.1.2,e.2⟩
theorem j0(e:bn sc x=QI):sc.lookup x=QA .globalImplicit/\(x==("__debug__":Str))=QK:=by simp only[bn,Qh,beq_iff_eq,Bool.not_eq_true'] at e;exact e
theorem ad.slot0(r:ad G h Z v c):aA G env h Z v c:=by cases v<;>first|exact r|exact r.elim
theorem jC(V:ba G env sc Ov U Z s.heap){i:Nat}{x:Str}{pos:Pos}{v:AV}(hi:Ov.lookup i=QA x)(hl:pj sc x=QI)(hv:U[i]?=QA (QA v))
  {Q:Value->Shared->Prop} (hQ:∀c,aA G env s.heap Z v c->Q c s):wpAny G.M A (eval (.Name x pos) env) Q E s:=by
 refine eI (sz hl) λhk hd hc=>wpAny_Name ?_ hd;have hkind:env.kindOf x=sc.lookup x:=by unfold Env.kindOf;exact PK _ (V.names ..)
 rcases hk with hk|hk|hk
 ·obtain⟨m,hm,hr⟩:=V.ns;exact ak (hr i x v hi hk hv) λc q1 q2=>wpAny_loadName_local V.kind (hkind.trans hk) hm q1 (hQ c q2)
 ·obtain⟨a,ov,q1,q2,_,q3⟩:=V.cells i x hi (.inl hk);refine ak (q3 v hv) λc er1 q4=>?_;subst er1;exact wpAny_loadName_cell V.kind (hkind.trans hk) q1 q2 (hQ c q4.slot0)
 ·obtain⟨a,ov,q1,q2,_,q3⟩:=V.cells i x hi (.inr hk);refine ak (q3 v hv) λc er1 q4=>?_;subst er1;exact wpAny_loadName_free V.kind (hkind.trans hk) q1 q2 (hQ c q4.slot0) hc
theorem cK(N:aQ G)(R:SR G l Z J s)(V:ba G env sc Ov U Z s.heap){x:Str}{pos:Pos}{c:Value}(hg:bn sc x=QI)(hm:G.mg x=QA c)
  {Q:Value->Shared->Prop} (hQ:Q c s):wpAny G.M A (eval (.Name x pos) env) Q E s:=by
 refine bj (j0 hg) λhk hd=>?_;exact Calls.Name_function_global V.kind (by unfold Env.kindOf;refine(PK _ (V.names ..)).trans ?_;exact hk) (Calls.loadGlobal_global (by rw[V.glob];exact R.ns N.gns) hm hQ) hd
theorem bz(N:aQ G)(R:SR G l Z J s)(V:ba G env sc Ov U Z s.heap){x:Str}{pos:Pos}{c:Value}(hg:bn sc x=QI)(hm:G.mg x=QE)(hb:G.mb x=QA c)
  {Q:Value->Shared->Prop} (hQ:Q c s):wpAny G.M A (eval (.Name x pos) env) Q E s:=by
 refine bj (j0 hg) λhk hd=>?_;exact Calls.Name_function_global V.kind (by unfold Env.kindOf;refine(PK _ (V.names ..)).trans ?_;exact hk) (Calls.loadGlobal_builtin (by rw[V.glob];exact R.ns N.gns) hm (by rw[V.bi];exact R.ns N.bns) hb hQ) hd
theorem sA(R:SR G l Z J s){c:AV}{k:Const}{n:Nat}{pos:Pos}(e:vW c=QA k){Q:Value->Shared->Prop}(hQ:∀cv s',aT G l Z s.heap c J cv s'->Q cv s'):wpAny G.M A (eval (.Constant k n pos) env) Q E s:=by
 cases c with
 |none=>cases e;exact Ph (hQ _ _ (aT.now (v:=.none) R rfl))
 |bool a=>cases e;exact Ph (hQ _ _ (aT.now (v:=.bool a) R rfl))
 |int a=>cases e;exact wpAny_Constant_int (hQ _ _ (aT.here (v:=.int a) R ⟨_,rfl⟩ _))
 |str a=>
  have e:(if a.length<=aE then QA (Const.str ⟨a.toArray⟩) else QE)=QA k:=e;by_cases h:a.length<=aE
  ·cases(if_pos h).symm.trans e;exact Calls.Constant_str (hQ _ _ (aT.here (v:=.str a) R ⟨h,_,rfl⟩ _))
  ·exact nn ((if_neg h).symm.trans e)
 |tup _=>exact nn e
 |flist _=>exact nn e
 |obj _=>exact nn e
 |exc _ _=>exact nn e
 |word=>exact nn e
theorem bN{o:Option α}{k:α->Prop}(h:cC o k)(f:∀a,o=QA a->k a->C):C:=by
 cases o with
 |none=>exact h.elim
 |some a=>exact f a rfl h
def VP(G:Wd)(l:List Env)(Z:Mu)(h:Heap)(K:KV)(Q:Value->Shared->Prop):Prop:=∀v J' Z' c s',K v J'->SR G l Z' J' s'->au [] [G.tab] Z h Z' s'.heap->ad G s'.heap Z' v c->Q c s'
def Nj(G:Wd)(l:List Env)(Z:Mu)(h:Heap)(n:Nat)(K:KL)(Q:List Value->Shared->Prop):Prop:=∀v J' Z' c s',K v J'->SR G l Z' J' s'->au [] [G.tab] Z h Z' s'.heap->af G s'.heap Z' v c->v.length=n->Q c s'
def CE(G:Wd)(l:List Env)(Z:Mu)(h:Heap)(K:KV)(Q:Bool->Shared->Prop):Prop:=∀v J',K v J'->∃b,truthy J' v=QA b/\∀Z' s',SR G l Z' J' s'->au [] [G.tab] Z h Z' s'.heap->Q b s'
def EP(G:Wd)(l:List Env)(Z:Mu)(h:Heap)(Er:KE)(E:Value->Shared->Prop):Prop:=∀err J' c s',Er err J'->sy G l Z h err J' c s'->E c s'
theorem sy.trans{err:aH}(st:au [] [G.tab] Z h Z' h')(p:sy G l Z' h' err J' c s'):sy G l Z h err J' c s':=by obtain⟨Z'',e,fl,a,b,r,f⟩:=p;exact⟨Z'',e,fl,a,b,st.trans r,f.lower λu=>st.none⟩
theorem aT.trans(st:au [] [G.tab] Z h Z' h')(p:aT G l Z' h' v J' c s'):aT G l Z h v J' c s':=p.elim λZ'' p=>⟨Z'',p.1,st.trans p.2.1,p.2.2⟩
theorem VP.tr(q:VP G l Z h K Q)(st:au [] [G.tab] Z h Z' h'):VP G l Z' h' K Q:=λv J' μ1 c s' k R st' r=>q v J' μ1 c s' k R (st.trans st') r
theorem CE.tr{Q:Bool->Shared->Prop}(q:CE G l Z h K Q)(st:au [] [G.tab] Z h Z' h'):CE G l Z' h' K Q:=λv J' k=>(q v J' k).elim λb p=>⟨b,p.1,λμ1 s' R st'=>p.2 μ1 s' R (st.trans st')⟩
theorem CE.of{K:Bool->Hp->Prop}{Q:Bool->Shared->Prop}(q:∀b J' Z' s',K b J'->SR G l Z' J' s'->au [] [G.tab] Z h Z' s'.heap->Q b s'):CE G l Z h (λv J=>cC (truthy J v) λb=>K b J) Q:=λu J' k=>bN k λb hb k=>⟨b,hb,λZ' s' R st=>q b J' Z' s' k R st⟩
theorem EP.tr(q:EP G l Z h Er E)(st:au [] [G.tab] Z h Z' h'):EP G l Z' h' Er E:=λerr J' c s' k p=>q err J' c s' k (p.trans st)
theorem VP.post(q:VP G l Z h K Q){v:AV}{c:Value}{s':Shared}(k:K v J')(p:aT G l Z h v J' c s'):Q c s':=p.elim λZ' p=>q v J' Z' c s' k p.1 p.2.1 p.2.2
theorem VP.now(q:VP G l Z s.heap K Q){v:AV}{c:Value}(k:K v J)(R:SR G l Z J s)(r:ad G s.heap Z v c):Q c s:=q v J Z c s k R .refl r
theorem VP.tok(q:VP G l Z s.heap K Q){v:AV}{c:Value}(k:K v J)(R:SR G l Z J s)(r:ad G s.heap Z v c)(t:Nat):Q c {s with toks:=t}:=q v J Z c _ k (R.tok t) .refl r
theorem dS{k:AV->Prop}(h:cL U i k)(f:∀v,U[i]?=QA (QA v)->k v->C):C:=by
 unfold cL at h;cases q:U[i]? with
 |none=>rw[q] at h;exact h.elim
 |some o=>rw[q] at h;cases o with
  |none=>exact h.elim
  |some v=>exact f v q h
def iD(G:Wd)(n:Nat)(F:Call):Prop:=
 ∀(f:Nat) (args:List AV) (J:Hp) (K:KV) (Er:KE),F f args J K Er->f≠Pg.QC->
  ∀(A:Around) (l:List Env) (Z:Mu) (s:Shared) (vals:List Value),SR G l Z J s->Cy A l n->A.handled=QE->af G s.heap Z args vals->
   ∀(Q:Value->Shared->Prop) (E:Value->Shared->Prop),VP G l Z s.heap K Q->EP G l Z s.heap Er E->
    codeAny G.M A (.call (.ref (G.fn f)) ⟨vals,[]⟩) (λr s'=>match r with|.ok (.ret v)=>Q v s'|.ok _=>False|.error e=>E e s') s
def lq(G:Wd)(n:Nat)(F:Call):Prop:=
 ∀(t:List Nat) (args:List AV) (J:Hp) (K:KV) (Er:KE),F Pg.QC (.str t::args) J K Er->
  ∀(A:Around) (l:List Env) (Z:Mu) (s:Shared) (vals:List Value) (env:Env) (fa:Addr) (a:Addr) (c:Value),SR G l Z J s->Cy A l n->A.handled=QE->af G s.heap Z args vals->
   aA G env s.heap Z .word (.ref fa)->env.cells.lookup ("text":Str)=QA a->s.heap.IsCell a (QA c)->a∉own Z->ad G s.heap Z (.str t) c->
   ∀(Q:Value->Shared->Prop) (E:Value->Shared->Prop),VP G l Z s.heap K Q->EP G l Z s.heap Er E->
    codeAny G.M A (.call (.ref fa) ⟨vals,[]⟩) (λr s'=>match r with|.ok (.ret v)=>Q v s'|.ok _=>False|.error e=>E e s') s
def dB(U:Loc):Prop:=∀(i:Nat) (v:AV),U[i]?=QA (QA v)->bF v=QI\/v=.word
def y6(env:Env)(l:List Env):Prop:=∃L top OC,env.frame=QA L/\l=top::OC/\top.frame=QA L
structure Ex(G:Wd)(A:Around)(l:List Env)(n:Nat)(env:Env)(sc:aZ)(Ov:Vis)(U:Loc)(Z:Mu)(J:Hp)(s:Shared):Prop where
 R:SR G l Z J s
 V:ba G env sc Ov U Z s.heap
 C:Cx A l n
 fr:y6 env l
 nx:A.handled=QE->dB U
theorem Ex.next(x:Ex G A l n env sc Ov U Z J s){s':Shared}(R:SR G l Z' J' s')(st:au [] [G.tab] Z s.heap Z' s'.heap):Ex G A l n env sc Ov U Z' J' s':=⟨R,x.V.step st,x.C,x.fr,x.nx⟩
noncomputable def bA:PE->Bool
 |.v _|.glob _|.c _|.excAttr _ _=>QI
 |.attr e _=>bA e
 |.p .is a b=>bA a&&bA b
 |.p .isnot a b=>bA a&&bA b
 |_=>QK
theorem bH(h:A.handled=QE\/b=QI)(hb:b=QK):A.handled=QE:=h.resolve_right (by rw[hb];exact Bool.noConfusion)
def aj(G:Wd)(n:Nat)(F:Call)(pe:PE):Prop:=
 ∀{sc:aZ} {Ov:Vis} {e:Expr} {U:Loc} {J:Hp} {K:KV} {Er:KE},bg sc Ov pe e=QI->cR F pe U J K Er->
  ∀{A:Around} {l:List Env} {env:Env} {Z:Mu} {s:Shared} {Q:Value->Shared->Prop} {E:Value->Shared->Prop},
   Ex G A l n env sc Ov U Z J s->A.handled=QE\/bA pe=QI->VP G l Z s.heap K Q->EP G l Z s.heap Er E->wpAny G.M A (eval e env) Q E s
def cu(G:Wd)(n:Nat)(F:Call)(ps:List PE):Prop:=
 ∀{sc:aZ} {Ov:Vis} {xs:List Expr} {U:Loc} {J:Hp} {K:KL} {Er:KE},bZ sc Ov ps xs=QI->jj F ps U J K Er->
  ∀{A:Around} {l:List Env} {env:Env} {pos:Pos} {Z:Mu} {s:Shared} {Q:List Value->Shared->Prop} {E:Value->Shared->Prop},
   Ex G A l n env sc Ov U Z J s->A.handled=QE->Nj G l Z s.heap ps.length K Q->EP G l Z s.heap Er E->wpAny G.M A (spliced (backTo pos (starEach xs env))) Q E s
def bR(G:Wd)(n:Nat)(F:Call)(pe:PE):Prop:=
 ∀{sc:aZ} {Ov:Vis} {e:Expr} {U:Loc} {J:Hp} {K:KV} {Er:KE},bg sc Ov pe e=QI->cR F pe U J K Er->
  ∀{A:Around} {l:List Env} {env:Env} {Z:Mu} {s:Shared} {Q:Bool->Shared->Prop} {E:Value->Shared->Prop},
   Ex G A l n env sc Ov U Z J s->A.handled=QE\/bA pe=QI->CE G l Z s.heap K Q->EP G l Z s.heap Er E->wpAny G.M A (isTrue e env (eval e env)) Q E s
theorem fR{e:Expr}(h:bQ e=QI):e.ctorIdx≠7/\e.ctorIdx≠22/\e.ctorIdx≠26:=by unfold bQ at h;simp only[Bool.not_eq_true',Bool.or_eq_false_iff,PJ] at h;exact⟨h.1.1,h.1.2,h.2⟩
theorem j4{e:Expr}{x:Value}(h:bQ e=QI):foldedSetIterable e env x=pure x:=by have:=(fR h).1;clear h;cases e<;>first|rfl|exact absurd rfl this
theorem bI{e:Expr}{xs:List Expr}(hp:bQ e=QI):backTo pos (starEach (e::xs) env)=(QK,eval e env)::backTo pos (starEach xs env):=by have:=(fR hp).2.1;clear hp;cases e<;>first|rfl|exact absurd rfl this
theorem ga:∀{ps:List PE} {xs:List Expr},bZ sc Ov ps xs=QI->(backTo pos (starEach xs env)).any (·.1)=QK
 |[],_,e=>bB (C:=λxs=>(backTo pos (starEach xs env)).any (·.1)=QK) e λu=>rfl
 |_::_,_,e=>aI (C:=λxs=>(backTo pos (starEach xs env)).any (·.1)=QK) e λx xs e=>b3 e λu hp h=>by exact(bI hp).symm▸(ga h)
theorem iE:cu G n F []:=by intro sc Ov xs U J K Er hc he A l env pos Z s Q E x hA q qe;exact bB (C:=λxs=>wpAny _ _ (spliced (backTo pos (starEach xs env))) _ _ _) hc λu=>Ph (q [] _ _ [] s he x.R .refl af.nil rfl)
theorem dC(hp:aj G n F p)(hps:cu G n F ps):cu G n F (p::ps):=by
 intro sc Ov xs U J K Er hc he A l env pos Z s Q E x hA q qe;refine aI (C:=λxs=>wpAny _ _ (spliced (backTo pos (starEach xs env))) _ _ _) hc λe xs hc=>b3 hc λh1 h2 h3=>?_
 (refine(bI h2).symm▸?_)
 exact PF (hp h1 he x (.inl hA) (λv J1 μ1 c s1 he R1 st1 r1=>hps h3 he (x.next R1 st1) hA (λvs J2 Z2 cs s2 he R2 st2 r2 hn=>q _ J2 Z2 _ s2 he R2 (st1.trans st2) (af.cons (ad.st st2 r1) r2) (PK (·+1) hn)) (qe.tr st1)) qe)
end
theorem aA.val(hv:bF v=QI)(r:aA G env h Z v c):ad G h Z v c:=by cases v<;>first|exact r|exact Bool.noConfusion hv
theorem y7:aj G n F (.v i):=by intro sc Ov e U J K Er hc he A l env Z s Q E x hA q qe;exact aN (C:=λe=>wpAny _ _ (eval e env) _ _ _) hc λy p hc=>b2 hc λh1 h2=>dS he λv hv he=>jC x.V (Pl h1) h2 hv λc r=>q.now he.2 x.R (r.val he.1)
theorem vX{g:Nat}(NO:aQ G):aj G n F (.glob g):=by intro sc Ov e U J K Er hc he A l env Z s Q E x hA q qe;exact aN (C:=λe=>wpAny _ _ (eval e env) _ _ _) hc λy p hc=>b2 hc λh1 h2=>bN he λv hv he=>(NO.glob _ _ _ (Pl h1) hv).elim λc h=>cK NO x.R x.V h2 h.1 (q.now he x.R (ad.base x.R _ h.2))
theorem sB{c:AV}:aj G n F (.c c):=by intro sc Ov e U J K Er hc he A l env Z s Q E x hA q qe;exact fZ (C:=λe=>wpAny _ _ (eval e env) _ _ _) hc λk m p hc=>sA x.R (Pl hc) λcv s' p=>q.post he p
theorem sC{cs:List Value}(r:af G h Z vs cs)(hl:vs.length<=aE):sizeOk (.seq cs.toArray):=by show cs.toArray.size<=sizeLine;rw[List.size_toArray,r.length];exact OK hl dc
theorem y8(hes:cu G n F es):aj G n F (.tup es):=by
 intro sc Ov e U J K Er hc he A l env Z s Q E x hA q qe;have hA:=bH hA rfl;refine dQ (C:=λe=>wpAny _ _ (eval e env) _ _ _) hc λxs k p hc=>b2 hc λh1 h2=>PyProof.Rows.Tuple_ (hes h1 he x hA (λvs J1 μ1 cs s1 he R1 st1 r1 hn=>?_) qe);have hl:vs.length<=aE:=by rw[hn];exact OK (Pm h2) dc
 exact wpAny_newObj_type ((q.tr st1).post he (iA R1 (items:=cs.toArray) r1 hl _)) (sC r1 hl)
theorem vY(hes:cu G n F es):aj G n F (.list es):=by
 intro sc Ov e U J K Er hc he A l env Z s Q E x hA q qe;have hA:=bH hA rfl;refine pt (C:=λe=>wpAny _ _ (eval e env) _ _ _) hc λxs p hc=>b2 hc λh1 h2=>PyProof.Rows.List_ (hes h1 he x hA (λvs J1 μ1 cs s1 he R1 st1 r1 hn=>?_) qe);have hl:vs.length<=aE:=by rw[hn];exact OK (Pm h2) dc
 exact wpAny_newObj_type ((q.tr st1).post he (gM R1 (items:=cs.toArray) r1 hl _)) (sC r1 hl)
theorem CG(R:SR G l Z J s){op:Bop}{a b:AV}{c d:Value}(r:ad G s.heap Z a c)(r':ad G s.heap Z b d){K:KV}(h:∃v J1,jv J op a b v J1/\K v J1){Q:Value->Shared->Prop}(q:VP G l Z s.heap K Q):wpAny G.M A (binaryOp (jn op) c d) Q E s:=
 h.elim λu p=>p.elim λu p=>p.1.at R c d r r' E Q λu u z=>q.post p.2 z
theorem y9{a b:PE}(ha:aj G n F a)(hb:aj G n F b):aj G n F (.b op a b):=by
 intro sc Ov e U J K Er hc he A l env Z s Q E x hA q qe;have hA:=bH hA rfl;refine m6 (C:=λe=>wpAny _ _ (eval e env) _ _ _) hc λy o z p hc=>b3 hc λh1 h2 h3=>?_
 (refine(Pl h1).symm▸?_)
 exact wpAny_BinOp (ha h2 he x (.inl hA) (λv1 J1 μ1 c1 s1 he R1 st1 r1=>hb h3 he (x.next R1 st1) (.inl hA) (λv2 J2 Z2 c2 s2 he R2 st2 r2=>CG R2 (ad.st st2 r1) r2 he (q.tr (st1.trans st2))) (qe.tr st1)) qe)
theorem l4{o:CmpOp}{e:Expr}(h:bQ e=QI):behindInMarks o e=QK:=by have:=(fR h).1;clear h;cases e<;>first|rfl|exact absurd rfl this
theorem Cx.room(C:Cx A l n):A.units+200<cLine:=by have:=C.units;exact OI (OU (O1 _ _) dc) this
theorem vZ(ok:jN G)(R:SR G l Z J s){op:oz}{a b:AV}{c d:Value}(r:ad G s.heap Z a c)(r':ad G s.heap Z b d)(hu:A.units+200<cLine){K:KV}(h:∃k,eQ J op a b k/\K (.bool k) J){Q:Value->Shared->Prop}(q:VP G l Z s.heap K Q):wpAny G.M A (compareOp (yR op) c d) Q E s:=
 h.elim λk p=>p.1.at ok R hu c d r r' E Q λt=>q.post p.2 (aT.here (v:=.bool k) R rfl t)
theorem nb{op:oz}{a b:PE}(hA:A.handled=QE\/bA (.p op a b)=QI):(A.handled=QE\/bA a=QI)/\(A.handled=QE\/bA b=QI):=by
 rcases hA with h|h
 ·exact⟨.inl h,.inl h⟩
 ·cases op<;>first|exact⟨.inr (OD.mp h).1,.inr (OD.mp h).2⟩|exact ff h
theorem GQ(ok:jN G){op:oz}{a b:PE}(ha:aj G n F a)(hb:aj G n F b):aj G n F (.p op a b):=by
 intro sc Ov e U J K Er hc he A l env Z s Q E x hA q qe;refine gN (C:=λe=>wpAny _ _ (eval e env) _ _ _) hc λy os bs p hc=>cO (C:=λos=>wpAny _ _ (eval (.Compare y os bs p) env) _ _ _) hc λo hc=>cO (C:=λbs=>wpAny _ _ (eval (.Compare y [o] bs p) env) _ _ _) hc λz hc=>b4 hc λh1 h2 h3 h4=>?_
 (refine(Pl h1).symm▸?_)
 have hA:=nb hA;exact wpAny_Compare1 (ha h2 he x hA.1 (λv1 J1 μ1 c1 s1 he R1 st1 r1=>hb h3 he (x.next R1 st1) hA.2 (λv2 J2 Z2 c2 s2 he R2 st2 r2=>vZ ok R2 (ad.st st2 r1) r2 x.C.room he (q.tr (st1.trans st2))) (qe.tr st1)) qe) (l4 h4)
theorem CE.truth{Q:Bool->Shared->Prop}(q:CE G l Z s.heap K Q)(R:SR G l Z J s){v:AV}{c:Value}(r:ad G s.heap Z v c)(h:K v J):wpAny G.M A (PySem.truthy c) Q E s:=
 (q v J h).elim λu p=>truthy_sound R r p.1 λt=>p.2 Z _ (R.tok t) .refl
theorem GR(ok:jN G){op:oz}{a b:PE}(ha:aj G n F a)(hb:aj G n F b):bR G n F (.p op a b):=by
 intro sc Ov e U J K Er hc he A l env Z s Q E x hA q qe;refine gN (C:=λe=>wpAny _ _ (isTrue e env (eval e env)) _ _ _) hc λy os bs p hc=>cO (C:=λos=>wpAny _ _ (isTrue (.Compare y os bs p) env (eval (.Compare y os bs p) env)) _ _ _) hc λo hc=>cO (C:=λbs=>wpAny _ _ (isTrue (.Compare y [o] bs p) env (eval (.Compare y [o] bs p) env)) _ _ _) hc λz hc=>b4 hc λh1 h2 h3 h4=>?_
 (refine(Pl h1).symm▸?_)
 have hA:=nb hA;exact wpAny_isTrue_Compare1 (ha h2 he x hA.1 (λv1 J1 μ1 c1 s1 he R1 st1 r1=>hb h3 he (x.next R1 st1) hA.2 (λv2 J2 Z2 c2 s2 he R2 st2 r2=>vZ ok R2 (ad.st st2 r1) r2 x.C.room he (λv3 J3 Z3 c3 s3 k R3 st3 r3=>(q.tr ((st1.trans st2).trans st3)).truth R3 r3 k)) (qe.tr st1)) qe) (l4 h4)
theorem dD(hp:aj G n F p)(hs:∀sc Ov e,bg sc Ov p e=QI->∀env whole,isTrue e env whole=(do let v <-whole;standAt e.pos;holding [v] (PySem.truthy v))):bR G n F p:=by intro sc Ov e U J K Er hc he A l env Z s Q E x hA q qe;exact PyProof.Rows.isTrue_plain (hp hc he x hA (λv3 J3 Z3 c3 s3 k R3 st3 r3=>(q.tr st3).truth R3 r3 k) qe) (hs sc Ov e hc env _)
theorem GT{a:PE}(ha:aj G n F a):aj G n F (.n a):=by
 intro sc Ov e U J K Er hc he A l env Z s Q E x hA q qe;have hA:=bH hA rfl;refine jX (C:=λe=>wpAny _ _ (eval e env) _ _ _) hc λo y p hc=>b2 hc λh1 h2=>?_
 (refine(Pl h1).symm▸?_)
 exact PyProof.Rows.UnaryOp_ (ha h2 he x (.inl hA) (λv1 J1 μ1 c1 s1 he R1 st1 r1=>bN he λb hb he=>PyProof.Rows.not_of (truthy_sound R1 r1 hb λt=>(q.tr st1).tok he R1 rfl t)) qe)
theorem GU{a:PE}(ha:bR G n F a):bR G n F (.n a):=by
 intro sc Ov e U J K Er hc he A l env Z s Q E x hA q qe;have hA:=bH hA rfl;refine jX (C:=λe=>wpAny _ _ (isTrue e env (eval e env)) _ _ _) hc λo y p hc=>b2 hc λh1 h2=>?_
 (refine(Pl h1).symm▸?_)
 exact PyProof.Rows.isTrue_not (ha h2 he x (.inl hA) (λu J1 k=>bN k λb hb k=>⟨b,hb,(q _ J1 k).elim λb' p=>by cases p.1;exact p.2⟩) qe)
theorem Jo{t a b:PE}(ht:bR G n F t)(ha:aj G n F a)(hb:aj G n F b):aj G n F (.f t a b):=by
 intro sc Ov e U J K Er hc he A l env Z s Q E x hA q qe;have hA:=bH hA rfl;refine m8 (C:=λe=>wpAny _ _ (eval e env) _ _ _) hc λy1 y2 y3 p hc=>b3 hc λh1 h2 h3=>PyProof.Rows.IfExp_ (ht h1 he x (.inl hA) (.of λc J1 μ1 s1 k R1 st1=>?_) qe);cases c
 ·exact hb h3 k (x.next R1 st1) (.inl hA) (q.tr st1) (qe.tr st1)
 ·exact ha h2 k (x.next R1 st1) (.inl hA) (q.tr st1) (qe.tr st1)
noncomputable def j5 (b:Bool):BoolOp:=cond b .And .Or
theorem sD{x y:Prop}(h:cM b x y)(hb:b=QI):x:=by subst hb;exact h
theorem sE{x y:Prop}(h:cM b x y)(hb:b=QK):y:=by subst hb;exact h
theorem xp{y y2:Expr}{ys:List Expr}
  (h:wpAny M A (eval y env) (λv s1=>wpAny M A (PySem.truthy v) (λc s2=>cM (c==w) (wpAny M A (eval (.BoolOp (j5 w) (y2::ys) pos) env) Q E s2) (Q v s2)) E s1) E s):wpAny M A (eval (.BoolOp (j5 w) (y::y2::ys) pos) env) Q E s:=by
 cases w
 ·exact PyProof.Rows.BoolOp_or (Py h (λv s1 h1=>Py h1 (λc s2 h2=>by cases c<;>exact h2) λu u z=>z) λu u z=>z)
 ·exact PyProof.Rows.BoolOp_and (Py h (λv s1 h1=>Py h1 (λc s2 h2=>by cases c<;>exact h2) λu u z=>z) λu u z=>z)
theorem lu(hA:A.handled=QE){Er:KE}{K:KV}{Q:Value->Shared->Prop}:∀(es:List PE) {xs:List Expr} {J:Hp} {Z:Mu} {s:Shared},(∀p∈es,aj G n F p)->
  bZ sc Ov es xs=QI->IJ F w es U J K Er->Ex G A l n env sc Ov U Z J s->VP G l Z s.heap K Q->EP G l Z s.heap Er E->wpAny G.M A (eval (.BoolOp (j5 w) xs pos) env) Q E s
 |[],_,_,_,_,_,_,he,_,_,_=>he.elim
 |[p],xs,J,Z,s,hp,hc,he,x,q,qe=>
  aI (C:=λxs=>wpAny _ _ (eval (.BoolOp (j5 w) xs pos) env) _ _ s) hc λy ys hc=>b3 hc λh1 u h3=>bB (C:=λys=>wpAny _ _ (eval (.BoolOp (j5 w) (y::ys) pos) env) _ _ s) h3 λu=>PyProof.Rows.BoolOp_one (hp p (.head _) h1 he x (.inl hA) q qe)
 |p::p2::ps,xs,J,Z,s,hp,hc,he,x,q,qe=>
  aI (C:=λxs=>wpAny _ _ (eval (.BoolOp (j5 w) xs pos) env) _ _ s) hc λy ys hc=>b3 hc λh1 u h3=>aI (C:=λys=>bZ sc Ov (p2::ps) ys=QI->wpAny _ _ (eval (.BoolOp (j5 w) (y::ys) pos) env) _ _ s) h3 (λy2 ys u h3=>
   xp (hp p (.head _) h1 he x (.inl hA) (λv1 J1 μ1 c1 s1 he R1 st1 r1=>bN he λb hb he=>truthy_sound R1 r1 hb λt=>by
    cases hbw:b==w
    ·exact(q.tr st1).tok (sE he hbw) R1 r1 t
    ·exact lu hA (p2::ps) (λp' h'=>hp p' (.tail _ h')) h3 (sD he hbw) (x.next (s':={s1 with toks:=t}) (R1.tok t) st1) (q.tr st1) (qe.tr st1)) qe)) h3
theorem pw{y:Expr}{ys:List Expr}{whole:Sem Value}{Q:Bool->Shared->Prop}
  (h:wpAny M A (isTrue y env (eval y env)) (λc s2=>cM (c==w) (wpAny M A (isTrue (.BoolOp (j5 w) ys pos) env whole) Q E s2) (Q c s2)) E s):wpAny M A (isTrue (.BoolOp (j5 w) (y::ys) pos) env whole) Q E s:=by
 cases w
 ·exact PyProof.Rows.isTrue_or (Py h (λc s2 h2=>by cases c<;>exact h2) λu u z=>z)
 ·exact PyProof.Rows.isTrue_and (Py h (λc s2 h2=>by cases c<;>exact h2) λu u z=>z)
theorem za{whole:Sem Value}{Q:Bool->Shared->Prop}(h:Q w s):wpAny M A (isTrue (.BoolOp (j5 w) [] pos) env whole) Q E s:=by
 cases w
 ·exact PyProof.Rows.isTrue_or_nil h
 ·exact PyProof.Rows.isTrue_and_nil h
theorem jD{whole:Sem Value}(hA:A.handled=QE){Er:KE}{K:KV}{Q:Bool->Shared->Prop}:∀(es:List PE) {xs:List Expr} {J:Hp} {Z:Mu} {s:Shared},(∀p∈es,bR G n F p)->
  bZ sc Ov es xs=QI->IJ F w es U J K Er->Ex G A l n env sc Ov U Z J s->CE G l Z s.heap K Q->EP G l Z s.heap Er E->wpAny G.M A (isTrue (.BoolOp (j5 w) xs pos) env whole) Q E s
 |[],_,_,_,_,_,_,he,_,_,_=>he.elim
 |[p],xs,J,Z,s,hp,hc,he,x,q,qe=>
  aI (C:=λxs=>wpAny _ _ (isTrue (.BoolOp (j5 w) xs pos) env whole) _ _ s) hc λy ys hc=>b3 hc λh1 u h3=>bB (C:=λys=>wpAny _ _ (isTrue (.BoolOp (j5 w) (y::ys) pos) env whole) _ _ s) h3 λu=>
   pw (hp p (.head _) h1 he x (.inl hA) (λv J1 k=>(q v J1 k).elim λb p=>⟨b,p.1,λμ1 s1 R1 st1=>by
    have z:=p.2 μ1 s1 R1 st1;cases hbw:b==w
    ·exact z
    ·rw[Pl hbw] at z;exact za z⟩) qe)
 |p::p2::ps,xs,J,Z,s,hp,hc,he,x,q,qe=>
  aI (C:=λxs=>wpAny _ _ (isTrue (.BoolOp (j5 w) xs pos) env whole) _ _ s) hc λy ys hc=>b3 hc λh1 u h3=>
   pw (hp p (.head _) h1 he x (.inl hA) (λv J1 k=>bN k λb hb k=>⟨b,hb,λμ1 s1 R1 st1=>by
    cases hbw:b==w
    ·exact(q v J1 (sE k hbw)).elim λb' p=>by rw[hb] at p;cases p.1;exact p.2 μ1 s1 R1 st1
    ·exact jD hA (p2::ps) (λp' h'=>hp p' (.tail _ h')) h3 (sD k hbw) (x.next R1 st1) (q.tr st1) (qe.tr st1)⟩) qe)
theorem GV(hp:∀p∈es,aj G n F p):aj G n F (.d es):=by intro sc Ov e U J K Er hc he A l env Z s Q E x hA q qe;exact fP (C:=λe=>wpAny _ _ (eval e env) _ _ _) hc λo xs p hc=>b2 hc λh1 h2=>(Pl h1).symm▸(lu (w:=QI) (bH hA rfl) es hp h2 he x q qe)
theorem Jp(hp:∀p∈es,aj G n F p):aj G n F (.o es):=by intro sc Ov e U J K Er hc he A l env Z s Q E x hA q qe;exact fP (C:=λe=>wpAny _ _ (eval e env) _ _ _) hc λo xs p hc=>b2 hc λh1 h2=>(Pl h1).symm▸(lu (w:=QK) (bH hA rfl) es hp h2 he x q qe)
theorem GW(hp:∀p∈es,bR G n F p):bR G n F (.d es):=by intro sc Ov e U J K Er hc he A l env Z s Q E x hA q qe;exact fP (C:=λe=>wpAny _ _ (isTrue e env (eval e env)) _ _ _) hc λo xs p hc=>b2 hc λh1 h2=>(Pl h1).symm▸(jD (w:=QI) (bH hA rfl) es hp h2 he x q qe)
theorem Jq(hp:∀p∈es,bR G n F p):bR G n F (.o es):=by intro sc Ov e U J K Er hc he A l env Z s Q E x hA q qe;exact fP (C:=λe=>wpAny _ _ (isTrue e env (eval e env)) _ _ _) hc λo xs p hc=>b2 hc λh1 h2=>(Pl h1).symm▸(jD (w:=QK) (bH hA rfl) es hp h2 he x q qe)
theorem CH{o:Expr}{whole:Sem Value}(hb:na o=QI):attributeBase o name env whole=whole:=by
 cases o with
 |Call f as ks p=>cases f with
  |Name=>cases as with
   |nil=>exact ff hb
   |cons=>rfl
  |_=>rfl
 |_=>rfl
theorem fg{o:Expr}{whole:Sem Value}(hb:na o=QI)(h:wpAny M A whole Q E s):wpAny M A (attributeBase o name env whole) Q E s:=(CH hb).symm▸h
theorem v5{prog:Program}{w:PySem.World}{value slice:Expr}{o i:Value}{Ty id:String}(hT:s.TypeIs o Ty)
  (hl:typeLookup (.type Ty) "__getitem__"=pure (QA (.builtin id))) (h:wpAny (model prog w) A (getItem o i) Q E s)
  (hs:∃vs,subscripted slice QK o i=operate vs (getItem o i)):wpAny (model prog w) A (PyProof.Rows.subscriptTail value slice o i) Q E s:=by
 obtain⟨vs,hs⟩:=hs;unfold PyProof.Rows.subscriptTail;refine Pf ?_;rw[getitemInPython_of_ne hT.not_modules];refine Pf (wpAny_specialOf hT hl ?_);have fin:wpAny (model prog w) A (subscripted slice QK o i) (λr s₃=>wpAny (model prog w) A (letTemporaryGo value o r >>= λu=>pure r) Q E s₃) E s:=by rw[hs];exact wpAny_operating (Py h (λr s₃ h₃=>Pf (wpAny_letTemporaryGo (Ph h₃))) λu u x=>x)
 first
  |exact Ph (Pf fin)
  |exact Pf (Ph (Pf fin))
  |exact Pf fin
def lw(s:Shared)(c:Value):Prop:=∃Ty id,s.TypeIs c Ty/\typeLookup (.type Ty) "__getitem__"=pure (QA (.builtin id))
theorem zb(R:SR G l Z J s){a b v:AV}(e:mT J a b v):∀c:Value,ad G s.heap Z a c->lw s c:=
 mT.rec (motive:=λa b v u=>∀c:Value,ad G s.heap Z a c->lw s c)
  (λvs n v u c r=>lb (C:=lw s) r λx items ht u u=>ht.elim λn ht=>⟨"tuple",_,⟨_,ht,rfl⟩,PyProof.Rows.slot_tuple_getitem.lookup⟩)
  (λa vs n v e u c r=>jT (C:=lw s) R r e λx items hl u=>hl.elim λo p=>⟨"list",_,⟨o,p.1,p.2.1⟩,slot_list_getitem.lookup⟩)
  (λx n ch u c r=>cJ (C:=lw s) r λt=>⟨"str",_,rfl,PyProof.Rows.slot_str_getitem.lookup⟩)
  (λj es y v hv u c r=>jy (C:=lw s) r λx d hk=>by obtain⟨rfl,_,kvs,hd,_⟩:=R.objs _ _ _ _ hv hk;exact⟨"dict",_,hd.typeIs,PySem.slot_dict_getitem.lookup⟩) e
theorem zc{a i:PE}(ha:aj G n F a)(hi:aj G n F i):aj G n F (.sub a i):=by intro sc Ov e U J K Er hc he A l env Z s Q E x hA q qe;have hA:=bH hA rfl;refine b9 (C:=λe=>wpAny _ _ (eval e env) _ _ _) hc λy z p hc=>b3 hc λh1 h2 h3=>PyProof.Rows.Subscript_ (ha h1 he x (.inl hA) (λv1 J1 μ1 c1 s1 he R1 st1 r1=>hi h2 he (x.next R1 st1) (.inl hA) (λv2 J2 Z2 c2 s2 he R2 st2 r2=>he.elim λv he=>?_) (qe.tr st1)) qe);have r1:=ad.st st2 r1;refine(zb R2 he.1 _ r1).elim λTy p=>p.elim λid p=>v5 p.1 p.2 (he.1.at R2 _ _ r1 r2 E _ λu u z=>(q.tr (st1.trans st2)).post he.2 z) ⟨[c1,c2],?_⟩;have:=(fR h3).2.2;clear h1 h2 h3 he p q qe;cases z<;>first|rfl|exact absurd rfl this
theorem nf{p:Option PE}(hp:∀p',p=QA p'->aj G n F p'){e:Option Expr}(hc:GN sc Ov p e=QI){K:KV}{Er:KE}(he:LD F p U J K Er){Q:Value->Shared->Prop}
  (x:Ex G A l n env sc Ov U Z J s) (hA:A.handled=QE) (q:VP G l Z s.heap K Q) (qe:EP G l Z s.heap Er E):wpAny G.M A (evalPart e env) Q E s:=by
 cases p with
 |none=>exact dR (C:=λe=>wpAny _ _ (evalPart e env) _ _ _) hc λu=>evalPart_none_step (q.now he x.R rfl)
 |some p=>exact dj (C:=λe=>wpAny _ _ (evalPart e env) _ _ _) hc λe hc=>evalPart_some_step (hp p rfl hc he x (.inl hA) q qe)
theorem sF{a:PE}{lo hi:Option PE}(ha:aj G n F a)(hlo:∀p',lo=QA p'->aj G n F p')(hhi:∀p',hi=QA p'->aj G n F p'):aj G n F (.slice a lo hi):=by
 intro sc Ov e U J K Er hc he A l env Z s Q E x hA q qe;have hA:=bH hA rfl;refine b9 (C:=λe=>wpAny _ _ (eval e env) _ _ _) hc λy z p hc=>uH (C:=λz=>wpAny _ _ (eval (.Subscript y z p) env) _ _ _) hc λz1 z2 z3 p2 hc=>dR (C:=λz3=>wpAny _ _ (eval (.Subscript y (.Slice z1 z2 z3 p2) p) env) _ _ _) hc λhc=>b3 hc λh1 h2 h3=>?_;refine PyProof.Rows.Subscript_ (ha h1 he x (.inl hA) (λv1 J1 μ1 c1 s1 he R1 st1 r1=>wpAny_Slice (nf hlo h2 he (x.next R1 st1) hA (λv2 J2 Z2 c2 s2 he R2 st2 r2=>nf hhi h3 he ((x.next R1 st1).next R2 st2) hA (λv3 J3 Z3 c3 s3 he R3 st3 r3=>evalPart_none_step (he.elim λv he=>?_)) ((qe.tr st1).tr st2)) (qe.tr st1))) qe)
 have q:=((q.tr st1).tr st2).tr st3;have r1:=ad.st st3 (ad.st st2 r1);have r2:=ad.st st3 r2;clear h1 h2 h3 qe;revert r1 r2 r3 q;refine fW.rec (motive:=λa lo hi v u=>K v J3->ad G s3.heap Z3 hi c3->VP G l Z3 s3.heap K Q->ad G s3.heap Z3 a c1->ad G s3.heap Z3 lo c2->wpAny G.M A (PyProof.Rows.subscriptTail y (Expr.Slice z1 z2 QE p2) c1 (Value.ref s3.heap.objs.size)) Q E {s3 with heap:=s3.heap.push {cls:=Value.type "slice",data:=Data.fields #[c2,c3,Value.none]}}) (λsx i j hk r3 q r1 r2=>?_) he.1 he.2;obtain⟨ti,rfl⟩:=r2;obtain⟨tj,rfl⟩:=r3;have k:∀b o,s3.heap.get? b=QA o->(s3.heap.push {cls:=.type "slice",data:=.fields #[.int i ti,.int j tj,.none]}).get? b=QA o:=λb o e=>OH _ e;have R':=R3.more k (by simp) s3.toks;have hs:(s3.heap.push {cls:=.type "slice",data:=.fields #[.int i ti,.int j tj,.none]}).IsSlice s3.heap.objs.size (QA ((i:Int),ti)) (QA ((j:Int),tj)) QE:=⟨_,OS _ rfl,rfl,rfl⟩;obtain⟨hl,t,rfl⟩:=r1;exact v5 (Ty:="str") rfl PyProof.Rows.slot_str_getitem.lookup (mY (x:=sx) R'.1 ⟨hl,t,rfl⟩ hs E _ λc s' p=>(q.tr R'.2).post hk p) ⟨_,rfl⟩
theorem v6(ok:jN G)(NO:aQ G){a:PE}{f:Nat}(ha:aj G n F a):aj G n F (.attr a f):=by
 intro sc Ov e U J K Er hc he A l env Z s Q E x hA q qe;refine aX (C:=λe=>wpAny _ _ (eval e env) _ _ _) hc λy nm p hc=>b3 hc λh1 h2 h3=>?_;have hf:=NO.attr _ _ (Pl h3)
 ((refine hf.2▸?_;refine(arm_eval_Attribute ..).symm▸?_))
 refine Pf (fg h2 (ha h1 he x hA (λv1 J1 μ1 c1 s1 he R1 st1 r1=>Pf (Pj (Pf (Pi (he.elim λv he=>he.1.at ok R1 hf.1 _ _ r1 E _ λc s' p=>Pf (wpAny_letTemporaryGo (Ph ((q.tr st1).post he.2 p)))))))) qe))
theorem cE(hp:cu G n F ps){xs:List Expr}(hc:bZ sc Ov ps xs=QI){K:KL}{Er:KE}(he:jj F ps U J K Er)
  {Q:Args->Shared->Prop} {pos:Pos} {fv:Value} (x:Ex G A l n env sc Ov U Z J s) (hA:A.handled=QE) (q:Nj G l Z s.heap ps.length K λcs s'=>Q ⟨cs,[]⟩ s') (qe:EP G l Z s.heap Er E):
  wpAny G.M A (evalArgs fv QI (backTo pos (starEach xs env)) []) Q E s:=by
 cases ps with
 |nil=>exact bB (C:=λxs=>wpAny _ _ (evalArgs fv QI (backTo pos (starEach xs env)) []) _ _ _) hc λu=>PyProof.Rows.evalArgs_none (q _ _ _ _ _ he x.R .refl af.nil rfl)
 |cons p ps=>refine aI (C:=λxs=>bZ sc Ov (p::ps) xs=QI->wpAny _ _ (evalArgs fv QI (backTo pos (starEach xs env)) []) _ _ _) hc (λy ys hc hc'=>b3 hc λu h2 u=>?_) hc;have z:=hp (pos:=pos) hc' he x hA q qe;rw[bI h2] at z ⊢;exact Qu z
theorem dU{xs:List Expr}(hc:bZ sc Ov ps xs=QI):((backTo pos (starEach xs env)).any (·.1)||([]:List (Option Str×Sem Value)).any (·.1.isNone))=QK:=by
 (refine(ga hc).symm▸?_);rfl
theorem v7(ok:jN G)(NO:aQ G)(hF:iD G n F){f:Nat}{as:List PE}(has:cu G n F as):aj G n F (.call f as):=by
 intro sc Ov e U J K Er hc he A l env Z s Q E x hA q qe;have hA:=bH hA rfl;refine sw (C:=λe=>wpAny _ _ (eval e env) _ _ _) hc λy p xs pos hc=>b5 hc λh1 h2 h3 h4 h5=>?_;have hn:=NO.fn _ _ (Pl h1) (bne_iff_ne.mp h2);exact Qv (cK NO x.R x.V h3 hn.2.1 (Qt (P:=G.K.In) (dU h4) (keeps_K hn.2.2) (cE has h4 he x hA (λvs J1 μ1 cs s1 he R1 st1 r1 u=>⟨ok.kin.keeps R1.stays,wpAny_call (hF f vs J1 _ _ he hn.1 A l μ1 s1 _ R1 x.C.y hA r1 Q E (q.tr st1) (qe.tr st1))⟩) qe)))
theorem i7:∀{es:List PE} {xs:List Expr},bZ sc Ov es xs=QI->xs.length=es.length
 |[],_,h=>bB (C:=λxs=>xs.length=0) h λu=>rfl
 |_::es,_,h=>aI (C:=λxs=>xs.length=es.length+1) h λu u h=>b3 h λu u h=>PK (·+1) (i7 h)
theorem l7{o:Expr}{apos:Pos}{ov:Value}{xs:List Expr}(hc:bZ sc Ov ps xs=QI)(hl:ps.length<=20)(hline:apos.endLine=pos.line)
  (h:wpAny M A (getMethod ov name (do return (<-importBound o env).getD QI)) (λr s1=>wpAny M A (callWith pos r.1 r.2 (backTo pos (starEach xs env)) []) Q E s1) E s):
  wpAny M A (methodCall o name apos pos env ov (xs.length+([]:List Keyword).length) (backTo pos (starEach xs env)) (backToKw pos (keywordEach [] env))) Q E s:=by
 have hform:methodCallForm (xs.length+([]:List Keyword).length) (backTo pos (starEach xs env)) (backToKw pos (keywordEach [] env))=QI:=by
  unfold methodCallForm;have h1:(backTo pos (starEach xs env)).all (λx=> !x.1)=QI:=by have:=ga (env:=env) (pos:=pos) hc;refine(List.all_eq_not_any_not ..).trans ?_;simpa using this
  ((refine h1.symm▸?_;refine(i7 hc).symm▸?_))
  show(QI&&QI&&decide (ps.length+0+0<30))=QI;simp;exact OI ‹_› dc
 have hpos:methodCallPos QI o env apos pos=pure pos:=by unfold methodCallPos;simp[hline]
 unfold methodCall
 (refine hform.symm▸?_)
 refine Pf (Pi ?_);exact Py h (λr s1 h1=>Pf (wpAny_of_eq hpos h1)) λu u z=>z
theorem xq{k:Nat->Nat->List (Nat×AV)->Prop}(h:vT J v k)(f:∀j c fs,v=.obj j->J[j]?=QA (.inst c fs)->k j c fs->C):C:=eK h f
theorem v8(ok:jN G)(NO:aQ G)(hF:iD G n F){a:PE}{m:Nat}{as:List PE}(ha:aj G n F a)(has:cu G n F as):aj G n F (.meth a m as):=by
 intro sc Ov e U J K Er hc he A l env Z s Q E x hA q qe;have hA:=bH hA rfl;refine Fq (C:=λe=>wpAny _ _ (eval e env) _ _ _) hc λo nm apos xs pos hc=>b6 hc λh1 h2 h3 h4 h5 h6=>?_;have hm:=NO.attr _ _ (Pl h4)
 ((refine hm.2▸?_;refine(arm_eval_Call ..).symm▸?_))
 refine Pf (fg h2 (ha h1 he x (.inl hA) (λv1 J1 μ1 c1 s1 he R1 st1 r1=>Pf (Pj (xq he λk cn fs e0 hk he1=>bN he1 λf hf he2=>?_))) qe));subst e0;have hf':=(NO.meth _ _ _ hf);refine(uC R1 r1 hk).elim λx' p=>p.elim λd p=>p.elim λox p=>p.elim λes p=>p.elim λn' p=>?_;have C:=ok.cls cn p.2.2.1;have ca:=C.attr m hm.1;rw[hf] at ca;have X:=ok.kin.keeps R1.stays;have hg:=plainGet_of C.get
 (refine p.1.symm▸?_)
 refine l7 h5 (Pm h6) (Pl h3) (method_fn X p.2.2.2.2.2.2.1 hg.1 hg.2 ca.1 ca.2 ?_ ?_)
 ·show(lookIn (G.attr m) (dictOf es n')).map (·.isSome)=QA QK;have fr:=p.2.2.2.2.2.2.2.2.2.2.1 m hm.1;rw[he2.1] at fr
  ((refine(lookIn_dict ..).symm▸?_;refine fr.symm▸?_));rfl
 ·exact Qt (P:=G.K.In) (dU h5) (keeps_K hf'.2) (cE has h5 he2.2 (x.next R1 st1) hA (λvs J2 Z2 cs s2 he3 R2 st2 r2 u=>⟨ok.kin.keeps R2.stays,
   wpAny_call (hF f (.obj k::vs) J2 _ _ he3 hf'.1 A l Z2 s2 _ R2 x.C.y hA (af.cons (p.1▸ad.st st2 r1) r2) Q E (q.tr (st1.trans st2)) (qe.tr (st1.trans st2)))⟩) (qe.tr st1))
theorem SR.notAbove(R:SR G l Z J s){a:Addr}(ha:s.heap.objs.size<=a):a∉own Z:=by intro hm;refine ah λPG Ox=>?_;obtain⟨nq0,hp,rfl⟩:=Pa.mp hm;obtain⟨x',d'⟩:=nq0;obtain⟨i,hi,e⟩:=List.mem_iff_getElem.mp hp;exact ak (R.atμ (k:=i) (x:=x') (d:=d') (by simp[hi,e])) λo u ro=>aB ro.there λob z=>Ox (absurd (Pe z) (Pd.mpr ha))
theorem gR{C:Addr}{cs:List Value}:A.under (.builtin "type.__call__" ⟨.ref C::cs,[]⟩)={A with depth:=A.depth+1,units:=A.units+1}:=by
 have h1:(Code.builtin "type.__call__" ⟨.ref C::cs,[]⟩).weight=1:=by with_unfolding_all rfl
 have h2:(Code.builtin "type.__call__" ⟨.ref C::cs,[]⟩).cUnits=1:=by with_unfolding_all rfl
 have h3:(Code.builtin "type.__call__" ⟨.ref C::cs,[]⟩).envs=[]:=by with_unfolding_all rfl
 have h4:(Code.builtin "type.__call__" ⟨.ref C::cs,[]⟩).guards=[]:=by with_unfolding_all rfl
 unfold Around.under
 ((refine h1.symm▸?_;refine h2.symm▸?_;refine h3.symm▸?_;refine h4.symm▸?_))
 rfl
theorem CI(R:SR G l Z J s){c:Nat}(hc:c<G.nC)(t:Nat):
  SR G l (Z++[(s.heap.objs.size+1,s.heap.objs.size)]) (J++[.inst c []]) {s with heap:=(s.heap.push emptyDict).push (instObj (G.cls c) s.heap.objs.size),toks:=t}/\
   au [] [G.tab] Z s.heap (Z++[(s.heap.objs.size+1,s.heap.objs.size)]) ((s.heap.push emptyDict).push (instObj (G.cls c) s.heap.objs.size)):=by
 have k:∀b o,s.heap.get? b=QA o->((s.heap.push emptyDict).push (instObj (G.cls c) s.heap.objs.size)).get? b=QA o:=λb o e=>OH _ (OH _ e);have hx:((s.heap.push emptyDict).push (instObj (G.cls c) s.heap.objs.size)).get? (s.heap.objs.size+1)=QA (instObj (G.cls c) s.heap.objs.size):=by
  have:=OS (s.heap.push emptyDict) (o:=instObj (G.cls c) s.heap.objs.size) rfl
  rwa [Qi] at this
 refine R.grow k (by simp only[Qi];exact Nat.le_succ_of_le (PR _)) (OX _) (x:=s.heap.objs.size+1) (ob:=.inst c []) ⟨?_,hc,⟨_,hx,rfl,rfl,rfl⟩,O3 _,[],0,OH _ (OS _ rfl),OX _,(λu q=>nomatch q),λf hf=>?_⟩ t
 ·simp only[own,PN,PO,List.map_nil,OL,OF,not_or];refine⟨R.notAbove (PR _),?_⟩;simp
 ·have:aR f []=QE:=rfl;rfl
theorem zd(ok:jN G)(NO:aQ G)(hF:iD G n F){c:Nat}{as:List PE}(has:cu G n F as):aj G n F (.new c as):=by
 intro sc Ov e U J K Er hc he A l env Z s Q E x hA q qe;have hA:=bH hA rfl;refine sw (C:=λe=>wpAny _ _ (eval e env) _ _ _) hc λy p xs pos hc=>b5 hc λh1 h2 h3 h4 h5=>?_;have hn:=NO.cls _ _ (Pl h1);have hcn:c<G.nC:=NO.nC▸Pm h2;have mk:=NO.make c hcn;refine Qv (cK NO x.R x.V h3 hn.2.1 (Qt (P:=G.K.In) (dU h4) (keeps_K hn.2.2) (cE has h4 he x hA (λvs J1 μ1 cs s1 he1 R1 st1 r1 hl=>⟨ok.kin.keeps R1.stays,wpAny_call ?_⟩) qe)));have Xk:=ok.kin.keeps R1.stays;have R2:=CI R1 hcn s1.toks;have q:=q.tr st1;have qe:=qe.tr st1;cases hi:Pg.init c with
 |none=>
  rw[hi] at he1 mk;obtain⟨rfl,he1⟩:=he1;subst r1;obtain⟨hh,g,d,t,os⟩:=s1;show codeAny G.M A (.call (.ref (G.cls c)) ⟨[],[]⟩) _ _;refine make_core (makes_of Xk mk.1) (looks_findIn Xk mk.2) (λself=>Looks.of_pure (oi_bind self)) (.inr ⟨rfl,rfl⟩) ?_;have hx:((hh.push emptyDict).push (instObj (G.cls c) hh.objs.size)).get? (hh.objs.size+1)=QA (instObj (G.cls c) hh.objs.size):=by
   have:=OS (hh.push emptyDict) (o:=instObj (G.cls c) hh.objs.size) rfl
   rwa [Qi] at this
  have t1:Looks G.M ((hh.push emptyDict).push (instObj (G.cls c) hh.objs.size)) (typeOf (.ref (hh.objs.size+1))) (.ref (G.cls c)):=(Looks.ld hx).andThen .now;have t2:Looks G.M ((hh.push emptyDict).push (instObj (G.cls c) hh.objs.size)) (isInstance (.ref (hh.objs.size+1)) (.type "object")) QI:=t1.andThen ((makes_of Xk mk.1).top.keeps λb o e=>OH _ (OH _ e));have z:=q _ _ _ (.ref (hh.objs.size+1)) _ he1 R2.1 R2.2 ⟨hh.objs.size+1,hh.objs.size,rfl,by(refine(R1.len ..)▸?_);simp⟩;refine Qs oi_plain entry_oi (@check_slot G.M _ _ _ "object.__init__" "object" "__init__" (.ref (hh.objs.size+1)) [] [] _ oi_kind oi_split t2 (oi_args (.ref (hh.objs.size+1))) ?_);rw[oi_run];exact Ph (And.intro rfl z)
 |some f=>
  rw[hi] at he1 mk;refine ah λPG Ox=>?_;obtain⟨hw,hf1,hf2⟩:=mk.2;obtain⟨hh,g,d,t,os⟩:=s1;refine Ox (make_core (makes_of Xk mk.1) (looks_findIn Xk hf1) (λself=>bind_fn Xk self hf2) (.inl rfl) ?_);have hnew:ad G ((hh.push emptyDict).push (instObj (G.cls c) hh.objs.size)) (μ1++[(hh.objs.size+1,hh.objs.size)]) (.obj J1.length) (.ref (hh.objs.size+1)):=⟨hh.objs.size+1,hh.objs.size,rfl,by(refine(R1.len ..)▸?_);simp⟩;have Cy':Cy (A.under (.builtin "type.__call__" ⟨.ref (G.cls c)::cs,[]⟩)) l n:=by have hd:=x.C.depth;have hu:=x.C.units;exact⟨x.C.frames,by(refine(gR ..).symm▸?_);show A.depth+1+4*n+8<_;exact OI (OK (Ql (PK (·+8) (O7 _ 1 _))) (PR _)) hd,by(refine(gR ..).symm▸?_);show A.units+1+60*n+560<_;exact OI (OK (Ql (PK (·+560) (O7 _ 1 _))) (O4 (by decide:561<=600) _)) hu⟩
  refine codeAny_mono (hF f _ _ _ _ he1 hw (A.under (.builtin "type.__call__" ⟨.ref (G.cls c)::cs,[]⟩)) l _ _ (.ref (hh.objs.size+1)::cs) R2.1 Cy' hA (af.cons hnew (af.st R2.2 r1))
    (λc s'=>c=.none/\Q (.ref (hh.objs.size+1)) s') E (λv J2 Z3 c3 s3 k R3 st3 r3=>?_) (qe.tr R2.2)) λr s' z=>?_
  ·cases v<;>try exact k.elim
   exact⟨r3,(q.tr R2.2) _ _ _ _ _ k R3 st3 (ad.st st3 hnew)⟩
  ·rcases r with e|(v|_|_|_)<;>first|exact z|exact z.elim
noncomputable def fh:Bf->Value
 |.len=>.builtin "len"|.str=>.type "str"|.int=>.type "int"|.setOf=>.type "set"|.set0=>.type "set"|.listOf=>.type "list"|.tupleOf=>.type "tuple"
theorem qr(h:k<=aE):(k:Int)<2 ^ 63:=by unfold aE at h;omega
theorem rs1{C:List Value->Prop}{cs:List Value}(r:af G h Z [v] cs)(k:∀c,ad G h Z v c->C [c]):C cs:=qh (C:=C) r λc cs r1 r2=>lV (C:=λcs=>C (c::cs)) r2 (k c r1)
abbrev Fs(G:Wd)(A:Around)(l:List Env)(Z:Mu)(J:Hp)(s:Shared)(n:Nat)(c:Value):Prop:=ay G A l Z s (call (.builtin "len") [c]) (.int n) J
theorem mA(R:SR G l Z J s)(n:Nat){Q:Value->Shared->Prop}(hQ:∀c s',aT G l Z s.heap (.int n) J c s'->Q c s'){m:Nat}(e:m=n):Q (.int m (s.toks+1)) {s with toks:=s.toks+1+1}:=by subst e;exact hQ _ _ (aT.here (v:=.int m) R ⟨_,rfl⟩ _)
theorem CJ(R:SR G l Z J s){x:List Nat}{c:Value}(r:ad G s.heap Z (.str x) c):Fs G A l Z J s x.length c:=
 cJ (C:=λc=>x.length<=aE->Fs G A l Z J s x.length c) r (λt hl E Q hQ=>P.len_str (by rw[aM];have:=qr hl;exact Int.not_le.mpr this) (mA R _ hQ (aM x))) r.1
theorem CK(R:SR G l Z J s){vs:List AV}{c:Value}(r:ad G s.heap Z (.tup vs) c):Fs G A l Z J s vs.length c:=
 lb (C:=λc=>vs.length<=aE->Fs G A l Z J s vs.length c) r (λx items ht u rs hl E Q hQ=>by
  have OB:items.size=vs.length:=by exact Qg.symm.trans rs.length
  exact PyProof.Rows.len_tuple ht.isTuple (by rw[OB];exact qr hl) (mA R _ hQ OB)) r.1
theorem CL(R:SR G l Z J s){a:AV}{vs:List AV}(e:du J a=QA vs){c:Value}(r:ad G s.heap Z a c):Fs G A l Z J s vs.length c:=
 jT (C:=λc=>Fs G A l Z J s vs.length c) R r e (λx items ha rs E Q hQ=>by
  have OB:items.size=vs.length:=by exact Qg.symm.trans rs.length
  exact Calls.call_len_list ha (by rw[OB];exact qr (mX R r e)) (mA R _ hQ OB))
theorem CM(R:SR G l Z J s){k:Nat}{ss:List (List Nat)}(hv:J[k]?=QA (.sset ss)){c:Value}(r:ad G s.heap Z (.obj k) c):Fs G A l Z J s ss.length c:=
 jy (C:=λc=>Fs G A l Z J s ss.length c) r (λx d hk E Q hQ=>by refine ah λPG Ox=>?_;obtain⟨rfl,hl,o,es,ep,t,h1,h2,h3,h4,h5,h6,h7,h8⟩:=R.objs _ _ _ _ hv hk;refine Ox ?_;exact call_len_set h1 h2 h3 h7 (by rw[h8];omega) (mA R _ hQ h8))
theorem sG(x:String):Str.ofString x=St (x.toList.map Char.toNat):=by refine(Str.ofString_eq_toList ..).trans ?_;rfl
theorem xr{i:Int}(h:fN i=QI):i.natAbs.log2<62:=by
 simp only[fN,Qh,decide_eq_true_eq] at h;by_cases h0:i.natAbs=0
 ·rw[h0];decide
 ·exact(Nat.log2_lt h0).mpr (by omega)
theorem CN(R:SR G l Z J s){x:List Nat}{c:Value}(r:ad G s.heap Z (.str x) c):ay G A l Z s (call (.type "str") [c]) (.str x) J:=
 cJ (C:=λc=>ad G s.heap Z (.str x) c->ay G A l Z s (call (.type "str") [c]) (.str x) J) r (λt r E Q hQ=>P.str_of_str (hQ _ _ (aT.now (v:=.str x) R r))) r
theorem str_int(R:SR G l Z J s){i:Int}(hs:fN i=QI){c:Value}(r:ad G s.heap Z (.int i) c):ay G A l Z s (call (.type "str") [c]) (.str (am i)) J:=
 eU (C:=λc=>ay G A l Z s (call (.type "str") [c]) (.str (am i)) J) r (λt E Q hQ=>by have hlog:=xr hs;refine P.str_of_int (OV ‹_› (PV _ _)) ?_;rw[sG];refine hQ _ _ (aT.here (v:=.str (am i)) R ⟨?_,_,rfl⟩ _);have:=int_text_length_le (k:=62) dc hlog;unfold am;rw[P9];rw[<-String.length_toList] at this;exact OK this dc)
theorem ze(R:SR G l Z J s){b:Bool}{c:Value}(r:ad G s.heap Z (.bool b) c):ay G A l Z s (call (.type "str") [c]) (.str (if b=QI then[84,114,117,101] else[70,97,108,115,101])) J:=
 jm (C:=λc=>ay G A l Z s (call (.type "str") [c]) (.str (if b=QI then[84,114,117,101] else[70,97,108,115,101])) J) r (λE Q hQ=>by
  refine P.str_of_bool ?_;have:(if b=QI then("True":Str) else("False":Str))=St (if b=QI then[84,114,117,101] else[70,97,108,115,101]):=by cases b<;>decide+kernel
  (refine this.symm▸?_)
  exact hQ _ _ (aT.here (v:=.str _) R ⟨by cases b<;>decide,_,rfl⟩ _))
theorem CP(R:SR G l Z J s){x:List Nat}(h1:x.all eZ=QI)(h2:x≠[])(h3:x.length<=100){c:Value}(r:ad G s.heap Z (.str x) c):ay G A l Z s (call (.type "int") [c]) (.int (iz x)) J:=
 cJ (C:=λc=>ay G A l Z s (call (.type "int") [c]) (.int (iz x)) J) r (λt E Q hQ=>by
   have hall:NumText.AllDigits x:=λc hc=>by have:=O9.mp h1 c hc;simpa[eZ] using this
   have hd:=PySem.intText_digits (x:=St x) (by simpa[St] using hall) h2 (by rw[aM];exact OK ‹_› (PV _ _));exact KIN.call_text hd (by rw[aM];exact OK ‹_› (PV _ _)) (hQ _ _ (aT.here (v:=.int _) R ⟨_,rfl⟩ _)))
theorem ng(rs:af G h Z vs items.toList)(hl:vs.length<=aE):items.size<=sizeLine:=by
 ((refine(Qg ..)▸?_;refine rs.length.symm▸?_))
 exact OK hl dc
set_option tactic.hygienic true in
theorem iF(R:SR G l Z J s){a:AV}{c:Value}(r:ad G s.heap Z a c){vs:List AV}(e:b8 J a=QA vs):
  ∃p items o n,c=.ref p/\s.heap.get? p=QA o/\(o.cls=.type "tuple"/\(∃ws,a=.tup ws)\/o.cls=.type "list")/\o.data=.seq items n/\af G s.heap Z vs items.toList/\vs.length<=aE:=by
 cases a with
 |tup ws=>cases e;refine ah λPG Ox=>?_;obtain⟨hl,a,items,rfl,nq4,_,rs⟩:=r;exact aB nq4 λn ht=>Ox (⟨a,items,_,n,rfl,ht,.inl ⟨rfl,_,rfl⟩,rfl,rs,hl⟩)
 |flist ws=>cases e;refine ah λPG Ox=>?_;obtain⟨hl,a,items,rfl,nq4,rs⟩:=r;obtain⟨o,ho,hc,n,hd⟩:=nq4;exact Ox (⟨a,items,o,n,rfl,R.stays _ _ ho,.inr hc,hd,rs,hl⟩)
 |obj k=>refine ah λPG Ox=>?_;refine eX r λx d er2 hk=>?_;subst er2;refine Ox (ah λPG Ox=>?_);obtain⟨rfl,hl,items,nq3,rs⟩:=R.objs _ _ _ _ (fM e) hk;exact aB nq3 λn ha=>Ox (⟨x,items,_,n,rfl,ha,.inr rfl,rfl,rs,hl⟩)
 |_=>exact nn e
theorem xt(R:SR G l Z J s){a:AV}{vs:List AV}(hv:b8 J a=QA vs){c:Value}(r:ad G s.heap Z a c):ay G A l Z s (call (.type "list") [c]) (.obj J.length) (J++[.list vs]):=λE Q hQ=>by
  refine ah λPG Ox=>?_;refine rY (iF R r hv) λp items o n er4 ho hc hd rs hl=>?_;subst er4;refine Ox (call_list_seq p (T:=if o.cls=.type "tuple" then "tuple" else "list") (o:=o) (items:=items) (n:=n) ?_ ho ?_ hd (λh' c' k hn=>?_) (ng rs hl))
  ·split<;>decide
  ·rcases hc with⟨hc,_⟩|hc<;>((refine hc.symm▸?_))<;>rfl
  ·have hs:s.heap.objs.size<=h'.objs.size:=Pc (Pe hn);have st:au [] [G.tab] Z s.heap (Z++[(s.heap.objs.size,s.heap.objs.size)]) h':=.add k (OX _);have z:=R.grow (x:=s.heap.objs.size) (d:=s.heap.objs.size) k hs (OX _) (ob:=.list vs) ⟨rfl,hl,items,⟨c',hn⟩,af.st st rs⟩ s.toks;exact hQ _ _ ⟨_,z.1,z.2,s.heap.objs.size,s.heap.objs.size,rfl,by(refine(R.len ..)▸?_);simp⟩
theorem CQ(R:SR G l Z J s):ay G A l Z s (call (.type "set") []) (.obj J.length) (J++[.sset []]):=λE Q hQ=>call_set_0 λled=>by
 have k:∀b o,s.heap.get? b=QA o->(s.heap.push {cls:=.type "set",dict:=QE,data:=.set #[] 0 (.fresh 0 0 led)}).get? b=QA o:=λb o e=>OH _ e;have hset:(s.heap.push {cls:=.type "set",dict:=QE,data:=.set #[] 0 (.fresh 0 0 led)}).SetOf (strKind G.prog G.w) s.heap.objs.size (λk=>([]:List (List Nat)).contains k.cps.toList) ([]:List (List Nat)).length:=
  PyProof.Rows.SetOf_congr ((PyProof.Rows.setObjOf_fresh (knd:=strKind G.prog G.w) led).setOf (OS _ rfl) (by unfold scanBound;exact PY _)) (λu=>rfl) rfl
 have z:=R.grow (x:=s.heap.objs.size) (d:=s.heap.objs.size) k (by simp) (OX _) (ob:=.sset []) ⟨rfl,by decide,hset⟩ s.toks;exact hQ _ _ ⟨_,z.1,z.2,s.heap.objs.size,s.heap.objs.size,rfl,by(refine(R.len ..)▸?_);simp⟩
theorem oF{prog:Program}{w:World}{Q:List Value->Shared->Prop}(it:Addr){o:Obj}{items:Array Value}{n:Nat}(ho:s.heap.get? it=QA o)(hc:o.cls=.type "list")(hd:o.data=.seq items n)
  (hQ:∀h',(∀b o',s.heap.get? b=QA o'->h'.get? b=QA o')->s.heap.objs.size<=h'.objs.size->Q items.toList {s with heap:=h'}) (hsz:items.size<=sizeLine):
  wpAny (model prog w) A (collect (.ref it)) Q E s:=by
 unfold collect;refine Pf (wpAny_runValue (codeAny_builtin PySem.F.entry_proto_collect ?_))
 (refine(Around.under_plainId PySem.F.plain_proto_collect _).symm▸?_)
 show wpAny _ A.in1 (PySem.newList [] >>= λl=>again (.builtin "list.__iadd__" ⟨[l,.ref it],[]⟩)) _ _ s;refine Pf (wpAny_newObj_type ?_);refine Ph ⟨plainId_quiet PySem.F.plain_list_iadd _,codeAny_builtin PySem.F.entry_list_iadd ?_⟩
 (refine(Around.under_plainId PySem.F.plain_list_iadd _).symm▸?_)
 have hS:(s.heap.push {cls:=.type "list",data:=.seq ([]:List Value).toArray}).get? s.heap.objs.size=QA {cls:=.type "list",data:=.seq #[] 0}:=OS _ rfl;have hS₂:=PH (Obj.mapSeq (·++items)) hS rfl;have fin':wpAny (model prog w) A (match Value.ref s.heap.objs.size with
   |Value.ref a=>do
    match(<-load a).data with
     |Data.seq xs _=>pure xs.toList
     |_=>unsupported "internal:collect"
   |_=>unsupported "internal:collect") Q E {s with heap:=(s.heap.push {cls:=.type "list",data:=.seq ([]:List Value).toArray}).update s.heap.objs.size (Obj.mapSeq (·++items))}:=by
  refine Pf (wpAny_load hS₂ (Ph ?_));have e:((#[]:Array Value)++items).toList=items.toList:=by simp
  show Q ((#[]:Array Value)++items).toList _;rw[e];exact hQ _ (λb o' hb=>(Heap.get?_update_other _ _ (PC (Pe hb))).trans (OH _ hb)) (Pc (Pe hS₂))
 refine Py (wpAny_extend_seq (hsz:=hsz) (A:=A) (R:=λr s'=>r=.ok (.ret (.ref s.heap.objs.size))/\s'={s with heap:=(s.heap.push {cls:=.type "list",data:=.seq ([]:List Value).toArray}).update s.heap.objs.size (Obj.mapSeq (·++items))})
  (s:={s with heap:=s.heap.push {cls:=.type "list",data:=.seq ([]:List Value).toArray}}) _ it _ 0 (.inl rfl) hS (OH _ ho) hc hd ⟨rfl,rfl⟩) (λfin s' h=>?_) (λe s' h=>?_)
 ·cases fin with
  |done f=>refine bj h λe er1=>?_;subst er1;cases e;exact fin'
  |again c'=>exact⟨h.1,codeAny_mono h.2 λr s'' hr=>by refine bj hr λer0 er1=>?_;subst er0;subst er1;exact fin'⟩
 ·exact absurd h.1 (by simp)
theorem nh(p:Addr)(o:Obj)(items:Array Value)(n:Nat)(hc:o.cls=.type "list")(hd:o.data=.seq items n)(hsz:items.size<=sizeLine):
  Meets (Builtin.«tuple.__new__» ⟨[.type "tuple",.ref p],[]⟩)
   (λu R s=>s.heap.get? p=QA o/\∀h':Heap,(∀b o',s.heap.get? b=QA o'->h'.get? b=QA o')->s.heap.objs.size<=h'.objs.size->R (.ok (.ret (.ref h'.objs.size))) {s with heap:=h'.push {cls:=.type "tuple",data:=.seq items}}):=
 .of_wp λprog w A R s h=>by
  refine ah λPG Ox=>?_;obtain⟨hp,g,d,tk,os⟩:=s;obtain⟨ht,h⟩:=h;refine Ox ?_;have hsub:=sub_tuple_self;have hinit:=init_tuple_lookup;have hmh:=madeHere_tuple;have hT:Shared.TypeIs ⟨hp,g,d,tk,os⟩ (.ref p) "list":=⟨o,ht,hc⟩
  wp_walk using AutoSeq1.wpAny_loadPart' ht,wpAny_typeOf hT,oF (hsz:=hsz) p ht hc hd
  intro h' hk hs;show wpAny _ _ (Builtin.Tuple.tupleExact items.toList.toArray >>= λv=>ret v) _ _ _;unfold Builtin.Tuple.tupleExact;refine Pf (wpAny_newObj_type ?_ (by show items.toList.toArray.size<=sizeLine;exact hsz));refine Ph ⟨_,rfl,?_⟩;have e:items.toList.toArray=items:=by rfl
  exact e.symm▸(h h' hk hs)
theorem uN(R:SR G l Z J s){a:AV}{vs:List AV}(hv:b8 J a=QA vs){c:Value}(r:ad G s.heap Z a c):ay G A l Z s (call (.type "tuple") [c]) (.tup vs) J:=λE Q hQ=>by
  refine ah λPG Ox=>?_;refine rY (iF R r hv) λp items o n er4 ho hc hd rs hl=>?_;subst er4;refine Ox ?_;rcases hc with⟨hc,ws,rfl⟩|hc
  ·cases hv;exact call_tuple_same ⟨o,ho,hc,n,hd⟩ (hQ _ _ (aT.now (v:=.tup vs) R r))
  ·refine callType_new PySem.F.called_tuple dc (PySem.F.typeCall_tuple_1 _) (PySem.F.newCall_tuple_1 _) (λobj=>PySem.F.args_object_init_2 obj _) PySem.F.entry_tuple_new
    (nh p o items n hc hd (ng rs hl)) ⟨ho,λh' hk hs=>⟨⟨_,OS _ rfl,rfl⟩,?_⟩⟩
   have z:=R.more hk hs s.toks;exact hQ _ _ ((iA (s:={s with heap:=h'}) z.1 (af.st z.2 rs) hl s.toks).trans z.2)
noncomputable def addS (acc:List (List Nat)) (s:List Nat):List (List Nat):=if acc.contains s then acc else acc++[s]
theorem iG:∀(ss acc:List (List Nat)),eM acc ss=ss.foldl addS acc
 |[],_=>rfl
 |s::r,acc=>by simp only[Cu,List.foldl_cons,addS];split<;>exact iG r _
noncomputable def gg (ss:List (List Nat)) (i:Nat):List (List Nat):=(ss.take i).foldl addS []
theorem lx(ss:List (List Nat)){i:Nat}{x:List Nat}(h:ss[i]?=QA x):gg ss (i+1)=addS (gg ss i) x:=by
 unfold gg;have:ss.take (i+1)=ss.take i++[x]:=by rw[List.take_add_one,h];rfl
 ((refine this.symm▸?_;refine(List.foldl_append ..).symm▸?_));rfl
theorem l8(acc:List (List Nat))(s:List Nat):(addS acc s).length=if acc.contains s then acc.length else acc.length+1:=by unfold addS;split<;>simp
theorem mB(ss:List (List Nat)):∀i,(gg ss i).length<=i
 |0=>by exact O3 _
 |i+1=>by
  cases h:ss[i]? with
  |some x=>rw[lx ss h,l8];have:=mB ss i;split<;>(first|exact PQ this|exact Nat.le_succ_of_le this)
  |none=>
   have:gg ss (i+1)=gg ss i:=by
    unfold gg
    ((refine(List.take_add_one ..).symm▸?_;refine h.symm▸?_));simp
   rw[this];have:=mB ss i;exact Nat.le_succ_of_le ‹_›
theorem zf(acc:List (List Nat))(s:List Nat)(k:Str):(addS acc s).contains k.cps.toList=(acc.contains k.cps.toList||decide (k=St s)):=by
 have hk:(k.cps.toList=s)↔k=St s:=by
  constructor
  ·intro e;subst e;simp[St]
  ·intro e;subst e;simp[St]
 unfold addS;split
 ·rename_i h;by_cases e:k=St s
  ·((refine(hk.mpr e).symm▸?_;refine h.symm▸?_));rfl
  ·simp[e]
 ·simp only[List.contains_eq_mem,OL,OF,Bool.decide_or,hk]
section
variable{prog:Program}{w:World}{A:Around}{R:Result->Shared->Prop}{I:Addr}{fp wr:List Addr}{Γ:Array GenState->Array GenState->Prop}{n:Nat}{P:Nat->Value->Prop}{St':Nat->Shared->Prop}
theorem zh(Wk:WalksS prog w A.in1 I fp wr Γ n P St')(S:Addr)(hSf:S∉fp)(ss:List (List Nat))(OB:ss.length=n)
  (hval:∀i v,P i v->∃x t,ss[i]?=QA x/\v=.str (St x) t) (hb:n+1<scanBound):
  ∀(k i:Nat) (s:Shared),n - i=k->i<=n->St' i s->s.heap.SetOf (PySem.strKind prog w) S (λk'=>(gg ss i).contains k'.cps.toList) (gg ss i).length->
   (∀s',Moved (S::wr) Γ s s'->s'.heap.SetOf (PySem.strKind prog w) S (λk'=>(gg ss n).contains k'.cps.toList) (gg ss n).length->R (.ok (.ret .none)) s')->
   codeAny (model prog w) A (.builtin "set.update.loop" ⟨[.ref S,.ref I],[]⟩) R s:=by
 have hSw:S∉wr:=λh=>hSf (Wk.sub _ h);have hsub:∀b∈wr,b∈S::wr:=λb hb=>O0 _ hb;intro k;induction k with
 |zero=>
  intro i s hk hi hst hS hR;have hin:i=n:=Nat.le_antisymm hi (Nat.le_of_sub_eq_zero hk);subst hin;refine codeAny_builtin PyProof.Rows.F.entry_set_update_loop ?_
  (refine(Around.under_plainId PyProof.Rows.F.plain_set_update_loop _).symm▸?_)
  refine Pf (Wk.done s _ _ hst λs' hm=>?_);show wpAny _ A.in1 (ret Value.none) _ _ s';exact Ph (hR s' (hm.mono hsub) (by exact vN hS λo es ep t ho rest=>⟨o,es,ep,t,hm.heap S _ hSw ho,rest⟩))
 |succ k ih=>
  intro i s hk hi hst hS hR;have hlt:i<n:=Nat.lt_of_sub_eq_succ hk;refine codeAny_builtin PyProof.Rows.F.entry_set_update_loop ?_
  (refine(Around.under_plainId PyProof.Rows.F.plain_set_update_loop _).symm▸?_)
  refine Pf (Wk.item i s _ _ hlt hst λv s' hP hst' hm=>?_);refine eX (hval i v hP) λx t hx er3=>?_;subst er3;have hS':s'.heap.SetOf (PySem.strKind prog w) S (λk'=>(gg ss i).contains k'.cps.toList) (gg ss i).length:=by exact vN hS λo es ep tb ho rest=>⟨o,es,ep,tb,hm.heap S _ hSw ho,rest⟩
  show wpAny _ A.in1 (holding [Value.str (St x) t] (setAdd S (.str (St x) t)) >>= _) _ _ s';refine Pf (Pi ?_);unfold setAdd;refine Pi (Pf ((PySem.strKind prog w).pyHash (k:=St x) (strKind_is _ _ _ _) ?_));have hroom:(gg ss i).length+1<scanBound:=by have:=mB ss i;exact Qn (Nat.succ_lt_succ (OI this hlt)) hb
  refine wpAny_setAddHashed_of (knd:=PySem.strKind prog w) (s:={s' with toks:=s'.toks+1}) (strKind_is _ _ _ _) rfl hS' hroom λh' hsb hS2=>?_;have hSi:h'.SetOf (PySem.strKind prog w) S (λk'=>(gg ss (i+1)).contains k'.cps.toList) (gg ss (i+1)).length:=
   PyProof.Rows.SetOf_congr hS2 (λk'=>by rw[lx ss hx,zf]) (by rw[lx ss hx,l8];rfl)
  refine Ph ⟨plainId_quiet PyProof.Rows.F.plain_set_update_loop _,ih (i+1) _ (PK Nat.pred hk) hlt (Wk.frame _ s' _ _ hst' (PR _) λb hb o e=>?_) hSi λs'' hm'' hS''=>?_⟩
  ·exact(hsb.2 b (λh:b=S=>hSf (by(refine h▸?_);exact hb))).trans e
  ·refine hR s'' (Moved.trans Wk.gtrans ((hm.mono hsub).then_heap (PR _) λb o hb e=>?_) hm'') hS'';exact(hsb.2 b (λh:b=S=>hb (by rw[h];exact ON))).trans e
end
theorem uO{prog:Program}{w:World}{a:Value}
  (hi:∀led:Bool,wpAny (model prog w) A.in1.in1 (Builtin.«set.__init__» ⟨[.ref s.heap.objs.size,a],[]⟩)
   (λfin s'=>match fin with
    |.done f=>wants (λr s₂=>r=.none/\Q (.ref s.heap.objs.size) s₂) E (.ok f) s'
    |.again c'=>c'.quiet=QI/\codeAny (model prog w) A.in1 c' (wants (λr s₂=>r=.none/\Q (.ref s.heap.objs.size) s₂) E) s')
   (λe s'=>wants (λr s₂=>r=.none/\Q (.ref s.heap.objs.size) s₂) E (.error e) s')
   {s with heap:=s.heap.push {cls:=.type "set",dict:=QE,data:=.set #[] 0 (.fresh 0 0 led)}}):wpAny (model prog w) A (call (.type "set") [a]) Q E s:=by
 refine jk PySem.F.called_set.mro λc tl hmro=>?_;have hmade:=PySem.F.called_set.made;have hsub:=PySem.F.called_set.sub;refine wpAny_call (codeAny_of_tree ?_);show wpAny _ _ (callAny (.type "set") _) _ _ _;refine Ph ⟨Code.quiet_builtin _ (by decide+kernel),codeAny_builtin PySem.F.entry_type_call ?_⟩
 (refine(Around.under_plain (weight_type_call_type "set" [a] []) rfl).symm▸?_)
 have h1:=PySem.F.called_set.notType;have h2:=PySem.F.called_set.canCreate;have hct:=PySem.F.typeCall_set_1 a
 repeat (any_goals (first|assumption|wp_step))
 refine codeAny_mono (code_set_new_1 a (E:=E) (Q₁:=λobj s₁=>∃led:Bool,obj=.ref s.heap.objs.size/\s₁={s with heap:=s.heap.push {cls:=.type "set",dict:=QE,data:=.set #[] 0 (.fresh 0 0 led)}}) λled=>⟨led,rfl,rfl⟩) λr s₁ hr=>?_;cases r with
 |error e=>exact hr
 |ok fl=>
  cases fl with
  |ret obj=>
   refine ak hr λled er1 er2=>?_;subst er1;subst er2;have hS:(s.heap.push {cls:=.type "set",dict:=QE,data:=.set #[] 0 (.fresh 0 0 led)}).get? s.heap.objs.size=QA {cls:=.type "set",dict:=QE,data:=.set #[] 0 (.fresh 0 0 led)}:=OS _ rfl;have hT:Shared.TypeIs {s with heap:=s.heap.push {cls:=.type "set",dict:=QE,data:=.set #[] 0 (.fresh 0 0 led)}} (.ref s.heap.objs.size) "set":=⟨_,hS,rfl⟩;have hli:=PySem.F.called_set.init.lookup;have hbi:=PySem.F.called_set.init.bind (.ref s.heap.objs.size)
   repeat (any_goals (first|assumption|wp_step))
   refine codeAny_mono (Qs (R:=wants (λr s₂=>r=.none/\Q (.ref s.heap.objs.size) s₂) E) PySem.F.called_set.init.plain PySem.F.entry_set_init (check_set_init_1 hT (hi led))) λr₂ s₂ hr₂=>?_;cases r₂ with
   |error e=>exact hr₂
   |ok fl₂=>
    cases fl₂ with
    |ret r=>
     refine bj hr₂ λer0 hq=>?_;subst er0
     repeat (any_goals (first|assumption|wp_step))
    |_=>exact hr₂
  |_=>exact hr
theorem j6{prog:Program}{w:World}{S p:Addr}{Ty:String}{led:Bool}{Q:Fin->Shared->Prop}(hS:s.heap.get? S=QA {cls:=.type "set",dict:=QE,data:=.set #[] 0 (.fresh 0 0 led)})
  (ho:s.heap.get? p=QA o) (hc:o.cls=.type Ty) (hsls:isSubtype (.type Ty) (.type "set")=pure QK) (hslf:isSubtype (.type Ty) (.type "frozenset")=pure QK) (hne:(Value.type Ty==Value.type "dict")=QK)
  (h:wpAny (model prog w) A (pyIter (.ref p)) (λit s2=>wpAny (model prog w) A (runValue (.builtin "set.update.loop" ⟨[.ref S,it],[]⟩)) (λu s3=>Q (.done (.ret .none)) s3) E s2) E s):
  wpAny (model prog w) A (Builtin.«set.__init__» ⟨[.ref S,.ref p],[]⟩) Q E s:=by
 have hT:s.TypeIs (.ref p) Ty:=⟨o,ho,hc⟩;have hT2:s.TypeIs (.ref S) "set":=⟨_,hS,rfl⟩;unfold Builtin.«set.__init__» noKeywords Builtin.Frozenset.updateFrom;generalize hPI:pyIter=PI;generalize hRV:runValue=RV
 wp_walk
 subst hPI;subst hRV;exact Py h (λit s2 h2=>Pf (Py h2 (λu s3 h3=>Ph (Ph h3)) λu u z=>z)) λu u z=>z
theorem oG{prog:Program}{w:World}{p:Addr}{nn:Nat}(hh:A.handled=QE)
  (ho:s.heap.get? p=QA o) (hc:o.cls=.type "tuple"\/o.cls=.type "list") (hd:o.data=.seq items nn) (OB:ss.length=items.size) (hval:∀(i:Nat) (v:Value),items[i]?=QA v->∃x t,ss[i]?=QA x/\v=.str (St x) t) (hb:items.size+1<scanBound)
  (h:∀(h':Heap) (tk:Nat),h'.SetOf (PySem.strKind prog w) s.heap.objs.size (λk'=>(eM [] ss).contains k'.cps.toList) (eM [] ss).length->
   (∀b o,s.heap.get? b=QA o->h'.get? b=QA o)->Q (.ref s.heap.objs.size) {s with heap:=h',toks:=tk}):
  wpAny (model prog w) A (call (.type "set") [.ref p]) Q E s:=by
 have hdd:eM [] ss=gg ss items.size:=by rw[iG,gg, <-OB,List.take_length]
 (replace h:=hdd▸h)
 refine uO λled=>?_;have hS:(s.heap.push {cls:=.type "set",dict:=QE,data:=.set #[] 0 (.fresh 0 0 led)}).get? s.heap.objs.size=QA {cls:=.type "set",dict:=QE,data:=.set #[] 0 (.fresh 0 0 led)}:=OS _ rfl;have hpS:p<s.heap.objs.size:=Pe ho;have ho':=OH {cls:=.type "set",dict:=QE,data:=.set #[] 0 (.fresh 0 0 led)} ho;have hk:∀b o,s.heap.get? b=QA o->(s.heap.push {cls:=.type "set",dict:=QE,data:=.set #[] 0 (.fresh 0 0 led)}).get? b=QA o:=λb o e=>OH _ e;have hsz:(s.heap.push {cls:=.type "set",dict:=QE,data:=.set #[] 0 (.fresh 0 0 led)}).objs.size=s.heap.objs.size+1:=Qi ..;have hh3:A.in1.in1.in1.handled=QE:=by trivial
 generalize s.heap.push {cls:=.type "set",dict:=QE,data:=.set #[] 0 (.fresh 0 0 led)}=hp at hS ho' hk hsz ⊢;have hneI:p≠hp.objs.size:=by exact hsz.symm▸(PD (Nat.lt_succ_of_lt hpS))
 have hSf:s.heap.objs.size∉[hp.objs.size,p]:=by
  (refine hsz.symm▸?_);simp only[OZ,Qf,or_false,not_or]
  exact⟨PD (PU _),PC hpS⟩
 have loop:∀(io:Obj) (St':Nat->Shared->Prop),WalksS prog w A.in1.in1.in1 hp.objs.size [hp.objs.size,p] [hp.objs.size] (λa b=>b=a) items.size (λi v=>items[i]?=QA v) St'->
   St' 0 {s with heap:=hp.push io}->
   codeAny (model prog w) A.in1.in1 (.builtin "set.update.loop" ⟨[.ref s.heap.objs.size,.ref hp.objs.size],[]⟩) (λr s'=>match r with
    |.ok (.ret _)=>wants (λr s₂=>r=.none/\Q (.ref s.heap.objs.size) s₂) E (.ok (.ret .none)) s'
    |.ok _=>False
    |.error e=>wants (λr s₂=>r=.none/\Q (.ref s.heap.objs.size) s₂) E (.error e) s') {s with heap:=hp.push io}:=by
  intro io St' Wk hst;refine zh Wk s.heap.objs.size hSf ss OB hval hb (items.size - 0) 0 _ (by rfl) (O3 _) hst ?_ λs' hm hS'=>?_
  ·exact PyProof.Rows.SetOf_congr ((PyProof.Rows.setObjOf_fresh (knd:=PySem.strKind prog w) led).setOf (OH io hS) (by unfold scanBound;exact PY _)) (λu=>rfl) rfl
  ·obtain⟨h',g',d',tk',os'⟩:=s';have eg:g'=s.gens:=hm.gens;have ed:d'=s.drawn:=hm.drawn;have eo:os'=s.os:=hm.os;subst eg;subst ed;subst eo;refine⟨rfl,h h' tk' hS' λb o e=>?_⟩;have hb:=Pe e;have hb1:b≠s.heap.objs.size:=PD hb;have hb2:b≠hp.objs.size:=by exact hsz.symm▸(PD (Nat.lt_succ_of_lt hb))
   exact hm.heap b o (by simp only[OZ,Qf,or_false,not_or];exact⟨hb1,hb2⟩) (OH _ (hk _ _ e))
 obtain⟨ocls,odict,odata,oslots⟩:=o;simp only at hc hd;subst hd;rcases hc with rfl|rfl
 ·refine j6 (s:={s with heap:=hp}) hS ho' rfl PySem.F.sub_tuple_set PySem.F.sub_tuple_frozenset dc (wpAny_pyIter_tuple ⟨_,ho',rfl,nn,rfl⟩ (wpAny_runValue ?_));exact loop _ _ ((Walks.tuple hh3 _ p hneI items).toS) ⟨⟨_,OS _ rfl,rfl,rfl⟩,⟨_,OH _ ho',rfl,nn,rfl⟩⟩
 ·refine j6 (s:={s with heap:=hp}) hS ho' rfl PySem.F.sub_list_set PySem.F.sub_list_frozenset dc (wpAny_pyIter_list ⟨_,ho',rfl,nn,rfl⟩ (wpAny_runValue ?_));exact loop _ _ ((Walks.list hh3 _ p hneI items).toS) ⟨⟨_,OS _ rfl,rfl,rfl⟩,⟨_,OH _ ho',rfl,nn,rfl⟩⟩
theorem zi{C:AV->Prop}(e:bY (v::vs)=QA ss)(k:∀y ss',bY vs=QA ss'->y::ss'=ss->C (.str y)):C v:=
 AV.casesOn (motive_1:=λv=>bY (v::vs)=QA ss->C v) v (λe=>nn e) (λu e=>nn e) (λu e=>nn e) (λy e=>(Pb.mp (show(bY vs).map (y:: ·)=QA ss from e)).elim λss' p=>k y ss' p.1 p.2) (λu e=>nn e) (λu e=>nn e) (λu e=>nn e) (λu u e=>nn e) (λe=>nn e) e
theorem ly:∀{vs:List AV} {cs:List Value} {ss:List (List Nat)},af G h Z vs cs->bY vs=QA ss->ss.length=cs.length/\∀(i:Nat) (v:Value),cs[i]?=QA v->∃x t,ss[i]?=QA x/\v=.str (St x) t/\x.length<=aE:=by
 intro vs;induction vs with
 |nil=>intro cs ss r e;subst r;cases(OO e);exact⟨rfl,λi v q=>by exact nn q⟩
 |cons v vs ih=>
  intro cs ss r e;refine jP r λc cs er rv rs=>?_;subst er;refine zi (C:=λv=>ad G h Z v c->ss.length=(c::cs).length/\∀(i:Nat) (w:Value),(c::cs)[i]?=QA w->∃x t,ss[i]?=QA x/\w=.str (St x) t/\x.length<=aE) e (λy ss' e1 er rv=>?_) rv;subst er;refine bj (ih rs e1) λh1 h2=>⟨PK (·+1) h1,λi v q=>?_⟩;cases i with
  |zero=>cases(OO q);exact rv.2.elim λt hc=>⟨y,t,rfl,hc,rv.1⟩
  |succ i=>exact h2 i v q
theorem sH:∀{vs:List AV} {cs:List Value} {ss:List (List Nat)},af G h Z vs cs->bY vs=QA ss->∃l:List (Str×Tok),cs=strValues l/\l.map (·.1)=ss.map St:=by
 intro vs;induction vs with
 |nil=>intro cs ss r e;subst r;cases(OO e);exact⟨[],rfl,rfl⟩
 |cons v vs ih=>intro cs ss r e;refine jP r λc cs er rv rs=>?_;subst er;refine zi (C:=λv=>ad G h Z v c->∃l:List (Str×Tok),c::cs=strValues l/\l.map (·.1)=ss.map St) e (λy ss' e1 er rv=>?_) rv;subst er;refine ak (ih rs e1) λl h1 h2=>?_;exact rv.2.elim λt hc=>⟨(St y,t)::l,by((refine hc.symm▸?_;refine h1.symm▸?_));rfl,PK (St y:: ·) h2⟩
theorem zj(R:SR G l Z J s)(hA:A.handled=QE){a:AV}{vs:List AV}{ss:List (List Nat)}(hv:b8 J a=QA vs)(hs:bY vs=QA ss)(hlt:ss.length<4000){c:Value}(r:ad G s.heap Z a c):ay G A l Z s (call (.type "set") [c]) (.obj J.length) (J++[.sset (eM [] ss)]):=λE Q hQ=>by
   refine ah λPG Ox=>?_;refine rY (iF R r hv) λp items o n er4 ho hc hd rs hl=>?_;subst er4;refine bj (ly rs hs) λh1 h2=>Ox ?_;have h1:ss.length=items.size:=by exact h1.trans Qg
   refine oG hA ho (hc.imp (·.1) id) hd h1 (λi v q=>(h2 i v (by simpa using q)).elim λx p=>p.elim λt p=>⟨x,t,p.1,p.2.1⟩) (by(refine h1▸?_);unfold scanBound;exact OI ‹_› dc) λh' tk hset k=>?_;have hsz:s.heap.objs.size<=h'.objs.size:=by refine vN hset λo u u u ho u=>?_;exact Pc (Pe ho)
   have hdl:(eM [] ss).length<4096:=by
    have:eM [] ss=gg ss ss.length:=by rw[iG,gg,List.take_length]
    rw[this];have:=mB ss ss.length;exact OI this (Qn hlt dc)
   have z:=R.grow (x:=s.heap.objs.size) (d:=s.heap.objs.size) k hsz (OX _) (ob:=.sset (eM [] ss)) ⟨rfl,hdl,hset⟩ tk;exact hQ _ _ ⟨_,z.1,z.2,s.heap.objs.size,s.heap.objs.size,rfl,by(refine(R.len ..)▸?_);simp⟩
theorem r7.at(R:SR G l Z J s)(hA:A.handled=QE){f:Bf}{vs:List AV}{v:AV}(e:r7 J f vs v J'):∀cs:List Value,af G s.heap Z vs cs->ay G A l Z s (call (fh f) cs) v J':=
 r7.rec (motive:=λf vs v J' u=>∀cs:List Value,af G s.heap Z vs cs->ay G A l Z s (call (fh f) cs) v J')
  (λx cs r=>rs1 (C:=λcs=>ay G A l Z s (call (fh .len) cs) (.int x.length) J) r λc r=>CJ R r)
  (λx cs r=>rs1 (C:=λcs=>ay G A l Z s (call (fh .len) cs) (.int x.length) J) r λc r=>CK R r)
  (λa x e cs r=>rs1 (C:=λcs=>ay G A l Z s (call (fh .len) cs) (.int x.length) J) r λc r=>CL R e r)
  (λk x e cs r=>rs1 (C:=λcs=>ay G A l Z s (call (fh .len) cs) (.int x.length) J) r λc r=>CM R e r)
  (λi e cs r=>rs1 (C:=λcs=>ay G A l Z s (call (fh .str) cs) (.str (am i)) J) r λc r=>str_int R e r)
  (λx cs r=>rs1 (C:=λcs=>ay G A l Z s (call (fh .str) cs) (.str x) J) r λc r=>CN R r)
  (λb cs r=>rs1 (C:=λcs=>ay G A l Z s (call (fh .str) cs) (.str (if b=QI then[84,114,117,101] else[70,97,108,115,101])) J) r λc r=>ze R r)
  (λx h1 h2 h3 cs r=>rs1 (C:=λcs=>ay G A l Z s (call (fh .int) cs) (.int (iz x)) J) r λc r=>CP R h1 h2 h3 r)
  (λa vs ss h1 h2 h3 cs r=>rs1 (C:=λcs=>ay G A l Z s (call (fh .setOf) cs) (.obj J.length) (J++[az.sset (eM [] ss)])) r λc r=>zj R hA h1 h2 h3 r)
  (λcs r=>lV (C:=λcs=>ay G A l Z s (call (fh .set0) cs) (.obj J.length) (J++[.sset []])) r (CQ R))
  (λa vs e cs r=>rs1 (C:=λcs=>ay G A l Z s (call (fh .listOf) cs) (.obj J.length) (J++[.list vs])) r λc r=>xt R e r)
  (λa vs e cs r=>rs1 (C:=λcs=>ay G A l Z s (call (fh .tupleOf) cs) (.tup vs) J) r λc r=>uN R e r) e
theorem dW{f:Value}(hf:∀a,f≠ .ref a)(h:Heap)(_:True):∃k,(k=Keeper.frame\/k=Keeper.machine\/k=Keeper.boundFrame)/\Looks M h (keeperOf f) k:=
 ⟨.machine,.inr (.inl rfl),Looks.of_pure (by cases f<;>first|rfl|exact absurd rfl (hf _))⟩
theorem CR(NO:aQ G)(f:Bf):G.mg (uM f)=QE/\G.mb (uM f)=QA (fh f):=by
 cases f
 ·exact NO.bi ("len",.builtin "len") (OE (i:=0) rfl)
 ·exact NO.bi ("str",.type "str") (OE (i:=1) rfl)
 ·exact NO.bi ("int",.type "int") (OE (i:=2) rfl)
 ·exact NO.bi ("set",.type "set") (OE (i:=3) rfl)
 ·exact NO.bi ("set",.type "set") (OE (i:=3) rfl)
 ·exact NO.bi ("list",.type "list") (OE (i:=4) rfl)
 ·exact NO.bi ("tuple",.type "tuple") (OE (i:=5) rfl)
theorem Ft(NO:aQ G){f:Bf}{as:List PE}(has:cu G n F as):aj G n F (.bf f as):=by
 intro sc Ov e U J K Er hc he A l env Z s Q E x hA q qe;have hA:=bH hA rfl;refine sw (C:=λe=>wpAny _ _ (eval e env) _ _ _) hc λy p xs pos hc=>b4 hc λh1 h2 h3 h4=>?_;rw[Pl h1] at h2 ⊢;have hn:=CR NO f;exact Qv (bz NO x.R x.V h2 hn.1 hn.2 (Qt (P:=λu=>True) (dU h3) (dW (by cases f<;>intro a q<;>cases q)) (cE has h3 he x hA (λvs J1 μ1 cs s1 he1 R1 st1 r1 hl=>⟨trivial,he1.elim λv p=>p.elim λJ' p=>p.1.at R1 hA _ r1 E Q λc s' z=>(q.tr st1).post p.2 z⟩) qe)))
noncomputable def qs:Bm->String
 |.append=>"list.append"|.index=>"list.index"|.isascii=>"str.isascii"|.isalnum=>"str.isalnum"|.isalpha=>"str.isalpha"|.isdigit=>"str.isdigit"
 |.join=>"str.join"|.lower=>"str.lower"
theorem sJ:∀c:Nat,c<128->Unicode.isAlpha c=kZ c:=by decide+kernel
theorem sK:∀c:Nat,c<128->Unicode.isAlnum c=jw c:=by decide+kernel
theorem sL:∀c:Nat,c<128->Unicode.isDigit c=eZ c:=by decide+kernel
theorem xu{p q:Nat->Bool}{x:List Nat}(hx:aL x=QI)(h:∀c:Nat,c<128->p c=q c):x.all p=x.all q:=by
 unfold aL at hx;replace hx:=(O9 ..).mp hx;induction x with
 |nil=>rfl
 |cons c x ih=>simp only[List.all_cons];exact(h c (by simpa using hx c ON))▸(ih λd hd=>hx d (O0 _ ‹_›))▸rfl
theorem qt{p q:Nat->Bool}{x:List Nat}(hx:aL x=QI)(h:∀c:Nat,c<128->p c=q c):(decide ((St x).length>0)&&(St x).cps.all p)=(x.all q&& !x.isEmpty):=by
 have:(St x).cps.all p=x.all p:=by simp[St]
 rw[this,aM,xu hx h];cases x<;>simp
theorem jp(t:List Nat):∀{ss:List (List Nat)} {j:Nat},d9 t ss=QA j->j<ss.length/\ss[j]?=QA t/\∀m,m<j->∃x,ss[m]?=QA x/\x≠t
 |[],_,e=>nn e
 |x::xs,j,e=>by
  rw[uA] at e;split at e
  ·rename_i hx;cases e;subst hx;exact⟨PY _,rfl,λm hm=>absurd hm (Nat.not_lt_zero m)⟩
  ·rename_i hx;refine ah λPG Ox=>?_;refine ak (Pb.mp e) λi e' er2=>?_;subst er2;refine eI (jp t e') λa b c=>Ox (⟨Nat.succ_lt_succ a,b,λm hm=>?_⟩);cases m with
   |zero=>exact⟨x,rfl,hx⟩
   |succ m=>obtain⟨y,q1,q2⟩:=c m (Pv ‹_›);exact⟨y,q1,q2⟩
abbrev rQ(G:Wd)(A:Around)(l:List Env)(Z:Mu)(s:Shared)(m:Bm)(v:AV)(J':Hp)(c:Value)(cs:List Value):Prop:=ay G A l Z s (call (.builtin (qs m)) (c::cs)) v J'
theorem xv(R:SR G l Z J s){k:Nat}{vs:List AV}{v:AV}(hv:J[k]?=QA (.list vs))(hlt:vs.length<aE){c cv:Value}(r:ad G s.heap Z (.obj k) c)(rv:ad G s.heap Z v cv):rQ G A l Z s .append .none (J.set k (.list (vs++[v]))) c [cv]:=
 jy (C:=λc=>rQ G A l Z s .append .none (J.set k (.list (vs++[v]))) c [cv]) r λx d hk E Q hQ=>by
  refine ah λPG Ox=>?_;obtain⟨rfl,hl,items,nq3,ri⟩:=R.objs _ _ _ _ hv hk;refine aB nq3 λn ha=>Ox (call_meets PySem.F.slot_list_append ⟨_,ha,rfl⟩ PySem.F.entry_list_append (PySem.F.args_list_append_2 _ _) (list_append x items n cv (ng ri hl)) ⟨ha,?_⟩);have hs:Heap.SameBut x s.heap (s.heap.update x (Obj.mapSeq λy=>y.push cv)):=Qj ..;have ha':=PH (Obj.mapSeq λy=>y.push cv) ha rfl;revert hs ha' hQ;generalize s.heap.update x (Obj.mapSeq λy=>y.push cv)=H;intro hQ hs ha';have st0:au [] [G.tab] Z s.heap Z H:=.put (cr hk) hs ha';have z:=R.upd hk hs (ob:=.list (vs++[v])) ⟨rfl,by rw[OP];exact hlt,items.push cv,⟨_,ha'⟩,by rw[Array.toList_push];exact af.append (af.st st0 ri) (af.cons (ad.st st0 rv) af.nil)⟩ s.toks
  exact hQ _ _ ⟨Z,z.1,z.2,rfl⟩
theorem zl(R:SR G l Z J s)(hu:A.units+200<cLine){k:Nat}{vs:List AV}{ss:List (List Nat)}{t:List Nat}{j:Nat}(hv:J[k]?=QA (.list vs))(hss:bY vs=QA ss)(hj:d9 t ss=QA j){c cv:Value}(r:ad G s.heap Z (.obj k) c)(rv:ad G s.heap Z (.str t) cv):rQ G A l Z s .index (.int j) J c [cv]:=
 jy (C:=λc=>rQ G A l Z s .index (.int j) J c [cv]) r λx d hk=>cJ (C:=λcv=>ad G s.heap Z (.str t) cv->rQ G A l Z s .index (.int j) J (.ref x) [cv]) rv (λtt rv E Q hQ=>by
    refine ah λPG Ox=>?_;obtain⟨rfl,hl,items,nq3,ri⟩:=R.objs _ _ _ _ hv hk;refine aB nq3 λn ha=>bj (ly ri hss) λOB hat=>Ox ?_;have OB:ss.length=items.size:=by exact OB.trans Qg
    refine eI (jp t hj) λj1 j2 j3=>?_;have hval:∀(i:Nat) (hi:i<items.size),∃y u0u,ss[i]?=QA y/\items[i]=.str (St y) u0u/\y.length<=aE:=λi hi=>hat i _ (by simp[hi]);have hjs:j<items.size:=Nat.lt_of_lt_of_eq j1 OB;refine call_meets PySem.F.slot_list_index ⟨_,ha,rfl⟩ PySem.F.entry_list_index (PySem.F.args_list_index_2 _ _)
     (list_indexAt x items n QE #[] (.str (St t) tt) (λv=>match v with|.str y _=>y==St t|_=>QK) j hjs ?_ ?_ ?_) ⟨ha,λy hy=>?_,?_⟩
    ·have:items.size<=aE:=by((refine(Qg ..)▸?_;refine ri.length.symm▸?_));exact hl
     unfold aE at this;omega
    ·obtain⟨y,u0u,q1,q2,_⟩:=hval j hjs;cases j2.symm.trans q1
     (refine q2.symm▸?_);exact if_pos rfl
    ·intro i hi hij;refine ah λPG Ox=>jP (hval i hi) λy u0u q1 q2 u=>ak (j3 i hij) λz q3 q4=>Ox ?_;cases q1.symm.trans q3
     (refine q2.symm▸?_)
     rw[PJ,ne_eq];intro z;exact q4 (by simpa[St] using z)
    ·obtain⟨i,hi,rfl⟩:=Array.mem_iff_getElem.mp hy;refine ah λPG Ox=>jP (hval i hi) λy u0u q1 q2 q3=>Ox ?_
     (refine q2.symm▸?_)
     have:=((kW.ss 0 y t).at (G:=G) (s:=s) (Z:=Z) A.in1 _ _ (by simp;exact OI (O4 (by decide:1<=200) _) hu) ⟨q3,u0u,rfl⟩ rv).2.1;simpa[yQ] using this
    ·exact hQ _ _ (aT.here (v:=.int _) R ⟨_,rfl⟩ _)
    ) rv
theorem CS(R:SR G l Z J s){sep:List Nat}{v:AV}{ws:List AV}{ss:List (List Nat)}(hv:b8 J v=QA ws)(hs:bY ws=QA ss)(hlt:(ss.map λx=>x.length+sep.length).sum<=aE){c cv:Value}(r:ad G s.heap Z (.str sep) c)(rv:ad G s.heap Z v cv):rQ G A l Z s .join (.str (jl sep ss)) J c [cv]:=
 cJ (C:=λc=>rQ G A l Z s .join (.str (jl sep ss)) J c [cv]) r λt E Q hQ=>by
    refine ah λPG Ox=>?_;refine rY (iF R rv hv) λp items o n er4 ho hc hd ri hil=>?_;subst er4;refine ak (sH ri hs) λl h1 h2=>Ox ?_;have hit:items=(strValues l).toArray:=by exact h1▸rfl
    have hfold:∀(xs:List (List Nat)) (k:Nat),(xs.map St).foldl (λa x=>a+x.length+(St sep).length) k=k+(xs.map λx=>x.length+sep.length).sum:=by
     intro xs;induction xs with
     |nil=>intro k;rfl
     |cons x xs ih=>intro k;simp only[PO,List.foldl_cons,List.sum_cons];rw[ih];rw[aM,aM];exact(PK (·+_) (PW _ _ _)).trans (PW _ _ _)
    have hfit:Builtin.Str.tooLong ((l.map (·.1)).toArray.foldl (·+ ·.length+(St sep).length) 0)=QK:=by rw[List.foldl_toArray,h2,hfold];have:(ss.map λx=>x.length+sep.length).sum<=sizeLine:=OK hlt dc;simp only[Builtin.Str.tooLong,decide_eq_false_iff_not];exact Pd.mpr (OK (Ql (Nat.zero_add _)) this)
    have hjoin:∀xs:List (List Nat),Str.join (St sep) (xs.map St)=St (jl sep xs):=by
     intro xs;induction xs with
     |nil=>rfl
     |cons x xs ih=>
      cases xs with
      |nil=>rfl
      |cons y ys=>simp only[PO,Str.join,vP] at ih ⊢;rw[ih,i4,i4]
    have hjl:∀xs:List (List Nat),(jl sep xs).length<=(xs.map λx=>x.length+sep.length).sum:=by
     intro xs;induction xs with
     |nil=>exact O3 _
     |cons x xs ih=>
      cases xs with
      |nil=>show x.length<=_;simp
      |cons y ys=>simp only[vP,OP,PO,List.sum_cons] at ih ⊢;exact O4 ih _
    have OB:=OK (hjl ss) hlt;have post:(joinMade (St sep) l).post Q s:=by
     have made:(Made.str (Builtin.Str.glued (St sep) (l.map (·.1)))).post Q s:=by rw[StrLaws.glued_eq_join,h2,hjoin];exact⟨by rw[aM];exact OK OB dc,hQ _ _ (aT.here (v:=.str _) R ⟨OB,_,rfl⟩ _)⟩
     match l,h2,made with
     |[],_,m=>exact m
     |[q],h2,_=>
      cases ss with
      |nil=>cases h2
      |cons x xs=>
       cases xs with
       |cons _ _=>simp at h2
       |nil=>obtain⟨q1,q2⟩:=q;simp at h2;subst h2;exact hQ _ _ (aT.now (v:=.str _) R ⟨OB,_,rfl⟩)
     |_::_::_,_,m=>exact m
    rcases hc with⟨hc,_⟩|hc
    ·exact call_meets PySem.F.slot_str_join (typeIs_str _ _ _) PySem.F.entry_str_join (PySem.F.args_str_join_2 _ _) (meets_str_join_tuple (St sep) t p l hfit) ⟨⟨o,n,ho,hc,hd▸hit▸rfl⟩,post⟩
    ·exact call_meets PySem.F.slot_str_join (typeIs_str _ _ _) PySem.F.entry_str_join (PySem.F.args_str_join_2 _ _) (meets_str_join_list (St sep) t p l hfit) ⟨⟨o,ho,hc,n,hd▸hit▸rfl⟩,post⟩
theorem zm{x y:List Nat}(e:Txt.lower (St x)=St y)(h:Builtin.Str.tooLong y.length=QK){t:Tok}{E:Value->Shared->Prop}{Q:Value->Shared->Prop}(q:∀t' k,Q (.str (St y) t') {s with toks:=k}):wpAny G.M A (call (.builtin "str.lower") [.str (St x) t]) Q E s:=by refine SC.lower (by rw[e,aM];exact h) ?_;exact e.symm▸(q _ _)
theorem vQ.at(R:SR G l Z J s)(hu:A.units+200<cLine){m:Bm}{a v:AV}{vs:List AV}(e:vQ J m a vs v J'):∀(c:Value) (cs:List Value),ad G s.heap Z a c->af G s.heap Z vs cs->rQ G A l Z s m v J' c cs:=
 have txt:∀{m:Bm} {x:List Nat} {b b':Bool} {c:Value} {cs:List Value},ad G s.heap Z (.str x) c->af G s.heap Z [] cs->b'=b->(∀t E Q,Q (.bool b') s->wpAny G.M A (call (.builtin (qs m)) [.str (St x) t]) Q E s)->rQ G A l Z s m (.bool b) J c cs:=λ{m x b b' c cs} r rs e k=>cJ (C:=λc=>rQ G A l Z s m (.bool b) J c cs) r λt=>lV (C:=λcs=>rQ G A l Z s m (.bool b) J (.str (St x) t) cs) rs λE Q hQ=>k t E Q (hQ _ _ (aT.now (v:=.bool b) R (PK Value.bool e)))
 have low:∀{x y:List Nat} {c:Value} {cs:List Value},ad G s.heap Z (.str x) c->af G s.heap Z [] cs->y.length<=aE->(∀t E Q,(∀t' k,Q (.str (St y) t') {s with toks:=k})->wpAny G.M A (call (.builtin (qs .lower)) [.str (St x) t]) Q E s)->rQ G A l Z s .lower (.str y) J c cs:=λ{x y c cs} r rs hl k=>cJ (C:=λc=>rQ G A l Z s .lower (.str y) J c cs) r λt=>lV (C:=λcs=>rQ G A l Z s .lower (.str y) J (.str (St x) t) cs) rs λE Q hQ=>k t E Q λt' k=>hQ _ _ (aT.here (v:=.str y) R ⟨hl,t',rfl⟩ k)
 vQ.rec (motive:=λm a vs v J' u=>∀(c:Value) (cs:List Value),ad G s.heap Z a c->af G s.heap Z vs cs->rQ G A l Z s m v J' c cs)
  (λk vs v h1 h2 c cs r rs=>rs1 (C:=λcs=>rQ G A l Z s .append .none (J.set k (.list (vs++[v]))) c cs) rs λcv rv=>xv R h1 h2 r rv)
  (λk vs ss t j h1 h2 h3 c cs r rs=>rs1 (C:=λcs=>rQ G A l Z s .index (.int j) J c cs) rs λcv rv=>zl R hu h1 h2 h3 r rv)
  (λx c cs r rs=>txt r rs (by simp[Txt.isascii,aL,St]) λt E Q=>SC.isascii)
  (λx hx c cs r rs=>txt r rs (qt hx sK) λt E Q=>SC.isalnum)
  (λx hx c cs r rs=>txt r rs (qt hx sJ) λt E Q=>SC.isalpha)
  (λx hx c cs r rs=>txt r rs (qt hx sL) λt E Q=>SC.isdigit)
  (λsep a vs ss h1 h2 h3 c cs r rs=>rs1 (C:=λcs=>rQ G A l Z s .join (.str (jl sep ss)) J c cs) rs λcv rv=>CS R h1 h2 h3 r rv)
  (λc cs r rs=>low r rs dc λt E Q q=>zm (by decide+kernel) (by decide+kernel) q)
  (λc cs r rs=>low r rs dc λt E Q q=>zm (by decide+kernel) (by decide+kernel) q) e
def xw(s:Shared)(m:Bm)(c:Value):Prop:=∃Ty,PlainAttrs Ty/\Slot Ty (ql m) (qs m)/\typeOf (.builtin (qs m))=pure (.type "method_descriptor")/\s.TypeIs c Ty/\∀a,c=.ref a->∃ob,s.heap.get? a=QA ob/\ob.dict=QE
theorem CT(R:SR G l Z J s){m:Bm}{a:AV}(e:o4 J m a):∀c:Value,ad G s.heap Z a c->xw s m c:=
 have txt:∀{m:Bm} {x:List Nat} {c:Value},ad G s.heap Z (.str x) c->Slot "str" (ql m) (qs m)->typeOf (.builtin (qs m))=pure (.type "method_descriptor")->xw s m c:=λ{m x c} r h1 h2=>cJ (C:=xw s m) r λt=>⟨"str",PySem.F.plainAttrs_str,h1,h2,rfl,λu q=>nomatch q⟩;have lst:∀{m:Bm} {k:Nat} {vs:List AV} {c:Value},J[k]?=QA (.list vs)->ad G s.heap Z (.obj k) c->Slot "list" (ql m) (qs m)->typeOf (.builtin (qs m))=pure (.type "method_descriptor")->xw s m c:=λ{m k vs c} hv r h1 h2=>jy (C:=xw s m) r λx d hk=>by obtain⟨rfl,hl,items,nq3,ri⟩:=R.objs _ _ _ _ hv hk;obtain⟨n,ha⟩:=nq3;exact⟨"list",PySem.F.plainAttrs_list,h1,h2,⟨_,ha,rfl⟩,λa q=>by cases q;exact⟨_,ha,rfl⟩⟩
 o4.rec (motive:=λm a u=>∀c:Value,ad G s.heap Z a c->xw s m c)
  (λk vs h c r=>lst h r PySem.F.slot_list_append PySem.F.type_list_append) (λk vs h c r=>lst h r PySem.F.slot_list_index PySem.F.type_list_index)
  (λx c r=>txt r PySem.F.slot_str_isascii PySem.F.type_str_isascii) (λx c r=>txt r PySem.F.slot_str_isalnum PySem.F.type_str_isalnum) (λx c r=>txt r PySem.F.slot_str_isalpha PySem.F.type_str_isalpha)
  (λx c r=>txt r PySem.F.slot_str_isdigit PySem.F.type_str_isdigit) (λx c r=>txt r PySem.F.slot_str_join PySem.F.type_str_join) (λx c r=>txt r PySem.F.slot_str_lower PySem.F.type_str_lower) e
theorem Fu{m:Bm}{a:PE}(ha:aj G n F a)(has:cu G n F as):aj G n F (.bm m a as):=by
 intro sc Ov e U J K Er hc he A l env Z s Q E x hA q qe;have hA:=bH hA rfl;refine Fq (C:=λe=>wpAny _ _ (eval e env) _ _ _) hc λo nm apos xs pos hc=>b6 hc λh1 h2 h3 h4 h5 h6=>?_
 ((refine(Pl h4).symm▸?_;refine(arm_eval_Call ..).symm▸?_))
 refine Pf (fg h2 (ha h1 he x (.inl hA) (λv1 J1 μ1 c1 s1 he1 R1 st1 r1=>Pf (Pj ?_)) qe));refine(CT R1 he1.1 _ r1).elim λTy p=>l7 h5 (Pm h6) (Pl h3) (getMethod_builtin p.2.2.2.1 p.1 p.2.1 p.2.2.1 p.2.2.2.2 ?_);exact Qt (P:=λu=>True) (dU h5) (dW (by intro a q;cases q)) (cE has h5 he1.2 (x.next R1 st1) hA (λvs J2 Z2 cs s2 he2 R2 st2 r2 hl=>⟨trivial,he2.elim λv p=>p.elim λJ' p=>p.1.at R2 x.C.room _ _ (ad.st st2 r1) r2 E Q λc s' z=>((q.tr st1).tr st2).post p.2 z⟩) (qe.tr st1))
noncomputable def v9 (G:Wd):Ty->Value
 |.int=>.type "int"|.tuple=>.type "tuple"|.list=>.type "list"|.own c=>.ref (G.cls c)
theorem wa(NO:aQ G)(R:SR G l Z J s)(V:ba G env sc Ov U Z s.heap){t:Ty}{x:Str}{pos:Pos}(hx:m9 t=QA x)(hg:bn sc x=QI)
  {Q:Value->Shared->Prop} (hQ:(∀c,t=.own c->c<G.nC)->Q (v9 G t) s):wpAny G.M A (eval (.Name x pos) env) Q E s:=by
 cases t with
 |int=>cases hx;refine bj (NO.bi ("int",.type "int") (OE (i:=2) rfl)) λa b=>?_;exact bz NO R V hg a b (hQ λc q=>nomatch q)
 |tuple=>cases hx;refine bj (NO.bi ("tuple",.type "tuple") (OE (i:=5) rfl)) λa b=>?_;exact bz NO R V hg a b (hQ λc q=>nomatch q)
 |list=>cases hx;refine bj (NO.bi ("list",.type "list") (OE (i:=4) rfl)) λa b=>?_;exact bz NO R V hg a b (hQ λc q=>nomatch q)
 |own c=>
  have hx:(if c<T.nC then T.cls[c]? else QE)=QA x:=hx;split at hx
  ·rename_i hc;refine eI (NO.cls _ _ hx) λu hm u=>?_;exact cK NO R V hg hm (hQ λd q=>by cases q;exact NO.nC▸hc)
  ·exact nn hx
abbrev CU(G:Wd)(A:Around)(l:List Env)(Z:Mu)(s:Shared)(J:Hp)(t:Ty)(b:Bool)(c:Value):Prop:=ay G A l Z s (call (.builtin "isinstance") [c,v9 G t]) (.bool b) J
theorem jx.at(ok:jN G)(NO:aQ G)(R:SR G l Z J s){a:AV}{t:Ty}{b:Bool}(e:jx J a t b):(∀c,t=.own c->c<G.nC)->∀c:Value,ad G s.heap Z a c->CU G A l Z s J t b c:=
 have Xk:=ok.kin.keeps R.stays;have fin:∀{b:Bool} {Q:Value->Shared->Prop},(∀c s',aT G l Z s.heap (.bool b) J c s'->Q c s')->∀tk,Q (.bool b) {s with toks:=tk}:=λ{b Q} q tk=>q _ _ (aT.here (v:=.bool b) R rfl tk)
 jx.rec (motive:=λa t b u=>(∀c,t=.own c->c<G.nC)->∀c:Value,ad G s.heap Z a c->CU G A l Z s J t b c)
  (λk cn fs d hk ht c r=>ph (C:=CU G A l Z s J (.own d) (cn==d)) R r hk λx dd ox es n e1 hcn hx ho hd I u u u u u u E Q hQ=>have g:=NO.isi.cls cn hcn;kia_one (kitx_own g.1 (ok.cls cn hcn).dict g.2.1 NO.isi.get.1 NO.isi.get.2 g.2.2) Xk I (NO.isi.own cn d hcn (ht d rfl)) (by intro q;cases q) (fin hQ))
  (λk cn fs hk ht c r=>ph (C:=CU G A l Z s J .int QK) R r hk λx dd ox es n e1 hcn hx ho hd I u u u u u u E Q hQ=>have g:=NO.isi.cls cn hcn;kia_one (kitx_own g.1 (ok.cls cn hcn).dict g.2.1 NO.isi.get.1 NO.isi.get.2 g.2.2) Xk I (NO.isi.ownInt cn hcn) (by intro q;cases q) (fin hQ))
  (λht c r=>lU (C:=CU G A l Z s J .int QK) r λE Q hQ=>kia_one kitx_none Xk trivial NO.isi.int.2 (by intro q;exact absurd q dc) (fin hQ))
  (λd ht c r=>lU (C:=CU G A l Z s J (.own d) QK) r λE Q hQ=>kia_one kitx_none Xk trivial (NO.isi.plain d (ht d rfl)).2.2 (by intro q;exact absurd q dc) (fin hQ))
  (λb d ht c r=>jm (C:=CU G A l Z s J (.own d) QK) r λE Q hQ=>kia_one kitx_bool Xk trivial (NO.isi.plain d (ht d rfl)).2.1 (by intro q;cases q) (fin hQ))
  (λi d ht c r=>eU (C:=CU G A l Z s J (.own d) QK) r λt E Q hQ=>kia_one kitx_int Xk trivial (NO.isi.plain d (ht d rfl)).1 (by intro q;cases q) (fin hQ))
  (λi ht c r=>eU (C:=CU G A l Z s J .int QI) r λt E Q hQ=>kia_one kitx_int Xk trivial NO.isi.int.1 (by intro q;cases q) (fin hQ)) e
theorem pz(ok:jN G)(NO:aQ G){a:PE}{t:Ty}(ha:aj G n F a):aj G n F (.isinst a t):=by
 intro sc Ov e U J K Er hc he A l env Z s Q E x hA q qe;have hA:=bH hA rfl;refine sw (C:=λe=>wpAny _ _ (eval e env) _ _ _) hc λy p xs pos hc=>lm (C:=λxs=>wpAny _ _ (eval (.Call (.Name y p) xs [] pos) env) _ _ _) hc λz b hc=>aN (C:=λb=>wpAny _ _ (eval (.Call (.Name y p) [z,b] [] pos) env) _ _ _) hc λw p2 hc=>b6 hc λh1 h2 h3 h4 h5 h6=>?_
 rw[Pl h1] at h2 ⊢;have hn:=NO.bi ("isinstance",.builtin "isinstance") (OE (i:=6) rfl);refine Qv (bz NO x.R x.V h2 hn.1 hn.2 ?_);have e1:backTo pos (starEach [z,.Name w p2] env)=(QK,eval z env)::backTo pos (starEach [.Name w p2] env):=bI h4;have e2:backTo pos (starEach [.Name w p2] env)=[(QK,eval (.Name w p2) env)]:=rfl
 ((refine e1.symm▸?_;refine e2.symm▸?_))
 exact Qt (P:=λu=>True) rfl (dW (by intro a q;cases q)) (Qu (PF (ha h3 he x (.inl hA) (λv1 J1 μ1 c1 s1 he1 R1 st1 r1=>PF (wa NO R1 (x.next R1 st1).V (Pl h5) h6 λht=>Calls.spliced_nil ⟨trivial,
  he1.elim λb he1=>he1.1.at ok NO R1 ht _ r1 E Q λc s' p=>(q.tr st1).post he1.2 p⟩)) qe)))
def qu(G:Wd)(A:Around)(s:Shared)(t:Ty)(b:Bool)(c:Value):Prop:=∃v,plainIs v (v9 G t)=QI/\(v==v9 G t)=b/\∀(E:Value->Shared->Prop) (Q:Value->Shared->Prop),Q v s->wpAny G.M A (call (.type "type") [c]) Q E s
theorem xk.at(R:SR G l Z J s){a:AV}{t:Ty}{b:Bool}(e:xk J a t b):∀c:Value,ad G s.heap Z a c->qu G A s t b c:=
 xk.rec (motive:=λa t b u=>∀c:Value,ad G s.heap Z a c->qu G A s t b c)
  (λi c r=>eU (C:=qu G A s .int QI) r λt=>⟨.type "int",rfl,rfl,λE Q q=>call_type_of (Tx:="int") rfl dc q⟩)
  (λb c r=>jm (C:=qu G A s .int QK) r ⟨.type "bool",rfl,rfl,λE Q q=>call_type_of (Tx:="bool") rfl dc q⟩)
  (λc r=>lU (C:=qu G A s .int QK) r ⟨.type "NoneType",rfl,rfl,λE Q q=>call_type_of (Tx:="NoneType") rfl dc q⟩)
  (λx c r=>cJ (C:=qu G A s .int QK) r λt=>⟨.type "str",rfl,rfl,λE Q q=>call_type_of (Tx:="str") rfl dc q⟩)
  (λk cn fs hk c r=>ph (C:=qu G A s .int QK) R r hk λx dd ox es n e1 hcn hx ho hd I u u u u hcl u=>⟨ox.cls,by rw[hcl];rfl,by rw[hcl];rfl,λE Q q=>by obtain⟨hh,g,d,tk,os⟩:=s;exact PyProof.Rows.call_type_obj ho (by rw[hcl];rfl) q⟩)
  (λvs c r=>lb (C:=qu G A s .tuple QI) r λx items ht u u=>by
   refine aB ht λnn ho=>?_;exact⟨.type "tuple",rfl,rfl,λE Q q=>by obtain⟨hh,g,d,tk,os⟩:=s;exact PyProof.Rows.call_type_obj ho rfl q⟩)
  (λa vs ea c r=>jT (C:=qu G A s .list QI) R r ea λx items hl u=>by
   refine dh hl λo ho hcl u=>?_;exact⟨o.cls,by rw[hcl];rfl,by rw[hcl];rfl,λE Q q=>by obtain⟨hh,g,d,tk,os⟩:=s;exact PyProof.Rows.call_type_obj ho (by rw[hcl];rfl) q⟩) e
theorem pA(NO:aQ G){a:PE}{t:Ty}{neg:Bool}(ha:aj G n F a){z:Expr}{y w:Str}{p p2 pos:Pos}{K:KV}{Er:KE}(he:cR F (.typeIs a t neg) U J K Er)
  (hy:y=("type":Str)) (hd2:bn sc y=QI) (hd3:bg sc Ov a z=QI) (hd4:bQ z=QI) (hd5:m9 t=QA w) (hd6:bn sc w=QI) (x:Ex G A l n env sc Ov U Z J s) (hA:A.handled=QE)
  {Q:Value->Shared->Prop} (q:VP G l Z s.heap K Q) (qe:EP G l Z s.heap Er E):
  wpAny G.M A (eval (.Call (.Name y p) [z] [] pos) env) (λv s1=>wpAny G.M A (eval (.Name w p2) env) (λu0u s2=>wpAny G.M A (compareOp (cond neg .IsNot .Is) v u0u) Q E s2) E s1) E s:=by
 subst hy;have hn:=NO.bi ("type",.type "type") (OE (i:=7) rfl);refine Qv (bz NO x.R x.V hd2 hn.1 hn.2 ?_);have e1:backTo pos (starEach [z] env)=(QK,eval z env)::backTo pos (starEach [] env):=bI hd4;have e2:backTo pos (starEach [] env)=[]:=rfl
 ((refine e1.symm▸?_;refine e2.symm▸?_))
 refine Qt (P:=λu=>True) rfl (dW (by intro a q;cases q)) (Qu (PF (ha hd3 he x (.inl hA) (λv1 J1 μ1 c1 s1 he1 R1 st1 r1=>Calls.spliced_nil ⟨trivial,he1.elim λb he1=>(he1.1.at R1 _ r1).elim λv p=>p.2.2 E _ ?_⟩) qe)));refine wa NO R1 (x.next R1 st1).V hd5 hd6 λu=>?_;have fin:Q (.bool (b != neg)) s1:=(q.tr st1).post he1.2 (aT.now (v:=.bool (b != neg)) R1 rfl);cases neg
 ·refine wpAny_is_plain p.1 ?_;rw[p.2.1];exact(show(b != QK)=b by cases b<;>rfl)▸fin
 ·refine wpAny_isNot_plain p.1 ?_
  (refine p.2.1.symm▸?_);exact(show(b != QI)= !b by cases b<;>rfl)▸fin
theorem nj{o:CmpOp}{w:Str}:behindInMarks o (.Name w p2)=QK:=rfl
theorem l9{a:PE}{t:Ty}{e:Expr}{C:Expr->Prop}(hc:bg sc Ov (.typeIs a t neg) e=QI)
  (k:∀y p z pos w p2 r,y=("type":Str)->bn sc y=QI->bg sc Ov a z=QI->bQ z=QI->m9 t=QA w->bn sc w=QI->C (.Compare (.Call (.Name y p) [z] [] pos) [cond neg .IsNot .Is] [.Name w p2] r)):C e:=
 gN hc λg os bs r hc=>cO (C:=λos=>C (.Compare g os bs r)) hc λo hc=>cO (C:=λbs=>C (.Compare g [o] bs r)) hc λb hc=>bD (C:=λg=>C (.Compare g [o] [b] r)) hc λf xs ks pos hc=>bB (C:=λks=>C (.Compare (.Call f xs ks pos) [o] [b] r)) hc λhc=>
  cO (C:=λxs=>C (.Compare (.Call f xs [] pos) [o] [b] r)) hc λz hc=>aN (C:=λf=>C (.Compare (.Call f [z] [] pos) [o] [b] r)) hc λy p hc=>aN (C:=λb=>C (.Compare (.Call (.Name y p) [z] [] pos) [o] [b] r)) hc λw p2 hc=>
   b6 hc λh1 h2 h3 h4 h5 h6=>b2 h6 λh6 h7=>by exact(Pl h5).symm▸(k y p z pos w p2 r (Pl h1) h2 h3 h4 (Pl h6) h7)
theorem xy(NO:aQ G){a:PE}{t:Ty}{neg:Bool}(ha:aj G n F a):aj G n F (.typeIs a t neg):=by intro sc Ov e U J K Er hc he A l env Z s Q E x hA q qe;exact l9 (C:=λe=>wpAny _ _ (eval e env) _ _ _) hc λy p z pos w p2 r h1 h2 h3 h4 h5 h6=>wpAny_Compare1 (pA NO ha he h1 h2 h3 h4 h5 h6 x (bH hA rfl) q qe) nj
theorem xz(NO:aQ G){a:PE}{t:Ty}{neg:Bool}(ha:aj G n F a):bR G n F (.typeIs a t neg):=by intro sc Ov e U J K Er hc he A l env Z s Q E x hA q qe;exact l9 (C:=λe=>wpAny _ _ (isTrue e env (eval e env)) _ _ _) hc λy p z pos w p2 r h1 h2 h3 h4 h5 h6=>wpAny_isTrue_Compare1 (pA NO ha he h1 h2 h3 h4 h5 h6 x (bH hA rfl) (λv3 J3 Z3 c3 s3 k R3 st3 r3=>(q.tr st3).truth R3 r3 k) qe) nj
noncomputable def CV (env:Env) (pos:Pos):List (Option Expr)->List Expr->List (Sem Value×Sem Value)
 |some k::xs,y::ys=>(eval k env,do let x <-eval y env;standAt pos;pure x)::CV env pos xs ys
 |_,_=>[]
theorem j7{C:List (List Nat)->List (Option Expr)->Prop}(h0:C [] [])(h1:∀k ks m p xs,k.length<=aE->gQ ks xs=QI->C ks xs->C (k::ks) (QA (.Constant (.str (St k)) m p)::xs)):∀{ks:List (List Nat)} {xs:List (Option Expr)},gQ ks xs=QI->C ks xs
 |[],_,hc=>bB (C:=λxs=>C [] xs) hc λu=>h0
 |k::ks,_,hc=>aI (C:=λxs=>C (k::ks) xs) hc λo xs hc=>dj (C:=λo=>C (k::ks) (o::xs)) hc λe hc=>fZ (C:=λe=>C (k::ks) (QA e::xs)) hc λc m p hc=>b3 hc λh2 h3 h4=>by rw[Pl h2];exact h1 k ks m p xs (Pm h3) h4 (j7 h0 h1 h4)
theorem xC{xs:List (Option Expr)}(hc:gQ ks xs=QI):∀{ys:List Expr},
  (evalEachOpt xs env).zip ((evalEach ys env).map λv=>do let x <-v;standAt pos;pure x)=(CV env pos xs ys).map λp=>(QA p.1,p.2):=
 j7 (C:=λu xs=>∀{ys:List Expr},(evalEachOpt xs env).zip ((evalEach ys env).map λv=>do let x <-v;standAt pos;pure x)=(CV env pos xs ys).map λp=>(QA p.1,p.2)) rfl (λk ks m p xs u u ih ys=>by
  cases ys with
  |nil=>rfl
  |cons y ys=>exact PK (_:: ·) (ih (ys:=ys))) hc
theorem wb:∀(xs:List (Option Expr)) (ys:List Expr),(CV env pos xs ys).length<=ys.length
 |[],_=>O3 _
 |none::_,_=>O3 _
 |some _::_,[]=>O3 _
 |some _::xs,_::ys=>PQ (wb xs ys)
def Jr(ks:List (List Nat))(cs:List Value)(vs:List (Value×Value)):Prop:=allStrKeys vs=QI/\strPairs vs=(ks.map St).zip cs
theorem Jr.cons{k:List Nat}{t:Tok}{cs:List Value}{vs:List (Value×Value)}(x:Jr ks cs vs):Jr (k::ks) (c::cs) ((.str (St k) t,c)::vs):=⟨x.1,PK _ x.2⟩
theorem bO.zip:∀{ks:List (List Nat)} {vs:List AV} {cs:List Value},af G h Z vs cs->bO G h Z (ks.zip vs) ((ks.map St).zip cs)
 |[],vs,_,r=>by rw[List.zip_nil_left];exact .nil
 |_::_,[],_,r=>by subst r;exact .nil
 |k::ks,v::vs,_,r=>by refine jP r λc cs er2 r1 r2=>?_;subst er2;exact .cons r1 (bO.zip r2)
theorem sM(hA:A.handled=QE){ks:List (List Nat)}{xs:List (Option Expr)}(hc:gQ ks xs=QI):∀{es:List PE} {ys:List Expr},(∀p∈es,aj G n F p)->bZ sc Ov es ys=QI->ks.length=es.length->
  ∀{J:Hp} {Z:Mu} {s:Shared} {K:KL} {Er:KE} {Q:List (Value×Value)->Shared->Prop},jj F es U J K Er->Ex G A l n env sc Ov U Z J s->EP G l Z s.heap Er E->
   (∀vs J1 μ1 cs kvs s1,K vs J1->SR G l μ1 J1 s1->au [] [G.tab] Z s.heap μ1 s1.heap->af G s1.heap μ1 vs cs->Jr ks cs kvs->vs.length=es.length->Q kvs s1)->
   wpAny G.M A (evalPairs (CV env pos xs ys)) Q E s:=
 j7 (C:=λks xs=>∀{es:List PE} {ys:List Expr},(∀p∈es,aj G n F p)->bZ sc Ov es ys=QI->ks.length=es.length->
  ∀{J:Hp} {Z:Mu} {s:Shared} {K:KL} {Er:KE} {Q:List (Value×Value)->Shared->Prop},jj F es U J K Er->Ex G A l n env sc Ov U Z J s->EP G l Z s.heap Er E->
   (∀vs J1 μ1 cs kvs s1,K vs J1->SR G l μ1 J1 s1->au [] [G.tab] Z s.heap μ1 s1.heap->af G s1.heap μ1 vs cs->Jr ks cs kvs->vs.length=es.length->Q kvs s1)->
   wpAny G.M A (evalPairs (CV env pos xs ys)) Q E s)
  (λ{es ys} hp h2 hl {J Z s K Er Q} he x qe q=>by
   cases es with
   |cons _ _=>exact absurd hl (by trivial)
   |nil=>exact evalPairs_nil (q [] _ _ [] [] _ he x.R .refl af.nil ⟨rfl,rfl⟩ rfl))
  (λk ks m p xs _ _ ih {es ys} hp h2 hl {J Z s K Er Q} he x qe q=>by
   cases es with
   |nil=>exact absurd hl (by trivial)
   |cons pe ps=>
    refine aI (C:=λys=>wpAny _ _ (evalPairs (CV env pos (QA (.Constant (.str (St k)) m p)::xs) ys)) _ _ _) h2 λy ys h2=>b3 h2 λh2 u h3=>evalPairs_cons (Calls.Constant_str ?_);have x':=x.next (s':={s with toks:=s.toks+1}) (x.R.tok _) .refl;exact Pf (hp pe (.head _) h2 he x' (.inl hA) (λv1 J1 μ1 c1 s1 he1 R1 st1 r1=>Pf (Pj (Ph (ih (λp' h'=>hp p' (.tail _ h')) h3 (Nat.succ.inj hl) he1 (x'.next R1 st1) (qe.tr st1)
     λvs J2 Z2 cs kvs s2 k2 R2 st2 r2 hkv hn=>q _ J2 Z2 (c1::cs) _ s2 k2 R2 (st1.trans st2) (af.cons (ad.st st2 r1) r2) hkv.cons (PK (·+1) hn))))) qe)) hc
theorem pB{k:Prop}(h:uB J j k)(f:J[j]?=QA (.dict [])->k->C):C:=by exact f h.1 h.2
theorem qw(R:SR G l Z J s)(t:Nat):
  SR G l (Z++[(s.heap.objs.size,s.heap.objs.size)]) (J++[.dict []]) {s with heap:=s.heap.push {cls:=.type "dict",data:=.dict #[]},toks:=t}/\au [] [G.tab] Z s.heap (Z++[(s.heap.objs.size,s.heap.objs.size)]) (s.heap.push {cls:=.type "dict",data:=.dict #[]}):=by
 have k:∀b o,s.heap.get? b=QA o->(s.heap.push {cls:=.type "dict",data:=.dict #[]}).get? b=QA o:=λb o e=>OH _ e;refine R.grow (x:=s.heap.objs.size) (d:=s.heap.objs.size) k (by simp) (OX _) (ob:=.dict []) ⟨rfl,by decide,[],Heap.DictOf.new (knd:=strKind G.prog G.w) s.heap,.nil⟩ t
theorem GY{k:List Nat}{xs:List (Option Expr)}{ys:List Expr}(hc:gQ (k::ks) xs=QI)(hy:ys≠[]):CV env pos xs ys≠[]:=
 j7 (C:=λks' xs=>ks'≠[]->CV env pos xs ys≠[]) (λq=>absurd rfl q) (λu u u u u u u u u=>by
  cases ys with
  |nil=>exact absurd rfl hy
  |cons y ys=>exact List.cons_ne_nil _ _) hc (List.cons_ne_nil _ _)
theorem wc(hes:∀p∈es,aj G n F p):aj G n F (.dict ks es):=by
 intro sc Ov e U J K Er hc he A l env Z s Q E x hA q qe;have hA':=bH hA rfl;refine pn (C:=λe=>wpAny _ _ (eval e env) _ _ _) hc λxs ys pos hc=>b5 hc λh1 h2 h3 h4 h5=>?_;have h3:=Pm h3;have h4:=Pm h4;have h5:=Pm h5;have N0:=qw x.R s.toks;have hidx:(Z++[(s.heap.objs.size,s.heap.objs.size)])[J.length]?=QA (s.heap.objs.size,s.heap.objs.size):=by rw[<-x.R.len];simp
 cases ks with
 |nil=>
  cases es with
  |cons _ _=>exact absurd h4 (by trivial)
  |nil=>
   refine bB (C:=λxs=>wpAny _ _ (eval (.Dict xs ys pos) env) _ _ _) h1 λu=>bB (C:=λys=>wpAny _ _ (eval (.Dict [] ys pos) env) _ _ _) h2 λu=>pB he λu he=>?_;have e1:(J++[az.dict []]).set J.length (.dict ([]:List (List Nat×AV)))=J++[.dict []]:=by simp
   have he':K (.obj J.length) (J++[.dict []]):=by rw[<-e1];exact he
   exact wpAny_Dict_empty (q _ _ _ _ _ he' N0.1 N0.2 ⟨s.heap.objs.size,s.heap.objs.size,rfl,hidx⟩)
 |cons k ks=>
  have hy:ys≠[]:=λe=>by have:=i7 h2;rw[e, <-h4] at this;exact absurd this (by trivial)
  refine wpAny_Dict_pairs (knd:=strKind G.prog G.w) (xC h1) (GY h1 hy) (by have:=wb (env:=env) (pos:=pos) xs ys;have:=i7 h2;omega) ?_;refine sM hA' h1 hes h2 h4 he (x.next N0.1 N0.2) (qe.tr N0.2) λvs J1 μ1 cs kvs s1 he1 R1 st1 r1 hkv hn=>pB he1 λhdict he1=>?_;have hμ:μ1[J.length]?=QA (s.heap.objs.size,s.heap.objs.size):=st1.getμ hidx;refine ah λPG Ox=>?_;obtain⟨_,_,kv0,hd0,hr0⟩:=R1.objs _ _ _ _ hdict hμ;refine Ox ?_;cases hr0;refine display_done_str hkv.1 ?_ hd0 λh' hD hs=>?_
  ·rw[hkv.2,List.map_fst_zip (by rw[P9,h4, <-hn,r1.length];exact OX _)];exact List.pairwise_map.mpr (h5.imp λhne e=>hne (by simpa[St] using e))
  ·rw[hkv.2] at hD;have hlv:=hD;refine ah λPG Ox=>eJ hlv λu u u hlv u=>Ox ?_;have st2:au [] [G.tab] μ1 s1.heap μ1 h':=.put (cr hμ) hs hlv;have R2:=R1.upd hμ hs (ob:=.dict ((k::ks).zip vs)) ⟨rfl,by rw[List.length_zip];exact OK (Nat.min_le_left ..) (by rw[h4];exact OK h3 dc),_,hD,bO.step st2 (λu q=>nomatch q) (bO.zip r1)⟩ (s1.toks+kvs.length);exact q _ _ _ _ _ he1 R2.1 ((N0.2.trans st1).trans st2) ⟨s.heap.objs.size,s.heap.objs.size,rfl,hμ⟩
theorem CW(st:au [] [G.tab] Z h Z' h'){v:AV}{c:Value}(r:aA G env h Z v c):aA G env h' Z' v c:=
 aA.step st (λu q=>nomatch q) (λa q=>OF.mp q) (λu q=>nomatch q) r
theorem xD{k:Prop}(h:yM v k)(f:v=.word->k->C):C:=by cases v<;>first|exact f rfl h|exact h.elim
theorem sN{k:List Nat->Prop}(h:yN v k)(f:∀s,v=.str s->k s->C):C:=by cases v<;>first|exact f _ rfl h|exact h.elim
theorem zp{k:Nat->List AV->Prop}(h:Jk v k)(f:∀c fs,v=.exc c fs->k c fs->C):C:=by cases v<;>first|exact f _ _ rfl h|exact h.elim
theorem sO(hW:lq G n F){i t:Nat}{as:List PE}(has:cu G n F as):aj G n F (.callv i t as):=by
 intro sc Ov e U J K Er hc he A l env Z s Q E x hA q qe;have hA:=bH hA rfl;refine sw (C:=λe=>wpAny _ _ (eval e env) _ _ _) hc λy p xs pos hc=>b6 hc λh1 h2 h3 h4 h5 h6=>b2 h4 λh4 h4'=>dS he λw hi he=>xD he λew he=>dS he λv ht he=>sN he λtx ev he=>?_;subst ew ev;refine Qv (jC x.V (Pl h1) h3 hi λc r=>?_);have r0:=r;obtain⟨nq0,nq1⟩:=r0;obtain⟨fa,a0,doc,pm,c',ctv⟩:=nq0;obtain⟨rfl,hn,hf,_,_,_,_⟩:=nq1;refine Calls.callWith_function (o:=fnMade G.D.name G.QF G.D.params G.D.body G.D.scope [(("text":Str),a0)] doc pm c' ctv) (fd:=_) (cE has h5 he x hA (λvs J1 μ1 cs s1 he1 R1 st1 r1 hl=>⟨⟨?_,rfl⟩,?_⟩) qe)
 ·exact st1.same (λu q=>nomatch q) hf hn (by simp) (by simp) (by simp)
 ·obtain⟨a,ov,z1,z2,z3,z4⟩:=(x.next R1 st1).V.cells t _ (Pl h4) (.inl (Pl h4'));refine ak (z4 _ ht) λc er1 z5=>?_;subst er1;exact wpAny_call (hW tx vs J1 _ _ he1 A l μ1 s1 _ env fa a c R1 x.C.y hA r1 (CW st1 r) z1 z2 z3 z5 Q E (q.tr st1) (qe.tr st1))
theorem zq:builtinKind "BaseException.__getattribute__"=QA .slot:=by decide+kernel
theorem xE:splitId "BaseException.__getattribute__"=QA ("BaseException","__getattribute__"):=by decide+kernel
theorem xF:plainId "BaseException.__getattribute__"=QI:=by decide+kernel
theorem zr(self:Value):bindSpecial (.builtin "BaseException.__getattribute__") self=pure (.builtin "BaseException.__getattribute__",[self]):=by kernel_rfl
section
variable{prog:Program}{w:World}{A:Around}{E:Value->Shared->Prop}{s:Shared}{K:Frag}{x C:Addr}{ox:Obj}{od:Option Obj}{name:Str}{expr:Bool}{Q:Value->Shared->Prop}
theorem CX{v:Value}(X:K.In s.heap)(I:InstAt s.heap x ox C od)(hga:findIn K (.ref C) "__getattribute__"=QA (QA (.builtin "BaseException.__getattribute__")))(hk:findIn K (.ref C) "__getattr__"=QA QE)
  (hm:mroIn K C (.type "BaseException")=QA QI) (hf:findObj K C od name=QA (.value v)) (hh:handedIn v=QI) (h:Q v {s with toks:=s.toks+1}):wpAny (model prog w) A (getAttr (.ref x) name expr) Q E s:=by
 refine ah λPG Ox=>?_;obtain⟨hp,g,d,t,os⟩:=s;refine Ox ?_;have L0:=I.type (M:=model prog w);have L1:=looks_findIn (M:=model prog w) X hga;have L2:=looks_findIn (M:=model prog w) X hk;have L3:=looks_find (M:=model prog w) X I hf;have L4:Looks (model prog w) hp (isInstance (.ref x) (.type "BaseException")) QI:=L0.andThen (looks_mroIn X hm);unfold getAttr getAttrBy;refine Pf (wpAny_mkText (Pi (Pf (L0.at (Pf (L1.at ?_))))));have hx2:(Value.builtin "BaseException.__getattribute__"==Value.builtin "object.__getattribute__")=QK:=by decide+kernel
 have hx1:(onTheHeap (Value.ref C)&&Value.builtin "BaseException.__getattribute__"==Value.builtin "object.__getattribute__")=QK:=by refine(PK _ hx2).trans ?_;rfl
 dsimp only
 ((refine hx1.symm▸?_;rw[if_neg dc]))
 unfold getAttrByItsOwn;refine Pf (L2.at ?_);refine Pf (Qp (Pi ?_));have e0:callGetattribute (.ref x) (.str name t) (.builtin "BaseException.__getattribute__") expr=boundAndCalled (.builtin "BaseException.__getattribute__") (.ref x) (.str name t):=by unfold callGetattribute;cases expr<;>rfl
 (refine e0.symm▸?_)
 unfold boundAndCalled;refine Pf (wpAny_of_eq (zr _) (wpAny_call ?_));show codeAny (model prog w) A (.call (.builtin "BaseException.__getattribute__") ⟨[.ref x,.str name t],[]⟩) _ _;refine Qs xF PySem.F.entry_bexc_ga (@check_slot (model prog w) _ _ _ "BaseException.__getattribute__" "BaseException" "__getattribute__" (.ref x) [.str name t] [] _ zq xE L4 (PySem.F.args_bexc_ga _ _) ?_);unfold Builtin.«object.__getattribute__»;refine Pf (Ph (Pf (Ph (Pf (L0.at (Pf (L3.at ?_)))))));refine Ph ?_;show wpAny _ _ (handedOut v) _ _ _;rw[handedOut_of hh];exact Ph h
end
theorem nk(ok:jN G)(NO:aQ G){i f:Nat}:aj G n F (.excAttr i f):=by
 intro sc Ov e U J K Er hc he A l env Z s Q E x hA q qe;refine aX (C:=λe=>wpAny _ _ (eval e env) _ _ _) hc λo nm p hc=>aN (C:=λo=>wpAny _ _ (eval (.Attribute o nm p) env) _ _ _) hc λy p1 hc=>b4 hc λh1 h2 h3 h4=>?_;have hf:=NO.attr _ _ (Pl h4);refine dS he λw hi he1=>zp he1 λc fs ew he2=>bN he2 λj hj he3=>bN he3 λv hv he4=>?_;subst ew
 ((refine hf.2▸?_;refine(arm_eval_Attribute ..).symm▸?_))
 refine Pf (fg rfl (jC x.V (Pl h1) h3 hi λcv r=>?_));refine ah λPG Ox=>?_;obtain⟨e,oe,rfl,hn,ht,nq5,hoe,nq7,nq8⟩:=r;obtain⟨vs,hvs⟩:=nq5;obtain⟨d,es,n',od⟩:=nq7;obtain⟨hcx,hcls,hdict,_,_,hod,hdata,_,hfs⟩:=nq8;refine ak (hfs f j v hf.1 hj hv) λcv hl rv=>Ox ?_;have hat:=NO.exc.attr c f j hj;have g:=NO.exc.get c hcx hat.2.1;have I:InstAt s.heap e oe (G.cls c) (QA od):=⟨hoe,hcls,by simp[notCls,hvs],by(refine hdict.symm▸?_);exact hod⟩;have hlk:lookIn (G.attr f) od=QA (QA cv):=by
  unfold lookIn
  (refine hdata.symm▸?_)
  exact hl
 exact Pf (Pj (Pf (Pi (CX (ok.kin.keeps x.R.stays) I g.1 g.2.1 g.2.2.1 (findObj_own g.2.2.2 hat.2.2 (by simp[noGet]) hlk) rv.handed (Pf (wpAny_letTemporaryGo (Ph (q.tok he4 x.R rv _))))))))
def zt(G:Wd)(n:Nat)(F:Call):Prop:=
 ∀elt v it,aj G n F elt->aj G n F it->aj G n F (.comp1 elt v it)
abbrev dE(e:Expr):Prop:=∀env whole,isTrue e env whole=(do let v <-whole;standAt e.pos;holding [v] (PySem.truthy v))
set_option tactic.hygienic true in
theorem Js{t a b:PE}(ht:bR G n F t)(ha:bR G n F a)(hb:bR G n F b):bR G n F (.f t a b):=by
 intro sc Ov e U J K Er hc he A l env Z s Q E x hA q qe;have hA:=bH hA rfl;refine m8 (C:=λe=>wpAny _ _ (isTrue e env (eval e env)) _ _ _) hc λy1 y2 y3 p hc=>b3 hc λh1 h2 h3=>PyProof.Rows.isTrue_IfExp (ht h1 he x (.inl hA) (.of λc J1 μ1 s1 k R1 st1=>?_) qe);cases c
 ·exact hb h3 k (x.next R1 st1) (.inl hA) (q.tr st1) (qe.tr st1)
 ·exact ha h2 k (x.next R1 st1) (.inl hA) (q.tr st1) (qe.tr st1)
theorem xG(ok:jN G)(NO:aQ G)(hF:iD G n F)(hW:lq G n F)(hC:zt G n F)(p:PE):aj G n F p/\bR G n F p:=
 PE.rec (motive_1:=λp=>aj G n F p/\bR G n F p) (motive_2:=λps=>cu G n F ps/\∀p∈ps,aj G n F p/\bR G n F p) (motive_3:=λo=>∀p,o=QA p->aj G n F p)
  (λi=>⟨y7,dD y7 λu u u h=>aN (C:=dE) h λu u u u u=>rfl⟩)
  (λg=>⟨vX NO,dD (vX NO) λu u u h=>aN (C:=dE) h λu u u u u=>rfl⟩)
  (λc=>⟨sB,dD sB λu u u h=>fZ (C:=dE) h λu u u u u u=>rfl⟩)
  (λes h=>⟨y8 h.1,dD (y8 h.1) λu u u h=>dQ (C:=dE) h λu u u u u u=>rfl⟩)
  (λes h=>⟨vY h.1,dD (vY h.1) λu u u h=>pt (C:=dE) h λu u u u u=>rfl⟩)
  (λks es h=>⟨wc λp hp=>(h.2 p hp).1,dD (wc λp hp=>(h.2 p hp).1) λu u u h=>pn (C:=dE) h λu u u u u u=>rfl⟩)
  (λop a b ha hb=>⟨y9 ha.1 hb.1,dD (y9 ha.1 hb.1) λu u u h=>m6 (C:=dE) h λu u u u u u u=>rfl⟩)
  (λop a b ha hb=>⟨GQ ok ha.1 hb.1,GR ok ha.1 hb.1⟩)
  (λes h=>⟨GV λp hp=>(h.2 p hp).1,GW λp hp=>(h.2 p hp).2⟩)
  (λes h=>⟨Jp λp hp=>(h.2 p hp).1,Jq λp hp=>(h.2 p hp).2⟩)
  (λa ha=>⟨GT ha.1,GU ha.2⟩)
  (λt a b ht ha hb=>⟨Jo ht.2 ha.1 hb.1,Js ht.2 ha.2 hb.2⟩)
  (λa i ha hi=>⟨zc ha.1 hi.1,dD (zc ha.1 hi.1) λu u u h=>b9 (C:=dE) h λu u u u u u=>rfl⟩)
  (λa lo hi ha hlo hhi=>⟨sF ha.1 hlo hhi,dD (sF ha.1 hlo hhi) λu u u h=>b9 (C:=dE) h λu u u u u u=>rfl⟩)
  (λa f ha=>⟨v6 ok NO ha.1,dD (v6 ok NO ha.1) λu u u h=>aX (C:=dE) h λu u u u u u=>rfl⟩)
  (λf as h=>⟨v7 ok NO hF h.1,dD (v7 ok NO hF h.1) λu u u h=>bD (C:=dE) h λu u u u u u u=>rfl⟩)
  (λc as h=>⟨zd ok NO hF h.1,dD (zd ok NO hF h.1) λu u u h=>bD (C:=dE) h λu u u u u u u=>rfl⟩)
  (λa m as ha h=>⟨v8 ok NO hF ha.1 h.1,dD (v8 ok NO hF ha.1 h.1) λu u u h=>bD (C:=dE) h λu u u u u u u=>rfl⟩)
  (λf as h=>⟨Ft NO h.1,dD (Ft NO h.1) λu u u h=>bD (C:=dE) h λu u u u u u u=>rfl⟩)
  (λm a as ha h=>⟨Fu ha.1 h.1,dD (Fu ha.1 h.1) λu u u h=>bD (C:=dE) h λu u u u u u u=>rfl⟩)
  (λa t ha=>⟨pz ok NO ha.1,dD (pz ok NO ha.1) λu u u h=>bD (C:=dE) h λu u u u u u u=>rfl⟩)
  (λa t neg ha=>⟨xy NO ha.1,xz NO ha.1⟩)
  (λi t as h=>⟨sO hW h.1,dD (sO hW h.1) λu u u h=>bD (C:=dE) h λu u u u u u u=>rfl⟩)
  (λi f=>⟨nk ok NO,dD (nk ok NO) λu u u h=>aX (C:=dE) h λu u u u u u=>rfl⟩)
  (λelt v it he hi=>⟨hC elt v it he.1 hi.1,dD (hC elt v it he.1 hi.1) λu u u h=>jo (C:=dE) h λu u u u u u u=>rfl⟩)
  ⟨iE,λu h=>nomatch h⟩
  (λp ps hp hps=>⟨dC hp.1 hps.1,List.forall_mem_cons.mpr ⟨hp,hps.2⟩⟩)
  (λu h=>nomatch h)
  (λp hp q h=>OO h▸hp.1) p
section
set_option genCtorIdx false
section
structure LM where
 T:Addr
 oe':Obj
 oT:Obj
 ts:Array Value
 f:Addr
structure LN(fr:List Addr)(e:Addr)(skip:Addr->Prop)(oe:Obj)(vs:Array Value)(fl:Value)(h h':Heap)(d:LM):Prop where
 x1:h.get? d.T=QE
 x2:d.T≠e
 x3:h'.get? e=QA d.oe'
 x4:d.oe'.cls=oe.cls
 x5:d.oe'.dict=oe.dict
 x6:d.oe'.data=.fields (vs.setIfInBounds 1 (.ref d.T))
 x7:h'.get? d.T=QA d.oT
 x8:d.oT.data=.fields d.ts
 x9:d.ts[3]?=QA fl
 x10:d.ts[1]?=QA (.ref d.f)
 k1:∀b o,h.get? b=QA o->b≠e-> ¬skip b->∃o',h'.get? b=QA o'/\(o'=o\/b∈fr/\∃sl,o'={o with slots:=sl})
 k2:∀b o,h.get? b=QA o->∃o',h'.get? b=QA o'
def zu(fr:List Addr)(e:Addr)(skip:Addr->Prop)(oe:Obj)(vs:Array Value)(fl:Value)(h h':Heap):Prop:=∃d,LN fr e skip oe vs fl h h' d
theorem nr(o:Obj)(f:Array Value->Array Value):(o.mapFields f).dict=o.dict:=by obtain⟨c,d,dt,sl⟩:=o;cases dt<;>rfl
theorem pC{base:Heap}{e:Addr}{vs:Array Value}{head:Value}{hadNext:Bool}{Q:Unit->Shared->Prop}
  (hfr:A.frames=QA (env::OC)) (hl:s.heap.FunFrames base (env::OC)) (hf:env.frame=QA L) (he:s.heap.get? e=QA oe) (hd:oe.data=.fields vs) (hsz:1<vs.size)
  (h:∀h',zu ((env::OC).filterMap (·.frame)) e (λu=>False) oe vs (rawInt L) s.heap h'->Q () {s with heap:=h'}):
  wpAny M A (do let a <-frameOf env;let pl <-entryPlaceOf L hadNext;let b <-EntryCells.newEntry head a .none (rawInt L) .none pl;setField (.ref e) 1 b) Q E s:=by
 have hene:e∉(env::OC).filterMap (·.frame):=λhm=>by obtain⟨_,o,ho,hnf⟩:=hl.mem hm;rw[he] at ho;injection ho with ho;subst ho;exact hnf vs hd
 refine Pf (wpAny_frameOf_fun hfr hl hf λh₁ hs₁=>?_);refine Pf (wpAny_entryPlaceOf λpl hpl=>?_);unfold EntryCells.newEntry newFields;refine Pf (wpAny_newObj_type ?_ (hpl.sizeOk5 _ _ _ _ _));have he₁:h₁.get? e=QA oe:=(hs₁.2.1 e hene).trans he;have he₂:=OH (h:=h₁) {cls:=.type "traceback",dict:=QE,data:=.fields ([head,.ref L,.none,rawInt L,.none]++(if pl.isEmpty then List.replicate 6 Value.none else pl)).toArray} he₁;refine wpAny_setField he₂ hd hsz (h _ ?_);have hTe:h₁.objs.size≠e:=PC (Pe he₁);have hd₃:=Qw hd (·.setIfInBounds 1 (Value.ref h₁.objs.size));have he₃:=PH (Obj.mapFields (·.setIfInBounds 1 (Value.ref h₁.objs.size))) he₂ (Obj.isFreed_of_fields hd₃);have hT₃:=(Heap.get?_update_other (h₁.push {cls:=.type "traceback",dict:=QE,data:=.fields ([head,.ref L,.none,rawInt L,.none]++(if pl.isEmpty then List.replicate 6 Value.none else pl)).toArray})
  (Obj.mapFields (·.setIfInBounds 1 (Value.ref h₁.objs.size))) (Ne.symm hTe)).trans (OS h₁ rfl)
 have keep:∀b o,b≠e->h₁.get? b=QA o->
   ((h₁.push {cls:=.type "traceback",dict:=QE,data:=.fields ([head,.ref L,.none,rawInt L,.none]++(if pl.isEmpty then List.replicate 6 Value.none else pl)).toArray}).update e (Obj.mapFields (·.setIfInBounds 1 (Value.ref h₁.objs.size)))).get? b=QA o:=
  λb o hbe hb=>by exact(Heap.get?_update_other _ _ (Ne.symm hbe)).trans (OH _ hb)
 have hT:s.heap.get? h₁.objs.size=QE:=bc (by rw[hs₁.1];exact OX _);refine⟨⟨h₁.objs.size,_,_,_,L⟩,⟨hT,hTe,he₃,Obj.cls_mapFields _ _,nr _ _,hd₃,hT₃,rfl,?_,?_,λb o hb hbe u=>?_,λb o hb=>?_⟩⟩
 ·first|(rfl;done)|(rcases hpl with rfl|⟨_,_,_,_,_,_,_,rfl⟩<;>simp)
 ·first|(rfl;done)|(rcases hpl with rfl|⟨_,_,_,_,_,_,_,rfl⟩<;>simp)
 ·by_cases hbf:b∈(env::OC).filterMap (·.frame)
  ·obtain⟨sl,hs⟩:=hs₁.2.2 b o hb;exact⟨_,keep b _ hbe hs,.inr ⟨hbf,sl,rfl⟩⟩
  ·exact⟨o,keep b o hbe ((hs₁.2.1 b hbf).trans hb),.inl rfl⟩
 ·by_cases hbe:b=e
  ·subst hbe;exact⟨_,he₃⟩
  ·obtain⟨sl,hs⟩:=hs₁.2.2 b o hb;exact⟨_,keep b _ hbe hs⟩
theorem uP{base:Heap}{e:Addr}{vs:Array Value}{Q:Unit->Shared->Prop}
  (hfr:A.frames=QA (env::OC)) (hl:s.heap.FunFrames base (env::OC)) (hf:env.frame=QA L) (he:s.heap.get? e=QA oe) (hd:oe.data=.fields vs) (h1:vs[1]?=QA .none)
  (h:∀h',zu ((env::OC).filterMap (·.frame)) e (λu=>False) oe vs (rawInt L) s.heap h'->Q () {s with heap:=h'}):wpAny M A (noteFrame (.ref e) env) Q E s:=by
 unfold noteFrame;simp only[hf];refine Pf (Pk he hd h1 ?_);rw[if_neg dc];exact pC hfr hl hf he hd (PA.mp h1).1 h
theorem xH{base:Heap}{e T:Addr}{oT:Obj}{vs ts:Array Value}{Q:Unit->Shared->Prop}
  (hfr:A.frames=QA (env::OC)) (hl:s.heap.FunFrames base (env::OC)) (hf:env.frame=QA L) (he:s.heap.get? e=QA oe) (hd:oe.data=.fields vs) (h1:vs[1]?=QA (.ref T))
  (hTe:T≠e) (hT:s.heap.get? T=QA oT) (hdT:oT.data=.fields ts) (h3:ts[3]?=QA fl) (hfl:(fl==rawInt L)=QK)
  (h:∀h',zu ((env::OC).filterMap (·.frame)) e (·=T) oe vs (rawInt L) s.heap h'->Q () {s with heap:=h'}):wpAny M A (noteFrame (.ref e) env) Q E s:=by
 unfold noteFrame;simp only[hf];refine Pf (Pk he hd h1 ?_);rw[if_pos (show(Value.ref T != Value.none)=QI from by rfl)];refine Pf (Pk hT hdT h3 ?_);rw[if_neg (by rw[hfl];decide)];refine Pf (wpAny_setField hT hdT (PA.mp h3).1 ?_);have other:∀b,b≠T->(s.heap.update T (Obj.mapFields (·.setIfInBounds 3 Value.none))).get? b=s.heap.get? b:=λb hb=>Heap.get?_update_other _ _ (Ne.symm hb);have noRecord:∀b o,s.heap.get? b=QA o->(∀vs,o.data≠ .fields vs)->b≠T:=λb o hb hnf q=>by rw[q,hT] at hb;injection hb with hb;subst hb;exact hnf ts hdT
 have hT':=PH (Obj.mapFields (·.setIfInBounds 3 Value.none)) hT (Obj.isFreed_of_fields (Qw hdT _));refine pC (s:={s with heap:=s.heap.update T (Obj.mapFields (·.setIfInBounds 3 Value.none))}) hfr (hl.of_keeps λb o hb hnf=>⟨o,(other b (noRecord b o hb hnf)).trans hb,rfl⟩) hf ((other e (Ne.symm hTe)).trans he) hd
  (PA.mp h1).1 λh' N=>N.elim λd P=>h h' ⟨d,⟨?_,P.x2,P.x3,P.x4,P.x5,P.x6,P.x7,P.x8,P.x9,P.x10,λb o hb hbe hs=>P.k1 b o ((other b hs).trans hb) hbe id,λb o hb=>?_⟩⟩
 ·have x1:=P.x1;cases q:s.heap.get? d.T with
  |none=>rfl
  |some o=>
   exfalso;by_cases z:d.T=T
   ·rw[z,hT'] at x1;exact nn x1.symm
   ·exact nn (x1.symm.trans ((other d.T z).trans q))
 ·by_cases z:b=T
  ·subst z;exact P.k2 _ _ hT'
  ·exact P.k2 b o ((other b z).trans hb)
theorem uQ{e T:Addr}{oT:Obj}{vs ts:Array Value}{f:Option Addr}{Q:Unit->Shared->Prop}(he:s.heap.get? e=QA oe)(hd:oe.data=.fields vs)(h1:vs[1]?=QA (.ref T))(hT:s.heap.get? T=QA oT)(hdT:oT.data=.fields ts)
  (h3:3<ts.size) (h:∀h',Heap.SameBut T s.heap h'->(∃oT' ts',h'.get? T=QA oT'/\oT'.data=.fields ts'/\ts'[3]?=QA (f.elim .none λx=>rawInt x)/\ts'[1]?=ts[1]?)->Q () {s with heap:=h'}):wpAny M A (setFlight (.ref e) f) Q E s:=by
 unfold setFlight;refine Pf (Pk he hd h1 ?_);exact(if_pos (show(Value.ref T != Value.none)=QI from by simp)).symm▸(wpAny_setField hT hdT h3 (h _ (Qj ..) ⟨_,_,PH _ hT (Obj.isFreed_of_fields (Qw hdT _)),Qw hdT _,by simp[h3],by simp⟩))
end
end
section
set_option genCtorIdx false
def GZ(o:Obj):Prop:=∃vs,o.data=.fields vs/\∀q t,vs[1]?≠QA (.str q t)
structure pD(l:List Env)(sk:List Addr)(h h':Heap):Prop where
 live:∀a o,h.get? a=QA o->∃o',h'.get? a=QA o'
 keep:∀a o,h.get? a=QA o->a∉sk->∃o',h'.get? a=QA o'/\(o'=o\/a∈l.filterMap (·.frame)/\∃sl,o'={o with slots:=sl})
 recs:∀a∈sk,∀o,h.get? a=QA o->GZ o
theorem pD.step(R:SR G l Z J s)(r:pD l X s.heap h'):au [] (G.tab::X) Z s.heap Z h':=by
 refine⟨⟨[],(O8 _).symm,by simp⟩,r.live,λa o ho u u hx=>?_⟩;by_cases ha:a∈X
 ·obtain⟨vs,hv,_⟩:=r.recs a ha o ho;exact absurd hv (hx (O0 _ ha) vs)
 ·obtain⟨o',h1,h2⟩:=r.keep a o ho ha;refine⟨o',h1,?_⟩;rcases h2 with rfl|⟨hf,sl,rfl⟩
  ·exact .refl _
  ·obtain⟨o2,es,n,q1,q2⟩:=R.QG a hf;cases ho.symm.trans q1;exact .inr ⟨⟨es,n,q2⟩,sl,rfl⟩
theorem pD.same(R:SR G l Z J s)(r:pD l X s.heap h'){a:Addr}{o:Obj}(ho:s.heap.get? a=QA o)(hX:a∉X)(hf:a∉l.filterMap (·.frame)):h'.get? a=QA o:=by
 refine ak (r.keep a o ho hX) λo' h1 h2=>?_;rcases h2 with rfl|⟨z,_⟩
 ·exact h1
 ·exact absurd z hf
theorem SR.noted(R:SR G l Z J s)(r:pD l X s.heap h')(hX:∀a∈X,a∉own Z/\a≠G.tab/\G.H.get? a=QE)(t:Nat):SR G l Z J {s with heap:=h',toks:=t}:=by
 have st:=r.step R;have notF:∀{a:Addr} {o:Obj} {vs:Array Value},s.heap.get? a=QA o->o.data=.fields vs->a∉l.filterMap (·.frame):=λ{a o vs} ho hd hm=>by refine eJ (R.QG a hm) λo2 es n q1 q2=>?_;cases ho.symm.trans q1;cases hd.symm.trans q2
 refine⟨λb o hb=>r.same R (R.stays b o hb) (λz=>by exact nn (((hX b z).2.2).symm.trans hb)) (λz=>by exact nn (((R.frames.mem z).1).symm.trans hb)),?_,λa ha=>?_,?_,R.QH,R.gens,R.os,R.len,R.nodup,R.fresh,λi o x d e e'=>?_⟩
 ·refine R.frames.of_keeps λb o hb hn=>?_;obtain⟨o',h1,h2⟩:=r.keep b o hb λz=>by refine ak (r.recs b z o hb) λvs hv u=>?_;exact hn vs hv
  exact⟨o',h1,by rcases h2 with rfl|⟨_,sl,rfl⟩<;>rfl⟩
 ·obtain⟨o,es,n,q1,q2⟩:=R.QG a ha;obtain⟨o',h1,h2⟩:=r.keep a o q1 λz=>by refine ak (r.recs a z o q1) λvs hv u=>?_;cases q2.symm.trans hv
  exact⟨o',es,n,h1,by rcases h2 with rfl|⟨_,sl,rfl⟩<;>exact q2⟩
 ·obtain⟨ps,h1,h2,h3⟩:=R.tabs;refine⟨ps,r.same R h1 (λz=>(hX _ z).2.1 rfl) (notF h1 rfl),h2,h3.imp id ?_⟩
  rintro⟨c,q1,⟨c',oc,vs,tq,hc,hoc,hd,hq⟩,q2,q3⟩
  cases hc;exact⟨c,q1,⟨c,oc,vs,tq,rfl,r.same R hoc (λz=>by refine ak (r.recs c z oc hoc) λvs' hv hn=>?_;cases hd.symm.trans hv;exact hn _ _ hq) (notF hoc hd),hd,hq⟩,q2,q3⟩
 ·have hd:=cr e';exact(R.objs i o x d e e').move st (λu q=>nomatch q) (λob hob=>r.same R hob (λz=>(hX d z).1 hd) (R.fresh d hd).2) o
end
theorem br.congr{ok:Addr->Prop}{oe':Obj}{err:aH}(hc:oe'.cls=oe.cls)(hd:oe'.dict=oe.dict):br G h Z ok oe err->br G h Z ok oe' err:=by exact λp=>p.map hc hd (λu u r=>r) λd od u u a b c e=>⟨a,b,od,c,e⟩
theorem iH(st:au W [G.tab] Z0 h0 Z s.heap)(R:SR G l Z J s)(r:pD l X s.heap h')(hX:∀a∈X,h0.get? a=QE):au W [G.tab] Z0 h0 Z h':=by
 refine⟨st.pre,λa o e=>(let⟨o',e'⟩:=st.live a o e;r.live a o' e'),λa o e hn hw hx=>?_⟩;refine ak (st.keep a o e hn hw hx) λo1 q1 q2=>ak (r.keep a o1 q1 λz=>by exact nn ((hX a z).symm.trans e)) λo2 q3 q4=>⟨o2,q3,?_⟩;rcases q4 with rfl|⟨hf,sl,rfl⟩
 ·exact q2
 ·obtain⟨o3,es,n,w1,w2⟩:=R.QG a hf;cases q1.symm.trans w1;exact q2.trans (.inr ⟨⟨es,n,w2⟩,sl,rfl⟩)
theorem cw(hH:G.H.StaysIn h0){a:Addr}(z:h0.get? a=QE):G.H.get? a=QE:=by
 cases w:G.H.get? a with
 |none=>rfl
 |some o=>exact nn (z.symm.trans (hH a o w))
theorem SR.off(R:SR G l Z J s)(z:s.heap.get? a=QE):a∉own Z/\a≠G.tab:=
 ⟨λhm=>(Pa.mp hm).elim λp q=>(Pq q.1).elim λi hi=>(R.atμ (k:=i) (x:=p.1) (d:=p.2) hi).elim λo w=>w.2.there.elim λob w=>nn ((q.2▸z).symm.trans w),λe=>R.tabs.elim λps w=>nn (z.symm.trans (e▸w.1))⟩
theorem zv{e:Addr}{err:aH}{Q:Unit->Shared->Prop}(R:SR G (env::OC) Z J s)(hA:A.frames=QA (env::OC))(hf:env.frame=QA L)(st:au W [G.tab] Z0 h0 Z s.heap)(hH:G.H.StaysIn h0)
  {fl:Value} (hfl:(fl==rawInt L)=QK) (f:aV G s.heap Z h0 fl e err)
  (hQ:∀h',SR G (env::OC) Z J {s with heap:=h'}->aV G h' Z h0 (rawInt L) e err->au W [G.tab] Z0 h0 Z h'->(∃X,pD (env::OC) X s.heap h')->Q () {s with heap:=h'}):wpAny M A (noteFrame (.ref e) env) Q E s:=by
 refine ah λPG Ox=>?_;refine f.e λoe vs t oT ts a0 p1 p2 p3 q1 q2 q3 q4 q5 q6 q7 q8 q9 q10 q11 q13 q12=>?_;refine q13.elim λx q13=>?_;refine Ox (xH hA R.frames hf q1 q2 q4 q6 q9 q10 q11 hfl λh' hN=>?_);refine ah λPG Ox=>?_;obtain⟨nq0,nq1⟩:=hN;obtain⟨T',oe',oT',ts',fx⟩:=nq0;obtain⟨x1,x2,x3,x4,x5,x6,x7,x8,x9,x10,k1,k2⟩:=nq1;refine Ox ?_;have hsz:1<vs.size:=(PA.mp q4).1;have r:pD (env::OC) [e,t] s.heap h':=⟨k2,λa o ho hx=>by
   simp only[OZ,Qf,or_false,not_or] at hx;exact k1 a o ho hx.1 hx.2,λa ha o ho=>by
   simp only[OZ,Qf,or_false] at ha;rcases ha with rfl|rfl
   ·cases q1.symm.trans ho;exact⟨vs,q2,λu u z=>by cases q4.symm.trans z⟩
   ·cases q9.symm.trans ho;exact⟨ts,q10,λu u z=>by cases q13.symm.trans z⟩⟩
 have hX:∀a∈[e,t],a∉own Z/\a≠G.tab/\G.H.get? a=QE:=λa ha=>by
  simp only[OZ,Qf,or_false] at ha;rcases ha with rfl|rfl
  ·exact⟨p2,p3,cw hH p1⟩
  ·exact⟨q7,q8,cw hH q5⟩
 have hX0:∀a∈[e,t],h0.get? a=QE:=λa ha=>by
  simp only[OZ,Qf,or_false] at ha;rcases ha with rfl|rfl
  ·exact p1
  ·exact q5
 have hT':=R.off x1;have st1:=r.step R;refine hQ h' (R.noted r hX s.toks) ⟨⟨oe',vs.setIfInBounds 1 (.ref T'),T',oT',ts',a0⟩,⟨p1,p2,p3,x3,x6,?_,?_,st.none x1,x2,hT'.1,hT'.2,x7,x8,x9,⟨fx,x10⟩,?_⟩⟩ (iH st R r hX0) ⟨_,r⟩
 ·exact(Array.getElem?_setIfInBounds_ne dc).trans q3
 ·simp[hsz]
 ·exact br.congr x4 x5 (br.step st1 (λu q=>nomatch q) (λu q=>nomatch q) q12)
theorem cX{e:Addr}{err:aH}{g:Option Addr}{Q:Unit->Shared->Prop}(R:SR G l Z J s)(st:au W [G.tab] Z0 h0 Z s.heap)(hH:G.H.StaysIn h0)(f:aV G s.heap Z h0 fl e err)
  (hQ:∀h',SR G l Z J {s with heap:=h'}->aV G h' Z h0 (g.elim .none λx=>rawInt x) e err->au W [G.tab] Z0 h0 Z h'->(∃X,pD l X s.heap h')->Q () {s with heap:=h'}):wpAny M A (setFlight (.ref e) g) Q E s:=by
 refine ah λPG Ox=>?_;refine f.e λoe vs t oT ts a0 p1 p2 p3 q1 q2 q3 q4 q5 q6 q7 q8 q9 q10 q11 q13 q12=>?_;refine q13.elim λx q13=>?_;refine Ox (uQ q1 q2 q4 q9 q10 (PA.mp q11).1 λh' hs hT=>?_);refine lR hT λoT' ts' w1 w2 w3 w4=>?_;have r:pD l [t] s.heap h':=⟨λa o ho=>(by
   by_cases z:a=t
   ·exact⟨oT',z▸w1⟩
   ·exact⟨o,(hs.2 a z).trans ho⟩),λa o ho hx=>⟨o,(hs.2 a (by simpa using hx)).trans ho,.inl rfl⟩,λa ha o ho=>by
   rw[OF.mp ha,q9] at ho;cases ho;exact⟨ts,q10,λu u z=>by cases q13.symm.trans z⟩⟩
 have hX:∀a∈[t],a∉own Z/\a≠G.tab/\G.H.get? a=QE:=λa ha=>by exact(OF.mp ha).symm▸(⟨q7,q8,cw hH q5⟩)
 have st1:=r.step R;exact hQ h' (R.noted r hX s.toks) ⟨⟨oe,vs,t,oT',ts',a0⟩,⟨p1,p2,p3,(hs.2 e (Ne.symm q6)).trans q1,q2,q3,q4,q5,q6,q7,q8,w1,w2,w3,⟨x,w4.trans q13⟩,
  br.step st1 (λu q=>nomatch q) (λu q=>nomatch q) q12⟩⟩ (iH st R r (m1 q5)) ⟨_,r⟩
theorem SR.pop(R:SR G (env::OC) Z J s):SR G OC Z J s:=by
 refine eI R.frames λu u hr=>⟨R.stays,hr,λa ha=>R.QG a ?_,R.tabs,R.QH,R.gens,R.os,R.len,R.nodup,λd hd=>⟨(R.fresh d hd).1,λhm=>(R.fresh d hd).2 ?_⟩,R.objs⟩
 all_goals
  rw[List.filterMap_cons];split
  ·assumption
  ·exact O0 _ ‹_›
def Fv(G:Wd)(h:Heap)(Z:Mu)(h0:Heap)(e:Addr)(err:aH):Prop:=
 h0.get? e=QE/\e∉own Z/\e≠G.tab/\∃oe vs a0,h.get? e=QA oe/\oe.data=.fields vs/\vs[0]?=QA a0/\vs[1]?=QA .none/\br G h Z (λa=>h0.get? a=QE) oe err
theorem xI{e:Addr}{err:aH}{Q:Unit->Shared->Prop}(R:SR G (env::OC) Z J s)(hA:A.frames=QA (env::OC))(hf:env.frame=QA L)(st:au W [G.tab] Z0 h0 Z s.heap)(hH:G.H.StaysIn h0)
  (f:Fv G s.heap Z h0 e err)
  (hQ:∀h',SR G (env::OC) Z J {s with heap:=h'}->aV G h' Z h0 (rawInt L) e err->au W [G.tab] Z0 h0 Z h'->(∃X,pD (env::OC) X s.heap h')->Q () {s with heap:=h'}):wpAny M A (noteFrame (.ref e) env) Q E s:=by
 refine ah λPG Ox=>?_;obtain⟨p1,p2,p3,oe,vs,a0,q1,q2,q3,q4,q12⟩:=f;refine Ox (uP hA R.frames hf q1 q2 q4 λh' hN=>?_);refine ah λPG Ox=>?_;obtain⟨nq0,nq1⟩:=hN;obtain⟨T',oe',oT',ts',fx⟩:=nq0;obtain⟨x1,x2,x3,x4,x5,x6,x7,x8,x9,x10,k1,k2⟩:=nq1;refine Ox ?_;have hsz:1<vs.size:=(PA.mp q4).1;have r:pD (env::OC) [e] s.heap h':=⟨k2,λa o ho hx=>k1 a o ho (by simpa using hx) id,λa ha o ho=>by rw[OF.mp ha,q1] at ho;cases ho;exact⟨vs,q2,λu u z=>by cases q4.symm.trans z⟩⟩
 have hX:∀a∈[e],a∉own Z/\a≠G.tab/\G.H.get? a=QE:=λa ha=>by exact(OF.mp ha).symm▸(⟨p2,p3,cw hH p1⟩)
 have hT':=R.off x1;have st1:=r.step R;refine hQ h' (R.noted r hX s.toks) ⟨⟨oe',vs.setIfInBounds 1 (.ref T'),T',oT',ts',a0⟩,⟨p1,p2,p3,x3,x6,?_,?_,st.none x1,x2,hT'.1,hT'.2,x7,x8,x9,⟨fx,x10⟩,?_⟩⟩ (iH st R r (m1 p1)) ⟨_,r⟩
 ·exact(Array.getElem?_setIfInBounds_ne dc).trans q3
 ·simp[hsz]
 ·exact br.congr x4 x5 (br.step st1 (λu q=>nomatch q) (λu q=>nomatch q) q12)
def nu(G:Wd)(h:Heap)(Z:Mu)(h0:Heap)(L e:Addr)(err:aH):Prop:=
 Fv G h Z h0 e err\/∃fl,aV G h Z h0 fl e err
theorem iI{e:Addr}{err:aH}{Q:Unit->Shared->Prop}(R:SR G (env::OC) Z J s)(hA:A.frames=QA (env::OC))(hf:env.frame=QA L)(st:au W [G.tab] Z0 h0 Z s.heap)(hH:G.H.StaysIn h0)
  (f:nu G s.heap Z h0 L e err)
  (hQ:∀h' fl,SR G (env::OC) Z J {s with heap:=h'}->aV G h' Z h0 fl e err->au W [G.tab] Z0 h0 Z h'->(∃X,pD (env::OC) X s.heap h')->Q () {s with heap:=h'}):wpAny M A (noteFrame (.ref e) env) Q E s:=by
 rcases f with f|⟨fl,f⟩
 ·exact xI R hA hf st hH f λh'=>hQ h' _
 ·cases hfl:(fl==rawInt L) with
  |false=>exact zv R hA hf st hH hfl f λh'=>hQ h' _
  |true=>
   refine f.e λoe vs t oT ts a0 p1 p2 p3 q1 q2 q3 q4 q5 q6 q7 q8 q9 q10 q11 q13 q12=>?_;refine q13.elim λx q13=>?_;unfold noteFrame;simp only[hf];refine Pf (Pk q1 q2 q4 ?_)
   (refine(if_pos (show(Value.ref t != Value.none)=QI from by rfl)).symm▸?_)
   refine Pf (Pk q9 q10 q11 ?_);rw[if_pos hfl];exact Ph (hQ s.heap fl R f st ⟨[],⟨λu o e=>⟨o,e⟩,λu o e u=>⟨o,e,.inl rfl⟩,λu q=>nomatch q⟩⟩)
theorem xJ{e:Addr}{err:aH}{Q:Unit->Shared->Prop}(R:SR G (env::OC) Z J s)(hA:A.frames=QA (env::OC))(hf:env.frame=QA L)(st:au W [G.tab] Z0 h0 Z s.heap)(hH:G.H.StaysIn h0)
  (f:nu G s.heap Z h0 L e err)
  (hQ:∀h',SR G OC Z J {s with heap:=h'}->aV G h' Z h0 .none e err->au W [G.tab] Z0 h0 Z h'->Q () {s with heap:=h'}):wpAny M A (leaving env (.ref e)) Q E s:=by
 unfold leaving;exact Pf (iI R hA hf st hH f λh1 u R1 f1 st1 u=>cX (s:={s with heap:=h1}) R1 st1 hH f1 λh2 R2 f2 st2 u=>hQ h2 R2.pop f2 st2)
def nv(Ov:Vis):Prop:=∀i j x,Ov.lookup i=QA x->Ov.lookup j=QA x->i=j
theorem qz(x:h.Ns a m):fc h a:=by refine ah λPG Ox=>eK x λo es ep ho hd u=>Ox ?_;intro o' ho';cases ho.symm.trans ho';exact .inl ⟨_,_,hd⟩
theorem qA{m':Str->Option Value}(R:SR G l Z J s)(V:ba G env sc Ov U Z s.heap)(hm:s.heap.Ns env.locals m)(hn:h'.Ns env.locals m')(hs:Heap.SameBut env.locals s.heap h')
  (k:SR G l Z J {s with heap:=h',toks:=s.toks+1}->(∀U':Loc,(∀j y w,Ov.lookup j=QA y->sc.lookup y=QA .local->U'[j]?=QA (QA w)->∃d,m' y=QA d/\aA G env s.heap Z w d)->
   (∀j y w,Ov.lookup j=QA y->(sc.lookup y=QA .cell\/sc.lookup y=QA .free)->U'[j]?=QA (QA w)->U[j]?=QA (QA w))->ba G env sc Ov U' Z h')->au [env.locals] [G.tab] Z s.heap Z h'->(∃o es n,h'.get? env.locals=QA o/\o.data=.dict es n)->C):C:=by
 have hk:=qz hm;refine eK (id hn) λo' es' ep' ho' hd' u=>bj (R.loc hs V.loc V.locT V.locH hk (.inl ⟨o',es',ep',ho',hd'⟩) ⟨o',ho'⟩ (s.toks+1)) λR' st=>?_;have hW:∀a∈[env.locals],fc s.heap a:=m1 hk;refine k R' (λU' new cel=>⟨V.kind,V.names,V.glob,V.bi,⟨_,hn,λj y w q1 q2 q3=>(new j y w q1 q2 q3).elim λd z=>⟨d,z.1,aA.step st hW (λa q=>OF.mp q) (m1 ON) z.2⟩⟩,λj y q1 q2=>?_,V.loc,V.locT,V.locH⟩) st ⟨o',_,_,ho',hd'⟩;refine lR (V.cells j y q1 q2) λa ov z1 z2 z3 z4=>ak (id z2) λoc hoc hdc=>?_;have hne:a≠env.locals:=λe=>by refine eK hm λo es ep ho hd u=>?_;rw[e,ho] at hoc;cases hoc;cases hd.symm.trans hdc
 exact⟨a,ov,z1,⟨oc,(hs.2 a hne).trans hoc,hdc⟩,z3,λw q=>(z4 w (cel j y w q1 q2 q)).elim λd z=>⟨d,z.1,ad.step st hW w z.2⟩⟩
theorem Fw(st:au [env.locals] X Z h Z' h'):au (bx env) X Z h Z' h':=st.weaken (m1 ON) λa ha=>ha
theorem iJ{Q:Unit->Shared->Prop}(R:SR G l Z J s)(V:ba G env sc Ov U Z s.heap)(hv:nv Ov)(hi:Ov.lookup i=QA x)(hx:sc.lookup x=QA .local)
  (r:aA G env s.heap Z v c)
  (hQ:∀s',SR G l Z J s'->ba G env sc Ov (U.set i (QA v)) Z s'.heap->au (bx env) [G.tab] Z s.heap Z s'.heap->(∃o es n,s'.heap.get? env.locals=QA o/\o.data=.dict es n)->(∀a,a≠env.locals->s'.heap.get? a=s.heap.get? a)->Q () s'):wpAny M A (storeName env x c) Q E s:=by
 refine ak V.ns λm hm hr=>?_;have hkind:env.kindOf x=QA .local:=by unfold Env.kindOf;exact(PK _ V.names).trans hx
 refine wpAny_storeName_local hkind hm (λh' hn hs=>qA R V hm hn hs λR' V' st hl=>hQ _ R' (V' _ (λj y w q1 q2 q3=>?_) λj y w q1 q2 q=>?_) (Fw st) hl hs.2) (by(refine(V.kind ..).symm▸?_);rfl)
 ·by_cases hj:j=i
  ·subst hj;cases hi.symm.trans q1;have hlt:j<U.length:=by have:=(OG.mp q3).1;simpa using this
   cases(OT hlt).symm.trans q3;exact⟨c,if_pos rfl,r⟩
  ·rw[OM (Ne.symm hj)] at q3;refine ak (hr j y w q1 q2 q3) λd z1 z2=>?_;have hy:y≠x:=λe=>hj (hv _ _ _ (e▸q1) hi);exact⟨d,by simp[hy,z1],z2⟩
 ·have hji:j≠i:=λe=>by subst e;cases hi.symm.trans q1;rcases q2 with q2|q2<;>rw[hx] at q2<;>exact absurd q2 dc
  exact(OM (Ne.symm hji)).symm.trans q
section
set_option genCtorIdx false
def FW(env:Env)(Z:Mu)(h:Heap):Prop:=∀a∈bx env,a∉own Z/\∃o,h.get? a=QA o/\((∃es n,o.data=.dict es n)\/∃v,o.data=.cell v)
theorem FW.kind(f:FW env Z h):∀a∈bx env,fc h a:=λa ha o ho=>by refine ah λPG Ox=>?_;obtain⟨_,o',q1,q2⟩:=f a ha;refine Ox ?_;cases ho.symm.trans q1;exact q2
theorem FW.step(f:FW env Z h)(st:au [] [G.tab] Z h Z' h'):FW env Z' h':=λa ha=>by refine ah λPG Ox=>?_;obtain⟨h1,o,h2,h3⟩:=f a ha;obtain⟨o',q1,q2⟩:=st.keep a o h2 h1 (λq=>nomatch q) (λu vs q=>by rcases h3 with⟨_,_,z⟩|⟨_,z⟩<;>(replace q:=z.symm.trans q)<;>cases q);refine Ox ?_;exact⟨st.Pu h2 h1,o',q1,by(refine q2.data.symm▸?_);exact h3⟩
theorem aV.step{e:Addr}{err:aH}(st:au W [G.tab] Z h Z' h')(hW:∀a∈W,fc h a)(hlo:∀a∈W,∃o,h0.get? a=QA o)(f:aV G h Z h0 fl e err):aV G h' Z' h0 fl e err:=by
 refine ah λPG Ox=>aB f λnq0 nq1=>?_;obtain⟨oe,vs,t,oT,ts,a0⟩:=nq0;obtain⟨p1,p2,p3,q1,q2,q3,q4,q5,q6,q7,q8,q9,q10,q11,q13,q12⟩:=nq1;refine Ox ?_;have keep:∀{a:Addr} {o:Obj} {ws:Array Value},h.get? a=QA o->o.data=.fields ws->a∉own Z->a≠G.tab->h0.get? a=QE->h'.get? a=QA o:=by intro a o ws ho hd hn ht h0a;obtain⟨o',z1,z2⟩:=st.keep a o ho hn (λq=>by refine aB (hlo a q) λu w=>?_;exact nn (h0a.symm.trans w)) (λq=>absurd (OF.mp q) ht);rw[z2.eq (by grind)] at z1;exact z1
 exact⟨⟨oe,vs,t,oT,ts,a0⟩,⟨p1,st.Pu q1 p2,p3,keep q1 q2 p2 p3 p1,q2,q3,q4,q5,q6,st.Pu q9 q7,q8,keep q9 q10 q7 q8 q5,q10,q11,q13,
  br.step st hW (λa ha q=>by refine aB (hlo a ha) λu w=>?_;exact nn (q.symm.trans w)) q12⟩⟩
theorem dB.set(h:dB U)(hv:bF v=QI\/v=.word):dB (U.set i (QA v)):=λj w q=>by
 by_cases hj:j=i
 ·subst hj;have hlt:j<U.length:=by simpa using(OG.mp q).1
  cases(OT hlt).symm.trans q;exact hv
 ·rw[OM (Ne.symm hj)] at q;exact h j w q
noncomputable def clr (U:Loc):Loc:=U.map λ
 |some (.exc _ _)=>QE
 |o=>o
theorem qB(h:(clr U)[i]?=QA (QA v)):U[i]?=QA (QA v)/\(bF v=QI\/v=.word):=by
 unfold clr at h;rw[List.getElem?_map] at h;cases q:U[i]? with
 |none=>rw[q] at h;exact nn h
 |some o=>
  rw[q] at h;cases o with
  |none=>((have hz:=OO h;cases hz))
  |some w=>cases w<;>first|(have h:=OO (OO (show QA (QA _)=QA (QA v) from h));subst h;first|exact⟨rfl,.inl rfl⟩|exact⟨rfl,.inr rfl⟩)|exact nn (OO (show QA QE=QA (QA v) from h))
theorem dY(U:Loc):dB (clr U):=λu u q=>(qB q).2
theorem uR(h:dB U):clr U=U:=by
 unfold clr
 conv=>rhs;rw[<-List.map_id U]
 refine List.map_congr_left λo ho=>aB (Pq ho) λi hi=>?_;cases o with
 |none=>rfl
 |some v=>
  rcases h i v hi with q|rfl
  ·cases v<;>first|rfl|exact ff q
  ·rfl
theorem ba.clr(V:ba G env sc Ov U Z h):ba G env sc Ov (clr U) Z h:=by refine ak V.ns λm hm hr=>⟨V.kind,V.names,V.glob,V.bi,⟨m,hm,λi x v q1 q2 q3=>hr i x v q1 q2 (qB q3).1⟩,λi x q1 q2=>?_,V.loc,V.locT,V.locH⟩;exact ah λPG Ox=>lR (V.cells i x q1 q2) λa ov z1 z2 z3 z4=>Ox (⟨a,ov,z1,z2,z3,λv q=>z4 v (qB q).1⟩)
structure dk(G:Wd)(A:Around)(l:List Env)(n:Nat)(env:Env)(L:Addr)(Ov:Vis)(h0:Heap):Prop where
 C:Cx A l n
 frame:env.frame=QA L
 top:∃OC,l=env::OC
 hH:G.H.StaysIn h0
 vok:nv Ov
 fw0:∀a∈bx env,∃o,h0.get? a=QA o
structure Sx(G:Wd)(A:Around)(l:List Env)(env:Env)(sc:aZ)(Ov:Vis)(Z0:Mu)(h0:Heap)(hd:Option aH)(U:Loc)(Z:Mu)(J:Hp)(s:Shared):Prop where
 R:SR G l Z J s
 V:ba G env sc Ov U Z s.heap
 st:au (bx env) [G.tab] Z0 h0 Z s.heap
 fw:FW env Z s.heap
 nx:hd=QE->dB U
 hand:match hd with
  |none=>A.handled=QE
  |some err=>∃e fl,A.handled=QA (.ref e)/\aV G s.heap Z h0 fl e err
theorem Sx.ex(f:dk G A l n env L Ov h0)(x:Sx G A l env sc Ov Z0 h0 hd U Z J s):Ex G A l n env sc Ov U Z J s:=⟨x.R,x.V,f.C,(let⟨OC,e⟩:=f.top;⟨L,env,OC,f.frame,e,f.frame⟩),λhA=>by
 have:=x.hand;cases hd with
 |none=>exact x.nx rfl
 |some err=>obtain⟨e,fl,h1,_⟩:=this;exact nn (hA.symm.trans h1)⟩
theorem Sx.next(f:dk G A l n env L Ov h0)(x:Sx G A l env sc Ov Z0 h0 hd U Z J s){s':Shared}(R:SR G l Z' J' s')(st:au [] [G.tab] Z s.heap Z' s'.heap):Sx G A l env sc Ov Z0 h0 hd U Z' J' s':=by
 refine⟨R,x.V.step st,x.st.trans (st.wk ON),x.fw.step st,x.nx,?_⟩;have:=x.hand;cases hd with
 |none=>exact this
 |some err=>obtain⟨e,fl,h1,h2⟩:=this;exact⟨e,fl,h1,aV.step st (λu q=>nomatch q) (λu q=>nomatch q) h2⟩
theorem Sx.err(x:Sx G A l env sc Ov Z0 h0 hd U Z J s){err:aH}{c:Value}{s':Shared}(p:sy G l Z s.heap err J' c s'):
  ∃Z' e,c=.ref e/\SR G l Z' J' s'/\au (bx env) [G.tab] Z0 h0 Z' s'.heap/\ba G env sc Ov U Z' s'.heap/\FW env Z' s'.heap/\nu G s'.heap Z' h0 L e err:=by
 refine ah λPG Ox=>?_;refine oV p λZ' e fl er3 R st f=>?_;subst er3;exact Ox (⟨Z',e,rfl,R,x.st.trans (st.wk ON),x.V.step st,x.fw.step st,.inr ⟨fl,f.lower λu=>x.st.none⟩⟩)
end
section
set_option genCtorIdx false
structure Sr(G:Wd)(l:List Env)(env:Env)(sc:aZ)(Ov:Vis)(Z0:Mu)(h0:Heap)(L:Addr)(hd:Option aH)(err:aH)(U:Loc)(e:Addr)(Z:Mu)(J:Hp)(s:Shared):Prop where
 R:SR G l Z J s
 V:ba G env sc Ov (clr U) Z s.heap
 st:au (bx env) [G.tab] Z0 h0 Z s.heap
 fw:FW env Z s.heap
 nx:hd=QE->dB U
 err:nu G s.heap Z h0 L e err
structure pE(G:Wd)(A:Around)(l:List Env)(env:Env)(sc:aZ)(Ov:Vis)(Z0:Mu)(h0:Heap)(L:Addr)(hd:Option aH)(K:KS)(Q:PySem.Flow->Shared->Prop)(E:Value->Shared->Prop):Prop where
 next:∀{U J Z s},K .next U J->Sx G A l env sc Ov Z0 h0 hd U Z J s->Q .next s
 brk:∀{U J Z s},K .brk U J->Sx G A l env sc Ov Z0 h0 hd U Z J s->Q .brk s
 cont:∀{U J Z s},K .cont U J->Sx G A l env sc Ov Z0 h0 hd U Z J s->Q .cont s
 ret:∀{v U J Z s c},K (.ret v) U J->Sx G A l env sc Ov Z0 h0 hd U Z J s->ad G s.heap Z v c->Q (.ret c) s
 err:∀{err U J Z s e},K (.err err) U J->Sr G l env sc Ov Z0 h0 L hd err U e Z J s->E (.ref e) s
theorem Sx.plain(x:Sx G A l env sc Ov Z0 h0 hd U Z J s)(hs:hd=QE\/b=QI):A.handled=QE\/b=QI:=by
 rcases hs with rfl|hs
 ·exact .inl x.hand
 ·exact .inr hs
theorem Sx.fails(x:Sx G A l env sc Ov Z0 h0 hd U Z J s)(qe:∀{err J Z s e},Er err J->Sr G l env sc Ov Z0 h0 L hd err U e Z J s->E (.ref e) s):EP G l Z s.heap Er E:=λerr J' c s' k p=>by refine yJ (x.err (L:=L) p) λZ' e er2 R st V fw er=>?_;subst er2;exact qe k ⟨R,V.clr,st,fw,x.nx,er⟩
theorem eG(hp:aj G n (bP F hd) p){e:Expr}(hc:bg sc Ov p e=QI){K:KV}{Er:KE}(he:cR (bP F hd) p U J K Er)
  (fx:dk G A l n env L Ov h0) (x:Sx G A l env sc Ov Z0 h0 hd U Z J s) (hs:hd=QE\/bA p=QI) (qe:∀{err J Z s e},Er err J->Sr G l env sc Ov Z0 h0 L hd err U e Z J s->E (.ref e) s) {Q:Value->Shared->Prop}
  (hk:∀v J1 μ1 c s1,K v J1->Sx G A l env sc Ov Z0 h0 hd U μ1 J1 s1->ad G s1.heap μ1 v c->au [] [G.tab] Z s.heap μ1 s1.heap->Q c s1):wpAny G.M A (eval e env) Q E s:=
 hp hc he (x.ex fx) (x.plain hs) (λv J1 μ1 c s1 k R1 st1 r1=>hk v J1 μ1 c s1 k (x.next fx R1 st1) r1 st1) (x.fails qe)
theorem zw(hp:bR G n (bP F hd) p){e:Expr}(hc:bg sc Ov p e=QI){K:Bool->Hp->Prop}{Er:KE}(he:fO (bP F hd) p U J K Er)
  (fx:dk G A l n env L Ov h0) (x:Sx G A l env sc Ov Z0 h0 hd U Z J s) (hs:hd=QE\/bA p=QI) (qe:∀{err J Z s e},Er err J->Sr G l env sc Ov Z0 h0 L hd err U e Z J s->E (.ref e) s) {Q:Bool->Shared->Prop}
  (hk:∀b J1 μ1 s1,K b J1->Sx G A l env sc Ov Z0 h0 hd U μ1 J1 s1->Q b s1):wpAny G.M A (isTrue e env (eval e env)) Q E s:=
 hp hc he (x.ex fx) (x.plain hs) (.of λb J1 μ1 s1 k R1 st1=>hk b J1 μ1 s1 k (x.next fx R1 st1)) (x.fails qe)
theorem Sx.storeS(fx:dk G A l n env L Ov h0)(x:Sx G A l env sc Ov Z0 h0 hd U Z J s){v:AV}{c:Value}{i:Nat}{y:Str}{Q:Unit->Shared->Prop}(hi:Ov.lookup i=QA y)(hy:sc.lookup y=QA .local)(hv:hd=QE->bF v=QI\/v=.word)(r:aA G env s.heap Z v c)
  (hQ:∀s',Sx G A l env sc Ov Z0 h0 hd (U.set i (QA v)) Z J s'->au (bx env) [G.tab] Z s.heap Z s'.heap->Q () s'):wpAny G.M A (storeName env y c) Q E s:=by
 refine iJ x.R x.V fx.vok hi hy r λs' R' V' st' hloc hoth=>hQ s' ⟨R',V',x.st.trans st',λa ha=>?_,λq=>(x.nx q).set (hv q),?_⟩ st'
 ·obtain⟨h1,o,h2,h3⟩:=x.fw a ha;refine⟨h1,?_⟩;by_cases z:a=env.locals
  ·obtain⟨o',es,k,q1,q2⟩:=hloc;exact⟨o',z▸q1,.inl ⟨es,k,q2⟩⟩
  ·exact⟨o,(hoth a z).trans h2,h3⟩
 ·have:=x.hand;cases hd with
  |none=>exact this
  |some err=>obtain⟨e,fl,h1,h2⟩:=this;exact⟨e,fl,h1,aV.step st' x.fw.kind fx.fw0 h2⟩
theorem Sx.store(fx:dk G A l n env L Ov h0)(x:Sx G A l env sc Ov Z0 h0 hd U Z J s){v:AV}{c:Value}{i:Nat}{y:Str}{Q:Unit->Shared->Prop}(hi:Ov.lookup i=QA y)(hy:sc.lookup y=QA .local)(hv:hd=QE->bF v=QI\/v=.word)(r:aA G env s.heap Z v c)
  (hQ:∀s',Sx G A l env sc Ov Z0 h0 hd (U.set i (QA v)) Z J s'->Q () s'):wpAny G.M A (storeName env y c) Q E s:=x.storeS fx hi hy hv r λs' x' u=>hQ s' x'
theorem ad.slot(r:ad G h Z v c):aA G env h Z v c:=by cases v<;>first|exact r|exact r.elim
theorem ad.isVal(r:ad G h Z v c):bF v=QI:=by cases v<;>first|rfl|exact r.elim
def oH(G:Wd)(F:Call)(A:Around)(l:List Env)(env:Env)(sc:aZ)(Ov:Vis)(Z0:Mu)(h0:Heap)(L:Addr)(hd:Option aH)(p:PS)(st:Stmt):Prop:=
 ∀{U:Loc} {J:Hp} {K:KS} {Z:Mu} {s:Shared} {Q:PySem.Flow->Shared->Prop} {E:Value->Shared->Prop},ux F p hd U J K->Sx G A l env sc Ov Z0 h0 hd U Z J s->
  pE G A l env sc Ov Z0 h0 L hd K Q E->wpAny G.M A (exec st env) Q E s
def eH(G:Wd)(F:Call)(A:Around)(l:List Env)(env:Env)(sc:aZ)(Ov:Vis)(Z0:Mu)(h0:Heap)(L:Addr)(hd:Option aH)(ps:List PS)(sts:List Stmt):Prop:=
 ∀{U:Loc} {J:Hp} {K:KS} {Z:Mu} {s:Shared} {Q:PySem.Flow->Shared->Prop} {E:Value->Shared->Prop},ax F ps hd U J K->Sx G A l env sc Ov Z0 h0 hd U Z J s->
  pE G A l env sc Ov Z0 h0 L hd K Q E->wpAny G.M A (execs sts env) Q E s
theorem zz:eH G F A l env sc Ov Z0 h0 L hd [] []:=by intro U J K Z s Q E he x q;exact Qz (q.next he x)
theorem lz{p:PS}{ps:List PS}{st:Stmt}{sts:List Stmt}(hp:oH G F A l env sc Ov Z0 h0 L hd p st)(hps:eH G F A l env sc Ov Z0 h0 L hd ps sts):eH G F A l env sc Ov Z0 h0 L hd (p::ps) (st::sts):=by intro U J K Z s Q E he x q;exact wpAny_execs_cons (hp he x ⟨λk x=>hps k x q,q.brk,q.cont,q.ret,q.err⟩)
theorem zA(hp:aj G n (bP F hd) p){e:Expr}(hc:bg sc Ov p e=QI)(hsw:swapsWith e QE pos.line env=pure QK)(fx:dk G A l n env L Ov h0)(hs:hd=QE\/bA p=QI):oH G F A l env sc Ov Z0 h0 L hd (.expr p) (.Expr e pos):=by intro U J K Z s Q E he x q;exact wpAny_Expr_any (eG hp hc he fx x hs q.err λv J1 μ1 c s1 he1 x1 r1 u=>q.next he1 x1) (by simp[interactive,x.V.kind]) hsw
theorem CY(hp:aj G n (bP F hd) p){e:Expr}(hc:bg sc Ov p e=QI)(fx:dk G A l n env L Ov h0)(hs:hd=QE\/bA p=QI):oH G F A l env sc Ov Z0 h0 L hd (.ret p) (.Return (QA e) pos):=by intro U J K Z s Q E he x q;exact wpAny_Return_some (eG hp hc he fx x hs q.err λv J1 μ1 c s1 he1 x1 r1 u=>q.ret he1 x1 r1)
theorem G0{a b:List PS}{e:Expr}{orelse:List Stmt}(hp:bR G n (bP F hd) p)(hc:bg sc Ov p e=QI)(fx:dk G A l n env L Ov h0)(hs:hd=QE\/bA p=QI)
  (ha:eH G F A l env sc Ov Z0 h0 L hd a body) (hb:eH G F A l env sc Ov Z0 h0 L hd b orelse):oH G F A l env sc Ov Z0 h0 L hd (.i p a b) (.If e body orelse pos):=by
 intro U J K Z s Q E he x q;refine wpAny_If (zw hp hc he fx x hs q.err λc J1 μ1 s1 he1 x1=>?_);cases c
 ·exact hb he1 x1 q
 ·exact ha he1 x1 q
theorem CZ:oH G F A l env sc Ov Z0 h0 L hd .brk (.Break pos):=by intro U J K Z s Q E he x q;exact wpAny_Break (q.brk he x)
theorem zB:oH G F A l env sc Ov Z0 h0 L hd .cont (.Continue pos):=by intro U J K Z s Q E he x q;intro Γ p hΓ;exact q.cont he x
end
theorem uS(R:SR G l Z J s)(r:pD l X s.heap h'){v:AV}{c:Value}(hv:bF v=QI\/v=.word)(q:aA G env s.heap Z v c):aA G env h' Z v c:=by
 have st:=r.step R;rcases hv with hv|rfl
 ·exact ad.slot (ad.step st (λu q=>nomatch q) v (q.val hv))
 ·obtain⟨⟨fa,a,doc,pm,c',ctv⟩,⟨e,hn,hf,hc,⟨c2,oc,vs,tq,hc2,hoc,hd,hq⟩,hn',ht⟩⟩:=q;cases hc2;refine⟨⟨fa,a,doc,pm,c',ctv⟩,⟨e,hn,st.same (λu q=>nomatch q) hf hn (by simp) (by simp) (by simp),hc,⟨c',oc,vs,tq,rfl,?_,hd,hq⟩,hn',ht⟩⟩;refine r.same R hoc (λz=>?_) λhm=>?_
  ·obtain⟨vs',hv,hno⟩:=r.recs c' z oc hoc;cases hd.symm.trans hv;exact hno _ _ hq
  ·obtain⟨o2,es,k,q1,q2⟩:=R.QG c' hm;cases hoc.symm.trans q1;cases hd.symm.trans q2
theorem ba.noted(V:ba G env sc Ov U Z s.heap)(R:SR G l Z J s)(r:pD l X s.heap h')(hx:dB U):ba G env sc Ov U Z h':=
 have st:=r.step R
 V.map (λi v u q w=>uS R r (hx i v q) w) (λv u w=>ad.step st (λu q=>nomatch q) v w) (λu hm=>⟨jZ hm λo ho=>st.keep _ o ho V.loc (λq=>nomatch q) λu vs z=>(qz hm o ho).elim (λw=>w.elim λu w=>w.elim λu w=>(nomatch w.symm.trans z)) (λw=>w.elim λu w=>(nomatch w.symm.trans z)),V.loc⟩) λu u u hn ho hd=>st.cell hn ho hd
theorem FW.noted(f:FW env Z s.heap)(R:SR G l Z J s)(r:pD l X s.heap h'):FW env Z h':=λa ha=>by refine ah λPG Ox=>?_;obtain⟨h1,o,h2,h3⟩:=f a ha;obtain⟨o',q1,q2⟩:=(r.step R).keep a o h2 h1 (λq=>nomatch q) (λu vs q=>by rcases h3 with⟨_,_,z⟩|⟨_,z⟩<;>(replace q:=z.symm.trans q)<;>cases q);refine Ox ?_;exact⟨h1,o',q1,by(refine q2.data.symm▸?_);exact h3⟩
theorem qC{e:Addr}{err:aH}(fx:dk G A l n env L Ov h0)(hA':A'.frames=QA l)(x:Sr G l env sc Ov Z0 h0 L hd err U e Z J s)
  (hE:∀s',Sr G l env sc Ov Z0 h0 L hd err U e Z J s'->E (.ref e) s'):notedBy G.M A' env (λe s'=>cameBackBy G.M A env E e s') (.ref e) s:=by
 have hx:=dY U;obtain⟨OC,rfl⟩:=fx.top;refine iI x.R hA' fx.frame x.st fx.hH x.err λh1 _ R1 f1 st1 ⟨X1,r1⟩=>?_;have V1:=x.V.noted x.R r1 hx;have W1:=x.fw.noted x.R r1;unfold cameBackBy;have f0:=f1;refine ah λPG Ox=>?_;refine f0.e λoe vs t oT ts a0 p1 p2 p3 q1 q2 q3 q4 u u u u u u u u u=>?_;refine Ox (Pf (Pk (s:={s with heap:=h1}) q1 q2 q4 ?_));rw[if_neg (by simp)];refine cX (s:={s with heap:=h1}) R1 st1 fx.hH f1 λh2 R2 f2 st2 ⟨X2,r2⟩=>?_;rw[fx.frame] at f2;exact hE _ ⟨R2,V1.noted (s:={s with heap:=h1}) R1 r2 hx,st2,FW.noted (s:={s with heap:=h1}) W1 R1 r2,x.nx,.inr ⟨_,f2⟩⟩
theorem j8{e:Addr}{err:aH}(fx:dk G A l n env L Ov h0)(x:Sr G l env sc Ov Z0 h0 L hd err U e Z J s)
  (hE:∀s',Sr G l env sc Ov Z0 h0 L hd err U e Z J s'->E (.ref e) s'):notedBy G.M A env (λe s'=>cameBackBy G.M A env E e s') (.ref e) s:=qC fx fx.C.frames x hE
theorem xK{b:List PS}{e:Expr}(hp:bR G n (bP F QE) p)(hc:bg sc Ov p e=QI)(fx:dk G A l n env L Ov h0)
  (hb:eH G F A l env sc Ov Z0 h0 L QE b body):oH G F A l env sc Ov Z0 h0 L QE (.w p b) (.While e body [] pos):=by
 intro U J K Z s Q E he x q;refine wpAny_While (codeAny_whileLoop (λk s=>∃U J Z,eE (fO (bP F QE) p) (ax F b QE) K k U J/\Sx G A l env sc Ov Z0 h0 QE U Z J s) (λk s hI=>?_) N ⟨U,J,Z,he,x⟩);refine eJ hI λU J Z he x=>?_;cases k with
 |zero=>exact he.elim
 |succ k=>
  refine zw hp hc he fx x (.inl rfl) (λk sr=>j8 fx sr λs' sr'=>q.err k sr') λc J1 μ1 s1 he1 x1=>?_;cases c with
  |false=>exact(if_neg dc).mpr (Qz (q.next he1 x1))
  |true=>exact(if_pos rfl).mpr (hb he1 x1 ⟨λhe2 x2=>⟨k,PU k,_,_,_,he2,x2⟩,λk x2=>q.next k x2,λhe2 x2=>⟨k,PU k,_,_,_,he2,x2⟩,q.ret,λk sr=>j8 fx sr λs' sr'=>q.err k sr'⟩)
theorem G1{a b:List Nat}(q:St a=St b):a=b:=by simpa[St] using q
theorem xL{kvs:List (Str×Value)}{k:Str}(hn:k∉kvs.map (·.1)):kvs.map (λkv=>if kv.1=k then(kv.1,c) else kv)=kvs:=by
 induction kvs with
 |nil=>rfl
 |cons a r ih=>rw[PO,OZ,not_or] at hn;have ih:=ih hn.2;simp only[PO,ih];rw[if_neg (Ne.symm hn.1)]
theorem bO.stored{es:List (List Nat×AV)}{kvs:List (Str×Value)}(r:bO G h Z es kvs)(hn:(kvs.map (·.1)).Nodup){k:List Nat}{v:AV}{c:Value}(rv:ad G h Z v c):bO G h Z (bC k v es) (PySem.stored kvs (St k) c):=by
 induction r with
 |nil=>exact .cons rv .nil
 |@cons s0 v0 c0 es kvs r0 r1 ih=>
  simp only[PO,Qe] at hn;by_cases hk:s0=k
  ·subst hk;have:PySem.stored ((St s0,c0)::kvs) (St s0) c=(St s0,c)::kvs:=by simp only[PySem.stored,List.any_cons,decide_true,Bool.true_or,if_true,PO];exact PK _ (xL hn.1)
   rw[this];rw[kY,if_pos rfl];exact .cons rv r1
  ·have hne: ¬St s0=St k:=λq=>hk (G1 q);have:PySem.stored ((St s0,c0)::kvs) (St k) c=(St s0,c0)::PySem.stored kvs (St k) c:=by simp only[PySem.stored,List.any_cons,decide_eq_true_eq,hne,decide_false,Bool.false_or];split<;>simp[hne]
   rw[this];rw[kY,if_neg hk];exact .cons r0 (ih hn.2)
theorem dG(k:List Nat)(v:AV):∀es:List (List Nat×AV),(bC k v es).length<=es.length+1
 |[]=>OX _
 |e::r=>by
  rw[kY];split
  ·exact PR _
  ·have:=dG k v r;simp;exact this
theorem uT{ep:Nat}{k:Int}{t:Tok}{v:Value}{Q:Unit->Shared->Prop}(ho:s.heap.get? d=QA {cls:=.type "list",dict:=QE,data:=.seq items ep,slots:= #[]})(hj:j<items.size)(hk:k=j)(h0:0<=k)(hfit:k<2 ^ 63)
  (hQ:Q () {s with heap:=s.heap.update d (Obj.mapSeq (·.setIfInBounds j v))}):wpAny G.M A (setItem (.ref d) (.int k t) v) Q E s:=by
 have hl:s.heap.IsList d items:=⟨_,ho,rfl,ep,rfl⟩;have hx:items[j]?=QA items[j]:=Array.getElem?_eq_getElem hj;unfold setItem
 try with_reducible refine Pi ?_
 first|refine Pf (Ph ?_)|skip
 refine Pf (wpAny_sequenceKey hl.typeIs dc ?_);refine Pf (Qr (name:=Str.ofString "__setitem__") hl.typeIs slot_list_setitem ?_);refine Qq slot_list_setitem hl.typeIs entry_list_setitem ?_ (args_list_setitem _ _ _);show wpAny _ _ (Builtin.List.listSubscript? (.int k t) >>= _) _ _ s;refine Pf (wpAny_listSubscript_int (fitsIndex_of h0 hfit) ?_);clear hfit;subst hk;show wpAny _ _ ((seqItemAt d j >>= λr=>pure (r.map (j, ·))) >>= _) _ _ s;refine Pf (Pf (wpAny_seqItemAt ho rfl (Ph ?_)))
 (refine hx.symm▸?_)
 show wpAny _ _ (setSeqItemAt d j v >>= _) _ _ s;refine Pf (wpAny_setSeqItemAt ho rfl ?_)
 first
  |exact Pf (Ph (Ph ⟨.none,rfl,Ph hQ⟩))
  |exact Ph ⟨.none,rfl,Ph hQ⟩
theorem oB.at(R:SR G l Z J s){a b va:AV}(e:oB J va a b J'){v:Value}(rv:ad G s.heap Z va v):∀(c d:Value),ad G s.heap Z a c->ad G s.heap Z b d->qj G A l Z s (setItem c d v) J':=
 oB.rec (motive:=λa b J' u=>∀(c d:Value),ad G s.heap Z a c->ad G s.heap Z b d->qj G A l Z s (setItem c d v) J')
  (λk j vs q hlt c d r r'=>jy (C:=λc=>qj G A l Z s (setItem c d v) (J.set k (.list (vs.set j va)))) r λx dd e2=>eU (C:=λd=>qj G A l Z s (setItem (.ref x) d v) (J.set k (.list (vs.set j va)))) r' λu0u E Q hQ=>by
    refine ah λPG Ox=>?_;obtain⟨x',d',e1,rfl,OB,items,nq6,rs⟩:=R.at q;obtain⟨ep,ho⟩:=nq6;refine Ox ?_;replace e2:=e1.symm.trans e2;cases e2;have hsz:items.size=vs.length:=by have:=rs.length;simpa using this
    have hj:j<items.size:=by rw[hsz];exact hlt
    refine uT ho hj rfl (Px _) (by unfold aE at OB;omega) ?_;have hs:Heap.SameBut x s.heap (s.heap.update x (Obj.mapSeq (·.setIfInBounds j v))):=Qj ..;have hu:=PH (Obj.mapSeq (·.setIfInBounds j v)) ho (by rfl);revert hs hu;generalize s.heap.update x (Obj.mapSeq (·.setIfInBounds j v))=H;intro hs hu;have st:au [] [G.tab] Z s.heap Z H:=.put (cr e1) hs hu;have z:=R.upd e1 hs (ob:=.list (vs.set j va)) ⟨rfl,by simpa using OB,items.setIfInBounds j v,⟨_,hu⟩,by have:=af.set (af.st st rs) j (ad.st st rv);simpa using this⟩ s.toks
    exact hQ _ z.1 z.2)
  (λk es y q hlt c d r r'=>jy (C:=λc=>qj G A l Z s (setItem c d v) (J.set k (.dict (bC y va es)))) r λx dd e2=>cJ (C:=λd=>qj G A l Z s (setItem (.ref x) d v) (J.set k (.dict (bC y va es)))) r' λt E Q hQ=>by
    refine ah λPG Ox=>?_;obtain⟨x',d',e1,rfl,OB,kvs,hD,re⟩:=R.at q;refine Ox ?_;replace e2:=e1.symm.trans e2;cases e2;have hk:(strKind G.prog G.w).is (St y) (.str (St y) t)=QI:=by exact if_pos rfl
    refine wpAny_setItem_pairs hk hD (λh' hD' hs=>?_) (fX (by rw[re.length];exact OB));refine ah λPG Ox=>eJ (id hD') λo' es' ep' ho' u=>Ox ?_;have st:au [] [G.tab] Z s.heap Z h':=.put (cr e1) hs ho';refine ah λPG Ox=>Fi hD λu u u u u u u u hnd=>Ox ?_;have z:=R.upd e1 hs (ob:=.dict (bC y va es)) ⟨rfl,OK (dG y va es) hlt,_,hD',bO.step st (λu q=>nomatch q) (re.stored hnd rv)⟩ (s.toks+1);exact hQ _ z.1 z.2) e
section
set_option genCtorIdx false
mutual
noncomputable def oJ (sc:aZ) (Ov:Vis):PT->Expr->Bool
 |.v i,e=>bE e λx u=>Ov.lookup i==QA x&&sc.lookup x==QA .local
 |.tup ts,e=>cTuple e λes u u=>wd sc Ov ts es
 |.attr p f,e=>bp e λa n u=>bg sc Ov p a&&T.attr[f]?==QA n
 |.sub p i,e=>fe e λa b u=>bg sc Ov p a&&bg sc Ov i b&&bQ b
noncomputable def wd (sc:aZ) (Ov:Vis):List PT->List Expr->Bool
 |[],l=>c0 l QI
 |t::ts,l=>et l λe es=>oJ sc Ov t e&&wd sc Ov ts es
end
noncomputable def qD:PT->Bool
 |.v _=>QI
 |.attr e _=>bA e
 |_=>QK
structure sP(G:Wd)(A:Around)(l:List Env)(env:Env)(sc:aZ)(Ov:Vis)(Z0:Mu)(h0:Heap)(L:Addr)(hd:Option aH)(Z:Mu)(h:Heap)(K:KS)(Q:Unit->Shared->Prop)(E:Value->Shared->Prop):Prop where
 next:∀{U J Z' s},K .next U J->Sx G A l env sc Ov Z0 h0 hd U Z' J s->au (bx env) [G.tab] Z h Z' s.heap->Q () s
 err:∀{err U J Z s e},K (.err err) U J->Sr G l env sc Ov Z0 h0 L hd err U e Z J s->E (.ref e) s
theorem sP.tr{K:KS}{Q:Unit->Shared->Prop}(q:sP G A l env sc Ov Z0 h0 L hd Z h K Q E)(st:au (bx env) [G.tab] Z h Z' h'):sP G A l env sc Ov Z0 h0 L hd Z' h' K Q E:=⟨λk x st2=>q.next k x (st.trans st2),q.err⟩
def zC(G:Wd)(F:Call)(A:Around)(l:List Env)(env:Env)(sc:aZ)(Ov:Vis)(Z0:Mu)(h0:Heap)(L:Addr)(hd:Option aH)(t:PT):Prop:=
 ∀{tgt:Expr} {U:Loc} {J:Hp} {K:KS} {Z:Mu} {s:Shared} {v:AV} {c:Value} {Q:Unit->Shared->Prop} {E:Value->Shared->Prop},oJ sc Ov t tgt=QI->(hd=QE\/qD t=QI)->yO (bP F hd) t v U J K->Sx G A l env sc Ov Z0 h0 hd U Z J s->ad G s.heap Z v c->
  sP G A l env sc Ov Z0 h0 L hd Z s.heap K Q E->wpAny G.M A (assign tgt env c) Q E s
theorem C0(fx:dk G A l n env L Ov h0):zC G F A l env sc Ov Z0 h0 L hd (.v i):=by intro tgt U J K Z s v c Q E hc hs he x r q;exact aN (C:=λtgt=>wpAny _ _ (assign tgt env c) _ _ _) hc λy py hc=>b2 hc λh1 h2=>wpAny_assign_Name (x.storeS fx (Pl h1) (Pl h2) (λu=>.inl r.isVal) r.slot λs' x' st'=>q.next he.2 x' st')
theorem zD(ok:jN G)(NO:aQ G){p:PE}{f:Nat}(hp:aj G n (bP F hd) p)(fx:dk G A l n env L Ov h0):zC G F A l env sc Ov Z0 h0 L hd (.attr p f):=by
 intro tgt U J K Z s v c Q E hc hs he x r q;refine aX (C:=λtgt=>wpAny _ _ (assign tgt env c) _ _ _) hc λo nm pos hc=>b2 hc λh1 h2=>?_;have hf:=NO.attr f _ (Pl h2)
 ((refine(assign_Attribute ..).symm▸?_;refine hf.2▸?_))
 exact Pf (Pi (eG hp h1 he fx x hs q.err λa J1 μ1 ca s1 he1 x1 r1 st1=>Pf (Pj (Pf (Pi (he1.elim λJ2 k=>k.1.at ok x1.R (ad.st st1 r) hf.1 _ r1 E _ λs2 R2 st2=>wpAny_release (q.next k.2 (x1.next fx R2 st2) ((st1.trans st2).wk ON))))))))
theorem C2{i:PE}(hp:aj G n (bP F hd) p)(hi:aj G n (bP F hd) i)(fx:dk G A l n env L Ov h0):zC G F A l env sc Ov Z0 h0 L hd (.sub p i):=by
 intro tgt U J K Z s v c Q E hc hs he x r q;have hs:hd=QE:=hs.resolve_right Bool.noConfusion;refine b9 (C:=λtgt=>wpAny _ _ (assign tgt env c) _ _ _) hc λo ix pos hc=>b3 hc λh1 h2 u=>?_;rw[assign_Subscript];exact Pf (Pi (eG hp h1 he fx x (.inl hs) q.err λa J1 μ1 ca s1 he1 x1 r1 st1=>Pf (Pi (eG hi h2 he1 fx x1 (.inl hs) q.err λb J2 Z2 cb s2 he2 x2 r2 st2=>
  Pf (Pj (Pf (Pi (he2.elim λJ3 k=>k.1.at x2.R (ad.st (st1.trans st2) r) _ _ (ad.st st2 r1) r2 E _ λs3 R3 st3=>wpAny_release (q.next k.2 (x2.next fx R3 st3) (((st1.trans st2).trans st3).wk ON))))))))))
theorem we:∀{t:PT} {e:Expr} {es:List Expr},oJ sc Ov t e=QI->assignEach (e::es) env=(QK,assign e env)::assignEach es env
 |.v _,_,es,h=>aN (C:=λe=>assignEach (e::es) env=(QK,assign e env)::assignEach es env) h λu u u=>rfl
 |.tup _,_,es,h=>dQ (C:=λe=>assignEach (e::es) env=(QK,assign e env)::assignEach es env) h λu u u u=>rfl
 |.attr _ _,_,es,h=>aX (C:=λe=>assignEach (e::es) env=(QK,assign e env)::assignEach es env) h λu u u u=>rfl
 |.sub _ _,_,es,h=>b9 (C:=λe=>assignEach (e::es) env=(QK,assign e env)::assignEach es env) h λu u u u=>rfl
theorem zE:∀(ts:List PT) {es:List Expr},wd sc Ov ts es=QI->(assignEach es env).map (·.2)=es.map (assign · env)/\(assignEach es env).findIdx? (·.1)=QE/\(assignEach es env).length=es.length/\es.length=ts.length
 |[],_,hc=>bB (C:=λes=>(assignEach es env).map (·.2)=es.map (assign · env)/\(assignEach es env).findIdx? (·.1)=QE/\(assignEach es env).length=es.length/\es.length=0) hc λu=>⟨rfl,rfl,rfl,rfl⟩
 |t::ts,_,hc=>aI (C:=λes=>(assignEach es env).map (·.2)=es.map (assign · env)/\(assignEach es env).findIdx? (·.1)=QE/\(assignEach es env).length=es.length/\es.length=ts.length+1) hc λe es hc=>b2 hc λh1 h2=>by
  have ih:=zE ts h2
  (refine(we h1).symm▸?_)
  refine⟨PK (_:: ·) ih.1,?_,PK (·+1) ih.2.2.1,PK (·+1) ih.2.2.2⟩;refine(List.findIdx?_cons ..).trans ?_
  (rw[ih.2.1];rfl)
theorem nw:∀(ts:List PT),(∀t∈ts,zC G F A l env sc Ov Z0 h0 L QE t)->∀{es:List Expr} {vs:List AV} {cs:List Value} {U:Loc} {J:Hp} {K:KS} {Z:Mu} {s:Shared} {Q:Unit->Shared->Prop} {E:Value->Shared->Prop},
  wd sc Ov ts es=QI->Cv F ts vs U J K->Sx G A l env sc Ov Z0 h0 QE U Z J s->af G s.heap Z vs cs->sP G A l env sc Ov Z0 h0 L QE Z s.heap K Q E->
  wpAny G.M A (assignInOrder (es.map (assign · env)) cs) Q E s
 |[],_,es,vs,cs,U,J,K,Z,s,Q,E,hc,he,x,r,q=>by
  cases vs with
  |cons _ _=>exact he.elim
  |nil=>subst r;exact bB (C:=λes=>wpAny _ _ (assignInOrder (es.map (assign · env)) _) _ _ _) hc λu=>wpAny_assignInOrder_none (q.next he x .refl)
 |t::ts,hts,es,vs,cs,U,J,K,Z,s,Q,E,hc,he,x,r,q=>by
  cases vs with
  |nil=>exact he.elim
  |cons v vs=>
   refine jP r λc cs er2 r1 r2=>?_;subst er2;exact aI (C:=λes=>wpAny _ _ (assignInOrder (es.map (assign · env)) _) _ _ _) hc λe es hc=>b2 hc λh1 h2=>wpAny_assignInOrder_more (hts t (.head _) h1 (.inl rfl) he x r1
    ⟨λk x1 st1=>nw ts (λt ht=>hts t (.tail _ ht)) h2 k x1 (af.step st1 x.fw.kind vs r2) (q.tr st1),q.err⟩)
theorem C3{ts:List PT}(hts:∀t∈ts,zC G F A l env sc Ov Z0 h0 L QE t)(fx:dk G A l n env L Ov h0):zC G F A l env sc Ov Z0 h0 L hd (.tup ts):=by
 intro tgt U J K Z s v c Q E hc hs he x r q;have hs:hd=QE:=hs.resolve_right Bool.noConfusion;subst hs;refine dQ (C:=λtgt=>wpAny _ _ (assign tgt env c) _ _ _) hc λes k1 pos hc=>?_;cases v with
 |tup vs=>
  obtain⟨_,a,items,rfl,ht,hn,rs⟩:=r;have n1:=zE (env:=env) ts hc;have hsz:items.size=vs.length:=by have:=rs.length;simpa using this
  have hl:vs.length=ts.length:=he.1;refine wpAny_assign_Tuple x.hand ht.isTuple ((n1.2.2.1.trans n1.2.2.2).trans (hsz.trans hl).symm) n1.2.1 λh' hx=>?_;have k:∀b o,s.heap.get? b=QA o->h'.get? b=QA o:=λb o hb=>hx b o (PD (Pe hb)) hb;have rc:pD l [] s.heap h':=⟨λa o e=>⟨o,k a o e⟩,λa o e u=>⟨o,k a o e,.inl rfl⟩,λu q=>nomatch q⟩;have st:au [] [G.tab] Z s.heap Z h':=.on k
  (refine n1.1.symm▸?_)
  exact nw ts hts hc he.2 (x.next fx (x.R.noted rc (λu q=>nomatch q) s.toks) st) (af.st st rs) (q.tr (st.wk ON))
 |_=>exact he.elim
end
noncomputable def nz (e:Expr):Bool:= !(e.ctorIdx==8||e.ctorIdx==9||e.ctorIdx==10)
theorem pF{e:Expr}(he:nz e=QI)(t:Option Expr)(line:Nat)(env:Env):swapsWith e t line env=pure QK:=by unfold nz at he;simp only[Bool.not_eq_true',Bool.or_eq_false_iff,PJ] at he;have h1:=he.1.1;have h2:=he.1.2;have h3:=he.2;clear he;cases e<;>first|rfl|exact absurd rfl h1|exact absurd rfl h2|exact absurd rfl h3
noncomputable def kc (tgt e:Expr):Bool:=(tgt.ctorIdx==23||tgt.ctorIdx==20||tgt.ctorIdx==21)||(tgt.ctorIdx==25&&((cTuple tgt λts u u=>et ts λt u=>t.ctorIdx==20)|| !(e.ctorIdx==25)))
theorem qE{g:Expr->Option Str}{t:Expr}{ts:List Expr}(hg:g t=QE):((t::ts).filterMap g).length<(t::ts).length:=by rw[List.filterMap_cons_none hg];have:=List.length_filterMap_le g ts;simp;exact Nat.lt_succ_of_le ‹_›
theorem zF{c:Prop}[Decidable c]{x y z:α}(hx:x=z)(hy: ¬c->y=z):ite c x y=z:=by
 by_cases h:c
 ·exact(if_pos h).trans hx
 ·exact(if_neg h).trans (hy h)
theorem kf{o:Expr}{a:Str}{p:Pos}{ts vs:List Expr}{k2:Nat}{pos2:Pos}(env:Env):swappedStores [.Tuple (.Attribute o a p::ts) k pos] (.Tuple vs k2 pos2) env=pure QE:=by refine zF rfl λu=>zF rfl λu=>(if_pos ?_).trans rfl;exact Pp.mpr (.inl (bne_iff_ne.mpr (PD (qE rfl))))
theorem qF{e:Expr}(hs:kc tgt e=QI)(env:Env):swappedStores [tgt] e env=pure QE:=by
 unfold kc at hs;rcases Pp.mp hs with h|h
 ·simp only[Bool.or_eq_true,beq_iff_eq] at h;rcases h with(h|h)|h
  ·exact @Expr.Name.elim (λt=>swappedStores [t] e env=pure QE) tgt h λu u=>rfl
  ·exact @Expr.Attribute.elim (λt=>swappedStores [t] e env=pure QE) tgt h λu u u=>rfl
  ·exact @Expr.Subscript.elim (λt=>swappedStores [t] e env=pure QE) tgt h λu u u=>rfl
 ·refine b2 h λh1 h2=> @Expr.Tuple.elim (λt=>((cTuple t λts u u=>et ts λt u=>t.ctorIdx==20)|| !(e.ctorIdx==25))=QI->swappedStores [t] e env=pure QE) tgt (Pl h1) (λts k pos h2=>?_) h2;cases he:e.ctorIdx==25 with
  |false=>
   have he:e.ctorIdx≠25:=by simpa using he
   clear h2 h hs;cases e<;>first|rfl|exact absurd rfl he
  |true=>rw[he] at h2;refine @Expr.Tuple.elim (λe=>swappedStores [.Tuple ts k pos] e env=pure QE) e (Pl he) λvs k2 pos2=>?_;have h2:(et ts λt u=>t.ctorIdx==20)=QI:=(Bool.or_false _).symm.trans h2;exact aI (C:=λts=>swappedStores [.Tuple ts k pos] (.Tuple vs k2 pos2) env=pure QE) h2 λt ts ht=> @Expr.Attribute.elim (λt=>swappedStores [.Tuple (t::ts) k pos] (.Tuple vs k2 pos2) env=pure QE) t (Pl ht) λo a p=>kf env
theorem C4{t:PT}{e:Expr}(hp:aj G n (bP F hd) p)(ht:zC G F A l env sc Ov Z0 h0 L hd t)(hc:bg sc Ov p e=QI)(hct:oJ sc Ov t tgt=QI)(fx:dk G A l n env L Ov h0)(hs:hd=QE\/bA p=QI)(hst:hd=QE\/qD t=QI)
  (h1:nz e=QI) (h2:kc tgt e=QI):oH G F A l env sc Ov Z0 h0 L hd (.a t p) (.Assign [tgt] e pos):=by
 intro U J K Z s Q E he x q;refine wpAny_Assign_stores (eG hp hc he fx x hs q.err λv J1 μ1 c s1 he1 x1 r1 u=>?_) (pF h1 _ _ _) (qF h2 _);rw[we (es:=[]) hct];exact ht hct hst he1 x1 r1 ⟨λk x2 u=>q.next k x2,q.err⟩
theorem kX.at(R:SR G l Z J s){op:Bop}{a b v:AV}(e:kX op a b v):∀(c d:Value),ad G s.heap Z a c->ad G s.heap Z b d->ay G A l Z s (inplaceOp (jn op) c d) v J:=
 kX.rec (motive:=λop a b v u=>∀(c d:Value),ad G s.heap Z a c->ad G s.heap Z b d->ay G A l Z s (inplaceOp (jn op) c d) v J)
  (λx y c d r r'=>eU (C:=λc=>ay G A l Z s (inplaceOp .Add c d) (.int (x+y)) J) r λt=>eU (C:=λd=>ay G A l Z s (inplaceOp .Add (.int x t) d) (.int (x+y)) J) r' λt' E Q hQ=>P.iadd_int (hQ _ _ (aT.here (v:=.int _) R ⟨_,rfl⟩ _)))
  (λx y hs c d r r'=>cJ (C:=λc=>ay G A l Z s (inplaceOp .Add c d) (.str (x++y)) J) r λt=>cJ (C:=λd=>ay G A l Z s (inplaceOp .Add (.str (St x) t) d) (.str (x++y)) J) r' λt' E Q hQ=>SB.iadd (λt'' k=>by rw[i4];exact hQ _ _ (aT.here (v:=.str _) R ⟨hs,_,rfl⟩ _)) (by rw[aM,aM];exact fX (by simpa using hs))) e
theorem kX.val{a b:AV}(e:kX op a b v):bF a=QI:=kX.rec (motive:=λu a u u u=>bF a=QI) (λu u=>rfl) (λu u u=>rfl) e
theorem zG{y:Str}{py:Pos}{e:Expr}(hp:aj G n (bP F QE) p)(hc:bg sc Ov p e=QI)(hi:Ov.lookup i=QA y)(hy:sc.lookup y=QA .local)(fx:dk G A l n env L Ov h0):
  oH G F A l env sc Ov Z0 h0 L QE (.augV i op p) (.AugAssign (.Name y py) (jn op) e pos):=by
 intro U J K Z s Q E he x q;refine dS he λa ha he=>ah λPG Ox=>ak x.V.ns λm hm hr=>ak (hr i y a hi hy ha) λc q1 q2=>Ox ?_;exact wpAny_AugAssign_Name (wpAny_loadName_local x.V.kind (by unfold Env.kindOf;refine(PK _ x.V.names).trans ?_;exact hy) hm q1 (eG hp hc he fx x (.inl rfl) q.err λb J1 μ1 cb s1 he1 x1 r1 st1=>he1.elim λv k=>k.1.at x1.R _ _ (ad.st st1 (q2.val k.1.val)) r1 E _ λc2 s2 p=>p.elim λZ2 p=>(x1.next fx p.1 p.2.1).store fx hi hy (λu=>.inl p.2.2.isVal) p.2.2.slot λs3 x3=>q.next k.2 x3))
theorem zH(ok:jN G)(NO:aQ G){po:PE}{f:Nat}{op:Bop}{p:PE}{nm:Str}{tp:Pos}{eo e:Expr}(hpo:aj G n (bP F QE) po)(hp:aj G n (bP F QE) p)(hco:bg sc Ov po eo=QI)(hc:bg sc Ov p e=QI)
  (hf:T.attr[f]?=QA nm) (fx:dk G A l n env L Ov h0):oH G F A l env sc Ov Z0 h0 L QE (.augA po f op p) (.AugAssign (.Attribute eo nm tp) (jn op) e pos):=by
 intro U J K Z s Q E he x q;have hfA:=NO.attr f _ hf
 (refine hfA.2▸?_)
 exact wpAny_AugAssign_AttributeAny (eG hpo hco he fx x (.inl rfl) q.err λov J1 μ1 co s1 he1 x1 r1 st1=>he1.elim λa he2=>he2.1.at ok x1.R hfA.1 _ _ r1 E _ λc2 s2 pp=>pp.elim λZ2 pp=>
  have x2:=x1.next fx pp.1 pp.2.1
  eG hp hc he2.2 fx x2 (.inl rfl) q.err λb J3 Z3 cb s3 he3 x3 r3 st3=>he3.elim λv k=>k.1.at x3.R _ _ (ad.st st3 pp.2.2) r3 E _ λc4 s4 p4=>p4.elim λμ4 p4=>k.2.elim λJ5 k=>k.1.at ok p4.1 p4.2.2 hfA.1 _ (ad.st ((pp.2.1.trans st3).trans p4.2.1) r1) E _ λs5 R5 st5=>q.next k.2 ((x3.next fx p4.1 p4.2.1).next fx R5 st5))
theorem SR.QD(R:SR G l Z J s){a:Addr}(ha:s.heap.get? a=QE):a∉own Z/\a≠G.tab:=by
 refine⟨λhm=>?_,λz=>?_⟩
 ·obtain⟨⟨x',d'⟩,hp,rfl⟩:=Pa.mp hm;refine ah λPG Ox=>?_;obtain⟨i,hi,e'⟩:=List.mem_iff_getElem.mp hp;exact ak (R.atμ (k:=i) (x:=x') (d:=d') (by simp[hi,e'])) λo u ro=>aB ro.there λob z=>Ox (nn (ha.symm.trans z))
 ·obtain⟨ps,w,_⟩:=R.tabs;rw[<-z,ha] at w;exact nn w
theorem SR.keeps(R:SR G l Z J s)(k:∀b o,s.heap.get? b=QA o->h'.get? b=QA o)(t:Nat):SR G l Z J {s with heap:=h',toks:=t}/\au [] [G.tab] Z s.heap Z h':=by have rc:pD l [] s.heap h':=⟨λa o e=>⟨o,k a o e⟩,λa o e u=>⟨o,k a o e,.inl rfl⟩,λu q=>nomatch q⟩;exact⟨R.noted rc (λu q=>nomatch q) t,.on k⟩
theorem uU(NO:aQ G){p:PE}{e:Expr}{np cp:Pos}(hp:aj G n (bP F QE) p)(hc:bg sc Ov p e=QI)(hpl:bQ e=QI)(hg:bn sc "ValueError"=QI)(fx:dk G A l n env L Ov h0):
  oH G F A l env sc Ov Z0 h0 L QE (.q p) (.Raise (QA (.Call (.Name "ValueError" np) [e] [] cp)) QE pos):=by
 intro U J K Z s Q E he x q;have hb:(backTo cp (starEach [e] env))=[(QK,eval e env)]:=by refine(bI hpl).trans ?_;rfl
 have hbi:=NO.bi ("ValueError",.type "ValueError") (OE (i:=10) rfl);refine wpAny_Raise_call PySem.F.excCall_ValueError PySem.F.excRaise_ValueError x.hand (by rw[hb];rfl) ?_;refine bz NO x.R x.V hg hbi.1 hbi.2 ⟨rfl,?_⟩
 (refine hb.symm▸?_)
 refine Qu (PF (eG hp hc he.2 fx x (.inl rfl) q.err λv J1 μ1 c s1 he1 x1 r1 st1=>?_));refine Ph ⟨rfl,PY _,λh' e hm=>?_⟩;have R2:=x1.R.keeps hm.keeps s1.toks;have hno:=x1.R.QD hm.new;have x2:=x1.next fx R2.1 R2.2;exact hm.there.elim λt ht=>q.err (s:={s1 with heap:=h'}) he1 ⟨R2.1,x2.V.clr,x2.st,x2.fw,x2.nx,.inl ⟨x1.st.none hm.new,hno.1,hno.2,_,_,_,ht.1,rfl,rfl,rfl,rfl⟩⟩
section
variable{prog:Program}{w:World}{A:Around}{E:Value->Shared->Prop}{s:Shared}
def pG(it:Addr)(h h':Heap):Prop:=Heap.ExtBut it h h'/\∃o,h'.get? it=QA o
theorem pH{vs:Array Value}{rn:String}(hh:A.handled=QE)(ho:s.heap.get? it=QA o)(hd:o.data=.fields vs)(h0:0<vs.size)
  (h:∀e h',pG it s.heap h'->(∃oe,h'.get? e=QA oe/\oe.cls=.type "StopIteration")->E' (.ref e) {s with heap:=h'}) {α:Type} {K:α->Shared->Prop}:
  wpAny (model prog w) A (do rule rn;setField (.ref it) 0 .none;raiseNew (<-newExc (.type "StopIteration") [])) K E' s:=by
 have hu:=PH (Obj.mapFields (·.setIfInBounds 0 Value.none)) ho (Obj.isFreed_of_fields (Qw hd _));refine Pf (wpAny_rule (Pf (wpAny_setField ho hd h0 (Pf ?_))));simp only[newExc,newTuple];refine Pf (wpAny_newObj_type (Pf (m:=firstArgMember _ _) (wpAny_of_eq (a:=Value.none) (by first|rfl|(simp only[firstArgMember];rfl)) (wpAny_newObj_type ?_ (by size_fits)))) (by size_fits));unfold raiseNew;refine Pf (wpAny_handled ?_)
 (refine hh.symm▸?_)
 refine Pf (Ph (wpAny_throw (h _ _ ⟨((Qj ..).extBut.push _).push _,_,OH _ (OH _ hu)⟩ ⟨_,OS _ rfl,rfl⟩)))
def cF(h:Heap)(it t:Addr)(i:Nat)(tup:Bool):Prop:=∃o,h.get? it=QA o/\o.cls=.type (if tup then "tuple_iterator" else "list_iterator")/\o.data=.fields #[.ref t,.int i 0]
theorem pI{x:Value}{tup:Bool}{Q:Option Value->Shared->Prop}(hit:cF s.heap it t i tup)(ht:if tup then s.heap.IsTuple t items else s.heap.IsList t items)(hx:items[i]?=QA x)
  (hQ:∀h',cF h' it t (i+1) tup->Heap.SameBut it s.heap h'->Q (QA x) {s with heap:=h'}):wpAny (model prog w) A (pyNext (.ref it)) Q E s:=by
 cases tup with
 |true=>exact wpAny_pyNext_tuple_item hit ht hx hQ
 |false=>exact wpAny_pyNext_list_item hit ht hx hQ
theorem pJ{ol:Obj}{nl:Nat}{K:Fin->Shared->Prop}(hh:A.handled=QE)(ho:s.heap.get? it=QA o)(hd:o.data=.fields #[.ref t,.int i 0])(hol:s.heap.get? t=QA ol)(hdl:ol.data=.seq items nl)(hx:items[i]?=QE)
  (h:∀e h',pG it s.heap h'->(∃oe,h'.get? e=QA oe/\oe.cls=.type "StopIteration")->E' (.ref e) {s with heap:=h'}):wpAny (model prog w) A (Builtin.«tuple_iterator.__next__» ⟨[.ref it],[]⟩) K E' s:=by
 show wpAny _ _ (field (.ref it) 0 >>= _) _ _ s;refine Pf (Pk ho hd (x:=.ref t) rfl ?_)
 (refine(if_neg (show ¬((Value.ref t==Value.none)=QI) from Bool.false_ne_true)).symm▸?_)
 show wpAny _ _ (field (.ref it) 1 >>= _) _ _ s;refine Pf (Pk ho hd (x:=.int i 0) rfl ?_);show wpAny _ _ (seqItems? (.ref t) >>= _) _ _ s;refine Pf (Qx hol hdl ?_);simp only[Int.toNat_natCast,hx];exact pH hh ho hd (PR _) h
theorem pK{ol:Obj}{nl:Nat}{K:Fin->Shared->Prop}(hh:A.handled=QE)(ho:s.heap.get? it=QA o)(hd:o.data=.fields #[.ref t,.int i 0])(hol:s.heap.get? t=QA ol)(hdl:ol.data=.seq items nl)(hx:items[i]?=QE)
  (h:∀e h',pG it s.heap h'->(∃oe,h'.get? e=QA oe/\oe.cls=.type "StopIteration")->E' (.ref e) {s with heap:=h'}):wpAny (model prog w) A (Builtin.«list_iterator.__next__» ⟨[.ref it],[]⟩) K E' s:=by
 show wpAny _ _ (field (.ref it) 0 >>= _) _ _ s;refine Pf (Pk ho hd (x:=.ref t) rfl ?_)
 (refine(if_neg (show ¬((Value.ref t==Value.none)=QI) from Bool.false_ne_true)).symm▸?_)
 show wpAny _ _ (field (.ref it) 1 >>= _) _ _ s;refine Pf (Pk ho hd (x:=.int i 0) rfl ?_);show wpAny _ _ (seqItems? (.ref t) >>= _) _ _ s;refine Pf (Qx hol hdl ?_);simp only[Int.toNat_natCast,hx];exact pH hh ho hd (PR _) h
theorem sQ{tup:Bool}{Q:Option Value->Shared->Prop}(hh:A.handled=QE)(hit:cF s.heap it t i tup)(ht:if tup then s.heap.IsTuple t items else s.heap.IsList t items)(hx:items[i]?=QE)
  (hQ:∀h',pG it s.heap h'->Q QE {s with heap:=h'}):wpAny (model prog w) A (pyNext (.ref it)) Q E s:=by
 refine dh (id hit) λo ho hc hd=>?_;cases tup with
 |true=>obtain⟨ol,hol,_,nl,hdl⟩:=ht;unfold pyNext;refine Pf (Qp (Qr (name:=Str.ofString "__next__") ⟨o,ho,hc⟩ F.slot_tuple_iterator_next (Qq F.slot_tuple_iterator_next ⟨o,ho,hc⟩ F.entry_tuple_iterator_next (pJ (A:=A.in1) hh ho hd hol hdl hx λe h' he hi=>?_) (F.args_tuple_iterator_next_1 _))));exact Pf (wpAny_isInstance (b:=QI) hi isSubtype_stop (Ph (hQ h' he)))
 |false=>obtain⟨ol,hol,_,nl,hdl⟩:=ht;unfold pyNext;refine Pf (Qp (Qr (name:=Str.ofString "__next__") ⟨o,ho,hc⟩ slot_listiter_next (Qq slot_listiter_next ⟨o,ho,hc⟩ entry_listiter_next (pK (A:=A.in1) hh ho hd hol hdl hx λe h' he hi=>?_) (args_listiter_next _))));exact Pf (wpAny_isInstance (b:=QI) hi isSubtype_stop (Ph (hQ h' he)))
end
section
set_option genCtorIdx false
def dO(G:Wd)(h:Heap)(Z:Mu)(t:Addr)(tup:Bool):Src->Prop
 |.fixed vs=>(tup=QI/\∃items,ej h t items/\t∉own Z/\af G h Z vs items.toList)\/(tup=QK/\∃items,G.H.IsList t items/\af G h Z vs items.toList)
 |.lst k=>tup=QK/\Z[k]?=QA (t,t)
 |.rng _=>False
theorem dO.step{tup:Bool}(st:au W [G.tab] Z h Z' h')(hW:∀a∈W,fc h a)(x:dO G h Z t tup src):dO G h' Z' t tup src:=by
 cases src with
 |fixed vs=>
  rcases x with⟨rfl,items,ht,hn,r⟩|⟨rfl,items,ht,r⟩
  ·exact .inl ⟨rfl,items,st.tupAt hW ht hn,by refine aB ht λu ho=>?_;exact st.Pu ho hn,af.step st hW vs r⟩
  ·exact .inr ⟨rfl,items,ht,af.step st hW vs r⟩
 |lst k=>exact⟨x.1,st.getμ x.2⟩
 |rng _=>exact x
def zI(G:Wd)(h:Heap)(Z:Mu)(items:Array Value)(i:Nat):Option AV->Prop
 |some v=>∃c,items[i]?=QA c/\ad G h Z v c
 |none=>items[i]?=QE
set_option tactic.hygienic true in
theorem dO.next{tup:Bool}{o:Option AV}(x:dO G s.heap Z t tup src)(R:SR G l Z J s)(e:ot J i src=QA o):
  ∃items:Array Value,(if tup then s.heap.IsTuple t items else s.heap.IsList t items)/\zI G s.heap Z items i o:=by
 have fin:∀{vs:List AV} {items:Array Value},af G s.heap Z vs items.toList->zI G s.heap Z items i vs[i]?:=λ{vs items} r=>by
  cases hv:vs[i]? with
  |some v=>obtain⟨c,q,z⟩:=r.get hv;exact⟨c,by simpa using q,z⟩
  |none=>have:=r.length;simp at hv;show items[i]?=QE;simp at this ⊢;exact OK (Ql this) hv
 cases src with
 |fixed vs=>
  cases e;rcases x with⟨rfl,items,ht,hn,r⟩|⟨rfl,items,ht,r⟩
  ·exact⟨items,ht.isTuple,fin r⟩
  ·obtain⟨ob,ho,z⟩:=ht;exact⟨items,⟨ob,R.stays _ _ ho,z⟩,fin r⟩
 |lst k=>refine bj x λer0 hμ=>?_;subst er0;refine(Pb.mp (show(fL J k).map (λvs=>vs[i]?)=QA o from e)).elim λvs p=>?_;cases p.2;refine ah λPG Ox=>?_;obtain⟨x',d,e1,rfl,_,items,hl,rs⟩:=R.at (fM p.1);refine Ox ?_;rw[hμ] at e1;cases e1;exact⟨items,hl.isList,fin rs⟩
 |rng _=>exact x.elim
theorem Sx.rebase(x:Sx G A l env sc Ov Z0 h0 QE U Z J s):Sx G A l env sc Ov Z s.heap QE U Z J s:=⟨x.R,x.V,.refl,x.fw,x.nx,x.hand⟩
theorem dk.rebase(fx:dk G A l n env L Ov h0)(x:Sx G A l env sc Ov Z0 h0 QE U Z J s):dk G A l n env L Ov s.heap:=
 ⟨fx.C,fx.frame,fx.top,x.R.stays,fx.vok,λa ha=>by obtain⟨_,o,ho,_⟩:=x.fw a ha;exact⟨o,ho⟩⟩
theorem Sx.back(x:Sx G A l env sc Ov Z0 h0 QE U Z J s)(y:Sx G A l env sc Ov Z s.heap QE U' Z' J' s'):Sx G A l env sc Ov Z0 h0 QE U' Z' J' s':=⟨y.R,y.V,x.st.trans y.st,y.fw,y.nx,y.hand⟩
theorem nu.lower{e:Addr}{err:aH}{h1:Heap}(x:nu G h Z h1 L e err)(hl:∀a,h1.get? a=QE->h0.get? a=QE):nu G h Z h0 L e err:=by
 rcases x with x|⟨fl,x⟩
 ·obtain⟨p1,p2,p3,oe,vs,a0,q1,q2,q3,q4,q12⟩:=x;refine .inl ⟨hl _ p1,p2,p3,oe,vs,a0,q1,q2,q3,q4,?_⟩;exact q12.ok hl
 ·exact .inr ⟨fl,x.lower hl⟩
theorem Sr.back{e:Addr}{err:aH}(x:Sx G A l env sc Ov Z0 h0 QE U Z J s)(y:Sr G l env sc Ov Z s.heap L QE err U' e Z' J' s'):Sr G l env sc Ov Z0 h0 L QE err U' e Z' J' s':=
 ⟨y.R,y.V,x.st.trans y.st,y.fw,y.nx,y.err.lower λu=>x.st.none⟩
structure sR(G:Wd)(h0:Heap)(Z:Mu)(h:Heap)(it t:Addr)(i:Nat)(tup:Bool):Prop where
 at_:cF h it t i tup
 no:it∉own Z
 tab:it≠G.tab
 new:h0.get? it=QE
theorem sR.step{tup:Bool}(x:sR G h0 Z h it t i tup)(st:au (bx env) [G.tab] Z h Z' h')(fw:FW env Z h):sR G h0 Z' h' it t i tup:=by
 refine ah λPG Ox=>?_;obtain⟨nq0,h1,h2,h3⟩:=x;refine dh nq0 λo ho hc hd=>Ox ?_;have hnw:it∉bx env:=λq=>by refine ah λPG Ox=>?_;obtain⟨_,o',q1,q2⟩:=fw it q;refine Ox ?_;rw[ho] at q1;cases q1;rcases q2 with⟨_,_,z⟩|⟨_,z⟩<;>rw[hd] at z<;>cases z
 refine ak (st.keep it o ho h1 hnw (λz=>absurd (OF.mp z) h2)) λo' q1 q2=>?_;rw[q2.eq (by simp[hd])] at q1;exact⟨⟨o,q1,hc,hd⟩,st.Pu ho h1,h2,h3⟩
theorem Sx.iter{tup:Bool}(fx:dk G A l n env L Ov h0)(x:Sx G A l env sc Ov Z0 h0 QE U Z J s)(I:sR G h0 Z s.heap it t i tup)(k:Heap.ExtBut it s.heap h')(hl:∃o,h'.get? it=QA o):Sx G A l env sc Ov Z0 h0 QE U Z J {s with heap:=h'}/\au [] [G.tab,it] Z s.heap Z h':=by
 refine ah λPG Ox=>?_;obtain⟨nq0,h1,h2,h3⟩:=I;refine dh nq0 λo ho hc hd=>Ox ?_;have r:pD l [it] s.heap h':=⟨λa oa ha=>(by
   by_cases z:a=it
   ·exact z▸hl
   ·exact⟨oa,k a oa z ha⟩),λa oa ha hn=>⟨oa,k a oa (by simpa using hn) ha,.inl rfl⟩,λa ha oa hoa=>by
   rw[OF.mp ha,ho] at hoa;cases hoa;exact⟨_,hd,λq t z=>by simp at z⟩⟩
 have hX:∀a∈[it],a∉own Z/\a≠G.tab/\G.H.get? a=QE:=λa ha=>by
  (refine(OF.mp ha).symm▸?_)
  exact⟨h1,h2,cw fx.hH h3⟩
 exact⟨⟨x.R.noted r hX s.toks,x.V.noted x.R r (x.nx rfl),iH x.st x.R r (m1 h3),x.fw.noted x.R r,x.nx,x.hand⟩,r.step x.R⟩
theorem dO.iter{tup:Bool}(st:au [] [G.tab,it] Z h Z h')(x:dO G h Z t tup src):dO G h' Z t tup src:=by
 cases src with
 |fixed vs=>
  rcases x with⟨rfl,items,ht,hn,r⟩|⟨rfl,items,ht,r⟩
  ·exact .inl ⟨rfl,items,st.tupAt (λu q=>nomatch q) ht hn,hn,af.step st (λu q=>nomatch q) vs r⟩
  ·exact .inr ⟨rfl,items,ht,af.step st (λu q=>nomatch q) vs r⟩
 |lst k=>exact x
 |rng _=>exact x
theorem Jt{prog:Program}{w:World}{target:Expr}{tup:Bool}{v:Value}{Q:Unit->Shared->Prop}(hit:cF s.heap it t i tup)(hQ:Q () s):wpAny (model prog w) A (letOwnedTupleGo target (.ref it) v) Q E s:=by
 refine ah λPG Ox=>dh hit λo ho hc hd=>Ox ?_;have K:wpAny (model prog w) A (letOwnedTupleGo (.List [] ⟨0,0,0,0⟩) (.ref it) v) Q E s:=by
  cases v with
  |ref a=>
   refine Pf (wpAny_loadPart ho ?_)
   ((refine hc.symm▸?_;refine hd.symm▸?_))
   cases tup<;>exact Ph hQ
  |_=>exact Ph hQ
 cases target with
 |Tuple=>exact K
 |List=>exact K
 |_=>exact Ph hQ
def G2(G:Wd)(F:Call)(A:Around)(l:List Env)(env:Env)(sc:aZ)(Ov:Vis)(Z0:Mu)(h0:Heap)(t:PT)(b:List PS)(src:Src)(t0:Addr)(tup:Bool)(it:Addr)(K:KS)(k:Nat)(s:Shared):Prop:=
 ∃U J Z i,qd (yO (bP F QE) t) (ax F b QE) src K k i U J/\Sx G A l env sc Ov Z0 h0 QE U Z J s/\dO G s.heap Z t0 tup src/\sR G h0 Z s.heap it t0 i tup
set_option tactic.hygienic true in
theorem G4(R:SR G l Z J s)(r:ad G s.heap Z v c){src:Src}(hs:o8 J v=QA src):∃t tup,dO G s.heap Z t tup src/\c=.ref t/\∃items:Array Value,(if tup then s.heap.IsTuple t items else s.heap.IsList t items):=by
 cases v with
 |tup vs=>cases(OO hs:Src.fixed vs=src);obtain⟨_,a,items,rfl,ht,hn,rs⟩:=r;exact⟨a,QI,.inl ⟨rfl,items,ht,hn,rs⟩,rfl,items,ht.isTuple⟩
 |flist vs=>cases(OO hs:Src.fixed vs=src);obtain⟨_,a,items,rfl,ht,rs⟩:=r;exact ak (id ht) λob ho z=>⟨a,QK,.inr ⟨rfl,items,ht,rs⟩,rfl,items,ob,R.stays _ _ ho,z⟩
 |obj k=>refine(Pb.mp (show(fL J k).map (λu=>Src.lst k)=QA src from hs)).elim λvs p=>?_;cases p.2;refine ah λPG Ox=>?_;obtain⟨x',d,e1,rfl,_,items,hl,rs⟩:=R.at (fM p.1);refine eX r λx2 d2 er2 e2=>?_;subst er2;refine Ox ?_;rw[e1] at e2;cases e2;exact⟨x',QK,⟨rfl,e1⟩,rfl,items,hl.isList⟩
 |_=>exact nn hs
set_option tactic.hygienic true in
theorem C5{t:PT}{b:List PS}{e:Expr}(hp:aj G n (bP F QE) p)(hc:bg sc Ov p e=QI)(hpl:bQ e=QI)(hct:oJ sc Ov t tgt=QI)(fx:dk G A l n env L Ov h0)
  (ht:zC G F A l env sc Ov Z0 h0 L QE t) (hb:∀μ1 h1,dk G A l n env L Ov h1->eH G F A l env sc Ov μ1 h1 L QE b body):oH G F A l env sc Ov Z0 h0 L QE (.r t p b) (.For tgt e body [] pos):=by
 intro U J K Z s Q E he x q;refine wpAny_For (eG hp hc he fx x (.inl rfl) q.err λv J1 μ1 c s1 he1 x1 r1 st1=>bN he1 λsrc hsrc he1=>?_) (λx=>j4 hpl);refine ah λPG Ox=>?_;obtain⟨t0,tup,S1,rfl,items0,hseq⟩:=G4 x1.R r1 hsrc;refine Ox ?_;have turn:∀it,∀(k:Nat) (s:Shared),G2 G F A l env sc Ov Z0 h0 t b src t0 tup it K k s->
   wpAny G.M A (pyNext (.ref it)) (λr s₁=>match r with
    |none=>wpAny G.M A (execs [] env) (λf s₃=>Q f s₃) (notedBy G.M A env λe s'=>cameBackBy G.M A env E e s') s₁
    |some v=>wpAny G.M A (letOwnedTupleGo tgt (.ref it) v) (λu s₁'=>
     wpAny G.M A (assign tgt env v) (λu s₂=>wpAny G.M A (execs body env) (λf s₃=>match f with
      |.next|.cont=>∃m,m<k/\G2 G F A l env sc Ov Z0 h0 t b src t0 tup it K m s₃
      |.brk=>Q .next s₃
      |.ret v=>Q (.ret v) s₃) (notedBy G.M A env λe s'=>cameBackBy G.M A env E e s') s₂) (notedBy G.M A env λe s'=>cameBackBy G.M A env E e s') s₁') (notedBy G.M A env λe s'=>cameBackBy G.M A env E e s') s₁) (notedBy G.M A env λe s'=>cameBackBy G.M A env E e s') s:=by
  intro it k s hI;refine ah λPG Ox=>oX hI λU J Z i hF x S I=>Ox ?_;cases k with
  |zero=>exact hF.elim
  |succ k=>
   refine bN hF λo hn hF=>ak (S.next x.R hn) λitems hsq hnx=>?_;cases o with
   |none=>exact sQ x.hand I.at_ hsq hnx λh' hE=>Qz (q.next hF (x.iter fx I hE.1 hE.2).1)
   |some v=>
    refine ak hnx λcv hcv rv=>pI I.at_ hsq hcv λh' hit hs=>ah λPG Ox=>ak (id hit) λoi hoi u=>bj (x.iter fx I hs.extBut ⟨oi,hoi⟩) λx' st'=>Ox ?_;have I':sR G h0 Z h' it t0 (i+1) tup:=⟨hit,I.no,I.tab,I.new⟩;refine Jt (s:={s with heap:=h'}) hit (ht hct (.inl rfl) hF x' (ad.step st' (λu q=>nomatch q) v rv) ⟨λk2 x2 st2=>?_,λk sr=>j8 fx sr λs' sr'=>q.err k sr'⟩);have I2:=I'.step st2 x'.fw;have S2:=(S.iter st').step st2 x'.fw.kind;refine hb _ _ (fx.rebase x2) k2 x2.rebase ⟨λk3 x3=>⟨k,PU k,_,_,_,_,k3,x2.back x3,S2.step x3.st x2.fw.kind,I2.step x3.st x2.fw⟩,λk3 x3=>q.next k3 (x2.back x3),
     λk3 x3=>⟨k,PU k,_,_,_,_,k3,x2.back x3,S2.step x3.st x2.fw.kind,I2.step x3.st x2.fw⟩,λk3 x3 r3=>q.ret k3 (x2.back x3) r3,λk sr=>j8 fx (Sr.back x2 sr) λs' sr'=>q.err k sr'⟩
 have start:∀it h',s1.heap.get? it=QE->(∀b o,s1.heap.get? b=QA o->h'.get? b=QA o)->cF h' it t0 0 tup->codeAny G.M A (.forLoop tgt (.ref it) body [] env) (λr s'=>match r with|.ok f=>Q f s'|.error e=>cameBackBy G.M A env E e s') {s1 with heap:=h'}:=by
  intro it h' hnew hk hit;have R2:=x1.R.keeps hk s1.toks;have hno:=x1.R.QD hnew;exact codeAny_forLoop_any (prog:=G.prog) (w:=G.w) (G2 G F A l env sc Ov Z0 h0 t b src t0 tup it K) (turn it) N
   ⟨U,J1,μ1,0,he1,x1.next fx R2.1 R2.2,S1.step R2.2 (λu q=>nomatch q),hit,hno.1,hno.2,x1.st.none hnew⟩
 have hnew:s1.heap.get? s1.heap.objs.size=QE:=bc (OX _);cases tup with
 |true=>exact wpAny_pyIter_tuple hseq (start _ _ hnew (λb o hb=>OH _ hb) ⟨_,OS _ rfl,rfl,rfl⟩)
 |false=>exact wpAny_pyIter_list hseq (start _ _ hnew (λb o hb=>OH _ hb) ⟨_,OS _ rfl,rfl,rfl⟩)
end
section
set_option genCtorIdx false
structure gU(G:Wd):Prop where
 vv:exmOne G.K (.type "ValueError") (.type "ValueError")=QA QI
 ov:∀c,c<G.nX->exmOne G.K (.ref (G.cls c)) (.type "ValueError")=QA QK
 vo:∀d,G.nC<=d->d<G.nX->exmOne G.K (.type "ValueError") (.ref (G.cls d))=QA QK
 oo:∀c d,c<G.nX->G.nC<=d->d<G.nX->exmOne G.K (.ref (G.cls c)) (.ref (G.cls d))=QA (c==d)
noncomputable def uV (G:Wd):aH->Value
 |.verr=>.type "ValueError"
 |.own c _=>.ref (G.cls c)
theorem aV.cls{e:Addr}{err:aH}(f:aV G h Z h0 fl e err):∃oe,h.get? e=QA oe/\oe.cls=uV G err/\∀c fs,err=.own c fs->c<G.nX:=by
 refine f.e λoe vs t oT ts a0 u u u q1 q2 q3 q4 q5 q6 q7 q8 q9 q10 q11 q13 q12=>?_;cases err with
 |verr=>exact⟨oe,q1,q12,λu u q=>by cases q⟩
 |own c fs=>exact q12.elim λu P=>⟨oe,q1,P.z1,λu u q=>by cases q;exact P.z0⟩
theorem iK(ok:jN G)(R:SR G l Z J s){fl:Value}{e:Addr}{err:aH}(f:aV G s.heap Z h0 fl e err){c:Value}{b:Bool}(hb:exmOne G.K (uV G err) c=QA b){Q:Bool->Shared->Prop}(hQ:Q b s):
  wpAny G.M A (excMatches (.ref e) c) Q E s:=by
 refine ah λPG Ox=>dh f.cls λoe he hc u=>Ox ?_;have LT:Looks G.M s.heap (typeOf (.ref e)) (uV G err):=hc▸(Looks.ld he).andThen .now;exact(exm_one (ok.kin.keeps R.stays) LT hb).here hQ
theorem kg{e:Addr}{err:aH}{what:String}{Q:α->Shared->Prop}(fx:dk G A l n env L Ov h0){A':Around}(R:SR G l Z J s)(V:ba G env sc Ov (clr U) Z s.heap)(st:au (bx env) [G.tab] Z0 h0 Z s.heap)(fw:FW env Z s.heap)(nx:hd=QE->dB U)(f:aV G s.heap Z h0 fl e err)
  (hE:∀s',Sr G l env sc Ov Z0 h0 L hd err U e Z J s'->E (.ref e) s'):wpAny G.M A' (passOn what (.ref e) env) Q E s:=by
 unfold passOn;have f0:=f;refine ah λPG Ox=>?_;refine f0.e λoe vs t oT ts a0 p1 p2 p3 q1 q2 q3 q4 u u u u u u u u u=>?_;refine Ox (Pf (Pk q1 q2 q4 ?_));rw[if_neg (ne_of_beq_false rfl)];refine Pf (cX R st fx.hH f λh2 R2 f2 st2 ⟨X2,r2⟩=>wpAny_throw ?_);rw[fx.frame] at f2;exact hE _ ⟨R2,V.noted R r2 (dY U),st2,fw.noted R r2,nx,.inr ⟨_,f2⟩⟩
theorem iL(h:aP U=QI):dB U:=λi v q=>by have:=O9.mp h _ (OE q);cases v<;>first|exact .inl rfl|exact .inr rfl|exact ff this
structure Sh(G:Wd)(l:List Env)(env:Env)(sc:aZ)(Ov:Vis)(Z0:Mu)(h0:Heap)(err:aH)(U:Loc)(e:Addr)(Z:Mu)(J:Hp)(s:Shared):Prop where
 R:SR G l Z J s
 V:ba G env sc Ov (clr U) Z s.heap
 st:au (bx env) [G.tab] Z0 h0 Z s.heap
 fw:FW env Z s.heap
 fl:aV G s.heap Z h0 .none e err
theorem Sr.caught{e:Addr}{err:aH}(fx:dk G A l n env L Ov h0)(x:Sr G l env sc Ov Z0 h0 L hd err U e Z J s){A1 A2:Around}(hA:A1.frames=QA l){Q:Unit->Shared->Prop}{E':Value->Shared->Prop}
  (hQ:∀s',Sh G l env sc Ov Z0 h0 err U e Z J s'->Q () s'):wpAny G.M A1 (noteFrame (.ref e) env) (λu s2=>wpAny G.M A2 (setFlight (.ref e) QE) Q E' s2) E s:=by
 refine aB fx.top λOC er1=>?_;subst er1;refine iI x.R hA fx.frame x.st fx.hH x.err λh1 _ R1 f1 st1 ⟨X1,r1⟩=>?_;have V1:=x.V.noted x.R r1 (dY U);have W1:=x.fw.noted x.R r1;exact cX (s:={s with heap:=h1}) R1 st1 fx.hH f1 λh2 R2 f2 st2 ⟨X2,r2⟩=>hQ _ ⟨R2,V1.noted (s:={s with heap:=h1}) R1 r2 (dY U),st2,FW.noted (s:={s with heap:=h1}) W1 R1 r2,f2⟩
theorem Sh.again{e:Addr}{err:aH}(fx:dk G A l n env L Ov h0)(x:Sh G l env sc Ov Z0 h0 err U e Z J s){A1:Around}{Q:Unit->Shared->Prop}
  (hQ:∀s',Sh G l env sc Ov Z0 h0 err U e Z J s'->Q () s'):wpAny G.M A1 (setFlight (.ref e) QE) Q E s:=
 cX x.R x.st fx.hH x.fl λh2 R2 f2 st2 ⟨X2,r2⟩=>hQ _ ⟨R2,x.V.noted x.R r2 (dY U),st2,x.fw.noted x.R r2,f2⟩
theorem dk.mark(fx:dk G A l n env L Ov h0)(v:Value):dk G (A.mark (QA v)) l n env L Ov h0:=⟨⟨fx.C.frames,fx.C.depth,fx.C.units⟩,fx.frame,fx.top,fx.hH,fx.vok,fx.fw0⟩
theorem Sx.behind{hd':Option aH}(x:Sx G A' l env sc Ov Z0 h0 hd' U Z J s)(hn:aP U=QI)(hA:A.handled=QE):Sx G A l env sc Ov Z0 h0 QE U Z J s:=⟨x.R,x.V,x.st,x.fw,λu=>iL hn,hA⟩
theorem zJ(ok:jN G)(NO:aQ G)(CO:gU G){b hs:List PS}{body:List Stmt}{b0:Stmt}{suite:List Stmt}{np hp:Pos}(hg:bn sc "ValueError"=QI)(fx:dk G A l n env L Ov h0)
  (hb:eH G F A l env sc Ov Z0 h0 L QE b body) (hh:∀A',dk G A' l n env L Ov h0->eH G F A' l env sc Ov Z0 h0 L (QA .verr) hs (b0::suite)):
  oH G F A l env sc Ov Z0 h0 L QE (.tryV b hs) (.Try body [.ExceptHandler (QA (.Name "ValueError" np)) QE (b0::suite) hp] [] [] pos):=by
 intro U J K Z s Q E he x q;have hbi:=NO.bi ("ValueError",.type "ValueError") (OE (i:=10) rfl);refine wpAny_Try_except (hb he x ⟨λk x1=>Qz (q.next k x1),q.brk,q.cont,q.ret,λ{er U1 J1 μ1 s1 e} k sr=>?_⟩);have hnx:=sr.nx rfl;refine sr.caught fx fx.C.frames λs2 y2=>wpAny_handleBy_cons (codeAny_handlers_test (bz NO y2.R y2.V hg hbi.1 hbi.2 ?_)) (by intro z;cases z);cases er with
 |own c fs=>exact ah λPG Ox=>dh y2.fl.cls λu u u hcn=>Ox (iK ok y2.R y2.fl (CO.ov c (hcn c fs rfl)) (wpAny_handleBy_nil (kg fx y2.R y2.V y2.st y2.fw (λu=>hnx) y2.fl λs3 sr3=>q.err k sr3)))
 |verr=>
  refine iK ok y2.R y2.fl CO.vv (codeAny_handlers_suite (y2.again fx λs3 y3=>?_));have V3:=y3.V;rw[uR hnx] at V3;exact hh _ (fx.mark (.ref e)) k ⟨y3.R,V3,y3.st,y3.fw,(λz=>by exact nn z.symm),e,.none,rfl,y3.fl⟩ ⟨λk x4=>q.next k.2 (x4.behind k.1 x.hand),λk x4=>q.brk k.2 (x4.behind k.1 x.hand),λk x4=>q.cont k.2 (x4.behind k.1 x.hand),
   λk x4 r4=>q.ret k.2 (x4.behind k.1 x.hand) r4,λk sr4=>qC fx fx.C.frames sr4 λs5 sr5=>q.err k.2 ⟨sr5.R,sr5.V,sr5.st,sr5.fw,λu=>iL k.1,sr5.err⟩⟩
theorem sS{err:aH}(fx:dk G A l n env L Ov h0):oH G F A l env sc Ov Z0 h0 L (QA err) .reraise (.Raise QE QE pos):=by
 intro U J K Z s Q E he x q;refine ah λPG Ox=>eX x.hand λe fl hA f=>Ox ?_;rw[arm_exec_Raise];refine Pf (Pj ?_);show wpAny G.M A (raiseStmt env QE QE) Q E s;unfold raiseStmt;refine Pf (wpAny_handled ?_)
 (refine hA.symm▸?_)
 refine Pf (wpAny_rule ?_);have f0:=f;refine ah λPG Ox=>?_;refine f0.e λoe vs t oT ts a0 p1 p2 p3 q1 q2 q3 q4 u u u u u u u u u=>?_;refine Ox (Pf (Pk q1 q2 q4 ?_));rw[if_neg (ne_of_beq_false rfl)];refine Pf (cX x.R x.st fx.hH f λh2 R2 f2 st2 r2=>wpAny_throw ?_);rw[fx.frame] at f2;exact r2.elim λX2 r2=>q.err he ⟨R2,x.V.clr.noted x.R r2 (dY U),st2,x.fw.noted x.R r2,(λz=>by exact nn z.symm),.inr ⟨_,f2⟩⟩
end
theorem C6:clr (U.set i QE)=(clr U).set i QE:=by unfold clr;exact(List.map_set ..)
theorem pL{Q:Unit->Shared->Prop}(R:SR G l Z J s)(V:ba G env sc Ov U Z s.heap)(hv:nv Ov)(hi:Ov.lookup i=QA x)(hx:sc.lookup x=QA .local)
  (hQ:∀s',SR G l Z J s'->ba G env sc Ov (U.set i QE) Z s'.heap->au (bx env) [G.tab] Z s.heap Z s'.heap->(∃o es n,s'.heap.get? env.locals=QA o/\o.data=.dict es n)->(∀a,a≠env.locals->s'.heap.get? a=s.heap.get? a)->Q () s'):
  wpAny M A (do bindName env x .none;unbindBehindTheSuite env x pos) Q E s:=by
 refine ak V.ns λm hm hr=>?_;have hkind:env.kindOf x=QA .local:=by unfold Env.kindOf;exact(PK _ V.names).trans hx
 have get:∀{j:Nat} {w:AV},(U.set i QE)[j]?=QA (QA w)->U[j]?=QA (QA w)/\j≠i:=λ{j w} q=>by
  by_cases hj:j=i
  ·subst hj;have hlt:j<U.length:=by simpa using(OG.mp q).1
   cases(OT hlt).symm.trans q
  ·rw[OM (Ne.symm hj)] at q;exact⟨q,hj⟩
 refine wpAny_nameGoes_keeps hkind hm (by(refine(V.kind ..).symm▸?_);rfl) λh' v' hn hs=>qA R V hm hn hs λR' V' st hl=>hQ _ R' (V' _ (λj y w q1 q2 q3=>?_) λj y w u u q=>(get q).1) (Fw st) hl hs.2;obtain⟨q3,hj⟩:=get q3;refine ak (hr j y w q1 q2 q3) λd z1 z2=>?_;have hy:y≠x:=λe=>hj (hv _ _ _ (e▸q1) hi);exact⟨d,by simp[hy,z1],z2⟩
theorem FW.loc(f:FW env Z h)(hloc:∃o es n,h'.get? env.locals=QA o/\o.data=.dict es n)(hoth:∀a,a≠env.locals->h'.get? a=h.get? a):FW env Z h':=λa ha=>by
 obtain⟨h1,o,h2,h3⟩:=f a ha;refine⟨h1,?_⟩;by_cases z:a=env.locals
 ·obtain⟨o',es,k,q1,q2⟩:=hloc;exact⟨o',z▸q1,.inl ⟨es,k,q2⟩⟩
 ·exact⟨o,(hoth a z).trans h2,h3⟩
theorem aV.slot{e:Addr}{c:Nat}{fs:List AV}(f:aV G h Z h0 fl e (.own c fs))(fw0:∀a∈bx env,∃o,h0.get? a=QA o):aA G env h Z (.exc c fs) (.ref e):=by refine f.e λoe vs t oT ts a0 p1 p2 p3 q1 q2 q3 q4 q5 q6 q7 q8 q9 q10 q11 q13 q12=>?_;exact⟨e,oe,rfl,p2,p3,⟨vs,q2⟩,q1,q12.ok λd z3 q=>by obtain⟨_,w⟩:=fw0 d q;exact nn (z3.symm.trans w)⟩
def C7(F:Call)(c x:Nat)(hs:List PS)(K:KS)(er:aH)(U:Loc)(J:Hp):Prop:=match er with
 |.own c' fs=>(c'=c/\ax F hs (QA (.own c' fs)) (U.set x (QA (.exc c' fs))) J λfl U J=>aP (U.set x QE)=QI/\K fl (U.set x QE) J)\/(c'≠c/\K (.err (.own c' fs)) U J)
 |.verr=>K (.err .verr) U J
theorem pM(ok:jN G)(NO:aQ G)(CO:gU G){c i:Nat}{x y:Str}{hs:List PS}{b0:Stmt}{suite:List Stmt}{np hp:Pos}(hcl:T.cls[c]?=QA y)(hcn:G.nC<=c)(hg:bn sc y=QI)(hi:Ov.lookup i=QA x)(hx:sc.lookup x=QA .local)(fx:dk G A l n env L Ov h0)
  (hh:∀A' fs,dk G A' l n env L Ov h0->eH G F A' l env sc Ov Z0 h0 L (QA (.own c fs)) hs (b0::suite)) {er:aH} {e:Addr} (hA:A.handled=QE) (hnx:dB U) (y2:Sh G l env sc Ov Z0 h0 er U e Z J s) {K:KS} (he:C7 F c i hs K er U J)
  {Q:PySem.Flow->Shared->Prop} (q:pE G A l env sc Ov Z0 h0 L QE K Q E):wpAny G.M A (handleBy (.ref e) env [.ExceptHandler (QA (.Name y np)) (QA x) (b0::suite) hp]) Q E s:=by
 have hn:=NO.cls c y hcl;refine wpAny_handleBy_cons (codeAny_handlers_test (cK NO y2.R y2.V hg hn.2.1 ?_)) (by intro z;cases z);cases er with
 |verr=>exact iK ok y2.R y2.fl (CO.vo c hcn hn.1) (wpAny_handleBy_nil (kg fx y2.R y2.V y2.st y2.fw (λu=>hnx) y2.fl λs3 sr3=>q.err he sr3))
 |own c' fs=>
  refine dh y2.fl.cls λu u u hc'=>?_;have ht:=CO.oo c' c (hc' c' fs rfl) hcn hn.1;rcases he with⟨rfl,he⟩|⟨hne,he⟩
  case inr=>rw[beq_false_of_ne hne] at ht;exact iK ok y2.R y2.fl ht (wpAny_handleBy_nil (kg fx y2.R y2.V y2.st y2.fw (λu=>hnx) y2.fl λs3 sr3=>q.err he sr3))
  rw[beq_self_eq_true] at ht;refine iK ok y2.R y2.fl ht (codeAny_handlers_suite_as (y2.again fx λs3 y3=>?_));have V3:=y3.V;rw[uR hnx] at V3;refine iJ y3.R V3 fx.vok hi hx (y3.fl.slot fx.fw0) λs4 R4 V4 st4 hloc hoth=>?_;have f4:=aV.step st4 y3.fw.kind fx.fw0 y3.fl;have goes:∀{U2:Loc} {J2:Hp} {Z5:Mu} {s5:Shared} {Q5:Unit->Shared->Prop} {E5:Value->Shared->Prop},Sx G (A.mark (QA (.ref e))) l env sc Ov Z0 h0 (QA (.own c' fs)) U2 Z5 J2 s5->aP (U2.set i QE)=QI->
    (∀s6,Sx G A l env sc Ov Z0 h0 QE (U2.set i QE) Z5 J2 s6->au (bx env) [G.tab] Z5 s5.heap Z5 s6.heap->Q5 () s6)->wpAny G.M A (do bindName env x .none;unbindBehindTheSuite env x hp) Q5 E5 s5:=λx5 hn hQ5=>
   pL x5.R x5.V fx.vok hi hx λs6 R6 V6 st6 hloc6 hoth6=>hQ5 s6 ⟨R6,V6,x5.st.trans st6,x5.fw.loc hloc6 hoth6,λu=>iL hn,hA⟩ st6
  refine hh _ fs (fx.mark (.ref e)) he ⟨R4,V4,y3.st.trans st4,y3.fw.loc hloc hoth,(λz=>by exact nn z.symm),e,.none,rfl,f4⟩ ⟨λk x5=>goes x5 k.1 λs6 x6 u=>q.next k.2 x6,λk x5=>goes x5 k.1 λs6 x6 u=>q.brk k.2 x6,
   λk x5=>goes x5 k.1 λs6 x6 u=>q.cont k.2 x6,λ{v} _ _ _ _ _ k x5 r5=>goes x5 k.1 λs6 x6 st6=>q.ret k.2 x6 (ad.step st6 x5.fw.kind v r5),λ{er2 U2 J2 Z5 s5 e5} k sr5=>?_⟩
  refine aB fx.top λOC er1=>?_;subst er1;refine iI sr5.R fx.C.frames fx.frame sr5.st fx.hH sr5.err λh6 u R6 f6 st6 r6=>r6.elim λX6 r6=>?_;have V6:=sr5.V.noted sr5.R r6 (dY U2);have W6:=sr5.fw.noted sr5.R r6;refine pL (s:={s5 with heap:=h6}) R6 V6 fx.vok hi hx λs7 R7 V7 st7 hloc7 hoth7=>?_;rw[<-C6] at V7;exact kg (U:=U2.set i QE) (hd:=QE) fx R7 V7 (st6.trans st7) (FW.loc W6 hloc7 hoth7) (λu=>iL k.1) (aV.step st7 (FW.kind W6) fx.fw0 f6) λs8 sr8=>qC fx fx.C.frames sr8 λs9 sr9=>q.err k.2 sr9
theorem xM(ok:jN G)(NO:aQ G)(CO:gU G){c i:Nat}{x y:Str}{b hs:List PS}{body:List Stmt}{b0:Stmt}{suite:List Stmt}{np hp:Pos}(hcl:T.cls[c]?=QA y)(hcn:G.nC<=c)(hg:bn sc y=QI)(hi:Ov.lookup i=QA x)(hx:sc.lookup x=QA .local)(fx:dk G A l n env L Ov h0)
  (hb:eH G F A l env sc Ov Z0 h0 L QE b body) (hh:∀A' fs,dk G A' l n env L Ov h0->eH G F A' l env sc Ov Z0 h0 L (QA (.own c fs)) hs (b0::suite)):
  oH G F A l env sc Ov Z0 h0 L QE (.tryO c i b hs []) (.Try body [.ExceptHandler (QA (.Name y np)) (QA x) (b0::suite) hp] [] [] pos):=by
 intro U J K Z s Q E he xx q;refine wpAny_Try_except (hb he xx ⟨λk x1=>Qz (q.next k.2 x1),λk x1=>q.brk k.2 x1,λk x1=>q.cont k.2 x1,λk x1 r1=>q.ret k.2 x1 r1,λ{er U1 J1 μ1 s1 e} k sr=>?_⟩);refine sr.caught fx fx.C.frames λs2 y2=>pM (K:=λfl U J=>aP U=QI/\K fl U J) ok NO CO hcl hcn hg hi hx fx hh xx.hand (sr.nx rfl) y2 (by cases er<;>exact k) ⟨λk x1=>q.next k.2 x1,λk x1=>q.brk k.2 x1,λk x1=>q.cont k.2 x1,λk x1 r1=>q.ret k.2 x1 r1,λk sr=>q.err k.2 sr⟩
theorem i8{f:List PS}{f0:Stmt}(fx:dk G A l n env L Ov h0)(hf:∀μ1 h1,dk G A l n env L Ov h1->eH G F A l env sc Ov μ1 h1 L QE f (f0::fs)){k:Loc->Hp->Prop}
  (he:ax F f QE U J λfl' U J=>Flow.casesOn fl' (k U J) False False (λu=>False) λu=>False) (x:Sx G A l env sc Ov Z0 h0 QE U Z J s) {fl:PySem.Flow} {Q:PySem.Flow->Shared->Prop}
  (hQ:∀U2 J2 Z2 s2,k U2 J2->Sx G A l env sc Ov Z0 h0 QE U2 Z2 J2 s2->au (bx env) [G.tab] Z s.heap Z2 s2.heap->Q fl s2):
  wpAny G.M A (execs (f0::fs) env) (λg s'=>match g with|.next=>Q fl s'|g=>Q g s') E s:=
 hf Z s.heap (fx.rebase x) he x.rebase ⟨λk x2=>hQ _ _ _ _ k (x.back x2) x2.st,λk=>k.elim,λk=>k.elim,λk=>k.elim,λk=>k.elim⟩
theorem uW{f:List PS}{f0:Stmt}(fx:dk G A l n env L Ov h0){er:aH}(hf':∀A',dk G A' l n env L Ov h0->eH G F A' l env sc Ov Z0 h0 L (QA er) f (f0::fs)){e:Addr}{K:KS}
  (he:r8 QE (ax F f) K (.err er) U J) (sr:Sr G l env sc Ov Z0 h0 L QE er U e Z J s) {Q:PySem.Flow->Shared->Prop}
  (q:pE G A l env sc Ov Z0 h0 L QE K Q E):FinallyRaised G.prog G.w A E env (f0::fs) Q (.ref e) s:=by
 refine⟨(by intro z;cases z),sr.caught fx fx.C.frames λs2 y2=>?_⟩;have V2:=y2.V;rw[uR (sr.nx rfl)] at V2;refine hf' _ (fx.mark (.ref e)) he ⟨y2.R,V2,y2.st,y2.fw,(λz=>by exact nn z.symm),e,.none,rfl,y2.fl⟩ ⟨λ{U3 J3 Z3 s3} k x3=>?_,λk=>k.elim,λk=>k.elim,λk=>k.elim,λk=>k.elim⟩;refine eX x3.hand λe' fl hA' f3=>?_;have:e'=e:=by have:QA (Value.ref e)=QA (Value.ref e'):=hA';cases this;rfl
 subst this;exact kg fx x3.R x3.V.clr x3.st x3.fw (λu=>iL k.1) f3 λs4 sr4=>q.err k.2 sr4
theorem zK{f:List PS}{f0:Stmt}(fx:dk G A l n env L Ov h0)(hf:∀μ1 h1,dk G A l n env L Ov h1->eH G F A l env sc Ov μ1 h1 L QE f (f0::fs))(hf':∀er A',dk G A' l n env L Ov h0->eH G F A' l env sc Ov Z0 h0 L (QA er) f (f0::fs)){K:KS}{Q:PySem.Flow->Shared->Prop}
  (q:pE G A l env sc Ov Z0 h0 L QE K Q E):pE G A l env sc Ov Z0 h0 L QE (r8 QE (ax F f) K) (λfl s1=>wpAny G.M A (execs (f0::fs) env) (λg s'=>match g with|.next=>Q fl s'|g=>Q g s') (notedBy G.M A env (cameBackBy G.M A env E)) s1) (FinallyRaised G.prog G.w A E env (f0::fs) Q):=
 ⟨λk x1=>i8 fx hf k x1 λU2 J2 Z2 s2 k x2 u=>q.next k.2 x2,λk x1=>i8 fx hf k x1 λU2 J2 Z2 s2 k x2 u=>q.brk k.2 x2,λk x1=>i8 fx hf k x1 λU2 J2 Z2 s2 k x2 u=>q.cont k.2 x2,
  λ{v} _ _ _ _ _ k x1 r1=>i8 fx hf k x1 λU2 J2 Z2 s2 k x2 st2=>q.ret k.2 x2 (ad.step st2 x1.fw.kind v r1),λk sr1=>uW fx (hf' _) k sr1 q⟩
theorem xN(ok:jN G)(NO:aQ G)(CO:gU G){c i:Nat}{x y:Str}{b hs f:List PS}{body:List Stmt}{b0 f0:Stmt}{suite fs:List Stmt}{np hp:Pos}(hcl:T.cls[c]?=QA y)(hcn:G.nC<=c)(hg:bn sc y=QI)(hi:Ov.lookup i=QA x)(hx:sc.lookup x=QA .local)(fx:dk G A l n env L Ov h0)
  (hb:eH G F A l env sc Ov Z0 h0 L QE b body) (hh:∀A' fs,dk G A' l n env L Ov h0->eH G F A' l env sc Ov Z0 h0 L (QA (.own c fs)) hs (b0::suite))
  (hf:∀μ1 h1,dk G A l n env L Ov h1->eH G F A l env sc Ov μ1 h1 L QE f (f0::fs)) (hf':∀er A',dk G A' l n env L Ov h0->eH G F A' l env sc Ov Z0 h0 L (QA er) f (f0::fs)):
  oH G F A l env sc Ov Z0 h0 L QE (.tryO c i b hs f) (.Try body [.ExceptHandler (QA (.Name y np)) (QA x) (b0::suite) hp] [] (f0::fs) pos):=by
 intro U J K Z s Q E he xx q;have zZ:=zK fx hf hf' q;refine wpAny_Try_except_finally (hb he xx ⟨λk x1=>Qz (zZ.next k x1),zZ.brk,zZ.cont,zZ.ret,λ{er U1 J1 μ1 s1 e} k sr=>?_⟩);exact sr.caught fx fx.C.frames λs2 y2=>pM ok NO CO hcl hcn hg hi hx fx hh xx.hand (sr.nx rfl) y2 (by cases er<;>exact k) zZ
section
set_option genCtorIdx false
theorem wf(n:Nat)(y:Str)(kd:NameKind)(r:List (Str×NameKind))(acc:List (Str×Addr)):cellsFrom n ((y,kd)::r) acc=if kd== .cell then cellsFrom (n+1) r ((y,n)::acc) else cellsFrom n r acc:=rfl
theorem wg(k:Str->Option NameKind)(y:Str)(w:Value)(r:List (Str×Value))(m:Str->Option Value):bindL k ((y,w)::r) m=bindL k r (if k y=QA .local then λz=>if z=y then QA w else m z else m):=rfl
theorem lB:∀(names:List (Str×NameKind)) (k:Nat) (acc:List (Str×Addr)),(acc.lookup x).isSome=QI->((cellsFrom k names acc).lookup x).isSome=QI
 |[],_,_,h=>h
 |(y,kd)::r,k,acc,h=>by
  rw[wf];split
  ·refine lB r (k+1) _ ((PK _ (Pz ..)).trans ?_);split
   ·rfl
   ·exact h
  ·exact lB r k acc h
theorem gV:∀(names:List (Str×NameKind)) (k:Nat) (acc:List (Str×Addr)),names.lookup x=QA .cell->((cellsFrom k names acc).lookup x).isSome=QI
 |[],_,_,h=>by exact nn h
 |(y,kd)::r,k,acc,h=>by
  rw[Pz] at h;rw[wf];split at h
  ·rename_i hy;cases h;rw[if_pos dc];refine lB r (k+1) _ ?_;rw[Pz,hy];rfl
  ·split
   ·exact gV r (k+1) _ h
   ·exact gV r k _ h
structure mC(G:Wd)(a:Addr)(fn:Fn)(o:Obj)(fd:FuncData)(body:List Stmt)(pars:List Str)(Ov:Vis):Prop where
 at_:G.H.get? a=QA o
 data:o.data=.func fd
 co:fd.scope.isCoroutine=QK
 gen:fd.scope.isGenerator=QK
 body:fd.body=.stmts body
 code:G.H.CodeRec fd.code fd.qualname
 clos:fd.closure=[]
 kind:fd.scope.kind=.function
 glob:fd.globals=mainGlobals
 bi:fd.builtins=builtinsNs
 np:pars.length=fn.np
 nl:fn.np<=fn.nl
 nodup:pars.Nodup
 par:∀i x,pars[i]?=QA x->Ov.lookup i=QA x/\(fd.scope.names.lookup x=QA .local\/fd.scope.names.lookup x=QA .cell)
 kinds:∀i x,Ov.lookup i=QA x->(fd.scope.names.lookup x=QA .cell\/fd.scope.names.lookup x=QA .free)->fd.scope.names.lookup x=QA .cell/\pars[i]?=QA x
 vok:nv Ov
 binds:∀(s:Shared) (vals:List Value),G.H.StaysIn s.heap->vals.length<=fn.np->fn.np<=vals.length+fn.dfl.length->∃dvals,BindsTo s fd ⟨vals,[]⟩ (pars.zip (vals++dvals))/\af G G.H [] (fn.dfl.drop (vals.length+fn.dfl.length - fn.np)) dvals
theorem pN{k:Str->Option NameKind}:∀{bs:List (Str×Value)} {m:Str->Option Value} {x:Str} {v:Value},(bs.map (·.1)).Nodup->(x,v)∈bs->k x=QA .local->bindL k bs m x=QA v
 |[],_,_,_,_,hm,_=>nomatch hm
 |(y,w)::r,m,x,v,hn,hm,hk=>by
  simp only[PO,Qe] at hn;rw[wg];rcases OZ.mp hm with e|hm
  ·cases e;have:∀(bs:List (Str×Value)) (m:Str->Option Value),y∉bs.map (·.1)->bindL k bs m y=m y:=by
    intro bs;induction bs with
    |nil=>intro m _;rfl
    |cons b bs ih=>
     intro m hx;rw[PO,OZ,not_or] at hx
     (refine(wg ..).symm▸?_)
     refine(ih _ hx.2).trans ?_;split
     ·exact if_neg hx.1
     ·rfl
   ((refine(this r _ hn.1).symm▸?_;refine(if_pos hk).symm▸?_))
   exact if_pos rfl
  ·exact pN hn.2 hm hk
theorem pO{k:Str->Option NameKind}:∀{bs:List (Str×Value)} {m:Str->Option Value} {x:Str} {v:Value},(bs.map (·.1)).Nodup->(x,v)∈bs->k x≠QA .local->bindC k bs m x=QA v
 |[],_,_,_,_,hm,_=>nomatch hm
 |(y,w)::r,m,x,v,hn,hm,hk=>by
  simp only[PO,Qe] at hn;simp only[bindC];rcases OZ.mp hm with e|hm
  ·cases e;have:∀(bs:List (Str×Value)) (m:Str->Option Value),y∉bs.map (·.1)->bindC k bs m y=m y:=by
    intro bs;induction bs with
    |nil=>intro m _;rfl
    |cons b bs ih=>
     intro m hx;rw[PO,OZ,not_or] at hx;simp only[bindC];refine(ih _ hx.2).trans ?_;split
     ·rfl
     ·exact if_neg hx.1
   ((refine(this r _ hn.1).symm▸?_;refine(if_neg hk).symm▸?_))
   exact if_pos rfl
  ·exact pO hn.2 hm hk
theorem Cy.deeper(C:Cy A l (n+1))(env:Env):Cx (A.deeper env) (env::l) n:=by
 refine⟨Around.frames_deeper C.frames,?_,?_⟩
 ·have:=C.depth;show A.depth+1+4*n+10<recursionLimit;exact OI (OK (Ql (PK (·+10) (O7 _ 1 _))) (PR _)) this
 ·have:=C.units;show A.units+3+60*n+600<cLine;exact OI (OK (Ql (PK (·+600) (O7 _ 3 _))) (O4 (by decide:603<=620) _)) this
theorem C8{cs:List Value}(h1:pars[i]?=QA x)(h2:cs[i]?=QA c):(x,c)∈pars.zip cs:=by
 have:(pars.zip cs)[i]?=QA (x,c):=by refine(List.getElem?_zip_eq_some ..).mpr ?_;exact⟨h1,h2⟩
 exact OE this
theorem pP(hn:pars.Nodup)(cs:List Value):((pars.zip cs).map (·.1)).Nodup:=by
 induction pars generalizing cs with
 |nil=>trivial
 |cons p ps ih=>
  cases cs with
  |nil=>exact List.nodup_nil
  |cons c cs=>simp only[List.zip_cons_cons,PO,Qe] at hn ⊢;refine⟨λhm=>hn.1 ?_,ih hn.2 cs⟩;refine ah λPG Ox=>?_;obtain⟨nq0,hp,rfl⟩:=Pa.mp hm;obtain⟨a,b⟩:=nq0;exact Ox ((List.of_mem_zip hp).1)
theorem nB(h:cD fn args=QA U):args.length<=fn.np/\fn.np<=args.length+fn.dfl.length/\∀(i:Nat) (v:AV),U[i]?=QA (QA v)->(args++fn.dfl.drop (args.length+fn.dfl.length - fn.np))[i]?=QA v:=by
 unfold cD at h;split at h
 ·rename_i hc;cases h;refine⟨hc.1,hc.2,λi v q=>?_⟩;by_cases hi:i<((args++fn.dfl.drop (args.length+fn.dfl.length - fn.np)).map QA).length
  ·rw[OR hi,List.getElem?_map] at q;cases hq:(args++fn.dfl.drop (args.length+fn.dfl.length - fn.np))[i]? with
   |none=>rw[hq] at q;exact nn q
   |some w=>rw[hq] at q;cases q;rfl
  ·rw[Pn (Pd.mp ‹_›),List.getElem?_replicate] at q;split at q<;>cases q
 ·exact nn h
theorem SR.push(R:SR G l Z J s){L:Addr}{m:Str->Option Value}(hk:env.scope.kind≠ .module)(hf:env.frame=QA L)(hn:s.heap.Ns L m)(hH:G.H.get? L=QE)(hL:L∉own Z):SR G (env::l) Z J s:=by
 have hfm:(env::l).filterMap (·.frame)=L::l.filterMap (·.frame):=by rw[List.filterMap_cons,hf]
 refine⟨R.stays,.cons hk hf hn hH R.frames,λa ha=>?_,R.tabs,R.QH,R.gens,R.os,R.len,R.nodup,λd hd=>⟨(R.fresh d hd).1,λhm=>?_⟩,R.objs⟩
 ·rw[hfm] at ha;rcases OZ.mp ha with rfl|ha
  ·obtain⟨o,es,ep,ho,hd,_⟩:=hn;exact⟨o,_,_,ho,hd⟩
  ·exact R.QG a ha
 ·rw[hfm] at hm;rcases OZ.mp hm with rfl|hm
  ·exact hL hd
  ·exact(R.fresh d hd).2 hm
theorem Ju(R:SR G l Z J s)(hL:L=s.heap.objs.size)(e1:env.scope.kind=.function)(e2:env.scope.names=sc)(e3:env.globals=mainGlobals)(e4:env.builtins=builtinsNs)(e5:env.locals=L)(e6:env.frame=QA L)
  (e7:env.cells=cellsFrom (L+1) sc []) (nodup:pars.Nodup) (np:pars.length=fn.np)
  (par:∀i x,pars[i]?=QA x->Ov.lookup i=QA x/\(sc.lookup x=QA .local\/sc.lookup x=QA .cell))
  (kinds:∀i x,Ov.lookup i=QA x->(sc.lookup x=QA .cell\/sc.lookup x=QA .free)->sc.lookup x=QA .cell/\pars[i]?=QA x)
  {args:List AV} {cs:List Value} {U:Loc} (hρ:cD fn args=QA U)
  (rs:af G s.heap Z (args++fn.dfl.drop (args.length+fn.dfl.length - fn.np)) cs) {s₁:Shared} (hA:A.handled=QE)
  (x:InCallC s L (bindL env.kindOf (pars.zip cs) λu=>QE) env.cells (bindC env.kindOf (pars.zip cs) λu=>QE) s₁) (vok:nv Ov):
  Sx G A (env::l) env sc Ov Z s₁.heap QE U Z J s₁/\(∀a∈bx env,s.heap.get? a=QE)/\∀b o,s.heap.get? b=QA o->s₁.heap.get? b=QA o:=by
 refine jk x.toInCall.same λh1 tk er2=>?_;subst er2;have k:∀b o,s.heap.get? b=QA o->h1.get? b=QA o:=x.toInCall.keep;have hnew:s.heap.get? L=QE:=bc (by rw[hL];exact OX _);refine bj (R.QD hnew) λhno hnt=>?_;have hH:G.H.get? L=QE:=by exact(PK _ hL).trans (Heap.StaysIn.fresh R.stays)
 refine bj (R.keeps k tk) λR1 st1=>?_;have hns:=x.toInCall.ns;have rs1:af G h1 Z (args++fn.dfl.drop (args.length+fn.dfl.length - fn.np)) cs:=af.st st1 rs;refine eI (nB hρ) λq1 q2 hget=>?_;have hkind:∀y,env.kindOf y=sc.lookup y:=λy=>by unfold Env.kindOf;exact PK _ e2
 have slot:∀(i:Nat) (v:AV) (y:Str),U[i]?=QA (QA v)->Ov.lookup i=QA y->∃c,(y,c)∈pars.zip cs/\pars[i]?=QA y/\ad G h1 Z v c:=λi v y hv hy=>by
  refine ak (rs1.get (hget i v hv)) λc hc rc=>?_;have OB:(args++fn.dfl.drop (args.length+fn.dfl.length - fn.np)).length=fn.np:=by simp;omega
  have hi:i<pars.length:=by rw[np, <-OB];exact(OG.mp (hget i v hv)).1
  have hp:=(par i pars[i] (by simp[hi])).1;cases hy.symm.trans hp;exact⟨c,C8 (by simp[hi]) hc,by simp[hi],rc⟩
 have hcell:∀y,sc.lookup y=QA .cell->∃a,env.cells.lookup y=QA a/\h1.IsCell a (bindC env.kindOf (pars.zip cs) (λu=>QE) y)/\a∉own Z:=λy hy=>by
  have hs:=gV sc (L+1) [] hy;rw[<-e7] at hs;cases hl:env.cells.lookup y with
  |none=>rw[hl] at hs;exact ff hs
  |some a=>have hab:=x.above y a (mem_of_lookup hl);exact⟨a,rfl,x.cell y a hl,(R.QD (bc (by rw[hL] at hab;exact Pc hab))).1⟩
 have hfw:∀a∈bx env,a=L:=λa ha=>by exact(OF.mp ha).trans e5
 refine⟨⟨SR.push (s:={s with heap:=h1,toks:=tk}) R1 (by rw[e1];simp) e6 hns hH hno,⟨e1,e2,e3,e4,⟨_,by rw[e5];exact hns,λi y v h1' h2 h3=>?_⟩,λi y h1' h2=>?_,by rw[e5];exact hno,by rw[e5];exact hnt,by refine(PK _ e5).trans ?_;exact hH⟩,.refl,λa ha=>?_,λu i v hv=>?_,hA⟩,λa ha=>?_,k⟩
 ·obtain⟨c,hc,_,rc⟩:=slot i v y h3 h1';exact⟨c,pN (pP nodup cs) hc (by rw[hkind];exact h2),rc.slot⟩
 ·obtain⟨hcl,hp⟩:=kinds i y h1' h2;refine ah λPG Ox=>dh (hcell y hcl) λa ha1 ha2 ha3=>Ox (⟨a,_,ha1,ha2,ha3,λv hv=>?_⟩);refine ah λPG Ox=>dh (slot i v y hv h1') λc hc u rc=>Ox ?_;exact⟨c,pO (pP nodup cs) hc (by rw[hkind,hcl];decide),rc⟩
 ·(refine(hfw a ha).symm▸?_)
  exact ah λPG Ox=>eK hns λo es ep ho hd u=>Ox (⟨hno,o,ho,.inl ⟨_,_,hd⟩⟩)
 ·obtain⟨c,hc,rc⟩:=rs1.get (hget i v hv);exact .inl rc.isVal
 ·exact(PK _ (hfw a ha)).trans hnew
def uX(G:Wd)(n:Nat)(P:Env->Prop)(fb:List PS)(sc:aZ)(Ov:Vis)(body:List Stmt):Prop:=
 ∀(A:Around) (l:List Env) (env:Env) (L:Addr) (Z0:Mu) (h0:Heap),P env->dk G A l n env L Ov h0->eH G (ef n) A l env sc Ov Z0 h0 L QE fb body
def wh(fd:FuncData)(a:Addr)(env:Env):Prop:=∃L:Addr,env=newEnv fd.scope L fd.globals (cellsFrom (L+1) fd.scope.names []) (fd.qualname++".<locals>.") (QA a) fd.code QE fd.builtins
theorem Fy{P:Env->Prop}{fb:List PS}(hB:uX G n P fb sc Ov body)(hP:P env)(fx:dk G A (env::l) n env L Ov s.heap){s₀:Shared}(x:Sx G A (env::l) env sc Ov Z s.heap QE U Z J s)(hf:∀a∈bx env,s₀.heap.get? a=QE)(k:∀b o,s₀.heap.get? b=QA o->s.heap.get? b=QA o)
  {K:KV} {Er:KE} (he:ax (ef n) fb QE U J (bk K Er)) {Q:Value->Shared->Prop} {E:Value->Shared->Prop} (q:VP G l Z s₀.heap K Q) (qe:EP G l Z s₀.heap Er E):
  wpAny G.M A (execs body env) (λf s'=>Q (match f with|.ret v=>v|_=>.none) s') (λe s'=>wpAny G.M A (leaving env e) (λu s''=>E e s'') (λe' s''=>E e' s'') s') s:=by
 have step:∀{μ1:Mu} {h1:Heap},au (bx env) [G.tab] Z s.heap μ1 h1->au [] [G.tab] Z s₀.heap μ1 h1:=λ{μ1 h1} st=>st.pre.elim λν p=>by
  refine⟨⟨ν,p.1,λy hp=>?_⟩,λa o e=>st.live a o (k a o e),λa o e hn u hx=>st.keep a o (k a o e) hn (λhw=>by exact nn ((hf a hw).symm.trans e)) hx⟩;cases z:s₀.heap.get? y.2 with
  |none=>rfl
  |some o=>have w:=p.2 y hp;rw[k _ _ z] at w;exact w
 refine hB A (env::l) env L Z s.heap hP fx he x ⟨λk x1=>q .none _ _ _ _ k x1.R.pop (step x1.st) rfl,λk=>k.elim,λk=>k.elim,λk x1 r1=>q _ _ _ _ _ k x1.R.pop (step x1.st) r1,λ{er U1 J1 μ1 s1 e} ke sr=>?_⟩;refine xJ sr.R fx.C.frames fx.frame sr.st fx.hH sr.err λh2 R2 f2 st2=>?_;exact qe _ _ _ _ ke ⟨μ1,e,_,rfl,R2,step st2,f2.lower λa ha=>by
  cases z:s₀.heap.get? a with
  |none=>rfl
  |some o=>exact nn (ha.symm.trans (k _ _ z))⟩
theorem C9(ok:jN G){f:Nat}{fn:Fn}{o:Obj}{fd:FuncData}{body:List Stmt}{pars:List Str}{Ov:Vis}(FF:mC G (G.fn f) fn o fd body pars Ov)(hB:uX G n (wh fd (G.fn f)) fn.body fd.scope.names Ov body){args:List AV}{K:KV}{Er:KE}{U:Loc}(hρ:cD fn args=QA U)
  (he:ax (ef n) fn.body QE U J (bk K Er)) {vals:List Value} (R:SR G l Z J s) (C:Cy A l (n+1)) (hA:A.handled=QE) (rs:af G s.heap Z args vals) {Q:Value->Shared->Prop} {E:Value->Shared->Prop} (q:VP G l Z s.heap K Q) (qe:EP G l Z s.heap Er E):
  codeAny G.M A (.call (.ref (G.fn f)) ⟨vals,[]⟩) (λr s'=>match r with|.ok (.ret v)=>Q v s'|.ok _=>False|.error e=>E e s') s:=by
 obtain⟨q1,q2,_⟩:=nB hρ;have OB:=rs.length;obtain⟨dvals,hb,rd⟩:=FF.binds s vals R.stays (OK (Ql OB) q1) (OB.symm▸q2);rw[OB] at rd;have rsd:af G s.heap Z (args++fn.dfl.drop (args.length+fn.dfl.length - fn.np)) (vals++dvals):=af.append rs (af.base R _ rd);have hcode:s.heap.CodeRec fd.code fd.qualname:=by refine ah λPG Ox=>?_;obtain⟨c,oc,vs,tq,hc,hoc,hd,hq⟩:=FF.code;exact Ox (⟨c,oc,vs,tq,hc,R.stays _ _ hoc,hd,hq⟩)
 refine codeAny_call_function (by have:=C.depth;exact OI (OK (O1 _ _) (O1 _ _)) this) (R.stays _ _ FF.at_) FF.data FF.co FF.gen FF.body hcode ?_;refine hb _ _ _ _ ?_
 (refine(FF.clos ..).symm▸?_)
 refine wpAny_newFunctionEnv_cells FF.kind (λy hy=>?_) λenv he' s₁ x=>?_
 ·obtain⟨i,hi⟩:=Pq hy;have hp:=(List.getElem?_zip_eq_some.mp hi).1;rcases(FF.par i y.1 hp).2 with z|z
  ·exact .inl z
  ·exact .inr ⟨z,gV _ _ _ z⟩
 ·subst he';obtain⟨x1,hfw,k⟩:=Ju (A:=A.deeper (newEnv fd.scope s.heap.objs.size fd.globals (cellsFrom (s.heap.objs.size+1) fd.scope.names []) (fd.qualname++".<locals>.") (QA (G.fn f)) fd.code QE fd.builtins)) (env:=newEnv fd.scope s.heap.objs.size fd.globals (cellsFrom (s.heap.objs.size+1) fd.scope.names []) (fd.qualname++".<locals>.") (QA (G.fn f)) fd.code QE fd.builtins)
   (sc:=fd.scope.names) (L:=s.heap.objs.size) (fn:=fn) R rfl FF.kind rfl FF.glob FF.bi rfl rfl rfl FF.nodup FF.np FF.par FF.kinds hρ rsd hA x FF.vok
  refine⟨(ok.nolim.keeps R.stays).keeps k,codeAny_func ?_⟩;refine Py (Fy hB ⟨_,rfl⟩ ⟨C.deeper _,rfl,⟨l,rfl⟩,λb o e=>k b o (R.stays b o e),FF.vok,λa ha=>by obtain⟨_,o,ho,_⟩:=x1.fw a ha;exact⟨o,ho⟩⟩ x1 hfw k he q qe) (λf s' h'=>?_) λu u h'=>h';exact h'
end
section
set_option genCtorIdx false
structure sU(G:Wd)(env:Env):Prop where
 code:∃c,env.code=.ref c/\CodeHd G.H c G.tab
 qual:qualnameIn env G.D.name G.D.name=G.QF
 bat:G.H.BuiltinsAt G.mg G.tab
 gtab:mainGlobals≠G.tab
 tabH:G.H.get? G.tab=QE
 gns:G.H.Ns mainGlobals G.mg
 clos:∀a,env.cells.lookup ("text":Str)=QA a->closureFor G.D.scope env=pure [(("text":Str),a)]
 dfl:G.D.params.defaults=[]
 kdf:G.D.params.kw_defaults=[]
 ann:annTrees G.D.params QE env=[]
theorem SR.tabbed(R:SR G l Z J s)(k:Heap.ExtBut G.tab s.heap h')(hT:mU G Z h')(hH:G.H.get? G.tab=QE)(t:Nat):SR G l Z J {s with heap:=h',toks:=t}/\au [] [G.tab] Z s.heap Z h':=by
 have htab:=R.tabs;refine ak htab λps hps u=>?_;have st:au [] [G.tab] Z s.heap Z h':=by
  refine⟨⟨[],(O8 _).symm,by simp⟩,λa o e=>?_,λa o e u u hx=>⟨o,k a o (λz=>?_) e,.refl o⟩⟩
  ·by_cases z:a=G.tab
   ·obtain⟨ps',q,_⟩:=hT;exact⟨_,z▸q⟩
   ·exact⟨o,k a o z e⟩
  ·subst z;cases hps.symm.trans e;exact hx ON _ rfl
 refine⟨⟨λb o e=>k b o (λz=>by rw[z,hH] at e;exact nn e) (R.stays b o e),R.frames.of_keeps λb o e hn=>⟨o,k b o (λz=>by rw[z,hps] at e;cases e;exact hn _ rfl) e,rfl⟩,λa ha=>?_,hT,R.QH,R.gens,R.os,R.len,R.nodup,R.fresh,λi o x d e e'=>?_⟩,st⟩
 ·obtain⟨o,es,n,q1,q2⟩:=R.QG a ha;exact⟨o,es,n,k a o (λz=>by rw[z,hps] at q1;cases q1;cases q2) q1,q2⟩
 ·exact(R.objs i o x d e e').move st (λu q=>nomatch q) (λob hob=>k d ob (λz=>R.QH (z▸cr e')) hob) o
theorem zL{t:Nat}(fx:dk G A l n env L Ov h0)(DO:sU G env)(hi:Ov.lookup i=QA G.D.name)(hy:sc.lookup G.D.name=QA .local)(ht:Ov.lookup t=QA ("text":Str))(htc:sc.lookup ("text":Str)=QA .cell):
  oH G F A l env sc Ov Z0 h0 L QE (.defW i t) (.FunctionDef G.D.name G.D.params G.D.body [] QE [] G.D.scope QE G.D.name G.wpos):=by
 intro U J K Z s Q E he x q;refine dS he λv htx he=>sN he λtx u he=>ah λPG Ox=>lR (x.V.cells t _ ht (.inl htc)) λa ov hca hcell hano hcv=>ak DO.code λc hcode C=>Ox ?_;have C1:=C.keeps x.R.stays;have hg:=x.R.ns DO.gns;have hb:s.heap.BuiltinsAt G.mg G.tab:=by exact ah λPG Ox=>yJ DO.bat λbm o q1 q2 q3 q4 q5 q6=>Ox (⟨bm,o,q1,q2,q3,q4,x.R.stays _ _ q5,q6⟩)
 refine ah λPG Ox=>dh x.R.tabs λps hps htr hcm=>Ox (nestDef_K DO.dfl DO.kdf DO.ann ?_)
 (refine(DO.qual ..).symm▸?_)
 have fin:∀(s2:Shared) (fa:Addr) (doc ctv:Value) (c':Addr),SR G l Z J s2->au [] [G.tab] Z s.heap Z s2.heap->s2.heap.get? fa=QA (fnMade G.D.name G.QF G.D.params G.D.body G.D.scope [(("text":Str),a)] doc ((G.mg "__name__").getD .none) c' ctv)->s.heap.get? fa=QE->
   s2.heap.CodeRec (.ref c') G.QF->c'∉own Z->c'≠G.tab->wpAny G.M A (storeName env G.D.name (.ref fa)) (λu s''=>Q .next s'') E s2:=by
  intro s2 fa doc ctv c' R2 st2 hfa hnew hrec hn1 hn2;exact(x.next fx R2 st2).store fx hi hy (λu=>.inr rfl) ⟨⟨fa,a,doc,_,c',ctv⟩,⟨rfl,(x.R.QD hnew).1,hfa,hca,hrec,hn1,hn2⟩⟩ λs3 x3=>q.next he x3
 rcases hcm with hnone|⟨c',hc',hrec,hn1,hn2⟩
 ·refine makeFunction_K (DO.clos a hca) x.V.glob hg hcode C1 hps htr hnone DO.gtab hb λc' ctv doc h' tk hx hge hlt hrec htab=>?_;have hc'new:s.heap.get? c'=QE:=bc hge;refine bj (x.R.QD hc'new) λhn1 hn2=>?_;have kp:∀b o,h'.get? b=QA o->(h'.push (fnMade G.D.name G.QF G.D.params G.D.body G.D.scope [(("text":Str),a)] doc ((G.mg "__name__").getD .none) c' ctv)).get? b=QA o:=λb o e=>OH _ e;have hrec2:(h'.push (fnMade G.D.name G.QF G.D.params G.D.body G.D.scope [(("text":Str),a)] doc ((G.mg "__name__").getD .none) c' ctv)).CodeRec (.ref c') G.QF:=by exact ah λPG Ox=>oX hrec λcc oc vs tq e1 e2 e3 e4=>Ox (⟨cc,oc,vs,tq,e1,kp _ _ e2,e3,e4⟩)
  have hT:mU G Z (h'.push (fnMade G.D.name G.QF G.D.params G.D.body G.D.scope [(("text":Str),a)] doc ((G.mg "__name__").getD .none) c' ctv)):=by
   refine⟨_,kp _ _ htab,?_,.inr ⟨c',?_,hrec2,hn1,hn2⟩⟩
   ·exact Array.toList_append.symm▸(TriplesOk_snoc _ _ _ _ htr)
   ·exact(PK _ Array.toList_append).trans (codeAmong_snoc _ htr hnone)
  refine bj (x.R.tabbed (h':=h'.push (fnMade G.D.name G.QF G.D.params G.D.body G.D.scope [(("text":Str),a)] doc ((G.mg "__name__").getD .none) c' ctv)) (λb o hb e=>kp _ _ (hx b o hb e)) hT DO.tabH tk) λR2 st2=>fin _ h'.objs.size doc ctv c' R2 st2 (OS _ rfl) ?_ hrec2 hn1 hn2;exact bc (Pc (OI hge hlt))
 ·refine makeFunction_hit (DO.clos a hca) x.V.glob hg hcode C1 hps htr hc' hb λctv doc h' tk k hsz=>bj (x.R.keeps (h':=h'.push (fnMade G.D.name G.QF G.D.params G.D.body G.D.scope [(("text":Str),a)] doc ((G.mg "__name__").getD .none) c' ctv)) (λb o e=>OH _ (k b o e)) tk) λR2 st2=>?_;refine fin _ h'.objs.size doc ctv c' R2 st2 (OS _ rfl) (bc hsz) ?_ hn1 hn2;exact ah λPG Ox=>oX hrec λcc oc vs tq e1 e2 e3 e4=>Ox (⟨cc,oc,vs,tq,e1,OH _ (k _ _ e2),e3,e4⟩)
structure lC(G:Wd)(fn:Fn)(p:Str)(Ov:Vis):Prop where
 co:G.D.scope.isCoroutine=QK
 gen:G.D.scope.isGenerator=QK
 kind:G.D.scope.kind=.function
 np:fn.np=2
 dfl:fn.dfl=[]
 nocell:∀x∈G.D.scope.names,x.2≠ .cell
 par:G.D.scope.names.lookup p=QA .local
 binds:∀(cl:List (Str×Addr)) (doc pm cdv ct v:Value),bindArgs (fnX G.D.name G.QF G.D.params G.D.body G.D.scope cl .none .none doc pm QE cdv ct) ⟨[v],[]⟩=pure [(p,v)]
 v0:∀x,Ov.lookup 0=QA x->x=("text":Str)
 v1:∀x,Ov.lookup 1=QA x->x=p
 free:∀i x,Ov.lookup i=QA x->(G.D.scope.names.lookup x=QA .cell\/G.D.scope.names.lookup x=QA .free)->i=0
 loc0:G.D.scope.names.lookup ("text":Str)=QA .free
 vok:nv Ov
theorem xO(ok:jN G){fn:Fn}{p:Str}{Ov:Vis}(WF:lC G fn p Ov)(hB:uX G n (λu=>True) fn.body G.D.scope.names Ov G.D.body){t:List Nat}{args:List AV}{K:KV}{Er:KE}{U:Loc}(hρ:cD fn (.str t::args)=QA U)
  (he:ax (ef n) fn.body QE U J (bk K Er)) {vals:List Value} {fa a:Addr} {c:Value} {env0:Env} (R:SR G l Z J s) (C:Cy A l (n+1)) (hA:A.handled=QE) (rs:af G s.heap Z args vals)
  (hw:aA G env0 s.heap Z .word (.ref fa)) (hca:env0.cells.lookup ("text":Str)=QA a) (hcell:s.heap.IsCell a (QA c)) (hano:a∉own Z) (rt:ad G s.heap Z (.str t) c) {Q:Value->Shared->Prop} {E:Value->Shared->Prop} (q:VP G l Z s.heap K Q) (qe:EP G l Z s.heap Er E):
  codeAny G.M A (.call (.ref fa) ⟨vals,[]⟩) (λr s'=>match r with|.ok (.ret v)=>Q v s'|.ok _=>False|.error e=>E e s') s:=by
 refine eI (nB hρ) λq1 q2 hget=>?_;rw[WF.dfl,WF.np] at q2;rw[WF.np] at q1;have OB:=rs.length;obtain⟨v,rfl⟩:∃v,args=[v]:=by
  cases args with
  |nil=>simp at q2
  |cons v r=>cases r with
   |nil=>exact⟨v,rfl⟩
   |cons _ _=>simp at q1
 refine jP rs λcv cs er2 rv rn=>?_;subst er2;subst rn;refine ah λPG Ox=>?_;obtain⟨nq0,nq1⟩:=hw;obtain⟨fa',a',doc,pm,c',ctv⟩:=nq0;obtain⟨e0,hfn,hf,hc',hrec,hn1,hn2⟩:=nq1;refine Ox ?_;have e1:fa=fa':=by cases e0;rfl
 subst e1;have e2:a=a':=OO (hca.symm.trans hc');subst e2;refine codeAny_call_function (fd:=fnX G.D.name G.QF G.D.params G.D.body G.D.scope [(("text":Str),a)] .none .none doc pm QE (.ref c') ctv) (by have:=C.depth;exact OI (OK (O1 _ _) (O1 _ _)) this) hf rfl WF.co WF.gen rfl hrec ?_;rw[WF.binds];refine Ph (wpAny_newFunctionEnv WF.nocell (λx hx=>by(refine(OF.mp hx).symm▸?_);exact WF.par) (λh1 hns hsb=>?_) WF.kind);have k:∀b o,s.heap.get? b=QA o->h1.get? b=QA o:=λb o e=>hsb.extBut b o (PD (Pe e)) (OH _ e);have hnew:s.heap.get? s.heap.objs.size=QE:=bc (OX _);refine bj (R.QD hnew) λhno hnt=>?_;have hH:G.H.get? s.heap.objs.size=QE:=Heap.StaysIn.fresh R.stays;refine bj (R.keeps k (s.toks+[(p,cv)].length)) λR1 st1=>?_;generalize hE:newEnv G.D.scope s.heap.objs.size mainGlobals [(("text":Str),a)] (G.QF++".<locals>.") (QA fa) (.ref c') QE builtinsNs=env;have e1:env.scope=G.D.scope:=by(refine hE▸?_);rfl
 have e2:env.locals=s.heap.objs.size:=by(refine hE▸?_);rfl
 have e3:env.frame=QA s.heap.objs.size:=by(refine hE▸?_);rfl
 have e4:env.cells=[(("text":Str),a)]:=by(refine hE▸?_);rfl
 have e5:env.globals=mainGlobals:=by(refine hE▸?_);rfl
 have e6:env.builtins=builtinsNs:=by(refine hE▸?_);rfl
 have hfw:∀b∈bx env,b=s.heap.objs.size:=λb hb=>by exact(OF.mp hb).trans e2
 have hcell1:h1.IsCell a (QA c):=by obtain⟨oc,ho,hd⟩:=hcell;exact⟨oc,k _ _ ho,hd⟩
 have sl:∀(i:Nat) (w:AV),U[i]?=QA (QA w)->(i=0/\w=.str t)\/(i=1/\w=v):=λi w hw=>by
  have:=hget i w hw
  (replace this:=(WF.dfl ..)▸this)
  match i,this with
  |0,z=>left;replace z:=OO z;exact⟨rfl,z.symm⟩
  |1,z=>right;replace z:=OO z;exact⟨rfl,z.symm⟩
  |i+2,z=>simp at z
 have x1:Sx G (A.deeper env) (env::l) env G.D.scope.names Ov Z h1 QE U Z J {s with heap:=h1,toks:=s.toks+[(p,cv)].length}:=by
  refine⟨SR.push R1 (by rw[e1,WF.kind];simp) e3 hns hH hno,⟨by refine(PK _ e1).trans ?_;exact WF.kind,PK _ e1,e5,e6,⟨_,by rw[e2];exact hns,λi y w h1' h2 h3=>?_⟩,λi y h1' h2=>?_,by rw[e2];exact hno,by rw[e2];exact hnt,by refine(PK _ e2).trans ?_;exact hH⟩,.refl,λb hb=>?_,λu i w hw=>?_,hA⟩
  ·rcases sl i w h3 with⟨rfl,rfl⟩|⟨rfl,rfl⟩
   ·have:=WF.v0 y h1';subst this;exact absurd (WF.loc0.symm.trans h2) dc
   ·have:=WF.v1 y h1';subst this;exact⟨cv,by simp,(ad.st st1 rv).slot⟩
  ·have hi:=WF.free i y h1' h2;subst hi;have:=WF.v0 y h1';subst this;exact⟨a,QA c,by refine(PK _ e4).trans ?_;rfl,hcell1,hano,λw hw=>by
    rcases sl 0 w hw with⟨_,rfl⟩|⟨z,_⟩
    ·exact⟨c,rfl,ad.st st1 rt⟩
    ·exact absurd z Nat.noConfusion⟩
  ·(refine(hfw b hb).symm▸?_)
   exact ah λPG Ox=>eK hns λo es ep ho hd u=>Ox (⟨hno,o,ho,.inl ⟨_,_,hd⟩⟩)
  ·rcases sl i w hw with⟨rfl,rfl⟩|⟨rfl,rfl⟩
   ·exact .inl rfl
   ·exact .inl rv.isVal
 refine⟨(ok.nolim.keeps R.stays).keeps k,codeAny_func ?_⟩;exact Fy (s:={s with heap:=h1,toks:=s.toks+[(p,cv)].length}) hB trivial ⟨C.deeper _,e3,⟨l,rfl⟩,λb o e=>k b o (R.stays b o e),WF.vok,λb hb=>by obtain⟨_,o,ho,_⟩:=x1.fw b hb;exact⟨o,ho⟩⟩ x1 (λb hb=>by refine(PK _ (hfw b hb)).trans ?_;exact hnew) k he q qe
end
section
variable{prog:Program}{w:World}{A:Around}{E:Value->Shared->Prop}{h:Heap}{g:Array GenState}{d:Drawn}{t:Nat}{os:OsState}
variable{nm q:Str}{C N x:Addr}{bs bm:List Value}{sn:List Str}{sub:List Value}{ab:Bool}{col:Option Bool}{dd:Option Addr}{k0 k1 k2 k3 k5:Option Value}{B newId sa owner:String}
 {mN:Str->Option Value} {name:Str} {v:Value}
set_option tactic.hygienic true in
theorem sV{Q:Unit->Shared->Prop}{dt:Data}{sl:Array (Option Value)}(SF:StoreFacts B bm sa owner)
  (hC:h.get? C=QA (excClassObj nm q C N bs bm QI sn sub ab col dd k0 k1 k2 k3 k5 newId)) (hn:h.Ns N mN) (hns:mN "__setattr__"=QE) (hna:mN name=QE)
  (hB:typeLookup (.type B) name=pure QE) (hx:h.get? x=QA {cls:=.ref C,dict:=QE,data:=dt,slots:=sl}) (hnc:∀c,dt≠ .cls c)
  (hq:∀h' tk',h'.get? x=QA {cls:=.ref C,dict:=QA h.objs.size,data:=dt,slots:=sl}->h'.Ns1 h.objs.size (λy=>if y=name then QA v else QE)->(∀b o,b≠x->h.get? b=QA o->h'.get? b=QA o)->Q () ⟨h',g,d,tk',os⟩):
  wpAny (model prog w) A (setAttr (.ref x) name v) Q E ⟨h,g,d,t,os⟩:=by
 have f3:=SF.slot.bind (.ref x);have hpass:=SF.passes (.ref x);unfold setAttr callSpecial? specialOf
 repeat (any_goals (first|assumption|with_reducible refine wpAny_loadPart_at hx ?_|(with_reducible refine wpAny_typeLookup_exc hC hn SF.mro SF.slot.lookup ?_;(refine hns.symm▸?_))|wp_step))
 refine Qs SF.slot.plain SF.entry (wpAny_check_sa SF hC hx rfl ?_);unfold Builtin.«object.__setattr__»
 repeat (first|rw[refuse_eq]|(((refine(refuseLoop_ref ..).symm▸?_;refine hpass.symm▸?_)))|with_reducible refine wpAny_loadPart_at hx ?_|with_reducible refine wpAny_mroOf_exc hC ?_|(with_reducible refine wpAny_typeLookup_exc hC hn SF.mro hB ?_;(refine hna.symm▸?_))|wp_step)
 split
 ·rename_i c hcd;exact absurd hcd (hnc c)
 have hxs:x≠h.objs.size:=PD (Pe hx);have hx1:(h.push {cls:=.type "dict",data:=.dict #[]}).get? x=QA {cls:=.ref C,dict:=QE,data:=dt,slots:=sl}:=OH _ hx;refine Pf (wpAny_alloc' (Pf (wpAny_update' hx1 (Ph ?_))));have hgd:((h.push {cls:=.type "dict",data:=.dict #[]}).update x λo=>{cls:=o.cls,dict:=QA h.objs.size,data:=o.data,slots:=o.slots}).get? h.objs.size=QA {cls:=.type "dict",data:=.dict #[]}:=
  (Heap.get?_update_ne _ _ _ _ hxs.symm).trans (Heap.get?_push_at rfl rfl)
 show wpAny _ _ (Builtin.ObjectAttr.storeInDict h.objs.size (.str name _) name v) _ _ _;unfold Builtin.ObjectAttr.storeInDict Builtin.ObjectAttr.newKeyGuard;refine Pf (Ph (Pf (wpAny_nsSet1 (Heap.Ns1.of_empty ⟨_, #[],_,hgd,rfl,λe he=>absurd he (by simp),λu=>rfl⟩) λh' hn' hs=>?_)));refine ah λPG Ox=>eK (hn'.count (Within.cons name v Within.nil)) λoD esD epD hoD hdD hcD=>Ox ?_;refine Pf (wpAny_lookBehind hoD (by refine(PK _ hdD).trans ?_;exact pastItsLine_dict (OK hcD (by rw[Pr,List.length_nil,sizeLine_eq];exact PY _))) ?_);have hx':h'.get? x=QA {cls:=.ref C,dict:=QA h.objs.size,data:=dt,slots:=sl}:=by refine(hs.2 x hxs).trans (PH _ hx1 ?_);have hfr:=(Heap.get?_some_iff.mp hx).2;cases dt<;>first|rfl|exact hfr
 wp_walk
 exact hq h' _ hx' hn' λb o hbx hb=>(hs.2 b (PD (Pe hb))).trans ((Heap.get?_update_ne _ _ _ _ hbx).trans (OH _ hb))
end
section
set_option genCtorIdx false
structure Jv where
 nm:Str
 q:Str
 N:Addr
 bs:List Value
 bm:List Value
 sn:List Str
 sub:List Value
 ab:Bool
 col:Option Bool
 dd:Option Addr
 k0:Option Value
 k1:Option Value
 k2:Option Value
 k3:Option Value
 k5:Option Value
 B:String
 newId:String
 initId:String
 sa:String
 owner:String
 mN:Str->Option Value
 fI:Addr
 oI:Obj
structure Db(G:Wd)(c:Nat)(n1 n2:Str)(fd:FuncData)(d:Jv):Prop where
 EF:ExcBaseFacts d.B d.newId d.initId d.bm
 SF:StoreFacts d.B d.bm d.sa d.owner
 hC:G.H.get? (G.cls c)=QA (excClassObj d.nm d.q (G.cls c) d.N d.bs d.bm QI d.sn d.sub d.ab d.col d.dd d.k0 d.k1 d.k2 d.k3 d.k5 d.newId)
 hN:G.H.Ns d.N d.mN
 hi:d.mN "__init__"=QA (.ref d.fI)
 hns:d.mN "__setattr__"=QE
 hn1:d.mN n1=QE
 hn2:d.mN n2=QE
 hB1:typeLookup (.type d.B) n1=pure QE
 hB2:typeLookup (.type d.B) n2=pure QE
 hfI:G.H.get? d.fI=QA d.oI
 hfc:d.oI.cls=.type "function"
 hfd:d.oI.data=.func fd
structure gh where
 q0:Pos
 q1:Pos
 q2:Pos
 q3:Pos
 q4:Pos
 q5:Pos
 q6:Pos
 q7:Pos
 q8:Pos
 m1:Nat
 m2:Nat
structure sW(G:Wd)(c:Nat)(n1 n2:Str)(fd:FuncData)(p0 p1 p2:Str):Prop where
 ex:∃d:Jv,Db G c n1 n2 fd d
 body:∃b:gh,fd.body=.stmts [.Assign [.Tuple [.Attribute (.Name p0 b.q0) n1 b.q1,.Attribute (.Name p0 b.q2) n2 b.q3] b.m1 b.q4] (.Tuple [.Name p1 b.q5,.Name p2 b.q6] b.m2 b.q7) b.q8]
 co:fd.scope.isCoroutine=QK
 gen:fd.scope.isGenerator=QK
 kind:fd.scope.kind=.function
 code:G.H.CodeRec fd.code fd.qualname
 cell:∀x∈fd.scope.names,x.2≠ .cell
 binds:∀v0 v1 v2:Value,bindArgs fd ⟨[v0,v1,v2],[]⟩=pure [(p0,v0),(p1,v1),(p2,v2)]
 l0:fd.scope.names.lookup p0=QA .local
 l1:fd.scope.names.lookup p1=QA .local
 l2:fd.scope.names.lookup p2=QA .local
 d01:p0≠p1
 d02:p0≠p2
 d12:p1≠p2
 nd:(p0==("__debug__":Str))=QK/\(p1==("__debug__":Str))=QK/\(p2==("__debug__":Str))=QK
 n12:n1≠n2
theorem LO{t:Sem α}{Q:α->Shared->Prop}(H:∀Q':α->Shared->Prop,(∀v s',Q v s'->Q' v s')->wpAny M A t Q' E s):wpAny M A t Q E s:=H Q λu u h=>h
theorem Jw{t:Sem α}{Q:α->Shared->Prop}(H:∀(Q':α->Shared->Prop) (E':Value->Shared->Prop),(∀v s',Q v s'->Q' v s')->wpAny M A t Q' E' s):wpAny M A t Q E s:=H Q E λu u h=>h
theorem zM(ok:jN G){c:Nat}{n1 n2 p0 p1 p2:Str}{fd:FuncData}(RD:sW G c n1 n2 fd p0 p1 p2)(R:SR G l Z J s)(hroom:A.depth+2<recursionLimit)(hA:A.handled=QE){v1 v2:Value}{Q:Value->Shared->Prop}
  (hQ:∀h' e t d tk,(∀b o,s.heap.get? b=QA o->h'.get? b=QA o)->s.heap.get? e=QE->s.heap.get? d=QE->h'.get? e=QA {cls:=.ref (G.cls c),dict:=QA d,data:=.fields #[.ref t,.none,.none,.none,.bool QK,.none],slots:= #[]}->
   h'.Ns1 d (λy=>if y=n2 then QA v2 else if y=n1 then QA v1 else QE)->Q (.ref e) {s with heap:=h',toks:=tk}):wpAny G.M A (call (.ref (G.cls c)) [v1,v2]) Q E s:=by
 refine aB RD.ex λd X=>aB RD.body λb hbody=>?_;have st:=R.stays;obtain⟨hp,g,dr,tk,os⟩:=s;have hN0:=R.ns X.hN;refine wpAny_call_exc_init X.EF (st _ _ X.hC) hN0 X.hi (st _ _ X.hfI) X.hfc (λh1 e hm=>LO λQ1 hQ1=>?_) (by simp[sizeLine]);refine dh hm.there λt het u u=>?_;have stH:∀b o,G.H.get? b=QA o->h1.get? b=QA o:=λb o x=>hm.keeps b o (st b o x);have hcode:h1.CodeRec fd.code fd.qualname:=by exact ah λPG Ox=>oX RD.code λcc oc vs tq e1 e2 e3 e4=>Ox (⟨cc,oc,vs,tq,e1,stH _ _ e2,e3,e4⟩)
 have hun:(A.under (.builtin "type.__call__" ⟨.ref (G.cls c)::[v1,v2],[]⟩)).depth=A.depth+1:=by exact PK _ gR
 have hunh:(A.under (.builtin "type.__call__" ⟨.ref (G.cls c)::[v1,v2],[]⟩)).handled=QE:=by exact(PK _ gR).trans hA
 generalize A.under (.builtin "type.__call__" ⟨.ref (G.cls c)::[v1,v2],[]⟩)=A1 at hun hunh;refine wpAny_call (codeAny_call_def (s:=⟨h1,g,dr,tk,os⟩) (by rw[hun];exact Pc ‹_›) (stH _ _ X.hfI) X.hfd (ok.nolim.keeps stH) hcode hbody (.of_eq (RD.binds _ _ _)) RD.cell (λx hx=>by
  simp only[OZ,Qf,or_false] at hx;rcases hx with rfl|rfl|rfl
  ·exact RD.l0
  ·exact RD.l1
  ·exact RD.l2) (λh2 hns2 k2'=>Jw λQ2 E2 hQ2=>?_) RD.co RD.gen RD.kind)
 generalize hE:callEnv fd h1.objs.size d.fI=env;have e1:env.scope=fd.scope:=by(refine hE▸?_);rfl
 have e2:env.locals=h1.objs.size:=by(refine hE▸?_);rfl
 have ek:env.scope.kind=.function:=by exact(PK _ e1).trans RD.kind
 have kl:∀y,env.kindOf y=fd.scope.names.lookup y:=λy=>by unfold Env.kindOf;exact e1▸rfl
 have hL:h1.objs.size≠e:=λz=>by have:=Pe het;rw[z] at this;exact Qk _ this
 have b01:(p0==p1)=QK:=by simpa using RD.d01
 have b02:(p0==p2)=QK:=by simpa using RD.d02
 have b12:(p1==p2)=QK:=by simpa using RD.d12
 have g0:(List.lookup p0 ([(p0,Value.ref e),(p1,v1),(p2,v2)].reverse))=QA (.ref e):=by simp[List.lookup,b01,b02]
 have g1:(List.lookup p1 ([(p0,Value.ref e),(p1,v1),(p2,v2)].reverse))=QA v1:=by simp[List.lookup,b12]
 have g2:(List.lookup p2 ([(p0,Value.ref e),(p1,v1),(p2,v2)].reverse))=QA v2:=by simp[List.lookup]
 have name:∀{A2:Around} {h3:Heap} {tk3:Nat} {y:Str} {v:Value} {qq:Pos} {Q3:Value->Shared->Prop} {E3:Value->Shared->Prop},h3.Ns h1.objs.size (λx=>List.lookup x ([(p0,Value.ref e),(p1,v1),(p2,v2)].reverse))->fd.scope.names.lookup y=QA .local->(y==("__debug__":Str))=QK->
   List.lookup y ([(p0,Value.ref e),(p1,v1),(p2,v2)].reverse)=QA v->Q3 v ⟨h3,g,dr,tk3,os⟩->wpAny G.M A2 (eval (.Name y qq) env) Q3 E3 ⟨h3,g,dr,tk3,os⟩:=λhz hl hdb hv hq=>
  wpAny_Name (wpAny_loadName_local ek (by rw[kl];exact hl) (by rw[e2];exact hz) hv hq) hdb
 have hfr:(A1.deeper env).handled=QE:=hunh;generalize A1.deeper env=A2 at hfr;refine wpAny_execs_cons (wpAny_Assign_stores (wpAny_Tuple_spliced ?_) rfl (kf _))
 ((refine(bI (e:=.Name p1 b.q5) rfl).symm▸?_;refine(bI (e:=.Name p2 b.q6) rfl).symm▸?_))
 refine PF (name hns2 RD.l1 RD.nd.2.1 g1 (PF (name hns2 RD.l2 RD.nd.2.2 g2 (Ph ⟨by simp[sizeLine],?_⟩))));have hT3:∀b o,h2.get? b=QA o->(h2.push {cls:=.type "tuple",data:=.seq [v1,v2].toArray}).get? b=QA o:=λb o x=>OH _ x;have htup:(h2.push {cls:=.type "tuple",data:=.seq [v1,v2].toArray}).IsTuple h2.objs.size #[v1,v2]:=⟨_,OS _ rfl,rfl,_,rfl⟩;show wpAny G.M A2 (assign (.Tuple [.Attribute (.Name p0 b.q0) n1 b.q1,.Attribute (.Name p0 b.q2) n2 b.q3] b.m1 b.q4) env (.ref h2.objs.size)) _ _ _;refine wpAny_assign_Tuple hfr htup rfl rfl λh4 hx4=>?_;have k4:∀b o,h2.get? b=QA o->h4.get? b=QA o:=λb o x=>hx4 b o (PD (Pe (hT3 b o x))) (hT3 b o x);have hns4:=hns2.keeps k4;have he2:h2.get? e=QA {cls:=.ref (G.cls c),data:=.fields #[.ref t,.none,.none,.none,.bool QK,.none]}:=k2' _ _ het;have he4:=k4 _ _ he2;have kH:∀b o,G.H.get? b=QA o->h4.get? b=QA o:=λb o x=>k4 b o (k2' b o (stH b o x));show wpAny G.M A2 (assignInOrder [assign (.Attribute (.Name p0 b.q0) n1 b.q1) env,assign (.Attribute (.Name p0 b.q2) n2 b.q3) env] [v1,v2]) _ _ _;refine wpAny_assignInOrder_more ?_;rw[assign_Attribute];refine Pf (Pi (name hns4 RD.l0 RD.nd.1 g0 (Pf (Pj (Pf (Pi ?_))))));refine sV X.SF (kH _ _ X.hC) (X.hN.keeps kH) X.hns X.hn1 X.hB1 he4 (by intro cc z;cases z) λh5 tk5 he5 hd5 k5'=>wpAny_release ?_;have hLe:h1.objs.size≠e:=hL;have hns5:h5.Ns h1.objs.size (λx=>List.lookup x ([(p0,Value.ref e),(p1,v1),(p2,v2)].reverse)):=by exact eJ hns4 λo es ep ho r=>⟨o,es,ep,k5' _ _ hLe ho,r⟩
 refine wpAny_assignInOrder_more ?_;rw[assign_Attribute];refine Pf (Pi (name hns5 RD.l0 RD.nd.1 g0 (Pf (Pj (Pf (Pi ?_))))));have hCe:G.cls c≠e:=λz=>by have:=hm.new;rw[<-z,st _ _ X.hC] at this;exact nn this.symm
 have kH5:∀b o,G.H.get? b=QA o->h5.get? b=QA o:=λb o x=>k5' b o (λz=>by have:=hm.new;rw[<-z,st _ _ x] at this;exact nn this.symm) (kH b o x);have hne:h4.objs.size≠e:=λz=>by have:=Pe he4;rw[z] at this;exact Qk _ this
 refine store_attr (ns:=[n1]) X.SF (kH5 _ _ X.hC) (X.hN.keeps kH5) X.hns X.hn2 X.hB2 (Ne.symm hCe) ⟨_,he5,rfl,(by intro cc z;cases z),.inr ⟨h4.objs.size,rfl,hne,hd5⟩⟩ (λh6 tk6 I6 kk6 same6=>wpAny_release (wpAny_assignInOrder_none ?_)) ?_ (PY _)
 ·obtain⟨o6,ho6,hc6,hd6,hs6,hdd6⟩:=same6 _ he5;have hdd:=hdd6 _ rfl;obtain⟨oc,od,odt,osl⟩:=o6;dsimp only at hc6 hd6 hs6 hdd;subst hc6 hd6 hs6 hdd;refine rX I6 λo7 ho7 u u hz=>?_;cases ho6.symm.trans ho7;rcases hz with⟨z,_⟩|⟨d7,z,_,hN7⟩
  ·exact nn z.symm
  ((have hz:=OO z;subst hz))
  refine Qz (hQ2 _ _ (hQ1 _ _ ⟨rfl,hQ h6 e t h4.objs.size tk6 (λb o x=>?_) hm.new ?_ ho6 hN7⟩))
  ·have hbe:b≠e:=λz=>by have:=hm.new;rw[<-z] at this;exact nn (this.symm.trans (show hp.get? b=QA o from x))
   have hb4:=k4 b o (k2' b o (hm.keeps b o x));exact kk6 b o hbe (λo₀ dx h₀ hdx=>by cases he5.symm.trans h₀;((have hz:=OO hdx;subst hz));exact PD (Pe hb4)) (k5' b o hbe hb4)
  ·cases z:hp.get? h4.objs.size with
   |none=>rfl
   |some o=>exact absurd (Pe (k4 _ _ (k2' _ _ (hm.keeps _ _ z)))) (Qk _)
 ·exact Within.cons n1 v1 Within.nil
end
section
set_option genCtorIdx false
section
variable{nm q:Str}{C N:Addr}{bs bm:List Value}{hdct:Bool}{sn:List Str}{sub:List Value}{ab:Bool}{col:Option Bool}{dd:Option Addr}{k0 k1 k2 k3 k5:Option Value}{newId:String}
theorem uY{x:Sem Value}{Q:PySem.Flow->Shared->Prop}(hbase:bm.contains (.type "BaseException")=QI)(hh:A.handled=QE)
  (h:wpAny M A x (λv s₁=>∃e t d,v=.ref e/\s₁.heap.get? C=QA (excClassObj nm q C N bs bm hdct sn sub ab col dd k0 k1 k2 k3 k5 newId)/\
   s₁.heap.get? e=QA {cls:=.ref C,dict:=QA d,data:=.fields #[.ref t,.none,.none,.none,.bool QK,.none],slots:= #[]}/\E (.ref e) s₁) E s):
  wpAny M A (raiseStmt env (QA x) QE) Q E s:=by
 have hcB:(Value.ref C::bm).contains (.type "BaseException")=QI:=by rw[List.contains_cons,hbase,Bool.or_true]
 unfold raiseStmt;refine Pf (Py h (λv s₁ h₁=>?_) λu u x=>x);refine ah λPG Ox=>?_;refine oV h₁ λe t d er3 hC he hE=>?_;subst er3;obtain⟨hp,g,dr,tk,os⟩:=s₁;refine Ox ?_
 repeat (first|with_reducible refine wpAny_loadPart_at he ?_|with_reducible refine wpAny_loadPart_at hC ?_|(with_reducible refine wpAny_isSubtype_exc hC ?_;(refine hcB.symm▸?_))|wp_step)
 exact wpAny_raiseNew_none hh hE
end
structure mD(G:Wd)(c:Nat):Prop where
 ex:∃f1 f2 fd p0 p1 p2,f1<G.nA/\f2<G.nA/\sW G c (G.attr f1) (G.attr f2) fd p0 p1 p2/\∀f j,Pg.excf c f=QA j->(f=f1/\j=0)\/(f=f2/\j=1)
theorem Dc(x:h.Ns1 d m):∃es n od,h.get? d=QA od/\od.data=.dict (List.toArray es) n/\(∀e∈es,e.refKey=QK)/\∀y v,m y=QA v->getL y es=QA (QA v):=by
 refine ah λPG Ox=>IT x λo es ep ho hd hk u hf=>Ox ?_;have hs:∀e∈es.toList,e.refKey=QK:=λe he=>by refine jk (hk e (by simpa using he)) λn t z=>?_;simp[DictEntry.refKey,z]
 refine⟨es.toList,ep,o,ho,hd,hs,λy v hv=>?_⟩;rw[jW hs];have:=hf y;rw[hv] at this;simp only[nsFind,findBy] at this;rw[<-Array.find?_toList] at this;exact PK _ this
theorem uZ(ok:jN G)(NO:aQ G){c:Nat}{p1 p2:PE}{x1 x2:Expr}{y:Str}{np cp:Pos}(RO:mD G c)(hps:cu G n F [p1,p2])(hcl:T.cls[c]?=QA y)(hg:bn sc y=QI)(hc:bZ sc Ov [p1,p2] [x1,x2]=QI)(fx:dk G A l n env L Ov h0):
  oH G F A l env sc Ov Z0 h0 L QE (.raiseO c [p1,p2]) (.Raise (QA (.Call (.Name y np) [x1,x2] [] cp)) QE pos):=by
 intro U J K Z s Q E he x q;have hn:=NO.cls c y hcl;refine RO.ex.elim λf1 p=>p.elim λf2 p=>p.elim λfd p=>p.elim λa0 p=>p.elim λa1 p=>p.elim λa2 p=>?_;have RD:=p.2.2.1;refine aB RD.ex λdX X=>?_
 (refine(arm_exec_Raise ..).symm▸?_)
 refine Pf (Pj ?_);show wpAny G.M A (raiseStmt env (QA (do let v <-eval (.Call (.Name y np) [x1,x2] [] cp) env;standAt pos;pure v)) QE) Q E s;refine uY (C:=G.cls c) (nm:=dX.nm) (q:=dX.q) (N:=dX.N) (bs:=dX.bs) (bm:=dX.bm) (hdct:=QI) (sn:=dX.sn) (sub:=dX.sub) (ab:=dX.ab) (col:=dX.col) (dd:=dX.dd) (k0:=dX.k0) (k1:=dX.k1) (k2:=dX.k2) (k3:=dX.k3) (k5:=dX.k5) (newId:=dX.newId) X.EF.hasBase x.hand (Pf ?_);refine Qv (cK NO x.R x.V hg hn.2.1 ?_);have hA:A.handled=QE:=x.hand;refine Qt (P:=G.K.In) (dU hc) (keeps_K hn.2.2) (cE hps hc he.2 (x.ex fx) hA (λvs J2 μ1 cs s1 he1 R1 st1 r1 hl=>⟨ok.kin.keeps R1.stays,?_⟩) (x.fails q.err));obtain⟨w1,w2,rfl⟩:∃w1 w2,vs=[w1,w2]:=by
  match vs,hl with
  |[w1,w2],_=>exact⟨w1,w2,rfl⟩
 refine ah λPG Ox=>?_;obtain⟨c1,cs1,rfl,rw1,c2,cs2,rfl,rw2,rn⟩:=r1;refine Ox ?_;subst rn;have x1':=x.next fx R1 st1;refine zM ok RD R1 (by have:=fx.C.depth;exact OI (OU (O1 _ _) dc) this) hA λh' e t d tk k hne hnd hee hNs=>?_;refine Pf (Pj (Ph ⟨e,t,d,rfl,k _ _ (R1.stays _ _ X.hC),hee,?_⟩));refine bj (R1.keeps k tk) λR2 st2=>?_;have x2:=x1'.next fx R2 st2;refine ah λPG Ox=>bj (R1.QD hne) λhno hnt=>bj (R1.QD hnd) λhno2 u=>oV (Dc hNs) λes nn od hod hdd hrk hgl=>Ox (q.err (s:={s1 with heap:=h',toks:=tk}) he1 ⟨R2,x2.V.clr,x2.st,x2.fw,x2.nx,.inl ⟨x1'.st.none hne,hno,hnt,_,_,_,hee,rfl,rfl,rfl,⟨d,es,nn,od⟩,⟨hn.1,rfl,rfl,x1'.st.none hnd,hno2,hod,hdd,hrk,λf j v hf hj hv=>?_⟩⟩⟩);rcases p.2.2.2 f j hj with⟨rfl,rfl⟩|⟨rfl,rfl⟩
 ·replace hv:=OO hv;subst hv;exact⟨c1,hgl _ _ (by refine(if_neg RD.n12).trans ?_;exact if_pos rfl),ad.st st2 rw1⟩
 ·replace hv:=OO hv;subst hv;exact⟨c2,hgl _ _ (if_pos rfl),ad.st st2 rw2⟩
end
def i9(h:Heap)(d:Addr):Prop:=∃items,dA h d items
theorem De(hd:i9 h d)(ht:ej h a items):a≠d:=λe=>by refine jk hd λits n q=>aB ht λm z=>?_;rw[e,q] at z;exact absurd z (by grind)
theorem wi(h1:a∉own Z)(h2:a≠d):a∉own (Z++[(d,d)]):=by
 unfold own
 (refine(PN ..).symm▸?_)
 exact λq=>(OL.mp q).elim h1 λq=>h2 (OF.mp q)
theorem ad.adopt(hd:i9 h d)(v:AV){c:Value}(r:ad G h Z v c):ad G h (Z++[(d,d)]) v c:=
 ad.map (λu u ht hn=>⟨ht,wi hn (De hd ht)⟩) (λu u r=>(OR (OG.mp r).1).trans r) v r
theorem af.adopt(hd:i9 h d)(vs:List AV){cs:List Value}(r:af G h Z vs cs):af G h (Z++[(d,d)]) vs cs:=af.map (ad.adopt hd) vs r
theorem u0{x C d':Addr}(hd:i9 h d)(I:qf h x C d'):x≠d:=λe=>by refine jk hd λits m z=>rX I λo ho u u hp=>?_;rw[e,z] at ho;cases ho;cases hp
theorem bW.adopt(hd:i9 h d){x d':Addr}(o:az)(r:bW G h Z x d' o):bW G h (Z++[(d,d)]) x d' o:=
 r.map (ad.adopt hd) (λu e=>e) (λu hx I=>⟨wi hx (u0 hd I),I⟩) o
theorem SR.adopt(R:SR G l Z J s)(hl:dA s.heap d items)(hn:d∉own Z)(hH:G.H.get? d=QE)(hf:d∉l.filterMap (·.frame))(OB:vs.length<=aE)(rs:af G s.heap Z vs items.toList):
  SR G l (Z++[(d,d)]) (J++[.list vs]) s:=by
 have hd:i9 s.heap d:=⟨items,hl⟩;have ow:∀{a:Addr},a∉own Z->a≠d->a∉own (Z++[(d,d)]):=λh1 h2=>by simp only[own,PN,PO,List.map_nil,OL,OF,not_or];exact⟨h1,h2⟩
 refine R.app hn ⟨hH,hf⟩ R.stays R.frames R.QG ?_ ?_ R.gens R.os (λi o x c e e'=>(R.objs i o x c e e').adopt hd) ⟨rfl,OB,items,hl,af.adopt hd vs rs⟩
 ·obtain⟨ps,q1,q2,q3⟩:=R.tabs;refine⟨ps,q1,q2,q3.imp id ?_⟩
  rintro⟨c,z1,z2,z3,z4⟩
  refine⟨c,z1,z2,ow z3 (λe=>?_),z4⟩;refine oX z2 λc' oc ws tq w1 w2 w3 u=>?_;cases w1;refine aB hl λm y=>?_;rw[e,y] at w2;cases w2;cases w3
 ·refine ow R.QH λe=>ak R.tabs λps q1 u=>aB hl λm y=>?_;rw[e,y] at q1;cases q1
noncomputable def ik (env:Env) (l:List (Str×NameKind)):List (Str×Addr)->List (Str×Addr):=List.rec (λacc=>acc) (λp u ih acc=>ih (if p.2== .free then(match env.cells.lookup p.1 with|some a=>(p.1,a)::acc|none=>acc) else acc)) l
theorem Df(env:Env)(acc:List (Str×Addr)):ik env [] acc=acc:=rfl
theorem kh(env:Env)(p:Str×NameKind)(r:List (Str×NameKind))(acc:List (Str×Addr)):ik env (p::r) acc=ik env r (if p.2== .free then(match env.cells.lookup p.1 with|some a=>(p.1,a)::acc|none=>acc) else acc):=rfl
theorem lD:∀(names:List (Str×NameKind)) (acc:List (Str×Addr)),(∀p∈names,p.2=.free->∃a,env.cells.lookup p.1=QA a)->
  (forIn names acc (λ(x:Str×NameKind) (cs:List (Str×Addr))=>match x with|(name,kind)=>if(kind==NameKind.free)=QI then do let a <-cellOf env name;pure (ForInStep.yield ((name,a)::cs)) else pure (ForInStep.yield cs)):Sem (List (Str×Addr)))=pure (ik env names acc)
 |[],acc,_=>rfl
 |(x,k)::r,acc,h=>by
  refine(List.forIn_cons ..).trans ?_;cases hk:k==NameKind.free with
  |false=>simp only[hk,Bool.false_eq_true,if_false,pure_bind,kh];exact lD r acc λp hp=>h p (O0 _ ‹_›)
  |true=>refine aB (h (x,k) ON (Pl hk)) λa ha=>?_;simp only[hk,if_true,cellOf,ha,pure_bind,kh];exact lD r _ λp hp=>h p (O0 _ ‹_›)
theorem wj(h:∀p∈scope.names,p.2=.free->∃a,env.cells.lookup p.1=QA a):closureFor scope env=pure (ik env scope.names []):=by
 have e:=lD scope.names [] h;show(forIn scope.names [] (λ(x:Str×NameKind) (cs:List (Str×Addr))=>match x with|(name,kind)=>if(kind==NameKind.free)=QI then do let a <-cellOf env name;pure (ForInStep.yield ((name,a)::cs)) else pure (ForInStep.yield cs)) >>= λcs=>(pure cs:Sem (List (Str×Addr))))=_
 (refine e.symm▸?_)
 rfl
theorem nE:∀(names:List (Str×NameKind)) (acc:List (Str×Addr)),x∉names.map (·.1)->(ik env names acc).lookup x=acc.lookup x
 |[],_,_=>rfl
 |(y,k)::r,acc,h=>by
  simp only[PO,OZ,not_or] at h;rw[kh,nE r _ h.2];have hb:(x==y)=QK:=by simpa using h.1
  split
  ·cases env.cells.lookup y with
   |some a=>show List.lookup x ((y,a)::acc)=_;rw[Pz,hb]
   |none=>rfl
  ·rfl
theorem sX:∀(names:List (Str×NameKind)) (acc:List (Str×Addr)),(names.map (·.1)).Nodup->(x,NameKind.free)∈names->∀a,env.cells.lookup x=QA a->(ik env names acc).lookup x=QA a
 |[],_,_,h,_,_=>nomatch h
 |(y,k)::r,acc,hn,hm,a,ha=>by
  simp only[PO,Qe] at hn;refine(PK _ (kh ..)).trans ?_;rcases OZ.mp hm with e|hm
  ·cases e;refine(nE r _ hn.1).trans ?_;simp[ha]
  ·exact sX r _ hn.2 hm a ha
theorem iM(st:au W X Z0 h0 Z h)(hs:Heap.SameBut a h h')(h0a:h0.get? a=QE):au W X Z0 h0 Z h':=
 ⟨st.pre,λb o e=>by
  refine aB (st.live b o e) λo' q=>?_;exact⟨o',(hs.2 b λz=>by rw[z,h0a] at e;exact nn e).trans q⟩,λb o e hn hw hx=>by
  refine ak (st.keep b o e hn hw hx) λo' q1 q2=>?_;exact⟨o',(hs.2 b λz=>by rw[z,h0a] at e;exact nn e).trans q1,q2⟩⟩
theorem SR.other(R:SR G l Z J s){a:Addr}(hs:Heap.SameBut a s.heap h')(ha:a∉own Z)(hat:a≠G.tab)(hH:G.H.get? a=QE)(hf:a∉l.filterMap (·.frame))(hno:∀o vs,s.heap.get? a=QA o->o.data≠ .fields vs)
  (hrel:∀(v:AV) (c:Value),ad G s.heap Z v c->ad G h' Z v c) (hinst:∀o,s.heap.get? a=QA o->o.data≠ .plain) (t:Nat):SR G l Z J {s with heap:=h',toks:=t}:=by
 refine⟨λb o q=>(hs.2 b λz=>by rw[z,hH] at q;exact nn q).trans (R.stays b o q),?_,λb hb=>?_,?_,R.QH,R.gens,R.os,R.len,R.nodup,R.fresh,λi o y c q q'=>?_⟩
 ·exact mV (λb o n q=>(hs.2 b n).trans q) l R.frames hf
 ·obtain⟨o,es,n,q,z⟩:=R.QG b hb;exact⟨o,es,n,(hs.2 b λw=>hf (w▸hb)).trans q,z⟩
 ·refine R.tabs.move (λo q=>(hs.2 G.tab (Ne.symm hat)).trans q) λc o q z u hv=>⟨(hs.2 c λw=>?_).trans q,z⟩;subst w;exact aB hv λvs hv=>hno o vs q hv
 ·have hc:c≠a:=λw=>ha (w▸cr q');exact(R.objs i o y c q q').map (λv {c} r=>hrel v c r) (λu q=>(hs.2 c hc).trans q) (λu hx I=>⟨hx,I.elim λo I=>⟨o,(hs.2 y λw=>hinst o (w▸I.1) I.2.2.2).trans I.1,I.2⟩⟩) o
theorem ad.but(hs:Heap.SameBut a h h')(ha:∀items, ¬ej h a items)(v:AV){c:Value}(r:ad G h Z v c):ad G h' Z v c:=
 ad.map (λb items ht hn=>⟨ht.elim λm q=>⟨m,(hs.2 b λz=>ha items (z▸ht)).trans q⟩,hn⟩) (λu u e=>e) v r
theorem af.but(hs:Heap.SameBut a h h')(ha:∀items, ¬ej h a items)(vs:List AV){cs:List Value}(r:af G h Z vs cs):af G h' Z vs cs:=af.map (ad.but hs ha) vs r
section
set_option genCtorIdx false
theorem oK{names:aZ}(hn:(names.map (·.1)).Nodup){x:Str}{k:NameKind}(hm:(x,k)∈names):names.lookup x=QA k:=by
 induction names with
 |nil=>cases hm
 |cons p r ih=>
  obtain⟨y,k'⟩:=p;simp only[PO,Qe] at hn;refine(Pz ..).trans ?_;rcases OZ.mp hm with e|hm
  ·cases e;simp
  ·have:(x==y)=QK:=by refine(PJ ..).mpr ?_;intro e;exact hn.1 (Pa.mpr ⟨(x,k),hm,e⟩)
   exact this.symm▸(ih hn.2 hm)
set_option tactic.hygienic true in
theorem zN{tup:Bool}(R:SR G l Z J s)(S:dO G s.heap Z t tup src)(hfix:∀vs,src=.fixed vs->vs.length<=aE)(e:ot J i src=QA (QA v)):i<aE:=by
 cases src with
 |fixed vs=>have e:vs[i]?=QA v:=OO e;have:=(OG.mp e).1;have:=hfix vs rfl;exact OV ‹_› ‹_›
 |lst k=>exact(Pb.mp (show(fL J k).map (λvs=>vs[i]?)=QA (QA v) from e)).elim λvs p=>ah λPG Ox=>lR (R.at (fM p.1)) λu u u u hl u=>Ox (OV (OG.mp p.2).1 hl)
 |rng _=>exact S.elim
theorem nF{env1 env2:Env}{e:Value}(h:env1.frame=env2.frame):noteFrame e env1=noteFrame e env2:=by unfold noteFrame frameOf;exact h▸rfl
structure nG(G:Wd)(l:List Env)(cenv:Env)(sc':aZ)(vis':Vis)(μ1:Mu)(h1:Heap)(Dd C it t0:Addr)(tup:Bool)(src:Src)(U':Loc)(acc:List AV)(i:Nat)(Z:Mu)(J:Hp)(s:Shared):Prop where
 R:SR G l Z J s
 V:ba G cenv sc' vis' U' Z s.heap
 st:au [] [G.tab] μ1 h1 Z s.heap
 I:sR G h1 Z s.heap it t0 i tup
 S:dO G s.heap Z t0 tup src
 lst:∃items,dA s.heap Dd items/\af G s.heap Z acc items.toList
 dno:Dd∉own Z
 len:acc.length=i
structure qG(G:Wd)(l:List Env)(cenv:Env)(h1:Heap)(Dd C it:Addr):Prop where
 hH:G.H.StaysIn h1
 d1:h1.get? Dd=QE
 c1:h1.get? C=QE
 dc:Dd≠C
 QJ:cenv.locals=C
 cf:C∉l.filterMap (·.frame)
 df:Dd∉l.filterMap (·.frame)
 dt:Dd≠G.tab
 di:Dd≠it
 ci:C≠it
theorem nG.iter{vis':Vis}{μ1:Mu}{h1:Heap}{Dd C t0:Addr}{tup:Bool}{acc:List AV}
  (x:nG G l cenv sc' vis' μ1 h1 Dd C it t0 tup src U' acc i Z J s) (hx:dB U') (F:qG G l cenv h1 Dd C it) (k:Heap.ExtBut it s.heap h') (hlv:∃o,h'.get? it=QA o):
  SR G l Z J {s with heap:=h'}/\ba G cenv sc' vis' U' Z h'/\au [] [G.tab] μ1 h1 Z h'/\dO G h' Z t0 tup src/\(∃items,dA h' Dd items/\af G h' Z acc items.toList)/\∀(v:AV) {c:Value},ad G s.heap Z v c->ad G h' Z v c:=by
 refine ah λPG Ox=>?_;obtain⟨nq0,h1',h2,h3⟩:=x.I;refine dh nq0 λo ho hc hd=>Ox ?_;have r:pD l [it] s.heap h':=⟨λa oa ha=>(by
   by_cases z:a=it
   ·exact z▸hlv
   ·exact⟨oa,k a oa z ha⟩),λa oa ha hn=>⟨oa,k a oa (by simpa using hn) ha,.inl rfl⟩,λa ha oa hoa=>by
   rw[OF.mp ha,ho] at hoa;cases hoa;exact⟨_,hd,λq t z=>by((have hz:=OO z;cases hz))⟩⟩
 have hX:∀a∈[it],a∉own Z/\a≠G.tab/\G.H.get? a=QE:=λa ha=>by exact(OF.mp ha).symm▸(⟨h1',h2,cw F.hH h3⟩)
 have st:=r.step x.R;refine ah λPG Ox=>ak x.lst λitems nq1 rs=>aB nq1 λm hl=>Ox ?_;exact⟨x.R.noted r hX s.toks,x.V.noted x.R r hx,iH x.st x.R r (m1 h3),x.S.iter st,⟨items,⟨m,k _ _ F.di hl⟩,af.step st (λu q=>nomatch q) _ rs⟩,λv {c} r=>ad.step st (λu q=>nomatch q) v r⟩
end
theorem dB.setNone(h:dB U):dB (U.set i QE):=λj w q=>by
 by_cases hj:j=i
 ·subst hj;have hlt:j<U.length:=by simpa using(OG.mp q).1
  ((have hz:=OO ((OT hlt).symm.trans q);cases hz))
 ·rw[OM (Ne.symm hj)] at q;exact h j w q
theorem u1{vis0:Vis}{v:Nat}{C:Addr}{w:AV}{Q:Unit->Shared->Prop}(R:SR G l Z J s)(V:ba G cenv sc' ((v,xn)::vis0) (U.set v QE) Z s.heap)(hC:cenv.locals=C)(hcf:C∉l.filterMap (·.frame))(hx:sc'.lookup xn=QA .local)
  (hv0:∀i y,i≠v->vis0.lookup i=QA y->sc'.lookup y=QA .cell) (rw':ad G s.heap Z w c)
  (hQ:∀h',SR G l Z J {s with heap:=h',toks:=s.toks+1}->ba G cenv sc' ((v,xn)::vis0) (U.set v (QA w)) Z h'->ba G cenv sc' ((v,xn)::vis0) (U.set v QE) Z h'->Heap.SameBut C s.heap h'->au [C] [G.tab] Z s.heap Z h'->Q () {s with heap:=h',toks:=s.toks+1}):wpAny M A (storeName cenv xn c) Q E s:=by
 refine ak V.ns λm hm hr=>?_;have hkind:cenv.kindOf xn=QA .local:=by unfold Env.kindOf;exact(PK _ V.names).trans hx
 have lk:∀{i:Nat} {y:Str},((v,xn)::vis0).lookup i=QA y->(i=v/\y=xn)\/(i≠v/\vis0.lookup i=QA y):=λ{i y} q=>by
  rw[Pz] at q;split at q
  ·rename_i e;cases q;exact .inl ⟨Pl e,rfl⟩
  ·rename_i e;exact .inr ⟨by simpa using e,q⟩
 refine wpAny_storeName_local hkind hm (λh' hn hs=>qA R V hm hn hs λR' V0 st hl=>?_) (by(refine(V.kind ..).symm▸?_);rfl);have V':∀u0u:Option AV,(∀z,u0u=QA z->z=w)->ba G cenv sc' ((v,xn)::vis0) (U.set v u0u) Z h':=λu0u hu=>by
  refine V0 _ (λi y z q1 q2 q3=>?_) λi y z q1 q2 q3=>?_
  ·rcases lk q1 with⟨rfl,rfl⟩|⟨hne,hl⟩
   ·have hlt:i<U.length:=by simpa using(OG.mp q3).1
    cases(OT hlt).symm.trans q3;exact(hu z rfl).symm▸(⟨c,by simp,rw'.slot⟩)
   ·exact absurd ((hv0 i y hne hl).symm.trans q2) dc
  ·rcases lk q1 with⟨rfl,rfl⟩|⟨hnv,hl⟩
   ·rcases q2 with q2|q2<;>rw[hx] at q2<;>exact absurd q2 dc
   ·exact(OM (Ne.symm hnv)).trans ((OM (Ne.symm hnv)).symm.trans q3)
 rw[hC] at hs st;exact hQ h' R' (V' (QA w) λz q=>by cases q;rfl) (V' QE λz q=>by exact nn q) hs st
theorem aA.but(hl:dA h a items)(hs:Heap.SameBut a h h'){v:AV}{c:Value}(r:aA G env h Z v c):aA G env h' Z v c:=by
 refine aB hl λk y=>?_;have kp:∀{b:Addr} {o:Obj},h.get? b=QA o->(∀its n,o.data≠ .seq its n)->h'.get? b=QA o:=λ{b o} hb hn=>(hs.2 b λz=>by rw[z,y] at hb;cases hb;exact hn _ _ rfl).trans hb
 refine r.map (ad.but hs λitems q=>?_) (λb o hn ho hd=>⟨kp ho λu u z=>?_,hn⟩) λu u u d od u u u z4 z5 z6=>⟨z4,od,kp z5 (λu u z=>nomatch z6.symm.trans z),z6⟩
 ·obtain⟨m,z⟩:=q;rw[y] at z;exact absurd z (by simp)
 ·rcases hd with⟨fd,w⟩|⟨_,vs,w⟩<;>cases w.symm.trans z
theorem ba.but(V:ba G env sc Ov U Z h)(hl:dA h a items)(hs:Heap.SameBut a h h')(ha:env.locals≠a):ba G env sc Ov U Z h':=by
 refine V.map (λu u u u r=>aA.but hl hs r) (λv u r=>ad.but hs (λitems q=>?_) v r) (λu hm=>⟨jZ hm λo ho=>⟨o,(hs.2 _ ha).trans ho,.refl o⟩,V.loc⟩) λb o ov hn ho hd=>⟨hn,o,(hs.2 b λz=>?_).trans ho,hd⟩
 ·obtain⟨m,z⟩:=q;refine aB hl λk y=>?_;rw[y] at z;exact absurd z (by simp)
 ·obtain⟨k,y⟩:=hl;rw[z,y] at ho;cases ho;cases hd
theorem dO.but{tup:Bool}(x:dO G h Z t tup src)(hs:Heap.SameBut a h h')(noT:∀items, ¬ej h a items):dO G h' Z t tup src:=by
 cases src with
 |fixed vs=>
  rcases x with⟨rfl,items,ht,hn,r⟩|⟨rfl,items,ht,r⟩
  ·refine .inl ⟨rfl,items,?_,hn,af.but hs noT vs r⟩;have:t≠a:=λz=>noT items (z▸ht);exact aB ht λm q=>⟨m,(hs.2 t this).trans q⟩
  ·exact .inr ⟨rfl,items,ht,af.but hs noT vs r⟩
 |lst k=>exact x
 |rng _=>exact x
theorem xQ{v:Nat}{y it':Expr}{px qp:Pos}{vis0:Vis}{μ1:Mu}{h1:Heap}{Dd C t0:Addr}{tup:Bool}{K:KL}{RR:Result->Shared->Prop}
  (he:aj G n F elt) (hce:bg sc' ((v,xn)::vis0) elt y=QI) (hA:A.handled=QE) (CC:Cx A l n) (fr:y6 cenv l) (CF:qG G l cenv h1 Dd C it) (hx:sc'.lookup xn=QA .local) (hv0:∀i y,i≠v->vis0.lookup i=QA y->sc'.lookup y=QA .cell) (hnx:dB U)
  (hfix:∀vs,src=.fixed vs->vs.length<=aE)
  (hok:∀vs J2 Z2 s2 m items,K vs J2->SR G l Z2 J2 s2->au [] [G.tab] μ1 h1 Z2 s2.heap->s2.heap.Ns C m->dA s2.heap Dd items->af G s2.heap Z2 vs items.toList->Dd∉own Z2->C∉own Z2->RR (.ok .next) s2)
  (herr:∀err J2 Z2 s2 m e fl h5,Er err J2->SR G l Z2 J2 s2->au [] [G.tab] μ1 h1 Z2 s2.heap->s2.heap.Ns C m->C∉own Z2->(∃o,h5.get? C=QA o)->(∀a,h5.get? a=QE->h1.get? a=QE)->aV G s2.heap Z2 h5 fl e err->RR (.error (.ref e)) s2)
  (hC0:o9 (λx J K Er=>cR F elt (U.set v (QA x)) J K Er) src Er K N 0 [] J) (x0:nG G l cenv sc' ((v,xn)::vis0) μ1 h1 Dd C it t0 tup src (U.set v QE) [] 0 Z J s):
  codeAny G.M A (.compLoop (.ListComp y [⟨.Name xn px,it',[],0⟩] scope qp) 0 (.ref it) (.ref Dd) cenv) RR s:=by
 refine ah λPG Ox=>?_;refine eK fr λL top OC hf1 er4 hf2=>?_;subst er4;refine Ox (codeAny_compLoop_list (prog:=G.prog) (w:=G.w) (λk s=>∃acc J Z i,o9 (λx J K Er=>cR F elt (U.set v (QA x)) J K Er) src Er K k i acc J/\nG G (top::OC) cenv sc' ((v,xn)::vis0) μ1 h1 Dd C it t0 tup src (U.set v QE) acc i Z J s) (λk s hI=>?_) N ⟨[],J,Z,0,hC0,x0⟩);refine ah λPG Ox=>vN hI λacc J Z i hC x=>Ox ?_;cases k with
 |zero=>exact hC.elim
 |succ k=>
  refine bN hC λo hn hC=>ak (x.S.next x.R hn) λitems hsq hnxt=>?_;cases o with
  |none=>refine sQ hA x.I.at_ hsq hnxt λh' hE=>ah λPG Ox=>rW (x.iter hnx.setNone CF hE.1 hE.2) λR' V' st' S' nq4 u=>ak nq4 λits hl rs=>ak V'.ns λm hm u=>Ox ?_;rw[CF.QJ] at hm;exact hok acc J Z _ m its hC R' st' hm hl rs x.dno (CF.QJ▸x.V.loc)
  |some w=>
   refine ak hnxt λcv hcv rv=>?_;have hlim:=zN x.R x.S hfix hn;refine pI x.I.at_ hsq hcv λh' hit hs=>ah λPG Ox=>ak (id hit) λoi hoi u=>?_;obtain⟨R',V',st',S',⟨its,⟨mL,hl⟩,rs⟩,mv⟩:=x.iter hnx.setNone CF hs.extBut ⟨oi,hoi⟩;refine Ox (wpAny_assign_Name (u1 (s:={s with heap:=h'}) R' V' CF.QJ CF.cf hx hv0 (mv w rv) λh2 R2 V2 V2n hs2 st2=>?_));have hstC:au [] [G.tab] μ1 h1 Z h2:=iM st' hs2 CF.c1;have hCk:∀a∈[C],fc h' a:=λa ha=>by rw[OF.mp ha];refine ak V'.ns λm hm u=>?_;rw[CF.QJ] at hm;exact qz hm
   have hl2:dA h2 Dd its:=⟨mL,(hs2.2 Dd CF.dc).trans hl⟩;have hI2:sR G h1 Z h2 it t0 (i+1) tup:=by exact ah λPG Ox=>dh hit λo ho hc hd=>Ox (⟨⟨o,(hs2.2 it (Ne.symm CF.ci)).trans ho,hc,hd⟩,x.I.no,x.I.tab,x.I.new⟩)
   have hS2:dO G h2 Z t0 tup src:=S'.step st2 hCk;have rs2:=af.step st2 hCk acc rs;refine he hce hC ⟨R2,V2,CC,⟨L,top,OC,hf1,rfl,hf2⟩,λu=>hnx.set (.inl rv.isVal)⟩ (.inl hA) (λyv J3 Z3 c s3 hC R3 st3 ry=>?_) λerr J3 c s3 hC pp=>?_
   ·have hl3:=st3.same (λu q=>nomatch q) hl2.choose_spec x.dno (by simp) (by simp) (by simp);have hdn3:Dd∉own Z3:=st3.Pu hl2.choose_spec x.dno;have hsz:its.size=i:=by have:=rs.length;rw[x.len] at this;exact this
    refine call_meets PySem.F.slot_list_append ⟨_,hl3,rfl⟩ PySem.F.entry_list_append (PySem.F.args_list_append_2 _ _) (list_append Dd its hl2.choose c (by rw[hsz];exact fX (Pc hlim))) ⟨hl3,?_⟩;have hs4:Heap.SameBut Dd s3.heap (s3.heap.update Dd (Obj.mapSeq λy=>y.push c)):=Qj ..;have hl4:=PH (Obj.mapSeq λy=>y.push c) hl3 rfl;have noT:∀items, ¬ej s3.heap Dd items:=λitems q=>by refine aB q λm z=>?_;rw[hl3] at z;exact absurd z (by simp)
    have dH:G.H.get? Dd=QE:=cw CF.hH CF.d1;have R4:SR G (top::OC) Z3 J3 {s3 with heap:=s3.heap.update Dd (Obj.mapSeq λy=>y.push c),toks:=s3.toks}:=
     R3.other hs4 hdn3 CF.dt dH CF.df (λo vs q=>by cases hl3.symm.trans q;simp) (λv c r=>ad.but hs4 noT v r) (λo q=>by cases hl3.symm.trans q;simp) s3.toks
    have st4:au [] [G.tab] μ1 h1 Z3 (s3.heap.update Dd (Obj.mapSeq λy=>y.push c)):=iM (hstC.trans st3) hs4 CF.d1;have V4:ba G cenv sc' ((v,xn)::vis0) (U.set v QE) Z3 (s3.heap.update Dd (Obj.mapSeq λy=>y.push c)):=(V2n.step st3).but ⟨_,hl3⟩ hs4 (by rw[CF.QJ];exact Ne.symm CF.dc);refine⟨k,PU k,acc++[yv],J3,Z3,i+1,hC,⟨R4,V4,st4,?_,?_,⟨its.push c,⟨_,hl4⟩,?_⟩,hdn3,by simp[x.len]⟩⟩
    ·obtain⟨o,ho,hc,hd⟩:=hI2.at_;refine ak (st3.keep it o ho hI2.no (λq=>nomatch q) (λz=>absurd (OF.mp z) hI2.tab)) λo' q1 q2=>?_;rw[q2.eq (by simp[hd])] at q1;exact⟨⟨o,(hs4.2 it (Ne.symm CF.di)).trans q1,hc,hd⟩,st3.Pu ho hI2.no,hI2.tab,hI2.new⟩
    ·exact(hS2.step st3 (λu q=>nomatch q)).but hs4 noT
    ·exact Array.toList_push.symm▸(af.append (af.but hs4 noT _ (af.st st3 rs2)) (af.cons (ad.but hs4 noT _ ry) af.nil))
   ·obtain⟨Z3,e,fl,rfl,R3,st3,f3⟩:=pp;refine ak V2.ns λm hm u=>?_;rw[CF.QJ] at hm;refine ah λPG Ox=>eJ (id hm) λoC u u hoC u=>Ox ?_;have hCno:C∉own Z:=CF.QJ▸V2.loc;have hCt:C≠G.tab:=CF.QJ▸V2.locT;show wpAny G.M A (noteFrame (.ref e) cenv) _ _ _;rw[nF (env2:=top) (hf1.trans hf2.symm)];refine iI R3 CC.frames hf2 st3 (λb o q=>R2.stays b o q) (.inr ⟨fl,f3⟩) λh5 fl5 R5 f5 st5 u=>herr err J3 Z3 {s3 with heap:=h5} m e fl5 h2 hC R5 (hstC.trans st5) ?_ (st5.Pu hoC hCno) ⟨oC,hoC⟩ (λa ha=>hstC.none ha) f5;exact jZ hm λo ho=>st5.keep C o ho hCno (λq=>nomatch q) (λq=>absurd (OF.mp q) hCt)
theorem iN(x:h.Ns a m):∀items, ¬ej h a items:=λitems q=>by refine ah λPG Ox=>eK x λo es ep ho hd u=>aB q λk y=>Ox ?_;cases ho.symm.trans y;cases hd
theorem aV.but{e:Addr}{err:aH}(f:aV G h Z h0 fl e err)(hs:Heap.SameBut a h h')(ha:∃o,h0.get? a=QA o)(hn:h.Ns a m):aV G h' Z h0 fl e err:=by
 have ne:∀{b:Addr},h0.get? b=QE->b≠a:=λ{b} hb z=>by refine aB ha λo q=>?_;rw[<-z,hb] at q;exact nn q
 refine ah λPG Ox=>aB f λnq0 nq1=>?_;obtain⟨oe,vs,t,oT,ts,a0⟩:=nq0;obtain⟨p1,p2,p3,q1,q2,q3,q4,q5,q6,q7,q8,q9,q10,q11,q13,q12⟩:=nq1;refine Ox (⟨⟨oe,vs,t,oT,ts,a0⟩,⟨p1,p2,p3,(hs.2 e (ne p1)).trans q1,q2,q3,q4,q5,q6,q7,q8,(hs.2 t (ne q5)).trans q9,q10,q11,q13,?_⟩⟩);exact q12.map rfl rfl (ad.but hs (iN hn)) λd od u u z3 z4 z5 z6=>⟨z3,z4,od,(hs.2 d (ne z3)).trans z5,z6⟩
theorem SR.goes{C:Addr}(R:SR G l Z J s)(hs:Heap.SameBut C s.heap h')(hn:s.heap.Ns C m)(hno:C∉own Z)(hH:G.H.get? C=QE)(hf:C∉l.filterMap (·.frame))(t:Nat):SR G l Z J {s with heap:=h',toks:=t}:=by
 refine ah λPG Ox=>eK (id hn) λo es ep ho hd u=>Ox (R.other hs hno (λz=>?_) hH hf (λo' vs q=>?_) (λv c r=>ad.but hs (iN hn) v r) (λo' q=>?_) t)
 ·obtain⟨ps,q,_⟩:=R.tabs;rw[<-z,ho] at q;cases q;cases hd
 ·cases ho.symm.trans q;rw[hd];simp
 ·cases ho.symm.trans q;rw[hd];simp
theorem dm{β:Type}:∀{l:List (Nat×β)} {i:Nat} {y:β},l.lookup i=QA y->(i,y)∈l
 |[],_,_,h=>by exact nn h
 |(j,z)::l,i,y,h=>by
  rw[Pz] at h;split at h
  ·rename_i e;cases h;exact(beq_iff_eq.mp e).symm▸ON
  ·exact O0 _ (dm h)
theorem u2(h1:env.scope.kind=.function)(h2:env.scope.names=sc):(relabel scope env).names=aJ sc scope.names:=by
 unfold relabel aJ;simp only;refine List.map_congr_left λp hp=>?_;obtain⟨x,k⟩:=p;have:env.kindOf x=sc.lookup x:=by unfold Env.kindOf;exact PK _ h2
 simp only[h1,this];cases k<;>rfl
theorem sY{C:Expr->Prop}{it:PE}{v:Nat}{e:Expr}(hc:bg sc Ov (.comp1 elt v it) e=QI)
  (k:∀y xn px it' scope qp,bg sc Ov it it'=QI->bQ it'=QI->qm sc Ov xn scope=QI->bg (aJ sc scope.names) ((v,xn)::d5 (aJ sc scope.names) Ov) elt y=QI->C (.ListComp y [⟨.Name xn px,it',[],0⟩] scope qp)):C e:=by
 refine jo hc λy gs scope qp hc=>cO (C:=λgs=>C (.ListComp y gs scope qp)) hc λg hc=>ah λPG Ox=>?_;obtain⟨t,i,fs,a⟩:=g;refine Ox (bB (C:=λfs=>C (.ListComp y [⟨t,i,fs,a⟩] scope qp)) hc λhc=>b2 hc λha hc=>aN (C:=λt=>C (.ListComp y [⟨t,i,[],a⟩] scope qp)) hc λx p hc=>b4 hc λh1 h2 h3 h4=>?_);have ha:a=0:=Pl ha;subst ha;exact k y x p i scope qp h1 h2 h3 h4
theorem pQ{it:PE}{v:Nat}{y it':Expr}{px qp:Pos}{K:KL}{use:Option (Value->Sem Unit)}
  (he:aj G n F elt) (hi:aj G n F it) (hc1:bg sc Ov it it'=QI) (hc2:bQ it'=QI) (hcc:qm sc Ov xn scope=QI) (hc10:bg (aJ sc scope.names) ((v,xn)::d5 (aJ sc scope.names) Ov) elt y=QI)
  (x:Ex G A l n env sc Ov U Z J s) (hA:A.handled=QE) (hev:cR F it U J (λa J=>cC (o8 J a) λsrc=>o9 (λx J K Er=>cR F elt (U.set v (QA x)) J K Er) src Er K N 0 [] J) Er)
  (hE:EP G l Z s.heap Er E)
  (hK:∀vs J2 Z2 s2 Dd C m items,K vs J2->SR G l Z2 J2 s2->au [] [G.tab] Z s.heap Z2 s2.heap->s2.heap.Ns C m->dA s2.heap Dd items->af G s2.heap Z2 vs items.toList->Dd∉own Z2->C∉own Z2->s.heap.get? Dd=QE->s.heap.get? C=QE->Dd≠C->G.H.get? Dd=QE->G.H.get? C=QE->Dd∉l.filterMap (·.frame)->C∉l.filterMap (·.frame)->
   compPost G.M A E use Q (.ref Dd) C (.ok .next) s2):
  wpAny G.M A (comprehension (.ListComp y [⟨.Name xn px,it',[],0⟩] scope qp) scope env (firstIterPos [⟨.Name xn px,it',[],0⟩] qp) (PySem.newList []) QK (eval it' env) use) Q E s:=by
 refine b2 hcc λhcc hc9=>b6 hcc λhc3 hc4 u hc6 hc7 hc8=>?_;have hc3:scope.kind=.function:=by exact Pl hc3
 have hc4:(aJ sc scope.names).lookup xn=QA .local:=by exact Pl hc4
 have hc7:(scope.names.map (·.1)).Nodup:=Pm hc7;have hfree:∀p∈scope.names,p.2=.free->∃i,Ov.lookup i=QA p.1/\sc.lookup p.1=QA .cell:=λp hp hk=>by
  have h1:=O9.mp (OD.mp hc9).2 p hp;simp only[hk,bne_self_eq_false,Bool.false_or,List.any_eq_true,Qh,beq_iff_eq] at h1;refine ah λPG Ox=>dh h1 λq u e1 e2=>Ox (⟨q.1,e2.trans (PK _ e1),?_⟩);have h2:=O9.mp hc6 (if p.2== .free&&sc.lookup p.1==QA .cell then(p.1,.cell) else p) (Pa.mpr ⟨p,hp,rfl⟩);cases h3:(sc.lookup p.1==QA .cell) with
  |true=>exact Pl h3
  |false=>(replace h2:=h3▸h2);simp[hk] at h2
 have hcells:∀p∈scope.names,p.2=.free->∃a,env.cells.lookup p.1=QA a:=λp hp hk=>by exact ah λPG Ox=>ak (hfree p hp hk) λi h1 h2=>eX (x.V.cells i p.1 h1 (.inl h2)) λa u z u=>Ox (⟨a,z⟩)
 refine wpAny_comprehension_free rfl (λx=>j4 hc2) (wj hcells) hc3 (λz hz hl=>oK hc7 (by obtain⟨a,b⟩:=z;simp only at hl;subst hl;exact hz)) ?_;refine hi hc1 hev x (.inl hA) (λa J1 μ1 c s1 he1 R1 st1 r1=>bN he1 λsrc hs he1=>?_) hE;have x1:=x.next R1 st1;have mk:∃t tup,dO G s1.heap μ1 t tup src/\c=.ref t/\(∃items:Array Value,(if tup then s1.heap.IsTuple t items else s1.heap.IsList t items))/\∀vs,src=.fixed vs->vs.length<=aE:=by
  clear he1 hev;cases a<;>first|exact nn hs|(have hs:=OO hs;subst hs)|skip
  ·obtain⟨hl,aa,items,rfl,ht,hn,rs⟩:=r1;exact⟨aa,QI,.inl ⟨rfl,items,ht,hn,rs⟩,rfl,⟨items,ht.isTuple⟩,λvs q=>by cases q;exact hl⟩
  ·obtain⟨hl,aa,items,rfl,ht,rs⟩:=r1;refine ak (id ht) λob ho z=>?_;exact⟨aa,QK,.inr ⟨rfl,items,ht,rs⟩,rfl,⟨items,ob,x1.R.stays _ _ ho,z⟩,λvs q=>by cases q;exact hl⟩
  ·rename_i k;refine(Pb.mp (show(fL J1 k).map (λu=>Src.lst k)=QA src from hs)).elim λvs p=>?_;cases p.2;refine ah λPG Ox=>?_;obtain⟨x',d,e1,rfl,_,items,hl,rs⟩:=x1.R.at (fM p.1);refine eX r1 λx2 d2 er2 e2=>?_;subst er2;refine Ox ?_;cases e1.symm.trans e2;exact⟨x',QK,⟨rfl,e1⟩,rfl,⟨items,hl.isList⟩,λvs q=>by cases q⟩
 refine ah λPG Ox=>?_;refine lR mk λt0 tup S1 er3 nq4 hfix=>?_;subst er3;refine aB nq4 λitems0 hseq=>Ox ?_;have start:∀(it:Addr) (h2:Heap),it=s1.heap.objs.size->h2.objs.size=s1.heap.objs.size+1->(∀b o,s1.heap.get? b=QA o->h2.get? b=QA o)->cF h2 it t0 0 tup->
   wpAny G.M A (PySem.newList []) (λacc s₃=>wpAny G.M A (newFunctionEnv scope env.globals (ik env scope.names []) [] env.qual QE .none (QA env)) (λcenv s₄=>codeAny G.M A (.compStart (.ListComp y [⟨.Name xn px,it',[],0⟩] scope qp) 0 (.ref it) acc {cenv with scope:=relabel scope env}) (compPost G.M A E use Q acc cenv.locals) s₄) E s₃) E {s1 with heap:=h2}:=by
  intro it h2 hit hsz k2 hI;have hkeys:∀i y,(d5 (aJ sc scope.names) Ov).lookup i=QA y->Ov.lookup i=QA y/\(aJ sc scope.names).lookup y=QA .cell:=λi y q=>by have hm:(i,y)∈d5 (aJ sc scope.names) Ov:=dm q;unfold d5 at hm;replace hm:=(List.mem_filter ..).mp hm;have:=O9.mp (OD.mp hc9).1 (i,y) hm.1;exact⟨Pl this,Pl hm.2⟩
  have hcellIn:∀y,(aJ sc scope.names).lookup y=QA .cell->(y,NameKind.free)∈scope.names/\sc.lookup y=QA .cell:=λy q=>by
   have hm:=mem_of_lookup q;unfold aJ at hm;refine ah λPG Ox=>ak (Pa.mp hm) λp hp e=>?_;obtain⟨a,kd⟩:=p;refine Ox ?_;cases hk:(kd==NameKind.free&&sc.lookup a==QA .cell) with
   |true=>
    (replace e:=hk▸e)
    simp only[if_true,Prod.mk.injEq] at e;simp only[Qh,beq_iff_eq] at hk;exact e.1.symm▸(⟨hk.1▸hp,hk.2⟩)
   |false=>
    (replace e:=hk▸e)
    simp only[Bool.false_eq_true,if_false,Prod.mk.injEq] at e;have:=O9.mp hc8 (a,kd) hp;rw[e.2] at this;exact ff this
  refine wpAny_newObj_type (wpAny_newFunctionEnv (λz hz=>by simpa using O9.mp hc8 z hz) (λz hz=>nomatch hz) (λh4 hns4 hsb4=>?_) hc3) (by size_fits);dsimp only at hns4 hsb4 ⊢;generalize hH3:h2.push {cls:=.type "list",dict:=QE,data:=.seq ([]:List Value).toArray}=H3 at hns4 hsb4 ⊢;have s3:H3.objs.size=s1.heap.objs.size+2:=by exact hH3▸(Qi ..).symm▸hsz.symm▸rfl
  have k3:∀b o,h2.get? b=QA o->H3.get? b=QA o:=λb o e=>by exact hH3.symm▸(OH _ e)
  have hD3:H3.get? h2.objs.size=QA {cls:=.type "list",dict:=QE,data:=.seq ([]:List Value).toArray}:=by exact hH3.symm▸(OS _ rfl)
  have k4:∀b o,H3.get? b=QA o->h4.get? b=QA o:=λb o e=>hsb4.extBut b o (PD (Pe e)) (OH _ e);have k14:∀b o,s1.heap.get? b=QA o->h4.get? b=QA o:=λb o e=>k4 b o (k3 b o (k2 b o e));have nD:s1.heap.get? h2.objs.size=QE:=bc (by rw[hsz];exact PR _);have nC:s1.heap.get? H3.objs.size=QE:=bc (by rw[s3];exact O1 _ _);have nI:s1.heap.get? it=QE:=bc (by rw[hit];exact OX _);refine ah λPG Ox=>bj (x1.R.QD nD) λoD tD=>bj (x1.R.QD nC) λoC tC=>bj (x1.R.QD nI) λoI tI=>Ox ?_;have HD:G.H.get? h2.objs.size=QE:=cw x1.R.stays nD;have HC:G.H.get? H3.objs.size=QE:=cw x1.R.stays nC;have notF:∀{a:Addr},s1.heap.get? a=QE->a∉l.filterMap (·.frame):=λ{a} hn hm=>by refine ah λPG Ox=>?_;obtain⟨_,o,q,_⟩:=x1.R.frames.mem hm;exact Ox (nn (hn.symm.trans q))
  refine bj (x1.R.keeps k14 (s1.toks+0)) λR4 st4=>?_;have hCF:qG G l {newEnv scope H3.objs.size env.globals (ik env scope.names []) env.qual QE .none (QA env) builtinsNs with scope:=relabel scope env} s1.heap h2.objs.size H3.objs.size it:=
   ⟨x1.R.stays,nD,nC,(by rw[s3,hsz];exact PD (PU _)),rfl,notF nC,notF nD,tD,(by rw[hsz,hit];exact PC (PU _)),(by rw[s3,hit];exact PC (Nat.lt_succ_of_lt (PU _)))⟩
  have hV4:=x1.V.step st4;have V:ba G {newEnv scope H3.objs.size env.globals (ik env scope.names []) env.qual QE .none (QA env) builtinsNs with scope:=relabel scope env} (aJ sc scope.names) ((v,xn)::d5 (aJ sc scope.names) Ov) (U.set v QE) μ1 h4:=by
   have lk:∀{i:Nat} {z:Str},((v,xn)::d5 (aJ sc scope.names) Ov).lookup i=QA z->(i=v/\z=xn)\/(i≠v/\(d5 (aJ sc scope.names) Ov).lookup i=QA z):=λ{i z} q=>by
    rw[Pz] at q;split at q
    ·rename_i e;cases q;exact .inl ⟨Pl e,rfl⟩
    ·rename_i e;exact .inr ⟨by simpa using e,q⟩
   refine⟨hc3,u2 x1.V.kind x1.V.names,x1.V.glob,x1.V.bi,⟨_,hns4,λi z w q1 q2 q3=>?_⟩,λi z q1 q2=>?_,oC,tC,HC⟩
   ·rcases lk q1 with⟨rfl,rfl⟩|⟨hne,hl⟩
    ·have hlt:i<U.length:=by simpa using(OG.mp q3).1
     ((have hz:=OO ((OT hlt).symm.trans q3);cases hz))
    ·exact absurd (((hkeys i z hl).2).symm.trans q2) dc
   ·rcases lk q1 with⟨rfl,rfl⟩|⟨hne,hl⟩
    ·rcases q2 with q2|q2<;>rw[hc4] at q2<;>exact absurd q2 dc
    ·obtain⟨hvi,hck⟩:=hkeys i z hl;refine ah λPG Ox=>bj (hcellIn z hck) λhfr hsc=>lR (hV4.cells i z hvi (.inl hsc)) λa ov z1 z2 z3 z4=>Ox ?_;exact⟨a,ov,sX scope.names [] hc7 hfr a z1,z2,z3,λw hw=>z4 w (by rw[OM (Ne.symm hne)] at hw;exact hw)⟩
  refine ah λPG Ox=>eK x1.fr λL top OC hf1 hf2 hf3=>Ox ?_;have x0:nG G l {newEnv scope H3.objs.size env.globals (ik env scope.names []) env.qual QE .none (QA env) builtinsNs with scope:=relabel scope env} (aJ sc scope.names) ((v,xn)::d5 (aJ sc scope.names) Ov) μ1 s1.heap h2.objs.size H3.objs.size it t0 tup src (U.set v QE) [] 0 μ1 J1 {s1 with heap:=h4,toks:=s1.toks+0}:=by refine⟨R4,V,st4,⟨?_,oI,tI,nI⟩,S1.step st4 (λu q=>nomatch q),⟨#[],⟨_,k4 _ _ hD3⟩,rfl⟩,oD,rfl⟩;exact ak hI λo ho r=>⟨o,k4 _ _ (k3 _ _ ho),r⟩
  have hFT:y6 {newEnv scope H3.objs.size env.globals (ik env scope.names []) env.qual QE .none (QA env) builtinsNs with scope:=relabel scope env} l:=⟨L,top,OC,hf1,hf2,hf3⟩;have lp:=xQ (RR:=compPost G.M A E use Q (.ref h2.objs.size) H3.objs.size) (y:=y) (it':=it') (px:=px) (qp:=qp) (scope:=scope) (K:=K) (Er:=Er) he hc10 hA x.C hFT hCF hc4 (λi z u hl=>(hkeys i z hl).2) (x.nx hA) hfix
   (λvs J2 Z2 s2 m items e1 R2 st2 hn2 hl2 rs2 d2 c2=>hK vs J2 Z2 s2 _ _ m items e1 R2 (st1.trans st2) hn2 hl2 rs2 d2 c2 (st1.none nD) (st1.none nC) hCF.dc HD HC (notF nD) (notF nC))
   (λerr J2 Z2 s2 m e fl h5 e1 R2 st2 hn2 c2 hC5 l5 f2=>by refine⟨m,hn2,λh6 hs6 cenv' u=>?_⟩;have R6:=R2.goes hs6 hn2 c2 HC (notF nC) s2.toks;have f6:=(f2.but hs6 hC5 hn2).lower (h0:=s.heap) λa ha=>st1.none (l5 a ha);have st6:au [] [G.tab] Z s.heap Z2 h6:=iM (st1.trans st2) hs6 (st1.none nC);unfold passOn;have f0:=f6;refine ah λPG Ox=>aB f0 λnq0 nq1=>?_;obtain⟨oe,vs,t,oT,ts,a0⟩:=nq0;obtain⟨p1,p2,p3,q1,q2,q3,q4,_,_,_,_,_,_,_,_,_⟩:=nq1;refine Ox (Pf (Pk q1 q2 q4 ?_));rw[if_neg (ne_of_beq_false rfl)];exact Pf (cX (s:={s2 with heap:=h6}) R6 st6 x.R.stays f6 λh7 R7 f7 st7 u=>wpAny_throw (hE err J2 _ _ e1 ⟨Z2,e,_,rfl,R7,st7,f7⟩)))
   he1 x0
  refine codeAny_compStart_list lp ?_;cases tup with
  |true=>exact ak hI λo ho r=>wpAny_pyIter_tupleiter (s:={s1 with heap:=h4,toks:=s1.toks+0}) (i:=0) ⟨o,k4 _ _ (k3 _ _ ho),r⟩ lp
  |false=>exact ak hI λo ho r=>wpAny_pyIter_listiter (s:={s1 with heap:=h4,toks:=s1.toks+0}) (i:=0) ⟨o,k4 _ _ (k3 _ _ ho),r⟩ lp
 cases tup with
 |true=>exact wpAny_pyIter_tuple hseq (start _ _ rfl (Qi ..) (λb o hb=>OH _ hb) ⟨_,OS _ rfl,rfl,rfl⟩)
 |false=>exact wpAny_pyIter_list hseq (start _ _ rfl (Qi ..) (λb o hb=>OH _ hb) ⟨_,OS _ rfl,rfl,rfl⟩)
theorem au.adopt(st:au W X Z h Z' h')(hd:h.get? d=Option.none):au W X Z h (Z'++[(d,d)]) h':=st.pre.elim λν p=>
 ⟨⟨ν++[(d,d)],by(refine p.1.symm▸?_);exact OQ _ _ _,λy hy=>by
  rcases OL.mp hy with hp|hp
  ·exact p.2 y hp
  ·(refine(OF.mp hp).symm▸?_);exact hd⟩,st.live,st.keep⟩
theorem zO{it:PE}{v:Nat}(he:aj G n F elt)(hi:aj G n F it):aj G n F (.comp1 elt v it):=by intro sc Ov e U J K Er hc hev A l env Z s Q E x hA q qe;have hA:=bH hA rfl;refine sY (C:=λe=>wpAny _ _ (eval e env) _ _ _) hc λy xn px it' scope qp c1 c2 c3 c4=>?_;rw[eval_ListComp];refine pQ (use:=QE) he hi c1 c2 c3 c4 x hA hev qe λvs J2 Z2 s2 Dd C m items hev R2 st2 hn2 hl2 rs2 d2 c2' nD nC hDC HD HC fD fC=>⟨m,hn2,λh' hs'=>?_⟩;have R3:=R2.goes hs' hn2 c2' HC fC s2.toks;refine aB hl2 λmm hl=>?_;have hl3:dA h' Dd items:=⟨mm,(hs'.2 Dd hDC).trans hl⟩;have R4:=SR.adopt (s:={s2 with heap:=h'}) R3 hl3 d2 HD fD hev.1 (af.but hs' (iN hn2) vs rs2);exact q _ _ _ _ _ hev.2 R4 ((iM st2 hs' nC).adopt nD) ⟨Dd,Dd,rfl,by(refine(R2.len ..)▸?_);simp⟩
theorem G5:zt G n F:=λu u u he hi=>zO he hi
theorem aA.goes(hn:h.Ns a m)(hs:Heap.SameBut a h h'){v:AV}{c:Value}(hv:bF v=QI\/v=.word)(r:aA G env h Z v c):aA G env h' Z v c:=by
 refine eK (id hn) λo0 es0 ep0 ho0 hd0 u=>?_;exact r.map (ad.but hs (iN hn)) (λb o hn ho hd=>⟨(hs.2 b λz=>by rw[z,ho0] at ho;cases ho;rcases hd with⟨fd,w⟩|⟨_,vs,w⟩<;>cases w.symm.trans hd0).trans ho,hn⟩) λu u e=>by rw[e] at hv;exact hv.elim (λh=>ff h) λh=>nomatch h
theorem ba.goes(V:ba G env sc Ov U Z h)(hx:dB U)(hn:h.Ns a m)(hs:Heap.SameBut a h h')(ha:env.locals≠a):ba G env sc Ov U Z h':=by refine V.map (λi v u q r=>aA.goes hn hs (hx i v q) r) (ad.but hs (iN hn)) (λu hm=>⟨jZ hm λo ho=>⟨o,(hs.2 _ ha).trans ho,.refl o⟩,V.loc⟩) λb o ov hn' ho hd=>⟨hn',o,(hs.2 b λz=>?_).trans ho,hd⟩;refine eK (id hn) λo0 es0 ep0 ho0 hd0 u=>?_;rw[z,ho0] at ho;cases ho;cases hd0.symm.trans hd
noncomputable def nH (sc:aZ) (e:Expr) (y:Str) (py:Pos):Bool:=i5 e λu u s u=>sc.lookup y==QA .local&&py.line==e.pos.line&& !(s.names.any λp=>p.1==y&&(p.2== .local||p.2== .cell))
theorem sZ{v:Nat}{it:PE}{y:Str}{py:Pos}{e:Expr}(he:aj G n F elt)(hi:aj G n F it)(hc:bg sc Ov (.comp1 elt v it) e=QI)(hvi:Ov.lookup i=QA y)(hy:sc.lookup y=QA .local)(hsw:nH sc e y py=QI)(fx:dk G A l n env L Ov h0)(hd0:hd=QE):
  oH G F A l env sc Ov Z0 h0 L hd (.a (.v i) (.comp1 elt v it)) (.Assign [.Name y py] e pos):=by
 subst hd0;intro U J K Z s Q E hx x q;have hA:A.handled=QE:=x.hand;refine sY (C:=λe=>nH sc e y py=QI->wpAny _ _ (exec (.Assign [.Name y py] e pos) env) _ _ _) hc (λyy xn px it' scope qp c1 c2 c3 c4 hsw=>?_) hsw;have hsw':swapsWith (.ListComp yy [⟨.Name xn px,it',[],0⟩] scope qp) (QA (.Name y py)) pos.line env=pure QI:=by
  have hsw:(sc.lookup y==QA .local&&py.line==(Expr.ListComp yy [⟨.Name xn px,it',[],0⟩] scope qp).pos.line&& !(scope.names.any λp=>p.1==y&&(p.2== .local||p.2== .cell)))=QI:=hsw;simp only[Qh,beq_iff_eq] at hsw;unfold swapsWith;simp only;have h1:env.blockKind=.function:=by unfold Env.blockKind;(refine x.V.kind.symm▸?_);rfl
  have h2:env.kindOf y=QA .local:=by unfold Env.kindOf;exact(PK _ x.V.names).trans hy
  ((refine h1.symm▸?_;refine h2.symm▸?_))
  simp only[hsw.1.2,beq_self_eq_true,Bool.true_and];exact PK _ hsw.2
 (refine(exec_Assign_Name_used _ _ _ _ hsw').symm▸?_)
 refine Pf (Pj (Pf ?_));show wpAny _ A (do let _ <-comprehension (.ListComp yy [⟨.Name xn px,it',[],0⟩] scope qp) scope env _ (PySem.newList []) QK (eval it' env) (QA (assign (.Name y py) env))) _ _ s;refine Pf (Py (Q:=λu s'=>Q .next s') (pQ (use:=QA (assign (.Name y py) env)) he hi c1 c2 c3 c4 (x.ex fx) hA hx (x.fails q.err) λvs J2 Z2 s2 Dd C m items hx R2 st2 hn2 hl2 rs2 d2 c2' nD nC hDC HD HC fD fC=>?_) (λu s' hq=>Ph (Ph hq)) λu u e=>e);have R4:=SR.adopt R2 hl2 d2 HD fD hx.1 rs2;have x4:=x.next fx R4 (st2.adopt nD);have rD:ad G s2.heap (Z2++[(Dd,Dd)]) (.obj J2.length) (.ref Dd):=⟨Dd,Dd,rfl,by(refine(R2.len ..)▸?_);simp⟩;have hlC:env.locals≠C:=λz=>by obtain⟨_,o,q1,_⟩:=x.fw env.locals ON;rw[z,nC] at q1;exact nn q1
 show wpAny _ A (assign (.Name y py) env (.ref Dd)) _ _ _;refine wpAny_assign_Name (iJ x4.R x4.V fx.vok hvi hy rD.slot λs' R' V' st' hloc hoth=>?_);have hnC:s'.heap.Ns C m:=by exact eJ hn2 λo es ep ho z=>⟨o,es,ep,(hoth C (Ne.symm hlC)).trans ho,z⟩
 refine⟨m,hnC,λh' hs'=>?_⟩;have cno:C∉own (Z2++[(Dd,Dd)]):=by
  unfold own at c2' ⊢;simp only[PN,List.flatMap_append,OL] at c2' ⊢
  rintro(z|z)
  ·exact c2' z
  ·simp at z;exact hDC z.symm
 have hno:dB (U.set i (QA (.obj J2.length))):=(x.nx rfl).set (.inl rfl);refine q.next (s:={s' with heap:=h'}) hx.2.2 ⟨R'.goes hs' hnC cno HC fC s'.toks,V'.goes hno hnC hs' hlC,iM (x4.st.trans st') hs' (x.st.none nC),λa ha=>?_,λu=>hno,hA⟩;obtain⟨h1,o,h2,h3⟩:=x4.fw a ha;have ha':a=env.locals:=OF.mp ha;refine eJ hloc λo' es k q1 q2=>?_;subst ha';exact⟨h1,o',(hs'.2 _ hlC).trans q1,.inl ⟨es,k,q2⟩⟩
theorem lE:typeLookup (.type "zip") "__getattr__"=pure QE:=by rw[typeLookup_type,builtinLookup_eq_fast];kernel_rfl
theorem oL:typeLookup (.type "zip") "keys"=pure QE:=by rw[typeLookup_type,builtinLookup_eq_fast];kernel_rfl
theorem entry_zip_getattribute:entryFor table "zip.__getattribute__"=QA Builtin.«object.__getattribute__»:=
 entryFor_alias (id':="object.__getattribute__") (by kernel_rfl) (by decide+kernel) (by decide+kernel) (by kernel_rfl)
theorem meets_getattribute_miss_zip(a:Addr)(vs:Array Value)(u0u:Tok):
  Meets (Builtin.«object.__getattribute__» ⟨[.ref a,.str "keys" u0u],[]⟩) (λA R s=>s.heap.get? a=QA {cls:=.type "zip",dict:=QE,data:=.fields vs,slots:= #[]}/\raisesAttr (.ref a) "keys" A R s):=
 Meets.of_wp λprog w A R s hs=>by
  obtain⟨hp,g,d,tk,os⟩:=s;refine bj hs λhx hs=>?_;have hT:(⟨hp,g,d,tk,os⟩:Shared).TypeIs (.ref a) "zip":=⟨_,hx,rfl⟩;have hmiss:=oL;unfold Builtin.«object.__getattribute__»
  repeat (any_goals (first|assumption|wp_step))
  all_goals (first|exact wpAny_raiseAttrError hs.1 hs.2 (attrMsg_fits (by decide+kernel) (by size_fits))|skip)
set_option maxRecDepth 8000 in
theorem tc{prog:Program}{w:World}{vs:Array Value}{Q:Option Value->Shared->Prop}
  (hx:s.heap.get? a=QA {cls:=.type "zip",dict:=QE,data:=.fields vs,slots:= #[]}) (hA:A.handled=QE)
  (h:∀h' tk e,Heap.NewExcOf s.heap h' e "AttributeError"->Q QE {s with heap:=h',toks:=tk}):
  wpAny (model prog w) A (getAttr? (.ref a) "keys") Q E s:=by
 obtain⟨hp,g,d,tk,os⟩:=s;have hT:∀tk',(⟨hp,g,d,tk',os⟩:Shared).TypeIs (.ref a) "zip":=λu=>⟨_,hx,rfl⟩;have f1:=sub_AttributeError;have f3:=PySem.F.slot_zip_getattribute.lookup;have f4:=PySem.F.slot_zip_getattribute.bind (.ref a);have f5:=lE;unfold getAttr? getAttrBy? getAttrBy
 repeat (any_goals (first|assumption|exact hT _|((with_reducible show wpAny _ _ (call (Value.builtin "zip.__getattribute__") _ _) _ _ _);refine call_meets PySem.F.slot_zip_getattribute (hT _) entry_zip_getattribute (PySem.F.args_zip_getattribute_2 _ _) (meets_getattribute_miss_zip a vs _) ⟨hx,hA,λh' tk' e hx'=>?_⟩)|wp_step))
 refine jk hx'.there λt' u' he=>?_;show wpAny _ _ (getattributeRaised _ _ _ _ _ _ _) _ _ _;unfold getattributeRaised
 repeat (any_goals (first|assumption|wp_step))
 exact h _ _ _ hx'.of
section
set_option genCtorIdx false
section
variable{prog:Program}{w:World}{A:Around}{E:Value->Shared->Prop}{s:Shared}
theorem ki{Q:Option Obj->Shared->Prop}(h:Q (s.heap.get? a) s):wpAny M A (loadIfAlive a) Q E s:=λu u u=>h
theorem fS{x:Value}{tup:Bool}(hit:cF s.heap it t i tup)(ht:if tup then s.heap.IsTuple t items else s.heap.IsList t items)(hx:items[i]?=QA x)
  (hQ:∀h',cF h' it t (i+1) tup->Heap.SameBut it s.heap h'->Q x {s with heap:=h'}):wpAny (model prog w) A (Builtin.SmallTypes.nextOf (.ref it)) Q E s:=by
 cases tup with
 |false=>exact wpAny_nextOf_list_item hit ht hx hQ
 |true=>
  refine dh (id hit) λo ho hc hd=>?_;obtain⟨ol,hol,_,nl,hdl⟩:=ht;unfold Builtin.SmallTypes.nextOf;refine Pf (Qr (name:=Str.ofString "__next__") ⟨o,ho,hc⟩ F.slot_tuple_iterator_next (Qq F.slot_tuple_iterator_next ⟨o,ho,hc⟩ F.entry_tuple_iterator_next ?_ (F.args_tuple_iterator_next_1 _)));show wpAny _ _ (field (.ref it) 0 >>= _) _ _ s;refine Pf (Pk ho hd (x:=.ref t) rfl ?_)
  (refine(if_neg (show ¬((Value.ref t==Value.none)=QI) from Bool.false_ne_true)).symm▸?_)
  show wpAny _ _ (field (.ref it) 1 >>= _) _ _ s;refine Pf (Pk ho hd (x:=.int i 0) rfl ?_);show wpAny _ _ (seqItems? (.ref t) >>= _) _ _ s;refine Pf (Qx hol hdl ?_);simp only[Int.toNat_natCast,hx];refine Pf (wpAny_setField ho hd (PU _) (Ph ⟨x,rfl,Ph (hQ _ ?_ (Qj ..))⟩));exact⟨_,PH _ ho (Obj.isFreed_of_fields (Qw hd _)),(Obj.cls_mapFields ..).trans hc,by rw[Qw hd];rfl⟩
theorem gW{tup:Bool}(hh:A.handled=QE)(hit:cF s.heap it t i tup)(ht:if tup then s.heap.IsTuple t items else s.heap.IsList t items)(hx:items[i]?=QE)
  (hE:∀h' e,pG it s.heap h'->(∃o,h'.get? e=QA o/\o.cls=.type "StopIteration")->E (.ref e) {s with heap:=h'}):wpAny (model prog w) A (Builtin.SmallTypes.nextOf (.ref it)) Q E s:=by
 refine dh (id hit) λo ho hc hd=>?_;cases tup with
 |true=>obtain⟨ol,hol,_,nl,hdl⟩:=ht;unfold Builtin.SmallTypes.nextOf;exact Pf (Qr (name:=Str.ofString "__next__") ⟨o,ho,hc⟩ F.slot_tuple_iterator_next (Qq F.slot_tuple_iterator_next ⟨o,ho,hc⟩ F.entry_tuple_iterator_next (pJ (A:=A.in1) hh ho hd hol hdl hx λe h' he hi=>hE h' e he hi) (F.args_tuple_iterator_next_1 _)))
 |false=>obtain⟨ol,hol,_,nl,hdl⟩:=ht;unfold Builtin.SmallTypes.nextOf;exact Pf (Qr (name:=Str.ofString "__next__") ⟨o,ho,hc⟩ slot_listiter_next (Qq slot_listiter_next ⟨o,ho,hc⟩ entry_listiter_next (pK (A:=A.in1) hh ho hd hol hdl hx λe h' he hi=>hE h' e he hi) (args_listiter_next _)))
abbrev zP(h:Heap)(z TI TO:Addr)(f0:Value)(f1:Bool):Prop:=
 h.get? z=QA {cls:=.type "zip",dict:=QE,data:=.fields #[f0,.bool f1,.bool QK,.ref TI,.ref TO],slots:= #[]}
def u3(h:Heap)(f0:Value)(f1:Bool):Prop:=(f0=.none/\f1=QK)\/∃(T:Addr) (o:Obj),f0=rawInt T/\h.get? T=QA o
def dp(h:Heap)(tup:Bool)(t:Addr)(xs:Array Value):Prop:=if tup then h.IsTuple t xs else h.IsList t xs
structure Zp(b1 b2:Bool)(h:Heap)(z TI TO i1 i2 t l:Addr)(k:Nat)(xs ys:Array Value)(f0:Value)(f1:Bool):Prop where
 z:zP h z TI TO f0 f1
 ti:IsPair h TI (.ref i1) (.ref i2)
 to:∃a b,IsPair h TO a b
 i1:cF h i1 t k b1
 i2:cF h i2 l k b2
 t:dp h b1 t xs
 l:dp h b2 l ys
theorem cF.but{tup:Bool}(x:cF h it t i tup)(hs:Heap.ExtBut a h h')(hn:it≠a):cF h' it t i tup:=by obtain⟨o,ho,r⟩:=x;exact⟨o,hs _ _ hn ho,r⟩
theorem dp.on(x:dp h b t xs)(k:∀o,h.get? t=QA o->h'.get? t=QA o):dp h' b t xs:=by cases b<;>(obtain⟨o,ho,r⟩:=x;exact⟨o,k _ ho,r⟩)
theorem cP(x:dp h b t xs)(hs:Heap.ExtBut a h h')(hn:t≠a):dp h' b t xs:=x.on λo ho=>hs _ _ hn ho
def Jx(z TO i1 i2:Addr)(h h':Heap):Prop:=(∀c o,c≠z->c≠TO->c≠i1->c≠i2->h.get? c=QA o->h'.get? c=QA o)/\∀c o,h.get? c=QA o->∃o',h'.get? c=QA o'
theorem bX{c:Addr}(hs:Heap.SameBut a h h')(ha:∃o,h'.get? a=QA o)(q:∃o,h.get? c=QA o):∃o',h'.get? c=QA o':=by
 by_cases e:c=a
 ·exact e▸ha
 ·obtain⟨o,q⟩:=q;exact⟨o,(hs.2 c e).trans q⟩
theorem ja{c:Addr}(hs:pG a h h')(q:∃o,h.get? c=QA o):∃o',h'.get? c=QA o':=by
 by_cases e:c=a
 ·exact e▸hs.2
 ·obtain⟨o,q⟩:=q;exact⟨o,hs.1 c o e q⟩
theorem td{b2:Bool}{l:Addr}{f0:Value}{f1:Bool}{Q:Fin->Shared->Prop}(D:ZipApart z TI TO i1 i2 t l)(zZ:Zp b1 b2 s.heap z TI TO i1 i2 t l k xs ys f0 f1)(ho:u3 s.heap f0 f1)
  (hQ:∀x y,xs[k]?=QA x->ys[k]?=QA y->∀h' P f0' f1',s.heap.get? P=QE->IsPair h' P x y->Zp b1 b2 h' z TI TO i1 i2 t l (k+1) xs ys f0' f1'->u3 h' f0' f1'->(∀c o,c≠z->c≠TO->c≠i1->c≠i2->s.heap.get? c=QA o->h'.get? c=QA o)->Q (.done (.ret (.ref P))) {s with heap:=h'})
  (hE:xs[k]?=QE\/ys[k]?=QE->A.handled=QE/\∀h' e,Jx z TO i1 i2 s.heap h'->(∃o,h'.get? e=QA o/\o.cls=.type "StopIteration")->E (.ref e) {s with heap:=h'}):
  wpAny (model prog w) A (Builtin.«zip.__next__» ⟨[.ref z],[]⟩) Q E s:=by
 obtain⟨hz,hTI,nq2,h1,h2,hl1,hl2⟩:=zZ;refine jk nq2 λa b hTO=>?_;show wpAny _ _ (field (.ref z) 2 >>= _) _ _ _;refine Pf (Pk hz rfl (x:=.bool QK) rfl ?_);show wpAny _ _ (field (.ref z) 3 >>= _) _ _ _;refine Pf (Pk hz rfl (x:=.ref TI) rfl ?_);refine Pf (Qx hTI rfl ?_);show wpAny _ _ (Builtin.SmallTypes.ownedTupleIsFree (.ref z) >>= _) _ _ _;refine Pf ?_;unfold Builtin.SmallTypes.ownedTupleIsFree;rcases ho with⟨rfl,rfl⟩|⟨T,oT,rfl,hT⟩
 ·refine Pf (Pk hz rfl (x:=.none) rfl (Ph ?_));simp only[if_true];refine Pf (wpAny_rule ?_);refine Pf (Pk hz rfl (x:=.ref TO) rfl ?_);refine Pf (Qy hz (PY _) λh₁ hz₁ hs₁=>?_);replace hz₁:IsZip h₁ z TI TO .ellipsis:=hz₁;refine Pf ?_;simp only[List.zipIdx_cons,List.zipIdx_nil,List.forIn_cons,List.forIn_nil];refine Pf (Pf (wpAny_onRaise ?_));show wpAny _ _ (Builtin.SmallTypes.nextOf (.ref i1) >>= _) _ _ _;cases hx:xs[k]? with
  |none=>
   refine Pf (gW (tup:=b1) (hE (.inl hx)).1 (h1.but hs₁.extBut D.i1z) (cP hl1 hs₁.extBut D.l1z) hx λh₂ e hs₂ he=>?_);refine ak he λoe hoe hce=>?_;have hz₂:IsZip h₂ z TI TO .ellipsis:=hs₂.1 _ _ D.i1z.symm hz₁;have hez:e≠z:=λx=>by subst x;cases hz₂.symm.trans hoe;simp at hce
   refine Qy hz₂ (PY _) λh₃ hz₃ hs₃=>(hE (.inl hx)).2 h₃ e ⟨λc o c1 u c3 u x=>hs₃.extBut _ _ c1 (hs₂.1 _ _ c3 (hs₁.extBut _ _ c1 x)),λc o q=>bX hs₃ ⟨_,hz₃⟩ (ja hs₂ (bX hs₁ ⟨_,hz₁⟩ ⟨o,q⟩))⟩ ⟨oe,hs₃.extBut _ _ hez hoe,hce⟩
  |some x=>
   refine Pf (fS (tup:=b1) (h1.but hs₁.extBut D.i1z) (cP hl1 hs₁.extBut D.l1z) hx λh₂ h1₂ hs₂=>Ph ?_);have hTO₂:IsPair h₂ TO a b:=hs₂.extBut _ _ D.TOi1 (hs₁.extBut _ _ D.TOz hTO);refine Pf (Qx hTO₂ rfl ?_);refine Pf (wpAny_updateSeq_pair hTO₂ λh₃ hTO₃ hs₃=>?_);replace hTO₃:IsPair h₃ TO x b:=hTO₃;refine Pf (wpAny_letGo (Ph ?_));refine Pf (Pf (wpAny_onRaise ?_));show wpAny _ _ (Builtin.SmallTypes.nextOf (.ref i2) >>= _) _ _ _;cases hy:ys[k]? with
   |none=>
    refine Pf (gW (tup:=b2) (hE (.inr hy)).1 (((h2.but hs₁.extBut D.i2z).but hs₂.extBut D.i12.symm).but hs₃.extBut D.TOi2.symm)
     (cP (cP (cP hl2 hs₁.extBut D.l2z) hs₂.extBut D.l2i1) hs₃.extBut D.l2TO) hy λh₄ e hs₄ he=>?_)
    refine ak he λoe hoe hce=>?_;have hz₄:IsZip h₄ z TI TO .ellipsis:=hs₄.1 _ _ D.i2z.symm (hs₃.extBut _ _ D.TOz.symm (hs₂.extBut _ _ D.i1z.symm hz₁));have hez:e≠z:=λx=>by subst x;cases hz₄.symm.trans hoe;simp at hce
    refine ak (id h1₂) λoi hoi u=>?_;refine Qy hz₄ (PY _) λh₅ hz₅ hs₅=>(hE (.inr hy)).2 h₅ e ⟨λc o c1 c2 c3 c4 x=>hs₅.extBut _ _ c1 (hs₄.1 _ _ c4 (hs₃.extBut _ _ c2 (hs₂.extBut _ _ c3 (hs₁.extBut _ _ c1 x)))),
     λc o q=>bX hs₅ ⟨_,hz₅⟩ (ja hs₄ (bX hs₃ ⟨_,hTO₃⟩ (bX hs₂ ⟨_,hoi⟩ (bX hs₁ ⟨_,hz₁⟩ ⟨o,q⟩))))⟩ ⟨oe,hs₅.extBut _ _ hez hoe,hce⟩
   |some y=>
    refine Pf (fS (tup:=b2) (((h2.but hs₁.extBut D.i2z).but hs₂.extBut D.i12.symm).but hs₃.extBut D.TOi2.symm)
     (cP (cP (cP hl2 hs₁.extBut D.l2z) hs₂.extBut D.l2i1) hs₃.extBut D.l2TO) hy λh₄ h2₄ hs₄=>Ph ?_)
    have hTO₄:IsPair h₄ TO x b:=hs₄.extBut _ _ D.TOi2 hTO₃;refine Pf (Qx hTO₄ rfl ?_);refine Pf (wpAny_updateSeq_pair hTO₄ λh₅ hTO₅ hs₅=>?_);replace hTO₅:IsPair h₅ TO x y:=hTO₅;refine Pf (wpAny_letGo (Ph (Ph ?_)));refine Pf (Qx hTO₅ rfl ?_);refine Pf (wpAny_newTuple ?_);have hsz:h₅.objs.size=s.heap.objs.size:=by rw[hs₅.1,hs₄.1,hs₃.1,hs₂.1,hs₁.1]
    have hz₅:IsZip h₅ z TI TO .ellipsis:=hs₅.extBut _ _ D.TOz.symm (hs₄.extBut _ _ D.i2z.symm (hs₃.extBut _ _ D.TOz.symm (hs₂.extBut _ _ D.i1z.symm hz₁)));have hk₅:∀c o,c≠z->c≠TO->c≠i1->c≠i2->s.heap.get? c=QA o->h₅.get? c=QA o:=λc o c1 c2 c3 c4 e=>hs₅.extBut _ _ c2 (hs₄.extBut _ _ c4 (hs₃.extBut _ _ c2 (hs₂.extBut _ _ c3 (hs₁.extBut _ _ c1 e))))
    have h1₅:cF h₅ i1 t (k+1) b1:=((h1₂.but hs₃.extBut D.TOi1.symm).but hs₄.extBut D.i12).but hs₅.extBut D.TOi1.symm;have h2₅:cF h₅ i2 l (k+1) b2:=h2₄.but hs₅.extBut D.TOi2.symm;have hzlt:z<h₅.objs.size:=Pe hz₅;show wpAny _ _ (Builtin.SmallTypes.ownedTupleHandOut (.ref z) (.ref h₅.objs.size) >>= _) _ _ _;refine Pf ?_;unfold Builtin.SmallTypes.ownedTupleHandOut;have hz₆:IsZip (h₅.push {cls:=.type "tuple",data:=.seq #[x,y]}) z TI TO .ellipsis:=OH _ hz₅;refine Pf (Qy hz₆ (PY _) λh₇ hz₇ hs₇=>?_);replace hz₇:IsZip h₇ z TI TO (rawInt h₅.objs.size):=hz₇;refine Qy hz₇ (by simp) λh₈ hz₈ hs₈=>?_;replace hz₈:IsZip h₈ z TI TO (rawInt h₅.objs.size):=hz₈;have up:∀c o,c≠z->h₅.get? c=QA o->h₈.get? c=QA o:=λc o c1 e=>hs₈.extBut _ _ c1 (hs₇.extBut _ _ c1 (OH _ e));have hT₈:IsPair h₈ h₅.objs.size x y:=hs₈.extBut _ _ (PC hzlt) (hs₇.extBut _ _ (PC hzlt) (OS _ rfl));have kp:∀c o,c≠z->c≠TO->c≠i1->c≠i2->s.heap.get? c=QA o->h₈.get? c=QA o:=λc o c1 c2 c3 c4 e=>up c o c1 (hk₅ c o c1 c2 c3 c4 e);refine Ph (hQ x y hx hy h₈ h₅.objs.size _ QK (bc (by rw[hsz];exact OX _)) hT₈ ⟨hz₈,kp _ _ D.TIz D.TITO D.TIi1 D.TIi2 hTI,⟨x,y,up _ _ D.TOz hTO₅⟩,?_,?_,?_,?_⟩ (.inr ⟨_,_,rfl,hT₈⟩) kp)
    ·obtain⟨o,e,r⟩:=h1₅;exact⟨o,up _ _ D.i1z e,r⟩
    ·obtain⟨o,e,r⟩:=h2₅;exact⟨o,up _ _ D.i2z e,r⟩
    ·exact hl1.on λo e=>kp _ _ D.l1z D.l1TO D.l1i1 D.l1i2 e
    ·exact hl2.on λo e=>kp _ _ D.l2z D.l2TO D.l2i1 D.l2i2 e
 ·refine Pf (Pk hz rfl (x:=rawInt T) rfl ?_);show wpAny _ _ (loadIfAlive (T:Int).toNat >>= _) _ _ _
  (refine(Int.toNat_natCast ..).symm▸?_)
  refine Pf (ki ?_)
  (refine hT.symm▸?_)
  simp only[Option.isNone_some,Bool.false_eq_true,if_false];have step:∀(K:Bool->Shared->Prop),(∀h₁,zP h₁ z TI TO (rawInt T) QI->Heap.SameBut z s.heap h₁->K QK {s with heap:=h₁})->wpAny (model prog w) A (do
   let __do_lift <-field (Value.ref z) 1
   if(__do_lift != Value.bool QI)=QI then do
     setField (Value.ref z) 1 (Value.bool QI)
     pure QK
    else pure QK) K E s:=by
   intro K hK;refine Pf (Pk hz rfl (x:=.bool f1) rfl ?_);cases f1 with
   |true=>exact Ph (hK s.heap hz (Heap.SameBut.refl _ _))
   |false=>rw[if_pos dc];exact Pf (Qy hz (by simp) λh₁ hz₁ hs₁=>Ph (hK h₁ hz₁ hs₁))
  refine step _ λh₁ hz₁ hs₁=>?_;simp only[Bool.false_eq_true,if_false,List.forIn_toArray,List.forIn_cons,List.forIn_nil];refine Pf (Pf (Pf (Pi ?_)));show wpAny _ _ (Builtin.SmallTypes.nextOf (.ref i1) >>= _) _ _ _;cases hx:xs[k]? with
  |none=>
   exact Pf (gW (tup:=b1) (hE (.inl hx)).1 (h1.but hs₁.extBut D.i1z) (cP hl1 hs₁.extBut D.l1z) hx λh₂ e hs₂ he=>(hE (.inl hx)).2 h₂ e ⟨λc o c1 u c3 u x=>hs₂.1 _ _ c3 (hs₁.extBut _ _ c1 x),λc o q=>ja hs₂ (bX hs₁ ⟨_,hz₁⟩ ⟨o,q⟩)⟩ he)
  |some x=>
   refine Pf (fS (tup:=b1) (h1.but hs₁.extBut D.i1z) (cP hl1 hs₁.extBut D.l1z) hx λh₂ h1₂ hs₂=>Ph (Ph ?_));refine Pf (Pf (Pi ?_));show wpAny _ _ (Builtin.SmallTypes.nextOf (.ref i2) >>= _) _ _ _;cases hy:ys[k]? with
   |none=>
    refine ak (id h1₂) λoi hoi u=>?_;exact Pf (gW (tup:=b2) (hE (.inr hy)).1 ((h2.but hs₁.extBut D.i2z).but hs₂.extBut D.i12.symm) (cP (cP hl2 hs₁.extBut D.l2z) hs₂.extBut D.l2i1) hy λh₃ e hs₃ he=>(hE (.inr hy)).2 h₃ e ⟨λc o c1 u c3 c4 x=>hs₃.1 _ _ c4 (hs₂.extBut _ _ c3 (hs₁.extBut _ _ c1 x)),λc o q=>ja hs₃ (bX hs₂ ⟨_,hoi⟩ (bX hs₁ ⟨_,hz₁⟩ ⟨o,q⟩))⟩ he)
   |some y=>
    refine Pf (fS (tup:=b2) ((h2.but hs₁.extBut D.i2z).but hs₂.extBut D.i12.symm)
     (cP (cP hl2 hs₁.extBut D.l2z) hs₂.extBut D.l2i1) hy λh₃ h2₃ hs₃=>Ph (Ph (Ph ?_)))
    show wpAny _ _ (newTuple [x,y] >>= _) _ _ _;refine Pf (wpAny_newTuple ?_);have hsz:h₃.objs.size=s.heap.objs.size:=by rw[hs₃.1,hs₂.1,hs₁.1]
    have hz₃:zP h₃ z TI TO (rawInt T) QI:=hs₃.extBut _ _ D.i2z.symm (hs₂.extBut _ _ D.i1z.symm hz₁);have kp:∀c o,c≠z->c≠i1->c≠i2->s.heap.get? c=QA o->h₃.get? c=QA o:=λc o c1 c3 c4 e=>hs₃.extBut _ _ c4 (hs₂.extBut _ _ c3 (hs₁.extBut _ _ c1 e))
    have up:∀{c:Addr} {o:Obj},h₃.get? c=QA o->(h₃.push {cls:=.type "tuple",data:=.seq #[x,y]}).get? c=QA o:=λe=>OH _ e;have al:∃o,h₃.get? T=QA o:=by
     by_cases c1:T=z
     ·exact c1▸⟨_,hz₃⟩
     by_cases c4:T=i2
     ·obtain⟨o,e,_⟩:=h2₃;exact⟨o,c4▸e⟩
     by_cases c3:T=i1
     ·obtain⟨o,e,_⟩:=h1₂;exact⟨o,c3▸hs₃.extBut _ _ D.i12 e⟩
     exact⟨_,kp _ _ c1 c3 c4 hT⟩
    refine aB al λoT' hT'=>?_;refine Ph (hQ x y hx hy _ h₃.objs.size _ QI (bc (by rw[hsz];exact OX _)) (OS _ rfl) ⟨up hz₃,up (kp _ _ D.TIz D.TIi1 D.TIi2 hTI),⟨a,b,up (kp _ _ D.TOz D.TOi1 D.TOi2 hTO)⟩,?_,?_,?_,?_⟩ (.inr ⟨_,_,rfl,up hT'⟩) λc o c1 u c3 c4 e=>up (kp c o c1 c3 c4 e))
    ·obtain⟨o,e,r⟩:=h1₂;exact⟨o,up (hs₃.extBut _ _ D.i12 e),r⟩
    ·obtain⟨o,e,r⟩:=h2₃;exact⟨o,up e,r⟩
    ·exact hl1.on λo e=>up (kp _ _ D.l1z D.l1i1 D.l1i2 e)
    ·exact hl2.on λo e=>up (kp _ _ D.l2z D.l2i1 D.l2i2 e)
theorem mh{b2:Bool}{l:Addr}{x y f0:Value}{f1:Bool}{Q:Option Value->Shared->Prop}(D:ZipApart z TI TO i1 i2 t l)(zZ:Zp b1 b2 s.heap z TI TO i1 i2 t l k xs ys f0 f1)(ho:u3 s.heap f0 f1)(hx:xs[k]?=QA x)(hy:ys[k]?=QA y)
  (hQ:∀h' P f0' f1',s.heap.get? P=QE->IsPair h' P x y->Zp b1 b2 h' z TI TO i1 i2 t l (k+1) xs ys f0' f1'->u3 h' f0' f1'->(∀c o,c≠z->c≠TO->c≠i1->c≠i2->s.heap.get? c=QA o->h'.get? c=QA o)->Q (QA (.ref P)) {s with heap:=h'}):
  wpAny (model prog w) A (pyNext (.ref z)) Q E s:=by
 have hT:s.TypeIs (.ref z) "zip":=⟨_,zZ.z,rfl⟩;unfold pyNext;exact Pf (Qp (Qr (name:=Str.ofString "__next__") hT F.slot_zip_next
  (Qq F.slot_zip_next hT F.entry_zip_next
   (td D zZ ho (λx' y' qx qy h' P f0' f1' a1 a2 a3 a4 a5=>⟨_,rfl,Ph (hQ h' P f0' f1' a1 (by cases hx.symm.trans qx;cases hy.symm.trans qy;exact a2) a3 a4 a5)⟩) λq=>q.elim (λq=>nn (q.symm.trans hx)) λq=>nn (q.symm.trans hy)) (F.args_zip_next_1 _))))
theorem nJ{b2:Bool}{l:Addr}{f0:Value}{f1:Bool}{Q:Option Value->Shared->Prop}(hh:A.handled=QE)(D:ZipApart z TI TO i1 i2 t l)(zZ:Zp b1 b2 s.heap z TI TO i1 i2 t l k xs ys f0 f1)(ho:u3 s.heap f0 f1)(hend:xs[k]?=QE\/ys[k]?=QE)
  (hQ:∀h',Jx z TO i1 i2 s.heap h'->Q QE {s with heap:=h'}):wpAny (model prog w) A (pyNext (.ref z)) Q E s:=by
 have hT:s.TypeIs (.ref z) "zip":=⟨_,zZ.z,rfl⟩;unfold pyNext;refine Pf (Qp (Qr (name:=Str.ofString "__next__") hT F.slot_zip_next
  (Qq F.slot_zip_next hT F.entry_zip_next (td D zZ ho (λx y qx qy=>hend.elim (λq=>nn (q.symm.trans qx)) λq=>nn (q.symm.trans qy)) λu=>⟨hh,λh' e hk he=>?_⟩) (F.args_zip_next_1 _))))
 exact ak he λo ho hc=>Pf (wpAny_isInstance (b:=QI) ⟨o,ho,hc⟩ isSubtype_stop (Ph (hQ _ hk)))
end
end
noncomputable def Jy (b:Bool):String:=if b then "tuple_iterator" else "list_iterator"
noncomputable abbrev Lc (b1:Bool) (h:Heap) (l1:Addr):Heap:=h.push {cls:=.type (Jy b1),data:=.fields #[.ref l1,.int 0 0]}
noncomputable abbrev Ld (b1 b2:Bool) (h:Heap) (l1 l2:Addr):Heap:=(Lc b1 h l1).push {cls:=.type (Jy b2),data:=.fields #[.ref l2,.int 0 0]}
noncomputable abbrev Le (b1 b2:Bool) (h:Heap) (l1 l2:Addr):Heap:=(Ld b1 b2 h l1 l2).push {cls:=.type "tuple",data:=.seq #[.ref h.objs.size,.ref (Lc b1 h l1).objs.size]}
noncomputable abbrev Fz (b1 b2:Bool) (h:Heap) (l1 l2:Addr):Heap:=(Le b1 b2 h l1 l2).push {cls:=.type "tuple",data:=.seq #[.none,.none]}
noncomputable abbrev yD (b1 b2:Bool) (h:Heap) (l1 l2:Addr):Heap:=(Fz b1 b2 h l1 l2).push {cls:=.type "zip",data:=.fields #[.none,.bool QK,.bool QK,.ref (Ld b1 b2 h l1 l2).objs.size,.ref (Le b1 b2 h l1 l2).objs.size]}
theorem qH(l1 l2:Addr)(xs ys:Array Value):
  Meets (Builtin.«zip.__new__» ⟨[.type "zip",.ref l1,.ref l2],[]⟩) (λu R s=>dp s.heap QK l1 xs/\dp s.heap QK l2 ys/\
   R (.ok (.ret (.ref (Fz QK QK s.heap l1 l2).objs.size))) {s with heap:=yD QK QK s.heap l1 l2}):=
 .of_wp λprog w A R s h=>by
  obtain⟨hp,g,d,tk,os⟩:=s;obtain⟨hl1,hl2,h⟩:=h;have hsub:=sub_zip;have hL1:Heap.IsList (Shared.heap ⟨hp,g,d,tk,os⟩) l1 xs:=hl1;have hL2:Heap.IsList (Shared.heap ⟨hp.push {cls:=.type "list_iterator",data:=.fields #[.ref l1,.int 0 0]},g,d,tk,os⟩) l2 ys:=Heap.IsList.push hl2 _
  wp_walk using wpAny_pyIter_list hL1,wpAny_pyIter_list hL2
  exact⟨_,rfl,h⟩
theorem qI(l1 l2:Addr)(xs ys:Array Value):
  Meets (Builtin.«zip.__new__» ⟨[.type "zip",.ref l1,.ref l2],[]⟩) (λu R s=>dp s.heap QK l1 xs/\dp s.heap QI l2 ys/\
   R (.ok (.ret (.ref (Fz QK QI s.heap l1 l2).objs.size))) {s with heap:=yD QK QI s.heap l1 l2}):=
 .of_wp λprog w A R s h=>by
  obtain⟨hp,g,d,tk,os⟩:=s;obtain⟨hl1,hl2,h⟩:=h;have hsub:=sub_zip;have hL1:Heap.IsList (Shared.heap ⟨hp,g,d,tk,os⟩) l1 xs:=hl1;have hL2:Heap.IsTuple (Shared.heap ⟨hp.push {cls:=.type "list_iterator",data:=.fields #[.ref l1,.int 0 0]},g,d,tk,os⟩) l2 ys:=by refine ak hl2 λo ho r=>?_;exact⟨o,OH _ ho,r⟩
  wp_walk using wpAny_pyIter_list hL1,wpAny_pyIter_tuple hL2
  exact⟨_,rfl,h⟩
theorem qJ(l1 l2:Addr)(xs ys:Array Value):
  Meets (Builtin.«zip.__new__» ⟨[.type "zip",.ref l1,.ref l2],[]⟩) (λu R s=>dp s.heap QI l1 xs/\dp s.heap QK l2 ys/\
   R (.ok (.ret (.ref (Fz QI QK s.heap l1 l2).objs.size))) {s with heap:=yD QI QK s.heap l1 l2}):=
 .of_wp λprog w A R s h=>by
  obtain⟨hp,g,d,tk,os⟩:=s;obtain⟨hl1,hl2,h⟩:=h;have hsub:=sub_zip;have hL1:Heap.IsTuple (Shared.heap ⟨hp,g,d,tk,os⟩) l1 xs:=hl1;have hL2:Heap.IsList (Shared.heap ⟨hp.push {cls:=.type "tuple_iterator",data:=.fields #[.ref l1,.int 0 0]},g,d,tk,os⟩) l2 ys:=Heap.IsList.push hl2 _
  wp_walk using wpAny_pyIter_tuple hL1,wpAny_pyIter_list hL2
  exact⟨_,rfl,h⟩
theorem qK(l1 l2:Addr)(xs ys:Array Value):
  Meets (Builtin.«zip.__new__» ⟨[.type "zip",.ref l1,.ref l2],[]⟩) (λu R s=>dp s.heap QI l1 xs/\dp s.heap QI l2 ys/\
   R (.ok (.ret (.ref (Fz QI QI s.heap l1 l2).objs.size))) {s with heap:=yD QI QI s.heap l1 l2}):=
 .of_wp λprog w A R s h=>by
  obtain⟨hp,g,d,tk,os⟩:=s;obtain⟨hl1,hl2,h⟩:=h;have hsub:=sub_zip;have hL1:Heap.IsTuple (Shared.heap ⟨hp,g,d,tk,os⟩) l1 xs:=hl1;have hL2:Heap.IsTuple (Shared.heap ⟨hp.push {cls:=.type "tuple_iterator",data:=.fields #[.ref l1,.int 0 0]},g,d,tk,os⟩) l2 ys:=by refine ak hl2 λo ho r=>?_;exact⟨o,OH _ ho,r⟩
  wp_walk using wpAny_pyIter_tuple hL1,wpAny_pyIter_tuple hL2
  exact⟨_,rfl,h⟩
theorem qL(b1 b2:Bool)(l1 l2:Addr)(xs ys:Array Value):
  Meets (Builtin.«zip.__new__» ⟨[.type "zip",.ref l1,.ref l2],[]⟩) (λu R s=>dp s.heap b1 l1 xs/\dp s.heap b2 l2 ys/\
   R (.ok (.ret (.ref (Fz b1 b2 s.heap l1 l2).objs.size))) {s with heap:=yD b1 b2 s.heap l1 l2}):=by
 cases b1<;>cases b2
 ·exact qH l1 l2 xs ys
 ·exact qI l1 l2 xs ys
 ·exact qJ l1 l2 xs ys
 ·exact qK l1 l2 xs ys
section
variable{prog:Program}{w:World}{A:Around}{E:Value->Shared->Prop}{s:Shared}
theorem xR{N l1 l2:Nat}(h1:l1<N)(h2:l2<N):ZipApart (N+4) (N+2) (N+3) N (N+1) l1 l2:=by constructor<;>first|(apply PD;(first|assumption|exact Nat.add_lt_add_left dc _|exact Nat.lt_add_of_pos_right dc|exact OV ‹_› (O1 _ _)))|(apply PC;(first|assumption|exact Nat.add_lt_add_left dc _|exact Nat.lt_add_of_pos_right dc|exact OV ‹_› (O1 _ _)))
theorem tf{b2:Bool}{l1 l2:Addr}(hl1:dp s.heap b1 l1 xs)(hl2:dp s.heap b2 l2 ys)
  (h:∀h' z TI TO i1 i2,ZipApart z TI TO i1 i2 l1 l2->Zp b1 b2 h' z TI TO i1 i2 l1 l2 0 xs ys .none QK->(∀a∈[z,TI,TO,i1,i2],s.heap.get? a=QE)->
   (∀c o,s.heap.get? c=QA o->h'.get? c=QA o)->Q (.ref z) {s with heap:=h'}):
  wpAny (model prog w) A (call (.type "zip") [.ref l1,.ref l2]) Q E s:=by
 refine callType_new F.called_zip dc (F.typeCall_zip_2 _ _) (F.newCall_zip_2 _ _) (λobj=>F.args_object_init_3 obj _ _) F.entry_zip_new
  (qL b1 b2 l1 l2 xs ys) ⟨hl1,hl2,?_⟩
 have z1:(Lc b1 s.heap l1).objs.size=s.heap.objs.size+1:=Qi ..;have z2:(Ld b1 b2 s.heap l1 l2).objs.size=s.heap.objs.size+2:=by rw[Qi,z1]
 have z3:(Le b1 b2 s.heap l1 l2).objs.size=s.heap.objs.size+3:=by rw[Qi,z2]
 have z4:(Fz b1 b2 s.heap l1 l2).objs.size=s.heap.objs.size+4:=by rw[Qi,z3]
 have z5:(yD b1 b2 s.heap l1 l2).objs.size=s.heap.objs.size+5:=by rw[Qi,z4]
 have g5:(yD b1 b2 s.heap l1 l2).get? (Fz b1 b2 s.heap l1 l2).objs.size=QA _:=OS _ rfl;have g4:(yD b1 b2 s.heap l1 l2).get? (Le b1 b2 s.heap l1 l2).objs.size=QA _:=OH _ (OS _ rfl);have g3:(yD b1 b2 s.heap l1 l2).get? (Ld b1 b2 s.heap l1 l2).objs.size=QA _:=OH _ (OH _ (OS _ rfl));have g2:(yD b1 b2 s.heap l1 l2).get? (Lc b1 s.heap l1).objs.size=QA _:=OH _ (OH _ (OH _ (OS _ rfl)));have g1:(yD b1 b2 s.heap l1 l2).get? s.heap.objs.size=QA _:=OH _ (OH _ (OH _ (OH _ (OS _ rfl))));show _/\_;rw[z2,z3,z4] at g5;rw[z1,z2] at g3;rw[z3] at g4;rw[z1] at g2;rw[z4];have kp:∀c o,s.heap.get? c=QA o->(yD b1 b2 s.heap l1 l2).get? c=QA o:=λc o x=>OH _ (OH _ (OH _ (OH _ (OH _ x))))
 have lt1:l1<s.heap.objs.size:=by cases b1<;>(obtain⟨o,e,_⟩:=hl1;exact Pe e)
 have lt2:l2<s.heap.objs.size:=by cases b2<;>(obtain⟨o,e,_⟩:=hl2;exact Pe e)
 refine⟨⟨_,g5,rfl⟩,h _ (s.heap.objs.size+4) (s.heap.objs.size+2) (s.heap.objs.size+3) s.heap.objs.size (s.heap.objs.size+1) ?_ ⟨g5,g3,⟨_,_,g4⟩,⟨_,g1,rfl,rfl⟩,⟨_,g2,rfl,rfl⟩,?_,?_⟩ (λa ha=>?_) kp⟩
 ·exact xR lt1 lt2
 ·exact hl1.on λo e=>kp _ _ e
 ·exact hl2.on λo e=>kp _ _ e
 ·simp only[OZ,Qf,or_false] at ha;apply bc;rcases ha with rfl|rfl|rfl|rfl|rfl<;>(first|exact OX _|exact O1 _ _)
end
theorem iO:entryFor table "dict.update.loop"=QA Builtin.«dict.update.loop»:=entryFor_of_tree (by kernel_rfl)
theorem dI:plainId "dict.update.loop"=QI:=by decide+kernel
theorem zQ{b2:Bool}{l':Addr}{R:Result->Shared->Prop}(hA:A.handled=QE)(Da:ZipApart z TI TO i1 i2 t l')(hdn:d∉[z,TI,TO,i1,i2,t,l']):
  ∀(ss:List (List Nat)) (vs:List AV) (es:List (List Nat×AV)) (kvs:List (Str×Value)) (k:Nat) (i:Int) (s:Shared) (f0:Value) (f1:Bool),
   Zp b1 b2 s.heap z TI TO i1 i2 t l' k xs ys f0 f1->u3 s.heap f0 f1->s.heap.DictOf (strKind G.prog G.w) d kvs->bO G h0 Z es kvs->
   (∀(j:Nat) x,ss[j]?=QA x->∃u0u,xs[k+j]?=QA (.str (St x) u0u))->xs.size=k+ss.length->af G h0 Z vs (ys.toList.drop k)->es.length+ss.length<=aE->
   (∀h' tk kvs',h'.DictOf (strKind G.prog G.w) d kvs'->bO G h0 Z (dw ss vs es) kvs'->(∀c o,c≠d->c≠z->c≠TO->c≠i1->c≠i2->s.heap.get? c=QA o->h'.get? c=QA o)->R (.ok (.ret .none)) {s with heap:=h',toks:=tk})->
   codeAny G.M A (.builtin "dict.update.loop" ⟨[.ref d,.ref z,rawInt i,.none],[]⟩) R s:=by
 simp only[OZ,Qf,or_false,not_or] at hdn;refine ah λPG Ox=>IQ hdn λdz dTI dTO d1 d2 dt dl=>Ox ?_;have fin:∀(ss:List (List Nat)) (vs:List AV) (es:List (List Nat×AV)) (kvs:List (Str×Value)) (k:Nat) (i:Int) (s:Shared) (f0:Value) (f1:Bool),
   Zp b1 b2 s.heap z TI TO i1 i2 t l' k xs ys f0 f1->u3 s.heap f0 f1->s.heap.DictOf (strKind G.prog G.w) d kvs->bO G h0 Z es kvs->(xs[k]?=QE\/ys[k]?=QE)->dw ss vs es=es->
   (∀h' tk kvs',h'.DictOf (strKind G.prog G.w) d kvs'->bO G h0 Z (dw ss vs es) kvs'->(∀c o,c≠d->c≠z->c≠TO->c≠i1->c≠i2->s.heap.get? c=QA o->h'.get? c=QA o)->R (.ok (.ret .none)) {s with heap:=h',toks:=tk})->
   codeAny G.M A (.builtin "dict.update.loop" ⟨[.ref d,.ref z,rawInt i,.none],[]⟩) R s:=by
  intro ss vs es kvs k i s f0 f1 zZ ho hD re hend hz hR;refine codeAny_builtin iO ?_
  (refine(Around.under_plainId dI _).symm▸?_)
  show wpAny _ A.in1 (pyNext (.ref z) >>= _) _ _ s;refine Pf (nJ (A:=A.in1) hA Da zZ ho hend λh' hk=>?_);refine Pf (Ph (Ph ?_));refine hR h' s.toks kvs ?_ (by rw[hz];exact re) λc o u c1 c2 c3 c4 e=>hk.1 c o c1 c2 c3 c4 e;exact ah λPG Ox=>eJ hD λo es' ep ho' r=>Ox (⟨o,es',ep,hk.1 d o dz dTO d1 d2 ho',r⟩)
 intro ss;induction ss with
 |nil=>intro vs es kvs k i s f0 f1 zZ ho hD re hss hsz rv OB hR;exact fin [] vs es kvs k i s f0 f1 zZ ho hD re (.inl (Array.getElem?_eq_none (by rw[hsz];exact OX _))) rfl hR
 |cons a ss ih=>
  intro vs es kvs k i s f0 f1 zZ ho hD re hss hsz rv OB hR;cases vs with
  |nil=>have:ys.toList.drop k=[]:=rv;have hk:ys.toList.length<=k:=List.drop_eq_nil_iff.mp this;exact fin (a::ss) [] es kvs k i s f0 f1 zZ ho hD re (.inr (Array.getElem?_eq_none hk)) rfl hR
  |cons v vs=>
   refine ah λPG Ox=>jP rv λc cs hc r1 r2=>Ox ?_;have hy:ys[k]?=QA c:=by
    have:(ys.toList.drop k)[0]?=QA c:=by rw[hc];rfl
    simpa using this
   refine aB (hss 0 a rfl) λu0u hx=>?_;rw[Nat.add_zero] at hx;have hcs:ys.toList.drop (k+1)=cs:=by
    have:(ys.toList.drop k).drop 1=cs:=by refine(PK _ hc).trans ?_;rfl
    rwa [Qa] at this
   refine codeAny_builtin iO ?_
   (refine(Around.under_plainId dI _).symm▸?_)
   show wpAny _ A.in1 (pyNext (.ref z) >>= _) _ _ s;refine Pf (mh Da zZ ho hx hy λh1 P g0 g1 hP hpair Z1 ho1 kp=>?_);have hD1:h1.DictOf (strKind G.prog G.w) d kvs:=by exact ah λPG Ox=>eJ hD λo es' ep ho' r=>Ox (⟨o,es',ep,kp d o dz dTO d1 d2 ho',r⟩)
   refine Pf (Pi ?_);refine Pf (wpAny_tryCatch ?_);unfold Builtin.Dict.pairItems;refine Pf (wpAny_typeOf ⟨_,hpair,rfl⟩ ?_);rw[if_pos dc];refine Pf (Qx hpair rfl (Ph ?_));show wpAny _ _ (holding [Value.str (St a) u0u,c] (dictSet d (.str (St a) u0u) c)) _ _ _;have hk:(strKind G.prog G.w).is (St a) (.str (St a) u0u)=QI:=by exact if_pos rfl
   refine Pi (wpAny_dictSet_pairs hk hD1 (λh2 hD2 hs2=>?_) (fX (by rw[re.length];simp at OB;exact OK (O1 _ _) ‹_›)));refine ah λPG Ox=>Fi hD1 λu u u u u u u u hnd=>eJ (id hD2) λod u u hod u=>Ox ?_;refine Ph ⟨plainId_quiet dI _,ih vs (bC a v es) _ (k+1) (i+1) _ g0 g1 ⟨?_,?_,?_,?_,?_,?_,?_⟩ ?_ hD2 (re.stored hnd r1) (λj x hj=>?_) (by refine hsz.trans ?_;simp;exact(Nat.succ_add _ _).symm) (by rw[hcs];exact r2) (by have:=dG a v es;simp at OB;exact OK (OK (Nat.add_le_add_right this _) (Ql (O7 _ 1 _))) OB) λh' tk kvs' q1 q2 q3=>?_⟩
   ·exact hs2.extBut _ _ (Ne.symm dz) Z1.z
   ·exact hs2.extBut _ _ (Ne.symm dTI) Z1.ti
   ·obtain⟨a1,b1,q⟩:=Z1.to;exact⟨a1,b1,hs2.extBut _ _ (Ne.symm dTO) q⟩
   ·exact Z1.i1.but hs2.extBut (Ne.symm d1)
   ·exact Z1.i2.but hs2.extBut (Ne.symm d2)
   ·exact cP Z1.t hs2.extBut (Ne.symm dt)
   ·exact cP Z1.l hs2.extBut (Ne.symm dl)
   ·rcases ho1 with q|⟨T,oT,q1,q2⟩
    ·exact .inl q
    ·obtain⟨o',q3⟩:=bX hs2 ⟨od,hod⟩ ⟨oT,q2⟩;exact .inr ⟨T,o',q1,q3⟩
   ·obtain⟨u',q⟩:=hss (j+1) x hj;exact⟨u',by refine Eq.trans ?_ q;congr 1;exact O7 _ _ _⟩
   ·exact hR h' tk kvs' q1 q2 λb o c0 c1 c2 c3 c4 e=>q3 b o c0 c1 c2 c3 c4 (hs2.extBut _ _ c0 (kp b o c1 c2 c3 c4 e))
def pR(p:PE):Bool:= @PE.rec (λu=>Bool) (λu=>Bool) (λu=>Bool) (λu=>QI) (λu=>QK) (λu=>QI) (λu u=>QK) (λu u=>QK) (λu u u=>QK) (λu u u u u=>QK) (λu u u u u=>QK) (λu u=>QK) (λu u=>QK) (λu u=>QK) (λu u u u u u=>QK) (λu u a b=>a&&b) (λu u u u u u=>QK) (λu u a=>a) (λu u u=>QK) (λu u u=>QK) (λu u u u u=>QK) (λu u u=>QK) (λu u u u u=>QK) (λu u u=>QK) (λu u u u=>QK) (λu u u u=>QK) (λu u=>QK) (λu u u u u=>QK) QK (λu u u u=>QK) QK (λu u=>QK) p
theorem pS(p:PE):∀{J:Hp} {K:KV} {Er:KE},pR p=QI->cR F p U J K Er->∃v,K v J:=
 @PE.rec (λp=>∀{J:Hp} {K:KV} {Er:KE},pR p=QI->cR F p U J K Er->∃v,K v J) (λu=>True) (λu=>True)
  (λu u u u u he=>dS he λv u he=>⟨v,he.2⟩)
  (λu u u u hp u=>Bool.noConfusion hp)
  (λc u u u u he=>⟨c,he⟩)
  (λu u u u u hp u=>Bool.noConfusion hp)
  (λu u u u u hp u=>Bool.noConfusion hp)
  (λu u u u u u hp u=>Bool.noConfusion hp)
  (λu u u u u u u u hp u=>Bool.noConfusion hp)
  (λu u u u u u u u hp u=>Bool.noConfusion hp)
  (λu u u u u hp u=>Bool.noConfusion hp)
  (λu u u u u hp u=>Bool.noConfusion hp)
  (λu u u u u hp u=>Bool.noConfusion hp)
  (λu u u u u u u u u hp u=>Bool.noConfusion hp)
  (λu u ha hb u u u hp he=>b2 hp λh1 h2=>(ha h1 he).elim λu he=>(hb h2 he).elim λu he=>he.elim λv he=>⟨v,he.2⟩)
  (λu u u u u u u u u hp u=>Bool.noConfusion hp)
  (λu u ha u u u hp he=>(ha hp he).elim λu he=>he.elim λv he=>⟨v,he.2⟩)
  (λu u u u u u hp u=>Bool.noConfusion hp)
  (λu u u u u u hp u=>Bool.noConfusion hp)
  (λu u u u u u u u hp u=>Bool.noConfusion hp)
  (λu u u u u u hp u=>Bool.noConfusion hp)
  (λu u u u u u u u hp u=>Bool.noConfusion hp)
  (λu u u u u u hp u=>Bool.noConfusion hp)
  (λu u u u u u u hp u=>Bool.noConfusion hp)
  (λu u u u u u u hp u=>Bool.noConfusion hp)
  (λu u u u u hp u=>Bool.noConfusion hp)
  (λu u u u u u u u hp u=>Bool.noConfusion hp)
  trivial (λu u u u=>trivial) trivial (λu u=>trivial) p
set_option tactic.hygienic true in
theorem th{dv av bv:AV}{k:Hp->Prop}(h:Cw dv av bv J k)
  (f:∀j es ws ss vs,dv=.obj j->J[j]?=QA (.dict es)->b8 J av=QA ws->bY ws=QA ss->b8 J bv=QA vs->es.length+ss.length<=aE->k (J.set j (.dict (dw ss vs es)))->C):C:=by
 exact IU h f
theorem zR(R:SR G l Z J s){a:AV}{c:Value}(r:ad G s.heap Z a c){vs:List AV}(e:b8 J a=QA vs):
  ∃p items b,c=.ref p/\dp s.heap b p items/\af G s.heap Z vs items.toList/\(∃o,s.heap.get? p=QA o/\∃its n,o.data=.seq its n):=by
 refine rY (iF R r e) λp items o n er4 ho hc hd rs u=>?_;subst er4;rcases hc with⟨hc,_⟩|hc
 ·exact⟨p,items,QI,rfl,⟨o,ho,hc,n,hd⟩,rs,o,ho,items,n,hd⟩
 ·exact⟨p,items,QK,rfl,⟨o,ho,hc,n,hd⟩,rs,o,ho,items,n,hd⟩
theorem Dg{e:Expr}(hpl:bQ e=QI):backTo cp (starEach [e] env)=[(QK,eval e env)]:=by refine(bI hpl).trans ?_;rfl
theorem qM{o e:Expr}{apos:Pos}{ov:Value}(hpl:bQ e=QI)(hline:apos.endLine=pos.line)
  (h:wpAny M A (getMethod ov name (do return (<-importBound o env).getD QI)) (λr s1=>wpAny M A (callWith pos r.1 r.2 [(QK,eval e env)] []) Q E s1) E s):
  wpAny M A (methodCall o name apos pos env ov ([e].length+([]:List Keyword).length) (backTo pos (starEach [e] env)) (backToKw pos (keywordEach [] env))) Q E s:=by
 (refine(Dg hpl).symm▸?_)
 have hpos:methodCallPos QI o env apos pos=pure pos:=by unfold methodCallPos;simp[hline]
 unfold methodCall;have hform:methodCallForm ([e].length+([]:List Keyword).length) [(QK,eval e env)] (backToKw pos (keywordEach [] env))=QI:=by unfold methodCallForm;rfl
 (refine hform.symm▸?_)
 refine Pf (Pi ?_);show wpAny M A (getMethod ov name _) _ _ _;exact Py h (λr s1 h1=>Pf (wpAny_of_eq hpos h1)) λu u z=>z
set_option tactic.hygienic true in
theorem u4(NO:aQ G){pd pa pb:PE}{ed ea eb:Expr}{p1 p2 p3 p4:Pos}(hsd:aj G n (bP F QE) pd)(hss:cu G n (bP F QE) [pa,pb])
  (hcd:bg sc Ov pd ed=QI) (hbd:na ed=QI) (hcs:bZ sc Ov [pa,pb] [ea,eb]=QI) (hpa:pR pa=QI) (hpb:pR pb=QI) (hline:p1.endLine=p4.line) (hg:bn sc "zip"=QI) (fx:dk G A l n env L Ov h0):
  oH G F A l env sc Ov Z0 h0 L QE (.updZip pd pa pb) (.Expr (.Call (.Attribute ed "update" p1) [.Call (.Name "zip" p2) [ea,eb] [] p3] [] p4) pos):=by
 intro U J K Z s Q E he x q;have hA:A.handled=QE:=x.hand;refine wpAny_Expr_any ?_ (by simp[interactive,x.V.kind]) rfl;rw[arm_eval_Call];refine Pf (fg hbd (eG hsd hcd he fx x (.inl rfl) q.err λv1 J1 μ1 c1 s1 he1 x1 r1 st1=>?_));refine Pf (Pj ?_);refine(pS pa hpa he1).elim λu z=>(pS pb hpb z).elim λu z=>th z λk u u u u ek hk0 u u u u u=>?_;subst ek;refine ah λPG Ox=>?_;obtain⟨xd,dd,e1,rfl,hlim,kvs,hD,re⟩:=x1.R.at hk0;refine eX r1 λxd' d' er2 e2=>?_;subst er2;refine Ox ?_;cases e1.symm.trans e2;have hDty:=hD.typeIs;have hnd:∀a,Value.ref xd=.ref a->∃ob,s1.heap.get? a=QA ob/\ob.dict=QE:=λa q=>by cases q;exact ah λPG Ox=>eK hD λo es' ep ho hc u=>Ox (⟨o,ho,hc.2.1⟩)
 refine qM rfl hline (getMethod_builtin hDty PySem.F.plainAttrs_dict PySem.F.slot_dict_update PySem.F.type_dict_update hnd ?_);refine Qt (P:=λu=>True) rfl (dW (by intro a q;cases q)) (Qu (PF ?_));have hbi:=NO.bi ("zip",.type "zip") (OE (i:=9) rfl);refine Qv (bz NO x1.R x1.V hg hbi.1 hbi.2 ?_);refine Qt (P:=λu=>True) (dU hcs) (dW (by intro a q;cases q)) (cE (K:=λvs J=>Cw (.obj k) (vs.headD .none) (vs.tail.headD .none) J λJ=>K .next U J) hss hcs he1 (x1.ex fx) hA (λws J2 Z2 cs s2 he2 R2 st2 r2 hl=>⟨trivial,?_⟩) (x1.fails q.err));obtain⟨va,vb,rfl⟩:∃w1 w2,ws=[w1,w2]:=by
  match ws,hl with
  |[w1,w2],_=>exact⟨w1,w2,rfl⟩
 refine th he2 λk' es ws ss vs ek hk hw1 hw2 hvs OB he3=>?_;cases ek;refine ah λPG Ox=>?_;obtain⟨ca,cs',rfl,ra,cb,cs'',rfl,rb,rfl⟩:=r2;obtain⟨ta,xs,b1,rfl,ht,rs1,ota,hota,dta⟩:=zR R2 ra hw1;obtain⟨tb,ys,b2,rfl,hl',rs2,otb,hotb,dtb⟩:=zR R2 rb hvs;refine bj (ly rs1 hw2) λhn1 hn2=>Ox (tf ht hl' λh3 z TI TO i1 i2 Da zZ hnew kp3=>?_);refine Calls.spliced_nil ⟨trivial,?_⟩;refine ah λPG Ox=>?_;obtain⟨xd2,dd2,e12,rfl,hlim2,kvs2,hD2,re2⟩:=R2.at hk;refine Ox ?_;have hμ:=st2.getμ e1;cases e12.symm.trans hμ;have hD3:h3.DictOf (strKind G.prog G.w) xd kvs2:=by exact ah λPG Ox=>eJ hD2 λo es' ep ho' r=>Ox (⟨o,es',ep,kp3 _ _ ho',r⟩)
 refine ah λPG Ox=>oV (id hD2) λod esd epd hod hcd' hdd u=>Ox ?_;have dne:∀{c:Addr},s2.heap.get? c=QE->xd≠c:=λ{c} hc e=>by rw[<-e,hod] at hc;exact nn hc.symm
 have dseq:∀{c:Addr} {o:Obj},s2.heap.get? c=QA o->(∃its n,o.data=.seq its n)->xd≠c:=λ{c o} hc hd e=>by rw[<-e,hod] at hc;cases hc;refine jk hd λu u hd=>?_;cases hdd.symm.trans hd
 refine wpAny_call (Qs PySem.F.slot_dict_update.plain PySem.F.entry_dict_update (PySem.F.slot_dict_update.check _ _ _ _ _ _ _ _ hD3.typeIs (PySem.F.args_dict_update_2 _ _) ?_));unfold Builtin.«dict.update»;refine Pf ?_;unfold Builtin.Dict.selfAndRest;refine Pf (wpAny_notOrdered_dict (s:={s2 with heap:=h3}) hD3.typeIs ?_);show wpAny _ _ (pure (xd,[Value.ref z])) _ _ _;refine Ph ?_;show wpAny _ _ (Builtin.Dict.updateFrom "dict.update" xd (.ref z) [] .none) _ _ _;unfold Builtin.Dict.updateFrom;refine Pf (wpAny_typeOf ⟨_,zZ.z,rfl⟩ ?_);rw[if_pos dc];refine Pf (tc (s:={s2 with heap:=h3}) (A:=A.in1) zZ.z hA λh4 tk e4 hne=>?_);rw[if_pos (show(QE:Option Value).isNone=QI from rfl)];refine Pf (wpAny_rule (Pf (wpAny_pyIter_zip (s:={s2 with heap:=h4,toks:=tk}) (hne.keeps _ _ zZ.z) ?_)));have Z4:Zp b1 b2 h4 z TI TO i1 i2 ta tb 0 xs ys .none QK:=
  ⟨hne.keeps _ _ zZ.z,hne.keeps _ _ zZ.ti,(let⟨a,b,q⟩:=zZ.to;⟨a,b,hne.keeps _ _ q⟩),(let⟨o,q,r⟩:=zZ.i1;⟨o,hne.keeps _ _ q,r⟩),(let⟨o,q,r⟩:=zZ.i2;⟨o,hne.keeps _ _ q,r⟩),zZ.t.on λo q=>hne.keeps _ _ q,zZ.l.on λo q=>hne.keeps _ _ q⟩
 have hD4:h4.DictOf (strKind G.prog G.w) xd kvs2:=by exact ah λPG Ox=>eJ hD3 λo es' ep ho' r=>Ox (⟨o,es',ep,hne.keeps _ _ ho',r⟩)
 refine Ph ⟨plainId_quiet dI _,?_⟩;refine zQ (G:=G) (h0:=s2.heap) (Z:=Z2) (s:={s2 with heap:=h4,toks:=tk}) (A:=A) hA Da ?_ ss vs es kvs2 0 0 .none QK Z4 (.inl ⟨rfl,rfl⟩) hD4 re2 (λj x hj=>?_) ?_ rs2 OB λh5 tk5 kvs5 hD5 re5 kp5=>?_
 ·simp only[OZ,Qf,or_false,not_or];exact⟨dne (hnew z ON),dne (hnew TI (by simp)),dne (hnew TO (by simp)),dne (hnew i1 (by simp)),dne (hnew i2 (by simp)),dseq hota dta,dseq hotb dtb⟩
 ·have hlt:j<xs.toList.length:=by exact hn1.symm▸((OG.mp hj).1)
  refine ah λPG Ox=>jP (hn2 j _ (List.getElem?_eq_getElem hlt)) λx' t' z1 z2 u=>?_;refine Ox ?_;cases hj.symm.trans z1;refine⟨t',?_⟩
  ((refine(Nat.zero_add ..).symm▸?_;refine z2▸?_))
  simp
 ·rw[Nat.zero_add,hn1];simp
 ·have kp25:∀b o,b≠xd->s2.heap.get? b=QA o->h5.get? b=QA o:=λb o hb e=>by
   have ne:∀{c:Addr},s2.heap.get? c=QE->b≠c:=λ{c} hc z=>by rw[<-z,e] at hc;exact nn hc.symm
   exact kp5 b o hb (ne (hnew z ON)) (ne (hnew TO (by simp))) (ne (hnew i1 (by simp))) (ne (hnew i2 (by simp))) (hne.keeps _ _ (kp3 _ _ e))
  have st0:au [] [G.tab] Z2 s2.heap Z2 h5:=by
   refine ah λPG Ox=>eJ (id hD5) λod5 u u hod5 u=>Ox ?_;exact⟨⟨[],(O8 _).symm,by simp⟩,λa o q=>(by
    by_cases z:a=xd
    ·exact⟨od5,z▸hod5⟩
    ·exact⟨o,kp25 a o z q⟩),λa o q hn u u=>⟨o,kp25 a o (λz=>hn (z▸cr e12)) q,.refl o⟩⟩
  have zlen:∀(ss:List (List Nat)) (vs:List AV) (es:List (List Nat×AV)),(dw ss vs es).length<=es.length+ss.length:=by
   intro ss;induction ss with
   |nil=>exact λvs es=>OX _
   |cons a ss ih=>
    intro vs es;cases vs with
    |nil=>exact O1 _ _
    |cons v vs=>show(dw ss vs (bC a v es)).length<=es.length+(ss.length+1);have h1:=ih vs (bC a v es);have h2:=dG a v es;exact OK h1 (OK (Nat.add_le_add_right h2 _) (Ql (O7 _ 1 _)))
  exact bj (R2.putMore e12 (h':=h5) kp25 (ob:=.dict (dw ss vs es)) ⟨rfl,OK (zlen ss vs es) OB,kvs5,hD5,bO.step st0 (λu q=>nomatch q) re5⟩ tk5) λR5 st5=>q.next he3 (x1.next fx R5 (st2.trans st5))
section
set_option genCtorIdx false
noncomputable def gj (e:ExceptHandler) (f:Option Expr->Option Str->List Stmt->Pos->Bool):Bool:=ExceptHandler.casesOn e f
theorem km{C:ExceptHandler->Prop}{e:ExceptHandler}{f:Option Expr->Option Str->List Stmt->Pos->Bool}(h:gj e f=QI)(k:∀a b c d,f a b c d=QI->C (.ExceptHandler a b c d)):C e:=
 ExceptHandler.casesOn (motive_4:=λe=>gj e f=QI->C e) e (λa b c d=>k a b c d) h
noncomputable def wl (sc:aZ) (t:PT) (p:PE) (tgt e:Expr):Bool:=t.isV&&p.isC&&bE tgt λy py=>nH sc e y py
section
variable(sc:aZ)(Ov:Vis)
mutual
def zS:PS->Bool->Stmt->Bool
 |.expr p,h,st=>sv st λe u=>bg sc Ov p e&&nz e&&(!h||bA p)
 |.a t p,h,st=>mz st λts e u=>c1 ts λtgt=>bg sc Ov p e&&oJ sc Ov t tgt&&(!h||(bA p&&qD t))&&((nz e&&kc tgt e)||(!h&&wl sc t p tgt e))
 |.augV i op p,h,st=>gP st λtg o e u=>bE tg λy u=> !h&&bg sc Ov p e&&Ov.lookup i==QA y&&sc.lookup y==QA .local&&o==jn op
 |.augA po f op p,h,st=>gP st λtg o e u=>bp tg λeo nm u=> !h&&bg sc Ov po eo&&bg sc Ov p e&&T.attr[f]?==QA nm&&o==jn op
 |.i p a b,h,st=>LG st λe body orelse u=>bg sc Ov p e&&(!h||bA p)&&dJ a h body&&dJ b h orelse
 |.w p b,h,st=>uI st λe body orelse u=>c0 orelse (!h&&bg sc Ov p e&&dJ b QK body)
 |.r t p b,h,st=>GM st λtgt e body orelse u=>c0 orelse (!h&&bg sc Ov p e&&bQ e&&oJ sc Ov t tgt&&dJ b QK body)
 |.ret p,h,st=>qk st λo u=>fQ o λe=>bg sc Ov p e&&(!h||bA p)
 |.q p,h,st=>jA st λo q u=>iC q (fQ o λc=>cCall c λg xs ks u=>c0 ks (c1 xs λe=>bE g λx u=> !h&&x==("ValueError":Str)&&bn sc x&&bg sc Ov p e&&bQ e))
 |.raiseO c args,h,st=>jA st λo q u=>iC q (fQ o λc'=>cCall c' λg xs ks u=>c0 ks (c2 xs λx1 x2=>bE g λy u=>c2 args λp1 p2=> !h&&T.cls[c]?==QA y&&decide (T.nC<=c)&&bn sc y&&bZ sc Ov [p1,p2] [x1,x2]))
 |.reraise,h,st=>jA st λo q u=>iC o (iC q h)
 |.tryV b hs,h,st=>xo st λbody hl orelse fin u=>c0 orelse (c0 fin (c1 hl λhd=>gj hd λty nm su u=>fQ ty λte=>iC nm (bE te λx u=>et su λb0 suite=>!h&&x==("ValueError":Str)&&bn sc x&&dJ b QK body&&dJ hs QI (b0::suite))))
 |.tryO c i b hs f,h,st=>xo st λbody hl orelse fin u=>c0 orelse (c1 hl λhd=>gj hd λty nm su u=>fQ ty λte=>fQ nm λx=>bE te λy u=>et su λb0 suite=>!h&&(T.cls[c]?==QA y&&decide (T.nC<=c)&&bn sc y)&&(Ov.lookup i==QA x&&sc.lookup x==QA .local)&&(dJ b QK body&&dJ hs QI (b0::suite))&&(dJ f QK fin&&dJ f QI fin))
 |.updZip d a b,h,st=>sv st λe u=>cCall e λg xs ks p4=>c0 ks (c1 xs λz=>bp g λed m p1=>cCall z λzg zs zk u=>c0 zk (c2 zs λea eb=>bE zg λzn u=>!h&&(m==("update":Str)&&zn==("zip":Str)&&bn sc zn)&&(bg sc Ov d ed&&na ed)&&bZ sc Ov [a,b] [ea,eb]&&(pR a&&pR b&&p1.endLine==p4.line)))
 |.defW _ _,_,_=>QK
 |.brk,_,st=>uK st λu=>QI
 |.cont,_,st=>lj st λu=>QI
def dJ:List PS->Bool->List Stmt->Bool
 |[],_,l=>c0 l QI
 |p::ps,h,l=>et l λst sts=>zS p h st&&dJ ps h sts
end
end
theorem xS(hF:iD G n F)(hd:Option aH):iD G n (bP F hd):=by
 cases hd with
 |none=>exact hF
 |some e=>intro f args J K Er h;exact h.elim
theorem xT(hW:lq G n F)(hd:Option aH):lq G n (bP F hd):=by
 cases hd with
 |none=>exact hW
 |some e=>intro f args J K Er h;exact h.elim
structure World(G:Wd)(n:Nat)(F:Call):Prop where
 ok:jN G
 NO:aQ G
 CO:gU G
 RO:∀c,G.nC<=c->c<G.nX->mD G c
 hF:iD G n F
 hW:lq G n F
theorem World.snd(w:World G n F)(hd:Option aH)(p:PE):aj G n (bP F hd) p/\bR G n (bP F hd) p:=xG w.ok w.NO (xS w.hF hd) (xT w.hW hd) G5 p
theorem wm(w:World G n F)(fx:dk G A l n env L Ov h0)(t:PT):∀hd,zC G F A l env sc Ov Z0 h0 L hd t:=
 PT.rec (motive_1:=λt=>∀hd,zC G F A l env sc Ov Z0 h0 L hd t) (motive_2:=λts=>∀t∈ts,zC G F A l env sc Ov Z0 h0 L QE t)
  (λu u=>C0 fx) (λu h u=>C3 h fx) (λp u hd=>zD w.ok w.NO (w.snd hd p).1 fx) (λp i hd=>C2 (w.snd hd p).1 (w.snd hd i).1 fx) (λu h=>nomatch h) (λu u h hs=>List.forall_mem_cons.mpr ⟨h QE,hs⟩) t
theorem tn(h:(!hd.isSome||b)=QI):hd=QE\/b=QI:=by
 cases hd with
 |none=>exact .inl rfl
 |some _=>exact .inr h
theorem d6(h:(!hd.isSome)=QI)(k:hd=QE->C):C:=k (by cases hd with|none=>rfl|some _=>exact Bool.noConfusion h)
def qN(G:Wd)(n:Nat)(F:Call)(l:List Env)(env:Env)(sc:aZ)(Ov:Vis)(L:Addr)(p:PS)(hd:Option aH)(st:Stmt):Prop:=∀(A:Around) (Z0:Mu) (h0:Heap),dk G A l n env L Ov h0->oH G F A l env sc Ov Z0 h0 L hd p st
def Jz(G:Wd)(n:Nat)(F:Call)(l:List Env)(env:Env)(sc:aZ)(Ov:Vis)(L:Addr)(ps:List PS):Prop:=∀(hd:Option aH) (sts:List Stmt),dJ sc Ov ps hd.isSome sts=QI->∀(A:Around) (Z0:Mu) (h0:Heap),dk G A l n env L Ov h0->eH G F A l env sc Ov Z0 h0 L hd ps sts
theorem zT(w:World G n F){t:PT}{p:PE}{tgt e:Expr}(e0:hd=QE)(h1:bg sc Ov p e=QI)(h2:oJ sc Ov t tgt=QI)(h5:wl sc t p tgt e=QI):qN G n F l env sc Ov L (.a t p) hd (.Assign [tgt] e pos):=by subst e0;refine b3 h5 λh5 h6 h7=>PT.isV_e (C:=λt=>oJ sc Ov t tgt=QI->qN G n F l env sc Ov L (.a t p) QE (.Assign [tgt] e pos)) h5 (λi h2=>?_) h2;refine PE.isC_e (C:=λp=>bg sc Ov p e=QI->qN G n F l env sc Ov L (.a (.v i) p) QE (.Assign [tgt] e pos)) h6 (λelt v it h1=>?_) h1;refine aN (C:=λtgt=>oJ sc Ov (.v i) tgt=QI->qN G n F l env sc Ov L (.a (.v i) (.comp1 elt v it)) QE (.Assign [tgt] e pos)) h7 (λy py h7 h2=>?_) h2;exact b2 h2 λh8 h9=>λA Z0 h0 fx=>sZ (w.snd QE elt).1 (w.snd QE it).1 h1 (Pl h8) (Pl h9) h7 fx rfl
def G6(G:Wd)(n:Nat)(F:Call)(l:List Env)(env:Env)(sc:aZ)(Ov:Vis)(L:Addr)(p:PS):Prop:=∀(hd:Option aH) (st:Stmt),zS sc Ov p hd.isSome st=QI->qN G n F l env sc Ov L p hd st
theorem LP{C:Stmt->Prop}{st:Stmt}{P:Expr->Str->Bool}(hc:(jA st λo q u=>iC q (fQ o λc=>cCall c λg xs ks u=>c0 ks (c1 xs λe=>bE g λx u=>P e x)))=QI)(k:∀e x np cp pos,P e x=QI->C (.Raise (QA (.Call (.Name x np) [e] [] cp)) QE pos)):C st:=
 jB hc λo q pos hc=>dR (C:=λq=>C (.Raise o q pos)) hc λhc=>dj (C:=λo=>C (.Raise o QE pos)) hc λc hc=>bD (C:=λc=>C (.Raise (QA c) QE pos)) hc λg xs ks cp hc=>bB (C:=λks=>C (.Raise (QA (.Call g xs ks cp)) QE pos)) hc λhc=>
 cO (C:=λxs=>C (.Raise (QA (.Call g xs [] cp)) QE pos)) hc λe hc=>aN (C:=λg=>C (.Raise (QA (.Call g [e] [] cp)) QE pos)) hc λx np hc=>k e x np cp pos hc
theorem LQ{C:Stmt->Prop}{st:Stmt}{P:Expr->Expr->Str->Bool}(hc:(jA st λo q u=>iC q (fQ o λc=>cCall c λg xs ks u=>c0 ks (c2 xs λx1 x2=>bE g λy u=>P x1 x2 y)))=QI)(k:∀x1 x2 y np cp pos,P x1 x2 y=QI->C (.Raise (QA (.Call (.Name y np) [x1,x2] [] cp)) QE pos)):C st:=
 jB hc λo q pos hc=>dR (C:=λq=>C (.Raise o q pos)) hc λhc=>dj (C:=λo=>C (.Raise o QE pos)) hc λc hc=>bD (C:=λc=>C (.Raise (QA c) QE pos)) hc λg xs ks cp hc=>bB (C:=λks=>C (.Raise (QA (.Call g xs ks cp)) QE pos)) hc λhc=>
 lm (C:=λxs=>C (.Raise (QA (.Call g xs [] cp)) QE pos)) hc λx1 x2 hc=>aN (C:=λg=>C (.Raise (QA (.Call g [x1,x2] [] cp)) QE pos)) hc λy np hc=>k x1 x2 y np cp pos hc
theorem LU{C:Stmt->Prop}{st:Stmt}{P:List Stmt->Str->Stmt->List Stmt->Bool}(hc:(xo st λbody hl orelse fin u=>c0 orelse (c0 fin (c1 hl λhd=>gj hd λty nm su u=>fQ ty λte=>iC nm (bE te λx u=>et su λb0 suite=>P body x b0 suite))))=QI)
  (k:∀body x np b0 suite hp pos,P body x b0 suite=QI->C (.Try body [.ExceptHandler (QA (.Name x np)) QE (b0::suite) hp] [] [] pos)):C st:=
 sq hc λbody hl orelse fin pos hc=>bB (C:=λorelse=>C (.Try body hl orelse fin pos)) hc λhc=>bB (C:=λfin=>C (.Try body hl [] fin pos)) hc λhc=>cO (C:=λhl=>C (.Try body hl [] [] pos)) hc λeh hc=>km (C:=λeh=>C (.Try body [eh] [] [] pos)) hc λty nm su hp hc=>
 dj (C:=λty=>C (.Try body [.ExceptHandler ty nm su hp] [] [] pos)) hc λte hc=>dR (C:=λnm=>C (.Try body [.ExceptHandler (QA te) nm su hp] [] [] pos)) hc λhc=>aN (C:=λte=>C (.Try body [.ExceptHandler (QA te) QE su hp] [] [] pos)) hc λx np hc=>
 aI (C:=λsu=>C (.Try body [.ExceptHandler (QA (.Name x np)) QE su hp] [] [] pos)) hc λb0 suite hc=>k body x np b0 suite hp pos hc
theorem LV{C:Stmt->Prop}{st:Stmt}{P:List Stmt->Str->Str->Stmt->List Stmt->List Stmt->Bool}(hc:(xo st λbody hl orelse fin u=>c0 orelse (c1 hl λhd=>gj hd λty nm su u=>fQ ty λte=>fQ nm λx=>bE te λy u=>et su λb0 suite=>P body x y b0 suite fin))=QI)
  (k:∀body x y np b0 suite hp fin pos,P body x y b0 suite fin=QI->C (.Try body [.ExceptHandler (QA (.Name y np)) (QA x) (b0::suite) hp] [] fin pos)):C st:=
 sq hc λbody hl orelse fin pos hc=>bB (C:=λorelse=>C (.Try body hl orelse fin pos)) hc λhc=>cO (C:=λhl=>C (.Try body hl [] fin pos)) hc λeh hc=>km (C:=λeh=>C (.Try body [eh] [] fin pos)) hc λty nm su hp hc=>
 dj (C:=λty=>C (.Try body [.ExceptHandler ty nm su hp] [] fin pos)) hc λte hc=>dj (C:=λnm=>C (.Try body [.ExceptHandler (QA te) nm su hp] [] fin pos)) hc λx hc=>aN (C:=λte=>C (.Try body [.ExceptHandler (QA te) (QA x) su hp] [] fin pos)) hc λy np hc=>
 aI (C:=λsu=>C (.Try body [.ExceptHandler (QA (.Name y np)) (QA x) su hp] [] fin pos)) hc λb0 suite hc=>k body x y np b0 suite hp fin pos hc
theorem LW{C:Stmt->Prop}{st:Stmt}{P:Expr->Str->Pos->Expr->Expr->Str->Pos->Bool}(hc:(sv st λe u=>cCall e λg xs ks p4=>c0 ks (c1 xs λz=>bp g λed m p1=>cCall z λzg zs zk u=>c0 zk (c2 zs λea eb=>bE zg λzn u=>P ed m p1 ea eb zn p4)))=QI)
  (k:∀ed m p1 ea eb zn p2 p3 p4 pos,P ed m p1 ea eb zn p4=QI->C (.Expr (.Call (.Attribute ed m p1) [.Call (.Name zn p2) [ea,eb] [] p3] [] p4) pos)):C st:=
 pu hc λe pos hc=>bD (C:=λe=>C (.Expr e pos)) hc λg xs ks p4 hc=>bB (C:=λks=>C (.Expr (.Call g xs ks p4) pos)) hc λhc=>cO (C:=λxs=>C (.Expr (.Call g xs [] p4) pos)) hc λz hc=>aX (C:=λg=>C (.Expr (.Call g [z] [] p4) pos)) hc λed m p1 hc=>
 bD (C:=λz=>C (.Expr (.Call (.Attribute ed m p1) [z] [] p4) pos)) hc λzg zs zk p3 hc=>bB (C:=λzk=>C (.Expr (.Call (.Attribute ed m p1) [.Call zg zs zk p3] [] p4) pos)) hc λhc=>lm (C:=λzs=>C (.Expr (.Call (.Attribute ed m p1) [.Call zg zs [] p3] [] p4) pos)) hc λea eb hc=>
 aN (C:=λzg=>C (.Expr (.Call (.Attribute ed m p1) [.Call zg [ea,eb] [] p3] [] p4) pos)) hc λzn p2 hc=>k ed m p1 ea eb zn p2 p3 p4 pos hc
theorem qO(w:World G n F)(ps:List PS):Jz G n F l env sc Ov L ps/\∀p∈ps,G6 G n F l env sc Ov L p:=
 PS.rec_1 (motive_1:=G6 G n F l env sc Ov L) (motive_2:=λps=>Jz G n F l env sc Ov L ps/\∀p∈ps,G6 G n F l env sc Ov L p)
  (λp hd st hc=>pu hc λe u hc=>b3 hc λh1 h2 h3=>λA Z0 h0 fx=>zA (w.snd hd p).1 h1 (pF h2 _ _ _) fx (tn h3))
  (λt p hd st hc=>lZ hc λts e pos hc=>cO (C:=λts=>qN G n F l env sc Ov L (.a t p) hd (.Assign ts e pos)) hc λtgt hc=>b4 hc λh1 h2 h3 h4=>λA Z0 h0 fx=>(Pp.mp h4).elim
   (λh4=>b2 h4 λh5 h6=>C4 (w.snd hd p).1 (wm w fx t hd) h1 h2 fx ((tn h3).imp id λh=>b2 h λa u=>a) ((tn h3).imp id λh=>b2 h λu a=>a) h5 h6)
   (λh4=>b2 h4 λh0' h5=>d6 h0' λe0=>zT w e0 h1 h2 h5 A Z0 h0 fx))
  (λi op p hd st hc=>iB hc λtg o e pos hc=>aN (C:=λtg=>qN G n F l env sc Ov L (.augV i op p) hd (.AugAssign tg o e pos)) hc λy u hc=>b5 hc λh0 h1 h2 h3 h4=>d6 h0 λe0=>by subst e0;cases Pl h4;exact λA Z0 h0 fx=>zG (w.snd QE p).1 h1 (Pl h2) (Pl h3) fx)
  (λpo f op p hd st hc=>iB hc λtg o e pos hc=>aX (C:=λtg=>qN G n F l env sc Ov L (.augA po f op p) hd (.AugAssign tg o e pos)) hc λeo nm u hc=>b5 hc λh0 h1 h2 h3 h4=>d6 h0 λe0=>by subst e0;cases Pl h4;exact λA Z0 h0 fx=>zH w.ok w.NO (w.snd QE po).1 (w.snd QE p).1 h1 h2 (Pl h3) fx)
  (λp a b ha hb hd st hc=>CB hc λe body orelse u hc=>b4 hc λh1 h2 h3 h4=>λA Z0 h0 fx=>G0 (w.snd hd p).2 h1 fx (tn h2) (ha.1 hd _ h3 A Z0 h0 fx) (hb.1 hd _ h4 A Z0 h0 fx))
  (λp b hb hd st hc=>uJ hc λe body orelse pos hc=>bB (C:=λorelse=>qN G n F l env sc Ov L (.w p b) hd (.While e body orelse pos)) hc λhc=>b3 hc λh0 h1 h2=>d6 h0 λe0=>by subst e0;exact λA Z0 h0 fx=>xK (w.snd QE p).2 h1 fx (hb.1 QE _ h2 A Z0 h0 fx))
  (λt p b hb hd st hc=>y4 hc λtgt e body orelse pos hc=>bB (C:=λorelse=>qN G n F l env sc Ov L (.r t p b) hd (.For tgt e body orelse pos)) hc λhc=>b5 hc λh0 h1 h2 h3 h4=>d6 h0 λe0=>by subst e0;exact λA Z0 h0 fx=>C5 (w.snd QE p).1 h1 h2 h3 fx (wm w fx t QE) λμ1 h1 fx1=>hb.1 QE _ h4 A μ1 h1 fx1)
  (λp hd st hc=>sp hc λo pos hc=>dj (C:=λo=>qN G n F l env sc Ov L (.ret p) hd (.Return o pos)) hc λe hc=>b2 hc λh1 h2=>λA Z0 h0 fx=>CY (w.snd hd p).1 h1 fx (tn h2))
  (λp hd st hc=>LP (C:=qN G n F l env sc Ov L (.q p) hd) hc λe x np cp pos hc=>b5 hc λh0 h1 h2 h3 h4=>d6 h0 λe0=>by subst e0;cases Pl h1;exact λA Z0 h0 fx=>uU w.NO (w.snd QE p).1 h3 h4 h2 fx)
  (λc args hd st hc=>LQ (C:=qN G n F l env sc Ov L (.raiseO c args) hd) hc λx1 x2 y np cp pos hc=>
   lm (C:=λargs=>qN G n F l env sc Ov L (.raiseO c args) hd (.Raise (QA (.Call (.Name y np) [x1,x2] [] cp)) QE pos)) hc λp1 p2 hc=>b5 hc λh0 h1 h2 h3 h4=>d6 h0 λe0=>by subst e0;have h1:=Pl h1;exact λA Z0 h0 fx=>uZ w.ok w.NO (w.RO c (by(refine w.NO.nC▸?_);exact Pm h2) (w.NO.cls _ _ h1).1) (dC (w.snd QE p1).1 (dC (w.snd QE p2).1 iE)) h1 h3 h4 fx)
  (λhd st hc=>jB hc λo q pos hc=>dR (C:=λo=>qN G n F l env sc Ov L .reraise hd (.Raise o q pos)) hc λhc=>dR (C:=λq=>qN G n F l env sc Ov L .reraise hd (.Raise QE q pos)) hc λhc=>by
   cases hd with
   |none=>exact Bool.noConfusion hc
   |some err=>exact λA Z0 h0 fx=>sS fx)
  (λb hs hb hh hd st hc=>LU (C:=qN G n F l env sc Ov L (.tryV b hs) hd) hc λbody x np b0 suite hp pos hc=>
   b5 hc λh0 h1 h2 h3 h4=>d6 h0 λe0=>by subst e0;cases Pl h1;exact λA Z0 h0 fx=>zJ w.ok w.NO w.CO h2 fx (hb.1 QE _ h3 A Z0 h0 fx) λA' fx'=>hh.1 (QA .verr) _ h4 A' Z0 h0 fx')
  (λc i b hs f hb hh hf hd st hc=>LV (C:=qN G n F l env sc Ov L (.tryO c i b hs f) hd) hc λbody x y np b0 suite hp fin pos hc=>
   b5 hc λh0 h1 h2 h3 h4=>d6 h0 λe0=>b3 h1 λk1 k2 k3=>b2 h2 λk4 k5=>b2 h3 λk6 k7=>b2 h4 λk8 k9=>by
    subst e0;have k2:G.nC<=c:=by(refine w.NO.nC▸?_);exact Pm k2
    clear hc h0 h1 h2 h3 h4;intro A Z0 h0 fx;cases fin with
    |nil=>
     cases f with
     |nil=>exact xM w.ok w.NO w.CO (Pl k1) k2 k3 (Pl k4) (Pl k5) fx (hb.1 QE _ k6 A Z0 h0 fx) λA' fs fx'=>hh.1 (QA (.own c fs)) _ k7 A' Z0 h0 fx'
     |cons _ _=>exact Bool.noConfusion k8
    |cons f0 fs=>exact xN w.ok w.NO w.CO (Pl k1) k2 k3 (Pl k4) (Pl k5) fx (hb.1 QE _ k6 A Z0 h0 fx) (λA' fs fx'=>hh.1 (QA (.own c fs)) _ k7 A' Z0 h0 fx') (λμ1 h1 fx1=>hf.1 QE _ k8 A μ1 h1 fx1) λer A' fx'=>hf.1 (QA er) _ k9 A' Z0 h0 fx')
  (λd a b hd st hc=>LW (C:=qN G n F l env sc Ov L (.updZip d a b) hd) hc λed m p1 ea eb zn p2 p3 p4 pos hc=>
   b5 hc λh0 h1 h2 h3 h4=>d6 h0 λe0=>b3 h1 λk1 k2 k3=>b2 h2 λk4 k5=>b3 h4 λk6 k7 k8=>by subst e0;cases Pl k1;cases Pl k2;exact λA Z0 h0 fx=>u4 w.NO (w.snd QE d).1 (dC (w.snd QE a).1 (dC (w.snd QE b).1 iE)) k4 k5 h3 k6 k7 (Pl k8) k3 fx)
  (λu u u u hc=>Bool.noConfusion hc)
  (λhd st hc=>uL hc λu u=>λA Z0 h0 u=>CZ)
  (λhd st hc=>oE hc λu u=>λA Z0 h0 u=>zB)
  ⟨λhd sts hc=>bB (C:=λsts=>∀(A:Around) (Z0:Mu) (h0:Heap),dk G A l n env L Ov h0->eH G F A l env sc Ov Z0 h0 L hd [] sts) hc λu=>λA Z0 h0 u=>zz,λu h=>nomatch h⟩
  (λp ps hp hps=>⟨λhd sts hc=>aI (C:=λsts=>∀(A:Around) (Z0:Mu) (h0:Heap),dk G A l n env L Ov h0->eH G F A l env sc Ov Z0 h0 L hd (p::ps) sts) hc λst sts hc=>b2 hc λh1 h2=>λA Z0 h0 fx=>lz (hp hd _ h1 A Z0 h0 fx) (hps.1 hd _ h2 A Z0 h0 fx),List.forall_mem_cons.mpr ⟨hp,hps.2⟩⟩) ps
end
section
set_option genCtorIdx false
inductive jE(G:Wd)(sc:aZ)(Ov:Vis):List PS->List Stmt->Prop
 |rest {ps:List PS} {sts:List Stmt}:dJ sc Ov ps QK sts=QI->jE G sc Ov ps sts
 |st {p:PS} {st:Stmt} {ps:List PS} {sts:List Stmt}:zS sc Ov p QK st=QI->jE G sc Ov ps sts->jE G sc Ov (p::ps) (st::sts)
 |defW {i t:Nat} {ps:List PS} {sts:List Stmt}:Ov.lookup i=QA G.D.name->sc.lookup G.D.name=QA .local->Ov.lookup t=QA ("text":Str)->sc.lookup ("text":Str)=QA .cell->jE G sc Ov ps sts->
   jE G sc Ov (.defW i t::ps) (.FunctionDef G.D.name G.D.params G.D.body [] QE [] G.D.scope QE G.D.name G.wpos::sts)
theorem Dh(w:World G n F)(DO:sU G env){ps:List PS}{sts:List Stmt}(c:jE G sc Ov ps sts)(fx:dk G A l n env L Ov h0):eH G F A l env sc Ov Z0 h0 L QE ps sts:=by
 induction c with
 |rest hc=>exact(qO w _).1 QE _ hc A Z0 h0 fx
 |st hc _ ih=>exact lz ((qO w [_]).2 _ ON QE _ hc A Z0 h0 fx) ih
 |defW h1 h2 h3 h4 _ ih=>exact lz (zL fx DO h1 h2 h3 h4) ih
structure FA(G:Wd):Prop where
 ok:jN G
 NO:aQ G
 CO:gU G
 RO:∀c,G.nC<=c->c<G.nX->mD G c
 fns:∀f fn,Pg.fn f=QA fn->f≠Pg.QC->∃o fd body pars Ov,mC G (G.fn f) fn o fd body pars Ov/\
  (dJ fd.scope.names Ov fn.body QK body=QI\/(jE G fd.scope.names Ov fn.body body/\∀env,wh fd (G.fn f) env->sU G env))
 word:∀fn,Pg.fn Pg.QC=QA fn->∃p Ov,lC G fn p Ov/\dJ G.D.scope.names Ov fn.body QK G.D.body=QI
theorem wn(h:ef (n+1) f args J K Er)(k:∀fn U,Pg.fn f=QA fn->cD fn args=QA U->ax (ef n) fn.body QE U J (bk K Er)->C):C:=bN h λfn hfn h=>bN h λU hρ h=>k fn U hfn hρ h
theorem zU(f:FA G):∀n,iD G n (ef n)/\lq G n (ef n)
 |0=>⟨λu u u u u h=>h.elim,λu u u u u h=>h.elim⟩
 |n+1=>by
  have z:=zU f n;have w:World G n (ef n):=⟨f.ok,f.NO,f.CO,f.RO,z.1,z.2⟩;refine⟨λk args J K Er he hk A l Z s vals R C hA rs Q E q qe=>wn he λfn U hfn hρ he=>?_,λt args J K Er he A l Z s vals env fa a c R C hA rs hw hca hcell hano rt Q E q qe=>wn he λfn U hfn hρ he=>?_⟩
  ·obtain⟨o,fd,body,pars,Ov,FF,hb⟩:=f.fns k fn hfn hk;refine C9 f.ok FF ?_ hρ he R C hA rs q qe;intro A l env L Z0 h0 hP fx;rcases hb with hb|⟨hb,hD⟩
   ·exact(qO w _).1 QE _ hb A Z0 h0 fx
   ·exact Dh w (hD env hP) hb fx
  ·obtain⟨p,Ov,WF,hb⟩:=f.word fn hfn;refine xO f.ok WF ?_ hρ he R C hA rs hw hca hcell hano rt q qe;intro A l env L Z0 h0 _ fx;exact(qO w _).1 QE _ hb A Z0 h0 fx
end
end
inductive Tr where
 |leaf
 |node (o:Option az) (l r:Tr)
structure GS where
 t:Tr
 nx:Nat
 tk:List AV
 pv:Option AV
 od:List Int
 ob:List Bool
def aG(t:Tr):Nat->Option az:=Tr.rec (λu=>.none) (λo u u gl gr n=>Nat.rec o (λm u=>cond (Nat.beq (Nat.mod m 2) 0) (gl (Nat.div m 2)) (gr (Nat.div m 2))) n) t
noncomputable def iP (x:az) (f:Nat):Tr->Nat->Tr:=Nat.rec (λu u=>.leaf) (λu ih t n=>
 Tr.casesOn t (Nat.rec (.node (QA x) .leaf .leaf) (λm u=>cond (Nat.beq (Nat.mod m 2) 0) (.node .none (ih .leaf (Nat.div m 2)) .leaf) (.node .none .leaf (ih .leaf (Nat.div m 2)))) n)
  (λo l r=>Nat.rec (.node (QA x) l r) (λm u=>cond (Nat.beq (Nat.mod m 2) 0) (.node o (ih l (Nat.div m 2)) r) (.node o l (ih r (Nat.div m 2)))) n)) f
abbrev GK:=AV->GS->Prop
abbrev GX:=aH->GS->Prop
abbrev GC:=Nat->List AV->GS->GK->GX->Prop
abbrev GF:=Flow->Loc->GS->Prop
def bt(b:Bool)(k:Prop):Prop:=Bool.rec False k b
def oT(o:Option α)(k:α->Prop):Prop:=Option.rec False k o
def gk(v:AV)(f:Int->Prop):Prop:=match v with
 |.int i=>f i
 |_=>False
def eu(v:AV)(f:List Nat->Prop):Prop:=match v with
 |.str i=>f i
 |_=>False
def zV(v:AV)(f:List AV->Prop):Prop:=match v with
 |.tup i=>f i
 |_=>False
def iQ(v:AV)(f:Nat->Prop):Prop:=match v with
 |.obj i=>f i
 |_=>False
def FB(v:AV)(f:Prop):Prop:=match v with
 |.word=>f
 |_=>False
def qP(v:AV)(f:Nat->Prop):Prop:=gk v λi=>match i with
 |.ofNat n=>f n
 |_=>False
def fj(o:az)(f:List AV->Prop):Prop:=match o with
 |.list vs=>f vs
 |_=>False
def wo(o:az)(f:List (List Nat×AV)->Prop):Prop:=match o with
 |.dict vs=>f vs
 |_=>False
def ma(o:az)(f:Nat->List (Nat×AV)->Prop):Prop:=match o with
 |.inst c vs=>f c vs
 |_=>False
def mi(l:List α):Nat->α->List α:=List.rec (λu u=>[]) (λa r ih n x=>Nat.casesOn n (x::r) λm=>a::ih m x) l
def ao(l:List α):Nat:=List.rec 0 (λu u ih=>Nat.succ ih) l
def dP:AV->Bool:=AV.rec (motive_1:=λu=>Bool) (motive_2:=λu=>Bool) QI (λu=>QI) (λu=>QI) (λu=>QI) (λu ih=>ih) (λu ih=>ih) (λu=>QK) (λu u ih=>ih) QI QI (λu u a b=>and a b)
def ag:List AV->Bool:=AV.rec_1 (motive_1:=λu=>Bool) (motive_2:=λu=>Bool) QI (λu=>QI) (λu=>QI) (λu=>QI) (λu ih=>ih) (λu ih=>ih) (λu=>QK) (λu u ih=>ih) QI QI (λu u a b=>and a b)
noncomputable def cN (i:Int):Bool:=match i with
 |.ofNat n=>Nat.blt n 4611686018427387904
 |.negSucc n=>Nat.blt n 4611686018427387903
noncomputable def cq (l:List α):Bool:=List.casesOn l QI λu u=>QK
section
variable(pk:Bool)
def u5(s:GS)(k:Nat)(o:az)(K:GS->Prop):Prop:=bt (cond pk (Nat.ble 2 k) QI) (K ⟨iP o 30 s.t k,s.nx,s.tk,s.pv,s.od,s.ob⟩)
def nK(o:az)(s:GS)(K:GK):Prop:=K (.obj s.nx) ⟨iP o 30 s.t s.nx,Nat.succ s.nx,s.tk,s.pv,s.od,s.ob⟩
def wp(s:GS)(v:AV)(f:List AV->Prop):Prop:=match v with
 |.flist vs=>f vs
 |.obj k=>oT (aG s.t k) λo=>fj o f
 |_=>False
def jF(s:GS)(v:AV)(f:List AV->Prop):Prop:=match v with
 |.tup vs=>f vs
 |.obj k=>oT (aG s.t k) λo=>fj o f
 |_=>False
def iR(a:List Nat):List Nat->Bool:=List.rec (λb=>List.casesOn b QI λu u=>QK) (λx u ih b=>List.casesOn b QK λy ys=>cond (Nat.beq x y) (ih ys) QK) a
def zW(f:AV->AV->Option Bool)(a:List AV):List AV->Option Bool:=
 List.rec (λb=>List.casesOn b (QA QI) λu u=>QA QK) (λx u ih b=>List.casesOn b (QA QK) λy ys=>Option.rec QE (λr=>Option.rec QE (λr'=>QA (and r r')) (ih ys)) (f x y)) a
def FC:Nat->AV->AV->Option Bool:=Nat.rec (λu u=>QE) λu ih a b=>match a with
 |.str s=>match b with
  |.str t=>QA (iR s t)
  |.int _=>QA QK
  |.tup _=>QA QK
  |_=>QE
 |.tup s=>match b with
  |.tup t=>zW ih s t
  |.str _=>QA QK
  |_=>QE
 |.bool x=>match b with
  |.bool y=>QA (x==y)
  |_=>QE
 |.int x=>match b with
  |.int y=>QA (x==y)
  |.str _=>QA QK
  |_=>QE
 |_=>QE
def tu(x:AV)(l:List AV):Option Bool:=List.rec (QA QK) (λy u ih=>Option.rec QE (λa=>Option.rec QE (λb=>QA (or a b)) ih) (FC 100 y x)) l
noncomputable def zX (a b:AV):Option Bool:=match b with
 |.none=>match a with
  |.none=>QA QI
  |_=>QA QK
 |.bool y=>match a with
  |.bool x=>QA (x==y)
  |_=>QA QK
 |.obj j=>match a with
  |.obj i=>QA (Nat.beq i j)
  |.none=>QA QK
  |_=>QE
 |_=>QE
def Di(s:List Nat)(l:List (List Nat)):Bool:=List.rec QK (λx u ih=>cond (iR x s) QI ih) l
def JA(s:List Nat)(l:List (List Nat×AV)):Bool:=List.rec QK (λx u ih=>cond (iR x.1 s) QI ih) l
def G7(a:List Nat):List Nat->Bool:=List.rec (λu=>QI) (λx u ih b=>List.casesOn b QK λy ys=>cond (Nat.beq x y) (ih ys) QK) a
def xU(s:List Nat)(l:List Nat):Bool:=List.rec (cq s) (λy ys ih=>cond (G7 s (y::ys)) QI ih) l
def LX(s:GS)(x c:AV)(K:Bool->Prop):Prop:=match c with
 |.tup vs=>oT (tu x vs) K
 |.str t=>eu x λy=>K (xU y t)
 |.obj k=>oT (aG s.t k) λo=>match o with
  |.list vs=>oT (tu x vs) K
  |.dict es=>eu x λy=>K (JA y es)
  |.sset ss=>eu x λy=>K (Di y ss)
  |_=>False
 |_=>False
def lF(s:GS)(v:AV)(K:Bool->Prop):Prop:=match v with
 |.none=>K QK
 |.bool b=>K b
 |.str x=>K (not (cq x))
 |.tup x=>K (not (cq x))
 |.obj k=>oT (aG s.t k) λo=>fj o λx=>K (not (cq x))
 |_=>False
def ai(a b:List α):List α:=List.rec b (λx u ih=>x::ih) a
noncomputable def xV (n:Nat) (x:α):List α:=Nat.rec [] (λu ih=>x::ih) n
def JB(op:Bop)(a b:AV)(s:GS)(K:GK):Prop:=match op with
 |.add=>match a with
  |.int x=>gk b λy=>K (.int (x+y)) s
  |.str x=>eu b λy=>bt (Nat.ble (ao (ai x y)) aE) (K (.str (ai x y)) s)
  |.tup x=>zV b λy=>bt (Nat.ble (ao (ai x y)) aE) (K (.tup (ai x y)) s)
  |.obj i=>iQ b λj=>oT (aG s.t i) λo=>fj o λx=>oT (aG s.t j) λo=>fj o λy=>bt (Nat.ble (ao (ai x y)) aE) (nK (.list (ai x y)) s K)
  |_=>False
 |.sub=>gk a λx=>gk b λy=>K (.int (x - y)) s
 |.mul=>match a with
  |.int x=>gk b λy=>bt (cN x) (bt (cN y) (K (.int (x*y)) s))
  |.obj i=>qP b λn=>oT (aG s.t i) λo=>fj o λl=>List.rec False (λx r u=>bt (cq r) (bt (Nat.ble n aE) (nK (.list (xV n x)) s K))) l
  |_=>False
 |.mod=>gk a λx=>gk b λy=>match s.od with
  |[]=>False
  |c::r=>bt (not (y==0)) (bt (Int.fmod x y==c) (K (.int c) ⟨s.t,s.nx,s.tk,s.pv,r,s.ob⟩))
 |.fdiv=>gk a λx=>gk b λy=>bt (decide (0<y)) (bt (decide (y<1000)) (K (.int (Int.fdiv x y)) s))
def JC(op:Bop)(a b:AV)(K:AV->Prop):Prop:=match op with
 |.add=>match a with
  |.int x=>gk b λy=>K (.int (x+y))
  |.str x=>eu b λy=>bt (Nat.ble (ao (ai x y)) aE) (K (.str (ai x y)))
  |_=>False
 |_=>False
def Dj(b:Bool)(s:GS)(K:GK):Prop:=match s.ob with
 |[]=>K (.bool b) s
 |c::r=>bt (b==c) (K (.bool c) ⟨s.t,s.nx,s.tk,s.pv,s.od,r⟩)
def Dk(s:GS)(a b:AV)(K:Bool->Prop):Prop:=match a with
 |.obj _=>wp s a λx=>wp s b λy=>cond (Nat.beq (ao x) (ao y)) (oT (zW (FC 100) x y) K) (K QK)
 |_=>oT (FC 100 a b) K
def JD(op:oz)(a b:AV)(s:GS)(K:GK):Prop:=match op with
 |.eq=>match a with
  |.int x=>match b with
   |.int y=>Dj (x==y) s K
   |_=>oT (FC 100 a b) λk=>K (.bool k) s
  |_=>Dk s a b λk=>K (.bool k) s
 |.ne=>Dk s a b λk=>K (.bool (not k)) s
 |.lt=>gk a λx=>gk b λy=>Dj (decide (x<y)) s K
 |.gt=>gk a λx=>gk b λy=>Dj (decide (y<x)) s K
 |.isin=>LX s a b λk=>K (.bool k) s
 |.notin=>LX s a b λk=>K (.bool (not k)) s
 |.is=>oT (zX a b) λk=>K (.bool k) s
 |.isnot=>oT (zX a b) λk=>K (.bool (not k)) s
def zY(s:List Nat)(es:List (List Nat×AV)):Option AV:=List.rec QE (λe u ih=>cond (iR e.1 s) (QA e.2) ih) es
def wq(s:List Nat)(v:AV)(es:List (List Nat×AV)):List (List Nat×AV):=List.rec [(s,v)] (λe r ih=>cond (iR e.1 s) ((e.1,v)::r) (e::ih)) es
def gm(f:Nat)(es:List (Nat×AV)):Option AV:=List.rec QE (λe u ih=>cond (Nat.beq e.1 f) (QA e.2) ih) es
def zZ(f:Nat)(v:AV)(es:List (Nat×AV)):List (Nat×AV):=List.rec [(f,v)] (λe r ih=>cond (Nat.beq e.1 f) ((e.1,v)::r) (e::ih)) es
def Dl(a i:AV)(s:GS)(K:AV->Prop):Prop:=match a with
 |.tup vs=>qP i λn=>oT (be vs n) K
 |.str x=>qP i λn=>oT (be x n) λc=>K (.str [c])
 |.flist vs=>qP i λn=>oT (be vs n) K
 |.obj k=>oT (aG s.t k) λo=>match o with
  |.list vs=>qP i λn=>oT (be vs n) K
  |.dict es=>eu i λx=>oT (zY x es) K
  |_=>False
 |_=>False
def FD(a:AV)(f:Nat)(s:GS)(K:AV->Prop):Prop:=iQ a λk=>oT (aG s.t k) λo=>ma o λc fs=>Option.rec (Option.rec (oT (Pg.cattr c f) λv=>bt (dP v) (K v)) K (gm f fs)) (λu=>False) (Pg.meth c f)
def FE(a:AV)(f:Nat)(v:AV)(s:GS)(K:GS->Prop):Prop:=iQ a λk=>oT (aG s.t k) λo=>ma o λc fs=>Option.rec (bt (Nat.blt (ao fs) 100) (u5 pk s k (.inst c (zZ f v fs)) K)) (λu=>False) (Pg.meth c f)
def FG(a i v:AV)(s:GS)(K:GS->Prop):Prop:=iQ a λk=>oT (aG s.t k) λo=>match o with
 |.list vs=>qP i λn=>bt (Nat.blt n (ao vs)) (u5 pk s k (.list (mi vs n v)) K)
 |.dict es=>eu i λx=>bt (Nat.blt (ao es) aE) (u5 pk s k (.dict (wq x v es)) K)
 |_=>False
def kq(l:List AV):Option (List (List Nat)):=List.rec (QA []) (λa u ih=>match a with
 |.str s=>Option.rec QE (λr=>QA (s::r)) ih
 |_=>QE) l
def qQ(l:List (List Nat)):List (List Nat)->List (List Nat):=List.rec (λacc=>acc) (λs u ih acc=>cond (Di s acc) (ih acc) (ih (ai acc [s]))) l
def Nk(f:Bf)(args:List AV)(s:GS)(K:GK):Prop:=List.rec (match f with
  |.set0=>nK (.sset []) s K
  |_=>False) (λv r u=>bt (cq r) (match f with
  |.len=>match v with
   |.str x=>K (.int (.ofNat (ao x))) s
   |.tup x=>K (.int (.ofNat (ao x))) s
   |.flist x=>K (.int (.ofNat (ao x))) s
   |.obj k=>oT (aG s.t k) λo=>match o with
    |.list x=>K (.int (.ofNat (ao x))) s
    |.sset x=>K (.int (.ofNat (ao x))) s
    |_=>False
   |_=>False
  |.str=>match v with
   |.bool b=>K (.str (cond b [84,114,117,101] [70,97,108,115,101])) s
   |.int i=>bt (cN i) (K (.str (am i)) s)
   |.str x=>K (.str x) s
   |_=>False
  |.int=>eu v λx=>bt (x.all eZ) (bt (not (cq x)) (bt (Nat.ble (ao x) 100) (K (.int (.ofNat (iz x))) s)))
  |.setOf=>jF s v λl=>oT (kq l) λss=>bt (Nat.blt (ao ss) 4000) (nK (.sset (qQ ss [])) s K)
  |.listOf=>jF s v λl=>nK (.list l) s K
  |.tupleOf=>jF s v λl=>K (.tup l) s
  |_=>False)) args
def u6(s:List Nat)(l:List (List Nat)):Option Nat:=List.rec QE (λx u ih=>cond (iR x s) (QA 0) (Option.rec QE (λn=>QA (Nat.succ n)) ih)) l
def eN(sep:List Nat)(l:List (List Nat)):List Nat:=List.rec [] (λx r ih=>List.casesOn r x λu u=>ai x (ai sep ih)) l
def JE(m:Bm)(a:AV)(s:GS)(K:Prop):Prop:=match m with
 |.append=>iQ a λk=>oT (aG s.t k) λo=>fj o λu=>K
 |.index=>iQ a λk=>oT (aG s.t k) λo=>fj o λu=>K
 |.join=>eu a λu=>K
 |.lower=>eu a λu=>K
 |.isascii=>eu a λu=>K
 |.isalnum=>eu a λu=>K
 |.isalpha=>eu a λu=>K
 |.isdigit=>eu a λu=>K
def Nl(m:Bm)(a:AV)(args:List AV)(s:GS)(K:GK):Prop:=match m with
 |.append=>List.rec False (λv r u=>bt (cq r) (iQ a λk=>oT (aG s.t k) λo=>fj o λvs=>bt (Nat.blt (ao vs) aE) (u5 pk s k (.list (ai vs [v])) (K .none)))) args
 |.index=>List.rec False (λv r u=>bt (cq r) (eu v λx=>iQ a λk=>oT (aG s.t k) λo=>fj o λvs=>oT (kq vs) λl=>oT (u6 x l) λn=>K (.int (.ofNat n)) s)) args
 |.join=>List.rec False (λv r u=>bt (cq r) (eu a λsep=>jF s v λvs=>oT (kq vs) λl=>bt (Nat.ble (l.map λx=>x.length+sep.length).sum aE) (K (.str (eN sep l)) s))) args
 |.isascii=>bt (cq args) (eu a λx=>K (.bool (aL x)) s)
 |.isalnum=>bt (cq args) (eu a λx=>bt (aL x) (K (.bool (x.all jw&& !x.isEmpty)) s))
 |.isalpha=>bt (cq args) (eu a λx=>bt (aL x) (K (.bool (x.all kZ&& !x.isEmpty)) s))
 |.isdigit=>bt (cq args) (eu a λx=>bt (aL x) (K (.bool (x.all eZ&& !x.isEmpty)) s))
 |.lower=>bt (cq args) (eu a λx=>cond (iR x [84,114,117,101]) (K (.str [116,114,117,101]) s) (cond (iR x [70,97,108,115,101]) (K (.str [102,97,108,115,101]) s) False))
def JF(a:AV)(t:Ty)(s:GS)(K:Bool->Prop):Prop:=match a with
 |.obj k=>oT (aG s.t k) λo=>ma o λc u=>match t with
  |.own d=>K (Nat.beq c d)
  |.int=>K QK
  |_=>False
 |.none=>match t with
  |.own _=>K QK
  |.int=>K QK
  |_=>False
 |.bool _=>match t with
  |.own _=>K QK
  |_=>False
 |.int _=>match t with
  |.own _=>K QK
  |.int=>K QI
  |_=>False
 |_=>False
def Nn(a:AV)(t:Ty)(s:GS)(K:Bool->Prop):Prop:=match t with
 |.int=>match a with
  |.int _=>K QI
  |.bool _=>K QK
  |.none=>K QK
  |.str _=>K QK
  |.obj k=>oT (aG s.t k) λo=>ma o λu u=>K QK
  |_=>False
 |.tuple=>zV a λu=>K QI
 |.list=>wp s a λu=>K QI
 |_=>False
def G8(s:GS)(v:AV)(K:Src->Prop):Prop:=match v with
 |.tup vs=>K (.fixed vs)
 |.obj k=>oT (aG s.t k) λo=>fj o λu=>K (.lst k)
 |_=>False
noncomputable abbrev xW:List Nat:=[112,114,105,110,116]
noncomputable abbrev No:List Nat:=[99,108,97,115,115]
noncomputable abbrev md:List Nat:=[102,97,108,115,101]
noncomputable abbrev iu:List Nat:=[110,105,108]
noncomputable abbrev Cl:List Nat:=[119,104,105,108,101,84,114,117,101,58]
noncomputable abbrev mE:List Nat:=[116,114,117,101]
noncomputable abbrev Dm:List Nat:=[105,102,70,97,108,115,101,58]
noncomputable abbrev Dn:List Nat:=[105,102,84,114,117,101,58]
noncomputable abbrev u7:List Nat:=[112,117,116,58]
noncomputable abbrev Aa:List Nat:=[115,117,112,101,114]
noncomputable abbrev oM:List Nat:=[118,97,108,117,101]
noncomputable abbrev tv:List Nat:=[118,97,108,117,101,58]
noncomputable abbrev nM:List Nat:=[115,101,108,102]
noncomputable abbrev u8:List Nat:=[97,32,98,108,111,99,107]
noncomputable abbrev u9:List Nat:=[79,98,106,101,99,116]
noncomputable abbrev vc:List Nat:=[124,32,112,32,113,32]
noncomputable abbrev iS:List Nat:=[97,32,66]
noncomputable abbrev mj:List Nat:=[110,101,119]
noncomputable abbrev G9:List Nat:=[105,102,84,114,117,101,58,105,102,70,97,108,115,101,58]
noncomputable abbrev jG:List Nat:=[97,32,65]
noncomputable abbrev oN:List Nat:=[103,101,116]
def Ab(s:GS)(i:Nat)(src:Src)(K:Option AV->Prop):Prop:=match src with
 |.fixed vs=>K (be vs i)
 |.lst k=>oT (aG s.t k) λo=>fj o λvs=>K (be vs i)
 |_=>False
def FH(step:AV->GS->GK->GX->Prop)(src:Src)(X:GX)(K:List AV->GS->Prop)(n:Nat):Nat->List AV->GS->Prop:=Nat.rec (λu u u=>False) (λu ih i acc s=>Ab s i src λo=>Option.rec (K acc s) (λv=>step v s (λy s=>ih (Nat.succ i) (ai acc [y]) s) X) o) n
noncomputable def Do (e:PE) (d:α) (k:Nat->α):α:=e.vw d k (λu=>d) (λu u u=>d) (λu u u=>d) (λu u=>d) λu u u=>d
noncomputable def qR (e:PE) (d:α) (k:AV->α):α:=e.vw d (λu=>d) k (λu u u=>d) (λu u u=>d) (λu u=>d) λu u u=>d
noncomputable def JG (e:PE) (d:α) (k:Bop->PE->PE->α):α:=e.vw d (λu=>d) (λu=>d) k (λu u u=>d) (λu u=>d) λu u u=>d
noncomputable def JH (e:PE) (d:α) (k:oz->PE->PE->α):α:=e.vw d (λu=>d) (λu=>d) (λu u u=>d) k (λu u=>d) λu u u=>d
noncomputable def tw (e:PE) (d:α) (k:PE->Nat->α):α:=e.vw d (λu=>d) (λu=>d) (λu u u=>d) (λu u u=>d) k λu u u=>d
noncomputable def Ac (e:AV) (d:α) (k:Int->α):α:=AV.casesOn (motive_1:=λu=>α) e d (λu=>d) k (λu=>d) (λu=>d) (λu=>d) (λu=>d) (λu u=>d) d
noncomputable def pT (v d:Nat):PE:=match d with
 |0=>.attr (.v v) 1
 |1=>.b .add (.attr (.v v) 1) (.c (.int 1))
 |_=>.b .sub (.attr (.v v) 1) (.c (.int 1))
noncomputable def LY (v:Nat) (w:PE) (f:Nat):Bool:=Do w QK λw=>and (Nat.beq w v) (Nat.beq f 1)
noncomputable def nN (v:Nat) (i:PE):Option Nat:=tw i (JG i QE λop l r=>tw l QE λw f=>qR r QE λc=>Ac c QE λn=>cond (and (n==1) (LY v w f)) (cond (Nat.beq op.ctorIdx 0) (QA 1) (cond (Nat.beq op.ctorIdx 1) (QA 2) QE)) QE) λw f=>cond (LY v w f) (QA 0) QE
def tz(e i:PE):Option (Nat×Nat):=tw e QE λe f=>Do e QE λv=>cond (Nat.beq f 0) (Option.rec QE (λd=>QA (v,d)) (nN v i)) QE
def tE(d:Nat)(s:GS)(K:AV->Prop):Prop:=match d with
 |0=>oT (be s.tk 0) K
 |1=>oT (be s.tk 1) K
 |_=>oT s.pv K
def vd(U:Loc)(i:Nat)(K:AV->Prop):Prop:=oT (be U i) λo=>oT o λv=>bt (bF v) (K v)
variable(F:GC)
abbrev fE:=Loc->GS->GK->GX->Prop
abbrev tF:=(Loc->GS->(List AV->GS->Prop)->GX->Prop)×(Bool->Loc->GS->GK->GX->Prop)
def JI(i:Nat):fE:=λU s K u=>vd U i λv=>K v s
def FI(g:Nat):fE:=λu s K u=>oT (Pg.glob g) λv=>bt (dP v) (K v s)
def Ad(c:AV):fE:=λu s K u=>bt (dP c) (K c s)
def JJ(_:List PE)(es:tF):fE:=λU s K X=>es.1 U s (λvs s=>K (.tup vs) s) X
def FJ(_:List PE)(es:tF):fE:=λU s K X=>es.1 U s (λvs s=>nK (.list vs) s K) X
def FK(ks:List (List Nat))(_:List PE)(es:tF):fE:=λU s K X=>nK (.dict []) s λd s=>es.1 U s (λvs s=>iQ d λk=>oT (aG s.t k) λo=>wo o λes=>bt (cq es) (u5 pk s k (.dict (ks.zip vs)) (K d))) X
def JK(op:Bop)(_ _:PE)(l r:fE):fE:=λU s K X=>l U s (λa s=>r U s (λb s=>JB op a b s K) X) X
def JL(op:oz)(_ _:PE)(l r:fE):fE:=λU s K X=>l U s (λa s=>r U s (λb s=>JD op a b s K) X) X
def JM(_:List PE)(es:tF):fE:=es.2 QI
def Np(_:List PE)(es:tF):fE:=es.2 QK
def JN(_:PE)(e:fE):fE:=λU s K X=>e U s (λv s=>lF s v λb=>K (.bool (not b)) s) X
def Nq(_ _ _:PE)(t a b:fE):fE:=λU s K X=>t U s (λv s=>lF s v λc=>cond c (a U s K X) (b U s K X)) X
def JO(e i:PE)(ge gi:fE):fE:=λU s K X=>Option.rec (ge U s (λa s=>gi U s (λb s=>Dl a b s λv=>K v s) X) X) (λp=>vd U p.1 λv=>iQ v λk=>bt (Nat.beq k 1) (tE p.2 s λv=>K v s)) (cond pk (tz e i) QE)
def Ae(_:PE)(_ _:Option PE)(e lo hi:fE):fE:=λU s K X=>e U s (λa s=>lo U s (λl s=>hi U s (λh s=>eu a λx=>qP l λi=>qP h λj=>K (.str ((x.take j).drop i)) s) X) X) X
def FL(_:PE)(f:Nat)(e:fE):fE:=λU s K X=>e U s (λa s=>FD a f s λv=>K v s) X
def FM(f:Nat)(_:List PE)(es:tF):fE:=λU s K X=>es.1 U s (λvs s=>F f vs s K X) X
def JP(c:Nat)(_:List PE)(es:tF):fE:=λU s K X=>es.1 U s (λvs s=>nK (.inst c []) s λd s=>Option.rec (bt (cq vs) (K d s)) (λf=>F f (d::vs) s (λr s=>match r with|.none=>K d s|_=>False) X) (Pg.init c)) X
def FN(_:PE)(m:Nat)(_:List PE)(e:fE)(es:tF):fE:=λU s K X=>e U s (λa s=>iQ a λk=>oT (aG s.t k) λo=>ma o λc fs=>oT (Pg.meth c m) λf=>Option.rec (es.1 U s (λvs s=>F f (a::vs) s K X) X) (λu=>False) (gm m fs)) X
def Nr(f:Bf)(_:List PE)(es:tF):fE:=λU s K X=>es.1 U s (λvs s=>Nk f vs s K) X
def Nt(m:Bm)(_:PE)(_:List PE)(e:fE)(es:tF):fE:=λU s K X=>e U s (λa s=>JE m a s (es.1 U s (λvs s=>Nl pk m a vs s K) X)) X
def JQ(_:PE)(t:Ty)(e:fE):fE:=λU s K X=>e U s (λa s=>JF a t s λb=>K (.bool b) s) X
def Nu(_:PE)(t:Ty)(neg:Bool)(e:fE):fE:=λU s K X=>e U s (λa s=>Nn a t s λb=>K (.bool (b != neg)) s) X
def FO(i t:Nat)(_:List PE)(es:tF):fE:=λU s K X=>oT (be U i) λo=>oT o λw=>FB w (oT (be U t) λo=>oT o λv=>eu v λx=>es.1 U s (λvs s=>F Pg.QC (.str x::vs) s K X) X)
def JR(i f:Nat):fE:=λU s K u=>oT (be U i) λo=>oT o λv=>match v with
  |.exc c fs=>oT (Pg.excf c f) λj=>oT (be fs j) λv=>K v s
  |_=>False
def FP(_:PE)(v:Nat)(_:PE)(e it:fE):fE:=λU s K X=>it U s (λa s=>G8 s a λsrc=>FH (λx s K X=>e (mi U v (QA x)) s K X) src X (λvs s=>bt (Nat.ble (ao vs) aE) (nK (.list vs) s K)) N 0 [] s) X
noncomputable def JS:tF:=(λu s K u=>K [] s,λu u u u u=>False)
noncomputable def FQ (_:PE) (es:List PE) (e:fE) (ies:tF):tF:=(λU s K X=>e U s (λv s=>ies.1 U s (λvs s=>K (v::vs) s) X) X,
  λw U s K X=>List.casesOn es (e U s K X) λu u=>e U s (λv s=>lF s v λb=>cond (b==w) (ies.2 w U s K X) (K v s)) X)
def Nv:fE:=λu s K u=>K .none s
def FR(_:PE)(e:fE):fE:=e
def gE:PE->fE:=PE.rec (motive_1:=λu=>fE) (motive_2:=λu=>tF) (motive_3:=λu=>fE) JI (FI) Ad JJ FJ (FK pk) JK JL JM Np JN Nq (JO pk) Ae (FL) (FM F) (JP F) (FN F) Nr (Nt pk) JQ Nu (FO F) (JR) (FP) JS FQ Nv FR
def LZ:List PE->tF:=PE.rec_1 (motive_1:=λu=>fE) (motive_2:=λu=>tF) (motive_3:=λu=>fE) JI (FI) Ad JJ FJ (FK pk) JK JL JM Np JN Nq (JO pk) Ae (FL) (FM F) (JP F) (FN F) Nr (Nt pk) JQ Nu (FO F) (JR) (FP) JS FQ Nv FR
abbrev Nw:=AV->Loc->GS->GF->Prop
abbrev Oi:=List AV->Loc->GS->GF->Prop
def gT:PT->Nw:=PT.rec (motive_1:=λu=>Nw) (motive_2:=λu=>Oi)
 (λi v U s K=>bt (Nat.blt i (ao U)) (K .next (mi U i (QA v)) s))
 (λl ts v U s K=>zV v λvs=>bt (Nat.beq (ao vs) (ao l)) (ts vs U s K))
 (λe f v U s K=>gE pk F e U s (λa s=>FE pk a f v s λs=>K .next U s) λer s=>K (.err er) U s)
 (λe i v U s K=>gE pk F e U s (λa s=>gE pk F i U s (λb s=>FG pk a b v s λs=>K .next U s) λer s=>K (.err er) U s) λer s=>K (.err er) U s)
 (λvs U s K=>List.casesOn vs (K .next U s) λu u=>False)
 (λu u t ts vs U s K=>List.casesOn vs False λv vs=>t v U s λfl U s=>match fl with
  |.next=>ts vs U s K
  |.err er=>K (.err er) U s
  |_=>False)
def Af(again:Loc->GS->Prop)(K:GF):GF:=λfl U s=>match fl with
 |.next=>again U s
 |.cont=>again U s
 |.brk=>K .next U s
 |.ret v=>K (.ret v) U s
 |.err e=>K (.err e) U s
def Ag(test:Loc->GS->(Bool->GS->Prop)->GX->Prop)(body:Loc->GS->GF->Prop)(K:GF)(n:Nat):Loc->GS->Prop:=Nat.rec (λu u=>False) (λu ih U s=>test U s (λb s=>cond b (body U s (Af ih K)) (K .next U s)) λer s=>K (.err er) U s) n
def JT(bind:AV->Loc->GS->GF->Prop)(body:Loc->GS->GF->Prop)(src:Src)(K:GF)(n:Nat):Nat->Loc->GS->Prop:=Nat.rec (λu u u=>False) (λu ih i U s=>Ab s i src λo=>
 Option.rec (K .next U s) (λv=>bind v U s λfl U s=>match fl with
  |.next=>body U s (Af (ih (Nat.succ i)) K)
  |.err er=>K (.err er) U s
  |_=>False) o) n
def pU(e:PE)(U:Loc)(s:GS)(K:Bool->GS->Prop)(X:GX):Prop:=gE pk F e U s (λv s=>lF s v λb=>K b s) X
noncomputable def mF (e:PE):Option PE:=JH e QE λop l r=>tw l QE λl f=>qR r QE λc=>Ac c QE λn=>cond (and (Nat.beq op.ctorIdx 2) (and (n==0) (Nat.beq f 26))) (QA (.attr l f)) QE
noncomputable def Ah (o:PE) (f:Nat) (op:Bop) (e:PE):Bool:=Do o QK λu=>qR e QK λc=>Ac c QK λn=>and (and (Nat.beq op.ctorIdx 0) (n==1)) (Nat.beq f 1)
def FS(v:AV)(s:GS)(K:GS->Prop):Prop:=iQ v λk=>bt (Nat.beq k 1) (oT (aG s.t 1) λo=>ma o λc fs=>oT (gm 1 fs) λi=>gk i λn=>List.rec False (λx r u=>bt (Nat.blt (ao fs) 100) (K ⟨iP (.inst c (zZ 1 (.int (n+1)) fs)) 30 s.t 1,s.nx,r,QA x,s.od,s.ob⟩)) s.tk)
def fo(U:Loc):Bool:=List.rec QI (λo u ih=>match o with
 |some (.exc _ _)=>QK
 |_=>ih) U
def eA(hd:Option aH):GC:=match hd with
 |none=>F
 |some _=>λu u u u u=>False
def oO(hd:Option aH)(f:Option aH->Loc->GS->GF->Prop)(K:GF):GF:=λfl U s=>f (match fl with|.err e=>QA e|_=>hd) U s λfl' U s=>match fl' with
 |.next=>bt (fo U) (K fl U s)
 |_=>False
def Ha(ss:List (List Nat)):List AV->List (List Nat×AV)->List (List Nat×AV):=List.rec (λu es=>es) (λs u ih vs es=>List.casesOn vs es λv vs=>ih vs (wq s v es)) ss
abbrev kr:=Option aH->Loc->GS->GF->Prop
def Hb(sts:Loc->GS->GF->Prop)(K:GF):GF:=λfl U s=>match fl with
  |.next=>sts U s K
  |.brk=>K .brk U s
  |.cont=>K .cont U s
  |.ret v=>K (.ret v) U s
  |.err e=>K (.err e) U s
def FT(e:PE):kr:=λhd U s K=>gE pk (eA F hd) e U s (λu s=>K .next U s) λer s=>K (.err er) U s
def JU(t:PT)(e:PE):kr:=λhd U s K=>gE pk (eA F hd) e U s (λv s=>gT pk (eA F hd) t v U s K) λer s=>K (.err er) U s
def FU(i:Nat)(op:Bop)(e:PE):kr:=λhd U s K=>vd U i λa=>gE pk (eA F hd) e U s (λb s=>JC op a b λc=>K .next (mi U i (QA c)) s) λer s=>K (.err er) U s
def FV(o:PE)(f:Nat)(op:Bop)(e:PE):kr:=λhd U s K=>bt (and pk (Ah o f op e)) (gE pk (eA F hd) o U s (λa s=>FS a s λs=>K .next U s) λer s=>K (.err er) U s)
def Nx(t:PE)(_ _:List PS)(a b:kr):kr:=λhd U s K=>Option.rec (pU pk (eA F hd) t U s (λc s=>cond c (a hd U s K) (b hd U s K)) λer s=>K (.err er) U s)
  (λl=>gE pk (eA F hd) l U s (λv s=>gk v λx=>(decide (x<0)=QI->a hd U s K)/\(decide (x<0)=QK->b hd U s K)) λer s=>K (.err er) U s) (mF t)
def Ai(t:PE)(_:List PS)(b:kr):kr:=λhd U s K=>Ag (pU pk (eA F hd) t) (b hd) K N U s
def JV(t:PT)(e:PE)(_:List PS)(b:kr):kr:=λhd U s K=>gE pk (eA F hd) e U s (λv s=>G8 s v λsrc=>JT (gT pk (eA F hd) t) (b hd) src K N 0 U s) λer s=>K (.err er) U s
def JW(e:PE):kr:=λhd U s K=>gE pk (eA F hd) e U s (λv s=>K (.ret v) U s) λer s=>K (.err er) U s
def wt(e:PE):kr:=λhd U s K=>Option.rec (gE pk F e U s (λu s=>K (.err .verr) U s) λer s=>K (.err er) U s) (λu=>False) hd
def wu(c:Nat)(es:List PE):kr:=λhd U s K=>Option.rec ((LZ pk F es).1 U s (λvs s=>K (.err (.own c vs)) U s) λer s=>K (.err er) U s) (λu=>False) hd
def Ny:kr:=λhd U s K=>oT hd λe=>K (.err e) U s
def FX(_ _:List PS)(b h:kr):kr:=λhd U s K=>b hd U s λfl U s=>match fl with
  |.err e=>match e with
   |.verr=>h (QA .verr) U s λfl U s=>bt (fo U) (K fl U s)
   |.own c fs=>K (.err (.own c fs)) U s
  |.next=>K .next U s
  |.brk=>K .brk U s
  |.cont=>K .cont U s
  |.ret v=>K (.ret v) U s
def FY(c x:Nat)(_ _ _:List PS)(b h f:kr):kr:=λhd U s K=>b hd U s λfl U s=>match fl with
  |.err e=>match e with
   |.verr=>oO hd f K (.err .verr) U s
   |.own c' fs=>cond (Nat.beq c' c) (h (QA (.own c' fs)) (mi U x (QA (.exc c' fs))) s λfl U s=>bt (fo (mi U x QE)) (oO hd f K fl (mi U x QE) s)) (oO hd f K (.err (.own c' fs)) U s)
  |.next=>oO hd f K .next U s
  |.brk=>oO hd f K .brk U s
  |.cont=>oO hd f K .cont U s
  |.ret v=>oO hd f K (.ret v) U s
def JX(d a b:PE):kr:=λhd U s K=>gE pk (eA F hd) d U s (λdv s=>gE pk (eA F hd) a U s (λav s=>gE pk (eA F hd) b U s (λbv s=>iQ dv λk=>oT (aG s.t k) λo=>wo o λes=>
   jF s av λl=>oT (kq l) λss=>jF s bv λvs=>bt (Nat.ble (Nat.add (ao es) (ao ss)) aE) (u5 pk s k (.dict (Ha ss vs es)) λs=>K .next U s))
   λer s=>K (.err er) U s) λer s=>K (.err er) U s) λer s=>K (.err er) U s
def JY(i t:Nat):kr:=λu U s K=>oT (be U t) λo=>oT o λv=>eu v λu=>K .next (mi U i (QA .word)) s
def IM(fl:Flow):kr:=λu U s K=>K fl U s
def FZ(_:PS)(_:List PS)(st sts:kr):kr:=λhd U s K=>st hd U s (Hb (sts hd) K)
def gS:PS->kr:=PS.rec (motive_1:=λu=>kr) (motive_2:=λu=>kr) (FT pk F) (JU pk F) (FU pk F) (FV pk F) (Nx pk F) (Ai pk F) (JV pk F) (JW pk F) (wt pk F) (wu pk F) Ny FX FY (JX pk F) JY (IM .brk) (IM .cont) (IM .next) FZ
def me:List PS->kr:=PS.rec_1 (motive_1:=λu=>kr) (motive_2:=λu=>kr) (FT pk F) (JU pk F) (FU pk F) (FV pk F) (Nx pk F) (Ai pk F) (JV pk F) (JW pk F) (wt pk F) (wu pk F) Ny FX FY (JX pk F) JY (IM .brk) (IM .cont) (IM .next) FZ
def F1(K:GK)(X:GX):GF:=λfl u s=>match fl with
 |.ret v=>K v s
 |.next=>K .none s
 |.err e=>X e s
 |_=>False
def F3(f:Fn)(args:List AV)(K:Loc->Prop):Prop:=bt (and (ag f.dfl) (and (Nat.ble (ao args) f.np) (Nat.ble f.np (Nat.add (ao args) (ao f.dfl)))))
 (K (ai (List.rec [] (λx u ih=>QA x::ih) args) (ai ((f.dfl.drop (Nat.sub (Nat.add (ao args) (ao f.dfl)) f.np)).map QA) (xV (Nat.sub f.nl f.np) QE))))
def gC(n:Nat):GC:=Nat.rec (λu u u u u=>False) (λu ih f args s K X=>oT (Pg.fn f) λfd=>F3 fd args λU=>me pk ih fd.body QE U s (F1 K X)) n
end
theorem ae(a b:List α):ai a b=a++b:=by
 induction a with
 |nil=>rfl
 |cons x xs ih=>exact PK (x:: ·) ih
theorem aq(a:List α):ao a=a.length:=by
 induction a with
 |nil=>rfl
 |cons x xs ih=>exact PK Nat.succ ih
theorem cA(a:List α):∀n,be a n=a[n]?:=by
 induction a with
 |nil=>intro n;rfl
 |cons x xs ih=>intro n;cases n with
  |zero=>rfl
  |succ n=>exact ih n
theorem fT(a:List α):∀n (x:α),mi a n x=a.set n x:=by
 induction a with
 |nil=>intro n x;rfl
 |cons y ys ih=>intro n x;cases n with
  |zero=>rfl
  |succ n=>exact PK (y:: ·) (ih n x)
theorem Aj{l:List α}(h:cq l=QI):l=[]:=by
 cases l with
 |nil=>rfl
 |cons=>exact ff h
theorem kt(l:List α):cq l=l.isEmpty:=by cases l<;>rfl
theorem wv(n:Nat)(x:α):xV n x=List.replicate n x:=by
 induction n with
 |zero=>rfl
 |succ n ih=>exact PK (x:: ·) ih
theorem Ak(a b:Nat):Nat.beq a b=(a==b):=by
 cases e:Nat.beq a b with
 |true=>exact(beq_iff_eq.mpr (OW e)).symm
 |false=>exact(PJ.mpr (Nat.ne_of_beq_eq_false e)).symm
theorem tG(a b:Bool):cond a b QK=(a&&b):=by cases a<;>rfl
theorem qS(a b:Bool):cond a QI b=(a||b):=by cases a<;>rfl
theorem mG(a:List Nat):∀b,iR a b=(a==b):=by
 induction a with
 |nil=>intro b;cases b<;>rfl
 |cons x xs ih=>intro b;cases b with
  |nil=>rfl
  |cons y ys=>show cond (Nat.beq x y) (iR xs ys) QK=(x==y&&xs==ys);rw[ih,Ak];exact tG _ _
theorem Dp(a:List Nat):∀b,G7 a b=d4 a b:=by
 induction a with
 |nil=>intro b;rfl
 |cons x xs ih=>intro b;cases b with
  |nil=>rfl
  |cons y ys=>show cond (Nat.beq x y) (G7 xs ys) QK=(x==y&&d4 xs ys);rw[ih,Ak];exact tG _ _
theorem Dq(s b:List Nat):xU s b=iw s b:=by
 induction b with
 |nil=>exact kt s
 |cons y ys ih=>exact(congr (PK (λp q=>cond p QI q) (Dp s (y::ys))) ih).trans (qS _ _)
theorem Al(a b:List Nat)(x y:α):cond (iR a b) x y=if a=b then x else y:=by
 rw[mG];by_cases h:a=b
 ·rw[if_pos h,beq_iff_eq.mpr h];rfl
 ·rw[if_neg h,PJ.mpr h];rfl
theorem Dr(a b:Nat)(x y:α):cond (Nat.beq a b) x y=if a=b then x else y:=by
 rw[Ak];by_cases h:a=b
 ·rw[if_pos h,beq_iff_eq.mpr h];rfl
 ·rw[if_neg h,PJ.mpr h];rfl
theorem ww(s:List Nat)(l:List (List Nat)):Di s l=l.contains s:=by
 induction l with
 |nil=>rfl
 |cons x xs ih=>rw[List.contains_cons, <-ih,BEq.comm, <-mG];exact qS _ _
theorem Ds(s:List Nat)(l:List (List Nat×AV)):JA s l=l.any λe=>e.1==s:=by
 induction l with
 |nil=>rfl
 |cons x xs ih=>rw[List.any_cons, <-ih, <-mG];exact qS _ _
theorem Am(s:List Nat)(es:List (List Nat×AV)):zY s es=eR s es:=by
 induction es with
 |nil=>rfl
 |cons e r ih=>exact(Al e.1 s _ _).trans (PK (λz=>if e.1=s then QA e.2 else z) ih)
theorem tH(s:List Nat)(v:AV)(es:List (List Nat×AV)):wq s v es=bC s v es:=by
 induction es with
 |nil=>rfl
 |cons e r ih=>exact(Al e.1 s _ _).trans (PK (λz=>if e.1=s then(e.1,v)::r else e::z) ih)
theorem ku(s:Nat)(es:List (Nat×AV)):gm s es=aR s es:=by
 induction es with
 |nil=>rfl
 |cons e r ih=>exact(Dr e.1 s _ _).trans (PK (λz=>if e.1=s then QA e.2 else z) ih)
theorem tJ(s:Nat)(v:AV)(es:List (Nat×AV)):zZ s v es=bU s v es:=by
 induction es with
 |nil=>rfl
 |cons e r ih=>exact(Dr e.1 s _ _).trans (PK (λz=>if e.1=s then(e.1,v)::r else e::z) ih)
theorem tK(l:List AV):kq l=bY l:=by
 induction l with
 |nil=>rfl
 |cons a r ih=>cases a with
  |str s=>show(Option.rec QE (λr=>QA (s::r)) (kq r):Option (List (List Nat)))=(bY r).map (s:: ·);rw[ih];cases bY r<;>rfl
  |_=>rfl
theorem xX(l:List (List Nat)):∀acc,qQ l acc=eM acc l:=by
 induction l with
 |nil=>intro acc;rfl
 |cons s r ih=>intro acc;show cond (Di s acc) (qQ r acc) (qQ r (ai acc [s]))=if acc.contains s=QI then eM acc r else eM (acc++[s]) r;rw[ww,ih,ih,ae];cases acc.contains s<;>rfl
theorem xY(s:List Nat)(l:List (List Nat)):u6 s l=d9 s l:=by
 induction l with
 |nil=>rfl
 |cons x xs ih=>show cond (iR x s) (QA 0) (Option.rec QE (λn=>QA (Nat.succ n)) (u6 s xs))=if x=s then QA 0 else(d9 s xs).map (·+1);rw[Al,ih];cases d9 s xs<;>rfl
theorem An(sep:List Nat)(l:List (List Nat)):eN sep l=jl sep l:=by
 induction l with
 |nil=>rfl
 |cons x r ih=>cases r with
  |nil=>rfl
  |cons y ys=>show ai x (ai sep (eN sep (y::ys)))=x++sep++jl sep (y::ys);rw[ih,ae,ae,OQ]
theorem Dt(ss:List (List Nat)):∀vs es,Ha ss vs es=dw ss vs es:=by
 induction ss with
 |nil=>intro vs es;rfl
 |cons s r ih=>intro vs es;cases vs with
  |nil=>rfl
  |cons v vs=>show Ha r vs (wq s v es)=dw r vs (bC s v es);rw[ih,tH]
theorem dZ(U:Loc):fo U=aP U:=by
 induction U with
 |nil=>rfl
 |cons o r ih=>cases o with
  |none=>exact ih
  |some v=>cases v with
   |exc=>rfl
   |_=>exact ih
theorem wx{f:AV->AV->Option Bool}(H:∀a b k,f a b=QA k->kW n a b k)(a:List AV):∀b k,zW f a b=QA k->gJ n a b k:=by
 induction a with
 |nil=>intro b k h;cases b with
  |nil=>cases h;exact .nn n
  |cons=>((have hz:=OO h;subst hz));exact .nc n _ _
 |cons x xs ih=>intro b k h;cases b with
  |nil=>((have hz:=OO h;subst hz));exact .cn n _ _
  |cons y ys=>
   have h:(Option.rec QE (λr=>Option.rec QE (λr'=>QA (and r r')) (zW f xs ys)) (f x y):Option Bool)=QA k:=h;cases e:f x y with
   |none=>rw[e] at h;exact nn h
   |some r=>cases e':zW f xs ys with
    |none=>rw[e,e'] at h;exact nn h
    |some r'=>rw[e,e'] at h;((have hz:=OO h;subst hz));exact .cc n _ _ _ _ _ _ (H _ _ _ e) (ih _ _ e')
theorem qT:∀(n:Nat) (a b:AV) (k:Bool),FC n a b=QA k->kW n a b k
 |0,_,_,_,h=>by exact nn h
 |n+1,a,b,k,h=>by
  cases a with
  |str s=>cases b with
   |str t=>((have hz:=OO h;subst hz));rw[mG];exact .ss _ _ _
   |int=>((have hz:=OO h;subst hz));exact .si _ _ _
   |tup=>((have hz:=OO h;subst hz));exact .st _ _ _
   |_=>exact nn h
  |tup s=>cases b with
   |tup t=>exact .tt _ _ _ _ (wx (qT n) _ _ _ h)
   |str=>((have hz:=OO h;subst hz));exact .ts _ _ _
   |_=>exact nn h
  |bool x=>cases b with
   |bool y=>((have hz:=OO h;subst hz));exact .bb _ _ _
   |_=>exact nn h
  |int x=>cases b with
   |int y=>((have hz:=OO h;subst hz));exact .ii _ _ _
   |str=>((have hz:=OO h;subst hz));exact .is _ _ _
   |_=>exact nn h
  |_=>exact nn h
theorem wy(l:List AV):∀k,tu x l=QA k->ju x l k:=by
 induction l with
 |nil=>intro k h;cases h;exact .nil
 |cons y ys ih=>
  intro k h;have h:(Option.rec QE (λa=>Option.rec QE (λb=>QA (or a b)) (tu x ys)) (FC 100 y x):Option Bool)=QA k:=h;cases e:FC 100 y x with
  |none=>rw[e] at h;exact nn h
  |some r=>cases e':tu x ys with
   |none=>rw[e,e'] at h;exact nn h
   |some r'=>rw[e,e'] at h;((have hz:=OO h;subst hz));exact .cons _ _ _ _ (qT _ _ _ _ e) (ih _ e')
theorem tL{b:AV}{k:Bool}(h:zX a b=QA k):eY a b k:=by
 cases b with
 |none=>cases a with
  |none=>cases h;exact .nn
  |_=>((have hz:=OO h;subst hz));exact .xn _ (by intro e;exact absurd e Nat.noConfusion)
 |bool y=>cases a with
  |bool x=>cases h;exact .bb _ _
  |_=>((have hz:=OO h;subst hz));exact .xb _ _ (by intro e;cases e)
 |obj j=>cases a with
  |obj i=>cases h;rw[Ak];exact .oo _ _
  |none=>cases h;exact .nx _ (by intro e;exact absurd e Nat.noConfusion)
  |_=>exact nn h
 |_=>exact nn h
section
variable{α:Type}{C:Prop}
theorem b7{k:Prop}(h:bt b k)(g:b=QI->k->C):C:=by
 cases b with
 |true=>exact g rfl h
 |false=>exact h.elim
theorem gn{o:Option α}{k:α->Prop}(h:oT o k)(g:∀a,o=QA a->k a->C):C:=by
 cases o with
 |none=>exact h.elim
 |some a=>exact g a rfl h
end
section
variable{v:AV}{C:AV->Prop}
theorem cG{f:Int->Prop}(h:gk v f)(g:∀i,f i->C (.int i)):C v:=by
 cases v with
 |int i=>exact g i h
 |_=>exact h.elim
theorem bq{f:List Nat->Prop}(h:eu v f)(g:∀i,f i->C (.str i)):C v:=by
 cases v with
 |str i=>exact g i h
 |_=>exact h.elim
theorem ve{f:List AV->Prop}(h:zV v f)(g:∀i,f i->C (.tup i)):C v:=by
 cases v with
 |tup i=>exact g i h
 |_=>exact h.elim
theorem fq{f:Nat->Prop}(h:iQ v f)(g:∀i,f i->C (.obj i)):C v:=by
 cases v with
 |obj i=>exact g i h
 |_=>exact h.elim
theorem Du{f:Prop}(h:FB v f)(g:f->C .word):C v:=by
 cases v with
 |word=>exact g h
 |_=>exact h.elim
theorem gX{f:Nat->Prop}(h:qP v f)(g:∀i:Nat,f i->C (.int i)):C v:=by
 refine cG h λi h=>?_;cases i with
 |ofNat n=>exact g n h
 |negSucc=>exact h.elim
end
section
variable{o:az}{C:az->Prop}
theorem Dv{f:List AV->Prop}(h:fj o f)(g:∀i,f i->C (.list i)):C o:=by
 cases o with
 |list i=>exact g i h
 |_=>exact h.elim
theorem Dw{f:List (List Nat×AV)->Prop}(h:wo o f)(g:∀i,f i->C (.dict i)):C o:=by
 cases o with
 |dict i=>exact g i h
 |_=>exact h.elim
theorem Dx{f:Nat->List (Nat×AV)->Prop}(h:ma o f)(g:∀c i,f c i->C (.inst c i)):C o:=by
 cases o with
 |inst c i=>exact g c i h
 |_=>exact h.elim
end
section
set_option genCtorIdx false
def ren(θ:Nat->Nat):AV->AV:=AV.rec (motive_1:=λu=>AV) (motive_2:=λu=>List AV) .none .bool .int .str (λu l=>.tup l) (λu l=>.flist l) (λk=>.obj (θ k)) (λc u l=>.exc c l) .word [] (λu u a b=>a::b)
def aD(θ:Nat->Nat):List AV->List AV:=AV.rec_1 (motive_1:=λu=>AV) (motive_2:=λu=>List AV) .none .bool .int .str (λu l=>.tup l) (λu l=>.flist l) (λk=>.obj (θ k)) (λc u l=>.exc c l) .word [] (λu u a b=>a::b)
def iT(θ:Nat->Nat)(es:List (List Nat×AV)):List (List Nat×AV):=es.map λe=>(e.1,ren θ e.2)
def nO(θ:Nat->Nat)(es:List (Nat×AV)):List (Nat×AV):=es.map λe=>(e.1,ren θ e.2)
def gp(θ:Nat->Nat):az->az
 |.list vs=>.list (aD θ vs)
 |.dict es=>.dict (iT θ es)
 |.sset ss=>.sset ss
 |.inst c fs=>.inst c (nO θ fs)
def gq(θ:Nat->Nat):aH->aH
 |.verr=>.verr
 |.own c fs=>.own c (aD θ fs)
def Hc(θ:Nat->Nat)(o:Option AV):Option AV:=o.map (ren θ)
def qU(θ:Nat->Nat)(U:Loc):Loc:=U.map (Hc θ)
def gY(θ:Nat->Nat):Flow->Flow
 |.next=>.next
 |.brk=>.brk
 |.cont=>.cont
 |.ret v=>.ret (ren θ v)
 |.err e=>.err (gq θ e)
section
variable{θ:Nat->Nat}
structure LS(θ:Nat->Nat)(o o':Option AV):Prop where
 val:∀v,o=QA v->o'=QA (ren θ v)
 exc:∀c fs,o=QE->o'≠QA (.exc c fs)
inductive LR(θ:Nat->Nat):Loc->Loc->Prop
 |nil:LR θ [] []
 |cons {o o':Option AV} {U U':Loc}:LS θ o o'->LR θ U U'->LR θ (o::U) (o'::U')
theorem LS.ren(o:Option AV):LS θ o (Hc θ o):=⟨λv e=>e▸rfl,λc fs e=>e▸nofun⟩
theorem LR.ren:∀U:Loc,LR θ U (qU θ U)
 |[]=>.nil
 |o::U=>.cons (.ren o) (.ren U)
theorem LR.get(h:LR θ U U'):∀{i:Nat} {v:AV},U[i]?=QA (QA v)->U'[i]?=QA (QA (Mine.Tactic.ren θ v)):=by
 induction h with
 |nil=>intro i v e;exact nn e
 |cons a _ ih=>intro i v e;cases i with
  |zero=>exact PK QA (a.val v (OO e))
  |succ i=>exact ih e
theorem LR.exc(h:LR θ U U'):∀{i:Nat},U[i]?=QA QE->∀c fs,U'[i]?≠QA (QA (.exc c fs)):=by
 induction h with
 |nil=>intro i e;exact nn e
 |cons a _ ih=>intro i e;cases i with
  |zero=>exact λc fs q=>a.exc c fs (OO e) (OO q)
  |succ i=>exact ih e
theorem LR.set(h:LR θ U U'){x x':Option AV}(q:LS θ x x'):∀i:Nat,LR θ (U.set i x) (U'.set i x'):=by
 induction h with
 |nil=>intro i;exact .nil
 |cons a r ih=>intro i;cases i with
  |zero=>exact .cons q r
  |succ i=>exact .cons a (ih i)
theorem LR.len(h:LR θ U U'):U'.length=U.length:=by
 induction h with
 |nil=>rfl
 |cons _ _ ih=>exact PK Nat.succ ih
theorem cH(l:List AV):aD θ l=l.map (ren θ):=by
 induction l with
 |nil=>rfl
 |cons a r ih=>exact PK (ren θ a:: ·) ih
theorem kx(l:List AV)(n:Nat):(aD θ l)[n]?=l[n]?.map (ren θ):=by rw[cH,List.getElem?_map]
theorem ce(l:List AV):(aD θ l).length=l.length:=by rw[cH,P9]
theorem gu(a b:List AV):aD θ (a++b)=aD θ a++aD θ b:=by rw[cH,cH,cH,PN]
theorem Ao(l:List AV)(n:Nat)(v:AV):(aD θ l).set n (ren θ v)=aD θ (l.set n v):=by rw[cH,cH,List.map_set]
theorem iU(f:Nat)(l:List (Nat×AV)):aR f (nO θ l)=(aR f l).map (ren θ):=by
 induction l with
 |nil=>rfl
 |cons e r ih=>show(if e.1=f then QA (ren θ e.2) else aR f (nO θ r))=Option.map (ren θ) (if e.1=f then QA e.2 else aR f r);rw[ih];split<;>rfl
theorem tO(f:Nat)(v:AV)(l:List (Nat×AV)):bU f (ren θ v) (nO θ l)=nO θ (bU f v l):=by
 induction l with
 |nil=>rfl
 |cons e r ih=>show(if e.1=f then(e.1,ren θ v)::nO θ r else(e.1,ren θ e.2)::bU f (ren θ v) (nO θ r))=nO θ (if e.1=f then(e.1,v)::r else e::bU f v r);rw[ih];split<;>rfl
theorem Ap(f:List Nat)(l:List (List Nat×AV)):eR f (iT θ l)=(eR f l).map (ren θ):=by
 induction l with
 |nil=>rfl
 |cons e r ih=>show(if e.1=f then QA (ren θ e.2) else eR f (iT θ r))=Option.map (ren θ) (if e.1=f then QA e.2 else eR f r);rw[ih];split<;>rfl
theorem tQ(f:List Nat)(v:AV)(l:List (List Nat×AV)):bC f (ren θ v) (iT θ l)=iT θ (bC f v l):=by
 induction l with
 |nil=>rfl
 |cons e r ih=>show(if e.1=f then(e.1,ren θ v)::iT θ r else(e.1,ren θ e.2)::bC f (ren θ v) (iT θ r))=iT θ (if e.1=f then(e.1,v)::r else e::bC f v r);rw[ih];split<;>rfl
theorem Aq(ks:List (List Nat))(vs:List AV):ks.zip (aD θ vs)=iT θ (ks.zip vs):=by
 induction ks generalizing vs with
 |nil=>rfl
 |cons k ks ih=>cases vs with
  |nil=>rfl
  |cons v vs=>exact PK ((k,ren θ v):: ·) (ih vs)
theorem tT(ss:List (List Nat))(vs:List AV)(es:List (List Nat×AV)):dw ss (aD θ vs) (iT θ es)=iT θ (dw ss vs es):=by
 induction ss generalizing vs es with
 |nil=>rfl
 |cons s ss ih=>cases vs with
  |nil=>rfl
  |cons v vs=>show dw ss (aD θ vs) (bC s (ren θ v) (iT θ es))=iT θ (dw ss vs (bC s v es));rw[tQ,ih]
theorem Ar(s:List Nat)(es:List (List Nat×AV)):((iT θ es).any λe=>e.1==s)=es.any λe=>e.1==s:=List.any_map ..
theorem At(l:List AV):bY (aD θ l)=bY l:=by
 induction l with
 |nil=>rfl
 |cons a r ih=>cases a with
  |str s=>exact PK (Option.map (s:: ·)) ih
  |_=>rfl
theorem Dy(v:AV):bF (ren θ v)=bF v:=by cases v<;>rfl
theorem cg(h:LR θ U U')(e:aP U=QI):aP U'=QI:=by
 induction h with
 |nil=>rfl
 |@cons o o' r r' a _ ih=>
  have M:∀{x':Option AV},(∀c fs,x'≠QA (.exc c fs))->aP r=QI->aP (x'::r')=QI:=by
   intro x' hx e;cases x' with
   |none=>exact ih e
   |some v=>cases v with
    |exc c fs=>exact(hx c fs rfl).elim
    |_=>exact ih e
  cases o with
  |none=>exact M (λc fs=>a.exc c fs rfl) e
  |some v=>
   rw[a.val v rfl];cases v with
   |exc=>exact ff e
   |_=>exact M nofun e
theorem Dz(n:Nat)(x:AV):List.replicate n (ren θ x)=aD θ (List.replicate n x):=by rw[cH,List.map_replicate]
theorem kW.ren{b:AV}{k:Bool}(h:kW n a b k):kW n (ren θ a) (ren θ b) k:=
 kW.rec (motive_1:=λn a b k u=>kW n (Mine.Tactic.ren θ a) (Mine.Tactic.ren θ b) k) (motive_2:=λn a b k u=>gJ n (aD θ a) (aD θ b) k) .ss .ii .bb .si .is (λn a u=>.st n a _) (λn u b=>.ts n _ b) (λn u u k u h=>.tt n _ _ k h)
  .nn (λn u u=>.nc n _ _) (λn u u=>.cn n _ _) (λn u u u u a b u u h1 h2=>.cc n _ _ _ _ a b h1 h2) h
theorem gJ.ren{a b:List AV}{k:Bool}(h:gJ n a b k):gJ n (aD θ a) (aD θ b) k:=
 gJ.rec (motive_1:=λn a b k u=>kW n (Mine.Tactic.ren θ a) (Mine.Tactic.ren θ b) k) (motive_2:=λn a b k u=>gJ n (aD θ a) (aD θ b) k) .ss .ii .bb .si .is (λn a u=>.st n a _) (λn u b=>.ts n _ b) (λn u u k u h=>.tt n _ _ k h)
  .nn (λn u u=>.nc n _ _) (λn u u=>.cn n _ _) (λn u u u u a b u u h1 h2=>.cc n _ _ _ _ a b h1 h2) h
theorem ju.ren{k:Bool}(h:ju x l k):ju (ren θ x) (aD θ l) k:=
 ju.rec (motive:=λl k u=>ju (Mine.Tactic.ren θ x) (aD θ l) k) .nil (λu u u u h1 u h2=>.cons _ _ _ _ h1.ren h2) h
theorem qV(v:AV):(ren θ v).ctorIdx=v.ctorIdx:=by cases v<;>rfl
theorem eY.ren(inj:∀i j,θ i=θ j->i=j){a b:AV}{k:Bool}(h:eY a b k):eY (ren θ a) (ren θ b) k:=by
 cases h with
 |nn=>exact .nn
 |bb=>exact .bb _ _
 |oo i j=>
  have:(i==j)=(θ i==θ j):=by
   by_cases e:i=j
   ·rw[e,beq_self_eq_true,beq_self_eq_true]
   ·rw[PJ.mpr e,PJ.mpr λq=>e (inj _ _ q)]
  exact this.symm▸(.oo _ _)
 |xn a h=>exact .xn _ (qV a▸h)
 |nx a h=>exact .nx _ (qV b▸h)
 |xb a b h=>exact .xb _ _ (qV a▸h)
theorem F4{a':AV}{l':List AV}(h:a=a')(h':l=l'):a::l=a'::l':=h▸h'▸rfl
theorem bw(v:AV):dP v=QI->ren θ v=v:=
 AV.rec (motive_1:=λv=>dP v=QI->ren θ v=v) (motive_2:=λl=>ag l=QI->aD θ l=l) (λu=>rfl) (λu u=>rfl) (λu u=>rfl) (λu u=>rfl) (λu ih h=>PK AV.tup (ih h)) (λu ih h=>PK AV.flist (ih h)) (λu h=>nomatch h)
  (λc u ih h=>PK (AV.exc c) (ih h)) (λu=>rfl) (λu=>rfl) (λu u a b h=>F4 (a (OD.mp h).1) (b (OD.mp h).2)) v
theorem aC(l:List AV)(h:ag l=QI):aD θ l=l:=by
 induction l with
 |nil=>rfl
 |cons a r ih=>exact F4 (bw a (OD.mp h).1) (ih (OD.mp h).2)
end
end
def fu(f:α->β)(l:List α):List β:=List.rec [] (λx u ih=>f x::ih) l
theorem jb{f:α->β}:∀{is:List α} {sl:List β},fu f is=sl->∀{j:Nat} {i:α} {v:β},is[j]?=QA i->sl[j]?=QA v->f i=v
 |[],_,_,_,_,_,h,_=>nn h
 |_::_,_,e,0,_,_,h,g=>by subst e;exact(PK f (OO h).symm).trans (OO g)
 |_::_,_,e,j+1,_,_,h,g=>by subst e;exact jb rfl (j:=j) h g
theorem tV{o:Option AV}(h:aP (o::r)=QI):aP r=QI:=(OD.mp h).2
theorem Au{fs:List AV}(h:aP (QA (.exc c fs)::r)=QI):False:=ff h
theorem tW:∀{U:Loc},aP U=QI->∀(i:Nat) (c:Nat) (fs:List AV),U[i]?≠QA (QA (.exc c fs))
 |[],_,_,_,_,e=>nn e
 |_::_,h,0,_,_,e=>Au (OO e▸h)
 |_::_,h,i+1,c,fs,e=>tW (tV h) i c fs e
theorem Av:∀(r U:Loc),r.length=U.length->aP U=QI->(∀(i:Nat) (v:AV),r[i]?=QA (QA v)->U[i]?=QA (QA (ren θ v)))->LR θ r U
 |[],[],_,_,_=>.nil
 |[],_::_,h,_,_=>nomatch h
 |_::_,[],h,_,_=>nomatch h
 |_::r,_::U,h,hn,hs=>.cons ⟨λv e=>OO (hs 0 v (PK QA e)),λc fs u q=>tW hn 0 c fs (PK QA q)⟩ (Av r U (Nat.succ.inj h) (tV hn) λi v e=>hs (i+1) v e)
def Lf(θ:Nat->Nat)(U:Loc):Loc->Nat->Prop
 |[],_=>True
 |none::r,i=>Lf θ U r (i+1)
 |some v::r,i=>U[i]?=QA (QA (ren θ v))/\Lf θ U r (i+1)
theorem vf:∀(r:Loc) (k:Nat),Lf θ U r k->∀(i:Nat) (v:AV),r[i]?=QA (QA v)->U[k+i]?=QA (QA (ren θ v))
 |[],_,_,_,_,e=>nn e
 |none::_,_,_,0,_,e=>nn (OO e)
 |some _::_,_,h,0,_,e=>OO (OO e)▸h.1
 |none::r,k,h,i+1,v,e=>O7 k 1 i▸vf r (k+1) h i v e
 |some _::r,k,h,i+1,v,e=>O7 k 1 i▸vf r (k+1) h.2 i v e
theorem gZ(hl:r.length=U.length)(no:aP U=QI)(h:Lf θ U r 0):LR θ r U:=Av r U hl no λi v e=>Nat.zero_add i▸vf r 0 h i v e
theorem ml{a:Nat}(e:θ k=a)(h:U[i]?=QA (QA (.obj a))):U[i]?=QA (QA (ren θ (.obj k))):=by subst e;exact h
theorem oP(hv:dP v=QI)(h:U[i]?=QA (QA v)):U[i]?=QA (QA (ren θ v)):=(bw (θ:=θ) v hv).symm▸h
theorem Aw(h:LR θ r U)(q:r.all Option.isSome=QI):U=qU θ r:=by
 induction h with
 |nil=>rfl
 |@cons o o' r r' a _ ih=>
  have q:=OD.mp q;cases o with
  |none=>exact ff q.1
  |some v=>((refine(a.val v rfl).symm▸?_;refine(ih q.2).symm▸?_));rfl
theorem Ax(h:∀i j,i<j->j<n->f i≠f j)(i j:Nat)(hi:i<n)(hj:j<n)(e:f i=f j):i=j:=
 (Nat.lt_trichotomy i j).elim (λq=>absurd e (h i j q hj)) λq=>q.elim id λq=>absurd e.symm (h j i q hi)
theorem wz(h:f 0≠f 1):∀i j,i<2->j<2->f i=f j->i=j:=Ax λi j q hj=>by cases Nat.eq_of_lt_succ_of_not_lt hj λz=>Nat.not_lt_zero i (OV q (Pv z));cases Nat.lt_one_iff.mp q;exact h
theorem JZ(h1:f 0≠f 1)(h2:f 0≠f 2)(h3:f 1≠f 2):∀i j,i<3->j<3->f i=f j->i=j:=Ax λi j q hj=>by
 rcases Nat.lt_succ_iff_lt_or_eq.mp hj with hj|rfl
 ·exact λe=>absurd (wz h1 i j (Qn q hj) hj e) (PD q)
 ·rcases Nat.lt_succ_iff_lt_or_eq.mp q with q|rfl
  ·cases Nat.lt_one_iff.mp q;exact h2
  ·exact h3
theorem iv{a b:List α}(ha:a.length<=A)(hb:b.length<=B):(a++b).length<=A+B:=OP▸OU ha hb
theorem mn{x:α}{P:Prop}(h:x∈([]:List α)):P:=absurd h Qf
theorem cz{P:Nat->Prop}(n:Nat)(h:n<0):P n:=absurd h (Nat.not_lt_zero n)
theorem cs{P:Nat->Prop}(h:∀n,n<k->P n)(hk:P k)(n:Nat)(hn:n<k+1):P n:=(Nat.lt_succ_iff_lt_or_eq.mp hn).elim (h n) λe=>e▸hk
theorem gz{P:Nat->α->Prop}(k:Nat)(o:α)(e:([]:List α)[k]?=QA o):P k o:=nn e
theorem xZ{P:Nat->α->Prop}{a:α}{l:List α}(h:P 0 a)(t:∀k o,l[k]?=QA o->P (k+1) o):∀k o,(a::l)[k]?=QA o->P k o
 |0,_,e=>OO e▸h
 |k+1,o,e=>t k o e
theorem Ay:∀{r U:Loc},r.length=U.length->(∀(i:Nat) (o o':Option AV),r[i]?=QA o->U[i]?=QA o'->LS θ o o')->LR θ r U
 |[],[],_,_=>.nil
 |[],_::_,h,_=>nomatch h
 |_::_,[],h,_=>nomatch h
 |_::_,_::_,h,H=>.cons (H 0 _ _ rfl rfl) (Ay (Nat.succ.inj h) λi o o' e e'=>H (i+1) o o' e e')
section
set_option genCtorIdx false
theorem L5(e:Nat.beq (Nat.mod n 2) 0=b)(e':Nat.beq (Nat.mod k 2) 0=b)(q:k.div 2=n.div 2):k=n:=by
 have q:k / 2=n / 2:=q;have m:k % 2=n % 2:=by
  cases b with
  |true=>exact(OW e').trans (OW e).symm
  |false=>exact((Nat.mod_two_eq_zero_or_one k).resolve_left (Nat.ne_of_beq_eq_false e')).trans ((Nat.mod_two_eq_zero_or_one n).resolve_left (Nat.ne_of_beq_eq_false e)).symm
 exact(Nat.div_add_mod k 2).symm.trans ((q▸m▸rfl:2*(k / 2)+k % 2=2*(n / 2)+n % 2).trans (Nat.div_add_mod n 2))
theorem Az(k:Nat):aG (.node QE .leaf .leaf) k=QE:=by
 cases k with
 |zero=>rfl
 |succ k=>show cond (Nat.beq (Nat.mod k 2) 0) QE QE=_;cases Nat.beq (Nat.mod k 2) 0<;>rfl
theorem gv(x:az):∀(f:Nat) (t:Tr) (n k:Nat) (o:az),aG (iP x f t n) k=QA o->(k=n/\o=x)\/(k≠n/\aG t k=QA o)
 |0,_,_,_,_,h=>by exact nn h
 |f+1,t,n,k,o,h=>by
  have M:∀y l r,aG (iP x (f+1) (.node y l r) n) k=QA o->(k=n/\o=x)\/(k≠n/\aG (.node y l r) k=QA o):=by
   intro y l r h;have R:∀t n k,aG (iP x f t (Nat.div n 2)) (Nat.div k 2)=QA o->∀b,Nat.beq (Nat.mod n 2) 0=b->Nat.beq (Nat.mod k 2) 0=b->(k+1=n+1/\o=x)\/(k+1≠n+1/\aG t (Nat.div k 2)=QA o):=by
    intro t n k h b e e';rcases gv x f _ _ _ _ h with⟨q,z⟩|⟨q,z⟩
    ·exact .inl ⟨PK Nat.succ (L5 e e' q),z⟩
    ·exact .inr ⟨λw=>q (by cases w;rfl),z⟩
   have D:∀n k b,Nat.beq (Nat.mod n 2) 0=b->Nat.beq (Nat.mod k 2) 0= !b->k+1≠n+1:=by intro n k b e e' w;cases w;rw[e] at e';cases b<;>exact absurd e' (by decide)
   cases n with
   |zero=>cases k with
    |zero=>((have hz:=OO h;subst hz));exact .inl ⟨rfl,rfl⟩
    |succ k=>exact .inr ⟨nofun,h⟩
   |succ n=>
    have h:aG (cond (Nat.beq (Nat.mod n 2) 0) (.node y (iP x f l (Nat.div n 2)) r) (.node y l (iP x f r (Nat.div n 2)))) k=QA o:=h;cases k with
    |zero=>cases e:Nat.beq (Nat.mod n 2) 0<;>rw[e] at h<;>exact .inr ⟨nofun,h⟩
    |succ k=>
     show _\/(_/\cond (Nat.beq (Nat.mod k 2) 0) (aG l (Nat.div k 2)) (aG r (Nat.div k 2))=QA o);cases e:Nat.beq (Nat.mod n 2) 0 with
     |true=>
      rw[e] at h;have h:cond (Nat.beq (Nat.mod k 2) 0) (aG (iP x f l (Nat.div n 2)) (Nat.div k 2)) (aG r (Nat.div k 2))=QA o:=h;cases e':Nat.beq (Nat.mod k 2) 0 with
      |true=>rw[e'] at h;exact R l n k h QI e e'
      |false=>rw[e'] at h;exact .inr ⟨D _ _ _ e e',h⟩
     |false=>
      rw[e] at h;have h:cond (Nat.beq (Nat.mod k 2) 0) (aG l (Nat.div k 2)) (aG (iP x f r (Nat.div n 2)) (Nat.div k 2))=QA o:=h;cases e':Nat.beq (Nat.mod k 2) 0 with
      |true=>rw[e'] at h;exact .inr ⟨D _ _ _ e e',h⟩
      |false=>rw[e'] at h;exact R r n k h QK e e'
  cases t with
  |leaf=>
   rcases M QE .leaf .leaf h with q|q
   ·exact .inl q
   ·rw[Az] at q;cases q.2
  |node y l r=>exact M y l r h
structure L6(θ:Nat->Nat)(tk:List AV)(pv:Option AV)(J:Hp)(c:Nat)(fs:List (Nat×AV))(n:Nat)(ts:List AV):Prop where
 ob:J[θ 1]?=QA (.inst c fs)
 fi:aR 1 fs=QA (.int n)
 ft:aR 0 fs=QA (.obj (θ 0))
 ls:J[θ 0]?=QA (.list ts)
 dr:ts.drop n=aD θ tk
 pr:∀v,pv=QA v->∃m,n=m+1/\ts[m]?=QA (ren θ v)
 m0:Pg.meth c 0=QE
 m1:Pg.meth c 1=QE
structure bu(pk:Bool)(B:Hp)(θ:Nat->Nat)(s:GS)(J:Hp):Prop where
 inj:∀i j,θ i=θ j->i=j
 nx:∀j,θ (s.nx+j)=J.length+j
 get:∀k o,aG s.t k=QA o->J[θ k]?=QA (gp θ o)
 le:B.length<=J.length
 fr:∀a,a<B.length->(∀k,θ k≠a)->J[a]?=B[a]?
 tk:pk=QI->∃c fs n ts,L6 θ s.tk s.pv J c fs n ts
section
variable{pk:Bool}{B:Hp}{θ:Nat->Nat}{s:GS}{J:Hp}{C:Prop}
theorem bu.new(R:bu pk B θ s J)(o:az):bu pk B θ ⟨iP o 30 s.t s.nx,Nat.succ s.nx,s.tk,s.pv,s.od,s.ob⟩ (J++[gp θ o]):=by
 have L:∀k x,J[k]?=QA x->(J++[gp θ o])[k]?=QA x:=λk x e=>by exact(OR (OG.mp e).1).trans e
 refine⟨R.inj,λj=>?_,λk x e=>?_,OK R.le (by rw[OP];exact O1 _ _),λa h1 h2=>(OR (OV h1 R.le)).trans (R.fr a h1 h2),λhp=>?_⟩
 ·have:=R.nx (1+j);rw[OP,PW];rw[<-PW] at this;exact this
 ·rcases gv o 30 _ _ _ _ e with⟨q,z⟩|e
  ·have:=R.nx 0;rw[q,z,show θ s.nx=J.length from this,Pn (OX _),Nat.sub_self];rfl
  ·exact L _ _ (R.get _ _ e.2)
 ·obtain⟨c,fs,n,ts,T⟩:=R.tk hp;exact⟨c,fs,n,ts,L _ _ T.ob,T.fi,T.ft,L _ _ T.ls,T.dr,T.pr,T.m0,T.m1⟩
theorem bu.set(R:bu pk B θ s J){k:Nat}(o:az){y:az}(hk:J[θ k]?=QA y)(hp:cond pk (Nat.ble 2 k) QI=QI):bu pk B θ ⟨iP o 30 s.t k,s.nx,s.tk,s.pv,s.od,s.ob⟩ (J.set (θ k) (gp θ o)):=by
 have hl:=(OG.mp hk).1;refine⟨R.inj,λj=>(R.nx j).trans (PK (·+j) Ps.symm),λj x e=>?_,by rw[Ps];exact R.le,λa h1 h2=>(OM (h2 k)).trans (R.fr a h1 h2),λhp'=>?_⟩
 ·rcases gv o 30 _ _ _ _ e with⟨q,z⟩|e
  ·rw[q,z,OT hl]
  ·exact(OM λq=>e.1 (R.inj _ _ q.symm)).trans (R.get _ _ e.2)
 ·obtain⟨c,fs,n,ts,T⟩:=R.tk hp';rw[hp'] at hp;have hp:2<=k:=OJ hp;have a1:θ k≠θ 1:=λq=>by have:=R.inj _ _ q;exact absurd (this▸hp:2<=1) (by decide)
  have a0:θ k≠θ 0:=λq=>by have:=R.inj _ _ q;exact absurd (this▸hp:2<=0) (by decide)
  exact⟨c,fs,n,ts,(OM a1).trans T.ob,T.fi,T.ft,(OM a0).trans T.ls,T.dr,T.pr,T.m0,T.m1⟩
end
end
section
variable{pk:Bool}{B:Hp}{θ:Nat->Nat}{s:GS}{J:Hp}{C:Prop}{K:GK}{K':KV}
abbrev ky(J:Hp)(K':KV)(op:Bop)(a b:AV):Prop:=∃v J1,jv J op a b v J1/\K' v J1
abbrev Hd(K:AV->Prop)(op:Bop)(a b:AV):Prop:=∃v,kX op a b v/\K v
abbrev vg(J:Hp)(K':KV)(op:oz)(a b:AV):Prop:=∃k,eQ J op a b k/\K' (.bool k) J
abbrev yb(J:Hp)(f:AV->Prop)(a i:AV):Prop:=∃v,mT J a i v/\f v
abbrev F5(J:Hp)(f:AV->Prop)(n:Nat)(a:AV):Prop:=∃v,iy J a n v/\f v
abbrev L7(J:Hp)(K':KV)(f:Bf)(a:List AV):Prop:=∃v J1,r7 J f a v J1/\K' v J1
abbrev rR(J:Hp)(K':KV)(m:Bm)(l:List AV)(a:AV):Prop:=∃v J1,vQ J m a l v J1/\K' v J1
abbrev mo(pk:Bool)(B:Hp)(θ:Nat->Nat)(K:GK)(K':KV):Prop:=∀v s J,bu pk B θ s J->K v s->K' (ren θ v) J
theorem bu.od(R:bu pk B θ s J)(r:List Int):bu pk B θ ⟨s.t,s.nx,s.tk,s.pv,r,s.ob⟩ J:=⟨R.inj,R.nx,R.get,R.le,R.fr,R.tk⟩
theorem bu.ob(R:bu pk B θ s J)(r:List Bool):bu pk B θ ⟨s.t,s.nx,s.tk,s.pv,s.od,r⟩ J:=⟨R.inj,R.nx,R.get,R.le,R.fr,R.tk⟩
theorem hJ(R:bu pk B θ s J)(H:mo pk B θ K K'){o:az}(h:nK o s K):K' (.obj J.length) (J++[gp θ o]):=(show θ s.nx=J.length from R.nx 0)▸H _ _ _ (R.new o) h
theorem vh{f:az->Prop}(R:bu pk B θ s J)(h:oT (aG s.t k) f)(g:∀o,J[θ k]?=QA (gp θ o)->f o->C):C:=gn h λo e h=>g o (R.get _ _ e) h
theorem il{f:List AV->Prop}(R:bu pk B θ s J)(h:oT (aG s.t k) λo=>fj o f)(g:∀vs,J[θ k]?=QA (.list (aD θ vs))->f vs->C):C:=
 vh R h λu e h=>Dv (C:=λo=>J[θ k]?=QA (gp θ o)->C) h (λvs h e=>g vs e h) e
theorem F6{f:List (List Nat×AV)->Prop}(R:bu pk B θ s J)(h:oT (aG s.t k) λo=>wo o f)(g:∀vs,J[θ k]?=QA (.dict (iT θ vs))->f vs->C):C:=
 vh R h λu e h=>Dw (C:=λo=>J[θ k]?=QA (gp θ o)->C) h (λvs h e=>g vs e h) e
theorem pV{f:Nat->List (Nat×AV)->Prop}(R:bu pk B θ s J)(h:oT (aG s.t k) λo=>ma o f)(g:∀c vs,J[θ k]?=QA (.inst c (nO θ vs))->f c vs->C):C:=
 vh R h λu e h=>Dx (C:=λo=>J[θ k]?=QA (gp θ o)->C) h (λc vs h e=>g c vs e h) e
theorem pW{y:az}{f:GS->Prop}(R:bu pk B θ s J)(hk:J[θ k]?=QA y)(h:u5 pk s k o f)(g:∀s1,bu pk B θ s1 (J.set (θ k) (gp θ o))->f s1->C):C:=
 b7 h λhp h=>g _ (R.set o hk hp) h
theorem Cm(e:J[k]?=QA (.list vs)):du J (.obj k)=QA vs:=jQ e
theorem Nz(e:J[k]?=QA (.list vs)):b8 J (.obj k)=QA vs:=jQ e
theorem Oj(e:J[k]?=QA (.list vs)):truthy J (.obj k)=QA (!vs.isEmpty):=by exact PK (Option.map _) (jQ e)
theorem qW{f:List AV->Prop}(R:bu pk B θ s J)(h:wp s v f)(g:∀vs,du J (ren θ v)=QA (aD θ vs)->f vs->C):C:=by
 cases v with
 |flist vs=>exact g vs rfl h
 |obj k=>exact il R h λvs e h=>g vs (Cm e) h
 |_=>exact h.elim
theorem gw{f:List AV->Prop}(R:bu pk B θ s J)(h:jF s v f)(g:∀vs,b8 J (ren θ v)=QA (aD θ vs)->f vs->C):C:=by
 cases v with
 |tup vs=>exact g vs rfl h
 |obj k=>exact il R h λvs e h=>g vs (Nz e) h
 |_=>exact h.elim
theorem tX(l:List AV):(aD θ l).isEmpty=l.isEmpty:=by cases l<;>rfl
theorem AA{f:Bool->Prop}(R:bu pk B θ s J)(h:lF s v f)(g:∀b,truthy J (ren θ v)=QA b->f b->C):C:=by
 cases v with
 |none=>exact g _ rfl h
 |bool=>exact g _ rfl h
 |str x=>have h:f (not (cq x)):=h;rw[kt] at h;exact g _ rfl h
 |tup x=>have h:f (not (cq x)):=h;rw[kt, <-tX (θ:=θ)] at h;exact g _ rfl h
 |obj k=>exact il R h λvs e h=>by rw[kt, <-tX (θ:=θ)] at h;exact g _ (Oj e) h
 |_=>exact h.elim
theorem qX{f:List (List Nat)->Prop}(h:oT (kq l) f)(g:∀ss,bY (aD θ l)=QA ss->f ss->C):C:=by rw[tK] at h;exact gn h λss e h=>g ss ((At l).trans e) h
theorem tY{l:List α}{f:α->Prop}(h:oT (be l n) f)(g:∀a,l[n]?=QA a->f a->C):C:=by rw[cA] at h;exact gn h g
theorem qY{f:AV->Prop}(h:oT (be l n) f)(g:∀a,(aD θ l)[n]?=QA (ren θ a)->f a->C):C:=
 tY h λa e h=>g a ((kx l n).trans (PK _ e)) h
theorem jq{l:List α}{k:Prop}{C:List α->Prop}(h:bt (cq l) k)(g:k->C []):C l:=b7 h λe h=>Aj e▸g h
theorem AB{f:AV->Prop}{C:List AV->Prop}(h:List.rec False (λv r u=>bt (cq r) (f v)) l)(g:∀v,f v->C [v]):C l:=by
 cases l with
 |nil=>exact h.elim
 |cons v r=>exact jq (C:=λr=>C (v::r)) h (g v)
theorem AC{x y:List α}{k:List α->Prop}(h:bt (Nat.ble (ao (ai x y)) aE) (k (ai x y)))(g:(x++y).length<=aE->k (x++y)->C):C:=by rw[aq,ae] at h;exact b7 h λe h=>g (OJ e) h
theorem AD{x y:List AV}{k:List AV->Prop}(h:bt (Nat.ble (ao (ai x y)) aE) (k (ai x y)))(g:(aD θ x++aD θ y).length<=aE->k (x++y)->C):C:=
 AC h λe h=>g (by((refine(gu ..)▸?_;refine(ce ..).symm▸?_));exact e) h
theorem vi{i:Int}(h:cN i=QI):fN i=QI:=by
 unfold fN;cases i with
 |ofNat n=>have h:n<4611686018427387904:=OJ h;rw[PL (show(-4611686018427387904:Int)< .ofNat n by show(-4611686018427387904:Int)<(n:Int);exact Lx),PL (show Int.ofNat n<(4611686018427387904:Int) by show(n:Int)<(4611686018427387904:Int);exact(Qc (m:=4611686018427387904)).mpr h)];rfl
 |negSucc n=>have h:n<4611686018427387903:=OJ h;rw[PL (show(-4611686018427387904:Int)< .negSucc n by omega),PL (show Int.negSucc n<(4611686018427387904:Int) by omega)];rfl
theorem DA{b:AV}(R:bu pk B θ s J)(H:mo pk B θ K K')(h:JB op a b s K):ky J K' op (ren θ a) (ren θ b):=by
 cases op with
 |add=>cases a with
  |int x=>exact cG (C:=λb=>ky J K' .add (.int x) (ren θ b)) h λy h=>⟨_,_,.addI x y,H _ _ _ R h⟩
  |str x=>exact bq (C:=λb=>ky J K' .add (.str x) (ren θ b)) h λy h=>AC (k:=λz=>K (.str z) s) h λe h=>⟨_,_,.addS x y e,H _ _ _ R h⟩
  |tup x=>exact ve (C:=λb=>ky J K' .add (.tup (aD θ x)) (ren θ b)) h λy h=>AD (k:=λz=>K (.tup z) s) h λe h=>⟨_,_,.addT _ _ e,gu (θ:=θ) x y▸H _ _ _ R h⟩
  |obj i=>exact fq (C:=λb=>ky J K' .add (.obj (θ i)) (ren θ b)) h λj h=>il R h λx ex h=>il R h λy ey h=>AD (k:=λz=>nK (.list z) s K) h λe h=>⟨_,_,.addL (θ i) (θ j) _ _ ex ey e,gu (θ:=θ) x y▸hJ R H h⟩
  |_=>exact h.elim
 |sub=>exact cG (C:=λa=>ky J K' .sub (ren θ a) (ren θ b)) h λx h=>cG (C:=λb=>ky J K' .sub (.int x) (ren θ b)) h λy h=>⟨_,_,.subI x y,H _ _ _ R h⟩
 |mul=>cases a with
  |int x=>exact cG (C:=λb=>ky J K' .mul (.int x) (ren θ b)) h λy h=>b7 h λe h=>b7 h λe' h=>⟨_,_,.mulI x y (vi e) (vi e'),H _ _ _ R h⟩
  |obj i=>
   refine gX (C:=λb=>ky J K' .mul (.obj (θ i)) (ren θ b)) h λn h=>il R h λl el h=>?_;cases l with
   |nil=>exact h.elim
   |cons x r=>refine jq (C:=λr=>J[θ i]?=QA (.list (aD θ (x::r)))->ky J K' .mul (.obj (θ i)) (.int n)) h (λh el=>b7 h λe' h=>?_) el;rw[wv] at h;exact⟨_,_,.mulL (θ i) n (ren θ x) el (Px n) (OJ e'),Dz (θ:=θ) n x▸hJ R H h⟩
  |_=>exact h.elim
 |mod=>
  refine cG (C:=λa=>ky J K' .mod (ren θ a) (ren θ b)) h λx h=>cG (C:=λb=>ky J K' .mod (.int x) (ren θ b)) h λy h=>?_;obtain⟨t,nx,tk,pv,od,ob⟩:=s;cases od with
  |nil=>exact h.elim
  |cons c r=>exact b7 h λe h=>b7 h λe1 h=>⟨_,_,.modI x y (λz=>by subst z;exact ff e),Pl e1▸H _ _ _ (R.od r) h⟩
 |fdiv=>exact cG (C:=λa=>ky J K' .fdiv (ren θ a) (ren θ b)) h λx h=>cG (C:=λb=>ky J K' .fdiv (.int x) (ren θ b)) h λy h=>b7 h λe h=>b7 h λe' h=>⟨_,_,.divI x y (Pm e) (Pm e'),H _ _ _ R h⟩
theorem DB{b:AV}{K:AV->Prop}{K':AV->Prop}(h:JC op a b K)(k:∀v,K v->K' (ren θ v)):Hd K' op (ren θ a) (ren θ b):=by
 cases op with
 |add=>cases a with
  |int x=>exact cG (C:=λb=>Hd K' .add (.int x) (ren θ b)) h λy h=>⟨_,.addI x y,k _ h⟩
  |str x=>exact bq (C:=λb=>Hd K' .add (.str x) (ren θ b)) h λy h=>AC (k:=λz=>K (.str z)) h λe h=>⟨_,.addS x y e,k _ h⟩
  |_=>exact h.elim
 |_=>exact h.elim
theorem AE{b:AV}{f:Bool->Prop}(R:bu pk B θ s J)(h:Dk s a b f)(g:∀k,Ck J (ren θ a) (ren θ b) k->f k->C):C:=by
 have V:oT (FC 100 a b) f->C:=λh=>gn h λk e h=>g k (.v k (qT _ _ _ _ e).ren) h;cases a with
 |obj j=>
  refine qW (v:=.obj j) R h λx ex h=>qW R h λy ey h=>?_;cases e:Nat.beq (ao x) (ao y) with
  |true=>rw[e] at h;have e:=OW e;rw[aq,aq, <-ce (θ:=θ) x, <-ce (θ:=θ) y] at e;exact gn h λk q h=>g k (.ll _ _ k ex ey e (wx (qT _) _ _ _ q).ren) h
  |false=>rw[e] at h;have e:=Nat.ne_of_beq_eq_false e;rw[aq,aq, <-ce (θ:=θ) x, <-ce (θ:=θ) y] at e;exact g QK (.ld _ _ ex ey e) h
 |_=>exact V h
theorem qZ{op:oz}{y:AV}(R:bu pk B θ s J)(H:mo pk B θ K K')(e:eQ J op x y b)(h:Dj b s K):vg J K' op x y:=by
 obtain⟨t,nx,tk,pv,od,ob⟩:=s;cases ob with
 |nil=>exact⟨b,e,H _ _ _ R h⟩
 |cons c r=>exact b7 h λe1 h=>⟨b,e,Pl e1▸H _ _ _ (R.ob r) h⟩
theorem F7{c:AV}{f:Bool->Prop}(R:bu pk B θ s J)(h:LX s x c f)(g:∀k,InR J (ren θ x) (ren θ c) k->f k->C):C:=by
 cases c with
 |tup vs=>exact gn h λk e h=>g k (.tup _ _ _ (wy _ _ e).ren) h
 |str t=>exact bq (C:=λx=>(∀k,InR J (ren θ x) (.str t) k->f k->C)->C) h (λy h g=>g _ (.txt y t) (Dq y t▸h)) g
 |obj k=>
  refine vh R h λo e h=>?_;cases o with
  |list vs=>exact gn h λb q h=>g b (.lst _ _ _ _ (Cm e) (wy _ _ q).ren) h
  |dict es=>exact bq (C:=λx=>(∀b,InR J (ren θ x) (.obj (θ k)) b->f b->C)->C) h (λy h g=>g _ (.dict y (θ k) _ e) (Ar (θ:=θ) y es▸Ds y es▸h)) g
  |sset ss=>exact bq (C:=λx=>(∀b,InR J (ren θ x) (.obj (θ k)) b->f b->C)->C) h (λy h g=>g _ (.sset y (θ k) ss e) (ww y ss▸h)) g
  |_=>exact h.elim
 |_=>exact h.elim
theorem DC{op:oz}{b:AV}(R:bu pk B θ s J)(H:mo pk B θ K K')(h:JD op a b s K):vg J K' op (ren θ a) (ren θ b):=by
 cases op with
 |eq=>
  have V:Dk s a b (λk=>K (.bool k) s)->vg J K' .eq (ren θ a) (ren θ b):=λh=>AE R h λk e h=>⟨k,.eq _ _ _ e,H _ _ _ R h⟩;cases a with
  |int x=>cases b with
   |int y=>exact qZ R H (.eq _ _ _ (.v _ (.ii _ x y))) h
   |_=>exact V h
  |_=>exact V h
 |ne=>exact AE R h λk e h=>⟨_,.ne _ _ _ e,H _ _ _ R h⟩
 |lt=>exact cG (C:=λa=>vg J K' .lt (ren θ a) (ren θ b)) h λx h=>cG (C:=λb=>vg J K' .lt (.int x) (ren θ b)) h λy h=>qZ R H (.lt x y) h
 |gt=>exact cG (C:=λa=>vg J K' .gt (ren θ a) (ren θ b)) h λx h=>cG (C:=λb=>vg J K' .gt (.int x) (ren θ b)) h λy h=>qZ R H (.gt x y) h
 |isin=>exact F7 R h λk e h=>⟨_,.isin _ _ _ e,H _ _ _ R h⟩
 |notin=>exact F7 R h λk e h=>⟨_,.notin _ _ _ e,H _ _ _ R h⟩
 |is=>exact gn h λk e h=>⟨_,.is _ _ _ ((tL e).ren R.inj),H _ _ _ R h⟩
 |isnot=>exact gn h λk e h=>⟨_,.isnot _ _ _ ((tL e).ren R.inj),H _ _ _ R h⟩
theorem He{i:AV}{f:AV->Prop}(R:bu pk B θ s J)(h:Dl a i s f)(k:∀v,f v->f' (ren θ v)):yb J f' (ren θ a) (ren θ i):=by
 cases a with
 |tup vs=>exact gX (C:=λi=>yb J f' (.tup (aD θ vs)) (ren θ i)) h λn h=>qY h λv e h=>⟨_,.tup _ n _ e,k _ h⟩
 |str x=>exact gX (C:=λi=>yb J f' (.str x) (ren θ i)) h λn h=>tY h λv e h=>⟨_,.txt x n v e,k _ h⟩
 |flist vs=>exact gX (C:=λi=>yb J f' (.flist (aD θ vs)) (ren θ i)) h λn h=>qY h λv e h=>⟨_,.lst (.flist (aD θ vs)) _ n _ rfl e,k _ h⟩
 |obj j=>
  refine vh R h λo eo h=>?_;cases o with
  |list vs=>exact gX (C:=λi=>yb J f' (.obj (θ j)) (ren θ i)) h λn h=>qY h λv e h=>⟨_,.lst (.obj (θ j)) _ n _ (Cm eo) e,k _ h⟩
  |dict es=>exact bq (C:=λi=>yb J f' (.obj (θ j)) (ren θ i)) h λx h=>gn h λv e h=>⟨_,.dict (θ j) _ x _ eo ((Ap x es).trans (PK _ (Am x es▸e))),k _ h⟩
  |_=>exact h.elim
 |_=>exact h.elim
theorem vj{x:Option α}{A:Prop}(h:Option.rec A (λu=>False) x)(g:x=QE->A->C):C:=by
 cases x with
 |none=>exact g rfl h
 |some=>exact h.elim
theorem DD{f:AV->Prop}(R:bu pk B θ s J)(h:FD a n s f)(k:∀v,f v->f' (ren θ v)):F5 J f' n (ren θ a):=by
 refine fq (C:=λa=>F5 J f' n (ren θ a)) h λj h=>pV R h λc fs e h=>vj h λem h=>?_;rw[ku] at h;cases q:aR n fs with
 |none=>rw[q] at h;exact gn h λv ev h=>b7 h λec h=>⟨v,.cls (θ j) c _ n v e em ((iU n fs).trans (PK _ q)) ev,bw (θ:=θ) v ec▸k _ h⟩
 |some v=>rw[q] at h;exact⟨_,.own (θ j) c _ n _ e em ((iU n fs).trans (PK _ q)),k _ h⟩
theorem tZ(l:List (Nat×AV)):(nO θ l).length=l.length:=P9 ..
theorem t4(l:List (List Nat×AV)):(iT θ l).length=l.length:=P9 ..
theorem DE{f:GS->Prop}(R:bu pk B θ s J)(h:FE pk a n v s f)(g:∀s1 J1,jS J (ren θ v) (ren θ a) n J1->bu pk B θ s1 J1->f s1->C):C:=by refine fq (C:=λa=>(∀s1 J1,jS J (ren θ v) (ren θ a) n J1->bu pk B θ s1 J1->f s1->C)->C) h (λk h g=>pV R h λc fs e h=>vj h λem h=>b7 h λel h=>?_) g;rw[aq, <-tZ (θ:=θ)] at el;rw[tJ] at h;exact pW R e h λs1 R1 h=>g _ _ (.mk (θ k) c _ n e em (OJ el)) (tO (θ:=θ) n v fs▸R1) h
theorem DF{i:AV}{f:GS->Prop}(R:bu pk B θ s J)(h:FG pk a i v s f)(g:∀s1 J1,oB J (ren θ v) (ren θ a) (ren θ i) J1->bu pk B θ s1 J1->f s1->C):C:=by
 refine fq (C:=λa=>(∀s1 J1,oB J (ren θ v) (ren θ a) (ren θ i) J1->bu pk B θ s1 J1->f s1->C)->C) h (λk h g=>vh R h λo e h=>?_) g;cases o with
 |list vs=>refine gX (C:=λi=>(∀s1 J1,oB J (ren θ v) (.obj (θ k)) (ren θ i) J1->bu pk B θ s1 J1->f s1->C)->C) h (λn h g=>b7 h λel h=>?_) g;rw[aq, <-ce (θ:=θ)] at el;rw[fT] at h;exact pW R e h λs1 R1 h=>g _ _ (.lst (θ k) n _ e (OJ el)) (Ao (θ:=θ) vs n v▸R1) h
 |dict es=>refine bq (C:=λi=>(∀s1 J1,oB J (ren θ v) (.obj (θ k)) (ren θ i) J1->bu pk B θ s1 J1->f s1->C)->C) h (λx h g=>b7 h λel h=>?_) g;rw[aq, <-t4 (θ:=θ)] at el;rw[tH] at h;exact pW R e h λs1 R1 h=>g _ _ (.dict (θ k) _ x e (OJ el)) (tQ (θ:=θ) x v es▸R1) h
 |_=>exact h.elim
theorem Hf{f:Bf}(R:bu pk B θ s J)(H:mo pk B θ K K')(h:Nk f args s K):L7 J K' f (aD θ args):=by
 cases args with
 |nil=>cases f with
  |set0=>exact⟨_,_,.set0,hJ R H h⟩
  |_=>exact h.elim
 |cons v r=>
  refine jq (C:=λr=>L7 J K' f (aD θ (v::r))) h λh=>?_;have HL:∀(x:List AV) {n:Nat},n=x.length->K (.int (.ofNat (ao x))) s->K' (.int n) J:=λx n e h=>by rw[aq, <-e] at h;exact H _ _ _ R h
  cases f with
  |len=>cases v with
   |str x=>exact⟨_,_,.lenS x,aq x▸H _ _ _ R h⟩
   |tup x=>exact⟨_,_,.lenT _,HL x (ce x) h⟩
   |flist x=>exact⟨_,_,.lenL (.flist (aD θ x)) _ rfl,HL x (ce x) h⟩
   |obj k=>
    refine vh R h λo e h=>?_;cases o with
    |list x=>exact⟨_,_,.lenL (.obj (θ k)) _ (Cm e),HL x (ce x) h⟩
    |sset x=>exact⟨_,_,.lenM (θ k) x e,aq x▸H _ _ _ R h⟩
    |_=>exact h.elim
   |_=>exact h.elim
  |str=>cases v with
   |bool b=>exact⟨_,_,.strB b,by cases b<;>exact H _ _ _ R h⟩
   |int i=>exact b7 h λe h=>⟨_,_,.strI i (vi e),H _ _ _ R h⟩
   |str x=>exact⟨_,_,.strS x,H _ _ _ R h⟩
   |_=>exact h.elim
  |int=>exact bq (C:=λv=>L7 J K' .int [ren θ v]) h λx h=>b7 h λe h=>b7 h λe1 h=>b7 h λe2 h=>⟨_,_,.intS x e (λz=>by cases z;exact ff e1) (aq x▸OJ e2),H _ _ _ R h⟩
  |setOf=>exact gw R h λvs e h=>qX (θ:=θ) h λss e1 h=>b7 h λe2 h=>⟨_,_,.setOf _ _ ss e e1 (aq ss▸OJ e2),xX ss []▸hJ R H h⟩
  |listOf=>exact gw R h λvs e h=>⟨_,_,.listOf _ _ e,hJ R H h⟩
  |tupleOf=>exact gw R h λvs e h=>⟨_,_,.tupleOf _ _ e,H _ _ _ R h⟩
  |_=>exact h.elim
theorem AF{m:Bm}{k:Prop}(R:bu pk B θ s J)(h:JE m a s k):o4 J m (ren θ a)/\k:=by
 cases m with
 |append=>exact fq (C:=λa=>o4 J .append (ren θ a)/\k) h λj h=>il R h λvs e h=>⟨.append (θ j) _ e,h⟩
 |index=>exact fq (C:=λa=>o4 J .index (ren θ a)/\k) h λj h=>il R h λvs e h=>⟨.index (θ j) _ e,h⟩
 |join=>exact bq (C:=λa=>o4 J .join (ren θ a)/\k) h λx h=>⟨.join x,h⟩
 |lower=>exact bq (C:=λa=>o4 J .lower (ren θ a)/\k) h λx h=>⟨.lower x,h⟩
 |isascii=>exact bq (C:=λa=>o4 J .isascii (ren θ a)/\k) h λx h=>⟨.isascii x,h⟩
 |isalnum=>exact bq (C:=λa=>o4 J .isalnum (ren θ a)/\k) h λx h=>⟨.isalnum x,h⟩
 |isalpha=>exact bq (C:=λa=>o4 J .isalpha (ren θ a)/\k) h λx h=>⟨.isalpha x,h⟩
 |isdigit=>exact bq (C:=λa=>o4 J .isdigit (ren θ a)/\k) h λx h=>⟨.isdigit x,h⟩
theorem Hg{m:Bm}(R:bu pk B θ s J)(H:mo pk B θ K K')(h:Nl pk m a args s K):rR J K' m (aD θ args) (ren θ a):=by
 cases m with
 |append=>refine AB (C:=λl=>rR J K' .append (aD θ l) (ren θ a)) h λv h=>fq (C:=λa=>rR J K' .append [ren θ v] (ren θ a)) h λk h=>il R h λvs e h=>b7 h λel h=>?_;rw[aq, <-ce (θ:=θ)] at el;rw[ae] at h;exact pW R e h λs1 R1 h=>⟨_,_,.append (θ k) _ _ e (OJ el),H _ _ _ (gu (θ:=θ) vs [v]▸R1) h⟩
 |index=>exact AB (C:=λl=>rR J K' .index (aD θ l) (ren θ a)) h λv h=>bq (C:=λv=>rR J K' .index [ren θ v] (ren θ a)) h λx h=>fq (C:=λa=>rR J K' .index [.str x] (ren θ a)) h λk h=>il R h λvs e h=>qX (θ:=θ) h λss e1 h=>gn h λn e2 h=>⟨_,_,.index (θ k) _ ss x n e e1 (xY x ss▸e2),H _ _ _ R h⟩
 |join=>exact AB (C:=λl=>rR J K' .join (aD θ l) (ren θ a)) h λv h=>bq (C:=λa=>rR J K' .join [ren θ v] (ren θ a)) h λsep h=>gw R h λvs e h=>qX (θ:=θ) h λss e1 h=>b7 h λel h=>⟨_,_,.join sep _ _ ss e e1 (OJ el),An sep ss▸H _ _ _ R h⟩
 |lower=>
  refine jq (C:=λl=>rR J K' .lower (aD θ l) (ren θ a)) h λh=>bq (C:=λa=>rR J K' .lower [] (ren θ a)) h λx h=>?_;rw[Al,Al] at h;split at h
  ·rename_i e;exact e▸⟨_,_,.lowT,H _ _ _ R h⟩
  ·split at h
   ·rename_i e;exact e▸⟨_,_,.lowF,H _ _ _ R h⟩
   ·exact h.elim
 |isascii=>exact jq (C:=λl=>rR J K' .isascii (aD θ l) (ren θ a)) h λh=>bq (C:=λa=>rR J K' .isascii [] (ren θ a)) h λx h=>⟨_,_,.isascii x,H _ _ _ R h⟩
 |isalnum=>exact jq (C:=λl=>rR J K' .isalnum (aD θ l) (ren θ a)) h λh=>bq (C:=λa=>rR J K' .isalnum [] (ren θ a)) h λx h=>b7 h λe h=>⟨_,_,.isalnum x e,H _ _ _ R h⟩
 |isalpha=>exact jq (C:=λl=>rR J K' .isalpha (aD θ l) (ren θ a)) h λh=>bq (C:=λa=>rR J K' .isalpha [] (ren θ a)) h λx h=>b7 h λe h=>⟨_,_,.isalpha x e,H _ _ _ R h⟩
 |isdigit=>exact jq (C:=λl=>rR J K' .isdigit (aD θ l) (ren θ a)) h λh=>bq (C:=λa=>rR J K' .isdigit [] (ren θ a)) h λx h=>b7 h λe h=>⟨_,_,.isdigit x e,H _ _ _ R h⟩
theorem Hh{t:Ty}{f:Bool->Prop}(R:bu pk B θ s J)(h:JF a t s f):∃b,jx J (ren θ a) t b/\f b:=by
 cases a with
 |obj k=>
  exact pV R h λc fs e h=>by
   cases t with
   |own d=>exact⟨_,.oo (θ k) c _ d e,Ak c d▸h⟩
   |int=>exact⟨_,.oi (θ k) c _ e,h⟩
   |_=>exact h.elim
 |none=>cases t with
  |own d=>exact⟨_,.no d,h⟩
  |int=>exact⟨_,.ni,h⟩
  |_=>exact h.elim
 |bool b=>cases t with
  |own d=>exact⟨_,.bo b d,h⟩
  |_=>exact h.elim
 |int i=>cases t with
  |own d=>exact⟨_,.io i d,h⟩
  |int=>exact⟨_,.ii i,h⟩
  |_=>exact h.elim
 |_=>exact h.elim
theorem J0{t:Ty}{f:Bool->Prop}(R:bu pk B θ s J)(h:Nn a t s f):∃b,xk J (ren θ a) t b/\f b:=by
 cases t with
 |int=>cases a with
  |int i=>exact⟨_,.ii i,h⟩
  |bool b=>exact⟨_,.bi b,h⟩
  |none=>exact⟨_,.ni,h⟩
  |str x=>exact⟨_,.si x,h⟩
  |obj k=>exact pV R h λc fs e h=>⟨_,.oi (θ k) c _ e,h⟩
  |_=>exact h.elim
 |tuple=>exact ve (C:=λa=>∃b,xk J (ren θ a) .tuple b/\f b) h λvs h=>⟨_,.tt _,h⟩
 |list=>exact qW R h λvs e h=>⟨_,.ll _ _ e,h⟩
 |_=>exact h.elim
def DG(θ:Nat->Nat):Src->Src
 |.fixed vs=>.fixed (aD θ vs)
 |.lst k=>.lst (θ k)
 |.rng n=>.rng n
theorem AG{f f':Src->Prop}(R:bu pk B θ s J)(h:G8 s v f)(k:∀c,f c->f' (DG θ c)):cC (o8 J (ren θ v)) f':=by
 cases v with
 |tup vs=>exact k _ h
 |obj j=>refine il R h λvs e h=>?_;show cC ((fL J (θ j)).map _) f';rw[jQ e];exact k _ h
 |_=>exact h.elim
theorem wA{src:Src}{f f':Option AV->Prop}(R:bu pk B θ s J)(h:Ab s i src f)(k:∀o,f o->f' (Hc θ o)):cC (ot J i (DG θ src)) f':=by
 cases src with
 |fixed vs=>have h:f (be vs i):=h;rw[cA] at h;show f' _;rw[kx];exact k _ h
 |lst j=>refine il R h λvs e h=>?_;show cC ((fL J (θ j)).map _) f';rw[cA] at h;rw[jQ e];show f' (aD θ vs)[i]?;rw[kx];exact k _ h
 |rng=>exact h.elim
end
section
variable(pk:Bool)(B:Hp)(θ:Nat->Nat)(F:GC)(F':Call)
abbrev DH(X:GX)(X':KE):Prop:=∀e s J,bu pk B θ s J->X e s->X' (gq θ e) J
abbrev NA(K:List AV->GS->Prop)(K':KL):Prop:=∀v s J,bu pk B θ s J->K v s->K' (aD θ v) J
abbrev AH:Prop:=∀f args s J K X K' X',bu pk B θ s J->F f args s K X->mo pk B θ K K'->DH pk B θ X X'->F' f (aD θ args) J K' X'
abbrev SG(p:PE):Prop:=∀U U' s J K X K' X',LR θ U U'->bu pk B θ s J->gE pk F p U s K X->mo pk B θ K K'->DH pk B θ X X'->cR F' p U' J K' X'
abbrev Ok(es:List PE):Prop:=∀U U' s J K X K' X',LR θ U U'->bu pk B θ s J->(LZ pk F es).1 U s K X->NA pk B θ K K'->DH pk B θ X X'->jj F' es U' J K' X'
abbrev Ol(w:Bool)(es:List PE):Prop:=∀U U' s J K X K' X',LR θ U U'->bu pk B θ s J->(LZ pk F es).2 w U s K X->mo pk B θ K K'->DH pk B θ X X'->IJ F' w es U' J K' X'
end
section
variable{pk:Bool}{B:Hp}{θ:Nat->Nat}{F:GC}{F':Call}{s:GS}{J:Hp}{C:Prop}{K:GK}{K':KV}{X:GX}{X':KE}{U U':Loc}
theorem lG{f:AV->Prop}(Y:LR θ U U')(h:oT (be U i) λo=>oT o f)(g:∀v,f v->f' (ren θ v)):cL U' i f':=by refine tY h λo e h=>gn h λv e' h=>?_;subst e';show(match U'[i]? with|some (QA v)=>f' v|_=>False);exact(Y.get e).symm▸(g _ h)
theorem AI{f:AV->Prop}(Y:LR θ U U')(h:vd U i f)(g:∀v,f v->f' (ren θ v)):cL U' i λv=>bF v=QI/\f' v:=
 lG Y h λv h=>b7 h λe h=>⟨(Dy v).trans e,g v h⟩
theorem kz{f:Nat->Nat->List (Nat×AV)->Prop}(e:J[k]?=QA (.inst c fs))(h:f k c fs):vT J (.obj k) f:=by exact⟨k,c,fs,rfl,e,h⟩
theorem DI{f:Prop}(e:J[k]?=QA (.dict []))(h:f):uB J k f:=by exact⟨e,h⟩
theorem cY{o:Option α}{a:α}{f:α->Prop}(e:o=QA a)(h:f a):cC o f:=by exact e.symm▸h
theorem nP{x y x' y':Prop}(h:cond b x y)(hx:x->x')(hy:y->y'):cM b x' y':=by
 cases b with
 |true=>exact hx h
 |false=>exact hy h
theorem kA{f f':Bool->Prop}(R:bu pk B θ s J)(h:lF s v f)(g:∀b,f b->f' b):cC (truthy J (ren θ v)) f':=AA R h λb e h=>cY e (g b h)
theorem t5{step:AV->GS->GK->GX->Prop}{step':AV->Hp->KV->KE->Prop}(H:∀x s J K X K' X',bu pk B θ s J->step x s K X->mo pk B θ K K'->DH pk B θ X X'->step' (ren θ x) J K' X')(src:Src){K:List AV->GS->Prop}{K':KL}
  (k:NA pk B θ K K') (x:DH pk B θ X X'):∀(n i:Nat) (acc:List AV) (s:GS) (J:Hp),bu pk B θ s J->FH step src X K n i acc s->o9 step' (DG θ src) X' K' n i (aD θ acc) J
 |0,_,_,_,_,_,h=>h
 |n+1,i,acc,s,J,R,h=>by
  refine wA R h λo h=>?_;cases o with
  |none=>exact k _ _ _ R h
  |some v=>exact H _ _ _ _ _ _ _ R h (λy s J R h=>gu (θ:=θ) acc [y]▸t5 H src k x n (i+1) _ s J R (ae acc [y]▸h)) x
theorem vk{e:PE}{d:α}{k:Nat->α}{x:α}{C:PE->Prop}(h:Do e d k=x)(hd:d=x->C e)(g:∀x0,k x0=x->C (.v x0)):C e:=
 PE.vw_e h hd (λa q h=>q▸g a h) (λu u=>hd) (λu u u u=>hd) (λu u u u=>hd) (λu u u=>hd) λu u u u=>hd
theorem nQ{e:PE}{d:α}{k:AV->α}{x:α}{C:PE->Prop}(h:qR e d k=x)(hd:d=x->C e)(g:∀x0,k x0=x->C (.c x0)):C e:=
 PE.vw_e h hd (λu u=>hd) (λa q h=>q▸g a h) (λu u u u=>hd) (λu u u u=>hd) (λu u u=>hd) λu u u u=>hd
theorem Hi{e:PE}{d:α}{k:Bop->PE->PE->α}{x:α}{C:PE->Prop}(h:JG e d k=x)(hd:d=x->C e)(g:∀x0 x1 x2,k x0 x1 x2=x->C (.b x0 x1 x2)):C e:=
 PE.vw_e h hd (λu u=>hd) (λu u=>hd) (λa b c q h=>q▸g a b c h) (λu u u u=>hd) (λu u u=>hd) λu u u u=>hd
theorem Hj{e:PE}{d:α}{k:oz->PE->PE->α}{x:α}{C:PE->Prop}(h:JH e d k=x)(hd:d=x->C e)(g:∀x0 x1 x2,k x0 x1 x2=x->C (.p x0 x1 x2)):C e:=
 PE.vw_e h hd (λu u=>hd) (λu u=>hd) (λu u u u=>hd) (λa b c q h=>q▸g a b c h) (λu u u=>hd) λu u u u=>hd
theorem mH{e:PE}{d:α}{k:PE->Nat->α}{x:α}{C:PE->Prop}(h:tw e d k=x)(hd:d=x->C e)(g:∀x0 x1,k x0 x1=x->C (.attr x0 x1)):C e:=
 PE.vw_e h hd (λu u=>hd) (λu u=>hd) (λu u u u=>hd) (λu u u u=>hd) (λa b q h=>q▸g a b h) λu u u u=>hd
theorem vl{e:AV}{d:α}{k:Int->α}{x:α}{C:AV->Prop}(h:Ac e d k=x)(hd:d=x->C e)(g:∀x0,k x0=x->C (.int x0)):C e:=
 AV.casesOn (motive_1:=λe=>Ac e d k=x->(d=x->C e)->C e) e (λh hd=>hd h) (λu h hd=>hd h) (λa h u=>g a h) (λu h hd=>hd h) (λu h hd=>hd h) (λu h hd=>hd h) (λu h hd=>hd h) (λu u h hd=>hd h) (λh hd=>hd h) h hd
theorem jc{o:Option α}{x:α}(h:cond b o QE=QA x):b=QI/\o=QA x:=by
 cases b with
 |true=>exact⟨rfl,h⟩
 |false=>exact nn h
theorem jr{a:Bool}(h:and a b=QI):a=QI/\b=QI:=OD.mp h
theorem F8{v f:Nat}{w:PE}(h:LY v w f=QI): .attr w f=PE.attr (.v v) 1:=vk (C:=λw=>.attr w f=PE.attr (.v v) 1) h ff λw h=>by exact(OW (jr h).1)▸(OW (jr h).2)▸rfl
theorem DJ{v d:Nat}{i:PE}(h:nN v i=QA d):i=pT v d/\d<3:=by
 refine mH (C:=λi=>i=pT v d/\d<3) h (λh=>Hi (C:=λi=>i=pT v d/\d<3) h nn λop l r h=>mH (C:=λl=>.b op l r=pT v d/\d<3) h nn λw f h=>nQ (C:=λr=>.b op (.attr w f) r=pT v d/\d<3) h nn λc h=>vl (C:=λc=>.b op (.attr w f) (.c c)=pT v d/\d<3) h nn λn h=>?_) λw f h=>?_
 ·have q:=jc h
  ((refine(F8 (jr q.1).2).symm▸?_;refine(Pl (jr q.1).1).symm▸?_))
  have q:=q.2;cases op with
  |add=>cases OO q;exact⟨rfl,by decide⟩
  |sub=>cases OO q;exact⟨rfl,by decide⟩
  |_=>exact nn q
 ·have q:=jc h
  (refine(F8 q.1).symm▸?_)
  cases OO q.2;exact⟨rfl,by decide⟩
theorem DK{e i:PE}{p:Nat×Nat}(h:tz e i=QA p):e=.attr (.v p.1) 0/\nN p.1 i=QA p.2:=by
 refine mH (C:=λe=>e=.attr (.v p.1) 0/\nN p.1 i=QA p.2) h nn λe f h=>vk (C:=λe=>.attr e f=PE.attr (.v p.1) 0/\nN p.1 i=QA p.2) h nn λv h=>?_;have q:=jc h;have h:(Option.rec QE (λd=>QA (v,d)) (nN v i):Option (Nat×Nat))=QA p:=q.2
 (refine(OW q.1).symm▸?_)
 cases z:nN v i with
 |none=>rw[z] at h;exact nn h
 |some d=>rw[z] at h;cases OO h;exact⟨rfl,z⟩
theorem J1{f:AV->Prop}(Y:LR θ U U')(h:vd U i λv=>iQ v λk=>bt (Nat.beq k 1) (f (.obj k)))(g:f (.obj 1)->f' (.obj (θ 1))):cL U' i λv=>bF v=QI/\f' v:=by refine AI Y h λv h=>fq (C:=λv=>f' (ren θ v)) h λk h=>b7 h λe h=>?_;cases OW e;exact g h
theorem AJ{e i:PE}{p:Nat×Nat}(Y:LR θ U U')(hp:pk=QI)(q:tz e i=QA p)(R:bu pk B θ s J)(k:mo pk B θ K K')(h:vd U p.1 λv=>iQ v λk=>bt (Nat.beq k 1) (tE p.2 s λv=>K v s)):cR F' (.sub e i) U' J K' X':=by
 obtain⟨v,d⟩:=p;refine yK (R.tk hp) λc fs n ts T=>?_;refine bj (DK q) λer0 q2=>?_;subst er0;have A0:∀f,Pg.meth c f=QE->∀w,aR f fs=QA w->iy J (.obj (θ 1)) f w:=λf m w e=>.own (θ 1) c fs f w T.ob m e;have hdr:∀j x,s.tk[j]?=QA x->ts[n+j]?=QA (ren θ x):=λj x e=>by((refine(PZ ..)▸?_;refine(T.dr ..).symm▸?_;refine(kx ..).symm▸?_;refine e.symm▸?_));rfl
 have go:∀{C:AV->Prop},(tE d s (λv=>K v s)->C (.obj (θ 1)))->cL U' v λw=>bF w=QI/\C w:=λ{C} g=>J1 Y (f:=λu=>tE d s λv=>K v s) (f':=C) h g;refine bj (DJ q2) λer0 hd=>?_;subst er0
 match d,hd with
 |0,_=>exact go λh=>⟨.obj (θ 0),A0 0 T.m0 _ T.ft,go λu=>⟨.int n,A0 1 T.m1 _ T.fi,tY h λx e h=>⟨_,.lst (.obj (θ 0)) ts n _ (Cm T.ls) (hdr 0 x e),k _ _ _ R h⟩⟩⟩
 |1,_=>exact go λh=>⟨.obj (θ 0),A0 0 T.m0 _ T.ft,go λu=>⟨.int n,A0 1 T.m1 _ T.fi,_,_,.addI _ _,tY h λx e h=>⟨_,.lst (.obj (θ 0)) ts (n+1) _ (Cm T.ls) (hdr 1 x e),k _ _ _ R h⟩⟩⟩
 |2,_=>
  refine go λh=>⟨.obj (θ 0),A0 0 T.m0 _ T.ft,go λu=>⟨.int n,A0 1 T.m1 _ T.fi,_,_,.subI _ _,gn h λx e h=>?_⟩⟩;refine ak (T.pr x e) λm er1 em=>?_;subst er1;have z:((m+1:Nat):Int) - 1=(m:Int):=by lia
  exact z.symm▸(⟨_,.lst (.obj (θ 0)) ts m _ (Cm T.ls) em,k _ _ _ R h⟩)
theorem eO(H:AH pk B θ F F')(p:PE):SG pk B θ F F' p:=by
 refine PE.rec (motive_1:=SG pk B θ F F') (motive_2:=λes=>Ok pk B θ F F' es/\∀w,Ol pk B θ F F' w es) (motive_3:=λo=>∀e,o=QA e->SG pk B θ F F' e)
  ?_ ?_ ?_ ?_ ?_ ?_ ?_ ?_ ?_ ?_ ?_ ?_ ?_ ?_ ?_ ?_ ?_ ?_ ?_ ?_ ?_ ?_ ?_ ?_ ?_ ?_ ?_ ?_ ?_ p
 ·exact λi U U' s J K X K' X' Y R h k u=>AI Y h λv h=>k _ _ _ R h
 ·exact λg U U' s J K X K' X' Y R h k u=>gn h λv e h=>b7 h λq h=>cY e (bw (θ:=θ) v q▸k _ _ _ R h)
 ·exact λc U U' s J K X K' X' Y R h k u=>b7 h λq h=>bw (θ:=θ) c q▸k _ _ _ R h
 ·exact λes ih U U' s J K X K' X' Y R h k x=>ih.1 U U' s J (λvs s=>K (.tup vs) s) X _ X' Y R h (λv s J R h=>k _ _ _ R h) x
 ·exact λes ih U U' s J K X K' X' Y R h k x=>ih.1 U U' s J _ X _ X' Y R h (λv s J R h=>hJ R k h) x
 ·refine λks es ih U U' s J K X K' X' Y R h k x=>ih.1 U U' _ _ _ X _ X' Y (R.new (.dict [])) h (λvs s2 J2 R2 h=>?_) x;have e0:θ s.nx=J.length:=R.nx 0
  (refine e0▸?_)
  exact F6 R2 h λl e h=>jq (C:=λl=>J2[θ s.nx]?=QA (.dict (iT θ l))->_) h (λh e=>pW R2 e h λs3 R3 h=>DI e (k _ _ _ (Aq (θ:=θ) ks vs▸R3) h)) e
 ·exact λop l r hl hr U U' s J K X K' X' Y R h k x=>hl U U' s J _ X _ X' Y R h (λa s J R h=>hr U U' s J _ X _ X' Y R h (λb s J R h=>DA R k h) x) x
 ·exact λop l r hl hr U U' s J K X K' X' Y R h k x=>hl U U' s J _ X _ X' Y R h (λa s J R h=>hr U U' s J _ X _ X' Y R h (λb s J R h=>DC R k h) x) x
 ·exact λes ih U U' s J K X K' X' Y R h k x=>ih.2 QI U U' s J K X K' X' Y R h k x
 ·exact λes ih U U' s J K X K' X' Y R h k x=>ih.2 QK U U' s J K X K' X' Y R h k x
 ·exact λe ih U U' s J K X K' X' Y R h k x=>ih U U' s J _ X _ X' Y R h (λa s J R h=>kA R h λb h=>k _ _ _ R h) x
 ·exact λt a b ht ha hb U U' s J K X K' X' Y R h k x=>ht U U' s J _ X _ X' Y R h (λv s J R h=>kA R h λc h=>nP h (λh=>ha U U' s J K X K' X' Y R h k x) λh=>hb U U' s J K X K' X' Y R h k x) x
 ·intro e i he hi U U' s J K X K' X' Y R h k x;have V:gE pk F e U s (λa s=>gE pk F i U s (λb s=>Dl a b s λv=>K v s) X) X->cR F' (.sub e i) U' J K' X':=
   λh=>he U U' s J _ X _ X' Y R h (λa s J R h=>hi U U' s J _ X _ X' Y R h (λb s J R h=>He R h λv h=>k _ _ _ R h) x) x
  have h:Option.rec (gE pk F e U s (λa s=>gE pk F i U s (λb s=>Dl a b s λv=>K v s) X) X) (λp=>vd U p.1 λv=>iQ v λk=>bt (Nat.beq k 1) (tE p.2 s λv=>K v s)) (cond pk (tz e i) QE):=h;cases hp:pk with
  |false=>subst hp;exact V h
  |true=>
   subst hp;cases q:tz e i with
   |none=>rw[q] at h;exact V h
   |some p=>rw[q] at h;exact AJ Y rfl q R k h
 ·intro e lo hi he hlo hhi U U' s J K X K' X' Y R h k x;cases lo with
  |none=>cases hi with
   |none=>exact he U U' s J _ X _ X' Y R h (λa s J R h=>bq (C:=λa=>∃v,fW (ren θ a) .none .none v/\K' v J) h λu h=>h.elim) x
   |some j=>exact he U U' s J _ X _ X' Y R h (λa s J R h=>hhi j rfl U U' s J _ X _ X' Y R h (λb s J R h=>bq (C:=λa=>∃v,fW (ren θ a) .none (ren θ b) v/\K' v J) h λu h=>h.elim) x) x
  |some i=>cases hi with
   |none=>exact he U U' s J _ X _ X' Y R h (λa s J R h=>hlo i rfl U U' s J _ X _ X' Y R h (λb s J R h=>bq (C:=λa=>∃v,fW (ren θ a) (ren θ b) .none v/\K' v J) h λx h=>gX (C:=λb=>∃v,fW (.str x) (ren θ b) .none v/\K' v J) h λu h=>h.elim) x) x
   |some j=>exact he U U' s J _ X _ X' Y R h (λa s J R h=>hlo i rfl U U' s J _ X _ X' Y R h (λb s J R h=>hhi j rfl U U' s J _ X _ X' Y R h (λc s J R h=>bq (C:=λa=>∃v,fW (ren θ a) (ren θ b) (ren θ c) v/\K' v J) h λx h=>gX (C:=λb=>∃v,fW (.str x) (ren θ b) (ren θ c) v/\K' v J) h λi h=>gX (C:=λc=>∃v,fW (.str x) (.int i) (ren θ c) v/\K' v J) h λj h=>⟨_,.txt x i j,k _ _ _ R h⟩) x) x) x
 ·exact λe f he U U' s J K X K' X' Y R h k x=>he U U' s J _ X _ X' Y R h (λa s J R h=>DD R h λv h=>k _ _ _ R h) x
 ·exact λf es ih U U' s J K X K' X' Y R h k x=>ih.1 U U' s J _ X _ X' Y R h (λvs s J R h=>H f vs s J K X K' X' R h k x) x
 ·intro c es ih U U' s J K X K' X' Y R h k x;refine ih.1 U U' s J _ X _ X' Y R h (λvs s J R h=>?_) x;have h:Option.rec (bt (cq vs) (K (.obj s.nx) ⟨iP (.inst c []) 30 s.t s.nx,Nat.succ s.nx,s.tk,s.pv,s.od,s.ob⟩)) (λf=>F f (.obj s.nx::vs) ⟨iP (.inst c []) 30 s.t s.nx,Nat.succ s.nx,s.tk,s.pv,s.od,s.ob⟩ (λr s'=>match r with|.none=>K (.obj s.nx) s'|_=>False) X) (Pg.init c):=h;show match Pg.init c with
   |none=>aD θ vs=[]/\K' (.obj J.length) (J++[.inst c []])
   |some f=>F' f (.obj J.length::aD θ vs) (J++[.inst c []]) (λr J'=>Fm r (K' (.obj J.length) J')) X'
  have e0:θ s.nx=J.length:=R.nx 0
  (refine e0▸?_)
  cases e:Pg.init c with
  |none=>rw[e] at h;exact jq (C:=λvs=>aD θ vs=[]/\K' (.obj (θ s.nx)) (J++[az.inst c []])) h λh=>⟨rfl,k _ _ _ (R.new (.inst c [])) h⟩
  |some f=>
   rw[e] at h;refine H f (.obj s.nx::vs) _ _ _ X _ X' (R.new (.inst c [])) h (λv s2 J2 R2 h=>?_) x;cases v with
   |none=>exact k _ _ _ R2 h
   |_=>exact h.elim
 ·intro e m es he ih U U' s J K X K' X' Y R h k x;refine he U U' s J _ X _ X' Y R h (λa s J R h=>?_) x;cases a with
  |obj j=>exact pV R h λc fs e h=>gn h λf em h=>vj h λen h=>kz e (cY em ⟨(iU m fs).trans (PK (Option.map (ren θ)) ((ku m fs).symm.trans en)),ih.1 U U' s J _ X _ X' Y R h (λvs s J R h=>H f (.obj j::vs) s J K X K' X' R h k x) x⟩)
  |_=>exact h.elim
 ·exact λf es ih U U' s J K X K' X' Y R h k x=>ih.1 U U' s J _ X _ X' Y R h (λvs s J R h=>Hf R k h) x
 ·exact λm e es he ih U U' s J K X K' X' Y R h k x=>he U U' s J _ X _ X' Y R h (λa s J R h=>⟨(AF R h).1,ih.1 U U' s J _ X _ X' Y R (AF R h).2 (λvs s J R h=>Hg R k h) x⟩) x
 ·exact λe t he U U' s J K X K' X' Y R h k x=>he U U' s J _ X _ X' Y R h (λa s J R h=>Hh R h |>.elim λv h=>⟨v,h.1,k _ _ _ R h.2⟩) x
 ·exact λe t neg he U U' s J K X K' X' Y R h k x=>he U U' s J _ X _ X' Y R h (λa s J R h=>J0 R h |>.elim λv h=>⟨v,h.1,k _ _ _ R h.2⟩) x
 ·intro i t es ih U U' s J K X K' X' Y R h k x;exact lG Y h λw h=>Du (C:=λw=>yM (ren θ w) _) h λh=>lG Y h λv h=>bq (C:=λv=>yN (ren θ v) _) h λy h=>ih.1 U U' s J _ X _ X' Y R h (λvs s J R h=>H Pg.QC (.str y::vs) s J K X K' X' R h k x) x
 ·refine λi f U U' s J K X K' X' Y R h k x=>lG Y h λv h=>?_;cases v with
  |exc c fs=>exact gn h λj e h=>cY e (qY h λv e h=>cY e (k _ _ _ R h))
  |_=>exact h.elim
 ·intro el v it he hi U U' s J K X K' X' Y R h k x;refine hi U U' s J _ X _ X' Y R h (λa s J R h=>AG R h λsrc h=>?_) x;exact t5 (step':=λx J K Er=>cR F' el (U'.set v (QA x)) J K Er) (λy s J K X K' X' R h k x=>he _ _ s J K X K' X' (Y.set (.ren (QA y)) v) R (fT U v (QA y)▸h) k x) src (λvs s J R h=>b7 h λe h=>⟨(ce (θ:=θ) vs).trans (aq vs).symm▸OJ e,hJ R k h⟩) x N 0 [] s J R h
 ·exact⟨λU U' s J K X K' X' Y R h k u=>k _ _ _ R h,λw=>by cases w<;>exact λU U' s J K X K' X' Y R h k u=>h.elim⟩
 ·refine λe es he ih=>⟨λU U' s J K X K' X' Y R h k x=>he U U' s J _ X _ X' Y R h (λv s J R h=>ih.1 U U' s J (λvs s=>K (v::vs) s) X _ X' Y R h (λvs s J R h=>k _ _ _ R h) x) x,λw=>?_⟩;cases es with
  |nil=>cases w<;>exact λU U' s J K X K' X' Y R h k x=>he U U' s J K X K' X' Y R h k x
  |cons e2 es=>cases w with
   |true=>exact λU U' s J K X K' X' Y R h k x=>he U U' s J _ X _ X' Y R h (λv s J R h=>kA R h λb h=>nP h (λh=>ih.2 QI U U' s J K X K' X' Y R h k x) λh=>k _ _ _ R h) x
   |false=>exact λU U' s J K X K' X' Y R h k x=>he U U' s J _ X _ X' Y R h (λv s J R h=>kA R h λb h=>nP h (λh=>ih.2 QK U U' s J K X K' X' Y R h k x) λh=>k _ _ _ R h) x
 ·exact λe h=>nomatch h
 ·exact λe he e' q=>by cases q;exact he
end
section
variable{pk:Bool}{B:Hp}{θ:Nat->Nat}{F:GC}{F':Call}{s:GS}{J:Hp}{C:Prop}{U:Loc}
abbrev vm(pk:Bool)(B:Hp)(θ:Nat->Nat)(K:GF)(K':KS):Prop:=∀fl U U' s J,LR θ U U'->bu pk B θ s J->K fl U s->K' (gY θ fl) U' J
abbrev ST(pk:Bool)(B:Hp)(θ:Nat->Nat)(F:GC)(F':Call)(t:PT):Prop:=∀v U U' s J K K',LR θ U U'->bu pk B θ s J->gT pk F t v U s K->vm pk B θ K K'->yO F' t (ren θ v) U' J K'
theorem AK{k:Prop}(e:b=QI)(h:k):bt b k:=by exact e.symm▸h
theorem J2{a b:Nat}(e:a=b):Nat.beq a b=QI:=by exact e.symm▸(Nat.beq_refl b)
theorem F9(H:AH pk B θ F F')(t:PT):ST pk B θ F F' t:=by
 refine PT.rec (motive_1:=ST pk B θ F F') (motive_2:=λts=>∀vs U U' s J K K',LR θ U U'->bu pk B θ s J->gT pk F (.tup ts) (.tup vs) U s K->vm pk B θ K K'->(aD θ vs).length=ts.length/\Cv F' ts (aD θ vs) U' J K') ?_ ?_ ?_ ?_ ?_ ?_ t
 ·exact λi v U U' s J K K' Y R h k=>b7 h λe h=>⟨Y.len.trans (aq U).symm▸OJ e,k .next _ _ _ _ (Y.set (.ren (QA v)) i) R (fT U i (QA v)▸h)⟩
 ·intro ts ih v U U' s J K K' Y R h k;cases v with
  |tup vs=>exact ih vs U U' s J K K' Y R h k
  |_=>exact h.elim
 ·exact λe f v U U' s J K K' Y R h k=>eO H e U U' s J _ _ _ _ Y R h (λa s J R h=>DE R h λs1 J1 e R1 h=>⟨J1,e,k _ _ _ _ _ Y R1 h⟩) λer s J R h=>k _ _ _ _ _ Y R h
 ·exact λe i v U U' s J K K' Y R h k=>eO H e U U' s J _ _ _ _ Y R h (λa s J R h=>eO H i U U' s J _ _ _ _ Y R h (λb s J R h=>DF R h λs1 J1 e R1 h=>⟨J1,e,k _ _ _ _ _ Y R1 h⟩) λer s J R h=>k _ _ _ _ _ Y R h) λer s J R h=>k _ _ _ _ _ Y R h
 ·intro vs U U' s J K K' Y R h k;cases vs with
  |nil=>exact⟨rfl,k _ _ _ _ _ Y R h⟩
  |cons=>exact h.elim
 ·intro t ts ht ih vs U U' s J K K' Y R h k;cases vs with
  |nil=>exact h.elim
  |cons v vs=>
   refine b7 h λe h=>?_;have e:vs.length=ts.length:=by((refine(aq ..)▸?_;refine(aq ..)▸?_));exact Nat.succ.inj (OW e)
   refine⟨PK Nat.succ ((ce (θ:=θ) vs).trans e),ht v U U' s J _ _ Y R h λfl U U' s J Y R h=>?_⟩;cases fl with
   |next=>exact(ih vs U U' s J K K' Y R (AK (J2 ((aq vs).trans (e.trans (aq ts).symm))) h) k).2
   |err er=>exact k _ _ _ _ _ Y R h
   |_=>exact h.elim
theorem cB(H:AH pk B θ F F')(hd:Option aH):AH pk B θ (eA F hd) (bP F' (hd.map (gq θ))):=by
 cases hd with
 |none=>exact H
 |some=>exact λu u u u u u u u u h=>h.elim
theorem wB{again:Loc->GS->Prop}{again':Loc->Hp->Prop}{K:GF}(ha:∀U U' s J,LR θ U U'->bu pk B θ s J->again U s->again' U' J)(k:vm pk B θ K K'):vm pk B θ (Af again K) (lT again' K'):=by
 intro fl U U' s J Y R h;cases fl with
 |next=>exact ha _ _ _ _ Y R h
 |cont=>exact ha _ _ _ _ Y R h
 |brk=>exact k _ _ _ _ _ Y R h
 |ret=>exact k _ _ _ _ _ Y R h
 |err=>exact k _ _ _ _ _ Y R h
abbrev AL(pk:Bool)(B:Hp)(θ:Nat->Nat)(b:Loc->GS->GF->Prop)(b':Loc->Hp->KS->Prop):Prop:=∀U U' s J K K',LR θ U U'->bu pk B θ s J->b U s K->vm pk B θ K K'->b' U' J K'
theorem t6{test:Loc->GS->(Bool->GS->Prop)->GX->Prop}{test':Loc->Hp->(Bool->Hp->Prop)->KE->Prop}{b:Loc->GS->GF->Prop}{b':Loc->Hp->KS->Prop}{K:GF}
  (ht:∀U U' s J K X K' X',LR θ U U'->bu pk B θ s J->test U s K X->(∀v s J,bu pk B θ s J->K v s->K' v J)->DH pk B θ X X'->test' U' J K' X') (hb:AL pk B θ b b') (k:vm pk B θ K K'):∀(n:Nat) (U U':Loc) (s:GS) (J:Hp),LR θ U U'->bu pk B θ s J->Ag test b K n U s->eE test' b' K' n U' J
 |0,_,_,_,_,_,_,h=>h
 |n+1,U,U',s,J,Y,R,h=>ht U U' s J _ _ _ _ Y R h (λc s J R h=>nP h (λh=>hb U U' s J _ _ Y R h (wB (λU U' s J Y R h=>t6 ht hb k n U U' s J Y R h) k)) λh=>k _ _ _ _ _ Y R h) λer s J R h=>k _ _ _ _ _ Y R h
theorem AM{bind:AV->Loc->GS->GF->Prop}{bind':AV->Loc->Hp->KS->Prop}{b:Loc->GS->GF->Prop}{b':Loc->Hp->KS->Prop}{K:GF}(src:Src)
  (ht:∀v,AL pk B θ (bind v) (bind' (ren θ v))) (hb:AL pk B θ b b') (k:vm pk B θ K K'):∀(n i:Nat) (U U':Loc) (s:GS) (J:Hp),LR θ U U'->bu pk B θ s J->JT bind b src K n i U s->qd bind' b' (DG θ src) K' n i U' J
 |0,_,_,_,_,_,_,_,h=>h
 |n+1,i,U,U',s,J,Y,R,h=>by
  refine wA R h λo h=>?_;cases o with
  |none=>exact k _ _ _ _ _ Y R h
  |some v=>
   refine ht v U U' s J _ _ Y R h λfl U U' s J Y R h=>?_;cases fl with
   |next=>exact hb U U' s J _ _ Y R h (wB (λU U' s J Y R h=>AM src ht hb k n (i+1) U U' s J Y R h) k)
   |err=>exact k _ _ _ _ _ Y R h
   |_=>exact h.elim
theorem mI(H:AH pk B θ F F')(e:PE)(U U':Loc)(s:GS)(J:Hp)(K:Bool->GS->Prop)(X:GX)(K':Bool->Hp->Prop)(X':KE)(Y:LR θ U U')(R:bu pk B θ s J)(h:pU pk F e U s K X)(k:∀v s J,bu pk B θ s J->K v s->K' v J)(x:DH pk B θ X X'):
  fO F' e U' J K' X':=eO H e U U' s J _ X _ X' Y R h (λv s J R h=>kA R h λb h=>k _ _ _ R h) x
abbrev SS(pk:Bool)(B:Hp)(θ:Nat->Nat)(F:GC)(F':Call)(st:PS):Prop:=∀hd U U' s J K K',LR θ U U'->bu pk B θ s J->gS pk F st hd U s K->vm pk B θ K K'->ux F' st (hd.map (gq θ)) U' J K'
abbrev NB(pk:Bool)(B:Hp)(θ:Nat->Nat)(F:GC)(F':Call)(l:List PS):Prop:=∀hd U U' s J K K',LR θ U U'->bu pk B θ s J->me pk F l hd U s K->vm pk B θ K K'->ax F' l (hd.map (gq θ)) U' J K'
theorem Hk{f:Option aH->Loc->GS->GF->Prop}{f':Option aH->Loc->Hp->KS->Prop}(hf:∀hd,AL pk B θ (f hd) (f' (hd.map (gq θ)))){K:GF}{K':KS}(k:vm pk B θ K K')(hd:Option aH):vm pk B θ (oO hd f K) (r8 (hd.map (gq θ)) f' K'):=by
 intro fl U U' s J Y R h;have M:∀hd,f hd U s (λfl' U s=>match fl' with|.next=>bt (fo U) (K fl U s)|_=>False)->f' (hd.map (gq θ)) U' J (λfl' U J=>Flow.casesOn fl' (aP U=QI/\K' (gY θ fl) U J) False False (λu=>False) λu=>False):=by
  intro hd h;refine hf hd U U' s J _ _ Y R h λfl' U U' s J Y R h=>?_;cases fl' with
  |next=>exact b7 h λe h=>⟨cg Y (dZ U▸e),k _ _ _ _ _ Y R h⟩
  |_=>exact h.elim
 cases fl with
 |err e=>exact M (QA e) h
 |_=>exact M hd h
theorem Hl{b:Loc->GS->GF->Prop}{b':Loc->Hp->KS->Prop}(hb:AL pk B θ b b'){K:GF}{K':KS}(k:vm pk B θ K K'):
  vm pk B θ (λfl U s=>match fl with|.next=>b U s K|.brk=>K .brk U s|.cont=>K .cont U s|.ret v=>K (.ret v) U s|.err e=>K (.err e) U s) (λfl U J=>match fl with|.next=>b' U J K'|fl=>K' fl U J):=by
 intro fl U U' s J Y R h;cases fl with
 |next=>exact hb _ _ _ _ _ _ Y R h k
 |_=>exact k _ _ _ _ _ Y R h
end
section
variable{pk:Bool}{B:Hp}{θ:Nat->Nat}{F:GC}{F':Call}{s:GS}{J:Hp}{C:Prop}{U:Loc}
theorem yc{e l:PE}(h:mF e=QA l):e=.p .lt l (.c (.int 0)):=by
 refine Hj (C:=λe=>e=.p .lt l (.c (.int 0))) h nn λop a r h=>mH (C:=λa=>.p op a r=PE.p .lt l (.c (.int 0))) h nn λa f h=>nQ (C:=λr=>.p op (.attr a f) r=PE.p .lt l (.c (.int 0))) h nn λc h=>vl (C:=λc=>.p op (.attr a f) (.c c)=PE.p .lt l (.c (.int 0))) h nn λn h=>?_;have q:=jc h
 ((refine(Pl (jr (jr q.1).2).1).symm▸?_;refine(OO q.2).symm▸?_))
 have q:=(jr q.1).1;cases op with
 |lt=>rfl
 |_=>exact ff q
theorem AN{o e:PE}{f:Nat}(h:Ah o f op e=QI):(∃v,o=.v v)/\f=1/\op=.add/\e=.c (.int 1):=by
 refine vk (C:=λo=>(∃v,o=.v v)/\f=1/\op=.add/\e=.c (.int 1)) h ff λv h=>⟨⟨v,rfl⟩,nQ (C:=λe=>f=1/\op=.add/\e=.c (.int 1)) h ff λc h=>vl (C:=λc=>f=1/\op=.add/\PE.c c=.c (.int 1)) h ff λn h=>?_⟩;have q:=jr h;refine⟨OW q.2,?_,by exact(Pl (jr q.1).2)▸rfl⟩;have q:=(jr q.1).1;cases op with
 |add=>rfl
 |_=>exact ff q
theorem t7(f:Nat)(v:AV)(l:List (Nat×AV)):aR f (bU f v l)=QA v:=by
 induction l with
 |nil=>exact if_pos rfl
 |cons e r ih=>
  show aR f (if e.1=f then(e.1,v)::r else e::bU f v r)=_;by_cases h:e.1=f
  ·exact(PK _ (if_pos h)).trans (if_pos h)
  ·exact(PK _ (if_neg h)).trans ((if_neg h).trans ih)
theorem rg{f g:Nat}(hn:g≠f)(v:AV)(l:List (Nat×AV)):aR g (bU f v l)=aR g l:=by
 induction l with
 |nil=>exact if_neg λe=>hn e.symm
 |cons e r ih=>
  show aR g (if e.1=f then(e.1,v)::r else e::bU f v r)=_;by_cases h:e.1=f
  ·refine(PK _ (if_pos h)).trans ?_;exact(if_neg λq=>hn (q.symm.trans h)).trans (if_neg λq=>hn (q.symm.trans h)).symm
  ·refine(PK _ (if_neg h)).trans ?_;show(if e.1=g then QA e.2 else aR g (bU f v r))=if e.1=g then QA e.2 else aR g r;exact PK _ ih
theorem AO{K:GS->Prop}{K':Hp->Prop}(hp:pk=QI)(R:bu pk B θ s J)(h:FS v s K)(k:∀s J,bu pk B θ s J->K s->K' J):
  ∃a,iy J (ren θ v) 1 a/\∃c,kX .add a (.int 1) c/\∃J1,jS J c (ren θ v) 1 J1/\K' J1:=by
 refine fq (C:=λv=>∃a,iy J (ren θ v) 1 a/\∃c,kX .add a (.int 1) c/\∃J1,jS J c (ren θ v) 1 J1/\K' J1) h λj h=>b7 h λe h=>?_;cases OW e;refine yK (R.tk hp) λc fs n ts T=>pV R h λc' fs' e' h=>gn h λi ei h=>cG (C:=λi=>gm 1 fs'=QA i->_) h (λm h ei=>?_) ei;cases(T.ob.symm.trans e');have z:=T.fi;rw[iU, <-ku,ei] at z;cases z;obtain⟨t,nx,tk,pv,od,ob'⟩:=s;cases tk with
 |nil=>exact h.elim
 |cons x r=>
  refine b7 h λel h=>?_;rw[aq, <-tZ (θ:=θ)] at el;refine⟨_,.own (θ 1) c _ 1 _ T.ob T.m1 T.fi,_,.addI n 1,_,.mk (θ 1) c _ 1 T.ob T.m1 (OJ el),k _ _ ?_ h⟩;have l1:=(OG.mp T.ob).1
  (refine(tJ ..).symm▸?_)
  refine⟨R.inj,λj=>(R.nx j).trans (PK (·+j) Ps.symm),λj o e=>?_,by rw[Ps];exact R.le,λa h1 h2=>(OM (h2 1)).trans (R.fr a h1 h2),λu=>⟨c,_,n+1,ts,OT l1,t7 1 _ _,(rg dc _ _).trans T.ft,(OM λz=>by exact absurd (R.inj _ _ z) Nat.noConfusion).trans T.ls,?_,λv q=>⟨n,rfl,?_⟩,T.m0,T.m1⟩⟩
  ·rcases gv (.inst c (bU 1 (.int (n+1)) fs')) 30 t 1 j o e with⟨q,z⟩|e
   ·rw[q,z];exact(OT l1).trans (PK (λz=>QA (az.inst c z)) (tO (θ:=θ) 1 (.int (n+1)) fs'))
   ·exact(OM λq=>e.1 (R.inj _ _ q.symm)).trans (R.get _ _ e.2)
  ·have:=T.dr
   ((refine(Qa ..)▸?_;refine this.symm▸?_));rfl
  ·((have hz:=OO q;subst hz))
   have:=PK (λl=>l[0]?) T.dr;rw[PZ] at this;exact this
theorem hM(H:AH pk B θ F F')(l:List PS):NB pk B θ F F' l:=by
 refine PS.rec_1 (motive_1:=SS pk B θ F F') (motive_2:=NB pk B θ F F') ?_ ?_ ?_ ?_ ?_ ?_ ?_ ?_ ?_ ?_ ?_ ?_ ?_ ?_ ?_ ?_ ?_ ?_ ?_ l
 ·exact λe hd U U' s J K K' Y R h k=>eO (cB H hd) e U U' s J _ _ _ _ Y R h (λv s J R h=>k _ _ _ _ _ Y R h) λer s J R h=>k _ _ _ _ _ Y R h
 ·exact λt e hd U U' s J K K' Y R h k=>eO (cB H hd) e U U' s J _ _ _ _ Y R h (λv s J R h=>F9 (cB H hd) t v U U' s J K K' Y R h k) λer s J R h=>k _ _ _ _ _ Y R h
 ·exact λi op e hd U U' s J K K' Y R h k=>lG Y h λa h=>b7 h λu h=>eO (cB H hd) e U U' s J _ _ _ _ Y R h (λv s J R h=>DB (K':=λc=>K' .next (U'.set i (QA c)) J) h λc h=>k .next _ _ _ _ (Y.set (.ren (QA c)) i) R (fT U i (QA c)▸h)) λer s J R h=>k _ _ _ _ _ Y R h
 ·refine λo f op e hd U U' s J K K' Y R h k=>b7 h λq h1=>?_;have q:=OD.mp q;refine Fh (AN q.2) λnq0 er1 er2 er3=>?_;subst er1;subst er2;subst er3;refine aB nq0 λv er1=>?_;subst er1;exact eO (cB H hd) _ U U' s J _ _ _ _ Y R h1 (λa s J R h=>AO q.1 R h λs J R h=>k _ _ _ _ _ Y R h) λer s J R h=>k _ _ _ _ _ Y R h
 ·intro t a b ha hb hd U U' s J K K' Y R h k;have h:Option.rec (pU pk (eA F hd) t U s (λc s=>cond c (me pk F a hd U s K) (me pk F b hd U s K)) λer s=>K (.err er) U s)
   (λl=>gE pk (eA F hd) l U s (λv s=>gk v λx=>(decide (x<0)=QI->me pk F a hd U s K)/\(decide (x<0)=QK->me pk F b hd U s K)) λer s=>K (.err er) U s) (mF t):=h
  cases q:mF t with
  |none=>rw[q] at h;exact mI (cB H hd) t U U' s J _ _ _ _ Y R h (λc s J R h=>nP h (λh=>ha hd U U' s J K K' Y R h k) λh=>hb hd U U' s J K K' Y R h k) λer s J R h=>k _ _ _ _ _ Y R h
  |some l=>
   rw[q] at h;cases yc q;refine eO (cB H hd) l U U' s J _ _ (λv J=>∃c,eQ J .lt v (.int 0) c/\cC (truthy J (.bool c)) λc=>cM c (ax F' a (hd.map (gq θ)) U' J K') (ax F' b (hd.map (gq θ)) U' J K')) _ Y R h (λv s J R h=>?_) λer s J R h=>k _ _ _ _ _ Y R h;refine cG (C:=λv=>∃c,eQ J .lt (ren θ v) (.int 0) c/\cC (truthy J (.bool c)) λc=>cM c (ax F' a (hd.map (gq θ)) U' J K') (ax F' b (hd.map (gq θ)) U' J K')) h λx h=>⟨_,.lt x 0,?_⟩;show cM (decide (x<0)) _ _;cases z:decide (x<0) with
   |true=>exact ha hd U U' s J K K' Y R (h.1 z) k
   |false=>exact hb hd U U' s J K K' Y R (h.2 z) k
 ·exact λt b hb hd U U' s J K K' Y R h k=>t6 (λU U' s J K X K' X' Y R h k x=>mI (cB H hd) t U U' s J K X K' X' Y R h k x) (λU U' s J K K' Y R h k=>hb hd U U' s J K K' Y R h k) k N U U' s J Y R h
 ·exact λt e b hb hd U U' s J K K' Y R h k=>eO (cB H hd) e U U' s J _ _ _ _ Y R h (λv s J R h=>AG R h λsrc h=>AM src (λv U U' s J K K' Y R h k=>F9 (cB H hd) t v U U' s J K K' Y R h k) (λU U' s J K K' Y R h k=>hb hd U U' s J K K' Y R h k) k N 0 U U' s J Y R h) λer s J R h=>k _ _ _ _ _ Y R h
 ·exact λe hd U U' s J K K' Y R h k=>eO (cB H hd) e U U' s J _ _ _ _ Y R h (λv s J R h=>k _ _ _ _ _ Y R h) λer s J R h=>k _ _ _ _ _ Y R h
 ·intro e hd U U' s J K K' Y R h k;cases hd with
  |none=>exact⟨rfl,eO H e U U' s J _ _ _ _ Y R h (λv s J R h=>k _ _ _ _ _ Y R h) λer s J R h=>k _ _ _ _ _ Y R h⟩
  |some=>exact h.elim
 ·intro c es hd U U' s J K K' Y R h k;cases hd with
  |none=>exact⟨rfl,eO H (.tup es) U U' s J (λv s=>zV v λvs=>K (.err (.own c vs)) U s) _ (λv J=>match v with|.tup vs=>K' (.err (.own c vs)) U' J|_=>False) _ Y R h (λv s J R h=>ve (C:=λv=>match ren θ v with|.tup vs=>K' (.err (.own c vs)) U' J|_=>False) h λvs h=>k _ _ _ _ _ Y R h) λer s J R h=>k _ _ _ _ _ Y R h⟩
  |some=>exact h.elim
 ·exact λhd U U' s J K K' Y R h k=>gn h λe q h=>cY (PK (Option.map (gq θ)) q) (k _ _ _ _ _ Y R h)
 ·intro b hl hb hh hd U U' s J K K' Y R h k;refine hb hd U U' s J _ _ Y R h λfl U U' s J Y R h=>?_;cases fl with
  |err e=>cases e with
   |verr=>exact hh (QA .verr) U U' s J _ _ Y R h λfl U U' s J Y R h=>b7 h λe h=>⟨cg Y (dZ U▸e),k _ _ _ _ _ Y R h⟩
   |own=>exact k _ _ _ _ _ Y R h
  |_=>exact k _ _ _ _ _ Y R h
 ·intro c x b hl f hb hh hf hd U U' s J K K' Y R h k;have fk:=Hk (λhd U U' s J K K' Y R h k=>hf hd U U' s J K K' Y R h k) k hd;refine hb hd U U' s J _ _ Y R h λfl U U' s J Y R h=>?_;cases fl with
  |err e=>cases e with
   |verr=>exact fk _ _ _ _ _ Y R h
   |own c' fs=>
    have h:cond (Nat.beq c' c) (me pk F hl (QA (.own c' fs)) (mi U x (QA (.exc c' fs))) s λfl U s=>bt (fo (mi U x QE)) (oO hd (me pk F f) K fl (mi U x QE) s)) (oO hd (me pk F f) K (.err (.own c' fs)) U s):=h;show(c'=c/\ax F' hl (QA (.own c' (aD θ fs))) (U'.set x (QA (.exc c' (aD θ fs)))) J λfl U J=>aP (U.set x QE)=QI/\r8 (hd.map (gq θ)) (ax F' f) K' fl (U.set x QE) J)\/(c'≠c/\r8 (hd.map (gq θ)) (ax F' f) K' (.err (.own c' (aD θ fs))) U' J);cases q:Nat.beq c' c with
    |true=>rw[q,fT] at h;refine .inl ⟨OW q,hh (QA (.own c' fs)) _ _ s J _ _ (Y.set (.ren (QA (.exc c' fs))) x) R h λfl U U' s J Y R h=>b7 h λe h=>?_⟩;rw[dZ,fT] at e;rw[fT] at h;exact⟨cg (Y.set (.ren QE) x) e,fk _ _ _ _ _ (Y.set (.ren QE) x) R h⟩
    |false=>rw[q] at h;exact .inr ⟨Nat.ne_of_beq_eq_false q,fk (.err (.own c' fs)) U U' s J Y R h⟩
  |_=>exact fk _ _ _ _ _ Y R h
 ·intro d a b hd U U' s J K K' Y R h k;refine eO (cB H hd) d U U' s J _ _ _ _ Y R h (λdv s J R h=>eO (cB H hd) a U U' s J _ _ _ _ Y R h (λav s J R h=>eO (cB H hd) b U U' s J _ _ _ _ Y R h (λbv s J R h=>?_) λer s J R h=>k _ _ _ _ _ Y R h) λer s J R h=>k _ _ _ _ _ Y R h) λer s J R h=>k _ _ _ _ _ Y R h;refine fq (C:=λdv=>Cw (ren θ dv) (ren θ av) (ren θ bv) J λJ=>K' .next U' J) h λj h=>F6 R h λes e h=>gw R h λl el h=>qX (θ:=θ) h λss es' h=>gw R h λvs ev h=>b7 h λq h=>?_;rw[Dt] at h;refine⟨θ j,_,_,ss,_,rfl,e,el,es',ev,?_,pW R e h λs1 R1 h=>tT (θ:=θ) ss vs es▸k _ _ _ _ _ Y R1 h⟩;have q:=OJ q;rw[aq,aq, <-t4 (θ:=θ)] at q;exact q
 ·exact λi t hd U U' s J K K' Y R h k=>lG Y h λv h=>bq (C:=λv=>yN (ren θ v) _) h λu h=>k .next _ _ _ _ (Y.set (.ren (QA .word)) i) R (fT U i (QA .word)▸h)
 ·exact λhd U U' s J K K' Y R h k=>k _ _ _ _ _ Y R h
 ·exact λhd U U' s J K K' Y R h k=>k _ _ _ _ _ Y R h
 ·exact λhd U U' s J K K' Y R h k=>k _ _ _ _ _ Y R h
 ·exact λst sts hs ih hd U U' s J K K' Y R h k=>hs hd U U' s J _ _ Y R h (Hl (λU U' s J K K' Y R h k=>ih hd U U' s J K K' Y R h k) k)
theorem DL{K:GK}{X:GX}{K':KV}{X':KE}(k:mo pk B θ K K')(x:DH pk B θ X X'):vm pk B θ (F1 K X) (bk K' X'):=by
 intro fl U U' s J Y R h;cases fl with
 |ret v=>exact k _ _ _ R h
 |next=>exact k _ _ _ R h
 |err e=>exact x _ _ _ R h
 |_=>exact h.elim
theorem map_some(l:List α):(List.rec [] (λx u ih=>QA x::ih) l:List (Option α))=l.map QA:=by
 induction l with
 |nil=>rfl
 |cons a r ih=>exact PK (QA a:: ·) ih
theorem yd(l:List AV):qU θ (l.map QA)=(aD θ l).map QA:=by rw[cH,qU,List.map_map,List.map_map];rfl
theorem DM{f:Fn}{K K':Loc->Prop}(h:F3 f args K)(k:∀U,K U->K' (qU θ U)):cC (cD f (aD θ args)) K':=by
 refine b7 h λe h=>?_;have e:=OD.mp e;have ee:=OD.mp e.2;have e1:=OJ ee.1;have e2:=OJ ee.2;have h:=k _ h;rw[ae,ae,wv,map_some,aq,aq, <-OQ, <-PN] at h;rw[aq] at e1 e2;rw[aq] at e2;unfold cD
 ((refine(ce ..).symm▸?_;rw[if_pos ⟨e1,e2⟩]))
 have d:aD θ (f.dfl.drop (args.length+f.dfl.length - f.np))=f.dfl.drop (args.length+f.dfl.length - f.np):=by exact(cH ..).symm▸(List.map_drop ..).symm▸(cH ..)▸(aC _ e.1).symm▸rfl
 have z:qU θ (List.map QA (args++List.drop (args.length+f.dfl.length - f.np) f.dfl)++List.replicate (f.nl - f.np) QE)=List.map QA (aD θ args++List.drop (args.length+f.dfl.length - f.np) f.dfl)++List.replicate (f.nl - f.np) QE:=by rw[qU,PN, <-qU,yd,gu,d,List.map_replicate];rfl
 exact z.symm▸h
theorem eP:∀n,AH pk B θ (gC pk n) (ef n)
 |0=>λu u u u u u u u u h=>h.elim
 |n+1=>λf args s J K X K' X' R h k x=>gn h λfd e h=>cY e (DM h λU h=>hM (eP n) fd.body QE U _ s J _ _ (.ren U) R h (DL k x))
end
abbrev Nm:=List Nat
noncomputable def tN (n:Nm):AV:=.tup [.str [110,97,109,101],.str n]
noncomputable def tI (i:Int):AV:=.tup [.str [105,110,116],.int i]
noncomputable def tS (r:AV) (sel:Nm) (as:List AV):AV:=.tup [.str [115,101,110,100],r,.str sel,.tup as]
noncomputable def tU (sel:Nm) (as:List AV):AV:=.tup [.str Aa,.str sel,.tup as]
def lS(l:List Nm):List AV:=List.rec [] (λx u ih=>.str x::ih) l
def tB(ps ts:List Nm)(st:List AV):AV:=.tup [.str [98,108,111,99,107],.tup (lS ps),.tup (lS ts),.tup st]
noncomputable def tR (e:AV):AV:=.tup [.str [114,101,116,117,114,110],e]
noncomputable def tA (n:Nm) (e:AV):AV:=.tup [.str [115,101,116],.str n,e]
def tM(sel:Nm)(ps ts:List Nm)(st:List AV):AV:=.tup [.str sel,.tup (lS ps),.tup (lS ts),.tup st]
def DN:AV:=.tup [.str [65],.str u9,.tup [.str [118]],.tup [tM u7 [[120]] [] [tA [118] (tN [120])],tM oN [] [] [tR (tN [118])],tM [45] [[118]] [] [tR (tS (tS (tN nM) oN []) [45] [tN [118]])],tM [116,101,108,108] [] [] [tR (tU xW [])],tM [97,116,58,112,117,116,58] [[120],[121]] [[116]] [tA [116] (tN [120]),tS (tS (tN [116]) [60] [tN [121]]) Dn [tB [] [] [tR (tA [118] (tN [121]))]],tS (tN nM) u7 [tN [116]]],tM [115,117,109,58] [[110]] [[105]] [tA [105] (tI 0),tS (tB [] [] [tS (tN [105]) [60] [tN [110]]]) Cl [tB [] [] [tA [105] (tS (tN [105]) [43] [tI 1]),tA [118] (tS (tN [118]) [43] [tN [105]])]]],tM [100,111,58] [[98]] [] [tS (tN [98]) oM [],tA [118] (tI 9)],tM [111,117,116,58] [[120]] [] [tS (tN nM) [100,111,58] [tB [] [] [tR (tN [120])]],tA [118] (tI 8)],tM [108,97,116,101] [] [] [tR (tB [] [] [tR (tI 1)])],tM [110,111,58] [[120]] [] [tA [120] (tI 1)]]]
def DP:AV:=.tup [.str [66],.str [65],.tup [.str [119]],.tup [tM u7 [[120]] [] [tA [119] (tN [118]),tU u7 [tN [120]]],tM [111,108,100] [] [] [tR (tN [119])],tM [45] [[120]] [] [tR (tS (tU [45] [tN [120]]) [43] [tI 1])],tM xW [] [] [tU xW [],tR (tN [119])]]]
def J3:List AV:=[tN nM,tB [] [] [tR (tI 1)],tN [66],tS (tB [] [] []) oM [],tS (tS (tN [65]) mj []) [61] [tS (tN [65]) mj []],tS (tS (tS (tI 3) [45] [tI 5]) [45] [tI 4]) [42] [tI 2],tS (tB [[120],[121]] [] [tS (tN [120]) [45] [tN [121]]]) [118,97,108,117,101,58,118,97,108,117,101,58] [tI 2,tI 7],tS (tB [] [] [tN md]) Cl [tB [] [] []],tS (tS (tN [66]) [61] [tN [66]]) G9 [tB [] [] [tI 1],tB [] [] [tI 2]],tS (tS (tI 2) [62] [tI 2]) G9 [tB [] [] [tI 1],tB [] [] [tI 2]],tS (tS (tN iu) [61] [tN md]) Dm [tB [] [] [tI 7]],tS (tN mE) Dm [tB [] [] [tI 1]]]
def AP:List AV:=[tN [117],tA [117] (tI 1),tA [65] (tI 1),tS (tB [[120]] [] [tA [120] (tI 1)]) tv [tI 2],tS (tN [112]) [110,111,58] [tI 1],tS (tN [112]) [117] [],tS (tI 1) [61] [tN iu],tS (tI 1) [43] [tN mE],tS (tB [[120]] [] [tN [120]]) oM [],tS (tB [] [] [tI 1]) tv [tI 2],tS (tN mE) Dn [tI 1],tS (tN mE) G9 [tB [] [] [tI 1],tI 2],tS (tN mE) [111,114,58] [tB [[120]] [] [tN [120]]],tS (tB [] [] [tI 1]) Cl [tB [] [] []],tS (tB [] [] [tN md]) Cl [tI 1],tS (tB [[120]] [] [tN md]) Cl [tB [] [] []],tS (tS (tN [112]) [108,97,116,101] []) oM [],tU xW [],tN u9,tN [118],tS (tI 1) mj [],tS (tN nM) oN [],tS (tN [65]) oN [],tS (tN iu) oM []]
inductive Ln where
 |newp (b:Bool)|qis (n:Int)|put (m:Nat) (n:Int)|get|old|sub (n:Int)|atp (m n:Int)|sum (n:Nat)|setq (n:Int)|bools (n m:Int)|seven (n:Int)|doR (n:Int)|outp (n:Int)|tell|prt|say (i:Nat)|wrong (i:Nat)
noncomputable def Hm (m:Nat) (e:AV):AV:=cond (Nat.beq m 3) (tA [112] (tS (tS (tN [65]) mj []) u7 [e])) (cond (Nat.beq m 4) (tA [112] (tS (tS (tN [66]) mj []) u7 [e])) (tS (tN [112]) u7 [e]))
def Ln.tree:Ln->AV
 |.put m n=>Hm m (tI n)
 |.newp b=>tA [112] (tS (tN (cond b [66] [65])) mj [])
 |.qis n=>tA [113] (tI n)
 |.get=>tS (tS (tN [112]) oN []) xW []
 |.old=>tS (tS (tN [112]) [111,108,100] []) xW []
 |.sub n=>tS (tS (tN [112]) [45] [tI n]) xW []
 |.atp m n=>tS (tN [112]) [97,116,58,112,117,116,58] [tI m,tI n]
 |.sum n=>tS (tN [112]) [115,117,109,58] [tI n]
 |.setq n=>tA [113] (tS (tB [[120]] [[112]] [tS (tN [112]) xW [],tA [112] (tS (tN [120]) [45] [tN [113]])]) tv [tI n])
 |.bools n m=>tS (tS (tS (tS (tS (tN [113]) [60] [tI n]) [97,110,100,58] [tB [] [] [tS (tI m) [60] [tI 3]]]) [111,114,58] [tB [] [] [tS (tN [113]) [61] [tI n]]]) [110,111,116] []) xW []
 |.seven n=>tS (tS (tS (tS (tS (tN [113]) [62] [tI n]) Dn [tB [] [] [tN [112]]]) [61] [tN iu]) Dm [tB [] [] [tI 7]]) xW []
 |.doR n=>tS (tN [112]) [100,111,58] [tB [] [] [tR (tI n)]]
 |.outp n=>tS (tN [112]) [111,117,116,58] [tI n]
 |.tell=>tS (tN [112]) [116,101,108,108] []
 |.prt=>tS (tN [112]) xW []
 |.say i=>tS (Option.rec .none (λt=>t) (be J3 i)) xW []
 |.wrong i=>Option.rec .none (λt=>t) (be AP i)
def bh(rs:List AV):AV:=.tup [.str [112,114,111,103,114,97,109],.tup [DN,DP],.tup [.str [112],.str [113]],.tup rs]
structure uy where
 L:Int
 out:List AV
 pc:Nm
 vs:List AV
 q:AV
def cZ(f:Nat->Nat)(rs:List AV)(p:AV)(z:uy):List az:=
 [.inst 6 [(14,bh rs),(26,.int z.L),(27,.obj (f 1)),(28,.obj (f 2))],
  .list z.out,.dict [([65],.obj (f 3)),([66],.obj (f 4))],.inst 2 [(17,.str [65])],.inst 2 [(17,.str [66])],
  .inst 4 [(21,.none),(22,.none),(23,.none),(20,.obj (f 6)),(24,.obj (f 7)),(25,.obj (f 8))],.inst 5 [],.dict [([112],p),([113],z.q)],.sset [],
  .inst 1 [(15,.str z.pc),(16,.obj (f 10))],.list z.vs]
def NC(l:List az):Nat->Tr->Tr:=List.rec (λu t=>t) (λo u ih n t=>ih (Nat.succ n) (iP o 30 t n)) l
def gs(l:List az)(od:List Int)(ob:List Bool):GS:=⟨NC l 0 .leaf,ao l,[],QE,od,ob⟩
def nR(l:List (Option Bool)):Int->(Int->Prop)->Prop->Prop:=List.rec (λL k u=>k L) (λo u ih L k q=>Option.rec ((decide (L - 1<0)=QI->q)/\(decide (L - 1<0)=QK->ih (L - 1) k q)) (λb=>bt b (ih L k q)) o) l
def rh(ks:List Nat)(s:GS):List (Option az):=List.rec [] (λk u ih=>aG s.t k::ih) ks
def t8(v:AV)(s:GS):Option Nm:=match v with
 |.none=>QA iu
 |.bool b=>QA (cond b mE md)
 |.int i=>QA (am i)
 |.obj k=>Option.rec QE (λo=>match o with
  |.inst c fs=>cond (Nat.beq c 3) (QA u8) (cond (Nat.beq c 2) (Option.rec QE (λv=>match v with|.str x=>QA x|_=>QE) (gm 17 fs)) (cond (Nat.beq c 1) (Option.rec QE (λv=>match v with|.str x=>QA (ai [97,32] x)|_=>QE) (gm 15 fs)) QE))
  |_=>QE) (aG s.t k)
 |_=>QE
def J4(s:GS):Nat:=Option.rec 0 (λo=>match o with
 |.dict es=>Option.rec 0 (λv=>match v with|.obj k=>k|_=>0) (zY [112] es)
 |_=>0) (aG s.t 7)
def Lg(s:GS):Nat:=Option.rec 0 (λo=>match o with
 |.inst _ fs=>Option.rec 0 (λv=>match v with|.obj k=>k|_=>0) (gm 16 fs)
 |_=>0) (aG s.t (J4 s))
set_option genInjectivity true in
inductive oQ where
 |ok (x u0u y v:Option (Option AV)) (n:Nat) (t:Option Nm) (k j:Nat) (l:List (Option az))
 |ret (c:Nat) (fs:List AV) (t:Option Nm) (l:List (Option az))
 |bad
 |odd
def ir(fl:Flow)(U:Loc)(s:GS):oQ:=match fl with
 |.next=>.ok (be U 0) (be U 1) (be U 2) (be U 3) (ao U) (Option.rec QE (λo=>Option.rec QE (λv=>t8 v s) o) (be U 3)) (J4 s) (Lg s) (rh [0,1,2,3,4,5,6,7,8,J4 s,Lg s] s)
 |.err e=>match e with
  |.verr=>.bad
  |.own c fs=>.ret c fs (Option.rec QE (λv=>t8 v s) (be fs 1)) (rh [0,1,2] s)
 |_=>.odd
noncomputable def mq:List PS:=match P3.f30.body with
 |[_,.r _ _ b,_]=>b
 |_=>[]
def rj(rs:List AV)(z:uy)(t:AV)(ob:List Bool)(K:GF):Prop:=
 me QK (gC QK 59) mq QE [QA (.obj 0),QE,QA (.obj 5),QE,QA t] (gs (cZ (λk=>k) rs (.obj 9) z) [] ob) K
def J5(rs:List AV)(z:uy)(t:AV)(K:GF):Prop:=
 me QK (gC QK 59) mq QE [QA (.obj 0),QE,QA (.obj 5),QE,QA t] (gs (List.take 9 (cZ (λk=>k) rs .none z)) [] []) K
noncomputable def nS (k j i:Nat):Nat:=cond (Nat.beq i 9) k (cond (Nat.beq i 10) j i)
def iV(l:List az):List (Option az):=List.rec [] (λx u ih=>QA x::ih) l
def t9(rs:List AV)(v:AV)(t:Nm)(k j:Nat)(z:uy):oQ:=.ok (QA (QA (.obj 0))) (QA QE) (QA (QA (.obj 5))) (QA (QA v)) 5 (QA t) k j (iV (cZ (nS k j) rs (.obj k) z))
section
def ye(l:List (Option Bool)):Prop:=List.rec True (λo u ih=>Option.rec ih (λb=>b=QI/\ih) o) l
def nSp(l:List (Option Bool)):Nat:=List.rec 0 (λo u ih=>Option.rec (Nat.succ ih) (λu=>ih) o) l
theorem iW(k:Int->Prop)(q:Prop):∀(l:List (Option Bool)) (L:Int),ye l->(nSp l=0\/(nSp l:Int)<=L->k (L - nSp l))->(nSp l≠0->L<nSp l->q)->nR l L k q
 |[],L,_,hk,_=>by have:=hk (.inl rfl);rw[show L - ((nSp []:Nat):Int)=L from Int.sub_zero L] at this;exact this
 |some b::r,L,hg,hk,hq=>by cases hg.1;exact iW k q r L hg.2 hk hq
 |none::r,L,hg,hk,hq=>by
  have e:((nSp (QE::r):Nat):Int)=(nSp r:Int)+1:=rfl;refine⟨λh=>hq (Nat.succ_ne_zero _) ?_,λh=>iW k q r (L - 1) hg (λh'=>?_) λu h'=>hq (Nat.succ_ne_zero _) ?_⟩
  ·have:=Pm h;rw[e];exact Int.lt_add_of_sub_right_lt (O2 this (Px _))
  ·have hl:=of_decide_eq_false h;have:=hk (.inr (by rw[e];rcases h' with h'|h'<;>omega));rw[e] at this;exact(show L - 1 - (nSp r:Int)=L - ((nSp r:Int)+1) by exact Lu).symm▸this
  ·rw[e];exact Int.lt_add_of_sub_right_lt h'
def rk(rs:List AV)(z:uy)(t:AV)(ob:List Bool)(c:Nat)(oc:Int->oQ):Prop:=
 ∀Ow:oQ->Prop,(c=0\/(c:Int)<=z.L->Ow (oc (z.L - c)))->(c≠0->z.L<c->Ow .bad)->rj rs z t ob λfl U s=>Ow (ir fl U s)
theorem lH{z:uy}{ob:List Bool}{oc:Int->oQ}(eq:∀Ow:oQ->Prop,rj rs z t ob (λfl U s=>Ow (ir fl U s))=nR log z.L (λL=>Ow (oc L)) (Ow .bad))
  (hg:ye log) (hc:nSp log=c):rk rs z t ob c oc:=λOw hk hq=>by
 subst hc;exact(eq Ow).symm▸(iW _ _ log z.L hg hk hq)
theorem yf{z:uy}{ob:List Bool}(eq:∀Ow:oQ->Prop,rj rs z t ob (λfl U s=>Ow (ir fl U s))=nR log z.L (λu=>Ow .bad) (Ow .bad))(hg:ye log):
  ∀Ow:oQ->Prop,Ow .bad->rj rs z t ob λfl U s=>Ow (ir fl U s):=λOw h=>by
 exact(eq Ow).mpr (iW _ _ log z.L hg (λu=>h) λu u=>h)
def rl(rs:List AV)(L:Int)(out:List AV)(t:AV)(oc:Int->oQ):Prop:=
 ∀Ow:oQ->Prop,(1<=L->Ow (oc (L - 1)))->(L<1->Ow .bad)->J5 rs ⟨L,out,[],[],.none⟩ t λfl U s=>Ow (ir fl U s)
theorem pX{oc:Int->oQ}(eq:∀Ow:oQ->Prop,J5 rs ⟨L,out,[],[],.none⟩ t (λfl U s=>Ow (ir fl U s))=nR [QE] L (λL=>Ow (oc L)) (Ow .bad)):rl rs L out t oc:=λOw hk hq=>by refine(eq Ow).mpr ?_;exact iW _ _ [QE] L trivial (λh=>hk (by rcases h with h|h;cases h;exact h)) λu h=>hq h
def vV(v:Option Int):AV:=Option.rec .none .int v
structure As where
 b:Bool
 v:Option Int
 w:Option Int
 q:Int
def As.st(a:As)(L:Int)(out:List AV):uy:=⟨L,out,cond a.b [66] [65],cond a.b [vV a.v,vV a.w] [vV a.v],.int a.q⟩
def rm(out:List AV)(said:List Nm):List AV:=List.rec out (λt u u=>ai out [.str t]) said
def Ga(v:AV)(t:Nm):Prop:=match v with
 |.int i=>fN i=QI
 |.obj _=>Nat.ble (ao t) 100=QI
 |_=>True
noncomputable def kj (k j:Nat):Bool:=and (Nat.ble 9 k) (and (Nat.ble 9 j) (not (Nat.beq k j)))
def aU(rs:List AV)(L:Int)(out:List AV)(a:As)(l:Ln)(QB:Nat)(said:List Nm)(value:Nm)(a':As):Prop:=
 ∃ob val k j,Ga val value/\kj k j=QI/\rk rs (a.st L out) l.tree ob QB λL=>t9 rs val value k j (a'.st L (rm out said))
def aW(rs:List AV)(L:Int)(out:List AV)(a:As)(l:Ln):Prop:=∃ob,∀Ow:oQ->Prop,Ow .bad->rj rs (a.st L out) l.tree ob λfl U s=>Ow (ir fl U s)
def ru(rs:List AV)(L:Int)(out:List AV)(a:As)(t:AV)(QB:Nat)(value:Nm):Prop:=
 ∃ob v,Ga v value/\rk rs (a.st L out) t ob QB λL=>.ret 7 [.obj 6,v] (QA value) [QA (.inst 6 [(14,bh rs),(26,.int L),(27,.obj 1),(28,.obj 2)]),QA (.list out),QA (.dict [([65],.obj 3),([66],.obj 4)])]
theorem fU{a:As}{l:Ln}{QB:Nat}{said:List Nm}{value:Nm}{a':As}(ob:List Bool)(val:AV)(k j:Nat)(h1:Ga val value)(h2:kj k j=QI){log:List (Option Bool)}(eq:∀Ow:oQ->Prop,rj rs (a.st L out) l.tree ob (λfl U s=>Ow (ir fl U s))=nR log L (λL=>Ow (t9 rs val value k j (a'.st L (rm out said)))) (Ow .bad))(hg:ye log)(hc:nSp log=QB):aU rs L out a l QB said value a':=⟨ob,val,k,j,h1,h2,lH eq hg hc⟩
theorem J6{a:As}{QB:Nat}{value:Nm}(ob:List Bool)(v:AV)(h1:Ga v value){log:List (Option Bool)}(eq:∀Ow:oQ->Prop,rj rs (a.st L out) t ob (λfl U s=>Ow (ir fl U s))=nR log L (λL=>Ow (.ret 7 [.obj 6,v] (QA value) [QA (.inst 6 [(14,bh rs),(26,.int L),(27,.obj 1),(28,.obj 2)]),QA (.list out),QA (.dict [([65],.obj 3),([66],.obj 4)])])) (Ow .bad))(hg:ye log)(hc:nSp log=QB):ru rs L out a t QB value:=⟨ob,v,h1,lH eq hg hc⟩
theorem db{a:As}{l:Ln}(ob:List Bool){log:List (Option Bool)}(eq:∀Ow:oQ->Prop,rj rs (a.st L out) l.tree ob (λfl U s=>Ow (ir fl U s))=nR log L (λu=>Ow .bad) (Ow .bad))(hg:ye log):aW rs L out a l:=⟨ob,yf eq hg⟩
theorem sm{i:Int}(h1: -4611686018427387904<i)(h2:i<4611686018427387904):fN i=QI:=by unfold fN;((refine(PL h1).symm▸?_;refine(PL h2).symm▸?_));rfl
theorem sg{i:Int}(h1: -4611686018427387904<i)(h2:i<4611686018427387904):cN i=QI:=by
 cases i with
 |ofNat n=>exact Po (by have h2:(n:Int)<4611686018427387904:=h2;exact(Qc (m:=4611686018427387904)).mp h2)
 |negSucc n=>exact Po (by omega)
theorem bs(b:Bool):(b==b)=QI:=by cases b<;>rfl
theorem dT[Decidable p](h:p):(decide p==QI)=QI:=by(refine(PL h).symm▸?_);rfl
theorem dF[Decidable p](h: ¬p):(decide p==QK)=QI:=by(refine(PM h).symm▸?_);rfl
theorem eT{a b:Int}(h:a=b):((a==b)==QI)=QI:=by(refine(beq_iff_eq.mpr h).symm▸?_);rfl
theorem eF{a b:Int}(h: ¬a=b):((a==b)==QK)=QI:=by(refine(PJ.mpr h).symm▸?_);rfl
noncomputable def nL (k:Nat) (r:List (Option Bool)):List (Option Bool):=Nat.rec r (λu ih=>QE::ih) k
variable(rs:List AV)(L:Int)(out:List AV)(b:Bool)(m:Int)(n:Int)(i:Int)(v:Option Int)(w:Option Int)(q:Int)
theorem L8:aU rs L out ⟨QK,v,w,q⟩ (.put 0 n) 1 [] jG ⟨QK,QA n,v,q⟩:=fU [] (.obj 9) 9 10 rfl rfl (log:=[QE]) (λOw=>by kernel_rfl) trivial rfl
theorem J7(h1: -1000<=i)(h2:i<=1000)(ho:Nat.blt (ao out) aE=QI):aU rs L out ⟨b,QA i,w,q⟩ (.get) 2 [am i] (am i) ⟨b,QA i,w,q⟩:=by cases b<;>exact fU [] (.int i) 9 10 (sm (oy h1) (fG h2)) rfl (log:=[QE,QE,QA (cN i),QA ((ao (out)).blt aE)]) (λOw=>by kernel_rfl) ⟨sg (oy h1) (fG h2),ho,trivial⟩ rfl
theorem J8(ho:Nat.blt (ao out) aE=QI):aU rs L out ⟨b,QE,w,q⟩ (.get) 2 [iu] iu ⟨b,QE,w,q⟩:=by cases b<;>exact fU [] .none 9 10 trivial rfl (log:=nL 2 (QA ((ao (out)).blt aE)::[])) (λOw=>by kernel_rfl) ⟨ho,trivial⟩ rfl
theorem L9:aW rs L out ⟨QK,v,w,q⟩ (.old):=db [] (log:=[QE]) (λOw=>by kernel_rfl) trivial
theorem J9(hn0:0<=n)(hn:n<5)(h1: -1000<=i)(h2:i<=1000)(ho:Nat.blt (ao out) aE=QI):aU rs L out ⟨QK,QA i,w,q⟩ (.sub n) 4 [am (i - n)] (am (i - n)) ⟨QK,QA i,w,q⟩:=fU [] (.int (i - n)) 9 10 (sm (GD hn h1) (GA hn0 h2)) rfl (log:=[QE,QE,QE,QA (cN i),QA (cN n),QE,QA (cN (i - n)),QA ((ao (out)).blt aE)]) (λOw=>by kernel_rfl) ⟨sg (oy h1) (fG h2),sg (vO hn0) (ji hn),sg (GD hn h1) (GA hn0 h2),ho,trivial⟩ rfl
theorem Ka:aW rs L out ⟨QK,QE,w,q⟩ (.sub n):=db [] (log:=nL 3 []) (λOw=>by kernel_rfl) trivial
theorem Ma(hn0:0<=n)(hn:n<5)(hm0:0<=m)(hm:m<n):aU rs L out ⟨b,v,w,q⟩ (.atp m n) 3 [] (am n) ⟨b,QA n,w,q⟩:=by cases b<;>exact fU [QI,QK,QK] (.int n) 9 10 (sm (I4 hm0 hm) (ji hn)) rfl (log:=[QE,QE,QA (cN m),QA (cN n),QA (decide (m<n)==QI),QA (decide (n<m)==QK),QA ((m==n)==QK),QE]) (λOw=>by kernel_rfl) ⟨sg (vO hm0) (Lr hn hm),sg (I4 hm0 hm) (ji hn),dT ‹_›,dF (uz hm),eF (Cs hm),trivial⟩ rfl
theorem Mb(hn0:0<=n)(hn:m<5)(hm: ¬m<n):aU rs L out ⟨QK,v,w,q⟩ (.atp m n) 4 [] jG ⟨QK,QA m,v,q⟩:=fU [QK,decide (n<m),m==n] (.obj 9) 9 10 rfl rfl (log:=[QE,QE,QA (cN m),QA (cN n),QA (decide (m<n)==QK),QA (decide (n<m)==(decide (n<m))),QA ((m==n)==(m==n)),QE,QE]) (λOw=>by kernel_rfl) ⟨sg (GB hn0 hm) (ji hn),sg (vO hn0) (GE hn hm),dF ‹_›,bs _,bs _,trivial⟩ rfl
theorem Gb:aU rs L out ⟨b,v,w,q⟩ (.sum 0) 4 [] (cond b iS jG) ⟨b,v,w,q⟩:=by cases b<;>exact fU [] (.obj 9) 9 10 rfl rfl (log:=nL 4 []) (λOw=>by kernel_rfl) trivial rfl
theorem Gc(h1: -1000<=i)(h2:i<=1000):aU rs L out ⟨b,QA i,w,q⟩ (.sum 1) 9 [] (cond b iS jG) ⟨b,QA (i+(0+1)),w,q⟩:=by cases b<;>exact fU [] (.obj 9) 9 10 rfl rfl (log:=nL 6 (QA (cN i)::nL 3 [])) (λOw=>by kernel_rfl) ⟨sg (oy h1) (fG h2),trivial⟩ rfl
theorem AQ:aW rs L out ⟨b,QE,w,q⟩ (.sum 1):=by cases b<;>exact db [] (log:=nL 6 []) (λOw=>by kernel_rfl) trivial
theorem Gd(h1: -1000<=i)(h2:i<=1000):aU rs L out ⟨b,QA i,w,q⟩ (.sum 2) 14 [] (cond b iS jG) ⟨b,QA (i+(0+1)+(0+1+1)),w,q⟩:=by cases b<;>exact fU [] (.obj 9) 9 10 rfl rfl (log:=nL 6 (QA (cN i)::nL 5 (QA (cN (i+(0+1)))::nL 3 []))) (λOw=>by kernel_rfl) ⟨sg (oy h1) (fG h2),sg (Ll h1) (Gy h2),trivial⟩ rfl
theorem AR:aW rs L out ⟨b,QE,w,q⟩ (.sum 2):=by cases b<;>exact db [] (log:=nL 6 []) (λOw=>by kernel_rfl) trivial
theorem Ge(h1: -1000<=i)(h2:i<=1000):aU rs L out ⟨b,QA i,w,q⟩ (.sum 3) 19 [] (cond b iS jG) ⟨b,QA (i+(0+1)+(0+1+1)+(0+1+1+1)),w,q⟩:=by cases b<;>exact fU [] (.obj 9) 9 10 rfl rfl (log:=nL 6 (QA (cN i)::nL 5 (QA (cN (i+(0+1)))::nL 5 (QA (cN (i+(0+1)+(0+1+1)))::nL 3 [])))) (λOw=>by kernel_rfl) ⟨sg (oy h1) (fG h2),sg (Ll h1) (Gy h2),sg (Nf h1) (IV h2),trivial⟩ rfl
theorem AS:aW rs L out ⟨b,QE,w,q⟩ (.sum 3):=by cases b<;>exact db [] (log:=nL 6 []) (λOw=>by kernel_rfl) trivial
theorem Gf(h1: -1000<=i)(h2:i<=1000):aU rs L out ⟨b,QA i,w,q⟩ (.sum 4) 24 [] (cond b iS jG) ⟨b,QA (i+(0+1)+(0+1+1)+(0+1+1+1)+(0+1+1+1+1)),w,q⟩:=by cases b<;>exact fU [] (.obj 9) 9 10 rfl rfl (log:=nL 6 (QA (cN i)::nL 5 (QA (cN (i+(0+1)))::nL 5 (QA (cN (i+(0+1)+(0+1+1)))::nL 5 (QA (cN (i+(0+1)+(0+1+1)+(0+1+1+1)))::nL 3 []))))) (λOw=>by kernel_rfl) ⟨sg (oy h1) (fG h2),sg (Ll h1) (Gy h2),sg (Nf h1) (IV h2),sg (NL h1) (Lm h2),trivial⟩ rfl
theorem AT:aW rs L out ⟨b,QE,w,q⟩ (.sum 4):=by cases b<;>exact db [] (log:=nL 6 []) (λOw=>by kernel_rfl) trivial
theorem Hn(hn0:0<=n)(hn:n<5)(h1: -1000<=q)(h2:q<=1000)(hq:n<q)(ho:Nat.blt (ao out) aE=QI):aU rs L out ⟨b,v,w,q⟩ (.seven n) 5 [[55]] [55] ⟨b,v,w,q⟩:=by cases b<;>exact fU [QK,QI,QK] (.int 7) 9 10 (sm (by decide) (by decide)) rfl (log:=nL 1 (QA (cN q)::QA (cN n)::QA (decide (q<n)==QK)::QA (decide (n<q)==QI)::QA ((q==n)==QK)::nL 4 (QA ((ao (out)).blt aE)::[]))) (λOw=>by kernel_rfl) ⟨sg (oy h1) (fG h2),sg (vO hn0) (GH h2 hq),dF (uz hq),dT (by assumption),eF (GG hq),ho,trivial⟩ rfl
theorem Mc(hn0:0<=n)(hn:n<5):ru rs L out ⟨b,v,w,q⟩ (Ln.tree (.doR n)) 2 (am n):=by cases b<;>exact J6 [] (.int n) (sm (vO hn0) (ji hn)) (log:=nL 2 []) (λOw=>by kernel_rfl) trivial rfl
theorem Kb(hn0:0<=n)(hn:n<5):aU rs L out ⟨b,v,w,q⟩ (.outp n) 3 [] (am n) ⟨b,v,w,q⟩:=by cases b<;>exact fU [] (.int n) 9 10 (sm (vO hn0) (ji hn)) rfl (log:=nL 3 []) (λOw=>by kernel_rfl) trivial rfl
theorem Kc(ho:Nat.blt (ao out) aE=QI):aU rs L out ⟨b,v,w,q⟩ (.tell) 2 [cond b iS jG] (cond b iS jG) ⟨b,v,w,q⟩:=by cases b<;>exact fU [] (.obj 9) 9 10 rfl rfl (log:=nL 2 (QA ((ao (out)).blt aE)::[])) (λOw=>by kernel_rfl) ⟨ho,trivial⟩ rfl
theorem Md(ho:Nat.blt (ao out) aE=QI):aU rs L out ⟨QK,v,w,q⟩ (.prt) 1 [jG] jG ⟨QK,v,w,q⟩:=fU [] (.obj 9) 9 10 rfl rfl (log:=[QE,QA ((ao (out)).blt aE)]) (λOw=>by kernel_rfl) ⟨ho,trivial⟩ rfl
theorem DQ:aW rs L out ⟨b,v,w,q⟩ (.wrong 4):=by cases b<;>exact db [] (log:=[QE]) (λOw=>by kernel_rfl) trivial
theorem DR:aW rs L out ⟨b,v,w,q⟩ (.wrong 5):=by cases b<;>exact db [] (log:=[QE]) (λOw=>by kernel_rfl) trivial
theorem AU:aW rs L out ⟨b,v,w,q⟩ (.wrong 16):=by cases b<;>exact db [] (log:=nL 2 []) (λOw=>by kernel_rfl) trivial
theorem Me:aU rs L out ⟨QI,QA i,w,q⟩ (.put 0 n) 2 [] iS ⟨QI,QA n,QA i,q⟩:=fU [] (.obj 9) 9 10 rfl rfl (log:=nL 2 []) (λOw=>by kernel_rfl) trivial rfl
theorem Kd:aU rs L out ⟨QI,QE,w,q⟩ (.put 0 n) 2 [] iS ⟨QI,QA n,QE,q⟩:=fU [] (.obj 9) 9 10 rfl rfl (log:=nL 2 []) (λOw=>by kernel_rfl) trivial rfl
theorem Mf(rs:List AV)(L:Int)(out:List AV)(v:Option Int)(i:Int)(q:Int)(h1: -1000<=i)(h2:i<=1000)(ho:Nat.blt (ao out) aE=QI):aU rs L out ⟨QI,v,QA i,q⟩ (.old) 2 [am i] (am i) ⟨QI,v,QA i,q⟩:=fU [] (.int i) 9 10 (sm (oy h1) (fG h2)) rfl (log:=[QE,QE,QA (cN i),QA ((ao (out)).blt aE)]) (λOw=>by kernel_rfl) ⟨sg (oy h1) (fG h2),ho,trivial⟩ rfl
theorem Mg(ho:Nat.blt (ao out) aE=QI):aU rs L out ⟨QI,v,QE,q⟩ (.old) 2 [iu] iu ⟨QI,v,QE,q⟩:=fU [] .none 9 10 trivial rfl (log:=nL 2 (QA ((ao (out)).blt aE)::[])) (λOw=>by kernel_rfl) ⟨ho,trivial⟩ rfl
theorem Ke(hn0:0<=n)(hn:n<5)(h1: -1000<=i)(h2:i<=1000)(ho:Nat.blt (ao out) aE=QI):aU rs L out ⟨QI,QA i,w,q⟩ (.sub n) 6 [am (i - n+1)] (am (i - n+1)) ⟨QI,QA i,w,q⟩:=fU [] (.int (i - n+1)) 9 10 (sm (I7 hn h1) (I1 hn0 h2)) rfl (log:=nL 4 (QA (cN i)::QA (cN n)::nL 1 (QA (cN (i - n))::nL 1 (QA (cN (i - n+1))::QA ((ao (out)).blt aE)::[])))) (λOw=>by kernel_rfl) ⟨sg (oy h1) (fG h2),sg (vO hn0) (ji hn),sg (GD hn h1) (GA hn0 h2),sg (I7 hn h1) (I1 hn0 h2),ho,trivial⟩ rfl
theorem Kf:aW rs L out ⟨QI,QE,w,q⟩ (.sub n):=db [] (log:=nL 4 []) (λOw=>by kernel_rfl) trivial
theorem Mh(hn0:0<=n)(hn:m<5)(hm: ¬m<n):aU rs L out ⟨QI,QA i,w,q⟩ (.atp m n) 5 [] iS ⟨QI,QA m,QA i,q⟩:=fU [QK,decide (n<m),m==n] (.obj 9) 9 10 rfl rfl (log:=nL 2 (QA (cN m)::QA (cN n)::QA (decide (m<n)==QK)::QA (decide (n<m)==(decide (n<m)))::QA ((m==n)==(m==n))::nL 3 [])) (λOw=>by kernel_rfl) ⟨sg (GB hn0 hm) (ji hn),sg (vO hn0) (GE hn hm),dF ‹_›,bs _,bs _,trivial⟩ rfl
theorem Mi(hn0:0<=n)(hn:m<5)(hm: ¬m<n):aU rs L out ⟨QI,QE,w,q⟩ (.atp m n) 5 [] iS ⟨QI,QA m,QE,q⟩:=fU [QK,decide (n<m),m==n] (.obj 9) 9 10 rfl rfl (log:=nL 2 (QA (cN m)::QA (cN n)::QA (decide (m<n)==QK)::QA (decide (n<m)==(decide (n<m)))::QA ((m==n)==(m==n))::nL 3 [])) (λOw=>by kernel_rfl) ⟨sg (GB hn0 hm) (ji hn),sg (vO hn0) (GE hn hm),dF ‹_›,bs _,bs _,trivial⟩ rfl
theorem Mj(rs:List AV)(L:Int)(out:List AV)(v:Option Int)(i:Int)(q:Int)(h1: -1000<=i)(h2:i<=1000)(ho:Nat.blt (ao out) aE=QI):aU rs L out ⟨QI,v,QA i,q⟩ (.prt) 2 [iS] (am i) ⟨QI,v,QA i,q⟩:=fU [] (.int i) 9 10 (sm (oy h1) (fG h2)) rfl (log:=nL 2 (QA ((ao (out)).blt aE)::[])) (λOw=>by kernel_rfl) ⟨ho,trivial⟩ rfl
theorem Mk(ho:Nat.blt (ao out) aE=QI):aU rs L out ⟨QI,v,QE,q⟩ (.prt) 2 [iS] iu ⟨QI,v,QE,q⟩:=fU [] .none 9 10 trivial rfl (log:=nL 2 (QA ((ao (out)).blt aE)::[])) (λOw=>by kernel_rfl) ⟨ho,trivial⟩ rfl
theorem seven(rs:List AV)(L:Int)(out:List AV)(n:Int)(b:Bool)(v w:Option Int)(q:Int)(hn0:0<=n)(hn:n<5)(h1: -1000<=q)(h2:q<=1000)(hq: ¬n<q)(ho:Nat.blt (ao out) aE=QI):aU rs L out ⟨b,v,w,q⟩ (.seven n) 5 [iu] iu ⟨b,v,w,q⟩:=fU [decide (q<n),QK,q==n] .none 9 10 trivial rfl (log:=nL 1 (QA (cN q)::QA (cN n)::QA (decide (q<n)==(decide (q<n)))::QA (decide (n<q)==QK)::QA ((q==n)==(q==n))::nL 4 (QA ((ao (out)).blt aE)::[]))) (λOw=>by kernel_rfl) ⟨sg (oy h1) (fG h2),sg (O2 (O2 (by decide) h1) (Qo.mp hq)) (ji hn),bs _,dF ‹_›,bs _,ho,trivial⟩ rfl
theorem Ml(rs:List AV)(L:Int)(out:List AV)(n:Int)(b:Bool)(v w:Option Int)(q:Int):aU rs L out ⟨b,v,w,q⟩ (.put 3 n) 2 [] jG ⟨QK,QA n,QE,q⟩:=fU [] (.obj 17) 17 19 rfl rfl (log:=nL 2 []) (λOw=>by kernel_rfl) trivial rfl
theorem Mm(rs:List AV)(L:Int)(out:List AV)(n:Int)(b:Bool)(v w:Option Int)(q:Int):aU rs L out ⟨b,v,w,q⟩ (.put 4 n) 3 [] iS ⟨QI,QA n,QE,q⟩:=fU [] (.obj 19) 19 21 rfl rfl (log:=nL 3 []) (λOw=>by kernel_rfl) trivial rfl
theorem setq(rs:List AV)(L:Int)(out:List AV)(n:Int)(b:Bool)(v w:Option Int)(q:Int)(hn0:0<=n)(hn:n<5)(h1: -1000<=q)(h2:q<=1000)(ho:Nat.blt (ao out) aE=QI):aU rs L out ⟨b,v,w,q⟩ (.setq n) 3 [iu] (am (n - q)) ⟨b,v,w,n - q⟩:=fU [] (.int (n - q)) 9 10 (sm (O2 (by decide) (Qb hn0 h2)) (O5 (Qb (Qm hn) h1) (by decide))) rfl (log:=[QE,QE,QA ((ao (out)).blt aE),QE,QA (cN n),QA (cN q)]) (λOw=>by kernel_rfl) ⟨ho,sg (vO hn0) (ji hn),sg (oy h1) (fG h2),trivial⟩ rfl
theorem Ho(rs:List AV)(L:Int)(out:List AV)(n m:Int)(b:Bool)(v w:Option Int)(q:Int)(hn0:0<=n)(hn:n<5)(hm0:0<=m)(hm:m<5)(h1: -1000<=q)(h2:q<=1000)(c1:q<n)(c2:m<3)(ho:Nat.blt (ao out) aE=QI):aU rs L out ⟨b,v,w,q⟩ (.bools n m) 6 [md] md ⟨b,v,w,q⟩:=fU [QI,QK,QK,QI,decide (3<m),m==3] (.bool QK) 9 10 trivial rfl (log:=[QE,QA (cN q),QA (cN n),QA (decide (q<n)==QI),QA (decide (n<q)==QK),QA ((q==n)==QK),QE,QE,QA (cN m),QA (decide (m<3)==QI),QA (decide (3<m)==(decide (3<m))),QA ((m==3)==(m==3)),QE,QE,QE,QA ((ao (out)).blt aE)]) (λOw=>by kernel_rfl) ⟨sg (oy h1) (fG h2),sg (Gz h1 c1) (ji hn),dT ‹_›,dF (uz c1),eF (Cs c1),sg (vO hm0) (O2 c2 (by decide)),dT ‹_›,bs _,bs _,ho,trivial⟩ rfl
theorem Hq(rs:List AV)(L:Int)(out:List AV)(n m:Int)(b:Bool)(v w:Option Int)(q:Int)(hn0:0<=n)(hn:n<5)(hm0:0<=m)(hm:m<5)(h1: -1000<=q)(h2:q<=1000)(c1:q<n)(c2: ¬m<3)(ho:Nat.blt (ao out) aE=QI):aU rs L out ⟨b,v,w,q⟩ (.bools n m) 7 [mE] mE ⟨b,v,w,q⟩:=fU [QI,QK,QK,QK,decide (3<m),m==3,QI,QK,QK] (.bool QI) 9 10 trivial rfl (log:=[QE,QA (cN q),QA (cN n),QA (decide (q<n)==QI),QA (decide (n<q)==QK),QA ((q==n)==QK),QE,QE,QA (cN m),QA (decide (m<3)==QK),QA (decide (3<m)==(decide (3<m))),QA ((m==3)==(m==3)),QE,QE,QA (cN q),QA (cN n),QA (decide (q<n)==QI),QA (decide (n<q)==QK),QA ((q==n)==QK),QE,QE,QA ((ao (out)).blt aE)]) (λOw=>by kernel_rfl) ⟨sg (oy h1) (fG h2),sg (Gz h1 c1) (ji hn),dT ‹_›,dF (uz c1),eF (Cs c1),sg (O2 (by decide) (Qo.mp c2)) (ji hm),dF ‹_›,bs _,bs _,sg (oy h1) (fG h2),sg (Gz h1 c1) (ji hn),dT ‹_›,dF (uz c1),eF (Cs c1),ho,trivial⟩ rfl
theorem Hr(rs:List AV)(L:Int)(out:List AV)(n m:Int)(b:Bool)(v w:Option Int)(q:Int)(hn0:0<=n)(hn:n<5)(hm0:0<=m)(hm:m<5)(h1: -1000<=q)(h2:q<=1000)(c1:q=n)(ho:Nat.blt (ao out) aE=QI):aU rs L out ⟨b,v,w,q⟩ (.bools n m) 6 [md] md ⟨b,v,w,q⟩:=fU [QK,QK,QI,QK,QK,QI] (.bool QK) 9 10 trivial rfl (log:=[QE,QA (cN q),QA (cN n),QA (decide (q<n)==QK),QA (decide (n<q)==QK),QA ((q==n)==QI),QE,QE,QE,QA (cN q),QA (cN n),QA (decide (q<n)==QK),QA (decide (n<q)==QK),QA ((q==n)==QI),QE,QE,QA ((ao (out)).blt aE)]) (λOw=>by kernel_rfl) ⟨sg (oy h1) (fG h2),sg (I0 h1 c1) (I9 h2 c1),dF (I5 c1),dF (I8 c1),eT ‹_›,sg (oy h1) (fG h2),sg (I0 h1 c1) (I9 h2 c1),dF (I5 c1),dF (I8 c1),eT ‹_›,ho,trivial⟩ rfl
theorem Hs(rs:List AV)(L:Int)(out:List AV)(n m:Int)(b:Bool)(v w:Option Int)(q:Int)(hn0:0<=n)(hn:n<5)(hm0:0<=m)(hm:m<5)(h1: -1000<=q)(h2:q<=1000)(c1:n<q)(ho:Nat.blt (ao out) aE=QI):aU rs L out ⟨b,v,w,q⟩ (.bools n m) 6 [mE] mE ⟨b,v,w,q⟩:=fU [QK,QI,QK,QK,QI,QK] (.bool QI) 9 10 trivial rfl (log:=[QE,QA (cN q),QA (cN n),QA (decide (q<n)==QK),QA (decide (n<q)==QI),QA ((q==n)==QK),QE,QE,QE,QA (cN q),QA (cN n),QA (decide (q<n)==QK),QA (decide (n<q)==QI),QA ((q==n)==QK),QE,QE,QA ((ao (out)).blt aE)]) (λOw=>by kernel_rfl) ⟨sg (oy h1) (fG h2),sg (vO hn0) (GH h2 c1),dF (uz c1),dT ‹_›,eF (GG c1),sg (oy h1) (fG h2),sg (vO hn0) (GH h2 c1),dF (uz c1),dT ‹_›,eF (GG c1),ho,trivial⟩ rfl
theorem Mn(ho:Nat.blt (ao out) aE=QI):aU rs L out ⟨b,v,w,q⟩ (.say 0) 1 [iu] iu ⟨b,v,w,q⟩:=fU [] .none 9 10 trivial rfl (log:=[QE,QA ((ao (out)).blt aE)]) (λOw=>by kernel_rfl) ⟨ho,trivial⟩ rfl
theorem Mo(ho:Nat.blt (ao out) aE=QI):aU rs L out ⟨b,v,w,q⟩ (.say 1) 1 [u8] u8 ⟨b,v,w,q⟩:=fU [] (.obj 11) 9 10 rfl rfl (log:=[QE,QA ((ao (out)).blt aE)]) (λOw=>by kernel_rfl) ⟨ho,trivial⟩ rfl
theorem Mp(ho:Nat.blt (ao out) aE=QI):aU rs L out ⟨b,v,w,q⟩ (.say 2) 1 [[66]] [66] ⟨b,v,w,q⟩:=fU [] (.obj 4) 9 10 rfl rfl (log:=[QE,QA ((ao (out)).blt aE)]) (λOw=>by kernel_rfl) ⟨ho,trivial⟩ rfl
theorem Mq(ho:Nat.blt (ao out) aE=QI):aU rs L out ⟨b,v,w,q⟩ (.say 3) 2 [iu] iu ⟨b,v,w,q⟩:=fU [] .none 9 10 trivial rfl (log:=nL 2 (QA ((ao (out)).blt aE)::[])) (λOw=>by kernel_rfl) ⟨ho,trivial⟩ rfl
theorem Mr(ho:Nat.blt (ao out) aE=QI):aU rs L out ⟨b,v,w,q⟩ (.say 4) 4 [md] md ⟨b,v,w,q⟩:=fU [] (.bool QK) 9 10 trivial rfl (log:=nL 4 (QA ((ao (out)).blt aE)::[])) (λOw=>by kernel_rfl) ⟨ho,trivial⟩ rfl
theorem Ms(ho:Nat.blt (ao out) aE=QI):aU rs L out ⟨b,v,w,q⟩ (.say 5) 4 [[45,49,50]] [45,49,50] ⟨b,v,w,q⟩:=fU [] (.int (-12)) 9 10 (sm (by decide) (by decide)) rfl (log:=nL 4 (QA ((ao (out)).blt aE)::[])) (λOw=>by kernel_rfl) ⟨ho,trivial⟩ rfl
theorem Mt(ho:Nat.blt (ao out) aE=QI):aU rs L out ⟨b,v,w,q⟩ (.say 6) 3 [[45,53]] [45,53] ⟨b,v,w,q⟩:=fU [] (.int (-5)) 9 10 (sm (by decide) (by decide)) rfl (log:=nL 3 (QA ((ao (out)).blt aE)::[])) (λOw=>by kernel_rfl) ⟨ho,trivial⟩ rfl
theorem Mv(ho:Nat.blt (ao out) aE=QI):aU rs L out ⟨b,v,w,q⟩ (.say 7) 3 [iu] iu ⟨b,v,w,q⟩:=fU [] .none 9 10 trivial rfl (log:=nL 3 (QA ((ao (out)).blt aE)::[])) (λOw=>by kernel_rfl) ⟨ho,trivial⟩ rfl
theorem Mw(ho:Nat.blt (ao out) aE=QI):aU rs L out ⟨b,v,w,q⟩ (.say 8) 3 [[49]] [49] ⟨b,v,w,q⟩:=fU [] (.int 1) 9 10 (sm (by decide) (by decide)) rfl (log:=nL 3 (QA ((ao (out)).blt aE)::[])) (λOw=>by kernel_rfl) ⟨ho,trivial⟩ rfl
theorem Mx(ho:Nat.blt (ao out) aE=QI):aU rs L out ⟨b,v,w,q⟩ (.say 9) 3 [[50]] [50] ⟨b,v,w,q⟩:=fU [] (.int 2) 9 10 (sm (by decide) (by decide)) rfl (log:=nL 3 (QA ((ao (out)).blt aE)::[])) (λOw=>by kernel_rfl) ⟨ho,trivial⟩ rfl
theorem Kg(ho:Nat.blt (ao out) aE=QI):aU rs L out ⟨b,v,w,q⟩ (.say 10) 3 [[55]] [55] ⟨b,v,w,q⟩:=fU [] (.int 7) 9 10 (sm (by decide) (by decide)) rfl (log:=nL 3 (QA ((ao (out)).blt aE)::[])) (λOw=>by kernel_rfl) ⟨ho,trivial⟩ rfl
theorem Kh(ho:Nat.blt (ao out) aE=QI):aU rs L out ⟨b,v,w,q⟩ (.say 11) 2 [iu] iu ⟨b,v,w,q⟩:=fU [] .none 9 10 trivial rfl (log:=nL 2 (QA ((ao (out)).blt aE)::[])) (λOw=>by kernel_rfl) ⟨ho,trivial⟩ rfl
theorem Ht:aW rs L out ⟨b,v,w,q⟩ (.wrong 0):=db [] (log:=[]) (λOw=>by kernel_rfl) trivial
theorem Hu:aW rs L out ⟨b,v,w,q⟩ (.wrong 1):=db [] (log:=[]) (λOw=>by kernel_rfl) trivial
theorem Hv:aW rs L out ⟨b,v,w,q⟩ (.wrong 2):=db [] (log:=[]) (λOw=>by kernel_rfl) trivial
theorem Hw:aW rs L out ⟨b,v,w,q⟩ (.wrong 3):=db [] (log:=[QE]) (λOw=>by kernel_rfl) trivial
theorem Hx:aW rs L out ⟨b,v,w,q⟩ (.wrong 6):=db [] (log:=[QE]) (λOw=>by kernel_rfl) trivial
theorem Hy:aW rs L out ⟨b,v,w,q⟩ (.wrong 7):=db [] (log:=[QE]) (λOw=>by kernel_rfl) trivial
theorem Hz:aW rs L out ⟨b,v,w,q⟩ (.wrong 8):=db [] (log:=[QE]) (λOw=>by kernel_rfl) trivial
theorem HA:aW rs L out ⟨b,v,w,q⟩ (.wrong 9):=db [] (log:=[QE]) (λOw=>by kernel_rfl) trivial
theorem DS:aW rs L out ⟨b,v,w,q⟩ (.wrong 10):=db [] (log:=[QE]) (λOw=>by kernel_rfl) trivial
theorem DT:aW rs L out ⟨b,v,w,q⟩ (.wrong 11):=db [] (log:=[QE]) (λOw=>by kernel_rfl) trivial
theorem DU:aW rs L out ⟨b,v,w,q⟩ (.wrong 12):=db [] (log:=[QE]) (λOw=>by kernel_rfl) trivial
theorem DV:aW rs L out ⟨b,v,w,q⟩ (.wrong 13):=db [] (log:=nL 2 []) (λOw=>by kernel_rfl) trivial
theorem DW:aW rs L out ⟨b,v,w,q⟩ (.wrong 14):=db [] (log:=[QE]) (λOw=>by kernel_rfl) trivial
theorem DX:aW rs L out ⟨b,v,w,q⟩ (.wrong 15):=db [] (log:=[QE]) (λOw=>by kernel_rfl) trivial
theorem DY:aW rs L out ⟨b,v,w,q⟩ (.wrong 17):=db [] (log:=[]) (λOw=>by kernel_rfl) trivial
theorem DZ:aW rs L out ⟨b,v,w,q⟩ (.wrong 18):=db [] (log:=[]) (λOw=>by kernel_rfl) trivial
theorem D1:aW rs L out ⟨b,v,w,q⟩ (.wrong 19):=db [] (log:=[]) (λOw=>by kernel_rfl) trivial
theorem D2:aW rs L out ⟨b,v,w,q⟩ (.wrong 20):=db [] (log:=[QE]) (λOw=>by kernel_rfl) trivial
theorem D3:aW rs L out ⟨b,v,w,q⟩ (.wrong 21):=db [] (log:=[QE]) (λOw=>by kernel_rfl) trivial
theorem D4:aW rs L out ⟨b,v,w,q⟩ (.wrong 22):=db [] (log:=[QE]) (λOw=>by kernel_rfl) trivial
theorem D5:aW rs L out ⟨b,v,w,q⟩ (.wrong 23):=db [] (log:=[QE]) (λOw=>by kernel_rfl) trivial
theorem My(h1: -1000<=q)(h2:q<=1000):ru rs L out ⟨b,v,w,q⟩ (tR (tN [113])) 0 (am q):=J6 [] (.int q) (sm (oy h1) (fG h2)) (log:=[]) (λOw=>by kernel_rfl) trivial rfl
theorem qis(rs:List AV)(L:Int)(out:List AV)(n:Int)(b:Bool)(v w:Option Int)(q:AV):rk rs ⟨L,out,cond b [66] [65],cond b [vV v,vV w] [vV v],q⟩ (Ln.tree (.qis n)) [] 0 λL=>t9 rs (.int n) (am n) 9 10 (As.st ⟨b,v,w,n⟩ L out):=lH (log:=[]) (λOw=>by kernel_rfl) trivial rfl
theorem Mz:rl rs L out (Ln.tree (.newp QK)) λL=>t9 rs (.obj 15) jG 15 17 ⟨L,out,cond QK [66] [65],cond QK [vV QE,vV QE] [vV QE],.none⟩:=pX λOw=>by kernel_rfl
theorem MA:rl rs L out (Ln.tree (.newp QI)) λL=>t9 rs (.obj 17) iS 17 19 ⟨L,out,cond QI [66] [65],cond QI [vV QE,vV QE] [vV QE],.none⟩:=pX λOw=>by kernel_rfl
end
noncomputable def thF (f:Nat->Nat) (c n k:Nat):Nat:=if k<c then f k else n+(k - c)
theorem D6(l:List az):∀(n:Nat) (t:Tr) (k:Nat) (o:az),aG (NC l n t) k=QA o->(∃i,k=n+i/\l[i]?=QA o)\/aG t k=QA o:=by
 induction l with
 |nil=>exact λn t k o h=>.inr h
 |cons x r ih=>
  intro n t k o h;rcases ih (n+1) (iP x 30 t n) k o h with⟨i,e,q⟩|h
  ·exact .inl ⟨i+1,Fk e,q⟩
  ·rcases gv _ _ _ _ _ _ h with⟨e,q⟩|h
   ·exact .inl ⟨0,e,PK QA q.symm⟩
   ·exact .inr h.2
theorem wC(inj:∀i j,i<c->j<c->f i=f j->i=j)(lt:∀k,k<c->f k<n)(i j:Nat)(e:thF f c n i=thF f c n j):i=j:=by
 have A:∀i j,i<c-> ¬j<c->thF f c n i≠thF f c n j:=λi j hi hj e=>absurd (lt i hi) (Pd.mpr ((if_pos hi).symm.trans (e.trans (if_neg hj))▸O1 _ _));by_cases hi:i<c
 ·by_cases hj:j<c
  ·exact inj i j hi hj ((if_pos hi).symm.trans (e.trans (if_pos hj)))
  ·exact absurd e (A i j hi hj)
 ·by_cases hj:j<c
  ·exact absurd e.symm (A j i hj hi)
  ·have q:=Nat.add_left_cancel ((if_neg hi).symm.trans (e.trans (if_neg hj)));exact(Nat.sub_add_cancel (Pd.mp hi)).symm.trans ((PK (·+c) q).trans (Nat.sub_add_cancel (Pd.mp hj)))
theorem AW:thF f c n (c+j)=n+j:=(if_neg (Pd.mpr (O1 c j))).trans (PK (n+ ·) (Nat.add_sub_cancel_left c j))
theorem jH{l:List az}{od:List Int}{ob:List Bool}(inj:∀i j,i<l.length->j<l.length->f i=f j->i=j)
  (get:∀k o,l[k]?=QA o->J[f k]?=QA (gp (thF f l.length J.length) o)):bu QK J (thF f l.length J.length) (gs l od ob) J:=by
 have lt:∀k,k<l.length->f k<J.length:=λk h=>(OG.mp (get k _ (List.getElem?_eq_getElem h))).1;refine⟨λi j e=>?_,λj=>?_,λk o e=>?_,OX _,λu u u=>rfl,nofun⟩
 ·exact wC inj lt i j e
 ·exact(PK (λc=>thF f l.length J.length (c+j)) (aq l)).trans AW
 ·rcases D6 l 0 .leaf k o e with⟨i,q,z⟩|h
  ·rw[Nat.zero_add] at q;subst q;have:thF f l.length J.length k=f k:=if_pos (OG.mp z).1;exact(PK _ this).trans (get k o z)
  ·cases h
theorem aF(h:k<c):thF f c n k=f k:=if_pos h
theorem dq(h:ag rs=QI):dP (bh rs)=QI:=by
 have e:dP (bh rs)=(ag rs&&QI):=by kernel_rfl
 ((refine e.symm▸?_;refine h.symm▸?_));rfl
structure yg(z:uy):Prop where
 out:ag z.out=QI
 vs:ag z.vs=QI
 q:dP z.q=QI
theorem kC{p:AV}{z:uy}(hr:ag rs=QI)(hz:yg z):(cZ g rs p z).map (gp θ)=cZ (λk=>θ (g k)) rs (ren θ p) z:=by
 have e1:ren θ (bh rs)=bh rs:=bw _ (dq hr);have e2:aD θ z.out=z.out:=aC _ hz.out;have e3:aD θ z.vs=z.vs:=aC _ hz.vs;have e4:ren θ z.q=z.q:=bw _ hz.q;show[az.inst 6 [(14,ren θ (bh rs)),(26,.int z.L),(27,.obj (θ (g 1))),(28,.obj (θ (g 2)))],.list (aD θ z.out),.dict [([65],.obj (θ (g 3))),([66],.obj (θ (g 4)))],.inst 2 [(17,.str [65])],.inst 2 [(17,.str [66])],
  .inst 4 [(21,.none),(22,.none),(23,.none),(20,.obj (θ (g 6))),(24,.obj (θ (g 7))),(25,.obj (θ (g 8)))],.inst 5 [],.dict [([112],ren θ p),([113],ren θ z.q)],.sset [],.inst 1 [(15,.str z.pc),(16,.obj (θ (g 10)))],.list (aD θ z.vs)]=_
 ((refine e1.symm▸?_;refine e2.symm▸?_;refine e3.symm▸?_;refine e4.symm▸?_));rfl
structure vn(O:Hp)(c:Nat)(f:Nat->Nat)(rs:List AV)(p:AV)(z:uy)(J:Hp):Prop where
 inj:∀i j,i<c->j<c->f i=f j->i=j
 get:∀i o,((cZ f rs p z).take c)[i]?=QA o->J[f i]?=QA o
 low:∀i,i<c->O.length<=f i
 len:O.length<=J.length
 old:∀a,a<O.length->J[a]?=O[a]?
theorem vp{p:AV}{z:uy}(h:∀i,i<9->f i=g i)(h10:f 10=g 10):cZ f rs p z=cZ g rs p z:=by unfold cZ;rw[h 1 dc,h 2 dc,h 3 dc,h 4 dc,h 6 dc,h 7 dc,h 8 dc,h10]
theorem vn.rep{z:uy}{od:List Int}{ob:List Bool}(E:vn O 11 f rs (.obj (f 9)) z J)(hr:ag rs=QI)(hz:yg z):bu QK J (thF f 11 J.length) (gs (cZ (λk=>k) rs (.obj 9) z) od ob) J:=
 jH (l:=cZ (λk=>k) rs (.obj 9) z) E.inj λk o e=>E.get k _ (by
  have q:((cZ (λk=>k) rs (.obj 9) z).map (gp (thF f 11 J.length)))[k]?=QA (gp (thF f 11 J.length) o):=by rw[List.getElem?_map,e];rfl
  rw[kC hr hz] at q;have w:cZ (λk=>thF f 11 J.length k) rs (ren (thF f 11 J.length) (.obj 9)) z=cZ f rs (.obj (f 9)) z:=by
   ((refine(show ren (thF f 11 J.length) (.obj 9)=.obj (thF f 11 J.length 9) from rfl).symm▸?_;refine(aF (by decide:9<11)).symm▸?_))
   exact vp (λi hi=>aF (by exact OV ‹_› (PV _ _))) (aF dc)
  rw[w] at q;exact q)
theorem eB{pk:Bool}{s:GS}(low:∀i,i<c->O.length<=f i)(len:O.length<=J.length)(old:∀a,a<O.length->J[a]?=O[a]?)(R:bu pk J (thF f c J.length) s J'):
  (∀k,O.length<=thF f c J.length k)/\O.length<=J'.length/\∀a,a<O.length->J'[a]?=O[a]?:=by
 have t:∀k,O.length<=thF f c J.length k:=λk=>by
  unfold thF;split
  ·exact low k ‹_›
  ·exact OK ‹_› (O1 _ _)
 exact⟨t,OK len R.le,λa h=>(R.fr a (OV h len) λk e=>by have:=t k;exact Qk _ (OV h (OK this (Ql e)))).trans (old a h)⟩
inductive cI(J:Hp):AV->Nm->Prop
 |none:cI J .none iu
 |bool (b:Bool):cI J (.bool b) (cond b mE md)
 |int (i:Int):fN i=QI->cI J (.int i) (am i)
 |blk (a:Nat) (fs:List (Nat×AV)):J[a]?=QA (.inst 3 fs)->cI J (.obj a) u8
 |cls (a:Nat) (fs:List (Nat×AV)) (x:Nm):J[a]?=QA (.inst 2 fs)->aR 17 fs=QA (.str x)->cI J (.obj a) x
 |obj (a:Nat) (fs:List (Nat×AV)) (x:Nm):J[a]?=QA (.inst 1 fs)->aR 15 fs=QA (.str x)->([97,32]++x).length<=aE->cI J (.obj a) ([97,32]++x)
theorem cI.val{t:Nm}(h:cI J v t):bF v=QI:=by cases h<;>rfl
theorem Ki{f:Nat}{g:Nm->Option Nm}{t:Nm}(h:(Option.rec QE (λv=>match v with|.str x=>g x|_=>QE) (gm f fs):Option Nm)=QA t):∃x,aR f (nO θ fs)=QA (.str x)/\g x=QA t:=by
 rw[ku] at h
 (refine(iU ..).symm▸?_)
 cases e:aR f fs with
 |none=>rw[e] at h;exact nn h
 |some v=>
  rw[e] at h;cases v with
  |str x=>exact⟨x,rfl,h⟩
  |_=>exact nn h
theorem ua{pk:Bool}{B:Hp}{s:GS}(R:bu pk B θ s J){v:AV}{t:Nm}(h:t8 v s=QA t)(hs:Ga v t):cI J (ren θ v) t:=by
 cases v with
 |none=>cases h;exact .none
 |bool b=>cases h;exact .bool b
 |int i=>cases h;exact .int i hs
 |obj k=>
  have h:(Option.rec QE (λo=>match o with
  |.inst c fs=>cond (Nat.beq c 3) (QA u8) (cond (Nat.beq c 2) (Option.rec QE (λv=>match v with|.str x=>QA x|_=>QE) (gm 17 fs)) (cond (Nat.beq c 1) (Option.rec QE (λv=>match v with|.str x=>QA (ai [97,32] x)|_=>QE) (gm 15 fs)) QE))
  |_=>QE) (aG s.t k):Option Nm)=QA t:=h
  cases e:aG s.t k with
  |none=>rw[e] at h;exact nn h
  |some o=>
   rw[e] at h;have e:=R.get _ _ e;cases o with
   |inst c fs=>
    have h:cond (Nat.beq c 3) (QA u8) (cond (Nat.beq c 2) (Option.rec QE (λv=>match v with|.str x=>QA x|_=>QE) (gm 17 fs)) (cond (Nat.beq c 1) (Option.rec QE (λv=>match v with|.str x=>QA (ai [97,32] x)|_=>QE) (gm 15 fs)) QE))=QA t:=h;cases q3:Nat.beq c 3 with
    |true=>
     rw[q3] at h;cases OW q3
     ((have hz:=OO h;subst hz))
     exact .blk _ _ e
    |false=>
     rw[q3] at h;cases q2:Nat.beq c 2 with
     |true=>rw[q2] at h;cases OW q2;refine ak (Ki (θ:=θ) (g:=QA) h) λx ex hx=>?_;cases hx;exact .cls _ _ _ e ex
     |false=>
      rw[q2] at h;cases q1:Nat.beq c 1 with
      |true=>rw[q1] at h;cases OW q1;refine ak (Ki (θ:=θ) (g:=λx=>QA (ai [97,32] x)) h) λx ex hx=>?_;cases hx;refine .obj _ _ x e ex ?_;have hs:=OJ hs;rw[aq] at hs;exact OK hs dc
      |false=>rw[q1] at h;exact nn h
   |_=>exact nn h
 |_=>exact nn h
theorem iX{ks:List Nat}{s:GS}{l:List az}(h:rh ks s=iV l):∀(i k:Nat) (o:az),ks[i]?=QA k->l[i]?=QA o->aG s.t k=QA o:=by
 induction ks generalizing l with
 |nil=>intro i k o e;exact nn e
 |cons a r ih=>cases l with
  |nil=>cases h
  |cons x l=>
   have h:aG s.t a::rh r s=QA x::iV l:=h;intro i k o e e';cases i with
   |zero=>((have hz:=OO e;subst hz));((have hz:=OO e';subst hz));exact(OY h).1
   |succ i=>exact ih (OY h).2 i k o e e'
theorem AX{B:Hp}{t:Nm}{z:uy}{s:GS}(hr:ag rs=QI)(hz:yg z)(hs:Ga v t)(e:ir fl U s=t9 rs v t k j z)(Y:LR θ U U')(R:bu QK B θ s J):
  fl=.next/\U'.length=5/\U'[0]?=QA (QA (.obj (θ 0)))/\U'[2]?=QA (QA (.obj (θ 5)))/\U'[3]?=QA (QA (ren θ v))/\(∀c fs,U'[1]?≠QA (QA (.exc c fs)))/\cI J (ren θ v) t/\(∀i o,(cZ (λi=>θ (nS k j i)) rs (.obj (θ k)) z)[i]?=QA o->J[θ (nS k j i)]?=QA o):=by
 cases fl with
 |next=>
  have e:oQ.ok (be U 0) (be U 1) (be U 2) (be U 3) (ao U) (Option.rec QE (λo=>Option.rec QE (λv=>t8 v s) o) (be U 3)) (J4 s) (Lg s) (rh [0,1,2,3,4,5,6,7,8,J4 s,Lg s] s)=t9 rs v t k j z:=e;refine ah λPG Ox=>IS (oQ.ok.inj e) λe6 e9 e7 e1 e8 e2 e3 e4 e5=>Ox ?_;rw[e1] at e2;rw[cA] at e1 e6 e7 e9;rw[aq] at e8;refine⟨rfl,Y.len.trans e8,Y.get e6,Y.get e7,Y.get e1,Y.exc e9,ua R e2 hs,λi o q=>?_⟩;rw[e3,e4] at e5;have w:=kC (θ:=θ) (g:=nS k j) (p:=.obj k) hr hz;have w:cZ (λi=>θ (nS k j i)) rs (.obj (θ k)) z=(cZ (nS k j) rs (.obj k) z).map (gp θ):=w.symm;rw[w,List.getElem?_map] at q;cases qo:(cZ (nS k j) rs (.obj k) z)[i]? with
  |none=>rw[qo] at q;exact nn q
  |some x=>
   rw[qo] at q;cases q;refine R.get _ _ (iX e5 i (nS k j i) x ?_ qo);have hi:i<11:=(OG.mp qo).1;clear qo;revert i;refine @(cs (cs (cs (cs (cs (cs (cs (cs (cs (cs (cs cz ?_) ?_) ?_) ?_) ?_) ?_) ?_) ?_) ?_) ?_) ?_)
   ·rfl
   ·rfl
   ·rfl
   ·rfl
   ·rfl
   ·rfl
   ·rfl
   ·rfl
   ·rfl
   ·rfl
   ·rfl
 |err er=>cases er<;>cases e
 |_=>cases e
theorem AY{B:Hp}{t:Nm}{s:GS}(hr:ag rs=QI)(ho:ag out=QI)(hs:Ga v t)
  (e:ir fl U s=.ret 7 [.obj 6,v] (QA t) [QA (.inst 6 [(14,bh rs),(26,.int L),(27,.obj 1),(28,.obj 2)]),QA (.list out),QA (.dict [([65],.obj 3),([66],.obj 4)])]) (R:bu QK B θ s J):
  fl=.err (.own 7 [.obj 6,v])/\cI J (ren θ v) t/\J[θ 0]?=QA (.inst 6 [(14,bh rs),(26,.int L),(27,.obj (θ 1)),(28,.obj (θ 2))])/\J[θ 1]?=QA (.list out)/\∃es,J[θ 2]?=QA (.dict es):=by
 cases fl with
 |err er=>cases er with
  |verr=>cases e
  |own c fs=>have e:oQ.ret c fs (Option.rec QE (λv=>t8 v s) (be fs 1)) (rh [0,1,2] s)=_:=e;refine ah λPG Ox=>Fh (oQ.ret.inj e) λe0 e1 e2 e3=>Ox ?_;subst e0 e1;have g0:=R.get 0 _ (iX (l:=[.inst 6 [(14,bh rs),(26,.int L),(27,.obj 1),(28,.obj 2)],.list out,.dict [([65],.obj 3),([66],.obj 4)]]) e3 0 0 _ rfl rfl);have g1:=R.get 1 _ (iX (l:=[.inst 6 [(14,bh rs),(26,.int L),(27,.obj 1),(28,.obj 2)],.list out,.dict [([65],.obj 3),([66],.obj 4)]]) e3 1 1 _ rfl rfl);have g2:=R.get 2 _ (iX (l:=[.inst 6 [(14,bh rs),(26,.int L),(27,.obj 1),(28,.obj 2)],.list out,.dict [([65],.obj 3),([66],.obj 4)]]) e3 2 2 _ rfl rfl);have e1:ren θ (bh rs)=bh rs:=bw _ (dq hr);have e2':aD θ out=out:=aC _ ho;have g0:J[θ 0]?=QA (.inst 6 [(14,ren θ (bh rs)),(26,.int L),(27,.obj (θ 1)),(28,.obj (θ 2))]):=g0;have g1:J[θ 1]?=QA (.list (aD θ out)):=g1;rw[e1] at g0;rw[e2'] at g1;exact⟨rfl,ua R e2 hs,g0,g1,⟨_,g2⟩⟩
 |_=>cases e
theorem rz{s:GS}(e:ir fl U s=.bad):fl=.err .verr:=by
 cases fl with
 |err er=>cases er with
  |verr=>rfl
  |own=>cases e
 |_=>cases e
noncomputable def wD (b:Bool):Nm:=cond b iS jG
def Kj(v:Option Int):Nm:=Option.rec iu am v
noncomputable def vq:List (Nm×Nat):=[(iu,0),(u8,0),([66],0),(iu,1),(md,3),([45,49,50],3),([45,53],2),(iu,2),([49],2),([50],2),([55],2),(iu,1)]
structure Rs where
 QB:Nat
 said:List Nm
 value:Nm
 a:As
 Ou:Nat
noncomputable def mr (a:As):Rs:=⟨99,[],[],a,1⟩
noncomputable def HB (i:Int):Nat->Int
 |1=>i+(0+1)
 |2=>i+(0+1)+(0+1+1)
 |3=>i+(0+1)+(0+1+1)+(0+1+1+1)
 |_=>i+(0+1)+(0+1+1)+(0+1+1+1)+(0+1+1+1+1)
noncomputable def rA (a:As) (m n:Int):Rs:=if m<n then⟨3,[],am n,⟨a.b,QA n,a.w,a.q⟩,0⟩ else⟨4+a.b.toNat,[],wD a.b,⟨a.b,QA m,a.v,a.q⟩,0⟩
noncomputable def nT (a:As) (n m:Int):Rs:=if a.q<n then(if m<3 then⟨6,[md],md,a,0⟩ else⟨7,[mE],mE,a,0⟩) else if a.q=n then⟨6,[md],md,a,0⟩ else⟨6,[mE],mE,a,0⟩
noncomputable def nU (a:As) (n:Int):Rs:=if n<a.q then⟨5,[[55]],[55],a,0⟩ else⟨5,[iu],iu,a,0⟩
def opL(a:As):Ln->Rs
 |.put m n=>if m<3 then⟨1+a.b.toNat,[],wD a.b,⟨a.b,QA n,a.v,a.q⟩,0⟩ else⟨2+(m - 3),[],wD (Nat.beq m 4),⟨Nat.beq m 4,QA n,QE,a.q⟩,0⟩
 |.get=>⟨2,[Kj a.v],Kj a.v,a,0⟩
 |.old=>cond a.b ⟨2,[Kj a.w],Kj a.w,a,0⟩ (mr a)
 |.sub n=>Option.rec (mr a) (λi=>⟨4+2*a.b.toNat,[am (cond a.b (i - n+1) (i - n))],am (cond a.b (i - n+1) (i - n)),a,0⟩) a.v
 |.atp m n=>rA a m n
 |.sum n=>if n=0 then⟨4,[],wD a.b,a,0⟩ else Option.rec (mr a) (λi=>⟨4+5*n,[],wD a.b,⟨a.b,QA (HB i n),a.w,a.q⟩,0⟩) a.v
 |.setq n=>⟨3,[iu],am (n - a.q),⟨a.b,a.v,a.w,n - a.q⟩,0⟩
 |.bools n m=>nT a n m
 |.seven n=>nU a n
 |.doR n=>⟨2,[],am n,a,2⟩
 |.outp n=>⟨3,[],am n,a,0⟩
 |.tell=>⟨2,[wD a.b],wD a.b,a,0⟩
 |.prt=>cond a.b ⟨2,[wD a.b],Kj a.w,a,0⟩ ⟨1,[wD a.b],wD a.b,a,0⟩
 |.say i=>Option.rec (mr a) (λx=>⟨x.2+1,[x.1],x.1,a,0⟩) (be vq i)
 |_=>mr a
inductive fF:Ln->Prop
 |put (m:Nat) (n:Int):m<5->0<=n->n<5->fF (.put m n)
 |get:fF .get
 |old:fF .old
 |sub (n:Int):0<=n->n<5->fF (.sub n)
 |atp (m n:Int):0<=m->m<5->0<=n->n<5->fF (.atp m n)
 |sum (n:Nat):n<5->fF (.sum n)
 |setq (n:Int):0<=n->n<5->fF (.setq n)
 |bools (n m:Int):0<=m->m<5->0<=n->n<5->fF (.bools n m)
 |seven (n:Int):0<=n->n<5->fF (.seven n)
 |doR (n:Int):0<=n->n<5->fF (.doR n)
 |outp (n:Int):0<=n->n<5->fF (.outp n)
 |tell:fF .tell
 |prt:fF .prt
 |say (i:Nat):i<12->fF (.say i)
 |wrong (i:Nat):i<24->fF (.wrong i)
structure Bd(c:Int)(a:As):Prop where
 v:∀i,a.v=QA i-> -c<=i/\i<=c
 w:∀i,a.w=QA i-> -c<=i/\i<=c
 q: -c<=a.q/\a.q<=c
def nV(rs:List AV)(L:Int)(out:List AV)(a:As)(l:Ln)(x:Rs):Prop:=match x.Ou with
 |0=>aU rs L out a l x.QB x.said x.value x.a
 |1=>aW rs L out a l
 |_=>ru rs L out a l.tree x.QB x.value
section
variable(rs:List AV)(L:Int)(out:List AV)
theorem D7(ho:Nat.blt (ao out) aE=QI)(b:Bool)(v w:Option Int)(q:Int)(hB:Bd 1000 ⟨b,v,w,q⟩)(l:Ln)(h:fF l):nV rs L out ⟨b,v,w,q⟩ l (opL ⟨b,v,w,q⟩ l):=by
 cases h with
 |put m n hm h0 h5=>
  have P0:nV rs L out ⟨b,v,w,q⟩ (.put 0 n) (opL ⟨b,v,w,q⟩ (.put 0 n)):=by
   cases b with
   |false=>exact L8 rs L out n v w q
   |true=>cases v with
    |none=>exact Kd rs L out n w q
    |some i=>exact Me rs L out n i w q
  revert m;refine cs (cs (cs (cs (cs cz ?_) ?_) ?_) ?_) ?_
  ·exact P0
  ·exact P0
  ·exact P0
  ·exact Ml rs L out n b v w q
  ·exact Mm rs L out n b v w q
 |get=>cases v with
  |none=>exact J8 rs L out b w q ho
  |some i=>exact J7 rs L out b i w q (hB.v i rfl).1 (hB.v i rfl).2 ho
 |old=>cases b with
  |false=>exact L9 rs L out v w q
  |true=>cases w with
   |none=>exact Mg rs L out v q ho
   |some i=>exact Mf rs L out v i q (hB.w i rfl).1 (hB.w i rfl).2 ho
 |sub n h0 h5=>cases b with
  |false=>cases v with
   |none=>exact Ka rs L out n w q
   |some i=>exact J9 rs L out n i w q h0 h5 (hB.v i rfl).1 (hB.v i rfl).2 ho
  |true=>cases v with
   |none=>exact Kf rs L out n w q
   |some i=>exact Ke rs L out n i w q h0 h5 (hB.v i rfl).1 (hB.v i rfl).2 ho
 |atp m n m0 m5 h0 h5=>
  show nV rs L out _ _ (rA ⟨b,v,w,q⟩ m n);unfold rA;by_cases c:m<n
  ·rw[if_pos c];exact Ma rs L out b m n v w q h0 h5 m0 c
  ·rw[if_neg c];cases b with
   |false=>exact Mb rs L out m n v w q h0 m5 c
   |true=>cases v with
    |none=>exact Mi rs L out m n w q h0 m5 c
    |some i=>exact Mh rs L out m n i w q h0 m5 c
 |sum n h5=>
  revert n;refine cs (cs (cs (cs (cs cz ?_) ?_) ?_) ?_) ?_
  ·cases b with
   |false=>exact Gb rs L out QK v w q
   |true=>exact Gb rs L out QI v w q
  ·cases b with
   |false=>cases v with
    |none=>exact AQ rs L out QK w q
    |some i=>exact Gc rs L out QK i w q (hB.v i rfl).1 (hB.v i rfl).2
   |true=>cases v with
    |none=>exact AQ rs L out QI w q
    |some i=>exact Gc rs L out QI i w q (hB.v i rfl).1 (hB.v i rfl).2
  ·cases b with
   |false=>cases v with
    |none=>exact AR rs L out QK w q
    |some i=>exact Gd rs L out QK i w q (hB.v i rfl).1 (hB.v i rfl).2
   |true=>cases v with
    |none=>exact AR rs L out QI w q
    |some i=>exact Gd rs L out QI i w q (hB.v i rfl).1 (hB.v i rfl).2
  ·cases b with
   |false=>cases v with
    |none=>exact AS rs L out QK w q
    |some i=>exact Ge rs L out QK i w q (hB.v i rfl).1 (hB.v i rfl).2
   |true=>cases v with
    |none=>exact AS rs L out QI w q
    |some i=>exact Ge rs L out QI i w q (hB.v i rfl).1 (hB.v i rfl).2
  ·cases b with
   |false=>cases v with
    |none=>exact AT rs L out QK w q
    |some i=>exact Gf rs L out QK i w q (hB.v i rfl).1 (hB.v i rfl).2
   |true=>cases v with
    |none=>exact AT rs L out QI w q
    |some i=>exact Gf rs L out QI i w q (hB.v i rfl).1 (hB.v i rfl).2
 |setq n h0 h5=>exact setq rs L out n b v w q h0 h5 hB.q.1 hB.q.2 ho
 |bools n m m0 m5 h0 h5=>
  show nV rs L out _ _ (nT ⟨b,v,w,q⟩ n m);unfold nT;by_cases c:q<n
  ·rw[if_pos c];by_cases d:m<3
   ·rw[if_pos d];exact Ho rs L out n m b v w q h0 h5 m0 m5 hB.q.1 hB.q.2 c d ho
   ·rw[if_neg d];exact Hq rs L out n m b v w q h0 h5 m0 m5 hB.q.1 hB.q.2 c d ho
  ·rw[if_neg c];by_cases d:q=n
   ·rw[if_pos d];exact Hr rs L out n m b v w q h0 h5 m0 m5 hB.q.1 hB.q.2 d ho
   ·rw[if_neg d];exact Hs rs L out n m b v w q h0 h5 m0 m5 hB.q.1 hB.q.2 (Int.lt_iff_le_and_ne.mpr ⟨Qo.mp c,Ne.symm d⟩) ho
 |seven n h0 h5=>
  show nV rs L out _ _ (nU ⟨b,v,w,q⟩ n);unfold nU;by_cases c:n<q
  ·rw[if_pos c];exact Hn rs L out b n v w q h0 h5 hB.q.1 hB.q.2 c ho
  ·rw[if_neg c];exact seven rs L out n b v w q h0 h5 hB.q.1 hB.q.2 c ho
 |doR n h0 h5=>exact Mc rs L out b n v w q h0 h5
 |outp n h0 h5=>exact Kb rs L out b n v w q h0 h5
 |tell=>exact Kc rs L out b v w q ho
 |prt=>cases b with
  |false=>exact Md rs L out v w q ho
  |true=>cases w with
   |none=>exact Mk rs L out v q ho
   |some i=>exact Mj rs L out v i q (hB.w i rfl).1 (hB.w i rfl).2 ho
 |say i hi=>
  revert i;refine cs (cs (cs (cs (cs (cs (cs (cs (cs (cs (cs (cs cz ?_) ?_) ?_) ?_) ?_) ?_) ?_) ?_) ?_) ?_) ?_) ?_
  ·exact Mn rs L out b v w q ho
  ·exact Mo rs L out b v w q ho
  ·exact Mp rs L out b v w q ho
  ·exact Mq rs L out b v w q ho
  ·exact Mr rs L out b v w q ho
  ·exact Ms rs L out b v w q ho
  ·exact Mt rs L out b v w q ho
  ·exact Mv rs L out b v w q ho
  ·exact Mw rs L out b v w q ho
  ·exact Mx rs L out b v w q ho
  ·exact Kg rs L out b v w q ho
  ·exact Kh rs L out b v w q ho
 |wrong i hi=>
  match i,hi with
  |0,_=>exact Ht rs L out b v w q
  |1,_=>exact Hu rs L out b v w q
  |2,_=>exact Hv rs L out b v w q
  |3,_=>exact Hw rs L out b v w q
  |4,_=>exact DQ rs L out b v w q
  |5,_=>exact DR rs L out b v w q
  |6,_=>exact Hx rs L out b v w q
  |7,_=>exact Hy rs L out b v w q
  |8,_=>exact Hz rs L out b v w q
  |9,_=>exact HA rs L out b v w q
  |10,_=>exact DS rs L out b v w q
  |11,_=>exact DT rs L out b v w q
  |12,_=>exact DU rs L out b v w q
  |13,_=>exact DV rs L out b v w q
  |14,_=>exact DW rs L out b v w q
  |15,_=>exact DX rs L out b v w q
  |16,_=>exact AU rs L out b v w q
  |17,_=>exact DY rs L out b v w q
  |18,_=>exact DZ rs L out b v w q
  |19,_=>exact D1 rs L out b v w q
  |20,_=>exact D2 rs L out b v w q
  |21,_=>exact D3 rs L out b v w q
  |22,_=>exact D4 rs L out b v w q
  |23,_=>exact D5 rs L out b v w q
  |k+24,h=>exact absurd h (Pd.mpr (PV _ _))
end
abbrev D8:Call:=ef 59
structure Fr(U:Loc)(a b:Nat):Prop where
 len:U.length=5
 s:U[0]?=QA (QA (.obj a))
 sc:U[2]?=QA (QA (.obj b))
 x1:∀c fs,U[1]?≠QA (QA (.exc c fs))
 x3:∀c fs,U[3]?≠QA (QA (.exc c fs))
theorem Fr.lr(ht:dP t=QI)(F:Fr U (θ 0) (θ 5)):LR θ [QA (.obj 0),QE,QA (.obj 5),QE,QA t] (U.set 4 (QA t)):=by
 refine Ay (by refine Eq.trans ?_ (Ps ..).symm;exact F.len.symm) λi o o' e=>?_;refine xZ (P:=λi o=>(U.set 4 (QA t))[i]?=QA o'->LS θ o o') ?_ (xZ ?_ (xZ ?_ (xZ ?_ (xZ ?_ gz)))) i o e
 ·exact λq=>OO (((OM dc).trans F.s).symm.trans q)▸ .ren (QA (.obj 0))
 ·exact λq=>⟨λu h=>nn h,λc fs u w=>F.x1 c fs (((OM dc).symm.trans q).trans (PK QA w))⟩
 ·exact λq=>OO (((OM dc).trans F.sc).symm.trans q)▸ .ren (QA (.obj 5))
 ·exact λq=>⟨λu h=>nn h,λc fs u w=>F.x3 c fs (((OM dc).symm.trans q).trans (PK QA w))⟩
 ·exact λq=>OO ((OT (by rw[F.len];decide)).symm.trans q)▸⟨λv h=>OO h▸PK QA (bw _ ht).symm,λu u h=>nn h.symm⟩
structure im(O:Hp)(f:Nat->Nat)(rs:List AV)(out:List AV)(v:AV)(t:Nm)(J:Hp):Prop where
 run:∃L,J[f 0]?=QA (.inst 6 [(14,bh rs),(26,.int L),(27,.obj (f 1)),(28,.obj (f 2))])
 lst:J[f 1]?=QA (.list out)
 dic:∃es,J[f 2]?=QA (.dict es)
 txt:cI J v t
 val:ag out=QI
 len:O.length<=J.length
 old:∀a,a<O.length->J[a]?=O[a]?
theorem AZ{a:As}(h:ag out=QI):yg (a.st L out):=by obtain⟨b,v,w,q⟩:=a;refine⟨h,?_,rfl⟩;cases b<;>cases v<;>cases w<;>rfl
theorem wG{said:List Nm}(h:ag out=QI):ag (rm out said)=QI:=by
 cases said with
 |nil=>exact h
 |cons t r=>
  show ag (ai out [.str t])=QI;clear r;induction out with
  |nil=>rfl
  |cons x xs ih=>exact OD.mpr ⟨(OD.mp h).1,ih (OD.mp h).2⟩
theorem vr(k j i:Nat):nS k j i=if i=9 then k else if i=10 then j else i:=by unfold nS;rw[Dr,Dr]
theorem vt(h:i<9):nS k j i=i:=by rw[vr,if_neg (PD h),if_neg (PD (Qn h dc))]
theorem D9(h:kj k j=QI){a b:Nat}(ha:a<11)(hb:b<11)(e:nS k j a=nS k j b):a=b:=by
 have h1:=OD.mp h;have h2:=OD.mp h1.2;have k9:=OJ h1.1;have j9:=OJ h2.1;have kn:k≠j:=λq=>by have:=h2.2;rw[q,Nat.beq_refl] at this;exact ff this
 rw[vr,vr] at e;split at e<;>split at e<;>(try split at e)<;>(try split at e)<;>lia
theorem nW{z:uy}(hk:kj k j=QI)(inj:∀i j:Nat,θ i=θ j->i=j)(h:∀i o,(cZ (λi=>θ (nS k j i)) rs (.obj (θ k)) z)[i]?=QA o->J[θ (nS k j i)]?=QA o)
  (M:(∀k,O.length<=θ k)/\O.length<=J.length/\∀a,a<O.length->J[a]?=O[a]?):vn O 11 (λi=>θ (nS k j i)) rs (.obj ((λi=>θ (nS k j i)) 9)) z J:=⟨λi j hi hj e=>D9 hk hi hj (inj _ _ e),h,λi u=>M.1 _,M.2.1,M.2.2⟩
theorem bT(l:Ln):dP l.tree=QI:=by
 cases l with
 |put m n=>show dP (Hm m (tI n))=QI;unfold Hm;cases Nat.beq m 3<;>cases Nat.beq m 4<;>rfl
 |newp b=>cases b<;>rfl
 |say i=>
  have:∀l:List AV,ag l=QI->∀i,dP (Option.rec .none (λt=>t) (be l i))=QI:=by
   intro l;induction l with
   |nil=>intro _ i;rfl
   |cons x r ih=>intro h i;cases i with
    |zero=>exact(OD.mp h).1
    |succ i=>exact ih (OD.mp h).2 i
  exact OD.mpr ⟨this J3 rfl i,rfl⟩
 |wrong i=>
  have:∀l:List AV,ag l=QI->∀i,dP (Option.rec .none (λt=>t) (be l i))=QI:=by
   intro l;induction l with
   |nil=>intro _ i;rfl
   |cons x r ih=>intro h i;cases i with
    |zero=>exact(OD.mp h).1
    |succ i=>exact ih (OD.mp h).2 i
  exact this AP rfl i
 |_=>rfl
section
variable{O:Hp}{rs:List AV}{L:Int}{out:List AV}{a:As}{f:Nat->Nat}{J:Hp}{U:Loc}{K:KS}
theorem rB{ob:List Bool}(hr:ag rs=QI)(ho:ag out=QI)(ht:dP t=QI)(E:vn O 11 f rs (.obj (f 9)) (a.st L out) J)(Fρ:Fr U (f 0) (f 5))
  (H:∀Ow:oQ->Prop,(∀x,(∀fl r U s J',x=ir fl r s->LR (thF f 11 J.length) r U->bu QK J (thF f 11 J.length) s J'->K (gY (thF f 11 J.length) fl) U J')->Ow x)->rj rs (a.st L out) t ob λfl r s=>Ow (ir fl r s)):
  ax D8 mq QE (U.set 4 (QA t)) J K:=by
 have q:=H (λx=>∀fl r U s J',x=ir fl r s->LR (thF f 11 J.length) r U->bu QK J (thF f 11 J.length) s J'->K (gY (thF f 11 J.length) fl) U J') λx h=>h;have Fθ:Fr U (thF f 11 J.length 0) (thF f 11 J.length 5):=by rw[aF dc,aF dc];exact Fρ
 exact hM (eP 59) mq QE _ _ _ J _ K (Fθ.lr ht) (E.rep hr (AZ ho)) q λfl r U s J' Y R h=>h fl r U s J' rfl Y R
theorem A3{l:Ln}(hr:ag rs=QI)(ho:ag out=QI)(OB:Nat.blt (ao out) aE=QI)(hB:Bd 1000 a)(hl:fF l)(hL:0<=L)(E:vn O 11 f rs (.obj (f 9)) (a.st L out) J)(Fρ:Fr U (f 0) (f 5))
  (h0:(opL a l).Ou=0->((opL a l).QB:Int)<=L->∀f' J' U v,f' 0=f 0->f' 1=f 1->f' 2=f 2->f' 5=f 5->vn O 11 f' rs (.obj (f' 9)) ((opL a l).a.st (L - (opL a l).QB) (rm out (opL a l).said)) J'->cI J' v (opL a l).value->Fr U (f 0) (f 5)->U[3]?=QA (QA v)->K .next U J')
  (hb:(opL a l).Ou=1\/L<(opL a l).QB->∀U J,K (.err .verr) U J)
  (h2:2<=(opL a l).Ou->((opL a l).QB:Int)<=L->∀U J h v,im O f rs out v (opL a l).value J->K (.err (.own 7 [h,v])) U J):ax D8 mq QE (U.set 4 (QA l.tree)) J K:=by
 obtain⟨b,v,w,q⟩:=a;have RA:=D7 rs L out OB b v w q hB l hl;generalize opL ⟨b,v,w,q⟩ l=x at RA h0 hb h2;obtain⟨QB,said,value,a',Ou⟩:=x;have t0:∀i,i<11->thF f 11 J.length i=f i:=λi hi=>aF hi;cases Ou with
 |zero=>
  refine Fj RA λob val k j hs hk S=>rB (ob:=ob) hr ho (bT l) E Fρ λOw hP=>S Ow (λhc=>hP _ λfl r U s J' e Y R=>?_) λu hL'=>hP _ λfl r U s J' e Y R=>?_
  ·obtain⟨rfl,len,s0,s2,s3,s1,tx,emb⟩:=AX hr (AZ (wG ho)) hs e.symm Y R;have g:∀i,i<9->thF f 11 J.length (nS k j i)=f i:=λi hi=>by exact(PK _ (vt hi)).trans (t0 i (Qn hi dc))
   rw[t0 0 dc] at s0;rw[t0 5 dc] at s2;exact h0 rfl (hc.elim (λhc=>hc.symm▸hL) id) (λi=>thF f 11 J.length (nS k j i)) J' U _ (g 0 dc) (g 1 dc) (g 2 dc) (g 5 dc) (nW hk R.inj emb (eB E.low E.len E.old R)) tx
    ⟨len,s0,s2,s1,λc fs q=>by rw[s3] at q;have:=tx.val;rw[OO (OO q)] at this;exact ff this⟩ s3
  ·exact(rz e.symm).symm▸(hb (.inr hL') _ _)
 |succ n=>cases n with
  |zero=>refine aB RA λob S=>rB (ob:=ob) hr ho (bT l) E Fρ λOw hP=>S Ow (hP _ λfl r U s J' e Y R=>?_);exact(rz e.symm).symm▸(hb (.inl rfl) _ _)
  |succ n=>
   refine eX RA λob val hs S=>rB (ob:=ob) hr ho (bT l) E Fρ λOw hP=>S Ow (λhc=>hP _ λfl r U s J' e Y R=>?_) λu hL'=>hP _ λfl r U s J' e Y R=>?_
   ·obtain⟨rfl,tx,e0,e1,e2⟩:=AY hr ho hs e.symm R;rw[t0 0 dc,t0 1 dc,t0 2 dc] at e0;rw[t0 1 dc] at e1;rw[t0 2 dc] at e2;exact h2 (PV 2 n) (hc.elim (λhc=>hc.symm▸hL) id) U J' _ _ ⟨⟨_,e0⟩,e1,e2,tx,ho,(eB E.low E.len E.old R).2.1,(eB E.low E.len E.old R).2.2⟩
   ·exact(rz e.symm).symm▸(hb (.inr hL') _ _)
end
def A4(fin:Bool)(R:Option (List AV×Nm)->Prop):List Ln->As->Int->List AV->Nm->Prop
 |[],a,_,out,last=>R (QA (out,cond fin (am a.q) last))
 |l::ls,a,L,out,_=>
  ((opL a l).Ou=0->((opL a l).QB:Int)<=L->A4 fin R ls (opL a l).a (L - (opL a l).QB) (rm out (opL a l).said) (opL a l).value)/\
  (2<=(opL a l).Ou->((opL a l).QB:Int)<=L->R (QA (out,(opL a l).value)))/\
  ((opL a l).Ou=1\/L<(opL a l).QB->R QE)
theorem bM{c d i:Int}(hc:c<=d)(h: -c<=i/\i<=c): -d<=i/\i<=d:=⟨Pw (Int.neg_le_neg hc) h.1,Pw h.2 hc⟩
theorem Bd.mono{c d:Int}{a:As}(h:Bd c a)(hc:c<=d):Bd d a:=⟨λi e=>bM hc (h.v i e),λi e=>bM hc (h.w i e),bM hc h.q⟩
theorem ip{c:Int}{v w:Option Int}(hv:∀i,v=QA i-> -c<=i/\i<=c)(hw:∀i,w=QA i-> -c<=i/\i<=c)(hq: -c<=q/\q<=c):Bd c ⟨b,v,w,q⟩:=⟨hv,hw,hq⟩
theorem mJ(i:Int)(n:Nat):i<=HB i n/\HB i n<=i+10:=by
 match n with
 |0=>exact IZ
 |1=>exact Lq
 |2=>exact Lp
 |3=>exact Lo
 |_+4=>exact IZ
theorem bS{c n:Int}(hc:5<=c)(h0:0<=n)(h5:n<5): -(c+20)<=n/\n<=c+20:=⟨Pw (Int.neg_nonpos_of_nonneg (Int.add_nonneg (Pw (by decide) hc) (by decide))) h0,Pw (Qm h5) (Pw hc (Int.le_add_of_nonneg_right (by decide)))⟩
theorem bV{c i x:Int}(h: -c<=i/\i<=c)(hx:i<=x/\x<=i+10): -(c+20)<=x/\x<=c+20:=⟨Pw (Int.neg_le_neg (Int.le_add_of_nonneg_right (by decide))) (Pw h.1 hx.1),Pw hx.2 (Int.add_le_add h.2 (by decide))⟩
theorem wH{c:Int}{a:As}{l:Ln}(hc:5<=c)(h:Bd c a)(hl:fF l):Bd (c+20) (opL a l).a:=by
 have h':=h.mono (show c<=c+20 by exact Int.le_add_of_nonneg_right (by decide));have S:∀{x:Int}, -(c+20)<=x/\x<=c+20->∀i,QA x=QA i-> -(c+20)<=i/\i<=c+20:=λhx i e=>by cases e;exact hx
 have SO:∀(v:Option Int) (A:Rs) (F:Int->Rs),Bd (c+20) A.a->(∀i,v=QA i->Bd (c+20) (F i).a)->Bd (c+20) (Option.rec A F v:Rs).a:=by
  intro v A F hA hF;cases v with
  |none=>exact hA
  |some i=>exact hF i rfl
 cases hl with
 |put m n hm h0 h5=>
  revert m;refine cs (cs (cs (cs (cs cz ?_) ?_) ?_) ?_) ?_
  ·exact ip (S (bS hc h0 h5)) h'.v h'.q
  ·exact ip (S (bS hc h0 h5)) h'.v h'.q
  ·exact ip (S (bS hc h0 h5)) h'.v h'.q
  ·exact ip (S (bS hc h0 h5)) (λu0u h=>nn h) h'.q
  ·exact ip (S (bS hc h0 h5)) (λu0u h=>nn h) h'.q
 |old=>show Bd _ (cond a.b (_:Rs) (_:Rs)).a;cases a.b<;>exact h'
 |sub n=>exact SO a.v _ _ h' λi u0u=>h'
 |atp m n m0 m5 n0 n5=>
  show Bd _ (rA a m n).a;unfold rA;split
  ·exact ip (S (bS hc n0 n5)) h'.w h'.q
  ·exact ip (S (bS hc m0 m5)) h'.v h'.q
 |sum n h5=>
  revert n;refine cs (cs (cs (cs (cs cz ?_) ?_) ?_) ?_) ?_
  ·exact h'
  ·exact SO a.v _ _ h' λi e=>ip (S (bV (h.v i e) (mJ i 1))) h'.w h'.q
  ·exact SO a.v _ _ h' λi e=>ip (S (bV (h.v i e) (mJ i 2))) h'.w h'.q
  ·exact SO a.v _ _ h' λi e=>ip (S (bV (h.v i e) (mJ i 3))) h'.w h'.q
  ·exact SO a.v _ _ h' λi e=>ip (S (bV (h.v i e) (mJ i 4))) h'.w h'.q
 |setq n h0 h5=>exact ip h'.v h'.w (by have:=h.q;exact Ls h0 h5 this)
 |bools n m=>
  show Bd _ (nT a n m).a;unfold nT;split
  ·split<;>exact h'
  ·split<;>exact h'
 |seven n=>show Bd _ (nU a n).a;unfold nU;split<;>exact h'
 |prt=>show Bd _ (cond a.b (_:Rs) (_:Rs)).a;cases a.b<;>exact h'
 |say i=>show Bd _ (Option.rec (mr a) (λx=>(⟨x.2+1,[x.1],x.1,a,0⟩:Rs)) (be vq i):Rs).a;cases be vq i<;>exact h'
 |_=>exact h'
theorem im.to{t:Nm}(E:im O f rs out v t J)(h0:f 0=g 0)(h1:f 1=g 1)(h2:f 2=g 2):im O g rs out v t J:=by obtain⟨nq0,l,d,tx,va,le,old⟩:=E;refine aB nq0 λL r=>?_;rw[h0,h1,h2] at r;rw[h1] at l;rw[h2] at d;exact⟨⟨L,r⟩,l,d,tx,va,le,old⟩
theorem vn.end{a:As}{t:Nm}(E:vn O 11 f rs (.obj (f 9)) (a.st L out) J)(ho:ag out=QI)(tx:cI J v t):im O f rs out v t J:=
 ⟨⟨L,E.get 0 _ rfl⟩,E.get 1 _ rfl,⟨_,E.get 2 _ rfl⟩,tx,ho,E.len,E.old⟩
theorem yh{said:List Nm}:(rm out said).length<=out.length+1:=by
 cases said with
 |nil=>exact PR _
 |cons t r=>show(ai out [.str t]).length<=_;rw[ae,OP];exact OX _
theorem yi{fin:Bool}{R:Option (List AV×Nm)->Prop}(hr:ag rs=QI)(g:Nat->Nat)
  (hN:∀J U v out t,im O g rs out v t J->U[3]?=QA (QA v)->R (QA (out,t))->K .next U J)
  (hR:∀U J h v out t,im O g rs out v t J->R (QA (out,t))->K (.err (.own 7 [h,v])) U J)
  (hE:∀U J,R QE->K (.err .verr) U J):∀(ls:List Ln) (a:As) (L:Int) (out:List AV) (last:Nm) (i n:Nat) (U:Loc) (J:Hp) (f:Nat->Nat) (v0:AV) (c:Int),
  rs.drop i=ls.map Ln.tree++cond fin [tR (tN [113])] []->ls.length+2<=n->(∀l,l∈ls->fF l)->5<=c->c+20*ls.length<=1000->Bd c a->ag out=QI->out.length+ls.length<1000->0<=L->
  vn O 11 f rs (.obj (f 9)) (a.st L out) J->f 0=g 0->f 1=g 1->f 2=g 2->Fr U (f 0) (f 5)->U[3]?=QA (QA v0)->cI J v0 last->A4 fin R ls a L out last->
  qd (yO D8 (.v 4)) (ax D8 mq QE) (.fixed rs) K n i U J:=by
 intro ls;induction ls with
 |nil=>
  intro a L out last i n U J f v0 c hd hn _ hc hc2 hB ho OB hL E e0 e1 e2 Fρ s3 tx H;cases n with
  |zero=>exact absurd hn (Nat.not_succ_le_zero _)
  |succ n=>
   show cC (QA rs[i]?) _;cases fin with
   |false=>
    have:rs[i]?=QE:=by have:=PK (λl=>l[0]?) hd;rw[PZ] at this;exact this
    exact this.symm▸(hN J U v0 out last ((E.end ho tx).to e0 e1 e2) s3 H)
   |true=>
    have:rs[i]?=QA (tR (tN [113])):=by have:=PK (λl=>l[0]?) hd;rw[PZ] at this;exact this
    rw[this];refine⟨by rw[Fρ.len];decide,?_⟩;obtain⟨b,v,w,q⟩:=a;have hB:=hB.mono (show c<=1000 by exact Ja hc2);refine eX (My rs L out b v w q hB.q.1 hB.q.2) λob val hs S=>?_;have t0:∀i,i<11->thF f 11 J.length i=f i:=λi hi=>aF hi;refine rB (ob:=ob) hr ho rfl E Fρ λOw hP=>S Ow (λhc=>hP _ λfl r U s J' e Y R=>?_) λhz u0u=>(hz rfl).elim;refine yI (AY hr ho hs e.symm R) λer0 tx e0' e1' e2'=>?_;subst er0;rw[t0 0 dc,t0 1 dc,t0 2 dc] at e0';rw[t0 1 dc] at e1';rw[t0 2 dc] at e2';exact hR U J' _ _ out _ (im.to (f:=f) ⟨⟨_,e0'⟩,e1',e2',tx,ho,(eB E.low E.len E.old R).2.1,(eB E.low E.len E.old R).2.2⟩ e0 e1 e2) H
 |cons l ls ih=>
  intro a L out last i n U J f v0 c hd hn hA hc hc2 hB ho OB hL E e0 e1 e2 Fρ s3 tx H;cases n with
  |zero=>exact absurd hn (Nat.not_succ_le_zero _)
  |succ n=>
   show cC (QA rs[i]?) _;have er:rs[i]?=QA l.tree:=by have:=PK (λl=>l[0]?) hd;rw[PZ] at this;exact this
   have hd':rs.drop (i+1)=ls.map Ln.tree++cond fin [tR (tN [113])] []:=by rw[<-Qa,hd];rfl
   have hc3:(((l::ls).length:Nat):Int)=(ls.length:Int)+1:=rfl;rw[er];refine⟨by rw[Fρ.len];decide,?_⟩;have hLen:(l::ls).length=ls.length+1:=rfl;rw[hLen] at OB hn;have hlim:Nat.blt (ao out) aE=QI:=Po (by rw[aq];unfold aE;exact OK (PQ (o5 OB)) (by decide));have hA0:=hA l (ON ..);refine A3 (f:=f) hr ho hlim (hB.mono (Ja hc2)) hA0 hL E Fρ (λh1 h2 f' J' U' v q0 q1 q2 q5 E' tx' Fρ' s3'=>?_) (λhb U J=>hE U J (H.2.2 hb)) λh1 h2 U J h v E'=>hR U J h v out _ (E'.to e0 e1 e2) (H.2.1 h1 h2);refine ih _ _ _ _ (i+1) n U' J' f' v (c+20) hd' (by exact Pv ‹_›) (λx hx=>hA x (O0 _ hx)) (Ni hc) (Lv hc2 hLen) (wH hc hB hA0) (wG ho) (by have:=yh (out:=out) (said:=(opL a l).said);exact OI (OK (Nat.add_le_add_right this _) (Ql (O7 _ _ _))) OB) (Int.sub_nonneg_of_le h2) E' (q0.trans e0) (q1.trans e1) (q2.trans e2) ?_ s3' tx' (H.1 h1 h2);rw[q0,q5];exact Fρ'
section
variable{pk:Bool}{B:Hp}{θ:Nat->Nat}{F:GC}{F':Call}
theorem Kl(H:AH pk B θ F F')(st:PS):SS pk B θ F F' st:=by
 intro hd U U' s J K K' Y R h k;have e1:Hb (λU s K=>K .next U s) K=K:=by
  funext fl U s
  cases fl<;>rfl
 have e2:(λfl U J=>match fl with|.next=>ax F' [] (hd.map (gq θ)) U J K'|fl=>K' fl U J)=K':=by
  funext fl U s
  cases fl<;>rfl
 have h1:me pk F [st] hd U s K:=by show gS pk F st hd U s (Hb (λU s K=>K .next U s) K);exact e1.symm▸h
 have h2:ux F' st (hd.map (gq θ)) U' J (λfl U J=>match fl with|.next=>ax F' [] (hd.map (gq θ)) U J K'|fl=>K' fl U J):=hM H [st] hd U U' s J K K' Y R h1 k;rw[e2] at h2;exact h2
def lI(F':Call)(rest:List PS)(hd:Option aH)(K:KS):KS:=λfl U J=>match fl with
 |.next=>ax F' rest hd U J K
 |fl=>K fl U J
theorem eV(H:AH pk B θ F F'){rest:List PS}{hd:Option aH}{K:GF}{K':KS}(k:vm pk B θ K (lI F' rest (hd.map (gq θ)) K')):
  ∀(l:List PS) (U U':Loc) (s:GS) (J:Hp),LR θ U U'->bu pk B θ s J->me pk F l hd U s K->ax F' (l++rest) (hd.map (gq θ)) U' J K'
 |[],U,U',s,J,Y,R,h=>k .next U U' s J Y R h
 |st::l,U,U',s,J,Y,R,h=>by
  refine Kl H st hd U U' s J _ _ Y R h λfl U U' s J Y R h=>?_;cases fl with
  |next=>exact eV H k l U U' s J Y R h
  |brk=>exact k .brk U U' s J Y R h
  |cont=>exact k .cont U U' s J Y R h
  |ret v=>exact k (.ret v) U U' s J Y R h
  |err e=>exact k (.err e) U U' s J Y R h
end
theorem ub{p:AV}{z:uy}(h:∀i,i<9->f i=g i):List.take 9 (cZ f rs p z)=List.take 9 (cZ g rs p z):=by unfold cZ;rw[h 1 dc,h 2 dc,h 3 dc,h 4 dc,h 6 dc,h 7 dc,h 8 dc];rfl
section
variable{O:Hp}{rs:List AV}{L:Int}{f:Nat->Nat}{J:Hp}{U:Loc}{K:KS}
theorem Ea(hr:ag rs=QI)(E:vn O 9 f rs .none ⟨L,[],[],[],.none⟩ J)(Fρ:Fr U (f 0) (f 5))
  (h0:1<=L->∀f' J' U,f' 0=f 0->f' 1=f 1->f' 2=f 2->f' 5=f 5->vn O 11 f' rs (.obj (f' 9)) ⟨L - 1,[],cond b [66] [65],cond b [vV QE,vV QE] [vV QE],.none⟩ J'->Fr U (f 0) (f 5)->K .next U J')
  (hb:L<1->∀U J,K (.err .verr) U J):ax D8 mq QE (U.set 4 (QA (Ln.tree (.newp b)))) J K:=by
 have M:∃val t k j,Ga val t/\kj k j=QI/\rl rs L [] (Ln.tree (.newp b)) λL=>t9 rs val t k j ⟨L,[],cond b [66] [65],cond b [vV QE,vV QE] [vV QE],.none⟩:=by
  cases b with
  |false=>exact⟨.obj 15,jG,15,17,rfl,rfl,Mz rs L []⟩
  |true=>exact⟨.obj 17,iS,17,19,rfl,rfl,MA rs L []⟩
 refine Fj M λval t k j hs hk S=>?_;have Fθ:Fr U (thF f 9 J.length 0) (thF f 9 J.length 5):=by rw[aF dc,aF dc];exact Fρ
 have hz:∀L,yg ⟨L,[],cond b [66] [65],cond b [vV QE,vV QE] [vV QE],.none⟩:=λL=>⟨rfl,by cases b<;>rfl,rfl⟩;have RP:bu QK J (thF f 9 J.length) (gs (List.take 9 (cZ (λk=>k) rs .none ⟨L,[],[],[],.none⟩)) [] []) J:=
  jH (l:=List.take 9 (cZ (λk=>k) rs .none ⟨L,[],[],[],.none⟩)) E.inj λk o e=>E.get k _ (by
   have q:((List.take 9 (cZ (λk=>k) rs .none ⟨L,[],[],[],.none⟩)).map (gp (thF f 9 J.length)))[k]?=QA (gp (thF f 9 J.length) o):=by rw[List.getElem?_map,e];rfl
   rw[List.map_take,kC hr ⟨rfl,rfl,rfl⟩] at q;have w:List.take 9 (cZ (λk=>thF f 9 J.length k) rs (ren (thF f 9 J.length) .none) ⟨L,[],[],[],.none⟩)=List.take 9 (cZ f rs .none ⟨L,[],[],[],.none⟩):=by exact ub λi hi=>aF hi
   rw[w] at q;exact q)
 have t0:∀i,i<9->thF f 9 J.length i=f i:=λi hi=>aF hi;refine hM (eP 59) mq QE _ _ _ J _ K (Fθ.lr (bT (.newp b))) RP
  (S (λx=>∀fl r U s J',x=ir fl r s->LR (thF f 9 J.length) r U->bu QK J (thF f 9 J.length) s J'->K (gY (thF f 9 J.length) fl) U J') (λhc fl r U s J' e Y R=>?_) λhc fl r U s J' e Y R=>?_)
  λfl r U s J' Y R h=>h fl r U s J' rfl Y R
 ·obtain⟨rfl,len,s0,s2,s3,s1,tx,emb⟩:=AX hr (hz _) hs e.symm Y R;have g:∀i,i<9->thF f 9 J.length (nS k j i)=f i:=λi hi=>by exact(PK _ (vt hi)).trans (t0 i (hi))
  rw[t0 0 dc] at s0;rw[t0 5 dc] at s2;exact h0 hc (λi=>thF f 9 J.length (nS k j i)) J' U (g 0 dc) (g 1 dc) (g 2 dc) (g 5 dc) (nW hk R.inj emb (eB E.low E.len E.old R))
   ⟨len,s0,s2,s1,λc fs q=>by rw[s3] at q;have:=tx.val;rw[OO (OO q)] at this;exact ff this⟩
 ·exact(rz e.symm).symm▸(hb hc _ _)
theorem Eb{n:Int}(hr:ag rs=QI)(hn:0<=n)(hn5:n<5)(hL:0<=L)(E:vn O 11 f rs (.obj (f 9)) ⟨L,[],cond b [66] [65],cond b [vV QE,vV QE] [vV QE],.none⟩ J)(Fρ:Fr U (f 0) (f 5))
  (h0:∀f' J' U v,f' 0=f 0->f' 1=f 1->f' 2=f 2->f' 5=f 5->vn O 11 f' rs (.obj (f' 9)) (As.st ⟨b,QE,QE,n⟩ L []) J'->cI J' v (am n)->Fr U (f 0) (f 5)->U[3]?=QA (QA v)->K .next U J'):
  ax D8 mq QE (U.set 4 (QA (Ln.tree (.qis n)))) J K:=by
 have S:=qis rs L [] n b QE QE .none;have Fθ:Fr U (thF f 11 J.length 0) (thF f 11 J.length 5):=by rw[aF dc,aF dc];exact Fρ
 have hz:yg ⟨L,[],cond b [66] [65],cond b [vV QE,vV QE] [vV QE],.none⟩:=⟨rfl,by cases b<;>rfl,rfl⟩;have t0:∀i,i<11->thF f 11 J.length i=f i:=λi hi=>aF hi;refine hM (eP 59) mq QE _ _ _ J _ K (Fθ.lr (bT (.qis n))) (E.rep hr hz)
  (S (λx=>∀fl r U s J',x=ir fl r s->LR (thF f 11 J.length) r U->bu QK J (thF f 11 J.length) s J'->K (gY (thF f 11 J.length) fl) U J') (λu fl r U s J' e Y R=>?_) λhc u=>(hc rfl).elim)
  λfl r U s J' Y R h=>h fl r U s J' rfl Y R
 refine IR (AX (v:=.int n) hr (AZ rfl) (sm (vO hn) (ji hn5)) e.symm Y R) λer0 len s0 s2 s3 s1 tx emb=>?_;subst er0;have g:∀i,i<9->thF f 11 J.length (nS 9 10 i)=f i:=λi hi=>by exact(PK _ (vt hi)).trans (t0 i (OV hi (by decide)))
 rw[t0 0 dc] at s0;rw[t0 5 dc] at s2;have E':=nW (k:=9) (j:=10) rfl R.inj emb (eB E.low E.len E.old R);rw[show L - ((0:Nat):Int)=L from Int.sub_zero L] at E';exact h0 (λi=>thF f 11 J.length (nS 9 10 i)) J' U _ (g 0 dc) (g 1 dc) (g 2 dc) (g 5 dc) E' tx ⟨len,s0,s2,s1,λc fs q=>by rw[s3] at q;have:=tx.val;rw[OO (OO q)] at this;cases this⟩ s3
end
section
variable{n:Nat}{F:Call}{st:PS}{ss b:List PS}{hd:Option aH}{U:Loc}{J:Hp}{K:KS}
theorem aS(h:ux F st hd U J (lI F ss hd K)):ax F (st::ss) hd U J K:=h
theorem nY{e:PE}(h:cR (bP F hd) e U J (λv J=>i<U.length/\K .next (U.set i (QA v)) J) λer J=>K (.err er) U J):ux F (.a (.v i) e) hd U J K:=h
theorem aK{k:AV->Prop}(e:U[i]?=QA (QA v))(h:k v):cL U i k:=by unfold cL;exact e.symm▸h
theorem A5{KV:KV}(e:U[i]?=QA (QA v))(hv:bF v=QI)(h:KV v J):cR F (.v i) U J KV Er:=aK e ⟨hv,h⟩
theorem Km{t x:Nat}(e:U[x]?=QA (QA (.tup vs)))(h:qd (yO F (.v t)) (ax F b QE) (.fixed vs) K N 0 U J):ux F (.r (.v t) (.v x) b) QE U J K:=by show cL U x λv=>bF v=QI/\cC (o8 J v) λsrc=>qd (yO F (.v t)) (ax F b QE) src K N 0 U J;exact aK e ⟨rfl,h⟩
theorem nZ{again:Loc->Hp->Prop}(h:again U J):lT again K .next U J:=h
theorem uc{e:PE}(h:cR (bP F hd) e U J (λv J=>K (.ret v) U J) λer J=>K (.err er) U J):ux F (.ret e) hd U J K:=h
theorem gb{f:Nat}{fd:Fn}{KV:KV}(e:Pg.fn f=QA fd)(U:Loc)(q:cD fd args=QA U)(h:ax (ef n) fd.body QE U J (bk KV Er)):ef (n+1) f args J KV Er:=cY e (cY q h)
end
abbrev Kn(rs:List AV)(K:KS):Nat->Nat->Loc->Hp->Prop:=qd (yO D8 (.v 4)) (ax D8 mq QE) (.fixed rs) K
theorem pY(h:rs[i]?=QA t)(hl:4<U.length)(hb:ax D8 mq QE (U.set 4 (QA t)) J (lT (Kn rs K n (i+1)) K)):Kn rs K (n+1) i U J:=by show cC (QA rs[i]?) _;exact h.symm▸(⟨hl,hb⟩)
def HE(fin:Bool)(R:Option (List AV×Nm)->Prop)(b:Bool)(n:Int)(ls:List Ln)(L:Int):Prop:=
 (1<=L->A4 fin R ls ⟨b,QE,QE,n⟩ (L - 1) [] (am n))/\(L<1->R QE)
def eD(fin b:Bool)(n:Int)(ls:List Ln):List AV:=Ln.tree (.newp b)::Ln.tree (.qis n)::(ls.map Ln.tree++cond fin [tR (tN [113])] [])
theorem bG{a b:List AV}(ha:ag a=QI)(hb:ag b=QI):ag (a++b)=QI:=by
 induction a with
 |nil=>exact hb
 |cons x xs ih=>exact OD.mpr ⟨(OD.mp ha).1,ih (OD.mp ha).2⟩
theorem lJ(fin b:Bool)(n:Int)(ls:List Ln):ag (eD fin b n ls)=QI:=by
 refine OD.mpr ⟨bT (.newp b),OD.mpr ⟨bT (.qis n),bG ?_ ?_⟩⟩
 ·induction ls with
  |nil=>rfl
  |cons l ls ih=>exact OD.mpr ⟨bT l,ih⟩
 ·cases fin<;>rfl
theorem yj{fin:Bool}{n:Int}{ls:List Ln}{R:Option (List AV×Nm)->Prop}{K:KV}(hn:0<=n)(hn5:n<5)(hA:∀l,l∈ls->fF l)(hl:ls.length<40)(E:vn O 9 f (eD fin b n ls) .none ⟨L,[],[],[],.none⟩ J)
  (hN:∀J v out t,im O f (eD fin b n ls) out v t J->R (QA (out,t))->K v J) (hR:∀J h v out t,im O f (eD fin b n ls) out v t J->R (QA (out,t))->Er (.own 7 [h,v]) J) (hE:∀J,R QE->Er .verr J)
  (H:HE fin R b n ls L):ef 60 30 [.obj (f 0),.tup (eD fin b n ls),.obj (f 5)] J K Er:=by
 have hr:=lJ fin b n ls;have F0:Fr [QA (.obj (f 0)),QA (.tup (eD fin b n ls)),QA (.obj (f 5)),QA .none,QE] (f 0) (f 5):=⟨rfl,rfl,rfl,nofun,nofun⟩;refine gb (n:=59) (fd:=P3.f30) rfl [QA (.obj (f 0)),QA (.tup (eD fin b n ls)),QA (.obj (f 5)),QE,QE] rfl (aS (nY ⟨show 3<5 by decide,aS (Km (vs:=eD fin b n ls) rfl ?_)⟩));generalize hK:lI (ef 59) [.ret (.v 3)] QE (bk K Er)=K2;have hE2:∀U J,R QE->K2 (.err .verr) U J:=λU J h=>by exact hK.symm▸(hE J h)
 refine pY (n:=3999) rfl (show 4<5 by decide) (Ea hr E F0 (λh1 f1 J1 U1 a0 a1 a2 a5 E1 Fρ1=>?_) λh1 U J=>hE2 U J (H.2 h1));refine nZ (pY (n:=3998) (i:=1) rfl (by rw[Fρ1.len];decide) (Eb (f:=f1) hr hn hn5 (Nh h1) E1 (by rw[a0,a5];exact Fρ1) λf2 J2 U2 v b0 b1 b2 b5 E2 tx Fρ2 s3=>?_));refine nZ (yi (rs:=eD fin b n ls) hr f (λJ U v out t Ed s3 hR=>?_) (λU J h v out t Ed hr'=>by(refine hK▸?_);exact hR J h v out t Ed hr') hE2 ls _ (L - 1) [] (am n) 2 3998 U2 J2 f2 v 5 rfl (by exact OI ‹_› dc) hA dc (Pw (PB (Int.mul_le_mul_of_nonneg_left (Qm ((Qc (m:=40)).mpr hl)) (by decide)) 5) (by decide)) ⟨(λu e=>by exact nn e),(λu e=>by exact nn e),by show -5<=n/\n<=5;exact Ng hn hn5⟩ rfl (by show 0+ls.length<1000;exact OV (O4 hl _) (by decide)) (Nh h1) E2 (b0.trans a0) (b1.trans a1) (b2.trans a2) ?_ s3 tx (H.1 h1))
 ·exact hK.symm▸(aS (uc (A5 s3 Ed.txt.val (hN J v out t Ed hR))))
 ·rw[b0,b5];exact Fρ2
def MB(l:List (Option az)):Nat->Tr->Tr:=List.rec (λu t=>t) (λo u ih n t=>ih (Nat.succ n) (Option.rec t (λo=>iP o 30 t n) o)) l
def ND(l:List (Option az))(od:List Int)(ob:List Bool):GS:=⟨MB l 0 .leaf,ao l,[],QE,od,ob⟩
theorem Ec(l:List (Option az)):∀(n:Nat) (t:Tr) (k:Nat) (o:az),aG (MB l n t) k=QA o->(∃i,k=n+i/\l[i]?=QA (QA o))\/aG t k=QA o:=by
 induction l with
 |nil=>exact λn t k o h=>.inr h
 |cons x r ih=>
  intro n t k o h;rcases ih (n+1) _ k o h with⟨i,e,q⟩|h
  ·exact .inl ⟨i+1,Fk e,q⟩
  ·cases x with
   |none=>exact .inr h
   |some x=>
    rcases gv _ _ _ _ _ _ h with⟨e,q⟩|h
    ·exact .inl ⟨0,e,PK (λz=>QA (QA z)) q.symm⟩
    ·exact .inr h.2
theorem Ee{l:List (Option az)}{od:List Int}{ob:List Bool}(inj:∀i j,i<l.length->j<l.length->f i=f j->i=j)(lt:∀i,i<l.length->f i<J.length)
  (get:∀k o,l[k]?=QA (QA o)->J[f k]?=QA (gp (thF f l.length J.length) o)):bu QK J (thF f l.length J.length) (ND l od ob) J:=by
 refine⟨λi j e=>?_,λj=>?_,λk o e=>?_,OX _,λu u u=>rfl,nofun⟩
 ·exact wC inj lt i j e
 ·exact(PK (λc=>thF f l.length J.length (c+j)) (aq l)).trans AW
 ·rcases Ec l 0 .leaf k o e with⟨i,q,z⟩|h
  ·rw[Nat.zero_add] at q;subst q;have:thF f l.length J.length k=f k:=if_pos (OG.mp z).1;exact(PK _ this).trans (get k o z)
  ·exact nn h
abbrev Om:GC:=gC QK 60
def gK(i:Nat):Nat:=Option.rec 0 (λk=>k) (be [0,1,2,3,4,6,5,7,8] i)
theorem Ef(rs:List AV)(L:Int)(Ow:Flow->Loc->List (Option az)->Prop):me QK Om (P3.f35.body.take 4) QE [QA (bh rs),QA (.int L),QE,QE,QE,QE,QE,QE] (gs [] [] []) (λfl U s=>Ow fl U (rh [0,1,2,3,4,6,5,7,8] s))=
 Ow .next [QA (bh rs),QA (.int L),QA (.obj 0),QA (.obj 5),QA (.obj 6),QA (.str [113]),QE,QE] (iV ((cZ gK rs .none ⟨L,[],[],[],.none⟩).take 9)):=by kernel_rfl
section
variable{J:Hp}{K:KV}{Er:KE}
theorem rC{a b:List PS}{K:KS}(e:U[i]?=QA (QA v))(hv:bF v=QI)(hc:v.ctorIdx≠0)(h:ax F b QE U J K):ux F (.i (.p .is (.v i) (.c .none)) a b) QE U J K:=by show cL U i λv=>bF v=QI/\∃k,eQ J .is v .none k/\cM k (ax F a QE U J K) (ax F b QE U J K);exact aK e ⟨hv,QK,.is _ _ _ (.xn _ hc),h⟩
theorem A6{a b:List PS}{K:KS}(e:U[i]?=QA (QA v))(hv:bF v=QI)(hc:v.ctorIdx≠1)(h:ax F b QE U J K):ux F (.i (.o [.p .is (.v i) (.c (.bool QI)),.p .is (.v i) (.c (.bool QK))]) a b) QE U J K:=by show cL U i λv=>bF v=QI/\∃k,eQ J .is v (.bool QI) k/\cM (k==QK) (cL U i λv=>bF v=QI/\∃k,eQ J .is v (.bool QK) k/\cM k (ax F a QE U J K) (ax F b QE U J K)) (cM k (ax F a QE U J K) (ax F b QE U J K));exact aK e ⟨hv,QK,.is _ _ _ (.xb _ _ hc),aK e ⟨hv,QK,.is _ _ _ (.xb _ _ hc),h⟩⟩
theorem Ko{a b:List PS}{K:KS}{k:Bool}(e:U[i]?=QA (QA v))(hv:bF v=QI)(hc:jx J v .int k)(h:cM k (ax F a QE U J K) (ax F b QE U J K)):ux F (.i (.isinst (.v i) .int) a b) QE U J K:=by show cL U i λv=>bF v=QI/\∃k,jx J v .int k/\cM k (ax F a QE U J K) (ax F b QE U J K);exact aK e ⟨hv,k,hc,h⟩
theorem HF{r:Nat}{t:Nm}(h:cI J v t)(hk:K (.str t) J):ef (n+1) 27 [.obj r,v] J K Er:=by
 refine gb (fd:=P3.f27) rfl [QA (.obj r),QA v] rfl ?_;have jJ:v.ctorIdx≠0->v.ctorIdx≠1->(∃k,jx J v .int k/\cM k (ax (ef n) [.ret (.bf .str [.v 1])] QE [QA (.obj r),QA v] J (lI (ef n) (P3.f27.body.drop 3) QE (bk K Er))) (ax (ef n) (P3.f27.body.drop 3) QE [QA (.obj r),QA v] J (bk K Er)))->ax (ef n) P3.f27.body QE [QA (.obj r),QA v] J (bk K Er):=
  λh0 h1 h2=>h2.elim λk hh=>aS (rC rfl h.val h0 (aS (A6 rfl h.val h1 (aS (Ko rfl h.val hh.1 hh.2)))))
 cases h with
 |none=>exact⟨rfl,QI,.is _ _ _ .nn,hk⟩
 |bool b=>cases b with
  |true=>exact aS (rC rfl rfl nofun ⟨rfl,QI,.is _ _ _ (.bb QI QI),rfl,_,_,.strB QI,.lower _,_,_,.lowT,hk⟩)
  |false=>exact aS (rC rfl rfl nofun ⟨rfl,QK,.is _ _ _ (.bb QK QI),rfl,QI,.is _ _ _ (.bb QK QK),rfl,_,_,.strB QK,.lower _,_,_,.lowF,hk⟩)
 |int i hi=>exact jJ nofun nofun ⟨QI,.ii i,rfl,_,_,.strI i hi,hk⟩
 |blk a fs e=>exact jJ nofun nofun ⟨QK,.oi a _ fs e,rfl,QI,.oo a 3 fs 3 e,hk⟩
 |cls a fs x e ex=>exact jJ nofun nofun ⟨QK,.oi a _ fs e,rfl,QK,.oo a 2 fs 3 e,rfl,QI,.oo a 2 fs 2 e,rfl,_,.own a 2 fs 17 _ e rfl ex,hk⟩
 |obj a fs x e ex hx=>exact jJ nofun nofun ⟨QK,.oi a _ fs e,rfl,QK,.oo a 1 fs 3 e,rfl,QK,.oo a 1 fs 2 e,rfl,_,.own a 1 fs 15 _ e rfl ex,_,_,.addS _ _ hx,hk⟩
end
abbrev NE:Call:=ef 60
theorem jd{l:List PS}(n:Nat)(h:ax F (l.take n++l.drop n) hd U J K):ax F l hd U J K:=by rw[List.take_append_drop] at h;exact h
section
variable{O:Hp}{fin b:Bool}{n:Int}{ls:List Ln}{R:Option (List AV×Nm)->Prop}{L:Int}{J:Hp}{U:Loc}{f:Nat->Nat}
theorem Eg{t:Nm}{K:KV}(h2:U[2]?=QA (QA (.obj (f 0))))(h6:U[6]?=QA (QA v))(E:im O f rs out v t J)(hl:out.length+1<=aE)
  (hk:∀J' a,O.length<=J'.length->(∀a,a<O.length->J'[a]?=O[a]?)->O.length<=a->J'[a]?=QA (.list (out++[.str t]))->K (.obj a) J'):ax NE (P3.f35.body.drop 5) QE U J (bk K Er):=by
 obtain⟨nq0,el,_,tx,_,len,old⟩:=E;obtain⟨L,er⟩:=nq0;have lt:=(OG.mp el).1;refine aK h2 ⟨rfl,_,.own (f 0) 6 _ 27 _ er rfl rfl,aK h2 ⟨rfl,kz er (cY rfl ⟨rfl,aK h6 ⟨tx.val,HF (n:=59) tx ?_⟩⟩)⟩⟩;refine⟨_,_,.addL (f 1) J.length out [.str t] ((OR lt).trans el) ?_ ?_,hk _ _ ?_ ?_ ?_ ?_⟩
 ·rw[Pn (OX _),Nat.sub_self];rfl
 ·exact OP.symm▸hl
 ·rw[OP,OP];exact OK len (OK (O1 _ _) (O1 _ _))
 ·intro a ha;exact(OR (by rw[OP];exact OV ha (OK len (O1 _ _)))).trans ((OR (OV ha len)).trans (old a ha))
 ·rw[OP];exact OK len (O1 _ _)
 ·rw[Pn (OX _),Nat.sub_self];rfl
theorem vu(h:bF v=QI):LS θ QE (QA v):=⟨(λu h=>nn h),λc fs u q=>by rw[OO q] at h;exact ff h⟩
theorem HG(hi:i<9)(hj:j<9)(e:gK i=gK j):i=j:=by
 have:∀i,i<9->∀j,j<9->gK i=gK j->i=j:=by decide
 exact this i hi j hj e
theorem HI{K:KV}(hn:0<=n)(hn5:n<5)(hA:∀l,l∈ls->fF l)(hl:ls.length<40)(H:HE fin R b n ls L)
  (hlim:∀out t,R (QA (out,t))->out.length+1<=aE)
  (hk:∀J' a out t,R (QA (out,t))->J.length<=J'.length->(∀a,a<J.length->J'[a]?=J[a]?)->J.length<=a->J'[a]?=QA (.list (out++[.str t]))->K (.obj a) J')
  (hE:∀J',R QE->Er .verr J'):ef 61 35 [bh (eD fin b n ls),.int L] J K Er:=by
 have hr:=lJ fin b n ls;have RP:bu QK J (thF (λk=>k) 0 J.length) (gs [] [] []) J:=jH (l:=[]) (f:=λk=>k) nofun nofun;have tk:∀k,thF (λk=>k) 0 J.length k=J.length+k:=λk=>if_neg (Nat.not_lt_zero k);refine gb (n:=60) (fd:=P3.f35) rfl [QA (bh (eD fin b n ls)),QA (.int L),QE,QE,QE,QE,QE,QE] rfl (jd 4 ?_);have Y0:LR (thF (λk=>k) 0 J.length) [QA (bh (eD fin b n ls)),QA (.int L),QE,QE,QE,QE,QE,QE] [QA (bh (eD fin b n ls)),QA (.int L),QE,QE,QE,QE,QE,QE]:=
  .cons ⟨λv e=>by cases e;rw[bw _ (dq hr)],nofun⟩ (.cons (.ren (QA (.int L))) (.cons (.ren QE) (.cons (.ren QE) (.cons (.ren QE) (.cons (.ren QE) (.cons (.ren QE) (.cons (.ren QE) .nil)))))))
 have Q:=Ef (eD fin b n ls) L λfl r l=>∀s U J',l=rh [0,1,2,3,4,6,5,7,8] s->LR (thF (λk=>k) 0 J.length) r U->bu QK J (thF (λk=>k) 0 J.length) s J'->lI (ef 60) (P3.f35.body.drop 4) QE (bk K Er) (gY (thF (λk=>k) 0 J.length) fl) U J';refine eV (hd:=QE) (eP 60) (λfl r U s J' Y R h=>h s U J' rfl Y R) (P3.f35.body.take 4) _ _ _ J Y0 RP (Eq.mpr Q ?_);intro s U J' hv Y RR;have e1:ren (thF (λk=>k) 0 J.length) (bh (eD fin b n ls))=bh (eD fin b n ls):=bw _ (dq hr);have s0:U[0]?=QA (QA (bh (eD fin b n ls))):=(Y.get (i:=0) rfl).trans (by rw[e1]);have s2:U[2]?=QA (QA (.obj (thF (λk=>k) 0 J.length (gK 0)))):=Y.get (i:=2) rfl;have s4:U[4]?=QA (QA (.obj (thF (λk=>k) 0 J.length (gK 5)))):=Y.get (i:=4) rfl;have sl:U.length=8:=Y.len;have E:vn J 9 (λi=>thF (λk=>k) 0 J.length (gK i)) (eD fin b n ls) .none ⟨L,[],[],[],.none⟩ J':=by
  refine⟨λi j hi hj e=>HG hi hj (RR.inj _ _ e),λi o e=>?_,λi u=>by show _<=thF _ _ _ _;rw[tk];exact O1 _ _,RR.le,λa h=>RR.fr a h λk e=>by rw[tk] at e;exact Qk _ (OV h (OK (O1 _ _) (Ql e)))⟩;have w:cZ (λi=>thF (λk=>k) 0 J.length (gK i)) (eD fin b n ls) .none ⟨L,[],[],[],.none⟩=(cZ gK (eD fin b n ls) .none ⟨L,[],[],[],.none⟩).map (gp (thF (λk=>k) 0 J.length)):=(kC (θ:=thF (λk=>k) 0 J.length) (g:=gK) (p:=.none) (z:=⟨L,[],[],[],.none⟩) hr ⟨rfl,rfl,rfl⟩).symm;rw[w, <-List.map_take,List.getElem?_map] at e;cases qo:((cZ gK (eD fin b n ls) .none ⟨L,[],[],[],.none⟩).take 9)[i]? with
  |none=>rw[qo] at e;exact nn e
  |some x=>
   rw[qo] at e;cases e;have hi:i<9:=(OG.mp qo).1;refine RR.get _ _ (iX hv.symm i (gK i) x ?_ qo);have:∀i,i<9->[0,1,2,3,4,6,5,7,8][i]?=QA (gK i):=by decide
   exact this i hi
 have run:J'[thF (λk=>k) 0 J.length (gK 0)]?=_:=E.get 0 _ rfl;have fin1:∀U1 J1 v out t,U1[2]?=QA (QA (.obj (thF (λk=>k) 0 J.length (gK 0))))->U1[6]?=QA (QA v)->im J (λi=>thF (λk=>k) 0 J.length (gK i)) (eD fin b n ls) out v t J1->R (QA (out,t))->ax NE (P3.f35.body.drop 5) QE U1 J1 (bk K Er):=
  λU1 J1 v out t q2 q6 Ed hR=>Eg (f:=λi=>thF (λk=>k) 0 J.length (gK i)) q2 q6 Ed (hlim out t hR) λJ2 a h1 h2 h3 h4=>hk J2 a out t hR h1 h2 h3 h4
 have l6:∀v,(U.set 6 (QA v))[6]?=QA (QA v):=λv=>OT (by rw[sl];decide);refine aK s2 ⟨rfl,kz run (cY rfl ⟨rfl,aK s0 ⟨rfl,_,.tup _ 3 _ rfl,aK s4 ⟨rfl,yj (f:=λi=>thF (λk=>k) 0 J.length (gK i)) hn hn5 hA hl E (λJ1 v out t Ed hR=>?_) (λJ1 h v out t Ed hR=>?_) (λJ1 hR=>?_) H⟩⟩⟩)⟩
 ·refine⟨by rw[sl];decide,?_,?_⟩
  ·exact cg (Y.set (vu (θ:=thF (λk=>k) 0 J.length) Ed.txt.val) 6) rfl
  ·exact fin1 _ J1 v out t ((OM dc).trans s2) (l6 v) Ed hR
 ·refine .inl ⟨rfl,aK (v:=.exc 7 [h,v]) (OT (by rw[sl];decide)) ⟨by rw[Ps,sl];decide,?_⟩⟩;have eq:((U.set 7 (QA (.exc 7 [h,v]))).set 6 (QA v)).set 7 QE=(U.set 7 QE).set 6 (QA v):=by rw[List.set_comm _ _ dc,List.set_set]
  have A:aP (((U.set 7 (QA (.exc 7 [h,v]))).set 6 (QA v)).set 7 QE)=QI:=by rw[eq];exact cg ((Y.set (.ren QE) 7).set (vu (θ:=thF (λk=>k) 0 J.length) Ed.txt.val) 6) rfl
  refine⟨A,A,fin1 _ J1 v out t ?_ ?_ Ed hR⟩
  ·rw[eq,OM dc,OM dc];exact s2
  ·rw[eq];exact OT (by rw[Ps,sl];decide)
 ·exact⟨cg Y rfl,hE J1 hR⟩
end
noncomputable def Lh:List PS:=match P3.f0.body with
 |[_,_,_,.w _ b,_]=>b
 |_=>[]
structure Sm where
 sl:List (Option (Option AV))
 n:Nat
 no:Bool
 ob:List (Option az)
def HJ(is js:List Nat)(U:Loc)(s:GS):Sm:=⟨fu (be U) is,ao U,fo U,fu (aG s.t) js⟩
abbrev E0:=Option (Option Sm)
def Eh(fl:Flow)(U:Loc)(s:GS):E0:=match fl with
 |.cont=>QA (QA (HJ [0,1,2,3] [0] U s))
 |.err e=>match e with
  |.verr=>QA QE
  |_=>QE
 |_=>QE
noncomputable def go0 (t:Nm) (i:Int) (out:List AV):E0:=QA (QA ⟨[QA (QA (.str t)),QA (QA (.obj 0)),QA (QA (.int i)),QA (QA .word)],7,QI,[QA (.list out)]⟩)
section
variable(wE:Nm->Nat->Nat)(T:Nm)(n:Nat)(out:List AV)(Ow:E0->Prop)
def wF:GC:=λf args s K u=>bt (Nat.beq f 41) (List.rec False (λa r u=>List.rec False (λb r u=>List.rec (eu a λT=>gk b λi=>Int.rec (λn=>T.length<3999/\K (.int (.ofNat (wE T n))) s) (λu=>False) i) (λu u u=>False) r) r) args)
def lK(a:Bool)(m:(Bool->Prop)->Prop)(k:Bool->Prop):Prop:=cond (a==QI) (m k) (k a)
def Kp(a:Bool)(m:(Bool->Prop)->Prop)(k:Bool->Prop):Prop:=cond (a==QK) (m k) (k a)
noncomputable def HK:List AV:=[.str No,.str nM,.str Aa,.str mE,.str md,.str iu]
def oR(k:Nm)(v:AV)(i:Nat):Prop:=bt (Nat.blt (ao out) aE) (Ow (go0 T (.ofNat i) (ai out [.tup [.str k,v]])))
noncomputable def A7 (i j:Nat):Nm:=(T.take j).drop i
def wI(j:Nat)(w:Nm):Prop:=
 lK (iR (A7 T j (j+1)) [58]) (λk=>k (not (iR (A7 T j (j+2)) [58,61]))) λb=>cond b
  (oT (tu (.str w) HK) λr=>cond r (Ow (QA QE)) (bt (Nat.ble (ao (ai w [58])) aE) (oR T out Ow [107,101,121] (.str (ai w [58])) (j+1))))
  (oT (tu (.str w) HK) λr=>cond r (oR T out Ow [114,101,115] (.str w) j) (oR T out Ow [110,97,109,101] (.str w) j))
def Ei(w:Nm)(k:Prop):Prop:=bt (w.all eZ) (bt (not (cq w)) (bt (Nat.ble (ao w) 100) k))
def HM(j:Nat)(w:Nm):Prop:=
 bt (aL w) (Kp (not (w.all eZ&& !w.isEmpty)) (λk=>Ei w (bt (cN (.ofNat (iz w))) (k (not (iR (am (.ofNat (iz w))) w))))) λb=>cond b (Ow (QA QE)) (Ei w (oR T out Ow [105,110,116] (.int (.ofNat (iz w))) j)))
def HN(j:Nat)(w:Nm):Prop:=
 Kp (not (not (cq w))) (λk=>oT (be w 0) λc=>bt (aL [c]) (Kp (not ([c].all kZ&& ![c].isEmpty)) (λk=>oT (tu (.str w) HK) k) k)) λb=>cond b (Ow (QA QE)) (oR T out Ow [112,97,114,97,109] (.str w) j)
def yk(q:Prop->Prop):Prop:=oT (be T n) λc=>
 cond (xU [c] [32,10]) (Ow (go0 T (.ofNat (n+1)) out))
 (lK (aL [c]) (λk=>bt (aL [c]) (k ([c].all kZ&& ![c].isEmpty))) λb=>cond b (q (wI T out Ow (wE T n) (A7 T n (wE T n))))
 (lK (aL [c]) (λk=>bt (aL [c]) (k ([c].all eZ&& ![c].isEmpty))) λb=>cond b (q (HM T out Ow (wE T n) (A7 T n (wE T n))))
 (cond (iR (A7 T n (n+2)) [58,61]) (oR T out Ow [111,112] (.str [58,61]) (n+2))
 (cond (iR [c] [58]) (q (HN T out Ow (wE T (n+1)) (A7 T (n+1) (wE T (n+1)))))
 (cond (xU [c] [43,45,42,60,62,61]) (oR T out Ow [98,105,110] (.str [c]) (n+1))
 (cond (xU [c] [40,41,91,93,124,46,94]) (oR T out Ow [111,112] (.str [c]) (n+1)) (Ow (QA QE))))))))
theorem A8:me QK (wF wE) Lh QE [QA (.str T),QA (.obj 0),QA (.int (.ofNat n)),QA .word,QE,QE,QE] (gs [.list out] [] []) (λfl U s=>Ow (Eh fl U s))=yk wE T n out Ow (λA=>T.length<3999/\A):=by kernel_rfl
end
noncomputable def wJ:PE:=match P3.f41.body with
 |[_,.w t _,_]=>t
 |_=>.c .none
noncomputable def MC:List PS:=match P3.f41.body with
 |[_,.w _ b,_]=>b
 |_=>[]
noncomputable def A9 (c:Nat):Bool:=aL [c]&&([c].all jw&& ![c].isEmpty)
def aln(x:Nm):Nat:=List.rec 0 (λc u ih=>cond (A9 c) (Nat.succ ih) 0) x
theorem yl(F:GC)(T:Nm)(j:Nat)(K:Bool->GS->Prop)(X:GX):pU QK F wJ [QA (.str T),QE,QA (.int (.ofNat j))] (gs [] [] []) K X=
 lK (decide (Int.ofNat j<Int.ofNat (ao T))) (λk=>oT (be T j) λc=>lK (aL [c]) (λk=>oT (be T j) λc=>bt (aL [c]) (k ([c].all jw&& ![c].isEmpty))) k) (λb=>K b (gs [] [] [])):=by kernel_rfl
theorem Ba{a:Bool}{m:(Bool->Prop)->Prop}{k:Bool->Prop}(e:a=QI)(h:m k):lK a m k:=by exact e.symm▸h
theorem Bb{a:Bool}{m:(Bool->Prop)->Prop}{k:Bool->Prop}(e:a=QK)(h:k QK):lK a m k:=by exact e.symm▸h
theorem Kq{o:Option α}{a:α}{f:α->Prop}(e:o=QA a)(h:f a):oT o f:=by exact e.symm▸h
theorem n3{T:List α}{c:α}{x:List α}(e:T.drop j=c::x):be T j=QA c/\j<T.length/\T.drop (j+1)=x:=by
 have h1:T[j]?=QA c:=by have:=PK (λl=>l[0]?) e;rw[PZ] at this;exact this
 exact⟨(cA T j).trans h1,(OG.mp h1).1,by((refine(Qa ..)▸?_;refine e.symm▸?_));rfl⟩
theorem Bc{T:Nm}:decide (Int.ofNat j<Int.ofNat (ao T))=decide (j<T.length):=by
 (refine(aq ..).symm▸?_)
 exact decide_eq_decide.mpr Qc
theorem MD(J:Hp):bu QK J (thF (λk=>k) 0 J.length) (gs [] [] []) J:=jH (l:=[]) (f:=λk=>k) nofun (λu u h=>nn h)
theorem Ej{t:Tr}{pv:Option AV}{od:List Int}{ob:List Bool}(R:bu QK J (thF (λk=>k) 0 J.length) ⟨t,0,tk,pv,od,ob⟩ J'):J'=J:=by
 have hl:J.length=J'.length:=by have:=R.nx 0;unfold thF at this;rw[if_neg (Nat.not_lt_zero _)] at this;exact this
 refine List.ext_getElem? λa=>?_;by_cases h:a<J.length
 ·refine R.fr a h λk e=>?_;unfold thF at e;rw[if_neg (Nat.not_lt_zero _)] at e;exact Qk _ (OV h (OK (O1 _ _) (Ql e)))
 ·rw[List.getElem?_eq_none (OK (Ql hl.symm) (Pd.mp h)),List.getElem?_eq_none (Pd.mp h)]
def ME(x:Nm):Bool:=List.rec QK (λc u u=>A9 c) x
theorem Be{T:Nm}(x:Nm)(e:T.drop j=x)(k:Bool->Prop)(h:k (ME x)):
  lK (decide (Int.ofNat j<Int.ofNat (ao T))) (λk=>oT (be T j) λc=>lK (aL [c]) (λk=>oT (be T j) λc=>bt (aL [c]) (k ([c].all jw&& ![c].isEmpty))) k) k:=by
 rw[Bc];cases x with
 |nil=>exact Bb (PM λq=>by have:=PK List.length e;rw[List.length_drop] at this;simp at this;exact Nat.sub_ne_zero_of_lt q this) h
 |cons c x=>
  refine eI (n3 e) λh1 h2 u=>Ba (PL h2) (Kq h1 ?_);have h:k (aL [c]&&([c].all jw&& ![c].isEmpty)):=h;cases a:aL [c] with
  |true=>rw[a] at h;exact Ba rfl (Kq h1 (AK a h))
  |false=>rw[a] at h;exact Bb rfl h
theorem ym{T:Nm}{o:Option AV}(ho:∀c fs,o≠QA (.exc c fs))(F0:GC)(H:∀J,AH QK J (thF (λk=>k) 0 J.length) F0 F):∀(x:Nm) (j n:Nat) (J:Hp),T.drop j=x->x.length+1<=n->K .next [QA (.str T),o,QA (.int (j+aln x:Nat))] J->
  eE (fO F wJ) (ax F MC QE) K n [QA (.str T),o,QA (.int j)] J:=by
 have go:∀(x:Nm) (j:Nat) (J:Hp) (Q:Bool->Hp->Prop),T.drop j=x->Q (ME x) J->∀X,fO F wJ [QA (.str T),o,QA (.int j)] J Q X:=λx j J Q e h X=>
  mI (H J) wJ [QA (.str T),QE,QA (.int (.ofNat j))] [QA (.str T),o,QA (.int j)] _ J (λb s=>s=gs [] [] []/\b=ME x) (λu u=>False) Q X
   (.cons (.ren (QA (.str T))) (.cons ⟨(λu h=>nn h),λc fs u q=>ho c fs q⟩ (.cons (.ren (QA (.int j))) .nil))) (MD J) (Eq.mpr (yl _ _ _ _ _) (Be x e _ ⟨rfl,rfl⟩)) (λb s J' R hb=>by refine bj hb λer0 er1=>?_;subst er0;subst er1;rw[Ej R];exact h) λu u u u h=>h.elim
 intro x;induction x with
 |nil=>
  intro j n J e hn h;cases n with
  |zero=>exact absurd hn (Nat.not_succ_le_zero _)
  |succ n=>exact go [] j J _ e h _
 |cons c x ih=>
  intro j n J e hn h;cases n with
  |zero=>exact absurd hn (Nat.not_succ_le_zero _)
  |succ n=>
   refine eI (n3 e) λu u e'=>go (c::x) j J _ e ?_ _;show cM (A9 c) _ _;have ea:aln (c::x)=cond (A9 c) (Nat.succ (aln x)) 0:=rfl
   (replace h:=ea▸h)
   cases q:A9 c with
   |false=>(replace h:=q▸h);exact h
   |true=>
    (replace h:=q▸h)
    refine⟨_,.addI j 1,nZ (ih (j+1) n J e' (Nat.le_of_succ_le_succ hn) ?_)⟩;have z:j+1+aln x=j+(aln x).succ:=O7 _ 1 _;exact z.symm▸h
theorem Ek{T:Nm}{K:KV}(hl:T.length<3999)(h:K (.int (i+aln (T.drop i):Nat)) J):ef (n+1) 41 [.str T,.int i] J K Er:=by
 refine gb (fd:=P3.f41) rfl [QA (.str T),QA (.int i),QE] rfl (aS (nY (A5 (i:=1) rfl rfl ⟨show 2<3 by decide,aS (ym (o:=QA (.int i)) nofun _ (λJ=>eP n) (T.drop i) i 4000 J rfl ?_ ?_)⟩)))
 ·rw[List.length_drop];exact OK (PQ (Nat.sub_le _ _)) (Nat.le_succ_of_le hl)
 ·exact aS (uc (A5 (i:=2) rfl rfl h))
def wK(T:Nm)(n:Nat):Nat:=n+aln (T.drop n)
def Kr(ih:Nm->List AV->(Option (List AV)->Prop)->Prop)(x:Nm)(P:Option (List AV)->Prop)(e:E0):Prop:=Option.rec False (λo=>Option.rec (P QE) (λm=>oT (be m.sl 2) λa=>oT a λa=>oT a λv=>gk v λi=>oT (be m.ob 0) λa=>oT a λa=>fj a λout=>Int.rec (λk=>ih (x.drop k) out P) (λ_=>False) i) o) e
def d0(m:Nat):Nm->List AV->(Option (List AV)->Prop)->Prop:=Nat.rec (λ_ _ _=>False) (λ_ ih x out P=>List.rec (P (QA out)) (λc x' _=>yk wK (c::x') 0 out (Kr ih (c::x') P) λA=>A) x) m
section
variable{A A' B B':Prop}{b:Bool}
theorem cj(h:cond b A B)(f:A->A')(g:B->B'):cond b A' B':=by
 cases b with
 |true=>exact f h
 |false=>exact g h
theorem oS(h:bt b A)(f:A->A'):bt b A':=by
 cases b with
 |true=>exact f h
 |false=>exact h
theorem vx{o:Option α}{k k':α->Prop}(h:oT o k)(f:∀a,k a->k' a):oT o k':=by
 cases o with
 |none=>exact h
 |some a=>exact f a h
theorem Bg{m m':(Bool->Prop)->Prop}{k k':Bool->Prop}(h:lK b m k)(f:m k->m' k')(g:∀b,k b->k' b):lK b m' k':=cj h f (g b)
theorem Bh{a:Bool}{k k':Bool->Prop}(h:lK b (λk=>bt a (k d)) k)(g:∀b,k b->k' b):lK b (λk=>bt a (k d)) k':=Bg h (λh=>oS h λh=>g _ h) g
theorem Bi{m m':(Bool->Prop)->Prop}{k k':Bool->Prop}(h:Kp b m k)(f:m k->m' k')(g:∀b,k b->k' b):Kp b m' k':=cj h f (g b)
end
theorem kD(T:Nm)(n i j:Nat):A7 T (n+i) (n+j)=A7 (T.drop n) i j:=by
 unfold A7;rw[List.drop_take,List.drop_take,Qa]
 congr 1;exact Nat.add_sub_add_left _ _ _
theorem wM(T:Nm)(n i:Nat):wK T (n+i)=n+wK (T.drop n) i:=by unfold wK;rw[Qa];exact PW _ _ _
section
variable{T:Nm}{n:Nat}{out:List AV}{P Q:E0->Prop}(hP:∀i o,(ag out=QI->ag o=QI)->P (go0 (T.drop n) (.ofNat i) o)->Q (go0 T (.ofNat (n+i)) o))(hB:P (QA QE)->Q (QA QE))
theorem iY(hv:dP v=QI)(h:ag out=QI):ag (ai out [v])=QI:=by exact(PK _ (ae ..)).trans (bG h (OD.mpr ⟨hv,rfl⟩))
include hP
theorem fV{k:Nm}{i:Nat}(hv:dP v=QI)(h:oR (T.drop n) out P k v i):oR T out Q k v (n+i):=oS h λh=>hP _ _ (iY (OD.mpr ⟨hv,rfl⟩)) h
include hB
theorem HO{w:Nm}(h:wI (T.drop n) out P j w):wI T out Q (n+j) w:=by
 unfold wI at h ⊢
 ((refine(PW ..).symm▸?_;refine(PW ..).symm▸?_;refine(kD ..).symm▸?_;refine(kD ..).symm▸?_))
 exact Bg h (λh=>cj h (λh=>vx h λr h=>cj h hB λh=>oS h λh=>fV hP rfl h) λh=>vx h λr h=>cj h (λh=>fV hP rfl h) λh=>fV hP rfl h)
  λb h=>cj h (λh=>vx h λr h=>cj h hB λh=>oS h λh=>fV hP rfl h) λh=>vx h λr h=>cj h (λh=>fV hP rfl h) λh=>fV hP rfl h
theorem HP(hT:T.length<3999)(h:yk wK (T.drop n) 0 out P λA=>A):yk wK T n out Q λA=>T.length<3999/\A:=by
 have i_m:∀{w:Nm} {A A':Prop},Ei w A->(A->A')->Ei w A':=λh f=>oS h λh=>oS h λh=>oS h f;have num_m:∀{j:Nat} {w:Nm},HM (T.drop n) out P j w->HM T out Q (n+j) w:=λh=>oS h λh=>Bi h (λh=>i_m h λh=>oS h λh=>cj h hB λh=>i_m h λh=>fV hP rfl h) λb h=>cj h hB λh=>i_m h λh=>fV hP rfl h;have par_m:∀{j:Nat} {w:Nm},HN (T.drop n) out P j w->HN T out Q (n+j) w:=λh=>Bi h (λh=>vx h λc h=>oS h λh=>Bi h (λh=>vx h λr h=>cj h hB λh=>fV hP rfl h) λb h=>cj h hB λh=>fV hP rfl h) λb h=>cj h hB λh=>fV hP rfl h;have e0:be (T.drop n) 0=be T n:=by rw[cA,cA,PZ];rfl
 have w0:wK T n=n+wK (T.drop n) 0:=wM T n 0;have w1:wK T (n+1)=n+wK (T.drop n) 1:=wM T n 1;have c0:∀j,A7 T n (n+j)=A7 (T.drop n) 0 j:=λj=>kD T n 0 j;unfold yk at h ⊢;rw[e0] at h;rw[w0,w1,c0,c0,kD];exact vx h λc h=>cj h (λh=>hP 1 out id h) λh=>Bh h λb h=>cj h (λh=>⟨hT,HO hP hB h⟩) λh=>Bh h λb h=>cj h (λh=>⟨hT,num_m h⟩) λh=>cj h (λh=>fV hP rfl h) λh=>cj h (λh=>⟨hT,par_m h⟩) λh=>cj h (λh=>fV hP rfl h) λh=>cj h (λh=>fV hP rfl h) hB
end
theorem Gg{pk:Bool}{B:Hp}:AH pk B θ (wF wK) (ef (n+1)):=by
 intro f args s J K X K' X' R h k x;refine b7 h λe h=>?_;cases OW e;cases args with
 |nil=>exact h.elim
 |cons a r=>cases r with
  |nil=>exact h.elim
  |cons b r=>cases r with
   |cons=>exact h.elim
   |nil=>exact bq (C:=λv=>ef (n+1) 41 [ren θ v,ren θ b] J K' X') h λT h=>cG (C:=λv=>ef (n+1) 41 [.str T,ren θ v] J K' X') h λi h=>Int.rec (motive:=λi=>(Int.rec (λn=>T.length<3999/\K (.int (.ofNat (wK T n))) s) (λu=>False) i:Prop)->ef (n+1) 41 [.str T,.int i] J K' X') (λm h=>Ek h.1 (k _ _ _ R h.2)) (λu h=>h.elim) i h
noncomputable def El:PE:=match P3.f0.body with
 |[_,_,_,.w t _,_]=>t
 |_=>.c .none
theorem Bj(F:GC)(T:Nm)(n:Nat)(out:List AV)(K:Bool->GS->Prop)(X:GX):pU QK F El [QA (.str T),QA (.obj 0),QA (.int (.ofNat n)),QA .word,QE,QE,QE] (gs [.list out] [] []) K X=K (decide (Int.ofNat n<Int.ofNat (ao T))) (gs [.list out] [] []):=by kernel_rfl
theorem Ks{s:GS}{m:Sm}(h:Eh fl U s=QA (QA m)):fl=.cont/\HJ [0,1,2,3] [0] U s=m:=by
 cases fl with
 |cont=>exact⟨rfl,OO (OO h)⟩
 |err e=>cases e with
  |verr=>exact nn (OO h)
  |_=>exact nn h
 |_=>exact nn h
theorem HQ{s:GS}(h:Eh fl U s=QA QE):fl=.err .verr:=by
 cases fl with
 |cont=>exact nn (OO h).symm
 |err e=>cases e with
  |verr=>rfl
  |_=>exact nn h
 |_=>exact nn h
structure Fx(U:Loc)(T:Nm)(a j:Nat):Prop where
 len:U.length=7
 no:aP U=QI
 s0:U[0]?=QA (QA (.str T))
 s1:U[1]?=QA (QA (.obj a))
 s2:U[2]?=QA (QA (.int j))
 s3:U[3]?=QA (QA .word)
theorem Fx.lr{T:Nm}{a:Nat}(h:Fx U T a j){θ:Nat->Nat}(e:θ 0=a):LR θ [QA (.str T),QA (.obj 0),QA (.int (.ofNat j)),QA .word,QE,QE,QE] U:=gZ h.len.symm h.no ⟨h.s0,ml e h.s1,h.s2,h.s3,trivial⟩
theorem Kt{s:GS}{T:Nm}{ob:List (Option az)}(e:HJ [0,1,2,3] [0] r s=⟨[QA (QA (.str T)),QA (QA (.obj 0)),QA (QA (.int (.ofNat i))),QA (QA .word)],7,QI,ob⟩)(Y:LR θ r U):Fx U T (θ 0) i:=
 ⟨Y.len.trans ((aq r).symm.trans (PK Sm.n e)),cg Y ((dZ r).symm.trans (PK Sm.no e)),Y.get ((cA r 0).symm.trans (jb (f:=be r) (is:=[0,1,2,3]) (PK Sm.sl e) (j:=0) rfl rfl)),Y.get (v:=.obj 0) ((cA r 1).symm.trans (jb (f:=be r) (is:=[0,1,2,3]) (PK Sm.sl e) (j:=1) rfl rfl)),Y.get ((cA r 2).symm.trans (jb (f:=be r) (is:=[0,1,2,3]) (PK Sm.sl e) (j:=2) rfl rfl)),Y.get ((cA r 3).symm.trans (jb (f:=be r) (is:=[0,1,2,3]) (PK Sm.sl e) (j:=3) rfl rfl))⟩
theorem HR{a:Nat}(ho:ag out=QI)(h:J[a]?=QA (.list out)):bu QK J (thF (λu=>a) 1 J.length) (gs [.list out] [] []) J:=
 jH (l:=[.list out]) (f:=λu=>a) (λi j hi hj u=>by simp at hi hj;exact hi.trans hj.symm) λk o e=>by
  match k,e with
  |0,e=>cases e;show _=QA (az.list (aD _ out));exact(aC _ ho).symm▸h
theorem Bk{n0:Nat}{T:Nm}{a:Nat}(hT:T.length<3999)(hO:O.length<=a){P:Option (List AV)->Prop}
  (hK:∀out J U,P (QA out)->ag out=QI->J[a]?=QA (.list out)->O.length<=J.length->(∀b,b<O.length->J[b]?=O[b]?)->U[1]?=QA (QA (.obj a))->K .next U J) (hE:P QE->∀U J,K (.err .verr) U J):
  ∀(m n j:Nat) (out:List AV) (J:Hp) (U:Loc),m<=n->ag out=QI->J[a]?=QA (.list out)->O.length<=J.length->(∀b,b<O.length->J[b]?=O[b]?)->Fx U T a j->d0 m (T.drop j) out P->
  eE (fO (ef (n0+1)) El) (ax (ef (n0+1)) Lh QE) K n U J:=by
 intro m;induction m with
 |zero=>intro n j out J U hn ho ha hl hf F h;exact h.elim
 |succ m ih=>
  intro n j out J U hn ho ha hl hf F h;cases n with
  |zero=>exact absurd hn (Nat.not_succ_le_zero _)
  |succ n=>
   refine mI (Gg (n:=n0)) El _ U _ J (λb s=>s=gs [.list out] [] []/\b=decide (Int.ofNat j<Int.ofNat (ao T))) (λu u=>False) _ _ (F.lr (aF dc)) (HR ho ha) (Eq.mpr (Bj _ _ _ _ _ _) ⟨rfl,rfl⟩) (λb s J' R hb=>?_) λu u u u h=>h.elim;refine bj hb λer0 er1=>?_;subst er0;subst er1;have M:∀{s:GS} {o:List AV} {J J':Hp},O.length<=J.length->(∀b,b<O.length->J[b]?=O[b]?)->aG s.t 0=QA (.list o)->ag o=QI->bu QK J (thF (λu=>a) 1 J.length) s J'->J'[a]?=QA (.list o)/\O.length<=J'.length/\∀b,b<O.length->J'[b]?=O[b]?:=by intro s o J J' hl hf ht hno R;have q:=eB (λu u=>hO) hl hf R;have g:=R.get 0 _ ht;have g:J'[a]?=QA (.list (aD _ o)):=g;rw[aC _ hno] at g;exact⟨g,q.2⟩
   refine eI (M hl hf rfl ho R) λha' hl' hf'=>?_;show cM _ _ _;rw[Bc];cases e:T.drop j with
   |nil=>
    rw[e] at h;have q: ¬j<T.length:=λq=>by have:=PK List.length e;rw[List.length_drop] at this;simp at this;exact Nat.sub_ne_zero_of_lt q this
    exact(PM q).symm▸(hK out J' U h ho ha' hl' hf' F.s1)
   |cons c x=>
    rw[PL (n3 e).2.1];have h:d0 (m+1) (c::x) out P:=by rw[e] at h;exact h
    have h:yk wK (T.drop j) 0 out (Kr (d0 m) (c::x) P) (λA=>A):=by exact e.symm▸h
    refine hM (Gg (n:=n0)) Lh QE _ U _ J' _ _ (F.lr (aF dc)) (HR ho ha') (Eq.mpr (A8 wK T j out λe=>∀fl r U s J'',e=Eh fl r s->LR (thF (λu=>a) 1 J'.length) r U->bu QK J' (thF (λu=>a) 1 J'.length) s J''->lT (eE (fO (ef (n0+1)) El) (ax (ef (n0+1)) Lh QE) K n) K (gY (thF (λu=>a) 1 J'.length) fl) U J'')
     (HP (λi o hno hp=>?_) (λhp=>?_) hT h)) λfl r U s J'' Y R h=>h fl r U s J'' rfl Y R
    ·intro fl r U s J'' e1 Y R;refine bj (Ks e1.symm) λer0 e2=>?_;subst er0;have ht:aG s.t 0=QA (.list o):=jb (f:=aG s.t) (is:=[0]) (PK Sm.ob e2) (j:=0) rfl rfl;refine eI (M hl' hf' ht (hno ho) R) λha2 hl2 hf2=>?_;have F2:=Kt e2 Y;rw[aF dc] at F2;refine ih n (j+i) o J'' U (Nat.le_of_succ_le_succ hn) (hno ho) ha2 hl2 hf2 F2 ?_;have hp:d0 m ((c::x).drop i) o P:=hp;rw[<-e,Qa] at hp;exact hp
    ·intro fl r U s J'' e1 Y R;exact(HQ e1.symm).symm▸(hE hp U J'')
section
variable{F:Call}{b:List PS}{U:Loc}{J:Hp}{K:KS}
theorem wO{t:PE}(h:eE (fO F t) (ax F b QE) K N U J):ux F (.w t b) QE U J K:=h
theorem Ku{t:Nat}{x:Nm}(e:U[t]?=QA (QA (.str x)))(h:K .next (U.set i (QA .word)) J):ux F (.defW i t) QE U J K:=aK e h
end
noncomputable def bJ:AV:=.tup [.str [101,110,100],.str []]
structure Cn(O J:Hp):Prop where
 len:O.length<=J.length
 old:∀b,b<O.length->J[b]?=O[b]?
theorem Cn.app(h:Cn O J)(o:az):Cn O (J++[o]):=⟨by rw[OP];exact OK h.len (O1 _ _),λb hb=>(OR (OV hb h.len)).trans (h.old b hb)⟩
theorem fy(o:az):(J++[o])[J.length]?=QA o:=by rw[Pn (OX _),Nat.sub_self];rfl
theorem HS{T:Nm}{n0:Nat}{K:KV}(hT:T.length<3999)(hm:m<=4000)(h:d0 m T [] P)(hl:∀out,P (QA out)->out.length<100000)
  (hK:∀out J' b,P (QA out)->ag out=QI->Cn J J'->J.length<=b->J'[b]?=QA (.list (out++[bJ]))->K (.obj b) J') (hE:P QE->∀J',Er .verr J'):ef (n0+2) 0 [.str T] J K Er:=by
 refine gb (n:=n0+1) (fd:=P3.f0) rfl [QA (.str T),QE,QE,QE,QE,QE,QE] rfl (aS (nY ⟨show 1<7 by decide,aS (nY ⟨show 2<7 by decide,aS (Ku (t:=0) (x:=T) rfl (aS (wO ?_)))⟩)⟩));refine Bk (T:=T) (a:=J.length) (O:=J) (P:=P) hT (OX _) ?_ ?_ m 4000 0 [] (J++[.list []]) [QA (.str T),QA (.obj J.length),QA (.int 0),QA .word,QE,QE,QE] hm rfl (fy _) (by rw[OP];exact O1 _ _) (λb hb=>OR hb) ⟨rfl,rfl,rfl,rfl,rfl,rfl⟩ h
 rotate_left
 ·exact λhp U J'=>hE hp J'
 intro out J' U hp ho ha hl' hf h1;have O':Cn J J':=⟨hl',hf⟩;have la:=(OG.mp ha).1;refine aS (uc (aK h1 ⟨rfl,_,_,.addL J.length J'.length out [bJ] ((OR la).trans ha) (fy _) ?_,hK out _ _ hp ho ((O'.app _).app _) ?_ (fy _)⟩))
 ·rw[OP];have:=hl out hp;unfold aE;show out.length+1<=_;exact OK this dc
 ·rw[OP];exact Pc (OV la (O1 _ _))
noncomputable def kN (w:Nm):AV:=.tup [.str [110,97,109,101],.str w]
noncomputable def kR (w:Nm):AV:=.tup [.str [114,101,115],.str w]
noncomputable def kK (w:Nm):AV:=.tup [.str [107,101,121],.str w]
noncomputable def kI (i:Int):AV:=.tup [.str [105,110,116],.int i]
noncomputable def kO (w:Nm):AV:=.tup [.str [111,112],.str w]
noncomputable def kB (w:Nm):AV:=.tup [.str [98,105,110],.str w]
noncomputable def kP (w:Nm):AV:=.tup [.str [112,97,114,97,109],.str w]
noncomputable abbrev bK:AV:=kO [91]
noncomputable abbrev cx:AV:=kO [93]
noncomputable abbrev eW:AV:=kO [124]
noncomputable abbrev tq3:AV:=kN [112]
noncomputable abbrev tq4:AV:=kO [46]
noncomputable abbrev jO:AV:=kN [65]
noncomputable abbrev kE:AV:=kB [60]
noncomputable abbrev kU:AV:=kN [113]
noncomputable abbrev lL:AV:=kR No
noncomputable abbrev n4:AV:=kN xW
noncomputable abbrev tq10:AV:=kO [94]
noncomputable abbrev fH:AV:=kN [120]
noncomputable abbrev fJ:AV:=kN [67]
noncomputable abbrev hU:AV:=kO [58,61]
noncomputable abbrev jI:AV:=kN [109]
noncomputable abbrev kF:AV:=kO [40]
noncomputable abbrev kG:AV:=kO [41]
noncomputable abbrev ms:AV:=kN [118]
def jJ(l:List Nm):Nm:=List.rec [] (λx u ih=>ai x ih) l
def HT:List (Nm×List AV):=[([115,101,108,102,32,112,114,105,110,116],[kR nM,n4]),([91,32,94,49,32,93,32,112,114,105,110,116],[bK,tq10,kI 1,cx,n4]),([66,32,112,114,105,110,116],[kN [66],n4]),([91,32,93,32,118,97,108,117,101,32,112,114,105,110,116],[bK,cx,kN oM,n4]),([40,65,32,110,101,119,32,61,32,65,32,110,101,119,41,32,112,114,105,110,116],[kF,jO,kN mj,kB [61],jO,kN mj,kG,n4]),([40,51,32,45,32,53,32,45,32,52,32,42,32,50,41,32,112,114,105,110,116],[kF,kI 3,kB [45],kI 5,kB [45],kI 4,kB [42],kI 2,kG,n4]),([40,91,32,58,120,32,58,121,32,124,32,120,32,45,32,121,32,93,32,118,97,108,117,101,58,32,50,32,118,97,108,117,101,58,32,55,41,32,112,114,105,110,116],[kF,bK,kP [120],kP [121],eW,fH,kB [45],kN [121],cx,kK tv,kI 2,kK tv,kI 7,kG,n4]),([40,91,32,102,97,108,115,101,32,93,32,119,104,105,108,101,84,114,117,101,58,32,91,32,93,41,32,112,114,105,110,116],[kF,bK,kR md,cx,kK Cl,bK,cx,kG,n4]),([40,66,32,61,32,66,32,105,102,84,114,117,101,58,32,91,32,49,32,93,32,105,102,70,97,108,115,101,58,32,91,32,50,32,93,41,32,112,114,105,110,116],[kF,kN [66],kB [61],kN [66],kK Dn,bK,kI 1,cx,kK Dm,bK,kI 2,cx,kG,n4]),([40,50,32,62,32,50,32,105,102,84,114,117,101,58,32,91,32,49,32,93,32,105,102,70,97,108,115,101,58,32,91,32,50,32,93,41,32,112,114,105,110,116],[kF,kI 2,kB [62],kI 2,kK Dn,bK,kI 1,cx,kK Dm,bK,kI 2,cx,kG,n4]),([40,110,105,108,32,61,32,102,97,108,115,101,32,105,102,70,97,108,115,101,58,32,91,32,55,32,93,41,32,112,114,105,110,116],[kF,kR iu,kB [61],kR md,kK Dm,bK,kI 7,cx,kG,n4]),([40,116,114,117,101,32,105,102,70,97,108,115,101,58,32,91,32,49,32,93,41,32,112,114,105,110,116],[kF,kR mE,kK Dm,bK,kI 1,cx,kG,n4])]
def vy:List (Nm×List AV):=[([117],[kN [117]]),([117,32,58,61,32,49],[kN [117],hU,kI 1]),([65,32,58,61,32,49],[jO,hU,kI 1]),([91,32,58,120,32,124,32,120,32,58,61,32,49,32,93,32,118,97,108,117,101,58,32,50],[bK,kP [120],eW,fH,hU,kI 1,cx,kK tv,kI 2]),([112,32,110,111,58,32,49],[tq3,kK [110,111,58],kI 1]),([112,32,117],[tq3,kN [117]]),([49,32,61,32,110,105,108],[kI 1,kB [61],kR iu]),([49,32,43,32,116,114,117,101],[kI 1,kB [43],kR mE]),([91,32,58,120,32,124,32,120,32,93,32,118,97,108,117,101],[bK,kP [120],eW,fH,cx,kN oM]),([91,32,49,32,93,32,118,97,108,117,101,58,32,50],[bK,kI 1,cx,kK tv,kI 2]),([116,114,117,101,32,105,102,84,114,117,101,58,32,49],[kR mE,kK Dn,kI 1]),([116,114,117,101,32,105,102,84,114,117,101,58,32,91,32,49,32,93,32,105,102,70,97,108,115,101,58,32,50],[kR mE,kK Dn,bK,kI 1,cx,kK Dm,kI 2]),([116,114,117,101,32,111,114,58,32,91,32,58,120,32,124,32,120,32,93],[kR mE,kK [111,114,58],bK,kP [120],eW,fH,cx]),([91,32,49,32,93,32,119,104,105,108,101,84,114,117,101,58,32,91,32,93],[bK,kI 1,cx,kK Cl,bK,cx]),([91,32,102,97,108,115,101,32,93,32,119,104,105,108,101,84,114,117,101,58,32,49],[bK,kR md,cx,kK Cl,kI 1]),([91,32,58,120,32,124,32,102,97,108,115,101,32,93,32,119,104,105,108,101,84,114,117,101,58,32,91,32,93],[bK,kP [120],eW,kR md,cx,kK Cl,bK,cx]),([112,32,108,97,116,101,32,118,97,108,117,101],[tq3,kN [108,97,116,101],kN oM]),([115,117,112,101,114,32,112,114,105,110,116],[kR Aa,n4]),(u9,[kN u9]),([118],[ms]),([49,32,110,101,119],[kI 1,kN mj]),([115,101,108,102,32,103,101,116],[kR nM,kN oN]),([65,32,103,101,116],[jO,kN oN]),([110,105,108,32,118,97,108,117,101],[kR iu,kN oM])]
noncomputable def Kv (m:Nat):Nm:=cond (Nat.beq m 3) [112,32,58,61,32,65,32,110,101,119] (cond (Nat.beq m 4) [112,32,58,61,32,66,32,110,101,119] [112])
def Bl(m:Nat):List AV:=cond (Nat.beq m 3) [tq3,hU,jO,kN mj] (cond (Nat.beq m 4) [tq3,hU,kN [66],kN mj] [tq3])
def Ln.text:Ln->Nm
 |.put m n=>jJ [Kv m,[32,112,117,116,58,32],am n]
 |.newp b=>jJ [[112,32,58,61,32],cond b [66] [65],[32,110,101,119]]
 |.qis n=>jJ [[113,32,58,61,32],am n]
 |.get=>jJ [[112,32,103,101,116,32,112,114,105,110,116]]
 |.old=>jJ [[112,32,111,108,100,32,112,114,105,110,116]]
 |.sub n=>jJ [[40,112,32,45,32],am n,[41,32,112,114,105,110,116]]
 |.atp m n=>jJ [[112,32,97,116,58,32],am m,[32,112,117,116,58,32],am n]
 |.sum n=>jJ [[112,32,115,117,109,58,32],am n]
 |.setq n=>jJ [[113,32,58,61,32,91,32,58,120,32,124,32,124,32,112,32,124,32,112,32,112,114,105,110,116,46,32,112,32,58,61,32,120,32,45,32,113,32,93,32,118,97,108,117,101,58,32],am n]
 |.bools n m=>jJ [[40,40,113,32,60,32],am n,[32,97,110,100,58,32,91,32],am m,[32,60,32,51,32,93,41,32,111,114,58,32,91,32,113,32,61,32],am n,[32,93,41,32,110,111,116,32,112,114,105,110,116]]
 |.seven n=>jJ [[40,40,113,32,62,32],am n,[32,105,102,84,114,117,101,58,32,91,32,112,32,93,41,32,61,32,110,105,108,32,105,102,70,97,108,115,101,58,32,91,32,55,32,93,41,32,112,114,105,110,116]]
 |.doR n=>jJ [[112,32,100,111,58,32,91,32,94],am n,[32,93]]
 |.outp n=>jJ [[112,32,111,117,116,58,32],am n]
 |.tell=>jJ [[112,32,116,101,108,108]]
 |.prt=>jJ [[112,32,112,114,105,110,116]]
 |.say i=>Option.rec [] (λx=>x.1) (be HT i)
 |.wrong i=>Option.rec [] (λx=>x.1) (be vy i)
def Ln.toks:Ln->List AV
 |.put m n=>ai (Bl m) [kK u7,kI n]
 |.newp b=>[tq3,hU,kN (cond b [66] [65]),kN mj]
 |.qis n=>[kU,hU,kI n]
 |.get=>[tq3,kN oN,n4]
 |.old=>[tq3,kN [111,108,100],n4]
 |.sub n=>[kF,tq3,kB [45],kI n,kG,n4]
 |.atp m n=>[tq3,kK [97,116,58],kI m,kK u7,kI n]
 |.sum n=>[tq3,kK [115,117,109,58],kI n]
 |.setq n=>[kU,hU,bK,kP [120],eW,eW,tq3,eW,tq3,n4,tq4,tq3,hU,fH,kB [45],kU,cx,kK tv,kI n]
 |.bools n m=>[kF,kF,kU,kE,kI n,kK [97,110,100,58],bK,kI m,kE,kI 3,cx,kG,kK [111,114,58],bK,kU,kB [61],kI n,cx,kG,kN [110,111,116],n4]
 |.seven n=>[kF,kF,kU,kB [62],kI n,kK Dn,bK,tq3,cx,kG,kB [61],kR iu,kK Dm,bK,kI 7,cx,kG,n4]
 |.doR n=>[tq3,kK [100,111,58],bK,tq10,kI n,cx]
 |.outp n=>[tq3,kK [111,117,116,58],kI n]
 |.tell=>[tq3,kN [116,101,108,108]]
 |.prt=>[tq3,n4]
 |.say i=>Option.rec [] (λx=>x.2) (be HT i)
 |.wrong i=>Option.rec [] (λx=>x.2) (be vy i)
noncomputable def gy:List AV:=[lL,jO,kE,kN u9,eW,ms,eW,bK,kK u7,fH,bK,ms,hU,fH,cx,kN oN,bK,tq10,ms,cx,kB [45],ms,bK,tq10,kR nM,kN oN,kB [45],ms,cx,kN [116,101,108,108],bK,tq10,kR Aa,n4,cx,kK [97,116,58],fH,kK u7,kN [121],bK,eW,kN [116],eW,kN [116],hU,fH,tq4,kN [116],kE,kN [121],kK Dn,bK,tq10,ms,hU,kN [121],cx,tq4,kR nM,kK u7,kN [116],cx,kK [115,117,109,58],kN [110],bK,eW,kN [105],eW,kN [105],hU,kI 0,tq4,bK,kN [105],kE,kN [110],cx,kK Cl,bK,kN [105],hU,kN [105],kB [43],kI 1,tq4,ms,hU,ms,kB [43],kN [105],cx,cx,kK [100,111,58],kN [98],bK,kN [98],kN oM,tq4,ms,hU,kI 9,cx,kK [111,117,116,58],fH,bK,kR nM,kK [100,111,58],bK,tq10,fH,cx,tq4,ms,hU,kI 8,cx,kN [108,97,116,101],bK,tq10,bK,tq10,kI 1,cx,cx,kK [110,111,58],fH,bK,fH,hU,kI 1,cx,cx]
noncomputable def hV:List AV:=[lL,kN [66],kE,jO,eW,kN [119],eW,bK,kK u7,fH,bK,kN [119],hU,ms,tq4,kR Aa,kK u7,fH,cx,kN [111,108,100],bK,tq10,kN [119],cx,kB [45],fH,bK,tq10,kR Aa,kB [45],fH,kB [43],kI 1,cx,n4,bK,kR Aa,n4,tq4,tq10,kN [119],cx,cx]
noncomputable def rS:Nm:=match P3.g8 with
 |.str x=>x
 |_=>[]
noncomputable def rT:Nm:=match P3.g9 with
 |.str x=>x
 |_=>[]
def Bn(l:List AV):List AV->(List AV->Prop)->Prop:=List.rec (λout k=>k out) (λt u ih out k=>bt (Nat.blt (ao out) aE) (ih (ai out [t]) k)) l
def On(x:Nm):Nat:=List.rec 0 (λc u ih=>cond (xU [c] [32,10]) (Nat.succ ih) ih) x
def lM(x:Nm)(l:List AV):Nat:=Nat.add (ao l) (On x)
def hZ(x:Nm)(l:List AV):Nat->Nm->List AV->(Option (List AV)->Prop)->Prop:=λm post out P=>d0 (Nat.add m (lM x l)) (ai x post) out P
def ia(l:List AV):Nat->Nm->List AV->(Option (List AV)->Prop)->Prop:=λm post out P=>Bn l out λo=>d0 m post o P
theorem Bo:hZ rS gy=ia gy:=by kernel_rfl
theorem Bp:hZ rT hV=ia hV:=by kernel_rfl
noncomputable def Em:List Int:=[0,1,2,3,4]
def upN(n:Nat):List Nat:=Nat.rec [] (λk ih=>ai ih [k]) n
def mt(f:α->List β)(l:List α):List β:=List.rec [] (λx u ih=>ai (f x) ih) l
def dN:List Ln:=ai [.newp QK,.newp QI,.get,.old,.tell,.prt] (ai (mt (λn=>ai [.qis n,.sub n,.setq n,.seven n,.doR n,.outp n] (ai (fu (λm=>.put m n) (upN 5)) (mt (λm=>[.atp m n,.bools n m]) Em))) Em) (ai (fu .sum (upN 5)) (ai (fu .say (upN 12)) (fu .wrong (upN 24)))))
theorem dK(f:α->β)(l:List α):fu f l=l.map f:=by
 induction l with
 |nil=>rfl
 |cons x r ih=>exact PK (f x:: ·) ih
theorem dL(f:α->List β)(l:List α):mt f l=l.flatMap f:=by
 induction l with
 |nil=>rfl
 |cons x r ih=>show ai (f x) (mt f r)=_;rw[ih,ae,List.flatMap_cons]
theorem dM(h:i<n):i∈upN n:=by
 induction n with
 |zero=>exact absurd ‹_› (Nat.not_lt_zero _)
 |succ n ih=>
  show i∈ai (upN n) [n];rw[ae];by_cases q:i=n
  ·exact OL.mpr (.inr (by rw[q];exact OF.mpr rfl))
  ·exact OL.mpr (.inl (ih (Nat.lt_of_le_of_ne (Pv h) q)))
theorem n6{n:Int}(h0:0<=n)(h5:n<5):n∈Em:=by
 obtain⟨k,rfl⟩:=Int.eq_ofNat_of_zero_le h0;have hk:k<5:=Qc.mp h5;clear h0 h5;revert k;refine cs (cs (cs (cs (cs cz ?_) ?_) ?_) ?_) ?_
 ·exact OE (i:=0) rfl
 ·exact OE (i:=1) rfl
 ·exact OE (i:=2) rfl
 ·exact OE (i:=3) rfl
 ·exact OE (i:=4) rfl
theorem jt{n:Int}(h0:0<=n)(h5:n<5){l:Ln}(h:l∈[Ln.qis n,.sub n,.setq n,.seven n,.doR n,.outp n]++((upN 5).map (λm=>Ln.put m n)++Em.flatMap λm=>[Ln.atp m n,.bools n m])):l∈dN:=by unfold dN;rw[ae,ae,dL];refine OL.mpr (.inr (OL.mpr (.inl (PP.mpr ⟨n,n6 h0 h5,?_⟩))));rw[ae,ae,dK,dL];exact h
theorem wP{l:Ln}(h:fF l):l∈dN:=by
 have E:∀{l:Ln},l∈(upN 5).map Ln.sum++((upN 12).map Ln.say++(upN 24).map Ln.wrong)->l∈dN:=λh=>by unfold dN;rw[ae,ae,ae,ae,dK,dK,dK];exact OL.mpr (.inr (OL.mpr (.inr h)))
 have F:∀{l:Ln},l∈[Ln.newp QK,.newp QI,.get,.old,.tell,.prt]->l∈dN:=λh=>by unfold dN;rw[ae];exact OL.mpr (.inl h)
 cases h with
 |put m n hm h0 h5=>exact jt h0 h5 (OL.mpr (.inr (OL.mpr (.inl (Pa.mpr ⟨m,dM hm,rfl⟩)))))
 |get=>exact F (OE (i:=2) rfl)
 |old=>exact F (OE (i:=3) rfl)
 |tell=>exact F (OE (i:=4) rfl)
 |prt=>exact F (OE (i:=5) rfl)
 |sub n h0 h5=>exact jt h0 h5 (OE (i:=1) rfl)
 |setq n h0 h5=>exact jt h0 h5 (OE (i:=2) rfl)
 |seven n h0 h5=>exact jt h0 h5 (OE (i:=3) rfl)
 |doR n h0 h5=>exact jt h0 h5 (OE (i:=4) rfl)
 |outp n h0 h5=>exact jt h0 h5 (OE (i:=5) rfl)
 |atp m n m0 m5 h0 h5=>exact jt h0 h5 (OL.mpr (.inr (OL.mpr (.inr (PP.mpr ⟨m,n6 m0 m5,OE (i:=0) rfl⟩)))))
 |bools n m m0 m5 h0 h5=>exact jt h0 h5 (OL.mpr (.inr (OL.mpr (.inr (PP.mpr ⟨m,n6 m0 m5,OE (i:=1) rfl⟩)))))
 |sum n h=>exact E (OL.mpr (.inl (Pa.mpr ⟨n,dM h,rfl⟩)))
 |say i h=>exact E (OL.mpr (.inr (OL.mpr (.inl (Pa.mpr ⟨i,dM h,rfl⟩)))))
 |wrong i h=>exact E (OL.mpr (.inr (OL.mpr (.inr (Pa.mpr ⟨i,dM h,rfl⟩)))))
theorem Bq{f g:α->β}:∀{l:List α},l.map f=l.map g->∀x∈l,f x=g x
 |[],_,x,hx=>by cases hx
 |a::l,h,x,hx=>by
  rcases OZ.mp hx with rfl|hx
  ·exact(OY h).1
  ·exact Bq (OY h).2 x hx
theorem aw{f g:α->β}{l:List α}(h:l.map f=(l.reverse.map g).reverse):∀x∈l,f x=g x:=Bq (h.trans (by rw[List.map_reverse,List.reverse_reverse]))
def fz(l:Ln):List AV:=ai l.toks [tq4]
def Kw(l:Ln):Nat->List AV->(Option (List AV)->Prop)->Prop:=λm out P=>d0 (Nat.succ (Nat.add m (lM l.text l.toks))) l.text out P
def Kx(l:Ln):Nat->List AV->(Option (List AV)->Prop)->Prop:=λu out P=>Bn l.toks out λo=>P (QA o)
theorem Ky:∀l∈dN,hZ (ai l.text [46,32]) (fz l)=ia (fz l):=aw (by kernel_rfl)
theorem Kz:∀l∈dN,hZ (ai l.text [46]) (fz l)=ia (fz l):=aw (by kernel_rfl)
theorem KA:∀l∈dN,hZ (ai l.text [10,46,10]) (fz l)=ia (fz l):=aw (by kernel_rfl)
theorem KB:∀l∈dN,Kw l=Kx l:=aw (by kernel_rfl)
noncomputable def kJ (I:Int):az:=.inst 0 [(0,.obj 0),(1,.int I)]
def Co(I:Int)(l:List az)(tk:List AV):GS:=⟨MB (QE::QA (kJ I)::iV l) 0 .leaf,Nat.add (ao l) 2,tk,QE,[],[]⟩
noncomputable def Br (I:Int) (k:Nat):Int:=Nat.rec I (λu ih=>ih+1) k
noncomputable def Cp:List PS:=match P3.f7.body with
 |[_,_,.w _ b,_,_]=>b
 |_=>[]
inductive E7 where
 |ok (brk:Bool) (U:Loc) (p e o:Option az) (tk:List AV)
 |bad
 |odd
def Bs(fl:Flow)(U:Loc)(s:GS):E7:=match fl with
 |.next=>.ok QK U (aG s.t 1) (aG s.t 2) (aG s.t 3) s.tk
 |.brk=>.ok QI U (aG s.t 1) (aG s.t 2) (aG s.t 3) s.tk
 |.err .verr=>.bad
 |_=>.odd
def wQ(I:Int)(out tk:List AV)(Ow:E7->Prop):Prop:=me QI (gC QI 58) Cp QE [QA (.obj 1),QA (.obj 2),QA (.obj 3)] (Co I [.list [bJ],.list out] tk) λfl U s=>Ow (Bs fl U s)
noncomputable def U7:Loc:=[QA (.obj 1),QA (.obj 2),QA (.obj 3)]
abbrev T7:=Int->List AV->List AV->(E7->Prop)->Prop
def MF(l:Ln):T7:=λI out post P=>wQ I out (ai l.toks (tq4::post)) P
def MG(l:Ln):T7:=λI out post P=>bt (Nat.blt (ao out) aE) (P (.ok QK U7 (QA (kJ (Br I (Nat.succ (ao l.toks))))) (QA (.list [bJ])) (QA (.list (ai out [l.tree]))) post))
def KC(l:Ln):T7:=λI out post P=>wQ I out (ai l.toks (bJ::post)) P
def KD(l:Ln):T7:=λI out post P=>bt (Nat.blt (ao out) aE) (P (.ok QI U7 (QA (kJ (Br I (ao l.toks)))) (QA (.list [bJ])) (QA (.list (ai out [l.tree]))) (bJ::post)))
theorem En:∀l∈dN,MF l=MG l:=aw (by kernel_rfl)
theorem Bt:∀l∈dN,KC l=KD l:=aw (by kernel_rfl)
theorem Eo(I:Int)(out post:List AV)(P:E7->Prop):wQ I out (tq10::kU::bJ::post) P=bt (Nat.blt (ao out) aE) (P (.ok QI U7 (QA (kJ (Br I 2))) (QA (.list [bJ])) (QA (.list (ai out [tR (tN [113])]))) (bJ::post))):=by kernel_rfl
inductive vz where
 |ok (n:Nat) (U:Loc) (p c:Option az) (tk:List AV)
 |bad
 |odd
def n7(fl:Flow)(U:Loc)(s:GS):vz:=match fl with
 |.next=>.ok (ao U) [Option.rec QE (λx=>x) (be U 0),Option.rec QE (λx=>x) (be U 1),Option.rec QE (λx=>x) (be U 6)] (aG s.t 1) (aG s.t 2) s.tk
 |.err .verr=>.bad
 |_=>.odd
noncomputable def yE:List AV:=[eW,tq3,kU,eW]
def KF(I:Int)(tk:List AV)(P:vz->Prop):Prop:=me QI (gC QI 59) (P3.f14.body.take 4) QE [QA (.obj 1),QE,QE,QE,QE,QE,QE,QE,QE,QE,QE] (Co I [] tk) λfl U s=>P (n7 fl U s)
theorem Ep(I:Int)(rest:List AV)(P:vz->Prop):KF I (ai gy (ai hV (ai yE rest))) P=P (.ok 11 [QA (.obj 1),QA (.obj 2),QA (.tup [.str [112],.str [113]])] (QA (kJ (Br I (Nat.add (ao gy) (Nat.add (ao hV) 4))))) (QA (.list [DN,DP])) rest):=by kernel_rfl
theorem HU(I:Int)(rest:List AV)(P:E7->Prop):me QI (gC QI 58) (P3.f7.body.take 2) QE [QA (.obj 1),QA (.obj 2),QE] (Co I [.list [bJ]] (tq3::rest)) (λfl U s=>P (Bs fl U s))=
 P (.ok QK U7 (QA (kJ I)) (QA (.list [bJ])) (QA (.list [])) (tq3::rest)):=by kernel_rfl
theorem HV(I:Int)(out post:List AV)(P:Flow->Option az->List AV->Prop):me QI (gC QI 58) (P3.f7.body.drop 3) QE U7 (Co I [.list [bJ],.list out] (bJ::post)) (λfl u s=>P fl (aG s.t 1) s.tk)=
 P (.ret (.tup out)) (QA (kJ I)) (bJ::post):=by kernel_rfl
structure Cq(J:Hp)(a0 a1:Nat)(tk:List AV)(n:Nat)(ts:List AV):Prop where
 ob:J[a1]?=QA (.inst 0 [(0,.obj a0),(1,.int n)])
 ls:J[a0]?=QA (.list ts)
 dr:ts.drop n=tk
theorem pZ(l:List az):iV l=l.map QA:=by
 induction l with
 |nil=>rfl
 |cons x r ih=>exact PK (QA x:: ·) ih
theorem Es{l:List az}(inj:∀i j,i<l.length+2->j<l.length+2->f i=f j->i=j)(S:Cq J (f 0) (f 1) tk n ts)(hc:ag tk=QI)(get:∀i o,l[i]?=QA o->J[f (i+2)]?=QA (gp (thF f (l.length+2) J.length) o)):
  bu QI J (thF f (l.length+2) J.length) (Co n l tk) J:=by
 have L:(QE::QA (kJ n)::iV l).length=l.length+2:=by(refine(pZ ..).symm▸?_);simp
 have t0:thF f (l.length+2) J.length 0=f 0:=aF (PY _);have t1:thF f (l.length+2) J.length 1=f 1:=aF (Nat.succ_lt_succ (PY _));have R:=Ee (l:=QE::QA (kJ n)::iV l) (f:=f) (J:=J) (od:=[]) (ob:=[]) (by(refine L.symm▸?_);exact inj) (λi hi=>?_) λk o e=>?_
 ·rw[L] at R;refine⟨R.inj,λj=>?_,R.get,R.le,R.fr,λu=>⟨0,[(0,.obj (f 0)),(1,.int n)],n,ts,?_,rfl,?_,?_,?_,(λu h=>nn h),rfl,rfl⟩⟩
  ·have:=R.nx j;have e:(ND (QE::QA (kJ n)::iV l) [] []).nx=l.length+2:=(aq (QE::QA (kJ n)::iV l)).trans L;rw[e] at this;show thF f (l.length+2) J.length (Nat.add (ao l) 2+j)=_
   (refine(aq ..).symm▸?_);exact this
  ·exact(PK _ t1).trans S.ob
  ·rw[t0];rfl
  ·exact(PK _ t0).trans S.ls
  ·exact S.dr.trans ((aC tk hc).symm)
 ·rw[L] at hi
  match i,hi with
  |0,_=>exact(OG.mp S.ls).1
  |1,_=>exact(OG.mp S.ob).1
  |i+2,hi=>exact(OG.mp (get i _ (List.getElem?_eq_getElem (Nat.lt_of_add_lt_add_right hi)))).1
 ·(refine L.symm▸?_)
  match k,e with
  |0,e=>cases e
  |1,e=>cases e;show _=QA (az.inst 0 [(0,.obj (thF f (l.length+2) J.length 0)),(1,.int n)]);exact t0.symm▸S.ob
  |k+2,e=>
   have e:(iV l)[k]?=QA (QA o):=e;rw[pZ,List.getElem?_map] at e;cases q:l[k]? with
   |none=>rw[q] at e;cases e
   |some x=>rw[q] at e;cases e;exact get k _ q
theorem n8{B:Hp}{s:GS}{X:Int}(R:bu QI B θ s J)(h1:aG s.t 1=QA (kJ X))(hc:ag s.tk=QI):∃n ts,Cq J (θ 0) (θ 1) s.tk n ts:=by refine ah λPG Ox=>yK (R.tk rfl) λc fs n ts T=>Ox ?_;have g:J[θ 1]?=QA (.inst 0 [(0,.obj (θ 0)),(1,.int X)]):=R.get 1 _ h1;have q:=T.ob.symm.trans g;have dr:=T.dr;rw[aC _ hc] at dr;have fi:=T.fi;have ob:=T.ob;cases q;cases fi;exact⟨n,ts,ob,T.ls,dr⟩
abbrev yF:Call:=ef 58
structure PI(O:Hp)(f:Nat->Nat)(tk out:List AV)(J:Hp):Prop where
 st:∃n ts,Cq J (f 0) (f 1) tk n ts
 en:J[f 2]?=QA (.list [bJ])
 ou:J[f 3]?=QA (.list out)
 inj:∀i j,i<4->j<4->f i=f j->i=j
 ck:ag tk=QI
 co:ag out=QI
 len:O.length<=J.length
 kp:∀b,b<O.length->(∀i,i<4->f i≠b)->J[b]?=O[b]?
noncomputable def rF (f:Nat->Nat):Loc:=[QA (.obj (f 1)),QA (.obj (f 2)),QA (.obj (f 3))]
section
variable{O:Hp}{f:Nat->Nat}{tk tk' out out':List AV}{J:Hp}{K:KS}{brk:Bool}
theorem PI.rep(S:Cq J (f 0) (f 1) tk n ts)(I:PI O f tk out J):bu QI J (thF f 4 J.length) (Co n [.list [bJ],.list out] tk) J:=
 Es (l:=[.list [bJ],.list out]) I.inj S I.ck λi o e=>by
  match i,e with
  |0,e=>((have hz:=OO e;subst hz));exact I.en
  |1,e=>
   ((have hz:=OO e;subst hz))
   show _=QA (az.list (aD _ out));rw[aC _ I.co];exact I.ou
theorem Bu:qU (thF f 4 J.length) U7=rF f:=by
 show[QA (AV.obj (thF f 4 J.length 1)),QA (.obj (thF f 4 J.length 2)),QA (.obj (thF f 4 J.length 3))]=_
 ((refine(aF (show 1<4 by decide)).symm▸?_;refine(aF (show 2<4 by decide)).symm▸?_;refine(aF (show 3<4 by decide)).symm▸?_));rfl
theorem Gh:LR (thF f 4 J.length) U7 (rF f):=Bu▸LR.ren (θ:=thF f 4 J.length) U7
theorem KG(h:LR (thF f 4 J.length) U7 U):U=rF f:=(Aw h rfl).trans Bu
theorem PI.next{s:GS}{X:Int}(I:PI O f tk out J)(R:bu QI J (thF f 4 J.length) s J')(h1:aG s.t 1=QA (kJ X))(h2:aG s.t 2=QA (.list [bJ]))(h3:aG s.t 3=QA (.list out'))(hc:ag s.tk=QI)(ho:ag out'=QI):PI O f s.tk out' J':=by
 have t:∀i,i<4->thF f 4 J.length i=f i:=λi hi=>aF hi;have g2:=R.get 2 _ h2;have g3:J'[thF f 4 J.length 3]?=QA (.list (aD _ out')):=R.get 3 _ h3;rw[t 2 dc] at g2;rw[t 3 dc,aC _ ho] at g3;have S:=n8 R h1 hc;rw[t 0 dc,t 1 dc] at S;refine⟨S,g2,g3,I.inj,hc,ho,OK I.len R.le,λb hb hn=>(R.fr b (OV hb I.len) λk e=>?_).trans (I.kp b hb hn)⟩;unfold thF at e;split at e
 ·exact hn k ‹_› e
 ·have:=I.len;exact Qk _ (OV hb (OK this (OK (O1 _ _) (Ql e))))
theorem Gi{s:GS}{p e o:Option az}(h:Bs fl r s=.ok brk U p e o tk):fl=cond brk .brk .next/\r=U/\aG s.t 1=p/\aG s.t 2=e/\aG s.t 3=o/\s.tk=tk:=by
 cases fl with
 |next=>cases(show E7.ok _ _ _ _ _ _=_ from h);exact⟨rfl,rfl,rfl,rfl,rfl,rfl⟩
 |brk=>cases(show E7.ok _ _ _ _ _ _=_ from h);exact⟨rfl,rfl,rfl,rfl,rfl,rfl⟩
 |err e=>cases e with
  |verr=>cases(show E7.bad=_ from h)
  |own=>cases(show E7.odd=_ from h)
 |_=>cases(show E7.odd=_ from h)
theorem rE(I:PI O f tk out J)(hl:out.length<1000)(ck:ag tk'=QI)(co:ag out'=QI)(E:∀(n:Int) (P:E7->Prop),∃X,wQ n out tk P=bt (Nat.blt (ao out) aE) (P (.ok brk U7 (QA (kJ X)) (QA (.list [bJ])) (QA (.list out')) tk')))
  (hK:∀J',PI O f tk' out' J'->K (cond brk .brk .next) (rF f) J'):ax yF Cp QE (rF f) J K:=by
 refine jk I.st λn ts S=>aB (E n λe=>∀fl r U s J',e=Bs fl r s->LR (thF f 4 J.length) r U->bu QI J (thF f 4 J.length) s J'->K (gY (thF f 4 J.length) fl) U J') λX eq=>?_;refine hM (eP 58) Cp QE U7 (rF f) _ J _ K Gh (I.rep S) (Eq.mpr eq (AK (Po (by rw[aq];unfold aE;exact OK hl dc)) λfl r U s J' e Y R=>?_)) λfl r U s J' Y R h=>h fl r U s J' rfl Y R;refine rW (Gi e.symm) λer0 er1 h1 h2 h3 h4=>?_;subst er0;subst er1;rw[KG Y];have q:=hK J' (by(refine h4▸?_);exact I.next R h1 h2 h3 (by refine(PK _ h4).trans ?_;exact ck) co);cases brk<;>exact q
end
noncomputable def HW:List AV:=[tq10,kU,bJ]
def KH(fin:Bool)(ls:List Ln)(rest:List AV):List AV:=List.rec (cond fin (tq4::rest) rest) (λu u u=>tq4::rest) ls
def cU(fin:Bool)(ls:List Ln):List AV:=List.rec (cond fin HW [bJ]) (λl ls ih=>ai l.toks (KH fin ls ih)) ls
theorem n9:∀(l:List (Nm×List AV)),(l.all λx=>ag x.2)=QI->∀i,ag (Option.rec [] (λx=>x.2) (be l i))=QI:=by
 intro l;induction l with
 |nil=>intro _ i;rfl
 |cons x r ih=>intro h i;cases i with
  |zero=>exact(OD.mp h).1
  |succ i=>exact ih (OD.mp h).2 i
theorem ud(l:Ln):ag l.toks=QI:=by
 cases l with
 |put m n=>show ag (ai (Bl m) [kK _,kI n])=QI;refine(PK _ (ae ..)).trans (bG ?_ rfl);unfold Bl;cases Nat.beq m 3<;>cases Nat.beq m 4<;>rfl
 |newp b=>cases b<;>rfl
 |say i=>exact n9 HT rfl i
 |wrong i=>exact n9 vy rfl i
 |_=>rfl
theorem lN(fin:Bool)(ls:List Ln):ag (cU fin ls)=QI:=by
 induction ls with
 |nil=>cases fin<;>rfl
 |cons l ls ih=>
  show ag (ai l.toks (KH fin ls (cU fin ls)))=QI;refine(PK _ (ae ..)).trans (bG (ud l) ?_);cases ls with
  |nil=>cases fin<;>exact ih
  |cons=>exact ih
noncomputable def rG (fin:Bool):List AV:=cond fin [tR (tN [113])] []
theorem Bv{fin:Bool}(tr:List AV)(hK:∀J',PI O f [bJ] tr J'->K .next (rF f) J'):∀(ls:List Ln) (out:List AV) (J:Hp) (n:Nat),(∀l∈ls,l∈dN)->(ls≠[]\/fin=QI)->out.length+ls.length<900->ls.length+2<=n->
  out++(ls.map Ln.tree++rG fin)=tr->PI O f (cU fin ls) out J->eE (fO yF (.c (.bool QI))) (ax yF Cp QE) K n (rF f) J:=by
 intro ls;induction ls with
 |nil=>
  intro out J n _ hne hl hn he I;cases n with
  |zero=>exact absurd hn (Nat.not_succ_le_zero _)
  |succ n=>
   cases fin with
   |false=>
    rcases hne with h|h
    ·exact(h rfl).elim
    ·cases h
   |true=>
    show ax yF Cp QE (rF f) J _;refine rE (brk:=QI) (tk':=[bJ]) (out':=tr) I (by have:([]:List Ln).length=0:=rfl;exact OI (O1 _ _) (Qn hl dc)) rfl ?_ (λn P=>⟨Br n 2,?_⟩) hK
    ·(refine he▸?_);exact bG I.co rfl
    ·rw[<-he,List.map_nil,List.nil_append, <-ae];exact Eo n out [] P
 |cons l ls ih=>
  intro out J n hA hne hl hn he I;have OB:(l::ls).length=ls.length+1:=rfl;rw[OB] at hl hn;cases n with
  |zero=>exact absurd hn (Nat.not_succ_le_zero _)
  |succ n=>
   have hl0:=hA l (ON ..);show ax yF Cp QE (rF f) J _;have co:ag (ai out [l.tree])=QI:=iY (bT l) I.co;have cont:∀J',(ls≠[]\/fin=QI)->PI O f (cU fin ls) (ai out [l.tree]) J'->eE (fO yF (.c (.bool QI))) (ax yF Cp QE) K n (rF f) J':=λJ' hne I'=>ih (ai out [l.tree]) J' n (λx hx=>hA x (O0 _ hx)) hne (by((refine(ae ..).symm▸?_;refine(OP ..).symm▸?_));show out.length+1+_<_;exact OI (Ql (O7 _ 1 _)) hl) (Nat.le_of_succ_le_succ hn) (by((refine(ae ..).symm▸?_;refine he▸?_;refine(OQ ..).symm▸?_));rfl) I'
   have D:∀rest,ag rest=QI->cU fin (l::ls)=ai l.toks (tq4::rest)->(∀J',PI O f rest (ai out [l.tree]) J'->eE (fO yF (.c (.bool QI))) (ax yF Cp QE) K n (rF f) J')->ax yF Cp QE (rF f) J (lT (eE (fO yF (.c (.bool QI))) (ax yF Cp QE) K n) K):=by intro rest hr e hk;rw[e] at I;exact rE (brk:=QK) (tk':=rest) (out':=ai out [l.tree]) I (OI (O1 _ _) (Qn hl dc)) hr co (λn P=>⟨_,congrFun (congrFun (congrFun (congrFun (En l hl0) n) out) rest) P⟩) λJ' I'=>nZ (hk J' I')
   cases ls with
   |nil=>cases fin with
    |true=>exact D (cU QI []) rfl rfl λJ' I'=>cont J' (.inr rfl) I'
    |false=>
     have e:cU QK [l]=ai l.toks [bJ]:=rfl;rw[e] at I;refine rE (brk:=QI) (tk':=[bJ]) (out':=ai out [l.tree]) I (OI (O1 _ _) (Qn hl dc)) rfl co (λn P=>⟨_,congrFun (congrFun (congrFun (congrFun (Bt l hl0) n) out) []) P⟩) λJ' I'=>hK J' ?_;have:ai out [l.tree]=tr:=by((refine(ae ..).symm▸?_;refine he▸?_));rfl
     (refine this▸?_);exact I'
   |cons l2 ls=>exact D (cU fin (l2::ls)) (lN fin (l2::ls)) rfl λJ' I'=>cont J' (.inl nofun) I'
noncomputable def f3 (a b c:Nat) (i:Nat):Nat:=match i with|0=>a|1=>b|_=>c
theorem KI{a2 N b:Nat}(n0:b≠a0)(n1:b≠a1)(n2:b≠a2)(hb:b<N)(i:Nat)(_:i<4):thF (f3 a0 a1 a2) 3 N i≠b:=by
 unfold thF;by_cases h:i<3
 ·rw[if_pos h];cases i with
  |zero=>exact n0.symm
  |succ i=>cases i with
   |zero=>exact n1.symm
   |succ i=>exact n2.symm
 ·exact(if_neg h).symm▸(PC (OV hb (O1 _ _)))
theorem KJ{a2:Nat}{fin:Bool}{ls:List Ln}{K:KV}(S:Cq J a0 a1 (cU fin ls) n ts)(en:J[a2]?=QA (.list [bJ]))(d01:a0≠a1)(d02:a0≠a2)(d12:a1≠a2)(ht:cU fin ls=tq3::rest)(hA:∀l∈ls,l∈dN)(hl:ls.length<900)(hne:ls≠[]\/fin=QI)
  (hK:∀J',J.length<=J'.length->(∀b,b<J.length->b≠a0->b≠a1->b≠a2->J'[b]?=J[b]?)->K (.tup (ls.map Ln.tree++rG fin)) J'):ef 59 7 [.obj a1,.obj a2] J K Er:=by
 have ck:=lN fin ls;refine gb (n:=58) (fd:=P3.f7) rfl [QA (.obj a1),QA (.obj a2),QE] rfl (jd 2 ?_);have RP:bu QI J (thF (f3 a0 a1 a2) 3 J.length) (Co n [.list [bJ]] (cU fin ls)) J:=Es (l:=[.list [bJ]]) (f:=f3 a0 a1 a2) (JZ d01 d02 d12) S ck λi o e=>by
  match i,e with
  |0,e=>((have hz:=OO e;subst hz));exact en
 have Y0:LR (thF (f3 a0 a1 a2) 3 J.length) [QA (.obj 1),QA (.obj 2),QE] [QA (.obj a1),QA (.obj a2),QE]:=gZ rfl rfl ⟨ml (aF dc) rfl,ml (aF dc) rfl,trivial⟩;rw[ht] at RP;have Q:=HU n rest λe=>∀fl r U s J',e=Bs fl r s->LR (thF (f3 a0 a1 a2) 3 J.length) r U->bu QI J (thF (f3 a0 a1 a2) 3 J.length) s J'->lI (ef 58) (P3.f7.body.drop 2) QE (bk K Er) (gY (thF (f3 a0 a1 a2) 3 J.length) fl) U J';refine eV (hd:=QE) (eP 58) (λfl r U s J' Y R h=>h fl r U s J' rfl Y R) (P3.f7.body.take 2) _ _ _ J Y0 RP (Eq.mpr Q ?_);intro fl r U s J' e Y R;refine rW (Gi e.symm) λer0 er1 h1 h2 h3 h4=>?_;subst er0;subst er1;have ck4:ag s.tk=QI:=by((refine h4.symm▸?_;refine ht▸?_));exact ck
 have I:PI J (thF (f3 a0 a1 a2) 3 J.length) (cU fin ls) [] J':=by
  refine⟨?_,R.get 2 _ h2,R.get 3 _ h3,λi j u u e=>R.inj i j e,ck,rfl,R.le,λb hb hn=>R.fr b hb λk e=>?_⟩
  ·((refine ht.symm▸?_;refine h4▸?_));exact n8 R h1 ck4
  ·by_cases hk:k<4
   ·exact hn k hk e
   ·unfold thF at e;rw[if_neg (λh=>hk (Nat.lt_succ_of_lt h))] at e;exact Qk _ (OV hb (OK (O1 _ _) (Ql e)))
 have eρ:U=rF (thF (f3 a0 a1 a2) 3 J.length):=Aw Y rfl;rw[eρ];refine aS (wO (Bv (fin:=fin) (ls.map Ln.tree++rG fin) (λJ2 I2=>?_) ls [] J' 4000 hA hne (by show 0+_<900;exact(O4 hl _)) (by exact OI ‹_› dc) rfl I));refine jk I2.st λn2 ts2 S2=>?_;have Q2:=HV n2 (ls.map Ln.tree++rG fin) [] λfl u u=>∀r U s J3,LR (thF (thF (f3 a0 a1 a2) 3 J.length) 4 J2.length) r U->bu QI J2 (thF (thF (f3 a0 a1 a2) 3 J.length) 4 J2.length) s J3->bk K Er (gY (thF (thF (f3 a0 a1 a2) 3 J.length) 4 J2.length) fl) U J3;refine hM (eP 58) (P3.f7.body.drop 3) QE U7 (rF _) _ J2 _ _ Gh (I2.rep S2) (Eq.mpr Q2 λr U s J3 Y R=>?_) λfl r U s J3 Y R h=>h r U s J3 Y R;show K (.tup (aD _ (ls.map Ln.tree++rG fin))) J3;rw[aC _ I2.co];refine hK J3 (OK I2.len R.le) λb hb n0 n1 n2'=>?_;have hb4:=KI n0 n1 n2' hb;refine(R.fr b (OV hb I2.len) λk q=>?_).trans (I2.kp b hb hb4);unfold thF at q;split at q
 ·rename_i h4;exact hb4 k h4 q
 ·have:=I2.len;exact Qk _ (OV hb (OK this (OK (O1 _ _) (Ql q))))
noncomputable def f2 (a b:Nat) (i:Nat):Nat:=match i with|0=>a|_=>b
abbrev HY:Call:=ef 59
theorem HZ{s:GS}{p c:Option az}(h:n7 fl r s=.ok n U p c tk):fl=.next/\ao r=n/\U=[Option.rec QE (λx=>x) (be r 0),Option.rec QE (λx=>x) (be r 1),Option.rec QE (λx=>x) (be r 6)]/\aG s.t 1=p/\aG s.t 2=c/\s.tk=tk:=by
 cases fl with
 |next=>cases(show vz.ok _ _ _ _ _=_ from h);exact⟨rfl,rfl,rfl,rfl,rfl,rfl⟩
 |err e=>cases e with
  |verr=>cases(show vz.bad=_ from h)
  |own=>cases(show vz.odd=_ from h)
 |_=>cases(show vz.odd=_ from h)
theorem Et{s:GS}(h:n7 fl r s=.bad):fl=.err .verr:=by
 cases fl with
 |next=>cases(show vz.ok _ _ _ _ _=_ from h)
 |err e=>cases e with
  |verr=>rfl
  |own=>cases(show vz.odd=_ from h)
 |_=>cases(show vz.odd=_ from h)
theorem rH(h:QA v=Option.rec QE (λx=>x) (be r i)):r[i]?=QA (QA v):=by
 rw[cA] at h;cases e:r[i]? with
 |none=>rw[e] at h;exact nn h.symm
 |some o=>rw[e] at h;exact PK QA h.symm
theorem H0{K:KV}(S:Cq J a0 a1 tk n ts)(d01:a0≠a1)(ck:ag tk=QI){x:vz}(E:∀P,KF n tk P=P x)
  (hK:∀fl r U s J',x=n7 fl r s->LR (thF (f2 a0 a1) 2 J.length) r U->bu QI J (thF (f2 a0 a1) 2 J.length) s J'->lI HY (P3.f14.body.drop 4) QE (bk K Er) (gY (thF (f2 a0 a1) 2 J.length) fl) U J'):ef 60 14 [.obj a1] J K Er:=by
 refine gb (n:=59) (fd:=P3.f14) rfl [QA (.obj a1),QE,QE,QE,QE,QE,QE,QE,QE,QE,QE] rfl (jd 4 ?_);have RP:bu QI J (thF (f2 a0 a1) 2 J.length) (Co n [] tk) J:=Es (l:=[]) (f:=f2 a0 a1) (wz d01) S ck (λu u h=>nn h);have Y0:LR (thF (f2 a0 a1) 2 J.length) [QA (.obj 1),QE,QE,QE,QE,QE,QE,QE,QE,QE,QE] [QA (.obj a1),QE,QE,QE,QE,QE,QE,QE,QE,QE,QE]:=gZ rfl rfl ⟨ml (aF dc) rfl,trivial⟩;exact eV (hd:=QE) (eP 59) (λfl r U s J' Y R h=>h fl r U s J' rfl Y R) (P3.f14.body.take 4) _ _ _ J Y0 RP (Eq.mpr (E λe=>∀fl r U s J',e=n7 fl r s->LR (thF (f2 a0 a1) 2 J.length) r U->bu QI J (thF (f2 a0 a1) 2 J.length) s J'->lI HY (P3.f14.body.drop 4) QE (bk K Er) (gY (thF (f2 a0 a1) 2 J.length) fl) U J') hK)
theorem Eu{fin:Bool}{ls:List Ln}{K:KV}(S:Cq J a0 a1 (ai gy (ai hV (ai yE (cU fin ls)))) n ts)(d01:a0≠a1)(ht:cU fin ls=tq3::rest)(hA:∀l∈ls,l∈dN)(hl:ls.length<900)(hne:ls≠[]\/fin=QI)
  (hK:∀J',J.length<=J'.length->(∀b,b<J.length->b≠a0->b≠a1->J'[b]?=J[b]?)->K (bh (ls.map Ln.tree++rG fin)) J'):ef 60 14 [.obj a1] J K Er:=by
 have ck:=lN fin ls;have ck0:ag (ai gy (ai hV (ai yE (cU fin ls))))=QI:=by
  ((refine(ae ..).symm▸?_;refine(ae ..).symm▸?_;refine(ae ..).symm▸?_))
  exact bG rfl (bG rfl (bG rfl ck))
 refine H0 S d01 ck0 (λP=>Ep n (cU fin ls) P) λfl r U s J' e Y R=>?_;refine rW (HZ e.symm) λer0 eL e3 h1 h2 h4=>?_;subst er0;have t0:thF (f2 a0 a1) 2 J.length 0=a0:=aF dc;have t1:thF (f2 a0 a1) 2 J.length 1=a1:=aF dc;have t2:thF (f2 a0 a1) 2 J.length 2=J.length:=if_neg dc;have s0:U[0]?=QA (QA (.obj a1)):=by have:=Y.get (rH (OY e3).1);rw[show ren (thF (f2 a0 a1) 2 J.length) (.obj 1)=.obj (thF (f2 a0 a1) 2 J.length 1) from rfl,t1] at this;exact this
 have s1:U[1]?=QA (QA (.obj J.length)):=by have:=Y.get (rH (OY (OY e3).2).1);rw[show ren (thF (f2 a0 a1) 2 J.length) (.obj 2)=.obj (thF (f2 a0 a1) 2 J.length 2) from rfl,t2] at this;exact this
 have s6:U[6]?=QA (QA (.tup [.str [112],.str [113]])):=Y.get (rH (OY (OY (OY e3).2).2).1);obtain⟨n',ts',S'⟩:=n8 R h1 (by refine(PK _ h4).trans ?_;exact ck);rw[h4,t0,t1] at S';have gc:J'[thF (f2 a0 a1) 2 J.length 2]?=QA (.list [DN,DP]):=R.get 2 _ h2;rw[t2] at gc;have lc:=(OG.mp gc).1;have l0:a0<J.length:=(OG.mp S.ls).1;have l1:a1<J.length:=(OG.mp S.ob).1;have S2:Cq (J'++[.list [bJ]]) a0 a1 (cU fin ls) n' ts':=⟨(OR (by exact Qn ‹_› ‹_›)).trans S'.ob,(OR (by exact Qn ‹_› ‹_›)).trans S'.ls,S'.dr⟩;refine aS (nY (aK s0 ⟨rfl,kz S'.ob (cY rfl ⟨rfl,KJ S2 (fy _) d01 (Fl lc l0) (Fl lc l1) ht hA hl hne λJ2 hl2 hf2=>?_⟩)⟩));have kp:∀b,b<J'.length->b≠a0->b≠a1->J2[b]?=J'[b]?:=λb hb n0 n1=>(hf2 b (by(refine(OP ..).symm▸?_);exact Nat.lt_succ_of_lt hb) n0 n1 (by exact PD ‹_›)).trans (OR hb);have gc2:J2[J.length]?=QA (.list [DN,DP]):=(kp _ lc (by exact PC ‹_›) (by exact PC ‹_›)).trans gc;have lρ:7<U.length:=by rw[Y.len, <-aq,eL];decide
 refine⟨lρ,aS (uc ?_)⟩;have q1:∀v,(U.set 7 (QA v))[1]?=QA (QA (.obj J.length)):=λv=>(OM dc).trans s1;have q6:∀v,(U.set 7 (QA v))[6]?=QA (QA (.tup [.str [112],.str [113]])):=λv=>(OM dc).trans s6;have q7:∀v,(U.set 7 (QA v))[7]?=QA (QA v):=λv=>OT lρ;refine aK (q1 _) ⟨rfl,_,_,.tupleOf _ _ (Nz gc2),aK (q6 _) ⟨rfl,aK (q7 _) ⟨rfl,hK J2 ?_ λb hb n0 n1=>?_⟩⟩⟩
 ·rw[OP] at hl2;have:=R.le;exact OK this (OK (O1 _ _) hl2)
 ·refine(kp b (OV hb R.le) n0 n1).trans (R.fr b hb λk q=>?_);unfold thF at q;split at q
  ·rename_i h2;revert k;refine @(cs (cs cz ?_) ?_)
   ·exact λq=>n0 q.symm
   ·exact λq=>n1 q.symm
  ·exact Qk _ (OV hb (OK (O1 _ _) (Ql q)))
section
variable{F:Call}{U:Loc}{J:Hp}{K:KS}{hd:Option aH}
theorem Bw{f:Nat}{e:PE}{o:AV}(h0:U[i]?=QA (QA o))(hv:bF o=QI)(h:cR (bP F hd) e U J (λv J=>∃J1,jS J v o f J1/\K .next U J1) λer J=>K (.err er) U J):ux F (.a (.attr (.v i) f) e) hd U J K:=by
 show cR (bP F hd) e U J (λv J=>cL U i λa=>bF a=QI/\∃J1,jS J v a f J1/\K .next U J1) λer J=>K (.err er) U J;have e:(λv J=>cL U i λa=>bF a=QI/\∃J1,jS J v a f J1/\K .next U J1)=λv J=>(∃J1,jS J v o f J1/\K .next U J1):=by
  funext v J
  unfold cL
  (refine h0.symm▸?_)
  exact propext ⟨λh=>h.2,λh=>⟨hv,h⟩⟩
 exact e.symm▸h
end
theorem gB{T:Nm}{K:KV}(hT:T.length<3999)(hm:m<=4000)(h:d0 m T [] P)(hl:∀out,P (QA out)->out.length<100000)
  (hG:∀out J' a0 a1,P (QA out)->ag out=QI->Cq J' a0 a1 (out++[bJ]) 0 (out++[bJ])->a0≠a1->Cn J J'->J.length<=a0->J.length<=a1->ef 60 14 [.obj a1] J' K Er)
  (hE:P QE->∀J',Er .verr J'):ef 61 15 [.str T] J K Er:=by
 refine gb (n:=60) (fd:=P3.f15) rfl [QA (.str T)] rfl (aS (uc ⟨rfl,?_⟩));show ef 60 1 [.obj J.length,.str T] (J++[.inst 0 []]) _ _;refine gb (n:=59) (fd:=P3.f1) rfl [QA (.obj J.length),QA (.str T)] rfl (aS (Bw (i:=0) (o:=.obj J.length) rfl rfl ⟨rfl,HS (n0:=57) hT hm h hl ?_ ?_⟩))
 rotate_left
 ·exact λhp J'=>hE hp J'
 intro out J1 b hp ho hO hb hg;have len1:(J++[az.inst 0 []]).length=J.length+1:=by refine(OP ..).trans ?_;rfl
 have g1:J1[J.length]?=QA (.inst 0 []):=(hO.old _ (by rw[len1];exact OX _)).trans (fy _);have l1:=(OG.mp g1).1;rw[len1] at hb;have g2:(J1.set J.length (.inst 0 [(0,.obj b)]))[J.length]?=QA (.inst 0 [(0,.obj b)]):=OT l1;refine⟨_,.mk J.length 0 [] 0 g1 rfl dc,aS (Bw (i:=0) (o:=.obj J.length) rfl rfl ⟨_,.mk J.length 0 [(0,.obj b)] 1 g2 rfl (show 1<100 by decide),?_⟩)⟩;have g3:((J1.set J.length (.inst 0 [(0,.obj b)])).set J.length (.inst 0 [(0,.obj b),(1,.int 0)]))[J.length]?=QA (.inst 0 [(0,.obj b),(1,.int 0)]):=OT (by rw[Ps];exact l1);show vT ((J1.set J.length (.inst 0 [(0,.obj b)])).set J.length (.inst 0 [(0,.obj b),(1,.int 0)])) (.obj J.length) λk c fs=>cC (Pg.meth c 14) λf=>aR 14 fs=QE/\ef 60 f [.obj k] ((J1.set J.length (.inst 0 [(0,.obj b)])).set J.length (.inst 0 [(0,.obj b),(1,.int 0)])) K Er;refine kz g3 (cY (a:=14) rfl (And.intro rfl (hG out _ b J.length hp ho ⟨g3,?_,rfl⟩ (by exact PC ‹_›) ⟨?_,λc hc=>?_⟩ (by exact Pc ‹_›) (OX _))))
 ·exact(OM (Je hb)).trans ((OM (Je hb)).trans hg)
 ·rw[Ps,Ps];have:=hO.len;rw[len1] at this;exact Pc ‹_›
 ·rw[OM (by exact PC ‹_›),OM (by exact PC ‹_›),hO.old c (by rw[len1];exact Nat.lt_succ_of_lt ‹_›)];exact OR hc
def dmC:List (Nm×List AV×Bool×Nat):=[([99,108,97,115,115,32,65,32,60,32,79,98,106,101,99,116,32,91,32,93],[lL,jO,kE,kN u9,bK,cx],QI,11),([99,108,97,115,115,32,79,98,106,101,99,116,32,60,32,65,32,91,32,93],[lL,kN u9,kE,jO,bK,cx],QI,11),([99,108,97,115,115,32,67,32,60,32,68,32,91,32,93],[lL,fJ,kE,kN [68],bK,cx],QI,11),([99,108,97,115,115,32,67,32,62,32,65,32,91,32,93],[lL,fJ,kB [62],jO,bK,cx],QI,11),([99,108,97,115,115,32,67,32,60,32,65,32,124,32,97,32,97,32,124,32,91,32,93],[lL,fJ,kE,jO,eW,kN [97],kN [97],eW,bK,cx],QI,19),([99,108,97,115,115,32,67,32,60,32,65,32,124,32,124,32,91,32,93],[lL,fJ,kE,jO,eW,eW,bK,cx],QI,15),([99,108,97,115,115,32,67,32,60,32,65,32,91,32,109,32,91,32,93,32,109,32,91,32,93,32,93],[lL,fJ,kE,jO,bK,jI,bK,cx,jI,bK,cx,cx],QI,23),([99,108,97,115,115,32,67,32,60,32,65,32,91,32,115,101,108,102,58,32,120,32,91,32,93,32,93],[lL,fJ,kE,jO,bK],QK,10),([99,108,97,115,115,32,67,32,60,32,65,32,91,32,97,116,58,32,120,32,112,117,116,58,32,120,32,91,32,93,32,93],[lL,fJ,kE,jO,bK,kK [97,116,58],fH,kK u7,fH,bK,cx,cx],QI,23),([99,108,97,115,115,32,67,32,60,32,65,32,91,32,43,32,51,32,91,32,93,32,93],[lL,fJ,kE,jO,bK,kB [43],kI 3,bK,cx,cx],QI,19),([99,108,97,115,115,32,67,32,60,32,65,32,91,32,120,58,32,120,32,91,32,124,32,120,32,124,32,93,32,93],[lL,fJ,kE,jO,bK,kK [120,58],fH,bK,eW,fH,eW,cx,cx],QI,25),([99,108,97,115,115,32,67,32,60,32,65,32,91,32,109,32,91,32,93,32],[lL,fJ,kE,jO,bK,jI,bK,cx],QI,16)]
def dmB:List (Nm×List AV×Bool×Nat):=[([99,108,97,115,115,32,67,32,60,32,65,32,91,32,109,32,91,32,48,55,32,93,32,93],[lL,fJ,kE,jO,bK,jI,bK],QK,14),([99,108,97,115,115,32,67,32,60,32,65,32,91,32,109,32,91,32,51,97,32,93,32,93],[lL,fJ,kE,jO,bK,jI,bK],QK,14),([99,108,97,115,115,32,67,32,60,32,65,32,91,32,109,32,91,32,91,32,58,49,32,124,32,93,32,93,32,93],[lL,fJ,kE,jO,bK,jI,bK,bK],QK,16),([99,108,97,115,115,32,67,32,60,32,65,32,91,32,109,32,91,32,91,32,58,32,120,32,124,32,93,32,93,32,93],[lL,fJ,kE,jO,bK,jI,bK,bK],QK,16),([99,108,97,115,115,32,67,32,60,32,65,32,91,32,109,32,91,32,91,32,58,110,105,108,32,124,32,93,32,93,32,93],[lL,fJ,kE,jO,bK,jI,bK,bK],QK,16),([99,108,97,115,115,32,67,32,60,32,65,32,91,32,109,32,91,32,35,32,49,32,93,32,93],[lL,fJ,kE,jO,bK,jI,bK],QK,14),([99,108,97,115,115,32,67,32,60,32,65,32,91,32,109,32,91,32,115,117,112,101,114,32,93,32,93],[lL,fJ,kE,jO,bK,jI,bK,kR Aa,cx,cx],QI,19),([99,108,97,115,115,32,67,32,60,32,65,32,91,32,109,32,91,32,49,32,43,32,115,117,112,101,114,32,93,32,93],[lL,fJ,kE,jO,bK,jI,bK,kI 1,kB [43],kR Aa,cx,cx],QI,23),([99,108,97,115,115,32,67,32,60,32,65,32,91,32,109,32,91,32,49,32,97,58,32,115,117,112,101,114,32,93,32,93],[lL,fJ,kE,jO,bK,jI,bK,kI 1,kK [97,58],kR Aa,cx,cx],QI,23),([99,108,97,115,115,32,67,32,60,32,65,32,91,32,109,32,91,32,91,32,58,120,32,58,120,32,124,32,93,32,93,32,93],[lL,fJ,kE,jO,bK,jI,bK,bK,kP [120],kP [120],eW,cx,cx,cx],QI,27),([99,108,97,115,115,32,67,32,60,32,65,32,91,32,109,32,91,32,94,49,46,32,50,32,93,32,93],[lL,fJ,kE,jO,bK,jI,bK,tq10,kI 1,tq4,kI 2,cx,cx],QI,23),([99,108,97,115,115,32,67,32,60,32,65,32,91,32,109,32,91,32,91,32,58,120,32,46,32,120,32,93,32,93,32,93],[lL,fJ,kE,jO,bK,jI,bK,bK,kP [120],tq4,fH,cx,cx,cx],QI,27)]
def dmM:List (Nm×List AV×Bool×Nat):=[([124,32,112,32,113,32,112,32,124,32],[eW,tq3,kU,tq3,eW],QI,10),([124,32,112,32,113,32,124,32,52,32,53,46,32],[eW,tq3,kU,eW,kI 4,kI 5,tq4],QI,13),([124,32,112,32,113,32,124,32,94,52,46,32],[eW,tq3,kU,eW,tq10,kI 4,tq4],QI,12),([124,32,112,32,113,32,124,32,52,32,93,32],[eW,tq3,kU,eW,kI 4,cx],QI,12),([124,32,112,32,113,32,124,32,40,52,46,32],[eW,tq3,kU,eW,kF,kI 4,tq4],QI,12),([124,32,112,32,113,32,124,32,52,41,46,32],[eW,tq3,kU,eW,kI 4,kG,tq4],QI,12),([124,32,112,32,113,32,124,32,99,108,97,115,115,46,32],[eW,tq3,kU,eW,lL,tq4],QI,11),([124,32,112,32,113,32,124,32,115,117,112,101,114,46,32],[eW,tq3,kU,eW,kR Aa,tq4],QI,11),([124,32,112,32,113,32,124,32,46,32],[eW,tq3,kU,eW,tq4],QI,10),(vc,[eW,tq3,kU],QI,6),([124,32,112,32,113,32,124,32,52,32,97,58,32,46,32],[eW,tq3,kU,eW,kI 4,kK [97,58],tq4],QI,14),([124,32,112,32,113,32,124,32,52,32,43,46,32],[eW,tq3,kU,eW,kI 4,kB [43],tq4],QI,13)]
def MH(x:Nm×List AV×Bool×Nat):Nat->Nm->List AV->(Option (List AV)->Prop)->Prop:=λm post out P=>d0 (Nat.add (Nat.succ m) x.2.2.2) (ai x.1 post) out P
def MI(x:Nm×List AV×Bool×Nat):Nat->Nm->List AV->(Option (List AV)->Prop)->Prop:=λm post out P=>Bn x.2.1 out λo=>cond x.2.2.1 (d0 (Nat.succ m) post o P) (P QE)
theorem H1:∀x∈ai dmC (ai dmB dmM),MH x=MI x:=aw (by kernel_rfl)
def Bx(I:Int)(tk:List AV)(P:vz->Prop):Prop:=me QI (gC QI 59) (P3.f14.body.take 5) QE [QA (.obj 1),QE,QE,QE,QE,QE,QE,QE,QE,QE,QE] (Co I [] tk) λfl U s=>P (n7 fl U s)
def dmF(l:List (Nm×List AV×Bool×Nat)):List (List AV):=List.rec [] (λx _ ih=>cond x.2.2.1 (x.2.1::ih) ih) l
abbrev MJ:=Int->List AV->(vz->Prop)->Prop
def ue:List AV->MJ:=λ_ _ _ P=>P .bad
def MK(t:List AV):MJ:=λI rest P=>Bx I (ai gy (ai t (ai hV rest))) P
def Ev(b:Bool)(t:List AV):MJ:=λI rest P=>Bx I (ai gy (ai hV (ai t (ai (Ln.toks (.newp b)) (tq4::rest))))) P
theorem H4:∀t∈dmF (ai dmC dmB),MK t=ue t:=aw (by kernel_rfl)
theorem By:∀t∈dmF dmM,Ev QK t=ue t/\Ev QI t=ue t:=λt h=>⟨aw (f:=Ev QK) (g:=ue) (by kernel_rfl) t h,aw (f:=Ev QI) (g:=ue) (by kernel_rfl) t h⟩
theorem ib{k:List AV->Prop}:∀(l out:List AV),out.length+l.length<100000->k (out++l)->Bn l out k:=by
 intro l;induction l with
 |nil=>intro out _ h;rw[O8] at h;exact h
 |cons t r ih=>
  intro out hl h;have hl':out.length+(r.length+1)<100000:=hl;refine AK (Po (by rw[aq];unfold aE;exact OK (PQ (o5 hl')) (by decide))) (ih (ai out [t]) ?_ ?_)
  ·rw[ae,OP];show out.length+1+_<_;exact LA hl'
  ·rw[ae,OQ];exact h
inductive Sep:Nm->Prop
 |a:Sep [46,32]
 |b:Sep [46]
 |c:Sep [10,46,10]
theorem Ew:∀l∈dN,and (Nat.ble (ao l.text) 80) (and (Nat.ble (ao l.toks) 60) (and (Nat.ble (lM (ai l.text [46,32]) (fz l)) 70) (and (Nat.ble (lM (ai l.text [46]) (fz l)) 70) (and (Nat.ble (lM (ai l.text [10,46,10]) (fz l)) 70) (Nat.ble (lM l.text l.toks) 68)))))=QI:=aw (g:=λu=>QI) (by kernel_rfl)
structure Oo(sep:Nm)(l:Ln):Prop where
 tx:l.text.length<=80
 tk:l.toks.length<=60
 st:lM (ai l.text sep) (fz l)<=70
 lst:lM l.text l.toks<=68
 eq:hZ (ai l.text sep) (fz l)=ia (fz l)
theorem H5{sep:Nm}(hs:Sep sep){l:Ln}(h:l∈dN):Oo sep l:=by
 have q:=Ew l h;have q1:=OD.mp q;have q2:=OD.mp q1.2;have q3:=OD.mp q2.2;have q4:=OD.mp q3.2;have q5:=OD.mp q4.2;have a:=OJ q1.1;have b:=OJ q2.1;rw[aq] at a b;cases hs with
 |a=>exact⟨a,b,OJ q3.1,OJ q5.2,Ky l h⟩
 |b=>exact⟨a,b,OJ q4.1,OJ q5.2,Kz l h⟩
 |c=>exact⟨a,b,OJ q5.1,OJ q5.2,KA l h⟩
def gD(sep:Nm)(fin:Bool):List Ln->Nm
 |[]=>cond fin [94,113] []
 |[l]=>l.text++cond fin (sep++[94,113]) []
 |l::l2::ls=>l.text++(sep++gD sep fin (l2::ls))
def wS(fin:Bool):List Ln->List AV
 |[]=>cond fin [tq10,kU] []
 |[l]=>l.toks++cond fin [tq4,tq10,kU] []
 |l::l2::ls=>l.toks++(tq4::wS fin (l2::ls))
theorem uf(fin:Bool):∀ls,cU fin ls=wS fin ls++[bJ]
 |[]=>by cases fin<;>rfl
 |[l]=>by show ai l.toks (cond fin (tq4::cond fin HW [bJ]) (cond fin HW [bJ]))=(l.toks++cond fin [tq4,tq10,kU] [])++[bJ];rw[ae,OQ];cases fin<;>rfl
 |l::l2::ls=>by show ai l.toks (tq4::cU fin (l2::ls))=(l.toks++(tq4::wS fin (l2::ls)))++[bJ];rw[uf fin (l2::ls),ae,OQ];rfl
theorem wT(m:Nat)(out:List AV)(P:Option (List AV)->Prop):d0 (Nat.add m 3) [94,113] out P=Bn [tq10,kU] out λo=>P (QA o):=by kernel_rfl
theorem rI{sep:Nm}(hs:Sep sep)(fin:Bool):∀(ls:List Ln) (out:List AV),(∀l∈ls,l∈dN)->(ls≠[]\/fin=QI)->out.length+70*ls.length<50000->∃k,k<=70*ls.length+10/\∀P:Option (List AV)->Prop,P (QA (out++wS fin ls))->d0 k (gD sep fin ls) out P
 |[],out,_,hne,hl=>by have hf:fin=QI:=hne.resolve_left λh=>h rfl;subst hf;exact⟨3,by exact PV _ _,λP h=>Eq.mpr (wT 0 out P) (ib _ _ (by show out.length+2<_;have:70*([]:List Ln).length=0:=rfl;exact OI (Nat.add_le_add_right (o5 hl) 2) (by decide)) h)⟩
 |[l],out,hA,_,hl=>by
  have B:=H5 hs (hA l (ON ..));have hl:out.length+70<50000:=hl;cases fin with
  |false=>refine⟨Nat.succ (Nat.add 0 (lM l.text l.toks)),by have:=B.lst;show _<=70*1+10;show Nat.succ (0+lM l.text l.toks)<=_;exact OI (O4 this _) (by decide),λP h=>?_⟩;have e:=congrFun (congrFun (congrFun (KB l (hA l (ON ..))) 0) out) P;have h:P (QA (out++(l.toks++[]))):=h;rw[O8] at h;show d0 _ (l.text++[]) out P;rw[O8];exact Eq.mpr e (ib _ _ (by have:=B.tk;exact OI (OU (o5 hl) this) (by decide)) h)
  |true=>
   refine⟨Nat.add 3 (lM (ai l.text sep) (fz l)),by have:=B.st;show 3+lM (ai l.text sep) (fz l)<=70*1+10;exact OK (O4 this _) (by decide),λP h=>?_⟩;have e:=congrFun (congrFun (congrFun (congrFun B.eq 3) [94,113]) out) P;have h:P (QA (out++(l.toks++[tq4,tq10,kU]))):=h;show d0 _ (l.text++(sep++[94,113])) out P;rw[<-OQ, <-ae, <-ae];refine Eq.mpr e (ib _ _ ?_ (Eq.mpr (wT 0 _ P) (ib _ _ ?_ ?_)))
   ·unfold fz;rw[ae,OP];have:=B.tk;show out.length+(_+1)<_;exact OI (OU (o5 hl) (PQ this)) (by decide)
   ·unfold fz;rw[ae,OP,OP];have:=B.tk;show out.length+(_+1)+2<_;exact OI (Nat.add_le_add_right (OU (o5 hl) (PQ this)) 2) (by decide)
   ·unfold fz;rw[ae,OQ,OQ];exact h
 |l::l2::ls,out,hA,_,hl=>by
  have B:=H5 hs (hA l (ON ..));have OB:(l::l2::ls).length=(l2::ls).length+1:=rfl;rw[OB] at hl ⊢;have hd:(fz l).length<=61:=by unfold fz;rw[ae,OP];have:=B.tk;show _+1<=_;exact Nat.lt_succ_of_le ‹_›
  obtain⟨k,hk,H⟩:=rI hs fin (l2::ls) (out++fz l) (λx hx=>hA x (O0 _ hx)) (.inl nofun) (by rw[OP];exact Jg hl hd);refine⟨Nat.add k (lM (ai l.text sep) (fz l)),by have:=B.st;show k+lM (ai l.text sep) (fz l)<=_;exact Jh hk this,λP h=>?_⟩;have e:=congrFun (congrFun (congrFun (congrFun B.eq k) (gD sep fin (l2::ls))) out) P;have h:P (QA (out++(l.toks++(tq4::wS fin (l2::ls))))):=h;show d0 _ (l.text++(sep++gD sep fin (l2::ls))) out P;rw[<-OQ, <-ae l.text, <-ae];refine Eq.mpr e (ib _ _ (OI (OU (o5 hl) hd) (by decide)) (H P ?_));unfold fz;rw[ae,OQ,OQ];exact h
noncomputable def Gj:Nm:=[124,32,112,32,113,32,124,32]
theorem wU:hZ Gj yE=ia yE:=by kernel_rfl
theorem KK:and (Nat.ble (lM rS gy) 300) (and (Nat.ble (ao rS) 300) (and (Nat.ble (ao gy) 300) (and (Nat.ble (lM rT hV) 200) (and (Nat.ble (ao rT) 200) (Nat.ble (ao hV) 200)))))=QI:=by kernel_rfl
structure KM:Prop where
 sa:lM rS gy<=300
 xa:rS.length<=300
 ka:gy.length<=300
 sb:lM rT hV<=200
 xb:rT.length<=200
 kb:hV.length<=200
theorem jK:KM:=by have q1:=OD.mp KK;have q2:=OD.mp q1.2;have q3:=OD.mp q2.2;have q4:=OD.mp q3.2;have q5:=OD.mp q4.2;exact⟨OJ q1.1,aq rS▸OJ q2.1,aq gy▸OJ q3.1,OJ q4.1,aq rT▸OJ q5.1,aq hV▸OJ q5.2⟩
theorem bL{x:Nm}(e:hZ x l=ia l){post:Nm}{out:List AV}{k:Nat}{P:Option (List AV)->Prop}(hl:out.length+l.length<100000)(h:d0 k post (out++l) P):d0 (Nat.add k (lM x l)) (x++post) out P:=by
 have e:=congrFun (congrFun (congrFun (congrFun e k) post) out) P
 (refine(ae ..)▸?_)
 exact Eq.mpr e (ib _ _ hl h)
theorem ML(n:Nat):80+(3+(90*n+2))<=90*(n+1)+2:=Lz
theorem MM(n:Nat):60+(70*n+2+1)<=70*(n+1)+2:=Ly
theorem je{sep:Nm}(hs:Sep sep)(fin:Bool):∀ls:List Ln,(∀l∈ls,l∈dN)->(gD sep fin ls).length<=90*ls.length+2
 |[],_=>by cases fin<;>exact OJ rfl
 |[l],hA=>by have B:=H5 hs (hA l (ON ..));have:=B.tx;show(l.text++cond fin (sep++[94,113]) []).length<=92;exact OK (iv B.tx (show(cond fin (sep++[94,113]) []).length<=5 by cases hs<;>cases fin<;>decide)) dc
 |l::l2::ls,hA=>by
  have B:=H5 hs (hA l (ON ..));have:=B.tx;have ih:=je hs fin (l2::ls) λx hx=>hA x (O0 _ hx);have hsep:sep.length<=3:=by cases hs<;>decide
  show(l.text++(sep++gD sep fin (l2::ls))).length<=90*((l2::ls).length+1)+2;exact OK (iv B.tx (iv hsep ih)) (ML _)
theorem rJ{sep:Nm}(hs:Sep sep)(fin:Bool):∀ls:List Ln,(∀l∈ls,l∈dN)->(wS fin ls).length<=70*ls.length+2
 |[],_=>by cases fin<;>decide
 |[l],hA=>by have B:=H5 hs (hA l (ON ..));have:=B.tk;show(l.toks++cond fin [tq4,tq10,kU] []).length<=72;exact OK (iv B.tk (show(cond fin [tq4,tq10,kU] []).length<=3 by cases fin<;>exact OJ rfl)) dc
 |l::l2::ls,hA=>by have B:=H5 hs (hA l (ON ..));have:=B.tk;have ih:=rJ hs fin (l2::ls) λx hx=>hA x (O0 _ hx);show(l.toks++(tq4::wS fin (l2::ls))).length<=70*((l2::ls).length+1)+2;exact OK (iv B.tk (PQ ih)) (MM _)
theorem Bz{J2:Hp}(O:Cn J J')(h0:J.length<=a0)(h1:J.length<=a1)(hl:J'.length<=J2.length)(hf:∀b,b<J'.length->b≠a0->b≠a1->J2[b]?=J'[b]?):Cn J J2:=
 ⟨OK O.len hl,λb hb=>(hf b (OV hb O.len) (PD (OV hb h0)) (PD (OV hb h1))).trans (O.old b hb)⟩
theorem BA(fin b:Bool)(ls:List Ln):∃rest,cU fin (.newp b::ls)=tq3::rest:=⟨_,rfl⟩
theorem BB{sep:Nm}(hs:Sep sep){fin b:Bool}{ls:List Ln}{J:Hp}{K:KV}{Er:KE}(hA:∀l∈Ln.newp b::ls,l∈dN)(hl:ls.length<20)
  (hK:∀J',Cn J J'->K (bh ((Ln.newp b::ls).map Ln.tree++rG fin)) J'):ef 61 15 [.str (rS++(rT++(Gj++gD sep fin (.newp b::ls))))] J K Er:=by
 have N:=jK;have tl:=OK (je hs fin _ hA) (Nat.add_le_add_right (Nat.mul_le_mul_left 90 hl) 2);have kl:=OK (rJ hs fin _ hA) (Nat.add_le_add_right (Nat.mul_le_mul_left 70 hl) 2);have ab:=iv (a:=[]++gy) N.ka N.kb;have pq:yE.length<=4:=OX 4;refine ak (rI hs fin (.newp b::ls) ((([]++gy)++hV)++yE) hA (.inl nofun) (OI (OU (iv ab pq) (Nat.mul_le_mul_left 70 hl)) dc)) λk hk H=>?_;have hk:=OK hk (Nat.add_le_add_right (Nat.mul_le_mul_left 70 hl) 10);refine gB (m:=Nat.add (Nat.add (Nat.add k (lM Gj yE)) (lM rT hV)) (lM rS gy)) (P:=λr=>r=QA ((([]++gy)++hV)++yE++wS fin (.newp b::ls))) ?_ ?_
  (bL Bo (OI (OU (OX 0) N.ka) dc) (bL Bp (OI (OU N.ka N.kb) dc) (bL wU (OI (OU ab pq) dc) (H _ rfl)))) (λout h=>?_) (λout J' a0 a1 hp ho S d01 O q0 q1=>?_) (λh=>nn h)
 ·exact OI (iv N.xa (iv N.xb (iv (a:=Gj) (OX 8) tl))) dc
 ·exact OK (OU (OU (OU hk (OX 8)) N.sb) N.sa) dc
 ·cases h;exact OI (iv (iv ab pq) kl) dc
 ·cases hp;have ee:(([]++gy)++hV)++yE++wS fin (.newp b::ls)++[bJ]=ai gy (ai hV (ai yE (cU fin (.newp b::ls)))):=by rw[ae,ae,ae,uf,List.nil_append,OQ,OQ,OQ]
  rw[ee] at S;exact aB (BA fin b ls) λrest hr=>Eu S d01 hr hA (OI hl dc) (.inl nofun) λJ2 hl2 hf2=>hK J2 (Bz O q0 q1 hl2 hf2)
theorem p5{K:KV}(S:Cq J a0 a1 tk n ts)(d01:a0≠a1)(ck:ag tk=QI)(E:∀P,Bx n tk P=P .bad)(hE:∀J',Er .verr J'):ef 60 14 [.obj a1] J K Er:=by refine gb (n:=59) (fd:=P3.f14) rfl [QA (.obj a1),QE,QE,QE,QE,QE,QE,QE,QE,QE,QE] rfl (jd 5 ?_);have RP:bu QI J (thF (f2 a0 a1) 2 J.length) (Co n [] tk) J:=Es (l:=[]) (f:=f2 a0 a1) (wz d01) S ck (λu u h=>nn h);have Y0:LR (thF (f2 a0 a1) 2 J.length) [QA (.obj 1),QE,QE,QE,QE,QE,QE,QE,QE,QE,QE] [QA (.obj a1),QE,QE,QE,QE,QE,QE,QE,QE,QE,QE]:=gZ rfl rfl ⟨ml (aF dc) rfl,trivial⟩;refine eV (hd:=QE) (eP 59) (λfl r U s J' Y R h=>h fl r U s J' rfl Y R) (P3.f14.body.take 5) _ _ _ J Y0 RP (Eq.mpr (E λe=>∀fl r U s J',e=n7 fl r s->LR (thF (f2 a0 a1) 2 J.length) r U->bu QI J (thF (f2 a0 a1) 2 J.length) s J'->lI HY (P3.f14.body.drop 5) QE (bk K Er) (gY (thF (f2 a0 a1) 2 J.length) fl) U J') λfl r U s J' e u u=>?_);rw[Et e.symm];exact hE J'
theorem mK{x:Nm×List AV×Bool×Nat}(e:MH x=MI x){post:Nm}{out:List AV}{k:Nat}{P:Option (List AV)->Prop}(hl:out.length+x.2.1.length<100000)(h:cond x.2.2.1 (d0 (Nat.succ k) post (out++x.2.1) P) (P QE)):d0 (Nat.add (Nat.succ k) x.2.2.2) (x.1++post) out P:=by
 have e:=congrFun (congrFun (congrFun (congrFun e k) post) out) P
 (refine(ae ..)▸?_)
 exact Eq.mpr e (ib _ _ hl h)
theorem H6:∀x∈ai dmC (ai dmB dmM),and (ag x.2.1) (and (Nat.ble (ao x.1) 50) (and (Nat.ble (ao x.2.1) 50) (Nat.ble x.2.2.2 100)))=QI:=aw (g:=λu=>QI) (by kernel_rfl)
theorem wV:∀{l:List (Nm×List AV×Bool×Nat)} {x:Nm×List AV×Bool×Nat},x∈l->x.2.2.1=QI->x.2.1∈dmF l:=by
 intro l;induction l with
 |nil=>intro x h;exact mn h
 |cons y r ih=>
  intro x h hx;show x.2.1∈cond y.2.2.1 (y.2.1::dmF r) (dmF r);rcases OZ.mp h with rfl|h
  ·(refine hx.symm▸?_);exact ON ..
  ·have:=ih h hx;cases y.2.2.1 with
   |true=>exact O0 _ this
   |false=>exact this
section
variable{xA xB xP mx:Nm}{tA tB tP tm:List AV}{J:Hp}{K:KV}{Er:KE}{x:Nm×List AV×Bool×Nat}
structure MN(x:Nm×List AV×Bool×Nat):Prop where
 no:ag x.2.1=QI
 tx:x.1.length<=50
 tk:x.2.1.length<=50
 st:x.2.2.2<=100
 eq:MH x=MI x
theorem KN(h:x∈ai dmC (ai dmB dmM)):MN x:=by have q1:=OD.mp (H6 x h);have q2:=OD.mp q1.2;have q3:=OD.mp q2.2;exact⟨q1.1,aq x.1▸OJ q2.1,aq x.2.1▸OJ q3.1,OJ q3.2,H1 x h⟩
structure Gk(x:Nm)(t:List AV):Prop where
 tx:x.length<=300
 tk:t.length<=300
 st:lM x t<=300
 eq:hZ x t=ia t
theorem BC(A:Gk xA tA)(B:Gk xB tB)(Q:Gk xP tP)(D:MN x)(hm:mx.length<=1950)(htm:tm.length<=1500)(H:∀out:List AV,out.length<=2000->∃k,k<=1500/\∀P:Option (List AV)->Prop,P (QA (out++tm))->d0 k mx out P)
  (hb:x.2.2.1=QI->∀(I:Int) (rest:List AV) (P:vz->Prop),Bx I (ai tA (ai x.2.1 (ai tB rest))) P=P .bad) (hE:∀J',Er .verr J'):ef 61 15 [.str (xA++(x.1++(xB++(xP++mx))))] J K Er:=by
 have a1:=A.tx;have a2:=A.tk;have a3:=A.st;have b1:=B.tx;have b2:=B.tk;have b3:=B.st;have q1:=Q.tx;have q2:=Q.tk;have q3:=Q.st;have d1:=D.tx;have d2:=D.tk;have d3:=D.st;have tot:(xA++(x.1++(xB++(xP++mx)))).length<3999:=OI (iv a1 (iv d1 (iv b1 (iv q1 hm)))) dc;refine ak (H (((([]++tA)++x.2.1)++tB)++tP) (OK (iv (iv (iv (a:=[]++tA) a2 d2) b2) q2) dc)) λk hk HH=>?_;have HL:=HH (λr=>r=QA ((((([]++tA)++x.2.1)++tB)++tP)++tm)) rfl;have HL2:=bL Q.eq (OI (OU (iv (iv (a:=[]++tA) a2 d2) b2) q2) dc) HL;have HL3:=bL B.eq (OI (OU (iv (a:=[]++tA) a2 d2) b2) dc) HL2;have K0:∃k0,Nat.add (Nat.add k (lM xP tP)) (lM xB tB)=Nat.succ k0:=by
  cases e:Nat.add (Nat.add k (lM xP tP)) (lM xB tB) with
  |zero=>rw[e] at HL3;exact HL3.elim
  |succ k0=>exact⟨k0,rfl⟩
 refine aB K0 λk0 ek=>?_;have hk0:Nat.succ k0<=2100:=ek▸OK (OU (OU hk q3) b3) dc;rw[ek] at HL3;cases hx:x.2.2.1 with
 |false=>have HX:d0 (Nat.add (Nat.succ k0) x.2.2.2) (x.1++(xB++(xP++mx))) ([]++tA) (λr=>r=QE):=mK D.eq (OI (OU a2 d2) dc) (by rw[hx];rfl);exact gB (P:=λr=>r=QE) tot (OK (OU (OU hk0 d3) a3) dc) (bL A.eq (OI (OU (OX 0) a2) dc) HX) nofun nofun λu J'=>hE J'
 |true=>
  have HX:d0 (Nat.add (Nat.succ k0) x.2.2.2) (x.1++(xB++(xP++mx))) ([]++tA) (λr=>r=QA ((((([]++tA)++x.2.1)++tB)++tP)++tm)):=mK D.eq (OI (OU a2 d2) dc) (by rw[hx];exact HL3);refine gB (P:=λr=>r=QA ((((([]++tA)++x.2.1)++tB)++tP)++tm)) tot (OK (OU (OU hk0 d3) a3) dc) (bL A.eq (OI (OU (OX 0) a2) dc) HX) (λout h=>?_) (λout J' a0 a1 hp ho S d01 O u u=>?_) (λh=>nn h)
  ·cases h;exact OI (iv (iv (iv (iv (a:=[]++tA) a2 d2) b2) q2) htm) dc
  ·cases hp;have ee:(((([]++tA)++x.2.1)++tB)++tP++tm)++[bJ]=ai tA (ai x.2.1 (ai tB (tP++(tm++[bJ])))):=by rw[ae,ae,ae,List.nil_append,OQ,OQ,OQ,OQ]
   have cko:=bG ho (show ag [bJ]=QI from rfl);rw[ee] at S cko;exact p5 S d01 cko (λP=>hb hx _ _ P) hE
theorem BD(A:Gk xA tA)(B:Gk xB tB)(D:MN x)(hm:mx.length<=1950)(htm:tm.length<=1500)(H:∀out:List AV,out.length<=2000->∃k,k<=1500/\∀P:Option (List AV)->Prop,P (QA (out++tm))->d0 k mx out P)
  (hb:x.2.2.1=QI->∀(I:Int) (P:vz->Prop),Bx I (ai tA (ai tB (ai x.2.1 (tm++[bJ])))) P=P .bad) (hE:∀J',Er .verr J'):ef 61 15 [.str (xA++(xB++(x.1++mx)))] J K Er:=by
 have a1:=A.tx;have a2:=A.tk;have a3:=A.st;have b1:=B.tx;have b2:=B.tk;have b3:=B.st;have d1:=D.tx;have d2:=D.tk;have d3:=D.st;have tot:(xA++(xB++(x.1++mx))).length<3999:=OI (iv a1 (iv b1 (iv d1 hm))) dc;refine ak (H ((([]++tA)++tB)++x.2.1) (OK (iv (iv (a:=[]++tA) a2 b2) d2) dc)) λk hk HH=>?_;have HL:=HH (λr=>r=QA (((([]++tA)++tB)++x.2.1)++tm)) rfl;have K0:∃k0,k=Nat.succ k0:=by
  cases k with
  |zero=>exact HL.elim
  |succ k0=>exact⟨k0,rfl⟩
 refine aB K0 λk0 er1=>?_;subst er1;cases hx:x.2.2.1 with
 |false=>have HX:d0 (Nat.add (Nat.succ k0) x.2.2.2) (x.1++mx) (([]++tA)++tB) (λr=>r=QE):=mK D.eq (OI (OU (iv (a:=[]++tA) a2 b2) d2) dc) (by rw[hx];rfl);exact gB (P:=λr=>r=QE) tot (OK (OU (OU (OU hk d3) b3) a3) dc) (bL A.eq (OI (OU (OX 0) a2) dc) (bL B.eq (OI (OU a2 b2) dc) HX)) nofun nofun λu J'=>hE J'
 |true=>
  have HX:d0 (Nat.add (Nat.succ k0) x.2.2.2) (x.1++mx) (([]++tA)++tB) (λr=>r=QA (((([]++tA)++tB)++x.2.1)++tm)):=mK D.eq (OI (OU (iv (a:=[]++tA) a2 b2) d2) dc) (by rw[hx];exact HL);refine gB (P:=λr=>r=QA (((([]++tA)++tB)++x.2.1)++tm)) tot (OK (OU (OU (OU hk d3) b3) a3) dc) (bL A.eq (OI (OU (OX 0) a2) dc) (bL B.eq (OI (OU a2 b2) dc) HX)) (λout h=>?_) (λout J' a0 a1 hp ho S d01 O u u=>?_) (λh=>nn h)
  ·cases h;exact OI (iv (iv (iv (a:=[]++tA) a2 b2) d2) htm) dc
  ·cases hp;have ee:((([]++tA)++tB)++x.2.1++tm)++[bJ]=ai tA (ai tB (ai x.2.1 (tm++[bJ]))):=by rw[ae,ae,ae,List.nil_append,OQ,OQ,OQ]
   have cko:=bG ho (show ag [bJ]=QI from rfl);rw[ee] at S cko;exact p5 S d01 cko (λP=>hb hx _ P) hE
end
theorem NF:Gk rS gy:=⟨jK.xa,jK.ka,jK.sa,Bo⟩
theorem NG:Gk rT hV:=⟨OK jK.xb dc,OK jK.kb dc,OK jK.sb dc,Bp⟩
theorem Op:Gk Gj yE:=⟨OJ rfl,OJ rfl,OJ rfl,wU⟩
section
variable{sep:Nm}(hs:Sep sep){fin b:Bool}{ls:List Ln}{J:Hp}{K:KV}{Er:KE}(hA:∀l∈Ln.newp b::ls,l∈dN)(hl:ls.length<20)(hE:∀J',Er .verr J'){x:Nm×List AV×Bool×Nat}
include hs hA hl
theorem ug:(gD sep fin (.newp b::ls)).length<=1950/\(wS fin (.newp b::ls)).length<=1500/\∀out:List AV,out.length<=2000->∃k,k<=1500/\∀P:Option (List AV)->Prop,P (QA (out++wS fin (.newp b::ls)))->d0 k (gD sep fin (.newp b::ls)) out P:=by have h1:(Ln.newp b::ls).length=ls.length+1:=rfl;have tl:=je hs fin _ hA;have kl:=rJ hs fin _ hA;rw[h1] at tl kl;refine⟨OK tl (OK (Nat.add_le_add_right (Nat.mul_le_mul_left 90 hl) 2) dc),OK kl (OK (Nat.add_le_add_right (Nat.mul_le_mul_left 70 hl) 2) dc),λout ho=>?_⟩;obtain⟨k,hk,H⟩:=rI hs fin (.newp b::ls) out hA (.inl nofun) (by rw[h1];exact OI (OU ho (Nat.mul_le_mul_left 70 hl)) dc);rw[h1] at hk;exact⟨k,OK hk (OK (Nat.add_le_add_right (Nat.mul_le_mul_left 70 hl) 10) dc),H⟩
include hE
theorem og(hx:x∈ai dmC dmB):ef 61 15 [.str (rS++(x.1++(rT++(Gj++gD sep fin (.newp b::ls)))))] J K Er:=by
 have hx':x∈ai dmC (ai dmB dmM):=by
  rw[ae] at hx
  ((refine(ae ..).symm▸?_;refine(ae ..).symm▸?_;refine(OQ ..)▸?_))
  exact OL.mpr (.inl hx)
 exact eI (ug hs (fin:=fin) hA hl) λm1 m2 m3=>BC NF NG Op (KN hx') m1 m2 m3 (λhb I rest P=>congrFun (congrFun (congrFun (H4 x.2.1 (wV hx hb)) I) rest) P) hE
theorem vB{l2:Ln}{ls':List Ln}(e2:ls=l2::ls')(hx:x∈dmM):ef 61 15 [.str (rS++(rT++(x.1++gD sep fin (.newp b::ls))))] J K Er:=by
 have hx':x∈ai dmC (ai dmB dmM):=by rw[ae,ae];exact OL.mpr (.inr (OL.mpr (.inr hx)))
 refine eI (ug hs (fin:=fin) hA hl) λm1 m2 m3=>BD NF NG (KN hx') m1 m2 m3 (λhb I P=>?_) hE;have M:=By x.2.1 (wV hx hb);have ee:wS fin (.newp b::ls)++[bJ]=ai (Ln.toks (.newp b)) (tq4::(wS fin (l2::ls')++[bJ])):=by subst e2;refine Eq.trans ?_ (ae ..).symm;show(Ln.toks (.newp b)++(tq4::wS fin (l2::ls')))++[bJ]=_;refine(OQ ..).trans ?_;rfl
 (refine ee.symm▸?_)
 cases b with
 |false=>exact congrFun (congrFun (congrFun M.1 I) _) P
 |true=>exact congrFun (congrFun (congrFun M.2 I) _) P
end
def Gl:List PS:=Option.rec [] (λs=>match s with
 |.r _ _ b=>b
 |_=>[]) (be P3.f40.body 10)
inductive EL where
 |ok (sl:List (Option (Option AV))) (n:Nat) (o l:Option az)
 |odd
def wW(s:GS)(o:Option (Option AV)):Option az:=Option.rec QE (λo=>Option.rec QE (λv=>match v with
 |.obj k=>aG s.t k
 |_=>QE) o) o
def oU(fl:Flow)(U:Loc)(s:GS):EL:=match fl with
 |.next=>cond (fo U) (.ok (fu (be U) [0,1,2,3,4,5,6,7,8,9]) (ao U) (wW s (be U 6)) (wW s (be U 9))) .odd
 |_=>.odd
def yn(n:Nat)(l:Loc):Loc:=ai l (xV n QE)
def Gm(zs:List AV)(b:Int)(q:Int)(v w:AV)(cost:Int)(last:Nm)(Ou:Int)(zo zx zy:Int)(outs Oy:List AV)(od:List Int)(ob:List Bool)(Ow:EL->Prop):Prop:=
 me QK (gC QK 61) Gl QE (yn 21 [QA (.flist zs),QA (.int b),QA (.int q),QA v,QA w,QA (.int cost),QA (.obj 0),QA (.str last),QA (.int Ou),QA (.obj 1),QA (.int zo),QA (.int zx),QA (.int zy)]) (gs [.list outs,.list Oy] od ob) λfl U s=>Ow (oU fl U s)
noncomputable def MO (o:Nat) (n m:Nat):Ln:=match o with
 |0=>.put m n
 |1=>cond (Nat.ble 2 m) .get .old
 |2=>.sub n
 |3=>.atp m n
 |4=>.sum n
 |5=>.setq n
 |6=>.bools n m
 |7=>.seven n
 |8=>cond (Nat.beq m 0) (.doR n) (.outp n)
 |_=>cond (Nat.ble m 1) .tell .prt
noncomputable def sI (i:Int):Option (Option AV):=QA (QA (.int i))
def yG(zs:List AV)(a:As)(cost:Int)(k:Nat)(last:Nm)(Ou:Int):List (Option (Option AV)):=[QA (QA (.flist zs)),sI (cond a.b 1 0),sI a.q,QA (QA (vV a.v)),QA (QA (vV a.w)),sI cost,QA (QA (.obj k)),QA (QA (.str last)),sI Ou,QA (QA (.obj 1))]
def MP(zs:List AV)(cost:Int)(outs Oy:List AV)(l:Ln)(x:Rs):EL:=.ok (yG zs x.a (cost+x.QB) 3 x.value x.Ou) 34 (QA (.list (ai outs (lS x.said)))) (QA (.list (ai Oy [.str l.text])))
def MQ(zs:List AV)(a:As)(cost:Int)(last:Nm)(Ou:Int)(outs Oy:List AV)(l:Ln):EL:=.ok (yG zs a cost 0 last Ou) 34 (QA (.list outs)) (QA (.list (ai Oy [.str l.text])))
abbrev TL:=List AV->Int->Int->Int->Int->Int->Int->Int->Int->Int->Int->Nm->List AV->List AV->(EL->Prop)->Prop
abbrev Pt:=Nat×Option Nat×Option Nat×List Nat
def wX(o:Option Nat)(x:Int):Int:=Option.rec x (λn=>(n:Int)) o
def NH(p:Pt)(nn mm:Int):List Int:=p.1::wX p.2.1 nn::wX p.2.2.1 mm::fu (λn:Nat=>(n:Int)) p.2.2.2
def uh(b:Bool)(v w:Int->Option Int)(p:Pt):TL:=λzs q i j cost Ou zo zx zy nn mm last outs Oy P=>Gm zs (cond b 1 0) q (vV (v i)) (vV (w j)) cost last Ou zo zx zy outs Oy (NH p nn mm) [] P
def gd(l:List Bool)(k:Prop):Prop:=List.rec k (λb _ ih=>bt b ih) l
def NI(o:Option Nat):Nat:=Option.rec 0 (λn=>n) o
def h0(l:List Nat):Nat:=List.rec 0 (λn _ _=>n) l
def h1(l:List Nat):Nat:=List.rec 0 (λ_ r _=>h0 r) l
def mM(p:Pt):Ln:=match p.1 with
 |10=>.say (h0 p.2.2.2)
 |11=>.wrong (Nat.add (h0 p.2.2.2) (Nat.mul 12 (h1 p.2.2.2)))
 |o=>MO o (NI p.2.1) (NI p.2.2.1)
def IN(p:Pt)(zx zy:Int):List Bool:=List.rec [] (λn r _=>(Int.fmod zx 12==(n:Int))::List.rec [] (λn _ _=>[Int.fmod zy 2==(n:Int)]) r) p.2.2.2
def BE(a:As)(l:Ln):Rs:=match l with
 |.sub n=>Option.rec (mr a) (λi=>⟨4+2*a.b.toNat,[am (i - n+cond a.b 1 0)],am (i - n+cond a.b 1 0),a,0⟩) a.v
 |.sum n=>cond (Nat.beq n 0) ⟨4,[],wD a.b,a,0⟩ (Option.rec (mr a) (λi=>⟨4+5*n,[],wD a.b,⟨a.b,QA (i+Int.fdiv ((n:Int)*((n:Int)+1)) 2),a.w,a.q⟩,0⟩) a.v)
 |l=>opL a l
def MR(v:Option Int):List Bool:=Option.rec [] (λi=>[cN i,cN i]) v
def gx(a:As)(l:Ln):List Bool:=match l with
 |.get=>MR a.v
 |.old=>cond a.b (MR a.w) []
 |.sub n=>Option.rec [] (λi=>[cN (i - n+cond a.b 1 0),cN (i - n+cond a.b 1 0)]) a.v
 |.setq n=>[cN (n - a.q)]
 |.prt=>cond a.b (Option.rec [] (λi=>[cN i]) a.w) []
 |_=>[]
noncomputable def Ey (a:As) (c:Nat) (w:Nm):Rs:=⟨c,[w],w,a,0⟩
def NJ(a:As)(l:Ln)(k:Rs->Prop):Prop:=match l with
 |.bools n m=>cond (decide (a.q<n)) (cond (decide (m<3)) (k (Ey a 6 md)) (cond (a.q==n) (k (Ey a 7 md)) (k (Ey a 7 mE)))) (cond (not (decide (a.q<n))) (cond (a.q==n) (k (Ey a 6 md)) (k (Ey a 6 mE))) (cond (decide (a.q<n)) (k (Ey a 5 md)) (k (Ey a 5 mE))))
 |.seven n=>cond (decide (n<a.q)) (k (Ey a 5 [55])) (k (Ey a 5 iu))
 |l=>k (BE a l)
def Gn(zs:List AV)(a:As)(cost:Int)(last:Nm)(Ou:Int)(outs Oy:List AV)(l:Ln)(P:EL->Prop):Prop:=gd (gx a l) (NJ a l λx=>gd [Nat.blt (ao Oy) aE] (cond (Ou==0) (gd [Nat.ble (ao (ai outs (lS x.said))) aE] (P (MP zs cost outs Oy l x))) (P (MQ zs a cost last Ou outs Oy l))))
def ui(b:Bool)(v w:Int->Option Int)(p:Pt):TL:=λzs q i j cost Ou zo zx zy nn mm last outs Oy P=>gd [Int.fmod zo 12==p.1,Int.fmod zx 5==wX p.2.1 nn,Int.fmod zy 5==wX p.2.2.1 mm] (gd (IN p zx zy) (Gn zs ⟨b,v i,w j,q⟩ cost last Ou outs Oy (mM p) P))
noncomputable def up5:List Nat:=[0,1,2,3,4]
def H7(o:Nat):List Pt:=mt (λn=>fu (λm=>(o,QA n,QA m,[])) up5) up5
def H8(o:Nat):List Pt:=fu (λn=>(o,QA n,QE,[])) up5
def H9(o:Nat):List Pt:=fu (λm=>(o,QE,QA m,[])) up5
def tabP:List Pt:=ai (mt H7 [0,3,6,8]) (ai (mt H8 [2,4,5,7]) (ai (mt H9 [1,9]) (ai (fu (λk=>(10,QE,QE,[k])) (upN 12)) (mt (λy=>fu (λk=>(11,QE,QE,[k,y])) (upN 12)) [0,1]))))
noncomputable def gH:Int->Option Int:=λ_=>QE
noncomputable def gI:Int->Option Int:=λi=>QA i
theorem Ia:∀p∈tabP,uh QK gH gH p=ui QK gH gH p:=aw (by kernel_rfl)
theorem Ib:∀p∈tabP,uh QK gH gI p=ui QK gH gI p:=aw (by kernel_rfl)
theorem Ic:∀p∈tabP,uh QK gI gH p=ui QK gI gH p:=aw (by kernel_rfl)
theorem Id:∀p∈tabP,uh QK gI gI p=ui QK gI gI p:=aw (by kernel_rfl)
theorem Ie:∀p∈tabP,uh QI gH gH p=ui QI gH gH p:=aw (by kernel_rfl)
theorem Ig:∀p∈tabP,uh QI gH gI p=ui QI gH gI p:=aw (by kernel_rfl)
theorem Ih:∀p∈tabP,uh QI gI gH p=ui QI gI gH p:=aw (by kernel_rfl)
theorem Ii:∀p∈tabP,uh QI gI gI p=ui QI gI gI p:=aw (by kernel_rfl)
theorem iq{l:List Bool}{k:Prop}(h:∀b,b∈l->b=QI)(hk:k):gd l k:=by
 induction l with
 |nil=>exact hk
 |cons b r ih=>exact AK (h b (ON ..)) (ih λx hx=>h x (O0 _ hx))
theorem fm{z c n:Int}(h:Int.fmod z c=n):(Int.fmod z c==n)=QI:=beq_iff_eq.mpr h
structure LF(U:Loc)(zs:List AV)(a:As)(cost:Int)(A:Nat)(last:Nm)(Ou:Int)(B:Nat):Prop where
 len:U.length=34
 no:aP U=QI
 s0:U[0]?=QA (QA (.flist zs))
 s1:U[1]?=QA (QA (.int (cond a.b 1 0)))
 s2:U[2]?=QA (QA (.int a.q))
 s3:U[3]?=QA (QA (vV a.v))
 s4:U[4]?=QA (QA (vV a.w))
 s5:U[5]?=QA (QA (.int cost))
 s6:U[6]?=QA (QA (.obj A))
 s7:U[7]?=QA (QA (.str last))
 s8:U[8]?=QA (QA (.int Ou))
 s9:U[9]?=QA (QA (.obj B))
structure LH(J:Hp)(A B:Nat)(outs Oy:List AV):Prop where
 ou:J[A]?=QA (.list outs)
 li:J[B]?=QA (.list Oy)
 ne:A≠B
 co:ag outs=QI
 cl:ag Oy=QI
noncomputable def rU (A B:Nat) (i:Nat):Nat:=match i with|0=>A|_=>B
theorem LH.rep{od:List Int}{ob:List Bool}(h:LH J A B outs Oy):bu QK J (thF (rU A B) 2 J.length) (gs [.list outs,.list Oy] od ob) J:=
 jH (l:=[.list outs,.list Oy]) (f:=rU A B) (wz h.ne) λk o e=>by
  match k,e with
  |0,e=>
   ((have hz:=OO e;subst hz))
   show _=QA (az.list (aD _ outs));exact(aC _ h.co).symm▸h.ou
  |1,e=>
   ((have hz:=OO e;subst hz))
   show _=QA (az.list (aD _ Oy));exact(aC _ h.cl).symm▸h.li
theorem gF(v:Option Int):dP (vV v)=QI:=by cases v<;>rfl
theorem Ij(v:Option Int):ren θ (vV v)=vV v:=bw _ (gF v)
theorem BF(a:As)(l:Ln)(h:fF l):BE a l=opL a l:=by
 obtain⟨b,v,w,q⟩:=a;cases h with
 |sub n=>cases v with
  |none=>rfl
  |some i=>cases b with
   |true=>rfl
   |false=>show(⟨4,[am (i - n+0)],am (i - n+0),⟨QK,QA i,w,q⟩,0⟩:Rs)=⟨4,[am (i - n)],am (i - n),⟨QK,QA i,w,q⟩,0⟩;exact(Int.add_zero ..).symm▸rfl
 |sum n h=>
  cases v with
  |none=>revert n;exact cs (cs (cs (cs (cs cz rfl) rfl) rfl) rfl) rfl
  |some i=>
   have S:∀(c:Nat) (x y:Int),x=y->(⟨c,[],wD b,⟨b,QA x,w,q⟩,0⟩:Rs)=⟨c,[],wD b,⟨b,QA y,w,q⟩,0⟩:=λc x y e=>by exact e▸rfl
   revert n;refine cs (cs (cs (cs (cs cz ?_) ?_) ?_) ?_) ?_
   ·rfl
   ·exact S 9 (i+1) (i+(0+1)) (by rfl)
   ·exact S 14 (i+3) (i+(0+1)+(0+1+1)) (IX)
   ·exact S 19 (i+6) (i+(0+1)+(0+1+1)+(0+1+1+1)) (IY)
   ·exact S 24 (i+10) (i+(0+1)+(0+1+1)+(0+1+1+1)+(0+1+1+1+1)) (IW)
 |_=>rfl
theorem Ik{a:As}{l:Ln}(h:fF l){k:Rs->Prop}(hk:k (opL a l)):NJ a l k:=by
 have jJ:k (BE a l):=by exact(BF a l h).symm▸hk
 cases h with
 |bools n m=>
  have hk:k (nT a n m):=hk;unfold nT at hk;show cond (decide (a.q<n)) _ _;by_cases c:a.q<n
  ·rw[if_pos c] at hk
   (refine(PL c).symm▸?_)
   show cond (decide (m<3)) _ _;by_cases d:m<3
   ·rw[if_pos d] at hk;exact(PL d).symm▸hk
   ·rw[if_neg d] at hk;rw[PM d];show cond (a.q==n) _ _;rw[PJ.mpr (Int.ne_of_lt c)];exact hk
  ·rw[if_neg c] at hk
   (refine(PM c).symm▸?_)
   show cond (a.q==n) _ _;by_cases d:a.q=n
   ·rw[if_pos d] at hk;exact(beq_iff_eq.mpr d).symm▸hk
   ·rw[if_neg d] at hk;exact(PJ.mpr d).symm▸hk
 |seven n=>
  have hk:k (nU a n):=hk;unfold nU at hk;show cond (decide (n<a.q)) _ _;by_cases c:n<a.q
  ·rw[if_pos c] at hk;exact(PL c).symm▸hk
  ·rw[if_neg c] at hk;exact(PM c).symm▸hk
 |_=>exact jJ
theorem KO{a:As}{l:Ln}(hB:Bd 1000 a)(h:fF l):∀b,b∈gx a l->b=QI:=by
 obtain⟨b,v,w,q⟩:=a;have V:∀x:Option Int,(∀i,x=QA i-> -1000<=i/\i<=1000)->∀c,c∈MR x->c=QI:=by
  intro x hx c hc;cases x with
  |none=>exact mn hc
  |some i=>
   have:=hx i rfl;have e:cN i=QI:=sg (Nc this) (Nd this);rcases OZ.mp hc with rfl|hc
   ·exact e
   ·exact(OF.mp hc).trans e
 intro c hc;cases h with
 |get=>exact V v hB.v c hc
 |old=>cases b with
  |false=>cases hc
  |true=>exact V w hB.w c hc
 |sub n h0 h5=>cases v with
  |none=>cases hc
  |some i=>
   have:=hB.v i rfl;have hb:(0:Int)<=cond b 1 0/\(cond b 1 0:Int)<=1:=by cases b<;>decide
   have e:cN (i - n+cond b 1 0)=QI:=sg (O2 (by decide) (Int.add_le_add (Qb this.1 (Qm h5)) hb.1)) (O5 (Int.add_le_add (Qb this.2 h0) hb.2) (by decide));rcases OZ.mp hc with rfl|hc
   ·exact e
   ·exact(OF.mp hc).trans e
 |setq n h0 h5=>have:=hB.q;have e:cN (n - q)=QI:=sg (by have: -1000<=q/\q<=1000:=this;exact O2 (by decide) (Qb h0 this.2)) (by have: -1000<=q/\q<=1000:=this;exact O5 (Qb (Qm h5) this.1) (by decide));exact(OF.mp hc).trans e
 |prt=>cases b with
  |false=>cases hc
  |true=>cases w with
   |none=>cases hc
   |some i=>have:=hB.w i rfl;have e:cN i=QI:=sg (Nc this) (Nd this);exact(OF.mp hc).trans e
 |_=>cases hc
theorem Ez(zs:List AV)(a:As){p:Pt}(hp:p∈tabP)(cost Ou zo zx zy nn mm:Int)(last:Nm)(outs Oy:List AV)(P:EL->Prop):Gm zs (cond a.b 1 0) a.q (vV a.v) (vV a.w) cost last Ou zo zx zy outs Oy (NH p nn mm) [] P=
  gd [Int.fmod zo 12==p.1,Int.fmod zx 5==wX p.2.1 nn,Int.fmod zy 5==wX p.2.2.1 mm] (gd (IN p zx zy) (Gn zs a cost last Ou outs Oy (mM p) P)):=by
 obtain⟨b,v,w,q⟩:=a;have C:∀{f g:TL},f=g->∀i j,f zs q i j cost Ou zo zx zy nn mm last outs Oy P=g zs q i j cost Ou zo zx zy nn mm last outs Oy P:=λh i j=>by exact h▸rfl
 cases b with
 |false=>cases v with
  |none=>cases w with
   |none=>exact C (Ia p hp) 0 0
   |some j=>exact C (Ib p hp) 0 j
  |some i=>cases w with
   |none=>exact C (Ic p hp) i 0
   |some j=>exact C (Id p hp) i j
 |true=>cases v with
  |none=>cases w with
   |none=>exact C (Ie p hp) 0 0
   |some j=>exact C (Ig p hp) 0 j
  |some i=>cases w with
   |none=>exact C (Ih p hp) i 0
   |some j=>exact C (Ii p hp) i j
abbrev fK:Call:=ef 61
theorem KP{s:GS}{sl:List (Option (Option AV))}{o l:Option az}(h:oU fl r s=.ok sl n o l):fl=.next/\aP r=QI/\fu (be r) [0,1,2,3,4,5,6,7,8,9]=sl/\ao r=n/\wW s (be r 6)=o/\wW s (be r 9)=l:=by
 unfold oU at h;split at h
 ·cases q:fo r with
  |false=>rw[q] at h;cases h
  |true=>rw[q] at h;cases h;exact⟨rfl,dZ r▸q,rfl,rfl,rfl,rfl⟩
 ·cases h
theorem lO{A B:Prop}(h:A):cond QI A B:=h
theorem fA{A B:Prop}(h:B):cond QK A B:=h
theorem iZ(a:As){l:Ln}(h:fF l):(opL a l).said.length<=1:=by
 have SO:∀(v:Option Int) (F:Int->Rs),(∀i,(F i).said.length<=1)->(Option.rec (mr a) F v:Rs).said.length<=1:=by
  intro v F hF;cases v with
  |none=>exact O3 _
  |some i=>exact hF i
 cases h with
 |put m n hm=>
  revert m;refine cs (cs (cs (cs (cs cz ?_) ?_) ?_) ?_) ?_
  ·exact O3 _
  ·exact O3 _
  ·exact O3 _
  ·exact O3 _
  ·exact O3 _
 |old=>
  show(cond a.b (_:Rs) (_:Rs)).said.length<=1;cases a.b
  ·exact O3 _
  ·exact OX _
 |sub n=>exact SO a.v _ λi=>OX _
 |atp m n=>show(rA a m n).said.length<=1;unfold rA;split<;>exact O3 _
 |sum n h5=>
  revert n;refine cs (cs (cs (cs (cs cz ?_) ?_) ?_) ?_) ?_
  ·exact O3 _
  ·exact SO a.v _ λi=>O3 _
  ·exact SO a.v _ λi=>O3 _
  ·exact SO a.v _ λi=>O3 _
  ·exact SO a.v _ λi=>O3 _
 |bools n m=>
  show(nT a n m).said.length<=1;unfold nT;split
  ·split<;>exact OX _
  ·split<;>exact OX _
 |seven n=>show(nU a n).said.length<=1;unfold nU;split<;>exact OX _
 |prt=>show(cond a.b (_:Rs) (_:Rs)).said.length<=1;cases a.b<;>exact OX _
 |say i=>
  show(Option.rec (mr a) (λx=>(⟨x.2+1,[x.1],x.1,a,0⟩:Rs)) (be vq i):Rs).said.length<=1;cases be vq i
  ·exact O3 _
  ·exact OX _
 |doR=>exact O3 _
 |outp=>exact O3 _
 |wrong=>exact O3 _
 |_=>exact OX _
section
variable{U:Loc}{zs outs Oy:List AV}{a:As}{cost Ou zo zx zy nn mm:Int}{A B:Nat}{last:Nm}{J:Hp}{p:Pt}{K:KS}
theorem BG{a':As}{cost' fate':Int}{last':Nm}{outs' lines':List AV}{s:GS}(t1:θ 1=B)(hz:ag zs=QI)(ho:ag outs'=QI)(hli:ag lines'=QI)(hk:k≠1)(e:oU fl r s=.ok (yG zs a' cost' k last' fate') 34 (QA (.list outs')) (QA (.list lines')))
  (Y:LR θ r U') (R:bu QK J θ s J'):fl=.next/\LF U' zs a' cost' (θ k) last' fate' B/\LH J' (θ k) B outs' lines':=by
 refine rW (KP e) λer0 hn es eL eo el=>?_;subst er0;have G:∀(i:Nat) (v:AV),be r i=QA (QA v)->U'[i]?=QA (QA (ren θ v)):=λi v h=>Y.get ((cA r i).symm.trans h);have es:[be r 0,be r 1,be r 2,be r 3,be r 4,be r 5,be r 6,be r 7,be r 8,be r 9]=[QA (QA (.flist zs)),QA (QA (.int (cond a'.b 1 0))),QA (QA (.int a'.q)),QA (QA (vV a'.v)),QA (QA (vV a'.w)),QA (QA (.int cost')),QA (QA (.obj k)),QA (QA (.str last')),QA (QA (.int fate')),QA (QA (.obj 1))]:=es;have c1:=OY es;have c2:=OY c1.2;have c3:=OY c2.2;have c4:=OY c3.2;have c5:=OY c4.2;have c6:=OY c5.2;have c7:=OY c6.2;have c8:=OY c7.2;have c9:=OY c8.2;have c10:=OY c9.2;have g0:=G 0 _ c1.1;have g3:=G 3 _ c4.1;have g4:=G 4 _ c5.1;have g9:=G 9 _ c10.1;rw[show ren θ (.flist zs)=.flist (aD _ zs) from rfl,aC _ hz] at g0;rw[Ij] at g3 g4;rw[show ren θ (.obj 1)=.obj (θ 1) from rfl,t1] at g9
 (replace eo:=c7.1▸eo)
 (replace el:=c10.1▸el)
 have go:J'[θ k]?=QA (.list (aD _ outs')):=R.get k _ eo;have gl:J'[θ 1]?=QA (.list (aD _ lines')):=R.get 1 _ el;rw[aC _ ho] at go;rw[aC _ hli,t1] at gl;exact⟨rfl,⟨by exact(Y.len ..).symm▸(aq ..)▸eL.symm▸rfl,cg Y hn,g0,G 1 _ c2.1,G 2 _ c3.1,g3,g4,G 5 _ c6.1,G 6 _ c7.1,G 7 _ c8.1,G 8 _ c9.1,g9⟩,⟨go,gl,λq=>hk (R.inj k 1 (q.trans t1.symm)),ho,hli⟩⟩
theorem rK{a':As}{cost' fate':Int}{last':Nm}{outs' lines':List AV}{s:GS}(hz:ag zs=QI)(ho:ag outs'=QI)(hli:ag lines'=QI)(hk:k≠1)(e:oU fl r s=.ok (yG zs a' cost' k last' fate') 34 (QA (.list outs')) (QA (.list lines')))
  (Y:LR (thF (rU A B) 2 J.length) r U') (R:bu QK J (thF (rU A B) 2 J.length) s J'):fl=.next/\LF U' zs a' cost' (thF (rU A B) 2 J.length k) last' fate' B/\LH J' (thF (rU A B) 2 J.length k) B outs' lines':=BG (aF dc) hz ho hli hk e Y R
theorem BH(F:LF U zs a cost A last Ou B)(s10:U[10]?=QA (QA (.int zo)))(s11:U[11]?=QA (QA (.int zx)))(s12:U[12]?=QA (QA (.int zy)))(H:LH J A B outs Oy)(hz:ag zs=QI)(hp:p∈tabP)(r0:Int.fmod zo 12=p.1)(r1:Int.fmod zx 5=wX p.2.1 nn)(r2:Int.fmod zy 5=wX p.2.2.1 mm)(r3:∀b,b∈IN p zx zy->b=QI)
  (hB:Bd 1000 a) (hA:fF (mM p)) (ho:outs.length<900) (hl:Oy.length<900)
  (h0:Ou=0->∀J' A' U',LF U' zs (opL a (mM p)).a (cost+(opL a (mM p)).QB) A' (opL a (mM p)).value (opL a (mM p)).Ou B->LH J' A' B (outs++lS (opL a (mM p)).said) (Oy++[.str (mM p).text])->K .next U' J')
  (h1:Ou≠0->∀J' U',LF U' zs a cost A last Ou B->LH J' A B outs (Oy++[.str (mM p).text])->K .next U' J'):ax fK Gl QE U J K:=by
 have Y0:LR (thF (rU A B) 2 J.length) (yn 21 [QA (.flist zs),QA (.int (cond a.b 1 0)),QA (.int a.q),QA (vV a.v),QA (vV a.w),QA (.int cost),QA (.obj 0),QA (.str last),QA (.int Ou),QA (.obj 1),QA (.int zo),QA (.int zx),QA (.int zy)]) U:=by exact gZ F.len.symm F.no ⟨oP (v:=.flist zs) hz F.s0,F.s1,F.s2,oP (gF _) F.s3,oP (gF _) F.s4,F.s5,ml (aF dc) F.s6,F.s7,F.s8,ml (aF dc) F.s9,s10,s11,s12,trivial⟩
 have lS_len:∀x:Rs,(lS x.said).length=x.said.length:=by
  intro x;generalize x.said=l;induction l with
  |nil=>rfl
  |cons y r ih=>exact PK Nat.succ ih
 have Q:=Ez zs a hp cost Ou zo zx zy nn mm last outs Oy λe=>∀fl r U s J',e=oU fl r s->LR (thF (rU A B) 2 J.length) r U->bu QK J (thF (rU A B) 2 J.length) s J'->K (gY (thF (rU A B) 2 J.length) fl) U J';refine hM (eP 61) Gl QE _ U _ J _ K Y0 H.rep (Eq.mpr Q ?_) λfl r U s J' Y R h=>h fl r U s J' rfl Y R;refine iq (λb hb=>?_) (iq r3 (iq (KO hB hA) (Ik hA (iq (λb hb=>?_) ?_))))
 ·rcases OZ.mp hb with rfl|hb
  ·exact fm r0
  ·rcases OZ.mp hb with rfl|hb
   ·exact fm r1
   ·exact(OF.mp hb).trans (fm r2)
 ·refine(OF.mp hb).trans ?_;exact Po (by rw[aq];unfold aE;exact OV ‹_› (PV _ _))
 have cli:ag (ai Oy [.str (mM p).text])=QI:=iY rfl H.cl;have cS:∀l:List Nm,ag (lS l)=QI:=by
  intro l;induction l with
  |nil=>rfl
  |cons y r ih=>exact ih
 have sd:(opL a (mM p)).said.length<=1:=iZ a hA;by_cases hf:Ou=0
 ·(refine(beq_iff_eq.mpr hf).symm▸?_)
  refine lO (iq (λb hb=>?_) λfl r U' s J' e Y R=>?_)
  ·refine(OF.mp hb).trans ?_;exact Po (by rw[aq,ae,OP,lS_len];unfold aE;exact OK (OU (Pc ho) sd) (by decide))
  ·obtain⟨rfl,F',H'⟩:=rK hz (by refine(PK _ (ae ..)).trans ?_;exact bG H.co (cS _)) cli dc e.symm Y R;rw[ae,ae] at H';exact h0 hf J' _ U' F' H'
 ·(refine(PJ.mpr hf).symm▸?_)
  refine fA λfl r U' s J' e Y R=>?_;refine eI (rK hz H.co cli dc e.symm Y R) λer0 F' H'=>?_;subst er0;rw[aF (show 0<2 by decide)] at F' H';rw[ae] at H';exact h1 hf J' U' F' H'
end
theorem jf(h:n<5):n∈up5:=by
 revert n;refine @(cs (cs (cs (cs (cs cz ?_) ?_) ?_) ?_) ?_)
 ·exact OE (i:=0) rfl
 ·exact OE (i:=1) rfl
 ·exact OE (i:=2) rfl
 ·exact OE (i:=3) rfl
 ·exact OE (i:=4) rfl
theorem cW(z:Int){c:Nat}(hc:0<c):∃n:Nat,n<c/\Int.fmod z c=n:=by have h0:0<=Int.fmod z c:=Int.fmod_nonneg_of_pos z (Jc hc);have h1:Int.fmod z c<c:=Int.fmod_lt_of_pos z (Jc hc);exact⟨(Int.fmod z c).toNat,by omega,by omega⟩
theorem kL:tabP=[0,3,6,8].flatMap H7++([2,4,5,7].flatMap H8++([1,9].flatMap H9++((upN 12).map (λk=>((10,QE,QE,[k]):Pt))++[0,1].flatMap λy=>(upN 12).map λk=>((11,QE,QE,[k,y]):Pt)))):=by unfold tabP;rw[ae,ae,ae,ae,dL,dL,dL,dK,dL];rfl
theorem EA{o:Nat}(ho:o∈[0,3,6,8])(hn:n<5)(hm:m<5):((o,QA n,QA m,[]):Pt)∈tabP:=by rw[kL];refine OL.mpr (.inl (PP.mpr ⟨o,ho,?_⟩));unfold H7;rw[dL];refine PP.mpr ⟨n,jf hn,?_⟩;rw[dK];exact Pa.mpr ⟨m,jf hm,rfl⟩
theorem EB{o:Nat}(ho:o∈[2,4,5,7])(hn:n<5):((o,QA n,QE,[]):Pt)∈tabP:=by rw[kL];refine OL.mpr (.inr (OL.mpr (.inl (PP.mpr ⟨o,ho,?_⟩))));unfold H8;rw[dK];exact Pa.mpr ⟨n,jf hn,rfl⟩
theorem KQ{o:Nat}(ho:o∈[1,9])(hm:m<5):((o,QE,QA m,[]):Pt)∈tabP:=by rw[kL];refine OL.mpr (.inr (OL.mpr (.inr (OL.mpr (.inl (PP.mpr ⟨o,ho,?_⟩))))));unfold H9;rw[dK];exact Pa.mpr ⟨m,jf hm,rfl⟩
theorem MS(hk:k<12):((10,QE,QE,[k]):Pt)∈tabP:=by rw[kL];exact OL.mpr (.inr (OL.mpr (.inr (OL.mpr (.inr (OL.mpr (.inl (Pa.mpr ⟨k,dM hk,rfl⟩))))))))
theorem MT{y:Nat}(hk:k<12)(hy:y<2):((11,QE,QE,[k,y]):Pt)∈tabP:=by
 rw[kL];refine OL.mpr (.inr (OL.mpr (.inr (OL.mpr (.inr (OL.mpr (.inr (PP.mpr ⟨y,?_,Pa.mpr ⟨k,dM hk,rfl⟩⟩))))))));revert y;refine @(cs (cs cz ?_) ?_)
 ·exact OE (i:=0) rfl
 ·exact OE (i:=1) rfl
theorem yH{zo zx zy:Int}(p:Pt)(h:p∈tabP)(nn mm:Int)(a:Int.fmod zo 12=p.1)(b:Int.fmod zx 5=wX p.2.1 nn)(c:Int.fmod zy 5=wX p.2.2.1 mm)(d:∀b,b∈IN p zx zy->b=QI)(e:fF (mM p)):∃p,p∈tabP/\∃nn mm,Int.fmod zo 12=p.1/\Int.fmod zx 5=wX p.2.1 nn/\Int.fmod zy 5=wX p.2.2.1 mm/\(∀b,b∈IN p zx zy->b=QI)/\fF (mM p):=⟨p,h,nn,mm,a,b,c,d,e⟩
theorem KR(zo zx zy:Int):∃p,p∈tabP/\∃nn mm,Int.fmod zo 12=p.1/\Int.fmod zx 5=wX p.2.1 nn/\Int.fmod zy 5=wX p.2.2.1 mm/\(∀b,b∈IN p zx zy->b=QI)/\fF (mM p):=by
 refine ak (cW zo (c:=12) dc) λo ho eo=>ak (cW zx (c:=5) dc) λn hn en=>ak (cW zy (c:=5) dc) λm hm em=>ak (cW zx (c:=12) dc) λk hk ek=>ak (cW zy (c:=2) dc) λy hy ey=>?_;have n0:(0:Int)<=(n:Int):=Px n;have n5:(n:Int)<5:=Jd hn;have m0:(0:Int)<=(m:Int):=Px m;have m5:(m:Int)<5:=Jd hm;revert o;refine @(cs (cs (cs (cs (cs (cs (cs (cs (cs (cs (cs (cs cz ?_) ?_) ?_) ?_) ?_) ?_) ?_) ?_) ?_) ?_) ?_) ?_)
 ·exact λeo=>yH (0,QA n,QA m,[]) (EA (OE (i:=0) rfl) hn hm) 0 0 eo en em (λu h=>mn h) (.put m n hm n0 n5)
 ·refine λeo=>yH (1,QE,QA m,[]) (KQ (OE (i:=0) rfl) hm) _ 0 eo en em (λu h=>mn h) ?_;show fF (cond (Nat.ble 2 m) .get .old);cases Nat.ble 2 m
  ·exact .old
  ·exact .get
 ·exact λeo=>yH (2,QA n,QE,[]) (EB (OE (i:=0) rfl) hn) 0 _ eo en em (λu h=>mn h) (.sub n n0 n5)
 ·exact λeo=>yH (3,QA n,QA m,[]) (EA (OE (i:=1) rfl) hn hm) 0 0 eo en em (λu h=>mn h) (.atp m n m0 m5 n0 n5)
 ·exact λeo=>yH (4,QA n,QE,[]) (EB (OE (i:=1) rfl) hn) 0 _ eo en em (λu h=>mn h) (.sum n hn)
 ·exact λeo=>yH (5,QA n,QE,[]) (EB (OE (i:=2) rfl) hn) 0 _ eo en em (λu h=>mn h) (.setq n n0 n5)
 ·exact λeo=>yH (6,QA n,QA m,[]) (EA (OE (i:=2) rfl) hn hm) 0 0 eo en em (λu h=>mn h) (.bools n m m0 m5 n0 n5)
 ·exact λeo=>yH (7,QA n,QE,[]) (EB (OE (i:=3) rfl) hn) 0 _ eo en em (λu h=>mn h) (.seven n n0 n5)
 ·refine λeo=>yH (8,QA n,QA m,[]) (EA (OE (i:=3) rfl) hn hm) 0 0 eo en em (λu h=>mn h) ?_;show fF (cond (Nat.beq m 0) (.doR n) (.outp n));cases Nat.beq m 0
  ·exact .outp n n0 n5
  ·exact .doR n n0 n5
 ·refine λeo=>yH (9,QE,QA m,[]) (KQ (OE (i:=1) rfl) hm) _ 0 eo en em (λu h=>mn h) ?_;show fF (cond (Nat.ble m 1) .tell .prt);cases Nat.ble m 1
  ·exact .prt
  ·exact .tell
 ·exact λeo=>yH (10,QE,QE,[k]) (MS hk) _ _ eo en em (λb hb=>by refine(OF.mp hb).trans ?_;exact fm ek) (.say k hk)
 ·refine λeo=>yH (11,QE,QE,[k,y]) (MT hk hy) _ _ eo en em (λb hb=>?_) (.wrong _ (by show k+12*y<24;exact OV (Nat.add_lt_add_right hk _) (O4 (Nat.mul_le_mul_left 12 (Pv hy)) 12)));rcases OZ.mp hb with rfl|hb
  ·exact fm ek
  ·refine(OF.mp hb).trans ?_;exact fm ey
structure rV where
 a:As
 cost:Int
 outs:List AV
 last:Nm
 Ou:Int
def aY(s:rV)(l:Ln):rV:=if s.Ou=0 then⟨(opL s.a l).a,s.cost+(opL s.a l).QB,s.outs++lS (opL s.a l).said,(opL s.a l).value,(opL s.a l).Ou⟩ else s
def aO(s:rV):List Ln->rV
 |[]=>s
 |l::ls=>aO (aY s l) ls
abbrev Li(U:Loc)(zs:List AV)(s:rV)(A B:Nat):Prop:=LF U zs s.a s.cost A s.last s.Ou B
theorem jg(h:aP U=QI)(hv:bF v=QI):aP (U.set i (QA v))=QI:=by
 have Y:LR (λk=>k) (List.replicate U.length QE) U:=Av _ U (List.length_replicate ..) h λi v e=>by rw[List.getElem?_replicate] at e;split at e<;>cases e
 have Y2:=Y.set (vu (θ:=λk=>k) hv) i;refine cg Y2 ((PK _ (List.set_replicate_self ..)).trans ?_);generalize U.length=n;induction n with
 |zero=>rfl
 |succ n ih=>exact ih
theorem LF.set{a:As}{last:Nm}(F:LF U zs a cost A last Ou B){i:Nat}(hi:10<=i)(hv:bF v=QI):LF (U.set i (QA v)) zs a cost A last Ou B:=by have g:∀j,j<10->∀x,U[j]?=QA x->(U.set i (QA v))[j]?=QA x:=λj hj x e=>(OM (PC (OV hj hi))).trans e;exact⟨by refine(Ps ..).trans ?_;exact F.len,jg F.no hv,g 0 dc _ F.s0,g 1 dc _ F.s1,g 2 dc _ F.s2,g 3 dc _ F.s3,g 4 dc _ F.s4,g 5 dc _ F.s5,g 6 dc _ F.s6,g 7 dc _ F.s7,g 8 dc _ F.s8,g 9 dc _ F.s9⟩
noncomputable abbrev Il:PT:=.tup [.v 10,.v 11,.v 12]
abbrev yo(vs:List AV)(K:KS):Nat->Nat->Loc->Hp->Prop:=qd (yO fK Il) (ax fK Gl QE) (.fixed vs) K
theorem yp{y z:AV}(h:vs[i]?=QA (.tup [x,y,z]))(hl:U.length=34)(hb:ax fK Gl QE (((U.set 10 (QA x)).set 11 (QA y)).set 12 (QA z)) J (lT (yo vs K n (i+1)) K)):yo vs K (n+1) i U J:=by show cC (QA vs[i]?) _;rw[h];exact⟨rfl,by rw[hl];decide,by rw[Ps,hl];decide,by rw[Ps,Ps,hl];decide,hb⟩
theorem BI(h:vs[i]?=QE)(hb:K .next U J):yo vs K (n+1) i U J:=by show cC (QA vs[i]?) _;exact h.symm▸hb
theorem uj{s:rV}{l:Ln}{c:Int}(hc:5<=c)(h:Bd c s.a)(hl:fF l):Bd (c+20) (aY s l).a:=by
 unfold aY;split
 ·exact wH hc h hl
 ·exact h.mono (Int.le_add_of_nonneg_right dc)
theorem vC{s:rV}{l:Ln}(hl:fF l):(aY s l).outs.length<=s.outs.length+1:=by
 unfold aY;split
 ·show(s.outs++lS _).length<=_;rw[OP];have:=iZ s.a hl;have e:∀l:List Nm,(lS l).length=l.length:=by
   intro l;induction l with
   |nil=>rfl
   |cons y r ih=>exact PK Nat.succ ih
  rw[e];exact O4 this _
 ·exact PR _
theorem BJ{s:rV}{zo zx zy:Int}(hz:ag zs=QI)(F:Li U zs s A B)(H:LH J A B s.outs Oy)(hB:Bd 1000 s.a)(ho:s.outs.length<900)(hl:Oy.length<900)
  (hK:∀l,fF l->∀J' A' U',Li U' zs (aY s l) A' B->LH J' A' B (aY s l).outs (Oy++[.str l.text])->K .next U' J'):ax fK Gl QE (((U.set 10 (QA (.int zo))).set 11 (QA (.int zx))).set 12 (QA (.int zy))) J K:=by
 refine ah λPG Ox=>?_;obtain⟨p,hp,nn,mm,r0,r1,r2,r3,hA⟩:=KR zo zx zy;refine Ox ?_;have L:=F.len;refine BH (((F.set dc rfl).set dc rfl).set dc rfl) ?_ ?_ ?_ H hz hp r0 r1 r2 r3 hB hA ho hl (λhf J' A' U' F' H'=>?_) λhf J' U' F' H'=>?_
 ·rw[OM dc,OM dc];exact OT (by rw[L];decide)
 ·refine(OM dc).trans ?_;exact OT (by rw[Ps,L];decide)
 ·exact OT (by rw[Ps,Ps,L];decide)
 ·have e:aY s (mM p)=⟨(opL s.a (mM p)).a,s.cost+(opL s.a (mM p)).QB,s.outs++lS (opL s.a (mM p)).said,(opL s.a (mM p)).value,(opL s.a (mM p)).Ou⟩:=if_pos hf;refine hK (mM p) hA J' A' U' ?_ ?_
  ·exact e.symm▸F'
  ·exact e.symm▸H'
 ·have e:aY s (mM p)=s:=if_neg hf;refine hK (mM p) hA J' A U' ?_ ?_
  ·exact e.symm▸F'
  ·exact e.symm▸H'
theorem BK(hz:ag zs=QI):∀(ts:List (Int×Int×Int)) (n i:Nat) (s:rV) (Oy:List AV) (A:Nat) (U:Loc) (J:Hp) (c:Int),vs.drop i=ts.map (λt=>AV.tup [.int t.1,.int t.2.1,.int t.2.2])->ts.length+1<=n->5<=c->c+20*ts.length<=1000->Bd c s.a->s.outs.length+ts.length<900->Oy.length+ts.length<900->
  Li U zs s A B->LH J A B s.outs Oy->(∀ls:List Ln,ls.length=ts.length->(∀l∈ls,fF l)->∀J' A' U',Li U' zs (aO s ls) A' B->LH J' A' B (aO s ls).outs (Oy++ls.map λl=>AV.str l.text)->K .next U' J')->yo vs K n i U J:=by
 intro ts;induction ts with
 |nil=>
  intro n i s Oy A U J c hd hn _ _ _ _ _ F H hK;cases n with
  |zero=>exact absurd hn (Nat.not_succ_le_zero _)
  |succ n=>
   have e:vs[i]?=QE:=by have:=PK (λl=>l[0]?) hd;rw[PZ] at this;exact this
   refine BI e (hK [] rfl (λu h=>mn h) J A U F ?_);show LH J A B s.outs (Oy++[]);rw[O8];exact H
 |cons t ts ih=>
  intro n i s Oy A U J c hd hn hc hc2 hB ho hl F H hK;have h1:(t::ts).length=ts.length+1:=rfl;rw[h1] at hn ho hl;have h2:(((t::ts).length:Nat):Int)=(ts.length:Int)+1:=rfl
  (replace hc2:=h2▸hc2)
  cases n with
  |zero=>exact absurd hn (Nat.not_succ_le_zero _)
  |succ n=>
   have e:vs[i]?=QA (.tup [.int t.1,.int t.2.1,.int t.2.2]):=by have:=PK (λl=>l[0]?) hd;rw[PZ] at this;exact this
   have hd':vs.drop (i+1)=ts.map λt=>AV.tup [.int t.1,.int t.2.1,.int t.2.2]:=by((refine(Qa ..)▸?_;refine hd.symm▸?_));rfl
   refine yp e F.len (BJ hz F H (hB.mono (by lia)) (OI (O1 _ _) ho) (OI (O1 _ _) hl) λl hA J' A' U' F' H'=>nZ (ih n (i+1) (aY s l) (Oy++[.str l.text]) A' U' J' (c+20) hd' (Nat.le_of_succ_le_succ hn) (Pw hc (Int.le_add_of_nonneg_right dc)) (by lia) (uj hc hB hA) ?_ ?_ F' H' λls e1 e2 J2 A2 U2 F2 H2=>?_))
   ·have:=vC (s:=s) hA;exact OI (OK (Nat.add_le_add_right this _) (Ql (O7 _ 1 _))) ho
   ·rw[OP];show Oy.length+1+_<_;exact OI (Ql (O7 _ 1 _)) hl
   ·refine hK (l::ls) (PK Nat.succ e1) (λx hx=>?_) J2 A2 U2 F2 ?_
    ·rcases OZ.mp hx with rfl|hx
     ·exact hA
     ·exact e2 x hx
    ·rw[OQ] at H2;exact H2
abbrev KT:GC:=gC QK 61
def Go(z0 z1:Int)(rest:List AV)(od:List Int)(P:EL->Prop):Prop:=me QK KT ((P3.f40.body.drop 1).take 9) QE (yn 33 [QA (.flist (.int z0::.int z1::rest))]) (gs [] od []) λfl U s=>P (oU fl U s)
abbrev TH:=Int->Int->List AV->(EL->Prop)->Prop
def Lj(b:Bool)(q:Nat):TH:=λz0 z1 rest P=>Go z0 z1 rest [cond b 1 0,q] P
def MU(b:Bool)(q:Nat):TH:=λz0 z1 rest P=>gd [Int.fmod z0 2==cond b 1 0,Int.fmod z1 5==(q:Int)] (P (.ok (yG (.int z0::.int z1::rest) ⟨b,QE,QE,q⟩ 1 0 [] 0) 34 (QA (.list [])) (QA (.list [.str (Ln.text (.newp b)),.str (Ln.text (.qis q))]))))
theorem Im:∀q∈up5,Lj QK q=MU QK q:=aw (by kernel_rfl)
theorem Io:∀q∈up5,Lj QI q=MU QI q:=aw (by kernel_rfl)
noncomputable def mu (z0 z1 z2 z3 z4 z5:Int) (rest:List AV):List AV:=.int z0::.int z1::.int z2::.int z3::.int z4::.int z5::rest
def MV(zs:List AV)(a:As)(cost:Int)(last:Nm)(Ou:Int):Loc:=yn 24 [QA (.flist zs),QA (.int (cond a.b 1 0)),QA (.int a.q),QA (vV a.v),QA (vV a.w),QA (.int cost),QA (.obj 0),QA (.str last),QA (.int Ou),QA (.obj 1)]
def KU(zs:List AV)(a:As)(cost:Int)(last:Nm)(Ou:Int)(outs Oy:List AV)(od:List Int)(P:EL->Prop):Prop:=me QK KT ((P3.f40.body.drop 11).take 1) QE (MV zs a cost last Ou) (gs [.list outs,.list Oy] od []) λfl U s=>P (oU fl U s)
abbrev TF:=Int->Int->Int->Int->Int->Int->List AV->Int->Int->Int->Int->Int->Nm->List AV->List AV->(EL->Prop)->Prop
def Cr(b:Bool)(v w:Int->Option Int)(r:Nat):TF:=λz0 z1 z2 z3 z4 z5 rest q i j cost Ou last outs Oy P=>KU (mu z0 z1 z2 z3 z4 z5 rest) ⟨b,v i,w j,q⟩ cost last Ou outs Oy [r] P
def EC(b:Bool)(v w:Int->Option Int)(r:Nat):TF:=λz0 z1 z2 z3 z4 z5 rest q i j cost Ou last outs Oy P=>gd [Int.fmod z2 3==(r:Int)] (cond (Nat.beq r 0)
 (gd [Nat.blt (ao Oy) aE] (cond (Ou==0) (gd [cN q] (P (.ok (yG (mu z0 z1 z2 z3 z4 z5 rest) ⟨b,v i,w j,q⟩ cost 0 (am q) Ou) 34 (QA (.list outs)) (QA (.list (ai Oy [.str [94,113]])))))) (P (.ok (yG (mu z0 z1 z2 z3 z4 z5 rest) ⟨b,v i,w j,q⟩ cost 0 last Ou) 34 (QA (.list outs)) (QA (.list (ai Oy [.str [94,113]])))))))
 (P (.ok (yG (mu z0 z1 z2 z3 z4 z5 rest) ⟨b,v i,w j,q⟩ cost 0 last Ou) 34 (QA (.list outs)) (QA (.list Oy)))))
theorem ED:∀r∈[0,1,2],Cr QK gH gH r=EC QK gH gH r:=aw (by kernel_rfl)
theorem EE:∀r∈[0,1,2],Cr QK gH gI r=EC QK gH gI r:=aw (by kernel_rfl)
theorem EG:∀r∈[0,1,2],Cr QK gI gH r=EC QK gI gH r:=aw (by kernel_rfl)
theorem EH:∀r∈[0,1,2],Cr QK gI gI r=EC QK gI gI r:=aw (by kernel_rfl)
theorem EI:∀r∈[0,1,2],Cr QI gH gH r=EC QI gH gH r:=aw (by kernel_rfl)
theorem EJ:∀r∈[0,1,2],Cr QI gH gI r=EC QI gH gI r:=aw (by kernel_rfl)
theorem EK:∀r∈[0,1,2],Cr QI gI gH r=EC QI gI gH r:=aw (by kernel_rfl)
theorem EM:∀r∈[0,1,2],Cr QI gI gI r=EC QI gI gI r:=aw (by kernel_rfl)
set_option genInjectivity true in
inductive EW where
 |ok (sl:List (Option (Option AV))) (n:Nat) (x:Bool) (o:Option az)
 |odd
def yq(fl:Flow)(U:Loc)(s:GS):EW:=match fl with
 |.next=>.ok (fu (be U) [0,5,6,7,8,19,20,23,24,25]) (ao U) (fo U) (aG s.t 0)
 |_=>.odd
def Lk(zs:List AV)(cost:Int)(last:Nm)(Ou:Int):Loc:=yn 24 [QA (.flist zs),QE,QE,QE,QE,QA (.int cost),QA (.obj 0),QA (.str last),QA (.int Ou),QA (.obj 1)]
def wY(g:AV)(k:Nat):Nm:=match g with
 |.tup vs=>Option.rec [] (λv=>match v with|.str x=>x|_=>[]) (be vs k)
 |_=>[]
def yr(OA Oz:Nat):Nm:=cond (Nat.beq OA 0) (wY P3.g5 Oz) (cond (Nat.beq OA 1) (ai (ai [99,108,97,115,115,32,67,32,60,32,65,32,91,32,109,32,91,32] (wY P3.g6 Oz)) [32,93,32,93]) [])
def IO(OA Oz:Nat):Nm:=cond (Nat.beq OA 2) (wY P3.g7 Oz) [124,32]
def cy(OA Oz:Nat)(j:Nm):Nm:=ai (ai (ai (ai (ai rS (yr OA Oz)) rT) vc) (IO OA Oz)) j
def gG(r:Nat):Nm:=wY P3.g10 r
abbrev TW:=Int->Int->Int->Int->Int->Int->Int->List AV->Int->Int->Nm->List AV->List AV->(EW->Prop)->Prop
noncomputable def yt (OA Oz:Nat) (pp:Int):Int:=cond (Nat.ble OA 2) (Oz:Int) pp
def wL(t:Nat×Nat×Nat):TW:=λz0 z1 z2 z3 z4 z5 pp rest cost Ou last outs Oy P=>me QK KT ((P3.f40.body.drop 12).take 10) QE (Lk (mu z0 z1 z2 z3 z4 z5 rest) cost last Ou) (gs [.list outs,.list Oy] [t.1,yt t.1 t.2.1 pp,t.2.2] []) λfl U s=>P (yq fl U s)
def wR(t:Nat×Nat×Nat):TW:=λz0 z1 z2 z3 z4 z5 pp rest cost Ou last outs Oy P=>gd [Int.fmod z4 9==(t.1:Int),Int.fmod z5 12==yt t.1 t.2.1 pp,Int.fmod z3 3==(t.2.2:Int)] (oT (kq Oy) λl=>gd [Nat.ble (l.map λx=>x.length+(gG t.2.2).length).sum aE,Nat.ble (ao (cy t.1 t.2.1 (eN (gG t.2.2) l))) aE]
 (P (.ok [QA (QA (.flist (mu z0 z1 z2 z3 z4 z5 rest))),QA (QA (.int cost)),QA (QA (.obj 0)),QA (QA (.str last)),QA (QA (.int Ou)),QA (QA (.int t.1)),QA (QA (.int (yt t.1 t.2.1 pp))),QA (QA (.str (cy t.1 t.2.1 (eN (gG t.2.2) l)))),QA (QA .none),QA (QA (.bool QK))] 34 QI (QA (.list outs)))))
def tabW:List (Nat×Nat×Nat):=mt (λr=>ai (mt (λm=>fu (λp=>(m,p,r)) (upN 12)) [0,1,2]) (fu (λm=>(m,0,r)) [3,4,5,6,7,8])) [0,1,2]
theorem KW:∀t∈tabW,wL t=wR t:=aw (by kernel_rfl)
set_option genInjectivity true in
inductive EV where
 |ok (sl:List (Option (Option AV))) (n:Nat) (x:Bool) (o:Option az)
 |odd
def BL(fl:Flow)(U:Loc)(s:GS):EV:=match fl with
 |.next=>.ok (fu (be U) [5,6,7,8,24,31,32,33]) (ao U) (fo U) (aG s.t 0)
 |_=>.odd
def MW(zs:List AV)(cost:Int)(last:Nm)(Ou:Int)(Oz:Int)(rs:List AV):Loc:=ai [QA (.flist zs),QE,QE,QE,QE,QA (.int cost),QA (.obj 0),QA (.str last),QA (.int Ou)] (ai (xV 11 QE) (ai [QA (.int Oz),QE,QE,QE,QA (bh rs)] (xV 9 QE)))
noncomputable def uk (y:Nat->AV) (z5 z18:Int) (rest:List AV):List AV:=y 0::y 1::y 2::y 3::y 4::.int z5::y 6::y 7::y 8::y 9::y 10::y 11::y 12::y 13::y 14::y 15::y 16::y 17::.int z18::rest
abbrev TV:=(Nat->AV)->Int->Int->List AV->List AV->Int->Int->Nm->List AV->(EV->Prop)->Prop
def vL(t:Nat×Nat):TV:=λy z5 z18 rest rs cost Ou last outs P=>me QK KT ((P3.f40.body.drop 25).take 12) QE (MW (uk y z5 z18 rest) cost last Ou t.1 rs) (gs [.list outs] [t.2] []) λfl U s=>P (BL fl U s)
def Ip(rs:List AV)(cost:Int)(Ou:Int)(last:Nm)(outs:List AV)(over:Int):EV:=.ok [QA (QA (.int cost)),QA (QA (.obj 0)),QA (QA (.str last)),QA (QA (.int Ou)),QA (QA (bh rs)),QA (QA (.int over)),QA (QA .none),QA (QA (.bool QK))] 34 QI (QA (.list outs))
def vR(t:Nat×Nat):TV:=λu z5 z18 u rs cost Ou last outs P=>gd [Int.fmod z18 5==(t.2:Int)] (cond (Nat.beq t.2 4) (cond (decide (z5<0)) (P (Ip rs cost 1 last outs z5)) (P (Ip rs cost Ou last outs z5))) (cond (Nat.beq t.2 0) (P (Ip rs cost 1 last outs ((t.2:Int) - 1))) (P (Ip rs cost Ou last outs ((t.2:Int) - 1)))))
def tabV:List (Nat×Nat):=mt (λp=>fu (λr=>(p,r)) up5) (upN 12)
theorem KY:∀t∈tabV,vL t=vR t:=aw (by kernel_rfl)
theorem MX:∀p∈upN 12,(Option.rec QE (λx=>QA x.1) (be dmC p):Option Nm)=QA (yr 0 p):=aw (by kernel_rfl)
theorem MY:∀p∈upN 12,(Option.rec QE (λx=>QA x.1) (be dmB p):Option Nm)=QA (yr 1 p):=aw (by kernel_rfl)
theorem MZ:∀p∈upN 12,(Option.rec QE (λx=>QA x.1) (be dmM p):Option Nm)=QA (ai vc (IO 2 p)):=aw (by kernel_rfl)
theorem wZ{said:List Nm}(h:said.length<=1):rm out said=out++lS said:=by
 cases said with
 |nil=>exact(O8 out).symm
 |cons t r=>cases r with
  |nil=>exact ae out [.str t]
  |cons=>simp at h
theorem jL{s:rV}(h:s.Ou≠0)(ls:List Ln):aO s ls=s:=by
 induction ls with
 |nil=>rfl
 |cons l ls ih=>show aO (aY s l) ls=s;exact(show aY s l=s from if_neg h).symm▸ih
theorem kM{s:rV}{l:Ln}(h:s.Ou=0):aY s l=⟨(opL s.a l).a,s.cost+(opL s.a l).QB,s.outs++lS (opL s.a l).said,(opL s.a l).value,(opL s.a l).Ou⟩:=if_pos h
theorem p6(s:rV)(ls:List Ln):s.cost<=(aO s ls).cost:=by
 induction ls generalizing s with
 |nil=>exact Int.le_refl _
 |cons l ls ih=>
  have h:=ih (aY s l);refine Pw ?_ h;by_cases hf:s.Ou=0
  ·rw[kM hf];show s.cost<=s.cost+_;exact Int.le_add_of_nonneg_right (Px _)
  ·exact(show aY s l=s from if_neg hf).symm▸(Int.le_refl _)
theorem Gp{a:As}{l:Ln}(h:fF l)(hf:2<=(opL a l).Ou):(opL a l).said=[]/\(opL a l).Ou=2:=by
 have SO:∀(v:Option Int) (F:Int->Rs),(∀i,(F i).Ou=0)->(Option.rec (mr a) F v:Rs).Ou<=1:=by
  intro v F hF;cases v with
  |none=>exact OX _
  |some i=>show(F i).Ou<=1;exact(hF i).symm▸(O3 _)
 have no:(opL a l).Ou<=1->(opL a l).said=[]/\(opL a l).Ou=2:=λq=>by lia
 cases h with
 |doR n=>exact⟨rfl,rfl⟩
 |put m n hm=>
  refine no ?_;revert m;refine @(cs (cs (cs (cs (cs cz ?_) ?_) ?_) ?_) ?_)
  ·intros;exact O3 _
  ·intros;exact O3 _
  ·intros;exact O3 _
  ·intros;exact O3 _
  ·intros;exact O3 _
 |old=>
  refine no ?_;show(cond a.b (_:Rs) (_:Rs)).Ou<=1;cases a.b
  ·exact OX _
  ·exact O3 _
 |sub n=>exact no (SO a.v _ λi=>rfl)
 |atp m n=>refine no ?_;show(rA a m n).Ou<=1;unfold rA;split<;>exact O3 _
 |sum n h5=>
  refine no ?_;revert n;refine @(cs (cs (cs (cs (cs cz ?_) ?_) ?_) ?_) ?_)
  ·intros;exact O3 _
  ·intros;exact SO a.v _ λi=>rfl
  ·intros;exact SO a.v _ λi=>rfl
  ·intros;exact SO a.v _ λi=>rfl
  ·intros;exact SO a.v _ λi=>rfl
 |bools n m=>
  refine no ?_;show(nT a n m).Ou<=1;unfold nT;split
  ·split<;>exact O3 _
  ·split<;>exact O3 _
 |seven n=>refine no ?_;show(nU a n).Ou<=1;unfold nU;split<;>exact O3 _
 |prt=>refine no ?_;show(cond a.b (_:Rs) (_:Rs)).Ou<=1;cases a.b<;>exact O3 _
 |say i=>
  refine no ?_;show(Option.rec (mr a) (λx=>(⟨x.2+1,[x.1],x.1,a,0⟩:Rs)) (be vq i):Rs).Ou<=1;cases be vq i
  ·exact OX _
  ·exact O3 _
 |wrong=>exact no (OX _)
 |get=>exact no (O3 _)
 |setq=>exact no (O3 _)
 |outp=>exact no (O3 _)
 |tell=>exact no (O3 _)
theorem BM(fin:Bool)(over:Int)(ho:0<=over):∀(ls:List Ln) (s:rV),(∀l∈ls,fF l)->s.Ou=0->A4 fin (λr=>r=if(aO s ls).Ou=1 then QE else QA ((aO s ls).outs,if(aO s ls).Ou=0 then cond fin (am (aO s ls).a.q) (aO s ls).last else(aO s ls).last)) ls s.a ((aO s ls).cost+over - s.cost) s.outs s.last:=by
 intro ls;induction ls with
 |nil=>
  intro s _ hf;show QA _=if s.Ou=1 then _ else QA (s.outs,if s.Ou=0 then _ else _)
  ((refine hf.symm▸?_;rw[if_neg dc,if_pos rfl]));rfl
 |cons l ls ih=>
  intro s hA hf;have hA0:=hA l (ON ..);have e:=kM (l:=l) hf;have f1:aO s (l::ls)=aO (aY s l) ls:=rfl;have cm:=p6 (aY s l) ls;have cs:(aY s l).cost=s.cost+(opL s.a l).QB:=by exact PK _ e
  refine⟨λh0 hp=>?_,λh2 hp=>?_,λh1=>?_⟩
  ·have hf':(aY s l).Ou=0:=by refine(PK _ e).trans ?_;show((opL s.a l).Ou:Int)=0;refine(PK _ h0).trans ?_;rfl
   have q:=ih (aY s l) (λx hx=>hA x (O0 _ hx)) hf'
   (refine f1.symm▸?_)
   have e1:(aY s l).a=(opL s.a l).a:=by exact PK _ e
   have e2:(aY s l).outs=rm s.outs (opL s.a l).said:=by rw[e,wZ (iZ s.a hA0)]
   have e3:(aY s l).last=(opL s.a l).value:=by exact PK _ e
   have e4:(aO (aY s l) ls).cost+over - s.cost - ((opL s.a l).QB:Int)=(aO (aY s l) ls).cost+over - (aY s l).cost:=by rw[cs];exact Int.sub_sub _ _ _
   rw[e1,e2,e3, <-e4] at q;exact q
  ·obtain⟨hs,hf2⟩:=Gp hA0 h2;have hne:(aY s l).Ou≠0:=by rw[e];show((opL s.a l).Ou:Int)≠0;rw[hf2];decide
   rw[f1,jL hne,e];show QA _=if((opL s.a l).Ou:Int)=1 then _ else QA (s.outs++lS (opL s.a l).said,if((opL s.a l).Ou:Int)=0 then _ else(opL s.a l).value)
   ((refine hf2.symm▸?_;rw[hs,if_neg dc,if_neg dc]))
   show _=QA (s.outs++[],_);rw[O8]
  ·rcases h1 with h1|h1
   ·have hne:(aY s l).Ou≠0:=by rw[e];show((opL s.a l).Ou:Int)≠0;rw[h1];decide
    rw[f1,jL hne,e];show QE=if((opL s.a l).Ou:Int)=1 then QE else _
    (refine h1.symm▸?_);rfl
   ·rw[f1] at h1;lia
theorem BN(fin:Bool)(over:Int)(ho:over<0):∀(ls:List Ln) (s:rV),(∀l∈ls,fF l)->s.Ou=0->0<=(aO s ls).cost+over - s.cost->A4 fin (λr=>r=QE) ls s.a ((aO s ls).cost+over - s.cost) s.outs s.last:=by
 intro ls;induction ls with
 |nil=>intro s _ hf h;have:(aO s []).cost=s.cost:=rfl;lia
 |cons l ls ih=>
  intro s hA hf hL;have hA0:=hA l (ON ..);have e:=kM (l:=l) hf;have f1:aO s (l::ls)=aO (aY s l) ls:=rfl;have cs:(aY s l).cost=s.cost+(opL s.a l).QB:=by exact PK _ e
  refine⟨λh0 hp=>?_,λh2 hp=>?_,λh1=>rfl⟩
  ·have hf':(aY s l).Ou=0:=by refine(PK _ e).trans ?_;show((opL s.a l).Ou:Int)=0;refine(PK _ h0).trans ?_;rfl
   rw[f1] at hp ⊢;have e1:(aY s l).a=(opL s.a l).a:=by exact PK _ e
   have e2:(aY s l).outs=rm s.outs (opL s.a l).said:=by rw[e,wZ (iZ s.a hA0)]
   have e3:(aY s l).last=(opL s.a l).value:=by exact PK _ e
   have e4:(aO (aY s l) ls).cost+over - s.cost - ((opL s.a l).QB:Int)=(aO (aY s l) ls).cost+over - (aY s l).cost:=by rw[cs];exact Int.sub_sub _ _ _
   have q:=ih (aY s l) (λx hx=>hA x (O0 _ hx)) hf' (by lia);rw[e1,e2,e3, <-e4] at q;exact q
  ·obtain⟨hs,hf2⟩:=Gp hA0 h2;have hne:(aY s l).Ou≠0:=by rw[e];show((opL s.a l).Ou:Int)≠0;rw[hf2];decide
   rw[f1,jL hne] at hp;lia
noncomputable def i0 (fin:Bool):List Nm:=cond fin [[94,113]] []
theorem oh(sep:Nm)(fin:Bool):∀ls:List Ln,ls≠[]->eN sep (ls.map Ln.text++i0 fin)=gD sep fin ls
 |[],h=>(h rfl).elim
 |[l],_=>by
  cases fin with
  |false=>exact(O8 l.text).symm
  |true=>show ai l.text (ai sep [94,113])=l.text++(sep++[94,113]);exact(ae ..)▸(ae ..)▸rfl
 |l::l2::ls,_=>by have ih:=oh sep fin (l2::ls) nofun;show ai l.text (ai sep (eN sep ((l2::ls).map Ln.text++i0 fin)))=l.text++(sep++gD sep fin (l2::ls));exact ih.symm▸(ae ..).symm▸(ae ..).symm▸rfl
theorem BO:∀l:List Nm,kq (l.map AV.str)=QA l:=by
 intro l;refine(tK ..).trans ?_;induction l with
 |nil=>rfl
 |cons x r ih=>show(bY (r.map AV.str)).map (x:: ·)=_;refine(PK _ ih).trans ?_;rfl
theorem jM(hm:3<=OA)(j:Nm):cy OA Oz j=rS++(rT++(Gj++j)):=by
 have h0:Nat.beq OA 0=QK:=by cases e:Nat.beq OA 0 with|false=>rfl|true=>have:=OW e;exact absurd (this▸hm:3<=0) (by decide)
 have h1:Nat.beq OA 1=QK:=by cases e:Nat.beq OA 1 with|false=>rfl|true=>have:=OW e;exact absurd (this▸hm:3<=1) (by decide)
 have h2:Nat.beq OA 2=QK:=by cases e:Nat.beq OA 2 with|false=>rfl|true=>have:=OW e;exact absurd (this▸hm:3<=2) (by decide)
 unfold cy yr IO
 ((refine h0.symm▸?_;refine h1.symm▸?_;refine h2.symm▸?_))
 show ai (ai (ai (ai (ai rS []) rT) vc) [124,32]) j=_;rw[ae,ae,ae,ae,ae,O8,OQ,OQ,OQ];rfl
theorem p7(hm:OA<2)(j:Nm):cy OA Oz j=rS++(yr OA Oz++(rT++(Gj++j))):=by
 have h2:Nat.beq OA 2=QK:=by cases e:Nat.beq OA 2 with|false=>rfl|true=>have:=OW e;exact absurd (this▸hm:2<2) (by decide)
 unfold cy IO
 (refine h2.symm▸?_)
 show ai (ai (ai (ai (ai rS (yr OA Oz)) rT) vc) [124,32]) j=_;rw[ae,ae,ae,ae,ae,OQ,OQ,OQ,OQ];rfl
theorem vD(j:Nm):cy 2 Oz j=rS++(rT++(ai vc (IO 2 Oz)++j)):=by unfold cy;show ai (ai (ai (ai (ai rS []) rT) vc) (IO 2 Oz)) j=_;rw[ae,ae,ae,ae,ae,ae,O8,OQ,OQ,OQ,OQ]
theorem BP{r:Nat}(h:r<3):Sep (gG r):=by
 revert r;refine @(cs (cs (cs cz ?_) ?_) ?_)
 ·exact .a
 ·exact .b
 ·exact .c
theorem BQ{l:List (Nm×List AV×Bool×Nat)}{p:Nat}{t:Nm}(h:(Option.rec QE (λx=>QA x.1) (be l p):Option Nm)=QA t):∃x,x∈l/\x.1=t:=by
 cases e:be l p with
 |none=>rw[e] at h;exact nn h
 |some x=>rw[e] at h;rw[cA] at e;exact⟨x,OE e,OO h⟩
theorem yu{r:Nat}{fin:Bool}{ls:List Ln}{K:KV}(hr:r<3)(hp:Oz<12)(hA:∀l∈Ln.newp b::.qis q::ls,l∈dN)(hl:ls.length<19)
  (hK:3<=OA->∀J',Cn J J'->K (bh ((Ln.newp b::.qis q::ls).map Ln.tree++rG fin)) J') (hE:OA<3->∀J',Er .verr J'):ef 61 15 [.str (cy OA Oz (eN (gG r) ((Ln.newp b::.qis q::ls).map Ln.text++i0 fin)))] J K Er:=by
 (refine(oh (gG r) fin (Ln.newp b::.qis q::ls) nofun).symm▸?_)
 have hs:=BP hr;have hl':(Ln.qis q::ls).length<20:=by show ls.length+1<20;exact Nat.lt_succ_of_le ‹_›
 rcases Nat.lt_or_ge OA 3 with h3|h3
 rotate_left
 ·rw[jM h3];exact BB hs hA hl' (hK h3)
 ·have hE':=hE h3;clear hE hK;revert OA;refine @(cs (cs (cs cz ?_) ?_) ?_)
  ·rw[p7 dc];refine ak (BQ (MX Oz (dM hp))) λx hx e=>?_
   (refine e▸?_)
   exact og hs hA hl' hE' (by rw[ae];exact OL.mpr (.inl hx))
  ·rw[p7 dc];refine ak (BQ (MY Oz (dM hp))) λx hx e=>?_
   (refine e▸?_)
   exact og hs hA hl' hE' (by rw[ae];exact OL.mpr (.inr hx))
  ·(refine(vD ..).symm▸?_)
   exact ak (BQ (MZ Oz (dM hp))) λx hx e=>e.symm▸(vB hs hA hl' hE' rfl hx)
section
variable{U:Loc}{J:Hp}{K:KV}{Er:KE}
theorem w5(l:List Nm):(lS l).length=l.length:=by
 induction l with
 |nil=>rfl
 |cons y r ih=>exact PK Nat.succ ih
theorem yw:∀(n:Nat) (l:List Nm),gJ n (lS l) (lS l) QI:=by
 intro n l;induction l with
 |nil=>exact .nn n
 |cons x r ih=>have h:=gJ.cc n (.str x) (.str x) (lS r) (lS r) _ _ (.ss n x x) ih;rw[beq_self_eq_true] at h;exact h
theorem EN(s8:U[8]?=QA (QA (.int 1)))(s33:U[33]?=QA (QA (.bool QI)))(hk:K (.bool QI) J):ax fK (P3.f40.body.drop 38) QE U J (bk K Er):=by refine aS (aK s33 ⟨rfl,aK s8 ⟨rfl,_,.eq _ _ _ (.v _ (.ii _ 1 1)),_,.ne _ _ _ (.v _ (.bb _ QI QI)),?_⟩⟩);refine aS (aK s33 ⟨rfl,?_⟩);exact hk
theorem BR{g:Nat}{outs:List Nm}{last:Nm}(hf:Ou≠1)(s6:U[6]?=QA (QA (.obj A)))(s7:U[7]?=QA (QA (.str last)))(s8:U[8]?=QA (QA (.int Ou)))(s32:U[32]?=QA (QA (.obj g)))(s33:U[33]?=QA (QA (.bool QK)))
  (hA:J[A]?=QA (.list (lS outs))) (hg:J[g]?=QA (.list (lS outs++[.str last]))) (hl:outs.length<900) (hk:∀J',K (.bool QI) J'):ax fK (P3.f40.body.drop 38) QE U J (bk K Er):=by
 have lS_len:(lS outs).length=outs.length:=w5 outs;have e0:(Ou==1)=QK:=PJ.mpr hf;have h1:eQ J .eq (.int Ou) (.int 1) QK:=e0▸ .eq _ _ _ (.v _ (.ii _ Ou 1));refine aS (aK s33 ⟨rfl,aK s8 ⟨rfl,_,h1,_,.ne _ _ _ (.v _ (.bb _ QK QK)),?_⟩⟩);have lA:=(OG.mp hA).1;have lg:=(OG.mp hg).1;have E:lS outs++[.str last]=lS (outs++[last]):=by
  clear hl hA hg lS_len;induction outs with
  |nil=>rfl
  |cons y r ih=>exact PK (AV.str y:: ·) ih
 have eq:∀J1,J1[g]?=QA (.list (lS outs++[.str last]))->∀k,J1[k]?=QA (.list (lS outs++[.str last]))->Ck J1 (.obj g) (.obj k) QI:=λJ1 h k hk=>.ll _ _ _ (Cm h) (Cm hk) rfl (by rw[E];exact yw _ _);refine aS (aK s33 ⟨rfl,?_⟩);refine aS (aK s32 ⟨rfl,_,.ll (.obj g) _ (Cm hg),?_⟩);refine aS (aK s32 ⟨rfl,aK s6 ⟨rfl,aK s7 ⟨rfl,_,_,.addL A J.length (lS outs) [.str last] ((OR lA).trans hA) (fy _) (by rw[OP,lS_len];unfold aE;show _+1<=_;exact OV ‹_› (PV _ _)),_,.ne _ _ _ (eq _ ?_ _ (fy _)),?_⟩⟩⟩)
 ·exact(OR (by rw[OP];exact OV lg (O1 _ _))).trans ((OR lg).trans hg)
 ·exact hk _
theorem w6{over n:Int}{outs:List Nm}{last:Nm}{fin:Bool}{ls:List Ln}{R:Option (List AV×Nm)->Prop}(len:U.length=34)(no:aP U=QI)(s5:U[5]?=QA (QA (.int cost)))(s6:U[6]?=QA (QA (.obj A)))(s7:U[7]?=QA (QA (.str last)))(s8:U[8]?=QA (QA (.int Ou)))(s24:U[24]?=QA (QA (bh (eD fin b n ls))))(s31:U[31]?=QA (QA (.int over)))(s33:U[33]?=QA (QA (.bool QK)))
  (hA:J[A]?=QA (.list (lS outs))) (hl:outs.length<900) (hn:0<=n) (hn5:n<5) (hAdm:∀l,l∈ls->fF l) (hll:ls.length<40) (H:HE fin R b n ls (cost+over)) (good:∀out t,R (QA (out,t))->out=lS outs/\t=last/\Ou≠1) (bad:R QE->Ou=1) (hk:∀J',K (.bool QI) J'):
  ax fK (P3.f40.body.drop 37) QE U J (bk K Er):=by
 have lA:=(OG.mp hA).1;refine aS (aK s24 ⟨rfl,aK s5 ⟨rfl,aK s31 ⟨rfl,_,_,.addI cost over,HI hn hn5 hAdm hll H (λout t hR=>?_) (λJ' a out t hR h1 h2 h3 h4=>?_) λJ' hR=>?_⟩⟩⟩)
 ·rw[(good out t hR).1,w5];unfold aE;exact OV ‹_› (PV _ _)
 ·obtain⟨rfl,rfl,hf⟩:=good out t hR;refine⟨by rw[len];decide,?_⟩;have g:∀j x,j≠32->U[j]?=QA x->(U.set 32 (QA (.obj a)))[j]?=QA x:=λj x hj e=>(OM (Ne.symm hj)).trans e;exact BR hf (g 6 _ dc s6) (g 7 _ dc s7) (g 8 _ dc s8) (OT (by rw[len];decide)) (g 33 _ dc s33) ((h2 A lA).trans hA) h4 hl hk
 ·have hf:=bad hR;subst hf;refine⟨by rw[len];decide,jg no rfl,?_⟩;exact EN ((OM dc).trans s8) (OT (by rw[len];decide)) (hk _)
end
theorem Iq(a b:List Nm):lS (a++b)=lS a++lS b:=by
 induction a with
 |nil=>rfl
 |cons x r ih=>exact PK (AV.str x:: ·) ih
theorem yx:∀(ls:List Ln) (s:rV) (o:List Nm),(∀l∈ls,fF l)->s.outs=lS o->∃o',(aO s ls).outs=lS o'/\o'.length<=o.length+ls.length:=by
 intro ls;induction ls with
 |nil=>intro s o _ h;exact⟨o,h,OX _⟩
 |cons l ls ih=>
  intro s o hA h;have hA0:=hA l (ON ..);have M:∃o1,(aY s l).outs=lS o1/\o1.length<=o.length+1:=by
   by_cases hf:s.Ou=0
   ·refine⟨o++(opL s.a l).said,?_,?_⟩
    ·rw[kM hf,Iq, <-h]
    ·rw[OP];have:=iZ s.a hA0;exact(O4 this _)
   ·exact⟨o,by rw[show aY s l=s from if_neg hf];exact h,PR _⟩
  obtain⟨o1,e1,l1⟩:=M;obtain⟨o2,e2,l2⟩:=ih (aY s l) o1 (λx hx=>hA x (O0 _ hx)) e1;exact⟨o2,e2,by show _<=o.length+(ls.length+1);exact OK l2 (OK (Nat.add_le_add_right l1 _) (Ql (O7 _ _ _)))⟩
theorem lP(l:List Nm):ag (lS l)=QI:=by
 induction l with
 |nil=>rfl
 |cons y r ih=>exact ih
noncomputable def mO (fin:Bool) (F:rV):Nm:=if F.Ou=0 then cond fin (am F.a.q) F.last else F.last
noncomputable def cV (b:Bool) (q:Int):rV:=⟨⟨b,QE,QE,q⟩,1,[],[],0⟩
theorem KZ{s:GS}{sl:List (Option (Option AV))}{o:Option az}(h:BL fl r s=.ok sl n QI o):fl=.next/\fu (be r) [5,6,7,8,24,31,32,33]=sl/\ao r=n/\aP r=QI/\aG s.t 0=o:=by
 unfold BL at h;split at h
 ·obtain⟨h1,h2,h3,h4⟩:=EV.ok.inj h;exact⟨rfl,h1,h2,dZ r▸h3,h4⟩
 ·cases h
theorem BS{p r:Nat}(hp:p<12)(hr:r<5):(p,r)∈tabV:=by unfold tabV;rw[dL];refine PP.mpr ⟨p,dM hp,?_⟩;rw[dK];exact Pa.mpr ⟨r,jf hr,rfl⟩
section
variable{U:Loc}{J:Hp}{K:KV}{Er:KE}{b fin:Bool}{q:Int}{ls:List Ln}
theorem BU{over:Int}{outs:List Nm}(hne:ls≠[])(hAdm:∀l∈ls,fF l)(hq:0<=q)(hq5:q<5)(hll:ls.length<40)(eo:(aO (cV b q) ls).outs=lS outs)(hl:outs.length<900)
  (len:U.length=34) (no:aP U=QI) (s5:U[5]?=QA (QA (.int (aO (cV b q) ls).cost))) (s6:U[6]?=QA (QA (.obj A))) (s7:U[7]?=QA (QA (.str (mO fin (aO (cV b q) ls))))) (s8:U[8]?=QA (QA (.int (if over<0 then 1 else(aO (cV b q) ls).Ou)))) (s24:U[24]?=QA (QA (bh (eD fin b q ls)))) (s31:U[31]?=QA (QA (.int over))) (s33:U[33]?=QA (QA (.bool QK)))
  (hA:J[A]?=QA (.list (lS outs))) (hk:∀J',K (.bool QI) J'):ax fK (P3.f40.body.drop 37) QE U J (bk K Er):=by
 have c0:(cV b q).cost=1:=rfl;by_cases ho:over<0
 ·rw[if_pos ho] at s8;refine w6 (R:=λr=>r=QE) len no s5 s6 s7 s8 s24 s31 s33 hA hl hq hq5 hAdm hll ⟨λh1=>?_,λu=>rfl⟩ nofun (λu=>rfl) hk;have h:=BN fin over ho ls (cV b q) hAdm rfl (by rw[c0];exact Int.sub_nonneg_of_le h1);rw[c0] at h;cases ls with
  |nil=>exact(hne rfl).elim
  |cons l ls=>exact h
 ·rw[if_neg ho] at s8;refine w6 (R:=λr=>r=if(aO (cV b q) ls).Ou=1 then QE else QA ((aO (cV b q) ls).outs,if(aO (cV b q) ls).Ou=0 then cond fin (am (aO (cV b q) ls).a.q) (aO (cV b q) ls).last else(aO (cV b q) ls).last)) len no s5 s6 s7 s8 s24 s31 s33 hA hl hq hq5 hAdm hll ⟨λh1=>?_,λh1=>?_⟩ (λout t h=>?_) (λh=>?_) hk
  ·have h:=BM fin over ((Qo.mp ho)) ls (cV b q) hAdm rfl;rw[c0] at h;cases ls with
   |nil=>exact(hne rfl).elim
   |cons l ls=>exact h
  ·have:=p6 (cV b q) ls;rw[c0] at this;omega
  ·by_cases hf:(aO (cV b q) ls).Ou=1
   ·exact nn (h.trans (if_pos hf)).symm
   ·cases h.trans (if_neg hf);exact⟨eo,rfl,hf⟩
  ·by_cases hf:(aO (cV b q) ls).Ou=1
   ·exact hf
   ·exact nn (h.trans (if_neg hf))
end
section
variable{U:Loc}{J:Hp}{K:KV}{Er:KE}{b fin:Bool}{q:Int}{ls:List Ln}
theorem ic(h:ax fK ((P3.f40.body.drop n).take m++P3.f40.body.drop (n+m)) hd U J Kk):ax fK (P3.f40.body.drop n) hd U J Kk:=by rw[<-Qa,List.take_append_drop] at h;exact h
theorem Ir{last:Nm}(hz:ag zs=QI)(hrs:ag rs=QI)(len:U.length=34)(no:aP U=QI)(s0:U[0]?=QA (QA (.flist zs)))(s5:U[5]?=QA (QA (.int cost)))(s6:U[6]?=QA (QA (.obj A)))(s7:U[7]?=QA (QA (.str last)))(s8:U[8]?=QA (QA (.int Ou)))(s20:U[20]?=QA (QA (.int Oz)))(s24:U[24]?=QA (QA (bh rs))):
  LR (thF (λu=>A) 1 J.length) (MW zs cost last Ou Oz rs) U:=by
 exact gZ len.symm no ⟨oP (v:=.flist zs) hz s0,s5,ml (aF dc) s6,s7,s8,s20,oP (dq hrs) s24,trivial⟩
end
section
variable{U:Loc}{J:Hp}{K:KV}{Er:KE}
theorem BV{over:Int}{last:Nm}{outs:List Nm}{rr:Loc}{s:GS}{B:Hp}(t0:θ 0=A)(hrs:ag rs=QI)(e:Ip rs cost Ou last (lS outs) over=BL fl rr s)(Y:LR θ rr U)(R:bu QK B θ s J'):
  fl=.next/\U.length=34/\aP U=QI/\U[5]?=QA (QA (.int cost))/\U[6]?=QA (QA (.obj A))/\U[7]?=QA (QA (.str last))/\U[8]?=QA (QA (.int Ou))/\U[24]?=QA (QA (bh rs))/\U[31]?=QA (QA (.int over))/\U[33]?=QA (QA (.bool QK))/\J'[A]?=QA (.list (lS outs)):=by
 have pc:ren θ (bh rs)=bh rs:=bw _ (dq hrs);unfold Ip at e;generalize bh rs=pr at e pc;refine yI (KZ e.symm) λer0 es eL hn eo'=>?_;subst er0;have es:[be rr 5,be rr 6,be rr 7,be rr 8,be rr 24,be rr 31,be rr 32,be rr 33]=[QA (QA (.int cost)),QA (QA (.obj 0)),QA (QA (.str last)),QA (QA (.int Ou)),QA (QA pr),QA (QA (.int over)),QA (QA .none),QA (QA (.bool QK))]:=es;have c1:=OY es;have c2:=OY c1.2;have c3:=OY c2.2;have c4:=OY c3.2;have c5:=OY c4.2;have c6:=OY c5.2;have c7:=OY c6.2;have c8:=OY c7.2;have G:∀(i:Nat) (v:AV),be rr i=QA (QA v)->U[i]?=QA (QA (ren θ v)):=λi v h=>Y.get ((cA rr i).symm.trans h);have g6:=G 6 _ c2.1;have g24:=G 24 _ c5.1;rw[show ren θ (.obj 0)=.obj (θ 0) from rfl,t0] at g6;rw[pc] at g24;have gA:J'[θ 0]?=QA (.list (aD θ (lS outs))):=R.get 0 _ eo';rw[t0,aC _ (lP outs)] at gA;exact⟨rfl,by rw[Y.len, <-aq,eL],cg Y hn,G 5 _ c1.1,g6,G 7 _ c3.1,G 8 _ c4.1,g24,G 31 _ c6.1,G 33 _ c8.1,gA⟩
end
section
variable{U:Loc}{J:Hp}{K:KV}{Er:KE}
abbrev M0(K:KV)(Er:KE)(rs:List AV)(cost:Int)(last:Nm)(outs:List Nm)(A:Nat)(Ou over:Int):Prop:=
 ∀U J,U.length=34->aP U=QI->U[5]?=QA (QA (.int cost))->U[6]?=QA (QA (.obj A))->U[7]?=QA (QA (.str last))->U[8]?=QA (QA (.int Ou))->U[24]?=QA (QA (bh rs))->U[31]?=QA (QA (.int over))->U[33]?=QA (QA (.bool QK))->J[A]?=QA (.list (lS outs))->ax fK (P3.f40.body.drop 37) QE U J (bk K Er)
theorem EO(h:ax fK ((P3.f40.body.drop 25).take 12++P3.f40.body.drop 37) hd U J Kk):ax fK (P3.f40.body.drop 25) hd U J Kk:=ic (n:=25) (m:=12) h
theorem K1{y:Nat->AV}{last:Nm}{r:Nat}{P:EV->Prop}(hp:Oz<12)(hr:r<5)(er:Int.fmod z18 5=(r:Int))(h:∀over f:Int,(if over<0 then 1 else Ou)=f->P (Ip rs cost f last outs over)):
  vL (Oz,r) y z5 z18 rest rs cost Ou last outs P:=by
 rw[KY (Oz,r) (BS hp hr)];refine iq (m1 (fm er)) ?_;clear er;revert r;refine @(cs (cs (cs (cs (cs cz ?_) ?_) ?_) ?_) ?_)
 ·exact fA (lO (h (((0:Nat):Int) - 1) 1 (if_pos dc)))
 ·exact fA (fA (h (((1:Nat):Int) - 1) Ou (if_neg dc)))
 ·exact fA (fA (h (((2:Nat):Int) - 1) Ou (if_neg dc)))
 ·exact fA (fA (h (((3:Nat):Int) - 1) Ou (if_neg dc)))
 ·refine lO ?_;by_cases h5:z5<0
  ·rw[PL h5];exact lO (h z5 1 (if_pos h5))
  ·rw[PM h5];exact fA (h z5 Ou (if_neg h5))
theorem EQ{y:Nat->AV}{last:Nm}{outs:List Nm}(hp:Oz<12)(hz:ag (uk y z5 z18 rest)=QI)(hrs:ag rs=QI)
  (len:U.length=34) (no:aP U=QI) (s0:U[0]?=QA (QA (.flist (uk y z5 z18 rest)))) (s5:U[5]?=QA (QA (.int cost))) (s6:U[6]?=QA (QA (.obj A))) (s7:U[7]?=QA (QA (.str last))) (s8:U[8]?=QA (QA (.int Ou))) (s20:U[20]?=QA (QA (.int Oz))) (s24:U[24]?=QA (QA (bh rs)))
  (hA:J[A]?=QA (.list (lS outs))) (hN:∀over:Int,M0 K Er rs cost last outs A (if over<0 then 1 else Ou) over):ax fK (P3.f40.body.drop 25) QE U J (bk K Er):=by
 refine ak (cW z18 (c:=5) dc) λr hr er=>?_;have t0:thF (λu=>A) 1 J.length 0=A:=aF dc;have Y0:=Ir (J:=J) hz hrs len no s0 s5 s6 s7 s8 s20 s24;have R0:=(HR (lP outs) hA).od [(r:Int)];generalize thF (λu=>A) 1 J.length=θ at t0 Y0 R0;have Q:=K1 (y:=y) (z5:=z5) (rest:=rest) (rs:=rs) (outs:=lS outs) (cost:=cost) (Ou:=Ou) (last:=last) (P:=λe=>∀fl rr U s J',e=BL fl rr s->LR θ rr U->bu QK J θ s J'->lI fK (P3.f40.body.drop 37) QE (bk K Er) (gY θ fl) U J') hp hr er (λover f hf fl rr U s J' e Y R=>by refine ah λPG Ox=>?_;obtain⟨rfl,a1,a2,a3,a4,a5,a6,a7,a8,a9,a10⟩:=BV t0 hrs e Y R;refine Ox ?_;have h:=hN over;rw[hf] at h;exact h U J' a1 a2 a3 a4 a5 a6 a7 a8 a9 a10)
 refine EO (eV (hd:=QE) (rest:=P3.f40.body.drop 37) (K':=bk K Er) (eP 61) ?_ ((P3.f40.body.drop 25).take 12) (MW (uk y z5 z18 rest) cost last Ou Oz rs) U (gs [.list (lS outs)] [(r:Int)] []) J Y0 R0 Q);exact λfl rr U s J' Y R h=>h fl rr U s J' rfl Y R
end
section
variable{U:Loc}{J:Hp}{K:KV}{Er:KE}
theorem ul(b:Bool):Ln.newp b∈dN:=by
 unfold dN;rw[ae];refine OL.mpr (.inl ?_);cases b
 ·exact OE (i:=0) rfl
 ·exact OE (i:=1) rfl
theorem ER{y:Nat->AV}{fin:Bool}{ls:List Ln}{r:Nat}{outs:List Nm}(hr:r<3)(hp:Oz<12)(hq:0<=q)(hq5:q<5)(hne:ls≠[])(hAdm:∀l∈ls,fF l)(hll:ls.length<19)(eo:(aO (cV b q) ls).outs=lS outs)(hl:outs.length<900)
  (hz:ag (uk y z5 z18 rest)=QI) (len:U.length=34) (no:aP U=QI) (s0:U[0]?=QA (QA (.flist (uk y z5 z18 rest)))) (s5:U[5]?=QA (QA (.int (aO (cV b q) ls).cost))) (s6:U[6]?=QA (QA (.obj A))) (s7:U[7]?=QA (QA (.str (mO fin (aO (cV b q) ls))))) (s8:U[8]?=QA (QA (.int (aO (cV b q) ls).Ou)))
  (s19:U[19]?=QA (QA (.int OA))) (s20:U[20]?=QA (QA (.int Oz))) (s23:U[23]?=QA (QA (.str (cy OA Oz (eN (gG r) ((Ln.newp b::.qis q::ls).map Ln.text++i0 fin)))))) (s25:U[25]?=QA (QA (.bool QK)))
  (hA:J[A]?=QA (.list (lS outs))) (hk:∀J',K (.bool QI) J'):ax fK (P3.f40.body.drop 22) QE U J (bk K Er):=by
 have lA:=(OG.mp hA).1;have hT:∀l∈Ln.newp b::.qis q::ls,l∈dN:=λl h=>by
  rcases OZ.mp h with rfl|h
  ·exact ul b
  ·rcases OZ.mp h with rfl|h
   ·exact jt hq hq5 (OE (i:=0) rfl)
   ·exact wP (hAdm l h)
 refine aS (aK s23 ⟨rfl,yu hr hp hT hll (λh3 J' O=>?_) λh3 J'=>?_⟩)
 ·refine⟨by rw[len];decide,?_⟩;have rs:(Ln.newp b::.qis q::ls).map Ln.tree++rG fin=eD fin b q ls:=rfl;rw[rs];have g:∀j x,j≠24->U[j]?=QA x->(U.set 24 (QA (bh (eD fin b q ls))))[j]?=QA x:=λj x hj e=>(OM (Ne.symm hj)).trans e;have h3':eQ J' .lt (.int OA) (.int 3) QK:=(show decide ((OA:Int)<3)=QK from PM (by lia))▸ .lt _ _;refine aS (aK (g 19 _ dc s19) ⟨rfl,_,h3',?_⟩);refine aS (aK (g 25 _ dc s25) ⟨rfl,?_⟩);refine EQ hp hz (lJ fin b q ls) (by rw[Ps];exact len) (jg no rfl) (g 0 _ dc s0) (g 5 _ dc s5) (g 6 _ dc s6) (g 7 _ dc s7) (g 8 _ dc s8) (g 20 _ dc s20) (OT (by rw[len];decide)) ((O.old A lA).trans hA) λover U' J2 a1 a2 a3 a4 a5 a6 a7 a8 a9 a10=>?_;exact BU hne hAdm hq hq5 (by lia) eo hl a1 a2 a3 a4 a5 a6 a7 a8 a9 a10 hk
 ·refine⟨by rw[len];decide,jg no rfl,?_⟩;have h3':eQ J' .lt (.int OA) (.int 3) QI:=(show decide ((OA:Int)<3)=QI from PL (by lia))▸ .lt _ _;refine aS (aK ((OM dc).trans s19) ⟨rfl,_,h3',?_⟩);refine aS (aK (OT (by rw[len];decide)) ⟨rfl,?_⟩);exact hk _
end
section
variable{U:Loc}{J:Hp}{K:KV}{Er:KE}
theorem Oq{f:α->Prop}{x:α}(h:f x):oT (QA x) f:=h
theorem jh{r:Nat}(h:r<3):r∈[0,1,2]:=by
 revert r;refine @(cs (cs (cs cz ?_) ?_) ?_)
 ·exact OE (i:=0) rfl
 ·exact OE (i:=1) rfl
 ·exact OE (i:=2) rfl
theorem ES(h:m<9)(h3:3<=m):m∈[3,4,5,6,7,8]:=by
 revert m;refine @(cs (cs (cs (cs (cs (cs (cs (cs (cs cz ?_) ?_) ?_) ?_) ?_) ?_) ?_) ?_) ?_)
 ·exact λh=>absurd h dc
 ·exact λh=>absurd h dc
 ·exact λh=>absurd h dc
 ·exact λu=>OE (i:=0) rfl
 ·exact λu=>OE (i:=1) rfl
 ·exact λu=>OE (i:=2) rfl
 ·exact λu=>OE (i:=3) rfl
 ·exact λu=>OE (i:=4) rfl
 ·exact λu=>OE (i:=5) rfl
theorem BW{p r:Nat}(hm:m<3)(hp:p<12)(hr:r<3):(m,p,r)∈tabW:=by unfold tabW;rw[dL];refine PP.mpr ⟨r,jh hr,?_⟩;rw[ae,dL];refine OL.mpr (.inl (PP.mpr ⟨m,jh hm,?_⟩));rw[dK];exact Pa.mpr ⟨p,dM hp,rfl⟩
theorem yz{r:Nat}(hm:m<9)(h3:3<=m)(hr:r<3):(m,0,r)∈tabW:=by unfold tabW;rw[dL];refine PP.mpr ⟨r,jh hr,?_⟩;rw[ae,dK];exact OL.mpr (.inr (Pa.mpr ⟨m,ES hm h3,rfl⟩))
theorem It:∀t∈tabW,Nat.ble (ao (cy t.1 t.2.1 [])) 3000=QI:=aw (g:=λu=>QI) (by kernel_rfl)
theorem Iu(m p:Nat)(j:Nm):cy m p j=cy m p []++j:=by unfold cy;exact(ae ..)▸(ae _ [])▸(O8 ..)▸rfl
noncomputable def IP (zs:List AV) (cost Ou:Int) (last:Nm) (outs:List AV) (OA:Nat) (pc:Int) (whole:Nm):EW:=.ok [QA (QA (.flist zs)),QA (QA (.int cost)),QA (QA (.obj 0)),QA (QA (.str last)),QA (QA (.int Ou)),QA (QA (.int OA)),QA (QA (.int pc)),QA (QA (.str whole)),QA (QA .none),QA (QA (.bool QK))] 34 QI (QA (.list outs))
theorem BX{t:Nat×Nat×Nat}{z0 pp:Int}{last:Nm}{l:List Nm}{P:EW->Prop}(ht:t∈tabW)(e4:Int.fmod z4 9=t.1)(e5:Int.fmod z5 12=yt t.1 t.2.1 pp)(e3:Int.fmod z3 3=t.2.2)(hs:(l.map λx=>x.length+(gG t.2.2).length).sum<=100000)(hj:(eN (gG t.2.2) l).length<=100000)
  (h:P (IP (mu z0 z1 z2 z3 z4 z5 rest) cost Ou last outs t.1 (yt t.1 t.2.1 pp) (cy t.1 t.2.1 (eN (gG t.2.2) l)))):wL t z0 z1 z2 z3 z4 z5 pp rest cost Ou last outs (l.map .str) P:=by
 (refine(KW t ht).symm▸?_)
 refine iq (λb hb=>?_) ?_
 ·rcases OZ.mp hb with rfl|hb
  ·exact fm e4
  ·rcases OZ.mp hb with rfl|hb
   ·exact fm e5
   ·exact(OF.mp hb).trans (fm e3)
 rw[BO];refine Oq (iq (λb hb=>?_) h);rcases OZ.mp hb with rfl|hb
 ·exact Po (OK hs (by unfold aE;decide))
 ·refine(OF.mp hb).trans ?_;have w:=OJ (It t ht);rw[aq] at w;exact Po (by rw[aq,Iu,OP];unfold aE;exact OK (OU w hj) (by decide))
theorem K3{r:Nat}{z0:Int}{last:Nm}{l:List Nm}{P:EW->Prop}(hm:OA<9)(hp:Oz<12)(hr:r<3)(e4:Int.fmod z4 9=OA)(e5:Int.fmod z5 12=Oz)(e3:Int.fmod z3 3=r)(hs:(l.map λx=>x.length+(gG r).length).sum<=100000)(hj:(eN (gG r) l).length<=100000)
  (h:P (IP (mu z0 z1 z2 z3 z4 z5 rest) cost Ou last outs OA Oz (cy OA Oz (eN (gG r) l)))):
  me QK KT ((P3.f40.body.drop 12).take 10) QE (Lk (mu z0 z1 z2 z3 z4 z5 rest) cost last Ou) (gs [.list outs,.list (l.map .str)] [(OA:Int),(Oz:Int),(r:Int)] []) λfl U s=>P (yq fl U s):=by
 by_cases h3:OA<3
 ·have e:yt OA Oz 0=Oz:=by
   unfold yt
   (refine(Po (show OA<=2 by exact Pv ‹_›)).symm▸?_);rfl
  have q:=BX (t:=(OA,Oz,r)) (z0:=z0) (z1:=z1) (z2:=z2) (pp:=0) (rest:=rest) (cost:=cost) (Ou:=Ou) (last:=last) (outs:=outs) (P:=P) (BW h3 hp hr) e4 (e5.trans e.symm) e3 hs hj (by show P (IP _ cost Ou last outs OA (yt OA Oz 0) _);rw[e];exact h);unfold wL at q;rw[show yt (OA,Oz,r).1 (OA,Oz,r).2.1 0=Oz from e] at q;exact q
 ·have h3:3<=OA:=by exact Pd.mp ‹_›
  have e:yt OA 0 Oz=Oz:=by
   unfold yt;cases qq:Nat.ble OA 2 with
   |false=>rfl
   |true=>have:=OJ qq;exact absurd ‹_› (Nat.not_le_of_lt ‹_›)
  have e2:cy OA 0 (eN (gG r) l)=cy OA Oz (eN (gG r) l):=(jM h3 _).trans (jM h3 _).symm;have q:=BX (t:=(OA,0,r)) (z0:=z0) (z1:=z1) (z2:=z2) (pp:=Oz) (rest:=rest) (cost:=cost) (Ou:=Ou) (last:=last) (outs:=outs) (P:=P) (yz hm h3 hr) e4 (e5.trans e.symm) e3 hs hj (by show P (IP _ cost Ou last outs OA (yt OA 0 Oz) (cy OA 0 (eN (gG r) l)));rw[e,e2];exact h);unfold wL at q;rw[show yt (OA,0,r).1 (OA,0,r).2.1 Oz=Oz from e] at q;exact q
end
section
variable{U:Loc}{J:Hp}{K:KV}{Er:KE}
theorem M1{a:As}{last:Nm}(hz:ag zs=QI)(F:LF U zs a cost A last Ou B):LR (thF (rU A B) 2 J.length) (Lk zs cost last Ou) U:=gZ F.len.symm F.no ⟨oP (v:=.flist zs) hz F.s0,F.s5,ml (aF dc) F.s6,F.s7,F.s8,ml (aF dc) F.s9,trivial⟩
theorem K4{s:GS}{sl:List (Option (Option AV))}{o:Option az}(h:yq fl r s=.ok sl n QI o):fl=.next/\fu (be r) [0,5,6,7,8,19,20,23,24,25]=sl/\ao r=n/\aP r=QI/\aG s.t 0=o:=by
 unfold yq at h;split at h
 ·obtain⟨h1,h2,h3,h4⟩:=EW.ok.inj h;exact⟨rfl,h1,h2,dZ r▸h3,h4⟩
 ·cases h
theorem Iv{last:Nm}{outs:List Nm}{pc:Int}{whole:Nm}{rr:Loc}{s:GS}{B:Hp}(t0:θ 0=A)(hz:ag zs=QI)(e:IP zs cost Ou last (lS outs) OA pc whole=yq fl rr s)(Y:LR θ rr U)(R:bu QK B θ s J'):
  fl=.next/\U.length=34/\aP U=QI/\U[0]?=QA (QA (.flist zs))/\U[5]?=QA (QA (.int cost))/\U[6]?=QA (QA (.obj A))/\U[7]?=QA (QA (.str last))/\U[8]?=QA (QA (.int Ou))/\U[19]?=QA (QA (.int OA))/\U[20]?=QA (QA (.int pc))/\U[23]?=QA (QA (.str whole))/\U[25]?=QA (QA (.bool QK))/\J'[A]?=QA (.list (lS outs)):=by
 unfold IP at e;refine yI (K4 e.symm) λer0 es eL hn eo'=>?_;subst er0;have es:[be rr 0,be rr 5,be rr 6,be rr 7,be rr 8,be rr 19,be rr 20,be rr 23,be rr 24,be rr 25]=[QA (QA (.flist zs)),QA (QA (.int cost)),QA (QA (.obj 0)),QA (QA (.str last)),QA (QA (.int Ou)),QA (QA (.int OA)),QA (QA (.int pc)),QA (QA (.str whole)),QA (QA .none),QA (QA (.bool QK))]:=es;have c1:=OY es;have c2:=OY c1.2;have c3:=OY c2.2;have c4:=OY c3.2;have c5:=OY c4.2;have c6:=OY c5.2;have c7:=OY c6.2;have c8:=OY c7.2;have c9:=OY c8.2;have c10:=OY c9.2;have G:∀(i:Nat) (v:AV),be rr i=QA (QA v)->U[i]?=QA (QA (ren θ v)):=λi v h=>Y.get ((cA rr i).symm.trans h);have g0:=G 0 _ c1.1;have g6:=G 6 _ c3.1;rw[show ren θ (.flist zs)=.flist (aD θ zs) from rfl,aC _ hz] at g0;rw[show ren θ (.obj 0)=.obj (θ 0) from rfl,t0] at g6;have gA:J'[θ 0]?=QA (.list (aD θ (lS outs))):=R.get 0 _ eo';rw[t0,aC _ (lP outs)] at gA;exact⟨rfl,by rw[Y.len, <-aq,eL],cg Y hn,g0,G 5 _ c2.1,g6,G 7 _ c4.1,G 8 _ c5.1,G 19 _ c6.1,G 20 _ c7.1,G 23 _ c8.1,G 25 _ c10.1,gA⟩
theorem ET{r:Nat}(hr:r<3)(fin:Bool):∀ls:List Ln,(∀l∈ls,l∈dN)->((ls.map Ln.text++i0 fin).map λx=>List.length x+(gG r).length).sum<=90*ls.length+10:=by
 have hs:(gG r).length<=3:=by
  revert r;refine @(cs (cs (cs cz ?_) ?_) ?_)
  ·exact OJ rfl
  ·exact OJ rfl
  ·exact OJ rfl
 generalize(gG r).length=k at hs;intro ls;induction ls with
 |nil=>
  intro _;cases fin with
  |false=>exact O3 _
  |true=>show 2+k+0<=10;exact OK (O4 hs _) (by decide)
 |cons l ls ih=>intro h;have i:=ih λx hx=>h x (O0 _ hx);have t:=(H5 .a (h l (ON ..))).tx;show l.text.length+k+((ls.map Ln.text++i0 fin).map λx=>List.length x+k).sum<=90*(ls.length+1)+10;generalize((ls.map Ln.text++i0 fin).map λx=>List.length x+k).sum=s at i;exact Ji hs t i
theorem EU(h:ax fK ((P3.f40.body.drop 12).take 10++P3.f40.body.drop 22) hd U J Kk):ax fK (P3.f40.body.drop 12) hd U J Kk:=ic (n:=12) (m:=10) h
theorem BY{y:Nat->AV}{z0:Int}{rest6:List AV}{a:As}{fin:Bool}{ls:List Ln}{outs:List Nm}(hq:0<=q)(hq5:q<5)(hne:ls≠[])(hAdm:∀l∈ls,fF l)(hll:ls.length<19)(eo:(aO (cV b q) ls).outs=lS outs)(hl:outs.length<900)
  (ez:mu z0 z1 z2 z3 z4 z5 rest6=uk y z5 z18 rest) (hz:ag (mu z0 z1 z2 z3 z4 z5 rest6)=QI) (F:LF U (mu z0 z1 z2 z3 z4 z5 rest6) a (aO (cV b q) ls).cost A (mO fin (aO (cV b q) ls)) (aO (cV b q) ls).Ou B) (H:LH J A B (lS outs) (((Ln.newp b::.qis q::ls).map Ln.text++i0 fin).map AV.str)) (hk:∀J',K (.bool QI) J'):
  ax fK (P3.f40.body.drop 12) QE U J (bk K Er):=by
 refine ah λPG Ox=>ak (cW z4 (c:=9) dc) λOA hm e4=>ak (cW z5 (c:=12) dc) λOz hp e5=>ak (cW z3 (c:=3) dc) λr hr e3=>Ox ?_;have hT:∀l∈Ln.newp b::.qis q::ls,l∈dN:=λl h=>by
  rcases OZ.mp h with rfl|h
  ·exact ul b
  ·rcases OZ.mp h with rfl|h
   ·exact jt hq hq5 (OE (i:=0) rfl)
   ·exact wP (hAdm l h)
 have hs:=ET hr fin _ hT;have hj:=je (BP hr) fin _ hT;rw[<-oh (gG r) fin (Ln.newp b::.qis q::ls) nofun] at hj;have OB:(Ln.newp b::.qis q::ls).length=ls.length+2:=rfl;rw[OB] at hs hj;have t0:thF (rU A B) 2 J.length 0=A:=aF dc;have Y0:=M1 (J:=J) hz F;have R0:=H.rep (od:=[(OA:Int),(Oz:Int),(r:Int)]) (ob:=[]);generalize thF (rU A B) 2 J.length=θ at t0 Y0 R0;generalize eC:(aO (cV b q) ls).cost=cost at Y0 F;generalize eF:(aO (cV b q) ls).Ou=Ou at Y0 F;generalize eL:mO fin (aO (cV b q) ls)=last at Y0 F;have Q:=K3 (z0:=z0) (z1:=z1) (z2:=z2) (rest:=rest6) (outs:=lS outs) (cost:=cost) (Ou:=Ou) (last:=last) (P:=λe=>∀fl rr U s J',e=yq fl rr s->LR θ rr U->bu QK J θ s J'->lI fK (P3.f40.body.drop 22) QE (bk K Er) (gY θ fl) U J') hm hp hr e4 e5 e3 (OK hs (OK (Nat.add_le_add_right (Nat.mul_le_mul_left 90 (Nat.add_le_add_right (Pc hll) 2)) 10) (by decide))) (OK hj (OK (Nat.add_le_add_right (Nat.mul_le_mul_left 90 (Nat.add_le_add_right (Pc hll) 2)) 2) (by decide))) (λfl rr U s J' e Y R=>by refine ah λPG Ox=>?_;obtain⟨rfl,a1,a2,a3,a4,a5,a6,a7,a8,a9,a10,a11,a12⟩:=Iv t0 hz e Y R;refine Ox ?_;rw[<-eC] at a4;rw[<-eL] at a6;rw[<-eF] at a7;rw[ez] at a3 hz;exact ER hr hp hq hq5 hne hAdm hll eo hl hz a1 a2 a3 a4 a5 a6 a7 a8 a9 a10 a11 a12 hk)
 refine EU (eV (hd:=QE) (rest:=P3.f40.body.drop 22) (K':=bk K Er) (eP 61) ?_ ((P3.f40.body.drop 12).take 10) (Lk (mu z0 z1 z2 z3 z4 z5 rest6) cost last Ou) U (gs [.list (lS outs),.list (((Ln.newp b::.qis q::ls).map Ln.text++i0 fin).map AV.str)] [(OA:Int),(Oz:Int),(r:Int)] []) J Y0 R0 Q);exact λfl rr U s J' Y R h=>h fl rr U s J' rfl Y R
end
section
variable{U:Loc}{J:Hp}{K:KV}{Er:KE}
noncomputable def kQ (fin:Bool) (Ou q:Int) (last:Nm):Nm:=if Ou=0 then cond fin (am q) last else last
theorem i3{r:Nat}{z0 i j:Int}{last:Nm}{v w:Int->Option Int}{P:EL->Prop}(E:Cr b v w r=EC b v w r)(e:Int.fmod z2 3=r)(hq:cN q=QI)(hl:Oy.length<900)
  (h:P (.ok (yG (mu z0 z1 z2 z3 z4 z5 rest) ⟨b,v i,w j,q⟩ cost 0 (kQ (Nat.beq r 0) Ou q last) Ou) 34 (QA (.list outs)) (QA (.list (Oy++(i0 (Nat.beq r 0)).map AV.str))))):Cr b v w r z0 z1 z2 z3 z4 z5 rest q i j cost Ou last outs Oy P:=by
 (refine E.symm▸?_)
 refine iq (λc hc=>by refine(OF.mp hc).trans ?_;exact fm e) ?_;cases hb:Nat.beq r 0 with
 |false=>
  (replace h:=hb▸h)
  refine fA ?_;have e1:kQ QK Ou q last=last:=by unfold kQ;exact ite_self _
  rw[e1,show Oy++(i0 QK).map AV.str=Oy from O8 _] at h;exact h
 |true=>
  (replace h:=hb▸h)
  refine lO (iq (λc hc=>?_) ?_)
  ·refine(OF.mp hc).trans ?_;exact Po (by rw[aq];unfold aE;lia)
  ·(refine(ae ..).symm▸?_)
   have e0:Oy++(i0 QI).map AV.str=Oy++[.str [94,113]]:=rfl;rw[e0] at h;by_cases hf:Ou=0
   ·(refine(beq_iff_eq.mpr hf).symm▸?_)
    have e1:kQ QI Ou q last=am q:=by unfold kQ;exact if_pos hf
    rw[e1] at h;exact lO (iq (λc hc=>by refine(OF.mp hc).trans ?_;exact hq) h)
   ·(refine(PJ.mpr hf).symm▸?_)
    have e1:kQ QI Ou q last=last:=by unfold kQ;exact if_neg hf
    rw[e1] at h;exact fA h
theorem K5{r:Nat}{z0:Int}{last:Nm}{a:As}{P:EL->Prop}(m:r<3)(e:Int.fmod z2 3=r)(hB:Bd 1000 a)(hl:Oy.length<900)
  (h:P (.ok (yG (mu z0 z1 z2 z3 z4 z5 rest) a cost 0 (kQ (Nat.beq r 0) Ou a.q last) Ou) 34 (QA (.list outs)) (QA (.list (Oy++(i0 (Nat.beq r 0)).map AV.str))))):KU (mu z0 z1 z2 z3 z4 z5 rest) a cost last Ou outs Oy [(r:Int)] P:=by
 have hq:cN a.q=QI:=sg (by have: -1000<=a.q/\a.q<=1000:=hB.q;lia) (by have: -1000<=a.q/\a.q<=1000:=hB.q;lia);have m:=jh m;obtain⟨b,v,w,q⟩:=a;cases b with
 |false=>cases v with
  |none=>cases w with
   |none=>exact i3 (b:=QK) (v:=gH) (w:=gH) (i:=0) (j:=0) (ED r m) e hq hl h
   |some j=>exact i3 (b:=QK) (v:=gH) (w:=gI) (i:=0) (j:=j) (EE r m) e hq hl h
  |some i=>cases w with
   |none=>exact i3 (b:=QK) (v:=gI) (w:=gH) (i:=i) (j:=0) (EG r m) e hq hl h
   |some j=>exact i3 (b:=QK) (v:=gI) (w:=gI) (i:=i) (j:=j) (EH r m) e hq hl h
 |true=>cases v with
  |none=>cases w with
   |none=>exact i3 (b:=QI) (v:=gH) (w:=gH) (i:=0) (j:=0) (EI r m) e hq hl h
   |some j=>exact i3 (b:=QI) (v:=gH) (w:=gI) (i:=0) (j:=j) (EJ r m) e hq hl h
  |some i=>cases w with
   |none=>exact i3 (b:=QI) (v:=gI) (w:=gH) (i:=i) (j:=0) (EK r m) e hq hl h
   |some j=>exact i3 (b:=QI) (v:=gI) (w:=gI) (i:=i) (j:=j) (EM r m) e hq hl h
theorem EY(h:ax fK ((P3.f40.body.drop 11).take 1++P3.f40.body.drop 12) hd U J Kk):ax fK (P3.f40.body.drop 11) hd U J Kk:=ic (n:=11) (m:=1) h
theorem M2{a:As}{last:Nm}(hz:ag zs=QI)(F:LF U zs a cost A last Ou B):LR (thF (rU A B) 2 J.length) (MV zs a cost last Ou) U:=gZ F.len.symm F.no ⟨oP (v:=.flist zs) hz F.s0,F.s1,F.s2,oP (gF _) F.s3,oP (gF _) F.s4,F.s5,ml (aF dc) F.s6,F.s7,F.s8,ml (aF dc) F.s9,trivial⟩
theorem EZ{z0:Int}{rest6:List AV}{a:As}{last:Nm}(hz:ag (mu z0 z1 z2 z3 z4 z5 rest6)=QI)(F:LF U (mu z0 z1 z2 z3 z4 z5 rest6) a cost A last Ou B)(H:LH J A B outs Oy)(hB:Bd 1000 a)(hl:Oy.length<900)
  (hN:∀fin U' J',LF U' (mu z0 z1 z2 z3 z4 z5 rest6) a cost A (kQ fin Ou a.q last) Ou B->LH J' A B outs (Oy++(i0 fin).map AV.str)->ax fK (P3.f40.body.drop 12) QE U' J' (bk K Er)):
  ax fK (P3.f40.body.drop 11) QE U J (bk K Er):=by
 refine ak (cW z2 (c:=3) dc) λr hr e2=>?_;have t0:thF (rU A B) 2 J.length 0=A:=aF dc;have Y0:=M2 (J:=J) hz F;have R0:=H.rep (od:=[(r:Int)]) (ob:=[]);have cl:ag (Oy++(i0 (Nat.beq r 0)).map AV.str)=QI:=bG H.cl (by cases Nat.beq r 0<;>rfl);have Q:=K5 (z0:=z0) (z1:=z1) (z3:=z3) (z4:=z4) (z5:=z5) (rest:=rest6) (outs:=outs) (cost:=cost) (Ou:=Ou) (last:=last) (P:=λe=>∀fl rr U s J',e=oU fl rr s->LR (thF (rU A B) 2 J.length) rr U->bu QK J (thF (rU A B) 2 J.length) s J'->lI fK (P3.f40.body.drop 12) QE (bk K Er) (gY (thF (rU A B) 2 J.length) fl) U J') hr e2 hB hl (λfl rr U s J' e Y R=>by refine eI (rK hz H.co cl dc e.symm Y R) λer0 F' H'=>?_;subst er0;rw[t0] at F' H';exact hN _ U J' F' H')
 refine EY (eV (hd:=QE) (rest:=P3.f40.body.drop 12) (K':=bk K Er) (eP 61) ?_ ((P3.f40.body.drop 11).take 1) (MV (mu z0 z1 z2 z3 z4 z5 rest6) a cost last Ou) U (gs [.list outs,.list Oy] [(r:Int)] []) J Y0 R0 Q);exact λfl rr U s J' Y R h=>h fl rr U s J' rfl Y R
end
section
variable{U:Loc}{J:Hp}{K:KV}{Er:KE}
theorem BZ:∀(ls:List Ln) (s:rV) (c:Int),5<=c->Bd c s.a->(∀l∈ls,fF l)->Bd (c+20*ls.length) (aO s ls).a:=by
 intro ls;induction ls with
 |nil=>intro s c _ h _;exact h.mono (by show c<=c+20*0;exact Int.le_add_of_nonneg_right (by decide))
 |cons l ls ih=>intro s c hc h hA;have:=ih (aY s l) (c+20) (Ni hc) (uj hc h (hA l (ON ..))) λx hx=>hA x (O0 _ hx);exact this.mono (by show c+20+20*(ls.length:Int)<=c+20*((ls.length:Int)+1);exact Jb)
theorem w7(hq:0<=q)(hq5:q<5):Bd 5 (cV b q).a:=⟨(λu h=>nn h),(λu h=>nn h),by show -5<=q/\q<=5;exact Ng hq hq5⟩
theorem B0(s0:U[0]?=QA (QA (.flist zs)))(h:zs[n]?=QA v)(hK:K v J):cR fK (.sub (.v 0) (.c (.int n))) U J K Er:=
 aK s0 ⟨rfl,v,.lst _ zs n v rfl h,hK⟩
noncomputable abbrev sb (n:Nat):PE:=.sub (.v 0) (.c (.int n))
theorem w8{y z:AV}(s0:U[0]?=QA (QA (.flist zs)))(h0:zs[n]?=QA x)(h1:zs[n+1]?=QA y)(h2:zs[n+2]?=QA z)(hK:K (.tup [x,y,z]) J):cR fK (.tup [sb n,sb (n+1),sb (n+2)]) U J K Er:=by show cR fK (sb n) U J (λv1 J=>cR fK (sb (n+1)) U J (λv2 J=>cR fK (sb (n+2)) U J (λv3 J=>K (.tup [v1,v2,v3]) J) Er) Er) Er;exact B0 s0 h0 (B0 s0 h1 (B0 s0 h2 hK))
noncomputable abbrev t3 (n:Nat):PE:=.tup [sb n,sb (n+1),sb (n+2)]
noncomputable abbrev I3 (x y z:Int):AV:=.tup [.int x,.int y,.int z]
theorem E4{z0 z6 z7 z8 z9 z10 z11 z12 z13 z14 z15 z16 z17:Int}(hq:0<=q)(hq5:q<5)(hz:ag rest=QI)
  (F:LF U (mu z0 z1 z2 z3 z4 z5 (.int z6::.int z7::.int z8::.int z9::.int z10::.int z11::.int z12::.int z13::.int z14::.int z15::.int z16::.int z17::.int z18::rest)) ⟨b,QE,QE,q⟩ 1 A [] 0 B) (H:LH J A B [] [.str (Ln.text (.newp b)),.str (Ln.text (.qis q))]) (hk:∀J',K (.bool QI) J'):
  ax fK (P3.f40.body.drop 10) QE U J (bk K Er):=by
 have ez:mu z0 z1 z2 z3 z4 z5 (.int z6::.int z7::.int z8::.int z9::.int z10::.int z11::.int z12::.int z13::.int z14::.int z15::.int z16::.int z17::.int z18::rest)=uk (λk=>[AV.int z0,.int z1,.int z2,.int z3,.int z4,.int z5,.int z6,.int z7,.int z8,.int z9,.int z10,.int z11,.int z12,.int z13,.int z14,.int z15,.int z16,.int z17].getD k .none) z5 z18 rest:=rfl;generalize hy:(λk=>[AV.int z0,.int z1,.int z2,.int z3,.int z4,.int z5,.int z6,.int z7,.int z8,.int z9,.int z10,.int z11,.int z12,.int z13,.int z14,.int z15,.int z16,.int z17].getD k .none)=y at ez;have hz:ag (mu z0 z1 z2 z3 z4 z5 (.int z6::.int z7::.int z8::.int z9::.int z10::.int z11::.int z12::.int z13::.int z14::.int z15::.int z16::.int z17::.int z18::rest))=QI:=hz;have L:∀Kk:KS,yo [I3 z6 z7 z8,I3 z9 z10 z11,I3 z12 z13 z14,I3 z15 z16 z17] Kk 4000 0 U J->ux fK (.r Il (.tup [t3 6,t3 9,t3 12,t3 15]) Gl) QE U J Kk:=λKk h=>by show cR fK (t3 6) U J (λv1 J=>cR fK (t3 9) U J (λv2 J=>cR fK (t3 12) U J (λv3 J=>cR fK (t3 15) U J (λv4 J=>yo [v1,v2,v3,v4] Kk 4000 0 U J) _) _) _) _;exact w8 F.s0 rfl rfl rfl (w8 F.s0 rfl rfl rfl (w8 F.s0 rfl rfl rfl (w8 F.s0 rfl rfl rfl h)))
 refine aS (st:=.r Il (.tup [t3 6,t3 9,t3 12,t3 15]) Gl) (ss:=P3.f40.body.drop 11) (L _ (BK hz [(z6,z7,z8),(z9,z10,z11),(z12,z13,z14),(z15,z16,z17)] 4000 0 (cV b q) [.str (Ln.text (.newp b)),.str (Ln.text (.qis q))] A U J 5 rfl (show 5<=4000 by decide) dc (show(5:Int)+20*4<=1000 by decide) (w7 hq hq5) (show 0+4<900 by decide) (show 2+4<900 by decide) F H λls hn hA J' A' U' F' H'=>?_));have hn:ls.length=4:=hn;refine ak (yx ls (cV b q) [] hA rfl) λo eo lo=>?_;have lo:o.length<=0+ls.length:=lo;have hne:ls≠[]:=λe=>by rw[e] at hn;exact absurd hn Nat.noConfusion
 have hb:=BZ ls (cV b q) 5 dc (w7 hq hq5) hA;have hb:Bd 1000 (aO (cV b q) ls).a:=hb.mono (by rw[hn];decide);refine EZ hz F' H' hb (by rw[OP,P9,hn];show 2+4<900;decide) λfin U2 J2 F2 H2=>?_;have e:([AV.str (Ln.text (.newp b)),.str (Ln.text (.qis q))]++ls.map λl=>AV.str l.text)++(i0 fin).map AV.str=((Ln.newp b::.qis q::ls).map Ln.text++i0 fin).map AV.str:=by rw[PN];refine PK (·++_) ?_;show _=AV.str _::AV.str _::(ls.map Ln.text).map AV.str;rw[List.map_map];rfl
 rw[e,eo] at H2;exact BY hq hq5 hne hA (OI (Ql hn) (by decide)) eo (Jf hn lo) ez hz F2 H2 hk
end
section
variable{U:Loc}{J:Hp}{K:KV}{Er:KE}
theorem Iw(h:ax fK ((P3.f40.body.drop 1).take 9++P3.f40.body.drop 10) hd U J Kk):ax fK (P3.f40.body.drop 1) hd U J Kk:=ic (n:=1) (m:=9) h
theorem B1{q:Nat}{z0:Int}{P:EL->Prop}(E:Lj b q=MU b q)(e0:Int.fmod z0 2=cond b 1 0)(e1:Int.fmod z1 5=q)
  (h:P (.ok (yG (.int z0::.int z1::rest) ⟨b,QE,QE,q⟩ 1 0 [] 0) 34 (QA (.list [])) (QA (.list [.str (Ln.text (.newp b)),.str (Ln.text (.qis q))])))):Lj b q z0 z1 rest P:=by
 rw[E];refine iq (λc hc=>?_) h;rcases OZ.mp hc with rfl|hc
 ·exact fm e0
 ·exact(OF.mp hc).trans (fm e1)
theorem K6{q:Nat}{z0:Int}{P:EL->Prop}(hq:q<5)(e0:Int.fmod z0 2=cond b 1 0)(e1:Int.fmod z1 5=q)
  (h:P (.ok (yG (.int z0::.int z1::rest) ⟨b,QE,QE,q⟩ 1 0 [] 0) 34 (QA (.list [])) (QA (.list [.str (Ln.text (.newp b)),.str (Ln.text (.qis q))])))):Go z0 z1 rest [cond b 1 0,(q:Int)] P:=by
 have m:=jf hq;cases b with
 |false=>exact B1 (Im q m) e0 e1 h
 |true=>exact B1 (Io q m) e0 e1 h
theorem B2(z:Int):∃b:Bool,Int.fmod z 2=cond b 1 0:=by
 refine ak (cW z (c:=2) dc) λr hr e=>?_
 match r,hr,e with
 |0,_,e=>exact⟨QK,e⟩
 |1,_,e=>exact⟨QI,e⟩
theorem M3(hz:ag zs=QI):LR θ (yn 33 [QA (.flist zs)]) (QA (.flist zs)::List.replicate 33 QE):=gZ rfl rfl ⟨oP (v:=.flist zs) hz rfl,trivial⟩
theorem B3{z0 z6 z7 z8 z9 z10 z11 z12 z13 z14 z15 z16 z17:Int}(hz:ag rest=QI)(hk:∀J',K (.bool QI) J')(zs:List AV)(ez:zs=mu z0 z1 z2 z3 z4 z5 (.int z6::.int z7::.int z8::.int z9::.int z10::.int z11::.int z12::.int z13::.int z14::.int z15::.int z16::.int z17::.int z18::rest)):
  ax fK (P3.f40.body.drop 1) QE (QA (.flist zs)::List.replicate 33 QE) J (bk K Er):=by
 subst ez;have ht:ag (mu z0 z1 z2 z3 z4 z5 (.int z6::.int z7::.int z8::.int z9::.int z10::.int z11::.int z12::.int z13::.int z14::.int z15::.int z16::.int z17::.int z18::rest))=QI:=hz;refine ah λPG Ox=>aB (B2 z0) λb e0=>ak (cW z1 (c:=5) dc) λq hq e1=>Ox ?_;have t0:thF (λk=>k) 0 J.length 1=J.length+1:=if_neg dc;have Y0:=M3 (θ:=thF (λk=>k) 0 J.length) ht;have R0:bu QK J (thF (λk=>k) 0 J.length) (gs [] [cond b 1 0,(q:Int)] []) J:=jH (l:=[]) (λi j h=>absurd h (Nat.not_lt_zero _)) (λu u h=>nn h);have Q:=K6 (z0:=z0) (z1:=z1) (rest:=.int z2::.int z3::.int z4::.int z5::(.int z6::.int z7::.int z8::.int z9::.int z10::.int z11::.int z12::.int z13::.int z14::.int z15::.int z16::.int z17::.int z18::rest)) (P:=λe=>∀fl rr U s J',e=oU fl rr s->LR (thF (λk=>k) 0 J.length) rr U->bu QK J (thF (λk=>k) 0 J.length) s J'->lI fK (P3.f40.body.drop 10) QE (bk K Er) (gY (thF (λk=>k) 0 J.length) fl) U J') hq e0 e1 (λfl rr U s J' e Y R=>by refine eI (BG t0 ht rfl rfl dc e.symm Y R) λer0 F' H'=>?_;subst er0;exact E4 (by lia) (by lia) hz F' H' hk)
 refine Iw (eV (hd:=QE) (rest:=P3.f40.body.drop 10) (K':=bk K Er) (eP 61) ?_ ((P3.f40.body.drop 1).take 9) _ _ (gs [] [cond b 1 0,(q:Int)] []) J Y0 R0 Q);exact λfl rr U s J' Y R h=>h fl rr U s J' rfl Y R
noncomputable def NK:Nat->List Int->List Int
 |0,l=>l
 |n+1,l=>l.headD 0::NK n l.tail
theorem B4:∀(n:Nat) (l:List Int),n<=l.length->l=NK n l
 |0,_,_=>rfl
 |_+1,[],h=>nomatch h
 |n+1,z::l,h=>PK (z:: ·) (B4 n l (Nat.le_of_succ_le_succ h))
theorem um(l:List Int):ag (l.map .int)=QI:=by
 induction l with
 |nil=>rfl
 |cons z r ih=>exact ih
theorem Ix{a b:List PS}(e:U[0]?=QA (QA (.flist zs)))(h:∃k,eQ J .lt (.int zs.length) (.int 19) k/\cM k (ax fK a QE U J Kk) (ax fK b QE U J Kk)):ux fK (.i (.p .lt (.bf .len [.v 0]) (.c (.int 19))) a b) QE U J Kk:=
 aK e ⟨rfl,_,_,.lenL _ _ rfl,h⟩
theorem Iy(zs:List Int)(hk:∀J',K (.bool QI) J'):ef 62 40 [.flist (zs.map .int)] J K Er:=by
 show cC (Pg.fn 40) λfd=>cC (cD fd [.flist (zs.map .int)]) λU=>ax fK fd.body QE U J (bk K Er);refine cY (a:=P3.f40) rfl (cY (a:=QA (AV.flist (zs.map .int))::List.replicate 33 QE) rfl ?_);refine aS (ss:=P3.f40.body.drop 1) (Ix (zs:=zs.map .int) rfl ?_);by_cases h:(((zs.map AV.int).length:Nat):Int)<19
 ·exact⟨QI,(show decide ((((zs.map AV.int).length:Nat):Int)<19)=QI from PL h)▸ .lt _ _,hk _⟩
 ·refine⟨QK,(show decide ((((zs.map AV.int).length:Nat):Int)<19)=QK from PM h)▸ .lt _ _,?_⟩;rw[P9] at h;exact B3 (um _) hk _ (PK (List.map AV.int) (B4 19 zs (Lw h)))
end
section
open PySem
noncomputable def fB (p:Arguments) (pars:List Str):Bool:=p.posonlyargs.isEmpty&&p.vararg.isNone&&p.kwonlyargs.isEmpty&&p.kwarg.isNone&&decide (p.args.map (·.arg)=pars)
theorem rL:∀{ps:List Str} {vs:List Value},ps.length<=vs.length->∀n,n∈ps->((ps.zip vs).lookup n).isSome=QI
 |[],_,_,_,h=>nomatch h
 |p::ps,[],h,_,_=>by cases h
 |p::ps,v::vs,h,n,hn=>by
  show((match n==p with|true=>QA v|false=>(ps.zip vs).lookup n):Option Value).isSome=QI;cases e:n==p with
  |true=>rfl
  |false=>
   rcases OZ.mp hn with rfl|hn
   ·rw[beq_self_eq_true] at e;exact absurd e dc
   ·exact rL (Nat.le_of_succ_le_succ h) n hn
theorem oj{f g:α->Option β}:∀{l:List α},(∀x∈l,f x=g x)->l.filterMap f=l.filterMap g
 |[],_=>rfl
 |a::l,h=>by rw[List.filterMap_cons,List.filterMap_cons,h a (ON ..),oj λx hx=>h x (O0 _ hx)]
theorem vE:∀{ps:List Str} {vs:List Value},ps.Nodup->ps.length=vs.length->(ps.filterMap λn=>((ps.zip vs).lookup n).map (n, ·))=ps.zip vs
 |[],vs,_,h=>by cases vs with|nil=>rfl|cons=>exact absurd h Nat.noConfusion
 |p::ps,[],_,h=>by exact absurd h Nat.noConfusion
 |p::ps,v::vs,hn,h=>by
  have hn:=Qe.mp hn;have e0:((p::ps).zip (v::vs)).lookup p=QA v:=by show(match p==p with|true=>QA v|false=>(ps.zip vs).lookup p)=QA v;rw[beq_self_eq_true]
  rw[List.filterMap_cons,e0];show(p,v)::_=(p,v)::_;refine PK ((p,v):: ·) (Eq.trans ?_ (vE hn.2 (Nat.succ.inj h)));refine oj λn hm=>?_;have e1:(n==p)=QK:=PJ.mpr λe=>hn.1 (e▸hm);show((match n==p with|true=>QA v|false=>(ps.zip vs).lookup n).map (n, ·):Option (Str×Value))=_;rw[e1]
theorem vF{l:List (Str×Value)}{s:List (Str×Value)}(h:∀x∈l,(s.lookup x.1).isSome=QI):(forIn l s λx r=>if(List.lookup x.fst r).isNone=QI then pure (ForInStep.yield (r++[(x.fst,x.snd)])) else pure (ForInStep.yield r):Sem (List (Str×Value)))=pure s:=by
 induction l with
 |nil=>rfl
 |cons x l ih=>
  rw[List.forIn_cons];have e: ¬(List.lookup x.fst s).isNone=QI:=by
   have:=h x (ON ..);cases q:List.lookup x.fst s with
   |none=>rw[q] at this;exact absurd this dc
   |some=>nofun
  rw[if_neg e];exact ih λy hy=>h y (O0 _ hy)
theorem yA{l s:List (Str×Value)}{q:Str}{v:Value}(e:l=[(q,v)])(h:s.lookup q=QE):(forIn l s λx r=>if(List.lookup x.fst r).isNone=QI then pure (ForInStep.yield (r++[(x.fst,x.snd)])) else pure (ForInStep.yield r):Sem (List (Str×Value)))=pure (s++[(q,v)]):=by subst e;rw[List.forIn_cons,if_pos (by rw[h];rfl)];rfl
theorem w9{l:List Str}{s:List (Str×Value)}(h:∀n∈l,(s.lookup n).isSome=QI): ¬(!(l.filter λn=>(s.lookup n).isNone).isEmpty)=QI:=by
 have e:(l.filter λn=>(s.lookup n).isNone)=[]:=List.filter_eq_nil_iff.mpr λa ha q=>by
  have:=h a ha;cases z:s.lookup a with
  |none=>rw[z] at this;exact absurd this dc
  |some=>rw[z] at q;cases q
 rw[e];nofun
theorem E6{ps:List Str}{vs:List Value}{q:Str}(h:q∉ps):(ps.zip vs).lookup q=QE:=by
 cases z:(ps.zip vs).lookup q with
 |none=>rfl
 |some v=>refine eX (List.lookup_eq_some_iff.mp z) λl1 l2 e u=>?_;exact absurd (List.of_mem_zip (show(q,v)∈ps.zip vs by rw[e];exact OL.mpr (.inr (ON ..)))).1 h
section
variable{fd:FuncData}{vals:List Value}{pars:List Str}
theorem p8{it:Option (Array Value)}(hp:fB fd.params pars=QI)(hn:pars.Nodup)(hl:pars.length=vals.length):∃k,bindArgs fd ⟨vals,[]⟩=seqItems? fd.defaults >>= k/\k it=pure (pars.zip vals):=by
 obtain⟨nm,qn,nq2,bd,sc,gl,cl,df,kdf,doc,pm,an,cd,ct,bi⟩:=fd;obtain⟨po,ar,va,ko,kd,kw,de⟩:=nq2;unfold fB at hp;simp only[Qh,List.isEmpty_iff,Option.isNone_iff_eq_none,decide_eq_true_eq] at hp;obtain⟨nq0,rfl⟩:=hp;obtain⟨⟨⟨rfl,rfl⟩,rfl⟩,rfl⟩:=nq0;refine⟨_,pure_bind _ _,?_⟩;refine(if_neg (λh=>?_)).trans ?_
 ·have h:vals.length>(List.map (λx=>x.arg) ar).length:=Pm (OD.mp h).1;exact PD h hl
 refine(if_neg (w9 λn h=>?_)).trans ?_
 ·exact rL (Ql hl) n (List.mem_of_mem_take h)
 refine(PK (· >>= _) (vF λx h=>?_)).trans ((pure_bind _ _).trans ?_)
 ·exact rL (Ql hl) x.1 (List.mem_of_mem_drop (List.of_mem_zip h).1)
 refine(pure_bind _ _).trans ((if_neg nofun).trans ?_);exact PK pure ((PK (List.filterMap _) (O8 _)).trans (vE hn hl))
theorem B5{ps:List Str}{q:Str}{v:Value}(hp:fB fd.params (ps++[q])=QI)(hn:(ps++[q]).Nodup)(hl:ps.length=vals.length):∃k,bindArgs fd ⟨vals,[]⟩=seqItems? fd.defaults >>= k/\k (QA #[v])=pure ((ps++[q]).zip (vals++[v])):=by
 obtain⟨nm,qn,nq2,bd,sc,gl,cl,df,kdf,doc,pm,an,cd,ct,bi⟩:=fd;obtain⟨po,ar,va,ko,kd,kw,de⟩:=nq2;unfold fB at hp;simp only[Qh,List.isEmpty_iff,Option.isNone_iff_eq_none,decide_eq_true_eq] at hp;obtain⟨nq0,e⟩:=hp;obtain⟨⟨⟨rfl,rfl⟩,rfl⟩,rfl⟩:=nq0;have hq:q∉ps:=λh=>(List.nodup_append.mp hn).2.2 q h q (ON ..) rfl;have ez:(List.map (λx:Arg=>x.arg) ar).zip vals=ps.zip vals:=by rw[e];have:=List.zip_append (l₁:=ps) (r₁:=[q]) (l₂:=vals) (r₂:=[]) hl;rw[O8] at this;exact this.trans (O8 _)
 have el:(List.map (λx:Arg=>x.arg) ar).length=ps.length+1:=by rw[e,OP];rfl
 have e1:List.drop ([v].length - (List.map (λx:Arg=>x.arg) ar).length) [v]=[v]:=by rw[el];exact PK (λn=>List.drop n [v]) (show 1 - (ps.length+1)=0 by exact Nat.sub_eq_zero_of_le (PV 1 _))
 refine⟨_,pure_bind _ _,?_⟩;refine(if_neg (λh=>?_)).trans ?_
 ·have h:vals.length>(List.map (λx=>x.arg) ar).length:=Pm (OD.mp h).1;omega
 refine(if_neg (w9 λn h=>?_)).trans ?_
 ·have h:n∈List.take ((List.map (λx:Arg=>x.arg) ar).length - (List.drop ([v].length - (List.map (λx:Arg=>x.arg) ar).length) [v]).length) (List.map (λx:Arg=>x.arg) ar):=h;rw[e1,el,e] at h;have h:n∈List.take ps.length (ps++[q]):=h;rw[List.take_left' rfl] at h;show(List.lookup n ((List.map (λx:Arg=>x.arg) ar).zip vals)).isSome=QI;exact ez.symm▸(rL (Ql hl) n h)
 refine(PK (· >>= _) (yA (q:=q) (v:=v) ?_ ?_)).trans ((pure_bind _ _).trans ?_)
 ·show(List.drop ((List.map (λx:Arg=>x.arg) ar).length - (List.drop ([v].length - (List.map (λx:Arg=>x.arg) ar).length) [v]).length) (List.map (λx:Arg=>x.arg) ar)).zip (List.drop ([v].length - (List.map (λx:Arg=>x.arg) ar).length) [v])=[(q,v)];rw[e1,el,e];show(List.drop ps.length (ps++[q])).zip [v]=_;rw[List.drop_left' rfl];rfl
 ·show List.lookup q ((List.map (λx:Arg=>x.arg) ar).zip vals)=QE;exact(PK _ ez).trans (E6 hq)
 refine(pure_bind _ _).trans ((if_neg nofun).trans ?_);refine PK pure ((PK (List.filterMap _) (O8 _)).trans ?_);show List.filterMap (λn=>Option.map (λx=>(n,x)) (List.lookup n ((List.map (λx:Arg=>x.arg) ar).zip vals++[(q,v)]))) (List.map (λx:Arg=>x.arg) ar)=_;rw[ez,e,show ps.zip vals++[(q,v)]=(ps++[q]).zip (vals++[v]) from(List.zip_append (r₁:=[q]) (r₂:=[v]) hl).symm];exact vE hn (by rw[OP,OP,hl];rfl)
theorem lQ(hp:fB fd.params pars=QI)(hd:fd.defaults=.none)(hn:pars.Nodup)(hl:pars.length=vals.length):bindArgs fd ⟨vals,[]⟩=pure (pars.zip vals):=by refine ak (p8 (it:=QE) hp hn hl) λk e h=>?_;rw[e,hd];exact(pure_bind QE k).trans h
end
end
section
set_option genCtorIdx false
open PySem PySem.W PySem.SeqAt
theorem nt(h:(!b)=QI):b=QK:=by
 cases b with
 |false=>rfl
 |true=>exact ff h
noncomputable def gf:List Bool->Bool
 |[]=>QI
 |b::l=>b&&gf l
theorem ac:∀{l:List Bool},gf l=QI->∀{i:Nat} {b:Bool},l[i]?=QA b->b=QI
 |[],_,_,_,e=>by exact nn e
 |_::_,h,0,_,e=>by((have hz:=OO e;subst hz));exact(OD.mp h).1
 |_::_,h,_+1,_,e=>ac (OD.mp h).2 e
noncomputable def upB (p:Nat->Bool):Nat->Bool
 |0=>QI
 |n+1=>p n&&upB p n
theorem cQ{p:Nat->Bool}:∀{n:Nat},upB p n=QI->∀c,c<n->p c=QI
 |0,_,c,h=>absurd h (Nat.not_lt_zero c)
 |n+1,h,c,hc=>(Nat.lt_succ_iff_lt_or_eq.mp hc).elim (λq=>cQ (OD.mp h).2 c q) λq=>q▸(OD.mp h).1
structure Sk where
 K:Frag
 cls:Nat->Addr
 fn:Nat->Addr
 attr:Nat->Str
 nA:Nat
 nC:Nat
 nX:Nat
noncomputable def Wd.sk (G:Wd):Sk:=⟨G.K,G.cls,G.fn,G.attr,G.nA,G.nC,G.nX⟩
noncomputable def om (K:Frag) (a:Addr):Option FuncData:=(K.lookup a).bind λo=>match o.data with
 |.func fd=>QA fd
 |_=>QE
noncomputable def d8 (fd:FuncData):Option (List Stmt):=match fd.body with
 |.stmts b=>QA b
 |_=>QE
noncomputable def Iz (names:aZ) (pars:List Str) (Ov:Vis):Bool:=pars.zipIdx.all λp=>Ov.lookup p.2==QA p.1&&(names.lookup p.1==QA .local||names.lookup p.1==QA .cell)
noncomputable def E8 (names:aZ) (pars:List Str) (Ov:Vis):Bool:=Ov.all λp=> !(names.lookup p.2==QA .cell||names.lookup p.2==QA .free)||(names.lookup p.2==QA .cell&&pars[p.1]?==QA p.2)
noncomputable def mP (K:Frag) (v:Value):Option (Array Value):=match v with
 |.ref d=>(K.lookup d).bind λo=>match o.data with
  |.seq items _=>QA items
  |_=>QE
 |_=>QE
noncomputable def B6 (K:Frag) (v:Value):List AV->Bool
 |[]=>decide (v=.none)
 |[.none]=>decide (mP K v=QA #[.none])
 |_=>QK
noncomputable def B7 (K:Frag) (a:Addr) (fn:Fn) (pars:List Str) (Ov:Vis) (body:FuncData->List Stmt->Bool):Bool:=match om K a with
 |some fd=>gf [!fd.scope.isCoroutine, !fd.scope.isGenerator,codeIn K fd.code fd.qualname,fd.closure.isEmpty,fd.scope.kind== .function,fd.globals==mainGlobals,fd.builtins==builtinsNs,
   pars.length==fn.np,decide (fn.np<=fn.nl),decide pars.Nodup,Iz fd.scope.names pars Ov,E8 fd.scope.names pars Ov,decide (Ov.map (·.2)).Nodup,fB fd.params pars,B6 K fd.defaults fn.dfl,match d8 fd with|some b=>body fd b|none=>QK]
 |none=>QK
theorem p9{f:α->β}:∀{l:List α},(l.map f).Nodup->∀{a b:α},a∈l->b∈l->f a=f b->a=b
 |[],_,_,_,h,_,_=>nomatch h
 |c::l,hn,a,b,ha,hb,e=>by
  have hn:=Qe.mp hn;rcases OZ.mp ha with rfl|ha'<;>rcases OZ.mp hb with rfl|hb'
  ·rfl
  ·exact absurd (Pa.mpr ⟨b,hb',e.symm⟩) hn.1
  ·exact absurd (Pa.mpr ⟨a,ha',e⟩) hn.1
  ·exact p9 hn.2 ha' hb' e
variable{G:Wd}{Ov:Vis}{K:Frag}
theorem un(h:(Ov.map (·.2)).Nodup):nv Ov:=λu u u h1 h2=>PK Prod.fst (p9 h (dm h1) (dm h2) rfl)
theorem xc{a:Addr}{fd:FuncData}(h:om K a=QA fd):∃o,K.lookup a=QA o/\o.data=.func fd:=by
 unfold om at h;refine ak (Qd.mp h) λo ho h=>⟨o,ho,?_⟩;cases e:o.data with
 |func f=>rw[e] at h;((have hz:=OO h;cases hz));rfl
 |_=>rw[e] at h;exact nn h
theorem uo{fd:FuncData}{b:List Stmt}(h:d8 fd=QA b):fd.body=.stmts b:=by
 unfold d8 at h;cases e:fd.body with
 |stmts f=>rw[e] at h;((have hz:=OO h;cases hz));rfl
 |_=>rw[e] at h;exact nn h
theorem E9{v:Value}{it:Array Value}(h:mP K v=QA it):∃d o n,v=.ref d/\K.lookup d=QA o/\o.data=.seq it n:=by
 unfold mP at h;cases v with
 |ref d=>
  refine ak (Qd.mp h) λo ho h=>⟨d,o,?_⟩;cases e:o.data with
  |seq xs n=>rw[e] at h;((have hz:=OO h;cases hz));exact⟨n,rfl,ho,rfl⟩
  |_=>rw[e] at h;exact nn h
 |_=>exact nn h
theorem K7{K:Frag}{v:Value}(h:B6 K v l=QI)(f:l=[]->decide (v=.none)=QI->C)(g:l=[.none]->decide (mP K v=QA #[.none])=QI->C):C:=by
 cases l with
 |nil=>exact f rfl h
 |cons a r=>cases r with
  |nil=>cases a with
   |none=>exact g rfl h
   |_=>exact ff h
  |cons b r=>exact ff (show QK=QI by cases a<;>exact h)
theorem B8(X:G.K.In G.H){fd:FuncData}{fn:Fn}{pars:List Str}(hp:fB fd.params pars=QI)(hn:pars.Nodup)(hl:pars.length=fn.np)(hd:B6 G.K fd.defaults fn.dfl=QI)(s:Shared)(vals:List Value)(st:G.H.StaysIn s.heap)(q1:vals.length<=fn.np)(q2:fn.np<=vals.length+fn.dfl.length):
  ∃dvals,BindsTo s fd ⟨vals,[]⟩ (pars.zip (vals++dvals))/\af G G.H [] (fn.dfl.drop (vals.length+fn.dfl.length - fn.np)) dvals:=by
 generalize fn.dfl=dfl at hd q2;refine K7 hd (λe1 hd=>?_) λe1 hd=>?_
 ·subst e1;have e:pars.length=vals.length:=by have:fn.np<=vals.length+0:=q2;exact hl.trans (Nat.le_antisymm this q1)
  refine⟨[],.of_eq ?_,by rw[List.drop_nil];rfl⟩;rw[O8];exact lQ hp (Pm hd) hn e
 ·subst e1;obtain⟨d,o,n,e1,e2,e3⟩:=E9 (Pm hd);have q2:fn.np<=vals.length+1:=q2;have ho:=st _ _ (X _ _ e2);by_cases q:vals.length=fn.np
  ·refine⟨[],?_,?_⟩
   ·obtain⟨k,b1,b2⟩:=p8 (it:=QA #[.none]) hp hn (hl.trans q.symm);rw[O8];exact .of_defaults e1 ho e3 b1 b2
   ·rw[show vals.length+[AV.none].length - fn.np=1 from by show vals.length+1 - fn.np=1;exact q▸Nat.add_sub_cancel_left _ _];rfl
  ·refine⟨[.none],?_,?_⟩
   ·have hne:pars≠[]:=λz=>by rw[z] at hl;have hl:0=fn.np:=hl;exact q (Nat.le_antisymm q1 (hl▸O3 _))
    have hz:=List.dropLast_concat_getLast hne;have hL:pars.dropLast.length=vals.length:=by rw[List.length_dropLast];exact(PK (· - 1) hl).trans (PK Nat.pred (Nat.le_antisymm q2 (Nat.lt_of_le_of_ne q1 q)))
    generalize pars.dropLast=ps at hz hL;generalize pars.getLast hne=q at hz;subst hz;exact ak (B5 (v:=.none) hp hn hL) λk b1 b2=>.of_defaults e1 ho e3 b1 b2
   ·rw[show vals.length+[AV.none].length - fn.np=0 from by show vals.length+1 - fn.np=0;exact Nat.sub_eq_zero_of_le (Nat.lt_of_le_of_ne q1 q)];exact⟨.none,[],rfl,rfl,rfl⟩
theorem vH(X:G.K.In G.H){a:Addr}{fn:Fn}{pars:List Str}{chk:FuncData->List Stmt->Bool}(hc:B7 G.K a fn pars Ov chk=QI):
  ∃o fd body,om G.K a=QA fd/\d8 fd=QA body/\chk fd body=QI/\mC G a fn o fd body pars Ov:=by
 unfold B7 at hc;cases hfd:om G.K a with
 |none=>rw[hfd] at hc;exact ff hc
 |some fd=>
  rw[hfd] at hc;refine ak (xc hfd) λo ho hd=>?_;have hb:(match d8 fd with|some b=>chk fd b|none=>QK)=QI:=ac hc (i:=15) rfl;cases hs:d8 fd with
  |none=>rw[hs] at hb;exact ff hb
  |some body=>
   rw[hs] at hb;have h9:=Pm (ac hc (i:=9) rfl);have h7:=Pl (ac hc (i:=7) rfl);refine⟨o,fd,body,rfl,hs,hb,⟨X _ _ ho,hd,?_,?_,uo hs,codeRec_of X (ac hc (i:=2) rfl),List.isEmpty_iff.mp (ac hc (i:=3) rfl),Pl (ac hc (i:=4) rfl),Pl (ac hc (i:=5) rfl),Pl (ac hc (i:=6) rfl),h7,Pm (ac hc (i:=8) rfl),h9,λi x hi=>?_,λi x hl hk=>?_,un (Pm (ac hc (i:=12) rfl)),B8 X (ac hc (i:=13) rfl) h9 h7 (ac hc (i:=14) rfl)⟩⟩
   ·exact nt (ac hc (i:=0) rfl)
   ·exact nt (ac hc (i:=1) rfl)
   ·have h:=OD.mp (O9.mp (ac hc (i:=10) rfl) (x,i) (List.mem_zipIdx_iff_getElem?.mpr hi));exact⟨Pl h.1,(Pp.mp h.2).imp Pl Pl⟩
   ·have h:=Pp.mp (O9.mp (ac hc (i:=11) rfl) (i,x) (dm hl));rcases h with h|h
    ·have h:=Bool.or_eq_false_iff.mp (nt h);rcases hk with hk|hk
     ·exact absurd hk (PJ.mp h.1)
     ·exact absurd hk (PJ.mp h.2)
    ·have h:=OD.mp h;exact⟨Pl h.1,Pl h.2⟩
noncomputable def oq (h:Heap) (a:Addr):Heap:={h with objs:=h.objs.modify a λo=>{o with data:=.freed}}
theorem qa(h:Heap)(a:Addr):(oq h a).get? a=QE:=by unfold Heap.get? oq;rw[Array.getElem?_modify,if_pos rfl];cases h.objs[a]?<;>rfl
theorem dg(h:Heap){a b:Addr}(hb:b≠a):(oq h a).get? b=h.get? b:=by unfold Heap.get? oq;rw[Array.getElem?_modify,if_neg (Ne.symm hb)]
theorem vI(h:Heap)(a:Addr):∀b o,(oq h a).get? b=QA o->h.get? b=QA o:=λb o e=>by
 by_cases hb:b=a
 ·subst hb;rw[qa] at e;exact nn e
 ·rwa [dg h hb] at e
set_option tactic.hygienic true in
theorem ie{h:Heap}{N:Addr}{mg:Str->Option Value}{n:Str}{v:Value}(X:K.In h)(G:h.Ns N mg)(e:nsIn K N n=QA (QA v)):mg n=QA v:=by
 refine oV G λo es ep ho hd u hf=>?_;delta nsIn at e;cases q:K.lookup N with
 |none=>rw[q] at e;exact nn e
 |some ob=>
  rw[q] at e;have:=X _ _ q;rw[ho] at this;cases this;cases o with
  |mk c d dt sl=>
   subst hd;dsimp only at e;cases he:es.toList.find? (·.key.isStr n) with
   |some x=>
    rw[he] at e
    ((have hz:=OO e;cases hz))
    rw[<-hf];unfold nsFind findBy;rw[<-Array.find?_toList,he];rfl
   |none=>rw[he] at e;dsimp only at e;split at e<;>cases e
end
section
open PySem PySem.W PySem.SeqAt
def xe(G:Sk)(c f:Nat):Bool:=match Pg.meth c f with
 |some k=>decide (findIn G.K (.ref (G.cls c)) (G.attr f)=QA (QA (.ref (G.fn k))))&&decide (typeIn G.K (.ref (G.fn k))=QA (.type "function"))
 |none=>decide (takerIn G.K (G.cls c) (G.attr f)=QA QE)&&match Pg.cattr c f with
  |some v=>match v with
   |.bool b=>gf [decide (findIn G.K (.ref (G.cls c)) (G.attr f)=QA (QA (.bool b))),decide (specialIn G.K (.bool b) "__get__"=QA QE), !copiedNames.contains (G.attr f)]
   |_=>QK
  |none=>decide (findIn G.K (.ref (G.cls c)) (G.attr f)=QA QE)
def B9(G:Sk)(c:Nat):Bool:=gf [plainGet G.K (G.cls c) "",hasDictIn G.K (G.cls c),decide (findIn G.K (.ref (G.cls c)) "__setattr__"=QA (QA (.builtin "object.__setattr__"))),plainOver G.K (G.cls c),upB (xe G c) G.nA]
variable{G:Wd}
theorem dt[Decidable p](h:decide p=QI):p:=Pm h
theorem Ca(h:B9 G.sk c=QI):Fo G c:=by
 refine⟨ac h (i:=0) rfl,ac h (i:=1) rfl,dt (ac h (i:=2) rfl),ac h (i:=3) rfl,λf hf=>?_⟩;have h:=cQ (ac h (i:=4) rfl) f hf;unfold xe at h;cases hm:Pg.meth c f with
 |some k=>rw[hm] at h;exact⟨dt (OD.mp h).1,dt (OD.mp h).2⟩
 |none=>
  rw[hm] at h;refine⟨dt (OD.mp h).1,?_⟩;have h:=(OD.mp h).2;cases hb:Pg.cattr c f with
  |none=>rw[hb] at h;exact dt h
  |some v=>
   rw[hb] at h;cases v with
   |bool b=>exact⟨b,rfl,dt (ac h (i:=0) rfl),dt (ac h (i:=1) rfl),nt (ac h (i:=2) rfl)⟩
   |_=>exact ff h
noncomputable def K8 (G:Sk) (c:Nat):Bool:=gf [upB (λd=>decide (kitOne G.K (.ref (G.cls c)) (.ref (G.cls d))=QA (c==d))) G.nC,decide (kitOne G.K (.ref (G.cls c)) (.type "int")=QA QK),decide (kitOne G.K (.type "int") (.ref (G.cls c))=QA QK),decide (kitOne G.K (.type "bool") (.ref (G.cls c))=QA QK),decide (kitOne G.K (.type "NoneType") (.ref (G.cls c))=QA QK),
  plainGet G.K (G.cls c) "__class__",decide (findIn G.K (.ref (G.cls c)) "__class__"=QA (QA (.builtin "object.__class__"))),decide (mroIn G.K (G.cls c) (.type "object")=QA QI)]
noncomputable def Gq (G:Sk):Bool:=gf [upB (K8 G) G.nC,decide (kitOne G.K (.type "int") (.type "int")=QA QI),decide (kitOne G.K (.type "NoneType") (.type "int")=QA QK),
 decide (specialIn G.K (.builtin "object.__class__") "__get__"=QA (QA (.builtin "getset_descriptor.__get__"))),decide (takesIn G.K (.builtin "object.__class__")=QA QI)]
theorem Fa(h:Gq G.sk=QI):GP G:=by
 have c:=λc (q:c<G.nC)=>cQ (ac h (i:=0) rfl) c q;exact⟨λd e q1 q2=>dt (cQ (ac (c d q1) (i:=0) rfl) e q2),λd q=>dt (ac (c d q) (i:=1) rfl),λd q=>⟨dt (ac (c d q) (i:=2) rfl),dt (ac (c d q) (i:=3) rfl),dt (ac (c d q) (i:=4) rfl)⟩,⟨dt (ac h (i:=1) rfl),dt (ac h (i:=2) rfl)⟩,
  λd q=>⟨ac (c d q) (i:=5) rfl,dt (ac (c d q) (i:=6) rfl),dt (ac (c d q) (i:=7) rfl)⟩,⟨dt (ac h (i:=3) rfl),dt (ac h (i:=4) rfl)⟩⟩
noncomputable def Cb (G:Sk) (c:Nat):Bool:=gf [decide (findIn G.K (.ref (G.cls c)) "__getattribute__"=QA (QA (.builtin "BaseException.__getattribute__"))),decide (findIn G.K (.ref (G.cls c)) "__getattr__"=QA QE),decide (mroIn G.K (G.cls c) (.type "BaseException")=QA QI),hasDictIn G.K (G.cls c)]
noncomputable def IA (G:Sk) (c:Nat):Bool:=gf [decide (exmOne G.K (.ref (G.cls c)) (.type "ValueError")=QA QK),decide (c<G.nC)||decide (exmOne G.K (.type "ValueError") (.ref (G.cls c))=QA QK),upB (λd=>decide (d<G.nC)||decide (exmOne G.K (.ref (G.cls c)) (.ref (G.cls d))=QA (c==d))) G.nX]
noncomputable def uq (G:Sk):Bool:=decide (exmOne G.K (.type "ValueError") (.type "ValueError")=QA QI)&&upB (IA G) G.nX
theorem Gr[Decidable p]{a b:Nat}(h:(decide (a<b)||decide p)=QI)(q:b<=a):p:=(Pp.mp h).elim (λz=>absurd (dt z) (Pd.mpr q)) dt
theorem Cc(h:uq G.sk=QI):gU G:=by have h:=OD.mp h;exact⟨dt h.1,λc q=>dt (ac (cQ h.2 c q) (i:=0) rfl),λd q1 q2=>Gr (ac (cQ h.2 d q2) (i:=1) rfl) q1,λc d q1 q2 q3=>Gr (cQ (ac (cQ h.2 c q1) (i:=2) rfl) d q3) q2⟩
noncomputable def ur (o:Obj):Option (List Value):=cond (decide (o.cls=.type "tuple")&&o.dict.isNone&&o.slots.isEmpty) (match o.data with|.seq items _=>QA items.toList|_=>QE) QE
theorem IB{o:Obj}{l:List Value}(h:ur o=QA l):∃n,o={cls:=.type "tuple",dict:=QE,data:=.seq l.toArray n,slots:= #[]}:=by
 obtain⟨c,d,da,sl⟩:=o;unfold ur at h;cases e:(decide (c=.type "tuple")&&d.isNone&&sl.isEmpty) with
 |false=>rw[show(decide ((⟨c,d,da,sl⟩:Obj).cls=.type "tuple")&&(⟨c,d,da,sl⟩:Obj).dict.isNone&&(⟨c,d,da,sl⟩:Obj).slots.isEmpty)=QK from e] at h;exact nn h
 |true=>
  rw[show(decide ((⟨c,d,da,sl⟩:Obj).cls=.type "tuple")&&(⟨c,d,da,sl⟩:Obj).dict.isNone&&(⟨c,d,da,sl⟩:Obj).slots.isEmpty)=QI from e] at h;have e:=OD.mp e;have e1:=OD.mp e.1;cases dt e1.1;cases Option.isNone_iff_eq_none.mp e1.2;cases Array.isEmpty_iff.mp e.2;cases da with
  |seq xs n=>exact⟨n,(OO h)▸rfl⟩
  |_=>exact nn h
mutual
noncomputable def rM (K:Frag):AV->Value->Bool
 |.none,v=>decide (v=.none)
 |.bool b,v=>decide (v=.bool b)
 |.int i,v=>match v with
  |.int j _=>decide (i=j)
  |_=>QK
 |.str s,v=>match v with
  |.str x _=>decide (s.length<=aE)&&decide (x.cps.toList=s)
  |_=>QK
 |.tup vs,v=>match v with
  |.ref a=>match(K.lookup a).bind ur with
   |some l=>decide (vs.length<=aE)&&mQ K vs l
   |none=>QK
  |_=>QK
 |_,_=>QK
noncomputable def mQ (K:Frag):List AV->List Value->Bool
 |[],[]=>QI
 |v::vs,c::cs=>rM K v c&&mQ K vs cs
 |_,_=>QK
end
mutual
theorem Cd(X:G.K.In G.H):∀(v:AV) {c:Value},rM G.K v c=QI->ad G G.H [] v c
 |.none,c,h=>(dt h:c=Value.none)
 |.bool b,c,h=>(dt h:c=Value.bool b)
 |.int i,c,h=>by
  cases c with
  |int j t=>exact⟨t,(dt h)▸rfl⟩
  |_=>exact ff h
 |.str s,c,h=>by
  cases c with
  |str x t=>have h:=OD.mp h;exact⟨dt h.1,t,by(refine(dt h.2)▸?_);rfl⟩
  |_=>exact ff h
 |.tup vs,c,h=>by
  cases c with
  |ref a=>
   have h:(match(G.K.lookup a).bind ur with|some l=>decide (vs.length<=aE)&&mQ G.K vs l|none=>QK)=QI:=h;cases e:(G.K.lookup a).bind ur with
   |none=>rw[e] at h;exact ff h
   |some l=>rw[e] at h;refine ak (Qd.mp e) λo ho e=>?_;refine aB (IB e) λn er1=>?_;subst er1;have h:=OD.mp h;exact⟨dt h.1,a,l.toArray,rfl,⟨n,X _ _ ho⟩,nofun,xf X vs h.2⟩
  |_=>exact ff h
 |.flist _,c,h=>ff h
 |.obj _,c,h=>ff h
 |.exc _ _,c,h=>ff h
 |.word,c,h=>ff h
theorem xf(X:G.K.In G.H):∀(vs:List AV) {cs:List Value},mQ G.K vs cs=QI->af G G.H [] vs cs
 |[],[],_=>rfl
 |[],_::_,h=>ff h
 |_::_,[],h=>ff h
 |v::vs,c::cs,h=>⟨c,cs,rfl,Cd X v (OD.mp h).1,xf X vs (OD.mp h).2⟩
end
def xg(G:Sk)(g:Nat):Bool:=match Pg.glob g with
 |some v=>match nsIn G.K mainGlobals (T.glob.getD g "") with
  |some (QA c)=>rM G.K v c
  |_=>QK
 |none=>QI
def Fb(G:Sk)(c:Nat):Bool:=makesIn G.K (G.cls c)&&match Pg.init c with
 |some k=>gf [k != Pg.QC,decide (findIn G.K (.ref (G.cls c)) "__init__"=QA (QA (.ref (G.fn k)))),decide (typeIn G.K (.ref (G.fn k))=QA (.type "function"))]
 |none=>decide (findIn G.K (.ref (G.cls c)) "__init__"=QA (QA (.builtin "object.__init__")))
def us(G:Sk):Bool:=gf [biTab.all λp=>decide (nsIn G.K mainGlobals p.1=QA QE),
 upB (λf=>decide (T.fn[f]?=QA "")||gf [f != Pg.QC,decide (nsIn G.K mainGlobals (T.fn.getD f "")=QA (QA (.ref (G.fn f)))),keepIn G.K (.ref (G.fn f))]) T.fn.length,
 upB (λc=>gf [decide (c<G.nX),decide (nsIn G.K mainGlobals (T.cls.getD c "")=QA (QA (.ref (G.cls c)))),keepIn G.K (.ref (G.cls c))]) T.cls.length,
 upB (xg G) T.glob.length,
 upB (λf=>decide (f<G.nA)&&decide (G.attr f=T.attr.getD f "")) T.attr.length,upB (Fb G) G.nC]
theorem mR{l:List Str}{x:Str}(h:l[i]?=QA x):i<l.length/\l.getD i ""=x:=
 ⟨(OG.mp h).1,by rw[List.getD_eq_getElem?_getD,h];rfl⟩
theorem Ce(X:G.K.In G.H)(gns:G.H.Ns mainGlobals G.mg)(bns:G.H.Ns builtinsNs G.mb)(hb:∀p∈biTab,G.mb p.1=QA p.2)(h:us G.sk=QI)
  (hm:∀c f k,Pg.meth c f=QA k->k≠Pg.QC/\keepIn G.K (.ref (G.fn k))=QI) (nC:T.nC=G.nC) (isi:GP G) (exc:y5 G):aQ G:=by
 refine⟨gns,bns,λp hp=>⟨ns_none_of X gns (dt (O9.mp (ac h (i:=0) rfl) p hp)),hb p hp⟩,λf x hf hx=>?_,λc x hc=>?_,λg x v hg hv=>?_,λf n hf=>?_,hm,nC,isi,exc,λc hc=>?_⟩
 ·obtain⟨q1,q2⟩:=mR hf;have h:=Pp.mp (cQ (ac h (i:=1) rfl) f q1);rcases h with z|z
  ·exact absurd (OO (hf.symm.trans (dt z))) hx
  ·have z1:=dt (ac z (i:=1) rfl);rw[q2] at z1;exact⟨bne_iff_ne.mp (ac z (i:=0) rfl),ie X gns z1,ac z (i:=2) rfl⟩
 ·obtain⟨q1,q2⟩:=mR hc;have z:=cQ (ac h (i:=2) rfl) c q1;have z1:=dt (ac z (i:=1) rfl);rw[q2] at z1;exact⟨dt (ac z (i:=0) rfl),ie X gns z1,ac z (i:=2) rfl⟩
 ·obtain⟨q1,q2⟩:=mR hg;have z:=cQ (ac h (i:=3) rfl) g q1;unfold xg at z;rw[hv,q2] at z;have z:(match nsIn G.K mainGlobals x with|some (QA c)=>rM G.K v c|_=>QK)=QI:=z;cases hn:nsIn G.K mainGlobals x with
  |none=>rw[hn] at z;exact ff z
  |some r=>cases r with
   |none=>rw[hn] at z;exact ff z
   |some c=>rw[hn] at z;exact⟨c,ie X gns hn,Cd X v z⟩
 ·obtain⟨q1,q2⟩:=mR hf;have z:=OD.mp (cQ (ac h (i:=4) rfl) f q1);exact⟨dt z.1,(dt z.2).trans q2⟩
 ·have z:=OD.mp (cQ (ac h (i:=5) rfl) c hc);refine⟨z.1,?_⟩;have z:=z.2;cases hi:Pg.init c with
  |some k=>rw[hi] at z;exact⟨bne_iff_ne.mp (ac z (i:=0) rfl),dt (ac z (i:=1) rfl),dt (ac z (i:=2) rfl)⟩
  |none=>rw[hi] at z;exact dt z
end
section
open PySem PySem.W PySem.SeqAt
open PyProof.Rows
noncomputable def D0:gL:=⟨"",⟨[],[],QE,[],[],QE,[]⟩,[],{kind:=.function,names:=[],isGenerator:=QK,isCoroutine:=QK}⟩
noncomputable def ut (st:Stmt):gL:=if h:st.ctorIdx=0 then @Stmt.FunctionDef.elim (λu=>gL) st h (λn ps b u u u sc u u u=>⟨n,ps,b,sc⟩) else D0
noncomputable def qb (K:Frag) (a:Addr):gL:=((om K a).bind λfd=>(d8 fd).bind λb=>b[2]?).elim D0 ut
def Cf(wpos:Pos)(Ov:Vis)(p0 p1:PS)(ps:List PS)(i t:Nat)(fd:FuncData)(b:List Stmt):Bool:=et b λs0 r=>et r λs1 r=>et r λst r=>gO st λn u u decs ret tps u doc n' pos=>gf [decs.isEmpty,ret.isNone,tps.isEmpty,doc.isNone,decide (n'=n),decide (pos=wpos),zS fd.scope.names Ov p0 QK s0,zS fd.scope.names Ov p1 QK s1,dJ fd.scope.names Ov ps QK r,
 decide (Ov.lookup i=QA n),decide (fd.scope.names.lookup n=QA .local),decide (Ov.lookup t=QA ("text":Str)),decide (fd.scope.names.lookup ("text":Str)=QA .cell)]
theorem IC{G:Wd}{sc:aZ}{Ov:Vis}{ps:List PS}{sts:List Stmt}{t:Nat}:∀d:gL,d=G.D->Ov.lookup i=QA d.name->sc.lookup d.name=QA .local->Ov.lookup t=QA ("text":Str)->sc.lookup ("text":Str)=QA .cell->jE G sc Ov ps sts->jE G sc Ov (.defW i t::ps) (.FunctionDef d.name d.params d.body [] QE [] d.scope QE d.name G.wpos::sts):=by
 rintro d rfl h1 h2 h3 h4 h5
 exact .defW h1 h2 h3 h4 h5
theorem ID{G:Wd}{Ov:Vis}{p0 p1:PS}{ps:List PS}{t:Nat}{fd:FuncData}{b:List Stmt}(h:Cf G.wpos Ov p0 p1 ps i t fd b=QI):b[2]?.elim D0 ut=G.D->jE G fd.scope.names Ov (p0::p1::.defW i t::ps) b:=by refine aI (C:=λb=>b[2]?.elim D0 ut=G.D->jE G fd.scope.names Ov (p0::p1::.defW i t::ps) b) h λs0 r h=>aI (C:=λr=>(s0::r)[2]?.elim D0 ut=G.D->jE G fd.scope.names Ov (p0::p1::.defW i t::ps) (s0::r)) h λs1 r h=>aI (C:=λr=>(s0::s1::r)[2]?.elim D0 ut=G.D->jE G fd.scope.names Ov (p0::p1::.defW i t::ps) (s0::s1::r)) h λst r h=>lh (C:=λst=>ut st=G.D->jE G fd.scope.names Ov (p0::p1::.defW i t::ps) (s0::s1::st::r)) h λn pp bb decs ret tps sc doc n' pos h hD=>?_;cases List.isEmpty_iff.mp (ac h (i:=0) rfl);cases Option.isNone_iff_eq_none.mp (ac h (i:=1) rfl);cases List.isEmpty_iff.mp (ac h (i:=2) rfl);cases Option.isNone_iff_eq_none.mp (ac h (i:=3) rfl);cases dt (ac h (i:=4) rfl);cases dt (ac h (i:=5) rfl);exact .st (ac h (i:=6) rfl) (.st (ac h (i:=7) rfl) (IC ⟨n,pp,bb,sc⟩ hD (dt (ac h (i:=9) rfl)) (dt (ac h (i:=10) rfl)) (dt (ac h (i:=11) rfl)) (dt (ac h (i:=12) rfl)) (.rest (ac h (i:=8) rfl))))
theorem Fc{p:Arguments}{pars:List Str}{env:Env}(hp:fB p pars=QI)(ha:p.args.all (·.annotation.isNone)=QI):annTrees p QE env=[]:=by
 obtain⟨po,ar,va,ko,kd,kw,de⟩:=p;unfold fB at hp;simp only[Qh,List.isEmpty_iff,Option.isNone_iff_eq_none,decide_eq_true_eq] at hp;obtain⟨nq0, -⟩:=hp;obtain⟨⟨⟨rfl,rfl⟩,rfl⟩,rfl⟩:=nq0;show annotationsOf (ar++[]++[]++[]++[]) env++[]=[];rw[O8,O8,O8,O8,O8];clear pars;induction ar with
 |nil=>rfl
 |cons x l ih=>have ha:=OD.mp ha;obtain⟨n,an,q⟩:=x;cases Option.isNone_iff_eq_none.mp ha.1;exact ih ha.2
noncomputable def vJ (K:Frag) (C N:Addr):Bool:=match K.lookup C with
 |some o=>match o.data with
  |.cls cd=>gf [decide (o.cls=.type "type"),decide (cd.mro=[.ref C,.type "Exception",.type "BaseException",.type "object"]),decide (cd.ns=N),cd.hasDict, !cd.hasDel,decide (o.slots= #[o.slots.getD 0 QE,o.slots.getD 1 QE,o.slots.getD 2 QE,o.slots.getD 3 QE,QA (.builtin "Exception.__new__"),o.slots.getD 5 QE])]
  |_=>QK
 |none=>QK
theorem IE{o:Obj}{c:Value}{d:Data}{sl:Array (Option Value)}(h1:o.cls=c)(h2:o.data=d)(h3:o.slots=sl):o=⟨c,o.dict,d,sl⟩:=by exact h1▸h2▸h3▸rfl
theorem K9{cd:ClassData}{m:List Value}{N:Addr}(h1:cd.mro=m)(h2:cd.ns=N)(h3:cd.hasDict=QI)(h4:cd.hasDel=QK):cd=⟨cd.name,cd.bases,m,N,cd.qualname,QI,cd.slotNames,cd.subclasses,cd.abstract,cd.collection,QK⟩:=by exact h1▸h2▸h3▸h4▸rfl
theorem yB{K:Frag}{C N:Addr}(h:vJ K C N=QI):∃nm q bs sn sub ab col dd k0 k1 k2 k3 k5,K.lookup C=QA (excClassObj nm q C N bs [.type "Exception",.type "BaseException",.type "object"] QI sn sub ab col dd k0 k1 k2 k3 k5 "Exception.__new__"):=by
 unfold vJ at h;cases e:K.lookup C with
 |none=>rw[e] at h;exact ff h
 |some o=>
  rw[e] at h;have h:(match o.data with|.cls cd=>gf [decide (o.cls=.type "type"),decide (cd.mro=[.ref C,.type "Exception",.type "BaseException",.type "object"]),decide (cd.ns=N),cd.hasDict, !cd.hasDel,decide (o.slots= #[o.slots.getD 0 QE,o.slots.getD 1 QE,o.slots.getD 2 QE,o.slots.getD 3 QE,QA (.builtin "Exception.__new__"),o.slots.getD 5 QE])]|_=>QK)=QI:=h;cases q:o.data with
  |cls cd=>rw[q] at h;refine⟨cd.name,cd.qualname,cd.bases,cd.slotNames,cd.subclasses,cd.abstract,cd.collection,o.dict,o.slots.getD 0 QE,o.slots.getD 1 QE,o.slots.getD 2 QE,o.slots.getD 3 QE,o.slots.getD 5 QE,PK QA ?_⟩;exact(IE (dt (ac h (i:=0) rfl)) (q.trans (PK Data.cls (K9 (dt (ac h (i:=1) rfl)) (dt (ac h (i:=2) rfl)) (ac h (i:=3) rfl) (nt (ac h (i:=4) rfl))))) (dt (ac h (i:=5) rfl)))
  |_=>(replace h:=q▸h);exact ff h
noncomputable def xh (n1 n2 p0 p1 p2:Str) (b:List Stmt):Bool:=c1 b λst=>mz st λts v u=>c1 ts (λt=>cTuple t λes u u=>c2 es λx y=>bp x (λa m u=>bE a λz u=>decide (z=p0/\m=n1))&&bp y λa m u=>bE a λz u=>decide (z=p0/\m=n2))&&cTuple v λes u u=>c2 es λx y=>bE x (λz u=>decide (z=p1))&&bE y λz u=>decide (z=p2)
noncomputable def gh.tup (b:gh) (n1 n2 p0:Str):Expr:=.Tuple [.Attribute (.Name p0 b.q0) n1 b.q1,.Attribute (.Name p0 b.q2) n2 b.q3] b.m1 b.q4
noncomputable def gh.val (b:gh) (p1 p2:Str):Expr:=.Tuple [.Name p1 b.q5,.Name p2 b.q6] b.m2 b.q7
theorem Fd{n1 n2 p0 p1 p2:Str}{b:List Stmt}(h:xh n1 n2 p0 p1 p2 b=QI):∃d:gh,b=[.Assign [d.tup n1 n2 p0] (d.val p1 p2) d.q8]:=by
 have A:∀{x:Expr} {m:Str},bp x (λa k u=>bE a λz u=>decide (z=p0/\k=m))=QI->∃q q',x=.Attribute (.Name p0 q) m q':=λ{x m} h=>aX (C:=λx=>∃q q',x=.Attribute (.Name p0 q) m q') h λa k q' h=>aN (C:=λa=>∃q q'',Expr.Attribute a k q'=.Attribute (.Name p0 q) m q'') h λz q h=>⟨q,q',((dt h).1)▸((dt h).2)▸rfl⟩;have N:∀{x:Expr} {p:Str},bE x (λz u=>decide (z=p))=QI->∃q,x=.Name p q:=λ{x p} h=>aN (C:=λx=>∃q,x=.Name p q) h λz q h=>⟨q,(dt h)▸rfl⟩;refine cO (C:=λb=>∃d:gh,b=[.Assign [d.tup n1 n2 p0] (d.val p1 p2) d.q8]) h λst h=>lZ (C:=λst=>∃d:gh,[st]=[.Assign [d.tup n1 n2 p0] (d.val p1 p2) d.q8]) h λts v q8 h=>?_;refine b2 h λh1 h2=>cO (C:=λts=>∃d:gh,[Stmt.Assign ts v q8]=[.Assign [d.tup n1 n2 p0] (d.val p1 p2) d.q8]) h1 λt h=>dQ (C:=λt=>∃d:gh,[Stmt.Assign [t] v q8]=[.Assign [d.tup n1 n2 p0] (d.val p1 p2) d.q8]) h λes m1 q4 h=>
  lm (C:=λes=>∃d:gh,[Stmt.Assign [.Tuple es m1 q4] v q8]=[.Assign [d.tup n1 n2 p0] (d.val p1 p2) d.q8]) h λx y h=>b2 h λhx hy=>dQ (C:=λv=>∃d:gh,[Stmt.Assign [.Tuple [x,y] m1 q4] v q8]=[.Assign [d.tup n1 n2 p0] (d.val p1 p2) d.q8]) h2 λes m2 q7 h=>
  lm (C:=λes=>∃d:gh,[Stmt.Assign [.Tuple [x,y] m1 q4] (.Tuple es m2 q7) q8]=[.Assign [d.tup n1 n2 p0] (d.val p1 p2) d.q8]) h λz w h=>b2 h λhz hw=>?_
 exact(A hx).elim λq0 e=>e.elim λq1 e0=>(A hy).elim λq2 e=>e.elim λq3 e1=>(N hz).elim λq5 e2=>(N hw).elim λq6 e3=>⟨⟨q0,q1,q2,q3,q4,q5,q6,q7,q8,m1,m2⟩,by((refine e0.symm▸?_;refine e1.symm▸?_;refine e2.symm▸?_;refine e3.symm▸?_));rfl⟩
end
section
open PySem PySem.W PySem.SeqAt
open PyProof.Rows
namespace Q3
def slots:List (Nat×List Str):=[(1,sl ["text","out","i","word","c","j","w"]),(2,sl ["s","text"]),(3,sl ["s","k","w"]),(3,sl ["s","k","w"]),(1,sl ["s","out"]),(1,sl ["s","n"]),(2,sl ["s","l"]),(2,sl ["s","ends","out"]),(1,sl ["s","n","r","sel","args"]),(4,sl ["s","r","sel","args"]),(1,sl ["s","r","o","a"]),(1,sl ["s","r"]),(1,sl ["s","k","w","e","ps","t","r"]),(1,sl ["s","ps","sel","t","r"]),(1,sl ["s","cs","n","u","v","ms","t","r"]),(1,sl ["text"]),(2,sl ["program","n","c"]),(3,sl ["program","n","sel","c","m"]),(2,sl ["program","n","c"]),(3,sl ["s","c","n"]),(2,sl ["s","n"]),(3,sl ["s","e","sc"]),(3,sl ["s","home","v"]),(5,sl ["s","up","me","cls","home"]),(1,sl ["a"]),(3,sl ["self","program","fuel","c"]),(1,sl ["self"]),(2,sl ["self","v"]),(3,sl ["self","n","sc","s"]),(3,sl ["self","e","sc","k","s","iv","v","args","up","m","r"]),(3,sl ["self","l","sc","v","s"]),(4,sl ["self","m","me","args","c","sel","ps","ts","st","h","sc","t","r"]),(3,sl ["self","b","args","sc","t"]),(2,sl ["self","b"]),(4,sl ["self","v","sel","a","b","x","c"]),(2,sl ["program","fuel","r","h","sc","t","v","e"]),(2,sl ["x","n"]),(1,sl ["v"]),(3,sl ["n","m","q","cost","holds"]),(7,sl ["o","x","y","b","v","w","q","n","m","me","same","cost","line","word"]),(1,sl ["script","b","q","v","w","cost","outs","last","fate","lines","o","x","y","line","price","said","value","state","end","mode","piece","middle","head","whole","program","unread","name","sel","where","found","missing","over","got","refused"]),(2,sl ["text","i","j"])]
def Fe:List Addr:=[22,36,44,52,59,66,73,80,87,94,101,108,115,122,127,141,148,155,162,176,197,218,239,259,287,301,308,315,322,327,334,341,348,355,362,376,416,423,430,437,444,0]
def Gs:List Addr:=[130,179,200,221,262,276,365,242]
def M4(f:Nat):List Str:=(slots.getD f (0,[])).2.take (slots.getD f (0,[])).1
def rN(f:Nat):Vis:=(slots.getD f (0,[])).2.zipIdx.map λp=>(p.2,p.1)
def sk(K:Frag):Sk:=⟨K,λc=>Gs.getD c 0,λf=>Fe.getD f 0,λf=>T.attr.getD f "",38,7,8⟩
def xi(f:Nat)(fn:Fn)(fd:FuncData)(b:List Stmt):Bool:=cond (Nat.beq f 0) (Cf ⟨7,4,11,16⟩ (rN f) (.a (.v 1) (.list [])) (.a (.v 2) (.c (.int 0))) (P3.f0.body.drop 3) 3 0 fd b) (dJ fd.scope.names (rN f) fn.body QK b)
def Gu(K:Frag)(f:Nat):Bool:=match be P3.fns f with
 |some fn=>B7 K (Fe.getD f 0) fn (M4 f) (rN f) (xi f fn)
 |none=>QI
def wN:aZ:=[("i",.local),("j",.local),("text",.free),("len",.globalImplicit)]
def rO(D:gL):Bool:=gf [decide (D.name="word"), !D.scope.isCoroutine, !D.scope.isGenerator,D.scope.kind== .function,D.params.defaults.isEmpty,D.params.kw_defaults.isEmpty,decide (D.scope.names=wN),fB D.params ["i"],D.params.args.all (·.annotation.isNone),dJ D.scope.names (rN 41) P3.f41.body QK D.body]
def La(fd:FuncData):Bool:=gf [decide (fd.code=.ref 21),decide (fd.qualname="_lex"),decide (fd.scope.names.lookup ("word":Str)=QA .local)]
def Gv(K:Frag)(fd:FuncData):Bool:=gf [(d8 fd).elim QK (xh "home" "v" "s" "home" "v"), !fd.scope.isCoroutine, !fd.scope.isGenerator,fd.scope.kind== .function,codeIn K fd.code fd.qualname,fd.scope.names.all λp=>p.2 != .cell,decide (fd.scope.names.lookup ("s":Str)=QA .local),decide (fd.scope.names.lookup ("home":Str)=QA .local),decide (fd.scope.names.lookup ("v":Str)=QA .local),fB fd.params ["s","home","v"],decide (fd.defaults=.none)]
def Cg(K:Frag):Bool:=gf [vJ K 242 241,nsOkIn K 241,decide (nsIn K 241 "__init__"=QA (QA (.ref 239))),decide (nsIn K 241 "__setattr__"=QA QE),decide (nsIn K 241 "home"=QA QE),decide (nsIn K 241 "v"=QA QE),decide ((K.lookup 239).map (·.cls)=QA (.type "function")),(om K 239).elim QK (Gv K)]
def chk3(K:Frag):Bool:=gf [upB (B9 (sk K)) 7,Gq (sk K),Cb (sk K) 7,uq (sk K),us (sk K),upB (λk=>Nat.beq k 41||keepIn K (.ref (Fe.getD k 0))) 42,decide (findIn K (.ref 242) (T.attr.getD 20 "")=QA QE),decide (findIn K (.ref 242) (T.attr.getD 16 "")=QA QE),
 upB (λf=>Nat.beq f 41||Gu K f) 42,rO (qb K 22),(om K 22).elim QK La,codeHdIn K 21 17,Cg K,decide (K.lookup 17=QE)]
def G3(K:Frag)(w:PySem.World)(s1:Shared)(mg mb:Str->Option Value):Wd:={prog:=Challenge.rw_sx_r136_3.row.prog,w:=w,H:=oq s1.heap 17,os:=s1.os,K:=K,cls:=λc=>Gs.getD c 0,fn:=λf=>Fe.getD f 0,attr:=λf=>T.attr.getD f "",nA:=38,nC:=7,nX:=8,mg:=mg,mb:=mb,tab:=17,wpos:=⟨7,4,11,16⟩,QF:="_lex.<locals>.word",D:=qb K 22}
theorem IF:T.attr.Nodup:=by decide+kernel
theorem M5:(biTab.all λp=>decide (bootBuiltins p.1=QA p.2)&&decide (p.1≠("__name__":Str)))=QI:=by kernel_rfl
section
variable{K:Frag}{w:PySem.World}{s1:Shared}{mg mb:Str->Option Value}{p:Program}{loose:List Str}{mean:ExcName->Option Value}
theorem rP(c:chk3 K=QI)(KX:K.In s1.heap):K.In (oq s1.heap 17):=λa o e=>by exact(dg _ (λz=>nn ((dt (ac c (i:=13) rfl)).symm.trans (z▸e)))).trans (KX a o e)
theorem mS{h:Heap}{a:Addr}{m:Str->Option Value}(x:h.Ns a m)(ha:a≠17):(oq h 17).Ns a m:=by exact eJ x λo es ep ho r=>⟨o,es,ep,(dg _ ha).trans ho,r⟩
theorem Ff{l:List (Nat×α)}{v:α}(h:P3.asc l k=QA v):(k,v)∈l:=by
 induction l with
 |nil=>exact nn h
 |cons e r ih=>
  have h:cond (Nat.beq e.1 k) (QA e.2) (P3.asc r k)=QA v:=h;cases q:Nat.beq e.1 k with
  |true=>rw[q] at h;obtain⟨a,b⟩:=e;cases OO h;cases OW q;exact ON ..
  |false=>rw[q] at h;exact O0 _ (ih h)
theorem uv{l:List (List (Nat×α))}{v:α}(h:P3.asc2 l c k=QA v):∃r,l[c]?=QA r/\(k,v)∈r:=by
 have h:(Option.rec QE (λe=>P3.asc e k) (be l c):Option α)=QA v:=h;rw[cA] at h;cases e:l[c]? with
 |none=>rw[e] at h;exact nn h
 |some r=>rw[e] at h;exact⟨r,rfl,Ff h⟩
theorem xj{f:Nat}(h:Pg.excf c f=QA j):c=7/\((f=20/\j=0)\/(f=16/\j=1)):=by
 refine ak (uv h) λr e m=>xZ (P:=λc r=>(f,j)∈r->c=7/\((f=20/\j=0)\/(f=16/\j=1))) mn (xZ mn (xZ mn (xZ mn (xZ mn (xZ mn (xZ mn (xZ (λm=>⟨rfl,?_⟩) gz))))))) c r e m;rcases OZ.mp m with e|m
 ·cases e;exact .inl ⟨rfl,rfl⟩
 ·cases OF.mp m;exact .inr ⟨rfl,rfl⟩
theorem IG:(P3.meths.all λr=>r.all λe=>decide (e.2<41))=QI:=by decide+kernel
theorem Fg{f:Nat}(h:Pg.meth c f=QA k):k<41:=by exact ak (uv h) λr e m=>dt (O9.mp (O9.mp IG r (OE e)) (f,k) m)
theorem Gw{o:Option α}{f:α->Bool}{x:α}(h:o.elim QK f=QI)(e:o=QA x):f x=QI:=by subst e;exact h
theorem M6(c:chk3 K=QI)(Tp:Top p loose mean mg mb s1.heap)(KX:K.In s1.heap)(hT:s1.heap.get? 17=QA (tabObj #[])){fd:FuncData}(hfd:om K 22=QA fd){env:Env}(he:wh fd 22 env):sU (G3 K w s1 mg mb) env:=by
 refine aB he λL er1=>?_;subst er1;have hF:=Gw (ac c (i:=10) rfl) hfd;have hW:rO (qb K 22)=QI:=ac c (i:=9) rfl;have hc:fd.code=.ref 21:=dt (ac hF (i:=0) rfl);have hN:(G3 K w s1 mg mb).D.scope.names=wN:=dt (ac hW (i:=6) rfl);have hnm:(G3 K w s1 mg mb).D.name="word":=dt (ac hW (i:=0) rfl);refine⟨⟨21,hc,codeHd_of_K (rP c KX) (ac c (i:=11) rfl)⟩,?_,?_,(show mainGlobals≠17 by decide),qa _ _,mS Tp.g dc,λa ha=>?_,List.isEmpty_iff.mp (ac hW (i:=4) rfl),List.isEmpty_iff.mp (ac hW (i:=5) rfl),Fc (ac hW (i:=7) rfl) (ac hW (i:=8) rfl)⟩
 ·(refine hnm.symm▸?_)
  unfold qualnameIn;have:Env.kindOf (newEnv fd.scope L fd.globals (cellsFrom (L+1) fd.scope.names []) (fd.qualname++".<locals>.") (QA 22) fd.code QE fd.builtins) "word"=QA .local:=dt (ac hF (i:=2) rfl)
  (refine this.symm▸?_)
  show(if(QA NameKind.local==QA NameKind.globalExplicit)=QI then _ else fd.qualname++".<locals>."++"word")=_;exact((dt (ac hF (i:=1) rfl):fd.qualname="_lex")).symm▸((by decide+kernel:(if(QA NameKind.local==QA NameKind.globalExplicit)=QI then("word":Str) else("_lex":Str)++".<locals>."++"word")="_lex.<locals>.word"))
 ·obtain⟨bm,ob,h1,h2,h3,h4,h5,h6⟩:=Tp.bmain;have n17:bm≠17:=λz=>by rw[z,hT] at h3;cases h3;cases h6
  refine⟨bm,ob,h1,h2,λz=>?_,n17,(dg _ n17).trans h3,h4,h5,h6⟩;refine eK Tp.g λo es ep ho hd u=>?_
  ((replace h3:=z▸h3;replace h3:=ho▸h3));cases h3;cases hd.symm.trans h6
 ·rw[wj (λq hq' hk=>?_),hN]
  ·unfold wN;dsimp only[kh,Df]
   ((refine ha.symm▸?_);rfl)
  ·rw[hN] at hq';unfold wN at hq';simp only[OZ,Qf,or_false] at hq';rcases hq' with rfl|rfl|rfl|rfl<;>simp at hk
   exact⟨a,ha⟩
theorem M7(c:chk3 K=QI)(Tp:Top p loose mean mg mb s1.heap)(KX:K.In s1.heap)(hT:s1.heap.get? 17=QA (tabObj #[]))(f:Nat)(fn:Fn)(h:Pg.fn f=QA fn)(hf:f≠41):∃o fd body pars Ov,mC (G3 K w s1 mg mb) ((G3 K w s1 mg mb).fn f) fn o fd body pars Ov/\
  (dJ fd.scope.names Ov fn.body QK body=QI\/(jE (G3 K w s1 mg mb) fd.scope.names Ov fn.body body/\∀env,wh fd ((G3 K w s1 mg mb).fn f) env->sU (G3 K w s1 mg mb) env)):=by
 have h:be P3.fns f=QA fn:=h;have hlt:f<42:=(OG.mp ((cA P3.fns f).symm.trans h)).1;have ha:=(Pp.mp (cQ (ac c (i:=8) rfl) f hlt)).resolve_left λz=>hf (OW z);unfold Gu at ha;rw[h] at ha;refine oV (vH (G:=G3 K w s1 mg mb) (rP c KX) ha) λo fd body h1 h2 hb FF=>⟨o,fd,body,_,_,FF,?_⟩;unfold xi at hb;cases q:Nat.beq f 0 with
 |false=>rw[q] at hb;exact .inl hb
 |true=>
  rw[q] at hb;cases OW q;cases OO h;have e:qb K 22=body[2]?.elim D0 ut:=by
   unfold qb
   (refine(show om K 22=QA fd from h1).symm▸?_)
   show((d8 fd).bind λb=>b[2]?).elim D0 ut=_
   (refine h2.symm▸?_);rfl
  refine .inr ⟨?_,λenv he=>M6 c Tp KX hT h1 he⟩;exact ID (G:=G3 K w s1 mg mb) hb e.symm
theorem Lb(c:chk3 K=QI):lC (G3 K w s1 mg mb) P3.f41 "i" (rN 41):=by
 have hW:rO (qb K 22)=QI:=ac c (i:=9) rfl;have hN:(G3 K w s1 mg mb).D.scope.names=wN:=dt (ac hW (i:=6) rfl);have v0:(rN 41).lookup 0=QA ("text":Str):=by decide+kernel
 have v1:(rN 41).lookup 1=QA ("i":Str):=by decide+kernel
 refine⟨nt (ac hW (i:=1) rfl),nt (ac hW (i:=2) rfl),Pl (ac hW (i:=3) rfl),rfl,rfl,λx hx=>?_,by refine(PK _ hN).trans ?_;decide+kernel,λcl doc pm cdv ct v=>lQ (pars:=["i"]) (ac hW (i:=7) rfl) rfl (by decide+kernel) rfl,λx q=>(OO (v0.symm.trans q)).symm,λx q=>(OO (v1.symm.trans q)).symm,λi x q1 q2=>?_,by refine(PK _ hN).trans ?_;decide+kernel,un (by decide+kernel)⟩
 ·rw[hN] at hx;have:(wN.all λx=>decide (x.2≠ .cell))=QI:=by decide+kernel
  exact dt (O9.mp this x hx)
 ·rw[hN] at q2;have:((rN 41).all λp=>decide (p.1=0)||decide (¬(wN.lookup p.2=QA .cell\/wN.lookup p.2=QA .free)))=QI:=by decide+kernel
  exact(Pp.mp (O9.mp this (i,x) (dm q1))).elim dt λz=>absurd q2 (dt z)
theorem M8:typeLookup (.type "Exception") "home"=pure QE:=by((refine(typeLookup_type ..).symm▸?_;refine(builtinLookup_eq_fast ..).symm▸?_));kernel_rfl
theorem M9:typeLookup (.type "Exception") "v"=pure QE:=by((refine(typeLookup_type ..).symm▸?_;refine(builtinLookup_eq_fast ..).symm▸?_));kernel_rfl
theorem Os:T.attr.getD 20 ""=("home":Str):=by decide+kernel
theorem Ot:T.attr.getD 16 ""=("v":Str):=by decide+kernel
theorem IH(c:chk3 K=QI)(KX:K.In s1.heap):mD (G3 K w s1 mg mb) 7:=by
 have X:=rP c KX;have hR:Cg K=QI:=ac c (i:=12) rfl;have hI:=ac hR (i:=7) rfl;cases hfd:om K 239 with
 |none=>rw[hfd] at hI;exact ff hI
 |some fd=>
  have hI:Gv K fd=QI:=Gw hI hfd;refine ak (xc hfd) λoI ho hd=>?_;have hcls:oI.cls=.type "function":=by have h:(K.lookup 239).map (·.cls)=QA (.type "function"):=dt (ac hR (i:=6) rfl);rw[ho] at h;exact OO h
  have hns:(oq s1.heap 17).Ns 241 ((oq s1.heap 17).nsMap 241):=.of_isNs (isNs_of_in X (ac hR (i:=1) rfl));have hb:=ac hI (i:=0) rfl;cases hs:d8 fd with
  |none=>rw[hs] at hb;exact ff hb
  |some b=>
   rw[hs] at hb;obtain⟨nm,q,bs,sn,sub,ab,col,dd,k0,k1,k2,k3,k5,hC⟩:=yB (ac hR (i:=0) rfl);refine⟨20,16,fd,"s","home","v",(show 20<38 by decide),(show 16<38 by decide),?_,λf j h=>(xj h).2⟩
   ((refine(show(G3 K w s1 mg mb).attr 20=("home":Str) from Os).symm▸?_;refine(show(G3 K w s1 mg mb).attr 16=("v":Str) from Ot).symm▸?_))
   refine⟨⟨⟨nm,q,241,bs,[.type "Exception",.type "BaseException",.type "object"],sn,sub,ab,col,dd,k0,k1,k2,k3,k5,"Exception","Exception.__new__","Exception.__init__","object.__setattr__","object",(oq s1.heap 17).nsMap 241,239,oI⟩,F.excBase_Exception,F.store_Exception,X _ _ hC,hns,ie X hns (dt (ac hR (i:=2) rfl)),ns_none_of X hns (dt (ac hR (i:=3) rfl)),ns_none_of X hns (dt (ac hR (i:=4) rfl)),ns_none_of X hns (dt (ac hR (i:=5) rfl)),M8,M9,X _ _ ho,hcls,hd⟩,?_,
    nt (ac hI (i:=1) rfl),nt (ac hI (i:=2) rfl),Pl (ac hI (i:=3) rfl),codeRec_of X (ac hI (i:=4) rfl),λx hx=>bne_iff_ne.mp (O9.mp (ac hI (i:=5) rfl) x hx),λv0 v1 v2=>lQ (pars:=["s","home","v"]) (ac hI (i:=9) rfl) (dt (ac hI (i:=10) rfl)) (by decide+kernel) rfl,dt (ac hI (i:=6) rfl),dt (ac hI (i:=7) rfl),dt (ac hI (i:=8) rfl),by decide+kernel,by decide+kernel,by decide+kernel,⟨by decide+kernel,by decide+kernel,by decide+kernel⟩,by decide+kernel⟩
   (refine(uo hs).symm▸?_)
   exact(Fd hb).elim λd e=>⟨d,PK FuncBody.stmts e⟩
theorem II(c:chk3 K=QI)(Tp:Top p loose mean mg mb s1.heap)(KX:K.In s1.heap)(hT:s1.heap.get? 17=QA (tabObj #[]))(hi:importsNone p=QI):FA (G3 K w s1 mg mb):=by
 have X:(G3 K w s1 mg mb).K.In (G3 K w s1 mg mb).H:=rP c KX;have gns:(G3 K w s1 mg mb).H.Ns mainGlobals mg:=mS Tp.g dc;have bns:(G3 K w s1 mg mb).H.Ns builtinsNs mb:=mS Tp.b dc;have hb:∀q∈biTab,mb q.1=QA q.2:=λq hq=>by have h:=OD.mp (O9.mp M5 q hq);exact(Tp.builtins q.1 (dt h.2)).trans (dt h.1)
 have one:∀{c:Nat},7<=c->c<8->c=7:=λh1 h2=>Nat.le_antisymm (Pv h2) h1;have EX:y5 (G3 K w s1 mg mb):=by
  have hx:Cb (sk K) 7=QI:=ac c (i:=2) rfl;refine⟨λd h1 h2=>?_,λd f j h=>?_⟩
  ·cases one h2 h1;exact⟨dt (ac hx (i:=0) rfl),dt (ac hx (i:=1) rfl),dt (ac hx (i:=2) rfl),ac hx (i:=3) rfl⟩
  ·obtain⟨rfl,hf⟩:=xj h;refine⟨(show 7<8 by decide),(show 7<=7 by decide),?_⟩;rcases hf with⟨rfl,_⟩|⟨rfl,_⟩
   ·exact dt (ac c (i:=6) rfl)
   ·exact dt (ac c (i:=7) rfl)
 refine⟨⟨?_,?_,X,λd hd=>Ca (G:=G3 K w s1 mg mb) (cQ (ac c (i:=0) rfl) d hd),λf g h1 h2 e=>?_⟩,Ce X gns bns hb (ac c (i:=4) rfl) (λd f k h=>?_) rfl (Fa (G:=G3 K w s1 mg mb) (ac c (i:=1) rfl)) EX,Cc (G:=G3 K w s1 mg mb) (ac c (i:=3) rfl),λd h1 h2=>?_,M7 c Tp KX hT,λfn h=>?_⟩
 ·obtain⟨mm,⟨o,es,ep,ho,_⟩,_⟩:=(Tp.seer hi).mods;exact⟨o,(dg _ dc).trans ho⟩
 ·obtain⟨mc,h1,h2⟩:=Tp.nolimit;exact⟨mc,mS h1 dc,h2⟩
 ·have h1:f<T.attr.length:=h1;have h2:g<T.attr.length:=h2;have e:T.attr.getD f ""=T.attr.getD g "":=e;rw[List.getD_eq_getElem?_getD,List.getD_eq_getElem?_getD,List.getElem?_eq_getElem h1,List.getElem?_eq_getElem h2] at e;exact(List.getElem_inj IF).mp e
 ·have hk:=Fg h;exact⟨PD hk,(Pp.mp (cQ (ac c (i:=5) rfl) k (Nat.lt_succ_of_lt hk))).resolve_left λz=>PD hk (OW z)⟩
 ·cases one h1 h2;exact IH c KX
 ·have h:be P3.fns 41=QA fn:=h;cases OO h;exact⟨"i",rN 41,Lb c,ac (ac c (i:=9) rfl) (i:=9) rfl⟩
end
end Q3
end
section
open MineH
open PySem PySem.W PySem.SeqAt
open PyProof.Rows
noncomputable def kT (o:Obj):Bool:=match o.data with
 |.freed=>QI
 |_=>QK
noncomputable def Gx (t:Nat):List Obj->Nat->Frag
 |[],_=>[]
 |o::l,n=>cond (or (Nat.beq n t) (kT o)) (Gx t l (n+1)) ((n,o)::Gx t l (n+1))
theorem Ch{t a:Nat}{o:Obj}:∀(l:List Obj) (n:Nat),(Gx t l n).lookup a=QA o->∃i,a=n+i/\l[i]?=QA o/\kT o=QK
 |[],_,h=>nn h
 |x::l,n,h=>by
  have T:(Gx t l (n+1)).lookup a=QA o->∃i,a=n+i/\(x::l)[i]?=QA o/\kT o=QK:=λh=>
   let⟨i,e,h1,h2⟩:=Ch l (n+1) h
   ⟨i+1,by rw[e,PW,PX 1 i],h1,h2⟩
  have h:(cond (or (Nat.beq n t) (kT x)) (Gx t l (n+1)) ((n,x)::Gx t l (n+1))).lookup a=QA o:=h;cases q:or (Nat.beq n t) (kT x) with
  |true=>rw[q] at h;exact T h
  |false=>
   rw[q] at h;have h:(match a==n with|true=>QA x|false=>(Gx t l (n+1)).lookup a)=QA o:=h;cases z:a==n with
   |false=>rw[z] at h;exact T h
   |true=>rw[z] at h;exact⟨0,Pl z,h,OO h▸(Bool.or_eq_false_iff.mp q).2⟩
noncomputable def Ci (h:Heap):Frag:=Gx 17 h.objs.toList 0
theorem Cj(h:Heap):(Ci h).In h:=λa o e=>by
 obtain⟨i,e1,e2,e3⟩:=Ch h.objs.toList 0 e;rw[Nat.zero_add] at e1;subst e1;unfold Heap.get?;rw[Array.getElem?_toList] at e2;rw[e2];obtain⟨c,d,da,sl⟩:=o;cases da with
 |freed=>exact ff e3.symm
 |_=>rfl
def Yf(s:Shared):Bool×Option Obj:=(Q3.chk3 (Ci s.heap),s.heap.get? 17)
theorem Na:Big (λw s=>Yf s) (QI,QA (tabObj #[])):=by intro w os;delta fin;rw[PySem.W.Fast.te10110043849684766642,PySem.W.Fast.te14364793385576792824,PySem.W.Fast.te14082659384304107361];kernel_rfl
end
section
open PySem PySem.W PyProof.Rows
open MineH
open Q3
theorem Nb:importsNone qv=QI:=by kernel_rfl
theorem uw{G:Wd}{h:Heap}:∀{zs:List Int} {vs:List Value},IntsAre vs zs->af G h [] (zs.map AV.int) vs
 |[],_,x=>by cases x;rfl
 |z::zs,_,x=>by cases x with|cons n t e=>exact⟨_,_,rfl,⟨_,rfl⟩,uw e⟩
set_option tactic.hygienic true in
theorem holds3:PySem.Challenge.rw_sx_r136_3.Holds:=by
 refine head (YP:=λu h=>∃K,chk3 K=QI/\K.In h/\h.get? 17=QA (tabObj #[])) Na (λw s e=>⟨Ci s.heap,PK Prod.fst e,Cj _,PK Prod.snd e⟩) (λw h h' Y k=>Y.elim λK Y=>⟨K,Y.1,Y.2.1.keeps k,k _ _ Y.2.2⟩) ?_;intro w s0 s1 mg mb G Y fa o pm cd doc dV kV ho hd hcd hD hmg hg args vals as hpre hlay hrd hwl hlo;obtain⟨K,c,KX,h17⟩:=Y;clear hd hcd hD;have hmg':mg "law"=QA (.ref fa):=hmg;clear hmg
 wrow_args hpre hlay hrd hwl hlo
 rename_i zs hs hlay0 hL1 hr1 hl2 as1 as2 la lv las hL ra w1 r0 hI hr hc hc2;have F:=II (w:=w) c G.T KX h17 Nb;have hfa:fa=444:=by have:=(F.NO.fn 40 "law" rfl (by decide+kernel)).2.1;rw[show(G3 K w s1 mg mb).mg "law"=mg "law" from rfl,hmg'] at this;cases this;rfl
 subst hfa;have hla:la≠17:=λz=>by obtain⟨ol,q1,q2,_⟩:=hL;rw[z,h17] at q1;cases q1;cases q2
 have R:SR (G3 K w s1 mg mb) [] [] [] s1:=by refine⟨vI _ _,trivial,(λu q=>nomatch q),⟨#[],h17,?_,.inl rfl⟩,(λq=>nomatch q),hg,rfl,rfl,.nil,(λu q=>nomatch q),λk o x d q=>by simp at q⟩;show TriplesOk ([]:List Value);simp[TriplesOk]
 have hIL:(G3 K w s1 mg mb).H.IsList la lv.toArray:=by obtain⟨ol,q1,q2⟩:=hL;exact⟨ol,(dg _ hla).trans q1,q2⟩
 have rel:af (G3 K w s1 mg mb) s1.heap [] [.flist (zs.map AV.int)] [.ref la]:=
  ⟨_,_,rfl,⟨by simp[aE];omega,la,lv.toArray,rfl,hIL,by simpa using uw hI⟩,rfl⟩
 refine wpAny_call ((zU F 62).1 40 [.flist (zs.map AV.int)] [] (λv u=>v=.bool QI) (λu u=>False) (Iy zs λu=>rfl) (show(40:Nat)≠41 by decide) callerA [] [] s1 [.ref la] R ⟨rfl,?_,?_⟩ rfl rel _ _ (λv J' Z' cv s' kv R' st rv=>?_) λu u u u k=>k.elim)
 ·show 1+claimMargin+4*62+8<recursionLimit;unfold claimMargin recursionLimit;exact PV _ _
 ·show 4+60*62+560<cLine;unfold cLine;exact PV _ _
 ·subst kv;have e:cv=.bool QI:=rv;subst e;have hTab:TabsAt [(21,17)] s1.heap:=λq hq=>by exact(OF.mp hq).symm▸(⟨codeHd_of_K KX (ac c (i:=11) rfl),h17⟩)
  obtain⟨ps,hps,_⟩:=R'.tabs;have keep:∀b o,b≠17->s1.heap.get? b=QA o->s'.heap.get? b=QA o:=λb o hb e=>R'.stays b o ((dg _ hb).trans e);refine⟨.inl ⟨.bool QI,.bool QI,[],rfl,λu=>rfl,.bool QI,?_,λu=>⟨.nil,λu q=>nomatch q⟩⟩,⟨λb o e=>?_,λb o e=>?_⟩,R'.os,.of_eq R'.gens⟩
  ·first|rfl|with_unfolding_all rfl|kernel_rfl
  ·by_cases hb:b=17
   ·subst hb;cases h17.symm.trans e;have q:=hTab (21,17) (by exact ON);exact .inr (.inl ⟨(q.1.tab q.2).isCodeTable,rfl, #[],ps,rfl,by rw[Array.empty_append];exact hps⟩)
   ·exact .inl (keep b o hb e)
  ·by_cases hb:b=17
   ·subst hb;exact⟨_,hps⟩
   ·exact⟨o,keep b o hb e⟩
end
end Mine.Tactic
end

theorem PySem.Challenge.cw_sx_r136_3_holds : PySem.Challenge.rw_sx_r136_3.Holds :=
 Mine.Tactic.holds3
