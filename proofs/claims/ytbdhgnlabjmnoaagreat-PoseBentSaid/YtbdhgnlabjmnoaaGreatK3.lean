/- PoseBent: a part of its proof. No condition. -/
import Derived.Test.YtbdhgnlabjmnoaaGreatK2
import Derived.MapKept
import Derived.RangeFuncIn
import Derived.RangeFuncLeaves
import Derived.RangeFuncRecord
import Derived.OrdersIn
set_option linter.all false
set_option maxRecDepth 100000
set_option autoImplicit true
set_option relaxedAutoImplicit true
namespace Go.Av
open Go.RowKit Go.MapKept
def zA:AV->Bool
 | .agg _ | .tup _=>false
 | c=>wd c==1
section
variable {P:Program} {S0 C0:Nat->Prop} {w0 w:World} {ρ:Nat->Nat} {D:Nat->Prop} {σ:List AV} {h:List (Option ABlk)} {a:Act}
theorem tA {opsR:Array Oper} {Q:Exit->Act->World->Prop} {iX:Nat} {oX:Oper} {c:Call} {g:Operand} {f:FuncId} {caps:List AV} (R:Rel S0 C0 w0 ρ D ⟨σ,h⟩ a w) (hoX:opsR[iX]? =some oX) (hg:oX.guard=none)
   (hop:oX.op= .call c) (hc:c.callee= .value g) (hgv:bI σ g= .fn f caps) (hn:((c.args.toList.map (bI σ)).all eC&&caps.all eC&&caps.all zA)=true) (hb:oJ P f) {J:Value->World->Prop}
   (hcall:∀ vals,RelVs ρ0 (Sof S0 ρ h) w No (c.args.toList.map (bI σ)++caps) vals->Calls P f vals.toArray w fun e w'=>∃ v,e= .returned v/\J v w'):
   wpOp P opsR Q iX (fun a' w'=>∃ v,J v w'/\a'=a.put oX.dst v) a w:=by
 unfold wpOp;rw[hoX];simp only[Region.wanted,hg,if_true];refine .inl ?_;rw[Bool.and_eq_true,Bool.and_eq_true] at hn;obtain⟨⟨hn1,hn2⟩,hones⟩:=hn;have hgR:=R.eval g;simp only[hgv] at hgR;have h':RelCs ρ (Sof S0 ρ h) w D [.fn f caps] [a.eval g]:=hgR
 have hv:∃ cvs:List Value,a.eval g= .func (.func f) #[] cvs.toArray/\RelCs ρ (Sof S0 ρ h) w D caps cvs:=by
   generalize a.eval g=v at h';cases h' with
   | fn h _=>exact⟨_,rfl,h⟩
 obtain⟨cvs,hv,hcv⟩:=hv
 have hcaps:∀ (caps:List AV) (cvs:List Value),caps.all eC=true->caps.all zA=true->RelCs ρ (Sof S0 ρ h) w D caps cvs->RelVs ρ0 (Sof S0 ρ h) w No caps cvs:=by
   intro caps
   induction caps with
   | nil=>intro cvs _ _ hcv;cases hcv;trivial
   | cons c cs ih=>
     intro cvs hn2 hones hcv;simp only[List.all_cons,Bool.and_eq_true] at hn2 hones;obtain⟨g1,g2⟩:=hcv.cut1
     have hw:wd c=1:=by
       have:=hones.1;cases c <;> simp_all [zA,wd]
     rw[hw] at g1 g2
     match cvs,g1,g2 with
     | [],g1,_=>exact absurd g1.wds_eq (by simp[tU,hw])
     | v::vs,g1,g2=>exact⟨RelV0.noRef (bA g1) hn2.1 ρ0,ih vs hn2.2 hones.2 g2⟩
 have hmap:c.args.map a.eval=(c.args.toList.map a.eval).toArray:=by apply Array.ext';simp
 have hrun:(execOp a.eval oX).run P w= .ok (.enter f (c.args.toList.map a.eval++cvs).toArray) w:=by
   rw[execOp,hop];simp only[resolve,hc,hv,Deferred.ofValue,Sem.run_bind,Sem.run_pure,Result.andThen_ok,invoke];rw[oK hb]
   congr 2
   rw[hmap];simp
 unfold Oper.wp;rw[hrun,Oper.upon_enter];refine(hcall _ ((qP R _ hn1).app (hcaps _ _ hn2 hones hcv))).mono ?_;rintro e w' ⟨v,rfl,hJ⟩;exact⟨v,hJ,rfl⟩
theorem kO (hoX:opsR[iX]? =some oX) (hg:oX.guard=none) (hrun:(execOp a.eval oX).run P w= .ok (.value v) w') (hJ:J (a.put oX.dst v) w'):
   wpOp P opsR Q iX J a w:=by
 unfold wpOp;rw[hoX];simp only[Region.wanted,hg,if_true];refine .inl ?_;unfold Oper.wp;rw[hrun];exact hJ
theorem tB (hoX:opsR[iX]? =some oX) (hg:oX.guard=none) (hrun:(execOp a.eval oX).run P w= .ok .skip w') (hJ:J (a.put oX.dst undef) w'):
   wpOp P opsR Q iX J a w:=by
 unfold wpOp;rw[hoX];simp only[Region.wanted,hg,if_true];refine .inl ?_;unfold Oper.wp;rw[hrun];exact hJ
theorem Chg.mono (h:Chg X w w') (k:∀ i,X i->Y i):Chg Y w w':=⟨h.os,h.tape,h.output,h.size,fun i hi hn=>h.block i hi fun hx=>hn (k i hx),h.row⟩
def qA (ρ:Nat->Nat) (h:List (Option ABlk)):Nat->Prop:=fun k=>∃ l b,h[l]? =some (some b)/\ρ l=k
theorem Rel.rebase (R:Rel S0 C0 w0 ρ D st a w) (hC:∀ k,qA ρ st.h k->C1 k):Rel S0 C1 w ρ D st a w:=
 { R with
   chg:=Chg.refl _ _
   mine:=fun l b hb=>⟨.inl (hC _ ⟨l,b,hb,rfl⟩),(R.mine l b hb).2⟩ }
theorem Rel.turn (R:Rel S0 C0 w0 ρ D ⟨σ,h⟩ a w) (hc:Chg X w w') (hX:∀ k,X k->S0 k) (hv:dst=none\/RelV ρ (Sof S0 ρ h) w' D V v):
   Rel S0 (qA ρ h) w' ρ D ⟨put σ dst V,h⟩ (a.put dst v) w':=by
 have R1:Rel S0 (fun k=>qA ρ h k\/X k) w ρ D ⟨σ,h⟩ a w:=R.rebase fun k hk=>.inl hk
 have hk:Keep ρ (Sof S0 ρ h) w D ρ (Sof S0 ρ h) w':=
   ⟨hc.size,fun l hl=>⟨rfl,hc.row _⟩,fun k hk hs=>⟨hs,hc.block k hk fun hx=>hs (.inl (hX k hx))⟩⟩
 have hheap:∀ l b,h[l]? =some (some b)->D l/\RelB ρ (Sof S0 ρ h) w' D l b:=by
   intro l b hb;obtain⟨h1,h2⟩:=R.heap l b hb;obtain⟨arr,h3,h4⟩:=h2;refine⟨h1,RelB.keep ⟨arr,h3,h4⟩ (fun _ h=>h) hk rfl (hc.block _ (fT h3) fun hx=>(R.mine l b hb).2.1 (hX _ hx))⟩
 have base:∀ V v,RelV ρ (Sof S0 ρ h) w' D V v->Rel S0 (qA ρ h) w' ρ D ⟨put σ dst V,h⟩ (a.put dst v) w':=fun V v hv=>
   (R1.step (h':=h) hk (fun _ h=>h) hv hheap R.inj R.dlt (hc.mono fun k hk=>.inr hk) (fun l b hb=>⟨.inl (.inl ⟨l,b,hb,rfl⟩),(R.mine l b hb).2⟩)).rebase fun k hk=>hk
 rcases hv with rfl | hv
 · exact base .any undef trivial
 · exact base V v hv
def Memo (F:Nat->List AV) (n:Nat) (S:Nat->Prop) (w:World) (r:Nat):Prop:=
 ∃ es clk,w.heap[r]? =some (.map es clk)/\es.size=n/\∀ j e,es[j]? =some e->e.key= .int .i64 ((j:Nat):Int)/\∃ vs:List Value,e.val= .agg vs.toArray/\RelCs ρ0 S w No (F j) vs
theorem Memo.keep {F:Nat->List AV} {n r:Nat} {S S':Nat->Prop} {w':World} (M:Memo F n S w r) (hs:w.heap.size<=w'.heap.size) (hr:w'.heap[r]? =w.heap[r]?) (hk:∀ k,k<w.heap.size->¬ S k->¬ S' k/\w'.heap[k]? =w.heap[k]?):Memo F n S' w' r:=by
 obtain⟨es,clk,h1,h2,h3⟩:=M;refine⟨es,clk,by rw[hr];exact h1,h2,fun j e he=> ?_⟩;obtain⟨k1,vs,k2,k3⟩:=h3 j e he;exact⟨k1,vs,k2,k3.keep _ (fun _ h=>h) ⟨hs,fun l h=>h.elim,hk⟩⟩
theorem Memo.look {F:Nat->List AV} {n r mt kt et i:Nat} {S:Nat->Prop} (M:Memo F n S w r) (hm:P.underlying mt=some (.map kt et)) (hk:P.underlying kt=some (.int .i64)) (hi:i<n):
   ∃ vs:List Value,(∀ ok,(Instr.lookup mt (.map (some r)) (.int .i64 ((i:Nat):Int)) ok).run P w= .ok (if ok then .tuple #[.agg vs.toArray,.bool true] else .agg vs.toArray) w)/\RelCs ρ0 S w No (F i) vs:=by
 obtain⟨es,clk,h1,h2,h3⟩:=M;have hkey:IsKey (.int .i64) (.int .i64 ((i:Nat):Int)):=by simp[IsKey]
 have hks:∀ x∈es.toList,IsKey (.int .i64) x.key:=fun x hx=>by
   obtain⟨j,hj⟩:=List.mem_iff_getElem?.1 hx;rw[(h3 j x (by simpa using hj)).1];simp[IsKey]
 rcases findNow_spec hkey es.toList 0 hks with ⟨k1,k2⟩ | ⟨j,e,k1,k2,k3⟩
 · exfalso
   have hlt:i<es.size:=by omega
   have:=k2 es[i] (by simp);exact this (h3 i es[i] (by simp[hlt])).1
 · obtain⟨g1,vs,g2,g3⟩:=h3 j e (by simpa using k2)
   have hij:j=i:=by rw[g1] at k3;injection k3 with _ k3;omega
   subst hij;refine⟨vs,fun ok=> ?_,g3⟩;cases ok <;> simp[Instr.lookup,run_underlying hm,Result.andThen,MapKept.run_getObj_map h1,run_checkKey hk hkey,run_findKey hk k1,g2]
theorem Memo.miss {F:Nat->List AV} {n r mt kt et i:Nat} {S:Nat->Prop} (M:Memo F n S w r) (hm:P.underlying mt=some (.map kt et)) (hk:P.underlying kt=some (.int .i64)) (hi:n<=i) {z:Value} (hz:(zeroValue et).run P w= .ok z w):
   (Instr.lookup mt (.map (some r)) (.int .i64 ((i:Nat):Int)) true).run P w= .ok (.tuple #[z,.bool false]) w:=by
 obtain⟨es,clk,h1,h2,h3⟩:=M;have hkey:IsKey (.int .i64) (.int .i64 ((i:Nat):Int)):=by simp[IsKey]
 have hks:∀ x∈es.toList,IsKey (.int .i64) x.key:=fun x hx=>by
   obtain⟨j,hj⟩:=List.mem_iff_getElem?.1 hx;rw[(h3 j x (by simpa using hj)).1];simp[IsKey]
 rcases findNow_spec hkey es.toList 0 hks with ⟨k1,k2⟩ | ⟨j,e,k1,k2,k3⟩
 · simp[Instr.lookup,run_underlying hm,Result.andThen,MapKept.run_getObj_map h1,run_checkKey hk hkey,run_findKey hk k1,hz]
 · exfalso
   obtain⟨g1,_⟩:=h3 j e (by simpa using k2);have hjl:j<es.size:=by have:=(List.getElem?_eq_some_iff.1 k2).1;simpa using this
   rw[g1] at k3;injection k3 with _ k3;omega
theorem Memo.upd {F:Nat->List AV} {n r mt kt et:Nat} {S:Nat->Prop} (M:Memo F n S w r) (hm:P.underlying mt=some (.map kt et)) (hk:P.underlying kt=some (.int .i64)) {vs:List Value} (hv:RelCs ρ0 S w No (F n) vs) (hS:S r):
   ∃ w',(Instr.mapUpdate mt (.map (some r)) (.int .i64 ((n:Nat):Int)) (.agg vs.toArray)).run P w= .ok () w'/\Chg (· =r) w w'/\Memo F (n+1) S w' r:=by
 obtain⟨es,clk,h1,h2,h3⟩:=M;have hkey:IsKey (.int .i64) (.int .i64 ((n:Nat):Int)):=by simp[IsKey]
 have hks:∀ x∈es.toList,IsKey (.int .i64) x.key:=fun x hx=>by
   obtain⟨j,hj⟩:=List.mem_iff_getElem?.1 hx;rw[(h3 j x (by simpa using hj)).1];simp[IsKey]
 rcases findNow_spec hkey es.toList 0 hks with ⟨k1,k2⟩ | ⟨j,e,k1,k2,k3⟩
 · have hc:=heap_set (o':=.map (es.push ⟨.int .i64 ((n:Nat):Int),.agg vs.toArray,clk⟩) (clk+1)) h1
   have hrt:=fT h1
   have hchg:Chg (· =r) w { w with heap:=w.heap.setIfInBounds r (.map (es.push ⟨.int .i64 ((n:Nat):Int),.agg vs.toArray,clk⟩) (clk+1)) }:=
     ⟨rfl,rfl,rfl,by simp,fun k _ hk=>hc.2 k hk,fun k arr ty ha=>⟨arr,ty,by
       have:k≠r:=fun e=>by rw[e,h1] at ha;cases ha
       simp only[hc.2 k this];exact ha,Nat.le_refl _⟩⟩
   refine⟨_, ?_,hchg,_,_,hc.1,by simp[h2],fun j e he=> ?_⟩
   · simp[Instr.mapUpdate,run_underlying hm,MapKept.run_getObj_map h1,run_checkKey hk hkey,run_findKey hk k1,MapKept.run_setObj_map _ h1,Result.andThen]
   · have kp:∀ {cs:List AV} {us:List Value},RelCs ρ0 S w No cs us->RelCs ρ0 S { w with heap:=w.heap.setIfInBounds r (.map (es.push ⟨.int .i64 ((n:Nat):Int),.agg vs.toArray,clk⟩) (clk+1)) } No cs us:=
       fun hcs=>hcs.keep _ (fun _ h=>h) ⟨hchg.size,fun l h=>h.elim,fun k _ hs=>⟨hs,hc.2 k fun e=>hs (e▸hS)⟩⟩
     rw[Array.getElem?_push] at he
     split at he
     · rename_i hj
       injection he with he;subst he;exact⟨by rw[hj,h2],vs,rfl,by rw[hj,h2];exact kp hv⟩
     · obtain⟨g1,us,g2,g3⟩:=h3 j e he
       exact⟨g1,us,g2,kp g3⟩
 · exfalso
   obtain⟨g1,_⟩:=h3 j e (by simpa using k2);have hjl:j<es.size:=by have:=(List.getElem?_eq_some_iff.1 k2).1;simpa using this
   rw[g1] at k3;injection k3 with _ k3;omega
end
end Go.Av
namespace Go.Av
open Go.Proofs Go.RowKit
def bJ (m:MachD) (n:Nat):Int:=if iP m=0 then (if ((n:Nat):Int)=((m.bodies.length:Nat):Int)-1 then 0 else 2) else iP m
def UH:KF
 | [.agg [.str mn,.list 27 XB,.list 17 XS,.list 17 XT,.list 13 XD,.list 5 XF],.agg [.q ax A1,.q az A2,.q tu A3,.list 3 J]]=>some (.int .i64 (bJ (aG [AV.str mn,AV.list 27 XB,AV.list 17 XS,AV.list 17 XT,AV.list 13 XD,AV.list 5 XF]) J.length),[[AV.str mn,AV.list 27 XB,AV.list 17 XS,AV.list 17 XT,AV.list 13 XD,AV.list 5 XF]=aE 300 (aG [AV.str mn,AV.list 27 XB,AV.list 17 XS,AV.list 17 XT,AV.list 13 XD,AV.list 5 XF]),(aG [AV.str mn,AV.list 27 XB,AV.list 17 XS,AV.list 17 XT,AV.list 13 XD,AV.list 5 XF]).small,J.length<=4611686018427387904,XB.length<=4611686018427387904])
 | _=>none
theorem Vr:bO 21 UH:=by
 refine cJ Tryz.f21 fun _ _ _ S w0 h ho=> ?_
 unfold UH at h;split at h <;> cases h;rename_i mn XB XS XT XD XF ax A1 az A2 tu A3 J;obtain⟨o1,o2,o3,o4⟩:=ho.e4;have K:=kn.cons PL;have hb:((aG [AV.str mn,AV.list 27 XB,AV.list 17 XS,AV.list 17 XT,AV.list 13 XD,AV.list 5 XF]).bodies.length:Int)=((XB.length:Nat):Int):=by simp[aG]
 by_cases h1:(iP (aG [(AV.str mn),(AV.list 27 XB),(AV.list 17 XS),(AV.list 17 XT),(AV.list 13 XD),(AV.list 5 XF)]))=(0:Int)
 · by_cases h2:((J.length:Nat):Int)=(((XB.length:Nat):Int)-(1:Int))
   · exact rF K [(9,ff),(17,.i6 ((XB.length:Int)-(1:Int))),(18,ff)] (.a5 o1 o2 (jF h1) (wI ((XB.length:Int)-(1:Int)) ((XB.length:Int)-(1:Int)) (by omega)) (jF h2)) (V:=.i6 (0:Int)) (Ref.int (by unfold bJ;rw[if_pos h1,hb,if_pos h2]))
   · exact rF K [(9,ff),(17,.i6 ((XB.length:Int)-(1:Int))),(18,tt)] (.a5 o1 o2 (jF h1) (wI ((XB.length:Int)-(1:Int)) ((XB.length:Int)-(1:Int)) (by omega)) (jT h2)) (V:=.i6 (2:Int)) (Ref.int (by unfold bJ;rw[if_pos h1,hb,if_neg h2]))
 · exact rF K [(9,tt)] (.a3 o1 o2 (jT h1)) (V:=.i6 (iP (aG [.str mn,.list 27 XB,.list 17 XS,.list 17 XT,.list 13 XD,.list 5 XF]))) (Ref.int (by unfold bJ;rw[if_neg h1]))
end Go.Av
namespace Go.Av
open Go.RowKit
structure FrameD where
 at_:PtD
 c:Rat
 s:Rat
 deriving Inhabited
def iG (e:Nat) (f:FrameD):List AV:=[.q f.at_.x (2*e),.q f.at_.z (2*e),.q f.c e,.q f.s e]
def KM:Code->Nat
 | .region i _ _=>i
 | _=>0
def aZ:Code->Array Oper
 | .region _ o _=>o
 | _=> #[]
def uL:Code->Bool
 | .region _ _ d=>d
 | _=>false
def CN (o:Oper):Oper:={ o with op:=.move (.const undef) }
def lN:Nat->List Oper->List Oper
 | _,[]=>[]
 | 0,o::os=>CN o::os
 | i+1,o::os=>o::lN i os
theorem tQ:∀ (i:Nat) (os:List Oper),fG os (lN i os)
 | i,[]=>by cases i <;> trivial
 | 0,o::os=>⟨rfl,rfl,rfl,shape_refl os⟩
 | i+1,o::os=>⟨rfl,rfl,rfl,tQ i os⟩
where shape_refl:∀ os:List Oper,fG os os
 | []=>trivial
 | o::os=>⟨rfl,rfl,rfl,shape_refl os⟩
theorem BM:∀ (i j:Nat) (os:List Oper),j≠i->(lN i os)[j]? =os[j]?
 | i,_,[],_=>by cases i <;> rfl
 | 0,j+1,o::os,_=>by simp[lN]
 | i+1,0,o::os,_=>by simp[lN]
 | i+1,j+1,o::os,h=>by simpa[lN] using BM i j os (by omega)
 | 0,0,_::_,h=>absurd rfl h
theorem BN:∀ (i:Nat) (os:List Oper) (o:Oper),os[i]? =some o->(lN i os)[i]? =some (CN o)
 | _,[],_,h=>by simp at h
 | 0,o::os,o',h=>by simp at h;subst h;simp[lN]
 | i+1,o::os,o',h=>by simpa[lN] using BN i os o' (by simpa using h)
def GO (i:Nat):List (Nat×AOp)->Option AV
 | []=>none
 | (j,x)::r=>if j=i then x.ov else GO i r
theorem DC:∀ {l:List (Nat×AOp)} {i:Nat} {x:AOp},l.Pairwise (fun p q=>p.1<q.1)->(i,x)∈l->GO i l=x.ov
 | (j,y)::r,i,x,hs,h=>by
   rcases List.mem_cons.1 h with h | h
   · injection h with h1 h2;subst h1;subst h2;simp[GO]
   · have:=(List.pairwise_cons.1 hs).1 _ h
     simp at this;rw[GO,if_neg (by omega),DC (List.pairwise_cons.1 hs).2 h]
 | [],_,_,_,h=>by simp at h
def CO (i:Nat):List Rec->List Prop
 | []=>[]
 | r::rs=>(if r.i=i then [] else r.ob)++CO i rs
theorem wT {i:Nat}:∀ {rs:List Rec},AllP (CO i rs)->∀ r∈rs,r.i≠i->AllP r.ob
 | r ::rs,h,q,hq,hn=>by
   rcases List.mem_cons.1 hq with rfl | hq
   · have:=(AllP.app h).1
     rwa [if_neg hn] at this
   · exact wT (AllP.app h).2 q hq hn
 | [],_,_,hq,_=>by simp at hq
def uM (ops:List Oper) (o:Oper) (ts:List Nat):Bool:=
 ts.all fun t=>(List.range ops.length).all fun j=>match ops[j]? with
   | some q=>if q.dst==some t then o.after.toList.any fun e=>e.on==j&&Region.binds .any e else true
   | none=>true
theorem rN {ops:List Oper} {o:Oper} {ts:List Nat} (h:uM ops o ts=true):∀ t∈ts,∀ (j:Nat) (q:Oper),ops[j]? =some q->q.dst=some t->∃ e∈o.after.toList,e.on=j/\Region.binds .any e=true:=by
 intro t ht j q hj hd;have h1:=List.all_eq_true.1 h t ht;have h2:=List.all_eq_true.1 h1 j (List.mem_range.2 (List.getElem?_eq_some_iff.1 hj).1);simp only[hj,hd,beq_self_eq_true,if_true] at h2;obtain⟨e,e1,e2⟩:=List.any_eq_true.1 h2;rw[Bool.and_eq_true] at e2;exact⟨e,e1,by simpa using e2.1,e2.2⟩
section
variable {P:Program} {T:TT} {K:KT} {f:FuncId} {S0 C0:Nat->Prop} {w0:World} {Post:Value->World->Prop}
theorem Good.regX (hm:P.follows .mixedOrders=true) (hT:lT P T) (hK:KOK P K) {c:Code} (iX:Nat) {oX:Oper} {dX:Option Nat} {V:AV} {ov:mW} {st:St} {σ':List AV} {h':List (Option ABlk)} {ob:List Prop} {todo:List Item} {B B':Base->Prop} (ts:List Nat)
   (hc:c= .region (KM c) (aZ c) (uL c)) (hoX:(aZ c).toList[iX]? =some oX) (hg:oX.guard=none) (hd:oX.dst=dX)
   (he:(lM T K (lN iX (aZ c).toList).toArray (uL c) ov st).map (fun r=>(r.1.σ,r.1.h,CO iX r.2))=some (σ',h',ob)) (hob:AllP ob)
   (hV:dX=none\/GO iX (eF 0 (lN iX (aZ c).toList) ov st.h.length)=some V) (hts:uM (lN iX (aZ c).toList) oX ts=true)
   (hX:∀ (Q:Exit->Act->World->Prop) β ρ D σ h a w,B β->Rel β.S β.C β.w ρ D ⟨σ,h⟩ a w->(∀ t∈ts,σ.getD t .any=σ'.getD t .any)->wpOp P (aZ c) Q iX (fun a' w'=>∃ β',B' β'/\Rel β'.S β'.C β'.w ρ D ⟨put σ dX V,h⟩ a' w') a w)
   (hB:B ⟨S0,C0,w0⟩) (hgood:∀ β,B' β->Good P f β.S β.C β.w Post todo ⟨σ',h'⟩):Good P f S0 C0 w0 Post (.code c::todo) st:=by
 subst hd;obtain⟨⟨st',rs⟩,h1,h2⟩:=Option.map_eq_some_iff.1 he;simp only[Prod.mk.injEq] at h2;obtain⟨rfl,rfl,rfl⟩:=h2;rw[hc]
 refine Good.regionX (ops:=(lN iX (aZ c).toList).toArray) (args:=ts.map fun t=>(t,st'.σ.getD t .any)) hm hT hK iX (V:=V) (oX:=oX) h1 (wT hob) (by simpa using tQ iX _) (fun i hi=>by
   have:=BM iX i (aZ c).toList hi
   simpa using this.symm) (by simpa using hoX) hg (by simpa[CN] using BN iX _ _ hoX) (fun x hx=> ?_) ?_ ?_ hB hgood
 · rcases hV with h | h
   · exact .inr h
   · left
     have:=DC (jR _ _ _ _) hx;simp only[List.toList_toArray] at this;rw[<- this];exact h
 · intro p hp
   obtain⟨t,ht,rfl⟩:=List.mem_map.1 hp;refine⟨rfl,fun j o hj hd=>rN hts t ht j o (by simpa using hj) hd⟩
 · intro Q β ρ D σ h a w hβ R hA
   exact hX Q β ρ D σ h a w hβ R fun t ht=>hA (t,st'.σ.getD t .any) (List.mem_map.2 ⟨t,ht,rfl⟩)
end
section
theorem wW (hf:P.funcs[f]? =some fn) (hb:fn.body=some c) (hS:∀ k,S k->k<w.heap.size) (hargs:RelVs ρ0 S w No args vals)
   (h:Good P f S No w Post [.code c] (kY args fn.ntmps)):Calls P f vals.toArray w fun e w'=>∃ v,e= .returned v/\Post v w':=by
 intro cs
 let b:Frame:={ (default:Frame) with fn:=f,kind:=.normal }
 have hlen:∀ (us:List AV) (vs:List Value),RelVs ρ0 S w No us vs->vs.length=us.length:=by
   intro us
   induction us with
   | nil=>intro vs h;cases vs <;> first | rfl | exact h.elim
   | cons c us ih=>
     intro vs h;cases vs with
     | nil=>exact h.elim
     | cons v vs=>simp[ih vs h.2]
 have hget:∀ (us:List AV) (vs:List Value),RelVs ρ0 S w No us vs->∀ (i:Nat) (v:Value),vs[i]? =some v->RelV ρ0 S w No (us.getD i .any) v:=by
   intro us
   induction us with
   | nil=>intro vs h i v hv;cases vs <;> first | exact h.elim | simp at hv
   | cons c us ih=>
     intro vs h i v hv;cases vs with
     | nil=>exact h.elim
     | cons u vs=>
       cases i with
       | zero=>simp at hv;subst hv;exact RelV.of0 h.1
       | succ i=>exact ih vs h.2 i v (by simpa using hv)
 have hSof:Sof S ρ0 []=S:=by
   funext k;apply propext;unfold Sof;simp
 have R:Rel S No w ρ0 No (kY args fn.ntmps) { tmps:=vals.toArray++Array.replicate (fn.ntmps-vals.toArray.size) undef,defers:=[] } w:={
   defers:=rfl
   len:=by simp[kY,hlen _ _ hargs]
   tmps:=by
     intro t v hv;simp only[kY,hSof];rcases Nat.lt_or_ge t vals.length with h | h
     · rw[Array.getElem?_append_left (by simpa using h)] at hv
       have h2:t<args.length:=by rw[<- hlen _ _ hargs];exact h
       have:=hget _ _ hargs t v (by simpa using hv);simpa[List.getD_eq_getElem?_getD,List.getElem?_append_left h2] using this
     · have h2:args.length<=t:=by rw[<- hlen _ _ hargs];exact h
       have:(args++List.replicate (fn.ntmps-args.length) AV.any).getD t .any= .any:=by
         simp only[List.getD_eq_getElem?_getD,List.getElem?_append_right h2,List.getElem?_replicate]
         split <;> rfl
       rw[this];trivial
   heap:=fun l b h=>by simp[kY] at h
   inj:=fun l l' b b' h=>by simp[kY] at h
   lt:=hS
   dlt:=fun l h=>h.elim
   chg:=Chg.refl _ _
   mine:=fun l b h=>by simp[kY] at h }
 obtain⟨v,w',fr,hP,hsteps,hfn,hleave⟩:=h ρ0 No _ w R b cs rfl rfl
 have henter:Frame.enter P f vals.toArray .normal=b.at { tmps:=vals.toArray++Array.replicate (fn.ntmps-vals.toArray.size) undef,defers:=[] } [.code c]:=by
   simp[Frame.enter,Frame.at,hf,hb,b]
 exact⟨.returned v,w',fr,⟨v,rfl,hP⟩,by rw[henter];exact hsteps,hfn,hleave⟩
theorem Rel.called (R:Rel S0 C0 w0 ρ D ⟨σ,h⟩ a w) (hchg:Chg No w w') (hv:RelV ρ (Sof S0 ρ h) w' D V v):Rel S0 C0 w0 ρ D ⟨put σ dst V,h⟩ (a.put dst v) w':=by
 have hb:=hchg.below
 have hk:Keep ρ (Sof S0 ρ h) w D ρ (Sof S0 ρ h) w':=
   ⟨hchg.size,fun l hl=>⟨rfl,fun arr ty h=>⟨arr,ty,by rw[hb.block _ (bN h)];exact h,Nat.le_refl _⟩⟩,fun k hk hs=>⟨hs,hb.block k hk⟩⟩
 refine R.step hk (fun _ h=>h) hv ?_ R.inj R.dlt (R.chg.trans hchg (fun _ _ h=>h.elim)) R.mine;intro l b hlb;obtain⟨hDl,hB⟩:=R.heap l b hlb;obtain⟨arr,h1,h2⟩:=hB;exact⟨hDl,RelB.keep ⟨arr,h1,h2⟩ (fun _ h=>h) hk rfl (hb.block _ (bN h1))⟩
theorem PM (x:RelCs ρ0 S w No cs vs):RelCs ρ S w D cs vs:=x.keep _ (fun _ h=>h.elim) ⟨Nat.le_refl _,fun l h=>h.elim,fun k _ hs=>⟨hs,rfl⟩⟩
theorem Rel.apart (R:Rel S0 C0 w0 ρ D ⟨σ,h⟩ a w) (hk:k<w0.heap.size) (hs:¬ S0 k) (hc:¬ C0 k):¬ Sof S0 ρ h k/\w.heap[k]? =w0.heap[k]? :=by
 refine⟨?_,R.chg.block k hk hc⟩;rintro(h1 | ⟨l,b,hb,e⟩)
 · exact hs h1
 · rcases(R.mine l b hb).1 with h2 | h2
   · exact hc (e▸h2)
   · omega
theorem Memo.now (R:Rel S0 C0 w0 ρ D ⟨σ,h⟩ a w) (M:Memo F n (fun k=>S0 k\/C0 k) w0 r) (hr:¬ C0 r):Memo F n (Sof S0 ρ h) w r:=by
 have hlt:r<w0.heap.size:=by obtain⟨es,clk,h1,_⟩:=M;exact fT h1
 exact M.keep R.chg.size (R.chg.block r hlt hr) fun k hk hs=>R.apart hk (fun h=>hs (.inl h)) (fun h=>hs (.inr h))
theorem Good.pick (n:Nat) (xs:List (Nat×AV)) (hn:σ.length=n) (he:xs.map (fun p=>σ.getD p.1 .any)=xs.map (·.2)) (hg:Good P f S0 C0 w0 Post todo ⟨slots n xs,h⟩):Good P f S0 C0 w0 Post todo ⟨σ,h⟩:=by
 refine Good.weak n xs hn ?_ hg;clear hg
 induction xs with
 | nil=>exact .nil
 | cons p xs ih=>
   simp only[List.map_cons,List.cons.injEq] at he;exact .cons (by rw[he.1];exact Ref.rfl') (ih he.2)
end
section
theorem Rel.stepS (R:Rel S0 C0 w0 ρ D st a w)
   (hk:Keep ρ (Sof S0 ρ st.h) w D ρ' (Sof S1 ρ' h') w') (hd:∀ l,D l->D' l)
   (hv:RelV ρ' (Sof S1 ρ' h') w' D' V v)
   (hh:∀ l b,h'[l]? =some (some b)->D' l/\RelB ρ' (Sof S1 ρ' h') w' D' l b)
   (hi:∀ l l' b b',h'[l]? =some (some b)->h'[l']? =some (some b')->ρ' l=ρ' l'->l=l')
   (hdl:∀ l,D' l->l<h'.length) (hlt:∀ k,S1 k->k<w'.heap.size) (hc:Chg C1 w1 w') (hm:∀ l b,h'[l]? =some (some b)->DY S1 C1 w1 b (ρ' l)):
   Rel S1 C1 w1 ρ' D' { σ:=put st.σ dst V,h:=h' } (a.put dst v) w' where
 defers:=by cases dst <;> exact R.defers
 len:=by cases dst <;> simp[put,Act.put,R.len]
 tmps:=by
   intro t u hu;cases dst with
   | none=>exact(R.tmps t u hu).keep hd hk
   | some d=>
     simp only[put,Act.put] at hu ⊢;rw[gZ]
     by_cases e:d=t
     · subst e
       have hlt:d<(a.tmps.setIfInBounds d v).size:=(Array.getElem?_eq_some_iff.1 hu).1;simp at hlt;rw[if_pos ⟨rfl,by rw[<- R.len];exact hlt⟩];simp[Array.getElem?_setIfInBounds,hlt] at hu;subst hu;exact hv
     · rw[if_neg (fun h=>e h.1)]
       simp[Array.getElem?_setIfInBounds,e] at hu;exact(R.tmps t u hu).keep hd hk
 heap:=hh
 inj:=hi
 lt:=hlt
 dlt:=hdl
 chg:=hc
 mine:=hm
theorem Rel.grow (R:Rel S0 C0 w0 ρ D ⟨σ,h⟩ a w) (hc:Chg X w w') (hX:∀ k,X k->S0 k) (h01:∀ k,S0 k->S1 k)
   (h1:∀ k,S1 k->S0 k\/w.heap.size<=k/\k<w'.heap.size) (hv:RelV ρ (Sof S1 ρ h) w' D V v):
   Rel S1 (qA ρ h) w' ρ D ⟨put σ dst V,h⟩ (a.put dst v) w':=by
 have hk:Keep ρ (Sof S0 ρ h) w D ρ (Sof S1 ρ h) w':=by
   refine⟨hc.size,fun l hl=>⟨rfl,hc.row _⟩,fun k hk hs=>⟨?_,hc.block k hk fun hx=>hs (.inl (hX k hx))⟩⟩;rintro(h2 | h2)
   · rcases h1 k h2 with h3 | h3
     · exact hs (.inl h3)
     · omega
   · exact hs (.inr h2)
 refine R.stepS hk (fun _ h=>h) hv ?_ R.inj R.dlt ?_ (Chg.refl _ _) ?_
 · intro l b hb
   obtain⟨h3,h4⟩:=R.heap l b hb;obtain⟨arr,h5,h6⟩:=h4;exact⟨h3,RelB.keep ⟨arr,h5,h6⟩ (fun _ h=>h) hk rfl (hc.block _ (fT h5) fun hx=>(R.mine l b hb).2.1 (hX _ hx))⟩
 · intro k hk'
   rcases h1 k hk' with h3 | h3
   · exact Nat.lt_of_lt_of_le (R.lt k h3) hc.size
   · exact h3.2
 · intro l b hb
   refine⟨.inl ⟨l,b,hb,rfl⟩,fun h3=> ?_,(R.mine l b hb).2.2⟩;rcases h1 _ h3 with h4 | h4
   · exact(R.mine l b hb).2.1 h4
   · obtain⟨_,arr,h5,_⟩:=R.heap l b hb
     have:=fT h5;omega
theorem Rel.shrink (R:Rel S0 C0 w0 ρ D st a w) (h:∀ k,S1 k->S0 k):Rel S1 C0 w0 ρ D st a w:=by
 have hk:Keep ρ (Sof S0 ρ st.h) w D ρ (Sof S1 ρ st.h) w:=⟨Nat.le_refl _,fun l hl=>⟨rfl,fun arr ty h=>⟨arr,ty,h,Nat.le_refl _⟩⟩,fun k hk hs=>⟨fun h1=>hs (h1.elim (fun h2=>.inl (h k h2)) .inr),rfl⟩⟩
 exact {
   defers:=R.defers
   len:=R.len
   tmps:=fun t v ht=>(R.tmps t v ht).keep (fun _ h=>h) hk
   heap:=fun l b hb=>⟨(R.heap l b hb).1,(R.heap l b hb).2.keep (fun _ h=>h) hk rfl rfl⟩
   inj:=R.inj
   lt:=fun k hk=>R.lt k (h k hk)
   dlt:=R.dlt
   chg:=R.chg
   mine:=fun l b hb=>⟨(R.mine l b hb).1,fun h1=>(R.mine l b hb).2.1 (h _ h1),(R.mine l b hb).2.2⟩ }
end
def iH (xs:List (Nat×AV)) (σ:List AV):List AV:=xs.foldl (fun σ p=>σ.set p.1 p.2) σ
theorem rO:∀ {xs:List (Nat×AV)} {σ:List AV} {t:Nat},(∀ p∈xs,p.1≠t)->(iH xs σ).getD t .any=σ.getD t .any
 | [],_,_,_=>rfl
 | p::xs,σ,t,h=>by
   show(iH xs (σ.set p.1 p.2)).getD t .any=_;rw[rO fun q hq=>h q (by simp[hq]),gZ,if_neg fun e=>h p (by simp) e.1]
theorem uN:∀ {xs:List (Nat×AV)} {σ:List AV} {d:Nat} {V:AV},(∀ p∈xs,p.1≠d)->iH xs (σ.set d V)=(iH xs σ).set d V
 | [],_,_,_,_=>rfl
 | p::xs,σ,d,V,h=>by
   show iH xs ((σ.set d V).set p.1 p.2)=(iH xs (σ.set p.1 p.2)).set d V;rw[<- uN fun q hq=>h q (by simp[hq]),List.set_comm _ _ fun e=>h p (by simp) e.symm]
theorem DE (h:∀ p∈xs,dst≠some p.1):iH xs (put σ dst V)=put (iH xs σ) dst V:=by
 cases dst with
 | none=>rfl
 | some d=>exact uN fun p hp e=>h p hp (by rw[e])
def clear (ops:Array Oper) (o:Oper) (ks:List Nat):Bool:=
 o.op.operands.toList.all (fun | .tmp t=> !ks.contains t | _=>true)&&ks.all (fun k=> !(o.dst==some k))&&
   (match o.guard with
     | none=>true
     | some (j,_)=>match (ops[j]?).bind (·.dst) with
       | some d=> !ks.contains d
       | none=>true)
section
theorem EJ {T:TT} {K:KT} {ops:Array Oper} {ks:List Nat} {xs:List (Nat×AV)} {i:Nat} {x:AOp} {σ:List AV} {h:List (Option ABlk)} {st1:St} {r:Rec} (hc:clear ops x.o ks=true) (hx:∀ p∈xs,p.1∈ks) (he:dQ T K ops i x ⟨σ,h⟩=some (st1,r)):
   dQ T K ops i x ⟨iH xs σ,h⟩=some (⟨iH xs st1.σ,st1.h⟩,r):=by
 unfold clear at hc;simp only[Bool.and_eq_true] at hc;obtain⟨⟨h1,h2⟩,h3⟩:=hc
 have hd:∀ p∈xs,x.o.dst≠some p.1:=fun p hp e=>by
   have:=List.all_eq_true.1 h2 p.1 (hx p hp);simp[e] at this
 have hw :pK ops (iH xs σ) x.o=pK ops σ x.o:=by
   unfold pK
   split at h3
   · rename_i hg;rw[hg]
   · rename_i j b hg
     rw[hg];cases hj:(ops[j]?).bind (·.dst) with
     | none=>simp only[hj]
     | some d=>
       simp only[hj] at h3 ⊢
       rw[rO fun p hp e=>by
         have:=hx p hp;rw[e] at this
         simp[this] at h3]
 have ha:kE (iH xs σ) x.o=kE σ x.o:=by
   unfold kE;refine List.map_congr_left fun q hq=> ?_
   have:=List.all_eq_true.1 h1 q hq;cases q with
   | tmp t=>
     simp only[bI]
     exact rO fun p hp e=>by
       have h4:=hx p hp;rw[e] at h4;simp[h4] at this
   | const v=>rfl
   | func f=>rfl
   | global g=>rfl
 unfold dQ mQ at he ⊢;simp only[hw,ha] at he ⊢
 split at he
 · split at he
   · injection he with he;simp only[Prod.mk.injEq] at he
     obtain⟨rfl,rfl⟩:=he;simp only[DE hd]
   · cases he
 · injection he with he;simp only[Prod.mk.injEq] at he
   obtain⟨rfl,rfl⟩:=he;simp only[DE hd]
 · cases he
theorem JG {T:TT} {K:KT} {ops:Array Oper} {i:Nat} {o:Oper} {x:AOp} {st st1:St} {r:Rec} {v:Value} (h:dQ T K ops i x st=some (st1,r)) (hx:x.o={ o with op:=.move (.const v) }):st1.h=st.h:=by
 unfold dQ at h
 split at h
 · split at h
   · rename_i out ho
     injection h with h;simp only[Prod.mk.injEq] at h;rw[<- h.1];unfold mQ kE at ho;rw[hx] at ho;simp only[Op.operands,List.map_cons,List.map_nil,fK,val] at ho;injection ho with ho;rw[<- ho];rfl
   · cases h
 · injection h with h;simp only[Prod.mk.injEq] at h
   rw[<- h.1]
 · cases h
theorem DF (σ:List AV) (dst:Option Nat) (V:AV):(put σ dst V).length=σ.length:=by cases dst <;> simp[put]
theorem BO {T:TT} {K:KT} {ops:Array Oper}:∀ {xs:List (Nat×AOp)} {st st':St} {rs:List Rec},jD T K ops xs st=some (st',rs)->st'.σ.length=st.σ.length
 | [],st,st',rs,h=>by simp only[jD] at h;injection h with h;simp only[Prod.mk.injEq] at h;rw[h.1]
 | (i,x)::xs,st,st',rs,h=>by
   obtain⟨st1,r,rs1,h1,h2,rfl⟩:=eS.1 h;obtain⟨V,hV⟩:=sY h1;rw[BO h2,hV,DF]
theorem Good.regionO {P:Program} {T:TT} {K:KT} {ops:Array Oper} {f:FuncId} {S0 C0:Nat->Prop} {w0:World} {Post:Value->World->Prop} (hm:P.follows .mixedOrders=true) (hT:lT P T) (hK:KOK P K) {id:Nat} {opsR:Array Oper} {draw:Bool} {ov:mW} {st st':St} {rs:List Rec} {todo:List Item} {γ:Type} (Xs ks:List Nat) (ovl:γ->List (Nat×AV)) (I:Array Bool->γ->Base->Prop) (args:Nat->List (Nat×AV))
   (he:lM T K ops draw ov st=some (st',rs)) (hO:∀ r∈rs,r.i ∉ Xs->AllP r.ob) (hsh:fG opsR.toList ops.toList) (hne:∀ i,i ∉ Xs->opsR[i]? =ops[i]?)
   (hks:∀ L g β,I L g β->∀ p∈ovl g,p.1∈ks) (hcl:∀ i o,i ∉ Xs->ops[i]? =some o->clear ops o ks=true)
   (hps:∀ i∈Xs,∃ oX,opsR[i]? =some oX/\oX.guard=none/\ops[i]? =some { oX with op:=.move (.const undef) })
   (hI:∀ listed i g β,i ∉ Xs->I listed g β->I (listed.setIfInBounds i true) g β)
   (hargs:∀ i∈Xs,∀ p∈args i,st'.σ.getD p.1 .any=p.2/\∀ (j:Nat) (o:Oper),ops[j]? =some o->o.dst=some p.1->∀ oX,ops[i]? =some oX->∃ e∈oX.after.toList,e.on=j/\Region.binds .any e=true)
   (hX:∀ i∈Xs,∀ (Q:Exit->Act->World->Prop) listed g β ρ D σ h a w V oX,opsR[i]? =some oX->I listed g β->listed.size=ops.size->listed.getD i false=false->(∀ e∈oX.after.toList,Region.binds .any e=true->listed.getD e.on false=true)->(∀ p∈args i,σ.getD p.1 .any=p.2)->σ.length=st'.σ.length->
     Rel β.S β.C β.w ρ D ⟨iH (ovl g) σ,h⟩ a w->wpOp P opsR Q i (fun a' w'=>∃ g' β',I (listed.setIfInBounds i true) g' β'/\Rel β'.S β'.C β'.w ρ D ⟨iH (ovl g') (put σ oX.dst V),h⟩ a' w') a w)
   (g0:γ) (hB:I (Array.replicate ops.size false) g0 ⟨S0,C0,w0⟩) (h0:ovl g0= [])
   (hgood:∀ listed g β,(∀ i,i<ops.size->listed.getD i false=true)->I listed g β->Good P f β.S β.C β.w Post todo ⟨iH (ovl g) st'.σ,st'.h⟩):Good P f S0 C0 w0 Post (.code (.region id opsR draw)::todo) st:=by
 intro ρ D a w R b cs hb hk
 have key:(Code.region id opsR draw).wp P (fun e a' w'=>e=Exit.normal/\∃ listed g β ρ' D',(∀ i,i<ops.size->listed.getD i false=true)/\I listed g β/\Rel β.S β.C β.w ρ' D' ⟨iH (ovl g) st'.σ,st'.h⟩ a' w') a w:=by
   refine DB (ρ:=ρ) hm (X:=fun p=>p∈eF 0 ops.toList ov st.h.length) (𝓡:=fun listed ρ D st a w=>∃ (g:γ) (β:Base),I listed g β/\Rel β.S β.C β.w ρ D ⟨iH (ovl g) st.σ,st.h⟩ a w) (O:=fun r=>r.i ∉ Xs->AllP r.ob) (T:=T) (K:=K) (ops:=ops)
     he hO hsh (fun p hp=>hp) R.dlt ?_ ?_ ?_
   · intro w' hw'
     refine⟨g0,⟨S0,C0,w0⟩,hB, ?_⟩;rw[h0];rcases hw' with rfl | rfl
     · exact R.more _
     · exact(R.more _).draw
   · rintro listed ρ' D' a' w' ⟨g,β,h1,h2⟩ hall
     exact⟨rfl,listed,g,β,ρ',D',hall,h1,h2⟩
   · rintro listed i x st2 st1 r a2 w2 ρ2 D2 ⟨g,β,hI2,R2⟩ hsz hi hun hed hox hfresh h1 hOr hxin hrest
     by_cases hiX:i∈Xs
     · obtain⟨oX,k1,k2,k3⟩:=hps i hiX
       have hxo:x.o={ oX with op:=.move (.const undef) }:=by rw[k3] at hox;injection hox with hox;exact hox.symm
       obtain⟨V,hV⟩:=sY h1;have hh:=JG h1 hxo
       have hst1:st1=⟨put st2.σ oX.dst V,st2.h⟩:=by
         cases st1;simp only at hV hh;rw[hV,hh,hxo]
       obtain⟨rest,rs1,hr1,hr2⟩:=hrest
       have hA:∀ p∈args i,st2.σ.getD p.1 .any=p.2:=by
         intro p hp;obtain⟨g1,g2⟩:=hargs i hiX p hp
         have hnot:∀ (j:Nat) (o:Oper),ops[j]? =some o->o.dst=some p.1->listed.getD j false=true:=by
           intro j o hj hd;obtain⟨e,e1,e2,e3⟩:=g2 j o hj hd _ k3
           have:=hed _ k3 e e1 e3
           rwa [e2] at this
         have q1:st'.σ.getD p.1 .any=st1.σ.getD p.1 .any:=sZ hr1 fun q hq hd=>by
           obtain⟨q1,q2,q3⟩:=hr2 q hq
           have:=hnot q.1 q.2.o q3 hd;rw[q2] at this;cases this
         have q2:oX.dst≠some p.1:=fun hd=>by
           have:=hnot i _ k3 hd;rw[hun] at this;cases this
         rw[<- g1,q1,hst1];exact(qS q2).symm
       refine wpOp_mono ?_ (hX i hiX _ listed g β ρ2 D2 st2.σ st2.h a2 w2 V oX k1 hI2 hsz hun (fun e he=>hed _ k3 e he) hA (by rw[BO hr1,hst1,DF]) R2);rintro a' w' ⟨g',β',b1,b2⟩;exact⟨ρ2,D2,⟨g',β',b1,by rw[hst1];exact b2⟩,fun l hl=>.inl hl⟩
     · have h1':=EJ (xs:=ovl g) (hcl i _ hiX hox) (hks _ _ _ hI2) h1
       refine BL hsh (hne i hiX) (wpOp_mono ?_ (qR hT hK R2 hox hfresh h1' (hOr ?_)))
       · rintro a' w' ⟨ρ',D',R',hD'⟩
         exact⟨ρ',D',⟨g,β,hI _ _ _ _ hiX hI2,R'⟩,hD'⟩
       · have:r.i=i:=by
           unfold dQ at h1
           split at h1
           · split at h1
             · injection h1 with h1;simp only[Prod.mk.injEq] at h1;rw[<- h1.2]
             · cases h1
           · injection h1 with h1;simp only[Prod.mk.injEq] at h1;rw[<- h1.2]
           · cases h1
         rw[this];exact hiX
 obtain⟨e,a',w',⟨rfl,listed,g,β,ρ',D',hall,hβ,R'⟩,harr⟩:=key b _ cs;obtain⟨v,w2,fr,h1,h2,h3⟩:=hgood listed g β hall hβ ρ' D' a' w' R' b cs hb hk;exact⟨v,w2,fr,h1,Steps.trans harr h2,h3⟩
end
def fQ:Nat->List Nat->List Oper->List Oper
 | _,_,[]=>[]
 | i,Xs,o::os=>(if Xs.contains i then CN o else o)::fQ (i+1) Xs os
theorem wX:∀ (os:List Oper) (i:Nat) (Xs:List Nat) (j:Nat),(fQ i Xs os)[j]? =(os[j]?).map fun o=>if Xs.contains (i+j) then CN o else o
 | [],i,Xs,j=>by simp[fQ]
 | o::os,i,Xs,0=>by simp[fQ]
 | o::os,i,Xs,j+1=>by
   simp only[fQ,List.getElem?_cons_succ];rw[wX os (i+1) Xs j,show i+1+j=i+(j+1) by omega]
theorem rP:∀ (os:List Oper) (i:Nat) (Xs:List Nat),fG os (fQ i Xs os)
 | [],_,_=>trivial
 | o::os,i,Xs=>by
   unfold fQ;refine⟨?_, ?_, ?_,rP os (i+1) Xs⟩ <;> split <;> rfl
def Ak (Xs:List Nat):List Rec->List Prop
 | []=>[]
 | r::rs=>(if Xs.contains r.i then [] else r.ob)++Ak Xs rs
theorem tR:∀ {rs:List Rec},AllP (Ak Xs rs)->∀ r∈rs,r.i ∉ Xs->AllP r.ob
 | r ::rs,h,q,hq,hn=>by
   rcases List.mem_cons.1 hq with rfl | hq
   · have:=(AllP.app h).1
     rwa [if_neg (by simpa using hn)] at this
   · exact tR (AllP.app h).2 q hq hn
 | [],_,_,hq,_=>by simp at hq
def Tc (os:List Oper) (Xs ks:List Nat) (ts:Nat->List Nat):Bool:=
 (List.range os.length).all fun i=>match os[i]? with
   | none=>false
   | some o=>if Xs.contains i then o.guard.isNone&&uM (fQ 0 Xs os) o (ts i) else clear (fQ 0 Xs os).toArray o ks
section
theorem Good.regXs (hm:P.follows .mixedOrders=true) (hT:lT P T) (hK:KOK P K) {γ:Type} (Xs ks:List Nat) (ts:Nat->List Nat) (ovl:γ->List (Nat×AV)) (I:Array Bool->γ->Base->Prop)
   (hc:c= .region (KM c) (aZ c) (uL c))
   (he:(lM T K (fQ 0 Xs (aZ c).toList).toArray (uL c) ov st).map (fun r=>(r.1.σ,r.1.h,Ak Xs r.2))=some (σ',h',ob)) (hob:AllP ob)
   (hok:Tc (aZ c).toList Xs ks ts=true) (hXl:Xs.all (fun i=>decide (i<(aZ c).size))=true)
   (hks:∀ L g β,I L g β->∀ p∈ovl g,p.1∈ks)
   (hI:∀ listed i g β,i ∉ Xs->I listed g β->I (listed.setIfInBounds i true) g β)
   (hX:∀ i∈Xs,∀ (Q:Exit->Act->World->Prop) listed g β ρ D σ h a w V oX,(aZ c)[i]? =some oX->oX.guard=none->I listed g β->listed.size=(aZ c).size->listed.getD i false=false->(∀ e∈oX.after.toList,Region.binds .any e=true->listed.getD e.on false=true)->(∀ t∈ts i,σ.getD t .any=σ'.getD t .any)->σ.length=σ'.length->
     Rel β.S β.C β.w ρ D ⟨iH (ovl g) σ,h⟩ a w->wpOp P (aZ c) Q i (fun a' w'=>∃ g' β',I (listed.setIfInBounds i true) g' β'/\Rel β'.S β'.C β'.w ρ D ⟨iH (ovl g') (put σ oX.dst V),h⟩ a' w') a w)
   (g0:γ) (hB:I (Array.replicate (aZ c).size false) g0 ⟨S0,C0,w0⟩) (h0:ovl g0= [])
   (hgood:∀ listed g β,(∀ i,i<(aZ c).size->listed.getD i false=true)->I listed g β->Good P f β.S β.C β.w Post todo ⟨iH (ovl g) σ',h'⟩):Good P f S0 C0 w0 Post (.code c::todo) st:=by
 obtain⟨⟨st',rs⟩,h1,h2⟩:=Option.map_eq_some_iff.1 he;simp only[Prod.mk.injEq] at h2;obtain⟨rfl,rfl,rfl⟩:=h2
 have hlen:∀ (os:List Oper) (i:Nat),(fQ i Xs os).length=os.length:=by
   intro os
   induction os with
   | nil=>intro i;rfl
   | cons o os ih=>intro i;simp[fQ,ih]
 have hsize:(fQ 0 Xs (aZ c).toList).toArray.size=(aZ c).size:=by simp[hlen]
 have hat:∀ (i:Nat) (o:Oper),(aZ c)[i]? =some o->(if Xs.contains i then o.guard.isNone&&uM (fQ 0 Xs (aZ c).toList) o (ts i) else clear (fQ 0 Xs (aZ c).toList).toArray o ks)=true:=by
   intro i o hi;have hlt:i<(aZ c).toList.length:=by simpa using (Array.getElem?_eq_some_iff.1 hi).1
   have:=List.all_eq_true.1 hok i (List.mem_range.2 hlt)
   rwa [Array.getElem?_toList,hi] at this
 have hget:∀ i,(fQ 0 Xs (aZ c).toList).toArray[i]? =((aZ c)[i]?).map fun o=>if Xs.contains i then CN o else o:=by
   intro i;rw[List.getElem?_toArray,wX,Nat.zero_add,Array.getElem?_toList]
 have hsome:∀ i∈Xs,∃ o,(aZ c)[i]? =some o:=by
   intro i hi
   have:=List.all_eq_true.1 hXl i hi;exact⟨_,Array.getElem?_eq_getElem (by simpa using this)⟩
 rw[hc];refine Good.regionO (ops:=(fQ 0 Xs (aZ c).toList).toArray) (γ:=γ) hm hT hK Xs ks ovl I (fun i=>(ts i).map fun t=>(t,st'.σ.getD t .any)) h1 (tR hob) (by simpa using rP (aZ c).toList 0 Xs) (fun i hi=> ?_) hks (fun i o hi ho=> ?_) (fun i hi=> ?_) hI (fun i hi p hp=> ?_) (fun i hi Q listed g β ρ D σ h a w V oX k1 k2 k3 k4 k5 k6 k8 k7=> ?_) g0 (by rw[hsize];exact hB) h0 (fun listed g β hl=>hgood listed g β (by rw[hsize] at hl;exact hl))
 · rw[hget,show Xs.contains i=false by simpa using hi]
   cases (aZ c)[i]? <;> rfl
 · rw[hget,show Xs.contains i=false by simpa using hi] at ho
   cases hr:(aZ c)[i]? with
   | none=>rw[hr] at ho;cases ho
   | some o'=>
     rw[hr] at ho;simp at ho;subst ho
     have:=hat i o' hr
     rwa [show Xs.contains i=false by simpa using hi] at this
 · obtain⟨o,ho⟩:=hsome i hi
   have h3:=hat i o ho;rw[show Xs.contains i=true by simpa using hi,if_pos rfl,Bool.and_eq_true] at h3;refine⟨o,ho,by simpa using h3.1, ?_⟩;rw[hget,ho];simp[hi,CN]
 · obtain⟨t,ht,rfl⟩:=List.mem_map.1 hp
   refine⟨rfl,fun j o hj hd oX hoX=> ?_⟩;obtain⟨o2,ho2⟩:=hsome i hi;have h3:=hat i o2 ho2;rw[show Xs.contains i=true by simpa using hi,if_pos rfl,Bool.and_eq_true] at h3;rw[hget,ho2] at hoX;simp[hi] at hoX
   have:=rN h3.2 t ht j o (by simpa using hj) hd;rw[<- hoX];exact this
 · have h3:=hat i oX k1
   rw[show Xs.contains i=true by simpa using hi,if_pos rfl,Bool.and_eq_true] at h3;exact hX i hi Q listed g β ρ D σ h a w V oX k1 (by simpa using h3.1) k2 (by rw[<- hsize];exact k3) k4 k5 (fun t ht=>k6 (t,st'.σ.getD t .any) (List.mem_map.2 ⟨t,ht,rfl⟩)) k8 k7
end
section
variable {P:Program} {ops:Array Oper} {Q Q':Exit->Act->World->Prop} {n:Nat} {ro:Option Nat}
end
section
variable {P:Program} {S0 C0:Nat->Prop} {w0:World} {ρ:Nat->Nat} {D:Nat->Prop} {st:St} {a:Act} {w:World} {T:TT} {K:KT} {n:Nat} {ro:Option Nat}
end
section
def nV (ρ:Nat->Nat):Nat->List (Option ABlk)->List (Option ABlk)
 | _,[]=>[]
 | i,x::xs=>x.map (fun b=>{ b with pin:=some (ρ i) })::nV ρ (i+1) xs
theorem jZ:∀ {bs:List (Option ABlk)} {i l:Nat} {b:ABlk},(nV ρ i bs)[l]? =some (some b)->∃ c,bs[l]? =some (some c)/\b={ c with pin:=some (ρ (i+l)) }
 | [],i,l,b,h=>by simp[nV] at h
 | c::bs,i,0,b,h=>by
   simp only[nV,List.getElem?_cons_zero] at h;injection h with h;cases c with
   | none=>cases h
   | some c'=>injection h with h;exact⟨c',rfl,h.symm⟩
 | c::bs,i,l+1,b,h=>by
   simp only[nV,List.getElem?_cons_succ] at h;obtain⟨c',h1,h2⟩:=jZ h;exact⟨c',by simpa using h1,by rw[h2,show i+(l+1)=i+1+l from by omega]⟩
theorem wY:∀ {bs:List (Option ABlk)} {i l:Nat} {c:ABlk},bs[l]? =some (some c)->(nV ρ i bs)[l]? =some (some { c with pin:=some (ρ (i+l)) })
 | [],i,l,c,h=>by simp at h
 | c::bs,i,0,c',h=>by simp at h;subst h;rfl
 | c::bs,i,l+1,c',h=>by
   simp only[nV,List.getElem?_cons_succ] at h ⊢;rw[wY h,show i+(l+1)=i+1+l from by omega]
theorem rQ:∀ {bs:List (Option ABlk)} {i:Nat},(nV ρ i bs).length=bs.length
 | [],_=>rfl
 | c::bs,i=>by simp[nV,rQ (bs:=bs)]
theorem zC:Sof S ρ (nV ρ 0 h)=Sof S ρ h:=by
 funext k;apply propext
 constructor
 · rintro(h | ⟨l,b,hb,e⟩)
   · exact .inl h
   · obtain⟨c,hc,_⟩:=jZ hb
     exact .inr ⟨l,c,hc,e⟩
 · rintro(h | ⟨l,b,hb,e⟩)
   · exact .inl h
   · exact .inr ⟨l,_,wY hb,e⟩
theorem Rel.pinned (R:Rel S0 C0 w0 ρ D ⟨σ,h⟩ a w):Rel S0 C0 w0 ρ D ⟨σ,nV ρ 0 h⟩ a w where
 defers:=R.defers
 len:=R.len
 tmps:=by simp only[zC];exact R.tmps
 heap:=fun l b hb=>by
   obtain⟨c,hc,rfl⟩:=jZ hb;rw[zC];exact R.heap l c hc
 inj:=fun l l' b b' hb hb' e=>by
   obtain⟨c,hc,_⟩:=jZ hb;obtain⟨c',hc',_⟩:=jZ hb';exact R.inj l l' c c' hc hc' e
 lt:=R.lt
 dlt:=fun l h=>by rw[rQ];exact R.dlt l h
 chg:=R.chg
 mine:=fun l b hb=>by
   obtain⟨c,hc,rfl⟩:=jZ hb;obtain⟨h1,h2,_⟩:=R.mine l c hc;exact⟨h1,h2,fun i hi=>by simp at hi;exact hi⟩
theorem Chg.put (hn:∀ (arr:Array Value) (ty:TypeId),w.heap[l]? ≠some (Obj.cells arr ty (0,0))):Chg (· =l) w (w.putObj l o) where
 os:=rfl
 tape:=rfl
 output:=rfl
 size:=by simp
 block:=fun k _ h=>World.putObj_heap_other h
 row:=fun k arr ty h=>⟨arr,ty,by rw[World.putObj_heap_other (fun e:k=l=>hn arr ty (by rw[<- e];exact h))];exact h,Nat.le_refl _⟩
theorem Chg.back (h:Chg (fun k=>C k\/k=l) a b) (hl:b.heap[l]? =a.heap[l]?):Chg C a b where
 os:=h.os
 tape:=h.tape
 output:=h.output
 size:=h.size
 block:=fun k hk hn=>by
   by_cases e:k=l
   · rw[e];exact hl
   · exact h.block k hk fun hc=>hc.elim hn e
 row:=h.row
def KeepN (ρ:Nat->Nat) (S:Nat->Prop) (w:World) (D:Nat->Prop) (ρ':Nat->Nat) (S':Nat->Prop) (w':World) (D':Nat->Prop):Prop:=
 ∀ (V:AV) (v:Value),cQ V=true->eC V=true->RelV ρ S w D V v->RelV ρ' S' w' D' V v
theorem KeepN.trans (h:KeepN ρ S w D ρ1 S1 w1 D1) (k:KeepN ρ1 S1 w1 D1 ρ2 S2 w2 D2):KeepN ρ S w D ρ2 S2 w2 D2:=
 fun V v h1 h2 h3=>k V v h1 h2 (h V v h1 h2 h3)
theorem KeepN.put (hS:S l):KeepN ρ S w D ρ S (w.putObj l o) D:=by
 intro V v h1 h2 h3;have hk:Keep ρ S w No ρ S (w.putObj l o):=⟨by simp,fun i hi=>hi.elim,fun k hk hs=>⟨hs,World.putObj_heap_other fun e=>hs (e▸hS)⟩⟩;exact RelV.of0 ((RelV0.noRef h3 h2 ρ).keep (fun _ h=>h.elim) hk)
end
end Go.Av
namespace Go.Av
open Go.Proofs Go.RowKit
section
variable {S:Nat->Prop} {w0:World} {XS XT XD XF:List (List AV)} {a:Int}
end
def PN:KF
 | []=>some (.agg [.q ((Int.cast 1:Rat)/(Int.cast 2:Rat)) 64],[])
 | _=>none
theorem Td:bO 211 PN:=by
 refine cJ Tryz.f211 fun _ _ _ S w0 h ho=> ?_
 unfold PN at h;split at h <;> cases h;have K:=kn.cons OB;exact rR K [] (.a4 (dc ((-9223372036854775808:Int)<=1)) (dc (1<=(9223372036854775807:Int))) (dc ((-9223372036854775808:Int)<=2)) (dc (2<=(9223372036854775807:Int))))
end Go.Av
namespace Go.Av
open Go.RowKit
theorem RefC.listW (hl:ys.length=xs.length) (h:∀ (i:Nat) (el el':List AV),xs[i]? =some el->ys[i]? =some el'->RefC el el'):RefC (.list e xs::cs) (.list e ys::cs):=fun ρ S w D vs x=>by
 cases x with
 | list f h1 h2 h3 h4 h5 h6=>
   rw[<- hl];refine .list f (by rw[hl];exact h1) h2 (fun i hi=>h3 i (by omega)) (fun i el hel=> ?_) (fun hp=> ?_) h6
   · have hi:i<xs.length:=by rw[<- hl];exact(List.getElem?_eq_some_iff.1 hel).1
     exact h i _ el (List.getElem?_eq_getElem hi) hel _ _ _ _ _ (h4 i _ (List.getElem?_eq_getElem hi))
   · obtain⟨ad,e1,e2,e3,e4⟩:=h5 (by omega)
     exact⟨ad,e1,e2,e3,fun i hi=>e4 i (by omega)⟩
theorem Ref.listW (hl:ys.length=xs.length) (h:∀ (i:Nat) (el el':List AV),xs[i]? =some el->ys[i]? =some el'->RefC el el'):Ref (.list e xs) (.list e ys):=fun ρ S w D v x=>bA (RefC.listW hl h _ _ _ _ _ x)
theorem Ref.list1 (h:RefC a b):Ref (.list e [a]) (.list e [b]):=Ref.listW rfl fun i el el' h1 h2=>by
 cases i with
 | zero=>simp at h1 h2;subst h1;subst h2;exact h
 | succ i=>simp at h1
theorem Ref.list2 (h:RefC a b) (k:RefC c d):Ref (.list e [a,c]) (.list e [b,d]):=Ref.listW rfl fun i el el' h1 h2=>by
 match i,h1,h2 with
 | 0,h1,h2=>simp at h1 h2;subst h1;subst h2;exact h
 | 1,h1,h2=>simp at h1 h2;subst h1;subst h2;exact k
 | i+2,h1,h2=>simp at h1
theorem Ref.listM {α:Type} {e:Nat} {f g:α->List AV} (l:List α) (h:∀ x∈l,RefC (f x) (g x)):Ref (.list e (l.map f)) (.list e (l.map g)):=Ref.listW (by simp) fun i el el' h1 h2=>by
 rw[List.getElem?_map] at h1 h2;obtain⟨x,hx,rfl⟩:=Option.map_eq_some_iff.1 h1;rw[hx] at h2;injection h2 with h2;subst h2;exact h x (List.mem_of_getElem? hx)
theorem RefC.listM {α:Type} {e:Nat} {f g:α->List AV} {cs:List AV} (l:List α) (h:∀ x∈l,RefC (f x) (g x)):RefC (.list e (l.map f)::cs) (.list e (l.map g)::cs):=RefC.listW (by simp) fun i el el' h1 h2=>by
 rw[List.getElem?_map] at h1 h2;obtain⟨x,hx,rfl⟩:=Option.map_eq_some_iff.1 h1;rw[hx] at h2;injection h2 with h2;subst h2;exact h x (List.mem_of_getElem? hx)
theorem GP {x:Rat}:Int.sign x.num= -1↔x<0:=by
 have h:x<0↔x.num<0:=by rw[Rat.lt_iff];simp
 rw[h];exact Int.sign_eq_neg_one_iff_neg
theorem gG {x:Rat}:Int.sign x.num=0↔x=0:=⟨fun h=>Rat.num_eq_zero.1 (Int.sign_eq_zero_iff_zero.1 h),fun h=>by rw[h];rfl⟩
theorem GQ {x:Rat}:0<Int.sign x.num↔0<x:=by
 have h:0<x↔0<x.num:=by rw[Rat.lt_iff];simp
 rw[h];rcases Int.lt_trichotomy x.num 0 with k | k | k
 · rw[Int.sign_eq_neg_one_of_neg k];omega
 · rw[k];decide
 · rw[Int.sign_eq_one_of_pos k];omega
end Go.Av
namespace Go.Av
open Go.Proofs Go.RowKit
def PO:KF
 | [.agg [.q x B],.agg [.q y C]]=>some (.agg [.q (x/y) (B+C+2)],[B+C+200<=LIM,y≠0])
 | _=>none
theorem JH:bO 116 PO:=by
 refine cJ Tryz.f116 fun _ _ _ S w0 h ho=> ?_
 unfold PO at h;split at h <;> cases h;rename_i x B y C;obtain⟨o1,o2⟩:=ho.e2;have L:=dH;have K:=(((kn.cons Gi).cons FU).cons CG).cons Ac;refine rF K [] (.a6 (om (max C 64+1<=LIM)) (om (B+(C+1)+128<=LIM)) (om (max B 64+1<=LIM)) (om ((B+1)+C+128<=LIM)) (show 0<(x.den*y.num.natAbs) by exact Nat.mul_pos x.den_pos (Int.natAbs_pos.2 fun h=>o2 (Rat.num_eq_zero.1 h))) (om (max (B+(C+1)) ((B+1)+C)+128<=LIM))) (V:=.agg [.q (mkRat (iM (!((decide (x.num<0))==(decide (y.num<0)))) (x.num.natAbs*y.den)) (x.den*y.num.natAbs)) (max (B+(C+1)) ((B+1)+C))]) ?_
 refine Ref.q1 ?_ (by omega);rw[uG,Fx x y o2]
def PP:KF
 | [.agg [.z n B]]=>some (.agg [.q (n:Rat) B],[])
 | _=>none
theorem Mk:bO 108 PP:=by
 refine cJ Tryz.f108 fun _ _ _ S w0 h ho=> ?_
 unfold PP at h;split at h <;> cases h;rename_i n B;exact rF .nil [] .nil (V:=.agg [.z n B,.nat 0 0]) (Ref.agg (RefC.mkq (rl _) (Nat.zero_le _) rfl rfl))
def UI:KF
 | [.int .i64 n]=>some (.agg [.q (n:Rat) 64],[(-9223372036854775808:Int)<=n,n<=(9223372036854775807:Int)])
 | _=>none
theorem KN:bO 25 UI:=by
 refine cJ Tryz.f25 fun _ _ _ S w0 h ho=> ?_
 unfold UI at h;split at h <;> cases h;rename_i n;obtain⟨o1,o2⟩:=ho.e2;have K:=((kn.cons Oz).cons Ac).cons Mk;exact rF K [] (.a2 o1 o2) (V:=.agg [.q ((iM (decide (n<(0:Int))) n.natAbs):Rat) 64]) (Ref.q1 (congrArg _ (vX n)) (rl _))
theorem EK (t:Rat):0<=t*t:=by
 rcases Rat.nonneg_total t with h | h
 · exact Rat.mul_nonneg h h
 · have:=Rat.mul_nonneg h h
   rwa [Rat.neg_mul,Rat.mul_neg,Rat.neg_neg] at this
theorem nW (t:Rat):(1:Rat)+t*t≠0:=by
 have:=EK t
 grind
def UJ:KF
 | [.agg [.q t B]]=>some (.agg [.q ((1-t*t)/(1+t*t)) (4*B+200),.q ((t+t)/(1+t*t)) (4*B+200)],[4*B+800<=LIM])
 | _=>none
theorem UK:bO 38 UJ:=by
 refine cJ Tryz.f38 fun _ _ _ S w0 h ho=> ?_
 unfold UJ at h;split at h <;> cases h;rename_i t B;have o1:=ho.one;have L:=dH;have K:=((((kn.cons JH).cons EZ).cons KL).cons Fb).cons KN;have v0:((1:Rat)+(t*t))≠0:=by exact nW t
 have v1:(-9223372036854775808:Int)<=1:=by decide
 have v2:1<=(9223372036854775807:Int):=by decide
 have v3:64+(B+B+2)+200<=LIM:=by omega
 exact rV K [] (.c6 (om (B+B+200<=LIM)) v1 v2 v3 v1 v2 (.c6 v3 (om ((64+(B+B+2)+2)+(64+(B+B+2)+2)+200<=LIM)) v0 (om (B+B+200<=LIM)) (om ((B+B+2)+(64+(B+B+2)+2)+200<=LIM)) v0 (.a2 (om ((64+(B+B+2)+2)+(64+(B+B+2)+2)+2<=4*B+200)) (om ((B+B+2)+(64+(B+B+2)+2)+2<=4*B+200)))))
def cY (t:Rat):Rat:=(1-t*t)/(1+t*t)
def bU (t:Rat):Rat:=(t+t)/(1+t*t)
def wZ (f:FrameD) (v:BodyD) (t:Rat):FrameD:=
 ⟨⟨f.at_.x+(f.c*v.at_.x-f.s*v.at_.z),f.at_.z+(f.s*v.at_.x+f.c*v.at_.z)⟩,f.c*cY t-f.s*bU t,f.s*cY t+f.c*bU t⟩
def EL (m:MachD) (p:PoseD):Nat->Nat->FrameD
 | 0,_=>⟨p.at_,cY p.turn,bU p.turn⟩
 | n+1,i=>if i=0 then ⟨p.at_,cY p.turn,bU p.turn⟩ else wZ (EL m p n (m.bodies.getD i default).par.toNat) (m.bodies.getD i default) (p.joints.getD (i-1) default)
def fr (m:MachD) (p:PoseD) (i:Nat):FrameD:=EL m p i i
def MachD.tree (m:MachD):Prop:=∀ i,0<i->i<m.bodies.length->0<=(m.bodies.getD i default).par/\(m.bodies.getD i default).par<((i:Nat):Int)
theorem Ml {m:MachD} {p:PoseD} (ht:m.tree):∀ (i n:Nat),i<m.bodies.length->i<=n->EL m p n i=EL m p i i:=by
 intro i
 induction i using Nat.strongRecOn with
 | _ i ih=>
   intro n hi hn;cases n with
   | zero => have:i=0:=by omega
             subst this;rfl
   | succ n=>
     cases i with
     | zero=>simp[EL]
     | succ i=>
       obtain⟨h1,h2⟩:=ht (i+1) (by omega) hi;have hj:(m.bodies.getD (i+1) default).par.toNat<i+1:=by omega
       rw[EL,EL,ih _ hj n (by omega) (by omega),ih _ hj i (by omega) (by omega)]
theorem uO {m:MachD} {p:PoseD} (ht:m.tree) {i:Nat} (h0:0<i) (hi:i<m.bodies.length):
   fr m p i=wZ (fr m p (m.bodies.getD i default).par.toNat) (m.bodies.getD i default) (p.joints.getD (i-1) default):=by
 obtain⟨h1,h2⟩:=ht i h0 hi;have hj:(m.bodies.getD i default).par.toNat<i:=by omega
 unfold fr;obtain⟨n,rfl⟩:∃ n,i=n+1:=⟨i-1,by omega⟩;rw[EL,if_neg (by omega),Ml ht _ n (by omega) (by omega)]
def rz (jb i:Nat):Nat:=(2*jb+610)*(i+1)+jb
def SZ (jb:Nat):Nat:=17*jb+4880
theorem JI {jb i j:Nat} (h:i<=j):rz jb i<=rz jb j:=by
 have:=Nat.mul_le_mul_left (2*jb+610) (om (i+1<=j+1));unfold rz;omega
theorem rz_le {jb i:Nat} (h:i<=7):rz jb i<=SZ jb:=Nat.le_trans (JI h) (by simp only[rz,SZ];omega)
theorem PQ (jb i:Nat):jb<=rz jb i:=by unfold rz;omega
def lO (jb:Nat) (m:MachD) (p:PoseD) (i:Nat):List AV:=iG (rz jb i) (fr m p i)
theorem DG (x:Rat):0<=x*x:=by
 rcases Rat.le_total (a:=0) (b:=x) with h | h
 · exact Rat.mul_nonneg h h
 · have:=Rat.mul_nonneg (show 0<= -x by grind) (show 0<= -x by grind);grind
def QB (B:Nat) (x:Rat):Prop:=x.num.natAbs<2^B/\x.den-1<2^B
def Wh (N:Nat) (x:Rat):Prop:=∃ k:Int,x*((N:Int):Rat)=(k:Rat)
theorem Wh.of (x:Rat):Wh x.den x:=⟨x.num,by
 have h:x=(x.num:Rat)/((x.den:Int):Rat):=by rw[<- Rat.divInt_eq_div,Rat.num_divInt_den]
 have h0:((x.den:Int):Rat)≠0:=fun h=>by
   have:=Rat.intCast_eq_zero_iff.1 h
   have:=x.den_nz;omega
 grind⟩
theorem Wh.add {N:Nat} {x y:Rat}:Wh N x->Wh N y->Wh N (x+y):=fun⟨k,h⟩ ⟨l,e⟩=>⟨k+l,by rw[Rat.add_mul,h,e,Rat.intCast_add]⟩
theorem Wh.sub {N:Nat} {x y:Rat}:Wh N x->Wh N y->Wh N (x-y):=fun⟨k,h⟩ ⟨l,e⟩=>⟨k-l,by rw[Rat.intCast_sub, <- h, <- e];grind⟩
theorem Wh.mul {N M:Nat} {x y:Rat}:Wh N x->Wh M y->Wh (N*M) (x*y):=fun⟨k,h⟩ ⟨l,e⟩=>⟨k*l,by rw[Int.natCast_mul,Rat.intCast_mul,Rat.intCast_mul, <- h, <- e];grind⟩
theorem Wh.up {N:Nat} (M:Nat) {x:Rat}:Wh N x->Wh (N*M) x:=fun⟨k,h⟩=>⟨k*(M:Int),by rw[Int.natCast_mul,Rat.intCast_mul,Rat.intCast_mul, <- h];grind⟩
theorem Wh.den {N:Nat} {x:Rat} (h0:0<N):Wh N x->x.den<=N:=fun⟨k,h⟩=>by
 have hn:((N:Int):Rat)≠0:=fun h=>by have:=Rat.intCast_eq_zero_iff.1 h;omega
 have e:x=Rat.divInt k N:=by rw[Rat.divInt_eq_div];grind
 rw[e,Rat.den_divInt,if_neg (by omega)];exact Nat.le_trans (Nat.div_le_self _ _) (by simp)
theorem QB.of {N K B:Nat} {x:Rat} (h0:0<N) (hw:Wh N x) (h1: -((K:Int):Rat)<=x) (h2:x<=((K:Int):Rat)) (hB:K*N<2^B) (hN:N<=2^B):QB B x:=by
 have hd:=hw.den h0;obtain⟨k,hk⟩:=Wh.of x;refine⟨?_,by have:=x.den_pos;omega⟩
 have e:x*((x.den:Int):Rat)=(x.num:Rat):=by
   have h:x=(x.num:Rat)/((x.den:Int):Rat):=by rw[<- Rat.divInt_eq_div,Rat.num_divInt_den]
   have h0:((x.den:Int):Rat)≠0:=fun h=>by
     have:=Rat.intCast_eq_zero_iff.1 h
     have:=x.den_nz;omega
   grind
 have hd0:(0:Rat)<=((x.den:Int):Rat):=by
   have:((0:Int):Rat)<=((x.den:Int):Rat):=Rat.intCast_le_intCast.2 (by omega);exact this
 have u1:((x.num:Int):Rat)<=(((K:Int)*(x.den:Int):Int):Rat):=by
   rw[Rat.intCast_mul, <- e];exact Rat.mul_le_mul_of_nonneg_right h2 hd0
 have u2:((-((K:Int)*(x.den:Int)):Int):Rat)<=((x.num:Int):Rat):=by
   rw[Rat.intCast_neg,Rat.intCast_mul, <- e, <- Rat.neg_mul];exact Rat.mul_le_mul_of_nonneg_right h1 hd0
 have v1:=Rat.intCast_le_intCast.1 u1;have v2:=Rat.intCast_le_intCast.1 u2
 have v3:(K:Int)*(x.den:Int)<=((K*N:Nat):Int):=by
   rw[Int.natCast_mul];exact Int.mul_le_mul_of_nonneg_left (by omega) (by omega)
 omega
theorem pC {c s:Rat} (h:c*c+s*s=1): -1<=c/\c<=1:=by
 have h2:=DG s;refine⟨Rat.not_lt.1 fun h1=> ?_,Rat.not_lt.1 fun h1=> ?_⟩
 · have:=Rat.mul_pos (show 0< -1-c by grind) (show 0<1-c by grind);grind
 · have:=Rat.mul_pos (show 0<c-1 by grind) (show 0<c+1 by grind);grind
theorem iY {a b:Nat} (h:a<=b):2^a<=2^b:=Nat.pow_le_pow_right (by decide) h
theorem GR {a b c k x y z:Nat} (hk:k=a+b+c) (h1:x<=2^a) (h2:y<=2^b) (h3:z<=2^c):x*(y*z)<=2^k:=by
 subst hk;rw[Nat.pow_add,Nat.pow_add,Nat.mul_assoc];exact Nat.mul_le_mul h1 (Nat.mul_le_mul h2 h3)
theorem zE {c s:Rat} (h:c*c+s*s=1):s*s+c*c=1:=by rw[Rat.add_comm];exact h
theorem GS {c s C S:Rat} (h:c*c+s*s=1) (k:C*C+S*S=1):(c*C-s*S)*(c*C-s*S)+(s*C+c*S)*(s*C+c*S)=1:=by grind
theorem Al {B:Nat} {x:Rat} (h:x.num.natAbs<2^B/\x.den-1<2^B):x.den<=2^B:=by omega
theorem JJ {i a b:Nat} (h:a<=b):(2*i+1)*b+(a+a)<=(2*(i+1)+1)*b:=by
 simp only[Nat.add_mul,Nat.mul_add];omega
def Ab (K:Nat) (x:Rat):Prop:= -((K:Int):Rat)<=x/\x<=((K:Int):Rat)
theorem Ab.mul1 {K:Nat} {c a:Rat} (h: -1<=c/\c<=1) (k:Ab K a):Ab K (c*a):=by
 obtain⟨h1,h2⟩:=h;obtain⟨k1,k2⟩:=k;unfold Ab;generalize ((K:Int):Rat)=K at*;have q1:=Rat.mul_nonneg (show 0<=1-c by grind) (show 0<=K+a by grind);have q2:=Rat.mul_nonneg (show 0<=1+c by grind) (show 0<=K-a by grind);have q3:=Rat.mul_nonneg (show 0<=1-c by grind) (show 0<=K-a by grind);have q4:=Rat.mul_nonneg (show 0<=1+c by grind) (show 0<=K+a by grind);constructor <;> grind
theorem Ab.add {K L:Nat} {x y:Rat} (h:Ab K x) (k:Ab L y):Ab (K+L) (x+y):=by
 unfold Ab at*;rw[Int.natCast_add,Rat.intCast_add];grind
theorem Ab.sub {K L:Nat} {x y:Rat} (h:Ab K x) (k:Ab L y):Ab (K+L) (x-y):=by
 unfold Ab at*;rw[Int.natCast_add,Rat.intCast_add];grind
theorem Ab.le {K L:Nat} {x:Rat} (h:Ab K x) (k:K<=L):Ab L x:=by
 have:((K:Int):Rat)<=((L:Int):Rat):=Rat.intCast_le_intCast.2 (by omega);unfold Ab at*;grind
theorem QB.ab {B:Nat} {x:Rat} (h:QB B x):Ab (2^B) x:=by
 have e:x*((x.den:Int):Rat)=(x.num:Rat):=by
   have h:x=(x.num:Rat)/((x.den:Int):Rat):=by rw[<- Rat.divInt_eq_div,Rat.num_divInt_den]
   have h0:((x.den:Int):Rat)≠0:=fun h=>by
     have:=Rat.intCast_eq_zero_iff.1 h
     have:=x.den_nz;omega
   grind
 have hd:(1:Rat)<=((x.den:Int):Rat):=by
   have:=x.den_pos;have:((1:Int):Rat)<=((x.den:Int):Rat):=Rat.intCast_le_intCast.2 (by omega);exact this
 obtain⟨h1,_⟩:=h;have u1:(x.num:Rat)<=(((2^B:Nat):Int):Rat):=Rat.intCast_le_intCast.2 (by omega);have u2: -(((2^B:Nat):Int):Rat)<=(x.num:Rat):=by rw[<- Rat.intCast_neg];exact Rat.intCast_le_intCast.2 (by omega)
 have u3:(0:Rat)<=(((2^B:Nat):Int):Rat):=by
   have:((0:Int):Rat)<=(((2^B:Nat):Int):Rat):=Rat.intCast_le_intCast.2 (by omega);exact this
 unfold Ab;generalize (((2^B:Nat):Int):Rat)=K at*;generalize ((x.den:Int):Rat)=d at*;refine⟨Rat.not_lt.1 fun h=> ?_,Rat.not_lt.1 fun h=> ?_⟩
 · have:=Rat.mul_nonneg (show 0<=d-1 by grind) (show 0<= -K-x by grind)
   have:=Rat.mul_nonneg (show 0<=d-1 by grind) u3
   grind
 · have:=Rat.mul_nonneg (show 0<=d-1 by grind) (show 0<=x-K by grind)
   have:=Rat.mul_nonneg (show 0<=d-1 by grind) u3
   grind
theorem DH {B:Nat} {t:Rat} (h:QB B t):∃ D:Nat,0<D/\D<=2^(2*B+1)/\Wh D (cY t)/\Wh D (bU t)/\cY t*cY t+bU t*bU t=1:=by
 have h1:=nW t;refine⟨t.num.natAbs*t.num.natAbs+t.den*t.den, ?_, ?_, ?_⟩
 · have:=Nat.mul_pos t.den_pos t.den_pos;omega
 · obtain⟨a,b⟩:=h
   have e:2^(2*B+1)=2^B*2^B+2^B*2^B:=by rw[Nat.pow_succ,show 2*B=B+B by omega,Nat.pow_add];omega
   have:=Nat.mul_le_mul (Nat.le_of_lt a) (Nat.le_of_lt a);have h2:t.den<=2^B:=by omega
   have:=Nat.mul_le_mul h2 h2;omega
 · have ec:(((t.num.natAbs*t.num.natAbs+t.den*t.den:Nat):Int):Rat)=(t.num:Rat)*(t.num:Rat)+((t.den:Int):Rat)*((t.den:Int):Rat):=by
     rw[Int.natCast_add,Int.natAbs_mul_self,Int.natCast_mul,Rat.intCast_add,Rat.intCast_mul,Rat.intCast_mul]
   have h:t=(t.num:Rat)/((t.den:Int):Rat):=by rw[<- Rat.divInt_eq_div,Rat.num_divInt_den]
   have h0:((t.den:Int):Rat)≠0:=fun h=>by
     have:=Rat.intCast_eq_zero_iff.1 h
     have:=t.den_nz;omega
   refine⟨⟨t.den*t.den-t.num*t.num, ?_⟩,⟨t.num*t.den+t.num*t.den, ?_⟩, ?_⟩
   · rw[ec,Rat.intCast_sub,Rat.intCast_mul,Rat.intCast_mul];unfold cY;grind
   · rw[ec,Rat.intCast_add,Rat.intCast_mul];unfold bU;grind
   · unfold cY bU;grind
def FB (jb i:Nat) (f:FrameD):Prop:=∃ D N:Nat,0<D/\0<N/\D<=2^((2*jb+1)*(i+1))/\N<=2^(2*jb+600*i)/\Wh D f.c/\Wh D f.s/\f.c*f.c+f.s*f.s=1/\
 Wh (D*N) f.at_.x/\Wh (D*N) f.at_.z/\Ab ((2*i+1)*2^(jb+300)) f.at_.x/\Ab ((2*i+1)*2^(jb+300)) f.at_.z
theorem FB.mono {jb i j:Nat} {f:FrameD} (h:FB jb i f) (k:i<=j):FB jb j f:=by
 obtain⟨D,N,d0,n0,h1,h2,h3,h4,h5,h6,h7,h8,h9⟩:=h;have e:(2*i+1)*2^(jb+300)<=(2*j+1)*2^(jb+300):=Nat.mul_le_mul_right _ (by omega);exact⟨D,N,d0,n0,Nat.le_trans h1 (iY (Nat.mul_le_mul_left _ (by omega))),Nat.le_trans h2 (iY (by omega)),h3,h4,h5,h6,h7,h8.le e,h9.le e⟩
theorem FB.zero {jb:Nat} {p:PtD} {t:Rat} (hx:QB jb p.x) (hz:QB jb p.z) (ht:QB jb t):FB jb 0 ⟨p,cY t,bU t⟩:=by
 obtain⟨D,d0,d1,w1,w2,w3⟩:=DH ht;have e:2^jb<=(2*0+1)*2^(jb+300):=by rw[Nat.mul_zero,Nat.zero_add,Nat.one_mul];exact iY (by omega)
 have c:∀ N:Nat,D*N=N*D:=fun N=>Nat.mul_comm ..
 refine⟨D,p.x.den*p.z.den,d0,Nat.mul_pos p.x.den_pos p.z.den_pos,Nat.le_trans d1 (iY (by omega)), ?_,w1,w2,w3, ?_, ?_,hx.ab.le e,hz.ab.le e⟩
 · rw[Nat.mul_zero,Nat.add_zero,show 2*jb=jb+jb by omega,Nat.pow_add]
   exact Nat.mul_le_mul (Al hx) (Al hz)
 · rw[c,Nat.mul_assoc];exact(Wh.of p.x).up _
 · rw[c,Nat.mul_comm p.x.den,Nat.mul_assoc];exact(Wh.of p.z).up _
theorem FB.step {jb i:Nat} {f:FrameD} {v:BodyD} {t:Rat} (h:FB jb i f) (hx:QB 300 v.at_.x) (hz:QB 300 v.at_.z) (ht:QB jb t):FB jb (i+1) (wZ f v t):=by
 obtain⟨D,N,d0,n0,h1,h2,h3,h4,h5,h6,h7,h8,h9⟩:=h;obtain⟨E,e0,e1,w1,w2,w3⟩:=DH ht;have hs:=zE h5;have e:=JJ (i:=i) (iY (om (300<=jb+300)));have p1:Wh (D*N*(v.at_.x.den*v.at_.z.den)*E) f.at_.x:=(h6.up _).up _;have p2:Wh (D*N*(v.at_.x.den*v.at_.z.den)*E) f.at_.z:=(h7.up _).up _
 have q:∀ {c:Rat},Wh D c->Wh (D*N*(v.at_.x.den*v.at_.z.den)*E) (c*v.at_.x)/\Wh (D*N*(v.at_.x.den*v.at_.z.den)*E) (c*v.at_.z):=fun hc=>by
   constructor
   · have:=(((hc.mul (Wh.of v.at_.x)).up N).up v.at_.z.den).up E
     rwa [show D*v.at_.x.den*N*v.at_.z.den*E=D*N*(v.at_.x.den*v.at_.z.den)*E by simp only[Nat.mul_left_comm,Nat.mul_comm]] at this
   · have:=(((hc.mul (Wh.of v.at_.z)).up N).up v.at_.x.den).up E
     rwa [show D*v.at_.z.den*N*v.at_.x.den*E=D*N*(v.at_.x.den*v.at_.z.den)*E by simp only[Nat.mul_left_comm,Nat.mul_comm]] at this
 have r:D*N*(v.at_.x.den*v.at_.z.den)*E=D*E*(N*(v.at_.x.den*v.at_.z.den)):=by simp only[Nat.mul_left_comm,Nat.mul_comm]
 rw[r] at p1 p2 q
 refine⟨D*E,N*(v.at_.x.den*v.at_.z.den),Nat.mul_pos d0 e0,Nat.mul_pos n0 (Nat.mul_pos v.at_.x.den_pos v.at_.z.den_pos), ?_, ?_,(h3.mul w1).sub (h4.mul w2),(h4.mul w1).add (h3.mul w2), ?_,
   p1.add ((q h3).1.sub (q h4).2),p2.add ((q h4).1.add (q h3).2), ?_, ?_⟩
 · rw[Nat.mul_add,Nat.mul_one,Nat.pow_add];exact Nat.mul_le_mul h1 e1
 · exact GR (by omega) h2 (Al hx) (Al hz)
 · exact GS h5 w3
 · exact(h8.add ((hx.ab.mul1 (pC h5)).sub (hz.ab.mul1 (pC hs)))).le e
 · exact(h9.add ((hx.ab.mul1 (pC hs)).add (hz.ab.mul1 (pC h5)))).le e
theorem EM {x y A B k:Nat} (h:x<2^k) (h2:y<=2^A):x*2^B*y<2^(A+B+k):=by
 rw[Nat.pow_add,Nat.pow_add];have h3:x*2^B*y<=x*2^B*2^A:=Nat.mul_le_mul_left _ h2;have h4:x*(2^B*2^A)<2^k*(2^B*2^A):=Nat.mul_lt_mul_of_pos_right h (Nat.mul_pos (Nat.two_pow_pos _) (Nat.two_pow_pos _));rw[Nat.mul_assoc x (2^B) (2^A)] at h3;refine Nat.lt_of_le_of_lt h3 (Nat.lt_of_lt_of_le h4 (Nat.le_of_eq ?_));rw[Nat.mul_comm,Nat.mul_comm (2^B)]
theorem FB.qb {jb i:Nat} {f:FrameD} (h:FB jb i f) (hi:i<=7):QB (2*rz jb i) f.at_.x/\QB (2*rz jb i) f.at_.z/\QB (rz jb i) f.c/\QB (rz jb i) f.s:=by
 obtain⟨D,N,d0,n0,h1,h2,h3,h4,h5,h6,h7,h8,h9⟩:=h;have hs:=zE h5
 have e1:(2*jb+1)*(i+1)+1<=rz jb i:=by
   unfold rz;simp only[Nat.add_mul,Nat.mul_add,Nat.mul_one];omega
 have e2:(2*jb+1)*(i+1)+(2*jb+600*i)+(jb+300)+4<=2*rz jb i:=by
   unfold rz;simp only[Nat.add_mul,Nat.mul_add,Nat.mul_one];omega
 have hD:D*1<2^rz jb i:=by
   have:=iY e1;rw[Nat.pow_succ] at this
   have:=Nat.two_pow_pos ((2*jb+1)*(i+1));omega
 have hDN:D*N<=2^((2*jb+1)*(i+1)+(2*jb+600*i)):=by rw[Nat.pow_add];exact Nat.mul_le_mul h1 h2
 have hK:(2*i+1)*2^(jb+300)*(D*N)<2^(2*rz jb i):=by
   exact Nat.lt_of_lt_of_le (EM (om (2*i+1<2^4)) hDN) (iY e2)
 have hN:D*N<=2^(2*rz jb i):=Nat.le_trans hDN (iY (by omega));have u:=pC h5;have w:=pC hs;have m0:=Nat.mul_pos d0 n0;exact⟨.of m0 h6 h8.1 h8.2 hK hN,.of m0 h7 h9.1 h9.2 hK hN,.of (K:=1) d0 h3 u.1 u.2 (by omega) (by omega),.of (K:=1) d0 h4 w.1 w.2 (by omega) (by omega)⟩
def Cj (jb:Nat) (m:MachD) (p:PoseD):Prop:=QB jb p.at_.x/\QB jb p.at_.z/\QB jb p.turn/\(∀ i,i<p.joints.length->QB jb (p.joints.getD i default))/\(∀ i,i<m.bodies.length->QB 300 (m.bodies.getD i default).at_.x/\QB 300 (m.bodies.getD i default).at_.z)
theorem PR {jb:Nat} {m:MachD} {p:PoseD} (hB:Cj jb m p) (ht:m.tree) (hj:m.bodies.length<=p.joints.length+1):∀ i,i<m.bodies.length->FB jb i (fr m p i):=by
 obtain⟨b1,b2,b3,b4,b5⟩:=hB;intro i
 induction i using Nat.strongRecOn with
 | _ i ih=>
   intro hi;rcases Nat.eq_zero_or_pos i with rfl | h0
   · exact FB.zero b1 b2 b3
   · obtain⟨h1,h2⟩:=ht i h0 hi
     rw[uO ht h0 hi];obtain⟨k,rfl⟩:∃ k,i=k+1:=⟨i-1,by omega⟩;obtain⟨c1,c2⟩:=b5 (k+1) hi;exact((ih _ (by omega) (by omega)).mono (by omega)).step c1 c2 (b4 k (by omega))
def FQ (e:Nat) (f:FrameD):Prop:=QB (2*e) f.at_.x/\QB (2*e) f.at_.z/\QB e f.c/\QB e f.s
theorem BP {jb:Nat} {m:MachD} {p:PoseD} (hB:Cj jb m p) (ht:m.tree) (hj:m.bodies.length<=p.joints.length+1) {i:Nat} (hi:i<m.bodies.length) (h8:m.bodies.length<=8):FQ (rz jb i) (fr m p i):=(PR hB ht hj i hi).qb (by omega)
theorem RefC.nat_to {n B C:Nat} {cs:List AV} (h:n<2^C):RefC (.nat n B::cs) (.nat n C::cs):=fun ρ S w D vs x=>by
 cases x with
 | nat xs h1 h2 h3 h4=>exact .nat xs h1 h2 h h4
theorem RefC.q_of {x y:Rat} {B C:Nat} {cs:List AV} (e:x=y) (h:QB C y):RefC (.q x B::cs) (.q y C::cs):=fun ρ S w D vs k=>by
 subst e;cases k with
 | q h1=>
   cases h1 with
   | z h2=>exact .q (.z (((RefC.tl (RefC.nat_to h.1)).trans (RefC.tl (RefC.tl (RefC.nat_to h.2)))) _ _ _ _ _ h2))
theorem Ref.frame {f:FrameD} {x z c s:Rat} {X Z C S e:Nat} (hx:f=⟨⟨x,z⟩,c,s⟩) (h:FQ e f):Ref (.agg [.q x X,.q z Z,.q c C,.q s S]) (.agg (iG e f)):=by
 subst hx;exact Ref.agg (RefC.cons (RefC.q_of rfl h.1) (RefC.cons (RefC.q_of rfl h.2.1) (RefC.cons (RefC.q_of rfl h.2.2.1) (RefC.q_of rfl h.2.2.2))))
theorem RelCs.qb {ρ:Nat->Nat} {S:Nat->Prop} {w:World} {D:Nat->Prop} {x:Rat} {B:Nat} {cs:List AV} {vs:List Value} (h:RelCs ρ S w D (.q x B::cs) vs):QB B x/\∃ vs',RelCs ρ S w D cs vs':=by
 cases h with
 | q h1=>
   cases h1 with
   | z h2=>
     cases h2 with
     | bool h3=>
       cases h3 with
       | nat xs a1 a2 a3 a4=>
         cases a4 with
         | list f b1 b2 b3 b4 b5 b6=>
           cases b6 with
           | nat ys c1 c2 c3 c4=>
             cases c4 with
             | list g d1 d2 d3 d4 d5 d6=>exact⟨⟨a3,c3⟩,_,d6⟩
theorem QB.mono {B C:Nat} {x:Rat} (h:QB B x) (k:B<=C):QB C x:=⟨Nat.lt_of_lt_of_le h.1 (iY k),Nat.lt_of_lt_of_le h.2 (iY k)⟩
theorem GT {jb:Nat} {m:MachD} {p:PoseD} {ρ ρ':Nat->Nat} {S S':Nat->Prop} {w w':World} {D D':Nat->Prop} {us vs:List Value} (h1:RelCs ρ S w D (aE 300 m) us) (h2:RelCs ρ' S' w' D' (bB jb p) vs):Cj jb m p:=by
 obtain⟨q1,_,h2⟩:=h2.qb;obtain⟨q2,_,h2⟩:=h2.qb;obtain⟨q3,_,h2⟩:=h2.qb;refine⟨q1,q2,q3,fun i hi=> ?_,fun i hi=> ?_⟩
 · cases h2 with
   | list f b1 b2 b3 b4 b5 b6=>
     have:=b4 i [.q (p.joints.getD i default) jb] (by rw[List.getElem?_map,List.getElem?_eq_getElem hi];simp[dU,nG,hi]);exact this.qb.1
 · cases h1 with
   | str h1=>
     cases h1 with
     | list f b1 b2 b3 b4 b5 b6=>
       have:=b4 i (aH 300 (m.bodies.getD i default)) (by rw[List.getElem?_map,List.getElem?_eq_getElem hi];simp[nG,hi]);generalize f i=z at this;cases this with
       | str k1=>
         cases k1 with
         | int k2=>
           obtain⟨q4,_,k3⟩:=k2.qb;exact⟨q4,k3.qb.1⟩
def UL:KF
 | [.agg [.q px B,.q pz D],.agg [.q qx C,.q qz E]]=>some (.agg [.q (px+qx) (B+C+2),.q (pz+qz) (D+E+2)],[B+D+C+E+300<=LIM])
 | _=>none
theorem UM:bO 36 UL:=by
 refine cJ Tryz.f36 fun _ _ _ S w0 h ho=> ?_
 unfold UL at h;split at h <;> cases h;rename_i px B pz D qx C qz E;have o1:=ho.one;have L:=dH;have K:=kn.cons Fb;exact rR K [] (.a2 (om (B+C+200<=LIM)) (om (D+E+200<=LIM)))
def UN:KF
 | [.agg [.q px B,.q pz D],.agg [.q c C,.q s E]]=>some (.agg [.q (c*px-s*pz) (B+D+C+E+6),.q (s*px+c*pz) (B+D+C+E+6)],[B+D+C+E+300<=LIM])
 | _=>none
theorem Te:bO 37 UN:=by
 refine cJ Tryz.f37 fun _ _ _ S w0 h ho=> ?_
 unfold UN at h;split at h <;> cases h;rename_i px B pz D c C s E;have o1:=ho.one;have L:=dH;have K:=((kn.cons EZ).cons KL).cons Fb;exact rV K [] (.c6 (om (C+B+200<=LIM)) (om (E+D+200<=LIM)) (om ((C+B+2)+(E+D+2)+200<=LIM)) (om (E+B+200<=LIM)) (om (C+D+200<=LIM)) (om ((E+B+2)+(C+D+2)+200<=LIM)) (.a2 (om ((C+B+2)+(E+D+2)+2<=B+D+C+E+6)) (om ((E+B+2)+(C+D+2)+2<=B+D+C+E+6))))
def PS:KF
 | [.agg [.q ax A,.q az D,.q c C,.q s E],.agg [.q px B,.q pz F]]=>some (.agg [.q (ax+(c*px-s*pz)) (A+(B+F+C+E+6)+2),.q (az+(s*px+c*pz)) (D+(B+F+C+E+6)+2)],[A+D+2*B+2*F+2*C+2*E+400<=LIM])
 | _=>none
theorem JK:bO 119 PS:=by
 refine cJ Tryz.f119 fun _ _ _ S w0 h ho=> ?_
 unfold PS at h;split at h <;> cases h;rename_i ax A az D c C s E px B pz F;have o1:=ho.one;have L:=dH;have K:=(kn.cons Te).cons UM;exact rR K [] (.a2 (om (B+F+C+E+300<=LIM)) (om (A+D+(B+F+C+E+6)+(B+F+C+E+6)+300<=LIM)))
def UO:KF
 | [.agg [.q c B,.q s D],.agg [.q e C,.q t E]]=>some (.agg [.q (c*e-s*t) (C+E+B+D+6),.q (s*e+c*t) (C+E+B+D+6)],[C+E+B+D+300<=LIM])
 | _=>none
theorem Vt:bO 94 UO:=by
 refine cJ Tryz.f94 fun _ _ _ S w0 h ho=> ?_
 unfold UO at h;split at h <;> cases h;rename_i c B s D e C t E;have o1:=ho.one;have K:=kn.cons Te;exact rR K [] (.a1 o1)
noncomputable abbrev GU:List Item:=[.code (aR [1,0,1] (aA Tryz.f209)),.code (aR [1,1] (aA Tryz.f209))]
def fR:=((kn.cons JK).cons Vt).cons UK
abbrev lA:ABlk:=⟨175,12,false,[[.q 0 0,.q 0 0,.q 0 0,.q 0 0]],none⟩
abbrev xA (r:Nat) (m:MachD) (jb:Nat) (p:PoseD):List AV:=[.cptr [.lit (.map (some r))] 0,AV.any,.cptr (aE 300 m) 0,.cptr (bB jb p) 0]
abbrev xB:AV:=(.tup [.agg [.q 0 0,.q 0 0,.q 0 0,.q 0 0],.bool false])
abbrev GV (ff:Func):List Item:=[.code (aR [1,0,0] (aA ff)),.code (aR [1,0,1] (aA ff)),.code (aR [1,1] (aA ff))]
section
variable {S0 C0:Nat->Prop} {w0:World} {Post:Value->World->Prop}
theorem GW {B B':Base->Prop} (i r jb:Nat) (m:MachD) (p:PoseD) (clo:AV) (s:Nat) (f:FrameD)
   (hB:B ⟨S0,C0,w0⟩) (hX:∀ (Q:Exit->Act->World->Prop) β ρ D σ h a w,B β->Rel β.S β.C β.w ρ D ⟨σ,h⟩ a w->(∀ τ∈ [11,12],σ.getD τ .any=(slots 50 [(0,.i6 (i:Int)),(1,(.cptr [(.lit (.map (some r)))] 0)),(2,clo),(3,.cptr (aE 300 m) 0),(4,(.cptr [(.q p.at_.x jb),(.q p.at_.z jb),(.q p.turn jb),(.list 3 (p.joints.map (dU jb)))] 0)),(6,.ptr 0 12 0 0),(7,.ptr 1 12 0 0),(8,.bool true),(10,(.tup [(.agg [(.q f.at_.x (2*s)),(.q f.at_.z (2*s)),(.q f.c s),(.q f.s s)]),(.bool true)])),(11,.lit (.map (some r))),(12,.i6 (i:Int)),(13,(.tup [(.agg [(.q f.at_.x (2*s)),(.q f.at_.z (2*s)),(.q f.c s),(.q f.s s)]),(.bool true)])),(14,.agg [(.q f.at_.x (2*s)),(.q f.at_.z (2*s)),(.q f.c s),(.q f.s s)]),(15,.bool true)]).getD τ .any)->wpOp Tryz.prog (aZ (aR [1,0,0] (aA Tryz.f209))) Q 2 (fun a' w'=>∃ β',B' β'/\Rel β'.S β'.C β'.w ρ D ⟨put σ (some 13) (.tup [.agg (iG s f),.bool true]),h⟩ a' w') a w)
   (hg:∀ β,B' β->Good Tryz.prog 209 β.S β.C β.w Post GU ⟨slots 50 [(0,.i6 (i:Int)),(1,.cptr [.lit (.map (some r))] 0),(2,clo),(3,.cptr (aE 300 m) 0),(4,.cptr (bB jb p) 0),(6,.ptr 0 12 0 0),(7,.ptr 1 12 0 0),(8,.bool true),(10,.tup [.agg (iG s f),.bool true]),(11,.lit (.map (some r))),(12,.i6 (i:Int)),(13,.tup [.agg (iG s f),.bool true]),(14,.agg (iG s f)),(15,.bool true)],[some (lA),some ⟨175,12,false,[(iG s f)],none⟩]⟩):
   Good Tryz.prog 209 S0 C0 w0 Post (GV Tryz.f209) ⟨slots 50 [(0,.i6 (i:Int)),(1,.cptr [.lit (.map (some r))] 0),(2,clo),(3,.cptr (aE 300 m) 0),(4,.cptr (bB jb p) 0),(6,.ptr 0 12 0 0)],[some (lA)]⟩:=
 Good.regX mixed aX fR 2 (c:=aR [1,0,0] (aA Tryz.f209)) (oX:=((aZ (aR [1,0,0] (aA Tryz.f209))).toList[2]?).getD default) (dX:=some 13) (V:=(.tup [.agg (iG s f),.bool true])) (ov:=[(13,(.tup [.agg (iG s f),.bool true]))]) (ob:=[]) [11,12] (by kernel_rfl) (by kernel_rfl) (by kernel_rfl) (by kernel_rfl) (by kernel_rfl)
   (AllP.nil) (Or.inr (by kernel_rfl)) (by kernel_rfl) hX hB hg
theorem EN {B B':Base->Prop} (i r jb:Nat) (m:MachD) (p:PoseD) (clo:AV)
   (hB:B ⟨S0,C0,w0⟩) (hX:∀ (Q:Exit->Act->World->Prop) β ρ D σ h a w,B β->Rel β.S β.C β.w ρ D ⟨σ,h⟩ a w->(∀ τ∈ [11,12],σ.getD τ .any=(slots 50 [(0,.i6 (i:Int)),(1,(.cptr [(.lit (.map (some r)))] 0)),(2,clo),(3,.cptr (aE 300 m) 0),(4,(.cptr [(.q p.at_.x jb),(.q p.at_.z jb),(.q p.turn jb),(.list 3 (p.joints.map (dU jb)))] 0)),(6,.ptr 0 12 0 0),(7,.ptr 1 12 0 0),(8,.bool false),(10,.tup [(.agg [(.q 0 0),(.q 0 0),(.q 0 0),(.q 0 0)]),(.bool false)]),(11,.lit (.map (some r))),(12,.i6 (i:Int)),(13,.tup [(.agg [(.q 0 0),(.q 0 0),(.q 0 0),(.q 0 0)]),(.bool false)]),(14,.agg [(.q 0 0),(.q 0 0),(.q 0 0),(.q 0 0)]),(15,.bool false)]).getD τ .any)->wpOp Tryz.prog (aZ (aR [1,0,0] (aA Tryz.f209))) Q 2 (fun a' w'=>∃ β',B' β'/\Rel β'.S β'.C β'.w ρ D ⟨put σ (some 13) (xB),h⟩ a' w') a w)
   (hg:∀ β,B' β->Good Tryz.prog 209 β.S β.C β.w Post GU ⟨slots 50 [(0,.i6 (i:Int)),(1,.cptr [.lit (.map (some r))] 0),(2,clo),(3,.cptr (aE 300 m) 0),(4,.cptr (bB jb p) 0),(6,.ptr 0 12 0 0),(7,.ptr 1 12 0 0),(8,.bool false),(10,(xB)),(11,.lit (.map (some r))),(12,.i6 (i:Int)),(13,(xB)),(14,.agg [.q 0 0,.q 0 0,.q 0 0,.q 0 0]),(15,.bool false)],[some (lA),some (lA)]⟩):
   Good Tryz.prog 209 S0 C0 w0 Post (GV Tryz.f209) ⟨slots 50 [(0,.i6 (i:Int)),(1,.cptr [.lit (.map (some r))] 0),(2,clo),(3,.cptr (aE 300 m) 0),(4,.cptr (bB jb p) 0),(6,.ptr 0 12 0 0)],[some (lA)]⟩:=
 Good.regX mixed aX fR 2 (c:=aR [1,0,0] (aA Tryz.f209)) (oX:=((aZ (aR [1,0,0] (aA Tryz.f209))).toList[2]?).getD default) (dX:=some 13) (V:=(xB)) (ov:=[(13,(xB))]) (ob:=[]) [11,12] (by kernel_rfl) (by kernel_rfl) (by kernel_rfl) (by kernel_rfl) (by kernel_rfl)
   (AllP.nil) (Or.inr (by kernel_rfl)) (by kernel_rfl) hX hB hg
theorem EO {B B':Base->Prop} (i r jb:Nat) (m:MachD) (p:PoseD) (v:BodyD) (s:Nat) (f:FrameD) (o:(Ref (.cptr ((m.bodies.map (aH 300)).getD i []) 0) (.cptr (aH 300 v) 0))/\((i:Int)<((m.bodies.map (aH 300)).length:Int)))
   (hB:B ⟨S0,C0,w0⟩) (hX:∀ (Q:Exit->Act->World->Prop) β ρ D σ h a w,B β->Rel β.S β.C β.w ρ D ⟨σ,h⟩ a w->(∀ τ∈ [18,24],σ.getD τ .any=(slots 50 [(0,.i6 (i:Int)),(1,(.cptr [(.lit (.map (some r)))] 0)),(2,(.cptr [(.fn 209 [(.cptr [(.lit (.map (some r)))] 0),.any,(.cptr (aE 300 m) 0),(.cptr [(.q p.at_.x jb),(.q p.at_.z jb),(.q p.turn jb),(.list 3 (p.joints.map (dU jb)))] 0)])] 0)),(3,.cptr (aE 300 m) 0),(4,(.cptr [(.q p.at_.x jb),(.q p.at_.z jb),(.q p.turn jb),(.list 3 (p.joints.map (dU jb)))] 0)),(6,.ptr 0 12 0 0),(9,.ptr 1 12 0 0),(18,(.fn 209 [(.cptr [(.lit (.map (some r)))] 0),.any,(.cptr (aE 300 m) 0),(.cptr [(.q p.at_.x jb),(.q p.at_.z jb),(.q p.turn jb),(.list 3 (p.joints.map (dU jb)))] 0)])),(19,.cptr (aE 300 m) 1),(20,.list 27 (m.bodies.map (aH 300))),(21,.i6 (i:Int)),(22,(.cptr [(.str v.name),(.i6 v.par),(.q v.at_.x 300),(.q v.at_.z 300),(.q v.ma 300),(.q v.inr 300),(.q v.c.x 300),(.q v.c.z 300),(.q v.low 300),(.q v.high 300),(.list 6 (v.shape.map (dV 300)))] 0)),(23,(.cptr [(.str v.name),(.i6 v.par),(.q v.at_.x 300),(.q v.at_.z 300),(.q v.ma 300),(.q v.inr 300),(.q v.c.x 300),(.q v.c.z 300),(.q v.low 300),(.q v.high 300),(.list 6 (v.shape.map (dV 300)))] 1)),(24,.i6 v.par),(25,.agg [(.q f.at_.x (2*s)),(.q f.at_.z (2*s)),(.q f.c s),(.q f.s s)])]).getD τ .any)->wpOp Tryz.prog (aZ (aR [1,1,0] (aA Tryz.f209))) Q 7 (fun a' w'=>∃ β',B' β'/\Rel β'.S β'.C β'.w ρ D ⟨put σ (some 25) (.agg (iG s f)),h⟩ a' w') a w)
   (hg:∀ β,B' β->Good Tryz.prog 209 β.S β.C β.w Post [.code (aR [1,1,1] (aA Tryz.f209))] ⟨slots 50 [(0,.i6 (i:Int)),(1,.cptr [.lit (.map (some r))] 0),(2,.cptr [.fn 209 (xA r m jb p)] 0),(3,.cptr (aE 300 m) 0),(4,.cptr (bB jb p) 0),(6,.ptr 0 12 0 0),(9,.ptr 1 12 0 0),(18,.fn 209 (xA r m jb p)),(19,.cptr (aE 300 m) 1),(20,.list 27 (m.bodies.map (aH 300))),(21,.i6 (i:Int)),(22,.cptr (aH 300 v) 0),(23,.cptr (aH 300 v) 1),(24,.i6 v.par),(25,.agg (iG s f))],[some (lA),some ⟨175,12,false,[(iG s f)],none⟩]⟩):
   Good Tryz.prog 209 S0 C0 w0 Post [.code (aR [1,1,0] (aA Tryz.f209)),.code (aR [1,1,1] (aA Tryz.f209))] ⟨slots 50 [(0,.i6 (i:Int)),(1,.cptr [.lit (.map (some r))] 0),(2,.cptr [.fn 209 (xA r m jb p)] 0),(3,.cptr (aE 300 m) 0),(4,.cptr (bB jb p) 0),(6,.ptr 0 12 0 0)],[some (lA)]⟩:=
 Good.regX mixed aX fR 7 (c:=aR [1,1,0] (aA Tryz.f209)) (oX:=((aZ (aR [1,1,0] (aA Tryz.f209))).toList[7]?).getD default) (dX:=some 25) (V:=(.agg (iG s f))) (ov:=[(22,(.cptr (aH 300 v) 0)),(25,(.agg (iG s f)))]) (ob:=[Ref (.cptr ((m.bodies.map (aH 300)).getD i []) 0) (.cptr (aH 300 v) 0),0<=(i:Int),(i:Int)<((m.bodies.map (aH 300)).length:Int)]) [18,24] (by kernel_rfl) (by kernel_rfl) (by kernel_rfl) (by kernel_rfl) (by kernel_rfl)
   (.cons (o.1) (.cons (Int.natCast_nonneg _) (.cons (o.2) (AllP.nil)))) (Or.inr (by kernel_rfl)) (by kernel_rfl) hX hB hg
theorem GX {B B':Base->Prop} (i r jb:Nat) (m:MachD) (p:PoseD) (v:BodyD) (s e:Nat) (f g:FrameD) (t:Rat) (o:(Ref (.cptr ((m.bodies.map (aH 300)).getD i []) 0) (.cptr (aH 300 v) 0))/\((i:Int)<((m.bodies.map (aH 300)).length:Int))/\((2*s)+(2*s)+2*300+2*300+2*s+2*s+400<=LIM)/\(-9223372036854775808<=(i:Int)-(1:Int)/\(i:Int)-(1:Int)<=9223372036854775807)/\(Ref (.cptr ((p.joints.map (dU jb)).getD (((i:Int)-(1:Int)).toNat) []) 0) (.cptr [.q t jb] 0))/\(0<=((i:Int)-(1:Int)))/\(((i:Int)-(1:Int))<((p.joints.map (dU jb)).length:Int))/\(4*jb+800<=LIM)/\((4*jb+200)+(4*jb+200)+s+s+300<=LIM)/\(Ref (.agg [.q (f.at_.x+(f.c*v.at_.x-f.s*v.at_.z)) ((2*s)+(300+300+s+s+6)+2),.q (f.at_.z+(f.s*v.at_.x+f.c*v.at_.z)) ((2*s)+(300+300+s+s+6)+2),.q (f.c*((1-t*t)/(1+t*t))-f.s*((t+t)/(1+t*t))) ((4*jb+200)+(4*jb+200)+s+s+6),.q (f.s*((1-t*t)/(1+t*t))+f.c*((t+t)/(1+t*t))) ((4*jb+200)+(4*jb+200)+s+s+6)]) (.agg (iG e g))))
   (hB:B ⟨S0,C0,w0⟩) (hX:∀ (Q:Exit->Act->World->Prop) β ρ D σ h a w,B β->Rel β.S β.C β.w ρ D ⟨σ,h⟩ a w->(∀ τ∈ [26,27,46],σ.getD τ .any=(slots 50 [(0,.i6 (i:Int)),(1,(.cptr [(.lit (.map (some r)))] 0)),(2,(.cptr [(.fn 209 [(.cptr [(.lit (.map (some r)))] 0),.any,(.cptr (aE 300 m) 0),(.cptr [(.q p.at_.x jb),(.q p.at_.z jb),(.q p.turn jb),(.list 3 (p.joints.map (dU jb)))] 0)])] 0)),(3,.cptr (aE 300 m) 0),(4,(.cptr [(.q p.at_.x jb),(.q p.at_.z jb),(.q p.turn jb),(.list 3 (p.joints.map (dU jb)))] 0)),(6,.ptr 0 12 0 0),(9,.ptr 1 12 0 0),(26,.lit (.map (some r))),(27,.i6 (i:Int)),(28,.agg [(.q f.at_.x (2*s)),(.q f.at_.z (2*s)),(.q f.c s),(.q f.s s)]),(29,.cptr (aE 300 m) 1),(30,.list 27 (m.bodies.map (aH 300))),(31,.i6 (i:Int)),(32,(.cptr [(.str v.name),(.i6 v.par),(.q v.at_.x 300),(.q v.at_.z 300),(.q v.ma 300),(.q v.inr 300),(.q v.c.x 300),(.q v.c.z 300),(.q v.low 300),(.q v.high 300),(.list 6 (v.shape.map (dV 300)))] 0)),(33,(.cptr [(.str v.name),(.i6 v.par),(.q v.at_.x 300),(.q v.at_.z 300),(.q v.ma 300),(.q v.inr 300),(.q v.c.x 300),(.q v.c.z 300),(.q v.low 300),(.q v.high 300),(.list 6 (v.shape.map (dV 300)))] 2)),(34,.agg [(.q v.at_.x 300),(.q v.at_.z 300)]),(35,(.agg [(.q (f.at_.x+(f.c*v.at_.x-f.s*v.at_.z)) ((2*s)+(300+300+s+s+6)+2)),(.q (f.at_.z+(f.s*v.at_.x+f.c*v.at_.z)) ((2*s)+(300+300+s+s+6)+2))])),(36,.ptr 1 12 0 6),(37,.agg [(.q f.c s),(.q f.s s)]),(38,(.cptr [(.q p.at_.x jb),(.q p.at_.z jb),(.q p.turn jb),(.list 3 (p.joints.map (dU jb)))] 9)),(39,.list 3 (p.joints.map (dU jb))),(40,.i6 (i:Int)),(41,.i6 ((i:Int)-(1:Int))),(42,.cptr [(.q t jb)] 0),(43,.agg [(.q t jb)]),(44,(.agg [(.q ((1-t*t)/(1+t*t)) (4*jb+200)),(.q ((t+t)/(1+t*t)) (4*jb+200))])),(45,(.agg [(.q (f.c*((1-t*t)/(1+t*t))-f.s*((t+t)/(1+t*t))) ((4*jb+200)+(4*jb+200)+s+s+6)),(.q (f.s*((1-t*t)/(1+t*t))+f.c*((t+t)/(1+t*t))) ((4*jb+200)+(4*jb+200)+s+s+6))])),(46,.agg [(.q g.at_.x (2*e)),(.q g.at_.z (2*e)),(.q g.c e),(.q g.s e)])]).getD τ .any)->wpOp Tryz.prog (aZ (aR [1,1,1,0] (aA Tryz.f209))) Q 21 (fun a' w'=>∃ β',B' β'/\Rel β'.S β'.C β'.w ρ D ⟨put σ (none) AV.any,h⟩ a' w') a w)
   (hg:∀ β,B' β->Good Tryz.prog 209 β.S β.C β.w Post [.code (aR [1,1,1,1] (aA Tryz.f209))] ⟨slots 50 [(0,.i6 (i:Int)),(1,.cptr [.lit (.map (some r))] 0),(2,.cptr [.fn 209 (xA r m jb p)] 0),(3,.cptr (aE 300 m) 0),(4,.cptr (bB jb p) 0),(6,.ptr 0 12 0 0),(9,.ptr 1 12 0 0),(26,.lit (.map (some r))),(27,.i6 (i:Int)),(28,.agg (iG s f)),(29,.cptr (aE 300 m) 1),(30,.list 27 (m.bodies.map (aH 300))),(31,.i6 (i:Int)),(32,.cptr (aH 300 v) 0),(33,.cptr (aH 300 v) 2),(34,.agg [.q v.at_.x 300,.q v.at_.z 300]),(35,.agg [.q (f.at_.x+(f.c*v.at_.x-f.s*v.at_.z)) ((2*s)+(300+300+s+s+6)+2),.q (f.at_.z+(f.s*v.at_.x+f.c*v.at_.z)) ((2*s)+(300+300+s+s+6)+2)]),(36,.ptr 1 12 0 6),(37,.agg [.q f.c s,.q f.s s]),(38,.cptr (bB jb p) 9),(39,.list 3 (p.joints.map (dU jb))),(40,.i6 (i:Int)),(41,.i6 ((i:Int)-(1:Int))),(42,.cptr [.q t jb] 0),(43,.agg [.q t jb]),(44,.agg [.q ((1-t*t)/(1+t*t)) (4*jb+200),.q ((t+t)/(1+t*t)) (4*jb+200)]),(45,(.agg [.q (f.c*((1-t*t)/(1+t*t))-f.s*((t+t)/(1+t*t))) ((4*jb+200)+(4*jb+200)+s+s+6),.q (f.s*((1-t*t)/(1+t*t))+f.c*((t+t)/(1+t*t))) ((4*jb+200)+(4*jb+200)+s+s+6)])),(46,.agg (iG e g))],[some (lA),some ⟨175,12,false,[(iG s f)],none⟩,none,none,none]⟩):
   Good Tryz.prog 209 S0 C0 w0 Post [.code (aR [1,1,1,0] (aA Tryz.f209)),.code (aR [1,1,1,1] (aA Tryz.f209))] ⟨slots 50 [(0,.i6 (i:Int)),(1,.cptr [.lit (.map (some r))] 0),(2,.cptr [.fn 209 (xA r m jb p)] 0),(3,.cptr (aE 300 m) 0),(4,.cptr (bB jb p) 0),(6,.ptr 0 12 0 0),(9,.ptr 1 12 0 0)],[some (lA),some ⟨175,12,false,[(iG s f)],none⟩]⟩:=
 Good.regX mixed aX fR 21 (c:=aR [1,1,1,0] (aA Tryz.f209)) (oX:=((aZ (aR [1,1,1,0] (aA Tryz.f209))).toList[21]?).getD default) (dX:=none) (V:=AV.any) (ov:=[(32,(.cptr (aH 300 v) 0)),(41,(.i6 ((i:Int)-(1:Int)))),(42,(.cptr [.q t jb] 0)),(46,(.agg (iG e g)))]) (ob:=[Ref (.cptr ((m.bodies.map (aH 300)).getD i []) 0) (.cptr (aH 300 v) 0),0<=(i:Int),(i:Int)<((m.bodies.map (aH 300)).length:Int),(2*s)+(2*s)+2*300+2*300+2*s+2*s+400<=LIM,Ref (.i6 (IntKind.i64.wrap ((i:Int)-(1:Int)))) (.i6 ((i:Int)-(1:Int))),Ref (.cptr ((p.joints.map (dU jb)).getD (((i:Int)-(1:Int)).toNat) []) 0) (.cptr [.q t jb] 0),0<=((i:Int)-(1:Int)),((i:Int)-(1:Int))<((p.joints.map (dU jb)).length:Int),4*jb+800<=LIM,(4*jb+200)+(4*jb+200)+s+s+300<=LIM,Ref (.agg [.q (f.at_.x+(f.c*v.at_.x-f.s*v.at_.z)) ((2*s)+(300+300+s+s+6)+2),.q (f.at_.z+(f.s*v.at_.x+f.c*v.at_.z)) ((2*s)+(300+300+s+s+6)+2),.q (f.c*((1-t*t)/(1+t*t))-f.s*((t+t)/(1+t*t))) ((4*jb+200)+(4*jb+200)+s+s+6),.q (f.s*((1-t*t)/(1+t*t))+f.c*((t+t)/(1+t*t))) ((4*jb+200)+(4*jb+200)+s+s+6)]) (.agg (iG e g))]) [26,27,46] (by kernel_rfl) (by kernel_rfl) (by kernel_rfl) (by kernel_rfl) (by kernel_rfl)
   (.cons (o.1) (.cons (Int.natCast_nonneg _) (.cons (o.2.1) (.cons (o.2.2.1) (.cons ((Ref.wr o.2.2.2.1).trans (Ref.int (by rfl))) (.cons (o.2.2.2.2.1) (.cons (o.2.2.2.2.2.1) (.cons (o.2.2.2.2.2.2.1) (.cons (o.2.2.2.2.2.2.2.1) (.cons (o.2.2.2.2.2.2.2.2.1) (.cons (o.2.2.2.2.2.2.2.2.2) (AllP.nil)))))))))))) (Or.inl rfl) (by kernel_rfl) hX hB hg
theorem EP {B B':Base->Prop} (i r e:Nat) (g:FrameD)
   (hB:B ⟨S0,C0,w0⟩) (hX:∀ (Q:Exit->Act->World->Prop) β ρ D σ h a w,B β->Rel β.S β.C β.w ρ D ⟨σ,h⟩ a w->(∀ τ∈ [47,48],σ.getD τ .any=(slots 50 [(0,.i6 (i:Int)),(1,(.cptr [(.lit (.map (some r)))] 0)),(6,.ptr 0 12 0 0),(47,.lit (.map (some r))),(48,.i6 (i:Int)),(49,.agg [(.q g.at_.x (2*e)),(.q g.at_.z (2*e)),(.q g.c e),(.q g.s e)])]).getD τ .any)->wpOp Tryz.prog (aZ (aR [1,1,1,1,0] (aA Tryz.f209))) Q 2 (fun a' w'=>∃ β',B' β'/\Rel β'.S β'.C β'.w ρ D ⟨put σ (some 49) (.agg (iG e g)),h⟩ a' w') a w)
   (hg:∀ β,B' β->Good Tryz.prog 209 β.S β.C β.w Post [.code .ret] ⟨slots 50 [(0,.i6 (i:Int)),(1,.cptr [.lit (.map (some r))] 0),(6,.ptr 0 12 0 0),(47,.lit (.map (some r))),(48,.i6 (i:Int)),(49,.agg (iG e g))],[some ⟨175,12,false,[(iG e g)],none⟩]⟩):
   Good Tryz.prog 209 S0 C0 w0 Post [.code (aR [1,1,1,1,0] (aA Tryz.f209)),.code .ret] ⟨slots 50 [(0,.i6 (i:Int)),(1,.cptr [.lit (.map (some r))] 0),(6,.ptr 0 12 0 0)],[some (lA)]⟩:=
 Good.regX mixed aX fR 2 (c:=aR [1,1,1,1,0] (aA Tryz.f209)) (oX:=((aZ (aR [1,1,1,1,0] (aA Tryz.f209))).toList[2]?).getD default) (dX:=some 49) (V:=(.agg (iG e g))) (ov:=[(49,(.agg (iG e g)))]) (ob:=[]) [47,48] (by kernel_rfl) (by kernel_rfl) (by kernel_rfl) (by kernel_rfl) (by kernel_rfl)
   (AllP.nil) (Or.inr (by kernel_rfl)) (by kernel_rfl) hX hB hg
end
noncomputable abbrev GY:List Item:=[.code (aR [1,0,0] (aA Tryz.f209)),.code (aR [1,0,1] (aA Tryz.f209)),.code (aR [1,1] (aA Tryz.f209))]
abbrev xC (r:Nat):AV:=.cptr [.lit (.map (some r))] 0
abbrev Am (jb r:Nat) (m:MachD) (p:PoseD):AV:=.cptr [.fn 209 [xC r,.any,.cptr (aE 300 m) 0,.cptr (bB jb p) 0]] 0
theorem xD:Tryz.prog.underlying 366=some (.map 3 175):=by kernel_rfl
theorem CP:Tryz.prog.underlying 3=some (.int .i64):=by kernel_rfl
theorem DI:∃ oX:Oper,(aZ (aR [1,0,0] (aA Tryz.f209)))[2]? =some oX/\oX.guard=none/\oX.op=Op.lookup 366 (Operand.tmp 11) (Operand.tmp 12) true/\oX.dst=some 13:=
 ⟨((aZ (aR [1,0,0] (aA Tryz.f209))).toList[2]?).getD default,by kernel_rfl,by kernel_rfl,by kernel_rfl,by kernel_rfl⟩
theorem GZ (jb:Nat) (m:MachD) (p:PoseD) {S:Nat->Prop} {w:World} {vals:List Value} {i n r:Nat} {clo:AV} (hS:∀ k,S k->k<w.heap.size) (M:Memo (lO jb m p) n S w r) (hi:i<n)
   (hargs:RelVs ρ0 S w No [.i6 ((i:Nat):Int),xC r,clo,.cptr (aE 300 m) 0,.cptr (bB jb p) 0] vals):
   Calls Tryz.prog 209 vals.toArray w fun e w'=>∃ v,e= .returned v/\eN S w (.agg (lO jb m p i)) v w':=by
 refine wW (fn:=Tryz.f209) (c:=aA Tryz.f209) (by kernel_rfl) (by kernel_rfl) hS hargs ?_;have e:kY [.i6 ((i:Nat):Int),xC r,clo,.cptr (aE 300 m) 0,.cptr (bB jb p) 0] Tryz.f209.ntmps=⟨slots 50 [(0,.i6 ((i:Nat):Int)),(1,xC r),(2,clo),(3,.cptr (aE 300 m) 0),(4,.cptr (bB jb p) 0)],[]⟩:=by kernel_rfl
 rw[e];clear e;refine gS fR (some 1) [0,1,2,3,4,6] [] .nil (t:=GY) (σ:=slots 50 [(0,.i6 (i:Int)),(1,.cptr [.lit (.map (some r))] 0),(2,clo),(3,.cptr (aE 300 m) 0),(4,.cptr (bB jb p) 0),(6,.ptr 0 12 0 0)]) (h:=[some ⟨175,12,false,[[.q 0 0,.q 0 0,.q 0 0,.q 0 0]],none⟩]) ?_
 refine GW (B:=fun β=>β=⟨S,No,w⟩) (B':=fun β=>β=⟨S,No,w⟩) i r jb m p clo (rz jb i) (fr m p i) rfl ?_ ?_
 · rintro Q β ρ D σ h a w1 rfl R hA
   have h1:=R.eval (.tmp 11);have h2:=R.eval (.tmp 12);have e1:bI σ (.tmp 11)= .lit (.map (some r)):=(hA 11 (by simp)).trans (by kernel_rfl);have e2:bI σ (.tmp 12)= .i6 ((i:Nat):Int):=(hA 12 (by simp)).trans (by kernel_rfl);rw[e1] at h1;rw[e2] at h2;have M1:=(M.keep (S':=fun k=>S k\/No k) (rl _) rfl fun k _ hs=>⟨fun h=>h.elim hs id,rfl⟩).now R (fun h=>h);obtain⟨vs,hrun,hrel⟩:=M1.look xD CP hi;obtain⟨oX,hoX,hg,hop,hd⟩:=DI;refine kO hoX hg (v:=.tuple #[.agg vs.toArray,.bool true]) (w':=w1) ?_ ?_
   · rw[execOp,hop]
     have:=hrun true;simp only[if_true] at this;simp only[h1.lit_inv,h2.int_inv,Sem.run_bind,this];rfl
   · rw[hd]
     refine⟨_,rfl,R.val ⟨[.agg vs.toArray,.bool true],rfl,⟨vs,rfl,PM hrel⟩, ?_,trivial⟩⟩;exact .bool .done
 · rintro β rfl
   refine Good.pk 50 [(6,.ptr 0 12 0 0),(7,.ptr 1 12 0 0),(8,.bool true)] ?_;exact rR fR [] .nil
theorem JL:∃ (oX:Oper) (c:Call),(aZ (aR [1,1,0] (aA Tryz.f209)))[7]? =some oX/\oX.guard=none/\oX.op=Op.call c/\c.callee=Callee.value (Operand.tmp 18)/\c.args= #[Operand.tmp 24]/\oX.dst=some 25:=
 ⟨((aZ (aR [1,1,0] (aA Tryz.f209))).toList[7]?).getD default,⟨Callee.value (Operand.tmp 18), #[Operand.tmp 24], #[3]⟩,by kernel_rfl,by kernel_rfl,by kernel_rfl,rfl,rfl,by kernel_rfl⟩
theorem JM:∃ oX:Oper,(aZ (aR [1,1,1,0] (aA Tryz.f209)))[21]? =some oX/\oX.guard=none/\oX.op=Op.mapUpdate 366 (Operand.tmp 26) (Operand.tmp 27) (Operand.tmp 46)/\oX.dst=none:=
 ⟨((aZ (aR [1,1,1,0] (aA Tryz.f209))).toList[21]?).getD default,by kernel_rfl,by kernel_rfl,by kernel_rfl,by kernel_rfl⟩
theorem JN:∃ oX:Oper,(aZ (aR [1,1,1,1,0] (aA Tryz.f209)))[2]? =some oX/\oX.guard=none/\oX.op=Op.lookup 366 (Operand.tmp 47) (Operand.tmp 48) false/\oX.dst=some 49:=
 ⟨((aZ (aR [1,1,1,1,0] (aA Tryz.f209))).toList[2]?).getD default,by kernel_rfl,by kernel_rfl,by kernel_rfl,by kernel_rfl⟩
theorem CQ:oJ Tryz.prog 209:=⟨Tryz.f209,by kernel_rfl,by kernel_rfl,by kernel_rfl⟩
theorem JO:∃ vs:List Value,(∀ w,(zeroValue 175).run Tryz.prog w= .ok (.agg vs.toArray) w)/\∀ ρ S w D,RelCs ρ S w D [.q 0 0,.q 0 0,.q 0 0,.q 0 0] vs:=by
 obtain⟨z,h1,_,h3⟩:=mX (aX 175 ⟨12,224,[.q 0 0,.q 0 0,.q 0 0,.q 0 0],.struct [(0,6,58),(6,6,98)]⟩ (by kernel_rfl));obtain⟨vs,hv⟩:∃ vs:List Value,∀ w,(zeroValue 175).run Tryz.prog w= .ok (.agg vs.toArray) w:=⟨[.bool false,.slice none 0 0,.slice none 0 0,.bool false,.slice none 0 0,.slice none 0 0,.bool false,.slice none 0 0,.slice none 0 0,.bool false,.slice none 0 0,.slice none 0 0],fun w=>by kernel_rfl⟩
 have:z= .agg vs.toArray:=by
   have h:=h1 default;rw[hv default] at h;injection h with h;exact h.symm
 subst this;exact⟨vs,hv,fun ρ S w D=>by simpa[Value.cells] using h3 ρ S w D⟩
def Ha (F:Nat->List AV) (n r:Nat) (S:Nat->Prop) (w:World) (β:Base):Prop:=
 β.S=S/\(∀ k,β.C k->w.heap.size<=k)/\Chg (· =r) w β.w/\Memo F n (fun k=>S k\/β.C k) β.w r
theorem JP {jb:Nat} (hjb:jb<=100000) (m:MachD) (p:PoseD) (ht:m.tree) {S:Nat->Prop} {w:World} {vals:List Value} {i r:Nat} (hS:∀ k,S k->k<w.heap.size) (hr:S r) (M:Memo (lO jb m p) i S w r) (h0:0<i) (hi:i<m.bodies.length) (h12:i<=7) (hj:i<=p.joints.length) (hQ:FQ (rz jb i) (fr m p i))
   (hargs:RelVs ρ0 S w No [.i6 ((i:Nat):Int),xC r,Am jb r m p,.cptr (aE 300 m) 0,.cptr (bB jb p) 0] vals):
   Calls Tryz.prog 209 vals.toArray w fun e w'=>∃ v,e= .returned v/\RelV ρ0 S w' No (.agg (lO jb m p i)) v/\Chg (· =r) w w'/\Memo (lO jb m p) (i+1) S w' r:=by
 refine(wW (Post:=fun v w'=>RelV ρ0 S w' No (.agg (lO jb m p i)) v/\Chg (· =r) w w'/\Memo (lO jb m p) (i+1) S w' r) (fn:=Tryz.f209) (c:=aA Tryz.f209) (by kernel_rfl) (by kernel_rfl) hS hargs ?_);have e:kY [.i6 ((i:Nat):Int),xC r,Am jb r m p,.cptr (aE 300 m) 0,.cptr (bB jb p) 0] Tryz.f209.ntmps=⟨slots 50 [(0,.i6 ((i:Nat):Int)),(1,xC r),(2,Am jb r m p),(3,.cptr (aE 300 m) 0),(4,.cptr (bB jb p) 0)],[]⟩:=by kernel_rfl
 rw[e];clear e;have hrw:r<w.heap.size:=hS r hr;have M0:Memo (lO jb m p) i (fun k=>S k\/No k) w r:=M.keep (rl _) rfl fun k _ hs=>⟨fun h=>h.elim hs id,rfl⟩
 obtain⟨hp0,hp1⟩:=ht i h0 hi;obtain⟨v,hv⟩:∃ v,v=m.bodies.getD i default:=⟨_,rfl⟩;rw[<- hv] at hp0 hp1;obtain⟨j,hjp⟩:∃ j:Nat,v.par=((j:Nat):Int):=⟨v.par.toNat,by omega⟩;have hji:j<i:=by omega
 have hbody:Ref (.cptr ((m.bodies.map (aH 300)).getD i []) 0) (.cptr (aH 300 v) 0):=by rw[hv];exact Ref.cmap hi
 have hlen:(m.bodies.map (aH 300)).length=m.bodies.length:=bM ..;have hjl:(p.joints.map (dU jb)).length=p.joints.length:=bM ..
 have hstep:fr m p i=wZ (fr m p j) v (p.joints.getD (i-1) default):=by
   rw[uO ht h0 hi, <- hv,hjp];rfl
 have hszj:rz jb j<=SZ jb:=rz_le (by omega);have hjb1:jb<=rz jb j:=PQ jb j;unfold SZ at hszj;refine gS fR (some 1) [0,1,2,3,4,6] [] .nil (t:=GY) (σ:=slots 50 [(0,.i6 (i:Int)),(1,.cptr [.lit (.map (some r))] 0),(2,(Am jb r m p)),(3,.cptr (aE 300 m) 0),(4,.cptr (bB jb p) 0),(6,.ptr 0 12 0 0)]) (h:=[some ⟨175,12,false,[[.q 0 0,.q 0 0,.q 0 0,.q 0 0]],none⟩]) ?_
 refine EN (B:=fun β=>β=⟨S,No,w⟩) (B':=fun β=>β=⟨S,No,w⟩) i r jb m p _ rfl ?_ ?_
 · rintro Q β ρ D σ h a w1 rfl R hA
   have h1:=R.eval (.tmp 11);have h2:=R.eval (.tmp 12);have e1:bI σ (.tmp 11)= .lit (.map (some r)):=(hA 11 (by simp)).trans (by kernel_rfl);have e2:bI σ (.tmp 12)= .i6 ((i:Nat):Int):=(hA 12 (by simp)).trans (by kernel_rfl);rw[e1] at h1;rw[e2] at h2;have M1:=M0.now R (fun h=>h);obtain⟨vs,hz,hrel⟩:=JO;have hrun:=M1.miss xD CP (rl _) (hz w1);obtain⟨oX,hoX,hg,hop,hd⟩:=DI;refine kO hoX hg (v:=.tuple #[.agg vs.toArray,.bool false]) (w':=w1) ?_ ?_
   · rw[execOp,hop]
     simp only[h1.lit_inv,h2.int_inv,Sem.run_bind,hrun];rfl
   · rw[hd]
     refine⟨_,rfl,R.val ⟨[.agg vs.toArray,.bool false],rfl,⟨vs,rfl,hrel _ _ _ _⟩, ?_,trivial⟩⟩;exact .bool .done
 rintro β rfl;refine Good.pk 50 [(0,.i6 ((i:Nat):Int)),(1,xC r),(2,Am jb r m p),(3,.cptr (aE 300 m) 0),(4,.cptr (bB jb p) 0),(6,.ptr 0 12 0 0),(7,.ptr 1 12 0 0),(8,.bool false)] ?_;refine gR fR (some 4) [0,1,2,3,4,6] [0] [] .nil (t:=[.code (aR [1,1,0] (aA Tryz.f209)),.code (aR [1,1,1] (aA Tryz.f209))]) (σ:=slots 50 [(0,.i6 (i:Int)),(1,.cptr [.lit (.map (some r))] 0),(2,.cptr [.fn 209 [.cptr [.lit (.map (some r))] 0,.any,.cptr (aE 300 m) 0,.cptr (bB jb p) 0]] 0),(3,.cptr (aE 300 m) 0),(4,.cptr (bB jb p) 0),(6,.ptr 0 12 0 0)]) (h:=[some ⟨175,12,false,[[.q 0 0,.q 0 0,.q 0 0,.q 0 0]],none⟩]) ?_
 refine EO (B:=fun β=>β=⟨S,No,w⟩) (B':=fun β=>β=⟨S,No,w⟩) i r jb m p v (rz jb j) (fr m p j) ⟨hbody,by rw[hlen];omega⟩ rfl ?_ ?_
 · rintro Q β ρ D σ h a w1 rfl R hA
   have e1:bI σ (.tmp 18)= .fn 209 [xC r,.any,.cptr (aE 300 m) 0,.cptr (bB jb p) 0]:=(hA 18 (by simp)).trans (by kernel_rfl);have e2:bI σ (.tmp 24)= .i6 v.par:=(hA 24 (by simp)).trans (by kernel_rfl);obtain⟨oX,c,hoX,hg,hop,hc,hargs,hd⟩:=JL;have M1:=M0.now R (fun h=>h);have hmap:c.args.toList.map (bI σ)= [.i6 ((j:Nat):Int)]:=by rw[hargs];simp[e2,hjp]
   have hcall:=tA (Q:=Q) (J:=eN (Sof S ρ h) w1 (.agg (lO jb m p j))) R hoX hg hop hc e1 (by rw[hmap];simp[eC,noRef,noRef0,zA,wd]) CQ (fun vals hvals=>by
     rw[hmap] at hvals
     exact GZ jb m p (fun k=>R.Slt) M1 hji hvals)
   refine wpOp_mono ?_ hcall;rintro a' w' ⟨u,⟨hu,hch⟩,rfl⟩;rw[hd];refine⟨_,rfl,R.called hch ?_⟩;obtain⟨us,h1,h2⟩:=hu;exact⟨us,h1,PM h2⟩
 rintro β rfl;refine Good.pk 50 [(0,.i6 ((i:Nat):Int)),(1,xC r),(2,Am jb r m p),(3,.cptr (aE 300 m) 0),(4,.cptr (bB jb p) 0),(6,.ptr 0 12 0 0),(9,.ptr 1 12 0 0)] ?_;refine gS fR (some 5) [0,1,2,3,4,6,9] [] .nil (t:=[.code (aR [1,1,1,0] (aA Tryz.f209)),.code (aR [1,1,1,1] (aA Tryz.f209))]) (σ:=slots 50 [(0,.i6 (i:Int)),(1,.cptr [.lit (.map (some r))] 0),(2,.cptr [.fn 209 [.cptr [.lit (.map (some r))] 0,.any,.cptr (aE 300 m) 0,.cptr (bB jb p) 0]] 0),(3,.cptr (aE 300 m) 0),(4,.cptr (bB jb p) 0),(6,.ptr 0 12 0 0),(9,.ptr 1 12 0 0)]) (h:=[some ⟨175,12,false,[[.q 0 0,.q 0 0,.q 0 0,.q 0 0]],none⟩,some ⟨175,12,false,[(iG (rz jb j) (fr m p j))],none⟩]) ?_
 refine GX (B:=fun β=>β=⟨S,No,w⟩) (B':=Ha (lO jb m p) (i+1) r S w) i r jb m p v (rz jb j) (rz jb i) (fr m p j) (fr m p i) (p.joints.getD (i-1) default)
   ⟨hbody,by rw[hlen];omega,by unfold LIM;omega,by omega, ?_,by omega,by rw[hjl];omega,by unfold LIM;omega,by unfold LIM;omega, ?_⟩ rfl ?_ ?_
 · have:(((i:Nat):Int)-1).toNat=i-1:=by omega
   rw[this];exact Ref.cmap (f:=dU jb) (by omega)
 · exact Ref.frame hstep hQ
 · rintro Q β ρ D σ h a w1 rfl R hA
   have h1:=R.eval (.tmp 26);have h2:=R.eval (.tmp 27);have h3:=R.eval (.tmp 46);have e1:bI σ (.tmp 26)= .lit (.map (some r)):=(hA 26 (by simp)).trans (by kernel_rfl);have e2:bI σ (.tmp 27)= .i6 ((i:Nat):Int):=(hA 27 (by simp)).trans (by kernel_rfl);have e3:bI σ (.tmp 46)= .agg (lO jb m p i):=(hA 46 (by simp)).trans (by kernel_rfl);rw[e1] at h1;rw[e2] at h2;rw[e3] at h3;have M1:=M0.now R (fun h=>h);obtain⟨us,k1,k2⟩:=RelV0.noRef h3 (by rfl) ρ0;obtain⟨w2,hrun,hch,M2⟩:=M1.upd xD CP k2 (.inl hr);obtain⟨oX,hoX,hg,hop,hd⟩:=JM;refine tB hoX hg (w':=w2) ?_ ?_
   · rw[execOp,hop]
     simp only[h1.lit_inv,h2.int_inv,k1,Sem.run_bind,hrun];rfl
   · rw[hd]
     refine⟨⟨S,qA ρ h,w2⟩,⟨rfl, ?_, ?_,M2⟩,R.turn hch (fun k hk=>by subst hk;exact hr) (.inl rfl)⟩
     · rintro k ⟨l,b,hb,rfl⟩
       exact(R.mine l b hb).1.elim (fun h=>h.elim) id
     · exact(R.chg.mono (fun _ h=>h.elim)).trans hch fun _ _ h=>h
 rintro β hβ;refine Good.pk 50 [(0,.i6 ((i:Nat):Int)),(1,xC r),(6,.ptr 0 12 0 0)] ?_;refine Good.tidy [0] (by decide) (σ':=slots 50 [(0,.i6 ((i:Nat):Int)),(1,xC r),(6,.ptr 0 12 0 0)]) (h':=[some ⟨175,12,false,[[(.q 0 0),(.q 0 0),(.q 0 0),(.q 0 0)]],none⟩]) (by kernel_rfl) (by kernel_rfl) ?_;refine gS fR (some 6) [0,1,6] [] .nil (t:=[.code (aR [1,1,1,1,0] (aA Tryz.f209)),.code .ret]) (σ:=slots 50 [(0,.i6 (i:Int)),(1,.cptr [.lit (.map (some r))] 0),(6,.ptr 0 12 0 0)]) (h:=[some ⟨175,12,false,[[.q 0 0,.q 0 0,.q 0 0,.q 0 0]],none⟩]) ?_
 refine EP (B:=Ha (lO jb m p) (i+1) r S w) (B':=Ha (lO jb m p) (i+1) r S w) i r (rz jb i) (fr m p i) hβ ?_ ?_
 · rintro Q β ρ D σ h a w1 ⟨rfl,b1,b2,b3⟩ R hA
   have h1:=R.eval (.tmp 47);have h2:=R.eval (.tmp 48);have e1:bI σ (.tmp 47)= .lit (.map (some r)):=(hA 47 (by simp)).trans (by kernel_rfl);have e2:bI σ (.tmp 48)= .i6 ((i:Nat):Int):=(hA 48 (by simp)).trans (by kernel_rfl);rw[e1] at h1;rw[e2] at h2;have M1:=b3.now R (fun h=>by have:=b1 r h;omega);obtain⟨vs,hrun,hrel⟩:=M1.look xD CP (Nat.lt_succ_self i);obtain⟨oX,hoX,hg,hop,hd⟩:=JN;refine kO hoX hg (v:=.agg vs.toArray) (w':=w1) ?_ ?_
   · rw[execOp,hop]
     have:=hrun false;simp only[Bool.false_eq_true,if_false] at this;simp only[h1.lit_inv,h2.int_inv,Sem.run_bind,this];rfl
   · rw[hd]
     exact⟨_,⟨rfl,b1,b2,b3⟩,R.val ⟨vs,rfl,PM hrel⟩⟩
 · rintro β ⟨rfl,b1,b2,b3⟩
   refine qU aX (fn:=Tryz.f209) (by kernel_rfl) (.inr ⟨_,rfl⟩) (Vs:=[.agg (lO jb m p i)]) (by kernel_rfl) (.inl rfl) fun ρ D a w2 u R hu=>⟨sO hu rfl (fun k h=>.inl h), ?_, ?_⟩
   · exact b2.trans R.chg fun k hk hc=>absurd hk (by have:=b1 k hc;omega)
   · exact b3.keep R.chg.size (R.chg.block r (by obtain⟨es,clk,g,_⟩:=b3;exact fT g) fun h=>by have:=b1 r h;omega) fun k hk hs=>⟨fun h=>hs (.inl h),R.chg.block k hk fun h=>hs (.inr h)⟩
theorem Chg.alloc (w:World) (o:Obj):Chg No w (w.alloc o):=Chg.ofNo rfl rfl rfl (by simp) fun k hk=>Below.heap_alloc w o k hk
def PT (F:Nat->List AV) (n r:Nat) (S1:Nat->Prop) (w:World) (β:Base):Prop:=
 β.S=S1/\(∀ k,β.C k->w.heap.size<=k)/\¬ β.C r/\Chg No w β.w/\Memo F n (fun k=>S1 k\/β.C k) β.w r
abbrev fY (r:Nat):AV:=.lit (.map (some r))
abbrev mI (k:Nat):AV:=.lit (.pointer (some ⟨k,0,none⟩))
structure G4 where
 ov:List (Nat×AV)
 r:Nat
 k:Nat
structure J4 (F:Nat->List AV) (S:Nat->Prop) (w:World) (l0 l7 l8 l9 l10:Bool) (g:G4) (β:Base):Prop where
 c:∀ x,β.C x->w.heap.size<=x
 chg:Chg No w β.w
 ov:g.ov=(if l0=true then [(17,fY g.r)] else [])++(if l8=true then [(24,fY g.r)] else [])++(if l9=true then [(7,mI g.k)] else [])
 s:∀ x,β.S x↔S x\/(l0=true/\x=g.r)\/(l9=true/\x=g.k)
 r0:l0=true->w.heap.size<=g.r/\¬ β.C g.r/\g.r<β.w.heap.size
 r1:l0=true->l7=false->β.w.heap[g.r]? =some (.map #[] 0)
 r2:l7=true->Memo F 1 (fun x=>β.S x\/β.C x) β.w g.r
 k0:l9=true->w.heap.size<=g.k/\¬ β.C g.k/\g.k<β.w.heap.size
 k1:l9=true->∃ c,β.w.heap[g.k]? =some (.cells #[c] 366 (0,0))/\(l10=true->c= .map (some g.r))
 e7:l7=true->l0=true
 e8:l8=true->l7=true
 e10:l10=true->l8=true/\l9=true
def I4 (F:Nat->List AV) (S:Nat->Prop) (w:World) (L:Array Bool) (g:G4) (β:Base):Prop:=
 J4 F S w (L.getD 0 false) (L.getD 7 false) (L.getD 8 false) (L.getD 9 false) (L.getD 10 false) g β
theorem I4.other {F:Nat->List AV} {S:Nat->Prop} {w:World} {L:Array Bool} {i:Nat} {g:G4} {β:Base} (hi:i ∉ [0,7,8,9,10]) (h:I4 F S w L g β):I4 F S w (L.setIfInBounds i true) g β:=by
 have e:∀ j∈ [0,7,8,9,10],(L.setIfInBounds i true).getD j false=L.getD j false:=fun j hj=>by
   rw[cO,if_neg];rintro⟨rfl,_⟩;exact hi hj
 unfold I4;rw[e 0 (by simp),e 7 (by simp),e 8 (by simp),e 9 (by simp),e 10 (by simp)];exact h
section
variable {S0 C0:Nat->Prop} {w0 w:World} {ρ:Nat->Nat} {D:Nat->Prop} {σ:List AV} {h:List (Option ABlk)} {a:Act}
theorem Rel.ownC_no (R:Rel S0 C0 w0 ρ D ⟨σ,h⟩ a w) {x:Nat} (hx:S0 x):¬ qA ρ h x:=by
 rintro⟨l,b,hb,rfl⟩;exact(R.mine l b hb).2.1 hx
theorem Rel.ownC_lt (R:Rel S0 C0 w0 ρ D ⟨σ,h⟩ a w) {x:Nat} (hx:qA ρ h x):x<w.heap.size:=by
 obtain⟨l,b,hb,rfl⟩:=hx;obtain⟨_,arr,h1,_⟩:=R.heap l b hb;exact fT h1
theorem Rel.ownC_ge (R:Rel S0 C0 w0 ρ D ⟨σ,h⟩ a w) {x n:Nat} (hx:qA ρ h x) (hC:∀ k,C0 k->n<=k) (hn:n<=w0.heap.size):n<=x:=by
 obtain⟨l,b,hb,rfl⟩:=hx;rcases(R.mine l b hb).1 with h1 | h1
 · exact hC _ h1
 · omega
end
theorem An {σ:List AV} {t:Nat} {V:AV} (h:σ.getD t .any=V) (hV:V≠ .any):t<σ.length:=by
 rcases Nat.lt_or_ge t σ.length with h1 | h1
 · exact h1
 · rw[nG,List.getElem?_eq_none h1] at h
   exact absurd h.symm hV
theorem Mm {σ:List AV} {t:Nat} {V:AV} (h:t<σ.length):(σ.set t V).getD t .any=V:=by
 rw[gZ,if_pos ⟨rfl,h⟩]
noncomputable abbrev R4:Code:=aR [1,1,0] (aA Tryz.f117)
theorem Ao:(aZ R4).size=11:=by kernel_rfl
theorem Tf:∀ oX,(aZ R4)[0]? =some oX->oX.op= .makeMap 366 none/\oX.dst=some 17:=by
 intro oX h;have:(aZ R4)[0]? =some (((aZ R4).toList[0]?).getD default):=by kernel_rfl
 rw[this] at h;injection h with h;subst h;exact⟨by kernel_rfl,by kernel_rfl⟩
theorem Tg:∀ oX,(aZ R4)[7]? =some oX->oX.op= .insert 366 (.tmp 17) (.const (.int .i64 0)) (.tmp 23)/\oX.dst=none/\(∃ e∈oX.after.toList,Region.binds .any e=true/\e.on=0):=by
 intro oX h;have:(aZ R4)[7]? =some (((aZ R4).toList[7]?).getD default):=by kernel_rfl
 rw[this] at h;injection h with h;subst h;refine⟨by kernel_rfl,by kernel_rfl, ?_⟩;have h1:(((aZ R4).toList[7]?).getD default).after.toList.any (fun e=>Region.binds .any e&&e.on==0)=true:=by kernel_rfl
 obtain⟨e,e1,e2⟩:=List.any_eq_true.1 h1;rw[Bool.and_eq_true] at e2;exact⟨e,e1,e2.1,by simpa using e2.2⟩
theorem Th:∀ oX,(aZ R4)[8]? =some oX->oX.op= .move (.tmp 17)/\oX.dst=some 24/\(∃ e∈oX.after.toList,Region.binds .any e=true/\e.on=7):=by
 intro oX h;have:(aZ R4)[8]? =some (((aZ R4).toList[8]?).getD default):=by kernel_rfl
 rw[this] at h;injection h with h;subst h;refine⟨by kernel_rfl,by kernel_rfl, ?_⟩;have h1:(((aZ R4).toList[8]?).getD default).after.toList.any (fun e=>Region.binds .any e&&e.on==7)=true:=by kernel_rfl
 obtain⟨e,e1,e2⟩:=List.any_eq_true.1 h1;rw[Bool.and_eq_true] at e2;exact⟨e,e1,e2.1,by simpa using e2.2⟩
theorem Ti:∀ oX,(aZ R4)[9]? =some oX->oX.op= .alloc 366/\oX.dst=some 7:=by
 intro oX h;have:(aZ R4)[9]? =some (((aZ R4).toList[9]?).getD default):=by kernel_rfl
 rw[this] at h;injection h with h;subst h;exact⟨by kernel_rfl,by kernel_rfl⟩
theorem PU:∀ oX,(aZ R4)[10]? =some oX->oX.op= .store 366 (.tmp 7) (.tmp 24)/\oX.dst=none/\(∃ e∈oX.after.toList,Region.binds .any e=true/\e.on=8)/\(∃ e∈oX.after.toList,Region.binds .any e=true/\e.on=9):=by
 intro oX h;have:(aZ R4)[10]? =some (((aZ R4).toList[10]?).getD default):=by kernel_rfl
 rw[this] at h;injection h with h;subst h;refine⟨by kernel_rfl,by kernel_rfl, ?_, ?_⟩
 · have h1:(((aZ R4).toList[10]?).getD default).after.toList.any (fun e=>Region.binds .any e&&e.on==8)=true:=by kernel_rfl
   obtain⟨e,e1,e2⟩:=List.any_eq_true.1 h1;rw[Bool.and_eq_true] at e2;exact⟨e,e1,e2.1,by simpa using e2.2⟩
 · have h1:(((aZ R4).toList[10]?).getD default).after.toList.any (fun e=>Region.binds .any e&&e.on==9)=true:=by kernel_rfl
   obtain⟨e,e1,e2⟩:=List.any_eq_true.1 h1;rw[Bool.and_eq_true] at e2;exact⟨e,e1,e2.1,by simpa using e2.2⟩
theorem Hb (w:World):(Instr.alloc 366 true (.tuple #[])).run Tryz.prog w= .ok (.pointer (some ⟨w.heap.size,0,none⟩)) (w.alloc (.cells #[.map none] 366 (0,0))):=by
 have hz:(zeroValue 366).run Tryz.prog w= .ok (.map none) w:=by kernel_rfl
 simp only[Instr.alloc,newVar,newRow,newObj,Sem.run_bind,hz,Result.andThen_ok,Sem.run_pure];rfl
theorem qC (xs ys:List (Nat×AV)) (σ:List AV):iH (xs++ys) σ=iH ys (iH xs σ):=List.foldl_append ..
theorem Ap {xs ys:List (Nat×AV)} {σ:List AV} {d:Nat} {V X:AV} (hx:∀ p∈xs,p.1≠d) (hy:∀ p∈ys,p.1≠d):iH (xs++(d,X)::ys) (σ.set d V)=(iH (xs++ys) σ).set d X:=by
 rw[qC,qC,uN hx];show iH ys (((iH xs σ).set d V).set d X)=_;rw[List.set_set,uN hy]
theorem Aq {xs ys:List (Nat×AV)} {σ:List AV} {d:Nat} {X:AV} (hy:∀ p∈ys,p.1≠d) (hd:d<σ.length):(iH (xs++(d,X)::ys) σ).getD d .any=X:=by
 have hl:∀ (xs:List (Nat×AV)) (σ:List AV),(iH xs σ).length=σ.length:=by
   intro xs
   induction xs with
   | nil=>intro σ;rfl
   | cons p xs ih=>intro σ;show(iH xs (σ.set p.1 p.2)).length=_;rw[ih];simp
 rw[qC];show(iH ys ((iH xs σ).set d X)).getD d .any=X;rw[rO hy,Mm (by rw[hl];exact hd)]
def xS (b:Bool) (p:Nat×AV):List (Nat×AV):=if b=true then [p] else []
theorem iZ {b:Bool} {p q:Nat×AV} (h:q∈xS b p):q=p:=by
 unfold xS at h;split at h <;> simp at h;exact h
section
variable {F:Nat->List AV} {S:Nat->Prop} {w0:World} {Q:Exit->Act->World->Prop} {L:Array Bool} {g:G4} {β:Base} {ρ:Nat->Nat} {D:Nat->Prop} {σ:List AV} {h:List (Option ABlk)} {a:Act} {w:World} {V:AV} {oX:Oper}
theorem cT (hsz:L.size=11) {i j:Nat} (hi:i<11):(L.setIfInBounds i true).getD j false=if i=j then true else L.getD j false:=by
 rw[cO]
 by_cases e:i=j
 · rw[if_pos ⟨e,by omega⟩,if_pos e]
 · rw[if_neg (fun h=>e h.1),if_neg e]
theorem J4.cnext {l0 l7 l8 l9 l10:Bool} (hI:J4 F S w0 l0 l7 l8 l9 l10 g β) (R:Rel β.S β.C β.w ρ D ⟨σ,h⟩ a w):(∀ x,qA ρ h x->w0.heap.size<=x)/\Chg No w0 w:=by
 refine⟨fun x hx=>R.ownC_ge hx hI.c hI.chg.size,hI.chg.trans R.chg fun i hi hc=> ?_⟩
 have:=hI.c i hc;omega
theorem Tj (hoX:(aZ R4)[0]? =some oX) (hg:oX.guard=none) (hI:I4 F S w0 L g β) (hsz:L.size=11) (hun:L.getD 0 false=false) (R:Rel β.S β.C β.w ρ D ⟨iH g.ov σ,h⟩ a w):
   wpOp Tryz.prog (aZ R4) Q 0 (fun a' w'=>∃ g' β',I4 F S w0 (L.setIfInBounds 0 true) g' β'/\Rel β'.S β'.C β'.w ρ D ⟨iH g'.ov (put σ oX.dst V),h⟩ a' w') a w:=by
 obtain⟨hop,hd⟩:=Tf oX hoX;unfold I4 at hI;rw[hun] at hI
 have h7:L.getD 7 false=false:=by
   cases h:L.getD 7 false with
   | false=>rfl
   | true=>exact absurd (hI.e7 h) (by decide)
 rw[h7] at hI
 have h8:L.getD 8 false=false:=by
   cases h:L.getD 8 false with
   | false=>rfl
   | true=>exact absurd (hI.e8 h) (by decide)
 rw[h8] at hI
 have h10:L.getD 10 false=false:=by
   cases h:L.getD 10 false with
   | false=>rfl
   | true=>exact absurd ((hI.e10 h).1) (by decide)
 rw[h10] at hI;obtain⟨l9,h9⟩:∃ b,L.getD 9 false=b:=⟨_,rfl⟩;rw[h9] at hI;obtain⟨c1,c2⟩:=hI.cnext R;have hw9:l9=true->β.S g.k:=fun h9=>(hI.s _).2 (.inr (.inr ⟨h9,rfl⟩))
 have R1:=R.grow (X:=No) (S1:=fun x=>β.S x\/x=w.heap.size) (Chg.alloc w (.map #[] 0)) (fun _ h=>h.elim) (fun _ h=>.inl h) (fun k hk=>hk.imp id fun e=>by subst e;exact⟨Nat.le_refl _,by simp⟩) (dst:=some 17) (V:=fY w.heap.size) (v:=.map (some w.heap.size)) (bA (.lit rfl .done));have hov:g.ov=xS l9 (7,mI g.k):=hI.ov
 have e:iH ((17,fY w.heap.size)::xS l9 (7,mI g.k)) (put σ (some 17) V)=put (iH g.ov σ) (some 17) (fY w.heap.size):=by
   rw[hov];exact Ap (xs:=[]) (by simp) fun p hp=>by rw[iZ hp];simp
 refine kO hoX hg (v:=.map (some w.heap.size)) (w':=w.alloc (.map #[] 0)) (by rw[execOp,hop];rfl) ?_;rw[hd];refine⟨⟨(17,fY w.heap.size)::xS l9 (7,mI g.k),w.heap.size,g.k⟩,⟨fun x=>β.S x\/x=w.heap.size,qA ρ h,w.alloc (.map #[] 0)⟩, ?_,by simp only[e];exact R1⟩;have a0:(L.setIfInBounds 0 true).getD 0 false=true:=by rw[cT hsz (by decide),if_pos rfl]
 have a7:(L.setIfInBounds 0 true).getD 7 false=false:=by rw[cT hsz (by decide),if_neg (by decide)];exact h7
 have a8:(L.setIfInBounds 0 true).getD 8 false=false:=by rw[cT hsz (by decide),if_neg (by decide)];exact h8
 have a9:(L.setIfInBounds 0 true).getD 9 false=l9:=by rw[cT hsz (by decide),if_neg (by decide)];exact h9
 have a10:(L.setIfInBounds 0 true).getD 10 false=false:=by rw[cT hsz (by decide),if_neg (by decide)];exact h10
 unfold I4;rw[a0,a7,a8,a9,a10]
 exact {
     c:=c1
     chg:=c2.trans (Chg.alloc _ _) fun _ _ h=>h.elim
     ov:=by simp[xS]
     s :=fun x=>by
       have:=hI.s x;simp at this ⊢;rw[this];constructor
       · rintro((h | h) | h)
         · exact .inl h
         · exact .inr (.inr h)
         · exact .inr (.inl h)
       · rintro(h | h | h)
         · exact .inl (.inl h)
         · exact .inr h
         · exact .inl (.inr h)
     r0:=fun _=>⟨c2.size,fun hx=>Nat.lt_irrefl _ (R.ownC_lt hx),by simp⟩
     r1:=fun _ _=>heap_alloc_new w _
     r2:=fun h=>by cases h
     k0:=fun h9=>by
       obtain⟨k1,k2,k3⟩:=hI.k0 h9;exact⟨k1,R.ownC_no (hw9 h9),by simp;have:=R.chg.size;omega⟩
     k1:=fun h9=>by
       obtain⟨k1,k2,k3⟩:=hI.k0 h9;obtain⟨c,e1,e2⟩:=hI.k1 h9;refine⟨c, ?_,fun h=>by cases h⟩;rw[<- e1, <- R.chg.block _ k3 k2];exact Below.heap_alloc w _ _ (Nat.lt_of_lt_of_le k3 R.chg.size)
     e7:=fun h=>by cases h
     e8:=fun h=>by cases h
     e10:=fun h=>by cases h }
theorem Tk (hF:eC (.agg (F 0))=true) (hoX:(aZ R4)[7]? =some oX) (hg:oX.guard=none) (hI:I4 F S w0 L g β) (hsz:L.size=11) (hun:L.getD 7 false=false) (hed:∀ e∈oX.after.toList,Region.binds .any e=true->L.getD e.on false=true) (hA:σ.getD 23 .any= .agg (F 0)) (R:Rel β.S β.C β.w ρ D ⟨iH g.ov σ,h⟩ a w):
   wpOp Tryz.prog (aZ R4) Q 7 (fun a' w'=>∃ g' β',I4 F S w0 (L.setIfInBounds 7 true) g' β'/\Rel β'.S β'.C β'.w ρ D ⟨iH g'.ov (put σ oX.dst V),h⟩ a' w') a w:=by
 obtain⟨hop,hd,e0,e1,e2,e3⟩:=Tg oX hoX;have h0:=hed _ e1 e2;rw[e3] at h0;unfold I4 at hI;rw[h0,hun] at hI
 have h8:L.getD 8 false=false:=by
   cases h:L.getD 8 false with
   | false=>rfl
   | true=>exact absurd (hI.e8 h) (by decide)
 rw[h8] at hI
 have h10:L.getD 10 false=false:=by
   cases h:L.getD 10 false with
   | false=>rfl
   | true=>exact absurd ((hI.e10 h).1) (by decide)
 rw[h10] at hI;obtain⟨l9,h9⟩:∃ b,L.getD 9 false=b:=⟨_,rfl⟩;rw[h9] at hI;obtain⟨c1,c2⟩:=hI.cnext R;have hov:g.ov=(17,fY g.r)::xS l9 (7,mI g.k):=hI.ov;have hlen:23<σ.length:=An hA (by intro h;cases h);have q1:=R.eval (.tmp 17);have q2:=R.eval (.tmp 23)
 have e17:bI (iH g.ov σ) (.tmp 17)=fY g.r:=by
   rw[hov];exact Aq (xs:=[]) (fun p hp=>by rw[iZ hp];simp) (by omega)
 have e23:bI (iH g.ov σ) (.tmp 23)= .agg (F 0):=by
   show(iH g.ov σ).getD 23 .any=_;rw[rO,hA];intro p hp;rw[hov] at hp;rcases List.mem_cons.1 hp with rfl | hp
   · simp
   · rw[iZ hp];simp
 rw[e17] at q1;rw[e23] at q2;obtain⟨us,u1,u2⟩:=RelV0.noRef q2 hF ρ0;obtain⟨r1,r2,r3⟩:=hI.r0 rfl;have hr:=hI.r1 rfl rfl;have hrw:w.heap[g.r]? =some (.map #[] 0):=by rw[R.chg.block _ r3 r2];exact hr
 have hS:β.S g.r:=(hI.s _).2 (.inr (.inl ⟨rfl,rfl⟩));have M0:Memo F 0 (Sof β.S ρ h) w g.r:=⟨#[],0,hrw,rfl,fun j e he=>by simp at he⟩;obtain⟨w2,hrun,hch,M2⟩:=M0.upd xD CP u2 (.inl hS);have hw9:l9=true->β.S g.k:=fun h9=>(hI.s _).2 (.inr (.inr ⟨h9,rfl⟩))
 have q0:a.eval (.const (.int .i64 0))= .int .i64 ((0:Nat):Int):=rfl;refine tB hoX hg (w':=w2) (by rw[execOp,hop];simp only[q1.lit_inv,u1,q0,Sem.run_bind,hrun];rfl) ?_;rw[hd];refine⟨g,⟨β.S,qA ρ h,w2⟩, ?_,R.turn hch (fun k hk=>by subst hk;exact hS) (V:=.any) (.inl rfl)⟩;have a0:(L.setIfInBounds 7 true).getD 0 false=true:=by rw[cT hsz (by decide),if_neg (by decide)];exact h0
 have a7:(L.setIfInBounds 7 true).getD 7 false=true:=by rw[cT hsz (by decide),if_pos rfl]
 have a8:(L.setIfInBounds 7 true).getD 8 false=false:=by rw[cT hsz (by decide),if_neg (by decide)];exact h8
 have a9:(L.setIfInBounds 7 true).getD 9 false=l9:=by rw[cT hsz (by decide),if_neg (by decide)];exact h9
 have a10:(L.setIfInBounds 7 true).getD 10 false=false:=by rw[cT hsz (by decide),if_neg (by decide)];exact h10
 unfold I4;rw[a0,a7,a8,a9,a10]
 exact {
     c:=c1
     chg:=c2.trans hch fun i hi hx=>by subst hx;omega
     ov:=by rw[hov];simp[xS]
     s:=hI.s
     r0:=fun _=>⟨r1,R.ownC_no hS,Nat.lt_of_lt_of_le r3 (Nat.le_trans R.chg.size hch.size)⟩
     r1:=fun _ h=>by cases h
     r2:=fun _=>M2
     k0:=fun h9=>by
       obtain⟨k1,k2,k3⟩:=hI.k0 h9;exact⟨k1,R.ownC_no (hw9 h9),Nat.lt_of_lt_of_le k3 (Nat.le_trans R.chg.size hch.size)⟩
     k1:=fun h9=>by
       obtain⟨k1,k2,k3⟩:=hI.k0 h9;obtain⟨c,e1,e2⟩:=hI.k1 h9;refine⟨c, ?_,fun h=>by cases h⟩;rw[<- e1, <- R.chg.block _ k3 k2];refine hch.block _ (Nat.lt_of_lt_of_le k3 R.chg.size) fun e=> ?_
       rw[e,hr] at e1;cases e1
     e7:=fun _=>rfl
     e8:=fun h=>by cases h
     e10:=fun h=>by cases h }
theorem Tl (hoX:(aZ R4)[8]? =some oX) (hg:oX.guard=none) (hI:I4 F S w0 L g β) (hsz:L.size=11) (hun:L.getD 8 false=false) (hed:∀ e∈oX.after.toList,Region.binds .any e=true->L.getD e.on false=true) (hA:σ.getD 23 .any= .agg (F 0)) (R:Rel β.S β.C β.w ρ D ⟨iH g.ov σ,h⟩ a w):
   wpOp Tryz.prog (aZ R4) Q 8 (fun a' w'=>∃ g' β',I4 F S w0 (L.setIfInBounds 8 true) g' β'/\Rel β'.S β'.C β'.w ρ D ⟨iH g'.ov (put σ oX.dst V),h⟩ a' w') a w:=by
 obtain⟨hop,hd,e0,e1,e2,e3⟩:=Th oX hoX;have h7:=hed _ e1 e2;rw[e3] at h7;unfold I4 at hI;rw[h7,hun] at hI;have h0:=hI.e7 rfl;rw[h0] at hI
 have h10:L.getD 10 false=false:=by
   cases h:L.getD 10 false with
   | false=>rfl
   | true=>exact absurd ((hI.e10 h).1) (by decide)
 rw[h10] at hI;obtain⟨l9,h9⟩:∃ b,L.getD 9 false=b:=⟨_,rfl⟩;rw[h9] at hI;have hov:g.ov=(17,fY g.r)::xS l9 (7,mI g.k):=hI.ov;have hlen:23<σ.length:=An hA (by intro h;cases h);have q1:=R.eval (.tmp 17)
 have e17:bI (iH g.ov σ) (.tmp 17)=fY g.r:=by
   rw[hov];exact Aq (xs:=[]) (fun p hp=>by rw[iZ hp];simp) (by omega)
 rw[e17] at q1
 have e:iH ([(17,fY g.r)]++(24,fY g.r)::xS l9 (7,mI g.k)) (put σ (some 24) V)=put (iH g.ov σ) (some 24) (fY g.r):=by
   rw[hov];exact Ap (xs:=[(17,fY g.r)]) (by simp) fun p hp=>by rw[iZ hp];simp
 refine kO hoX hg (v:=.map (some g.r)) (w':=w) (by rw[execOp,hop];simp only[q1.lit_inv];rfl) ?_;rw[hd];refine⟨⟨[(17,fY g.r)]++(24,fY g.r)::xS l9 (7,mI g.k),g.r,g.k⟩,β, ?_,by simp only[e];exact R.val (bA (.lit rfl .done))⟩;have a0:(L.setIfInBounds 8 true).getD 0 false=true:=by rw[cT hsz (by decide),if_neg (by decide)];exact h0
 have a7:(L.setIfInBounds 8 true).getD 7 false=true:=by rw[cT hsz (by decide),if_neg (by decide)];exact h7
 have a8:(L.setIfInBounds 8 true).getD 8 false=true:=by rw[cT hsz (by decide),if_pos rfl]
 have a9:(L.setIfInBounds 8 true).getD 9 false=l9:=by rw[cT hsz (by decide),if_neg (by decide)];exact h9
 have a10:(L.setIfInBounds 8 true).getD 10 false=false:=by rw[cT hsz (by decide),if_neg (by decide)];exact h10
 unfold I4;rw[a0,a7,a8,a9,a10]
 exact {
     c:=hI.c
     chg:=hI.chg
     ov:=by simp[xS]
     s:=hI.s
     r0:=hI.r0
     r1:=fun _ h=>by cases h
     r2:=hI.r2
     k0:=hI.k0
     k1:=fun h9=>by
       obtain⟨c,e1,e2⟩:=hI.k1 h9;exact⟨c,e1,fun h=>by cases h⟩
     e7:=fun _=>rfl
     e8:=fun _=>rfl
     e10:=fun h=>by cases h }
theorem Tm (hoX:(aZ R4)[9]? =some oX) (hg:oX.guard=none) (hI:I4 F S w0 L g β) (hsz:L.size=11) (hun:L.getD 9 false=false) (R:Rel β.S β.C β.w ρ D ⟨iH g.ov σ,h⟩ a w):
   wpOp Tryz.prog (aZ R4) Q 9 (fun a' w'=>∃ g' β',I4 F S w0 (L.setIfInBounds 9 true) g' β'/\Rel β'.S β'.C β'.w ρ D ⟨iH g'.ov (put σ oX.dst V),h⟩ a' w') a w:=by
 obtain⟨hop,hd⟩:=Ti oX hoX;unfold I4 at hI;rw[hun] at hI
 have h10:L.getD 10 false=false:=by
   cases h:L.getD 10 false with
   | false=>rfl
   | true=>exact absurd ((hI.e10 h).2) (by decide)
 rw[h10] at hI;obtain⟨l0,h0⟩:∃ b,L.getD 0 false=b:=⟨_,rfl⟩;obtain⟨l7,h7⟩:∃ b,L.getD 7 false=b:=⟨_,rfl⟩;obtain⟨l8,h8⟩:∃ b,L.getD 8 false=b:=⟨_,rfl⟩;rw[h0,h7,h8] at hI;obtain⟨c1,c2⟩:=hI.cnext R;have hw0:l0=true->β.S g.r:=fun h=>(hI.s _).2 (.inr (.inl ⟨h,rfl⟩))
 have R1:=R.grow (X:=No) (S1:=fun x=>β.S x\/x=w.heap.size) (Chg.alloc w (.cells #[.map none] 366 (0,0))) (fun _ h=>h.elim) (fun _ h=>.inl h) (fun k hk=>hk.imp id fun e=>by subst e;exact⟨Nat.le_refl _,by simp⟩) (dst:=some 7) (V:=mI w.heap.size) (v:=.pointer (some ⟨w.heap.size,0,none⟩)) (bA (.lit rfl .done));have hov:g.ov=xS l0 (17,fY g.r)++xS l8 (24,fY g.r):=by rw[hI.ov];simp[xS]
 have e:iH ((xS l0 (17,fY g.r)++xS l8 (24,fY g.r))++(7,mI w.heap.size):: []) (put σ (some 7) V)=put (iH g.ov σ) (some 7) (mI w.heap.size):=by
   have:=Ap (xs:=xS l0 (17,fY g.r)++xS l8 (24,fY g.r)) (ys:=[]) (σ:=σ) (d:=7) (V:=V) (X:=mI w.heap.size) (fun p hp=>by
     rcases List.mem_append.1 hp with hp | hp
     · rw[iZ hp];simp
     · rw[iZ hp];simp) (by simp)
   rw[List.append_nil, <- hov] at this;rw[<- hov];exact this
 refine kO hoX hg (v:=.pointer (some ⟨w.heap.size,0,none⟩)) (w':=w.alloc (.cells #[.map none] 366 (0,0))) (by rw[execOp,hop];simp only[Sem.run_bind,Hb];rfl) ?_;rw[hd];have hne:l0=true->g.r<w.heap.size:=fun h=>by have:=(hI.r0 h).2.2;have:=R.chg.size;omega
 refine⟨⟨(xS l0 (17,fY g.r)++xS l8 (24,fY g.r))++(7,mI w.heap.size):: [],g.r,w.heap.size⟩,⟨fun x=>β.S x\/x=w.heap.size,qA ρ h,w.alloc (.cells #[.map none] 366 (0,0))⟩, ?_,by simp only[e];exact R1⟩;have a0:(L.setIfInBounds 9 true).getD 0 false=l0:=by rw[cT hsz (by decide),if_neg (by decide)];exact h0
 have a7:(L.setIfInBounds 9 true).getD 7 false=l7:=by rw[cT hsz (by decide),if_neg (by decide)];exact h7
 have a8:(L.setIfInBounds 9 true).getD 8 false=l8:=by rw[cT hsz (by decide),if_neg (by decide)];exact h8
 have a9:(L.setIfInBounds 9 true).getD 9 false=true:=by rw[cT hsz (by decide),if_pos rfl]
 have a10:(L.setIfInBounds 9 true).getD 10 false=false:=by rw[cT hsz (by decide),if_neg (by decide)];exact h10
 unfold I4;rw[a0,a7,a8,a9,a10]
 exact {
     c:=c1
     chg:=c2.trans (Chg.alloc _ _) fun _ _ h=>h.elim
     ov:=by simp[xS]
     s :=fun x=>by
       have:=hI.s x;simp at this ⊢;rw[this];constructor
       · rintro((h | h) | h)
         · exact .inl h
         · exact .inr (.inl h)
         · exact .inr (.inr h)
       · rintro(h | h | h)
         · exact .inl (.inl h)
         · exact .inl (.inr h)
         · exact .inr h
     r0:=fun h=>by
       obtain⟨k1,k2,k3⟩:=hI.r0 h;exact⟨k1,R.ownC_no (hw0 h),by simp;have:=R.chg.size;omega⟩
     r1:=fun h k=>by
       obtain⟨k1,k2,k3⟩:=hI.r0 h;rw[<- hI.r1 h k, <- R.chg.block _ k3 k2];exact Below.heap_alloc w _ _ (hne h)
     r2:=fun h=>by
       have h':=hI.e7 h;obtain⟨k1,k2,k3⟩:=hI.r0 h';have M1:=(hI.r2 h).now R k2;refine M1.keep (by simp) (Below.heap_alloc w _ _ (hne h')) fun k hk hs=>⟨?_,Below.heap_alloc w _ _ hk⟩
       rintro((h | h) | h)
       · exact hs (.inl h)
       · omega
       · exact hs (.inr h)
     k0:=fun _=>⟨c2.size,fun hx=>Nat.lt_irrefl _ (R.ownC_lt hx),by simp⟩
     k1:=fun _=>⟨.map none,heap_alloc_new w _,fun h=>by cases h⟩
     e7:=hI.e7
     e8:=hI.e8
     e10:=fun h=>by cases h }
theorem PV (h24:24<σ.length) (hoX:(aZ R4)[10]? =some oX) (hg:oX.guard=none) (hI:I4 F S w0 L g β) (hsz:L.size=11) (hun:L.getD 10 false=false) (hed:∀ e∈oX.after.toList,Region.binds .any e=true->L.getD e.on false=true) (hA:σ.getD 23 .any= .agg (F 0)) (R:Rel β.S β.C β.w ρ D ⟨iH g.ov σ,h⟩ a w):
   wpOp Tryz.prog (aZ R4) Q 10 (fun a' w'=>∃ g' β',I4 F S w0 (L.setIfInBounds 10 true) g' β'/\Rel β'.S β'.C β'.w ρ D ⟨iH g'.ov (put σ oX.dst V),h⟩ a' w') a w:=by
 obtain⟨hop,hd,⟨e1,e2,e3,e4⟩,f1,f2,f3,f4⟩:=PU oX hoX;have h8:=hed _ e2 e3;rw[e4] at h8;have h9:=hed _ f2 f3;rw[f4] at h9;unfold I4 at hI;rw[h8,h9,hun] at hI;have h7:=hI.e8 rfl;rw[h7] at hI;have h0:=hI.e7 rfl;rw[h0] at hI;obtain⟨c1,c2⟩:=hI.cnext R;have hov:g.ov= [(17,fY g.r),(24,fY g.r),(7,mI g.k)]:=hI.ov;have hlen:23<σ.length:=An hA (by intro h;cases h);have q1:=R.eval (.tmp 7);have q2:=R.eval (.tmp 24);obtain⟨r1,r2,r3⟩:=hI.r0 rfl;obtain⟨k1,k2,k3⟩:=hI.k0 rfl;obtain⟨c,kc,_⟩:=hI.k1 rfl;have hS:β.S g.r:=(hI.s _).2 (.inr (.inl ⟨rfl,rfl⟩));have hK:β.S g.k:=(hI.s _).2 (.inr (.inr ⟨rfl,rfl⟩));have M1:=hI.r2 rfl
 have hrk:g.r≠g.k:=fun e=>by
   obtain⟨es,clk,m1,_⟩:=M1;rw[e,kc] at m1;cases m1
 have e7:bI (iH g.ov σ) (.tmp 7)=mI g.k:=by
   rw[hov];show(iH ([(17,fY g.r),(24,fY g.r)]++(7,mI g.k):: []) σ).getD 7 .any=_;exact Aq (by simp) (by omega)
 have e24:bI (iH g.ov σ) (.tmp 24)=fY g.r:=by
   rw[hov];show(iH ([(17,fY g.r)]++(24,fY g.r):: [(7,mI g.k)]) σ).getD 24 .any=_;exact Aq (by simp) h24
 rw[e7] at q1;rw[e24] at q2;have kw:w.heap[g.k]? =some (.cells #[c] 366 (0,0)):=by rw[R.chg.block _ k3 k2];exact kc
 have hklt:=fT kw;have hset:=MapKept.heap_set (o':=.cells #[.map (some g.r)] 366 (0,0)) kw
 have hch:Chg (· =g.k) w { w with heap:=w.heap.setIfInBounds g.k (.cells #[.map (some g.r)] 366 (0,0)) }:=
   ⟨rfl,rfl,rfl,by simp,fun k _ hk=>hset.2 k hk,fun k arr ty ha=>by
     by_cases e:k=g.k
     · subst e
       rw[kw] at ha;injection ha with ha;injection ha with ha1 ha2;subst ha1;exact⟨_,_,hset.1,by simp⟩
     · exact⟨arr,ty,by rw[hset.2 k e];exact ha,Nat.le_refl _⟩⟩
 have hrun:(storeVar 366 ⟨g.k,0,none⟩ (.map (some g.r))).run Tryz.prog w= .ok () { w with heap:=w.heap.setIfInBounds g.k (.cells #[.map (some g.r)] 366 (0,0)) }:=by
   have:=pH (P:=Tryz.prog) (aX 366 ⟨1,8,[.lit (.map none)],.other⟩ (by kernel_rfl)) kw (v:=.map (some g.r)) (off:=0) rfl (by simp[Value.cells,Value.oneCell']) (by simp);simpa[Value.cells] using this
 refine tB hoX hg (w':={ w with heap:=w.heap.setIfInBounds g.k (.cells #[.map (some g.r)] 366 (0,0)) }) (by rw[execOp,hop];simp only[q1.lit_inv,q2.lit_inv,tH,Sem.run_bind,hrun,Result.andThen_ok,Sem.run_pure]) ?_;rw[hd];refine⟨g,⟨β.S,qA ρ h,_⟩, ?_,R.turn hch (fun k hk=>by subst hk;exact hK) (V:=.any) (.inl rfl)⟩;have a0:(L.setIfInBounds 10 true).getD 0 false=true:=by rw[cT hsz (by decide),if_neg (by decide)];exact h0
 have a7:(L.setIfInBounds 10 true).getD 7 false=true:=by rw[cT hsz (by decide),if_neg (by decide)];exact h7
 have a8:(L.setIfInBounds 10 true).getD 8 false=true:=by rw[cT hsz (by decide),if_neg (by decide)];exact h8
 have a9:(L.setIfInBounds 10 true).getD 9 false=true:=by rw[cT hsz (by decide),if_neg (by decide)];exact h9
 have a10:(L.setIfInBounds 10 true).getD 10 false=true:=by rw[cT hsz (by decide),if_pos rfl]
 unfold I4;rw[a0,a7,a8,a9,a10]
 exact {
     c:=c1
     chg:=c2.trans hch fun i hi hx=>by subst hx;omega
     ov:=hI.ov
     s:=hI.s
     r0:=fun _=>⟨r1,R.ownC_no hS,Nat.lt_of_lt_of_le r3 (Nat.le_trans R.chg.size hch.size)⟩
     r1:=fun _ h=>by cases h
     r2:=fun _=>(M1.now R r2).keep hch.size (hset.2 _ hrk) fun k hk hs=>⟨hs,hch.block k hk fun e=>hs (.inl (e▸hK))⟩
     k0:=fun _=>⟨k1,R.ownC_no hK,Nat.lt_of_lt_of_le hklt hch.size⟩
     k1:=fun _=>⟨_,hset.1,fun _=>rfl⟩
     e7:=fun _=>rfl
     e8:=fun _=>rfl
     e10:=fun _=>⟨rfl,rfl⟩ }
end
def fC:=(kn.cons UK).cons Vr
abbrev tC (r:Nat) (m:MachD) (jb:Nat) (p:PoseD):List AV:=[.cptr [.lit (.map (some r))] 0,.cptr [.fn 209 [.cptr [.lit (.map (some r))] 0,AV.any,.cptr (aE 300 m) 0,.cptr (bB jb p) 0]] 0,.cptr (aE 300 m) 0,.cptr (bB jb p) 0]
abbrev Hc (ff:Func):List Item:=[.code (aR [1,1,1,1,1,1,0,1,0,0,1,1,0,0,1] (aA ff)),.inBlock 1,.code (aR [1,1,1,1,1,1,0,1,0,0,1,1,1] (aA ff)),.inLoop (aR [1,1,1,1,1,1,0,1,0,0] (aA ff)),.inBlock 0,.code (aR [1,1,1,1,1,1,1] (aA ff))]
abbrev Hd (ff:Func):List Item:=[.inBlock 1,.code (aR [1,1,1,1,1,1,0,1,0,0,1,1,1] (aA ff)),.inLoop (aR [1,1,1,1,1,1,0,1,0,0] (aA ff)),.inBlock 0,.code (aR [1,1,1,1,1,1,1] (aA ff))]
section
variable {S0 C0:Nat->Prop} {w0:World} {Post:Value->World->Prop}
theorem Mn {γ:Type} (ovl:γ->List (Nat×AV)) (I:Array Bool->γ->Base->Prop) (m:MachD) (p:PoseD) (jb e:Nat) (f:FrameD) (o:(4*jb+800<=LIM)/\(Ref (.agg [.q p.at_.x jb,.q p.at_.z jb,.q ((1-p.turn*p.turn)/(1+p.turn*p.turn)) (4*jb+200),.q ((p.turn+p.turn)/(1+p.turn*p.turn)) (4*jb+200)]) (.agg (iG e f))))
   (hks:∀ L g β,I L g β->∀ q∈ovl g,q.1∈ [17,24,7]) (hI:∀ listed i g β,i ∉ [0,7,8,9,10]->I listed g β->I (listed.setIfInBounds i true) g β) (hX:∀ i∈ [0,7,8,9,10],∀ (Q:Exit->Act->World->Prop) listed g β ρ D σ h a w V oX,(aZ (aR [1,1,0] (aA Tryz.f117)))[i]? =some oX->oX.guard=none->I listed g β->listed.size=(aZ (aR [1,1,0] (aA Tryz.f117))).size->listed.getD i false=false->(∀ e∈oX.after.toList,Region.binds .any e=true->listed.getD e.on false=true)->(∀ τ∈(fun i=>if i=7 then [23] else if i=8 then [23] else if i=10 then [23] else []) i,σ.getD τ .any=(slots 49 [(2,.cptr (aE 300 m) 0),(3,(.cptr [(.q p.at_.x jb),(.q p.at_.z jb),(.q p.turn jb),(.list 3 (p.joints.map (dU jb)))] 0)),(18,(.cptr [(.q p.at_.x jb),(.q p.at_.z jb),(.q p.turn jb),(.list 3 (p.joints.map (dU jb)))] 0)),(19,.agg [(.q p.at_.x jb),(.q p.at_.z jb)]),(20,(.cptr [(.q p.at_.x jb),(.q p.at_.z jb),(.q p.turn jb),(.list 3 (p.joints.map (dU jb)))] 6)),(21,.agg [(.q p.turn jb)]),(22,(.agg [(.q ((1-p.turn*p.turn)/(1+p.turn*p.turn)) (4*jb+200)),(.q ((p.turn+p.turn)/(1+p.turn*p.turn)) (4*jb+200))])),(23,.agg [(.q f.at_.x (2*e)),(.q f.at_.z (2*e)),(.q f.c e),(.q f.s e)])]).getD τ .any)->σ.length=(slots 49 [(2,.cptr (aE 300 m) 0),(3,(.cptr [(.q p.at_.x jb),(.q p.at_.z jb),(.q p.turn jb),(.list 3 (p.joints.map (dU jb)))] 0)),(18,(.cptr [(.q p.at_.x jb),(.q p.at_.z jb),(.q p.turn jb),(.list 3 (p.joints.map (dU jb)))] 0)),(19,.agg [(.q p.at_.x jb),(.q p.at_.z jb)]),(20,(.cptr [(.q p.at_.x jb),(.q p.at_.z jb),(.q p.turn jb),(.list 3 (p.joints.map (dU jb)))] 6)),(21,.agg [(.q p.turn jb)]),(22,(.agg [(.q ((1-p.turn*p.turn)/(1+p.turn*p.turn)) (4*jb+200)),(.q ((p.turn+p.turn)/(1+p.turn*p.turn)) (4*jb+200))])),(23,.agg [(.q f.at_.x (2*e)),(.q f.at_.z (2*e)),(.q f.c e),(.q f.s e)])]).length->Rel β.S β.C β.w ρ D ⟨iH (ovl g) σ,h⟩ a w->wpOp Tryz.prog (aZ (aR [1,1,0] (aA Tryz.f117))) Q i (fun a' w'=>∃ g' β',I (listed.setIfInBounds i true) g' β'/\Rel β'.S β'.C β'.w ρ D ⟨iH (ovl g') (put σ oX.dst V),h⟩ a' w') a w) (g0:γ) (hB:I (Array.replicate (aZ (aR [1,1,0] (aA Tryz.f117))).size false) g0 ⟨S0,C0,w0⟩) (h0:ovl g0= [])
   (hgood:∀ listed g β,(∀ i,i<(aZ (aR [1,1,0] (aA Tryz.f117))).size->listed.getD i false=true)->I listed g β->Good Tryz.prog 117 β.S β.C β.w Post [.code (aR [1,1,1] (aA Tryz.f117))] ⟨iH (ovl g) (slots 49 [(2,.cptr (aE 300 m) 0),(3,.cptr (bB jb p) 0),(18,.cptr (bB jb p) 0),(19,.agg [.q p.at_.x jb,.q p.at_.z jb]),(20,.cptr (bB jb p) 6),(21,.agg [.q p.turn jb]),(22,.agg [.q ((1-p.turn*p.turn)/(1+p.turn*p.turn)) (4*jb+200),.q ((p.turn+p.turn)/(1+p.turn*p.turn)) (4*jb+200)]),(23,.agg (iG e f))]),[none]⟩):
   Good Tryz.prog 117 S0 C0 w0 Post [.code (aR [1,1,0] (aA Tryz.f117)),.code (aR [1,1,1] (aA Tryz.f117))] ⟨slots 49 [(2,.cptr (aE 300 m) 0),(3,.cptr (bB jb p) 0)],[]⟩:=
 Good.regXs mixed aX fC (c:=aR [1,1,0] (aA Tryz.f117)) [0,7,8,9,10] [17,24,7] (fun i=>if i=7 then [23] else if i=8 then [23] else if i=10 then [23] else []) ovl I (ov:=[(17,AV.any),(23,(.agg (iG e f))),(24,AV.any),(7,AV.any)]) (ob:=[4*jb+800<=LIM,Ref (.agg [.q p.at_.x jb,.q p.at_.z jb,.q ((1-p.turn*p.turn)/(1+p.turn*p.turn)) (4*jb+200),.q ((p.turn+p.turn)/(1+p.turn*p.turn)) (4*jb+200)]) (.agg (iG e f))]) (by kernel_rfl) (by kernel_rfl)
   (.cons (o.1) (.cons (o.2) (AllP.nil))) (by kernel_rfl) (by kernel_rfl) hks hI hX g0 hB h0 hgood
theorem Mo {B B':Base->Prop} (m:MachD) (p:PoseD) (jb r:Nat) (i n s:Nat) (f:FrameD) (o:(1*224<=140737488355328)/\(1<=big))
   (hB:B ⟨S0,C0,w0⟩) (hX:∀ (Q:Exit->Act->World->Prop) β ρ D σ h a w,B β->Rel β.S β.C β.w ρ D ⟨σ,h⟩ a w->(∀ τ∈ [40,41],σ.getD τ .any=(slots 49 [(8,(.cptr [(.fn 209 [(.cptr [(.lit (.map (some r)))] 0),(.cptr [(.fn 209 [(.cptr [(.lit (.map (some r)))] 0),.any,(.cptr (aE 300 m) 0),(.cptr [(.q p.at_.x jb),(.q p.at_.z jb),(.q p.turn jb),(.list 3 (p.joints.map (dU jb)))] 0)])] 0),(.cptr (aE 300 m) 0),(.cptr [(.q p.at_.x jb),(.q p.at_.z jb),(.q p.turn jb),(.list 3 (p.joints.map (dU jb)))] 0)])] 0)),(9,.ptr 0 7 0 0),(10,.i6 (i:Int)),(31,.i6 (n:Int)),(32,.i6 (i:Int)),(35,.ptr 0 7 0 0),(36,.ptr 0 7 0 0),(37,.ptr 0 7 0 0),(38,.ptr 0 7 0 6),(39,.nil),(40,(.fn 209 [(.cptr [(.lit (.map (some r)))] 0),(.cptr [(.fn 209 [(.cptr [(.lit (.map (some r)))] 0),.any,(.cptr (aE 300 m) 0),(.cptr [(.q p.at_.x jb),(.q p.at_.z jb),(.q p.turn jb),(.list 3 (p.joints.map (dU jb)))] 0)])] 0),(.cptr (aE 300 m) 0),(.cptr [(.q p.at_.x jb),(.q p.at_.z jb),(.q p.turn jb),(.list 3 (p.joints.map (dU jb)))] 0)])),(41,.i6 (i:Int)),(42,.agg [(.q f.at_.x (2*s)),(.q f.at_.z (2*s)),(.q f.c s),(.q f.s s)]),(43,.own 1 12 0 1),(44,.own 2 12 0 1),(45,.ptr 0 7 0 0),(46,.ptr 0 7 0 6)]).getD τ .any)->wpOp Tryz.prog (aZ (aR [1,1,1,1,1,1,0,1,0,0,1,1,0,0,1] (aA Tryz.f117))) Q 7 (fun a' w'=>∃ β',B' β'/\Rel β'.S β'.C β'.w ρ D ⟨put σ (some 42) (.agg (iG s f)),h⟩ a' w') a w)
   (hg:∀ β,B' β->Good Tryz.prog 117 β.S β.C β.w Post (Hd Tryz.f117) ⟨slots 49 [(8,.cptr [.fn 209 (tC r m jb p)] 0),(9,.ptr 0 7 0 0),(10,.i6 (i:Int)),(31,.i6 (n:Int)),(32,.i6 (i:Int)),(35,.ptr 0 7 0 0),(36,.ptr 0 7 0 0),(37,.ptr 0 7 0 0),(38,.ptr 0 7 0 6),(39,.nil),(40,.fn 209 (tC r m jb p)),(41,.i6 (i:Int)),(42,.agg (iG s f)),(43,.own 1 12 0 1),(44,.own 2 12 0 1),(45,.ptr 0 7 0 0),(46,.ptr 0 7 0 6)],[some ⟨264,7,false,[[.str m.name,.list 27 (m.bodies.map (aH 300)),.list 17 (m.springs.map (aN 300)),.list 17 (m.tendons.map (aN 300)),.list 13 (m.motors.map (aV 300)),.list 5 (m.feet.map (bH 300)),.own 2 12 0 1]],none⟩,some ⟨175,12,false,[(iG s f)],none⟩,some ⟨175,12,true,[(iG s f)],none⟩]⟩):
   Good Tryz.prog 117 S0 C0 w0 Post (Hc Tryz.f117) ⟨slots 49 [(8,.cptr [.fn 209 (tC r m jb p)] 0),(9,.ptr 0 7 0 0),(10,.i6 (i:Int)),(31,.i6 (n:Int)),(32,.i6 (i:Int))],[some ⟨264,7,false,[[.str m.name,.list 27 (m.bodies.map (aH 300)),.list 17 (m.springs.map (aN 300)),.list 17 (m.tendons.map (aN 300)),.list 13 (m.motors.map (aV 300)),.list 5 (m.feet.map (bH 300)),.nil]],none⟩]⟩:=
 Good.regX mixed aX fC 7 (c:=aR [1,1,1,1,1,1,0,1,0,0,1,1,0,0,1] (aA Tryz.f117)) (oX:=((aZ (aR [1,1,1,1,1,1,0,1,0,0,1,1,0,0,1] (aA Tryz.f117))).toList[7]?).getD default) (dX:=some 42) (V:=(.agg (iG s f))) (ov:=[(42,(.agg (iG s f)))]) (ob:=[1=1,0<1,1*224<=140737488355328,1<=big]) [40,41] (by kernel_rfl) (by kernel_rfl) (by kernel_rfl) (by kernel_rfl) (by kernel_rfl)
   (.cons (rfl) (.cons (by decide) (.cons (o.1) (.cons (o.2) (AllP.nil))))) (Or.inr (by kernel_rfl)) (by kernel_rfl) hX hB hg
theorem Mp {B B':Base->Prop} (m:MachD) (p:PoseD) (jb r:Nat) (i n s k:Nat) (f:FrameD) (A:List (List AV)) (o:(k=A.length)/\((k+1)*224<=140737488355328)/\(k+1<=big))
   (hB:B ⟨S0,C0,w0⟩) (hX:∀ (Q:Exit->Act->World->Prop) β ρ D σ h a w,B β->Rel β.S β.C β.w ρ D ⟨σ,h⟩ a w->(∀ τ∈ [40,41],σ.getD τ .any=(slots 49 [(8,(.cptr [(.fn 209 [(.cptr [(.lit (.map (some r)))] 0),(.cptr [(.fn 209 [(.cptr [(.lit (.map (some r)))] 0),.any,(.cptr (aE 300 m) 0),(.cptr [(.q p.at_.x jb),(.q p.at_.z jb),(.q p.turn jb),(.list 3 (p.joints.map (dU jb)))] 0)])] 0),(.cptr (aE 300 m) 0),(.cptr [(.q p.at_.x jb),(.q p.at_.z jb),(.q p.turn jb),(.list 3 (p.joints.map (dU jb)))] 0)])] 0)),(9,.ptr 0 7 0 0),(10,.i6 (i:Int)),(31,.i6 (n:Int)),(32,.i6 (i:Int)),(35,.ptr 0 7 0 0),(36,.ptr 0 7 0 0),(37,.ptr 0 7 0 0),(38,.ptr 0 7 0 6),(39,.own 1 12 0 k),(40,(.fn 209 [(.cptr [(.lit (.map (some r)))] 0),(.cptr [(.fn 209 [(.cptr [(.lit (.map (some r)))] 0),.any,(.cptr (aE 300 m) 0),(.cptr [(.q p.at_.x jb),(.q p.at_.z jb),(.q p.turn jb),(.list 3 (p.joints.map (dU jb)))] 0)])] 0),(.cptr (aE 300 m) 0),(.cptr [(.q p.at_.x jb),(.q p.at_.z jb),(.q p.turn jb),(.list 3 (p.joints.map (dU jb)))] 0)])),(41,.i6 (i:Int)),(42,.agg [(.q f.at_.x (2*s)),(.q f.at_.z (2*s)),(.q f.c s),(.q f.s s)]),(43,.own 2 12 0 1),(44,.own 3 12 0 (k+1)),(45,.ptr 0 7 0 0),(46,.ptr 0 7 0 6)]).getD τ .any)->wpOp Tryz.prog (aZ (aR [1,1,1,1,1,1,0,1,0,0,1,1,0,0,1] (aA Tryz.f117))) Q 7 (fun a' w'=>∃ β',B' β'/\Rel β'.S β'.C β'.w ρ D ⟨put σ (some 42) (.agg (iG s f)),h⟩ a' w') a w)
   (hg:∀ β,B' β->Good Tryz.prog 117 β.S β.C β.w Post (Hd Tryz.f117) ⟨slots 49 [(8,.cptr [.fn 209 (tC r m jb p)] 0),(9,.ptr 0 7 0 0),(10,.i6 (i:Int)),(31,.i6 (n:Int)),(32,.i6 (i:Int)),(35,.ptr 0 7 0 0),(36,.ptr 0 7 0 0),(37,.ptr 0 7 0 0),(38,.ptr 0 7 0 6),(39,.own 1 12 0 k),(40,.fn 209 (tC r m jb p)),(41,.i6 (i:Int)),(42,.agg (iG s f)),(43,.own 2 12 0 1),(44,.own 3 12 0 (k+1)),(45,.ptr 0 7 0 0),(46,.ptr 0 7 0 6)],[some ⟨264,7,false,[[.str m.name,.list 27 (m.bodies.map (aH 300)),.list 17 (m.springs.map (aN 300)),.list 17 (m.tendons.map (aN 300)),.list 13 (m.motors.map (aV 300)),.list 5 (m.feet.map (bH 300)),.own 3 12 0 (k+1)]],none⟩,none,some ⟨175,12,false,[(iG s f)],none⟩,some ⟨175,12,true,(A++ [[(AV.q f.at_.x (2*s)),(AV.q f.at_.z (2*s)),(AV.q f.c s),(AV.q f.s s)]]),none⟩]⟩):
   Good Tryz.prog 117 S0 C0 w0 Post (Hc Tryz.f117) ⟨slots 49 [(8,.cptr [.fn 209 (tC r m jb p)] 0),(9,.ptr 0 7 0 0),(10,.i6 (i:Int)),(31,.i6 (n:Int)),(32,.i6 (i:Int))],[some ⟨264,7,false,[[.str m.name,.list 27 (m.bodies.map (aH 300)),.list 17 (m.springs.map (aN 300)),.list 17 (m.tendons.map (aN 300)),.list 13 (m.motors.map (aV 300)),.list 5 (m.feet.map (bH 300)),.own 1 12 0 k]],none⟩,some ⟨175,12,true,A,none⟩]⟩:=
 Good.regX mixed aX fC 7 (c:=aR [1,1,1,1,1,1,0,1,0,0,1,1,0,0,1] (aA Tryz.f117)) (oX:=((aZ (aR [1,1,1,1,1,1,0,1,0,0,1,1,0,0,1] (aA Tryz.f117))).toList[7]?).getD default) (dX:=some 42) (V:=(.agg (iG s f))) (ov:=[(42,(.agg (iG s f)))]) (ob:=[1=1,k=A.length,(k+1)*224<=140737488355328,k+1<=big]) [40,41] (by kernel_rfl) (by kernel_rfl) (by kernel_rfl) (by kernel_rfl) (by kernel_rfl)
   (.cons (rfl) (.cons (o.1) (.cons (o.2.1) (.cons (o.2.2) (AllP.nil))))) (Or.inr (by kernel_rfl)) (by kernel_rfl) hX hB hg
end
noncomputable abbrev He:List Item:=[.code (aR [1,1,1,1,1,1,0,1,0,0,1,1,0,0,1] (aA Tryz.f117)),.inBlock 1,.code (aR [1,1,1,1,1,1,0,1,0,0,1,1,1] (aA Tryz.f117)),.inLoop (aR [1,1,1,1,1,1,0,1,0,0] (aA Tryz.f117)),.inBlock 0,.code (aR [1,1,1,1,1,1,1] (aA Tryz.f117))]
theorem tS {f:Nat->Int}:∀ (k i:Nat),eZ f i k=0->∀ j,i<=j->j<i+k->f j=0
 | 0,i,h,j,h1,h2=>by omega
 | k +1,i,h,j,h1,h2=>by
   rw[eZ] at h
   by_cases c:f i=0
   · rw[if_pos c] at h
     by_cases e:j=i
     · rw[e];exact c
     · exact tS k (i+1) h j (by omega) (by omega)
   · rw[if_neg c] at h;exact absurd h c
theorem kP {n:Nat} {t:Int} {f:Nat->Int} (h:bG n t f=0):∀ j,j<n->f j=0:=by
 unfold bG at h
 split at h
 · cases h
 · exact fun j hj=>tS n 0 h j (by omega) (by omega)
theorem BQ {m:MachD} (h:iP m=0):m.bodies.length≠0/\(∀ i,i<m.bodies.length->eX m.bodies i=0)/\(∀ i,i<m.springs.length->cD m.bodies.length (m.springs.getD i default)=0)/\
   (∀ i,i<m.tendons.length->cE m.bodies.length (m.tendons.getD i default)=0)/\(∀ i,i<m.motors.length->eD m.bodies.length m.motors i=0)/\(∀ i,i<m.feet.length->dB m.bodies.length (m.feet.getD i default)=0):=by
 unfold iP at h
 split at h
 · cases h
 · split at h
   · cases h
   · rename_i h1 h2
     unfold Ah at h
     split at h
     · rename_i a1
       unfold Ah at h
       split at h
       · rename_i a2
         unfold Ah at h
         split at h
         · rename_i a3
           unfold Ah at h
           split at h
           · rename_i a4
             unfold Ah at h
             split at h
             · rename_i a5
               exact⟨h2,kP a1,kP a2,kP a3,kP a4,kP a5⟩
             · rename_i a5;exact absurd h a5
           · rename_i a4;exact absurd h a4
         · rename_i a3;exact absurd h a3
       · rename_i a2;exact absurd h a2
     · rename_i a1;exact absurd h a1
theorem EQ {bs:List BodyD} {i:Nat} (h:eX bs i=0) (h0:0<i):pL (bs.getD i default) i=true:=by
 unfold eX Dz at h
 split at h
 · cases h
 · split at h
   · cases h
   · unfold jO at h
     split at h
     · cases h
     · rename_i hn
       cases hl:pL (bs.getD i default) i with
       | true=>rfl
       | false=>exact absurd (.inr (.inl ⟨h0,hl⟩)) hn
theorem qD {m:MachD} (h:iP m=0):m.tree:=fun i h0 hi=>by
 have:=EQ ((BQ h).2.1 i hi) h0;unfold pL at this
 have:=of_decide_eq_true this;exact⟨this.1,this.2.1⟩
theorem qE {m:MachD} {n:Nat} (h:bJ m n=0):iP m=0/\n+1=m.bodies.length:=by
 unfold bJ at h
 split at h
 · rename_i h1
   split at h
   · exact⟨h1,by omega⟩
   · cases h
 · rename_i h1;exact absurd h h1
def xV (jb:Nat) (m:MachD) (p:PoseD):List AV:=
 [.str m.name,.list 27 (m.bodies.map (aH 300)),.list 17 (m.springs.map (aN 300)),.list 17 (m.tendons.map (aN 300)),.list 13 (m.motors.map (aV 300)),.list 5 (m.feet.map (bH 300)),.list 12 ((List.range m.bodies.length).map fun i=>iG (SZ jb) (fr m p i))]
def jJ (jb:Nat) (m:MachD) (p:PoseD):AV:=if bJ m p.joints.length=0 then .cptr (xV jb m p) 0 else .lit (.pointer none)
def gX:List AV->Rat
 | [.q x _]=>x
 | _=>0
theorem jK {B:Nat} (l:List Rat):(l.map (dU B)).map gX=l:=kW (fun _=>rfl) l
def PW:KF
 | [.agg M,.agg [.q ax A1,.q az A2,.q tu A3,.list 3 J]]=>some (.tup [jJ A1 (aG M) ⟨⟨ax,az⟩,tu,J.map gX⟩,.int .i64 (bJ (aG M) J.length)],
     [M=aE 300 (aG M),(aG M).small,(aG M).bodies.length<=8,A2<=A1,A3<=A1,A1<=100000,Ref (.list 3 J) (.list 3 ((J.map gX).map (dU A1))),J.length<=4611686018427387904])
 | _=>none
theorem Rel.known {S0 C0:Nat->Prop} {w0:World} {ρ:Nat->Nat} {D:Nat->Prop} {σ:List AV} {h:List (Option ABlk)} {a:Act} {w:World} (R:Rel S0 C0 w0 ρ D ⟨σ,h⟩ a w) {t:Nat} {V:AV} (hv:∀ v,a.tmps[t]? =some v->RelV ρ (Sof S0 ρ h) w D V v):Rel S0 C0 w0 ρ D ⟨σ.set t V,h⟩ a w:=
 { R with
   len:=by rw[R.len];simp
   tmps:=fun u v hu=>by
     show RelV ρ (Sof S0 ρ h) w D ((σ.set t V).getD u .any) v;rw[gZ]
     split
     · rename_i e;obtain⟨rfl,_⟩:=e;exact hv v hu
     · exact R.tmps u v hu }
section
variable {S:Nat->Prop} {w0:World}
theorem Tn (hS:∀ k,S k->k<w0.heap.size) {jb:Nat} {m:MachD} {p:PoseD} (hjb:jb<=100000) (hQ:FQ (rz jb 0) (fr m p 0)) {Post:Value->World->Prop}
   (hg:∀ r β,w0.heap.size<=r->PT (lO jb m p) 1 r (fun x=>S x\/x=r) w0 β->Good Tryz.prog 117 β.S β.C β.w Post [.code (aR [1,1,1] (aA Tryz.f117))] ⟨slots 49 [(2,.cptr (aE 300 m) 0),(3,.cptr (bB jb p) 0),(7,xC r)],[none]⟩):
   Good Tryz.prog 117 S No w0 Post [.code R4,.code (aR [1,1,1] (aA Tryz.f117))] ⟨slots 49 [(2,.cptr (aE 300 m) 0),(3,.cptr (bB jb p) 0)],[]⟩:=by
 refine Mn (γ:=G4) G4.ov (I4 (lO jb m p) S w0) m p jb (rz jb 0) (fr m p 0) ⟨by unfold LIM;omega, ?_⟩ (fun L g β hI q hq=> ?_) (fun L i g β hi h=>h.other hi) (fun i hi Q L g β ρ D σ h a w V oX hoX hog hI hsz hun hed hA hlen R=> ?_) ⟨[],0,0⟩ ?_ rfl (fun L g β hall hI=> ?_)
 · exact Ref.frame rfl hQ
 · rw[hI.ov] at hq
   rcases List.mem_append.1 hq with hq | hq
   · rcases List.mem_append.1 hq with hq | hq
     · rw[iZ (b:=L.getD 0 false) hq];simp
     · rw[iZ (b:=L.getD 8 false) hq];simp
   · rw[iZ (b:=L.getD 9 false) hq];simp
 · rw[Ao] at hsz
   have h24:24<σ.length:=by rw[hlen,mD];decide
   simp only[List.mem_cons,List.mem_nil_iff,or_false] at hi;rcases hi with rfl | rfl | rfl | rfl | rfl
   · exact Tj hoX hog hI hsz hun R
   · exact Tk (F:=lO jb m p) rfl hoX hog hI hsz hun hed (hA 23 (by simp)) R
   · exact Tl hoX hog hI hsz hun hed (hA 23 (by simp)) R
   · exact Tm hoX hog hI hsz hun R
   · exact PV h24 hoX hog hI hsz hun hed (hA 23 (by simp)) R
 · unfold I4
   rw[Ao]
   have z:∀ j,(Array.replicate 11 false).getD j false=false:=fun j=>by
     simp[Array.getD]
   rw[z,z,z,z,z]
   exact {
     c:=fun x h=>h.elim
     chg:=Chg.refl _ _
     ov:=rfl
     s:=fun x=>by simp
     r0:=fun h=>by cases h
     r1:=fun h=>by cases h
     r2:=fun h=>by cases h
     k0:=fun h=>by cases h
     k1:=fun h=>by cases h
     e7:=fun h=>by cases h
     e8:=fun h=>by cases h
     e10:=fun h=>by cases h }
 · rw[Ao] at hall
   unfold I4 at hI;rw[hall 0 (by decide),hall 7 (by decide),hall 8 (by decide),hall 9 (by decide),hall 10 (by decide)] at hI;have hov:g.ov= [(17,fY g.r),(24,fY g.r),(7,mI g.k)]:=hI.ov;obtain⟨r1,r2,r3⟩:=hI.r0 rfl;obtain⟨k1,k2,k3⟩:=hI.k0 rfl;obtain⟨c,kc,hc⟩:=hI.k1 rfl;have hc:=hc rfl;subst hc;have M1:=hI.r2 rfl
   have hrk:g.r≠g.k:=fun e=>by
     obtain⟨es,clk,m1,_⟩:=M1;rw[e,kc] at m1;cases m1
   have hS1:∀ x,S x\/x=g.r->β.S x:=fun x hx=>(hI.s x).2 (hx.imp id fun h=>.inl ⟨rfl,h⟩)
   have M2:Memo (lO jb m p) 1 (fun x=>(S x\/x=g.r)\/β.C x) β.w g.r:=
     M1.keep (rl _) rfl fun k _ hs=>⟨fun h=>hs (h.imp (hS1 k) id),rfl⟩
   have hgood:=hg g.r ⟨fun x=>S x\/x=g.r,β.C,β.w⟩ r1 ⟨rfl,hI.c,r2,hI.chg,M2⟩;intro ρ D a w R b cs hb hk;have R1:=R.shrink hS1
   have hkS:¬ (fun x=>S x\/x=g.r) g.k:=by
     rintro(h | h)
     · have:=hS _ h;omega
     · exact hrk h.symm
   have kw:w.heap[g.k]? =some (.cells #[.map (some g.r)] 366 (0,0)):=by rw[R.chg.block _ k3 k2];exact kc
   have R2:=R1.slots (σ':=slots 49 [(2,.cptr (aE 300 m) 0),(3,.cptr (bB jb p) 0),(7,mI g.k)]) (by rw[hov];rfl) (yJ (by
     rw[hov]
     exact .r (.r (.r .nil))))
   have R3:=R2.known (t:=7) (V:=xC g.r) fun v hv=>by
     have h1:=R2.tmps 7 v hv;have h2:v= .pointer (some ⟨g.k,0,none⟩):=RelV.lit_inv (u:=.pointer (some ⟨g.k,0,none⟩)) h1;subst h2;refine bA (RelCs.cptr (a:=⟨g.k,0,none⟩) (o:=0) (.lit (v:=.map (some g.r)) rfl .done) (fT kw) ?_ ?_ .done)
     · rintro(h | ⟨l,b,hb,e⟩)
       · exact hkS h
       · exact R.ownC_no ((hI.s _).2 (.inr (.inr ⟨rfl,rfl⟩))) ⟨l,b,hb,e⟩
     · intro j v hv
       cases j with
       | zero=>simp at hv;subst hv;simp[World.cell?,Addr.add,kw]
       | succ j=>simp at hv
   exact hgood ρ D a w R3 b cs hb hk
theorem Ref.cptr {cs cs':List AV} {o:Nat} (h:RefC cs cs'):Ref (.cptr cs o) (.cptr cs' o):=fun ρ S w D v x=>by
 have x':RelCs ρ S w D [.cptr cs o] [v]:=x;cases x' with
 | cptr h1 h2 h3 h4 h5=>exact bA (.cptr (h _ _ _ _ _ h1) h2 h3 h4 .done)
abbrev BR (jb r:Nat) (m:MachD) (p:PoseD):AV:=.cptr [.fn 209 [xC r,Am jb r m p,.cptr (aE 300 m) 0,.cptr (bB jb p) 0]] 0
theorem Mq (A B:AV) (t:Nat):(slots 49 [(2,A),(8,B)]).getD t .any=if 8=t/\8<49 then B else if 2=t/\2<49 then A else .any:=by
 have hr:(List.replicate 49 AV.any).getD t .any= .any:=by
   simp only[nG,List.getElem?_replicate]
   split <;> rfl
 unfold slots;simp only[List.foldl];rw[gZ,gZ,hr];simp only[List.length_set,List.length_replicate]
theorem To   {S0 C0:Nat->Prop} {w1:World} {Post:Value->World->Prop} {todo:List Item} {jb r:Nat} {m:MachD} {p:PoseD}
   (hg:Good Tryz.prog 117 S0 C0 w1 Post todo ⟨slots 49 [(2,.cptr (aE 300 m) 0),(8,BR jb r m p)],[]⟩):
   Good Tryz.prog 117 S0 C0 w1 Post todo ⟨slots 49 [(2,.cptr (aE 300 m) 0),(3,.cptr (bB jb p) 0),(7,xC r),(8,.ptr 0 1 0 0)],[some ⟨367,1,false,[[.fn 209 [xC r,.ptr 0 1 0 0,.cptr (aE 300 m) 0,.cptr (bB jb p) 0]]],none⟩]⟩:=by
 intro ρ D a w R b cs hb hk;refine hg ρ No a w ?_ b cs hb hk;obtain⟨hD0,arr,h1,h2,h3⟩:=R.heap 0 _ rfl;have hc:=h3 0 _ rfl
 have kp:∀ {cs:List AV} {vs:List Value},RelCs ρ (Sof S0 ρ [some ⟨367,1,false,[[.fn 209 [xC r,.ptr 0 1 0 0,.cptr (aE 300 m) 0,.cptr (bB jb p) 0]]],none⟩]) w No cs vs->RelCs ρ S0 w No cs vs:=
   fun x=>x.keep _ (fun _ h=>h) ⟨Nat.le_refl _,fun l h=>h.elim,fun k _ hs=>⟨fun h=>hs (.inl h),rfl⟩⟩
 have hns:¬ S0 (ρ 0):=(R.mine 0 _ rfl).2.1;have hSn:∀ k,¬ Sof S0 ρ [some ⟨367,1,false,[[.fn 209 [xC r,.ptr 0 1 0 0,.cptr (aE 300 m) 0,.cptr (bB jb p) 0]]],none⟩] k->¬ S0 k:=fun k hs h=>hs (.inl h)
 simp only[Nat.zero_mul,List.drop_zero,Bool.false_eq_true,if_false] at hc
 obtain⟨v0,hv0⟩:∃ v0,arr.toList.take 1= [v0]:=by
   have:=hc.wds_eq;simp[tU,wd] at this;exact List.length_eq_one_iff.1 (by simpa using this)
 rw[hv0] at hc
 have hcell:w.cell? ⟨ρ 0,0,none⟩=some v0:=by
   have:arr[0]? =some v0:=by
     have h:=congrArg (fun l=>l[0]?) hv0;simpa[List.getElem?_take] using h
   simp[World.cell?,h1,this]
 have hseg:Seg w ⟨ρ 0,0,none⟩ [v0]:=fun j v hv=>by
   cases j with
   | zero=>simp at hv;subst hv;simpa[Addr.add] using hcell
   | succ j=>simp at hv
 cases hc with
 | fn hcaps hdone=>
   cases hcaps with
   | cptr x1 x2 x3 x4 x5=>
     cases x5 with
     | ptr y1 y2 =>
       cases y2 with
       | cptr z1 z2 z3 z4 z5=>
         cases z5 with
         | cptr u1 u2 u3 u4 u5=>
           cases u5;have any:RelCs ρ S0 w No [AV.fn 209 [xC r,.any,.cptr (aE 300 m) 0,.cptr (bB jb p) 0]] _:=.fn (.cptr (kp x1) x2 (hSn _ x3) x4 (.any (v:=.pointer (some ⟨ρ 0,0*1+0,none⟩)) rfl (.cptr (kp z1) z2 (hSn _ z3) z4 (.cptr (kp u1) u2 (hSn _ u3) u4 .done)))) .done
           have full:RelCs ρ S0 w No [BR jb r m p] [.pointer (some (Addr.add ⟨ρ 0,0,none⟩ 0))]:=
             .cptr (.fn (.cptr (kp x1) x2 (hSn _ x3) x4 (.cptr any (fT h1) hns hseg (.cptr (kp z1) z2 (hSn _ z3) z4 (.cptr (kp u1) u2 (hSn _ u3) u4 .done)))) .done) (fT h1) hns hseg .done
           have hS0:Sof S0 ρ ([]:List (Option ABlk))=S0:=by funext k;apply propext;unfold Sof;simp
           exact {
             defers:=R.defers
             len:=by rw[R.len];simp[mD]
             tmps:=fun t v hv=>by
               show RelV ρ (Sof S0 ρ []) w No _ v;rw[hS0]
               have hget:(slots 49 [(2,.cptr (aE 300 m) 0),(8,BR jb r m p)]).getD t .any=if 8=t/\8<49 then BR jb r m p else if 2=t/\2<49 then .cptr (aE 300 m) 0 else .any:=by
                 exact Mq _ _ t
               show RelV ρ S0 w No ((slots 49 [(2,.cptr (aE 300 m) 0),(8,BR jb r m p)]).getD t .any) v;rw[hget];have h5:=R.tmps t v hv
               split
               · rename_i e
                 obtain⟨rfl,_⟩:=e;obtain⟨e1,_⟩:=lW (show RelV ρ _ w D (.ptr 0 1 0 0) v from h5);subst e1;exact bA full
               · split
                 · rename_i e
                   obtain⟨rfl,_⟩:=e;have h6:RelCs ρ _ w D [AV.cptr (aE 300 m) 0] [v]:=h5;exact bA (kp (h6.noRef0 rfl ρ))
                 · trivial
             heap:=fun l b h=>by simp at h
             inj:=fun l l' b b' h=>by simp at h
             lt:=R.lt
             dlt:=fun l h=>h.elim
             chg:=R.chg
             mine:=fun l b h=>by simp at h }
noncomputable abbrev PX:List Item:=[.code (aR [1,1,1,1,1,1,0,1,0,0] (aA Tryz.f117)),.inLoop (aR [1,1,1,1,1,1,0,1,0,0] (aA Tryz.f117)),.inBlock 0,.code (aR [1,1,1,1,1,1,1] (aA Tryz.f117))]
abbrev PY (m:MachD) (x:AV):ABlk:=⟨264,7,false,[[.str m.name,.list 27 (m.bodies.map (aH 300)),.list 17 (m.springs.map (aN 300)),.list 17 (m.tendons.map (aN 300)),.list 13 (m.motors.map (aV 300)),.list 5 (m.feet.map (bH 300)),x]],none⟩
theorem BS:∃ (oX:Oper) (c:Call),(aZ (aR [1,1,1,1,1,1,0,1,0,0,1,1,0,0,1] (aA Tryz.f117)))[7]? =some oX/\oX.guard=none/\oX.op=Op.call c/\c.callee=Callee.value (Operand.tmp 40)/\c.args= #[Operand.tmp 41]/\oX.dst=some 42:=
 ⟨((aZ (aR [1,1,1,1,1,1,0,1,0,0,1,1,0,0,1] (aA Tryz.f117))).toList[7]?).getD default,⟨Callee.value (Operand.tmp 40), #[Operand.tmp 41], #[3]⟩,by kernel_rfl,by kernel_rfl,by kernel_rfl,rfl,rfl,by kernel_rfl⟩
section
variable {jb r:Nat} {m:MachD} {p:PoseD}
theorem Mr (n:Nat) (hn:n=m.bodies.length) (h8:n<=8) {β:Base} (hβ:PT (lO jb m p) n r (fun x=>S x\/x=r) w0 β):
   Good Tryz.prog 117 β.S β.C β.w (eN S w0 (.tup [.cptr (xV jb m p) 0,.i6 0])) [.code .ret] ⟨slots 49 [(4,.ptr 0 7 0 0),(5,.i6 0)],[some (PY m (.own 1 12 0 n)),some ⟨175,12,true,(List.range n).map (lO jb m p),none⟩]⟩:=by
 obtain⟨b1,b2,b3,b4,b5⟩:=hβ;refine Good.freezeD (b:=⟨175,12,true,(List.range n).map (lO jb m p),none⟩) 1 (by rfl) (by rfl) .on (.oe (.a1 (show 0+n<=((List.range n).map (lO jb m p)).length by simp))) ?_;refine Good.freezeD (b:=PY m (.list 12 ((((List.range n).map (lO jb m p)).drop 0).take n))) 0 (by rfl) (by rfl) (.oe (.a1 (dc (0<1)))) .on ?_;refine qU aX (fn:=Tryz.f117) (by kernel_rfl) (.inr ⟨_,rfl⟩) (Vs:=[.cptr [.str m.name,.list 27 (m.bodies.map (aH 300)),.list 17 (m.springs.map (aN 300)),.list 17 (m.tendons.map (aN 300)),.list 13 (m.motors.map (aV 300)),.list 5 (m.feet.map (bH 300)),.list 12 ((((List.range n).map (lO jb m p)).drop 0).take n)] 0,.i6 0]) (by kernel_rfl) (.inr rfl) fun ρ D a w2 u R hu=>⟨?_, ?_⟩
 · have h1:=sO (S':=S) hu rfl fun k h=>.inl (b1▸ .inl h)
   refine Ref.tup2 (Ref.cptr ?_) rr rfl rfl rfl rfl _ _ _ _ _ h1;refine .tl (.tl (.tl (.tl (.tl (.tl ?_)))));subst hn;rw[List.drop_zero,gO (by simp)];refine RefC.listM _ fun i hi=> ?_
   have hi:=List.mem_range.1 hi
   have:=rz_le (jb:=jb) (i:=i) (by omega);exact RefC.cons (RefC.q_le (by omega)) (RefC.cons (RefC.q_le (by omega)) (RefC.cons (RefC.q_le (by omega)) (RefC.q_le (by omega))))
 · exact b4.trans R.chg fun i hi hc=>by have:=b2 i hc;omega
abbrev Tp (jb r n i:Nat) (m:MachD) (p:PoseD):List AV:=slots 49 [(8,BR jb r m p),(9,.ptr 0 7 0 0),(31,.i6 ((n:Nat):Int)),(32,.i6 ((i:Nat):Int))]
theorem JQ (hS:∀ k,S k->k<w0.heap.size) (hjb:jb<=100000) (hB:Cj jb m p) (ht:m.tree) (h8:m.bodies.length<=8) (hj:p.joints.length+1=m.bodies.length) (hr:w0.heap.size<=r):∀ (j i:Nat),i+j=m.bodies.length->1<=i->
   ∀ β,PT (lO jb m p) i r (fun x=>S x\/x=r) w0 β->Good Tryz.prog 117 β.S β.C β.w (eN S w0 (.tup [.cptr (xV jb m p) 0,.i6 0])) PX ⟨Tp jb r m.bodies.length i m p,[some (PY m (.own 1 12 0 i)),some ⟨175,12,true,(List.range i).map (lO jb m p),none⟩]⟩:=by
 intro j
 induction j with
 | zero=>
   intro i hij h1 β hβ;exact gS fC (some 11) [4,5] [(33,ff)] (.a1 (iF (om (¬ ((i:Int)<(m.bodies.length:Int)))))) (Mr i (by omega) (by omega) hβ)
 | succ j ih=>
   intro i hij h1 β hβ;refine gS fC (some 11) [4,5,8,9,10,31,32] [(33,tt)] (.a1 (iT (om ((i:Int)<(m.bodies.length:Int))))) (t:=He) (σ:=slots 49 [(8,.cptr [.fn 209 [.cptr [.lit (.map (some r))] 0,.cptr [.fn 209 [.cptr [.lit (.map (some r))] 0,.any,.cptr (aE 300 m) 0,.cptr (bB jb p) 0]] 0,.cptr (aE 300 m) 0,.cptr (bB jb p) 0]] 0),(9,.ptr 0 7 0 0),(10,.i6 (i:Int)),(31,.i6 (m.bodies.length:Int)),(32,.i6 (i:Int))]) (h:=[some ⟨264,7,false,[[.str m.name,.list 27 (m.bodies.map (aH 300)),.list 17 (m.springs.map (aN 300)),.list 17 (m.tendons.map (aN 300)),.list 13 (m.motors.map (aV 300)),.list 5 (m.feet.map (bH 300)),.own 1 12 0 i]],none⟩,some ⟨175,12,true,((List.range i).map (lO jb m p)),none⟩]) ?_
   refine Mp (B:=fun β'=>β'=β) (B':=PT (lO jb m p) (i+1) r (fun x=>S x\/x=r) w0) m p jb r i m.bodies.length (rz jb i) i (fr m p i) ((List.range i).map (lO jb m p)) ⟨by simp,by omega,by unfold big;omega⟩ (by cases β;rfl) ?_ ?_
   · rintro Q β' ρ D σ h a w1 rfl R hA
     obtain⟨b1,b2,b3,b4,b5⟩:=hβ;have e1:bI σ (.tmp 40)= .fn 209 [xC r,Am jb r m p,.cptr (aE 300 m) 0,.cptr (bB jb p) 0]:=(hA 40 (by simp)).trans (by kernel_rfl);have e2:bI σ (.tmp 41)= .i6 ((i:Nat):Int):=(hA 41 (by simp)).trans (by kernel_rfl);obtain⟨oX,c,hoX,hg,hop,hc,hargs,hd⟩:=BS;have M1:Memo (lO jb m p) i (Sof β'.S ρ h) w1 r:=Memo.now R (by rw[b1];exact b5) b3;have hSr:β'.S r:=by rw[b1];exact .inr rfl
     have hmap:c.args.toList.map (bI σ)= [.i6 ((i:Nat):Int)]:=by rw[hargs];simp[e2]
     have hcall:=tA (Q:=Q) (J:=fun v w'=>RelV ρ0 (Sof β'.S ρ h) w' No (.agg (lO jb m p i)) v/\Chg (· =r) w1 w'/\Memo (lO jb m p) (i+1) (Sof β'.S ρ h) w' r) R hoX hg hop hc e1 (by rw[hmap];simp[eC,noRef,noRef0,zA,wd]) CQ (fun vals hvals=>by
       rw[hmap] at hvals
       exact JP hjb m p ht (fun k=>R.Slt) (.inl hSr) M1 (by omega) (by omega) (by omega) (by omega) (BP hB ht (by omega) (by omega) h8) hvals)
     refine wpOp_mono ?_ hcall;rintro a' w' ⟨u,⟨hu,hch,M2⟩,rfl⟩;rw[hd];refine⟨⟨β'.S,qA ρ h,w'⟩,⟨b1,fun k hk=>R.ownC_ge hk b2 b4.size,R.ownC_no hSr, ?_, ?_⟩,R.turn hch (fun k hk=>by subst hk;exact hSr) (.inr ?_)⟩
     · refine(b4.trans R.chg fun i hi hc=>by have:=b2 i hc;omega).trans hch fun i hi hx=> ?_
       subst hx;omega
     · rw[b1] at M2;exact M2
     · obtain⟨us,h1,h2⟩:=hu
       exact⟨us,h1,PM h2⟩
   intro β' hβ';refine Good.pk 49 [(8,BR jb r m p),(9,.ptr 0 7 0 0),(31,.i6 ((m.bodies.length:Nat):Int)),(32,.i6 ((i:Nat):Int))] ?_;refine Good.tidy [0,3] (by decide) (σ':=Tp jb r m.bodies.length i m p) (h':=[some (PY m (.own 1 12 0 (i+1))),some ⟨175,12,true,(List.range i).map (lO jb m p)++ [lO jb m p i],none⟩]) (by kernel_rfl) (by kernel_rfl) ?_;have e:(List.range i).map (lO jb m p)++ [lO jb m p i]=(List.range (i+1)).map (lO jb m p):=by rw[List.range_succ];simp
   rw[e];exact gN fC [8,9,31,32] [(47,.i6 ((i+1:Nat):Int))] (.a1 (wI ((i:Int)+(1:Int)) ((i+1:Nat):Int))) (ih (i+1) (by omega) (by omega) β' hβ')
theorem Ms (hS:∀ k,S k->k<w0.heap.size) (hjb:jb<=100000) (hB:Cj jb m p) (ht:m.tree) (h0:0<m.bodies.length) (h8:m.bodies.length<=8) (hj:p.joints.length+1=m.bodies.length):
   GF 117 S w0 (.tup [.cptr (xV jb m p) 0,.i6 0]) [.code R4,.code (aR [1,1,1] (aA Tryz.f117))] ⟨slots 49 [(2,.cptr (aE 300 m) 0),(3,.cptr (bB jb p) 0)],[]⟩:=by
 refine Tn hS hjb (BP hB ht (by omega) h0 h8) fun r β hr hβ=> ?_
 refine Good.tidy [] (by decide) (σ':=slots 49 [(2,.cptr (aE 300 m) 0),(3,.cptr (bB jb p) 0),(7,xC r)]) (h':=[]) (by kernel_rfl) (by kernel_rfl) ?_;refine gS fC (some 7) [2,3,7,8] [] .nil (t:=[.code (aR [1,1,1,1,1,0] (aA Tryz.f117)),.code (aR [1,1,1,1,1,1] (aA Tryz.f117))]) (σ:=slots 49 [(2,.cptr (aE 300 m) 0),(3,.cptr (bB jb p) 0),(7,.cptr [.lit (.map (some r))] 0),(8,.ptr 0 1 0 0)]) (h:=[some ⟨367,1,false,[[.fn 209 [.cptr [.lit (.map (some r))] 0,.ptr 0 1 0 0,.cptr (aE 300 m) 0,.cptr (bB jb p) 0]]],none⟩]) ?_
 refine To ?_;refine gN fC [4,5,8,9,31,32] [] .nil (t:=PX) (σ:=slots 49 [(8,.cptr [.fn 209 [.cptr [.lit (.map (some r))] 0,.cptr [.fn 209 [.cptr [.lit (.map (some r))] 0,.any,.cptr (aE 300 m) 0,.cptr (bB jb p) 0]] 0,.cptr (aE 300 m) 0,.cptr (bB jb p) 0]] 0),(9,.ptr 0 7 0 0),(31,(.i6 ((m.bodies.map (aH 300)).length:Int))),(32,.i6 (0:Int))]) (h:=[some ⟨264,7,false,[[.str m.name,.list 27 (m.bodies.map (aH 300)),.list 17 (m.springs.map (aN 300)),.list 17 (m.tendons.map (aN 300)),.list 13 (m.motors.map (aV 300)),.list 5 (m.feet.map (bH 300)),.nil]],none⟩]) ?_
 have hlen:(m.bodies.map (aH 300)).length=m.bodies.length:=bM ..;rw[hlen];refine gS fC (some 11) [4,5,8,9,10,31,32] [(33,tt)] (.a1 (iT (om ((0:Int)<(m.bodies.length:Int))))) (t:=He) (σ:=slots 49 [(8,.cptr [.fn 209 [.cptr [.lit (.map (some r))] 0,.cptr [.fn 209 [.cptr [.lit (.map (some r))] 0,.any,.cptr (aE 300 m) 0,.cptr (bB jb p) 0]] 0,.cptr (aE 300 m) 0,.cptr (bB jb p) 0]] 0),(9,.ptr 0 7 0 0),(10,.i6 (0:Int)),(31,.i6 (m.bodies.length:Int)),(32,.i6 (0:Int))]) (h:=[some ⟨264,7,false,[[.str m.name,.list 27 (m.bodies.map (aH 300)),.list 17 (m.springs.map (aN 300)),.list 17 (m.tendons.map (aN 300)),.list 13 (m.motors.map (aV 300)),.list 5 (m.feet.map (bH 300)),.nil]],none⟩]) ?_
 refine Mo (B:=fun β'=>β'=β) (B':=PT (lO jb m p) 1 r (fun x=>S x\/x=r) w0) m p jb r 0 m.bodies.length (rz jb 0) (fr m p 0) ⟨by decide,by unfold big;omega⟩ (by cases β;rfl) ?_ ?_
 · rintro Q β' ρ D σ h a w1 rfl R hA
   obtain⟨b1,b2,b3,b4,b5⟩:=hβ;have e1:bI σ (.tmp 40)= .fn 209 [xC r,Am jb r m p,.cptr (aE 300 m) 0,.cptr (bB jb p) 0]:=(hA 40 (by simp)).trans (by kernel_rfl);have e2:bI σ (.tmp 41)= .i6 ((0:Nat):Int):=(hA 41 (by simp)).trans (by kernel_rfl);obtain⟨oX,c,hoX,hg,hop,hc,hargs,hd⟩:=BS;have M1:Memo (lO jb m p) 1 (Sof β'.S ρ h) w1 r:=Memo.now R (by rw[b1];exact b5) b3;have hmap:c.args.toList.map (bI σ)= [.i6 ((0:Nat):Int)]:=by rw[hargs];simp[e2]
   have hcall:=tA (Q:=Q) (J:=eN (Sof β'.S ρ h) w1 (.agg (lO jb m p 0))) R hoX hg hop hc e1 (by rw[hmap];simp[eC,noRef,noRef0,zA,wd]) CQ (fun vals hvals=>by
     rw[hmap] at hvals
     exact GZ jb m p (fun k=>R.Slt) M1 (by omega) hvals)
   refine wpOp_mono ?_ hcall;rintro a' w' ⟨u,⟨hu,hch⟩,rfl⟩;rw[hd];refine⟨_,⟨b1,b2,b3,b4,b5⟩,R.called hch ?_⟩;obtain⟨us,h1,h2⟩:=hu;exact⟨us,h1,PM h2⟩
 intro β' hβ';refine Good.pk 49 [(8,BR jb r m p),(9,.ptr 0 7 0 0),(31,.i6 ((m.bodies.length:Nat):Int)),(32,.i6 ((0:Nat):Int))] ?_;refine Good.tidy [0,2] (by decide) (σ':=Tp jb r m.bodies.length 0 m p) (h':=[some (PY m (.own 1 12 0 1)),some ⟨175,12,true,[lO jb m p 0],none⟩]) (by kernel_rfl) (by kernel_rfl) ?_;exact gN fC [8,9,31,32] [(47,.i6 ((0+1:Nat):Int))] (.a1 (wI ((0:Int)+(1:Int)) ((0+1:Nat):Int))) (JQ hS hjb hB ht h8 hj hr (m.bodies.length-1) 1 (by omega) (by omega) β' hβ')
end
end
theorem ER:bO 117 PW:=fun args r ob h ho=>by
 unfold PW at h
 split at h
 · rename_i M ax jb az A2 tu A3 J
   cases h;have o1:M=aE 300 (aG M):=ho _ (by simp);have o2:(aG M).small:=ho _ (by simp);have o3:(aG M).bodies.length<=8:=ho _ (by simp);have o4:A2<=jb:=ho _ (by simp);have o5:A3<=jb:=ho _ (by simp);have o6:jb<=100000:=ho _ (by simp);have o7:Ref (.list 3 J) (.list 3 ((J.map gX).map (dU jb))):=ho _ (by simp);have o8:J.length<=4611686018427387904:=ho _ (by simp);clear ho;generalize hm:aG M=m at*;subst o1;obtain⟨p,hp⟩:∃ p:PoseD,p=⟨⟨ax,az⟩,tu,J.map gX⟩:=⟨_,rfl⟩;have hpj:p.joints.length=J.length:=by rw[hp];simp
   rw[<- hp, <- hpj];refine⟨⟨Tryz.f117,by kernel_rfl,by kernel_rfl,by kernel_rfl⟩,fun S w0 vals hS hvals=>wW (Post:=eN S w0 (.tup [jJ jb m p,.i6 (bJ m p.joints.length)])) (fn:=Tryz.f117) (c:=aA Tryz.f117) (by kernel_rfl) (by kernel_rfl) hS hvals ?_⟩
   have hpo:RefC [.q ax jb,.q az A2,.q tu A3,.list 3 J] (bB jb p):=by
     rw[hp];refine RefC.tl (RefC.cons (RefC.q_le o4) (RefC.cons (RefC.q_le o5) ?_));intro ρ S w D vs x;cases x with
     | list f1 f2 f3 f4 f5 f6 f7=>
       cases f7;exact o7 _ _ _ _ _ (bA (.list f1 f2 f3 f4 f5 f6 .done))
   have hBn:Cj jb m p:=by
     cases vals with
     | nil=>exact hvals.elim
     | cons v1 vs=>
       cases vs with
       | nil=>exact hvals.2.elim
       | cons v2 vs=>
         obtain⟨⟨_,_,k1⟩,⟨_,_,k2⟩,_⟩:=hvals;exact GT k1 (hpo _ _ _ _ _ k2)
   refine Good.weak 49 [(0,.agg (aE 300 m)),(1,.agg (bB jb p))] (by kernel_rfl) (.r (.cons (Ref.agg hpo) .nil)) ?_;have hjl:(p.joints.map (dU jb)).length=p.joints.length:=bM ..;have hbl:(m.bodies.map (aH 300)).length=m.bodies.length:=bM ..;have hob:Ref (.i6 (bJ (aG (aE 300 m)) (p.joints.map (dU jb)).length)) (.i6 (bJ m p.joints.length)):=Ref.int (by rw[aW,hjl]);have hsm:(aG (aE 300 m)).small:=by rw[aW];exact o2
   have hun:aE 300 m=aE 300 (aG (aE 300 m)):=by rw[aW]
   have v0:(p.joints.map (dU jb)).length<=4611686018427387904:=by rw[hjl,hpj];exact o8
   have v3:(m.bodies.map (aH 300)).length<=4611686018427387904:=by rw[hbl];omega
   by_cases c:bJ m p.joints.length=0
   · refine gR fC (some 4) [2,3,4,5] [0,1] [(13,.i6 (bJ m p.joints.length)),(15,ff)] (.a6 hob hun hsm v0 v3 (jF c)) (t:=[.code (aR [1,1,0] (aA Tryz.f117)),.code (aR [1,1,1] (aA Tryz.f117))]) (σ:=slots 49 [(2,.ptr 0 6 0 0),(3,.ptr 1 10 0 0),(4,.lit (Go.Value.pointer none)),(5,.i6 (0:Int))]) (h:=[some ⟨41,6,false,[(aE 300 m)],none⟩,some ⟨61,10,false,[(bB jb p)],none⟩]) ?_
     obtain⟨c1,c2⟩:=qE c;rw[show jJ jb m p= .cptr (xV jb m p) 0 from if_pos c,c];refine Good.pk 49 [(2,.ptr 0 6 0 0),(3,.ptr 1 10 0 0)] ?_;refine Good.freezeD (b:=⟨41,6,false,[aE 300 m],none⟩) 0 (by rfl) (by rfl) (.oe (.a1 (dc (0<1)))) .on ?_;refine Good.freezeD (b:=⟨61,10,false,[bB jb p],none⟩) 1 (by rfl) (by rfl) (.oe (.a1 (dc (0<1)))) .on ?_;refine Good.tidy [] (by decide) (σ':=slots 49 [(2,.cptr (aE 300 m) 0),(3,.cptr (bB jb p) 0)]) (h':=[]) (by kernel_rfl) (by kernel_rfl) ?_;exact Ms hS o6 hBn (qD c1) (by omega) o3 c2
   · refine gR fC (some 4) [2,3,4,5] [0,1] [(13,.i6 (bJ m p.joints.length)),(15,tt)] (.a6 hob hun hsm v0 v3 (jT c)) (t:=[.code .ret,.code (aR [1,1] (aA Tryz.f117))]) (σ:=slots 49 [(2,.ptr 0 6 0 0),(3,.ptr 1 10 0 0),(4,.lit (Go.Value.pointer none)),(5,.i6 (bJ m p.joints.length))]) (h:=[some ⟨41,6,false,[(aE 300 m)],none⟩,some ⟨61,10,false,[(bB jb p)],none⟩]) ?_
     rw[show jJ jb m p= .lit (.pointer none) from if_neg c];exact gE [.lit (.pointer none),.i6 (bJ m p.joints.length)] rr
 · cases h
def PZ:KF
 | [.cptr [.str mn,.list 27 XB,.list 17 XS,.list 17 XT,.list 13 XD,.list 5 XF,.list 12 XR] 0,.int .i64 b]=>some (.bool (decide (0<=b/\b<((XB.length:Nat):Int))),[])
 | _=>none
theorem Qa:bO 118 PZ:=by
 refine cJ Tryz.f118 fun _ _ _ S w0 h ho=> ?_
 unfold PZ at h;split at h <;> cases h;rename_i mn XB XS XT XD XF XR b
 by_cases h1:(0:Int)<=b
 · exact rF .nil [(7,tt)] (.a1 (iT h1)) (V:=.bool (decide (b<(XB.length:Int)))) (Ref.bool (by simp[h1]))
 · exact rF .nil [(7,ff)] (.a1 (iF h1)) (V:=.bool false) (Ref.bool (by simp[h1]))
theorem JR {jb i:Nat} {m:MachD} {p:PoseD} (h:i<m.bodies.length):((List.range m.bodies.length).map fun i=>iG (SZ jb) (fr m p i)).getD i []=iG (SZ jb) (fr m p i):=by
 rw[nG,List.getElem?_map,List.getElem?_range h];rfl
theorem cA {jb i:Nat} {m:MachD} {p:PoseD} (h:i<m.bodies.length):Ref (.cptr (((List.range m.bodies.length).map fun i=>iG (SZ jb) (fr m p i)).getD i []) 0) (.cptr (iG (SZ jb) (fr m p i)) 0):=Ref.eq (by rw[JR h])
theorem dC {jb:Nat} {m:MachD} {p:PoseD} (h:bJ m p.joints.length=0):Ref (.tup [jJ jb (aG (aE 300 m)) ⟨⟨p.at_.x,p.at_.z⟩,p.turn,(p.joints.map (dU jb)).map gX⟩,.i6 (bJ (aG (aE 300 m)) (p.joints.map (dU jb)).length)]) (.tup [.cptr (xV jb m p) 0,.i6 0]):=
 Ref.eq (by rw[aW,jK,bM,show jJ jb m ⟨⟨p.at_.x,p.at_.z⟩,p.turn,p.joints⟩= .cptr (xV jb m p) 0 from if_pos h,h])
theorem dD {jb:Nat} {m:MachD} {p:PoseD} (h:¬ bJ m p.joints.length=0):Ref (.tup [jJ jb (aG (aE 300 m)) ⟨⟨p.at_.x,p.at_.z⟩,p.turn,(p.joints.map (dU jb)).map gX⟩,.i6 (bJ (aG (aE 300 m)) (p.joints.map (dU jb)).length)]) (.tup [.lit (.pointer none),.i6 (bJ m p.joints.length)]):=
 Ref.eq (by rw[aW,jK,bM,show jJ jb m ⟨⟨p.at_.x,p.at_.z⟩,p.turn,p.joints⟩= .lit (.pointer none) from if_neg h])
theorem Ref.pose {ax az tu:Rat} {jb A2 A3:Nat} {J:List (List AV)} (h2:A2<=jb) (h3:A3<=jb) (h:Ref (.list 3 J) (.list 3 ((J.map gX).map (dU jb)))):Ref (.agg [.q ax jb,.q az A2,.q tu A3,.list 3 J]) (.agg (bB jb ⟨⟨ax,az⟩,tu,J.map gX⟩)):=by
 refine Ref.agg (RefC.tl (RefC.cons (RefC.q_le h2) (RefC.cons (RefC.q_le h3) ?_)));intro ρ S w D vs x;cases x with
 | list f1 f2 f3 f4 f5 f6 f7=>
   cases f7;exact h _ _ _ _ _ (bA (.list f1 f2 f3 f4 f5 f6 .done))
def mJ (f:FrameD) (x:PtD):PtD:=⟨f.at_.x+(f.c*x.x-f.s*x.z),f.at_.z+(f.s*x.x+f.c*x.z)⟩
def bZ (m:MachD) (n:Nat) (b:Int):Int:=if bJ m n=0 then (if 0<=b/\b<((m.bodies.length:Nat):Int) then 0 else 3) else bJ m n
def jL (m:MachD) (p:PoseD) (b:Int) (x:PtD):PtD:=if bZ m p.joints.length b=0 then mJ (fr m p b.toNat) x else ⟨0,0⟩
def UP:KF
 | [.agg M,.agg [.q ax jb,.q az A2,.q tu A3,.list 3 J],.int .i64 b,.agg [.q px B,.q pz C]]=>some (.tup [.agg [.q (jL (aG M) ⟨⟨ax,az⟩,tu,J.map gX⟩ b ⟨px,pz⟩).x (4*SZ jb+B+C+8),.q (jL (aG M) ⟨⟨ax,az⟩,tu,J.map gX⟩ b ⟨px,pz⟩).z (4*SZ jb+B+C+8)],.int .i64 (bZ (aG M) J.length b)],[M=aE 300 (aG M),(aG M).small,(aG M).bodies.length<=8,A2<=jb,A3<=jb,jb<=100000,Ref (.list 3 J) (.list 3 ((J.map gX).map (dU jb))),J.length<=4611686018427387904,8*SZ jb+2*B+2*C+400<=LIM])
 | _=>none
theorem Vu:bO 30 UP:=by
 refine cJ Tryz.f30 fun _ _ _ S w0 h ho=> ?_
 unfold UP at h;split at h <;> cases h;rename_i M ax jb az A2 tu A3 J b px B pz C;obtain⟨o1,o2,o3,o4,o5,o6,o7,o8,o9⟩:=ho.e9;have K:=((kn.cons JK).cons Qa).cons ER;generalize hm:aG M=m at*;subst o1;clear hm;obtain⟨p,hp⟩:∃ p:PoseD,p=⟨⟨ax,az⟩,tu,J.map gX⟩:=⟨_,rfl⟩;have hpj:p.joints.length=J.length:=by rw[hp];simp
 rw[<- hp]
 try rw[<- hpj]
 refine Good.weak 38 [(0,.agg (aE 300 m)),(1,.agg (bB jb p)),(2,.i6 b),(3,.agg [.q px B,.q pz C])] (by kernel_rfl) (.r (.cons (by rw[hp];exact Ref.pose o4 o5 o7) (.r (.r .nil)))) ?_;clear hp;have s1:aE 300 m=aE 300 (aG (aE 300 m)):=by rw[aW]
 have s2:(aG (aE 300 m)).small:=by rw[aW];exact o2
 have s3:(aG (aE 300 m)).bodies.length<=8:=by rw[aW];exact o3
 have s4:Ref (.list 3 (p.joints.map (dU jb))) (.list 3 (((p.joints.map (dU jb)).map gX).map (dU jb))):=Ref.eq (by rw[jK]);have s5:(p.joints.map (dU jb)).length<=4611686018427387904:=by rw[bM,hpj];exact o8
 have s7:SZ jb<=153753600:=by unfold SZ;omega
 have s8:LIM=17592186044416:=rfl
 by_cases h1:(bJ m p.joints.length)=(0:Int)
 · have v0:Ref (.tup [(jJ jb (aG (aE 300 m)) ⟨⟨p.at_.x,p.at_.z⟩,p.turn,(p.joints.map (dU jb)).map gX⟩),.i6 (bJ (aG (aE 300 m)) (p.joints.map (dU jb)).length)]) (.tup [.cptr [.str m.name,.list 27 (m.bodies.map (aH 300)),.list 17 (m.springs.map (aN 300)),.list 17 (m.tendons.map (aN 300)),.list 13 (m.motors.map (aV 300)),.list 5 (m.feet.map (bH 300)),.list 12 ((List.range m.bodies.length).map fun i=>iG (SZ jb) (fr m p i))] 0,.i6 (0:Int)]):=by first | exact s1 | exact s2 | exact s3 | exact s4 | exact s5 | exact dC h1 | exact dD h1 | (simp only[bM,List.length_range] at*;exact cA (by omega)) | (simp only[bM,List.length_range] at*;omega)
   by_cases h2:0<=b/\b<(((m.bodies.map (aH 300)).length:Nat):Int)
   · refine rF K [(12,.tup [.cptr [.str m.name,.list 27 (m.bodies.map (aH 300)),.list 17 (m.springs.map (aN 300)),.list 17 (m.tendons.map (aN 300)),.list 13 (m.motors.map (aV 300)),.list 5 (m.feet.map (bH 300)),.list 12 ((List.range m.bodies.length).map fun i=>iG (SZ jb) (fr m p i))] 0,.i6 (0:Int)]),(23,ff),(34,.cptr [.q ((fr m p b.toNat).at_.x) (2*(SZ jb)),.q ((fr m p b.toNat).at_.z) (2*(SZ jb)),.q ((fr m p b.toNat).c) (SZ jb),.q ((fr m p b.toNat).s) (SZ jb)] 0)] (.c6 s1 s2 s3 (rl jb) (rl jb) o6 (.c6 s4 s5 v0 (jF h2) (show Ref (.cptr (((List.range m.bodies.length).map fun i=>iG (SZ jb) (fr m p i)).getD b.toNat []) 0) (.cptr [.q ((fr m p b.toNat).at_.x) (2*(SZ jb)),.q ((fr m p b.toNat).at_.z) (2*(SZ jb)),.q ((fr m p b.toNat).c) (SZ jb),.q ((fr m p b.toNat).s) (SZ jb)] 0) by(simp only[bM,List.length_range] at*;exact cA (by omega))) (show 0<=b by(simp only[bM,List.length_range] at*;omega)) (.a2 (show b<(((List.range m.bodies.length).map fun i=>iG (SZ jb) (fr m p i)).length:Int) by first | exact s1 | exact s2 | exact s3 | exact s4 | exact s5 | exact dC h1 | exact dD h1 | (simp only[bM,List.length_range] at*;exact cA (by omega)) | (simp only[bM,List.length_range] at*;omega)) (show(2*(SZ jb))+(2*(SZ jb))+2*B+2*C+2*(SZ jb)+2*(SZ jb)+400<=LIM by(simp only[bM,List.length_range] at*;omega))))) (V:=.tup [.agg [.q (((fr m p b.toNat).at_.x)+(((fr m p b.toNat).c)*px-((fr m p b.toNat).s)*pz)) ((2*(SZ jb))+(B+C+(SZ jb)+(SZ jb)+6)+2),.q (((fr m p b.toNat).at_.z)+(((fr m p b.toNat).s)*px+((fr m p b.toNat).c)*pz)) ((2*(SZ jb))+(B+C+(SZ jb)+(SZ jb)+6)+2)],.i6 (0:Int)]) ?_
     have e:bZ m p.joints.length b=0:=by unfold bZ;rw[if_pos h1,if_pos (by simpa using h2)]
     have v:jL m p b ⟨px,pz⟩=mJ (fr m p b.toNat) ⟨px,pz⟩:=if_pos e;rw[v,e];exact Ref.tup2 (Ref.agg (RefC.cons qe qe)) rr rfl rfl rfl rfl
   · refine rF K [(12,.tup [.cptr [.str m.name,.list 27 (m.bodies.map (aH 300)),.list 17 (m.springs.map (aN 300)),.list 17 (m.tendons.map (aN 300)),.list 13 (m.motors.map (aV 300)),.list 5 (m.feet.map (bH 300)),.list 12 ((List.range m.bodies.length).map fun i=>iG (SZ jb) (fr m p i))] 0,.i6 (0:Int)]),(23,tt)] (.c6 s1 s2 s3 (rl jb) (rl jb) o6 (.a4 s4 s5 v0 (jT h2))) (V:=.tup [.agg [.q 0 0,.q 0 0],.i6 (3:Int)]) ?_
     have e:bZ m p.joints.length b=3:=by unfold bZ;rw[if_pos h1,if_neg (by simpa using h2)]
     have v:jL m p b ⟨px,pz⟩=⟨0,0⟩:=if_neg (by rw[e];decide);rw[v,e];exact Ref.tup2 (Ref.agg (RefC.cons qe qe)) rr rfl rfl rfl rfl
 · refine rF K [(12,.tup [.lit (.pointer none),.i6 (bJ m p.joints.length)]),(18,tt)] (.c6 s1 s2 s3 (rl jb) (rl jb) o6 (.a4 s4 s5 (show Ref (.tup [(jJ jb (aG (aE 300 m)) ⟨⟨p.at_.x,p.at_.z⟩,p.turn,(p.joints.map (dU jb)).map gX⟩),.i6 (bJ (aG (aE 300 m)) (p.joints.map (dU jb)).length)]) (.tup [.lit (.pointer none),.i6 (bJ m p.joints.length)]) by first | exact s1 | exact s2 | exact s3 | exact s4 | exact s5 | exact dC h1 | exact dD h1 | (simp only[bM,List.length_range] at*;exact cA (by omega)) | (simp only[bM,List.length_range] at*;omega)) (jT h1))) (V:=.tup [.agg [.q 0 0,.q 0 0],.i6 (bJ m p.joints.length)]) ?_
   have e:bZ m p.joints.length b=bJ m p.joints.length:=by unfold bZ;rw[if_neg h1]
   have v:jL m p b ⟨px,pz⟩=⟨0,0⟩:=if_neg (by rw[e];exact h1);rw[v,e];exact Ref.tup2 (Ref.agg (RefC.cons qe qe)) rr rfl rfl rfl rfl
end Go.Av
namespace Go.Av
open Go.RowKit
section
variable {P:Program} {S0 C0:Nat->Prop} {w0 w:World} {ρ:Nat->Nat} {D:Nat->Prop} {a:Act} {σ:List AV} {h:List (Option ABlk)}
theorem nX {l i:Nat} {b b' c:ABlk} (hl:h[l]? =some (some b)) (hc:(h.set l (some b'))[i]? =some (some c)):i=l/\c=b'\/i≠l/\h[i]? =some (some c):=by
 rw[List.getElem?_set] at hc
 split at hc
 · rename_i e
   split at hc
   · injection hc with hc;injection hc with hc;exact .inl ⟨e.symm,hc.symm⟩
   · cases hc
 · rename_i e;exact .inr ⟨fun h=>e h.symm,hc⟩
theorem Sof.set {S0:Nat->Prop} {l:Nat} {b b':ABlk} (hl:h[l]? =some (some b)):Sof S0 ρ (h.set l (some b'))=Sof S0 ρ h:=by
 have hlt:=(List.getElem?_eq_some_iff.1 hl).1
 funext k;apply propext
 constructor
 · rintro(h1 | ⟨i,c,hc,e⟩)
   · exact .inl h1
   · rcases nX hl hc with ⟨rfl,_⟩ | ⟨_,hq⟩
     · exact .inr ⟨i,b,hl,e⟩
     · exact .inr ⟨i,c,hq,e⟩
 · rintro(h1 | ⟨i,c,hc,e⟩)
   · exact .inl h1
   · by_cases hi:i=l
     · subst hi;exact .inr ⟨i,b',by rw[List.getElem?_set_self hlt],e⟩
     · exact .inr ⟨i,c,by rw[List.getElem?_set_ne (Ne.symm hi)];exact hc,e⟩
theorem Rel.setB (R:Rel S0 C0 w0 ρ D ⟨σ,h⟩ a w) {l:Nat} {b b':ABlk} (hl:h[l]? =some (some b)) (hB:RelB ρ (Sof S0 ρ h) w D l b') (hp:∀ i,b'.pin=some i->ρ l=i):Rel S0 C0 w0 ρ D ⟨σ,h.set l (some b')⟩ a w where
 defers:=R.defers
 len:=R.len
 tmps:=fun t v hv=>by rw[Sof.set hl];exact R.tmps t v hv
 heap:=fun i c hc=>by
   rw[Sof.set hl];rcases nX hl hc with ⟨rfl,rfl⟩ | ⟨_,hq⟩
   · exact⟨(R.heap i b hl).1,hB⟩
   · exact R.heap i c hq
 inj:=fun i j c d hc hd e=>by
   rcases nX hl hc with ⟨rfl,rfl⟩ | ⟨_,hq⟩ <;> rcases nX hl hd with ⟨rfl,rfl⟩ | ⟨_,hr⟩
   · rfl
   · exact R.inj _ _ b d hl hr e
   · exact R.inj _ _ c b hq hl e
   · exact R.inj _ _ c d hq hr e
 lt:=R.lt
 dlt:=fun i hi=>by simpa using R.dlt i hi
 chg:=R.chg
 mine:=fun i c hc=>by
   rcases nX hl hc with ⟨rfl,rfl⟩ | ⟨_,hq⟩
   · have:=R.mine i b hl;exact⟨this.1,this.2.1,hp⟩
   · exact R.mine i c hq
theorem Rel.unlit (R:Rel S0 C0 w0 ρ D ⟨σ,h⟩ a w) {l:Nat} {b:ABlk} {els:List (List AV)} (hl:h[l]? =some (some b)) (hle:els.length=b.elems.length)
   (hr:∀ (i:Nat) (el el':List AV),b.elems[i]? =some el->els[i]? =some el'->∃ (k m j:Nat) (c:ABlk),el= [.lit (.slice (some ⟨k,0,none⟩) m m)]/\el'= [.own j c.e 0 m]/\h[j]? =some (some c)/\c.pin=some k/\c.elems.length=m/\m<=big):
   Rel S0 C0 w0 ρ D ⟨σ,h.set l (some ⟨b.ty,b.e,false,els,b.pin⟩)⟩ a w:=by
 obtain⟨hD,arr,h1,h2,h3⟩:=R.heap l b hl;refine R.setB hl ⟨arr,h1,by simp only;rw[hle];exact h2,fun i el' he'=> ?_⟩ (R.mine l b hl).2.2;simp only at he';have hi:i<b.elems.length:=by rw[<- hle];exact(List.getElem?_eq_some_iff.1 he').1
 obtain⟨k,m,j,c,e1,rfl,hj,hp,hm,hb⟩:=hr i _ el' (List.getElem?_eq_getElem hi) he';have h4:=h3 i _ (List.getElem?_eq_getElem hi);rw[e1] at h4;have hk:=(R.mine j c hj).2.2 k hp;obtain⟨hDj,arr2,q1,q2,_⟩:=R.heap j c hj
 have key:∀ vs,RelCs ρ (Sof S0 ρ h) w (if b.closed then No else D) [.lit (.slice (some ⟨k,0,none⟩) m m)] vs->RelCs ρ (Sof S0 ρ h) w D [.own j c.e 0 m] vs:=by
   intro vs hv;cases hv with
   | lit _ hd=>
     cases hd;exact .own hDj (Nat.le_refl _) hb (fun _=>⟨by rw[hk,Nat.zero_mul],arr2,_,q1,by rw[Nat.zero_add, <- hm];exact q2⟩) .done
 exact key _ h4
end
section
variable {P:Program} {f:FuncId} {S0 C0:Nat->Prop} {w0:World} {Post:Value->World->Prop} {T:TT} {K:KT}
theorem Good.unlit {todo:List Item} {σ:List AV} {h:List (Option ABlk)} {l:Nat} {b:ABlk} {els:List (List AV)} (hl:h[l]? =some (some b)) (hle:els.length=b.elems.length)
   (hr:∀ (i:Nat) (el el':List AV),b.elems[i]? =some el->els[i]? =some el'->∃ (k m j:Nat) (c:ABlk),el= [.lit (.slice (some ⟨k,0,none⟩) m m)]/\el'= [.own j c.e 0 m]/\h[j]? =some (some c)/\c.pin=some k/\c.elems.length=m/\m<=big)
   (hg:Good P f S0 C0 w0 Post todo ⟨σ,h.set l (some ⟨b.ty,b.e,false,els,b.pin⟩)⟩):Good P f S0 C0 w0 Post todo ⟨σ,h⟩:=fun ρ D a w R bb cs hb hk=>hg ρ D a w (R.unlit hl hle hr) bb cs hb hk
end
end Go.Av
namespace Go.Av
open Go.Proofs Go.RowKit
theorem RefC.rq_mk {x:Rat} {n e:Int} {d B C E:Nat} {cs:List AV} (hn:n=x.num) (he:e=(d:Int)) (hd:d=x.den\/d=0/\x.den=1) (hB:B<=E) (hC:C<=E):RefC (.rz n B:: .rz e C::cs) (.rq x d E::cs):=fun ρ S w D vs y=>by
 subst hn;subst he;exact .rq hd (((RefC.rz_le hB).trans (RefC.tl (RefC.rz_le hC))) _ _ _ _ _ y)
theorem RefC.rq_e {x y:Rat} {B C:Nat} {cs:List AV} (h:x=y) (k:B<=C):RefC (.rq x x.den B::cs) (.rq y y.den C::cs):=by subst h;exact RefC.rq_le k
theorem rS (x:Rat):x=(x.num:Rat)/((x.den:Int):Rat):=by rw[<- Rat.divInt_eq_div,Rat.num_divInt_den]
def Qb:KF
 | [.int .i64 n]=>some (.agg [.rq (Int.cast n:Rat) 1 64],[(-9223372036854775808:Int)<=n,n<=(9223372036854775807:Int)])
 | _=>none
theorem Qc:bO 144 Qb:=by
 refine cJ Tryz.f144 fun _ _ _ S w0 h ho=> ?_
 unfold Qb at h;split at h <;> cases h;rename_i n;obtain⟨o1,o2⟩:=ho.e2;have K:=kn.cons CC;exact rF K [] (.a4 o1 o2 (dc ((-9223372036854775808:Int)<=1)) (dc (1<=(9223372036854775807:Int)))) (V:=.agg [.rz n 64,.rz 1 64]) (Ref.agg (RefC.rq_mk rfl rfl (.inl rfl) (by omega) (by omega)))
def Mt:KF
 | [.agg [.rq x d B],.agg [.rq y e C]]=>some (.agg [.rq (x/y) (x/y).den (max B 64+max C 64)],[y≠0,max B 64+max C 64+max B 64+max C 64+500<=LIM])
 | _=>none
theorem Mu:bO 176 Mt:=by
 refine cJ Tryz.f176 fun _ _ _ S w0 h ho=> ?_
 unfold Mt at h;split at h <;> cases h;rename_i x d B y e C;obtain⟨o1,o2⟩:=ho.e2;have L:=dH;have K:=((kn.cons Gr).cons CE).cons tO;have hx:=x.den_nz;have hy:=y.den_nz;have ix:=rS x;have iy:=rS y;have kx:((x.den:Int):Rat)≠0:=fun h=>by have:=Rat.intCast_eq_zero_iff.1 h;omega
 have ky:((y.den:Int):Rat)≠0:=fun h=>by have:=Rat.intCast_eq_zero_iff.1 h;omega
 have hn:y.num≠0:=fun h=>o1 (Rat.num_eq_zero.1 h)
 have hm:((x.den:Nat):Int)*y.num≠0:=Int.mul_ne_zero (by omega) hn;have kn:(y.num:Rat)≠0:=fun h=>hn (Rat.intCast_eq_zero_iff.1 h)
 have hq:(Int.cast (x.num*((y.den:Nat):Int)):Rat)/(Int.cast (((x.den:Nat):Int)*y.num):Rat)=x/y:=by rw[Rat.intCast_mul,Rat.intCast_mul];grind
 refine rF K [] (.a4 (show B+(max C 64)+128<=LIM by first | omega | assumption) (show(max B 64)+C+128<=LIM by first | omega | assumption) hm (show max (B+(max C 64)) ((max B 64)+C)+max (B+(max C 64)) ((max B 64)+C)+300<=LIM by first | omega | assumption)) (V:=.agg [.rq ((Int.cast (x.num*(y.den:Int)):Rat)/(Int.cast ((x.den:Int)*y.num):Rat)) (((Int.cast (x.num*(y.den:Int)):Rat)/(Int.cast ((x.den:Int)*y.num):Rat)).den) (max (B+(max C 64)) ((max B 64)+C))]) ?_
 rw[hq];exact Ref.agg (RefC.rq_le (by omega))
def Qd:KF
 | [.agg [.rq x d B]]=>some (.agg [.rq (-x) x.den (max B 64)],[])
 | _=>none
theorem Qe:bO 147 Qd:=by
 refine cJ Tryz.f147 fun _ _ _ S w0 h ho=> ?_
 unfold Qd at h;split at h <;> cases h;rename_i x d B;have K:=(kn.cons tO).cons LS;exact rF K [] .nil (V:=.agg [.rz (-x.num) B,.rz (x.den:Int) (max B 64)]) (Ref.agg (RefC.rq_mk rfl rfl (.inl rfl) (by omega) (by omega)))
def uQ:=kn.cons Sg
def iQ (l:List SpotD):List (List AV):=(l.map SpotD.pt).map (dV 300)
def iR (l:List SpotD):List (List AV):=(l.map SpotD.pt).map (iK 300)
def UQ:KF
 | [.list 6 X]=>some (.tup [.list 6 (iQ (X.map dK)),.list 8 (iR (X.map dK))],[X=(X.map dK).map unSpot,∀ s∈X.map dK,s.ok,X.length*128<=140737488355328])
 | _=>none
section
variable {S:Nat->Prop} {w0:World}
theorem Mv (ls:List SpotD) (hok:∀ s∈ls,s.ok) (hL:ls.length*128<=140737488355328):
   GF 53 S w0 (.tup [.list 6 (iQ ls),.list 8 (iR ls)])
   [.code (aR [1,1,1,0,1,0,0] (aA Tryz.f53)),.inLoop (aR [1,1,1,0,1,0,0] (aA Tryz.f53)),.inBlock 0,.code (aR [1,1,1,1] (aA Tryz.f53))]
   ⟨slots 33 [(0,.list 6 (ls.map unSpot)),(4,.nil),(5,.nil),(6,.i6 ((0:Nat):Int))],[]⟩:=by
 refine wQ (XS:=iQ ls) (YS:=iR ls) ls.length (fun i=>dV 300 (ls.getD i default).pt) (fun i=>iK 300 (ls.getD i default).pt) (fun a b i h=>⟨slots 33 [(0,.list 6 (ls.map unSpot)),(4,a),(5,b),(6,.i6 ((i:Nat):Int))],h⟩) 0 1 6 8 58 68 ?_ ?_ ?_ ?_ (by rw[iQ,List.map_map];exact eK (f:=fun s=>dV 300 s.pt) ls) (by rw[iR,List.map_map];exact eK (f:=fun s=>iK 300 s.pt) ls) ?_
 · intro hp hg
   have hs:=hok _ (eB hp);have v0:(0:Int)<((ls.map unSpot).length:Int):=by rw[bM];omega
   exact gR uQ none [0,4,5,6] [4,6] [(12,tt),(18,.cptr (unSpot (ls.getD 0 default)) 0),(14,.i6 ((0+1:Nat):Int))] (.c6 (iT v0) (show Ref (.cptr ((ls.map unSpot).getD 0 []) 0) (.cptr (unSpot (ls.getD 0 default)) 0) from Ref.cmap hp) (nn 0) v0 hs.1 hs.2 (.c6 r1 (dc (0<1)) (dc (1*112<=140737488355328)) (dc (1<=big)) r1 (dc (0<1)) (.a3 (dc (1*128<=140737488355328)) (dc (1<=big)) (wI ((0:Int)+(1:Int)) ((0+1:Nat):Int))))) hg
 · intro i A B hi hlt hA hB hg
   have hs:=hok _ (eB hlt);have v1:(i:Int)<((ls.map unSpot).length:Int):=by rw[bM];omega
   exact gR uQ none [0,4,5,6] [6,8] [(12,tt),(18,.cptr (unSpot (ls.getD i default)) 0),(14,.i6 ((i+1:Nat):Int))] (.c6 (iT v1) (show Ref (.cptr ((ls.map unSpot).getD i []) 0) (.cptr (unSpot (ls.getD i default)) 0) from Ref.cmap hlt) (nn i) v1 hs.1 hs.2 (.c6 r1 (show i=A.length from hA.symm) (om ((i+1)*112<=140737488355328)) (show i+1<=big by unfold big;omega) r1 (show i=B.length from hB.symm) (.a3 (om ((i+1)*128<=140737488355328)) (show i+1<=big by unfold big;omega) (wI ((i:Int)+(1:Int)) ((i+1:Nat):Int))))) hg
 · intro A B hp hA hB hg
   refine Good.freezeD (b:=⟨58,6,true,A,none⟩) 0 (by rfl) (by rfl) (.cons (by show 0+ls.length<=A.length;omega) .nil) .nil ?_;refine Good.freezeD (b:=⟨68,8,true,B,none⟩) 1 (by rfl) (by rfl) (.cons (by show 0+ls.length<=B.length;omega) .nil) .nil ?_;refine Good.tidy [] (by decide) (σ':=slots 33 [(0,.list 6 (ls.map unSpot)),(4,.list 6 ((A.drop 0).take ls.length)),(5,.list 8 ((B.drop 0).take ls.length)),(6,.i6 ((ls.length:Nat):Int))]) (h':=[]) (by kernel_rfl) (by kernel_rfl) ?_;rw[List.drop_zero,List.drop_zero,gO (by omega),gO (by omega)];exact hg
 · intro h0 hg
   exact Good.weak 33 [(0,_),(4,_),(5,_),(6,_)] (by kernel_rfl) (.r (.cons Ref.nilL (.cons Ref.nilL (.r .nil)))) hg
 · exact rR uQ [(12,ff)] (.a1 (iF (show ¬ ((ls.length:Int)<((ls.map unSpot).length:Int)) by rw[bM];omega)))
end
theorem Vv:bO 53 UQ:=fun args r ob h ho=>by
 unfold UQ at h
 split at h
 · rename_i X
   cases h;have o1:X=(X.map dK).map unSpot:=ho _ (by simp);have o2:∀ s∈X.map dK,s.ok:=ho _ (by simp);have o3:(X.map dK).length*128<=140737488355328:=by rw[bM];exact ho _ (by simp)
   clear ho;generalize X.map dK=ls at*;subst o1;refine af Tryz.f53 fun S w0=> ?_
   have e:kY [AV.list 6 (ls.map unSpot)] Tryz.f53.ntmps=⟨slots 33 [(0,.list 6 (ls.map unSpot))],[]⟩:=by kernel_rfl
   rw[e];clear e;exact gN uQ [0,4,5,6] [] .nil (Mv ls o2 o3)
 · cases h
def eP:=(((kn.cons Sv).cons Vv).cons OV).cons Sg
def UR:KF
 | [.agg R]=>some (.tup [.agg (aE 300 (iC R).real),.agg (iV 300 (iC R).real)],[R=cV (iC R),(iC R).ok])
 | _=>none
theorem AllP.of_eq {l l':List Prop} (h:l=l') (k:AllP l'):AllP l:=by rw[h];exact k
theorem RefC.nilL {e:Nat} {cs:List AV}:RefC (.nil::cs) (.list e []::cs):=RefC.cons (fun ρ S w D vs h=>by
 cases h with
 | nil h2=>exact .list (fun _=>[]) (by simp) (by unfold big;omega) (by simp) (by simp) (by simp) h2) RefC.rfl'
theorem Good.castH {P:Program} {f:FuncId} {S0 C0:Nat->Prop} {w0:World} {Post:Value->World->Prop} {todo:List Item} {σ:List AV} {h h':List (Option ABlk)} (e:h=h') (hg:Good P f S0 C0 w0 Post todo ⟨σ,h'⟩):Good P f S0 C0 w0 Post todo ⟨σ,h⟩:=by rw[e];exact hg
theorem rT (r:RigD):iC (cV r)=r:=by cases r;simp only[iC,cV,EF,EG,CI,EH]
section
variable {S:Nat->Prop} {w0:World}
noncomputable abbrev Qf (S:Nat->Prop) (w0:World) (r:RigD):=eN S w0 (.tup [.agg (aE 300 r.real),.agg (iV 300 r.real)])
abbrev kQ:ABlk:=⟨41,6,false,[[.str (ByteArray.mk #[]),.nil,.nil,.nil,.nil,.nil]],none⟩
abbrev jP:ABlk:=⟨48,5,false,[[.nil,.nil,.nil,.nil,.nil]],none⟩
abbrev KO (r:RigD):List AV:=[.list 6 (iQ (r.soles.getD 0 default).pts),.list 8 (iR (r.soles.getD 0 default).pts)]
theorem Hf (r:RigD) (hok:r.ok):Good Tryz.prog 18 S No w0 (Qf S w0 r) [.code (aR [1,1,1,1,1,1,1,0,1,0,0] (aA Tryz.f18)),.inLoop (aR [1,1,1,1,1,1,1,0,1,0,0] (aA Tryz.f18)),.inBlock 8,.code (aR [1,1,1,1,1,1,1,1] (aA Tryz.f18))] ⟨slots 359 [(1,.ptr 0 5 0 0),(2,.ptr 1 6 0 0),(3,.ptr 2 5 0 0),(4,.ptr 3 6 0 0),(5,.ptr 4 5 0 0),(48,.i6 ((0:Nat):Int))],[some ⟨27,5,false,[cV r],none⟩,some (kQ),some (jP),some ⟨41,6,false,[[.str kN,.list 27 (r.real.bodies.map (aH 300)),.list 17 (r.real.springs.map (aN 300)),.list 17 (r.real.tendons.map (aN 300)),.list 13 (r.real.motors.map (aV 300)),.nil]],none⟩,some ⟨48,5,false,[[.list 34 (r.real.bodies.map (aK 300)),.list 22 (r.real.springs.map (bP 300)),.list 22 (r.real.tendons.map (bP 300)),.list 17 (r.real.motors.map (jG 300)),.nil]],none⟩]⟩:=by
 have hl:=hok.2.2.2.2.2.2.2.2.2;refine wQ (XS:=r.real.feet.map (bH 300)) (YS:=r.real.feet.map (uJ 300)) r.soles.length (fun i=>bH 300 ((r.soles.getD i default).real)) (fun i=>uJ 300 ((r.soles.getD i default).real)) (fun a b i h=>⟨slots 359 [(1,.ptr 0 5 0 0),(2,.ptr 1 6 0 0),(3,.ptr 2 5 0 0),(4,.ptr 3 6 0 0),(5,.ptr 4 5 0 0),(48,.i6 ((i:Nat):Int))],[some ⟨27,5,false,[cV r],none⟩,some (kQ),some (jP),some ⟨41,6,false,[[.str kN,.list 27 (r.real.bodies.map (aH 300)),.list 17 (r.real.springs.map (aN 300)),.list 17 (r.real.tendons.map (aN 300)),.list 13 (r.real.motors.map (aV 300)),a]],none⟩,some ⟨48,5,false,[[.list 34 (r.real.bodies.map (aK 300)),.list 22 (r.real.springs.map (bP 300)),.list 22 (r.real.tendons.map (bP 300)),.list 17 (r.real.motors.map (jG 300)),b]],none⟩]++h⟩) 5 6 5 6 245 186 ?_ ?_ ?_ ?_ (by simp only[RigD.real,List.map_map];exact eK (f:=fun v=>bH 300 v.real) r.soles) (by simp only[RigD.real,List.map_map];exact eK (f:=fun v=>uJ 300 v.real) r.soles) ?_
 · intro hlt hg
   have hv:=hok.2.2.2.2.1 _ (eB hlt);have v0:(0:Int)<((r.soles.map dT).length:Int):=by rw[bM];omega
   exact gR eP none [1,2,3,4,5,48] [0,1,2,3,4,11,13] [(317,tt),(323,.cptr (dT (r.soles.getD 0 default)) 0),(328,.tup (KO r)),(319,.i6 ((0+1:Nat):Int))] (.c6 (iT v0) (show Ref (.cptr ((r.soles.map dT).getD 0 []) 0) (.cptr (dT (r.soles.getD 0 default)) 0) from Ref.cmap hlt) (nn 0) v0 (show Ref (.tup [.list 6 (iQ (((r.soles.getD 0 default).pts.map unSpot).map dK)),.list 8 (iR (((r.soles.getD 0 default).pts.map unSpot).map dK))]) (.tup (KO r)) from Ref.eq (by rw[dZ])) (show((r.soles.getD 0 default).pts.map unSpot)=(((r.soles.getD 0 default).pts.map unSpot).map dK).map unSpot by rw[dZ]) (.c6 (show ∀ s∈((r.soles.getD 0 default).pts.map unSpot).map dK,s.ok by rw[dZ];exact hv.1) (show((r.soles.getD 0 default).pts.map unSpot).length*128<=140737488355328 by rw[bM];exact hv.2.1) hv.2.2 r1 (dc (0<1)) (dc (1*88<=140737488355328)) (.a6 (dc (1<=big)) r1 (dc (0<1)) (dc (1*96<=140737488355328)) (dc (1<=big)) (wI ((0:Int)+(1:Int)) ((0+1:Nat):Int))))) hg
 · intro i A B hi hlt hA hB hg
   have hv:=hok.2.2.2.2.1 _ (eB hlt);have v1:(i:Int)<((r.soles.map dT).length:Int):=by rw[bM];omega
   exact gR eP none [1,2,3,4,5,48] [0,1,2,3,4,13,15] [(317,tt),(323,.cptr (dT (r.soles.getD i default)) 0),(328,.tup [.list 6 (iQ (r.soles.getD i default).pts),.list 8 (iR (r.soles.getD i default).pts)]),(319,.i6 ((i+1:Nat):Int))] (.c6 (iT v1) (show Ref (.cptr ((r.soles.map dT).getD i []) 0) (.cptr (dT (r.soles.getD i default)) 0) from Ref.cmap hlt) (nn i) v1 (show Ref (.tup [.list 6 (iQ (((r.soles.getD i default).pts.map unSpot).map dK)),.list 8 (iR (((r.soles.getD i default).pts.map unSpot).map dK))]) (.tup [.list 6 (iQ (r.soles.getD i default).pts),.list 8 (iR (r.soles.getD i default).pts)]) from Ref.eq (by rw[dZ])) (show((r.soles.getD i default).pts.map unSpot)=(((r.soles.getD i default).pts.map unSpot).map dK).map unSpot by rw[dZ]) (.c6 (show ∀ s∈((r.soles.getD i default).pts.map unSpot).map dK,s.ok by rw[dZ];exact hv.1) (show((r.soles.getD i default).pts.map unSpot).length*128<=140737488355328 by rw[bM];exact hv.2.1) hv.2.2 r1 (show i=A.length from hA.symm) (om ((i+1)*88<=140737488355328)) (.a6 (show i+1<=big by unfold big;omega) r1 (show i=B.length from hB.symm) (om ((i+1)*96<=140737488355328)) (show i+1<=big by unfold big;omega) (wI ((i:Int)+(1:Int)) ((i+1:Nat):Int))))) hg
 · intro A B hp hA hB hg
   refine Good.freezeD (b:=⟨245,5,true,A,none⟩) 5 (by rfl) (by rfl) .on (.oe (.a1 (om (0+r.soles.length<=A.length)))) ?_;refine Good.freezeD (b:=⟨186,6,true,B,none⟩) 6 (by rfl) (by rfl) .on (.oe (.a1 (om (0+r.soles.length<=B.length)))) ?_;refine Good.tidy [0,1,2,3,4] (by decide) (σ':=slots 359 [(1,.ptr 0 5 0 0),(2,.ptr 1 6 0 0),(3,.ptr 2 5 0 0),(4,.ptr 3 6 0 0),(5,.ptr 4 5 0 0),(48,.i6 ((r.soles.length:Nat):Int))]) (h':=[some ⟨27,5,false,[cV r],none⟩,some (kQ),some (jP),some ⟨41,6,false,[[.str kN,.list 27 (r.real.bodies.map (aH 300)),.list 17 (r.real.springs.map (aN 300)),.list 17 (r.real.tendons.map (aN 300)),.list 13 (r.real.motors.map (aV 300)),.list 5 ((A.drop 0).take r.soles.length)]],none⟩,some ⟨48,5,false,[[.list 34 (r.real.bodies.map (aK 300)),.list 22 (r.real.springs.map (bP 300)),.list 22 (r.real.tendons.map (bP 300)),.list 17 (r.real.motors.map (jG 300)),.list 6 ((B.drop 0).take r.soles.length)]],none⟩]) (by kernel_rfl) (by kernel_rfl) ?_;rw[List.drop_zero,List.drop_zero,gO (by omega),gO (by omega)];exact hg
 · intro h0 hg
   refine Good.weakB (el':=[.str kN,.list 27 (r.real.bodies.map (aH 300)),.list 17 (r.real.springs.map (aN 300)),.list 17 (r.real.tendons.map (aN 300)),.list 13 (r.real.motors.map (aV 300)),.list 5 []]) 3 0 (by rfl) (by rfl) (RefC.tl (RefC.tl (RefC.tl (RefC.tl (RefC.tl RefC.nilL))))) (Good.weakB (el':=[.list 34 (r.real.bodies.map (aK 300)),.list 22 (r.real.springs.map (bP 300)),.list 22 (r.real.tendons.map (bP 300)),.list 17 (r.real.motors.map (jG 300)),.list 6 []]) 4 0 (by rfl) (by rfl) (RefC.tl (RefC.tl (RefC.tl (RefC.tl RefC.nilL)))) (Good.castH (by kernel_rfl) hg))
 · exact rR eP [(317,ff)] (.a1 (iF (show ¬ ((r.soles.length:Int)<((r.soles.map dT).length:Int)) by rw[bM];omega)))
theorem Hg (r:RigD) (hok:r.ok):Good Tryz.prog 18 S No w0 (Qf S w0 r) [.code (aR [1,1,1,1,1,1,0,1,0,0] (aA Tryz.f18)),.inLoop (aR [1,1,1,1,1,1,0,1,0,0] (aA Tryz.f18)),.inBlock 6,.code (aR [1,1,1,1,1,1,1] (aA Tryz.f18))] ⟨slots 359 [(1,.ptr 0 5 0 0),(2,.ptr 1 6 0 0),(3,.ptr 2 5 0 0),(4,.ptr 3 6 0 0),(5,.ptr 4 5 0 0),(38,.i6 ((0:Nat):Int))],[some ⟨27,5,false,[cV r],none⟩,some (kQ),some (jP),some ⟨41,6,false,[[.str kN,.list 27 (r.real.bodies.map (aH 300)),.list 17 (r.real.springs.map (aN 300)),.list 17 (r.real.tendons.map (aN 300)),.nil,.nil]],none⟩,some ⟨48,5,false,[[.list 34 (r.real.bodies.map (aK 300)),.list 22 (r.real.springs.map (bP 300)),.list 22 (r.real.tendons.map (bP 300)),.nil,.nil]],none⟩]⟩:=by
 have hl:=hok.2.2.2.2.2.2.2.2.1;refine wQ (XS:=r.real.motors.map (aV 300)) (YS:=r.real.motors.map (jG 300)) r.drives.length (fun i=>aV 300 ((r.drives.getD i default).real)) (fun i=>jG 300 ((r.drives.getD i default).real)) (fun a b i h=>⟨slots 359 [(1,.ptr 0 5 0 0),(2,.ptr 1 6 0 0),(3,.ptr 2 5 0 0),(4,.ptr 3 6 0 0),(5,.ptr 4 5 0 0),(38,.i6 ((i:Nat):Int))],[some ⟨27,5,false,[cV r],none⟩,some (kQ),some (jP),some ⟨41,6,false,[[.str kN,.list 27 (r.real.bodies.map (aH 300)),.list 17 (r.real.springs.map (aN 300)),.list 17 (r.real.tendons.map (aN 300)),a,.nil]],none⟩,some ⟨48,5,false,[[.list 34 (r.real.bodies.map (aK 300)),.list 22 (r.real.springs.map (bP 300)),.list 22 (r.real.tendons.map (bP 300)),b,.nil]],none⟩]++h⟩) 5 6 13 17 239 241 ?_ ?_ ?_ ?_ (by simp only[RigD.real,List.map_map];exact eK (f:=fun v=>aV 300 v.real) r.drives) (by simp only[RigD.real,List.map_map];exact eK (f:=fun v=>jG 300 v.real) r.drives) ?_
 · intro hlt hg
   have hv:=hok.2.2.2.1 _ (eB hlt);have v0:(0:Int)<((r.drives.map eA).length:Int):=by rw[bM];omega
   exact gR eP none [1,2,3,4,5,38] [0,1,2,3,4,19,21] [(257,tt),(263,.cptr (eA (r.drives.getD 0 default)) 0),(259,.i6 ((0+1:Nat):Int))] (.c6 (iT v0) (show Ref (.cptr ((r.drives.map eA).getD 0 []) 0) (.cptr (eA (r.drives.getD 0 default)) 0) from Ref.cmap hlt) (nn 0) v0 hv.1 hv.2.1 (.c6 hv.2.2.1 hv.2.2.2 r1 (dc (0<1)) (dc (1*232<=140737488355328)) (dc (1<=big)) (.a5 r1 (dc (0<1)) (dc (1*264<=140737488355328)) (dc (1<=big)) (wI ((0:Int)+(1:Int)) ((0+1:Nat):Int))))) hg
 · intro i A B hi hlt hA hB hg
   have hv:=hok.2.2.2.1 _ (eB hlt);have v1:(i:Int)<((r.drives.map eA).length:Int):=by rw[bM];omega
   exact gR eP none [1,2,3,4,5,38] [0,1,2,3,4,21,23] [(257,tt),(263,.cptr (eA (r.drives.getD i default)) 0),(259,.i6 ((i+1:Nat):Int))] (.c6 (iT v1) (show Ref (.cptr ((r.drives.map eA).getD i []) 0) (.cptr (eA (r.drives.getD i default)) 0) from Ref.cmap hlt) (nn i) v1 hv.1 hv.2.1 (.c6 hv.2.2.1 hv.2.2.2 r1 (show i=A.length from hA.symm) (om ((i+1)*232<=140737488355328)) (show i+1<=big by unfold big;omega) (.a5 r1 (show i=B.length from hB.symm) (om ((i+1)*264<=140737488355328)) (show i+1<=big by unfold big;omega) (wI ((i:Int)+(1:Int)) ((i+1:Nat):Int))))) hg
 · intro A B hp hA hB hg
   refine Good.freezeD (b:=⟨239,13,true,A,none⟩) 5 (by rfl) (by rfl) .on (.oe (.a1 (om (0+r.drives.length<=A.length)))) ?_;refine Good.freezeD (b:=⟨241,17,true,B,none⟩) 6 (by rfl) (by rfl) .on (.oe (.a1 (om (0+r.drives.length<=B.length)))) ?_;refine Good.tidy [0,1,2,3,4] (by decide) (σ':=slots 359 [(1,.ptr 0 5 0 0),(2,.ptr 1 6 0 0),(3,.ptr 2 5 0 0),(4,.ptr 3 6 0 0),(5,.ptr 4 5 0 0),(38,.i6 ((r.drives.length:Nat):Int))]) (h':=[some ⟨27,5,false,[cV r],none⟩,some (kQ),some (jP),some ⟨41,6,false,[[.str kN,.list 27 (r.real.bodies.map (aH 300)),.list 17 (r.real.springs.map (aN 300)),.list 17 (r.real.tendons.map (aN 300)),.list 13 ((A.drop 0).take r.drives.length),.nil]],none⟩,some ⟨48,5,false,[[.list 34 (r.real.bodies.map (aK 300)),.list 22 (r.real.springs.map (bP 300)),.list 22 (r.real.tendons.map (bP 300)),.list 17 ((B.drop 0).take r.drives.length),.nil]],none⟩]) (by kernel_rfl) (by kernel_rfl) ?_;rw[List.drop_zero,List.drop_zero,gO (by omega),gO (by omega)];exact hg
 · intro h0 hg
   refine Good.weakB (el':=[.str kN,.list 27 (r.real.bodies.map (aH 300)),.list 17 (r.real.springs.map (aN 300)),.list 17 (r.real.tendons.map (aN 300)),.list 13 [],.nil]) 3 0 (by rfl) (by rfl) (RefC.tl (RefC.tl (RefC.tl (RefC.tl RefC.nilL)))) (Good.weakB (el':=[.list 34 (r.real.bodies.map (aK 300)),.list 22 (r.real.springs.map (bP 300)),.list 22 (r.real.tendons.map (bP 300)),.list 17 [],.nil]) 4 0 (by rfl) (by rfl) (RefC.tl (RefC.tl (RefC.tl RefC.nilL))) (Good.castH (by kernel_rfl) hg))
 · exact gN eP [1,2,3,4,5,48] [(257,ff)] (.a1 (iF (show ¬ ((r.drives.length:Int)<((r.drives.map eA).length:Int)) by rw[bM];omega))) (Hf r hok)
theorem Hh (r:RigD) (hok:r.ok):Good Tryz.prog 18 S No w0 (Qf S w0 r) [.code (aR [1,1,1,1,1,0,1,0,0] (aA Tryz.f18)),.inLoop (aR [1,1,1,1,1,0,1,0,0] (aA Tryz.f18)),.inBlock 4,.code (aR [1,1,1,1,1,1] (aA Tryz.f18))] ⟨slots 359 [(1,.ptr 0 5 0 0),(2,.ptr 1 6 0 0),(3,.ptr 2 5 0 0),(4,.ptr 3 6 0 0),(5,.ptr 4 5 0 0),(30,.i6 ((0:Nat):Int))],[some ⟨27,5,false,[cV r],none⟩,some (kQ),some (jP),some ⟨41,6,false,[[.str kN,.list 27 (r.real.bodies.map (aH 300)),.list 17 (r.real.springs.map (aN 300)),.nil,.nil,.nil]],none⟩,some ⟨48,5,false,[[.list 34 (r.real.bodies.map (aK 300)),.list 22 (r.real.springs.map (bP 300)),.nil,.nil,.nil]],none⟩]⟩:=by
 have hl:=hok.2.2.2.2.2.2.2.1;refine wQ (XS:=r.real.tendons.map (aN 300)) (YS:=r.real.tendons.map (bP 300)) r.tendons.length (fun i=>aN 300 ((r.tendons.getD i default).real)) (fun i=>bP 300 ((r.tendons.getD i default).real)) (fun a b i h=>⟨slots 359 [(1,.ptr 0 5 0 0),(2,.ptr 1 6 0 0),(3,.ptr 2 5 0 0),(4,.ptr 3 6 0 0),(5,.ptr 4 5 0 0),(30,.i6 ((i:Nat):Int))],[some ⟨27,5,false,[cV r],none⟩,some (kQ),some (jP),some ⟨41,6,false,[[.str kN,.list 27 (r.real.bodies.map (aH 300)),.list 17 (r.real.springs.map (aN 300)),a,.nil,.nil]],none⟩,some ⟨48,5,false,[[.list 34 (r.real.bodies.map (aK 300)),.list 22 (r.real.springs.map (bP 300)),b,.nil,.nil]],none⟩]++h⟩) 5 6 17 22 233 235 ?_ ?_ ?_ ?_ (by simp only[RigD.real,List.map_map];exact eK (f:=fun v=>aN 300 v.real) r.tendons) (by simp only[RigD.real,List.map_map];exact eK (f:=fun v=>bP 300 v.real) r.tendons) ?_
 · intro hlt hg
   have hv:=hok.2.2.1 _ (eB hlt);have v0:(0:Int)<((r.tendons.map cG).length:Int):=by rw[bM];omega
   exact gR eP none [1,2,3,4,5,30] [0,1,2,3,4,16,18] [(201,tt),(207,.cptr (cG (r.tendons.getD 0 default)) 0),(203,.i6 ((0+1:Nat):Int))] (.c6 (iT v0) (show Ref (.cptr ((r.tendons.map cG).getD 0 []) 0) (.cptr (cG (r.tendons.getD 0 default)) 0) from Ref.cmap hlt) (nn 0) v0 hv.1.1 hv.1.2 (.c6 hv.2.1.1 hv.2.1.2 hv.2.2 r1 (dc (0<1)) (dc (1*296<=140737488355328)) (.a6 (dc (1<=big)) r1 (dc (0<1)) (dc (1*336<=140737488355328)) (dc (1<=big)) (wI ((0:Int)+(1:Int)) ((0+1:Nat):Int))))) hg
 · intro i A B hi hlt hA hB hg
   have hv:=hok.2.2.1 _ (eB hlt);have v1:(i:Int)<((r.tendons.map cG).length:Int):=by rw[bM];omega
   exact gR eP none [1,2,3,4,5,30] [0,1,2,3,4,18,20] [(201,tt),(207,.cptr (cG (r.tendons.getD i default)) 0),(203,.i6 ((i+1:Nat):Int))] (.c6 (iT v1) (show Ref (.cptr ((r.tendons.map cG).getD i []) 0) (.cptr (cG (r.tendons.getD i default)) 0) from Ref.cmap hlt) (nn i) v1 hv.1.1 hv.1.2 (.c6 hv.2.1.1 hv.2.1.2 hv.2.2 r1 (show i=A.length from hA.symm) (om ((i+1)*296<=140737488355328)) (.a6 (show i+1<=big by unfold big;omega) r1 (show i=B.length from hB.symm) (om ((i+1)*336<=140737488355328)) (show i+1<=big by unfold big;omega) (wI ((i:Int)+(1:Int)) ((i+1:Nat):Int))))) hg
 · intro A B hp hA hB hg
   refine Good.freezeD (b:=⟨233,17,true,A,none⟩) 5 (by rfl) (by rfl) .on (.oe (.a1 (om (0+r.tendons.length<=A.length)))) ?_;refine Good.freezeD (b:=⟨235,22,true,B,none⟩) 6 (by rfl) (by rfl) .on (.oe (.a1 (om (0+r.tendons.length<=B.length)))) ?_;refine Good.tidy [0,1,2,3,4] (by decide) (σ':=slots 359 [(1,.ptr 0 5 0 0),(2,.ptr 1 6 0 0),(3,.ptr 2 5 0 0),(4,.ptr 3 6 0 0),(5,.ptr 4 5 0 0),(30,.i6 ((r.tendons.length:Nat):Int))]) (h':=[some ⟨27,5,false,[cV r],none⟩,some (kQ),some (jP),some ⟨41,6,false,[[.str kN,.list 27 (r.real.bodies.map (aH 300)),.list 17 (r.real.springs.map (aN 300)),.list 17 ((A.drop 0).take r.tendons.length),.nil,.nil]],none⟩,some ⟨48,5,false,[[.list 34 (r.real.bodies.map (aK 300)),.list 22 (r.real.springs.map (bP 300)),.list 22 ((B.drop 0).take r.tendons.length),.nil,.nil]],none⟩]) (by kernel_rfl) (by kernel_rfl) ?_;rw[List.drop_zero,List.drop_zero,gO (by omega),gO (by omega)];exact hg
 · intro h0 hg
   refine Good.weakB (el':=[.str kN,.list 27 (r.real.bodies.map (aH 300)),.list 17 (r.real.springs.map (aN 300)),.list 17 [],.nil,.nil]) 3 0 (by rfl) (by rfl) (RefC.tl (RefC.tl (RefC.tl RefC.nilL))) (Good.weakB (el':=[.list 34 (r.real.bodies.map (aK 300)),.list 22 (r.real.springs.map (bP 300)),.list 22 [],.nil,.nil]) 4 0 (by rfl) (by rfl) (RefC.tl (RefC.tl RefC.nilL)) (Good.castH (by kernel_rfl) hg))
 · exact gN eP [1,2,3,4,5,38] [(201,ff)] (.a1 (iF (show ¬ ((r.tendons.length:Int)<((r.tendons.map cG).length:Int)) by rw[bM];omega))) (Hg r hok)
theorem Hi (r:RigD) (hok:r.ok):Good Tryz.prog 18 S No w0 (Qf S w0 r) [.code (aR [1,1,1,1,0,1,0,0] (aA Tryz.f18)),.inLoop (aR [1,1,1,1,0,1,0,0] (aA Tryz.f18)),.inBlock 2,.code (aR [1,1,1,1,1] (aA Tryz.f18))] ⟨slots 359 [(1,.ptr 0 5 0 0),(2,.ptr 1 6 0 0),(3,.ptr 2 5 0 0),(4,.ptr 3 6 0 0),(5,.ptr 4 5 0 0),(22,.i6 ((0:Nat):Int))],[some ⟨27,5,false,[cV r],none⟩,some (kQ),some (jP),some ⟨41,6,false,[[.str kN,.list 27 (r.real.bodies.map (aH 300)),.nil,.nil,.nil,.nil]],none⟩,some ⟨48,5,false,[[.list 34 (r.real.bodies.map (aK 300)),.nil,.nil,.nil,.nil]],none⟩]⟩:=by
 have hl:=hok.2.2.2.2.2.2.1;refine wQ (XS:=r.real.springs.map (aN 300)) (YS:=r.real.springs.map (bP 300)) r.springs.length (fun i=>aN 300 ((r.springs.getD i default).real)) (fun i=>bP 300 ((r.springs.getD i default).real)) (fun a b i h=>⟨slots 359 [(1,.ptr 0 5 0 0),(2,.ptr 1 6 0 0),(3,.ptr 2 5 0 0),(4,.ptr 3 6 0 0),(5,.ptr 4 5 0 0),(22,.i6 ((i:Nat):Int))],[some ⟨27,5,false,[cV r],none⟩,some (kQ),some (jP),some ⟨41,6,false,[[.str kN,.list 27 (r.real.bodies.map (aH 300)),a,.nil,.nil,.nil]],none⟩,some ⟨48,5,false,[[.list 34 (r.real.bodies.map (aK 300)),b,.nil,.nil,.nil]],none⟩]++h⟩) 5 6 17 22 229 231 ?_ ?_ ?_ ?_ (by simp only[RigD.real,List.map_map];exact eK (f:=fun v=>aN 300 v.real) r.springs) (by simp only[RigD.real,List.map_map];exact eK (f:=fun v=>bP 300 v.real) r.springs) ?_
 · intro hlt hg
   have hv:=hok.2.1 _ (eB hlt);have v0:(0:Int)<((r.springs.map cG).length:Int):=by rw[bM];omega
   exact gR eP none [1,2,3,4,5,22] [0,1,2,3,4,16,18] [(145,tt),(151,.cptr (cG (r.springs.getD 0 default)) 0),(147,.i6 ((0+1:Nat):Int))] (.c6 (iT v0) (show Ref (.cptr ((r.springs.map cG).getD 0 []) 0) (.cptr (cG (r.springs.getD 0 default)) 0) from Ref.cmap hlt) (nn 0) v0 hv.1.1 hv.1.2 (.c6 hv.2.1.1 hv.2.1.2 hv.2.2 r1 (dc (0<1)) (dc (1*296<=140737488355328)) (.a6 (dc (1<=big)) r1 (dc (0<1)) (dc (1*336<=140737488355328)) (dc (1<=big)) (wI ((0:Int)+(1:Int)) ((0+1:Nat):Int))))) hg
 · intro i A B hi hlt hA hB hg
   have hv:=hok.2.1 _ (eB hlt);have v1:(i:Int)<((r.springs.map cG).length:Int):=by rw[bM];omega
   exact gR eP none [1,2,3,4,5,22] [0,1,2,3,4,18,20] [(145,tt),(151,.cptr (cG (r.springs.getD i default)) 0),(147,.i6 ((i+1:Nat):Int))] (.c6 (iT v1) (show Ref (.cptr ((r.springs.map cG).getD i []) 0) (.cptr (cG (r.springs.getD i default)) 0) from Ref.cmap hlt) (nn i) v1 hv.1.1 hv.1.2 (.c6 hv.2.1.1 hv.2.1.2 hv.2.2 r1 (show i=A.length from hA.symm) (om ((i+1)*296<=140737488355328)) (.a6 (show i+1<=big by unfold big;omega) r1 (show i=B.length from hB.symm) (om ((i+1)*336<=140737488355328)) (show i+1<=big by unfold big;omega) (wI ((i:Int)+(1:Int)) ((i+1:Nat):Int))))) hg
 · intro A B hp hA hB hg
   refine Good.freezeD (b:=⟨229,17,true,A,none⟩) 5 (by rfl) (by rfl) .on (.oe (.a1 (om (0+r.springs.length<=A.length)))) ?_;refine Good.freezeD (b:=⟨231,22,true,B,none⟩) 6 (by rfl) (by rfl) .on (.oe (.a1 (om (0+r.springs.length<=B.length)))) ?_;refine Good.tidy [0,1,2,3,4] (by decide) (σ':=slots 359 [(1,.ptr 0 5 0 0),(2,.ptr 1 6 0 0),(3,.ptr 2 5 0 0),(4,.ptr 3 6 0 0),(5,.ptr 4 5 0 0),(22,.i6 ((r.springs.length:Nat):Int))]) (h':=[some ⟨27,5,false,[cV r],none⟩,some (kQ),some (jP),some ⟨41,6,false,[[.str kN,.list 27 (r.real.bodies.map (aH 300)),.list 17 ((A.drop 0).take r.springs.length),.nil,.nil,.nil]],none⟩,some ⟨48,5,false,[[.list 34 (r.real.bodies.map (aK 300)),.list 22 ((B.drop 0).take r.springs.length),.nil,.nil,.nil]],none⟩]) (by kernel_rfl) (by kernel_rfl) ?_;rw[List.drop_zero,List.drop_zero,gO (by omega),gO (by omega)];exact hg
 · intro h0 hg
   refine Good.weakB (el':=[.str kN,.list 27 (r.real.bodies.map (aH 300)),.list 17 [],.nil,.nil,.nil]) 3 0 (by rfl) (by rfl) (RefC.tl (RefC.tl RefC.nilL)) (Good.weakB (el':=[.list 34 (r.real.bodies.map (aK 300)),.list 22 [],.nil,.nil,.nil]) 4 0 (by rfl) (by rfl) (RefC.tl RefC.nilL) (Good.castH (by kernel_rfl) hg))
 · exact gN eP [1,2,3,4,5,30] [(145,ff)] (.a1 (iF (show ¬ ((r.springs.length:Int)<((r.springs.map cG).length:Int)) by rw[bM];omega))) (Hh r hok)
abbrev KP (r:RigD):List AV:=[.list 6 (iQ (r.limbs.getD 0 default).shape),.list 8 (iR (r.limbs.getD 0 default).shape)]
abbrev KQ (r:RigD) (i:Nat):List AV:=[.list 6 (iQ (r.limbs.getD i default).shape),.list 8 (iR (r.limbs.getD i default).shape)]
theorem Hj (r:RigD) (hok:r.ok):Good Tryz.prog 18 S No w0 (Qf S w0 r) [.code (aR [1,1,1,0,1,0,0] (aA Tryz.f18)),.inLoop (aR [1,1,1,0,1,0,0] (aA Tryz.f18)),.inBlock 0,.code (aR [1,1,1,1] (aA Tryz.f18))] ⟨slots 359 [(1,.ptr 0 5 0 0),(2,.ptr 1 6 0 0),(3,.ptr 2 5 0 0),(4,.ptr 3 6 0 0),(5,.ptr 4 5 0 0),(6,.i6 ((0:Nat):Int))],[some ⟨27,5,false,[cV r],none⟩,some (kQ),some (jP),some ⟨41,6,false,[[.str kN,.nil,.nil,.nil,.nil,.nil]],none⟩,some (jP)]⟩:=by
 have hl:=hok.2.2.2.2.2.1;refine wQ (XS:=r.real.bodies.map (aH 300)) (YS:=r.real.bodies.map (aK 300)) r.limbs.length (fun i=>aH 300 ((r.limbs.getD i default).real (tP i))) (fun i=>aK 300 ((r.limbs.getD i default).real (tP i))) (fun a b i h=>⟨slots 359 [(1,.ptr 0 5 0 0),(2,.ptr 1 6 0 0),(3,.ptr 2 5 0 0),(4,.ptr 3 6 0 0),(5,.ptr 4 5 0 0),(6,.i6 ((i:Nat):Int))],[some ⟨27,5,false,[cV r],none⟩,some (kQ),some (jP),some ⟨41,6,false,[[.str kN,a,.nil,.nil,.nil,.nil]],none⟩,some ⟨48,5,false,[[b,.nil,.nil,.nil,.nil]],none⟩]++h⟩) 5 6 27 34 114 184 ?_ ?_ ?_ ?_ (by simp only[RigD.real,nN,List.map_map];rfl) (by simp only[RigD.real,nN,List.map_map];rfl) ?_
 · intro hlt hg
   have hv:=hok.1 _ (eB hlt);have v0:(0:Int)<((r.limbs.map dS).length:Int):=by rw[bM];omega
   exact gR eP none [1,2,3,4,5,6] [0,1,2,3,4,27,29] [(59,tt),(65,.cptr (dS (r.limbs.getD 0 default)) 0),(106,.tup (KP r)),(61,.i6 ((0+1:Nat):Int))] (.c6 (iT v0) (show Ref (.cptr ((r.limbs.map dS).getD 0 []) 0) (.cptr (dS (r.limbs.getD 0 default)) 0) from Ref.cmap hlt) (nn 0) v0 hv.1.1 hv.1.2 (.c6 hv.2.1.1 hv.2.1.2 hv.2.2.1 hv.2.2.2.1 hv.2.2.2.2.1 hv.2.2.2.2.2.1 (.c6 (show Ref (.tup [.list 6 (iQ (((r.limbs.getD 0 default).shape.map unSpot).map dK)),.list 8 (iR (((r.limbs.getD 0 default).shape.map unSpot).map dK))]) (.tup (KP r)) from Ref.eq (by rw[dZ])) (show((r.limbs.getD 0 default).shape.map unSpot)=(((r.limbs.getD 0 default).shape.map unSpot).map dK).map unSpot by rw[dZ]) (show ∀ s∈((r.limbs.getD 0 default).shape.map unSpot).map dK,s.ok by rw[dZ];exact hv.2.2.2.2.2.2.1) (show((r.limbs.getD 0 default).shape.map unSpot).length*128<=140737488355328 by rw[bM];exact hv.2.2.2.2.2.2.2) (nn 0) (om (0<=4611686018427387904)) (.c6 r1 (dc (0<1)) (dc (1*496<=140737488355328)) (dc (1<=big)) r1 (dc (0<1)) (.a3 (dc (1*544<=140737488355328)) (dc (1<=big)) (wI ((0:Int)+(1:Int)) ((0+1:Nat):Int))))))) hg
 · intro i A B hi hlt hA hB hg
   have hv:=hok.1 _ (eB hlt);have v1:(i:Int)<((r.limbs.map dS).length:Int):=by rw[bM];omega
   exact gR eP none [1,2,3,4,5,6] [0,1,2,3,4,29,31] [(59,tt),(65,.cptr (dS (r.limbs.getD i default)) 0),(106,.tup (KQ r i)),(61,.i6 ((i+1:Nat):Int))] (.c6 (iT v1) (show Ref (.cptr ((r.limbs.map dS).getD i []) 0) (.cptr (dS (r.limbs.getD i default)) 0) from Ref.cmap hlt) (nn i) v1 hv.1.1 hv.1.2 (.c6 hv.2.1.1 hv.2.1.2 hv.2.2.1 hv.2.2.2.1 hv.2.2.2.2.1 hv.2.2.2.2.2.1 (.c6 (show Ref (.tup [.list 6 (iQ (((r.limbs.getD i default).shape.map unSpot).map dK)),.list 8 (iR (((r.limbs.getD i default).shape.map unSpot).map dK))]) (.tup (KQ r i)) from Ref.eq (by rw[dZ])) (show((r.limbs.getD i default).shape.map unSpot)=(((r.limbs.getD i default).shape.map unSpot).map dK).map unSpot by rw[dZ]) (show ∀ s∈((r.limbs.getD i default).shape.map unSpot).map dK,s.ok by rw[dZ];exact hv.2.2.2.2.2.2.1) (show((r.limbs.getD i default).shape.map unSpot).length*128<=140737488355328 by rw[bM];exact hv.2.2.2.2.2.2.2) (nn i) (om (i<=4611686018427387904)) (.c6 r1 (show i=A.length from hA.symm) (om ((i+1)*496<=140737488355328)) (show i+1<=big by unfold big;omega) r1 (show i=B.length from hB.symm) (.a3 (om ((i+1)*544<=140737488355328)) (show i+1<=big by unfold big;omega) (wI ((i:Int)+(1:Int)) ((i+1:Nat):Int))))))) hg
 · intro A B hp hA hB hg
   refine Good.freezeD (b:=⟨114,27,true,A,none⟩) 5 (by rfl) (by rfl) .on (.oe (.a1 (om (0+r.limbs.length<=A.length)))) ?_;refine Good.freezeD (b:=⟨184,34,true,B,none⟩) 6 (by rfl) (by rfl) .on (.oe (.a1 (om (0+r.limbs.length<=B.length)))) ?_;refine Good.tidy [0,1,2,3,4] (by decide) (σ':=slots 359 [(1,.ptr 0 5 0 0),(2,.ptr 1 6 0 0),(3,.ptr 2 5 0 0),(4,.ptr 3 6 0 0),(5,.ptr 4 5 0 0),(6,.i6 ((r.limbs.length:Nat):Int))]) (h':=[some ⟨27,5,false,[cV r],none⟩,some (kQ),some (jP),some ⟨41,6,false,[[.str kN,.list 27 ((A.drop 0).take r.limbs.length),.nil,.nil,.nil,.nil]],none⟩,some ⟨48,5,false,[[.list 34 ((B.drop 0).take r.limbs.length),.nil,.nil,.nil,.nil]],none⟩]) (by kernel_rfl) (by kernel_rfl) ?_;rw[List.drop_zero,List.drop_zero,gO (by omega),gO (by omega)];exact hg
 · intro h0 hg
   refine Good.weakB (el':=[.str kN,.list 27 [],.nil,.nil,.nil,.nil]) 3 0 (by rfl) (by rfl) (RefC.tl RefC.nilL) (Good.weakB (el':=[.list 34 [],.nil,.nil,.nil,.nil]) 4 0 (by rfl) (by rfl) RefC.nilL (Good.castH (by kernel_rfl) hg))
 · exact gN eP [1,2,3,4,5,22] [(59,ff)] (.a1 (iF (show ¬ ((r.limbs.length:Int)<((r.limbs.map dS).length:Int)) by rw[bM];omega))) (Hi r hok)
end
theorem Vw:bO 18 UR:=by
 refine cJ Tryz.f18 fun _ _ _ S w0 h ho=> ?_
 unfold UR at h;split at h <;> cases h;rename_i R;obtain⟨o1,o2⟩:=ho.e2;clear ho;generalize iC R=r at*;subst o1;exact gN eP [1,2,3,4,5,6] [(54,.agg [.str kN,AV.nil,AV.nil,AV.nil,AV.nil,AV.nil])] (.a1 (show Ref (.agg [.str (ByteArray.mk #[114,105,103]),AV.nil,AV.nil,AV.nil,AV.nil,AV.nil]) (.agg [.str kN,AV.nil,AV.nil,AV.nil,AV.nil,AV.nil]) from rr)) (Hj r o2)
def fS:=kn
abbrev fZ (ff:Func):List Item:=[.code (aR [1,1,1,0,1,0,0] (aA ff)),.inLoop (aR [1,1,1,0,1,0,0] (aA ff)),.inBlock 0,.code (aR [1,1,1,1] (aA ff))]
abbrev gA (i:Nat) (xs:List Nat):AV:=(.bool (decide ((i:Int)<((aO xs).length:Int))))
abbrev jM (i:Nat) (ys:List Nat):AV:=(.bool (decide ((i:Int)<((aO ys).length:Int))))
abbrev nY (i:Nat):AV:=(.i6 (IntKind.i64.wrap ((i:Int)+(1:Int))))
abbrev Ar (xs:List Nat) (ys:List Nat) (c2:Nat) (i:Nat):List (Nat×AV):=[(0,(.list 1 (aO xs))),(1,(.list 1 (aO ys))),(5,(.own 0 1 0 1)),(6,(.i6 (c2:Int))),(7,(.i6 ((i+1:Nat):Int)))]
abbrev As (xs:List Nat) (ys:List Nat) (m:Nat) (c2:Nat) (i:Nat):List (Nat×AV):=[(0,(.list 1 (aO xs))),(1,(.list 1 (aO ys))),(5,(.own 0 1 0 (m+1))),(6,(.i6 (c2:Int))),(7,(.i6 ((i+1:Nat):Int)))]
abbrev Hk (xs:List Nat) (i:Nat) (c:Nat) (ys:List Nat) (v:Nat) (c2:Nat):List (Nat×AV):=[(12,(.bool true)),(27,(.bool true)),(31,(.cptr [.i6 (xs.getD i 0:Int)] 0)),(33,(.i6 ((c+xs.getD i 0:Nat):Int))),(37,(.bool true)),(41,(.cptr [.i6 (ys.getD i 0:Int)] 0)),(43,(.i6 ((c+xs.getD i 0+ys.getD i 0:Nat):Int))),(46,(.i6 (v:Int))),(50,(.i6 (c2:Int))),(23,(.i6 ((i+1:Nat):Int)))]
abbrev At (xs:List Nat) (ys:List Nat) (m:Nat) (c:Nat) (i:Nat):List (Nat×AV):=[(0,(.list 1 (aO xs))),(1,(.list 1 (aO ys))),(5,(.own 0 1 0 m)),(6,(.i6 (c:Int))),(7,(.i6 (i:Int)))]
abbrev Au (xs:List Nat) (ys:List Nat) (c:Nat) (i:Nat):List (Nat×AV):=[(0,(.list 1 (aO xs))),(1,(.list 1 (aO ys))),(5,AV.nil),(6,(.i6 (c:Int))),(7,(.i6 (i:Int)))]
abbrev Hl (ys:List Nat) (i:Nat) (c:Nat) (v:Nat) (c2:Nat):List (Nat×AV):=[(12,(.bool false)),(18,(.bool true)),(27,(.bool false)),(37,(.bool true)),(41,(.cptr [.i6 (ys.getD i 0:Int)] 0)),(43,(.i6 ((c+ys.getD i 0:Nat):Int))),(46,(.i6 (v:Int))),(50,(.i6 (c2:Int))),(23,(.i6 ((i+1:Nat):Int)))]
abbrev DJ (xs:List Nat) (i:Nat) (c:Nat) (v:Nat) (c2:Nat):List (Nat×AV):=[(12,(.bool true)),(27,(.bool true)),(31,(.cptr [.i6 (xs.getD i 0:Int)] 0)),(33,(.i6 ((c+xs.getD i 0:Nat):Int))),(37,(.bool false)),(46,(.i6 (v:Int))),(50,(.i6 (c2:Int))),(23,(.i6 ((i+1:Nat):Int)))]
abbrev DK (v:Nat) (c2:Nat) (i:Nat):List (Nat×AV):=[(12,(.bool false)),(18,(.bool false)),(21,(.bool true)),(27,(.bool false)),(37,(.bool false)),(46,(.i6 (v:Int))),(50,(.i6 (c2:Int))),(23,(.i6 ((i+1:Nat):Int)))]
abbrev uR (v:Nat):List (Option ABlk):=[some ⟨3,1,true,[[.i6 (v:Int)]],none⟩]
abbrev uS (c:Nat) (xs:List Nat) (i:Nat):AV:=(.i6 (IntKind.i64.wrap ((c:Int)+(xs.getD i 0:Int))))
section
variable {S0 C0:Nat->Prop} {w0:World} {Post:Value->World->Prop}
theorem Hm (xs ys:List Nat) (c i c2 v:Nat) (h1:(i:Int)<((aO xs).length:Int)) (h2:(i:Int)<((aO ys).length:Int)) (o:(i<xs.length)/\((i:Int)<((aO xs).length:Int))/\(-9223372036854775808<=(c:Int)+(xs.getD i 0:Int)/\(c:Int)+(xs.getD i 0:Int)<=9223372036854775807)/\(i<ys.length)/\((i:Int)<((aO ys).length:Int))/\(-9223372036854775808<=((c+xs.getD i 0:Nat):Int)+(ys.getD i 0:Int)/\((c+xs.getD i 0:Nat):Int)+(ys.getD i 0:Int)<=9223372036854775807)/\(Ref (.i6 (((c+xs.getD i 0+ys.getD i 0:Nat):Int).tmod (10000:Int))) (.i6 (v:Int)))/\(1*8<=140737488355328)/\(1<=big)/\(Ref (.i6 (IntKind.i64.wrap (((c+xs.getD i 0+ys.getD i 0:Nat):Int).tdiv (10000:Int)))) (.i6 (c2:Int)))/\(-9223372036854775808<=(i:Int)+(1:Int)/\(i:Int)+(1:Int)<=9223372036854775807))
   (hg:Good Tryz.prog 292 S0 C0 w0 Post (fZ Tryz.f292) ⟨slots 52 (Ar xs ys c2 i),(uR v)⟩):
   Good Tryz.prog 292 S0 C0 w0 Post (fZ Tryz.f292) ⟨slots 52 (Au xs ys c i),[]⟩:=
 tN mixed aX fS 28 none [0,1,4,5,6,7] [1] (Hk xs i c ys v c2) (ob:=[Ref (gA i xs) (.bool true),Ref (gA i xs) (.bool true),Ref (.cptr ((aO xs).getD i []) 0) (.cptr [.i6 (xs.getD i 0:Int)] 0),0<=(i:Int),(i:Int)<((aO xs).length:Int),Ref (uS c xs i) (.i6 ((c+xs.getD i 0:Nat):Int)),Ref (jM i ys) (.bool true),Ref (.cptr ((aO ys).getD i []) 0) (.cptr [.i6 (ys.getD i 0:Int)] 0),0<=(i:Int),(i:Int)<((aO ys).length:Int),Ref (.i6 (IntKind.i64.wrap (((c+xs.getD i 0:Nat):Int)+(ys.getD i 0:Int)))) (.i6 ((c+xs.getD i 0+ys.getD i 0:Nat):Int)),Ref (.i6 (((c+xs.getD i 0+ys.getD i 0:Nat):Int).tmod (10000:Int))) (.i6 (v:Int)),(10000:Int)≠0,1=1,0<1,1*8<=140737488355328,1<=big,Ref (.i6 (IntKind.i64.wrap (((c+xs.getD i 0+ys.getD i 0:Nat):Int).tdiv (10000:Int)))) (.i6 (c2:Int)),(10000:Int)≠0,Ref (nY i) (.i6 ((i+1:Nat):Int))]) (by decide) (by kernel_rfl)
   (.cons (Ref.bool (decide_eq_true h1)) (.cons (Ref.bool (decide_eq_true h1)) (.cons (Ref.cd64 o.1) (.cons (Int.natCast_nonneg _) (.cons (o.2.1) (.cons ((Ref.wr o.2.2.1).trans (Ref.int (by first | rfl | omega | simp))) (.cons (Ref.bool (decide_eq_true h2)) (.cons (Ref.cd64 o.2.2.2.1) (.cons (Int.natCast_nonneg _) (.cons (o.2.2.2.2.1) (.cons ((Ref.wr o.2.2.2.2.2.1).trans (Ref.int (by first | rfl | omega | simp))) (.cons (o.2.2.2.2.2.2.1) (.cons (by decide) (.cons (rfl) (.cons (by decide) (.cons (o.2.2.2.2.2.2.2.1) (.cons (o.2.2.2.2.2.2.2.2.1) (.cons (o.2.2.2.2.2.2.2.2.2.1) (.cons (by decide) (.cons ((Ref.wr o.2.2.2.2.2.2.2.2.2.2).trans (Ref.int (by first | rfl | omega | simp))) (AllP.nil))))))))))))))))))))) hg
theorem Hn (xs ys:List Nat) (c i c2 v:Nat) (h1:(i:Int)<((aO xs).length:Int)) (h2:¬ ((i:Int)<((aO ys).length:Int))) (o:(i<xs.length)/\((i:Int)<((aO xs).length:Int))/\(-9223372036854775808<=(c:Int)+(xs.getD i 0:Int)/\(c:Int)+(xs.getD i 0:Int)<=9223372036854775807)/\(Ref (.i6 (((c+xs.getD i 0:Nat):Int).tmod (10000:Int))) (.i6 (v:Int)))/\(1*8<=140737488355328)/\(1<=big)/\(Ref (.i6 (IntKind.i64.wrap (((c+xs.getD i 0:Nat):Int).tdiv (10000:Int)))) (.i6 (c2:Int)))/\(-9223372036854775808<=(i:Int)+(1:Int)/\(i:Int)+(1:Int)<=9223372036854775807))
   (hg:Good Tryz.prog 292 S0 C0 w0 Post (fZ Tryz.f292) ⟨slots 52 (Ar xs ys c2 i),(uR v)⟩):
   Good Tryz.prog 292 S0 C0 w0 Post (fZ Tryz.f292) ⟨slots 52 (Au xs ys c i),[]⟩:=
 tN mixed aX fS 28 none [0,1,4,5,6,7] [1] (DJ xs i c v c2) (ob:=[Ref (gA i xs) (.bool true),Ref (gA i xs) (.bool true),Ref (.cptr ((aO xs).getD i []) 0) (.cptr [.i6 (xs.getD i 0:Int)] 0),0<=(i:Int),(i:Int)<((aO xs).length:Int),Ref (uS c xs i) (.i6 ((c+xs.getD i 0:Nat):Int)),Ref (jM i ys) (.bool false),Ref (.i6 (((c+xs.getD i 0:Nat):Int).tmod (10000:Int))) (.i6 (v:Int)),(10000:Int)≠0,1=1,0<1,1*8<=140737488355328,1<=big,Ref (.i6 (IntKind.i64.wrap (((c+xs.getD i 0:Nat):Int).tdiv (10000:Int)))) (.i6 (c2:Int)),(10000:Int)≠0,Ref (nY i) (.i6 ((i+1:Nat):Int))]) (by decide) (by kernel_rfl)
   (.cons (Ref.bool (decide_eq_true h1)) (.cons (Ref.bool (decide_eq_true h1)) (.cons (Ref.cd64 o.1) (.cons (Int.natCast_nonneg _) (.cons (o.2.1) (.cons ((Ref.wr o.2.2.1).trans (Ref.int (by first | rfl | omega | simp))) (.cons (Ref.bool (decide_eq_false h2)) (.cons (o.2.2.2.1) (.cons (by decide) (.cons (rfl) (.cons (by decide) (.cons (o.2.2.2.2.1) (.cons (o.2.2.2.2.2.1) (.cons (o.2.2.2.2.2.2.1) (.cons (by decide) (.cons ((Ref.wr o.2.2.2.2.2.2.2).trans (Ref.int (by first | rfl | omega | simp))) (AllP.nil))))))))))))))))) hg
theorem Ho (xs ys:List Nat) (c i c2 v:Nat) (h1:¬ ((i:Int)<((aO xs).length:Int))) (h2:(i:Int)<((aO ys).length:Int)) (o:(i<ys.length)/\((i:Int)<((aO ys).length:Int))/\(-9223372036854775808<=(c:Int)+(ys.getD i 0:Int)/\(c:Int)+(ys.getD i 0:Int)<=9223372036854775807)/\(Ref (.i6 (((c+ys.getD i 0:Nat):Int).tmod (10000:Int))) (.i6 (v:Int)))/\(1*8<=140737488355328)/\(1<=big)/\(Ref (.i6 (IntKind.i64.wrap (((c+ys.getD i 0:Nat):Int).tdiv (10000:Int)))) (.i6 (c2:Int)))/\(-9223372036854775808<=(i:Int)+(1:Int)/\(i:Int)+(1:Int)<=9223372036854775807))
   (hg:Good Tryz.prog 292 S0 C0 w0 Post (fZ Tryz.f292) ⟨slots 52 (Ar xs ys c2 i),(uR v)⟩):
   Good Tryz.prog 292 S0 C0 w0 Post (fZ Tryz.f292) ⟨slots 52 (Au xs ys c i),[]⟩:=
 tN mixed aX fS 28 none [0,1,4,5,6,7] [1] (Hl ys i c v c2) (ob:=[Ref (gA i xs) (.bool false),Ref (jM i ys) (.bool true),Ref (gA i xs) (.bool false),Ref (jM i ys) (.bool true),Ref (.cptr ((aO ys).getD i []) 0) (.cptr [.i6 (ys.getD i 0:Int)] 0),0<=(i:Int),(i:Int)<((aO ys).length:Int),Ref (.i6 (IntKind.i64.wrap ((c:Int)+(ys.getD i 0:Int)))) (.i6 ((c+ys.getD i 0:Nat):Int)),Ref (.i6 (((c+ys.getD i 0:Nat):Int).tmod (10000:Int))) (.i6 (v:Int)),(10000:Int)≠0,1=1,0<1,1*8<=140737488355328,1<=big,Ref (.i6 (IntKind.i64.wrap (((c+ys.getD i 0:Nat):Int).tdiv (10000:Int)))) (.i6 (c2:Int)),(10000:Int)≠0,Ref (nY i) (.i6 ((i+1:Nat):Int))]) (by decide) (by kernel_rfl)
   (.cons (Ref.bool (decide_eq_false h1)) (.cons (Ref.bool (decide_eq_true h2)) (.cons (Ref.bool (decide_eq_false h1)) (.cons (Ref.bool (decide_eq_true h2)) (.cons (Ref.cd64 o.1) (.cons (Int.natCast_nonneg _) (.cons (o.2.1) (.cons ((Ref.wr o.2.2.1).trans (Ref.int (by first | rfl | omega | simp))) (.cons (o.2.2.2.1) (.cons (by decide) (.cons (rfl) (.cons (by decide) (.cons (o.2.2.2.2.1) (.cons (o.2.2.2.2.2.1) (.cons (o.2.2.2.2.2.2.1) (.cons (by decide) (.cons ((Ref.wr o.2.2.2.2.2.2.2).trans (Ref.int (by first | rfl | omega | simp))) (AllP.nil)))))))))))))))))) hg
theorem Hp (xs ys:List Nat) (c i c2 v:Nat) (h1:¬ ((i:Int)<((aO xs).length:Int))) (h2:¬ ((i:Int)<((aO ys).length:Int))) (h3:(0:Int)<(c:Int)) (o:(Ref (.i6 ((c:Int).tmod (10000:Int))) (.i6 (v:Int)))/\(1*8<=140737488355328)/\(1<=big)/\(Ref (.i6 (IntKind.i64.wrap ((c:Int).tdiv (10000:Int)))) (.i6 (c2:Int)))/\(-9223372036854775808<=(i:Int)+(1:Int)/\(i:Int)+(1:Int)<=9223372036854775807))
   (hg:Good Tryz.prog 292 S0 C0 w0 Post (fZ Tryz.f292) ⟨slots 52 (Ar xs ys c2 i),(uR v)⟩):
   Good Tryz.prog 292 S0 C0 w0 Post (fZ Tryz.f292) ⟨slots 52 (Au xs ys c i),[]⟩:=
 tN mixed aX fS 28 none [0,1,4,5,6,7] [1] (DK v c2 i) (ob:=[Ref (gA i xs) (.bool false),Ref (jM i ys) (.bool false),Ref (.bool (decide ((0:Int)<(c:Int)))) (.bool true),Ref (gA i xs) (.bool false),Ref (jM i ys) (.bool false),Ref (.i6 ((c:Int).tmod (10000:Int))) (.i6 (v:Int)),(10000:Int)≠0,1=1,0<1,1*8<=140737488355328,1<=big,Ref (.i6 (IntKind.i64.wrap ((c:Int).tdiv (10000:Int)))) (.i6 (c2:Int)),(10000:Int)≠0,Ref (nY i) (.i6 ((i+1:Nat):Int))]) (by decide) (by kernel_rfl)
   (.cons (Ref.bool (decide_eq_false h1)) (.cons (Ref.bool (decide_eq_false h2)) (.cons (Ref.bool (decide_eq_true h3)) (.cons (Ref.bool (decide_eq_false h1)) (.cons (Ref.bool (decide_eq_false h2)) (.cons (o.1) (.cons (by decide) (.cons (rfl) (.cons (by decide) (.cons (o.2.1) (.cons (o.2.2.1) (.cons (o.2.2.2.1) (.cons (by decide) (.cons ((Ref.wr o.2.2.2.2).trans (Ref.int (by first | rfl | omega | simp))) (AllP.nil))))))))))))))) hg
theorem Hq (xs ys ds:List Nat) (m c i c2 v:Nat) (h1:(i:Int)<((aO xs).length:Int)) (h2:(i:Int)<((aO ys).length:Int)) (o:(i<xs.length)/\((i:Int)<((aO xs).length:Int))/\(-9223372036854775808<=(c:Int)+(xs.getD i 0:Int)/\(c:Int)+(xs.getD i 0:Int)<=9223372036854775807)/\(i<ys.length)/\((i:Int)<((aO ys).length:Int))/\(-9223372036854775808<=((c+xs.getD i 0:Nat):Int)+(ys.getD i 0:Int)/\((c+xs.getD i 0:Nat):Int)+(ys.getD i 0:Int)<=9223372036854775807)/\(Ref (.i6 (((c+xs.getD i 0+ys.getD i 0:Nat):Int).tmod (10000:Int))) (.i6 (v:Int)))/\(m=(aO ds).length)/\((m+1)*8<=140737488355328)/\(m+1<=big)/\(Ref (.i6 (IntKind.i64.wrap (((c+xs.getD i 0+ys.getD i 0:Nat):Int).tdiv (10000:Int)))) (.i6 (c2:Int)))/\(-9223372036854775808<=(i:Int)+(1:Int)/\(i:Int)+(1:Int)<=9223372036854775807))
   (hg:Good Tryz.prog 292 S0 C0 w0 Post (fZ Tryz.f292) ⟨slots 52 (As xs ys m c2 i),[some ⟨3,1,true,((aO ds)++ [[(AV.int .i64 (v:Int))]]),none⟩]⟩):
   Good Tryz.prog 292 S0 C0 w0 Post (fZ Tryz.f292) ⟨slots 52 (At xs ys m c i),[some ⟨3,1,true,(aO ds),none⟩]⟩:=
 tN mixed aX fS 28 none [0,1,4,5,6,7] [2] (Hk xs i c ys v c2) (ob:=[Ref (gA i xs) (.bool true),Ref (gA i xs) (.bool true),Ref (.cptr ((aO xs).getD i []) 0) (.cptr [.i6 (xs.getD i 0:Int)] 0),0<=(i:Int),(i:Int)<((aO xs).length:Int),Ref (uS c xs i) (.i6 ((c+xs.getD i 0:Nat):Int)),Ref (jM i ys) (.bool true),Ref (.cptr ((aO ys).getD i []) 0) (.cptr [.i6 (ys.getD i 0:Int)] 0),0<=(i:Int),(i:Int)<((aO ys).length:Int),Ref (.i6 (IntKind.i64.wrap (((c+xs.getD i 0:Nat):Int)+(ys.getD i 0:Int)))) (.i6 ((c+xs.getD i 0+ys.getD i 0:Nat):Int)),Ref (.i6 (((c+xs.getD i 0+ys.getD i 0:Nat):Int).tmod (10000:Int))) (.i6 (v:Int)),(10000:Int)≠0,1=1,m=(aO ds).length,(m+1)*8<=140737488355328,m+1<=big,Ref (.i6 (IntKind.i64.wrap (((c+xs.getD i 0+ys.getD i 0:Nat):Int).tdiv (10000:Int)))) (.i6 (c2:Int)),(10000:Int)≠0,Ref (nY i) (.i6 ((i+1:Nat):Int))]) (by decide) (by kernel_rfl)
   (.cons (Ref.bool (decide_eq_true h1)) (.cons (Ref.bool (decide_eq_true h1)) (.cons (Ref.cd64 o.1) (.cons (Int.natCast_nonneg _) (.cons (o.2.1) (.cons ((Ref.wr o.2.2.1).trans (Ref.int (by first | rfl | omega | simp))) (.cons (Ref.bool (decide_eq_true h2)) (.cons (Ref.cd64 o.2.2.2.1) (.cons (Int.natCast_nonneg _) (.cons (o.2.2.2.2.1) (.cons ((Ref.wr o.2.2.2.2.2.1).trans (Ref.int (by first | rfl | omega | simp))) (.cons (o.2.2.2.2.2.2.1) (.cons (by decide) (.cons (rfl) (.cons (o.2.2.2.2.2.2.2.1) (.cons (o.2.2.2.2.2.2.2.2.1) (.cons (o.2.2.2.2.2.2.2.2.2.1) (.cons (o.2.2.2.2.2.2.2.2.2.2.1) (.cons (by decide) (.cons ((Ref.wr o.2.2.2.2.2.2.2.2.2.2.2).trans (Ref.int (by first | rfl | omega | simp))) (AllP.nil))))))))))))))))))))) hg
theorem Hr (xs ys ds:List Nat) (m c i c2 v:Nat) (h1:(i:Int)<((aO xs).length:Int)) (h2:¬ ((i:Int)<((aO ys).length:Int))) (o:(i<xs.length)/\((i:Int)<((aO xs).length:Int))/\(-9223372036854775808<=(c:Int)+(xs.getD i 0:Int)/\(c:Int)+(xs.getD i 0:Int)<=9223372036854775807)/\(Ref (.i6 (((c+xs.getD i 0:Nat):Int).tmod (10000:Int))) (.i6 (v:Int)))/\(m=(aO ds).length)/\((m+1)*8<=140737488355328)/\(m+1<=big)/\(Ref (.i6 (IntKind.i64.wrap (((c+xs.getD i 0:Nat):Int).tdiv (10000:Int)))) (.i6 (c2:Int)))/\(-9223372036854775808<=(i:Int)+(1:Int)/\(i:Int)+(1:Int)<=9223372036854775807))
   (hg:Good Tryz.prog 292 S0 C0 w0 Post (fZ Tryz.f292) ⟨slots 52 (As xs ys m c2 i),[some ⟨3,1,true,((aO ds)++ [[(AV.int .i64 (v:Int))]]),none⟩]⟩):
   Good Tryz.prog 292 S0 C0 w0 Post (fZ Tryz.f292) ⟨slots 52 (At xs ys m c i),[some ⟨3,1,true,(aO ds),none⟩]⟩:=
 tN mixed aX fS 28 none [0,1,4,5,6,7] [2] (DJ xs i c v c2) (ob:=[Ref (gA i xs) (.bool true),Ref (gA i xs) (.bool true),Ref (.cptr ((aO xs).getD i []) 0) (.cptr [.i6 (xs.getD i 0:Int)] 0),0<=(i:Int),(i:Int)<((aO xs).length:Int),Ref (uS c xs i) (.i6 ((c+xs.getD i 0:Nat):Int)),Ref (jM i ys) (.bool false),Ref (.i6 (((c+xs.getD i 0:Nat):Int).tmod (10000:Int))) (.i6 (v:Int)),(10000:Int)≠0,1=1,m=(aO ds).length,(m+1)*8<=140737488355328,m+1<=big,Ref (.i6 (IntKind.i64.wrap (((c+xs.getD i 0:Nat):Int).tdiv (10000:Int)))) (.i6 (c2:Int)),(10000:Int)≠0,Ref (nY i) (.i6 ((i+1:Nat):Int))]) (by decide) (by kernel_rfl)
   (.cons (Ref.bool (decide_eq_true h1)) (.cons (Ref.bool (decide_eq_true h1)) (.cons (Ref.cd64 o.1) (.cons (Int.natCast_nonneg _) (.cons (o.2.1) (.cons ((Ref.wr o.2.2.1).trans (Ref.int (by first | rfl | omega | simp))) (.cons (Ref.bool (decide_eq_false h2)) (.cons (o.2.2.2.1) (.cons (by decide) (.cons (rfl) (.cons (o.2.2.2.2.1) (.cons (o.2.2.2.2.2.1) (.cons (o.2.2.2.2.2.2.1) (.cons (o.2.2.2.2.2.2.2.1) (.cons (by decide) (.cons ((Ref.wr o.2.2.2.2.2.2.2.2).trans (Ref.int (by first | rfl | omega | simp))) (AllP.nil))))))))))))))))) hg
theorem Hs (xs ys ds:List Nat) (m c i c2 v:Nat) (h1:¬ ((i:Int)<((aO xs).length:Int))) (h2:(i:Int)<((aO ys).length:Int)) (o:(i<ys.length)/\((i:Int)<((aO ys).length:Int))/\(-9223372036854775808<=(c:Int)+(ys.getD i 0:Int)/\(c:Int)+(ys.getD i 0:Int)<=9223372036854775807)/\(Ref (.i6 (((c+ys.getD i 0:Nat):Int).tmod (10000:Int))) (.i6 (v:Int)))/\(m=(aO ds).length)/\((m+1)*8<=140737488355328)/\(m+1<=big)/\(Ref (.i6 (IntKind.i64.wrap (((c+ys.getD i 0:Nat):Int).tdiv (10000:Int)))) (.i6 (c2:Int)))/\(-9223372036854775808<=(i:Int)+(1:Int)/\(i:Int)+(1:Int)<=9223372036854775807))
   (hg:Good Tryz.prog 292 S0 C0 w0 Post (fZ Tryz.f292) ⟨slots 52 (As xs ys m c2 i),[some ⟨3,1,true,((aO ds)++ [[(AV.int .i64 (v:Int))]]),none⟩]⟩):
   Good Tryz.prog 292 S0 C0 w0 Post (fZ Tryz.f292) ⟨slots 52 (At xs ys m c i),[some ⟨3,1,true,(aO ds),none⟩]⟩:=
 tN mixed aX fS 28 none [0,1,4,5,6,7] [2] (Hl ys i c v c2) (ob:=[Ref (gA i xs) (.bool false),Ref (jM i ys) (.bool true),Ref (gA i xs) (.bool false),Ref (jM i ys) (.bool true),Ref (.cptr ((aO ys).getD i []) 0) (.cptr [.i6 (ys.getD i 0:Int)] 0),0<=(i:Int),(i:Int)<((aO ys).length:Int),Ref (.i6 (IntKind.i64.wrap ((c:Int)+(ys.getD i 0:Int)))) (.i6 ((c+ys.getD i 0:Nat):Int)),Ref (.i6 (((c+ys.getD i 0:Nat):Int).tmod (10000:Int))) (.i6 (v:Int)),(10000:Int)≠0,1=1,m=(aO ds).length,(m+1)*8<=140737488355328,m+1<=big,Ref (.i6 (IntKind.i64.wrap (((c+ys.getD i 0:Nat):Int).tdiv (10000:Int)))) (.i6 (c2:Int)),(10000:Int)≠0,Ref (nY i) (.i6 ((i+1:Nat):Int))]) (by decide) (by kernel_rfl)
   (.cons (Ref.bool (decide_eq_false h1)) (.cons (Ref.bool (decide_eq_true h2)) (.cons (Ref.bool (decide_eq_false h1)) (.cons (Ref.bool (decide_eq_true h2)) (.cons (Ref.cd64 o.1) (.cons (Int.natCast_nonneg _) (.cons (o.2.1) (.cons ((Ref.wr o.2.2.1).trans (Ref.int (by first | rfl | omega | simp))) (.cons (o.2.2.2.1) (.cons (by decide) (.cons (rfl) (.cons (o.2.2.2.2.1) (.cons (o.2.2.2.2.2.1) (.cons (o.2.2.2.2.2.2.1) (.cons (o.2.2.2.2.2.2.2.1) (.cons (by decide) (.cons ((Ref.wr o.2.2.2.2.2.2.2.2).trans (Ref.int (by first | rfl | omega | simp))) (AllP.nil)))))))))))))))))) hg
theorem Ht (xs ys ds:List Nat) (m c i c2 v:Nat) (h1:¬ ((i:Int)<((aO xs).length:Int))) (h2:¬ ((i:Int)<((aO ys).length:Int))) (h3:(0:Int)<(c:Int)) (o:(Ref (.i6 ((c:Int).tmod (10000:Int))) (.i6 (v:Int)))/\(m=(aO ds).length)/\((m+1)*8<=140737488355328)/\(m+1<=big)/\(Ref (.i6 (IntKind.i64.wrap ((c:Int).tdiv (10000:Int)))) (.i6 (c2:Int)))/\(-9223372036854775808<=(i:Int)+(1:Int)/\(i:Int)+(1:Int)<=9223372036854775807))
   (hg:Good Tryz.prog 292 S0 C0 w0 Post (fZ Tryz.f292) ⟨slots 52 (As xs ys m c2 i),[some ⟨3,1,true,((aO ds)++ [[(AV.int .i64 (v:Int))]]),none⟩]⟩):
   Good Tryz.prog 292 S0 C0 w0 Post (fZ Tryz.f292) ⟨slots 52 (At xs ys m c i),[some ⟨3,1,true,(aO ds),none⟩]⟩:=
 tN mixed aX fS 28 none [0,1,4,5,6,7] [2] (DK v c2 i) (ob:=[Ref (gA i xs) (.bool false),Ref (jM i ys) (.bool false),Ref (.bool (decide ((0:Int)<(c:Int)))) (.bool true),Ref (gA i xs) (.bool false),Ref (jM i ys) (.bool false),Ref (.i6 ((c:Int).tmod (10000:Int))) (.i6 (v:Int)),(10000:Int)≠0,1=1,m=(aO ds).length,(m+1)*8<=140737488355328,m+1<=big,Ref (.i6 (IntKind.i64.wrap ((c:Int).tdiv (10000:Int)))) (.i6 (c2:Int)),(10000:Int)≠0,Ref (nY i) (.i6 ((i+1:Nat):Int))]) (by decide) (by kernel_rfl)
   (.cons (Ref.bool (decide_eq_false h1)) (.cons (Ref.bool (decide_eq_false h2)) (.cons (Ref.bool (decide_eq_true h3)) (.cons (Ref.bool (decide_eq_false h1)) (.cons (Ref.bool (decide_eq_false h2)) (.cons (o.1) (.cons (by decide) (.cons (rfl) (.cons (o.2.1) (.cons (o.2.2.1) (.cons (o.2.2.2.1) (.cons (o.2.2.2.2.1) (.cons (by decide) (.cons ((Ref.wr o.2.2.2.2.2).trans (Ref.int (by first | rfl | omega | simp))) (AllP.nil))))))))))))))) hg
end
def Qg:KF
 | [.dig n B,.dig m C]=>some (.dig (n+m) (max B C+1),[max B C+100<=LIM])
 | _=>none
theorem Aw (s:Nat):Ref (.i6 (((s:Nat):Int).tmod (10000:Int))) (.i6 ((s % 10000:Nat):Int)):=Ref.int (Int.ofNat_tmod s 10000).symm
theorem Ax {s:Nat} (h:s<40000):Ref (.i6 (IntKind.i64.wrap (((s:Nat):Int).tdiv (10000:Int)))) (.i6 ((s/10000:Nat):Int)):=Ref.int (by
 rw[show((s:Nat):Int).tdiv (10000:Int)=((s/10000:Nat):Int) from(Int.ofNat_tdiv s 10000).symm]
 exact qX ⟨by show(-9223372036854775808:Int)<=_;omega,by show _<=(9223372036854775807:Int);omega⟩)
theorem Dig.of_ge {b:Nat} {ds:List Nat} (hb:0<b) (h:∀ x∈ds,x<b) (hg:b^(ds.length-1)<=aJ b ds):Dig b ds:=by
 have:=Dig.take (k:=ds.length) h (rl _) (by
   rcases Nat.eq_zero_or_pos ds.length with e | e
   · exact .inl e
   · right
     intro hz;have h1:=aT b ds (ds.length-1);rw[hz,Nat.mul_zero,Nat.add_zero,show ds.length-1+1=ds.length by omega,gO (rl _)] at h1;have h2:=dY hb (xs:=ds.take (ds.length-1)) fun x hx=>h x (List.mem_of_mem_take hx)
     rw[List.length_take,Nat.min_eq_left (by omega)] at h2
     omega)
 rwa [gO (rl _)] at this
section
variable {S:Nat->Prop} {w0:World}
noncomputable abbrev JS:List Item:=[.code (aR [1,1,1,0,1,0,0] (aA Tryz.f292)),.inLoop (aR [1,1,1,0,1,0,0] (aA Tryz.f292)),.inBlock 0,.code (aR [1,1,1,1] (aA Tryz.f292))]
theorem Hu {xs ys ds:List Nat} {N B:Nat} (i:Nat) (hd:ds.length=i) (hD:Dig b10k ds) (hN:aJ b10k ds=N) (hB:N<2^B) (h1:¬ ((i:Nat):Int)<(((aO xs).length:Nat):Int)) (h2:¬ ((i:Nat):Int)<(((aO ys).length:Nat):Int)):
   GF 292 S w0 (.dig N B) JS ⟨slots 52 [(0,.list 1 (aO xs)),(1,.list 1 (aO ys)),(5,FV ds),(6,.i6 ((0:Nat):Int)),(7,.i6 ((i:Nat):Int))],FW ds⟩:=by
 have h3:¬ (0:Int)<((0:Nat):Int):=by omega
 have hr:Ref (.list 1 (aO ds)) (.dig N B):=Ref.dig hD hN hB;cases ds with
 | nil=>
   refine rF fS [(12,ff),(18,ff),(21,ff),(51,.list 1 (aO []))] (.a4 (iF h1) (iF h2) (iF h3) (show Ref AV.nil (.list 1 (aO [])) from Ref.nilL)) (V:=.list 1 (aO [])) hr
 | cons d ds=>
   refine gN fS [4] [(12,ff),(18,ff),(21,ff)] (.a3 (iF h1) (iF h2) (iF h3)) (t:=[.code .ret]) (σ:=slots 52 [(4,.own 0 1 0 (ds.length+1))]) (h:=[some ⟨3,1,true,(aO (d::ds)),none⟩]) ?_
   refine Good.freezeD (b:=⟨3,1,true,aO (d::ds),none⟩) 0 (by rfl) (by rfl) (AllP.of_eq (l':=[0+(ds.length+1)<=(aO (d::ds)).length]) (by kernel_rfl) (.cons (by rw[aL];simp) .nil)) .on ?_
   exact bX aX (fn:=Tryz.f292) (by kernel_rfl) 4 (by kernel_rfl) rfl (by rfl) (by
     show Ref (.list 1 (((aO (d::ds)).drop 0).take (ds.length+1))) _
     rw[List.drop_zero,gO (by rw[aL];simp)];exact hr)
theorem JT {xs ys:List Nat} {N B M:Nat} (dx:Dig b10k xs) (dy:Dig b10k ys) (hM:M=max xs.length ys.length) (hbig:M+2<=17592186044416)
   (hN:aJ b10k xs+aJ b10k ys=N) (hB:N<2^B):∀ (j i c:Nat) (ds:List Nat),i+j=M+1->c<=1->(j=0->c=0/\b10k^(i-1)<=N)->ds.length=i->(∀ x∈ds,x<b10k)->
   aJ b10k ds+b10k^i*c=aJ b10k (xs.take i)+aJ b10k (ys.take i)->
   GF 292 S w0 (.dig N B) JS ⟨slots 52 [(0,.list 1 (aO xs)),(1,.list 1 (aO ys)),(5,FV ds),(6,.i6 ((c:Nat):Int)),(7,.i6 ((i:Nat):Int))],FW ds⟩:=by
 have fb:b10k=10000:=rfl;have hx:=dx.1;have hy:=dy.1;have lx:(aO xs).length=xs.length:=aL;have ly:(aO ys).length=ys.length:=aL;intro j
 induction j with
 | zero=>
   intro i c ds hij hc h0 hd hdl hinv;obtain⟨rfl,hge⟩:=h0 rfl;rw[Nat.mul_zero,Nat.add_zero,gO (by omega),gO (by omega),hN] at hinv;exact Hu i hd (Dig.of_ge (by decide) hdl (by rw[hd,hinv];exact hge)) hinv hB (by rw[lx];omega) (by rw[ly];omega)
 | succ j ih =>
   intro i c ds hij hc h0 hd hdl hinv;clear h0;have hx1:=bC (b:=b10k) (by decide) hx i;have hy1:=bC (b:=b10k) (by decide) hy i;rw[fb] at hx1 hy1;have sx:=aT b10k xs i;have sy:=aT b10k ys i
   have nx:∀ (s:Nat),s=c+xs.getD i 0+ys.getD i 0->(j=0->s=1/\b10k^i<=N)->
       GF 292 S w0 (.dig N B) JS ⟨slots 52 [(0,.list 1 (aO xs)),(1,.list 1 (aO ys)),(5,.own 0 1 0 (ds.length+1)),(6,.i6 ((s/10000:Nat):Int)),(7,.i6 ((i+1:Nat):Int))],[some ⟨3,1,true,(aO (ds++ [s % 10000])),none⟩]⟩:=by
     intro s hs hj;have hv:s % 10000<10000:=Nat.mod_lt _ (by decide);have hdm:s % 10000+10000*(s/10000)=s:=Nat.mod_add_div s 10000
     have:=ih (i+1) (s/10000) (ds++ [s % 10000]) (by omega) (by omega) (fun h=>⟨by rw[(hj h).1],by rw[Nat.add_sub_cancel];exact(hj h).2⟩) (by simp[hd]) (rE hdl hv) (by
       rw[iN,hd,sx,sy,Nat.pow_succ,fb];rw[fb] at hinv
       have e:10000^i*(s % 10000)+10000^i*10000*(s/10000)=10000^i*s:=by
         rw[Nat.mul_assoc, <- Nat.mul_add,hdm]
       have e2:10000^i*s=10000^i*c+10000^i*xs.getD i 0+10000^i*ys.getD i 0:=by rw[hs,Nat.mul_add,Nat.mul_add]
       omega)
     rw[yT,yU] at this;exact this
   have rg:∀ s:Nat,s<40000-> -9223372036854775808<=((s:Nat):Int)/\((s:Nat):Int)<=9223372036854775807:=fun s h=>⟨by omega,by omega⟩
   have ri: -9223372036854775808<=((i:Nat):Int)+(1:Int)/\((i:Nat):Int)+(1:Int)<=9223372036854775807:=⟨by omega,by omega⟩;have b1:1<=big:=by decide
   have o1:∀ k,(aO ds).length=k->k=i:=fun k h=>by rw[<- h,aL];exact hd
   have E:∀ v:Nat,(aO ds)++ [[(AV.int .i64 ((v:Nat):Int))]]=aO (ds++ [v]):=fun v=>vZ ds v
   by_cases hxl:i<xs.length
   · have jx:((i:Nat):Int)<(((aO xs).length:Nat):Int):=by rw[lx];omega
     have m1:=rg (c+xs.getD i 0) (by omega)
     by_cases hyl:i<ys.length
     · have jy:((i:Nat):Int)<(((aO ys).length:Nat):Int):=by rw[ly];omega
       have m2:=rg (c+xs.getD i 0+ys.getD i 0) (by omega);have G:=nx _ rfl (fun h=>by omega);have q1:=Aw (c+xs.getD i 0+ys.getD i 0);have q2:=Ax (s:=c+xs.getD i 0+ys.getD i 0) (by omega);cases ds with
       | nil=>exact Hm xs ys c i _ _ jx jy ⟨hxl,jx,m1,hyl,jy,m2,q1,by decide,b1,q2,ri⟩ G
       | cons d ds=>exact Hq xs ys (d::ds) (ds.length+1) c i _ _ jx jy ⟨hxl,jx,m1,hyl,jy,m2,q1,by rw[aL];simp,by simp at hd;omega,by simp at hd;unfold big;omega,q2,ri⟩ (by rw[E];exact G)
     · have jy:¬ ((i:Nat):Int)<(((aO ys).length:Nat):Int):=by rw[ly];omega
       have hz:ys.getD i 0=0:=by simp[nG,Nat.le_of_not_lt hyl]
       have G:=nx (c+xs.getD i 0) (by omega) (fun h=>by omega);have q1:=Aw (c+xs.getD i 0);have q2:=Ax (s:=c+xs.getD i 0) (by omega);cases ds with
       | nil=>exact Hn xs ys c i _ _ jx jy ⟨hxl,jx,m1,q1,by decide,b1,q2,ri⟩ G
       | cons d ds=>exact Hr xs ys (d::ds) (ds.length+1) c i _ _ jx jy ⟨hxl,jx,m1,q1,by rw[aL];simp,by simp at hd;omega,by simp at hd;unfold big;omega,q2,ri⟩ (by rw[E];exact G)
   · have jx :¬ ((i:Nat):Int)<(((aO xs).length:Nat):Int):=by rw[lx];omega
     have hz:xs.getD i 0=0:=by simp[nG,Nat.le_of_not_lt hxl]
     by_cases hyl:i<ys.length
     · have jy:((i:Nat):Int)<(((aO ys).length:Nat):Int):=by rw[ly];omega
       have m1:=rg (c+ys.getD i 0) (by omega);have G:=nx (c+ys.getD i 0) (by omega) (fun h=>by omega);have q1:=Aw (c+ys.getD i 0);have q2:=Ax (s:=c+ys.getD i 0) (by omega);cases ds with
       | nil=>exact Ho xs ys c i _ _ jx jy ⟨hyl,jy,m1,q1,by decide,b1,q2,ri⟩ G
       | cons d ds=>exact Hs xs ys (d::ds) (ds.length+1) c i _ _ jx jy ⟨hyl,jy,m1,q1,by rw[aL];simp,by simp at hd;omega,by simp at hd;unfold big;omega,q2,ri⟩ (by rw[E];exact G)
     · have jy:¬ ((i:Nat):Int)<(((aO ys).length:Nat):Int):=by rw[ly];omega
       have hz2:ys.getD i 0=0:=by simp[nG,Nat.le_of_not_lt hyl]
       rw[gO (by omega),gO (by omega),hN] at hinv;rcases Nat.eq_zero_or_pos c with h | h
       · subst h
         rw[Nat.mul_zero,Nat.add_zero] at hinv;refine Hu i hd ?_ hinv hB jx jy;rcases Nat.eq_zero_or_pos M with hM0 | hM0
         · have:ds= []:=List.eq_nil_of_length_eq_zero (by omega)
           subst this;exact⟨by simp,by simp⟩
         · refine Dig.of_ge (by decide) hdl ?_
           rw[hd,hinv,show i=M by omega];rcases(om (xs.length=M\/ys.length=M)) with h | h
           · have:=dx.low (by decide) (fun e=>by rw[e] at h;simp at h;omega)
             rw[h] at this;omega
           · have:=dy.low (by decide) (fun e=>by rw[e] at h;simp at h;omega)
             rw[h] at this;omega
       · have hc1:c=1:=by omega
         subst hc1;have jc:(0:Int)<((1:Nat):Int):=by omega
         have G:=nx 1 (by omega) (fun h=>⟨rfl,by rw[Nat.mul_one] at hinv;omega⟩);have q1:=Aw 1;have q2:=Ax (s:=1) (by omega);cases ds with
         | nil=>exact Hp xs ys 1 i _ _ jx jy jc ⟨q1,by decide,b1,q2,ri⟩ G
         | cons d ds=>exact Ht xs ys (d::ds) (ds.length+1) 1 i _ _ jx jy jc ⟨q1,by rw[aL];simp,by simp at hd;omega,by simp at hd;unfold big;omega,q2,ri⟩ (by rw[E];exact G)
theorem Qh:bO 292 Qg:=fun args r ob h ho=>by
 unfold Qg at h
 split at h
 · rename_i n B m C
   cases h;have hL:max B C+100<=LIM:=ho _ (by simp);unfold LIM at hL;obtain⟨hx,hxn⟩:=aQ (b:=b10k) (by decide) n;obtain⟨hy,hyn⟩:=aQ (b:=b10k) (by decide) m;refine af Tryz.f292 fun S w0=> ?_
   refine Good.fact (V:=.dig n B) (p:=n<2^B) 0 rfl rfl (fun ρ S w D v hv=>qY (show RelCs ρ S w D [.dig n B] [v] from hv)) fun hn=> ?_
   refine Good.fact (V:=.dig m C) (p:=m<2^C) 1 rfl rfl (fun ρ S w D v hv=>qY (show RelCs ρ S w D [.dig m C] [v] from hv)) fun hm=> ?_
   refine Good.weak 52 [(0,.list 1 (aO (aD b10k n))),(1,.list 1 (aO (aD b10k m)))] (by kernel_rfl) (.cons Ref.opnd (.cons Ref.opnd .nil)) ?_;have l1:=hx.len10 (by rw[hxn];exact hn);have l2:=hy.len10 (by rw[hyn];exact hm)
   have hB:n+m<2^(max B C+1):=by
     have:=Nat.pow_le_pow_right (n:=2) (by decide) (Nat.le_max_left B C)
     have:=Nat.pow_le_pow_right (n:=2) (by decide) (Nat.le_max_right B C);rw[Nat.pow_succ];omega
   generalize aD b10k n=xs at*;generalize aD b10k m=ys at*;subst hxn;subst hyn;refine gN fS [0,1,4,5,6,7] [] .nil (t:=JS) (σ:=slots 52 [(0,.list 1 (aO xs)),(1,.list 1 (aO ys)),(4,.nil),(5,.nil),(6,.i6 (0:Int)),(7,.i6 (0:Int))]) (h:=[]) ?_
   refine Good.weak 52 [(0,_),(1,_),(5,_),(6,_),(7,_)] (by kernel_rfl) (.r (.r (.r (.r (.r .nil))))) ?_;exact JT hx hy rfl (by omega) rfl hB _ 0 0 [] (Nat.zero_add _) (by omega) (fun h=>by omega) rfl (by simp) (by simp[aJ])
 · cases h
end
def Qi:KF
 | [.agg [.rz n B],.agg [.rz m C]]=>some (.agg [.rz (n+m) (max B C+1)],[max B C+100<=LIM])
 | _=>none
theorem Mw:bO 241 Qi:=by
 refine cJ Tryz.f241 fun _ _ _ S w0 h ho=> ?_
 unfold Qi at h;split at h <;> cases h;rename_i n B m C;have o1:=ho.one;have L:=dH;have K:=(((kn.cons LO).cons LL).cons Gq).cons Qh;rcases Bool.eq_false_or_eq_true ((decide (n<0))==(decide (m<0))) with h1 | h1
 · exact rF K [(9,tt)] (.a2 (show Ref (.bool ((decide (n<0))==(decide (m<0)))) (.bool true) from Ref.bool h1) o1) (V:=.agg [.rz (iM (decide (n<0)) (n.natAbs+m.natAbs)) (max B C+1)]) (Ref.agg (RefC.rz_eq (BI h1) (by omega)))
 · have v0:Ref (.bool ((decide (n<0))==(decide (m<0)))) (.bool false):=Ref.bool h1
   by_cases h2:(0:Int)<=(fL n.natAbs m.natAbs)
   · exact rF K [(9,ff),(23,tt)] (.a4 v0 (iT h2) (show m.natAbs<=n.natAbs by first | omega | exact bR.1 h2 | exact Nat.le_of_lt (Nat.lt_of_not_le fun h=>h2 (bR.2 h))) (show B<=LIM by first | omega | exact bR.1 h2 | exact Nat.le_of_lt (Nat.lt_of_not_le fun h=>h2 (bR.2 h)))) (V:=.agg [.rz (iM (decide (n<0)) (n.natAbs-m.natAbs)) B]) (Ref.agg (RefC.rz_eq (rJ h1 (bR.1 h2)) (by omega)))
   · refine rF K [(9,ff),(23,ff)] (.a4 v0 (iF h2) (show n.natAbs<=m.natAbs by first | omega | exact bR.1 h2 | exact Nat.le_of_lt (Nat.lt_of_not_le fun h=>h2 (bR.2 h))) (show C<=LIM by first | omega | exact bR.1 h2 | exact Nat.le_of_lt (Nat.lt_of_not_le fun h=>h2 (bR.2 h)))) (V:=.agg [.rz (iM (decide (m<0)) (m.natAbs-n.natAbs)) C]) ?_
     rw[Int.add_comm n m];exact Ref.agg (RefC.rz_eq (rJ (by rw[<- h1];exact BEq.comm) (Nat.le_of_lt (Nat.lt_of_not_le fun h=>h2 (bR.2 h)))) (by omega))
def Mx:KF
 | [.agg [.rq x d B],.agg [.rq y e C]]=>some (.agg [.rq (x+y) (x+y).den (max B 64+max C 64+1)],[max B 64+max C 64+max B 64+max C 64+500<=LIM])
 | _=>none
theorem BT:bO 167 Mx:=by
 refine cJ Tryz.f167 fun _ _ _ S w0 h ho=> ?_
 unfold Mx at h;split at h <;> cases h;rename_i x d B y e C;have o1:=ho.one;have L:=dH;have K:=(((kn.cons Gr).cons Mw).cons CE).cons tO;have hx:=x.den_nz;have hy:=y.den_nz;have ix:=rS x;have iy:=rS y;have kx:((x.den:Int):Rat)≠0:=fun h=>by have:=Rat.intCast_eq_zero_iff.1 h;omega
 have ky:((y.den:Int):Rat)≠0:=fun h=>by have:=Rat.intCast_eq_zero_iff.1 h;omega
 have hm:((x.den:Nat):Int)*((y.den:Nat):Int)≠0:=Int.mul_ne_zero (by omega) (by omega);have hq:(Int.cast (x.num*((y.den:Nat):Int)+y.num*((x.den:Nat):Int)):Rat)/(Int.cast (((x.den:Nat):Int)*((y.den:Nat):Int)):Rat)=x+y:=by rw[Rat.intCast_add,Rat.intCast_mul,Rat.intCast_mul,Rat.intCast_mul];grind
 refine rF K [] (.a6 (show B+(max C 64)+128<=LIM by first | omega | assumption) (show C+(max B 64)+128<=LIM by first | omega | assumption) (show max (B+(max C 64)) (C+(max B 64))+100<=LIM by first | omega | assumption) (show(max B 64)+(max C 64)+128<=LIM by first | omega | assumption) hm (show max (max (B+(max C 64)) (C+(max B 64))+1) ((max B 64)+(max C 64))+max (max (B+(max C 64)) (C+(max B 64))+1) ((max B 64)+(max C 64))+300<=LIM by first | omega | assumption)) (V:=.agg [.rq ((Int.cast ((x.num*(y.den:Int))+(y.num*(x.den:Int))):Rat)/(Int.cast ((x.den:Int)*(y.den:Int)):Rat)) (((Int.cast ((x.num*(y.den:Int))+(y.num*(x.den:Int))):Rat)/(Int.cast ((x.den:Int)*(y.den:Int)):Rat)).den) (max (max (B+(max C 64)) (C+(max B 64))+1) ((max B 64)+(max C 64)))]) ?_
 rw[hq];exact Ref.agg (RefC.rq_le (by omega))
def Qj:KF
 | [.agg [.rq x d B],.agg [.rq y e C]]=>some (.agg [.rq (x-y) (x-y).den (max B 64+max C 64+1)],[max B 64+max C 64+max B 64+max C 64+500<=LIM])
 | _=>none
theorem Hv:bO 183 Qj:=by
 refine cJ Tryz.f183 fun _ _ _ S w0 h ho=> ?_
 unfold Qj at h;split at h <;> cases h;rename_i x d B y e C;have o1:=ho.one;have L:=dH;have K:=(kn.cons BT).cons Qe;refine rF K [] (.a1 (show max B 64+max (max C 64) 64+max B 64+max (max C 64) 64+500<=LIM by first | assumption | omega | rfl)) (V:=.agg [.rq (x+(-y)) ((x+(-y)).den) (max B 64+max (max C 64) 64+1)]) ?_
 rw[<- Rat.sub_eq_add_neg];exact Ref.agg (RefC.rq_le (by omega))
def Qk:KF
 | [.agg [.rq t d B]]=>some (.agg [.rq (cY t) (cY t).den (8*max B 64+500),.rq (bU t) (bU t).den (8*max B 64+500)],[d=t.den,40*max B 64+5000<=LIM])
 | _=>none
theorem Tq:bO 172 Qk:=by
 refine cJ Tryz.f172 fun _ _ _ S w0 h ho=> ?_
 unfold Qk at h;split at h <;> cases h;rename_i t d B;obtain⟨o1,o2⟩:=ho.e2;have L:=dH;have K:=((((kn.cons Mu).cons Hv).cons BT).cons Qc).cons CF;have v0:max 64 64+max (max B 64+max B 64) 64+max 64 64+max (max B 64+max B 64) 64+500<=LIM:=by first | assumption | rfl | exact nW t | omega
 have v1:((Int.cast 1:Rat)+(t*t))≠0:=by first | assumption | rfl | exact nW t | omega
 have v2:(-9223372036854775808:Int)<=1:=by decide
 have v3:1<=(9223372036854775807:Int):=by decide
 refine rF K [] (.c6 (show max B 64+max B 64+(max B 64+max B 64)+300<=LIM by first | assumption | rfl | exact nW t | omega) v2 v3 v0 v2 v3 (.c6 v0 v1 (show max (max 64 64+max (max B 64+max B 64) 64+1) 64+max (max 64 64+max (max B 64+max B 64) 64+1) 64+max (max 64 64+max (max B 64+max B 64) 64+1) 64+max (max 64 64+max (max B 64+max B 64) 64+1) 64+500<=LIM by first | assumption | rfl | exact nW t | omega) (dc ((-9223372036854775808:Int)<=2)) (dc (2<=(9223372036854775807:Int))) (show max 64 64+max B 64+(max 64 64+max B 64)+300<=LIM by first | assumption | rfl | exact nW t | omega) (.a2 v1 (show max (max 64 64+max B 64) 64+max (max 64 64+max (max B 64+max B 64) 64+1) 64+max (max 64 64+max B 64) 64+max (max 64 64+max (max B 64+max B 64) 64+1) 64+500<=LIM by first | assumption | rfl | exact nW t | omega)))) (V:=.agg [.rq (((Int.cast 1:Rat)-(t*t))/((Int.cast 1:Rat)+(t*t))) ((((Int.cast 1:Rat)-(t*t))/((Int.cast 1:Rat)+(t*t))).den) (max (max 64 64+max (max B 64+max B 64) 64+1) 64+max (max 64 64+max (max B 64+max B 64) 64+1) 64),.rq (((Int.cast 2:Rat)*t)/((Int.cast 1:Rat)+(t*t))) ((((Int.cast 2:Rat)*t)/((Int.cast 1:Rat)+(t*t))).den) (max (max 64 64+max B 64) 64+max (max 64 64+max (max B 64+max B 64) 64+1) 64)]) ?_
 have e1:(Int.cast 1:Rat)=1:=rfl;have e2:(Int.cast 2:Rat)=2:=rfl;exact Ref.agg (RefC.cons (RefC.rq_e (by rw[e1];rfl) (by omega)) (RefC.rq_e (by rw[e1,e2];unfold bU;congr 1;grind) (by omega)))
def Ql:KF
 | [.agg [.rq c d X,.rq s e Z],.agg [.rq u f U,.rq w g W]]=>some (.agg [.rq (c*u-s*w) (c*u-s*w).den (max X 64+max Z 64+max U 64+max W 64+1),.rq (s*u+c*w) (s*u+c*w).den (max X 64+max Z 64+max U 64+max W 64+1)],[d=c.den,e=s.den,f=u.den,g=w.den,8*max X 64+8*max Z 64+8*max U 64+8*max W 64+2000<=LIM])
 | _=>none
theorem Tr:bO 173 Ql:=by
 refine cJ Tryz.f173 fun _ _ _ S w0 h ho=> ?_
 unfold Ql at h;split at h <;> cases h;rename_i c d X s e Z u f U w g W;obtain⟨o1,o2,o3,o4,o5⟩:=ho.e5;have L:=dH;have K:=((kn.cons BT).cons Hv).cons CF;exact rF K [] (.a6 (show max X 64+max U 64+(max X 64+max U 64)+300<=LIM by first | assumption | rfl | omega) (show max Z 64+max W 64+(max Z 64+max W 64)+300<=LIM by first | assumption | rfl | omega) (show max (max X 64+max U 64) 64+max (max Z 64+max W 64) 64+max (max X 64+max U 64) 64+max (max Z 64+max W 64) 64+500<=LIM by first | assumption | rfl | omega) (show max Z 64+max U 64+(max Z 64+max U 64)+300<=LIM by first | assumption | rfl | omega) (show max X 64+max W 64+(max X 64+max W 64)+300<=LIM by first | assumption | rfl | omega) (show max (max Z 64+max U 64) 64+max (max X 64+max W 64) 64+max (max Z 64+max U 64) 64+max (max X 64+max W 64) 64+500<=LIM by first | assumption | rfl | omega)) (V:=.agg [.rq ((c*u)-(s*w)) (((c*u)-(s*w)).den) (max (max X 64+max U 64) 64+max (max Z 64+max W 64) 64+1),.rq ((s*u)+(c*w)) (((s*u)+(c*w)).den) (max (max Z 64+max U 64) 64+max (max X 64+max W 64) 64+1)]) (Ref.agg (RefC.cons (RefC.rq_le (by omega)) (RefC.rq_le (by omega))))
def Qm:KF
 | [.agg [.rq x d X,.rq z e Z],.agg [.rq u f U,.rq w g W]]=>some (.agg [.rq (x+u) (x+u).den (max X 64+max U 64+1),.rq (z+w) (z+w).den (max Z 64+max W 64+1)],[d=x.den,e=z.den,f=u.den,g=w.den,4*max X 64+4*max Z 64+4*max U 64+4*max W 64+2000<=LIM])
 | _=>none
theorem Ts:bO 168 Qm:=by
 refine cJ Tryz.f168 fun _ _ _ S w0 h ho=> ?_
 unfold Qm at h;split at h <;> cases h;rename_i x d X z e Z u f U w g W;obtain⟨o1,o2,o3,o4,o5⟩:=ho.e5;have L:=dH;have K:=kn.cons BT;exact rF K [] (.a2 (show max X 64+max U 64+max X 64+max U 64+500<=LIM by first | assumption | rfl | omega) (show max Z 64+max W 64+max Z 64+max W 64+500<=LIM by first | assumption | rfl | omega)) (V:=.agg [.rq (x+u) ((x+u).den) (max X 64+max U 64+1),.rq (z+w) ((z+w).den) (max Z 64+max W 64+1)]) (Ref.agg (RefC.cons (RefC.rq_le (by omega)) (RefC.rq_le (by omega))))
def Qn:KF
 | [.agg [.rq x d X,.rq z e Z],.agg [.rq c f U,.rq s g W]]=>some (.agg [.rq (c*x-s*z) (c*x-s*z).den (max X 64+max Z 64+max U 64+max W 64+1),.rq (s*x+c*z) (s*x+c*z).den (max X 64+max Z 64+max U 64+max W 64+1)],[d=x.den,e=z.den,f=c.den,g=s.den,8*max X 64+8*max Z 64+8*max U 64+8*max W 64+2000<=LIM])
 | _=>none
theorem Tt:bO 175 Qn:=by
 refine cJ Tryz.f175 fun _ _ _ S w0 h ho=> ?_
 unfold Qn at h;split at h <;> cases h;rename_i x d X z e Z c f U s g W;obtain⟨o1,o2,o3,o4,o5⟩:=ho.e5;have L:=dH;have K:=((kn.cons BT).cons Hv).cons CF;exact rF K [] (.a6 (show max U 64+max X 64+(max U 64+max X 64)+300<=LIM by first | assumption | rfl | omega) (show max W 64+max Z 64+(max W 64+max Z 64)+300<=LIM by first | assumption | rfl | omega) (show max (max U 64+max X 64) 64+max (max W 64+max Z 64) 64+max (max U 64+max X 64) 64+max (max W 64+max Z 64) 64+500<=LIM by first | assumption | rfl | omega) (show max W 64+max X 64+(max W 64+max X 64)+300<=LIM by first | assumption | rfl | omega) (show max U 64+max Z 64+(max U 64+max Z 64)+300<=LIM by first | assumption | rfl | omega) (show max (max W 64+max X 64) 64+max (max U 64+max Z 64) 64+max (max W 64+max X 64) 64+max (max U 64+max Z 64) 64+500<=LIM by first | assumption | rfl | omega)) (V:=.agg [.rq ((c*x)-(s*z)) (((c*x)-(s*z)).den) (max (max U 64+max X 64) 64+max (max W 64+max Z 64) 64+1),.rq ((s*x)+(c*z)) (((s*x)+(c*z)).den) (max (max W 64+max X 64) 64+max (max U 64+max Z 64) 64+1)]) (Ref.agg (RefC.cons (RefC.rq_le (by omega)) (RefC.rq_le (by omega))))
def US:KF
 | [.agg [.rq ax d1 P,.rq az d2 Q,.rq c f U,.rq s g W],.agg [.rq x d X,.rq z e Z]]=>some (.agg [.rq (ax+(c*x-s*z)) (ax+(c*x-s*z)).den (max P 64+max X 64+max Z 64+max U 64+max W 64+1+1),.rq (az+(s*x+c*z)) (az+(s*x+c*z)).den (max Q 64+max X 64+max Z 64+max U 64+max W 64+1+1)],[d1=ax.den,d2=az.den,f=c.den,g=s.den,d=x.den,e=z.den,8*max X 64+8*max Z 64+8*max U 64+8*max W 64+8*max P 64+8*max Q 64+2000<=LIM])
 | _=>none
theorem UT:bO 75 US:=by
 refine cJ Tryz.f75 fun _ _ _ S w0 h ho=> ?_
 unfold US at h;split at h <;> cases h;rename_i ax d1 P az d2 Q c f U s g W x d X z e Z;obtain⟨o1,o2,o3,o4,o5,o6,o7⟩:=ho.e7;have L:=dH;have K:=(kn.cons Ts).cons Tt;exact rF K [] (.c6 o5 o6 o3 o4 (show 8*max X 64+8*max Z 64+8*max U 64+8*max W 64+2000<=LIM by first | assumption | rfl | omega) o1 (.a4 o2 (show((c*x-s*z).den)=(c*x-s*z).den by first | assumption | rfl | omega) (show((s*x+c*z).den)=(s*x+c*z).den by first | assumption | rfl | omega) (show 4*max P 64+4*max Q 64+4*max (max X 64+max Z 64+max U 64+max W 64+1) 64+4*max (max X 64+max Z 64+max U 64+max W 64+1) 64+2000<=LIM by first | assumption | rfl | omega))) (V:=.agg [.rq (ax+(c*x-s*z)) ((ax+(c*x-s*z)).den) (max P 64+max (max X 64+max Z 64+max U 64+max W 64+1) 64+1),.rq (az+(s*x+c*z)) ((az+(s*x+c*z)).den) (max Q 64+max (max X 64+max Z 64+max U 64+max W 64+1) 64+1)]) (Ref.agg (RefC.cons (RefC.rq_le (by omega)) (RefC.rq_le (by omega))))
def rU:=((kn.cons UT).cons Tr).cons Tq
theorem JU {S0 C0:Nat → Prop} {w0:World} {Post:Value → World → Prop} (m:MachD) (p:PoseD) (XS XT XD XF:List (List AV)) (jb:Nat) (f f2:FrameD) (e e2 i j:Nat) (A:List (List AV)) (v:BodyD) (t:Rat) (h1:¬ (((i:Nat):Int)<(((m.bodies.map (aK 300)).length:Nat):Int)))
    (hg:Good Tryz.prog 71 S0 C0 w0 Post [.code .ret] ⟨slots 54 [(2,(AV.ptr 0 5 0 0)),(3,(AV.ptr 1 13 0 0)),(4,(AV.own 2 16 0 i)),(5,(AV.own 2 16 0 i)),(6,(AV.int .i64 ((i:Nat):Int)))],[some ⟨48,5,false,[[(AV.list 34 (m.bodies.map (aK 300))),(AV.list 22 XS),(AV.list 22 XT),(AV.list 17 XD),(AV.list 6 XF)]],none⟩,some ⟨71,13,false,[[(AV.rq p.at_.x p.at_.x.den jb),(AV.rq p.at_.z p.at_.z.den jb),(AV.rq p.turn p.turn.den jb),(AV.list 4 (p.joints.map (cU jb)))]],none⟩,some ⟨179,16,true,A,none⟩]⟩):
    Good Tryz.prog 71 S0 C0 w0 Post [.code (aR [1,1,0,1,0,0] (aA Tryz.f71)),.inLoop (aR [1,1,0,1,0,0] (aA Tryz.f71)),.inBlock 0,.code (aR [1,1,1] (aA Tryz.f71))] ⟨slots 54 [(2,(AV.ptr 0 5 0 0)),(3,(AV.ptr 1 13 0 0)),(5,(AV.own 2 16 0 i)),(6,(AV.int .i64 ((i:Nat):Int)))],[some ⟨48,5,false,[[(AV.list 34 (m.bodies.map (aK 300))),(AV.list 22 XS),(AV.list 22 XT),(AV.list 17 XD),(AV.list 6 XF)]],none⟩,some ⟨71,13,false,[[(AV.rq p.at_.x p.at_.x.den jb),(AV.rq p.at_.z p.at_.z.den jb),(AV.rq p.turn p.turn.den jb),(AV.list 4 (p.joints.map (cU jb)))]],none⟩,some ⟨179,16,true,A,none⟩]⟩:=
  go mixed aX rU 12 none [2,3,4,5,6] [(19,(AV.bool false))] (ob:=[Ref (AV.bool (decide (((i:Nat):Int)<(((m.bodies.map (aK 300)).length:Nat):Int)))) (.bool false)]) (by kernel_rfl)
    (.cons (Ref.bool (decide_eq_false h1)) (AllP.nil)) hg
theorem JV {S0 C0:Nat → Prop} {w0:World} {Post:Value → World → Prop} (m:MachD) (p:PoseD) (XS XT XD XF:List (List AV)) (jb:Nat) (f f2:FrameD) (e e2 i j:Nat) (A:List (List AV)) (v:BodyD) (t:Rat) (h1:((i:Nat):Int)<(((m.bodies.map (aK 300)).length:Nat):Int)) (o:(Ref (AV.cptr ((m.bodies.map (aK 300)).getD i []) 0) (AV.cptr [(AV.int .i64 v.par),(AV.rq v.at_.x v.at_.x.den 300),(AV.rq v.at_.z v.at_.z.den 300),(AV.rq v.ma v.ma.den 300),(AV.rq v.inr v.inr.den 300),(AV.rq v.c.x v.c.x.den 300),(AV.rq v.c.z v.c.z.den 300),(AV.rq v.low v.low.den 300),(AV.rq v.high v.high.den 300),(AV.list 8 (v.shape.map (iK 300)))] 0))∧(((i:Nat):Int)<(((m.bodies.map (aK 300)).length:Nat):Int))∧(Ref (AV.int .i64 v.par) (AV.int .i64 ((j:Nat):Int)))∧(((j:Nat):Int)<((i:Nat):Int))∧(Ref (AV.agg (A.getD (0+j) [])) (AV.agg [(AV.rq f.at_.x f.at_.x.den (2*e+1)),(AV.rq f.at_.z f.at_.z.den (2*e+1)),(AV.rq f.c f.c.den (e+1)),(AV.rq f.s f.s.den (e+1))]))∧(0+j<A.length)∧(8*max 300 64+8*max 300 64+8*max (e+1) 64+8*max (e+1) 64+8*max (2*e+1) 64+8*max (2*e+1) 64+2000≤LIM)∧(Ref (AV.int .i64 (IntKind.i64.wrap (((i:Nat):Int)-(1:Int)))) (AV.int .i64 ((i-1:Nat):Int)))∧(Ref (AV.cptr ((p.joints.map (cU jb)).getD (i-1) []) 0) (AV.cptr [(AV.rq t t.den jb)] 0))∧(((i-1:Nat):Int)<(((p.joints.map (cU jb)).length:Nat):Int))∧(40*max jb 64+5000≤LIM)∧(((cY t).den)=(cY t).den)∧(((bU t).den)=(bU t).den)∧(8*max (e+1) 64+8*max (e+1) 64+8*max (8*max jb 64+500) 64+8*max (8*max jb 64+500) 64+2000≤LIM)∧(Ref (AV.agg [(AV.rq (f.at_.x+(f.c*v.at_.x-f.s*v.at_.z)) ((f.at_.x+(f.c*v.at_.x-f.s*v.at_.z)).den) (max (2*e+1) 64+max 300 64+max 300 64+max (e+1) 64+max (e+1) 64+1+1)),(AV.rq (f.at_.z+(f.s*v.at_.x+f.c*v.at_.z)) ((f.at_.z+(f.s*v.at_.x+f.c*v.at_.z)).den) (max (2*e+1) 64+max 300 64+max 300 64+max (e+1) 64+max (e+1) 64+1+1)),(AV.rq (f.c*(cY t)-f.s*(bU t)) ((f.c*(cY t)-f.s*(bU t)).den) (max (e+1) 64+max (e+1) 64+max (8*max jb 64+500) 64+max (8*max jb 64+500) 64+1)),(AV.rq (f.s*(cY t)+f.c*(bU t)) ((f.s*(cY t)+f.c*(bU t)).den) (max (e+1) 64+max (e+1) 64+max (8*max jb 64+500) 64+max (8*max jb 64+500) 64+1))]) (AV.agg [(AV.rq f2.at_.x f2.at_.x.den (2*e2+1)),(AV.rq f2.at_.z f2.at_.z.den (2*e2+1)),(AV.rq f2.c f2.c.den (e2+1)),(AV.rq f2.s f2.s.den (e2+1))]))∧(i=A.length)∧((i+1)*256≤140737488355328)∧(i+1≤big)∧(-9223372036854775808≤((i:Nat):Int)+(1:Int)∧((i:Nat):Int)+(1:Int)≤9223372036854775807))
    (hg:Good Tryz.prog 71 S0 C0 w0 Post [.code (aR [1,1,0,1,0,0] (aA Tryz.f71)),.inLoop (aR [1,1,0,1,0,0] (aA Tryz.f71)),.inBlock 0,.code (aR [1,1,1] (aA Tryz.f71))] ⟨slots 54 [(2,(AV.ptr 0 5 0 0)),(3,(AV.ptr 1 13 0 0)),(5,(AV.own 2 16 0 (i+1))),(6,(AV.int .i64 ((i+1:Nat):Int)))],[some ⟨48,5,false,[[(AV.list 34 (m.bodies.map (aK 300))),(AV.list 22 XS),(AV.list 22 XT),(AV.list 17 XD),(AV.list 6 XF)]],none⟩,some ⟨71,13,false,[[(AV.rq p.at_.x p.at_.x.den jb),(AV.rq p.at_.z p.at_.z.den jb),(AV.rq p.turn p.turn.den jb),(AV.list 4 (p.joints.map (cU jb)))]],none⟩,some ⟨179,16,true,(A++ [[(AV.rq f2.at_.x f2.at_.x.den (2*e2+1)),(AV.rq f2.at_.z f2.at_.z.den (2*e2+1)),(AV.rq f2.c f2.c.den (e2+1)),(AV.rq f2.s f2.s.den (e2+1))]]),none⟩]⟩):
    Good Tryz.prog 71 S0 C0 w0 Post [.code (aR [1,1,0,1,0,0] (aA Tryz.f71)),.inLoop (aR [1,1,0,1,0,0] (aA Tryz.f71)),.inBlock 0,.code (aR [1,1,1] (aA Tryz.f71))] ⟨slots 54 [(2,(AV.ptr 0 5 0 0)),(3,(AV.ptr 1 13 0 0)),(5,(AV.own 2 16 0 i)),(6,(AV.int .i64 ((i:Nat):Int)))],[some ⟨48,5,false,[[(AV.list 34 (m.bodies.map (aK 300))),(AV.list 22 XS),(AV.list 22 XT),(AV.list 17 XD),(AV.list 6 XF)]],none⟩,some ⟨71,13,false,[[(AV.rq p.at_.x p.at_.x.den jb),(AV.rq p.at_.z p.at_.z.den jb),(AV.rq p.turn p.turn.den jb),(AV.list 4 (p.joints.map (cU jb)))]],none⟩,some ⟨179,16,true,A,none⟩]⟩:=
  tN mixed aX rU 18 none [2,3,4,5,6] [0,1,8] [(19,(AV.bool true)),(26,(AV.cptr [(AV.int .i64 v.par),(AV.rq v.at_.x v.at_.x.den 300),(AV.rq v.at_.z v.at_.z.den 300),(AV.rq v.ma v.ma.den 300),(AV.rq v.inr v.inr.den 300),(AV.rq v.c.x v.c.x.den 300),(AV.rq v.c.z v.c.z.den 300),(AV.rq v.low v.low.den 300),(AV.rq v.high v.high.den 300),(AV.list 8 (v.shape.map (iK 300)))] 0)),(28,(AV.int .i64 ((j:Nat):Int))),(30,(AV.agg [(AV.rq f.at_.x f.at_.x.den (2*e+1)),(AV.rq f.at_.z f.at_.z.den (2*e+1)),(AV.rq f.c f.c.den (e+1)),(AV.rq f.s f.s.den (e+1))])),(36,(AV.cptr [(AV.int .i64 v.par),(AV.rq v.at_.x v.at_.x.den 300),(AV.rq v.at_.z v.at_.z.den 300),(AV.rq v.ma v.ma.den 300),(AV.rq v.inr v.inr.den 300),(AV.rq v.c.x v.c.x.den 300),(AV.rq v.c.z v.c.z.den 300),(AV.rq v.low v.low.den 300),(AV.rq v.high v.high.den 300),(AV.list 8 (v.shape.map (iK 300)))] 0)),(45,(AV.int .i64 ((i-1:Nat):Int))),(46,(AV.cptr [(AV.rq t t.den jb)] 0)),(50,(AV.agg [(AV.rq f2.at_.x f2.at_.x.den (2*e2+1)),(AV.rq f2.at_.z f2.at_.z.den (2*e2+1)),(AV.rq f2.c f2.c.den (e2+1)),(AV.rq f2.s f2.s.den (e2+1))])),(21,(AV.int .i64 ((i+1:Nat):Int)))] (ob:=[Ref (AV.bool (decide (((i:Nat):Int)<(((m.bodies.map (aK 300)).length:Nat):Int)))) (.bool true),Ref (AV.cptr ((m.bodies.map (aK 300)).getD i []) 0) (AV.cptr [(AV.int .i64 v.par),(AV.rq v.at_.x v.at_.x.den 300),(AV.rq v.at_.z v.at_.z.den 300),(AV.rq v.ma v.ma.den 300),(AV.rq v.inr v.inr.den 300),(AV.rq v.c.x v.c.x.den 300),(AV.rq v.c.z v.c.z.den 300),(AV.rq v.low v.low.den 300),(AV.rq v.high v.high.den 300),(AV.list 8 (v.shape.map (iK 300)))] 0),0≤((i:Nat):Int),((i:Nat):Int)<(((m.bodies.map (aK 300)).length:Nat):Int),Ref (AV.int .i64 v.par) (AV.int .i64 ((j:Nat):Int)),0≤((j:Nat):Int),((j:Nat):Int)<((i:Nat):Int),Ref (AV.agg (A.getD (0+j) [])) (AV.agg [(AV.rq f.at_.x f.at_.x.den (2*e+1)),(AV.rq f.at_.z f.at_.z.den (2*e+1)),(AV.rq f.c f.c.den (e+1)),(AV.rq f.s f.s.den (e+1))]),0+j<A.length,Ref (AV.cptr ((m.bodies.map (aK 300)).getD i []) 0) (AV.cptr [(AV.int .i64 v.par),(AV.rq v.at_.x v.at_.x.den 300),(AV.rq v.at_.z v.at_.z.den 300),(AV.rq v.ma v.ma.den 300),(AV.rq v.inr v.inr.den 300),(AV.rq v.c.x v.c.x.den 300),(AV.rq v.c.z v.c.z.den 300),(AV.rq v.low v.low.den 300),(AV.rq v.high v.high.den 300),(AV.list 8 (v.shape.map (iK 300)))] 0),0≤((i:Nat):Int),((i:Nat):Int)<(((m.bodies.map (aK 300)).length:Nat):Int),f.at_.x.den=f.at_.x.den,f.at_.z.den=f.at_.z.den,f.c.den=f.c.den,f.s.den=f.s.den,v.at_.x.den=v.at_.x.den,v.at_.z.den=v.at_.z.den,8*max 300 64+8*max 300 64+8*max (e+1) 64+8*max (e+1) 64+8*max (2*e+1) 64+8*max (2*e+1) 64+2000≤LIM,Ref (AV.int .i64 (IntKind.i64.wrap (((i:Nat):Int)-(1:Int)))) (AV.int .i64 ((i-1:Nat):Int)),Ref (AV.cptr ((p.joints.map (cU jb)).getD (i-1) []) 0) (AV.cptr [(AV.rq t t.den jb)] 0),0≤((i-1:Nat):Int),((i-1:Nat):Int)<(((p.joints.map (cU jb)).length:Nat):Int),t.den=t.den,40*max jb 64+5000≤LIM,f.c.den=f.c.den,f.s.den=f.s.den,((cY t).den)=(cY t).den,((bU t).den)=(bU t).den,8*max (e+1) 64+8*max (e+1) 64+8*max (8*max jb 64+500) 64+8*max (8*max jb 64+500) 64+2000≤LIM,Ref (AV.agg [(AV.rq (f.at_.x+(f.c*v.at_.x-f.s*v.at_.z)) ((f.at_.x+(f.c*v.at_.x-f.s*v.at_.z)).den) (max (2*e+1) 64+max 300 64+max 300 64+max (e+1) 64+max (e+1) 64+1+1)),(AV.rq (f.at_.z+(f.s*v.at_.x+f.c*v.at_.z)) ((f.at_.z+(f.s*v.at_.x+f.c*v.at_.z)).den) (max (2*e+1) 64+max 300 64+max 300 64+max (e+1) 64+max (e+1) 64+1+1)),(AV.rq (f.c*(cY t)-f.s*(bU t)) ((f.c*(cY t)-f.s*(bU t)).den) (max (e+1) 64+max (e+1) 64+max (8*max jb 64+500) 64+max (8*max jb 64+500) 64+1)),(AV.rq (f.s*(cY t)+f.c*(bU t)) ((f.s*(cY t)+f.c*(bU t)).den) (max (e+1) 64+max (e+1) 64+max (8*max jb 64+500) 64+max (8*max jb 64+500) 64+1))]) (AV.agg [(AV.rq f2.at_.x f2.at_.x.den (2*e2+1)),(AV.rq f2.at_.z f2.at_.z.den (2*e2+1)),(AV.rq f2.c f2.c.den (e2+1)),(AV.rq f2.s f2.s.den (e2+1))]),1=1,i=A.length,(i+1)*256≤140737488355328,i+1≤big,Ref (AV.int .i64 (IntKind.i64.wrap (((i:Nat):Int)+(1:Int)))) (AV.int .i64 ((i+1:Nat):Int))]) (by decide) (by kernel_rfl)
    (.cons (Ref.bool (decide_eq_true h1)) (.cons (o.1) (.cons (Int.natCast_nonneg _) (.cons (o.2.1) (.cons (o.2.2.1) (.cons (Int.natCast_nonneg _) (.cons (o.2.2.2.1) (.cons (o.2.2.2.2.1) (.cons (o.2.2.2.2.2.1) (.cons (o.1) (.cons (Int.natCast_nonneg _) (.cons (o.2.1) (.cons (rfl) (.cons (rfl) (.cons (rfl) (.cons (rfl) (.cons (rfl) (.cons (rfl) (.cons (o.2.2.2.2.2.2.1) (.cons (o.2.2.2.2.2.2.2.1) (.cons (o.2.2.2.2.2.2.2.2.1) (.cons (Int.natCast_nonneg _) (.cons (o.2.2.2.2.2.2.2.2.2.1) (.cons (rfl) (.cons (o.2.2.2.2.2.2.2.2.2.2.1) (.cons (rfl) (.cons (rfl) (.cons (o.2.2.2.2.2.2.2.2.2.2.2.1) (.cons (o.2.2.2.2.2.2.2.2.2.2.2.2.1) (.cons (o.2.2.2.2.2.2.2.2.2.2.2.2.2.1) (.cons (o.2.2.2.2.2.2.2.2.2.2.2.2.2.2.1) (.cons (rfl) (.cons (o.2.2.2.2.2.2.2.2.2.2.2.2.2.2.2.1) (.cons (o.2.2.2.2.2.2.2.2.2.2.2.2.2.2.2.2.1) (.cons (o.2.2.2.2.2.2.2.2.2.2.2.2.2.2.2.2.2.1) (.cons ((Ref.wr o.2.2.2.2.2.2.2.2.2.2.2.2.2.2.2.2.2.2).trans (Ref.int (by first | rfl | omega | simp))) (AllP.nil))))))))))))))))))))))))))))))))))))) hg
theorem JW {S0 C0:Nat → Prop} {w0:World} {Post:Value → World → Prop} (m:MachD) (p:PoseD) (XS XT XD XF:List (List AV)) (jb:Nat) (f f2:FrameD) (e e2:Nat) (v:BodyD) (t:Rat) (h1:(1:Int)<(((m.bodies.map (aK 300)).length:Nat):Int)) (o:(Ref (AV.cptr ((m.bodies.map (aK 300)).getD 1 []) 0) (AV.cptr [(AV.int .i64 v.par),(AV.rq v.at_.x v.at_.x.den 300),(AV.rq v.at_.z v.at_.z.den 300),(AV.rq v.ma v.ma.den 300),(AV.rq v.inr v.inr.den 300),(AV.rq v.c.x v.c.x.den 300),(AV.rq v.c.z v.c.z.den 300),(AV.rq v.low v.low.den 300),(AV.rq v.high v.high.den 300),(AV.list 8 (v.shape.map (iK 300)))] 0))∧((1:Int)<(((m.bodies.map (aK 300)).length:Nat):Int))∧(Ref (AV.int .i64 v.par) (AV.int .i64 (0:Int)))∧(Ref (AV.agg [(AV.rq f.at_.x f.at_.x.den (2*e+1)),(AV.rq f.at_.z f.at_.z.den (2*e+1)),(AV.rq f.c f.c.den (e+1)),(AV.rq f.s f.s.den (e+1))]) (AV.agg [(AV.rq f.at_.x f.at_.x.den (2*e+1)),(AV.rq f.at_.z f.at_.z.den (2*e+1)),(AV.rq f.c f.c.den (e+1)),(AV.rq f.s f.s.den (e+1))]))∧(8*max 300 64+8*max 300 64+8*max (e+1) 64+8*max (e+1) 64+8*max (2*e+1) 64+8*max (2*e+1) 64+2000≤LIM)∧(Ref (AV.int .i64 (0:Int)) (AV.int .i64 (0:Int)))∧(Ref (AV.cptr ((p.joints.map (cU jb)).getD 0 []) 0) (AV.cptr [(AV.rq t t.den jb)] 0))∧((0:Int)<(((p.joints.map (cU jb)).length:Nat):Int))∧(40*max jb 64+5000≤LIM)∧(((cY t).den)=(cY t).den)∧(((bU t).den)=(bU t).den)∧(8*max (e+1) 64+8*max (e+1) 64+8*max (8*max jb 64+500) 64+8*max (8*max jb 64+500) 64+2000≤LIM)∧(Ref (AV.agg [(AV.rq (f.at_.x+(f.c*v.at_.x-f.s*v.at_.z)) ((f.at_.x+(f.c*v.at_.x-f.s*v.at_.z)).den) (max (2*e+1) 64+max 300 64+max 300 64+max (e+1) 64+max (e+1) 64+1+1)),(AV.rq (f.at_.z+(f.s*v.at_.x+f.c*v.at_.z)) ((f.at_.z+(f.s*v.at_.x+f.c*v.at_.z)).den) (max (2*e+1) 64+max 300 64+max 300 64+max (e+1) 64+max (e+1) 64+1+1)),(AV.rq (f.c*(cY t)-f.s*(bU t)) ((f.c*(cY t)-f.s*(bU t)).den) (max (e+1) 64+max (e+1) 64+max (8*max jb 64+500) 64+max (8*max jb 64+500) 64+1)),(AV.rq (f.s*(cY t)+f.c*(bU t)) ((f.s*(cY t)+f.c*(bU t)).den) (max (e+1) 64+max (e+1) 64+max (8*max jb 64+500) 64+max (8*max jb 64+500) 64+1))]) (AV.agg [(AV.rq f2.at_.x f2.at_.x.den (2*e2+1)),(AV.rq f2.at_.z f2.at_.z.den (2*e2+1)),(AV.rq f2.c f2.c.den (e2+1)),(AV.rq f2.s f2.s.den (e2+1))]))∧((2)*256≤140737488355328)∧(2≤big))
    (hg:Good Tryz.prog 71 S0 C0 w0 Post [.code (aR [1,1,0,1,0,0] (aA Tryz.f71)),.inLoop (aR [1,1,0,1,0,0] (aA Tryz.f71)),.inBlock 0,.code (aR [1,1,1] (aA Tryz.f71))] ⟨slots 54 [(2,(AV.ptr 0 5 0 0)),(3,(AV.ptr 1 13 0 0)),(5,(AV.own 2 16 0 2)),(6,(AV.int .i64 (2:Int)))],[some ⟨48,5,false,[[(AV.list 34 (m.bodies.map (aK 300))),(AV.list 22 XS),(AV.list 22 XT),(AV.list 17 XD),(AV.list 6 XF)]],none⟩,some ⟨71,13,false,[[(AV.rq p.at_.x p.at_.x.den jb),(AV.rq p.at_.z p.at_.z.den jb),(AV.rq p.turn p.turn.den jb),(AV.list 4 (p.joints.map (cU jb)))]],none⟩,some ⟨179,16,true,[[(AV.rq f.at_.x f.at_.x.den (2*e+1)),(AV.rq f.at_.z f.at_.z.den (2*e+1)),(AV.rq f.c f.c.den (e+1)),(AV.rq f.s f.s.den (e+1))],[(AV.rq f2.at_.x f2.at_.x.den (2*e2+1)),(AV.rq f2.at_.z f2.at_.z.den (2*e2+1)),(AV.rq f2.c f2.c.den (e2+1)),(AV.rq f2.s f2.s.den (e2+1))]],none⟩]⟩):
    Good Tryz.prog 71 S0 C0 w0 Post [.code (aR [1,1,0,1,0,0] (aA Tryz.f71)),.inLoop (aR [1,1,0,1,0,0] (aA Tryz.f71)),.inBlock 0,.code (aR [1,1,1] (aA Tryz.f71))] ⟨slots 54 [(2,(AV.ptr 0 5 0 0)),(3,(AV.ptr 1 13 0 0)),(5,(AV.own 2 16 0 1)),(6,(AV.int .i64 (1:Int)))],[some ⟨48,5,false,[[(AV.list 34 (m.bodies.map (aK 300))),(AV.list 22 XS),(AV.list 22 XT),(AV.list 17 XD),(AV.list 6 XF)]],none⟩,some ⟨71,13,false,[[(AV.rq p.at_.x p.at_.x.den jb),(AV.rq p.at_.z p.at_.z.den jb),(AV.rq p.turn p.turn.den jb),(AV.list 4 (p.joints.map (cU jb)))]],none⟩,some ⟨179,16,false,[[(AV.rq f.at_.x f.at_.x.den (2*e+1)),(AV.rq f.at_.z f.at_.z.den (2*e+1)),(AV.rq f.c f.c.den (e+1)),(AV.rq f.s f.s.den (e+1))]],none⟩]⟩:=
  tN mixed aX rU 18 none [2,3,4,5,6] [0,1,8] [(19,(AV.bool true)),(26,(AV.cptr [(AV.int .i64 v.par),(AV.rq v.at_.x v.at_.x.den 300),(AV.rq v.at_.z v.at_.z.den 300),(AV.rq v.ma v.ma.den 300),(AV.rq v.inr v.inr.den 300),(AV.rq v.c.x v.c.x.den 300),(AV.rq v.c.z v.c.z.den 300),(AV.rq v.low v.low.den 300),(AV.rq v.high v.high.den 300),(AV.list 8 (v.shape.map (iK 300)))] 0)),(28,(AV.int .i64 (0:Int))),(30,(AV.agg [(AV.rq f.at_.x f.at_.x.den (2*e+1)),(AV.rq f.at_.z f.at_.z.den (2*e+1)),(AV.rq f.c f.c.den (e+1)),(AV.rq f.s f.s.den (e+1))])),(36,(AV.cptr [(AV.int .i64 v.par),(AV.rq v.at_.x v.at_.x.den 300),(AV.rq v.at_.z v.at_.z.den 300),(AV.rq v.ma v.ma.den 300),(AV.rq v.inr v.inr.den 300),(AV.rq v.c.x v.c.x.den 300),(AV.rq v.c.z v.c.z.den 300),(AV.rq v.low v.low.den 300),(AV.rq v.high v.high.den 300),(AV.list 8 (v.shape.map (iK 300)))] 0)),(45,(AV.int .i64 (0:Int))),(46,(AV.cptr [(AV.rq t t.den jb)] 0)),(50,(AV.agg [(AV.rq f2.at_.x f2.at_.x.den (2*e2+1)),(AV.rq f2.at_.z f2.at_.z.den (2*e2+1)),(AV.rq f2.c f2.c.den (e2+1)),(AV.rq f2.s f2.s.den (e2+1))]))] (ob:=[Ref (AV.bool (decide ((1:Int)<(((m.bodies.map (aK 300)).length:Nat):Int)))) (.bool true),Ref (AV.cptr ((m.bodies.map (aK 300)).getD 1 []) 0) (AV.cptr [(AV.int .i64 v.par),(AV.rq v.at_.x v.at_.x.den 300),(AV.rq v.at_.z v.at_.z.den 300),(AV.rq v.ma v.ma.den 300),(AV.rq v.inr v.inr.den 300),(AV.rq v.c.x v.c.x.den 300),(AV.rq v.c.z v.c.z.den 300),(AV.rq v.low v.low.den 300),(AV.rq v.high v.high.den 300),(AV.list 8 (v.shape.map (iK 300)))] 0),0≤(1:Int),(1:Int)<(((m.bodies.map (aK 300)).length:Nat):Int),Ref (AV.int .i64 v.par) (AV.int .i64 (0:Int)),0≤(0:Int),(0:Int)<1,Ref (AV.agg [(AV.rq f.at_.x f.at_.x.den (2*e+1)),(AV.rq f.at_.z f.at_.z.den (2*e+1)),(AV.rq f.c f.c.den (e+1)),(AV.rq f.s f.s.den (e+1))]) (AV.agg [(AV.rq f.at_.x f.at_.x.den (2*e+1)),(AV.rq f.at_.z f.at_.z.den (2*e+1)),(AV.rq f.c f.c.den (e+1)),(AV.rq f.s f.s.den (e+1))]),Ref (AV.cptr ((m.bodies.map (aK 300)).getD 1 []) 0) (AV.cptr [(AV.int .i64 v.par),(AV.rq v.at_.x v.at_.x.den 300),(AV.rq v.at_.z v.at_.z.den 300),(AV.rq v.ma v.ma.den 300),(AV.rq v.inr v.inr.den 300),(AV.rq v.c.x v.c.x.den 300),(AV.rq v.c.z v.c.z.den 300),(AV.rq v.low v.low.den 300),(AV.rq v.high v.high.den 300),(AV.list 8 (v.shape.map (iK 300)))] 0),0≤(1:Int),(1:Int)<(((m.bodies.map (aK 300)).length:Nat):Int),f.at_.x.den=f.at_.x.den,f.at_.z.den=f.at_.z.den,f.c.den=f.c.den,f.s.den=f.s.den,v.at_.x.den=v.at_.x.den,v.at_.z.den=v.at_.z.den,8*max 300 64+8*max 300 64+8*max (e+1) 64+8*max (e+1) 64+8*max (2*e+1) 64+8*max (2*e+1) 64+2000≤LIM,Ref (AV.int .i64 (0:Int)) (AV.int .i64 (0:Int)),Ref (AV.cptr ((p.joints.map (cU jb)).getD 0 []) 0) (AV.cptr [(AV.rq t t.den jb)] 0),0≤(0:Int),(0:Int)<(((p.joints.map (cU jb)).length:Nat):Int),t.den=t.den,40*max jb 64+5000≤LIM,f.c.den=f.c.den,f.s.den=f.s.den,((cY t).den)=(cY t).den,((bU t).den)=(bU t).den,8*max (e+1) 64+8*max (e+1) 64+8*max (8*max jb 64+500) 64+8*max (8*max jb 64+500) 64+2000≤LIM,Ref (AV.agg [(AV.rq (f.at_.x+(f.c*v.at_.x-f.s*v.at_.z)) ((f.at_.x+(f.c*v.at_.x-f.s*v.at_.z)).den) (max (2*e+1) 64+max 300 64+max 300 64+max (e+1) 64+max (e+1) 64+1+1)),(AV.rq (f.at_.z+(f.s*v.at_.x+f.c*v.at_.z)) ((f.at_.z+(f.s*v.at_.x+f.c*v.at_.z)).den) (max (2*e+1) 64+max 300 64+max 300 64+max (e+1) 64+max (e+1) 64+1+1)),(AV.rq (f.c*(cY t)-f.s*(bU t)) ((f.c*(cY t)-f.s*(bU t)).den) (max (e+1) 64+max (e+1) 64+max (8*max jb 64+500) 64+max (8*max jb 64+500) 64+1)),(AV.rq (f.s*(cY t)+f.c*(bU t)) ((f.s*(cY t)+f.c*(bU t)).den) (max (e+1) 64+max (e+1) 64+max (8*max jb 64+500) 64+max (8*max jb 64+500) 64+1))]) (AV.agg [(AV.rq f2.at_.x f2.at_.x.den (2*e2+1)),(AV.rq f2.at_.z f2.at_.z.den (2*e2+1)),(AV.rq f2.c f2.c.den (e2+1)),(AV.rq f2.s f2.s.den (e2+1))]),1=1,1=1,(2)*256≤140737488355328,2≤big]) (by decide) (by kernel_rfl)
    (.cons (Ref.bool (decide_eq_true h1)) (.cons (o.1) (.cons (by decide) (.cons (o.2.1) (.cons (o.2.2.1) (.cons (by decide) (.cons (by decide) (.cons (o.2.2.2.1) (.cons (o.1) (.cons (by decide) (.cons (o.2.1) (.cons (rfl) (.cons (rfl) (.cons (rfl) (.cons (rfl) (.cons (rfl) (.cons (rfl) (.cons (o.2.2.2.2.1) (.cons (o.2.2.2.2.2.1) (.cons (o.2.2.2.2.2.2.1) (.cons (by decide) (.cons (o.2.2.2.2.2.2.2.1) (.cons (rfl) (.cons (o.2.2.2.2.2.2.2.2.1) (.cons (rfl) (.cons (rfl) (.cons (o.2.2.2.2.2.2.2.2.2.1) (.cons (o.2.2.2.2.2.2.2.2.2.2.1) (.cons (o.2.2.2.2.2.2.2.2.2.2.2.1) (.cons (o.2.2.2.2.2.2.2.2.2.2.2.2.1) (.cons (rfl) (.cons (rfl) (.cons (o.2.2.2.2.2.2.2.2.2.2.2.2.2.1) (.cons (o.2.2.2.2.2.2.2.2.2.2.2.2.2.2) (AllP.nil))))))))))))))))))))))))))))))))))) hg
theorem JX {S0 C0:Nat → Prop} {w0:World} {Post:Value → World → Prop} (m:MachD) (p:PoseD) (XS XT XD XF:List (List AV)) (jb:Nat) (f f2:FrameD) (e e2:Nat) (v:BodyD) (t:Rat) (h1:¬ ((1:Int)<(((m.bodies.map (aK 300)).length:Nat):Int)))
    (hg:Good Tryz.prog 71 S0 C0 w0 Post [.code .ret] ⟨slots 54 [(2,(AV.ptr 0 5 0 0)),(3,(AV.ptr 1 13 0 0)),(4,(AV.own 2 16 0 1)),(5,(AV.own 2 16 0 1)),(6,(AV.int .i64 (1:Int)))],[some ⟨48,5,false,[[(AV.list 34 (m.bodies.map (aK 300))),(AV.list 22 XS),(AV.list 22 XT),(AV.list 17 XD),(AV.list 6 XF)]],none⟩,some ⟨71,13,false,[[(AV.rq p.at_.x p.at_.x.den jb),(AV.rq p.at_.z p.at_.z.den jb),(AV.rq p.turn p.turn.den jb),(AV.list 4 (p.joints.map (cU jb)))]],none⟩,some ⟨179,16,false,[[(AV.rq f.at_.x f.at_.x.den (2*e+1)),(AV.rq f.at_.z f.at_.z.den (2*e+1)),(AV.rq f.c f.c.den (e+1)),(AV.rq f.s f.s.den (e+1))]],none⟩]⟩):
    Good Tryz.prog 71 S0 C0 w0 Post [.code (aR [1,1,0,1,0,0] (aA Tryz.f71)),.inLoop (aR [1,1,0,1,0,0] (aA Tryz.f71)),.inBlock 0,.code (aR [1,1,1] (aA Tryz.f71))] ⟨slots 54 [(2,(AV.ptr 0 5 0 0)),(3,(AV.ptr 1 13 0 0)),(5,(AV.own 2 16 0 1)),(6,(AV.int .i64 (1:Int)))],[some ⟨48,5,false,[[(AV.list 34 (m.bodies.map (aK 300))),(AV.list 22 XS),(AV.list 22 XT),(AV.list 17 XD),(AV.list 6 XF)]],none⟩,some ⟨71,13,false,[[(AV.rq p.at_.x p.at_.x.den jb),(AV.rq p.at_.z p.at_.z.den jb),(AV.rq p.turn p.turn.den jb),(AV.list 4 (p.joints.map (cU jb)))]],none⟩,some ⟨179,16,false,[[(AV.rq f.at_.x f.at_.x.den (2*e+1)),(AV.rq f.at_.z f.at_.z.den (2*e+1)),(AV.rq f.c f.c.den (e+1)),(AV.rq f.s f.s.den (e+1))]],none⟩]⟩:=
  go mixed aX rU 12 none [2,3,4,5,6] [(19,(AV.bool false))] (ob:=[Ref (AV.bool (decide ((1:Int)<(((m.bodies.map (aK 300)).length:Nat):Int)))) (.bool false)]) (by kernel_rfl)
    (.cons (Ref.bool (decide_eq_false h1)) (AllP.nil)) hg
theorem JY {S0 C0:Nat → Prop} {w0:World} {Post:Value → World → Prop} (m:MachD) (p:PoseD) (XS XT XD XF:List (List AV)) (jb:Nat) (f:FrameD) (e:Nat)  (o:(40*max jb 64+5000≤LIM)∧(Ref (AV.agg [(AV.rq p.at_.x p.at_.x.den jb),(AV.rq p.at_.z p.at_.z.den jb),(AV.rq (cY p.turn) ((cY p.turn).den) (8*max jb 64+500)),(AV.rq (bU p.turn) ((bU p.turn).den) (8*max jb 64+500))]) (AV.agg [(AV.rq f.at_.x f.at_.x.den (2*e+1)),(AV.rq f.at_.z f.at_.z.den (2*e+1)),(AV.rq f.c f.c.den (e+1)),(AV.rq f.s f.s.den (e+1))])))
    (hg:Good Tryz.prog 71 S0 C0 w0 Post [.code (aR [1,1,0,1,0,0] (aA Tryz.f71)),.inLoop (aR [1,1,0,1,0,0] (aA Tryz.f71)),.inBlock 0,.code (aR [1,1,1] (aA Tryz.f71))] ⟨slots 54 [(2,(AV.ptr 0 5 0 0)),(3,(AV.ptr 1 13 0 0)),(5,(AV.own 2 16 0 1)),(6,(AV.int .i64 (1:Int)))],[some ⟨48,5,false,[[(AV.list 34 (m.bodies.map (aK 300))),(AV.list 22 XS),(AV.list 22 XT),(AV.list 17 XD),(AV.list 6 XF)]],none⟩,some ⟨71,13,false,[[(AV.rq p.at_.x p.at_.x.den jb),(AV.rq p.at_.z p.at_.z.den jb),(AV.rq p.turn p.turn.den jb),(AV.list 4 (p.joints.map (cU jb)))]],none⟩,some ⟨179,16,false,[[(AV.rq f.at_.x f.at_.x.den (2*e+1)),(AV.rq f.at_.z f.at_.z.den (2*e+1)),(AV.rq f.c f.c.den (e+1)),(AV.rq f.s f.s.den (e+1))]],none⟩]⟩):
    Good Tryz.prog 71 S0 C0 w0 Post [.code (aR [] (aA Tryz.f71))] ⟨slots 54 [(0,(AV.agg [(AV.list 34 (m.bodies.map (aK 300))),(AV.list 22 XS),(AV.list 22 XT),(AV.list 17 XD),(AV.list 6 XF)])),(1,(AV.agg [(AV.rq p.at_.x p.at_.x.den jb),(AV.rq p.at_.z p.at_.z.den jb),(AV.rq p.turn p.turn.den jb),(AV.list 4 (p.joints.map (cU jb)))]))],[]⟩:=
  tN mixed aX rU 14 none [2,3,5,6] [0,1,3] [(13,(AV.agg [(AV.rq f.at_.x f.at_.x.den (2*e+1)),(AV.rq f.at_.z f.at_.z.den (2*e+1)),(AV.rq f.c f.c.den (e+1)),(AV.rq f.s f.s.den (e+1))]))] (ob:=[p.turn.den=p.turn.den,40*max jb 64+5000≤LIM,Ref (AV.agg [(AV.rq p.at_.x p.at_.x.den jb),(AV.rq p.at_.z p.at_.z.den jb),(AV.rq (cY p.turn) ((cY p.turn).den) (8*max jb 64+500)),(AV.rq (bU p.turn) ((bU p.turn).den) (8*max jb 64+500))]) (AV.agg [(AV.rq f.at_.x f.at_.x.den (2*e+1)),(AV.rq f.at_.z f.at_.z.den (2*e+1)),(AV.rq f.c f.c.den (e+1)),(AV.rq f.s f.s.den (e+1))])]) (by decide) (by kernel_rfl)
    (.cons (rfl) (.cons (o.1) (.cons (o.2) (AllP.nil)))) hg
def BU (e:Nat) (f:FrameD):List AV:=[.rq f.at_.x f.at_.x.den (2*e+1),.rq f.at_.z f.at_.z.den (2*e+1),.rq f.c f.c.den (e+1),.rq f.s f.s.den (e+1)]
def pM (jb:Nat) (m:MachD) (p:PoseD) (i:Nat):List AV:=BU (rz jb i) (fr m p i)
theorem RefC.dig_to {n B C:Nat} {cs:List AV} (h:n<2^C):RefC (.dig n B::cs) (.dig n C::cs):=fun ρ S w D vs x=>by
  cases x with
  | dig xs h1 h2 h3 h4=>exact .dig xs h1 h2 h h4
theorem RefC.rz_to {n:Int} {B C:Nat} {cs:List AV} (h:n.natAbs<2^C):RefC (.rz n B::cs) (.rz n C::cs):=fun ρ S w D vs x=>by
  cases x with
  | rz h1=>exact .rz (RefC.tl (RefC.dig_to h) _ _ _ _ _ h1)
theorem RefC.rq_of {x y:Rat} {B C:Nat} {cs:List AV} (e:x=y) (h:QB C y):RefC (.rq x x.den B::cs) (.rq y y.den (C+1)::cs):=fun ρ S w D vs k=>by
  subst e
  have h1:=h.1
  have h2:=h.2
  have hd:x.den<2^(C+1):=by have:=Nat.two_pow_pos C;rw[Nat.pow_succ];omega
  cases k with
  | rq h0 h1'=>exact .rq h0 (((RefC.rz_to (by rw[Nat.pow_succ];omega)).trans (RefC.tl (RefC.rz_to (by rw[Int.natAbs_natCast];exact hd)))) _ _ _ _ _ h1')
theorem Ref.rframe {f:FrameD} {x z c s:Rat} {X Z C S e:Nat} (hx:f=⟨⟨x,z⟩,c,s⟩) (h:FQ e f):Ref (.agg [.rq x x.den X,.rq z z.den Z,.rq c c.den C,.rq s s.den S]) (.agg (BU e f)):=by
  subst hx
  exact Ref.agg (RefC.cons (RefC.rq_of rfl h.1) (RefC.cons (RefC.rq_of rfl h.2.1) (RefC.cons (RefC.rq_of rfl h.2.2.1) (RefC.rq_of rfl h.2.2.2))))
noncomputable abbrev Sh:List Item:=[.code (aR [1,1,0,1,0,0] (aA Tryz.f71)),.inLoop (aR [1,1,0,1,0,0] (aA Tryz.f71)),.inBlock 0,.code (aR [1,1,1] (aA Tryz.f71))]
section
variable {S:Nat → Prop} {w0:World} {m:MachD} {p:PoseD} {XS XT XD XF:List (List AV)} {jb:Nat}
theorem My (hjb:jb≤100000) (hB:Cj jb m p) (ht:m.tree) (h8:m.bodies.length≤8) (hj:p.joints.length+1=m.bodies.length):∀ (j i:Nat),i+j=m.bodies.length → 2≤i →
    Good Tryz.prog 71 S No w0 (eN S w0 (.list 16 ((List.range m.bodies.length).map (pM jb m p)))) Sh ⟨slots 54 [(2,.ptr 0 5 0 0),(3,.ptr 1 13 0 0),(5,.own 2 16 0 i),(6,.int .i64 ((i:Nat):Int))],[some ⟨48,5,false,[[.list 34 (m.bodies.map (aK 300)),.list 22 XS,.list 22 XT,.list 17 XD,.list 6 XF]],none⟩,some ⟨71,13,false,[mH jb p],none⟩,some ⟨179,16,true,(List.range i).map (pM jb m p),none⟩]⟩:=by
  have hlm:(m.bodies.map (aK 300)).length=m.bodies.length:=List.length_map ..
  have hlj:(p.joints.map (cU jb)).length=p.joints.length:=List.length_map ..
  intro j
  induction j with
  | zero=>
    intro i hij h2
    have hi:i=m.bodies.length:=by omega
    subst hi
    refine JU m p XS XT XD XF jb default default 0 0 m.bodies.length 0 ((List.range m.bodies.length).map (pM jb m p)) default 0 (by rw[hlm];omega) ?_
    refine Good.pick 54 [(4,.own 2 16 0 m.bodies.length)] (by kernel_rfl) (by kernel_rfl) ?_
    refine Good.freezeD (b:=⟨179,16,true,(List.range m.bodies.length).map (pM jb m p),none⟩) 2 (by rfl) (by rfl) (AllP.of_eq (l':=[0+m.bodies.length≤((List.range m.bodies.length).map (pM jb m p)).length]) (by kernel_rfl) (.cons (by simp) .nil)) (AllP.of_nil (by kernel_rfl)) ?_
    exact fF aX (fn:=Tryz.f71) (by kernel_rfl) (.inr ⟨_,rfl⟩) (Vs:=[.list 16 ((((List.range m.bodies.length).map (pM jb m p)).drop 0).take m.bodies.length)]) (by kernel_rfl) (by rfl) (by rfl) (Ref.eq (by rw[List.drop_zero,List.take_of_length_le (by simp)];rfl))
  | succ j ih=>
    intro i hij h2
    have hi:i<m.bodies.length:=by omega
    obtain⟨hp0,hp1⟩:=ht i (by omega) hi
    obtain⟨v,hv⟩:∃ v,v=m.bodies.getD i default:=⟨_,rfl⟩
    rw[← hv] at hp0 hp1
    obtain⟨k,hk⟩:∃ k:Nat,v.par=((k:Nat):Int):=⟨v.par.toNat,by omega⟩
    have hki:k<i:=by omega
    have hstep:fr m p i=wZ (fr m p k) v (p.joints.getD (i-1) default):=by rw[uO ht (by omega) hi, ← hv,hk];rfl
    have hz:rz jb k≤SZ jb:=rz_le (by omega)
    unfold SZ at hz
    have r1:Ref (.cptr ((m.bodies.map (aK 300)).getD i []) 0) (.cptr (aK 300 v) 0):=by rw[hv];exact Ref.cmap hi
    have r2:((i:Nat):Int)<(((m.bodies.map (aK 300)).length:Nat):Int):=by rw[hlm];omega
    have r3:Ref (.agg (((List.range i).map (pM jb m p)).getD (0+k) [])) (.agg (BU (rz jb k) (fr m p k))):=Ref.eq (by rw[Nat.zero_add,List.getD_eq_getElem?_getD,List.getElem?_map,List.getElem?_range hki];rfl)
    have r4:Ref (AV.int .i64 (IntKind.i64.wrap (((i:Nat):Int)-(1:Int)))) (AV.int .i64 ((i-1:Nat):Int)):=(Ref.wr ⟨by show(-9223372036854775808:Int)≤_;omega,by show _≤(9223372036854775807:Int);omega⟩).trans (Ref.int (by omega))
    have r5:Ref (AV.cptr ((p.joints.map (cU jb)).getD (i-1) []) 0) (AV.cptr [(AV.rq (p.joints.getD (i-1) default) (p.joints.getD (i-1) default).den jb)] 0):=Ref.cmap (f:=cU jb) (by omega)
    have l1:8*max 300 64+8*max 300 64+8*max (rz jb k+1) 64+8*max (rz jb k+1) 64+8*max (2*rz jb k+1) 64+8*max (2*rz jb k+1) 64+2000≤LIM:=by unfold LIM;omega
    have l2:40*max jb 64+5000≤LIM:=by unfold LIM;omega
    have l3:8*max (rz jb k+1) 64+8*max (rz jb k+1) 64+8*max (8*max jb 64+500) 64+8*max (8*max jb 64+500) 64+2000≤LIM:=by unfold LIM;omega
    have e:(List.range i).map (pM jb m p)++ [pM jb m p i]=(List.range (i+1)).map (pM jb m p):=by rw[List.range_succ];simp
    have key:Good Tryz.prog 71 S No w0 (eN S w0 (.list 16 ((List.range m.bodies.length).map (pM jb m p)))) Sh ⟨slots 54 [(2,.ptr 0 5 0 0),(3,.ptr 1 13 0 0),(5,.own 2 16 0 (i+1)),(6,.int .i64 ((i+1:Nat):Int))],[some ⟨48,5,false,[[.list 34 (m.bodies.map (aK 300)),.list 22 XS,.list 22 XT,.list 17 XD,.list 6 XF]],none⟩,some ⟨71,13,false,[mH jb p],none⟩,some ⟨179,16,true,(List.range i).map (pM jb m p)++ [pM jb m p i],none⟩]⟩:=by
      rw[e];exact ih (i+1) (by omega) (by omega)
    refine JV m p XS XT XD XF jb (fr m p k) (fr m p i) (rz jb k) (rz jb i) i k ((List.range i).map (pM jb m p)) v (p.joints.getD (i-1) default) r2 ⟨r1,r2,Ref.int hk,by omega,r3,by simp;omega,l1,r4,r5,by rw[hlj];omega,l2,rfl,rfl,l3,Ref.rframe hstep (BP hB ht (by omega) hi h8),by simp,by omega,by unfold big;omega,by omega⟩ ?_
    exact key
theorem Qo (hjb:jb≤100000) (hB:Cj jb m p) (ht:m.tree) (h0:0<m.bodies.length) (h8:m.bodies.length≤8) (hj:p.joints.length+1=m.bodies.length):
    Good Tryz.prog 71 S No w0 (eN S w0 (.list 16 ((List.range m.bodies.length).map (pM jb m p)))) Sh ⟨slots 54 [(2,.ptr 0 5 0 0),(3,.ptr 1 13 0 0),(5,.own 2 16 0 1),(6,.int .i64 ((1:Nat):Int))],[some ⟨48,5,false,[[.list 34 (m.bodies.map (aK 300)),.list 22 XS,.list 22 XT,.list 17 XD,.list 6 XF]],none⟩,some ⟨71,13,false,[mH jb p],none⟩,some ⟨179,16,false,[pM jb m p 0],none⟩]⟩:=by
  have hlm:(m.bodies.map (aK 300)).length=m.bodies.length:=List.length_map ..
  have hlj:(p.joints.map (cU jb)).length=p.joints.length:=List.length_map ..
  rcases Nat.lt_or_ge 1 m.bodies.length with h1 | h1
  · obtain⟨hp0,hp1⟩:=ht 1 (by omega) h1
    obtain⟨v,hv⟩:∃ v,v=m.bodies.getD 1 default:=⟨_,rfl⟩
    rw[← hv] at hp0 hp1
    have hk:v.par=0:=by omega
    have hstep:fr m p 1=wZ (fr m p 0) v (p.joints.getD 0 default):=by rw[uO ht (by omega) h1, ← hv,hk];rfl
    have hz:rz jb 0≤SZ jb:=rz_le (by omega)
    unfold SZ at hz
    have r1:Ref (.cptr ((m.bodies.map (aK 300)).getD 1 []) 0) (.cptr (aK 300 v) 0):=by rw[hv];exact Ref.cmap h1
    have r2:(1:Int)<(((m.bodies.map (aK 300)).length:Nat):Int):=by rw[hlm];omega
    have r5:Ref (AV.cptr ((p.joints.map (cU jb)).getD 0 []) 0) (AV.cptr [(AV.rq (p.joints.getD 0 default) (p.joints.getD 0 default).den jb)] 0):=Ref.cmap (f:=cU jb) (by omega)
    have r6:(0:Int)<(((p.joints.map (cU jb)).length:Nat):Int):=by rw[hlj];omega
    have l1:8*max 300 64+8*max 300 64+8*max (rz jb 0+1) 64+8*max (rz jb 0+1) 64+8*max (2*rz jb 0+1) 64+8*max (2*rz jb 0+1) 64+2000≤LIM:=by unfold LIM;omega
    have l2:40*max jb 64+5000≤LIM:=by unfold LIM;omega
    have l3:8*max (rz jb 0+1) 64+8*max (rz jb 0+1) 64+8*max (8*max jb 64+500) 64+8*max (8*max jb 64+500) 64+2000≤LIM:=by unfold LIM;omega
    have key:Good Tryz.prog 71 S No w0 (eN S w0 (.list 16 ((List.range m.bodies.length).map (pM jb m p)))) Sh ⟨slots 54 [(2,.ptr 0 5 0 0),(3,.ptr 1 13 0 0),(5,.own 2 16 0 2),(6,.int .i64 (2:Int))],[some ⟨48,5,false,[[.list 34 (m.bodies.map (aK 300)),.list 22 XS,.list 22 XT,.list 17 XD,.list 6 XF]],none⟩,some ⟨71,13,false,[mH jb p],none⟩,some ⟨179,16,true,[pM jb m p 0,pM jb m p 1],none⟩]⟩:=My hjb hB ht h8 hj (m.bodies.length-2) 2 (by omega) (by omega)
    refine JW m p XS XT XD XF jb (fr m p 0) (fr m p 1) (rz jb 0) (rz jb 1) v (p.joints.getD 0 default) r2 ⟨r1,r2,Ref.int hk,Ref.rfl',l1,Ref.rfl',r5,r6,l2,rfl,rfl,l3,Ref.rframe hstep (BP hB ht (by omega) h1 h8),by omega,by decide⟩ ?_
    exact key
  · have e1:m.bodies.length=1:=by omega
    refine JX m p XS XT XD XF jb (fr m p 0) default (rz jb 0) 0 default 0 (by rw[hlm];omega) ?_
    refine Good.pick 54 [(4,.own 2 16 0 1)] (by kernel_rfl) (by kernel_rfl) ?_
    refine Good.freezeD (b:=⟨179,16,false,[pM jb m p 0],none⟩) 2 (by rfl) (by rfl) (AllP.of_eq (l':=[0+1≤ [pM jb m p 0].length]) (by kernel_rfl) (.cons (by simp) .nil)) (AllP.of_nil (by kernel_rfl)) ?_
    rw[e1]
    exact fF aX (fn:=Tryz.f71) (by kernel_rfl) (.inr ⟨_,rfl⟩) (Vs:=[.list 16 (([pM jb m p 0].drop 0).take 1)]) (by kernel_rfl) (by rfl) (by rfl) (Ref.eq rfl)
end
def KR:List AV → PtD
  | [.rq x _ _,.rq z _ _]=>⟨x,z⟩
  | _=>default
def tD:List AV → BodyD
  | [.int _ pr,.rq x _ _,.rq z _ _,.rq ma _ _,.rq ie _ _,.rq cx _ _,.rq cz _ _,.rq lo _ _,.rq hi _ _,.list _ sh]=>⟨ByteArray.mk #[],pr,⟨x,z⟩,⟨cx,cz⟩,ma,ie,lo,hi,sh.map KR⟩
  | _=>default
def dO:List AV → Rat
  | [.rq x _ _]=>x
  | _=>0
def mR (XB:List (List AV)):MachD:=⟨ByteArray.mk #[],XB.map tD,[],[],[],[]⟩
def UU:List AV → Option (AV×List Prop)
  | [.agg [.list 34 XB,.list 22 XS,.list 22 XT,.list 17 XD,.list 6 XF],.agg [.rq ax d1 jb,.rq az d2 A2,.rq tu d3 A3,.list 4 J]]=>some (.list 16 ((List.range XB.length).map (pM jb (mR XB) ⟨⟨ax,az⟩,tu,J.map dO⟩)),[XB=(XB.map tD).map (aK 300),d1=ax.den,d2=az.den,d3=tu.den,A2=jb,A3=jb,J=(J.map dO).map (cU jb),jb≤100000,Cj jb (mR XB) ⟨⟨ax,az⟩,tu,J.map dO⟩,(mR XB).tree,0<XB.length,XB.length≤8,J.length+1=XB.length])
  | _=>none
theorem Vx (args:List AV) (r:AV) (ob:List Prop) (h:UU args=some (r,ob)) (ho:AllP ob):qL Tryz.prog 71 args r:=by
  unfold UU at h
  split at h
  · rename_i XB XS XT XD XF ax d1 jb az d2 A2 tu d3 A3 J
    injection h with h;simp only[Prod.mk.injEq] at h
    obtain⟨rfl,rfl⟩:=h
    have o1:XB=(XB.map tD).map (aK 300):=ho _ (by simp)
    have o2:d1=ax.den:=ho _ (by simp)
    have o3:d2=az.den:=ho _ (by simp)
    have o4:d3=tu.den:=ho _ (by simp)
    have o5:A2=jb:=ho _ (by simp)
    have o6:A3=jb:=ho _ (by simp)
    have o7:J=(J.map dO).map (cU jb):=ho _ (by simp)
    have o8:jb≤100000:=ho _ (by simp)
    have o9:Cj jb (mR XB) ⟨⟨ax,az⟩,tu,J.map dO⟩:=ho _ (by simp)
    have o10:(mR XB).tree:=ho _ (by simp)
    have o11:0<XB.length:=ho _ (by simp)
    have o12:XB.length≤8:=ho _ (by simp)
    have o13:J.length+1=XB.length:=ho _ (by simp)
    clear ho
    subst o2;subst o3;subst o4;subst o5;subst o6
    obtain⟨m,hm⟩:∃ m,m=mR XB:=⟨_,rfl⟩
    obtain⟨p,hp⟩:∃ p:PoseD,p=⟨⟨ax,az⟩,tu,J.map dO⟩:=⟨_,rfl⟩
    rw[← hm] at o9 o10 ⊢
    rw[← hp] at o9 ⊢
    have hl:XB.length=m.bodies.length:=by rw[hm];simp[mR]
    have hjl:p.joints.length=J.length:=by rw[hp];simp
    rw[hl] at o11 o12 o13 ⊢
    have hX:XB=m.bodies.map (aK 300):=by rw[hm];exact o1
    have hJ:J=p.joints.map (cU A3):=by rw[hp];exact o7
    have hA:p.at_=⟨ax,az⟩:=by rw[hp]
    have hT:p.turn=tu:=by rw[hp]
    refine tZ (fn:=Tryz.f71) (c:=aA Tryz.f71) (by kernel_rfl) (by kernel_rfl) (by kernel_rfl) fun S w0=> ?_
    have e:kY [.agg [.list 34 XB,.list 22 XS,.list 22 XT,.list 17 XD,.list 6 XF],.agg [.rq ax ax.den A3,.rq az az.den A3,.rq tu tu.den A3,.list 4 J]] Tryz.f71.ntmps=⟨slots 54 [(0,.agg [.list 34 (m.bodies.map (aK 300)),.list 22 XS,.list 22 XT,.list 17 XD,.list 6 XF]),(1,.agg (mH A3 p))],[]⟩:=by
      rw[← hX]
      unfold mH
      rw[← hJ,hA,hT]
      kernel_rfl
    rw[e];clear e
    have hF:=BP o9 o10 (by omega) o11 o12
    refine JY m p XS XT XD XF A3 (fr m p 0) (rz A3 0) ⟨by unfold LIM;omega,Ref.rframe rfl hF⟩ ?_
    exact Qo (XS:=XS) (XT:=XT) (XD:=XD) (XF:=XF) o8 o9 o10 o11 o12 (by omega)
  · cases h
end Go.Av
