/- PoseReaches: a part of its proof. No condition. -/
import Derived.Test.YtbdhgnlabjmnoaaGreatK2
import Derived.MapKept
set_option linter.all false
set_option maxRecDepth 100000
set_option autoImplicit true
set_option relaxedAutoImplicit true
namespace Go.Av
open Go.RowKit
structure InvG (X:Nat×AOp->Prop) (𝓡:Array Bool->(Nat->Nat)->(Nat->Prop)->St->Act->World->Prop) (O:Rec->Prop) (T:TT) (K:KT) (ops:Array Oper) (listed:Array Bool) (xs:List (Nat×AOp)) (rs:List Rec) (st st':St) (a:Act) (w:World) (ρ:Nat->Nat) (D:Nat->Prop):Prop where
 rel:𝓡 listed ρ D st a w
 run:arun T K ops xs st=some (st',rs)
 obs:∀ r∈rs,O r
 pend:Pend D st.h xs
 size:listed.size=ops.size
 mem:∀ i,i<ops.size->(listed.getD i false=false↔∃ x,(i,x)∈xs)
 all:∀ p∈xs,X p
 sorted:xs.Pairwise fun p q=>p.1<q.1
 ops_:∀ p∈xs,ops[p.1]? =some p.2.o
 closed:Closed ops listed
 pairs:rs.Pairwise fun r s=>pairOK ops (befs [] ops.toList) r s=true
section
variable {P:Program} {T:TT} {K:KT} {ops:Array Oper} {Q:Exit->Act->World->Prop}
theorem any_orderG {X:Nat×AOp->Prop} {opsR:Array Oper} {𝓡:Array Bool->(Nat->Nat)->(Nat->Prop)->St->Act->World->Prop} {O:Rec->Prop} (hE:edgesOK 0 ops.toList=true) {st':St}
   (hr:∀ listed,Region.ready .any opsR listed=Region.ready .any ops listed)
   (hQ:∀ listed ρ' D' a' w',𝓡 listed ρ' D' st' a' w'->(∀ i,i<ops.size->listed.getD i false=true)->Q .normal a' w')
   (hstep:∀ listed i x st st1 r a w ρ D,𝓡 listed ρ D st a w->listed.size=ops.size->i<ops.size->listed.getD i false=false->(∀ o,ops[i]? =some o->∀ e∈o.after.toList,Region.binds .any e=true->listed.getD e.on false=true)->ops[i]? =some x.o->(newOp x.o.op=true->st.h[x.nid]? =some none/\¬ D x.nid)->arun1 T K ops i x st=some (st1,r)->O r->X (i,x)->(∃ rest rs1,arun T K ops rest st1=some (st',rs1)/\∀ p∈rest,p.1≠i/\listed.getD p.1 false=false/\ops[p.1]? =some p.2.o)->
     wpOp P opsR Q i (fun a' w'=>∃ ρ' D',𝓡 (listed.setIfInBounds i true) ρ' D' st1 a' w'/\∀ l,D' l->D l\/l=x.nid/\newOp x.o.op=true) a w):
   ∀ (fuel:Nat) (listed:Array Bool) (xs:List (Nat×AOp)) (rs:List Rec) (st:St) (a:Act) (w:World) (ρ:Nat->Nat) (D:Nat->Prop),xs.length<=fuel->
     InvG X 𝓡 O T K ops listed xs rs st st' a w ρ D->wpAny P .any opsR Q fuel listed a w:=by
 have done : ∀ (listed:Array Bool) (xs:List (Nat×AOp)) (rs:List Rec) (st:St) (a:Act) (w:World) (ρ:Nat->Nat) (D:Nat->Prop),InvG X 𝓡 O T K ops listed xs rs st st' a w ρ D->
     (Region.ready .any ops listed= []->xs= [])/\(xs= []->Region.ready .any ops listed= []/\Q .normal a w):=by
   intro listed xs rs st a w ρ D I;constructor
   · intro hr
     cases xs with
     | nil=>rfl
     | cons p xs=>
       exfalso;obtain⟨i,x⟩:=p;have ho:=I.ops_ (i,x) (by simp);have hlt:=(Array.getElem?_eq_some_iff.1 ho).1;have hun:=(I.mem i hlt).2 ⟨x,by simp⟩
       have:i∈Region.ready .any ops listed:=by
         rw[ready_iff];refine⟨hlt,by rw[getD_tf (by rw[I.size];exact hlt)];exact hun,x.o,ho,fun e he hb=> ?_⟩;have hle:=edgesOK_spec ops.toList 0 i x.o hE (by simpa using ho) e he hb;simp at hle;cases hq:listed.getD e.on false with
         | true=>rfl
         | false=>
           exfalso;obtain⟨y,hy⟩:=(I.mem e.on (by omega)).1 hq;rcases List.mem_cons.1 hy with h | h
           · injection h with h _;omega
           · have:=(List.pairwise_cons.1 I.sorted).1 _ h
             simp at this;omega
       rw[hr] at this;cases this
   · intro hx
     subst hx;have hrun:=I.run;simp only[arun] at hrun;injection hrun with hrun;simp only[Prod.mk.injEq] at hrun
     have hall:∀ i,i<ops.size->listed.getD i false=true:=fun i hi=>by
       cases hc:listed.getD i false with
       | true=>rfl
       | false=>obtain⟨y,hy⟩:=(I.mem i hi).1 hc;simp at hy
     refine⟨?_,hQ _ _ _ _ _ (by rw[<- hrun.1];exact I.rel) hall⟩;cases hr:Region.ready .any ops listed with
     | nil=>rfl
     | cons i l=>
       exfalso;have hi:i∈Region.ready .any ops listed:=by rw[hr];simp
       obtain⟨h1,h2,_⟩:=ready_iff.1 hi;rw[getD_tf (by rw[I.size];exact h1)] at h2;obtain⟨x,hx⟩:=(I.mem i h1).1 h2;simp at hx
 intro fuel
 induction fuel with
 | zero=>
   intro listed xs rs st a w ρ D hl I
   have:=((done _ _ _ _ _ _ _ _ I).2 (by cases xs with | nil=>rfl | cons _ _=>simp at hl));exact⟨by rw[hr];exact this.1,this.2⟩
 | succ fuel ih=>
   intro listed xs rs st a w ρ D hl I;refine⟨fun hr'=>((done _ _ _ _ _ _ _ _ I).2 ((done _ _ _ _ _ _ _ _ I).1 (by rw[<- hr];exact hr'))).2,fun i hi=> ?_⟩;rw[hr] at hi;obtain⟨hlt,hun,o,ho,hed⟩:=ready_iff.1 hi;rw[getD_tf (by rw[I.size];exact hlt)] at hun;obtain⟨x,hx⟩:=(I.mem i hlt).1 hun;obtain⟨pre,post,rfl⟩:=List.append_of_mem hx
   have hox:x.o=o:=by
     have:=I.ops_ (i,x) hx;rw[ho] at this;injection this with this;exact this.symm
   obtain⟨rp,r,rq,hrs,hlen,hfront⟩:=front pre i x post st st' rs I.run;have hidx:=arun_idx I.run;rw[hrs] at hidx;simp only[List.map_append,List.map_cons] at hidx;have hsplit:=List.append_inj hidx (by simp[hlen]);have hri:r.i=i:=by have:=hsplit.2;simp at this;exact this.1
   have hpairs:=I.pairs;rw[hrs] at hpairs
   have hind:∀ q∈rp,indep ops q r=true:=by
     intro q hq;have hp:=(List.pairwise_append.1 hpairs).2.2 q hq r (by simp);unfold pairOK at hp;rw[Bool.or_eq_true] at hp;rcases hp with hp | hp
     · exfalso
       rw[hri] at hp;have hqi:q.i∈pre.map (·.1):=by rw[<- hsplit.1];exact List.mem_map.2 ⟨q,hq,rfl⟩
       obtain⟨p,hp1,hp2⟩:=List.mem_map.1 hqi;have hpo:=I.ops_ p (by simp[hp1]);have hplt:=(Array.getElem?_eq_some_iff.1 hpo).1;have hqun:=(I.mem p.1 hplt).2 ⟨p.2,by simp[hp1]⟩;obtain⟨e,h1,h2,h3,h4⟩:=befs_spec ops.toList [] i o (by simpa using ho) hE q.i (by simpa using hp);have hel:=hed e h1 h2
       have hql:listed.getD q.i false=true:=by
         rcases h4 with h4 | h4
         · rw[<- h4];exact hel
         · simp at h3
           exact closed_bef hE I.closed e.on hel ops[e.on] (by simp[show e.on<ops.size from by omega]) q.i h4
       rw[hp2] at hqun;rw[hqun] at hql;cases hql
     · exact hp
   have hrun2:=hfront hind;obtain⟨st1,r',rs1,g1,g2,g3⟩:=arun_cons.1 hrun2;injection g3 with g3 g4;subst g3;subst g4
   have hmemx:∀ p,p∈pre++post->p∈pre++(i,x)::post:=fun p hp=>by
     rcases List.mem_append.1 hp with h | h
     · simp[h]
     · simp[h]
   have hpend2:Pend D st.h ((i,x)::(pre++post)):=by
     refine⟨fun p hp=>I.pend.free p ?_, ?_⟩
     · rcases List.mem_cons.1 hp with rfl | hp
       · exact hx
       · exact hmemx p hp
     · have hap:=I.pend.apart
       rw[List.pairwise_append] at hap;obtain⟨k1,k2,k3⟩:=hap;rw[List.pairwise_cons] at k2;refine List.pairwise_cons.2 ⟨fun q hq hx hn=> ?_,List.pairwise_append.2 ⟨k1,k2.2,fun p hp q hq=>k3 p hp q (by simp[hq])⟩⟩;rcases List.mem_append.1 hq with h | h
       · exact fun e=>k3 q h (i,x) (by simp) hn hx e.symm
       · exact k2.1 q h hx hn
   have hneq:∀ p,p∈pre++post->p.1≠i:=by
     intro p hp e;have hs:=I.sorted;rw[List.pairwise_append,List.pairwise_cons] at hs;rcases List.mem_append.1 hp with h | h
     · have:=hs.2.2 p h (i,x) (by simp)
       simp at this;omega
     · have:=hs.2.1.1 p h
       simp at this;omega
   refine wpOp_mono ?_ (hstep listed i x st st1 r a w ρ D I.rel I.size hlt hun (fun o' ho'=>by rw[ho] at ho';injection ho' with ho';subst ho';exact hed) (I.ops_ (i,x) hx) (hpend2.free (i,x) (by simp)) g1 (I.obs r (by rw[hrs];simp)) (I.all (i,x) hx) ⟨pre++post,rp++rq,g2,fun p hp=>⟨hneq p hp,(I.mem p.1 (Array.getElem?_eq_some_iff.1 (I.ops_ p (hmemx p hp))).1).2 ⟨p.2,hmemx p hp⟩,I.ops_ p (hmemx p hp)⟩⟩);rintro a' w' ⟨ρ',D',R',hD'⟩;refine ih (listed.setIfInBounds i true) (pre++post) (rp++rq) st1 a' w' ρ' D' (by simp at hl ⊢;omega) ?_
   exact {
     rel:=R'
     run:=g2
     obs:=fun q hq=>I.obs q (by rw[hrs];rcases List.mem_append.1 hq with h | h <;> simp[h])
     pend:=hpend2.tail g1 hD'
     size:=by simpa using I.size
     mem :=by
       intro k hk
       by_cases hki:i=k
       · subst hki
         constructor
         · intro h
           simp[getD_setA,I.size,hlt] at h
         · rintro⟨y,hy⟩
           exact absurd rfl (hneq (i,y) hy)
       · have e1:(listed.setIfInBounds i true).getD k false=listed.getD k false:=by
           simp[getD_setA,hki]
         rw[e1,I.mem k hk];constructor
         · rintro⟨y,hy⟩
           refine⟨y, ?_⟩;rcases List.mem_append.1 hy with h | h
           · simp[h]
           · rcases List.mem_cons.1 h with h | h
             · injection h with h _;exact absurd h.symm hki
             · simp[h]
         · rintro⟨y,hy⟩
           exact⟨y,hmemx _ hy⟩
     sorted:=by
       have hs:=I.sorted;rw[List.pairwise_append,List.pairwise_cons] at hs;exact List.pairwise_append.2 ⟨hs.1,hs.2.1.2,fun p hp q hq=>hs.2.2 p hp q (by simp[hq])⟩
     ops_:=fun p hp=>I.ops_ p (hmemx p hp)
     all:=fun p hp=>I.all p (hmemx p hp)
     closed:=by
       intro k ok hk hl2 e he hb
       by_cases hki:i=k
       · subst hki
         rw[ho] at hk;injection hk with hk;subst hk
         have:=hed e he hb
         by_cases h:i=e.on
         · subst h;simp[getD_setA,I.size,hlt]
         · simpa[getD_setA,h] using this
       · have e1:(listed.setIfInBounds i true).getD k false=listed.getD k false:=by
           simp[getD_setA,hki]
         rw[e1] at hl2
         have:=I.closed k ok hk hl2 e he hb
         by_cases h:i=e.on
         · subst h;simp[getD_setA,I.size,hlt]
         · simpa[getD_setA,h] using this
     pairs:=by
       rw[List.pairwise_append,List.pairwise_cons] at hpairs
       exact List.pairwise_append.2 ⟨hpairs.1,hpairs.2.1.2,fun p hp q hq=>hpairs.2.2 p hp q (by simp[hq])⟩ }
theorem arun_seqG {X:Nat×AOp->Prop} {opsR:Array Oper} {𝓡:Array Bool->(Nat->Nat)->(Nat->Prop)->St->Act->World->Prop} {O:Rec->Prop} (hE:edgesOK 0 ops.toList=true) {st':St}
   (hQ:∀ listed ρ' D' a' w',𝓡 listed ρ' D' st' a' w'->(∀ i,i<ops.size->listed.getD i false=true)->Q .normal a' w')
   (hstep:∀ listed i x st st1 r a w ρ D,𝓡 listed ρ D st a w->listed.size=ops.size->i<ops.size->listed.getD i false=false->(∀ o,ops[i]? =some o->∀ e∈o.after.toList,Region.binds .any e=true->listed.getD e.on false=true)->ops[i]? =some x.o->(newOp x.o.op=true->st.h[x.nid]? =some none/\¬ D x.nid)->arun1 T K ops i x st=some (st1,r)->O r->X (i,x)->(∃ rest rs1,arun T K ops rest st1=some (st',rs1)/\∀ p∈rest,p.1≠i/\listed.getD p.1 false=false/\ops[p.1]? =some p.2.o)->
     wpOp P opsR Q i (fun a' w'=>∃ ρ' D',𝓡 (listed.setIfInBounds i true) ρ' D' st1 a' w'/\∀ l,D' l->D l\/l=x.nid/\newOp x.o.op=true) a w):
   ∀ (xs:List (Nat×AOp)) (k:Nat) (listed:Array Bool) (ρ:Nat->Nat) (D:Nat->Prop) (st:St) (a:Act) (w:World) (rs:List Rec),listed.size=ops.size->(∀ i,i<ops.size->(listed.getD i false=true↔i<k))->
     xs.map (·.1)=List.range' k xs.length->k+xs.length=ops.size->𝓡 listed ρ D st a w->arun T K ops xs st=some (st',rs)->(∀ r∈rs,O r)->Pend D st.h xs->(∀ p∈xs,ops[p.1]? =some p.2.o)->(∀ p∈xs,X p)->wpOps P opsR Q (xs.map (·.1)) a w
 | [],k,listed,ρ,D,st,a,w,rs,hsz,hl,_,hk,R,he,_,_,_,_=>by
   simp only[arun] at he;injection he with he;simp only[Prod.mk.injEq] at he;obtain⟨rfl,rfl⟩:=he;exact hQ _ _ _ _ _ R fun i hi=>(hl i hi).2 (by simp at hk;omega)
 | (i, x)::xs,k,listed,ρ,D,st,a,w,rs,hsz,hl,hidx,hk,R,he,hob,hp,ho,hX=>by
   obtain⟨st1,r,rs1,h1,h2,rfl⟩:=arun_cons.1 he;simp only[List.map_cons,List.length_cons,List.range'_succ,List.cons.injEq] at hidx;obtain⟨rfl,hidx⟩:=hidx;simp only[List.length_cons] at hk;simp only[List.map_cons];rw[wpOps_cons];have hlt:i<ops.size:=by omega
   have hun:listed.getD i false=false:=by
     cases hc:listed.getD i false with
     | false=>rfl
     | true=>exact absurd ((hl i hlt).1 hc) (Nat.lt_irrefl i)
   have hox:=ho (i,x) (by simp)
   have hin:∀ p∈xs,i<p.1:=fun p hp'=>by
     have:p.1∈List.range' (i+1) xs.length:=by rw[<- hidx];exact List.mem_map.2 ⟨p,hp',rfl⟩
     have:=List.mem_range'_1.1 this;omega
   refine wpOp_mono ?_ (hstep listed i x st st1 r a w ρ D R hsz hlt hun (fun o ho' e he' hb=>by
     have:=edgesOK_spec ops.toList 0 i o hE (by simpa using ho') e he' hb;simp at this
     exact(hl e.on (by omega)).2 this) hox (hp.free (i,x) (by simp)) h1 (hob r (by simp)) (hX _ (by simp))
     ⟨xs,rs1,h2,fun p hp'=>⟨by have:=hin p hp';omega,by
       have hplt:=(Array.getElem?_eq_some_iff.1 (ho p (by simp[hp']))).1;cases hc:listed.getD p.1 false with
       | false=>rfl
       | true=>exact absurd ((hl p.1 hplt).1 hc) (by have:=hin p hp';omega),ho p (by simp[hp'])⟩⟩)
   rintro a' w' ⟨ρ',D',R',hD'⟩;refine arun_seqG hE hQ hstep xs (i+1) (listed.setIfInBounds i true) ρ' D' st1 a' w' rs1 (by simpa using hsz) ?_ hidx (by omega) R' h2 (fun r hr=>hob r (by simp[hr])) (hp.tail h1 hD') (fun p hp=>ho p (by simp[hp])) (fun p hp=>hX p (by simp[hp]));intro j hj;rw[getD_setA]
   by_cases e:i=j
   · subst e;simp[hsz,hlt]
   · rw[if_neg (fun h=>e h.1),hl j hj];omega
def aregionG (T:TT) (K:KT) (ops:Array Oper) (draw:Bool) (ov:Ovs) (st:St):Option (St×List Rec):=
 match arun T K ops (annot 0 ops.toList ov st.h.length) ⟨st.σ,st.h++List.replicate (news ops.toList) none⟩ with
 | some (st',rs)=>if edgesOK 0 ops.toList&&(!draw||pairsOK ops (befs [] ops.toList) rs) then some (st',rs) else none
 | none=>none
def sameShape:List Oper->List Oper->Prop
 | [],[]=>True
 | o::os,o'::os'=>o'.dst=o.dst/\o'.guard=o.guard/\o'.after=o.after/\sameShape os os'
 | _,_=>False
theorem sameShape_get:∀ {os os':List Oper},sameShape os os'->os'.length=os.length/\∀ i:Nat,(os[i]? =none/\os'[i]? =none)\/∃ (o o':Oper),os[i]? =some o/\os'[i]? =some o'/\o'.dst=o.dst/\o'.guard=o.guard/\o'.after=o.after
 | [],[],_=>⟨rfl,fun i=>.inl ⟨rfl,rfl⟩⟩
 | o::os,o'::os',h=>by
   obtain⟨h1,h2,h3,h4⟩:=h;obtain⟨k1,k2⟩:=sameShape_get h4;refine⟨by simp[k1],fun i=> ?_⟩;cases i with
   | zero=>exact .inr ⟨o,o',rfl,rfl,h1,h2,h3⟩
   | succ i=>simpa using k2 i
 | [],_::_,h=>h.elim
 | _::_,[],h=>h.elim
theorem shape_ready {opsR ops:Array Oper} (h:sameShape opsR.toList ops.toList) (listed:Array Bool):Region.ready .any opsR listed=Region.ready .any ops listed:=by
 obtain⟨h1,h2⟩:=sameShape_get h;unfold Region.ready;have hs:ops.size=opsR.size:=by simpa using h1
 rw[hs];refine List.filter_congr fun i _=> ?_
 congr 1
 rcases h2 i with ⟨k1,k2⟩ | ⟨o,o',k1,k2,_,_,k3⟩
 · rw[Array.getElem?_toList] at k1 k2;rw[k1,k2]
 · rw[Array.getElem?_toList] at k1 k2;rw[k1,k2];simp[k3]
theorem shape_op (h:sameShape opsR.toList ops.toList) (hi:opsR[i]? =ops[i]?) (hw:wpOp P ops Q i J a w):wpOp P opsR Q i J a w:=by
 obtain⟨h1,h2⟩:=sameShape_get h
 have hy:∀ tmps,yielded opsR tmps=yielded ops tmps:=by
   intro tmps;funext j;unfold yielded
   have:(opsR[j]?).bind (·.dst)=(ops[j]?).bind (·.dst):=by
     rcases h2 j with ⟨k1,k2⟩ | ⟨o,o',k1,k2,k3,_,_⟩
     · rw[Array.getElem?_toList] at k1 k2;rw[k1,k2]
     · rw[Array.getElem?_toList] at k1 k2;rw[k1,k2];simp[k3]
   rw[this]
 unfold wpOp at hw ⊢;rw[hi,hy];exact hw
theorem regionG (hm:P.follows .mixedOrders=true) {X:Nat×AOp->Prop} {id:Nat} {opsR:Array Oper} {draw:Bool} {ov:Ovs} {st st':St} {rs:List Rec} {𝓡:Array Bool->(Nat->Nat)->(Nat->Prop)->St->Act->World->Prop} {O:Rec->Prop} {ρ:Nat->Nat} {D:Nat->Prop} {a:Act} {w:World}
   (he:aregionG T K ops draw ov st=some (st',rs)) (hO:∀ r∈rs,O r) (hsh:sameShape opsR.toList ops.toList) (hX:∀ p∈annot 0 ops.toList ov st.h.length,X p) (hD:∀ l,D l->l<st.h.length)
   (R0:∀ w',(w'=w\/w'={ w with drawn:=w.drawn+1 })->𝓡 (Array.replicate ops.size false) ρ D ⟨st.σ,st.h++List.replicate (news ops.toList) none⟩ a w')
   (hQ:∀ listed ρ' D' a' w',𝓡 listed ρ' D' st' a' w'->(∀ i,i<ops.size->listed.getD i false=true)->Q .normal a' w')
   (hstep:∀ listed i x st st1 r a w ρ D,𝓡 listed ρ D st a w->listed.size=ops.size->i<ops.size->listed.getD i false=false->(∀ o,ops[i]? =some o->∀ e∈o.after.toList,Region.binds .any e=true->listed.getD e.on false=true)->ops[i]? =some x.o->(newOp x.o.op=true->st.h[x.nid]? =some none/\¬ D x.nid)->arun1 T K ops i x st=some (st1,r)->O r->X (i,x)->(∃ rest rs1,arun T K ops rest st1=some (st',rs1)/\∀ p∈rest,p.1≠i/\listed.getD p.1 false=false/\ops[p.1]? =some p.2.o)->
     wpOp P opsR Q i (fun a' w'=>∃ ρ' D',𝓡 (listed.setIfInBounds i true) ρ' D' st1 a' w'/\∀ l,D' l->D l\/l=x.nid/\newOp x.o.op=true) a w):
   (Code.region id opsR draw).wp P Q a w:=by
 unfold aregionG at he
 split at he
 · rename_i st2 rs2 hrun
   split at he
   · rename_i hc
     injection he with he;simp only[Prod.mk.injEq] at he;obtain⟨rfl,rfl⟩:=he;rw[Bool.and_eq_true] at hc;obtain⟨hnid,hap⟩:=annot_nid ops.toList 0 ov st.h.length
     have hpend:Pend D (st.h++List.replicate (news ops.toList) none) (annot 0 ops.toList ov st.h.length):=by
       refine⟨fun p hp hn=> ?_,hap⟩;obtain⟨h1,h2⟩:=hnid p hp hn;refine⟨?_,fun h=> ?_⟩
       · rw[List.getElem?_append_right h1,List.getElem?_replicate,if_pos (by omega)]
       · have:=hD _ h;omega
     have hops:∀ p∈annot 0 ops.toList ov st.h.length,ops[p.1]? =some p.2.o:=by
       intro p hp;obtain⟨k,h1,h2⟩:=annot_mem _ _ _ _ p hp;rw[h1,Nat.zero_add];simpa using h2
     have hsz:opsR.size=ops.size:=by have:=(sameShape_get hsh).1;simpa using this.symm
     cases draw with
     | false=>
       refine wp_region ?_
       have:=arun_seqG (P:=P) (Q:=Q) (opsR:=opsR) hc.1 hQ hstep (annot 0 ops.toList ov st.h.length) 0 (Array.replicate ops.size false) ρ D ⟨st.σ,st.h++List.replicate (news ops.toList) none⟩ a w rs2 (by simp) (fun i hi=>by simp[Array.getD,hi])
         (by rw[annot_fst,annot_length]) (by rw[annot_length];simp) (R0 w (.inl rfl)) hrun hO hpend hops hX
       rw[annot_fst] at this;rw[hsz,List.range_eq_range'];simpa using this
     | true=>
       refine wp_region_any hm ?_;have hp:pairsOK ops (befs [] ops.toList) rs2=true:=by simpa using hc.2
       rw[hsz];refine any_orderG (P:=P) (X:=X) hc.1 (shape_ready hsh) hQ hstep ops.size _ (annot 0 ops.toList ov st.h.length) rs2 ⟨st.σ,st.h++List.replicate (news ops.toList) none⟩ a _ ρ D (by rw[annot_length];simp) ?_
       exact {
         rel:=R0 _ (.inr rfl)
         run:=hrun
         obs:=hO
         pend:=hpend
         size:=by simp
         mem:=fun i hi=>⟨fun _=>by have:=annot_all ops.toList 0 ov st.h.length i (by simpa using hi);simpa using this,fun _=>by simp[Array.getD,hi]⟩
         all:=hX
         sorted:=annot_sorted _ _ _ _
         ops_:=hops
         closed:=fun k o hk hl=>by
           have:=(Array.getElem?_eq_some_iff.1 hk).1;simp[Array.getD,this] at hl
         pairs:=pairsOK_spec hp }
   · cases he
 · cases he
end
structure Base where
 S:Nat->Prop
 C:Nat->Prop
 w:World
section
variable {P:Program} {T:TT} {K:KT} {ops:Array Oper} {f:FuncId} {S0 C0:Nat->Prop} {w0:World} {Post:Value->World->Prop}
theorem arun1_put (h:arun1 T K ops i x st=some (st1,r)):∃ V,st1.σ=put st.σ x.o.dst V:=by
 unfold arun1 at h
 split at h
 · split at h
   · injection h with h;simp only[Prod.mk.injEq] at h;exact⟨_,by rw[<- h.1]⟩
   · cases h
 · injection h with h;simp only[Prod.mk.injEq] at h;exact⟨_,by rw[<- h.1]⟩
 · cases h
theorem arun_keep:∀ {xs:List (Nat×AOp)} {st st':St} {rs:List Rec} {t:Nat},arun T K ops xs st=some (st',rs)->(∀ p∈xs,p.2.o.dst≠some t)->st'.σ.getD t .any=st.σ.getD t .any
 | [],st,st',rs,t,h,_=>by simp only[arun] at h;injection h with h;simp only[Prod.mk.injEq] at h;rw[h.1]
 | (i,x)::xs,st,st',rs,t,h,hx=>by
   obtain⟨st1,r,rs1,h1,h2,rfl⟩:=arun_cons.1 h;rw[arun_keep h2 (fun p hp=>hx p (by simp[hp]))];obtain⟨V,hV⟩:=arun1_put h1;rw[hV,put_get (hx (i,x) (by simp))]
theorem Good.regionX (hm:P.follows .mixedOrders=true) (hT:TOK P T) (hK:KOK P K) {id:Nat} {opsR:Array Oper} {draw:Bool} {ov:Ovs} {st st':St} {rs:List Rec} {todo:List Item} (iX:Nat) {oX:Oper} {V:AV} {B B':Base->Prop} {args:List (Nat×AV)}
   (he:aregionG T K ops draw ov st=some (st',rs)) (hO:∀ r∈rs,r.i≠iX->AllP r.ob) (hsh:sameShape opsR.toList ops.toList) (hne:∀ i,i≠iX->opsR[i]? =ops[i]?)
   (hoX:opsR[iX]? =some oX) (hg:oX.guard=none) (hop:ops[iX]? =some { oX with op:=.move (.const undef) }) (hV:∀ x,(iX,x)∈annot 0 ops.toList ov st.h.length->x.ov=some V\/oX.dst=none)
   (hargs:∀ p∈args,st'.σ.getD p.1 .any=p.2/\∀ (j:Nat) (o:Oper),ops[j]? =some o->o.dst=some p.1->∃ e∈oX.after.toList,e.on=j/\Region.binds .any e=true)
   (hX:∀ (Q:Exit->Act->World->Prop) β ρ D σ h a w,B β->Rel β.S β.C β.w ρ D ⟨σ,h⟩ a w->(∀ p∈args,σ.getD p.1 .any=p.2)->wpOp P opsR Q iX (fun a' w'=>∃ β',B' β'/\Rel β'.S β'.C β'.w ρ D ⟨put σ oX.dst V,h⟩ a' w') a w)
   (hB:B ⟨S0,C0,w0⟩) (hgood:∀ β,B' β->Good P f β.S β.C β.w Post todo st'):Good P f S0 C0 w0 Post (.code (.region id opsR draw)::todo) st:=by
 intro ρ D a w R b cs hb hk
 have key:(Code.region id opsR draw).wp P (fun e a' w'=>e=Exit.normal/\∃ β ρ' D',B' β/\Rel β.S β.C β.w ρ' D' st' a' w') a w:=by
   have hXin:ops[iX]? ≠none:=by rw[hop];simp
   have hXlt:iX<ops.size:=by
     rcases Nat.lt_or_ge iX ops.size with h | h
     · exact h
     · exact absurd (Array.getElem?_eq_none h) hXin
   refine regionG (ρ:=ρ) hm (X:=fun p=>p∈annot 0 ops.toList ov st.h.length) (𝓡:=fun listed ρ D st a w=>∃ β:Base,(if listed.getD iX false=true then B' β else B β)/\Rel β.S β.C β.w ρ D st a w) (O:=fun r=>r.i≠iX->AllP r.ob) (T:=T) (K:=K) (ops:=ops)
     he hO hsh (fun p hp=>hp) R.dlt ?_ ?_ ?_
   · intro w' hw'
     refine⟨⟨S0,C0,w0⟩, ?_, ?_⟩
     · rw[if_neg (by simp[Array.getD,hXlt])];exact hB
     · rcases hw' with rfl | rfl
       · exact R.more _
       · exact(R.more _).draw
   · intro listed ρ' D' a' w' h hall
     obtain⟨β,h1,h2⟩:=h;rw[if_pos (hall iX hXlt)] at h1;exact⟨rfl,β,ρ',D',h1,h2⟩
   · intro listed i x st2 st1 r a2 w2 ρ2 D2 h hsz hi hun hed hox hfresh h1 hOr hxin hrest
     obtain⟨β,hβ,R2⟩:=h
     by_cases hiX:i=iX
     · subst hiX
       rw[if_neg (by rw[hun];simp)] at hβ;have hxo:x.o={ oX with op:=.move (.const undef) }:=by rw[hop] at hox;injection hox with hox;exact hox.symm
       have hst1:st1=⟨put st2.σ oX.dst V,st2.h⟩:=by
         have hov:=hV x hxin;unfold arun1 awant outOf opArgs at h1;rw[hxo] at h1;simp only[hg,Op.operands,List.map_cons,List.map_nil,aev,val] at h1;injection h1 with h1;simp only[Prod.mk.injEq] at h1;rw[<- h1.1];rcases hov with hov | hov
         · simp only[hov,withOv];rfl
         · simp only[hov];rfl
       obtain⟨rest,rs1,hr1,hr2⟩:=hrest
       have hA:∀ p∈args,st2.σ.getD p.1 .any=p.2:=by
         intro p hp;obtain⟨g1,g2⟩:=hargs p hp
         have hnot:∀ (j:Nat) (o:Oper),ops[j]? =some o->o.dst=some p.1->listed.getD j false=true:=by
           intro j o hj hd;obtain⟨e,e1,e2,e3⟩:=g2 j o hj hd
           have:=hed _ hop e e1 e3
           rwa [e2] at this
         have k1:st'.σ.getD p.1 .any=st1.σ.getD p.1 .any:=arun_keep hr1 fun q hq hd=>by
           obtain⟨q1,q2,q3⟩:=hr2 q hq
           have:=hnot q.1 q.2.o q3 hd;rw[q2] at this;cases this
         have k2:oX.dst≠some p.1:=fun hd=>by
           have:=hnot i _ hop hd;rw[hun] at this;cases this
         rw[<- g1,k1,hst1];exact(put_get k2).symm
       refine wpOp_mono ?_ (hX _ β ρ2 D2 st2.σ st2.h a2 w2 hβ R2 hA);rintro a' w' ⟨β',b1,b2⟩;refine⟨ρ2,D2,⟨β', ?_,by rw[hst1];exact b2⟩,fun l hl=>.inl hl⟩;rw[if_pos (by simp[getD_setA,hsz,hi])];exact b1
     · refine shape_op hsh (hne i hiX) (wpOp_mono ?_ (arun1_ok hT hK R2 hox hfresh h1 (hOr ?_)))
       · rintro a' w' ⟨ρ',D',R',hD'⟩
         refine⟨ρ',D',⟨β, ?_,R'⟩,hD'⟩;have:(listed.setIfInBounds i true).getD iX false=listed.getD iX false:=by simp[getD_setA,hiX]
         rw[this];exact hβ
       · have:r.i=i:=by
           unfold arun1 at h1
           split at h1
           · split at h1
             · injection h1 with h1;simp only[Prod.mk.injEq] at h1;rw[<- h1.2]
             · cases h1
           · injection h1 with h1;simp only[Prod.mk.injEq] at h1;rw[<- h1.2]
           · cases h1
         rw[this];exact hiX
 obtain⟨e,a',w',⟨rfl,β,ρ',D',hβ,R'⟩,harr⟩:=key b _ cs;obtain⟨v,w2,fr,h1,h2,h3⟩:=hgood β hβ ρ' D' a' w' R' b cs hb hk;exact⟨v,w2,fr,h1,Steps.trans harr h2,h3⟩
end
end Go.Av
namespace Go.Av
open Go.RowKit Go.MapKept
def isCap:AV->Bool
 | .agg _ | .tup _=>false
 | c=>wd c==1
section
variable {P:Program} {S0 C0:Nat->Prop} {w0 w:World} {ρ:Nat->Nat} {D:Nat->Prop} {σ:List AV} {h:List (Option ABlk)} {a:Act}
theorem wpOp_call {opsR:Array Oper} {Q:Exit->Act->World->Prop} {iX:Nat} {oX:Oper} {c:Call} {g:Operand} {f:FuncId} {caps:List AV} (R:Rel S0 C0 w0 ρ D ⟨σ,h⟩ a w) (hoX:opsR[iX]? =some oX) (hg:oX.guard=none)
   (hop:oX.op= .call c) (hc:c.callee= .value g) (hgv:aval σ g= .fn f caps) (hn:((c.args.toList.map (aval σ)).all noRefV&&caps.all noRefV&&caps.all isCap)=true) (hb:HasBody P f) {J:Value->World->Prop}
   (hcall:∀ vals,RelVs ρ0 (Sof S0 ρ h) w No (c.args.toList.map (aval σ)++caps) vals->Calls P f vals.toArray w fun e w'=>∃ v,e= .returned v/\J v w'):
   wpOp P opsR Q iX (fun a' w'=>∃ v,J v w'/\a'=a.put oX.dst v) a w:=by
 unfold wpOp;rw[hoX];simp only[Region.wanted,hg,if_true];refine .inl ?_;rw[Bool.and_eq_true,Bool.and_eq_true] at hn;obtain⟨⟨hn1,hn2⟩,hones⟩:=hn;have hgR:=R.eval g;simp only[hgv] at hgR;have h':RelCs ρ (Sof S0 ρ h) w D [.fn f caps] [a.eval g]:=hgR
 have hv:∃ cvs:List Value,a.eval g= .func (.func f) #[] cvs.toArray/\RelCs ρ (Sof S0 ρ h) w D caps cvs:=by
   generalize a.eval g=v at h';cases h' with
   | fn h _=>exact⟨_,rfl,h⟩
 obtain⟨cvs,hv,hcv⟩:=hv
 have hcaps:∀ (caps:List AV) (cvs:List Value),caps.all noRefV=true->caps.all isCap=true->RelCs ρ (Sof S0 ρ h) w D caps cvs->RelVs ρ0 (Sof S0 ρ h) w No caps cvs:=by
   intro caps
   induction caps with
   | nil=>intro cvs _ _ hcv;cases hcv;trivial
   | cons c cs ih=>
     intro cvs hn2 hones hcv;simp only[List.all_cons,Bool.and_eq_true] at hn2 hones;obtain⟨g1,g2⟩:=hcv.cut1
     have hw:wd c=1:=by
       have:=hones.1;cases c <;> simp_all [isCap,wd]
     rw[hw] at g1 g2
     match cvs,g1,g2 with
     | [],g1,_=>exact absurd g1.wds_eq (by simp[wds,hw])
     | v::vs,g1,g2=>exact⟨RelV0.noRef (RelV_one g1) hn2.1 ρ0,ih vs hn2.2 hones.2 g2⟩
 have hmap:c.args.map a.eval=(c.args.toList.map a.eval).toArray:=by apply Array.ext';simp
 have hrun:(execOp a.eval oX).run P w= .ok (.enter f (c.args.toList.map a.eval++cvs).toArray) w:=by
   rw[execOp,hop];simp only[resolve,hc,hv,Deferred.ofValue,Sem.run_bind,Sem.run_pure,Result.andThen_ok,invoke];rw[enter_run hb]
   congr 2
   rw[hmap];simp
 unfold Oper.wp;rw[hrun,Oper.upon_enter];refine(hcall _ ((vs_noRef R _ hn1).app (hcaps _ _ hn2 hones hcv))).mono ?_;rintro e w' ⟨v,rfl,hJ⟩;exact⟨v,hJ,rfl⟩
theorem wpOp_run (hoX:opsR[iX]? =some oX) (hg:oX.guard=none) (hrun:(execOp a.eval oX).run P w= .ok (.value v) w') (hJ:J (a.put oX.dst v) w'):
   wpOp P opsR Q iX J a w:=by
 unfold wpOp;rw[hoX];simp only[Region.wanted,hg,if_true];refine .inl ?_;unfold Oper.wp;rw[hrun];exact hJ
theorem wpOp_skip (hoX:opsR[iX]? =some oX) (hg:oX.guard=none) (hrun:(execOp a.eval oX).run P w= .ok .skip w') (hJ:J (a.put oX.dst undef) w'):
   wpOp P opsR Q iX J a w:=by
 unfold wpOp;rw[hoX];simp only[Region.wanted,hg,if_true];refine .inl ?_;unfold Oper.wp;rw[hrun];exact hJ
theorem Chg.mono (h:Chg X w w') (k:∀ i,X i->Y i):Chg Y w w':=⟨h.os,h.tape,h.output,h.size,fun i hi hn=>h.block i hi fun hx=>hn (k i hx),h.row⟩
def ownC (ρ:Nat->Nat) (h:List (Option ABlk)):Nat->Prop:=fun k=>∃ l b,h[l]? =some (some b)/\ρ l=k
theorem Rel.rebase (R:Rel S0 C0 w0 ρ D st a w) (hC:∀ k,ownC ρ st.h k->C1 k):Rel S0 C1 w ρ D st a w:=
 { R with
   chg:=Chg.refl _ _
   mine:=fun l b hb=>⟨.inl (hC _ ⟨l,b,hb,rfl⟩),(R.mine l b hb).2⟩ }
theorem Rel.turn (R:Rel S0 C0 w0 ρ D ⟨σ,h⟩ a w) (hc:Chg X w w') (hX:∀ k,X k->S0 k) (hv:dst=none\/RelV ρ (Sof S0 ρ h) w' D V v):
   Rel S0 (ownC ρ h) w' ρ D ⟨put σ dst V,h⟩ (a.put dst v) w':=by
 have R1:Rel S0 (fun k=>ownC ρ h k\/X k) w ρ D ⟨σ,h⟩ a w:=R.rebase fun k hk=>.inl hk
 have hk:Keep ρ (Sof S0 ρ h) w D ρ (Sof S0 ρ h) w':=
   ⟨hc.size,fun l hl=>⟨rfl,hc.row _⟩,fun k hk hs=>⟨hs,hc.block k hk fun hx=>hs (.inl (hX k hx))⟩⟩
 have hheap:∀ l b,h[l]? =some (some b)->D l/\RelB ρ (Sof S0 ρ h) w' D l b:=by
   intro l b hb;obtain⟨h1,h2⟩:=R.heap l b hb;obtain⟨arr,h3,h4⟩:=h2;refine⟨h1,RelB.keep ⟨arr,h3,h4⟩ (fun _ h=>h) hk rfl (hc.block _ (heap_lt h3) fun hx=>(R.mine l b hb).2.1 (hX _ hx))⟩
 have base:∀ V v,RelV ρ (Sof S0 ρ h) w' D V v->Rel S0 (ownC ρ h) w' ρ D ⟨put σ dst V,h⟩ (a.put dst v) w':=fun V v hv=>
   (R1.step (h':=h) hk (fun _ h=>h) hv hheap R.inj R.dlt (hc.mono fun k hk=>.inr hk) (fun l b hb=>⟨.inl (.inl ⟨l,b,hb,rfl⟩),(R.mine l b hb).2⟩)).rebase fun k hk=>hk
 rcases hv with rfl | hv
 · exact base .any undef trivial
 · exact base V v hv
def Memo (F:Nat->List AV) (n:Nat) (S:Nat->Prop) (w:World) (r:Nat):Prop:=
 ∃ es clk,w.heap[r]? =some (.map es clk)/\es.size=n/\∀ j e,es[j]? =some e->e.key= .int .i64 ((j:Nat):Int)/\∃ vs:List Value,e.val= .agg vs.toArray/\RelCs ρ0 S w No (F j) vs
theorem Memo.keep {F:Nat->List AV} {n r:Nat} {S S':Nat->Prop} {w':World} (M:Memo F n S w r) (hs:w.heap.size<=w'.heap.size) (hr:w'.heap[r]? =w.heap[r]?) (hk:∀ k,k<w.heap.size->¬ S k->¬ S' k/\w'.heap[k]? =w.heap[k]?):Memo F n S' w' r:=by
 obtain⟨es,clk,h1,h2,h3⟩:=M;refine⟨es,clk,by rw[hr];exact h1,h2,fun j e he=> ?_⟩;obtain⟨k1,vs,k2,k3⟩:=h3 j e he;exact⟨k1,vs,k2,k3.keep _ (fun _ h=>h) ⟨hs,fun l h=>h.elim,hk⟩⟩
theorem Memo.look {F:Nat->List AV} {n r mt kt et i:Nat} {S:Nat->Prop} (M:Memo F n S w r) (hm:P.underlying mt=some (.map kt et)) (hk:P.underlying kt=some (.int .i64)) (hi:i<n):
   ∃ vs:List Value,(∀ ok,(Instr.lookup mt (.map (some r)) (.int .i64 ((i:Nat):Int)) ok).run P w= .ok (if ok then .tuple #[.agg vs.toArray,.bool true] else .agg vs.toArray) w)/\RelCs ρ0 S w No (F i) vs:=by
 obtain⟨es,clk,h1,h2,h3⟩:=M;have hkey:IsKey (.int .i64) (.int .i64 ((i:Nat):Int)):=by simp[IsKey]
 have hks:∀ x∈es.toList,IsKey (.int .i64) x.key:=fun x hx=>by
   obtain⟨j,hj⟩:=List.mem_iff_getElem?.1 hx;rw[(h3 j x (by simpa using hj)).1];simp[IsKey]
 rcases findNow_spec hkey es.toList 0 hks with ⟨k1,k2⟩ | ⟨j,e,k1,k2,k3⟩
 · exfalso
   have hlt:i<es.size:=by omega
   have:=k2 es[i] (by simp);exact this (h3 i es[i] (by simp[hlt])).1
 · obtain⟨g1,vs,g2,g3⟩:=h3 j e (by simpa using k2)
   have hij:j=i:=by rw[g1] at k3;injection k3 with _ k3;omega
   subst hij;refine⟨vs,fun ok=> ?_,g3⟩;cases ok <;> simp[Instr.lookup,run_underlying hm,Result.andThen,MapKept.run_getObj_map h1,run_checkKey hk hkey,run_findKey hk k1,g2]
theorem Memo.miss {F:Nat->List AV} {n r mt kt et i:Nat} {S:Nat->Prop} (M:Memo F n S w r) (hm:P.underlying mt=some (.map kt et)) (hk:P.underlying kt=some (.int .i64)) (hi:n<=i) {z:Value} (hz:(zeroValue et).run P w= .ok z w):
   (Instr.lookup mt (.map (some r)) (.int .i64 ((i:Nat):Int)) true).run P w= .ok (.tuple #[z,.bool false]) w:=by
 obtain⟨es,clk,h1,h2,h3⟩:=M;have hkey:IsKey (.int .i64) (.int .i64 ((i:Nat):Int)):=by simp[IsKey]
 have hks:∀ x∈es.toList,IsKey (.int .i64) x.key:=fun x hx=>by
   obtain⟨j,hj⟩:=List.mem_iff_getElem?.1 hx;rw[(h3 j x (by simpa using hj)).1];simp[IsKey]
 rcases findNow_spec hkey es.toList 0 hks with ⟨k1,k2⟩ | ⟨j,e,k1,k2,k3⟩
 · simp[Instr.lookup,run_underlying hm,Result.andThen,MapKept.run_getObj_map h1,run_checkKey hk hkey,run_findKey hk k1,hz]
 · exfalso
   obtain⟨g1,_⟩:=h3 j e (by simpa using k2);have hjl:j<es.size:=by have:=(List.getElem?_eq_some_iff.1 k2).1;simpa using this
   rw[g1] at k3;injection k3 with _ k3;omega
theorem Memo.upd {F:Nat->List AV} {n r mt kt et:Nat} {S:Nat->Prop} (M:Memo F n S w r) (hm:P.underlying mt=some (.map kt et)) (hk:P.underlying kt=some (.int .i64)) {vs:List Value} (hv:RelCs ρ0 S w No (F n) vs) (hS:S r):
   ∃ w',(Instr.mapUpdate mt (.map (some r)) (.int .i64 ((n:Nat):Int)) (.agg vs.toArray)).run P w= .ok () w'/\Chg (· =r) w w'/\Memo F (n+1) S w' r:=by
 obtain⟨es,clk,h1,h2,h3⟩:=M;have hkey:IsKey (.int .i64) (.int .i64 ((n:Nat):Int)):=by simp[IsKey]
 have hks:∀ x∈es.toList,IsKey (.int .i64) x.key:=fun x hx=>by
   obtain⟨j,hj⟩:=List.mem_iff_getElem?.1 hx;rw[(h3 j x (by simpa using hj)).1];simp[IsKey]
 rcases findNow_spec hkey es.toList 0 hks with ⟨k1,k2⟩ | ⟨j,e,k1,k2,k3⟩
 · have hc:=heap_set (o':=.map (es.push ⟨.int .i64 ((n:Nat):Int),.agg vs.toArray,clk⟩) (clk+1)) h1
   have hrt:=heap_lt h1
   have hchg:Chg (· =r) w { w with heap:=w.heap.setIfInBounds r (.map (es.push ⟨.int .i64 ((n:Nat):Int),.agg vs.toArray,clk⟩) (clk+1)) }:=
     ⟨rfl,rfl,rfl,by simp,fun k _ hk=>hc.2 k hk,fun k arr ty ha=>⟨arr,ty,by
       have:k≠r:=fun e=>by rw[e,h1] at ha;cases ha
       simp only[hc.2 k this];exact ha,Nat.le_refl _⟩⟩
   refine⟨_, ?_,hchg,_,_,hc.1,by simp[h2],fun j e he=> ?_⟩
   · simp[Instr.mapUpdate,run_underlying hm,MapKept.run_getObj_map h1,run_checkKey hk hkey,run_findKey hk k1,MapKept.run_setObj_map _ h1,Result.andThen]
   · have kp:∀ {cs:List AV} {us:List Value},RelCs ρ0 S w No cs us->RelCs ρ0 S { w with heap:=w.heap.setIfInBounds r (.map (es.push ⟨.int .i64 ((n:Nat):Int),.agg vs.toArray,clk⟩) (clk+1)) } No cs us:=
       fun hcs=>hcs.keep _ (fun _ h=>h) ⟨hchg.size,fun l h=>h.elim,fun k _ hs=>⟨hs,hc.2 k fun e=>hs (e▸hS)⟩⟩
     rw[Array.getElem?_push] at he
     split at he
     · rename_i hj
       injection he with he;subst he;exact⟨by rw[hj,h2],vs,rfl,by rw[hj,h2];exact kp hv⟩
     · obtain⟨g1,us,g2,g3⟩:=h3 j e he
       exact⟨g1,us,g2,kp g3⟩
 · exfalso
   obtain⟨g1,_⟩:=h3 j e (by simpa using k2);have hjl:j<es.size:=by have:=(List.getElem?_eq_some_iff.1 k2).1;simpa using this
   rw[g1] at k3;injection k3 with _ k3;omega
end
end Go.Av
namespace Go.Av
open Go.Proofs Go.RowKit
def poseE (m:MachD) (n:Nat):Int:=if checkE m=0 then (if ((n:Nat):Int)=((m.bodies.length:Nat):Int)-1 then 0 else 2) else checkE m
def k21:KF
 | [.agg [.str mn,.list 27 XB,.list 17 XS,.list 17 XT,.list 13 XD,.list 5 XF],.agg [.q ax A1,.q az A2,.q tu A3,.list 3 J]]=>some (.int .i64 (poseE (reMach [AV.str mn,AV.list 27 XB,AV.list 17 XS,AV.list 17 XT,AV.list 13 XD,AV.list 5 XF]) J.length),[[AV.str mn,AV.list 27 XB,AV.list 17 XS,AV.list 17 XT,AV.list 13 XD,AV.list 5 XF]=unMach 300 (reMach [AV.str mn,AV.list 27 XB,AV.list 17 XS,AV.list 17 XT,AV.list 13 XD,AV.list 5 XF]),(reMach [AV.str mn,AV.list 27 XB,AV.list 17 XS,AV.list 17 XT,AV.list 13 XD,AV.list 5 XF]).small,J.length<=4611686018427387904,XB.length<=4611686018427387904])
 | _=>none
theorem a21:Ctr 21 k21:=by
 refine ctr Tryz.f21 fun _ _ _ S w0 h ho=> ?_
 unfold k21 at h;split at h <;> cases h;rename_i mn XB XS XT XD XF ax A1 az A2 tu A3 J;obtain⟨o1,o2,o3,o4⟩:=ho.e4;have K:=kn.cons a103;have hb:((reMach [AV.str mn,AV.list 27 XB,AV.list 17 XS,AV.list 17 XT,AV.list 13 XD,AV.list 5 XF]).bodies.length:Int)=((XB.length:Nat):Int):=by simp[reMach]
 by_cases h1:(checkE (reMach [(AV.str mn),(AV.list 27 XB),(AV.list 17 XS),(AV.list 17 XT),(AV.list 13 XD),(AV.list 5 XF)]))=(0:Int)
 · by_cases h2:((J.length:Nat):Int)=(((XB.length:Nat):Int)-(1:Int))
   · exact rF K [(9,ff),(17,.i6 ((XB.length:Int)-(1:Int))),(18,ff)] (.a5 o1 o2 (jF h1) (wI ((XB.length:Int)-(1:Int)) ((XB.length:Int)-(1:Int)) (by omega)) (jF h2)) (V:=.i6 (0:Int)) (Ref.int (by unfold poseE;rw[if_pos h1,hb,if_pos h2]))
   · exact rF K [(9,ff),(17,.i6 ((XB.length:Int)-(1:Int))),(18,tt)] (.a5 o1 o2 (jF h1) (wI ((XB.length:Int)-(1:Int)) ((XB.length:Int)-(1:Int)) (by omega)) (jT h2)) (V:=.i6 (2:Int)) (Ref.int (by unfold poseE;rw[if_pos h1,hb,if_neg h2]))
 · exact rF K [(9,tt)] (.a3 o1 o2 (jT h1)) (V:=.i6 (checkE (reMach [.str mn,.list 27 XB,.list 17 XS,.list 17 XT,.list 13 XD,.list 5 XF]))) (Ref.int (by unfold poseE;rw[if_neg h1]))
end Go.Av
namespace Go.Av
open Go.RowKit
structure FrameD where
 at_:PtD
 c:Rat
 s:Rat
 deriving Inhabited
def unF (e:Nat) (f:FrameD):List AV:=[.q f.at_.x (2*e),.q f.at_.z (2*e),.q f.c e,.q f.s e]
def regId:Code->Nat
 | .region i _ _=>i
 | _=>0
def regOps:Code->Array Oper
 | .region _ o _=>o
 | _=> #[]
def regDraw:Code->Bool
 | .region _ _ d=>d
 | _=>false
def psOp (o:Oper):Oper:={ o with op:=.move (.const undef) }
def setPs:Nat->List Oper->List Oper
 | _,[]=>[]
 | 0,o::os=>psOp o::os
 | i+1,o::os=>o::setPs i os
theorem setPs_shape:∀ (i:Nat) (os:List Oper),sameShape os (setPs i os)
 | i,[]=>by cases i <;> trivial
 | 0,o::os=>⟨rfl,rfl,rfl,shape_refl os⟩
 | i+1,o::os=>⟨rfl,rfl,rfl,setPs_shape i os⟩
where shape_refl:∀ os:List Oper,sameShape os os
 | []=>trivial
 | o::os=>⟨rfl,rfl,rfl,shape_refl os⟩
theorem setPs_ne:∀ (i j:Nat) (os:List Oper),j≠i->(setPs i os)[j]? =os[j]?
 | i,_,[],_=>by cases i <;> rfl
 | 0,j+1,o::os,_=>by simp[setPs]
 | i+1,0,o::os,_=>by simp[setPs]
 | i+1,j+1,o::os,h=>by simpa[setPs] using setPs_ne i j os (by omega)
 | 0,0,_::_,h=>absurd rfl h
theorem setPs_eq:∀ (i:Nat) (os:List Oper) (o:Oper),os[i]? =some o->(setPs i os)[i]? =some (psOp o)
 | _,[],_,h=>by simp at h
 | 0,o::os,o',h=>by simp at h;subst h;simp[setPs]
 | i+1,o::os,o',h=>by simpa[setPs] using setPs_eq i os o' (by simpa using h)
def ovAt (i:Nat):List (Nat×AOp)->Option AV
 | []=>none
 | (j,x)::r=>if j=i then x.ov else ovAt i r
theorem ovAt_eq:∀ {l:List (Nat×AOp)} {i:Nat} {x:AOp},l.Pairwise (fun p q=>p.1<q.1)->(i,x)∈l->ovAt i l=x.ov
 | (j,y)::r,i,x,hs,h=>by
   rcases List.mem_cons.1 h with h | h
   · injection h with h1 h2;subst h1;subst h2;simp[ovAt]
   · have:=(List.pairwise_cons.1 hs).1 _ h
     simp at this;rw[ovAt,if_neg (by omega),ovAt_eq (List.pairwise_cons.1 hs).2 h]
 | [],_,_,_,h=>by simp at h
def obsBut (i:Nat):List Rec->List Prop
 | []=>[]
 | r::rs=>(if r.i=i then [] else r.ob)++obsBut i rs
theorem obsBut_all {i:Nat}:∀ {rs:List Rec},AllP (obsBut i rs)->∀ r∈rs,r.i≠i->AllP r.ob
 | r ::rs,h,q,hq,hn=>by
   rcases List.mem_cons.1 hq with rfl | hq
   · have:=(AllP.app h).1
     rwa [if_neg hn] at this
   · exact obsBut_all (AllP.app h).2 q hq hn
 | [],_,_,hq,_=>by simp at hq
def aheadOK (ops:List Oper) (o:Oper) (ts:List Nat):Bool:=
 ts.all fun t=>(List.range ops.length).all fun j=>match ops[j]? with
   | some q=>if q.dst==some t then o.after.toList.any fun e=>e.on==j&&Region.binds .any e else true
   | none=>true
theorem aheadOK_spec {ops:List Oper} {o:Oper} {ts:List Nat} (h:aheadOK ops o ts=true):∀ t∈ts,∀ (j:Nat) (q:Oper),ops[j]? =some q->q.dst=some t->∃ e∈o.after.toList,e.on=j/\Region.binds .any e=true:=by
 intro t ht j q hj hd;have h1:=List.all_eq_true.1 h t ht;have h2:=List.all_eq_true.1 h1 j (List.mem_range.2 (List.getElem?_eq_some_iff.1 hj).1);simp only[hj,hd,beq_self_eq_true,if_true] at h2;obtain⟨e,e1,e2⟩:=List.any_eq_true.1 h2;rw[Bool.and_eq_true] at e2;exact⟨e,e1,by simpa using e2.1,e2.2⟩
section
variable {P:Program} {T:TT} {K:KT} {f:FuncId} {S0 C0:Nat->Prop} {w0:World} {Post:Value->World->Prop}
theorem Good.regX (hm:P.follows .mixedOrders=true) (hT:TOK P T) (hK:KOK P K) {c:Code} (iX:Nat) {oX:Oper} {dX:Option Nat} {V:AV} {ov:Ovs} {st:St} {σ':List AV} {h':List (Option ABlk)} {ob:List Prop} {todo:List Item} {B B':Base->Prop} (ts:List Nat)
   (hc:c= .region (regId c) (regOps c) (regDraw c)) (hoX:(regOps c).toList[iX]? =some oX) (hg:oX.guard=none) (hd:oX.dst=dX)
   (he:(aregionG T K (setPs iX (regOps c).toList).toArray (regDraw c) ov st).map (fun r=>(r.1.σ,r.1.h,obsBut iX r.2))=some (σ',h',ob)) (hob:AllP ob)
   (hV:dX=none\/ovAt iX (annot 0 (setPs iX (regOps c).toList) ov st.h.length)=some V) (hts:aheadOK (setPs iX (regOps c).toList) oX ts=true)
   (hX:∀ (Q:Exit->Act->World->Prop) β ρ D σ h a w,B β->Rel β.S β.C β.w ρ D ⟨σ,h⟩ a w->(∀ t∈ts,σ.getD t .any=σ'.getD t .any)->wpOp P (regOps c) Q iX (fun a' w'=>∃ β',B' β'/\Rel β'.S β'.C β'.w ρ D ⟨put σ dX V,h⟩ a' w') a w)
   (hB:B ⟨S0,C0,w0⟩) (hgood:∀ β,B' β->Good P f β.S β.C β.w Post todo ⟨σ',h'⟩):Good P f S0 C0 w0 Post (.code c::todo) st:=by
 subst hd;obtain⟨⟨st',rs⟩,h1,h2⟩:=Option.map_eq_some_iff.1 he;simp only[Prod.mk.injEq] at h2;obtain⟨rfl,rfl,rfl⟩:=h2;rw[hc]
 refine Good.regionX (ops:=(setPs iX (regOps c).toList).toArray) (args:=ts.map fun t=>(t,st'.σ.getD t .any)) hm hT hK iX (V:=V) (oX:=oX) h1 (obsBut_all hob) (by simpa using setPs_shape iX _) (fun i hi=>by
   have:=setPs_ne iX i (regOps c).toList hi
   simpa using this.symm) (by simpa using hoX) hg (by simpa[psOp] using setPs_eq iX _ _ hoX) (fun x hx=> ?_) ?_ ?_ hB hgood
 · rcases hV with h | h
   · exact .inr h
   · left
     have:=ovAt_eq (annot_sorted _ _ _ _) hx;simp only[List.toList_toArray] at this;rw[<- this];exact h
 · intro p hp
   obtain⟨t,ht,rfl⟩:=List.mem_map.1 hp;refine⟨rfl,fun j o hj hd=>aheadOK_spec hts t ht j o (by simpa using hj) hd⟩
 · intro Q β ρ D σ h a w hβ R hA
   exact hX Q β ρ D σ h a w hβ R fun t ht=>hA (t,st'.σ.getD t .any) (List.mem_map.2 ⟨t,ht,rfl⟩)
end
section
theorem calls_of (hf:P.funcs[f]? =some fn) (hb:fn.body=some c) (hS:∀ k,S k->k<w.heap.size) (hargs:RelVs ρ0 S w No args vals)
   (h:Good P f S No w Post [.code c] (st0 args fn.ntmps)):Calls P f vals.toArray w fun e w'=>∃ v,e= .returned v/\Post v w':=by
 intro cs
 let b:Frame:={ (default:Frame) with fn:=f,kind:=.normal }
 have hlen:∀ (us:List AV) (vs:List Value),RelVs ρ0 S w No us vs->vs.length=us.length:=by
   intro us
   induction us with
   | nil=>intro vs h;cases vs <;> first | rfl | exact h.elim
   | cons c us ih=>
     intro vs h;cases vs with
     | nil=>exact h.elim
     | cons v vs=>simp[ih vs h.2]
 have hget:∀ (us:List AV) (vs:List Value),RelVs ρ0 S w No us vs->∀ (i:Nat) (v:Value),vs[i]? =some v->RelV ρ0 S w No (us.getD i .any) v:=by
   intro us
   induction us with
   | nil=>intro vs h i v hv;cases vs <;> first | exact h.elim | simp at hv
   | cons c us ih=>
     intro vs h i v hv;cases vs with
     | nil=>exact h.elim
     | cons u vs=>
       cases i with
       | zero=>simp at hv;subst hv;exact RelV.of0 h.1
       | succ i=>exact ih vs h.2 i v (by simpa using hv)
 have hSof:Sof S ρ0 []=S:=by
   funext k;apply propext;unfold Sof;simp
 have R:Rel S No w ρ0 No (st0 args fn.ntmps) { tmps:=vals.toArray++Array.replicate (fn.ntmps-vals.toArray.size) undef,defers:=[] } w:={
   defers:=rfl
   len:=by simp[st0,hlen _ _ hargs]
   tmps:=by
     intro t v hv;simp only[st0,hSof];rcases Nat.lt_or_ge t vals.length with h | h
     · rw[Array.getElem?_append_left (by simpa using h)] at hv
       have h2:t<args.length:=by rw[<- hlen _ _ hargs];exact h
       have:=hget _ _ hargs t v (by simpa using hv);simpa[List.getD_eq_getElem?_getD,List.getElem?_append_left h2] using this
     · have h2:args.length<=t:=by rw[<- hlen _ _ hargs];exact h
       have:(args++List.replicate (fn.ntmps-args.length) AV.any).getD t .any= .any:=by
         simp only[List.getD_eq_getElem?_getD,List.getElem?_append_right h2,List.getElem?_replicate]
         split <;> rfl
       rw[this];trivial
   heap:=fun l b h=>by simp[st0] at h
   inj:=fun l l' b b' h=>by simp[st0] at h
   lt:=hS
   dlt:=fun l h=>h.elim
   chg:=Chg.refl _ _
   mine:=fun l b h=>by simp[st0] at h }
 obtain⟨v,w',fr,hP,hsteps,hfn,hleave⟩:=h ρ0 No _ w R b cs rfl rfl
 have henter:Frame.enter P f vals.toArray .normal=b.at { tmps:=vals.toArray++Array.replicate (fn.ntmps-vals.toArray.size) undef,defers:=[] } [.code c]:=by
   simp[Frame.enter,Frame.at,hf,hb,b]
 exact⟨.returned v,w',fr,⟨v,rfl,hP⟩,by rw[henter];exact hsteps,hfn,hleave⟩
theorem Rel.called (R:Rel S0 C0 w0 ρ D ⟨σ,h⟩ a w) (hchg:Chg No w w') (hv:RelV ρ (Sof S0 ρ h) w' D V v):Rel S0 C0 w0 ρ D ⟨put σ dst V,h⟩ (a.put dst v) w':=by
 have hb:=hchg.below
 have hk:Keep ρ (Sof S0 ρ h) w D ρ (Sof S0 ρ h) w':=
   ⟨hchg.size,fun l hl=>⟨rfl,fun arr ty h=>⟨arr,ty,by rw[hb.block _ (lt_of_heap h)];exact h,Nat.le_refl _⟩⟩,fun k hk hs=>⟨hs,hb.block k hk⟩⟩
 refine R.step hk (fun _ h=>h) hv ?_ R.inj R.dlt (R.chg.trans hchg (fun _ _ h=>h.elim)) R.mine;intro l b hlb;obtain⟨hDl,hB⟩:=R.heap l b hlb;obtain⟨arr,h1,h2⟩:=hB;exact⟨hDl,RelB.keep ⟨arr,h1,h2⟩ (fun _ h=>h) hk rfl (hb.block _ (lt_of_heap h1))⟩
theorem toD (x:RelCs ρ0 S w No cs vs):RelCs ρ S w D cs vs:=x.keep _ (fun _ h=>h.elim) ⟨Nat.le_refl _,fun l h=>h.elim,fun k _ hs=>⟨hs,rfl⟩⟩
theorem Rel.apart (R:Rel S0 C0 w0 ρ D ⟨σ,h⟩ a w) (hk:k<w0.heap.size) (hs:¬ S0 k) (hc:¬ C0 k):¬ Sof S0 ρ h k/\w.heap[k]? =w0.heap[k]? :=by
 refine⟨?_,R.chg.block k hk hc⟩;rintro(h1 | ⟨l,b,hb,e⟩)
 · exact hs h1
 · rcases(R.mine l b hb).1 with h2 | h2
   · exact hc (e▸h2)
   · omega
theorem Memo.now (R:Rel S0 C0 w0 ρ D ⟨σ,h⟩ a w) (M:Memo F n (fun k=>S0 k\/C0 k) w0 r) (hr:¬ C0 r):Memo F n (Sof S0 ρ h) w r:=by
 have hlt:r<w0.heap.size:=by obtain⟨es,clk,h1,_⟩:=M;exact heap_lt h1
 exact M.keep R.chg.size (R.chg.block r hlt hr) fun k hk hs=>R.apart hk (fun h=>hs (.inl h)) (fun h=>hs (.inr h))
theorem Good.pick (n:Nat) (xs:List (Nat×AV)) (hn:σ.length=n) (he:xs.map (fun p=>σ.getD p.1 .any)=xs.map (·.2)) (hg:Good P f S0 C0 w0 Post todo ⟨slots n xs,h⟩):Good P f S0 C0 w0 Post todo ⟨σ,h⟩:=by
 refine Good.weak n xs hn ?_ hg;clear hg
 induction xs with
 | nil=>exact .nil
 | cons p xs ih=>
   simp only[List.map_cons,List.cons.injEq] at he;exact .cons (by rw[he.1];exact Ref.rfl') (ih he.2)
end
end Go.Av
namespace Go.Av
open Go.Proofs Go.RowKit
def k211:KF
 | []=>some (.agg [.q ((Int.cast 1:Rat)/(Int.cast 2:Rat)) 64],[])
 | _=>none
theorem a211:Ctr 211 k211:=by
 refine ctr Tryz.f211 fun _ _ _ S w0 h ho=> ?_
 unfold k211 at h;split at h <;> cases h;have K:=kn.cons a105;exact rR K [] (.a4 (dc ((-9223372036854775808:Int)<=1)) (dc (1<=(9223372036854775807:Int))) (dc ((-9223372036854775808:Int)<=2)) (dc (2<=(9223372036854775807:Int))))
end Go.Av
namespace Go.Av
open Go.RowKit
theorem RefC.listW (hl:ys.length=xs.length) (h:∀ (i:Nat) (el el':List AV),xs[i]? =some el->ys[i]? =some el'->RefC el el'):RefC (.list e xs::cs) (.list e ys::cs):=fun ρ S w D vs x=>by
 cases x with
 | list f h1 h2 h3 h4 h5 h6=>
   rw[<- hl];refine .list f (by rw[hl];exact h1) h2 (fun i hi=>h3 i (by omega)) (fun i el hel=> ?_) (fun hp=> ?_) h6
   · have hi:i<xs.length:=by rw[<- hl];exact(List.getElem?_eq_some_iff.1 hel).1
     exact h i _ el (List.getElem?_eq_getElem hi) hel _ _ _ _ _ (h4 i _ (List.getElem?_eq_getElem hi))
   · obtain⟨ad,e1,e2,e3,e4⟩:=h5 (by omega)
     exact⟨ad,e1,e2,e3,fun i hi=>e4 i (by omega)⟩
theorem Ref.listW (hl:ys.length=xs.length) (h:∀ (i:Nat) (el el':List AV),xs[i]? =some el->ys[i]? =some el'->RefC el el'):Ref (.list e xs) (.list e ys):=fun ρ S w D v x=>RelV_one (RefC.listW hl h _ _ _ _ _ x)
theorem Ref.list1 (h:RefC a b):Ref (.list e [a]) (.list e [b]):=Ref.listW rfl fun i el el' h1 h2=>by
 cases i with
 | zero=>simp at h1 h2;subst h1;subst h2;exact h
 | succ i=>simp at h1
theorem Ref.list2 (h:RefC a b) (k:RefC c d):Ref (.list e [a,c]) (.list e [b,d]):=Ref.listW rfl fun i el el' h1 h2=>by
 match i,h1,h2 with
 | 0,h1,h2=>simp at h1 h2;subst h1;subst h2;exact h
 | 1,h1,h2=>simp at h1 h2;subst h1;subst h2;exact k
 | i+2,h1,h2=>simp at h1
theorem Ref.listM {α:Type} {e:Nat} {f g:α->List AV} (l:List α) (h:∀ x∈l,RefC (f x) (g x)):Ref (.list e (l.map f)) (.list e (l.map g)):=Ref.listW (by simp) fun i el el' h1 h2=>by
 rw[List.getElem?_map] at h1 h2;obtain⟨x,hx,rfl⟩:=Option.map_eq_some_iff.1 h1;rw[hx] at h2;injection h2 with h2;subst h2;exact h x (List.mem_of_getElem? hx)
theorem RefC.listM {α:Type} {e:Nat} {f g:α->List AV} {cs:List AV} (l:List α) (h:∀ x∈l,RefC (f x) (g x)):RefC (.list e (l.map f)::cs) (.list e (l.map g)::cs):=RefC.listW (by simp) fun i el el' h1 h2=>by
 rw[List.getElem?_map] at h1 h2;obtain⟨x,hx,rfl⟩:=Option.map_eq_some_iff.1 h1;rw[hx] at h2;injection h2 with h2;subst h2;exact h x (List.mem_of_getElem? hx)
theorem sgn_lt {x:Rat}:Int.sign x.num= -1↔x<0:=by
 have h:x<0↔x.num<0:=by rw[Rat.lt_iff];simp
 rw[h];exact Int.sign_eq_neg_one_iff_neg
theorem sgn_zero {x:Rat}:Int.sign x.num=0↔x=0:=⟨fun h=>Rat.num_eq_zero.1 (Int.sign_eq_zero_iff_zero.1 h),fun h=>by rw[h];rfl⟩
theorem sgn_gt {x:Rat}:0<Int.sign x.num↔0<x:=by
 have h:0<x↔0<x.num:=by rw[Rat.lt_iff];simp
 rw[h];rcases Int.lt_trichotomy x.num 0 with k | k | k
 · rw[Int.sign_eq_neg_one_of_neg k];omega
 · rw[k];decide
 · rw[Int.sign_eq_one_of_pos k];omega
section
theorem Rel.stepS (R:Rel S0 C0 w0 ρ D st a w)
   (hk:Keep ρ (Sof S0 ρ st.h) w D ρ' (Sof S1 ρ' h') w') (hd:∀ l,D l->D' l)
   (hv:RelV ρ' (Sof S1 ρ' h') w' D' V v)
   (hh:∀ l b,h'[l]? =some (some b)->D' l/\RelB ρ' (Sof S1 ρ' h') w' D' l b)
   (hi:∀ l l' b b',h'[l]? =some (some b)->h'[l']? =some (some b')->ρ' l=ρ' l'->l=l')
   (hdl:∀ l,D' l->l<h'.length) (hlt:∀ k,S1 k->k<w'.heap.size) (hc:Chg C1 w1 w') (hm:∀ l b,h'[l]? =some (some b)->Mine S1 C1 w1 b (ρ' l)):
   Rel S1 C1 w1 ρ' D' { σ:=put st.σ dst V,h:=h' } (a.put dst v) w' where
 defers:=by cases dst <;> exact R.defers
 len:=by cases dst <;> simp[put,Act.put,R.len]
 tmps:=by
   intro t u hu;cases dst with
   | none=>exact(R.tmps t u hu).keep hd hk
   | some d=>
     simp only[put,Act.put] at hu ⊢;rw[set_getD]
     by_cases e:d=t
     · subst e
       have hlt:d<(a.tmps.setIfInBounds d v).size:=(Array.getElem?_eq_some_iff.1 hu).1;simp at hlt;rw[if_pos ⟨rfl,by rw[<- R.len];exact hlt⟩];simp[Array.getElem?_setIfInBounds,hlt] at hu;subst hu;exact hv
     · rw[if_neg (fun h=>e h.1)]
       simp[Array.getElem?_setIfInBounds,e] at hu;exact(R.tmps t u hu).keep hd hk
 heap:=hh
 inj:=hi
 lt:=hlt
 dlt:=hdl
 chg:=hc
 mine:=hm
theorem Rel.grow (R:Rel S0 C0 w0 ρ D ⟨σ,h⟩ a w) (hc:Chg X w w') (hX:∀ k,X k->S0 k) (h01:∀ k,S0 k->S1 k)
   (h1:∀ k,S1 k->S0 k\/w.heap.size<=k/\k<w'.heap.size) (hv:RelV ρ (Sof S1 ρ h) w' D V v):
   Rel S1 (ownC ρ h) w' ρ D ⟨put σ dst V,h⟩ (a.put dst v) w':=by
 have hk:Keep ρ (Sof S0 ρ h) w D ρ (Sof S1 ρ h) w':=by
   refine⟨hc.size,fun l hl=>⟨rfl,hc.row _⟩,fun k hk hs=>⟨?_,hc.block k hk fun hx=>hs (.inl (hX k hx))⟩⟩;rintro(h2 | h2)
   · rcases h1 k h2 with h3 | h3
     · exact hs (.inl h3)
     · omega
   · exact hs (.inr h2)
 refine R.stepS hk (fun _ h=>h) hv ?_ R.inj R.dlt ?_ (Chg.refl _ _) ?_
 · intro l b hb
   obtain⟨h3,h4⟩:=R.heap l b hb;obtain⟨arr,h5,h6⟩:=h4;exact⟨h3,RelB.keep ⟨arr,h5,h6⟩ (fun _ h=>h) hk rfl (hc.block _ (heap_lt h5) fun hx=>(R.mine l b hb).2.1 (hX _ hx))⟩
 · intro k hk'
   rcases h1 k hk' with h3 | h3
   · exact Nat.lt_of_lt_of_le (R.lt k h3) hc.size
   · exact h3.2
 · intro l b hb
   refine⟨.inl ⟨l,b,hb,rfl⟩,fun h3=> ?_,(R.mine l b hb).2.2⟩;rcases h1 _ h3 with h4 | h4
   · exact(R.mine l b hb).2.1 h4
   · obtain⟨_,arr,h5,_⟩:=R.heap l b hb
     have:=heap_lt h5;omega
theorem Rel.shrink (R:Rel S0 C0 w0 ρ D st a w) (h:∀ k,S1 k->S0 k):Rel S1 C0 w0 ρ D st a w:=by
 have hk:Keep ρ (Sof S0 ρ st.h) w D ρ (Sof S1 ρ st.h) w:=⟨Nat.le_refl _,fun l hl=>⟨rfl,fun arr ty h=>⟨arr,ty,h,Nat.le_refl _⟩⟩,fun k hk hs=>⟨fun h1=>hs (h1.elim (fun h2=>.inl (h k h2)) .inr),rfl⟩⟩
 exact {
   defers:=R.defers
   len:=R.len
   tmps:=fun t v ht=>(R.tmps t v ht).keep (fun _ h=>h) hk
   heap:=fun l b hb=>⟨(R.heap l b hb).1,(R.heap l b hb).2.keep (fun _ h=>h) hk rfl rfl⟩
   inj:=R.inj
   lt:=fun k hk=>R.lt k (h k hk)
   dlt:=R.dlt
   chg:=R.chg
   mine:=fun l b hb=>⟨(R.mine l b hb).1,fun h1=>(R.mine l b hb).2.1 (h _ h1),(R.mine l b hb).2.2⟩ }
end
def lay (xs:List (Nat×AV)) (σ:List AV):List AV:=xs.foldl (fun σ p=>σ.set p.1 p.2) σ
theorem lay_get:∀ {xs:List (Nat×AV)} {σ:List AV} {t:Nat},(∀ p∈xs,p.1≠t)->(lay xs σ).getD t .any=σ.getD t .any
 | [],_,_,_=>rfl
 | p::xs,σ,t,h=>by
   show(lay xs (σ.set p.1 p.2)).getD t .any=_;rw[lay_get fun q hq=>h q (by simp[hq]),set_getD,if_neg fun e=>h p (by simp) e.1]
theorem lay_set:∀ {xs:List (Nat×AV)} {σ:List AV} {d:Nat} {V:AV},(∀ p∈xs,p.1≠d)->lay xs (σ.set d V)=(lay xs σ).set d V
 | [],_,_,_,_=>rfl
 | p::xs,σ,d,V,h=>by
   show lay xs ((σ.set d V).set p.1 p.2)=(lay xs (σ.set p.1 p.2)).set d V;rw[<- lay_set fun q hq=>h q (by simp[hq]),List.set_comm _ _ fun e=>h p (by simp) e.symm]
theorem lay_put (h:∀ p∈xs,dst≠some p.1):lay xs (put σ dst V)=put (lay xs σ) dst V:=by
 cases dst with
 | none=>rfl
 | some d=>exact lay_set fun p hp e=>h p hp (by rw[e])
def clear (ops:Array Oper) (o:Oper) (ks:List Nat):Bool:=
 o.op.operands.toList.all (fun | .tmp t=> !ks.contains t | _=>true)&&ks.all (fun k=> !(o.dst==some k))&&
   (match o.guard with
     | none=>true
     | some (j,_)=>match (ops[j]?).bind (·.dst) with
       | some d=> !ks.contains d
       | none=>true)
section
theorem arun1_lay {T:TT} {K:KT} {ops:Array Oper} {ks:List Nat} {xs:List (Nat×AV)} {i:Nat} {x:AOp} {σ:List AV} {h:List (Option ABlk)} {st1:St} {r:Rec} (hc:clear ops x.o ks=true) (hx:∀ p∈xs,p.1∈ks) (he:arun1 T K ops i x ⟨σ,h⟩=some (st1,r)):
   arun1 T K ops i x ⟨lay xs σ,h⟩=some (⟨lay xs st1.σ,st1.h⟩,r):=by
 unfold clear at hc;simp only[Bool.and_eq_true] at hc;obtain⟨⟨h1,h2⟩,h3⟩:=hc
 have hd:∀ p∈xs,x.o.dst≠some p.1:=fun p hp e=>by
   have:=List.all_eq_true.1 h2 p.1 (hx p hp);simp[e] at this
 have hw :awant ops (lay xs σ) x.o=awant ops σ x.o:=by
   unfold awant
   split at h3
   · rename_i hg;rw[hg]
   · rename_i j b hg
     rw[hg];cases hj:(ops[j]?).bind (·.dst) with
     | none=>simp only[hj]
     | some d=>
       simp only[hj] at h3 ⊢
       rw[lay_get fun p hp e=>by
         have:=hx p hp;rw[e] at this
         simp[this] at h3]
 have ha:opArgs (lay xs σ) x.o=opArgs σ x.o:=by
   unfold opArgs;refine List.map_congr_left fun q hq=> ?_
   have:=List.all_eq_true.1 h1 q hq;cases q with
   | tmp t=>
     simp only[aval]
     exact lay_get fun p hp e=>by
       have h4:=hx p hp;rw[e] at h4;simp[h4] at this
   | const v=>rfl
   | func f=>rfl
   | global g=>rfl
 unfold arun1 outOf at he ⊢;simp only[hw,ha] at he ⊢
 split at he
 · split at he
   · injection he with he;simp only[Prod.mk.injEq] at he
     obtain⟨rfl,rfl⟩:=he;simp only[lay_put hd]
   · cases he
 · injection he with he;simp only[Prod.mk.injEq] at he
   obtain⟨rfl,rfl⟩:=he;simp only[lay_put hd]
 · cases he
theorem arun1_h {T:TT} {K:KT} {ops:Array Oper} {i:Nat} {o:Oper} {x:AOp} {st st1:St} {r:Rec} {v:Value} (h:arun1 T K ops i x st=some (st1,r)) (hx:x.o={ o with op:=.move (.const v) }):st1.h=st.h:=by
 unfold arun1 at h
 split at h
 · split at h
   · rename_i out ho
     injection h with h;simp only[Prod.mk.injEq] at h;rw[<- h.1];unfold outOf opArgs at ho;rw[hx] at ho;simp only[Op.operands,List.map_cons,List.map_nil,aev,val] at ho;injection ho with ho;rw[<- ho];rfl
   · cases h
 · injection h with h;simp only[Prod.mk.injEq] at h
   rw[<- h.1]
 · cases h
theorem put_len (σ:List AV) (dst:Option Nat) (V:AV):(put σ dst V).length=σ.length:=by cases dst <;> simp[put]
theorem arun_len {T:TT} {K:KT} {ops:Array Oper}:∀ {xs:List (Nat×AOp)} {st st':St} {rs:List Rec},arun T K ops xs st=some (st',rs)->st'.σ.length=st.σ.length
 | [],st,st',rs,h=>by simp only[arun] at h;injection h with h;simp only[Prod.mk.injEq] at h;rw[h.1]
 | (i,x)::xs,st,st',rs,h=>by
   obtain⟨st1,r,rs1,h1,h2,rfl⟩:=arun_cons.1 h;obtain⟨V,hV⟩:=arun1_put h1;rw[arun_len h2,hV,put_len]
theorem Good.regionO {P:Program} {T:TT} {K:KT} {ops:Array Oper} {f:FuncId} {S0 C0:Nat->Prop} {w0:World} {Post:Value->World->Prop} (hm:P.follows .mixedOrders=true) (hT:TOK P T) (hK:KOK P K) {id:Nat} {opsR:Array Oper} {draw:Bool} {ov:Ovs} {st st':St} {rs:List Rec} {todo:List Item} {γ:Type} (Xs ks:List Nat) (ovl:γ->List (Nat×AV)) (I:Array Bool->γ->Base->Prop) (args:Nat->List (Nat×AV))
   (he:aregionG T K ops draw ov st=some (st',rs)) (hO:∀ r∈rs,r.i ∉ Xs->AllP r.ob) (hsh:sameShape opsR.toList ops.toList) (hne:∀ i,i ∉ Xs->opsR[i]? =ops[i]?)
   (hks:∀ L g β,I L g β->∀ p∈ovl g,p.1∈ks) (hcl:∀ i o,i ∉ Xs->ops[i]? =some o->clear ops o ks=true)
   (hps:∀ i∈Xs,∃ oX,opsR[i]? =some oX/\oX.guard=none/\ops[i]? =some { oX with op:=.move (.const undef) })
   (hI:∀ listed i g β,i ∉ Xs->I listed g β->I (listed.setIfInBounds i true) g β)
   (hargs:∀ i∈Xs,∀ p∈args i,st'.σ.getD p.1 .any=p.2/\∀ (j:Nat) (o:Oper),ops[j]? =some o->o.dst=some p.1->∀ oX,ops[i]? =some oX->∃ e∈oX.after.toList,e.on=j/\Region.binds .any e=true)
   (hX:∀ i∈Xs,∀ (Q:Exit->Act->World->Prop) listed g β ρ D σ h a w V oX,opsR[i]? =some oX->I listed g β->listed.size=ops.size->listed.getD i false=false->(∀ e∈oX.after.toList,Region.binds .any e=true->listed.getD e.on false=true)->(∀ p∈args i,σ.getD p.1 .any=p.2)->σ.length=st'.σ.length->
     Rel β.S β.C β.w ρ D ⟨lay (ovl g) σ,h⟩ a w->wpOp P opsR Q i (fun a' w'=>∃ g' β',I (listed.setIfInBounds i true) g' β'/\Rel β'.S β'.C β'.w ρ D ⟨lay (ovl g') (put σ oX.dst V),h⟩ a' w') a w)
   (g0:γ) (hB:I (Array.replicate ops.size false) g0 ⟨S0,C0,w0⟩) (h0:ovl g0= [])
   (hgood:∀ listed g β,(∀ i,i<ops.size->listed.getD i false=true)->I listed g β->Good P f β.S β.C β.w Post todo ⟨lay (ovl g) st'.σ,st'.h⟩):Good P f S0 C0 w0 Post (.code (.region id opsR draw)::todo) st:=by
 intro ρ D a w R b cs hb hk
 have key:(Code.region id opsR draw).wp P (fun e a' w'=>e=Exit.normal/\∃ listed g β ρ' D',(∀ i,i<ops.size->listed.getD i false=true)/\I listed g β/\Rel β.S β.C β.w ρ' D' ⟨lay (ovl g) st'.σ,st'.h⟩ a' w') a w:=by
   refine regionG (ρ:=ρ) hm (X:=fun p=>p∈annot 0 ops.toList ov st.h.length) (𝓡:=fun listed ρ D st a w=>∃ (g:γ) (β:Base),I listed g β/\Rel β.S β.C β.w ρ D ⟨lay (ovl g) st.σ,st.h⟩ a w) (O:=fun r=>r.i ∉ Xs->AllP r.ob) (T:=T) (K:=K) (ops:=ops)
     he hO hsh (fun p hp=>hp) R.dlt ?_ ?_ ?_
   · intro w' hw'
     refine⟨g0,⟨S0,C0,w0⟩,hB, ?_⟩;rw[h0];rcases hw' with rfl | rfl
     · exact R.more _
     · exact(R.more _).draw
   · rintro listed ρ' D' a' w' ⟨g,β,h1,h2⟩ hall
     exact⟨rfl,listed,g,β,ρ',D',hall,h1,h2⟩
   · rintro listed i x st2 st1 r a2 w2 ρ2 D2 ⟨g,β,hI2,R2⟩ hsz hi hun hed hox hfresh h1 hOr hxin hrest
     by_cases hiX:i∈Xs
     · obtain⟨oX,k1,k2,k3⟩:=hps i hiX
       have hxo:x.o={ oX with op:=.move (.const undef) }:=by rw[k3] at hox;injection hox with hox;exact hox.symm
       obtain⟨V,hV⟩:=arun1_put h1;have hh:=arun1_h h1 hxo
       have hst1:st1=⟨put st2.σ oX.dst V,st2.h⟩:=by
         cases st1;simp only at hV hh;rw[hV,hh,hxo]
       obtain⟨rest,rs1,hr1,hr2⟩:=hrest
       have hA:∀ p∈args i,st2.σ.getD p.1 .any=p.2:=by
         intro p hp;obtain⟨g1,g2⟩:=hargs i hiX p hp
         have hnot:∀ (j:Nat) (o:Oper),ops[j]? =some o->o.dst=some p.1->listed.getD j false=true:=by
           intro j o hj hd;obtain⟨e,e1,e2,e3⟩:=g2 j o hj hd _ k3
           have:=hed _ k3 e e1 e3
           rwa [e2] at this
         have q1:st'.σ.getD p.1 .any=st1.σ.getD p.1 .any:=arun_keep hr1 fun q hq hd=>by
           obtain⟨q1,q2,q3⟩:=hr2 q hq
           have:=hnot q.1 q.2.o q3 hd;rw[q2] at this;cases this
         have q2:oX.dst≠some p.1:=fun hd=>by
           have:=hnot i _ k3 hd;rw[hun] at this;cases this
         rw[<- g1,q1,hst1];exact(put_get q2).symm
       refine wpOp_mono ?_ (hX i hiX _ listed g β ρ2 D2 st2.σ st2.h a2 w2 V oX k1 hI2 hsz hun (fun e he=>hed _ k3 e he) hA (by rw[arun_len hr1,hst1,put_len]) R2);rintro a' w' ⟨g',β',b1,b2⟩;exact⟨ρ2,D2,⟨g',β',b1,by rw[hst1];exact b2⟩,fun l hl=>.inl hl⟩
     · have h1':=arun1_lay (xs:=ovl g) (hcl i _ hiX hox) (hks _ _ _ hI2) h1
       refine shape_op hsh (hne i hiX) (wpOp_mono ?_ (arun1_ok hT hK R2 hox hfresh h1' (hOr ?_)))
       · rintro a' w' ⟨ρ',D',R',hD'⟩
         exact⟨ρ',D',⟨g,β,hI _ _ _ _ hiX hI2,R'⟩,hD'⟩
       · have:r.i=i:=by
           unfold arun1 at h1
           split at h1
           · split at h1
             · injection h1 with h1;simp only[Prod.mk.injEq] at h1;rw[<- h1.2]
             · cases h1
           · injection h1 with h1;simp only[Prod.mk.injEq] at h1;rw[<- h1.2]
           · cases h1
         rw[this];exact hiX
 obtain⟨e,a',w',⟨rfl,listed,g,β,ρ',D',hall,hβ,R'⟩,harr⟩:=key b _ cs;obtain⟨v,w2,fr,h1,h2,h3⟩:=hgood listed g β hall hβ ρ' D' a' w' R' b cs hb hk;exact⟨v,w2,fr,h1,Steps.trans harr h2,h3⟩
end
def setPsA:Nat->List Nat->List Oper->List Oper
 | _,_,[]=>[]
 | i,Xs,o::os=>(if Xs.contains i then psOp o else o)::setPsA (i+1) Xs os
theorem setPsA_get:∀ (os:List Oper) (i:Nat) (Xs:List Nat) (j:Nat),(setPsA i Xs os)[j]? =(os[j]?).map fun o=>if Xs.contains (i+j) then psOp o else o
 | [],i,Xs,j=>by simp[setPsA]
 | o::os,i,Xs,0=>by simp[setPsA]
 | o::os,i,Xs,j+1=>by
   simp only[setPsA,List.getElem?_cons_succ];rw[setPsA_get os (i+1) Xs j,show i+1+j=i+(j+1) by omega]
theorem setPsA_shape:∀ (os:List Oper) (i:Nat) (Xs:List Nat),sameShape os (setPsA i Xs os)
 | [],_,_=>trivial
 | o::os,i,Xs=>by
   unfold setPsA;refine⟨?_, ?_, ?_,setPsA_shape os (i+1) Xs⟩ <;> split <;> rfl
def obsButL (Xs:List Nat):List Rec->List Prop
 | []=>[]
 | r::rs=>(if Xs.contains r.i then [] else r.ob)++obsButL Xs rs
theorem obsButL_all:∀ {rs:List Rec},AllP (obsButL Xs rs)->∀ r∈rs,r.i ∉ Xs->AllP r.ob
 | r ::rs,h,q,hq,hn=>by
   rcases List.mem_cons.1 hq with rfl | hq
   · have:=(AllP.app h).1
     rwa [if_neg (by simpa using hn)] at this
   · exact obsButL_all (AllP.app h).2 q hq hn
 | [],_,_,hq,_=>by simp at hq
def xsOK (os:List Oper) (Xs ks:List Nat) (ts:Nat->List Nat):Bool:=
 (List.range os.length).all fun i=>match os[i]? with
   | none=>false
   | some o=>if Xs.contains i then o.guard.isNone&&aheadOK (setPsA 0 Xs os) o (ts i) else clear (setPsA 0 Xs os).toArray o ks
section
theorem Good.regXs (hm:P.follows .mixedOrders=true) (hT:TOK P T) (hK:KOK P K) {γ:Type} (Xs ks:List Nat) (ts:Nat->List Nat) (ovl:γ->List (Nat×AV)) (I:Array Bool->γ->Base->Prop)
   (hc:c= .region (regId c) (regOps c) (regDraw c))
   (he:(aregionG T K (setPsA 0 Xs (regOps c).toList).toArray (regDraw c) ov st).map (fun r=>(r.1.σ,r.1.h,obsButL Xs r.2))=some (σ',h',ob)) (hob:AllP ob)
   (hok:xsOK (regOps c).toList Xs ks ts=true) (hXl:Xs.all (fun i=>decide (i<(regOps c).size))=true)
   (hks:∀ L g β,I L g β->∀ p∈ovl g,p.1∈ks)
   (hI:∀ listed i g β,i ∉ Xs->I listed g β->I (listed.setIfInBounds i true) g β)
   (hX:∀ i∈Xs,∀ (Q:Exit->Act->World->Prop) listed g β ρ D σ h a w V oX,(regOps c)[i]? =some oX->oX.guard=none->I listed g β->listed.size=(regOps c).size->listed.getD i false=false->(∀ e∈oX.after.toList,Region.binds .any e=true->listed.getD e.on false=true)->(∀ t∈ts i,σ.getD t .any=σ'.getD t .any)->σ.length=σ'.length->
     Rel β.S β.C β.w ρ D ⟨lay (ovl g) σ,h⟩ a w->wpOp P (regOps c) Q i (fun a' w'=>∃ g' β',I (listed.setIfInBounds i true) g' β'/\Rel β'.S β'.C β'.w ρ D ⟨lay (ovl g') (put σ oX.dst V),h⟩ a' w') a w)
   (g0:γ) (hB:I (Array.replicate (regOps c).size false) g0 ⟨S0,C0,w0⟩) (h0:ovl g0= [])
   (hgood:∀ listed g β,(∀ i,i<(regOps c).size->listed.getD i false=true)->I listed g β->Good P f β.S β.C β.w Post todo ⟨lay (ovl g) σ',h'⟩):Good P f S0 C0 w0 Post (.code c::todo) st:=by
 obtain⟨⟨st',rs⟩,h1,h2⟩:=Option.map_eq_some_iff.1 he;simp only[Prod.mk.injEq] at h2;obtain⟨rfl,rfl,rfl⟩:=h2
 have hlen:∀ (os:List Oper) (i:Nat),(setPsA i Xs os).length=os.length:=by
   intro os
   induction os with
   | nil=>intro i;rfl
   | cons o os ih=>intro i;simp[setPsA,ih]
 have hsize:(setPsA 0 Xs (regOps c).toList).toArray.size=(regOps c).size:=by simp[hlen]
 have hat:∀ (i:Nat) (o:Oper),(regOps c)[i]? =some o->(if Xs.contains i then o.guard.isNone&&aheadOK (setPsA 0 Xs (regOps c).toList) o (ts i) else clear (setPsA 0 Xs (regOps c).toList).toArray o ks)=true:=by
   intro i o hi;have hlt:i<(regOps c).toList.length:=by simpa using (Array.getElem?_eq_some_iff.1 hi).1
   have:=List.all_eq_true.1 hok i (List.mem_range.2 hlt)
   rwa [Array.getElem?_toList,hi] at this
 have hget:∀ i,(setPsA 0 Xs (regOps c).toList).toArray[i]? =((regOps c)[i]?).map fun o=>if Xs.contains i then psOp o else o:=by
   intro i;rw[List.getElem?_toArray,setPsA_get,Nat.zero_add,Array.getElem?_toList]
 have hsome:∀ i∈Xs,∃ o,(regOps c)[i]? =some o:=by
   intro i hi
   have:=List.all_eq_true.1 hXl i hi;exact⟨_,Array.getElem?_eq_getElem (by simpa using this)⟩
 rw[hc];refine Good.regionO (ops:=(setPsA 0 Xs (regOps c).toList).toArray) (γ:=γ) hm hT hK Xs ks ovl I (fun i=>(ts i).map fun t=>(t,st'.σ.getD t .any)) h1 (obsButL_all hob) (by simpa using setPsA_shape (regOps c).toList 0 Xs) (fun i hi=> ?_) hks (fun i o hi ho=> ?_) (fun i hi=> ?_) hI (fun i hi p hp=> ?_) (fun i hi Q listed g β ρ D σ h a w V oX k1 k2 k3 k4 k5 k6 k8 k7=> ?_) g0 (by rw[hsize];exact hB) h0 (fun listed g β hl=>hgood listed g β (by rw[hsize] at hl;exact hl))
 · rw[hget,show Xs.contains i=false by simpa using hi]
   cases (regOps c)[i]? <;> rfl
 · rw[hget,show Xs.contains i=false by simpa using hi] at ho
   cases hr:(regOps c)[i]? with
   | none=>rw[hr] at ho;cases ho
   | some o'=>
     rw[hr] at ho;simp at ho;subst ho
     have:=hat i o' hr
     rwa [show Xs.contains i=false by simpa using hi] at this
 · obtain⟨o,ho⟩:=hsome i hi
   have h3:=hat i o ho;rw[show Xs.contains i=true by simpa using hi,if_pos rfl,Bool.and_eq_true] at h3;refine⟨o,ho,by simpa using h3.1, ?_⟩;rw[hget,ho];simp[hi,psOp]
 · obtain⟨t,ht,rfl⟩:=List.mem_map.1 hp
   refine⟨rfl,fun j o hj hd oX hoX=> ?_⟩;obtain⟨o2,ho2⟩:=hsome i hi;have h3:=hat i o2 ho2;rw[show Xs.contains i=true by simpa using hi,if_pos rfl,Bool.and_eq_true] at h3;rw[hget,ho2] at hoX;simp[hi] at hoX
   have:=aheadOK_spec h3.2 t ht j o (by simpa using hj) hd;rw[<- hoX];exact this
 · have h3:=hat i oX k1
   rw[show Xs.contains i=true by simpa using hi,if_pos rfl,Bool.and_eq_true] at h3;exact hX i hi Q listed g β ρ D σ h a w V oX k1 (by simpa using h3.1) k2 (by rw[<- hsize];exact k3) k4 k5 (fun t ht=>k6 (t,st'.σ.getD t .any) (List.mem_map.2 ⟨t,ht,rfl⟩)) k8 k7
end
end Go.Av
namespace Go.Av
open Go.Proofs Go.RowKit
def k116:KF
 | [.agg [.q x B],.agg [.q y C]]=>some (.agg [.q (x/y) (B+C+2)],[B+C+200<=LIM,y≠0])
 | _=>none
theorem a116:Ctr 116 k116:=by
 refine ctr Tryz.f116 fun _ _ _ S w0 h ho=> ?_
 unfold k116 at h;split at h <;> cases h;rename_i x B y C;obtain⟨o1,o2⟩:=ho.e2;have L:=limE;have K:=(((kn.cons a115).cons a112).cons a111).cons a109;refine rF K [] (.a6 (om (max C 64+1<=LIM)) (om (B+(C+1)+128<=LIM)) (om (max B 64+1<=LIM)) (om ((B+1)+C+128<=LIM)) (show 0<(x.den*y.num.natAbs) by exact Nat.mul_pos x.den_pos (Int.natAbs_pos.2 fun h=>o2 (Rat.num_eq_zero.1 h))) (om (max (B+(C+1)) ((B+1)+C)+128<=LIM))) (V:=.agg [.q (mkRat (sgn (!((decide (x.num<0))==(decide (y.num<0)))) (x.num.natAbs*y.den)) (x.den*y.num.natAbs)) (max (B+(C+1)) ((B+1)+C))]) ?_
 refine Ref.q1 ?_ (by omega);rw[neq_xor,div_mk x y o2]
def k108:KF
 | [.agg [.z n B]]=>some (.agg [.q (n:Rat) B],[])
 | _=>none
theorem a108:Ctr 108 k108:=by
 refine ctr Tryz.f108 fun _ _ _ S w0 h ho=> ?_
 unfold k108 at h;split at h <;> cases h;rename_i n B;exact rF .nil [] .nil (V:=.agg [.z n B,.nat 0 0]) (Ref.agg (RefC.mkq (rl _) (Nat.zero_le _) rfl rfl))
def k25:KF
 | [.int .i64 n]=>some (.agg [.q (n:Rat) 64],[(-9223372036854775808:Int)<=n,n<=(9223372036854775807:Int)])
 | _=>none
theorem a25:Ctr 25 k25:=by
 refine ctr Tryz.f25 fun _ _ _ S w0 h ho=> ?_
 unfold k25 at h;split at h <;> cases h;rename_i n;obtain⟨o1,o2⟩:=ho.e2;have K:=((kn.cons a110).cons a109).cons a108;exact rF K [] (.a2 o1 o2) (V:=.agg [.q ((sgn (decide (n<(0:Int))) n.natAbs):Rat) 64]) (Ref.q1 (congrArg _ (sgn_self n)) (rl _))
theorem sq_nonneg (t:Rat):0<=t*t:=by
 rcases Rat.nonneg_total t with h | h
 · exact Rat.mul_nonneg h h
 · have:=Rat.mul_nonneg h h
   rwa [Rat.neg_mul,Rat.mul_neg,Rat.neg_neg] at this
theorem one_sq (t:Rat):(1:Rat)+t*t≠0:=by
 have:=sq_nonneg t
 grind
def k38:KF
 | [.agg [.q t B]]=>some (.agg [.q ((1-t*t)/(1+t*t)) (4*B+200),.q ((t+t)/(1+t*t)) (4*B+200)],[4*B+800<=LIM])
 | _=>none
theorem a38:Ctr 38 k38:=by
 refine ctr Tryz.f38 fun _ _ _ S w0 h ho=> ?_
 unfold k38 at h;split at h <;> cases h;rename_i t B;have o1:=ho.one;have L:=limE;have K:=((((kn.cons a116).cons a29).cons a28).cons a26).cons a25;have v0:((1:Rat)+(t*t))≠0:=by exact one_sq t
 have v1:(-9223372036854775808:Int)<=1:=by decide
 have v2:1<=(9223372036854775807:Int):=by decide
 have v3:64+(B+B+2)+200<=LIM:=by omega
 exact rV K [] (.c6 (om (B+B+200<=LIM)) v1 v2 v3 v1 v2 (.c6 v3 (om ((64+(B+B+2)+2)+(64+(B+B+2)+2)+200<=LIM)) v0 (om (B+B+200<=LIM)) (om ((B+B+2)+(64+(B+B+2)+2)+200<=LIM)) v0 (.a2 (om ((64+(B+B+2)+2)+(64+(B+B+2)+2)+2<=4*B+200)) (om ((B+B+2)+(64+(B+B+2)+2)+2<=4*B+200)))))
def turnC (t:Rat):Rat:=(1-t*t)/(1+t*t)
def turnS' (t:Rat):Rat:=(t+t)/(1+t*t)
def stepF (f:FrameD) (v:BodyD) (t:Rat):FrameD:=
 ⟨⟨f.at_.x+(f.c*v.at_.x-f.s*v.at_.z),f.at_.z+(f.s*v.at_.x+f.c*v.at_.z)⟩,f.c*turnC t-f.s*turnS' t,f.s*turnC t+f.c*turnS' t⟩
def frF (m:MachD) (p:PoseD):Nat->Nat->FrameD
 | 0,_=>⟨p.at_,turnC p.turn,turnS' p.turn⟩
 | n+1,i=>if i=0 then ⟨p.at_,turnC p.turn,turnS' p.turn⟩ else stepF (frF m p n (m.bodies.getD i default).par.toNat) (m.bodies.getD i default) (p.joints.getD (i-1) default)
def fr (m:MachD) (p:PoseD) (i:Nat):FrameD:=frF m p i i
def MachD.tree (m:MachD):Prop:=∀ i,0<i->i<m.bodies.length->0<=(m.bodies.getD i default).par/\(m.bodies.getD i default).par<((i:Nat):Int)
theorem frF_eq {m:MachD} {p:PoseD} (ht:m.tree):∀ (i n:Nat),i<m.bodies.length->i<=n->frF m p n i=frF m p i i:=by
 intro i
 induction i using Nat.strongRecOn with
 | _ i ih=>
   intro n hi hn;cases n with
   | zero => have:i=0:=by omega
             subst this;rfl
   | succ n=>
     cases i with
     | zero=>simp[frF]
     | succ i=>
       obtain⟨h1,h2⟩:=ht (i+1) (by omega) hi;have hj:(m.bodies.getD (i+1) default).par.toNat<i+1:=by omega
       rw[frF,frF,ih _ hj n (by omega) (by omega),ih _ hj i (by omega) (by omega)]
theorem fr_step {m:MachD} {p:PoseD} (ht:m.tree) {i:Nat} (h0:0<i) (hi:i<m.bodies.length):
   fr m p i=stepF (fr m p (m.bodies.getD i default).par.toNat) (m.bodies.getD i default) (p.joints.getD (i-1) default):=by
 obtain⟨h1,h2⟩:=ht i h0 hi;have hj:(m.bodies.getD i default).par.toNat<i:=by omega
 unfold fr;obtain⟨n,rfl⟩:∃ n,i=n+1:=⟨i-1,by omega⟩;rw[frF,if_neg (by omega),frF_eq ht _ n (by omega) (by omega)]
def rz (jb i:Nat):Nat:=(2*jb+610)*(i+1)+jb
def SZ (jb:Nat):Nat:=17*jb+4880
theorem rz_mono {jb i j:Nat} (h:i<=j):rz jb i<=rz jb j:=by
 have:=Nat.mul_le_mul_left (2*jb+610) (om (i+1<=j+1));unfold rz;omega
theorem rz_le {jb i:Nat} (h:i<=7):rz jb i<=SZ jb:=Nat.le_trans (rz_mono h) (by simp only[rz,SZ];omega)
theorem rz_jb (jb i:Nat):jb<=rz jb i:=by unfold rz;omega
def frs (jb:Nat) (m:MachD) (p:PoseD) (i:Nat):List AV:=unF (rz jb i) (fr m p i)
theorem sq_nn (x:Rat):0<=x*x:=by
 rcases Rat.le_total (a:=0) (b:=x) with h | h
 · exact Rat.mul_nonneg h h
 · have:=Rat.mul_nonneg (show 0<= -x by grind) (show 0<= -x by grind);grind
def QB (B:Nat) (x:Rat):Prop:=x.num.natAbs<2^B/\x.den-1<2^B
def Wh (N:Nat) (x:Rat):Prop:=∃ k:Int,x*((N:Int):Rat)=(k:Rat)
theorem Wh.of (x:Rat):Wh x.den x:=⟨x.num,by
 have h:x=(x.num:Rat)/((x.den:Int):Rat):=by rw[<- Rat.divInt_eq_div,Rat.num_divInt_den]
 have h0:((x.den:Int):Rat)≠0:=fun h=>by
   have:=Rat.intCast_eq_zero_iff.1 h
   have:=x.den_nz;omega
 grind⟩
theorem Wh.add {N:Nat} {x y:Rat}:Wh N x->Wh N y->Wh N (x+y):=fun⟨k,h⟩ ⟨l,e⟩=>⟨k+l,by rw[Rat.add_mul,h,e,Rat.intCast_add]⟩
theorem Wh.sub {N:Nat} {x y:Rat}:Wh N x->Wh N y->Wh N (x-y):=fun⟨k,h⟩ ⟨l,e⟩=>⟨k-l,by rw[Rat.intCast_sub, <- h, <- e];grind⟩
theorem Wh.mul {N M:Nat} {x y:Rat}:Wh N x->Wh M y->Wh (N*M) (x*y):=fun⟨k,h⟩ ⟨l,e⟩=>⟨k*l,by rw[Int.natCast_mul,Rat.intCast_mul,Rat.intCast_mul, <- h, <- e];grind⟩
theorem Wh.up {N:Nat} (M:Nat) {x:Rat}:Wh N x->Wh (N*M) x:=fun⟨k,h⟩=>⟨k*(M:Int),by rw[Int.natCast_mul,Rat.intCast_mul,Rat.intCast_mul, <- h];grind⟩
theorem Wh.den {N:Nat} {x:Rat} (h0:0<N):Wh N x->x.den<=N:=fun⟨k,h⟩=>by
 have hn:((N:Int):Rat)≠0:=fun h=>by have:=Rat.intCast_eq_zero_iff.1 h;omega
 have e:x=Rat.divInt k N:=by rw[Rat.divInt_eq_div];grind
 rw[e,Rat.den_divInt,if_neg (by omega)];exact Nat.le_trans (Nat.div_le_self _ _) (by simp)
theorem QB.of {N K B:Nat} {x:Rat} (h0:0<N) (hw:Wh N x) (h1: -((K:Int):Rat)<=x) (h2:x<=((K:Int):Rat)) (hB:K*N<2^B) (hN:N<=2^B):QB B x:=by
 have hd:=hw.den h0;obtain⟨k,hk⟩:=Wh.of x;refine⟨?_,by have:=x.den_pos;omega⟩
 have e:x*((x.den:Int):Rat)=(x.num:Rat):=by
   have h:x=(x.num:Rat)/((x.den:Int):Rat):=by rw[<- Rat.divInt_eq_div,Rat.num_divInt_den]
   have h0:((x.den:Int):Rat)≠0:=fun h=>by
     have:=Rat.intCast_eq_zero_iff.1 h
     have:=x.den_nz;omega
   grind
 have hd0:(0:Rat)<=((x.den:Int):Rat):=by
   have:((0:Int):Rat)<=((x.den:Int):Rat):=Rat.intCast_le_intCast.2 (by omega);exact this
 have u1:((x.num:Int):Rat)<=(((K:Int)*(x.den:Int):Int):Rat):=by
   rw[Rat.intCast_mul, <- e];exact Rat.mul_le_mul_of_nonneg_right h2 hd0
 have u2:((-((K:Int)*(x.den:Int)):Int):Rat)<=((x.num:Int):Rat):=by
   rw[Rat.intCast_neg,Rat.intCast_mul, <- e, <- Rat.neg_mul];exact Rat.mul_le_mul_of_nonneg_right h1 hd0
 have v1:=Rat.intCast_le_intCast.1 u1;have v2:=Rat.intCast_le_intCast.1 u2
 have v3:(K:Int)*(x.den:Int)<=((K*N:Nat):Int):=by
   rw[Int.natCast_mul];exact Int.mul_le_mul_of_nonneg_left (by omega) (by omega)
 omega
theorem unit_le {c s:Rat} (h:c*c+s*s=1): -1<=c/\c<=1:=by
 have h2:=sq_nn s;refine⟨Rat.not_lt.1 fun h1=> ?_,Rat.not_lt.1 fun h1=> ?_⟩
 · have:=Rat.mul_pos (show 0< -1-c by grind) (show 0<1-c by grind);grind
 · have:=Rat.mul_pos (show 0<c-1 by grind) (show 0<c+1 by grind);grind
theorem pow2_le {a b:Nat} (h:a<=b):2^a<=2^b:=Nat.pow_le_pow_right (by decide) h
theorem pow_step {a b c k x y z:Nat} (hk:k=a+b+c) (h1:x<=2^a) (h2:y<=2^b) (h3:z<=2^c):x*(y*z)<=2^k:=by
 subst hk;rw[Nat.pow_add,Nat.pow_add,Nat.mul_assoc];exact Nat.mul_le_mul h1 (Nat.mul_le_mul h2 h3)
theorem unit_comm {c s:Rat} (h:c*c+s*s=1):s*s+c*c=1:=by rw[Rat.add_comm];exact h
theorem unit_mul {c s C S:Rat} (h:c*c+s*s=1) (k:C*C+S*S=1):(c*C-s*S)*(c*C-s*S)+(s*C+c*S)*(s*C+c*S)=1:=by grind
theorem QB_den {B:Nat} {x:Rat} (h:x.num.natAbs<2^B/\x.den-1<2^B):x.den<=2^B:=by omega
theorem pow_sum {i a b:Nat} (h:a<=b):(2*i+1)*b+(a+a)<=(2*(i+1)+1)*b:=by
 simp only[Nat.add_mul,Nat.mul_add];omega
def Ab (K:Nat) (x:Rat):Prop:= -((K:Int):Rat)<=x/\x<=((K:Int):Rat)
theorem Ab.mul1 {K:Nat} {c a:Rat} (h: -1<=c/\c<=1) (k:Ab K a):Ab K (c*a):=by
 obtain⟨h1,h2⟩:=h;obtain⟨k1,k2⟩:=k;unfold Ab;generalize ((K:Int):Rat)=K at*;have q1:=Rat.mul_nonneg (show 0<=1-c by grind) (show 0<=K+a by grind);have q2:=Rat.mul_nonneg (show 0<=1+c by grind) (show 0<=K-a by grind);have q3:=Rat.mul_nonneg (show 0<=1-c by grind) (show 0<=K-a by grind);have q4:=Rat.mul_nonneg (show 0<=1+c by grind) (show 0<=K+a by grind);constructor <;> grind
theorem Ab.add {K L:Nat} {x y:Rat} (h:Ab K x) (k:Ab L y):Ab (K+L) (x+y):=by
 unfold Ab at*;rw[Int.natCast_add,Rat.intCast_add];grind
theorem Ab.sub {K L:Nat} {x y:Rat} (h:Ab K x) (k:Ab L y):Ab (K+L) (x-y):=by
 unfold Ab at*;rw[Int.natCast_add,Rat.intCast_add];grind
theorem Ab.le {K L:Nat} {x:Rat} (h:Ab K x) (k:K<=L):Ab L x:=by
 have:((K:Int):Rat)<=((L:Int):Rat):=Rat.intCast_le_intCast.2 (by omega);unfold Ab at*;grind
theorem QB.ab {B:Nat} {x:Rat} (h:QB B x):Ab (2^B) x:=by
 have e:x*((x.den:Int):Rat)=(x.num:Rat):=by
   have h:x=(x.num:Rat)/((x.den:Int):Rat):=by rw[<- Rat.divInt_eq_div,Rat.num_divInt_den]
   have h0:((x.den:Int):Rat)≠0:=fun h=>by
     have:=Rat.intCast_eq_zero_iff.1 h
     have:=x.den_nz;omega
   grind
 have hd:(1:Rat)<=((x.den:Int):Rat):=by
   have:=x.den_pos;have:((1:Int):Rat)<=((x.den:Int):Rat):=Rat.intCast_le_intCast.2 (by omega);exact this
 obtain⟨h1,_⟩:=h;have u1:(x.num:Rat)<=(((2^B:Nat):Int):Rat):=Rat.intCast_le_intCast.2 (by omega);have u2: -(((2^B:Nat):Int):Rat)<=(x.num:Rat):=by rw[<- Rat.intCast_neg];exact Rat.intCast_le_intCast.2 (by omega)
 have u3:(0:Rat)<=(((2^B:Nat):Int):Rat):=by
   have:((0:Int):Rat)<=(((2^B:Nat):Int):Rat):=Rat.intCast_le_intCast.2 (by omega);exact this
 unfold Ab;generalize (((2^B:Nat):Int):Rat)=K at*;generalize ((x.den:Int):Rat)=d at*;refine⟨Rat.not_lt.1 fun h=> ?_,Rat.not_lt.1 fun h=> ?_⟩
 · have:=Rat.mul_nonneg (show 0<=d-1 by grind) (show 0<= -K-x by grind)
   have:=Rat.mul_nonneg (show 0<=d-1 by grind) u3
   grind
 · have:=Rat.mul_nonneg (show 0<=d-1 by grind) (show 0<=x-K by grind)
   have:=Rat.mul_nonneg (show 0<=d-1 by grind) u3
   grind
theorem turn_wh {B:Nat} {t:Rat} (h:QB B t):∃ D:Nat,0<D/\D<=2^(2*B+1)/\Wh D (turnC t)/\Wh D (turnS' t)/\turnC t*turnC t+turnS' t*turnS' t=1:=by
 have h1:=one_sq t;refine⟨t.num.natAbs*t.num.natAbs+t.den*t.den, ?_, ?_, ?_⟩
 · have:=Nat.mul_pos t.den_pos t.den_pos;omega
 · obtain⟨a,b⟩:=h
   have e:2^(2*B+1)=2^B*2^B+2^B*2^B:=by rw[Nat.pow_succ,show 2*B=B+B by omega,Nat.pow_add];omega
   have:=Nat.mul_le_mul (Nat.le_of_lt a) (Nat.le_of_lt a);have h2:t.den<=2^B:=by omega
   have:=Nat.mul_le_mul h2 h2;omega
 · have ec:(((t.num.natAbs*t.num.natAbs+t.den*t.den:Nat):Int):Rat)=(t.num:Rat)*(t.num:Rat)+((t.den:Int):Rat)*((t.den:Int):Rat):=by
     rw[Int.natCast_add,Int.natAbs_mul_self,Int.natCast_mul,Rat.intCast_add,Rat.intCast_mul,Rat.intCast_mul]
   have h:t=(t.num:Rat)/((t.den:Int):Rat):=by rw[<- Rat.divInt_eq_div,Rat.num_divInt_den]
   have h0:((t.den:Int):Rat)≠0:=fun h=>by
     have:=Rat.intCast_eq_zero_iff.1 h
     have:=t.den_nz;omega
   refine⟨⟨t.den*t.den-t.num*t.num, ?_⟩,⟨t.num*t.den+t.num*t.den, ?_⟩, ?_⟩
   · rw[ec,Rat.intCast_sub,Rat.intCast_mul,Rat.intCast_mul];unfold turnC;grind
   · rw[ec,Rat.intCast_add,Rat.intCast_mul];unfold turnS';grind
   · unfold turnC turnS';grind
def FB (jb i:Nat) (f:FrameD):Prop:=∃ D N:Nat,0<D/\0<N/\D<=2^((2*jb+1)*(i+1))/\N<=2^(2*jb+600*i)/\Wh D f.c/\Wh D f.s/\f.c*f.c+f.s*f.s=1/\
 Wh (D*N) f.at_.x/\Wh (D*N) f.at_.z/\Ab ((2*i+1)*2^(jb+300)) f.at_.x/\Ab ((2*i+1)*2^(jb+300)) f.at_.z
theorem FB.mono {jb i j:Nat} {f:FrameD} (h:FB jb i f) (k:i<=j):FB jb j f:=by
 obtain⟨D,N,d0,n0,h1,h2,h3,h4,h5,h6,h7,h8,h9⟩:=h;have e:(2*i+1)*2^(jb+300)<=(2*j+1)*2^(jb+300):=Nat.mul_le_mul_right _ (by omega);exact⟨D,N,d0,n0,Nat.le_trans h1 (pow2_le (Nat.mul_le_mul_left _ (by omega))),Nat.le_trans h2 (pow2_le (by omega)),h3,h4,h5,h6,h7,h8.le e,h9.le e⟩
theorem FB.zero {jb:Nat} {p:PtD} {t:Rat} (hx:QB jb p.x) (hz:QB jb p.z) (ht:QB jb t):FB jb 0 ⟨p,turnC t,turnS' t⟩:=by
 obtain⟨D,d0,d1,w1,w2,w3⟩:=turn_wh ht;have e:2^jb<=(2*0+1)*2^(jb+300):=by rw[Nat.mul_zero,Nat.zero_add,Nat.one_mul];exact pow2_le (by omega)
 have c:∀ N:Nat,D*N=N*D:=fun N=>Nat.mul_comm ..
 refine⟨D,p.x.den*p.z.den,d0,Nat.mul_pos p.x.den_pos p.z.den_pos,Nat.le_trans d1 (pow2_le (by omega)), ?_,w1,w2,w3, ?_, ?_,hx.ab.le e,hz.ab.le e⟩
 · rw[Nat.mul_zero,Nat.add_zero,show 2*jb=jb+jb by omega,Nat.pow_add]
   exact Nat.mul_le_mul (QB_den hx) (QB_den hz)
 · rw[c,Nat.mul_assoc];exact(Wh.of p.x).up _
 · rw[c,Nat.mul_comm p.x.den,Nat.mul_assoc];exact(Wh.of p.z).up _
theorem FB.step {jb i:Nat} {f:FrameD} {v:BodyD} {t:Rat} (h:FB jb i f) (hx:QB 300 v.at_.x) (hz:QB 300 v.at_.z) (ht:QB jb t):FB jb (i+1) (stepF f v t):=by
 obtain⟨D,N,d0,n0,h1,h2,h3,h4,h5,h6,h7,h8,h9⟩:=h;obtain⟨E,e0,e1,w1,w2,w3⟩:=turn_wh ht;have hs:=unit_comm h5;have e:=pow_sum (i:=i) (pow2_le (om (300<=jb+300)));have p1:Wh (D*N*(v.at_.x.den*v.at_.z.den)*E) f.at_.x:=(h6.up _).up _;have p2:Wh (D*N*(v.at_.x.den*v.at_.z.den)*E) f.at_.z:=(h7.up _).up _
 have q:∀ {c:Rat},Wh D c->Wh (D*N*(v.at_.x.den*v.at_.z.den)*E) (c*v.at_.x)/\Wh (D*N*(v.at_.x.den*v.at_.z.den)*E) (c*v.at_.z):=fun hc=>by
   constructor
   · have:=(((hc.mul (Wh.of v.at_.x)).up N).up v.at_.z.den).up E
     rwa [show D*v.at_.x.den*N*v.at_.z.den*E=D*N*(v.at_.x.den*v.at_.z.den)*E by simp only[Nat.mul_left_comm,Nat.mul_comm]] at this
   · have:=(((hc.mul (Wh.of v.at_.z)).up N).up v.at_.x.den).up E
     rwa [show D*v.at_.z.den*N*v.at_.x.den*E=D*N*(v.at_.x.den*v.at_.z.den)*E by simp only[Nat.mul_left_comm,Nat.mul_comm]] at this
 have r:D*N*(v.at_.x.den*v.at_.z.den)*E=D*E*(N*(v.at_.x.den*v.at_.z.den)):=by simp only[Nat.mul_left_comm,Nat.mul_comm]
 rw[r] at p1 p2 q
 refine⟨D*E,N*(v.at_.x.den*v.at_.z.den),Nat.mul_pos d0 e0,Nat.mul_pos n0 (Nat.mul_pos v.at_.x.den_pos v.at_.z.den_pos), ?_, ?_,(h3.mul w1).sub (h4.mul w2),(h4.mul w1).add (h3.mul w2), ?_,
   p1.add ((q h3).1.sub (q h4).2),p2.add ((q h4).1.add (q h3).2), ?_, ?_⟩
 · rw[Nat.mul_add,Nat.mul_one,Nat.pow_add];exact Nat.mul_le_mul h1 e1
 · exact pow_step (by omega) h2 (QB_den hx) (QB_den hz)
 · exact unit_mul h5 w3
 · exact(h8.add ((hx.ab.mul1 (unit_le h5)).sub (hz.ab.mul1 (unit_le hs)))).le e
 · exact(h9.add ((hx.ab.mul1 (unit_le hs)).add (hz.ab.mul1 (unit_le h5)))).le e
theorem pow_three {x y A B k:Nat} (h:x<2^k) (h2:y<=2^A):x*2^B*y<2^(A+B+k):=by
 rw[Nat.pow_add,Nat.pow_add];have h3:x*2^B*y<=x*2^B*2^A:=Nat.mul_le_mul_left _ h2;have h4:x*(2^B*2^A)<2^k*(2^B*2^A):=Nat.mul_lt_mul_of_pos_right h (Nat.mul_pos (Nat.two_pow_pos _) (Nat.two_pow_pos _));rw[Nat.mul_assoc x (2^B) (2^A)] at h3;refine Nat.lt_of_le_of_lt h3 (Nat.lt_of_lt_of_le h4 (Nat.le_of_eq ?_));rw[Nat.mul_comm,Nat.mul_comm (2^B)]
theorem FB.qb {jb i:Nat} {f:FrameD} (h:FB jb i f) (hi:i<=7):QB (2*rz jb i) f.at_.x/\QB (2*rz jb i) f.at_.z/\QB (rz jb i) f.c/\QB (rz jb i) f.s:=by
 obtain⟨D,N,d0,n0,h1,h2,h3,h4,h5,h6,h7,h8,h9⟩:=h;have hs:=unit_comm h5
 have e1:(2*jb+1)*(i+1)+1<=rz jb i:=by
   unfold rz;simp only[Nat.add_mul,Nat.mul_add,Nat.mul_one];omega
 have e2:(2*jb+1)*(i+1)+(2*jb+600*i)+(jb+300)+4<=2*rz jb i:=by
   unfold rz;simp only[Nat.add_mul,Nat.mul_add,Nat.mul_one];omega
 have hD:D*1<2^rz jb i:=by
   have:=pow2_le e1;rw[Nat.pow_succ] at this
   have:=Nat.two_pow_pos ((2*jb+1)*(i+1));omega
 have hDN:D*N<=2^((2*jb+1)*(i+1)+(2*jb+600*i)):=by rw[Nat.pow_add];exact Nat.mul_le_mul h1 h2
 have hK:(2*i+1)*2^(jb+300)*(D*N)<2^(2*rz jb i):=by
   exact Nat.lt_of_lt_of_le (pow_three (om (2*i+1<2^4)) hDN) (pow2_le e2)
 have hN:D*N<=2^(2*rz jb i):=Nat.le_trans hDN (pow2_le (by omega));have u:=unit_le h5;have w:=unit_le hs;have m0:=Nat.mul_pos d0 n0;exact⟨.of m0 h6 h8.1 h8.2 hK hN,.of m0 h7 h9.1 h9.2 hK hN,.of (K:=1) d0 h3 u.1 u.2 (by omega) (by omega),.of (K:=1) d0 h4 w.1 w.2 (by omega) (by omega)⟩
def Bnd (jb:Nat) (m:MachD) (p:PoseD):Prop:=QB jb p.at_.x/\QB jb p.at_.z/\QB jb p.turn/\(∀ i,i<p.joints.length->QB jb (p.joints.getD i default))/\(∀ i,i<m.bodies.length->QB 300 (m.bodies.getD i default).at_.x/\QB 300 (m.bodies.getD i default).at_.z)
theorem fr_FB {jb:Nat} {m:MachD} {p:PoseD} (hB:Bnd jb m p) (ht:m.tree) (hj:m.bodies.length<=p.joints.length+1):∀ i,i<m.bodies.length->FB jb i (fr m p i):=by
 obtain⟨b1,b2,b3,b4,b5⟩:=hB;intro i
 induction i using Nat.strongRecOn with
 | _ i ih=>
   intro hi;rcases Nat.eq_zero_or_pos i with rfl | h0
   · exact FB.zero b1 b2 b3
   · obtain⟨h1,h2⟩:=ht i h0 hi
     rw[fr_step ht h0 hi];obtain⟨k,rfl⟩:∃ k,i=k+1:=⟨i-1,by omega⟩;obtain⟨c1,c2⟩:=b5 (k+1) hi;exact((ih _ (by omega) (by omega)).mono (by omega)).step c1 c2 (b4 k (by omega))
def FQ (e:Nat) (f:FrameD):Prop:=QB (2*e) f.at_.x/\QB (2*e) f.at_.z/\QB e f.c/\QB e f.s
theorem fr_FQ {jb:Nat} {m:MachD} {p:PoseD} (hB:Bnd jb m p) (ht:m.tree) (hj:m.bodies.length<=p.joints.length+1) {i:Nat} (hi:i<m.bodies.length) (h8:m.bodies.length<=8):FQ (rz jb i) (fr m p i):=(fr_FB hB ht hj i hi).qb (by omega)
theorem RefC.nat_to {n B C:Nat} {cs:List AV} (h:n<2^C):RefC (.nat n B::cs) (.nat n C::cs):=fun ρ S w D vs x=>by
 cases x with
 | nat xs h1 h2 h3 h4=>exact .nat xs h1 h2 h h4
theorem RefC.q_of {x y:Rat} {B C:Nat} {cs:List AV} (e:x=y) (h:QB C y):RefC (.q x B::cs) (.q y C::cs):=fun ρ S w D vs k=>by
 subst e;cases k with
 | q h1=>
   cases h1 with
   | z h2=>exact .q (.z (((RefC.tl (RefC.nat_to h.1)).trans (RefC.tl (RefC.tl (RefC.nat_to h.2)))) _ _ _ _ _ h2))
theorem Ref.frame {f:FrameD} {x z c s:Rat} {X Z C S e:Nat} (hx:f=⟨⟨x,z⟩,c,s⟩) (h:FQ e f):Ref (.agg [.q x X,.q z Z,.q c C,.q s S]) (.agg (unF e f)):=by
 subst hx;exact Ref.agg (RefC.cons (RefC.q_of rfl h.1) (RefC.cons (RefC.q_of rfl h.2.1) (RefC.cons (RefC.q_of rfl h.2.2.1) (RefC.q_of rfl h.2.2.2))))
theorem RelCs.qb {ρ:Nat->Nat} {S:Nat->Prop} {w:World} {D:Nat->Prop} {x:Rat} {B:Nat} {cs:List AV} {vs:List Value} (h:RelCs ρ S w D (.q x B::cs) vs):QB B x/\∃ vs',RelCs ρ S w D cs vs':=by
 cases h with
 | q h1=>
   cases h1 with
   | z h2=>
     cases h2 with
     | bool h3=>
       cases h3 with
       | nat xs a1 a2 a3 a4=>
         cases a4 with
         | list f b1 b2 b3 b4 b5 b6=>
           cases b6 with
           | nat ys c1 c2 c3 c4=>
             cases c4 with
             | list g d1 d2 d3 d4 d5 d6=>exact⟨⟨a3,c3⟩,_,d6⟩
theorem QB.mono {B C:Nat} {x:Rat} (h:QB B x) (k:B<=C):QB C x:=⟨Nat.lt_of_lt_of_le h.1 (pow2_le k),Nat.lt_of_lt_of_le h.2 (pow2_le k)⟩
theorem bnd_of {jb:Nat} {m:MachD} {p:PoseD} {ρ ρ':Nat->Nat} {S S':Nat->Prop} {w w':World} {D D':Nat->Prop} {us vs:List Value} (h1:RelCs ρ S w D (unMach 300 m) us) (h2:RelCs ρ' S' w' D' (unPose jb p) vs):Bnd jb m p:=by
 obtain⟨q1,_,h2⟩:=h2.qb;obtain⟨q2,_,h2⟩:=h2.qb;obtain⟨q3,_,h2⟩:=h2.qb;refine⟨q1,q2,q3,fun i hi=> ?_,fun i hi=> ?_⟩
 · cases h2 with
   | list f b1 b2 b3 b4 b5 b6=>
     have:=b4 i [.q (p.joints.getD i default) jb] (by rw[List.getElem?_map,List.getElem?_eq_getElem hi];simp[unQ,gdE,hi]);exact this.qb.1
 · cases h1 with
   | str h1=>
     cases h1 with
     | list f b1 b2 b3 b4 b5 b6=>
       have:=b4 i (unBody 300 (m.bodies.getD i default)) (by rw[List.getElem?_map,List.getElem?_eq_getElem hi];simp[gdE,hi]);generalize f i=z at this;cases this with
       | str k1=>
         cases k1 with
         | int k2=>
           obtain⟨q4,_,k3⟩:=k2.qb;exact⟨q4,k3.qb.1⟩
def k36:KF
 | [.agg [.q px B,.q pz D],.agg [.q qx C,.q qz E]]=>some (.agg [.q (px+qx) (B+C+2),.q (pz+qz) (D+E+2)],[B+D+C+E+300<=LIM])
 | _=>none
theorem a36:Ctr 36 k36:=by
 refine ctr Tryz.f36 fun _ _ _ S w0 h ho=> ?_
 unfold k36 at h;split at h <;> cases h;rename_i px B pz D qx C qz E;have o1:=ho.one;have L:=limE;have K:=kn.cons a26;exact rR K [] (.a2 (om (B+C+200<=LIM)) (om (D+E+200<=LIM)))
def k37:KF
 | [.agg [.q px B,.q pz D],.agg [.q c C,.q s E]]=>some (.agg [.q (c*px-s*pz) (B+D+C+E+6),.q (s*px+c*pz) (B+D+C+E+6)],[B+D+C+E+300<=LIM])
 | _=>none
theorem a37:Ctr 37 k37:=by
 refine ctr Tryz.f37 fun _ _ _ S w0 h ho=> ?_
 unfold k37 at h;split at h <;> cases h;rename_i px B pz D c C s E;have o1:=ho.one;have L:=limE;have K:=((kn.cons a29).cons a28).cons a26;exact rV K [] (.c6 (om (C+B+200<=LIM)) (om (E+D+200<=LIM)) (om ((C+B+2)+(E+D+2)+200<=LIM)) (om (E+B+200<=LIM)) (om (C+D+200<=LIM)) (om ((E+B+2)+(C+D+2)+200<=LIM)) (.a2 (om ((C+B+2)+(E+D+2)+2<=B+D+C+E+6)) (om ((E+B+2)+(C+D+2)+2<=B+D+C+E+6))))
def k119:KF
 | [.agg [.q ax A,.q az D,.q c C,.q s E],.agg [.q px B,.q pz F]]=>some (.agg [.q (ax+(c*px-s*pz)) (A+(B+F+C+E+6)+2),.q (az+(s*px+c*pz)) (D+(B+F+C+E+6)+2)],[A+D+2*B+2*F+2*C+2*E+400<=LIM])
 | _=>none
theorem a119:Ctr 119 k119:=by
 refine ctr Tryz.f119 fun _ _ _ S w0 h ho=> ?_
 unfold k119 at h;split at h <;> cases h;rename_i ax A az D c C s E px B pz F;have o1:=ho.one;have L:=limE;have K:=(kn.cons a37).cons a36;exact rR K [] (.a2 (om (B+F+C+E+300<=LIM)) (om (A+D+(B+F+C+E+6)+(B+F+C+E+6)+300<=LIM)))
def k94:KF
 | [.agg [.q c B,.q s D],.agg [.q e C,.q t E]]=>some (.agg [.q (c*e-s*t) (C+E+B+D+6),.q (s*e+c*t) (C+E+B+D+6)],[C+E+B+D+300<=LIM])
 | _=>none
theorem a94:Ctr 94 k94:=by
 refine ctr Tryz.f94 fun _ _ _ S w0 h ho=> ?_
 unfold k94 at h;split at h <;> cases h;rename_i c B s D e C t E;have o1:=ho.one;have K:=kn.cons a37;exact rR K [] (.a1 o1)
noncomputable abbrev n209T0:List Item:=[.code (nav [1,0,1] (bodyOf Tryz.f209)),.code (nav [1,1] (bodyOf Tryz.f209))]
def KT209_ok:=((kn.cons a119).cons a94).cons a38
abbrev n209_0:ABlk:=⟨175,12,false,[[.q 0 0,.q 0 0,.q 0 0,.q 0 0]],none⟩
abbrev n209_1 (r:Nat) (m:MachD) (jb:Nat) (p:PoseD):List AV:=[.cptr [.lit (.map (some r))] 0,AV.any,.cptr (unMach 300 m) 0,.cptr (unPose jb p) 0]
abbrev n209_2:AV:=(.tup [.agg [.q 0 0,.q 0 0,.q 0 0,.q 0 0],.bool false])
abbrev n209_3 (ff:Func):List Item:=[.code (nav [1,0,0] (bodyOf ff)),.code (nav [1,0,1] (bodyOf ff)),.code (nav [1,1] (bodyOf ff))]
section
variable {S0 C0:Nat->Prop} {w0:World} {Post:Value->World->Prop}
theorem x209_hit {B B':Base->Prop} (i r jb:Nat) (m:MachD) (p:PoseD) (clo:AV) (s:Nat) (f:FrameD)
   (hB:B ⟨S0,C0,w0⟩) (hX:∀ (Q:Exit->Act->World->Prop) β ρ D σ h a w,B β->Rel β.S β.C β.w ρ D ⟨σ,h⟩ a w->(∀ τ∈ [11,12],σ.getD τ .any=(slots 50 [(0,.i6 (i:Int)),(1,(.cptr [(.lit (.map (some r)))] 0)),(2,clo),(3,.cptr (unMach 300 m) 0),(4,(.cptr [(.q p.at_.x jb),(.q p.at_.z jb),(.q p.turn jb),(.list 3 (p.joints.map (unQ jb)))] 0)),(6,.ptr 0 12 0 0),(7,.ptr 1 12 0 0),(8,.bool true),(10,(.tup [(.agg [(.q f.at_.x (2*s)),(.q f.at_.z (2*s)),(.q f.c s),(.q f.s s)]),(.bool true)])),(11,.lit (.map (some r))),(12,.i6 (i:Int)),(13,(.tup [(.agg [(.q f.at_.x (2*s)),(.q f.at_.z (2*s)),(.q f.c s),(.q f.s s)]),(.bool true)])),(14,.agg [(.q f.at_.x (2*s)),(.q f.at_.z (2*s)),(.q f.c s),(.q f.s s)]),(15,.bool true)]).getD τ .any)->wpOp Tryz.prog (regOps (nav [1,0,0] (bodyOf Tryz.f209))) Q 2 (fun a' w'=>∃ β',B' β'/\Rel β'.S β'.C β'.w ρ D ⟨put σ (some 13) (.tup [.agg (unF s f),.bool true]),h⟩ a' w') a w)
   (hg:∀ β,B' β->Good Tryz.prog 209 β.S β.C β.w Post n209T0 ⟨slots 50 [(0,.i6 (i:Int)),(1,.cptr [.lit (.map (some r))] 0),(2,clo),(3,.cptr (unMach 300 m) 0),(4,.cptr (unPose jb p) 0),(6,.ptr 0 12 0 0),(7,.ptr 1 12 0 0),(8,.bool true),(10,.tup [.agg (unF s f),.bool true]),(11,.lit (.map (some r))),(12,.i6 (i:Int)),(13,.tup [.agg (unF s f),.bool true]),(14,.agg (unF s f)),(15,.bool true)],[some (n209_0),some ⟨175,12,false,[(unF s f)],none⟩]⟩):
   Good Tryz.prog 209 S0 C0 w0 Post (n209_3 Tryz.f209) ⟨slots 50 [(0,.i6 (i:Int)),(1,.cptr [.lit (.map (some r))] 0),(2,clo),(3,.cptr (unMach 300 m) 0),(4,.cptr (unPose jb p) 0),(6,.ptr 0 12 0 0)],[some (n209_0)]⟩:=
 Good.regX mixed TT0_ok KT209_ok 2 (c:=nav [1,0,0] (bodyOf Tryz.f209)) (oX:=((regOps (nav [1,0,0] (bodyOf Tryz.f209))).toList[2]?).getD default) (dX:=some 13) (V:=(.tup [.agg (unF s f),.bool true])) (ov:=[(13,(.tup [.agg (unF s f),.bool true]))]) (ob:=[]) [11,12] (by kernel_rfl) (by kernel_rfl) (by kernel_rfl) (by kernel_rfl) (by kernel_rfl)
   (AllP.nil) (Or.inr (by kernel_rfl)) (by kernel_rfl) hX hB hg
theorem x209_miss {B B':Base->Prop} (i r jb:Nat) (m:MachD) (p:PoseD) (clo:AV)
   (hB:B ⟨S0,C0,w0⟩) (hX:∀ (Q:Exit->Act->World->Prop) β ρ D σ h a w,B β->Rel β.S β.C β.w ρ D ⟨σ,h⟩ a w->(∀ τ∈ [11,12],σ.getD τ .any=(slots 50 [(0,.i6 (i:Int)),(1,(.cptr [(.lit (.map (some r)))] 0)),(2,clo),(3,.cptr (unMach 300 m) 0),(4,(.cptr [(.q p.at_.x jb),(.q p.at_.z jb),(.q p.turn jb),(.list 3 (p.joints.map (unQ jb)))] 0)),(6,.ptr 0 12 0 0),(7,.ptr 1 12 0 0),(8,.bool false),(10,.tup [(.agg [(.q 0 0),(.q 0 0),(.q 0 0),(.q 0 0)]),(.bool false)]),(11,.lit (.map (some r))),(12,.i6 (i:Int)),(13,.tup [(.agg [(.q 0 0),(.q 0 0),(.q 0 0),(.q 0 0)]),(.bool false)]),(14,.agg [(.q 0 0),(.q 0 0),(.q 0 0),(.q 0 0)]),(15,.bool false)]).getD τ .any)->wpOp Tryz.prog (regOps (nav [1,0,0] (bodyOf Tryz.f209))) Q 2 (fun a' w'=>∃ β',B' β'/\Rel β'.S β'.C β'.w ρ D ⟨put σ (some 13) (n209_2),h⟩ a' w') a w)
   (hg:∀ β,B' β->Good Tryz.prog 209 β.S β.C β.w Post n209T0 ⟨slots 50 [(0,.i6 (i:Int)),(1,.cptr [.lit (.map (some r))] 0),(2,clo),(3,.cptr (unMach 300 m) 0),(4,.cptr (unPose jb p) 0),(6,.ptr 0 12 0 0),(7,.ptr 1 12 0 0),(8,.bool false),(10,(n209_2)),(11,.lit (.map (some r))),(12,.i6 (i:Int)),(13,(n209_2)),(14,.agg [.q 0 0,.q 0 0,.q 0 0,.q 0 0]),(15,.bool false)],[some (n209_0),some (n209_0)]⟩):
   Good Tryz.prog 209 S0 C0 w0 Post (n209_3 Tryz.f209) ⟨slots 50 [(0,.i6 (i:Int)),(1,.cptr [.lit (.map (some r))] 0),(2,clo),(3,.cptr (unMach 300 m) 0),(4,.cptr (unPose jb p) 0),(6,.ptr 0 12 0 0)],[some (n209_0)]⟩:=
 Good.regX mixed TT0_ok KT209_ok 2 (c:=nav [1,0,0] (bodyOf Tryz.f209)) (oX:=((regOps (nav [1,0,0] (bodyOf Tryz.f209))).toList[2]?).getD default) (dX:=some 13) (V:=(n209_2)) (ov:=[(13,(n209_2))]) (ob:=[]) [11,12] (by kernel_rfl) (by kernel_rfl) (by kernel_rfl) (by kernel_rfl) (by kernel_rfl)
   (AllP.nil) (Or.inr (by kernel_rfl)) (by kernel_rfl) hX hB hg
theorem x209_call {B B':Base->Prop} (i r jb:Nat) (m:MachD) (p:PoseD) (v:BodyD) (s:Nat) (f:FrameD) (o:(Ref (.cptr ((m.bodies.map (unBody 300)).getD i []) 0) (.cptr (unBody 300 v) 0))/\((i:Int)<((m.bodies.map (unBody 300)).length:Int)))
   (hB:B ⟨S0,C0,w0⟩) (hX:∀ (Q:Exit->Act->World->Prop) β ρ D σ h a w,B β->Rel β.S β.C β.w ρ D ⟨σ,h⟩ a w->(∀ τ∈ [18,24],σ.getD τ .any=(slots 50 [(0,.i6 (i:Int)),(1,(.cptr [(.lit (.map (some r)))] 0)),(2,(.cptr [(.fn 209 [(.cptr [(.lit (.map (some r)))] 0),.any,(.cptr (unMach 300 m) 0),(.cptr [(.q p.at_.x jb),(.q p.at_.z jb),(.q p.turn jb),(.list 3 (p.joints.map (unQ jb)))] 0)])] 0)),(3,.cptr (unMach 300 m) 0),(4,(.cptr [(.q p.at_.x jb),(.q p.at_.z jb),(.q p.turn jb),(.list 3 (p.joints.map (unQ jb)))] 0)),(6,.ptr 0 12 0 0),(9,.ptr 1 12 0 0),(18,(.fn 209 [(.cptr [(.lit (.map (some r)))] 0),.any,(.cptr (unMach 300 m) 0),(.cptr [(.q p.at_.x jb),(.q p.at_.z jb),(.q p.turn jb),(.list 3 (p.joints.map (unQ jb)))] 0)])),(19,.cptr (unMach 300 m) 1),(20,.list 27 (m.bodies.map (unBody 300))),(21,.i6 (i:Int)),(22,(.cptr [(.str v.name),(.i6 v.par),(.q v.at_.x 300),(.q v.at_.z 300),(.q v.ma 300),(.q v.inr 300),(.q v.c.x 300),(.q v.c.z 300),(.q v.low 300),(.q v.high 300),(.list 6 (v.shape.map (unP 300)))] 0)),(23,(.cptr [(.str v.name),(.i6 v.par),(.q v.at_.x 300),(.q v.at_.z 300),(.q v.ma 300),(.q v.inr 300),(.q v.c.x 300),(.q v.c.z 300),(.q v.low 300),(.q v.high 300),(.list 6 (v.shape.map (unP 300)))] 1)),(24,.i6 v.par),(25,.agg [(.q f.at_.x (2*s)),(.q f.at_.z (2*s)),(.q f.c s),(.q f.s s)])]).getD τ .any)->wpOp Tryz.prog (regOps (nav [1,1,0] (bodyOf Tryz.f209))) Q 7 (fun a' w'=>∃ β',B' β'/\Rel β'.S β'.C β'.w ρ D ⟨put σ (some 25) (.agg (unF s f)),h⟩ a' w') a w)
   (hg:∀ β,B' β->Good Tryz.prog 209 β.S β.C β.w Post [.code (nav [1,1,1] (bodyOf Tryz.f209))] ⟨slots 50 [(0,.i6 (i:Int)),(1,.cptr [.lit (.map (some r))] 0),(2,.cptr [.fn 209 (n209_1 r m jb p)] 0),(3,.cptr (unMach 300 m) 0),(4,.cptr (unPose jb p) 0),(6,.ptr 0 12 0 0),(9,.ptr 1 12 0 0),(18,.fn 209 (n209_1 r m jb p)),(19,.cptr (unMach 300 m) 1),(20,.list 27 (m.bodies.map (unBody 300))),(21,.i6 (i:Int)),(22,.cptr (unBody 300 v) 0),(23,.cptr (unBody 300 v) 1),(24,.i6 v.par),(25,.agg (unF s f))],[some (n209_0),some ⟨175,12,false,[(unF s f)],none⟩]⟩):
   Good Tryz.prog 209 S0 C0 w0 Post [.code (nav [1,1,0] (bodyOf Tryz.f209)),.code (nav [1,1,1] (bodyOf Tryz.f209))] ⟨slots 50 [(0,.i6 (i:Int)),(1,.cptr [.lit (.map (some r))] 0),(2,.cptr [.fn 209 (n209_1 r m jb p)] 0),(3,.cptr (unMach 300 m) 0),(4,.cptr (unPose jb p) 0),(6,.ptr 0 12 0 0)],[some (n209_0)]⟩:=
 Good.regX mixed TT0_ok KT209_ok 7 (c:=nav [1,1,0] (bodyOf Tryz.f209)) (oX:=((regOps (nav [1,1,0] (bodyOf Tryz.f209))).toList[7]?).getD default) (dX:=some 25) (V:=(.agg (unF s f))) (ov:=[(22,(.cptr (unBody 300 v) 0)),(25,(.agg (unF s f)))]) (ob:=[Ref (.cptr ((m.bodies.map (unBody 300)).getD i []) 0) (.cptr (unBody 300 v) 0),0<=(i:Int),(i:Int)<((m.bodies.map (unBody 300)).length:Int)]) [18,24] (by kernel_rfl) (by kernel_rfl) (by kernel_rfl) (by kernel_rfl) (by kernel_rfl)
   (.cons (o.1) (.cons (Int.natCast_nonneg _) (.cons (o.2) (AllP.nil)))) (Or.inr (by kernel_rfl)) (by kernel_rfl) hX hB hg
theorem x209_upd {B B':Base->Prop} (i r jb:Nat) (m:MachD) (p:PoseD) (v:BodyD) (s e:Nat) (f g:FrameD) (t:Rat) (o:(Ref (.cptr ((m.bodies.map (unBody 300)).getD i []) 0) (.cptr (unBody 300 v) 0))/\((i:Int)<((m.bodies.map (unBody 300)).length:Int))/\((2*s)+(2*s)+2*300+2*300+2*s+2*s+400<=LIM)/\(-9223372036854775808<=(i:Int)-(1:Int)/\(i:Int)-(1:Int)<=9223372036854775807)/\(Ref (.cptr ((p.joints.map (unQ jb)).getD (((i:Int)-(1:Int)).toNat) []) 0) (.cptr [.q t jb] 0))/\(0<=((i:Int)-(1:Int)))/\(((i:Int)-(1:Int))<((p.joints.map (unQ jb)).length:Int))/\(4*jb+800<=LIM)/\((4*jb+200)+(4*jb+200)+s+s+300<=LIM)/\(Ref (.agg [.q (f.at_.x+(f.c*v.at_.x-f.s*v.at_.z)) ((2*s)+(300+300+s+s+6)+2),.q (f.at_.z+(f.s*v.at_.x+f.c*v.at_.z)) ((2*s)+(300+300+s+s+6)+2),.q (f.c*((1-t*t)/(1+t*t))-f.s*((t+t)/(1+t*t))) ((4*jb+200)+(4*jb+200)+s+s+6),.q (f.s*((1-t*t)/(1+t*t))+f.c*((t+t)/(1+t*t))) ((4*jb+200)+(4*jb+200)+s+s+6)]) (.agg (unF e g))))
   (hB:B ⟨S0,C0,w0⟩) (hX:∀ (Q:Exit->Act->World->Prop) β ρ D σ h a w,B β->Rel β.S β.C β.w ρ D ⟨σ,h⟩ a w->(∀ τ∈ [26,27,46],σ.getD τ .any=(slots 50 [(0,.i6 (i:Int)),(1,(.cptr [(.lit (.map (some r)))] 0)),(2,(.cptr [(.fn 209 [(.cptr [(.lit (.map (some r)))] 0),.any,(.cptr (unMach 300 m) 0),(.cptr [(.q p.at_.x jb),(.q p.at_.z jb),(.q p.turn jb),(.list 3 (p.joints.map (unQ jb)))] 0)])] 0)),(3,.cptr (unMach 300 m) 0),(4,(.cptr [(.q p.at_.x jb),(.q p.at_.z jb),(.q p.turn jb),(.list 3 (p.joints.map (unQ jb)))] 0)),(6,.ptr 0 12 0 0),(9,.ptr 1 12 0 0),(26,.lit (.map (some r))),(27,.i6 (i:Int)),(28,.agg [(.q f.at_.x (2*s)),(.q f.at_.z (2*s)),(.q f.c s),(.q f.s s)]),(29,.cptr (unMach 300 m) 1),(30,.list 27 (m.bodies.map (unBody 300))),(31,.i6 (i:Int)),(32,(.cptr [(.str v.name),(.i6 v.par),(.q v.at_.x 300),(.q v.at_.z 300),(.q v.ma 300),(.q v.inr 300),(.q v.c.x 300),(.q v.c.z 300),(.q v.low 300),(.q v.high 300),(.list 6 (v.shape.map (unP 300)))] 0)),(33,(.cptr [(.str v.name),(.i6 v.par),(.q v.at_.x 300),(.q v.at_.z 300),(.q v.ma 300),(.q v.inr 300),(.q v.c.x 300),(.q v.c.z 300),(.q v.low 300),(.q v.high 300),(.list 6 (v.shape.map (unP 300)))] 2)),(34,.agg [(.q v.at_.x 300),(.q v.at_.z 300)]),(35,(.agg [(.q (f.at_.x+(f.c*v.at_.x-f.s*v.at_.z)) ((2*s)+(300+300+s+s+6)+2)),(.q (f.at_.z+(f.s*v.at_.x+f.c*v.at_.z)) ((2*s)+(300+300+s+s+6)+2))])),(36,.ptr 1 12 0 6),(37,.agg [(.q f.c s),(.q f.s s)]),(38,(.cptr [(.q p.at_.x jb),(.q p.at_.z jb),(.q p.turn jb),(.list 3 (p.joints.map (unQ jb)))] 9)),(39,.list 3 (p.joints.map (unQ jb))),(40,.i6 (i:Int)),(41,.i6 ((i:Int)-(1:Int))),(42,.cptr [(.q t jb)] 0),(43,.agg [(.q t jb)]),(44,(.agg [(.q ((1-t*t)/(1+t*t)) (4*jb+200)),(.q ((t+t)/(1+t*t)) (4*jb+200))])),(45,(.agg [(.q (f.c*((1-t*t)/(1+t*t))-f.s*((t+t)/(1+t*t))) ((4*jb+200)+(4*jb+200)+s+s+6)),(.q (f.s*((1-t*t)/(1+t*t))+f.c*((t+t)/(1+t*t))) ((4*jb+200)+(4*jb+200)+s+s+6))])),(46,.agg [(.q g.at_.x (2*e)),(.q g.at_.z (2*e)),(.q g.c e),(.q g.s e)])]).getD τ .any)->wpOp Tryz.prog (regOps (nav [1,1,1,0] (bodyOf Tryz.f209))) Q 21 (fun a' w'=>∃ β',B' β'/\Rel β'.S β'.C β'.w ρ D ⟨put σ (none) AV.any,h⟩ a' w') a w)
   (hg:∀ β,B' β->Good Tryz.prog 209 β.S β.C β.w Post [.code (nav [1,1,1,1] (bodyOf Tryz.f209))] ⟨slots 50 [(0,.i6 (i:Int)),(1,.cptr [.lit (.map (some r))] 0),(2,.cptr [.fn 209 (n209_1 r m jb p)] 0),(3,.cptr (unMach 300 m) 0),(4,.cptr (unPose jb p) 0),(6,.ptr 0 12 0 0),(9,.ptr 1 12 0 0),(26,.lit (.map (some r))),(27,.i6 (i:Int)),(28,.agg (unF s f)),(29,.cptr (unMach 300 m) 1),(30,.list 27 (m.bodies.map (unBody 300))),(31,.i6 (i:Int)),(32,.cptr (unBody 300 v) 0),(33,.cptr (unBody 300 v) 2),(34,.agg [.q v.at_.x 300,.q v.at_.z 300]),(35,.agg [.q (f.at_.x+(f.c*v.at_.x-f.s*v.at_.z)) ((2*s)+(300+300+s+s+6)+2),.q (f.at_.z+(f.s*v.at_.x+f.c*v.at_.z)) ((2*s)+(300+300+s+s+6)+2)]),(36,.ptr 1 12 0 6),(37,.agg [.q f.c s,.q f.s s]),(38,.cptr (unPose jb p) 9),(39,.list 3 (p.joints.map (unQ jb))),(40,.i6 (i:Int)),(41,.i6 ((i:Int)-(1:Int))),(42,.cptr [.q t jb] 0),(43,.agg [.q t jb]),(44,.agg [.q ((1-t*t)/(1+t*t)) (4*jb+200),.q ((t+t)/(1+t*t)) (4*jb+200)]),(45,(.agg [.q (f.c*((1-t*t)/(1+t*t))-f.s*((t+t)/(1+t*t))) ((4*jb+200)+(4*jb+200)+s+s+6),.q (f.s*((1-t*t)/(1+t*t))+f.c*((t+t)/(1+t*t))) ((4*jb+200)+(4*jb+200)+s+s+6)])),(46,.agg (unF e g))],[some (n209_0),some ⟨175,12,false,[(unF s f)],none⟩,none,none,none]⟩):
   Good Tryz.prog 209 S0 C0 w0 Post [.code (nav [1,1,1,0] (bodyOf Tryz.f209)),.code (nav [1,1,1,1] (bodyOf Tryz.f209))] ⟨slots 50 [(0,.i6 (i:Int)),(1,.cptr [.lit (.map (some r))] 0),(2,.cptr [.fn 209 (n209_1 r m jb p)] 0),(3,.cptr (unMach 300 m) 0),(4,.cptr (unPose jb p) 0),(6,.ptr 0 12 0 0),(9,.ptr 1 12 0 0)],[some (n209_0),some ⟨175,12,false,[(unF s f)],none⟩]⟩:=
 Good.regX mixed TT0_ok KT209_ok 21 (c:=nav [1,1,1,0] (bodyOf Tryz.f209)) (oX:=((regOps (nav [1,1,1,0] (bodyOf Tryz.f209))).toList[21]?).getD default) (dX:=none) (V:=AV.any) (ov:=[(32,(.cptr (unBody 300 v) 0)),(41,(.i6 ((i:Int)-(1:Int)))),(42,(.cptr [.q t jb] 0)),(46,(.agg (unF e g)))]) (ob:=[Ref (.cptr ((m.bodies.map (unBody 300)).getD i []) 0) (.cptr (unBody 300 v) 0),0<=(i:Int),(i:Int)<((m.bodies.map (unBody 300)).length:Int),(2*s)+(2*s)+2*300+2*300+2*s+2*s+400<=LIM,Ref (.i6 (IntKind.i64.wrap ((i:Int)-(1:Int)))) (.i6 ((i:Int)-(1:Int))),Ref (.cptr ((p.joints.map (unQ jb)).getD (((i:Int)-(1:Int)).toNat) []) 0) (.cptr [.q t jb] 0),0<=((i:Int)-(1:Int)),((i:Int)-(1:Int))<((p.joints.map (unQ jb)).length:Int),4*jb+800<=LIM,(4*jb+200)+(4*jb+200)+s+s+300<=LIM,Ref (.agg [.q (f.at_.x+(f.c*v.at_.x-f.s*v.at_.z)) ((2*s)+(300+300+s+s+6)+2),.q (f.at_.z+(f.s*v.at_.x+f.c*v.at_.z)) ((2*s)+(300+300+s+s+6)+2),.q (f.c*((1-t*t)/(1+t*t))-f.s*((t+t)/(1+t*t))) ((4*jb+200)+(4*jb+200)+s+s+6),.q (f.s*((1-t*t)/(1+t*t))+f.c*((t+t)/(1+t*t))) ((4*jb+200)+(4*jb+200)+s+s+6)]) (.agg (unF e g))]) [26,27,46] (by kernel_rfl) (by kernel_rfl) (by kernel_rfl) (by kernel_rfl) (by kernel_rfl)
   (.cons (o.1) (.cons (Int.natCast_nonneg _) (.cons (o.2.1) (.cons (o.2.2.1) (.cons ((Ref.wr o.2.2.2.1).trans (Ref.int (by rfl))) (.cons (o.2.2.2.2.1) (.cons (o.2.2.2.2.2.1) (.cons (o.2.2.2.2.2.2.1) (.cons (o.2.2.2.2.2.2.2.1) (.cons (o.2.2.2.2.2.2.2.2.1) (.cons (o.2.2.2.2.2.2.2.2.2) (AllP.nil)))))))))))) (Or.inl rfl) (by kernel_rfl) hX hB hg
theorem x209_last {B B':Base->Prop} (i r e:Nat) (g:FrameD)
   (hB:B ⟨S0,C0,w0⟩) (hX:∀ (Q:Exit->Act->World->Prop) β ρ D σ h a w,B β->Rel β.S β.C β.w ρ D ⟨σ,h⟩ a w->(∀ τ∈ [47,48],σ.getD τ .any=(slots 50 [(0,.i6 (i:Int)),(1,(.cptr [(.lit (.map (some r)))] 0)),(6,.ptr 0 12 0 0),(47,.lit (.map (some r))),(48,.i6 (i:Int)),(49,.agg [(.q g.at_.x (2*e)),(.q g.at_.z (2*e)),(.q g.c e),(.q g.s e)])]).getD τ .any)->wpOp Tryz.prog (regOps (nav [1,1,1,1,0] (bodyOf Tryz.f209))) Q 2 (fun a' w'=>∃ β',B' β'/\Rel β'.S β'.C β'.w ρ D ⟨put σ (some 49) (.agg (unF e g)),h⟩ a' w') a w)
   (hg:∀ β,B' β->Good Tryz.prog 209 β.S β.C β.w Post [.code .ret] ⟨slots 50 [(0,.i6 (i:Int)),(1,.cptr [.lit (.map (some r))] 0),(6,.ptr 0 12 0 0),(47,.lit (.map (some r))),(48,.i6 (i:Int)),(49,.agg (unF e g))],[some ⟨175,12,false,[(unF e g)],none⟩]⟩):
   Good Tryz.prog 209 S0 C0 w0 Post [.code (nav [1,1,1,1,0] (bodyOf Tryz.f209)),.code .ret] ⟨slots 50 [(0,.i6 (i:Int)),(1,.cptr [.lit (.map (some r))] 0),(6,.ptr 0 12 0 0)],[some (n209_0)]⟩:=
 Good.regX mixed TT0_ok KT209_ok 2 (c:=nav [1,1,1,1,0] (bodyOf Tryz.f209)) (oX:=((regOps (nav [1,1,1,1,0] (bodyOf Tryz.f209))).toList[2]?).getD default) (dX:=some 49) (V:=(.agg (unF e g))) (ov:=[(49,(.agg (unF e g)))]) (ob:=[]) [47,48] (by kernel_rfl) (by kernel_rfl) (by kernel_rfl) (by kernel_rfl) (by kernel_rfl)
   (AllP.nil) (Or.inr (by kernel_rfl)) (by kernel_rfl) hX hB hg
end
noncomputable abbrev c209T0:List Item:=[.code (nav [1,0,0] (bodyOf Tryz.f209)),.code (nav [1,0,1] (bodyOf Tryz.f209)),.code (nav [1,1] (bodyOf Tryz.f209))]
abbrev kbA (r:Nat):AV:=.cptr [.lit (.map (some r))] 0
abbrev cloA (jb r:Nat) (m:MachD) (p:PoseD):AV:=.cptr [.fn 209 [kbA r,.any,.cptr (unMach 300 m) 0,.cptr (unPose jb p) 0]] 0
theorem und366:Tryz.prog.underlying 366=some (.map 3 175):=by kernel_rfl
theorem und3:Tryz.prog.underlying 3=some (.int .i64):=by kernel_rfl
theorem op209_1:∃ oX:Oper,(regOps (nav [1,0,0] (bodyOf Tryz.f209)))[2]? =some oX/\oX.guard=none/\oX.op=Op.lookup 366 (Operand.tmp 11) (Operand.tmp 12) true/\oX.dst=some 13:=
 ⟨((regOps (nav [1,0,0] (bodyOf Tryz.f209))).toList[2]?).getD default,by kernel_rfl,by kernel_rfl,by kernel_rfl,by kernel_rfl⟩
theorem hit209 (jb:Nat) (m:MachD) (p:PoseD) {S:Nat->Prop} {w:World} {vals:List Value} {i n r:Nat} {clo:AV} (hS:∀ k,S k->k<w.heap.size) (M:Memo (frs jb m p) n S w r) (hi:i<n)
   (hargs:RelVs ρ0 S w No [.i6 ((i:Nat):Int),kbA r,clo,.cptr (unMach 300 m) 0,.cptr (unPose jb p) 0] vals):
   Calls Tryz.prog 209 vals.toArray w fun e w'=>∃ v,e= .returned v/\PostF S w (.agg (frs jb m p i)) v w':=by
 refine calls_of (fn:=Tryz.f209) (c:=bodyOf Tryz.f209) (by kernel_rfl) (by kernel_rfl) hS hargs ?_;have e:st0 [.i6 ((i:Nat):Int),kbA r,clo,.cptr (unMach 300 m) 0,.cptr (unPose jb p) 0] Tryz.f209.ntmps=⟨slots 50 [(0,.i6 ((i:Nat):Int)),(1,kbA r),(2,clo),(3,.cptr (unMach 300 m) 0),(4,.cptr (unPose jb p) 0)],[]⟩:=by kernel_rfl
 rw[e];clear e;refine gS KT209_ok (some 1) [0,1,2,3,4,6] [] .nil (t:=c209T0) (σ:=slots 50 [(0,.i6 (i:Int)),(1,.cptr [.lit (.map (some r))] 0),(2,clo),(3,.cptr (unMach 300 m) 0),(4,.cptr (unPose jb p) 0),(6,.ptr 0 12 0 0)]) (h:=[some ⟨175,12,false,[[.q 0 0,.q 0 0,.q 0 0,.q 0 0]],none⟩]) ?_
 refine x209_hit (B:=fun β=>β=⟨S,No,w⟩) (B':=fun β=>β=⟨S,No,w⟩) i r jb m p clo (rz jb i) (fr m p i) rfl ?_ ?_
 · rintro Q β ρ D σ h a w1 rfl R hA
   have h1:=R.eval (.tmp 11);have h2:=R.eval (.tmp 12);have e1:aval σ (.tmp 11)= .lit (.map (some r)):=(hA 11 (by simp)).trans (by kernel_rfl);have e2:aval σ (.tmp 12)= .i6 ((i:Nat):Int):=(hA 12 (by simp)).trans (by kernel_rfl);rw[e1] at h1;rw[e2] at h2;have M1:=(M.keep (S':=fun k=>S k\/No k) (rl _) rfl fun k _ hs=>⟨fun h=>h.elim hs id,rfl⟩).now R (fun h=>h);obtain⟨vs,hrun,hrel⟩:=M1.look und366 und3 hi;obtain⟨oX,hoX,hg,hop,hd⟩:=op209_1;refine wpOp_run hoX hg (v:=.tuple #[.agg vs.toArray,.bool true]) (w':=w1) ?_ ?_
   · rw[execOp,hop]
     have:=hrun true;simp only[if_true] at this;simp only[h1.lit_inv,h2.int_inv,Sem.run_bind,this];rfl
   · rw[hd]
     refine⟨_,rfl,R.val ⟨[.agg vs.toArray,.bool true],rfl,⟨vs,rfl,toD hrel⟩, ?_,trivial⟩⟩;exact .bool .done
 · rintro β rfl
   refine Good.pk 50 [(6,.ptr 0 12 0 0),(7,.ptr 1 12 0 0),(8,.bool true)] ?_;exact rR KT209_ok [] .nil
theorem op209_4:∃ (oX:Oper) (c:Call),(regOps (nav [1,1,0] (bodyOf Tryz.f209)))[7]? =some oX/\oX.guard=none/\oX.op=Op.call c/\c.callee=Callee.value (Operand.tmp 18)/\c.args= #[Operand.tmp 24]/\oX.dst=some 25:=
 ⟨((regOps (nav [1,1,0] (bodyOf Tryz.f209))).toList[7]?).getD default,⟨Callee.value (Operand.tmp 18), #[Operand.tmp 24], #[3]⟩,by kernel_rfl,by kernel_rfl,by kernel_rfl,rfl,rfl,by kernel_rfl⟩
theorem op209_5:∃ oX:Oper,(regOps (nav [1,1,1,0] (bodyOf Tryz.f209)))[21]? =some oX/\oX.guard=none/\oX.op=Op.mapUpdate 366 (Operand.tmp 26) (Operand.tmp 27) (Operand.tmp 46)/\oX.dst=none:=
 ⟨((regOps (nav [1,1,1,0] (bodyOf Tryz.f209))).toList[21]?).getD default,by kernel_rfl,by kernel_rfl,by kernel_rfl,by kernel_rfl⟩
theorem op209_6:∃ oX:Oper,(regOps (nav [1,1,1,1,0] (bodyOf Tryz.f209)))[2]? =some oX/\oX.guard=none/\oX.op=Op.lookup 366 (Operand.tmp 47) (Operand.tmp 48) false/\oX.dst=some 49:=
 ⟨((regOps (nav [1,1,1,1,0] (bodyOf Tryz.f209))).toList[2]?).getD default,by kernel_rfl,by kernel_rfl,by kernel_rfl,by kernel_rfl⟩
theorem has209:HasBody Tryz.prog 209:=⟨Tryz.f209,by kernel_rfl,by kernel_rfl,by kernel_rfl⟩
theorem zero175:∃ vs:List Value,(∀ w,(zeroValue 175).run Tryz.prog w= .ok (.agg vs.toArray) w)/\∀ ρ S w D,RelCs ρ S w D [.q 0 0,.q 0 0,.q 0 0,.q 0 0] vs:=by
 obtain⟨z,h1,_,h3⟩:=zero_run (TT0_ok 175 ⟨12,224,[.q 0 0,.q 0 0,.q 0 0,.q 0 0],.struct [(0,6,58),(6,6,98)]⟩ (by kernel_rfl));obtain⟨vs,hv⟩:∃ vs:List Value,∀ w,(zeroValue 175).run Tryz.prog w= .ok (.agg vs.toArray) w:=⟨[.bool false,.slice none 0 0,.slice none 0 0,.bool false,.slice none 0 0,.slice none 0 0,.bool false,.slice none 0 0,.slice none 0 0,.bool false,.slice none 0 0,.slice none 0 0],fun w=>by kernel_rfl⟩
 have:z= .agg vs.toArray:=by
   have h:=h1 default;rw[hv default] at h;injection h with h;exact h.symm
 subst this;exact⟨vs,hv,fun ρ S w D=>by simpa[Value.cells] using h3 ρ S w D⟩
def After (F:Nat->List AV) (n r:Nat) (S:Nat->Prop) (w:World) (β:Base):Prop:=
 β.S=S/\(∀ k,β.C k->w.heap.size<=k)/\Chg (· =r) w β.w/\Memo F n (fun k=>S k\/β.C k) β.w r
theorem miss209 {jb:Nat} (hjb:jb<=100000) (m:MachD) (p:PoseD) (ht:m.tree) {S:Nat->Prop} {w:World} {vals:List Value} {i r:Nat} (hS:∀ k,S k->k<w.heap.size) (hr:S r) (M:Memo (frs jb m p) i S w r) (h0:0<i) (hi:i<m.bodies.length) (h12:i<=7) (hj:i<=p.joints.length) (hQ:FQ (rz jb i) (fr m p i))
   (hargs:RelVs ρ0 S w No [.i6 ((i:Nat):Int),kbA r,cloA jb r m p,.cptr (unMach 300 m) 0,.cptr (unPose jb p) 0] vals):
   Calls Tryz.prog 209 vals.toArray w fun e w'=>∃ v,e= .returned v/\RelV ρ0 S w' No (.agg (frs jb m p i)) v/\Chg (· =r) w w'/\Memo (frs jb m p) (i+1) S w' r:=by
 refine(calls_of (Post:=fun v w'=>RelV ρ0 S w' No (.agg (frs jb m p i)) v/\Chg (· =r) w w'/\Memo (frs jb m p) (i+1) S w' r) (fn:=Tryz.f209) (c:=bodyOf Tryz.f209) (by kernel_rfl) (by kernel_rfl) hS hargs ?_);have e:st0 [.i6 ((i:Nat):Int),kbA r,cloA jb r m p,.cptr (unMach 300 m) 0,.cptr (unPose jb p) 0] Tryz.f209.ntmps=⟨slots 50 [(0,.i6 ((i:Nat):Int)),(1,kbA r),(2,cloA jb r m p),(3,.cptr (unMach 300 m) 0),(4,.cptr (unPose jb p) 0)],[]⟩:=by kernel_rfl
 rw[e];clear e;have hrw:r<w.heap.size:=hS r hr;have M0:Memo (frs jb m p) i (fun k=>S k\/No k) w r:=M.keep (rl _) rfl fun k _ hs=>⟨fun h=>h.elim hs id,rfl⟩
 obtain⟨hp0,hp1⟩:=ht i h0 hi;obtain⟨v,hv⟩:∃ v,v=m.bodies.getD i default:=⟨_,rfl⟩;rw[<- hv] at hp0 hp1;obtain⟨j,hjp⟩:∃ j:Nat,v.par=((j:Nat):Int):=⟨v.par.toNat,by omega⟩;have hji:j<i:=by omega
 have hbody:Ref (.cptr ((m.bodies.map (unBody 300)).getD i []) 0) (.cptr (unBody 300 v) 0):=by rw[hv];exact Ref.cmap hi
 have hlen:(m.bodies.map (unBody 300)).length=m.bodies.length:=lmE ..;have hjl:(p.joints.map (unQ jb)).length=p.joints.length:=lmE ..
 have hstep:fr m p i=stepF (fr m p j) v (p.joints.getD (i-1) default):=by
   rw[fr_step ht h0 hi, <- hv,hjp];rfl
 have hszj:rz jb j<=SZ jb:=rz_le (by omega);have hjb1:jb<=rz jb j:=rz_jb jb j;unfold SZ at hszj;refine gS KT209_ok (some 1) [0,1,2,3,4,6] [] .nil (t:=c209T0) (σ:=slots 50 [(0,.i6 (i:Int)),(1,.cptr [.lit (.map (some r))] 0),(2,(cloA jb r m p)),(3,.cptr (unMach 300 m) 0),(4,.cptr (unPose jb p) 0),(6,.ptr 0 12 0 0)]) (h:=[some ⟨175,12,false,[[.q 0 0,.q 0 0,.q 0 0,.q 0 0]],none⟩]) ?_
 refine x209_miss (B:=fun β=>β=⟨S,No,w⟩) (B':=fun β=>β=⟨S,No,w⟩) i r jb m p _ rfl ?_ ?_
 · rintro Q β ρ D σ h a w1 rfl R hA
   have h1:=R.eval (.tmp 11);have h2:=R.eval (.tmp 12);have e1:aval σ (.tmp 11)= .lit (.map (some r)):=(hA 11 (by simp)).trans (by kernel_rfl);have e2:aval σ (.tmp 12)= .i6 ((i:Nat):Int):=(hA 12 (by simp)).trans (by kernel_rfl);rw[e1] at h1;rw[e2] at h2;have M1:=M0.now R (fun h=>h);obtain⟨vs,hz,hrel⟩:=zero175;have hrun:=M1.miss und366 und3 (rl _) (hz w1);obtain⟨oX,hoX,hg,hop,hd⟩:=op209_1;refine wpOp_run hoX hg (v:=.tuple #[.agg vs.toArray,.bool false]) (w':=w1) ?_ ?_
   · rw[execOp,hop]
     simp only[h1.lit_inv,h2.int_inv,Sem.run_bind,hrun];rfl
   · rw[hd]
     refine⟨_,rfl,R.val ⟨[.agg vs.toArray,.bool false],rfl,⟨vs,rfl,hrel _ _ _ _⟩, ?_,trivial⟩⟩;exact .bool .done
 rintro β rfl;refine Good.pk 50 [(0,.i6 ((i:Nat):Int)),(1,kbA r),(2,cloA jb r m p),(3,.cptr (unMach 300 m) 0),(4,.cptr (unPose jb p) 0),(6,.ptr 0 12 0 0),(7,.ptr 1 12 0 0),(8,.bool false)] ?_;refine gR KT209_ok (some 4) [0,1,2,3,4,6] [0] [] .nil (t:=[.code (nav [1,1,0] (bodyOf Tryz.f209)),.code (nav [1,1,1] (bodyOf Tryz.f209))]) (σ:=slots 50 [(0,.i6 (i:Int)),(1,.cptr [.lit (.map (some r))] 0),(2,.cptr [.fn 209 [.cptr [.lit (.map (some r))] 0,.any,.cptr (unMach 300 m) 0,.cptr (unPose jb p) 0]] 0),(3,.cptr (unMach 300 m) 0),(4,.cptr (unPose jb p) 0),(6,.ptr 0 12 0 0)]) (h:=[some ⟨175,12,false,[[.q 0 0,.q 0 0,.q 0 0,.q 0 0]],none⟩]) ?_
 refine x209_call (B:=fun β=>β=⟨S,No,w⟩) (B':=fun β=>β=⟨S,No,w⟩) i r jb m p v (rz jb j) (fr m p j) ⟨hbody,by rw[hlen];omega⟩ rfl ?_ ?_
 · rintro Q β ρ D σ h a w1 rfl R hA
   have e1:aval σ (.tmp 18)= .fn 209 [kbA r,.any,.cptr (unMach 300 m) 0,.cptr (unPose jb p) 0]:=(hA 18 (by simp)).trans (by kernel_rfl);have e2:aval σ (.tmp 24)= .i6 v.par:=(hA 24 (by simp)).trans (by kernel_rfl);obtain⟨oX,c,hoX,hg,hop,hc,hargs,hd⟩:=op209_4;have M1:=M0.now R (fun h=>h);have hmap:c.args.toList.map (aval σ)= [.i6 ((j:Nat):Int)]:=by rw[hargs];simp[e2,hjp]
   have hcall:=wpOp_call (Q:=Q) (J:=PostF (Sof S ρ h) w1 (.agg (frs jb m p j))) R hoX hg hop hc e1 (by rw[hmap];simp[noRefV,noRef,noRef0,isCap,wd]) has209 (fun vals hvals=>by
     rw[hmap] at hvals
     exact hit209 jb m p (fun k=>R.Slt) M1 hji hvals)
   refine wpOp_mono ?_ hcall;rintro a' w' ⟨u,⟨hu,hch⟩,rfl⟩;rw[hd];refine⟨_,rfl,R.called hch ?_⟩;obtain⟨us,h1,h2⟩:=hu;exact⟨us,h1,toD h2⟩
 rintro β rfl;refine Good.pk 50 [(0,.i6 ((i:Nat):Int)),(1,kbA r),(2,cloA jb r m p),(3,.cptr (unMach 300 m) 0),(4,.cptr (unPose jb p) 0),(6,.ptr 0 12 0 0),(9,.ptr 1 12 0 0)] ?_;refine gS KT209_ok (some 5) [0,1,2,3,4,6,9] [] .nil (t:=[.code (nav [1,1,1,0] (bodyOf Tryz.f209)),.code (nav [1,1,1,1] (bodyOf Tryz.f209))]) (σ:=slots 50 [(0,.i6 (i:Int)),(1,.cptr [.lit (.map (some r))] 0),(2,.cptr [.fn 209 [.cptr [.lit (.map (some r))] 0,.any,.cptr (unMach 300 m) 0,.cptr (unPose jb p) 0]] 0),(3,.cptr (unMach 300 m) 0),(4,.cptr (unPose jb p) 0),(6,.ptr 0 12 0 0),(9,.ptr 1 12 0 0)]) (h:=[some ⟨175,12,false,[[.q 0 0,.q 0 0,.q 0 0,.q 0 0]],none⟩,some ⟨175,12,false,[(unF (rz jb j) (fr m p j))],none⟩]) ?_
 refine x209_upd (B:=fun β=>β=⟨S,No,w⟩) (B':=After (frs jb m p) (i+1) r S w) i r jb m p v (rz jb j) (rz jb i) (fr m p j) (fr m p i) (p.joints.getD (i-1) default)
   ⟨hbody,by rw[hlen];omega,by unfold LIM;omega,by omega, ?_,by omega,by rw[hjl];omega,by unfold LIM;omega,by unfold LIM;omega, ?_⟩ rfl ?_ ?_
 · have:(((i:Nat):Int)-1).toNat=i-1:=by omega
   rw[this];exact Ref.cmap (f:=unQ jb) (by omega)
 · exact Ref.frame hstep hQ
 · rintro Q β ρ D σ h a w1 rfl R hA
   have h1:=R.eval (.tmp 26);have h2:=R.eval (.tmp 27);have h3:=R.eval (.tmp 46);have e1:aval σ (.tmp 26)= .lit (.map (some r)):=(hA 26 (by simp)).trans (by kernel_rfl);have e2:aval σ (.tmp 27)= .i6 ((i:Nat):Int):=(hA 27 (by simp)).trans (by kernel_rfl);have e3:aval σ (.tmp 46)= .agg (frs jb m p i):=(hA 46 (by simp)).trans (by kernel_rfl);rw[e1] at h1;rw[e2] at h2;rw[e3] at h3;have M1:=M0.now R (fun h=>h);obtain⟨us,k1,k2⟩:=RelV0.noRef h3 (by rfl) ρ0;obtain⟨w2,hrun,hch,M2⟩:=M1.upd und366 und3 k2 (.inl hr);obtain⟨oX,hoX,hg,hop,hd⟩:=op209_5;refine wpOp_skip hoX hg (w':=w2) ?_ ?_
   · rw[execOp,hop]
     simp only[h1.lit_inv,h2.int_inv,k1,Sem.run_bind,hrun];rfl
   · rw[hd]
     refine⟨⟨S,ownC ρ h,w2⟩,⟨rfl, ?_, ?_,M2⟩,R.turn hch (fun k hk=>by subst hk;exact hr) (.inl rfl)⟩
     · rintro k ⟨l,b,hb,rfl⟩
       exact(R.mine l b hb).1.elim (fun h=>h.elim) id
     · exact(R.chg.mono (fun _ h=>h.elim)).trans hch fun _ _ h=>h
 rintro β hβ;refine Good.pk 50 [(0,.i6 ((i:Nat):Int)),(1,kbA r),(6,.ptr 0 12 0 0)] ?_;refine Good.tidy [0] (by decide) (σ':=slots 50 [(0,.i6 ((i:Nat):Int)),(1,kbA r),(6,.ptr 0 12 0 0)]) (h':=[some ⟨175,12,false,[[(.q 0 0),(.q 0 0),(.q 0 0),(.q 0 0)]],none⟩]) (by kernel_rfl) (by kernel_rfl) ?_;refine gS KT209_ok (some 6) [0,1,6] [] .nil (t:=[.code (nav [1,1,1,1,0] (bodyOf Tryz.f209)),.code .ret]) (σ:=slots 50 [(0,.i6 (i:Int)),(1,.cptr [.lit (.map (some r))] 0),(6,.ptr 0 12 0 0)]) (h:=[some ⟨175,12,false,[[.q 0 0,.q 0 0,.q 0 0,.q 0 0]],none⟩]) ?_
 refine x209_last (B:=After (frs jb m p) (i+1) r S w) (B':=After (frs jb m p) (i+1) r S w) i r (rz jb i) (fr m p i) hβ ?_ ?_
 · rintro Q β ρ D σ h a w1 ⟨rfl,b1,b2,b3⟩ R hA
   have h1:=R.eval (.tmp 47);have h2:=R.eval (.tmp 48);have e1:aval σ (.tmp 47)= .lit (.map (some r)):=(hA 47 (by simp)).trans (by kernel_rfl);have e2:aval σ (.tmp 48)= .i6 ((i:Nat):Int):=(hA 48 (by simp)).trans (by kernel_rfl);rw[e1] at h1;rw[e2] at h2;have M1:=b3.now R (fun h=>by have:=b1 r h;omega);obtain⟨vs,hrun,hrel⟩:=M1.look und366 und3 (Nat.lt_succ_self i);obtain⟨oX,hoX,hg,hop,hd⟩:=op209_6;refine wpOp_run hoX hg (v:=.agg vs.toArray) (w':=w1) ?_ ?_
   · rw[execOp,hop]
     have:=hrun false;simp only[Bool.false_eq_true,if_false] at this;simp only[h1.lit_inv,h2.int_inv,Sem.run_bind,this];rfl
   · rw[hd]
     exact⟨_,⟨rfl,b1,b2,b3⟩,R.val ⟨vs,rfl,toD hrel⟩⟩
 · rintro β ⟨rfl,b1,b2,b3⟩
   refine good_end TT0_ok (fn:=Tryz.f209) (by kernel_rfl) (.inr ⟨_,rfl⟩) (Vs:=[.agg (frs jb m p i)]) (by kernel_rfl) (.inl rfl) fun ρ D a w2 u R hu=>⟨outer_rel hu rfl (fun k h=>.inl h), ?_, ?_⟩
   · exact b2.trans R.chg fun k hk hc=>absurd hk (by have:=b1 k hc;omega)
   · exact b3.keep R.chg.size (R.chg.block r (by obtain⟨es,clk,g,_⟩:=b3;exact heap_lt g) fun h=>by have:=b1 r h;omega) fun k hk hs=>⟨fun h=>hs (.inl h),R.chg.block k hk fun h=>hs (.inr h)⟩
theorem Chg.alloc (w:World) (o:Obj):Chg No w (w.alloc o):=Chg.ofNo rfl rfl rfl (by simp) fun k hk=>Below.heap_alloc w o k hk
def Aft (F:Nat->List AV) (n r:Nat) (S1:Nat->Prop) (w:World) (β:Base):Prop:=
 β.S=S1/\(∀ k,β.C k->w.heap.size<=k)/\¬ β.C r/\Chg No w β.w/\Memo F n (fun k=>S1 k\/β.C k) β.w r
abbrev mapV (r:Nat):AV:=.lit (.map (some r))
abbrev ptrV (k:Nat):AV:=.lit (.pointer (some ⟨k,0,none⟩))
structure G4 where
 ov:List (Nat×AV)
 r:Nat
 k:Nat
structure J4 (F:Nat->List AV) (S:Nat->Prop) (w:World) (l0 l7 l8 l9 l10:Bool) (g:G4) (β:Base):Prop where
 c:∀ x,β.C x->w.heap.size<=x
 chg:Chg No w β.w
 ov:g.ov=(if l0=true then [(17,mapV g.r)] else [])++(if l8=true then [(24,mapV g.r)] else [])++(if l9=true then [(7,ptrV g.k)] else [])
 s:∀ x,β.S x↔S x\/(l0=true/\x=g.r)\/(l9=true/\x=g.k)
 r0:l0=true->w.heap.size<=g.r/\¬ β.C g.r/\g.r<β.w.heap.size
 r1:l0=true->l7=false->β.w.heap[g.r]? =some (.map #[] 0)
 r2:l7=true->Memo F 1 (fun x=>β.S x\/β.C x) β.w g.r
 k0:l9=true->w.heap.size<=g.k/\¬ β.C g.k/\g.k<β.w.heap.size
 k1:l9=true->∃ c,β.w.heap[g.k]? =some (.cells #[c] 366 (0,0))/\(l10=true->c= .map (some g.r))
 e7:l7=true->l0=true
 e8:l8=true->l7=true
 e10:l10=true->l8=true/\l9=true
def I4 (F:Nat->List AV) (S:Nat->Prop) (w:World) (L:Array Bool) (g:G4) (β:Base):Prop:=
 J4 F S w (L.getD 0 false) (L.getD 7 false) (L.getD 8 false) (L.getD 9 false) (L.getD 10 false) g β
theorem I4.other {F:Nat->List AV} {S:Nat->Prop} {w:World} {L:Array Bool} {i:Nat} {g:G4} {β:Base} (hi:i ∉ [0,7,8,9,10]) (h:I4 F S w L g β):I4 F S w (L.setIfInBounds i true) g β:=by
 have e:∀ j∈ [0,7,8,9,10],(L.setIfInBounds i true).getD j false=L.getD j false:=fun j hj=>by
   rw[getD_setA,if_neg];rintro⟨rfl,_⟩;exact hi hj
 unfold I4;rw[e 0 (by simp),e 7 (by simp),e 8 (by simp),e 9 (by simp),e 10 (by simp)];exact h
section
variable {S0 C0:Nat->Prop} {w0 w:World} {ρ:Nat->Nat} {D:Nat->Prop} {σ:List AV} {h:List (Option ABlk)} {a:Act}
theorem Rel.ownC_no (R:Rel S0 C0 w0 ρ D ⟨σ,h⟩ a w) {x:Nat} (hx:S0 x):¬ ownC ρ h x:=by
 rintro⟨l,b,hb,rfl⟩;exact(R.mine l b hb).2.1 hx
theorem Rel.ownC_lt (R:Rel S0 C0 w0 ρ D ⟨σ,h⟩ a w) {x:Nat} (hx:ownC ρ h x):x<w.heap.size:=by
 obtain⟨l,b,hb,rfl⟩:=hx;obtain⟨_,arr,h1,_⟩:=R.heap l b hb;exact heap_lt h1
theorem Rel.ownC_ge (R:Rel S0 C0 w0 ρ D ⟨σ,h⟩ a w) {x n:Nat} (hx:ownC ρ h x) (hC:∀ k,C0 k->n<=k) (hn:n<=w0.heap.size):n<=x:=by
 obtain⟨l,b,hb,rfl⟩:=hx;rcases(R.mine l b hb).1 with h1 | h1
 · exact hC _ h1
 · omega
end
theorem getD_ne {σ:List AV} {t:Nat} {V:AV} (h:σ.getD t .any=V) (hV:V≠ .any):t<σ.length:=by
 rcases Nat.lt_or_ge t σ.length with h1 | h1
 · exact h1
 · rw[gdE,List.getElem?_eq_none h1] at h
   exact absurd h.symm hV
theorem set_at {σ:List AV} {t:Nat} {V:AV} (h:t<σ.length):(σ.set t V).getD t .any=V:=by
 rw[set_getD,if_pos ⟨rfl,h⟩]
noncomputable abbrev R4:Code:=nav [1,1,0] (bodyOf Tryz.f117)
theorem r4_size:(regOps R4).size=11:=by kernel_rfl
theorem r4_0:∀ oX,(regOps R4)[0]? =some oX->oX.op= .makeMap 366 none/\oX.dst=some 17:=by
 intro oX h;have:(regOps R4)[0]? =some (((regOps R4).toList[0]?).getD default):=by kernel_rfl
 rw[this] at h;injection h with h;subst h;exact⟨by kernel_rfl,by kernel_rfl⟩
theorem r4_7:∀ oX,(regOps R4)[7]? =some oX->oX.op= .insert 366 (.tmp 17) (.const (.int .i64 0)) (.tmp 23)/\oX.dst=none/\(∃ e∈oX.after.toList,Region.binds .any e=true/\e.on=0):=by
 intro oX h;have:(regOps R4)[7]? =some (((regOps R4).toList[7]?).getD default):=by kernel_rfl
 rw[this] at h;injection h with h;subst h;refine⟨by kernel_rfl,by kernel_rfl, ?_⟩;have h1:(((regOps R4).toList[7]?).getD default).after.toList.any (fun e=>Region.binds .any e&&e.on==0)=true:=by kernel_rfl
 obtain⟨e,e1,e2⟩:=List.any_eq_true.1 h1;rw[Bool.and_eq_true] at e2;exact⟨e,e1,e2.1,by simpa using e2.2⟩
theorem r4_8:∀ oX,(regOps R4)[8]? =some oX->oX.op= .move (.tmp 17)/\oX.dst=some 24/\(∃ e∈oX.after.toList,Region.binds .any e=true/\e.on=7):=by
 intro oX h;have:(regOps R4)[8]? =some (((regOps R4).toList[8]?).getD default):=by kernel_rfl
 rw[this] at h;injection h with h;subst h;refine⟨by kernel_rfl,by kernel_rfl, ?_⟩;have h1:(((regOps R4).toList[8]?).getD default).after.toList.any (fun e=>Region.binds .any e&&e.on==7)=true:=by kernel_rfl
 obtain⟨e,e1,e2⟩:=List.any_eq_true.1 h1;rw[Bool.and_eq_true] at e2;exact⟨e,e1,e2.1,by simpa using e2.2⟩
theorem r4_9:∀ oX,(regOps R4)[9]? =some oX->oX.op= .alloc 366/\oX.dst=some 7:=by
 intro oX h;have:(regOps R4)[9]? =some (((regOps R4).toList[9]?).getD default):=by kernel_rfl
 rw[this] at h;injection h with h;subst h;exact⟨by kernel_rfl,by kernel_rfl⟩
theorem r4_10:∀ oX,(regOps R4)[10]? =some oX->oX.op= .store 366 (.tmp 7) (.tmp 24)/\oX.dst=none/\(∃ e∈oX.after.toList,Region.binds .any e=true/\e.on=8)/\(∃ e∈oX.after.toList,Region.binds .any e=true/\e.on=9):=by
 intro oX h;have:(regOps R4)[10]? =some (((regOps R4).toList[10]?).getD default):=by kernel_rfl
 rw[this] at h;injection h with h;subst h;refine⟨by kernel_rfl,by kernel_rfl, ?_, ?_⟩
 · have h1:(((regOps R4).toList[10]?).getD default).after.toList.any (fun e=>Region.binds .any e&&e.on==8)=true:=by kernel_rfl
   obtain⟨e,e1,e2⟩:=List.any_eq_true.1 h1;rw[Bool.and_eq_true] at e2;exact⟨e,e1,e2.1,by simpa using e2.2⟩
 · have h1:(((regOps R4).toList[10]?).getD default).after.toList.any (fun e=>Region.binds .any e&&e.on==9)=true:=by kernel_rfl
   obtain⟨e,e1,e2⟩:=List.any_eq_true.1 h1;rw[Bool.and_eq_true] at e2;exact⟨e,e1,e2.1,by simpa using e2.2⟩
theorem alloc366 (w:World):(Instr.alloc 366 true (.tuple #[])).run Tryz.prog w= .ok (.pointer (some ⟨w.heap.size,0,none⟩)) (w.alloc (.cells #[.map none] 366 (0,0))):=by
 have hz:(zeroValue 366).run Tryz.prog w= .ok (.map none) w:=by kernel_rfl
 simp only[Instr.alloc,newVar,newRow,newObj,Sem.run_bind,hz,Result.andThen_ok,Sem.run_pure];rfl
theorem lay_append (xs ys:List (Nat×AV)) (σ:List AV):lay (xs++ys) σ=lay ys (lay xs σ):=List.foldl_append ..
theorem lay_mid {xs ys:List (Nat×AV)} {σ:List AV} {d:Nat} {V X:AV} (hx:∀ p∈xs,p.1≠d) (hy:∀ p∈ys,p.1≠d):lay (xs++(d,X)::ys) (σ.set d V)=(lay (xs++ys) σ).set d X:=by
 rw[lay_append,lay_append,lay_set hx];show lay ys (((lay xs σ).set d V).set d X)=_;rw[List.set_set,lay_set hy]
theorem lay_at {xs ys:List (Nat×AV)} {σ:List AV} {d:Nat} {X:AV} (hy:∀ p∈ys,p.1≠d) (hd:d<σ.length):(lay (xs++(d,X)::ys) σ).getD d .any=X:=by
 have hl:∀ (xs:List (Nat×AV)) (σ:List AV),(lay xs σ).length=σ.length:=by
   intro xs
   induction xs with
   | nil=>intro σ;rfl
   | cons p xs ih=>intro σ;show(lay xs (σ.set p.1 p.2)).length=_;rw[ih];simp
 rw[lay_append];show(lay ys ((lay xs σ).set d X)).getD d .any=X;rw[lay_get hy,set_at (by rw[hl];exact hd)]
def ifL (b:Bool) (p:Nat×AV):List (Nat×AV):=if b=true then [p] else []
theorem ifL_mem {b:Bool} {p q:Nat×AV} (h:q∈ifL b p):q=p:=by
 unfold ifL at h;split at h <;> simp at h;exact h
section
variable {F:Nat->List AV} {S:Nat->Prop} {w0:World} {Q:Exit->Act->World->Prop} {L:Array Bool} {g:G4} {β:Base} {ρ:Nat->Nat} {D:Nat->Prop} {σ:List AV} {h:List (Option ABlk)} {a:Act} {w:World} {V:AV} {oX:Oper}
theorem getD_on (hsz:L.size=11) {i j:Nat} (hi:i<11):(L.setIfInBounds i true).getD j false=if i=j then true else L.getD j false:=by
 rw[getD_setA]
 by_cases e:i=j
 · rw[if_pos ⟨e,by omega⟩,if_pos e]
 · rw[if_neg (fun h=>e h.1),if_neg e]
theorem J4.cnext {l0 l7 l8 l9 l10:Bool} (hI:J4 F S w0 l0 l7 l8 l9 l10 g β) (R:Rel β.S β.C β.w ρ D ⟨σ,h⟩ a w):(∀ x,ownC ρ h x->w0.heap.size<=x)/\Chg No w0 w:=by
 refine⟨fun x hx=>R.ownC_ge hx hI.c hI.chg.size,hI.chg.trans R.chg fun i hi hc=> ?_⟩
 have:=hI.c i hc;omega
theorem x4_0 (hoX:(regOps R4)[0]? =some oX) (hg:oX.guard=none) (hI:I4 F S w0 L g β) (hsz:L.size=11) (hun:L.getD 0 false=false) (R:Rel β.S β.C β.w ρ D ⟨lay g.ov σ,h⟩ a w):
   wpOp Tryz.prog (regOps R4) Q 0 (fun a' w'=>∃ g' β',I4 F S w0 (L.setIfInBounds 0 true) g' β'/\Rel β'.S β'.C β'.w ρ D ⟨lay g'.ov (put σ oX.dst V),h⟩ a' w') a w:=by
 obtain⟨hop,hd⟩:=r4_0 oX hoX;unfold I4 at hI;rw[hun] at hI
 have h7:L.getD 7 false=false:=by
   cases h:L.getD 7 false with
   | false=>rfl
   | true=>exact absurd (hI.e7 h) (by decide)
 rw[h7] at hI
 have h8:L.getD 8 false=false:=by
   cases h:L.getD 8 false with
   | false=>rfl
   | true=>exact absurd (hI.e8 h) (by decide)
 rw[h8] at hI
 have h10:L.getD 10 false=false:=by
   cases h:L.getD 10 false with
   | false=>rfl
   | true=>exact absurd ((hI.e10 h).1) (by decide)
 rw[h10] at hI;obtain⟨l9,h9⟩:∃ b,L.getD 9 false=b:=⟨_,rfl⟩;rw[h9] at hI;obtain⟨c1,c2⟩:=hI.cnext R;have hw9:l9=true->β.S g.k:=fun h9=>(hI.s _).2 (.inr (.inr ⟨h9,rfl⟩))
 have R1:=R.grow (X:=No) (S1:=fun x=>β.S x\/x=w.heap.size) (Chg.alloc w (.map #[] 0)) (fun _ h=>h.elim) (fun _ h=>.inl h) (fun k hk=>hk.imp id fun e=>by subst e;exact⟨Nat.le_refl _,by simp⟩) (dst:=some 17) (V:=mapV w.heap.size) (v:=.map (some w.heap.size)) (RelV_one (.lit rfl .done));have hov:g.ov=ifL l9 (7,ptrV g.k):=hI.ov
 have e:lay ((17,mapV w.heap.size)::ifL l9 (7,ptrV g.k)) (put σ (some 17) V)=put (lay g.ov σ) (some 17) (mapV w.heap.size):=by
   rw[hov];exact lay_mid (xs:=[]) (by simp) fun p hp=>by rw[ifL_mem hp];simp
 refine wpOp_run hoX hg (v:=.map (some w.heap.size)) (w':=w.alloc (.map #[] 0)) (by rw[execOp,hop];rfl) ?_;rw[hd];refine⟨⟨(17,mapV w.heap.size)::ifL l9 (7,ptrV g.k),w.heap.size,g.k⟩,⟨fun x=>β.S x\/x=w.heap.size,ownC ρ h,w.alloc (.map #[] 0)⟩, ?_,by simp only[e];exact R1⟩;have a0:(L.setIfInBounds 0 true).getD 0 false=true:=by rw[getD_on hsz (by decide),if_pos rfl]
 have a7:(L.setIfInBounds 0 true).getD 7 false=false:=by rw[getD_on hsz (by decide),if_neg (by decide)];exact h7
 have a8:(L.setIfInBounds 0 true).getD 8 false=false:=by rw[getD_on hsz (by decide),if_neg (by decide)];exact h8
 have a9:(L.setIfInBounds 0 true).getD 9 false=l9:=by rw[getD_on hsz (by decide),if_neg (by decide)];exact h9
 have a10:(L.setIfInBounds 0 true).getD 10 false=false:=by rw[getD_on hsz (by decide),if_neg (by decide)];exact h10
 unfold I4;rw[a0,a7,a8,a9,a10]
 exact {
     c:=c1
     chg:=c2.trans (Chg.alloc _ _) fun _ _ h=>h.elim
     ov:=by simp[ifL]
     s :=fun x=>by
       have:=hI.s x;simp at this ⊢;rw[this];constructor
       · rintro((h | h) | h)
         · exact .inl h
         · exact .inr (.inr h)
         · exact .inr (.inl h)
       · rintro(h | h | h)
         · exact .inl (.inl h)
         · exact .inr h
         · exact .inl (.inr h)
     r0:=fun _=>⟨c2.size,fun hx=>Nat.lt_irrefl _ (R.ownC_lt hx),by simp⟩
     r1:=fun _ _=>heap_alloc_new w _
     r2:=fun h=>by cases h
     k0:=fun h9=>by
       obtain⟨k1,k2,k3⟩:=hI.k0 h9;exact⟨k1,R.ownC_no (hw9 h9),by simp;have:=R.chg.size;omega⟩
     k1:=fun h9=>by
       obtain⟨k1,k2,k3⟩:=hI.k0 h9;obtain⟨c,e1,e2⟩:=hI.k1 h9;refine⟨c, ?_,fun h=>by cases h⟩;rw[<- e1, <- R.chg.block _ k3 k2];exact Below.heap_alloc w _ _ (Nat.lt_of_lt_of_le k3 R.chg.size)
     e7:=fun h=>by cases h
     e8:=fun h=>by cases h
     e10:=fun h=>by cases h }
theorem x4_7 (hF:noRefV (.agg (F 0))=true) (hoX:(regOps R4)[7]? =some oX) (hg:oX.guard=none) (hI:I4 F S w0 L g β) (hsz:L.size=11) (hun:L.getD 7 false=false) (hed:∀ e∈oX.after.toList,Region.binds .any e=true->L.getD e.on false=true) (hA:σ.getD 23 .any= .agg (F 0)) (R:Rel β.S β.C β.w ρ D ⟨lay g.ov σ,h⟩ a w):
   wpOp Tryz.prog (regOps R4) Q 7 (fun a' w'=>∃ g' β',I4 F S w0 (L.setIfInBounds 7 true) g' β'/\Rel β'.S β'.C β'.w ρ D ⟨lay g'.ov (put σ oX.dst V),h⟩ a' w') a w:=by
 obtain⟨hop,hd,e0,e1,e2,e3⟩:=r4_7 oX hoX;have h0:=hed _ e1 e2;rw[e3] at h0;unfold I4 at hI;rw[h0,hun] at hI
 have h8:L.getD 8 false=false:=by
   cases h:L.getD 8 false with
   | false=>rfl
   | true=>exact absurd (hI.e8 h) (by decide)
 rw[h8] at hI
 have h10:L.getD 10 false=false:=by
   cases h:L.getD 10 false with
   | false=>rfl
   | true=>exact absurd ((hI.e10 h).1) (by decide)
 rw[h10] at hI;obtain⟨l9,h9⟩:∃ b,L.getD 9 false=b:=⟨_,rfl⟩;rw[h9] at hI;obtain⟨c1,c2⟩:=hI.cnext R;have hov:g.ov=(17,mapV g.r)::ifL l9 (7,ptrV g.k):=hI.ov;have hlen:23<σ.length:=getD_ne hA (by intro h;cases h);have q1:=R.eval (.tmp 17);have q2:=R.eval (.tmp 23)
 have e17:aval (lay g.ov σ) (.tmp 17)=mapV g.r:=by
   rw[hov];exact lay_at (xs:=[]) (fun p hp=>by rw[ifL_mem hp];simp) (by omega)
 have e23:aval (lay g.ov σ) (.tmp 23)= .agg (F 0):=by
   show(lay g.ov σ).getD 23 .any=_;rw[lay_get,hA];intro p hp;rw[hov] at hp;rcases List.mem_cons.1 hp with rfl | hp
   · simp
   · rw[ifL_mem hp];simp
 rw[e17] at q1;rw[e23] at q2;obtain⟨us,u1,u2⟩:=RelV0.noRef q2 hF ρ0;obtain⟨r1,r2,r3⟩:=hI.r0 rfl;have hr:=hI.r1 rfl rfl;have hrw:w.heap[g.r]? =some (.map #[] 0):=by rw[R.chg.block _ r3 r2];exact hr
 have hS:β.S g.r:=(hI.s _).2 (.inr (.inl ⟨rfl,rfl⟩));have M0:Memo F 0 (Sof β.S ρ h) w g.r:=⟨#[],0,hrw,rfl,fun j e he=>by simp at he⟩;obtain⟨w2,hrun,hch,M2⟩:=M0.upd und366 und3 u2 (.inl hS);have hw9:l9=true->β.S g.k:=fun h9=>(hI.s _).2 (.inr (.inr ⟨h9,rfl⟩))
 have q0:a.eval (.const (.int .i64 0))= .int .i64 ((0:Nat):Int):=rfl;refine wpOp_skip hoX hg (w':=w2) (by rw[execOp,hop];simp only[q1.lit_inv,u1,q0,Sem.run_bind,hrun];rfl) ?_;rw[hd];refine⟨g,⟨β.S,ownC ρ h,w2⟩, ?_,R.turn hch (fun k hk=>by subst hk;exact hS) (V:=.any) (.inl rfl)⟩;have a0:(L.setIfInBounds 7 true).getD 0 false=true:=by rw[getD_on hsz (by decide),if_neg (by decide)];exact h0
 have a7:(L.setIfInBounds 7 true).getD 7 false=true:=by rw[getD_on hsz (by decide),if_pos rfl]
 have a8:(L.setIfInBounds 7 true).getD 8 false=false:=by rw[getD_on hsz (by decide),if_neg (by decide)];exact h8
 have a9:(L.setIfInBounds 7 true).getD 9 false=l9:=by rw[getD_on hsz (by decide),if_neg (by decide)];exact h9
 have a10:(L.setIfInBounds 7 true).getD 10 false=false:=by rw[getD_on hsz (by decide),if_neg (by decide)];exact h10
 unfold I4;rw[a0,a7,a8,a9,a10]
 exact {
     c:=c1
     chg:=c2.trans hch fun i hi hx=>by subst hx;omega
     ov:=by rw[hov];simp[ifL]
     s:=hI.s
     r0:=fun _=>⟨r1,R.ownC_no hS,Nat.lt_of_lt_of_le r3 (Nat.le_trans R.chg.size hch.size)⟩
     r1:=fun _ h=>by cases h
     r2:=fun _=>M2
     k0:=fun h9=>by
       obtain⟨k1,k2,k3⟩:=hI.k0 h9;exact⟨k1,R.ownC_no (hw9 h9),Nat.lt_of_lt_of_le k3 (Nat.le_trans R.chg.size hch.size)⟩
     k1:=fun h9=>by
       obtain⟨k1,k2,k3⟩:=hI.k0 h9;obtain⟨c,e1,e2⟩:=hI.k1 h9;refine⟨c, ?_,fun h=>by cases h⟩;rw[<- e1, <- R.chg.block _ k3 k2];refine hch.block _ (Nat.lt_of_lt_of_le k3 R.chg.size) fun e=> ?_
       rw[e,hr] at e1;cases e1
     e7:=fun _=>rfl
     e8:=fun h=>by cases h
     e10:=fun h=>by cases h }
theorem x4_8 (hoX:(regOps R4)[8]? =some oX) (hg:oX.guard=none) (hI:I4 F S w0 L g β) (hsz:L.size=11) (hun:L.getD 8 false=false) (hed:∀ e∈oX.after.toList,Region.binds .any e=true->L.getD e.on false=true) (hA:σ.getD 23 .any= .agg (F 0)) (R:Rel β.S β.C β.w ρ D ⟨lay g.ov σ,h⟩ a w):
   wpOp Tryz.prog (regOps R4) Q 8 (fun a' w'=>∃ g' β',I4 F S w0 (L.setIfInBounds 8 true) g' β'/\Rel β'.S β'.C β'.w ρ D ⟨lay g'.ov (put σ oX.dst V),h⟩ a' w') a w:=by
 obtain⟨hop,hd,e0,e1,e2,e3⟩:=r4_8 oX hoX;have h7:=hed _ e1 e2;rw[e3] at h7;unfold I4 at hI;rw[h7,hun] at hI;have h0:=hI.e7 rfl;rw[h0] at hI
 have h10:L.getD 10 false=false:=by
   cases h:L.getD 10 false with
   | false=>rfl
   | true=>exact absurd ((hI.e10 h).1) (by decide)
 rw[h10] at hI;obtain⟨l9,h9⟩:∃ b,L.getD 9 false=b:=⟨_,rfl⟩;rw[h9] at hI;have hov:g.ov=(17,mapV g.r)::ifL l9 (7,ptrV g.k):=hI.ov;have hlen:23<σ.length:=getD_ne hA (by intro h;cases h);have q1:=R.eval (.tmp 17)
 have e17:aval (lay g.ov σ) (.tmp 17)=mapV g.r:=by
   rw[hov];exact lay_at (xs:=[]) (fun p hp=>by rw[ifL_mem hp];simp) (by omega)
 rw[e17] at q1
 have e:lay ([(17,mapV g.r)]++(24,mapV g.r)::ifL l9 (7,ptrV g.k)) (put σ (some 24) V)=put (lay g.ov σ) (some 24) (mapV g.r):=by
   rw[hov];exact lay_mid (xs:=[(17,mapV g.r)]) (by simp) fun p hp=>by rw[ifL_mem hp];simp
 refine wpOp_run hoX hg (v:=.map (some g.r)) (w':=w) (by rw[execOp,hop];simp only[q1.lit_inv];rfl) ?_;rw[hd];refine⟨⟨[(17,mapV g.r)]++(24,mapV g.r)::ifL l9 (7,ptrV g.k),g.r,g.k⟩,β, ?_,by simp only[e];exact R.val (RelV_one (.lit rfl .done))⟩;have a0:(L.setIfInBounds 8 true).getD 0 false=true:=by rw[getD_on hsz (by decide),if_neg (by decide)];exact h0
 have a7:(L.setIfInBounds 8 true).getD 7 false=true:=by rw[getD_on hsz (by decide),if_neg (by decide)];exact h7
 have a8:(L.setIfInBounds 8 true).getD 8 false=true:=by rw[getD_on hsz (by decide),if_pos rfl]
 have a9:(L.setIfInBounds 8 true).getD 9 false=l9:=by rw[getD_on hsz (by decide),if_neg (by decide)];exact h9
 have a10:(L.setIfInBounds 8 true).getD 10 false=false:=by rw[getD_on hsz (by decide),if_neg (by decide)];exact h10
 unfold I4;rw[a0,a7,a8,a9,a10]
 exact {
     c:=hI.c
     chg:=hI.chg
     ov:=by simp[ifL]
     s:=hI.s
     r0:=hI.r0
     r1:=fun _ h=>by cases h
     r2:=hI.r2
     k0:=hI.k0
     k1:=fun h9=>by
       obtain⟨c,e1,e2⟩:=hI.k1 h9;exact⟨c,e1,fun h=>by cases h⟩
     e7:=fun _=>rfl
     e8:=fun _=>rfl
     e10:=fun h=>by cases h }
theorem x4_9 (hoX:(regOps R4)[9]? =some oX) (hg:oX.guard=none) (hI:I4 F S w0 L g β) (hsz:L.size=11) (hun:L.getD 9 false=false) (R:Rel β.S β.C β.w ρ D ⟨lay g.ov σ,h⟩ a w):
   wpOp Tryz.prog (regOps R4) Q 9 (fun a' w'=>∃ g' β',I4 F S w0 (L.setIfInBounds 9 true) g' β'/\Rel β'.S β'.C β'.w ρ D ⟨lay g'.ov (put σ oX.dst V),h⟩ a' w') a w:=by
 obtain⟨hop,hd⟩:=r4_9 oX hoX;unfold I4 at hI;rw[hun] at hI
 have h10:L.getD 10 false=false:=by
   cases h:L.getD 10 false with
   | false=>rfl
   | true=>exact absurd ((hI.e10 h).2) (by decide)
 rw[h10] at hI;obtain⟨l0,h0⟩:∃ b,L.getD 0 false=b:=⟨_,rfl⟩;obtain⟨l7,h7⟩:∃ b,L.getD 7 false=b:=⟨_,rfl⟩;obtain⟨l8,h8⟩:∃ b,L.getD 8 false=b:=⟨_,rfl⟩;rw[h0,h7,h8] at hI;obtain⟨c1,c2⟩:=hI.cnext R;have hw0:l0=true->β.S g.r:=fun h=>(hI.s _).2 (.inr (.inl ⟨h,rfl⟩))
 have R1:=R.grow (X:=No) (S1:=fun x=>β.S x\/x=w.heap.size) (Chg.alloc w (.cells #[.map none] 366 (0,0))) (fun _ h=>h.elim) (fun _ h=>.inl h) (fun k hk=>hk.imp id fun e=>by subst e;exact⟨Nat.le_refl _,by simp⟩) (dst:=some 7) (V:=ptrV w.heap.size) (v:=.pointer (some ⟨w.heap.size,0,none⟩)) (RelV_one (.lit rfl .done));have hov:g.ov=ifL l0 (17,mapV g.r)++ifL l8 (24,mapV g.r):=by rw[hI.ov];simp[ifL]
 have e:lay ((ifL l0 (17,mapV g.r)++ifL l8 (24,mapV g.r))++(7,ptrV w.heap.size):: []) (put σ (some 7) V)=put (lay g.ov σ) (some 7) (ptrV w.heap.size):=by
   have:=lay_mid (xs:=ifL l0 (17,mapV g.r)++ifL l8 (24,mapV g.r)) (ys:=[]) (σ:=σ) (d:=7) (V:=V) (X:=ptrV w.heap.size) (fun p hp=>by
     rcases List.mem_append.1 hp with hp | hp
     · rw[ifL_mem hp];simp
     · rw[ifL_mem hp];simp) (by simp)
   rw[List.append_nil, <- hov] at this;rw[<- hov];exact this
 refine wpOp_run hoX hg (v:=.pointer (some ⟨w.heap.size,0,none⟩)) (w':=w.alloc (.cells #[.map none] 366 (0,0))) (by rw[execOp,hop];simp only[Sem.run_bind,alloc366];rfl) ?_;rw[hd];have hne:l0=true->g.r<w.heap.size:=fun h=>by have:=(hI.r0 h).2.2;have:=R.chg.size;omega
 refine⟨⟨(ifL l0 (17,mapV g.r)++ifL l8 (24,mapV g.r))++(7,ptrV w.heap.size):: [],g.r,w.heap.size⟩,⟨fun x=>β.S x\/x=w.heap.size,ownC ρ h,w.alloc (.cells #[.map none] 366 (0,0))⟩, ?_,by simp only[e];exact R1⟩;have a0:(L.setIfInBounds 9 true).getD 0 false=l0:=by rw[getD_on hsz (by decide),if_neg (by decide)];exact h0
 have a7:(L.setIfInBounds 9 true).getD 7 false=l7:=by rw[getD_on hsz (by decide),if_neg (by decide)];exact h7
 have a8:(L.setIfInBounds 9 true).getD 8 false=l8:=by rw[getD_on hsz (by decide),if_neg (by decide)];exact h8
 have a9:(L.setIfInBounds 9 true).getD 9 false=true:=by rw[getD_on hsz (by decide),if_pos rfl]
 have a10:(L.setIfInBounds 9 true).getD 10 false=false:=by rw[getD_on hsz (by decide),if_neg (by decide)];exact h10
 unfold I4;rw[a0,a7,a8,a9,a10]
 exact {
     c:=c1
     chg:=c2.trans (Chg.alloc _ _) fun _ _ h=>h.elim
     ov:=by simp[ifL]
     s :=fun x=>by
       have:=hI.s x;simp at this ⊢;rw[this];constructor
       · rintro((h | h) | h)
         · exact .inl h
         · exact .inr (.inl h)
         · exact .inr (.inr h)
       · rintro(h | h | h)
         · exact .inl (.inl h)
         · exact .inl (.inr h)
         · exact .inr h
     r0:=fun h=>by
       obtain⟨k1,k2,k3⟩:=hI.r0 h;exact⟨k1,R.ownC_no (hw0 h),by simp;have:=R.chg.size;omega⟩
     r1:=fun h k=>by
       obtain⟨k1,k2,k3⟩:=hI.r0 h;rw[<- hI.r1 h k, <- R.chg.block _ k3 k2];exact Below.heap_alloc w _ _ (hne h)
     r2:=fun h=>by
       have h':=hI.e7 h;obtain⟨k1,k2,k3⟩:=hI.r0 h';have M1:=(hI.r2 h).now R k2;refine M1.keep (by simp) (Below.heap_alloc w _ _ (hne h')) fun k hk hs=>⟨?_,Below.heap_alloc w _ _ hk⟩
       rintro((h | h) | h)
       · exact hs (.inl h)
       · omega
       · exact hs (.inr h)
     k0:=fun _=>⟨c2.size,fun hx=>Nat.lt_irrefl _ (R.ownC_lt hx),by simp⟩
     k1:=fun _=>⟨.map none,heap_alloc_new w _,fun h=>by cases h⟩
     e7:=hI.e7
     e8:=hI.e8
     e10:=fun h=>by cases h }
theorem x4_10 (h24:24<σ.length) (hoX:(regOps R4)[10]? =some oX) (hg:oX.guard=none) (hI:I4 F S w0 L g β) (hsz:L.size=11) (hun:L.getD 10 false=false) (hed:∀ e∈oX.after.toList,Region.binds .any e=true->L.getD e.on false=true) (hA:σ.getD 23 .any= .agg (F 0)) (R:Rel β.S β.C β.w ρ D ⟨lay g.ov σ,h⟩ a w):
   wpOp Tryz.prog (regOps R4) Q 10 (fun a' w'=>∃ g' β',I4 F S w0 (L.setIfInBounds 10 true) g' β'/\Rel β'.S β'.C β'.w ρ D ⟨lay g'.ov (put σ oX.dst V),h⟩ a' w') a w:=by
 obtain⟨hop,hd,⟨e1,e2,e3,e4⟩,f1,f2,f3,f4⟩:=r4_10 oX hoX;have h8:=hed _ e2 e3;rw[e4] at h8;have h9:=hed _ f2 f3;rw[f4] at h9;unfold I4 at hI;rw[h8,h9,hun] at hI;have h7:=hI.e8 rfl;rw[h7] at hI;have h0:=hI.e7 rfl;rw[h0] at hI;obtain⟨c1,c2⟩:=hI.cnext R;have hov:g.ov= [(17,mapV g.r),(24,mapV g.r),(7,ptrV g.k)]:=hI.ov;have hlen:23<σ.length:=getD_ne hA (by intro h;cases h);have q1:=R.eval (.tmp 7);have q2:=R.eval (.tmp 24);obtain⟨r1,r2,r3⟩:=hI.r0 rfl;obtain⟨k1,k2,k3⟩:=hI.k0 rfl;obtain⟨c,kc,_⟩:=hI.k1 rfl;have hS:β.S g.r:=(hI.s _).2 (.inr (.inl ⟨rfl,rfl⟩));have hK:β.S g.k:=(hI.s _).2 (.inr (.inr ⟨rfl,rfl⟩));have M1:=hI.r2 rfl
 have hrk:g.r≠g.k:=fun e=>by
   obtain⟨es,clk,m1,_⟩:=M1;rw[e,kc] at m1;cases m1
 have e7:aval (lay g.ov σ) (.tmp 7)=ptrV g.k:=by
   rw[hov];show(lay ([(17,mapV g.r),(24,mapV g.r)]++(7,ptrV g.k):: []) σ).getD 7 .any=_;exact lay_at (by simp) (by omega)
 have e24:aval (lay g.ov σ) (.tmp 24)=mapV g.r:=by
   rw[hov];show(lay ([(17,mapV g.r)]++(24,mapV g.r):: [(7,ptrV g.k)]) σ).getD 24 .any=_;exact lay_at (by simp) h24
 rw[e7] at q1;rw[e24] at q2;have kw:w.heap[g.k]? =some (.cells #[c] 366 (0,0)):=by rw[R.chg.block _ k3 k2];exact kc
 have hklt:=heap_lt kw;have hset:=MapKept.heap_set (o':=.cells #[.map (some g.r)] 366 (0,0)) kw
 have hch:Chg (· =g.k) w { w with heap:=w.heap.setIfInBounds g.k (.cells #[.map (some g.r)] 366 (0,0)) }:=
   ⟨rfl,rfl,rfl,by simp,fun k _ hk=>hset.2 k hk,fun k arr ty ha=>by
     by_cases e:k=g.k
     · subst e
       rw[kw] at ha;injection ha with ha;injection ha with ha1 ha2;subst ha1;exact⟨_,_,hset.1,by simp⟩
     · exact⟨arr,ty,by rw[hset.2 k e];exact ha,Nat.le_refl _⟩⟩
 have hrun:(storeVar 366 ⟨g.k,0,none⟩ (.map (some g.r))).run Tryz.prog w= .ok () { w with heap:=w.heap.setIfInBounds g.k (.cells #[.map (some g.r)] 366 (0,0)) }:=by
   have:=run_storeVar' (P:=Tryz.prog) (TT0_ok 366 ⟨1,8,[.lit (.map none)],.other⟩ (by kernel_rfl)) kw (v:=.map (some g.r)) (off:=0) rfl (by simp[Value.cells,Value.oneCell']) (by simp);simpa[Value.cells] using this
 refine wpOp_skip hoX hg (w':={ w with heap:=w.heap.setIfInBounds g.k (.cells #[.map (some g.r)] 366 (0,0)) }) (by rw[execOp,hop];simp only[q1.lit_inv,q2.lit_inv,run_storeAt,Sem.run_bind,hrun,Result.andThen_ok,Sem.run_pure]) ?_;rw[hd];refine⟨g,⟨β.S,ownC ρ h,_⟩, ?_,R.turn hch (fun k hk=>by subst hk;exact hK) (V:=.any) (.inl rfl)⟩;have a0:(L.setIfInBounds 10 true).getD 0 false=true:=by rw[getD_on hsz (by decide),if_neg (by decide)];exact h0
 have a7:(L.setIfInBounds 10 true).getD 7 false=true:=by rw[getD_on hsz (by decide),if_neg (by decide)];exact h7
 have a8:(L.setIfInBounds 10 true).getD 8 false=true:=by rw[getD_on hsz (by decide),if_neg (by decide)];exact h8
 have a9:(L.setIfInBounds 10 true).getD 9 false=true:=by rw[getD_on hsz (by decide),if_neg (by decide)];exact h9
 have a10:(L.setIfInBounds 10 true).getD 10 false=true:=by rw[getD_on hsz (by decide),if_pos rfl]
 unfold I4;rw[a0,a7,a8,a9,a10]
 exact {
     c:=c1
     chg:=c2.trans hch fun i hi hx=>by subst hx;omega
     ov:=hI.ov
     s:=hI.s
     r0:=fun _=>⟨r1,R.ownC_no hS,Nat.lt_of_lt_of_le r3 (Nat.le_trans R.chg.size hch.size)⟩
     r1:=fun _ h=>by cases h
     r2:=fun _=>(M1.now R r2).keep hch.size (hset.2 _ hrk) fun k hk hs=>⟨hs,hch.block k hk fun e=>hs (.inl (e▸hK))⟩
     k0:=fun _=>⟨k1,R.ownC_no hK,Nat.lt_of_lt_of_le hklt hch.size⟩
     k1:=fun _=>⟨_,hset.1,fun _=>rfl⟩
     e7:=fun _=>rfl
     e8:=fun _=>rfl
     e10:=fun _=>⟨rfl,rfl⟩ }
end
def KT117_ok:=(kn.cons a38).cons a21
abbrev n117_0 (r:Nat) (m:MachD) (jb:Nat) (p:PoseD):List AV:=[.cptr [.lit (.map (some r))] 0,.cptr [.fn 209 [.cptr [.lit (.map (some r))] 0,AV.any,.cptr (unMach 300 m) 0,.cptr (unPose jb p) 0]] 0,.cptr (unMach 300 m) 0,.cptr (unPose jb p) 0]
abbrev n117_1 (ff:Func):List Item:=[.code (nav [1,1,1,1,1,1,0,1,0,0,1,1,0,0,1] (bodyOf ff)),.inBlock 1,.code (nav [1,1,1,1,1,1,0,1,0,0,1,1,1] (bodyOf ff)),.inLoop (nav [1,1,1,1,1,1,0,1,0,0] (bodyOf ff)),.inBlock 0,.code (nav [1,1,1,1,1,1,1] (bodyOf ff))]
abbrev n117_2 (ff:Func):List Item:=[.inBlock 1,.code (nav [1,1,1,1,1,1,0,1,0,0,1,1,1] (bodyOf ff)),.inLoop (nav [1,1,1,1,1,1,0,1,0,0] (bodyOf ff)),.inBlock 0,.code (nav [1,1,1,1,1,1,1] (bodyOf ff))]
section
variable {S0 C0:Nat->Prop} {w0:World} {Post:Value->World->Prop}
theorem x117_4 {γ:Type} (ovl:γ->List (Nat×AV)) (I:Array Bool->γ->Base->Prop) (m:MachD) (p:PoseD) (jb e:Nat) (f:FrameD) (o:(4*jb+800<=LIM)/\(Ref (.agg [.q p.at_.x jb,.q p.at_.z jb,.q ((1-p.turn*p.turn)/(1+p.turn*p.turn)) (4*jb+200),.q ((p.turn+p.turn)/(1+p.turn*p.turn)) (4*jb+200)]) (.agg (unF e f))))
   (hks:∀ L g β,I L g β->∀ q∈ovl g,q.1∈ [17,24,7]) (hI:∀ listed i g β,i ∉ [0,7,8,9,10]->I listed g β->I (listed.setIfInBounds i true) g β) (hX:∀ i∈ [0,7,8,9,10],∀ (Q:Exit->Act->World->Prop) listed g β ρ D σ h a w V oX,(regOps (nav [1,1,0] (bodyOf Tryz.f117)))[i]? =some oX->oX.guard=none->I listed g β->listed.size=(regOps (nav [1,1,0] (bodyOf Tryz.f117))).size->listed.getD i false=false->(∀ e∈oX.after.toList,Region.binds .any e=true->listed.getD e.on false=true)->(∀ τ∈(fun i=>if i=7 then [23] else if i=8 then [23] else if i=10 then [23] else []) i,σ.getD τ .any=(slots 49 [(2,.cptr (unMach 300 m) 0),(3,(.cptr [(.q p.at_.x jb),(.q p.at_.z jb),(.q p.turn jb),(.list 3 (p.joints.map (unQ jb)))] 0)),(18,(.cptr [(.q p.at_.x jb),(.q p.at_.z jb),(.q p.turn jb),(.list 3 (p.joints.map (unQ jb)))] 0)),(19,.agg [(.q p.at_.x jb),(.q p.at_.z jb)]),(20,(.cptr [(.q p.at_.x jb),(.q p.at_.z jb),(.q p.turn jb),(.list 3 (p.joints.map (unQ jb)))] 6)),(21,.agg [(.q p.turn jb)]),(22,(.agg [(.q ((1-p.turn*p.turn)/(1+p.turn*p.turn)) (4*jb+200)),(.q ((p.turn+p.turn)/(1+p.turn*p.turn)) (4*jb+200))])),(23,.agg [(.q f.at_.x (2*e)),(.q f.at_.z (2*e)),(.q f.c e),(.q f.s e)])]).getD τ .any)->σ.length=(slots 49 [(2,.cptr (unMach 300 m) 0),(3,(.cptr [(.q p.at_.x jb),(.q p.at_.z jb),(.q p.turn jb),(.list 3 (p.joints.map (unQ jb)))] 0)),(18,(.cptr [(.q p.at_.x jb),(.q p.at_.z jb),(.q p.turn jb),(.list 3 (p.joints.map (unQ jb)))] 0)),(19,.agg [(.q p.at_.x jb),(.q p.at_.z jb)]),(20,(.cptr [(.q p.at_.x jb),(.q p.at_.z jb),(.q p.turn jb),(.list 3 (p.joints.map (unQ jb)))] 6)),(21,.agg [(.q p.turn jb)]),(22,(.agg [(.q ((1-p.turn*p.turn)/(1+p.turn*p.turn)) (4*jb+200)),(.q ((p.turn+p.turn)/(1+p.turn*p.turn)) (4*jb+200))])),(23,.agg [(.q f.at_.x (2*e)),(.q f.at_.z (2*e)),(.q f.c e),(.q f.s e)])]).length->Rel β.S β.C β.w ρ D ⟨lay (ovl g) σ,h⟩ a w->wpOp Tryz.prog (regOps (nav [1,1,0] (bodyOf Tryz.f117))) Q i (fun a' w'=>∃ g' β',I (listed.setIfInBounds i true) g' β'/\Rel β'.S β'.C β'.w ρ D ⟨lay (ovl g') (put σ oX.dst V),h⟩ a' w') a w) (g0:γ) (hB:I (Array.replicate (regOps (nav [1,1,0] (bodyOf Tryz.f117))).size false) g0 ⟨S0,C0,w0⟩) (h0:ovl g0= [])
   (hgood:∀ listed g β,(∀ i,i<(regOps (nav [1,1,0] (bodyOf Tryz.f117))).size->listed.getD i false=true)->I listed g β->Good Tryz.prog 117 β.S β.C β.w Post [.code (nav [1,1,1] (bodyOf Tryz.f117))] ⟨lay (ovl g) (slots 49 [(2,.cptr (unMach 300 m) 0),(3,.cptr (unPose jb p) 0),(18,.cptr (unPose jb p) 0),(19,.agg [.q p.at_.x jb,.q p.at_.z jb]),(20,.cptr (unPose jb p) 6),(21,.agg [.q p.turn jb]),(22,.agg [.q ((1-p.turn*p.turn)/(1+p.turn*p.turn)) (4*jb+200),.q ((p.turn+p.turn)/(1+p.turn*p.turn)) (4*jb+200)]),(23,.agg (unF e f))]),[none]⟩):
   Good Tryz.prog 117 S0 C0 w0 Post [.code (nav [1,1,0] (bodyOf Tryz.f117)),.code (nav [1,1,1] (bodyOf Tryz.f117))] ⟨slots 49 [(2,.cptr (unMach 300 m) 0),(3,.cptr (unPose jb p) 0)],[]⟩:=
 Good.regXs mixed TT0_ok KT117_ok (c:=nav [1,1,0] (bodyOf Tryz.f117)) [0,7,8,9,10] [17,24,7] (fun i=>if i=7 then [23] else if i=8 then [23] else if i=10 then [23] else []) ovl I (ov:=[(17,AV.any),(23,(.agg (unF e f))),(24,AV.any),(7,AV.any)]) (ob:=[4*jb+800<=LIM,Ref (.agg [.q p.at_.x jb,.q p.at_.z jb,.q ((1-p.turn*p.turn)/(1+p.turn*p.turn)) (4*jb+200),.q ((p.turn+p.turn)/(1+p.turn*p.turn)) (4*jb+200)]) (.agg (unF e f))]) (by kernel_rfl) (by kernel_rfl)
   (.cons (o.1) (.cons (o.2) (AllP.nil))) (by kernel_rfl) (by kernel_rfl) hks hI hX g0 hB h0 hgood
theorem x117_0 {B B':Base->Prop} (m:MachD) (p:PoseD) (jb r:Nat) (i n s:Nat) (f:FrameD) (o:(1*224<=140737488355328)/\(1<=big))
   (hB:B ⟨S0,C0,w0⟩) (hX:∀ (Q:Exit->Act->World->Prop) β ρ D σ h a w,B β->Rel β.S β.C β.w ρ D ⟨σ,h⟩ a w->(∀ τ∈ [40,41],σ.getD τ .any=(slots 49 [(8,(.cptr [(.fn 209 [(.cptr [(.lit (.map (some r)))] 0),(.cptr [(.fn 209 [(.cptr [(.lit (.map (some r)))] 0),.any,(.cptr (unMach 300 m) 0),(.cptr [(.q p.at_.x jb),(.q p.at_.z jb),(.q p.turn jb),(.list 3 (p.joints.map (unQ jb)))] 0)])] 0),(.cptr (unMach 300 m) 0),(.cptr [(.q p.at_.x jb),(.q p.at_.z jb),(.q p.turn jb),(.list 3 (p.joints.map (unQ jb)))] 0)])] 0)),(9,.ptr 0 7 0 0),(10,.i6 (i:Int)),(31,.i6 (n:Int)),(32,.i6 (i:Int)),(35,.ptr 0 7 0 0),(36,.ptr 0 7 0 0),(37,.ptr 0 7 0 0),(38,.ptr 0 7 0 6),(39,.nil),(40,(.fn 209 [(.cptr [(.lit (.map (some r)))] 0),(.cptr [(.fn 209 [(.cptr [(.lit (.map (some r)))] 0),.any,(.cptr (unMach 300 m) 0),(.cptr [(.q p.at_.x jb),(.q p.at_.z jb),(.q p.turn jb),(.list 3 (p.joints.map (unQ jb)))] 0)])] 0),(.cptr (unMach 300 m) 0),(.cptr [(.q p.at_.x jb),(.q p.at_.z jb),(.q p.turn jb),(.list 3 (p.joints.map (unQ jb)))] 0)])),(41,.i6 (i:Int)),(42,.agg [(.q f.at_.x (2*s)),(.q f.at_.z (2*s)),(.q f.c s),(.q f.s s)]),(43,.own 1 12 0 1),(44,.own 2 12 0 1),(45,.ptr 0 7 0 0),(46,.ptr 0 7 0 6)]).getD τ .any)->wpOp Tryz.prog (regOps (nav [1,1,1,1,1,1,0,1,0,0,1,1,0,0,1] (bodyOf Tryz.f117))) Q 7 (fun a' w'=>∃ β',B' β'/\Rel β'.S β'.C β'.w ρ D ⟨put σ (some 42) (.agg (unF s f)),h⟩ a' w') a w)
   (hg:∀ β,B' β->Good Tryz.prog 117 β.S β.C β.w Post (n117_2 Tryz.f117) ⟨slots 49 [(8,.cptr [.fn 209 (n117_0 r m jb p)] 0),(9,.ptr 0 7 0 0),(10,.i6 (i:Int)),(31,.i6 (n:Int)),(32,.i6 (i:Int)),(35,.ptr 0 7 0 0),(36,.ptr 0 7 0 0),(37,.ptr 0 7 0 0),(38,.ptr 0 7 0 6),(39,.nil),(40,.fn 209 (n117_0 r m jb p)),(41,.i6 (i:Int)),(42,.agg (unF s f)),(43,.own 1 12 0 1),(44,.own 2 12 0 1),(45,.ptr 0 7 0 0),(46,.ptr 0 7 0 6)],[some ⟨264,7,false,[[.str m.name,.list 27 (m.bodies.map (unBody 300)),.list 17 (m.springs.map (unCordy 300)),.list 17 (m.tendons.map (unCordy 300)),.list 13 (m.motors.map (unMotor 300)),.list 5 (m.feet.map (unFoot 300)),.own 2 12 0 1]],none⟩,some ⟨175,12,false,[(unF s f)],none⟩,some ⟨175,12,true,[(unF s f)],none⟩]⟩):
   Good Tryz.prog 117 S0 C0 w0 Post (n117_1 Tryz.f117) ⟨slots 49 [(8,.cptr [.fn 209 (n117_0 r m jb p)] 0),(9,.ptr 0 7 0 0),(10,.i6 (i:Int)),(31,.i6 (n:Int)),(32,.i6 (i:Int))],[some ⟨264,7,false,[[.str m.name,.list 27 (m.bodies.map (unBody 300)),.list 17 (m.springs.map (unCordy 300)),.list 17 (m.tendons.map (unCordy 300)),.list 13 (m.motors.map (unMotor 300)),.list 5 (m.feet.map (unFoot 300)),.nil]],none⟩]⟩:=
 Good.regX mixed TT0_ok KT117_ok 7 (c:=nav [1,1,1,1,1,1,0,1,0,0,1,1,0,0,1] (bodyOf Tryz.f117)) (oX:=((regOps (nav [1,1,1,1,1,1,0,1,0,0,1,1,0,0,1] (bodyOf Tryz.f117))).toList[7]?).getD default) (dX:=some 42) (V:=(.agg (unF s f))) (ov:=[(42,(.agg (unF s f)))]) (ob:=[1=1,0<1,1*224<=140737488355328,1<=big]) [40,41] (by kernel_rfl) (by kernel_rfl) (by kernel_rfl) (by kernel_rfl) (by kernel_rfl)
   (.cons (rfl) (.cons (by decide) (.cons (o.1) (.cons (o.2) (AllP.nil))))) (Or.inr (by kernel_rfl)) (by kernel_rfl) hX hB hg
theorem x117_1 {B B':Base->Prop} (m:MachD) (p:PoseD) (jb r:Nat) (i n s k:Nat) (f:FrameD) (A:List (List AV)) (o:(k=A.length)/\((k+1)*224<=140737488355328)/\(k+1<=big))
   (hB:B ⟨S0,C0,w0⟩) (hX:∀ (Q:Exit->Act->World->Prop) β ρ D σ h a w,B β->Rel β.S β.C β.w ρ D ⟨σ,h⟩ a w->(∀ τ∈ [40,41],σ.getD τ .any=(slots 49 [(8,(.cptr [(.fn 209 [(.cptr [(.lit (.map (some r)))] 0),(.cptr [(.fn 209 [(.cptr [(.lit (.map (some r)))] 0),.any,(.cptr (unMach 300 m) 0),(.cptr [(.q p.at_.x jb),(.q p.at_.z jb),(.q p.turn jb),(.list 3 (p.joints.map (unQ jb)))] 0)])] 0),(.cptr (unMach 300 m) 0),(.cptr [(.q p.at_.x jb),(.q p.at_.z jb),(.q p.turn jb),(.list 3 (p.joints.map (unQ jb)))] 0)])] 0)),(9,.ptr 0 7 0 0),(10,.i6 (i:Int)),(31,.i6 (n:Int)),(32,.i6 (i:Int)),(35,.ptr 0 7 0 0),(36,.ptr 0 7 0 0),(37,.ptr 0 7 0 0),(38,.ptr 0 7 0 6),(39,.own 1 12 0 k),(40,(.fn 209 [(.cptr [(.lit (.map (some r)))] 0),(.cptr [(.fn 209 [(.cptr [(.lit (.map (some r)))] 0),.any,(.cptr (unMach 300 m) 0),(.cptr [(.q p.at_.x jb),(.q p.at_.z jb),(.q p.turn jb),(.list 3 (p.joints.map (unQ jb)))] 0)])] 0),(.cptr (unMach 300 m) 0),(.cptr [(.q p.at_.x jb),(.q p.at_.z jb),(.q p.turn jb),(.list 3 (p.joints.map (unQ jb)))] 0)])),(41,.i6 (i:Int)),(42,.agg [(.q f.at_.x (2*s)),(.q f.at_.z (2*s)),(.q f.c s),(.q f.s s)]),(43,.own 2 12 0 1),(44,.own 3 12 0 (k+1)),(45,.ptr 0 7 0 0),(46,.ptr 0 7 0 6)]).getD τ .any)->wpOp Tryz.prog (regOps (nav [1,1,1,1,1,1,0,1,0,0,1,1,0,0,1] (bodyOf Tryz.f117))) Q 7 (fun a' w'=>∃ β',B' β'/\Rel β'.S β'.C β'.w ρ D ⟨put σ (some 42) (.agg (unF s f)),h⟩ a' w') a w)
   (hg:∀ β,B' β->Good Tryz.prog 117 β.S β.C β.w Post (n117_2 Tryz.f117) ⟨slots 49 [(8,.cptr [.fn 209 (n117_0 r m jb p)] 0),(9,.ptr 0 7 0 0),(10,.i6 (i:Int)),(31,.i6 (n:Int)),(32,.i6 (i:Int)),(35,.ptr 0 7 0 0),(36,.ptr 0 7 0 0),(37,.ptr 0 7 0 0),(38,.ptr 0 7 0 6),(39,.own 1 12 0 k),(40,.fn 209 (n117_0 r m jb p)),(41,.i6 (i:Int)),(42,.agg (unF s f)),(43,.own 2 12 0 1),(44,.own 3 12 0 (k+1)),(45,.ptr 0 7 0 0),(46,.ptr 0 7 0 6)],[some ⟨264,7,false,[[.str m.name,.list 27 (m.bodies.map (unBody 300)),.list 17 (m.springs.map (unCordy 300)),.list 17 (m.tendons.map (unCordy 300)),.list 13 (m.motors.map (unMotor 300)),.list 5 (m.feet.map (unFoot 300)),.own 3 12 0 (k+1)]],none⟩,none,some ⟨175,12,false,[(unF s f)],none⟩,some ⟨175,12,true,(A++ [[(AV.q f.at_.x (2*s)),(AV.q f.at_.z (2*s)),(AV.q f.c s),(AV.q f.s s)]]),none⟩]⟩):
   Good Tryz.prog 117 S0 C0 w0 Post (n117_1 Tryz.f117) ⟨slots 49 [(8,.cptr [.fn 209 (n117_0 r m jb p)] 0),(9,.ptr 0 7 0 0),(10,.i6 (i:Int)),(31,.i6 (n:Int)),(32,.i6 (i:Int))],[some ⟨264,7,false,[[.str m.name,.list 27 (m.bodies.map (unBody 300)),.list 17 (m.springs.map (unCordy 300)),.list 17 (m.tendons.map (unCordy 300)),.list 13 (m.motors.map (unMotor 300)),.list 5 (m.feet.map (unFoot 300)),.own 1 12 0 k]],none⟩,some ⟨175,12,true,A,none⟩]⟩:=
 Good.regX mixed TT0_ok KT117_ok 7 (c:=nav [1,1,1,1,1,1,0,1,0,0,1,1,0,0,1] (bodyOf Tryz.f117)) (oX:=((regOps (nav [1,1,1,1,1,1,0,1,0,0,1,1,0,0,1] (bodyOf Tryz.f117))).toList[7]?).getD default) (dX:=some 42) (V:=(.agg (unF s f))) (ov:=[(42,(.agg (unF s f)))]) (ob:=[1=1,k=A.length,(k+1)*224<=140737488355328,k+1<=big]) [40,41] (by kernel_rfl) (by kernel_rfl) (by kernel_rfl) (by kernel_rfl) (by kernel_rfl)
   (.cons (rfl) (.cons (o.1) (.cons (o.2.1) (.cons (o.2.2) (AllP.nil))))) (Or.inr (by kernel_rfl)) (by kernel_rfl) hX hB hg
end
noncomputable abbrev c117T0:List Item:=[.code (nav [1,1,1,1,1,1,0,1,0,0,1,1,0,0,1] (bodyOf Tryz.f117)),.inBlock 1,.code (nav [1,1,1,1,1,1,0,1,0,0,1,1,1] (bodyOf Tryz.f117)),.inLoop (nav [1,1,1,1,1,1,0,1,0,0] (bodyOf Tryz.f117)),.inBlock 0,.code (nav [1,1,1,1,1,1,1] (bodyOf Tryz.f117))]
theorem firstE_zero {f:Nat->Int}:∀ (k i:Nat),firstE f i k=0->∀ j,i<=j->j<i+k->f j=0
 | 0,i,h,j,h1,h2=>by omega
 | k +1,i,h,j,h1,h2=>by
   rw[firstE] at h
   by_cases c:f i=0
   · rw[if_pos c] at h
     by_cases e:j=i
     · rw[e];exact c
     · exact firstE_zero k (i+1) h j (by omega) (by omega)
   · rw[if_neg c] at h;exact absurd h c
theorem eachE_zero {n:Nat} {t:Int} {f:Nat->Int} (h:eachE n t f=0):∀ j,j<n->f j=0:=by
 unfold eachE at h
 split at h
 · cases h
 · exact fun j hj=>firstE_zero n 0 h j (by omega) (by omega)
theorem check_parts {m:MachD} (h:checkE m=0):m.bodies.length≠0/\(∀ i,i<m.bodies.length->bodyE m.bodies i=0)/\(∀ i,i<m.springs.length->springE m.bodies.length (m.springs.getD i default)=0)/\
   (∀ i,i<m.tendons.length->tendonE m.bodies.length (m.tendons.getD i default)=0)/\(∀ i,i<m.motors.length->motorE m.bodies.length m.motors i=0)/\(∀ i,i<m.feet.length->footE m.bodies.length (m.feet.getD i default)=0):=by
 unfold checkE at h
 split at h
 · cases h
 · split at h
   · cases h
   · rename_i h1 h2
     unfold orE at h
     split at h
     · rename_i a1
       unfold orE at h
       split at h
       · rename_i a2
         unfold orE at h
         split at h
         · rename_i a3
           unfold orE at h
           split at h
           · rename_i a4
             unfold orE at h
             split at h
             · rename_i a5
               exact⟨h2,eachE_zero a1,eachE_zero a2,eachE_zero a3,eachE_zero a4,eachE_zero a5⟩
             · rename_i a5;exact absurd h a5
           · rename_i a4;exact absurd h a4
         · rename_i a3;exact absurd h a3
       · rename_i a2;exact absurd h a2
     · rename_i a1;exact absurd h a1
theorem body_limb {bs:List BodyD} {i:Nat} (h:bodyE bs i=0) (h0:0<i):limbB (bs.getD i default) i=true:=by
 unfold bodyE bodyV at h
 split at h
 · cases h
 · split at h
   · cases h
   · unfold bodyF at h
     split at h
     · cases h
     · rename_i hn
       cases hl:limbB (bs.getD i default) i with
       | true=>rfl
       | false=>exact absurd (.inr (.inl ⟨h0,hl⟩)) hn
theorem check_tree {m:MachD} (h:checkE m=0):m.tree:=fun i h0 hi=>by
 have:=body_limb ((check_parts h).2.1 i hi) h0;unfold limbB at this
 have:=of_decide_eq_true this;exact⟨this.1,this.2.1⟩
theorem pose_parts {m:MachD} {n:Nat} (h:poseE m n=0):checkE m=0/\n+1=m.bodies.length:=by
 unfold poseE at h
 split at h
 · rename_i h1
   split at h
   · exact⟨h1,by omega⟩
   · cases h
 · rename_i h1;exact absurd h h1
def unPl (jb:Nat) (m:MachD) (p:PoseD):List AV:=
 [.str m.name,.list 27 (m.bodies.map (unBody 300)),.list 17 (m.springs.map (unCordy 300)),.list 17 (m.tendons.map (unCordy 300)),.list 13 (m.motors.map (unMotor 300)),.list 5 (m.feet.map (unFoot 300)),.list 12 ((List.range m.bodies.length).map fun i=>unF (SZ jb) (fr m p i))]
def standP (jb:Nat) (m:MachD) (p:PoseD):AV:=if poseE m p.joints.length=0 then .cptr (unPl jb m p) 0 else .lit (.pointer none)
def reQ:List AV->Rat
 | [.q x _]=>x
 | _=>0
theorem reQ_un {B:Nat} (l:List Rat):(l.map (unQ B)).map reQ=l:=re_un (fun _=>rfl) l
def k117:KF
 | [.agg M,.agg [.q ax A1,.q az A2,.q tu A3,.list 3 J]]=>some (.tup [standP A1 (reMach M) ⟨⟨ax,az⟩,tu,J.map reQ⟩,.int .i64 (poseE (reMach M) J.length)],
     [M=unMach 300 (reMach M),(reMach M).small,(reMach M).bodies.length<=8,A2<=A1,A3<=A1,A1<=100000,Ref (.list 3 J) (.list 3 ((J.map reQ).map (unQ A1))),J.length<=4611686018427387904])
 | _=>none
theorem Rel.known {S0 C0:Nat->Prop} {w0:World} {ρ:Nat->Nat} {D:Nat->Prop} {σ:List AV} {h:List (Option ABlk)} {a:Act} {w:World} (R:Rel S0 C0 w0 ρ D ⟨σ,h⟩ a w) {t:Nat} {V:AV} (hv:∀ v,a.tmps[t]? =some v->RelV ρ (Sof S0 ρ h) w D V v):Rel S0 C0 w0 ρ D ⟨σ.set t V,h⟩ a w:=
 { R with
   len:=by rw[R.len];simp
   tmps:=fun u v hu=>by
     show RelV ρ (Sof S0 ρ h) w D ((σ.set t V).getD u .any) v;rw[set_getD]
     split
     · rename_i e;obtain⟨rfl,_⟩:=e;exact hv v hu
     · exact R.tmps u v hu }
section
variable {S:Nat->Prop} {w0:World}
theorem reg4 (hS:∀ k,S k->k<w0.heap.size) {jb:Nat} {m:MachD} {p:PoseD} (hjb:jb<=100000) (hQ:FQ (rz jb 0) (fr m p 0)) {Post:Value->World->Prop}
   (hg:∀ r β,w0.heap.size<=r->Aft (frs jb m p) 1 r (fun x=>S x\/x=r) w0 β->Good Tryz.prog 117 β.S β.C β.w Post [.code (nav [1,1,1] (bodyOf Tryz.f117))] ⟨slots 49 [(2,.cptr (unMach 300 m) 0),(3,.cptr (unPose jb p) 0),(7,kbA r)],[none]⟩):
   Good Tryz.prog 117 S No w0 Post [.code R4,.code (nav [1,1,1] (bodyOf Tryz.f117))] ⟨slots 49 [(2,.cptr (unMach 300 m) 0),(3,.cptr (unPose jb p) 0)],[]⟩:=by
 refine x117_4 (γ:=G4) G4.ov (I4 (frs jb m p) S w0) m p jb (rz jb 0) (fr m p 0) ⟨by unfold LIM;omega, ?_⟩ (fun L g β hI q hq=> ?_) (fun L i g β hi h=>h.other hi) (fun i hi Q L g β ρ D σ h a w V oX hoX hog hI hsz hun hed hA hlen R=> ?_) ⟨[],0,0⟩ ?_ rfl (fun L g β hall hI=> ?_)
 · exact Ref.frame rfl hQ
 · rw[hI.ov] at hq
   rcases List.mem_append.1 hq with hq | hq
   · rcases List.mem_append.1 hq with hq | hq
     · rw[ifL_mem (b:=L.getD 0 false) hq];simp
     · rw[ifL_mem (b:=L.getD 8 false) hq];simp
   · rw[ifL_mem (b:=L.getD 9 false) hq];simp
 · rw[r4_size] at hsz
   have h24:24<σ.length:=by rw[hlen,slots_length];decide
   simp only[List.mem_cons,List.mem_nil_iff,or_false] at hi;rcases hi with rfl | rfl | rfl | rfl | rfl
   · exact x4_0 hoX hog hI hsz hun R
   · exact x4_7 (F:=frs jb m p) rfl hoX hog hI hsz hun hed (hA 23 (by simp)) R
   · exact x4_8 hoX hog hI hsz hun hed (hA 23 (by simp)) R
   · exact x4_9 hoX hog hI hsz hun R
   · exact x4_10 h24 hoX hog hI hsz hun hed (hA 23 (by simp)) R
 · unfold I4
   rw[r4_size]
   have z:∀ j,(Array.replicate 11 false).getD j false=false:=fun j=>by
     simp[Array.getD]
   rw[z,z,z,z,z]
   exact {
     c:=fun x h=>h.elim
     chg:=Chg.refl _ _
     ov:=rfl
     s:=fun x=>by simp
     r0:=fun h=>by cases h
     r1:=fun h=>by cases h
     r2:=fun h=>by cases h
     k0:=fun h=>by cases h
     k1:=fun h=>by cases h
     e7:=fun h=>by cases h
     e8:=fun h=>by cases h
     e10:=fun h=>by cases h }
 · rw[r4_size] at hall
   unfold I4 at hI;rw[hall 0 (by decide),hall 7 (by decide),hall 8 (by decide),hall 9 (by decide),hall 10 (by decide)] at hI;have hov:g.ov= [(17,mapV g.r),(24,mapV g.r),(7,ptrV g.k)]:=hI.ov;obtain⟨r1,r2,r3⟩:=hI.r0 rfl;obtain⟨k1,k2,k3⟩:=hI.k0 rfl;obtain⟨c,kc,hc⟩:=hI.k1 rfl;have hc:=hc rfl;subst hc;have M1:=hI.r2 rfl
   have hrk:g.r≠g.k:=fun e=>by
     obtain⟨es,clk,m1,_⟩:=M1;rw[e,kc] at m1;cases m1
   have hS1:∀ x,S x\/x=g.r->β.S x:=fun x hx=>(hI.s x).2 (hx.imp id fun h=>.inl ⟨rfl,h⟩)
   have M2:Memo (frs jb m p) 1 (fun x=>(S x\/x=g.r)\/β.C x) β.w g.r:=
     M1.keep (rl _) rfl fun k _ hs=>⟨fun h=>hs (h.imp (hS1 k) id),rfl⟩
   have hgood:=hg g.r ⟨fun x=>S x\/x=g.r,β.C,β.w⟩ r1 ⟨rfl,hI.c,r2,hI.chg,M2⟩;intro ρ D a w R b cs hb hk;have R1:=R.shrink hS1
   have hkS:¬ (fun x=>S x\/x=g.r) g.k:=by
     rintro(h | h)
     · have:=hS _ h;omega
     · exact hrk h.symm
   have kw:w.heap[g.k]? =some (.cells #[.map (some g.r)] 366 (0,0)):=by rw[R.chg.block _ k3 k2];exact kc
   have R2:=R1.slots (σ':=slots 49 [(2,.cptr (unMach 300 m) 0),(3,.cptr (unPose jb p) 0),(7,ptrV g.k)]) (by rw[hov];rfl) (slots_ref (by
     rw[hov]
     exact .r (.r (.r .nil))))
   have R3:=R2.known (t:=7) (V:=kbA g.r) fun v hv=>by
     have h1:=R2.tmps 7 v hv;have h2:v= .pointer (some ⟨g.k,0,none⟩):=RelV.lit_inv (u:=.pointer (some ⟨g.k,0,none⟩)) h1;subst h2;refine RelV_one (RelCs.cptr (a:=⟨g.k,0,none⟩) (o:=0) (.lit (v:=.map (some g.r)) rfl .done) (heap_lt kw) ?_ ?_ .done)
     · rintro(h | ⟨l,b,hb,e⟩)
       · exact hkS h
       · exact R.ownC_no ((hI.s _).2 (.inr (.inr ⟨rfl,rfl⟩))) ⟨l,b,hb,e⟩
     · intro j v hv
       cases j with
       | zero=>simp at hv;subst hv;simp[World.cell?,Addr.add,kw]
       | succ j=>simp at hv
   exact hgood ρ D a w R3 b cs hb hk
theorem Ref.cptr {cs cs':List AV} {o:Nat} (h:RefC cs cs'):Ref (.cptr cs o) (.cptr cs' o):=fun ρ S w D v x=>by
 have x':RelCs ρ S w D [.cptr cs o] [v]:=x;cases x' with
 | cptr h1 h2 h3 h4 h5=>exact RelV_one (.cptr (h _ _ _ _ _ h1) h2 h3 h4 .done)
abbrev clo2 (jb r:Nat) (m:MachD) (p:PoseD):AV:=.cptr [.fn 209 [kbA r,cloA jb r m p,.cptr (unMach 300 m) 0,.cptr (unPose jb p) 0]] 0
theorem slots2 (A B:AV) (t:Nat):(slots 49 [(2,A),(8,B)]).getD t .any=if 8=t/\8<49 then B else if 2=t/\2<49 then A else .any:=by
 have hr:(List.replicate 49 AV.any).getD t .any= .any:=by
   simp only[gdE,List.getElem?_replicate]
   split <;> rfl
 unfold slots;simp only[List.foldl];rw[set_getD,set_getD,hr];simp only[List.length_set,List.length_replicate]
theorem knot {S0 C0:Nat->Prop} {w1:World} {Post:Value->World->Prop} {todo:List Item} {jb r:Nat} {m:MachD} {p:PoseD}
   (hg:Good Tryz.prog 117 S0 C0 w1 Post todo ⟨slots 49 [(2,.cptr (unMach 300 m) 0),(8,clo2 jb r m p)],[]⟩):
   Good Tryz.prog 117 S0 C0 w1 Post todo ⟨slots 49 [(2,.cptr (unMach 300 m) 0),(3,.cptr (unPose jb p) 0),(7,kbA r),(8,.ptr 0 1 0 0)],[some ⟨367,1,false,[[.fn 209 [kbA r,.ptr 0 1 0 0,.cptr (unMach 300 m) 0,.cptr (unPose jb p) 0]]],none⟩]⟩:=by
 intro ρ D a w R b cs hb hk;refine hg ρ No a w ?_ b cs hb hk;obtain⟨hD0,arr,h1,h2,h3⟩:=R.heap 0 _ rfl;have hc:=h3 0 _ rfl
 have kp:∀ {cs:List AV} {vs:List Value},RelCs ρ (Sof S0 ρ [some ⟨367,1,false,[[.fn 209 [kbA r,.ptr 0 1 0 0,.cptr (unMach 300 m) 0,.cptr (unPose jb p) 0]]],none⟩]) w No cs vs->RelCs ρ S0 w No cs vs:=
   fun x=>x.keep _ (fun _ h=>h) ⟨Nat.le_refl _,fun l h=>h.elim,fun k _ hs=>⟨fun h=>hs (.inl h),rfl⟩⟩
 have hns:¬ S0 (ρ 0):=(R.mine 0 _ rfl).2.1;have hSn:∀ k,¬ Sof S0 ρ [some ⟨367,1,false,[[.fn 209 [kbA r,.ptr 0 1 0 0,.cptr (unMach 300 m) 0,.cptr (unPose jb p) 0]]],none⟩] k->¬ S0 k:=fun k hs h=>hs (.inl h)
 simp only[Nat.zero_mul,List.drop_zero,Bool.false_eq_true,if_false] at hc
 obtain⟨v0,hv0⟩:∃ v0,arr.toList.take 1= [v0]:=by
   have:=hc.wds_eq;simp[wds,wd] at this;exact List.length_eq_one_iff.1 (by simpa using this)
 rw[hv0] at hc
 have hcell:w.cell? ⟨ρ 0,0,none⟩=some v0:=by
   have:arr[0]? =some v0:=by
     have h:=congrArg (fun l=>l[0]?) hv0;simpa[List.getElem?_take] using h
   simp[World.cell?,h1,this]
 have hseg:Seg w ⟨ρ 0,0,none⟩ [v0]:=fun j v hv=>by
   cases j with
   | zero=>simp at hv;subst hv;simpa[Addr.add] using hcell
   | succ j=>simp at hv
 cases hc with
 | fn hcaps hdone=>
   cases hcaps with
   | cptr x1 x2 x3 x4 x5=>
     cases x5 with
     | ptr y1 y2 =>
       cases y2 with
       | cptr z1 z2 z3 z4 z5=>
         cases z5 with
         | cptr u1 u2 u3 u4 u5=>
           cases u5;have any:RelCs ρ S0 w No [AV.fn 209 [kbA r,.any,.cptr (unMach 300 m) 0,.cptr (unPose jb p) 0]] _:=.fn (.cptr (kp x1) x2 (hSn _ x3) x4 (.any (v:=.pointer (some ⟨ρ 0,0*1+0,none⟩)) rfl (.cptr (kp z1) z2 (hSn _ z3) z4 (.cptr (kp u1) u2 (hSn _ u3) u4 .done)))) .done
           have full:RelCs ρ S0 w No [clo2 jb r m p] [.pointer (some (Addr.add ⟨ρ 0,0,none⟩ 0))]:=
             .cptr (.fn (.cptr (kp x1) x2 (hSn _ x3) x4 (.cptr any (heap_lt h1) hns hseg (.cptr (kp z1) z2 (hSn _ z3) z4 (.cptr (kp u1) u2 (hSn _ u3) u4 .done)))) .done) (heap_lt h1) hns hseg .done
           have hS0:Sof S0 ρ ([]:List (Option ABlk))=S0:=by funext k;apply propext;unfold Sof;simp
           exact {
             defers:=R.defers
             len:=by rw[R.len];simp[slots_length]
             tmps:=fun t v hv=>by
               show RelV ρ (Sof S0 ρ []) w No _ v;rw[hS0]
               have hget:(slots 49 [(2,.cptr (unMach 300 m) 0),(8,clo2 jb r m p)]).getD t .any=if 8=t/\8<49 then clo2 jb r m p else if 2=t/\2<49 then .cptr (unMach 300 m) 0 else .any:=by
                 exact slots2 _ _ t
               show RelV ρ S0 w No ((slots 49 [(2,.cptr (unMach 300 m) 0),(8,clo2 jb r m p)]).getD t .any) v;rw[hget];have h5:=R.tmps t v hv
               split
               · rename_i e
                 obtain⟨rfl,_⟩:=e;obtain⟨e1,_⟩:=ptr_inv (show RelV ρ _ w D (.ptr 0 1 0 0) v from h5);subst e1;exact RelV_one full
               · split
                 · rename_i e
                   obtain⟨rfl,_⟩:=e;have h6:RelCs ρ _ w D [AV.cptr (unMach 300 m) 0] [v]:=h5;exact RelV_one (kp (h6.noRef0 rfl ρ))
                 · trivial
             heap:=fun l b h=>by simp at h
             inj:=fun l l' b b' h=>by simp at h
             lt:=R.lt
             dlt:=fun l h=>h.elim
             chg:=R.chg
             mine:=fun l b h=>by simp at h }
noncomputable abbrev T117:List Item:=[.code (nav [1,1,1,1,1,1,0,1,0,0] (bodyOf Tryz.f117)),.inLoop (nav [1,1,1,1,1,1,0,1,0,0] (bodyOf Tryz.f117)),.inBlock 0,.code (nav [1,1,1,1,1,1,1] (bodyOf Tryz.f117))]
abbrev zbA (m:MachD) (x:AV):ABlk:=⟨264,7,false,[[.str m.name,.list 27 (m.bodies.map (unBody 300)),.list 17 (m.springs.map (unCordy 300)),.list 17 (m.tendons.map (unCordy 300)),.list 13 (m.motors.map (unMotor 300)),.list 5 (m.feet.map (unFoot 300)),x]],none⟩
theorem op117_11:∃ (oX:Oper) (c:Call),(regOps (nav [1,1,1,1,1,1,0,1,0,0,1,1,0,0,1] (bodyOf Tryz.f117)))[7]? =some oX/\oX.guard=none/\oX.op=Op.call c/\c.callee=Callee.value (Operand.tmp 40)/\c.args= #[Operand.tmp 41]/\oX.dst=some 42:=
 ⟨((regOps (nav [1,1,1,1,1,1,0,1,0,0,1,1,0,0,1] (bodyOf Tryz.f117))).toList[7]?).getD default,⟨Callee.value (Operand.tmp 40), #[Operand.tmp 41], #[3]⟩,by kernel_rfl,by kernel_rfl,by kernel_rfl,rfl,rfl,by kernel_rfl⟩
section
variable {jb r:Nat} {m:MachD} {p:PoseD}
theorem end117 (n:Nat) (hn:n=m.bodies.length) (h8:n<=8) {β:Base} (hβ:Aft (frs jb m p) n r (fun x=>S x\/x=r) w0 β):
   Good Tryz.prog 117 β.S β.C β.w (PostF S w0 (.tup [.cptr (unPl jb m p) 0,.i6 0])) [.code .ret] ⟨slots 49 [(4,.ptr 0 7 0 0),(5,.i6 0)],[some (zbA m (.own 1 12 0 n)),some ⟨175,12,true,(List.range n).map (frs jb m p),none⟩]⟩:=by
 obtain⟨b1,b2,b3,b4,b5⟩:=hβ;refine Good.freezeD (b:=⟨175,12,true,(List.range n).map (frs jb m p),none⟩) 1 (by rfl) (by rfl) .on (.oe (.a1 (show 0+n<=((List.range n).map (frs jb m p)).length by simp))) ?_;refine Good.freezeD (b:=zbA m (.list 12 ((((List.range n).map (frs jb m p)).drop 0).take n))) 0 (by rfl) (by rfl) (.oe (.a1 (dc (0<1)))) .on ?_;refine good_end TT0_ok (fn:=Tryz.f117) (by kernel_rfl) (.inr ⟨_,rfl⟩) (Vs:=[.cptr [.str m.name,.list 27 (m.bodies.map (unBody 300)),.list 17 (m.springs.map (unCordy 300)),.list 17 (m.tendons.map (unCordy 300)),.list 13 (m.motors.map (unMotor 300)),.list 5 (m.feet.map (unFoot 300)),.list 12 ((((List.range n).map (frs jb m p)).drop 0).take n)] 0,.i6 0]) (by kernel_rfl) (.inr rfl) fun ρ D a w2 u R hu=>⟨?_, ?_⟩
 · have h1:=outer_rel (S':=S) hu rfl fun k h=>.inl (b1▸ .inl h)
   refine Ref.tup2 (Ref.cptr ?_) rr rfl rfl rfl rfl _ _ _ _ _ h1;refine .tl (.tl (.tl (.tl (.tl (.tl ?_)))));subst hn;rw[List.drop_zero,tkE (by simp)];refine RefC.listM _ fun i hi=> ?_
   have hi:=List.mem_range.1 hi
   have:=rz_le (jb:=jb) (i:=i) (by omega);exact RefC.cons (RefC.q_le (by omega)) (RefC.cons (RefC.q_le (by omega)) (RefC.cons (RefC.q_le (by omega)) (RefC.q_le (by omega))))
 · exact b4.trans R.chg fun i hi hc=>by have:=b2 i hc;omega
abbrev lst (jb r n i:Nat) (m:MachD) (p:PoseD):List AV:=slots 49 [(8,clo2 jb r m p),(9,.ptr 0 7 0 0),(31,.i6 ((n:Nat):Int)),(32,.i6 ((i:Nat):Int))]
theorem loop117 (hS:∀ k,S k->k<w0.heap.size) (hjb:jb<=100000) (hB:Bnd jb m p) (ht:m.tree) (h8:m.bodies.length<=8) (hj:p.joints.length+1=m.bodies.length) (hr:w0.heap.size<=r):∀ (j i:Nat),i+j=m.bodies.length->1<=i->
   ∀ β,Aft (frs jb m p) i r (fun x=>S x\/x=r) w0 β->Good Tryz.prog 117 β.S β.C β.w (PostF S w0 (.tup [.cptr (unPl jb m p) 0,.i6 0])) T117 ⟨lst jb r m.bodies.length i m p,[some (zbA m (.own 1 12 0 i)),some ⟨175,12,true,(List.range i).map (frs jb m p),none⟩]⟩:=by
 intro j
 induction j with
 | zero=>
   intro i hij h1 β hβ;exact gS KT117_ok (some 11) [4,5] [(33,ff)] (.a1 (iF (om (¬ ((i:Int)<(m.bodies.length:Int)))))) (end117 i (by omega) (by omega) hβ)
 | succ j ih=>
   intro i hij h1 β hβ;refine gS KT117_ok (some 11) [4,5,8,9,10,31,32] [(33,tt)] (.a1 (iT (om ((i:Int)<(m.bodies.length:Int))))) (t:=c117T0) (σ:=slots 49 [(8,.cptr [.fn 209 [.cptr [.lit (.map (some r))] 0,.cptr [.fn 209 [.cptr [.lit (.map (some r))] 0,.any,.cptr (unMach 300 m) 0,.cptr (unPose jb p) 0]] 0,.cptr (unMach 300 m) 0,.cptr (unPose jb p) 0]] 0),(9,.ptr 0 7 0 0),(10,.i6 (i:Int)),(31,.i6 (m.bodies.length:Int)),(32,.i6 (i:Int))]) (h:=[some ⟨264,7,false,[[.str m.name,.list 27 (m.bodies.map (unBody 300)),.list 17 (m.springs.map (unCordy 300)),.list 17 (m.tendons.map (unCordy 300)),.list 13 (m.motors.map (unMotor 300)),.list 5 (m.feet.map (unFoot 300)),.own 1 12 0 i]],none⟩,some ⟨175,12,true,((List.range i).map (frs jb m p)),none⟩]) ?_
   refine x117_1 (B:=fun β'=>β'=β) (B':=Aft (frs jb m p) (i+1) r (fun x=>S x\/x=r) w0) m p jb r i m.bodies.length (rz jb i) i (fr m p i) ((List.range i).map (frs jb m p)) ⟨by simp,by omega,by unfold big;omega⟩ (by cases β;rfl) ?_ ?_
   · rintro Q β' ρ D σ h a w1 rfl R hA
     obtain⟨b1,b2,b3,b4,b5⟩:=hβ;have e1:aval σ (.tmp 40)= .fn 209 [kbA r,cloA jb r m p,.cptr (unMach 300 m) 0,.cptr (unPose jb p) 0]:=(hA 40 (by simp)).trans (by kernel_rfl);have e2:aval σ (.tmp 41)= .i6 ((i:Nat):Int):=(hA 41 (by simp)).trans (by kernel_rfl);obtain⟨oX,c,hoX,hg,hop,hc,hargs,hd⟩:=op117_11;have M1:Memo (frs jb m p) i (Sof β'.S ρ h) w1 r:=Memo.now R (by rw[b1];exact b5) b3;have hSr:β'.S r:=by rw[b1];exact .inr rfl
     have hmap:c.args.toList.map (aval σ)= [.i6 ((i:Nat):Int)]:=by rw[hargs];simp[e2]
     have hcall:=wpOp_call (Q:=Q) (J:=fun v w'=>RelV ρ0 (Sof β'.S ρ h) w' No (.agg (frs jb m p i)) v/\Chg (· =r) w1 w'/\Memo (frs jb m p) (i+1) (Sof β'.S ρ h) w' r) R hoX hg hop hc e1 (by rw[hmap];simp[noRefV,noRef,noRef0,isCap,wd]) has209 (fun vals hvals=>by
       rw[hmap] at hvals
       exact miss209 hjb m p ht (fun k=>R.Slt) (.inl hSr) M1 (by omega) (by omega) (by omega) (by omega) (fr_FQ hB ht (by omega) (by omega) h8) hvals)
     refine wpOp_mono ?_ hcall;rintro a' w' ⟨u,⟨hu,hch,M2⟩,rfl⟩;rw[hd];refine⟨⟨β'.S,ownC ρ h,w'⟩,⟨b1,fun k hk=>R.ownC_ge hk b2 b4.size,R.ownC_no hSr, ?_, ?_⟩,R.turn hch (fun k hk=>by subst hk;exact hSr) (.inr ?_)⟩
     · refine(b4.trans R.chg fun i hi hc=>by have:=b2 i hc;omega).trans hch fun i hi hx=> ?_
       subst hx;omega
     · rw[b1] at M2;exact M2
     · obtain⟨us,h1,h2⟩:=hu
       exact⟨us,h1,toD h2⟩
   intro β' hβ';refine Good.pk 49 [(8,clo2 jb r m p),(9,.ptr 0 7 0 0),(31,.i6 ((m.bodies.length:Nat):Int)),(32,.i6 ((i:Nat):Int))] ?_;refine Good.tidy [0,3] (by decide) (σ':=lst jb r m.bodies.length i m p) (h':=[some (zbA m (.own 1 12 0 (i+1))),some ⟨175,12,true,(List.range i).map (frs jb m p)++ [frs jb m p i],none⟩]) (by kernel_rfl) (by kernel_rfl) ?_;have e:(List.range i).map (frs jb m p)++ [frs jb m p i]=(List.range (i+1)).map (frs jb m p):=by rw[List.range_succ];simp
   rw[e];exact gN KT117_ok [8,9,31,32] [(47,.i6 ((i+1:Nat):Int))] (.a1 (wI ((i:Int)+(1:Int)) ((i+1:Nat):Int))) (ih (i+1) (by omega) (by omega) β' hβ')
theorem run117 (hS:∀ k,S k->k<w0.heap.size) (hjb:jb<=100000) (hB:Bnd jb m p) (ht:m.tree) (h0:0<m.bodies.length) (h8:m.bodies.length<=8) (hj:p.joints.length+1=m.bodies.length):
   GF 117 S w0 (.tup [.cptr (unPl jb m p) 0,.i6 0]) [.code R4,.code (nav [1,1,1] (bodyOf Tryz.f117))] ⟨slots 49 [(2,.cptr (unMach 300 m) 0),(3,.cptr (unPose jb p) 0)],[]⟩:=by
 refine reg4 hS hjb (fr_FQ hB ht (by omega) h0 h8) fun r β hr hβ=> ?_
 refine Good.tidy [] (by decide) (σ':=slots 49 [(2,.cptr (unMach 300 m) 0),(3,.cptr (unPose jb p) 0),(7,kbA r)]) (h':=[]) (by kernel_rfl) (by kernel_rfl) ?_;refine gS KT117_ok (some 7) [2,3,7,8] [] .nil (t:=[.code (nav [1,1,1,1,1,0] (bodyOf Tryz.f117)),.code (nav [1,1,1,1,1,1] (bodyOf Tryz.f117))]) (σ:=slots 49 [(2,.cptr (unMach 300 m) 0),(3,.cptr (unPose jb p) 0),(7,.cptr [.lit (.map (some r))] 0),(8,.ptr 0 1 0 0)]) (h:=[some ⟨367,1,false,[[.fn 209 [.cptr [.lit (.map (some r))] 0,.ptr 0 1 0 0,.cptr (unMach 300 m) 0,.cptr (unPose jb p) 0]]],none⟩]) ?_
 refine knot ?_;refine gN KT117_ok [4,5,8,9,31,32] [] .nil (t:=T117) (σ:=slots 49 [(8,.cptr [.fn 209 [.cptr [.lit (.map (some r))] 0,.cptr [.fn 209 [.cptr [.lit (.map (some r))] 0,.any,.cptr (unMach 300 m) 0,.cptr (unPose jb p) 0]] 0,.cptr (unMach 300 m) 0,.cptr (unPose jb p) 0]] 0),(9,.ptr 0 7 0 0),(31,(.i6 ((m.bodies.map (unBody 300)).length:Int))),(32,.i6 (0:Int))]) (h:=[some ⟨264,7,false,[[.str m.name,.list 27 (m.bodies.map (unBody 300)),.list 17 (m.springs.map (unCordy 300)),.list 17 (m.tendons.map (unCordy 300)),.list 13 (m.motors.map (unMotor 300)),.list 5 (m.feet.map (unFoot 300)),.nil]],none⟩]) ?_
 have hlen:(m.bodies.map (unBody 300)).length=m.bodies.length:=lmE ..;rw[hlen];refine gS KT117_ok (some 11) [4,5,8,9,10,31,32] [(33,tt)] (.a1 (iT (om ((0:Int)<(m.bodies.length:Int))))) (t:=c117T0) (σ:=slots 49 [(8,.cptr [.fn 209 [.cptr [.lit (.map (some r))] 0,.cptr [.fn 209 [.cptr [.lit (.map (some r))] 0,.any,.cptr (unMach 300 m) 0,.cptr (unPose jb p) 0]] 0,.cptr (unMach 300 m) 0,.cptr (unPose jb p) 0]] 0),(9,.ptr 0 7 0 0),(10,.i6 (0:Int)),(31,.i6 (m.bodies.length:Int)),(32,.i6 (0:Int))]) (h:=[some ⟨264,7,false,[[.str m.name,.list 27 (m.bodies.map (unBody 300)),.list 17 (m.springs.map (unCordy 300)),.list 17 (m.tendons.map (unCordy 300)),.list 13 (m.motors.map (unMotor 300)),.list 5 (m.feet.map (unFoot 300)),.nil]],none⟩]) ?_
 refine x117_0 (B:=fun β'=>β'=β) (B':=Aft (frs jb m p) 1 r (fun x=>S x\/x=r) w0) m p jb r 0 m.bodies.length (rz jb 0) (fr m p 0) ⟨by decide,by unfold big;omega⟩ (by cases β;rfl) ?_ ?_
 · rintro Q β' ρ D σ h a w1 rfl R hA
   obtain⟨b1,b2,b3,b4,b5⟩:=hβ;have e1:aval σ (.tmp 40)= .fn 209 [kbA r,cloA jb r m p,.cptr (unMach 300 m) 0,.cptr (unPose jb p) 0]:=(hA 40 (by simp)).trans (by kernel_rfl);have e2:aval σ (.tmp 41)= .i6 ((0:Nat):Int):=(hA 41 (by simp)).trans (by kernel_rfl);obtain⟨oX,c,hoX,hg,hop,hc,hargs,hd⟩:=op117_11;have M1:Memo (frs jb m p) 1 (Sof β'.S ρ h) w1 r:=Memo.now R (by rw[b1];exact b5) b3;have hmap:c.args.toList.map (aval σ)= [.i6 ((0:Nat):Int)]:=by rw[hargs];simp[e2]
   have hcall:=wpOp_call (Q:=Q) (J:=PostF (Sof β'.S ρ h) w1 (.agg (frs jb m p 0))) R hoX hg hop hc e1 (by rw[hmap];simp[noRefV,noRef,noRef0,isCap,wd]) has209 (fun vals hvals=>by
     rw[hmap] at hvals
     exact hit209 jb m p (fun k=>R.Slt) M1 (by omega) hvals)
   refine wpOp_mono ?_ hcall;rintro a' w' ⟨u,⟨hu,hch⟩,rfl⟩;rw[hd];refine⟨_,⟨b1,b2,b3,b4,b5⟩,R.called hch ?_⟩;obtain⟨us,h1,h2⟩:=hu;exact⟨us,h1,toD h2⟩
 intro β' hβ';refine Good.pk 49 [(8,clo2 jb r m p),(9,.ptr 0 7 0 0),(31,.i6 ((m.bodies.length:Nat):Int)),(32,.i6 ((0:Nat):Int))] ?_;refine Good.tidy [0,2] (by decide) (σ':=lst jb r m.bodies.length 0 m p) (h':=[some (zbA m (.own 1 12 0 1)),some ⟨175,12,true,[frs jb m p 0],none⟩]) (by kernel_rfl) (by kernel_rfl) ?_;exact gN KT117_ok [8,9,31,32] [(47,.i6 ((0+1:Nat):Int))] (.a1 (wI ((0:Int)+(1:Int)) ((0+1:Nat):Int))) (loop117 hS hjb hB ht h8 hj hr (m.bodies.length-1) 1 (by omega) (by omega) β' hβ')
end
end
theorem a117:Ctr 117 k117:=fun args r ob h ho=>by
 unfold k117 at h
 split at h
 · rename_i M ax jb az A2 tu A3 J
   cases h;have o1:M=unMach 300 (reMach M):=ho _ (by simp);have o2:(reMach M).small:=ho _ (by simp);have o3:(reMach M).bodies.length<=8:=ho _ (by simp);have o4:A2<=jb:=ho _ (by simp);have o5:A3<=jb:=ho _ (by simp);have o6:jb<=100000:=ho _ (by simp);have o7:Ref (.list 3 J) (.list 3 ((J.map reQ).map (unQ jb))):=ho _ (by simp);have o8:J.length<=4611686018427387904:=ho _ (by simp);clear ho;generalize hm:reMach M=m at*;subst o1;obtain⟨p,hp⟩:∃ p:PoseD,p=⟨⟨ax,az⟩,tu,J.map reQ⟩:=⟨_,rfl⟩;have hpj:p.joints.length=J.length:=by rw[hp];simp
   rw[<- hp, <- hpj];refine⟨⟨Tryz.f117,by kernel_rfl,by kernel_rfl,by kernel_rfl⟩,fun S w0 vals hS hvals=>calls_of (Post:=PostF S w0 (.tup [standP jb m p,.i6 (poseE m p.joints.length)])) (fn:=Tryz.f117) (c:=bodyOf Tryz.f117) (by kernel_rfl) (by kernel_rfl) hS hvals ?_⟩
   have hpo:RefC [.q ax jb,.q az A2,.q tu A3,.list 3 J] (unPose jb p):=by
     rw[hp];refine RefC.tl (RefC.cons (RefC.q_le o4) (RefC.cons (RefC.q_le o5) ?_));intro ρ S w D vs x;cases x with
     | list f1 f2 f3 f4 f5 f6 f7=>
       cases f7;exact o7 _ _ _ _ _ (RelV_one (.list f1 f2 f3 f4 f5 f6 .done))
   have hBn:Bnd jb m p:=by
     cases vals with
     | nil=>exact hvals.elim
     | cons v1 vs=>
       cases vs with
       | nil=>exact hvals.2.elim
       | cons v2 vs=>
         obtain⟨⟨_,_,k1⟩,⟨_,_,k2⟩,_⟩:=hvals;exact bnd_of k1 (hpo _ _ _ _ _ k2)
   refine Good.weak 49 [(0,.agg (unMach 300 m)),(1,.agg (unPose jb p))] (by kernel_rfl) (.r (.cons (Ref.agg hpo) .nil)) ?_;have hjl:(p.joints.map (unQ jb)).length=p.joints.length:=lmE ..;have hbl:(m.bodies.map (unBody 300)).length=m.bodies.length:=lmE ..;have hob:Ref (.i6 (poseE (reMach (unMach 300 m)) (p.joints.map (unQ jb)).length)) (.i6 (poseE m p.joints.length)):=Ref.int (by rw[reMach_un,hjl]);have hsm:(reMach (unMach 300 m)).small:=by rw[reMach_un];exact o2
   have hun:unMach 300 m=unMach 300 (reMach (unMach 300 m)):=by rw[reMach_un]
   have v0:(p.joints.map (unQ jb)).length<=4611686018427387904:=by rw[hjl,hpj];exact o8
   have v3:(m.bodies.map (unBody 300)).length<=4611686018427387904:=by rw[hbl];omega
   by_cases c:poseE m p.joints.length=0
   · refine gR KT117_ok (some 4) [2,3,4,5] [0,1] [(13,.i6 (poseE m p.joints.length)),(15,ff)] (.a6 hob hun hsm v0 v3 (jF c)) (t:=[.code (nav [1,1,0] (bodyOf Tryz.f117)),.code (nav [1,1,1] (bodyOf Tryz.f117))]) (σ:=slots 49 [(2,.ptr 0 6 0 0),(3,.ptr 1 10 0 0),(4,.lit (Go.Value.pointer none)),(5,.i6 (0:Int))]) (h:=[some ⟨41,6,false,[(unMach 300 m)],none⟩,some ⟨61,10,false,[(unPose jb p)],none⟩]) ?_
     obtain⟨c1,c2⟩:=pose_parts c;rw[show standP jb m p= .cptr (unPl jb m p) 0 from if_pos c,c];refine Good.pk 49 [(2,.ptr 0 6 0 0),(3,.ptr 1 10 0 0)] ?_;refine Good.freezeD (b:=⟨41,6,false,[unMach 300 m],none⟩) 0 (by rfl) (by rfl) (.oe (.a1 (dc (0<1)))) .on ?_;refine Good.freezeD (b:=⟨61,10,false,[unPose jb p],none⟩) 1 (by rfl) (by rfl) (.oe (.a1 (dc (0<1)))) .on ?_;refine Good.tidy [] (by decide) (σ':=slots 49 [(2,.cptr (unMach 300 m) 0),(3,.cptr (unPose jb p) 0)]) (h':=[]) (by kernel_rfl) (by kernel_rfl) ?_;exact run117 hS o6 hBn (check_tree c1) (by omega) o3 c2
   · refine gR KT117_ok (some 4) [2,3,4,5] [0,1] [(13,.i6 (poseE m p.joints.length)),(15,tt)] (.a6 hob hun hsm v0 v3 (jT c)) (t:=[.code .ret,.code (nav [1,1] (bodyOf Tryz.f117))]) (σ:=slots 49 [(2,.ptr 0 6 0 0),(3,.ptr 1 10 0 0),(4,.lit (Go.Value.pointer none)),(5,.i6 (poseE m p.joints.length))]) (h:=[some ⟨41,6,false,[(unMach 300 m)],none⟩,some ⟨61,10,false,[(unPose jb p)],none⟩]) ?_
     rw[show standP jb m p= .lit (.pointer none) from if_neg c];exact gE [.lit (.pointer none),.i6 (poseE m p.joints.length)] rr
 · cases h
def k128:KF
 | [.agg [.q d D],.agg [.q a A,.q b B],.agg [.q c C,.q e E]]=>some (.agg [.q (a+c) (A+C+2),.q (b+e) (B+E+2)],[A+B+C+E+D+400<=LIM])
 | _=>none
theorem a128:Ctr 128 k128:=by
 refine ctr Tryz.f128 fun _ _ _ S w0 h ho=> ?_
 unfold k128 at h;split at h <;> cases h;rename_i d D a A b B c C e E;have o1:=ho.one;have L:=limE;have K:=kn.cons a26;exact rR K [] (.a2 (om (A+C+200<=LIM)) (om (B+E+200<=LIM)))
structure Nm where
 a:Rat
 b:Rat
 deriving Inhabited
def fAdd (x y:Nm):Nm:=⟨x.a+y.a,x.b+y.b⟩
def fSub (x y:Nm):Nm:=⟨x.a-y.a,x.b-y.b⟩
def fMul (d:Rat) (x y:Nm):Nm:=⟨x.a*y.a+d*x.b*y.b,x.a*y.b+x.b*y.a⟩
def fCon (y:Nm):Nm:=⟨y.a,-y.b⟩
def fDiv (d:Rat) (x y:Nm):Nm:=⟨(fMul d x (fCon y)).a/(fMul d y (fCon y)).a,(fMul d x (fCon y)).b/(fMul d y (fCon y)).a⟩
def k130:KF
 | [.agg [.q a A]]=>some (.agg [.q a A,.q 0 0],[])
 | _=>none
theorem a130:Ctr 130 k130:=by
 refine ctr Tryz.f130 fun _ _ _ S w0 h ho=> ?_
 unfold k130 at h;split at h <;> cases h;rename_i a A;exact rR .nil [] .nil
def k214:KF
 | [.agg [.q d D],.agg [.q a A,.q b B],.agg [.q c C,.q e E]]=>some (.agg [.q (fMul d ⟨a,b⟩ ⟨c,e⟩).a (A+B+C+E+D+8),.q (fMul d ⟨a,b⟩ ⟨c,e⟩).b (A+B+C+E+D+8)],[A+B+C+E+D+400<=LIM])
 | _=>none
theorem a214:Ctr 214 k214:=by
 refine ctr Tryz.f214 fun _ _ _ S w0 h ho=> ?_
 unfold k214 at h;split at h <;> cases h;rename_i d D a A b B c C e E;have o1:=ho.one;have L:=limE;have K:=(kn.cons a29).cons a26;exact rV K [] (.c6 (om (A+C+200<=LIM)) (om (D+B+200<=LIM)) (om ((D+B+2)+E+200<=LIM)) (om ((A+C+2)+((D+B+2)+E+2)+200<=LIM)) (om (A+E+200<=LIM)) (om (B+C+200<=LIM)) (.a3 (om ((A+E+2)+(B+C+2)+200<=LIM)) (om ((A+C+2)+((D+B+2)+E+2)+2<=A+B+C+E+D+8)) (om ((A+E+2)+(B+C+2)+2<=A+B+C+E+D+8))))
def k217:KF
 | [.agg [.q d D],.agg [.q a A,.q b B],.agg [.q c C,.q e E]]=>some (.agg [.q (a-c) (A+C+2),.q (b-e) (B+E+2)],[A+B+C+E+D+400<=LIM])
 | _=>none
theorem a217:Ctr 217 k217:=by
 refine ctr Tryz.f217 fun _ _ _ S w0 h ho=> ?_
 unfold k217 at h;split at h <;> cases h;rename_i d D a A b B c C e E;have o1:=ho.one;have L:=limE;have K:=kn.cons a28;exact rR K [] (.a2 (om (A+C+200<=LIM)) (om (B+E+200<=LIM)))
structure Vc where
 x:Nm
 z:Nm
 deriving Inhabited
def fSpin (d:Rat) (p:Vc) (c s:Nm):Vc:=⟨fSub (fMul d c p.x) (fMul d s p.z),fAdd (fMul d s p.x) (fMul d c p.z)⟩
def fOne:Nm:=⟨1,0⟩
def fTurn (d:Rat) (p:Vc) (t:Nm):Vc:=fSpin d p (fDiv d (fSub fOne (fMul d t t)) (fAdd fOne (fMul d t t))) (fDiv d (fAdd t t) (fAdd fOne (fMul d t t)))
def vAdd (p q:Vc):Vc:=⟨fAdd p.x q.x,fAdd p.z q.z⟩
def k129:KF
 | [.agg [.q d D],.agg [.q x1 X1,.q x2 X2,.q z1 Z1,.q z2 Z2],.agg [.q c C,.q e E],.agg [.q s U,.q t V]]=>some (.agg [.q (fSpin d ⟨⟨x1,x2⟩,⟨z1,z2⟩⟩ ⟨c,e⟩ ⟨s,t⟩).x.a (C+E+U+V+X1+X2+Z1+Z2+2*D+18),.q (fSpin d ⟨⟨x1,x2⟩,⟨z1,z2⟩⟩ ⟨c,e⟩ ⟨s,t⟩).x.b (C+E+U+V+X1+X2+Z1+Z2+2*D+18),.q (fSpin d ⟨⟨x1,x2⟩,⟨z1,z2⟩⟩ ⟨c,e⟩ ⟨s,t⟩).z.a (C+E+U+V+X1+X2+Z1+Z2+2*D+18),.q (fSpin d ⟨⟨x1,x2⟩,⟨z1,z2⟩⟩ ⟨c,e⟩ ⟨s,t⟩).z.b (C+E+U+V+X1+X2+Z1+Z2+2*D+18)],[2*C+2*E+2*U+2*V+2*X1+2*X2+2*Z1+2*Z2+5*D+1000<=LIM])
 | _=>none
theorem a129:Ctr 129 k129:=by
 refine ctr Tryz.f129 fun _ _ _ S w0 h ho=> ?_
 unfold k129 at h;split at h <;> cases h;rename_i d D x1 X1 x2 X2 z1 Z1 z2 Z2 c C e E s U t V;have o1:=ho.one;have L:=limE;have K:=((kn.cons a217).cons a214).cons a128;exact rV K [] (.c6 (om (C+E+X1+X2+D+400<=LIM)) (om (U+V+Z1+Z2+D+400<=LIM)) (om ((C+E+X1+X2+D+8)+(C+E+X1+X2+D+8)+(U+V+Z1+Z2+D+8)+(U+V+Z1+Z2+D+8)+D+400<=LIM)) (om (U+V+X1+X2+D+400<=LIM)) (om (C+E+Z1+Z2+D+400<=LIM)) (om ((U+V+X1+X2+D+8)+(U+V+X1+X2+D+8)+(C+E+Z1+Z2+D+8)+(C+E+Z1+Z2+D+8)+D+400<=LIM)) (.a4 (om ((C+E+X1+X2+D+8)+(U+V+Z1+Z2+D+8)+2<=C+E+U+V+X1+X2+Z1+Z2+2*D+18)) (om ((C+E+X1+X2+D+8)+(U+V+Z1+Z2+D+8)+2<=C+E+U+V+X1+X2+Z1+Z2+2*D+18)) (om ((U+V+X1+X2+D+8)+(C+E+Z1+Z2+D+8)+2<=C+E+U+V+X1+X2+Z1+Z2+2*D+18)) (om ((U+V+X1+X2+D+8)+(C+E+Z1+Z2+D+8)+2<=C+E+U+V+X1+X2+Z1+Z2+2*D+18))))
def k124:KF
 | [.agg [.q x1 X1,.q x2 X2,.q z1 Z1,.q z2 Z2],.agg [.q y1 Y1,.q y2 Y2,.q w1 W1,.q w2 W2],.fnm 128 true [.q d D]]=>some (.agg [.q (vAdd ⟨⟨x1,x2⟩,⟨z1,z2⟩⟩ ⟨⟨y1,y2⟩,⟨w1,w2⟩⟩).x.a (X1+Y1+2),.q (vAdd ⟨⟨x1,x2⟩,⟨z1,z2⟩⟩ ⟨⟨y1,y2⟩,⟨w1,w2⟩⟩).x.b (X2+Y2+2),.q (vAdd ⟨⟨x1,x2⟩,⟨z1,z2⟩⟩ ⟨⟨y1,y2⟩,⟨w1,w2⟩⟩).z.a (Z1+W1+2),.q (vAdd ⟨⟨x1,x2⟩,⟨z1,z2⟩⟩ ⟨⟨y1,y2⟩,⟨w1,w2⟩⟩).z.b (Z2+W2+2)],[X1+X2+Z1+Z2+Y1+Y2+W1+W2+D+600<=LIM])
 | _=>none
theorem a124:Ctr 124 k124:=by
 refine ctr Tryz.f124 fun _ _ _ S w0 h ho=> ?_
 unfold k124 at h;split at h <;> cases h;rename_i x1 X1 x2 X2 z1 Z1 z2 Z2 y1 Y1 y2 Y2 w1 W1 w2 W2 d D;have o1:=ho.one;have L:=limE;have K:=kn.cons a128;exact rV K [] (.a6 (om (X1+X2+Y1+Y2+D+400<=LIM)) (om (Z1+Z2+W1+W2+D+400<=LIM)) (rl (X1+Y1+2)) (rl (X2+Y2+2)) (rl (Z1+W1+2)) (rl (Z2+W2+2)))
def k125:KF
 | [.agg [.q x1 X1,.q z1 Z1]]=>some (.agg [.q x1 X1,.q 0 0,.q z1 Z1,.q 0 0],[])
 | _=>none
theorem a125:Ctr 125 k125:=by
 refine ctr Tryz.f125 fun _ _ _ S w0 h ho=> ?_
 unfold k125 at h;split at h <;> cases h;rename_i x1 X1 z1 Z1;have K:=kn.cons a130;exact rR K [] .nil
theorem div_sgn0 {y:Rat} (h:Int.sign y.num=0):y=0:=Rat.num_eq_zero.1 (Int.sign_eq_zero_iff_zero.1 h)
def k27:KF
 | [.agg [.q x B],.agg [.q y C]]=>some (.tup [.agg [.q (x/y) (B+C+2)],.int .i64 (if y=0 then 9 else 0)],[B+C+200<=LIM])
 | _=>none
theorem a27:Ctr 27 k27:=by
 refine ctr Tryz.f27 fun _ _ _ S w0 h ho=> ?_
 unfold k27 at h;split at h <;> cases h;rename_i x B y C;have o1:=ho.one;have L:=limE;have K:=(kn.cons a116).cons a60
 by_cases h1:(Int.sign y.num)=(0:Int)
 · refine rF K [(8,tt)] (.a1 (iT h1)) (V:=.tup [.agg [.q 0 0],.i6 (9:Int)]) ?_
   have h:=(div_sgn0 (by assumption):y=0);subst h;exact Ref.tup2 (Ref.q1 (by rw[Rat.div_def,Rat.inv_zero,Rat.mul_zero]) (by omega)) (Ref.int (by simp)) rfl rfl rfl rfl
 · exact rF K [(8,ff)] (.a3 (iF h1) o1 (show y≠0 by exact fun h=>h1 (by rw[h];rfl))) (V:=.tup [.agg [.q (x/y) (B+C+2)],.i6 (0:Int)]) (Ref.tup2 rr (Ref.int (by rw[if_neg (fun h=>h1 (by rw[h];rfl))])) rfl rfl rfl rfl)
def k216:KF
 | [.agg [.q d D],.agg [.q a A,.q b B],.agg [.q c C,.q e E]]=>some (.agg [.q (fDiv d ⟨a,b⟩ ⟨c,e⟩).a (A+B+3*C+3*E+2*D+18),.q (fDiv d ⟨a,b⟩ ⟨c,e⟩).b (A+B+3*C+3*E+2*D+18)],[A+B+3*C+3*E+2*D+400<=LIM])
 | _=>none
theorem a216:Ctr 216 k216:=by
 refine ctr Tryz.f216 fun _ _ _ S w0 h ho=> ?_
 unfold k216 at h;split at h <;> cases h;rename_i d D a A b B c C e E;have o1:=ho.one;have L:=limE;have K:=((kn.cons a214).cons a59).cons a27;have v0:(A+B+C+E+D+8)+(C+E+C+E+D+8)+200<=LIM:=by omega
 exact rV K [] (.a6 (om (A+B+C+E+D+400<=LIM)) (om (C+E+C+E+D+400<=LIM)) v0 v0 (om ((A+B+C+E+D+8)+(C+E+C+E+D+8)+2<=A+B+3*C+3*E+2*D+18)) (om ((A+B+C+E+D+8)+(C+E+C+E+D+8)+2<=A+B+3*C+3*E+2*D+18)))
def k126:KF
 | [.agg [.q d D],.agg [.q x1 X1,.q x2 X2,.q z1 Z1,.q z2 Z2],.agg [.q a A,.q b B]]=>some (.agg [.q (fTurn d ⟨⟨x1,x2⟩,⟨z1,z2⟩⟩ ⟨a,b⟩).x.a (64*A+64*B+42*D+X1+X2+Z1+Z2+1500),.q (fTurn d ⟨⟨x1,x2⟩,⟨z1,z2⟩⟩ ⟨a,b⟩).x.b (64*A+64*B+42*D+X1+X2+Z1+Z2+1500),.q (fTurn d ⟨⟨x1,x2⟩,⟨z1,z2⟩⟩ ⟨a,b⟩).z.a (64*A+64*B+42*D+X1+X2+Z1+Z2+1500),.q (fTurn d ⟨⟨x1,x2⟩,⟨z1,z2⟩⟩ ⟨a,b⟩).z.b (64*A+64*B+42*D+X1+X2+Z1+Z2+1500)],[128*A+128*B+90*D+2*X1+2*X2+2*Z1+2*Z2+8000<=LIM])
 | _=>none
theorem a126:Ctr 126 k126:=by
 refine ctr Tryz.f126 fun _ _ _ S w0 h ho=> ?_
 unfold k126 at h;split at h <;> cases h;rename_i d D x1 X1 x2 X2 z1 Z1 z2 Z2 a A b B;have o1:=ho.one;have L:=limE;have K:=((((((kn.cons a217).cons a216).cons a214).cons a130).cons a129).cons a128).cons a25;have v0:64+0+(A+B+A+B+D+8)+(A+B+A+B+D+8)+D+400<=LIM:=by omega
 have v1:A+B+A+B+D+400<=LIM:=by omega
 exact rV K [] (.c6 (dc ((-9223372036854775808:Int)<=1)) (dc (1<=(9223372036854775807:Int))) v1 v0 v0 (om ((64+(A+B+A+B+D+8)+2)+(0+(A+B+A+B+D+8)+2)+3*(64+(A+B+A+B+D+8)+2)+3*(0+(A+B+A+B+D+8)+2)+2*D+400<=LIM)) (.c6 v1 (om ((A+A+2)+(B+B+2)+3*(64+(A+B+A+B+D+8)+2)+3*(0+(A+B+A+B+D+8)+2)+2*D+400<=LIM)) (om (2*((64+(A+B+A+B+D+8)+2)+(0+(A+B+A+B+D+8)+2)+3*(64+(A+B+A+B+D+8)+2)+3*(0+(A+B+A+B+D+8)+2)+2*D+18)+2*((64+(A+B+A+B+D+8)+2)+(0+(A+B+A+B+D+8)+2)+3*(64+(A+B+A+B+D+8)+2)+3*(0+(A+B+A+B+D+8)+2)+2*D+18)+2*((A+A+2)+(B+B+2)+3*(64+(A+B+A+B+D+8)+2)+3*(0+(A+B+A+B+D+8)+2)+2*D+18)+2*((A+A+2)+(B+B+2)+3*(64+(A+B+A+B+D+8)+2)+3*(0+(A+B+A+B+D+8)+2)+2*D+18)+2*X1+2*X2+2*Z1+2*Z2+5*D+1000<=LIM)) (om (((64+(A+B+A+B+D+8)+2)+(0+(A+B+A+B+D+8)+2)+3*(64+(A+B+A+B+D+8)+2)+3*(0+(A+B+A+B+D+8)+2)+2*D+18)+((64+(A+B+A+B+D+8)+2)+(0+(A+B+A+B+D+8)+2)+3*(64+(A+B+A+B+D+8)+2)+3*(0+(A+B+A+B+D+8)+2)+2*D+18)+((A+A+2)+(B+B+2)+3*(64+(A+B+A+B+D+8)+2)+3*(0+(A+B+A+B+D+8)+2)+2*D+18)+((A+A+2)+(B+B+2)+3*(64+(A+B+A+B+D+8)+2)+3*(0+(A+B+A+B+D+8)+2)+2*D+18)+X1+X2+Z1+Z2+2*D+18<=64*A+64*B+42*D+X1+X2+Z1+Z2+1500)) (om (((64+(A+B+A+B+D+8)+2)+(0+(A+B+A+B+D+8)+2)+3*(64+(A+B+A+B+D+8)+2)+3*(0+(A+B+A+B+D+8)+2)+2*D+18)+((64+(A+B+A+B+D+8)+2)+(0+(A+B+A+B+D+8)+2)+3*(64+(A+B+A+B+D+8)+2)+3*(0+(A+B+A+B+D+8)+2)+2*D+18)+((A+A+2)+(B+B+2)+3*(64+(A+B+A+B+D+8)+2)+3*(0+(A+B+A+B+D+8)+2)+2*D+18)+((A+A+2)+(B+B+2)+3*(64+(A+B+A+B+D+8)+2)+3*(0+(A+B+A+B+D+8)+2)+2*D+18)+X1+X2+Z1+Z2+2*D+18<=64*A+64*B+42*D+X1+X2+Z1+Z2+1500)) (om (((64+(A+B+A+B+D+8)+2)+(0+(A+B+A+B+D+8)+2)+3*(64+(A+B+A+B+D+8)+2)+3*(0+(A+B+A+B+D+8)+2)+2*D+18)+((64+(A+B+A+B+D+8)+2)+(0+(A+B+A+B+D+8)+2)+3*(64+(A+B+A+B+D+8)+2)+3*(0+(A+B+A+B+D+8)+2)+2*D+18)+((A+A+2)+(B+B+2)+3*(64+(A+B+A+B+D+8)+2)+3*(0+(A+B+A+B+D+8)+2)+2*D+18)+((A+A+2)+(B+B+2)+3*(64+(A+B+A+B+D+8)+2)+3*(0+(A+B+A+B+D+8)+2)+2*D+18)+X1+X2+Z1+Z2+2*D+18<=64*A+64*B+42*D+X1+X2+Z1+Z2+1500)) (.a1 (om (((64+(A+B+A+B+D+8)+2)+(0+(A+B+A+B+D+8)+2)+3*(64+(A+B+A+B+D+8)+2)+3*(0+(A+B+A+B+D+8)+2)+2*D+18)+((64+(A+B+A+B+D+8)+2)+(0+(A+B+A+B+D+8)+2)+3*(64+(A+B+A+B+D+8)+2)+3*(0+(A+B+A+B+D+8)+2)+2*D+18)+((A+A+2)+(B+B+2)+3*(64+(A+B+A+B+D+8)+2)+3*(0+(A+B+A+B+D+8)+2)+2*D+18)+((A+A+2)+(B+B+2)+3*(64+(A+B+A+B+D+8)+2)+3*(0+(A+B+A+B+D+8)+2)+2*D+18)+X1+X2+Z1+Z2+2*D+18<=64*A+64*B+42*D+X1+X2+Z1+Z2+1500)))))
def KT53_ok:=kn.cons a23
def spotsP (l:List SpotD):List (List AV):=(l.map SpotD.pt).map (unP 300)
def spotsR (l:List SpotD):List (List AV):=(l.map SpotD.pt).map (unRP 300)
def k53:KF
 | [.list 6 X]=>some (.tup [.list 6 (spotsP (X.map reSpot)),.list 8 (spotsR (X.map reSpot))],[X=(X.map reSpot).map unSpot,∀ s∈X.map reSpot,s.ok,X.length*128<=140737488355328])
 | _=>none
section
variable {S:Nat->Prop} {w0:World}
theorem loop53 (ls:List SpotD) (hok:∀ s∈ls,s.ok) (hL:ls.length*128<=140737488355328):
   GF 53 S w0 (.tup [.list 6 (spotsP ls),.list 8 (spotsR ls)])
   [.code (nav [1,1,1,0,1,0,0] (bodyOf Tryz.f53)),.inLoop (nav [1,1,1,0,1,0,0] (bodyOf Tryz.f53)),.inBlock 0,.code (nav [1,1,1,1] (bodyOf Tryz.f53))]
   ⟨slots 33 [(0,.list 6 (ls.map unSpot)),(4,.nil),(5,.nil),(6,.i6 ((0:Nat):Int))],[]⟩:=by
 refine rows2 (XS:=spotsP ls) (YS:=spotsR ls) ls.length (fun i=>unP 300 (ls.getD i default).pt) (fun i=>unRP 300 (ls.getD i default).pt) (fun a b i h=>⟨slots 33 [(0,.list 6 (ls.map unSpot)),(4,a),(5,b),(6,.i6 ((i:Nat):Int))],h⟩) 0 1 6 8 58 68 ?_ ?_ ?_ ?_ (by rw[spotsP,List.map_map];exact map_range (f:=fun s=>unP 300 s.pt) ls) (by rw[spotsR,List.map_map];exact map_range (f:=fun s=>unRP 300 s.pt) ls) ?_
 · intro hp hg
   have hs:=hok _ (getD_mem hp);have v0:(0:Int)<((ls.map unSpot).length:Int):=by rw[lmE];omega
   exact gR KT53_ok none [0,4,5,6] [4,6] [(12,tt),(18,.cptr (unSpot (ls.getD 0 default)) 0),(14,.i6 ((0+1:Nat):Int))] (.c6 (iT v0) (show Ref (.cptr ((ls.map unSpot).getD 0 []) 0) (.cptr (unSpot (ls.getD 0 default)) 0) from Ref.cmap hp) (nn 0) v0 hs.1 hs.2 (.c6 r1 (dc (0<1)) (dc (1*112<=140737488355328)) (dc (1<=big)) r1 (dc (0<1)) (.a3 (dc (1*128<=140737488355328)) (dc (1<=big)) (wI ((0:Int)+(1:Int)) ((0+1:Nat):Int))))) hg
 · intro i A B hi hlt hA hB hg
   have hs:=hok _ (getD_mem hlt);have v1:(i:Int)<((ls.map unSpot).length:Int):=by rw[lmE];omega
   exact gR KT53_ok none [0,4,5,6] [6,8] [(12,tt),(18,.cptr (unSpot (ls.getD i default)) 0),(14,.i6 ((i+1:Nat):Int))] (.c6 (iT v1) (show Ref (.cptr ((ls.map unSpot).getD i []) 0) (.cptr (unSpot (ls.getD i default)) 0) from Ref.cmap hlt) (nn i) v1 hs.1 hs.2 (.c6 r1 (show i=A.length from hA.symm) (om ((i+1)*112<=140737488355328)) (show i+1<=big by unfold big;omega) r1 (show i=B.length from hB.symm) (.a3 (om ((i+1)*128<=140737488355328)) (show i+1<=big by unfold big;omega) (wI ((i:Int)+(1:Int)) ((i+1:Nat):Int))))) hg
 · intro A B hp hA hB hg
   refine Good.freezeD (b:=⟨58,6,true,A,none⟩) 0 (by rfl) (by rfl) (.cons (by show 0+ls.length<=A.length;omega) .nil) .nil ?_;refine Good.freezeD (b:=⟨68,8,true,B,none⟩) 1 (by rfl) (by rfl) (.cons (by show 0+ls.length<=B.length;omega) .nil) .nil ?_;refine Good.tidy [] (by decide) (σ':=slots 33 [(0,.list 6 (ls.map unSpot)),(4,.list 6 ((A.drop 0).take ls.length)),(5,.list 8 ((B.drop 0).take ls.length)),(6,.i6 ((ls.length:Nat):Int))]) (h':=[]) (by kernel_rfl) (by kernel_rfl) ?_;rw[List.drop_zero,List.drop_zero,tkE (by omega),tkE (by omega)];exact hg
 · intro h0 hg
   exact Good.weak 33 [(0,_),(4,_),(5,_),(6,_)] (by kernel_rfl) (.r (.cons Ref.nilL (.cons Ref.nilL (.r .nil)))) hg
 · exact rR KT53_ok [(12,ff)] (.a1 (iF (show ¬ ((ls.length:Int)<((ls.map unSpot).length:Int)) by rw[lmE];omega)))
end
theorem a53:Ctr 53 k53:=fun args r ob h ho=>by
 unfold k53 at h
 split at h
 · rename_i X
   cases h;have o1:X=(X.map reSpot).map unSpot:=ho _ (by simp);have o2:∀ s∈X.map reSpot,s.ok:=ho _ (by simp);have o3:(X.map reSpot).length*128<=140737488355328:=by rw[lmE];exact ho _ (by simp)
   clear ho;generalize X.map reSpot=ls at*;subst o1;refine af Tryz.f53 fun S w0=> ?_
   have e:st0 [AV.list 6 (ls.map unSpot)] Tryz.f53.ntmps=⟨slots 33 [(0,.list 6 (ls.map unSpot))],[]⟩:=by kernel_rfl
   rw[e];clear e;exact gN KT53_ok [0,4,5,6] [] .nil (loop53 ls o2 o3)
 · cases h
def KT18_ok:=(((kn.cons a102).cons a53).cons a24).cons a23
def k18:KF
 | [.agg R]=>some (.tup [.agg (unMach 300 (reRig R).real),.agg (unRMach 300 (reRig R).real)],[R=unRig (reRig R),(reRig R).ok])
 | _=>none
theorem AllP.of_eq {l l':List Prop} (h:l=l') (k:AllP l'):AllP l:=by rw[h];exact k
theorem RefC.nilL {e:Nat} {cs:List AV}:RefC (.nil::cs) (.list e []::cs):=RefC.cons (fun ρ S w D vs h=>by
 cases h with
 | nil h2=>exact .list (fun _=>[]) (by simp) (by unfold big;omega) (by simp) (by simp) (by simp) h2) RefC.rfl'
theorem Good.castH {P:Program} {f:FuncId} {S0 C0:Nat->Prop} {w0:World} {Post:Value->World->Prop} {todo:List Item} {σ:List AV} {h h':List (Option ABlk)} (e:h=h') (hg:Good P f S0 C0 w0 Post todo ⟨σ,h'⟩):Good P f S0 C0 w0 Post todo ⟨σ,h⟩:=by rw[e];exact hg
theorem reRig_un (r:RigD):reRig (unRig r)=r:=by cases r;simp only[reRig,unRig,reLimb_un,reCord_un,reDrive_un,reSole_un]
section
variable {S:Nat->Prop} {w0:World}
noncomputable abbrev Q18 (S:Nat->Prop) (w0:World) (r:RigD):=PostF S w0 (.tup [.agg (unMach 300 r.real),.agg (unRMach 300 r.real)])
abbrev c18_0:ABlk:=⟨41,6,false,[[.str (ByteArray.mk #[]),.nil,.nil,.nil,.nil,.nil]],none⟩
abbrev c18_1:ABlk:=⟨48,5,false,[[.nil,.nil,.nil,.nil,.nil]],none⟩
abbrev c18_3 (r:RigD):List AV:=[.list 6 (spotsP (r.soles.getD 0 default).pts),.list 8 (spotsR (r.soles.getD 0 default).pts)]
theorem loop18_4 (r:RigD) (hok:r.ok):Good Tryz.prog 18 S No w0 (Q18 S w0 r) [.code (nav [1,1,1,1,1,1,1,0,1,0,0] (bodyOf Tryz.f18)),.inLoop (nav [1,1,1,1,1,1,1,0,1,0,0] (bodyOf Tryz.f18)),.inBlock 8,.code (nav [1,1,1,1,1,1,1,1] (bodyOf Tryz.f18))] ⟨slots 359 [(1,.ptr 0 5 0 0),(2,.ptr 1 6 0 0),(3,.ptr 2 5 0 0),(4,.ptr 3 6 0 0),(5,.ptr 4 5 0 0),(48,.i6 ((0:Nat):Int))],[some ⟨27,5,false,[unRig r],none⟩,some (c18_0),some (c18_1),some ⟨41,6,false,[[.str rigB,.list 27 (r.real.bodies.map (unBody 300)),.list 17 (r.real.springs.map (unCordy 300)),.list 17 (r.real.tendons.map (unCordy 300)),.list 13 (r.real.motors.map (unMotor 300)),.nil]],none⟩,some ⟨48,5,false,[[.list 34 (r.real.bodies.map (unRBody 300)),.list 22 (r.real.springs.map (unRCordy 300)),.list 22 (r.real.tendons.map (unRCordy 300)),.list 17 (r.real.motors.map (unRMotor 300)),.nil]],none⟩]⟩:=by
 have hl:=hok.2.2.2.2.2.2.2.2.2;refine rows2 (XS:=r.real.feet.map (unFoot 300)) (YS:=r.real.feet.map (unRFoot 300)) r.soles.length (fun i=>unFoot 300 ((r.soles.getD i default).real)) (fun i=>unRFoot 300 ((r.soles.getD i default).real)) (fun a b i h=>⟨slots 359 [(1,.ptr 0 5 0 0),(2,.ptr 1 6 0 0),(3,.ptr 2 5 0 0),(4,.ptr 3 6 0 0),(5,.ptr 4 5 0 0),(48,.i6 ((i:Nat):Int))],[some ⟨27,5,false,[unRig r],none⟩,some (c18_0),some (c18_1),some ⟨41,6,false,[[.str rigB,.list 27 (r.real.bodies.map (unBody 300)),.list 17 (r.real.springs.map (unCordy 300)),.list 17 (r.real.tendons.map (unCordy 300)),.list 13 (r.real.motors.map (unMotor 300)),a]],none⟩,some ⟨48,5,false,[[.list 34 (r.real.bodies.map (unRBody 300)),.list 22 (r.real.springs.map (unRCordy 300)),.list 22 (r.real.tendons.map (unRCordy 300)),.list 17 (r.real.motors.map (unRMotor 300)),b]],none⟩]++h⟩) 5 6 5 6 245 186 ?_ ?_ ?_ ?_ (by simp only[RigD.real,List.map_map];exact map_range (f:=fun v=>unFoot 300 v.real) r.soles) (by simp only[RigD.real,List.map_map];exact map_range (f:=fun v=>unRFoot 300 v.real) r.soles) ?_
 · intro hlt hg
   have hv:=hok.2.2.2.2.1 _ (getD_mem hlt);have v0:(0:Int)<((r.soles.map unSole).length:Int):=by rw[lmE];omega
   exact gR KT18_ok none [1,2,3,4,5,48] [0,1,2,3,4,11,13] [(317,tt),(323,.cptr (unSole (r.soles.getD 0 default)) 0),(328,.tup (c18_3 r)),(319,.i6 ((0+1:Nat):Int))] (.c6 (iT v0) (show Ref (.cptr ((r.soles.map unSole).getD 0 []) 0) (.cptr (unSole (r.soles.getD 0 default)) 0) from Ref.cmap hlt) (nn 0) v0 (show Ref (.tup [.list 6 (spotsP (((r.soles.getD 0 default).pts.map unSpot).map reSpot)),.list 8 (spotsR (((r.soles.getD 0 default).pts.map unSpot).map reSpot))]) (.tup (c18_3 r)) from Ref.eq (by rw[reSpot_un])) (show((r.soles.getD 0 default).pts.map unSpot)=(((r.soles.getD 0 default).pts.map unSpot).map reSpot).map unSpot by rw[reSpot_un]) (.c6 (show ∀ s∈((r.soles.getD 0 default).pts.map unSpot).map reSpot,s.ok by rw[reSpot_un];exact hv.1) (show((r.soles.getD 0 default).pts.map unSpot).length*128<=140737488355328 by rw[lmE];exact hv.2.1) hv.2.2 r1 (dc (0<1)) (dc (1*88<=140737488355328)) (.a6 (dc (1<=big)) r1 (dc (0<1)) (dc (1*96<=140737488355328)) (dc (1<=big)) (wI ((0:Int)+(1:Int)) ((0+1:Nat):Int))))) hg
 · intro i A B hi hlt hA hB hg
   have hv:=hok.2.2.2.2.1 _ (getD_mem hlt);have v1:(i:Int)<((r.soles.map unSole).length:Int):=by rw[lmE];omega
   exact gR KT18_ok none [1,2,3,4,5,48] [0,1,2,3,4,13,15] [(317,tt),(323,.cptr (unSole (r.soles.getD i default)) 0),(328,.tup [.list 6 (spotsP (r.soles.getD i default).pts),.list 8 (spotsR (r.soles.getD i default).pts)]),(319,.i6 ((i+1:Nat):Int))] (.c6 (iT v1) (show Ref (.cptr ((r.soles.map unSole).getD i []) 0) (.cptr (unSole (r.soles.getD i default)) 0) from Ref.cmap hlt) (nn i) v1 (show Ref (.tup [.list 6 (spotsP (((r.soles.getD i default).pts.map unSpot).map reSpot)),.list 8 (spotsR (((r.soles.getD i default).pts.map unSpot).map reSpot))]) (.tup [.list 6 (spotsP (r.soles.getD i default).pts),.list 8 (spotsR (r.soles.getD i default).pts)]) from Ref.eq (by rw[reSpot_un])) (show((r.soles.getD i default).pts.map unSpot)=(((r.soles.getD i default).pts.map unSpot).map reSpot).map unSpot by rw[reSpot_un]) (.c6 (show ∀ s∈((r.soles.getD i default).pts.map unSpot).map reSpot,s.ok by rw[reSpot_un];exact hv.1) (show((r.soles.getD i default).pts.map unSpot).length*128<=140737488355328 by rw[lmE];exact hv.2.1) hv.2.2 r1 (show i=A.length from hA.symm) (om ((i+1)*88<=140737488355328)) (.a6 (show i+1<=big by unfold big;omega) r1 (show i=B.length from hB.symm) (om ((i+1)*96<=140737488355328)) (show i+1<=big by unfold big;omega) (wI ((i:Int)+(1:Int)) ((i+1:Nat):Int))))) hg
 · intro A B hp hA hB hg
   refine Good.freezeD (b:=⟨245,5,true,A,none⟩) 5 (by rfl) (by rfl) .on (.oe (.a1 (om (0+r.soles.length<=A.length)))) ?_;refine Good.freezeD (b:=⟨186,6,true,B,none⟩) 6 (by rfl) (by rfl) .on (.oe (.a1 (om (0+r.soles.length<=B.length)))) ?_;refine Good.tidy [0,1,2,3,4] (by decide) (σ':=slots 359 [(1,.ptr 0 5 0 0),(2,.ptr 1 6 0 0),(3,.ptr 2 5 0 0),(4,.ptr 3 6 0 0),(5,.ptr 4 5 0 0),(48,.i6 ((r.soles.length:Nat):Int))]) (h':=[some ⟨27,5,false,[unRig r],none⟩,some (c18_0),some (c18_1),some ⟨41,6,false,[[.str rigB,.list 27 (r.real.bodies.map (unBody 300)),.list 17 (r.real.springs.map (unCordy 300)),.list 17 (r.real.tendons.map (unCordy 300)),.list 13 (r.real.motors.map (unMotor 300)),.list 5 ((A.drop 0).take r.soles.length)]],none⟩,some ⟨48,5,false,[[.list 34 (r.real.bodies.map (unRBody 300)),.list 22 (r.real.springs.map (unRCordy 300)),.list 22 (r.real.tendons.map (unRCordy 300)),.list 17 (r.real.motors.map (unRMotor 300)),.list 6 ((B.drop 0).take r.soles.length)]],none⟩]) (by kernel_rfl) (by kernel_rfl) ?_;rw[List.drop_zero,List.drop_zero,tkE (by omega),tkE (by omega)];exact hg
 · intro h0 hg
   refine Good.weakB (el':=[.str rigB,.list 27 (r.real.bodies.map (unBody 300)),.list 17 (r.real.springs.map (unCordy 300)),.list 17 (r.real.tendons.map (unCordy 300)),.list 13 (r.real.motors.map (unMotor 300)),.list 5 []]) 3 0 (by rfl) (by rfl) (RefC.tl (RefC.tl (RefC.tl (RefC.tl (RefC.tl RefC.nilL))))) (Good.weakB (el':=[.list 34 (r.real.bodies.map (unRBody 300)),.list 22 (r.real.springs.map (unRCordy 300)),.list 22 (r.real.tendons.map (unRCordy 300)),.list 17 (r.real.motors.map (unRMotor 300)),.list 6 []]) 4 0 (by rfl) (by rfl) (RefC.tl (RefC.tl (RefC.tl (RefC.tl RefC.nilL)))) (Good.castH (by kernel_rfl) hg))
 · exact rR KT18_ok [(317,ff)] (.a1 (iF (show ¬ ((r.soles.length:Int)<((r.soles.map unSole).length:Int)) by rw[lmE];omega)))
theorem loop18_3 (r:RigD) (hok:r.ok):Good Tryz.prog 18 S No w0 (Q18 S w0 r) [.code (nav [1,1,1,1,1,1,0,1,0,0] (bodyOf Tryz.f18)),.inLoop (nav [1,1,1,1,1,1,0,1,0,0] (bodyOf Tryz.f18)),.inBlock 6,.code (nav [1,1,1,1,1,1,1] (bodyOf Tryz.f18))] ⟨slots 359 [(1,.ptr 0 5 0 0),(2,.ptr 1 6 0 0),(3,.ptr 2 5 0 0),(4,.ptr 3 6 0 0),(5,.ptr 4 5 0 0),(38,.i6 ((0:Nat):Int))],[some ⟨27,5,false,[unRig r],none⟩,some (c18_0),some (c18_1),some ⟨41,6,false,[[.str rigB,.list 27 (r.real.bodies.map (unBody 300)),.list 17 (r.real.springs.map (unCordy 300)),.list 17 (r.real.tendons.map (unCordy 300)),.nil,.nil]],none⟩,some ⟨48,5,false,[[.list 34 (r.real.bodies.map (unRBody 300)),.list 22 (r.real.springs.map (unRCordy 300)),.list 22 (r.real.tendons.map (unRCordy 300)),.nil,.nil]],none⟩]⟩:=by
 have hl:=hok.2.2.2.2.2.2.2.2.1;refine rows2 (XS:=r.real.motors.map (unMotor 300)) (YS:=r.real.motors.map (unRMotor 300)) r.drives.length (fun i=>unMotor 300 ((r.drives.getD i default).real)) (fun i=>unRMotor 300 ((r.drives.getD i default).real)) (fun a b i h=>⟨slots 359 [(1,.ptr 0 5 0 0),(2,.ptr 1 6 0 0),(3,.ptr 2 5 0 0),(4,.ptr 3 6 0 0),(5,.ptr 4 5 0 0),(38,.i6 ((i:Nat):Int))],[some ⟨27,5,false,[unRig r],none⟩,some (c18_0),some (c18_1),some ⟨41,6,false,[[.str rigB,.list 27 (r.real.bodies.map (unBody 300)),.list 17 (r.real.springs.map (unCordy 300)),.list 17 (r.real.tendons.map (unCordy 300)),a,.nil]],none⟩,some ⟨48,5,false,[[.list 34 (r.real.bodies.map (unRBody 300)),.list 22 (r.real.springs.map (unRCordy 300)),.list 22 (r.real.tendons.map (unRCordy 300)),b,.nil]],none⟩]++h⟩) 5 6 13 17 239 241 ?_ ?_ ?_ ?_ (by simp only[RigD.real,List.map_map];exact map_range (f:=fun v=>unMotor 300 v.real) r.drives) (by simp only[RigD.real,List.map_map];exact map_range (f:=fun v=>unRMotor 300 v.real) r.drives) ?_
 · intro hlt hg
   have hv:=hok.2.2.2.1 _ (getD_mem hlt);have v0:(0:Int)<((r.drives.map unDrive).length:Int):=by rw[lmE];omega
   exact gR KT18_ok none [1,2,3,4,5,38] [0,1,2,3,4,19,21] [(257,tt),(263,.cptr (unDrive (r.drives.getD 0 default)) 0),(259,.i6 ((0+1:Nat):Int))] (.c6 (iT v0) (show Ref (.cptr ((r.drives.map unDrive).getD 0 []) 0) (.cptr (unDrive (r.drives.getD 0 default)) 0) from Ref.cmap hlt) (nn 0) v0 hv.1 hv.2.1 (.c6 hv.2.2.1 hv.2.2.2 r1 (dc (0<1)) (dc (1*232<=140737488355328)) (dc (1<=big)) (.a5 r1 (dc (0<1)) (dc (1*264<=140737488355328)) (dc (1<=big)) (wI ((0:Int)+(1:Int)) ((0+1:Nat):Int))))) hg
 · intro i A B hi hlt hA hB hg
   have hv:=hok.2.2.2.1 _ (getD_mem hlt);have v1:(i:Int)<((r.drives.map unDrive).length:Int):=by rw[lmE];omega
   exact gR KT18_ok none [1,2,3,4,5,38] [0,1,2,3,4,21,23] [(257,tt),(263,.cptr (unDrive (r.drives.getD i default)) 0),(259,.i6 ((i+1:Nat):Int))] (.c6 (iT v1) (show Ref (.cptr ((r.drives.map unDrive).getD i []) 0) (.cptr (unDrive (r.drives.getD i default)) 0) from Ref.cmap hlt) (nn i) v1 hv.1 hv.2.1 (.c6 hv.2.2.1 hv.2.2.2 r1 (show i=A.length from hA.symm) (om ((i+1)*232<=140737488355328)) (show i+1<=big by unfold big;omega) (.a5 r1 (show i=B.length from hB.symm) (om ((i+1)*264<=140737488355328)) (show i+1<=big by unfold big;omega) (wI ((i:Int)+(1:Int)) ((i+1:Nat):Int))))) hg
 · intro A B hp hA hB hg
   refine Good.freezeD (b:=⟨239,13,true,A,none⟩) 5 (by rfl) (by rfl) .on (.oe (.a1 (om (0+r.drives.length<=A.length)))) ?_;refine Good.freezeD (b:=⟨241,17,true,B,none⟩) 6 (by rfl) (by rfl) .on (.oe (.a1 (om (0+r.drives.length<=B.length)))) ?_;refine Good.tidy [0,1,2,3,4] (by decide) (σ':=slots 359 [(1,.ptr 0 5 0 0),(2,.ptr 1 6 0 0),(3,.ptr 2 5 0 0),(4,.ptr 3 6 0 0),(5,.ptr 4 5 0 0),(38,.i6 ((r.drives.length:Nat):Int))]) (h':=[some ⟨27,5,false,[unRig r],none⟩,some (c18_0),some (c18_1),some ⟨41,6,false,[[.str rigB,.list 27 (r.real.bodies.map (unBody 300)),.list 17 (r.real.springs.map (unCordy 300)),.list 17 (r.real.tendons.map (unCordy 300)),.list 13 ((A.drop 0).take r.drives.length),.nil]],none⟩,some ⟨48,5,false,[[.list 34 (r.real.bodies.map (unRBody 300)),.list 22 (r.real.springs.map (unRCordy 300)),.list 22 (r.real.tendons.map (unRCordy 300)),.list 17 ((B.drop 0).take r.drives.length),.nil]],none⟩]) (by kernel_rfl) (by kernel_rfl) ?_;rw[List.drop_zero,List.drop_zero,tkE (by omega),tkE (by omega)];exact hg
 · intro h0 hg
   refine Good.weakB (el':=[.str rigB,.list 27 (r.real.bodies.map (unBody 300)),.list 17 (r.real.springs.map (unCordy 300)),.list 17 (r.real.tendons.map (unCordy 300)),.list 13 [],.nil]) 3 0 (by rfl) (by rfl) (RefC.tl (RefC.tl (RefC.tl (RefC.tl RefC.nilL)))) (Good.weakB (el':=[.list 34 (r.real.bodies.map (unRBody 300)),.list 22 (r.real.springs.map (unRCordy 300)),.list 22 (r.real.tendons.map (unRCordy 300)),.list 17 [],.nil]) 4 0 (by rfl) (by rfl) (RefC.tl (RefC.tl (RefC.tl RefC.nilL))) (Good.castH (by kernel_rfl) hg))
 · exact gN KT18_ok [1,2,3,4,5,48] [(257,ff)] (.a1 (iF (show ¬ ((r.drives.length:Int)<((r.drives.map unDrive).length:Int)) by rw[lmE];omega))) (loop18_4 r hok)
theorem loop18_2 (r:RigD) (hok:r.ok):Good Tryz.prog 18 S No w0 (Q18 S w0 r) [.code (nav [1,1,1,1,1,0,1,0,0] (bodyOf Tryz.f18)),.inLoop (nav [1,1,1,1,1,0,1,0,0] (bodyOf Tryz.f18)),.inBlock 4,.code (nav [1,1,1,1,1,1] (bodyOf Tryz.f18))] ⟨slots 359 [(1,.ptr 0 5 0 0),(2,.ptr 1 6 0 0),(3,.ptr 2 5 0 0),(4,.ptr 3 6 0 0),(5,.ptr 4 5 0 0),(30,.i6 ((0:Nat):Int))],[some ⟨27,5,false,[unRig r],none⟩,some (c18_0),some (c18_1),some ⟨41,6,false,[[.str rigB,.list 27 (r.real.bodies.map (unBody 300)),.list 17 (r.real.springs.map (unCordy 300)),.nil,.nil,.nil]],none⟩,some ⟨48,5,false,[[.list 34 (r.real.bodies.map (unRBody 300)),.list 22 (r.real.springs.map (unRCordy 300)),.nil,.nil,.nil]],none⟩]⟩:=by
 have hl:=hok.2.2.2.2.2.2.2.1;refine rows2 (XS:=r.real.tendons.map (unCordy 300)) (YS:=r.real.tendons.map (unRCordy 300)) r.tendons.length (fun i=>unCordy 300 ((r.tendons.getD i default).real)) (fun i=>unRCordy 300 ((r.tendons.getD i default).real)) (fun a b i h=>⟨slots 359 [(1,.ptr 0 5 0 0),(2,.ptr 1 6 0 0),(3,.ptr 2 5 0 0),(4,.ptr 3 6 0 0),(5,.ptr 4 5 0 0),(30,.i6 ((i:Nat):Int))],[some ⟨27,5,false,[unRig r],none⟩,some (c18_0),some (c18_1),some ⟨41,6,false,[[.str rigB,.list 27 (r.real.bodies.map (unBody 300)),.list 17 (r.real.springs.map (unCordy 300)),a,.nil,.nil]],none⟩,some ⟨48,5,false,[[.list 34 (r.real.bodies.map (unRBody 300)),.list 22 (r.real.springs.map (unRCordy 300)),b,.nil,.nil]],none⟩]++h⟩) 5 6 17 22 233 235 ?_ ?_ ?_ ?_ (by simp only[RigD.real,List.map_map];exact map_range (f:=fun v=>unCordy 300 v.real) r.tendons) (by simp only[RigD.real,List.map_map];exact map_range (f:=fun v=>unRCordy 300 v.real) r.tendons) ?_
 · intro hlt hg
   have hv:=hok.2.2.1 _ (getD_mem hlt);have v0:(0:Int)<((r.tendons.map unCord).length:Int):=by rw[lmE];omega
   exact gR KT18_ok none [1,2,3,4,5,30] [0,1,2,3,4,16,18] [(201,tt),(207,.cptr (unCord (r.tendons.getD 0 default)) 0),(203,.i6 ((0+1:Nat):Int))] (.c6 (iT v0) (show Ref (.cptr ((r.tendons.map unCord).getD 0 []) 0) (.cptr (unCord (r.tendons.getD 0 default)) 0) from Ref.cmap hlt) (nn 0) v0 hv.1.1 hv.1.2 (.c6 hv.2.1.1 hv.2.1.2 hv.2.2 r1 (dc (0<1)) (dc (1*296<=140737488355328)) (.a6 (dc (1<=big)) r1 (dc (0<1)) (dc (1*336<=140737488355328)) (dc (1<=big)) (wI ((0:Int)+(1:Int)) ((0+1:Nat):Int))))) hg
 · intro i A B hi hlt hA hB hg
   have hv:=hok.2.2.1 _ (getD_mem hlt);have v1:(i:Int)<((r.tendons.map unCord).length:Int):=by rw[lmE];omega
   exact gR KT18_ok none [1,2,3,4,5,30] [0,1,2,3,4,18,20] [(201,tt),(207,.cptr (unCord (r.tendons.getD i default)) 0),(203,.i6 ((i+1:Nat):Int))] (.c6 (iT v1) (show Ref (.cptr ((r.tendons.map unCord).getD i []) 0) (.cptr (unCord (r.tendons.getD i default)) 0) from Ref.cmap hlt) (nn i) v1 hv.1.1 hv.1.2 (.c6 hv.2.1.1 hv.2.1.2 hv.2.2 r1 (show i=A.length from hA.symm) (om ((i+1)*296<=140737488355328)) (.a6 (show i+1<=big by unfold big;omega) r1 (show i=B.length from hB.symm) (om ((i+1)*336<=140737488355328)) (show i+1<=big by unfold big;omega) (wI ((i:Int)+(1:Int)) ((i+1:Nat):Int))))) hg
 · intro A B hp hA hB hg
   refine Good.freezeD (b:=⟨233,17,true,A,none⟩) 5 (by rfl) (by rfl) .on (.oe (.a1 (om (0+r.tendons.length<=A.length)))) ?_;refine Good.freezeD (b:=⟨235,22,true,B,none⟩) 6 (by rfl) (by rfl) .on (.oe (.a1 (om (0+r.tendons.length<=B.length)))) ?_;refine Good.tidy [0,1,2,3,4] (by decide) (σ':=slots 359 [(1,.ptr 0 5 0 0),(2,.ptr 1 6 0 0),(3,.ptr 2 5 0 0),(4,.ptr 3 6 0 0),(5,.ptr 4 5 0 0),(30,.i6 ((r.tendons.length:Nat):Int))]) (h':=[some ⟨27,5,false,[unRig r],none⟩,some (c18_0),some (c18_1),some ⟨41,6,false,[[.str rigB,.list 27 (r.real.bodies.map (unBody 300)),.list 17 (r.real.springs.map (unCordy 300)),.list 17 ((A.drop 0).take r.tendons.length),.nil,.nil]],none⟩,some ⟨48,5,false,[[.list 34 (r.real.bodies.map (unRBody 300)),.list 22 (r.real.springs.map (unRCordy 300)),.list 22 ((B.drop 0).take r.tendons.length),.nil,.nil]],none⟩]) (by kernel_rfl) (by kernel_rfl) ?_;rw[List.drop_zero,List.drop_zero,tkE (by omega),tkE (by omega)];exact hg
 · intro h0 hg
   refine Good.weakB (el':=[.str rigB,.list 27 (r.real.bodies.map (unBody 300)),.list 17 (r.real.springs.map (unCordy 300)),.list 17 [],.nil,.nil]) 3 0 (by rfl) (by rfl) (RefC.tl (RefC.tl (RefC.tl RefC.nilL))) (Good.weakB (el':=[.list 34 (r.real.bodies.map (unRBody 300)),.list 22 (r.real.springs.map (unRCordy 300)),.list 22 [],.nil,.nil]) 4 0 (by rfl) (by rfl) (RefC.tl (RefC.tl RefC.nilL)) (Good.castH (by kernel_rfl) hg))
 · exact gN KT18_ok [1,2,3,4,5,38] [(201,ff)] (.a1 (iF (show ¬ ((r.tendons.length:Int)<((r.tendons.map unCord).length:Int)) by rw[lmE];omega))) (loop18_3 r hok)
theorem loop18_1 (r:RigD) (hok:r.ok):Good Tryz.prog 18 S No w0 (Q18 S w0 r) [.code (nav [1,1,1,1,0,1,0,0] (bodyOf Tryz.f18)),.inLoop (nav [1,1,1,1,0,1,0,0] (bodyOf Tryz.f18)),.inBlock 2,.code (nav [1,1,1,1,1] (bodyOf Tryz.f18))] ⟨slots 359 [(1,.ptr 0 5 0 0),(2,.ptr 1 6 0 0),(3,.ptr 2 5 0 0),(4,.ptr 3 6 0 0),(5,.ptr 4 5 0 0),(22,.i6 ((0:Nat):Int))],[some ⟨27,5,false,[unRig r],none⟩,some (c18_0),some (c18_1),some ⟨41,6,false,[[.str rigB,.list 27 (r.real.bodies.map (unBody 300)),.nil,.nil,.nil,.nil]],none⟩,some ⟨48,5,false,[[.list 34 (r.real.bodies.map (unRBody 300)),.nil,.nil,.nil,.nil]],none⟩]⟩:=by
 have hl:=hok.2.2.2.2.2.2.1;refine rows2 (XS:=r.real.springs.map (unCordy 300)) (YS:=r.real.springs.map (unRCordy 300)) r.springs.length (fun i=>unCordy 300 ((r.springs.getD i default).real)) (fun i=>unRCordy 300 ((r.springs.getD i default).real)) (fun a b i h=>⟨slots 359 [(1,.ptr 0 5 0 0),(2,.ptr 1 6 0 0),(3,.ptr 2 5 0 0),(4,.ptr 3 6 0 0),(5,.ptr 4 5 0 0),(22,.i6 ((i:Nat):Int))],[some ⟨27,5,false,[unRig r],none⟩,some (c18_0),some (c18_1),some ⟨41,6,false,[[.str rigB,.list 27 (r.real.bodies.map (unBody 300)),a,.nil,.nil,.nil]],none⟩,some ⟨48,5,false,[[.list 34 (r.real.bodies.map (unRBody 300)),b,.nil,.nil,.nil]],none⟩]++h⟩) 5 6 17 22 229 231 ?_ ?_ ?_ ?_ (by simp only[RigD.real,List.map_map];exact map_range (f:=fun v=>unCordy 300 v.real) r.springs) (by simp only[RigD.real,List.map_map];exact map_range (f:=fun v=>unRCordy 300 v.real) r.springs) ?_
 · intro hlt hg
   have hv:=hok.2.1 _ (getD_mem hlt);have v0:(0:Int)<((r.springs.map unCord).length:Int):=by rw[lmE];omega
   exact gR KT18_ok none [1,2,3,4,5,22] [0,1,2,3,4,16,18] [(145,tt),(151,.cptr (unCord (r.springs.getD 0 default)) 0),(147,.i6 ((0+1:Nat):Int))] (.c6 (iT v0) (show Ref (.cptr ((r.springs.map unCord).getD 0 []) 0) (.cptr (unCord (r.springs.getD 0 default)) 0) from Ref.cmap hlt) (nn 0) v0 hv.1.1 hv.1.2 (.c6 hv.2.1.1 hv.2.1.2 hv.2.2 r1 (dc (0<1)) (dc (1*296<=140737488355328)) (.a6 (dc (1<=big)) r1 (dc (0<1)) (dc (1*336<=140737488355328)) (dc (1<=big)) (wI ((0:Int)+(1:Int)) ((0+1:Nat):Int))))) hg
 · intro i A B hi hlt hA hB hg
   have hv:=hok.2.1 _ (getD_mem hlt);have v1:(i:Int)<((r.springs.map unCord).length:Int):=by rw[lmE];omega
   exact gR KT18_ok none [1,2,3,4,5,22] [0,1,2,3,4,18,20] [(145,tt),(151,.cptr (unCord (r.springs.getD i default)) 0),(147,.i6 ((i+1:Nat):Int))] (.c6 (iT v1) (show Ref (.cptr ((r.springs.map unCord).getD i []) 0) (.cptr (unCord (r.springs.getD i default)) 0) from Ref.cmap hlt) (nn i) v1 hv.1.1 hv.1.2 (.c6 hv.2.1.1 hv.2.1.2 hv.2.2 r1 (show i=A.length from hA.symm) (om ((i+1)*296<=140737488355328)) (.a6 (show i+1<=big by unfold big;omega) r1 (show i=B.length from hB.symm) (om ((i+1)*336<=140737488355328)) (show i+1<=big by unfold big;omega) (wI ((i:Int)+(1:Int)) ((i+1:Nat):Int))))) hg
 · intro A B hp hA hB hg
   refine Good.freezeD (b:=⟨229,17,true,A,none⟩) 5 (by rfl) (by rfl) .on (.oe (.a1 (om (0+r.springs.length<=A.length)))) ?_;refine Good.freezeD (b:=⟨231,22,true,B,none⟩) 6 (by rfl) (by rfl) .on (.oe (.a1 (om (0+r.springs.length<=B.length)))) ?_;refine Good.tidy [0,1,2,3,4] (by decide) (σ':=slots 359 [(1,.ptr 0 5 0 0),(2,.ptr 1 6 0 0),(3,.ptr 2 5 0 0),(4,.ptr 3 6 0 0),(5,.ptr 4 5 0 0),(22,.i6 ((r.springs.length:Nat):Int))]) (h':=[some ⟨27,5,false,[unRig r],none⟩,some (c18_0),some (c18_1),some ⟨41,6,false,[[.str rigB,.list 27 (r.real.bodies.map (unBody 300)),.list 17 ((A.drop 0).take r.springs.length),.nil,.nil,.nil]],none⟩,some ⟨48,5,false,[[.list 34 (r.real.bodies.map (unRBody 300)),.list 22 ((B.drop 0).take r.springs.length),.nil,.nil,.nil]],none⟩]) (by kernel_rfl) (by kernel_rfl) ?_;rw[List.drop_zero,List.drop_zero,tkE (by omega),tkE (by omega)];exact hg
 · intro h0 hg
   refine Good.weakB (el':=[.str rigB,.list 27 (r.real.bodies.map (unBody 300)),.list 17 [],.nil,.nil,.nil]) 3 0 (by rfl) (by rfl) (RefC.tl (RefC.tl RefC.nilL)) (Good.weakB (el':=[.list 34 (r.real.bodies.map (unRBody 300)),.list 22 [],.nil,.nil,.nil]) 4 0 (by rfl) (by rfl) (RefC.tl RefC.nilL) (Good.castH (by kernel_rfl) hg))
 · exact gN KT18_ok [1,2,3,4,5,30] [(145,ff)] (.a1 (iF (show ¬ ((r.springs.length:Int)<((r.springs.map unCord).length:Int)) by rw[lmE];omega))) (loop18_2 r hok)
abbrev c18_2 (r:RigD):List AV:=[.list 6 (spotsP (r.limbs.getD 0 default).shape),.list 8 (spotsR (r.limbs.getD 0 default).shape)]
abbrev c18_4 (r:RigD) (i:Nat):List AV:=[.list 6 (spotsP (r.limbs.getD i default).shape),.list 8 (spotsR (r.limbs.getD i default).shape)]
theorem loop18_0 (r:RigD) (hok:r.ok):Good Tryz.prog 18 S No w0 (Q18 S w0 r) [.code (nav [1,1,1,0,1,0,0] (bodyOf Tryz.f18)),.inLoop (nav [1,1,1,0,1,0,0] (bodyOf Tryz.f18)),.inBlock 0,.code (nav [1,1,1,1] (bodyOf Tryz.f18))] ⟨slots 359 [(1,.ptr 0 5 0 0),(2,.ptr 1 6 0 0),(3,.ptr 2 5 0 0),(4,.ptr 3 6 0 0),(5,.ptr 4 5 0 0),(6,.i6 ((0:Nat):Int))],[some ⟨27,5,false,[unRig r],none⟩,some (c18_0),some (c18_1),some ⟨41,6,false,[[.str rigB,.nil,.nil,.nil,.nil,.nil]],none⟩,some (c18_1)]⟩:=by
 have hl:=hok.2.2.2.2.2.1;refine rows2 (XS:=r.real.bodies.map (unBody 300)) (YS:=r.real.bodies.map (unRBody 300)) r.limbs.length (fun i=>unBody 300 ((r.limbs.getD i default).real (nameB i))) (fun i=>unRBody 300 ((r.limbs.getD i default).real (nameB i))) (fun a b i h=>⟨slots 359 [(1,.ptr 0 5 0 0),(2,.ptr 1 6 0 0),(3,.ptr 2 5 0 0),(4,.ptr 3 6 0 0),(5,.ptr 4 5 0 0),(6,.i6 ((i:Nat):Int))],[some ⟨27,5,false,[unRig r],none⟩,some (c18_0),some (c18_1),some ⟨41,6,false,[[.str rigB,a,.nil,.nil,.nil,.nil]],none⟩,some ⟨48,5,false,[[b,.nil,.nil,.nil,.nil]],none⟩]++h⟩) 5 6 27 34 114 184 ?_ ?_ ?_ ?_ (by simp only[RigD.real,bodiesOf,List.map_map];rfl) (by simp only[RigD.real,bodiesOf,List.map_map];rfl) ?_
 · intro hlt hg
   have hv:=hok.1 _ (getD_mem hlt);have v0:(0:Int)<((r.limbs.map unLimb).length:Int):=by rw[lmE];omega
   exact gR KT18_ok none [1,2,3,4,5,6] [0,1,2,3,4,27,29] [(59,tt),(65,.cptr (unLimb (r.limbs.getD 0 default)) 0),(106,.tup (c18_2 r)),(61,.i6 ((0+1:Nat):Int))] (.c6 (iT v0) (show Ref (.cptr ((r.limbs.map unLimb).getD 0 []) 0) (.cptr (unLimb (r.limbs.getD 0 default)) 0) from Ref.cmap hlt) (nn 0) v0 hv.1.1 hv.1.2 (.c6 hv.2.1.1 hv.2.1.2 hv.2.2.1 hv.2.2.2.1 hv.2.2.2.2.1 hv.2.2.2.2.2.1 (.c6 (show Ref (.tup [.list 6 (spotsP (((r.limbs.getD 0 default).shape.map unSpot).map reSpot)),.list 8 (spotsR (((r.limbs.getD 0 default).shape.map unSpot).map reSpot))]) (.tup (c18_2 r)) from Ref.eq (by rw[reSpot_un])) (show((r.limbs.getD 0 default).shape.map unSpot)=(((r.limbs.getD 0 default).shape.map unSpot).map reSpot).map unSpot by rw[reSpot_un]) (show ∀ s∈((r.limbs.getD 0 default).shape.map unSpot).map reSpot,s.ok by rw[reSpot_un];exact hv.2.2.2.2.2.2.1) (show((r.limbs.getD 0 default).shape.map unSpot).length*128<=140737488355328 by rw[lmE];exact hv.2.2.2.2.2.2.2) (nn 0) (om (0<=4611686018427387904)) (.c6 r1 (dc (0<1)) (dc (1*496<=140737488355328)) (dc (1<=big)) r1 (dc (0<1)) (.a3 (dc (1*544<=140737488355328)) (dc (1<=big)) (wI ((0:Int)+(1:Int)) ((0+1:Nat):Int))))))) hg
 · intro i A B hi hlt hA hB hg
   have hv:=hok.1 _ (getD_mem hlt);have v1:(i:Int)<((r.limbs.map unLimb).length:Int):=by rw[lmE];omega
   exact gR KT18_ok none [1,2,3,4,5,6] [0,1,2,3,4,29,31] [(59,tt),(65,.cptr (unLimb (r.limbs.getD i default)) 0),(106,.tup (c18_4 r i)),(61,.i6 ((i+1:Nat):Int))] (.c6 (iT v1) (show Ref (.cptr ((r.limbs.map unLimb).getD i []) 0) (.cptr (unLimb (r.limbs.getD i default)) 0) from Ref.cmap hlt) (nn i) v1 hv.1.1 hv.1.2 (.c6 hv.2.1.1 hv.2.1.2 hv.2.2.1 hv.2.2.2.1 hv.2.2.2.2.1 hv.2.2.2.2.2.1 (.c6 (show Ref (.tup [.list 6 (spotsP (((r.limbs.getD i default).shape.map unSpot).map reSpot)),.list 8 (spotsR (((r.limbs.getD i default).shape.map unSpot).map reSpot))]) (.tup (c18_4 r i)) from Ref.eq (by rw[reSpot_un])) (show((r.limbs.getD i default).shape.map unSpot)=(((r.limbs.getD i default).shape.map unSpot).map reSpot).map unSpot by rw[reSpot_un]) (show ∀ s∈((r.limbs.getD i default).shape.map unSpot).map reSpot,s.ok by rw[reSpot_un];exact hv.2.2.2.2.2.2.1) (show((r.limbs.getD i default).shape.map unSpot).length*128<=140737488355328 by rw[lmE];exact hv.2.2.2.2.2.2.2) (nn i) (om (i<=4611686018427387904)) (.c6 r1 (show i=A.length from hA.symm) (om ((i+1)*496<=140737488355328)) (show i+1<=big by unfold big;omega) r1 (show i=B.length from hB.symm) (.a3 (om ((i+1)*544<=140737488355328)) (show i+1<=big by unfold big;omega) (wI ((i:Int)+(1:Int)) ((i+1:Nat):Int))))))) hg
 · intro A B hp hA hB hg
   refine Good.freezeD (b:=⟨114,27,true,A,none⟩) 5 (by rfl) (by rfl) .on (.oe (.a1 (om (0+r.limbs.length<=A.length)))) ?_;refine Good.freezeD (b:=⟨184,34,true,B,none⟩) 6 (by rfl) (by rfl) .on (.oe (.a1 (om (0+r.limbs.length<=B.length)))) ?_;refine Good.tidy [0,1,2,3,4] (by decide) (σ':=slots 359 [(1,.ptr 0 5 0 0),(2,.ptr 1 6 0 0),(3,.ptr 2 5 0 0),(4,.ptr 3 6 0 0),(5,.ptr 4 5 0 0),(6,.i6 ((r.limbs.length:Nat):Int))]) (h':=[some ⟨27,5,false,[unRig r],none⟩,some (c18_0),some (c18_1),some ⟨41,6,false,[[.str rigB,.list 27 ((A.drop 0).take r.limbs.length),.nil,.nil,.nil,.nil]],none⟩,some ⟨48,5,false,[[.list 34 ((B.drop 0).take r.limbs.length),.nil,.nil,.nil,.nil]],none⟩]) (by kernel_rfl) (by kernel_rfl) ?_;rw[List.drop_zero,List.drop_zero,tkE (by omega),tkE (by omega)];exact hg
 · intro h0 hg
   refine Good.weakB (el':=[.str rigB,.list 27 [],.nil,.nil,.nil,.nil]) 3 0 (by rfl) (by rfl) (RefC.tl RefC.nilL) (Good.weakB (el':=[.list 34 [],.nil,.nil,.nil,.nil]) 4 0 (by rfl) (by rfl) RefC.nilL (Good.castH (by kernel_rfl) hg))
 · exact gN KT18_ok [1,2,3,4,5,22] [(59,ff)] (.a1 (iF (show ¬ ((r.limbs.length:Int)<((r.limbs.map unLimb).length:Int)) by rw[lmE];omega))) (loop18_1 r hok)
end
theorem a18:Ctr 18 k18:=by
 refine ctr Tryz.f18 fun _ _ _ S w0 h ho=> ?_
 unfold k18 at h;split at h <;> cases h;rename_i R;obtain⟨o1,o2⟩:=ho.e2;clear ho;generalize reRig R=r at*;subst o1;exact gN KT18_ok [1,2,3,4,5,6] [(54,.agg [.str rigB,AV.nil,AV.nil,AV.nil,AV.nil,AV.nil])] (.a1 (show Ref (.agg [.str (ByteArray.mk #[114,105,103]),AV.nil,AV.nil,AV.nil,AV.nil,AV.nil]) (.agg [.str rigB,AV.nil,AV.nil,AV.nil,AV.nil,AV.nil]) from rr)) (loop18_0 r o2)
theorem bitLen_dval {xs:List Nat} (h:Dig b32 xs) (hne:xs≠ []):bitLen (dval b32 xs)=32*(xs.length-1)+bitLen (xs.getD (xs.length-1) 0):=by
 have hp:0<xs.length:=List.length_pos_iff.2 hne;have h1:=Dig.low (b:=b32) (by decide) h hne;have h2:=dval_split b32 (xs.length-1) xs;have h3:=dval_drop_succ (b:=b32) (k:=xs.length-1) (xs:=xs) (by omega);have h4:=dval_take_lt (b:=b32) (by decide) h.1 (xs.length-1);rw[show xs.length-1+1=xs.length by omega,List.drop_length] at h3;simp only[dval,Nat.mul_zero,Nat.add_zero] at h3;rw[h3] at h2
 have h5:dval b32 xs/b32^(xs.length-1)=xs.getD (xs.length-1) 0:=by
   rw[h2,Nat.add_mul_div_left _ _ (Nat.pow_pos (by decide)),Nat.div_eq_of_lt h4,Nat.zero_add]
 rw[b32_pow] at h1 h5;rw[bitLen_div h1,h5]
def k336:KF
 | [.nat n B]=>some (.int .i64 ((bitLen n:Nat):Int),[B<=LIM])
 | _=>none
theorem a336:Ctr 336 k336:=by
 refine ctr Tryz.f336 fun _ _ _ S w0 h ho=> ?_
 unfold k336 at h;split at h <;> cases h;rename_i n B;have o1:=ho.one;have L:=limE;have K:=kn.cons a298;refine Good.natlt (n:=n) (B:=B) 0 rfl fun hB=> ?_
 obtain⟨hx,hxn⟩:=digits_spec (b:=b32) (by decide) n;have hl:=digits_len hB;refine Good.weak 18 [(0,.list 1 (d32 (digits b32 n)))] (by kernel_rfl) (.cons Ref.opn .nil) ?_;generalize digits b32 n=xs at*;unfold LIM at o1;have ht:=getD_lt (b:=b32) (by decide) hx.1 (xs.length-1);unfold b32 at ht;have e1:((((d32 xs).length:Nat):Int)-(1:Int)).toNat=xs.length-1:=by rw[d32_length];omega
 have hb:=bitLen_le (n:=xs.getD (xs.length-1) 0) (k:=32) ht
 by_cases h1:(((d32 xs).length:Nat):Int)=(0:Int)
 · refine rF K [(5,tt)] (.a1 (iT h1)) (V:=.i6 (0:Int)) ?_
   rw[d32_length] at h1;have:xs= []:=List.length_eq_zero_iff.1 (by omega);subst this;rw[<- hxn];exact Ref.int (by simp[dval,bitLen])
 · refine rF K [(5,ff),(8,.i6 ((((d32 xs).length:Nat):Int)-(1:Int))),(9,.i6 ((32:Int)*((((d32 xs).length:Nat):Int)-(1:Int)))),(13,.i6 ((((d32 xs).length:Nat):Int)-(1:Int))),(14,.cptr [.int .u32 (xs.getD (((((d32 xs).length:Nat):Int)-(1:Int)).toNat) 0:Int)] 0),(17,.i6 (((32:Int)*((((d32 xs).length:Nat):Int)-(1:Int)))+(bitLen (xs.getD (((((d32 xs).length:Nat):Int)-(1:Int)).toNat) 0):Int)))] (.c6 (iF h1) (wI ((((d32 xs).length:Nat):Int)-(1:Int)) ((((d32 xs).length:Nat):Int)-(1:Int)) (by first | (rw[e1];rw[d32_length] at*;omega) | (rw[d32_length] at*;omega))) (wI ((32:Int)*((((d32 xs).length:Nat):Int)-(1:Int))) ((32:Int)*((((d32 xs).length:Nat):Int)-(1:Int))) (by first | (rw[e1];rw[d32_length] at*;omega) | (rw[d32_length] at*;omega))) (wI ((((d32 xs).length:Nat):Int)-(1:Int)) ((((d32 xs).length:Nat):Int)-(1:Int)) (by first | (rw[e1];rw[d32_length] at*;omega) | (rw[d32_length] at*;omega))) (show Ref (.cptr ((d32 xs).getD ((((d32 xs).length:Int)-(1:Int)).toNat) []) 0) (.cptr [.int .u32 (xs.getD (((((d32 xs).length:Nat):Int)-(1:Int)).toNat) 0:Int)] 0) from Ref.cd32 ((show((((d32 xs).length:Nat):Int)-(1:Int)).toNat<xs.length by(rw[e1];rw[d32_length] at*;omega)))) (show 0<=((((d32 xs).length:Nat):Int)-(1:Int)) by(rw[d32_length] at*;omega)) (.a4 (show((((d32 xs).length:Nat):Int)-(1:Int))<((d32 xs).length:Int) by(rw[d32_length] at*;omega)) (show 0<=(xs.getD (((((d32 xs).length:Nat):Int)-(1:Int)).toNat) 0:Int) by first | (rw[e1];exact ht) | (rw[e1];rw[d32_length] at*;omega) | (rw[d32_length] at*;omega) | omega) (show(xs.getD ((((d32 xs).length:Int)-(1:Int)).toNat) 0)<4294967296 by(rw[e1];exact ht)) (wI (((32:Int)*((((d32 xs).length:Nat):Int)-(1:Int)))+(bitLen (xs.getD (((((d32 xs).length:Nat):Int)-(1:Int)).toNat) 0):Int)) (((32:Int)*((((d32 xs).length:Nat):Int)-(1:Int)))+(bitLen (xs.getD (((((d32 xs).length:Nat):Int)-(1:Int)).toNat) 0):Int)) (by first | (rw[e1];rw[d32_length] at*;omega) | (rw[d32_length] at*;omega))))) (V:=.i6 (((32:Int)*((((d32 xs).length:Nat):Int)-(1:Int)))+(bitLen (xs.getD (((((d32 xs).length:Nat):Int)-(1:Int)).toNat) 0):Int))) ?_
   rw[d32_length] at h1;refine Ref.int ?_;rw[<- hxn,e1,d32_length,bitLen_dval hx (fun h=>h1 (by rw[h];rfl))];have:0<xs.length:=by omega
   omega
def KT329_ok:=((((((kn.cons a336).cons a265).cons a262).cons a207).cons a205).cons a203).cons a202
def isqF:Nat->Nat->Nat
 | 0,_=>0
 | k+1,n=>if n=0 then 0 else if (2*isqF k (n/4)+1)*(2*isqF k (n/4)+1)<=n then 2*isqF k (n/4)+1 else 2*isqF k (n/4)
def isqrt (n:Nat):Nat:=isqF n n
theorem isqF_spec:∀ (k n:Nat),n<=k->isqF k n*isqF k n<=n/\n<(isqF k n+1)*(isqF k n+1)
 | 0,n,h=>by
   have:n=0:=by omega
   subst this;simp[isqF]
 | k + 1,n,h=>by
   rw[isqF]
   split
   · rename_i h0;subst h0;simp
   · rename_i h0
     obtain⟨h1,h2⟩:=isqF_spec k (n/4) (by omega);generalize isqF k (n/4)=s at*;have h3:4*(n/4)<=n:=by omega
     have h4:n<4*(n/4)+4:=by omega
     have e1:(2*s)*(2*s)=4*(s*s):=by grind
     have e2:(2*s+1+1)*(2*s+1+1)=4*((s+1)*(s+1)):=by grind
     split
     · rename_i h5
       exact⟨h5,by rw[e2];omega⟩
     · rename_i h5
       exact⟨by rw[e1];omega,by omega⟩
theorem isqrt_spec (n:Nat):isqrt n*isqrt n<=n/\n<(isqrt n+1)*(isqrt n+1):=isqF_spec n n (rl n)
theorem isqrt_uniq {n x:Nat} (h1:x*x<=n) (h2:n<(x+1)*(x+1)):x=isqrt n:=by
 obtain⟨h3,h4⟩:=isqrt_spec n;generalize isqrt n=r at*;rcases Nat.lt_trichotomy x r with h | h | h
 · have:=Nat.mul_le_mul (show x+1<=r from h) (show x+1<=r from h)
   omega
 · exact h
 · have:=Nat.mul_le_mul (show r+1<=x from h) (show r+1<=x from h)
   omega
theorem isqrt_le (n:Nat):isqrt n<=n:=by
 obtain⟨h,_⟩:=isqrt_spec n;exact Nat.le_trans (Nat.le_mul_self _) h
theorem isqrt_pos {n:Nat} (h:0<n):0<isqrt n:=by
 obtain⟨_,h2⟩:=isqrt_spec n;rcases Nat.eq_zero_or_pos (isqrt n) with e | e
 · rw[e] at h2;omega
 · exact e
theorem newton {n x:Nat} (hn:0<n) (hx:0<x):n<((x+n/x)/2+1)*((x+n/x)/2+1)/\0<(x+n/x)/2/\(x<=(x+n/x)/2->x*x<=n):=by
 have h1:x*(n/x)<=n:=Nat.mul_div_le n x;have h2:n<x*(n/x+1):=Nat.lt_mul_div_succ n hx;generalize n/x=q at*;refine⟨?_, ?_,fun h=> ?_⟩
 · have h3:x+q+1<=2*((x+q)/2+1):=by omega
   generalize (x+q)/2+1=y at*;have h4:=Nat.mul_le_mul h3 h3
   have h5:4*(x*(q+1))<=(x+q+1)*(x+q+1):=by
     rcases Nat.le_total x (q+1) with h | h
     · obtain⟨d,hd⟩:=Nat.le.dest h
       have:q+1=x+d:=hd.symm;rw[show x+q+1=x+(q+1) by omega,this];have:(x+(x+d))*(x+(x+d))=4*(x*(x+d))+d*d:=by grind
       omega
     · obtain⟨d,hd⟩:=Nat.le.dest h
       rw[show x+q+1=x+(q+1) by omega, <- hd];have:(q+1+d+(q+1))*(q+1+d+(q+1))=4*((q+1+d)*(q+1))+d*d:=by grind
       omega
   have h6:(2*y)*(2*y)=4*(y*y):=by grind
   omega
 · rcases Nat.eq_zero_or_pos ((x+q)/2) with h | h
   · exfalso
     have hx1:x=1:=by omega
     have hq0:q=0:=by omega
     subst hx1;subst hq0;omega
   · exact h
 · have h3:x<=q:=by omega
   exact Nat.le_trans (Nat.mul_le_mul_left x h3) h1
def k329:KF
 | [.nat n B]=>some (.nat (isqrt n) B,[B+300<=LIM])
 | _=>none
section
variable {S:Nat->Prop} {w0:World}
noncomputable abbrev T329:List Item:=[.code (nav [1,1,1,0,0] (bodyOf Tryz.f329)),.inLoop (nav [1,1,1,0,0] (bodyOf Tryz.f329)),.inBlock 0]
theorem loop329 {n B C:Nat} (hn:0<n) (hB:n<2^B) (hC:max B C+128<=LIM):∀ (j x:Nat),x<=j->0<x->n<(x+1)*(x+1)->x<2^C->
   GF 329 S w0 (.nat (isqrt n) B) T329 ⟨slots 32 [(0,.nat n B),(3,.nat x C)],[]⟩:=by
 intro j
 induction j with
 | zero=>intro x h1 h2;omega
 | succ j ih=>
   intro x hj hx hnx hxC;obtain⟨n1,n2,n3⟩:=newton hn hx;have v0:(1:Int)<=9223372036854775807:=by decide
   by_cases c:(0:Int)<=(cmpN ((x+(n/x))/2^1) x)
   · refine gR KT329_ok none [0,2,3] [] [(29,tt)] (.c6 hx hC (om (max C B+1<=LIM)) (dc (0<=(1:Int))) (om ((max C B+1)<=LIM)) v0 (.a1 (iT c))) (t:=[.code .ret,.code (nav [1,1,1,0,0,0,1,1,1] (bodyOf Tryz.f329)),.inBlock 1,.inLoop (nav [1,1,1,0,0] (bodyOf Tryz.f329)),.inBlock 0]) (σ:=slots 32 [(0,.nat n B),(2,.nat x C),(3,.nat x C)]) (h:=[]) ?_
     have h1:x=isqrt n:=isqrt_uniq (n3 (cmpN_nonneg.1 c)) hnx;refine good_ret1 TT0_ok (fn:=Tryz.f329) (by kernel_rfl) 2 (by kernel_rfl) rfl (by rfl) ?_;rw[h1];exact Ref.natB (Nat.lt_of_le_of_lt (isqrt_le n) hB)
   · refine gR KT329_ok none [0,2,3] [] [(29,ff)] (.c6 hx hC (om (max C B+1<=LIM)) (dc (0<=(1:Int))) (om ((max C B+1)<=LIM)) v0 (.a1 (iF c))) (t:=T329) (σ:=slots 32 [(0,.nat n B),(3,(.nat ((x+(n/x))/2^1) (max C B+1)))]) (h:=[]) ?_
     have hlt:(x+n/x)/2^1<x:=Nat.lt_of_not_le fun h=>c (cmpN_nonneg.2 h)
     refine Good.weak 32 [(0,_),(3,.nat ((x+n/x)/2^1) C)] (by kernel_rfl) (.r (.cons (Ref.natB (Nat.lt_trans hlt hxC)) .nil)) ?_;exact ih _ (by omega) n2 n1 (Nat.lt_trans hlt hxC)
end
theorem a329:Ctr 329 k329:=by
 refine ctr Tryz.f329 fun _ _ _ S w0 h ho=> ?_
 unfold k329 at h;split at h <;> cases h;rename_i n B;have o1:=ho.one;refine Good.natlt (n:=n) (B:=B) 0 rfl fun hB=> ?_
 have hb:=bitLen_le hB;obtain⟨hx,hxn⟩:=digits_spec (b:=b32) (by decide) n;refine Good.weak 32 [(0,.list 1 (d32 (digits b32 n)))] (by kernel_rfl) (.cons Ref.opn .nil) ?_;have hlen:=digits_pos (b:=b32) (n:=n) (by decide);generalize digits b32 n=xs at*
 by_cases c:(((d32 xs).length:Nat):Int)=(0:Int)
 · refine rF KT329_ok [(9,tt)] (.a1 (iT c)) (V:=AV.nil) ?_
   rw[d32_length] at c;have h0:n=0:=by omega
   subst h0;exact(Ref.nilL (e:=1)).trans (Ref.nat (xs:=[]) ⟨by simp,by simp⟩ rfl (Nat.pow_pos (by decide)))
 · refine gS KT329_ok (some 3) [0,2,3] [(9,ff)] (.a1 (iF c)) (t:=[.code (nav [1,1,0] (bodyOf Tryz.f329)),.code (nav [1,1,1] (bodyOf Tryz.f329))]) (σ:=slots 32 [(0,.list 1 (d32 xs)),(2,.nil)]) (h:=[]) ?_
   rw[d32_length] at c;have hn:0<n:=by omega
   refine Good.weak 32 [(0,.nat n B)] (by kernel_rfl) (.cons (Ref.nat hx hxn hB) .nil) ?_;unfold LIM at o1;refine gR KT329_ok none [0,3] [] [(13,.i6 ((bitLen n+1:Nat):Int)),(14,.i6 (((bitLen n+1)/2:Nat):Int))] (.c6 (dc (0<=(1:Int))) (dc ((1:Int)<18446744073709551616)) (show B<=LIM by unfold LIM;omega) (wI (((bitLen n:Nat):Int)+(1:Int)) ((bitLen n+1:Nat):Int)) (show Ref (.i6 (IntKind.i64.wrap (((bitLen n+1:Nat):Int).tdiv (2:Int)))) (.i6 (((bitLen n+1)/2:Nat):Int)) from Ref.quo (a:=bitLen n+1) (b:=2) rfl rfl (by decide) (by show _<=(9223372036854775807:Int);omega)) (dc ((2:Int)≠0)) (.a2 (nn ((bitLen n+1)/2)) (show 64+((bitLen n+1)/2)<=LIM by unfold LIM;omega))) (t:=T329) (σ:=slots 32 [(0,.nat n B),(3,(.nat (1*2^((bitLen n+1)/2)) (64+((bitLen n+1)/2))))]) (h:=[]) ?_
   obtain⟨b1,b2,b3⟩:=bitLen_spec (n:=n) (by omega)
   have hx0:n<2^((bitLen n+1)/2)*2^((bitLen n+1)/2):=by
     rw[<- Nat.pow_add];exact Nat.lt_of_lt_of_le b3 (Nat.pow_le_pow_right (by decide) (by omega))
   refine loop329 hn hB (by unfold LIM;omega) _ _ (rl _) (by rw[Nat.one_mul];exact Nat.pow_pos (by decide)) ?_ ?_
   · rw[Nat.one_mul]
     exact Nat.lt_of_lt_of_le hx0 (Nat.mul_le_mul (Nat.le_succ _) (Nat.le_succ _))
   · rw[Nat.one_mul]
     exact Nat.pow_lt_pow_right (by decide) (by omega)
def sqB (x:Rat):Bool:=decide (isqrt x.num.natAbs*isqrt x.num.natAbs=x.num.natAbs/\isqrt x.den*isqrt x.den=x.den)
def sqV (x:Rat):Rat:=mkRat (isqrt x.num.natAbs:Nat) (isqrt x.den)
def k301:KF
 | [.agg [.q x B]]=>some (.tup [.agg [.q (if sqB x then sqV x else 0) (B+1)],.bool (sqB x)],[2*B+400<=LIM])
 | _=>none
theorem a301:Ctr 301 k301:=by
 refine ctr Tryz.f301 fun _ _ _ S w0 h ho=> ?_
 unfold k301 at h;split at h <;> cases h;rename_i x B;have o1:=ho.one;have L:=limE;have K:=((((kn.cons a329).cons a207).cons a115).cons a112).cons a111;have v0:max B 64+1<=LIM:=by omega
 have v1:(B+1)+300<=LIM:=by omega
 have v2:B+B+128<=LIM:=by omega
 have v3:B+300<=LIM:=by omega
 by_cases h1:(cmpN ((isqrt x.num.natAbs)*(isqrt x.num.natAbs)) x.num.natAbs)=(0:Int)
 · have v4:(B+1)+(B+1)+128<=LIM:=by omega
   by_cases h2:(cmpN ((isqrt x.den)*(isqrt x.den)) x.den)=(0:Int)
   · refine rF K [(21,ff),(29,ff),(32,.agg [.z (isqrt x.num.natAbs:Int) B])] (.c6 v3 v0 v1 v2 (jF h1) v4 (.a5 v0 (jF h2) (show Ref (.agg [.bool false,.nat (isqrt x.num.natAbs) B]) (.agg [.z (isqrt x.num.natAbs:Int) B]) by exact Ref.agg (RefC.mkz (rl _) (by simp) (by simp))) (show 0<(isqrt x.den) by exact isqrt_pos x.den_pos) (om (max B (B+1)+128<=LIM)))) (V:=.tup [.agg [.q (mkRat (isqrt x.num.natAbs:Int) (isqrt x.den)) (max B (B+1))],.bool true]) ?_
     have hs:sqB x=true:=decide_eq_true ⟨cmpN_zero.1 h1,cmpN_zero.1 h2⟩;rw[hs];exact Ref.tup2 (Ref.q1 rfl (by omega)) rr rfl rfl rfl rfl
   · refine rF K [(21,ff),(29,tt)] (.c6 v3 v0 v1 v2 (jF h1) v4 (.a2 v0 (jT h2))) (V:=.tup [.agg [.q 0 0],.bool false]) ?_
     have hs:sqB x=false:=decide_eq_false fun h=>h2 (cmpN_zero.2 h.2)
     rw[hs];exact Ref.tup2 (Ref.q1 rfl (by omega)) rr rfl rfl rfl rfl
 · refine rF K [(21,tt)] (.a5 v3 v0 v1 v2 (jT h1)) (V:=.tup [.agg [.q 0 0],.bool false]) ?_
   have hs:sqB x=false:=decide_eq_false fun h=>h1 (cmpN_zero.2 h.1)
   rw[hs];exact Ref.tup2 (Ref.q1 rfl (by omega)) rr rfl rfl rfl rfl
def k302:KF
 | [.agg [.q x B]]=>some (.agg [.q ((x.den:Int):Rat) (B+1)],[max B 64+1<=LIM])
 | _=>none
theorem a302:Ctr 302 k302:=by
 refine ctr Tryz.f302 fun _ _ _ S w0 h ho=> ?_
 unfold k302 at h;split at h <;> cases h;rename_i x B;have o1:=ho.one;have L:=limE;have K:=(kn.cons a111).cons a108;exact rR K [(5,.agg [.z (x.den:Int) (B+1)])] (.a2 o1 (show Ref (.agg [.bool false,.nat x.den (B+1)]) (.agg [.z (x.den:Int) (B+1)]) by exact Ref.agg (RefC.mkz (rl _) (by simp) (by simp))))
def k303:KF
 | [.agg [.q x B]]=>some (.agg [.q (x.num:Rat) B],[])
 | _=>none
theorem a303:Ctr 303 k303:=by
 refine ctr Tryz.f303 fun _ _ _ S w0 h ho=> ?_
 unfold k303 at h;split at h <;> cases h;rename_i x B;have K:=kn.cons a108;exact rR K [] .nil
structure Sd where
 a:Rat
 b:Rat
 d:Rat
 deriving Inhabited
def nrm (s:Sd):Sd:=if s.b=0 then ⟨s.a,0,0⟩ else if sqB s.d=true then ⟨s.a+s.b*sqV s.d,0,0⟩ else ⟨s.a,s.b/((s.d.den:Int):Rat),(s.d.num:Rat)*((s.d.den:Int):Rat)⟩
def k269:KF
 | [.agg [.q a A,.q b B,.q d D]]=>some (.agg [.q (nrm ⟨a,b,d⟩).a (A+B+D+5),.q (nrm ⟨a,b,d⟩).b (B+D+3),.q (nrm ⟨a,b,d⟩).d (2*D+3)],[A+B+3*D+600<=LIM])
 | _=>none
theorem a269:Ctr 269 k269:=by
 refine ctr Tryz.f269 fun _ _ _ S w0 h ho=> ?_
 unfold k269 at h;split at h <;> cases h;rename_i a A b B d D;have o1:=ho.one;have L:=limE;have K:=((((((kn.cons a303).cons a302).cons a301).cons a116).cons a60).cons a29).cons a26
 by_cases h1:(Int.sign b.num)=(0:Int)
 · refine rF K [(8,tt)] (.a1 (iT h1)) (V:=.agg [.q a A,.q 0 0,.q 0 0]) ?_
   have h0:b=0:=div_sgn0 h1;have hn:nrm ⟨a,b,d⟩=⟨a,0,0⟩:=by unfold nrm;rw[if_pos h0]
   rw[hn];exact Ref.agg (RefC.cons qe (RefC.cons qe qe))
 · rcases Bool.eq_false_or_eq_true (sqB d) with h2 | h2
   · refine rF K [(8,ff),(18,tt)] (.a5 (iF h1) (om (2*D+400<=LIM)) (show Ref (.bool (sqB d)) (.bool true) from Ref.bool h2) (om (B+(D+1)+200<=LIM)) (om (A+(B+(D+1)+2)+200<=LIM))) (V:=.agg [.q (a+(b*(if sqB d then sqV d else 0))) (A+(B+(D+1)+2)+2),.q 0 0,.q 0 0]) ?_
     have h0:b≠0:=fun h=>h1 (by rw[h];rfl)
     have hn:nrm ⟨a,b,d⟩=⟨a+b*sqV d,0,0⟩:=by unfold nrm;rw[if_neg h0,if_pos h2]
     rw[hn,h2];exact Ref.agg (RefC.cons qe (RefC.cons qe qe))
   · refine rF K [(8,ff),(18,ff)] (.c6 (iF h1) (om (2*D+400<=LIM)) (show Ref (.bool (sqB d)) (.bool false) from Ref.bool h2) (om (max D 64+1<=LIM)) (om (B+(D+1)+200<=LIM)) (show((d.den:Int):Rat)≠0 by exact fun h=>d.den_nz (by have:=Rat.intCast_eq_zero_iff.1 h;omega)) (.a2 (om (max D 64+1<=LIM)) (om (D+(D+1)+200<=LIM)))) (V:=.agg [.q a A,.q (b/((d.den:Int):Rat)) (B+(D+1)+2),.q ((d.num:Rat)*((d.den:Int):Rat)) (D+(D+1)+2)]) ?_
     have h0:b≠0:=fun h=>h1 (by rw[h];rfl)
     have hn:nrm ⟨a,b,d⟩=⟨a,b/((d.den:Int):Rat),(d.num:Rat)*((d.den:Int):Rat)⟩:=by unfold nrm;rw[if_neg h0,if_neg (by rw[h2];decide)]
     rw[hn];exact Ref.agg (RefC.cons qe (RefC.cons qe qe))
def k219:KF
 | [.agg [.q a A,.q b B,.q d D]]=>some (.tup [.agg [.q ((if Int.sign d.num<0 then (⟨0,0,0⟩:Sd) else nrm ⟨a,b,d⟩)).a (A+B+D+5),.q ((if Int.sign d.num<0 then (⟨0,0,0⟩:Sd) else nrm ⟨a,b,d⟩)).b (B+D+3),.q ((if Int.sign d.num<0 then (⟨0,0,0⟩:Sd) else nrm ⟨a,b,d⟩)).d (2*D+3)],.int .i64 (if Int.sign d.num<0 then 8 else 0)],[A+B+3*D+600<=LIM])
 | _=>none
theorem a219:Ctr 219 k219:=by
 refine ctr Tryz.f219 fun _ _ _ S w0 h ho=> ?_
 unfold k219 at h;split at h <;> cases h;rename_i a A b B d D;have o1:=ho.one;have L:=limE;have K:=(kn.cons a269).cons a60
 by_cases h1:(Int.sign d.num)<(0:Int)
 · refine rF K [(7,tt)] (.a1 (iT h1)) (V:=.tup [.agg [.q 0 0,.q 0 0,.q 0 0],.i6 (8:Int)]) ?_
   simp only[if_pos h1];exact Ref.tup2 (Ref.agg (RefC.cons qe (RefC.cons qe qe))) rr rfl rfl rfl rfl
 · refine rF K [(7,ff)] (.a2 (iF h1) o1) (V:=.tup [.agg [.q ((nrm ⟨a,b,d⟩).a) (A+B+D+5),.q ((nrm ⟨a,b,d⟩).b) (B+D+3),.q ((nrm ⟨a,b,d⟩).d) (2*D+3)],.i6 (0:Int)]) ?_
   simp only[if_neg h1];exact Ref.tup2 rr rr rfl rfl rfl rfl
def k131:KF
 | [.agg [.q d D],.agg [.q a A,.q b B]]=>some (.agg [.q ((if Int.sign d.num<0 then (⟨0,0,0⟩:Sd) else nrm ⟨a,b,d⟩)).a (A+B+D+5),.q ((if Int.sign d.num<0 then (⟨0,0,0⟩:Sd) else nrm ⟨a,b,d⟩)).b (B+D+3),.q ((if Int.sign d.num<0 then (⟨0,0,0⟩:Sd) else nrm ⟨a,b,d⟩)).d (2*D+3)],[A+B+3*D+600<=LIM])
 | _=>none
theorem a131:Ctr 131 k131:=by
 refine ctr Tryz.f131 fun _ _ _ S w0 h ho=> ?_
 unfold k131 at h;split at h <;> cases h;rename_i d D a A b B;have o1:=ho.one;have K:=kn.cons a219;exact rR K [] (.a1 o1)
def k163:KF
 | [.agg [.q px B,.q pz D],.agg [.q qx C,.q qz E]]=>some (.agg [.q (px*qx+pz*qz) (B+D+C+E+6)],[B+D+C+E+300<=LIM])
 | _=>none
theorem a163:Ctr 163 k163:=by
 refine ctr Tryz.f163 fun _ _ _ S w0 h ho=> ?_
 unfold k163 at h;split at h <;> cases h;rename_i px B pz D qx C qz E;have o1:=ho.one;have L:=limE;have K:=(kn.cons a29).cons a26;exact rF K [] (.a3 (om (B+C+200<=LIM)) (om (D+E+200<=LIM)) (om ((B+C+2)+(D+E+2)+200<=LIM))) (V:=.agg [.q ((px*qx)+(pz*qz)) ((B+C+2)+(D+E+2)+2)]) (Ref.q1 rfl (by omega))
theorem sgn_false (n:Nat):sgn false n=n:=rfl
theorem abs_num (x:Rat):(x.num.natAbs:Int)=(if x<0 then-x else x).num:=by
 have h:x<0↔x.num<0:=by rw[Rat.lt_iff];simp
 by_cases k:x<0
 · have a:=h.1 k
   rw[if_pos k];exact Int.ofNat_natAbs_of_nonpos (by omega)
 · have a:¬ x.num<0:=fun a=>k (h.2 a)
   rw[if_neg k];exact Int.natAbs_of_nonneg (by omega)
def k268:KF
 | [.agg [.q x B]]=>some (.agg [.q (if x<0 then-x else x) B],[])
 | _=>none
theorem a268:Ctr 268 k268:=by
 refine ctr Tryz.f268 fun _ _ _ S w0 h ho=> ?_
 unfold k268 at h;split at h <;> cases h;rename_i x B;have K:=kn.cons a109;refine rF K [] .nil (V:=.agg [.z (sgn false x.num.natAbs) B,.nat (x.den-1) B]) ?_
 refine Ref.agg (RefC.mkq (rl _) (rl _) ?_ ?_)
 · rw[sgn_false];exact abs_num x
 · split <;> rfl
def KD213_ok:=((((((((kn.cons a269).cons a268).cons a116).cons a60).cons a59).cons a29).cons a28).cons a26).cons a25
def unSd (B:Nat) (s:Sd):List AV:=[.q s.a B,.q s.b B,.q s.d B]
def rootsS (a b c:Rat):List Sd:=
 if a=0 then (if b=0 then [] else [⟨-(c/b),0,0⟩])
 else if b*b-4*a*c<0 then []
 else if b*b-4*a*c=0 then [⟨-(b/(a+a)),0,0⟩]
 else [nrm ⟨-(b/(a+a)),-(if 1/(a+a)<0 then-(1/(a+a)) else 1/(a+a)),b*b-4*a*c⟩,nrm ⟨-(b/(a+a)),if 1/(a+a)<0 then-(1/(a+a)) else 1/(a+a),b*b-4*a*c⟩]
def k213:KF
 | [.agg [.q a A],.agg [.q b B],.agg [.q c C]]=>some (.tup [.list 9 ((rootsS a b c).map (unSd (5*A+4*B+2*C+300))),.int .i64 (if a=0/\b=0/\c=0 then 10 else 0)],[20*A+20*B+10*C+3000<=LIM])
 | _=>none
abbrev d213_1 (a:Rat) (A:Nat):ABlk:=⟨56,3,false,[[.q (if ((1:Rat)/(a+a))<0 then-((1:Rat)/(a+a)) else ((1:Rat)/(a+a))) (64+(A+A+2)+2)]],none⟩
theorem a213:Ctr 213 k213:=by
 refine ctr Tryz.f213 fun _ _ _ S w0 h ho=> ?_
 unfold k213 at h;split at h <;> cases h;rename_i a A b B c C;have o1:=ho.one;have q1:∀ x:Rat,(Int.sign x.num)=(0:Int)->x=0:=fun x=>sgn_zero.1
 have q2:∀ x:Rat,¬ ((Int.sign x.num)=(0:Int))->x≠0:=fun x h k=>h (sgn_zero.2 k)
 have q3:∀ x:Rat,(Int.sign x.num)=(-1:Int)->x<0:=fun x=>sgn_lt.1
 have q4:∀ x:Rat,¬ ((Int.sign x.num)=(-1:Int))->¬ x<0:=fun x h k=>h (sgn_lt.2 k)
 by_cases h1:(Int.sign a.num)=(0:Int)
 · by_cases h2:(Int.sign b.num)=(0:Int)
   · by_cases h3:(Int.sign c.num)=(0:Int)
     · refine rF KD213_ok [(11,ff),(15,ff),(25,ff)] (.a3 (jF h1) (jF h2) (jF h3)) (V:=.tup [AV.nil,.i6 (10:Int)]) ?_
       show Ref (AV.tup [AV.nil,(AV.int .i64 (10:Int))]) (.tup [.list 9 ((rootsS a b c).map (unSd (5*A+4*B+2*C+300))),.i6 (if a=0/\b=0/\c=0 then 10 else 0)]);rw[if_pos ⟨q1 _ h1,q1 _ h2,q1 _ h3⟩,show rootsS a b c= [] by unfold rootsS;rw[if_pos (q1 _ h1),if_pos (q1 _ h2)]];exact Ref.tup2 Ref.nilL rr rfl rfl rfl rfl
     · refine rF KD213_ok [(11,ff),(15,ff),(25,tt)] (.a3 (jF h1) (jF h2) (jT h3)) (V:=.tup [AV.nil,.i6 (0:Int)]) ?_
       show Ref (AV.tup [AV.nil,(AV.int .i64 (0:Int))]) (.tup [.list 9 ((rootsS a b c).map (unSd (5*A+4*B+2*C+300))),.i6 (if a=0/\b=0/\c=0 then 10 else 0)]);rw[if_neg (fun h=>q2 _ h3 h.2.2),show rootsS a b c= [] by unfold rootsS;rw[if_pos (q1 _ h1),if_pos (q1 _ h2)]];exact Ref.tup2 Ref.nilL rr rfl rfl rfl rfl
   · refine gN KD213_ok [6,7] [(11,ff),(15,tt)] (.a4 (jF h1) (jT h2) (om (C+B+200<=LIM)) (show b≠0 by grind)) (t:=[.code .ret,.inBlock 0,.code (nav [1,1] (bodyOf Tryz.f213))]) (σ:=slots 71 [(6,.own 7 9 0 1),(7,.i6 (0:Int))]) (h:=[some ⟨56,3,false,[[.q a A]],none⟩,some ⟨56,3,false,[[.q b B]],none⟩,some ⟨56,3,false,[[.q c C]],none⟩,none,none,none,none,some ⟨106,9,false,[[.q (-(c/b)) (C+B+2),.q 0 0,.q 0 0]],none⟩]) ?_
     refine Good.freezeD (b:=⟨106,9,false,[[(.q (-(c/b)) (C+B+2)),(.q 0 0),(.q 0 0)]],none⟩) 7 (by rfl) (by rfl) (.oe (.a1 (dc (0+1<=1)))) .on ?_;refine gE [(AV.list 9 [[(AV.q (-(c/b)) (C+B+2)),(AV.q 0 0),(AV.q 0 0)]]),(AV.int .i64 (0:Int))] ?_;show Ref (AV.tup [(AV.list 9 [[(AV.q (-(c/b)) (C+B+2)),(AV.q 0 0),(AV.q 0 0)]]),(AV.int .i64 (0:Int))]) (.tup [.list 9 ((rootsS a b c).map (unSd (5*A+4*B+2*C+300))),.i6 (if a=0/\b=0/\c=0 then 10 else 0)]);rw[if_neg (fun h=>q2 _ h2 h.2.1),show rootsS a b c= [⟨-(c/b),0,0⟩] by unfold rootsS;rw[if_pos (q1 _ h1),if_neg (q2 _ h2)]];exact Ref.tup2 (Ref.list1 (RefC.cons qe (RefC.cons qe qe))) rr rfl rfl rfl rfl
 · have v0:A+A+200<=LIM:=by omega
   have v1:(B+B+2)+((64+A+2)+C+2)+200<=LIM:=by omega
   have v3:(a+a)≠0:=by grind
   have v4:(-9223372036854775808:Int)<=4:=by decide
   have v5:(-9223372036854775808:Int)<=1:=by decide
   have v6:4<=(9223372036854775807:Int):=by decide
   have v7:1<=(9223372036854775807:Int):=by decide
   have v8:(64+A+2)+C+200<=LIM:=by omega
   have v9:64+(A+A+2)+200<=LIM:=by omega
   have v10:B+(A+A+2)+200<=LIM:=by omega
   have v11:64+A+200<=LIM:=by omega
   have v12:B+B+200<=LIM:=by omega
   by_cases h2:(Int.sign ((b*b)-(((4:Rat)*a)*c)).num)=(-1:Int)
   · refine rF KD213_ok [(11,tt),(52,tt)] (.c6 (jT h1) v12 v4 v6 v11 v8 (.c6 v1 v0 v10 v3 v5 v7 (.a4 v0 v9 v3 (iT h2)))) (V:=.tup [AV.nil,.i6 (0:Int)]) ?_
     show Ref (AV.tup [AV.nil,(AV.int .i64 (0:Int))]) (.tup [.list 9 ((rootsS a b c).map (unSd (5*A+4*B+2*C+300))),.i6 (if a=0/\b=0/\c=0 then 10 else 0)]);rw[if_neg (fun h=>q2 _ h1 h.1),show rootsS a b c= [] by unfold rootsS;rw[if_neg (q2 _ h1),if_pos (q3 _ h2)]];exact Ref.tup2 Ref.nilL rr rfl rfl rfl rfl
   · by_cases h3:(Int.sign ((b*b)-(((4:Rat)*a)*c)).num)=(0:Int)
     · refine gN KD213_ok [6,7] [(11,tt),(52,ff),(54,tt)] (.c6 (jT h1) v12 v4 v6 v11 v8 (.c6 v1 v0 v10 v3 v5 v7 (.a5 v0 v9 v3 (iF h2) (iT h3)))) (t:=[.code .ret,.inBlock 1,.code (nav [1,1,1,1,1] (bodyOf Tryz.f213))]) (σ:=slots 71 [(6,.own 20 9 0 1),(7,.i6 (0:Int))]) (h:=[some ⟨56,3,false,[[.q a A]],none⟩,some ⟨56,3,false,[[.q b B]],none⟩,some ⟨56,3,false,[[.q c C]],none⟩,none,none,none,none,none,none,some ⟨56,3,false,[[.q ((b*b)-(((4:Rat)*a)*c)) ((B+B+2)+((64+A+2)+C+2)+2)]],none⟩,none,none,none,none,none,none,none,some ⟨56,3,false,[[.q (-(b/(a+a))) (B+(A+A+2)+2)]],none⟩,some (d213_1 a A),none,some ⟨106,9,false,[[.q (-(b/(a+a))) (B+(A+A+2)+2),.q 0 0,.q 0 0]],none⟩]) ?_
       refine Good.freezeD (b:=⟨106,9,false,[[(.q (-(b/(a+a))) (B+(A+A+2)+2)),(.q 0 0),(.q 0 0)]],none⟩) 20 (by rfl) (by rfl) (.oe (.a1 (dc (0+1<=1)))) .on ?_;refine gE [(AV.list 9 [[(AV.q (-(b/(a+a))) (B+(A+A+2)+2)),(AV.q 0 0),(AV.q 0 0)]]),(AV.int .i64 (0:Int))] ?_;show Ref (AV.tup [(AV.list 9 [[(AV.q (-(b/(a+a))) (B+(A+A+2)+2)),(AV.q 0 0),(AV.q 0 0)]]),(AV.int .i64 (0:Int))]) (.tup [.list 9 ((rootsS a b c).map (unSd (5*A+4*B+2*C+300))),.i6 (if a=0/\b=0/\c=0 then 10 else 0)]);rw[if_neg (fun h=>q2 _ h1 h.1),show rootsS a b c= [⟨-(b/(a+a)),0,0⟩] by unfold rootsS;rw[if_neg (q2 _ h1),if_neg (q4 _ h2),if_pos (q1 _ h3)]];exact Ref.tup2 (Ref.list1 (RefC.cons qe (RefC.cons qe qe))) rr rfl rfl rfl rfl
     · have v2:(B+(A+A+2)+2)+(64+(A+A+2)+2)+3*((B+B+2)+((64+A+2)+C+2)+2)+600<=LIM:=by omega
       refine gN KD213_ok [6,7] [(11,tt),(52,ff),(54,ff)] (.c6 (jT h1) v12 v4 v6 v11 v8 (.c6 v1 v0 v10 v3 v5 v7 (.c6 v0 v9 v3 (iF h2) (iF h3) v2 (.a1 v2)))) (t:=[.code .ret]) (σ:=slots 71 [(6,.own 23 9 0 2),(7,.i6 (0:Int))]) (h:=[some ⟨56,3,false,[[.q a A]],none⟩,some ⟨56,3,false,[[.q b B]],none⟩,some ⟨56,3,false,[[.q c C]],none⟩,none,none,none,none,none,none,some ⟨56,3,false,[[.q ((b*b)-(((4:Rat)*a)*c)) ((B+B+2)+((64+A+2)+C+2)+2)]],none⟩,none,none,none,none,none,none,none,some ⟨56,3,false,[[.q (-(b/(a+a))) (B+(A+A+2)+2)]],none⟩,some (d213_1 a A),none,none,none,none,some ⟨106,9,false,[[.q ((nrm ⟨(-(b/(a+a))),(-(if ((1:Rat)/(a+a))<0 then-((1:Rat)/(a+a)) else ((1:Rat)/(a+a)))),((b*b)-(((4:Rat)*a)*c))⟩).a) ((B+(A+A+2)+2)+(64+(A+A+2)+2)+((B+B+2)+((64+A+2)+C+2)+2)+5),.q ((nrm ⟨(-(b/(a+a))),(-(if ((1:Rat)/(a+a))<0 then-((1:Rat)/(a+a)) else ((1:Rat)/(a+a)))),((b*b)-(((4:Rat)*a)*c))⟩).b) ((64+(A+A+2)+2)+((B+B+2)+((64+A+2)+C+2)+2)+3),.q ((nrm ⟨(-(b/(a+a))),(-(if ((1:Rat)/(a+a))<0 then-((1:Rat)/(a+a)) else ((1:Rat)/(a+a)))),((b*b)-(((4:Rat)*a)*c))⟩).d) (2*((B+B+2)+((64+A+2)+C+2)+2)+3)],[.q ((nrm ⟨(-(b/(a+a))),(if ((1:Rat)/(a+a))<0 then-((1:Rat)/(a+a)) else ((1:Rat)/(a+a))),((b*b)-(((4:Rat)*a)*c))⟩).a) ((B+(A+A+2)+2)+(64+(A+A+2)+2)+((B+B+2)+((64+A+2)+C+2)+2)+5),.q ((nrm ⟨(-(b/(a+a))),(if ((1:Rat)/(a+a))<0 then-((1:Rat)/(a+a)) else ((1:Rat)/(a+a))),((b*b)-(((4:Rat)*a)*c))⟩).b) ((64+(A+A+2)+2)+((B+B+2)+((64+A+2)+C+2)+2)+3),.q ((nrm ⟨(-(b/(a+a))),(if ((1:Rat)/(a+a))<0 then-((1:Rat)/(a+a)) else ((1:Rat)/(a+a))),((b*b)-(((4:Rat)*a)*c))⟩).d) (2*((B+B+2)+((64+A+2)+C+2)+2)+3)]],none⟩]) ?_
       refine Good.freezeD (b:=⟨106,9,false,[[(.q ((nrm ⟨(-(b/(a+a))),(-(if ((1:Rat)/(a+a))<0 then-((1:Rat)/(a+a)) else ((1:Rat)/(a+a)))),((b*b)-(((4:Rat)*a)*c))⟩).a) ((B+(A+A+2)+2)+(64+(A+A+2)+2)+((B+B+2)+((64+A+2)+C+2)+2)+5)),(.q ((nrm ⟨(-(b/(a+a))),(-(if ((1:Rat)/(a+a))<0 then-((1:Rat)/(a+a)) else ((1:Rat)/(a+a)))),((b*b)-(((4:Rat)*a)*c))⟩).b) ((64+(A+A+2)+2)+((B+B+2)+((64+A+2)+C+2)+2)+3)),(.q ((nrm ⟨(-(b/(a+a))),(-(if ((1:Rat)/(a+a))<0 then-((1:Rat)/(a+a)) else ((1:Rat)/(a+a)))),((b*b)-(((4:Rat)*a)*c))⟩).d) (2*((B+B+2)+((64+A+2)+C+2)+2)+3))],[(.q ((nrm ⟨(-(b/(a+a))),(if ((1:Rat)/(a+a))<0 then-((1:Rat)/(a+a)) else ((1:Rat)/(a+a))),((b*b)-(((4:Rat)*a)*c))⟩).a) ((B+(A+A+2)+2)+(64+(A+A+2)+2)+((B+B+2)+((64+A+2)+C+2)+2)+5)),(.q ((nrm ⟨(-(b/(a+a))),(if ((1:Rat)/(a+a))<0 then-((1:Rat)/(a+a)) else ((1:Rat)/(a+a))),((b*b)-(((4:Rat)*a)*c))⟩).b) ((64+(A+A+2)+2)+((B+B+2)+((64+A+2)+C+2)+2)+3)),(.q ((nrm ⟨(-(b/(a+a))),(if ((1:Rat)/(a+a))<0 then-((1:Rat)/(a+a)) else ((1:Rat)/(a+a))),((b*b)-(((4:Rat)*a)*c))⟩).d) (2*((B+B+2)+((64+A+2)+C+2)+2)+3))]],none⟩) 23 (by rfl) (by rfl) (.oe (.a1 (dc (0+2<=2)))) .on ?_
       refine gE [(AV.list 9 [[(AV.q ((nrm ⟨(-(b/(a+a))),(-(if ((1:Rat)/(a+a))<0 then-((1:Rat)/(a+a)) else ((1:Rat)/(a+a)))),((b*b)-(((4:Rat)*a)*c))⟩).a) ((B+(A+A+2)+2)+(64+(A+A+2)+2)+((B+B+2)+((64+A+2)+C+2)+2)+5)),(AV.q ((nrm ⟨(-(b/(a+a))),(-(if ((1:Rat)/(a+a))<0 then-((1:Rat)/(a+a)) else ((1:Rat)/(a+a)))),((b*b)-(((4:Rat)*a)*c))⟩).b) ((64+(A+A+2)+2)+((B+B+2)+((64+A+2)+C+2)+2)+3)),(AV.q ((nrm ⟨(-(b/(a+a))),(-(if ((1:Rat)/(a+a))<0 then-((1:Rat)/(a+a)) else ((1:Rat)/(a+a)))),((b*b)-(((4:Rat)*a)*c))⟩).d) (2*((B+B+2)+((64+A+2)+C+2)+2)+3))],[(AV.q ((nrm ⟨(-(b/(a+a))),(if ((1:Rat)/(a+a))<0 then-((1:Rat)/(a+a)) else ((1:Rat)/(a+a))),((b*b)-(((4:Rat)*a)*c))⟩).a) ((B+(A+A+2)+2)+(64+(A+A+2)+2)+((B+B+2)+((64+A+2)+C+2)+2)+5)),(AV.q ((nrm ⟨(-(b/(a+a))),(if ((1:Rat)/(a+a))<0 then-((1:Rat)/(a+a)) else ((1:Rat)/(a+a))),((b*b)-(((4:Rat)*a)*c))⟩).b) ((64+(A+A+2)+2)+((B+B+2)+((64+A+2)+C+2)+2)+3)),(AV.q ((nrm ⟨(-(b/(a+a))),(if ((1:Rat)/(a+a))<0 then-((1:Rat)/(a+a)) else ((1:Rat)/(a+a))),((b*b)-(((4:Rat)*a)*c))⟩).d) (2*((B+B+2)+((64+A+2)+C+2)+2)+3))]]),(AV.int .i64 (0:Int))] ?_;show Ref (AV.tup [(AV.list 9 [[(AV.q ((nrm ⟨(-(b/(a+a))),(-(if ((1:Rat)/(a+a))<0 then-((1:Rat)/(a+a)) else ((1:Rat)/(a+a)))),((b*b)-(((4:Rat)*a)*c))⟩).a) ((B+(A+A+2)+2)+(64+(A+A+2)+2)+((B+B+2)+((64+A+2)+C+2)+2)+5)),(AV.q ((nrm ⟨(-(b/(a+a))),(-(if ((1:Rat)/(a+a))<0 then-((1:Rat)/(a+a)) else ((1:Rat)/(a+a)))),((b*b)-(((4:Rat)*a)*c))⟩).b) ((64+(A+A+2)+2)+((B+B+2)+((64+A+2)+C+2)+2)+3)),(AV.q ((nrm ⟨(-(b/(a+a))),(-(if ((1:Rat)/(a+a))<0 then-((1:Rat)/(a+a)) else ((1:Rat)/(a+a)))),((b*b)-(((4:Rat)*a)*c))⟩).d) (2*((B+B+2)+((64+A+2)+C+2)+2)+3))],[(AV.q ((nrm ⟨(-(b/(a+a))),(if ((1:Rat)/(a+a))<0 then-((1:Rat)/(a+a)) else ((1:Rat)/(a+a))),((b*b)-(((4:Rat)*a)*c))⟩).a) ((B+(A+A+2)+2)+(64+(A+A+2)+2)+((B+B+2)+((64+A+2)+C+2)+2)+5)),(AV.q ((nrm ⟨(-(b/(a+a))),(if ((1:Rat)/(a+a))<0 then-((1:Rat)/(a+a)) else ((1:Rat)/(a+a))),((b*b)-(((4:Rat)*a)*c))⟩).b) ((64+(A+A+2)+2)+((B+B+2)+((64+A+2)+C+2)+2)+3)),(AV.q ((nrm ⟨(-(b/(a+a))),(if ((1:Rat)/(a+a))<0 then-((1:Rat)/(a+a)) else ((1:Rat)/(a+a))),((b*b)-(((4:Rat)*a)*c))⟩).d) (2*((B+B+2)+((64+A+2)+C+2)+2)+3))]]),(AV.int .i64 (0:Int))]) (.tup [.list 9 ((rootsS a b c).map (unSd (5*A+4*B+2*C+300))),.i6 (if a=0/\b=0/\c=0 then 10 else 0)])
       rw[show(if a=0/\b=0/\c=0 then (10:Int) else 0)=0 from if_neg (fun h=>q2 _ h1 h.1),show rootsS a b c= [nrm ⟨-(b/(a+a)),-(if 1/(a+a)<0 then-(1/(a+a)) else 1/(a+a)),b*b-4*a*c⟩,nrm ⟨-(b/(a+a)),if 1/(a+a)<0 then-(1/(a+a)) else 1/(a+a),b*b-4*a*c⟩] by unfold rootsS;rw[if_neg (q2 _ h1),if_neg (q4 _ h2),if_neg (q2 _ h3)]];exact Ref.tup2 (Ref.list2 (RefC.cons qe (RefC.cons qe qe)) (RefC.cons qe (RefC.cons qe qe))) rr rfl rfl rfl rfl
def sgnS (a b d:Rat):Int:=if 0<=Int.sign a.num*(Int.sign b.num*Int.sign d.num) then (if Int.sign a.num≠0 then Int.sign a.num else Int.sign b.num*Int.sign d.num) else Int.sign a.num*cmpQ (a*a) (b*b*d)
theorem sign_b (n:Int): -1<=Int.sign n/\Int.sign n<=1:=by
 rcases Int.lt_trichotomy n 0 with h | h | h
 · rw[Int.sign_eq_neg_one_of_neg h];omega
 · rw[h];decide
 · rw[Int.sign_eq_one_of_pos h];omega
theorem mul_b {x y:Int} (hx: -1<=x/\x<=1) (hy: -1<=y/\y<=1): -1<=x*y/\x*y<=1:=by
 have:x= -1\/x=0\/x=1:=by omega
 rcases this with rfl | rfl | rfl <;> omega
theorem cmpQ_b (x y:Rat): -1<=cmpQ x y/\cmpQ x y<=1:=by unfold cmpQ;split <;> (try split) <;> omega
theorem sgnS_b (a b d:Rat): -1<=sgnS a b d/\sgnS a b d<=1:=by
 unfold sgnS;have h1:=sign_b a.num;have h2:=mul_b (sign_b b.num) (sign_b d.num)
 split
 · split
   · exact h1
   · exact h2
 · exact mul_b h1 (cmpQ_b _ _)
def k271:KF
 | [.agg [.q a A,.q b B,.q d D]]=>some (.int .i64 (sgnS a b d),[2*A+2*B+D+600<=LIM])
 | _=>none
theorem a271:Ctr 271 k271:=by
 refine ctr Tryz.f271 fun _ _ _ S w0 h ho=> ?_
 unfold k271 at h;split at h <;> cases h;rename_i a A b B d D;have o1:=ho.one;have L:=limE;have K:=((kn.cons a104).cons a60).cons a29;have s1:=sign_b a.num;have s2:=mul_b (sign_b b.num) (sign_b d.num);have s3:=mul_b s1 s2;have s4:=mul_b s1 (cmpQ_b (a*a) (b*b*d))
 by_cases h1:(0:Int)<=((Int.sign a.num)*((Int.sign b.num)*(Int.sign d.num)))
 · by_cases h2:(Int.sign a.num)=(0:Int)
   · exact rF K [(14,.i6 ((Int.sign b.num)*(Int.sign d.num))),(17,.i6 ((Int.sign a.num)*((Int.sign b.num)*(Int.sign d.num)))),(18,tt),(20,ff)] (.a4 (wI ((Int.sign b.num)*(Int.sign d.num)) ((Int.sign b.num)*(Int.sign d.num))) (wI ((Int.sign a.num)*((Int.sign b.num)*(Int.sign d.num))) ((Int.sign a.num)*((Int.sign b.num)*(Int.sign d.num)))) (iT h1) (jF h2)) (V:=.i6 ((Int.sign b.num)*(Int.sign d.num))) (Ref.int (by unfold sgnS;rw[if_pos h1,if_neg (fun h=>h h2)]))
   · exact rF K [(14,.i6 ((Int.sign b.num)*(Int.sign d.num))),(17,.i6 ((Int.sign a.num)*((Int.sign b.num)*(Int.sign d.num)))),(18,tt),(20,tt)] (.a4 (wI ((Int.sign b.num)*(Int.sign d.num)) ((Int.sign b.num)*(Int.sign d.num))) (wI ((Int.sign a.num)*((Int.sign b.num)*(Int.sign d.num))) ((Int.sign a.num)*((Int.sign b.num)*(Int.sign d.num)))) (iT h1) (jT h2)) (V:=.i6 (Int.sign a.num)) (Ref.int (by unfold sgnS;rw[if_pos h1,if_pos h2]))
 · exact rF K [(14,.i6 ((Int.sign b.num)*(Int.sign d.num))),(17,.i6 ((Int.sign a.num)*((Int.sign b.num)*(Int.sign d.num)))),(18,ff),(38,.i6 ((Int.sign a.num)*(cmpQ (a*a) ((b*b)*d))))] (.c6 (wI ((Int.sign b.num)*(Int.sign d.num)) ((Int.sign b.num)*(Int.sign d.num))) (wI ((Int.sign a.num)*((Int.sign b.num)*(Int.sign d.num))) ((Int.sign a.num)*((Int.sign b.num)*(Int.sign d.num)))) (iF h1) (om (A+A+200<=LIM)) (om (B+B+200<=LIM)) (om ((B+B+2)+D+200<=LIM)) (.a2 (om ((A+A+2)+((B+B+2)+D+2)+200<=LIM)) (wI ((Int.sign a.num)*(cmpQ (a*a) ((b*b)*d))) ((Int.sign a.num)*(cmpQ (a*a) ((b*b)*d)))))) (V:=.i6 ((Int.sign a.num)*(cmpQ (a*a) ((b*b)*d)))) (Ref.int (by unfold sgnS;rw[if_neg h1]))
def k270:KF
 | [.agg [.q a A,.q b B,.q d D]]=>some (.tup [.int .i64 (if Int.sign d.num<0 then 0 else sgnS a b d),.int .i64 (if Int.sign d.num<0 then 8 else 0)],[2*A+2*B+D+600<=LIM])
 | _=>none
theorem a270:Ctr 270 k270:=by
 refine ctr Tryz.f270 fun _ _ _ S w0 h ho=> ?_
 unfold k270 at h;split at h <;> cases h;rename_i a A b B d D;have o1:=ho.one;have K:=(kn.cons a271).cons a60
 by_cases h1:(Int.sign d.num)<(0:Int)
 · refine rF K [(7,tt)] (.a1 (iT h1)) (V:=.tup [.i6 (0:Int),.i6 (8:Int)]) ?_
   simp only[if_pos h1];exact rr
 · refine rF K [(7,ff)] (.a2 (iF h1) o1) (V:=.tup [.i6 (sgnS a b d),.i6 (0:Int)]) ?_
   simp only[if_neg h1];exact rr
def k215:KF
 | [.agg [.q d D],.agg [.q a A,.q b B]]=>some (.bool (decide ((if Int.sign d.num<0 then 0 else sgnS a b d)=0)),[2*A+2*B+D+600<=LIM])
 | _=>none
theorem a215:Ctr 215 k215:=by
 refine ctr Tryz.f215 fun _ _ _ S w0 h ho=> ?_
 unfold k215 at h;split at h <;> cases h;rename_i d D a A b B;have o1:=ho.one;have K:=kn.cons a270;exact rR K [] (.a1 o1)
def cmpS (a b d c e f:Rat):Int:=
 if sgnS (a-c) b d<Int.sign e.num*Int.sign f.num then-1 else if Int.sign e.num*Int.sign f.num<sgnS (a-c) b d then 1 else if sgnS (a-c) b d=0 then 0 else
   sgnS (a-c) b d*sgnS ((a-c)*(a-c)+b*b*d-e*e*f) ((a-c)*b+(a-c)*b) d
def k220:KF
 | [.agg [.q a A,.q b B,.q d D],.agg [.q c C,.q e E,.q f W]]=>some (.int .i64 (cmpS a b d c e f),[8*A+8*C+8*B+4*D+4*E+2*W+2000<=LIM])
 | _=>none
theorem a220:Ctr 220 k220:=by
 refine ctr Tryz.f220 fun _ _ _ S w0 h ho=> ?_
 unfold k220 at h;split at h <;> cases h;rename_i a A b B d D c C e E f W;have o1:=ho.one;have L:=limE;have K:=((((kn.cons a271).cons a60).cons a29).cons a28).cons a26;have s1:=sgnS_b (a-c) b d;have s2:=mul_b (sign_b e.num) (sign_b f.num);have s3:=mul_b s1 (sgnS_b ((a-c)*(a-c)+b*b*d-e*e*f) ((a-c)*b+(a-c)*b) d);have v0:2*(A+C+2)+2*B+D+600<=LIM:=by omega
 have v1:A+C+200<=LIM:=by omega
 by_cases h1:(sgnS (a-c) b d)<((Int.sign e.num)*(Int.sign f.num))
 · exact rF K [(23,.i6 ((Int.sign e.num)*(Int.sign f.num))),(24,tt)] (.a4 v1 v0 (wI ((Int.sign e.num)*(Int.sign f.num)) ((Int.sign e.num)*(Int.sign f.num))) (iT h1)) (V:=.i6 (-1:Int)) (Ref.int (by unfold cmpS;rw[if_pos h1]))
 · by_cases h2:((Int.sign e.num)*(Int.sign f.num))<(sgnS (a-c) b d)
   · exact rF K [(23,.i6 ((Int.sign e.num)*(Int.sign f.num))),(24,ff),(28,tt)] (.a5 v1 v0 (wI ((Int.sign e.num)*(Int.sign f.num)) ((Int.sign e.num)*(Int.sign f.num))) (iF h1) (iT h2)) (V:=.i6 (1:Int)) (Ref.int (by unfold cmpS;rw[if_neg h1,if_pos h2]))
   · by_cases h3:(sgnS (a-c) b d)=(0:Int)
     · exact rF K [(23,.i6 ((Int.sign e.num)*(Int.sign f.num))),(24,ff),(28,ff),(32,tt)] (.a6 v1 v0 (wI ((Int.sign e.num)*(Int.sign f.num)) ((Int.sign e.num)*(Int.sign f.num))) (iF h1) (iF h2) (iT h3)) (V:=.i6 (0:Int)) (Ref.int (by unfold cmpS;rw[if_neg h1,if_neg h2,if_pos h3]))
     · exact rF K [(23,.i6 ((Int.sign e.num)*(Int.sign f.num))),(24,ff),(28,ff),(32,ff),(72,.i6 ((sgnS (a-c) b d)*(sgnS ((((a-c)*(a-c))+((b*b)*d))-((e*e)*f)) (((a-c)*b)+((a-c)*b)) d)))] (.c6 v1 v0 (wI ((Int.sign e.num)*(Int.sign f.num)) ((Int.sign e.num)*(Int.sign f.num))) (iF h1) (iF h2) (iF h3) (.c6 (om ((A+C+2)+B+200<=LIM)) (om ((A+C+2)+(A+C+2)+200<=LIM)) (om (B+B+200<=LIM)) (om ((B+B+2)+D+200<=LIM)) (om (((A+C+2)+(A+C+2)+2)+((B+B+2)+D+2)+200<=LIM)) (om (E+E+200<=LIM)) (.a5 (om ((E+E+2)+W+200<=LIM)) (om ((((A+C+2)+(A+C+2)+2)+((B+B+2)+D+2)+2)+((E+E+2)+W+2)+200<=LIM)) (om (((A+C+2)+B+2)+((A+C+2)+B+2)+200<=LIM)) (om (2*((((A+C+2)+(A+C+2)+2)+((B+B+2)+D+2)+2)+((E+E+2)+W+2)+2)+2*(((A+C+2)+B+2)+((A+C+2)+B+2)+2)+D+600<=LIM)) (wI ((sgnS (a-c) b d)*(sgnS ((((a-c)*(a-c))+((b*b)*d))-((e*e)*f)) (((a-c)*b)+((a-c)*b)) d)) ((sgnS (a-c) b d)*(sgnS ((((a-c)*(a-c))+((b*b)*d))-((e*e)*f)) (((a-c)*b)+((a-c)*b)) d)))))) (V:=.i6 ((sgnS (a-c) b d)*(sgnS ((((a-c)*(a-c))+((b*b)*d))-((e*e)*f)) (((a-c)*b)+((a-c)*b)) d))) (Ref.int (by unfold cmpS;rw[if_neg h1,if_neg h2,if_neg h3]))
def cmpX (d f:Rat):Int:=if Int.sign d.num<0\/Int.sign f.num<0 then 8 else 0
def cmpC (a b d c e f:Rat):Int:=if Int.sign d.num<0\/Int.sign f.num<0 then 0 else cmpS a b d c e f
def k132:KF
 | [.agg [.q a A,.q b B,.q d D],.agg [.q c C,.q e E,.q f W]]=>some (.tup [.int .i64 (cmpC a b d c e f),.int .i64 (cmpX d f)],[8*A+8*C+8*B+4*D+4*E+2*W+2000<=LIM])
 | _=>none
theorem a132:Ctr 132 k132:=by
 refine ctr Tryz.f132 fun _ _ _ S w0 h ho=> ?_
 unfold k132 at h;split at h <;> cases h;rename_i a A b B d D c C e E f W;have o1:=ho.one;have K:=(kn.cons a220).cons a60
 by_cases h1:(Int.sign d.num)<(0:Int)
 · refine rF K [(10,tt)] (.a1 (iT h1)) (V:=.tup [.i6 (0:Int),.i6 (8:Int)]) ?_
   simp only[cmpC,cmpX,if_pos (Or.inl h1)];exact rr
 · by_cases h2:(Int.sign f.num)<(0:Int)
   · refine rF K [(10,ff),(15,tt)] (.a2 (iF h1) (iT h2)) (V:=.tup [.i6 (0:Int),.i6 (8:Int)]) ?_
     simp only[cmpC,cmpX,if_pos (Or.inr h2)];exact rr
   · refine rF K [(10,ff),(15,ff)] (.a3 (iF h1) (iF h2) o1) (V:=.tup [.i6 (cmpS a b d c e f),.i6 (0:Int)]) ?_
     simp only[cmpC,cmpX,if_neg (not_or.2 ⟨h1,h2⟩)];exact rr
def withinB (lo hi:Rat) (t:Sd):Bool:=decide (0<=cmpC t.a t.b t.d lo 0 0/\cmpC t.a t.b t.d hi 0 0<=0)
def k218:KF
 | [.agg [.str nm,.int .i64 pr,.q bx B1,.q bz B2,.q ma B3,.q ie B4,.q cx B5,.q cz B6,.q lo B7,.q hi B8,.list 6 SH],.agg [.q a A,.q b B,.q d D]]=>some (.bool (withinB lo hi ⟨a,b,d⟩),[8*A+8*B7+8*B8+8*B+4*D+2000<=LIM])
 | _=>none
theorem a218:Ctr 218 k218:=by
 refine ctr Tryz.f218 fun _ _ _ S w0 h ho=> ?_
 unfold k218 at h;split at h <;> cases h;rename_i nm pr bx B1 bz B2 ma B3 ie B4 cx B5 cz B6 lo B7 hi B8 SH a A b B d D;have o1:=ho.one;have L:=limE;have K:=kn.cons a132;have v0:8*A+8*B7+8*B+4*D+4*0+2*0+2000<=LIM:=by omega
 have v1:8*A+8*B8+8*B+4*D+4*0+2*0+2000<=LIM:=by omega
 by_cases h1:(0:Int)<=(cmpC a b d lo 0 0)
 · exact rF K [(27,tt)] (.a3 v0 v1 (iT h1)) (V:=.bool (decide ((cmpC a b d hi 0 0)<=(0:Int)))) (Ref.bool (by unfold withinB;simp[h1]))
 · exact rF K [(27,ff)] (.a3 v0 v1 (iF h1)) (V:=.bool false) (Ref.bool (by unfold withinB;simp[h1]))
def KT122_ok:=((((((((((((((((((kn.cons a218).cons a217).cons a216).cons a215).cons a214).cons a213).cons a212).cons a211).cons a163).cons a131).cons a130).cons a128).cons a126).cons a125).cons a124).cons a60).cons a29).cons a28).cons a26
end Go.Av
