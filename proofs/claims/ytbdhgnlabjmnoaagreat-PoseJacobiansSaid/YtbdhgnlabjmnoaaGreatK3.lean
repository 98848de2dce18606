/- PoseJacobians: a part of its proof. No condition. -/
import Derived.Test.YtbdhgnlabjmnoaaGreatK2
import Derived.RangeFuncIn
import Derived.RangeFuncLeaves
import Derived.RangeFuncRecord
import Derived.OrdersIn
set_option linter.all false
set_option maxRecDepth 100000
set_option autoImplicit true
set_option relaxedAutoImplicit true
namespace Go.Av
open Go.RowKit
section
theorem xA (hf:P.funcs[f]? =some fn) (hb:fn.body=some c) (hS:∀ k,S k->k<w.heap.size) (hargs:RelVs ρ0 S w No args vals)
   (h:Good P f S No w Post [.code c] (kC args fn.ntmps)):Calls P f vals.toArray w fun e w'=>∃ v,e= .returned v/\Post v w':=by
 intro cs
 let b:Frame:={ (default:Frame) with fn:=f,kind:=.normal }
 have hlen:∀ (us:List AV) (vs:List Value),RelVs ρ0 S w No us vs->vs.length=us.length:=by
   intro us
   induction us with
   | nil=>intro vs h;cases vs <;> first | rfl | exact h.elim
   | cons c us ih=>
     intro vs h;cases vs with
     | nil=>exact h.elim
     | cons v vs=>simp[ih vs h.2]
 have hget:∀ (us:List AV) (vs:List Value),RelVs ρ0 S w No us vs->∀ (i:Nat) (v:Value),vs[i]? =some v->RelV ρ0 S w No (us.getD i .any) v:=by
   intro us
   induction us with
   | nil=>intro vs h i v hv;cases vs <;> first | exact h.elim | simp at hv
   | cons c us ih=>
     intro vs h i v hv;cases vs with
     | nil=>exact h.elim
     | cons u vs=>
       cases i with
       | zero=>simp at hv;subst hv;exact RelV.of0 h.1
       | succ i=>exact ih vs h.2 i v (by simpa using hv)
 have hSof:Sof S ρ0 []=S:=by
   funext k;apply propext;unfold Sof;simp
 have R:Rel S No w ρ0 No (kC args fn.ntmps) { tmps:=vals.toArray++Array.replicate (fn.ntmps-vals.toArray.size) undef,defers:=[] } w:={
   defers:=rfl
   len:=by simp[kC,hlen _ _ hargs]
   tmps:=by
     intro t v hv;simp only[kC,hSof];rcases Nat.lt_or_ge t vals.length with h | h
     · rw[Array.getElem?_append_left (by simpa using h)] at hv
       have h2:t<args.length:=by rw[<- hlen _ _ hargs];exact h
       have:=hget _ _ hargs t v (by simpa using hv);simpa[List.getD_eq_getElem?_getD,List.getElem?_append_left h2] using this
     · have h2:args.length<=t:=by rw[<- hlen _ _ hargs];exact h
       have:(args++List.replicate (fn.ntmps-args.length) AV.any).getD t .any= .any:=by
         simp only[List.getD_eq_getElem?_getD,List.getElem?_append_right h2,List.getElem?_replicate]
         split <;> rfl
       rw[this];trivial
   heap:=fun l b h=>by simp[kC] at h
   inj:=fun l l' b b' h=>by simp[kC] at h
   lt:=hS
   dlt:=fun l h=>h.elim
   chg:=Chg.refl _ _
   mine:=fun l b h=>by simp[kC] at h }
 obtain⟨v,w',fr,hP,hsteps,hfn,hleave⟩:=h ρ0 No _ w R b cs rfl rfl
 have henter:Frame.enter P f vals.toArray .normal=b.at { tmps:=vals.toArray++Array.replicate (fn.ntmps-vals.toArray.size) undef,defers:=[] } [.code c]:=by
   simp[Frame.enter,Frame.at,hf,hb,b]
 exact⟨.returned v,w',fr,⟨v,rfl,hP⟩,by rw[henter];exact hsteps,hfn,hleave⟩
theorem Rel.called (R:Rel S0 C0 w0 ρ D ⟨σ,h⟩ a w) (hchg:Chg No w w') (hv:RelV ρ (Sof S0 ρ h) w' D V v):Rel S0 C0 w0 ρ D ⟨put σ dst V,h⟩ (a.put dst v) w':=by
 have hb:=hchg.below
 have hk:Keep ρ (Sof S0 ρ h) w D ρ (Sof S0 ρ h) w':=
   ⟨hchg.size,fun l hl=>⟨rfl,fun arr ty h=>⟨arr,ty,by rw[hb.block _ (bB h)];exact h,Nat.le_refl _⟩⟩,fun k hk hs=>⟨hs,hb.block k hk⟩⟩
 refine R.step hk (fun _ h=>h) hv ?_ R.inj R.dlt (R.chg.trans hchg (fun _ _ h=>h.elim)) R.mine;intro l b hlb;obtain⟨hDl,hB⟩:=R.heap l b hlb;obtain⟨arr,h1,h2⟩:=hB;exact⟨hDl,RelB.keep ⟨arr,h1,h2⟩ (fun _ h=>h) hk rfl (hb.block _ (bB h1))⟩
theorem QI (x:RelCs ρ0 S w No cs vs):RelCs ρ S w D cs vs:=x.keep _ (fun _ h=>h.elim) ⟨Nat.le_refl _,fun l h=>h.elim,fun k _ hs=>⟨hs,rfl⟩⟩
theorem Rel.apart (R:Rel S0 C0 w0 ρ D ⟨σ,h⟩ a w) (hk:k<w0.heap.size) (hs:¬ S0 k) (hc:¬ C0 k):¬ Sof S0 ρ h k/\w.heap[k]? =w0.heap[k]? :=by
 refine⟨?_,R.chg.block k hk hc⟩;rintro(h1 | ⟨l,b,hb,e⟩)
 · exact hs h1
 · rcases(R.mine l b hb).1 with h2 | h2
   · exact hc (e▸h2)
   · omega
theorem Memo.now (R:Rel S0 C0 w0 ρ D ⟨σ,h⟩ a w) (M:Memo F n (fun k=>S0 k\/C0 k) w0 r) (hr:¬ C0 r):Memo F n (Sof S0 ρ h) w r:=by
 have hlt:r<w0.heap.size:=by obtain⟨es,clk,h1,_⟩:=M;exact fJ h1
 exact M.keep R.chg.size (R.chg.block r hlt hr) fun k hk hs=>R.apart hk (fun h=>hs (.inl h)) (fun h=>hs (.inr h))
theorem Good.pick (n:Nat) (xs:List (Nat×AV)) (hn:σ.length=n) (he:xs.map (fun p=>σ.getD p.1 .any)=xs.map (·.2)) (hg:Good P f S0 C0 w0 Post todo ⟨slots n xs,h⟩):Good P f S0 C0 w0 Post todo ⟨σ,h⟩:=by
 refine Good.weak n xs hn ?_ hg;clear hg
 induction xs with
 | nil=>exact .nil
 | cons p xs ih=>
   simp only[List.map_cons,List.cons.injEq] at he;exact .cons (by rw[he.1];exact Ref.rfl') (ih he.2)
end
section
theorem Rel.stepS (R:Rel S0 C0 w0 ρ D st a w)
   (hk:Keep ρ (Sof S0 ρ st.h) w D ρ' (Sof S1 ρ' h') w') (hd:∀ l,D l->D' l)
   (hv:RelV ρ' (Sof S1 ρ' h') w' D' V v)
   (hh:∀ l b,h'[l]? =some (some b)->D' l/\RelB ρ' (Sof S1 ρ' h') w' D' l b)
   (hi:∀ l l' b b',h'[l]? =some (some b)->h'[l']? =some (some b')->ρ' l=ρ' l'->l=l')
   (hdl:∀ l,D' l->l<h'.length) (hlt:∀ k,S1 k->k<w'.heap.size) (hc:Chg C1 w1 w') (hm:∀ l b,h'[l]? =some (some b)->Cq S1 C1 w1 b (ρ' l)):
   Rel S1 C1 w1 ρ' D' { σ:=put st.σ dst V,h:=h' } (a.put dst v) w' where
 defers:=by cases dst <;> exact R.defers
 len:=by cases dst <;> simp[put,Act.put,R.len]
 tmps:=by
   intro t u hu;cases dst with
   | none=>exact(R.tmps t u hu).keep hd hk
   | some d=>
     simp only[put,Act.put] at hu ⊢;rw[fU]
     by_cases e:d=t
     · subst e
       have hlt:d<(a.tmps.setIfInBounds d v).size:=(Array.getElem?_eq_some_iff.1 hu).1;simp at hlt;rw[if_pos ⟨rfl,by rw[<- R.len];exact hlt⟩];simp[Array.getElem?_setIfInBounds,hlt] at hu;subst hu;exact hv
     · rw[if_neg (fun h=>e h.1)]
       simp[Array.getElem?_setIfInBounds,e] at hu;exact(R.tmps t u hu).keep hd hk
 heap:=hh
 inj:=hi
 lt:=hlt
 dlt:=hdl
 chg:=hc
 mine:=hm
theorem Rel.grow (R:Rel S0 C0 w0 ρ D ⟨σ,h⟩ a w) (hc:Chg X w w') (hX:∀ k,X k->S0 k) (h01:∀ k,S0 k->S1 k)
   (h1:∀ k,S1 k->S0 k\/w.heap.size<=k/\k<w'.heap.size) (hv:RelV ρ (Sof S1 ρ h) w' D V v):
   Rel S1 (qE ρ h) w' ρ D ⟨put σ dst V,h⟩ (a.put dst v) w':=by
 have hk:Keep ρ (Sof S0 ρ h) w D ρ (Sof S1 ρ h) w':=by
   refine⟨hc.size,fun l hl=>⟨rfl,hc.row _⟩,fun k hk hs=>⟨?_,hc.block k hk fun hx=>hs (.inl (hX k hx))⟩⟩;rintro(h2 | h2)
   · rcases h1 k h2 with h3 | h3
     · exact hs (.inl h3)
     · omega
   · exact hs (.inr h2)
 refine R.stepS hk (fun _ h=>h) hv ?_ R.inj R.dlt ?_ (Chg.refl _ _) ?_
 · intro l b hb
   obtain⟨h3,h4⟩:=R.heap l b hb;obtain⟨arr,h5,h6⟩:=h4;exact⟨h3,RelB.keep ⟨arr,h5,h6⟩ (fun _ h=>h) hk rfl (hc.block _ (fJ h5) fun hx=>(R.mine l b hb).2.1 (hX _ hx))⟩
 · intro k hk'
   rcases h1 k hk' with h3 | h3
   · exact Nat.lt_of_lt_of_le (R.lt k h3) hc.size
   · exact h3.2
 · intro l b hb
   refine⟨.inl ⟨l,b,hb,rfl⟩,fun h3=> ?_,(R.mine l b hb).2.2⟩;rcases h1 _ h3 with h4 | h4
   · exact(R.mine l b hb).2.1 h4
   · obtain⟨_,arr,h5,_⟩:=R.heap l b hb
     have:=fJ h5;omega
theorem Rel.shrink (R:Rel S0 C0 w0 ρ D st a w) (h:∀ k,S1 k->S0 k):Rel S1 C0 w0 ρ D st a w:=by
 have hk:Keep ρ (Sof S0 ρ st.h) w D ρ (Sof S1 ρ st.h) w:=⟨Nat.le_refl _,fun l hl=>⟨rfl,fun arr ty h=>⟨arr,ty,h,Nat.le_refl _⟩⟩,fun k hk hs=>⟨fun h1=>hs (h1.elim (fun h2=>.inl (h k h2)) .inr),rfl⟩⟩
 exact {
   defers:=R.defers
   len:=R.len
   tmps:=fun t v ht=>(R.tmps t v ht).keep (fun _ h=>h) hk
   heap:=fun l b hb=>⟨(R.heap l b hb).1,(R.heap l b hb).2.keep (fun _ h=>h) hk rfl rfl⟩
   inj:=R.inj
   lt:=fun k hk=>R.lt k (h k hk)
   dlt:=R.dlt
   chg:=R.chg
   mine:=fun l b hb=>⟨(R.mine l b hb).1,fun h1=>(R.mine l b hb).2.1 (h _ h1),(R.mine l b hb).2.2⟩ }
end
def iC (xs:List (Nat×AV)) (σ:List AV):List AV:=xs.foldl (fun σ p=>σ.set p.1 p.2) σ
theorem rP:∀ {xs:List (Nat×AV)} {σ:List AV} {t:Nat},(∀ p∈xs,p.1≠t)->(iC xs σ).getD t .any=σ.getD t .any
 | [],_,_,_=>rfl
 | p::xs,σ,t,h=>by
   show(iC xs (σ.set p.1 p.2)).getD t .any=_;rw[rP fun q hq=>h q (by simp[hq]),fU,if_neg fun e=>h p (by simp) e.1]
theorem uP:∀ {xs:List (Nat×AV)} {σ:List AV} {d:Nat} {V:AV},(∀ p∈xs,p.1≠d)->iC xs (σ.set d V)=(iC xs σ).set d V
 | [],_,_,_,_=>rfl
 | p::xs,σ,d,V,h=>by
   show iC xs ((σ.set d V).set p.1 p.2)=(iC xs (σ.set p.1 p.2)).set d V;rw[<- uP fun q hq=>h q (by simp[hq]),List.set_comm _ _ fun e=>h p (by simp) e.symm]
theorem DL (h:∀ p∈xs,dst≠some p.1):iC xs (put σ dst V)=put (iC xs σ) dst V:=by
 cases dst with
 | none=>rfl
 | some d=>exact uP fun p hp e=>h p hp (by rw[e])
def clear (ops:Array Oper) (o:Oper) (ks:List Nat):Bool:=
 o.op.operands.toList.all (fun | .tmp t=> !ks.contains t | _=>true)&&ks.all (fun k=> !(o.dst==some k))&&
   (match o.guard with
     | none=>true
     | some (j,_)=>match (ops[j]?).bind (·.dst) with
       | some d=> !ks.contains d
       | none=>true)
section
theorem EV {T:TT} {K:KT} {ops:Array Oper} {ks:List Nat} {xs:List (Nat×AV)} {i:Nat} {x:AOp} {σ:List AV} {h:List (Option ABlk)} {st1:St} {r:Rec} (hc:clear ops x.o ks=true) (hx:∀ p∈xs,p.1∈ks) (he:dD T K ops i x ⟨σ,h⟩=some (st1,r)):
   dD T K ops i x ⟨iC xs σ,h⟩=some (⟨iC xs st1.σ,st1.h⟩,r):=by
 unfold clear at hc;simp only[Bool.and_eq_true] at hc;obtain⟨⟨h1,h2⟩,h3⟩:=hc
 have hd:∀ p∈xs,x.o.dst≠some p.1:=fun p hp e=>by
   have:=List.all_eq_true.1 h2 p.1 (hx p hp);simp[e] at this
 have hw :lM ops (iC xs σ) x.o=lM ops σ x.o:=by
   unfold lM
   split at h3
   · rename_i hg;rw[hg]
   · rename_i j b hg
     rw[hg];cases hj:(ops[j]?).bind (·.dst) with
     | none=>simp only[hj]
     | some d=>
       simp only[hj] at h3 ⊢
       rw[rP fun p hp e=>by
         have:=hx p hp;rw[e] at this
         simp[this] at h3]
 have ha:kA (iC xs σ) x.o=kA σ x.o:=by
   unfold kA;refine List.map_congr_left fun q hq=> ?_
   have:=List.all_eq_true.1 h1 q hq;cases q with
   | tmp t=>
     simp only[bF]
     exact rP fun p hp e=>by
       have h4:=hx p hp;rw[e] at h4;simp[h4] at this
   | const v=>rfl
   | func f=>rfl
   | global g=>rfl
 unfold dD nG at he ⊢;simp only[hw,ha] at he ⊢
 split at he
 · split at he
   · injection he with he;simp only[Prod.mk.injEq] at he
     obtain⟨rfl,rfl⟩:=he;simp only[DL hd]
   · cases he
 · injection he with he;simp only[Prod.mk.injEq] at he
   obtain⟨rfl,rfl⟩:=he;simp only[DL hd]
 · cases he
theorem Kj {T:TT} {K:KT} {ops:Array Oper} {i:Nat} {o:Oper} {x:AOp} {st st1:St} {r:Rec} {v:Value} (h:dD T K ops i x st=some (st1,r)) (hx:x.o={ o with op:=.move (.const v) }):st1.h=st.h:=by
 unfold dD at h
 split at h
 · split at h
   · rename_i out ho
     injection h with h;simp only[Prod.mk.injEq] at h;rw[<- h.1];unfold nG kA at ho;rw[hx] at ho;simp only[Op.operands,List.map_cons,List.map_nil,eZ,val] at ho;injection ho with ho;rw[<- ho];rfl
   · cases h
 · injection h with h;simp only[Prod.mk.injEq] at h
   rw[<- h.1]
 · cases h
theorem DM (σ:List AV) (dst:Option Nat) (V:AV):(put σ dst V).length=σ.length:=by cases dst <;> simp[put]
theorem BS {T:TT} {K:KT} {ops:Array Oper}:∀ {xs:List (Nat×AOp)} {st st':St} {rs:List Rec},gQ T K ops xs st=some (st',rs)->st'.σ.length=st.σ.length
 | [],st,st',rs,h=>by simp only[gQ] at h;injection h with h;simp only[Prod.mk.injEq] at h;rw[h.1]
 | (i,x)::xs,st,st',rs,h=>by
   obtain⟨st1,r,rs1,h1,h2,rfl⟩:=eJ.1 h;obtain⟨V,hV⟩:=sV h1;rw[BS h2,hV,DM]
theorem Good.regionO {P:Program} {T:TT} {K:KT} {ops:Array Oper} {f:FuncId} {S0 C0:Nat->Prop} {w0:World} {Post:Value->World->Prop} (hm:P.follows .mixedOrders=true) (hT:kU P T) (hK:KOK P K) {id:Nat} {opsR:Array Oper} {draw:Bool} {ov:lJ} {st st':St} {rs:List Rec} {todo:List Item} {γ:Type} (Xs ks:List Nat) (ovl:γ->List (Nat×AV)) (I:Array Bool->γ->Base->Prop) (args:Nat->List (Nat×AV))
   (he:lV T K ops draw ov st=some (st',rs)) (hO:∀ r∈rs,r.i ∉ Xs->AllP r.ob) (hsh:eV opsR.toList ops.toList) (hne:∀ i,i ∉ Xs->opsR[i]? =ops[i]?)
   (hks:∀ L g β,I L g β->∀ p∈ovl g,p.1∈ks) (hcl:∀ i o,i ∉ Xs->ops[i]? =some o->clear ops o ks=true)
   (hps:∀ i∈Xs,∃ oX,opsR[i]? =some oX/\oX.guard=none/\ops[i]? =some { oX with op:=.move (.const undef) })
   (hI:∀ listed i g β,i ∉ Xs->I listed g β->I (listed.setIfInBounds i true) g β)
   (hargs:∀ i∈Xs,∀ p∈args i,st'.σ.getD p.1 .any=p.2/\∀ (j:Nat) (o:Oper),ops[j]? =some o->o.dst=some p.1->∀ oX,ops[i]? =some oX->∃ e∈oX.after.toList,e.on=j/\Region.binds .any e=true)
   (hX:∀ i∈Xs,∀ (Q:Exit->Act->World->Prop) listed g β ρ D σ h a w V oX,opsR[i]? =some oX->I listed g β->listed.size=ops.size->listed.getD i false=false->(∀ e∈oX.after.toList,Region.binds .any e=true->listed.getD e.on false=true)->(∀ p∈args i,σ.getD p.1 .any=p.2)->σ.length=st'.σ.length->
     Rel β.S β.C β.w ρ D ⟨iC (ovl g) σ,h⟩ a w->wpOp P opsR Q i (fun a' w'=>∃ g' β',I (listed.setIfInBounds i true) g' β'/\Rel β'.S β'.C β'.w ρ D ⟨iC (ovl g') (put σ oX.dst V),h⟩ a' w') a w)
   (g0:γ) (hB:I (Array.replicate ops.size false) g0 ⟨S0,C0,w0⟩) (h0:ovl g0= [])
   (hgood:∀ listed g β,(∀ i,i<ops.size->listed.getD i false=true)->I listed g β->Good P f β.S β.C β.w Post todo ⟨iC (ovl g) st'.σ,st'.h⟩):Good P f S0 C0 w0 Post (.code (.region id opsR draw)::todo) st:=by
 intro ρ D a w R b cs hb hk
 have key:(Code.region id opsR draw).wp P (fun e a' w'=>e=Exit.normal/\∃ listed g β ρ' D',(∀ i,i<ops.size->listed.getD i false=true)/\I listed g β/\Rel β.S β.C β.w ρ' D' ⟨iC (ovl g) st'.σ,st'.h⟩ a' w') a w:=by
   refine DJ (ρ:=ρ) hm (X:=fun p=>p∈bU 0 ops.toList ov st.h.length) (𝓡:=fun listed ρ D st a w=>∃ (g:γ) (β:Base),I listed g β/\Rel β.S β.C β.w ρ D ⟨iC (ovl g) st.σ,st.h⟩ a w) (O:=fun r=>r.i ∉ Xs->AllP r.ob) (T:=T) (K:=K) (ops:=ops)
     he hO hsh (fun p hp=>hp) R.dlt ?_ ?_ ?_
   · intro w' hw'
     refine⟨g0,⟨S0,C0,w0⟩,hB, ?_⟩;rw[h0];rcases hw' with rfl | rfl
     · exact R.more _
     · exact(R.more _).draw
   · rintro listed ρ' D' a' w' ⟨g,β,h1,h2⟩ hall
     exact⟨rfl,listed,g,β,ρ',D',hall,h1,h2⟩
   · rintro listed i x st2 st1 r a2 w2 ρ2 D2 ⟨g,β,hI2,R2⟩ hsz hi hun hed hox hfresh h1 hOr hxin hrest
     by_cases hiX:i∈Xs
     · obtain⟨oX,k1,k2,k3⟩:=hps i hiX
       have hxo:x.o={ oX with op:=.move (.const undef) }:=by rw[k3] at hox;injection hox with hox;exact hox.symm
       obtain⟨V,hV⟩:=sV h1;have hh:=Kj h1 hxo
       have hst1:st1=⟨put st2.σ oX.dst V,st2.h⟩:=by
         cases st1;simp only at hV hh;rw[hV,hh,hxo]
       obtain⟨rest,rs1,hr1,hr2⟩:=hrest
       have hA:∀ p∈args i,st2.σ.getD p.1 .any=p.2:=by
         intro p hp;obtain⟨g1,g2⟩:=hargs i hiX p hp
         have hnot:∀ (j:Nat) (o:Oper),ops[j]? =some o->o.dst=some p.1->listed.getD j false=true:=by
           intro j o hj hd;obtain⟨e,e1,e2,e3⟩:=g2 j o hj hd _ k3
           have:=hed _ k3 e e1 e3
           rwa [e2] at this
         have q1:st'.σ.getD p.1 .any=st1.σ.getD p.1 .any:=sW hr1 fun q hq hd=>by
           obtain⟨q1,q2,q3⟩:=hr2 q hq
           have:=hnot q.1 q.2.o q3 hd;rw[q2] at this;cases this
         have q2:oX.dst≠some p.1:=fun hd=>by
           have:=hnot i _ k3 hd;rw[hun] at this;cases this
         rw[<- g1,q1,hst1];exact(qT q2).symm
       refine wpOp_mono ?_ (hX i hiX _ listed g β ρ2 D2 st2.σ st2.h a2 w2 V oX k1 hI2 hsz hun (fun e he=>hed _ k3 e he) hA (by rw[BS hr1,hst1,DM]) R2);rintro a' w' ⟨g',β',b1,b2⟩;exact⟨ρ2,D2,⟨g',β',b1,by rw[hst1];exact b2⟩,fun l hl=>.inl hl⟩
     · have h1':=EV (xs:=ovl g) (hcl i _ hiX hox) (hks _ _ _ hI2) h1
       refine BP hsh (hne i hiX) (wpOp_mono ?_ (qS hT hK R2 hox hfresh h1' (hOr ?_)))
       · rintro a' w' ⟨ρ',D',R',hD'⟩
         exact⟨ρ',D',⟨g,β,hI _ _ _ _ hiX hI2,R'⟩,hD'⟩
       · have:r.i=i:=by
           unfold dD at h1
           split at h1
           · split at h1
             · injection h1 with h1;simp only[Prod.mk.injEq] at h1;rw[<- h1.2]
             · cases h1
           · injection h1 with h1;simp only[Prod.mk.injEq] at h1;rw[<- h1.2]
           · cases h1
         rw[this];exact hiX
 obtain⟨e,a',w',⟨rfl,listed,g,β,ρ',D',hall,hβ,R'⟩,harr⟩:=key b _ cs;obtain⟨v,w2,fr,h1,h2,h3⟩:=hgood listed g β hall hβ ρ' D' a' w' R' b cs hb hk;exact⟨v,w2,fr,h1,Steps.trans harr h2,h3⟩
end
def fE:Nat->List Nat->List Oper->List Oper
 | _,_,[]=>[]
 | i,Xs,o::os=>(if Xs.contains i then CR o else o)::fE (i+1) Xs os
theorem xB:∀ (os:List Oper) (i:Nat) (Xs:List Nat) (j:Nat),(fE i Xs os)[j]? =(os[j]?).map fun o=>if Xs.contains (i+j) then CR o else o
 | [],i,Xs,j=>by simp[fE]
 | o::os,i,Xs,0=>by simp[fE]
 | o::os,i,Xs,j+1=>by
   simp only[fE,List.getElem?_cons_succ];rw[xB os (i+1) Xs j,show i+1+j=i+(j+1) by omega]
theorem rQ:∀ (os:List Oper) (i:Nat) (Xs:List Nat),eV os (fE i Xs os)
 | [],_,_=>trivial
 | o::os,i,Xs=>by
   unfold fE;refine⟨?_, ?_, ?_,rQ os (i+1) Xs⟩ <;> split <;> rfl
def As (Xs:List Nat):List Rec->List Prop
 | []=>[]
 | r::rs=>(if Xs.contains r.i then [] else r.ob)++As Xs rs
theorem tU:∀ {rs:List Rec},AllP (As Xs rs)->∀ r∈rs,r.i ∉ Xs->AllP r.ob
 | r ::rs,h,q,hq,hn=>by
   rcases List.mem_cons.1 hq with rfl | hq
   · have:=(AllP.app h).1
     rwa [if_neg (by simpa using hn)] at this
   · exact tU (AllP.app h).2 q hq hn
 | [],_,_,hq,_=>by simp at hq
def TP (os:List Oper) (Xs ks:List Nat) (ts:Nat->List Nat):Bool:=
 (List.range os.length).all fun i=>match os[i]? with
   | none=>false
   | some o=>if Xs.contains i then o.guard.isNone&&uO (fE 0 Xs os) o (ts i) else clear (fE 0 Xs os).toArray o ks
section
theorem Good.regXs (hm:P.follows .mixedOrders=true) (hT:kU P T) (hK:KOK P K) {γ:Type} (Xs ks:List Nat) (ts:Nat->List Nat) (ovl:γ->List (Nat×AV)) (I:Array Bool->γ->Base->Prop)
   (hc:c= .region (rN c) (aL c) (lA c))
   (he:(lV T K (fE 0 Xs (aL c).toList).toArray (lA c) ov st).map (fun r=>(r.1.σ,r.1.h,As Xs r.2))=some (σ',h',ob)) (hob:AllP ob)
   (hok:TP (aL c).toList Xs ks ts=true) (hXl:Xs.all (fun i=>decide (i<(aL c).size))=true)
   (hks:∀ L g β,I L g β->∀ p∈ovl g,p.1∈ks)
   (hI:∀ listed i g β,i ∉ Xs->I listed g β->I (listed.setIfInBounds i true) g β)
   (hX:∀ i∈Xs,∀ (Q:Exit->Act->World->Prop) listed g β ρ D σ h a w V oX,(aL c)[i]? =some oX->oX.guard=none->I listed g β->listed.size=(aL c).size->listed.getD i false=false->(∀ e∈oX.after.toList,Region.binds .any e=true->listed.getD e.on false=true)->(∀ t∈ts i,σ.getD t .any=σ'.getD t .any)->σ.length=σ'.length->
     Rel β.S β.C β.w ρ D ⟨iC (ovl g) σ,h⟩ a w->wpOp P (aL c) Q i (fun a' w'=>∃ g' β',I (listed.setIfInBounds i true) g' β'/\Rel β'.S β'.C β'.w ρ D ⟨iC (ovl g') (put σ oX.dst V),h⟩ a' w') a w)
   (g0:γ) (hB:I (Array.replicate (aL c).size false) g0 ⟨S0,C0,w0⟩) (h0:ovl g0= [])
   (hgood:∀ listed g β,(∀ i,i<(aL c).size->listed.getD i false=true)->I listed g β->Good P f β.S β.C β.w Post todo ⟨iC (ovl g) σ',h'⟩):Good P f S0 C0 w0 Post (.code c::todo) st:=by
 obtain⟨⟨st',rs⟩,h1,h2⟩:=Option.map_eq_some_iff.1 he;simp only[Prod.mk.injEq] at h2;obtain⟨rfl,rfl,rfl⟩:=h2
 have hlen:∀ (os:List Oper) (i:Nat),(fE i Xs os).length=os.length:=by
   intro os
   induction os with
   | nil=>intro i;rfl
   | cons o os ih=>intro i;simp[fE,ih]
 have hsize:(fE 0 Xs (aL c).toList).toArray.size=(aL c).size:=by simp[hlen]
 have hat:∀ (i:Nat) (o:Oper),(aL c)[i]? =some o->(if Xs.contains i then o.guard.isNone&&uO (fE 0 Xs (aL c).toList) o (ts i) else clear (fE 0 Xs (aL c).toList).toArray o ks)=true:=by
   intro i o hi;have hlt:i<(aL c).toList.length:=by simpa using (Array.getElem?_eq_some_iff.1 hi).1
   have:=List.all_eq_true.1 hok i (List.mem_range.2 hlt)
   rwa [Array.getElem?_toList,hi] at this
 have hget:∀ i,(fE 0 Xs (aL c).toList).toArray[i]? =((aL c)[i]?).map fun o=>if Xs.contains i then CR o else o:=by
   intro i;rw[List.getElem?_toArray,xB,Nat.zero_add,Array.getElem?_toList]
 have hsome:∀ i∈Xs,∃ o,(aL c)[i]? =some o:=by
   intro i hi
   have:=List.all_eq_true.1 hXl i hi;exact⟨_,Array.getElem?_eq_getElem (by simpa using this)⟩
 rw[hc];refine Good.regionO (ops:=(fE 0 Xs (aL c).toList).toArray) (γ:=γ) hm hT hK Xs ks ovl I (fun i=>(ts i).map fun t=>(t,st'.σ.getD t .any)) h1 (tU hob) (by simpa using rQ (aL c).toList 0 Xs) (fun i hi=> ?_) hks (fun i o hi ho=> ?_) (fun i hi=> ?_) hI (fun i hi p hp=> ?_) (fun i hi Q listed g β ρ D σ h a w V oX k1 k2 k3 k4 k5 k6 k8 k7=> ?_) g0 (by rw[hsize];exact hB) h0 (fun listed g β hl=>hgood listed g β (by rw[hsize] at hl;exact hl))
 · rw[hget,show Xs.contains i=false by simpa using hi]
   cases (aL c)[i]? <;> rfl
 · rw[hget,show Xs.contains i=false by simpa using hi] at ho
   cases hr:(aL c)[i]? with
   | none=>rw[hr] at ho;cases ho
   | some o'=>
     rw[hr] at ho;simp at ho;subst ho
     have:=hat i o' hr
     rwa [show Xs.contains i=false by simpa using hi] at this
 · obtain⟨o,ho⟩:=hsome i hi
   have h3:=hat i o ho;rw[show Xs.contains i=true by simpa using hi,if_pos rfl,Bool.and_eq_true] at h3;refine⟨o,ho,by simpa using h3.1, ?_⟩;rw[hget,ho];simp[hi,CR]
 · obtain⟨t,ht,rfl⟩:=List.mem_map.1 hp
   refine⟨rfl,fun j o hj hd oX hoX=> ?_⟩;obtain⟨o2,ho2⟩:=hsome i hi;have h3:=hat i o2 ho2;rw[show Xs.contains i=true by simpa using hi,if_pos rfl,Bool.and_eq_true] at h3;rw[hget,ho2] at hoX;simp[hi] at hoX
   have:=rO h3.2 t ht j o (by simpa using hj) hd;rw[<- hoX];exact this
 · have h3:=hat i oX k1
   rw[show Xs.contains i=true by simpa using hi,if_pos rfl,Bool.and_eq_true] at h3;exact hX i hi Q listed g β ρ D σ h a w V oX k1 (by simpa using h3.1) k2 (by rw[<- hsize];exact k3) k4 k5 (fun t ht=>k6 (t,st'.σ.getD t .any) (List.mem_map.2 ⟨t,ht,rfl⟩)) k8 k7
end
abbrev dQ (ro:Option Nat):Fence:={ Fence.wide with round:=ro }
section
variable {P:Program} {ops:Array Oper} {Q Q':Exit->Act->World->Prop} {n:Nat} {ro:Option Nat}
def eP (o:Oper):Bool:=match o.op with
 | .defer _=>false
 | _=>true
theorem At (h:eP o=true):∀ c,o.op≠ .defer c:=by
 intro c e;rw[eP,e] at h;cases h
theorem Ha (hd:eP o=true) (hK:∀ a w,K a w->K' a w) (hQ:∀ e a w,Q e a w->Q' e a w) (h:o.wp P a w K Q):
   o.wpIn (dQ ro) n P a w K' Q':=by
 refine⟨fun _ _=>trivial, ?_⟩;have e:o.semAt ro a.eval=execOp a.eval o:=Oper.semAt_eq ro a.eval o (At hd);have e':o.semAt (dQ ro).round a.eval=execOp a.eval o:=e;rw[e'];unfold Oper.wp at h;generalize (execOp a.eval o).run P w=r at*;cases r with
 | ok x w'=>
   cases x with
   | value v=>exact hK _ _ h
   | skip=>exact hK _ _ h
   | defer d=>exact hK _ _ h
   | enter f args=>
     refine⟨fun h=>by simp[Fence.wide] at h, ?_⟩;have hc:CallsIn Fence.wide (n-1) P f args w' _:=callsIn_wide.2 h;refine CallsIn.mono (F:=dQ ro) hc ?_;intro e w'' he;cases e with
     | returned v=>exact hK _ _ he
     | panicked c=>exact hQ _ _ _ he
     | outgrown=>obtain⟨a,w,he⟩:=he;exact⟨a,w,hQ _ _ _ he⟩
   | row row args=>
     refine⟨fun h=>by simp[Fence.wide] at h,fun c cs _=> ?_⟩;obtain⟨v,w'',h1,h2⟩:=h c cs;exact⟨v,w'',hK _ _ h1,stepsIn_wide.2 h2⟩
   | round l f t as_ bo=>exact h.elim
   | _=>exact h.elim
 | halt x w'=>
   cases x <;> simp only[Oper.upon,Oper.uponIn] at h ⊢ <;> first | exact hQ _ _ _ h | exact h
theorem DN (hd:∀ o∈ops,eP o=true) (hL:¬ LetsOut Q) (hK:∀ a w,K a w->K' a w) (hQ:∀ e a w,Q e a w->Q' e a w) (h:wpOp P ops Q i K a w):
   wpOpIn (dQ ro) n P ops Q' i K' a w:=by
 unfold wpOp at h;unfold wpOpIn;cases ho:ops[i]? with
 | none=>rw[ho] at h;exact hK _ _ h
 | some o=>
   rw[ho] at h
   have hm:o∈ops:=by
     obtain⟨hi,e⟩:=Array.getElem?_eq_some_iff.1 ho;exact e▸Array.getElem_mem hi
   simp only at h ⊢
   split
   · rename_i hw
     rw[if_pos hw] at h;rcases h with h | h
     · exact Ha (hd o hm) hK hQ h
     · exact(hL h.2).elim
   · rename_i hw
     rw[if_neg hw] at h;exact⟨fun _ _=>trivial,hK _ _ h⟩
theorem lY (hd:∀ o∈ops,eP o=true) (hL:¬ LetsOut Q) (hQ:∀ e a w,e≠ .normal->Q e a w->Q' e a w) (l2:List Nat) (hN:∀ a w,Q .normal a w->wpOpsIn (dQ ro) n P ops Q' l2 a w):
   ∀ (l1:List Nat) (a:Act) (w:World),wpOps P ops Q l1 a w->(∀ e a w,e≠ .normal->¬ Q e a w)->wpOpsIn (dQ ro) n P ops Q' (l1++l2) a w
 | [],a,w,h,_=>hN a w h
 | i ::l1,a,w,h,hx=>by
   rw[wpOps_cons] at h;rw[List.cons_append,wpOpsIn_cons];have h2:=DN (ro:=ro) (n:=n) (Q':=fun e a w=>Q e a w) (K':=wpOpsIn (dQ ro) n P ops Q' (l1++l2)) hd hL (fun a w h=>lY hd hL hQ l2 hN l1 a w h hx) (fun _ _ _ h=>h) h;unfold wpOpIn at h2 ⊢;cases ho:ops[i]? with
   | none=>rw[ho] at h2;exact h2
   | some o=>
     rw[ho] at h2;simp only at h2 ⊢
     split
     · rename_i hw
       rw[if_pos hw] at h2;refine⟨h2.1, ?_⟩;have h3:=h2.2;generalize (o.semAt (dQ ro).round a.eval).run P w=r at*;cases r with
       | ok x w'=>
         cases x <;> simp only[Oper.uponIn] at h3 ⊢ <;>
           first
           | exact h3
           | exact⟨h3.1,CallsIn.mono h3.2 (fun e w'' he=>by cases e <;> first | exact he | exact(hx _ _ _ (by simp) he).elim | exact(hL he).elim)⟩
           | exact⟨h3.1,RoundIn.mono h3.2 (fun e w'' he=>by cases e <;> first | exact he | exact(hx _ _ _ (by simp) he).elim | exact(hL he).elim)⟩
       | halt x w'=>cases x <;> simp only[Oper.uponIn] at h3 ⊢ <;> first | exact(hx _ _ _ (by simp) h3).elim | exact h3
     · rename_i hw
       rw[if_neg hw] at h2;exact h2
theorem BT (hd:∀ o∈ops,eP o=true) (hL:¬ LetsOut Q) {md:Region.Mode}:∀ (iH:Nat) (listed:Array Bool) (a:Act) (w:World),wpAny P md ops Q iH listed a w->wpAnyIn (dQ ro) n P md ops Q iH listed a w
 | 0,listed,a,w,h=>h
 | iH+1,listed,a,w,h=>⟨h.1,fun i hi=>DN hd hL (fun a w h=>BT hd hL iH _ a w h) (fun _ _ _ h=>h) (h.2 i hi)⟩
end
section
variable {P:Program} {S0 C0:Nat->Prop} {w0:World} {ρ:Nat->Nat} {D:Nat->Prop} {st:St} {a:Act} {w:World} {T:TT} {K:KT} {n:Nat} {ro:Option Nat}
theorem EW (hm:P.follows .mixedOrders=true) (hT:kU P T) (hK:KOK P K) (R:Rel S0 C0 w0 ρ D st a w) {id:Nat} {ops:Array Oper} {draw:Bool} {ov ov':lJ} {st':St} {ob:List Prop} (hd:ops.all eP=true)
   (he:mL T K ops draw ov st=some (st',ob,ov')) (ho:AllP ob) {Q:Exit->Act->World->Prop} (hQ:∀ ρ' D' a' w',Rel S0 C0 w0 ρ' D' st' a' w'->Q .normal a' w'):
   (Code.region id ops draw).wpIn (dQ ro) n P Q a w:=by
 have hd':∀ o∈ops,eP o=true:=by
   intro o ho;obtain⟨i,hi,e⟩:=Array.mem_iff_getElem.1 ho;exact e▸Array.all_eq_true.1 hd i hi
 suffices hs:(Code.region id ops draw).wpIn (dQ ro) n P (fun e a' w'=>e=Exit.normal/\∃ ρ' D',Rel S0 C0 w0 ρ' D' st' a' w') a w by
   intro b k cs hro hb hr;obtain⟨e,a',w',⟨rfl,ρ',D',R'⟩,harr⟩:=hs b k cs hro hb hr;exact⟨_,_,_,hQ _ _ _ _ R',harr⟩
 clear hQ;unfold mL at he
 split at he
 · rename_i st2 rs hrun
   have R1:=R.more (dT ops.toList);obtain⟨hnid,hap⟩:=lN ops.toList 0 ov st.h.length
   have hpend:Pend D (st.h++List.replicate (dT ops.toList) none) (bU 0 ops.toList ov st.h.length):=by
     refine⟨fun p hp hn=> ?_,hap⟩;obtain⟨h1,h2⟩:=hnid p hp hn;refine⟨?_,fun h=> ?_⟩
     · rw[List.getElem?_append_right h1,List.getElem?_replicate,if_pos (by omega)]
     · have:=R.dlt _ h;omega
   have hops:∀ p∈bU 0 ops.toList ov st.h.length,ops[p.1]? =some p.2.o:=by
     intro p hp;obtain⟨k,h1,h2⟩:=gK _ _ _ _ p hp;rw[h1,Nat.zero_add];simpa using h2
   have hL:¬ LetsOut (fun e a' w'=>e=Exit.normal/\∃ ρ' D',Rel S0 C0 w0 ρ' D' st2 a' w'):=by
     rintro⟨_,_,h,_⟩;cases h
   have hfin:∀ ρ' D' a' w',Rel S0 C0 w0 ρ' D' st2 a' w'->(fun e a' w'=>e=Exit.normal/\∃ ρ' D',Rel S0 C0 w0 ρ' D' st2 a' w') .normal a' w':=fun ρ' D' a' w' h=>⟨rfl,ρ',D',h⟩
   cases draw with
   | false=>
     simp only[Bool.false_eq_true,if_false] at he;injection he with he;simp only[Prod.mk.injEq] at he;obtain⟨rfl,rfl,rfl⟩:=he;refine wpIn_region ?_
     have:=kB (P:=P) (ops:=ops) (Q:=fun e a' w'=>e=Exit.normal/\∃ ρ' D',Rel S0 C0 w0 ρ' D' st2 a' w') hT hK _ ρ D _ _ a w rs R1 hpend hops hrun (fN rs ho) hfin;rw[eU] at this;rw[List.range_eq_range'];have h2:=lY (ro:=ro) (n:=n) (Q':=fun e a' w'=>e=Exit.normal/\∃ ρ' D',Rel S0 C0 w0 ρ' D' st2 a' w') hd' hL (fun _ _ _ _ h=>h) [] (fun a w h=>h) _ a w this (fun e a w hn h=>hn h.1);simpa using h2
   | true=>
     simp only[if_true] at he
     split at he
     · rename_i hc
       rw[Bool.and_eq_true] at hc;injection he with he;simp only[Prod.mk.injEq] at he;obtain⟨rfl,rfl,rfl⟩:=he;refine wpIn_region_any hm (BT hd' hL _ _ _ _ ?_);refine yT (P:=P) hT hK hc.1 hfin ops.size _ (bU 0 ops.toList ov st.h.length) rs ⟨st.σ,st.h++List.replicate (dT ops.toList) none⟩ a _ ρ D (by rw[fM];simp) ?_
       exact {
         rel:=R1.draw
         run:=hrun
         obs:=fN rs ho
         pend:=hpend
         size:=by simp
         mem:=fun i hi=>⟨fun _=>by have:=pA ops.toList 0 ov st.h.length i (by simpa using hi);simpa using this,fun _=>by simp[Array.getD,hi]⟩
         sorted:=gU _ _ _ _
         ops_:=hops
         closed:=fun k o hk hl=>by
           have:=(Array.getElem?_eq_some_iff.1 hk).1;simp[Array.getD,this] at hl
         pairs:=jN hc.2 }
     · cases he
 · cases he
def xC (ρ:Nat->Nat) (h:List (Option ABlk)):Nat->Prop:=fun k=>∃ l b,h[l]? =some (some b)/\ρ l=k
theorem Rel.turnW (R:Rel S0 C0 w0 ρ D ⟨σ,h⟩ a w) (hsz:w.heap.size<=w'.heap.size)
   (hheap:∀ k,k<w.heap.size->¬ S0 k->w'.heap[k]? =w.heap[k]?) (hrow:∀ (k:Nat) (arr:Array Value) (ty:TypeId),w.heap[k]? =some (Obj.cells arr ty (0,0))->w'.heap[k]? =w.heap[k]?)
   (hS:∀ k,k<w.heap.size->S' k->S0 k) (hS2:∀ k,S' k->k<w'.heap.size)
   (hmine:∀ k,¬ S0 k->(C0 k\/w0.heap.size<=k)->xC ρ h k->(C' k\/w1.heap.size<=k)) (hchg:Chg C' w1 w')
   (hd:a'.defers= []) (hl:a'.tmps.size=σ'.length) (ht:∀ t v,a'.tmps[t]? =some v->RelV ρ (Sof S0 ρ h) w D (σ'.getD t .any) v):Rel S' C' w1 ρ D ⟨σ',h⟩ a' w':=by
 have hm:∀ l b,h[l]? =some (some b)->¬ S0 (ρ l):=fun l b hb=>(R.mine l b hb).2.1
 have hlt:∀ l b,h[l]? =some (some b)->ρ l<w.heap.size:=fun l b hb=>R.Slt (.inr ⟨l,b,hb,rfl⟩)
 have hk:∀ D',Keep ρ (Sof S0 ρ h) w D' ρ (Sof S' ρ h) w':=fun D'=>by
   refine⟨hsz,fun i hi=>⟨rfl,fun arr ty hc=>⟨arr,ty,by rw[hrow _ _ _ hc];exact hc,Nat.le_refl _⟩⟩,fun k hk hs=>⟨?_,hheap k hk fun h=>hs (.inl h)⟩⟩;rintro(hs' | hs')
   · exact hs (.inl (hS k hk hs'))
   · exact hs (.inr hs')
 exact {
   defers:=hd
   len:=hl
   tmps:=fun t v hv=>(ht t v hv).keep (fun _ h=>h) (hk D)
   heap:=fun l b hb=>⟨(R.heap l b hb).1,(R.heap l b hb).2.keep (fun _ h=>h) (hk D) rfl (hheap _ (hlt l b hb) (hm l b hb))⟩
   inj:=R.inj
   lt:=hS2
   dlt:=R.dlt
   chg:=hchg
   mine:=fun l b hb=>by
     obtain⟨h1,h2,h3⟩:=R.mine l b hb
     refine⟨hmine _ h2 h1 ⟨l,b,hb,rfl⟩,fun hs=>h2 (hS _ (hlt l b hb) hs),h3⟩ }
theorem Rel.carry (R:Rel S0 C0 w0 ρ D st a w) (hC:∀ k,C0 k->Sx k) (hS:∀ k,S0 k->Sx k) (hnt:cT V=true) (hn:dC V=true) (hv:RelV ρx Sx w0 Dx V v):
   RelV ρ (Sof S0 ρ st.h) w D V v:=by
 have h1:RelV0 ρx Sx w0 No V v:=by
   exact RelV0.noRef hv hn ρx
 have hk:Keep ρx Sx w0 No ρ (Sof S0 ρ st.h) w:=by
   refine⟨R.chg.size,fun i hi=>hi.elim,fun k hk hs=>⟨?_,R.chg.block k hk fun h=>hs (hC k h)⟩⟩;rintro(h | ⟨l,b,hb,rfl⟩)
   · exact hs (hS k h)
   · rcases(R.mine l b hb).1 with h | h
     · exact hs (hC _ h)
     · omega
 exact RelV.of0 (h1.keep (fun _ h=>h.elim) hk)
theorem Rel.ptrPin (R:Rel S0 C0 w0 ρ D st a w) (hl:st.h[l]? =some (some b)) (hp:b.pin=some k):RelV ρ (Sof S0 ρ st.h) w D (.ptr l b.e i o) (.pointer (some ⟨k,i*b.e+o,none⟩)):=by
 have hk:=(R.mine l b hl).2.2 k hp;rw[<- hk];exact RelCs.ptr (R.heap l b hl).1 .done
end
section
theorem Good.regOne (hm:P.follows .mixedOrders=true) (hT:kU P T) (hK:KOK P K) (ids m:List Nat) (ov:lJ)
   (hc:c= .region (rN c) (aL c) (lA c)) (hnd:m.Nodup)
   (he:(mL T K (aL c) (lA c) ov st).map (fun r=>((kD ids 0 r.1.σ).map (dM (at_ m)),qV (at_ m) r.1.h m,r.2.1))=some (σ',h',ob)) (ho:AllP ob)
   (hg:Good P f S0 C0 w0 Post k ⟨σ',h'⟩):Good P f S0 C0 w0 Post (.code c::k) st:=by
 obtain⟨⟨st1,ob1,ov1⟩,h1,h2⟩:=Option.map_eq_some_iff.1 he;simp only[Prod.mk.injEq] at h2;obtain⟨rfl,rfl,rfl⟩:=h2;rw[hc];refine vT (st1:=st1) (t1:=k) (ov:=ov) (ov1:=ov1) (ob:=ob1) hm hT hK ?_ ho (Good.keep ids (Good.ren m hnd hg));simp only[Dm];rw[h1]
theorem qF (hm:P.follows .mixedOrders=true) (hT:kU P T) (hK:KOK P K) (ids:List Nat) (ov:lJ)
   (R:Rel S0 C0 w0 ρ D st a w)
   (hc:c= .region (rN c) (aL c) (lA c)) (hd:(aL c).all eP=true)
   (he:(mL T K (aL c) (lA c) ov st).map (fun r=>(kD ids 0 r.1.σ,r.1.h,r.2.1))=some (σ',h',ob)) (ho:AllP ob)
   (hQ:∀ ρ' D' a' w',Rel S0 C0 w0 ρ' D' ⟨σ',h'⟩ a' w'->Q .normal a' w'):c.wpIn (dQ ro) n P Q a w:=by
 obtain⟨⟨st1,ob1,ov1⟩,h1,h2⟩:=Option.map_eq_some_iff.1 he;simp only[Prod.mk.injEq] at h2;obtain⟨rfl,rfl,rfl⟩:=h2;rw[hc];refine EW hm hT hK R hd h1 ho fun ρ' D' a' w' R'=>hQ ρ' D' a' w' ?_
 exact R'.slots mN fun t=>by
   rw[sM]
   split
   · exact Ref.rfl'
   · exact Ref.any
theorem Good.regRound (hm:P.follows .mixedOrders=true) (hT:kU P T) (hK:KOK P K) (iX:Nat) (ov:lJ)
   (hc:c= .region (rN c) (aL c) false) (hd:(aL c).all eP=true) (hlt:iX<(aL c).size)
   (hnew:((bU 0 (aL c).toList ov st.h.length).take iX++(bU 0 (aL c).toList ov st.h.length).drop (iX+1)).all (fun p=> !eC p.2.o.op)=true)
   (he1:(gQ T K (aL c) ((bU 0 (aL c).toList ov st.h.length).take iX) st).map (fun r=>(r.1.σ,r.1.h,tM r.2))=some (σ1,h1,ob1)) (ho1:AllP ob1)
   (hX:∀ ρ D a w Q,Rel S0 C0 w0 ρ D ⟨σ1,h1⟩ a w->wpOpIn (dQ none) 0 P (aL c) Q iX (fun a' w'=>∃ ρ' D',Rel S0 C0 w0 ρ' D' st2 a' w') a w)
   (he2:(gQ T K (aL c) ((bU 0 (aL c).toList ov st.h.length).drop (iX+1)) st2).map (fun r=>(r.1,tM r.2))=some (st3,ob2)) (ho2:AllP ob2)
   (hg:Good P f S0 C0 w0 Post k st3):Good P f S0 C0 w0 Post (.code c::k) st:=by
 obtain⟨⟨st1,rs1⟩,e1,e2⟩:=Option.map_eq_some_iff.1 he1;simp only[Prod.mk.injEq] at e2;obtain⟨rfl,rfl,rfl⟩:=e2;obtain⟨⟨st4,rs2⟩,e3,e4⟩:=Option.map_eq_some_iff.1 he2;simp only[Prod.mk.injEq] at e4;obtain⟨rfl,rfl⟩:=e4
 have hd':∀ o∈aL c,eP o=true:=by
   intro o ho;obtain⟨i,hi,e⟩:=Array.mem_iff_getElem.1 ho;exact e▸Array.all_eq_true.1 hd i hi
 generalize hxs:bU 0 (aL c).toList ov st.h.length=xs at*
 have hops:∀ p∈xs,(aL c)[p.1]? =some p.2.o:=by
   intro p hp;rw[<- hxs] at hp;obtain⟨k,h1,h2⟩:=gK _ _ _ _ p hp;rw[h1,Nat.zero_add];simpa using h2
 have hfst:xs.map (·.1)=List.range (aL c).size:=by
   rw[<- hxs,eU,List.range_eq_range'];simp
 have hlen:xs.length=(aL c).size:=by
   have:=congrArg List.length hfst;simpa using this
 have hrange:List.range (aL c).size=(xs.take iX).map (·.1)++iX::((xs.drop (iX+1)).map (·.1)++ []):=by
   rw[<- hfst,List.append_nil]
   have h3:xs=xs.take iX++xs[iX]'(by omega)::xs.drop (iX+1):=by
     rw[<- List.drop_eq_getElem_cons (by omega),List.take_append_drop]
   conv=>lhs;rw[h3]
   rw[List.map_append,List.map_cons]
   have:(xs[iX]'(by omega)).1=iX:=by
     have h4:(xs.map (·.1))[iX]? =some iX:=by rw[hfst];simp[hlt]
     rw[List.getElem?_map,List.getElem?_eq_getElem (by omega)] at h4;simpa using h4
   rw[this]
 have hnone:∀ (D:Nat->Prop) (h:List (Option ABlk)) (ys:List (Nat×AOp)),(∀ p∈ys,eC p.2.o.op=false)->Pend D h ys:=by
   intro D h ys hy;refine⟨fun p hp hn=>(by rw[hy p hp] at hn;cases hn), ?_⟩
   exact List.pairwise_iff_forall_sublist.2 fun {p q} hs h1 _=>by
     have hp:=hy p (hs.subset (by simp));rw[hp] at h1;cases h1
 have hn':∀ p∈xs.take iX++xs.drop (iX+1),eC p.2.o.op=false:=fun p hp=>by simpa using List.all_eq_true.1 hnew p hp
 intro ρ D a w R b cs hb hk
 have hw:(Code.region (rN c) (aL c) false).wpIn (dQ none) 0 P (fun e a' w'=>e= .normal/\∃ ρ' D',Rel S0 C0 w0 ρ' D' st4 a' w') a w:=by
   refine wpIn_region ?_;rw[hrange];have s1:=kB (P:=P) (ops:=aL c) (Q:=fun e a' w'=>e=Exit.normal/\∃ ρ' D',Rel S0 C0 w0 ρ' D' st1 a' w') hT hK _ ρ D _ _ a w rs1 R (hnone D st.h _ fun p hp=>hn' p (by simp[hp])) (fun p hp=>hops p (List.mem_of_mem_take hp)) e1 (fN rs1 ho1) (fun ρ' D' a' w' h=>⟨rfl,ρ',D',h⟩);refine lY (Q:=fun e a' w'=>e=Exit.normal/\∃ ρ' D',Rel S0 C0 w0 ρ' D' st1 a' w') hd' (by rintro⟨_,_,h,_⟩;cases h) (fun e a w hn h=>absurd h.1 hn) _ ?_ _ a w s1 (fun e a w hn h=>hn h.1);rintro a1 w1 ⟨_,ρ1,D1,R1⟩;rw[wpOpsIn_cons];refine wpOpIn_mono ?_ (hX ρ1 D1 a1 w1 _ R1);rintro a2 w2 ⟨ρ2,D2,R2⟩;have s2:=kB (P:=P) (ops:=aL c) (Q:=fun e a' w'=>e=Exit.normal/\∃ ρ' D',Rel S0 C0 w0 ρ' D' st4 a' w') hT hK _ ρ2 D2 _ _ a2 w2 rs2 R2 (hnone D2 st2.h _ fun p hp=>hn' p (by simp[hp])) (fun p hp=>hops p (List.mem_of_mem_drop hp)) e3 (fN rs2 ho2) (fun ρ' D' a' w' h=>⟨rfl,ρ',D',h⟩);exact lY (Q':=fun e a' w'=>e= .normal/\∃ ρ' D',Rel S0 C0 w0 ρ' D' st4 a' w') hd' (by rintro⟨_,_,h,_⟩;cases h) (fun e a w hn h=>absurd h.1 hn) [] (fun a w h=>h) _ a2 w2 s2 (fun e a w hn h=>hn h.1)
 let b0:Frame:={ b with roundOf:=none }
 have hat:∀ a todo,b.at a todo=b0.atR a todo:=fun a todo=>by simp[b0,Frame.at,Frame.atR]
 obtain⟨e,a',w',⟨rfl,ρ',D',R'⟩,harr⟩:=hw b0 k cs rfl trivial (room_wide _);obtain⟨v,w2,fr,g1,g2,g3⟩:=hg ρ' D' a' w' R' b cs hb hk;refine⟨v,w2,fr,g1,Steps.trans ?_ g2,g3⟩
 have:=StepsIn.steps harr;rw[hc,hat,hat];exact this
theorem Rel.act (R:Rel S0 C0 w0 ρ D ⟨σ,h⟩ a w) (hd:a'.defers= []) (hl:a'.tmps.size=σ'.length)
   (ht:∀ t v,a'.tmps[t]? =some v->RelV ρ (Sof S0 ρ h) w D (σ'.getD t .any) v):Rel S0 C0 w0 ρ D ⟨σ',h⟩ a' w where
 defers:=hd
 len:=hl
 tmps:=ht
 heap:=R.heap
 inj:=R.inj
 lt:=R.lt
 dlt:=R.dlt
 chg:=R.chg
 mine:=R.mine
def lB (ρ:Nat->Nat):Nat->List (Option ABlk)->List (Option ABlk)
 | _,[]=>[]
 | i,x::xs=>x.map (fun b=>{ b with pin:=some (ρ i) })::lB ρ (i+1) xs
theorem jX:∀ {bs:List (Option ABlk)} {i l:Nat} {b:ABlk},(lB ρ i bs)[l]? =some (some b)->∃ c,bs[l]? =some (some c)/\b={ c with pin:=some (ρ (i+l)) }
 | [],i,l,b,h=>by simp[lB] at h
 | c::bs,i,0,b,h=>by
   simp only[lB,List.getElem?_cons_zero] at h;injection h with h;cases c with
   | none=>cases h
   | some c'=>injection h with h;exact⟨c',rfl,h.symm⟩
 | c::bs,i,l+1,b,h=>by
   simp only[lB,List.getElem?_cons_succ] at h;obtain⟨c',h1,h2⟩:=jX h;exact⟨c',by simpa using h1,by rw[h2,show i+(l+1)=i+1+l from by omega]⟩
theorem xD:∀ {bs:List (Option ABlk)} {i l:Nat} {c:ABlk},bs[l]? =some (some c)->(lB ρ i bs)[l]? =some (some { c with pin:=some (ρ (i+l)) })
 | [],i,l,c,h=>by simp at h
 | c::bs,i,0,c',h=>by simp at h;subst h;rfl
 | c::bs,i,l+1,c',h=>by
   simp only[lB,List.getElem?_cons_succ] at h ⊢;rw[xD h,show i+(l+1)=i+1+l from by omega]
theorem rS:∀ {bs:List (Option ABlk)} {i:Nat},(lB ρ i bs).length=bs.length
 | [],_=>rfl
 | c::bs,i=>by simp[lB,rS (bs:=bs)]
theorem sZ:Sof S ρ (lB ρ 0 h)=Sof S ρ h:=by
 funext k;apply propext
 constructor
 · rintro(h | ⟨l,b,hb,e⟩)
   · exact .inl h
   · obtain⟨c,hc,_⟩:=jX hb
     exact .inr ⟨l,c,hc,e⟩
 · rintro(h | ⟨l,b,hb,e⟩)
   · exact .inl h
   · exact .inr ⟨l,_,xD hb,e⟩
theorem Rel.pinned (R:Rel S0 C0 w0 ρ D ⟨σ,h⟩ a w):Rel S0 C0 w0 ρ D ⟨σ,lB ρ 0 h⟩ a w where
 defers:=R.defers
 len:=R.len
 tmps:=by simp only[sZ];exact R.tmps
 heap:=fun l b hb=>by
   obtain⟨c,hc,rfl⟩:=jX hb;rw[sZ];exact R.heap l c hc
 inj:=fun l l' b b' hb hb' e=>by
   obtain⟨c,hc,_⟩:=jX hb;obtain⟨c',hc',_⟩:=jX hb';exact R.inj l l' c c' hc hc' e
 lt:=R.lt
 dlt:=fun l h=>by rw[rS];exact R.dlt l h
 chg:=R.chg
 mine:=fun l b hb=>by
   obtain⟨c,hc,rfl⟩:=jX hb;obtain⟨h1,h2,_⟩:=R.mine l c hc;exact⟨h1,h2,fun i hi=>by simp at hi;exact hi⟩
theorem Chg.put (hn:∀ (arr:Array Value) (ty:TypeId),w.heap[l]? ≠some (Obj.cells arr ty (0,0))):Chg (· =l) w (w.putObj l o) where
 os:=rfl
 tape:=rfl
 output:=rfl
 size:=by simp
 block:=fun k _ h=>World.putObj_heap_other h
 row:=fun k arr ty h=>⟨arr,ty,by rw[World.putObj_heap_other (fun e:k=l=>hn arr ty (by rw[<- e];exact h))];exact h,Nat.le_refl _⟩
theorem Chg.back (h:Chg (fun k=>C k\/k=l) a b) (hl:b.heap[l]? =a.heap[l]?):Chg C a b where
 os:=h.os
 tape:=h.tape
 output:=h.output
 size:=h.size
 block:=fun k hk hn=>by
   by_cases e:k=l
   · rw[e];exact hl
   · exact h.block k hk fun hc=>hc.elim hn e
 row:=h.row
def KeepN (ρ:Nat->Nat) (S:Nat->Prop) (w:World) (D:Nat->Prop) (ρ':Nat->Nat) (S':Nat->Prop) (w':World) (D':Nat->Prop):Prop:=
 ∀ (V:AV) (v:Value),cT V=true->dC V=true->RelV ρ S w D V v->RelV ρ' S' w' D' V v
theorem KeepN.trans (h:KeepN ρ S w D ρ1 S1 w1 D1) (k:KeepN ρ1 S1 w1 D1 ρ2 S2 w2 D2):KeepN ρ S w D ρ2 S2 w2 D2:=
 fun V v h1 h2 h3=>k V v h1 h2 (h V v h1 h2 h3)
theorem KeepN.put (hS:S l):KeepN ρ S w D ρ S (w.putObj l o) D:=by
 intro V v h1 h2 h3;have hk:Keep ρ S w No ρ S (w.putObj l o):=⟨by simp,fun i hi=>hi.elim,fun k hk hs=>⟨hs,World.putObj_heap_other fun e=>hs (e▸hS)⟩⟩;exact RelV.of0 ((RelV0.noRef h3 h2 ρ).keep (fun _ h=>h.elim) hk)
theorem Hb (R:Rel S1 C1 w1 ρ D ⟨σ,h⟩ a w)
   (hl1:w1.heap[l]? =some (.loop rec)) (hSl:S1 l) (hCl:¬ C1 l) (hst:rec.state= .ready) (hpd:rec.pending=none)
   (hlen:tmps.size=σr.length) (hslots:∀ t v,tmps[t]? =some v->RelV ρ (Sof S1 ρ h) w D (σr.getD t .any) v)
   (hA:∀ C' W0 ρ D a,Rel S1 C' W0 ρ D ⟨σr,h⟩ a W0->∀ Q:Exit->Act->World->Prop,(∀ ρ' D' a' W',Rel S1 C' W0 ρ' D' ⟨σa,h⟩ a' W'->Q .normal a' W')->assign.wpIn (dQ (some l)) 0 P Q a W0)
   (hB:∀ C' W1 ρ D a,Rel S1 C' W1 ρ D ⟨σa,h⟩ a W1->∀ Q:Exit->Act->World->Prop,(∀ ρ' D' a' W',Rel S1 C' W1 ρ' D' ⟨σb,h'⟩ a' W'->Q .normal a' W')->body.wpIn (dQ (some l)) 0 P Q a W1):
   RoundIn (dQ none) 0 P l f tmps assign body w (fun e W=>e= .returned (.bool true)/\∃ ρ' D',Rel S1 C1 w1 ρ' D' ⟨[],h'⟩ ⟨#[],[]⟩ W/\KeepN ρ (Sof S1 ρ h) w D ρ' (Sof S1 ρ' h') W D'):=by
 have hlw:l<w1.heap.size:=bB hl1;have hlw0:w.heap[l]? =some (.loop rec):=by rw[R.chg.block l hlw hCl];exact hl1
 have hno:∀ {C2:Nat->Prop} {W2:World} {ρ2:Nat->Nat} {D2:Nat->Prop} {σ2:List AV} {h2:List (Option ABlk)} {a2:Act} {W3:World},Rel S1 C2 W2 ρ2 D2 ⟨σ2,h2⟩ a2 W3->¬ xC ρ2 h2 l:=by
   rintro C2 W2 ρ2 D2 σ2 h2 a2 W3 R' ⟨i,b,hb,e⟩;exact(R'.mine i b hb).2.1 (e▸hSl)
 have hcar:∀ {ρx ρ2:Nat->Nat} {D2 Dx:Nat->Prop} {σ2:List AV} {hx h2:List (Option ABlk)} {a2:Act} {Wa Wb:World},Rel S1 (xC ρx hx) Wa ρ2 D2 ⟨σ2,h2⟩ a2 Wb->KeepN ρx (Sof S1 ρx hx) Wa Dx ρ2 (Sof S1 ρ2 h2) Wb D2:=by
   intro ρx ρ2 D2 Dx σ2 hx h2 a2 Wa Wb R' V v h1 h2 h3;exact R'.carry (fun k hk=>.inr hk) (fun k hk=>.inl hk) h1 h2 h3
 have R0:Rel S1 (xC ρ h) w ρ D ⟨σr,h⟩ { tmps:=tmps,defers:=[] } w:=
   R.turnW (Nat.le_refl _) (fun k hk hs=>rfl) (fun k arr ty hc=>rfl) (fun _ _ h=>h) (fun k hk=>R.lt k hk) (fun k _ _ ho=>.inl ho) (Chg.refl _ _) rfl hlen hslots
 refine roundIn_of_wpIn trivial ?_;refine hA (xC ρ h) w ρ D _ R0 _ ?_;intro ρ1 D1 a1 W R1;show ∃ w₂,_/\_;have hlW:W.heap[l]? =some (.loop rec):=by rw[R1.chg.block l (bB hlw0) (hno R0)];exact hlw0
 refine⟨_,run_beginRound hlW hst, ?_⟩;have hn1:∀ (arr:Array Value) (ty:TypeId),W.heap[l]? ≠some (Obj.cells arr ty (0,0)):=fun arr ty e=>by rw[hlW] at e;cases e
 have kn1:KeepN ρ1 (Sof S1 ρ1 h) W D1 ρ1 (Sof S1 ρ1 h) (W.putObj l (.loop { rec with state:=.busy })) D1:=KeepN.put (.inl hSl);generalize hW1:W.putObj l (.loop { rec with state:=.busy })=W1 at kn1;have c1:Chg (· =l) W W1:=hW1▸Chg.put hn1
 have hl2:W1.heap[l]? =some (.loop { rec with state:=.busy }):=by
   rw[<- hW1];exact World.putObj_heap_same (bB hlW)
 have oth1:∀ k,k≠l->W1.heap[k]? =W.heap[k]? :=fun k hk=>by rw[<- hW1];exact World.putObj_heap_other hk
 have sz1:W1.heap.size=W.heap.size:=by rw[<- hW1];simp
 have R2:Rel S1 (xC ρ1 h) W1 ρ1 D1 ⟨σa,h⟩ a1 W1:=by
   refine R1.turnW (by omega) (fun k hk hs=>oth1 k fun e=>hs (e▸hSl)) (fun k arr ty hc=>oth1 k fun e=>hn1 arr ty (e▸hc)) (fun _ _ h=>h) (fun k hk=>by rw[sz1];exact R1.lt k hk) (fun k _ _ ho=>.inl ho) (Chg.refl _ _) R1.defers R1.len R1.tmps
 refine hB (xC ρ1 h) W1 ρ1 D1 a1 R2 _ ?_;intro ρ2 D2 a2 W2 R3
 have hlW2:W2.heap[l]? =some (.loop { rec with state:=.busy }):=by
   rw[R3.chg.block l (bB hl2) (hno R2)];exact hl2
 have hn2:∀ (arr:Array Value) (ty:TypeId),W2.heap[l]? ≠some (Obj.cells arr ty (0,0)):=fun arr ty e=>by rw[hlW2] at e;cases e
 refine⟨_,_,run_endRound none hlW2,rfl,ρ2,D2, ?_⟩;have kn2:KeepN ρ2 (Sof S1 ρ2 h') W2 D2 ρ2 (Sof S1 ρ2 h') (W2.putObj l (.loop { ({ rec with state:=.busy }:Loop) with state:=if (none:Option Code).isNone then .ready else .done,pending:=none })) D2:=KeepN.put (.inl hSl);generalize hW3:W2.putObj l (.loop { ({ rec with state:=.busy }:Loop) with state:=if (none:Option Code).isNone then .ready else .done,pending:=none })=W3 at kn2 ⊢;have c3:Chg (· =l) W2 W3:=hW3▸Chg.put hn2
 have hl3:W3.heap[l]? =some (.loop rec):=by
   rw[<- hW3,World.putObj_heap_same (bB hlW2)];obtain⟨s,p,g1,g2,g3,g4,g5,g6⟩:=rec;simp only at hst hpd;subst hst;subst hpd;rfl
 have oth3:∀ k,k≠l->W3.heap[k]? =W2.heap[k]? :=fun k hk=>by rw[<- hW3];exact World.putObj_heap_other hk
 have sz3:W3.heap.size=W2.heap.size:=by rw[<- hW3];simp
 have hown0:∀ k,k<w1.heap.size->xC ρ h k->C1 k:=by
   rintro k hk ⟨i,b,hb,rfl⟩;rcases(R.mine i b hb).1 with h | h
   · exact h
   · omega
 have sz0:=R.chg.size;have sz01:=R1.chg.size
 have hown:∀ k,k<w1.heap.size->xC ρ1 h k->C1 k:=by
   rintro k hk ⟨i,b,hb,rfl⟩;rcases(R1.mine i b hb).1 with h | h
   · exact hown0 _ hk h
   · omega
 have hch:Chg C1 w1 W3:=by
   refine Chg.back (l:=l) ?_ (by rw[hl3,hl1]);have t0:Chg (fun k=>C1 k\/k=l) w1 W:=Chg.trans (Chg.trans (C0:=fun k=>C1 k\/k=l) (Chg.refl _ _) R.chg (fun _ _ h=>.inl h)) R1.chg (fun k hk h=>.inl (hown0 k hk h));have t1:Chg (fun k=>C1 k\/k=l) w1 W1:=Chg.trans t0 c1 (fun _ _ h=>.inr h);have t2:Chg (fun k=>C1 k\/k=l) w1 W2:=Chg.trans t1 R3.chg (fun k hk h=>.inl (hown k hk h));exact Chg.trans t2 c3 (fun _ _ h=>.inr h)
 refine⟨?_,((hcar R1).trans kn1).trans ((hcar R3).trans kn2)⟩;refine R3.turnW (by omega) (fun k hk hs=>oth3 k fun e=>hs (e▸hSl)) (fun k arr ty hc=>oth3 k fun e=>hn2 arr ty (e▸hc)) (fun _ _ h=>h) (fun k hk=>by rw[sz3];exact R3.lt k hk) ?_ hch rfl (by rfl) (fun t v hv=>by simp at hv);rintro k hs hc _;rcases hc with hc | hc
 · by_cases hk:k<w1.heap.size
   · exact .inl (hown k hk hc)
   · exact .inr (by omega)
 · exact .inr (by omega)
theorem tA {ρ:Nat->Nat} {S:Nat->Prop} {w:World} {D:Nat->Prop} {tm:Array Value} {n:Nat} {xs:List (Nat×AV)} (h:∀ p∈xs,∀ v,tm[p.1]? =some v->RelV ρ S w D p.2 v):
   ∀ t v,tm[t]? =some v->RelV ρ S w D ((slots n xs).getD t .any) v:=by
 unfold slots
 have:∀ (ys:List (Nat×AV)) (σ:List AV),(∀ p∈ys,∀ v,tm[p.1]? =some v->RelV ρ S w D p.2 v)->(∀ t v,tm[t]? =some v->RelV ρ S w D (σ.getD t .any) v)->
     ∀ t v,tm[t]? =some v->RelV ρ S w D ((ys.foldl (fun σ p=>σ.set p.1 p.2) σ).getD t .any) v:=by
   intro ys
   induction ys with
   | nil=>intro σ _ h2;exact h2
   | cons y ys ih=>
     intro σ h1 h2;simp only[List.foldl_cons];refine ih _ (fun p hp=>h1 p (by simp[hp])) fun t v hv=> ?_
     rw[fU]
     split
     · rename_i e;exact h1 y (by simp) v (e.1▸hv)
     · exact h2 t v hv
 refine this xs _ h fun t v hv=> ?_
 have:(List.replicate n AV.any).getD t .any= .any:=by
   simp only[List.getD_eq_getElem?_getD,List.getElem?_replicate]
   split <;> rfl
 rw[this];trivial
theorem Hc
   (R:Rel S0 C0 w0 ρ D st a w) (ho:ops[iX]? =some o) (hop:o.op= .call c) (hc:c.callee= .value g) (ha:c.args= #[x]) (hw:lM ops st.σ o=some true) (hg:bF st.σ g= .lit (.func (.yield l) #[] #[]))
   (hl:w.heap[l]? =some (.loop rec)) (hp:rec.params= #[t])
   (hround:RoundIn (dQ none) 0 P l rec.fn (rec.tmps.setIfInBounds t (a.eval x)) rec.assign rec.body w (fun e W=>∃ v,e= .returned v/\next (a.put o.dst v) W)):wpOpIn (dQ none) 0 P ops Q iX next a w:=by
 unfold wpOpIn;rw[ho];simp only;rw[nO R hw,if_pos rfl];refine⟨fun _ _=>trivial, ?_⟩
 have hgv:a.eval g= .func (.yield l) #[] #[]:=by
   have h:=R.eval g;rw[hg] at h;have h':RelCs ρ (Sof S0 ρ st.h) w D [.lit (.func (.yield l) #[] #[])] [a.eval g]:=h;generalize a.eval g=v at h';cases h' with
   | lit _ _=>rfl
 have e1:o.semAt (dQ none).round a.eval=execOp a.eval o:=rfl
 have e2:(execOp a.eval o).run P w= .ok (.round l rec.fn (rec.tmps.setIfInBounds t (a.eval x)) rec.assign rec.body) w:=by
   rw[execOp,hop];simp only[resolve,hc,hgv,ha,Deferred.ofValue,Sem.run_bind,Sem.run_pure,Result.andThen_ok,invoke]
   have:=run_yield (P:=P) (args:= #[a.eval x]) hl (by simp[hp]);simp[hp] at this;simpa using this
 rw[e1,e2];refine⟨fun h=>by simp[Fence.wide] at h,RoundIn.mono hround ?_⟩;rintro e W ⟨v,rfl,h⟩;exact h
end
end Go.Av
namespace Go.Av
open Go.Proofs Go.RowKit
def QJ:KF
 | [.agg [.q x B],.agg [.q y C]]=>some (.agg [.q (x/y) (B+C+2)],[B+C+200<=LIM,y≠0])
 | _=>none
theorem Kk:bQ 116 QJ:=by
 refine cK Tryz.f116 fun _ _ _ S w0 h ho=> ?_
 unfold QJ at h;split at h <;> cases h;rename_i x B y C;obtain⟨o1,o2⟩:=ho.e2;have L:=dR;have K:=(((kn.cons Gz).cons Gk).cons CK).cons Ak;refine rF K [] (.a6 (om (max C 64+1<=LIM)) (om (B+(C+1)+128<=LIM)) (om (max B 64+1<=LIM)) (om ((B+1)+C+128<=LIM)) (show 0<(x.den*y.num.natAbs) by exact Nat.mul_pos x.den_pos (Int.natAbs_pos.2 fun h=>o2 (Rat.num_eq_zero.1 h))) (om (max (B+(C+1)) ((B+1)+C)+128<=LIM))) (V:=.agg [.q (mkRat (iL (!((decide (x.num<0))==(decide (y.num<0)))) (x.num.natAbs*y.den)) (x.den*y.num.natAbs)) (max (B+(C+1)) ((B+1)+C))]) ?_
 refine Ref.q1 ?_ (by omega);rw[uJ,FP x y o2]
def QK:KF
 | [.agg [.z n B]]=>some (.agg [.q (n:Rat) B],[])
 | _=>none
theorem MU:bQ 108 QK:=by
 refine cK Tryz.f108 fun _ _ _ S w0 h ho=> ?_
 unfold QK at h;split at h <;> cases h;rename_i n B;exact rF .nil [] .nil (V:=.agg [.z n B,.nat 0 0]) (Ref.agg (RefC.mkq (rl _) (Nat.zero_le _) rfl rfl))
def Vr:KF
 | [.int .i64 n]=>some (.agg [.q (n:Rat) 64],[(-9223372036854775808:Int)<=n,n<=(9223372036854775807:Int)])
 | _=>none
theorem Kl:bQ 25 Vr:=by
 refine cK Tryz.f25 fun _ _ _ S w0 h ho=> ?_
 unfold Vr at h;split at h <;> cases h;rename_i n;obtain⟨o1,o2⟩:=ho.e2;have K:=((kn.cons Pq).cons Ak).cons MU;exact rF K [] (.a2 o1 o2) (V:=.agg [.q ((iL (decide (n<(0:Int))) n.natAbs):Rat) 64]) (Ref.q1 (congrArg _ (wC n)) (rl _))
theorem EX (t:Rat):0<=t*t:=by
 rcases Rat.nonneg_total t with h | h
 · exact Rat.mul_nonneg h h
 · have:=Rat.mul_nonneg h h
   rwa [Rat.neg_mul,Rat.mul_neg,Rat.neg_neg] at this
theorem iD (t:Rat):(1:Rat)+t*t≠0:=by
 have:=EX t
 grind
def Vt:KF
 | [.agg [.q t B]]=>some (.agg [.q ((1-t*t)/(1+t*t)) (4*B+200),.q ((t+t)/(1+t*t)) (4*B+200)],[4*B+800<=LIM])
 | _=>none
theorem Vu:bQ 38 Vt:=by
 refine cK Tryz.f38 fun _ _ _ S w0 h ho=> ?_
 unfold Vt at h;split at h <;> cases h;rename_i t B;have o1:=ho.one;have L:=dR;have K:=((((kn.cons Kk).cons Fp).cons LB).cons Fr).cons Kl;have v0:((1:Rat)+(t*t))≠0:=by exact iD t
 have v1:(-9223372036854775808:Int)<=1:=by decide
 have v2:1<=(9223372036854775807:Int):=by decide
 have v3:64+(B+B+2)+200<=LIM:=by omega
 exact rV K [] (.c6 (om (B+B+200<=LIM)) v1 v2 v3 v1 v2 (.c6 v3 (om ((64+(B+B+2)+2)+(64+(B+B+2)+2)+200<=LIM)) v0 (om (B+B+200<=LIM)) (om ((B+B+2)+(64+(B+B+2)+2)+200<=LIM)) v0 (.a2 (om ((64+(B+B+2)+2)+(64+(B+B+2)+2)+2<=4*B+200)) (om ((B+B+2)+(64+(B+B+2)+2)+2<=4*B+200)))))
def cQ (t:Rat):Rat:=(1-t*t)/(1+t*t)
def bN (t:Rat):Rat:=(t+t)/(1+t*t)
def xE (f:FrameD) (v:BodyD) (t:Rat):FrameD:=
 ⟨⟨f.at_.x+(f.c*v.at_.x-f.s*v.at_.z),f.at_.z+(f.s*v.at_.x+f.c*v.at_.z)⟩,f.c*cQ t-f.s*bN t,f.s*cQ t+f.c*bN t⟩
def EY (m:MachD) (p:PoseD):Nat->Nat->FrameD
 | 0,_=>⟨p.at_,cQ p.turn,bN p.turn⟩
 | n+1,i=>if i=0 then ⟨p.at_,cQ p.turn,bN p.turn⟩ else xE (EY m p n (m.bodies.getD i default).par.toNat) (m.bodies.getD i default) (p.joints.getD (i-1) default)
def fr (m:MachD) (p:PoseD) (i:Nat):FrameD:=EY m p i i
def MachD.tree (m:MachD):Prop:=∀ i,0<i->i<m.bodies.length->0<=(m.bodies.getD i default).par/\(m.bodies.getD i default).par<((i:Nat):Int)
theorem MV {m:MachD} {p:PoseD} (ht:m.tree):∀ (i n:Nat),i<m.bodies.length->i<=n->EY m p n i=EY m p i i:=by
 intro i
 induction i using Nat.strongRecOn with
 | _ i ih=>
   intro n hi hn;cases n with
   | zero => have:i=0:=by omega
             subst this;rfl
   | succ n=>
     cases i with
     | zero=>simp[EY]
     | succ i=>
       obtain⟨h1,h2⟩:=ht (i+1) (by omega) hi;have hj:(m.bodies.getD (i+1) default).par.toNat<i+1:=by omega
       rw[EY,EY,ih _ hj n (by omega) (by omega),ih _ hj i (by omega) (by omega)]
theorem uQ {m:MachD} {p:PoseD} (ht:m.tree) {i:Nat} (h0:0<i) (hi:i<m.bodies.length):
   fr m p i=xE (fr m p (m.bodies.getD i default).par.toNat) (m.bodies.getD i default) (p.joints.getD (i-1) default):=by
 obtain⟨h1,h2⟩:=ht i h0 hi;have hj:(m.bodies.getD i default).par.toNat<i:=by omega
 unfold fr;obtain⟨n,rfl⟩:∃ n,i=n+1:=⟨i-1,by omega⟩;rw[EY,if_neg (by omega),MV ht _ n (by omega) (by omega)]
def rz (jb i:Nat):Nat:=(2*jb+610)*(i+1)+jb
def SZ (jb:Nat):Nat:=17*jb+4880
theorem Km {jb i j:Nat} (h:i<=j):rz jb i<=rz jb j:=by
 have:=Nat.mul_le_mul_left (2*jb+610) (om (i+1<=j+1));unfold rz;omega
theorem rz_le {jb i:Nat} (h:i<=7):rz jb i<=SZ jb:=Nat.le_trans (Km h) (by simp only[rz,SZ];omega)
theorem QL (jb i:Nat):jb<=rz jb i:=by unfold rz;omega
def lZ (jb:Nat) (m:MachD) (p:PoseD) (i:Nat):List AV:=dS (rz jb i) (fr m p i)
theorem QM (x:Rat):0<=x*x:=by
 rcases Rat.le_total (a:=0) (b:=x) with h | h
 · exact Rat.mul_nonneg h h
 · have:=Rat.mul_nonneg (show 0<= -x by grind) (show 0<= -x by grind);grind
def QB (B:Nat) (x:Rat):Prop:=x.num.natAbs<2^B/\x.den-1<2^B
def Wh (N:Nat) (x:Rat):Prop:=∃ k:Int,x*((N:Int):Rat)=(k:Rat)
theorem Wh.of (x:Rat):Wh x.den x:=⟨x.num,by
 have h:x=(x.num:Rat)/((x.den:Int):Rat):=by rw[<- Rat.divInt_eq_div,Rat.num_divInt_den]
 have h0:((x.den:Int):Rat)≠0:=fun h=>by
   have:=Rat.intCast_eq_zero_iff.1 h
   have:=x.den_nz;omega
 grind⟩
theorem Wh.add {N:Nat} {x y:Rat}:Wh N x->Wh N y->Wh N (x+y):=fun⟨k,h⟩ ⟨l,e⟩=>⟨k+l,by rw[Rat.add_mul,h,e,Rat.intCast_add]⟩
theorem Wh.sub {N:Nat} {x y:Rat}:Wh N x->Wh N y->Wh N (x-y):=fun⟨k,h⟩ ⟨l,e⟩=>⟨k-l,by rw[Rat.intCast_sub, <- h, <- e];grind⟩
theorem Wh.mul {N M:Nat} {x y:Rat}:Wh N x->Wh M y->Wh (N*M) (x*y):=fun⟨k,h⟩ ⟨l,e⟩=>⟨k*l,by rw[Int.natCast_mul,Rat.intCast_mul,Rat.intCast_mul, <- h, <- e];grind⟩
theorem Wh.up {N:Nat} (M:Nat) {x:Rat}:Wh N x->Wh (N*M) x:=fun⟨k,h⟩=>⟨k*(M:Int),by rw[Int.natCast_mul,Rat.intCast_mul,Rat.intCast_mul, <- h];grind⟩
theorem Wh.den {N:Nat} {x:Rat} (h0:0<N):Wh N x->x.den<=N:=fun⟨k,h⟩=>by
 have hn:((N:Int):Rat)≠0:=fun h=>by have:=Rat.intCast_eq_zero_iff.1 h;omega
 have e:x=Rat.divInt k N:=by rw[Rat.divInt_eq_div];grind
 rw[e,Rat.den_divInt,if_neg (by omega)];exact Nat.le_trans (Nat.div_le_self _ _) (by simp)
theorem QB.of {N K B:Nat} {x:Rat} (h0:0<N) (hw:Wh N x) (h1: -((K:Int):Rat)<=x) (h2:x<=((K:Int):Rat)) (hB:K*N<2^B) (hN:N<=2^B):QB B x:=by
 have hd:=hw.den h0;obtain⟨k,hk⟩:=Wh.of x;refine⟨?_,by have:=x.den_pos;omega⟩
 have e:x*((x.den:Int):Rat)=(x.num:Rat):=by
   have h:x=(x.num:Rat)/((x.den:Int):Rat):=by rw[<- Rat.divInt_eq_div,Rat.num_divInt_den]
   have h0:((x.den:Int):Rat)≠0:=fun h=>by
     have:=Rat.intCast_eq_zero_iff.1 h
     have:=x.den_nz;omega
   grind
 have hd0:(0:Rat)<=((x.den:Int):Rat):=by
   have:((0:Int):Rat)<=((x.den:Int):Rat):=Rat.intCast_le_intCast.2 (by omega);exact this
 have u1:((x.num:Int):Rat)<=(((K:Int)*(x.den:Int):Int):Rat):=by
   rw[Rat.intCast_mul, <- e];exact Rat.mul_le_mul_of_nonneg_right h2 hd0
 have u2:((-((K:Int)*(x.den:Int)):Int):Rat)<=((x.num:Int):Rat):=by
   rw[Rat.intCast_neg,Rat.intCast_mul, <- e, <- Rat.neg_mul];exact Rat.mul_le_mul_of_nonneg_right h1 hd0
 have v1:=Rat.intCast_le_intCast.1 u1;have v2:=Rat.intCast_le_intCast.1 u2
 have v3:(K:Int)*(x.den:Int)<=((K*N:Nat):Int):=by
   rw[Int.natCast_mul];exact Int.mul_le_mul_of_nonneg_left (by omega) (by omega)
 omega
theorem pJ {c s:Rat} (h:c*c+s*s=1): -1<=c/\c<=1:=by
 have h2:=QM s;refine⟨Rat.not_lt.1 fun h1=> ?_,Rat.not_lt.1 fun h1=> ?_⟩
 · have:=Rat.mul_pos (show 0< -1-c by grind) (show 0<1-c by grind);grind
 · have:=Rat.mul_pos (show 0<c-1 by grind) (show 0<c+1 by grind);grind
theorem iU {a b:Nat} (h:a<=b):2^a<=2^b:=Nat.pow_le_pow_right (by decide) h
theorem Hd {a b c k x y z:Nat} (hk:k=a+b+c) (h1:x<=2^a) (h2:y<=2^b) (h3:z<=2^c):x*(y*z)<=2^k:=by
 subst hk;rw[Nat.pow_add,Nat.pow_add,Nat.mul_assoc];exact Nat.mul_le_mul h1 (Nat.mul_le_mul h2 h3)
theorem zP {c s:Rat} (h:c*c+s*s=1):s*s+c*c=1:=by rw[Rat.add_comm];exact h
theorem He {c s C S:Rat} (h:c*c+s*s=1) (k:C*C+S*S=1):(c*C-s*S)*(c*C-s*S)+(s*C+c*S)*(s*C+c*S)=1:=by grind
theorem Au {B:Nat} {x:Rat} (h:x.num.natAbs<2^B/\x.den-1<2^B):x.den<=2^B:=by omega
theorem Kn {i a b:Nat} (h:a<=b):(2*i+1)*b+(a+a)<=(2*(i+1)+1)*b:=by
 simp only[Nat.add_mul,Nat.mul_add];omega
def Ab (K:Nat) (x:Rat):Prop:= -((K:Int):Rat)<=x/\x<=((K:Int):Rat)
theorem Ab.mul1 {K:Nat} {c a:Rat} (h: -1<=c/\c<=1) (k:Ab K a):Ab K (c*a):=by
 obtain⟨h1,h2⟩:=h;obtain⟨k1,k2⟩:=k;unfold Ab;generalize ((K:Int):Rat)=K at*;have q1:=Rat.mul_nonneg (show 0<=1-c by grind) (show 0<=K+a by grind);have q2:=Rat.mul_nonneg (show 0<=1+c by grind) (show 0<=K-a by grind);have q3:=Rat.mul_nonneg (show 0<=1-c by grind) (show 0<=K-a by grind);have q4:=Rat.mul_nonneg (show 0<=1+c by grind) (show 0<=K+a by grind);constructor <;> grind
theorem Ab.add {K L:Nat} {x y:Rat} (h:Ab K x) (k:Ab L y):Ab (K+L) (x+y):=by
 unfold Ab at*;rw[Int.natCast_add,Rat.intCast_add];grind
theorem Ab.sub {K L:Nat} {x y:Rat} (h:Ab K x) (k:Ab L y):Ab (K+L) (x-y):=by
 unfold Ab at*;rw[Int.natCast_add,Rat.intCast_add];grind
theorem Ab.le {K L:Nat} {x:Rat} (h:Ab K x) (k:K<=L):Ab L x:=by
 have:((K:Int):Rat)<=((L:Int):Rat):=Rat.intCast_le_intCast.2 (by omega);unfold Ab at*;grind
theorem QB.ab {B:Nat} {x:Rat} (h:QB B x):Ab (2^B) x:=by
 have e:x*((x.den:Int):Rat)=(x.num:Rat):=by
   have h:x=(x.num:Rat)/((x.den:Int):Rat):=by rw[<- Rat.divInt_eq_div,Rat.num_divInt_den]
   have h0:((x.den:Int):Rat)≠0:=fun h=>by
     have:=Rat.intCast_eq_zero_iff.1 h
     have:=x.den_nz;omega
   grind
 have hd:(1:Rat)<=((x.den:Int):Rat):=by
   have:=x.den_pos;have:((1:Int):Rat)<=((x.den:Int):Rat):=Rat.intCast_le_intCast.2 (by omega);exact this
 obtain⟨h1,_⟩:=h;have u1:(x.num:Rat)<=(((2^B:Nat):Int):Rat):=Rat.intCast_le_intCast.2 (by omega);have u2: -(((2^B:Nat):Int):Rat)<=(x.num:Rat):=by rw[<- Rat.intCast_neg];exact Rat.intCast_le_intCast.2 (by omega)
 have u3:(0:Rat)<=(((2^B:Nat):Int):Rat):=by
   have:((0:Int):Rat)<=(((2^B:Nat):Int):Rat):=Rat.intCast_le_intCast.2 (by omega);exact this
 unfold Ab;generalize (((2^B:Nat):Int):Rat)=K at*;generalize ((x.den:Int):Rat)=d at*;refine⟨Rat.not_lt.1 fun h=> ?_,Rat.not_lt.1 fun h=> ?_⟩
 · have:=Rat.mul_nonneg (show 0<=d-1 by grind) (show 0<= -K-x by grind)
   have:=Rat.mul_nonneg (show 0<=d-1 by grind) u3
   grind
 · have:=Rat.mul_nonneg (show 0<=d-1 by grind) (show 0<=x-K by grind)
   have:=Rat.mul_nonneg (show 0<=d-1 by grind) u3
   grind
theorem DO {B:Nat} {t:Rat} (h:QB B t):∃ D:Nat,0<D/\D<=2^(2*B+1)/\Wh D (cQ t)/\Wh D (bN t)/\cQ t*cQ t+bN t*bN t=1:=by
 have h1:=iD t;refine⟨t.num.natAbs*t.num.natAbs+t.den*t.den, ?_, ?_, ?_⟩
 · have:=Nat.mul_pos t.den_pos t.den_pos;omega
 · obtain⟨a,b⟩:=h
   have e:2^(2*B+1)=2^B*2^B+2^B*2^B:=by rw[Nat.pow_succ,show 2*B=B+B by omega,Nat.pow_add];omega
   have:=Nat.mul_le_mul (Nat.le_of_lt a) (Nat.le_of_lt a);have h2:t.den<=2^B:=by omega
   have:=Nat.mul_le_mul h2 h2;omega
 · have ec:(((t.num.natAbs*t.num.natAbs+t.den*t.den:Nat):Int):Rat)=(t.num:Rat)*(t.num:Rat)+((t.den:Int):Rat)*((t.den:Int):Rat):=by
     rw[Int.natCast_add,Int.natAbs_mul_self,Int.natCast_mul,Rat.intCast_add,Rat.intCast_mul,Rat.intCast_mul]
   have h:t=(t.num:Rat)/((t.den:Int):Rat):=by rw[<- Rat.divInt_eq_div,Rat.num_divInt_den]
   have h0:((t.den:Int):Rat)≠0:=fun h=>by
     have:=Rat.intCast_eq_zero_iff.1 h
     have:=t.den_nz;omega
   refine⟨⟨t.den*t.den-t.num*t.num, ?_⟩,⟨t.num*t.den+t.num*t.den, ?_⟩, ?_⟩
   · rw[ec,Rat.intCast_sub,Rat.intCast_mul,Rat.intCast_mul];unfold cQ;grind
   · rw[ec,Rat.intCast_add,Rat.intCast_mul];unfold bN;grind
   · unfold cQ bN;grind
def FB (jb i:Nat) (f:FrameD):Prop:=∃ D N:Nat,0<D/\0<N/\D<=2^((2*jb+1)*(i+1))/\N<=2^(2*jb+600*i)/\Wh D f.c/\Wh D f.s/\f.c*f.c+f.s*f.s=1/\
 Wh (D*N) f.at_.x/\Wh (D*N) f.at_.z/\Ab ((2*i+1)*2^(jb+300)) f.at_.x/\Ab ((2*i+1)*2^(jb+300)) f.at_.z
theorem FB.mono {jb i j:Nat} {f:FrameD} (h:FB jb i f) (k:i<=j):FB jb j f:=by
 obtain⟨D,N,d0,n0,h1,h2,h3,h4,h5,h6,h7,h8,h9⟩:=h;have e:(2*i+1)*2^(jb+300)<=(2*j+1)*2^(jb+300):=Nat.mul_le_mul_right _ (by omega);exact⟨D,N,d0,n0,Nat.le_trans h1 (iU (Nat.mul_le_mul_left _ (by omega))),Nat.le_trans h2 (iU (by omega)),h3,h4,h5,h6,h7,h8.le e,h9.le e⟩
theorem FB.zero {jb:Nat} {p:PtD} {t:Rat} (hx:QB jb p.x) (hz:QB jb p.z) (ht:QB jb t):FB jb 0 ⟨p,cQ t,bN t⟩:=by
 obtain⟨D,d0,d1,w1,w2,w3⟩:=DO ht;have e:2^jb<=(2*0+1)*2^(jb+300):=by rw[Nat.mul_zero,Nat.zero_add,Nat.one_mul];exact iU (by omega)
 have c:∀ N:Nat,D*N=N*D:=fun N=>Nat.mul_comm ..
 refine⟨D,p.x.den*p.z.den,d0,Nat.mul_pos p.x.den_pos p.z.den_pos,Nat.le_trans d1 (iU (by omega)), ?_,w1,w2,w3, ?_, ?_,hx.ab.le e,hz.ab.le e⟩
 · rw[Nat.mul_zero,Nat.add_zero,show 2*jb=jb+jb by omega,Nat.pow_add]
   exact Nat.mul_le_mul (Au hx) (Au hz)
 · rw[c,Nat.mul_assoc];exact(Wh.of p.x).up _
 · rw[c,Nat.mul_comm p.x.den,Nat.mul_assoc];exact(Wh.of p.z).up _
theorem FB.step {jb i:Nat} {f:FrameD} {v:BodyD} {t:Rat} (h:FB jb i f) (hx:QB 300 v.at_.x) (hz:QB 300 v.at_.z) (ht:QB jb t):FB jb (i+1) (xE f v t):=by
 obtain⟨D,N,d0,n0,h1,h2,h3,h4,h5,h6,h7,h8,h9⟩:=h;obtain⟨E,e0,e1,w1,w2,w3⟩:=DO ht;have hs:=zP h5;have e:=Kn (i:=i) (iU (om (300<=jb+300)));have p1:Wh (D*N*(v.at_.x.den*v.at_.z.den)*E) f.at_.x:=(h6.up _).up _;have p2:Wh (D*N*(v.at_.x.den*v.at_.z.den)*E) f.at_.z:=(h7.up _).up _
 have q:∀ {c:Rat},Wh D c->Wh (D*N*(v.at_.x.den*v.at_.z.den)*E) (c*v.at_.x)/\Wh (D*N*(v.at_.x.den*v.at_.z.den)*E) (c*v.at_.z):=fun hc=>by
   constructor
   · have:=(((hc.mul (Wh.of v.at_.x)).up N).up v.at_.z.den).up E
     rwa [show D*v.at_.x.den*N*v.at_.z.den*E=D*N*(v.at_.x.den*v.at_.z.den)*E by simp only[Nat.mul_left_comm,Nat.mul_comm]] at this
   · have:=(((hc.mul (Wh.of v.at_.z)).up N).up v.at_.x.den).up E
     rwa [show D*v.at_.z.den*N*v.at_.x.den*E=D*N*(v.at_.x.den*v.at_.z.den)*E by simp only[Nat.mul_left_comm,Nat.mul_comm]] at this
 have r:D*N*(v.at_.x.den*v.at_.z.den)*E=D*E*(N*(v.at_.x.den*v.at_.z.den)):=by simp only[Nat.mul_left_comm,Nat.mul_comm]
 rw[r] at p1 p2 q
 refine⟨D*E,N*(v.at_.x.den*v.at_.z.den),Nat.mul_pos d0 e0,Nat.mul_pos n0 (Nat.mul_pos v.at_.x.den_pos v.at_.z.den_pos), ?_, ?_,(h3.mul w1).sub (h4.mul w2),(h4.mul w1).add (h3.mul w2), ?_,
   p1.add ((q h3).1.sub (q h4).2),p2.add ((q h4).1.add (q h3).2), ?_, ?_⟩
 · rw[Nat.mul_add,Nat.mul_one,Nat.pow_add];exact Nat.mul_le_mul h1 e1
 · exact Hd (by omega) h2 (Au hx) (Au hz)
 · exact He h5 w3
 · exact(h8.add ((hx.ab.mul1 (pJ h5)).sub (hz.ab.mul1 (pJ hs)))).le e
 · exact(h9.add ((hx.ab.mul1 (pJ hs)).add (hz.ab.mul1 (pJ h5)))).le e
theorem EZ {x y A B k:Nat} (h:x<2^k) (h2:y<=2^A):x*2^B*y<2^(A+B+k):=by
 rw[Nat.pow_add,Nat.pow_add];have h3:x*2^B*y<=x*2^B*2^A:=Nat.mul_le_mul_left _ h2;have h4:x*(2^B*2^A)<2^k*(2^B*2^A):=Nat.mul_lt_mul_of_pos_right h (Nat.mul_pos (Nat.two_pow_pos _) (Nat.two_pow_pos _));rw[Nat.mul_assoc x (2^B) (2^A)] at h3;refine Nat.lt_of_le_of_lt h3 (Nat.lt_of_lt_of_le h4 (Nat.le_of_eq ?_));rw[Nat.mul_comm,Nat.mul_comm (2^B)]
theorem FB.qb {jb i:Nat} {f:FrameD} (h:FB jb i f) (hi:i<=7):QB (2*rz jb i) f.at_.x/\QB (2*rz jb i) f.at_.z/\QB (rz jb i) f.c/\QB (rz jb i) f.s:=by
 obtain⟨D,N,d0,n0,h1,h2,h3,h4,h5,h6,h7,h8,h9⟩:=h;have hs:=zP h5
 have e1:(2*jb+1)*(i+1)+1<=rz jb i:=by
   unfold rz;simp only[Nat.add_mul,Nat.mul_add,Nat.mul_one];omega
 have e2:(2*jb+1)*(i+1)+(2*jb+600*i)+(jb+300)+4<=2*rz jb i:=by
   unfold rz;simp only[Nat.add_mul,Nat.mul_add,Nat.mul_one];omega
 have hD:D*1<2^rz jb i:=by
   have:=iU e1;rw[Nat.pow_succ] at this
   have:=Nat.two_pow_pos ((2*jb+1)*(i+1));omega
 have hDN:D*N<=2^((2*jb+1)*(i+1)+(2*jb+600*i)):=by rw[Nat.pow_add];exact Nat.mul_le_mul h1 h2
 have hK:(2*i+1)*2^(jb+300)*(D*N)<2^(2*rz jb i):=by
   exact Nat.lt_of_lt_of_le (EZ (om (2*i+1<2^4)) hDN) (iU e2)
 have hN:D*N<=2^(2*rz jb i):=Nat.le_trans hDN (iU (by omega));have u:=pJ h5;have w:=pJ hs;have m0:=Nat.mul_pos d0 n0;exact⟨.of m0 h6 h8.1 h8.2 hK hN,.of m0 h7 h9.1 h9.2 hK hN,.of (K:=1) d0 h3 u.1 u.2 (by omega) (by omega),.of (K:=1) d0 h4 w.1 w.2 (by omega) (by omega)⟩
def Co (jb:Nat) (m:MachD) (p:PoseD):Prop:=QB jb p.at_.x/\QB jb p.at_.z/\QB jb p.turn/\(∀ i,i<p.joints.length->QB jb (p.joints.getD i default))/\(∀ i,i<m.bodies.length->QB 300 (m.bodies.getD i default).at_.x/\QB 300 (m.bodies.getD i default).at_.z)
theorem QN {jb:Nat} {m:MachD} {p:PoseD} (hB:Co jb m p) (ht:m.tree) (hj:m.bodies.length<=p.joints.length+1):∀ i,i<m.bodies.length->FB jb i (fr m p i):=by
 obtain⟨b1,b2,b3,b4,b5⟩:=hB;intro i
 induction i using Nat.strongRecOn with
 | _ i ih=>
   intro hi;rcases Nat.eq_zero_or_pos i with rfl | h0
   · exact FB.zero b1 b2 b3
   · obtain⟨h1,h2⟩:=ht i h0 hi
     rw[uQ ht h0 hi];obtain⟨k,rfl⟩:∃ k,i=k+1:=⟨i-1,by omega⟩;obtain⟨c1,c2⟩:=b5 (k+1) hi;exact((ih _ (by omega) (by omega)).mono (by omega)).step c1 c2 (b4 k (by omega))
def FQ (e:Nat) (f:FrameD):Prop:=QB (2*e) f.at_.x/\QB (2*e) f.at_.z/\QB e f.c/\QB e f.s
theorem BU {jb:Nat} {m:MachD} {p:PoseD} (hB:Co jb m p) (ht:m.tree) (hj:m.bodies.length<=p.joints.length+1) {i:Nat} (hi:i<m.bodies.length) (h8:m.bodies.length<=8):FQ (rz jb i) (fr m p i):=(QN hB ht hj i hi).qb (by omega)
theorem RefC.nat_to {n B C:Nat} {cs:List AV} (h:n<2^C):RefC (.nat n B::cs) (.nat n C::cs):=fun ρ S w D vs x=>by
 cases x with
 | nat xs h1 h2 h3 h4=>exact .nat xs h1 h2 h h4
theorem RefC.q_of {x y:Rat} {B C:Nat} {cs:List AV} (e:x=y) (h:QB C y):RefC (.q x B::cs) (.q y C::cs):=fun ρ S w D vs k=>by
 subst e;cases k with
 | q h1=>
   cases h1 with
   | z h2=>exact .q (.z (((RefC.tl (RefC.nat_to h.1)).trans (RefC.tl (RefC.tl (RefC.nat_to h.2)))) _ _ _ _ _ h2))
theorem Ref.frame {f:FrameD} {x z c s:Rat} {X Z C S e:Nat} (hx:f=⟨⟨x,z⟩,c,s⟩) (h:FQ e f):Ref (.agg [.q x X,.q z Z,.q c C,.q s S]) (.agg (dS e f)):=by
 subst hx;exact Ref.agg (RefC.cons (RefC.q_of rfl h.1) (RefC.cons (RefC.q_of rfl h.2.1) (RefC.cons (RefC.q_of rfl h.2.2.1) (RefC.q_of rfl h.2.2.2))))
theorem RelCs.qb {ρ:Nat->Nat} {S:Nat->Prop} {w:World} {D:Nat->Prop} {x:Rat} {B:Nat} {cs:List AV} {vs:List Value} (h:RelCs ρ S w D (.q x B::cs) vs):QB B x/\∃ vs',RelCs ρ S w D cs vs':=by
 cases h with
 | q h1=>
   cases h1 with
   | z h2=>
     cases h2 with
     | bool h3=>
       cases h3 with
       | nat xs a1 a2 a3 a4=>
         cases a4 with
         | list f b1 b2 b3 b4 b5 b6=>
           cases b6 with
           | nat ys c1 c2 c3 c4=>
             cases c4 with
             | list g d1 d2 d3 d4 d5 d6=>exact⟨⟨a3,c3⟩,_,d6⟩
theorem QB.mono {B C:Nat} {x:Rat} (h:QB B x) (k:B<=C):QB C x:=⟨Nat.lt_of_lt_of_le h.1 (iU k),Nat.lt_of_lt_of_le h.2 (iU k)⟩
theorem Hf {jb:Nat} {m:MachD} {p:PoseD} {ρ ρ':Nat->Nat} {S S':Nat->Prop} {w w':World} {D D':Nat->Prop} {us vs:List Value} (h1:RelCs ρ S w D (aD 300 m) us) (h2:RelCs ρ' S' w' D' (aW jb p) vs):Co jb m p:=by
 obtain⟨q1,_,h2⟩:=h2.qb;obtain⟨q2,_,h2⟩:=h2.qb;obtain⟨q3,_,h2⟩:=h2.qb;refine⟨q1,q2,q3,fun i hi=> ?_,fun i hi=> ?_⟩
 · cases h2 with
   | list f b1 b2 b3 b4 b5 b6=>
     have:=b4 i [.q (p.joints.getD i default) jb] (by rw[List.getElem?_map,List.getElem?_eq_getElem hi];simp[bG,mQ,hi]);exact this.qb.1
 · cases h1 with
   | str h1=>
     cases h1 with
     | list f b1 b2 b3 b4 b5 b6=>
       have:=b4 i (aE 300 (m.bodies.getD i default)) (by rw[List.getElem?_map,List.getElem?_eq_getElem hi];simp[mQ,hi]);generalize f i=z at this;cases this with
       | str k1=>
         cases k1 with
         | int k2=>
           obtain⟨q4,_,k3⟩:=k2.qb;exact⟨q4,k3.qb.1⟩
theorem RefC.rq_mk {x:Rat} {n e:Int} {d B C E:Nat} {cs:List AV} (hn:n=x.num) (he:e=(d:Int)) (hd:d=x.den\/d=0/\x.den=1) (hB:B<=E) (hC:C<=E):RefC (.rz n B:: .rz e C::cs) (.rq x d E::cs):=fun ρ S w D vs y=>by
 subst hn;subst he;exact .rq hd (((RefC.rz_le hB).trans (RefC.tl (RefC.rz_le hC))) _ _ _ _ _ y)
theorem RefC.rq_e {x y:Rat} {B C:Nat} {cs:List AV} (h:x=y) (k:B<=C):RefC (.rq x x.den B::cs) (.rq y y.den C::cs):=by subst h;exact RefC.rq_le k
theorem rT (x:Rat):x=(x.num:Rat)/((x.den:Int):Rat):=by rw[<- Rat.divInt_eq_div,Rat.num_divInt_den]
def QO:KF
 | [.int .i64 n]=>some (.agg [.rq (Int.cast n:Rat) 1 64],[(-9223372036854775808:Int)<=n,n<=(9223372036854775807:Int)])
 | _=>none
theorem QP:bQ 144 QO:=by
 refine cK Tryz.f144 fun _ _ _ S w0 h ho=> ?_
 unfold QO at h;split at h <;> cases h;rename_i n;obtain⟨o1,o2⟩:=ho.e2;have K:=kn.cons EQ;exact rF K [] (.a4 o1 o2 (dc ((-9223372036854775808:Int)<=1)) (dc (1<=(9223372036854775807:Int)))) (V:=.agg [.rz n 64,.rz 1 64]) (Ref.agg (RefC.rq_mk rfl rfl (.inl rfl) (by omega) (by omega)))
def QQ:KF
 | [.agg [.rq x d B],.agg [.rq y e C]]=>some (.agg [.rq (x/y) (x/y).den (max B 64+max C 64)],[d=x.den,e=y.den,y≠0,max B 64+max C 64+max B 64+max C 64+500<=LIM])
 | _=>none
theorem TQ:bQ 176 QQ:=by
 refine cK Tryz.f176 fun _ _ _ S w0 h ho=> ?_
 unfold QQ at h;split at h <;> cases h;rename_i x d B y e C;obtain⟨o1,o2,o3,o4⟩:=ho.e4;have L:=dR;have K:=((kn.cons JV).cons MF).cons JW;have hx:=x.den_nz;have hy:=y.den_nz;have ix:=rT x;have iy:=rT y;have kx:((x.den:Int):Rat)≠0:=fun h=>by have:=Rat.intCast_eq_zero_iff.1 h;omega
 have ky:((y.den:Int):Rat)≠0:=fun h=>by have:=Rat.intCast_eq_zero_iff.1 h;omega
 have hn:y.num≠0:=fun h=>o3 (Rat.num_eq_zero.1 h)
 have hm:((d:Nat):Int)*y.num≠0:=Int.mul_ne_zero (by omega) hn;have kn:(y.num:Rat)≠0:=fun h=>hn (Rat.intCast_eq_zero_iff.1 h)
 have hq:(Int.cast (x.num*((e:Nat):Int)):Rat)/(Int.cast (((d:Nat):Int)*y.num):Rat)=x/y:=by rw[o1,o2,Rat.intCast_mul,Rat.intCast_mul];grind
 refine rF K [] (.a6 (show e≠0 by first | omega | assumption) (show B+(max C 64)+128<=LIM by first | omega | assumption) (show d≠0 by first | omega | assumption) (show(max B 64)+C+128<=LIM by first | omega | assumption) hm (show max (B+(max C 64)) ((max B 64)+C)+max (B+(max C 64)) ((max B 64)+C)+300<=LIM by first | omega | assumption)) (V:=.agg [.rq ((Int.cast (x.num*(e:Int)):Rat)/(Int.cast ((d:Int)*y.num):Rat)) (((Int.cast (x.num*(e:Int)):Rat)/(Int.cast ((d:Int)*y.num):Rat)).den) (max (B+(max C 64)) ((max B 64)+C))]) ?_
 rw[hq];exact Ref.agg (RefC.rq_le (by omega))
def QR:KF
 | [.agg [.rq x d B]]=>some (.agg [.rq (-x) x.den (max B 64)],[d=x.den])
 | _=>none
theorem QS:bQ 147 QR:=by
 refine cK Tryz.f147 fun _ _ _ S w0 h ho=> ?_
 unfold QR at h;split at h <;> cases h;rename_i x d B;have o1:=ho.one;have K:=(kn.cons JW).cons PK;exact rF K [] (.a1 (show d≠0 by rw[o1];exact x.den_nz)) (V:=.agg [.rz (-x.num) B,.rz (d:Int) (max B 64)]) (Ref.agg (RefC.rq_mk rfl (by rw[o1]) (.inl rfl) (by omega) (by omega)))
def uR:=kn.cons SR
def iO (l:List SpotD):List (List AV):=(l.map SpotD.pt).map (eY 300)
def iP (l:List SpotD):List (List AV):=(l.map SpotD.pt).map (hG 300)
def Vv:KF
 | [.list 6 X]=>some (.tup [.list 6 (iO (X.map cY)),.list 8 (iP (X.map cY))],[X=(X.map cY).map unSpot,∀ s∈X.map cY,s.ok,X.length*128<=140737488355328])
 | _=>none
section
variable {S:Nat->Prop} {w0:World}
theorem MW (ls:List SpotD) (hok:∀ s∈ls,s.ok) (hL:ls.length*128<=140737488355328):
   GF 53 S w0 (.tup [.list 6 (iO ls),.list 8 (iP ls)])
   [.code (aN [1,1,1,0,1,0,0] (aA Tryz.f53)),.inLoop (aN [1,1,1,0,1,0,0] (aA Tryz.f53)),.inBlock 0,.code (aN [1,1,1,1] (aA Tryz.f53))]
   ⟨slots 33 [(0,.list 6 (ls.map unSpot)),(4,.nil),(5,.nil),(6,.i6 ((0:Nat):Int))],[]⟩:=by
 refine wW (XS:=iO ls) (YS:=iP ls) ls.length (fun i=>eY 300 (ls.getD i default).pt) (fun i=>hG 300 (ls.getD i default).pt) (fun a b i h=>⟨slots 33 [(0,.list 6 (ls.map unSpot)),(4,a),(5,b),(6,.i6 ((i:Nat):Int))],h⟩) 0 1 6 8 58 68 ?_ ?_ ?_ ?_ (by rw[iO,List.map_map];exact eA (f:=fun s=>eY 300 s.pt) ls) (by rw[iP,List.map_map];exact eA (f:=fun s=>hG 300 s.pt) ls) ?_
 · intro hp hg
   have hs:=hok _ (dN hp);have v0:(0:Int)<((ls.map unSpot).length:Int):=by rw[bH];omega
   exact gR uR none [0,4,5,6] [4,6] [(12,tt),(18,.cptr (unSpot (ls.getD 0 default)) 0),(14,.i6 ((0+1:Nat):Int))] (.c6 (iT v0) (show Ref (.cptr ((ls.map unSpot).getD 0 []) 0) (.cptr (unSpot (ls.getD 0 default)) 0) from Ref.cmap hp) (nn 0) v0 hs.1 hs.2 (.c6 r1 (dc (0<1)) (dc (1*112<=140737488355328)) (dc (1<=big)) r1 (dc (0<1)) (.a3 (dc (1*128<=140737488355328)) (dc (1<=big)) (wI ((0:Int)+(1:Int)) ((0+1:Nat):Int))))) hg
 · intro i A B hi hlt hA hB hg
   have hs:=hok _ (dN hlt);have v1:(i:Int)<((ls.map unSpot).length:Int):=by rw[bH];omega
   exact gR uR none [0,4,5,6] [6,8] [(12,tt),(18,.cptr (unSpot (ls.getD i default)) 0),(14,.i6 ((i+1:Nat):Int))] (.c6 (iT v1) (show Ref (.cptr ((ls.map unSpot).getD i []) 0) (.cptr (unSpot (ls.getD i default)) 0) from Ref.cmap hlt) (nn i) v1 hs.1 hs.2 (.c6 r1 (show i=A.length from hA.symm) (om ((i+1)*112<=140737488355328)) (show i+1<=big by unfold big;omega) r1 (show i=B.length from hB.symm) (.a3 (om ((i+1)*128<=140737488355328)) (show i+1<=big by unfold big;omega) (wI ((i:Int)+(1:Int)) ((i+1:Nat):Int))))) hg
 · intro A B hp hA hB hg
   refine Good.freezeD (b:=⟨58,6,true,A,none⟩) 0 (by rfl) (by rfl) (.cons (by show 0+ls.length<=A.length;omega) .nil) .nil ?_;refine Good.freezeD (b:=⟨68,8,true,B,none⟩) 1 (by rfl) (by rfl) (.cons (by show 0+ls.length<=B.length;omega) .nil) .nil ?_;refine Good.tidy [] (by decide) (σ':=slots 33 [(0,.list 6 (ls.map unSpot)),(4,.list 6 ((A.drop 0).take ls.length)),(5,.list 8 ((B.drop 0).take ls.length)),(6,.i6 ((ls.length:Nat):Int))]) (h':=[]) (by kernel_rfl) (by kernel_rfl) ?_;rw[List.drop_zero,List.drop_zero,fQ (by omega),fQ (by omega)];exact hg
 · intro h0 hg
   exact Good.weak 33 [(0,_),(4,_),(5,_),(6,_)] (by kernel_rfl) (.r (.cons Ref.nilL (.cons Ref.nilL (.r .nil)))) hg
 · exact rR uR [(12,ff)] (.a1 (iF (show ¬ ((ls.length:Int)<((ls.map unSpot).length:Int)) by rw[bH];omega)))
end
theorem Wf:bQ 53 Vv:=fun args r ob h ho=>by
 unfold Vv at h
 split at h
 · rename_i X
   cases h;have o1:X=(X.map cY).map unSpot:=ho _ (by simp);have o2:∀ s∈X.map cY,s.ok:=ho _ (by simp);have o3:(X.map cY).length*128<=140737488355328:=by rw[bH];exact ho _ (by simp)
   clear ho;generalize X.map cY=ls at*;subst o1;refine af Tryz.f53 fun S w0=> ?_
   have e:kC [AV.list 6 (ls.map unSpot)] Tryz.f53.ntmps=⟨slots 33 [(0,.list 6 (ls.map unSpot))],[]⟩:=by kernel_rfl
   rw[e];clear e;exact gN uR [0,4,5,6] [] .nil (MW ls o2 o3)
 · cases h
def eH:=(((kn.cons Ti).cons Wf).cons SQ).cons SR
def Vw:KF
 | [.agg R]=>some (.tup [.agg (aD 300 (hH R).real),.agg (mS 300 (hH R).real)],[R=cL (hH R),(hH R).ok])
 | _=>none
theorem AllP.of_eq {l l':List Prop} (h:l=l') (k:AllP l'):AllP l:=by rw[h];exact k
theorem RefC.nilL {e:Nat} {cs:List AV}:RefC (.nil::cs) (.list e []::cs):=RefC.cons (fun ρ S w D vs h=>by
 cases h with
 | nil h2=>exact .list (fun _=>[]) (by simp) (by unfold big;omega) (by simp) (by simp) (by simp) h2) RefC.rfl'
theorem Good.castH {P:Program} {f:FuncId} {S0 C0:Nat->Prop} {w0:World} {Post:Value->World->Prop} {todo:List Item} {σ:List AV} {h h':List (Option ABlk)} (e:h=h') (hg:Good P f S0 C0 w0 Post todo ⟨σ,h'⟩):Good P f S0 C0 w0 Post todo ⟨σ,h⟩:=by rw[e];exact hg
theorem rU (r:RigD):hH (cL r)=r:=by cases r;simp only[hH,cL,ES,ET,CM,EU]
section
variable {S:Nat->Prop} {w0:World}
noncomputable abbrev QT (S:Nat->Prop) (w0:World) (r:RigD):=eD S w0 (.tup [.agg (aD 300 r.real),.agg (mS 300 r.real)])
abbrev kQ:ABlk:=⟨41,6,false,[[.str (ByteArray.mk #[]),.nil,.nil,.nil,.nil,.nil]],none⟩
abbrev jJ:ABlk:=⟨48,5,false,[[.nil,.nil,.nil,.nil,.nil]],none⟩
abbrev LC (r:RigD):List AV:=[.list 6 (iO (r.soles.getD 0 default).pts),.list 8 (iP (r.soles.getD 0 default).pts)]
theorem Hg (r:RigD) (hok:r.ok):Good Tryz.prog 18 S No w0 (QT S w0 r) [.code (aN [1,1,1,1,1,1,1,0,1,0,0] (aA Tryz.f18)),.inLoop (aN [1,1,1,1,1,1,1,0,1,0,0] (aA Tryz.f18)),.inBlock 8,.code (aN [1,1,1,1,1,1,1,1] (aA Tryz.f18))] ⟨slots 359 [(1,.ptr 0 5 0 0),(2,.ptr 1 6 0 0),(3,.ptr 2 5 0 0),(4,.ptr 3 6 0 0),(5,.ptr 4 5 0 0),(48,.i6 ((0:Nat):Int))],[some ⟨27,5,false,[cL r],none⟩,some (kQ),some (jJ),some ⟨41,6,false,[[.str kO,.list 27 (r.real.bodies.map (aE 300)),.list 17 (r.real.springs.map (aJ 300)),.list 17 (r.real.tendons.map (aJ 300)),.list 13 (r.real.motors.map (aP 300)),.nil]],none⟩,some ⟨48,5,false,[[.list 34 (r.real.bodies.map (aK 300)),.list 22 (r.real.springs.map (bL 300)),.list 22 (r.real.tendons.map (bL 300)),.list 17 (r.real.motors.map (jB 300)),.nil]],none⟩]⟩:=by
 have hl:=hok.2.2.2.2.2.2.2.2.2;refine wW (XS:=r.real.feet.map (aX 300)) (YS:=r.real.feet.map (uM 300)) r.soles.length (fun i=>aX 300 ((r.soles.getD i default).real)) (fun i=>uM 300 ((r.soles.getD i default).real)) (fun a b i h=>⟨slots 359 [(1,.ptr 0 5 0 0),(2,.ptr 1 6 0 0),(3,.ptr 2 5 0 0),(4,.ptr 3 6 0 0),(5,.ptr 4 5 0 0),(48,.i6 ((i:Nat):Int))],[some ⟨27,5,false,[cL r],none⟩,some (kQ),some (jJ),some ⟨41,6,false,[[.str kO,.list 27 (r.real.bodies.map (aE 300)),.list 17 (r.real.springs.map (aJ 300)),.list 17 (r.real.tendons.map (aJ 300)),.list 13 (r.real.motors.map (aP 300)),a]],none⟩,some ⟨48,5,false,[[.list 34 (r.real.bodies.map (aK 300)),.list 22 (r.real.springs.map (bL 300)),.list 22 (r.real.tendons.map (bL 300)),.list 17 (r.real.motors.map (jB 300)),b]],none⟩]++h⟩) 5 6 5 6 245 186 ?_ ?_ ?_ ?_ (by simp only[RigD.real,List.map_map];exact eA (f:=fun v=>aX 300 v.real) r.soles) (by simp only[RigD.real,List.map_map];exact eA (f:=fun v=>uM 300 v.real) r.soles) ?_
 · intro hlt hg
   have hv:=hok.2.2.2.2.1 _ (dN hlt);have v0:(0:Int)<((r.soles.map dG).length:Int):=by rw[bH];omega
   exact gR eH none [1,2,3,4,5,48] [0,1,2,3,4,11,13] [(317,tt),(323,.cptr (dG (r.soles.getD 0 default)) 0),(328,.tup (LC r)),(319,.i6 ((0+1:Nat):Int))] (.c6 (iT v0) (show Ref (.cptr ((r.soles.map dG).getD 0 []) 0) (.cptr (dG (r.soles.getD 0 default)) 0) from Ref.cmap hlt) (nn 0) v0 (show Ref (.tup [.list 6 (iO (((r.soles.getD 0 default).pts.map unSpot).map cY)),.list 8 (iP (((r.soles.getD 0 default).pts.map unSpot).map cY))]) (.tup (LC r)) from Ref.eq (by rw[dJ])) (show((r.soles.getD 0 default).pts.map unSpot)=(((r.soles.getD 0 default).pts.map unSpot).map cY).map unSpot by rw[dJ]) (.c6 (show ∀ s∈((r.soles.getD 0 default).pts.map unSpot).map cY,s.ok by rw[dJ];exact hv.1) (show((r.soles.getD 0 default).pts.map unSpot).length*128<=140737488355328 by rw[bH];exact hv.2.1) hv.2.2 r1 (dc (0<1)) (dc (1*88<=140737488355328)) (.a6 (dc (1<=big)) r1 (dc (0<1)) (dc (1*96<=140737488355328)) (dc (1<=big)) (wI ((0:Int)+(1:Int)) ((0+1:Nat):Int))))) hg
 · intro i A B hi hlt hA hB hg
   have hv:=hok.2.2.2.2.1 _ (dN hlt);have v1:(i:Int)<((r.soles.map dG).length:Int):=by rw[bH];omega
   exact gR eH none [1,2,3,4,5,48] [0,1,2,3,4,13,15] [(317,tt),(323,.cptr (dG (r.soles.getD i default)) 0),(328,.tup [.list 6 (iO (r.soles.getD i default).pts),.list 8 (iP (r.soles.getD i default).pts)]),(319,.i6 ((i+1:Nat):Int))] (.c6 (iT v1) (show Ref (.cptr ((r.soles.map dG).getD i []) 0) (.cptr (dG (r.soles.getD i default)) 0) from Ref.cmap hlt) (nn i) v1 (show Ref (.tup [.list 6 (iO (((r.soles.getD i default).pts.map unSpot).map cY)),.list 8 (iP (((r.soles.getD i default).pts.map unSpot).map cY))]) (.tup [.list 6 (iO (r.soles.getD i default).pts),.list 8 (iP (r.soles.getD i default).pts)]) from Ref.eq (by rw[dJ])) (show((r.soles.getD i default).pts.map unSpot)=(((r.soles.getD i default).pts.map unSpot).map cY).map unSpot by rw[dJ]) (.c6 (show ∀ s∈((r.soles.getD i default).pts.map unSpot).map cY,s.ok by rw[dJ];exact hv.1) (show((r.soles.getD i default).pts.map unSpot).length*128<=140737488355328 by rw[bH];exact hv.2.1) hv.2.2 r1 (show i=A.length from hA.symm) (om ((i+1)*88<=140737488355328)) (.a6 (show i+1<=big by unfold big;omega) r1 (show i=B.length from hB.symm) (om ((i+1)*96<=140737488355328)) (show i+1<=big by unfold big;omega) (wI ((i:Int)+(1:Int)) ((i+1:Nat):Int))))) hg
 · intro A B hp hA hB hg
   refine Good.freezeD (b:=⟨245,5,true,A,none⟩) 5 (by rfl) (by rfl) .on (.oe (.a1 (om (0+r.soles.length<=A.length)))) ?_;refine Good.freezeD (b:=⟨186,6,true,B,none⟩) 6 (by rfl) (by rfl) .on (.oe (.a1 (om (0+r.soles.length<=B.length)))) ?_;refine Good.tidy [0,1,2,3,4] (by decide) (σ':=slots 359 [(1,.ptr 0 5 0 0),(2,.ptr 1 6 0 0),(3,.ptr 2 5 0 0),(4,.ptr 3 6 0 0),(5,.ptr 4 5 0 0),(48,.i6 ((r.soles.length:Nat):Int))]) (h':=[some ⟨27,5,false,[cL r],none⟩,some (kQ),some (jJ),some ⟨41,6,false,[[.str kO,.list 27 (r.real.bodies.map (aE 300)),.list 17 (r.real.springs.map (aJ 300)),.list 17 (r.real.tendons.map (aJ 300)),.list 13 (r.real.motors.map (aP 300)),.list 5 ((A.drop 0).take r.soles.length)]],none⟩,some ⟨48,5,false,[[.list 34 (r.real.bodies.map (aK 300)),.list 22 (r.real.springs.map (bL 300)),.list 22 (r.real.tendons.map (bL 300)),.list 17 (r.real.motors.map (jB 300)),.list 6 ((B.drop 0).take r.soles.length)]],none⟩]) (by kernel_rfl) (by kernel_rfl) ?_;rw[List.drop_zero,List.drop_zero,fQ (by omega),fQ (by omega)];exact hg
 · intro h0 hg
   refine Good.weakB (el':=[.str kO,.list 27 (r.real.bodies.map (aE 300)),.list 17 (r.real.springs.map (aJ 300)),.list 17 (r.real.tendons.map (aJ 300)),.list 13 (r.real.motors.map (aP 300)),.list 5 []]) 3 0 (by rfl) (by rfl) (RefC.tl (RefC.tl (RefC.tl (RefC.tl (RefC.tl RefC.nilL))))) (Good.weakB (el':=[.list 34 (r.real.bodies.map (aK 300)),.list 22 (r.real.springs.map (bL 300)),.list 22 (r.real.tendons.map (bL 300)),.list 17 (r.real.motors.map (jB 300)),.list 6 []]) 4 0 (by rfl) (by rfl) (RefC.tl (RefC.tl (RefC.tl (RefC.tl RefC.nilL)))) (Good.castH (by kernel_rfl) hg))
 · exact rR eH [(317,ff)] (.a1 (iF (show ¬ ((r.soles.length:Int)<((r.soles.map dG).length:Int)) by rw[bH];omega)))
theorem Hh (r:RigD) (hok:r.ok):Good Tryz.prog 18 S No w0 (QT S w0 r) [.code (aN [1,1,1,1,1,1,0,1,0,0] (aA Tryz.f18)),.inLoop (aN [1,1,1,1,1,1,0,1,0,0] (aA Tryz.f18)),.inBlock 6,.code (aN [1,1,1,1,1,1,1] (aA Tryz.f18))] ⟨slots 359 [(1,.ptr 0 5 0 0),(2,.ptr 1 6 0 0),(3,.ptr 2 5 0 0),(4,.ptr 3 6 0 0),(5,.ptr 4 5 0 0),(38,.i6 ((0:Nat):Int))],[some ⟨27,5,false,[cL r],none⟩,some (kQ),some (jJ),some ⟨41,6,false,[[.str kO,.list 27 (r.real.bodies.map (aE 300)),.list 17 (r.real.springs.map (aJ 300)),.list 17 (r.real.tendons.map (aJ 300)),.nil,.nil]],none⟩,some ⟨48,5,false,[[.list 34 (r.real.bodies.map (aK 300)),.list 22 (r.real.springs.map (bL 300)),.list 22 (r.real.tendons.map (bL 300)),.nil,.nil]],none⟩]⟩:=by
 have hl:=hok.2.2.2.2.2.2.2.2.1;refine wW (XS:=r.real.motors.map (aP 300)) (YS:=r.real.motors.map (jB 300)) r.drives.length (fun i=>aP 300 ((r.drives.getD i default).real)) (fun i=>jB 300 ((r.drives.getD i default).real)) (fun a b i h=>⟨slots 359 [(1,.ptr 0 5 0 0),(2,.ptr 1 6 0 0),(3,.ptr 2 5 0 0),(4,.ptr 3 6 0 0),(5,.ptr 4 5 0 0),(38,.i6 ((i:Nat):Int))],[some ⟨27,5,false,[cL r],none⟩,some (kQ),some (jJ),some ⟨41,6,false,[[.str kO,.list 27 (r.real.bodies.map (aE 300)),.list 17 (r.real.springs.map (aJ 300)),.list 17 (r.real.tendons.map (aJ 300)),a,.nil]],none⟩,some ⟨48,5,false,[[.list 34 (r.real.bodies.map (aK 300)),.list 22 (r.real.springs.map (bL 300)),.list 22 (r.real.tendons.map (bL 300)),b,.nil]],none⟩]++h⟩) 5 6 13 17 239 241 ?_ ?_ ?_ ?_ (by simp only[RigD.real,List.map_map];exact eA (f:=fun v=>aP 300 v.real) r.drives) (by simp only[RigD.real,List.map_map];exact eA (f:=fun v=>jB 300 v.real) r.drives) ?_
 · intro hlt hg
   have hv:=hok.2.2.2.1 _ (dN hlt);have v0:(0:Int)<((r.drives.map dK).length:Int):=by rw[bH];omega
   exact gR eH none [1,2,3,4,5,38] [0,1,2,3,4,19,21] [(257,tt),(263,.cptr (dK (r.drives.getD 0 default)) 0),(259,.i6 ((0+1:Nat):Int))] (.c6 (iT v0) (show Ref (.cptr ((r.drives.map dK).getD 0 []) 0) (.cptr (dK (r.drives.getD 0 default)) 0) from Ref.cmap hlt) (nn 0) v0 hv.1 hv.2.1 (.c6 hv.2.2.1 hv.2.2.2 r1 (dc (0<1)) (dc (1*232<=140737488355328)) (dc (1<=big)) (.a5 r1 (dc (0<1)) (dc (1*264<=140737488355328)) (dc (1<=big)) (wI ((0:Int)+(1:Int)) ((0+1:Nat):Int))))) hg
 · intro i A B hi hlt hA hB hg
   have hv:=hok.2.2.2.1 _ (dN hlt);have v1:(i:Int)<((r.drives.map dK).length:Int):=by rw[bH];omega
   exact gR eH none [1,2,3,4,5,38] [0,1,2,3,4,21,23] [(257,tt),(263,.cptr (dK (r.drives.getD i default)) 0),(259,.i6 ((i+1:Nat):Int))] (.c6 (iT v1) (show Ref (.cptr ((r.drives.map dK).getD i []) 0) (.cptr (dK (r.drives.getD i default)) 0) from Ref.cmap hlt) (nn i) v1 hv.1 hv.2.1 (.c6 hv.2.2.1 hv.2.2.2 r1 (show i=A.length from hA.symm) (om ((i+1)*232<=140737488355328)) (show i+1<=big by unfold big;omega) (.a5 r1 (show i=B.length from hB.symm) (om ((i+1)*264<=140737488355328)) (show i+1<=big by unfold big;omega) (wI ((i:Int)+(1:Int)) ((i+1:Nat):Int))))) hg
 · intro A B hp hA hB hg
   refine Good.freezeD (b:=⟨239,13,true,A,none⟩) 5 (by rfl) (by rfl) .on (.oe (.a1 (om (0+r.drives.length<=A.length)))) ?_;refine Good.freezeD (b:=⟨241,17,true,B,none⟩) 6 (by rfl) (by rfl) .on (.oe (.a1 (om (0+r.drives.length<=B.length)))) ?_;refine Good.tidy [0,1,2,3,4] (by decide) (σ':=slots 359 [(1,.ptr 0 5 0 0),(2,.ptr 1 6 0 0),(3,.ptr 2 5 0 0),(4,.ptr 3 6 0 0),(5,.ptr 4 5 0 0),(38,.i6 ((r.drives.length:Nat):Int))]) (h':=[some ⟨27,5,false,[cL r],none⟩,some (kQ),some (jJ),some ⟨41,6,false,[[.str kO,.list 27 (r.real.bodies.map (aE 300)),.list 17 (r.real.springs.map (aJ 300)),.list 17 (r.real.tendons.map (aJ 300)),.list 13 ((A.drop 0).take r.drives.length),.nil]],none⟩,some ⟨48,5,false,[[.list 34 (r.real.bodies.map (aK 300)),.list 22 (r.real.springs.map (bL 300)),.list 22 (r.real.tendons.map (bL 300)),.list 17 ((B.drop 0).take r.drives.length),.nil]],none⟩]) (by kernel_rfl) (by kernel_rfl) ?_;rw[List.drop_zero,List.drop_zero,fQ (by omega),fQ (by omega)];exact hg
 · intro h0 hg
   refine Good.weakB (el':=[.str kO,.list 27 (r.real.bodies.map (aE 300)),.list 17 (r.real.springs.map (aJ 300)),.list 17 (r.real.tendons.map (aJ 300)),.list 13 [],.nil]) 3 0 (by rfl) (by rfl) (RefC.tl (RefC.tl (RefC.tl (RefC.tl RefC.nilL)))) (Good.weakB (el':=[.list 34 (r.real.bodies.map (aK 300)),.list 22 (r.real.springs.map (bL 300)),.list 22 (r.real.tendons.map (bL 300)),.list 17 [],.nil]) 4 0 (by rfl) (by rfl) (RefC.tl (RefC.tl (RefC.tl RefC.nilL))) (Good.castH (by kernel_rfl) hg))
 · exact gN eH [1,2,3,4,5,48] [(257,ff)] (.a1 (iF (show ¬ ((r.drives.length:Int)<((r.drives.map dK).length:Int)) by rw[bH];omega))) (Hg r hok)
theorem Hi (r:RigD) (hok:r.ok):Good Tryz.prog 18 S No w0 (QT S w0 r) [.code (aN [1,1,1,1,1,0,1,0,0] (aA Tryz.f18)),.inLoop (aN [1,1,1,1,1,0,1,0,0] (aA Tryz.f18)),.inBlock 4,.code (aN [1,1,1,1,1,1] (aA Tryz.f18))] ⟨slots 359 [(1,.ptr 0 5 0 0),(2,.ptr 1 6 0 0),(3,.ptr 2 5 0 0),(4,.ptr 3 6 0 0),(5,.ptr 4 5 0 0),(30,.i6 ((0:Nat):Int))],[some ⟨27,5,false,[cL r],none⟩,some (kQ),some (jJ),some ⟨41,6,false,[[.str kO,.list 27 (r.real.bodies.map (aE 300)),.list 17 (r.real.springs.map (aJ 300)),.nil,.nil,.nil]],none⟩,some ⟨48,5,false,[[.list 34 (r.real.bodies.map (aK 300)),.list 22 (r.real.springs.map (bL 300)),.nil,.nil,.nil]],none⟩]⟩:=by
 have hl:=hok.2.2.2.2.2.2.2.1;refine wW (XS:=r.real.tendons.map (aJ 300)) (YS:=r.real.tendons.map (bL 300)) r.tendons.length (fun i=>aJ 300 ((r.tendons.getD i default).real)) (fun i=>bL 300 ((r.tendons.getD i default).real)) (fun a b i h=>⟨slots 359 [(1,.ptr 0 5 0 0),(2,.ptr 1 6 0 0),(3,.ptr 2 5 0 0),(4,.ptr 3 6 0 0),(5,.ptr 4 5 0 0),(30,.i6 ((i:Nat):Int))],[some ⟨27,5,false,[cL r],none⟩,some (kQ),some (jJ),some ⟨41,6,false,[[.str kO,.list 27 (r.real.bodies.map (aE 300)),.list 17 (r.real.springs.map (aJ 300)),a,.nil,.nil]],none⟩,some ⟨48,5,false,[[.list 34 (r.real.bodies.map (aK 300)),.list 22 (r.real.springs.map (bL 300)),b,.nil,.nil]],none⟩]++h⟩) 5 6 17 22 233 235 ?_ ?_ ?_ ?_ (by simp only[RigD.real,List.map_map];exact eA (f:=fun v=>aJ 300 v.real) r.tendons) (by simp only[RigD.real,List.map_map];exact eA (f:=fun v=>bL 300 v.real) r.tendons) ?_
 · intro hlt hg
   have hv:=hok.2.2.1 _ (dN hlt);have v0:(0:Int)<((r.tendons.map cA).length:Int):=by rw[bH];omega
   exact gR eH none [1,2,3,4,5,30] [0,1,2,3,4,16,18] [(201,tt),(207,.cptr (cA (r.tendons.getD 0 default)) 0),(203,.i6 ((0+1:Nat):Int))] (.c6 (iT v0) (show Ref (.cptr ((r.tendons.map cA).getD 0 []) 0) (.cptr (cA (r.tendons.getD 0 default)) 0) from Ref.cmap hlt) (nn 0) v0 hv.1.1 hv.1.2 (.c6 hv.2.1.1 hv.2.1.2 hv.2.2 r1 (dc (0<1)) (dc (1*296<=140737488355328)) (.a6 (dc (1<=big)) r1 (dc (0<1)) (dc (1*336<=140737488355328)) (dc (1<=big)) (wI ((0:Int)+(1:Int)) ((0+1:Nat):Int))))) hg
 · intro i A B hi hlt hA hB hg
   have hv:=hok.2.2.1 _ (dN hlt);have v1:(i:Int)<((r.tendons.map cA).length:Int):=by rw[bH];omega
   exact gR eH none [1,2,3,4,5,30] [0,1,2,3,4,18,20] [(201,tt),(207,.cptr (cA (r.tendons.getD i default)) 0),(203,.i6 ((i+1:Nat):Int))] (.c6 (iT v1) (show Ref (.cptr ((r.tendons.map cA).getD i []) 0) (.cptr (cA (r.tendons.getD i default)) 0) from Ref.cmap hlt) (nn i) v1 hv.1.1 hv.1.2 (.c6 hv.2.1.1 hv.2.1.2 hv.2.2 r1 (show i=A.length from hA.symm) (om ((i+1)*296<=140737488355328)) (.a6 (show i+1<=big by unfold big;omega) r1 (show i=B.length from hB.symm) (om ((i+1)*336<=140737488355328)) (show i+1<=big by unfold big;omega) (wI ((i:Int)+(1:Int)) ((i+1:Nat):Int))))) hg
 · intro A B hp hA hB hg
   refine Good.freezeD (b:=⟨233,17,true,A,none⟩) 5 (by rfl) (by rfl) .on (.oe (.a1 (om (0+r.tendons.length<=A.length)))) ?_;refine Good.freezeD (b:=⟨235,22,true,B,none⟩) 6 (by rfl) (by rfl) .on (.oe (.a1 (om (0+r.tendons.length<=B.length)))) ?_;refine Good.tidy [0,1,2,3,4] (by decide) (σ':=slots 359 [(1,.ptr 0 5 0 0),(2,.ptr 1 6 0 0),(3,.ptr 2 5 0 0),(4,.ptr 3 6 0 0),(5,.ptr 4 5 0 0),(30,.i6 ((r.tendons.length:Nat):Int))]) (h':=[some ⟨27,5,false,[cL r],none⟩,some (kQ),some (jJ),some ⟨41,6,false,[[.str kO,.list 27 (r.real.bodies.map (aE 300)),.list 17 (r.real.springs.map (aJ 300)),.list 17 ((A.drop 0).take r.tendons.length),.nil,.nil]],none⟩,some ⟨48,5,false,[[.list 34 (r.real.bodies.map (aK 300)),.list 22 (r.real.springs.map (bL 300)),.list 22 ((B.drop 0).take r.tendons.length),.nil,.nil]],none⟩]) (by kernel_rfl) (by kernel_rfl) ?_;rw[List.drop_zero,List.drop_zero,fQ (by omega),fQ (by omega)];exact hg
 · intro h0 hg
   refine Good.weakB (el':=[.str kO,.list 27 (r.real.bodies.map (aE 300)),.list 17 (r.real.springs.map (aJ 300)),.list 17 [],.nil,.nil]) 3 0 (by rfl) (by rfl) (RefC.tl (RefC.tl (RefC.tl RefC.nilL))) (Good.weakB (el':=[.list 34 (r.real.bodies.map (aK 300)),.list 22 (r.real.springs.map (bL 300)),.list 22 [],.nil,.nil]) 4 0 (by rfl) (by rfl) (RefC.tl (RefC.tl RefC.nilL)) (Good.castH (by kernel_rfl) hg))
 · exact gN eH [1,2,3,4,5,38] [(201,ff)] (.a1 (iF (show ¬ ((r.tendons.length:Int)<((r.tendons.map cA).length:Int)) by rw[bH];omega))) (Hh r hok)
theorem Hj (r:RigD) (hok:r.ok):Good Tryz.prog 18 S No w0 (QT S w0 r) [.code (aN [1,1,1,1,0,1,0,0] (aA Tryz.f18)),.inLoop (aN [1,1,1,1,0,1,0,0] (aA Tryz.f18)),.inBlock 2,.code (aN [1,1,1,1,1] (aA Tryz.f18))] ⟨slots 359 [(1,.ptr 0 5 0 0),(2,.ptr 1 6 0 0),(3,.ptr 2 5 0 0),(4,.ptr 3 6 0 0),(5,.ptr 4 5 0 0),(22,.i6 ((0:Nat):Int))],[some ⟨27,5,false,[cL r],none⟩,some (kQ),some (jJ),some ⟨41,6,false,[[.str kO,.list 27 (r.real.bodies.map (aE 300)),.nil,.nil,.nil,.nil]],none⟩,some ⟨48,5,false,[[.list 34 (r.real.bodies.map (aK 300)),.nil,.nil,.nil,.nil]],none⟩]⟩:=by
 have hl:=hok.2.2.2.2.2.2.1;refine wW (XS:=r.real.springs.map (aJ 300)) (YS:=r.real.springs.map (bL 300)) r.springs.length (fun i=>aJ 300 ((r.springs.getD i default).real)) (fun i=>bL 300 ((r.springs.getD i default).real)) (fun a b i h=>⟨slots 359 [(1,.ptr 0 5 0 0),(2,.ptr 1 6 0 0),(3,.ptr 2 5 0 0),(4,.ptr 3 6 0 0),(5,.ptr 4 5 0 0),(22,.i6 ((i:Nat):Int))],[some ⟨27,5,false,[cL r],none⟩,some (kQ),some (jJ),some ⟨41,6,false,[[.str kO,.list 27 (r.real.bodies.map (aE 300)),a,.nil,.nil,.nil]],none⟩,some ⟨48,5,false,[[.list 34 (r.real.bodies.map (aK 300)),b,.nil,.nil,.nil]],none⟩]++h⟩) 5 6 17 22 229 231 ?_ ?_ ?_ ?_ (by simp only[RigD.real,List.map_map];exact eA (f:=fun v=>aJ 300 v.real) r.springs) (by simp only[RigD.real,List.map_map];exact eA (f:=fun v=>bL 300 v.real) r.springs) ?_
 · intro hlt hg
   have hv:=hok.2.1 _ (dN hlt);have v0:(0:Int)<((r.springs.map cA).length:Int):=by rw[bH];omega
   exact gR eH none [1,2,3,4,5,22] [0,1,2,3,4,16,18] [(145,tt),(151,.cptr (cA (r.springs.getD 0 default)) 0),(147,.i6 ((0+1:Nat):Int))] (.c6 (iT v0) (show Ref (.cptr ((r.springs.map cA).getD 0 []) 0) (.cptr (cA (r.springs.getD 0 default)) 0) from Ref.cmap hlt) (nn 0) v0 hv.1.1 hv.1.2 (.c6 hv.2.1.1 hv.2.1.2 hv.2.2 r1 (dc (0<1)) (dc (1*296<=140737488355328)) (.a6 (dc (1<=big)) r1 (dc (0<1)) (dc (1*336<=140737488355328)) (dc (1<=big)) (wI ((0:Int)+(1:Int)) ((0+1:Nat):Int))))) hg
 · intro i A B hi hlt hA hB hg
   have hv:=hok.2.1 _ (dN hlt);have v1:(i:Int)<((r.springs.map cA).length:Int):=by rw[bH];omega
   exact gR eH none [1,2,3,4,5,22] [0,1,2,3,4,18,20] [(145,tt),(151,.cptr (cA (r.springs.getD i default)) 0),(147,.i6 ((i+1:Nat):Int))] (.c6 (iT v1) (show Ref (.cptr ((r.springs.map cA).getD i []) 0) (.cptr (cA (r.springs.getD i default)) 0) from Ref.cmap hlt) (nn i) v1 hv.1.1 hv.1.2 (.c6 hv.2.1.1 hv.2.1.2 hv.2.2 r1 (show i=A.length from hA.symm) (om ((i+1)*296<=140737488355328)) (.a6 (show i+1<=big by unfold big;omega) r1 (show i=B.length from hB.symm) (om ((i+1)*336<=140737488355328)) (show i+1<=big by unfold big;omega) (wI ((i:Int)+(1:Int)) ((i+1:Nat):Int))))) hg
 · intro A B hp hA hB hg
   refine Good.freezeD (b:=⟨229,17,true,A,none⟩) 5 (by rfl) (by rfl) .on (.oe (.a1 (om (0+r.springs.length<=A.length)))) ?_;refine Good.freezeD (b:=⟨231,22,true,B,none⟩) 6 (by rfl) (by rfl) .on (.oe (.a1 (om (0+r.springs.length<=B.length)))) ?_;refine Good.tidy [0,1,2,3,4] (by decide) (σ':=slots 359 [(1,.ptr 0 5 0 0),(2,.ptr 1 6 0 0),(3,.ptr 2 5 0 0),(4,.ptr 3 6 0 0),(5,.ptr 4 5 0 0),(22,.i6 ((r.springs.length:Nat):Int))]) (h':=[some ⟨27,5,false,[cL r],none⟩,some (kQ),some (jJ),some ⟨41,6,false,[[.str kO,.list 27 (r.real.bodies.map (aE 300)),.list 17 ((A.drop 0).take r.springs.length),.nil,.nil,.nil]],none⟩,some ⟨48,5,false,[[.list 34 (r.real.bodies.map (aK 300)),.list 22 ((B.drop 0).take r.springs.length),.nil,.nil,.nil]],none⟩]) (by kernel_rfl) (by kernel_rfl) ?_;rw[List.drop_zero,List.drop_zero,fQ (by omega),fQ (by omega)];exact hg
 · intro h0 hg
   refine Good.weakB (el':=[.str kO,.list 27 (r.real.bodies.map (aE 300)),.list 17 [],.nil,.nil,.nil]) 3 0 (by rfl) (by rfl) (RefC.tl (RefC.tl RefC.nilL)) (Good.weakB (el':=[.list 34 (r.real.bodies.map (aK 300)),.list 22 [],.nil,.nil,.nil]) 4 0 (by rfl) (by rfl) (RefC.tl RefC.nilL) (Good.castH (by kernel_rfl) hg))
 · exact gN eH [1,2,3,4,5,30] [(145,ff)] (.a1 (iF (show ¬ ((r.springs.length:Int)<((r.springs.map cA).length:Int)) by rw[bH];omega))) (Hi r hok)
abbrev LD (r:RigD):List AV:=[.list 6 (iO (r.limbs.getD 0 default).shape),.list 8 (iP (r.limbs.getD 0 default).shape)]
abbrev LF (r:RigD) (i:Nat):List AV:=[.list 6 (iO (r.limbs.getD i default).shape),.list 8 (iP (r.limbs.getD i default).shape)]
theorem Hk (r:RigD) (hok:r.ok):Good Tryz.prog 18 S No w0 (QT S w0 r) [.code (aN [1,1,1,0,1,0,0] (aA Tryz.f18)),.inLoop (aN [1,1,1,0,1,0,0] (aA Tryz.f18)),.inBlock 0,.code (aN [1,1,1,1] (aA Tryz.f18))] ⟨slots 359 [(1,.ptr 0 5 0 0),(2,.ptr 1 6 0 0),(3,.ptr 2 5 0 0),(4,.ptr 3 6 0 0),(5,.ptr 4 5 0 0),(6,.i6 ((0:Nat):Int))],[some ⟨27,5,false,[cL r],none⟩,some (kQ),some (jJ),some ⟨41,6,false,[[.str kO,.nil,.nil,.nil,.nil,.nil]],none⟩,some (jJ)]⟩:=by
 have hl:=hok.2.2.2.2.2.1;refine wW (XS:=r.real.bodies.map (aE 300)) (YS:=r.real.bodies.map (aK 300)) r.limbs.length (fun i=>aE 300 ((r.limbs.getD i default).real (tS i))) (fun i=>aK 300 ((r.limbs.getD i default).real (tS i))) (fun a b i h=>⟨slots 359 [(1,.ptr 0 5 0 0),(2,.ptr 1 6 0 0),(3,.ptr 2 5 0 0),(4,.ptr 3 6 0 0),(5,.ptr 4 5 0 0),(6,.i6 ((i:Nat):Int))],[some ⟨27,5,false,[cL r],none⟩,some (kQ),some (jJ),some ⟨41,6,false,[[.str kO,a,.nil,.nil,.nil,.nil]],none⟩,some ⟨48,5,false,[[b,.nil,.nil,.nil,.nil]],none⟩]++h⟩) 5 6 27 34 114 184 ?_ ?_ ?_ ?_ (by simp only[RigD.real,nZ,List.map_map];rfl) (by simp only[RigD.real,nZ,List.map_map];rfl) ?_
 · intro hlt hg
   have hv:=hok.1 _ (dN hlt);have v0:(0:Int)<((r.limbs.map dF).length:Int):=by rw[bH];omega
   exact gR eH none [1,2,3,4,5,6] [0,1,2,3,4,27,29] [(59,tt),(65,.cptr (dF (r.limbs.getD 0 default)) 0),(106,.tup (LD r)),(61,.i6 ((0+1:Nat):Int))] (.c6 (iT v0) (show Ref (.cptr ((r.limbs.map dF).getD 0 []) 0) (.cptr (dF (r.limbs.getD 0 default)) 0) from Ref.cmap hlt) (nn 0) v0 hv.1.1 hv.1.2 (.c6 hv.2.1.1 hv.2.1.2 hv.2.2.1 hv.2.2.2.1 hv.2.2.2.2.1 hv.2.2.2.2.2.1 (.c6 (show Ref (.tup [.list 6 (iO (((r.limbs.getD 0 default).shape.map unSpot).map cY)),.list 8 (iP (((r.limbs.getD 0 default).shape.map unSpot).map cY))]) (.tup (LD r)) from Ref.eq (by rw[dJ])) (show((r.limbs.getD 0 default).shape.map unSpot)=(((r.limbs.getD 0 default).shape.map unSpot).map cY).map unSpot by rw[dJ]) (show ∀ s∈((r.limbs.getD 0 default).shape.map unSpot).map cY,s.ok by rw[dJ];exact hv.2.2.2.2.2.2.1) (show((r.limbs.getD 0 default).shape.map unSpot).length*128<=140737488355328 by rw[bH];exact hv.2.2.2.2.2.2.2) (nn 0) (om (0<=4611686018427387904)) (.c6 r1 (dc (0<1)) (dc (1*496<=140737488355328)) (dc (1<=big)) r1 (dc (0<1)) (.a3 (dc (1*544<=140737488355328)) (dc (1<=big)) (wI ((0:Int)+(1:Int)) ((0+1:Nat):Int))))))) hg
 · intro i A B hi hlt hA hB hg
   have hv:=hok.1 _ (dN hlt);have v1:(i:Int)<((r.limbs.map dF).length:Int):=by rw[bH];omega
   exact gR eH none [1,2,3,4,5,6] [0,1,2,3,4,29,31] [(59,tt),(65,.cptr (dF (r.limbs.getD i default)) 0),(106,.tup (LF r i)),(61,.i6 ((i+1:Nat):Int))] (.c6 (iT v1) (show Ref (.cptr ((r.limbs.map dF).getD i []) 0) (.cptr (dF (r.limbs.getD i default)) 0) from Ref.cmap hlt) (nn i) v1 hv.1.1 hv.1.2 (.c6 hv.2.1.1 hv.2.1.2 hv.2.2.1 hv.2.2.2.1 hv.2.2.2.2.1 hv.2.2.2.2.2.1 (.c6 (show Ref (.tup [.list 6 (iO (((r.limbs.getD i default).shape.map unSpot).map cY)),.list 8 (iP (((r.limbs.getD i default).shape.map unSpot).map cY))]) (.tup (LF r i)) from Ref.eq (by rw[dJ])) (show((r.limbs.getD i default).shape.map unSpot)=(((r.limbs.getD i default).shape.map unSpot).map cY).map unSpot by rw[dJ]) (show ∀ s∈((r.limbs.getD i default).shape.map unSpot).map cY,s.ok by rw[dJ];exact hv.2.2.2.2.2.2.1) (show((r.limbs.getD i default).shape.map unSpot).length*128<=140737488355328 by rw[bH];exact hv.2.2.2.2.2.2.2) (nn i) (om (i<=4611686018427387904)) (.c6 r1 (show i=A.length from hA.symm) (om ((i+1)*496<=140737488355328)) (show i+1<=big by unfold big;omega) r1 (show i=B.length from hB.symm) (.a3 (om ((i+1)*544<=140737488355328)) (show i+1<=big by unfold big;omega) (wI ((i:Int)+(1:Int)) ((i+1:Nat):Int))))))) hg
 · intro A B hp hA hB hg
   refine Good.freezeD (b:=⟨114,27,true,A,none⟩) 5 (by rfl) (by rfl) .on (.oe (.a1 (om (0+r.limbs.length<=A.length)))) ?_;refine Good.freezeD (b:=⟨184,34,true,B,none⟩) 6 (by rfl) (by rfl) .on (.oe (.a1 (om (0+r.limbs.length<=B.length)))) ?_;refine Good.tidy [0,1,2,3,4] (by decide) (σ':=slots 359 [(1,.ptr 0 5 0 0),(2,.ptr 1 6 0 0),(3,.ptr 2 5 0 0),(4,.ptr 3 6 0 0),(5,.ptr 4 5 0 0),(6,.i6 ((r.limbs.length:Nat):Int))]) (h':=[some ⟨27,5,false,[cL r],none⟩,some (kQ),some (jJ),some ⟨41,6,false,[[.str kO,.list 27 ((A.drop 0).take r.limbs.length),.nil,.nil,.nil,.nil]],none⟩,some ⟨48,5,false,[[.list 34 ((B.drop 0).take r.limbs.length),.nil,.nil,.nil,.nil]],none⟩]) (by kernel_rfl) (by kernel_rfl) ?_;rw[List.drop_zero,List.drop_zero,fQ (by omega),fQ (by omega)];exact hg
 · intro h0 hg
   refine Good.weakB (el':=[.str kO,.list 27 [],.nil,.nil,.nil,.nil]) 3 0 (by rfl) (by rfl) (RefC.tl RefC.nilL) (Good.weakB (el':=[.list 34 [],.nil,.nil,.nil,.nil]) 4 0 (by rfl) (by rfl) RefC.nilL (Good.castH (by kernel_rfl) hg))
 · exact gN eH [1,2,3,4,5,22] [(59,ff)] (.a1 (iF (show ¬ ((r.limbs.length:Int)<((r.limbs.map dF).length:Int)) by rw[bH];omega))) (Hj r hok)
end
theorem Wg:bQ 18 Vw:=by
 refine cK Tryz.f18 fun _ _ _ S w0 h ho=> ?_
 unfold Vw at h;split at h <;> cases h;rename_i R;obtain⟨o1,o2⟩:=ho.e2;clear ho;generalize hH R=r at*;subst o1;exact gN eH [1,2,3,4,5,6] [(54,.agg [.str kO,AV.nil,AV.nil,AV.nil,AV.nil,AV.nil])] (.a1 (show Ref (.agg [.str (ByteArray.mk #[114,105,103]),AV.nil,AV.nil,AV.nil,AV.nil,AV.nil]) (.agg [.str kO,AV.nil,AV.nil,AV.nil,AV.nil,AV.nil]) from rr)) (Hk r o2)
def QU:KF
 | []=>some (.agg [.q ((Int.cast 1:Rat)/(Int.cast 2:Rat)) 64],[])
 | _=>none
theorem TR:bQ 211 QU:=by
 refine cK Tryz.f211 fun _ _ _ S w0 h ho=> ?_
 unfold QU at h;split at h <;> cases h;have K:=kn.cons Ps;exact rR K [] (.a4 (dc ((-9223372036854775808:Int)<=1)) (dc (1<=(9223372036854775807:Int))) (dc ((-9223372036854775808:Int)<=2)) (dc (2<=(9223372036854775807:Int))))
end Go.Av
namespace Go.Av
open Go.RowKit
theorem RefC.listW (hl:ys.length=xs.length) (h:∀ (i:Nat) (el el':List AV),xs[i]? =some el->ys[i]? =some el'->RefC el el'):RefC (.list e xs::cs) (.list e ys::cs):=fun ρ S w D vs x=>by
 cases x with
 | list f h1 h2 h3 h4 h5 h6=>
   rw[<- hl];refine .list f (by rw[hl];exact h1) h2 (fun i hi=>h3 i (by omega)) (fun i el hel=> ?_) (fun hp=> ?_) h6
   · have hi:i<xs.length:=by rw[<- hl];exact(List.getElem?_eq_some_iff.1 hel).1
     exact h i _ el (List.getElem?_eq_getElem hi) hel _ _ _ _ _ (h4 i _ (List.getElem?_eq_getElem hi))
   · obtain⟨ad,e1,e2,e3,e4⟩:=h5 (by omega)
     exact⟨ad,e1,e2,e3,fun i hi=>e4 i (by omega)⟩
theorem Ref.listW (hl:ys.length=xs.length) (h:∀ (i:Nat) (el el':List AV),xs[i]? =some el->ys[i]? =some el'->RefC el el'):Ref (.list e xs) (.list e ys):=fun ρ S w D v x=>aV (RefC.listW hl h _ _ _ _ _ x)
theorem Ref.list1 (h:RefC a b):Ref (.list e [a]) (.list e [b]):=Ref.listW rfl fun i el el' h1 h2=>by
 cases i with
 | zero=>simp at h1 h2;subst h1;subst h2;exact h
 | succ i=>simp at h1
theorem Ref.list2 (h:RefC a b) (k:RefC c d):Ref (.list e [a,c]) (.list e [b,d]):=Ref.listW rfl fun i el el' h1 h2=>by
 match i,h1,h2 with
 | 0,h1,h2=>simp at h1 h2;subst h1;subst h2;exact h
 | 1,h1,h2=>simp at h1 h2;subst h1;subst h2;exact k
 | i+2,h1,h2=>simp at h1
theorem Ref.listM {α:Type} {e:Nat} {f g:α->List AV} (l:List α) (h:∀ x∈l,RefC (f x) (g x)):Ref (.list e (l.map f)) (.list e (l.map g)):=Ref.listW (by simp) fun i el el' h1 h2=>by
 rw[List.getElem?_map] at h1 h2;obtain⟨x,hx,rfl⟩:=Option.map_eq_some_iff.1 h1;rw[hx] at h2;injection h2 with h2;subst h2;exact h x (List.mem_of_getElem? hx)
theorem RefC.listM {α:Type} {e:Nat} {f g:α->List AV} {cs:List AV} (l:List α) (h:∀ x∈l,RefC (f x) (g x)):RefC (.list e (l.map f)::cs) (.list e (l.map g)::cs):=RefC.listW (by simp) fun i el el' h1 h2=>by
 rw[List.getElem?_map] at h1 h2;obtain⟨x,hx,rfl⟩:=Option.map_eq_some_iff.1 h1;rw[hx] at h2;injection h2 with h2;subst h2;exact h x (List.mem_of_getElem? hx)
theorem Hl {x:Rat}:Int.sign x.num= -1↔x<0:=by
 have h:x<0↔x.num<0:=by rw[Rat.lt_iff];simp
 rw[h];exact Int.sign_eq_neg_one_iff_neg
theorem kR {x:Rat}:Int.sign x.num=0↔x=0:=⟨fun h=>Rat.num_eq_zero.1 (Int.sign_eq_zero_iff_zero.1 h),fun h=>by rw[h];rfl⟩
theorem Hm {x:Rat}:0<Int.sign x.num↔0<x:=by
 have h:0<x↔0<x.num:=by rw[Rat.lt_iff];simp
 rw[h];rcases Int.lt_trichotomy x.num 0 with k | k | k
 · rw[Int.sign_eq_neg_one_of_neg k];omega
 · rw[k];decide
 · rw[Int.sign_eq_one_of_pos k];omega
def MX (n:Nat):Nat->Option Nat:=fun k=>some (n+k)
def nJ (n:Nat) (h2:List (Option ABlk)):List (Option ABlk):=h2.map (Option.map fun b=>{ gP (MX n) b with pin:=none })
section
variable {P:Program} {S0 C0:Nat->Prop} {w0 w:World} {ρ:Nat->Nat} {D:Nat->Prop} {a:Act} {σ:List AV} {h:List (Option ABlk)}
theorem Fa {n i:Nat} {h2:List (Option ABlk)} {b:ABlk} (hb:(nJ n h2)[i]? =some (some b)):∃ c,h2[i]? =some (some c)/\b={ gP (MX n) c with pin:=none }:=by
 unfold nJ at hb;rw[List.getElem?_map] at hb;obtain⟨x,hx,e⟩:=Option.map_eq_some_iff.1 hb;cases x with
 | none=>cases e
 | some c=>injection e with e;exact⟨c,hx,e.symm⟩
theorem oG {h1 h2:List (Option ABlk)} {n i:Nat} {b:ABlk} (hn:h1.length=n) (hb:(h1++nJ n h2)[i]? =some (some b)):i<n/\h1[i]? =some (some b)\/n<=i/\∃ c,h2[i-n]? =some (some c)/\b={ gP (MX n) c with pin:=none }:=by
 rcases Nat.lt_or_ge i n with hi | hi
 · rw[List.getElem?_append_left (by omega)] at hb;exact .inl ⟨hi,hb⟩
 · rw[List.getElem?_append_right (by omega),hn] at hb;exact .inr ⟨hi,Fa hb⟩
theorem Rel.many (R:Rel S0 C0 w0 ρ D ⟨σ,h⟩ a w) {r:AV} {h2:List (Option ABlk)} {ρ':Nat->Nat} {w':World} {v:Value} {dst:Option Nat}
   (hrel:RelV ρ' (Sof (Sof S0 ρ h) ρ' h2) w' (· <h2.length) r v)
   (hblk:∀ l b,h2[l]? =some (some b)->RelB ρ' (Sof (Sof S0 ρ h) ρ' h2) w' (· <h2.length) l b/\w.heap.size<=ρ' l/\¬ Sof S0 ρ h (ρ' l))
   (hinj:∀ l l' b b',h2[l]? =some (some b)->h2[l']? =some (some b')->ρ' l=ρ' l'->l=l') (hchg:Chg No w w'):
   ∃ ρ2 D2,Rel S0 C0 w0 ρ2 D2 ⟨put σ dst (dM (MX h.length) r),h++nJ h.length h2⟩ (a.put dst v) w'/\∀ j,ρ2 (h.length+j)=ρ' j:=by
 let ρ2:Nat->Nat:=fun l=>if l<h.length then ρ l else ρ' (l-h.length)
 let D2:Nat->Prop:=fun l=>D l\/h.length<=l/\l<h.length+h2.length
 have e1:∀ l,l<h.length->ρ2 l=ρ l:=fun l hl=>if_pos hl
 have e2:∀ j,ρ2 (h.length+j)=ρ' j:=fun j=>by
   show(if h.length+j<h.length then _ else _)=_;rw[if_neg (by omega),Nat.add_sub_cancel_left]
 have hS :Sof (Sof S0 ρ h) ρ' h2=Sof S0 ρ2 (h++nJ h.length h2):=by
   funext k
   apply propext;constructor
   · rintro((h1 | ⟨i,c,hc,e⟩) | ⟨i,c,hc,e⟩)
     · exact .inl h1
     · have hi:i<h.length:=(List.getElem?_eq_some_iff.1 hc).1
       exact .inr ⟨i,c,by rw[List.getElem?_append_left hi];exact hc,by rw[e1 i hi];exact e⟩
     · refine .inr ⟨h.length+i,{ gP (MX h.length) c with pin:=none }, ?_,by rw[e2];exact e⟩
       rw[List.getElem?_append_right (by omega),Nat.add_sub_cancel_left];unfold nJ;rw[List.getElem?_map,hc];rfl
   · rintro(h1 | ⟨i,c,hc,e⟩)
     · exact .inl (.inl h1)
     · rcases oG rfl hc with ⟨hi,hq⟩ | ⟨hi,c',hq,_⟩
       · exact .inl (.inr ⟨i,c,hq,by rw[<- e1 i hi];exact e⟩)
       · refine .inr ⟨i-h.length,c',hq, ?_⟩
         rw[<- e, <- e2,Nat.add_sub_cancel' hi]
 have hm:∀ j k,MX h.length k=some j->(· <h2.length) k->ρ2 j=ρ' k/\D2 j:=by
   intro j k hj hk;injection hj with hj;subst hj;exact⟨e2 k,.inr ⟨by omega,by have:k<h2.length:=hk;omega⟩⟩
 have lo:∀ i c,h[i]? =some (some c)->ρ i<w.heap.size:=fun i c hc=>R.Slt (.inr ⟨i,c,hc,rfl⟩)
 have hk:Keep ρ (Sof S0 ρ h) w D ρ2 (Sof S0 ρ2 (h++nJ h.length h2)) w':=by
   refine⟨hchg.size,fun l hl=>⟨e1 l (R.dlt l hl),fun arr ty h1=>hchg.row _ arr ty h1⟩,fun k hk hs=>⟨?_,hchg.block k hk fun h1=>h1⟩⟩;rw[<- hS];rintro(h1 | ⟨i,c,hc,e⟩)
   · exact hs h1
   · have:=(hblk i c hc).2.1;omega
 refine⟨ρ2,D2,R.stepS hk (fun l hl=>.inl hl) ?_ ?_ ?_ ?_ (fun k hk'=>Nat.lt_of_lt_of_le (R.lt k hk') hchg.size) ?_ ?_,e2⟩
 · rw[<- hS];exact RelV.ren hm hrel
 · intro i c hc
   rcases oG rfl hc with ⟨hi,hq⟩ | ⟨hi,c',hq,rfl⟩
   · obtain⟨hDi,arr,h1,h3⟩:=R.heap i c hq
     exact⟨.inl hDi,RelB.keep ⟨arr,h1,h3⟩ (fun _ h1=>.inl h1) hk (e1 i hi) (hchg.block _ (bB h1) fun h1=>h1)⟩
   · have hi2:i-h.length<h2.length:=(List.getElem?_eq_some_iff.1 hq).1
     refine⟨.inr ⟨hi,by omega⟩, ?_⟩;rw[<- hS]
     have:=RelB.ren (j:=i) hm (by rw[<- e2,Nat.add_sub_cancel' hi]) (hblk _ _ hq).1;obtain⟨arr,g1,g2,g3⟩:=this;exact⟨arr,g1,g2,g3⟩
 · intro i j c d hc hd e
   rcases oG rfl hc with ⟨hi,hq⟩ | ⟨hi,c',hq,_⟩ <;> rcases oG rfl hd with ⟨hj,hr⟩ | ⟨hj,d',hr,_⟩
   · rw[e1 i hi,e1 j hj] at e;exact R.inj i j c d hq hr e
   · rw[e1 i hi,show ρ2 j=ρ' (j-h.length) by rw[<- e2,Nat.add_sub_cancel' hj]] at e
     have:=lo i c hq;have:=(hblk _ _ hr).2.1;omega
   · rw[e1 j hj,show ρ2 i=ρ' (i-h.length) by rw[<- e2,Nat.add_sub_cancel' hi]] at e
     have:=lo j d hr;have:=(hblk _ _ hq).2.1;omega
   · rw[show ρ2 j=ρ' (j-h.length) by rw[<- e2,Nat.add_sub_cancel' hj],show ρ2 i=ρ' (i-h.length) by rw[<- e2,Nat.add_sub_cancel' hi]] at e
     have:=hinj _ _ _ _ hq hr e;omega
 · rintro i (hi | hi)
   · have:=R.dlt i hi;rw[List.length_append];simp only at this;omega
   · rw[List.length_append,show(nJ h.length h2).length=h2.length by simp[nJ]];omega
 · exact R.chg.trans hchg fun _ _ h1=>h1.elim
 · intro i c hc
   rcases oG rfl hc with ⟨hi,hq⟩ | ⟨hi,c',hq,rfl⟩
   · rw[e1 i hi];exact R.mine i c hq
   · rw[show ρ2 i=ρ' (i-h.length) by rw[<- e2,Nat.add_sub_cancel' hi]]
     obtain⟨_,h1,h3⟩:=hblk _ _ hq;have hs:=R.chg.size;exact⟨.inr (by omega),fun h4=>h3 (.inl h4),fun i hi=>by cases hi⟩
theorem Ko {ops:Array Oper} {iX:Nat} {o:Oper} {c:Call} {g:Operand} {f:FuncId} {us:List AV} {r:AV} {h2:List (Option ABlk)} {Q:Exit->Act->World->Prop} {next:Act->World->Prop}
   (R:Rel S0 C0 w0 ρ D ⟨σ,h⟩ a w) (ho:ops[iX]? =some o) (hop:o.op= .call c) (hc:c.callee= .value g) (hw:lM ops σ o=some true) (hg:bF σ g= .fn f [])
   (has:c.args.toList.map (bF σ)=us) (hn:us.all dC=true) (hA:nD P f us [] r h2)
   {st2:St} (hs:(⟨put σ o.dst (dM (MX h.length) r),h++nJ h.length h2⟩:St)=st2) (hK:∀ ρ' D' a' w',Rel S0 C0 w0 ρ' D' st2 a' w'->next a' w'):wpOpIn (dQ none) 0 P ops Q iX next a w:=by
 unfold wpOpIn;rw[ho];simp only;rw[nO R hw,if_pos rfl];refine Ha (Q:=fun _ _ _=>False) (K:=next) (by rw[eP,hop]) (fun _ _ h=>h) (fun _ _ _ h=>h.elim) ?_;have hgv:=R.eval g;rw[hg] at hgv;have h':RelCs ρ (Sof S0 ρ h) w D [.fn f []] [a.eval g]:=hgv
 have hv:a.eval g= .func (.func f) #[] #[]:=by
   generalize a.eval g=v at h';cases h' with
   | fn h _=>cases h;rfl
 have hr:(execOp a.eval o).run P w= .ok (.enter f (c.args.toList.map a.eval).toArray) w:=by
   rw[execOp,hop];simp only[resolve,hc,hv,Deferred.ofValue,Sem.run_bind,Sem.run_pure,Result.andThen_ok,invoke];rw[jR hA.1]
   congr 2
   exact Array.ext' (by simp)
 subst has;have hvs:=nL R c.args.toList hn;unfold Oper.wp;rw[hr,Oper.upon_enter]
 have hS0:Sof (Sof S0 ρ h) ρ0 (([]:List ABlk).map some)=Sof S0 ρ h:=by
   funext k;apply propext;unfold Sof;simp
 refine(hA.2.2 (Sof S0 ρ h) w ρ0 _ (fun k hk=>R.Slt hk) (fun l b h=>by simp at h) (fun l l' h=>by simp at h) ?_).mono ?_
 · rw[hS0];exact hvs.keep (fun _ h=>h.elim) ⟨Nat.le_refl _,fun l h=>h.elim,fun k _ hs=>⟨hs,rfl⟩⟩
 · rintro e w' ⟨v,ρ',rfl,hρ,hrel,hblk,hinj,hchg⟩
   have hchg':Chg No w w':=by
     have:(fun k=>∃ i,i<([]:List ABlk).length/\k=ρ0 i)=No:=by
       funext k;apply propext
       constructor
       · rintro⟨i,h,e⟩;simp at h
       · intro h;exact h.elim
     rw[this] at hchg;exact hchg
   obtain⟨ρ2,D2,R2,_⟩:=R.many (dst:=o.dst) hrel (fun l b hb=>⟨(hblk l b hb).1,(hblk l b hb).2.1.resolve_left (by simp),(hblk l b hb).2.2⟩) hinj hchg';rw[hs] at R2;exact hK ρ2 D2 _ _ R2
theorem oH {l i:Nat} {b b' c:ABlk} (hl:h[l]? =some (some b)) (hc:(h.set l (some b'))[i]? =some (some c)):i=l/\c=b'\/i≠l/\h[i]? =some (some c):=by
 rw[List.getElem?_set] at hc
 split at hc
 · rename_i e
   split at hc
   · injection hc with hc;injection hc with hc;exact .inl ⟨e.symm,hc.symm⟩
   · cases hc
 · rename_i e;exact .inr ⟨fun h=>e h.symm,hc⟩
theorem Sof.set {S0:Nat->Prop} {l:Nat} {b b':ABlk} (hl:h[l]? =some (some b)):Sof S0 ρ (h.set l (some b'))=Sof S0 ρ h:=by
 have hlt:=(List.getElem?_eq_some_iff.1 hl).1
 funext k;apply propext
 constructor
 · rintro(h1 | ⟨i,c,hc,e⟩)
   · exact .inl h1
   · rcases oH hl hc with ⟨rfl,_⟩ | ⟨_,hq⟩
     · exact .inr ⟨i,b,hl,e⟩
     · exact .inr ⟨i,c,hq,e⟩
 · rintro(h1 | ⟨i,c,hc,e⟩)
   · exact .inl h1
   · by_cases hi:i=l
     · subst hi;exact .inr ⟨i,b',by rw[List.getElem?_set_self hlt],e⟩
     · exact .inr ⟨i,c,by rw[List.getElem?_set_ne (Ne.symm hi)];exact hc,e⟩
theorem Rel.setB (R:Rel S0 C0 w0 ρ D ⟨σ,h⟩ a w) {l:Nat} {b b':ABlk} (hl:h[l]? =some (some b)) (hB:RelB ρ (Sof S0 ρ h) w D l b') (hp:∀ i,b'.pin=some i->ρ l=i):Rel S0 C0 w0 ρ D ⟨σ,h.set l (some b')⟩ a w where
 defers:=R.defers
 len:=R.len
 tmps:=fun t v hv=>by rw[Sof.set hl];exact R.tmps t v hv
 heap:=fun i c hc=>by
   rw[Sof.set hl];rcases oH hl hc with ⟨rfl,rfl⟩ | ⟨_,hq⟩
   · exact⟨(R.heap i b hl).1,hB⟩
   · exact R.heap i c hq
 inj:=fun i j c d hc hd e=>by
   rcases oH hl hc with ⟨rfl,rfl⟩ | ⟨_,hq⟩ <;> rcases oH hl hd with ⟨rfl,rfl⟩ | ⟨_,hr⟩
   · rfl
   · exact R.inj _ _ b d hl hr e
   · exact R.inj _ _ c b hq hl e
   · exact R.inj _ _ c d hq hr e
 lt:=R.lt
 dlt:=fun i hi=>by simpa using R.dlt i hi
 chg:=R.chg
 mine:=fun i c hc=>by
   rcases oH hl hc with ⟨rfl,rfl⟩ | ⟨_,hq⟩
   · have:=R.mine i b hl;exact⟨this.1,this.2.1,hp⟩
   · exact R.mine i c hq
theorem DP {T:TT} {ops:Array Oper} {iX:Nat} {o:Oper} {t el m:Nat} {i ie:TI} {x y:Operand} {Q:Exit->Act->World->Prop} {next:Act->World->Prop} (hT:kU P T)
   (R:Rel S0 C0 w0 ρ D ⟨σ,h⟩ a w) (ho:ops[iX]? =some o) (hop:o.op= .makeSlice t x y) (hw:lM ops σ o=some true) (hx:bF σ x= .int .i64 (m:Int)) (hy:bF σ y= .int .i64 (m:Int))
   (hi:T t=some i) (hk:i.k= .slice el) (hie:T el=some ie) (hnr:ie.zero.all noRef=true) (hpos:0<ie.sz) (e3:(ie.bytes:Int)*(m:Int)<=281474976710656) (e4:m<=1000000000)
   {st2:Nat->St} (hs:∀ k,(⟨put σ o.dst (.lit (.slice (some ⟨k,0,none⟩) m m)),h++ [some ⟨el,ie.sz,true,List.replicate m ie.zero,some k⟩]⟩:St)=st2 k)
   (hK:∀ k ρ' D' a' w',Rel S0 C0 w0 ρ' D' (st2 k) a' w'->next a' w'):wpOpIn (dQ none) 0 P ops Q iX next a w:=by
 unfold wpOpIn;rw[ho];simp only;rw[nO R hw,if_pos rfl];refine Ha (Q:=fun _ _ _=>False) (K:=next) (by rw[eP,hop]) (fun _ _ h=>h) (fun _ _ _ h=>h.elim) ?_;have hx':=R.eval x;have hy':=R.eval y;rw[hx] at hx';rw[hy] at hy';have hu:=dZ (hT _ _ hi) hk;have hte:=hT _ _ hie;obtain⟨z,hz,hzs,hzr⟩:=lL hte;obtain⟨info,de,g1,g2,g3,g4,_⟩:=hte.ex
 have yO:IntKind.i64.wrap (m:Int)=m:=by
   unfold IntKind.wrap;have hb:IntKind.i64.bits=64:=rfl;have hsg:IntKind.i64.signed=true:=rfl;simp only[hb,hsg];rw[Int.emod_eq_of_lt (by omega) (by omega)];rw[if_neg (by simp;omega)]
 have hti:(typeInfo el).run P w= .ok info w:=by
   have:(program).run P w= .ok P w:=rfl;simp[typeInfo,this,g1]
 have hr:(execOp a.eval o).run P w= .ok (.value (.slice (some ⟨w.heap.size,0,none⟩) m m)) (w.alloc (.cells ((Array.range (m*ie.sz)).map (z.cells[· % z.cells.size]!)) el (0,0))):=by
   rw[execOp,hop];have hnot:¬ ((m:Int)<0):=by omega
   have hbig:¬ ((info.bytes:Int)*m>2^48):=by rw[g4];omega
   simp only[hx'.int_inv,hy'.int_inv,Instr.makeSlice,Sem.run_bind,run_underlying hu,Result.andThen_ok,asInt,asIntOf,Sem.run_pure,hti,yO];rw[if_neg (by simp;omega)];simp only[Sem.run_bind,run_askRoom,Result.andThen_ok,hte.size_run,Int.toNat_natCast,newRow,newObj]
   by_cases hm0:m*ie.sz=0
   · simp only[hm0,if_true]
     have:(Array.range 0).map (fun x=>z.cells[x % z.cells.size]!)=(Array.range 0).map (fun x=>(#[]:Array Value)[x % (#[]:Array Value).size]!):=by simp
     rw[this];rfl
   · simp only[hm0,if_false,Sem.run_bind,hz,Sem.run_pure,Result.andThen_ok]
     rfl
 unfold Oper.wp;rw[hr,Oper.upon_value];have hnew:=heap_alloc_new w (.cells ((Array.range (m*ie.sz)).map (z.cells[· % z.cells.size]!)) el (0,0));have hold:∀ k,k<w.heap.size->(w.alloc (.cells ((Array.range (m*ie.sz)).map (z.cells[· % z.cells.size]!)) el (0,0))).heap[k]? =w.heap[k]? :=fun k hk=>Below.heap_alloc w _ k hk
 obtain⟨ρ2,D2,R2,h3⟩:=R.many (dst:=o.dst) (r:=.lit (.slice (some ⟨w.heap.size,0,none⟩) m m)) (h2:=[some ⟨el,ie.sz,true,List.replicate m ie.zero,none⟩]) (ρ':=fun _=>w.heap.size) (v:=.slice (some ⟨w.heap.size,0,none⟩) m m)
   (w' :=w.alloc (.cells ((Array.range (m*ie.sz)).map (z.cells[· % z.cells.size]!)) el (0,0))) (aV (.lit rfl .done)) (fun l b hb=>by
     match l,hb with
     | 0,hb=>
       injection hb with hb;injection hb with hb;subst hb;refine⟨⟨_,hnew,by simp,fun j c hj=> ?_⟩,Nat.le_refl _,fun h1=>absurd (R.Slt h1) (Nat.lt_irrefl _)⟩;rw[List.getElem?_replicate] at hj
       split at hj
       · rename_i hjm
         injection hj with hj;subst hj;rw[vL z.cells ie.sz m j hzs hpos hjm];exact hzr _ _ _ _
       · cases hj) (fun l l' b b' hb hb' _=>by
     have h1:=(List.getElem?_eq_some_iff.1 hb).1;have h2:=(List.getElem?_eq_some_iff.1 hb').1;simp only[List.length_cons,List.length_nil] at h1 h2
     omega) (Chg.ofNo rfl rfl rfl (by show w.heap.size<=(w.heap.push _).size;simp) hold)
 have hg:(h++nJ h.length [some ⟨el,ie.sz,true,List.replicate m ie.zero,none⟩])[h.length]? =some (some ⟨el,ie.sz,true,List.replicate m ie.zero,none⟩):=by
   rw[List.getElem?_append_right (Nat.le_refl _),Nat.sub_self];rfl
 have R3:=R2.setB (b':=⟨el,ie.sz,true,List.replicate m ie.zero,some w.heap.size⟩) hg (R2.heap _ _ hg).2 (fun i hi=>by injection hi with hi;subst hi;exact h3 0)
 have e:(h++nJ h.length [some ⟨el,ie.sz,true,List.replicate m ie.zero,none⟩]).set h.length (some ⟨el,ie.sz,true,List.replicate m ie.zero,some w.heap.size⟩)=h++ [some ⟨el,ie.sz,true,List.replicate m ie.zero,some w.heap.size⟩]:=by
   rw[List.set_append_right _ _ (Nat.le_refl _),Nat.sub_self];rfl
 rw[e] at R3;exact hK w.heap.size _ _ _ _ (hs w.heap.size▸R3)
theorem Rel.unlit (R:Rel S0 C0 w0 ρ D ⟨σ,h⟩ a w) {l:Nat} {b:ABlk} {els:List (List AV)} (hl:h[l]? =some (some b)) (hle:els.length=b.elems.length)
   (hr:∀ (i:Nat) (el el':List AV),b.elems[i]? =some el->els[i]? =some el'->∃ (k m j:Nat) (c:ABlk),el= [.lit (.slice (some ⟨k,0,none⟩) m m)]/\el'= [.own j c.e 0 m]/\h[j]? =some (some c)/\c.pin=some k/\c.elems.length=m/\m<=big):
   Rel S0 C0 w0 ρ D ⟨σ,h.set l (some ⟨b.ty,b.e,false,els,b.pin⟩)⟩ a w:=by
 obtain⟨hD,arr,h1,h2,h3⟩:=R.heap l b hl;refine R.setB hl ⟨arr,h1,by simp only;rw[hle];exact h2,fun i el' he'=> ?_⟩ (R.mine l b hl).2.2;simp only at he';have hi:i<b.elems.length:=by rw[<- hle];exact(List.getElem?_eq_some_iff.1 he').1
 obtain⟨k,m,j,c,e1,rfl,hj,hp,hm,hb⟩:=hr i _ el' (List.getElem?_eq_getElem hi) he';have h4:=h3 i _ (List.getElem?_eq_getElem hi);rw[e1] at h4;have hk:=(R.mine j c hj).2.2 k hp;obtain⟨hDj,arr2,q1,q2,_⟩:=R.heap j c hj
 have key:∀ vs,RelCs ρ (Sof S0 ρ h) w (if b.closed then No else D) [.lit (.slice (some ⟨k,0,none⟩) m m)] vs->RelCs ρ (Sof S0 ρ h) w D [.own j c.e 0 m] vs:=by
   intro vs hv;cases hv with
   | lit _ hd=>
     cases hd;exact .own hDj (Nat.le_refl _) hb (fun _=>⟨by rw[hk,Nat.zero_mul],arr2,_,q1,by rw[Nat.zero_add, <- hm];exact q2⟩) .done
 exact key _ h4
end
section
variable {P:Program} {f:FuncId} {S0 C0:Nat->Prop} {w0:World} {Post:Value->World->Prop} {T:TT} {K:KT}
theorem Good.unlit {todo:List Item} {σ:List AV} {h:List (Option ABlk)} {l:Nat} {b:ABlk} {els:List (List AV)} (hl:h[l]? =some (some b)) (hle:els.length=b.elems.length)
   (hr:∀ (i:Nat) (el el':List AV),b.elems[i]? =some el->els[i]? =some el'->∃ (k m j:Nat) (c:ABlk),el= [.lit (.slice (some ⟨k,0,none⟩) m m)]/\el'= [.own j c.e 0 m]/\h[j]? =some (some c)/\c.pin=some k/\c.elems.length=m/\m<=big)
   (hg:Good P f S0 C0 w0 Post todo ⟨σ,h.set l (some ⟨b.ty,b.e,false,els,b.pin⟩)⟩):Good P f S0 C0 w0 Post todo ⟨σ,h⟩:=fun ρ D a w R bb cs hb hk=>hg ρ D a w (R.unlit hl hle hr) bb cs hb hk
theorem Good.regOdd {γ:Type} (x0:γ) (hT:kU P T) (hK:KOK P K) {c:Code} (iX:Nat) (ov1 ov2:lJ) {k:List Item} {st:St} {σ1:List AV} {h1:List (Option ABlk)} {ob1:List Prop} {st2:γ->St} {σ3:γ->List AV} {h3:γ->List (Option ABlk)} {ob2:γ->List Prop}
   (hc:c= .region (rN c) (aL c) false) (hd:(aL c).all eP=true) (hlt:iX<(aL c).size)
   (he1:(gQ T K (aL c) (bU 0 ((aL c).toList.take iX) ov1 st.h.length) ⟨st.σ,st.h++List.replicate (dT ((aL c).toList.take iX)) none⟩).map (fun r=>(r.1.σ,r.1.h,tM r.2))=some (σ1,h1,ob1)) (ho1:AllP ob1)
   (hX:∀ ρ D a w Q (next:Act->World->Prop),Rel S0 C0 w0 ρ D ⟨σ1,h1⟩ a w->(∀ x ρ' D' a' w',Rel S0 C0 w0 ρ' D' (st2 x) a' w'->next a' w')->wpOpIn (dQ none) 0 P (aL c) Q iX next a w)
   (he2:∀ x,(gQ T K (aL c) (bU (iX+1) ((aL c).toList.drop (iX+1)) ov2 (st2 x).h.length) ⟨(st2 x).σ,(st2 x).h++List.replicate (dT ((aL c).toList.drop (iX+1))) none⟩).map (fun r=>(r.1.σ,r.1.h,tM r.2))=some (σ3 x,h3 x,ob2 x)) (ho2:∀ x,AllP (ob2 x))
   (hg:∀ x,Good P f S0 C0 w0 Post k ⟨σ3 x,h3 x⟩):Good P f S0 C0 w0 Post (.code c::k) st:=by
 obtain⟨⟨st1,rs1⟩,e1,e2⟩:=Option.map_eq_some_iff.1 he1;simp only[Prod.mk.injEq] at e2;obtain⟨rfl,rfl,rfl⟩:=e2
 have hd':∀ o∈aL c,eP o=true:=by
   intro o ho;obtain⟨i,hi,e⟩:=Array.mem_iff_getElem.1 ho;exact e▸Array.all_eq_true.1 hd i hi
 have pend:∀ (ρ:Nat->Nat) (D:Nat->Prop) (st:St) (a:Act) (w:World) (os:List Oper) (i:Nat) (ov:lJ),Rel S0 C0 w0 ρ D st a w->Pend D (st.h++List.replicate (dT os) none) (bU i os ov st.h.length):=by
   intro ρ D st a w os i ov R;obtain⟨hnid,hap⟩:=lN os i ov st.h.length;refine⟨fun p hp hn=> ?_,hap⟩;obtain⟨h1,h2⟩:=hnid p hp hn;refine⟨?_,fun h=> ?_⟩
   · rw[List.getElem?_append_right h1,List.getElem?_replicate,if_pos (by omega)]
   · have:=R.dlt _ h;omega
 have hops1:∀ p∈bU 0 ((aL c).toList.take iX) ov1 st.h.length,(aL c)[p.1]? =some p.2.o:=by
   intro p hp;obtain⟨k,h1,h2⟩:=gK _ _ _ _ p hp;rw[List.getElem?_take] at h2
   split at h2
   · rw[h1,Nat.zero_add];simpa using h2
   · cases h2
 have hops2:∀ x,∀ p∈bU (iX+1) ((aL c).toList.drop (iX+1)) ov2 (st2 x).h.length,(aL c)[p.1]? =some p.2.o:=by
   intro x p hp;obtain⟨k,h1,h2⟩:=gK _ _ _ _ p hp;rw[List.getElem?_drop] at h2;rw[h1];simpa using h2
 have hrange:∀ x,List.range (aL c).size=(bU 0 ((aL c).toList.take iX) ov1 st.h.length).map (·.1)++iX::((bU (iX+1) ((aL c).toList.drop (iX+1)) ov2 (st2 x).h.length).map (·.1)++ []):=by
   intro x;rw[eU,eU,List.append_nil,List.length_take,List.length_drop,Array.length_toList,Nat.min_eq_left (by omega),List.range_eq_range'];have h4:(aL c).size=iX+(1+((aL c).size-(iX+1))):=by omega
   conv=>lhs;rw[h4]
   rw[<- List.range'_append_1,Nat.zero_add,Nat.add_comm 1,List.range'_succ]
 intro ρ D a w R b cs hb hk
 have hw:(Code.region (rN c) (aL c) false).wpIn (dQ none) 0 P (fun e a' w'=>e= .normal/\∃ x ρ' D',Rel S0 C0 w0 ρ' D' ⟨σ3 x,h3 x⟩ a' w') a w:=by
   refine wpIn_region ?_;have hL:¬ LetsOut (fun e a' w'=>e=Exit.normal/\∃ ρ' D',Rel S0 C0 w0 ρ' D' st1 a' w'):=by rintro⟨_,_,h,_⟩;cases h
   rw[hrange x0];have s1:=kB (P:=P) (ops:=aL c) (Q:=fun e a' w'=>e=Exit.normal/\∃ ρ' D',Rel S0 C0 w0 ρ' D' st1 a' w') hT hK _ ρ D _ _ a w rs1 (R.more _) (pend ρ D st a w _ 0 ov1 R) hops1 e1 (fN rs1 ho1) (fun ρ' D' a' w' h=>⟨rfl,ρ',D',h⟩);refine lY (Q:=fun e a' w'=>e=Exit.normal/\∃ ρ' D',Rel S0 C0 w0 ρ' D' st1 a' w') hd' hL (fun e a w hn h=>absurd h.1 hn) _ ?_ _ a w s1 (fun e a w hn h=>hn h.1);rintro a1 w1 ⟨_,ρ1,D1,R1⟩;rw[wpOpsIn_cons];refine hX ρ1 D1 a1 w1 _ _ R1 fun x ρ2 D2 a2 w2 R2=> ?_
   obtain⟨⟨st4,rs2⟩,e3,e4⟩:=Option.map_eq_some_iff.1 (he2 x);simp only[Prod.mk.injEq] at e4;obtain⟨q1,q2,q3⟩:=e4;have s2:=kB (P:=P) (ops:=aL c) (Q:=fun e a' w'=>e=Exit.normal/\∃ ρ' D',Rel S0 C0 w0 ρ' D' st4 a' w') hT hK _ ρ2 D2 _ _ a2 w2 rs2 (R2.more _) (pend ρ2 D2 (st2 x) a2 w2 _ _ ov2 R2) (hops2 x) e3 (fN rs2 (q3▸ho2 x)) (fun ρ' D' a' w' h=>⟨rfl,ρ',D',h⟩);have hfst:(bU (iX+1) ((aL c).toList.drop (iX+1)) ov2 (st2 x0).h.length).map (·.1)=(bU (iX+1) ((aL c).toList.drop (iX+1)) ov2 (st2 x).h.length).map (·.1):=by rw[eU,eU]
   rw[hfst];refine lY (Q':=fun e a' w'=>e= .normal/\∃ x ρ' D',Rel S0 C0 w0 ρ' D' ⟨σ3 x,h3 x⟩ a' w') hd' (by rintro⟨_,_,h,_⟩;cases h) (fun e a w hn h=>absurd h.1 hn) [] (fun a w h=> ?_) _ a2 w2 s2 (fun e a w hn h=>hn h.1);obtain⟨_,ρ3,D3,R3⟩:=h;exact⟨rfl,x,ρ3,D3,by rw[<- q1, <- q2];exact R3⟩
 let b0:Frame:={ b with roundOf:=none }
 have hat:∀ a todo,b.at a todo=b0.atR a todo:=fun a todo=>by simp[b0,Frame.at,Frame.atR]
 obtain⟨e,a',w',⟨rfl,x,ρ',D',R'⟩,harr⟩:=hw b0 k cs rfl trivial (room_wide _);obtain⟨v,w2,fr,g1,g2,g3⟩:=hg x ρ' D' a' w' R' b cs hb hk;refine⟨v,w2,fr,g1,Steps.trans ?_ g2,g3⟩
 have:=StepsIn.steps harr;rw[hc,hat,hat];exact this
end
end Go.Av
namespace Go.Av
open Go.Proofs Go.RowKit
def Vx:KF
 | [.agg [.q px B,.q pz D],.agg [.q qx C,.q qz E]]=>some (.agg [.q (px+qx) (B+C+2),.q (pz+qz) (D+E+2)],[B+D+C+E+300<=LIM])
 | _=>none
theorem Vy:bQ 36 Vx:=by
 refine cK Tryz.f36 fun _ _ _ S w0 h ho=> ?_
 unfold Vx at h;split at h <;> cases h;rename_i px B pz D qx C qz E;have o1:=ho.one;have L:=dR;have K:=kn.cons Fr;exact rR K [] (.a2 (om (B+C+200<=LIM)) (om (D+E+200<=LIM)))
def Vz:KF
 | [.agg [.q px B,.q pz D],.agg [.q c C,.q s E]]=>some (.agg [.q (c*px-s*pz) (B+D+C+E+6),.q (s*px+c*pz) (B+D+C+E+6)],[B+D+C+E+300<=LIM])
 | _=>none
theorem TS:bQ 37 Vz:=by
 refine cK Tryz.f37 fun _ _ _ S w0 h ho=> ?_
 unfold Vz at h;split at h <;> cases h;rename_i px B pz D c C s E;have o1:=ho.one;have L:=dR;have K:=((kn.cons Fp).cons LB).cons Fr;exact rV K [] (.c6 (om (C+B+200<=LIM)) (om (E+D+200<=LIM)) (om ((C+B+2)+(E+D+2)+200<=LIM)) (om (E+B+200<=LIM)) (om (C+D+200<=LIM)) (om ((E+B+2)+(C+D+2)+200<=LIM)) (.a2 (om ((C+B+2)+(E+D+2)+2<=B+D+C+E+6)) (om ((E+B+2)+(C+D+2)+2<=B+D+C+E+6))))
def QV:KF
 | [.agg [.q ax A,.q az D,.q c C,.q s E],.agg [.q px B,.q pz F]]=>some (.agg [.q (ax+(c*px-s*pz)) (A+(B+F+C+E+6)+2),.q (az+(s*px+c*pz)) (D+(B+F+C+E+6)+2)],[A+D+2*B+2*F+2*C+2*E+400<=LIM])
 | _=>none
theorem Hn:bQ 119 QV:=by
 refine cK Tryz.f119 fun _ _ _ S w0 h ho=> ?_
 unfold QV at h;split at h <;> cases h;rename_i ax A az D c C s E px B pz F;have o1:=ho.one;have L:=dR;have K:=(kn.cons TS).cons Vy;exact rR K [] (.a2 (om (B+F+C+E+300<=LIM)) (om (A+D+(B+F+C+E+6)+(B+F+C+E+6)+300<=LIM)))
def VA:KF
 | [.agg [.q c B,.q s D],.agg [.q e C,.q t E]]=>some (.agg [.q (c*e-s*t) (C+E+B+D+6),.q (s*e+c*t) (C+E+B+D+6)],[C+E+B+D+300<=LIM])
 | _=>none
theorem Wi:bQ 94 VA:=by
 refine cK Tryz.f94 fun _ _ _ S w0 h ho=> ?_
 unfold VA at h;split at h <;> cases h;rename_i c B s D e C t E;have o1:=ho.one;have K:=kn.cons TS;exact rR K [] (.a1 o1)
noncomputable abbrev Ho:List Item:=[.code (aN [1,0,1] (aA Tryz.f209)),.code (aN [1,1] (aA Tryz.f209))]
def fF:=((kn.cons Hn).cons Wi).cons Vu
abbrev lF:ABlk:=⟨175,12,false,[[.q 0 0,.q 0 0,.q 0 0,.q 0 0]],none⟩
abbrev xF (r:Nat) (m:MachD) (jb:Nat) (p:PoseD):List AV:=[.cptr [.lit (.map (some r))] 0,AV.any,.cptr (aD 300 m) 0,.cptr (aW jb p) 0]
abbrev xG:AV:=(.tup [.agg [.q 0 0,.q 0 0,.q 0 0,.q 0 0],.bool false])
abbrev Hp (ff:Func):List Item:=[.code (aN [1,0,0] (aA ff)),.code (aN [1,0,1] (aA ff)),.code (aN [1,1] (aA ff))]
section
variable {S0 C0:Nat->Prop} {w0:World} {Post:Value->World->Prop}
theorem Hq {B B':Base->Prop} (i r jb:Nat) (m:MachD) (p:PoseD) (clo:AV) (s:Nat) (f:FrameD)
   (hB:B ⟨S0,C0,w0⟩) (hX:∀ (Q:Exit->Act->World->Prop) β ρ D σ h a w,B β->Rel β.S β.C β.w ρ D ⟨σ,h⟩ a w->(∀ τ∈ [11,12],σ.getD τ .any=(slots 50 [(0,.i6 (i:Int)),(1,(.cptr [(.lit (.map (some r)))] 0)),(2,clo),(3,.cptr (aD 300 m) 0),(4,(.cptr [(.q p.at_.x jb),(.q p.at_.z jb),(.q p.turn jb),(.list 3 (p.joints.map (bG jb)))] 0)),(6,.ptr 0 12 0 0),(7,.ptr 1 12 0 0),(8,.bool true),(10,(.tup [(.agg [(.q f.at_.x (2*s)),(.q f.at_.z (2*s)),(.q f.c s),(.q f.s s)]),(.bool true)])),(11,.lit (.map (some r))),(12,.i6 (i:Int)),(13,(.tup [(.agg [(.q f.at_.x (2*s)),(.q f.at_.z (2*s)),(.q f.c s),(.q f.s s)]),(.bool true)])),(14,.agg [(.q f.at_.x (2*s)),(.q f.at_.z (2*s)),(.q f.c s),(.q f.s s)]),(15,.bool true)]).getD τ .any)->wpOp Tryz.prog (aL (aN [1,0,0] (aA Tryz.f209))) Q 2 (fun a' w'=>∃ β',B' β'/\Rel β'.S β'.C β'.w ρ D ⟨put σ (some 13) (.tup [.agg (dS s f),.bool true]),h⟩ a' w') a w)
   (hg:∀ β,B' β->Good Tryz.prog 209 β.S β.C β.w Post Ho ⟨slots 50 [(0,.i6 (i:Int)),(1,.cptr [.lit (.map (some r))] 0),(2,clo),(3,.cptr (aD 300 m) 0),(4,.cptr (aW jb p) 0),(6,.ptr 0 12 0 0),(7,.ptr 1 12 0 0),(8,.bool true),(10,.tup [.agg (dS s f),.bool true]),(11,.lit (.map (some r))),(12,.i6 (i:Int)),(13,.tup [.agg (dS s f),.bool true]),(14,.agg (dS s f)),(15,.bool true)],[some (lF),some ⟨175,12,false,[(dS s f)],none⟩]⟩):
   Good Tryz.prog 209 S0 C0 w0 Post (Hp Tryz.f209) ⟨slots 50 [(0,.i6 (i:Int)),(1,.cptr [.lit (.map (some r))] 0),(2,clo),(3,.cptr (aD 300 m) 0),(4,.cptr (aW jb p) 0),(6,.ptr 0 12 0 0)],[some (lF)]⟩:=
 Good.regX mixed aT fF 2 (c:=aN [1,0,0] (aA Tryz.f209)) (oX:=((aL (aN [1,0,0] (aA Tryz.f209))).toList[2]?).getD default) (dX:=some 13) (V:=(.tup [.agg (dS s f),.bool true])) (ov:=[(13,(.tup [.agg (dS s f),.bool true]))]) (ob:=[]) [11,12] (by kernel_rfl) (by kernel_rfl) (by kernel_rfl) (by kernel_rfl) (by kernel_rfl)
   (AllP.nil) (Or.inr (by kernel_rfl)) (by kernel_rfl) hX hB hg
theorem Fb {B B':Base->Prop} (i r jb:Nat) (m:MachD) (p:PoseD) (clo:AV)
   (hB:B ⟨S0,C0,w0⟩) (hX:∀ (Q:Exit->Act->World->Prop) β ρ D σ h a w,B β->Rel β.S β.C β.w ρ D ⟨σ,h⟩ a w->(∀ τ∈ [11,12],σ.getD τ .any=(slots 50 [(0,.i6 (i:Int)),(1,(.cptr [(.lit (.map (some r)))] 0)),(2,clo),(3,.cptr (aD 300 m) 0),(4,(.cptr [(.q p.at_.x jb),(.q p.at_.z jb),(.q p.turn jb),(.list 3 (p.joints.map (bG jb)))] 0)),(6,.ptr 0 12 0 0),(7,.ptr 1 12 0 0),(8,.bool false),(10,.tup [(.agg [(.q 0 0),(.q 0 0),(.q 0 0),(.q 0 0)]),(.bool false)]),(11,.lit (.map (some r))),(12,.i6 (i:Int)),(13,.tup [(.agg [(.q 0 0),(.q 0 0),(.q 0 0),(.q 0 0)]),(.bool false)]),(14,.agg [(.q 0 0),(.q 0 0),(.q 0 0),(.q 0 0)]),(15,.bool false)]).getD τ .any)->wpOp Tryz.prog (aL (aN [1,0,0] (aA Tryz.f209))) Q 2 (fun a' w'=>∃ β',B' β'/\Rel β'.S β'.C β'.w ρ D ⟨put σ (some 13) (xG),h⟩ a' w') a w)
   (hg:∀ β,B' β->Good Tryz.prog 209 β.S β.C β.w Post Ho ⟨slots 50 [(0,.i6 (i:Int)),(1,.cptr [.lit (.map (some r))] 0),(2,clo),(3,.cptr (aD 300 m) 0),(4,.cptr (aW jb p) 0),(6,.ptr 0 12 0 0),(7,.ptr 1 12 0 0),(8,.bool false),(10,(xG)),(11,.lit (.map (some r))),(12,.i6 (i:Int)),(13,(xG)),(14,.agg [.q 0 0,.q 0 0,.q 0 0,.q 0 0]),(15,.bool false)],[some (lF),some (lF)]⟩):
   Good Tryz.prog 209 S0 C0 w0 Post (Hp Tryz.f209) ⟨slots 50 [(0,.i6 (i:Int)),(1,.cptr [.lit (.map (some r))] 0),(2,clo),(3,.cptr (aD 300 m) 0),(4,.cptr (aW jb p) 0),(6,.ptr 0 12 0 0)],[some (lF)]⟩:=
 Good.regX mixed aT fF 2 (c:=aN [1,0,0] (aA Tryz.f209)) (oX:=((aL (aN [1,0,0] (aA Tryz.f209))).toList[2]?).getD default) (dX:=some 13) (V:=(xG)) (ov:=[(13,(xG))]) (ob:=[]) [11,12] (by kernel_rfl) (by kernel_rfl) (by kernel_rfl) (by kernel_rfl) (by kernel_rfl)
   (AllP.nil) (Or.inr (by kernel_rfl)) (by kernel_rfl) hX hB hg
theorem Fc {B B':Base->Prop} (i r jb:Nat) (m:MachD) (p:PoseD) (v:BodyD) (s:Nat) (f:FrameD) (o:(Ref (.cptr ((m.bodies.map (aE 300)).getD i []) 0) (.cptr (aE 300 v) 0))/\((i:Int)<((m.bodies.map (aE 300)).length:Int)))
   (hB:B ⟨S0,C0,w0⟩) (hX:∀ (Q:Exit->Act->World->Prop) β ρ D σ h a w,B β->Rel β.S β.C β.w ρ D ⟨σ,h⟩ a w->(∀ τ∈ [18,24],σ.getD τ .any=(slots 50 [(0,.i6 (i:Int)),(1,(.cptr [(.lit (.map (some r)))] 0)),(2,(.cptr [(.fn 209 [(.cptr [(.lit (.map (some r)))] 0),.any,(.cptr (aD 300 m) 0),(.cptr [(.q p.at_.x jb),(.q p.at_.z jb),(.q p.turn jb),(.list 3 (p.joints.map (bG jb)))] 0)])] 0)),(3,.cptr (aD 300 m) 0),(4,(.cptr [(.q p.at_.x jb),(.q p.at_.z jb),(.q p.turn jb),(.list 3 (p.joints.map (bG jb)))] 0)),(6,.ptr 0 12 0 0),(9,.ptr 1 12 0 0),(18,(.fn 209 [(.cptr [(.lit (.map (some r)))] 0),.any,(.cptr (aD 300 m) 0),(.cptr [(.q p.at_.x jb),(.q p.at_.z jb),(.q p.turn jb),(.list 3 (p.joints.map (bG jb)))] 0)])),(19,.cptr (aD 300 m) 1),(20,.list 27 (m.bodies.map (aE 300))),(21,.i6 (i:Int)),(22,(.cptr [(.str v.name),(.i6 v.par),(.q v.at_.x 300),(.q v.at_.z 300),(.q v.ma 300),(.q v.inr 300),(.q v.c.x 300),(.q v.c.z 300),(.q v.low 300),(.q v.high 300),(.list 6 (v.shape.map (eY 300)))] 0)),(23,(.cptr [(.str v.name),(.i6 v.par),(.q v.at_.x 300),(.q v.at_.z 300),(.q v.ma 300),(.q v.inr 300),(.q v.c.x 300),(.q v.c.z 300),(.q v.low 300),(.q v.high 300),(.list 6 (v.shape.map (eY 300)))] 1)),(24,.i6 v.par),(25,.agg [(.q f.at_.x (2*s)),(.q f.at_.z (2*s)),(.q f.c s),(.q f.s s)])]).getD τ .any)->wpOp Tryz.prog (aL (aN [1,1,0] (aA Tryz.f209))) Q 7 (fun a' w'=>∃ β',B' β'/\Rel β'.S β'.C β'.w ρ D ⟨put σ (some 25) (.agg (dS s f)),h⟩ a' w') a w)
   (hg:∀ β,B' β->Good Tryz.prog 209 β.S β.C β.w Post [.code (aN [1,1,1] (aA Tryz.f209))] ⟨slots 50 [(0,.i6 (i:Int)),(1,.cptr [.lit (.map (some r))] 0),(2,.cptr [.fn 209 (xF r m jb p)] 0),(3,.cptr (aD 300 m) 0),(4,.cptr (aW jb p) 0),(6,.ptr 0 12 0 0),(9,.ptr 1 12 0 0),(18,.fn 209 (xF r m jb p)),(19,.cptr (aD 300 m) 1),(20,.list 27 (m.bodies.map (aE 300))),(21,.i6 (i:Int)),(22,.cptr (aE 300 v) 0),(23,.cptr (aE 300 v) 1),(24,.i6 v.par),(25,.agg (dS s f))],[some (lF),some ⟨175,12,false,[(dS s f)],none⟩]⟩):
   Good Tryz.prog 209 S0 C0 w0 Post [.code (aN [1,1,0] (aA Tryz.f209)),.code (aN [1,1,1] (aA Tryz.f209))] ⟨slots 50 [(0,.i6 (i:Int)),(1,.cptr [.lit (.map (some r))] 0),(2,.cptr [.fn 209 (xF r m jb p)] 0),(3,.cptr (aD 300 m) 0),(4,.cptr (aW jb p) 0),(6,.ptr 0 12 0 0)],[some (lF)]⟩:=
 Good.regX mixed aT fF 7 (c:=aN [1,1,0] (aA Tryz.f209)) (oX:=((aL (aN [1,1,0] (aA Tryz.f209))).toList[7]?).getD default) (dX:=some 25) (V:=(.agg (dS s f))) (ov:=[(22,(.cptr (aE 300 v) 0)),(25,(.agg (dS s f)))]) (ob:=[Ref (.cptr ((m.bodies.map (aE 300)).getD i []) 0) (.cptr (aE 300 v) 0),0<=(i:Int),(i:Int)<((m.bodies.map (aE 300)).length:Int)]) [18,24] (by kernel_rfl) (by kernel_rfl) (by kernel_rfl) (by kernel_rfl) (by kernel_rfl)
   (.cons (o.1) (.cons (Int.natCast_nonneg _) (.cons (o.2) (AllP.nil)))) (Or.inr (by kernel_rfl)) (by kernel_rfl) hX hB hg
theorem Hr {B B':Base->Prop} (i r jb:Nat) (m:MachD) (p:PoseD) (v:BodyD) (s e:Nat) (f g:FrameD) (t:Rat) (o:(Ref (.cptr ((m.bodies.map (aE 300)).getD i []) 0) (.cptr (aE 300 v) 0))/\((i:Int)<((m.bodies.map (aE 300)).length:Int))/\((2*s)+(2*s)+2*300+2*300+2*s+2*s+400<=LIM)/\(-9223372036854775808<=(i:Int)-(1:Int)/\(i:Int)-(1:Int)<=9223372036854775807)/\(Ref (.cptr ((p.joints.map (bG jb)).getD (((i:Int)-(1:Int)).toNat) []) 0) (.cptr [.q t jb] 0))/\(0<=((i:Int)-(1:Int)))/\(((i:Int)-(1:Int))<((p.joints.map (bG jb)).length:Int))/\(4*jb+800<=LIM)/\((4*jb+200)+(4*jb+200)+s+s+300<=LIM)/\(Ref (.agg [.q (f.at_.x+(f.c*v.at_.x-f.s*v.at_.z)) ((2*s)+(300+300+s+s+6)+2),.q (f.at_.z+(f.s*v.at_.x+f.c*v.at_.z)) ((2*s)+(300+300+s+s+6)+2),.q (f.c*((1-t*t)/(1+t*t))-f.s*((t+t)/(1+t*t))) ((4*jb+200)+(4*jb+200)+s+s+6),.q (f.s*((1-t*t)/(1+t*t))+f.c*((t+t)/(1+t*t))) ((4*jb+200)+(4*jb+200)+s+s+6)]) (.agg (dS e g))))
   (hB:B ⟨S0,C0,w0⟩) (hX:∀ (Q:Exit->Act->World->Prop) β ρ D σ h a w,B β->Rel β.S β.C β.w ρ D ⟨σ,h⟩ a w->(∀ τ∈ [26,27,46],σ.getD τ .any=(slots 50 [(0,.i6 (i:Int)),(1,(.cptr [(.lit (.map (some r)))] 0)),(2,(.cptr [(.fn 209 [(.cptr [(.lit (.map (some r)))] 0),.any,(.cptr (aD 300 m) 0),(.cptr [(.q p.at_.x jb),(.q p.at_.z jb),(.q p.turn jb),(.list 3 (p.joints.map (bG jb)))] 0)])] 0)),(3,.cptr (aD 300 m) 0),(4,(.cptr [(.q p.at_.x jb),(.q p.at_.z jb),(.q p.turn jb),(.list 3 (p.joints.map (bG jb)))] 0)),(6,.ptr 0 12 0 0),(9,.ptr 1 12 0 0),(26,.lit (.map (some r))),(27,.i6 (i:Int)),(28,.agg [(.q f.at_.x (2*s)),(.q f.at_.z (2*s)),(.q f.c s),(.q f.s s)]),(29,.cptr (aD 300 m) 1),(30,.list 27 (m.bodies.map (aE 300))),(31,.i6 (i:Int)),(32,(.cptr [(.str v.name),(.i6 v.par),(.q v.at_.x 300),(.q v.at_.z 300),(.q v.ma 300),(.q v.inr 300),(.q v.c.x 300),(.q v.c.z 300),(.q v.low 300),(.q v.high 300),(.list 6 (v.shape.map (eY 300)))] 0)),(33,(.cptr [(.str v.name),(.i6 v.par),(.q v.at_.x 300),(.q v.at_.z 300),(.q v.ma 300),(.q v.inr 300),(.q v.c.x 300),(.q v.c.z 300),(.q v.low 300),(.q v.high 300),(.list 6 (v.shape.map (eY 300)))] 2)),(34,.agg [(.q v.at_.x 300),(.q v.at_.z 300)]),(35,(.agg [(.q (f.at_.x+(f.c*v.at_.x-f.s*v.at_.z)) ((2*s)+(300+300+s+s+6)+2)),(.q (f.at_.z+(f.s*v.at_.x+f.c*v.at_.z)) ((2*s)+(300+300+s+s+6)+2))])),(36,.ptr 1 12 0 6),(37,.agg [(.q f.c s),(.q f.s s)]),(38,(.cptr [(.q p.at_.x jb),(.q p.at_.z jb),(.q p.turn jb),(.list 3 (p.joints.map (bG jb)))] 9)),(39,.list 3 (p.joints.map (bG jb))),(40,.i6 (i:Int)),(41,.i6 ((i:Int)-(1:Int))),(42,.cptr [(.q t jb)] 0),(43,.agg [(.q t jb)]),(44,(.agg [(.q ((1-t*t)/(1+t*t)) (4*jb+200)),(.q ((t+t)/(1+t*t)) (4*jb+200))])),(45,(.agg [(.q (f.c*((1-t*t)/(1+t*t))-f.s*((t+t)/(1+t*t))) ((4*jb+200)+(4*jb+200)+s+s+6)),(.q (f.s*((1-t*t)/(1+t*t))+f.c*((t+t)/(1+t*t))) ((4*jb+200)+(4*jb+200)+s+s+6))])),(46,.agg [(.q g.at_.x (2*e)),(.q g.at_.z (2*e)),(.q g.c e),(.q g.s e)])]).getD τ .any)->wpOp Tryz.prog (aL (aN [1,1,1,0] (aA Tryz.f209))) Q 21 (fun a' w'=>∃ β',B' β'/\Rel β'.S β'.C β'.w ρ D ⟨put σ (none) AV.any,h⟩ a' w') a w)
   (hg:∀ β,B' β->Good Tryz.prog 209 β.S β.C β.w Post [.code (aN [1,1,1,1] (aA Tryz.f209))] ⟨slots 50 [(0,.i6 (i:Int)),(1,.cptr [.lit (.map (some r))] 0),(2,.cptr [.fn 209 (xF r m jb p)] 0),(3,.cptr (aD 300 m) 0),(4,.cptr (aW jb p) 0),(6,.ptr 0 12 0 0),(9,.ptr 1 12 0 0),(26,.lit (.map (some r))),(27,.i6 (i:Int)),(28,.agg (dS s f)),(29,.cptr (aD 300 m) 1),(30,.list 27 (m.bodies.map (aE 300))),(31,.i6 (i:Int)),(32,.cptr (aE 300 v) 0),(33,.cptr (aE 300 v) 2),(34,.agg [.q v.at_.x 300,.q v.at_.z 300]),(35,.agg [.q (f.at_.x+(f.c*v.at_.x-f.s*v.at_.z)) ((2*s)+(300+300+s+s+6)+2),.q (f.at_.z+(f.s*v.at_.x+f.c*v.at_.z)) ((2*s)+(300+300+s+s+6)+2)]),(36,.ptr 1 12 0 6),(37,.agg [.q f.c s,.q f.s s]),(38,.cptr (aW jb p) 9),(39,.list 3 (p.joints.map (bG jb))),(40,.i6 (i:Int)),(41,.i6 ((i:Int)-(1:Int))),(42,.cptr [.q t jb] 0),(43,.agg [.q t jb]),(44,.agg [.q ((1-t*t)/(1+t*t)) (4*jb+200),.q ((t+t)/(1+t*t)) (4*jb+200)]),(45,(.agg [.q (f.c*((1-t*t)/(1+t*t))-f.s*((t+t)/(1+t*t))) ((4*jb+200)+(4*jb+200)+s+s+6),.q (f.s*((1-t*t)/(1+t*t))+f.c*((t+t)/(1+t*t))) ((4*jb+200)+(4*jb+200)+s+s+6)])),(46,.agg (dS e g))],[some (lF),some ⟨175,12,false,[(dS s f)],none⟩,none,none,none]⟩):
   Good Tryz.prog 209 S0 C0 w0 Post [.code (aN [1,1,1,0] (aA Tryz.f209)),.code (aN [1,1,1,1] (aA Tryz.f209))] ⟨slots 50 [(0,.i6 (i:Int)),(1,.cptr [.lit (.map (some r))] 0),(2,.cptr [.fn 209 (xF r m jb p)] 0),(3,.cptr (aD 300 m) 0),(4,.cptr (aW jb p) 0),(6,.ptr 0 12 0 0),(9,.ptr 1 12 0 0)],[some (lF),some ⟨175,12,false,[(dS s f)],none⟩]⟩:=
 Good.regX mixed aT fF 21 (c:=aN [1,1,1,0] (aA Tryz.f209)) (oX:=((aL (aN [1,1,1,0] (aA Tryz.f209))).toList[21]?).getD default) (dX:=none) (V:=AV.any) (ov:=[(32,(.cptr (aE 300 v) 0)),(41,(.i6 ((i:Int)-(1:Int)))),(42,(.cptr [.q t jb] 0)),(46,(.agg (dS e g)))]) (ob:=[Ref (.cptr ((m.bodies.map (aE 300)).getD i []) 0) (.cptr (aE 300 v) 0),0<=(i:Int),(i:Int)<((m.bodies.map (aE 300)).length:Int),(2*s)+(2*s)+2*300+2*300+2*s+2*s+400<=LIM,Ref (.i6 (IntKind.i64.wrap ((i:Int)-(1:Int)))) (.i6 ((i:Int)-(1:Int))),Ref (.cptr ((p.joints.map (bG jb)).getD (((i:Int)-(1:Int)).toNat) []) 0) (.cptr [.q t jb] 0),0<=((i:Int)-(1:Int)),((i:Int)-(1:Int))<((p.joints.map (bG jb)).length:Int),4*jb+800<=LIM,(4*jb+200)+(4*jb+200)+s+s+300<=LIM,Ref (.agg [.q (f.at_.x+(f.c*v.at_.x-f.s*v.at_.z)) ((2*s)+(300+300+s+s+6)+2),.q (f.at_.z+(f.s*v.at_.x+f.c*v.at_.z)) ((2*s)+(300+300+s+s+6)+2),.q (f.c*((1-t*t)/(1+t*t))-f.s*((t+t)/(1+t*t))) ((4*jb+200)+(4*jb+200)+s+s+6),.q (f.s*((1-t*t)/(1+t*t))+f.c*((t+t)/(1+t*t))) ((4*jb+200)+(4*jb+200)+s+s+6)]) (.agg (dS e g))]) [26,27,46] (by kernel_rfl) (by kernel_rfl) (by kernel_rfl) (by kernel_rfl) (by kernel_rfl)
   (.cons (o.1) (.cons (Int.natCast_nonneg _) (.cons (o.2.1) (.cons (o.2.2.1) (.cons ((Ref.wr o.2.2.2.1).trans (Ref.int (by rfl))) (.cons (o.2.2.2.2.1) (.cons (o.2.2.2.2.2.1) (.cons (o.2.2.2.2.2.2.1) (.cons (o.2.2.2.2.2.2.2.1) (.cons (o.2.2.2.2.2.2.2.2.1) (.cons (o.2.2.2.2.2.2.2.2.2) (AllP.nil)))))))))))) (Or.inl rfl) (by kernel_rfl) hX hB hg
theorem Fd {B B':Base->Prop} (i r e:Nat) (g:FrameD)
   (hB:B ⟨S0,C0,w0⟩) (hX:∀ (Q:Exit->Act->World->Prop) β ρ D σ h a w,B β->Rel β.S β.C β.w ρ D ⟨σ,h⟩ a w->(∀ τ∈ [47,48],σ.getD τ .any=(slots 50 [(0,.i6 (i:Int)),(1,(.cptr [(.lit (.map (some r)))] 0)),(6,.ptr 0 12 0 0),(47,.lit (.map (some r))),(48,.i6 (i:Int)),(49,.agg [(.q g.at_.x (2*e)),(.q g.at_.z (2*e)),(.q g.c e),(.q g.s e)])]).getD τ .any)->wpOp Tryz.prog (aL (aN [1,1,1,1,0] (aA Tryz.f209))) Q 2 (fun a' w'=>∃ β',B' β'/\Rel β'.S β'.C β'.w ρ D ⟨put σ (some 49) (.agg (dS e g)),h⟩ a' w') a w)
   (hg:∀ β,B' β->Good Tryz.prog 209 β.S β.C β.w Post [.code .ret] ⟨slots 50 [(0,.i6 (i:Int)),(1,.cptr [.lit (.map (some r))] 0),(6,.ptr 0 12 0 0),(47,.lit (.map (some r))),(48,.i6 (i:Int)),(49,.agg (dS e g))],[some ⟨175,12,false,[(dS e g)],none⟩]⟩):
   Good Tryz.prog 209 S0 C0 w0 Post [.code (aN [1,1,1,1,0] (aA Tryz.f209)),.code .ret] ⟨slots 50 [(0,.i6 (i:Int)),(1,.cptr [.lit (.map (some r))] 0),(6,.ptr 0 12 0 0)],[some (lF)]⟩:=
 Good.regX mixed aT fF 2 (c:=aN [1,1,1,1,0] (aA Tryz.f209)) (oX:=((aL (aN [1,1,1,1,0] (aA Tryz.f209))).toList[2]?).getD default) (dX:=some 49) (V:=(.agg (dS e g))) (ov:=[(49,(.agg (dS e g)))]) (ob:=[]) [47,48] (by kernel_rfl) (by kernel_rfl) (by kernel_rfl) (by kernel_rfl) (by kernel_rfl)
   (AllP.nil) (Or.inr (by kernel_rfl)) (by kernel_rfl) hX hB hg
end
noncomputable abbrev Hs:List Item:=[.code (aN [1,0,0] (aA Tryz.f209)),.code (aN [1,0,1] (aA Tryz.f209)),.code (aN [1,1] (aA Tryz.f209))]
abbrev xH (r:Nat):AV:=.cptr [.lit (.map (some r))] 0
abbrev Aw (jb r:Nat) (m:MachD) (p:PoseD):AV:=.cptr [.fn 209 [xH r,.any,.cptr (aD 300 m) 0,.cptr (aW jb p) 0]] 0
theorem xI:Tryz.prog.underlying 366=some (.map 3 175):=by kernel_rfl
theorem CT:Tryz.prog.underlying 3=some (.int .i64):=by kernel_rfl
theorem DQ:∃ oX:Oper,(aL (aN [1,0,0] (aA Tryz.f209)))[2]? =some oX/\oX.guard=none/\oX.op=Op.lookup 366 (Operand.tmp 11) (Operand.tmp 12) true/\oX.dst=some 13:=
 ⟨((aL (aN [1,0,0] (aA Tryz.f209))).toList[2]?).getD default,by kernel_rfl,by kernel_rfl,by kernel_rfl,by kernel_rfl⟩
theorem Ht (jb:Nat) (m:MachD) (p:PoseD) {S:Nat->Prop} {w:World} {vals:List Value} {i n r:Nat} {clo:AV} (hS:∀ k,S k->k<w.heap.size) (M:Memo (lZ jb m p) n S w r) (hi:i<n)
   (hargs:RelVs ρ0 S w No [.i6 ((i:Nat):Int),xH r,clo,.cptr (aD 300 m) 0,.cptr (aW jb p) 0] vals):
   Calls Tryz.prog 209 vals.toArray w fun e w'=>∃ v,e= .returned v/\eD S w (.agg (lZ jb m p i)) v w':=by
 refine xA (fn:=Tryz.f209) (c:=aA Tryz.f209) (by kernel_rfl) (by kernel_rfl) hS hargs ?_;have e:kC [.i6 ((i:Nat):Int),xH r,clo,.cptr (aD 300 m) 0,.cptr (aW jb p) 0] Tryz.f209.ntmps=⟨slots 50 [(0,.i6 ((i:Nat):Int)),(1,xH r),(2,clo),(3,.cptr (aD 300 m) 0),(4,.cptr (aW jb p) 0)],[]⟩:=by kernel_rfl
 rw[e];clear e;refine gS fF (some 1) [0,1,2,3,4,6] [] .nil (t:=Hs) (σ:=slots 50 [(0,.i6 (i:Int)),(1,.cptr [.lit (.map (some r))] 0),(2,clo),(3,.cptr (aD 300 m) 0),(4,.cptr (aW jb p) 0),(6,.ptr 0 12 0 0)]) (h:=[some ⟨175,12,false,[[.q 0 0,.q 0 0,.q 0 0,.q 0 0]],none⟩]) ?_
 refine Hq (B:=fun β=>β=⟨S,No,w⟩) (B':=fun β=>β=⟨S,No,w⟩) i r jb m p clo (rz jb i) (fr m p i) rfl ?_ ?_
 · rintro Q β ρ D σ h a w1 rfl R hA
   have h1:=R.eval (.tmp 11);have h2:=R.eval (.tmp 12);have e1:bF σ (.tmp 11)= .lit (.map (some r)):=(hA 11 (by simp)).trans (by kernel_rfl);have e2:bF σ (.tmp 12)= .i6 ((i:Nat):Int):=(hA 12 (by simp)).trans (by kernel_rfl);rw[e1] at h1;rw[e2] at h2;have M1:=(M.keep (S':=fun k=>S k\/No k) (rl _) rfl fun k _ hs=>⟨fun h=>h.elim hs id,rfl⟩).now R (fun h=>h);obtain⟨vs,hrun,hrel⟩:=M1.look xI CT hi;obtain⟨oX,hoX,hg,hop,hd⟩:=DQ;refine kP hoX hg (v:=.tuple #[.agg vs.toArray,.bool true]) (w':=w1) ?_ ?_
   · rw[execOp,hop]
     have:=hrun true;simp only[if_true] at this;simp only[h1.lit_inv,h2.int_inv,Sem.run_bind,this];rfl
   · rw[hd]
     refine⟨_,rfl,R.val ⟨[.agg vs.toArray,.bool true],rfl,⟨vs,rfl,QI hrel⟩, ?_,trivial⟩⟩;exact .bool .done
 · rintro β rfl
   refine Good.pk 50 [(6,.ptr 0 12 0 0),(7,.ptr 1 12 0 0),(8,.bool true)] ?_;exact rR fF [] .nil
theorem Kp:∃ (oX:Oper) (c:Call),(aL (aN [1,1,0] (aA Tryz.f209)))[7]? =some oX/\oX.guard=none/\oX.op=Op.call c/\c.callee=Callee.value (Operand.tmp 18)/\c.args= #[Operand.tmp 24]/\oX.dst=some 25:=
 ⟨((aL (aN [1,1,0] (aA Tryz.f209))).toList[7]?).getD default,⟨Callee.value (Operand.tmp 18), #[Operand.tmp 24], #[3]⟩,by kernel_rfl,by kernel_rfl,by kernel_rfl,rfl,rfl,by kernel_rfl⟩
theorem Kq:∃ oX:Oper,(aL (aN [1,1,1,0] (aA Tryz.f209)))[21]? =some oX/\oX.guard=none/\oX.op=Op.mapUpdate 366 (Operand.tmp 26) (Operand.tmp 27) (Operand.tmp 46)/\oX.dst=none:=
 ⟨((aL (aN [1,1,1,0] (aA Tryz.f209))).toList[21]?).getD default,by kernel_rfl,by kernel_rfl,by kernel_rfl,by kernel_rfl⟩
theorem Kr:∃ oX:Oper,(aL (aN [1,1,1,1,0] (aA Tryz.f209)))[2]? =some oX/\oX.guard=none/\oX.op=Op.lookup 366 (Operand.tmp 47) (Operand.tmp 48) false/\oX.dst=some 49:=
 ⟨((aL (aN [1,1,1,1,0] (aA Tryz.f209))).toList[2]?).getD default,by kernel_rfl,by kernel_rfl,by kernel_rfl,by kernel_rfl⟩
theorem CU:oT Tryz.prog 209:=⟨Tryz.f209,by kernel_rfl,by kernel_rfl,by kernel_rfl⟩
theorem Ks:∃ vs:List Value,(∀ w,(zeroValue 175).run Tryz.prog w= .ok (.agg vs.toArray) w)/\∀ ρ S w D,RelCs ρ S w D [.q 0 0,.q 0 0,.q 0 0,.q 0 0] vs:=by
 obtain⟨z,h1,_,h3⟩:=lL (aT 175 ⟨12,224,[.q 0 0,.q 0 0,.q 0 0,.q 0 0],.struct [(0,6,58),(6,6,98)]⟩ (by kernel_rfl));obtain⟨vs,hv⟩:∃ vs:List Value,∀ w,(zeroValue 175).run Tryz.prog w= .ok (.agg vs.toArray) w:=⟨[.bool false,.slice none 0 0,.slice none 0 0,.bool false,.slice none 0 0,.slice none 0 0,.bool false,.slice none 0 0,.slice none 0 0,.bool false,.slice none 0 0,.slice none 0 0],fun w=>by kernel_rfl⟩
 have:z= .agg vs.toArray:=by
   have h:=h1 default;rw[hv default] at h;injection h with h;exact h.symm
 subst this;exact⟨vs,hv,fun ρ S w D=>by simpa[Value.cells] using h3 ρ S w D⟩
def Hu (F:Nat->List AV) (n r:Nat) (S:Nat->Prop) (w:World) (β:Base):Prop:=
 β.S=S/\(∀ k,β.C k->w.heap.size<=k)/\Chg (· =r) w β.w/\Memo F n (fun k=>S k\/β.C k) β.w r
theorem Kt {jb:Nat} (hjb:jb<=100000) (m:MachD) (p:PoseD) (ht:m.tree) {S:Nat->Prop} {w:World} {vals:List Value} {i r:Nat} (hS:∀ k,S k->k<w.heap.size) (hr:S r) (M:Memo (lZ jb m p) i S w r) (h0:0<i) (hi:i<m.bodies.length) (h12:i<=7) (hj:i<=p.joints.length) (hQ:FQ (rz jb i) (fr m p i))
   (hargs:RelVs ρ0 S w No [.i6 ((i:Nat):Int),xH r,Aw jb r m p,.cptr (aD 300 m) 0,.cptr (aW jb p) 0] vals):
   Calls Tryz.prog 209 vals.toArray w fun e w'=>∃ v,e= .returned v/\RelV ρ0 S w' No (.agg (lZ jb m p i)) v/\Chg (· =r) w w'/\Memo (lZ jb m p) (i+1) S w' r:=by
 refine(xA (Post:=fun v w'=>RelV ρ0 S w' No (.agg (lZ jb m p i)) v/\Chg (· =r) w w'/\Memo (lZ jb m p) (i+1) S w' r) (fn:=Tryz.f209) (c:=aA Tryz.f209) (by kernel_rfl) (by kernel_rfl) hS hargs ?_);have e:kC [.i6 ((i:Nat):Int),xH r,Aw jb r m p,.cptr (aD 300 m) 0,.cptr (aW jb p) 0] Tryz.f209.ntmps=⟨slots 50 [(0,.i6 ((i:Nat):Int)),(1,xH r),(2,Aw jb r m p),(3,.cptr (aD 300 m) 0),(4,.cptr (aW jb p) 0)],[]⟩:=by kernel_rfl
 rw[e];clear e;have hrw:r<w.heap.size:=hS r hr;have M0:Memo (lZ jb m p) i (fun k=>S k\/No k) w r:=M.keep (rl _) rfl fun k _ hs=>⟨fun h=>h.elim hs id,rfl⟩
 obtain⟨hp0,hp1⟩:=ht i h0 hi;obtain⟨v,hv⟩:∃ v,v=m.bodies.getD i default:=⟨_,rfl⟩;rw[<- hv] at hp0 hp1;obtain⟨j,hjp⟩:∃ j:Nat,v.par=((j:Nat):Int):=⟨v.par.toNat,by omega⟩;have hji:j<i:=by omega
 have hbody:Ref (.cptr ((m.bodies.map (aE 300)).getD i []) 0) (.cptr (aE 300 v) 0):=by rw[hv];exact Ref.cmap hi
 have hlen:(m.bodies.map (aE 300)).length=m.bodies.length:=bH ..;have hjl:(p.joints.map (bG jb)).length=p.joints.length:=bH ..
 have hstep:fr m p i=xE (fr m p j) v (p.joints.getD (i-1) default):=by
   rw[uQ ht h0 hi, <- hv,hjp];rfl
 have hszj:rz jb j<=SZ jb:=rz_le (by omega);have hjb1:jb<=rz jb j:=QL jb j;unfold SZ at hszj;refine gS fF (some 1) [0,1,2,3,4,6] [] .nil (t:=Hs) (σ:=slots 50 [(0,.i6 (i:Int)),(1,.cptr [.lit (.map (some r))] 0),(2,(Aw jb r m p)),(3,.cptr (aD 300 m) 0),(4,.cptr (aW jb p) 0),(6,.ptr 0 12 0 0)]) (h:=[some ⟨175,12,false,[[.q 0 0,.q 0 0,.q 0 0,.q 0 0]],none⟩]) ?_
 refine Fb (B:=fun β=>β=⟨S,No,w⟩) (B':=fun β=>β=⟨S,No,w⟩) i r jb m p _ rfl ?_ ?_
 · rintro Q β ρ D σ h a w1 rfl R hA
   have h1:=R.eval (.tmp 11);have h2:=R.eval (.tmp 12);have e1:bF σ (.tmp 11)= .lit (.map (some r)):=(hA 11 (by simp)).trans (by kernel_rfl);have e2:bF σ (.tmp 12)= .i6 ((i:Nat):Int):=(hA 12 (by simp)).trans (by kernel_rfl);rw[e1] at h1;rw[e2] at h2;have M1:=M0.now R (fun h=>h);obtain⟨vs,hz,hrel⟩:=Ks;have hrun:=M1.miss xI CT (rl _) (hz w1);obtain⟨oX,hoX,hg,hop,hd⟩:=DQ;refine kP hoX hg (v:=.tuple #[.agg vs.toArray,.bool false]) (w':=w1) ?_ ?_
   · rw[execOp,hop]
     simp only[h1.lit_inv,h2.int_inv,Sem.run_bind,hrun];rfl
   · rw[hd]
     refine⟨_,rfl,R.val ⟨[.agg vs.toArray,.bool false],rfl,⟨vs,rfl,hrel _ _ _ _⟩, ?_,trivial⟩⟩;exact .bool .done
 rintro β rfl;refine Good.pk 50 [(0,.i6 ((i:Nat):Int)),(1,xH r),(2,Aw jb r m p),(3,.cptr (aD 300 m) 0),(4,.cptr (aW jb p) 0),(6,.ptr 0 12 0 0),(7,.ptr 1 12 0 0),(8,.bool false)] ?_;refine gR fF (some 4) [0,1,2,3,4,6] [0] [] .nil (t:=[.code (aN [1,1,0] (aA Tryz.f209)),.code (aN [1,1,1] (aA Tryz.f209))]) (σ:=slots 50 [(0,.i6 (i:Int)),(1,.cptr [.lit (.map (some r))] 0),(2,.cptr [.fn 209 [.cptr [.lit (.map (some r))] 0,.any,.cptr (aD 300 m) 0,.cptr (aW jb p) 0]] 0),(3,.cptr (aD 300 m) 0),(4,.cptr (aW jb p) 0),(6,.ptr 0 12 0 0)]) (h:=[some ⟨175,12,false,[[.q 0 0,.q 0 0,.q 0 0,.q 0 0]],none⟩]) ?_
 refine Fc (B:=fun β=>β=⟨S,No,w⟩) (B':=fun β=>β=⟨S,No,w⟩) i r jb m p v (rz jb j) (fr m p j) ⟨hbody,by rw[hlen];omega⟩ rfl ?_ ?_
 · rintro Q β ρ D σ h a w1 rfl R hA
   have e1:bF σ (.tmp 18)= .fn 209 [xH r,.any,.cptr (aD 300 m) 0,.cptr (aW jb p) 0]:=(hA 18 (by simp)).trans (by kernel_rfl);have e2:bF σ (.tmp 24)= .i6 v.par:=(hA 24 (by simp)).trans (by kernel_rfl);obtain⟨oX,c,hoX,hg,hop,hc,hargs,hd⟩:=Kp;have M1:=M0.now R (fun h=>h);have hmap:c.args.toList.map (bF σ)= [.i6 ((j:Nat):Int)]:=by rw[hargs];simp[e2,hjp]
   have hcall:=sX (Q:=Q) (J:=eD (Sof S ρ h) w1 (.agg (lZ jb m p j))) R hoX hg hop hc e1 (by rw[hmap];simp[dC,noRef,noRef0,zO,wd]) CU (fun vals hvals=>by
     rw[hmap] at hvals
     exact Ht jb m p (fun k=>R.Slt) M1 hji hvals)
   refine wpOp_mono ?_ hcall;rintro a' w' ⟨u,⟨hu,hch⟩,rfl⟩;rw[hd];refine⟨_,rfl,R.called hch ?_⟩;obtain⟨us,h1,h2⟩:=hu;exact⟨us,h1,QI h2⟩
 rintro β rfl;refine Good.pk 50 [(0,.i6 ((i:Nat):Int)),(1,xH r),(2,Aw jb r m p),(3,.cptr (aD 300 m) 0),(4,.cptr (aW jb p) 0),(6,.ptr 0 12 0 0),(9,.ptr 1 12 0 0)] ?_;refine gS fF (some 5) [0,1,2,3,4,6,9] [] .nil (t:=[.code (aN [1,1,1,0] (aA Tryz.f209)),.code (aN [1,1,1,1] (aA Tryz.f209))]) (σ:=slots 50 [(0,.i6 (i:Int)),(1,.cptr [.lit (.map (some r))] 0),(2,.cptr [.fn 209 [.cptr [.lit (.map (some r))] 0,.any,.cptr (aD 300 m) 0,.cptr (aW jb p) 0]] 0),(3,.cptr (aD 300 m) 0),(4,.cptr (aW jb p) 0),(6,.ptr 0 12 0 0),(9,.ptr 1 12 0 0)]) (h:=[some ⟨175,12,false,[[.q 0 0,.q 0 0,.q 0 0,.q 0 0]],none⟩,some ⟨175,12,false,[(dS (rz jb j) (fr m p j))],none⟩]) ?_
 refine Hr (B:=fun β=>β=⟨S,No,w⟩) (B':=Hu (lZ jb m p) (i+1) r S w) i r jb m p v (rz jb j) (rz jb i) (fr m p j) (fr m p i) (p.joints.getD (i-1) default)
   ⟨hbody,by rw[hlen];omega,by unfold LIM;omega,by omega, ?_,by omega,by rw[hjl];omega,by unfold LIM;omega,by unfold LIM;omega, ?_⟩ rfl ?_ ?_
 · have:(((i:Nat):Int)-1).toNat=i-1:=by omega
   rw[this];exact Ref.cmap (f:=bG jb) (by omega)
 · exact Ref.frame hstep hQ
 · rintro Q β ρ D σ h a w1 rfl R hA
   have h1:=R.eval (.tmp 26);have h2:=R.eval (.tmp 27);have h3:=R.eval (.tmp 46);have e1:bF σ (.tmp 26)= .lit (.map (some r)):=(hA 26 (by simp)).trans (by kernel_rfl);have e2:bF σ (.tmp 27)= .i6 ((i:Nat):Int):=(hA 27 (by simp)).trans (by kernel_rfl);have e3:bF σ (.tmp 46)= .agg (lZ jb m p i):=(hA 46 (by simp)).trans (by kernel_rfl);rw[e1] at h1;rw[e2] at h2;rw[e3] at h3;have M1:=M0.now R (fun h=>h);obtain⟨us,k1,k2⟩:=RelV0.noRef h3 (by rfl) ρ0;obtain⟨w2,hrun,hch,M2⟩:=M1.upd xI CT k2 (.inl hr);obtain⟨oX,hoX,hg,hop,hd⟩:=Kq;refine sY hoX hg (w':=w2) ?_ ?_
   · rw[execOp,hop]
     simp only[h1.lit_inv,h2.int_inv,k1,Sem.run_bind,hrun];rfl
   · rw[hd]
     refine⟨⟨S,qE ρ h,w2⟩,⟨rfl, ?_, ?_,M2⟩,R.turn hch (fun k hk=>by subst hk;exact hr) (.inl rfl)⟩
     · rintro k ⟨l,b,hb,rfl⟩
       exact(R.mine l b hb).1.elim (fun h=>h.elim) id
     · exact(R.chg.mono (fun _ h=>h.elim)).trans hch fun _ _ h=>h
 rintro β hβ;refine Good.pk 50 [(0,.i6 ((i:Nat):Int)),(1,xH r),(6,.ptr 0 12 0 0)] ?_;refine Good.tidy [0] (by decide) (σ':=slots 50 [(0,.i6 ((i:Nat):Int)),(1,xH r),(6,.ptr 0 12 0 0)]) (h':=[some ⟨175,12,false,[[(.q 0 0),(.q 0 0),(.q 0 0),(.q 0 0)]],none⟩]) (by kernel_rfl) (by kernel_rfl) ?_;refine gS fF (some 6) [0,1,6] [] .nil (t:=[.code (aN [1,1,1,1,0] (aA Tryz.f209)),.code .ret]) (σ:=slots 50 [(0,.i6 (i:Int)),(1,.cptr [.lit (.map (some r))] 0),(6,.ptr 0 12 0 0)]) (h:=[some ⟨175,12,false,[[.q 0 0,.q 0 0,.q 0 0,.q 0 0]],none⟩]) ?_
 refine Fd (B:=Hu (lZ jb m p) (i+1) r S w) (B':=Hu (lZ jb m p) (i+1) r S w) i r (rz jb i) (fr m p i) hβ ?_ ?_
 · rintro Q β ρ D σ h a w1 ⟨rfl,b1,b2,b3⟩ R hA
   have h1:=R.eval (.tmp 47);have h2:=R.eval (.tmp 48);have e1:bF σ (.tmp 47)= .lit (.map (some r)):=(hA 47 (by simp)).trans (by kernel_rfl);have e2:bF σ (.tmp 48)= .i6 ((i:Nat):Int):=(hA 48 (by simp)).trans (by kernel_rfl);rw[e1] at h1;rw[e2] at h2;have M1:=b3.now R (fun h=>by have:=b1 r h;omega);obtain⟨vs,hrun,hrel⟩:=M1.look xI CT (Nat.lt_succ_self i);obtain⟨oX,hoX,hg,hop,hd⟩:=Kr;refine kP hoX hg (v:=.agg vs.toArray) (w':=w1) ?_ ?_
   · rw[execOp,hop]
     have:=hrun false;simp only[Bool.false_eq_true,if_false] at this;simp only[h1.lit_inv,h2.int_inv,Sem.run_bind,this];rfl
   · rw[hd]
     exact⟨_,⟨rfl,b1,b2,b3⟩,R.val ⟨vs,rfl,QI hrel⟩⟩
 · rintro β ⟨rfl,b1,b2,b3⟩
   refine nQ aT (fn:=Tryz.f209) (by kernel_rfl) (.inr ⟨_,rfl⟩) (Vs:=[.agg (lZ jb m p i)]) (by kernel_rfl) (.inl rfl) fun ρ D a w2 u R hu=>⟨sL hu rfl (fun k h=>.inl h), ?_, ?_⟩
   · exact b2.trans R.chg fun k hk hc=>absurd hk (by have:=b1 k hc;omega)
   · exact b3.keep R.chg.size (R.chg.block r (by obtain⟨es,clk,g,_⟩:=b3;exact fJ g) fun h=>by have:=b1 r h;omega) fun k hk hs=>⟨fun h=>hs (.inl h),R.chg.block k hk fun h=>hs (.inr h)⟩
theorem Chg.alloc (w:World) (o:Obj):Chg No w (w.alloc o):=Chg.ofNo rfl rfl rfl (by simp) fun k hk=>Below.heap_alloc w o k hk
def QW (F:Nat->List AV) (n r:Nat) (S1:Nat->Prop) (w:World) (β:Base):Prop:=
 β.S=S1/\(∀ k,β.C k->w.heap.size<=k)/\¬ β.C r/\Chg No w β.w/\Memo F n (fun k=>S1 k\/β.C k) β.w r
abbrev fR (r:Nat):AV:=.lit (.map (some r))
abbrev mV (k:Nat):AV:=.lit (.pointer (some ⟨k,0,none⟩))
structure G4 where
 ov:List (Nat×AV)
 r:Nat
 k:Nat
structure J4 (F:Nat->List AV) (S:Nat->Prop) (w:World) (l0 l7 l8 l9 l10:Bool) (g:G4) (β:Base):Prop where
 c:∀ x,β.C x->w.heap.size<=x
 chg:Chg No w β.w
 ov:g.ov=(if l0=true then [(17,fR g.r)] else [])++(if l8=true then [(24,fR g.r)] else [])++(if l9=true then [(7,mV g.k)] else [])
 s:∀ x,β.S x↔S x\/(l0=true/\x=g.r)\/(l9=true/\x=g.k)
 r0:l0=true->w.heap.size<=g.r/\¬ β.C g.r/\g.r<β.w.heap.size
 r1:l0=true->l7=false->β.w.heap[g.r]? =some (.map #[] 0)
 r2:l7=true->Memo F 1 (fun x=>β.S x\/β.C x) β.w g.r
 k0:l9=true->w.heap.size<=g.k/\¬ β.C g.k/\g.k<β.w.heap.size
 k1:l9=true->∃ c,β.w.heap[g.k]? =some (.cells #[c] 366 (0,0))/\(l10=true->c= .map (some g.r))
 e7:l7=true->l0=true
 e8:l8=true->l7=true
 e10:l10=true->l8=true/\l9=true
def I4 (F:Nat->List AV) (S:Nat->Prop) (w:World) (L:Array Bool) (g:G4) (β:Base):Prop:=
 J4 F S w (L.getD 0 false) (L.getD 7 false) (L.getD 8 false) (L.getD 9 false) (L.getD 10 false) g β
theorem I4.other {F:Nat->List AV} {S:Nat->Prop} {w:World} {L:Array Bool} {i:Nat} {g:G4} {β:Base} (hi:i ∉ [0,7,8,9,10]) (h:I4 F S w L g β):I4 F S w (L.setIfInBounds i true) g β:=by
 have e:∀ j∈ [0,7,8,9,10],(L.setIfInBounds i true).getD j false=L.getD j false:=fun j hj=>by
   rw[cE,if_neg];rintro⟨rfl,_⟩;exact hi hj
 unfold I4;rw[e 0 (by simp),e 7 (by simp),e 8 (by simp),e 9 (by simp),e 10 (by simp)];exact h
section
variable {S0 C0:Nat->Prop} {w0 w:World} {ρ:Nat->Nat} {D:Nat->Prop} {σ:List AV} {h:List (Option ABlk)} {a:Act}
theorem Rel.ownC_no (R:Rel S0 C0 w0 ρ D ⟨σ,h⟩ a w) {x:Nat} (hx:S0 x):¬ qE ρ h x:=by
 rintro⟨l,b,hb,rfl⟩;exact(R.mine l b hb).2.1 hx
theorem Rel.ownC_lt (R:Rel S0 C0 w0 ρ D ⟨σ,h⟩ a w) {x:Nat} (hx:qE ρ h x):x<w.heap.size:=by
 obtain⟨l,b,hb,rfl⟩:=hx;obtain⟨_,arr,h1,_⟩:=R.heap l b hb;exact fJ h1
theorem Rel.ownC_ge (R:Rel S0 C0 w0 ρ D ⟨σ,h⟩ a w) {x n:Nat} (hx:qE ρ h x) (hC:∀ k,C0 k->n<=k) (hn:n<=w0.heap.size):n<=x:=by
 obtain⟨l,b,hb,rfl⟩:=hx;rcases(R.mine l b hb).1 with h1 | h1
 · exact hC _ h1
 · omega
end
theorem Ax {σ:List AV} {t:Nat} {V:AV} (h:σ.getD t .any=V) (hV:V≠ .any):t<σ.length:=by
 rcases Nat.lt_or_ge t σ.length with h1 | h1
 · exact h1
 · rw[mQ,List.getElem?_eq_none h1] at h
   exact absurd h.symm hV
theorem MY {σ:List AV} {t:Nat} {V:AV} (h:t<σ.length):(σ.set t V).getD t .any=V:=by
 rw[fU,if_pos ⟨rfl,h⟩]
noncomputable abbrev R4:Code:=aN [1,1,0] (aA Tryz.f117)
theorem Ay:(aL R4).size=11:=by kernel_rfl
theorem TU:∀ oX,(aL R4)[0]? =some oX->oX.op= .makeMap 366 none/\oX.dst=some 17:=by
 intro oX h;have:(aL R4)[0]? =some (((aL R4).toList[0]?).getD default):=by kernel_rfl
 rw[this] at h;injection h with h;subst h;exact⟨by kernel_rfl,by kernel_rfl⟩
theorem TV:∀ oX,(aL R4)[7]? =some oX->oX.op= .insert 366 (.tmp 17) (.const (.int .i64 0)) (.tmp 23)/\oX.dst=none/\(∃ e∈oX.after.toList,Region.binds .any e=true/\e.on=0):=by
 intro oX h;have:(aL R4)[7]? =some (((aL R4).toList[7]?).getD default):=by kernel_rfl
 rw[this] at h;injection h with h;subst h;refine⟨by kernel_rfl,by kernel_rfl, ?_⟩;have h1:(((aL R4).toList[7]?).getD default).after.toList.any (fun e=>Region.binds .any e&&e.on==0)=true:=by kernel_rfl
 obtain⟨e,e1,e2⟩:=List.any_eq_true.1 h1;rw[Bool.and_eq_true] at e2;exact⟨e,e1,e2.1,by simpa using e2.2⟩
theorem TW:∀ oX,(aL R4)[8]? =some oX->oX.op= .move (.tmp 17)/\oX.dst=some 24/\(∃ e∈oX.after.toList,Region.binds .any e=true/\e.on=7):=by
 intro oX h;have:(aL R4)[8]? =some (((aL R4).toList[8]?).getD default):=by kernel_rfl
 rw[this] at h;injection h with h;subst h;refine⟨by kernel_rfl,by kernel_rfl, ?_⟩;have h1:(((aL R4).toList[8]?).getD default).after.toList.any (fun e=>Region.binds .any e&&e.on==7)=true:=by kernel_rfl
 obtain⟨e,e1,e2⟩:=List.any_eq_true.1 h1;rw[Bool.and_eq_true] at e2;exact⟨e,e1,e2.1,by simpa using e2.2⟩
theorem TY:∀ oX,(aL R4)[9]? =some oX->oX.op= .alloc 366/\oX.dst=some 7:=by
 intro oX h;have:(aL R4)[9]? =some (((aL R4).toList[9]?).getD default):=by kernel_rfl
 rw[this] at h;injection h with h;subst h;exact⟨by kernel_rfl,by kernel_rfl⟩
theorem QX:∀ oX,(aL R4)[10]? =some oX->oX.op= .store 366 (.tmp 7) (.tmp 24)/\oX.dst=none/\(∃ e∈oX.after.toList,Region.binds .any e=true/\e.on=8)/\(∃ e∈oX.after.toList,Region.binds .any e=true/\e.on=9):=by
 intro oX h;have:(aL R4)[10]? =some (((aL R4).toList[10]?).getD default):=by kernel_rfl
 rw[this] at h;injection h with h;subst h;refine⟨by kernel_rfl,by kernel_rfl, ?_, ?_⟩
 · have h1:(((aL R4).toList[10]?).getD default).after.toList.any (fun e=>Region.binds .any e&&e.on==8)=true:=by kernel_rfl
   obtain⟨e,e1,e2⟩:=List.any_eq_true.1 h1;rw[Bool.and_eq_true] at e2;exact⟨e,e1,e2.1,by simpa using e2.2⟩
 · have h1:(((aL R4).toList[10]?).getD default).after.toList.any (fun e=>Region.binds .any e&&e.on==9)=true:=by kernel_rfl
   obtain⟨e,e1,e2⟩:=List.any_eq_true.1 h1;rw[Bool.and_eq_true] at e2;exact⟨e,e1,e2.1,by simpa using e2.2⟩
theorem Hv (w:World):(Instr.alloc 366 true (.tuple #[])).run Tryz.prog w= .ok (.pointer (some ⟨w.heap.size,0,none⟩)) (w.alloc (.cells #[.map none] 366 (0,0))):=by
 have hz:(zeroValue 366).run Tryz.prog w= .ok (.map none) w:=by kernel_rfl
 simp only[Instr.alloc,newVar,newRow,newObj,Sem.run_bind,hz,Result.andThen_ok,Sem.run_pure];rfl
theorem qG (xs ys:List (Nat×AV)) (σ:List AV):iC (xs++ys) σ=iC ys (iC xs σ):=List.foldl_append ..
theorem Az {xs ys:List (Nat×AV)} {σ:List AV} {d:Nat} {V X:AV} (hx:∀ p∈xs,p.1≠d) (hy:∀ p∈ys,p.1≠d):iC (xs++(d,X)::ys) (σ.set d V)=(iC (xs++ys) σ).set d X:=by
 rw[qG,qG,uP hx];show iC ys (((iC xs σ).set d V).set d X)=_;rw[List.set_set,uP hy]
theorem AA {xs ys:List (Nat×AV)} {σ:List AV} {d:Nat} {X:AV} (hy:∀ p∈ys,p.1≠d) (hd:d<σ.length):(iC (xs++(d,X)::ys) σ).getD d .any=X:=by
 have hl:∀ (xs:List (Nat×AV)) (σ:List AV),(iC xs σ).length=σ.length:=by
   intro xs
   induction xs with
   | nil=>intro σ;rfl
   | cons p xs ih=>intro σ;show(iC xs (σ.set p.1 p.2)).length=_;rw[ih];simp
 rw[qG];show(iC ys ((iC xs σ).set d X)).getD d .any=X;rw[rP hy,MY (by rw[hl];exact hd)]
def yC (b:Bool) (p:Nat×AV):List (Nat×AV):=if b=true then [p] else []
theorem iV {b:Bool} {p q:Nat×AV} (h:q∈yC b p):q=p:=by
 unfold yC at h;split at h <;> simp at h;exact h
section
variable {F:Nat->List AV} {S:Nat->Prop} {w0:World} {Q:Exit->Act->World->Prop} {L:Array Bool} {g:G4} {β:Base} {ρ:Nat->Nat} {D:Nat->Prop} {σ:List AV} {h:List (Option ABlk)} {a:Act} {w:World} {V:AV} {oX:Oper}
theorem cH (hsz:L.size=11) {i j:Nat} (hi:i<11):(L.setIfInBounds i true).getD j false=if i=j then true else L.getD j false:=by
 rw[cE]
 by_cases e:i=j
 · rw[if_pos ⟨e,by omega⟩,if_pos e]
 · rw[if_neg (fun h=>e h.1),if_neg e]
theorem J4.cnext {l0 l7 l8 l9 l10:Bool} (hI:J4 F S w0 l0 l7 l8 l9 l10 g β) (R:Rel β.S β.C β.w ρ D ⟨σ,h⟩ a w):(∀ x,qE ρ h x->w0.heap.size<=x)/\Chg No w0 w:=by
 refine⟨fun x hx=>R.ownC_ge hx hI.c hI.chg.size,hI.chg.trans R.chg fun i hi hc=> ?_⟩
 have:=hI.c i hc;omega
theorem Ua (hoX:(aL R4)[0]? =some oX) (hg:oX.guard=none) (hI:I4 F S w0 L g β) (hsz:L.size=11) (hun:L.getD 0 false=false) (R:Rel β.S β.C β.w ρ D ⟨iC g.ov σ,h⟩ a w):
   wpOp Tryz.prog (aL R4) Q 0 (fun a' w'=>∃ g' β',I4 F S w0 (L.setIfInBounds 0 true) g' β'/\Rel β'.S β'.C β'.w ρ D ⟨iC g'.ov (put σ oX.dst V),h⟩ a' w') a w:=by
 obtain⟨hop,hd⟩:=TU oX hoX;unfold I4 at hI;rw[hun] at hI
 have h7:L.getD 7 false=false:=by
   cases h:L.getD 7 false with
   | false=>rfl
   | true=>exact absurd (hI.e7 h) (by decide)
 rw[h7] at hI
 have h8:L.getD 8 false=false:=by
   cases h:L.getD 8 false with
   | false=>rfl
   | true=>exact absurd (hI.e8 h) (by decide)
 rw[h8] at hI
 have h10:L.getD 10 false=false:=by
   cases h:L.getD 10 false with
   | false=>rfl
   | true=>exact absurd ((hI.e10 h).1) (by decide)
 rw[h10] at hI;obtain⟨l9,h9⟩:∃ b,L.getD 9 false=b:=⟨_,rfl⟩;rw[h9] at hI;obtain⟨c1,c2⟩:=hI.cnext R;have hw9:l9=true->β.S g.k:=fun h9=>(hI.s _).2 (.inr (.inr ⟨h9,rfl⟩))
 have R1:=R.grow (X:=No) (S1:=fun x=>β.S x\/x=w.heap.size) (Chg.alloc w (.map #[] 0)) (fun _ h=>h.elim) (fun _ h=>.inl h) (fun k hk=>hk.imp id fun e=>by subst e;exact⟨Nat.le_refl _,by simp⟩) (dst:=some 17) (V:=fR w.heap.size) (v:=.map (some w.heap.size)) (aV (.lit rfl .done));have hov:g.ov=yC l9 (7,mV g.k):=hI.ov
 have e:iC ((17,fR w.heap.size)::yC l9 (7,mV g.k)) (put σ (some 17) V)=put (iC g.ov σ) (some 17) (fR w.heap.size):=by
   rw[hov];exact Az (xs:=[]) (by simp) fun p hp=>by rw[iV hp];simp
 refine kP hoX hg (v:=.map (some w.heap.size)) (w':=w.alloc (.map #[] 0)) (by rw[execOp,hop];rfl) ?_;rw[hd];refine⟨⟨(17,fR w.heap.size)::yC l9 (7,mV g.k),w.heap.size,g.k⟩,⟨fun x=>β.S x\/x=w.heap.size,qE ρ h,w.alloc (.map #[] 0)⟩, ?_,by simp only[e];exact R1⟩;have a0:(L.setIfInBounds 0 true).getD 0 false=true:=by rw[cH hsz (by decide),if_pos rfl]
 have a7:(L.setIfInBounds 0 true).getD 7 false=false:=by rw[cH hsz (by decide),if_neg (by decide)];exact h7
 have a8:(L.setIfInBounds 0 true).getD 8 false=false:=by rw[cH hsz (by decide),if_neg (by decide)];exact h8
 have a9:(L.setIfInBounds 0 true).getD 9 false=l9:=by rw[cH hsz (by decide),if_neg (by decide)];exact h9
 have a10:(L.setIfInBounds 0 true).getD 10 false=false:=by rw[cH hsz (by decide),if_neg (by decide)];exact h10
 unfold I4;rw[a0,a7,a8,a9,a10]
 exact {
     c:=c1
     chg:=c2.trans (Chg.alloc _ _) fun _ _ h=>h.elim
     ov:=by simp[yC]
     s :=fun x=>by
       have:=hI.s x;simp at this ⊢;rw[this];constructor
       · rintro((h | h) | h)
         · exact .inl h
         · exact .inr (.inr h)
         · exact .inr (.inl h)
       · rintro(h | h | h)
         · exact .inl (.inl h)
         · exact .inr h
         · exact .inl (.inr h)
     r0:=fun _=>⟨c2.size,fun hx=>Nat.lt_irrefl _ (R.ownC_lt hx),by simp⟩
     r1:=fun _ _=>heap_alloc_new w _
     r2:=fun h=>by cases h
     k0:=fun h9=>by
       obtain⟨k1,k2,k3⟩:=hI.k0 h9;exact⟨k1,R.ownC_no (hw9 h9),by simp;have:=R.chg.size;omega⟩
     k1:=fun h9=>by
       obtain⟨k1,k2,k3⟩:=hI.k0 h9;obtain⟨c,e1,e2⟩:=hI.k1 h9;refine⟨c, ?_,fun h=>by cases h⟩;rw[<- e1, <- R.chg.block _ k3 k2];exact Below.heap_alloc w _ _ (Nat.lt_of_lt_of_le k3 R.chg.size)
     e7:=fun h=>by cases h
     e8:=fun h=>by cases h
     e10:=fun h=>by cases h }
theorem Ub (hF:dC (.agg (F 0))=true) (hoX:(aL R4)[7]? =some oX) (hg:oX.guard=none) (hI:I4 F S w0 L g β) (hsz:L.size=11) (hun:L.getD 7 false=false) (hed:∀ e∈oX.after.toList,Region.binds .any e=true->L.getD e.on false=true) (hA:σ.getD 23 .any= .agg (F 0)) (R:Rel β.S β.C β.w ρ D ⟨iC g.ov σ,h⟩ a w):
   wpOp Tryz.prog (aL R4) Q 7 (fun a' w'=>∃ g' β',I4 F S w0 (L.setIfInBounds 7 true) g' β'/\Rel β'.S β'.C β'.w ρ D ⟨iC g'.ov (put σ oX.dst V),h⟩ a' w') a w:=by
 obtain⟨hop,hd,e0,e1,e2,e3⟩:=TV oX hoX;have h0:=hed _ e1 e2;rw[e3] at h0;unfold I4 at hI;rw[h0,hun] at hI
 have h8:L.getD 8 false=false:=by
   cases h:L.getD 8 false with
   | false=>rfl
   | true=>exact absurd (hI.e8 h) (by decide)
 rw[h8] at hI
 have h10:L.getD 10 false=false:=by
   cases h:L.getD 10 false with
   | false=>rfl
   | true=>exact absurd ((hI.e10 h).1) (by decide)
 rw[h10] at hI;obtain⟨l9,h9⟩:∃ b,L.getD 9 false=b:=⟨_,rfl⟩;rw[h9] at hI;obtain⟨c1,c2⟩:=hI.cnext R;have hov:g.ov=(17,fR g.r)::yC l9 (7,mV g.k):=hI.ov;have hlen:23<σ.length:=Ax hA (by intro h;cases h);have q1:=R.eval (.tmp 17);have q2:=R.eval (.tmp 23)
 have e17:bF (iC g.ov σ) (.tmp 17)=fR g.r:=by
   rw[hov];exact AA (xs:=[]) (fun p hp=>by rw[iV hp];simp) (by omega)
 have e23:bF (iC g.ov σ) (.tmp 23)= .agg (F 0):=by
   show(iC g.ov σ).getD 23 .any=_;rw[rP,hA];intro p hp;rw[hov] at hp;rcases List.mem_cons.1 hp with rfl | hp
   · simp
   · rw[iV hp];simp
 rw[e17] at q1;rw[e23] at q2;obtain⟨us,u1,u2⟩:=RelV0.noRef q2 hF ρ0;obtain⟨r1,r2,r3⟩:=hI.r0 rfl;have hr:=hI.r1 rfl rfl;have hrw:w.heap[g.r]? =some (.map #[] 0):=by rw[R.chg.block _ r3 r2];exact hr
 have hS:β.S g.r:=(hI.s _).2 (.inr (.inl ⟨rfl,rfl⟩));have M0:Memo F 0 (Sof β.S ρ h) w g.r:=⟨#[],0,hrw,rfl,fun j e he=>by simp at he⟩;obtain⟨w2,hrun,hch,M2⟩:=M0.upd xI CT u2 (.inl hS);have hw9:l9=true->β.S g.k:=fun h9=>(hI.s _).2 (.inr (.inr ⟨h9,rfl⟩))
 have q0:a.eval (.const (.int .i64 0))= .int .i64 ((0:Nat):Int):=rfl;refine sY hoX hg (w':=w2) (by rw[execOp,hop];simp only[q1.lit_inv,u1,q0,Sem.run_bind,hrun];rfl) ?_;rw[hd];refine⟨g,⟨β.S,qE ρ h,w2⟩, ?_,R.turn hch (fun k hk=>by subst hk;exact hS) (V:=.any) (.inl rfl)⟩;have a0:(L.setIfInBounds 7 true).getD 0 false=true:=by rw[cH hsz (by decide),if_neg (by decide)];exact h0
 have a7:(L.setIfInBounds 7 true).getD 7 false=true:=by rw[cH hsz (by decide),if_pos rfl]
 have a8:(L.setIfInBounds 7 true).getD 8 false=false:=by rw[cH hsz (by decide),if_neg (by decide)];exact h8
 have a9:(L.setIfInBounds 7 true).getD 9 false=l9:=by rw[cH hsz (by decide),if_neg (by decide)];exact h9
 have a10:(L.setIfInBounds 7 true).getD 10 false=false:=by rw[cH hsz (by decide),if_neg (by decide)];exact h10
 unfold I4;rw[a0,a7,a8,a9,a10]
 exact {
     c:=c1
     chg:=c2.trans hch fun i hi hx=>by subst hx;omega
     ov:=by rw[hov];simp[yC]
     s:=hI.s
     r0:=fun _=>⟨r1,R.ownC_no hS,Nat.lt_of_lt_of_le r3 (Nat.le_trans R.chg.size hch.size)⟩
     r1:=fun _ h=>by cases h
     r2:=fun _=>M2
     k0:=fun h9=>by
       obtain⟨k1,k2,k3⟩:=hI.k0 h9;exact⟨k1,R.ownC_no (hw9 h9),Nat.lt_of_lt_of_le k3 (Nat.le_trans R.chg.size hch.size)⟩
     k1:=fun h9=>by
       obtain⟨k1,k2,k3⟩:=hI.k0 h9;obtain⟨c,e1,e2⟩:=hI.k1 h9;refine⟨c, ?_,fun h=>by cases h⟩;rw[<- e1, <- R.chg.block _ k3 k2];refine hch.block _ (Nat.lt_of_lt_of_le k3 R.chg.size) fun e=> ?_
       rw[e,hr] at e1;cases e1
     e7:=fun _=>rfl
     e8:=fun h=>by cases h
     e10:=fun h=>by cases h }
theorem Uc (hoX:(aL R4)[8]? =some oX) (hg:oX.guard=none) (hI:I4 F S w0 L g β) (hsz:L.size=11) (hun:L.getD 8 false=false) (hed:∀ e∈oX.after.toList,Region.binds .any e=true->L.getD e.on false=true) (hA:σ.getD 23 .any= .agg (F 0)) (R:Rel β.S β.C β.w ρ D ⟨iC g.ov σ,h⟩ a w):
   wpOp Tryz.prog (aL R4) Q 8 (fun a' w'=>∃ g' β',I4 F S w0 (L.setIfInBounds 8 true) g' β'/\Rel β'.S β'.C β'.w ρ D ⟨iC g'.ov (put σ oX.dst V),h⟩ a' w') a w:=by
 obtain⟨hop,hd,e0,e1,e2,e3⟩:=TW oX hoX;have h7:=hed _ e1 e2;rw[e3] at h7;unfold I4 at hI;rw[h7,hun] at hI;have h0:=hI.e7 rfl;rw[h0] at hI
 have h10:L.getD 10 false=false:=by
   cases h:L.getD 10 false with
   | false=>rfl
   | true=>exact absurd ((hI.e10 h).1) (by decide)
 rw[h10] at hI;obtain⟨l9,h9⟩:∃ b,L.getD 9 false=b:=⟨_,rfl⟩;rw[h9] at hI;have hov:g.ov=(17,fR g.r)::yC l9 (7,mV g.k):=hI.ov;have hlen:23<σ.length:=Ax hA (by intro h;cases h);have q1:=R.eval (.tmp 17)
 have e17:bF (iC g.ov σ) (.tmp 17)=fR g.r:=by
   rw[hov];exact AA (xs:=[]) (fun p hp=>by rw[iV hp];simp) (by omega)
 rw[e17] at q1
 have e:iC ([(17,fR g.r)]++(24,fR g.r)::yC l9 (7,mV g.k)) (put σ (some 24) V)=put (iC g.ov σ) (some 24) (fR g.r):=by
   rw[hov];exact Az (xs:=[(17,fR g.r)]) (by simp) fun p hp=>by rw[iV hp];simp
 refine kP hoX hg (v:=.map (some g.r)) (w':=w) (by rw[execOp,hop];simp only[q1.lit_inv];rfl) ?_;rw[hd];refine⟨⟨[(17,fR g.r)]++(24,fR g.r)::yC l9 (7,mV g.k),g.r,g.k⟩,β, ?_,by simp only[e];exact R.val (aV (.lit rfl .done))⟩;have a0:(L.setIfInBounds 8 true).getD 0 false=true:=by rw[cH hsz (by decide),if_neg (by decide)];exact h0
 have a7:(L.setIfInBounds 8 true).getD 7 false=true:=by rw[cH hsz (by decide),if_neg (by decide)];exact h7
 have a8:(L.setIfInBounds 8 true).getD 8 false=true:=by rw[cH hsz (by decide),if_pos rfl]
 have a9:(L.setIfInBounds 8 true).getD 9 false=l9:=by rw[cH hsz (by decide),if_neg (by decide)];exact h9
 have a10:(L.setIfInBounds 8 true).getD 10 false=false:=by rw[cH hsz (by decide),if_neg (by decide)];exact h10
 unfold I4;rw[a0,a7,a8,a9,a10]
 exact {
     c:=hI.c
     chg:=hI.chg
     ov:=by simp[yC]
     s:=hI.s
     r0:=hI.r0
     r1:=fun _ h=>by cases h
     r2:=hI.r2
     k0:=hI.k0
     k1:=fun h9=>by
       obtain⟨c,e1,e2⟩:=hI.k1 h9;exact⟨c,e1,fun h=>by cases h⟩
     e7:=fun _=>rfl
     e8:=fun _=>rfl
     e10:=fun h=>by cases h }
theorem Ud (hoX:(aL R4)[9]? =some oX) (hg:oX.guard=none) (hI:I4 F S w0 L g β) (hsz:L.size=11) (hun:L.getD 9 false=false) (R:Rel β.S β.C β.w ρ D ⟨iC g.ov σ,h⟩ a w):
   wpOp Tryz.prog (aL R4) Q 9 (fun a' w'=>∃ g' β',I4 F S w0 (L.setIfInBounds 9 true) g' β'/\Rel β'.S β'.C β'.w ρ D ⟨iC g'.ov (put σ oX.dst V),h⟩ a' w') a w:=by
 obtain⟨hop,hd⟩:=TY oX hoX;unfold I4 at hI;rw[hun] at hI
 have h10:L.getD 10 false=false:=by
   cases h:L.getD 10 false with
   | false=>rfl
   | true=>exact absurd ((hI.e10 h).2) (by decide)
 rw[h10] at hI;obtain⟨l0,h0⟩:∃ b,L.getD 0 false=b:=⟨_,rfl⟩;obtain⟨l7,h7⟩:∃ b,L.getD 7 false=b:=⟨_,rfl⟩;obtain⟨l8,h8⟩:∃ b,L.getD 8 false=b:=⟨_,rfl⟩;rw[h0,h7,h8] at hI;obtain⟨c1,c2⟩:=hI.cnext R;have hw0:l0=true->β.S g.r:=fun h=>(hI.s _).2 (.inr (.inl ⟨h,rfl⟩))
 have R1:=R.grow (X:=No) (S1:=fun x=>β.S x\/x=w.heap.size) (Chg.alloc w (.cells #[.map none] 366 (0,0))) (fun _ h=>h.elim) (fun _ h=>.inl h) (fun k hk=>hk.imp id fun e=>by subst e;exact⟨Nat.le_refl _,by simp⟩) (dst:=some 7) (V:=mV w.heap.size) (v:=.pointer (some ⟨w.heap.size,0,none⟩)) (aV (.lit rfl .done));have hov:g.ov=yC l0 (17,fR g.r)++yC l8 (24,fR g.r):=by rw[hI.ov];simp[yC]
 have e:iC ((yC l0 (17,fR g.r)++yC l8 (24,fR g.r))++(7,mV w.heap.size):: []) (put σ (some 7) V)=put (iC g.ov σ) (some 7) (mV w.heap.size):=by
   have:=Az (xs:=yC l0 (17,fR g.r)++yC l8 (24,fR g.r)) (ys:=[]) (σ:=σ) (d:=7) (V:=V) (X:=mV w.heap.size) (fun p hp=>by
     rcases List.mem_append.1 hp with hp | hp
     · rw[iV hp];simp
     · rw[iV hp];simp) (by simp)
   rw[List.append_nil, <- hov] at this;rw[<- hov];exact this
 refine kP hoX hg (v:=.pointer (some ⟨w.heap.size,0,none⟩)) (w':=w.alloc (.cells #[.map none] 366 (0,0))) (by rw[execOp,hop];simp only[Sem.run_bind,Hv];rfl) ?_;rw[hd];have hne:l0=true->g.r<w.heap.size:=fun h=>by have:=(hI.r0 h).2.2;have:=R.chg.size;omega
 refine⟨⟨(yC l0 (17,fR g.r)++yC l8 (24,fR g.r))++(7,mV w.heap.size):: [],g.r,w.heap.size⟩,⟨fun x=>β.S x\/x=w.heap.size,qE ρ h,w.alloc (.cells #[.map none] 366 (0,0))⟩, ?_,by simp only[e];exact R1⟩;have a0:(L.setIfInBounds 9 true).getD 0 false=l0:=by rw[cH hsz (by decide),if_neg (by decide)];exact h0
 have a7:(L.setIfInBounds 9 true).getD 7 false=l7:=by rw[cH hsz (by decide),if_neg (by decide)];exact h7
 have a8:(L.setIfInBounds 9 true).getD 8 false=l8:=by rw[cH hsz (by decide),if_neg (by decide)];exact h8
 have a9:(L.setIfInBounds 9 true).getD 9 false=true:=by rw[cH hsz (by decide),if_pos rfl]
 have a10:(L.setIfInBounds 9 true).getD 10 false=false:=by rw[cH hsz (by decide),if_neg (by decide)];exact h10
 unfold I4;rw[a0,a7,a8,a9,a10]
 exact {
     c:=c1
     chg:=c2.trans (Chg.alloc _ _) fun _ _ h=>h.elim
     ov:=by simp[yC]
     s :=fun x=>by
       have:=hI.s x;simp at this ⊢;rw[this];constructor
       · rintro((h | h) | h)
         · exact .inl h
         · exact .inr (.inl h)
         · exact .inr (.inr h)
       · rintro(h | h | h)
         · exact .inl (.inl h)
         · exact .inl (.inr h)
         · exact .inr h
     r0:=fun h=>by
       obtain⟨k1,k2,k3⟩:=hI.r0 h;exact⟨k1,R.ownC_no (hw0 h),by simp;have:=R.chg.size;omega⟩
     r1:=fun h k=>by
       obtain⟨k1,k2,k3⟩:=hI.r0 h;rw[<- hI.r1 h k, <- R.chg.block _ k3 k2];exact Below.heap_alloc w _ _ (hne h)
     r2:=fun h=>by
       have h':=hI.e7 h;obtain⟨k1,k2,k3⟩:=hI.r0 h';have M1:=(hI.r2 h).now R k2;refine M1.keep (by simp) (Below.heap_alloc w _ _ (hne h')) fun k hk hs=>⟨?_,Below.heap_alloc w _ _ hk⟩
       rintro((h | h) | h)
       · exact hs (.inl h)
       · omega
       · exact hs (.inr h)
     k0:=fun _=>⟨c2.size,fun hx=>Nat.lt_irrefl _ (R.ownC_lt hx),by simp⟩
     k1:=fun _=>⟨.map none,heap_alloc_new w _,fun h=>by cases h⟩
     e7:=hI.e7
     e8:=hI.e8
     e10:=fun h=>by cases h }
theorem QY (h24:24<σ.length) (hoX:(aL R4)[10]? =some oX) (hg:oX.guard=none) (hI:I4 F S w0 L g β) (hsz:L.size=11) (hun:L.getD 10 false=false) (hed:∀ e∈oX.after.toList,Region.binds .any e=true->L.getD e.on false=true) (hA:σ.getD 23 .any= .agg (F 0)) (R:Rel β.S β.C β.w ρ D ⟨iC g.ov σ,h⟩ a w):
   wpOp Tryz.prog (aL R4) Q 10 (fun a' w'=>∃ g' β',I4 F S w0 (L.setIfInBounds 10 true) g' β'/\Rel β'.S β'.C β'.w ρ D ⟨iC g'.ov (put σ oX.dst V),h⟩ a' w') a w:=by
 obtain⟨hop,hd,⟨e1,e2,e3,e4⟩,f1,f2,f3,f4⟩:=QX oX hoX;have h8:=hed _ e2 e3;rw[e4] at h8;have h9:=hed _ f2 f3;rw[f4] at h9;unfold I4 at hI;rw[h8,h9,hun] at hI;have h7:=hI.e8 rfl;rw[h7] at hI;have h0:=hI.e7 rfl;rw[h0] at hI;obtain⟨c1,c2⟩:=hI.cnext R;have hov:g.ov= [(17,fR g.r),(24,fR g.r),(7,mV g.k)]:=hI.ov;have hlen:23<σ.length:=Ax hA (by intro h;cases h);have q1:=R.eval (.tmp 7);have q2:=R.eval (.tmp 24);obtain⟨r1,r2,r3⟩:=hI.r0 rfl;obtain⟨k1,k2,k3⟩:=hI.k0 rfl;obtain⟨c,kc,_⟩:=hI.k1 rfl;have hS:β.S g.r:=(hI.s _).2 (.inr (.inl ⟨rfl,rfl⟩));have hK:β.S g.k:=(hI.s _).2 (.inr (.inr ⟨rfl,rfl⟩));have M1:=hI.r2 rfl
 have hrk:g.r≠g.k:=fun e=>by
   obtain⟨es,clk,m1,_⟩:=M1;rw[e,kc] at m1;cases m1
 have e7:bF (iC g.ov σ) (.tmp 7)=mV g.k:=by
   rw[hov];show(iC ([(17,fR g.r),(24,fR g.r)]++(7,mV g.k):: []) σ).getD 7 .any=_;exact AA (by simp) (by omega)
 have e24:bF (iC g.ov σ) (.tmp 24)=fR g.r:=by
   rw[hov];show(iC ([(17,fR g.r)]++(24,fR g.r):: [(7,mV g.k)]) σ).getD 24 .any=_;exact AA (by simp) h24
 rw[e7] at q1;rw[e24] at q2;have kw:w.heap[g.k]? =some (.cells #[c] 366 (0,0)):=by rw[R.chg.block _ k3 k2];exact kc
 have hklt:=fJ kw;have hset:=MapKept.heap_set (o':=.cells #[.map (some g.r)] 366 (0,0)) kw
 have hch:Chg (· =g.k) w { w with heap:=w.heap.setIfInBounds g.k (.cells #[.map (some g.r)] 366 (0,0)) }:=
   ⟨rfl,rfl,rfl,by simp,fun k _ hk=>hset.2 k hk,fun k arr ty ha=>by
     by_cases e:k=g.k
     · subst e
       rw[kw] at ha;injection ha with ha;injection ha with ha1 ha2;subst ha1;exact⟨_,_,hset.1,by simp⟩
     · exact⟨arr,ty,by rw[hset.2 k e];exact ha,Nat.le_refl _⟩⟩
 have hrun:(storeVar 366 ⟨g.k,0,none⟩ (.map (some g.r))).run Tryz.prog w= .ok () { w with heap:=w.heap.setIfInBounds g.k (.cells #[.map (some g.r)] 366 (0,0)) }:=by
   have:=pO (P:=Tryz.prog) (aT 366 ⟨1,8,[.lit (.map none)],.other⟩ (by kernel_rfl)) kw (v:=.map (some g.r)) (off:=0) rfl (by simp[Value.cells,Value.oneCell']) (by simp);simpa[Value.cells] using this
 refine sY hoX hg (w':={ w with heap:=w.heap.setIfInBounds g.k (.cells #[.map (some g.r)] 366 (0,0)) }) (by rw[execOp,hop];simp only[q1.lit_inv,q2.lit_inv,tK,Sem.run_bind,hrun,Result.andThen_ok,Sem.run_pure]) ?_;rw[hd];refine⟨g,⟨β.S,qE ρ h,_⟩, ?_,R.turn hch (fun k hk=>by subst hk;exact hK) (V:=.any) (.inl rfl)⟩;have a0:(L.setIfInBounds 10 true).getD 0 false=true:=by rw[cH hsz (by decide),if_neg (by decide)];exact h0
 have a7:(L.setIfInBounds 10 true).getD 7 false=true:=by rw[cH hsz (by decide),if_neg (by decide)];exact h7
 have a8:(L.setIfInBounds 10 true).getD 8 false=true:=by rw[cH hsz (by decide),if_neg (by decide)];exact h8
 have a9:(L.setIfInBounds 10 true).getD 9 false=true:=by rw[cH hsz (by decide),if_neg (by decide)];exact h9
 have a10:(L.setIfInBounds 10 true).getD 10 false=true:=by rw[cH hsz (by decide),if_pos rfl]
 unfold I4;rw[a0,a7,a8,a9,a10]
 exact {
     c:=c1
     chg:=c2.trans hch fun i hi hx=>by subst hx;omega
     ov:=hI.ov
     s:=hI.s
     r0:=fun _=>⟨r1,R.ownC_no hS,Nat.lt_of_lt_of_le r3 (Nat.le_trans R.chg.size hch.size)⟩
     r1:=fun _ h=>by cases h
     r2:=fun _=>(M1.now R r2).keep hch.size (hset.2 _ hrk) fun k hk hs=>⟨hs,hch.block k hk fun e=>hs (.inl (e▸hK))⟩
     k0:=fun _=>⟨k1,R.ownC_no hK,Nat.lt_of_lt_of_le hklt hch.size⟩
     k1:=fun _=>⟨_,hset.1,fun _=>rfl⟩
     e7:=fun _=>rfl
     e8:=fun _=>rfl
     e10:=fun _=>⟨rfl,rfl⟩ }
end
def eR:=(kn.cons Vu).cons We
abbrev tB (r:Nat) (m:MachD) (jb:Nat) (p:PoseD):List AV:=[.cptr [.lit (.map (some r))] 0,.cptr [.fn 209 [.cptr [.lit (.map (some r))] 0,AV.any,.cptr (aD 300 m) 0,.cptr (aW jb p) 0]] 0,.cptr (aD 300 m) 0,.cptr (aW jb p) 0]
abbrev Hw (ff:Func):List Item:=[.code (aN [1,1,1,1,1,1,0,1,0,0,1,1,0,0,1] (aA ff)),.inBlock 1,.code (aN [1,1,1,1,1,1,0,1,0,0,1,1,1] (aA ff)),.inLoop (aN [1,1,1,1,1,1,0,1,0,0] (aA ff)),.inBlock 0,.code (aN [1,1,1,1,1,1,1] (aA ff))]
abbrev Hx (ff:Func):List Item:=[.inBlock 1,.code (aN [1,1,1,1,1,1,0,1,0,0,1,1,1] (aA ff)),.inLoop (aN [1,1,1,1,1,1,0,1,0,0] (aA ff)),.inBlock 0,.code (aN [1,1,1,1,1,1,1] (aA ff))]
section
variable {S0 C0:Nat->Prop} {w0:World} {Post:Value->World->Prop}
theorem MZ {γ:Type} (ovl:γ->List (Nat×AV)) (I:Array Bool->γ->Base->Prop) (m:MachD) (p:PoseD) (jb e:Nat) (f:FrameD) (o:(4*jb+800<=LIM)/\(Ref (.agg [.q p.at_.x jb,.q p.at_.z jb,.q ((1-p.turn*p.turn)/(1+p.turn*p.turn)) (4*jb+200),.q ((p.turn+p.turn)/(1+p.turn*p.turn)) (4*jb+200)]) (.agg (dS e f))))
   (hks:∀ L g β,I L g β->∀ q∈ovl g,q.1∈ [17,24,7]) (hI:∀ listed i g β,i ∉ [0,7,8,9,10]->I listed g β->I (listed.setIfInBounds i true) g β) (hX:∀ i∈ [0,7,8,9,10],∀ (Q:Exit->Act->World->Prop) listed g β ρ D σ h a w V oX,(aL (aN [1,1,0] (aA Tryz.f117)))[i]? =some oX->oX.guard=none->I listed g β->listed.size=(aL (aN [1,1,0] (aA Tryz.f117))).size->listed.getD i false=false->(∀ e∈oX.after.toList,Region.binds .any e=true->listed.getD e.on false=true)->(∀ τ∈(fun i=>if i=7 then [23] else if i=8 then [23] else if i=10 then [23] else []) i,σ.getD τ .any=(slots 49 [(2,.cptr (aD 300 m) 0),(3,(.cptr [(.q p.at_.x jb),(.q p.at_.z jb),(.q p.turn jb),(.list 3 (p.joints.map (bG jb)))] 0)),(18,(.cptr [(.q p.at_.x jb),(.q p.at_.z jb),(.q p.turn jb),(.list 3 (p.joints.map (bG jb)))] 0)),(19,.agg [(.q p.at_.x jb),(.q p.at_.z jb)]),(20,(.cptr [(.q p.at_.x jb),(.q p.at_.z jb),(.q p.turn jb),(.list 3 (p.joints.map (bG jb)))] 6)),(21,.agg [(.q p.turn jb)]),(22,(.agg [(.q ((1-p.turn*p.turn)/(1+p.turn*p.turn)) (4*jb+200)),(.q ((p.turn+p.turn)/(1+p.turn*p.turn)) (4*jb+200))])),(23,.agg [(.q f.at_.x (2*e)),(.q f.at_.z (2*e)),(.q f.c e),(.q f.s e)])]).getD τ .any)->σ.length=(slots 49 [(2,.cptr (aD 300 m) 0),(3,(.cptr [(.q p.at_.x jb),(.q p.at_.z jb),(.q p.turn jb),(.list 3 (p.joints.map (bG jb)))] 0)),(18,(.cptr [(.q p.at_.x jb),(.q p.at_.z jb),(.q p.turn jb),(.list 3 (p.joints.map (bG jb)))] 0)),(19,.agg [(.q p.at_.x jb),(.q p.at_.z jb)]),(20,(.cptr [(.q p.at_.x jb),(.q p.at_.z jb),(.q p.turn jb),(.list 3 (p.joints.map (bG jb)))] 6)),(21,.agg [(.q p.turn jb)]),(22,(.agg [(.q ((1-p.turn*p.turn)/(1+p.turn*p.turn)) (4*jb+200)),(.q ((p.turn+p.turn)/(1+p.turn*p.turn)) (4*jb+200))])),(23,.agg [(.q f.at_.x (2*e)),(.q f.at_.z (2*e)),(.q f.c e),(.q f.s e)])]).length->Rel β.S β.C β.w ρ D ⟨iC (ovl g) σ,h⟩ a w->wpOp Tryz.prog (aL (aN [1,1,0] (aA Tryz.f117))) Q i (fun a' w'=>∃ g' β',I (listed.setIfInBounds i true) g' β'/\Rel β'.S β'.C β'.w ρ D ⟨iC (ovl g') (put σ oX.dst V),h⟩ a' w') a w) (g0:γ) (hB:I (Array.replicate (aL (aN [1,1,0] (aA Tryz.f117))).size false) g0 ⟨S0,C0,w0⟩) (h0:ovl g0= [])
   (hgood:∀ listed g β,(∀ i,i<(aL (aN [1,1,0] (aA Tryz.f117))).size->listed.getD i false=true)->I listed g β->Good Tryz.prog 117 β.S β.C β.w Post [.code (aN [1,1,1] (aA Tryz.f117))] ⟨iC (ovl g) (slots 49 [(2,.cptr (aD 300 m) 0),(3,.cptr (aW jb p) 0),(18,.cptr (aW jb p) 0),(19,.agg [.q p.at_.x jb,.q p.at_.z jb]),(20,.cptr (aW jb p) 6),(21,.agg [.q p.turn jb]),(22,.agg [.q ((1-p.turn*p.turn)/(1+p.turn*p.turn)) (4*jb+200),.q ((p.turn+p.turn)/(1+p.turn*p.turn)) (4*jb+200)]),(23,.agg (dS e f))]),[none]⟩):
   Good Tryz.prog 117 S0 C0 w0 Post [.code (aN [1,1,0] (aA Tryz.f117)),.code (aN [1,1,1] (aA Tryz.f117))] ⟨slots 49 [(2,.cptr (aD 300 m) 0),(3,.cptr (aW jb p) 0)],[]⟩:=
 Good.regXs mixed aT eR (c:=aN [1,1,0] (aA Tryz.f117)) [0,7,8,9,10] [17,24,7] (fun i=>if i=7 then [23] else if i=8 then [23] else if i=10 then [23] else []) ovl I (ov:=[(17,AV.any),(23,(.agg (dS e f))),(24,AV.any),(7,AV.any)]) (ob:=[4*jb+800<=LIM,Ref (.agg [.q p.at_.x jb,.q p.at_.z jb,.q ((1-p.turn*p.turn)/(1+p.turn*p.turn)) (4*jb+200),.q ((p.turn+p.turn)/(1+p.turn*p.turn)) (4*jb+200)]) (.agg (dS e f))]) (by kernel_rfl) (by kernel_rfl)
   (.cons (o.1) (.cons (o.2) (AllP.nil))) (by kernel_rfl) (by kernel_rfl) hks hI hX g0 hB h0 hgood
theorem Na {B B':Base->Prop} (m:MachD) (p:PoseD) (jb r:Nat) (i n s:Nat) (f:FrameD) (o:(1*224<=140737488355328)/\(1<=big))
   (hB:B ⟨S0,C0,w0⟩) (hX:∀ (Q:Exit->Act->World->Prop) β ρ D σ h a w,B β->Rel β.S β.C β.w ρ D ⟨σ,h⟩ a w->(∀ τ∈ [40,41],σ.getD τ .any=(slots 49 [(8,(.cptr [(.fn 209 [(.cptr [(.lit (.map (some r)))] 0),(.cptr [(.fn 209 [(.cptr [(.lit (.map (some r)))] 0),.any,(.cptr (aD 300 m) 0),(.cptr [(.q p.at_.x jb),(.q p.at_.z jb),(.q p.turn jb),(.list 3 (p.joints.map (bG jb)))] 0)])] 0),(.cptr (aD 300 m) 0),(.cptr [(.q p.at_.x jb),(.q p.at_.z jb),(.q p.turn jb),(.list 3 (p.joints.map (bG jb)))] 0)])] 0)),(9,.ptr 0 7 0 0),(10,.i6 (i:Int)),(31,.i6 (n:Int)),(32,.i6 (i:Int)),(35,.ptr 0 7 0 0),(36,.ptr 0 7 0 0),(37,.ptr 0 7 0 0),(38,.ptr 0 7 0 6),(39,.nil),(40,(.fn 209 [(.cptr [(.lit (.map (some r)))] 0),(.cptr [(.fn 209 [(.cptr [(.lit (.map (some r)))] 0),.any,(.cptr (aD 300 m) 0),(.cptr [(.q p.at_.x jb),(.q p.at_.z jb),(.q p.turn jb),(.list 3 (p.joints.map (bG jb)))] 0)])] 0),(.cptr (aD 300 m) 0),(.cptr [(.q p.at_.x jb),(.q p.at_.z jb),(.q p.turn jb),(.list 3 (p.joints.map (bG jb)))] 0)])),(41,.i6 (i:Int)),(42,.agg [(.q f.at_.x (2*s)),(.q f.at_.z (2*s)),(.q f.c s),(.q f.s s)]),(43,.own 1 12 0 1),(44,.own 2 12 0 1),(45,.ptr 0 7 0 0),(46,.ptr 0 7 0 6)]).getD τ .any)->wpOp Tryz.prog (aL (aN [1,1,1,1,1,1,0,1,0,0,1,1,0,0,1] (aA Tryz.f117))) Q 7 (fun a' w'=>∃ β',B' β'/\Rel β'.S β'.C β'.w ρ D ⟨put σ (some 42) (.agg (dS s f)),h⟩ a' w') a w)
   (hg:∀ β,B' β->Good Tryz.prog 117 β.S β.C β.w Post (Hx Tryz.f117) ⟨slots 49 [(8,.cptr [.fn 209 (tB r m jb p)] 0),(9,.ptr 0 7 0 0),(10,.i6 (i:Int)),(31,.i6 (n:Int)),(32,.i6 (i:Int)),(35,.ptr 0 7 0 0),(36,.ptr 0 7 0 0),(37,.ptr 0 7 0 0),(38,.ptr 0 7 0 6),(39,.nil),(40,.fn 209 (tB r m jb p)),(41,.i6 (i:Int)),(42,.agg (dS s f)),(43,.own 1 12 0 1),(44,.own 2 12 0 1),(45,.ptr 0 7 0 0),(46,.ptr 0 7 0 6)],[some ⟨264,7,false,[[.str m.name,.list 27 (m.bodies.map (aE 300)),.list 17 (m.springs.map (aJ 300)),.list 17 (m.tendons.map (aJ 300)),.list 13 (m.motors.map (aP 300)),.list 5 (m.feet.map (aX 300)),.own 2 12 0 1]],none⟩,some ⟨175,12,false,[(dS s f)],none⟩,some ⟨175,12,true,[(dS s f)],none⟩]⟩):
   Good Tryz.prog 117 S0 C0 w0 Post (Hw Tryz.f117) ⟨slots 49 [(8,.cptr [.fn 209 (tB r m jb p)] 0),(9,.ptr 0 7 0 0),(10,.i6 (i:Int)),(31,.i6 (n:Int)),(32,.i6 (i:Int))],[some ⟨264,7,false,[[.str m.name,.list 27 (m.bodies.map (aE 300)),.list 17 (m.springs.map (aJ 300)),.list 17 (m.tendons.map (aJ 300)),.list 13 (m.motors.map (aP 300)),.list 5 (m.feet.map (aX 300)),.nil]],none⟩]⟩:=
 Good.regX mixed aT eR 7 (c:=aN [1,1,1,1,1,1,0,1,0,0,1,1,0,0,1] (aA Tryz.f117)) (oX:=((aL (aN [1,1,1,1,1,1,0,1,0,0,1,1,0,0,1] (aA Tryz.f117))).toList[7]?).getD default) (dX:=some 42) (V:=(.agg (dS s f))) (ov:=[(42,(.agg (dS s f)))]) (ob:=[1=1,0<1,1*224<=140737488355328,1<=big]) [40,41] (by kernel_rfl) (by kernel_rfl) (by kernel_rfl) (by kernel_rfl) (by kernel_rfl)
   (.cons (rfl) (.cons (by decide) (.cons (o.1) (.cons (o.2) (AllP.nil))))) (Or.inr (by kernel_rfl)) (by kernel_rfl) hX hB hg
theorem Nb {B B':Base->Prop} (m:MachD) (p:PoseD) (jb r:Nat) (i n s k:Nat) (f:FrameD) (A:List (List AV)) (o:(k=A.length)/\((k+1)*224<=140737488355328)/\(k+1<=big))
   (hB:B ⟨S0,C0,w0⟩) (hX:∀ (Q:Exit->Act->World->Prop) β ρ D σ h a w,B β->Rel β.S β.C β.w ρ D ⟨σ,h⟩ a w->(∀ τ∈ [40,41],σ.getD τ .any=(slots 49 [(8,(.cptr [(.fn 209 [(.cptr [(.lit (.map (some r)))] 0),(.cptr [(.fn 209 [(.cptr [(.lit (.map (some r)))] 0),.any,(.cptr (aD 300 m) 0),(.cptr [(.q p.at_.x jb),(.q p.at_.z jb),(.q p.turn jb),(.list 3 (p.joints.map (bG jb)))] 0)])] 0),(.cptr (aD 300 m) 0),(.cptr [(.q p.at_.x jb),(.q p.at_.z jb),(.q p.turn jb),(.list 3 (p.joints.map (bG jb)))] 0)])] 0)),(9,.ptr 0 7 0 0),(10,.i6 (i:Int)),(31,.i6 (n:Int)),(32,.i6 (i:Int)),(35,.ptr 0 7 0 0),(36,.ptr 0 7 0 0),(37,.ptr 0 7 0 0),(38,.ptr 0 7 0 6),(39,.own 1 12 0 k),(40,(.fn 209 [(.cptr [(.lit (.map (some r)))] 0),(.cptr [(.fn 209 [(.cptr [(.lit (.map (some r)))] 0),.any,(.cptr (aD 300 m) 0),(.cptr [(.q p.at_.x jb),(.q p.at_.z jb),(.q p.turn jb),(.list 3 (p.joints.map (bG jb)))] 0)])] 0),(.cptr (aD 300 m) 0),(.cptr [(.q p.at_.x jb),(.q p.at_.z jb),(.q p.turn jb),(.list 3 (p.joints.map (bG jb)))] 0)])),(41,.i6 (i:Int)),(42,.agg [(.q f.at_.x (2*s)),(.q f.at_.z (2*s)),(.q f.c s),(.q f.s s)]),(43,.own 2 12 0 1),(44,.own 3 12 0 (k+1)),(45,.ptr 0 7 0 0),(46,.ptr 0 7 0 6)]).getD τ .any)->wpOp Tryz.prog (aL (aN [1,1,1,1,1,1,0,1,0,0,1,1,0,0,1] (aA Tryz.f117))) Q 7 (fun a' w'=>∃ β',B' β'/\Rel β'.S β'.C β'.w ρ D ⟨put σ (some 42) (.agg (dS s f)),h⟩ a' w') a w)
   (hg:∀ β,B' β->Good Tryz.prog 117 β.S β.C β.w Post (Hx Tryz.f117) ⟨slots 49 [(8,.cptr [.fn 209 (tB r m jb p)] 0),(9,.ptr 0 7 0 0),(10,.i6 (i:Int)),(31,.i6 (n:Int)),(32,.i6 (i:Int)),(35,.ptr 0 7 0 0),(36,.ptr 0 7 0 0),(37,.ptr 0 7 0 0),(38,.ptr 0 7 0 6),(39,.own 1 12 0 k),(40,.fn 209 (tB r m jb p)),(41,.i6 (i:Int)),(42,.agg (dS s f)),(43,.own 2 12 0 1),(44,.own 3 12 0 (k+1)),(45,.ptr 0 7 0 0),(46,.ptr 0 7 0 6)],[some ⟨264,7,false,[[.str m.name,.list 27 (m.bodies.map (aE 300)),.list 17 (m.springs.map (aJ 300)),.list 17 (m.tendons.map (aJ 300)),.list 13 (m.motors.map (aP 300)),.list 5 (m.feet.map (aX 300)),.own 3 12 0 (k+1)]],none⟩,none,some ⟨175,12,false,[(dS s f)],none⟩,some ⟨175,12,true,(A++ [[(AV.q f.at_.x (2*s)),(AV.q f.at_.z (2*s)),(AV.q f.c s),(AV.q f.s s)]]),none⟩]⟩):
   Good Tryz.prog 117 S0 C0 w0 Post (Hw Tryz.f117) ⟨slots 49 [(8,.cptr [.fn 209 (tB r m jb p)] 0),(9,.ptr 0 7 0 0),(10,.i6 (i:Int)),(31,.i6 (n:Int)),(32,.i6 (i:Int))],[some ⟨264,7,false,[[.str m.name,.list 27 (m.bodies.map (aE 300)),.list 17 (m.springs.map (aJ 300)),.list 17 (m.tendons.map (aJ 300)),.list 13 (m.motors.map (aP 300)),.list 5 (m.feet.map (aX 300)),.own 1 12 0 k]],none⟩,some ⟨175,12,true,A,none⟩]⟩:=
 Good.regX mixed aT eR 7 (c:=aN [1,1,1,1,1,1,0,1,0,0,1,1,0,0,1] (aA Tryz.f117)) (oX:=((aL (aN [1,1,1,1,1,1,0,1,0,0,1,1,0,0,1] (aA Tryz.f117))).toList[7]?).getD default) (dX:=some 42) (V:=(.agg (dS s f))) (ov:=[(42,(.agg (dS s f)))]) (ob:=[1=1,k=A.length,(k+1)*224<=140737488355328,k+1<=big]) [40,41] (by kernel_rfl) (by kernel_rfl) (by kernel_rfl) (by kernel_rfl) (by kernel_rfl)
   (.cons (rfl) (.cons (o.1) (.cons (o.2.1) (.cons (o.2.2) (AllP.nil))))) (Or.inr (by kernel_rfl)) (by kernel_rfl) hX hB hg
end
noncomputable abbrev Hy:List Item:=[.code (aN [1,1,1,1,1,1,0,1,0,0,1,1,0,0,1] (aA Tryz.f117)),.inBlock 1,.code (aN [1,1,1,1,1,1,0,1,0,0,1,1,1] (aA Tryz.f117)),.inLoop (aN [1,1,1,1,1,1,0,1,0,0] (aA Tryz.f117)),.inBlock 0,.code (aN [1,1,1,1,1,1,1] (aA Tryz.f117))]
theorem tV {f:Nat->Int}:∀ (k i:Nat),eO f i k=0->∀ j,i<=j->j<i+k->f j=0
 | 0,i,h,j,h1,h2=>by omega
 | k +1,i,h,j,h1,h2=>by
   rw[eO] at h
   by_cases c:f i=0
   · rw[if_pos c] at h
     by_cases e:j=i
     · rw[e];exact c
     · exact tV k (i+1) h j (by omega) (by omega)
   · rw[if_neg c] at h;exact absurd h c
theorem kS {n:Nat} {t:Int} {f:Nat->Int} (h:bC n t f=0):∀ j,j<n->f j=0:=by
 unfold bC at h
 split at h
 · cases h
 · exact fun j hj=>tV n 0 h j (by omega) (by omega)
theorem jD {m:MachD} (h:dW m=0):m.bodies.length≠0/\(∀ i,i<m.bodies.length->eE m.bodies i=0)/\(∀ i,i<m.springs.length->bX m.bodies.length (m.springs.getD i default)=0)/\
   (∀ i,i<m.tendons.length->bY m.bodies.length (m.tendons.getD i default)=0)/\(∀ i,i<m.motors.length->dP m.bodies.length m.motors i=0)/\(∀ i,i<m.feet.length->cS m.bodies.length (m.feet.getD i default)=0):=by
 unfold dW at h
 split at h
 · cases h
 · split at h
   · cases h
   · rename_i h1 h2
     unfold Ap at h
     split at h
     · rename_i a1
       unfold Ap at h
       split at h
       · rename_i a2
         unfold Ap at h
         split at h
         · rename_i a3
           unfold Ap at h
           split at h
           · rename_i a4
             unfold Ap at h
             split at h
             · rename_i a5
               exact⟨h2,kS a1,kS a2,kS a3,kS a4,kS a5⟩
             · rename_i a5;exact absurd h a5
           · rename_i a4;exact absurd h a4
         · rename_i a3;exact absurd h a3
       · rename_i a2;exact absurd h a2
     · rename_i a1;exact absurd h a1
theorem Fe {bs:List BodyD} {i:Nat} (h:eE bs i=0) (h0:0<i):pR (bs.getD i default) i=true:=by
 unfold eE BN at h
 split at h
 · cases h
 · split at h
   · cases h
   · unfold jC at h
     split at h
     · cases h
     · rename_i hn
       cases hl:pR (bs.getD i default) i with
       | true=>rfl
       | false=>exact absurd (.inr (.inl ⟨h0,hl⟩)) hn
theorem mW {m:MachD} (h:dW m=0):m.tree:=fun i h0 hi=>by
 have:=Fe ((jD h).2.1 i hi) h0;unfold pR at this
 have:=of_decide_eq_true this;exact⟨this.1,this.2.1⟩
theorem gF {m:MachD} {n:Nat} (h:bD m n=0):dW m=0/\n+1=m.bodies.length:=by
 unfold bD at h
 split at h
 · rename_i h1
   split at h
   · exact⟨h1,by omega⟩
   · cases h
 · rename_i h1;exact absurd h h1
def yF (jb:Nat) (m:MachD) (p:PoseD):List AV:=
 [.str m.name,.list 27 (m.bodies.map (aE 300)),.list 17 (m.springs.map (aJ 300)),.list 17 (m.tendons.map (aJ 300)),.list 13 (m.motors.map (aP 300)),.list 5 (m.feet.map (aX 300)),.list 12 ((List.range m.bodies.length).map fun i=>dS (SZ jb) (fr m p i))]
def iE (jb:Nat) (m:MachD) (p:PoseD):AV:=if bD m p.joints.length=0 then .cptr (yF jb m p) 0 else .lit (.pointer none)
def gM:List AV->Rat
 | [.q x _]=>x
 | _=>0
theorem gG {B:Nat} (l:List Rat):(l.map (bG B)).map gM=l:=kM (fun _=>rfl) l
def QZ:KF
 | [.agg M,.agg [.q ax A1,.q az A2,.q tu A3,.list 3 J]]=>some (.tup [iE A1 (aF M) ⟨⟨ax,az⟩,tu,J.map gM⟩,.int .i64 (bD (aF M) J.length)],
     [M=aD 300 (aF M),(aF M).small,(aF M).bodies.length<=8,A2<=A1,A3<=A1,A1<=100000,Ref (.list 3 J) (.list 3 ((J.map gM).map (bG A1))),J.length<=4611686018427387904])
 | _=>none
theorem Rel.known {S0 C0:Nat->Prop} {w0:World} {ρ:Nat->Nat} {D:Nat->Prop} {σ:List AV} {h:List (Option ABlk)} {a:Act} {w:World} (R:Rel S0 C0 w0 ρ D ⟨σ,h⟩ a w) {t:Nat} {V:AV} (hv:∀ v,a.tmps[t]? =some v->RelV ρ (Sof S0 ρ h) w D V v):Rel S0 C0 w0 ρ D ⟨σ.set t V,h⟩ a w:=
 { R with
   len:=by rw[R.len];simp
   tmps:=fun u v hu=>by
     show RelV ρ (Sof S0 ρ h) w D ((σ.set t V).getD u .any) v;rw[fU]
     split
     · rename_i e;obtain⟨rfl,_⟩:=e;exact hv v hu
     · exact R.tmps u v hu }
section
variable {S:Nat->Prop} {w0:World}
theorem Ue (hS:∀ k,S k->k<w0.heap.size) {jb:Nat} {m:MachD} {p:PoseD} (hjb:jb<=100000) (hQ:FQ (rz jb 0) (fr m p 0)) {Post:Value->World->Prop}
   (hg:∀ r β,w0.heap.size<=r->QW (lZ jb m p) 1 r (fun x=>S x\/x=r) w0 β->Good Tryz.prog 117 β.S β.C β.w Post [.code (aN [1,1,1] (aA Tryz.f117))] ⟨slots 49 [(2,.cptr (aD 300 m) 0),(3,.cptr (aW jb p) 0),(7,xH r)],[none]⟩):
   Good Tryz.prog 117 S No w0 Post [.code R4,.code (aN [1,1,1] (aA Tryz.f117))] ⟨slots 49 [(2,.cptr (aD 300 m) 0),(3,.cptr (aW jb p) 0)],[]⟩:=by
 refine MZ (γ:=G4) G4.ov (I4 (lZ jb m p) S w0) m p jb (rz jb 0) (fr m p 0) ⟨by unfold LIM;omega, ?_⟩ (fun L g β hI q hq=> ?_) (fun L i g β hi h=>h.other hi) (fun i hi Q L g β ρ D σ h a w V oX hoX hog hI hsz hun hed hA hlen R=> ?_) ⟨[],0,0⟩ ?_ rfl (fun L g β hall hI=> ?_)
 · exact Ref.frame rfl hQ
 · rw[hI.ov] at hq
   rcases List.mem_append.1 hq with hq | hq
   · rcases List.mem_append.1 hq with hq | hq
     · rw[iV (b:=L.getD 0 false) hq];simp
     · rw[iV (b:=L.getD 8 false) hq];simp
   · rw[iV (b:=L.getD 9 false) hq];simp
 · rw[Ay] at hsz
   have h24:24<σ.length:=by rw[hlen,dO];decide
   simp only[List.mem_cons,List.mem_nil_iff,or_false] at hi;rcases hi with rfl | rfl | rfl | rfl | rfl
   · exact Ua hoX hog hI hsz hun R
   · exact Ub (F:=lZ jb m p) rfl hoX hog hI hsz hun hed (hA 23 (by simp)) R
   · exact Uc hoX hog hI hsz hun hed (hA 23 (by simp)) R
   · exact Ud hoX hog hI hsz hun R
   · exact QY h24 hoX hog hI hsz hun hed (hA 23 (by simp)) R
 · unfold I4
   rw[Ay]
   have z:∀ j,(Array.replicate 11 false).getD j false=false:=fun j=>by
     simp[Array.getD]
   rw[z,z,z,z,z]
   exact {
     c:=fun x h=>h.elim
     chg:=Chg.refl _ _
     ov:=rfl
     s:=fun x=>by simp
     r0:=fun h=>by cases h
     r1:=fun h=>by cases h
     r2:=fun h=>by cases h
     k0:=fun h=>by cases h
     k1:=fun h=>by cases h
     e7:=fun h=>by cases h
     e8:=fun h=>by cases h
     e10:=fun h=>by cases h }
 · rw[Ay] at hall
   unfold I4 at hI;rw[hall 0 (by decide),hall 7 (by decide),hall 8 (by decide),hall 9 (by decide),hall 10 (by decide)] at hI;have hov:g.ov= [(17,fR g.r),(24,fR g.r),(7,mV g.k)]:=hI.ov;obtain⟨r1,r2,r3⟩:=hI.r0 rfl;obtain⟨k1,k2,k3⟩:=hI.k0 rfl;obtain⟨c,kc,hc⟩:=hI.k1 rfl;have hc:=hc rfl;subst hc;have M1:=hI.r2 rfl
   have hrk:g.r≠g.k:=fun e=>by
     obtain⟨es,clk,m1,_⟩:=M1;rw[e,kc] at m1;cases m1
   have hS1:∀ x,S x\/x=g.r->β.S x:=fun x hx=>(hI.s x).2 (hx.imp id fun h=>.inl ⟨rfl,h⟩)
   have M2:Memo (lZ jb m p) 1 (fun x=>(S x\/x=g.r)\/β.C x) β.w g.r:=
     M1.keep (rl _) rfl fun k _ hs=>⟨fun h=>hs (h.imp (hS1 k) id),rfl⟩
   have hgood:=hg g.r ⟨fun x=>S x\/x=g.r,β.C,β.w⟩ r1 ⟨rfl,hI.c,r2,hI.chg,M2⟩;intro ρ D a w R b cs hb hk;have R1:=R.shrink hS1
   have hkS:¬ (fun x=>S x\/x=g.r) g.k:=by
     rintro(h | h)
     · have:=hS _ h;omega
     · exact hrk h.symm
   have kw:w.heap[g.k]? =some (.cells #[.map (some g.r)] 366 (0,0)):=by rw[R.chg.block _ k3 k2];exact kc
   have R2:=R1.slots (σ':=slots 49 [(2,.cptr (aD 300 m) 0),(3,.cptr (aW jb p) 0),(7,mV g.k)]) (by rw[hov];rfl) (yV (by
     rw[hov]
     exact .r (.r (.r .nil))))
   have R3:=R2.known (t:=7) (V:=xH g.r) fun v hv=>by
     have h1:=R2.tmps 7 v hv;have h2:v= .pointer (some ⟨g.k,0,none⟩):=RelV.lit_inv (u:=.pointer (some ⟨g.k,0,none⟩)) h1;subst h2;refine aV (RelCs.cptr (a:=⟨g.k,0,none⟩) (o:=0) (.lit (v:=.map (some g.r)) rfl .done) (fJ kw) ?_ ?_ .done)
     · rintro(h | ⟨l,b,hb,e⟩)
       · exact hkS h
       · exact R.ownC_no ((hI.s _).2 (.inr (.inr ⟨rfl,rfl⟩))) ⟨l,b,hb,e⟩
     · intro j v hv
       cases j with
       | zero=>simp at hv;subst hv;simp[World.cell?,Addr.add,kw]
       | succ j=>simp at hv
   exact hgood ρ D a w R3 b cs hb hk
theorem Ref.cptr {cs cs':List AV} {o:Nat} (h:RefC cs cs'):Ref (.cptr cs o) (.cptr cs' o):=fun ρ S w D v x=>by
 have x':RelCs ρ S w D [.cptr cs o] [v]:=x;cases x' with
 | cptr h1 h2 h3 h4 h5=>exact aV (.cptr (h _ _ _ _ _ h1) h2 h3 h4 .done)
abbrev BV (jb r:Nat) (m:MachD) (p:PoseD):AV:=.cptr [.fn 209 [xH r,Aw jb r m p,.cptr (aD 300 m) 0,.cptr (aW jb p) 0]] 0
theorem Nc (A B:AV) (t:Nat):(slots 49 [(2,A),(8,B)]).getD t .any=if 8=t/\8<49 then B else if 2=t/\2<49 then A else .any:=by
 have hr:(List.replicate 49 AV.any).getD t .any= .any:=by
   simp only[mQ,List.getElem?_replicate]
   split <;> rfl
 unfold slots;simp only[List.foldl];rw[fU,fU,hr];simp only[List.length_set,List.length_replicate]
theorem Uf   {S0 C0:Nat->Prop} {w1:World} {Post:Value->World->Prop} {todo:List Item} {jb r:Nat} {m:MachD} {p:PoseD}
   (hg:Good Tryz.prog 117 S0 C0 w1 Post todo ⟨slots 49 [(2,.cptr (aD 300 m) 0),(8,BV jb r m p)],[]⟩):
   Good Tryz.prog 117 S0 C0 w1 Post todo ⟨slots 49 [(2,.cptr (aD 300 m) 0),(3,.cptr (aW jb p) 0),(7,xH r),(8,.ptr 0 1 0 0)],[some ⟨367,1,false,[[.fn 209 [xH r,.ptr 0 1 0 0,.cptr (aD 300 m) 0,.cptr (aW jb p) 0]]],none⟩]⟩:=by
 intro ρ D a w R b cs hb hk;refine hg ρ No a w ?_ b cs hb hk;obtain⟨hD0,arr,h1,h2,h3⟩:=R.heap 0 _ rfl;have hc:=h3 0 _ rfl
 have kp:∀ {cs:List AV} {vs:List Value},RelCs ρ (Sof S0 ρ [some ⟨367,1,false,[[.fn 209 [xH r,.ptr 0 1 0 0,.cptr (aD 300 m) 0,.cptr (aW jb p) 0]]],none⟩]) w No cs vs->RelCs ρ S0 w No cs vs:=
   fun x=>x.keep _ (fun _ h=>h) ⟨Nat.le_refl _,fun l h=>h.elim,fun k _ hs=>⟨fun h=>hs (.inl h),rfl⟩⟩
 have hns:¬ S0 (ρ 0):=(R.mine 0 _ rfl).2.1;have hSn:∀ k,¬ Sof S0 ρ [some ⟨367,1,false,[[.fn 209 [xH r,.ptr 0 1 0 0,.cptr (aD 300 m) 0,.cptr (aW jb p) 0]]],none⟩] k->¬ S0 k:=fun k hs h=>hs (.inl h)
 simp only[Nat.zero_mul,List.drop_zero,Bool.false_eq_true,if_false] at hc
 obtain⟨v0,hv0⟩:∃ v0,arr.toList.take 1= [v0]:=by
   have:=hc.wds_eq;simp[tJ,wd] at this;exact List.length_eq_one_iff.1 (by simpa using this)
 rw[hv0] at hc
 have hcell:w.cell? ⟨ρ 0,0,none⟩=some v0:=by
   have:arr[0]? =some v0:=by
     have h:=congrArg (fun l=>l[0]?) hv0;simpa[List.getElem?_take] using h
   simp[World.cell?,h1,this]
 have hseg:Seg w ⟨ρ 0,0,none⟩ [v0]:=fun j v hv=>by
   cases j with
   | zero=>simp at hv;subst hv;simpa[Addr.add] using hcell
   | succ j=>simp at hv
 cases hc with
 | fn hcaps hdone=>
   cases hcaps with
   | cptr x1 x2 x3 x4 x5=>
     cases x5 with
     | ptr y1 y2 =>
       cases y2 with
       | cptr z1 z2 z3 z4 z5=>
         cases z5 with
         | cptr u1 u2 u3 u4 u5=>
           cases u5;have any:RelCs ρ S0 w No [AV.fn 209 [xH r,.any,.cptr (aD 300 m) 0,.cptr (aW jb p) 0]] _:=.fn (.cptr (kp x1) x2 (hSn _ x3) x4 (.any (v:=.pointer (some ⟨ρ 0,0*1+0,none⟩)) rfl (.cptr (kp z1) z2 (hSn _ z3) z4 (.cptr (kp u1) u2 (hSn _ u3) u4 .done)))) .done
           have full:RelCs ρ S0 w No [BV jb r m p] [.pointer (some (Addr.add ⟨ρ 0,0,none⟩ 0))]:=
             .cptr (.fn (.cptr (kp x1) x2 (hSn _ x3) x4 (.cptr any (fJ h1) hns hseg (.cptr (kp z1) z2 (hSn _ z3) z4 (.cptr (kp u1) u2 (hSn _ u3) u4 .done)))) .done) (fJ h1) hns hseg .done
           have hS0:Sof S0 ρ ([]:List (Option ABlk))=S0:=by funext k;apply propext;unfold Sof;simp
           exact {
             defers:=R.defers
             len:=by rw[R.len];simp[dO]
             tmps:=fun t v hv=>by
               show RelV ρ (Sof S0 ρ []) w No _ v;rw[hS0]
               have hget:(slots 49 [(2,.cptr (aD 300 m) 0),(8,BV jb r m p)]).getD t .any=if 8=t/\8<49 then BV jb r m p else if 2=t/\2<49 then .cptr (aD 300 m) 0 else .any:=by
                 exact Nc _ _ t
               show RelV ρ S0 w No ((slots 49 [(2,.cptr (aD 300 m) 0),(8,BV jb r m p)]).getD t .any) v;rw[hget];have h5:=R.tmps t v hv
               split
               · rename_i e
                 obtain⟨rfl,_⟩:=e;obtain⟨e1,_⟩:=jL (show RelV ρ _ w D (.ptr 0 1 0 0) v from h5);subst e1;exact aV full
               · split
                 · rename_i e
                   obtain⟨rfl,_⟩:=e;have h6:RelCs ρ _ w D [AV.cptr (aD 300 m) 0] [v]:=h5;exact aV (kp (h6.noRef0 rfl ρ))
                 · trivial
             heap:=fun l b h=>by simp at h
             inj:=fun l l' b b' h=>by simp at h
             lt:=R.lt
             dlt:=fun l h=>h.elim
             chg:=R.chg
             mine:=fun l b h=>by simp at h }
noncomputable abbrev Ra:List Item:=[.code (aN [1,1,1,1,1,1,0,1,0,0] (aA Tryz.f117)),.inLoop (aN [1,1,1,1,1,1,0,1,0,0] (aA Tryz.f117)),.inBlock 0,.code (aN [1,1,1,1,1,1,1] (aA Tryz.f117))]
abbrev Rb (m:MachD) (x:AV):ABlk:=⟨264,7,false,[[.str m.name,.list 27 (m.bodies.map (aE 300)),.list 17 (m.springs.map (aJ 300)),.list 17 (m.tendons.map (aJ 300)),.list 13 (m.motors.map (aP 300)),.list 5 (m.feet.map (aX 300)),x]],none⟩
theorem BW:∃ (oX:Oper) (c:Call),(aL (aN [1,1,1,1,1,1,0,1,0,0,1,1,0,0,1] (aA Tryz.f117)))[7]? =some oX/\oX.guard=none/\oX.op=Op.call c/\c.callee=Callee.value (Operand.tmp 40)/\c.args= #[Operand.tmp 41]/\oX.dst=some 42:=
 ⟨((aL (aN [1,1,1,1,1,1,0,1,0,0,1,1,0,0,1] (aA Tryz.f117))).toList[7]?).getD default,⟨Callee.value (Operand.tmp 40), #[Operand.tmp 41], #[3]⟩,by kernel_rfl,by kernel_rfl,by kernel_rfl,rfl,rfl,by kernel_rfl⟩
section
variable {jb r:Nat} {m:MachD} {p:PoseD}
theorem Nd (n:Nat) (hn:n=m.bodies.length) (h8:n<=8) {β:Base} (hβ:QW (lZ jb m p) n r (fun x=>S x\/x=r) w0 β):
   Good Tryz.prog 117 β.S β.C β.w (eD S w0 (.tup [.cptr (yF jb m p) 0,.i6 0])) [.code .ret] ⟨slots 49 [(4,.ptr 0 7 0 0),(5,.i6 0)],[some (Rb m (.own 1 12 0 n)),some ⟨175,12,true,(List.range n).map (lZ jb m p),none⟩]⟩:=by
 obtain⟨b1,b2,b3,b4,b5⟩:=hβ;refine Good.freezeD (b:=⟨175,12,true,(List.range n).map (lZ jb m p),none⟩) 1 (by rfl) (by rfl) .on (.oe (.a1 (show 0+n<=((List.range n).map (lZ jb m p)).length by simp))) ?_;refine Good.freezeD (b:=Rb m (.list 12 ((((List.range n).map (lZ jb m p)).drop 0).take n))) 0 (by rfl) (by rfl) (.oe (.a1 (dc (0<1)))) .on ?_;refine nQ aT (fn:=Tryz.f117) (by kernel_rfl) (.inr ⟨_,rfl⟩) (Vs:=[.cptr [.str m.name,.list 27 (m.bodies.map (aE 300)),.list 17 (m.springs.map (aJ 300)),.list 17 (m.tendons.map (aJ 300)),.list 13 (m.motors.map (aP 300)),.list 5 (m.feet.map (aX 300)),.list 12 ((((List.range n).map (lZ jb m p)).drop 0).take n)] 0,.i6 0]) (by kernel_rfl) (.inr rfl) fun ρ D a w2 u R hu=>⟨?_, ?_⟩
 · have h1:=sL (S':=S) hu rfl fun k h=>.inl (b1▸ .inl h)
   refine Ref.tup2 (Ref.cptr ?_) rr rfl rfl rfl rfl _ _ _ _ _ h1;refine .tl (.tl (.tl (.tl (.tl (.tl ?_)))));subst hn;rw[List.drop_zero,fQ (by simp)];refine RefC.listM _ fun i hi=> ?_
   have hi:=List.mem_range.1 hi
   have:=rz_le (jb:=jb) (i:=i) (by omega);exact RefC.cons (RefC.q_le (by omega)) (RefC.cons (RefC.q_le (by omega)) (RefC.cons (RefC.q_le (by omega)) (RefC.q_le (by omega))))
 · exact b4.trans R.chg fun i hi hc=>by have:=b2 i hc;omega
abbrev Ug (jb r n i:Nat) (m:MachD) (p:PoseD):List AV:=slots 49 [(8,BV jb r m p),(9,.ptr 0 7 0 0),(31,.i6 ((n:Nat):Int)),(32,.i6 ((i:Nat):Int))]
theorem Ku (hS:∀ k,S k->k<w0.heap.size) (hjb:jb<=100000) (hB:Co jb m p) (ht:m.tree) (h8:m.bodies.length<=8) (hj:p.joints.length+1=m.bodies.length) (hr:w0.heap.size<=r):∀ (j i:Nat),i+j=m.bodies.length->1<=i->
   ∀ β,QW (lZ jb m p) i r (fun x=>S x\/x=r) w0 β->Good Tryz.prog 117 β.S β.C β.w (eD S w0 (.tup [.cptr (yF jb m p) 0,.i6 0])) Ra ⟨Ug jb r m.bodies.length i m p,[some (Rb m (.own 1 12 0 i)),some ⟨175,12,true,(List.range i).map (lZ jb m p),none⟩]⟩:=by
 intro j
 induction j with
 | zero=>
   intro i hij h1 β hβ;exact gS eR (some 11) [4,5] [(33,ff)] (.a1 (iF (om (¬ ((i:Int)<(m.bodies.length:Int)))))) (Nd i (by omega) (by omega) hβ)
 | succ j ih=>
   intro i hij h1 β hβ;refine gS eR (some 11) [4,5,8,9,10,31,32] [(33,tt)] (.a1 (iT (om ((i:Int)<(m.bodies.length:Int))))) (t:=Hy) (σ:=slots 49 [(8,.cptr [.fn 209 [.cptr [.lit (.map (some r))] 0,.cptr [.fn 209 [.cptr [.lit (.map (some r))] 0,.any,.cptr (aD 300 m) 0,.cptr (aW jb p) 0]] 0,.cptr (aD 300 m) 0,.cptr (aW jb p) 0]] 0),(9,.ptr 0 7 0 0),(10,.i6 (i:Int)),(31,.i6 (m.bodies.length:Int)),(32,.i6 (i:Int))]) (h:=[some ⟨264,7,false,[[.str m.name,.list 27 (m.bodies.map (aE 300)),.list 17 (m.springs.map (aJ 300)),.list 17 (m.tendons.map (aJ 300)),.list 13 (m.motors.map (aP 300)),.list 5 (m.feet.map (aX 300)),.own 1 12 0 i]],none⟩,some ⟨175,12,true,((List.range i).map (lZ jb m p)),none⟩]) ?_
   refine Nb (B:=fun β'=>β'=β) (B':=QW (lZ jb m p) (i+1) r (fun x=>S x\/x=r) w0) m p jb r i m.bodies.length (rz jb i) i (fr m p i) ((List.range i).map (lZ jb m p)) ⟨by simp,by omega,by unfold big;omega⟩ (by cases β;rfl) ?_ ?_
   · rintro Q β' ρ D σ h a w1 rfl R hA
     obtain⟨b1,b2,b3,b4,b5⟩:=hβ;have e1:bF σ (.tmp 40)= .fn 209 [xH r,Aw jb r m p,.cptr (aD 300 m) 0,.cptr (aW jb p) 0]:=(hA 40 (by simp)).trans (by kernel_rfl);have e2:bF σ (.tmp 41)= .i6 ((i:Nat):Int):=(hA 41 (by simp)).trans (by kernel_rfl);obtain⟨oX,c,hoX,hg,hop,hc,hargs,hd⟩:=BW;have M1:Memo (lZ jb m p) i (Sof β'.S ρ h) w1 r:=Memo.now R (by rw[b1];exact b5) b3;have hSr:β'.S r:=by rw[b1];exact .inr rfl
     have hmap:c.args.toList.map (bF σ)= [.i6 ((i:Nat):Int)]:=by rw[hargs];simp[e2]
     have hcall:=sX (Q:=Q) (J:=fun v w'=>RelV ρ0 (Sof β'.S ρ h) w' No (.agg (lZ jb m p i)) v/\Chg (· =r) w1 w'/\Memo (lZ jb m p) (i+1) (Sof β'.S ρ h) w' r) R hoX hg hop hc e1 (by rw[hmap];simp[dC,noRef,noRef0,zO,wd]) CU (fun vals hvals=>by
       rw[hmap] at hvals
       exact Kt hjb m p ht (fun k=>R.Slt) (.inl hSr) M1 (by omega) (by omega) (by omega) (by omega) (BU hB ht (by omega) (by omega) h8) hvals)
     refine wpOp_mono ?_ hcall;rintro a' w' ⟨u,⟨hu,hch,M2⟩,rfl⟩;rw[hd];refine⟨⟨β'.S,qE ρ h,w'⟩,⟨b1,fun k hk=>R.ownC_ge hk b2 b4.size,R.ownC_no hSr, ?_, ?_⟩,R.turn hch (fun k hk=>by subst hk;exact hSr) (.inr ?_)⟩
     · refine(b4.trans R.chg fun i hi hc=>by have:=b2 i hc;omega).trans hch fun i hi hx=> ?_
       subst hx;omega
     · rw[b1] at M2;exact M2
     · obtain⟨us,h1,h2⟩:=hu
       exact⟨us,h1,QI h2⟩
   intro β' hβ';refine Good.pk 49 [(8,BV jb r m p),(9,.ptr 0 7 0 0),(31,.i6 ((m.bodies.length:Nat):Int)),(32,.i6 ((i:Nat):Int))] ?_;refine Good.tidy [0,3] (by decide) (σ':=Ug jb r m.bodies.length i m p) (h':=[some (Rb m (.own 1 12 0 (i+1))),some ⟨175,12,true,(List.range i).map (lZ jb m p)++ [lZ jb m p i],none⟩]) (by kernel_rfl) (by kernel_rfl) ?_;have e:(List.range i).map (lZ jb m p)++ [lZ jb m p i]=(List.range (i+1)).map (lZ jb m p):=by rw[List.range_succ];simp
   rw[e];exact gN eR [8,9,31,32] [(47,.i6 ((i+1:Nat):Int))] (.a1 (wI ((i:Int)+(1:Int)) ((i+1:Nat):Int))) (ih (i+1) (by omega) (by omega) β' hβ')
theorem Nf (hS:∀ k,S k->k<w0.heap.size) (hjb:jb<=100000) (hB:Co jb m p) (ht:m.tree) (h0:0<m.bodies.length) (h8:m.bodies.length<=8) (hj:p.joints.length+1=m.bodies.length):
   GF 117 S w0 (.tup [.cptr (yF jb m p) 0,.i6 0]) [.code R4,.code (aN [1,1,1] (aA Tryz.f117))] ⟨slots 49 [(2,.cptr (aD 300 m) 0),(3,.cptr (aW jb p) 0)],[]⟩:=by
 refine Ue hS hjb (BU hB ht (by omega) h0 h8) fun r β hr hβ=> ?_
 refine Good.tidy [] (by decide) (σ':=slots 49 [(2,.cptr (aD 300 m) 0),(3,.cptr (aW jb p) 0),(7,xH r)]) (h':=[]) (by kernel_rfl) (by kernel_rfl) ?_;refine gS eR (some 7) [2,3,7,8] [] .nil (t:=[.code (aN [1,1,1,1,1,0] (aA Tryz.f117)),.code (aN [1,1,1,1,1,1] (aA Tryz.f117))]) (σ:=slots 49 [(2,.cptr (aD 300 m) 0),(3,.cptr (aW jb p) 0),(7,.cptr [.lit (.map (some r))] 0),(8,.ptr 0 1 0 0)]) (h:=[some ⟨367,1,false,[[.fn 209 [.cptr [.lit (.map (some r))] 0,.ptr 0 1 0 0,.cptr (aD 300 m) 0,.cptr (aW jb p) 0]]],none⟩]) ?_
 refine Uf ?_;refine gN eR [4,5,8,9,31,32] [] .nil (t:=Ra) (σ:=slots 49 [(8,.cptr [.fn 209 [.cptr [.lit (.map (some r))] 0,.cptr [.fn 209 [.cptr [.lit (.map (some r))] 0,.any,.cptr (aD 300 m) 0,.cptr (aW jb p) 0]] 0,.cptr (aD 300 m) 0,.cptr (aW jb p) 0]] 0),(9,.ptr 0 7 0 0),(31,(.i6 ((m.bodies.map (aE 300)).length:Int))),(32,.i6 (0:Int))]) (h:=[some ⟨264,7,false,[[.str m.name,.list 27 (m.bodies.map (aE 300)),.list 17 (m.springs.map (aJ 300)),.list 17 (m.tendons.map (aJ 300)),.list 13 (m.motors.map (aP 300)),.list 5 (m.feet.map (aX 300)),.nil]],none⟩]) ?_
 have hlen:(m.bodies.map (aE 300)).length=m.bodies.length:=bH ..;rw[hlen];refine gS eR (some 11) [4,5,8,9,10,31,32] [(33,tt)] (.a1 (iT (om ((0:Int)<(m.bodies.length:Int))))) (t:=Hy) (σ:=slots 49 [(8,.cptr [.fn 209 [.cptr [.lit (.map (some r))] 0,.cptr [.fn 209 [.cptr [.lit (.map (some r))] 0,.any,.cptr (aD 300 m) 0,.cptr (aW jb p) 0]] 0,.cptr (aD 300 m) 0,.cptr (aW jb p) 0]] 0),(9,.ptr 0 7 0 0),(10,.i6 (0:Int)),(31,.i6 (m.bodies.length:Int)),(32,.i6 (0:Int))]) (h:=[some ⟨264,7,false,[[.str m.name,.list 27 (m.bodies.map (aE 300)),.list 17 (m.springs.map (aJ 300)),.list 17 (m.tendons.map (aJ 300)),.list 13 (m.motors.map (aP 300)),.list 5 (m.feet.map (aX 300)),.nil]],none⟩]) ?_
 refine Na (B:=fun β'=>β'=β) (B':=QW (lZ jb m p) 1 r (fun x=>S x\/x=r) w0) m p jb r 0 m.bodies.length (rz jb 0) (fr m p 0) ⟨by decide,by unfold big;omega⟩ (by cases β;rfl) ?_ ?_
 · rintro Q β' ρ D σ h a w1 rfl R hA
   obtain⟨b1,b2,b3,b4,b5⟩:=hβ;have e1:bF σ (.tmp 40)= .fn 209 [xH r,Aw jb r m p,.cptr (aD 300 m) 0,.cptr (aW jb p) 0]:=(hA 40 (by simp)).trans (by kernel_rfl);have e2:bF σ (.tmp 41)= .i6 ((0:Nat):Int):=(hA 41 (by simp)).trans (by kernel_rfl);obtain⟨oX,c,hoX,hg,hop,hc,hargs,hd⟩:=BW;have M1:Memo (lZ jb m p) 1 (Sof β'.S ρ h) w1 r:=Memo.now R (by rw[b1];exact b5) b3;have hmap:c.args.toList.map (bF σ)= [.i6 ((0:Nat):Int)]:=by rw[hargs];simp[e2]
   have hcall:=sX (Q:=Q) (J:=eD (Sof β'.S ρ h) w1 (.agg (lZ jb m p 0))) R hoX hg hop hc e1 (by rw[hmap];simp[dC,noRef,noRef0,zO,wd]) CU (fun vals hvals=>by
     rw[hmap] at hvals
     exact Ht jb m p (fun k=>R.Slt) M1 (by omega) hvals)
   refine wpOp_mono ?_ hcall;rintro a' w' ⟨u,⟨hu,hch⟩,rfl⟩;rw[hd];refine⟨_,⟨b1,b2,b3,b4,b5⟩,R.called hch ?_⟩;obtain⟨us,h1,h2⟩:=hu;exact⟨us,h1,QI h2⟩
 intro β' hβ';refine Good.pk 49 [(8,BV jb r m p),(9,.ptr 0 7 0 0),(31,.i6 ((m.bodies.length:Nat):Int)),(32,.i6 ((0:Nat):Int))] ?_;refine Good.tidy [0,2] (by decide) (σ':=Ug jb r m.bodies.length 0 m p) (h':=[some (Rb m (.own 1 12 0 1)),some ⟨175,12,true,[lZ jb m p 0],none⟩]) (by kernel_rfl) (by kernel_rfl) ?_;exact gN eR [8,9,31,32] [(47,.i6 ((0+1:Nat):Int))] (.a1 (wI ((0:Int)+(1:Int)) ((0+1:Nat):Int))) (Ku hS hjb hB ht h8 hj hr (m.bodies.length-1) 1 (by omega) (by omega) β' hβ')
end
end
theorem Hz:bQ 117 QZ:=fun args r ob h ho=>by
 unfold QZ at h
 split at h
 · rename_i M ax jb az A2 tu A3 J
   cases h;have o1:M=aD 300 (aF M):=ho _ (by simp);have o2:(aF M).small:=ho _ (by simp);have o3:(aF M).bodies.length<=8:=ho _ (by simp);have o4:A2<=jb:=ho _ (by simp);have o5:A3<=jb:=ho _ (by simp);have o6:jb<=100000:=ho _ (by simp);have o7:Ref (.list 3 J) (.list 3 ((J.map gM).map (bG jb))):=ho _ (by simp);have o8:J.length<=4611686018427387904:=ho _ (by simp);clear ho;generalize hm:aF M=m at*;subst o1;obtain⟨p,hp⟩:∃ p:PoseD,p=⟨⟨ax,az⟩,tu,J.map gM⟩:=⟨_,rfl⟩;have hpj:p.joints.length=J.length:=by rw[hp];simp
   rw[<- hp, <- hpj];refine⟨⟨Tryz.f117,by kernel_rfl,by kernel_rfl,by kernel_rfl⟩,fun S w0 vals hS hvals=>xA (Post:=eD S w0 (.tup [iE jb m p,.i6 (bD m p.joints.length)])) (fn:=Tryz.f117) (c:=aA Tryz.f117) (by kernel_rfl) (by kernel_rfl) hS hvals ?_⟩
   have hpo:RefC [.q ax jb,.q az A2,.q tu A3,.list 3 J] (aW jb p):=by
     rw[hp];refine RefC.tl (RefC.cons (RefC.q_le o4) (RefC.cons (RefC.q_le o5) ?_));intro ρ S w D vs x;cases x with
     | list f1 f2 f3 f4 f5 f6 f7=>
       cases f7;exact o7 _ _ _ _ _ (aV (.list f1 f2 f3 f4 f5 f6 .done))
   have hBn:Co jb m p:=by
     cases vals with
     | nil=>exact hvals.elim
     | cons v1 vs=>
       cases vs with
       | nil=>exact hvals.2.elim
       | cons v2 vs=>
         obtain⟨⟨_,_,k1⟩,⟨_,_,k2⟩,_⟩:=hvals;exact Hf k1 (hpo _ _ _ _ _ k2)
   refine Good.weak 49 [(0,.agg (aD 300 m)),(1,.agg (aW jb p))] (by kernel_rfl) (.r (.cons (Ref.agg hpo) .nil)) ?_;have hjl:(p.joints.map (bG jb)).length=p.joints.length:=bH ..;have hbl:(m.bodies.map (aE 300)).length=m.bodies.length:=bH ..;have hob:Ref (.i6 (bD (aF (aD 300 m)) (p.joints.map (bG jb)).length)) (.i6 (bD m p.joints.length)):=Ref.int (by rw[aU,hjl]);have hsm:(aF (aD 300 m)).small:=by rw[aU];exact o2
   have hun:aD 300 m=aD 300 (aF (aD 300 m)):=by rw[aU]
   have v0:(p.joints.map (bG jb)).length<=4611686018427387904:=by rw[hjl,hpj];exact o8
   have v3:(m.bodies.map (aE 300)).length<=4611686018427387904:=by rw[hbl];omega
   by_cases c:bD m p.joints.length=0
   · refine gR eR (some 4) [2,3,4,5] [0,1] [(13,.i6 (bD m p.joints.length)),(15,ff)] (.a6 hob hun hsm v0 v3 (jF c)) (t:=[.code (aN [1,1,0] (aA Tryz.f117)),.code (aN [1,1,1] (aA Tryz.f117))]) (σ:=slots 49 [(2,.ptr 0 6 0 0),(3,.ptr 1 10 0 0),(4,.lit (Go.Value.pointer none)),(5,.i6 (0:Int))]) (h:=[some ⟨41,6,false,[(aD 300 m)],none⟩,some ⟨61,10,false,[(aW jb p)],none⟩]) ?_
     obtain⟨c1,c2⟩:=gF c;rw[show iE jb m p= .cptr (yF jb m p) 0 from if_pos c,c];refine Good.pk 49 [(2,.ptr 0 6 0 0),(3,.ptr 1 10 0 0)] ?_;refine Good.freezeD (b:=⟨41,6,false,[aD 300 m],none⟩) 0 (by rfl) (by rfl) (.oe (.a1 (dc (0<1)))) .on ?_;refine Good.freezeD (b:=⟨61,10,false,[aW jb p],none⟩) 1 (by rfl) (by rfl) (.oe (.a1 (dc (0<1)))) .on ?_;refine Good.tidy [] (by decide) (σ':=slots 49 [(2,.cptr (aD 300 m) 0),(3,.cptr (aW jb p) 0)]) (h':=[]) (by kernel_rfl) (by kernel_rfl) ?_;exact Nf hS o6 hBn (mW c1) (by omega) o3 c2
   · refine gR eR (some 4) [2,3,4,5] [0,1] [(13,.i6 (bD m p.joints.length)),(15,tt)] (.a6 hob hun hsm v0 v3 (jT c)) (t:=[.code .ret,.code (aN [1,1] (aA Tryz.f117))]) (σ:=slots 49 [(2,.ptr 0 6 0 0),(3,.ptr 1 10 0 0),(4,.lit (Go.Value.pointer none)),(5,.i6 (bD m p.joints.length))]) (h:=[some ⟨41,6,false,[(aD 300 m)],none⟩,some ⟨61,10,false,[(aW jb p)],none⟩]) ?_
     rw[show iE jb m p= .lit (.pointer none) from if_neg c];exact gE [.lit (.pointer none),.i6 (bD m p.joints.length)] rr
 · cases h
def fG:=kn
abbrev fS (ff:Func):List Item:=[.code (aN [1,1,1,0,1,0,0] (aA ff)),.inLoop (aN [1,1,1,0,1,0,0] (aA ff)),.inBlock 0,.code (aN [1,1,1,1] (aA ff))]
abbrev fT (i:Nat) (xs:List Nat):AV:=(.bool (decide ((i:Int)<((aM xs).length:Int))))
abbrev jG (i:Nat) (ys:List Nat):AV:=(.bool (decide ((i:Int)<((aM ys).length:Int))))
abbrev oI (i:Nat):AV:=(.i6 (IntKind.i64.wrap ((i:Int)+(1:Int))))
abbrev AB (xs:List Nat) (ys:List Nat) (c2:Nat) (i:Nat):List (Nat×AV):=[(0,(.list 1 (aM xs))),(1,(.list 1 (aM ys))),(5,(.own 0 1 0 1)),(6,(.i6 (c2:Int))),(7,(.i6 ((i+1:Nat):Int)))]
abbrev AC (xs:List Nat) (ys:List Nat) (m:Nat) (c2:Nat) (i:Nat):List (Nat×AV):=[(0,(.list 1 (aM xs))),(1,(.list 1 (aM ys))),(5,(.own 0 1 0 (m+1))),(6,(.i6 (c2:Int))),(7,(.i6 ((i+1:Nat):Int)))]
abbrev HA (xs:List Nat) (i:Nat) (c:Nat) (ys:List Nat) (v:Nat) (c2:Nat):List (Nat×AV):=[(12,(.bool true)),(27,(.bool true)),(31,(.cptr [.i6 (xs.getD i 0:Int)] 0)),(33,(.i6 ((c+xs.getD i 0:Nat):Int))),(37,(.bool true)),(41,(.cptr [.i6 (ys.getD i 0:Int)] 0)),(43,(.i6 ((c+xs.getD i 0+ys.getD i 0:Nat):Int))),(46,(.i6 (v:Int))),(50,(.i6 (c2:Int))),(23,(.i6 ((i+1:Nat):Int)))]
abbrev AD (xs:List Nat) (ys:List Nat) (m:Nat) (c:Nat) (i:Nat):List (Nat×AV):=[(0,(.list 1 (aM xs))),(1,(.list 1 (aM ys))),(5,(.own 0 1 0 m)),(6,(.i6 (c:Int))),(7,(.i6 (i:Int)))]
abbrev AE (xs:List Nat) (ys:List Nat) (c:Nat) (i:Nat):List (Nat×AV):=[(0,(.list 1 (aM xs))),(1,(.list 1 (aM ys))),(5,AV.nil),(6,(.i6 (c:Int))),(7,(.i6 (i:Int)))]
abbrev HB (ys:List Nat) (i:Nat) (c:Nat) (v:Nat) (c2:Nat):List (Nat×AV):=[(12,(.bool false)),(18,(.bool true)),(27,(.bool false)),(37,(.bool true)),(41,(.cptr [.i6 (ys.getD i 0:Int)] 0)),(43,(.i6 ((c+ys.getD i 0:Nat):Int))),(46,(.i6 (v:Int))),(50,(.i6 (c2:Int))),(23,(.i6 ((i+1:Nat):Int)))]
abbrev DR (xs:List Nat) (i:Nat) (c:Nat) (v:Nat) (c2:Nat):List (Nat×AV):=[(12,(.bool true)),(27,(.bool true)),(31,(.cptr [.i6 (xs.getD i 0:Int)] 0)),(33,(.i6 ((c+xs.getD i 0:Nat):Int))),(37,(.bool false)),(46,(.i6 (v:Int))),(50,(.i6 (c2:Int))),(23,(.i6 ((i+1:Nat):Int)))]
abbrev DS (v:Nat) (c2:Nat) (i:Nat):List (Nat×AV):=[(12,(.bool false)),(18,(.bool false)),(21,(.bool true)),(27,(.bool false)),(37,(.bool false)),(46,(.i6 (v:Int))),(50,(.i6 (c2:Int))),(23,(.i6 ((i+1:Nat):Int)))]
abbrev uS (v:Nat):List (Option ABlk):=[some ⟨3,1,true,[[.i6 (v:Int)]],none⟩]
abbrev uT (c:Nat) (xs:List Nat) (i:Nat):AV:=(.i6 (IntKind.i64.wrap ((c:Int)+(xs.getD i 0:Int))))
section
variable {S0 C0:Nat->Prop} {w0:World} {Post:Value->World->Prop}
theorem HC (xs ys:List Nat) (c i c2 v:Nat) (h1:(i:Int)<((aM xs).length:Int)) (h2:(i:Int)<((aM ys).length:Int)) (o:(i<xs.length)/\((i:Int)<((aM xs).length:Int))/\(-9223372036854775808<=(c:Int)+(xs.getD i 0:Int)/\(c:Int)+(xs.getD i 0:Int)<=9223372036854775807)/\(i<ys.length)/\((i:Int)<((aM ys).length:Int))/\(-9223372036854775808<=((c+xs.getD i 0:Nat):Int)+(ys.getD i 0:Int)/\((c+xs.getD i 0:Nat):Int)+(ys.getD i 0:Int)<=9223372036854775807)/\(Ref (.i6 (((c+xs.getD i 0+ys.getD i 0:Nat):Int).tmod (10000:Int))) (.i6 (v:Int)))/\(1*8<=140737488355328)/\(1<=big)/\(Ref (.i6 (IntKind.i64.wrap (((c+xs.getD i 0+ys.getD i 0:Nat):Int).tdiv (10000:Int)))) (.i6 (c2:Int)))/\(-9223372036854775808<=(i:Int)+(1:Int)/\(i:Int)+(1:Int)<=9223372036854775807))
   (hg:Good Tryz.prog 292 S0 C0 w0 Post (fS Tryz.f292) ⟨slots 52 (AB xs ys c2 i),(uS v)⟩):
   Good Tryz.prog 292 S0 C0 w0 Post (fS Tryz.f292) ⟨slots 52 (AE xs ys c i),[]⟩:=
 tR mixed aT fG 28 none [0,1,4,5,6,7] [1] (HA xs i c ys v c2) (ob:=[Ref (fT i xs) (.bool true),Ref (fT i xs) (.bool true),Ref (.cptr ((aM xs).getD i []) 0) (.cptr [.i6 (xs.getD i 0:Int)] 0),0<=(i:Int),(i:Int)<((aM xs).length:Int),Ref (uT c xs i) (.i6 ((c+xs.getD i 0:Nat):Int)),Ref (jG i ys) (.bool true),Ref (.cptr ((aM ys).getD i []) 0) (.cptr [.i6 (ys.getD i 0:Int)] 0),0<=(i:Int),(i:Int)<((aM ys).length:Int),Ref (.i6 (IntKind.i64.wrap (((c+xs.getD i 0:Nat):Int)+(ys.getD i 0:Int)))) (.i6 ((c+xs.getD i 0+ys.getD i 0:Nat):Int)),Ref (.i6 (((c+xs.getD i 0+ys.getD i 0:Nat):Int).tmod (10000:Int))) (.i6 (v:Int)),(10000:Int)≠0,1=1,0<1,1*8<=140737488355328,1<=big,Ref (.i6 (IntKind.i64.wrap (((c+xs.getD i 0+ys.getD i 0:Nat):Int).tdiv (10000:Int)))) (.i6 (c2:Int)),(10000:Int)≠0,Ref (oI i) (.i6 ((i+1:Nat):Int))]) (by decide) (by kernel_rfl)
   (.cons (Ref.bool (decide_eq_true h1)) (.cons (Ref.bool (decide_eq_true h1)) (.cons (Ref.cd64 o.1) (.cons (Int.natCast_nonneg _) (.cons (o.2.1) (.cons ((Ref.wr o.2.2.1).trans (Ref.int (by first | rfl | omega | simp))) (.cons (Ref.bool (decide_eq_true h2)) (.cons (Ref.cd64 o.2.2.2.1) (.cons (Int.natCast_nonneg _) (.cons (o.2.2.2.2.1) (.cons ((Ref.wr o.2.2.2.2.2.1).trans (Ref.int (by first | rfl | omega | simp))) (.cons (o.2.2.2.2.2.2.1) (.cons (by decide) (.cons (rfl) (.cons (by decide) (.cons (o.2.2.2.2.2.2.2.1) (.cons (o.2.2.2.2.2.2.2.2.1) (.cons (o.2.2.2.2.2.2.2.2.2.1) (.cons (by decide) (.cons ((Ref.wr o.2.2.2.2.2.2.2.2.2.2).trans (Ref.int (by first | rfl | omega | simp))) (AllP.nil))))))))))))))))))))) hg
theorem HD (xs ys:List Nat) (c i c2 v:Nat) (h1:(i:Int)<((aM xs).length:Int)) (h2:¬ ((i:Int)<((aM ys).length:Int))) (o:(i<xs.length)/\((i:Int)<((aM xs).length:Int))/\(-9223372036854775808<=(c:Int)+(xs.getD i 0:Int)/\(c:Int)+(xs.getD i 0:Int)<=9223372036854775807)/\(Ref (.i6 (((c+xs.getD i 0:Nat):Int).tmod (10000:Int))) (.i6 (v:Int)))/\(1*8<=140737488355328)/\(1<=big)/\(Ref (.i6 (IntKind.i64.wrap (((c+xs.getD i 0:Nat):Int).tdiv (10000:Int)))) (.i6 (c2:Int)))/\(-9223372036854775808<=(i:Int)+(1:Int)/\(i:Int)+(1:Int)<=9223372036854775807))
   (hg:Good Tryz.prog 292 S0 C0 w0 Post (fS Tryz.f292) ⟨slots 52 (AB xs ys c2 i),(uS v)⟩):
   Good Tryz.prog 292 S0 C0 w0 Post (fS Tryz.f292) ⟨slots 52 (AE xs ys c i),[]⟩:=
 tR mixed aT fG 28 none [0,1,4,5,6,7] [1] (DR xs i c v c2) (ob:=[Ref (fT i xs) (.bool true),Ref (fT i xs) (.bool true),Ref (.cptr ((aM xs).getD i []) 0) (.cptr [.i6 (xs.getD i 0:Int)] 0),0<=(i:Int),(i:Int)<((aM xs).length:Int),Ref (uT c xs i) (.i6 ((c+xs.getD i 0:Nat):Int)),Ref (jG i ys) (.bool false),Ref (.i6 (((c+xs.getD i 0:Nat):Int).tmod (10000:Int))) (.i6 (v:Int)),(10000:Int)≠0,1=1,0<1,1*8<=140737488355328,1<=big,Ref (.i6 (IntKind.i64.wrap (((c+xs.getD i 0:Nat):Int).tdiv (10000:Int)))) (.i6 (c2:Int)),(10000:Int)≠0,Ref (oI i) (.i6 ((i+1:Nat):Int))]) (by decide) (by kernel_rfl)
   (.cons (Ref.bool (decide_eq_true h1)) (.cons (Ref.bool (decide_eq_true h1)) (.cons (Ref.cd64 o.1) (.cons (Int.natCast_nonneg _) (.cons (o.2.1) (.cons ((Ref.wr o.2.2.1).trans (Ref.int (by first | rfl | omega | simp))) (.cons (Ref.bool (decide_eq_false h2)) (.cons (o.2.2.2.1) (.cons (by decide) (.cons (rfl) (.cons (by decide) (.cons (o.2.2.2.2.1) (.cons (o.2.2.2.2.2.1) (.cons (o.2.2.2.2.2.2.1) (.cons (by decide) (.cons ((Ref.wr o.2.2.2.2.2.2.2).trans (Ref.int (by first | rfl | omega | simp))) (AllP.nil))))))))))))))))) hg
theorem HE (xs ys:List Nat) (c i c2 v:Nat) (h1:¬ ((i:Int)<((aM xs).length:Int))) (h2:(i:Int)<((aM ys).length:Int)) (o:(i<ys.length)/\((i:Int)<((aM ys).length:Int))/\(-9223372036854775808<=(c:Int)+(ys.getD i 0:Int)/\(c:Int)+(ys.getD i 0:Int)<=9223372036854775807)/\(Ref (.i6 (((c+ys.getD i 0:Nat):Int).tmod (10000:Int))) (.i6 (v:Int)))/\(1*8<=140737488355328)/\(1<=big)/\(Ref (.i6 (IntKind.i64.wrap (((c+ys.getD i 0:Nat):Int).tdiv (10000:Int)))) (.i6 (c2:Int)))/\(-9223372036854775808<=(i:Int)+(1:Int)/\(i:Int)+(1:Int)<=9223372036854775807))
   (hg:Good Tryz.prog 292 S0 C0 w0 Post (fS Tryz.f292) ⟨slots 52 (AB xs ys c2 i),(uS v)⟩):
   Good Tryz.prog 292 S0 C0 w0 Post (fS Tryz.f292) ⟨slots 52 (AE xs ys c i),[]⟩:=
 tR mixed aT fG 28 none [0,1,4,5,6,7] [1] (HB ys i c v c2) (ob:=[Ref (fT i xs) (.bool false),Ref (jG i ys) (.bool true),Ref (fT i xs) (.bool false),Ref (jG i ys) (.bool true),Ref (.cptr ((aM ys).getD i []) 0) (.cptr [.i6 (ys.getD i 0:Int)] 0),0<=(i:Int),(i:Int)<((aM ys).length:Int),Ref (.i6 (IntKind.i64.wrap ((c:Int)+(ys.getD i 0:Int)))) (.i6 ((c+ys.getD i 0:Nat):Int)),Ref (.i6 (((c+ys.getD i 0:Nat):Int).tmod (10000:Int))) (.i6 (v:Int)),(10000:Int)≠0,1=1,0<1,1*8<=140737488355328,1<=big,Ref (.i6 (IntKind.i64.wrap (((c+ys.getD i 0:Nat):Int).tdiv (10000:Int)))) (.i6 (c2:Int)),(10000:Int)≠0,Ref (oI i) (.i6 ((i+1:Nat):Int))]) (by decide) (by kernel_rfl)
   (.cons (Ref.bool (decide_eq_false h1)) (.cons (Ref.bool (decide_eq_true h2)) (.cons (Ref.bool (decide_eq_false h1)) (.cons (Ref.bool (decide_eq_true h2)) (.cons (Ref.cd64 o.1) (.cons (Int.natCast_nonneg _) (.cons (o.2.1) (.cons ((Ref.wr o.2.2.1).trans (Ref.int (by first | rfl | omega | simp))) (.cons (o.2.2.2.1) (.cons (by decide) (.cons (rfl) (.cons (by decide) (.cons (o.2.2.2.2.1) (.cons (o.2.2.2.2.2.1) (.cons (o.2.2.2.2.2.2.1) (.cons (by decide) (.cons ((Ref.wr o.2.2.2.2.2.2.2).trans (Ref.int (by first | rfl | omega | simp))) (AllP.nil)))))))))))))))))) hg
theorem HF (xs ys:List Nat) (c i c2 v:Nat) (h1:¬ ((i:Int)<((aM xs).length:Int))) (h2:¬ ((i:Int)<((aM ys).length:Int))) (h3:(0:Int)<(c:Int)) (o:(Ref (.i6 ((c:Int).tmod (10000:Int))) (.i6 (v:Int)))/\(1*8<=140737488355328)/\(1<=big)/\(Ref (.i6 (IntKind.i64.wrap ((c:Int).tdiv (10000:Int)))) (.i6 (c2:Int)))/\(-9223372036854775808<=(i:Int)+(1:Int)/\(i:Int)+(1:Int)<=9223372036854775807))
   (hg:Good Tryz.prog 292 S0 C0 w0 Post (fS Tryz.f292) ⟨slots 52 (AB xs ys c2 i),(uS v)⟩):
   Good Tryz.prog 292 S0 C0 w0 Post (fS Tryz.f292) ⟨slots 52 (AE xs ys c i),[]⟩:=
 tR mixed aT fG 28 none [0,1,4,5,6,7] [1] (DS v c2 i) (ob:=[Ref (fT i xs) (.bool false),Ref (jG i ys) (.bool false),Ref (.bool (decide ((0:Int)<(c:Int)))) (.bool true),Ref (fT i xs) (.bool false),Ref (jG i ys) (.bool false),Ref (.i6 ((c:Int).tmod (10000:Int))) (.i6 (v:Int)),(10000:Int)≠0,1=1,0<1,1*8<=140737488355328,1<=big,Ref (.i6 (IntKind.i64.wrap ((c:Int).tdiv (10000:Int)))) (.i6 (c2:Int)),(10000:Int)≠0,Ref (oI i) (.i6 ((i+1:Nat):Int))]) (by decide) (by kernel_rfl)
   (.cons (Ref.bool (decide_eq_false h1)) (.cons (Ref.bool (decide_eq_false h2)) (.cons (Ref.bool (decide_eq_true h3)) (.cons (Ref.bool (decide_eq_false h1)) (.cons (Ref.bool (decide_eq_false h2)) (.cons (o.1) (.cons (by decide) (.cons (rfl) (.cons (by decide) (.cons (o.2.1) (.cons (o.2.2.1) (.cons (o.2.2.2.1) (.cons (by decide) (.cons ((Ref.wr o.2.2.2.2).trans (Ref.int (by first | rfl | omega | simp))) (AllP.nil))))))))))))))) hg
theorem HG (xs ys ds:List Nat) (m c i c2 v:Nat) (h1:(i:Int)<((aM xs).length:Int)) (h2:(i:Int)<((aM ys).length:Int)) (o:(i<xs.length)/\((i:Int)<((aM xs).length:Int))/\(-9223372036854775808<=(c:Int)+(xs.getD i 0:Int)/\(c:Int)+(xs.getD i 0:Int)<=9223372036854775807)/\(i<ys.length)/\((i:Int)<((aM ys).length:Int))/\(-9223372036854775808<=((c+xs.getD i 0:Nat):Int)+(ys.getD i 0:Int)/\((c+xs.getD i 0:Nat):Int)+(ys.getD i 0:Int)<=9223372036854775807)/\(Ref (.i6 (((c+xs.getD i 0+ys.getD i 0:Nat):Int).tmod (10000:Int))) (.i6 (v:Int)))/\(m=(aM ds).length)/\((m+1)*8<=140737488355328)/\(m+1<=big)/\(Ref (.i6 (IntKind.i64.wrap (((c+xs.getD i 0+ys.getD i 0:Nat):Int).tdiv (10000:Int)))) (.i6 (c2:Int)))/\(-9223372036854775808<=(i:Int)+(1:Int)/\(i:Int)+(1:Int)<=9223372036854775807))
   (hg:Good Tryz.prog 292 S0 C0 w0 Post (fS Tryz.f292) ⟨slots 52 (AC xs ys m c2 i),[some ⟨3,1,true,((aM ds)++ [[(AV.int .i64 (v:Int))]]),none⟩]⟩):
   Good Tryz.prog 292 S0 C0 w0 Post (fS Tryz.f292) ⟨slots 52 (AD xs ys m c i),[some ⟨3,1,true,(aM ds),none⟩]⟩:=
 tR mixed aT fG 28 none [0,1,4,5,6,7] [2] (HA xs i c ys v c2) (ob:=[Ref (fT i xs) (.bool true),Ref (fT i xs) (.bool true),Ref (.cptr ((aM xs).getD i []) 0) (.cptr [.i6 (xs.getD i 0:Int)] 0),0<=(i:Int),(i:Int)<((aM xs).length:Int),Ref (uT c xs i) (.i6 ((c+xs.getD i 0:Nat):Int)),Ref (jG i ys) (.bool true),Ref (.cptr ((aM ys).getD i []) 0) (.cptr [.i6 (ys.getD i 0:Int)] 0),0<=(i:Int),(i:Int)<((aM ys).length:Int),Ref (.i6 (IntKind.i64.wrap (((c+xs.getD i 0:Nat):Int)+(ys.getD i 0:Int)))) (.i6 ((c+xs.getD i 0+ys.getD i 0:Nat):Int)),Ref (.i6 (((c+xs.getD i 0+ys.getD i 0:Nat):Int).tmod (10000:Int))) (.i6 (v:Int)),(10000:Int)≠0,1=1,m=(aM ds).length,(m+1)*8<=140737488355328,m+1<=big,Ref (.i6 (IntKind.i64.wrap (((c+xs.getD i 0+ys.getD i 0:Nat):Int).tdiv (10000:Int)))) (.i6 (c2:Int)),(10000:Int)≠0,Ref (oI i) (.i6 ((i+1:Nat):Int))]) (by decide) (by kernel_rfl)
   (.cons (Ref.bool (decide_eq_true h1)) (.cons (Ref.bool (decide_eq_true h1)) (.cons (Ref.cd64 o.1) (.cons (Int.natCast_nonneg _) (.cons (o.2.1) (.cons ((Ref.wr o.2.2.1).trans (Ref.int (by first | rfl | omega | simp))) (.cons (Ref.bool (decide_eq_true h2)) (.cons (Ref.cd64 o.2.2.2.1) (.cons (Int.natCast_nonneg _) (.cons (o.2.2.2.2.1) (.cons ((Ref.wr o.2.2.2.2.2.1).trans (Ref.int (by first | rfl | omega | simp))) (.cons (o.2.2.2.2.2.2.1) (.cons (by decide) (.cons (rfl) (.cons (o.2.2.2.2.2.2.2.1) (.cons (o.2.2.2.2.2.2.2.2.1) (.cons (o.2.2.2.2.2.2.2.2.2.1) (.cons (o.2.2.2.2.2.2.2.2.2.2.1) (.cons (by decide) (.cons ((Ref.wr o.2.2.2.2.2.2.2.2.2.2.2).trans (Ref.int (by first | rfl | omega | simp))) (AllP.nil))))))))))))))))))))) hg
theorem HH (xs ys ds:List Nat) (m c i c2 v:Nat) (h1:(i:Int)<((aM xs).length:Int)) (h2:¬ ((i:Int)<((aM ys).length:Int))) (o:(i<xs.length)/\((i:Int)<((aM xs).length:Int))/\(-9223372036854775808<=(c:Int)+(xs.getD i 0:Int)/\(c:Int)+(xs.getD i 0:Int)<=9223372036854775807)/\(Ref (.i6 (((c+xs.getD i 0:Nat):Int).tmod (10000:Int))) (.i6 (v:Int)))/\(m=(aM ds).length)/\((m+1)*8<=140737488355328)/\(m+1<=big)/\(Ref (.i6 (IntKind.i64.wrap (((c+xs.getD i 0:Nat):Int).tdiv (10000:Int)))) (.i6 (c2:Int)))/\(-9223372036854775808<=(i:Int)+(1:Int)/\(i:Int)+(1:Int)<=9223372036854775807))
   (hg:Good Tryz.prog 292 S0 C0 w0 Post (fS Tryz.f292) ⟨slots 52 (AC xs ys m c2 i),[some ⟨3,1,true,((aM ds)++ [[(AV.int .i64 (v:Int))]]),none⟩]⟩):
   Good Tryz.prog 292 S0 C0 w0 Post (fS Tryz.f292) ⟨slots 52 (AD xs ys m c i),[some ⟨3,1,true,(aM ds),none⟩]⟩:=
 tR mixed aT fG 28 none [0,1,4,5,6,7] [2] (DR xs i c v c2) (ob:=[Ref (fT i xs) (.bool true),Ref (fT i xs) (.bool true),Ref (.cptr ((aM xs).getD i []) 0) (.cptr [.i6 (xs.getD i 0:Int)] 0),0<=(i:Int),(i:Int)<((aM xs).length:Int),Ref (uT c xs i) (.i6 ((c+xs.getD i 0:Nat):Int)),Ref (jG i ys) (.bool false),Ref (.i6 (((c+xs.getD i 0:Nat):Int).tmod (10000:Int))) (.i6 (v:Int)),(10000:Int)≠0,1=1,m=(aM ds).length,(m+1)*8<=140737488355328,m+1<=big,Ref (.i6 (IntKind.i64.wrap (((c+xs.getD i 0:Nat):Int).tdiv (10000:Int)))) (.i6 (c2:Int)),(10000:Int)≠0,Ref (oI i) (.i6 ((i+1:Nat):Int))]) (by decide) (by kernel_rfl)
   (.cons (Ref.bool (decide_eq_true h1)) (.cons (Ref.bool (decide_eq_true h1)) (.cons (Ref.cd64 o.1) (.cons (Int.natCast_nonneg _) (.cons (o.2.1) (.cons ((Ref.wr o.2.2.1).trans (Ref.int (by first | rfl | omega | simp))) (.cons (Ref.bool (decide_eq_false h2)) (.cons (o.2.2.2.1) (.cons (by decide) (.cons (rfl) (.cons (o.2.2.2.2.1) (.cons (o.2.2.2.2.2.1) (.cons (o.2.2.2.2.2.2.1) (.cons (o.2.2.2.2.2.2.2.1) (.cons (by decide) (.cons ((Ref.wr o.2.2.2.2.2.2.2.2).trans (Ref.int (by first | rfl | omega | simp))) (AllP.nil))))))))))))))))) hg
theorem HI (xs ys ds:List Nat) (m c i c2 v:Nat) (h1:¬ ((i:Int)<((aM xs).length:Int))) (h2:(i:Int)<((aM ys).length:Int)) (o:(i<ys.length)/\((i:Int)<((aM ys).length:Int))/\(-9223372036854775808<=(c:Int)+(ys.getD i 0:Int)/\(c:Int)+(ys.getD i 0:Int)<=9223372036854775807)/\(Ref (.i6 (((c+ys.getD i 0:Nat):Int).tmod (10000:Int))) (.i6 (v:Int)))/\(m=(aM ds).length)/\((m+1)*8<=140737488355328)/\(m+1<=big)/\(Ref (.i6 (IntKind.i64.wrap (((c+ys.getD i 0:Nat):Int).tdiv (10000:Int)))) (.i6 (c2:Int)))/\(-9223372036854775808<=(i:Int)+(1:Int)/\(i:Int)+(1:Int)<=9223372036854775807))
   (hg:Good Tryz.prog 292 S0 C0 w0 Post (fS Tryz.f292) ⟨slots 52 (AC xs ys m c2 i),[some ⟨3,1,true,((aM ds)++ [[(AV.int .i64 (v:Int))]]),none⟩]⟩):
   Good Tryz.prog 292 S0 C0 w0 Post (fS Tryz.f292) ⟨slots 52 (AD xs ys m c i),[some ⟨3,1,true,(aM ds),none⟩]⟩:=
 tR mixed aT fG 28 none [0,1,4,5,6,7] [2] (HB ys i c v c2) (ob:=[Ref (fT i xs) (.bool false),Ref (jG i ys) (.bool true),Ref (fT i xs) (.bool false),Ref (jG i ys) (.bool true),Ref (.cptr ((aM ys).getD i []) 0) (.cptr [.i6 (ys.getD i 0:Int)] 0),0<=(i:Int),(i:Int)<((aM ys).length:Int),Ref (.i6 (IntKind.i64.wrap ((c:Int)+(ys.getD i 0:Int)))) (.i6 ((c+ys.getD i 0:Nat):Int)),Ref (.i6 (((c+ys.getD i 0:Nat):Int).tmod (10000:Int))) (.i6 (v:Int)),(10000:Int)≠0,1=1,m=(aM ds).length,(m+1)*8<=140737488355328,m+1<=big,Ref (.i6 (IntKind.i64.wrap (((c+ys.getD i 0:Nat):Int).tdiv (10000:Int)))) (.i6 (c2:Int)),(10000:Int)≠0,Ref (oI i) (.i6 ((i+1:Nat):Int))]) (by decide) (by kernel_rfl)
   (.cons (Ref.bool (decide_eq_false h1)) (.cons (Ref.bool (decide_eq_true h2)) (.cons (Ref.bool (decide_eq_false h1)) (.cons (Ref.bool (decide_eq_true h2)) (.cons (Ref.cd64 o.1) (.cons (Int.natCast_nonneg _) (.cons (o.2.1) (.cons ((Ref.wr o.2.2.1).trans (Ref.int (by first | rfl | omega | simp))) (.cons (o.2.2.2.1) (.cons (by decide) (.cons (rfl) (.cons (o.2.2.2.2.1) (.cons (o.2.2.2.2.2.1) (.cons (o.2.2.2.2.2.2.1) (.cons (o.2.2.2.2.2.2.2.1) (.cons (by decide) (.cons ((Ref.wr o.2.2.2.2.2.2.2.2).trans (Ref.int (by first | rfl | omega | simp))) (AllP.nil)))))))))))))))))) hg
theorem HJ (xs ys ds:List Nat) (m c i c2 v:Nat) (h1:¬ ((i:Int)<((aM xs).length:Int))) (h2:¬ ((i:Int)<((aM ys).length:Int))) (h3:(0:Int)<(c:Int)) (o:(Ref (.i6 ((c:Int).tmod (10000:Int))) (.i6 (v:Int)))/\(m=(aM ds).length)/\((m+1)*8<=140737488355328)/\(m+1<=big)/\(Ref (.i6 (IntKind.i64.wrap ((c:Int).tdiv (10000:Int)))) (.i6 (c2:Int)))/\(-9223372036854775808<=(i:Int)+(1:Int)/\(i:Int)+(1:Int)<=9223372036854775807))
   (hg:Good Tryz.prog 292 S0 C0 w0 Post (fS Tryz.f292) ⟨slots 52 (AC xs ys m c2 i),[some ⟨3,1,true,((aM ds)++ [[(AV.int .i64 (v:Int))]]),none⟩]⟩):
   Good Tryz.prog 292 S0 C0 w0 Post (fS Tryz.f292) ⟨slots 52 (AD xs ys m c i),[some ⟨3,1,true,(aM ds),none⟩]⟩:=
 tR mixed aT fG 28 none [0,1,4,5,6,7] [2] (DS v c2 i) (ob:=[Ref (fT i xs) (.bool false),Ref (jG i ys) (.bool false),Ref (.bool (decide ((0:Int)<(c:Int)))) (.bool true),Ref (fT i xs) (.bool false),Ref (jG i ys) (.bool false),Ref (.i6 ((c:Int).tmod (10000:Int))) (.i6 (v:Int)),(10000:Int)≠0,1=1,m=(aM ds).length,(m+1)*8<=140737488355328,m+1<=big,Ref (.i6 (IntKind.i64.wrap ((c:Int).tdiv (10000:Int)))) (.i6 (c2:Int)),(10000:Int)≠0,Ref (oI i) (.i6 ((i+1:Nat):Int))]) (by decide) (by kernel_rfl)
   (.cons (Ref.bool (decide_eq_false h1)) (.cons (Ref.bool (decide_eq_false h2)) (.cons (Ref.bool (decide_eq_true h3)) (.cons (Ref.bool (decide_eq_false h1)) (.cons (Ref.bool (decide_eq_false h2)) (.cons (o.1) (.cons (by decide) (.cons (rfl) (.cons (o.2.1) (.cons (o.2.2.1) (.cons (o.2.2.2.1) (.cons (o.2.2.2.2.1) (.cons (by decide) (.cons ((Ref.wr o.2.2.2.2.2).trans (Ref.int (by first | rfl | omega | simp))) (AllP.nil))))))))))))))) hg
end
def Rc:KF
 | [.dig n B,.dig m C]=>some (.dig (n+m) (max B C+1),[max B C+100<=LIM])
 | _=>none
theorem AF (s:Nat):Ref (.i6 (((s:Nat):Int).tmod (10000:Int))) (.i6 ((s % 10000:Nat):Int)):=Ref.int (Int.ofNat_tmod s 10000).symm
theorem AG {s:Nat} (h:s<40000):Ref (.i6 (IntKind.i64.wrap (((s:Nat):Int).tdiv (10000:Int)))) (.i6 ((s/10000:Nat):Int)):=Ref.int (by
 rw[show((s:Nat):Int).tdiv (10000:Int)=((s/10000:Nat):Int) from(Int.ofNat_tdiv s 10000).symm]
 exact qW ⟨by show(-9223372036854775808:Int)<=_;omega,by show _<=(9223372036854775807:Int);omega⟩)
theorem Dig.of_ge {b:Nat} {ds:List Nat} (hb:0<b) (h:∀ x∈ds,x<b) (hg:b^(ds.length-1)<=aH b ds):Dig b ds:=by
 have:=Dig.take (k:=ds.length) h (rl _) (by
   rcases Nat.eq_zero_or_pos ds.length with e | e
   · exact .inl e
   · right
     intro hz;have h1:=aQ b ds (ds.length-1);rw[hz,Nat.mul_zero,Nat.add_zero,show ds.length-1+1=ds.length by omega,fQ (rl _)] at h1;have h2:=dI hb (xs:=ds.take (ds.length-1)) fun x hx=>h x (List.mem_of_mem_take hx)
     rw[List.length_take,Nat.min_eq_left (by omega)] at h2
     omega)
 rwa [fQ (rl _)] at this
section
variable {S:Nat->Prop} {w0:World}
noncomputable abbrev Kv:List Item:=[.code (aN [1,1,1,0,1,0,0] (aA Tryz.f292)),.inLoop (aN [1,1,1,0,1,0,0] (aA Tryz.f292)),.inBlock 0,.code (aN [1,1,1,1] (aA Tryz.f292))]
theorem HK {xs ys ds:List Nat} {N B:Nat} (i:Nat) (hd:ds.length=i) (hD:Dig b10k ds) (hN:aH b10k ds=N) (hB:N<2^B) (h1:¬ ((i:Nat):Int)<(((aM xs).length:Nat):Int)) (h2:¬ ((i:Nat):Int)<(((aM ys).length:Nat):Int)):
   GF 292 S w0 (.dig N B) Kv ⟨slots 52 [(0,.list 1 (aM xs)),(1,.list 1 (aM ys)),(5,Gl ds),(6,.i6 ((0:Nat):Int)),(7,.i6 ((i:Nat):Int))],Gm ds⟩:=by
 have h3:¬ (0:Int)<((0:Nat):Int):=by omega
 have hr:Ref (.list 1 (aM ds)) (.dig N B):=Ref.dig hD hN hB;cases ds with
 | nil=>
   refine rF fG [(12,ff),(18,ff),(21,ff),(51,.list 1 (aM []))] (.a4 (iF h1) (iF h2) (iF h3) (show Ref AV.nil (.list 1 (aM [])) from Ref.nilL)) (V:=.list 1 (aM [])) hr
 | cons d ds=>
   refine gN fG [4] [(12,ff),(18,ff),(21,ff)] (.a3 (iF h1) (iF h2) (iF h3)) (t:=[.code .ret]) (σ:=slots 52 [(4,.own 0 1 0 (ds.length+1))]) (h:=[some ⟨3,1,true,(aM (d::ds)),none⟩]) ?_
   refine Good.freezeD (b:=⟨3,1,true,aM (d::ds),none⟩) 0 (by rfl) (by rfl) (AllP.of_eq (l':=[0+(ds.length+1)<=(aM (d::ds)).length]) (by kernel_rfl) (.cons (by rw[aI];simp) .nil)) .on ?_
   exact bP aT (fn:=Tryz.f292) (by kernel_rfl) 4 (by kernel_rfl) rfl (by rfl) (by
     show Ref (.list 1 (((aM (d::ds)).drop 0).take (ds.length+1))) _
     rw[List.drop_zero,fQ (by rw[aI];simp)];exact hr)
theorem Kw {xs ys:List Nat} {N B M:Nat} (dx:Dig b10k xs) (dy:Dig b10k ys) (hM:M=max xs.length ys.length) (hbig:M+2<=17592186044416)
   (hN:aH b10k xs+aH b10k ys=N) (hB:N<2^B):∀ (j i c:Nat) (ds:List Nat),i+j=M+1->c<=1->(j=0->c=0/\b10k^(i-1)<=N)->ds.length=i->(∀ x∈ds,x<b10k)->
   aH b10k ds+b10k^i*c=aH b10k (xs.take i)+aH b10k (ys.take i)->
   GF 292 S w0 (.dig N B) Kv ⟨slots 52 [(0,.list 1 (aM xs)),(1,.list 1 (aM ys)),(5,Gl ds),(6,.i6 ((c:Nat):Int)),(7,.i6 ((i:Nat):Int))],Gm ds⟩:=by
 have fb:b10k=10000:=rfl;have hx:=dx.1;have hy:=dy.1;have lx:(aM xs).length=xs.length:=aI;have ly:(aM ys).length=ys.length:=aI;intro j
 induction j with
 | zero=>
   intro i c ds hij hc h0 hd hdl hinv;obtain⟨rfl,hge⟩:=h0 rfl;rw[Nat.mul_zero,Nat.add_zero,fQ (by omega),fQ (by omega),hN] at hinv;exact HK i hd (Dig.of_ge (by decide) hdl (by rw[hd,hinv];exact hge)) hinv hB (by rw[lx];omega) (by rw[ly];omega)
 | succ j ih =>
   intro i c ds hij hc h0 hd hdl hinv;clear h0;have hx1:=aY (b:=b10k) (by decide) hx i;have hy1:=aY (b:=b10k) (by decide) hy i;rw[fb] at hx1 hy1;have sx:=aQ b10k xs i;have sy:=aQ b10k ys i
   have nx:∀ (s:Nat),s=c+xs.getD i 0+ys.getD i 0->(j=0->s=1/\b10k^i<=N)->
       GF 292 S w0 (.dig N B) Kv ⟨slots 52 [(0,.list 1 (aM xs)),(1,.list 1 (aM ys)),(5,.own 0 1 0 (ds.length+1)),(6,.i6 ((s/10000:Nat):Int)),(7,.i6 ((i+1:Nat):Int))],[some ⟨3,1,true,(aM (ds++ [s % 10000])),none⟩]⟩:=by
     intro s hs hj;have hv:s % 10000<10000:=Nat.mod_lt _ (by decide);have hdm:s % 10000+10000*(s/10000)=s:=Nat.mod_add_div s 10000
     have:=ih (i+1) (s/10000) (ds++ [s % 10000]) (by omega) (by omega) (fun h=>⟨by rw[(hj h).1],by rw[Nat.add_sub_cancel];exact(hj h).2⟩) (by simp[hd]) (rD hdl hv) (by
       rw[iM,hd,sx,sy,Nat.pow_succ,fb];rw[fb] at hinv
       have e:10000^i*(s % 10000)+10000^i*10000*(s/10000)=10000^i*s:=by
         rw[Nat.mul_assoc, <- Nat.mul_add,hdm]
       have e2:10000^i*s=10000^i*c+10000^i*xs.getD i 0+10000^i*ys.getD i 0:=by rw[hs,Nat.mul_add,Nat.mul_add]
       omega)
     rw[zG,zI] at this;exact this
   have rg:∀ s:Nat,s<40000-> -9223372036854775808<=((s:Nat):Int)/\((s:Nat):Int)<=9223372036854775807:=fun s h=>⟨by omega,by omega⟩
   have ri: -9223372036854775808<=((i:Nat):Int)+(1:Int)/\((i:Nat):Int)+(1:Int)<=9223372036854775807:=⟨by omega,by omega⟩;have b1:1<=big:=by decide
   have o1:∀ k,(aM ds).length=k->k=i:=fun k h=>by rw[<- h,aI];exact hd
   have E:∀ v:Nat,(aM ds)++ [[(AV.int .i64 ((v:Nat):Int))]]=aM (ds++ [v]):=fun v=>wE ds v
   by_cases hxl:i<xs.length
   · have jx:((i:Nat):Int)<(((aM xs).length:Nat):Int):=by rw[lx];omega
     have m1:=rg (c+xs.getD i 0) (by omega)
     by_cases hyl:i<ys.length
     · have jy:((i:Nat):Int)<(((aM ys).length:Nat):Int):=by rw[ly];omega
       have m2:=rg (c+xs.getD i 0+ys.getD i 0) (by omega);have G:=nx _ rfl (fun h=>by omega);have q1:=AF (c+xs.getD i 0+ys.getD i 0);have q2:=AG (s:=c+xs.getD i 0+ys.getD i 0) (by omega);cases ds with
       | nil=>exact HC xs ys c i _ _ jx jy ⟨hxl,jx,m1,hyl,jy,m2,q1,by decide,b1,q2,ri⟩ G
       | cons d ds=>exact HG xs ys (d::ds) (ds.length+1) c i _ _ jx jy ⟨hxl,jx,m1,hyl,jy,m2,q1,by rw[aI];simp,by simp at hd;omega,by simp at hd;unfold big;omega,q2,ri⟩ (by rw[E];exact G)
     · have jy:¬ ((i:Nat):Int)<(((aM ys).length:Nat):Int):=by rw[ly];omega
       have hz:ys.getD i 0=0:=by simp[mQ,Nat.le_of_not_lt hyl]
       have G:=nx (c+xs.getD i 0) (by omega) (fun h=>by omega);have q1:=AF (c+xs.getD i 0);have q2:=AG (s:=c+xs.getD i 0) (by omega);cases ds with
       | nil=>exact HD xs ys c i _ _ jx jy ⟨hxl,jx,m1,q1,by decide,b1,q2,ri⟩ G
       | cons d ds=>exact HH xs ys (d::ds) (ds.length+1) c i _ _ jx jy ⟨hxl,jx,m1,q1,by rw[aI];simp,by simp at hd;omega,by simp at hd;unfold big;omega,q2,ri⟩ (by rw[E];exact G)
   · have jx :¬ ((i:Nat):Int)<(((aM xs).length:Nat):Int):=by rw[lx];omega
     have hz:xs.getD i 0=0:=by simp[mQ,Nat.le_of_not_lt hxl]
     by_cases hyl:i<ys.length
     · have jy:((i:Nat):Int)<(((aM ys).length:Nat):Int):=by rw[ly];omega
       have m1:=rg (c+ys.getD i 0) (by omega);have G:=nx (c+ys.getD i 0) (by omega) (fun h=>by omega);have q1:=AF (c+ys.getD i 0);have q2:=AG (s:=c+ys.getD i 0) (by omega);cases ds with
       | nil=>exact HE xs ys c i _ _ jx jy ⟨hyl,jy,m1,q1,by decide,b1,q2,ri⟩ G
       | cons d ds=>exact HI xs ys (d::ds) (ds.length+1) c i _ _ jx jy ⟨hyl,jy,m1,q1,by rw[aI];simp,by simp at hd;omega,by simp at hd;unfold big;omega,q2,ri⟩ (by rw[E];exact G)
     · have jy:¬ ((i:Nat):Int)<(((aM ys).length:Nat):Int):=by rw[ly];omega
       have hz2:ys.getD i 0=0:=by simp[mQ,Nat.le_of_not_lt hyl]
       rw[fQ (by omega),fQ (by omega),hN] at hinv;rcases Nat.eq_zero_or_pos c with h | h
       · subst h
         rw[Nat.mul_zero,Nat.add_zero] at hinv;refine HK i hd ?_ hinv hB jx jy;rcases Nat.eq_zero_or_pos M with hM0 | hM0
         · have:ds= []:=List.eq_nil_of_length_eq_zero (by omega)
           subst this;exact⟨by simp,by simp⟩
         · refine Dig.of_ge (by decide) hdl ?_
           rw[hd,hinv,show i=M by omega];rcases(om (xs.length=M\/ys.length=M)) with h | h
           · have:=dx.low (by decide) (fun e=>by rw[e] at h;simp at h;omega)
             rw[h] at this;omega
           · have:=dy.low (by decide) (fun e=>by rw[e] at h;simp at h;omega)
             rw[h] at this;omega
       · have hc1:c=1:=by omega
         subst hc1;have jc:(0:Int)<((1:Nat):Int):=by omega
         have G:=nx 1 (by omega) (fun h=>⟨rfl,by rw[Nat.mul_one] at hinv;omega⟩);have q1:=AF 1;have q2:=AG (s:=1) (by omega);cases ds with
         | nil=>exact HF xs ys 1 i _ _ jx jy jc ⟨q1,by decide,b1,q2,ri⟩ G
         | cons d ds=>exact HJ xs ys (d::ds) (ds.length+1) 1 i _ _ jx jy jc ⟨q1,by rw[aI];simp,by simp at hd;omega,by simp at hd;unfold big;omega,q2,ri⟩ (by rw[E];exact G)
theorem Uh:bQ 292 Rc:=fun args r ob h ho=>by
 unfold Rc at h
 split at h
 · rename_i n B m C
   cases h;have hL:max B C+100<=LIM:=ho _ (by simp);unfold LIM at hL;obtain⟨hx,hxn⟩:=aO (b:=b10k) (by decide) n;obtain⟨hy,hyn⟩:=aO (b:=b10k) (by decide) m;refine af Tryz.f292 fun S w0=> ?_
   refine Good.fact (V:=.dig n B) (p:=n<2^B) 0 rfl rfl (fun ρ S w D v hv=>qX (show RelCs ρ S w D [.dig n B] [v] from hv)) fun hn=> ?_
   refine Good.fact (V:=.dig m C) (p:=m<2^C) 1 rfl rfl (fun ρ S w D v hv=>qX (show RelCs ρ S w D [.dig m C] [v] from hv)) fun hm=> ?_
   refine Good.weak 52 [(0,.list 1 (aM (aC b10k n))),(1,.list 1 (aM (aC b10k m)))] (by kernel_rfl) (.cons Ref.opnd (.cons Ref.opnd .nil)) ?_;have l1:=hx.len10 (by rw[hxn];exact hn);have l2:=hy.len10 (by rw[hyn];exact hm)
   have hB:n+m<2^(max B C+1):=by
     have:=Nat.pow_le_pow_right (n:=2) (by decide) (Nat.le_max_left B C)
     have:=Nat.pow_le_pow_right (n:=2) (by decide) (Nat.le_max_right B C);rw[Nat.pow_succ];omega
   generalize aC b10k n=xs at*;generalize aC b10k m=ys at*;subst hxn;subst hyn;refine gN fG [0,1,4,5,6,7] [] .nil (t:=Kv) (σ:=slots 52 [(0,.list 1 (aM xs)),(1,.list 1 (aM ys)),(4,.nil),(5,.nil),(6,.i6 (0:Int)),(7,.i6 (0:Int))]) (h:=[]) ?_
   refine Good.weak 52 [(0,_),(1,_),(5,_),(6,_),(7,_)] (by kernel_rfl) (.r (.r (.r (.r (.r .nil))))) ?_;exact Kw hx hy rfl (by omega) rfl hB _ 0 0 [] (Nat.zero_add _) (by omega) (fun h=>by omega) rfl (by simp) (by simp[aH])
 · cases h
end
def Rd:KF
 | [.agg [.rz n B],.agg [.rz m C]]=>some (.agg [.rz (n+m) (max B C+1)],[max B C+100<=LIM])
 | _=>none
theorem Ui:bQ 241 Rd:=by
 refine cK Tryz.f241 fun _ _ _ S w0 h ho=> ?_
 unfold Rd at h;split at h <;> cases h;rename_i n B m C;have o1:=ho.one;have L:=dR;have K:=(((kn.cons PC).cons Pu).cons JU).cons Uh;rcases Bool.eq_false_or_eq_true ((decide (n<0))==(decide (m<0))) with h1 | h1
 · exact rF K [(9,tt)] (.a2 (show Ref (.bool ((decide (n<0))==(decide (m<0)))) (.bool true) from Ref.bool h1) o1) (V:=.agg [.rz (iL (decide (n<0)) (n.natAbs+m.natAbs)) (max B C+1)]) (Ref.agg (RefC.rz_eq (BL h1) (by omega)))
 · have v0:Ref (.bool ((decide (n<0))==(decide (m<0)))) (.bool false):=Ref.bool h1
   by_cases h2:(0:Int)<=(gY n.natAbs m.natAbs)
   · exact rF K [(9,ff),(23,tt)] (.a4 v0 (iT h2) (show m.natAbs<=n.natAbs by first | omega | exact bM.1 h2 | exact Nat.le_of_lt (Nat.lt_of_not_le fun h=>h2 (bM.2 h))) (show B<=LIM by first | omega | exact bM.1 h2 | exact Nat.le_of_lt (Nat.lt_of_not_le fun h=>h2 (bM.2 h)))) (V:=.agg [.rz (iL (decide (n<0)) (n.natAbs-m.natAbs)) B]) (Ref.agg (RefC.rz_eq (rK h1 (bM.1 h2)) (by omega)))
   · refine rF K [(9,ff),(23,ff)] (.a4 v0 (iF h2) (show n.natAbs<=m.natAbs by first | omega | exact bM.1 h2 | exact Nat.le_of_lt (Nat.lt_of_not_le fun h=>h2 (bM.2 h))) (show C<=LIM by first | omega | exact bM.1 h2 | exact Nat.le_of_lt (Nat.lt_of_not_le fun h=>h2 (bM.2 h)))) (V:=.agg [.rz (iL (decide (m<0)) (m.natAbs-n.natAbs)) C]) ?_
     rw[Int.add_comm n m];exact Ref.agg (RefC.rz_eq (rK (by rw[<- h1];exact BEq.comm) (Nat.le_of_lt (Nat.lt_of_not_le fun h=>h2 (bM.2 h)))) (by omega))
def Re:KF
 | [.agg [.rq x d B],.agg [.rq y e C]]=>some (.agg [.rq (x+y) (x+y).den (max B 64+max C 64+1)],[d=x.den,e=y.den,max B 64+max C 64+max B 64+max C 64+500<=LIM])
 | _=>none
theorem HL:bQ 167 Re:=by
 refine cK Tryz.f167 fun _ _ _ S w0 h ho=> ?_
 unfold Re at h;split at h <;> cases h;rename_i x d B y e C;obtain⟨o1,o2,o3⟩:=ho.e3;have L:=dR;have K:=(((kn.cons JV).cons Ui).cons MF).cons JW;have hx:=x.den_nz;have hy:=y.den_nz;have ix:=rT x;have iy:=rT y;have kx:((x.den:Int):Rat)≠0:=fun h=>by have:=Rat.intCast_eq_zero_iff.1 h;omega
 have ky:((y.den:Int):Rat)≠0:=fun h=>by have:=Rat.intCast_eq_zero_iff.1 h;omega
 have hm:((d:Nat):Int)*((e:Nat):Int)≠0:=Int.mul_ne_zero (by omega) (by omega);have hq:(Int.cast (x.num*((e:Nat):Int)+y.num*((d:Nat):Int)):Rat)/(Int.cast (((d:Nat):Int)*((e:Nat):Int)):Rat)=x+y:=by rw[o1,o2,Rat.intCast_add,Rat.intCast_mul,Rat.intCast_mul,Rat.intCast_mul];grind
 have v0:e≠0:=by first | omega | assumption
 have v1:d≠0:=by first | omega | assumption
 refine rF K [] (.c6 v0 (show B+(max C 64)+128<=LIM by first | omega | assumption) v1 (show C+(max B 64)+128<=LIM by first | omega | assumption) (show max (B+(max C 64)) (C+(max B 64))+100<=LIM by first | omega | assumption) v1 (.a4 v0 (show(max B 64)+(max C 64)+128<=LIM by first | omega | assumption) hm (show max (max (B+(max C 64)) (C+(max B 64))+1) ((max B 64)+(max C 64))+max (max (B+(max C 64)) (C+(max B 64))+1) ((max B 64)+(max C 64))+300<=LIM by first | omega | assumption))) (V:=.agg [.rq ((Int.cast ((x.num*(e:Int))+(y.num*(d:Int))):Rat)/(Int.cast ((d:Int)*(e:Int)):Rat)) (((Int.cast ((x.num*(e:Int))+(y.num*(d:Int))):Rat)/(Int.cast ((d:Int)*(e:Int)):Rat)).den) (max (max (B+(max C 64)) (C+(max B 64))+1) ((max B 64)+(max C 64)))]) ?_
 rw[hq];exact Ref.agg (RefC.rq_le (by omega))
def Rf:KF
 | [.agg [.rq x d B],.agg [.rq y e C]]=>some (.agg [.rq (x-y) (x-y).den (max B 64+max C 64+1)],[d=x.den,e=y.den,max B 64+max C 64+max B 64+max C 64+500<=LIM])
 | _=>none
theorem Kx:bQ 183 Rf:=by
 refine cK Tryz.f183 fun _ _ _ S w0 h ho=> ?_
 unfold Rf at h;split at h <;> cases h;rename_i x d B y e C;obtain⟨o1,o2,o3⟩:=ho.e3;have L:=dR;have K:=(kn.cons HL).cons QS;refine rF K [] (.a4 o2 o1 (show y.den=(-y).den by first | assumption | omega | rfl) (show max B 64+max (max C 64) 64+max B 64+max (max C 64) 64+500<=LIM by first | assumption | omega | rfl)) (V:=.agg [.rq (x+(-y)) ((x+(-y)).den) (max B 64+max (max C 64) 64+1)]) ?_
 rw[<- Rat.sub_eq_add_neg];exact Ref.agg (RefC.rq_le (by omega))
def Rg:KF
 | [.agg [.rq t d B]]=>some (.agg [.rq (cQ t) (cQ t).den (8*max B 64+500),.rq (bN t) (bN t).den (8*max B 64+500)],[d=t.den,40*max B 64+5000<=LIM])
 | _=>none
theorem Uj:bQ 172 Rg:=by
 refine cK Tryz.f172 fun _ _ _ S w0 h ho=> ?_
 unfold Rg at h;split at h <;> cases h;rename_i t d B;obtain⟨o1,o2⟩:=ho.e2;have L:=dR;have K:=((((kn.cons TQ).cons Kx).cons HL).cons QP).cons JX;have v0:max 64 64+max (max B 64+max B 64) 64+max 64 64+max (max B 64+max B 64) 64+500<=LIM:=by first | assumption | rfl | exact iD t | omega
 have v1:(((Int.cast 1:Rat)+(t*t)).den)=((Int.cast 1:Rat)+(t*t)).den:=by first | assumption | rfl | exact iD t | omega
 have v2:((Int.cast 1:Rat)+(t*t))≠0:=by first | assumption | rfl | exact iD t | omega
 have v3:((t*t).den)=(t*t).den:=by first | assumption | rfl | exact iD t | omega
 have v4:1=(Int.cast 1:Rat).den:=by first | assumption | rfl | exact iD t | omega
 have v5:(-9223372036854775808:Int)<=1:=by decide
 have v6:1<=(9223372036854775807:Int):=by decide
 refine rF K [] (.c6 o1 o1 (show max B 64+max B 64+(max B 64+max B 64)+300<=LIM by first | assumption | rfl | exact iD t | omega) v5 v6 v4 (.c6 v3 v0 v5 v6 v4 v3 (.c6 v0 (show(((Int.cast 1:Rat)-(t*t)).den)=((Int.cast 1:Rat)-(t*t)).den by first | assumption | rfl | exact iD t | omega) v1 v2 (show max (max 64 64+max (max B 64+max B 64) 64+1) 64+max (max 64 64+max (max B 64+max B 64) 64+1) 64+max (max 64 64+max (max B 64+max B 64) 64+1) 64+max (max 64 64+max (max B 64+max B 64) 64+1) 64+500<=LIM by first | assumption | rfl | exact iD t | omega) (dc ((-9223372036854775808:Int)<=2)) (.c6 (dc (2<=(9223372036854775807:Int))) (show 1=(Int.cast 2:Rat).den by first | assumption | rfl | exact iD t | omega) o1 (show max 64 64+max B 64+(max 64 64+max B 64)+300<=LIM by first | assumption | rfl | exact iD t | omega) (show(((Int.cast 2:Rat)*t).den)=((Int.cast 2:Rat)*t).den by first | assumption | rfl | exact iD t | omega) v1 (.a2 v2 (show max (max 64 64+max B 64) 64+max (max 64 64+max (max B 64+max B 64) 64+1) 64+max (max 64 64+max B 64) 64+max (max 64 64+max (max B 64+max B 64) 64+1) 64+500<=LIM by first | assumption | rfl | exact iD t | omega)))))) (V:=.agg [.rq (((Int.cast 1:Rat)-(t*t))/((Int.cast 1:Rat)+(t*t))) ((((Int.cast 1:Rat)-(t*t))/((Int.cast 1:Rat)+(t*t))).den) (max (max 64 64+max (max B 64+max B 64) 64+1) 64+max (max 64 64+max (max B 64+max B 64) 64+1) 64),.rq (((Int.cast 2:Rat)*t)/((Int.cast 1:Rat)+(t*t))) ((((Int.cast 2:Rat)*t)/((Int.cast 1:Rat)+(t*t))).den) (max (max 64 64+max B 64) 64+max (max 64 64+max (max B 64+max B 64) 64+1) 64)]) ?_
 have e1:(Int.cast 1:Rat)=1:=rfl;have e2:(Int.cast 2:Rat)=2:=rfl;exact Ref.agg (RefC.cons (RefC.rq_e (by rw[e1];rfl) (by omega)) (RefC.rq_e (by rw[e1,e2];unfold bN;congr 1;grind) (by omega)))
def Rh:KF
 | [.agg [.rq c d X,.rq s e Z],.agg [.rq u f U,.rq w g W]]=>some (.agg [.rq (c*u-s*w) (c*u-s*w).den (max X 64+max Z 64+max U 64+max W 64+1),.rq (s*u+c*w) (s*u+c*w).den (max X 64+max Z 64+max U 64+max W 64+1)],[d=c.den,e=s.den,f=u.den,g=w.den,8*max X 64+8*max Z 64+8*max U 64+8*max W 64+2000<=LIM])
 | _=>none
theorem Uk:bQ 173 Rh:=by
 refine cK Tryz.f173 fun _ _ _ S w0 h ho=> ?_
 unfold Rh at h;split at h <;> cases h;rename_i c d X s e Z u f U w g W;obtain⟨o1,o2,o3,o4,o5⟩:=ho.e5;have L:=dR;have K:=((kn.cons HL).cons Kx).cons JX;exact rF K [] (.c6 o1 o3 (show max X 64+max U 64+(max X 64+max U 64)+300<=LIM by first | assumption | rfl | omega) o2 o4 (show max Z 64+max W 64+(max Z 64+max W 64)+300<=LIM by first | assumption | rfl | omega) (.c6 (show((c*u).den)=(c*u).den by first | assumption | rfl | omega) (show((s*w).den)=(s*w).den by first | assumption | rfl | omega) (show max (max X 64+max U 64) 64+max (max Z 64+max W 64) 64+max (max X 64+max U 64) 64+max (max Z 64+max W 64) 64+500<=LIM by first | assumption | rfl | omega) o2 o3 (show max Z 64+max U 64+(max Z 64+max U 64)+300<=LIM by first | assumption | rfl | omega) (.a6 o1 o4 (show max X 64+max W 64+(max X 64+max W 64)+300<=LIM by first | assumption | rfl | omega) (show((s*u).den)=(s*u).den by first | assumption | rfl | omega) (show((c*w).den)=(c*w).den by first | assumption | rfl | omega) (show max (max Z 64+max U 64) 64+max (max X 64+max W 64) 64+max (max Z 64+max U 64) 64+max (max X 64+max W 64) 64+500<=LIM by first | assumption | rfl | omega)))) (V:=.agg [.rq ((c*u)-(s*w)) (((c*u)-(s*w)).den) (max (max X 64+max U 64) 64+max (max Z 64+max W 64) 64+1),.rq ((s*u)+(c*w)) (((s*u)+(c*w)).den) (max (max Z 64+max U 64) 64+max (max X 64+max W 64) 64+1)]) (Ref.agg (RefC.cons (RefC.rq_le (by omega)) (RefC.rq_le (by omega))))
def Ri:KF
 | [.agg [.rq x d X,.rq z e Z],.agg [.rq u f U,.rq w g W]]=>some (.agg [.rq (x+u) (x+u).den (max X 64+max U 64+1),.rq (z+w) (z+w).den (max Z 64+max W 64+1)],[d=x.den,e=z.den,f=u.den,g=w.den,4*max X 64+4*max Z 64+4*max U 64+4*max W 64+2000<=LIM])
 | _=>none
theorem Ul:bQ 168 Ri:=by
 refine cK Tryz.f168 fun _ _ _ S w0 h ho=> ?_
 unfold Ri at h;split at h <;> cases h;rename_i x d X z e Z u f U w g W;obtain⟨o1,o2,o3,o4,o5⟩:=ho.e5;have L:=dR;have K:=kn.cons HL;exact rF K [] (.a6 o1 o3 (show max X 64+max U 64+max X 64+max U 64+500<=LIM by first | assumption | rfl | omega) o2 o4 (show max Z 64+max W 64+max Z 64+max W 64+500<=LIM by first | assumption | rfl | omega)) (V:=.agg [.rq (x+u) ((x+u).den) (max X 64+max U 64+1),.rq (z+w) ((z+w).den) (max Z 64+max W 64+1)]) (Ref.agg (RefC.cons (RefC.rq_le (by omega)) (RefC.rq_le (by omega))))
def Rj:KF
 | [.agg [.rq x d X,.rq z e Z],.agg [.rq c f U,.rq s g W]]=>some (.agg [.rq (c*x-s*z) (c*x-s*z).den (max X 64+max Z 64+max U 64+max W 64+1),.rq (s*x+c*z) (s*x+c*z).den (max X 64+max Z 64+max U 64+max W 64+1)],[d=x.den,e=z.den,f=c.den,g=s.den,8*max X 64+8*max Z 64+8*max U 64+8*max W 64+2000<=LIM])
 | _=>none
theorem Um:bQ 175 Rj:=by
 refine cK Tryz.f175 fun _ _ _ S w0 h ho=> ?_
 unfold Rj at h;split at h <;> cases h;rename_i x d X z e Z c f U s g W;obtain⟨o1,o2,o3,o4,o5⟩:=ho.e5;have L:=dR;have K:=((kn.cons HL).cons Kx).cons JX;exact rF K [] (.c6 o3 o1 (show max U 64+max X 64+(max U 64+max X 64)+300<=LIM by first | assumption | rfl | omega) o4 o2 (show max W 64+max Z 64+(max W 64+max Z 64)+300<=LIM by first | assumption | rfl | omega) (.c6 (show((c*x).den)=(c*x).den by first | assumption | rfl | omega) (show((s*z).den)=(s*z).den by first | assumption | rfl | omega) (show max (max U 64+max X 64) 64+max (max W 64+max Z 64) 64+max (max U 64+max X 64) 64+max (max W 64+max Z 64) 64+500<=LIM by first | assumption | rfl | omega) o4 o1 (show max W 64+max X 64+(max W 64+max X 64)+300<=LIM by first | assumption | rfl | omega) (.a6 o3 o2 (show max U 64+max Z 64+(max U 64+max Z 64)+300<=LIM by first | assumption | rfl | omega) (show((s*x).den)=(s*x).den by first | assumption | rfl | omega) (show((c*z).den)=(c*z).den by first | assumption | rfl | omega) (show max (max W 64+max X 64) 64+max (max U 64+max Z 64) 64+max (max W 64+max X 64) 64+max (max U 64+max Z 64) 64+500<=LIM by first | assumption | rfl | omega)))) (V:=.agg [.rq ((c*x)-(s*z)) (((c*x)-(s*z)).den) (max (max U 64+max X 64) 64+max (max W 64+max Z 64) 64+1),.rq ((s*x)+(c*z)) (((s*x)+(c*z)).den) (max (max W 64+max X 64) 64+max (max U 64+max Z 64) 64+1)]) (Ref.agg (RefC.cons (RefC.rq_le (by omega)) (RefC.rq_le (by omega))))
def VB:KF
 | [.agg [.rq ax d1 P,.rq az d2 Q,.rq c f U,.rq s g W],.agg [.rq x d X,.rq z e Z]]=>some (.agg [.rq (ax+(c*x-s*z)) (ax+(c*x-s*z)).den (max P 64+max X 64+max Z 64+max U 64+max W 64+1+1),.rq (az+(s*x+c*z)) (az+(s*x+c*z)).den (max Q 64+max X 64+max Z 64+max U 64+max W 64+1+1)],[d1=ax.den,d2=az.den,f=c.den,g=s.den,d=x.den,e=z.den,8*max X 64+8*max Z 64+8*max U 64+8*max W 64+8*max P 64+8*max Q 64+2000<=LIM])
 | _=>none
theorem VC:bQ 75 VB:=by
 refine cK Tryz.f75 fun _ _ _ S w0 h ho=> ?_
 unfold VB at h;split at h <;> cases h;rename_i ax d1 P az d2 Q c f U s g W x d X z e Z;obtain⟨o1,o2,o3,o4,o5,o6,o7⟩:=ho.e7;have L:=dR;have K:=(kn.cons Ul).cons Um;exact rF K [] (.c6 o5 o6 o3 o4 (show 8*max X 64+8*max Z 64+8*max U 64+8*max W 64+2000<=LIM by first | assumption | rfl | omega) o1 (.a4 o2 (show((c*x-s*z).den)=(c*x-s*z).den by first | assumption | rfl | omega) (show((s*x+c*z).den)=(s*x+c*z).den by first | assumption | rfl | omega) (show 4*max P 64+4*max Q 64+4*max (max X 64+max Z 64+max U 64+max W 64+1) 64+4*max (max X 64+max Z 64+max U 64+max W 64+1) 64+2000<=LIM by first | assumption | rfl | omega))) (V:=.agg [.rq (ax+(c*x-s*z)) ((ax+(c*x-s*z)).den) (max P 64+max (max X 64+max Z 64+max U 64+max W 64+1) 64+1),.rq (az+(s*x+c*z)) ((az+(s*x+c*z)).den) (max Q 64+max (max X 64+max Z 64+max U 64+max W 64+1) 64+1)]) (Ref.agg (RefC.cons (RefC.rq_le (by omega)) (RefC.rq_le (by omega))))
def rW:=((kn.cons VC).cons Uk).cons Uj
end Go.Av
