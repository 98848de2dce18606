/- PoseBent: a part of its proof. No condition. -/
import Derived.Test.YtbdhgnlabjmnoaaGreatK0
set_option linter.all false
set_option maxRecDepth 100000
set_option autoImplicit true
set_option relaxedAutoImplicit true
namespace Go.Av
open Go.RowKit
def NL (l:Nat):List Nat->Nat->Option Nat
 | [],_=>none
 | k::ks,i=>if k=l then some i else NL l ks (i+1)
theorem Dh:∀ {m:List Nat} {i j:Nat},NL l m i=some j->i<=j/\m[j-i]? =some l
 | [],_,_,h=>by simp[NL] at h
 | k ::ks,i,j,h=>by
   simp only[NL] at h
   split at h
   · rename_i e;injection h with h;subst h;subst e;simp
   · obtain⟨h1,h2⟩:=Dh h
     refine⟨by omega, ?_⟩;rw[show j-i=j-(i+1)+1 from by omega];simpa using h2
def sP (φ:Nat->Option Nat) (h:List (Option ABlk)):List Nat->List (Option ABlk)
 | []=>[]
 | k::ks=>((h[k]?).join.map (jB φ))::sP φ h ks
theorem lF:∀ {ks:List Nat} {j:Nat} {b:ABlk},(sP φ h ks)[j]? =some (some b)->∃ k c,ks[j]? =some k/\h[k]? =some (some c)/\b=jB φ c
 | [],j,b,e=>by simp[sP] at e
 | k::ks,0,b,e=>by
   simp only[sP,List.getElem?_cons_zero] at e;injection e with e;obtain⟨c,hc,e⟩:=Option.map_eq_some_iff.1 e;refine⟨k,c,rfl, ?_,e.symm⟩;cases hk:h[k]? with
   | none=>simp[hk] at hc
   | some x=>simp[hk] at hc;rw[hc]
 | k::ks,j+1,b,e=>by
   simp only[sP,List.getElem?_cons_succ] at e;obtain⟨k',c,h1,h2,h3⟩:=lF e;exact⟨k',c,by simpa using h1,h2,h3⟩
theorem tJ:∀ (ks:List Nat),(sP φ h ks).length=ks.length
 | []=>rfl
 | k::ks=>by simp[sP,tJ ks]
def at_ (m:List Nat):Nat->Option Nat:=fun l=>NL l m 0
section
theorem Good.ren (m:List Nat) (hnd:m.Nodup)
   (hg:Good P f S0 C0 w0 Post todo ⟨σ.map (eH (at_ m)),sP (at_ m) h m⟩):Good P f S0 C0 w0 Post todo ⟨σ,h⟩:=by
 refine hg.map fun ρ D a w R=>⟨fun j=>ρ (m.getD j 0),fun j=>∃ l,m[j]? =some l/\D l, ?_⟩
 have hm:∀ j l,at_ m l=some j->D l->(fun j=>ρ (m.getD j 0)) j=ρ l/\(∃ l,m[j]? =some l/\D l):=fun j l h hd=>by
   obtain⟨_,h⟩:=Dh h;simp only[Nat.sub_zero] at h;exact⟨by simp[List.getD_eq_getElem?_getD,h],l,h,hd⟩
 have hS:∀ k,Sof S0 (fun j=>ρ (m.getD j 0)) (sP (at_ m) h m) k->Sof S0 ρ h k:=by
   rintro k (h | ⟨j,b,hb,e⟩)
   · exact .inl h
   · obtain⟨l,c,h1,h2,_⟩:=lF hb
     exact .inr ⟨l,c,h2,by simpa[List.getD_eq_getElem?_getD,h1] using e⟩
 have hk:∀ D',Keep ρ (Sof S0 ρ h) w D' ρ (Sof S0 (fun j=>ρ (m.getD j 0)) (sP (at_ m) h m)) w:=fun D'=>⟨Nat.le_refl _,fun _ _=>⟨rfl,fun arr ty h=>⟨arr,ty,h,Nat.le_refl _⟩⟩,fun k _ hs=>⟨fun h=>hs (hS k h),rfl⟩⟩
 exact {
   defers:=R.defers
   len:=by rw[R.len];simp
   tmps:=fun t v hv=>by
     have h1:=RelV.ren hm ((R.tmps t v hv).keep (fun _ h=>h) (hk D))
     have e:(σ.map (eH (at_ m))).getD t .any=eH (at_ m) (σ.getD t .any):=by
       simp only[List.getD_eq_getElem?_getD,List.getElem?_map];cases σ[t]? <;> simp[eH]
     rw[e];exact h1
   heap:=fun j b hb=>by
     obtain⟨l,c,h1,h2,rfl⟩:=lF hb;obtain⟨hD,hB⟩:=R.heap l c h2;exact⟨⟨l,h1,hD⟩,RelB.ren hm (by simp[List.getD_eq_getElem?_getD,h1]) (hB.keep (fun _ h=>h) (hk D) rfl rfl)⟩
   inj:=fun i j c d hc hd e=>by
     obtain⟨l,c',h1,h2,_⟩:=lF hc;obtain⟨l',d',h1',h2',_⟩:=lF hd;have:l=l':=R.inj l l' c' d' h2 h2' (by simpa[List.getD_eq_getElem?_getD,h1,h1'] using e);subst this;have hi:=(List.getElem?_eq_some_iff.1 h1).1;exact(List.getElem?_inj hi hnd).1 (h1.trans h1'.symm)
   lt:=R.lt
   dlt:=fun j hj=>by
     obtain⟨l,h1,_⟩:=hj;rw[tJ];exact(List.getElem?_eq_some_iff.1 h1).1
   chg:=R.chg
   mine:=fun j b hb=>by
     obtain⟨l,c,h1,h2,rfl⟩:=lF hb
     have:=R.mine l c h2;show DY S0 C0 w0 c (ρ (m.getD j 0))
     simpa[List.getD_eq_getElem?_getD,h1] using this }
end
def pU (ρ:Nat->Nat):Nat->List ABlk->List (Option ABlk)
 | _,[]=>[]
 | i,b::bs=>some { b with pin:=some (ρ i) }::pU ρ (i+1) bs
def KD (x:Option ABlk):Option ABlk:=x.map fun b=>{ b with pin:=none }
theorem lG:∀ {bs:List ABlk} {i l:Nat} {b:ABlk},(pU ρ i bs)[l]? =some (some b)->∃ c,bs[l]? =some c/\b={ c with pin:=some (ρ (i+l)) }
 | [],i,l,b,h=>by simp[pU] at h
 | c::bs,i,0,b,h=>by simp[pU] at h;exact⟨c,rfl,h.symm⟩
 | c::bs,i,l+1,b,h=>by
   simp only[pU,List.getElem?_cons_succ] at h;obtain⟨c',h1,h2⟩:=lG h;exact⟨c',by simpa using h1,by rw[h2,show i+(l+1)=i+1+l from by omega]⟩
theorem yK:∀ {bs:List ABlk} {i l:Nat} {c:ABlk},bs[l]? =some c->(pU ρ i bs)[l]? =some (some { c with pin:=some (ρ (i+l)) })
 | [],i,l,c,h=>by simp at h
 | c::bs,i,0,c',h=>by simp at h;subst h;rfl
 | c::bs,i,l+1,c',h=>by
   simp only[pU,List.getElem?_cons_succ] at h ⊢;rw[yK h,show i+(l+1)=i+1+l from by omega]
theorem tK:∀ {bs:List ABlk} {i:Nat},(pU ρ i bs).length=bs.length
 | [],_=>rfl
 | c::bs,i=>by simp[pU,tK (bs:=bs)]
section
variable {P:Program} {f:FuncId} {S:Nat->Prop} {w0:World} {T:TT} {ρ:Nat->Nat} {n:Nat}
def yL (S:Nat->Prop) (w0:World) (ρ:Nat->Nat) (n:Nat) (r:AV) (h2:List (Option ABlk)):Value->World->Prop:=fun v w'=>∃ ρ',(∀ l,l<n->ρ' l=ρ l)/\RelV ρ' (Sof S ρ' h2) w' (· <h2.length) r v/\
 (∀ l b,h2[l]? =some (some b)->RelB ρ' (Sof S ρ' h2) w' (· <h2.length) l b/\(l<n\/w0.heap.size<=ρ' l)/\¬ S (ρ' l))/\
 (∀ l l' b b',h2[l]? =some (some b)->h2[l']? =some (some b')->ρ' l=ρ' l'->l=l')/\Chg (fun k=>∃ l,l<n/\k=ρ l) w0 w'
theorem oS (hT:lT P T) (hf:P.funcs[f]? =some fn) (htodo:todo= []\/∃ k,todo= .code .ret::k) (he:zV T st fn.results.toList=some Vs)
   (hn:(Vs.length==1||Vs.all cQ)=true) (hu:st.h.map KD=h2) (hp:∀ l,l<n->∃ c,st.h[l]? =some (some c)/\c.pin=some (ρ l)) (hw:∀ l,l<n->ρ l<w0.heap.size)
   (href:Ref (mC Vs) r):Good P f S (fun k=>∃ l,l<n/\k=ρ l) w0 (yL S w0 ρ n r h2) todo st:=by
 refine qU hT hf htodo he (by simpa using hn) fun ρe D a w v R hv=> ?_
 have hget:∀ (l:Nat) (b:ABlk),h2[l]? =some (some b)->∃ c,st.h[l]? =some (some c)/\b={ c with pin:=none }:=by
   intro l b h;rw[<- hu,List.getElem?_map] at h;cases hs:st.h[l]? with
   | none=>rw[hs] at h;cases h
   | some x=>
     rw[hs] at h;simp only[Option.map_some,KD] at h;injection h with h;obtain⟨c,hc,h⟩:=Option.map_eq_some_iff.1 h;exact⟨c,by rw[hc],h.symm⟩
 have hget':∀ (l:Nat) (c:ABlk),st.h[l]? =some (some c)->h2[l]? =some (some { c with pin:=none }):=by
   intro l c h;rw[<- hu,List.getElem?_map,h];rfl
 have hlen:h2.length=st.h.length:=by rw[<- hu];simp
 have hS:Sof S ρe h2=Sof S ρe st.h:=by
   funext k;apply propext
   constructor
   · rintro(h | ⟨l,b,h,e⟩)
     · exact .inl h
     · obtain⟨c,hc,_⟩:=hget l b h;exact .inr ⟨l,c,hc,e⟩
   · rintro(h | ⟨l,b,h,e⟩)
     · exact .inl h
     · exact .inr ⟨l,_,hget' l b h,e⟩
 have hk:∀ D',Keep ρe (Sof S ρe st.h) w D' ρe (Sof S ρe st.h) w:=fun D'=>Keep.refl _ _ _ _
 have hD:∀ l,D l->l<h2.length:=fun l h=>by rw[hlen];exact R.dlt l h
 refine⟨ρe,fun l hl=> ?_, ?_,fun l b h=> ?_,fun l l' b b' h h' e=> ?_,R.chg⟩
 · obtain⟨c,hc,hp⟩:=hp l hl
   exact(R.mine l c hc).2.2 _ hp
 · rw[hS];exact(href _ _ _ _ _ hv).keep hD (hk _)
 · obtain⟨c,hc,rfl⟩:=hget l b h
   have hm:=R.mine l c hc;refine⟨?_, ?_,hm.2.1⟩
   · rw[hS]
     have:=(R.heap l c hc).2.keep hD (hk _) rfl rfl;exact this
   · rcases hm.1 with ⟨i,hi,e⟩ | h
     · obtain⟨c',hc',hp'⟩:=hp i hi
       have h1:=(R.mine i c' hc').2.2 _ hp'
       have:=R.inj l i c c' hc hc' (by rw[h1];exact e);left;omega
     · exact .inr h
 · obtain⟨c,hc,rfl⟩:=hget l b h
   obtain⟨c',hc',rfl⟩:=hget l' b' h';exact R.inj l l' c c' hc hc' e
theorem qV (hf:P.funcs[f]? =some fn) (hb:fn.body=some c) (hname:(fn.name== "runtime.NumGoroutine")=false)
   (hlen2:h.length<=h2.length)
   (hg:∀ (S:Nat->Prop) (w0:World) (ρ:Nat->Nat),(∀ l,l<h.length->ρ l<w0.heap.size)->
     Good P f S (fun k=>∃ l,l<h.length/\k=ρ l) w0 (yL S w0 ρ h.length r h2) [.code c] ⟨(kY args fn.ntmps).σ,pU ρ 0 h⟩):qN P f args h r h2:=by
 refine⟨⟨fn,hf,hname,by rw[hb];rfl⟩,hlen2,fun S w ρ vals hS hB hinj hargs cs=> ?_⟩
 let b:Frame:={ (default:Frame) with fn:=f,kind:=.normal }
 have hlen:∀ (us:List AV) (vs:List Value),RelVs ρ (Sof S ρ (h.map some)) w (· <h.length) us vs->vs.length=us.length:=by
   intro us
   induction us with
   | nil=>intro vs h;cases vs <;> first | rfl | exact h.elim
   | cons c us ih=>
     intro vs h;cases vs with
     | nil=>exact h.elim
     | cons v vs=>simp[ih vs h.2]
 have hget:∀ (us:List AV) (vs:List Value),RelVs ρ (Sof S ρ (h.map some)) w (· <h.length) us vs->∀ (i:Nat) (v:Value),vs[i]? =some v->RelV ρ (Sof S ρ (h.map some)) w (· <h.length) (us.getD i .any) v:=by
   intro us
   induction us with
   | nil=>intro vs h i v hv;cases vs <;> first | exact h.elim | simp at hv
   | cons c us ih=>
     intro vs h i v hv;cases vs with
     | nil=>exact h.elim
     | cons u vs=>
       cases i with
       | zero=>simp at hv;subst hv;exact RelV.of0 h.1
       | succ i=>exact ih vs h.2 i v (by simpa using hv)
 have hSof:Sof S ρ (pU ρ 0 h)=Sof S ρ (h.map some):=by
   funext k;apply propext
   constructor
   · rintro(h | ⟨l,b,hb,e⟩)
     · exact .inl h
     · obtain⟨c,hc,_⟩:=lG hb
       exact .inr ⟨l,c,by rw[List.getElem?_map,hc];rfl,e⟩
   · rintro(h | ⟨l,b,hb,e⟩)
     · exact .inl h
     · rw[List.getElem?_map] at hb
       obtain⟨c,hc,hb⟩:=Option.map_eq_some_iff.1 hb;exact .inr ⟨l,_,yK hc,e⟩
 have hlt:∀ l,l<h.length->ρ l<w.heap.size:=by
   intro l hl;obtain⟨⟨arr,h1,_⟩,_⟩:=hB l h[l] (by simp[hl]);exact bN h1
 have R:Rel S (fun k=>∃ l,l<h.length/\k=ρ l) w ρ (· <h.length) ⟨(kY args fn.ntmps).σ,pU ρ 0 h⟩ { tmps:=vals.toArray++Array.replicate (fn.ntmps-vals.toArray.size) undef,defers:=[] } w:={
   defers:=rfl
   len:=by simp[kY,hlen _ _ hargs]
   tmps:=by
     intro t v hv;simp only[kY,hSof];rcases Nat.lt_or_ge t vals.length with h | h
     · rw[Array.getElem?_append_left (by simpa using h)] at hv
       have h2:t<args.length:=by rw[<- hlen _ _ hargs];exact h
       have:=hget _ _ hargs t v (by simpa using hv);simpa[List.getD_eq_getElem?_getD,List.getElem?_append_left h2] using this
     · have h2:args.length<=t:=by rw[<- hlen _ _ hargs];exact h
       have:(args++List.replicate (fn.ntmps-args.length) AV.any).getD t .any= .any:=by
         simp only[List.getD_eq_getElem?_getD,List.getElem?_append_right h2,List.getElem?_replicate]
         split <;> rfl
       rw[this];trivial
   heap:=fun l b hb=>by
     obtain⟨c,hc,rfl⟩:=lG hb;exact⟨(List.getElem?_eq_some_iff.1 hc).1,by rw[hSof];exact(hB l c hc).1⟩
   inj:=fun l l' b b' hb hb' e=>by
     obtain⟨c,hc,_⟩:=lG hb;obtain⟨c',hc',_⟩:=lG hb';exact hinj l l' (List.getElem?_eq_some_iff.1 hc).1 (List.getElem?_eq_some_iff.1 hc').1 e
   lt:=hS
   dlt:=fun l h=>by rw[tK];exact h
   chg:=Chg.refl _ _
   mine:=fun l b hb=>by
     obtain⟨c,hc,rfl⟩:=lG hb
     exact⟨.inl ⟨l,(List.getElem?_eq_some_iff.1 hc).1,rfl⟩,(hB l c hc).2,fun i hi=>by simp at hi;exact hi⟩ }
 obtain⟨v,w',fr,hP,hsteps,hfn,hleave⟩:=hg S w ρ hlt ρ _ _ w R b cs rfl rfl
 have henter:Frame.enter P f vals.toArray .normal=b.at { tmps:=vals.toArray++Array.replicate (fn.ntmps-vals.toArray.size) undef,defers:=[] } [.code c]:=by
   simp[Frame.enter,Frame.at,hf,hb,b]
 obtain⟨ρ',q1,q2,q3,q4,q5⟩:=hP;exact⟨.returned v,w',fr,⟨v,ρ',rfl,q1,q2,q3,q4,q5⟩,by rw[henter];exact hsteps,hfn,hleave⟩
end
def aA (f:Func):Code:=f.body.getD .skip
def aR:List Nat->Code->Code
 | 0::p,.seq a _=>aR p a
 | _::p,.seq _ b=>aR p b
 | 0::p,.cond _ a _=>aR p a
 | _::p,.cond _ _ b=>aR p b
 | _::p,.block _ c=>aR p c
 | _::p,.loop c=>aR p c
 | _,c=>c
def lH (ids:List Nat):Nat->List AV->List AV
 | _,[]=>[]
 | i,V::σ=>(if ids.contains i then V else .any)::lH ids (i+1) σ
theorem yM:∀ {σ:List AV} {i t:Nat},(lH ids i σ).getD t .any=if ids.contains (i+t) then σ.getD t .any else .any
 | [],i,t=>by simp[lH]
 | V::σ,i,0=>by simp[lH]
 | V::σ,i,t+1=>by
   have:=yM (ids:=ids) (σ:=σ) (i:=i+1) (t:=t);simp only[lH,List.getD_cons_succ,this];rw[show i+1+t=i+(t+1) from by omega]
theorem qW:∀ {σ:List AV} {i:Nat},(lH ids i σ).length=σ.length
 | [],i=>rfl
 | V::σ,i=>by simp[lH,qW]
section
theorem Good.keep (ids:List Nat) (hg:Good P f S0 C0 w0 Post todo ⟨lH ids 0 σ,h⟩):Good P f S0 C0 w0 Post todo ⟨σ,h⟩:=
 hg.map fun ρ D a w R=>⟨ρ,D,R.slots qW fun t=>by
   rw[yM]
   split
   · exact Ref.rfl'
   · exact Ref.any⟩
theorem go (hm:P.follows .mixedOrders=true) (hT:lT P T) (hK:KOK P K) (n:Nat) (stop:Option Nat) (ids:List Nat) (ov:mW)
   (he:(xU T K stop n todo st ov).map (fun r=>(r.1,lH ids 0 r.2.1.σ,r.2.1.h,r.2.2))=some (todo',σ',h',ob)) (ho:AllP ob)
   (hg:Good P f S0 C0 w0 Post todo' ⟨σ',h'⟩):Good P f S0 C0 w0 Post todo st:=by
 obtain⟨⟨t,s,o⟩,h1,h2⟩:=Option.map_eq_some_iff.1 he;simp only[Prod.mk.injEq] at h2;obtain⟨rfl,rfl,rfl,rfl⟩:=h2;exact tY hm hT hK n h1 ho (hg.keep ids)
theorem Good.fact (t:Nat) (ht:st.σ.getD t .any=V) (hV:(match V with | .any=>false | _=>true)=true) (hp:∀ ρ S w D v,RelV ρ S w D V v->p)
   (hg:p->Good P f S0 C0 w0 Post todo st):Good P f S0 C0 w0 Post todo st:=by
 intro ρ D a w R b cs hb hk;refine hg ?_ ρ D a w R b cs hb hk
 have hlt:t<st.σ.length:=by
   rcases Nat.lt_or_ge t st.σ.length with h | h
   · exact h
   · rw[List.getD_eq_getElem?_getD,List.getElem?_eq_none h] at ht;subst ht;cases hV
 have h2:t<a.tmps.size:=by rw[R.len];exact hlt
 have hv:=R.tmps t a.tmps[t] (by simp[h2]);rw[ht] at hv;exact hp _ _ _ _ _ hv
theorem Good.len (t:Nat) (ht:st.σ.getD t .any= .list e xs) (hg:xs.length<=big->Good P f S0 C0 w0 Post todo st):Good P f S0 C0 w0 Post todo st:=
 Good.fact t ht rfl (fun ρ S w D v hv=>by obtain⟨A,cap,f,hv,g1,g2,_⟩:=kC hv;omega) hg
theorem Good.natlt (t:Nat) (ht:st.σ.getD t .any= .nat n B) (hg:n<2^B->Good P f S0 C0 w0 Post todo st):Good P f S0 C0 w0 Post todo st:=
 Good.fact t ht rfl (fun ρ S w D v hv=>by
   have h':RelCs ρ S w D [.nat n B] [v]:=hv;cases h' with
   | nat xs h1 h2 h3 h4=>exact h3) hg
theorem bX (hT:lT P T) (hf:P.funcs[f]? =some fn) (t:Nat) (hr:fn.results.toList= [.tmp t]) (htodo:(match todo with | []=>true | .code .ret::_=>true | _=>false)=true)
   (ho:yI (σ.getD t .any)=true) (href:Ref (σ.getD t .any) r):Good P f S0 No w0 (eN S0 w0 r) todo ⟨σ,h⟩:=by
 refine fF hT hf ?_ (Vs:=[σ.getD t .any]) (by rw[hr];rfl) rfl ho href
 revert htodo
 split <;> simp
end
def Bn {α:Type} (f:Nat):List (Nat×α)->Option α
 | []=>none
 | (g,x)::l=>if g=f then some x else Bn f l
abbrev KS:=List (Nat×(List AV->Option (AV×List Prop)))
abbrev KH:=List (Nat×(List AV->List ABlk->Option (AV×List (Option ABlk)×List Prop)))
def KT.of (l:KS) (m:KH):KT:=⟨fun f a=>(Bn f l).bind fun g=>g a,fun f a h=>(Bn f m).bind fun g=>g a h⟩
theorem KOK.nil:KOK P (.of [] []):=⟨(fun _ _ _ _ h=>by cases h),(fun _ _ _ _ _ _ h _=>by cases h)⟩
theorem KOK.cons (h:KOK P (.of l m)) (hg:∀ args r ob,g args=some (r,ob)->AllP ob->qL P f args r):KOK P (.of ((f,g)::l) m):=by
 refine⟨fun f' args r ob he ho=> ?_,h.h⟩;simp only[KT.of,Bn] at he
 split at he
 · rename_i e;subst e;exact hg args r ob he ho
 · exact h.s f' args r ob he ho
theorem KOK.consH (h:KOK P (.of l m)) (hg:∀ args (b:List ABlk) r h2 ob,g args b=some (r,h2,ob)->AllP ob->qN P f args b r h2):KOK P (.of l ((f,g)::m)):=by
 refine⟨h.s,fun f' args b r h2 ob he ho=> ?_⟩;simp only[KT.of,Bn] at he
 split at he
 · rename_i e;subst e;exact hg args b r h2 ob he ho
 · exact h.h f' args b r h2 ob he ho
theorem Ref.eq (h:V=V'):Ref V V':=by subst h;exact Ref.rfl'
theorem Ref.int {k:IntKind} {a b:Int} (h:a=b):Ref (.int k a) (.int k b):=Ref.eq (by rw[h])
theorem Ref.bool (h:a=b):Ref (.bool a) (.bool b):=Ref.eq (by rw[h])
theorem qX {k:IntKind} {x:Int} (h:k.min<=x/\x<=k.max):k.wrap x=x:=by
 unfold IntKind.wrap;obtain⟨h1,h2⟩:=h;cases k <;> simp[IntKind.min,IntKind.max,IntKind.signed,IntKind.bits] at h1 h2 ⊢ <;> omega
theorem Ref.wr {k:IntKind} {x:Int} (h:k.min<=x/\x<=k.max):Ref (.int k (k.wrap x)) (.int k x):=Ref.int (qX h)
theorem vQ (n:Nat):IntKind.u32.wrap (n:Int)=((n % 4294967296:Nat):Int):=by
 simp[IntKind.wrap,IntKind.signed,IntKind.bits]
theorem vR (n:Nat):IntKind.u64.wrap (n:Int)=((n % 18446744073709551616:Nat):Int):=by
 simp[IntKind.wrap,IntKind.signed,IntKind.bits]
theorem Ref.md32 {n:Nat} {e:Int} (he:e=(n:Int)):Ref (.int .u32 (IntKind.u32.wrap e)) (.int .u32 ((n % 4294967296:Nat):Int)):=Ref.int (by rw[he,vQ])
theorem Ref.md64 {n:Nat} {e:Int} (he:e=(n:Int)):Ref (.int .u64 (IntKind.u64.wrap e)) (.int .u64 ((n % 18446744073709551616:Nat):Int)):=Ref.int (by rw[he,vR])
theorem vS (n m:Nat):((n:Int)).fdiv (m:Int)=((n/m:Nat):Int):=by
 rw[Int.fdiv_eq_ediv_of_nonneg _ (Int.natCast_nonneg m)];rfl
theorem Ref.shrc {k:IntKind} {n m c:Nat} {e:Int} (he:e=(n:Int)) (h:2^c=m):Ref (.int k (e.fdiv (2^c))) (.int k ((n/m:Nat):Int)):=Ref.int (by
 rw[he, <- h,show((2:Int)^c)=((2^c:Nat):Int) by simp,vS])
theorem zW (h:i<xs.length):(aI xs).getD i []= [.int .u32 ((xs.getD i 0:Nat):Int)]:=by
 simp[aI,List.getD_eq_getElem?_getD,h]
theorem Di (h:i<xs.length):(aO xs).getD i []= [.int .i64 ((xs.getD i 0:Nat):Int)]:=by
 simp[aO,List.getD_eq_getElem?_getD,h]
theorem aB:(aI xs).length=xs.length:=by simp[aI]
theorem aL:(aO xs).length=xs.length:=by simp[aO]
theorem Ref.cd32 (h:i<xs.length):Ref (.cptr ((aI xs).getD i []) 0) (.cptr [.int .u32 ((xs.getD i 0:Nat):Int)] 0):=Ref.eq (by rw[zW h])
theorem Ref.cd32h (h:i<xs.length):Ref (((aI xs).getD i []).headD .any) (.int .u32 ((xs.getD i 0:Nat):Int)):=Ref.eq (by rw[zW h];rfl)
theorem Ref.cd64 (h:i<xs.length):Ref (.cptr ((aO xs).getD i []) 0) (.cptr [.int .i64 ((xs.getD i 0:Nat):Int)] 0):=Ref.eq (by rw[Di h])
theorem Ref.cd64h (h:i<xs.length):Ref (((aO xs).getD i []).headD .any) (.int .i64 ((xs.getD i 0:Nat):Int)):=Ref.eq (by rw[Di h];rfl)
def KE:List Item->Bool
 | []=>true
 | .code .ret::_=>true
 | _=>false
def Lv (T:TT) (K:KT) (rs:List ResultVar) (n:Nat) (todo:List Item) (st:St) (ov:mW):Option (AV×List Prop):=
 match xU T K none n todo st ov with
 | some (t,s,ob)=>match zV T s rs with
   | some Vs=>if KE t&&(Vs.length==1||Vs.all cQ)&&yI (mC Vs) then some (mC Vs,ob) else none
   | none=>none
 | none=>none
theorem Sm (hm:P.follows .mixedOrders=true) (hT:lT P T) (hK:KOK P K) (hf:P.funcs[f]? =some fn) (n:Nat) (ov:mW)
   (he:Lv T K fn.results.toList n todo st ov=some (V,ob)) (ho:AllP ob) (href:Ref V r):Good P f S0 No w0 (eN S0 w0 r) todo st:=by
 unfold Lv at he
 split at he
 · rename_i t s ob' hc
   split at he
   · rename_i Vs hv
     split at he
     · rename_i hcond
       injection he with he;simp only[Prod.mk.injEq] at he;obtain⟨rfl,rfl⟩:=he;simp only[Bool.and_eq_true] at hcond;refine tY hm hT hK n hc ho (fF hT hf ?_ hv hcond.1.2 hcond.2 href);have h1:=hcond.1.1
       match t,h1 with
       | [],_=>exact .inl rfl
       | .code .ret::k,_=>exact .inr ⟨k,rfl⟩
     · cases he
   · cases he
 · cases he
theorem eW (b:Nat):∀ (xs ys:List Nat),aJ b (xs++ys)=aJ b xs+b^xs.length*aJ b ys
 | [],ys=>by simp[aJ]
 | x::xs,ys=>by
   simp only[List.cons_append,aJ,eW b xs ys,List.length_cons,Nat.pow_succ,Nat.mul_add];rw[Nat.mul_comm (b^xs.length) b,Nat.mul_assoc];omega
theorem dY (hb:0<b):∀ {xs:List Nat},(∀ x∈xs,x<b)->aJ b xs<b^xs.length
 | [],_=>by simp[aJ]
 | x::xs,h=>by
   have h1:=dY hb (xs:=xs) (fun y hy=>h y (by simp[hy]));have h2:=h x (by simp);simp only[aJ,List.length_cons,Nat.pow_succ];have h3:b*(aJ b xs+1)<=b*b^xs.length:=Nat.mul_le_mul_left b h1;rw[Nat.mul_comm (b^xs.length) b];rw[Nat.mul_add] at h3;omega
theorem mE:∀ {xs:List Nat},(∀ x∈xs,x=0)->aJ b xs=0
 | [],_=>rfl
 | x::xs,h=>by
   rw[aJ,h x (by simp),mE (fun y hy=>h y (by simp[hy]))];simp
theorem El (h:∀ i,k<=i->i<xs.length->xs.getD i 0=0):aJ b (xs.take k)=aJ b xs:=by
 have e:xs=xs.take k++xs.drop k:=(List.take_append_drop k xs).symm
 have hz:aJ b (xs.drop k)=0:=mE fun x hx=>by
   obtain⟨i,hi,rfl⟩:=List.getElem_of_mem hx;rw[List.length_drop] at hi
   have:=h (k+i) (by omega) (by omega);rw[List.getElem_drop];simpa[List.getD_eq_getElem?_getD,show k+i<xs.length by omega] using this
 rw[e,eW,hz];simp
theorem Dig.take {b k:Nat} {xs:List Nat} (hx:∀ x∈xs,x<b) (hk:k<=xs.length) (h:k=0\/xs.getD (k-1) 0≠0):Dig b (xs.take k):=by
 refine⟨fun x hx'=>hx x (List.mem_of_mem_take hx'),fun hl=> ?_⟩;rcases h with rfl | h
 · simp at hl
 · apply h
   rw[List.getLast?_eq_getElem?,List.length_take,Nat.min_eq_left hk,List.getElem?_take] at hl
   split at hl
   · simp[List.getD_eq_getElem?_getD,hl]
   · cases hl
theorem kT (n:Nat):b32^n=2^(32*n):=by
 rw[show b32=2^32 from rfl, <- Nat.pow_mul]
theorem sQ (h:∀ x∈xs,x<b32):aJ b32 xs<2^(32*xs.length):=by
 rw[<- kT];exact dY (by decide) h
def bD (X:List (List AV)):List Nat:=X.map fun
 | [.int _ n]=>n.toNat
 | _=>0
theorem cC (xs:List Nat):bD (aI xs)=xs:=by
 unfold bD aI;rw[List.map_map]
 conv=>rhs;rw[<- List.map_id xs]
 exact List.map_congr_left fun x _=>rfl
theorem Ref.nat (h:Dig b32 xs) (hn:aJ b32 xs=n) (hB:n<2^B):Ref (.list 1 (aI xs)) (.nat n B):=by
 intro ρ S w D v hv;exact bA (.nat xs h hn hB hv)
theorem Ref.natB (h:n<2^C):Ref (.nat n B) (.nat n C):=by
 intro ρ S w D v hv;have h':RelCs ρ S w D [.nat n B] [v]:=hv;cases h' with
 | nat xs h1 h2 h3 h4=>exact bA (.nat xs h1 h2 h h4)
theorem yN (hb:1<b):∀ (f n:Nat),n<=f->Dig b (vA b f n)/\aJ b (vA b f n)=n
 | 0,n,h=>by
   have:n=0:=by omega
   subst this;exact⟨⟨by simp[vA],by simp[vA]⟩,rfl⟩
 | f + 1,n,h=>by
   by_cases hn:n=0
   · subst hn;exact⟨⟨by simp[vA],by simp[vA]⟩,by simp[vA,aJ]⟩
   · have hlt:n/b<n:=Nat.div_lt_self (by omega) hb
     obtain⟨⟨h1,h2⟩,h3⟩:=yN hb f (n/b) (by omega);simp only[vA,if_neg hn];refine⟨⟨fun x hx=> ?_,fun hl=> ?_⟩, ?_⟩
     · rcases List.mem_cons.1 hx with rfl | hx
       · exact Nat.mod_lt _ (by omega)
       · exact h1 x hx
     · cases hd:vA b f (n/b) with
       | nil=>
         rw[hd] at hl h3;simp at hl;simp[aJ] at h3
         have:=Nat.div_add_mod n b;rw[<- h3,hl] at this;omega
       | cons y ys=>
         rw[hd] at hl h2;rw[List.getLast?_cons_cons] at hl;exact h2 hl
     · rw[aJ,h3];have:=Nat.div_add_mod n b;omega
theorem Dig.tail (h:Dig b (x::xs)):Dig b xs:=by
 refine⟨fun y hy=>h.1 y (by simp[hy]),fun hl=> ?_⟩;cases xs with
 | nil=>simp at hl
 | cons y ys=>exact h.2 (by rw[List.getLast?_cons_cons];exact hl)
theorem Dig.pos (hb:1<b):∀ {xs:List Nat},Dig b xs->xs≠ []->0<aJ b xs
 | [],_,h=>absurd rfl h
 | [x],h,_=>by
   have:x≠0:=fun e=>h.2 (by simp[e])
   simp[aJ];omega
 | x::y::ys,h,_=>by
   have:=Dig.pos hb h.tail (by simp);have h2:0<b*aJ b (y::ys):=Nat.mul_pos (by omega) this;rw[aJ];omega
theorem Dig.uniq (hb:1<b):∀ {xs ys:List Nat},Dig b xs->Dig b ys->aJ b xs=aJ b ys->xs=ys
 | [],[],_,_,_=>rfl
 | [],y::ys,_,h,e=>by have:=Dig.pos hb h (by simp);simp[aJ] at e this;omega
 | x::xs,[],h,_,e=>by have:=Dig.pos hb h (by simp);simp[aJ] at e this;omega
 | x ::xs,y::ys,h,k,e=>by
   simp only[aJ] at e;have h1:=h.1 x (by simp);have k1:=k.1 y (by simp)
   have hx:x=y:=by
     have:=congrArg (· % b) e;simpa[Nat.mod_eq_of_lt h1,Nat.mod_eq_of_lt k1] using this
   subst hx;have e2:b*aJ b xs=b*aJ b ys:=by omega
   have:aJ b xs=aJ b ys:=Nat.eq_of_mul_eq_mul_left (by omega:0<b) e2;rw[Dig.uniq hb h.tail k.tail this]
theorem aQ (hb:1<b) (n:Nat):Dig b (aD b n)/\aJ b (aD b n)=n:=yN hb n n (Nat.le_refl n)
theorem Ref.opn:Ref (.nat n B) (.list 1 (aI (aD b32 n))):=by
 intro ρ S w D v hv;have h':RelCs ρ S w D [.nat n B] [v]:=hv;cases h' with
 | nat xs h1 h2 h3 h4=>
   obtain⟨g1,g2⟩:=aQ (b:=b32) (by decide) n;rw[<- Dig.uniq (by decide) h1 g1 (by rw[h2,g2])];exact h4
theorem vT (xs:List Nat) (i:Nat):(i<xs.length/\xs.take (i+1)=xs.take i++ [xs.getD i 0])\/(xs.length<=i/\xs.take (i+1)=xs.take i/\xs.getD i 0=0):=by
 rcases Nat.lt_or_ge i xs.length with h | h
 · left;exact⟨h,by rw[List.take_add_one];simp[List.getD_eq_getElem?_getD,h]⟩
 · right;exact⟨h,by rw[List.take_of_length_le (by omega),List.take_of_length_le h],by simp[List.getD_eq_getElem?_getD,h]⟩
theorem aT (b:Nat) (xs:List Nat) (i:Nat):aJ b (xs.take (i+1))=aJ b (xs.take i)+b^i*xs.getD i 0:=by
 rcases vT xs i with ⟨h,e⟩ | ⟨h,e,z⟩
 · rw[e,eW];simp[aJ,Nat.min_eq_left (Nat.le_of_lt h)]
 · rw[e,z];simp
theorem bC {b:Nat} (hb:0<b) {xs:List Nat} (h:∀ x∈xs,x<b) (i:Nat):xs.getD i 0<b:=by
 rw[List.getD_eq_getElem?_getD];rcases Nat.lt_or_ge i xs.length with hi | hi
 · simp only[List.getElem?_eq_getElem hi,Option.getD_some];exact h _ (List.getElem_mem hi)
 · simp[List.getElem?_eq_none hi,hb]
theorem fH {b:Nat} {xs:List Nat} (h:∀ x∈xs,x<b) {i v:Nat} (hv:v<b):∀ x∈xs.set i v,x<b:=fun x hx=>by
 rcases List.mem_or_eq_of_mem_set hx with hx | rfl
 · exact h x hx
 · exact hv
theorem nE {α:Type} (xs:List α) (i:Nat) (v:α):(xs.set i v).take i=xs.take i:=by
 rw[List.take_set,List.set_eq_of_length_le (by rw[List.length_take];omega)]
theorem dM {xs:List Nat} {i v:Nat} (h:i<xs.length):(xs.set i v).getD i 0=v:=by
 simp[List.getD_eq_getElem?_getD,h]
theorem eY (ds:List Nat) (i v:Nat):(aI ds).set i [AV.int .u32 ((v:Nat):Int)]=aI (ds.set i v):=by simp[aI,List.map_set]
theorem mF (n:Nat):List.replicate n [AV.int .u32 (0:Int)]=aI (List.replicate n 0):=by simp[aI]
theorem Fs (ds:List Nat) (n:Nat):(aI ds).take n=aI (ds.take n):=by simp[aI]
theorem Bo (ds:List Nat) (n:Nat):(aI ds).drop n=aI (ds.drop n):=by simp[aI]
theorem Ct (a b:List Nat):aI a++aI b=aI (a++b):=by simp[aI]
theorem Dig.low (hb:1<b):∀ {xs:List Nat},Dig b xs->xs≠ []->b^(xs.length-1)<=aJ b xs
 | [],_,h=>absurd rfl h
 | [x],h,_=>by have:=h.pos hb (by simp);simp only[List.length_singleton,Nat.sub_self,Nat.pow_zero];omega
 | x::y::ys,h,_=>by
   have h1:=Dig.low hb h.tail (by simp);simp only[List.length_cons,Nat.add_sub_cancel] at h1 ⊢;rw[aJ,Nat.pow_succ,Nat.mul_comm]
   have:=Nat.mul_le_mul_left b h1;omega
theorem Dig.len (h:Dig b32 xs) (hB:aJ b32 xs<2^B):32*xs.length<=B+31:=by
 by_cases hx:xs= []
 · subst hx;simp
 · have h1:=Nat.lt_of_le_of_lt (h.low (by decide) hx) hB
   rw[kT] at h1
   have:=(Nat.pow_lt_pow_iff_right (by decide:1<2)).1 h1;have:0<xs.length:=List.length_pos_iff.2 hx;omega
def LIM:Nat:=17592186044416
theorem nF (hb:0<b):∀ x∈List.replicate n 0,x<b:=fun x hx=>by
 rw[List.mem_replicate] at hx;omega
end Go.Av
namespace Go.Av
open Go.Proofs Go.RowKit
theorem AllP.un {p:Prop} {l:List Prop} (h:AllP (p::l)):p/\AllP l:=⟨h p (by simp),fun x hx=>h x (by simp[hx])⟩
theorem AllP.e2 {p q:Prop} (h:AllP [p,q]):p/\q:=⟨h.un.1,h.un.2.un.1⟩
theorem AllP.e3 {p0 p1 p2:Prop} (h:AllP [p0,p1,p2]):p0/\p1/\p2:=⟨h.un.1,h.un.2.e2⟩
theorem AllP.e4 {p0 p1 p2 p3:Prop} (h:AllP [p0,p1,p2,p3]):p0/\p1/\p2/\p3:=⟨h.un.1,h.un.2.e3⟩
theorem AllP.e5 {p0 p1 p2 p3 p4:Prop} (h:AllP [p0,p1,p2,p3,p4]):p0/\p1/\p2/\p3/\p4:=⟨h.un.1,h.un.2.e4⟩
theorem AllP.e6 {p0 p1 p2 p3 p4 p5:Prop} (h:AllP [p0,p1,p2,p3,p4,p5]):p0/\p1/\p2/\p3/\p4/\p5:=⟨h.un.1,h.un.2.e5⟩
theorem AllP.e7 {p0 p1 p2 p3 p4 p5 p6:Prop} (h:AllP [p0,p1,p2,p3,p4,p5,p6]):p0/\p1/\p2/\p3/\p4/\p5/\p6:=⟨h.un.1,h.un.2.e6⟩
theorem AllP.e8 {p0 p1 p2 p3 p4 p5 p6 p7:Prop} (h:AllP [p0,p1,p2,p3,p4,p5,p6,p7]):p0/\p1/\p2/\p3/\p4/\p5/\p6/\p7:=⟨h.un.1,h.un.2.e7⟩
theorem AllP.e9 {p0 p1 p2 p3 p4 p5 p6 p7 p8:Prop} (h:AllP [p0,p1,p2,p3,p4,p5,p6,p7,p8]):p0/\p1/\p2/\p3/\p4/\p5/\p6/\p7/\p8:=⟨h.un.1,h.un.2.e8⟩
theorem AllP.e10 {p0 p1 p2 p3 p4 p5 p6 p7 p8 p9:Prop} (h:AllP [p0,p1,p2,p3,p4,p5,p6,p7,p8,p9]):p0/\p1/\p2/\p3/\p4/\p5/\p6/\p7/\p8/\p9:=⟨h.un.1,h.un.2.e9⟩
theorem AllP.one {p:Prop} (h:AllP [p]):p:=h p (by simp)
theorem AllP.a1 {p:Prop} (h:p):AllP [p]:=.cons h .nil
section
variable {p q r s t u v:Prop} {l:List Prop}
theorem AllP.a2 (a:p) (b:q):AllP [p,q]:=.cons a (.cons b .nil)
theorem AllP.a3 (a:p) (b:q) (c:r):AllP [p,q,r]:=.cons a (.cons b (.cons c .nil))
theorem AllP.a4 (a:p) (b:q) (c:r) (d:s):AllP [p,q,r,s]:=.cons a (.cons b (.cons c (.cons d .nil)))
theorem AllP.a5 (a:p) (b:q) (c:r) (d:s) (e:t):AllP [p,q,r,s,t]:=.cons a (.cons b (.cons c (.cons d (.cons e .nil))))
theorem AllP.a6 (a:p) (b:q) (c:r) (d:s) (e:t) (f:u):AllP [p,q,r,s,t,u]:=.cons a (.a5 b c d e f)
theorem AllP.c6 (a:p) (b:q) (c:r) (d:s) (e:t) (f:u) (k:AllP l):AllP (p::q::r::s::t::u::l):=.cons a (.cons b (.cons c (.cons d (.cons e (.cons f k)))))
end
section
variable {p:Prop} [Decidable p]
theorem iT (h:p):Ref (.bool (decide p)) (.bool true):=Ref.bool (decide_eq_true h)
theorem iF (h:¬ p):Ref (.bool (decide p)) (.bool false):=Ref.bool (decide_eq_false h)
theorem jT (h:¬ p):Ref (.bool (!decide p)) (.bool true):=Ref.bool (congrArg Bool.not (decide_eq_false h))
theorem jF (h:p):Ref (.bool (!decide p)) (.bool false):=Ref.bool (congrArg Bool.not (decide_eq_true h))
end
abbrev bO (f:Nat) (k:List AV->Option (AV×List Prop)):Prop:=∀ (args:List AV) (r:AV) (ob:List Prop),k args=some (r,ob)->AllP ob->qL Tryz.prog f args r
theorem cJ {f:Nat} {k:List AV->Option (AV×List Prop)} (fn:Func)
   (H:∀ (args:List AV) (r:AV) (ob:List Prop) (S:Nat->Prop) (w0:World),k args=some (r,ob)->AllP ob->Good Tryz.prog f S No w0 (eN S w0 r) [.code (aA fn)] (kY args fn.ntmps))
   (hf:(Tryz.prog.funcs[f]?,fn.body.isSome,fn.name== "runtime.NumGoroutine")=(some fn,true,false):=by kernel_rfl):bO f k:=by
 simp only[Prod.mk.injEq] at hf;obtain⟨h1,h2,h3⟩:=hf;obtain⟨c,hc⟩:=Option.isSome_iff_exists.1 h2;have hb:aA fn=c:=by unfold aA;rw[hc];rfl
 exact fun args r ob h ho=>tZ h1 hc h3 fun S w0=>hb▸H args r ob S w0 h ho
noncomputable def IM (f:Nat) (K:KT) (todo:List Item) (st:St) (ov:mW):Option (AV×List Prop):=
 match Tryz.prog.funcs[f]? with
 | some fn=>Lv NB K fn.results.toList 999 todo st ov
 | none=>none
theorem rF {K:KT} (hK:KOK Tryz.prog K) (ov:mW) {f:Nat} {S0:Nat->Prop} {w0:World} {todo:List Item} {st:St} {V r:AV} {ob:List Prop}
   (ho:AllP ob) (href:Ref V r) (he:IM f K todo st ov=some (V,ob):=by kernel_rfl):Good Tryz.prog f S0 No w0 (eN S0 w0 r) todo st:=by
 unfold IM at he
 split at he
 · rename_i fn hf
   exact Sm mixed aX hK hf 999 ov he ho href
 · cases he
theorem rR {K:KT} (hK:KOK Tryz.prog K) (ov:mW) {f:Nat} {S0:Nat->Prop} {w0:World} {todo:List Item} {st:St} {r:AV} {ob:List Prop}
   (ho:AllP ob) (he:IM f K todo st ov=some (r,ob):=by kernel_rfl):Good Tryz.prog f S0 No w0 (eN S0 w0 r) todo st:=rF hK ov ho Ref.rfl' he
theorem nn (n:Nat):0<=(n:Int):=Int.natCast_nonneg n
abbrev AV.i6 (n:Int):AV:=.int .i64 n
abbrev tt:AV:=.bool true
abbrev ff:AV:=.bool false
section
variable {K:KT} {f:Nat} {S0 C0:Nat->Prop} {w0:World} {Post:Value->World->Prop} {todo t:List Item} {st:St} {σ:List AV} {h:List (Option ABlk)} {ob:List Prop}
theorem gS (hK:KOK Tryz.prog K) (stop:Option Nat) (ids:List Nat) (ov:mW) (ho:AllP ob) (hg:Good Tryz.prog f S0 C0 w0 Post t ⟨σ,h⟩)
   (he:(xU NB K stop 999 todo st ov).map (fun r=>(r.1,lH ids 0 r.2.1.σ,r.2.1.h,r.2.2))=some (t,σ,h,ob):=by kernel_rfl):Good Tryz.prog f S0 C0 w0 Post todo st:=go mixed aX hK 999 stop ids ov he ho hg
theorem gN (hK:KOK Tryz.prog K) (ids:List Nat) (ov:mW) (ho:AllP ob) (hg:Good Tryz.prog f S0 C0 w0 Post t ⟨σ,h⟩)
   (he:(xU NB K none 999 todo st ov).map (fun r=>(r.1,lH ids 0 r.2.1.σ,r.2.1.h,r.2.2))=some (t,σ,h,ob):=by kernel_rfl):Good Tryz.prog f S0 C0 w0 Post todo st:=go mixed aX hK 999 none ids ov he ho hg
end
theorem wI (a b:Int) (h: -9223372036854775808<=a/\a<=9223372036854775807:=by omega) (e:a=b:=by first | rfl | omega | simp):Ref (.int .i64 (IntKind.i64.wrap a)) (.int .i64 b):=(Ref.wr h).trans (Ref.int e)
theorem wU (a b:Int) (h:0<=a/\a<=18446744073709551615:=by omega) (e:a=b:=by first | rfl | omega | simp):Ref (.int .u64 (IntKind.u64.wrap a)) (.int .u64 b):=(Ref.wr h).trans (Ref.int e)
theorem wV (a b:Int) (h:0<=a/\a<=4294967295:=by omega) (e:a=b:=by first | rfl | omega | simp):Ref (.int .u32 (IntKind.u32.wrap a)) (.int .u32 b):=(Ref.wr h).trans (Ref.int e)
theorem wB (a b:Int) (h:0<=a/\a<=255:=by omega) (e:a=b:=by first | rfl | omega | simp):Ref (.int .u8 (IntKind.u8.wrap a)) (.int .u8 b):=(Ref.wr h).trans (Ref.int e)
theorem cX {p q:Prop} (h:p) (k:p->q):q:=k h
theorem kn:KOK Tryz.prog (.of [] []):=KOK.nil
theorem r1:1=1:=rfl
theorem om (p:Prop) (h:p:=by omega):p:=h
abbrev KF:=List AV->Option (AV×List Prop)
abbrev GF (f:Nat) (S:Nat->Prop) (w0:World) (r:AV) (t:List Item) (s:St):Prop:=Good Tryz.prog f S No w0 (eN S w0 r) t s
theorem bM {α β:Type _} {f:α->β} {l:List α}:(l.map f).length=l.length:=List.length_map ..
theorem nG {α:Type _} {l:List α} {i:Nat} {a:α}:l.getD i a=l[i]?.getD a:=List.getD_eq_getElem?_getD ..
theorem gO {α:Type _} {l:List α} {i:Nat} (h:l.length<=i):l.take i=l:=List.take_of_length_le h
theorem Good.pk {P:Program} {f:Nat} {S0 C0:Nat->Prop} {w0:World} {Post:Value->World->Prop} {todo:List Item} {σ:List AV} {h:List (Option ABlk)} (n:Nat) (xs:List (Nat×AV)) (hg:Good P f S0 C0 w0 Post todo ⟨slots n xs,h⟩)
   (he:(σ.length,xs.map fun p=>σ.getD p.1 .any)=(n,xs.map (·.2)):=by kernel_rfl):Good P f S0 C0 w0 Post todo ⟨σ,h⟩:=by
 simp only[Prod.mk.injEq] at he;refine Good.weak n xs he.1 ?_ hg;have h2:=he.2;clear hg he
 induction xs with
 | nil=>exact .nil
 | cons p xs ih=>
   simp only[List.map_cons,List.cons.injEq] at h2;exact .cons (by rw[h2.1];exact Ref.rfl') (ih h2.2)
theorem af {f:Nat} {args:List AV} {r:AV} (fn:Func) (H:∀ (S:Nat->Prop) (w0:World),Good Tryz.prog f S No w0 (eN S w0 r) [.code (aA fn)] (kY args fn.ntmps))
   (hf:(Tryz.prog.funcs[f]?,fn.body.isSome,fn.name== "runtime.NumGoroutine")=(some fn,true,false):=by kernel_rfl):qL Tryz.prog f args r:=
 by
 simp only[Prod.mk.injEq] at hf;obtain⟨h1,h2,h3⟩:=hf;obtain⟨c,hc⟩:=Option.isSome_iff_exists.1 h2;have hb:aA fn=c:=by unfold aA;rw[hc];rfl
 exact tZ h1 hc h3 fun S w0=>hb▸H S w0
theorem rl (n:Nat):n<=n:=Nat.le_refl n
theorem rr {V:AV}:Ref V V:=Ref.rfl'
theorem AllP.r {V:AV} {l:List Prop} (k:AllP l):AllP (Ref V V::l):=.cons Ref.rfl' k
noncomputable def NM (f:Nat) (todo:List Item) (st:St) (Vs:List AV):Option (List AV)×Bool:=
 match Tryz.prog.funcs[f]? with
 | some fn=>(zV NB st fn.results.toList,KE todo&&(Vs.length==1||Vs.all cQ)&&yI (mC Vs))
 | none=>(none,false)
theorem gE {f:Nat} {S0:Nat->Prop} {w0:World} {todo:List Item} {st:St} {r:AV} (Vs:List AV) (href:Ref (mC Vs) r) (he:NM f todo st Vs=(some Vs,true):=by kernel_rfl):Good Tryz.prog f S0 No w0 (eN S0 w0 r) todo st:=by
 unfold NM at he
 split at he
 · rename_i fn hf
   simp only[Prod.mk.injEq,Bool.and_eq_true] at he;obtain⟨h1,⟨h2,h3⟩,h4⟩:=he;refine fF aX hf ?_ h1 h3 h4 href
   match todo,h2 with
   | [],_=>exact .inl rfl
   | .code .ret::k,_=>exact .inr ⟨k,rfl⟩
 · cases he
theorem dc (p:Prop) (h:p:=by decide):p:=h
theorem AllP.oe {l m:List Prop} (h:AllP m) (e:l=m:=by kernel_rfl):AllP l:=e▸h
theorem AllP.on {l:List Prop} (e:l= []:=by kernel_rfl):AllP l:=e▸ .nil
theorem dH:LIM=17592186044416:=rfl
end Go.Av
namespace Go.Av
open Go.RowKit
theorem cZ (b k:Nat) (xs:List Nat):aJ b xs=aJ b (xs.take k)+b^k*aJ b (xs.drop k):=by
 have h:=eW b (xs.take k) (xs.drop k);rw[List.take_append_drop,List.length_take] at h;rcases Nat.le_total k xs.length with hk | hk
 · rw[Nat.min_eq_left hk] at h;exact h
 · rw[h,List.drop_of_length_le hk];simp[aJ]
theorem dN {b:Nat} (hb:0<b) {xs:List Nat} (h:∀ x∈xs,x<b) (k:Nat):aJ b (xs.take k)<b^k:=by
 refine Nat.lt_of_lt_of_le (dY hb fun x hx=>h x (List.mem_of_mem_take hx)) ?_;rw[List.length_take];exact Nat.pow_le_pow_right hb (Nat.min_le_left _ _)
theorem cK {b k:Nat} {xs:List Nat} (h:k<xs.length):aJ b (xs.drop k)=xs.getD k 0+b*aJ b (xs.drop (k+1)):=by
 rw[List.drop_eq_getElem_cons h,aJ];simp[List.getD_eq_getElem?_getD,h]
theorem hZ:∀ {xs:List Nat} {j v:Nat},j<xs.length->aJ b (xs.set j v)+b^j*xs.getD j 0=aJ b xs+b^j*v
 | [],j,v,h=>by simp at h
 | x::xs,0,v,_=>by simp[aJ];omega
 | x::xs,j+1,v,h=>by
   have:=hZ (b:=b) (xs:=xs) (j:=j) (v:=v) (by simpa using h);simp only[List.set_cons_succ,aJ,List.getD_cons_succ,Nat.pow_succ];have h2:=congrArg (b*·) this;simp only[Nat.mul_add] at h2;have e1:b^j*b*xs.getD j 0=b*(b^j*xs.getD j 0):=by rw[Nat.mul_comm (b^j) b,Nat.mul_assoc]
   have e2:b^j*b*v=b*(b^j*v):=by rw[Nat.mul_comm (b^j) b,Nat.mul_assoc]
   omega
theorem iA {b k:Nat} (hb:0<b) {xs ys:List Nat} (hx:∀ x∈xs,x<b) (hd:xs.drop (k+1)=ys.drop (k+1)) (h:xs.getD k 0<ys.getD k 0):aJ b xs<aJ b ys:=by
 rw[cZ b (k+1) xs,cZ b (k+1) ys,hd,aT,aT b ys];have h1:=dN hb hx k;have h2:b^k*(xs.getD k 0+1)<=b^k*ys.getD k 0:=Nat.mul_le_mul_left _ h;rw[Nat.mul_add] at h2;omega
theorem eI (hb:1<b) (hx:Dig b xs) (hy:Dig b ys) (h:xs.length<ys.length):aJ b xs<aJ b ys:=by
 have h1:=dY (by omega:0<b) hx.1;have h2:=hy.low hb (fun e=>by subst e;simp at h);have h3:b^xs.length<=b^(ys.length-1):=Nat.pow_le_pow_right (by omega) (by omega);omega
theorem dR {xs:List Nat} {i j v:Nat} (h:i≠j):(xs.set i v).getD j 0=xs.getD j 0:=by
 simp[List.getD_eq_getElem?_getD,List.getElem?_set_ne h]
theorem Bp (n j:Nat):(List.replicate n 0).getD j 0=0:=by
 rw[List.getD_eq_getElem?_getD,List.getElem?_replicate];split <;> rfl
theorem nH (b n:Nat):aJ b (List.replicate n 0)=0:=mE fun x hx=>by rw[List.mem_replicate] at hx;exact hx.2
theorem vU {b k:Nat} {xs:List Nat} (h:∀ i,k<=i->xs.getD i 0=0):aJ b (xs.drop k)=0:=mE fun x hx=>by
 obtain⟨i,hi,rfl⟩:=List.getElem_of_mem hx;rw[List.length_drop] at hi
 have:=h (k+i) (by omega);rw[List.getElem_drop];simpa[List.getD_eq_getElem?_getD,show k+i<xs.length by omega] using this
theorem oT (xs:List Nat) (k i:Nat):(xs.drop k).getD i 0=xs.getD (k+i) 0:=by
 simp[List.getD_eq_getElem?_getD,List.getElem?_drop]
theorem nI {xs:List Nat} {i k v:Nat} (h:i<k):(xs.set i v).drop k=xs.drop k:=by
 rw[List.drop_set];simp[h]
theorem Cu (h:n<2^B):32*(aD b32 n).length<=B+31:=by
 obtain⟨h1,h2⟩:=aQ (b:=b32) (by decide) n;exact h1.len (by rw[h2];exact h)
def fL (n m:Nat):Int:=if n<m then-1 else if m<n then 1 else 0
theorem uC (h:n<m):fL n m= -1:=by simp[fL,h]
theorem uD (h:m<n):fL n m=1:=by
 have h2:¬ n<m:=by omega
 simp[fL,h2,h]
theorem Dj (n:Nat):fL n n=0:=by simp[fL]
theorem Bq:fL n m<0↔n<m:=by unfold fL;split <;> (try split) <;> omega
theorem bR:0<=fL n m↔m<=n:=by unfold fL;split <;> (try split) <;> omega
theorem oU:fL n m=0↔n=m:=by unfold fL;split <;> (try split) <;> omega
def RefC (cs cs':List AV):Prop:=∀ (ρ:Nat->Nat) (S:Nat->Prop) (w:World) (D:Nat->Prop) (vs:List Value),RelCs ρ S w D cs vs->RelCs ρ S w D cs' vs
theorem RefC.rfl':RefC cs cs:=fun _ _ _ _ _ h=>h
theorem RefC.eq (h:cs=cs'):RefC cs cs':=by subst h;exact .rfl'
theorem RefC.trans {a b c:List AV} (h:RefC a b) (k:RefC b c):RefC a c:=fun _ _ _ _ _ x=>k _ _ _ _ _ (h _ _ _ _ _ x)
theorem RefC.cons (h:RefC [c] [c']) (k:RefC cs cs'):RefC (c::cs) (c'::cs'):=fun ρ S w D vs x=>by
 obtain⟨h1,h2⟩:=x.cut1
 have:=(h _ _ _ _ _ h1).app (k _ _ _ _ _ h2)
 rwa [List.take_append_drop] at this
theorem RefC.tl {c:AV} {cs cs':List AV} (k:RefC cs cs'):RefC (c::cs) (c::cs'):=RefC.cons .rfl' k
theorem Ref.agg (h:RefC cs cs'):Ref (.agg cs) (.agg cs'):=fun ρ S w D v ⟨vs,e,hr⟩=>⟨vs,e,h _ _ _ _ _ hr⟩
theorem kF (h:n<2^B) (k:B<=C):n<2^C:=Nat.lt_of_lt_of_le h (Nat.pow_le_pow_right (by decide) k)
theorem RefC.nat_le (h:B<=C):RefC (.nat n B::cs) (.nat n C::cs):=fun ρ S w D vs x=>by
 cases x with
 | nat xs h1 h2 h3 h4=>exact .nat xs h1 h2 (kF h3 h) h4
theorem RefC.dig_le (h:B<=C):RefC (.dig n B::cs) (.dig n C::cs):=fun ρ S w D vs x=>by
 cases x with
 | dig xs h1 h2 h3 h4=>exact .dig xs h1 h2 (kF h3 h) h4
theorem RefC.z_le (h:B<=C):RefC (.z n B::cs) (.z n C::cs):=fun ρ S w D vs x=>by
 cases x with
 | z h1=>exact .z ((RefC.tl (RefC.nat_le h)) _ _ _ _ _ h1)
theorem RefC.rz_le (h:B<=C):RefC (.rz n B::cs) (.rz n C::cs):=fun ρ S w D vs x=>by
 cases x with
 | rz h1=>exact .rz ((RefC.tl (RefC.dig_le h)) _ _ _ _ _ h1)
theorem RefC.q_le (h:B<=C):RefC (.q x B::cs) (.q x C::cs):=fun ρ S w D vs y=>by
 cases y with
 | q h1=>exact .q (((RefC.z_le h).trans (RefC.tl (RefC.nat_le h))) _ _ _ _ _ h1)
theorem RefC.rq_le (h:B<=C):RefC (.rq x d B::cs) (.rq x d C::cs):=fun ρ S w D vs y=>by
 cases y with
 | rq h0 h1=>exact .rq h0 (((RefC.rz_le h).trans (RefC.tl (RefC.rz_le h))) _ _ _ _ _ h1)
theorem RefC.nil0:RefC (.nil::cs) (.nat 0 B::cs):=fun ρ S w D vs x=>by
 cases x with
 | nil h=>exact .nat [] ⟨by simp,by simp⟩ rfl (Nat.two_pow_pos B) (.list (fun _=>[]) (by simp[aI]) (by unfold big;omega) (by simp[aI]) (by simp[aI]) (by simp[aI]) h)
theorem RefC.nil0d:RefC (.nil::cs) (.dig 0 B::cs):=fun ρ S w D vs x=>by
 cases x with
 | nil h=>exact .dig [] ⟨by simp,by simp⟩ rfl (Nat.two_pow_pos B) (.list (fun _=>[]) (by simp[aO]) (by unfold big;omega) (by simp[aO]) (by simp[aO]) (by simp[aO]) h)
theorem Ref.nil0:Ref .nil (.nat 0 B):=fun ρ S w D v h=>bA (RefC.nil0 _ _ _ _ _ h)
theorem Ref.nil0d:Ref .nil (.dig 0 B):=fun ρ S w D v h=>bA (RefC.nil0d _ _ _ _ _ h)
theorem Ref.nat_le (h:B<=C):Ref (.nat n B) (.nat n C):=fun ρ S w D v x=>bA (RefC.nat_le h _ _ _ _ _ x)
theorem Ref.dig_le (h:B<=C):Ref (.dig n B) (.dig n C):=fun ρ S w D v x=>bA (RefC.dig_le h _ _ _ _ _ x)
theorem RefC.mkz (hB:B<=E) (hs:s=decide (m<0)) (hn:n=m.natAbs):RefC (.bool s:: .nat n B::cs) (.z m E::cs):=fun ρ S w D vs x=>by
 subst hs;subst hn;exact .z ((RefC.tl (RefC.nat_le hB)) _ _ _ _ _ x)
theorem RefC.mkrz (hB:B<=E) (hs:s=decide (m<0)) (hn:n=m.natAbs):RefC (.bool s:: .dig n B::cs) (.rz m E::cs):=fun ρ S w D vs x=>by
 subst hs;subst hn;exact .rz ((RefC.tl (RefC.dig_le hB)) _ _ _ _ _ x)
theorem RefC.mkq (hB:B<=E) (hC:C<=E) (hn:n=x.num) (hd:d=x.den-1):RefC (.z n B:: .nat d C::cs) (.q x E::cs):=fun ρ S w D vs y=>by
 subst hn;subst hd;exact .q (((RefC.z_le hB).trans (RefC.tl (RefC.nat_le hC))) _ _ _ _ _ y)
theorem RefC.mkrq {x:Rat} {n m:Int} {d B C E:Nat} {cs:List AV} (hB:B<=E) (hC:C<=E) (hn:n=x.num) (hm:m=(d:Int)) (hd:d=x.den\/d=0/\x.den=1):RefC (.rz n B:: .rz m C::cs) (.rq x d E::cs):=fun ρ S w D vs y=>by
 subst hn;subst hm;exact .rq hd (((RefC.rz_le hB).trans (RefC.tl (RefC.rz_le hC))) _ _ _ _ _ y)
theorem RefC.rz0 {B:Nat} {cs:List AV}:RefC (.bool false:: .nil::cs) (.rz 0 B::cs):=(RefC.tl (RefC.nil0d (B:=B))).trans (RefC.mkrz (Nat.le_refl _) (by decide) (by decide))
theorem RefC.rq0 {B:Nat} {cs:List AV}:RefC (.bool false:: .nil:: .bool false:: .nil::cs) (.rq 0 0 B::cs):=
 (RefC.tl (RefC.tl (RefC.rz0 (B:=B)))).trans ((RefC.rz0 (B:=B)).trans (RefC.mkrq (Nat.le_refl _) (Nat.le_refl _) (by decide) (by decide) (.inr ⟨rfl,by decide⟩)))
section
theorem Dk (h:RelCs ρ S w D (.nat n B::cs) vs):n<2^B:=by
 cases h with
 | nat xs h1 h2 h3 h4=>exact h3
theorem qY (h:RelCs ρ S w D (.dig n B::cs) vs):n<2^B:=by
 cases h with
 | dig xs h1 h2 h3 h4=>exact h3
theorem KG (h:RelCs ρ S w D (.z n B::cs) vs):n.natAbs<2^B:=by
 cases h with
 | z h1=>
   cases h1 with
   | bool h2=>exact Dk h2
theorem Cv (h:RelCs ρ S w D (.rz n B::cs) vs):n.natAbs<2^B:=by
 cases h with
 | rz h1=>
   cases h1 with
   | bool h2=>exact qY h2
theorem NN (h:RelCs ρ S w D (.q x B::cs) vs):x.num.natAbs<2^B/\x.den-1<2^B:=by
 cases h with
 | q h1=>exact⟨KG h1,Dk h1.cut1.2⟩
theorem Lw (h:RelCs ρ S w D (.rq x d B::cs) vs):x.num.natAbs<2^B/\d<2^B/\(d=x.den\/d=0/\x.den=1):=by
 cases h with
 | rq h0 h1=>exact⟨Cv h1,by simpa using Cv h1.cut1.2,h0⟩
end
section
theorem Good.aggf {P:Program} {f:FuncId} {S0 C0:Nat->Prop} {w0:World} {Post:Value->World->Prop} {todo:List Item} {st:St} (t:Nat) {cs:List AV} {p:Prop} (ht:st.σ.getD t .any= .agg cs) (hp:∀ ρ S w D vs,RelCs ρ S w D cs vs->p) (hg:p->Good P f S0 C0 w0 Post todo st):Good P f S0 C0 w0 Post todo st:=
 Good.fact t ht rfl (fun ρ S w D v hv=>by obtain⟨vs,_,h⟩:=hv;exact hp _ _ _ _ _ h) hg
theorem Good.zlt (t:Nat) (ht:st.σ.getD t .any= .agg (.z n B::cs)) (hg:n.natAbs<2^B->Good P f S0 C0 w0 Post todo st):Good P f S0 C0 w0 Post todo st:=
 Good.aggf t ht (fun _ _ _ _ _ h=>KG h) hg
theorem Good.rzlt (t:Nat) (ht:st.σ.getD t .any= .agg (.rz n B::cs)) (hg:n.natAbs<2^B->Good P f S0 C0 w0 Post todo st):Good P f S0 C0 w0 Post todo st:=
 Good.aggf t ht (fun _ _ _ _ _ h=>Cv h) hg
theorem Good.qlt (t:Nat) (ht:st.σ.getD t .any= .agg (.q x B::cs)) (hg:x.num.natAbs<2^B->x.den-1<2^B->Good P f S0 C0 w0 Post todo st):Good P f S0 C0 w0 Post todo st:=
 Good.aggf t ht (fun _ _ _ _ _ h=>NN h) fun h=>hg h.1 h.2
theorem Good.rqlt (t:Nat) (ht:st.σ.getD t .any= .agg (.rq x d B::cs)) (hg:x.num.natAbs<2^B->d<2^B->(d=x.den\/d=0/\x.den=1)->Good P f S0 C0 w0 Post todo st):Good P f S0 C0 w0 Post todo st:=
 Good.aggf t ht (fun _ _ _ _ _ h=>Lw h) fun h=>hg h.1 h.2.1 h.2.2
end
theorem Ref.tup (h:∀ ρ S w D us,RelVs ρ S w D vs us->RelVs ρ S w D vs' us):Ref (.tup vs) (.tup vs'):=fun ρ S w D v ⟨us,e,hr⟩=>⟨us,e,h _ _ _ _ _ hr⟩
theorem Ref.to0 (h:Ref V V') (hn:cQ V=true) (hn':cQ V'=true) (x:RelV0 ρ S w D V v):RelV0 ρ S w D V' v:=
 RelV.to0 (h _ _ _ _ _ (RelV.of0 x)) hn'
theorem Ref.tup2 (ha:Ref a a') (hb:Ref b b') (n1:cQ a=true) (n2:cQ b=true) (n3:cQ a'=true) (n4:cQ b'=true):Ref (.tup [a,b]) (.tup [a',b']):=
 Ref.tup fun ρ S w D us h=>by
   match us,h with
   | [u,v],⟨h1,h2,_⟩=>exact⟨ha.to0 n1 n3 h1,hb.to0 n2 n4 h2,trivial⟩
theorem Ref.tup3 (ha:Ref a a') (hb:Ref b b') (hc:Ref c c') (n1:cQ a=true) (n2:cQ b=true) (n5:cQ c=true) (n3:cQ a'=true) (n4:cQ b'=true) (n6:cQ c'=true):Ref (.tup [a,b,c]) (.tup [a',b',c']):=
 Ref.tup fun ρ S w D us h=>by
   match us,h with
   | [u,v,x],⟨h1,h2,h3,_⟩=>exact⟨ha.to0 n1 n3 h1,hb.to0 n2 n4 h2,hc.to0 n5 n6 h3,trivial⟩
def IN (l:Nat) (b:ABlk):AV->AV
 | .agg cs=>.agg (cs.map (AR l b))
 | .fn f cs=>.fn f (cs.map (AR l b))
 | .fnm f ag cs=>.fnm f ag (cs.map (AR l b))
 | c=>AR l b c
def zX (l:Nat) (b:ABlk):AV->List Prop
 | .agg cs=>lV l b cs
 | .fn _ cs=>lV l b cs
 | .fnm _ _ cs=>lV l b cs
 | c=>xY l b c
def zY (l:Nat) (b:ABlk):List AV->List Prop
 | []=>[]
 | V::σ=>zX l b V++zY l b σ
def tW (l:Nat) (b:ABlk) (c:ABlk):ABlk:=if c.closed then c else { c with elems:=c.elems.map (·.map (AR l b)) }
def uE (l:Nat) (b:ABlk):List (List AV)->List Prop
 | []=>[]
 | el::es=>lV l b el++uE l b es
def qZ (l:Nat) (b:ABlk):List (Option ABlk)->List Prop
 | []=>[]
 | none::h=>qZ l b h
 | some c::h=>(if c.closed then [] else uE l b c.elems)++qZ l b h
theorem tL:∀ {σ:List AV},AllP (zY l b σ)->∀ t,AllP (zX l b (σ.getD t .any))
 | [],_,t=>fun p h=>by simp[zX,xY] at h
 | V::σ,h,0=>by simpa using (AllP.app h).1
 | V::σ,h,t+1=>by simpa using tL (AllP.app h).2 t
theorem tM:∀ {es:List (List AV)},AllP (uE l b es)->∀ (i:Nat) (el:List AV),es[i]? =some el->AllP (lV l b el)
 | [],_,i,el,h=>by simp at h
 | e::es,h,0,el,he=>by simp at he;subst he;exact(AllP.app h).1
 | e::es,h,i+1,el,he=>tM (AllP.app h).2 i el (by simpa using he)
theorem nJ:∀ {h:List (Option ABlk)},AllP (qZ l b h)->∀ (i:Nat) (c:ABlk),h[i]? =some (some c)->c.closed=false->AllP (uE l b c.elems)
 | [],_,i,c,he,_=>by simp at he
 | none::h,ho,0,c,he,_=>by simp at he
 | some d::h,ho,0,c,he,hc=>by
   simp at he;subst he
   have:=(AllP.app ho).1
   rwa [hc] at this
 | none::h,ho,i+1,c,he,hc=>nJ (h:=h) ho i c (by simpa using he) hc
 | some d::h,ho,i+1,c,he,hc=>nJ (AllP.app ho).2 i c (by simpa using he) hc
theorem lI (hB:RelB ρ S w D l b) (hc:(b.closed||b.elems.all (·.all noRef))=true) (hS:∀ k,S' k->S k) (hl:¬ S' (ρ l)):
   ∀ {cs:List AV} {vs:List Value},AllP (lV l b cs)->RelCs ρ S w D cs vs->RelCs ρ S' w D (cs.map (AR l b)) vs
 | [],vs,_,h=>by
   cases h;exact .done
 | c ::cs,vs,ho,h=>by
   obtain⟨o1,o2⟩:=AllP.app ho;obtain⟨h1,h2⟩:=h.cut1;have hk:∀ D',Keep ρ S w D' ρ S' w:=fun D'=>⟨Nat.le_refl _,fun _ _=>⟨rfl,fun arr ty h=>⟨arr,ty,h,Nat.le_refl _⟩⟩,fun k _ hs=>⟨fun h=>hs (hS k h),rfl⟩⟩
   have key:RelCs ρ S' w D [AR l b c] (vs.take (wd c)):=by
     cases c
     case own k e m n=>
       match vs,h1 with
       | v::vs,h1=>
         have:=qQ hB hc hS hl (V:=.own k e m n) (v:=v) o1 h1;simp only[AR] at this ⊢
         split at this <;> rename_i hh
         · rw[if_pos hh];exact this
         · rw[if_neg hh];exact this
     case ptr k e i o=>
       match vs,h1 with
       | v::vs,h1=>
         have:=qQ hB hc hS hl (V:=.ptr k e i o) (v:=v) o1 h1;simp only[AR] at this ⊢
         split at this <;> rename_i hh
         · rw[if_pos hh];exact this
         · rw[if_neg hh];exact this
     all_goals exact h1.keep _ (fun _ h=>h) (hk _)
   have:=key.app (lI hB hc hS hl o2 h2);rw[List.take_append_drop] at this;exact this
theorem Ft (hB:RelB ρ S w D l b) (hc:(b.closed||b.elems.all (·.all noRef))=true) (hS:∀ k,S' k->S k) (hl:¬ S' (ρ l))
   (ho:AllP (zX l b V)) (h:RelV ρ S w D V v):RelV ρ S' w D (IN l b V) v:=by
 cases V
 case agg cs=>
   obtain⟨vs,e,hr⟩:=h;exact⟨vs,e,lI hB hc hS hl ho hr⟩
 case fn f cs=>
   have h':RelCs ρ S w D [.fn f cs] [v]:=h;cases h' with
   | fn h1 h2=>exact bA (.fn (lI hB hc hS hl ho h1) .done)
 case fnm f ag cs=>
   have h':RelCs ρ S w D [.fnm f ag cs] [v]:=h;cases h' with
   | fnm h1 h2=>exact bA (.fnm (lI hB hc hS hl ho h1) .done)
 case own k e m n=>exact qQ hB hc hS hl (V:=.own k e m n) ho h
 case ptr k e i o=>exact qQ hB hc hS hl (V:=.ptr k e i o) ho h
 all_goals exact h.keep (fun _ h=>h) ⟨Nat.le_refl _,fun _ _=>⟨rfl,fun arr ty h=>⟨arr,ty,h,Nat.le_refl _⟩⟩,fun k _ hs=>⟨fun h=>hs (hS k h),rfl⟩⟩
section
theorem Good.freezeD (l:Nat) (hl:h[l]? =some (some b)) (hc:(b.closed||b.elems.all (·.all noRef))=true)
   (ho:AllP (zY l b σ)) (hoh:AllP (qZ l b (h.set l none))) (hg:Good P f S0 C0 w0 Post todo ⟨σ.map (IN l b),(h.set l none).map (Option.map (tW l b))⟩):Good P f S0 C0 w0 Post todo ⟨σ,h⟩:=by
 refine hg.map fun ρ D a w R=>⟨ρ,D, ?_⟩
 obtain⟨R',hnl,hS⟩:=R.freeze hl
 have hset:∀ (i:Nat) (c:ABlk),(h.set l none)[i]? =some (some c)->h[i]? =some (some c):=by
   intro i c hc;rw[List.getElem?_set] at hc
   split at hc
   · split at hc <;> cases hc
   · exact hc
 have hget:∀ (i:Nat) (c:ABlk),((h.set l none).map (Option.map (tW l b)))[i]? =some (some c)->∃ d,(h.set l none)[i]? =some (some d)/\c=tW l b d:=by
   intro i c hc;rw[List.getElem?_map] at hc;cases hx:(h.set l none)[i]? with
   | none=>rw[hx] at hc;cases hc
   | some x=>
     rw[hx] at hc;simp only[Option.map_some] at hc;injection hc with hc;obtain⟨d,hd,e⟩:=Option.map_eq_some_iff.1 hc;exact⟨d,by rw[hd],e.symm⟩
 have hget':∀ (i:Nat) (d:ABlk),(h.set l none)[i]? =some (some d)->((h.set l none).map (Option.map (tW l b)))[i]? =some (some (tW l b d)):=by
   intro i d hd;rw[List.getElem?_map,hd];rfl
 have hSof:Sof S0 ρ ((h.set l none).map (Option.map (tW l b)))=Sof S0 ρ (h.set l none):=by
   funext k;apply propext
   constructor
   · rintro(h | ⟨i,c,hc,e⟩)
     · exact .inl h
     · obtain⟨d,hd,_⟩:=hget i c hc;exact .inr ⟨i,d,hd,e⟩
   · rintro(h | ⟨i,c,hc,e⟩)
     · exact .inl h
     · exact .inr ⟨i,_,hget' i c hc,e⟩
 have hB:=(R.heap l b hl).2
 exact {
   defers:=R.defers
   len:=by rw[R.len];simp
   tmps:=fun t v hv=>by
     have h1:=Ft hB hc hS hnl (tL ho t) (R.tmps t v hv)
     have e:(σ.map (IN l b)).getD t .any=IN l b (σ.getD t .any):=by
       simp only[List.getD_eq_getElem?_getD,List.getElem?_map];cases σ[t]? <;> rfl
     simp only[hSof];rw[e];exact h1
   heap:=fun i c hci=>by
     obtain⟨d,hd,rfl⟩:=hget i c hci;simp only[hSof];refine⟨(R'.heap i d hd).1, ?_⟩;cases hcl:d.closed with
     | true=>
       have e:tW l b d=d:=by unfold tW;rw[hcl];rfl
       rw[e];exact(R'.heap i d hd).2
     | false=>
       have e:tW l b d={ d with elems:=d.elems.map (·.map (AR l b)) }:=by unfold tW;rw[hcl];rfl
       rw[e];obtain⟨arr,h1,h2,h3⟩:=(R.heap i d (hset i d hd)).2;refine⟨arr,h1,by simpa using h2,fun j el hj=> ?_⟩;rw[List.getElem?_map] at hj;obtain⟨el0,he0,rfl⟩:=Option.map_eq_some_iff.1 hj;have h4:=h3 j el0 he0;simp only[hcl] at h4 ⊢;exact lI hB hc hS hnl (tM (nJ hoh i d hd hcl) j el0 he0) h4
   inj:=fun i j c d hc hd e=>by
     obtain⟨c',hc',_⟩:=hget i c hc;obtain⟨d',hd',_⟩:=hget j d hd;exact R'.inj i j c' d' hc' hd' e
   lt:=R.lt
   dlt:=fun i hi=>by
     have:=R'.dlt i hi;simpa using this
   chg:=R.chg
   mine:=fun i c hci=>by
     obtain⟨d,hd,rfl⟩:=hget i c hci
     have:=R'.mine i d hd;have e:(tW l b d).pin=d.pin:=by unfold tW;split <;> rfl
     unfold DY at this ⊢
     rw[e];exact this }
end
theorem Br {p o y c x b c' A Y X:Nat} (h1:o+y+c=x+b*c') (h2:A+Y=X+p*c):A+p*o+(Y+p*y)=X+p*x+p*b*c':=by
 have h:=congrArg (p*·) h1;simp only[Nat.mul_add] at h;rw[Nat.mul_assoc];omega
theorem Bs {p o t c xy b V V' A:Nat} (ht:t=c+xy+o) (hV:V'+p*o=V+p*(t % b)) (h:V+p*c=A):V'+p*b*(t/b)=A+p*xy:=by
 have h1:p*t=p*b*(t/b)+p*(t % b):=by
   rw[Nat.mul_assoc, <- Nat.mul_add,Nat.div_add_mod]
 have h2:p*t=p*c+p*xy+p*o:=by rw[ht,Nat.mul_add,Nat.mul_add]
 omega
theorem Fu {p o t c x b k A X:Nat} (ht:t=x*k+c) (ho:o=t % b) (h:A+p*c=X*k):A+p*o+p*b*(t/b)=(X+p*x)*k:=by
 have h1:p*t=p*b*(t/b)+p*(t % b):=by
   rw[Nat.mul_assoc, <- Nat.mul_add,Nat.div_add_mod]
 have h2:p*t=p*x*k+p*c:=by rw[ht,Nat.mul_add,Nat.mul_assoc]
 subst ho;rw[Nat.add_mul];omega
theorem Fv {p o x y b k A X:Nat} {r0:Nat} (ho:o*k+x % k=x+b*(y % k)) (h:A*k+r0=X+p*(x % k)):(A+p*o)*k+r0=X+p*x+p*b*(y % k):=by
 have h1:=congrArg (p*·) ho;simp only[Nat.mul_add] at h1;rw[Nat.add_mul,Nat.mul_assoc p o k,Nat.mul_assoc p b];omega
theorem sR (hx:x<4294967296) (hy:y<4294967296):x*y<=18446744065119617025:=by
 have:=Nat.mul_le_mul (Nat.le_sub_one_of_lt hx) (Nat.le_sub_one_of_lt hy);omega
theorem Cw {b v1 v0 u g r W P w' v v':Nat} (hW:W=u*P+w') (hw:w'<P) (hv:v=(v1*b+v0)*P+v') (hu:∃ u2 u0,u=u2*b+u0/\g*v1+r=u2/\r*b+u0<g*v0):W<g*v:=by
 obtain⟨u2,u0,e,h1,h2⟩:=hu;have e1:g*(v1*b+v0)=g*v1*b+g*v0:=by rw[Nat.mul_add,Nat.mul_assoc]
 have e2:u2*b=g*v1*b+r*b:=by rw[<- h1,Nat.add_mul]
 have h3:u+1<=g*(v1*b+v0):=by omega
 have h4:=Nat.mul_le_mul_right P h3;have e3:g*v=g*(v1*b+v0)*P+g*v':=by rw[hv,Nat.mul_add,Nat.mul_assoc]
 rw[Nat.add_mul] at h4;omega
theorem yO {b v1 v0 u g r W P w' v v':Nat} (hW:W=u*P+w') (hv:v=(v1*b+v0)*P+v') (hv':v'<P) (hP:b*P<=v) (hg:g<=b)
   (hu:∃ u2 u0,u=u2*b+u0/\g*v1+r=u2/\g*v0<=r*b+u0):g*v<=W+v:=by
 obtain⟨u2,u0,e,h1,h2⟩:=hu;have e1:g*(v1*b+v0)=g*v1*b+g*v0:=by rw[Nat.mul_add,Nat.mul_assoc]
 have e2:u2*b=g*v1*b+r*b:=by rw[<- h1,Nat.add_mul]
 have h3:g*(v1*b+v0)<=u:=by omega
 have h4:=Nat.mul_le_mul_right P h3;have e3:g*v=g*(v1*b+v0)*P+g*v':=by rw[hv,Nat.mul_add,Nat.mul_assoc]
 have h5:g*v'<=b*P:=Nat.mul_le_mul hg (Nat.le_of_lt hv');omega
theorem Bt (hW:W=u*P+w') (hw:w'<P) (hv:v=(v1*b+v0)*P+v') (hb:0<b) (h1:0<v1) (hu:u=u2*b+u0) (h0:u0<b):W<(u2/v1+1)*v:=by
 have h2:u2<(u2/v1+1)*v1:=by
   have:=Nat.div_add_mod u2 v1
   have:=Nat.mod_lt u2 h1;rw[Nat.add_mul,Nat.one_mul,Nat.mul_comm];omega
 have h3:(u2+1)*b<=(u2/v1+1)*v1*b:=Nat.mul_le_mul_right b h2
 have h4:u+1<=(u2/v1+1)*(v1*b+v0):=by
   rw[Nat.mul_add, <- Nat.mul_assoc];rw[Nat.add_mul] at h3;omega
 have h5:=Nat.mul_le_mul_right P h4;have e3:(u2/v1+1)*v=(u2/v1+1)*(v1*b+v0)*P+(u2/v1+1)*v':=by rw[hv,Nat.mul_add,Nat.mul_assoc]
 rw[Nat.add_mul u 1] at h5;omega
def fJ (n m:Int):Int:=if n<m then-1 else if m<n then 1 else 0
def jI (x y:Rat):Int:=if x<y then-1 else if y<x then 1 else 0
theorem IP (x y:Rat):fJ (x.num*(y.den:Int)) (y.num*(x.den:Int))=jI x y:=by
 unfold fJ jI;simp only[Rat.lt_iff]
theorem fW:jI x y=0↔x=y:=by
 unfold jI;split
 · rename_i h
   have:=Rat.ne_of_lt h;simp[this]
 · rename_i h
   split
   · rename_i h2
     have:=Rat.ne_of_gt h2;simp[this]
   · rename_i h2
     simp only[true_iff];exact Rat.le_antisymm (Rat.not_lt.1 h2) (Rat.not_lt.1 h)
theorem vV (hn:n<2^B) (hm:m<2^C):n*m<2^(B+C):=by
 rw[Nat.pow_add];rcases Nat.eq_zero_or_pos m with rfl | h
 · simp;exact Nat.mul_pos (Nat.two_pow_pos _) (Nat.two_pow_pos _)
 · exact Nat.mul_lt_mul_of_lt_of_le hn (Nat.le_of_lt hm) (Nat.two_pow_pos _)
theorem sS (hd:d≠0):(mkRat n d).num=n/((n.natAbs.gcd d:Nat):Int):=by
 rw[Rat.num_mkRat,if_neg hd,Nat.gcd_comm]
theorem oV (hd:d≠0):(mkRat n d).den=d/n.natAbs.gcd d:=by
 rw[Rat.den_mkRat,if_neg hd,Nat.gcd_comm]
theorem zZ (hd:d≠0):(mkRat n d).num.natAbs=n.natAbs/n.natAbs.gcd d:=by
 rw[sS hd,Int.natAbs_ediv_of_dvd (by rw[<- Int.dvd_natAbs,Int.ofNat_dvd];exact Nat.gcd_dvd_left _ _),Int.natAbs_natCast]
theorem Em (hd:d≠0):((mkRat n d).num<0)↔n<0:=by
 rw[sS hd];have hg:0<n.natAbs.gcd d:=Nat.gcd_pos_of_pos_right _ (by omega);constructor
 · intro h
   rcases Int.lt_or_le n 0 with h' | h'
   · exact h'
   · have:=Int.ediv_nonneg h' (Int.natCast_nonneg (n.natAbs.gcd d));omega
 · intro h
   exact Int.ediv_neg_of_neg_of_pos h (by omega)
theorem Lx (a b:Rat):mkRat (a.num*(b.den:Int)+b.num*(a.den:Int)) (a.den*b.den)=a+b:=(Rat.add_def' a b).symm
theorem Fw (a b:Rat):mkRat (a.num*b.num) (a.den*b.den)=a*b:=(Rat.mul_def' a b).symm
theorem Bu (a:Rat):a.den-1+1=a.den:=by have:=a.den_pos;omega
def iM (s:Bool) (n:Nat):Int:=if s then-(n:Int) else n
theorem uF (s:Bool) (n:Nat):decide (iM s n<0)=(s&&decide (0<n)):=by
 cases s
 · simp[iM]
 · by_cases h:0<n <;> simp[iM,h]
theorem vW (s:Bool) (n:Nat):(iM s n).natAbs=n:=by cases s <;> simp[iM]
theorem vX (n:Int):iM (decide (n<0)) n.natAbs=n:=by
 unfold iM;split <;> simp_all <;> omega
theorem IQ (n:Int) (m:Nat):iM (decide (n<0)) (n.natAbs*m)=n*(m:Int):=by
 unfold iM
 by_cases h:n<0
 · simp only[h,decide_true,if_true,Int.natCast_mul]
   rw[<- Int.neg_mul];congr 1;omega
 · simp only[h,decide_false,Bool.false_eq_true,if_false,Int.natCast_mul]
   congr 1;omega
theorem vY (n m:Int):iM (decide (n<0) !=decide (m<0)) (n.natAbs*m.natAbs)=n*m:=by
 have e1:(n.natAbs:Int)=if n<0 then-n else n:=by split <;> omega
 have e2:(m.natAbs:Int)=if m<0 then-m else m:=by split <;> omega
 unfold iM;rw[Int.natCast_mul,e1,e2]
 by_cases h:n<0 <;> by_cases k:m<0 <;> simp[h,k,Int.neg_mul,Int.mul_neg]
theorem Fx (a b:Rat) (hb:b≠0):mkRat (iM (decide (a.num<0) !=decide (b.num<0)) (a.num.natAbs*b.den)) (a.den*b.num.natAbs)=a/b:=by
 have hn:b.num≠0:=fun h=>hb (Rat.num_eq_zero.1 h)
 have e:iM (decide (a.num<0) !=decide (b.num<0)) (a.num.natAbs*b.den)=a.num*(b.num.sign*(b.den:Int)):=by
   have e1:(a.num.natAbs:Int)=if a.num<0 then-a.num else a.num:=by split <;> omega
   unfold iM;rw[Int.natCast_mul,e1];rcases Int.lt_or_gt_of_ne hn with h | h
   · rw[Int.sign_eq_neg_one_of_neg h]
     by_cases k:a.num<0 <;> simp[k,h,Int.neg_mul,Int.mul_neg]
   · rw[Int.sign_eq_one_of_pos h]
     have h':¬ b.num<0:=by omega
     by_cases k:a.num<0 <;> simp[k,h',Int.neg_mul,Int.mul_neg]
 rw[e,Rat.div_def, <- Fw,Rat.num_inv,Rat.den_inv,if_neg hn]
def bK (X:List (List AV)):List Nat:=X.map fun
 | [.int _ n]=>n.toNat
 | _=>0
theorem bY (xs:List Nat):bK (aO xs)=xs:=by
 unfold bK aO;rw[List.map_map]
 conv=>rhs;rw[<- List.map_id xs]
 exact List.map_congr_left fun x _=>rfl
theorem Ref.dig (h:Dig b10k xs) (hn:aJ b10k xs=n) (hB:n<2^B):Ref (.list 1 (aO xs)) (.dig n B):=by
 intro ρ S w D v hv;exact bA (.dig xs h hn hB hv)
theorem Ref.opnd:Ref (.dig n B) (.list 1 (aO (aD b10k n))):=by
 intro ρ S w D v hv;have h':RelCs ρ S w D [.dig n B] [v]:=hv;cases h' with
 | dig xs h1 h2 h3 h4=>
   obtain⟨g1,g2⟩:=aQ (b:=b10k) (by decide) n;rw[<- Dig.uniq (by decide) h1 g1 (by rw[h2,g2])];exact h4
theorem Aa (ds:List Nat) (i v:Nat):(aO ds).set i [AV.int .i64 ((v:Nat):Int)]=aO (ds.set i v):=by simp[aO,List.map_set]
theorem Dl (n:Nat):List.replicate n [AV.int .i64 (0:Int)]=aO (List.replicate n 0):=by simp[aO]
theorem Fy (ds:List Nat) (n:Nat):(aO ds).take n=aO (ds.take n):=by simp[aO]
theorem vZ (a:List Nat) (v:Nat):aO a++ [[AV.int .i64 ((v:Nat):Int)]]=aO (a++ [v]):=by simp[aO]
theorem En (n:Nat):b10k^n<=2^(14*n):=by
 rw[Nat.pow_mul];exact Nat.pow_le_pow_left (by decide) n
theorem yP (n:Nat):2^(13*n)<=b10k^n:=by
 rw[Nat.pow_mul];exact Nat.pow_le_pow_left (by decide) n
theorem Eo (h:∀ x∈xs,x<b10k):aJ b10k xs<2^(14*xs.length):=Nat.lt_of_lt_of_le (dY (by decide) h) (En _)
theorem Dig.len10 (h:Dig b10k xs) (hB:aJ b10k xs<2^B):13*xs.length<=B+12:=by
 by_cases hx:xs= []
 · subst hx;simp
 · have h1:=Nat.lt_of_le_of_lt (Nat.le_trans (yP _) (h.low (by decide) hx)) hB
   have:=(Nat.pow_lt_pow_iff_right (by decide:1<2)).1 h1;have:0<xs.length:=List.length_pos_iff.2 hx;omega
theorem gW (b:Nat):aD b 0= []:=rfl
theorem KI (hb:1<b) (hn:n≠0):aD b n=n % b::aD b (n/b):=by
 obtain⟨h1,h2⟩:=aQ hb n;obtain⟨h3,h4⟩:=aQ hb (n/b);refine Dig.uniq hb h1 ⟨fun x hx=> ?_,fun hl=> ?_⟩ (by rw[h2,aJ,h4];have:=Nat.div_add_mod n b;omega)
 · rcases List.mem_cons.1 hx with rfl | hx
   · exact Nat.mod_lt _ (by omega)
   · exact h3.1 x hx
 · cases hd:aD b (n/b) with
   | nil=>
     rw[hd] at hl h4;simp at hl;simp[aJ] at h4
     have:=Nat.div_add_mod n b;rw[<- h4,hl] at this;omega
   | cons y ys=>
     rw[hd,List.getLast?_cons_cons, <- hd] at hl;exact h3.2 hl
theorem Cx (hb:1<b):aD b n= []↔n=0:=by
 constructor
 · intro h
   have:=(aQ hb n).2;rw[h] at this;exact this.symm
 · rintro rfl;rfl
theorem dA (hb:1<b):0<(aD b n).length↔0<n:=by
 rw[List.length_pos_iff,ne_eq,Cx hb];omega
theorem gF (hb:1<b) (h:n<b^k):(aD b n).length<=k:=by
 obtain⟨h1,h2⟩:=aQ hb n
 by_cases hx:aD b n= []
 · rw[hx];simp
 · have h3:=h1.low hb hx
   rw[h2] at h3
   have:=(Nat.pow_lt_pow_iff_right hb).1 (Nat.lt_of_le_of_lt h3 h);have:0<(aD b n).length:=List.length_pos_iff.2 hx;omega
theorem iU (hb:1<b):n<b^(aD b n).length:=by
 obtain⟨h1,h2⟩:=aQ hb n
 have:=dY (by omega:0<b) h1.1
 rwa [h2] at this
theorem oW (w n:Nat) (h:n<2^w):(BitVec.ofInt w (n:Int)).toNat=n:=by
 rw[BitVec.ofInt_natCast,BitVec.toNat_ofNat,Nat.mod_eq_of_lt h]
theorem Fz {n:Nat} (h:n<2^32):IntKind.u32.wrap (n:Int)=(n:Int):=by
 rw[vQ];congr 1;exact Nat.mod_eq_of_lt h
theorem Ly {n:Nat} (h:n<2^64):IntKind.u64.wrap (n:Int)=(n:Int):=by
 rw[vR];congr 1;exact Nat.mod_eq_of_lt h
theorem or32 {a b:Nat} (ha:a<2^32) (hb:b<2^32):IntKind.u32.wrap ((BitVec.ofInt 32 (a:Int)||| BitVec.ofInt 32 (b:Int)).toNat:Int)=((a||| b:Nat):Int):=by
 rw[BitVec.toNat_or,oW 32 a ha,oW 32 b hb,Fz (Nat.or_lt_two_pow ha hb)]
theorem or64 {a b:Nat} (ha:a<2^64) (hb:b<2^64):IntKind.u64.wrap ((BitVec.ofInt 64 (a:Int)||| BitVec.ofInt 64 (b:Int)).toNat:Int)=((a||| b:Nat):Int):=by
 rw[BitVec.toNat_or,oW 64 a ha,oW 64 b hb,Ly (Nat.or_lt_two_pow ha hb)]
theorem nK (hc:c<2^k):(2^k*a)||| c=2^k*a+c:=(Nat.two_pow_add_eq_or_of_lt hc a).symm
theorem Ep (hk:k<=32) (hx:x<2^32) (hc:c<2^k):
   (x*2^k % 2^32)||| c=(x*2^k+c) % 2^32/\x/2^(32-k)=(x*2^k+c)/2^32/\x/2^(32-k)<2^k:=by
 have e:2^32=2^k*2^(32-k):=by rw[<- Nat.pow_add];congr 1;omega
 have e1:(x*2^k+c)/2^k=x:=by
   rw[Nat.mul_comm,Nat.mul_add_div (Nat.two_pow_pos k),Nat.div_eq_of_lt hc];simp
 have e2:(x*2^k+c) % 2^k=c:=by
   rw[Nat.mul_comm,Nat.mul_add_mod,Nat.mod_eq_of_lt hc]
 refine⟨?_, ?_, ?_⟩
 · have h1:x*2^k % 2^32=2^k*(x % 2^(32-k)):=by rw[e,Nat.mul_comm x,Nat.mul_mod_mul_left]
   have h2:(x*2^k+c) % 2^32=c+2^k*(x % 2^(32-k)):=by rw[e,Nat.mod_mul,e1,e2]
   rw[h1,h2,nK hc];omega
 · rw[e, <- Nat.div_div_eq_div_mul,e1]
 · rw[Nat.div_lt_iff_lt_mul (Nat.two_pow_pos _), <- e];exact hx
theorem Er (hk:k<=32) (hx:x<2^32):
   ((x/2^k)||| (y*2^(32-k) % 2^32))*2^k+x % 2^k=x+2^32*(y % 2^k)/\((x/2^k)||| (y*2^(32-k) % 2^32))<2^32:=by
 have e:2^32=2^k*2^(32-k):=by rw[<- Nat.pow_add];congr 1;omega
 have h1:x/2^k<2^(32-k):=by
   rw[Nat.div_lt_iff_lt_mul (Nat.two_pow_pos _),Nat.mul_comm, <- e];exact hx
 have h2:y*2^(32-k) % 2^32=2^(32-k)*(y % 2^k):=by
   rw[e,Nat.mul_mod_mul_right,Nat.mul_comm]
 have h3:((x/2^k)||| (y*2^(32-k) % 2^32))=2^(32-k)*(y % 2^k)+x/2^k:=by
   rw[h2,Nat.or_comm,nK h1]
 constructor
 · rw[h3,Nat.add_mul,e]
   have:=Nat.div_add_mod x (2^k);rw[Nat.mul_comm (x/2^k)]
   have e3:2^(32-k)*(y % 2^k)*2^k=2^k*2^(32-k)*(y % 2^k):=by
     rw[Nat.mul_comm _ (2^k),Nat.mul_assoc]
   omega
 · rw[h3]
   have:y % 2^k<2^k:=Nat.mod_lt _ (Nat.two_pow_pos _);have h4:2^(32-k)*(y % 2^k+1)<=2^(32-k)*2^k:=Nat.mul_le_mul_left _ this;have e4:2^(32-k)*2^k=2^32:=by rw[Nat.mul_comm, <- e]
   rw[Nat.mul_add,e4] at h4;omega
theorem IR (v:BitVec (w+1)):v.toNat/2^w=if v.msb then 1 else 0:=by
 rw[BitVec.msb_eq_decide]
 have:=v.isLt;rw[Nat.pow_succ] at this
 by_cases h:2^w<=v.toNat
 · simp only[Nat.add_sub_cancel,h,decide_true,if_true]
   exact Nat.div_eq_of_lt_le (by omega) (by omega)
 · simp only[Nat.add_sub_cancel,h,decide_false,Bool.false_eq_true,if_false]
   exact Nat.div_eq_of_lt (by omega)
theorem FC (hx:x<2^32) (hy:y<2^32) (hc:c<=1):
   ((~~~(BitVec.ofNat 32 x)&&& BitVec.ofNat 32 y)||| (~~~(BitVec.ofNat 32 x^^^BitVec.ofNat 32 y)&&& BitVec.ofNat 32 (x+2^32+2^32-y-c))).toNat/2^31=if x<y+c then 1 else 0:=by
 rw[show ∀ v:BitVec 32,v.toNat/2^31=if v.msb then 1 else 0 from fun v=>IR (w:=31) v];have e1:x % 2^32=x:=Nat.mod_eq_of_lt hx;have e2:y % 2^32=y:=Nat.mod_eq_of_lt hy;have m1:(BitVec.ofNat 32 x).msb=decide (2^(32-1)<=x):=by rw[BitVec.msb_eq_decide,BitVec.toNat_ofNat,e1]
 have m2:(BitVec.ofNat 32 y).msb=decide (2^(32-1)<=y):=by rw[BitVec.msb_eq_decide,BitVec.toNat_ofNat,e2]
 have m3:(BitVec.ofNat 32 (x+2^32+2^32-y-c)).msb=decide (2^(32-1)<=(x+2^32+2^32-y-c) % 2^32):=by rw[BitVec.msb_eq_decide,BitVec.toNat_ofNat]
 have m4:((~~~(BitVec.ofNat 32 x)&&& BitVec.ofNat 32 y)||| (~~~(BitVec.ofNat 32 x^^^BitVec.ofNat 32 y)&&& BitVec.ofNat 32 (x+2^32+2^32-y-c))).msb=((!decide (2^(32-1)<=x)&&decide (2^(32-1)<=y))||(!(decide (2^(32-1)<=x)^^decide (2^(32-1)<=y))&&decide (2^(32-1)<=(x+2^32+2^32-y-c) % 2^32))):=by
   rw[BitVec.msb_or,BitVec.msb_and,BitVec.msb_and,BitVec.msb_not,BitVec.msb_not,BitVec.msb_xor,m1,m2,m3];simp
 rw[m4]
 by_cases h1:2^(32-1)<=x <;> by_cases h2:2^(32-1)<=y <;> by_cases h3:2^(32-1)<=(x+2^32+2^32-y-c) % 2^32 <;> by_cases h4:x<y+c <;> simp[h1,h2,h3,h4] <;> omega
theorem Ref.quo {k:IntKind} {a b:Nat} {x y:Int} (hx:x=(a:Int)) (hy:y=(b:Int)) (hk:k.min<=0) (h:(a:Int)<=k.max):Ref (.int k (k.wrap (x.tdiv y))) (.int k ((a/b:Nat):Int)):=Ref.int (by
 have e:x.tdiv y=((a/b:Nat):Int):=by rw[hx,hy];rfl
 rw[e,qX]
 exact⟨Int.le_trans hk (Int.natCast_nonneg _),Int.le_trans (Int.ofNat_le.2 (Nat.div_le_self a b)) h⟩)
theorem Ref.rem {k:IntKind} {a b:Nat} {x y:Int} (hx:x=(a:Int)) (hy:y=(b:Int)):Ref (.int k (x.tmod y)) (.int k ((a % b:Nat):Int)):=Ref.int (by rw[hx,hy];rfl)
theorem Ref.shrv {i:IntKind} {x k c:Nat} (h:k<=c):Ref (.int i ((x:Int).fdiv (2^(min (k:Int).toNat c)))) (.int i ((x/2^k:Nat):Int)):=Ref.int (by
 rw[Int.toNat_natCast,Nat.min_eq_left h,show((2:Int)^k)=((2^k:Nat):Int) by simp,vS])
theorem Ref.shl32 {x k:Nat} (h:k<=32):Ref (.int .u32 (IntKind.u32.wrap ((x:Int)*2^(min (k:Int).toNat 32)))) (.int .u32 ((x*2^k % 4294967296:Nat):Int)):=Ref.md32 (by
 rw[Int.toNat_natCast,Nat.min_eq_left h];simp)
theorem Ref.shl64 {x k:Nat} (h:k<=64):Ref (.int .u64 (IntKind.u64.wrap ((x:Int)*2^(min (k:Int).toNat 64)))) (.int .u64 ((x*2^k % 18446744073709551616:Nat):Int)):=Ref.md64 (by
 rw[Int.toNat_natCast,Nat.min_eq_left h];simp)
theorem Ref.or32 {a b:Nat} (h:a<4294967296/\b<4294967296):Ref (.int .u32 (IntKind.u32.wrap ((BitVec.ofInt 32 (a:Int)||| BitVec.ofInt 32 (b:Int)).toNat:Int))) (.int .u32 ((a||| b:Nat):Int)):=Ref.int (Av.or32 h.1 h.2)
theorem Ref.or64 {a b:Nat} (h:a<18446744073709551616/\b<18446744073709551616):Ref (.int .u64 (IntKind.u64.wrap ((BitVec.ofInt 64 (a:Int)||| BitVec.ofInt 64 (b:Int)).toNat:Int))) (.int .u64 ((a||| b:Nat):Int)):=Ref.int (Av.or64 h.1 h.2)
theorem Ref.nat_eq {k:IntKind} {a b:Nat} (h:a=b):Ref (.int k ((a:Nat):Int)) (.int k ((b:Nat):Int)):=Ref.int (by rw[h])
theorem tN
   (hm:P.follows .mixedOrders=true) (hT:lT P T) (hK:KOK P K) (n:Nat) (stop:Option Nat) (ids m:List Nat) (ov:mW) (hnd:m.Nodup)
   (he:(xU T K stop n todo st ov).map (fun r=>(r.1,(lH ids 0 r.2.1.σ).map (eH (at_ m)),sP (at_ m) r.2.1.h m,r.2.2))=some (todo',σ',h',ob)) (ho:AllP ob)
   (hg:Good P f S0 C0 w0 Post todo' ⟨σ',h'⟩):Good P f S0 C0 w0 Post todo st:=by
 obtain⟨⟨t,s,o⟩,h1,h2⟩:=Option.map_eq_some_iff.1 he;simp only[Prod.mk.injEq] at h2;obtain⟨rfl,rfl,rfl,rfl⟩:=h2;exact tY hm hT hK n h1 ho (Good.keep ids (Good.ren m hnd hg))
theorem Good.tidy (m:List Nat) (hnd:m.Nodup)
   (e1:σ.map (eH (at_ m))=σ') (e2:sP (at_ m) h m=h') (hg:Good P f S0 C0 w0 Post todo ⟨σ',h'⟩):Good P f S0 C0 w0 Post todo ⟨σ,h⟩:=by
 subst e1;subst e2;exact Good.ren m hnd hg
end Go.Av
namespace Go.Av
open Go.Proofs Go.RowKit
section
theorem gR (hK:KOK Tryz.prog K) (stop:Option Nat) (ids m:List Nat) (ov:mW) (ho:AllP ob) (hg:Good Tryz.prog f S0 C0 w0 Post t ⟨σ,h⟩)
   (he:(xU NB K stop 999 todo st ov).map (fun r=>(r.1,(lH ids 0 r.2.1.σ).map (eH (at_ m)),sP (at_ m) r.2.1.h m,r.2.2))=some (t,σ,h,ob):=by kernel_rfl) (hnd:m.Nodup:=by decide):Good Tryz.prog f S0 C0 w0 Post todo st:=tN mixed aX hK 999 stop ids m ov hnd he ho hg
end
theorem qe {x y:Rat} {B C:Nat} {cs:List AV} (h:x=y:=by rfl) (k:B<=C:=by omega):RefC (.q x B::cs) (.q y C::cs):=by subst h;exact RefC.q_le k
def up:List AV->List AV->List AV×List Prop
 | .q x A::V,.q _ B::r=>(.q x B::(up V r).1,(A<=B)::(up V r).2)
 | v::V,_::r=>(v::(up V r).1,(up V r).2)
 | V,_=>(V,[])
theorem FD:∀ (V r:List AV),AllP (up V r).2->RefC V (up V r).1:=by
 intro V r
 induction V,r using up.induct with
 | case1 x A V y B r ih=>
   intro h;simp only[up] at h ⊢;exact RefC.cons (RefC.q_le h.un.1) (ih h.un.2)
 | case2 v V u r hn ih=>
   intro h;rw[up.eq_2 _ _ _ _ hn] at h ⊢;exact RefC.tl (ih h)
 | case3 V r h1 h2=>
   intro h;rw[up.eq_3 _ _ h1 h2];exact RefC.rfl'
def NO:AV->AV->AV×List Prop
 | .agg c,.agg d=>(.agg (up c d).1,(up c d).2)
 | .tup [.agg c,.int k n],.tup (.agg d::_)=>(.tup [.agg (up c d).1,.int k n],(up c d).2)
 | v,_=>(v,[])
theorem IS {V r:AV} (h:AllP (NO V r).2):Ref V (NO V r).1:=by
 unfold NO at h ⊢
 split
 · exact Ref.agg (FD _ _ h)
 · exact Ref.tup2 (Ref.agg (FD _ _ h)) Ref.rfl' rfl rfl rfl rfl
 · exact Ref.rfl'
theorem AllP.two {l m:List Prop} (h:AllP (l++m)):AllP l/\AllP m:=⟨fun p hp=>h p (by simp[hp]),fun p hp=>h p (by simp[hp])⟩
theorem rV {K:KT} (hK:KOK Tryz.prog K) (ov:mW) {f:Nat} {S0:Nat->Prop} {w0:World} {todo:List Item} {st:St} {r:AV} {ob:List Prop}
   (ho:AllP ob) (he:(IM f K todo st ov).map (fun p=>((NO p.1 r).1,p.2++(NO p.1 r).2))=some (r,ob):=by kernel_rfl):Good Tryz.prog f S0 No w0 (eN S0 w0 r) todo st:=by
 obtain⟨⟨V,o⟩,h1,h2⟩:=Option.map_eq_some_iff.1 he;simp only[Prod.mk.injEq] at h2;obtain⟨h3,h4⟩:=h2;obtain⟨o1,o2⟩:=AllP.two (h4▸ho);exact rF hK ov o1 (by have:=IS o2;rwa [h3] at this) h1
def Bw:=kn
theorem RefC.natL {xs:List Nat} {n B:Nat} {cs:List AV} (h:Dig b32 xs) (hn:aJ b32 xs=n) (hB:n<2^B):RefC (.list 1 (aI xs)::cs) (.nat n B::cs):=fun ρ S w D vs x=>by
 cases vs with
 | nil=>cases x
 | cons v vs=>exact .nat xs h hn hB x
theorem RefC.digL {xs:List Nat} {n B:Nat} {cs:List AV} (h:Dig b10k xs) (hn:aJ b10k xs=n) (hB:n<2^B):RefC (.list 1 (aO xs)::cs) (.dig n B::cs):=fun ρ S w D vs x=>by
 cases vs with
 | nil=>cases x
 | cons v vs=>exact .dig xs h hn hB x
def NP:KF
 | [.bool s,.nat n B]=>some (.agg [.z (iM s n) B],[])
 | _=>none
theorem Ac:bO 109 NP:=by
 refine cJ Tryz.f109 fun _ _ _ S w0 h ho=> ?_
 unfold NP at h;split at h <;> cases h;rename_i s n B;obtain⟨hx,hxn⟩:=aQ (b:=b32) (by decide) n;refine Good.natlt (n:=n) (B:=B) 1 rfl fun hn=> ?_
 refine Good.weak 13 [(0,.bool s),(1,.list 1 (aI (aD b32 n)))] (by kernel_rfl) (.r (.cons Ref.opn .nil)) ?_
 have fold:∀ t:Bool,t=decide (iM s n<0)->Ref (.agg [.bool t,.list 1 (aI (aD b32 n))]) (.agg [.z (iM s n) B]):=fun t ht=>
   Ref.agg ((RefC.tl (c:=.bool t) (RefC.natL hx hxn hn)).trans (RefC.mkz (rl _) ht (vW s n).symm))
 cases s with
 | true=>
   refine rF Bw [] .nil (V:=.agg [.bool (decide ((0:Int)<((aI (aD b32 n)).length:Int))),.list 1 (aI (aD b32 n))]) (fold _ ?_)
   rw[uF,Bool.true_and]
   have:=dA (b:=b32) (n:=n) (by decide);simp only[decide_eq_decide];rw[aB];omega
 | false=>
   refine rF Bw [] .nil (V:=.agg [AV.bool false,.list 1 (aI (aD b32 n))]) (fold _ ?_)
   rw[uF,Bool.false_and]
end Go.Av
namespace Go.Av
open Go.RowKit
def fI (t:Nat):List Nat->Nat->Nat->Nat->List Nat->List Nat×Bool
 | [],p,c,b,ds=>(ds.set p ((ds.getD p 0+8589934592-c % 4294967296-b) % 4294967296),decide (ds.getD p 0<c % 4294967296+b))
 | y::ys,p,c,b,ds=>fI t ys (p+1) ((c+t*y)/4294967296) (if ds.getD p 0<(c+t*y) % 4294967296+b then 1 else 0) (ds.set p ((ds.getD p 0+8589934592-(c+t*y) % 4294967296-b) % 4294967296))
def mS:List Nat->Nat->Nat->List Nat->List Nat
 | [],p,c,ds=>ds.set p ((ds.getD p 0+c) % 4294967296)
 | y::ys,p,c,ds=>mS ys (p+1) ((ds.getD p 0+y+c)/4294967296) (ds.set p ((ds.getD p 0+y+c) % 4294967296))
def NC (s:Bool):Nat:=if s then 1 else 0
theorem Es {R P b t V c1 e1 D1 Q e' x D o m e c y:Nat} (h1:R+P*b*(t*V+c1+e1)=D1+Q*e') (h2:D1+P*x=D+P*o) (h3:o+m+e=x+b*e1) (h4:c+t*y=b*c1+m):
   R+P*(t*(y+b*V)+c+e)=D+Q*e':=by
 replace h3:=congrArg (P*·) h3;replace h4:=congrArg (P*·) h4;simp only[Nat.mul_add,Nat.add_mul,Nat.mul_assoc,Nat.mul_comm,Nat.mul_left_comm] at*;omega
theorem Et {R P b V c1 D1 Q x D o c y:Nat} {E:Nat} (h1:R+Q*E=D1+P*b*(V+c1)) (h2:D1+P*x=D+P*o) (h3:o+b*c1=x+y+c):R+Q*E=D+P*(y+b*V+c):=by
 replace h3:=congrArg (P*·) h3;simp only[Nat.mul_add,Nat.add_mul,Nat.mul_assoc,Nat.mul_comm,Nat.mul_left_comm] at*;omega
theorem Eu {R P x D o c b B e:Nat} (h2:R+P*x=D+P*o) (h3:o+c+b=x+B*e):R+P*(c+b)=D+P*B*e:=by
 replace h3:=congrArg (P*·) h3;simp only[Nat.mul_add,Nat.mul_assoc] at*;omega
theorem Ev {R P x D o c B e:Nat} (h2:R+P*x=D+P*o) (h3:o+B*e=x+c):R+P*B*e=D+P*c:=by
 replace h3:=congrArg (P*·) h3;simp only[Nat.mul_add,Nat.mul_assoc] at*;omega
theorem wA {t:Nat} (ht:t<b32):∀ (ys:List Nat) (p c b:Nat) (ds:List Nat),(∀ x∈ds,x<b32)->(∀ x∈ys,x<b32)->c<b32->b<=1->p+ys.length<ds.length->
   (fI t ys p c b ds).1.length=ds.length/\(∀ x∈(fI t ys p c b ds).1,x<b32)/\
   aJ b32 (fI t ys p c b ds).1+b32^p*(t*aJ b32 ys+c+b)=aJ b32 ds+b32^(p+ys.length+1)*NC (fI t ys p c b ds).2/\
   (∀ i,i<p\/p+ys.length<i->(fI t ys p c b ds).1.getD i 0=ds.getD i 0)
 | [],p,c,b,ds,hd,hy,hc,hb,hp=>by
   have hx:=bC (b:=b32) (by decide) hd p;unfold b32 at hx hc ht;simp only[fI];refine⟨by simp,fH hd (by unfold b32;omega), ?_,fun i hi=>dR (by simp at hi;omega)⟩;have h2:=hZ (b:=b32) (xs:=ds) (j:=p) (v:=(ds.getD p 0+8589934592-c % 4294967296-b) % 4294967296) (by simpa using hp)
   have h3:(ds.getD p 0+8589934592-c % 4294967296-b) % 4294967296+c+b=ds.getD p 0+b32*NC (decide (ds.getD p 0<c % 4294967296+b)):=by
     generalize ds.getD p 0=x at hx;unfold NC b32;split
     · rename_i h;have h:=of_decide_eq_true h;omega
     · rename_i h;have h:=of_decide_eq_false (Bool.eq_false_iff.2 h);omega
   simp only[aJ,List.length_nil,Nat.add_zero,Nat.mul_zero,Nat.zero_add,Nat.pow_succ];exact Eu h2 h3
 | y ::ys,p,c,b,ds,hd,hy,hc,hb,hp=>by
   have hx:=bC (b:=b32) (by decide) hd p;have hy1:=hy y (by simp);have hm:t*y<=18446744065119617025:=sR ht hy1;unfold b32 at hx hc ht;simp only[List.length_cons] at hp
   obtain⟨g1,g2,g3,g4⟩:=wA (t:=t) (by unfold b32;omega) ys (p+1) ((c+t*y)/4294967296) (if ds.getD p 0<(c+t*y) % 4294967296+b then 1 else 0) (ds.set p ((ds.getD p 0+8589934592-(c+t*y) % 4294967296-b) % 4294967296))
     (fH hd (by unfold b32;omega)) (fun x hx=>hy x (by simp[hx])) (by unfold b32;omega) (by split <;> omega) (by simp;omega)
   simp only[fI];refine⟨by rw[g1];simp,g2, ?_,fun i hi=> ?_⟩
   · have h2:=hZ (b:=b32) (xs:=ds) (j:=p) (v:=(ds.getD p 0+8589934592-(c+t*y) % 4294967296-b) % 4294967296) (by omega)
     rw[show p+(y::ys).length+1=p+1+ys.length+1 by simp;omega];rw[Nat.pow_succ b32 p] at g3;refine Es (m:=(c+t*y) % 4294967296) (b:=b32) g3 h2 ?_ ?_
     · unfold b32;split <;> omega
     · unfold b32;omega
   · rw[g4 i (by simp at hi;omega),dR (by simp at hi;omega)]
theorem wC:∀ (ys:List Nat) (p c:Nat) (ds:List Nat),(∀ x∈ds,x<b32)->(∀ x∈ys,x<b32)->c<=1->p+ys.length<ds.length->
   (mS ys p c ds).length=ds.length/\(∀ x∈mS ys p c ds,x<b32)/\
   (∃ E,E<=1/\aJ b32 (mS ys p c ds)+b32^(p+ys.length+1)*E=aJ b32 ds+b32^p*(aJ b32 ys+c))/\
   (∀ i,i<p\/p+ys.length<i->(mS ys p c ds).getD i 0=ds.getD i 0)
 | [],p,c,ds,hd,hy,hc,hp=>by
   have hx:=bC (b:=b32) (by decide) hd p;unfold b32 at hx;simp only[mS];refine⟨by simp,fH hd (by unfold b32;omega),⟨(ds.getD p 0+c)/4294967296,by omega, ?_⟩,fun i hi=>dR (by simp at hi;omega)⟩;have h2:=hZ (b:=b32) (xs:=ds) (j:=p) (v:=(ds.getD p 0+c) % 4294967296) (by simpa using hp);have h3:(ds.getD p 0+c) % 4294967296+b32*((ds.getD p 0+c)/4294967296)=ds.getD p 0+c:=by unfold b32;omega
   simp only[aJ,List.length_nil,Nat.add_zero,Nat.zero_add,Nat.pow_succ];exact Ev h2 h3
 | y ::ys,p,c,ds,hd,hy,hc,hp=>by
   have hx:=bC (b:=b32) (by decide) hd p;have hy1:=hy y (by simp);unfold b32 at hx hy1;simp only[List.length_cons] at hp
   obtain⟨g1,g2,⟨E,hE,g3⟩,g4⟩:=wC ys (p+1) ((ds.getD p 0+y+c)/4294967296) (ds.set p ((ds.getD p 0+y+c) % 4294967296))
     (fH hd (by unfold b32;omega)) (fun x hx=>hy x (by simp[hx])) (by omega) (by simp;omega)
   simp only[mS];refine⟨by rw[g1];simp,g2,⟨E,hE, ?_⟩,fun i hi=> ?_⟩
   · have h2:=hZ (b:=b32) (xs:=ds) (j:=p) (v:=(ds.getD p 0+y+c) % 4294967296) (by omega)
     rw[show p+(y::ys).length+1=p+1+ys.length+1 by simp;omega];rw[Nat.pow_succ b32 p] at g3;refine Et (b:=b32) g3 h2 ?_;unfold b32;omega
   · rw[g4 i (by simp at hi;omega),dR (by simp at hi;omega)]
theorem gI {b:Nat} {xs ys:List Nat}:∀ {j:Nat},(∀ i,i<j->xs.getD i 0=ys.getD i 0)->aJ b (xs.take j)=aJ b (ys.take j)
 | 0,_=>by simp
 | j+1,h=>by
   rw[aT,aT b ys,gI (fun i hi=>h i (by omega)),h j (by omega)]
theorem yQ {b:Nat} (hb:0<b):∀ {xs:List Nat},aJ b xs=0->∀ i,xs.getD i 0=0
 | [],_,i=>by simp
 | x ::xs,h,i=>by
   simp only[aJ] at h;have h1:x=0:=by omega
   have h2:aJ b xs=0:=by
     have:b*aJ b xs=0:=by omega
     rcases Nat.mul_eq_zero.1 this with h | h
     · omega
     · exact h
   cases i with
   | zero=>simpa using h1
   | succ i=>simpa using yQ hb h2 i
theorem Dm {ds:List Nat} {j n:Nat} (hd:∀ x∈ds,x<b32) (hz:∀ i,j+n<=i->ds.getD i 0=0):aJ b32 (ds.drop j)<b32^n:=by
 have h1:=cZ b32 n (ds.drop j)
 have h2:aJ b32 ((ds.drop j).drop n)=0:=by
   rw[List.drop_drop];exact vU hz
 rw[h2] at h1;have h3:=dN (b:=b32) (by decide) (xs:=ds.drop j) (fun x hx=>hd x (List.mem_of_mem_drop hx)) n;omega
theorem Ew {ds:List Nat} {j n:Nat} (h:aJ b32 (ds.drop j)<b32^n):∀ i,j+n<=i->ds.getD i 0=0:=by
 intro i hi;have h1:=cZ b32 n (ds.drop j)
 have h2:aJ b32 ((ds.drop j).drop n)=0:=by
   rcases Nat.eq_zero_or_pos (aJ b32 ((ds.drop j).drop n)) with h' | h'
   · exact h'
   · have:=Nat.mul_le_mul_left (b32^n) h'
     omega
 have h3:=yQ (by decide) h2 (i-(j+n));rw[List.drop_drop,oT,show j+n+(i-(j+n))=i by omega] at h3;exact h3
theorem Ex (a1:D=A+P*W) (t3:R+P*gV=D) (a2:R=A+P*W') (hP:0<P) (h:W<gV+V):W'<V:=by
 have:P*(W'+gV)=P*W:=by rw[Nat.mul_add];omega
 have:=Nat.eq_of_mul_eq_mul_left hP this;omega
theorem Cy (a1:D=A+P*W) (a2:R=A+P*W') (a3:S=A+P*W2) (hP:0<P) (t3:R+P*(g*V)=D+P*T) (s3:S+P*T*E=R+P*V)
   (hW':W'<T) (hW2:W2<T) (hE:E<=1) (hV:V<T) (h2:g*V<=W+V):0<g/\S+P*((g-1)*V)=D/\W2<V:=by
 have k1:W'+g*V=W+T:=by
   have:P*(W'+g*V)=P*(W+T):=by rw[Nat.mul_add,Nat.mul_add];omega
   exact Nat.eq_of_mul_eq_mul_left hP this
 have k2:W2+T*E=W'+V:=by
   have:P*(W2+T*E)=P*(W'+V):=by rw[Nat.mul_add,Nat.mul_add, <- Nat.mul_assoc];omega
   exact Nat.eq_of_mul_eq_mul_left hP this
 have hg0:0<g:=by
   rcases Nat.eq_zero_or_pos g with rfl | h
   · simp at k1;omega
   · exact h
 obtain⟨g,rfl⟩:∃ k,g=k+1:=⟨g-1,by omega⟩;rw[Nat.add_mul,Nat.one_mul] at k1 h2;rw[Nat.add_sub_cancel]
 have hE1:E=1:=by
   have:E=0\/E=1:=by omega
   rcases this with rfl | h
   · rw[Nat.mul_zero] at k2;omega
   · exact h
 subst hE1;rw[Nat.mul_one] at k2;have e:W2+g*V=W:=by omega
 refine⟨by omega, ?_,by omega⟩;rw[a3,a1, <- e,Nat.mul_add];omega
theorem Bx (hd:∀ x∈ds,x<b32) (hv:∀ x∈vs,x<b32) (hlen:j+vs.length<ds.length) (hg:g<b32)
   (hW:aJ b32 (ds.drop j)<b32^(vs.length+1)) (h1:aJ b32 (ds.drop j)<(g+1)*aJ b32 vs) (h2:g*aJ b32 vs<=aJ b32 (ds.drop j)+aJ b32 vs) (hR:fI g vs j 0 0 ds=(R,β)) (hS:mS vs j 0 R=S):
   R.length=ds.length/\(∀ x∈R,x<b32)/\S.length=ds.length/\(∀ x∈S,x<b32)/\
   (β=false->aJ b32 R+b32^j*(g*aJ b32 vs)=aJ b32 ds/\aJ b32 (R.drop j)<aJ b32 vs)/\
   (β=true->0<g/\aJ b32 S+b32^j*((g-1)*aJ b32 vs)=aJ b32 ds/\aJ b32 (S.drop j)<aJ b32 vs):=by
 obtain⟨t1,t2,t3,t4⟩:=wA hg vs j 0 0 ds hd hv (by decide) (by omega) hlen;rw[hR] at t1 t2 t3 t4;replace t1:R.length=ds.length:=t1;replace t2:∀ x∈R,x<b32:=t2;replace t3:aJ b32 R+b32^j*(g*aJ b32 vs+0+0)=aJ b32 ds+b32^(j+vs.length+1)*NC β:=t3;replace t4:∀ i,i<j\/j+vs.length<i->R.getD i 0=ds.getD i 0:=t4;obtain⟨s1,s2,⟨E,hE,s3⟩,s4⟩:=wC vs j 0 R t2 hv (by omega) (by rw[t1];exact hlen);rw[hS] at s1 s2 s3 s4;have hzero:=Ew hW;have hVlt:=dY (b:=b32) (by decide) hv;have hP:=Nat.pow_pos (n:=j) (show 0<b32 by decide);have a1:=cZ b32 j ds;have a2:=cZ b32 j R;have a3:=cZ b32 j S;rw[gI (ys:=R) (fun i hi=>s4 i (.inl hi)),gI (ys:=ds) (fun i hi=>t4 i (.inl hi))] at a3;rw[gI (ys:=ds) (fun i hi=>t4 i (.inl hi))] at a2;have hz':∀ i,j+(vs.length+1)<=i->R.getD i 0=0:=fun i hi=>by rw[t4 i (.inr (by omega))];exact hzero i hi
 have hz'':∀ i,j+(vs.length+1)<=i->S.getD i 0=0:=fun i hi=>by rw[s4 i (.inr (by omega))];exact hz' i hi
 have hW':=Dm t2 hz';have hW'':=Dm s2 hz'';rw[Nat.add_zero,Nat.add_zero,show j+vs.length+1=j+(vs.length+1) by omega,Nat.pow_add] at t3;rw[Nat.add_zero,show j+vs.length+1=j+(vs.length+1) by omega,Nat.pow_add] at s3;have hT:b32^vs.length<=b32^(vs.length+1):=Nat.pow_le_pow_right (by decide) (by omega);have hVT:=Nat.lt_of_lt_of_le hVlt hT;rw[Nat.add_mul,Nat.one_mul] at h1;refine⟨t1,t2,s1.trans t1,s2,fun hb=> ?_,fun hb=> ?_⟩
 · subst hb
   have t3':aJ b32 R+b32^j*(g*aJ b32 vs)=aJ b32 ds:=t3.trans (by rw[show NC false=0 from rfl,Nat.mul_zero,Nat.add_zero]);exact⟨t3',Ex a1 t3' a2 hP h1⟩
 · subst hb
   have t3':aJ b32 R+b32^j*(g*aJ b32 vs)=aJ b32 ds+b32^j*b32^(vs.length+1):=t3.trans (by rw[show NC true=1 from rfl,Nat.mul_one]);exact Cy a1 a2 a3 hP t3' s3 hW' hW'' hE hVT h2
theorem Ey {D R V P b g Q U:Nat} (h:R+P*(g*V)=D) (hI:D+V*(P*b*Q)=U):R+V*(P*(g+b*Q))=U:=by
 rw[<- hI, <- h];simp only[Nat.mul_add,Nat.mul_assoc,Nat.mul_comm,Nat.mul_left_comm];omega
theorem yR {ds:List Nat} {j p:Nat} (h:aJ b32 (ds.drop j)<b32^(p+3)) (hd:∀ x∈ds,x<b32):
   ∃ w,w<b32^p/\aJ b32 (ds.drop j)=((ds.getD (j+p+2) 0*b32+ds.getD (j+p+1) 0)*b32+ds.getD (j+p) 0)*b32^p+w:=by
 refine⟨aJ b32 ((ds.drop j).take p),dN (by decide) (fun x hx=>hd x (List.mem_of_mem_drop hx)) p, ?_⟩;have h1:=cZ b32 (p+3) (ds.drop j)
 have h2:aJ b32 ((ds.drop j).drop (p+3))=0:=by
   rcases Nat.eq_zero_or_pos (aJ b32 ((ds.drop j).drop (p+3))) with h' | h'
   · exact h'
   · have:=Nat.mul_le_mul_left (b32^(p+3)) h'
     omega
 rw[h2,aT b32 _ (p+2),aT b32 _ (p+1),aT b32 _ p,oT,oT,oT] at h1;rw[h1,show j+(p+2)=j+p+2 by omega,show j+(p+1)=j+p+1 by omega];simp only[Nat.pow_succ,Nat.mul_add,Nat.add_mul,Nat.mul_assoc,Nat.mul_comm,Nat.mul_left_comm,Nat.mul_zero];omega
theorem Dn (hl:vs.length=p+2) (hd:∀ x∈vs,x<b32):
   ∃ w,w<b32^p/\aJ b32 vs=(vs.getD (p+1) 0*b32+vs.getD p 0)*b32^p+w:=by
 refine⟨aJ b32 (vs.take p),dN (by decide) hd p, ?_⟩;have h1:=aT b32 vs (p+1);rw[List.take_of_length_le (by omega),aT b32 vs p] at h1;rw[h1];simp only[Nat.pow_succ,Nat.mul_add,Nat.add_mul,Nat.mul_assoc,Nat.mul_comm,Nat.mul_left_comm];omega
end Go.Av
namespace Go.Av
open Go.Proofs Go.RowKit
theorem Lz (v:BitVec 32):IntKind.u32.wrap (v.toNat:Int)=(v.toNat:Int):=Fz v.isLt
theorem IT (v:BitVec 32):BitVec.ofInt 32 (v.toNat:Int)=v:=by rw[BitVec.ofInt_natCast,BitVec.ofNat_toNat,BitVec.setWidth_eq]
theorem Ez {x y c:Nat} (hx:x<4294967296) (hy:y<4294967296) (hc:c<=1):IntKind.u32.wrap ((IntKind.u32.wrap (((x:Nat):Int)-((y:Nat):Int)))-((c:Nat):Int))=(((x+8589934592-y-c) % 4294967296:Nat):Int):=by
 simp only[IntKind.wrap,IntKind.signed,IntKind.bits];simp;omega
theorem EA {x y c:Nat} (hx:x<4294967296) (hy:y<4294967296) (hc:c<=1):((IntKind.u32.wrap (BitVec.ofInt 32 (IntKind.u32.wrap (BitVec.ofInt 32 (IntKind.u32.wrap (BitVec.ofInt 32 4294967295^^^BitVec.ofInt 32 ((x:Nat):Int)).toNat)&&& BitVec.ofInt 32 ((y:Nat):Int)).toNat)||| BitVec.ofInt 32 (IntKind.u32.wrap (BitVec.ofInt 32 (IntKind.u32.wrap (BitVec.ofInt 32 4294967295^^^BitVec.ofInt 32 (IntKind.u32.wrap (BitVec.ofInt 32 ((x:Nat):Int)^^^BitVec.ofInt 32 ((y:Nat):Int)).toNat)).toNat)&&& BitVec.ofInt 32 (((x+8589934592-y-c) % 4294967296:Nat):Int)).toNat)).toNat).fdiv (2^(min (31:Int).toNat 32)))=((if x<y+c then 1 else 0:Nat):Int):=by
 simp only[Lz,IT];have e1:BitVec.ofInt 32 4294967295=BitVec.allOnes 32:=by decide
 rw[e1,BitVec.allOnes_xor,BitVec.allOnes_xor,BitVec.ofInt_natCast,BitVec.ofInt_natCast,BitVec.ofInt_natCast]
 have e2:BitVec.ofNat 32 ((x+8589934592-y-c) % 4294967296)=BitVec.ofNat 32 (x+2^32+2^32-y-c):=by
   apply BitVec.eq_of_toNat_eq;simp only[BitVec.toNat_ofNat];omega
 rw[e2,show((2:Int)^(min (31:Int).toNat 32))=((2^31:Nat):Int) from rfl,vS,FC hx hy hc]
def NQ:KF
 | [.int .u32 x,.int .u32 y,.int .u32 c]=>some (.tup [.int .u32 (((x.toNat+8589934592-y.toNat-c.toNat) % 4294967296:Nat):Int),.int .u32 ((if x.toNat<y.toNat+c.toNat then 1 else 0:Nat):Int)],[0<=x,0<=y,0<=c,x.toNat<4294967296,y.toNat<4294967296,c.toNat<=1])
 | _=>none
theorem NR:bO 266 NQ:=by
 refine cJ Tryz.f266 fun _ _ _ S w0 h ho=> ?_
 unfold NQ at h;split at h <;> cases h;rename_i x y c;obtain⟨o1000,o1001,o1002,o1,o2,o3⟩:=ho.e6;obtain⟨x,rfl⟩:=Int.eq_ofNat_of_zero_le o1000;clear o1000;obtain⟨y,rfl⟩:=Int.eq_ofNat_of_zero_le o1001;clear o1001;obtain⟨c,rfl⟩:=Int.eq_ofNat_of_zero_le o1002;clear o1002;replace o1:x<4294967296:=o1;replace o2:y<4294967296:=o2;replace o3:c<=1:=o3;exact rR .nil [(12,.int .u32 (((x+8589934592-y-c) % 4294967296:Nat):Int)),(24,.int .u32 ((if x<y+c then 1 else 0:Nat):Int))] (.a3 (show Ref (.int .u32 (IntKind.u32.wrap ((IntKind.u32.wrap ((x:Int)-(y:Int)))-(c:Int)))) (.int .u32 (((x+8589934592-y-c) % 4294967296:Nat):Int)) from Ref.int (Ez o1 o2 o3)) (show Ref (.int .u32 ((IntKind.u32.wrap (BitVec.ofInt 32 (IntKind.u32.wrap (BitVec.ofInt 32 (IntKind.u32.wrap (BitVec.ofInt 32 4294967295^^^BitVec.ofInt 32 (x:Int)).toNat)&&& BitVec.ofInt 32 (y:Int)).toNat)||| BitVec.ofInt 32 (IntKind.u32.wrap (BitVec.ofInt 32 (IntKind.u32.wrap (BitVec.ofInt 32 4294967295^^^BitVec.ofInt 32 (IntKind.u32.wrap (BitVec.ofInt 32 (x:Int)^^^BitVec.ofInt 32 (y:Int)).toNat)).toNat)&&& BitVec.ofInt 32 (((x+8589934592-y-c) % 4294967296:Nat):Int)).toNat)).toNat).fdiv (2^(min (31:Int).toNat 32)))) (.int .u32 ((if x<y+c then 1 else 0:Nat):Int)) from Ref.int (EA o1 o2 o3)) (dc (0<=(31:Int))))
def wD:=kn.cons NR
def NS:KF
 | [.int .u32 x,.int .u32 y,.int .u32 c]=>some (.tup [.int .u32 (((x.toNat+y.toNat+c.toNat) % 4294967296:Nat):Int),.int .u32 (((x.toNat+y.toNat+c.toNat)/4294967296:Nat):Int)],[0<=x,0<=y,0<=c,x.toNat<4294967296,y.toNat<4294967296,c.toNat<=1])
 | _=>none
theorem Sn:bO 299 NS:=by
 refine cJ Tryz.f299 fun _ _ _ S w0 h ho=> ?_
 unfold NS at h;split at h <;> cases h;rename_i x y c;obtain⟨o1000,o1001,o1002,o1,o2,o3⟩:=ho.e6;obtain⟨x,rfl⟩:=Int.eq_ofNat_of_zero_le o1000;clear o1000;obtain⟨y,rfl⟩:=Int.eq_ofNat_of_zero_le o1001;clear o1001;obtain⟨c,rfl⟩:=Int.eq_ofNat_of_zero_le o1002;clear o1002;replace o1:x<4294967296:=o1;replace o2:y<4294967296:=o2;replace o3:c<=1:=o3;exact rR .nil [(10,.int .u64 (x:Int)),(12,.int .u64 (y:Int)),(13,.int .u64 ((x+y:Nat):Int)),(15,.int .u64 (c:Int)),(16,.int .u64 ((x+y+c:Nat):Int)),(18,.int .u32 (((x+y+c) % 4294967296:Nat):Int)),(20,.int .u64 (((x+y+c)/4294967296:Nat):Int)),(21,.int .u32 (((x+y+c)/4294967296:Nat):Int))] (.c6 (wU (x:Int) (x:Int)) (wU (y:Int) (y:Int)) (wU ((x:Int)+(y:Int)) ((x+y:Nat):Int)) (wU (c:Int) (c:Int)) (wU (((x+y:Nat):Int)+(c:Int)) ((x+y+c:Nat):Int)) (show Ref (.int .u32 (IntKind.u32.wrap ((x+y+c:Nat):Int))) (.int .u32 (((x+y+c) % 4294967296:Nat):Int)) from Ref.md32 (by rfl)) (.a3 (show Ref (.int .u64 (((x+y+c:Nat):Int).fdiv (2^(min (32:Int).toNat 64)))) (.int .u64 (((x+y+c)/4294967296:Nat):Int)) from Ref.shrc (c:=min (Int.toNat _) _) (by rfl) (by decide)) (dc (0<=(32:Int))) (wV (((x+y+c)/4294967296:Nat):Int) (((x+y+c)/4294967296:Nat):Int))))
def wE:=kn.cons Sn
def NT:List AV->List ABlk->Option (AV×List (Option ABlk)×List Prop)
 | [.own 0 1 0 m,.list 1 Y,.int .u64 t,.int .i64 p],[⟨362,1,true,D,none⟩]=>
   some (.bool (fI t.toNat (bD Y) p.toNat 0 0 (bD D)).2,[some ⟨362,1,true,aI (fI t.toNat (bD Y) p.toNat 0 0 (bD D)).1,none⟩],
     [0<=t,0<=p,Y=aI (bD Y),D=aI (bD D),∀ x∈bD Y,x<b32,∀ x∈bD D,x<b32,t.toNat<b32,p.toNat+(bD Y).length<m,m<=(bD D).length,m<=LIM])
 | _,_=>none
def NU:List AV->List ABlk->Option (AV×List (Option ABlk)×List Prop)
 | [.own 0 1 0 m,.list 1 Y,.int .i64 p],[⟨362,1,true,D,none⟩]=>
   some (.tup [],[some ⟨362,1,true,aI (mS (bD Y) p.toNat 0 (bD D)),none⟩],
     [0<=p,Y=aI (bD Y),D=aI (bD D),∀ x∈bD Y,x<b32,∀ x∈bD D,x<b32,p.toNat+(bD Y).length<m,m<=(bD D).length,m<=LIM])
 | _,_=>none
theorem IU (p:Prop) [Decidable p]:(!decide (((if p then 1 else 0:Nat):Int)=0))=decide p:=by by_cases h:p <;> simp[h]
section
variable {S:Nat->Prop} {w0:World} {ρ:Nat->Nat}
noncomputable abbrev LA:List Item:=[.code (aR [1,1,0,1,0,0] (aA Tryz.f263)),.inLoop (aR [1,1,0,1,0,0] (aA Tryz.f263)),.inBlock 0,.code (aR [1,1,1] (aA Tryz.f263))]
theorem IV (hq:ρ 0<w0.heap.size) {ys:List Nat} {t m p N:Nat} {R:List Nat×Bool} (hy:∀ x∈ys,x<b32) (ht:t<b32) (hm:m<=N) (hmL:m<=LIM) (hp:p+ys.length<m):
   ∀ (j k c b:Nat) (ds:List Nat),j=ys.length-k->k<=ys.length->c<b32->b<=1->ds.length=N->(∀ x∈ds,x<b32)->fI t (ys.drop k) (p+k) c b ds=R->
   Good Tryz.prog 263 S (fun k=>∃ l,l<1/\k=ρ l) w0 (yL S w0 ρ 1 (.bool R.2) [some ⟨362,1,true,aI R.1,none⟩]) LA
     ⟨slots 69 [(0,.own 0 1 0 m),(1,.list 1 (aI ys)),(2,.int .u64 ((t:Nat):Int)),(3,.i6 ((p:Nat):Int)),(9,.int .u64 ((c:Nat):Int)),(10,.int .u32 ((b:Nat):Int)),(13,.list 1 (aI ys)),(14,(.i6 (((aI ys).length:Nat):Int))),(15,.i6 ((k:Nat):Int))],
      [some ⟨362,1,true,(aI ds),(some (ρ 0))⟩]⟩:=by
 unfold LIM at hmL;intro j
 induction j with
 | zero=>
   intro k c b ds hj hk hc hb hd hdl hR;have hk:k=ys.length:=by omega
   subst hk;have hx1:ds.getD (0+(p+(aI ys).length)) 0<b32:=bC (by decide) hdl _;unfold b32 at hx1 hc;rw[List.drop_length] at hR;simp only[fI] at hR;refine cX (p:=(-9223372036854775808<=(p:Int)+((aI ys).length:Int)/\(p:Int)+((aI ys).length:Int)<=9223372036854775807)/\(((p+(aI ys).length:Nat):Int)<(m:Int))/\(0+(p+(aI ys).length)<ds.length)/\(0+(p+(aI ys).length)<(aI ds).length)/\((ds.getD (0+(p+(aI ys).length)) 0)<4294967296)/\((c % 4294967296)<4294967296)/\(b<=1)) (by simp only[aB] at hx1 ⊢;omega) fun⟨q0,q1,q2,q3,q4,q5,q6⟩=>gR wD none [0,1,2,3,8,9,10,13,14,15] [0] [(16,ff),(52,.i6 ((p+(aI ys).length:Nat):Int)),(57,.i6 ((p+(aI ys).length:Nat):Int)),(59,.int .u32 (ds.getD (0+(p+(aI ys).length)) 0:Int)),(61,.int .u32 ((c % 4294967296:Nat):Int))] (.c6 (iF (show ¬ ((ys.length:Int)<((aI ys).length:Int)) by rw[aB];omega)) (wI ((p:Int)+((aI ys).length:Int)) ((p+(aI ys).length:Nat):Int) q0) (wI ((p:Int)+((aI ys).length:Int)) ((p+(aI ys).length:Nat):Int) q0) (nn (p+(aI ys).length)) q1 (Ref.cd32h q2) (.c6 q3 (show Ref (.int .u32 (IntKind.u32.wrap (c:Int))) (.int .u32 ((c % 4294967296:Nat):Int)) from Ref.md32 (by rfl)) (show 0<=(ds.getD (0+(p+(aI ys).length)) 0:Int) from Int.natCast_nonneg _) (nn (c % 4294967296)) (nn b) q4 (.a5 q5 q6 (nn (p+(aI ys).length)) q1 q3))) (t:=[.code .ret]) (σ:=slots 69 [(0,.own 0 1 0 m),(1,.list 1 (aI ys)),(2,.int .u64 (t:Int)),(3,.i6 (p:Int)),(8,(.bool (!decide (((if (ds.getD (0+(p+(aI ys).length)) 0)<(c % 4294967296)+b then 1 else 0:Nat):Int)=(0:Int))))),(9,.int .u64 (c:Int)),(10,(.int .u32 ((if (ds.getD (0+(p+(aI ys).length)) 0)<(c % 4294967296)+b then 1 else 0:Nat):Int))),(13,.list 1 (aI ys)),(14,.i6 ((aI ys).length:Int)),(15,.i6 (ys.length:Int))]) (h:=[some ⟨362,1,true,((aI ds).set (0+(p+(aI ys).length)) [.int .u32 ((((ds.getD (0+(p+(aI ys).length)) 0)+8589934592-(c % 4294967296)-b) % 4294967296:Nat):Int)]),(some (ρ 0))⟩]) ?_
   rw[eY];subst hR;simp only[aB,Nat.zero_add]
   refine oS aX (fn:=Tryz.f263) (by kernel_rfl) (.inr ⟨_,rfl⟩) (Vs:=[AV.bool (!decide (((if (ds.getD (p+ys.length) 0)<c % 4294967296+b then 1 else 0:Nat):Int)=(0:Int)))]) (by kernel_rfl) (by rfl) (by rfl)
     (fun | 0,_=>⟨_,rfl,rfl⟩ | l+1,hl=>absurd hl (by omega)) (fun | 0,_=>hq | l+1,hl=>absurd hl (by omega)) (Ref.bool (IU _))
 | succ j ih=>
   intro k c b ds hj hk hc hb hd hdl hR;have hlt:k<ys.length:=by omega
   have hx1:ds.getD (0+(p+k)) 0<b32:=bC (by decide) hdl _;have hy1:ys.getD k 0<b32:=bC (by decide) hy k;have hm1:=sR ht hy1;have hm2:((t:Nat):Int)*((ys.getD k 0:Nat):Int)=((t*ys.getD k 0:Nat):Int):=by simp
   unfold b32 at hx1 hy1 hc;refine cX (p:=(k<ys.length)/\((k:Int)<((aI ys).length:Int))/\(0<=(ys.getD k 0:Int)/\(ys.getD k 0:Int)<=18446744073709551615)/\(0<=(t:Int)*(ys.getD k 0:Int)/\(t:Int)*(ys.getD k 0:Int)<=18446744073709551615)/\(0<=(c:Int)+((t*(ys.getD k 0):Nat):Int)/\(c:Int)+((t*(ys.getD k 0):Nat):Int)<=18446744073709551615)/\(-9223372036854775808<=(p:Int)+(k:Int)/\(p:Int)+(k:Int)<=9223372036854775807)/\(((p+k:Nat):Int)<(m:Int))/\(0+(p+k)<ds.length)/\(0+(p+k)<(aI ds).length)/\((ds.getD (0+(p+k)) 0)<4294967296)/\(((c+t*(ys.getD k 0)) % 4294967296)<4294967296)/\(b<=1)/\(-9223372036854775808<=(k:Int)+(1:Int)/\(k:Int)+(1:Int)<=9223372036854775807)) (by rw[hm2];simp only[aB] at hx1 ⊢;omega) fun⟨q0,q1,q2,q3,q4,q5,q6,q7,q8,q9,q10,q11,q12⟩=>gR wD none [0,1,2,3,8,9,10,13,14,15] [0] [(16,tt),(18,.cptr [.int .u32 (ys.getD k 0:Int)] 0),(23,.int .u64 (ys.getD k 0:Int)),(24,.int .u64 ((t*(ys.getD k 0):Nat):Int)),(25,.int .u64 ((c+t*(ys.getD k 0):Nat):Int)),(30,.i6 ((p+k:Nat):Int)),(34,.i6 ((p+k:Nat):Int)),(36,.int .u32 (ds.getD (0+(p+k)) 0:Int)),(38,.int .u32 (((c+t*(ys.getD k 0)) % 4294967296:Nat):Int)),(45,.int .u64 (((c+t*(ys.getD k 0))/4294967296:Nat):Int)),(46,.i6 ((k+1:Nat):Int))] (.c6 (iT (show(k:Int)<((aI ys).length:Int) by rw[aB];omega)) (Ref.cd32 q0) (nn k) q1 (wU (ys.getD k 0:Int) (ys.getD k 0:Int) q2) (wU ((t:Int)*(ys.getD k 0:Int)) ((t*(ys.getD k 0):Nat):Int) q3) (.c6 (wU ((c:Int)+((t*(ys.getD k 0):Nat):Int)) ((c+t*(ys.getD k 0):Nat):Int) q4) (wI ((p:Int)+(k:Int)) ((p+k:Nat):Int) q5) (wI ((p:Int)+(k:Int)) ((p+k:Nat):Int) q5) (nn (p+k)) q6 (Ref.cd32h q7) (.c6 q8 (show Ref (.int .u32 (IntKind.u32.wrap ((c+t*(ys.getD k 0):Nat):Int))) (.int .u32 (((c+t*(ys.getD k 0)) % 4294967296:Nat):Int)) from Ref.md32 (by rfl)) (show 0<=(ds.getD (0+(p+k)) 0:Int) from Int.natCast_nonneg _) (nn ((c+t*(ys.getD k 0)) % 4294967296)) (nn b) q9 (.c6 q10 q11 (nn (p+k)) q6 q8 (show Ref (.int .u64 (((c+t*(ys.getD k 0):Nat):Int).fdiv (2^(min (32:Int).toNat 64)))) (.int .u64 (((c+t*(ys.getD k 0))/4294967296:Nat):Int)) from Ref.shrc (c:=min (Int.toNat _) _) (by rfl) (by decide)) (.a2 (dc (0<=(32:Int))) (wI ((k:Int)+(1:Int)) ((k+1:Nat):Int) q12)))))) (t:=LA) (σ:=slots 69 [(0,.own 0 1 0 m),(1,.list 1 (aI ys)),(2,.int .u64 (t:Int)),(3,.i6 (p:Int)),(9,(.int .u64 (((c+t*(ys.getD k 0))/4294967296:Nat):Int))),(10,(.int .u32 ((if (ds.getD (0+(p+k)) 0)<((c+t*(ys.getD k 0)) % 4294967296)+b then 1 else 0:Nat):Int))),(13,.list 1 (aI ys)),(14,.i6 ((aI ys).length:Int)),(15,.i6 ((k+1:Nat):Int))]) (h:=[some ⟨362,1,true,((aI ds).set (0+(p+k)) [.int .u32 ((((ds.getD (0+(p+k)) 0)+8589934592-((c+t*(ys.getD k 0)) % 4294967296)-b) % 4294967296:Nat):Int)]),(some (ρ 0))⟩]) ?_
   rw[eY,Nat.zero_add];rw[Nat.zero_add] at hx1;refine ih (k+1) _ _ _ (by omega) (by omega) (by unfold b32;omega) (by split <;> omega) (by simp[hd]) (fH hdl (by unfold b32;omega)) ?_;rw[<- hR,List.drop_eq_getElem_cons hlt];have:ys[k]=ys.getD k 0:=by simp[nG,hlt]
   rw[this];rfl
theorem NV (args:List AV) (b:List ABlk) (r:AV) (h2:List (Option ABlk)) (ob:List Prop) (h:NT args b=some (r,h2,ob)) (ho:AllP ob):qN Tryz.prog 263 args b r h2:=by
 unfold NT at h
 split at h
 · rename_i m Y t p D
   cases h;have o1:0<=t:=ho _ (by simp);have o2:0<=p:=ho _ (by simp);have o3:Y=aI (bD Y):=ho _ (by simp);have o4:D=aI (bD D):=ho _ (by simp);have o5:∀ x∈bD Y,x<b32:=ho _ (by simp);have o6:∀ x∈bD D,x<b32:=ho _ (by simp);have o7:t.toNat<b32:=ho _ (by simp);have o8:p.toNat+(bD Y).length<m:=ho _ (by simp);have o9:m<=(bD D).length:=ho _ (by simp);have o10:m<=LIM:=ho _ (by simp);obtain⟨t,rfl⟩:=Int.eq_ofNat_of_zero_le o1;obtain⟨p,rfl⟩:=Int.eq_ofNat_of_zero_le o2;replace o7:t<b32:=o7;replace o8:p+(bD Y).length<m:=o8;generalize bD Y=ys at*;generalize bD D=ds at*;subst o3;subst o4;refine qV (fn:=Tryz.f263) (c:=aA Tryz.f263) (by kernel_rfl) (by kernel_rfl) (by kernel_rfl) (by simp) fun S w0 ρ hρ=> ?_
   have e:(kY [AV.own 0 1 0 m,.list 1 (aI ys),.int .u64 ((t:Nat):Int),.i6 ((p:Nat):Int)] Tryz.f263.ntmps).σ=slots 69 [(0,.own 0 1 0 m),(1,.list 1 (aI ys)),(2,.int .u64 ((t:Nat):Int)),(3,.i6 ((p:Nat):Int))]:=by kernel_rfl
   have e2:(kY [AV.own 0 1 0 m,.list 1 (aI ys),.int .u64 (Int.ofNat t),.i6 (Int.ofNat p)] Tryz.f263.ntmps).σ=slots 69 [(0,.own 0 1 0 m),(1,.list 1 (aI ys)),(2,.int .u64 ((t:Nat):Int)),(3,.i6 ((p:Nat):Int))]:=e;show Good _ _ _ _ _ _ _ ⟨(kY [AV.own 0 1 0 m,.list 1 (aI ys),.int .u64 (Int.ofNat t),.i6 (Int.ofNat p)] Tryz.f263.ntmps).σ,pU ρ 0 _⟩;rw[e2];refine gN wD [0,1,2,3,8,9,10,13,14,15] [] .nil (t:=LA) (σ:=slots 69 [(0,.own 0 1 0 m),(1,.list 1 (aI ys)),(2,.int .u64 (t:Int)),(3,.i6 (p:Int)),(8,.bool false),(9,.int .u64 (0:Int)),(10,.int .u32 (0:Int)),(13,.list 1 (aI ys)),(14,.i6 ((aI ys).length:Int)),(15,.i6 (0:Int))]) (h:=[some ⟨362,1,true,(aI ds),(some (ρ 0))⟩]) ?_
   refine Good.weak 69 [(0,_),(1,_),(2,_),(3,_),(9,_),(10,_),(13,_),(14,_),(15,_)] (by kernel_rfl) (.r (.r (.r (.r (.r (.r (.r (.r (.r .nil))))))))) ?_;exact IV (hρ 0 (by simp)) o5 o7 o9 o10 o8 _ 0 0 0 ds rfl (by omega) (by decide) (by omega) rfl o6 rfl
 · cases h
noncomputable abbrev NW:List Item:=[.code (aR [1,0,1,0,0] (aA Tryz.f264)),.inLoop (aR [1,0,1,0,0] (aA Tryz.f264)),.inBlock 0,.code (aR [1,1] (aA Tryz.f264))]
theorem IW (hq:ρ 0<w0.heap.size) {ys:List Nat} {m p N:Nat} {R:List Nat} (hy:∀ x∈ys,x<b32) (hm:m<=N) (hmL:m<=LIM) (hp:p+ys.length<m):
   ∀ (j k c:Nat) (ds:List Nat),j=ys.length-k->k<=ys.length->c<=1->ds.length=N->(∀ x∈ds,x<b32)->mS (ys.drop k) (p+k) c ds=R->
   Good Tryz.prog 264 S (fun k=>∃ l,l<1/\k=ρ l) w0 (yL S w0 ρ 1 (.tup []) [some ⟨362,1,true,aI R,none⟩]) NW
     ⟨slots 44 [(0,.own 0 1 0 m),(1,.list 1 (aI ys)),(2,.i6 ((p:Nat):Int)),(6,.int .u32 ((c:Nat):Int)),(9,.list 1 (aI ys)),(10,(.i6 (((aI ys).length:Nat):Int))),(11,.i6 ((k:Nat):Int))],
      [some ⟨362,1,true,(aI ds),(some (ρ 0))⟩]⟩:=by
 unfold LIM at hmL;intro j
 induction j with
 | zero=>
   intro k c ds hj hk hc hd hdl hR;have hk:k=ys.length:=by omega
   subst hk;have hx1:ds.getD (0+(p+(aI ys).length)) 0<b32:=bC (by decide) hdl _;unfold b32 at hx1;rw[List.drop_length] at hR;simp only[mS] at hR;refine cX (p:=(-9223372036854775808<=(p:Int)+((aI ys).length:Int)/\(p:Int)+((aI ys).length:Int)<=9223372036854775807)/\(((p+(aI ys).length:Nat):Int)<(m:Int))/\(0+(p+(aI ys).length)<ds.length)/\(0+(p+(aI ys).length)<(aI ds).length)) (by simp only[aB] at hx1 ⊢;omega) fun⟨q0,q1,q2,q3⟩=>gN wE [0,1,2,6,9,10,11] [(12,ff),(38,.i6 ((p+(aI ys).length:Nat):Int)),(40,.int .u32 (ds.getD (0+(p+(aI ys).length)) 0:Int)),(42,.int .u32 (((ds.getD (0+(p+(aI ys).length)) 0+c) % 4294967296:Nat):Int))] (.c6 (iF (show ¬ ((ys.length:Int)<((aI ys).length:Int)) by rw[aB];omega)) (wI ((p:Int)+((aI ys).length:Int)) ((p+(aI ys).length:Nat):Int) q0) (nn (p+(aI ys).length)) q1 (Ref.cd32h q2) q3 (.a4 (show Ref (.int .u32 (IntKind.u32.wrap (((ds.getD (0+(p+(aI ys).length)) 0:Nat):Int)+(c:Int)))) (.int .u32 (((ds.getD (0+(p+(aI ys).length)) 0+c) % 4294967296:Nat):Int)) from Ref.md32 (by rfl)) (nn (p+(aI ys).length)) q1 q3)) (t:=[]) (σ:=slots 44 [(0,.own 0 1 0 m),(1,.list 1 (aI ys)),(2,.i6 (p:Int)),(6,.int .u32 (c:Int)),(9,.list 1 (aI ys)),(10,.i6 ((aI ys).length:Int)),(11,.i6 (ys.length:Int))]) (h:=[some ⟨362,1,true,((aI ds).set (0+(p+(aI ys).length)) [.int .u32 (((ds.getD (0+(p+(aI ys).length)) 0+c) % 4294967296:Nat):Int)]),(some (ρ 0))⟩]) ?_
   rw[eY];subst hR;simp only[aB,Nat.zero_add]
   exact oS aX (fn:=Tryz.f264) (by kernel_rfl) (.inl rfl) (Vs:=[]) (by kernel_rfl) (by rfl) (by rfl)
     (fun | 0,_=>⟨_,rfl,rfl⟩ | l+1,hl=>absurd hl (by omega)) (fun | 0,_=>hq | l+1,hl=>absurd hl (by omega)) rr
 | succ j ih=>
   intro k c ds hj hk hc hd hdl hR;have hlt:k<ys.length:=by omega
   have hx1:ds.getD (0+(p+k)) 0<b32:=bC (by decide) hdl _;have hy1:ys.getD k 0<b32:=bC (by decide) hy k;unfold b32 at hx1 hy1;refine cX (p:=(k<ys.length)/\((k:Int)<((aI ys).length:Int))/\(-9223372036854775808<=(p:Int)+(k:Int)/\(p:Int)+(k:Int)<=9223372036854775807)/\(((p+k:Nat):Int)<(m:Int))/\(0+(p+k)<ds.length)/\(0+(p+k)<(aI ds).length)/\((ds.getD (0+(p+k)) 0)<4294967296)/\((ys.getD k 0)<4294967296)/\(c<=1)/\(-9223372036854775808<=(k:Int)+(1:Int)/\(k:Int)+(1:Int)<=9223372036854775807)) (by simp only[aB] at hx1 ⊢;omega) fun⟨q0,q1,q2,q3,q4,q5,q6,q7,q8,q9⟩=>gR wE none [0,1,2,6,9,10,11] [0] [(12,tt),(14,.cptr [.int .u32 (ys.getD k 0:Int)] 0),(20,.i6 ((p+k:Nat):Int)),(24,.i6 ((p+k:Nat):Int)),(26,.int .u32 (ds.getD (0+(p+k)) 0:Int)),(33,.i6 ((k+1:Nat):Int))] (.c6 (iT (show(k:Int)<((aI ys).length:Int) by rw[aB];omega)) (Ref.cd32 q0) (nn k) q1 (wI ((p:Int)+(k:Int)) ((p+k:Nat):Int) q2) (wI ((p:Int)+(k:Int)) ((p+k:Nat):Int) q2) (.c6 (nn (p+k)) q3 (Ref.cd32h q4) q5 (show 0<=(ds.getD (0+(p+k)) 0:Int) from Int.natCast_nonneg _) (show 0<=(ys.getD k 0:Int) from Int.natCast_nonneg _) (.c6 (nn c) q6 q7 q8 (nn (p+k)) q3 (.a2 q5 (wI ((k:Int)+(1:Int)) ((k+1:Nat):Int) q9))))) (t:=NW) (σ:=slots 44 [(0,.own 0 1 0 m),(1,.list 1 (aI ys)),(2,.i6 (p:Int)),(6,(.int .u32 ((((ds.getD (0+(p+k)) 0)+(ys.getD k 0)+c)/4294967296:Nat):Int))),(9,.list 1 (aI ys)),(10,.i6 ((aI ys).length:Int)),(11,.i6 ((k+1:Nat):Int))]) (h:=[some ⟨362,1,true,((aI ds).set (0+(p+k)) [.int .u32 ((((ds.getD (0+(p+k)) 0)+(ys.getD k 0)+c) % 4294967296:Nat):Int)]),(some (ρ 0))⟩]) ?_
   rw[eY,Nat.zero_add];rw[Nat.zero_add] at hx1;refine ih (k+1) _ _ (by omega) (by omega) (by omega) (by simp[hd]) (fH hdl (by unfold b32;omega)) ?_;rw[<- hR,List.drop_eq_getElem_cons hlt];have:ys[k]=ys.getD k 0:=by simp[nG,hlt]
   rw[this];rfl
theorem NX (args:List AV) (b:List ABlk) (r:AV) (h2:List (Option ABlk)) (ob:List Prop) (h:NU args b=some (r,h2,ob)) (ho:AllP ob):qN Tryz.prog 264 args b r h2:=by
 unfold NU at h
 split at h
 · rename_i m Y p D
   cases h;have o2:0<=p:=ho _ (by simp);have o3:Y=aI (bD Y):=ho _ (by simp);have o4:D=aI (bD D):=ho _ (by simp);have o5:∀ x∈bD Y,x<b32:=ho _ (by simp);have o6:∀ x∈bD D,x<b32:=ho _ (by simp);have o8:p.toNat+(bD Y).length<m:=ho _ (by simp);have o9:m<=(bD D).length:=ho _ (by simp);have o10:m<=LIM:=ho _ (by simp);obtain⟨p,rfl⟩:=Int.eq_ofNat_of_zero_le o2;replace o8:p+(bD Y).length<m:=o8;generalize bD Y=ys at*;generalize bD D=ds at*;subst o3;subst o4;refine qV (fn:=Tryz.f264) (c:=aA Tryz.f264) (by kernel_rfl) (by kernel_rfl) (by kernel_rfl) (by simp) fun S w0 ρ hρ=> ?_
   have e2:(kY [AV.own 0 1 0 m,.list 1 (aI ys),.i6 (Int.ofNat p)] Tryz.f264.ntmps).σ=slots 44 [(0,.own 0 1 0 m),(1,.list 1 (aI ys)),(2,.i6 ((p:Nat):Int))]:=by kernel_rfl
   show Good _ _ _ _ _ _ _ ⟨(kY [AV.own 0 1 0 m,.list 1 (aI ys),.i6 (Int.ofNat p)] Tryz.f264.ntmps).σ,pU ρ 0 _⟩;rw[e2];exact gN wE [0,1,2,6,9,10,11] [] .nil (IW (hρ 0 (by simp)) o5 o9 o10 o8 _ 0 0 ds rfl (by omega) (by decide) rfl o6 rfl)
 · cases h
end
def Do:=kn
noncomputable abbrev LB:List Item:=[.code (aR [1,1,0,0,0] (aA Tryz.f208)),.inLoop (aR [1,1,0,0,0] (aA Tryz.f208)),.inBlock 0,.code (aR [1,1,1] (aA Tryz.f208))]
def NY:KF
 | [.list 1 X]=>some (.nat (aJ b32 (bD X)) (32*X.length),[X=aI (bD X),∀ x∈bD X,x<b32])
 | _=>none
theorem IX {S:Nat->Prop} {w0:World} {xs:List Nat} (hx:∀ x∈xs,x<b32) (hb:xs.length<=big):∀ (k:Nat),k<=xs.length->(∀ i,k<=i->i<xs.length->xs.getD i 0=0)->
   GF 208 S w0 (.nat (aJ b32 xs) (32*xs.length)) LB
     ⟨slots 22 [(0,.list 1 (aI xs)),(3,.i6 ((k:Nat):Int))],[]⟩:=by
 have fin:∀ (k:Nat) (rest:List (Nat×AV)),k<=xs.length->(∀ i,k<=i->i<xs.length->xs.getD i 0=0)->(k=0\/xs.getD (k-1) 0≠0)->
     GF 208 S w0 (.nat (aJ b32 xs) (32*xs.length)) [.code .ret] ⟨slots 22 [(0,.list 1 (aI xs)),(2,(.list 1 (((aI xs).take k).drop 0))),(3,.i6 ((k:Nat):Int))],[]⟩:=by
   intro k rest hk hz hd;refine gE [.list 1 (((aI xs).take k).drop 0)] ?_;have e:((aI xs).take k).drop 0=aI (xs.take k):=by simp[aI]
   show Ref (.list 1 (((aI xs).take k).drop 0)) _;rw[e];exact Ref.nat (Dig.take hx hk hd) (El hz) (sQ hx)
 intro k
 induction k with
 | zero=>
   intro hk hz;refine cX (p:=((0:Int)<=((aI xs).length:Int))/\((0:Int)<=(0:Int))) (by simp[aB]) fun⟨q0,q1⟩=>gN Do [0,2,3] [(8,ff)] (.a5 (iF (om (¬ ((0:Int)<(0:Int))))) (nn 0) q0 (nn 0) q1) (fin 0 [] hk hz (.inl rfl))
 | succ k ih=>
   intro hk hz;have v0:(0:Int)<(((k+1):Nat):Int):=by omega
   by_cases h:xs.getD k 0=0
   · have e:((((k+1:Nat):Int)-1).toNat)=k:=by omega
     refine cX (p:=(-9223372036854775808<=(((k+1):Nat):Int)-(1:Int)/\(((k+1):Nat):Int)-(1:Int)<=9223372036854775807)/\(((((k+1):Nat):Int)-(1:Int)).toNat<xs.length)/\(0<=((((k+1):Nat):Int)-(1:Int)))/\(((((k+1):Nat):Int)-(1:Int))<((aI xs).length:Int))) ?_ fun⟨q0,q1,q2,q3⟩=>gN Do [0,2,3] [(8,tt),(11,.i6 ((((k+1):Nat):Int)-(1:Int))),(12,.cptr [.int .u32 (xs.getD (((((k+1):Nat):Int)-(1:Int)).toNat) 0:Int)] 0),(15,tt),(17,.i6 ((((k+1):Nat):Int)-(1:Int)))] (.c6 (iT v0) (wI ((((k+1):Nat):Int)-(1:Int)) ((((k+1):Nat):Int)-(1:Int)) q0) (Ref.cd32 q1) q2 q3 (iT (show(xs.getD (((((k+1):Nat):Int)-(1:Int)).toNat) 0:Int)=(0:Int) by rw[e];omega)) (.a1 (wI ((((k+1):Nat):Int)-(1:Int)) ((((k+1):Nat):Int)-(1:Int)) q0))) (t:=LB) (σ:=slots 22 [(0,.list 1 (aI xs)),(3,(.i6 ((((k+1):Nat):Int)-(1:Int))))]) (h:=[]) ?_
     · simp only[aB,e]
       unfold big at hb;omega
     · have e2:(((k+1:Nat):Int)-1)=((k:Nat):Int):=by omega
       rw[e2]
       exact ih (by omega) fun i hi hl=>by
         by_cases h':i=k
         · subst h';exact h
         · exact hz i (by omega) hl
   · have e:((((k+1:Nat):Int)-1).toNat)=k:=by omega
     refine cX (p:=(-9223372036854775808<=(((k+1):Nat):Int)-(1:Int)/\(((k+1):Nat):Int)-(1:Int)<=9223372036854775807)/\(((((k+1):Nat):Int)-(1:Int)).toNat<xs.length)/\(0<=((((k+1):Nat):Int)-(1:Int)))/\(((((k+1):Nat):Int)-(1:Int))<((aI xs).length:Int))/\((((k+1):Nat):Int)<=((aI xs).length:Int))/\((((k+1):Nat):Int)<=(((k+1):Nat):Int))) ?_ fun⟨q0,q1,q2,q3,q4,q5⟩=>gN Do [0,2,3] [(8,tt),(11,.i6 ((((k+1):Nat):Int)-(1:Int))),(12,.cptr [.int .u32 (xs.getD (((((k+1):Nat):Int)-(1:Int)).toNat) 0:Int)] 0),(15,ff)] (.c6 (iT v0) (wI ((((k+1):Nat):Int)-(1:Int)) ((((k+1):Nat):Int)-(1:Int)) q0) (Ref.cd32 q1) q2 q3 (iF (show ¬ (((xs.getD (((((k+1):Nat):Int)-(1:Int)).toNat) 0:Nat):Int)=(0:Int)) by rw[e];omega)) (.a4 (nn (k+1)) q4 (nn (k+1)) q5)) (fin (k+1) [] hk hz (.inr (by simpa using h)))
     simp only[aB,e];unfold big at hb;omega
theorem By:bO 208 NY:=fun args r ob h ho=>by
 unfold NY at h
 split at h
 · rename_i X
   cases h;have h1:X=aI (bD X):=ho _ (by simp);have h2:∀ x∈bD X,x<b32:=ho _ (by simp);generalize bD X=xs at h1 h2;subst h1;refine af Tryz.f208 fun S w0=> ?_
   rw[aB];have e:kY [.list 1 (aI xs)] Tryz.f208.ntmps=⟨slots 22 [(0,.list 1 (aI xs))],[]⟩:=by kernel_rfl
   rw[e];refine Good.len 0 (e:=1) (xs:=aI xs) (by rfl) fun hb=> ?_
   rw[aB] at hb;refine gN Do [0,3] [] .nil (t:=LB) (σ:=slots 22 [(0,.list 1 (aI xs)),(3,.i6 ((aI xs).length:Int))]) (h:=[]) ?_
   rw[aB];exact IX h2 hb _ (rl _) (fun i h1 h2=>by omega)
 · cases h
def LC:=kn.cons By
theorem FE {S0 C0:Nat->Prop} {w0:World} {Post:Value->World->Prop} (n:Nat)  (o:(0<=((n/4294967296:Nat):Int)/\((n/4294967296:Nat):Int)<=4294967295)/\(Ref (AV.nat (aJ b32 (bD [[(AV.int .u32 ((n % 4294967296:Nat):Int))],[(AV.int .u32 ((n/4294967296:Nat):Int))]])) (32* [[(AV.int .u32 ((n % 4294967296:Nat):Int))],[(AV.int .u32 ((n/4294967296:Nat):Int))]].length)) (AV.nat n 64))/\([[(AV.int .u32 ((n % 4294967296:Nat):Int))],[(AV.int .u32 ((n/4294967296:Nat):Int))]]=aI (bD [[(AV.int .u32 ((n % 4294967296:Nat):Int))],[(AV.int .u32 ((n/4294967296:Nat):Int))]]))/\(∀ x∈bD [[(AV.int .u32 ((n % 4294967296:Nat):Int))],[(AV.int .u32 ((n/4294967296:Nat):Int))]],x<b32))
   (hg:Good Tryz.prog 202 S0 C0 w0 Post [.code .ret] ⟨slots 10 [(2,.nat n 64)],[none,none]⟩):
   Good Tryz.prog 202 S0 C0 w0 Post [.code (aR [] (aA Tryz.f202))] ⟨slots 10 [(0,.int .u64 ((n:Nat):Int))],[]⟩:=
 go mixed aX LC 9 none [2] [(4,(AV.int .u32 ((n % 4294967296:Nat):Int))),(6,(AV.int .u64 ((n/4294967296:Nat):Int))),(7,(AV.int .u32 ((n/4294967296:Nat):Int))),(9,(AV.nat n 64))] (ob:=[Ref (AV.int .u32 (IntKind.u32.wrap ((n:Nat):Int))) (AV.int .u32 ((n % 4294967296:Nat):Int)),Ref (AV.int .u64 (((n:Nat):Int).fdiv (2^(min (32:Int).toNat 64)))) (AV.int .u64 ((n/4294967296:Nat):Int)),0<=(32:Int),Ref (AV.int .u32 (IntKind.u32.wrap ((n/4294967296:Nat):Int))) (AV.int .u32 ((n/4294967296:Nat):Int)),Ref (AV.nat (aJ b32 (bD [[(AV.int .u32 ((n % 4294967296:Nat):Int))],[(AV.int .u32 ((n/4294967296:Nat):Int))]])) (32* [[(AV.int .u32 ((n % 4294967296:Nat):Int))],[(AV.int .u32 ((n/4294967296:Nat):Int))]].length)) (AV.nat n 64),0+2<=2,[[(AV.int .u32 ((n % 4294967296:Nat):Int))],[(AV.int .u32 ((n/4294967296:Nat):Int))]]=aI (bD [[(AV.int .u32 ((n % 4294967296:Nat):Int))],[(AV.int .u32 ((n/4294967296:Nat):Int))]]),∀ x∈bD [[(AV.int .u32 ((n % 4294967296:Nat):Int))],[(AV.int .u32 ((n/4294967296:Nat):Int))]],x<b32]) (by kernel_rfl)
   (.cons (Ref.md32 (by first | rfl | omega | simp)) (.cons (Ref.shrc (c:=min (Int.toNat _) _) (by first | rfl | omega) (by decide)) (.cons (by decide) (.cons ((Ref.wr o.1).trans (Ref.int (by first | rfl | omega | simp))) (.cons (o.2.1) (.cons (by decide) (.cons (o.2.2.1) (.cons (o.2.2.2) (AllP.nil))))))))) hg
def NZ:KF
 | [.int .u64 n]=>some (.nat n.toNat 64,[0<=n,n<18446744073709551616])
 | _=>none
theorem Cz:bO 202 NZ:=fun args r ob h ho=>by
 unfold NZ at h
 split at h
 · rename_i n
   cases h;have h1:0<=n:=ho _ (by simp);have h2:n<18446744073709551616:=ho _ (by simp);obtain⟨n,rfl⟩:=Int.eq_ofNat_of_zero_le h1;refine af Tryz.f202 fun S w0=> ?_
   have e:kY [.int .u64 (n:Int)] Tryz.f202.ntmps=⟨slots 10 [(0,.int .u64 ((n:Nat):Int))],[]⟩:=by kernel_rfl
   rw[e];have u:bD [[AV.int .u32 ((n % 4294967296:Nat):Int)],[AV.int .u32 ((n/4294967296:Nat):Int)]]= [n % 4294967296,n/4294967296]:=rfl;have h3:n<18446744073709551616:=by omega
   refine FE n ⟨by omega, ?_, ?_, ?_⟩ ?_
   · rw[u]
     have:aJ b32 [n % 4294967296,n/4294967296]=n:=by simp only[aJ,b32];omega
     rw[this];exact Ref.natB (by omega)
   · rw[u];rfl
   · rw[u]
     intro x hx;simp at hx;unfold b32;rcases hx with rfl | rfl <;> omega
   · exact gE [.nat n 64] rr
 · cases h
def wF:=(kn.cons By).cons Cz
def Oa:KF
 | [.nat n B,.int .u32 d]=>some (.tup [.nat (n/d.toNat) B,.nat (n % d.toNat) 64],[0<=d,0<d.toNat,d.toNat<4294967296,B<=LIM])
 | _=>none
theorem oY {n d q r:Nat} (h:n=q*d+r) (hr:r<d):n/d=q/\n % d=r:=by
 subst h;have hd:0<d:=by omega
 constructor
 · rw[Nat.mul_comm,Nat.mul_add_div hd,Nat.div_eq_of_lt hr];omega
 · rw[Nat.mul_comm,Nat.mul_add_mod,Nat.mod_eq_of_lt hr]
theorem wG {x b D d r q r' X:Nat} (h:X=D*d+r) (hq:r*b+x=d*q+r'):x+b*X=(q+b*D)*d+r':=by
 subst h;rw[Nat.add_mul,Nat.mul_add, <- Nat.mul_assoc,Nat.mul_comm b r,Nat.mul_comm q d];omega
section
variable {S:Nat->Prop} {w0:World}
noncomputable abbrev LD:List Item:=[.code (aR [1,1,1,0,1,0,0] (aA Tryz.f248)),.inLoop (aR [1,1,1,0,1,0,0] (aA Tryz.f248)),.inBlock 0,.code (aR [1,1,1,1] (aA Tryz.f248))]
theorem IY {xs:List Nat} {B m d:Nat} (hm:m=xs.length) (hx:∀ x∈xs,x<b32) (hd0:0<d) (hd1:d<4294967296) (hbig:xs.length+2<=big) (hB:aJ b32 xs<2^B):
   ∀ (k r:Nat) (ds:List Nat),k<=xs.length->r<d->ds.length=xs.length->(∀ x∈ds,x<b32)->aJ b32 (xs.drop k)=aJ b32 (ds.drop k)*d+r->
   GF 248 S w0 (.tup [.nat (aJ b32 xs/d) B,.nat (aJ b32 xs % d) 64]) LD
     ⟨slots 43 [(0,.list 1 (aI xs)),(1,.int .u32 ((d:Nat):Int)),(6,.own 0 1 0 m),(7,.int .u64 ((r:Nat):Int)),(8,(.i6 (((k:Nat):Int)-1)))],
      [some ⟨362,1,true,(aI ds),none⟩]⟩:=by
 unfold big at hbig;intro k
 induction k with
 | zero=>
   intro r ds hk hr hl hdl hinv;rw[show(((0:Nat):Int)-1)= -1 from rfl];have e0:((aI ds).drop 0).take m=aI ds:=by rw[List.drop_zero,gO (by rw[aB];omega)]
   simp only[List.drop_zero] at hinv;obtain⟨q1,q2⟩:=oY hinv hr;refine gR wF none [0,1,4,5,6,7,8] [] [] (.a5 (show 0+m<=(aI ds).length by rw[aB];omega) (show(((aI ds).drop 0).take m)=aI (bD (((aI ds).drop 0).take m)) by rw[e0,cC]) (show ∀ x∈bD (((aI ds).drop 0).take m),x<b32 by rw[e0,cC];exact hdl) (nn r) (om ((r:Int)<18446744073709551616))) (t:=[.code .ret]) (σ:=slots 43 [(0,.list 1 (aI xs)),(1,.int .u32 (d:Int)),(4,(.nat (aJ b32 (bD (((aI ds).drop 0).take m))) (32*(((aI ds).drop 0).take m).length))),(5,.nat r 64),(7,.int .u64 (r:Int)),(8,.i6 (-1:Int))]) (h:=[]) ?_
   rw[q1,q2];refine gE [(AV.nat (aJ b32 (bD (((aI ds).drop 0).take m))) (32*(((aI ds).drop 0).take m).length)),AV.nat r 64] ?_;refine Ref.tup2 ?_ rr rfl rfl rfl rfl;rw[e0,cC];refine Ref.natB ?_
   have:=Nat.div_le_self (aJ b32 xs) d;omega
 | succ j ih=>
   intro r ds hk hr hl hdl hinv;rw[show(((j+1:Nat):Int)-1)=((j:Nat):Int) by omega];have hx1:xs.getD j 0<b32:=bC (by decide) hx j;unfold b32 at hx1
   have hT:(r*4294967296+xs.getD j 0)/d<4294967296:=by
     rw[Nat.div_lt_iff_lt_mul hd0,Nat.mul_comm];have:(r+1)*4294967296<=d*4294967296:=Nat.mul_le_mul_right _ hr;omega
   have hor:Ref (AV.int .u64 (IntKind.u64.wrap (BitVec.ofInt 64 ((r*2^32 % 18446744073709551616:Nat):Int)||| BitVec.ofInt 64 ((xs.getD j 0:Nat):Int)).toNat)) (AV.int .u64 ((r*4294967296+xs.getD j 0:Nat):Int)):=by
     refine(Ref.or64 ⟨by omega,by omega⟩).trans (Ref.nat_eq ?_);have e1:r*2^32 % 18446744073709551616=2^32*r:=by rw[Nat.mod_eq_of_lt (by omega),Nat.mul_comm]
     rw[e1,nK hx1];omega
   refine gN wF [0,1,4,5,6,7,8] [(16,tt),(20,.int .u64 ((r*2^32 % 18446744073709551616:Nat):Int)),(23,.cptr [.int .u32 (xs.getD j 0:Int)] 0),(25,.int .u64 (xs.getD j 0:Int)),(26,.int .u64 ((r*4294967296+xs.getD j 0:Nat):Int)),(31,.int .u64 (d:Int)),(32,.int .u64 (((r*4294967296+xs.getD j 0)/d:Nat):Int)),(33,.int .u32 (((r*4294967296+xs.getD j 0)/d:Nat):Int)),(37,.int .u64 (d:Int)),(38,.int .u64 (((r*4294967296+xs.getD j 0) % d:Nat):Int)),(18,.i6 ((j:Int)-(1:Int)))] (.c6 (iT (om ((0:Int)<=(j:Int)))) (show Ref (.int .u64 (IntKind.u64.wrap ((r:Int)*2^(min (32:Int).toNat 64)))) (.int .u64 ((r*2^32 % 18446744073709551616:Nat):Int)) from Ref.shl64 (x:=r) (k:=32) ((om (32<=64)))) (dc (0<=(32:Int))) (show Ref (.cptr ((aI xs).getD j []) 0) (.cptr [.int .u32 (xs.getD j 0:Int)] 0) from Ref.cd32 ((om (j<xs.length)))) (nn j) (show(j:Int)<((aI xs).length:Int) by rw[aB];omega) (.c6 (wU (xs.getD j 0:Int) (xs.getD j 0:Int)) hor (wU (d:Int) (d:Int)) (show Ref (.int .u64 (IntKind.u64.wrap (((r*4294967296+xs.getD j 0:Nat):Int).tdiv (d:Int)))) (.int .u64 (((r*4294967296+xs.getD j 0)/d:Nat):Int)) from Ref.quo (a:=r*4294967296+xs.getD j 0) (b:=d) rfl rfl (by decide) ((om (((r*4294967296+xs.getD j 0:Nat):Int)<=18446744073709551615)))) (om ((d:Int)≠0)) (wV (((r*4294967296+xs.getD j 0)/d:Nat):Int) (((r*4294967296+xs.getD j 0)/d:Nat):Int) ⟨Int.natCast_nonneg _,by omega⟩) (.c6 (nn j) (om ((j:Int)<(m:Int))) (show 0+j<(aI ds).length by rw[aB];omega) (wU (d:Int) (d:Int)) (show Ref (.int .u64 (((r*4294967296+xs.getD j 0:Nat):Int).tmod (d:Int))) (.int .u64 (((r*4294967296+xs.getD j 0) % d:Nat):Int)) from Ref.rem (a:=r*4294967296+xs.getD j 0) (b:=d) rfl rfl) (om ((d:Int)≠0)) (.a1 (wI ((j:Int)-(1:Int)) ((j:Int)-(1:Int))))))) (t:=LD) (σ:=slots 43 [(0,.list 1 (aI xs)),(1,.int .u32 (d:Int)),(6,.own 0 1 0 m),(7,(.int .u64 (((r*4294967296+xs.getD j 0) % d:Nat):Int))),(8,.i6 ((j:Int)-(1:Int)))]) (h:=[some ⟨362,1,true,((aI ds).set (0+j) [.int .u32 (((r*4294967296+xs.getD j 0)/d:Nat):Int)]),none⟩]) ?_
   rw[eY,Nat.zero_add];refine ih _ _ (by omega) (Nat.mod_lt _ hd0) (by simp[hl]) (fH hdl hT) ?_;rw[cK (by omega:j<xs.length),cK (by simp;omega:j<(ds.set j ((r*4294967296+xs.getD j 0)/d)).length),dM (by omega),nI (by omega)];exact wG hinv (by unfold b32;exact(Nat.div_add_mod _ _).symm)
theorem Ob:bO 248 Oa:=fun args r ob h ho=>by
 unfold Oa at h
 split at h
 · rename_i n B d
   cases h;have h0:0<=d:=ho _ (by simp);have h1:0<d.toNat:=ho _ (by simp);have h2:d.toNat<4294967296:=ho _ (by simp);have hL:B<=LIM:=ho _ (by simp);obtain⟨d,rfl⟩:=Int.eq_ofNat_of_zero_le h0;replace h1:0<d:=h1;replace h2:d<4294967296:=h2;unfold LIM at hL;obtain⟨hx,hxn⟩:=aQ (b:=b32) (by decide) n;refine af Tryz.f248 fun S w0=> ?_
   show Good _ _ _ _ _ (eN S w0 (.tup [.nat (n/d) B,.nat (n % d) 64])) _ _;refine Good.natlt (n:=n) (B:=B) 0 rfl fun hn=> ?_
   refine Good.weak 43 [(0,.list 1 (aI (aD b32 n))),(1,.int .u32 ((d:Nat):Int))] (by kernel_rfl) (.cons Ref.opn (.r .nil)) ?_;have l1:=hx.len (by rw[hxn];exact hn);generalize aD b32 n=xs at*;subst hxn;refine cX (p:=(4*((aI xs).length:Int)<=281474976710656)/\((((aI xs).length:Nat):Int)<=(big:Int))/\(-9223372036854775808<=((aI xs).length:Int)-(1:Int)/\((aI xs).length:Int)-(1:Int)<=9223372036854775807)) (by simp only[aB];unfold big;omega) fun⟨q0,q1,q2⟩=>gN wF [0,1,4,5,6,7,8] [(14,.i6 ((((aI xs).length:Nat):Int)-(1:Int)))] (.a5 (rfl:((aI xs).length:Int)=((aI xs).length:Int)) (show 0<=((aI xs).length:Int) from Int.natCast_nonneg _) q0 q1 (wI ((((aI xs).length:Nat):Int)-(1:Int)) ((((aI xs).length:Nat):Int)-(1:Int)) q2)) (t:=LD) (σ:=slots 43 [(0,.list 1 (aI xs)),(1,.int .u32 (d:Int)),(4,.nil),(5,.nil),(6,.own 0 1 0 ((aI xs).length)),(7,.int .u64 (0:Int)),(8,(.i6 ((((aI xs).length:Nat):Int)-(1:Int))))]) (h:=[some ⟨362,1,true,(List.replicate ((aI xs).length) [.int .u32 (0:Int)]),none⟩]) ?_
   rw[mF];refine Good.weak 43 [(0,_),(1,_),(6,_),(7,_),(8,_)] (by kernel_rfl) (.r (.r (.r (.r (.r .nil))))) ?_;rw[aB];exact IY rfl hx.1 h1 h2 (by unfold big;omega) hn xs.length 0 _ (by omega) h1 (by simp) (nF (by decide)) (by simp[aJ,List.drop_length])
 · cases h
end
def nL:=kn.cons By
section
variable {S0 C0:Nat->Prop} {w0:World} {Post:Value->World->Prop}
theorem FF (xs ds:List Nat) (n m:Nat) (h1:¬ ((0:Int)<((n % 32:Nat):Int))) (o:(0+m<=(aI ds).length)/\((((aI ds).drop 0).take m)=aI (bD (((aI ds).drop 0).take m)))/\(∀ x∈bD (((aI ds).drop 0).take m),x<b32))
   (hg:Good Tryz.prog 262 S0 C0 w0 Post [.code .ret] ⟨slots 54 [(0,.list 1 (aI xs)),(1,.i6 (n:Int)),(4,(.nat (aJ b32 (bD (((aI ds).drop 0).take m))) (32*(((aI ds).drop 0).take m).length))),(6,.i6 ((n % 32:Nat):Int))],[]⟩):
   Good Tryz.prog 262 S0 C0 w0 Post [.code (aR [1,1,1,0,0] (aA Tryz.f262)),.code (aR [1,1,1,0,1] (aA Tryz.f262)),.code (aR [1,1,1,1] (aA Tryz.f262))] ⟨slots 54 [(0,.list 1 (aI xs)),(1,.i6 (n:Int)),(5,.own 0 1 0 m)],[some ⟨362,1,true,(aI ds),none⟩]⟩:=
 tN mixed aX nL 12 none [0,1,4,5,6,7,8] [] [(23,(.i6 ((n % 32:Nat):Int))),(25,(.bool false))] (ob:=[Ref (.i6 ((n:Int).tmod (32:Int))) (.i6 ((n % 32:Nat):Int)),(32:Int)≠0,Ref (.bool (decide ((0:Int)<((n % 32:Nat):Int)))) (.bool false),0+m<=(aI ds).length,(((aI ds).drop 0).take m)=aI (bD (((aI ds).drop 0).take m)),∀ x∈bD (((aI ds).drop 0).take m),x<b32]) (by decide) (by kernel_rfl)
   (.cons (Ref.rem (a:=n) (b:=32) rfl rfl) (.cons (by decide) (.cons (Ref.bool (decide_eq_false h1)) (.cons (o.1) (.cons (o.2.1) (.cons (o.2.2) (AllP.nil))))))) hg
end
def Oc:KF
 | [.nat n B,.int .i64 k]=>some (.nat (n*2^k.toNat) (B+k.toNat),[0<=k,B+k.toNat<=LIM])
 | _=>none
section
variable {S:Nat->Prop} {w0:World}
noncomputable abbrev LF:List Item:=[.code (aR [1,1,1,0,1,1,0,1,1,0,0] (aA Tryz.f262)),.inLoop (aR [1,1,1,0,1,1,0,1,1,0,0] (aA Tryz.f262)),.inBlock 0,.code (aR [1,1,1,1] (aA Tryz.f262))]
theorem wH {ds:List Nat} {m N B:Nat} (hm:m=ds.length) (hB:N<2^B) (hN:aJ b32 ds=N) (hd:∀ x∈ds,x<b32) {xs:List (Nat×AV)} {V:AV} (hV:V= .nat (aJ b32 (bD (((aI ds).drop 0).take m))) (32*(((aI ds).drop 0).take m).length)):
   ((((aI ds).drop 0).take m)=aI (bD (((aI ds).drop 0).take m)))/\(∀ x∈bD (((aI ds).drop 0).take m),x<b32)/\Ref V (.nat N B):=by
 have e0:((aI ds).drop 0).take m=aI ds:=by rw[List.drop_zero,gO (by rw[aB];omega)]
 subst hV;rw[e0,cC];exact⟨rfl,hd,by rw[hN];exact Ref.natB hB⟩
theorem IZ {xs og:List Nat} {N B m n k:Nat} (hm:m=og.length) (ho:∀ x∈og,x<b32) (hk0:0<k) (hk:k<32) (hbig:m+2<=big)
   (hN:aJ b32 og*2^k=N) (hNm:N<b32^m) (hB:N<2^B):∀ (j i c:Nat) (ds:List Nat),j=m-i->i<=m->c<2^k->ds.length=m->(∀ x∈ds,x<b32)->
   aJ b32 (ds.take i)+b32^i*c=aJ b32 (og.take i)*2^k->(∀ t,i<=t->ds.getD t 0=og.getD t 0)->
   GF 262 S w0 (.nat N B) LF
     ⟨slots 54 [(0,.list 1 (aI xs)),(1,.i6 ((n:Nat):Int)),(5,.own 0 1 0 m),(6,.i6 ((k:Nat):Int)),(7,.int .u32 ((c:Nat):Int)),(8,.i6 ((i:Nat):Int))],
      [some ⟨362,1,true,(aI ds),none⟩]⟩:=by
 unfold big at hbig;intro j
 induction j with
 | zero=>
   intro i c ds hj hi hc hd hdl hinv hrest;have hi:i=m:=by omega
   subst hi;rw[gO (by omega),gO (by omega),hN] at hinv
   have hc0:c=0:=by
     rcases Nat.eq_zero_or_pos c with h | h
     · exact h
     · have:b32^i*1<=b32^i*c:=Nat.mul_le_mul_left _ h
       omega
   subst hc0;obtain⟨q1,q2,q3⟩:=wH (m:=i) hd.symm hB (by omega) hdl (xs:=[]) rfl;refine rF nL [(31,ff)] (.a4 (iF (om (¬ ((i:Int)<(i:Int))))) (show 0+i<=(aI ds).length by rw[aB];omega) q1 q2) (V:=.nat (aJ b32 (bD (((aI ds).drop 0).take i))) (32*(((aI ds).drop 0).take i).length)) q3
 | succ j ih=>
   intro i c ds hj hi hc hd hdl hinv hrest;have hx1:ds.getD i 0<b32:=bC (by decide) hdl i;obtain⟨s1,s2,s3⟩:=Ep (k:=k) (by omega) (show ds.getD i 0<2^32 from hx1) hc;have hk2:2^k<2^32:=(Nat.pow_lt_pow_iff_right (by decide)).2 hk;unfold b32 at hx1;have hmod:ds.getD i 0*2^k % 4294967296<4294967296:=Nat.mod_lt _ (by decide);have hc2:c<4294967296:=by omega
   have v0:Ref (((aI ds).getD (0+i) []).headD .any) (.int .u32 (ds.getD (0+i) 0:Int)):=Ref.cd32h ((om (0+i<ds.length)));have v1:0+i<(aI ds).length:=by rw[aB];omega
   have v2:(i:Int)<(m:Int):=by omega
   refine gN nL [0,1,4,5,6,7,8] [(31,tt),(39,.int .u32 (ds.getD (0+i) 0:Int)),(41,.i6 ((32-k:Nat):Int)),(42,.int .u32 (((ds.getD (0+i) 0)/2^(32-k):Nat):Int)),(46,.int .u32 (ds.getD (0+i) 0:Int)),(48,.int .u32 (((ds.getD (0+i) 0)*2^k % 4294967296:Nat):Int)),(50,.int .u32 ((((ds.getD (0+i) 0)*2^k % 4294967296)||| c:Nat):Int)),(33,.i6 ((i+1:Nat):Int))] (.c6 (iT v2) (nn i) v2 v0 v1 (show Ref (.i6 (IntKind.i64.wrap ((32:Int)-(k:Int)))) (.i6 ((32-k:Nat):Int)) from Ref.int ?_) (.c6 (show Ref (.int .u32 (((ds.getD (0+i) 0:Nat):Int).fdiv (2^(min ((32-k:Nat):Int).toNat 32)))) (.int .u32 (((ds.getD (0+i) 0)/2^(32-k):Nat):Int)) from Ref.shrv (x:=ds.getD (0+i) 0) (k:=32-k) ((om (32-k<=32)))) (nn (32-k)) (nn i) v2 v0 v1 (.c6 (show Ref (.int .u32 (IntKind.u32.wrap (((ds.getD (0+i) 0:Nat):Int)*2^(min (k:Int).toNat 32)))) (.int .u32 (((ds.getD (0+i) 0)*2^k % 4294967296:Nat):Int)) from Ref.shl32 (x:=ds.getD (0+i) 0) (k:=k) ((om (k<=32)))) (nn k) (show Ref (.int .u32 (IntKind.u32.wrap (BitVec.ofInt 32 (((ds.getD (0+i) 0)*2^k % 4294967296:Nat):Int)||| BitVec.ofInt 32 (c:Int)).toNat)) (.int .u32 ((((ds.getD (0+i) 0)*2^k % 4294967296)||| c:Nat):Int)) from Ref.or32 (a:=(ds.getD (0+i) 0)*2^k % 4294967296) (b:=c) (⟨by rw[Nat.zero_add];exact hmod,hc2⟩)) (nn i) v2 v1 (.a1 (wI ((i:Int)+(1:Int)) ((i+1:Nat):Int)))))) (t:=LF) (σ:=slots 54 [(0,.list 1 (aI xs)),(1,.i6 (n:Int)),(5,.own 0 1 0 m),(6,.i6 (k:Int)),(7,(.int .u32 (((ds.getD (0+i) 0)/2^(32-k):Nat):Int))),(8,.i6 ((i+1:Nat):Int))]) (h:=[some ⟨362,1,true,((aI ds).set (0+i) [.int .u32 ((((ds.getD (0+i) 0)*2^k % 4294967296)||| c:Nat):Int)]),none⟩]) ?_
   · rw[qX (by constructor <;> simp[IntKind.min,IntKind.max,IntKind.signed,IntKind.bits] <;> omega)];omega
   · rw[eY,Nat.zero_add]
     have e1:ds.getD i 0*2^k % 4294967296||| c=(ds.getD i 0*2^k+c) % 2^32:=s1;rw[e1,s2];have hlt:(ds.getD i 0*2^k+c) % 2^32<b32:=Nat.mod_lt _ (by decide);refine ih (i+1) _ _ (by omega) (by omega) (by rw[<- s2];exact s3) (by simp[hd]) (fH hdl hlt) ?_ (fun t ht=>by rw[dR (by omega)];exact hrest t (by omega));rw[aT,aT b32 og,nE,dM (by omega),Nat.pow_succ, <- hrest i (rl _)];exact Fu (t:=ds.getD i 0*2^k+c) (b:=b32) rfl rfl hinv
theorem Ja (s:Nat) (xs:List Nat):((List.replicate (s+(aI xs).length+1) [(AV.int .u32 (0:Int))]).take (0+s)++(aI xs).take (min (aI xs).length ((s+(aI xs).length+1)-s))++(List.replicate (s+(aI xs).length+1) [(AV.int .u32 (0:Int))]).drop ((0+s)+(min (aI xs).length ((s+(aI xs).length+1)-s))))=aI (List.replicate s 0++xs++ [0]):=by
 have h1:min (aI xs).length ((s+(aI xs).length+1)-s)=(aI xs).length:=by omega
 rw[h1,List.take_replicate,List.drop_replicate,gO (rl _),Nat.zero_add,show min s (s+(aI xs).length+1)=s by omega,show s+(aI xs).length+1-(s+(aI xs).length)=1 by omega];simp[aI]
theorem Od:bO 262 Oc:=fun args r ob h ho=>by
 unfold Oc at h
 split at h
 · rename_i n B k
   cases h;have h0:0<=k:=ho _ (by simp);have hL:B+k.toNat<=LIM:=ho _ (by simp);obtain⟨k,rfl⟩:=Int.eq_ofNat_of_zero_le h0;replace hL:B+k<=LIM:=hL;unfold LIM at hL;obtain⟨hx,hxn⟩:=aQ (b:=b32) (by decide) n;refine af Tryz.f262 fun S w0=> ?_
   show Good _ _ _ _ _ (eN S w0 (.nat (n*2^k) (B+k))) _ _;refine Good.natlt (n:=n) (B:=B) 0 rfl fun hn=> ?_
   refine Good.weak 54 [(0,.list 1 (aI (aD b32 n))),(1,.i6 ((k:Nat):Int))] (by kernel_rfl) (.cons Ref.opn (.r .nil)) ?_;have l1:=hx.len (by rw[hxn];exact hn);generalize aD b32 n=xs at*;subst hxn
   have hNB:aJ b32 xs*2^k<2^(B+k):=by
     rw[Nat.pow_add];exact Nat.mul_lt_mul_of_pos_right hn (Nat.two_pow_pos k)
   have v0:(32:Int)≠0:=by decide
   refine cX (p:=((k:Int)<=9223372036854775807)/\(-9223372036854775808<=((k/32:Nat):Int)+((aI xs).length:Int)/\((k/32:Nat):Int)+((aI xs).length:Int)<=9223372036854775807)/\(-9223372036854775808<=((k/32+(aI xs).length:Nat):Int)+(1:Int)/\((k/32+(aI xs).length:Nat):Int)+(1:Int)<=9223372036854775807)/\(4*((k/32+(aI xs).length+1:Nat):Int)<=281474976710656)/\(((k/32+(aI xs).length+1:Nat):Int)<=(big:Int))/\(((k/32:Nat):Int)<=((k/32+(aI xs).length+1:Nat):Int))/\((0+(k/32))+((k/32+(aI xs).length+1)-(k/32))<=(List.replicate (k/32+(aI xs).length+1) [(AV.int .u32 (0:Int))]).length)) (by simp only[aB,List.length_replicate];unfold big;omega) fun⟨q0,q1,q2,q3,q4,q5,q6⟩=>gS nL (some 3) [0,1,4,5] [(10,.i6 ((k/32:Nat):Int)),(13,.i6 ((k/32+(aI xs).length:Nat):Int)),(14,.i6 ((k/32+(aI xs).length+1:Nat):Int)),(18,.i6 ((k/32:Nat):Int))] (.c6 (show Ref (.i6 (IntKind.i64.wrap ((k:Int).tdiv (32:Int)))) (.i6 ((k/32:Nat):Int)) from Ref.quo (a:=k) (b:=32) rfl rfl (by decide) q0) v0 (wI (((k/32:Nat):Int)+((aI xs).length:Int)) ((k/32+(aI xs).length:Nat):Int) q1) (wI (((k/32+(aI xs).length:Nat):Int)+(1:Int)) ((k/32+(aI xs).length+1:Nat):Int) q2) (rfl:((k/32+(aI xs).length+1:Nat):Int)=((k/32+(aI xs).length+1:Nat):Int)) (nn (k/32+(aI xs).length+1)) (.c6 q3 q4 (show Ref (.i6 (IntKind.i64.wrap ((k:Int).tdiv (32:Int)))) (.i6 ((k/32:Nat):Int)) from Ref.quo (a:=k) (b:=32) rfl rfl (by decide) q0) v0 (nn (k/32)) q5 (.a1 q6))) (t:=[.code (aR [1,1,1,0,0] (aA Tryz.f262)),.code (aR [1,1,1,0,1] (aA Tryz.f262)),.code (aR [1,1,1,1] (aA Tryz.f262))]) (σ:=slots 54 [(0,.list 1 (aI xs)),(1,.i6 (k:Int)),(4,.nil),(5,.own 0 1 0 (k/32+(aI xs).length+1))]) (h:=[some ⟨362,1,true,((List.replicate (k/32+(aI xs).length+1) [(AV.int .u32 (0:Int))]).take (0+(k/32))++(aI xs).take (min (aI xs).length ((k/32+(aI xs).length+1)-(k/32)))++(List.replicate (k/32+(aI xs).length+1) [(AV.int .u32 (0:Int))]).drop ((0+(k/32))+(min (aI xs).length ((k/32+(aI xs).length+1)-(k/32))))),none⟩]) ?_
   rw[Ja]
   have hog:∀ x∈List.replicate (k/32) 0++xs++ [0],x<b32:=by
     intro x hx';simp only[List.mem_append,List.mem_replicate,List.mem_singleton] at hx';rcases hx' with (⟨_,rfl⟩ | h) | rfl
     · decide
     · exact hx.1 x h
     · decide
   have hval:aJ b32 (List.replicate (k/32) 0++xs++ [0])=2^(32*(k/32))*aJ b32 xs:=by
     rw[List.append_assoc,eW,nH,eW,List.length_replicate,kT];simp[aJ]
   have hlen:(List.replicate (k/32) 0++xs++ [0]).length=k/32+xs.length+1:=by simp;omega
   refine Good.weak 54 [(0,_),(1,_),(5,_)] (by kernel_rfl) (.r (.r (.r .nil))) ?_;rw[aB];have ek:2^(32*(k/32))*2^(k % 32)=2^k:=by rw[<- Nat.pow_add];congr 1;omega
   by_cases hk:0<k % 32
   · refine gN nL [0,1,4,5,6,7,8] [(23,.i6 ((k % 32:Nat):Int)),(25,tt),(27,.i6 ((k/32:Nat):Int))] (.a5 (show Ref (.i6 ((k:Int).tmod (32:Int))) (.i6 ((k % 32:Nat):Int)) from Ref.rem (a:=k) (b:=32) rfl rfl) v0 (iT (om ((0:Int)<((k % 32:Nat):Int)))) (show Ref (.i6 (IntKind.i64.wrap ((k:Int).tdiv (32:Int)))) (.i6 ((k/32:Nat):Int)) from Ref.quo (a:=k) (b:=32) rfl rfl (by decide) ((om ((k:Int)<=9223372036854775807)))) v0) (t:=LF) (σ:=slots 54 [(0,.list 1 (aI xs)),(1,.i6 (k:Int)),(5,.own 0 1 0 (k/32+xs.length+1)),(6,.i6 ((k % 32:Nat):Int)),(7,.int .u32 (0:Int)),(8,.i6 ((k/32:Nat):Int))]) (h:=[some ⟨362,1,true,(aI (List.replicate (k/32) 0++xs++ [0])),none⟩]) ?_
     have hN:aJ b32 (List.replicate (k/32) 0++xs++ [0])*2^(k % 32)=aJ b32 xs*2^k:=by
       rw[hval,Nat.mul_comm (2^(32*(k/32))),Nat.mul_assoc,ek]
     refine Good.weak 54 [(0,_),(1,_),(5,_),(6,_),(7,_),(8,_)] (by kernel_rfl) (.r (.r (.r (.r (.r (.r .nil)))))) ?_;refine IZ (og:=List.replicate (k/32) 0++xs++ [0]) hlen.symm hog hk (Nat.mod_lt _ (by decide)) (by unfold big;omega) hN ?_ hNB _ (k/32) 0 _ rfl (by omega) (Nat.two_pow_pos _) hlen hog ?_ (fun _ _=>rfl)
     · rw[kT]
       have h1:aJ b32 xs<2^(32*xs.length):=sQ hx.1;have h2:aJ b32 xs*2^k<2^(32*xs.length)*2^k:=Nat.mul_lt_mul_of_pos_right h1 (Nat.two_pow_pos _);rw[<- Nat.pow_add] at h2;exact Nat.lt_of_lt_of_le h2 (Nat.pow_le_pow_right (by decide) (by omega))
     · rw[List.append_assoc,List.take_append_of_le_length (by simp),gO (by simp),nH];simp
   · have hk:k % 32=0:=by omega
     rw[hk,Nat.pow_zero,Nat.mul_one] at ek;obtain⟨q1,q2,q3⟩:=wH (m:=k/32+xs.length+1) hlen.symm hNB (by rw[hval,ek,Nat.mul_comm]) hog (xs:=[]) rfl;exact FF xs (List.replicate (k/32) 0++xs++ [0]) k (k/32+xs.length+1) (by omega) ⟨by rw[aB];omega,q1,q2⟩ (bX aX (fn:=Tryz.f262) (by kernel_rfl) 4 (by kernel_rfl) rfl (by rfl) q3)
 · cases h
end
def FG:=kn
def Oe:List AV->List ABlk->Option (AV×List (Option ABlk)×List Prop)
 | [.list 1 X],[]=>some (.own 0 1 0 X.length,[some ⟨362,1,true,X,none⟩],[0<X.length,X.length<=LIM])
 | _,_=>none
theorem Of (args:List AV) (b:List ABlk) (r:AV) (h2:List (Option ABlk)) (ob:List Prop) (h:Oe args b=some (r,h2,ob)) (ho:AllP ob):qN Tryz.prog 300 args b r h2:=by
 unfold Oe at h
 split at h
 · rename_i X
   cases h;have o1:0<X.length:=ho _ (by simp);have o2:X.length<=LIM:=ho _ (by simp);unfold LIM at o2;refine qV (fn:=Tryz.f300) (c:=aA Tryz.f300) (by kernel_rfl) (by kernel_rfl) (by kernel_rfl) (by simp) fun S w0 ρ hρ=> ?_
   have e:(kY [AV.list 1 X] Tryz.f300.ntmps).σ=slots 8 [(0,.list 1 X)]:=by kernel_rfl
   rw[e];have e0:0+X.length=X.length:=Nat.zero_add _;refine gR FG none [2] [1] [] (.a4 o1 (rfl:0=0) (om ((0+X.length)*4<=140737488355328)) (show 0+X.length<=big by unfold big;omega)) (t:=[.code .ret]) (σ:=slots 8 [(2,.own 0 1 0 (0+X.length))]) (h:=[some ⟨362,1,true,([]++X),none⟩]) ?_
   rw[e0];exact oS aX (fn:=Tryz.f300) (by kernel_rfl) (.inr ⟨_,rfl⟩) (Vs:=[AV.own 0 1 0 X.length]) (by kernel_rfl) (by rfl) (by rfl) (fun l hl=>absurd hl (by simp)) (fun l hl=>absurd hl (by simp)) rr
 · cases h
def kG:=(kn.cons By).consH Of
section
variable {S0 C0:Nat->Prop} {w0:World} {Post:Value->World->Prop}
theorem FH (ds:List Nat) (n m:Nat) (h1:¬ ((0:Int)<((n % 32:Nat):Int))) (o:(0+m<=(aI ds).length)/\((((aI ds).drop 0).take m)=aI (bD (((aI ds).drop 0).take m)))/\(∀ x∈bD (((aI ds).drop 0).take m),x<b32))
   (hg:Good Tryz.prog 265 S0 C0 w0 Post [.code .ret] ⟨slots 56 [(4,(.nat (aJ b32 (bD (((aI ds).drop 0).take m))) (32*(((aI ds).drop 0).take m).length))),(6,.i6 ((n % 32:Nat):Int))],[]⟩):
   Good Tryz.prog 265 S0 C0 w0 Post [.code (aR [1,1,1,0,0] (aA Tryz.f265)),.code (aR [1,1,1,0,1] (aA Tryz.f265)),.code (aR [1,1,1,1] (aA Tryz.f265))] ⟨slots 56 [(1,.i6 (n:Int)),(5,.own 0 1 0 m)],[some ⟨362,1,true,(aI ds),none⟩]⟩:=
 tN mixed aX kG 12 none [4,5,6,22,23,24] [] [(19,(.i6 ((n % 32:Nat):Int))),(21,(.bool false))] (ob:=[Ref (.i6 ((n:Int).tmod (32:Int))) (.i6 ((n % 32:Nat):Int)),(32:Int)≠0,Ref (.bool (decide ((0:Int)<((n % 32:Nat):Int)))) (.bool false),0+m<=(aI ds).length,(((aI ds).drop 0).take m)=aI (bD (((aI ds).drop 0).take m)),∀ x∈bD (((aI ds).drop 0).take m),x<b32]) (by decide) (by kernel_rfl)
   (.cons (Ref.rem (a:=n) (b:=32) rfl rfl) (.cons (by decide) (.cons (Ref.bool (decide_eq_false h1)) (.cons (o.1) (.cons (o.2.1) (.cons (o.2.2) (AllP.nil))))))) hg
end
def Og:KF
 | [.nat n B,.int .i64 k]=>some (.nat (n/2^k.toNat) B,[0<=k,B<=LIM,k<=9223372036854775807])
 | _=>none
theorem Ref.cd32u {ds:List Nat} {i v:Nat} (h:ds.getD i 0=v) (hi:i<ds.length):Ref (((aI ds).getD i []).headD .any) (.int .u32 ((v:Nat):Int)):=Ref.eq (by rw[zW hi,h];rfl)
section
variable {S:Nat->Prop} {w0:World}
noncomputable abbrev FI:List Item:=[.code (aR [1,1,1,0,1,1,0,1,0,0] (aA Tryz.f265)),.inLoop (aR [1,1,1,0,1,1,0,1,0,0] (aA Tryz.f265)),.inBlock 0,.code (aR [1,1,1,1] (aA Tryz.f265))]
theorem Jb {og:List Nat} {B m k:Nat} (hm:m=og.length) (ho:∀ x∈og,x<b32) (hk0:0<k) (hk:k<32) (hbig:m+2<=big) (hB:aJ b32 og/2^k<2^B):
   ∀ (j i:Nat) (ds:List Nat),j=m-i->i<=m->ds.length=m->(∀ x∈ds,x<b32)->
   aJ b32 (ds.take i)*2^k+og.getD 0 0 % 2^k=aJ b32 (og.take i)+b32^i*(og.getD i 0 % 2^k)->(∀ t,i<=t->ds.getD t 0=og.getD t 0)->
   GF 265 S w0 (.nat (aJ b32 og/2^k) B) FI
     ⟨slots 56 [(5,.own 0 1 0 m),(6,.i6 ((k:Nat):Int)),(22,.own 0 1 0 m),(23,.i6 ((m:Nat):Int)),(24,.i6 ((i:Nat):Int))],
      [some ⟨362,1,true,(aI ds),none⟩]⟩:=by
 unfold big at hbig;intro j
 induction j with
 | zero=>
   intro i ds hj hi hd hdl hinv hrest;have hi:i=m:=by omega
   subst hi;have hz:og.getD i 0=0:=by simp[nG,hm]
   rw[gO (by omega),gO (by omega),hz,Nat.zero_mod,Nat.mul_zero,Nat.add_zero] at hinv;obtain⟨e1,_⟩:=oY hinv.symm (Nat.mod_lt _ (Nat.two_pow_pos k));obtain⟨q1,q2,q3⟩:=wH (m:=i) hd.symm hB e1.symm hdl (xs:=[]) rfl;refine rF kG [(25,ff)] (.a4 (iF (om (¬ ((i:Int)<(i:Int))))) (show 0+i<=(aI ds).length by rw[aB];omega) q1 q2) (V:=.nat (aJ b32 (bD (((aI ds).drop 0).take i))) (32*(((aI ds).drop 0).take i).length)) q3
 | succ j ih=>
   intro i ds hj hi hd hdl hinv hrest;have hx1:ds.getD i 0<b32:=bC (by decide) hdl i;have hy1:ds.getD (i+1) 0<b32:=bC (by decide) hdl (i+1);obtain⟨s1,s2⟩:=Er (k:=k) (x:=ds.getD i 0) (y:=ds.getD (i+1) 0) (by omega) (show ds.getD i 0<2^32 from hx1);unfold b32 at hx1 hy1;have hdv:ds.getD i 0/2^k<4294967296:=Nat.lt_of_le_of_lt (Nat.div_le_self _ _) hx1
   have nx:∀ o,o<b32->o*2^k+ds.getD i 0 % 2^k=ds.getD i 0+b32*(ds.getD (i+1) 0 % 2^k)->GF 265 S w0 (.nat (aJ b32 og/2^k) B) FI
     ⟨slots 56 [(5,.own 0 1 0 m),(6,.i6 ((k:Nat):Int)),(22,.own 0 1 0 m),(23,.i6 ((m:Nat):Int)),(24,.i6 ((i+1:Nat):Int))],
      [some ⟨362,1,true,(aI (ds.set i o)),none⟩]⟩:=by
     intro o ho' hoe;refine ih (i+1) _ (by omega) (by omega) (by simp[hd]) (fH hdl ho') ?_ (fun t ht=>by rw[dR (by omega)];exact hrest t (by omega));rw[aT,aT b32 og,nE,dM (by omega),Nat.pow_succ, <- hrest i (rl _), <- hrest (i+1) (by omega)];refine Fv hoe ?_;rw[hrest i (rl _)];exact hinv
   have e1:∀ v:Nat,((aI ds).set (0+i) [(AV.int .u32 ((v:Nat):Int))])=aI (ds.set i v):=fun v=>by rw[eY,Nat.zero_add]
   have v0:Ref (.int .u32 (((ds.getD (0+i) 0:Nat):Int).fdiv (2^(min (k:Int).toNat 32)))) (.int .u32 (((ds.getD (0+i) 0)/2^k:Nat):Int)):=Ref.shrv (x:=ds.getD (0+i) 0) (k:=k) ((om (k<=32)));have v1:(i:Int)<(m:Int):=by omega
   have v2:0+i<(aI ds).length:=by rw[aB];omega
   have v4:Ref (((aI ds).getD (0+i) []).headD .any) (.int .u32 (ds.getD (0+i) 0:Int)):=Ref.cd32h ((om (0+i<ds.length)))
   by_cases hl:i+1<m
   · have v3:0+i<((aI ds).set (0+i) [(AV.int .u32 (((ds.getD (0+i) 0)/2^k:Nat):Int))]).length:=by rw[e1,aB];simp;omega
     have v5:((i+1:Nat):Int)<(m:Int):=by omega
     refine gN kG [4,5,6,22,23,24] [(25,tt),(30,.int .u32 (ds.getD (0+i) 0:Int)),(32,.int .u32 (((ds.getD (0+i) 0)/2^k:Nat):Int)),(35,.i6 ((i+1:Nat):Int)),(38,tt),(42,.int .u32 ((ds.getD i 0/2^k:Nat):Int)),(45,.i6 ((i+1:Nat):Int)),(47,.int .u32 (ds.getD (i+1) 0:Int)),(49,.i6 ((32-k:Nat):Int)),(50,.int .u32 (((ds.getD (i+1) 0)*2^(32-k) % 4294967296:Nat):Int)),(51,.int .u32 (((ds.getD i 0/2^k)||| ((ds.getD (i+1) 0)*2^(32-k) % 4294967296):Nat):Int)),(53,.i6 ((i+1:Nat):Int))] (.c6 (iT v1) (nn i) v1 v4 v2 v0 (.c6 (nn k) (nn i) v1 v2 (wI ((i:Int)+(1:Int)) ((i+1:Nat):Int)) (iT v5) (.c6 (nn i) v1 (show Ref ((((aI ds).set (0+i) [(AV.int .u32 (((ds.getD (0+i) 0)/2^k:Nat):Int))]).getD (0+i) []).headD .any) (.int .u32 ((ds.getD i 0/2^k:Nat):Int)) from ?_) v3 (wI ((i:Int)+(1:Int)) ((i+1:Nat):Int)) (nn (i+1)) (.c6 v5 (show Ref ((((aI ds).set (0+i) [(AV.int .u32 (((ds.getD (0+i) 0)/2^k:Nat):Int))]).getD (0+(i+1)) []).headD .any) (.int .u32 (ds.getD (i+1) 0:Int)) from ?_) (show 0+(i+1)<((aI ds).set (0+i) [(AV.int .u32 (((ds.getD (0+i) 0)/2^k:Nat):Int))]).length by rw[e1,aB];simp;omega) (show Ref (.i6 (IntKind.i64.wrap ((32:Int)-(k:Int)))) (.i6 ((32-k:Nat):Int)) from Ref.int ?_) (show Ref (.int .u32 (IntKind.u32.wrap (((ds.getD (i+1) 0:Nat):Int)*2^(min ((32-k:Nat):Int).toNat 32)))) (.int .u32 (((ds.getD (i+1) 0)*2^(32-k) % 4294967296:Nat):Int)) from Ref.shl32 (x:=ds.getD (i+1) 0) (k:=32-k) ((om (32-k<=32)))) (nn (32-k)) (.a5 (show Ref (.int .u32 (IntKind.u32.wrap (BitVec.ofInt 32 ((ds.getD i 0/2^k:Nat):Int)||| BitVec.ofInt 32 (((ds.getD (i+1) 0)*2^(32-k) % 4294967296:Nat):Int)).toNat)) (.int .u32 (((ds.getD i 0/2^k)||| ((ds.getD (i+1) 0)*2^(32-k) % 4294967296):Nat):Int)) from Ref.or32 (a:=ds.getD i 0/2^k) (b:=(ds.getD (i+1) 0)*2^(32-k) % 4294967296) ((show(ds.getD i 0/2^k)<4294967296/\((ds.getD (i+1) 0)*2^(32-k) % 4294967296)<4294967296 from⟨hdv,Nat.mod_lt _ (by decide)⟩))) (nn i) v1 v3 (wI ((i:Int)+(1:Int)) ((i+1:Nat):Int))))))) (t:=FI) (σ:=slots 56 [(5,.own 0 1 0 m),(6,.i6 (k:Int)),(22,.own 0 1 0 m),(23,.i6 (m:Int)),(24,.i6 ((i+1:Nat):Int))]) (h:=[some ⟨362,1,true,(((aI ds).set (0+i) [(AV.int .u32 (((ds.getD (0+i) 0)/2^k:Nat):Int))]).set (0+i) [.int .u32 (((ds.getD i 0/2^k)||| ((ds.getD (i+1) 0)*2^(32-k) % 4294967296):Nat):Int)]),none⟩]) ?_
     · rw[e1]
       exact Ref.cd32u (by simp only[Nat.zero_add];rw[dM (by omega)]) (by simp;omega)
     · rw[e1]
       exact Ref.cd32u (by simp only[Nat.zero_add];rw[dR (by omega)]) (by simp;omega)
     · rw[qX (by constructor <;> simp[IntKind.min,IntKind.max,IntKind.signed,IntKind.bits] <;> omega)];omega
     · rw[e1,eY,Nat.zero_add,List.set_set]
       exact nx _ s2 s1
   · refine gN kG [4,5,6,22,23,24] [(25,tt),(30,.int .u32 (ds.getD (0+i) 0:Int)),(32,.int .u32 (((ds.getD (0+i) 0)/2^k:Nat):Int)),(35,.i6 ((i+1:Nat):Int)),(38,ff),(53,.i6 ((i+1:Nat):Int))] (.c6 (iT v1) (nn i) v1 v4 v2 v0 (.c6 (nn k) (nn i) v1 v2 (wI ((i:Int)+(1:Int)) ((i+1:Nat):Int)) (iF (om (¬ (((i+1:Nat):Int)<(m:Int))))) (.a1 (wI ((i:Int)+(1:Int)) ((i+1:Nat):Int))))) (t:=FI) (σ:=slots 56 [(5,.own 0 1 0 m),(6,.i6 (k:Int)),(22,.own 0 1 0 m),(23,.i6 (m:Int)),(24,.i6 ((i+1:Nat):Int))]) (h:=[some ⟨362,1,true,((aI ds).set (0+i) [.int .u32 (((ds.getD (0+i) 0)/2^k:Nat):Int)]),none⟩]) ?_
     rw[e1,Nat.zero_add]
     have hz:ds.getD (i+1) 0=0:=by
       rw[nG,List.getElem?_eq_none (by omega)];rfl
     refine nx _ hdv ?_;rw[hz,Nat.zero_mod,Nat.mul_zero,Nat.mul_comm,Nat.div_add_mod];omega
theorem Ad (s:Nat) (xs:List Nat):((aI xs).take ((aI xs).length)).drop s=aI (xs.drop s):=by
 rw[gO (rl _),Bo]
theorem Oh:bO 265 Og:=fun args r ob h ho=>by
 unfold Og at h
 split at h
 · rename_i n B k
   cases h;have h0:0<=k:=ho _ (by simp);have hL:B<=LIM:=ho _ (by simp);have hk9:k<=9223372036854775807:=ho _ (by simp);obtain⟨k,rfl⟩:=Int.eq_ofNat_of_zero_le h0;replace hk9:(k:Int)<=9223372036854775807:=hk9;unfold LIM at hL;obtain⟨hx,hxn⟩:=aQ (b:=b32) (by decide) n;refine af Tryz.f265 fun S w0=> ?_
   show Good _ _ _ _ _ (eN S w0 (.nat (n/2^k) B)) _ _;refine Good.natlt (n:=n) (B:=B) 0 rfl fun hn=> ?_
   refine Good.weak 56 [(0,.list 1 (aI (aD b32 n))),(1,.i6 ((k:Nat):Int))] (by kernel_rfl) (.cons Ref.opn (.r .nil)) ?_;have l1:=hx.len (by rw[hxn];exact hn);generalize aD b32 n=xs at*;subst hxn;have hlt:=sQ hx.1;have hB:aJ b32 xs/2^k<2^B:=Nat.lt_of_le_of_lt (Nat.div_le_self _ _) hn;have v0:Ref (.i6 (IntKind.i64.wrap ((k:Int).tdiv (32:Int)))) (.i6 ((k/32:Nat):Int)):=Ref.quo (a:=k) (b:=32) rfl rfl (by decide) hk9;have v1:(32:Int)≠0:=by decide
   by_cases hs:xs.length<=k/32
   · refine rF kG [(9,.i6 ((k/32:Nat):Int)),(12,tt)] (.a3 v0 v1 (iT (show((aI xs).length:Int)<=((k/32:Nat):Int) by rw[aB];omega))) (V:=AV.nil) ?_
     have:aJ b32 xs<2^k:=Nat.lt_of_lt_of_le hlt (Nat.pow_le_pow_right (by decide) (by omega));rw[Nat.div_eq_of_lt this];exact Ref.nil0
   · refine gS kG (some 4) [0,1,4,5] [(9,.i6 ((k/32:Nat):Int)),(12,ff),(15,.i6 ((k/32:Nat):Int))] (.c6 v0 v1 (iF (show ¬ ((((aI xs).length:Nat):Int)<=((k/32:Nat):Int)) by rw[aB];omega)) v0 v1 (nn (k/32)) (.a3 (show((k/32:Nat):Int)<=((aI xs).length:Int) by rw[aB];omega) (show 0<(((aI xs).take ((aI xs).length)).drop (k/32)).length by rw[Ad,aB,List.length_drop];omega) (show(((aI xs).take ((aI xs).length)).drop (k/32)).length<=LIM by rw[Ad,aB,List.length_drop];unfold LIM;omega))) (t:=[.code (aR [1,1,1,0,0] (aA Tryz.f265)),.code (aR [1,1,1,0,1] (aA Tryz.f265)),.code (aR [1,1,1,1] (aA Tryz.f265))]) (σ:=slots 56 [(0,.list 1 (aI xs)),(1,.i6 (k:Int)),(4,.nil),(5,(.own 0 1 0 ((((aI xs).take ((aI xs).length)).drop (k/32)).length)))]) (h:=[some ⟨362,1,true,(((aI xs).take ((aI xs).length)).drop (k/32)),none⟩]) ?_
     rw[Ad,aB];refine Good.weak 56 [(1,_),(5,_)] (by kernel_rfl) (.r (.r .nil)) ?_;have hog:∀ x∈xs.drop (k/32),x<b32:=fun x h=>hx.1 x (List.mem_of_mem_drop h)
     have hv:aJ b32 xs/2^(32*(k/32))=aJ b32 (xs.drop (k/32)):=by
       rw[<- kT];refine(oY (r:=aJ b32 (xs.take (k/32))) ?_ (dN (by decide) hx.1 _)).1;rw[cZ b32 (k/32) xs,Nat.mul_comm];omega
     have e2:aJ b32 xs/2^k=aJ b32 (xs.drop (k/32))/2^(k % 32):=by
       rw[<- hv,Nat.div_div_eq_div_mul, <- Nat.pow_add];congr 2;omega
     rw[e2] at hB ⊢;have hlen:(xs.drop (k/32)).length=xs.length-k/32:=List.length_drop
     by_cases hk:0<k % 32
     · refine gN kG [4,5,6,22,23,24] [(19,.i6 ((k % 32:Nat):Int)),(21,tt)] (.a3 (show Ref (.i6 ((k:Int).tmod (32:Int))) (.i6 ((k % 32:Nat):Int)) from Ref.rem (a:=k) (b:=32) rfl rfl) v1 (iT (om ((0:Int)<((k % 32:Nat):Int))))) (t:=FI) (σ:=slots 56 [(5,(.own 0 1 0 ((List.drop (k/32) xs).length))),(6,.i6 ((k % 32:Nat):Int)),(22,(.own 0 1 0 ((List.drop (k/32) xs).length))),(23,(.i6 ((((List.drop (k/32) xs).length):Nat):Int))),(24,.i6 (0:Int))]) (h:=[some ⟨362,1,true,(aI (List.drop (k/32) xs)),none⟩]) ?_
       refine Jb rfl hog hk (Nat.mod_lt _ (by decide)) (by unfold big;omega) hB _ 0 _ rfl (by omega) rfl hog (by simp[aJ]) (fun _ _=>rfl)
     · have hk:k % 32=0:=by omega
       obtain⟨q1,q2,q3⟩:=wH (N:=aJ b32 (xs.drop (k/32))/2^(k % 32)) (m:=(xs.drop (k/32)).length) rfl hB (by rw[hk];simp) hog (xs:=[]) rfl;exact FH (List.drop (k/32) xs) k ((List.drop (k/32) xs).length) (by omega) ⟨by rw[aB];omega,q1,q2⟩ (bX aX (fn:=Tryz.f265) (by kernel_rfl) 4 (by kernel_rfl) rfl (by rfl) q3)
 · cases h
end
def kH:=kn
def Oi:KF
 | [.nat n _,.nat m _]=>some (.int .i64 (fL n m),[])
 | _=>none
section
variable {S:Nat->Prop} {w0:World}
noncomputable abbrev LG:List Item:=[.code (aR [1,1,0,1,0,0] (aA Tryz.f207)),.inLoop (aR [1,1,0,1,0,0] (aA Tryz.f207)),.inBlock 0,.code (aR [1,1,1] (aA Tryz.f207))]
theorem Jc {xs ys:List Nat} (hl:xs.length=ys.length) (hx:∀ x∈xs,x<b32) (hy:∀ x∈ys,x<b32) (hb:xs.length<=big):∀ (j:Nat),j<=xs.length->xs.drop j=ys.drop j->
   GF 207 S w0 (.i6 (fL (aJ b32 xs) (aJ b32 ys))) LG ⟨slots 41 [(0,.list 1 (aI xs)),(1,.list 1 (aI ys)),(5,(.i6 (((j:Nat):Int)-1)))],[]⟩:=by
 unfold big at hb;intro j
 induction j with
 | zero=>
   intro _ hd;refine rF kH [(20,ff)] (.a1 (iF (om (¬ ((0:Int)<=((0:Int)-1)))))) (V:=.i6 (0:Int)) ?_
   simp only[List.drop_zero] at hd;subst hd;exact Ref.int (Dj _).symm
 | succ j ih=>
   intro hj hd;have e:((((j+1:Nat):Int)-1).toNat)=j:=by omega
   have o:((((j+1:Nat):Int)-1).toNat<xs.length)/\(0<=(((j+1:Nat):Int)-1))/\((((j+1:Nat):Int)-1)<(((aI xs).length:Nat):Int))/\((((j+1:Nat):Int)-1).toNat<ys.length)/\((((j+1:Nat):Int)-1)<(((aI ys).length:Nat):Int)):=by
     simp only[aB];omega
   have v1:(0:Int)<=((((j+1):Nat):Int)-1):=by omega
   by_cases h:xs.getD j 0=ys.getD j 0
   · refine gN kH [0,1,4,5] [(20,tt),(25,.cptr [.int .u32 (xs.getD (((((j+1):Nat):Int)-1).toNat) 0:Int)] 0),(29,.cptr [.int .u32 (ys.getD (((((j+1):Nat):Int)-1).toNat) 0:Int)] 0),(31,ff),(22,.i6 (((((j+1):Nat):Int)-1)-(1:Int)))] (.c6 (iT v1) (Ref.cd32 o.1) o.2.1 o.2.2.1 (Ref.cd32 o.2.2.2.1) o.2.1 (.a3 o.2.2.2.2 (jF (show(xs.getD (((((j+1):Nat):Int)-1).toNat) 0:Int)=(ys.getD (((((j+1):Nat):Int)-1).toNat) 0:Int) by rw[e,h])) (wI (((((j+1):Nat):Int)-1)-(1:Int)) (((((j+1):Nat):Int)-1)-(1:Int))))) (t:=LG) (σ:=slots 41 [(0,.list 1 (aI xs)),(1,.list 1 (aI ys)),(5,(.i6 (((((j+1):Nat):Int)-1)-(1:Int))))]) (h:=[]) ?_
     rw[show(((j+1:Nat):Int)-1)-(1:Int)=((j:Nat):Int)-1 by omega];refine ih (by omega) ?_;rw[List.drop_eq_getElem_cons (by omega:j<xs.length),List.drop_eq_getElem_cons (by omega:j<ys.length),hd]
     have:xs[j]'(by omega)=ys[j]'(by omega):=by
       simpa[nG,show j<xs.length by omega,show j<ys.length by omega] using h
     rw[this]
   · have v0:¬ (((xs.getD (((((j+1):Nat):Int)-1).toNat) 0:Nat):Int)=(ys.getD (((((j+1):Nat):Int)-1).toNat) 0:Int)):=by rw[e];omega
     by_cases h2:xs.getD j 0<ys.getD j 0
     · refine rF kH [(20,tt),(25,.cptr [.int .u32 (xs.getD (((((j+1):Nat):Int)-1).toNat) 0:Int)] 0),(29,.cptr [.int .u32 (ys.getD (((((j+1):Nat):Int)-1).toNat) 0:Int)] 0),(31,tt),(34,.cptr [.int .u32 (xs.getD (((((j+1):Nat):Int)-1).toNat) 0:Int)] 0),(38,.cptr [.int .u32 (ys.getD (((((j+1):Nat):Int)-1).toNat) 0:Int)] 0),(40,tt)] (.c6 (iT v1) (Ref.cd32 o.1) o.2.1 o.2.2.1 (Ref.cd32 o.2.2.2.1) o.2.1 (.c6 o.2.2.2.2 (jT v0) (Ref.cd32 o.1) o.2.1 o.2.2.1 (Ref.cd32 o.2.2.2.1) (.a3 o.2.1 o.2.2.2.2 (iT (show(xs.getD (((((j+1):Nat):Int)-1).toNat) 0:Int)<(ys.getD (((((j+1):Nat):Int)-1).toNat) 0:Int) by rw[e];omega))))) (V:=.i6 (-1:Int)) ?_
       exact Ref.int (uC (iA (by decide) hx hd h2)).symm
     · refine rF kH [(20,tt),(25,.cptr [.int .u32 (xs.getD (((((j+1):Nat):Int)-1).toNat) 0:Int)] 0),(29,.cptr [.int .u32 (ys.getD (((((j+1):Nat):Int)-1).toNat) 0:Int)] 0),(31,tt),(34,.cptr [.int .u32 (xs.getD (((((j+1):Nat):Int)-1).toNat) 0:Int)] 0),(38,.cptr [.int .u32 (ys.getD (((((j+1):Nat):Int)-1).toNat) 0:Int)] 0),(40,ff)] (.c6 (iT v1) (Ref.cd32 o.1) o.2.1 o.2.2.1 (Ref.cd32 o.2.2.2.1) o.2.1 (.c6 o.2.2.2.2 (jT v0) (Ref.cd32 o.1) o.2.1 o.2.2.1 (Ref.cd32 o.2.2.2.1) (.a3 o.2.1 o.2.2.2.2 (iF (show ¬ (((xs.getD (((((j+1):Nat):Int)-1).toNat) 0:Nat):Int)<(ys.getD (((((j+1):Nat):Int)-1).toNat) 0:Int)) by rw[e];omega))))) (V:=.i6 (1:Int)) ?_
       exact Ref.int (uD (iA (by decide) hy hd.symm (by omega))).symm
theorem FJ:bO 207 Oi:=fun args r ob h ho=>by
 unfold Oi at h
 split at h
 · rename_i n B m C
   cases h;obtain⟨hx,hxn⟩:=aQ (b:=b32) (by decide) n;obtain⟨hy,hyn⟩:=aQ (b:=b32) (by decide) m;refine af Tryz.f207 fun S w0=> ?_
   refine Good.weak 41 [(0,.list 1 (aI (aD b32 n))),(1,.list 1 (aI (aD b32 m)))] (by kernel_rfl) (.cons Ref.opn (.cons Ref.opn .nil)) ?_;refine Good.len 0 (e:=1) (xs:=aI (aD b32 n)) (by rfl) fun hb=> ?_
   rw[aB] at hb;generalize aD b32 n=xs at*;generalize aD b32 m=ys at*;subst hxn;subst hyn
   by_cases h1:xs.length=ys.length
   · refine gN kH [0,1,4,5] [(10,ff),(18,.i6 ((((aI xs).length:Nat):Int)-(1:Int)))] (.a2 (jF (show((aI xs).length:Int)=((aI ys).length:Int) by simp only[aB];omega)) (wI ((((aI xs).length:Nat):Int)-(1:Int)) ((((aI xs).length:Nat):Int)-(1:Int)) (by simp only[aB];unfold big at hb;omega))) (t:=LG) (σ:=slots 41 [(0,.list 1 (aI xs)),(1,.list 1 (aI ys)),(4,.i6 (0:Int)),(5,(.i6 ((((aI xs).length:Nat):Int)-(1:Int))))]) (h:=[]) ?_
     rw[aB];refine Good.weak 41 [(0,_),(1,_),(5,_)] (by kernel_rfl) (.r (.r (.r .nil))) ?_;exact Jc h1 hx.1 hy.1 hb xs.length (rl _) (by rw[List.drop_length,h1,List.drop_length])
   · have v0:¬ ((((aI xs).length:Nat):Int)=((aI ys).length:Int)):=by simp only[aB];omega
     by_cases h2:xs.length<ys.length
     · refine rF kH [(10,tt),(15,tt)] (.a2 (jT v0) (iT (show((aI xs).length:Int)<((aI ys).length:Int) by simp only[aB];omega))) (V:=.i6 (-1:Int)) ?_
       exact Ref.int (uC (eI (by decide) hx hy h2)).symm
     · refine rF kH [(10,tt),(15,ff)] (.a2 (jT v0) (iF (show ¬ ((((aI xs).length:Nat):Int)<((aI ys).length:Int)) by simp only[aB];omega))) (V:=.i6 (1:Int)) ?_
       exact Ref.int (uD (eI (by decide) hy hx (by omega))).symm
 · cases h
end
def gJ:ByteArray:=(ByteArray.mk #[0,1,2,2,3,3,3,3,4,4,4,4,4,4,4,4,5,5,5,5,5,5,5,5,5,5,5,5,5,5,5,5,6,6,6,6,6,6,6,6,6,6,6,6,6,6,6,6,6,6,6,6,6,6,6,6,6,6,6,6,6,6,6,6,7,7,7,7,7,7,7,7,7,7,7,7,7,7,7,7,7,7,7,7,7,7,7,7,7,7,7,7,7,7,7,7,7,7,7,7,7,7,7,7,7,7,7,7,7,7,7,7,7,7,7,7,7,7,7,7,7,7,7,7,7,7,7,7,8,8,8,8,8,8,8,8,8,8,8,8,8,8,8,8,8,8,8,8,8,8,8,8,8,8,8,8,8,8,8,8,8,8,8,8,8,8,8,8,8,8,8,8,8,8,8,8,8,8,8,8,8,8,8,8,8,8,8,8,8,8,8,8,8,8,8,8,8,8,8,8,8,8,8,8,8,8,8,8,8,8,8,8,8,8,8,8,8,8,8,8,8,8,8,8,8,8,8,8,8,8,8,8,8,8,8,8,8,8,8,8,8,8,8,8,8,8,8,8,8,8,8,8,8,8,8,8])
def aU (n:Nat):Nat:=if n=0 then 0 else n.log2+1
theorem EB {n k:Nat} (h1:2^k<=n) (h2:n<2^(k+1)):aU n=k+1:=by
 have h0:n≠0:=by have:=Nat.two_pow_pos k;omega
 unfold aU;rw[if_neg h0];have h3:=(Nat.le_log2 h0).2 h1;have h4:=(Nat.log2_lt h0).2 h2;omega
theorem kU {n:Nat} (h:n≠0):0<aU n/\2^(aU n-1)<=n/\n<2^aU n:=by
 unfold aU;rw[if_neg h];exact⟨by omega,by simpa using Nat.log2_self_le h,Nat.lt_log2_self⟩
theorem kI {n k:Nat} (h:2^k<=n):aU n=k+aU (n/2^k):=by
 have hp:=Nat.two_pow_pos k;have h0:n/2^k≠0:=by have:=(Nat.le_div_iff_mul_le hp).2 (by rw[Nat.one_mul];exact h:1*2^k<=n);omega
 obtain⟨h1,h2,h3⟩:=kU h0;have e:k+aU (n/2^k)=(k+(aU (n/2^k)-1))+1:=by omega
 rw[e];refine EB ?_ ?_
 · rw[Nat.pow_add]
   exact Nat.le_trans (Nat.mul_le_mul_left _ h2) (Nat.mul_div_le _ _)
 · rw[show k+(aU (n/2^k)-1)+1=k+aU (n/2^k) by omega,Nat.pow_add,Nat.mul_comm]
   exact(Nat.div_lt_iff_lt_mul hp).1 h3
theorem FK:(List.range 256).all (fun i=>(gJ.data.toList.getD i 0).toNat==aU i)=true:=by kernel_rfl
theorem FL {i:Nat} (h:i<256):(gJ.data.toList.getD i 0).toNat=aU i:=by
 have:=List.all_eq_true.1 FK i (List.mem_range.2 h);exact eq_of_beq this
theorem rA {i:Nat} (h:i<256):Ref (.int .u8 (((gJ.data.toList.getD i 0).toNat:Nat):Int)) (.int .u8 ((aU i:Nat):Int)):=Ref.int (by rw[FL h])
theorem oZ:gJ.size=256:=by kernel_rfl
theorem kV (n:Nat):aU n<=n:=by
 unfold aU;split
 · omega
 · rename_i h;exact(Nat.log2_lt h).2 Nat.lt_two_pow_self
theorem pA {n k:Nat} (h:n<2^k):aU n<=k:=by
 by_cases h0:n=0
 · subst h0;simp[aU]
 · obtain⟨h1,h2,h3⟩:=kU h0
   have:=(Nat.pow_lt_pow_iff_right (by decide:1<2)).1 (Nat.lt_of_le_of_lt h2 h);omega
def Oj:KF
 | [.int .u32 x]=>some (.int .i64 ((aU x.toNat:Nat):Int),[0<=x,x.toNat<4294967296])
 | _=>none
theorem Ol:bO 298 Oj:=by
 refine cJ Tryz.f298 fun _ _ _ S w0 h ho=> ?_
 unfold Oj at h;split at h <;> cases h;rename_i x;obtain⟨o1000,o1⟩:=ho.e2;obtain⟨x,rfl⟩:=Int.eq_ofNat_of_zero_le o1000;clear o1000;replace o1:x<4294967296:=o1;have b1:=kV (x/65536/256);have b2:=kV (x/65536);have b3:=kV (x/256);have b4:=kV x
 by_cases h1:(65536:Int)<=((x:Nat):Int)
 · have v0:Ref (.int .u32 ((x:Int).fdiv (2^(min (16:Int).toNat 32)))) (.int .u32 ((x/65536:Nat):Int)):=Ref.shrc (c:=min (Int.toNat _) _) (by rfl) (by decide)
   by_cases h2:(256:Int)<=((x/65536:Nat):Int)
   · refine rF .nil [(4,tt),(6,.int .u32 ((x/65536:Nat):Int)),(8,tt),(10,.int .u32 (((x/65536)/256:Nat):Int)),(15,.int .u8 (((x/65536)/256:Nat):Int)),(16,.int .u8 (aU ((x/65536)/256):Int)),(17,.i6 (aU ((x/65536)/256):Int)),(18,.i6 ((24+(aU ((x/65536)/256)):Nat):Int))] (.c6 (iT h1) v0 (dc (0<=(16:Int))) (iT h2) (show Ref (.int .u32 (((x/65536:Nat):Int).fdiv (2^(min (8:Int).toNat 32)))) (.int .u32 (((x/65536)/256:Nat):Int)) from Ref.shrc (c:=min (Int.toNat _) _) (by rfl) (by decide)) (dc (0<=(8:Int))) (.a6 (wB (((x/65536)/256:Nat):Int) (((x/65536)/256:Nat):Int) (by omega)) (show Ref (.int .u8 ((gJ.data.toList.getD ((x/65536)/256) 0).toNat:Int)) (.int .u8 (aU ((x/65536)/256):Int)) by exact rA (by omega)) (nn ((x/65536)/256)) (show(((x/65536)/256:Nat):Int)<(gJ.size:Int) by(rw[oZ];omega)) (wI (aU ((x/65536)/256):Int) (aU ((x/65536)/256):Int) (by omega)) (wI ((24:Int)+(aU ((x/65536)/256):Int)) ((24+(aU ((x/65536)/256)):Nat):Int) (by omega)))) (V:=.i6 ((24+(aU ((x/65536)/256)):Nat):Int)) (r:=.i6 (aU x:Int)) ?_
     refine Ref.int ?_;rw[kI (n:=x) (k:=16) (by omega),kI (n:=x/2^16) (k:=8) (by omega)];simp only[show(2:Nat)^16=65536 from rfl,show(2:Nat)^8=256 from rfl]
     try omega
   · refine rF .nil [(4,tt),(6,.int .u32 ((x/65536:Nat):Int)),(8,ff),(15,.int .u8 ((x/65536:Nat):Int)),(16,.int .u8 (aU (x/65536):Int)),(17,.i6 (aU (x/65536):Int)),(18,.i6 ((16+(aU (x/65536)):Nat):Int))] (.c6 (iT h1) v0 (dc (0<=(16:Int))) (iF h2) (wB ((x/65536:Nat):Int) ((x/65536:Nat):Int) (by omega)) (show Ref (.int .u8 ((gJ.data.toList.getD (x/65536) 0).toNat:Int)) (.int .u8 (aU (x/65536):Int)) by exact rA (by omega)) (.a4 (nn (x/65536)) (show((x/65536:Nat):Int)<(gJ.size:Int) by(rw[oZ];omega)) (wI (aU (x/65536):Int) (aU (x/65536):Int) (by omega)) (wI ((16:Int)+(aU (x/65536):Int)) ((16+(aU (x/65536)):Nat):Int) (by omega)))) (V:=.i6 ((16+(aU (x/65536)):Nat):Int)) (r:=.i6 (aU x:Int)) ?_
     refine Ref.int ?_;rw[kI (n:=x) (k:=16) (by omega)]
 · by_cases h2:(256:Int)<=((x:Nat):Int)
   · refine rF .nil [(4,ff),(8,tt),(10,.int .u32 ((x/256:Nat):Int)),(15,.int .u8 ((x/256:Nat):Int)),(16,.int .u8 (aU (x/256):Int)),(17,.i6 (aU (x/256):Int)),(18,.i6 ((8+(aU (x/256)):Nat):Int))] (.c6 (iF h1) (iT h2) (show Ref (.int .u32 ((x:Int).fdiv (2^(min (8:Int).toNat 32)))) (.int .u32 ((x/256:Nat):Int)) from Ref.shrc (c:=min (Int.toNat _) _) (by rfl) (by decide)) (dc (0<=(8:Int))) (wB ((x/256:Nat):Int) ((x/256:Nat):Int) (by omega)) (show Ref (.int .u8 ((gJ.data.toList.getD (x/256) 0).toNat:Int)) (.int .u8 (aU (x/256):Int)) by exact rA (by omega)) (.a4 (nn (x/256)) (show((x/256:Nat):Int)<(gJ.size:Int) by(rw[oZ];omega)) (wI (aU (x/256):Int) (aU (x/256):Int) (by omega)) (wI ((8:Int)+(aU (x/256):Int)) ((8+(aU (x/256)):Nat):Int) (by omega)))) (V:=.i6 ((8+(aU (x/256)):Nat):Int)) (r:=.i6 (aU x:Int)) ?_
     refine Ref.int ?_;rw[kI (n:=x) (k:=8) (by omega)]
   · exact rF .nil [(4,ff),(8,ff),(15,.int .u8 (x:Int)),(16,.int .u8 (aU x:Int)),(17,.i6 (aU x:Int)),(18,.i6 (aU x:Int))] (.c6 (iF h1) (iF h2) (wB (x:Int) (x:Int) (by omega)) (show Ref (.int .u8 ((gJ.data.toList.getD x 0).toNat:Int)) (.int .u8 (aU x:Int)) by exact rA (by omega)) (nn x) (show(x:Int)<(gJ.size:Int) by(rw[oZ];omega)) (.a2 (wI (aU x:Int) (aU x:Int) (by omega)) (wI ((0:Int)+(aU x:Int)) (aU x:Int) (by omega)))) (V:=.i6 (aU x:Int)) (r:=.i6 (aU x:Int)) (Ref.int (by omega))
def Om:KF
 | [.int .u32 x]=>some (.int .i64 ((32-aU x.toNat:Nat):Int),[0<=x,x.toNat<4294967296])
 | _=>none
theorem So:bO 261 Om:=by
 refine cJ Tryz.f261 fun _ _ _ S w0 h ho=> ?_
 unfold Om at h;split at h <;> cases h;rename_i x;obtain⟨o1000,o1⟩:=ho.e2;have K:=kn.cons Ol;obtain⟨x,rfl⟩:=Int.eq_ofNat_of_zero_le o1000;clear o1000;replace o1:x<4294967296:=o1;have b1:=pA (n:=x) (k:=32) o1;exact rF K [(5,.i6 ((32:Int)-(aU x:Int)))] (.a3 (nn x) (om (x<4294967296)) (wI ((32:Int)-(aU x:Int)) ((32:Int)-(aU x:Int)))) (V:=.i6 ((32:Int)-(aU x:Int))) (r:=.i6 ((32-aU x:Nat):Int)) (Ref.int (by omega))
def dI:=(((((((kn.cons Oh).cons Od).cons So).cons Ob).cons By).cons FJ).consH NX).consH NV
def On:KF
 | [.nat n B,.nat m C]=>some (.tup [.nat (n/m) B,.nat (n % m) (max B C)],[0<m,max B C+128<=LIM])
 | _=>none
theorem CA {r x:Nat} (hr:r<4294967296) (hx:x<4294967296):Ref (AV.int .u64 (IntKind.u64.wrap (BitVec.ofInt 64 ((r*2^32 % 18446744073709551616:Nat):Int)||| BitVec.ofInt 64 ((x:Nat):Int)).toNat)) (AV.int .u64 ((r*4294967296+x:Nat):Int)):=by
 refine(Ref.or64 ⟨by omega,by omega⟩).trans (Ref.nat_eq ?_);have e1:r*2^32 % 18446744073709551616=2^32*r:=by rw[Nat.mod_eq_of_lt (by omega),Nat.mul_comm]
 rw[e1,nK hx];omega
theorem Ref.wrI {x y:Int} (h:x=y) (b: -9223372036854775808<=y/\y<=9223372036854775807):Ref (.i6 (IntKind.i64.wrap x)) (.i6 y):=by
 subst h;exact Ref.wr b
theorem Ref.wrU {x y:Int} (h:x=y) (b:0<=y/\y<=18446744073709551615):Ref (.int .u64 (IntKind.u64.wrap x)) (.int .u64 y):=by
 subst h;exact Ref.wr b
theorem FM {b u2 u1 u0 v1 v0 P w w' W V:Nat} (hW:W=((u2*b+u1)*b+u0)*P+w) (hV:V=(v1*b+v0)*P+w') (hw':w'<P) (hv0:v0<b) (h:W<b*V):u2<=v1:=by
 rcases Nat.lt_or_ge v1 u2 with h' | h'
 · exfalso
   have h1:((v1+1)*b)*b<=(u2*b+u1)*b+u0:=by
     have a:=Nat.mul_le_mul_right b (Nat.mul_le_mul_right b (show v1+1<=u2 from h'));have c:(u2*b+u1)*b=u2*b*b+u1*b:=by rw[Nat.add_mul]
     omega
   have h2:=Nat.mul_le_mul_right P h1;have h3:v1*b+v0+1<=(v1+1)*b:=by rw[Nat.add_mul];omega
   have h4:=Nat.mul_le_mul_right P h3;rw[Nat.add_mul (v1*b+v0) 1] at h4;have h5:V<(v1+1)*b*P:=by omega
   have h6:b*V<=b*((v1+1)*b*P):=Nat.mul_le_mul_left _ (Nat.le_of_lt h5)
   have e:b*((v1+1)*b*P)=(v1+1)*b*b*P:=by
     rw[<- Nat.mul_assoc,Nat.mul_comm b]
   omega
 · exact h'
theorem CB {x b X V:Nat} (hx:x<b) (hX:X<V):x+b*X<b*V:=by
 have:=Nat.mul_le_mul_left b hX;rw[Nat.mul_succ] at this;omega
section
variable {S:Nat->Prop} {w0:World}
noncomputable abbrev EC:List Item:=[.code (aR [1,1,1,1,1,1,1,1,1,0,1,0,0] (aA Tryz.f205)),.inLoop (aR [1,1,1,1,1,1,1,1,1,0,1,0,0] (aA Tryz.f205)),.inBlock 1,.code (aR [1,1,1,1,1,1,1,1,1,1] (aA Tryz.f205))]
noncomputable abbrev FN:List Item:=[.code (aR [1,1,1,1,1,1,1,1,1,0,1,0,0,1,0,0,1,1,0,0,0] (aA Tryz.f205)),.inLoop (aR [1,1,1,1,1,1,1,1,1,0,1,0,0,1,0,0,1,1,0,0,0] (aA Tryz.f205)),.inBlock 3,.code (aR [1,1,1,1,1,1,1,1,1,0,1,0,0,1,0,0,1,1,1] (aA Tryz.f205)),.inBlock 2,.code (aR [1,1,1,1,1,1,1,1,1,0,1,0,0,1,1] (aA Tryz.f205)),.inLoop (aR [1,1,1,1,1,1,1,1,1,0,1,0,0] (aA Tryz.f205)),.inBlock 1,.code (aR [1,1,1,1,1,1,1,1,1,1] (aA Tryz.f205))]
noncomputable abbrev yS:List Item:=[.code (aR [1,1,1,1,1,1,1,1,1,0,1,0,0,1,0,0,1,1,1,0,0] (aA Tryz.f205)),.code (aR [1,1,1,1,1,1,1,1,1,0,1,0,0,1,0,0,1,1,1,0,1] (aA Tryz.f205)),.code (aR [1,1,1,1,1,1,1,1,1,0,1,0,0,1,0,0,1,1,1,1] (aA Tryz.f205)),.inBlock 2,.code (aR [1,1,1,1,1,1,1,1,1,0,1,0,0,1,1] (aA Tryz.f205)),.inLoop (aR [1,1,1,1,1,1,1,1,1,0,1,0,0] (aA Tryz.f205)),.inBlock 1,.code (aR [1,1,1,1,1,1,1,1,1,1] (aA Tryz.f205))]
structure Inv205 (vs:List Nat) (p l M L2 U:Nat) (k1:Nat) (ds qs:List Nat):Prop where
 dl:ds.length=L2
 dd:∀ x∈ds,x<b32
 ql:qs.length=M
 qd:∀ x∈qs,x<b32
 val:aJ b32 ds+aJ b32 vs*(b32^k1*aJ b32 (qs.drop k1))=U
 low:aJ b32 (ds.drop k1)<aJ b32 vs
 le:k1<=M
variable {vs:List Nat} {k p l M L2 U:Nat} {Post:Value->World->Prop}
theorem Ae (hvl:vs.length=p+2) (hvd:∀ x∈vs,x<b32) (hMl:M+(p+2)=l) (hlL:l<=L2) (hL:L2<=LIM) {j g:Nat} {ds qs:List Nat} (hI:Inv205 vs p l M L2 U (j+1) ds qs) (hg:g<b32)
   (h1:aJ b32 (ds.drop j)<(g+1)*aJ b32 vs) (h2:g*aJ b32 vs<=aJ b32 (ds.drop j)+aJ b32 vs)
   (next:∀ ds qs,Inv205 vs p l M L2 U j ds qs->Good Tryz.prog 205 S No w0 Post EC ⟨slots 164 [(6,.i6 ((k:Nat):Int)),(7,.list 1 (aI vs)),(8,.i6 ((p+2:Nat):Int)),(9,.own 0 1 0 l),(10,.own 1 1 0 M),(11,(.i6 (((j:Nat):Int)-(1:Int))))],[some ⟨362,1,true,(aI ds),none⟩,some ⟨362,1,true,(aI qs),none⟩]⟩):
   Good Tryz.prog 205 S No w0 Post yS ⟨slots 164 [(6,.i6 ((k:Nat):Int)),(7,.list 1 (aI vs)),(8,.i6 ((p+2:Nat):Int)),(9,.own 0 1 0 l),(10,.own 1 1 0 M),(11,.i6 ((j:Nat):Int)),(13,.int .u64 ((g:Nat):Int))],[some ⟨362,1,true,(aI ds),none⟩,some ⟨362,1,true,(aI qs),none⟩]⟩:=by
 have hj:=hI.le
 have hW:aJ b32 (ds.drop j)<b32^(vs.length+1):=by
   rw[cK (by rw[hI.dl];omega),Nat.pow_succ,Nat.mul_comm (b32^vs.length)];have a:=CB (bC (by decide) hI.dd j) hI.low;have c:=Nat.mul_le_mul_left b32 (Nat.le_of_lt (dY (by decide) hvd));exact Nat.lt_of_lt_of_le a c
 rcases hR:fI g vs j 0 0 ds with ⟨R,β⟩;obtain⟨r1,r2,r3,r4,r5,r6⟩:=Bx hI.dd hvd (by rw[hI.dl];omega) hg hW h1 h2 hR rfl;unfold LIM at hL;unfold b32 at hg
 have step:∀ (D:List Nat) (q:Nat),D.length=ds.length->(∀ x∈D,x<b32)->q<4294967296->aJ b32 D+b32^j*(q*aJ b32 vs)=aJ b32 ds/\aJ b32 (D.drop j)<aJ b32 vs->Inv205 vs p l M L2 U j D (qs.set j q):=by
   intro D q e1 e2 e3 ⟨e4,e5⟩;refine⟨by rw[e1,hI.dl],e2,by simp[hI.ql],fH hI.qd e3, ?_,e5,by omega⟩;rw[cK (by simp;rw[hI.ql];omega),dM (by rw[hI.ql];omega),nI (by omega)];have v:=hI.val;rw[Nat.pow_succ] at v;exact Ey e4 v
 cases β with
 | true=>
   obtain⟨g0,q⟩:=r6 rfl;refine cX (p:=((aI vs)=aI (bD (aI vs)))/\((aI ds)=aI (bD (aI ds)))/\(∀ x∈bD (aI vs),x<b32)/\(∀ x∈bD (aI ds),x<b32)/\(g<b32)/\(j+(bD (aI vs)).length<l)/\(l<=(bD (aI ds)).length)/\(l<=LIM)/\(Ref (.int .u64 (IntKind.u64.wrap ((g:Int)-(1:Int)))) (.int .u64 ((g-1:Nat):Int)))/\((aI (fI g (bD (aI vs)) j 0 0 (bD (aI ds))).1)=aI (bD (aI (fI g (bD (aI vs)) j 0 0 (bD (aI ds))).1)))/\(∀ x∈bD (aI (fI g (bD (aI vs)) j 0 0 (bD (aI ds))).1),x<b32)/\(l<=(bD (aI (fI g (bD (aI vs)) j 0 0 (bD (aI ds))).1)).length)/\(0<=((g-1:Nat):Int)/\((g-1:Nat):Int)<=4294967295)/\((j:Int)<(M:Int))/\(0+j<(aI qs).length)/\(-9223372036854775808<=(j:Int)-(1:Int)/\(j:Int)-(1:Int)<=9223372036854775807)) ?_ fun⟨q0,q1,q2,q3,q4,q5,q6,q7,q8,q9,q10,q11,q12,q13,q14,q15⟩=>gR dI none [4,5,6,7,8,9,10,11] [0,1] [(144,tt),(146,.int .u64 ((g-1:Nat):Int)),(154,.int .u32 ((g-1:Nat):Int)),(70,.i6 ((j:Int)-(1:Int)))] (.c6 (show Ref (.bool ((fI g (bD (aI vs)) j 0 0 (bD (aI ds))).2)) (.bool true) from Ref.bool (show((fI g (bD (aI vs)) j 0 0 (bD (aI ds))).2)=true by rw[cC,cC,hR])) (nn g) (nn j) q0 q1 q2 (.c6 q3 q4 q5 q6 q7 q8 (.c6 (nn j) q0 q9 q2 q10 q5 (.c6 q11 q7 (wV ((g-1:Nat):Int) ((g-1:Nat):Int) q12) (nn j) q13 q14 (.a1 (wI ((j:Int)-(1:Int)) ((j:Int)-(1:Int)) q15)))))) (t:=EC) (σ:=slots 164 [(6,.i6 (k:Int)),(7,.list 1 (aI vs)),(8,.i6 ((p+2:Nat):Int)),(9,.own 0 1 0 l),(10,.own 1 1 0 M),(11,.i6 ((j:Int)-(1:Int)))]) (h:=[some ⟨362,1,true,(aI (mS (bD (aI vs)) j 0 (bD (aI (fI g (bD (aI vs)) j 0 0 (bD (aI ds))).1)))),none⟩,some ⟨362,1,true,((aI qs).set (0+j) [.int .u32 ((g-1:Nat):Int)]),none⟩]) ?_
   · simp only[cC,aB,hR]
     refine⟨trivial,trivial,hvd,hI.dd,hg,by omega,by rw[hI.dl];exact hlL,by unfold LIM;omega,Ref.wrU (by omega) (by omega),trivial,r2,by rw[r1,hI.dl];exact hlL,by omega,by omega,by rw[hI.ql];omega,by omega⟩
   · simp only[cC,hR]
     rw[eY,Nat.zero_add];exact next _ _ (step _ _ r3 r4 (by omega) q)
 | false=>
   refine cX (p:=((aI vs)=aI (bD (aI vs)))/\((aI ds)=aI (bD (aI ds)))/\(∀ x∈bD (aI vs),x<b32)/\(∀ x∈bD (aI ds),x<b32)/\(g<b32)/\(j+(bD (aI vs)).length<l)/\(l<=(bD (aI ds)).length)/\(l<=LIM)/\(0<=(g:Int)/\(g:Int)<=4294967295)/\((j:Int)<(M:Int))/\(0+j<(aI qs).length)/\(-9223372036854775808<=(j:Int)-(1:Int)/\(j:Int)-(1:Int)<=9223372036854775807)) ?_ fun⟨q0,q1,q2,q3,q4,q5,q6,q7,q8,q9,q10,q11⟩=>gR dI none [4,5,6,7,8,9,10,11] [0,1] [(144,ff),(154,.int .u32 (g:Int)),(70,.i6 ((j:Int)-(1:Int)))] (.c6 (show Ref (.bool ((fI g (bD (aI vs)) j 0 0 (bD (aI ds))).2)) (.bool false) from Ref.bool (show((fI g (bD (aI vs)) j 0 0 (bD (aI ds))).2)=false by rw[cC,cC,hR])) (nn g) (nn j) q0 q1 q2 (.c6 q3 q4 q5 q6 q7 (wV (g:Int) (g:Int) q8) (.a4 (nn j) q9 q10 (wI ((j:Int)-(1:Int)) ((j:Int)-(1:Int)) q11)))) (t:=EC) (σ:=slots 164 [(6,.i6 (k:Int)),(7,.list 1 (aI vs)),(8,.i6 ((p+2:Nat):Int)),(9,.own 0 1 0 l),(10,.own 1 1 0 M),(11,.i6 ((j:Int)-(1:Int)))]) (h:=[some ⟨362,1,true,(aI (fI g (bD (aI vs)) j 0 0 (bD (aI ds))).1),none⟩,some ⟨362,1,true,((aI qs).set (0+j) [.int .u32 (g:Int)]),none⟩]) ?_
   · simp only[cC,aB]
     refine⟨trivial,trivial,hvd,hI.dd,hg,by omega,by rw[hI.dl];exact hlL,by unfold LIM;omega,by omega,by omega,by rw[hI.ql];omega,by omega⟩
   · simp only[cC,hR]
     rw[eY,Nat.zero_add];exact next _ _ (step _ _ r1 r2 hg (r5 rfl))
theorem FO (hvl:vs.length=p+2) (hvd:∀ x∈vs,x<b32) (hv1:2147483648<=vs.getD (p+1) 0) (hMl:M+(p+2)=l) (hlL:l<=L2) (hL:L2<=LIM) {j:Nat} {ds qs:List Nat} (hI:Inv205 vs p l M L2 U (j+1) ds qs)
   (next:∀ ds qs,Inv205 vs p l M L2 U j ds qs->Good Tryz.prog 205 S No w0 Post EC ⟨slots 164 [(6,.i6 ((k:Nat):Int)),(7,.list 1 (aI vs)),(8,.i6 ((p+2:Nat):Int)),(9,.own 0 1 0 l),(10,.own 1 1 0 M),(11,(.i6 (((j:Nat):Int)-(1:Int))))],[some ⟨362,1,true,(aI ds),none⟩,some ⟨362,1,true,(aI qs),none⟩]⟩):
   ∀ (g r:Nat),g*vs.getD (p+1) 0+r=ds.getD (j+p+2) 0*b32+ds.getD (j+p+1) 0->aJ b32 (ds.drop j)<(g+1)*aJ b32 vs->g<=b32+1->r<b32->
   Good Tryz.prog 205 S No w0 Post FN ⟨slots 164 [(6,.i6 ((k:Nat):Int)),(7,.list 1 (aI vs)),(8,.i6 ((p+2:Nat):Int)),(9,.own 0 1 0 l),(10,.own 1 1 0 M),(11,.i6 ((j:Nat):Int)),(13,.int .u64 ((g:Nat):Int)),(14,.int .u64 ((r:Nat):Int))],[some ⟨362,1,true,(aI ds),none⟩,some ⟨362,1,true,(aI qs),none⟩]⟩:=by
 have hj:=hI.le
 have hWb:aJ b32 (ds.drop j)<b32*aJ b32 vs:=by
   rw[cK (by rw[hI.dl];omega)];exact CB (bC (by decide) hI.dd j) hI.low
 have hW:aJ b32 (ds.drop j)<b32^(p+3):=by
   have c:=Nat.mul_le_mul_left b32 (Nat.le_of_lt (dY (b:=b32) (by decide) hvd));rw[hvl,Nat.mul_comm b32 (b32^(p+2)), <- Nat.pow_succ] at c;exact Nat.lt_of_lt_of_le hWb c
 obtain⟨w,hw,hWe⟩:=yR hW hI.dd;obtain⟨w',hw',hVe⟩:=Dn hvl hvd;have hu0:=bC (b:=b32) (by decide) hI.dd (j+p);have hu1:=bC (b:=b32) (by decide) hI.dd (j+p+1);have hu2:=bC (b:=b32) (by decide) hI.dd (j+p+2);have hv0:=bC (b:=b32) (by decide) hvd p;have hv1':=bC (b:=b32) (by decide) hvd (p+1);have htop:=FM hWe hVe hw' hv0 hWb
 have hPV:b32*b32^p<=aJ b32 vs:=by
   rw[hVe,Nat.add_mul,Nat.add_assoc];have:1*b32<=vs.getD (p+1) 0*b32:=Nat.mul_le_mul_right _ (by omega)
   have:=Nat.mul_le_mul_right (b32^p) this;rw[Nat.one_mul] at this;omega
 intro g;have v4:0<=(32:Int):=by decide
 induction g with
 | zero=>
   intro r h1 h2 h3 h4;simp only[Nat.zero_mul] at h1;have hz:(0:Nat)*aJ b32 vs<=aJ b32 (ds.drop j)+aJ b32 vs:=by rw[Nat.zero_mul];omega
   unfold LIM at hL;unfold b32 at h4 hu0 hu1 hu2 hv0 hv1';refine cX (p:=(Ref (.i6 (IntKind.i64.wrap (((p+2:Nat):Int)-(2:Int)))) (.i6 (p:Int)))/\(p<vs.length)/\((p:Int)<((aI vs).length:Int))/\(0<=(vs.getD p 0:Int)/\(vs.getD p 0:Int)<=18446744073709551615)/\(0<=(0:Int)*(vs.getD p 0:Int)/\(0:Int)*(vs.getD p 0:Int)<=18446744073709551615)/\(32<=64)/\(-9223372036854775808<=(j:Int)+((p+2:Nat):Int)/\(j:Int)+((p+2:Nat):Int)<=9223372036854775807)/\(Ref (.i6 (IntKind.i64.wrap (((j+p+2:Nat):Int)-(2:Int)))) (.i6 ((j+p:Nat):Int)))/\(((j+p:Nat):Int)<(l:Int))/\(0+(j+p)<ds.length)/\(0+(j+p)<(aI ds).length)/\(0<=(ds.getD (0+(j+p)) 0:Int)/\(ds.getD (0+(j+p)) 0:Int)<=18446744073709551615)/\(Ref (.int .u64 (IntKind.u64.wrap (BitVec.ofInt 64 ((r*2^32 % 18446744073709551616:Nat):Int)||| BitVec.ofInt 64 (ds.getD (0+(j+p)) 0:Int)).toNat)) (.int .u64 ((r*4294967296+ds.getD (0+(j+p)) 0:Nat):Int)))) ?_ fun⟨q0,q1,q2,q3,q4,q5,q6,q7,q8,q9,q10,q11,q12⟩=>gS dI (some 21) [4,5,6,7,8,9,10,11,13,14] [(106,ff),(110,.i6 (p:Int)),(111,.cptr [.int .u32 (vs.getD p 0:Int)] 0),(113,.int .u64 (vs.getD p 0:Int)),(114,.int .u64 ((0*(vs.getD p 0):Nat):Int)),(116,.int .u64 ((r*2^32 % 18446744073709551616:Nat):Int)),(120,.i6 ((j+p+2:Nat):Int)),(121,.i6 ((j+p:Nat):Int)),(123,.int .u32 (ds.getD (0+(j+p)) 0:Int)),(124,.int .u64 (ds.getD (0+(j+p)) 0:Int)),(125,.int .u64 ((r*4294967296+ds.getD (0+(j+p)) 0:Nat):Int)),(127,ff)] (.c6 (iF (om (¬ ((4294967296:Int)<=(0:Int))))) q0 (Ref.cd32 q1) (nn p) q2 (wU (vs.getD p 0:Int) (vs.getD p 0:Int) q3) (.c6 (wU ((0:Int)*(vs.getD p 0:Int)) ((0*(vs.getD p 0):Nat):Int) q4) (show Ref (.int .u64 (IntKind.u64.wrap ((r:Int)*2^(min (32:Int).toNat 64)))) (.int .u64 ((r*2^32 % 18446744073709551616:Nat):Int)) from Ref.shl64 (x:=r) (k:=32) q5) v4 (wI ((j:Int)+((p+2:Nat):Int)) ((j+p+2:Nat):Int) q6) q7 (nn (j+p)) (.a6 q8 (Ref.cd32h q9) q10 (wU (ds.getD (0+(j+p)) 0:Int) (ds.getD (0+(j+p)) 0:Int) q11) q12 (iF (show ¬ (((r*4294967296+ds.getD (0+(j+p)) 0:Nat):Int)<((0*(vs.getD p 0):Nat):Int)) by rw[Nat.zero_mul];omega))))) (t:=yS) (σ:=slots 164 [(6,.i6 (k:Int)),(7,.list 1 (aI vs)),(8,.i6 ((p+2:Nat):Int)),(9,.own 0 1 0 l),(10,.own 1 1 0 M),(11,.i6 (j:Int)),(13,.int .u64 (0:Int)),(14,.int .u64 (r:Int))]) (h:=[some ⟨362,1,true,(aI ds),none⟩,some ⟨362,1,true,(aI qs),none⟩]) ?_
   · simp only[Nat.zero_add,aB]
     refine⟨Ref.wrI (by omega) (by omega),by omega,by omega,by omega,by omega,by omega,by omega,Ref.wrI (by omega) (by omega),by omega,by rw[hI.dl];omega,by rw[hI.dl];omega,by omega,CA h4 hu0⟩
   · refine Good.weak 164 [(6,_),(7,_),(8,_),(9,_),(10,_),(11,_),(13,_)] (by kernel_rfl) (.r (.r (.r (.r (.r (.r (.r .nil))))))) ?_
     exact Ae hvl hvd hMl hlL (by unfold LIM;omega) hI (by decide) h2 hz next
 | succ g ih=>
   intro r h1 h2 h3 h4
   have hgv:(g+1)*vs.getD p 0<=18446744073709551615:=by
     have a:(g+1)*vs.getD p 0<=4294967297*4294967295:=Nat.mul_le_mul h3 (by unfold b32 at hv0;omega);omega
   have hsucc:(g+1)*vs.getD (p+1) 0=g*vs.getD (p+1) 0+vs.getD (p+1) 0:=by rw[Nat.add_mul,Nat.one_mul]
   have hgo:g*vs.getD (p+1) 0+(r+vs.getD (p+1) 0)=ds.getD (j+p+2) 0*b32+ds.getD (j+p+1) 0:=by omega
   have brk:aJ b32 (ds.drop j)<(g+1)*aJ b32 vs->b32<=r+vs.getD (p+1) 0->Good Tryz.prog 205 S No w0 Post yS ⟨slots 164 [(6,.i6 ((k:Nat):Int)),(7,.list 1 (aI vs)),(8,.i6 ((p+2:Nat):Int)),(9,.own 0 1 0 l),(10,.own 1 1 0 M),(11,.i6 ((j:Nat):Int)),(13,.int .u64 ((g:Nat):Int))],[some ⟨362,1,true,(aI ds),none⟩,some ⟨362,1,true,(aI qs),none⟩]⟩:=by
     intro hlt hbr
     have hgb:g<b32:=by
       rcases Nat.lt_or_ge g b32 with h | h
       · exact h
       · exfalso
         have a:=Nat.mul_le_mul_right (vs.getD (p+1) 0) h;have c:=Nat.mul_le_mul_right b32 htop;rw[Nat.mul_comm] at a;omega
     refine Ae hvl hvd hMl hlL hL hI hgb hlt ?_ next;refine yO (r:=r+vs.getD (p+1) 0) hWe hVe hw' hPV (Nat.le_of_lt hgb) ⟨_,_,rfl,hgo, ?_⟩;have a:g*vs.getD p 0<=b32*b32:=Nat.mul_le_mul (Nat.le_of_lt hgb) (Nat.le_of_lt hv0);have c:=Nat.mul_le_mul_right b32 hbr;omega
   have hor:=CA (r:=r) (x:=ds.getD (j+p) 0) (by unfold b32 at h4;exact h4) (by unfold b32 at hu0;exact hu0);have hL':=hL;unfold LIM at hL';have fb:b32=4294967296:=rfl;have e1:Ref (AV.int .u64 (IntKind.u64.wrap (((g+1:Nat):Int)-(1:Int)))) (AV.int .u64 ((g+1-1:Nat):Int)):=Ref.wrU (by omega) (by omega);have hcast:((g+1:Nat):Int)*((vs.getD p 0:Nat):Int)=(((g+1)*vs.getD p 0:Nat):Int):=by simp
   by_cases c1:b32<=g+1
   · have hlt:aJ b32 (ds.drop j)<(g+1)*aJ b32 vs:=Nat.lt_of_lt_of_le hWb (Nat.mul_le_mul_right _ c1)
     have v0:Ref (.i6 (IntKind.i64.wrap (((p+2:Nat):Int)-(1:Int)))) (.i6 ((p+1:Nat):Int)):=Ref.wrI (by omega) (by omega);have v1:Ref (.cptr ((aI vs).getD (p+1) []) 0) (.cptr [.int .u32 (vs.getD (p+1) 0:Int)] 0):=Ref.cd32 ((om (p+1<vs.length)));have v5:((p+1:Nat):Int)<((aI vs).length:Int):=by rw[aB];omega
     have v6:(4294967296:Int)<=(((g+1):Nat):Int):=by omega
     by_cases c2:b32<=r+vs.getD (p+1) 0
     · refine gS dI (some 21) [4,5,6,7,8,9,10,11,13,14] [(106,tt),(129,.int .u64 (((g+1)-1:Nat):Int)),(133,.i6 ((p+1:Nat):Int)),(134,.cptr [.int .u32 (vs.getD (p+1) 0:Int)] 0),(136,.int .u64 (vs.getD (p+1) 0:Int)),(137,.int .u64 ((r+vs.getD (p+1) 0:Nat):Int)),(139,tt)] (.c6 (iT v6) e1 v0 v1 (nn (p+1)) v5 (.a3 (wU (vs.getD (p+1) 0:Int) (vs.getD (p+1) 0:Int)) (wU ((r:Int)+(vs.getD (p+1) 0:Int)) ((r+vs.getD (p+1) 0:Nat):Int)) (iT (om ((4294967296:Int)<=((r+vs.getD (p+1) 0:Nat):Int)))))) (t:=yS) (σ:=slots 164 [(6,.i6 (k:Int)),(7,.list 1 (aI vs)),(8,.i6 ((p+2:Nat):Int)),(9,.own 0 1 0 l),(10,.own 1 1 0 M),(11,.i6 (j:Int)),(13,(.int .u64 (((g+1)-1:Nat):Int))),(14,(.int .u64 ((r+vs.getD (p+1) 0:Nat):Int)))]) (h:=[some ⟨362,1,true,(aI ds),none⟩,some ⟨362,1,true,(aI qs),none⟩]) ?_
       refine Good.weak 164 [(6,_),(7,_),(8,_),(9,_),(10,_),(11,_),(13,_)] (by kernel_rfl) (.r (.r (.r (.r (.r (.r (.r .nil))))))) ?_;exact brk hlt c2
     · exact gS dI (some 21) [4,5,6,7,8,9,10,11,13,14] [(106,tt),(129,.int .u64 (((g+1)-1:Nat):Int)),(133,.i6 ((p+1:Nat):Int)),(134,.cptr [.int .u32 (vs.getD (p+1) 0:Int)] 0),(136,.int .u64 (vs.getD (p+1) 0:Int)),(137,.int .u64 ((r+vs.getD (p+1) 0:Nat):Int)),(139,ff)] (.c6 (iT v6) e1 v0 v1 (nn (p+1)) v5 (.a3 (wU (vs.getD (p+1) 0:Int) (vs.getD (p+1) 0:Int)) (wU ((r:Int)+(vs.getD (p+1) 0:Int)) ((r+vs.getD (p+1) 0:Nat):Int)) (iF (om (¬ ((4294967296:Int)<=((r+vs.getD (p+1) 0:Nat):Int))))))) (ih _ hgo hlt (by omega) (by omega))
   · have v3:¬ ((4294967296:Int)<=(((g+1):Nat):Int)):=by omega
     by_cases c3:r*4294967296+ds.getD (j+p) 0<(g+1)*vs.getD p 0
     · have hlt:aJ b32 (ds.drop j)<(g+1)*aJ b32 vs:=Cw (r:=r) hWe hw hVe ⟨_,_,rfl,h1,c3⟩
       have v2:((r*4294967296+ds.getD (0+(j+p)) 0:Nat):Int)<(((g+1)*(vs.getD p 0):Nat):Int):=by rw[Nat.zero_add];omega
       by_cases c2:b32<=r+vs.getD (p+1) 0
       · refine cX (p:=(Ref (.i6 (IntKind.i64.wrap (((p+2:Nat):Int)-(2:Int)))) (.i6 (p:Int)))/\(p<vs.length)/\((p:Int)<((aI vs).length:Int))/\(0<=(vs.getD p 0:Int)/\(vs.getD p 0:Int)<=18446744073709551615)/\(0<=(((g+1):Nat):Int)*(vs.getD p 0:Int)/\(((g+1):Nat):Int)*(vs.getD p 0:Int)<=18446744073709551615)/\(32<=64)/\(-9223372036854775808<=(j:Int)+((p+2:Nat):Int)/\(j:Int)+((p+2:Nat):Int)<=9223372036854775807)/\(Ref (.i6 (IntKind.i64.wrap (((j+p+2:Nat):Int)-(2:Int)))) (.i6 ((j+p:Nat):Int)))/\(((j+p:Nat):Int)<(l:Int))/\(0+(j+p)<ds.length)/\(0+(j+p)<(aI ds).length)/\(0<=(ds.getD (0+(j+p)) 0:Int)/\(ds.getD (0+(j+p)) 0:Int)<=18446744073709551615)/\(Ref (.int .u64 (IntKind.u64.wrap (BitVec.ofInt 64 ((r*2^32 % 18446744073709551616:Nat):Int)||| BitVec.ofInt 64 (ds.getD (0+(j+p)) 0:Int)).toNat)) (.int .u64 ((r*4294967296+ds.getD (0+(j+p)) 0:Nat):Int)))/\(Ref (.int .u64 (IntKind.u64.wrap ((((g+1):Nat):Int)-(1:Int)))) (.int .u64 (((g+1)-1:Nat):Int)))/\(Ref (.i6 (IntKind.i64.wrap (((p+2:Nat):Int)-(1:Int)))) (.i6 ((p+1:Nat):Int)))/\(p+1<vs.length)/\(((p+1:Nat):Int)<((aI vs).length:Int))/\(0<=(vs.getD (p+1) 0:Int)/\(vs.getD (p+1) 0:Int)<=18446744073709551615)/\(0<=(r:Int)+(vs.getD (p+1) 0:Int)/\(r:Int)+(vs.getD (p+1) 0:Int)<=18446744073709551615)) ?_ fun⟨q0,q1,q2,q3,q4,q5,q6,q7,q8,q9,q10,q11,q12,q13,q14,q15,q16,q17,q18⟩=>gS dI (some 21) [4,5,6,7,8,9,10,11,13,14] [(106,ff),(110,.i6 (p:Int)),(111,.cptr [.int .u32 (vs.getD p 0:Int)] 0),(113,.int .u64 (vs.getD p 0:Int)),(114,.int .u64 (((g+1)*(vs.getD p 0):Nat):Int)),(116,.int .u64 ((r*2^32 % 18446744073709551616:Nat):Int)),(120,.i6 ((j+p+2:Nat):Int)),(121,.i6 ((j+p:Nat):Int)),(123,.int .u32 (ds.getD (0+(j+p)) 0:Int)),(124,.int .u64 (ds.getD (0+(j+p)) 0:Int)),(125,.int .u64 ((r*4294967296+ds.getD (0+(j+p)) 0:Nat):Int)),(127,tt),(129,.int .u64 (((g+1)-1:Nat):Int)),(133,.i6 ((p+1:Nat):Int)),(134,.cptr [.int .u32 (vs.getD (p+1) 0:Int)] 0),(136,.int .u64 (vs.getD (p+1) 0:Int)),(137,.int .u64 ((r+vs.getD (p+1) 0:Nat):Int)),(139,tt)] (.c6 (iF v3) q0 (Ref.cd32 q1) (nn p) q2 (wU (vs.getD p 0:Int) (vs.getD p 0:Int) q3) (.c6 (wU ((((g+1):Nat):Int)*(vs.getD p 0:Int)) (((g+1)*(vs.getD p 0):Nat):Int) q4) (show Ref (.int .u64 (IntKind.u64.wrap ((r:Int)*2^(min (32:Int).toNat 64)))) (.int .u64 ((r*2^32 % 18446744073709551616:Nat):Int)) from Ref.shl64 (x:=r) (k:=32) q5) v4 (wI ((j:Int)+((p+2:Nat):Int)) ((j+p+2:Nat):Int) q6) q7 (nn (j+p)) (.c6 q8 (Ref.cd32h q9) q10 (wU (ds.getD (0+(j+p)) 0:Int) (ds.getD (0+(j+p)) 0:Int) q11) q12 (iT v2) (.c6 q13 q14 (Ref.cd32 q15) (nn (p+1)) q16 (wU (vs.getD (p+1) 0:Int) (vs.getD (p+1) 0:Int) q17) (.a2 (wU ((r:Int)+(vs.getD (p+1) 0:Int)) ((r+vs.getD (p+1) 0:Nat):Int) q18) (iT (om ((4294967296:Int)<=((r+vs.getD (p+1) 0:Nat):Int))))))))) (t:=yS) (σ:=slots 164 [(6,.i6 (k:Int)),(7,.list 1 (aI vs)),(8,.i6 ((p+2:Nat):Int)),(9,.own 0 1 0 l),(10,.own 1 1 0 M),(11,.i6 (j:Int)),(13,(.int .u64 (((g+1)-1:Nat):Int))),(14,(.int .u64 ((r+vs.getD (p+1) 0:Nat):Int)))]) (h:=[some ⟨362,1,true,(aI ds),none⟩,some ⟨362,1,true,(aI qs),none⟩]) ?_
         · simp only[Nat.zero_add,aB,hcast]
           exact⟨Ref.wrI (by omega) (by omega),by omega,by omega,by omega,by omega,by omega,by omega,Ref.wrI (by omega) (by omega),by omega,by rw[hI.dl];omega,by rw[hI.dl];omega,by omega,hor,e1,Ref.wrI (by omega) (by omega),by omega,by omega,by omega,by omega⟩
         · refine Good.weak 164 [(6,_),(7,_),(8,_),(9,_),(10,_),(11,_),(13,_)] (by kernel_rfl) (.r (.r (.r (.r (.r (.r (.r .nil))))))) ?_
           exact brk hlt c2
       · refine cX (p:=(Ref (.i6 (IntKind.i64.wrap (((p+2:Nat):Int)-(2:Int)))) (.i6 (p:Int)))/\(p<vs.length)/\((p:Int)<((aI vs).length:Int))/\(0<=(vs.getD p 0:Int)/\(vs.getD p 0:Int)<=18446744073709551615)/\(0<=(((g+1):Nat):Int)*(vs.getD p 0:Int)/\(((g+1):Nat):Int)*(vs.getD p 0:Int)<=18446744073709551615)/\(32<=64)/\(-9223372036854775808<=(j:Int)+((p+2:Nat):Int)/\(j:Int)+((p+2:Nat):Int)<=9223372036854775807)/\(Ref (.i6 (IntKind.i64.wrap (((j+p+2:Nat):Int)-(2:Int)))) (.i6 ((j+p:Nat):Int)))/\(((j+p:Nat):Int)<(l:Int))/\(0+(j+p)<ds.length)/\(0+(j+p)<(aI ds).length)/\(0<=(ds.getD (0+(j+p)) 0:Int)/\(ds.getD (0+(j+p)) 0:Int)<=18446744073709551615)/\(Ref (.int .u64 (IntKind.u64.wrap (BitVec.ofInt 64 ((r*2^32 % 18446744073709551616:Nat):Int)||| BitVec.ofInt 64 (ds.getD (0+(j+p)) 0:Int)).toNat)) (.int .u64 ((r*4294967296+ds.getD (0+(j+p)) 0:Nat):Int)))/\(Ref (.int .u64 (IntKind.u64.wrap ((((g+1):Nat):Int)-(1:Int)))) (.int .u64 (((g+1)-1:Nat):Int)))/\(Ref (.i6 (IntKind.i64.wrap (((p+2:Nat):Int)-(1:Int)))) (.i6 ((p+1:Nat):Int)))/\(p+1<vs.length)/\(((p+1:Nat):Int)<((aI vs).length:Int))/\(0<=(vs.getD (p+1) 0:Int)/\(vs.getD (p+1) 0:Int)<=18446744073709551615)/\(0<=(r:Int)+(vs.getD (p+1) 0:Int)/\(r:Int)+(vs.getD (p+1) 0:Int)<=18446744073709551615)) ?_ fun⟨q0,q1,q2,q3,q4,q5,q6,q7,q8,q9,q10,q11,q12,q13,q14,q15,q16,q17,q18⟩=>gS dI (some 21) [4,5,6,7,8,9,10,11,13,14] [(106,ff),(110,.i6 (p:Int)),(111,.cptr [.int .u32 (vs.getD p 0:Int)] 0),(113,.int .u64 (vs.getD p 0:Int)),(114,.int .u64 (((g+1)*(vs.getD p 0):Nat):Int)),(116,.int .u64 ((r*2^32 % 18446744073709551616:Nat):Int)),(120,.i6 ((j+p+2:Nat):Int)),(121,.i6 ((j+p:Nat):Int)),(123,.int .u32 (ds.getD (0+(j+p)) 0:Int)),(124,.int .u64 (ds.getD (0+(j+p)) 0:Int)),(125,.int .u64 ((r*4294967296+ds.getD (0+(j+p)) 0:Nat):Int)),(127,tt),(129,.int .u64 (((g+1)-1:Nat):Int)),(133,.i6 ((p+1:Nat):Int)),(134,.cptr [.int .u32 (vs.getD (p+1) 0:Int)] 0),(136,.int .u64 (vs.getD (p+1) 0:Int)),(137,.int .u64 ((r+vs.getD (p+1) 0:Nat):Int)),(139,ff)] (.c6 (iF v3) q0 (Ref.cd32 q1) (nn p) q2 (wU (vs.getD p 0:Int) (vs.getD p 0:Int) q3) (.c6 (wU ((((g+1):Nat):Int)*(vs.getD p 0:Int)) (((g+1)*(vs.getD p 0):Nat):Int) q4) (show Ref (.int .u64 (IntKind.u64.wrap ((r:Int)*2^(min (32:Int).toNat 64)))) (.int .u64 ((r*2^32 % 18446744073709551616:Nat):Int)) from Ref.shl64 (x:=r) (k:=32) q5) v4 (wI ((j:Int)+((p+2:Nat):Int)) ((j+p+2:Nat):Int) q6) q7 (nn (j+p)) (.c6 q8 (Ref.cd32h q9) q10 (wU (ds.getD (0+(j+p)) 0:Int) (ds.getD (0+(j+p)) 0:Int) q11) q12 (iT v2) (.c6 q13 q14 (Ref.cd32 q15) (nn (p+1)) q16 (wU (vs.getD (p+1) 0:Int) (vs.getD (p+1) 0:Int) q17) (.a2 (wU ((r:Int)+(vs.getD (p+1) 0:Int)) ((r+vs.getD (p+1) 0:Nat):Int) q18) (iF (om (¬ ((4294967296:Int)<=((r+vs.getD (p+1) 0:Nat):Int)))))))))) (t:=FN) (σ:=slots 164 [(6,.i6 (k:Int)),(7,.list 1 (aI vs)),(8,.i6 ((p+2:Nat):Int)),(9,.own 0 1 0 l),(10,.own 1 1 0 M),(11,.i6 (j:Int)),(13,(.int .u64 (((g+1)-1:Nat):Int))),(14,(.int .u64 ((r+vs.getD (p+1) 0:Nat):Int)))]) (h:=[some ⟨362,1,true,(aI ds),none⟩,some ⟨362,1,true,(aI qs),none⟩]) ?_
         · simp only[Nat.zero_add,aB,hcast]
           exact⟨Ref.wrI (by omega) (by omega),by omega,by omega,by omega,by omega,by omega,by omega,Ref.wrI (by omega) (by omega),by omega,by rw[hI.dl];omega,by rw[hI.dl];omega,by omega,hor,e1,Ref.wrI (by omega) (by omega),by omega,by omega,by omega,by omega⟩
         · exact ih _ hgo hlt (by omega) (by omega)
     · refine cX (p:=(Ref (.i6 (IntKind.i64.wrap (((p+2:Nat):Int)-(2:Int)))) (.i6 (p:Int)))/\(p<vs.length)/\((p:Int)<((aI vs).length:Int))/\(0<=(vs.getD p 0:Int)/\(vs.getD p 0:Int)<=18446744073709551615)/\(0<=(((g+1):Nat):Int)*(vs.getD p 0:Int)/\(((g+1):Nat):Int)*(vs.getD p 0:Int)<=18446744073709551615)/\(32<=64)/\(-9223372036854775808<=(j:Int)+((p+2:Nat):Int)/\(j:Int)+((p+2:Nat):Int)<=9223372036854775807)/\(Ref (.i6 (IntKind.i64.wrap (((j+p+2:Nat):Int)-(2:Int)))) (.i6 ((j+p:Nat):Int)))/\(((j+p:Nat):Int)<(l:Int))/\(0+(j+p)<ds.length)/\(0+(j+p)<(aI ds).length)/\(0<=(ds.getD (0+(j+p)) 0:Int)/\(ds.getD (0+(j+p)) 0:Int)<=18446744073709551615)/\(Ref (.int .u64 (IntKind.u64.wrap (BitVec.ofInt 64 ((r*2^32 % 18446744073709551616:Nat):Int)||| BitVec.ofInt 64 (ds.getD (0+(j+p)) 0:Int)).toNat)) (.int .u64 ((r*4294967296+ds.getD (0+(j+p)) 0:Nat):Int)))) ?_ fun⟨q0,q1,q2,q3,q4,q5,q6,q7,q8,q9,q10,q11,q12⟩=>gS dI (some 21) [4,5,6,7,8,9,10,11,13,14] [(106,ff),(110,.i6 (p:Int)),(111,.cptr [.int .u32 (vs.getD p 0:Int)] 0),(113,.int .u64 (vs.getD p 0:Int)),(114,.int .u64 (((g+1)*(vs.getD p 0):Nat):Int)),(116,.int .u64 ((r*2^32 % 18446744073709551616:Nat):Int)),(120,.i6 ((j+p+2:Nat):Int)),(121,.i6 ((j+p:Nat):Int)),(123,.int .u32 (ds.getD (0+(j+p)) 0:Int)),(124,.int .u64 (ds.getD (0+(j+p)) 0:Int)),(125,.int .u64 ((r*4294967296+ds.getD (0+(j+p)) 0:Nat):Int)),(127,ff)] (.c6 (iF v3) q0 (Ref.cd32 q1) (nn p) q2 (wU (vs.getD p 0:Int) (vs.getD p 0:Int) q3) (.c6 (wU ((((g+1):Nat):Int)*(vs.getD p 0:Int)) (((g+1)*(vs.getD p 0):Nat):Int) q4) (show Ref (.int .u64 (IntKind.u64.wrap ((r:Int)*2^(min (32:Int).toNat 64)))) (.int .u64 ((r*2^32 % 18446744073709551616:Nat):Int)) from Ref.shl64 (x:=r) (k:=32) q5) v4 (wI ((j:Int)+((p+2:Nat):Int)) ((j+p+2:Nat):Int) q6) q7 (nn (j+p)) (.a6 q8 (Ref.cd32h q9) q10 (wU (ds.getD (0+(j+p)) 0:Int) (ds.getD (0+(j+p)) 0:Int) q11) q12 (iF (show ¬ (((r*4294967296+ds.getD (0+(j+p)) 0:Nat):Int)<(((g+1)*(vs.getD p 0):Nat):Int)) by rw[Nat.zero_add];omega))))) (t:=yS) (σ:=slots 164 [(6,.i6 (k:Int)),(7,.list 1 (aI vs)),(8,.i6 ((p+2:Nat):Int)),(9,.own 0 1 0 l),(10,.own 1 1 0 M),(11,.i6 (j:Int)),(13,(.int .u64 (((g+1):Nat):Int))),(14,.int .u64 (r:Int))]) (h:=[some ⟨362,1,true,(aI ds),none⟩,some ⟨362,1,true,(aI qs),none⟩]) ?_
       · simp only[Nat.zero_add,aB,hcast]
         exact⟨Ref.wrI (by omega) (by omega),by omega,by omega,by omega,by omega,by omega,by omega,Ref.wrI (by omega) (by omega),by omega,by rw[hI.dl];omega,by rw[hI.dl];omega,by omega,hor⟩
       · refine Good.weak 164 [(6,_),(7,_),(8,_),(9,_),(10,_),(11,_),(13,_)] (by kernel_rfl) (.r (.r (.r (.r (.r (.r (.r .nil))))))) ?_
         exact Ae hvl hvd hMl hlL hL hI (by omega) h2 (yO (r:=r) hWe hVe hw' hPV (by omega) ⟨_,_,rfl,h1,by rw[fb];omega⟩) next
theorem FP (hvl:vs.length=p+2) (hvd:∀ x∈vs,x<b32) (hv1:2147483648<=vs.getD (p+1) 0) (hMl:M+(p+2)=l) (hlL:l<=L2) (hL32:32*L2<=LIM) (hk:k<32) {n m B C:Nat} (hU:U=n*2^k) (hV:aJ b32 vs=m*2^k) (hn:n<2^B) (hm:m<2^C):
   ∀ (k1:Nat) (ds qs:List Nat),Inv205 vs p l M L2 U k1 ds qs->GF 205 S w0 (.tup [.nat (n/m) B,.nat (n % m) (max B C)]) EC
     ⟨slots 164 [(6,.i6 ((k:Nat):Int)),(7,.list 1 (aI vs)),(8,.i6 ((p+2:Nat):Int)),(9,.own 0 1 0 l),(10,.own 1 1 0 M),(11,(.i6 (((k1:Nat):Int)-(1:Int))))],[some ⟨362,1,true,(aI ds),none⟩,some ⟨362,1,true,(aI qs),none⟩]⟩:=by
 have fb:b32=4294967296:=rfl;have hL:L2<=LIM:=by omega
 intro k1
 induction k1 with
 | zero=>
   intro ds qs hI;have hv:=hI.val;have hlow:=hI.low;simp only[List.drop_zero,Nat.pow_zero,Nat.one_mul] at hv hlow
   have hlt:aJ b32 ds<b32^(p+2):=by
     have:=dY (b:=b32) (by decide) hvd;rw[hvl] at this;omega
   have hcut:aJ b32 (ds.take (p+2))=aJ b32 ds:=by
     have h1:=cZ b32 (p+2) ds;rcases Nat.eq_zero_or_pos (aJ b32 (ds.drop (p+2))) with h' | h'
     · rw[h'] at h1;omega
     · have:=Nat.mul_le_mul_left (b32^(p+2)) h'
       omega
   have e1:((aI qs).drop 0).take M=aI qs:=by rw[List.drop_zero,gO (by rw[aB,hI.ql];omega)]
   have e2:((aI ds).drop 0).take (p+2)=aI (ds.take (p+2)):=by rw[List.drop_zero,Fs]
   rw[show(((0:Nat):Int)-(1:Int))= -1 from rfl];have hdl:=hI.dl;unfold LIM at hL hL32;refine rF dI [] (.c6 (show 0+M<=(aI qs).length by rw[aB,hI.ql];omega) (show(((aI qs).drop 0).take M)=aI (bD (((aI qs).drop 0).take M)) by rw[e1,cC]) (show ∀ x∈bD (((aI qs).drop 0).take M),x<b32 by rw[e1,cC];exact hI.qd) (nn (p+2)) (om (((p+2:Nat):Int)<=(l:Int))) (show 0+(p+2)<=(aI ds).length by rw[aB];omega) (.a5 (show(((aI ds).drop 0).take (p+2))=aI (bD (((aI ds).drop 0).take (p+2))) by rw[e2,cC]) (show ∀ x∈bD (((aI ds).drop 0).take (p+2)),x<b32 by rw[e2,cC];exact fun x hx=>hI.dd x (List.mem_of_mem_take hx)) (nn k) (show(32*(((aI ds).drop 0).take (p+2)).length)<=LIM by rw[e2,aB,List.length_take];unfold LIM;omega) (om ((k:Int)<=9223372036854775807)))) (V:=.tup [.nat (aJ b32 (bD (((aI qs).drop 0).take M))) (32*(((aI qs).drop 0).take M).length),.nat ((aJ b32 (bD (((aI ds).drop 0).take (p+2))))/2^k) (32*(((aI ds).drop 0).take (p+2)).length)]) ?_
   rw[e1,e2,cC,cC,hcut];have h2k:=Nat.two_pow_pos k;have hdm:n*2^k=aJ b32 qs*(m*2^k)+aJ b32 ds:=by rw[<- hU, <- hv,hV,Nat.mul_comm (m*2^k)];omega
   rw[hV] at hlow;obtain⟨q1,q2⟩:=oY hdm hlow;rw[Nat.mul_div_mul_right _ _ h2k] at q1;rw[Nat.mul_mod_mul_right] at q2;rw[<- q1, <- q2,Nat.mul_div_cancel _ h2k];refine Ref.tup2 (Ref.natB (Nat.lt_of_le_of_lt (Nat.div_le_self _ _) hn)) (Ref.natB ?_) rfl rfl rfl rfl;rcases Nat.eq_zero_or_pos m with h0 | h0
   · rw[h0,Nat.mod_zero];exact kF hn (Nat.le_max_left _ _)
   · exact kF (Nat.lt_trans (Nat.mod_lt n h0) hm) (Nat.le_max_right _ _)
 | succ j ih=>
   intro ds qs hI;have hj:=hI.le;rw[show(((j+1:Nat):Int)-(1:Int))=((j:Nat):Int) by omega];have hu0:=bC (b:=b32) (by decide) hI.dd (j+p);have hu1:=bC (b:=b32) (by decide) hI.dd (j+p+1);have hu2:=bC (b:=b32) (by decide) hI.dd (j+p+2);have hv0:=bC (b:=b32) (by decide) hvd p;have hv1':=bC (b:=b32) (by decide) hvd (p+1)
   have hWb:aJ b32 (ds.drop j)<b32*aJ b32 vs:=by
     rw[cK (by rw[hI.dl];omega)];exact CB (bC (by decide) hI.dd j) hI.low
   have hW:aJ b32 (ds.drop j)<b32^(p+3):=by
     have c:=Nat.mul_le_mul_left b32 (Nat.le_of_lt (dY (b:=b32) (by decide) hvd));rw[hvl,Nat.mul_comm b32 (b32^(p+2)), <- Nat.pow_succ] at c;exact Nat.lt_of_lt_of_le hWb c
   obtain⟨w,hw,hWe⟩:=yR hW hI.dd;obtain⟨w',hw',hVe⟩:=Dn hvl hvd;have htop:=FM hWe hVe hw' hv0 hWb;have hfirst:=Bt hWe hw hVe (by decide) (om (0<vs.getD (p+1) 0)) rfl hu0;have hL':=hL;unfold LIM at hL';refine cX (p:=(-9223372036854775808<=(j:Int)+((p+2:Nat):Int)/\(j:Int)+((p+2:Nat):Int)<=9223372036854775807)/\(((j+p+2:Nat):Int)<(l:Int))/\(0+(j+p+2)<ds.length)/\(0+(j+p+2)<(aI ds).length)/\(0<=(ds.getD (0+(j+p+2)) 0:Int)/\(ds.getD (0+(j+p+2)) 0:Int)<=18446744073709551615)/\(32<=64)/\(Ref (.i6 (IntKind.i64.wrap (((j+p+2:Nat):Int)-(1:Int)))) (.i6 ((j+p+1:Nat):Int)))/\(((j+p+1:Nat):Int)<(l:Int))/\(0+(j+p+1)<ds.length)/\(0+(j+p+1)<(aI ds).length)/\(0<=(ds.getD (0+(j+p+1)) 0:Int)/\(ds.getD (0+(j+p+1)) 0:Int)<=18446744073709551615)/\(Ref (.int .u64 (IntKind.u64.wrap (BitVec.ofInt 64 (((ds.getD (0+(j+p+2)) 0)*2^32 % 18446744073709551616:Nat):Int)||| BitVec.ofInt 64 (ds.getD (0+(j+p+1)) 0:Int)).toNat)) (.int .u64 ((ds.getD (0+(j+p+2)) 0*4294967296+ds.getD (0+(j+p+1)) 0:Nat):Int)))/\(Ref (.i6 (IntKind.i64.wrap (((p+2:Nat):Int)-(1:Int)))) (.i6 ((p+1:Nat):Int)))/\(p+1<vs.length)/\(((p+1:Nat):Int)<((aI vs).length:Int))/\(0<=(vs.getD (p+1) 0:Int)/\(vs.getD (p+1) 0:Int)<=18446744073709551615)/\(((ds.getD (0+(j+p+2)) 0*4294967296+ds.getD (0+(j+p+1)) 0:Nat):Int)<=18446744073709551615)/\(((vs.getD (p+1) 0:Nat):Int)≠0)) ?_ fun⟨q0,q1,q2,q3,q4,q5,q6,q7,q8,q9,q10,q11,q12,q13,q14,q15,q16,q17⟩=>gN dI [4,5,6,7,8,9,10,11,13,14] [(68,tt),(74,.i6 ((j+p+2:Nat):Int)),(76,.int .u32 (ds.getD (0+(j+p+2)) 0:Int)),(77,.int .u64 (ds.getD (0+(j+p+2)) 0:Int)),(78,.int .u64 (((ds.getD (0+(j+p+2)) 0)*2^32 % 18446744073709551616:Nat):Int)),(82,.i6 ((j+p+2:Nat):Int)),(83,.i6 ((j+p+1:Nat):Int)),(85,.int .u32 (ds.getD (0+(j+p+1)) 0:Int)),(86,.int .u64 (ds.getD (0+(j+p+1)) 0:Int)),(87,.int .u64 ((ds.getD (0+(j+p+2)) 0*4294967296+ds.getD (0+(j+p+1)) 0:Nat):Int)),(91,.i6 ((p+1:Nat):Int)),(92,.cptr [.int .u32 (vs.getD (p+1) 0:Int)] 0),(94,.int .u64 (vs.getD (p+1) 0:Int)),(95,.int .u64 (((ds.getD (0+(j+p+2)) 0*4294967296+ds.getD (0+(j+p+1)) 0)/(vs.getD (p+1) 0):Nat):Int)),(99,.i6 ((p+1:Nat):Int)),(100,.cptr [.int .u32 (vs.getD (p+1) 0:Int)] 0),(102,.int .u64 (vs.getD (p+1) 0:Int)),(103,.int .u64 (((ds.getD (0+(j+p+2)) 0*4294967296+ds.getD (0+(j+p+1)) 0) % (vs.getD (p+1) 0):Nat):Int))] (.c6 (iT (om ((0:Int)<=(j:Int)))) (wI ((j:Int)+((p+2:Nat):Int)) ((j+p+2:Nat):Int) q0) (nn (j+p+2)) q1 (Ref.cd32h q2) q3 (.c6 (wU (ds.getD (0+(j+p+2)) 0:Int) (ds.getD (0+(j+p+2)) 0:Int) q4) (show Ref (.int .u64 (IntKind.u64.wrap (((ds.getD (0+(j+p+2)) 0:Nat):Int)*2^(min (32:Int).toNat 64)))) (.int .u64 (((ds.getD (0+(j+p+2)) 0)*2^32 % 18446744073709551616:Nat):Int)) from Ref.shl64 (x:=ds.getD (0+(j+p+2)) 0) (k:=32) q5) (dc (0<=(32:Int))) (wI ((j:Int)+((p+2:Nat):Int)) ((j+p+2:Nat):Int) q0) q6 (nn (j+p+1)) (.c6 q7 (Ref.cd32h q8) q9 (wU (ds.getD (0+(j+p+1)) 0:Int) (ds.getD (0+(j+p+1)) 0:Int) q10) q11 q12 (.c6 (Ref.cd32 q13) (nn (p+1)) q14 (wU (vs.getD (p+1) 0:Int) (vs.getD (p+1) 0:Int) q15) (show Ref (.int .u64 (IntKind.u64.wrap (((ds.getD (0+(j+p+2)) 0*4294967296+ds.getD (0+(j+p+1)) 0:Nat):Int).tdiv (vs.getD (p+1) 0:Int)))) (.int .u64 (((ds.getD (0+(j+p+2)) 0*4294967296+ds.getD (0+(j+p+1)) 0)/(vs.getD (p+1) 0):Nat):Int)) from Ref.quo (a:=ds.getD (0+(j+p+2)) 0*4294967296+ds.getD (0+(j+p+1)) 0) (b:=vs.getD (p+1) 0) rfl rfl (by decide) q16) q17 (.c6 q12 (Ref.cd32 q13) (nn (p+1)) q14 (wU (vs.getD (p+1) 0:Int) (vs.getD (p+1) 0:Int) q15) (show Ref (.int .u64 (((ds.getD (0+(j+p+2)) 0*4294967296+ds.getD (0+(j+p+1)) 0:Nat):Int).tmod (vs.getD (p+1) 0:Int))) (.int .u64 (((ds.getD (0+(j+p+2)) 0*4294967296+ds.getD (0+(j+p+1)) 0) % (vs.getD (p+1) 0):Nat):Int)) from Ref.rem (a:=ds.getD (0+(j+p+2)) 0*4294967296+ds.getD (0+(j+p+1)) 0) (b:=vs.getD (p+1) 0) rfl rfl) (.a1 q17)))))) (t:=FN) (σ:=slots 164 [(6,.i6 (k:Int)),(7,.list 1 (aI vs)),(8,.i6 ((p+2:Nat):Int)),(9,.own 0 1 0 l),(10,.own 1 1 0 M),(11,.i6 (j:Int)),(13,(.int .u64 (((ds.getD (0+(j+p+2)) 0*4294967296+ds.getD (0+(j+p+1)) 0)/(vs.getD (p+1) 0):Nat):Int))),(14,(.int .u64 (((ds.getD (0+(j+p+2)) 0*4294967296+ds.getD (0+(j+p+1)) 0) % (vs.getD (p+1) 0):Nat):Int)))]) (h:=[some ⟨362,1,true,(aI ds),none⟩,some ⟨362,1,true,(aI qs),none⟩]) ?_
   · simp only[Nat.zero_add,aB]
     rw[fb] at hu0 hu1 hu2 hv0 hv1';exact⟨by omega,by omega,by rw[hI.dl];omega,by rw[hI.dl];omega,by omega,by omega,Ref.wrI (by omega) (by omega),by omega,by rw[hI.dl];omega,by rw[hI.dl];omega,by omega,CA hu2 hu1,Ref.wrI (by omega) (by omega),by omega,by omega,by omega,by omega,by omega⟩
   · simp only[Nat.zero_add]
     refine FO hvl hvd hv1 hMl hlL hL hI ih _ _ ?_ hfirst ?_ ?_
     · have:=Nat.div_add_mod (ds.getD (j+p+2) 0*4294967296+ds.getD (j+p+1) 0) (vs.getD (p+1) 0)
       rw[Nat.mul_comm] at this;rw[fb];omega
     · rw[fb] at hu1 ⊢
       refine Nat.le_of_lt_succ ((Nat.div_lt_iff_lt_mul (by omega)).2 ?_);omega
     · rw[fb] at hv1' ⊢
       have:=Nat.mod_lt (ds.getD (j+p+2) 0*4294967296+ds.getD (j+p+1) 0) (om (0<vs.getD (p+1) 0));omega
theorem Jd {us:List Nat} {l:Nat} (h:us.length<=l):(List.take 0 (aI (List.replicate l 0))++(aI us).take (min (aI us).length l)++(aI (List.replicate l 0)).drop (0+(min (aI us).length l)))=aI (us++List.replicate (l-us.length) 0):=by
 rw[aB,Nat.min_eq_left h,Nat.zero_add,List.take_zero,List.nil_append,Bo,List.drop_replicate,gO (by rw[aB];omega),Ct]
theorem Je {ys:List Nat} {p:Nat} (hy:Dig b32 ys) (hl:ys.length=p+2):∃ k,k=32-aU (ys.getD (p+1) 0)/\k<32/\2147483648*b32^(p+1)<=aJ b32 ys*2^k/\aJ b32 ys*2^k<b32^(p+2):=by
 have ht:=bC (b:=b32) (by decide) hy.1 (p+1)
 have h0:ys.getD (p+1) 0≠0:=by
   have:=hy.2;rw[List.getLast?_eq_getElem?,hl,show p+2-1=p+1 by omega] at this;intro h;apply this;rw[nG] at h;rw[List.getElem?_eq_getElem (by omega)] at h ⊢;simpa using h
 have h1:=aT b32 ys (p+1);rw[gO (by omega)] at h1;have h2:=dN (b:=b32) (by decide) hy.1 (p+1);obtain⟨b1,b2,b3⟩:=kU h0;have b4:aU (ys.getD (p+1) 0)<=32:=pA ht;refine⟨_,rfl,by omega, ?_, ?_⟩
 · have e1:2^(aU (ys.getD (p+1) 0)-1)*2^(32-aU (ys.getD (p+1) 0))=2147483648:=by
     rw[<- Nat.pow_add,show aU (ys.getD (p+1) 0)-1+(32-aU (ys.getD (p+1) 0))=31 by omega]
   have e2:2147483648<=ys.getD (p+1) 0*2^(32-aU (ys.getD (p+1) 0)):=by rw[<- e1];exact Nat.mul_le_mul_right _ b2
   have e3:=Nat.mul_le_mul_right (b32^(p+1)) e2
   have e4:ys.getD (p+1) 0*2^(32-aU (ys.getD (p+1) 0))*b32^(p+1)=b32^(p+1)*ys.getD (p+1) 0*2^(32-aU (ys.getD (p+1) 0)):=by
     rw[Nat.mul_comm _ (b32^(p+1)),Nat.mul_assoc]
   rw[h1,Nat.add_mul];omega
 · have e1:2^aU (ys.getD (p+1) 0)*2^(32-aU (ys.getD (p+1) 0))=b32:=by
     rw[<- Nat.pow_add,show aU (ys.getD (p+1) 0)+(32-aU (ys.getD (p+1) 0))=32 by omega];rfl
   have e2:(ys.getD (p+1) 0+1)*2^(32-aU (ys.getD (p+1) 0))<=b32:=by
     have:=Nat.mul_le_mul_right (2^(32-aU (ys.getD (p+1) 0))) (show ys.getD (p+1) 0+1<=2^aU (ys.getD (p+1) 0) from b3);omega
   have e3:aJ b32 ys<b32^(p+1)*(ys.getD (p+1) 0+1):=by rw[h1,Nat.mul_add];omega
   have e4:=Nat.mul_lt_mul_of_pos_right e3 (Nat.two_pow_pos (32-aU (ys.getD (p+1) 0)));have e5:=Nat.mul_le_mul_left (b32^(p+1)) e2;rw[Nat.pow_succ b32 (p+1)];rw[Nat.mul_assoc] at e4;omega
theorem Bz {v p:Nat} (h1:2147483648*b32^(p+1)<=v) (h2:v<b32^(p+2)):(aD b32 v).length=p+2/\2147483648<=(aD b32 v).getD (p+1) 0:=by
 obtain⟨g1,g2⟩:=aQ (b:=b32) (by decide) v;have l1:=gF (b:=b32) (by decide) h2;have l2:=iU (b:=b32) (n:=v) (by decide)
 have l3:b32^(p+1)<b32^(aD b32 v).length:=by
   have:1*b32^(p+1)<=2147483648*b32^(p+1):=Nat.mul_le_mul_right _ (by decide);omega
 have l4:=(Nat.pow_lt_pow_iff_right (by decide:1<b32)).1 l3;have hl:(aD b32 v).length=p+2:=by omega
 refine⟨hl, ?_⟩;have t1:=aT b32 (aD b32 v) (p+1);rw[gO (by omega),g2] at t1;have t2:=dN (b:=b32) (by decide) g1.1 (p+1);rcases Nat.lt_or_ge ((aD b32 v).getD (p+1) 0) 2147483648 with h | h
 · exfalso
   have:=Nat.mul_le_mul_left (b32^(p+1)) (Nat.succ_le_of_lt h);rw[Nat.mul_succ,Nat.mul_comm (b32^(p+1)) 2147483648] at this;omega
 · exact h
theorem LH:bO 205 On:=by
 refine cJ Tryz.f205 fun _ _ _ S w0 h ho=> ?_
 unfold On at h;split at h <;> cases h;rename_i n B m C;have hm0:0<m:=ho _ (by simp);have hL:max B C+128<=LIM:=ho _ (by simp);have hB1:B<=max B C:=Nat.le_max_left _ _;have hC1:C<=max B C:=Nat.le_max_right _ _;refine Good.natlt (n:=n) (B:=B) 0 rfl fun hn=>Good.natlt (n:=m) (B:=C) 1 rfl fun hm=> ?_
 by_cases hlt:n<m
 · refine rF dI [(15,tt)] (.a1 (iT (Bq.2 hlt))) (V:=.tup [AV.nil,AV.nat n B]) ?_
   rw[Nat.div_eq_of_lt hlt,Nat.mod_eq_of_lt hlt];exact Ref.tup2 Ref.nil0 (Ref.natB (kF hn hB1)) rfl rfl rfl rfl
 refine gR dI (some 3) [0,1,4,5] [] [(15,ff)] (.a1 (iF (fun h=>hlt (Bq.1 h)))) (t:=[.code (aR [1,0,0,1,1,0] (aA Tryz.f205)),.code (aR [1,0,0,1,1,1] (aA Tryz.f205)),.inBlock 0,.code (aR [1,1] (aA Tryz.f205))]) (σ:=slots 164 [(0,.nat n B),(1,.nat m C),(4,.nil),(5,.nil)]) (h:=[]) ?_
 obtain⟨hy,hym⟩:=aQ (b:=b32) (by decide) m;have hly:=hy.len (by rw[hym];exact hm);have hy0:0<(aD b32 m).length:=(dA (by decide)).2 hm0;refine Good.weak 164 [(0,_),(1,.list 1 (aI (aD b32 m)))] (by kernel_rfl) (.r (.cons Ref.opn .nil)) ?_;generalize hys:aD b32 m=ys at*;unfold LIM at hL
 by_cases hy1:ys.length=1
 · have hv:m=ys.getD 0 0:=by
     have h1:=aT b32 ys 0;rw[gO (by omega),hym] at h1;simpa[aJ] using h1
   have hlt32:=bC (b:=b32) (by decide) hy.1 0;unfold b32 at hlt32;refine gR dI (some 6) [0,1,4,5,6] [] [(21,tt),(27,.cptr [.int .u32 (ys.getD 0 0:Int)] 0)] (.c6 (iT (show((aI ys).length:Int)=(1:Int) by rw[aB];omega)) (show Ref (.cptr ((aI ys).getD 0 []) 0) (.cptr [.int .u32 (ys.getD 0 0:Int)] 0) from Ref.cd32 ((om (0<ys.length)))) (dc (0<=(0:Int))) (show(0:Int)<((aI ys).length:Int) by rw[aB];omega) (show 0<=(ys.getD 0 0:Int) from Int.natCast_nonneg _) (om (0<(ys.getD 0 0))) (.a2 hlt32 (show B<=LIM by unfold LIM;omega))) (t:=[.code .ret,.inBlock 0,.code (aR [1,1] (aA Tryz.f205))]) (σ:=slots 164 [(0,.nat n B),(1,.list 1 (aI ys)),(4,.nat (n/(ys.getD 0 0)) B),(5,.nat (n % (ys.getD 0 0)) 64)]) (h:=[]) ?_
   rw[<- hv];refine gE [AV.nat (n/m) B,AV.nat (n % m) 64] ?_;exact Ref.tup2 rr (Ref.natB (kF (Nat.lt_trans (Nat.mod_lt n hm0) hm) hC1)) rfl rfl rfl rfl
 obtain⟨p,hp⟩:∃ p,ys.length=p+2:=⟨ys.length-2,by omega⟩;obtain⟨k,hk,hk32,hk1,hk2⟩:=Je hy hp;have hidx:(((((aI ys).length:Nat):Int)-(1:Int)).toNat)=p+1:=by rw[aB];omega
 have htop:=bC (b:=b32) (by decide) hy.1 (p+1);refine gR dI (some 6) [0,1,4,5,6] [] [(21,ff),(35,.i6 ((((aI ys).length:Nat):Int)-(1:Int))),(36,.cptr [.int .u32 (ys.getD (((((aI ys).length:Nat):Int)-(1:Int)).toNat) 0:Int)] 0)] (.c6 (iF (show ¬ ((((aI ys).length:Nat):Int)=(1:Int)) by rw[aB];omega)) (wI ((((aI ys).length:Nat):Int)-(1:Int)) ((((aI ys).length:Nat):Int)-(1:Int)) (by rw[aB];omega)) (show Ref (.cptr ((aI ys).getD ((((aI ys).length:Int)-(1:Int)).toNat) []) 0) (.cptr [.int .u32 (ys.getD (((((aI ys).length:Nat):Int)-(1:Int)).toNat) 0:Int)] 0) from Ref.cd32 ((show((((aI ys).length:Nat):Int)-(1:Int)).toNat<ys.length by rw[hidx];omega))) (show 0<=((((aI ys).length:Nat):Int)-(1:Int)) by rw[aB];omega) (show((((aI ys).length:Nat):Int)-(1:Int))<((aI ys).length:Int) by rw[aB];omega) (om (0<=(ys.getD (((((aI ys).length:Nat):Int)-(1:Int)).toNat) 0:Int))) (.a1 (show(ys.getD ((((aI ys).length:Int)-(1:Int)).toNat) 0)<4294967296 by rw[hidx];exact htop))) (t:=[.code (aR [1,1,1,0] (aA Tryz.f205)),.code (aR [1,1,1,1] (aA Tryz.f205))]) (σ:=slots 164 [(0,.nat n B),(1,.list 1 (aI ys)),(6,(.i6 ((32-aU (ys.getD ((((aI ys).length:Int)-(1:Int)).toNat) 0):Nat):Int)))]) (h:=[]) ?_
 rw[hidx, <- hk];rw[hym] at hk1 hk2;refine Good.weak 164 [(0,_),(1,.nat m C),(6,_)] (by kernel_rfl) (.r (.cons (Ref.nat hy hym hm) (.r .nil))) ?_;refine gR dI (some 7) [0,1,6,7] [] [] (.a2 (nn k) (show C+k<=LIM by unfold LIM;omega)) (t:=[.code (aR [1,1,1,1,0] (aA Tryz.f205)),.code (aR [1,1,1,1,1] (aA Tryz.f205))]) (σ:=slots 164 [(0,.nat n B),(1,.nat m C),(6,.i6 (k:Int)),(7,.nat (m*2^k) (C+k))]) (h:=[]) ?_
 obtain⟨hx,hxn⟩:=aQ (b:=b32) (by decide) n;obtain⟨hvd,hvm⟩:=aQ (b:=b32) (by decide) (m*2^k);obtain⟨hvl,hvt⟩:=Bz hk1 hk2;have hlx:=hx.len (by rw[hxn];exact hn);refine Good.weak 164 [(0,.list 1 (aI (aD b32 n))),(6,_),(7,.list 1 (aI (aD b32 (m*2^k))))] (by kernel_rfl) (.cons Ref.opn (.r (.cons Ref.opn .nil))) ?_;generalize hxs:aD b32 n=xs at*;generalize hvs:aD b32 (m*2^k)=vs at*;refine cX (p:=(-9223372036854775808<=((aI xs).length:Int)+(2:Int)/\((aI xs).length:Int)+(2:Int)<=9223372036854775807)/\(4*(((aI xs).length+2:Nat):Int)<=281474976710656)/\((((aI xs).length+2:Nat):Int)<=(big:Int))) (by simp only[aB];unfold big;omega) fun⟨q0,q1,q2⟩=>gS dI (some 9) [0,6,7,8,9] [(46,.i6 (((aI xs).length+2:Nat):Int))] (.a5 (wI ((((aI xs).length:Nat):Int)+(2:Int)) (((aI xs).length+2:Nat):Int) q0) (rfl:(((aI xs).length+2:Nat):Int)=(((aI xs).length+2:Nat):Int)) (nn ((aI xs).length+2)) q1 q2) (t:=[.code (aR [1,1,1,1,1,1,0] (aA Tryz.f205)),.code (aR [1,1,1,1,1,1,1] (aA Tryz.f205))]) (σ:=slots 164 [(0,.list 1 (aI xs)),(6,.i6 (k:Int)),(7,.list 1 (aI vs)),(8,.i6 ((aI vs).length:Int)),(9,.own 0 1 0 ((aI xs).length+2))]) (h:=[some ⟨362,1,true,(List.replicate ((aI xs).length+2) [.int .u32 (0:Int)]),none⟩]) ?_
 rw[mF];simp only[aB,hvl];refine Good.weak 164 [(0,.nat n B),(6,_),(7,_),(8,_),(9,_)] (by kernel_rfl) (.cons (Ref.nat hx hxn hn) (.r (.r (.r (.r .nil))))) ?_;obtain⟨hud,hun⟩:=aQ (b:=b32) (by decide) (n*2^k);have hnlt:n<b32^xs.length:=by rw[<- hxn];exact dY (by decide) hx.1
 have h2k:2^k<=b32:=by
   have:=Nat.pow_le_pow_right (dc (0<2)) (om (k<=32));exact this
 have hulen:(aD b32 (n*2^k)).length<=xs.length+1:=gF (by decide) (by
   rw[Nat.pow_succ]
   exact Nat.lt_of_lt_of_le (Nat.mul_lt_mul_of_pos_right hnlt (Nat.two_pow_pos k)) (Nat.mul_le_mul_left _ h2k))
 refine gR dI (some 10) [0,6,7,8,9] [0] [(51,.list 1 (aI (aD b32 (n*2^k))))] (.a4 (show Ref (.nat (n*2^k) (B+k)) (.list 1 (aI (aD b32 (n*2^k)))) from Ref.opn) (nn k) (show B+k<=LIM by unfold LIM;omega) (show 0+(xs.length+2)<=(aI (List.replicate (xs.length+2) 0)).length by rw[aB];simp)) (t:=[.code (aR [1,1,1,1,1,1,1,0] (aA Tryz.f205)),.code (aR [1,1,1,1,1,1,1,1] (aA Tryz.f205))]) (σ:=slots 164 [(0,.nat n B),(6,.i6 (k:Int)),(7,.list 1 (aI vs)),(8,(.i6 (((p+2):Nat):Int))),(9,.own 0 1 0 (xs.length+2))]) (h:=[some ⟨362,1,true,((aI (List.replicate (xs.length+2) 0)).take 0++(aI (aD b32 (n*2^k))).take (min (aI (aD b32 (n*2^k))).length (xs.length+2))++(aI (List.replicate (xs.length+2) 0)).drop (0+(min (aI (aD b32 (n*2^k))).length (xs.length+2)))),none⟩]) ?_
 generalize hus:aD b32 (n*2^k)=us at*;rw[Jd (by omega)];refine Good.weak 164 [(0,.list 1 (aI xs)),(6,_),(7,_),(8,_),(9,_)] (by kernel_rfl) (.cons (hxs▸Ref.opn) (.r (.r (.r (.r .nil))))) ?_
 have hlen:ys.length<=xs.length:=by
   rcases Nat.lt_or_ge xs.length ys.length with h | h
   · have:=eI (by decide) hx hy h
     omega
   · exact h
 obtain⟨M,hM⟩:∃ M,M+(p+2)=xs.length+1:=⟨xs.length+1-(p+2),by omega⟩;refine cX (p:=(-9223372036854775808<=((aI xs).length:Int)+(1:Int)/\((aI xs).length:Int)+(1:Int)<=9223372036854775807)/\((((aI xs).length+1:Nat):Int)<=(((xs.length+2):Nat):Int))/\(-9223372036854775808<=((aI xs).length:Int)-(((p+2):Nat):Int)/\((aI xs).length:Int)-(((p+2):Nat):Int)<=9223372036854775807)/\(Ref (.i6 (IntKind.i64.wrap ((((aI xs).length:Int)-(((p+2):Nat):Int))+(1:Int)))) (.i6 (M:Int)))/\(4*(M:Int)<=281474976710656)/\((M:Int)<=(big:Int))/\(-9223372036854775808<=(M:Int)-(1:Int)/\(M:Int)-(1:Int)<=9223372036854775807)) ?_ fun⟨q0,q1,q2,q3,q4,q5,q6⟩=>gN dI [6,7,8,9,10,11] [(56,.i6 (((aI xs).length+1:Nat):Int)),(61,.i6 ((((aI xs).length:Nat):Int)-(((p+2):Nat):Int))),(62,.i6 (M:Int)),(66,.i6 ((M:Int)-(1:Int)))] (.c6 (wI ((((aI xs).length:Nat):Int)+(1:Int)) (((aI xs).length+1:Nat):Int) q0) (nn ((aI xs).length+1)) q1 (wI ((((aI xs).length:Nat):Int)-(((p+2):Nat):Int)) ((((aI xs).length:Nat):Int)-(((p+2):Nat):Int)) q2) q3 (rfl:(M:Int)=(M:Int)) (.a4 (nn M) q4 q5 (wI ((M:Int)-(1:Int)) ((M:Int)-(1:Int)) q6))) (t:=EC) (σ:=slots 164 [(6,.i6 (k:Int)),(7,.list 1 (aI vs)),(8,(.i6 (((p+2):Nat):Int))),(9,.own 0 1 0 ((aI xs).length+1)),(10,.own 1 1 0 M),(11,.i6 ((M:Int)-(1:Int)))]) (h:=[some ⟨362,1,true,(aI (us++List.replicate (xs.length+2-us.length) 0)),none⟩,some ⟨362,1,true,(List.replicate M [.int .u32 (0:Int)]),none⟩]) ?_
 · simp only[aB]
   exact⟨by omega,by omega,by omega,Ref.wrI (by omega) (by omega),by omega,by unfold big;omega,by omega⟩
 rw[mF,aB]
 have hzd:∀ x∈us++List.replicate (xs.length+2-us.length) 0,x<b32:=by
   intro x hx';rcases List.mem_append.1 hx' with h | h
   · exact hud.1 x h
   · rw[List.mem_replicate] at h;rw[h.2];decide
 have hval:aJ b32 (us++List.replicate (xs.length+2-us.length) 0)=n*2^k:=by rw[eW,nH,hun];simp
 refine FP (L2:=xs.length+2) (U:=n*2^k) hvl hvd.1 hvt hM (by omega) (by unfold LIM;omega) hk32 rfl hvm hn hm M _ _ ?_;refine⟨by simp;omega,hzd,by simp,nF (by decide), ?_, ?_,Nat.le_refl _⟩
 · rw[hval,List.drop_of_length_le (by simp)];simp[aJ]
 · have h1:=cZ b32 M (us++List.replicate (xs.length+2-us.length) 0)
   rw[hval] at h1;have hlow:=hy.low (by decide) (fun h=>by rw[h] at hp;simp at hp);rw[hym,hp,show p+2-1=p+1 by omega] at hlow
   have h2:n*2^k<b32^M*(m*2^k):=by
     have a:=Nat.mul_lt_mul_of_pos_right hnlt (Nat.two_pow_pos k)
     have c:b32^xs.length<=b32^M*m:=by
       rw[show xs.length=M+(p+1) by omega,Nat.pow_add];exact Nat.mul_le_mul_left _ hlow
     have d:=Nat.mul_le_mul_right (2^k) c;rw[Nat.mul_assoc] at d;omega
   rw[hvm];rcases Nat.lt_or_ge (aJ b32 ((us++List.replicate (xs.length+2-us.length) 0).drop M)) (m*2^k) with h | h
   · exact h
   · have:=Nat.mul_le_mul_left (b32^M) h
     omega
end
def wJ:=kn
def Oo:KF
 | [.nat n _]=>some (.int .u64 ((n:Nat):Int),[n<18446744073709551616])
 | _=>none
section
variable {S:Nat->Prop} {w0:World}
noncomputable abbrev Oq:List Item:=[.code (aR [1,1,0,1,0,0] (aA Tryz.f249)),.inLoop (aR [1,1,0,1,0,0] (aA Tryz.f249)),.inBlock 0,.code (aR [1,1,1] (aA Tryz.f249))]
theorem Jf {xs:List Nat} (hx:∀ x∈xs,x<b32) (hl:xs.length<=2):∀ (j i v:Nat),j=xs.length-i->i<=xs.length->v=aJ b32 (xs.take i)->
   GF 249 S w0 (.int .u64 ((aJ b32 xs:Nat):Int)) Oq ⟨slots 22 [(3,.int .u64 ((v:Nat):Int)),(6,.list 1 (aI xs)),(7,(.i6 (((aI xs).length:Nat):Int))),(8,.i6 ((i:Nat):Int))],[]⟩:=by
 intro j
 induction j with
 | zero=>
   intro i v hj hi hv;have hi:i=xs.length:=by omega
   subst hi;rw[gO (rl _)] at hv;refine rF wJ [(9,ff)] (.a1 (iF (show ¬ ((xs.length:Int)<((aI xs).length:Int)) by rw[aB];omega))) (V:=.int .u64 (v:Int)) ?_
   exact Ref.nat_eq hv
 | succ j ih=>
   intro i v hj hi hv;have hlt:i<xs.length:=by omega
   have hx1:xs.getD i 0<b32:=bC (by decide) hx i;have hvl:v<2^(32*i):=by rw[hv, <- kT];exact dN (by decide) hx i
   unfold b32 at hx1
   have hp:2^(32*i)*xs.getD i 0<18446744073709551616:=by
     have:i=0\/i=1:=by omega
     rcases this with rfl | rfl
     · rw[show 2^(32*0)=1 from rfl,Nat.one_mul];omega
     · rw[show 2^(32*1)=4294967296 from rfl];omega
   have hv64:v<18446744073709551616:=by
     have:i=0\/i=1:=by omega
     rcases this with rfl | rfl
     · rw[show 2^(32*0)=1 from rfl] at hvl;omega
     · rw[show 2^(32*1)=4294967296 from rfl] at hvl;omega
   have v0:(i:Int)<((aI xs).length:Int):=by rw[aB];omega
   refine gN wJ [2,3,6,7,8] [(9,tt),(11,.cptr [.int .u32 (xs.getD i 0:Int)] 0),(15,.int .u64 (xs.getD i 0:Int)),(17,.i6 ((32*i:Nat):Int)),(18,.int .u64 (((xs.getD i 0)*2^(32*i) % 18446744073709551616:Nat):Int)),(19,.int .u64 ((v+2^(32*i)*xs.getD i 0:Nat):Int)),(20,.i6 ((i+1:Nat):Int))] (.c6 (iT v0) (Ref.cd32 hlt) (nn i) v0 (wU (xs.getD i 0:Int) (xs.getD i 0:Int)) (wI ((32:Int)*(i:Int)) ((32*i:Nat):Int)) (.a4 (show Ref (.int .u64 (IntKind.u64.wrap (((xs.getD i 0:Nat):Int)*2^(min ((32*i:Nat):Int).toNat 64)))) (.int .u64 (((xs.getD i 0)*2^(32*i) % 18446744073709551616:Nat):Int)) from Ref.shl64 (x:=xs.getD i 0) (k:=32*i) ((om (32*i<=64)))) (nn (32*i)) (show Ref (.int .u64 (IntKind.u64.wrap (BitVec.ofInt 64 (v:Int)||| BitVec.ofInt 64 (((xs.getD i 0)*2^(32*i) % 18446744073709551616:Nat):Int)).toNat)) (.int .u64 ((v+2^(32*i)*xs.getD i 0:Nat):Int)) from ?_) (wI ((i:Int)+(1:Int)) ((i+1:Nat):Int)))) (t:=Oq) (σ:=slots 22 [(3,(.int .u64 ((v+2^(32*i)*xs.getD i 0:Nat):Int))),(6,.list 1 (aI xs)),(7,.i6 ((aI xs).length:Int)),(8,.i6 ((i+1:Nat):Int))]) (h:=[]) ?_
   · have e:xs.getD i 0*2^(32*i) % 18446744073709551616=2^(32*i)*xs.getD i 0:=by rw[Nat.mul_comm,Nat.mod_eq_of_lt hp]
     refine(Ref.or64 ⟨hv64,Nat.mod_lt _ (by decide)⟩).trans (Ref.nat_eq ?_);rw[e,Nat.or_comm,nK hvl];omega
   · refine ih _ _ (by omega) (by omega) ?_
     rw[aT, <- hv,kT]
theorem Ot:bO 249 Oo:=fun args r ob h ho=>by
 unfold Oo at h
 split at h
 · rename_i n B
   cases h;have hn:n<18446744073709551616:=ho _ (by simp);obtain⟨hx,hxn⟩:=aQ (b:=b32) (by decide) n;have hl:=gF (b:=b32) (n:=n) (k:=2) (by decide) (by unfold b32;omega);refine af Tryz.f249 fun S w0=> ?_
   refine Good.weak 22 [(0,.list 1 (aI (aD b32 n)))] (by kernel_rfl) (.cons Ref.opn .nil) ?_;generalize aD b32 n=xs at*;subst hxn;exact gN wJ [3,6,7,8] [] .nil (Jf hx.1 hl _ 0 0 rfl (by omega) (by simp[aJ]))
 · cases h
end
def iB:=((kn.cons Ot).cons LH).cons Cz
section
variable {S0 C0:Nat->Prop} {w0:World} {Post:Value->World->Prop}
theorem FR (x y:Nat) (h1:(y:Int)=(0:Int)) (o:((x:Int)<18446744073709551616))
   (hg:Good Tryz.prog 204 S0 C0 w0 Post [.code .ret,.code (aR [1,0,0,0,1,0,1] (aA Tryz.f204)),.inBlock 1,.inLoop (aR [1,0,0,0] (aA Tryz.f204)),.inBlock 0,.code (aR [1,1] (aA Tryz.f204))] ⟨slots 41 [(4,.nat x 64),(5,.int .u64 (x:Int)),(6,.int .u64 (y:Int))],[]⟩):
   Good Tryz.prog 204 S0 C0 w0 Post [.code (aR [1,0,0,0,1,0,0,1,0,1,0,0,0] (aA Tryz.f204)),.inLoop (aR [1,0,0,0,1,0,0,1,0,1,0,0,0] (aA Tryz.f204)),.inBlock 2,.code (aR [1,0,0,0,1,0,0,1,0,1,1] (aA Tryz.f204)),.code (aR [1,0,0,0,1,0,1] (aA Tryz.f204)),.inBlock 1,.inLoop (aR [1,0,0,0] (aA Tryz.f204)),.inBlock 0,.code (aR [1,1] (aA Tryz.f204))] ⟨slots 41 [(5,.int .u64 (x:Int)),(6,.int .u64 (y:Int))],[]⟩:=
 tN mixed aX iB 12 none [4,5,6] [] [(25,(.bool false))] (ob:=[Ref (.bool (!decide ((y:Int)=(0:Int)))) (.bool false),0<=(x:Int),(x:Int)<18446744073709551616]) (by decide) (by kernel_rfl)
   (.cons (Ref.bool (congrArg Bool.not (decide_eq_true h1))) (.cons (Int.natCast_nonneg _) (.cons (o) (AllP.nil)))) hg
end
def Ou:KF
 | [.nat n B,.nat m C]=>some (.nat (Nat.gcd n m) (max B C),[max B C+128<=LIM])
 | _=>none
theorem FS {n m E:Nat} (hn:n<2^E) (hm:m<2^E):Nat.gcd n m<2^E:=by
 rcases Nat.eq_zero_or_pos m with rfl | h
 · rw[Nat.gcd_zero_right];exact hn
 · exact Nat.lt_of_le_of_lt (Nat.gcd_le_right n h) hm
theorem rB (n m:Nat):Nat.gcd n m=Nat.gcd m (n % m):=by
 rw[Nat.gcd_comm n m,Nat.gcd_rec m n,Nat.gcd_comm]
section
variable {S:Nat->Prop} {w0:World}
noncomputable abbrev LI:List Item:=[.code (aR [1,0,0,0] (aA Tryz.f204)),.inLoop (aR [1,0,0,0] (aA Tryz.f204)),.inBlock 0,.code (aR [1,1] (aA Tryz.f204))]
noncomputable abbrev Dp:List Item:=[.code (aR [1,0,0,0,1,0,0,1,0,1,0,0,0] (aA Tryz.f204)),.inLoop (aR [1,0,0,0,1,0,0,1,0,1,0,0,0] (aA Tryz.f204)),.inBlock 2,.code (aR [1,0,0,0,1,0,0,1,0,1,1] (aA Tryz.f204)),.code (aR [1,0,0,0,1,0,1] (aA Tryz.f204)),.inBlock 1,.inLoop (aR [1,0,0,0] (aA Tryz.f204)),.inBlock 0,.code (aR [1,1] (aA Tryz.f204))]
theorem FT {E:Nat}:∀ (f x y:Nat),y<=f->x<18446744073709551616->y<18446744073709551616->Nat.gcd x y<2^E->
   GF 204 S w0 (.nat (Nat.gcd x y) E) Dp ⟨slots 41 [(5,.int .u64 ((x:Nat):Int)),(6,.int .u64 ((y:Nat):Int))],[]⟩:=by
 have last:∀ x,x<18446744073709551616->Nat.gcd x 0<2^E->GF 204 S w0 (.nat (Nat.gcd x 0) E) Dp ⟨slots 41 [(5,.int .u64 ((x:Nat):Int)),(6,.int .u64 ((0:Nat):Int))],[]⟩:=by
   intro x hx hE;rw[Nat.gcd_zero_right] at hE ⊢;exact FR x 0 rfl (by omega) (bX aX (fn:=Tryz.f204) (by kernel_rfl) 4 (by kernel_rfl) rfl (by rfl) (Ref.natB hE))
 intro f
 induction f with
 | zero=>
   intro x y hf hx hy hE;have:y=0:=by omega
   subst this;exact last x hx hE
 | succ f ih=>
   intro x y hf hx hy hE
   by_cases h0:y=0
   · subst h0;exact last x hx hE
   · refine gN iB [4,5,6] [(25,tt),(29,.int .u64 ((x % y:Nat):Int))] (.a3 (jT (om (¬ ((y:Int)=(0:Int))))) (show Ref (.int .u64 ((x:Int).tmod (y:Int))) (.int .u64 ((x % y:Nat):Int)) from Ref.rem (a:=x) (b:=y) rfl rfl) (om ((y:Int)≠0))) (t:=Dp) (σ:=slots 41 [(5,.int .u64 (y:Int)),(6,.int .u64 ((x % y:Nat):Int))]) (h:=[]) ?_
     have hlt:x % y<y:=Nat.mod_lt _ (by omega);rw[rB] at hE ⊢;exact ih _ _ (by omega) hy (by omega) hE
theorem Jg {E:Nat} (hL:E+128<=LIM):∀ (f n m:Nat),m<=f->n<2^E->m<2^E->
   GF 204 S w0 (.nat (Nat.gcd n m) E) LI ⟨slots 41 [(0,.nat n E),(1,.nat m E)],[]⟩:=by
 have last:∀ n,n<2^E->GF 204 S w0 (.nat (Nat.gcd n 0) E) LI ⟨slots 41 [(0,.nat n E),(1,.nat 0 E)],[]⟩:=by
   intro n hn;obtain⟨hx,hxn⟩:=aQ (b:=b32) (by decide) n;rw[Nat.gcd_zero_right];refine Good.weak 41 [(0,.list 1 (aI (aD b32 n))),(1,.list 1 (aI (aD b32 0)))] (by kernel_rfl) (.cons Ref.opn (.cons Ref.opn .nil)) ?_;refine rF iB [(11,ff)] (.a1 (iF (show ¬ ((0:Int)<((aI (aD b32 0)).length:Int)) by simp[aB,gW]))) (V:=.list 1 (aI (aD b32 n))) (Ref.nat hx hxn hn)
 intro f
 induction f with
 | zero=>
   intro n m hf hn hm;have:m=0:=by omega
   subst this;exact last n hn
 | succ f ih=>
   intro n m hf hn hm
   by_cases h0:m=0
   · subst h0;exact last n hn
   obtain⟨hx,hxn⟩:=aQ (b:=b32) (by decide) n;obtain⟨hy,hyn⟩:=aQ (b:=b32) (by decide) m;have hy0:0<(aD b32 m).length:=(dA (by decide)).2 (by omega)
   have hbig:∀ k,(aD b32 k).length<=2->k<18446744073709551616:=fun k hk=>by
     have h1:=iU (b:=b32) (n:=k) (by decide);have h2:b32^(aD b32 k).length<=b32^2:=Nat.pow_le_pow_right (by decide) hk;have h3:b32^2=18446744073709551616:=by decide
     omega
   have div:GF 204 S w0 (.nat (Nat.gcd n m) E) [.code (aR [1,0,0,0,1,0,1,0] (aA Tryz.f204)),.code (aR [1,0,0,0,1,0,1,1] (aA Tryz.f204)),.inBlock 1,.inLoop (aR [1,0,0,0] (aA Tryz.f204)),.inBlock 0,.code (aR [1,1] (aA Tryz.f204))] ⟨slots 41 [(0,.list 1 (aI (aD b32 n))),(1,.list 1 (aI (aD b32 m)))],[]⟩:=by
     refine Good.weak 41 [(0,.nat n E),(1,.nat m E)] (by kernel_rfl) (.cons (Ref.nat hx hxn hn) (.cons (Ref.nat hy hyn hm) .nil)) ?_;refine gR iB none [0,1] [] [] (.a2 (om (0<m)) (show max E E+128<=LIM by rw[Nat.max_self];exact hL)) (t:=LI) (σ:=slots 41 [(0,.nat m E),(1,.nat (n % m) (max E E))]) (h:=[]) ?_
     rw[Nat.max_self,rB];have hlt:n % m<m:=Nat.mod_lt _ (by omega);exact ih _ _ (by omega) hm (by omega)
   refine Good.weak 41 [(0,.list 1 (aI (aD b32 n))),(1,.list 1 (aI (aD b32 m)))] (by kernel_rfl) (.cons Ref.opn (.cons Ref.opn .nil)) ?_;have v0:(0:Int)<((aI (aD b32 m)).length:Int):=by rw[aB];omega
   by_cases c1:(aD b32 n).length<=2
   · have v1:((aI (aD b32 n)).length:Int)<=(2:Int):=by rw[aB];omega
     by_cases c2:(aD b32 m).length<=2
     · refine gS iB (some 3) [0,1,4] [(11,tt),(15,tt),(19,tt)] (.a3 (iT v0) (iT v1) (iT (show((aI (aD b32 m)).length:Int)<=(2:Int) by rw[aB];omega))) (t:=[.code (aR [1,0,0,0,1,0,0,1,0,0] (aA Tryz.f204)),.code (aR [1,0,0,0,1,0,0,1,0,1] (aA Tryz.f204)),.code (aR [1,0,0,0,1,0,1] (aA Tryz.f204)),.inBlock 1,.inLoop (aR [1,0,0,0] (aA Tryz.f204)),.inBlock 0,.code (aR [1,1] (aA Tryz.f204))]) (σ:=slots 41 [(0,.list 1 (aI (aD b32 n))),(1,.list 1 (aI (aD b32 m)))]) (h:=[]) ?_
       refine Good.weak 41 [(0,.nat n E),(1,.nat m E)] (by kernel_rfl) (.cons (Ref.nat hx hxn hn) (.cons (Ref.nat hy hyn hm) .nil)) ?_;refine gR iB none [5,6] [] [] (.a2 (show n<18446744073709551616 from hbig n c1) (show m<18446744073709551616 from hbig m c2)) (t:=Dp) (σ:=slots 41 [(5,.int .u64 (n:Int)),(6,.int .u64 (m:Int))]) (h:=[]) ?_
       exact FT m n m (rl _) (hbig n c1) (hbig m c2) (FS hn hm)
     · exact gS iB (some 7) [0,1,4] [(11,tt),(15,tt),(19,ff)] (.a3 (iT v0) (iT v1) (iF (show ¬ ((((aI (aD b32 m)).length:Nat):Int)<=(2:Int)) by rw[aB];omega))) div
   · exact gS iB (some 7) [0,1,4] [(11,tt),(15,ff)] (.a2 (iT v0) (iF (show ¬ ((((aI (aD b32 n)).length:Nat):Int)<=(2:Int)) by rw[aB];omega))) div
theorem Sp:bO 204 Ou:=by
 refine cJ Tryz.f204 fun _ _ _ S w0 h ho=> ?_
 unfold Ou at h;split at h <;> cases h;rename_i n B m C;have hL:max B C+128<=LIM:=ho _ (by simp);refine Good.natlt (n:=n) (B:=B) 0 rfl fun hn=>Good.natlt (n:=m) (B:=C) 1 rfl fun hm=> ?_
 have hn':=kF hn (Nat.le_max_left B C);have hm':=kF hm (Nat.le_max_right B C);refine Good.weak 41 [(0,.nat n (max B C)),(1,.nat m (max B C))] (by kernel_rfl) (.cons (Ref.natB hn') (.cons (Ref.natB hm') .nil)) ?_;exact gN iB [0,1] [] .nil (Jg hL m n m (rl _) hn' hm')
end
def rC:=(kn.cons NR).cons By
def Ov:KF
 | [.nat n B,.nat m C]=>some (.nat (n-m) B,[m<=n,B<=LIM])
 | _=>none
section
variable {S:Nat->Prop} {w0:World}
noncomputable abbrev LJ:List Item:=[.code (aR [1,1,1,0,1,0,0] (aA Tryz.f206)),.inLoop (aR [1,1,1,0,1,0,0] (aA Tryz.f206)),.inBlock 0,.code (aR [1,1,1,1] (aA Tryz.f206))]
theorem Jh {xs ys:List Nat} {N B m:Nat} (hmm:m=xs.length) (hx:∀ x∈xs,x<b32) (hy:∀ x∈ys,x<b32) (hl:ys.length<=xs.length) (hbig:xs.length+2<=big)
   (hN:aJ b32 xs=aJ b32 ys+N) (hB:N<2^B):∀ (j i c:Nat) (ds:List Nat),j=xs.length-i->i<=xs.length->c<=1->ds.length=xs.length->(∀ x∈ds,x<b32)->
   aJ b32 (ds.take i)+aJ b32 (ys.take i)=aJ b32 (xs.take i)+b32^i*c->
   GF 206 S w0 (.nat N B) LJ
     ⟨slots 41 [(0,.list 1 (aI xs)),(1,.list 1 (aI ys)),(5,.own 0 1 0 m),(6,.int .u32 ((c:Nat):Int)),(13,(.i6 (((aI xs).length:Nat):Int))),(14,.i6 ((i:Nat):Int))],
      [some ⟨362,1,true,(aI ds),none⟩]⟩:=by
 unfold big at hbig;intro j
 induction j with
 | zero=>
   intro i c ds hj hi hc hd hdl hinv;have hi:i=xs.length:=by omega
   subst hi;have e0:((aI ds).drop 0).take m=aI ds:=by rw[List.drop_zero,gO (by rw[aB];omega)]
   have hlt:aJ b32 ds<b32^xs.length:=by rw[<- hd];exact dY (by decide) hdl
   rw[gO (by omega),gO hl,gO (rl _)] at hinv
   have hc0:c=0:=by
     rcases Nat.eq_zero_or_pos c with h | h
     · exact h
     · have:b32^xs.length*1<=b32^xs.length*c:=Nat.mul_le_mul_left _ h
       omega
   subst hc0;refine rF rC [(15,ff)] (.a4 (iF (show ¬ ((xs.length:Int)<((aI xs).length:Int)) by rw[aB];omega)) (show 0+m<=(aI ds).length by rw[aB];omega) (show(((aI ds).drop 0).take m)=aI (bD (((aI ds).drop 0).take m)) by rw[e0,cC]) (show ∀ x∈bD (((aI ds).drop 0).take m),x<b32 by rw[e0,cC];exact hdl)) (V:=.nat (aJ b32 (bD (((aI ds).drop 0).take m))) (32*(((aI ds).drop 0).take m).length)) ?_
   show Ref (.nat (aJ b32 (bD (((aI ds).drop 0).take m))) _) _;rw[e0,cC,show aJ b32 ds=N by omega];exact Ref.natB hB
 | succ j ih=>
   intro i c ds hj hi hc hd hdl hinv;have hlt:i<xs.length:=by omega
   have hx1:xs.getD i 0<b32:=bC (by decide) hx i;have hy1:ys.getD i 0<b32:=bC (by decide) hy i;unfold b32 at hx1 hy1
   have nx:∀ y,y=ys.getD i 0->GF 206 S w0 (.nat N B) LJ
     ⟨slots 41 [(0,.list 1 (aI xs)),(1,.list 1 (aI ys)),(5,.own 0 1 0 m),(6,.int .u32 ((if xs.getD i 0<y+c then 1 else 0:Nat):Int)),(13,(.i6 (((aI xs).length:Nat):Int))),(14,.i6 ((i+1:Nat):Int))],
      [some ⟨362,1,true,((aI ds).set (0+i) [(AV.int .u32 (((xs.getD i 0+8589934592-y-c) % 4294967296:Nat):Int))]),none⟩]⟩:=by
     intro y hyy;rw[eY,Nat.zero_add];have hy2:y<4294967296:=by omega
     refine ih (i+1) _ _ (by omega) (by omega) (by split <;> omega) (by simp[hd]) (fH hdl (by unfold b32;omega)) ?_;rw[aT,aT b32 xs,aT b32 ys,nE,dM (by omega),Nat.pow_succ, <- hyy];refine Br ?_ hinv;unfold b32
     split <;> omega
   have v0:(i:Int)<((aI xs).length:Int):=by rw[aB];omega
   have v1:0<=(xs.getD i 0:Int):=Int.natCast_nonneg _
   by_cases hyl:i<ys.length
   · refine cX (p:=(i<ys.length)/\((i:Int)<((aI ys).length:Int))/\(i<xs.length)/\((i:Int)<((aI xs).length:Int))/\((xs.getD i 0)<4294967296)/\((ys.getD i 0)<4294967296)/\(c<=1)/\((i:Int)<(m:Int))/\(0+i<(aI ds).length)/\(-9223372036854775808<=(i:Int)+(1:Int)/\(i:Int)+(1:Int)<=9223372036854775807)) ?_ fun⟨q0,q1,q2,q3,q4,q5,q6,q7,q8,q9⟩=>gR rC none [0,1,4,5,6,13,14] [0] [(15,tt),(20,tt),(23,.cptr [.int .u32 (ys.getD i 0:Int)] 0),(30,.cptr [.int .u32 (xs.getD i 0:Int)] 0),(38,.i6 ((i+1:Nat):Int))] (.c6 (iT v0) (iT (show(i:Int)<((aI ys).length:Int) by rw[aB];omega)) (Ref.cd32 q0) (nn i) q1 (Ref.cd32 q2) (.c6 (nn i) q3 v1 (show 0<=(ys.getD i 0:Int) from Int.natCast_nonneg _) (nn c) q4 (.a6 q5 q6 (nn i) q7 q8 (wI ((i:Int)+(1:Int)) ((i+1:Nat):Int) q9)))) (nx _ rfl)
     simp only[aB,hd];omega
   · have hz:0=ys.getD i 0:=by simp[nG,Nat.le_of_not_lt hyl]
     refine cX (p:=(i<xs.length)/\((i:Int)<((aI xs).length:Int))/\((xs.getD i 0)<4294967296)/\(c<=1)/\((i:Int)<(m:Int))/\(0+i<(aI ds).length)/\(-9223372036854775808<=(i:Int)+(1:Int)/\(i:Int)+(1:Int)<=9223372036854775807)) ?_ fun⟨q0,q1,q2,q3,q4,q5,q6⟩=>gR rC none [0,1,4,5,6,13,14] [0] [(15,tt),(20,ff),(30,.cptr [.int .u32 (xs.getD i 0:Int)] 0),(38,.i6 ((i+1:Nat):Int))] (.c6 (iT v0) (iF (show ¬ ((i:Int)<((aI ys).length:Int)) by rw[aB];omega)) (Ref.cd32 q0) (nn i) q1 v1 (.c6 (dc (0<=(0:Int))) (nn c) q2 (dc (0<4294967296)) q3 (nn i) (.a3 q4 q5 (wI ((i:Int)+(1:Int)) ((i+1:Nat):Int) q6)))) (nx _ hz)
     simp only[aB,hd];omega
theorem Ow:bO 206 Ov:=fun args r ob h ho=>by
 unfold Ov at h
 split at h
 · rename_i n B m C
   cases h;have hmn:m<=n:=ho _ (by simp);have hL:B<=LIM:=ho _ (by simp);unfold LIM at hL;obtain⟨hx,hxn⟩:=aQ (b:=b32) (by decide) n;obtain⟨hy,hyn⟩:=aQ (b:=b32) (by decide) m;refine af Tryz.f206 fun S w0=> ?_
   refine Good.natlt (n:=n) (B:=B) 0 rfl fun hn=> ?_
   refine Good.weak 41 [(0,.list 1 (aI (aD b32 n))),(1,.list 1 (aI (aD b32 m)))] (by kernel_rfl) (.cons Ref.opn (.cons Ref.opn .nil)) ?_;have l1:=hx.len (by rw[hxn];exact hn);generalize aD b32 n=xs at*;generalize aD b32 m=ys at*;subst hxn;subst hyn
   have hlen:ys.length<=xs.length:=by
     rcases Nat.lt_or_ge xs.length ys.length with h | h
     · have:=eI (by decide) hx hy h;omega
     · exact h
   refine cX (p:=(4*((aI xs).length:Int)<=281474976710656)/\((((aI xs).length:Nat):Int)<=(big:Int))) (by simp only[aB];unfold big;omega) fun⟨q0,q1⟩=>gN rC [0,1,4,5,6,13,14] [] (.a4 (rfl:((aI xs).length:Int)=((aI xs).length:Int)) (show 0<=((aI xs).length:Int) from Int.natCast_nonneg _) q0 q1) (t:=LJ) (σ:=slots 41 [(0,.list 1 (aI xs)),(1,.list 1 (aI ys)),(4,.nil),(5,.own 0 1 0 ((aI xs).length)),(6,.int .u32 (0:Int)),(13,.i6 ((aI xs).length:Int)),(14,.i6 (0:Int))]) (h:=[some ⟨362,1,true,(List.replicate ((aI xs).length) [.int .u32 (0:Int)]),none⟩]) ?_
   rw[mF];refine Good.weak 41 [(0,_),(1,_),(5,_),(6,_),(13,_),(14,_)] (by kernel_rfl) (.r (.r (.r (.r (.r (.r .nil)))))) ?_;exact Jh (by rw[aB]) hx.1 hy.1 hlen (by unfold big;omega) (by omega) (by omega) _ 0 0 _ rfl (by omega) (by omega) (by simp[aB]) (nF (by decide)) (by simp[aJ])
 · cases h
end
def rD:=((((kn.cons Ow).cons LH).cons Sp).cons Cz).cons Ac
def Ox:KF
 | [.agg [.z n B],.nat d C]=>some (.agg [.q (mkRat n d) (max B C)],[0<d,max B C+128<=LIM])
 | _=>none
theorem sT {n:Int} {d:Nat} (hd:d≠0):iM (decide (n<0)) (n.natAbs/n.natAbs.gcd d)=(mkRat n d).num:=by
 rw[<- vX (mkRat n d).num,zZ hd]
 congr 1
 simp only[decide_eq_decide];exact(Em hd).symm
theorem FU:bO 112 Ox:=by
 refine cJ Tryz.f112 fun _ _ _ S w0 h ho=> ?_
 unfold Ox at h;split at h <;> cases h;rename_i n B d C;have hd:0<d:=ho _ (by simp);have hL:max B C+128<=LIM:=ho _ (by simp);have hB1:B<=max B C:=Nat.le_max_left _ _;have hC1:C<=max B C:=Nat.le_max_right _ _;refine Good.zlt (n:=n) (B:=B) 0 rfl fun hn=>Good.natlt (n:=d) (B:=C) 1 rfl fun hdC=> ?_
 have hg0:0<n.natAbs.gcd d:=Nat.gcd_pos_of_pos_right _ hd;have hgd:n.natAbs.gcd d<=d:=Nat.gcd_le_right _ hd;have hgE:n.natAbs.gcd d<2^max B C:=kF (Nat.lt_of_le_of_lt hgd hdC) hC1;obtain⟨hx,hxn⟩:=aQ (b:=b32) (by decide) (n.natAbs.gcd d);have fold:∀ k e,k=(mkRat n d).num->e=(mkRat n d).den-1->Ref (.agg [.z k B,.nat e C]) (.agg [.q (mkRat n d) (max B C)]):=fun k e hk he=>Ref.agg (RefC.mkq hB1 hC1 hk he)
 have dn0:d≠0:=by omega
 have v1:(1:Int)<18446744073709551616:=by decide
 have rest:GF 112 S w0 (.agg [.q (mkRat n d) (max B C)]) [.code (aR [1,0,1,1,0,0] (aA Tryz.f112)),.code (aR [1,0,1,1,0,1] (aA Tryz.f112)),.code (aR [1,1] (aA Tryz.f112))] ⟨slots 42 [(1,.nat d C),(2,.ptr 0 2 0 0),(4,.ptr 1 3 0 0),(5,(.list 1 (aI (aD b32 (n.natAbs.gcd d)))))],[some ⟨54,2,false,[[(.z n B)]],none⟩,some ⟨56,3,false,[[(.q 0 0)]],none⟩]⟩:=by
   refine Good.weak 42 [(1,_),(2,_),(4,_),(5,.nat (n.natAbs.gcd d) (max B C))] (by kernel_rfl) (.r (.r (.r (.cons (Ref.nat hx hxn hgE) .nil)))) ?_;have hdg:0<d/n.natAbs.gcd d:=Nat.div_pos hgd hg0;refine rF rD [] (.c6 hg0 (om (max B (max B C)+128<=LIM)) hg0 (om (max C (max B C)+128<=LIM)) (dc (0<=(1:Int))) v1 (.a2 hdg (om (C<=LIM)))) (V:=.agg [.z (iM (decide (n<0)) (n.natAbs/n.natAbs.gcd d)) B,.nat ((d/n.natAbs.gcd d)-1) C]) (fold _ _ (sT dn0) ?_)
   rw[oV dn0]
 have v0:Ref (.nat (Nat.gcd n.natAbs d) (max B C)) (.list 1 (aI (aD b32 (Nat.gcd n.natAbs d)))):=Ref.opn
 by_cases c1:(aD b32 (n.natAbs.gcd d)).length=1
 · by_cases c2:(aD b32 (n.natAbs.gcd d)).getD 0 0=1
   · have hg1:n.natAbs.gcd d=1:=by
       have h1:=aT b32 (aD b32 (n.natAbs.gcd d)) 0;rw[gO (by omega),hxn,c2] at h1;simpa[aJ] using h1
     refine rF rD [(9,.list 1 (aI (aD b32 (n.natAbs.gcd d)))),(13,ff),(15,.cptr [.int .u32 ((aD b32 (n.natAbs.gcd d)).getD 0 0:Int)] 0),(18,ff)] (.c6 (show Ref (.nat (Nat.gcd n.natAbs d) (max B C)) (.list 1 (aI (aD b32 (n.natAbs.gcd d)))) from Ref.opn) hL (jF (show((aI (aD b32 (n.natAbs.gcd d))).length:Int)=(1:Int) by rw[aB];omega)) (show Ref (.cptr ((aI (aD b32 (n.natAbs.gcd d))).getD 0 []) 0) (.cptr [.int .u32 ((aD b32 (n.natAbs.gcd d)).getD 0 0:Int)] 0) from Ref.cd32 ((om (0<(aD b32 (n.natAbs.gcd d)).length)))) (dc (0<=(0:Int))) (show(0:Int)<((aI (aD b32 (n.natAbs.gcd d))).length:Int) by rw[aB];omega) (.a5 (jF (om (((aD b32 (n.natAbs.gcd d)).getD 0 0:Int)=(1:Int)))) (dc (0<=(1:Int))) v1 hd (om (C<=LIM)))) (V:=.agg [.z (iM (decide (n<0)) n.natAbs) B,.nat (d-1) C]) (fold _ _ ?_ ?_)
     · rw[<- sT dn0,hg1,Nat.div_one]
     · rw[oV dn0,hg1,Nat.div_one]
   · exact gR rD (some 3) [1,2,4,5] [0,1] [(9,.list 1 (aI (aD b32 (Nat.gcd n.natAbs d)))),(13,ff),(15,.cptr [.int .u32 ((aD b32 (Nat.gcd n.natAbs d)).getD 0 0:Int)] 0),(18,tt)] (.c6 v0 hL (jF (show((aI (aD b32 (Nat.gcd n.natAbs d))).length:Int)=(1:Int) by rw[aB];omega)) (show Ref (.cptr ((aI (aD b32 (Nat.gcd n.natAbs d))).getD 0 []) 0) (.cptr [.int .u32 ((aD b32 (Nat.gcd n.natAbs d)).getD 0 0:Int)] 0) from Ref.cd32 ((om (0<(aD b32 (Nat.gcd n.natAbs d)).length)))) (dc (0<=(0:Int))) (show(0:Int)<((aI (aD b32 (Nat.gcd n.natAbs d))).length:Int) by rw[aB];omega) (.a1 (jT (om (¬ ((((aD b32 (Nat.gcd n.natAbs d)).getD 0 0:Nat):Int)=(1:Int))))))) rest
 · exact gR rD (some 3) [1,2,4,5] [0,1] [(9,.list 1 (aI (aD b32 (Nat.gcd n.natAbs d)))),(13,tt)] (.a3 v0 hL (jT (show ¬ ((((aI (aD b32 (Nat.gcd n.natAbs d))).length:Nat):Int)=(1:Int)) by rw[aB];omega))) rest
end Go.Av
namespace Go.Av
open Go.RowKit
theorem RefC.opn:RefC (.nat n B::cs) (.list 1 (aI (aD b32 n))::cs):=fun ρ S w D vs x=>by
 cases x with
 | nat xs h1 h2 h3 h4=>
   obtain⟨g1,g2⟩:=aQ (b:=b32) (by decide) n;rw[<- Dig.uniq (by decide) h1 g1 (by rw[h2,g2])];exact h4
theorem RefC.opnd:RefC (.dig n B::cs) (.list 1 (aO (aD b10k n))::cs):=fun ρ S w D vs x=>by
 cases x with
 | dig xs h1 h2 h3 h4=>
   obtain⟨g1,g2⟩:=aQ (b:=b10k) (by decide) n;rw[<- Dig.uniq (by decide) h1 g1 (by rw[h2,g2])];exact h4
theorem RefC.zopn:RefC (.z n B::cs) (.bool (decide (n<0)):: .nat n.natAbs B::cs):=fun ρ S w D vs x=>by
 cases x with
 | z h=>exact h
theorem RefC.rzopn:RefC (.rz n B::cs) (.bool (decide (n<0)):: .dig n.natAbs B::cs):=fun ρ S w D vs x=>by
 cases x with
 | rz h=>exact h
theorem RefC.q_eq (h:x=y) (k:B<=C):RefC (.q x B::cs) (.q y C::cs):=by subst h;exact RefC.q_le k
theorem RefC.z_eq (h:x=y) (k:B<=C):RefC (.z x B::cs) (.z y C::cs):=by subst h;exact RefC.z_le k
theorem RefC.rz_eq (h:x=y) (k:B<=C):RefC (.rz x B::cs) (.rz y C::cs):=by subst h;exact RefC.rz_le k
theorem Ref.nat_of (h:x=y) (k:B<=C):Ref (.nat x B) (.nat y C):=by subst h;exact Ref.nat_le k
theorem Ref.dig_of (h:x=y) (k:B<=C):Ref (.dig x B) (.dig y C):=by subst h;exact Ref.dig_le k
theorem Ref.q1 (h:x=y) (k:B<=C):Ref (.agg [.q x B]) (.agg [.q y C]):=Ref.agg (RefC.q_eq h k)
theorem Ref.z1 (h:x=y) (k:B<=C):Ref (.agg [.z x B]) (.agg [.z y C]):=Ref.agg (RefC.z_eq h k)
theorem Ref.rz1 (h:x=y) (k:B<=C):Ref (.agg [.rz x B]) (.agg [.rz y C]):=Ref.agg (RefC.rz_eq h k)
theorem uG (a b:Bool):(!(a==b))=(a !=b):=rfl
end Go.Av
namespace Go.Av
open Go.Proofs Go.RowKit
def Oy:KF
 | [.int .i64 n]=>some (.nat n.natAbs 64,[(-9223372036854775808:Int)<=n,n<=(9223372036854775807:Int)])
 | _=>none
theorem Oz:bO 110 Oy:=by
 refine cJ Tryz.f110 fun _ _ _ S w0 h ho=> ?_
 unfold Oy at h;split at h <;> cases h;rename_i n;obtain⟨o1,o2⟩:=ho.e2;have K:=kn.cons Cz
 by_cases h1:n<(0:Int)
 · exact rF K [(4,tt),(7,.int .u64 (0-n))] (.a4 (iT h1) (show Ref (.int .u64 (IntKind.u64.wrap (0-(IntKind.u64.wrap n)))) (.int .u64 (0-n)) by exact Ref.int (by simp only[IntKind.wrap,IntKind.signed,IntKind.bits];simp;omega)) (om (0<=(0-n))) (om ((0-n)<18446744073709551616))) (V:=.nat ((0-n).toNat) 64) (Ref.nat_of (by omega) (rl _))
 · exact rF K [(4,ff),(10,.int .u64 n)] (.a4 (iF h1) (wU (n) n) (om (0<=n)) (om (n<18446744073709551616))) (V:=.nat n.toNat 64) (Ref.nat_of (by omega) (rl _))
def OA:KF
 | [.int .i64 n,.int .i64 d]=>some (.tup [.agg [.q ((n:Rat)/(d:Rat)) 64],.int .i64 (if d=0 then 9 else 0)],[(-9223372036854775808:Int)<=n,n<=(9223372036854775807:Int),(-9223372036854775808:Int)<=d,d<=(9223372036854775807:Int)])
 | _=>none
theorem OB:bO 105 OA:=by
 refine cJ Tryz.f105 fun _ _ _ S w0 h ho=> ?_
 unfold OA at h;split at h <;> cases h;rename_i n d;obtain⟨o1,o2,o3,o4⟩:=ho.e4;have L:=dH;have K:=((kn.cons FU).cons Oz).cons Ac
 by_cases h1:d=(0:Int)
 · refine rF K [(7,tt)] (.a1 (iT h1)) (V:=.tup [.agg [.q 0 0],.i6 (9:Int)]) ?_
   subst h1;exact Ref.tup2 (Ref.q1 (by rw[show((0:Int):Rat)=0 from rfl,Rat.div_def,Rat.inv_zero,Rat.mul_zero]) (by omega)) (Ref.int (by simp)) rfl rfl rfl rfl
 · refine rF K [(7,ff)] (.c6 (iF h1) o1 o2 o3 o4 (om (0<d.natAbs)) (.a1 (om (max 64 64+128<=LIM)))) (V:=.tup [.agg [.q (mkRat (iM (!((decide (n<(0:Int)))==(decide (d<(0:Int))))) n.natAbs) d.natAbs) (max 64 64)],.i6 (0:Int)]) ?_
   refine Ref.tup2 (Ref.q1 ?_ (by omega)) (Ref.int (by rw[if_neg h1])) rfl rfl rfl rfl;have h:=Fx (n:Rat) (d:Rat) (fun h=>h1 (Rat.intCast_eq_zero_iff.1 h));rw[<- h];simp[uG];rfl
def kJ:=kn
def OC:KF
 | [.dig n _,.dig m _]=>some (.int .i64 (fL n m),[])
 | _=>none
section
variable {S:Nat->Prop} {w0:World}
noncomputable abbrev LK:List Item:=[.code (aR [1,1,0,1,0,0] (aA Tryz.f221)),.inLoop (aR [1,1,0,1,0,0] (aA Tryz.f221)),.inBlock 0,.code (aR [1,1,1] (aA Tryz.f221))]
theorem Ji {xs ys:List Nat} (hl:xs.length=ys.length) (hx:∀ x∈xs,x<b10k) (hy:∀ x∈ys,x<b10k) (hb:xs.length<=big):∀ (j:Nat),j<=xs.length->xs.drop j=ys.drop j->
   GF 221 S w0 (.i6 (fL (aJ b10k xs) (aJ b10k ys))) LK ⟨slots 41 [(0,.list 1 (aO xs)),(1,.list 1 (aO ys)),(5,(.i6 (((j:Nat):Int)-1)))],[]⟩:=by
 unfold big at hb;intro j
 induction j with
 | zero=>
   intro _ hd;rw[show(((0:Nat):Int)-1)= -1 from rfl];refine rF kJ [] .nil (V:=.i6 (0:Int)) ?_
   simp only[List.drop_zero] at hd;subst hd;exact Ref.int (Dj _).symm
 | succ j ih=>
   intro hj hd;rw[show(((j+1:Nat):Int)-1)=((j:Nat):Int) by omega]
   have o:(j<xs.length)/\(((j:Nat):Int)<(((aO xs).length:Nat):Int))/\(j<ys.length)/\(((j:Nat):Int)<(((aO ys).length:Nat):Int)):=by
     simp only[aL];omega
   have v0:(0:Int)<=(j:Int):=by omega
   by_cases h:xs.getD j 0=ys.getD j 0
   · refine gN kJ [0,1,4,5] [(20,tt),(25,.cptr [.i6 (xs.getD j 0:Int)] 0),(29,.cptr [.i6 (ys.getD j 0:Int)] 0),(31,ff),(22,.i6 ((j:Int)-(1:Int)))] (.c6 (iT v0) (Ref.cd64 o.1) (nn j) o.2.1 (Ref.cd64 o.2.2.1) (nn j) (.a3 o.2.2.2 (jF (show(xs.getD j 0:Int)=(ys.getD j 0:Int) by rw[h])) (wI ((j:Int)-(1:Int)) ((j:Int)-(1:Int))))) (t:=LK) (σ:=slots 41 [(0,.list 1 (aO xs)),(1,.list 1 (aO ys)),(5,.i6 ((j:Int)-(1:Int)))]) (h:=[]) ?_
     refine ih (by omega) ?_;rw[List.drop_eq_getElem_cons (by omega:j<xs.length),List.drop_eq_getElem_cons (by omega:j<ys.length),hd]
     have:xs[j]'(by omega)=ys[j]'(by omega):=by
       simpa[nG,show j<xs.length by omega,show j<ys.length by omega] using h
     rw[this]
   · have v1:¬ (((xs.getD j 0:Nat):Int)=(ys.getD j 0:Int)):=by omega
     by_cases h2:xs.getD j 0<ys.getD j 0
     · refine rF kJ [(20,tt),(25,.cptr [.i6 (xs.getD j 0:Int)] 0),(29,.cptr [.i6 (ys.getD j 0:Int)] 0),(31,tt),(34,.cptr [.i6 (xs.getD j 0:Int)] 0),(38,.cptr [.i6 (ys.getD j 0:Int)] 0),(40,tt)] (.c6 (iT v0) (Ref.cd64 o.1) (nn j) o.2.1 (Ref.cd64 o.2.2.1) (nn j) (.c6 o.2.2.2 (jT v1) (Ref.cd64 o.1) (nn j) o.2.1 (Ref.cd64 o.2.2.1) (.a3 (nn j) o.2.2.2 (iT (om ((xs.getD j 0:Int)<(ys.getD j 0:Int))))))) (V:=.i6 (-1:Int)) ?_
       exact Ref.int (uC (iA (by decide) hx hd h2)).symm
     · refine rF kJ [(20,tt),(25,.cptr [.i6 (xs.getD j 0:Int)] 0),(29,.cptr [.i6 (ys.getD j 0:Int)] 0),(31,tt),(34,.cptr [.i6 (xs.getD j 0:Int)] 0),(38,.cptr [.i6 (ys.getD j 0:Int)] 0),(40,ff)] (.c6 (iT v0) (Ref.cd64 o.1) (nn j) o.2.1 (Ref.cd64 o.2.2.1) (nn j) (.c6 o.2.2.2 (jT v1) (Ref.cd64 o.1) (nn j) o.2.1 (Ref.cd64 o.2.2.1) (.a3 (nn j) o.2.2.2 (iF (om (¬ (((xs.getD j 0:Nat):Int)<(ys.getD j 0:Int)))))))) (V:=.i6 (1:Int)) ?_
       exact Ref.int (uD (iA (by decide) hy hd.symm (by omega))).symm
theorem LL:bO 221 OC:=fun args r ob h ho=>by
 unfold OC at h
 split at h
 · rename_i n B m C
   cases h;obtain⟨hx,hxn⟩:=aQ (b:=b10k) (by decide) n;obtain⟨hy,hyn⟩:=aQ (b:=b10k) (by decide) m;refine af Tryz.f221 fun S w0=> ?_
   refine Good.weak 41 [(0,.list 1 (aO (aD b10k n))),(1,.list 1 (aO (aD b10k m)))] (by kernel_rfl) (.cons Ref.opnd (.cons Ref.opnd .nil)) ?_;refine Good.len 0 (e:=1) (xs:=aO (aD b10k n)) (by rfl) fun hb=> ?_
   rw[aL] at hb;generalize aD b10k n=xs at*;generalize aD b10k m=ys at*;subst hxn;subst hyn
   by_cases h1:xs.length=ys.length
   · refine gN kJ [0,1,4,5] [(10,ff),(18,.i6 ((((aO xs).length:Nat):Int)-(1:Int)))] (.a2 (jF (show((aO xs).length:Int)=((aO ys).length:Int) by simp only[aL];omega)) (wI ((((aO xs).length:Nat):Int)-(1:Int)) ((((aO xs).length:Nat):Int)-(1:Int)) (by simp only[aL];unfold big at hb;omega))) (t:=LK) (σ:=slots 41 [(0,.list 1 (aO xs)),(1,.list 1 (aO ys)),(4,.i6 (0:Int)),(5,(.i6 ((((aO xs).length:Nat):Int)-(1:Int))))]) (h:=[]) ?_
     rw[aL];refine Good.weak 41 [(0,_),(1,_),(5,_)] (by kernel_rfl) (.r (.r (.r .nil))) ?_;exact Ji h1 hx.1 hy.1 hb xs.length (rl _) (by rw[List.drop_length,h1,List.drop_length])
   · have v0:¬ ((((aO xs).length:Nat):Int)=((aO ys).length:Int)):=by simp only[aL];omega
     by_cases h2:xs.length<ys.length
     · refine rF kJ [(10,tt),(15,tt)] (.a2 (jT v0) (iT (show((aO xs).length:Int)<((aO ys).length:Int) by simp only[aL];omega))) (V:=.i6 (-1:Int)) ?_
       exact Ref.int (uC (eI (by decide) hx hy h2)).symm
     · refine rF kJ [(10,tt),(15,ff)] (.a2 (jT v0) (iF (show ¬ ((((aO xs).length:Nat):Int)<((aO ys).length:Int)) by simp only[aL];omega))) (V:=.i6 (1:Int)) ?_
       exact Ref.int (uD (eI (by decide) hy hx (by omega))).symm
 · cases h
end
end Go.Av
namespace Go.Av
open Go.RowKit
def FV:List Nat->AV
 | []=>.nil
 | d::ds=>.own 0 1 0 (ds.length+1)
def FW:List Nat->List (Option ABlk)
 | []=>[]
 | d::ds=>[some ⟨3,1,true,aO (d::ds),none⟩]
theorem yT (ds:List Nat) (v:Nat):FV (ds++ [v])= .own 0 1 0 (ds.length+1):=by
 cases ds <;> simp[FV]
theorem yU (ds:List Nat) (v:Nat):FW (ds++ [v])= [some ⟨3,1,true,aO (ds++ [v]),none⟩]:=by
 cases ds <;> simp[FW]
theorem Ref.nilL {e:Nat}:Ref .nil (.list e []):=fun ρ S w D v h=>by
 have h':RelCs ρ S w D [.nil] [v]:=h;cases h' with
 | nil h2=>exact bA (.list (fun _=>[]) (by simp) (by unfold big;omega) (by simp) (by simp) (by simp) h2)
theorem iN (b:Nat) (ds:List Nat) (v:Nat):aJ b (ds++ [v])=aJ b ds+b^ds.length*v:=by
 rw[eW];simp[aJ]
theorem rE {b:Nat} {ds:List Nat} {v:Nat} (h:∀ x∈ds,x<b) (hv:v<b):∀ x∈ds++ [v],x<b:=fun x hx=>by
 rcases List.mem_append.1 hx with h' | h'
 · exact h x h'
 · simp at h';omega
end Go.Av
namespace Go.Av
open Go.Proofs Go.RowKit
def fM:=kn
abbrev kZ (ff:Func):List Item:=[.code (aR [1,1,1,0,0,0] (aA ff)),.inLoop (aR [1,1,1,0,0,0] (aA ff)),.inBlock 0,.code (aR [1,1,1,1] (aA ff))]
abbrev wK (s:Bool) (m:Nat) (ds:List Nat):List (Option ABlk):=[some ⟨64,2,false,[[.bool false,.nil]],none⟩,some ⟨64,2,false,[[.bool s,.own 2 1 0 m]],none⟩,some ⟨3,1,true,(aO ds),none⟩]
abbrev sU (v:Nat):List (Nat×AV):=[(0,(.i6 (-(v:Int)))),(2,(.ptr 0 2 0 0)),(3,(.ptr 1 2 0 0))]
abbrev wL (v:Nat):List (Nat×AV):=[(0,(.i6 (v:Int))),(2,(.ptr 0 2 0 0)),(3,(.ptr 1 2 0 0))]
abbrev FX (s:Bool) (m:Nat) (ds:List Nat):List (Option ABlk):=[some ⟨64,2,false,[[.bool s,.own 2 1 0 m]],none⟩,some ⟨64,2,false,[[.bool s,.own 2 1 0 m]],none⟩,some ⟨3,1,true,(aO ds),none⟩]
section
variable {S0 C0:Nat->Prop} {w0:World} {Post:Value->World->Prop}
theorem FY (s:Bool) (v:Nat) (h1:(v:Int)=(0:Int))
   (hg:Good Tryz.prog 201 S0 C0 w0 Post [.code .ret] ⟨slots 25 (wL v),[some ⟨64,2,false,[[.bool s,.nil]],none⟩,some ⟨64,2,false,[[.bool s,.nil]],none⟩]⟩):
   Good Tryz.prog 201 S0 C0 w0 Post (kZ Tryz.f201) ⟨slots 25 (wL v),[some ⟨64,2,false,[[.bool false,.nil]],none⟩,some ⟨64,2,false,[[.bool s,.nil]],none⟩]⟩:=
 go mixed aX fM 12 none [0,2,3] [(9,(.bool false))] (ob:=[Ref (.bool (!decide ((v:Int)=(0:Int)))) (.bool false)]) (by kernel_rfl)
   (.cons (Ref.bool (congrArg Bool.not (decide_eq_true h1))) (AllP.nil)) hg
theorem FZ (s:Bool) (v:Nat) (h1:(-(v:Int))=(0:Int))
   (hg:Good Tryz.prog 201 S0 C0 w0 Post [.code .ret] ⟨slots 25 (sU v),[some ⟨64,2,false,[[.bool s,.nil]],none⟩,some ⟨64,2,false,[[.bool s,.nil]],none⟩]⟩):
   Good Tryz.prog 201 S0 C0 w0 Post (kZ Tryz.f201) ⟨slots 25 (sU v),[some ⟨64,2,false,[[.bool false,.nil]],none⟩,some ⟨64,2,false,[[.bool s,.nil]],none⟩]⟩:=
 go mixed aX fM 12 none [0,2,3] [(9,(.bool false))] (ob:=[Ref (.bool (!decide ((-(v:Int))=(0:Int)))) (.bool false)]) (by kernel_rfl)
   (.cons (Ref.bool (congrArg Bool.not (decide_eq_true h1))) (AllP.nil)) hg
theorem Ga (s:Bool) (v m:Nat) (ds:List Nat) (h1:¬ ((v:Int)=(0:Int))) (h2:¬ (((v % 10000:Nat):Int)<(0:Int))) (o:(m=(aO ds).length)/\((m+1)*8<=140737488355328)/\(m+1<=big)/\((v:Int)<=9223372036854775807))
   (hg:Good Tryz.prog 201 S0 C0 w0 Post (kZ Tryz.f201) ⟨slots 25 [(0,.i6 ((v/10000:Nat):Int)),(2,.ptr 0 2 0 0),(3,.ptr 1 2 0 0)],[some ⟨64,2,false,[[.bool false,.nil]],none⟩,some ⟨64,2,false,[[.bool s,.own 2 1 0 (m+1)]],none⟩,some ⟨3,1,true,((aO ds)++ [[(AV.int .i64 ((v % 10000:Nat):Int))]]),none⟩]⟩):
   Good Tryz.prog 201 S0 C0 w0 Post (kZ Tryz.f201) ⟨slots 25 (wL v),(wK s m ds)⟩:=
 tN mixed aX fM 23 none [0,2,3] [0,1,4] [(9,(.bool true)),(11,(.i6 ((v % 10000:Nat):Int))),(13,(.bool false)),(23,(.i6 ((v/10000:Nat):Int)))] (ob:=[Ref (.bool (!decide ((v:Int)=(0:Int)))) (.bool true),Ref (.i6 ((v:Int).tmod (10000:Int))) (.i6 ((v % 10000:Nat):Int)),(10000:Int)≠0,Ref (.bool (decide (((v % 10000:Nat):Int)<(0:Int)))) (.bool false),1=1,m=(aO ds).length,(m+1)*8<=140737488355328,m+1<=big,Ref (.i6 (IntKind.i64.wrap ((v:Int).tdiv (10000:Int)))) (.i6 ((v/10000:Nat):Int)),(10000:Int)≠0]) (by decide) (by kernel_rfl)
   (.cons (Ref.bool (congrArg Bool.not (decide_eq_false h1))) (.cons (Ref.rem (a:=v) (b:=10000) rfl rfl) (.cons (by decide) (.cons (Ref.bool (decide_eq_false h2)) (.cons (rfl) (.cons (o.1) (.cons (o.2.1) (.cons (o.2.2.1) (.cons (Ref.quo (a:=v) (b:=10000) rfl rfl (by decide) o.2.2.2) (.cons (by decide) (AllP.nil))))))))))) hg
theorem Gb (s:Bool) (v m:Nat) (ds:List Nat) (h1:(v:Int)=(0:Int))
   (hg:Good Tryz.prog 201 S0 C0 w0 Post [.code .ret] ⟨slots 25 (wL v),(FX s m ds)⟩):
   Good Tryz.prog 201 S0 C0 w0 Post (kZ Tryz.f201) ⟨slots 25 (wL v),(wK s m ds)⟩:=
 go mixed aX fM 12 none [0,2,3] [(9,(.bool false))] (ob:=[Ref (.bool (!decide ((v:Int)=(0:Int)))) (.bool false)]) (by kernel_rfl)
   (.cons (Ref.bool (congrArg Bool.not (decide_eq_true h1))) (AllP.nil)) hg
theorem Gc (s:Bool) (v m:Nat) (ds:List Nat) (h1:¬ ((-(v:Int))=(0:Int))) (h2:(-((v % 10000:Nat):Int))<(0:Int)) (o:(Ref (.i6 ((-(v:Int)).tmod (10000:Int))) (.i6 (-((v % 10000:Nat):Int))))/\(-9223372036854775808<=0-(-((v % 10000:Nat):Int))/\0-(-((v % 10000:Nat):Int))<=9223372036854775807)/\(m=(aO ds).length)/\((m+1)*8<=140737488355328)/\(m+1<=big)/\(Ref (.i6 (IntKind.i64.wrap ((-(v:Int)).tdiv (10000:Int)))) (.i6 (-((v/10000:Nat):Int)))))
   (hg:Good Tryz.prog 201 S0 C0 w0 Post (kZ Tryz.f201) ⟨slots 25 [(0,(.i6 (-((v/10000:Nat):Int)))),(2,.ptr 0 2 0 0),(3,.ptr 1 2 0 0)],[some ⟨64,2,false,[[.bool false,.nil]],none⟩,some ⟨64,2,false,[[.bool s,.own 2 1 0 (m+1)]],none⟩,some ⟨3,1,true,((aO ds)++ [[(AV.int .i64 (0-(-((v % 10000:Nat):Int))))]]),none⟩]⟩):
   Good Tryz.prog 201 S0 C0 w0 Post (kZ Tryz.f201) ⟨slots 25 (sU v),(wK s m ds)⟩:=
 tN mixed aX fM 23 none [0,2,3] [0,1,4] [(9,(.bool true)),(11,(.i6 (-((v % 10000:Nat):Int)))),(13,(.bool true)),(15,(.i6 (0-(-((v % 10000:Nat):Int))))),(23,(.i6 (-((v/10000:Nat):Int))))] (ob:=[Ref (.bool (!decide ((-(v:Int))=(0:Int)))) (.bool true),Ref (.i6 ((-(v:Int)).tmod (10000:Int))) (.i6 (-((v % 10000:Nat):Int))),(10000:Int)≠0,Ref (.bool (decide ((-((v % 10000:Nat):Int))<(0:Int)))) (.bool true),Ref (.i6 (IntKind.i64.wrap (0-(-((v % 10000:Nat):Int))))) (.i6 (0-(-((v % 10000:Nat):Int)))),1=1,m=(aO ds).length,(m+1)*8<=140737488355328,m+1<=big,Ref (.i6 (IntKind.i64.wrap ((-(v:Int)).tdiv (10000:Int)))) (.i6 (-((v/10000:Nat):Int))),(10000:Int)≠0]) (by decide) (by kernel_rfl)
   (.cons (Ref.bool (congrArg Bool.not (decide_eq_false h1))) (.cons (o.1) (.cons (by decide) (.cons (Ref.bool (decide_eq_true h2)) (.cons ((Ref.wr o.2.1).trans (Ref.int (by rfl))) (.cons (rfl) (.cons (o.2.2.1) (.cons (o.2.2.2.1) (.cons (o.2.2.2.2.1) (.cons (o.2.2.2.2.2) (.cons (by decide) (AllP.nil)))))))))))) hg
theorem Gd (s:Bool) (v m:Nat) (ds:List Nat) (h1:¬ ((-(v:Int))=(0:Int))) (h2:¬ ((-((v % 10000:Nat):Int))<(0:Int))) (o:(Ref (.i6 ((-(v:Int)).tmod (10000:Int))) (.i6 (-((v % 10000:Nat):Int))))/\(m=(aO ds).length)/\((m+1)*8<=140737488355328)/\(m+1<=big)/\(Ref (.i6 (IntKind.i64.wrap ((-(v:Int)).tdiv (10000:Int)))) (.i6 (-((v/10000:Nat):Int)))))
   (hg:Good Tryz.prog 201 S0 C0 w0 Post (kZ Tryz.f201) ⟨slots 25 [(0,(.i6 (-((v/10000:Nat):Int)))),(2,.ptr 0 2 0 0),(3,.ptr 1 2 0 0)],[some ⟨64,2,false,[[.bool false,.nil]],none⟩,some ⟨64,2,false,[[.bool s,.own 2 1 0 (m+1)]],none⟩,some ⟨3,1,true,((aO ds)++ [[(AV.int .i64 (-((v % 10000:Nat):Int)))]]),none⟩]⟩):
   Good Tryz.prog 201 S0 C0 w0 Post (kZ Tryz.f201) ⟨slots 25 (sU v),(wK s m ds)⟩:=
 tN mixed aX fM 23 none [0,2,3] [0,1,4] [(9,(.bool true)),(11,(.i6 (-((v % 10000:Nat):Int)))),(13,(.bool false)),(23,(.i6 (-((v/10000:Nat):Int))))] (ob:=[Ref (.bool (!decide ((-(v:Int))=(0:Int)))) (.bool true),Ref (.i6 ((-(v:Int)).tmod (10000:Int))) (.i6 (-((v % 10000:Nat):Int))),(10000:Int)≠0,Ref (.bool (decide ((-((v % 10000:Nat):Int))<(0:Int)))) (.bool false),1=1,m=(aO ds).length,(m+1)*8<=140737488355328,m+1<=big,Ref (.i6 (IntKind.i64.wrap ((-(v:Int)).tdiv (10000:Int)))) (.i6 (-((v/10000:Nat):Int))),(10000:Int)≠0]) (by decide) (by kernel_rfl)
   (.cons (Ref.bool (congrArg Bool.not (decide_eq_false h1))) (.cons (o.1) (.cons (by decide) (.cons (Ref.bool (decide_eq_false h2)) (.cons (rfl) (.cons (o.2.1) (.cons (o.2.2.1) (.cons (o.2.2.2.1) (.cons (o.2.2.2.2) (.cons (by decide) (AllP.nil))))))))))) hg
theorem Ge (s:Bool) (v m:Nat) (ds:List Nat) (h1:(-(v:Int))=(0:Int))
   (hg:Good Tryz.prog 201 S0 C0 w0 Post [.code .ret] ⟨slots 25 (sU v),(FX s m ds)⟩):
   Good Tryz.prog 201 S0 C0 w0 Post (kZ Tryz.f201) ⟨slots 25 (sU v),(wK s m ds)⟩:=
 go mixed aX fM 12 none [0,2,3] [(9,(.bool false))] (ob:=[Ref (.bool (!decide ((-(v:Int))=(0:Int)))) (.bool false)]) (by kernel_rfl)
   (.cons (Ref.bool (congrArg Bool.not (decide_eq_true h1))) (AllP.nil)) hg
end
def OD:KF
 | [.int .i64 n]=>some (.agg [.rz n 64],[(-9223372036854775808:Int)<=n,n<=(9223372036854775807:Int)])
 | _=>none
def sg (g:Bool) (v:Nat):Int:=if g then-(v:Int) else v
theorem AllP.of_nil {l:List Prop} (h:l= []):AllP l:=by rw[h];exact AllP.nil
theorem neg_tmod (v:Nat):Ref (AV.int .i64 ((-((v:Nat):Int)).tmod (10000:Int))) (AV.int .i64 (-((v % 10000:Nat):Int))):=Ref.int (by
 rw[Int.neg_tmod];rfl)
theorem neg_tdiv {v:Nat} (h:v<=9223372036854775808):Ref (AV.int .i64 (IntKind.i64.wrap ((-((v:Nat):Int)).tdiv (10000:Int)))) (AV.int .i64 (-((v/10000:Nat):Int))):=by
 have e:(-((v:Nat):Int)).tdiv (10000:Int)= -((v/10000:Nat):Int):=by rw[Int.neg_tdiv];rfl
 exact Ref.wrI e (by omega)
section
variable {S:Nat->Prop} {w0:World}
noncomputable abbrev ED:List Item:=[.code (aR [1,1,1,0,0,0] (aA Tryz.f201)),.inLoop (aR [1,1,1,0,0,0] (aA Tryz.f201)),.inBlock 0,.code (aR [1,1,1,1] (aA Tryz.f201))]
def zD:List Nat->AV
 | []=>.nil
 | d::ds=>.own 2 1 0 (ds.length+1)
def zH:List Nat->List (Option ABlk)
 | []=>[]
 | d::ds=>[some ⟨3,1,true,aO (d::ds),none⟩]
theorem Jj (ds:List Nat) (v:Nat):zD (ds++ [v])= .own 2 1 0 (ds.length+1):=by cases ds <;> simp[zD]
theorem Jk (ds:List Nat) (v:Nat):zH (ds++ [v])= [some ⟨3,1,true,aO (ds++ [v]),none⟩]:=by cases ds <;> simp[zH]
theorem LM {N:Int} {s:Bool} {ds:List Nat} (hs:s=decide (N<0)) (hd:Dig b10k ds) (hv:aJ b10k ds=N.natAbs) (hB:N.natAbs<2^64) {V:AV}:
   GF 201 S w0 (.agg [.rz N 64]) [.code .ret] ⟨slots 25 [(0,V),(2,.ptr 0 2 0 0),(3,.ptr 1 2 0 0)],[some ⟨64,2,false,[[(.bool s),zD ds]],none⟩,some ⟨64,2,false,[[(.bool s),zD ds]],none⟩]++zH ds⟩:=by
 refine Good.pk 25 [(2,(AV.ptr 0 2 0 0))] ?_;cases ds with
 | nil=>
   refine gE [.agg [AV.bool s,.nil]] (Ref.agg ?_);have h0:N=0:=by simp[aJ] at hv;omega
   subst h0;subst hs;exact RefC.rz0
 | cons d ds=>
   refine Good.freezeD (b:=⟨3,1,true,aO (d::ds),none⟩) 2 (by rfl) (by rfl) .on ?_ ?_
   · have e:qZ 2 ⟨3,1,true,aO (d::ds),none⟩ ((([some ⟨64,2,false,[[(.bool s),zD (d::ds)]],none⟩,some ⟨64,2,false,[[(.bool s),zD (d::ds)]],none⟩]:List (Option ABlk))++zH (d::ds)).set 2 none)= [0+(ds.length+1)<=(aO (d::ds)).length,0+(ds.length+1)<=(aO (d::ds)).length]:=by kernel_rfl
     rw[e];exact .cons (by rw[aL];simp) (.cons (by rw[aL];simp) .nil)
   · refine gE [.agg [AV.bool s,.list 1 (((aO (d::ds)).drop 0).take (ds.length+1))]] (Ref.agg ?_)
     rw[List.drop_zero,gO (by rw[aL];simp)];exact(RefC.tl (RefC.digL hd hv hB)).trans (RefC.mkrz (rl _) hs rfl)
theorem Jl {N:Int} {s g:Bool} (hs:s=decide (N<0)) (hB:N.natAbs<=9223372036854775808):∀ (f v:Nat) (ds:List Nat),v<=f->(∀ x∈ds,x<b10k)->aJ b10k ds+b10k^ds.length*v=N.natAbs->(v=0->ds.getLast?≠some 0)->(g=false->v<=9223372036854775807)->
   GF 201 S w0 (.agg [.rz N 64]) ED ⟨slots 25 [(0,.i6 (sg g v)),(2,.ptr 0 2 0 0),(3,.ptr 1 2 0 0)],[some ⟨64,2,false,[[(.bool false),.nil]],none⟩,some ⟨64,2,false,[[(.bool s),zD ds]],none⟩]++zH ds⟩:=by
 have last:∀ (ds:List Nat),(∀ x∈ds,x<b10k)->aJ b10k ds+b10k^ds.length*0=N.natAbs->ds.getLast?≠some 0->
     GF 201 S w0 (.agg [.rz N 64]) ED ⟨slots 25 [(0,.i6 (sg g 0)),(2,.ptr 0 2 0 0),(3,.ptr 1 2 0 0)],[some ⟨64,2,false,[[(.bool false),.nil]],none⟩,some ⟨64,2,false,[[(.bool s),zD ds]],none⟩]++zH ds⟩:=by
   intro ds hd hv hl;have fin:=fun V=>LM (S:=S) (w0:=w0) (N:=N) (s:=s) (ds:=ds) hs ⟨hd,hl⟩ (by rw[Nat.mul_zero] at hv;omega) (by omega) (V:=V)
   cases ds with
   | nil=>
     cases g with
     | false=>exact FY s 0 rfl (fin _)
     | true=>exact FZ s 0 rfl (fin _)
   | cons d ds=>
     cases g with
     | false=>exact Gb s 0 (ds.length+1) (d::ds) rfl (fin _)
     | true=>exact Ge s 0 (ds.length+1) (d::ds) rfl (fin _)
 intro f
 induction f with
 | zero=>
   intro v ds hf hd hv hl _;have:v=0:=by omega
   subst this;exact last ds hd hv (hl rfl)
 | succ f ih=>
   intro v ds hf hd hv hl hg
   by_cases h0:v=0
   · subst h0;exact last ds hd hv (hl rfl)
   have hlen:ds.length<=4:=by
     have h1:b10k^ds.length*1<=b10k^ds.length*v:=Nat.mul_le_mul_left _ (by omega);have h2:=yP ds.length;have h3:2^(13*ds.length)<2^64:=by omega
     have:=(Nat.pow_lt_pow_iff_right (by decide:1<2)).1 h3;omega
   have hlt:v/10000<=f:=by omega
   have nx:=ih (v/10000) (ds++ [v % 10000]) hlt (rE hd (Nat.mod_lt _ (by decide))) (by
     rw[iN,List.length_append,List.length_singleton,Nat.pow_succ,Nat.mul_assoc,Nat.add_assoc, <- Nat.mul_add];have:v % 10000+b10k*(v/10000)=v:=by unfold b10k;omega
     rw[this];exact hv) (fun h=>by simp;omega) (fun h=>by have:=hg h;omega)
   rw[Jj,Jk] at nx;have E:∀ (e:Int),e=((v % 10000:Nat):Int)->(aO ds)++ [[(AV.int .i64 e)]]=aO (ds++ [v % 10000]):=fun e h=>by rw[h];exact vZ ds _
   have E0:ds= []->∀ (e:Int),e=((v % 10000:Nat):Int)-> [[(AV.int .i64 e)]]=aO (ds++ [v % 10000]):=fun h0 e h=>by rw[h,h0];rfl
   have v0:(10000:Int)≠0:=by decide
   have v1:1*8<=140737488355328:=by decide
   have v2:1<=big:=by unfold big;omega
   cases g with
   | false=>
     have hg:=hg rfl;cases ds with
     | nil=>
       refine gR fM none [0,2,3] [0,1,3] [(9,tt),(11,.i6 ((v % 10000:Nat):Int)),(13,ff),(23,.i6 ((v/10000:Nat):Int))] (.c6 (jT (om (¬ ((v:Int)=(0:Int))))) (show Ref (.i6 ((v:Int).tmod (10000:Int))) (.i6 ((v % 10000:Nat):Int)) from Ref.rem (a:=v) (b:=10000) rfl rfl) v0 (iF (om (¬ (((v % 10000:Nat):Int)<(0:Int))))) r1 (dc (0<1)) (.a4 v1 v2 (show Ref (.i6 (IntKind.i64.wrap ((v:Int).tdiv (10000:Int)))) (.i6 ((v/10000:Nat):Int)) from Ref.quo (a:=v) (b:=10000) rfl rfl (by decide) ((om ((v:Int)<=9223372036854775807)))) v0)) (t:=ED) (σ:=slots 25 [(0,.i6 ((v/10000:Nat):Int)),(2,.ptr 0 2 0 0),(3,.ptr 1 2 0 0)]) (h:=[some ⟨64,2,false,[[.bool false,.nil]],none⟩,some ⟨64,2,false,[[.bool s,.own 2 1 0 1]],none⟩,some ⟨3,1,true,[[.i6 ((v % 10000:Nat):Int)]],none⟩]) ?_
       rw[E0 rfl _ rfl];exact nx
     | cons d ds=>
       simp only[List.length_cons] at hlen;refine Ga s v (ds.length+1) (d::ds) (by omega) (by omega) ⟨by rw[aL];simp,by omega,by unfold big;omega,by omega⟩ ?_;rw[E _ rfl];exact nx
   | true=>
     have hv9:v<=9223372036854775808:=by
       have h1:1*v<=b10k^ds.length*v:=Nat.mul_le_mul_right _ (Nat.pow_pos (by decide));omega
     have v3:¬ ((-(v:Int))=(0:Int)):=by omega
     by_cases hm:v % 10000=0
     · cases ds with
       | nil=>
         refine gR fM none [0,2,3] [0,1,3] [(9,tt),(11,.i6 (-((v % 10000:Nat):Int))),(13,ff),(23,.i6 (-((v/10000:Nat):Int)))] (.c6 (jT v3) (neg_tmod v) v0 (iF (om (¬ ((-((v % 10000:Nat):Int))<(0:Int))))) r1 (dc (0<1)) (.a4 v1 v2 (neg_tdiv hv9) v0)) (t:=ED) (σ:=slots 25 [(0,(.i6 (-((v/10000:Nat):Int)))),(2,.ptr 0 2 0 0),(3,.ptr 1 2 0 0)]) (h:=[some ⟨64,2,false,[[.bool false,.nil]],none⟩,some ⟨64,2,false,[[.bool s,.own 2 1 0 1]],none⟩,some ⟨3,1,true,[[.i6 (-((v % 10000:Nat):Int))]],none⟩]) ?_
         rw[E0 rfl _ (by omega)];exact nx
       | cons d ds=>
         simp only[List.length_cons] at hlen;refine Gd s v (ds.length+1) (d::ds) (by omega) (by omega) ⟨neg_tmod v,by rw[aL];simp,by omega,by unfold big;omega,neg_tdiv hv9⟩ ?_;rw[E _ (by omega)];exact nx
     · cases ds with
       | nil=>
         refine gR fM none [0,2,3] [0,1,3] [(9,tt),(11,.i6 (-((v % 10000:Nat):Int))),(13,tt),(15,.i6 (0-(-((v % 10000:Nat):Int)))),(23,.i6 (-((v/10000:Nat):Int)))] (.c6 (jT v3) (neg_tmod v) v0 (iT (om ((-((v % 10000:Nat):Int))<(0:Int)))) (wI (0-(-((v % 10000:Nat):Int))) (0-(-((v % 10000:Nat):Int)))) r1 (.a5 (dc (0<1)) v1 v2 (neg_tdiv hv9) v0)) (t:=ED) (σ:=slots 25 [(0,(.i6 (-((v/10000:Nat):Int)))),(2,.ptr 0 2 0 0),(3,.ptr 1 2 0 0)]) (h:=[some ⟨64,2,false,[[.bool false,.nil]],none⟩,some ⟨64,2,false,[[.bool s,.own 2 1 0 1]],none⟩,some ⟨3,1,true,[[.i6 (0-(-((v % 10000:Nat):Int)))]],none⟩]) ?_
         rw[E0 rfl _ (by omega)];exact nx
       | cons d ds=>
         simp only[List.length_cons] at hlen;refine Gc s v (ds.length+1) (d::ds) (by omega) (by omega) ⟨neg_tmod v,by omega,by rw[aL];simp,by omega,by unfold big;omega,neg_tdiv hv9⟩ ?_;rw[E _ (by omega)];exact nx
theorem CC:bO 201 OD:=by
 refine cJ Tryz.f201 fun _ _ _ S w0 h ho=> ?_
 unfold OD at h;split at h <;> cases h;rename_i n;obtain⟨o1,o2⟩:=ho.e2;refine gN fM [0,2,3] [] .nil (t:=ED) (σ:=slots 25 [(0,.i6 n),(2,.ptr 0 2 0 0),(3,.ptr 1 2 0 0)]) (h:=[some ⟨64,2,false,[[.bool false,.nil]],none⟩,some ⟨64,2,false,[[.bool (decide (n<(0:Int))),.nil]],none⟩]) ?_
 have:=Jl (S:=S) (w0:=w0) (N:=n) (s:=decide (n<0)) (g:=decide (n<0)) rfl (by omega) n.natAbs n.natAbs [] (rl _) (by simp) (by simp[aJ]) (by simp) (fun h=>by have:=of_decide_eq_false h;omega);have e:sg (decide (n<0)) n.natAbs=n:=vX n;rw[e] at this;exact this
end
def nM:=kn.cons By
def OE:KF
 | [.nat n B,.nat m C]=>some (.nat (n*m) (B+C),[B+C+128<=LIM])
 | _=>none
theorem yV {A P Q x y Y:Nat}:A+P*(x*Y)+P*Q*(x*y)=A+P*(x*(Y+Q*y)):=by
 simp only[Nat.mul_add,Nat.mul_assoc,Nat.mul_comm,Nat.mul_left_comm];omega
section
variable {S:Nat->Prop} {w0:World}
noncomputable abbrev Jm:List Item:=[.code (aR [1,1,0,1,0,0] (aA Tryz.f115)),.inLoop (aR [1,1,0,1,0,0] (aA Tryz.f115)),.inBlock 0,.code (aR [1,1,1] (aA Tryz.f115))]
noncomputable abbrev Gf:List Item:=[.code (aR [1,1,0,1,0,0,1,1,0,0,1,1,0,1,0,0] (aA Tryz.f115)),.inLoop (aR [1,1,0,1,0,0,1,1,0,0,1,1,0,1,0,0] (aA Tryz.f115)),.inBlock 2,.code (aR [1,1,0,1,0,0,1,1,0,0,1,1,1] (aA Tryz.f115)),.inBlock 1,.code (aR [1,1,0,1,0,0,1,1,1] (aA Tryz.f115)),.inLoop (aR [1,1,0,1,0,0] (aA Tryz.f115)),.inBlock 0,.code (aR [1,1,1] (aA Tryz.f115))]
variable {Post:Value->World->Prop}
theorem Gg {xs ys:List Nat} {m i:Nat} (hm:m=xs.length+ys.length) (hi:i<xs.length) (hx:∀ x∈xs,x<b32) (hy:∀ x∈ys,x<b32) (hbig:m+2<=LIM)
   (next:∀ ds:List Nat,ds.length=m->(∀ x∈ds,x<b32)->aJ b32 ds=aJ b32 (xs.take (i+1))*aJ b32 ys->(∀ t,i+1+ys.length<=t->ds.getD t 0=0)->
     Good Tryz.prog 115 S No w0 Post Jm ⟨slots 67 [(1,.list 1 (aI ys)),(5,.own 0 1 0 m),(17,.list 1 (aI xs)),(18,(.i6 (((aI xs).length:Nat):Int))),(19,.i6 ((i+1:Nat):Int))],[some ⟨362,1,true,(aI ds),none⟩]⟩):
   ∀ (j k c:Nat) (ds:List Nat),j=ys.length-k->k<=ys.length->c<b32->ds.length=m->(∀ x∈ds,x<b32)->aJ b32 ds+b32^(i+k)*c=aJ b32 (xs.take i)*aJ b32 ys+b32^i*(xs.getD i 0*aJ b32 (ys.take k))->(∀ t,i+ys.length<=t->ds.getD t 0=0)->
   Good Tryz.prog 115 S No w0 Post Gf ⟨slots 67 [(1,.list 1 (aI ys)),(5,.own 0 1 0 m),(6,.i6 ((i:Nat):Int)),(7,.int .u32 ((xs.getD i 0:Nat):Int)),(8,.int .u64 ((c:Nat):Int)),(17,.list 1 (aI xs)),(18,(.i6 (((aI xs).length:Nat):Int))),(19,.i6 ((i:Nat):Int)),(24,.list 1 (aI ys)),(25,(.i6 (((aI ys).length:Nat):Int))),(26,.i6 ((k:Nat):Int))],[some ⟨362,1,true,(aI ds),none⟩]⟩:=by
 unfold LIM at hbig;have hx1:=bC (b:=b32) (by decide) hx i;have fb:b32=4294967296:=rfl;intro j
 induction j with
 | zero=>
   intro k c ds hj hk hc hd hdl hinv hz;have hk:k=ys.length:=by omega
   subst hk;refine cX (p:=(-9223372036854775808<=(i:Int)+((aI ys).length:Int)/\(i:Int)+((aI ys).length:Int)<=9223372036854775807)/\(0<=(c:Int)/\(c:Int)<=4294967295)/\(((i+(aI ys).length:Nat):Int)<(m:Int))/\(0+(i+(aI ys).length)<(aI ds).length)/\(-9223372036854775808<=(i:Int)+(1:Int)/\(i:Int)+(1:Int)<=9223372036854775807)) (by rw[aB,aB];omega) fun⟨q0,q1,q2,q3,q4⟩=>gN nM [1,5,6,7,8,17,18,19,24,25,26] [(27,ff),(60,.i6 ((i+(aI ys).length:Nat):Int)),(62,.int .u32 (c:Int)),(64,.i6 ((i+1:Nat):Int))] (.c6 (iF (show ¬ ((ys.length:Int)<((aI ys).length:Int)) by rw[aB];omega)) (wI ((i:Int)+((aI ys).length:Int)) ((i+(aI ys).length:Nat):Int) q0) (wV (c:Int) (c:Int) q1) (nn (i+(aI ys).length)) q2 q3 (.a1 (wI ((i:Int)+(1:Int)) ((i+1:Nat):Int) q4))) (t:=Jm) (σ:=slots 67 [(1,.list 1 (aI ys)),(5,.own 0 1 0 m),(6,.i6 (i:Int)),(7,(.int .u32 (((xs.getD i 0):Nat):Int))),(8,.int .u64 (c:Int)),(17,.list 1 (aI xs)),(18,.i6 ((aI xs).length:Int)),(19,.i6 ((i+1:Nat):Int)),(24,.list 1 (aI ys)),(25,.i6 ((aI ys).length:Int)),(26,.i6 (ys.length:Int))]) (h:=[some ⟨362,1,true,((aI ds).set (0+(i+(aI ys).length)) [.int .u32 (c:Int)]),none⟩]) ?_
   refine Good.weak 67 [(1,_),(5,_),(17,_),(18,_),(19,_)] (by kernel_rfl) (.r (.r (.r (.r (.r .nil))))) ?_;rw[eY,Nat.zero_add, @aB ys];rw[gO (rl _)] at hinv;rw[fb] at hc;have h2:=hZ (b:=b32) (xs:=ds) (j:=i+ys.length) (v:=c) (by omega);rw[hz _ (rl _),Nat.mul_zero,Nat.add_zero] at h2;refine next _ (by simp[hd]) (fH hdl (by rw[fb];exact hc)) ?_ (fun t ht=>by rw[dR (by omega)];exact hz t (by omega));rw[h2,hinv,aT,Nat.add_mul,Nat.mul_assoc]
 | succ j ih=>
   intro k c ds hj hk hc hd hdl hinv hz;have hy1:=bC (b:=b32) (by decide) hy k;have ho1:=bC (b:=b32) (by decide) hdl (i+k);have hm1:=sR hx1 hy1;have hcast:((xs.getD i 0:Nat):Int)*((ys.getD k 0:Nat):Int)=((xs.getD i 0*ys.getD k 0:Nat):Int):=by simp
   rw[fb] at hc hx1 hy1 ho1;refine cX (p:=(k<ys.length)/\((k:Int)<((aI ys).length:Int))/\(0<=(((xs.getD i 0):Nat):Int)/\(((xs.getD i 0):Nat):Int)<=18446744073709551615)/\(0<=(ys.getD k 0:Int)/\(ys.getD k 0:Int)<=18446744073709551615)/\(0<=(((xs.getD i 0):Nat):Int)*(ys.getD k 0:Int)/\(((xs.getD i 0):Nat):Int)*(ys.getD k 0:Int)<=18446744073709551615)/\(-9223372036854775808<=(i:Int)+(k:Int)/\(i:Int)+(k:Int)<=9223372036854775807)/\(((i+k:Nat):Int)<(m:Int))/\(0+(i+k)<ds.length)/\(0+(i+k)<(aI ds).length)/\(0<=(ds.getD (0+(i+k)) 0:Int)/\(ds.getD (0+(i+k)) 0:Int)<=18446744073709551615)/\(0<=(((xs.getD i 0)*(ys.getD k 0):Nat):Int)+(ds.getD (0+(i+k)) 0:Int)/\(((xs.getD i 0)*(ys.getD k 0):Nat):Int)+(ds.getD (0+(i+k)) 0:Int)<=18446744073709551615)/\(0<=(c:Int)+(((xs.getD i 0)*(ys.getD k 0)+ds.getD (0+(i+k)) 0:Nat):Int)/\(c:Int)+(((xs.getD i 0)*(ys.getD k 0)+ds.getD (0+(i+k)) 0:Nat):Int)<=18446744073709551615)/\(-9223372036854775808<=(k:Int)+(1:Int)/\(k:Int)+(1:Int)<=9223372036854775807)) ?_ fun⟨q0,q1,q2,q3,q4,q5,q6,q7,q8,q9,q10,q11,q12⟩=>gN nM [1,5,6,7,8,17,18,19,24,25,26] [(27,tt),(29,.cptr [.int .u32 (ys.getD k 0:Int)] 0),(33,.int .u64 (((xs.getD i 0):Nat):Int)),(35,.int .u64 (ys.getD k 0:Int)),(36,.int .u64 (((xs.getD i 0)*(ys.getD k 0):Nat):Int)),(40,.i6 ((i+k:Nat):Int)),(42,.int .u32 (ds.getD (0+(i+k)) 0:Int)),(43,.int .u64 (ds.getD (0+(i+k)) 0:Int)),(44,.int .u64 (((xs.getD i 0)*(ys.getD k 0)+ds.getD (0+(i+k)) 0:Nat):Int)),(45,.int .u64 ((c+(xs.getD i 0)*(ys.getD k 0)+ds.getD (0+(i+k)) 0:Nat):Int)),(49,.i6 ((i+k:Nat):Int)),(51,.int .u32 (((c+(xs.getD i 0)*(ys.getD k 0)+ds.getD (0+(i+k)) 0) % 4294967296:Nat):Int)),(54,.int .u64 (((c+(xs.getD i 0)*(ys.getD k 0)+ds.getD (0+(i+k)) 0)/4294967296:Nat):Int)),(55,.i6 ((k+1:Nat):Int))] (.c6 (iT (show(k:Int)<((aI ys).length:Int) by rw[aB];omega)) (Ref.cd32 q0) (nn k) q1 (wU (((xs.getD i 0):Nat):Int) (((xs.getD i 0):Nat):Int) q2) (wU (ys.getD k 0:Int) (ys.getD k 0:Int) q3) (.c6 (wU ((((xs.getD i 0):Nat):Int)*(ys.getD k 0:Int)) (((xs.getD i 0)*(ys.getD k 0):Nat):Int) q4) (wI ((i:Int)+(k:Int)) ((i+k:Nat):Int) q5) (nn (i+k)) q6 (Ref.cd32h q7) q8 (.c6 (wU (ds.getD (0+(i+k)) 0:Int) (ds.getD (0+(i+k)) 0:Int) q9) (wU ((((xs.getD i 0)*(ys.getD k 0):Nat):Int)+(ds.getD (0+(i+k)) 0:Int)) (((xs.getD i 0)*(ys.getD k 0)+ds.getD (0+(i+k)) 0:Nat):Int) q10) (wU ((c:Int)+(((xs.getD i 0)*(ys.getD k 0)+ds.getD (0+(i+k)) 0:Nat):Int)) ((c+(xs.getD i 0)*(ys.getD k 0)+ds.getD (0+(i+k)) 0:Nat):Int) q11) (wI ((i:Int)+(k:Int)) ((i+k:Nat):Int) q5) (show Ref (.int .u32 (IntKind.u32.wrap ((c+(xs.getD i 0)*(ys.getD k 0)+ds.getD (0+(i+k)) 0:Nat):Int))) (.int .u32 (((c+(xs.getD i 0)*(ys.getD k 0)+ds.getD (0+(i+k)) 0) % 4294967296:Nat):Int)) from Ref.md32 (by first | rfl | omega)) (nn (i+k)) (.a5 q6 q8 (show Ref (.int .u64 (((c+(xs.getD i 0)*(ys.getD k 0)+ds.getD (0+(i+k)) 0:Nat):Int).fdiv (2^(min (32:Int).toNat 64)))) (.int .u64 (((c+(xs.getD i 0)*(ys.getD k 0)+ds.getD (0+(i+k)) 0)/4294967296:Nat):Int)) from Ref.shrc (c:=min (Int.toNat _) _) (by rfl) (by decide)) (dc (0<=(32:Int))) (wI ((k:Int)+(1:Int)) ((k+1:Nat):Int) q12))))) (t:=Gf) (σ:=slots 67 [(1,.list 1 (aI ys)),(5,.own 0 1 0 m),(6,.i6 (i:Int)),(7,(.int .u32 (((xs.getD i 0):Nat):Int))),(8,(.int .u64 (((c+(xs.getD i 0)*(ys.getD k 0)+ds.getD (0+(i+k)) 0)/4294967296:Nat):Int))),(17,.list 1 (aI xs)),(18,.i6 ((aI xs).length:Int)),(19,.i6 (i:Int)),(24,.list 1 (aI ys)),(25,.i6 ((aI ys).length:Int)),(26,.i6 ((k+1:Nat):Int))]) (h:=[some ⟨362,1,true,((aI ds).set (0+(i+k)) [.int .u32 (((c+(xs.getD i 0)*(ys.getD k 0)+ds.getD (0+(i+k)) 0) % 4294967296:Nat):Int)]),none⟩]) ?_
   · simp only[aB,Nat.zero_add,hcast]
     omega
   · rw[eY]
     simp only[Nat.zero_add];refine ih _ _ _ (by omega) (by omega) (by rw[fb];omega) (by simp[hd]) (fH hdl (by rw[fb];omega)) ?_ (fun t ht=>by rw[dR (by omega)];exact hz t ht);have h2:=hZ (b:=b32) (xs:=ds) (j:=i+k) (v:=(c+xs.getD i 0*ys.getD k 0+ds.getD (i+k) 0) % 4294967296) (by omega);rw[show i+(k+1)=i+k+1 by omega,Nat.pow_succ,aT];have h3:=Bs (b:=b32) (V:=aJ b32 ds) (c:=c) rfl h2 hinv;rw[Nat.pow_add] at h3 ⊢;exact h3.trans yV
theorem Gh {xs ys:List Nat} {m E:Nat} (hm:m=xs.length+ys.length) (hx:∀ x∈xs,x<b32) (hy:∀ x∈ys,x<b32) (hbig:m+2<=LIM) (hE:aJ b32 xs*aJ b32 ys<2^E):
   ∀ (j i:Nat) (ds:List Nat),j=xs.length-i->i<=xs.length->ds.length=m->(∀ x∈ds,x<b32)->aJ b32 ds=aJ b32 (xs.take i)*aJ b32 ys->(∀ t,i+ys.length<=t->ds.getD t 0=0)->
     GF 115 S w0 (.nat (aJ b32 xs*aJ b32 ys) E) Jm ⟨slots 67 [(1,.list 1 (aI ys)),(5,.own 0 1 0 m),(17,.list 1 (aI xs)),(18,(.i6 (((aI xs).length:Nat):Int))),(19,.i6 ((i:Nat):Int))],[some ⟨362,1,true,(aI ds),none⟩]⟩:=by
 intro j
 induction j with
 | zero=>
   intro i ds hj hi hd hdl hinv hz;have hi:i=xs.length:=by omega
   subst hi;rw[gO (rl _)] at hinv;obtain⟨q1,q2,q3⟩:=wH (m:=m) hd.symm hE hinv hdl (xs:=[]) rfl;refine rF nM [(20,ff)] (.a4 (iF (show ¬ ((xs.length:Int)<((aI xs).length:Int)) by rw[aB];omega)) (show 0+m<=(aI ds).length by rw[aB];omega) q1 q2) (V:=.nat (aJ b32 (bD (((aI ds).drop 0).take m))) (32*(((aI ds).drop 0).take m).length)) q3
 | succ j ih=>
   intro i ds hj hi hd hdl hinv hz;have v0:(i:Int)<((aI xs).length:Int):=by rw[aB];omega
   refine gN nM [1,4,5,6,7,8,17,18,19,24,25,26] [(20,tt),(22,.cptr [.int .u32 (xs.getD i 0:Int)] 0)] (.a4 (iT v0) (show Ref (.cptr ((aI xs).getD i []) 0) (.cptr [.int .u32 (xs.getD i 0:Int)] 0) from Ref.cd32 ((om (i<xs.length)))) (nn i) v0) (t:=Gf) (σ:=slots 67 [(1,.list 1 (aI ys)),(5,.own 0 1 0 m),(6,.i6 (i:Int)),(7,.int .u32 (xs.getD i 0:Int)),(8,.int .u64 (0:Int)),(17,.list 1 (aI xs)),(18,.i6 ((aI xs).length:Int)),(19,.i6 (i:Int)),(24,.list 1 (aI ys)),(25,.i6 ((aI ys).length:Int)),(26,.i6 (0:Int))]) (h:=[some ⟨362,1,true,(aI ds),none⟩]) ?_
   refine Gg hm (by omega) hx hy hbig (fun D e1 e2 e3 e4=>ih (i+1) D (by omega) (by omega) e1 e2 e3 e4) _ 0 0 ds rfl (by omega) (by decide) hd hdl ?_ hz;simp[aJ,hinv]
theorem Gi:bO 115 OE:=fun args r ob h ho=>by
 unfold OE at h
 split at h
 · rename_i n B m C
   cases h;have hL:B+C+128<=LIM:=ho _ (by simp);unfold LIM at hL;obtain⟨hx,hxn⟩:=aQ (b:=b32) (by decide) n;obtain⟨hy,hyn⟩:=aQ (b:=b32) (by decide) m;refine af Tryz.f115 fun S w0=> ?_
   refine Good.natlt (n:=n) (B:=B) 0 rfl fun hn=>Good.natlt (n:=m) (B:=C) 1 rfl fun hm=> ?_
   refine Good.weak 67 [(0,.list 1 (aI (aD b32 n))),(1,.list 1 (aI (aD b32 m)))] (by kernel_rfl) (.cons Ref.opn (.cons Ref.opn .nil)) ?_;have l1:=hx.len (by rw[hxn];exact hn);have l2:=hy.len (by rw[hyn];exact hm);generalize aD b32 n=xs at*;generalize aD b32 m=ys at*;subst hxn;subst hyn;refine cX (p:=(-9223372036854775808<=((aI xs).length:Int)+((aI ys).length:Int)/\((aI xs).length:Int)+((aI ys).length:Int)<=9223372036854775807)/\(4*(((aI xs).length+(aI ys).length:Nat):Int)<=281474976710656)/\((((aI xs).length+(aI ys).length:Nat):Int)<=(big:Int))) (by simp only[aB];unfold big;omega) fun⟨q0,q1,q2⟩=>gN nM [1,5,17,18,19] [(15,.i6 (((aI xs).length+(aI ys).length:Nat):Int))] (.a5 (wI ((((aI xs).length:Nat):Int)+((aI ys).length:Int)) (((aI xs).length+(aI ys).length:Nat):Int) q0) (rfl:(((aI xs).length+(aI ys).length:Nat):Int)=(((aI xs).length+(aI ys).length:Nat):Int)) (nn ((aI xs).length+(aI ys).length)) q1 q2) (t:=Jm) (σ:=slots 67 [(1,.list 1 (aI ys)),(5,.own 0 1 0 ((aI xs).length+(aI ys).length)),(17,.list 1 (aI xs)),(18,.i6 ((aI xs).length:Int)),(19,.i6 (0:Int))]) (h:=[some ⟨362,1,true,(List.replicate ((aI xs).length+(aI ys).length) [.int .u32 (0:Int)]),none⟩]) ?_
   rw[mF];simp only[aB]
   have:=Gh (S:=S) (w0:=w0) (xs:=xs) (ys:=ys) rfl hx.1 hy.1 (by unfold LIM;omega) (vV hn hm) xs.length 0 (List.replicate (xs.length+ys.length) 0) rfl (by omega) (by simp) (nF (by decide)) (by simp[aJ,nH]) (fun t _=>Bp _ _);simp only[aB] at this;exact this
 · cases h
end
def rG:=kn
end Go.Av
