/- PoseJacobians: a part of its proof. No condition. -/
import Derived.Test.YtbdhgnlabjmnoaaGreatK0
set_option linter.all false
set_option maxRecDepth 100000
set_option autoImplicit true
set_option relaxedAutoImplicit true
namespace Go.Av
open Go.RowKit
def pY (ρ:Nat->Nat):Nat->List ABlk->List (Option ABlk)
 | _,[]=>[]
 | i,b::bs=>some { b with pin:=some (ρ i) }::pY ρ (i+1) bs
def Lu (x:Option ABlk):Option ABlk:=x.map fun b=>{ b with pin:=none }
theorem lQ:∀ {bs:List ABlk} {i l:Nat} {b:ABlk},(pY ρ i bs)[l]? =some (some b)->∃ c,bs[l]? =some c/\b={ c with pin:=some (ρ (i+l)) }
 | [],i,l,b,h=>by simp[pY] at h
 | c::bs,i,0,b,h=>by simp[pY] at h;exact⟨c,rfl,h.symm⟩
 | c::bs,i,l+1,b,h=>by
   simp only[pY,List.getElem?_cons_succ] at h;obtain⟨c',h1,h2⟩:=lQ h;exact⟨c',by simpa using h1,by rw[h2,show i+(l+1)=i+1+l from by omega]⟩
theorem yW:∀ {bs:List ABlk} {i l:Nat} {c:ABlk},bs[l]? =some c->(pY ρ i bs)[l]? =some (some { c with pin:=some (ρ (i+l)) })
 | [],i,l,c,h=>by simp at h
 | c::bs,i,0,c',h=>by simp at h;subst h;rfl
 | c::bs,i,l+1,c',h=>by
   simp only[pY,List.getElem?_cons_succ] at h ⊢;rw[yW h,show i+(l+1)=i+1+l from by omega]
theorem tO:∀ {bs:List ABlk} {i:Nat},(pY ρ i bs).length=bs.length
 | [],_=>rfl
 | c::bs,i=>by simp[pY,tO (bs:=bs)]
section
variable {P:Program} {f:FuncId} {S:Nat->Prop} {w0:World} {T:TT} {ρ:Nat->Nat} {n:Nat}
def yX (S:Nat->Prop) (w0:World) (ρ:Nat->Nat) (n:Nat) (r:AV) (h2:List (Option ABlk)):Value->World->Prop:=fun v w'=>∃ ρ',(∀ l,l<n->ρ' l=ρ l)/\RelV ρ' (Sof S ρ' h2) w' (· <h2.length) r v/\
 (∀ l b,h2[l]? =some (some b)->RelB ρ' (Sof S ρ' h2) w' (· <h2.length) l b/\(l<n\/w0.heap.size<=ρ' l)/\¬ S (ρ' l))/\
 (∀ l l' b b',h2[l]? =some (some b)->h2[l']? =some (some b')->ρ' l=ρ' l'->l=l')/\Chg (fun k=>∃ l,l<n/\k=ρ l) w0 w'
theorem jV (hT:kU P T) (hf:P.funcs[f]? =some fn) (htodo:todo= []\/∃ k,todo= .code .ret::k) (he:Ad T st fn.results.toList=some Vs)
   (hn:(Vs.length==1||Vs.all cT)=true) (hu:st.h.map Lu=h2) (hp:∀ l,l<n->∃ c,st.h[l]? =some (some c)/\c.pin=some (ρ l)) (hw:∀ l,l<n->ρ l<w0.heap.size)
   (href:Ref (mM Vs) r):Good P f S (fun k=>∃ l,l<n/\k=ρ l) w0 (yX S w0 ρ n r h2) todo st:=by
 refine nQ hT hf htodo he (by simpa using hn) fun ρe D a w v R hv=> ?_
 have hget:∀ (l:Nat) (b:ABlk),h2[l]? =some (some b)->∃ c,st.h[l]? =some (some c)/\b={ c with pin:=none }:=by
   intro l b h;rw[<- hu,List.getElem?_map] at h;cases hs:st.h[l]? with
   | none=>rw[hs] at h;cases h
   | some x=>
     rw[hs] at h;simp only[Option.map_some,Lu] at h;injection h with h;obtain⟨c,hc,h⟩:=Option.map_eq_some_iff.1 h;exact⟨c,by rw[hc],h.symm⟩
 have hget':∀ (l:Nat) (c:ABlk),st.h[l]? =some (some c)->h2[l]? =some (some { c with pin:=none }):=by
   intro l c h;rw[<- hu,List.getElem?_map,h];rfl
 have hlen:h2.length=st.h.length:=by rw[<- hu];simp
 have hS:Sof S ρe h2=Sof S ρe st.h:=by
   funext k;apply propext
   constructor
   · rintro(h | ⟨l,b,h,e⟩)
     · exact .inl h
     · obtain⟨c,hc,_⟩:=hget l b h;exact .inr ⟨l,c,hc,e⟩
   · rintro(h | ⟨l,b,h,e⟩)
     · exact .inl h
     · exact .inr ⟨l,_,hget' l b h,e⟩
 have hk:∀ D',Keep ρe (Sof S ρe st.h) w D' ρe (Sof S ρe st.h) w:=fun D'=>Keep.refl _ _ _ _
 have hD:∀ l,D l->l<h2.length:=fun l h=>by rw[hlen];exact R.dlt l h
 refine⟨ρe,fun l hl=> ?_, ?_,fun l b h=> ?_,fun l l' b b' h h' e=> ?_,R.chg⟩
 · obtain⟨c,hc,hp⟩:=hp l hl
   exact(R.mine l c hc).2.2 _ hp
 · rw[hS];exact(href _ _ _ _ _ hv).keep hD (hk _)
 · obtain⟨c,hc,rfl⟩:=hget l b h
   have hm:=R.mine l c hc;refine⟨?_, ?_,hm.2.1⟩
   · rw[hS]
     have:=(R.heap l c hc).2.keep hD (hk _) rfl rfl;exact this
   · rcases hm.1 with ⟨i,hi,e⟩ | h
     · obtain⟨c',hc',hp'⟩:=hp i hi
       have h1:=(R.mine i c' hc').2.2 _ hp'
       have:=R.inj l i c c' hc hc' (by rw[h1];exact e);left;omega
     · exact .inr h
 · obtain⟨c,hc,rfl⟩:=hget l b h
   obtain⟨c',hc',rfl⟩:=hget l' b' h';exact R.inj l l' c c' hc hc' e
theorem lR (hf:P.funcs[f]? =some fn) (hb:fn.body=some c) (hname:(fn.name== "runtime.NumGoroutine")=false)
   (hlen2:h.length<=h2.length)
   (hg:∀ (S:Nat->Prop) (w0:World) (ρ:Nat->Nat),(∀ l,l<h.length->ρ l<w0.heap.size)->
     Good P f S (fun k=>∃ l,l<h.length/\k=ρ l) w0 (yX S w0 ρ h.length r h2) [.code c] ⟨(kC args fn.ntmps).σ,pY ρ 0 h⟩):nD P f args h r h2:=by
 refine⟨⟨fn,hf,hname,by rw[hb];rfl⟩,hlen2,fun S w ρ vals hS hB hinj hargs cs=> ?_⟩
 let b:Frame:={ (default:Frame) with fn:=f,kind:=.normal }
 have hlen:∀ (us:List AV) (vs:List Value),RelVs ρ (Sof S ρ (h.map some)) w (· <h.length) us vs->vs.length=us.length:=by
   intro us
   induction us with
   | nil=>intro vs h;cases vs <;> first | rfl | exact h.elim
   | cons c us ih=>
     intro vs h;cases vs with
     | nil=>exact h.elim
     | cons v vs=>simp[ih vs h.2]
 have hget:∀ (us:List AV) (vs:List Value),RelVs ρ (Sof S ρ (h.map some)) w (· <h.length) us vs->∀ (i:Nat) (v:Value),vs[i]? =some v->RelV ρ (Sof S ρ (h.map some)) w (· <h.length) (us.getD i .any) v:=by
   intro us
   induction us with
   | nil=>intro vs h i v hv;cases vs <;> first | exact h.elim | simp at hv
   | cons c us ih=>
     intro vs h i v hv;cases vs with
     | nil=>exact h.elim
     | cons u vs=>
       cases i with
       | zero=>simp at hv;subst hv;exact RelV.of0 h.1
       | succ i=>exact ih vs h.2 i v (by simpa using hv)
 have hSof:Sof S ρ (pY ρ 0 h)=Sof S ρ (h.map some):=by
   funext k;apply propext
   constructor
   · rintro(h | ⟨l,b,hb,e⟩)
     · exact .inl h
     · obtain⟨c,hc,_⟩:=lQ hb
       exact .inr ⟨l,c,by rw[List.getElem?_map,hc];rfl,e⟩
   · rintro(h | ⟨l,b,hb,e⟩)
     · exact .inl h
     · rw[List.getElem?_map] at hb
       obtain⟨c,hc,hb⟩:=Option.map_eq_some_iff.1 hb;exact .inr ⟨l,_,yW hc,e⟩
 have hlt:∀ l,l<h.length->ρ l<w.heap.size:=by
   intro l hl;obtain⟨⟨arr,h1,_⟩,_⟩:=hB l h[l] (by simp[hl]);exact bB h1
 have R:Rel S (fun k=>∃ l,l<h.length/\k=ρ l) w ρ (· <h.length) ⟨(kC args fn.ntmps).σ,pY ρ 0 h⟩ { tmps:=vals.toArray++Array.replicate (fn.ntmps-vals.toArray.size) undef,defers:=[] } w:={
   defers:=rfl
   len:=by simp[kC,hlen _ _ hargs]
   tmps:=by
     intro t v hv;simp only[kC,hSof];rcases Nat.lt_or_ge t vals.length with h | h
     · rw[Array.getElem?_append_left (by simpa using h)] at hv
       have h2:t<args.length:=by rw[<- hlen _ _ hargs];exact h
       have:=hget _ _ hargs t v (by simpa using hv);simpa[List.getD_eq_getElem?_getD,List.getElem?_append_left h2] using this
     · have h2:args.length<=t:=by rw[<- hlen _ _ hargs];exact h
       have:(args++List.replicate (fn.ntmps-args.length) AV.any).getD t .any= .any:=by
         simp only[List.getD_eq_getElem?_getD,List.getElem?_append_right h2,List.getElem?_replicate]
         split <;> rfl
       rw[this];trivial
   heap:=fun l b hb=>by
     obtain⟨c,hc,rfl⟩:=lQ hb;exact⟨(List.getElem?_eq_some_iff.1 hc).1,by rw[hSof];exact(hB l c hc).1⟩
   inj:=fun l l' b b' hb hb' e=>by
     obtain⟨c,hc,_⟩:=lQ hb;obtain⟨c',hc',_⟩:=lQ hb';exact hinj l l' (List.getElem?_eq_some_iff.1 hc).1 (List.getElem?_eq_some_iff.1 hc').1 e
   lt:=hS
   dlt:=fun l h=>by rw[tO];exact h
   chg:=Chg.refl _ _
   mine:=fun l b hb=>by
     obtain⟨c,hc,rfl⟩:=lQ hb
     exact⟨.inl ⟨l,(List.getElem?_eq_some_iff.1 hc).1,rfl⟩,(hB l c hc).2,fun i hi=>by simp at hi;exact hi⟩ }
 obtain⟨v,w',fr,hP,hsteps,hfn,hleave⟩:=hg S w ρ hlt ρ _ _ w R b cs rfl rfl
 have henter:Frame.enter P f vals.toArray .normal=b.at { tmps:=vals.toArray++Array.replicate (fn.ntmps-vals.toArray.size) undef,defers:=[] } [.code c]:=by
   simp[Frame.enter,Frame.at,hf,hb,b]
 obtain⟨ρ',q1,q2,q3,q4,q5⟩:=hP;exact⟨.returned v,w',fr,⟨v,ρ',rfl,q1,q2,q3,q4,q5⟩,by rw[henter];exact hsteps,hfn,hleave⟩
end
def aA (f:Func):Code:=f.body.getD .skip
def aN:List Nat->Code->Code
 | 0::p,.seq a _=>aN p a
 | _::p,.seq _ b=>aN p b
 | 0::p,.cond _ a _=>aN p a
 | _::p,.cond _ _ b=>aN p b
 | _::p,.block _ c=>aN p c
 | _::p,.loop c=>aN p c
 | _,c=>c
def kD (ids:List Nat):Nat->List AV->List AV
 | _,[]=>[]
 | i,V::σ=>(if ids.contains i then V else .any)::kD ids (i+1) σ
theorem sM:∀ {σ:List AV} {i t:Nat},(kD ids i σ).getD t .any=if ids.contains (i+t) then σ.getD t .any else .any
 | [],i,t=>by simp[kD]
 | V::σ,i,0=>by simp[kD]
 | V::σ,i,t+1=>by
   have:=sM (ids:=ids) (σ:=σ) (i:=i+1) (t:=t);simp only[kD,List.getD_cons_succ,this];rw[show i+1+t=i+(t+1) from by omega]
theorem mN:∀ {σ:List AV} {i:Nat},(kD ids i σ).length=σ.length
 | [],i=>rfl
 | V::σ,i=>by simp[kD,mN]
section
theorem Good.keep (ids:List Nat) (hg:Good P f S0 C0 w0 Post todo ⟨kD ids 0 σ,h⟩):Good P f S0 C0 w0 Post todo ⟨σ,h⟩:=
 hg.map fun ρ D a w R=>⟨ρ,D,R.slots mN fun t=>by
   rw[sM]
   split
   · exact Ref.rfl'
   · exact Ref.any⟩
theorem go (hm:P.follows .mixedOrders=true) (hT:kU P T) (hK:KOK P K) (n:Nat) (stop:Option Nat) (ids:List Nat) (ov:lJ)
   (he:(yE T K stop n todo st ov).map (fun r=>(r.1,kD ids 0 r.2.1.σ,r.2.1.h,r.2.2))=some (todo',σ',h',ob)) (ho:AllP ob)
   (hg:Good P f S0 C0 w0 Post todo' ⟨σ',h'⟩):Good P f S0 C0 w0 Post todo st:=by
 obtain⟨⟨t,s,o⟩,h1,h2⟩:=Option.map_eq_some_iff.1 he;simp only[Prod.mk.injEq] at h2;obtain⟨rfl,rfl,rfl,rfl⟩:=h2;exact uC hm hT hK n h1 ho (hg.keep ids)
theorem Good.fact (t:Nat) (ht:st.σ.getD t .any=V) (hV:(match V with | .any=>false | _=>true)=true) (hp:∀ ρ S w D v,RelV ρ S w D V v->p)
   (hg:p->Good P f S0 C0 w0 Post todo st):Good P f S0 C0 w0 Post todo st:=by
 intro ρ D a w R b cs hb hk;refine hg ?_ ρ D a w R b cs hb hk
 have hlt:t<st.σ.length:=by
   rcases Nat.lt_or_ge t st.σ.length with h | h
   · exact h
   · rw[List.getD_eq_getElem?_getD,List.getElem?_eq_none h] at ht;subst ht;cases hV
 have h2:t<a.tmps.size:=by rw[R.len];exact hlt
 have hv:=R.tmps t a.tmps[t] (by simp[h2]);rw[ht] at hv;exact hp _ _ _ _ _ hv
theorem Good.len (t:Nat) (ht:st.σ.getD t .any= .list e xs) (hg:xs.length<=big->Good P f S0 C0 w0 Post todo st):Good P f S0 C0 w0 Post todo st:=
 Good.fact t ht rfl (fun ρ S w D v hv=>by obtain⟨A,cap,f,hv,g1,g2,_⟩:=jZ hv;omega) hg
theorem Good.natlt (t:Nat) (ht:st.σ.getD t .any= .nat n B) (hg:n<2^B->Good P f S0 C0 w0 Post todo st):Good P f S0 C0 w0 Post todo st:=
 Good.fact t ht rfl (fun ρ S w D v hv=>by
   have h':RelCs ρ S w D [.nat n B] [v]:=hv;cases h' with
   | nat xs h1 h2 h3 h4=>exact h3) hg
theorem bP (hT:kU P T) (hf:P.funcs[f]? =some fn) (t:Nat) (hr:fn.results.toList= [.tmp t]) (htodo:(match todo with | []=>true | .code .ret::_=>true | _=>false)=true)
   (ho:yU (σ.getD t .any)=true) (href:Ref (σ.getD t .any) r):Good P f S0 No w0 (eD S0 w0 r) todo ⟨σ,h⟩:=by
 refine lO hT hf ?_ (Vs:=[σ.getD t .any]) (by rw[hr];rfl) rfl ho href
 revert htodo
 split <;> simp
end
def Bq {α:Type} (f:Nat):List (Nat×α)->Option α
 | []=>none
 | (g,x)::l=>if g=f then some x else Bq f l
abbrev KS:=List (Nat×(List AV->Option (AV×List Prop)))
abbrev KH:=List (Nat×(List AV->List ABlk->Option (AV×List (Option ABlk)×List Prop)))
def KT.of (l:KS) (m:KH):KT:=⟨fun f a=>(Bq f l).bind fun g=>g a,fun f a h=>(Bq f m).bind fun g=>g a h⟩
theorem KOK.nil:KOK P (.of [] []):=⟨(fun _ _ _ _ h=>by cases h),(fun _ _ _ _ _ _ h _=>by cases h)⟩
theorem KOK.cons (h:KOK P (.of l m)) (hg:∀ args r ob,g args=some (r,ob)->AllP ob->tX P f args r):KOK P (.of ((f,g)::l) m):=by
 refine⟨fun f' args r ob he ho=> ?_,h.h⟩;simp only[KT.of,Bq] at he
 split at he
 · rename_i e;subst e;exact hg args r ob he ho
 · exact h.s f' args r ob he ho
theorem KOK.consH (h:KOK P (.of l m)) (hg:∀ args (b:List ABlk) r h2 ob,g args b=some (r,h2,ob)->AllP ob->nD P f args b r h2):KOK P (.of l ((f,g)::m)):=by
 refine⟨h.s,fun f' args b r h2 ob he ho=> ?_⟩;simp only[KT.of,Bq] at he
 split at he
 · rename_i e;subst e;exact hg args b r h2 ob he ho
 · exact h.h f' args b r h2 ob he ho
theorem Ref.eq (h:V=V'):Ref V V':=by subst h;exact Ref.rfl'
theorem Ref.int {k:IntKind} {a b:Int} (h:a=b):Ref (.int k a) (.int k b):=Ref.eq (by rw[h])
theorem Ref.bool (h:a=b):Ref (.bool a) (.bool b):=Ref.eq (by rw[h])
theorem qW {k:IntKind} {x:Int} (h:k.min<=x/\x<=k.max):k.wrap x=x:=by
 unfold IntKind.wrap;obtain⟨h1,h2⟩:=h;cases k <;> simp[IntKind.min,IntKind.max,IntKind.signed,IntKind.bits] at h1 h2 ⊢ <;> omega
theorem Ref.wr {k:IntKind} {x:Int} (h:k.min<=x/\x<=k.max):Ref (.int k (k.wrap x)) (.int k x):=Ref.int (qW h)
theorem vU (n:Nat):IntKind.u32.wrap (n:Int)=((n % 4294967296:Nat):Int):=by
 simp[IntKind.wrap,IntKind.signed,IntKind.bits]
theorem vV (n:Nat):IntKind.u64.wrap (n:Int)=((n % 18446744073709551616:Nat):Int):=by
 simp[IntKind.wrap,IntKind.signed,IntKind.bits]
theorem Ref.md32 {n:Nat} {e:Int} (he:e=(n:Int)):Ref (.int .u32 (IntKind.u32.wrap e)) (.int .u32 ((n % 4294967296:Nat):Int)):=Ref.int (by rw[he,vU])
theorem Ref.md64 {n:Nat} {e:Int} (he:e=(n:Int)):Ref (.int .u64 (IntKind.u64.wrap e)) (.int .u64 ((n % 18446744073709551616:Nat):Int)):=Ref.int (by rw[he,vV])
theorem vW (n m:Nat):((n:Int)).fdiv (m:Int)=((n/m:Nat):Int):=by
 rw[Int.fdiv_eq_ediv_of_nonneg _ (Int.natCast_nonneg m)];rfl
theorem Ref.shrc {k:IntKind} {n m c:Nat} {e:Int} (he:e=(n:Int)) (h:2^c=m):Ref (.int k (e.fdiv (2^c))) (.int k ((n/m:Nat):Int)):=Ref.int (by
 rw[he, <- h,show((2:Int)^c)=((2^c:Nat):Int) by simp,vW])
theorem Af (h:i<xs.length):(aG xs).getD i []= [.int .u32 ((xs.getD i 0:Nat):Int)]:=by
 simp[aG,List.getD_eq_getElem?_getD,h]
theorem Dq (h:i<xs.length):(aM xs).getD i []= [.int .i64 ((xs.getD i 0:Nat):Int)]:=by
 simp[aM,List.getD_eq_getElem?_getD,h]
theorem aB:(aG xs).length=xs.length:=by simp[aG]
theorem aI:(aM xs).length=xs.length:=by simp[aM]
theorem Ref.cd32 (h:i<xs.length):Ref (.cptr ((aG xs).getD i []) 0) (.cptr [.int .u32 ((xs.getD i 0:Nat):Int)] 0):=Ref.eq (by rw[Af h])
theorem Ref.cd32h (h:i<xs.length):Ref (((aG xs).getD i []).headD .any) (.int .u32 ((xs.getD i 0:Nat):Int)):=Ref.eq (by rw[Af h];rfl)
theorem Ref.cd64 (h:i<xs.length):Ref (.cptr ((aM xs).getD i []) 0) (.cptr [.int .i64 ((xs.getD i 0:Nat):Int)] 0):=Ref.eq (by rw[Dq h])
theorem Ref.cd64h (h:i<xs.length):Ref (((aM xs).getD i []).headD .any) (.int .i64 ((xs.getD i 0:Nat):Int)):=Ref.eq (by rw[Dq h];rfl)
def Lv:List Item->Bool
 | []=>true
 | .code .ret::_=>true
 | _=>false
def Mm (T:TT) (K:KT) (rs:List ResultVar) (n:Nat) (todo:List Item) (st:St) (ov:lJ):Option (AV×List Prop):=
 match yE T K none n todo st ov with
 | some (t,s,ob)=>match Ad T s rs with
   | some Vs=>if Lv t&&(Vs.length==1||Vs.all cT)&&yU (mM Vs) then some (mM Vs,ob) else none
   | none=>none
 | none=>none
theorem Ta (hm:P.follows .mixedOrders=true) (hT:kU P T) (hK:KOK P K) (hf:P.funcs[f]? =some fn) (n:Nat) (ov:lJ)
   (he:Mm T K fn.results.toList n todo st ov=some (V,ob)) (ho:AllP ob) (href:Ref V r):Good P f S0 No w0 (eD S0 w0 r) todo st:=by
 unfold Mm at he
 split at he
 · rename_i t s ob' hc
   split at he
   · rename_i Vs hv
     split at he
     · rename_i hcond
       injection he with he;simp only[Prod.mk.injEq] at he;obtain⟨rfl,rfl⟩:=he;simp only[Bool.and_eq_true] at hcond;refine uC hm hT hK n hc ho (lO hT hf ?_ hv hcond.1.2 hcond.2 href);have h1:=hcond.1.1
       match t,h1 with
       | [],_=>exact .inl rfl
       | .code .ret::k,_=>exact .inr ⟨k,rfl⟩
     · cases he
   · cases he
 · cases he
theorem eL (b:Nat):∀ (xs ys:List Nat),aH b (xs++ys)=aH b xs+b^xs.length*aH b ys
 | [],ys=>by simp[aH]
 | x::xs,ys=>by
   simp only[List.cons_append,aH,eL b xs ys,List.length_cons,Nat.pow_succ,Nat.mul_add];rw[Nat.mul_comm (b^xs.length) b,Nat.mul_assoc];omega
theorem dI (hb:0<b):∀ {xs:List Nat},(∀ x∈xs,x<b)->aH b xs<b^xs.length
 | [],_=>by simp[aH]
 | x::xs,h=>by
   have h1:=dI hb (xs:=xs) (fun y hy=>h y (by simp[hy]));have h2:=h x (by simp);simp only[aH,List.length_cons,Nat.pow_succ];have h3:b*(aH b xs+1)<=b*b^xs.length:=Nat.mul_le_mul_left b h1;rw[Nat.mul_comm (b^xs.length) b];rw[Nat.mul_add] at h3;omega
theorem mO:∀ {xs:List Nat},(∀ x∈xs,x=0)->aH b xs=0
 | [],_=>rfl
 | x::xs,h=>by
   rw[aH,h x (by simp),mO (fun y hy=>h y (by simp[hy]))];simp
theorem Ew (h:∀ i,k<=i->i<xs.length->xs.getD i 0=0):aH b (xs.take k)=aH b xs:=by
 have e:xs=xs.take k++xs.drop k:=(List.take_append_drop k xs).symm
 have hz:aH b (xs.drop k)=0:=mO fun x hx=>by
   obtain⟨i,hi,rfl⟩:=List.getElem_of_mem hx;rw[List.length_drop] at hi
   have:=h (k+i) (by omega) (by omega);rw[List.getElem_drop];simpa[List.getD_eq_getElem?_getD,show k+i<xs.length by omega] using this
 rw[e,eL,hz];simp
theorem Dig.take {b k:Nat} {xs:List Nat} (hx:∀ x∈xs,x<b) (hk:k<=xs.length) (h:k=0\/xs.getD (k-1) 0≠0):Dig b (xs.take k):=by
 refine⟨fun x hx'=>hx x (List.mem_of_mem_take hx'),fun hl=> ?_⟩;rcases h with rfl | h
 · simp at hl
 · apply h
   rw[List.getLast?_eq_getElem?,List.length_take,Nat.min_eq_left hk,List.getElem?_take] at hl
   split at hl
   · simp[List.getD_eq_getElem?_getD,hl]
   · cases hl
theorem kX (n:Nat):b32^n=2^(32*n):=by
 rw[show b32=2^32 from rfl, <- Nat.pow_mul]
theorem sN (h:∀ x∈xs,x<b32):aH b32 xs<2^(32*xs.length):=by
 rw[<- kX];exact dI (by decide) h
def aZ (X:List (List AV)):List Nat:=X.map fun
 | [.int _ n]=>n.toNat
 | _=>0
theorem bV (xs:List Nat):aZ (aG xs)=xs:=by
 unfold aZ aG;rw[List.map_map]
 conv=>rhs;rw[<- List.map_id xs]
 exact List.map_congr_left fun x _=>rfl
theorem Ref.nat (h:Dig b32 xs) (hn:aH b32 xs=n) (hB:n<2^B):Ref (.list 1 (aG xs)) (.nat n B):=by
 intro ρ S w D v hv;exact aV (.nat xs h hn hB hv)
theorem Ref.natB (h:n<2^C):Ref (.nat n B) (.nat n C):=by
 intro ρ S w D v hv;have h':RelCs ρ S w D [.nat n B] [v]:=hv;cases h' with
 | nat xs h1 h2 h3 h4=>exact aV (.nat xs h1 h2 h h4)
theorem yY (hb:1<b):∀ (f n:Nat),n<=f->Dig b (vB b f n)/\aH b (vB b f n)=n
 | 0,n,h=>by
   have:n=0:=by omega
   subst this;exact⟨⟨by simp[vB],by simp[vB]⟩,rfl⟩
 | f + 1,n,h=>by
   by_cases hn:n=0
   · subst hn;exact⟨⟨by simp[vB],by simp[vB]⟩,by simp[vB,aH]⟩
   · have hlt:n/b<n:=Nat.div_lt_self (by omega) hb
     obtain⟨⟨h1,h2⟩,h3⟩:=yY hb f (n/b) (by omega);simp only[vB,if_neg hn];refine⟨⟨fun x hx=> ?_,fun hl=> ?_⟩, ?_⟩
     · rcases List.mem_cons.1 hx with rfl | hx
       · exact Nat.mod_lt _ (by omega)
       · exact h1 x hx
     · cases hd:vB b f (n/b) with
       | nil=>
         rw[hd] at hl h3;simp at hl;simp[aH] at h3
         have:=Nat.div_add_mod n b;rw[<- h3,hl] at this;omega
       | cons y ys=>
         rw[hd] at hl h2;rw[List.getLast?_cons_cons] at hl;exact h2 hl
     · rw[aH,h3];have:=Nat.div_add_mod n b;omega
theorem Dig.tail (h:Dig b (x::xs)):Dig b xs:=by
 refine⟨fun y hy=>h.1 y (by simp[hy]),fun hl=> ?_⟩;cases xs with
 | nil=>simp at hl
 | cons y ys=>exact h.2 (by rw[List.getLast?_cons_cons];exact hl)
theorem Dig.pos (hb:1<b):∀ {xs:List Nat},Dig b xs->xs≠ []->0<aH b xs
 | [],_,h=>absurd rfl h
 | [x],h,_=>by
   have:x≠0:=fun e=>h.2 (by simp[e])
   simp[aH];omega
 | x::y::ys,h,_=>by
   have:=Dig.pos hb h.tail (by simp);have h2:0<b*aH b (y::ys):=Nat.mul_pos (by omega) this;rw[aH];omega
theorem Dig.uniq (hb:1<b):∀ {xs ys:List Nat},Dig b xs->Dig b ys->aH b xs=aH b ys->xs=ys
 | [],[],_,_,_=>rfl
 | [],y::ys,_,h,e=>by have:=Dig.pos hb h (by simp);simp[aH] at e this;omega
 | x::xs,[],h,_,e=>by have:=Dig.pos hb h (by simp);simp[aH] at e this;omega
 | x ::xs,y::ys,h,k,e=>by
   simp only[aH] at e;have h1:=h.1 x (by simp);have k1:=k.1 y (by simp)
   have hx:x=y:=by
     have:=congrArg (· % b) e;simpa[Nat.mod_eq_of_lt h1,Nat.mod_eq_of_lt k1] using this
   subst hx;have e2:b*aH b xs=b*aH b ys:=by omega
   have:aH b xs=aH b ys:=Nat.eq_of_mul_eq_mul_left (by omega:0<b) e2;rw[Dig.uniq hb h.tail k.tail this]
theorem aO (hb:1<b) (n:Nat):Dig b (aC b n)/\aH b (aC b n)=n:=yY hb n n (Nat.le_refl n)
theorem Ref.opn:Ref (.nat n B) (.list 1 (aG (aC b32 n))):=by
 intro ρ S w D v hv;have h':RelCs ρ S w D [.nat n B] [v]:=hv;cases h' with
 | nat xs h1 h2 h3 h4=>
   obtain⟨g1,g2⟩:=aO (b:=b32) (by decide) n;rw[<- Dig.uniq (by decide) h1 g1 (by rw[h2,g2])];exact h4
theorem vX (xs:List Nat) (i:Nat):(i<xs.length/\xs.take (i+1)=xs.take i++ [xs.getD i 0])\/(xs.length<=i/\xs.take (i+1)=xs.take i/\xs.getD i 0=0):=by
 rcases Nat.lt_or_ge i xs.length with h | h
 · left;exact⟨h,by rw[List.take_add_one];simp[List.getD_eq_getElem?_getD,h]⟩
 · right;exact⟨h,by rw[List.take_of_length_le (by omega),List.take_of_length_le h],by simp[List.getD_eq_getElem?_getD,h]⟩
theorem aQ (b:Nat) (xs:List Nat) (i:Nat):aH b (xs.take (i+1))=aH b (xs.take i)+b^i*xs.getD i 0:=by
 rcases vX xs i with ⟨h,e⟩ | ⟨h,e,z⟩
 · rw[e,eL];simp[aH,Nat.min_eq_left (Nat.le_of_lt h)]
 · rw[e,z];simp
theorem aY {b:Nat} (hb:0<b) {xs:List Nat} (h:∀ x∈xs,x<b) (i:Nat):xs.getD i 0<b:=by
 rw[List.getD_eq_getElem?_getD];rcases Nat.lt_or_ge i xs.length with hi | hi
 · simp only[List.getElem?_eq_getElem hi,Option.getD_some];exact h _ (List.getElem_mem hi)
 · simp[List.getElem?_eq_none hi,hb]
theorem eW {b:Nat} {xs:List Nat} (h:∀ x∈xs,x<b) {i v:Nat} (hv:v<b):∀ x∈xs.set i v,x<b:=fun x hx=>by
 rcases List.mem_or_eq_of_mem_set hx with hx | rfl
 · exact h x hx
 · exact hv
theorem nR {α:Type} (xs:List α) (i:Nat) (v:α):(xs.set i v).take i=xs.take i:=by
 rw[List.take_set,List.set_eq_of_length_le (by rw[List.length_take];omega)]
theorem cZ {xs:List Nat} {i v:Nat} (h:i<xs.length):(xs.set i v).getD i 0=v:=by
 simp[List.getD_eq_getElem?_getD,h]
theorem eN (ds:List Nat) (i v:Nat):(aG ds).set i [AV.int .u32 ((v:Nat):Int)]=aG (ds.set i v):=by simp[aG,List.map_set]
theorem mP (n:Nat):List.replicate n [AV.int .u32 (0:Int)]=aG (List.replicate n 0):=by simp[aG]
theorem FK (ds:List Nat) (n:Nat):(aG ds).take n=aG (ds.take n):=by simp[aG]
theorem Br (ds:List Nat) (n:Nat):(aG ds).drop n=aG (ds.drop n):=by simp[aG]
theorem CA (a b:List Nat):aG a++aG b=aG (a++b):=by simp[aG]
theorem Dig.low (hb:1<b):∀ {xs:List Nat},Dig b xs->xs≠ []->b^(xs.length-1)<=aH b xs
 | [],_,h=>absurd rfl h
 | [x],h,_=>by have:=h.pos hb (by simp);simp only[List.length_singleton,Nat.sub_self,Nat.pow_zero];omega
 | x::y::ys,h,_=>by
   have h1:=Dig.low hb h.tail (by simp);simp only[List.length_cons,Nat.add_sub_cancel] at h1 ⊢;rw[aH,Nat.pow_succ,Nat.mul_comm]
   have:=Nat.mul_le_mul_left b h1;omega
theorem Dig.len (h:Dig b32 xs) (hB:aH b32 xs<2^B):32*xs.length<=B+31:=by
 by_cases hx:xs= []
 · subst hx;simp
 · have h1:=Nat.lt_of_le_of_lt (h.low (by decide) hx) hB
   rw[kX] at h1
   have:=(Nat.pow_lt_pow_iff_right (by decide:1<2)).1 h1;have:0<xs.length:=List.length_pos_iff.2 hx;omega
def LIM:Nat:=17592186044416
theorem nS (hb:0<b):∀ x∈List.replicate n 0,x<b:=fun x hx=>by
 rw[List.mem_replicate] at hx;omega
end Go.Av
namespace Go.Av
open Go.Proofs Go.RowKit
theorem AllP.un {p:Prop} {l:List Prop} (h:AllP (p::l)):p/\AllP l:=⟨h p (by simp),fun x hx=>h x (by simp[hx])⟩
theorem AllP.e2 {p q:Prop} (h:AllP [p,q]):p/\q:=⟨h.un.1,h.un.2.un.1⟩
theorem AllP.e3 {p0 p1 p2:Prop} (h:AllP [p0,p1,p2]):p0/\p1/\p2:=⟨h.un.1,h.un.2.e2⟩
theorem AllP.e4 {p0 p1 p2 p3:Prop} (h:AllP [p0,p1,p2,p3]):p0/\p1/\p2/\p3:=⟨h.un.1,h.un.2.e3⟩
theorem AllP.e5 {p0 p1 p2 p3 p4:Prop} (h:AllP [p0,p1,p2,p3,p4]):p0/\p1/\p2/\p3/\p4:=⟨h.un.1,h.un.2.e4⟩
theorem AllP.e6 {p0 p1 p2 p3 p4 p5:Prop} (h:AllP [p0,p1,p2,p3,p4,p5]):p0/\p1/\p2/\p3/\p4/\p5:=⟨h.un.1,h.un.2.e5⟩
theorem AllP.e7 {p0 p1 p2 p3 p4 p5 p6:Prop} (h:AllP [p0,p1,p2,p3,p4,p5,p6]):p0/\p1/\p2/\p3/\p4/\p5/\p6:=⟨h.un.1,h.un.2.e6⟩
theorem AllP.e8 {p0 p1 p2 p3 p4 p5 p6 p7:Prop} (h:AllP [p0,p1,p2,p3,p4,p5,p6,p7]):p0/\p1/\p2/\p3/\p4/\p5/\p6/\p7:=⟨h.un.1,h.un.2.e7⟩
theorem AllP.e9 {p0 p1 p2 p3 p4 p5 p6 p7 p8:Prop} (h:AllP [p0,p1,p2,p3,p4,p5,p6,p7,p8]):p0/\p1/\p2/\p3/\p4/\p5/\p6/\p7/\p8:=⟨h.un.1,h.un.2.e8⟩
theorem AllP.e10 {p0 p1 p2 p3 p4 p5 p6 p7 p8 p9:Prop} (h:AllP [p0,p1,p2,p3,p4,p5,p6,p7,p8,p9]):p0/\p1/\p2/\p3/\p4/\p5/\p6/\p7/\p8/\p9:=⟨h.un.1,h.un.2.e9⟩
theorem AllP.one {p:Prop} (h:AllP [p]):p:=h p (by simp)
theorem AllP.a1 {p:Prop} (h:p):AllP [p]:=.cons h .nil
section
variable {p q r s t u v:Prop} {l:List Prop}
theorem AllP.a2 (a:p) (b:q):AllP [p,q]:=.cons a (.cons b .nil)
theorem AllP.a3 (a:p) (b:q) (c:r):AllP [p,q,r]:=.cons a (.cons b (.cons c .nil))
theorem AllP.a4 (a:p) (b:q) (c:r) (d:s):AllP [p,q,r,s]:=.cons a (.cons b (.cons c (.cons d .nil)))
theorem AllP.a5 (a:p) (b:q) (c:r) (d:s) (e:t):AllP [p,q,r,s,t]:=.cons a (.cons b (.cons c (.cons d (.cons e .nil))))
theorem AllP.a6 (a:p) (b:q) (c:r) (d:s) (e:t) (f:u):AllP [p,q,r,s,t,u]:=.cons a (.a5 b c d e f)
theorem AllP.c6 (a:p) (b:q) (c:r) (d:s) (e:t) (f:u) (k:AllP l):AllP (p::q::r::s::t::u::l):=.cons a (.cons b (.cons c (.cons d (.cons e (.cons f k)))))
end
section
variable {p:Prop} [Decidable p]
theorem iT (h:p):Ref (.bool (decide p)) (.bool true):=Ref.bool (decide_eq_true h)
theorem iF (h:¬ p):Ref (.bool (decide p)) (.bool false):=Ref.bool (decide_eq_false h)
theorem jT (h:¬ p):Ref (.bool (!decide p)) (.bool true):=Ref.bool (congrArg Bool.not (decide_eq_false h))
theorem jF (h:p):Ref (.bool (!decide p)) (.bool false):=Ref.bool (congrArg Bool.not (decide_eq_true h))
end
abbrev bQ (f:Nat) (k:List AV->Option (AV×List Prop)):Prop:=∀ (args:List AV) (r:AV) (ob:List Prop),k args=some (r,ob)->AllP ob->tX Tryz.prog f args r
theorem cK {f:Nat} {k:List AV->Option (AV×List Prop)} (fn:Func)
   (H:∀ (args:List AV) (r:AV) (ob:List Prop) (S:Nat->Prop) (w0:World),k args=some (r,ob)->AllP ob->Good Tryz.prog f S No w0 (eD S w0 r) [.code (aA fn)] (kC args fn.ntmps))
   (hf:(Tryz.prog.funcs[f]?,fn.body.isSome,fn.name== "runtime.NumGoroutine")=(some fn,true,false):=by kernel_rfl):bQ f k:=by
 simp only[Prod.mk.injEq] at hf;obtain⟨h1,h2,h3⟩:=hf;obtain⟨c,hc⟩:=Option.isSome_iff_exists.1 h2;have hb:aA fn=c:=by unfold aA;rw[hc];rfl
 exact fun args r ob h ho=>Ae h1 hc h3 fun S w0=>hb▸H args r ob S w0 h ho
noncomputable def Jm (f:Nat) (K:KT) (todo:List Item) (st:St) (ov:lJ):Option (AV×List Prop):=
 match Tryz.prog.funcs[f]? with
 | some fn=>Mm Ev K fn.results.toList 999 todo st ov
 | none=>none
theorem rF {K:KT} (hK:KOK Tryz.prog K) (ov:lJ) {f:Nat} {S0:Nat->Prop} {w0:World} {todo:List Item} {st:St} {V r:AV} {ob:List Prop}
   (ho:AllP ob) (href:Ref V r) (he:Jm f K todo st ov=some (V,ob):=by kernel_rfl):Good Tryz.prog f S0 No w0 (eD S0 w0 r) todo st:=by
 unfold Jm at he
 split at he
 · rename_i fn hf
   exact Ta mixed aT hK hf 999 ov he ho href
 · cases he
theorem rR {K:KT} (hK:KOK Tryz.prog K) (ov:lJ) {f:Nat} {S0:Nat->Prop} {w0:World} {todo:List Item} {st:St} {r:AV} {ob:List Prop}
   (ho:AllP ob) (he:Jm f K todo st ov=some (r,ob):=by kernel_rfl):Good Tryz.prog f S0 No w0 (eD S0 w0 r) todo st:=rF hK ov ho Ref.rfl' he
theorem nn (n:Nat):0<=(n:Int):=Int.natCast_nonneg n
abbrev AV.i6 (n:Int):AV:=.int .i64 n
abbrev tt:AV:=.bool true
abbrev ff:AV:=.bool false
section
variable {K:KT} {f:Nat} {S0 C0:Nat->Prop} {w0:World} {Post:Value->World->Prop} {todo t:List Item} {st:St} {σ:List AV} {h:List (Option ABlk)} {ob:List Prop}
theorem gS (hK:KOK Tryz.prog K) (stop:Option Nat) (ids:List Nat) (ov:lJ) (ho:AllP ob) (hg:Good Tryz.prog f S0 C0 w0 Post t ⟨σ,h⟩)
   (he:(yE Ev K stop 999 todo st ov).map (fun r=>(r.1,kD ids 0 r.2.1.σ,r.2.1.h,r.2.2))=some (t,σ,h,ob):=by kernel_rfl):Good Tryz.prog f S0 C0 w0 Post todo st:=go mixed aT hK 999 stop ids ov he ho hg
theorem gN (hK:KOK Tryz.prog K) (ids:List Nat) (ov:lJ) (ho:AllP ob) (hg:Good Tryz.prog f S0 C0 w0 Post t ⟨σ,h⟩)
   (he:(yE Ev K none 999 todo st ov).map (fun r=>(r.1,kD ids 0 r.2.1.σ,r.2.1.h,r.2.2))=some (t,σ,h,ob):=by kernel_rfl):Good Tryz.prog f S0 C0 w0 Post todo st:=go mixed aT hK 999 none ids ov he ho hg
end
theorem wI (a b:Int) (h: -9223372036854775808<=a/\a<=9223372036854775807:=by omega) (e:a=b:=by first | rfl | omega | simp):Ref (.int .i64 (IntKind.i64.wrap a)) (.int .i64 b):=(Ref.wr h).trans (Ref.int e)
theorem wU (a b:Int) (h:0<=a/\a<=18446744073709551615:=by omega) (e:a=b:=by first | rfl | omega | simp):Ref (.int .u64 (IntKind.u64.wrap a)) (.int .u64 b):=(Ref.wr h).trans (Ref.int e)
theorem wV (a b:Int) (h:0<=a/\a<=4294967295:=by omega) (e:a=b:=by first | rfl | omega | simp):Ref (.int .u32 (IntKind.u32.wrap a)) (.int .u32 b):=(Ref.wr h).trans (Ref.int e)
theorem wB (a b:Int) (h:0<=a/\a<=255:=by omega) (e:a=b:=by first | rfl | omega | simp):Ref (.int .u8 (IntKind.u8.wrap a)) (.int .u8 b):=(Ref.wr h).trans (Ref.int e)
theorem cP {p q:Prop} (h:p) (k:p->q):q:=k h
theorem kn:KOK Tryz.prog (.of [] []):=KOK.nil
theorem r1:1=1:=rfl
theorem om (p:Prop) (h:p:=by omega):p:=h
abbrev KF:=List AV->Option (AV×List Prop)
abbrev GF (f:Nat) (S:Nat->Prop) (w0:World) (r:AV) (t:List Item) (s:St):Prop:=Good Tryz.prog f S No w0 (eD S w0 r) t s
theorem bH {α β:Type _} {f:α->β} {l:List α}:(l.map f).length=l.length:=List.length_map ..
theorem mQ {α:Type _} {l:List α} {i:Nat} {a:α}:l.getD i a=l[i]?.getD a:=List.getD_eq_getElem?_getD ..
theorem fQ {α:Type _} {l:List α} {i:Nat} (h:l.length<=i):l.take i=l:=List.take_of_length_le h
theorem VW {α β:Type _} {a c:α} {b d:β}:((a,b)=(c,d))=(a=c/\b=d):=Prod.mk.injEq ..
theorem VX {α:Type _} {a b:List α} {n:Nat} (h:n<a.length):(a++b)[n]? =a[n]? :=List.getElem?_append_left h
theorem VY {α:Type _} {a b:List α} {n:Nat} (h:a.length<=n):(a++b)[n]? =b[n-a.length]? :=List.getElem?_append_right h
theorem Good.pk {P:Program} {f:Nat} {S0 C0:Nat->Prop} {w0:World} {Post:Value->World->Prop} {todo:List Item} {σ:List AV} {h:List (Option ABlk)} (n:Nat) (xs:List (Nat×AV)) (hg:Good P f S0 C0 w0 Post todo ⟨slots n xs,h⟩)
   (he:(σ.length,xs.map fun p=>σ.getD p.1 .any)=(n,xs.map (·.2)):=by kernel_rfl):Good P f S0 C0 w0 Post todo ⟨σ,h⟩:=by
 simp only[Prod.mk.injEq] at he;refine Good.weak n xs he.1 ?_ hg;have h2:=he.2;clear hg he
 induction xs with
 | nil=>exact .nil
 | cons p xs ih=>
   simp only[List.map_cons,List.cons.injEq] at h2;exact .cons (by rw[h2.1];exact Ref.rfl') (ih h2.2)
theorem af {f:Nat} {args:List AV} {r:AV} (fn:Func) (H:∀ (S:Nat->Prop) (w0:World),Good Tryz.prog f S No w0 (eD S w0 r) [.code (aA fn)] (kC args fn.ntmps))
   (hf:(Tryz.prog.funcs[f]?,fn.body.isSome,fn.name== "runtime.NumGoroutine")=(some fn,true,false):=by kernel_rfl):tX Tryz.prog f args r:=
 by
 simp only[Prod.mk.injEq] at hf;obtain⟨h1,h2,h3⟩:=hf;obtain⟨c,hc⟩:=Option.isSome_iff_exists.1 h2;have hb:aA fn=c:=by unfold aA;rw[hc];rfl
 exact Ae h1 hc h3 fun S w0=>hb▸H S w0
theorem rl (n:Nat):n<=n:=Nat.le_refl n
theorem rr {V:AV}:Ref V V:=Ref.rfl'
theorem AllP.r {V:AV} {l:List Prop} (k:AllP l):AllP (Ref V V::l):=.cons Ref.rfl' k
noncomputable def OG (f:Nat) (todo:List Item) (st:St) (Vs:List AV):Option (List AV)×Bool:=
 match Tryz.prog.funcs[f]? with
 | some fn=>(Ad Ev st fn.results.toList,Lv todo&&(Vs.length==1||Vs.all cT)&&yU (mM Vs))
 | none=>(none,false)
theorem gE {f:Nat} {S0:Nat->Prop} {w0:World} {todo:List Item} {st:St} {r:AV} (Vs:List AV) (href:Ref (mM Vs) r) (he:OG f todo st Vs=(some Vs,true):=by kernel_rfl):Good Tryz.prog f S0 No w0 (eD S0 w0 r) todo st:=by
 unfold OG at he
 split at he
 · rename_i fn hf
   simp only[Prod.mk.injEq,Bool.and_eq_true] at he;obtain⟨h1,⟨h2,h3⟩,h4⟩:=he;refine lO aT hf ?_ h1 h3 h4 href
   match todo,h2 with
   | [],_=>exact .inl rfl
   | .code .ret::k,_=>exact .inr ⟨k,rfl⟩
 · cases he
theorem dc (p:Prop) (h:p:=by decide):p:=h
theorem AllP.oe {l m:List Prop} (h:AllP m) (e:l=m:=by kernel_rfl):AllP l:=e▸h
theorem AllP.on {l:List Prop} (e:l= []:=by kernel_rfl):AllP l:=e▸ .nil
theorem dR:LIM=17592186044416:=rfl
end Go.Av
namespace Go.Av
open Go.RowKit
theorem cR (b k:Nat) (xs:List Nat):aH b xs=aH b (xs.take k)+b^k*aH b (xs.drop k):=by
 have h:=eL b (xs.take k) (xs.drop k);rw[List.take_append_drop,List.length_take] at h;rcases Nat.le_total k xs.length with hk | hk
 · rw[Nat.min_eq_left hk] at h;exact h
 · rw[h,List.drop_of_length_le hk];simp[aH]
theorem dA {b:Nat} (hb:0<b) {xs:List Nat} (h:∀ x∈xs,x<b) (k:Nat):aH b (xs.take k)<b^k:=by
 refine Nat.lt_of_lt_of_le (dI hb fun x hx=>h x (List.mem_of_mem_take hx)) ?_;rw[List.length_take];exact Nat.pow_le_pow_right hb (Nat.min_le_left _ _)
theorem cC {b k:Nat} {xs:List Nat} (h:k<xs.length):aH b (xs.drop k)=xs.getD k 0+b*aH b (xs.drop (k+1)):=by
 rw[List.drop_eq_getElem_cons h,aH];simp[List.getD_eq_getElem?_getD,h]
theorem gW:∀ {xs:List Nat} {j v:Nat},j<xs.length->aH b (xs.set j v)+b^j*xs.getD j 0=aH b xs+b^j*v
 | [],j,v,h=>by simp at h
 | x::xs,0,v,_=>by simp[aH];omega
 | x::xs,j+1,v,h=>by
   have:=gW (b:=b) (xs:=xs) (j:=j) (v:=v) (by simpa using h);simp only[List.set_cons_succ,aH,List.getD_cons_succ,Nat.pow_succ];have h2:=congrArg (b*·) this;simp only[Nat.mul_add] at h2;have e1:b^j*b*xs.getD j 0=b*(b^j*xs.getD j 0):=by rw[Nat.mul_comm (b^j) b,Nat.mul_assoc]
   have e2:b^j*b*v=b*(b^j*v):=by rw[Nat.mul_comm (b^j) b,Nat.mul_assoc]
   omega
theorem gX {b k:Nat} (hb:0<b) {xs ys:List Nat} (hx:∀ x∈xs,x<b) (hd:xs.drop (k+1)=ys.drop (k+1)) (h:xs.getD k 0<ys.getD k 0):aH b xs<aH b ys:=by
 rw[cR b (k+1) xs,cR b (k+1) ys,hd,aQ,aQ b ys];have h1:=dA hb hx k;have h2:b^k*(xs.getD k 0+1)<=b^k*ys.getD k 0:=Nat.mul_le_mul_left _ h;rw[Nat.mul_add] at h2;omega
theorem dU (hb:1<b) (hx:Dig b xs) (hy:Dig b ys) (h:xs.length<ys.length):aH b xs<aH b ys:=by
 have h1:=dI (by omega:0<b) hx.1;have h2:=hy.low hb (fun e=>by subst e;simp at h);have h3:b^xs.length<=b^(ys.length-1):=Nat.pow_le_pow_right (by omega) (by omega);omega
theorem dE {xs:List Nat} {i j v:Nat} (h:i≠j):(xs.set i v).getD j 0=xs.getD j 0:=by
 simp[List.getD_eq_getElem?_getD,List.getElem?_set_ne h]
theorem Bs (n j:Nat):(List.replicate n 0).getD j 0=0:=by
 rw[List.getD_eq_getElem?_getD,List.getElem?_replicate];split <;> rfl
theorem nT (b n:Nat):aH b (List.replicate n 0)=0:=mO fun x hx=>by rw[List.mem_replicate] at hx;exact hx.2
theorem vY {b k:Nat} {xs:List Nat} (h:∀ i,k<=i->xs.getD i 0=0):aH b (xs.drop k)=0:=mO fun x hx=>by
 obtain⟨i,hi,rfl⟩:=List.getElem_of_mem hx;rw[List.length_drop] at hi
 have:=h (k+i) (by omega);rw[List.getElem_drop];simpa[List.getD_eq_getElem?_getD,show k+i<xs.length by omega] using this
theorem pB (xs:List Nat) (k i:Nat):(xs.drop k).getD i 0=xs.getD (k+i) 0:=by
 simp[List.getD_eq_getElem?_getD,List.getElem?_drop]
theorem nU {xs:List Nat} {i k v:Nat} (h:i<k):(xs.set i v).drop k=xs.drop k:=by
 rw[List.drop_set];simp[h]
theorem CB (h:n<2^B):32*(aC b32 n).length<=B+31:=by
 obtain⟨h1,h2⟩:=aO (b:=b32) (by decide) n;exact h1.len (by rw[h2];exact h)
def gY (n m:Nat):Int:=if n<m then-1 else if m<n then 1 else 0
theorem uF (h:n<m):gY n m= -1:=by simp[gY,h]
theorem uG (h:m<n):gY n m=1:=by
 have h2:¬ n<m:=by omega
 simp[gY,h2,h]
theorem Dr (n:Nat):gY n n=0:=by simp[gY]
theorem Bt:gY n m<0↔n<m:=by unfold gY;split <;> (try split) <;> omega
theorem bM:0<=gY n m↔m<=n:=by unfold gY;split <;> (try split) <;> omega
theorem pC:gY n m=0↔n=m:=by unfold gY;split <;> (try split) <;> omega
def RefC (cs cs':List AV):Prop:=∀ (ρ:Nat->Nat) (S:Nat->Prop) (w:World) (D:Nat->Prop) (vs:List Value),RelCs ρ S w D cs vs->RelCs ρ S w D cs' vs
theorem RefC.rfl':RefC cs cs:=fun _ _ _ _ _ h=>h
theorem RefC.trans {a b c:List AV} (h:RefC a b) (k:RefC b c):RefC a c:=fun _ _ _ _ _ x=>k _ _ _ _ _ (h _ _ _ _ _ x)
theorem RefC.cons (h:RefC [c] [c']) (k:RefC cs cs'):RefC (c::cs) (c'::cs'):=fun ρ S w D vs x=>by
 obtain⟨h1,h2⟩:=x.cut1
 have:=(h _ _ _ _ _ h1).app (k _ _ _ _ _ h2)
 rwa [List.take_append_drop] at this
theorem RefC.tl {c:AV} {cs cs':List AV} (k:RefC cs cs'):RefC (c::cs) (c::cs'):=RefC.cons .rfl' k
theorem Ref.agg (h:RefC cs cs'):Ref (.agg cs) (.agg cs'):=fun ρ S w D v ⟨vs,e,hr⟩=>⟨vs,e,h _ _ _ _ _ hr⟩
theorem kE (h:n<2^B) (k:B<=C):n<2^C:=Nat.lt_of_lt_of_le h (Nat.pow_le_pow_right (by decide) k)
theorem RefC.nat_le (h:B<=C):RefC (.nat n B::cs) (.nat n C::cs):=fun ρ S w D vs x=>by
 cases x with
 | nat xs h1 h2 h3 h4=>exact .nat xs h1 h2 (kE h3 h) h4
theorem RefC.dig_le (h:B<=C):RefC (.dig n B::cs) (.dig n C::cs):=fun ρ S w D vs x=>by
 cases x with
 | dig xs h1 h2 h3 h4=>exact .dig xs h1 h2 (kE h3 h) h4
theorem RefC.z_le (h:B<=C):RefC (.z n B::cs) (.z n C::cs):=fun ρ S w D vs x=>by
 cases x with
 | z h1=>exact .z ((RefC.tl (RefC.nat_le h)) _ _ _ _ _ h1)
theorem RefC.rz_le (h:B<=C):RefC (.rz n B::cs) (.rz n C::cs):=fun ρ S w D vs x=>by
 cases x with
 | rz h1=>exact .rz ((RefC.tl (RefC.dig_le h)) _ _ _ _ _ h1)
theorem RefC.q_le (h:B<=C):RefC (.q x B::cs) (.q x C::cs):=fun ρ S w D vs y=>by
 cases y with
 | q h1=>exact .q (((RefC.z_le h).trans (RefC.tl (RefC.nat_le h))) _ _ _ _ _ h1)
theorem RefC.rq_le (h:B<=C):RefC (.rq x d B::cs) (.rq x d C::cs):=fun ρ S w D vs y=>by
 cases y with
 | rq h0 h1=>exact .rq h0 (((RefC.rz_le h).trans (RefC.tl (RefC.rz_le h))) _ _ _ _ _ h1)
theorem RefC.nil0:RefC (.nil::cs) (.nat 0 B::cs):=fun ρ S w D vs x=>by
 cases x with
 | nil h=>exact .nat [] ⟨by simp,by simp⟩ rfl (Nat.two_pow_pos B) (.list (fun _=>[]) (by simp[aG]) (by unfold big;omega) (by simp[aG]) (by simp[aG]) (by simp[aG]) h)
theorem RefC.nil0d:RefC (.nil::cs) (.dig 0 B::cs):=fun ρ S w D vs x=>by
 cases x with
 | nil h=>exact .dig [] ⟨by simp,by simp⟩ rfl (Nat.two_pow_pos B) (.list (fun _=>[]) (by simp[aM]) (by unfold big;omega) (by simp[aM]) (by simp[aM]) (by simp[aM]) h)
theorem Ref.nil0:Ref .nil (.nat 0 B):=fun ρ S w D v h=>aV (RefC.nil0 _ _ _ _ _ h)
theorem Ref.nil0d:Ref .nil (.dig 0 B):=fun ρ S w D v h=>aV (RefC.nil0d _ _ _ _ _ h)
theorem Ref.nat_le (h:B<=C):Ref (.nat n B) (.nat n C):=fun ρ S w D v x=>aV (RefC.nat_le h _ _ _ _ _ x)
theorem Ref.dig_le (h:B<=C):Ref (.dig n B) (.dig n C):=fun ρ S w D v x=>aV (RefC.dig_le h _ _ _ _ _ x)
theorem RefC.mkz (hB:B<=E) (hs:s=decide (m<0)) (hn:n=m.natAbs):RefC (.bool s:: .nat n B::cs) (.z m E::cs):=fun ρ S w D vs x=>by
 subst hs;subst hn;exact .z ((RefC.tl (RefC.nat_le hB)) _ _ _ _ _ x)
theorem RefC.mkrz (hB:B<=E) (hs:s=decide (m<0)) (hn:n=m.natAbs):RefC (.bool s:: .dig n B::cs) (.rz m E::cs):=fun ρ S w D vs x=>by
 subst hs;subst hn;exact .rz ((RefC.tl (RefC.dig_le hB)) _ _ _ _ _ x)
theorem RefC.mkq (hB:B<=E) (hC:C<=E) (hn:n=x.num) (hd:d=x.den-1):RefC (.z n B:: .nat d C::cs) (.q x E::cs):=fun ρ S w D vs y=>by
 subst hn;subst hd;exact .q (((RefC.z_le hB).trans (RefC.tl (RefC.nat_le hC))) _ _ _ _ _ y)
theorem RefC.mkrq {x:Rat} {n m:Int} {d B C E:Nat} {cs:List AV} (hB:B<=E) (hC:C<=E) (hn:n=x.num) (hm:m=(d:Int)) (hd:d=x.den\/d=0/\x.den=1):RefC (.rz n B:: .rz m C::cs) (.rq x d E::cs):=fun ρ S w D vs y=>by
 subst hn;subst hm;exact .rq hd (((RefC.rz_le hB).trans (RefC.tl (RefC.rz_le hC))) _ _ _ _ _ y)
theorem RefC.rz0 {B:Nat} {cs:List AV}:RefC (.bool false:: .nil::cs) (.rz 0 B::cs):=(RefC.tl (RefC.nil0d (B:=B))).trans (RefC.mkrz (Nat.le_refl _) (by decide) (by decide))
section
theorem Ds (h:RelCs ρ S w D (.nat n B::cs) vs):n<2^B:=by
 cases h with
 | nat xs h1 h2 h3 h4=>exact h3
theorem qX (h:RelCs ρ S w D (.dig n B::cs) vs):n<2^B:=by
 cases h with
 | dig xs h1 h2 h3 h4=>exact h3
theorem Lw (h:RelCs ρ S w D (.z n B::cs) vs):n.natAbs<2^B:=by
 cases h with
 | z h1=>
   cases h1 with
   | bool h2=>exact Ds h2
theorem CC (h:RelCs ρ S w D (.rz n B::cs) vs):n.natAbs<2^B:=by
 cases h with
 | rz h1=>
   cases h1 with
   | bool h2=>exact qX h2
theorem OH (h:RelCs ρ S w D (.q x B::cs) vs):x.num.natAbs<2^B/\x.den-1<2^B:=by
 cases h with
 | q h1=>exact⟨Lw h1,Ds h1.cut1.2⟩
theorem Mn (h:RelCs ρ S w D (.rq x d B::cs) vs):x.num.natAbs<2^B/\d<2^B/\(d=x.den\/d=0/\x.den=1):=by
 cases h with
 | rq h0 h1=>exact⟨CC h1,by simpa using CC h1.cut1.2,h0⟩
end
section
theorem Good.aggf {P:Program} {f:FuncId} {S0 C0:Nat->Prop} {w0:World} {Post:Value->World->Prop} {todo:List Item} {st:St} (t:Nat) {cs:List AV} {p:Prop} (ht:st.σ.getD t .any= .agg cs) (hp:∀ ρ S w D vs,RelCs ρ S w D cs vs->p) (hg:p->Good P f S0 C0 w0 Post todo st):Good P f S0 C0 w0 Post todo st:=
 Good.fact t ht rfl (fun ρ S w D v hv=>by obtain⟨vs,_,h⟩:=hv;exact hp _ _ _ _ _ h) hg
theorem Good.zlt (t:Nat) (ht:st.σ.getD t .any= .agg (.z n B::cs)) (hg:n.natAbs<2^B->Good P f S0 C0 w0 Post todo st):Good P f S0 C0 w0 Post todo st:=
 Good.aggf t ht (fun _ _ _ _ _ h=>Lw h) hg
theorem Good.rzlt (t:Nat) (ht:st.σ.getD t .any= .agg (.rz n B::cs)) (hg:n.natAbs<2^B->Good P f S0 C0 w0 Post todo st):Good P f S0 C0 w0 Post todo st:=
 Good.aggf t ht (fun _ _ _ _ _ h=>CC h) hg
theorem Good.qlt (t:Nat) (ht:st.σ.getD t .any= .agg (.q x B::cs)) (hg:x.num.natAbs<2^B->x.den-1<2^B->Good P f S0 C0 w0 Post todo st):Good P f S0 C0 w0 Post todo st:=
 Good.aggf t ht (fun _ _ _ _ _ h=>OH h) fun h=>hg h.1 h.2
theorem Good.rqlt (t:Nat) (ht:st.σ.getD t .any= .agg (.rq x d B::cs)) (hg:x.num.natAbs<2^B->d<2^B->(d=x.den\/d=0/\x.den=1)->Good P f S0 C0 w0 Post todo st):Good P f S0 C0 w0 Post todo st:=
 Good.aggf t ht (fun _ _ _ _ _ h=>Mn h) fun h=>hg h.1 h.2.1 h.2.2
end
theorem Ref.tup (h:∀ ρ S w D us,RelVs ρ S w D vs us->RelVs ρ S w D vs' us):Ref (.tup vs) (.tup vs'):=fun ρ S w D v ⟨us,e,hr⟩=>⟨us,e,h _ _ _ _ _ hr⟩
theorem Ref.to0 (h:Ref V V') (hn:cT V=true) (hn':cT V'=true) (x:RelV0 ρ S w D V v):RelV0 ρ S w D V' v:=
 RelV.to0 (h _ _ _ _ _ (RelV.of0 x)) hn'
theorem Ref.tup2 (ha:Ref a a') (hb:Ref b b') (n1:cT a=true) (n2:cT b=true) (n3:cT a'=true) (n4:cT b'=true):Ref (.tup [a,b]) (.tup [a',b']):=
 Ref.tup fun ρ S w D us h=>by
   match us,h with
   | [u,v],⟨h1,h2,_⟩=>exact⟨ha.to0 n1 n3 h1,hb.to0 n2 n4 h2,trivial⟩
def Jn (l:Nat) (b:ABlk):AV->AV
 | .agg cs=>.agg (cs.map (Bd l b))
 | .fn f cs=>.fn f (cs.map (Bd l b))
 | .fnm f ag cs=>.fnm f ag (cs.map (Bd l b))
 | c=>Bd l b c
def Ag (l:Nat) (b:ABlk):AV->List Prop
 | .agg cs=>mG l b cs
 | .fn _ cs=>mG l b cs
 | .fnm _ _ cs=>mG l b cs
 | c=>yI l b c
def Ah (l:Nat) (b:ABlk):List AV->List Prop
 | []=>[]
 | V::σ=>Ag l b V++Ah l b σ
def tZ (l:Nat) (b:ABlk) (c:ABlk):ABlk:=if c.closed then c else { c with elems:=c.elems.map (·.map (Bd l b)) }
def uH (l:Nat) (b:ABlk):List (List AV)->List Prop
 | []=>[]
 | el::es=>mG l b el++uH l b es
def qY (l:Nat) (b:ABlk):List (Option ABlk)->List Prop
 | []=>[]
 | none::h=>qY l b h
 | some c::h=>(if c.closed then [] else uH l b c.elems)++qY l b h
theorem tP:∀ {σ:List AV},AllP (Ah l b σ)->∀ t,AllP (Ag l b (σ.getD t .any))
 | [],_,t=>fun p h=>by simp[Ag,yI] at h
 | V::σ,h,0=>by simpa using (AllP.app h).1
 | V::σ,h,t+1=>by simpa using tP (AllP.app h).2 t
theorem tQ:∀ {es:List (List AV)},AllP (uH l b es)->∀ (i:Nat) (el:List AV),es[i]? =some el->AllP (mG l b el)
 | [],_,i,el,h=>by simp at h
 | e::es,h,0,el,he=>by simp at he;subst he;exact(AllP.app h).1
 | e::es,h,i+1,el,he=>tQ (AllP.app h).2 i el (by simpa using he)
theorem nV:∀ {h:List (Option ABlk)},AllP (qY l b h)->∀ (i:Nat) (c:ABlk),h[i]? =some (some c)->c.closed=false->AllP (uH l b c.elems)
 | [],_,i,c,he,_=>by simp at he
 | none::h,ho,0,c,he,_=>by simp at he
 | some d::h,ho,0,c,he,hc=>by
   simp at he;subst he
   have:=(AllP.app ho).1
   rwa [hc] at this
 | none::h,ho,i+1,c,he,hc=>nV (h:=h) ho i c (by simpa using he) hc
 | some d::h,ho,i+1,c,he,hc=>nV (AllP.app ho).2 i c (by simpa using he) hc
theorem lS (hB:RelB ρ S w D l b) (hc:(b.closed||b.elems.all (·.all noRef))=true) (hS:∀ k,S' k->S k) (hl:¬ S' (ρ l)):
   ∀ {cs:List AV} {vs:List Value},AllP (mG l b cs)->RelCs ρ S w D cs vs->RelCs ρ S' w D (cs.map (Bd l b)) vs
 | [],vs,_,h=>by
   cases h;exact .done
 | c ::cs,vs,ho,h=>by
   obtain⟨o1,o2⟩:=AllP.app ho;obtain⟨h1,h2⟩:=h.cut1;have hk:∀ D',Keep ρ S w D' ρ S' w:=fun D'=>⟨Nat.le_refl _,fun _ _=>⟨rfl,fun arr ty h=>⟨arr,ty,h,Nat.le_refl _⟩⟩,fun k _ hs=>⟨fun h=>hs (hS k h),rfl⟩⟩
   have key:RelCs ρ S' w D [Bd l b c] (vs.take (wd c)):=by
     cases c
     case own k e m n=>
       match vs,h1 with
       | v::vs,h1=>
         have:=qR hB hc hS hl (V:=.own k e m n) (v:=v) o1 h1;simp only[Bd] at this ⊢
         split at this <;> rename_i hh
         · rw[if_pos hh];exact this
         · rw[if_neg hh];exact this
     case ptr k e i o=>
       match vs,h1 with
       | v::vs,h1=>
         have:=qR hB hc hS hl (V:=.ptr k e i o) (v:=v) o1 h1;simp only[Bd] at this ⊢
         split at this <;> rename_i hh
         · rw[if_pos hh];exact this
         · rw[if_neg hh];exact this
     all_goals exact h1.keep _ (fun _ h=>h) (hk _)
   have:=key.app (lS hB hc hS hl o2 h2);rw[List.take_append_drop] at this;exact this
theorem FL (hB:RelB ρ S w D l b) (hc:(b.closed||b.elems.all (·.all noRef))=true) (hS:∀ k,S' k->S k) (hl:¬ S' (ρ l))
   (ho:AllP (Ag l b V)) (h:RelV ρ S w D V v):RelV ρ S' w D (Jn l b V) v:=by
 cases V
 case agg cs=>
   obtain⟨vs,e,hr⟩:=h;exact⟨vs,e,lS hB hc hS hl ho hr⟩
 case fn f cs=>
   have h':RelCs ρ S w D [.fn f cs] [v]:=h;cases h' with
   | fn h1 h2=>exact aV (.fn (lS hB hc hS hl ho h1) .done)
 case fnm f ag cs=>
   have h':RelCs ρ S w D [.fnm f ag cs] [v]:=h;cases h' with
   | fnm h1 h2=>exact aV (.fnm (lS hB hc hS hl ho h1) .done)
 case own k e m n=>exact qR hB hc hS hl (V:=.own k e m n) ho h
 case ptr k e i o=>exact qR hB hc hS hl (V:=.ptr k e i o) ho h
 all_goals exact h.keep (fun _ h=>h) ⟨Nat.le_refl _,fun _ _=>⟨rfl,fun arr ty h=>⟨arr,ty,h,Nat.le_refl _⟩⟩,fun k _ hs=>⟨fun h=>hs (hS k h),rfl⟩⟩
section
theorem Good.freezeD (l:Nat) (hl:h[l]? =some (some b)) (hc:(b.closed||b.elems.all (·.all noRef))=true)
   (ho:AllP (Ah l b σ)) (hoh:AllP (qY l b (h.set l none))) (hg:Good P f S0 C0 w0 Post todo ⟨σ.map (Jn l b),(h.set l none).map (Option.map (tZ l b))⟩):Good P f S0 C0 w0 Post todo ⟨σ,h⟩:=by
 refine hg.map fun ρ D a w R=>⟨ρ,D, ?_⟩
 obtain⟨R',hnl,hS⟩:=R.freeze hl
 have hset:∀ (i:Nat) (c:ABlk),(h.set l none)[i]? =some (some c)->h[i]? =some (some c):=by
   intro i c hc;rw[List.getElem?_set] at hc
   split at hc
   · split at hc <;> cases hc
   · exact hc
 have hget:∀ (i:Nat) (c:ABlk),((h.set l none).map (Option.map (tZ l b)))[i]? =some (some c)->∃ d,(h.set l none)[i]? =some (some d)/\c=tZ l b d:=by
   intro i c hc;rw[List.getElem?_map] at hc;cases hx:(h.set l none)[i]? with
   | none=>rw[hx] at hc;cases hc
   | some x=>
     rw[hx] at hc;simp only[Option.map_some] at hc;injection hc with hc;obtain⟨d,hd,e⟩:=Option.map_eq_some_iff.1 hc;exact⟨d,by rw[hd],e.symm⟩
 have hget':∀ (i:Nat) (d:ABlk),(h.set l none)[i]? =some (some d)->((h.set l none).map (Option.map (tZ l b)))[i]? =some (some (tZ l b d)):=by
   intro i d hd;rw[List.getElem?_map,hd];rfl
 have hSof:Sof S0 ρ ((h.set l none).map (Option.map (tZ l b)))=Sof S0 ρ (h.set l none):=by
   funext k;apply propext
   constructor
   · rintro(h | ⟨i,c,hc,e⟩)
     · exact .inl h
     · obtain⟨d,hd,_⟩:=hget i c hc;exact .inr ⟨i,d,hd,e⟩
   · rintro(h | ⟨i,c,hc,e⟩)
     · exact .inl h
     · exact .inr ⟨i,_,hget' i c hc,e⟩
 have hB:=(R.heap l b hl).2
 exact {
   defers:=R.defers
   len:=by rw[R.len];simp
   tmps:=fun t v hv=>by
     have h1:=FL hB hc hS hnl (tP ho t) (R.tmps t v hv)
     have e:(σ.map (Jn l b)).getD t .any=Jn l b (σ.getD t .any):=by
       simp only[List.getD_eq_getElem?_getD,List.getElem?_map];cases σ[t]? <;> rfl
     simp only[hSof];rw[e];exact h1
   heap:=fun i c hci=>by
     obtain⟨d,hd,rfl⟩:=hget i c hci;simp only[hSof];refine⟨(R'.heap i d hd).1, ?_⟩;cases hcl:d.closed with
     | true=>
       have e:tZ l b d=d:=by unfold tZ;rw[hcl];rfl
       rw[e];exact(R'.heap i d hd).2
     | false=>
       have e:tZ l b d={ d with elems:=d.elems.map (·.map (Bd l b)) }:=by unfold tZ;rw[hcl];rfl
       rw[e];obtain⟨arr,h1,h2,h3⟩:=(R.heap i d (hset i d hd)).2;refine⟨arr,h1,by simpa using h2,fun j el hj=> ?_⟩;rw[List.getElem?_map] at hj;obtain⟨el0,he0,rfl⟩:=Option.map_eq_some_iff.1 hj;have h4:=h3 j el0 he0;simp only[hcl] at h4 ⊢;exact lS hB hc hS hnl (tQ (nV hoh i d hd hcl) j el0 he0) h4
   inj:=fun i j c d hc hd e=>by
     obtain⟨c',hc',_⟩:=hget i c hc;obtain⟨d',hd',_⟩:=hget j d hd;exact R'.inj i j c' d' hc' hd' e
   lt:=R.lt
   dlt:=fun i hi=>by
     have:=R'.dlt i hi;simpa using this
   chg:=R.chg
   mine:=fun i c hci=>by
     obtain⟨d,hd,rfl⟩:=hget i c hci
     have:=R'.mine i d hd;have e:(tZ l b d).pin=d.pin:=by unfold tZ;split <;> rfl
     unfold Cq at this ⊢
     rw[e];exact this }
end
theorem Bu {p o y c x b c' A Y X:Nat} (h1:o+y+c=x+b*c') (h2:A+Y=X+p*c):A+p*o+(Y+p*y)=X+p*x+p*b*c':=by
 have h:=congrArg (p*·) h1;simp only[Nat.mul_add] at h;rw[Nat.mul_assoc];omega
theorem Bw {p o t c xy b V V' A:Nat} (ht:t=c+xy+o) (hV:V'+p*o=V+p*(t % b)) (h:V+p*c=A):V'+p*b*(t/b)=A+p*xy:=by
 have h1:p*t=p*b*(t/b)+p*(t % b):=by
   rw[Nat.mul_assoc, <- Nat.mul_add,Nat.div_add_mod]
 have h2:p*t=p*c+p*xy+p*o:=by rw[ht,Nat.mul_add,Nat.mul_add]
 omega
theorem FM {p o t c x b k A X:Nat} (ht:t=x*k+c) (ho:o=t % b) (h:A+p*c=X*k):A+p*o+p*b*(t/b)=(X+p*x)*k:=by
 have h1:p*t=p*b*(t/b)+p*(t % b):=by
   rw[Nat.mul_assoc, <- Nat.mul_add,Nat.div_add_mod]
 have h2:p*t=p*x*k+p*c:=by rw[ht,Nat.mul_add,Nat.mul_assoc]
 subst ho;rw[Nat.add_mul];omega
theorem FN {p o x y b k A X:Nat} {r0:Nat} (ho:o*k+x % k=x+b*(y % k)) (h:A*k+r0=X+p*(x % k)):(A+p*o)*k+r0=X+p*x+p*b*(y % k):=by
 have h1:=congrArg (p*·) ho;simp only[Nat.mul_add] at h1;rw[Nat.add_mul,Nat.mul_assoc p o k,Nat.mul_assoc p b];omega
theorem sO (hx:x<4294967296) (hy:y<4294967296):x*y<=18446744065119617025:=by
 have:=Nat.mul_le_mul (Nat.le_sub_one_of_lt hx) (Nat.le_sub_one_of_lt hy);omega
theorem CD {b v1 v0 u g r W P w' v v':Nat} (hW:W=u*P+w') (hw:w'<P) (hv:v=(v1*b+v0)*P+v') (hu:∃ u2 u0,u=u2*b+u0/\g*v1+r=u2/\r*b+u0<g*v0):W<g*v:=by
 obtain⟨u2,u0,e,h1,h2⟩:=hu;have e1:g*(v1*b+v0)=g*v1*b+g*v0:=by rw[Nat.mul_add,Nat.mul_assoc]
 have e2:u2*b=g*v1*b+r*b:=by rw[<- h1,Nat.add_mul]
 have h3:u+1<=g*(v1*b+v0):=by omega
 have h4:=Nat.mul_le_mul_right P h3;have e3:g*v=g*(v1*b+v0)*P+g*v':=by rw[hv,Nat.mul_add,Nat.mul_assoc]
 rw[Nat.add_mul] at h4;omega
theorem yZ {b v1 v0 u g r W P w' v v':Nat} (hW:W=u*P+w') (hv:v=(v1*b+v0)*P+v') (hv':v'<P) (hP:b*P<=v) (hg:g<=b)
   (hu:∃ u2 u0,u=u2*b+u0/\g*v1+r=u2/\g*v0<=r*b+u0):g*v<=W+v:=by
 obtain⟨u2,u0,e,h1,h2⟩:=hu;have e1:g*(v1*b+v0)=g*v1*b+g*v0:=by rw[Nat.mul_add,Nat.mul_assoc]
 have e2:u2*b=g*v1*b+r*b:=by rw[<- h1,Nat.add_mul]
 have h3:g*(v1*b+v0)<=u:=by omega
 have h4:=Nat.mul_le_mul_right P h3;have e3:g*v=g*(v1*b+v0)*P+g*v':=by rw[hv,Nat.mul_add,Nat.mul_assoc]
 have h5:g*v'<=b*P:=Nat.mul_le_mul hg (Nat.le_of_lt hv');omega
theorem Bx (hW:W=u*P+w') (hw:w'<P) (hv:v=(v1*b+v0)*P+v') (hb:0<b) (h1:0<v1) (hu:u=u2*b+u0) (h0:u0<b):W<(u2/v1+1)*v:=by
 have h2:u2<(u2/v1+1)*v1:=by
   have:=Nat.div_add_mod u2 v1
   have:=Nat.mod_lt u2 h1;rw[Nat.add_mul,Nat.one_mul,Nat.mul_comm];omega
 have h3:(u2+1)*b<=(u2/v1+1)*v1*b:=Nat.mul_le_mul_right b h2
 have h4:u+1<=(u2/v1+1)*(v1*b+v0):=by
   rw[Nat.mul_add, <- Nat.mul_assoc];rw[Nat.add_mul] at h3;omega
 have h5:=Nat.mul_le_mul_right P h4;have e3:(u2/v1+1)*v=(u2/v1+1)*(v1*b+v0)*P+(u2/v1+1)*v':=by rw[hv,Nat.mul_add,Nat.mul_assoc]
 rw[Nat.add_mul u 1] at h5;omega
def uA (n m:Int):Int:=if n<m then-1 else if m<n then 1 else 0
def kV (x y:Rat):Int:=if x<y then-1 else if y<x then 1 else 0
theorem Jo (x y:Rat):uA (x.num*(y.den:Int)) (y.num*(x.den:Int))=kV x y:=by
 unfold uA kV;simp only[Rat.lt_iff]
theorem jW:kV x y=0↔x=y:=by
 unfold kV;split
 · rename_i h
   have:=Rat.ne_of_lt h;simp[this]
 · rename_i h
   split
   · rename_i h2
     have:=Rat.ne_of_gt h2;simp[this]
   · rename_i h2
     simp only[true_iff];exact Rat.le_antisymm (Rat.not_lt.1 h2) (Rat.not_lt.1 h)
theorem vZ (hn:n<2^B) (hm:m<2^C):n*m<2^(B+C):=by
 rw[Nat.pow_add];rcases Nat.eq_zero_or_pos m with rfl | h
 · simp;exact Nat.mul_pos (Nat.two_pow_pos _) (Nat.two_pow_pos _)
 · exact Nat.mul_lt_mul_of_lt_of_le hn (Nat.le_of_lt hm) (Nat.two_pow_pos _)
theorem sP (hd:d≠0):(mkRat n d).num=n/((n.natAbs.gcd d:Nat):Int):=by
 rw[Rat.num_mkRat,if_neg hd,Nat.gcd_comm]
theorem pD (hd:d≠0):(mkRat n d).den=d/n.natAbs.gcd d:=by
 rw[Rat.den_mkRat,if_neg hd,Nat.gcd_comm]
theorem Ai (hd:d≠0):(mkRat n d).num.natAbs=n.natAbs/n.natAbs.gcd d:=by
 rw[sP hd,Int.natAbs_ediv_of_dvd (by rw[<- Int.dvd_natAbs,Int.ofNat_dvd];exact Nat.gcd_dvd_left _ _),Int.natAbs_natCast]
theorem Ex (hd:d≠0):((mkRat n d).num<0)↔n<0:=by
 rw[sP hd];have hg:0<n.natAbs.gcd d:=Nat.gcd_pos_of_pos_right _ (by omega);constructor
 · intro h
   rcases Int.lt_or_le n 0 with h' | h'
   · exact h'
   · have:=Int.ediv_nonneg h' (Int.natCast_nonneg (n.natAbs.gcd d));omega
 · intro h
   exact Int.ediv_neg_of_neg_of_pos h (by omega)
theorem Mo (a b:Rat):mkRat (a.num*(b.den:Int)+b.num*(a.den:Int)) (a.den*b.den)=a+b:=(Rat.add_def' a b).symm
theorem FO (a b:Rat):mkRat (a.num*b.num) (a.den*b.den)=a*b:=(Rat.mul_def' a b).symm
theorem By (a:Rat):a.den-1+1=a.den:=by have:=a.den_pos;omega
def iL (s:Bool) (n:Nat):Int:=if s then-(n:Int) else n
theorem uI (s:Bool) (n:Nat):decide (iL s n<0)=(s&&decide (0<n)):=by
 cases s
 · simp[iL]
 · by_cases h:0<n <;> simp[iL,h]
theorem wA (s:Bool) (n:Nat):(iL s n).natAbs=n:=by cases s <;> simp[iL]
theorem wC (n:Int):iL (decide (n<0)) n.natAbs=n:=by
 unfold iL;split <;> simp_all <;> omega
theorem Jp (n:Int) (m:Nat):iL (decide (n<0)) (n.natAbs*m)=n*(m:Int):=by
 unfold iL
 by_cases h:n<0
 · simp only[h,decide_true,if_true,Int.natCast_mul]
   rw[<- Int.neg_mul];congr 1;omega
 · simp only[h,decide_false,Bool.false_eq_true,if_false,Int.natCast_mul]
   congr 1;omega
theorem wD (n m:Int):iL (decide (n<0) !=decide (m<0)) (n.natAbs*m.natAbs)=n*m:=by
 have e1:(n.natAbs:Int)=if n<0 then-n else n:=by split <;> omega
 have e2:(m.natAbs:Int)=if m<0 then-m else m:=by split <;> omega
 unfold iL;rw[Int.natCast_mul,e1,e2]
 by_cases h:n<0 <;> by_cases k:m<0 <;> simp[h,k,Int.neg_mul,Int.mul_neg]
theorem FP (a b:Rat) (hb:b≠0):mkRat (iL (decide (a.num<0) !=decide (b.num<0)) (a.num.natAbs*b.den)) (a.den*b.num.natAbs)=a/b:=by
 have hn:b.num≠0:=fun h=>hb (Rat.num_eq_zero.1 h)
 have e:iL (decide (a.num<0) !=decide (b.num<0)) (a.num.natAbs*b.den)=a.num*(b.num.sign*(b.den:Int)):=by
   have e1:(a.num.natAbs:Int)=if a.num<0 then-a.num else a.num:=by split <;> omega
   unfold iL;rw[Int.natCast_mul,e1];rcases Int.lt_or_gt_of_ne hn with h | h
   · rw[Int.sign_eq_neg_one_of_neg h]
     by_cases k:a.num<0 <;> simp[k,h,Int.neg_mul,Int.mul_neg]
   · rw[Int.sign_eq_one_of_pos h]
     have h':¬ b.num<0:=by omega
     by_cases k:a.num<0 <;> simp[k,h',Int.neg_mul,Int.mul_neg]
 rw[e,Rat.div_def, <- FO,Rat.num_inv,Rat.den_inv,if_neg hn]
def bI (X:List (List AV)):List Nat:=X.map fun
 | [.int _ n]=>n.toNat
 | _=>0
theorem bR (xs:List Nat):bI (aM xs)=xs:=by
 unfold bI aM;rw[List.map_map]
 conv=>rhs;rw[<- List.map_id xs]
 exact List.map_congr_left fun x _=>rfl
theorem Ref.dig (h:Dig b10k xs) (hn:aH b10k xs=n) (hB:n<2^B):Ref (.list 1 (aM xs)) (.dig n B):=by
 intro ρ S w D v hv;exact aV (.dig xs h hn hB hv)
theorem Ref.opnd:Ref (.dig n B) (.list 1 (aM (aC b10k n))):=by
 intro ρ S w D v hv;have h':RelCs ρ S w D [.dig n B] [v]:=hv;cases h' with
 | dig xs h1 h2 h3 h4=>
   obtain⟨g1,g2⟩:=aO (b:=b10k) (by decide) n;rw[<- Dig.uniq (by decide) h1 g1 (by rw[h2,g2])];exact h4
theorem Aj (ds:List Nat) (i v:Nat):(aM ds).set i [AV.int .i64 ((v:Nat):Int)]=aM (ds.set i v):=by simp[aM,List.map_set]
theorem Dt (n:Nat):List.replicate n [AV.int .i64 (0:Int)]=aM (List.replicate n 0):=by simp[aM]
theorem FR (ds:List Nat) (n:Nat):(aM ds).take n=aM (ds.take n):=by simp[aM]
theorem wE (a:List Nat) (v:Nat):aM a++ [[AV.int .i64 ((v:Nat):Int)]]=aM (a++ [v]):=by simp[aM]
theorem Ey (n:Nat):b10k^n<=2^(14*n):=by
 rw[Nat.pow_mul];exact Nat.pow_le_pow_left (by decide) n
theorem zA (n:Nat):2^(13*n)<=b10k^n:=by
 rw[Nat.pow_mul];exact Nat.pow_le_pow_left (by decide) n
theorem Ez (h:∀ x∈xs,x<b10k):aH b10k xs<2^(14*xs.length):=Nat.lt_of_lt_of_le (dI (by decide) h) (Ey _)
theorem Dig.len10 (h:Dig b10k xs) (hB:aH b10k xs<2^B):13*xs.length<=B+12:=by
 by_cases hx:xs= []
 · subst hx;simp
 · have h1:=Nat.lt_of_le_of_lt (Nat.le_trans (zA _) (h.low (by decide) hx)) hB
   have:=(Nat.pow_lt_pow_iff_right (by decide:1<2)).1 h1;have:0<xs.length:=List.length_pos_iff.2 hx;omega
theorem gL (b:Nat):aC b 0= []:=rfl
theorem Lx (hb:1<b) (hn:n≠0):aC b n=n % b::aC b (n/b):=by
 obtain⟨h1,h2⟩:=aO hb n;obtain⟨h3,h4⟩:=aO hb (n/b);refine Dig.uniq hb h1 ⟨fun x hx=> ?_,fun hl=> ?_⟩ (by rw[h2,aH,h4];have:=Nat.div_add_mod n b;omega)
 · rcases List.mem_cons.1 hx with rfl | hx
   · exact Nat.mod_lt _ (by omega)
   · exact h3.1 x hx
 · cases hd:aC b (n/b) with
   | nil=>
     rw[hd] at hl h4;simp at hl;simp[aH] at h4
     have:=Nat.div_add_mod n b;rw[<- h4,hl] at this;omega
   | cons y ys=>
     rw[hd,List.getLast?_cons_cons, <- hd] at hl;exact h3.2 hl
theorem CE (hb:1<b):aC b n= []↔n=0:=by
 constructor
 · intro h
   have:=(aO hb n).2;rw[h] at this;exact this.symm
 · rintro rfl;rfl
theorem cJ (hb:1<b):0<(aC b n).length↔0<n:=by
 rw[List.length_pos_iff,ne_eq,CE hb];omega
theorem fV (hb:1<b) (h:n<b^k):(aC b n).length<=k:=by
 obtain⟨h1,h2⟩:=aO hb n
 by_cases hx:aC b n= []
 · rw[hx];simp
 · have h3:=h1.low hb hx
   rw[h2] at h3
   have:=(Nat.pow_lt_pow_iff_right hb).1 (Nat.lt_of_le_of_lt h3 h);have:0<(aC b n).length:=List.length_pos_iff.2 hx;omega
theorem iR (hb:1<b):n<b^(aC b n).length:=by
 obtain⟨h1,h2⟩:=aO hb n
 have:=dI (by omega:0<b) h1.1
 rwa [h2] at this
theorem pE (w n:Nat) (h:n<2^w):(BitVec.ofInt w (n:Int)).toNat=n:=by
 rw[BitVec.ofInt_natCast,BitVec.toNat_ofNat,Nat.mod_eq_of_lt h]
theorem FS {n:Nat} (h:n<2^32):IntKind.u32.wrap (n:Int)=(n:Int):=by
 rw[vU];congr 1;exact Nat.mod_eq_of_lt h
theorem Mp {n:Nat} (h:n<2^64):IntKind.u64.wrap (n:Int)=(n:Int):=by
 rw[vV];congr 1;exact Nat.mod_eq_of_lt h
theorem or32 {a b:Nat} (ha:a<2^32) (hb:b<2^32):IntKind.u32.wrap ((BitVec.ofInt 32 (a:Int)||| BitVec.ofInt 32 (b:Int)).toNat:Int)=((a||| b:Nat):Int):=by
 rw[BitVec.toNat_or,pE 32 a ha,pE 32 b hb,FS (Nat.or_lt_two_pow ha hb)]
theorem or64 {a b:Nat} (ha:a<2^64) (hb:b<2^64):IntKind.u64.wrap ((BitVec.ofInt 64 (a:Int)||| BitVec.ofInt 64 (b:Int)).toNat:Int)=((a||| b:Nat):Int):=by
 rw[BitVec.toNat_or,pE 64 a ha,pE 64 b hb,Mp (Nat.or_lt_two_pow ha hb)]
theorem nW (hc:c<2^k):(2^k*a)||| c=2^k*a+c:=(Nat.two_pow_add_eq_or_of_lt hc a).symm
theorem EA (hk:k<=32) (hx:x<2^32) (hc:c<2^k):
   (x*2^k % 2^32)||| c=(x*2^k+c) % 2^32/\x/2^(32-k)=(x*2^k+c)/2^32/\x/2^(32-k)<2^k:=by
 have e:2^32=2^k*2^(32-k):=by rw[<- Nat.pow_add];congr 1;omega
 have e1:(x*2^k+c)/2^k=x:=by
   rw[Nat.mul_comm,Nat.mul_add_div (Nat.two_pow_pos k),Nat.div_eq_of_lt hc];simp
 have e2:(x*2^k+c) % 2^k=c:=by
   rw[Nat.mul_comm,Nat.mul_add_mod,Nat.mod_eq_of_lt hc]
 refine⟨?_, ?_, ?_⟩
 · have h1:x*2^k % 2^32=2^k*(x % 2^(32-k)):=by rw[e,Nat.mul_comm x,Nat.mul_mod_mul_left]
   have h2:(x*2^k+c) % 2^32=c+2^k*(x % 2^(32-k)):=by rw[e,Nat.mod_mul,e1,e2]
   rw[h1,h2,nW hc];omega
 · rw[e, <- Nat.div_div_eq_div_mul,e1]
 · rw[Nat.div_lt_iff_lt_mul (Nat.two_pow_pos _), <- e];exact hx
theorem EB (hk:k<=32) (hx:x<2^32):
   ((x/2^k)||| (y*2^(32-k) % 2^32))*2^k+x % 2^k=x+2^32*(y % 2^k)/\((x/2^k)||| (y*2^(32-k) % 2^32))<2^32:=by
 have e:2^32=2^k*2^(32-k):=by rw[<- Nat.pow_add];congr 1;omega
 have h1:x/2^k<2^(32-k):=by
   rw[Nat.div_lt_iff_lt_mul (Nat.two_pow_pos _),Nat.mul_comm, <- e];exact hx
 have h2:y*2^(32-k) % 2^32=2^(32-k)*(y % 2^k):=by
   rw[e,Nat.mul_mod_mul_right,Nat.mul_comm]
 have h3:((x/2^k)||| (y*2^(32-k) % 2^32))=2^(32-k)*(y % 2^k)+x/2^k:=by
   rw[h2,Nat.or_comm,nW h1]
 constructor
 · rw[h3,Nat.add_mul,e]
   have:=Nat.div_add_mod x (2^k);rw[Nat.mul_comm (x/2^k)]
   have e3:2^(32-k)*(y % 2^k)*2^k=2^k*2^(32-k)*(y % 2^k):=by
     rw[Nat.mul_comm _ (2^k),Nat.mul_assoc]
   omega
 · rw[h3]
   have:y % 2^k<2^k:=Nat.mod_lt _ (Nat.two_pow_pos _);have h4:2^(32-k)*(y % 2^k+1)<=2^(32-k)*2^k:=Nat.mul_le_mul_left _ this;have e4:2^(32-k)*2^k=2^32:=by rw[Nat.mul_comm, <- e]
   rw[Nat.mul_add,e4] at h4;omega
theorem Jq (v:BitVec (w+1)):v.toNat/2^w=if v.msb then 1 else 0:=by
 rw[BitVec.msb_eq_decide]
 have:=v.isLt;rw[Nat.pow_succ] at this
 by_cases h:2^w<=v.toNat
 · simp only[Nat.add_sub_cancel,h,decide_true,if_true]
   exact Nat.div_eq_of_lt_le (by omega) (by omega)
 · simp only[Nat.add_sub_cancel,h,decide_false,Bool.false_eq_true,if_false]
   exact Nat.div_eq_of_lt (by omega)
theorem FT (hx:x<2^32) (hy:y<2^32) (hc:c<=1):
   ((~~~(BitVec.ofNat 32 x)&&& BitVec.ofNat 32 y)||| (~~~(BitVec.ofNat 32 x^^^BitVec.ofNat 32 y)&&& BitVec.ofNat 32 (x+2^32+2^32-y-c))).toNat/2^31=if x<y+c then 1 else 0:=by
 rw[show ∀ v:BitVec 32,v.toNat/2^31=if v.msb then 1 else 0 from fun v=>Jq (w:=31) v];have e1:x % 2^32=x:=Nat.mod_eq_of_lt hx;have e2:y % 2^32=y:=Nat.mod_eq_of_lt hy;have m1:(BitVec.ofNat 32 x).msb=decide (2^(32-1)<=x):=by rw[BitVec.msb_eq_decide,BitVec.toNat_ofNat,e1]
 have m2:(BitVec.ofNat 32 y).msb=decide (2^(32-1)<=y):=by rw[BitVec.msb_eq_decide,BitVec.toNat_ofNat,e2]
 have m3:(BitVec.ofNat 32 (x+2^32+2^32-y-c)).msb=decide (2^(32-1)<=(x+2^32+2^32-y-c) % 2^32):=by rw[BitVec.msb_eq_decide,BitVec.toNat_ofNat]
 have m4:((~~~(BitVec.ofNat 32 x)&&& BitVec.ofNat 32 y)||| (~~~(BitVec.ofNat 32 x^^^BitVec.ofNat 32 y)&&& BitVec.ofNat 32 (x+2^32+2^32-y-c))).msb=((!decide (2^(32-1)<=x)&&decide (2^(32-1)<=y))||(!(decide (2^(32-1)<=x)^^decide (2^(32-1)<=y))&&decide (2^(32-1)<=(x+2^32+2^32-y-c) % 2^32))):=by
   rw[BitVec.msb_or,BitVec.msb_and,BitVec.msb_and,BitVec.msb_not,BitVec.msb_not,BitVec.msb_xor,m1,m2,m3];simp
 rw[m4]
 by_cases h1:2^(32-1)<=x <;> by_cases h2:2^(32-1)<=y <;> by_cases h3:2^(32-1)<=(x+2^32+2^32-y-c) % 2^32 <;> by_cases h4:x<y+c <;> simp[h1,h2,h3,h4] <;> omega
theorem Ref.quo {k:IntKind} {a b:Nat} {x y:Int} (hx:x=(a:Int)) (hy:y=(b:Int)) (hk:k.min<=0) (h:(a:Int)<=k.max):Ref (.int k (k.wrap (x.tdiv y))) (.int k ((a/b:Nat):Int)):=Ref.int (by
 have e:x.tdiv y=((a/b:Nat):Int):=by rw[hx,hy];rfl
 rw[e,qW]
 exact⟨Int.le_trans hk (Int.natCast_nonneg _),Int.le_trans (Int.ofNat_le.2 (Nat.div_le_self a b)) h⟩)
theorem Ref.rem {k:IntKind} {a b:Nat} {x y:Int} (hx:x=(a:Int)) (hy:y=(b:Int)):Ref (.int k (x.tmod y)) (.int k ((a % b:Nat):Int)):=Ref.int (by rw[hx,hy];rfl)
theorem Ref.shrv {i:IntKind} {x k c:Nat} (h:k<=c):Ref (.int i ((x:Int).fdiv (2^(min (k:Int).toNat c)))) (.int i ((x/2^k:Nat):Int)):=Ref.int (by
 rw[Int.toNat_natCast,Nat.min_eq_left h,show((2:Int)^k)=((2^k:Nat):Int) by simp,vW])
theorem Ref.shl32 {x k:Nat} (h:k<=32):Ref (.int .u32 (IntKind.u32.wrap ((x:Int)*2^(min (k:Int).toNat 32)))) (.int .u32 ((x*2^k % 4294967296:Nat):Int)):=Ref.md32 (by
 rw[Int.toNat_natCast,Nat.min_eq_left h];simp)
theorem Ref.shl64 {x k:Nat} (h:k<=64):Ref (.int .u64 (IntKind.u64.wrap ((x:Int)*2^(min (k:Int).toNat 64)))) (.int .u64 ((x*2^k % 18446744073709551616:Nat):Int)):=Ref.md64 (by
 rw[Int.toNat_natCast,Nat.min_eq_left h];simp)
theorem Ref.or32 {a b:Nat} (h:a<4294967296/\b<4294967296):Ref (.int .u32 (IntKind.u32.wrap ((BitVec.ofInt 32 (a:Int)||| BitVec.ofInt 32 (b:Int)).toNat:Int))) (.int .u32 ((a||| b:Nat):Int)):=Ref.int (Av.or32 h.1 h.2)
theorem Ref.or64 {a b:Nat} (h:a<18446744073709551616/\b<18446744073709551616):Ref (.int .u64 (IntKind.u64.wrap ((BitVec.ofInt 64 (a:Int)||| BitVec.ofInt 64 (b:Int)).toNat:Int))) (.int .u64 ((a||| b:Nat):Int)):=Ref.int (Av.or64 h.1 h.2)
theorem Ref.nat_eq {k:IntKind} {a b:Nat} (h:a=b):Ref (.int k ((a:Nat):Int)) (.int k ((b:Nat):Int)):=Ref.int (by rw[h])
theorem tR
   (hm:P.follows .mixedOrders=true) (hT:kU P T) (hK:KOK P K) (n:Nat) (stop:Option Nat) (ids m:List Nat) (ov:lJ) (hnd:m.Nodup)
   (he:(yE T K stop n todo st ov).map (fun r=>(r.1,(kD ids 0 r.2.1.σ).map (dM (at_ m)),qV (at_ m) r.2.1.h m,r.2.2))=some (todo',σ',h',ob)) (ho:AllP ob)
   (hg:Good P f S0 C0 w0 Post todo' ⟨σ',h'⟩):Good P f S0 C0 w0 Post todo st:=by
 obtain⟨⟨t,s,o⟩,h1,h2⟩:=Option.map_eq_some_iff.1 he;simp only[Prod.mk.injEq] at h2;obtain⟨rfl,rfl,rfl,rfl⟩:=h2;exact uC hm hT hK n h1 ho (Good.keep ids (Good.ren m hnd hg))
theorem Good.tidy (m:List Nat) (hnd:m.Nodup)
   (e1:σ.map (dM (at_ m))=σ') (e2:qV (at_ m) h m=h') (hg:Good P f S0 C0 w0 Post todo ⟨σ',h'⟩):Good P f S0 C0 w0 Post todo ⟨σ,h⟩:=by
 subst e1;subst e2;exact Good.ren m hnd hg
end Go.Av
namespace Go.Av
open Go.Proofs Go.RowKit
section
theorem gR (hK:KOK Tryz.prog K) (stop:Option Nat) (ids m:List Nat) (ov:lJ) (ho:AllP ob) (hg:Good Tryz.prog f S0 C0 w0 Post t ⟨σ,h⟩)
   (he:(yE Ev K stop 999 todo st ov).map (fun r=>(r.1,(kD ids 0 r.2.1.σ).map (dM (at_ m)),qV (at_ m) r.2.1.h m,r.2.2))=some (t,σ,h,ob):=by kernel_rfl) (hnd:m.Nodup:=by decide):Good Tryz.prog f S0 C0 w0 Post todo st:=tR mixed aT hK 999 stop ids m ov hnd he ho hg
end
theorem qe {x y:Rat} {B C:Nat} {cs:List AV} (h:x=y:=by rfl) (k:B<=C:=by omega):RefC (.q x B::cs) (.q y C::cs):=by subst h;exact RefC.q_le k
def up:List AV->List AV->List AV×List Prop
 | .q x A::V,.q _ B::r=>(.q x B::(up V r).1,(A<=B)::(up V r).2)
 | v::V,_::r=>(v::(up V r).1,(up V r).2)
 | V,_=>(V,[])
theorem FU:∀ (V r:List AV),AllP (up V r).2->RefC V (up V r).1:=by
 intro V r
 induction V,r using up.induct with
 | case1 x A V y B r ih=>
   intro h;simp only[up] at h ⊢;exact RefC.cons (RefC.q_le h.un.1) (ih h.un.2)
 | case2 v V u r hn ih=>
   intro h;rw[up.eq_2 _ _ _ _ hn] at h ⊢;exact RefC.tl (ih h)
 | case3 V r h1 h2=>
   intro h;rw[up.eq_3 _ _ h1 h2];exact RefC.rfl'
def OI:AV->AV->AV×List Prop
 | .agg c,.agg d=>(.agg (up c d).1,(up c d).2)
 | .tup [.agg c,.int k n],.tup (.agg d::_)=>(.tup [.agg (up c d).1,.int k n],(up c d).2)
 | v,_=>(v,[])
theorem Jr {V r:AV} (h:AllP (OI V r).2):Ref V (OI V r).1:=by
 unfold OI at h ⊢
 split
 · exact Ref.agg (FU _ _ h)
 · exact Ref.tup2 (Ref.agg (FU _ _ h)) Ref.rfl' rfl rfl rfl rfl
 · exact Ref.rfl'
theorem AllP.two {l m:List Prop} (h:AllP (l++m)):AllP l/\AllP m:=⟨fun p hp=>h p (by simp[hp]),fun p hp=>h p (by simp[hp])⟩
theorem rV {K:KT} (hK:KOK Tryz.prog K) (ov:lJ) {f:Nat} {S0:Nat->Prop} {w0:World} {todo:List Item} {st:St} {r:AV} {ob:List Prop}
   (ho:AllP ob) (he:(Jm f K todo st ov).map (fun p=>((OI p.1 r).1,p.2++(OI p.1 r).2))=some (r,ob):=by kernel_rfl):Good Tryz.prog f S0 No w0 (eD S0 w0 r) todo st:=by
 obtain⟨⟨V,o⟩,h1,h2⟩:=Option.map_eq_some_iff.1 he;simp only[Prod.mk.injEq] at h2;obtain⟨h3,h4⟩:=h2;obtain⟨o1,o2⟩:=AllP.two (h4▸ho);exact rF hK ov o1 (by have:=Jr o2;rwa [h3] at this) h1
def Bz:=kn
theorem RefC.natL {xs:List Nat} {n B:Nat} {cs:List AV} (h:Dig b32 xs) (hn:aH b32 xs=n) (hB:n<2^B):RefC (.list 1 (aG xs)::cs) (.nat n B::cs):=fun ρ S w D vs x=>by
 cases vs with
 | nil=>cases x
 | cons v vs=>exact .nat xs h hn hB x
theorem RefC.digL {xs:List Nat} {n B:Nat} {cs:List AV} (h:Dig b10k xs) (hn:aH b10k xs=n) (hB:n<2^B):RefC (.list 1 (aM xs)::cs) (.dig n B::cs):=fun ρ S w D vs x=>by
 cases vs with
 | nil=>cases x
 | cons v vs=>exact .dig xs h hn hB x
def OJ:KF
 | [.bool s,.nat n B]=>some (.agg [.z (iL s n) B],[])
 | _=>none
theorem Ak:bQ 109 OJ:=by
 refine cK Tryz.f109 fun _ _ _ S w0 h ho=> ?_
 unfold OJ at h;split at h <;> cases h;rename_i s n B;obtain⟨hx,hxn⟩:=aO (b:=b32) (by decide) n;refine Good.natlt (n:=n) (B:=B) 1 rfl fun hn=> ?_
 refine Good.weak 13 [(0,.bool s),(1,.list 1 (aG (aC b32 n)))] (by kernel_rfl) (.r (.cons Ref.opn .nil)) ?_
 have fold:∀ t:Bool,t=decide (iL s n<0)->Ref (.agg [.bool t,.list 1 (aG (aC b32 n))]) (.agg [.z (iL s n) B]):=fun t ht=>
   Ref.agg ((RefC.tl (c:=.bool t) (RefC.natL hx hxn hn)).trans (RefC.mkz (rl _) ht (wA s n).symm))
 cases s with
 | true=>
   refine rF Bz [] .nil (V:=.agg [.bool (decide ((0:Int)<((aG (aC b32 n)).length:Int))),.list 1 (aG (aC b32 n))]) (fold _ ?_)
   rw[uI,Bool.true_and]
   have:=cJ (b:=b32) (n:=n) (by decide);simp only[decide_eq_decide];rw[aB];omega
 | false=>
   refine rF Bz [] .nil (V:=.agg [AV.bool false,.list 1 (aG (aC b32 n))]) (fold _ ?_)
   rw[uI,Bool.false_and]
end Go.Av
namespace Go.Av
open Go.RowKit
def eX (t:Nat):List Nat->Nat->Nat->Nat->List Nat->List Nat×Bool
 | [],p,c,b,ds=>(ds.set p ((ds.getD p 0+8589934592-c % 4294967296-b) % 4294967296),decide (ds.getD p 0<c % 4294967296+b))
 | y::ys,p,c,b,ds=>eX t ys (p+1) ((c+t*y)/4294967296) (if ds.getD p 0<(c+t*y) % 4294967296+b then 1 else 0) (ds.set p ((ds.getD p 0+8589934592-(c+t*y) % 4294967296-b) % 4294967296))
def nH:List Nat->Nat->Nat->List Nat->List Nat
 | [],p,c,ds=>ds.set p ((ds.getD p 0+c) % 4294967296)
 | y::ys,p,c,ds=>nH ys (p+1) ((ds.getD p 0+y+c)/4294967296) (ds.set p ((ds.getD p 0+y+c) % 4294967296))
def Ov (s:Bool):Nat:=if s then 1 else 0
theorem EC {R P b t V c1 e1 D1 Q e' x D o m e c y:Nat} (h1:R+P*b*(t*V+c1+e1)=D1+Q*e') (h2:D1+P*x=D+P*o) (h3:o+m+e=x+b*e1) (h4:c+t*y=b*c1+m):
   R+P*(t*(y+b*V)+c+e)=D+Q*e':=by
 replace h3:=congrArg (P*·) h3;replace h4:=congrArg (P*·) h4;simp only[Nat.mul_add,Nat.add_mul,Nat.mul_assoc,Nat.mul_comm,Nat.mul_left_comm] at*;omega
theorem ED {R P b V c1 D1 Q x D o c y:Nat} {E:Nat} (h1:R+Q*E=D1+P*b*(V+c1)) (h2:D1+P*x=D+P*o) (h3:o+b*c1=x+y+c):R+Q*E=D+P*(y+b*V+c):=by
 replace h3:=congrArg (P*·) h3;simp only[Nat.mul_add,Nat.add_mul,Nat.mul_assoc,Nat.mul_comm,Nat.mul_left_comm] at*;omega
theorem EE {R P x D o c b B e:Nat} (h2:R+P*x=D+P*o) (h3:o+c+b=x+B*e):R+P*(c+b)=D+P*B*e:=by
 replace h3:=congrArg (P*·) h3;simp only[Nat.mul_add,Nat.mul_assoc] at*;omega
theorem EF {R P x D o c B e:Nat} (h2:R+P*x=D+P*o) (h3:o+B*e=x+c):R+P*B*e=D+P*c:=by
 replace h3:=congrArg (P*·) h3;simp only[Nat.mul_add,Nat.mul_assoc] at*;omega
theorem wF {t:Nat} (ht:t<b32):∀ (ys:List Nat) (p c b:Nat) (ds:List Nat),(∀ x∈ds,x<b32)->(∀ x∈ys,x<b32)->c<b32->b<=1->p+ys.length<ds.length->
   (eX t ys p c b ds).1.length=ds.length/\(∀ x∈(eX t ys p c b ds).1,x<b32)/\
   aH b32 (eX t ys p c b ds).1+b32^p*(t*aH b32 ys+c+b)=aH b32 ds+b32^(p+ys.length+1)*Ov (eX t ys p c b ds).2/\
   (∀ i,i<p\/p+ys.length<i->(eX t ys p c b ds).1.getD i 0=ds.getD i 0)
 | [],p,c,b,ds,hd,hy,hc,hb,hp=>by
   have hx:=aY (b:=b32) (by decide) hd p;unfold b32 at hx hc ht;simp only[eX];refine⟨by simp,eW hd (by unfold b32;omega), ?_,fun i hi=>dE (by simp at hi;omega)⟩;have h2:=gW (b:=b32) (xs:=ds) (j:=p) (v:=(ds.getD p 0+8589934592-c % 4294967296-b) % 4294967296) (by simpa using hp)
   have h3:(ds.getD p 0+8589934592-c % 4294967296-b) % 4294967296+c+b=ds.getD p 0+b32*Ov (decide (ds.getD p 0<c % 4294967296+b)):=by
     generalize ds.getD p 0=x at hx;unfold Ov b32;split
     · rename_i h;have h:=of_decide_eq_true h;omega
     · rename_i h;have h:=of_decide_eq_false (Bool.eq_false_iff.2 h);omega
   simp only[aH,List.length_nil,Nat.add_zero,Nat.mul_zero,Nat.zero_add,Nat.pow_succ];exact EE h2 h3
 | y ::ys,p,c,b,ds,hd,hy,hc,hb,hp=>by
   have hx:=aY (b:=b32) (by decide) hd p;have hy1:=hy y (by simp);have hm:t*y<=18446744065119617025:=sO ht hy1;unfold b32 at hx hc ht;simp only[List.length_cons] at hp
   obtain⟨g1,g2,g3,g4⟩:=wF (t:=t) (by unfold b32;omega) ys (p+1) ((c+t*y)/4294967296) (if ds.getD p 0<(c+t*y) % 4294967296+b then 1 else 0) (ds.set p ((ds.getD p 0+8589934592-(c+t*y) % 4294967296-b) % 4294967296))
     (eW hd (by unfold b32;omega)) (fun x hx=>hy x (by simp[hx])) (by unfold b32;omega) (by split <;> omega) (by simp;omega)
   simp only[eX];refine⟨by rw[g1];simp,g2, ?_,fun i hi=> ?_⟩
   · have h2:=gW (b:=b32) (xs:=ds) (j:=p) (v:=(ds.getD p 0+8589934592-(c+t*y) % 4294967296-b) % 4294967296) (by omega)
     rw[show p+(y::ys).length+1=p+1+ys.length+1 by simp;omega];rw[Nat.pow_succ b32 p] at g3;refine EC (m:=(c+t*y) % 4294967296) (b:=b32) g3 h2 ?_ ?_
     · unfold b32;split <;> omega
     · unfold b32;omega
   · rw[g4 i (by simp at hi;omega),dE (by simp at hi;omega)]
theorem wG:∀ (ys:List Nat) (p c:Nat) (ds:List Nat),(∀ x∈ds,x<b32)->(∀ x∈ys,x<b32)->c<=1->p+ys.length<ds.length->
   (nH ys p c ds).length=ds.length/\(∀ x∈nH ys p c ds,x<b32)/\
   (∃ E,E<=1/\aH b32 (nH ys p c ds)+b32^(p+ys.length+1)*E=aH b32 ds+b32^p*(aH b32 ys+c))/\
   (∀ i,i<p\/p+ys.length<i->(nH ys p c ds).getD i 0=ds.getD i 0)
 | [],p,c,ds,hd,hy,hc,hp=>by
   have hx:=aY (b:=b32) (by decide) hd p;unfold b32 at hx;simp only[nH];refine⟨by simp,eW hd (by unfold b32;omega),⟨(ds.getD p 0+c)/4294967296,by omega, ?_⟩,fun i hi=>dE (by simp at hi;omega)⟩;have h2:=gW (b:=b32) (xs:=ds) (j:=p) (v:=(ds.getD p 0+c) % 4294967296) (by simpa using hp);have h3:(ds.getD p 0+c) % 4294967296+b32*((ds.getD p 0+c)/4294967296)=ds.getD p 0+c:=by unfold b32;omega
   simp only[aH,List.length_nil,Nat.add_zero,Nat.zero_add,Nat.pow_succ];exact EF h2 h3
 | y ::ys,p,c,ds,hd,hy,hc,hp=>by
   have hx:=aY (b:=b32) (by decide) hd p;have hy1:=hy y (by simp);unfold b32 at hx hy1;simp only[List.length_cons] at hp
   obtain⟨g1,g2,⟨E,hE,g3⟩,g4⟩:=wG ys (p+1) ((ds.getD p 0+y+c)/4294967296) (ds.set p ((ds.getD p 0+y+c) % 4294967296))
     (eW hd (by unfold b32;omega)) (fun x hx=>hy x (by simp[hx])) (by omega) (by simp;omega)
   simp only[nH];refine⟨by rw[g1];simp,g2,⟨E,hE, ?_⟩,fun i hi=> ?_⟩
   · have h2:=gW (b:=b32) (xs:=ds) (j:=p) (v:=(ds.getD p 0+y+c) % 4294967296) (by omega)
     rw[show p+(y::ys).length+1=p+1+ys.length+1 by simp;omega];rw[Nat.pow_succ b32 p] at g3;refine ED (b:=b32) g3 h2 ?_;unfold b32;omega
   · rw[g4 i (by simp at hi;omega),dE (by simp at hi;omega)]
theorem fZ {b:Nat} {xs ys:List Nat}:∀ {j:Nat},(∀ i,i<j->xs.getD i 0=ys.getD i 0)->aH b (xs.take j)=aH b (ys.take j)
 | 0,_=>by simp
 | j+1,h=>by
   rw[aQ,aQ b ys,fZ (fun i hi=>h i (by omega)),h j (by omega)]
theorem zC {b:Nat} (hb:0<b):∀ {xs:List Nat},aH b xs=0->∀ i,xs.getD i 0=0
 | [],_,i=>by simp
 | x ::xs,h,i=>by
   simp only[aH] at h;have h1:x=0:=by omega
   have h2:aH b xs=0:=by
     have:b*aH b xs=0:=by omega
     rcases Nat.mul_eq_zero.1 this with h | h
     · omega
     · exact h
   cases i with
   | zero=>simpa using h1
   | succ i=>simpa using zC hb h2 i
theorem Du {ds:List Nat} {j n:Nat} (hd:∀ x∈ds,x<b32) (hz:∀ i,j+n<=i->ds.getD i 0=0):aH b32 (ds.drop j)<b32^n:=by
 have h1:=cR b32 n (ds.drop j)
 have h2:aH b32 ((ds.drop j).drop n)=0:=by
   rw[List.drop_drop];exact vY hz
 rw[h2] at h1;have h3:=dA (b:=b32) (by decide) (xs:=ds.drop j) (fun x hx=>hd x (List.mem_of_mem_drop hx)) n;omega
theorem EG {ds:List Nat} {j n:Nat} (h:aH b32 (ds.drop j)<b32^n):∀ i,j+n<=i->ds.getD i 0=0:=by
 intro i hi;have h1:=cR b32 n (ds.drop j)
 have h2:aH b32 ((ds.drop j).drop n)=0:=by
   rcases Nat.eq_zero_or_pos (aH b32 ((ds.drop j).drop n)) with h' | h'
   · exact h'
   · have:=Nat.mul_le_mul_left (b32^n) h'
     omega
 have h3:=zC (by decide) h2 (i-(j+n));rw[List.drop_drop,pB,show j+n+(i-(j+n))=i by omega] at h3;exact h3
theorem EH (a1:D=A+P*W) (t3:R+P*gV=D) (a2:R=A+P*W') (hP:0<P) (h:W<gV+V):W'<V:=by
 have:P*(W'+gV)=P*W:=by rw[Nat.mul_add];omega
 have:=Nat.eq_of_mul_eq_mul_left hP this;omega
theorem CF (a1:D=A+P*W) (a2:R=A+P*W') (a3:S=A+P*W2) (hP:0<P) (t3:R+P*(g*V)=D+P*T) (s3:S+P*T*E=R+P*V)
   (hW':W'<T) (hW2:W2<T) (hE:E<=1) (hV:V<T) (h2:g*V<=W+V):0<g/\S+P*((g-1)*V)=D/\W2<V:=by
 have k1:W'+g*V=W+T:=by
   have:P*(W'+g*V)=P*(W+T):=by rw[Nat.mul_add,Nat.mul_add];omega
   exact Nat.eq_of_mul_eq_mul_left hP this
 have k2:W2+T*E=W'+V:=by
   have:P*(W2+T*E)=P*(W'+V):=by rw[Nat.mul_add,Nat.mul_add, <- Nat.mul_assoc];omega
   exact Nat.eq_of_mul_eq_mul_left hP this
 have hg0:0<g:=by
   rcases Nat.eq_zero_or_pos g with rfl | h
   · simp at k1;omega
   · exact h
 obtain⟨g,rfl⟩:∃ k,g=k+1:=⟨g-1,by omega⟩;rw[Nat.add_mul,Nat.one_mul] at k1 h2;rw[Nat.add_sub_cancel]
 have hE1:E=1:=by
   have:E=0\/E=1:=by omega
   rcases this with rfl | h
   · rw[Nat.mul_zero] at k2;omega
   · exact h
 subst hE1;rw[Nat.mul_one] at k2;have e:W2+g*V=W:=by omega
 refine⟨by omega, ?_,by omega⟩;rw[a3,a1, <- e,Nat.mul_add];omega
theorem BA (hd:∀ x∈ds,x<b32) (hv:∀ x∈vs,x<b32) (hlen:j+vs.length<ds.length) (hg:g<b32)
   (hW:aH b32 (ds.drop j)<b32^(vs.length+1)) (h1:aH b32 (ds.drop j)<(g+1)*aH b32 vs) (h2:g*aH b32 vs<=aH b32 (ds.drop j)+aH b32 vs) (hR:eX g vs j 0 0 ds=(R,β)) (hS:nH vs j 0 R=S):
   R.length=ds.length/\(∀ x∈R,x<b32)/\S.length=ds.length/\(∀ x∈S,x<b32)/\
   (β=false->aH b32 R+b32^j*(g*aH b32 vs)=aH b32 ds/\aH b32 (R.drop j)<aH b32 vs)/\
   (β=true->0<g/\aH b32 S+b32^j*((g-1)*aH b32 vs)=aH b32 ds/\aH b32 (S.drop j)<aH b32 vs):=by
 obtain⟨t1,t2,t3,t4⟩:=wF hg vs j 0 0 ds hd hv (by decide) (by omega) hlen;rw[hR] at t1 t2 t3 t4;replace t1:R.length=ds.length:=t1;replace t2:∀ x∈R,x<b32:=t2;replace t3:aH b32 R+b32^j*(g*aH b32 vs+0+0)=aH b32 ds+b32^(j+vs.length+1)*Ov β:=t3;replace t4:∀ i,i<j\/j+vs.length<i->R.getD i 0=ds.getD i 0:=t4;obtain⟨s1,s2,⟨E,hE,s3⟩,s4⟩:=wG vs j 0 R t2 hv (by omega) (by rw[t1];exact hlen);rw[hS] at s1 s2 s3 s4;have hzero:=EG hW;have hVlt:=dI (b:=b32) (by decide) hv;have hP:=Nat.pow_pos (n:=j) (show 0<b32 by decide);have a1:=cR b32 j ds;have a2:=cR b32 j R;have a3:=cR b32 j S;rw[fZ (ys:=R) (fun i hi=>s4 i (.inl hi)),fZ (ys:=ds) (fun i hi=>t4 i (.inl hi))] at a3;rw[fZ (ys:=ds) (fun i hi=>t4 i (.inl hi))] at a2;have hz':∀ i,j+(vs.length+1)<=i->R.getD i 0=0:=fun i hi=>by rw[t4 i (.inr (by omega))];exact hzero i hi
 have hz'':∀ i,j+(vs.length+1)<=i->S.getD i 0=0:=fun i hi=>by rw[s4 i (.inr (by omega))];exact hz' i hi
 have hW':=Du t2 hz';have hW'':=Du s2 hz'';rw[Nat.add_zero,Nat.add_zero,show j+vs.length+1=j+(vs.length+1) by omega,Nat.pow_add] at t3;rw[Nat.add_zero,show j+vs.length+1=j+(vs.length+1) by omega,Nat.pow_add] at s3;have hT:b32^vs.length<=b32^(vs.length+1):=Nat.pow_le_pow_right (by decide) (by omega);have hVT:=Nat.lt_of_lt_of_le hVlt hT;rw[Nat.add_mul,Nat.one_mul] at h1;refine⟨t1,t2,s1.trans t1,s2,fun hb=> ?_,fun hb=> ?_⟩
 · subst hb
   have t3':aH b32 R+b32^j*(g*aH b32 vs)=aH b32 ds:=t3.trans (by rw[show Ov false=0 from rfl,Nat.mul_zero,Nat.add_zero]);exact⟨t3',EH a1 t3' a2 hP h1⟩
 · subst hb
   have t3':aH b32 R+b32^j*(g*aH b32 vs)=aH b32 ds+b32^j*b32^(vs.length+1):=t3.trans (by rw[show Ov true=1 from rfl,Nat.mul_one]);exact CF a1 a2 a3 hP t3' s3 hW' hW'' hE hVT h2
theorem EI {D R V P b g Q U:Nat} (h:R+P*(g*V)=D) (hI:D+V*(P*b*Q)=U):R+V*(P*(g+b*Q))=U:=by
 rw[<- hI, <- h];simp only[Nat.mul_add,Nat.mul_assoc,Nat.mul_comm,Nat.mul_left_comm];omega
theorem zE {ds:List Nat} {j p:Nat} (h:aH b32 (ds.drop j)<b32^(p+3)) (hd:∀ x∈ds,x<b32):
   ∃ w,w<b32^p/\aH b32 (ds.drop j)=((ds.getD (j+p+2) 0*b32+ds.getD (j+p+1) 0)*b32+ds.getD (j+p) 0)*b32^p+w:=by
 refine⟨aH b32 ((ds.drop j).take p),dA (by decide) (fun x hx=>hd x (List.mem_of_mem_drop hx)) p, ?_⟩;have h1:=cR b32 (p+3) (ds.drop j)
 have h2:aH b32 ((ds.drop j).drop (p+3))=0:=by
   rcases Nat.eq_zero_or_pos (aH b32 ((ds.drop j).drop (p+3))) with h' | h'
   · exact h'
   · have:=Nat.mul_le_mul_left (b32^(p+3)) h'
     omega
 rw[h2,aQ b32 _ (p+2),aQ b32 _ (p+1),aQ b32 _ p,pB,pB,pB] at h1;rw[h1,show j+(p+2)=j+p+2 by omega,show j+(p+1)=j+p+1 by omega];simp only[Nat.pow_succ,Nat.mul_add,Nat.add_mul,Nat.mul_assoc,Nat.mul_comm,Nat.mul_left_comm,Nat.mul_zero];omega
theorem Dv (hl:vs.length=p+2) (hd:∀ x∈vs,x<b32):
   ∃ w,w<b32^p/\aH b32 vs=(vs.getD (p+1) 0*b32+vs.getD p 0)*b32^p+w:=by
 refine⟨aH b32 (vs.take p),dA (by decide) hd p, ?_⟩;have h1:=aQ b32 vs (p+1);rw[List.take_of_length_le (by omega),aQ b32 vs p] at h1;rw[h1];simp only[Nat.pow_succ,Nat.mul_add,Nat.add_mul,Nat.mul_assoc,Nat.mul_comm,Nat.mul_left_comm];omega
end Go.Av
namespace Go.Av
open Go.Proofs Go.RowKit
theorem Mq (v:BitVec 32):IntKind.u32.wrap (v.toNat:Int)=(v.toNat:Int):=FS v.isLt
theorem Js (v:BitVec 32):BitVec.ofInt 32 (v.toNat:Int)=v:=by rw[BitVec.ofInt_natCast,BitVec.ofNat_toNat,BitVec.setWidth_eq]
theorem EK {x y c:Nat} (hx:x<4294967296) (hy:y<4294967296) (hc:c<=1):IntKind.u32.wrap ((IntKind.u32.wrap (((x:Nat):Int)-((y:Nat):Int)))-((c:Nat):Int))=(((x+8589934592-y-c) % 4294967296:Nat):Int):=by
 simp only[IntKind.wrap,IntKind.signed,IntKind.bits];simp;omega
theorem EL {x y c:Nat} (hx:x<4294967296) (hy:y<4294967296) (hc:c<=1):((IntKind.u32.wrap (BitVec.ofInt 32 (IntKind.u32.wrap (BitVec.ofInt 32 (IntKind.u32.wrap (BitVec.ofInt 32 4294967295^^^BitVec.ofInt 32 ((x:Nat):Int)).toNat)&&& BitVec.ofInt 32 ((y:Nat):Int)).toNat)||| BitVec.ofInt 32 (IntKind.u32.wrap (BitVec.ofInt 32 (IntKind.u32.wrap (BitVec.ofInt 32 4294967295^^^BitVec.ofInt 32 (IntKind.u32.wrap (BitVec.ofInt 32 ((x:Nat):Int)^^^BitVec.ofInt 32 ((y:Nat):Int)).toNat)).toNat)&&& BitVec.ofInt 32 (((x+8589934592-y-c) % 4294967296:Nat):Int)).toNat)).toNat).fdiv (2^(min (31:Int).toNat 32)))=((if x<y+c then 1 else 0:Nat):Int):=by
 simp only[Mq,Js];have e1:BitVec.ofInt 32 4294967295=BitVec.allOnes 32:=by decide
 rw[e1,BitVec.allOnes_xor,BitVec.allOnes_xor,BitVec.ofInt_natCast,BitVec.ofInt_natCast,BitVec.ofInt_natCast]
 have e2:BitVec.ofNat 32 ((x+8589934592-y-c) % 4294967296)=BitVec.ofNat 32 (x+2^32+2^32-y-c):=by
   apply BitVec.eq_of_toNat_eq;simp only[BitVec.toNat_ofNat];omega
 rw[e2,show((2:Int)^(min (31:Int).toNat 32))=((2^31:Nat):Int) from rfl,vW,FT hx hy hc]
def OK:KF
 | [.int .u32 x,.int .u32 y,.int .u32 c]=>some (.tup [.int .u32 (((x.toNat+8589934592-y.toNat-c.toNat) % 4294967296:Nat):Int),.int .u32 ((if x.toNat<y.toNat+c.toNat then 1 else 0:Nat):Int)],[0<=x,0<=y,0<=c,x.toNat<4294967296,y.toNat<4294967296,c.toNat<=1])
 | _=>none
theorem OL:bQ 266 OK:=by
 refine cK Tryz.f266 fun _ _ _ S w0 h ho=> ?_
 unfold OK at h;split at h <;> cases h;rename_i x y c;obtain⟨o1000,o1001,o1002,o1,o2,o3⟩:=ho.e6;obtain⟨x,rfl⟩:=Int.eq_ofNat_of_zero_le o1000;clear o1000;obtain⟨y,rfl⟩:=Int.eq_ofNat_of_zero_le o1001;clear o1001;obtain⟨c,rfl⟩:=Int.eq_ofNat_of_zero_le o1002;clear o1002;replace o1:x<4294967296:=o1;replace o2:y<4294967296:=o2;replace o3:c<=1:=o3;exact rR .nil [(12,.int .u32 (((x+8589934592-y-c) % 4294967296:Nat):Int)),(24,.int .u32 ((if x<y+c then 1 else 0:Nat):Int))] (.a3 (show Ref (.int .u32 (IntKind.u32.wrap ((IntKind.u32.wrap ((x:Int)-(y:Int)))-(c:Int)))) (.int .u32 (((x+8589934592-y-c) % 4294967296:Nat):Int)) from Ref.int (EK o1 o2 o3)) (show Ref (.int .u32 ((IntKind.u32.wrap (BitVec.ofInt 32 (IntKind.u32.wrap (BitVec.ofInt 32 (IntKind.u32.wrap (BitVec.ofInt 32 4294967295^^^BitVec.ofInt 32 (x:Int)).toNat)&&& BitVec.ofInt 32 (y:Int)).toNat)||| BitVec.ofInt 32 (IntKind.u32.wrap (BitVec.ofInt 32 (IntKind.u32.wrap (BitVec.ofInt 32 4294967295^^^BitVec.ofInt 32 (IntKind.u32.wrap (BitVec.ofInt 32 (x:Int)^^^BitVec.ofInt 32 (y:Int)).toNat)).toNat)&&& BitVec.ofInt 32 (((x+8589934592-y-c) % 4294967296:Nat):Int)).toNat)).toNat).fdiv (2^(min (31:Int).toNat 32)))) (.int .u32 ((if x<y+c then 1 else 0:Nat):Int)) from Ref.int (EL o1 o2 o3)) (dc (0<=(31:Int))))
def wH:=kn.cons OL
def OM:KF
 | [.int .u32 x,.int .u32 y,.int .u32 c]=>some (.tup [.int .u32 (((x.toNat+y.toNat+c.toNat) % 4294967296:Nat):Int),.int .u32 (((x.toNat+y.toNat+c.toNat)/4294967296:Nat):Int)],[0<=x,0<=y,0<=c,x.toNat<4294967296,y.toNat<4294967296,c.toNat<=1])
 | _=>none
theorem Tb:bQ 299 OM:=by
 refine cK Tryz.f299 fun _ _ _ S w0 h ho=> ?_
 unfold OM at h;split at h <;> cases h;rename_i x y c;obtain⟨o1000,o1001,o1002,o1,o2,o3⟩:=ho.e6;obtain⟨x,rfl⟩:=Int.eq_ofNat_of_zero_le o1000;clear o1000;obtain⟨y,rfl⟩:=Int.eq_ofNat_of_zero_le o1001;clear o1001;obtain⟨c,rfl⟩:=Int.eq_ofNat_of_zero_le o1002;clear o1002;replace o1:x<4294967296:=o1;replace o2:y<4294967296:=o2;replace o3:c<=1:=o3;exact rR .nil [(10,.int .u64 (x:Int)),(12,.int .u64 (y:Int)),(13,.int .u64 ((x+y:Nat):Int)),(15,.int .u64 (c:Int)),(16,.int .u64 ((x+y+c:Nat):Int)),(18,.int .u32 (((x+y+c) % 4294967296:Nat):Int)),(20,.int .u64 (((x+y+c)/4294967296:Nat):Int)),(21,.int .u32 (((x+y+c)/4294967296:Nat):Int))] (.c6 (wU (x:Int) (x:Int)) (wU (y:Int) (y:Int)) (wU ((x:Int)+(y:Int)) ((x+y:Nat):Int)) (wU (c:Int) (c:Int)) (wU (((x+y:Nat):Int)+(c:Int)) ((x+y+c:Nat):Int)) (show Ref (.int .u32 (IntKind.u32.wrap ((x+y+c:Nat):Int))) (.int .u32 (((x+y+c) % 4294967296:Nat):Int)) from Ref.md32 (by rfl)) (.a3 (show Ref (.int .u64 (((x+y+c:Nat):Int).fdiv (2^(min (32:Int).toNat 64)))) (.int .u64 (((x+y+c)/4294967296:Nat):Int)) from Ref.shrc (c:=min (Int.toNat _) _) (by rfl) (by decide)) (dc (0<=(32:Int))) (wV (((x+y+c)/4294967296:Nat):Int) (((x+y+c)/4294967296:Nat):Int))))
def wJ:=kn.cons Tb
def ON:List AV->List ABlk->Option (AV×List (Option ABlk)×List Prop)
 | [.own 0 1 0 m,.list 1 Y,.int .u64 t,.int .i64 p],[⟨362,1,true,D,none⟩]=>
   some (.bool (eX t.toNat (aZ Y) p.toNat 0 0 (aZ D)).2,[some ⟨362,1,true,aG (eX t.toNat (aZ Y) p.toNat 0 0 (aZ D)).1,none⟩],
     [0<=t,0<=p,Y=aG (aZ Y),D=aG (aZ D),∀ x∈aZ Y,x<b32,∀ x∈aZ D,x<b32,t.toNat<b32,p.toNat+(aZ Y).length<m,m<=(aZ D).length,m<=LIM])
 | _,_=>none
def OO:List AV->List ABlk->Option (AV×List (Option ABlk)×List Prop)
 | [.own 0 1 0 m,.list 1 Y,.int .i64 p],[⟨362,1,true,D,none⟩]=>
   some (.tup [],[some ⟨362,1,true,aG (nH (aZ Y) p.toNat 0 (aZ D)),none⟩],
     [0<=p,Y=aG (aZ Y),D=aG (aZ D),∀ x∈aZ Y,x<b32,∀ x∈aZ D,x<b32,p.toNat+(aZ Y).length<m,m<=(aZ D).length,m<=LIM])
 | _,_=>none
theorem Jt (p:Prop) [Decidable p]:(!decide (((if p then 1 else 0:Nat):Int)=0))=decide p:=by by_cases h:p <;> simp[h]
section
variable {S:Nat->Prop} {w0:World} {ρ:Nat->Nat}
noncomputable abbrev Mr:List Item:=[.code (aN [1,1,0,1,0,0] (aA Tryz.f263)),.inLoop (aN [1,1,0,1,0,0] (aA Tryz.f263)),.inBlock 0,.code (aN [1,1,1] (aA Tryz.f263))]
theorem Ju (hq:ρ 0<w0.heap.size) {ys:List Nat} {t m p N:Nat} {R:List Nat×Bool} (hy:∀ x∈ys,x<b32) (ht:t<b32) (hm:m<=N) (hmL:m<=LIM) (hp:p+ys.length<m):
   ∀ (j k c b:Nat) (ds:List Nat),j=ys.length-k->k<=ys.length->c<b32->b<=1->ds.length=N->(∀ x∈ds,x<b32)->eX t (ys.drop k) (p+k) c b ds=R->
   Good Tryz.prog 263 S (fun k=>∃ l,l<1/\k=ρ l) w0 (yX S w0 ρ 1 (.bool R.2) [some ⟨362,1,true,aG R.1,none⟩]) Mr
     ⟨slots 69 [(0,.own 0 1 0 m),(1,.list 1 (aG ys)),(2,.int .u64 ((t:Nat):Int)),(3,.i6 ((p:Nat):Int)),(9,.int .u64 ((c:Nat):Int)),(10,.int .u32 ((b:Nat):Int)),(13,.list 1 (aG ys)),(14,(.i6 (((aG ys).length:Nat):Int))),(15,.i6 ((k:Nat):Int))],
      [some ⟨362,1,true,(aG ds),(some (ρ 0))⟩]⟩:=by
 unfold LIM at hmL;intro j
 induction j with
 | zero=>
   intro k c b ds hj hk hc hb hd hdl hR;have hk:k=ys.length:=by omega
   subst hk;have hx1:ds.getD (0+(p+(aG ys).length)) 0<b32:=aY (by decide) hdl _;unfold b32 at hx1 hc;rw[List.drop_length] at hR;simp only[eX] at hR;refine cP (p:=(-9223372036854775808<=(p:Int)+((aG ys).length:Int)/\(p:Int)+((aG ys).length:Int)<=9223372036854775807)/\(((p+(aG ys).length:Nat):Int)<(m:Int))/\(0+(p+(aG ys).length)<ds.length)/\(0+(p+(aG ys).length)<(aG ds).length)/\((ds.getD (0+(p+(aG ys).length)) 0)<4294967296)/\((c % 4294967296)<4294967296)/\(b<=1)) (by simp only[aB] at hx1 ⊢;omega) fun⟨q0,q1,q2,q3,q4,q5,q6⟩=>gR wH none [0,1,2,3,8,9,10,13,14,15] [0] [(16,ff),(52,.i6 ((p+(aG ys).length:Nat):Int)),(57,.i6 ((p+(aG ys).length:Nat):Int)),(59,.int .u32 (ds.getD (0+(p+(aG ys).length)) 0:Int)),(61,.int .u32 ((c % 4294967296:Nat):Int))] (.c6 (iF (show ¬ ((ys.length:Int)<((aG ys).length:Int)) by rw[aB];omega)) (wI ((p:Int)+((aG ys).length:Int)) ((p+(aG ys).length:Nat):Int) q0) (wI ((p:Int)+((aG ys).length:Int)) ((p+(aG ys).length:Nat):Int) q0) (nn (p+(aG ys).length)) q1 (Ref.cd32h q2) (.c6 q3 (show Ref (.int .u32 (IntKind.u32.wrap (c:Int))) (.int .u32 ((c % 4294967296:Nat):Int)) from Ref.md32 (by rfl)) (show 0<=(ds.getD (0+(p+(aG ys).length)) 0:Int) from Int.natCast_nonneg _) (nn (c % 4294967296)) (nn b) q4 (.a5 q5 q6 (nn (p+(aG ys).length)) q1 q3))) (t:=[.code .ret]) (σ:=slots 69 [(0,.own 0 1 0 m),(1,.list 1 (aG ys)),(2,.int .u64 (t:Int)),(3,.i6 (p:Int)),(8,(.bool (!decide (((if (ds.getD (0+(p+(aG ys).length)) 0)<(c % 4294967296)+b then 1 else 0:Nat):Int)=(0:Int))))),(9,.int .u64 (c:Int)),(10,(.int .u32 ((if (ds.getD (0+(p+(aG ys).length)) 0)<(c % 4294967296)+b then 1 else 0:Nat):Int))),(13,.list 1 (aG ys)),(14,.i6 ((aG ys).length:Int)),(15,.i6 (ys.length:Int))]) (h:=[some ⟨362,1,true,((aG ds).set (0+(p+(aG ys).length)) [.int .u32 ((((ds.getD (0+(p+(aG ys).length)) 0)+8589934592-(c % 4294967296)-b) % 4294967296:Nat):Int)]),(some (ρ 0))⟩]) ?_
   rw[eN];subst hR;simp only[aB,Nat.zero_add]
   refine jV aT (fn:=Tryz.f263) (by kernel_rfl) (.inr ⟨_,rfl⟩) (Vs:=[AV.bool (!decide (((if (ds.getD (p+ys.length) 0)<c % 4294967296+b then 1 else 0:Nat):Int)=(0:Int)))]) (by kernel_rfl) (by rfl) (by rfl)
     (fun | 0,_=>⟨_,rfl,rfl⟩ | l+1,hl=>absurd hl (by omega)) (fun | 0,_=>hq | l+1,hl=>absurd hl (by omega)) (Ref.bool (Jt _))
 | succ j ih=>
   intro k c b ds hj hk hc hb hd hdl hR;have hlt:k<ys.length:=by omega
   have hx1:ds.getD (0+(p+k)) 0<b32:=aY (by decide) hdl _;have hy1:ys.getD k 0<b32:=aY (by decide) hy k;have hm1:=sO ht hy1;have hm2:((t:Nat):Int)*((ys.getD k 0:Nat):Int)=((t*ys.getD k 0:Nat):Int):=by simp
   unfold b32 at hx1 hy1 hc;refine cP (p:=(k<ys.length)/\((k:Int)<((aG ys).length:Int))/\(0<=(ys.getD k 0:Int)/\(ys.getD k 0:Int)<=18446744073709551615)/\(0<=(t:Int)*(ys.getD k 0:Int)/\(t:Int)*(ys.getD k 0:Int)<=18446744073709551615)/\(0<=(c:Int)+((t*(ys.getD k 0):Nat):Int)/\(c:Int)+((t*(ys.getD k 0):Nat):Int)<=18446744073709551615)/\(-9223372036854775808<=(p:Int)+(k:Int)/\(p:Int)+(k:Int)<=9223372036854775807)/\(((p+k:Nat):Int)<(m:Int))/\(0+(p+k)<ds.length)/\(0+(p+k)<(aG ds).length)/\((ds.getD (0+(p+k)) 0)<4294967296)/\(((c+t*(ys.getD k 0)) % 4294967296)<4294967296)/\(b<=1)/\(-9223372036854775808<=(k:Int)+(1:Int)/\(k:Int)+(1:Int)<=9223372036854775807)) (by rw[hm2];simp only[aB] at hx1 ⊢;omega) fun⟨q0,q1,q2,q3,q4,q5,q6,q7,q8,q9,q10,q11,q12⟩=>gR wH none [0,1,2,3,8,9,10,13,14,15] [0] [(16,tt),(18,.cptr [.int .u32 (ys.getD k 0:Int)] 0),(23,.int .u64 (ys.getD k 0:Int)),(24,.int .u64 ((t*(ys.getD k 0):Nat):Int)),(25,.int .u64 ((c+t*(ys.getD k 0):Nat):Int)),(30,.i6 ((p+k:Nat):Int)),(34,.i6 ((p+k:Nat):Int)),(36,.int .u32 (ds.getD (0+(p+k)) 0:Int)),(38,.int .u32 (((c+t*(ys.getD k 0)) % 4294967296:Nat):Int)),(45,.int .u64 (((c+t*(ys.getD k 0))/4294967296:Nat):Int)),(46,.i6 ((k+1:Nat):Int))] (.c6 (iT (show(k:Int)<((aG ys).length:Int) by rw[aB];omega)) (Ref.cd32 q0) (nn k) q1 (wU (ys.getD k 0:Int) (ys.getD k 0:Int) q2) (wU ((t:Int)*(ys.getD k 0:Int)) ((t*(ys.getD k 0):Nat):Int) q3) (.c6 (wU ((c:Int)+((t*(ys.getD k 0):Nat):Int)) ((c+t*(ys.getD k 0):Nat):Int) q4) (wI ((p:Int)+(k:Int)) ((p+k:Nat):Int) q5) (wI ((p:Int)+(k:Int)) ((p+k:Nat):Int) q5) (nn (p+k)) q6 (Ref.cd32h q7) (.c6 q8 (show Ref (.int .u32 (IntKind.u32.wrap ((c+t*(ys.getD k 0):Nat):Int))) (.int .u32 (((c+t*(ys.getD k 0)) % 4294967296:Nat):Int)) from Ref.md32 (by rfl)) (show 0<=(ds.getD (0+(p+k)) 0:Int) from Int.natCast_nonneg _) (nn ((c+t*(ys.getD k 0)) % 4294967296)) (nn b) q9 (.c6 q10 q11 (nn (p+k)) q6 q8 (show Ref (.int .u64 (((c+t*(ys.getD k 0):Nat):Int).fdiv (2^(min (32:Int).toNat 64)))) (.int .u64 (((c+t*(ys.getD k 0))/4294967296:Nat):Int)) from Ref.shrc (c:=min (Int.toNat _) _) (by rfl) (by decide)) (.a2 (dc (0<=(32:Int))) (wI ((k:Int)+(1:Int)) ((k+1:Nat):Int) q12)))))) (t:=Mr) (σ:=slots 69 [(0,.own 0 1 0 m),(1,.list 1 (aG ys)),(2,.int .u64 (t:Int)),(3,.i6 (p:Int)),(9,(.int .u64 (((c+t*(ys.getD k 0))/4294967296:Nat):Int))),(10,(.int .u32 ((if (ds.getD (0+(p+k)) 0)<((c+t*(ys.getD k 0)) % 4294967296)+b then 1 else 0:Nat):Int))),(13,.list 1 (aG ys)),(14,.i6 ((aG ys).length:Int)),(15,.i6 ((k+1:Nat):Int))]) (h:=[some ⟨362,1,true,((aG ds).set (0+(p+k)) [.int .u32 ((((ds.getD (0+(p+k)) 0)+8589934592-((c+t*(ys.getD k 0)) % 4294967296)-b) % 4294967296:Nat):Int)]),(some (ρ 0))⟩]) ?_
   rw[eN,Nat.zero_add];rw[Nat.zero_add] at hx1;refine ih (k+1) _ _ _ (by omega) (by omega) (by unfold b32;omega) (by split <;> omega) (by simp[hd]) (eW hdl (by unfold b32;omega)) ?_;rw[<- hR,List.drop_eq_getElem_cons hlt];have:ys[k]=ys.getD k 0:=by simp[mQ,hlt]
   rw[this];rfl
theorem OP (args:List AV) (b:List ABlk) (r:AV) (h2:List (Option ABlk)) (ob:List Prop) (h:ON args b=some (r,h2,ob)) (ho:AllP ob):nD Tryz.prog 263 args b r h2:=by
 unfold ON at h
 split at h
 · rename_i m Y t p D
   cases h;have o1:0<=t:=ho _ (by simp);have o2:0<=p:=ho _ (by simp);have o3:Y=aG (aZ Y):=ho _ (by simp);have o4:D=aG (aZ D):=ho _ (by simp);have o5:∀ x∈aZ Y,x<b32:=ho _ (by simp);have o6:∀ x∈aZ D,x<b32:=ho _ (by simp);have o7:t.toNat<b32:=ho _ (by simp);have o8:p.toNat+(aZ Y).length<m:=ho _ (by simp);have o9:m<=(aZ D).length:=ho _ (by simp);have o10:m<=LIM:=ho _ (by simp);obtain⟨t,rfl⟩:=Int.eq_ofNat_of_zero_le o1;obtain⟨p,rfl⟩:=Int.eq_ofNat_of_zero_le o2;replace o7:t<b32:=o7;replace o8:p+(aZ Y).length<m:=o8;generalize aZ Y=ys at*;generalize aZ D=ds at*;subst o3;subst o4;refine lR (fn:=Tryz.f263) (c:=aA Tryz.f263) (by kernel_rfl) (by kernel_rfl) (by kernel_rfl) (by simp) fun S w0 ρ hρ=> ?_
   have e:(kC [AV.own 0 1 0 m,.list 1 (aG ys),.int .u64 ((t:Nat):Int),.i6 ((p:Nat):Int)] Tryz.f263.ntmps).σ=slots 69 [(0,.own 0 1 0 m),(1,.list 1 (aG ys)),(2,.int .u64 ((t:Nat):Int)),(3,.i6 ((p:Nat):Int))]:=by kernel_rfl
   have e2:(kC [AV.own 0 1 0 m,.list 1 (aG ys),.int .u64 (Int.ofNat t),.i6 (Int.ofNat p)] Tryz.f263.ntmps).σ=slots 69 [(0,.own 0 1 0 m),(1,.list 1 (aG ys)),(2,.int .u64 ((t:Nat):Int)),(3,.i6 ((p:Nat):Int))]:=e;show Good _ _ _ _ _ _ _ ⟨(kC [AV.own 0 1 0 m,.list 1 (aG ys),.int .u64 (Int.ofNat t),.i6 (Int.ofNat p)] Tryz.f263.ntmps).σ,pY ρ 0 _⟩;rw[e2];refine gN wH [0,1,2,3,8,9,10,13,14,15] [] .nil (t:=Mr) (σ:=slots 69 [(0,.own 0 1 0 m),(1,.list 1 (aG ys)),(2,.int .u64 (t:Int)),(3,.i6 (p:Int)),(8,.bool false),(9,.int .u64 (0:Int)),(10,.int .u32 (0:Int)),(13,.list 1 (aG ys)),(14,.i6 ((aG ys).length:Int)),(15,.i6 (0:Int))]) (h:=[some ⟨362,1,true,(aG ds),(some (ρ 0))⟩]) ?_
   refine Good.weak 69 [(0,_),(1,_),(2,_),(3,_),(9,_),(10,_),(13,_),(14,_),(15,_)] (by kernel_rfl) (.r (.r (.r (.r (.r (.r (.r (.r (.r .nil))))))))) ?_;exact Ju (hρ 0 (by simp)) o5 o7 o9 o10 o8 _ 0 0 0 ds rfl (by omega) (by decide) (by omega) rfl o6 rfl
 · cases h
noncomputable abbrev OQ:List Item:=[.code (aN [1,0,1,0,0] (aA Tryz.f264)),.inLoop (aN [1,0,1,0,0] (aA Tryz.f264)),.inBlock 0,.code (aN [1,1] (aA Tryz.f264))]
theorem Jv (hq:ρ 0<w0.heap.size) {ys:List Nat} {m p N:Nat} {R:List Nat} (hy:∀ x∈ys,x<b32) (hm:m<=N) (hmL:m<=LIM) (hp:p+ys.length<m):
   ∀ (j k c:Nat) (ds:List Nat),j=ys.length-k->k<=ys.length->c<=1->ds.length=N->(∀ x∈ds,x<b32)->nH (ys.drop k) (p+k) c ds=R->
   Good Tryz.prog 264 S (fun k=>∃ l,l<1/\k=ρ l) w0 (yX S w0 ρ 1 (.tup []) [some ⟨362,1,true,aG R,none⟩]) OQ
     ⟨slots 44 [(0,.own 0 1 0 m),(1,.list 1 (aG ys)),(2,.i6 ((p:Nat):Int)),(6,.int .u32 ((c:Nat):Int)),(9,.list 1 (aG ys)),(10,(.i6 (((aG ys).length:Nat):Int))),(11,.i6 ((k:Nat):Int))],
      [some ⟨362,1,true,(aG ds),(some (ρ 0))⟩]⟩:=by
 unfold LIM at hmL;intro j
 induction j with
 | zero=>
   intro k c ds hj hk hc hd hdl hR;have hk:k=ys.length:=by omega
   subst hk;have hx1:ds.getD (0+(p+(aG ys).length)) 0<b32:=aY (by decide) hdl _;unfold b32 at hx1;rw[List.drop_length] at hR;simp only[nH] at hR;refine cP (p:=(-9223372036854775808<=(p:Int)+((aG ys).length:Int)/\(p:Int)+((aG ys).length:Int)<=9223372036854775807)/\(((p+(aG ys).length:Nat):Int)<(m:Int))/\(0+(p+(aG ys).length)<ds.length)/\(0+(p+(aG ys).length)<(aG ds).length)) (by simp only[aB] at hx1 ⊢;omega) fun⟨q0,q1,q2,q3⟩=>gN wJ [0,1,2,6,9,10,11] [(12,ff),(38,.i6 ((p+(aG ys).length:Nat):Int)),(40,.int .u32 (ds.getD (0+(p+(aG ys).length)) 0:Int)),(42,.int .u32 (((ds.getD (0+(p+(aG ys).length)) 0+c) % 4294967296:Nat):Int))] (.c6 (iF (show ¬ ((ys.length:Int)<((aG ys).length:Int)) by rw[aB];omega)) (wI ((p:Int)+((aG ys).length:Int)) ((p+(aG ys).length:Nat):Int) q0) (nn (p+(aG ys).length)) q1 (Ref.cd32h q2) q3 (.a4 (show Ref (.int .u32 (IntKind.u32.wrap (((ds.getD (0+(p+(aG ys).length)) 0:Nat):Int)+(c:Int)))) (.int .u32 (((ds.getD (0+(p+(aG ys).length)) 0+c) % 4294967296:Nat):Int)) from Ref.md32 (by rfl)) (nn (p+(aG ys).length)) q1 q3)) (t:=[]) (σ:=slots 44 [(0,.own 0 1 0 m),(1,.list 1 (aG ys)),(2,.i6 (p:Int)),(6,.int .u32 (c:Int)),(9,.list 1 (aG ys)),(10,.i6 ((aG ys).length:Int)),(11,.i6 (ys.length:Int))]) (h:=[some ⟨362,1,true,((aG ds).set (0+(p+(aG ys).length)) [.int .u32 (((ds.getD (0+(p+(aG ys).length)) 0+c) % 4294967296:Nat):Int)]),(some (ρ 0))⟩]) ?_
   rw[eN];subst hR;simp only[aB,Nat.zero_add]
   exact jV aT (fn:=Tryz.f264) (by kernel_rfl) (.inl rfl) (Vs:=[]) (by kernel_rfl) (by rfl) (by rfl)
     (fun | 0,_=>⟨_,rfl,rfl⟩ | l+1,hl=>absurd hl (by omega)) (fun | 0,_=>hq | l+1,hl=>absurd hl (by omega)) rr
 | succ j ih=>
   intro k c ds hj hk hc hd hdl hR;have hlt:k<ys.length:=by omega
   have hx1:ds.getD (0+(p+k)) 0<b32:=aY (by decide) hdl _;have hy1:ys.getD k 0<b32:=aY (by decide) hy k;unfold b32 at hx1 hy1;refine cP (p:=(k<ys.length)/\((k:Int)<((aG ys).length:Int))/\(-9223372036854775808<=(p:Int)+(k:Int)/\(p:Int)+(k:Int)<=9223372036854775807)/\(((p+k:Nat):Int)<(m:Int))/\(0+(p+k)<ds.length)/\(0+(p+k)<(aG ds).length)/\((ds.getD (0+(p+k)) 0)<4294967296)/\((ys.getD k 0)<4294967296)/\(c<=1)/\(-9223372036854775808<=(k:Int)+(1:Int)/\(k:Int)+(1:Int)<=9223372036854775807)) (by simp only[aB] at hx1 ⊢;omega) fun⟨q0,q1,q2,q3,q4,q5,q6,q7,q8,q9⟩=>gR wJ none [0,1,2,6,9,10,11] [0] [(12,tt),(14,.cptr [.int .u32 (ys.getD k 0:Int)] 0),(20,.i6 ((p+k:Nat):Int)),(24,.i6 ((p+k:Nat):Int)),(26,.int .u32 (ds.getD (0+(p+k)) 0:Int)),(33,.i6 ((k+1:Nat):Int))] (.c6 (iT (show(k:Int)<((aG ys).length:Int) by rw[aB];omega)) (Ref.cd32 q0) (nn k) q1 (wI ((p:Int)+(k:Int)) ((p+k:Nat):Int) q2) (wI ((p:Int)+(k:Int)) ((p+k:Nat):Int) q2) (.c6 (nn (p+k)) q3 (Ref.cd32h q4) q5 (show 0<=(ds.getD (0+(p+k)) 0:Int) from Int.natCast_nonneg _) (show 0<=(ys.getD k 0:Int) from Int.natCast_nonneg _) (.c6 (nn c) q6 q7 q8 (nn (p+k)) q3 (.a2 q5 (wI ((k:Int)+(1:Int)) ((k+1:Nat):Int) q9))))) (t:=OQ) (σ:=slots 44 [(0,.own 0 1 0 m),(1,.list 1 (aG ys)),(2,.i6 (p:Int)),(6,(.int .u32 ((((ds.getD (0+(p+k)) 0)+(ys.getD k 0)+c)/4294967296:Nat):Int))),(9,.list 1 (aG ys)),(10,.i6 ((aG ys).length:Int)),(11,.i6 ((k+1:Nat):Int))]) (h:=[some ⟨362,1,true,((aG ds).set (0+(p+k)) [.int .u32 ((((ds.getD (0+(p+k)) 0)+(ys.getD k 0)+c) % 4294967296:Nat):Int)]),(some (ρ 0))⟩]) ?_
   rw[eN,Nat.zero_add];rw[Nat.zero_add] at hx1;refine ih (k+1) _ _ (by omega) (by omega) (by omega) (by simp[hd]) (eW hdl (by unfold b32;omega)) ?_;rw[<- hR,List.drop_eq_getElem_cons hlt];have:ys[k]=ys.getD k 0:=by simp[mQ,hlt]
   rw[this];rfl
theorem OR (args:List AV) (b:List ABlk) (r:AV) (h2:List (Option ABlk)) (ob:List Prop) (h:OO args b=some (r,h2,ob)) (ho:AllP ob):nD Tryz.prog 264 args b r h2:=by
 unfold OO at h
 split at h
 · rename_i m Y p D
   cases h;have o2:0<=p:=ho _ (by simp);have o3:Y=aG (aZ Y):=ho _ (by simp);have o4:D=aG (aZ D):=ho _ (by simp);have o5:∀ x∈aZ Y,x<b32:=ho _ (by simp);have o6:∀ x∈aZ D,x<b32:=ho _ (by simp);have o8:p.toNat+(aZ Y).length<m:=ho _ (by simp);have o9:m<=(aZ D).length:=ho _ (by simp);have o10:m<=LIM:=ho _ (by simp);obtain⟨p,rfl⟩:=Int.eq_ofNat_of_zero_le o2;replace o8:p+(aZ Y).length<m:=o8;generalize aZ Y=ys at*;generalize aZ D=ds at*;subst o3;subst o4;refine lR (fn:=Tryz.f264) (c:=aA Tryz.f264) (by kernel_rfl) (by kernel_rfl) (by kernel_rfl) (by simp) fun S w0 ρ hρ=> ?_
   have e2:(kC [AV.own 0 1 0 m,.list 1 (aG ys),.i6 (Int.ofNat p)] Tryz.f264.ntmps).σ=slots 44 [(0,.own 0 1 0 m),(1,.list 1 (aG ys)),(2,.i6 ((p:Nat):Int))]:=by kernel_rfl
   show Good _ _ _ _ _ _ _ ⟨(kC [AV.own 0 1 0 m,.list 1 (aG ys),.i6 (Int.ofNat p)] Tryz.f264.ntmps).σ,pY ρ 0 _⟩;rw[e2];exact gN wJ [0,1,2,6,9,10,11] [] .nil (Jv (hρ 0 (by simp)) o5 o9 o10 o8 _ 0 0 ds rfl (by omega) (by decide) rfl o6 rfl)
 · cases h
end
def Dw:=kn
noncomputable abbrev Ms:List Item:=[.code (aN [1,1,0,0,0] (aA Tryz.f208)),.inLoop (aN [1,1,0,0,0] (aA Tryz.f208)),.inBlock 0,.code (aN [1,1,1] (aA Tryz.f208))]
def OS:KF
 | [.list 1 X]=>some (.nat (aH b32 (aZ X)) (32*X.length),[X=aG (aZ X),∀ x∈aZ X,x<b32])
 | _=>none
theorem Jw {S:Nat->Prop} {w0:World} {xs:List Nat} (hx:∀ x∈xs,x<b32) (hb:xs.length<=big):∀ (k:Nat),k<=xs.length->(∀ i,k<=i->i<xs.length->xs.getD i 0=0)->
   GF 208 S w0 (.nat (aH b32 xs) (32*xs.length)) Ms
     ⟨slots 22 [(0,.list 1 (aG xs)),(3,.i6 ((k:Nat):Int))],[]⟩:=by
 have fin:∀ (k:Nat) (rest:List (Nat×AV)),k<=xs.length->(∀ i,k<=i->i<xs.length->xs.getD i 0=0)->(k=0\/xs.getD (k-1) 0≠0)->
     GF 208 S w0 (.nat (aH b32 xs) (32*xs.length)) [.code .ret] ⟨slots 22 [(0,.list 1 (aG xs)),(2,(.list 1 (((aG xs).take k).drop 0))),(3,.i6 ((k:Nat):Int))],[]⟩:=by
   intro k rest hk hz hd;refine gE [.list 1 (((aG xs).take k).drop 0)] ?_;have e:((aG xs).take k).drop 0=aG (xs.take k):=by simp[aG]
   show Ref (.list 1 (((aG xs).take k).drop 0)) _;rw[e];exact Ref.nat (Dig.take hx hk hd) (Ew hz) (sN hx)
 intro k
 induction k with
 | zero=>
   intro hk hz;refine cP (p:=((0:Int)<=((aG xs).length:Int))/\((0:Int)<=(0:Int))) (by simp[aB]) fun⟨q0,q1⟩=>gN Dw [0,2,3] [(8,ff)] (.a5 (iF (om (¬ ((0:Int)<(0:Int))))) (nn 0) q0 (nn 0) q1) (fin 0 [] hk hz (.inl rfl))
 | succ k ih=>
   intro hk hz;have v0:(0:Int)<(((k+1):Nat):Int):=by omega
   by_cases h:xs.getD k 0=0
   · have e:((((k+1:Nat):Int)-1).toNat)=k:=by omega
     refine cP (p:=(-9223372036854775808<=(((k+1):Nat):Int)-(1:Int)/\(((k+1):Nat):Int)-(1:Int)<=9223372036854775807)/\(((((k+1):Nat):Int)-(1:Int)).toNat<xs.length)/\(0<=((((k+1):Nat):Int)-(1:Int)))/\(((((k+1):Nat):Int)-(1:Int))<((aG xs).length:Int))) ?_ fun⟨q0,q1,q2,q3⟩=>gN Dw [0,2,3] [(8,tt),(11,.i6 ((((k+1):Nat):Int)-(1:Int))),(12,.cptr [.int .u32 (xs.getD (((((k+1):Nat):Int)-(1:Int)).toNat) 0:Int)] 0),(15,tt),(17,.i6 ((((k+1):Nat):Int)-(1:Int)))] (.c6 (iT v0) (wI ((((k+1):Nat):Int)-(1:Int)) ((((k+1):Nat):Int)-(1:Int)) q0) (Ref.cd32 q1) q2 q3 (iT (show(xs.getD (((((k+1):Nat):Int)-(1:Int)).toNat) 0:Int)=(0:Int) by rw[e];omega)) (.a1 (wI ((((k+1):Nat):Int)-(1:Int)) ((((k+1):Nat):Int)-(1:Int)) q0))) (t:=Ms) (σ:=slots 22 [(0,.list 1 (aG xs)),(3,(.i6 ((((k+1):Nat):Int)-(1:Int))))]) (h:=[]) ?_
     · simp only[aB,e]
       unfold big at hb;omega
     · have e2:(((k+1:Nat):Int)-1)=((k:Nat):Int):=by omega
       rw[e2]
       exact ih (by omega) fun i hi hl=>by
         by_cases h':i=k
         · subst h';exact h
         · exact hz i (by omega) hl
   · have e:((((k+1:Nat):Int)-1).toNat)=k:=by omega
     refine cP (p:=(-9223372036854775808<=(((k+1):Nat):Int)-(1:Int)/\(((k+1):Nat):Int)-(1:Int)<=9223372036854775807)/\(((((k+1):Nat):Int)-(1:Int)).toNat<xs.length)/\(0<=((((k+1):Nat):Int)-(1:Int)))/\(((((k+1):Nat):Int)-(1:Int))<((aG xs).length:Int))/\((((k+1):Nat):Int)<=((aG xs).length:Int))/\((((k+1):Nat):Int)<=(((k+1):Nat):Int))) ?_ fun⟨q0,q1,q2,q3,q4,q5⟩=>gN Dw [0,2,3] [(8,tt),(11,.i6 ((((k+1):Nat):Int)-(1:Int))),(12,.cptr [.int .u32 (xs.getD (((((k+1):Nat):Int)-(1:Int)).toNat) 0:Int)] 0),(15,ff)] (.c6 (iT v0) (wI ((((k+1):Nat):Int)-(1:Int)) ((((k+1):Nat):Int)-(1:Int)) q0) (Ref.cd32 q1) q2 q3 (iF (show ¬ (((xs.getD (((((k+1):Nat):Int)-(1:Int)).toNat) 0:Nat):Int)=(0:Int)) by rw[e];omega)) (.a4 (nn (k+1)) q4 (nn (k+1)) q5)) (fin (k+1) [] hk hz (.inr (by simpa using h)))
     simp only[aB,e];unfold big at hb;omega
theorem BB:bQ 208 OS:=fun args r ob h ho=>by
 unfold OS at h
 split at h
 · rename_i X
   cases h;have h1:X=aG (aZ X):=ho _ (by simp);have h2:∀ x∈aZ X,x<b32:=ho _ (by simp);generalize aZ X=xs at h1 h2;subst h1;refine af Tryz.f208 fun S w0=> ?_
   rw[aB];have e:kC [.list 1 (aG xs)] Tryz.f208.ntmps=⟨slots 22 [(0,.list 1 (aG xs))],[]⟩:=by kernel_rfl
   rw[e];refine Good.len 0 (e:=1) (xs:=aG xs) (by rfl) fun hb=> ?_
   rw[aB] at hb;refine gN Dw [0,3] [] .nil (t:=Ms) (σ:=slots 22 [(0,.list 1 (aG xs)),(3,.i6 ((aG xs).length:Int))]) (h:=[]) ?_
   rw[aB];exact Jw h2 hb _ (rl _) (fun i h1 h2=>by omega)
 · cases h
def Mt:=kn.cons BB
theorem FV {S0 C0:Nat->Prop} {w0:World} {Post:Value->World->Prop} (n:Nat)  (o:(0<=((n/4294967296:Nat):Int)/\((n/4294967296:Nat):Int)<=4294967295)/\(Ref (AV.nat (aH b32 (aZ [[(AV.int .u32 ((n % 4294967296:Nat):Int))],[(AV.int .u32 ((n/4294967296:Nat):Int))]])) (32* [[(AV.int .u32 ((n % 4294967296:Nat):Int))],[(AV.int .u32 ((n/4294967296:Nat):Int))]].length)) (AV.nat n 64))/\([[(AV.int .u32 ((n % 4294967296:Nat):Int))],[(AV.int .u32 ((n/4294967296:Nat):Int))]]=aG (aZ [[(AV.int .u32 ((n % 4294967296:Nat):Int))],[(AV.int .u32 ((n/4294967296:Nat):Int))]]))/\(∀ x∈aZ [[(AV.int .u32 ((n % 4294967296:Nat):Int))],[(AV.int .u32 ((n/4294967296:Nat):Int))]],x<b32))
   (hg:Good Tryz.prog 202 S0 C0 w0 Post [.code .ret] ⟨slots 10 [(2,.nat n 64)],[none,none]⟩):
   Good Tryz.prog 202 S0 C0 w0 Post [.code (aN [] (aA Tryz.f202))] ⟨slots 10 [(0,.int .u64 ((n:Nat):Int))],[]⟩:=
 go mixed aT Mt 9 none [2] [(4,(AV.int .u32 ((n % 4294967296:Nat):Int))),(6,(AV.int .u64 ((n/4294967296:Nat):Int))),(7,(AV.int .u32 ((n/4294967296:Nat):Int))),(9,(AV.nat n 64))] (ob:=[Ref (AV.int .u32 (IntKind.u32.wrap ((n:Nat):Int))) (AV.int .u32 ((n % 4294967296:Nat):Int)),Ref (AV.int .u64 (((n:Nat):Int).fdiv (2^(min (32:Int).toNat 64)))) (AV.int .u64 ((n/4294967296:Nat):Int)),0<=(32:Int),Ref (AV.int .u32 (IntKind.u32.wrap ((n/4294967296:Nat):Int))) (AV.int .u32 ((n/4294967296:Nat):Int)),Ref (AV.nat (aH b32 (aZ [[(AV.int .u32 ((n % 4294967296:Nat):Int))],[(AV.int .u32 ((n/4294967296:Nat):Int))]])) (32* [[(AV.int .u32 ((n % 4294967296:Nat):Int))],[(AV.int .u32 ((n/4294967296:Nat):Int))]].length)) (AV.nat n 64),0+2<=2,[[(AV.int .u32 ((n % 4294967296:Nat):Int))],[(AV.int .u32 ((n/4294967296:Nat):Int))]]=aG (aZ [[(AV.int .u32 ((n % 4294967296:Nat):Int))],[(AV.int .u32 ((n/4294967296:Nat):Int))]]),∀ x∈aZ [[(AV.int .u32 ((n % 4294967296:Nat):Int))],[(AV.int .u32 ((n/4294967296:Nat):Int))]],x<b32]) (by kernel_rfl)
   (.cons (Ref.md32 (by first | rfl | omega | simp)) (.cons (Ref.shrc (c:=min (Int.toNat _) _) (by first | rfl | omega) (by decide)) (.cons (by decide) (.cons ((Ref.wr o.1).trans (Ref.int (by first | rfl | omega | simp))) (.cons (o.2.1) (.cons (by decide) (.cons (o.2.2.1) (.cons (o.2.2.2) (AllP.nil))))))))) hg
def OT:KF
 | [.int .u64 n]=>some (.nat n.toNat 64,[0<=n,n<18446744073709551616])
 | _=>none
theorem CG:bQ 202 OT:=fun args r ob h ho=>by
 unfold OT at h
 split at h
 · rename_i n
   cases h;have h1:0<=n:=ho _ (by simp);have h2:n<18446744073709551616:=ho _ (by simp);obtain⟨n,rfl⟩:=Int.eq_ofNat_of_zero_le h1;refine af Tryz.f202 fun S w0=> ?_
   have e:kC [.int .u64 (n:Int)] Tryz.f202.ntmps=⟨slots 10 [(0,.int .u64 ((n:Nat):Int))],[]⟩:=by kernel_rfl
   rw[e];have u:aZ [[AV.int .u32 ((n % 4294967296:Nat):Int)],[AV.int .u32 ((n/4294967296:Nat):Int)]]= [n % 4294967296,n/4294967296]:=rfl;have h3:n<18446744073709551616:=by omega
   refine FV n ⟨by omega, ?_, ?_, ?_⟩ ?_
   · rw[u]
     have:aH b32 [n % 4294967296,n/4294967296]=n:=by simp only[aH,b32];omega
     rw[this];exact Ref.natB (by omega)
   · rw[u];rfl
   · rw[u]
     intro x hx;simp at hx;unfold b32;rcases hx with rfl | rfl <;> omega
   · exact gE [.nat n 64] rr
 · cases h
def wK:=(kn.cons BB).cons CG
def OU:KF
 | [.nat n B,.int .u32 d]=>some (.tup [.nat (n/d.toNat) B,.nat (n % d.toNat) 64],[0<=d,0<d.toNat,d.toNat<4294967296,B<=LIM])
 | _=>none
theorem pF {n d q r:Nat} (h:n=q*d+r) (hr:r<d):n/d=q/\n % d=r:=by
 subst h;have hd:0<d:=by omega
 constructor
 · rw[Nat.mul_comm,Nat.mul_add_div hd,Nat.div_eq_of_lt hr];omega
 · rw[Nat.mul_comm,Nat.mul_add_mod,Nat.mod_eq_of_lt hr]
theorem wL {x b D d r q r' X:Nat} (h:X=D*d+r) (hq:r*b+x=d*q+r'):x+b*X=(q+b*D)*d+r':=by
 subst h;rw[Nat.add_mul,Nat.mul_add, <- Nat.mul_assoc,Nat.mul_comm b r,Nat.mul_comm q d];omega
section
variable {S:Nat->Prop} {w0:World}
noncomputable abbrev Mu:List Item:=[.code (aN [1,1,1,0,1,0,0] (aA Tryz.f248)),.inLoop (aN [1,1,1,0,1,0,0] (aA Tryz.f248)),.inBlock 0,.code (aN [1,1,1,1] (aA Tryz.f248))]
theorem Jx {xs:List Nat} {B m d:Nat} (hm:m=xs.length) (hx:∀ x∈xs,x<b32) (hd0:0<d) (hd1:d<4294967296) (hbig:xs.length+2<=big) (hB:aH b32 xs<2^B):
   ∀ (k r:Nat) (ds:List Nat),k<=xs.length->r<d->ds.length=xs.length->(∀ x∈ds,x<b32)->aH b32 (xs.drop k)=aH b32 (ds.drop k)*d+r->
   GF 248 S w0 (.tup [.nat (aH b32 xs/d) B,.nat (aH b32 xs % d) 64]) Mu
     ⟨slots 43 [(0,.list 1 (aG xs)),(1,.int .u32 ((d:Nat):Int)),(6,.own 0 1 0 m),(7,.int .u64 ((r:Nat):Int)),(8,(.i6 (((k:Nat):Int)-1)))],
      [some ⟨362,1,true,(aG ds),none⟩]⟩:=by
 unfold big at hbig;intro k
 induction k with
 | zero=>
   intro r ds hk hr hl hdl hinv;rw[show(((0:Nat):Int)-1)= -1 from rfl];have e0:((aG ds).drop 0).take m=aG ds:=by rw[List.drop_zero,fQ (by rw[aB];omega)]
   simp only[List.drop_zero] at hinv;obtain⟨q1,q2⟩:=pF hinv hr;refine gR wK none [0,1,4,5,6,7,8] [] [] (.a5 (show 0+m<=(aG ds).length by rw[aB];omega) (show(((aG ds).drop 0).take m)=aG (aZ (((aG ds).drop 0).take m)) by rw[e0,bV]) (show ∀ x∈aZ (((aG ds).drop 0).take m),x<b32 by rw[e0,bV];exact hdl) (nn r) (om ((r:Int)<18446744073709551616))) (t:=[.code .ret]) (σ:=slots 43 [(0,.list 1 (aG xs)),(1,.int .u32 (d:Int)),(4,(.nat (aH b32 (aZ (((aG ds).drop 0).take m))) (32*(((aG ds).drop 0).take m).length))),(5,.nat r 64),(7,.int .u64 (r:Int)),(8,.i6 (-1:Int))]) (h:=[]) ?_
   rw[q1,q2];refine gE [(AV.nat (aH b32 (aZ (((aG ds).drop 0).take m))) (32*(((aG ds).drop 0).take m).length)),AV.nat r 64] ?_;refine Ref.tup2 ?_ rr rfl rfl rfl rfl;rw[e0,bV];refine Ref.natB ?_
   have:=Nat.div_le_self (aH b32 xs) d;omega
 | succ j ih=>
   intro r ds hk hr hl hdl hinv;rw[show(((j+1:Nat):Int)-1)=((j:Nat):Int) by omega];have hx1:xs.getD j 0<b32:=aY (by decide) hx j;unfold b32 at hx1
   have hT:(r*4294967296+xs.getD j 0)/d<4294967296:=by
     rw[Nat.div_lt_iff_lt_mul hd0,Nat.mul_comm];have:(r+1)*4294967296<=d*4294967296:=Nat.mul_le_mul_right _ hr;omega
   have hor:Ref (AV.int .u64 (IntKind.u64.wrap (BitVec.ofInt 64 ((r*2^32 % 18446744073709551616:Nat):Int)||| BitVec.ofInt 64 ((xs.getD j 0:Nat):Int)).toNat)) (AV.int .u64 ((r*4294967296+xs.getD j 0:Nat):Int)):=by
     refine(Ref.or64 ⟨by omega,by omega⟩).trans (Ref.nat_eq ?_);have e1:r*2^32 % 18446744073709551616=2^32*r:=by rw[Nat.mod_eq_of_lt (by omega),Nat.mul_comm]
     rw[e1,nW hx1];omega
   refine gN wK [0,1,4,5,6,7,8] [(16,tt),(20,.int .u64 ((r*2^32 % 18446744073709551616:Nat):Int)),(23,.cptr [.int .u32 (xs.getD j 0:Int)] 0),(25,.int .u64 (xs.getD j 0:Int)),(26,.int .u64 ((r*4294967296+xs.getD j 0:Nat):Int)),(31,.int .u64 (d:Int)),(32,.int .u64 (((r*4294967296+xs.getD j 0)/d:Nat):Int)),(33,.int .u32 (((r*4294967296+xs.getD j 0)/d:Nat):Int)),(37,.int .u64 (d:Int)),(38,.int .u64 (((r*4294967296+xs.getD j 0) % d:Nat):Int)),(18,.i6 ((j:Int)-(1:Int)))] (.c6 (iT (om ((0:Int)<=(j:Int)))) (show Ref (.int .u64 (IntKind.u64.wrap ((r:Int)*2^(min (32:Int).toNat 64)))) (.int .u64 ((r*2^32 % 18446744073709551616:Nat):Int)) from Ref.shl64 (x:=r) (k:=32) ((om (32<=64)))) (dc (0<=(32:Int))) (show Ref (.cptr ((aG xs).getD j []) 0) (.cptr [.int .u32 (xs.getD j 0:Int)] 0) from Ref.cd32 ((om (j<xs.length)))) (nn j) (show(j:Int)<((aG xs).length:Int) by rw[aB];omega) (.c6 (wU (xs.getD j 0:Int) (xs.getD j 0:Int)) hor (wU (d:Int) (d:Int)) (show Ref (.int .u64 (IntKind.u64.wrap (((r*4294967296+xs.getD j 0:Nat):Int).tdiv (d:Int)))) (.int .u64 (((r*4294967296+xs.getD j 0)/d:Nat):Int)) from Ref.quo (a:=r*4294967296+xs.getD j 0) (b:=d) rfl rfl (by decide) ((om (((r*4294967296+xs.getD j 0:Nat):Int)<=18446744073709551615)))) (om ((d:Int)≠0)) (wV (((r*4294967296+xs.getD j 0)/d:Nat):Int) (((r*4294967296+xs.getD j 0)/d:Nat):Int) ⟨Int.natCast_nonneg _,by omega⟩) (.c6 (nn j) (om ((j:Int)<(m:Int))) (show 0+j<(aG ds).length by rw[aB];omega) (wU (d:Int) (d:Int)) (show Ref (.int .u64 (((r*4294967296+xs.getD j 0:Nat):Int).tmod (d:Int))) (.int .u64 (((r*4294967296+xs.getD j 0) % d:Nat):Int)) from Ref.rem (a:=r*4294967296+xs.getD j 0) (b:=d) rfl rfl) (om ((d:Int)≠0)) (.a1 (wI ((j:Int)-(1:Int)) ((j:Int)-(1:Int))))))) (t:=Mu) (σ:=slots 43 [(0,.list 1 (aG xs)),(1,.int .u32 (d:Int)),(6,.own 0 1 0 m),(7,(.int .u64 (((r*4294967296+xs.getD j 0) % d:Nat):Int))),(8,.i6 ((j:Int)-(1:Int)))]) (h:=[some ⟨362,1,true,((aG ds).set (0+j) [.int .u32 (((r*4294967296+xs.getD j 0)/d:Nat):Int)]),none⟩]) ?_
   rw[eN,Nat.zero_add];refine ih _ _ (by omega) (Nat.mod_lt _ hd0) (by simp[hl]) (eW hdl hT) ?_;rw[cC (by omega:j<xs.length),cC (by simp;omega:j<(ds.set j ((r*4294967296+xs.getD j 0)/d)).length),cZ (by omega),nU (by omega)];exact wL hinv (by unfold b32;exact(Nat.div_add_mod _ _).symm)
theorem OV:bQ 248 OU:=fun args r ob h ho=>by
 unfold OU at h
 split at h
 · rename_i n B d
   cases h;have h0:0<=d:=ho _ (by simp);have h1:0<d.toNat:=ho _ (by simp);have h2:d.toNat<4294967296:=ho _ (by simp);have hL:B<=LIM:=ho _ (by simp);obtain⟨d,rfl⟩:=Int.eq_ofNat_of_zero_le h0;replace h1:0<d:=h1;replace h2:d<4294967296:=h2;unfold LIM at hL;obtain⟨hx,hxn⟩:=aO (b:=b32) (by decide) n;refine af Tryz.f248 fun S w0=> ?_
   show Good _ _ _ _ _ (eD S w0 (.tup [.nat (n/d) B,.nat (n % d) 64])) _ _;refine Good.natlt (n:=n) (B:=B) 0 rfl fun hn=> ?_
   refine Good.weak 43 [(0,.list 1 (aG (aC b32 n))),(1,.int .u32 ((d:Nat):Int))] (by kernel_rfl) (.cons Ref.opn (.r .nil)) ?_;have l1:=hx.len (by rw[hxn];exact hn);generalize aC b32 n=xs at*;subst hxn;refine cP (p:=(4*((aG xs).length:Int)<=281474976710656)/\((((aG xs).length:Nat):Int)<=(big:Int))/\(-9223372036854775808<=((aG xs).length:Int)-(1:Int)/\((aG xs).length:Int)-(1:Int)<=9223372036854775807)) (by simp only[aB];unfold big;omega) fun⟨q0,q1,q2⟩=>gN wK [0,1,4,5,6,7,8] [(14,.i6 ((((aG xs).length:Nat):Int)-(1:Int)))] (.a5 (rfl:((aG xs).length:Int)=((aG xs).length:Int)) (show 0<=((aG xs).length:Int) from Int.natCast_nonneg _) q0 q1 (wI ((((aG xs).length:Nat):Int)-(1:Int)) ((((aG xs).length:Nat):Int)-(1:Int)) q2)) (t:=Mu) (σ:=slots 43 [(0,.list 1 (aG xs)),(1,.int .u32 (d:Int)),(4,.nil),(5,.nil),(6,.own 0 1 0 ((aG xs).length)),(7,.int .u64 (0:Int)),(8,(.i6 ((((aG xs).length:Nat):Int)-(1:Int))))]) (h:=[some ⟨362,1,true,(List.replicate ((aG xs).length) [.int .u32 (0:Int)]),none⟩]) ?_
   rw[mP];refine Good.weak 43 [(0,_),(1,_),(6,_),(7,_),(8,_)] (by kernel_rfl) (.r (.r (.r (.r (.r .nil))))) ?_;rw[aB];exact Jx rfl hx.1 h1 h2 (by unfold big;omega) hn xs.length 0 _ (by omega) h1 (by simp) (nS (by decide)) (by simp[aH,List.drop_length])
 · cases h
end
def nX:=kn.cons BB
section
variable {S0 C0:Nat->Prop} {w0:World} {Post:Value->World->Prop}
theorem FW (xs ds:List Nat) (n m:Nat) (h1:¬ ((0:Int)<((n % 32:Nat):Int))) (o:(0+m<=(aG ds).length)/\((((aG ds).drop 0).take m)=aG (aZ (((aG ds).drop 0).take m)))/\(∀ x∈aZ (((aG ds).drop 0).take m),x<b32))
   (hg:Good Tryz.prog 262 S0 C0 w0 Post [.code .ret] ⟨slots 54 [(0,.list 1 (aG xs)),(1,.i6 (n:Int)),(4,(.nat (aH b32 (aZ (((aG ds).drop 0).take m))) (32*(((aG ds).drop 0).take m).length))),(6,.i6 ((n % 32:Nat):Int))],[]⟩):
   Good Tryz.prog 262 S0 C0 w0 Post [.code (aN [1,1,1,0,0] (aA Tryz.f262)),.code (aN [1,1,1,0,1] (aA Tryz.f262)),.code (aN [1,1,1,1] (aA Tryz.f262))] ⟨slots 54 [(0,.list 1 (aG xs)),(1,.i6 (n:Int)),(5,.own 0 1 0 m)],[some ⟨362,1,true,(aG ds),none⟩]⟩:=
 tR mixed aT nX 12 none [0,1,4,5,6,7,8] [] [(23,(.i6 ((n % 32:Nat):Int))),(25,(.bool false))] (ob:=[Ref (.i6 ((n:Int).tmod (32:Int))) (.i6 ((n % 32:Nat):Int)),(32:Int)≠0,Ref (.bool (decide ((0:Int)<((n % 32:Nat):Int)))) (.bool false),0+m<=(aG ds).length,(((aG ds).drop 0).take m)=aG (aZ (((aG ds).drop 0).take m)),∀ x∈aZ (((aG ds).drop 0).take m),x<b32]) (by decide) (by kernel_rfl)
   (.cons (Ref.rem (a:=n) (b:=32) rfl rfl) (.cons (by decide) (.cons (Ref.bool (decide_eq_false h1)) (.cons (o.1) (.cons (o.2.1) (.cons (o.2.2) (AllP.nil))))))) hg
end
def OW:KF
 | [.nat n B,.int .i64 k]=>some (.nat (n*2^k.toNat) (B+k.toNat),[0<=k,B+k.toNat<=LIM])
 | _=>none
section
variable {S:Nat->Prop} {w0:World}
noncomputable abbrev Mv:List Item:=[.code (aN [1,1,1,0,1,1,0,1,1,0,0] (aA Tryz.f262)),.inLoop (aN [1,1,1,0,1,1,0,1,1,0,0] (aA Tryz.f262)),.inBlock 0,.code (aN [1,1,1,1] (aA Tryz.f262))]
theorem wM {ds:List Nat} {m N B:Nat} (hm:m=ds.length) (hB:N<2^B) (hN:aH b32 ds=N) (hd:∀ x∈ds,x<b32) {xs:List (Nat×AV)} {V:AV} (hV:V= .nat (aH b32 (aZ (((aG ds).drop 0).take m))) (32*(((aG ds).drop 0).take m).length)):
   ((((aG ds).drop 0).take m)=aG (aZ (((aG ds).drop 0).take m)))/\(∀ x∈aZ (((aG ds).drop 0).take m),x<b32)/\Ref V (.nat N B):=by
 have e0:((aG ds).drop 0).take m=aG ds:=by rw[List.drop_zero,fQ (by rw[aB];omega)]
 subst hV;rw[e0,bV];exact⟨rfl,hd,by rw[hN];exact Ref.natB hB⟩
theorem Jy {xs og:List Nat} {N B m n k:Nat} (hm:m=og.length) (ho:∀ x∈og,x<b32) (hk0:0<k) (hk:k<32) (hbig:m+2<=big)
   (hN:aH b32 og*2^k=N) (hNm:N<b32^m) (hB:N<2^B):∀ (j i c:Nat) (ds:List Nat),j=m-i->i<=m->c<2^k->ds.length=m->(∀ x∈ds,x<b32)->
   aH b32 (ds.take i)+b32^i*c=aH b32 (og.take i)*2^k->(∀ t,i<=t->ds.getD t 0=og.getD t 0)->
   GF 262 S w0 (.nat N B) Mv
     ⟨slots 54 [(0,.list 1 (aG xs)),(1,.i6 ((n:Nat):Int)),(5,.own 0 1 0 m),(6,.i6 ((k:Nat):Int)),(7,.int .u32 ((c:Nat):Int)),(8,.i6 ((i:Nat):Int))],
      [some ⟨362,1,true,(aG ds),none⟩]⟩:=by
 unfold big at hbig;intro j
 induction j with
 | zero=>
   intro i c ds hj hi hc hd hdl hinv hrest;have hi:i=m:=by omega
   subst hi;rw[fQ (by omega),fQ (by omega),hN] at hinv
   have hc0:c=0:=by
     rcases Nat.eq_zero_or_pos c with h | h
     · exact h
     · have:b32^i*1<=b32^i*c:=Nat.mul_le_mul_left _ h
       omega
   subst hc0;obtain⟨q1,q2,q3⟩:=wM (m:=i) hd.symm hB (by omega) hdl (xs:=[]) rfl;refine rF nX [(31,ff)] (.a4 (iF (om (¬ ((i:Int)<(i:Int))))) (show 0+i<=(aG ds).length by rw[aB];omega) q1 q2) (V:=.nat (aH b32 (aZ (((aG ds).drop 0).take i))) (32*(((aG ds).drop 0).take i).length)) q3
 | succ j ih=>
   intro i c ds hj hi hc hd hdl hinv hrest;have hx1:ds.getD i 0<b32:=aY (by decide) hdl i;obtain⟨s1,s2,s3⟩:=EA (k:=k) (by omega) (show ds.getD i 0<2^32 from hx1) hc;have hk2:2^k<2^32:=(Nat.pow_lt_pow_iff_right (by decide)).2 hk;unfold b32 at hx1;have hmod:ds.getD i 0*2^k % 4294967296<4294967296:=Nat.mod_lt _ (by decide);have hc2:c<4294967296:=by omega
   have v0:Ref (((aG ds).getD (0+i) []).headD .any) (.int .u32 (ds.getD (0+i) 0:Int)):=Ref.cd32h ((om (0+i<ds.length)));have v1:0+i<(aG ds).length:=by rw[aB];omega
   have v2:(i:Int)<(m:Int):=by omega
   refine gN nX [0,1,4,5,6,7,8] [(31,tt),(39,.int .u32 (ds.getD (0+i) 0:Int)),(41,.i6 ((32-k:Nat):Int)),(42,.int .u32 (((ds.getD (0+i) 0)/2^(32-k):Nat):Int)),(46,.int .u32 (ds.getD (0+i) 0:Int)),(48,.int .u32 (((ds.getD (0+i) 0)*2^k % 4294967296:Nat):Int)),(50,.int .u32 ((((ds.getD (0+i) 0)*2^k % 4294967296)||| c:Nat):Int)),(33,.i6 ((i+1:Nat):Int))] (.c6 (iT v2) (nn i) v2 v0 v1 (show Ref (.i6 (IntKind.i64.wrap ((32:Int)-(k:Int)))) (.i6 ((32-k:Nat):Int)) from Ref.int ?_) (.c6 (show Ref (.int .u32 (((ds.getD (0+i) 0:Nat):Int).fdiv (2^(min ((32-k:Nat):Int).toNat 32)))) (.int .u32 (((ds.getD (0+i) 0)/2^(32-k):Nat):Int)) from Ref.shrv (x:=ds.getD (0+i) 0) (k:=32-k) ((om (32-k<=32)))) (nn (32-k)) (nn i) v2 v0 v1 (.c6 (show Ref (.int .u32 (IntKind.u32.wrap (((ds.getD (0+i) 0:Nat):Int)*2^(min (k:Int).toNat 32)))) (.int .u32 (((ds.getD (0+i) 0)*2^k % 4294967296:Nat):Int)) from Ref.shl32 (x:=ds.getD (0+i) 0) (k:=k) ((om (k<=32)))) (nn k) (show Ref (.int .u32 (IntKind.u32.wrap (BitVec.ofInt 32 (((ds.getD (0+i) 0)*2^k % 4294967296:Nat):Int)||| BitVec.ofInt 32 (c:Int)).toNat)) (.int .u32 ((((ds.getD (0+i) 0)*2^k % 4294967296)||| c:Nat):Int)) from Ref.or32 (a:=(ds.getD (0+i) 0)*2^k % 4294967296) (b:=c) (⟨by rw[Nat.zero_add];exact hmod,hc2⟩)) (nn i) v2 v1 (.a1 (wI ((i:Int)+(1:Int)) ((i+1:Nat):Int)))))) (t:=Mv) (σ:=slots 54 [(0,.list 1 (aG xs)),(1,.i6 (n:Int)),(5,.own 0 1 0 m),(6,.i6 (k:Int)),(7,(.int .u32 (((ds.getD (0+i) 0)/2^(32-k):Nat):Int))),(8,.i6 ((i+1:Nat):Int))]) (h:=[some ⟨362,1,true,((aG ds).set (0+i) [.int .u32 ((((ds.getD (0+i) 0)*2^k % 4294967296)||| c:Nat):Int)]),none⟩]) ?_
   · rw[qW (by constructor <;> simp[IntKind.min,IntKind.max,IntKind.signed,IntKind.bits] <;> omega)];omega
   · rw[eN,Nat.zero_add]
     have e1:ds.getD i 0*2^k % 4294967296||| c=(ds.getD i 0*2^k+c) % 2^32:=s1;rw[e1,s2];have hlt:(ds.getD i 0*2^k+c) % 2^32<b32:=Nat.mod_lt _ (by decide);refine ih (i+1) _ _ (by omega) (by omega) (by rw[<- s2];exact s3) (by simp[hd]) (eW hdl hlt) ?_ (fun t ht=>by rw[dE (by omega)];exact hrest t (by omega));rw[aQ,aQ b32 og,nR,cZ (by omega),Nat.pow_succ, <- hrest i (rl _)];exact FM (t:=ds.getD i 0*2^k+c) (b:=b32) rfl rfl hinv
theorem Jz (s:Nat) (xs:List Nat):((List.replicate (s+(aG xs).length+1) [(AV.int .u32 (0:Int))]).take (0+s)++(aG xs).take (min (aG xs).length ((s+(aG xs).length+1)-s))++(List.replicate (s+(aG xs).length+1) [(AV.int .u32 (0:Int))]).drop ((0+s)+(min (aG xs).length ((s+(aG xs).length+1)-s))))=aG (List.replicate s 0++xs++ [0]):=by
 have h1:min (aG xs).length ((s+(aG xs).length+1)-s)=(aG xs).length:=by omega
 rw[h1,List.take_replicate,List.drop_replicate,fQ (rl _),Nat.zero_add,show min s (s+(aG xs).length+1)=s by omega,show s+(aG xs).length+1-(s+(aG xs).length)=1 by omega];simp[aG]
theorem OX:bQ 262 OW:=fun args r ob h ho=>by
 unfold OW at h
 split at h
 · rename_i n B k
   cases h;have h0:0<=k:=ho _ (by simp);have hL:B+k.toNat<=LIM:=ho _ (by simp);obtain⟨k,rfl⟩:=Int.eq_ofNat_of_zero_le h0;replace hL:B+k<=LIM:=hL;unfold LIM at hL;obtain⟨hx,hxn⟩:=aO (b:=b32) (by decide) n;refine af Tryz.f262 fun S w0=> ?_
   show Good _ _ _ _ _ (eD S w0 (.nat (n*2^k) (B+k))) _ _;refine Good.natlt (n:=n) (B:=B) 0 rfl fun hn=> ?_
   refine Good.weak 54 [(0,.list 1 (aG (aC b32 n))),(1,.i6 ((k:Nat):Int))] (by kernel_rfl) (.cons Ref.opn (.r .nil)) ?_;have l1:=hx.len (by rw[hxn];exact hn);generalize aC b32 n=xs at*;subst hxn
   have hNB:aH b32 xs*2^k<2^(B+k):=by
     rw[Nat.pow_add];exact Nat.mul_lt_mul_of_pos_right hn (Nat.two_pow_pos k)
   have v0:(32:Int)≠0:=by decide
   refine cP (p:=((k:Int)<=9223372036854775807)/\(-9223372036854775808<=((k/32:Nat):Int)+((aG xs).length:Int)/\((k/32:Nat):Int)+((aG xs).length:Int)<=9223372036854775807)/\(-9223372036854775808<=((k/32+(aG xs).length:Nat):Int)+(1:Int)/\((k/32+(aG xs).length:Nat):Int)+(1:Int)<=9223372036854775807)/\(4*((k/32+(aG xs).length+1:Nat):Int)<=281474976710656)/\(((k/32+(aG xs).length+1:Nat):Int)<=(big:Int))/\(((k/32:Nat):Int)<=((k/32+(aG xs).length+1:Nat):Int))/\((0+(k/32))+((k/32+(aG xs).length+1)-(k/32))<=(List.replicate (k/32+(aG xs).length+1) [(AV.int .u32 (0:Int))]).length)) (by simp only[aB,List.length_replicate];unfold big;omega) fun⟨q0,q1,q2,q3,q4,q5,q6⟩=>gS nX (some 3) [0,1,4,5] [(10,.i6 ((k/32:Nat):Int)),(13,.i6 ((k/32+(aG xs).length:Nat):Int)),(14,.i6 ((k/32+(aG xs).length+1:Nat):Int)),(18,.i6 ((k/32:Nat):Int))] (.c6 (show Ref (.i6 (IntKind.i64.wrap ((k:Int).tdiv (32:Int)))) (.i6 ((k/32:Nat):Int)) from Ref.quo (a:=k) (b:=32) rfl rfl (by decide) q0) v0 (wI (((k/32:Nat):Int)+((aG xs).length:Int)) ((k/32+(aG xs).length:Nat):Int) q1) (wI (((k/32+(aG xs).length:Nat):Int)+(1:Int)) ((k/32+(aG xs).length+1:Nat):Int) q2) (rfl:((k/32+(aG xs).length+1:Nat):Int)=((k/32+(aG xs).length+1:Nat):Int)) (nn (k/32+(aG xs).length+1)) (.c6 q3 q4 (show Ref (.i6 (IntKind.i64.wrap ((k:Int).tdiv (32:Int)))) (.i6 ((k/32:Nat):Int)) from Ref.quo (a:=k) (b:=32) rfl rfl (by decide) q0) v0 (nn (k/32)) q5 (.a1 q6))) (t:=[.code (aN [1,1,1,0,0] (aA Tryz.f262)),.code (aN [1,1,1,0,1] (aA Tryz.f262)),.code (aN [1,1,1,1] (aA Tryz.f262))]) (σ:=slots 54 [(0,.list 1 (aG xs)),(1,.i6 (k:Int)),(4,.nil),(5,.own 0 1 0 (k/32+(aG xs).length+1))]) (h:=[some ⟨362,1,true,((List.replicate (k/32+(aG xs).length+1) [(AV.int .u32 (0:Int))]).take (0+(k/32))++(aG xs).take (min (aG xs).length ((k/32+(aG xs).length+1)-(k/32)))++(List.replicate (k/32+(aG xs).length+1) [(AV.int .u32 (0:Int))]).drop ((0+(k/32))+(min (aG xs).length ((k/32+(aG xs).length+1)-(k/32))))),none⟩]) ?_
   rw[Jz]
   have hog:∀ x∈List.replicate (k/32) 0++xs++ [0],x<b32:=by
     intro x hx';simp only[List.mem_append,List.mem_replicate,List.mem_singleton] at hx';rcases hx' with (⟨_,rfl⟩ | h) | rfl
     · decide
     · exact hx.1 x h
     · decide
   have hval:aH b32 (List.replicate (k/32) 0++xs++ [0])=2^(32*(k/32))*aH b32 xs:=by
     rw[List.append_assoc,eL,nT,eL,List.length_replicate,kX];simp[aH]
   have hlen:(List.replicate (k/32) 0++xs++ [0]).length=k/32+xs.length+1:=by simp;omega
   refine Good.weak 54 [(0,_),(1,_),(5,_)] (by kernel_rfl) (.r (.r (.r .nil))) ?_;rw[aB];have ek:2^(32*(k/32))*2^(k % 32)=2^k:=by rw[<- Nat.pow_add];congr 1;omega
   by_cases hk:0<k % 32
   · refine gN nX [0,1,4,5,6,7,8] [(23,.i6 ((k % 32:Nat):Int)),(25,tt),(27,.i6 ((k/32:Nat):Int))] (.a5 (show Ref (.i6 ((k:Int).tmod (32:Int))) (.i6 ((k % 32:Nat):Int)) from Ref.rem (a:=k) (b:=32) rfl rfl) v0 (iT (om ((0:Int)<((k % 32:Nat):Int)))) (show Ref (.i6 (IntKind.i64.wrap ((k:Int).tdiv (32:Int)))) (.i6 ((k/32:Nat):Int)) from Ref.quo (a:=k) (b:=32) rfl rfl (by decide) ((om ((k:Int)<=9223372036854775807)))) v0) (t:=Mv) (σ:=slots 54 [(0,.list 1 (aG xs)),(1,.i6 (k:Int)),(5,.own 0 1 0 (k/32+xs.length+1)),(6,.i6 ((k % 32:Nat):Int)),(7,.int .u32 (0:Int)),(8,.i6 ((k/32:Nat):Int))]) (h:=[some ⟨362,1,true,(aG (List.replicate (k/32) 0++xs++ [0])),none⟩]) ?_
     have hN:aH b32 (List.replicate (k/32) 0++xs++ [0])*2^(k % 32)=aH b32 xs*2^k:=by
       rw[hval,Nat.mul_comm (2^(32*(k/32))),Nat.mul_assoc,ek]
     refine Good.weak 54 [(0,_),(1,_),(5,_),(6,_),(7,_),(8,_)] (by kernel_rfl) (.r (.r (.r (.r (.r (.r .nil)))))) ?_;refine Jy (og:=List.replicate (k/32) 0++xs++ [0]) hlen.symm hog hk (Nat.mod_lt _ (by decide)) (by unfold big;omega) hN ?_ hNB _ (k/32) 0 _ rfl (by omega) (Nat.two_pow_pos _) hlen hog ?_ (fun _ _=>rfl)
     · rw[kX]
       have h1:aH b32 xs<2^(32*xs.length):=sN hx.1;have h2:aH b32 xs*2^k<2^(32*xs.length)*2^k:=Nat.mul_lt_mul_of_pos_right h1 (Nat.two_pow_pos _);rw[<- Nat.pow_add] at h2;exact Nat.lt_of_lt_of_le h2 (Nat.pow_le_pow_right (by decide) (by omega))
     · rw[List.append_assoc,List.take_append_of_le_length (by simp),fQ (by simp),nT];simp
   · have hk:k % 32=0:=by omega
     rw[hk,Nat.pow_zero,Nat.mul_one] at ek;obtain⟨q1,q2,q3⟩:=wM (m:=k/32+xs.length+1) hlen.symm hNB (by rw[hval,ek,Nat.mul_comm]) hog (xs:=[]) rfl;exact FW xs (List.replicate (k/32) 0++xs++ [0]) k (k/32+xs.length+1) (by omega) ⟨by rw[aB];omega,q1,q2⟩ (bP aT (fn:=Tryz.f262) (by kernel_rfl) 4 (by kernel_rfl) rfl (by rfl) q3)
 · cases h
end
def FX:=kn
def OY:List AV->List ABlk->Option (AV×List (Option ABlk)×List Prop)
 | [.list 1 X],[]=>some (.own 0 1 0 X.length,[some ⟨362,1,true,X,none⟩],[0<X.length,X.length<=LIM])
 | _,_=>none
theorem OZ (args:List AV) (b:List ABlk) (r:AV) (h2:List (Option ABlk)) (ob:List Prop) (h:OY args b=some (r,h2,ob)) (ho:AllP ob):nD Tryz.prog 300 args b r h2:=by
 unfold OY at h
 split at h
 · rename_i X
   cases h;have o1:0<X.length:=ho _ (by simp);have o2:X.length<=LIM:=ho _ (by simp);unfold LIM at o2;refine lR (fn:=Tryz.f300) (c:=aA Tryz.f300) (by kernel_rfl) (by kernel_rfl) (by kernel_rfl) (by simp) fun S w0 ρ hρ=> ?_
   have e:(kC [AV.list 1 X] Tryz.f300.ntmps).σ=slots 8 [(0,.list 1 X)]:=by kernel_rfl
   rw[e];have e0:0+X.length=X.length:=Nat.zero_add _;refine gR FX none [2] [1] [] (.a4 o1 (rfl:0=0) (om ((0+X.length)*4<=140737488355328)) (show 0+X.length<=big by unfold big;omega)) (t:=[.code .ret]) (σ:=slots 8 [(2,.own 0 1 0 (0+X.length))]) (h:=[some ⟨362,1,true,([]++X),none⟩]) ?_
   rw[e0];exact jV aT (fn:=Tryz.f300) (by kernel_rfl) (.inr ⟨_,rfl⟩) (Vs:=[AV.own 0 1 0 X.length]) (by kernel_rfl) (by rfl) (by rfl) (fun l hl=>absurd hl (by simp)) (fun l hl=>absurd hl (by simp)) rr
 · cases h
def kF:=(kn.cons BB).consH OZ
section
variable {S0 C0:Nat->Prop} {w0:World} {Post:Value->World->Prop}
theorem FY (ds:List Nat) (n m:Nat) (h1:¬ ((0:Int)<((n % 32:Nat):Int))) (o:(0+m<=(aG ds).length)/\((((aG ds).drop 0).take m)=aG (aZ (((aG ds).drop 0).take m)))/\(∀ x∈aZ (((aG ds).drop 0).take m),x<b32))
   (hg:Good Tryz.prog 265 S0 C0 w0 Post [.code .ret] ⟨slots 56 [(4,(.nat (aH b32 (aZ (((aG ds).drop 0).take m))) (32*(((aG ds).drop 0).take m).length))),(6,.i6 ((n % 32:Nat):Int))],[]⟩):
   Good Tryz.prog 265 S0 C0 w0 Post [.code (aN [1,1,1,0,0] (aA Tryz.f265)),.code (aN [1,1,1,0,1] (aA Tryz.f265)),.code (aN [1,1,1,1] (aA Tryz.f265))] ⟨slots 56 [(1,.i6 (n:Int)),(5,.own 0 1 0 m)],[some ⟨362,1,true,(aG ds),none⟩]⟩:=
 tR mixed aT kF 12 none [4,5,6,22,23,24] [] [(19,(.i6 ((n % 32:Nat):Int))),(21,(.bool false))] (ob:=[Ref (.i6 ((n:Int).tmod (32:Int))) (.i6 ((n % 32:Nat):Int)),(32:Int)≠0,Ref (.bool (decide ((0:Int)<((n % 32:Nat):Int)))) (.bool false),0+m<=(aG ds).length,(((aG ds).drop 0).take m)=aG (aZ (((aG ds).drop 0).take m)),∀ x∈aZ (((aG ds).drop 0).take m),x<b32]) (by decide) (by kernel_rfl)
   (.cons (Ref.rem (a:=n) (b:=32) rfl rfl) (.cons (by decide) (.cons (Ref.bool (decide_eq_false h1)) (.cons (o.1) (.cons (o.2.1) (.cons (o.2.2) (AllP.nil))))))) hg
end
def Pa:KF
 | [.nat n B,.int .i64 k]=>some (.nat (n/2^k.toNat) B,[0<=k,B<=LIM,k<=9223372036854775807])
 | _=>none
theorem Ref.cd32u {ds:List Nat} {i v:Nat} (h:ds.getD i 0=v) (hi:i<ds.length):Ref (((aG ds).getD i []).headD .any) (.int .u32 ((v:Nat):Int)):=Ref.eq (by rw[Af hi,h];rfl)
section
variable {S:Nat->Prop} {w0:World}
noncomputable abbrev FZ:List Item:=[.code (aN [1,1,1,0,1,1,0,1,0,0] (aA Tryz.f265)),.inLoop (aN [1,1,1,0,1,1,0,1,0,0] (aA Tryz.f265)),.inBlock 0,.code (aN [1,1,1,1] (aA Tryz.f265))]
theorem JA {og:List Nat} {B m k:Nat} (hm:m=og.length) (ho:∀ x∈og,x<b32) (hk0:0<k) (hk:k<32) (hbig:m+2<=big) (hB:aH b32 og/2^k<2^B):
   ∀ (j i:Nat) (ds:List Nat),j=m-i->i<=m->ds.length=m->(∀ x∈ds,x<b32)->
   aH b32 (ds.take i)*2^k+og.getD 0 0 % 2^k=aH b32 (og.take i)+b32^i*(og.getD i 0 % 2^k)->(∀ t,i<=t->ds.getD t 0=og.getD t 0)->
   GF 265 S w0 (.nat (aH b32 og/2^k) B) FZ
     ⟨slots 56 [(5,.own 0 1 0 m),(6,.i6 ((k:Nat):Int)),(22,.own 0 1 0 m),(23,.i6 ((m:Nat):Int)),(24,.i6 ((i:Nat):Int))],
      [some ⟨362,1,true,(aG ds),none⟩]⟩:=by
 unfold big at hbig;intro j
 induction j with
 | zero=>
   intro i ds hj hi hd hdl hinv hrest;have hi:i=m:=by omega
   subst hi;have hz:og.getD i 0=0:=by simp[mQ,hm]
   rw[fQ (by omega),fQ (by omega),hz,Nat.zero_mod,Nat.mul_zero,Nat.add_zero] at hinv;obtain⟨e1,_⟩:=pF hinv.symm (Nat.mod_lt _ (Nat.two_pow_pos k));obtain⟨q1,q2,q3⟩:=wM (m:=i) hd.symm hB e1.symm hdl (xs:=[]) rfl;refine rF kF [(25,ff)] (.a4 (iF (om (¬ ((i:Int)<(i:Int))))) (show 0+i<=(aG ds).length by rw[aB];omega) q1 q2) (V:=.nat (aH b32 (aZ (((aG ds).drop 0).take i))) (32*(((aG ds).drop 0).take i).length)) q3
 | succ j ih=>
   intro i ds hj hi hd hdl hinv hrest;have hx1:ds.getD i 0<b32:=aY (by decide) hdl i;have hy1:ds.getD (i+1) 0<b32:=aY (by decide) hdl (i+1);obtain⟨s1,s2⟩:=EB (k:=k) (x:=ds.getD i 0) (y:=ds.getD (i+1) 0) (by omega) (show ds.getD i 0<2^32 from hx1);unfold b32 at hx1 hy1;have hdv:ds.getD i 0/2^k<4294967296:=Nat.lt_of_le_of_lt (Nat.div_le_self _ _) hx1
   have nx:∀ o,o<b32->o*2^k+ds.getD i 0 % 2^k=ds.getD i 0+b32*(ds.getD (i+1) 0 % 2^k)->GF 265 S w0 (.nat (aH b32 og/2^k) B) FZ
     ⟨slots 56 [(5,.own 0 1 0 m),(6,.i6 ((k:Nat):Int)),(22,.own 0 1 0 m),(23,.i6 ((m:Nat):Int)),(24,.i6 ((i+1:Nat):Int))],
      [some ⟨362,1,true,(aG (ds.set i o)),none⟩]⟩:=by
     intro o ho' hoe;refine ih (i+1) _ (by omega) (by omega) (by simp[hd]) (eW hdl ho') ?_ (fun t ht=>by rw[dE (by omega)];exact hrest t (by omega));rw[aQ,aQ b32 og,nR,cZ (by omega),Nat.pow_succ, <- hrest i (rl _), <- hrest (i+1) (by omega)];refine FN hoe ?_;rw[hrest i (rl _)];exact hinv
   have e1:∀ v:Nat,((aG ds).set (0+i) [(AV.int .u32 ((v:Nat):Int))])=aG (ds.set i v):=fun v=>by rw[eN,Nat.zero_add]
   have v0:Ref (.int .u32 (((ds.getD (0+i) 0:Nat):Int).fdiv (2^(min (k:Int).toNat 32)))) (.int .u32 (((ds.getD (0+i) 0)/2^k:Nat):Int)):=Ref.shrv (x:=ds.getD (0+i) 0) (k:=k) ((om (k<=32)));have v1:(i:Int)<(m:Int):=by omega
   have v2:0+i<(aG ds).length:=by rw[aB];omega
   have v4:Ref (((aG ds).getD (0+i) []).headD .any) (.int .u32 (ds.getD (0+i) 0:Int)):=Ref.cd32h ((om (0+i<ds.length)))
   by_cases hl:i+1<m
   · have v3:0+i<((aG ds).set (0+i) [(AV.int .u32 (((ds.getD (0+i) 0)/2^k:Nat):Int))]).length:=by rw[e1,aB];simp;omega
     have v5:((i+1:Nat):Int)<(m:Int):=by omega
     refine gN kF [4,5,6,22,23,24] [(25,tt),(30,.int .u32 (ds.getD (0+i) 0:Int)),(32,.int .u32 (((ds.getD (0+i) 0)/2^k:Nat):Int)),(35,.i6 ((i+1:Nat):Int)),(38,tt),(42,.int .u32 ((ds.getD i 0/2^k:Nat):Int)),(45,.i6 ((i+1:Nat):Int)),(47,.int .u32 (ds.getD (i+1) 0:Int)),(49,.i6 ((32-k:Nat):Int)),(50,.int .u32 (((ds.getD (i+1) 0)*2^(32-k) % 4294967296:Nat):Int)),(51,.int .u32 (((ds.getD i 0/2^k)||| ((ds.getD (i+1) 0)*2^(32-k) % 4294967296):Nat):Int)),(53,.i6 ((i+1:Nat):Int))] (.c6 (iT v1) (nn i) v1 v4 v2 v0 (.c6 (nn k) (nn i) v1 v2 (wI ((i:Int)+(1:Int)) ((i+1:Nat):Int)) (iT v5) (.c6 (nn i) v1 (show Ref ((((aG ds).set (0+i) [(AV.int .u32 (((ds.getD (0+i) 0)/2^k:Nat):Int))]).getD (0+i) []).headD .any) (.int .u32 ((ds.getD i 0/2^k:Nat):Int)) from ?_) v3 (wI ((i:Int)+(1:Int)) ((i+1:Nat):Int)) (nn (i+1)) (.c6 v5 (show Ref ((((aG ds).set (0+i) [(AV.int .u32 (((ds.getD (0+i) 0)/2^k:Nat):Int))]).getD (0+(i+1)) []).headD .any) (.int .u32 (ds.getD (i+1) 0:Int)) from ?_) (show 0+(i+1)<((aG ds).set (0+i) [(AV.int .u32 (((ds.getD (0+i) 0)/2^k:Nat):Int))]).length by rw[e1,aB];simp;omega) (show Ref (.i6 (IntKind.i64.wrap ((32:Int)-(k:Int)))) (.i6 ((32-k:Nat):Int)) from Ref.int ?_) (show Ref (.int .u32 (IntKind.u32.wrap (((ds.getD (i+1) 0:Nat):Int)*2^(min ((32-k:Nat):Int).toNat 32)))) (.int .u32 (((ds.getD (i+1) 0)*2^(32-k) % 4294967296:Nat):Int)) from Ref.shl32 (x:=ds.getD (i+1) 0) (k:=32-k) ((om (32-k<=32)))) (nn (32-k)) (.a5 (show Ref (.int .u32 (IntKind.u32.wrap (BitVec.ofInt 32 ((ds.getD i 0/2^k:Nat):Int)||| BitVec.ofInt 32 (((ds.getD (i+1) 0)*2^(32-k) % 4294967296:Nat):Int)).toNat)) (.int .u32 (((ds.getD i 0/2^k)||| ((ds.getD (i+1) 0)*2^(32-k) % 4294967296):Nat):Int)) from Ref.or32 (a:=ds.getD i 0/2^k) (b:=(ds.getD (i+1) 0)*2^(32-k) % 4294967296) ((show(ds.getD i 0/2^k)<4294967296/\((ds.getD (i+1) 0)*2^(32-k) % 4294967296)<4294967296 from⟨hdv,Nat.mod_lt _ (by decide)⟩))) (nn i) v1 v3 (wI ((i:Int)+(1:Int)) ((i+1:Nat):Int))))))) (t:=FZ) (σ:=slots 56 [(5,.own 0 1 0 m),(6,.i6 (k:Int)),(22,.own 0 1 0 m),(23,.i6 (m:Int)),(24,.i6 ((i+1:Nat):Int))]) (h:=[some ⟨362,1,true,(((aG ds).set (0+i) [(AV.int .u32 (((ds.getD (0+i) 0)/2^k:Nat):Int))]).set (0+i) [.int .u32 (((ds.getD i 0/2^k)||| ((ds.getD (i+1) 0)*2^(32-k) % 4294967296):Nat):Int)]),none⟩]) ?_
     · rw[e1]
       exact Ref.cd32u (by simp only[Nat.zero_add];rw[cZ (by omega)]) (by simp;omega)
     · rw[e1]
       exact Ref.cd32u (by simp only[Nat.zero_add];rw[dE (by omega)]) (by simp;omega)
     · rw[qW (by constructor <;> simp[IntKind.min,IntKind.max,IntKind.signed,IntKind.bits] <;> omega)];omega
     · rw[e1,eN,Nat.zero_add,List.set_set]
       exact nx _ s2 s1
   · refine gN kF [4,5,6,22,23,24] [(25,tt),(30,.int .u32 (ds.getD (0+i) 0:Int)),(32,.int .u32 (((ds.getD (0+i) 0)/2^k:Nat):Int)),(35,.i6 ((i+1:Nat):Int)),(38,ff),(53,.i6 ((i+1:Nat):Int))] (.c6 (iT v1) (nn i) v1 v4 v2 v0 (.c6 (nn k) (nn i) v1 v2 (wI ((i:Int)+(1:Int)) ((i+1:Nat):Int)) (iF (om (¬ (((i+1:Nat):Int)<(m:Int))))) (.a1 (wI ((i:Int)+(1:Int)) ((i+1:Nat):Int))))) (t:=FZ) (σ:=slots 56 [(5,.own 0 1 0 m),(6,.i6 (k:Int)),(22,.own 0 1 0 m),(23,.i6 (m:Int)),(24,.i6 ((i+1:Nat):Int))]) (h:=[some ⟨362,1,true,((aG ds).set (0+i) [.int .u32 (((ds.getD (0+i) 0)/2^k:Nat):Int)]),none⟩]) ?_
     rw[e1,Nat.zero_add]
     have hz:ds.getD (i+1) 0=0:=by
       rw[mQ,List.getElem?_eq_none (by omega)];rfl
     refine nx _ hdv ?_;rw[hz,Nat.zero_mod,Nat.mul_zero,Nat.mul_comm,Nat.div_add_mod];omega
theorem Al (s:Nat) (xs:List Nat):((aG xs).take ((aG xs).length)).drop s=aG (xs.drop s):=by
 rw[fQ (rl _),Br]
theorem Pb:bQ 265 Pa:=fun args r ob h ho=>by
 unfold Pa at h
 split at h
 · rename_i n B k
   cases h;have h0:0<=k:=ho _ (by simp);have hL:B<=LIM:=ho _ (by simp);have hk9:k<=9223372036854775807:=ho _ (by simp);obtain⟨k,rfl⟩:=Int.eq_ofNat_of_zero_le h0;replace hk9:(k:Int)<=9223372036854775807:=hk9;unfold LIM at hL;obtain⟨hx,hxn⟩:=aO (b:=b32) (by decide) n;refine af Tryz.f265 fun S w0=> ?_
   show Good _ _ _ _ _ (eD S w0 (.nat (n/2^k) B)) _ _;refine Good.natlt (n:=n) (B:=B) 0 rfl fun hn=> ?_
   refine Good.weak 56 [(0,.list 1 (aG (aC b32 n))),(1,.i6 ((k:Nat):Int))] (by kernel_rfl) (.cons Ref.opn (.r .nil)) ?_;have l1:=hx.len (by rw[hxn];exact hn);generalize aC b32 n=xs at*;subst hxn;have hlt:=sN hx.1;have hB:aH b32 xs/2^k<2^B:=Nat.lt_of_le_of_lt (Nat.div_le_self _ _) hn;have v0:Ref (.i6 (IntKind.i64.wrap ((k:Int).tdiv (32:Int)))) (.i6 ((k/32:Nat):Int)):=Ref.quo (a:=k) (b:=32) rfl rfl (by decide) hk9;have v1:(32:Int)≠0:=by decide
   by_cases hs:xs.length<=k/32
   · refine rF kF [(9,.i6 ((k/32:Nat):Int)),(12,tt)] (.a3 v0 v1 (iT (show((aG xs).length:Int)<=((k/32:Nat):Int) by rw[aB];omega))) (V:=AV.nil) ?_
     have:aH b32 xs<2^k:=Nat.lt_of_lt_of_le hlt (Nat.pow_le_pow_right (by decide) (by omega));rw[Nat.div_eq_of_lt this];exact Ref.nil0
   · refine gS kF (some 4) [0,1,4,5] [(9,.i6 ((k/32:Nat):Int)),(12,ff),(15,.i6 ((k/32:Nat):Int))] (.c6 v0 v1 (iF (show ¬ ((((aG xs).length:Nat):Int)<=((k/32:Nat):Int)) by rw[aB];omega)) v0 v1 (nn (k/32)) (.a3 (show((k/32:Nat):Int)<=((aG xs).length:Int) by rw[aB];omega) (show 0<(((aG xs).take ((aG xs).length)).drop (k/32)).length by rw[Al,aB,List.length_drop];omega) (show(((aG xs).take ((aG xs).length)).drop (k/32)).length<=LIM by rw[Al,aB,List.length_drop];unfold LIM;omega))) (t:=[.code (aN [1,1,1,0,0] (aA Tryz.f265)),.code (aN [1,1,1,0,1] (aA Tryz.f265)),.code (aN [1,1,1,1] (aA Tryz.f265))]) (σ:=slots 56 [(0,.list 1 (aG xs)),(1,.i6 (k:Int)),(4,.nil),(5,(.own 0 1 0 ((((aG xs).take ((aG xs).length)).drop (k/32)).length)))]) (h:=[some ⟨362,1,true,(((aG xs).take ((aG xs).length)).drop (k/32)),none⟩]) ?_
     rw[Al,aB];refine Good.weak 56 [(1,_),(5,_)] (by kernel_rfl) (.r (.r .nil)) ?_;have hog:∀ x∈xs.drop (k/32),x<b32:=fun x h=>hx.1 x (List.mem_of_mem_drop h)
     have hv:aH b32 xs/2^(32*(k/32))=aH b32 (xs.drop (k/32)):=by
       rw[<- kX];refine(pF (r:=aH b32 (xs.take (k/32))) ?_ (dA (by decide) hx.1 _)).1;rw[cR b32 (k/32) xs,Nat.mul_comm];omega
     have e2:aH b32 xs/2^k=aH b32 (xs.drop (k/32))/2^(k % 32):=by
       rw[<- hv,Nat.div_div_eq_div_mul, <- Nat.pow_add];congr 2;omega
     rw[e2] at hB ⊢;have hlen:(xs.drop (k/32)).length=xs.length-k/32:=List.length_drop
     by_cases hk:0<k % 32
     · refine gN kF [4,5,6,22,23,24] [(19,.i6 ((k % 32:Nat):Int)),(21,tt)] (.a3 (show Ref (.i6 ((k:Int).tmod (32:Int))) (.i6 ((k % 32:Nat):Int)) from Ref.rem (a:=k) (b:=32) rfl rfl) v1 (iT (om ((0:Int)<((k % 32:Nat):Int))))) (t:=FZ) (σ:=slots 56 [(5,(.own 0 1 0 ((List.drop (k/32) xs).length))),(6,.i6 ((k % 32:Nat):Int)),(22,(.own 0 1 0 ((List.drop (k/32) xs).length))),(23,(.i6 ((((List.drop (k/32) xs).length):Nat):Int))),(24,.i6 (0:Int))]) (h:=[some ⟨362,1,true,(aG (List.drop (k/32) xs)),none⟩]) ?_
       refine JA rfl hog hk (Nat.mod_lt _ (by decide)) (by unfold big;omega) hB _ 0 _ rfl (by omega) rfl hog (by simp[aH]) (fun _ _=>rfl)
     · have hk:k % 32=0:=by omega
       obtain⟨q1,q2,q3⟩:=wM (N:=aH b32 (xs.drop (k/32))/2^(k % 32)) (m:=(xs.drop (k/32)).length) rfl hB (by rw[hk];simp) hog (xs:=[]) rfl;exact FY (List.drop (k/32) xs) k ((List.drop (k/32) xs).length) (by omega) ⟨by rw[aB];omega,q1,q2⟩ (bP aT (fn:=Tryz.f265) (by kernel_rfl) 4 (by kernel_rfl) rfl (by rfl) q3)
 · cases h
end
def kG:=kn
def Pc:KF
 | [.nat n _,.nat m _]=>some (.int .i64 (gY n m),[])
 | _=>none
section
variable {S:Nat->Prop} {w0:World}
noncomputable abbrev Mw:List Item:=[.code (aN [1,1,0,1,0,0] (aA Tryz.f207)),.inLoop (aN [1,1,0,1,0,0] (aA Tryz.f207)),.inBlock 0,.code (aN [1,1,1] (aA Tryz.f207))]
theorem JB {xs ys:List Nat} (hl:xs.length=ys.length) (hx:∀ x∈xs,x<b32) (hy:∀ x∈ys,x<b32) (hb:xs.length<=big):∀ (j:Nat),j<=xs.length->xs.drop j=ys.drop j->
   GF 207 S w0 (.i6 (gY (aH b32 xs) (aH b32 ys))) Mw ⟨slots 41 [(0,.list 1 (aG xs)),(1,.list 1 (aG ys)),(5,(.i6 (((j:Nat):Int)-1)))],[]⟩:=by
 unfold big at hb;intro j
 induction j with
 | zero=>
   intro _ hd;refine rF kG [(20,ff)] (.a1 (iF (om (¬ ((0:Int)<=((0:Int)-1)))))) (V:=.i6 (0:Int)) ?_
   simp only[List.drop_zero] at hd;subst hd;exact Ref.int (Dr _).symm
 | succ j ih=>
   intro hj hd;have e:((((j+1:Nat):Int)-1).toNat)=j:=by omega
   have o:((((j+1:Nat):Int)-1).toNat<xs.length)/\(0<=(((j+1:Nat):Int)-1))/\((((j+1:Nat):Int)-1)<(((aG xs).length:Nat):Int))/\((((j+1:Nat):Int)-1).toNat<ys.length)/\((((j+1:Nat):Int)-1)<(((aG ys).length:Nat):Int)):=by
     simp only[aB];omega
   have v1:(0:Int)<=((((j+1):Nat):Int)-1):=by omega
   by_cases h:xs.getD j 0=ys.getD j 0
   · refine gN kG [0,1,4,5] [(20,tt),(25,.cptr [.int .u32 (xs.getD (((((j+1):Nat):Int)-1).toNat) 0:Int)] 0),(29,.cptr [.int .u32 (ys.getD (((((j+1):Nat):Int)-1).toNat) 0:Int)] 0),(31,ff),(22,.i6 (((((j+1):Nat):Int)-1)-(1:Int)))] (.c6 (iT v1) (Ref.cd32 o.1) o.2.1 o.2.2.1 (Ref.cd32 o.2.2.2.1) o.2.1 (.a3 o.2.2.2.2 (jF (show(xs.getD (((((j+1):Nat):Int)-1).toNat) 0:Int)=(ys.getD (((((j+1):Nat):Int)-1).toNat) 0:Int) by rw[e,h])) (wI (((((j+1):Nat):Int)-1)-(1:Int)) (((((j+1):Nat):Int)-1)-(1:Int))))) (t:=Mw) (σ:=slots 41 [(0,.list 1 (aG xs)),(1,.list 1 (aG ys)),(5,(.i6 (((((j+1):Nat):Int)-1)-(1:Int))))]) (h:=[]) ?_
     rw[show(((j+1:Nat):Int)-1)-(1:Int)=((j:Nat):Int)-1 by omega];refine ih (by omega) ?_;rw[List.drop_eq_getElem_cons (by omega:j<xs.length),List.drop_eq_getElem_cons (by omega:j<ys.length),hd]
     have:xs[j]'(by omega)=ys[j]'(by omega):=by
       simpa[mQ,show j<xs.length by omega,show j<ys.length by omega] using h
     rw[this]
   · have v0:¬ (((xs.getD (((((j+1):Nat):Int)-1).toNat) 0:Nat):Int)=(ys.getD (((((j+1):Nat):Int)-1).toNat) 0:Int)):=by rw[e];omega
     by_cases h2:xs.getD j 0<ys.getD j 0
     · refine rF kG [(20,tt),(25,.cptr [.int .u32 (xs.getD (((((j+1):Nat):Int)-1).toNat) 0:Int)] 0),(29,.cptr [.int .u32 (ys.getD (((((j+1):Nat):Int)-1).toNat) 0:Int)] 0),(31,tt),(34,.cptr [.int .u32 (xs.getD (((((j+1):Nat):Int)-1).toNat) 0:Int)] 0),(38,.cptr [.int .u32 (ys.getD (((((j+1):Nat):Int)-1).toNat) 0:Int)] 0),(40,tt)] (.c6 (iT v1) (Ref.cd32 o.1) o.2.1 o.2.2.1 (Ref.cd32 o.2.2.2.1) o.2.1 (.c6 o.2.2.2.2 (jT v0) (Ref.cd32 o.1) o.2.1 o.2.2.1 (Ref.cd32 o.2.2.2.1) (.a3 o.2.1 o.2.2.2.2 (iT (show(xs.getD (((((j+1):Nat):Int)-1).toNat) 0:Int)<(ys.getD (((((j+1):Nat):Int)-1).toNat) 0:Int) by rw[e];omega))))) (V:=.i6 (-1:Int)) ?_
       exact Ref.int (uF (gX (by decide) hx hd h2)).symm
     · refine rF kG [(20,tt),(25,.cptr [.int .u32 (xs.getD (((((j+1):Nat):Int)-1).toNat) 0:Int)] 0),(29,.cptr [.int .u32 (ys.getD (((((j+1):Nat):Int)-1).toNat) 0:Int)] 0),(31,tt),(34,.cptr [.int .u32 (xs.getD (((((j+1):Nat):Int)-1).toNat) 0:Int)] 0),(38,.cptr [.int .u32 (ys.getD (((((j+1):Nat):Int)-1).toNat) 0:Int)] 0),(40,ff)] (.c6 (iT v1) (Ref.cd32 o.1) o.2.1 o.2.2.1 (Ref.cd32 o.2.2.2.1) o.2.1 (.c6 o.2.2.2.2 (jT v0) (Ref.cd32 o.1) o.2.1 o.2.2.1 (Ref.cd32 o.2.2.2.1) (.a3 o.2.1 o.2.2.2.2 (iF (show ¬ (((xs.getD (((((j+1):Nat):Int)-1).toNat) 0:Nat):Int)<(ys.getD (((((j+1):Nat):Int)-1).toNat) 0:Int)) by rw[e];omega))))) (V:=.i6 (1:Int)) ?_
       exact Ref.int (uG (gX (by decide) hy hd.symm (by omega))).symm
theorem Ga:bQ 207 Pc:=fun args r ob h ho=>by
 unfold Pc at h
 split at h
 · rename_i n B m C
   cases h;obtain⟨hx,hxn⟩:=aO (b:=b32) (by decide) n;obtain⟨hy,hyn⟩:=aO (b:=b32) (by decide) m;refine af Tryz.f207 fun S w0=> ?_
   refine Good.weak 41 [(0,.list 1 (aG (aC b32 n))),(1,.list 1 (aG (aC b32 m)))] (by kernel_rfl) (.cons Ref.opn (.cons Ref.opn .nil)) ?_;refine Good.len 0 (e:=1) (xs:=aG (aC b32 n)) (by rfl) fun hb=> ?_
   rw[aB] at hb;generalize aC b32 n=xs at*;generalize aC b32 m=ys at*;subst hxn;subst hyn
   by_cases h1:xs.length=ys.length
   · refine gN kG [0,1,4,5] [(10,ff),(18,.i6 ((((aG xs).length:Nat):Int)-(1:Int)))] (.a2 (jF (show((aG xs).length:Int)=((aG ys).length:Int) by simp only[aB];omega)) (wI ((((aG xs).length:Nat):Int)-(1:Int)) ((((aG xs).length:Nat):Int)-(1:Int)) (by simp only[aB];unfold big at hb;omega))) (t:=Mw) (σ:=slots 41 [(0,.list 1 (aG xs)),(1,.list 1 (aG ys)),(4,.i6 (0:Int)),(5,(.i6 ((((aG xs).length:Nat):Int)-(1:Int))))]) (h:=[]) ?_
     rw[aB];refine Good.weak 41 [(0,_),(1,_),(5,_)] (by kernel_rfl) (.r (.r (.r .nil))) ?_;exact JB h1 hx.1 hy.1 hb xs.length (rl _) (by rw[List.drop_length,h1,List.drop_length])
   · have v0:¬ ((((aG xs).length:Nat):Int)=((aG ys).length:Int)):=by simp only[aB];omega
     by_cases h2:xs.length<ys.length
     · refine rF kG [(10,tt),(15,tt)] (.a2 (jT v0) (iT (show((aG xs).length:Int)<((aG ys).length:Int) by simp only[aB];omega))) (V:=.i6 (-1:Int)) ?_
       exact Ref.int (uF (dU (by decide) hx hy h2)).symm
     · refine rF kG [(10,tt),(15,ff)] (.a2 (jT v0) (iF (show ¬ ((((aG xs).length:Nat):Int)<((aG ys).length:Int)) by simp only[aB];omega))) (V:=.i6 (1:Int)) ?_
       exact Ref.int (uG (dU (by decide) hy hx (by omega))).symm
 · cases h
end
def gA:ByteArray:=(ByteArray.mk #[0,1,2,2,3,3,3,3,4,4,4,4,4,4,4,4,5,5,5,5,5,5,5,5,5,5,5,5,5,5,5,5,6,6,6,6,6,6,6,6,6,6,6,6,6,6,6,6,6,6,6,6,6,6,6,6,6,6,6,6,6,6,6,6,7,7,7,7,7,7,7,7,7,7,7,7,7,7,7,7,7,7,7,7,7,7,7,7,7,7,7,7,7,7,7,7,7,7,7,7,7,7,7,7,7,7,7,7,7,7,7,7,7,7,7,7,7,7,7,7,7,7,7,7,7,7,7,7,8,8,8,8,8,8,8,8,8,8,8,8,8,8,8,8,8,8,8,8,8,8,8,8,8,8,8,8,8,8,8,8,8,8,8,8,8,8,8,8,8,8,8,8,8,8,8,8,8,8,8,8,8,8,8,8,8,8,8,8,8,8,8,8,8,8,8,8,8,8,8,8,8,8,8,8,8,8,8,8,8,8,8,8,8,8,8,8,8,8,8,8,8,8,8,8,8,8,8,8,8,8,8,8,8,8,8,8,8,8,8,8,8,8,8,8,8,8,8,8,8,8,8,8,8,8,8,8])
def aR (n:Nat):Nat:=if n=0 then 0 else n.log2+1
theorem EM {n k:Nat} (h1:2^k<=n) (h2:n<2^(k+1)):aR n=k+1:=by
 have h0:n≠0:=by have:=Nat.two_pow_pos k;omega
 unfold aR;rw[if_neg h0];have h3:=(Nat.le_log2 h0).2 h1;have h4:=(Nat.log2_lt h0).2 h2;omega
theorem kY {n:Nat} (h:n≠0):0<aR n/\2^(aR n-1)<=n/\n<2^aR n:=by
 unfold aR;rw[if_neg h];exact⟨by omega,by simpa using Nat.log2_self_le h,Nat.lt_log2_self⟩
theorem kH {n k:Nat} (h:2^k<=n):aR n=k+aR (n/2^k):=by
 have hp:=Nat.two_pow_pos k;have h0:n/2^k≠0:=by have:=(Nat.le_div_iff_mul_le hp).2 (by rw[Nat.one_mul];exact h:1*2^k<=n);omega
 obtain⟨h1,h2,h3⟩:=kY h0;have e:k+aR (n/2^k)=(k+(aR (n/2^k)-1))+1:=by omega
 rw[e];refine EM ?_ ?_
 · rw[Nat.pow_add]
   exact Nat.le_trans (Nat.mul_le_mul_left _ h2) (Nat.mul_div_le _ _)
 · rw[show k+(aR (n/2^k)-1)+1=k+aR (n/2^k) by omega,Nat.pow_add,Nat.mul_comm]
   exact(Nat.div_lt_iff_lt_mul hp).1 h3
theorem Gb:(List.range 256).all (fun i=>(gA.data.toList.getD i 0).toNat==aR i)=true:=by kernel_rfl
theorem Gc {i:Nat} (h:i<256):(gA.data.toList.getD i 0).toNat=aR i:=by
 have:=List.all_eq_true.1 Gb i (List.mem_range.2 h);exact eq_of_beq this
theorem qZ {i:Nat} (h:i<256):Ref (.int .u8 (((gA.data.toList.getD i 0).toNat:Nat):Int)) (.int .u8 ((aR i:Nat):Int)):=Ref.int (by rw[Gc h])
theorem pG:gA.size=256:=by kernel_rfl
theorem kZ (n:Nat):aR n<=n:=by
 unfold aR;split
 · omega
 · rename_i h;exact(Nat.log2_lt h).2 Nat.lt_two_pow_self
theorem pH {n k:Nat} (h:n<2^k):aR n<=k:=by
 by_cases h0:n=0
 · subst h0;simp[aR]
 · obtain⟨h1,h2,h3⟩:=kY h0
   have:=(Nat.pow_lt_pow_iff_right (by decide:1<2)).1 (Nat.lt_of_le_of_lt h2 h);omega
def Pd:KF
 | [.int .u32 x]=>some (.int .i64 ((aR x.toNat:Nat):Int),[0<=x,x.toNat<4294967296])
 | _=>none
theorem Pe:bQ 298 Pd:=by
 refine cK Tryz.f298 fun _ _ _ S w0 h ho=> ?_
 unfold Pd at h;split at h <;> cases h;rename_i x;obtain⟨o1000,o1⟩:=ho.e2;obtain⟨x,rfl⟩:=Int.eq_ofNat_of_zero_le o1000;clear o1000;replace o1:x<4294967296:=o1;have b1:=kZ (x/65536/256);have b2:=kZ (x/65536);have b3:=kZ (x/256);have b4:=kZ x
 by_cases h1:(65536:Int)<=((x:Nat):Int)
 · have v0:Ref (.int .u32 ((x:Int).fdiv (2^(min (16:Int).toNat 32)))) (.int .u32 ((x/65536:Nat):Int)):=Ref.shrc (c:=min (Int.toNat _) _) (by rfl) (by decide)
   by_cases h2:(256:Int)<=((x/65536:Nat):Int)
   · refine rF .nil [(4,tt),(6,.int .u32 ((x/65536:Nat):Int)),(8,tt),(10,.int .u32 (((x/65536)/256:Nat):Int)),(15,.int .u8 (((x/65536)/256:Nat):Int)),(16,.int .u8 (aR ((x/65536)/256):Int)),(17,.i6 (aR ((x/65536)/256):Int)),(18,.i6 ((24+(aR ((x/65536)/256)):Nat):Int))] (.c6 (iT h1) v0 (dc (0<=(16:Int))) (iT h2) (show Ref (.int .u32 (((x/65536:Nat):Int).fdiv (2^(min (8:Int).toNat 32)))) (.int .u32 (((x/65536)/256:Nat):Int)) from Ref.shrc (c:=min (Int.toNat _) _) (by rfl) (by decide)) (dc (0<=(8:Int))) (.a6 (wB (((x/65536)/256:Nat):Int) (((x/65536)/256:Nat):Int) (by omega)) (show Ref (.int .u8 ((gA.data.toList.getD ((x/65536)/256) 0).toNat:Int)) (.int .u8 (aR ((x/65536)/256):Int)) by exact qZ (by omega)) (nn ((x/65536)/256)) (show(((x/65536)/256:Nat):Int)<(gA.size:Int) by(rw[pG];omega)) (wI (aR ((x/65536)/256):Int) (aR ((x/65536)/256):Int) (by omega)) (wI ((24:Int)+(aR ((x/65536)/256):Int)) ((24+(aR ((x/65536)/256)):Nat):Int) (by omega)))) (V:=.i6 ((24+(aR ((x/65536)/256)):Nat):Int)) (r:=.i6 (aR x:Int)) ?_
     refine Ref.int ?_;rw[kH (n:=x) (k:=16) (by omega),kH (n:=x/2^16) (k:=8) (by omega)];simp only[show(2:Nat)^16=65536 from rfl,show(2:Nat)^8=256 from rfl]
     try omega
   · refine rF .nil [(4,tt),(6,.int .u32 ((x/65536:Nat):Int)),(8,ff),(15,.int .u8 ((x/65536:Nat):Int)),(16,.int .u8 (aR (x/65536):Int)),(17,.i6 (aR (x/65536):Int)),(18,.i6 ((16+(aR (x/65536)):Nat):Int))] (.c6 (iT h1) v0 (dc (0<=(16:Int))) (iF h2) (wB ((x/65536:Nat):Int) ((x/65536:Nat):Int) (by omega)) (show Ref (.int .u8 ((gA.data.toList.getD (x/65536) 0).toNat:Int)) (.int .u8 (aR (x/65536):Int)) by exact qZ (by omega)) (.a4 (nn (x/65536)) (show((x/65536:Nat):Int)<(gA.size:Int) by(rw[pG];omega)) (wI (aR (x/65536):Int) (aR (x/65536):Int) (by omega)) (wI ((16:Int)+(aR (x/65536):Int)) ((16+(aR (x/65536)):Nat):Int) (by omega)))) (V:=.i6 ((16+(aR (x/65536)):Nat):Int)) (r:=.i6 (aR x:Int)) ?_
     refine Ref.int ?_;rw[kH (n:=x) (k:=16) (by omega)]
 · by_cases h2:(256:Int)<=((x:Nat):Int)
   · refine rF .nil [(4,ff),(8,tt),(10,.int .u32 ((x/256:Nat):Int)),(15,.int .u8 ((x/256:Nat):Int)),(16,.int .u8 (aR (x/256):Int)),(17,.i6 (aR (x/256):Int)),(18,.i6 ((8+(aR (x/256)):Nat):Int))] (.c6 (iF h1) (iT h2) (show Ref (.int .u32 ((x:Int).fdiv (2^(min (8:Int).toNat 32)))) (.int .u32 ((x/256:Nat):Int)) from Ref.shrc (c:=min (Int.toNat _) _) (by rfl) (by decide)) (dc (0<=(8:Int))) (wB ((x/256:Nat):Int) ((x/256:Nat):Int) (by omega)) (show Ref (.int .u8 ((gA.data.toList.getD (x/256) 0).toNat:Int)) (.int .u8 (aR (x/256):Int)) by exact qZ (by omega)) (.a4 (nn (x/256)) (show((x/256:Nat):Int)<(gA.size:Int) by(rw[pG];omega)) (wI (aR (x/256):Int) (aR (x/256):Int) (by omega)) (wI ((8:Int)+(aR (x/256):Int)) ((8+(aR (x/256)):Nat):Int) (by omega)))) (V:=.i6 ((8+(aR (x/256)):Nat):Int)) (r:=.i6 (aR x:Int)) ?_
     refine Ref.int ?_;rw[kH (n:=x) (k:=8) (by omega)]
   · exact rF .nil [(4,ff),(8,ff),(15,.int .u8 (x:Int)),(16,.int .u8 (aR x:Int)),(17,.i6 (aR x:Int)),(18,.i6 (aR x:Int))] (.c6 (iF h1) (iF h2) (wB (x:Int) (x:Int) (by omega)) (show Ref (.int .u8 ((gA.data.toList.getD x 0).toNat:Int)) (.int .u8 (aR x:Int)) by exact qZ (by omega)) (nn x) (show(x:Int)<(gA.size:Int) by(rw[pG];omega)) (.a2 (wI (aR x:Int) (aR x:Int) (by omega)) (wI ((0:Int)+(aR x:Int)) (aR x:Int) (by omega)))) (V:=.i6 (aR x:Int)) (r:=.i6 (aR x:Int)) (Ref.int (by omega))
def Pf:KF
 | [.int .u32 x]=>some (.int .i64 ((32-aR x.toNat:Nat):Int),[0<=x,x.toNat<4294967296])
 | _=>none
theorem Tc:bQ 261 Pf:=by
 refine cK Tryz.f261 fun _ _ _ S w0 h ho=> ?_
 unfold Pf at h;split at h <;> cases h;rename_i x;obtain⟨o1000,o1⟩:=ho.e2;have K:=kn.cons Pe;obtain⟨x,rfl⟩:=Int.eq_ofNat_of_zero_le o1000;clear o1000;replace o1:x<4294967296:=o1;have b1:=pH (n:=x) (k:=32) o1;exact rF K [(5,.i6 ((32:Int)-(aR x:Int)))] (.a3 (nn x) (om (x<4294967296)) (wI ((32:Int)-(aR x:Int)) ((32:Int)-(aR x:Int)))) (V:=.i6 ((32:Int)-(aR x:Int))) (r:=.i6 ((32-aR x:Nat):Int)) (Ref.int (by omega))
def cX:=(((((((kn.cons Pb).cons OX).cons Tc).cons OV).cons BB).cons Ga).consH OR).consH OP
def Pg:KF
 | [.nat n B,.nat m C]=>some (.tup [.nat (n/m) B,.nat (n % m) (max B C)],[0<m,max B C+128<=LIM])
 | _=>none
theorem CH {r x:Nat} (hr:r<4294967296) (hx:x<4294967296):Ref (AV.int .u64 (IntKind.u64.wrap (BitVec.ofInt 64 ((r*2^32 % 18446744073709551616:Nat):Int)||| BitVec.ofInt 64 ((x:Nat):Int)).toNat)) (AV.int .u64 ((r*4294967296+x:Nat):Int)):=by
 refine(Ref.or64 ⟨by omega,by omega⟩).trans (Ref.nat_eq ?_);have e1:r*2^32 % 18446744073709551616=2^32*r:=by rw[Nat.mod_eq_of_lt (by omega),Nat.mul_comm]
 rw[e1,nW hx];omega
theorem Ref.wrI {x y:Int} (h:x=y) (b: -9223372036854775808<=y/\y<=9223372036854775807):Ref (.i6 (IntKind.i64.wrap x)) (.i6 y):=by
 subst h;exact Ref.wr b
theorem Ref.wrU {x y:Int} (h:x=y) (b:0<=y/\y<=18446744073709551615):Ref (.int .u64 (IntKind.u64.wrap x)) (.int .u64 y):=by
 subst h;exact Ref.wr b
theorem Gd {b u2 u1 u0 v1 v0 P w w' W V:Nat} (hW:W=((u2*b+u1)*b+u0)*P+w) (hV:V=(v1*b+v0)*P+w') (hw':w'<P) (hv0:v0<b) (h:W<b*V):u2<=v1:=by
 rcases Nat.lt_or_ge v1 u2 with h' | h'
 · exfalso
   have h1:((v1+1)*b)*b<=(u2*b+u1)*b+u0:=by
     have a:=Nat.mul_le_mul_right b (Nat.mul_le_mul_right b (show v1+1<=u2 from h'));have c:(u2*b+u1)*b=u2*b*b+u1*b:=by rw[Nat.add_mul]
     omega
   have h2:=Nat.mul_le_mul_right P h1;have h3:v1*b+v0+1<=(v1+1)*b:=by rw[Nat.add_mul];omega
   have h4:=Nat.mul_le_mul_right P h3;rw[Nat.add_mul (v1*b+v0) 1] at h4;have h5:V<(v1+1)*b*P:=by omega
   have h6:b*V<=b*((v1+1)*b*P):=Nat.mul_le_mul_left _ (Nat.le_of_lt h5)
   have e:b*((v1+1)*b*P)=(v1+1)*b*b*P:=by
     rw[<- Nat.mul_assoc,Nat.mul_comm b]
   omega
 · exact h'
theorem CI {x b X V:Nat} (hx:x<b) (hX:X<V):x+b*X<b*V:=by
 have:=Nat.mul_le_mul_left b hX;rw[Nat.mul_succ] at this;omega
section
variable {S:Nat->Prop} {w0:World}
noncomputable abbrev EN:List Item:=[.code (aN [1,1,1,1,1,1,1,1,1,0,1,0,0] (aA Tryz.f205)),.inLoop (aN [1,1,1,1,1,1,1,1,1,0,1,0,0] (aA Tryz.f205)),.inBlock 1,.code (aN [1,1,1,1,1,1,1,1,1,1] (aA Tryz.f205))]
noncomputable abbrev Ge:List Item:=[.code (aN [1,1,1,1,1,1,1,1,1,0,1,0,0,1,0,0,1,1,0,0,0] (aA Tryz.f205)),.inLoop (aN [1,1,1,1,1,1,1,1,1,0,1,0,0,1,0,0,1,1,0,0,0] (aA Tryz.f205)),.inBlock 3,.code (aN [1,1,1,1,1,1,1,1,1,0,1,0,0,1,0,0,1,1,1] (aA Tryz.f205)),.inBlock 2,.code (aN [1,1,1,1,1,1,1,1,1,0,1,0,0,1,1] (aA Tryz.f205)),.inLoop (aN [1,1,1,1,1,1,1,1,1,0,1,0,0] (aA Tryz.f205)),.inBlock 1,.code (aN [1,1,1,1,1,1,1,1,1,1] (aA Tryz.f205))]
noncomputable abbrev zF:List Item:=[.code (aN [1,1,1,1,1,1,1,1,1,0,1,0,0,1,0,0,1,1,1,0,0] (aA Tryz.f205)),.code (aN [1,1,1,1,1,1,1,1,1,0,1,0,0,1,0,0,1,1,1,0,1] (aA Tryz.f205)),.code (aN [1,1,1,1,1,1,1,1,1,0,1,0,0,1,0,0,1,1,1,1] (aA Tryz.f205)),.inBlock 2,.code (aN [1,1,1,1,1,1,1,1,1,0,1,0,0,1,1] (aA Tryz.f205)),.inLoop (aN [1,1,1,1,1,1,1,1,1,0,1,0,0] (aA Tryz.f205)),.inBlock 1,.code (aN [1,1,1,1,1,1,1,1,1,1] (aA Tryz.f205))]
structure Inv205 (vs:List Nat) (p l M L2 U:Nat) (k1:Nat) (ds qs:List Nat):Prop where
 dl:ds.length=L2
 dd:∀ x∈ds,x<b32
 ql:qs.length=M
 qd:∀ x∈qs,x<b32
 val:aH b32 ds+aH b32 vs*(b32^k1*aH b32 (qs.drop k1))=U
 low:aH b32 (ds.drop k1)<aH b32 vs
 le:k1<=M
variable {vs:List Nat} {k p l M L2 U:Nat} {Post:Value->World->Prop}
theorem Am (hvl:vs.length=p+2) (hvd:∀ x∈vs,x<b32) (hMl:M+(p+2)=l) (hlL:l<=L2) (hL:L2<=LIM) {j g:Nat} {ds qs:List Nat} (hI:Inv205 vs p l M L2 U (j+1) ds qs) (hg:g<b32)
   (h1:aH b32 (ds.drop j)<(g+1)*aH b32 vs) (h2:g*aH b32 vs<=aH b32 (ds.drop j)+aH b32 vs)
   (next:∀ ds qs,Inv205 vs p l M L2 U j ds qs->Good Tryz.prog 205 S No w0 Post EN ⟨slots 164 [(6,.i6 ((k:Nat):Int)),(7,.list 1 (aG vs)),(8,.i6 ((p+2:Nat):Int)),(9,.own 0 1 0 l),(10,.own 1 1 0 M),(11,(.i6 (((j:Nat):Int)-(1:Int))))],[some ⟨362,1,true,(aG ds),none⟩,some ⟨362,1,true,(aG qs),none⟩]⟩):
   Good Tryz.prog 205 S No w0 Post zF ⟨slots 164 [(6,.i6 ((k:Nat):Int)),(7,.list 1 (aG vs)),(8,.i6 ((p+2:Nat):Int)),(9,.own 0 1 0 l),(10,.own 1 1 0 M),(11,.i6 ((j:Nat):Int)),(13,.int .u64 ((g:Nat):Int))],[some ⟨362,1,true,(aG ds),none⟩,some ⟨362,1,true,(aG qs),none⟩]⟩:=by
 have hj:=hI.le
 have hW:aH b32 (ds.drop j)<b32^(vs.length+1):=by
   rw[cC (by rw[hI.dl];omega),Nat.pow_succ,Nat.mul_comm (b32^vs.length)];have a:=CI (aY (by decide) hI.dd j) hI.low;have c:=Nat.mul_le_mul_left b32 (Nat.le_of_lt (dI (by decide) hvd));exact Nat.lt_of_lt_of_le a c
 rcases hR:eX g vs j 0 0 ds with ⟨R,β⟩;obtain⟨r1,r2,r3,r4,r5,r6⟩:=BA hI.dd hvd (by rw[hI.dl];omega) hg hW h1 h2 hR rfl;unfold LIM at hL;unfold b32 at hg
 have step:∀ (D:List Nat) (q:Nat),D.length=ds.length->(∀ x∈D,x<b32)->q<4294967296->aH b32 D+b32^j*(q*aH b32 vs)=aH b32 ds/\aH b32 (D.drop j)<aH b32 vs->Inv205 vs p l M L2 U j D (qs.set j q):=by
   intro D q e1 e2 e3 ⟨e4,e5⟩;refine⟨by rw[e1,hI.dl],e2,by simp[hI.ql],eW hI.qd e3, ?_,e5,by omega⟩;rw[cC (by simp;rw[hI.ql];omega),cZ (by rw[hI.ql];omega),nU (by omega)];have v:=hI.val;rw[Nat.pow_succ] at v;exact EI e4 v
 cases β with
 | true=>
   obtain⟨g0,q⟩:=r6 rfl;refine cP (p:=((aG vs)=aG (aZ (aG vs)))/\((aG ds)=aG (aZ (aG ds)))/\(∀ x∈aZ (aG vs),x<b32)/\(∀ x∈aZ (aG ds),x<b32)/\(g<b32)/\(j+(aZ (aG vs)).length<l)/\(l<=(aZ (aG ds)).length)/\(l<=LIM)/\(Ref (.int .u64 (IntKind.u64.wrap ((g:Int)-(1:Int)))) (.int .u64 ((g-1:Nat):Int)))/\((aG (eX g (aZ (aG vs)) j 0 0 (aZ (aG ds))).1)=aG (aZ (aG (eX g (aZ (aG vs)) j 0 0 (aZ (aG ds))).1)))/\(∀ x∈aZ (aG (eX g (aZ (aG vs)) j 0 0 (aZ (aG ds))).1),x<b32)/\(l<=(aZ (aG (eX g (aZ (aG vs)) j 0 0 (aZ (aG ds))).1)).length)/\(0<=((g-1:Nat):Int)/\((g-1:Nat):Int)<=4294967295)/\((j:Int)<(M:Int))/\(0+j<(aG qs).length)/\(-9223372036854775808<=(j:Int)-(1:Int)/\(j:Int)-(1:Int)<=9223372036854775807)) ?_ fun⟨q0,q1,q2,q3,q4,q5,q6,q7,q8,q9,q10,q11,q12,q13,q14,q15⟩=>gR cX none [4,5,6,7,8,9,10,11] [0,1] [(144,tt),(146,.int .u64 ((g-1:Nat):Int)),(154,.int .u32 ((g-1:Nat):Int)),(70,.i6 ((j:Int)-(1:Int)))] (.c6 (show Ref (.bool ((eX g (aZ (aG vs)) j 0 0 (aZ (aG ds))).2)) (.bool true) from Ref.bool (show((eX g (aZ (aG vs)) j 0 0 (aZ (aG ds))).2)=true by rw[bV,bV,hR])) (nn g) (nn j) q0 q1 q2 (.c6 q3 q4 q5 q6 q7 q8 (.c6 (nn j) q0 q9 q2 q10 q5 (.c6 q11 q7 (wV ((g-1:Nat):Int) ((g-1:Nat):Int) q12) (nn j) q13 q14 (.a1 (wI ((j:Int)-(1:Int)) ((j:Int)-(1:Int)) q15)))))) (t:=EN) (σ:=slots 164 [(6,.i6 (k:Int)),(7,.list 1 (aG vs)),(8,.i6 ((p+2:Nat):Int)),(9,.own 0 1 0 l),(10,.own 1 1 0 M),(11,.i6 ((j:Int)-(1:Int)))]) (h:=[some ⟨362,1,true,(aG (nH (aZ (aG vs)) j 0 (aZ (aG (eX g (aZ (aG vs)) j 0 0 (aZ (aG ds))).1)))),none⟩,some ⟨362,1,true,((aG qs).set (0+j) [.int .u32 ((g-1:Nat):Int)]),none⟩]) ?_
   · simp only[bV,aB,hR]
     refine⟨trivial,trivial,hvd,hI.dd,hg,by omega,by rw[hI.dl];exact hlL,by unfold LIM;omega,Ref.wrU (by omega) (by omega),trivial,r2,by rw[r1,hI.dl];exact hlL,by omega,by omega,by rw[hI.ql];omega,by omega⟩
   · simp only[bV,hR]
     rw[eN,Nat.zero_add];exact next _ _ (step _ _ r3 r4 (by omega) q)
 | false=>
   refine cP (p:=((aG vs)=aG (aZ (aG vs)))/\((aG ds)=aG (aZ (aG ds)))/\(∀ x∈aZ (aG vs),x<b32)/\(∀ x∈aZ (aG ds),x<b32)/\(g<b32)/\(j+(aZ (aG vs)).length<l)/\(l<=(aZ (aG ds)).length)/\(l<=LIM)/\(0<=(g:Int)/\(g:Int)<=4294967295)/\((j:Int)<(M:Int))/\(0+j<(aG qs).length)/\(-9223372036854775808<=(j:Int)-(1:Int)/\(j:Int)-(1:Int)<=9223372036854775807)) ?_ fun⟨q0,q1,q2,q3,q4,q5,q6,q7,q8,q9,q10,q11⟩=>gR cX none [4,5,6,7,8,9,10,11] [0,1] [(144,ff),(154,.int .u32 (g:Int)),(70,.i6 ((j:Int)-(1:Int)))] (.c6 (show Ref (.bool ((eX g (aZ (aG vs)) j 0 0 (aZ (aG ds))).2)) (.bool false) from Ref.bool (show((eX g (aZ (aG vs)) j 0 0 (aZ (aG ds))).2)=false by rw[bV,bV,hR])) (nn g) (nn j) q0 q1 q2 (.c6 q3 q4 q5 q6 q7 (wV (g:Int) (g:Int) q8) (.a4 (nn j) q9 q10 (wI ((j:Int)-(1:Int)) ((j:Int)-(1:Int)) q11)))) (t:=EN) (σ:=slots 164 [(6,.i6 (k:Int)),(7,.list 1 (aG vs)),(8,.i6 ((p+2:Nat):Int)),(9,.own 0 1 0 l),(10,.own 1 1 0 M),(11,.i6 ((j:Int)-(1:Int)))]) (h:=[some ⟨362,1,true,(aG (eX g (aZ (aG vs)) j 0 0 (aZ (aG ds))).1),none⟩,some ⟨362,1,true,((aG qs).set (0+j) [.int .u32 (g:Int)]),none⟩]) ?_
   · simp only[bV,aB]
     refine⟨trivial,trivial,hvd,hI.dd,hg,by omega,by rw[hI.dl];exact hlL,by unfold LIM;omega,by omega,by omega,by rw[hI.ql];omega,by omega⟩
   · simp only[bV,hR]
     rw[eN,Nat.zero_add];exact next _ _ (step _ _ r1 r2 hg (r5 rfl))
theorem Gf (hvl:vs.length=p+2) (hvd:∀ x∈vs,x<b32) (hv1:2147483648<=vs.getD (p+1) 0) (hMl:M+(p+2)=l) (hlL:l<=L2) (hL:L2<=LIM) {j:Nat} {ds qs:List Nat} (hI:Inv205 vs p l M L2 U (j+1) ds qs)
   (next:∀ ds qs,Inv205 vs p l M L2 U j ds qs->Good Tryz.prog 205 S No w0 Post EN ⟨slots 164 [(6,.i6 ((k:Nat):Int)),(7,.list 1 (aG vs)),(8,.i6 ((p+2:Nat):Int)),(9,.own 0 1 0 l),(10,.own 1 1 0 M),(11,(.i6 (((j:Nat):Int)-(1:Int))))],[some ⟨362,1,true,(aG ds),none⟩,some ⟨362,1,true,(aG qs),none⟩]⟩):
   ∀ (g r:Nat),g*vs.getD (p+1) 0+r=ds.getD (j+p+2) 0*b32+ds.getD (j+p+1) 0->aH b32 (ds.drop j)<(g+1)*aH b32 vs->g<=b32+1->r<b32->
   Good Tryz.prog 205 S No w0 Post Ge ⟨slots 164 [(6,.i6 ((k:Nat):Int)),(7,.list 1 (aG vs)),(8,.i6 ((p+2:Nat):Int)),(9,.own 0 1 0 l),(10,.own 1 1 0 M),(11,.i6 ((j:Nat):Int)),(13,.int .u64 ((g:Nat):Int)),(14,.int .u64 ((r:Nat):Int))],[some ⟨362,1,true,(aG ds),none⟩,some ⟨362,1,true,(aG qs),none⟩]⟩:=by
 have hj:=hI.le
 have hWb:aH b32 (ds.drop j)<b32*aH b32 vs:=by
   rw[cC (by rw[hI.dl];omega)];exact CI (aY (by decide) hI.dd j) hI.low
 have hW:aH b32 (ds.drop j)<b32^(p+3):=by
   have c:=Nat.mul_le_mul_left b32 (Nat.le_of_lt (dI (b:=b32) (by decide) hvd));rw[hvl,Nat.mul_comm b32 (b32^(p+2)), <- Nat.pow_succ] at c;exact Nat.lt_of_lt_of_le hWb c
 obtain⟨w,hw,hWe⟩:=zE hW hI.dd;obtain⟨w',hw',hVe⟩:=Dv hvl hvd;have hu0:=aY (b:=b32) (by decide) hI.dd (j+p);have hu1:=aY (b:=b32) (by decide) hI.dd (j+p+1);have hu2:=aY (b:=b32) (by decide) hI.dd (j+p+2);have hv0:=aY (b:=b32) (by decide) hvd p;have hv1':=aY (b:=b32) (by decide) hvd (p+1);have htop:=Gd hWe hVe hw' hv0 hWb
 have hPV:b32*b32^p<=aH b32 vs:=by
   rw[hVe,Nat.add_mul,Nat.add_assoc];have:1*b32<=vs.getD (p+1) 0*b32:=Nat.mul_le_mul_right _ (by omega)
   have:=Nat.mul_le_mul_right (b32^p) this;rw[Nat.one_mul] at this;omega
 intro g;have v4:0<=(32:Int):=by decide
 induction g with
 | zero=>
   intro r h1 h2 h3 h4;simp only[Nat.zero_mul] at h1;have hz:(0:Nat)*aH b32 vs<=aH b32 (ds.drop j)+aH b32 vs:=by rw[Nat.zero_mul];omega
   unfold LIM at hL;unfold b32 at h4 hu0 hu1 hu2 hv0 hv1';refine cP (p:=(Ref (.i6 (IntKind.i64.wrap (((p+2:Nat):Int)-(2:Int)))) (.i6 (p:Int)))/\(p<vs.length)/\((p:Int)<((aG vs).length:Int))/\(0<=(vs.getD p 0:Int)/\(vs.getD p 0:Int)<=18446744073709551615)/\(0<=(0:Int)*(vs.getD p 0:Int)/\(0:Int)*(vs.getD p 0:Int)<=18446744073709551615)/\(32<=64)/\(-9223372036854775808<=(j:Int)+((p+2:Nat):Int)/\(j:Int)+((p+2:Nat):Int)<=9223372036854775807)/\(Ref (.i6 (IntKind.i64.wrap (((j+p+2:Nat):Int)-(2:Int)))) (.i6 ((j+p:Nat):Int)))/\(((j+p:Nat):Int)<(l:Int))/\(0+(j+p)<ds.length)/\(0+(j+p)<(aG ds).length)/\(0<=(ds.getD (0+(j+p)) 0:Int)/\(ds.getD (0+(j+p)) 0:Int)<=18446744073709551615)/\(Ref (.int .u64 (IntKind.u64.wrap (BitVec.ofInt 64 ((r*2^32 % 18446744073709551616:Nat):Int)||| BitVec.ofInt 64 (ds.getD (0+(j+p)) 0:Int)).toNat)) (.int .u64 ((r*4294967296+ds.getD (0+(j+p)) 0:Nat):Int)))) ?_ fun⟨q0,q1,q2,q3,q4,q5,q6,q7,q8,q9,q10,q11,q12⟩=>gS cX (some 21) [4,5,6,7,8,9,10,11,13,14] [(106,ff),(110,.i6 (p:Int)),(111,.cptr [.int .u32 (vs.getD p 0:Int)] 0),(113,.int .u64 (vs.getD p 0:Int)),(114,.int .u64 ((0*(vs.getD p 0):Nat):Int)),(116,.int .u64 ((r*2^32 % 18446744073709551616:Nat):Int)),(120,.i6 ((j+p+2:Nat):Int)),(121,.i6 ((j+p:Nat):Int)),(123,.int .u32 (ds.getD (0+(j+p)) 0:Int)),(124,.int .u64 (ds.getD (0+(j+p)) 0:Int)),(125,.int .u64 ((r*4294967296+ds.getD (0+(j+p)) 0:Nat):Int)),(127,ff)] (.c6 (iF (om (¬ ((4294967296:Int)<=(0:Int))))) q0 (Ref.cd32 q1) (nn p) q2 (wU (vs.getD p 0:Int) (vs.getD p 0:Int) q3) (.c6 (wU ((0:Int)*(vs.getD p 0:Int)) ((0*(vs.getD p 0):Nat):Int) q4) (show Ref (.int .u64 (IntKind.u64.wrap ((r:Int)*2^(min (32:Int).toNat 64)))) (.int .u64 ((r*2^32 % 18446744073709551616:Nat):Int)) from Ref.shl64 (x:=r) (k:=32) q5) v4 (wI ((j:Int)+((p+2:Nat):Int)) ((j+p+2:Nat):Int) q6) q7 (nn (j+p)) (.a6 q8 (Ref.cd32h q9) q10 (wU (ds.getD (0+(j+p)) 0:Int) (ds.getD (0+(j+p)) 0:Int) q11) q12 (iF (show ¬ (((r*4294967296+ds.getD (0+(j+p)) 0:Nat):Int)<((0*(vs.getD p 0):Nat):Int)) by rw[Nat.zero_mul];omega))))) (t:=zF) (σ:=slots 164 [(6,.i6 (k:Int)),(7,.list 1 (aG vs)),(8,.i6 ((p+2:Nat):Int)),(9,.own 0 1 0 l),(10,.own 1 1 0 M),(11,.i6 (j:Int)),(13,.int .u64 (0:Int)),(14,.int .u64 (r:Int))]) (h:=[some ⟨362,1,true,(aG ds),none⟩,some ⟨362,1,true,(aG qs),none⟩]) ?_
   · simp only[Nat.zero_add,aB]
     refine⟨Ref.wrI (by omega) (by omega),by omega,by omega,by omega,by omega,by omega,by omega,Ref.wrI (by omega) (by omega),by omega,by rw[hI.dl];omega,by rw[hI.dl];omega,by omega,CH h4 hu0⟩
   · refine Good.weak 164 [(6,_),(7,_),(8,_),(9,_),(10,_),(11,_),(13,_)] (by kernel_rfl) (.r (.r (.r (.r (.r (.r (.r .nil))))))) ?_
     exact Am hvl hvd hMl hlL (by unfold LIM;omega) hI (by decide) h2 hz next
 | succ g ih=>
   intro r h1 h2 h3 h4
   have hgv:(g+1)*vs.getD p 0<=18446744073709551615:=by
     have a:(g+1)*vs.getD p 0<=4294967297*4294967295:=Nat.mul_le_mul h3 (by unfold b32 at hv0;omega);omega
   have hsucc:(g+1)*vs.getD (p+1) 0=g*vs.getD (p+1) 0+vs.getD (p+1) 0:=by rw[Nat.add_mul,Nat.one_mul]
   have hgo:g*vs.getD (p+1) 0+(r+vs.getD (p+1) 0)=ds.getD (j+p+2) 0*b32+ds.getD (j+p+1) 0:=by omega
   have brk:aH b32 (ds.drop j)<(g+1)*aH b32 vs->b32<=r+vs.getD (p+1) 0->Good Tryz.prog 205 S No w0 Post zF ⟨slots 164 [(6,.i6 ((k:Nat):Int)),(7,.list 1 (aG vs)),(8,.i6 ((p+2:Nat):Int)),(9,.own 0 1 0 l),(10,.own 1 1 0 M),(11,.i6 ((j:Nat):Int)),(13,.int .u64 ((g:Nat):Int))],[some ⟨362,1,true,(aG ds),none⟩,some ⟨362,1,true,(aG qs),none⟩]⟩:=by
     intro hlt hbr
     have hgb:g<b32:=by
       rcases Nat.lt_or_ge g b32 with h | h
       · exact h
       · exfalso
         have a:=Nat.mul_le_mul_right (vs.getD (p+1) 0) h;have c:=Nat.mul_le_mul_right b32 htop;rw[Nat.mul_comm] at a;omega
     refine Am hvl hvd hMl hlL hL hI hgb hlt ?_ next;refine yZ (r:=r+vs.getD (p+1) 0) hWe hVe hw' hPV (Nat.le_of_lt hgb) ⟨_,_,rfl,hgo, ?_⟩;have a:g*vs.getD p 0<=b32*b32:=Nat.mul_le_mul (Nat.le_of_lt hgb) (Nat.le_of_lt hv0);have c:=Nat.mul_le_mul_right b32 hbr;omega
   have hor:=CH (r:=r) (x:=ds.getD (j+p) 0) (by unfold b32 at h4;exact h4) (by unfold b32 at hu0;exact hu0);have hL':=hL;unfold LIM at hL';have fb:b32=4294967296:=rfl;have e1:Ref (AV.int .u64 (IntKind.u64.wrap (((g+1:Nat):Int)-(1:Int)))) (AV.int .u64 ((g+1-1:Nat):Int)):=Ref.wrU (by omega) (by omega);have hcast:((g+1:Nat):Int)*((vs.getD p 0:Nat):Int)=(((g+1)*vs.getD p 0:Nat):Int):=by simp
   by_cases c1:b32<=g+1
   · have hlt:aH b32 (ds.drop j)<(g+1)*aH b32 vs:=Nat.lt_of_lt_of_le hWb (Nat.mul_le_mul_right _ c1)
     have v0:Ref (.i6 (IntKind.i64.wrap (((p+2:Nat):Int)-(1:Int)))) (.i6 ((p+1:Nat):Int)):=Ref.wrI (by omega) (by omega);have v1:Ref (.cptr ((aG vs).getD (p+1) []) 0) (.cptr [.int .u32 (vs.getD (p+1) 0:Int)] 0):=Ref.cd32 ((om (p+1<vs.length)));have v5:((p+1:Nat):Int)<((aG vs).length:Int):=by rw[aB];omega
     have v6:(4294967296:Int)<=(((g+1):Nat):Int):=by omega
     by_cases c2:b32<=r+vs.getD (p+1) 0
     · refine gS cX (some 21) [4,5,6,7,8,9,10,11,13,14] [(106,tt),(129,.int .u64 (((g+1)-1:Nat):Int)),(133,.i6 ((p+1:Nat):Int)),(134,.cptr [.int .u32 (vs.getD (p+1) 0:Int)] 0),(136,.int .u64 (vs.getD (p+1) 0:Int)),(137,.int .u64 ((r+vs.getD (p+1) 0:Nat):Int)),(139,tt)] (.c6 (iT v6) e1 v0 v1 (nn (p+1)) v5 (.a3 (wU (vs.getD (p+1) 0:Int) (vs.getD (p+1) 0:Int)) (wU ((r:Int)+(vs.getD (p+1) 0:Int)) ((r+vs.getD (p+1) 0:Nat):Int)) (iT (om ((4294967296:Int)<=((r+vs.getD (p+1) 0:Nat):Int)))))) (t:=zF) (σ:=slots 164 [(6,.i6 (k:Int)),(7,.list 1 (aG vs)),(8,.i6 ((p+2:Nat):Int)),(9,.own 0 1 0 l),(10,.own 1 1 0 M),(11,.i6 (j:Int)),(13,(.int .u64 (((g+1)-1:Nat):Int))),(14,(.int .u64 ((r+vs.getD (p+1) 0:Nat):Int)))]) (h:=[some ⟨362,1,true,(aG ds),none⟩,some ⟨362,1,true,(aG qs),none⟩]) ?_
       refine Good.weak 164 [(6,_),(7,_),(8,_),(9,_),(10,_),(11,_),(13,_)] (by kernel_rfl) (.r (.r (.r (.r (.r (.r (.r .nil))))))) ?_;exact brk hlt c2
     · exact gS cX (some 21) [4,5,6,7,8,9,10,11,13,14] [(106,tt),(129,.int .u64 (((g+1)-1:Nat):Int)),(133,.i6 ((p+1:Nat):Int)),(134,.cptr [.int .u32 (vs.getD (p+1) 0:Int)] 0),(136,.int .u64 (vs.getD (p+1) 0:Int)),(137,.int .u64 ((r+vs.getD (p+1) 0:Nat):Int)),(139,ff)] (.c6 (iT v6) e1 v0 v1 (nn (p+1)) v5 (.a3 (wU (vs.getD (p+1) 0:Int) (vs.getD (p+1) 0:Int)) (wU ((r:Int)+(vs.getD (p+1) 0:Int)) ((r+vs.getD (p+1) 0:Nat):Int)) (iF (om (¬ ((4294967296:Int)<=((r+vs.getD (p+1) 0:Nat):Int))))))) (ih _ hgo hlt (by omega) (by omega))
   · have v3:¬ ((4294967296:Int)<=(((g+1):Nat):Int)):=by omega
     by_cases c3:r*4294967296+ds.getD (j+p) 0<(g+1)*vs.getD p 0
     · have hlt:aH b32 (ds.drop j)<(g+1)*aH b32 vs:=CD (r:=r) hWe hw hVe ⟨_,_,rfl,h1,c3⟩
       have v2:((r*4294967296+ds.getD (0+(j+p)) 0:Nat):Int)<(((g+1)*(vs.getD p 0):Nat):Int):=by rw[Nat.zero_add];omega
       by_cases c2:b32<=r+vs.getD (p+1) 0
       · refine cP (p:=(Ref (.i6 (IntKind.i64.wrap (((p+2:Nat):Int)-(2:Int)))) (.i6 (p:Int)))/\(p<vs.length)/\((p:Int)<((aG vs).length:Int))/\(0<=(vs.getD p 0:Int)/\(vs.getD p 0:Int)<=18446744073709551615)/\(0<=(((g+1):Nat):Int)*(vs.getD p 0:Int)/\(((g+1):Nat):Int)*(vs.getD p 0:Int)<=18446744073709551615)/\(32<=64)/\(-9223372036854775808<=(j:Int)+((p+2:Nat):Int)/\(j:Int)+((p+2:Nat):Int)<=9223372036854775807)/\(Ref (.i6 (IntKind.i64.wrap (((j+p+2:Nat):Int)-(2:Int)))) (.i6 ((j+p:Nat):Int)))/\(((j+p:Nat):Int)<(l:Int))/\(0+(j+p)<ds.length)/\(0+(j+p)<(aG ds).length)/\(0<=(ds.getD (0+(j+p)) 0:Int)/\(ds.getD (0+(j+p)) 0:Int)<=18446744073709551615)/\(Ref (.int .u64 (IntKind.u64.wrap (BitVec.ofInt 64 ((r*2^32 % 18446744073709551616:Nat):Int)||| BitVec.ofInt 64 (ds.getD (0+(j+p)) 0:Int)).toNat)) (.int .u64 ((r*4294967296+ds.getD (0+(j+p)) 0:Nat):Int)))/\(Ref (.int .u64 (IntKind.u64.wrap ((((g+1):Nat):Int)-(1:Int)))) (.int .u64 (((g+1)-1:Nat):Int)))/\(Ref (.i6 (IntKind.i64.wrap (((p+2:Nat):Int)-(1:Int)))) (.i6 ((p+1:Nat):Int)))/\(p+1<vs.length)/\(((p+1:Nat):Int)<((aG vs).length:Int))/\(0<=(vs.getD (p+1) 0:Int)/\(vs.getD (p+1) 0:Int)<=18446744073709551615)/\(0<=(r:Int)+(vs.getD (p+1) 0:Int)/\(r:Int)+(vs.getD (p+1) 0:Int)<=18446744073709551615)) ?_ fun⟨q0,q1,q2,q3,q4,q5,q6,q7,q8,q9,q10,q11,q12,q13,q14,q15,q16,q17,q18⟩=>gS cX (some 21) [4,5,6,7,8,9,10,11,13,14] [(106,ff),(110,.i6 (p:Int)),(111,.cptr [.int .u32 (vs.getD p 0:Int)] 0),(113,.int .u64 (vs.getD p 0:Int)),(114,.int .u64 (((g+1)*(vs.getD p 0):Nat):Int)),(116,.int .u64 ((r*2^32 % 18446744073709551616:Nat):Int)),(120,.i6 ((j+p+2:Nat):Int)),(121,.i6 ((j+p:Nat):Int)),(123,.int .u32 (ds.getD (0+(j+p)) 0:Int)),(124,.int .u64 (ds.getD (0+(j+p)) 0:Int)),(125,.int .u64 ((r*4294967296+ds.getD (0+(j+p)) 0:Nat):Int)),(127,tt),(129,.int .u64 (((g+1)-1:Nat):Int)),(133,.i6 ((p+1:Nat):Int)),(134,.cptr [.int .u32 (vs.getD (p+1) 0:Int)] 0),(136,.int .u64 (vs.getD (p+1) 0:Int)),(137,.int .u64 ((r+vs.getD (p+1) 0:Nat):Int)),(139,tt)] (.c6 (iF v3) q0 (Ref.cd32 q1) (nn p) q2 (wU (vs.getD p 0:Int) (vs.getD p 0:Int) q3) (.c6 (wU ((((g+1):Nat):Int)*(vs.getD p 0:Int)) (((g+1)*(vs.getD p 0):Nat):Int) q4) (show Ref (.int .u64 (IntKind.u64.wrap ((r:Int)*2^(min (32:Int).toNat 64)))) (.int .u64 ((r*2^32 % 18446744073709551616:Nat):Int)) from Ref.shl64 (x:=r) (k:=32) q5) v4 (wI ((j:Int)+((p+2:Nat):Int)) ((j+p+2:Nat):Int) q6) q7 (nn (j+p)) (.c6 q8 (Ref.cd32h q9) q10 (wU (ds.getD (0+(j+p)) 0:Int) (ds.getD (0+(j+p)) 0:Int) q11) q12 (iT v2) (.c6 q13 q14 (Ref.cd32 q15) (nn (p+1)) q16 (wU (vs.getD (p+1) 0:Int) (vs.getD (p+1) 0:Int) q17) (.a2 (wU ((r:Int)+(vs.getD (p+1) 0:Int)) ((r+vs.getD (p+1) 0:Nat):Int) q18) (iT (om ((4294967296:Int)<=((r+vs.getD (p+1) 0:Nat):Int))))))))) (t:=zF) (σ:=slots 164 [(6,.i6 (k:Int)),(7,.list 1 (aG vs)),(8,.i6 ((p+2:Nat):Int)),(9,.own 0 1 0 l),(10,.own 1 1 0 M),(11,.i6 (j:Int)),(13,(.int .u64 (((g+1)-1:Nat):Int))),(14,(.int .u64 ((r+vs.getD (p+1) 0:Nat):Int)))]) (h:=[some ⟨362,1,true,(aG ds),none⟩,some ⟨362,1,true,(aG qs),none⟩]) ?_
         · simp only[Nat.zero_add,aB,hcast]
           exact⟨Ref.wrI (by omega) (by omega),by omega,by omega,by omega,by omega,by omega,by omega,Ref.wrI (by omega) (by omega),by omega,by rw[hI.dl];omega,by rw[hI.dl];omega,by omega,hor,e1,Ref.wrI (by omega) (by omega),by omega,by omega,by omega,by omega⟩
         · refine Good.weak 164 [(6,_),(7,_),(8,_),(9,_),(10,_),(11,_),(13,_)] (by kernel_rfl) (.r (.r (.r (.r (.r (.r (.r .nil))))))) ?_
           exact brk hlt c2
       · refine cP (p:=(Ref (.i6 (IntKind.i64.wrap (((p+2:Nat):Int)-(2:Int)))) (.i6 (p:Int)))/\(p<vs.length)/\((p:Int)<((aG vs).length:Int))/\(0<=(vs.getD p 0:Int)/\(vs.getD p 0:Int)<=18446744073709551615)/\(0<=(((g+1):Nat):Int)*(vs.getD p 0:Int)/\(((g+1):Nat):Int)*(vs.getD p 0:Int)<=18446744073709551615)/\(32<=64)/\(-9223372036854775808<=(j:Int)+((p+2:Nat):Int)/\(j:Int)+((p+2:Nat):Int)<=9223372036854775807)/\(Ref (.i6 (IntKind.i64.wrap (((j+p+2:Nat):Int)-(2:Int)))) (.i6 ((j+p:Nat):Int)))/\(((j+p:Nat):Int)<(l:Int))/\(0+(j+p)<ds.length)/\(0+(j+p)<(aG ds).length)/\(0<=(ds.getD (0+(j+p)) 0:Int)/\(ds.getD (0+(j+p)) 0:Int)<=18446744073709551615)/\(Ref (.int .u64 (IntKind.u64.wrap (BitVec.ofInt 64 ((r*2^32 % 18446744073709551616:Nat):Int)||| BitVec.ofInt 64 (ds.getD (0+(j+p)) 0:Int)).toNat)) (.int .u64 ((r*4294967296+ds.getD (0+(j+p)) 0:Nat):Int)))/\(Ref (.int .u64 (IntKind.u64.wrap ((((g+1):Nat):Int)-(1:Int)))) (.int .u64 (((g+1)-1:Nat):Int)))/\(Ref (.i6 (IntKind.i64.wrap (((p+2:Nat):Int)-(1:Int)))) (.i6 ((p+1:Nat):Int)))/\(p+1<vs.length)/\(((p+1:Nat):Int)<((aG vs).length:Int))/\(0<=(vs.getD (p+1) 0:Int)/\(vs.getD (p+1) 0:Int)<=18446744073709551615)/\(0<=(r:Int)+(vs.getD (p+1) 0:Int)/\(r:Int)+(vs.getD (p+1) 0:Int)<=18446744073709551615)) ?_ fun⟨q0,q1,q2,q3,q4,q5,q6,q7,q8,q9,q10,q11,q12,q13,q14,q15,q16,q17,q18⟩=>gS cX (some 21) [4,5,6,7,8,9,10,11,13,14] [(106,ff),(110,.i6 (p:Int)),(111,.cptr [.int .u32 (vs.getD p 0:Int)] 0),(113,.int .u64 (vs.getD p 0:Int)),(114,.int .u64 (((g+1)*(vs.getD p 0):Nat):Int)),(116,.int .u64 ((r*2^32 % 18446744073709551616:Nat):Int)),(120,.i6 ((j+p+2:Nat):Int)),(121,.i6 ((j+p:Nat):Int)),(123,.int .u32 (ds.getD (0+(j+p)) 0:Int)),(124,.int .u64 (ds.getD (0+(j+p)) 0:Int)),(125,.int .u64 ((r*4294967296+ds.getD (0+(j+p)) 0:Nat):Int)),(127,tt),(129,.int .u64 (((g+1)-1:Nat):Int)),(133,.i6 ((p+1:Nat):Int)),(134,.cptr [.int .u32 (vs.getD (p+1) 0:Int)] 0),(136,.int .u64 (vs.getD (p+1) 0:Int)),(137,.int .u64 ((r+vs.getD (p+1) 0:Nat):Int)),(139,ff)] (.c6 (iF v3) q0 (Ref.cd32 q1) (nn p) q2 (wU (vs.getD p 0:Int) (vs.getD p 0:Int) q3) (.c6 (wU ((((g+1):Nat):Int)*(vs.getD p 0:Int)) (((g+1)*(vs.getD p 0):Nat):Int) q4) (show Ref (.int .u64 (IntKind.u64.wrap ((r:Int)*2^(min (32:Int).toNat 64)))) (.int .u64 ((r*2^32 % 18446744073709551616:Nat):Int)) from Ref.shl64 (x:=r) (k:=32) q5) v4 (wI ((j:Int)+((p+2:Nat):Int)) ((j+p+2:Nat):Int) q6) q7 (nn (j+p)) (.c6 q8 (Ref.cd32h q9) q10 (wU (ds.getD (0+(j+p)) 0:Int) (ds.getD (0+(j+p)) 0:Int) q11) q12 (iT v2) (.c6 q13 q14 (Ref.cd32 q15) (nn (p+1)) q16 (wU (vs.getD (p+1) 0:Int) (vs.getD (p+1) 0:Int) q17) (.a2 (wU ((r:Int)+(vs.getD (p+1) 0:Int)) ((r+vs.getD (p+1) 0:Nat):Int) q18) (iF (om (¬ ((4294967296:Int)<=((r+vs.getD (p+1) 0:Nat):Int)))))))))) (t:=Ge) (σ:=slots 164 [(6,.i6 (k:Int)),(7,.list 1 (aG vs)),(8,.i6 ((p+2:Nat):Int)),(9,.own 0 1 0 l),(10,.own 1 1 0 M),(11,.i6 (j:Int)),(13,(.int .u64 (((g+1)-1:Nat):Int))),(14,(.int .u64 ((r+vs.getD (p+1) 0:Nat):Int)))]) (h:=[some ⟨362,1,true,(aG ds),none⟩,some ⟨362,1,true,(aG qs),none⟩]) ?_
         · simp only[Nat.zero_add,aB,hcast]
           exact⟨Ref.wrI (by omega) (by omega),by omega,by omega,by omega,by omega,by omega,by omega,Ref.wrI (by omega) (by omega),by omega,by rw[hI.dl];omega,by rw[hI.dl];omega,by omega,hor,e1,Ref.wrI (by omega) (by omega),by omega,by omega,by omega,by omega⟩
         · exact ih _ hgo hlt (by omega) (by omega)
     · refine cP (p:=(Ref (.i6 (IntKind.i64.wrap (((p+2:Nat):Int)-(2:Int)))) (.i6 (p:Int)))/\(p<vs.length)/\((p:Int)<((aG vs).length:Int))/\(0<=(vs.getD p 0:Int)/\(vs.getD p 0:Int)<=18446744073709551615)/\(0<=(((g+1):Nat):Int)*(vs.getD p 0:Int)/\(((g+1):Nat):Int)*(vs.getD p 0:Int)<=18446744073709551615)/\(32<=64)/\(-9223372036854775808<=(j:Int)+((p+2:Nat):Int)/\(j:Int)+((p+2:Nat):Int)<=9223372036854775807)/\(Ref (.i6 (IntKind.i64.wrap (((j+p+2:Nat):Int)-(2:Int)))) (.i6 ((j+p:Nat):Int)))/\(((j+p:Nat):Int)<(l:Int))/\(0+(j+p)<ds.length)/\(0+(j+p)<(aG ds).length)/\(0<=(ds.getD (0+(j+p)) 0:Int)/\(ds.getD (0+(j+p)) 0:Int)<=18446744073709551615)/\(Ref (.int .u64 (IntKind.u64.wrap (BitVec.ofInt 64 ((r*2^32 % 18446744073709551616:Nat):Int)||| BitVec.ofInt 64 (ds.getD (0+(j+p)) 0:Int)).toNat)) (.int .u64 ((r*4294967296+ds.getD (0+(j+p)) 0:Nat):Int)))) ?_ fun⟨q0,q1,q2,q3,q4,q5,q6,q7,q8,q9,q10,q11,q12⟩=>gS cX (some 21) [4,5,6,7,8,9,10,11,13,14] [(106,ff),(110,.i6 (p:Int)),(111,.cptr [.int .u32 (vs.getD p 0:Int)] 0),(113,.int .u64 (vs.getD p 0:Int)),(114,.int .u64 (((g+1)*(vs.getD p 0):Nat):Int)),(116,.int .u64 ((r*2^32 % 18446744073709551616:Nat):Int)),(120,.i6 ((j+p+2:Nat):Int)),(121,.i6 ((j+p:Nat):Int)),(123,.int .u32 (ds.getD (0+(j+p)) 0:Int)),(124,.int .u64 (ds.getD (0+(j+p)) 0:Int)),(125,.int .u64 ((r*4294967296+ds.getD (0+(j+p)) 0:Nat):Int)),(127,ff)] (.c6 (iF v3) q0 (Ref.cd32 q1) (nn p) q2 (wU (vs.getD p 0:Int) (vs.getD p 0:Int) q3) (.c6 (wU ((((g+1):Nat):Int)*(vs.getD p 0:Int)) (((g+1)*(vs.getD p 0):Nat):Int) q4) (show Ref (.int .u64 (IntKind.u64.wrap ((r:Int)*2^(min (32:Int).toNat 64)))) (.int .u64 ((r*2^32 % 18446744073709551616:Nat):Int)) from Ref.shl64 (x:=r) (k:=32) q5) v4 (wI ((j:Int)+((p+2:Nat):Int)) ((j+p+2:Nat):Int) q6) q7 (nn (j+p)) (.a6 q8 (Ref.cd32h q9) q10 (wU (ds.getD (0+(j+p)) 0:Int) (ds.getD (0+(j+p)) 0:Int) q11) q12 (iF (show ¬ (((r*4294967296+ds.getD (0+(j+p)) 0:Nat):Int)<(((g+1)*(vs.getD p 0):Nat):Int)) by rw[Nat.zero_add];omega))))) (t:=zF) (σ:=slots 164 [(6,.i6 (k:Int)),(7,.list 1 (aG vs)),(8,.i6 ((p+2:Nat):Int)),(9,.own 0 1 0 l),(10,.own 1 1 0 M),(11,.i6 (j:Int)),(13,(.int .u64 (((g+1):Nat):Int))),(14,.int .u64 (r:Int))]) (h:=[some ⟨362,1,true,(aG ds),none⟩,some ⟨362,1,true,(aG qs),none⟩]) ?_
       · simp only[Nat.zero_add,aB,hcast]
         exact⟨Ref.wrI (by omega) (by omega),by omega,by omega,by omega,by omega,by omega,by omega,Ref.wrI (by omega) (by omega),by omega,by rw[hI.dl];omega,by rw[hI.dl];omega,by omega,hor⟩
       · refine Good.weak 164 [(6,_),(7,_),(8,_),(9,_),(10,_),(11,_),(13,_)] (by kernel_rfl) (.r (.r (.r (.r (.r (.r (.r .nil))))))) ?_
         exact Am hvl hvd hMl hlL hL hI (by omega) h2 (yZ (r:=r) hWe hVe hw' hPV (by omega) ⟨_,_,rfl,h1,by rw[fb];omega⟩) next
theorem Gg (hvl:vs.length=p+2) (hvd:∀ x∈vs,x<b32) (hv1:2147483648<=vs.getD (p+1) 0) (hMl:M+(p+2)=l) (hlL:l<=L2) (hL32:32*L2<=LIM) (hk:k<32) {n m B C:Nat} (hU:U=n*2^k) (hV:aH b32 vs=m*2^k) (hn:n<2^B) (hm:m<2^C):
   ∀ (k1:Nat) (ds qs:List Nat),Inv205 vs p l M L2 U k1 ds qs->GF 205 S w0 (.tup [.nat (n/m) B,.nat (n % m) (max B C)]) EN
     ⟨slots 164 [(6,.i6 ((k:Nat):Int)),(7,.list 1 (aG vs)),(8,.i6 ((p+2:Nat):Int)),(9,.own 0 1 0 l),(10,.own 1 1 0 M),(11,(.i6 (((k1:Nat):Int)-(1:Int))))],[some ⟨362,1,true,(aG ds),none⟩,some ⟨362,1,true,(aG qs),none⟩]⟩:=by
 have fb:b32=4294967296:=rfl;have hL:L2<=LIM:=by omega
 intro k1
 induction k1 with
 | zero=>
   intro ds qs hI;have hv:=hI.val;have hlow:=hI.low;simp only[List.drop_zero,Nat.pow_zero,Nat.one_mul] at hv hlow
   have hlt:aH b32 ds<b32^(p+2):=by
     have:=dI (b:=b32) (by decide) hvd;rw[hvl] at this;omega
   have hcut:aH b32 (ds.take (p+2))=aH b32 ds:=by
     have h1:=cR b32 (p+2) ds;rcases Nat.eq_zero_or_pos (aH b32 (ds.drop (p+2))) with h' | h'
     · rw[h'] at h1;omega
     · have:=Nat.mul_le_mul_left (b32^(p+2)) h'
       omega
   have e1:((aG qs).drop 0).take M=aG qs:=by rw[List.drop_zero,fQ (by rw[aB,hI.ql];omega)]
   have e2:((aG ds).drop 0).take (p+2)=aG (ds.take (p+2)):=by rw[List.drop_zero,FK]
   rw[show(((0:Nat):Int)-(1:Int))= -1 from rfl];have hdl:=hI.dl;unfold LIM at hL hL32;refine rF cX [] (.c6 (show 0+M<=(aG qs).length by rw[aB,hI.ql];omega) (show(((aG qs).drop 0).take M)=aG (aZ (((aG qs).drop 0).take M)) by rw[e1,bV]) (show ∀ x∈aZ (((aG qs).drop 0).take M),x<b32 by rw[e1,bV];exact hI.qd) (nn (p+2)) (om (((p+2:Nat):Int)<=(l:Int))) (show 0+(p+2)<=(aG ds).length by rw[aB];omega) (.a5 (show(((aG ds).drop 0).take (p+2))=aG (aZ (((aG ds).drop 0).take (p+2))) by rw[e2,bV]) (show ∀ x∈aZ (((aG ds).drop 0).take (p+2)),x<b32 by rw[e2,bV];exact fun x hx=>hI.dd x (List.mem_of_mem_take hx)) (nn k) (show(32*(((aG ds).drop 0).take (p+2)).length)<=LIM by rw[e2,aB,List.length_take];unfold LIM;omega) (om ((k:Int)<=9223372036854775807)))) (V:=.tup [.nat (aH b32 (aZ (((aG qs).drop 0).take M))) (32*(((aG qs).drop 0).take M).length),.nat ((aH b32 (aZ (((aG ds).drop 0).take (p+2))))/2^k) (32*(((aG ds).drop 0).take (p+2)).length)]) ?_
   rw[e1,e2,bV,bV,hcut];have h2k:=Nat.two_pow_pos k;have hdm:n*2^k=aH b32 qs*(m*2^k)+aH b32 ds:=by rw[<- hU, <- hv,hV,Nat.mul_comm (m*2^k)];omega
   rw[hV] at hlow;obtain⟨q1,q2⟩:=pF hdm hlow;rw[Nat.mul_div_mul_right _ _ h2k] at q1;rw[Nat.mul_mod_mul_right] at q2;rw[<- q1, <- q2,Nat.mul_div_cancel _ h2k];refine Ref.tup2 (Ref.natB (Nat.lt_of_le_of_lt (Nat.div_le_self _ _) hn)) (Ref.natB ?_) rfl rfl rfl rfl;rcases Nat.eq_zero_or_pos m with h0 | h0
   · rw[h0,Nat.mod_zero];exact kE hn (Nat.le_max_left _ _)
   · exact kE (Nat.lt_trans (Nat.mod_lt n h0) hm) (Nat.le_max_right _ _)
 | succ j ih=>
   intro ds qs hI;have hj:=hI.le;rw[show(((j+1:Nat):Int)-(1:Int))=((j:Nat):Int) by omega];have hu0:=aY (b:=b32) (by decide) hI.dd (j+p);have hu1:=aY (b:=b32) (by decide) hI.dd (j+p+1);have hu2:=aY (b:=b32) (by decide) hI.dd (j+p+2);have hv0:=aY (b:=b32) (by decide) hvd p;have hv1':=aY (b:=b32) (by decide) hvd (p+1)
   have hWb:aH b32 (ds.drop j)<b32*aH b32 vs:=by
     rw[cC (by rw[hI.dl];omega)];exact CI (aY (by decide) hI.dd j) hI.low
   have hW:aH b32 (ds.drop j)<b32^(p+3):=by
     have c:=Nat.mul_le_mul_left b32 (Nat.le_of_lt (dI (b:=b32) (by decide) hvd));rw[hvl,Nat.mul_comm b32 (b32^(p+2)), <- Nat.pow_succ] at c;exact Nat.lt_of_lt_of_le hWb c
   obtain⟨w,hw,hWe⟩:=zE hW hI.dd;obtain⟨w',hw',hVe⟩:=Dv hvl hvd;have htop:=Gd hWe hVe hw' hv0 hWb;have hfirst:=Bx hWe hw hVe (by decide) (om (0<vs.getD (p+1) 0)) rfl hu0;have hL':=hL;unfold LIM at hL';refine cP (p:=(-9223372036854775808<=(j:Int)+((p+2:Nat):Int)/\(j:Int)+((p+2:Nat):Int)<=9223372036854775807)/\(((j+p+2:Nat):Int)<(l:Int))/\(0+(j+p+2)<ds.length)/\(0+(j+p+2)<(aG ds).length)/\(0<=(ds.getD (0+(j+p+2)) 0:Int)/\(ds.getD (0+(j+p+2)) 0:Int)<=18446744073709551615)/\(32<=64)/\(Ref (.i6 (IntKind.i64.wrap (((j+p+2:Nat):Int)-(1:Int)))) (.i6 ((j+p+1:Nat):Int)))/\(((j+p+1:Nat):Int)<(l:Int))/\(0+(j+p+1)<ds.length)/\(0+(j+p+1)<(aG ds).length)/\(0<=(ds.getD (0+(j+p+1)) 0:Int)/\(ds.getD (0+(j+p+1)) 0:Int)<=18446744073709551615)/\(Ref (.int .u64 (IntKind.u64.wrap (BitVec.ofInt 64 (((ds.getD (0+(j+p+2)) 0)*2^32 % 18446744073709551616:Nat):Int)||| BitVec.ofInt 64 (ds.getD (0+(j+p+1)) 0:Int)).toNat)) (.int .u64 ((ds.getD (0+(j+p+2)) 0*4294967296+ds.getD (0+(j+p+1)) 0:Nat):Int)))/\(Ref (.i6 (IntKind.i64.wrap (((p+2:Nat):Int)-(1:Int)))) (.i6 ((p+1:Nat):Int)))/\(p+1<vs.length)/\(((p+1:Nat):Int)<((aG vs).length:Int))/\(0<=(vs.getD (p+1) 0:Int)/\(vs.getD (p+1) 0:Int)<=18446744073709551615)/\(((ds.getD (0+(j+p+2)) 0*4294967296+ds.getD (0+(j+p+1)) 0:Nat):Int)<=18446744073709551615)/\(((vs.getD (p+1) 0:Nat):Int)≠0)) ?_ fun⟨q0,q1,q2,q3,q4,q5,q6,q7,q8,q9,q10,q11,q12,q13,q14,q15,q16,q17⟩=>gN cX [4,5,6,7,8,9,10,11,13,14] [(68,tt),(74,.i6 ((j+p+2:Nat):Int)),(76,.int .u32 (ds.getD (0+(j+p+2)) 0:Int)),(77,.int .u64 (ds.getD (0+(j+p+2)) 0:Int)),(78,.int .u64 (((ds.getD (0+(j+p+2)) 0)*2^32 % 18446744073709551616:Nat):Int)),(82,.i6 ((j+p+2:Nat):Int)),(83,.i6 ((j+p+1:Nat):Int)),(85,.int .u32 (ds.getD (0+(j+p+1)) 0:Int)),(86,.int .u64 (ds.getD (0+(j+p+1)) 0:Int)),(87,.int .u64 ((ds.getD (0+(j+p+2)) 0*4294967296+ds.getD (0+(j+p+1)) 0:Nat):Int)),(91,.i6 ((p+1:Nat):Int)),(92,.cptr [.int .u32 (vs.getD (p+1) 0:Int)] 0),(94,.int .u64 (vs.getD (p+1) 0:Int)),(95,.int .u64 (((ds.getD (0+(j+p+2)) 0*4294967296+ds.getD (0+(j+p+1)) 0)/(vs.getD (p+1) 0):Nat):Int)),(99,.i6 ((p+1:Nat):Int)),(100,.cptr [.int .u32 (vs.getD (p+1) 0:Int)] 0),(102,.int .u64 (vs.getD (p+1) 0:Int)),(103,.int .u64 (((ds.getD (0+(j+p+2)) 0*4294967296+ds.getD (0+(j+p+1)) 0) % (vs.getD (p+1) 0):Nat):Int))] (.c6 (iT (om ((0:Int)<=(j:Int)))) (wI ((j:Int)+((p+2:Nat):Int)) ((j+p+2:Nat):Int) q0) (nn (j+p+2)) q1 (Ref.cd32h q2) q3 (.c6 (wU (ds.getD (0+(j+p+2)) 0:Int) (ds.getD (0+(j+p+2)) 0:Int) q4) (show Ref (.int .u64 (IntKind.u64.wrap (((ds.getD (0+(j+p+2)) 0:Nat):Int)*2^(min (32:Int).toNat 64)))) (.int .u64 (((ds.getD (0+(j+p+2)) 0)*2^32 % 18446744073709551616:Nat):Int)) from Ref.shl64 (x:=ds.getD (0+(j+p+2)) 0) (k:=32) q5) (dc (0<=(32:Int))) (wI ((j:Int)+((p+2:Nat):Int)) ((j+p+2:Nat):Int) q0) q6 (nn (j+p+1)) (.c6 q7 (Ref.cd32h q8) q9 (wU (ds.getD (0+(j+p+1)) 0:Int) (ds.getD (0+(j+p+1)) 0:Int) q10) q11 q12 (.c6 (Ref.cd32 q13) (nn (p+1)) q14 (wU (vs.getD (p+1) 0:Int) (vs.getD (p+1) 0:Int) q15) (show Ref (.int .u64 (IntKind.u64.wrap (((ds.getD (0+(j+p+2)) 0*4294967296+ds.getD (0+(j+p+1)) 0:Nat):Int).tdiv (vs.getD (p+1) 0:Int)))) (.int .u64 (((ds.getD (0+(j+p+2)) 0*4294967296+ds.getD (0+(j+p+1)) 0)/(vs.getD (p+1) 0):Nat):Int)) from Ref.quo (a:=ds.getD (0+(j+p+2)) 0*4294967296+ds.getD (0+(j+p+1)) 0) (b:=vs.getD (p+1) 0) rfl rfl (by decide) q16) q17 (.c6 q12 (Ref.cd32 q13) (nn (p+1)) q14 (wU (vs.getD (p+1) 0:Int) (vs.getD (p+1) 0:Int) q15) (show Ref (.int .u64 (((ds.getD (0+(j+p+2)) 0*4294967296+ds.getD (0+(j+p+1)) 0:Nat):Int).tmod (vs.getD (p+1) 0:Int))) (.int .u64 (((ds.getD (0+(j+p+2)) 0*4294967296+ds.getD (0+(j+p+1)) 0) % (vs.getD (p+1) 0):Nat):Int)) from Ref.rem (a:=ds.getD (0+(j+p+2)) 0*4294967296+ds.getD (0+(j+p+1)) 0) (b:=vs.getD (p+1) 0) rfl rfl) (.a1 q17)))))) (t:=Ge) (σ:=slots 164 [(6,.i6 (k:Int)),(7,.list 1 (aG vs)),(8,.i6 ((p+2:Nat):Int)),(9,.own 0 1 0 l),(10,.own 1 1 0 M),(11,.i6 (j:Int)),(13,(.int .u64 (((ds.getD (0+(j+p+2)) 0*4294967296+ds.getD (0+(j+p+1)) 0)/(vs.getD (p+1) 0):Nat):Int))),(14,(.int .u64 (((ds.getD (0+(j+p+2)) 0*4294967296+ds.getD (0+(j+p+1)) 0) % (vs.getD (p+1) 0):Nat):Int)))]) (h:=[some ⟨362,1,true,(aG ds),none⟩,some ⟨362,1,true,(aG qs),none⟩]) ?_
   · simp only[Nat.zero_add,aB]
     rw[fb] at hu0 hu1 hu2 hv0 hv1';exact⟨by omega,by omega,by rw[hI.dl];omega,by rw[hI.dl];omega,by omega,by omega,Ref.wrI (by omega) (by omega),by omega,by rw[hI.dl];omega,by rw[hI.dl];omega,by omega,CH hu2 hu1,Ref.wrI (by omega) (by omega),by omega,by omega,by omega,by omega,by omega⟩
   · simp only[Nat.zero_add]
     refine Gf hvl hvd hv1 hMl hlL hL hI ih _ _ ?_ hfirst ?_ ?_
     · have:=Nat.div_add_mod (ds.getD (j+p+2) 0*4294967296+ds.getD (j+p+1) 0) (vs.getD (p+1) 0)
       rw[Nat.mul_comm] at this;rw[fb];omega
     · rw[fb] at hu1 ⊢
       refine Nat.le_of_lt_succ ((Nat.div_lt_iff_lt_mul (by omega)).2 ?_);omega
     · rw[fb] at hv1' ⊢
       have:=Nat.mod_lt (ds.getD (j+p+2) 0*4294967296+ds.getD (j+p+1) 0) (om (0<vs.getD (p+1) 0));omega
theorem JC {us:List Nat} {l:Nat} (h:us.length<=l):(List.take 0 (aG (List.replicate l 0))++(aG us).take (min (aG us).length l)++(aG (List.replicate l 0)).drop (0+(min (aG us).length l)))=aG (us++List.replicate (l-us.length) 0):=by
 rw[aB,Nat.min_eq_left h,Nat.zero_add,List.take_zero,List.nil_append,Br,List.drop_replicate,fQ (by rw[aB];omega),CA]
theorem JD {ys:List Nat} {p:Nat} (hy:Dig b32 ys) (hl:ys.length=p+2):∃ k,k=32-aR (ys.getD (p+1) 0)/\k<32/\2147483648*b32^(p+1)<=aH b32 ys*2^k/\aH b32 ys*2^k<b32^(p+2):=by
 have ht:=aY (b:=b32) (by decide) hy.1 (p+1)
 have h0:ys.getD (p+1) 0≠0:=by
   have:=hy.2;rw[List.getLast?_eq_getElem?,hl,show p+2-1=p+1 by omega] at this;intro h;apply this;rw[mQ] at h;rw[List.getElem?_eq_getElem (by omega)] at h ⊢;simpa using h
 have h1:=aQ b32 ys (p+1);rw[fQ (by omega)] at h1;have h2:=dA (b:=b32) (by decide) hy.1 (p+1);obtain⟨b1,b2,b3⟩:=kY h0;have b4:aR (ys.getD (p+1) 0)<=32:=pH ht;refine⟨_,rfl,by omega, ?_, ?_⟩
 · have e1:2^(aR (ys.getD (p+1) 0)-1)*2^(32-aR (ys.getD (p+1) 0))=2147483648:=by
     rw[<- Nat.pow_add,show aR (ys.getD (p+1) 0)-1+(32-aR (ys.getD (p+1) 0))=31 by omega]
   have e2:2147483648<=ys.getD (p+1) 0*2^(32-aR (ys.getD (p+1) 0)):=by rw[<- e1];exact Nat.mul_le_mul_right _ b2
   have e3:=Nat.mul_le_mul_right (b32^(p+1)) e2
   have e4:ys.getD (p+1) 0*2^(32-aR (ys.getD (p+1) 0))*b32^(p+1)=b32^(p+1)*ys.getD (p+1) 0*2^(32-aR (ys.getD (p+1) 0)):=by
     rw[Nat.mul_comm _ (b32^(p+1)),Nat.mul_assoc]
   rw[h1,Nat.add_mul];omega
 · have e1:2^aR (ys.getD (p+1) 0)*2^(32-aR (ys.getD (p+1) 0))=b32:=by
     rw[<- Nat.pow_add,show aR (ys.getD (p+1) 0)+(32-aR (ys.getD (p+1) 0))=32 by omega];rfl
   have e2:(ys.getD (p+1) 0+1)*2^(32-aR (ys.getD (p+1) 0))<=b32:=by
     have:=Nat.mul_le_mul_right (2^(32-aR (ys.getD (p+1) 0))) (show ys.getD (p+1) 0+1<=2^aR (ys.getD (p+1) 0) from b3);omega
   have e3:aH b32 ys<b32^(p+1)*(ys.getD (p+1) 0+1):=by rw[h1,Nat.mul_add];omega
   have e4:=Nat.mul_lt_mul_of_pos_right e3 (Nat.two_pow_pos (32-aR (ys.getD (p+1) 0)));have e5:=Nat.mul_le_mul_left (b32^(p+1)) e2;rw[Nat.pow_succ b32 (p+1)];rw[Nat.mul_assoc] at e4;omega
theorem BC {v p:Nat} (h1:2147483648*b32^(p+1)<=v) (h2:v<b32^(p+2)):(aC b32 v).length=p+2/\2147483648<=(aC b32 v).getD (p+1) 0:=by
 obtain⟨g1,g2⟩:=aO (b:=b32) (by decide) v;have l1:=fV (b:=b32) (by decide) h2;have l2:=iR (b:=b32) (n:=v) (by decide)
 have l3:b32^(p+1)<b32^(aC b32 v).length:=by
   have:1*b32^(p+1)<=2147483648*b32^(p+1):=Nat.mul_le_mul_right _ (by decide);omega
 have l4:=(Nat.pow_lt_pow_iff_right (by decide:1<b32)).1 l3;have hl:(aC b32 v).length=p+2:=by omega
 refine⟨hl, ?_⟩;have t1:=aQ b32 (aC b32 v) (p+1);rw[fQ (by omega),g2] at t1;have t2:=dA (b:=b32) (by decide) g1.1 (p+1);rcases Nat.lt_or_ge ((aC b32 v).getD (p+1) 0) 2147483648 with h | h
 · exfalso
   have:=Nat.mul_le_mul_left (b32^(p+1)) (Nat.succ_le_of_lt h);rw[Nat.mul_succ,Nat.mul_comm (b32^(p+1)) 2147483648] at this;omega
 · exact h
theorem Mx:bQ 205 Pg:=by
 refine cK Tryz.f205 fun _ _ _ S w0 h ho=> ?_
 unfold Pg at h;split at h <;> cases h;rename_i n B m C;have hm0:0<m:=ho _ (by simp);have hL:max B C+128<=LIM:=ho _ (by simp);have hB1:B<=max B C:=Nat.le_max_left _ _;have hC1:C<=max B C:=Nat.le_max_right _ _;refine Good.natlt (n:=n) (B:=B) 0 rfl fun hn=>Good.natlt (n:=m) (B:=C) 1 rfl fun hm=> ?_
 by_cases hlt:n<m
 · refine rF cX [(15,tt)] (.a1 (iT (Bt.2 hlt))) (V:=.tup [AV.nil,AV.nat n B]) ?_
   rw[Nat.div_eq_of_lt hlt,Nat.mod_eq_of_lt hlt];exact Ref.tup2 Ref.nil0 (Ref.natB (kE hn hB1)) rfl rfl rfl rfl
 refine gR cX (some 3) [0,1,4,5] [] [(15,ff)] (.a1 (iF (fun h=>hlt (Bt.1 h)))) (t:=[.code (aN [1,0,0,1,1,0] (aA Tryz.f205)),.code (aN [1,0,0,1,1,1] (aA Tryz.f205)),.inBlock 0,.code (aN [1,1] (aA Tryz.f205))]) (σ:=slots 164 [(0,.nat n B),(1,.nat m C),(4,.nil),(5,.nil)]) (h:=[]) ?_
 obtain⟨hy,hym⟩:=aO (b:=b32) (by decide) m;have hly:=hy.len (by rw[hym];exact hm);have hy0:0<(aC b32 m).length:=(cJ (by decide)).2 hm0;refine Good.weak 164 [(0,_),(1,.list 1 (aG (aC b32 m)))] (by kernel_rfl) (.r (.cons Ref.opn .nil)) ?_;generalize hys:aC b32 m=ys at*;unfold LIM at hL
 by_cases hy1:ys.length=1
 · have hv:m=ys.getD 0 0:=by
     have h1:=aQ b32 ys 0;rw[fQ (by omega),hym] at h1;simpa[aH] using h1
   have hlt32:=aY (b:=b32) (by decide) hy.1 0;unfold b32 at hlt32;refine gR cX (some 6) [0,1,4,5,6] [] [(21,tt),(27,.cptr [.int .u32 (ys.getD 0 0:Int)] 0)] (.c6 (iT (show((aG ys).length:Int)=(1:Int) by rw[aB];omega)) (show Ref (.cptr ((aG ys).getD 0 []) 0) (.cptr [.int .u32 (ys.getD 0 0:Int)] 0) from Ref.cd32 ((om (0<ys.length)))) (dc (0<=(0:Int))) (show(0:Int)<((aG ys).length:Int) by rw[aB];omega) (show 0<=(ys.getD 0 0:Int) from Int.natCast_nonneg _) (om (0<(ys.getD 0 0))) (.a2 hlt32 (show B<=LIM by unfold LIM;omega))) (t:=[.code .ret,.inBlock 0,.code (aN [1,1] (aA Tryz.f205))]) (σ:=slots 164 [(0,.nat n B),(1,.list 1 (aG ys)),(4,.nat (n/(ys.getD 0 0)) B),(5,.nat (n % (ys.getD 0 0)) 64)]) (h:=[]) ?_
   rw[<- hv];refine gE [AV.nat (n/m) B,AV.nat (n % m) 64] ?_;exact Ref.tup2 rr (Ref.natB (kE (Nat.lt_trans (Nat.mod_lt n hm0) hm) hC1)) rfl rfl rfl rfl
 obtain⟨p,hp⟩:∃ p,ys.length=p+2:=⟨ys.length-2,by omega⟩;obtain⟨k,hk,hk32,hk1,hk2⟩:=JD hy hp;have hidx:(((((aG ys).length:Nat):Int)-(1:Int)).toNat)=p+1:=by rw[aB];omega
 have htop:=aY (b:=b32) (by decide) hy.1 (p+1);refine gR cX (some 6) [0,1,4,5,6] [] [(21,ff),(35,.i6 ((((aG ys).length:Nat):Int)-(1:Int))),(36,.cptr [.int .u32 (ys.getD (((((aG ys).length:Nat):Int)-(1:Int)).toNat) 0:Int)] 0)] (.c6 (iF (show ¬ ((((aG ys).length:Nat):Int)=(1:Int)) by rw[aB];omega)) (wI ((((aG ys).length:Nat):Int)-(1:Int)) ((((aG ys).length:Nat):Int)-(1:Int)) (by rw[aB];omega)) (show Ref (.cptr ((aG ys).getD ((((aG ys).length:Int)-(1:Int)).toNat) []) 0) (.cptr [.int .u32 (ys.getD (((((aG ys).length:Nat):Int)-(1:Int)).toNat) 0:Int)] 0) from Ref.cd32 ((show((((aG ys).length:Nat):Int)-(1:Int)).toNat<ys.length by rw[hidx];omega))) (show 0<=((((aG ys).length:Nat):Int)-(1:Int)) by rw[aB];omega) (show((((aG ys).length:Nat):Int)-(1:Int))<((aG ys).length:Int) by rw[aB];omega) (om (0<=(ys.getD (((((aG ys).length:Nat):Int)-(1:Int)).toNat) 0:Int))) (.a1 (show(ys.getD ((((aG ys).length:Int)-(1:Int)).toNat) 0)<4294967296 by rw[hidx];exact htop))) (t:=[.code (aN [1,1,1,0] (aA Tryz.f205)),.code (aN [1,1,1,1] (aA Tryz.f205))]) (σ:=slots 164 [(0,.nat n B),(1,.list 1 (aG ys)),(6,(.i6 ((32-aR (ys.getD ((((aG ys).length:Int)-(1:Int)).toNat) 0):Nat):Int)))]) (h:=[]) ?_
 rw[hidx, <- hk];rw[hym] at hk1 hk2;refine Good.weak 164 [(0,_),(1,.nat m C),(6,_)] (by kernel_rfl) (.r (.cons (Ref.nat hy hym hm) (.r .nil))) ?_;refine gR cX (some 7) [0,1,6,7] [] [] (.a2 (nn k) (show C+k<=LIM by unfold LIM;omega)) (t:=[.code (aN [1,1,1,1,0] (aA Tryz.f205)),.code (aN [1,1,1,1,1] (aA Tryz.f205))]) (σ:=slots 164 [(0,.nat n B),(1,.nat m C),(6,.i6 (k:Int)),(7,.nat (m*2^k) (C+k))]) (h:=[]) ?_
 obtain⟨hx,hxn⟩:=aO (b:=b32) (by decide) n;obtain⟨hvd,hvm⟩:=aO (b:=b32) (by decide) (m*2^k);obtain⟨hvl,hvt⟩:=BC hk1 hk2;have hlx:=hx.len (by rw[hxn];exact hn);refine Good.weak 164 [(0,.list 1 (aG (aC b32 n))),(6,_),(7,.list 1 (aG (aC b32 (m*2^k))))] (by kernel_rfl) (.cons Ref.opn (.r (.cons Ref.opn .nil))) ?_;generalize hxs:aC b32 n=xs at*;generalize hvs:aC b32 (m*2^k)=vs at*;refine cP (p:=(-9223372036854775808<=((aG xs).length:Int)+(2:Int)/\((aG xs).length:Int)+(2:Int)<=9223372036854775807)/\(4*(((aG xs).length+2:Nat):Int)<=281474976710656)/\((((aG xs).length+2:Nat):Int)<=(big:Int))) (by simp only[aB];unfold big;omega) fun⟨q0,q1,q2⟩=>gS cX (some 9) [0,6,7,8,9] [(46,.i6 (((aG xs).length+2:Nat):Int))] (.a5 (wI ((((aG xs).length:Nat):Int)+(2:Int)) (((aG xs).length+2:Nat):Int) q0) (rfl:(((aG xs).length+2:Nat):Int)=(((aG xs).length+2:Nat):Int)) (nn ((aG xs).length+2)) q1 q2) (t:=[.code (aN [1,1,1,1,1,1,0] (aA Tryz.f205)),.code (aN [1,1,1,1,1,1,1] (aA Tryz.f205))]) (σ:=slots 164 [(0,.list 1 (aG xs)),(6,.i6 (k:Int)),(7,.list 1 (aG vs)),(8,.i6 ((aG vs).length:Int)),(9,.own 0 1 0 ((aG xs).length+2))]) (h:=[some ⟨362,1,true,(List.replicate ((aG xs).length+2) [.int .u32 (0:Int)]),none⟩]) ?_
 rw[mP];simp only[aB,hvl];refine Good.weak 164 [(0,.nat n B),(6,_),(7,_),(8,_),(9,_)] (by kernel_rfl) (.cons (Ref.nat hx hxn hn) (.r (.r (.r (.r .nil))))) ?_;obtain⟨hud,hun⟩:=aO (b:=b32) (by decide) (n*2^k);have hnlt:n<b32^xs.length:=by rw[<- hxn];exact dI (by decide) hx.1
 have h2k:2^k<=b32:=by
   have:=Nat.pow_le_pow_right (dc (0<2)) (om (k<=32));exact this
 have hulen:(aC b32 (n*2^k)).length<=xs.length+1:=fV (by decide) (by
   rw[Nat.pow_succ]
   exact Nat.lt_of_lt_of_le (Nat.mul_lt_mul_of_pos_right hnlt (Nat.two_pow_pos k)) (Nat.mul_le_mul_left _ h2k))
 refine gR cX (some 10) [0,6,7,8,9] [0] [(51,.list 1 (aG (aC b32 (n*2^k))))] (.a4 (show Ref (.nat (n*2^k) (B+k)) (.list 1 (aG (aC b32 (n*2^k)))) from Ref.opn) (nn k) (show B+k<=LIM by unfold LIM;omega) (show 0+(xs.length+2)<=(aG (List.replicate (xs.length+2) 0)).length by rw[aB];simp)) (t:=[.code (aN [1,1,1,1,1,1,1,0] (aA Tryz.f205)),.code (aN [1,1,1,1,1,1,1,1] (aA Tryz.f205))]) (σ:=slots 164 [(0,.nat n B),(6,.i6 (k:Int)),(7,.list 1 (aG vs)),(8,(.i6 (((p+2):Nat):Int))),(9,.own 0 1 0 (xs.length+2))]) (h:=[some ⟨362,1,true,((aG (List.replicate (xs.length+2) 0)).take 0++(aG (aC b32 (n*2^k))).take (min (aG (aC b32 (n*2^k))).length (xs.length+2))++(aG (List.replicate (xs.length+2) 0)).drop (0+(min (aG (aC b32 (n*2^k))).length (xs.length+2)))),none⟩]) ?_
 generalize hus:aC b32 (n*2^k)=us at*;rw[JC (by omega)];refine Good.weak 164 [(0,.list 1 (aG xs)),(6,_),(7,_),(8,_),(9,_)] (by kernel_rfl) (.cons (hxs▸Ref.opn) (.r (.r (.r (.r .nil))))) ?_
 have hlen:ys.length<=xs.length:=by
   rcases Nat.lt_or_ge xs.length ys.length with h | h
   · have:=dU (by decide) hx hy h
     omega
   · exact h
 obtain⟨M,hM⟩:∃ M,M+(p+2)=xs.length+1:=⟨xs.length+1-(p+2),by omega⟩;refine cP (p:=(-9223372036854775808<=((aG xs).length:Int)+(1:Int)/\((aG xs).length:Int)+(1:Int)<=9223372036854775807)/\((((aG xs).length+1:Nat):Int)<=(((xs.length+2):Nat):Int))/\(-9223372036854775808<=((aG xs).length:Int)-(((p+2):Nat):Int)/\((aG xs).length:Int)-(((p+2):Nat):Int)<=9223372036854775807)/\(Ref (.i6 (IntKind.i64.wrap ((((aG xs).length:Int)-(((p+2):Nat):Int))+(1:Int)))) (.i6 (M:Int)))/\(4*(M:Int)<=281474976710656)/\((M:Int)<=(big:Int))/\(-9223372036854775808<=(M:Int)-(1:Int)/\(M:Int)-(1:Int)<=9223372036854775807)) ?_ fun⟨q0,q1,q2,q3,q4,q5,q6⟩=>gN cX [6,7,8,9,10,11] [(56,.i6 (((aG xs).length+1:Nat):Int)),(61,.i6 ((((aG xs).length:Nat):Int)-(((p+2):Nat):Int))),(62,.i6 (M:Int)),(66,.i6 ((M:Int)-(1:Int)))] (.c6 (wI ((((aG xs).length:Nat):Int)+(1:Int)) (((aG xs).length+1:Nat):Int) q0) (nn ((aG xs).length+1)) q1 (wI ((((aG xs).length:Nat):Int)-(((p+2):Nat):Int)) ((((aG xs).length:Nat):Int)-(((p+2):Nat):Int)) q2) q3 (rfl:(M:Int)=(M:Int)) (.a4 (nn M) q4 q5 (wI ((M:Int)-(1:Int)) ((M:Int)-(1:Int)) q6))) (t:=EN) (σ:=slots 164 [(6,.i6 (k:Int)),(7,.list 1 (aG vs)),(8,(.i6 (((p+2):Nat):Int))),(9,.own 0 1 0 ((aG xs).length+1)),(10,.own 1 1 0 M),(11,.i6 ((M:Int)-(1:Int)))]) (h:=[some ⟨362,1,true,(aG (us++List.replicate (xs.length+2-us.length) 0)),none⟩,some ⟨362,1,true,(List.replicate M [.int .u32 (0:Int)]),none⟩]) ?_
 · simp only[aB]
   exact⟨by omega,by omega,by omega,Ref.wrI (by omega) (by omega),by omega,by unfold big;omega,by omega⟩
 rw[mP,aB]
 have hzd:∀ x∈us++List.replicate (xs.length+2-us.length) 0,x<b32:=by
   intro x hx';rcases List.mem_append.1 hx' with h | h
   · exact hud.1 x h
   · rw[List.mem_replicate] at h;rw[h.2];decide
 have hval:aH b32 (us++List.replicate (xs.length+2-us.length) 0)=n*2^k:=by rw[eL,nT,hun];simp
 refine Gg (L2:=xs.length+2) (U:=n*2^k) hvl hvd.1 hvt hM (by omega) (by unfold LIM;omega) hk32 rfl hvm hn hm M _ _ ?_;refine⟨by simp;omega,hzd,by simp,nS (by decide), ?_, ?_,Nat.le_refl _⟩
 · rw[hval,List.drop_of_length_le (by simp)];simp[aH]
 · have h1:=cR b32 M (us++List.replicate (xs.length+2-us.length) 0)
   rw[hval] at h1;have hlow:=hy.low (by decide) (fun h=>by rw[h] at hp;simp at hp);rw[hym,hp,show p+2-1=p+1 by omega] at hlow
   have h2:n*2^k<b32^M*(m*2^k):=by
     have a:=Nat.mul_lt_mul_of_pos_right hnlt (Nat.two_pow_pos k)
     have c:b32^xs.length<=b32^M*m:=by
       rw[show xs.length=M+(p+1) by omega,Nat.pow_add];exact Nat.mul_le_mul_left _ hlow
     have d:=Nat.mul_le_mul_right (2^k) c;rw[Nat.mul_assoc] at d;omega
   rw[hvm];rcases Nat.lt_or_ge (aH b32 ((us++List.replicate (xs.length+2-us.length) 0).drop M)) (m*2^k) with h | h
   · exact h
   · have:=Nat.mul_le_mul_left (b32^M) h
     omega
end
def wN:=kn
def Ph:KF
 | [.nat n _]=>some (.int .u64 ((n:Nat):Int),[n<18446744073709551616])
 | _=>none
section
variable {S:Nat->Prop} {w0:World}
noncomputable abbrev Pi:List Item:=[.code (aN [1,1,0,1,0,0] (aA Tryz.f249)),.inLoop (aN [1,1,0,1,0,0] (aA Tryz.f249)),.inBlock 0,.code (aN [1,1,1] (aA Tryz.f249))]
theorem JE {xs:List Nat} (hx:∀ x∈xs,x<b32) (hl:xs.length<=2):∀ (j i v:Nat),j=xs.length-i->i<=xs.length->v=aH b32 (xs.take i)->
   GF 249 S w0 (.int .u64 ((aH b32 xs:Nat):Int)) Pi ⟨slots 22 [(3,.int .u64 ((v:Nat):Int)),(6,.list 1 (aG xs)),(7,(.i6 (((aG xs).length:Nat):Int))),(8,.i6 ((i:Nat):Int))],[]⟩:=by
 intro j
 induction j with
 | zero=>
   intro i v hj hi hv;have hi:i=xs.length:=by omega
   subst hi;rw[fQ (rl _)] at hv;refine rF wN [(9,ff)] (.a1 (iF (show ¬ ((xs.length:Int)<((aG xs).length:Int)) by rw[aB];omega))) (V:=.int .u64 (v:Int)) ?_
   exact Ref.nat_eq hv
 | succ j ih=>
   intro i v hj hi hv;have hlt:i<xs.length:=by omega
   have hx1:xs.getD i 0<b32:=aY (by decide) hx i;have hvl:v<2^(32*i):=by rw[hv, <- kX];exact dA (by decide) hx i
   unfold b32 at hx1
   have hp:2^(32*i)*xs.getD i 0<18446744073709551616:=by
     have:i=0\/i=1:=by omega
     rcases this with rfl | rfl
     · rw[show 2^(32*0)=1 from rfl,Nat.one_mul];omega
     · rw[show 2^(32*1)=4294967296 from rfl];omega
   have hv64:v<18446744073709551616:=by
     have:i=0\/i=1:=by omega
     rcases this with rfl | rfl
     · rw[show 2^(32*0)=1 from rfl] at hvl;omega
     · rw[show 2^(32*1)=4294967296 from rfl] at hvl;omega
   have v0:(i:Int)<((aG xs).length:Int):=by rw[aB];omega
   refine gN wN [2,3,6,7,8] [(9,tt),(11,.cptr [.int .u32 (xs.getD i 0:Int)] 0),(15,.int .u64 (xs.getD i 0:Int)),(17,.i6 ((32*i:Nat):Int)),(18,.int .u64 (((xs.getD i 0)*2^(32*i) % 18446744073709551616:Nat):Int)),(19,.int .u64 ((v+2^(32*i)*xs.getD i 0:Nat):Int)),(20,.i6 ((i+1:Nat):Int))] (.c6 (iT v0) (Ref.cd32 hlt) (nn i) v0 (wU (xs.getD i 0:Int) (xs.getD i 0:Int)) (wI ((32:Int)*(i:Int)) ((32*i:Nat):Int)) (.a4 (show Ref (.int .u64 (IntKind.u64.wrap (((xs.getD i 0:Nat):Int)*2^(min ((32*i:Nat):Int).toNat 64)))) (.int .u64 (((xs.getD i 0)*2^(32*i) % 18446744073709551616:Nat):Int)) from Ref.shl64 (x:=xs.getD i 0) (k:=32*i) ((om (32*i<=64)))) (nn (32*i)) (show Ref (.int .u64 (IntKind.u64.wrap (BitVec.ofInt 64 (v:Int)||| BitVec.ofInt 64 (((xs.getD i 0)*2^(32*i) % 18446744073709551616:Nat):Int)).toNat)) (.int .u64 ((v+2^(32*i)*xs.getD i 0:Nat):Int)) from ?_) (wI ((i:Int)+(1:Int)) ((i+1:Nat):Int)))) (t:=Pi) (σ:=slots 22 [(3,(.int .u64 ((v+2^(32*i)*xs.getD i 0:Nat):Int))),(6,.list 1 (aG xs)),(7,.i6 ((aG xs).length:Int)),(8,.i6 ((i+1:Nat):Int))]) (h:=[]) ?_
   · have e:xs.getD i 0*2^(32*i) % 18446744073709551616=2^(32*i)*xs.getD i 0:=by rw[Nat.mul_comm,Nat.mod_eq_of_lt hp]
     refine(Ref.or64 ⟨hv64,Nat.mod_lt _ (by decide)⟩).trans (Ref.nat_eq ?_);rw[e,Nat.or_comm,nW hvl];omega
   · refine ih _ _ (by omega) (by omega) ?_
     rw[aQ, <- hv,kX]
theorem Pj:bQ 249 Ph:=fun args r ob h ho=>by
 unfold Ph at h
 split at h
 · rename_i n B
   cases h;have hn:n<18446744073709551616:=ho _ (by simp);obtain⟨hx,hxn⟩:=aO (b:=b32) (by decide) n;have hl:=fV (b:=b32) (n:=n) (k:=2) (by decide) (by unfold b32;omega);refine af Tryz.f249 fun S w0=> ?_
   refine Good.weak 22 [(0,.list 1 (aG (aC b32 n)))] (by kernel_rfl) (.cons Ref.opn .nil) ?_;generalize aC b32 n=xs at*;subst hxn;exact gN wN [3,6,7,8] [] .nil (JE hx.1 hl _ 0 0 rfl (by omega) (by simp[aH]))
 · cases h
end
def gZ:=((kn.cons Pj).cons Mx).cons CG
section
variable {S0 C0:Nat->Prop} {w0:World} {Post:Value->World->Prop}
theorem Gh (x y:Nat) (h1:(y:Int)=(0:Int)) (o:((x:Int)<18446744073709551616))
   (hg:Good Tryz.prog 204 S0 C0 w0 Post [.code .ret,.code (aN [1,0,0,0,1,0,1] (aA Tryz.f204)),.inBlock 1,.inLoop (aN [1,0,0,0] (aA Tryz.f204)),.inBlock 0,.code (aN [1,1] (aA Tryz.f204))] ⟨slots 41 [(4,.nat x 64),(5,.int .u64 (x:Int)),(6,.int .u64 (y:Int))],[]⟩):
   Good Tryz.prog 204 S0 C0 w0 Post [.code (aN [1,0,0,0,1,0,0,1,0,1,0,0,0] (aA Tryz.f204)),.inLoop (aN [1,0,0,0,1,0,0,1,0,1,0,0,0] (aA Tryz.f204)),.inBlock 2,.code (aN [1,0,0,0,1,0,0,1,0,1,1] (aA Tryz.f204)),.code (aN [1,0,0,0,1,0,1] (aA Tryz.f204)),.inBlock 1,.inLoop (aN [1,0,0,0] (aA Tryz.f204)),.inBlock 0,.code (aN [1,1] (aA Tryz.f204))] ⟨slots 41 [(5,.int .u64 (x:Int)),(6,.int .u64 (y:Int))],[]⟩:=
 tR mixed aT gZ 12 none [4,5,6] [] [(25,(.bool false))] (ob:=[Ref (.bool (!decide ((y:Int)=(0:Int)))) (.bool false),0<=(x:Int),(x:Int)<18446744073709551616]) (by decide) (by kernel_rfl)
   (.cons (Ref.bool (congrArg Bool.not (decide_eq_true h1))) (.cons (Int.natCast_nonneg _) (.cons (o) (AllP.nil)))) hg
end
def Pk:KF
 | [.nat n B,.nat m C]=>some (.nat (Nat.gcd n m) (max B C),[max B C+128<=LIM])
 | _=>none
theorem Gi {n m E:Nat} (hn:n<2^E) (hm:m<2^E):Nat.gcd n m<2^E:=by
 rcases Nat.eq_zero_or_pos m with rfl | h
 · rw[Nat.gcd_zero_right];exact hn
 · exact Nat.lt_of_le_of_lt (Nat.gcd_le_right n h) hm
theorem rA (n m:Nat):Nat.gcd n m=Nat.gcd m (n % m):=by
 rw[Nat.gcd_comm n m,Nat.gcd_rec m n,Nat.gcd_comm]
section
variable {S:Nat->Prop} {w0:World}
noncomputable abbrev My:List Item:=[.code (aN [1,0,0,0] (aA Tryz.f204)),.inLoop (aN [1,0,0,0] (aA Tryz.f204)),.inBlock 0,.code (aN [1,1] (aA Tryz.f204))]
noncomputable abbrev Dy:List Item:=[.code (aN [1,0,0,0,1,0,0,1,0,1,0,0,0] (aA Tryz.f204)),.inLoop (aN [1,0,0,0,1,0,0,1,0,1,0,0,0] (aA Tryz.f204)),.inBlock 2,.code (aN [1,0,0,0,1,0,0,1,0,1,1] (aA Tryz.f204)),.code (aN [1,0,0,0,1,0,1] (aA Tryz.f204)),.inBlock 1,.inLoop (aN [1,0,0,0] (aA Tryz.f204)),.inBlock 0,.code (aN [1,1] (aA Tryz.f204))]
theorem Gj {E:Nat}:∀ (f x y:Nat),y<=f->x<18446744073709551616->y<18446744073709551616->Nat.gcd x y<2^E->
   GF 204 S w0 (.nat (Nat.gcd x y) E) Dy ⟨slots 41 [(5,.int .u64 ((x:Nat):Int)),(6,.int .u64 ((y:Nat):Int))],[]⟩:=by
 have last:∀ x,x<18446744073709551616->Nat.gcd x 0<2^E->GF 204 S w0 (.nat (Nat.gcd x 0) E) Dy ⟨slots 41 [(5,.int .u64 ((x:Nat):Int)),(6,.int .u64 ((0:Nat):Int))],[]⟩:=by
   intro x hx hE;rw[Nat.gcd_zero_right] at hE ⊢;exact Gh x 0 rfl (by omega) (bP aT (fn:=Tryz.f204) (by kernel_rfl) 4 (by kernel_rfl) rfl (by rfl) (Ref.natB hE))
 intro f
 induction f with
 | zero=>
   intro x y hf hx hy hE;have:y=0:=by omega
   subst this;exact last x hx hE
 | succ f ih=>
   intro x y hf hx hy hE
   by_cases h0:y=0
   · subst h0;exact last x hx hE
   · refine gN gZ [4,5,6] [(25,tt),(29,.int .u64 ((x % y:Nat):Int))] (.a3 (jT (om (¬ ((y:Int)=(0:Int))))) (show Ref (.int .u64 ((x:Int).tmod (y:Int))) (.int .u64 ((x % y:Nat):Int)) from Ref.rem (a:=x) (b:=y) rfl rfl) (om ((y:Int)≠0))) (t:=Dy) (σ:=slots 41 [(5,.int .u64 (y:Int)),(6,.int .u64 ((x % y:Nat):Int))]) (h:=[]) ?_
     have hlt:x % y<y:=Nat.mod_lt _ (by omega);rw[rA] at hE ⊢;exact ih _ _ (by omega) hy (by omega) hE
theorem JF {E:Nat} (hL:E+128<=LIM):∀ (f n m:Nat),m<=f->n<2^E->m<2^E->
   GF 204 S w0 (.nat (Nat.gcd n m) E) My ⟨slots 41 [(0,.nat n E),(1,.nat m E)],[]⟩:=by
 have last:∀ n,n<2^E->GF 204 S w0 (.nat (Nat.gcd n 0) E) My ⟨slots 41 [(0,.nat n E),(1,.nat 0 E)],[]⟩:=by
   intro n hn;obtain⟨hx,hxn⟩:=aO (b:=b32) (by decide) n;rw[Nat.gcd_zero_right];refine Good.weak 41 [(0,.list 1 (aG (aC b32 n))),(1,.list 1 (aG (aC b32 0)))] (by kernel_rfl) (.cons Ref.opn (.cons Ref.opn .nil)) ?_;refine rF gZ [(11,ff)] (.a1 (iF (show ¬ ((0:Int)<((aG (aC b32 0)).length:Int)) by simp[aB,gL]))) (V:=.list 1 (aG (aC b32 n))) (Ref.nat hx hxn hn)
 intro f
 induction f with
 | zero=>
   intro n m hf hn hm;have:m=0:=by omega
   subst this;exact last n hn
 | succ f ih=>
   intro n m hf hn hm
   by_cases h0:m=0
   · subst h0;exact last n hn
   obtain⟨hx,hxn⟩:=aO (b:=b32) (by decide) n;obtain⟨hy,hyn⟩:=aO (b:=b32) (by decide) m;have hy0:0<(aC b32 m).length:=(cJ (by decide)).2 (by omega)
   have hbig:∀ k,(aC b32 k).length<=2->k<18446744073709551616:=fun k hk=>by
     have h1:=iR (b:=b32) (n:=k) (by decide);have h2:b32^(aC b32 k).length<=b32^2:=Nat.pow_le_pow_right (by decide) hk;have h3:b32^2=18446744073709551616:=by decide
     omega
   have div:GF 204 S w0 (.nat (Nat.gcd n m) E) [.code (aN [1,0,0,0,1,0,1,0] (aA Tryz.f204)),.code (aN [1,0,0,0,1,0,1,1] (aA Tryz.f204)),.inBlock 1,.inLoop (aN [1,0,0,0] (aA Tryz.f204)),.inBlock 0,.code (aN [1,1] (aA Tryz.f204))] ⟨slots 41 [(0,.list 1 (aG (aC b32 n))),(1,.list 1 (aG (aC b32 m)))],[]⟩:=by
     refine Good.weak 41 [(0,.nat n E),(1,.nat m E)] (by kernel_rfl) (.cons (Ref.nat hx hxn hn) (.cons (Ref.nat hy hyn hm) .nil)) ?_;refine gR gZ none [0,1] [] [] (.a2 (om (0<m)) (show max E E+128<=LIM by rw[Nat.max_self];exact hL)) (t:=My) (σ:=slots 41 [(0,.nat m E),(1,.nat (n % m) (max E E))]) (h:=[]) ?_
     rw[Nat.max_self,rA];have hlt:n % m<m:=Nat.mod_lt _ (by omega);exact ih _ _ (by omega) hm (by omega)
   refine Good.weak 41 [(0,.list 1 (aG (aC b32 n))),(1,.list 1 (aG (aC b32 m)))] (by kernel_rfl) (.cons Ref.opn (.cons Ref.opn .nil)) ?_;have v0:(0:Int)<((aG (aC b32 m)).length:Int):=by rw[aB];omega
   by_cases c1:(aC b32 n).length<=2
   · have v1:((aG (aC b32 n)).length:Int)<=(2:Int):=by rw[aB];omega
     by_cases c2:(aC b32 m).length<=2
     · refine gS gZ (some 3) [0,1,4] [(11,tt),(15,tt),(19,tt)] (.a3 (iT v0) (iT v1) (iT (show((aG (aC b32 m)).length:Int)<=(2:Int) by rw[aB];omega))) (t:=[.code (aN [1,0,0,0,1,0,0,1,0,0] (aA Tryz.f204)),.code (aN [1,0,0,0,1,0,0,1,0,1] (aA Tryz.f204)),.code (aN [1,0,0,0,1,0,1] (aA Tryz.f204)),.inBlock 1,.inLoop (aN [1,0,0,0] (aA Tryz.f204)),.inBlock 0,.code (aN [1,1] (aA Tryz.f204))]) (σ:=slots 41 [(0,.list 1 (aG (aC b32 n))),(1,.list 1 (aG (aC b32 m)))]) (h:=[]) ?_
       refine Good.weak 41 [(0,.nat n E),(1,.nat m E)] (by kernel_rfl) (.cons (Ref.nat hx hxn hn) (.cons (Ref.nat hy hyn hm) .nil)) ?_;refine gR gZ none [5,6] [] [] (.a2 (show n<18446744073709551616 from hbig n c1) (show m<18446744073709551616 from hbig m c2)) (t:=Dy) (σ:=slots 41 [(5,.int .u64 (n:Int)),(6,.int .u64 (m:Int))]) (h:=[]) ?_
       exact Gj m n m (rl _) (hbig n c1) (hbig m c2) (Gi hn hm)
     · exact gS gZ (some 7) [0,1,4] [(11,tt),(15,tt),(19,ff)] (.a3 (iT v0) (iT v1) (iF (show ¬ ((((aG (aC b32 m)).length:Nat):Int)<=(2:Int)) by rw[aB];omega))) div
   · exact gS gZ (some 7) [0,1,4] [(11,tt),(15,ff)] (.a2 (iT v0) (iF (show ¬ ((((aG (aC b32 n)).length:Nat):Int)<=(2:Int)) by rw[aB];omega))) div
theorem Td:bQ 204 Pk:=by
 refine cK Tryz.f204 fun _ _ _ S w0 h ho=> ?_
 unfold Pk at h;split at h <;> cases h;rename_i n B m C;have hL:max B C+128<=LIM:=ho _ (by simp);refine Good.natlt (n:=n) (B:=B) 0 rfl fun hn=>Good.natlt (n:=m) (B:=C) 1 rfl fun hm=> ?_
 have hn':=kE hn (Nat.le_max_left B C);have hm':=kE hm (Nat.le_max_right B C);refine Good.weak 41 [(0,.nat n (max B C)),(1,.nat m (max B C))] (by kernel_rfl) (.cons (Ref.natB hn') (.cons (Ref.natB hm') .nil)) ?_;exact gN gZ [0,1] [] .nil (JF hL m n m (rl _) hn' hm')
end
def rB:=(kn.cons OL).cons BB
def Pm:KF
 | [.nat n B,.nat m C]=>some (.nat (n-m) B,[m<=n,B<=LIM])
 | _=>none
section
variable {S:Nat->Prop} {w0:World}
noncomputable abbrev Mz:List Item:=[.code (aN [1,1,1,0,1,0,0] (aA Tryz.f206)),.inLoop (aN [1,1,1,0,1,0,0] (aA Tryz.f206)),.inBlock 0,.code (aN [1,1,1,1] (aA Tryz.f206))]
theorem JG {xs ys:List Nat} {N B m:Nat} (hmm:m=xs.length) (hx:∀ x∈xs,x<b32) (hy:∀ x∈ys,x<b32) (hl:ys.length<=xs.length) (hbig:xs.length+2<=big)
   (hN:aH b32 xs=aH b32 ys+N) (hB:N<2^B):∀ (j i c:Nat) (ds:List Nat),j=xs.length-i->i<=xs.length->c<=1->ds.length=xs.length->(∀ x∈ds,x<b32)->
   aH b32 (ds.take i)+aH b32 (ys.take i)=aH b32 (xs.take i)+b32^i*c->
   GF 206 S w0 (.nat N B) Mz
     ⟨slots 41 [(0,.list 1 (aG xs)),(1,.list 1 (aG ys)),(5,.own 0 1 0 m),(6,.int .u32 ((c:Nat):Int)),(13,(.i6 (((aG xs).length:Nat):Int))),(14,.i6 ((i:Nat):Int))],
      [some ⟨362,1,true,(aG ds),none⟩]⟩:=by
 unfold big at hbig;intro j
 induction j with
 | zero=>
   intro i c ds hj hi hc hd hdl hinv;have hi:i=xs.length:=by omega
   subst hi;have e0:((aG ds).drop 0).take m=aG ds:=by rw[List.drop_zero,fQ (by rw[aB];omega)]
   have hlt:aH b32 ds<b32^xs.length:=by rw[<- hd];exact dI (by decide) hdl
   rw[fQ (by omega),fQ hl,fQ (rl _)] at hinv
   have hc0:c=0:=by
     rcases Nat.eq_zero_or_pos c with h | h
     · exact h
     · have:b32^xs.length*1<=b32^xs.length*c:=Nat.mul_le_mul_left _ h
       omega
   subst hc0;refine rF rB [(15,ff)] (.a4 (iF (show ¬ ((xs.length:Int)<((aG xs).length:Int)) by rw[aB];omega)) (show 0+m<=(aG ds).length by rw[aB];omega) (show(((aG ds).drop 0).take m)=aG (aZ (((aG ds).drop 0).take m)) by rw[e0,bV]) (show ∀ x∈aZ (((aG ds).drop 0).take m),x<b32 by rw[e0,bV];exact hdl)) (V:=.nat (aH b32 (aZ (((aG ds).drop 0).take m))) (32*(((aG ds).drop 0).take m).length)) ?_
   show Ref (.nat (aH b32 (aZ (((aG ds).drop 0).take m))) _) _;rw[e0,bV,show aH b32 ds=N by omega];exact Ref.natB hB
 | succ j ih=>
   intro i c ds hj hi hc hd hdl hinv;have hlt:i<xs.length:=by omega
   have hx1:xs.getD i 0<b32:=aY (by decide) hx i;have hy1:ys.getD i 0<b32:=aY (by decide) hy i;unfold b32 at hx1 hy1
   have nx:∀ y,y=ys.getD i 0->GF 206 S w0 (.nat N B) Mz
     ⟨slots 41 [(0,.list 1 (aG xs)),(1,.list 1 (aG ys)),(5,.own 0 1 0 m),(6,.int .u32 ((if xs.getD i 0<y+c then 1 else 0:Nat):Int)),(13,(.i6 (((aG xs).length:Nat):Int))),(14,.i6 ((i+1:Nat):Int))],
      [some ⟨362,1,true,((aG ds).set (0+i) [(AV.int .u32 (((xs.getD i 0+8589934592-y-c) % 4294967296:Nat):Int))]),none⟩]⟩:=by
     intro y hyy;rw[eN,Nat.zero_add];have hy2:y<4294967296:=by omega
     refine ih (i+1) _ _ (by omega) (by omega) (by split <;> omega) (by simp[hd]) (eW hdl (by unfold b32;omega)) ?_;rw[aQ,aQ b32 xs,aQ b32 ys,nR,cZ (by omega),Nat.pow_succ, <- hyy];refine Bu ?_ hinv;unfold b32
     split <;> omega
   have v0:(i:Int)<((aG xs).length:Int):=by rw[aB];omega
   have v1:0<=(xs.getD i 0:Int):=Int.natCast_nonneg _
   by_cases hyl:i<ys.length
   · refine cP (p:=(i<ys.length)/\((i:Int)<((aG ys).length:Int))/\(i<xs.length)/\((i:Int)<((aG xs).length:Int))/\((xs.getD i 0)<4294967296)/\((ys.getD i 0)<4294967296)/\(c<=1)/\((i:Int)<(m:Int))/\(0+i<(aG ds).length)/\(-9223372036854775808<=(i:Int)+(1:Int)/\(i:Int)+(1:Int)<=9223372036854775807)) ?_ fun⟨q0,q1,q2,q3,q4,q5,q6,q7,q8,q9⟩=>gR rB none [0,1,4,5,6,13,14] [0] [(15,tt),(20,tt),(23,.cptr [.int .u32 (ys.getD i 0:Int)] 0),(30,.cptr [.int .u32 (xs.getD i 0:Int)] 0),(38,.i6 ((i+1:Nat):Int))] (.c6 (iT v0) (iT (show(i:Int)<((aG ys).length:Int) by rw[aB];omega)) (Ref.cd32 q0) (nn i) q1 (Ref.cd32 q2) (.c6 (nn i) q3 v1 (show 0<=(ys.getD i 0:Int) from Int.natCast_nonneg _) (nn c) q4 (.a6 q5 q6 (nn i) q7 q8 (wI ((i:Int)+(1:Int)) ((i+1:Nat):Int) q9)))) (nx _ rfl)
     simp only[aB,hd];omega
   · have hz:0=ys.getD i 0:=by simp[mQ,Nat.le_of_not_lt hyl]
     refine cP (p:=(i<xs.length)/\((i:Int)<((aG xs).length:Int))/\((xs.getD i 0)<4294967296)/\(c<=1)/\((i:Int)<(m:Int))/\(0+i<(aG ds).length)/\(-9223372036854775808<=(i:Int)+(1:Int)/\(i:Int)+(1:Int)<=9223372036854775807)) ?_ fun⟨q0,q1,q2,q3,q4,q5,q6⟩=>gR rB none [0,1,4,5,6,13,14] [0] [(15,tt),(20,ff),(30,.cptr [.int .u32 (xs.getD i 0:Int)] 0),(38,.i6 ((i+1:Nat):Int))] (.c6 (iT v0) (iF (show ¬ ((i:Int)<((aG ys).length:Int)) by rw[aB];omega)) (Ref.cd32 q0) (nn i) q1 v1 (.c6 (dc (0<=(0:Int))) (nn c) q2 (dc (0<4294967296)) q3 (nn i) (.a3 q4 q5 (wI ((i:Int)+(1:Int)) ((i+1:Nat):Int) q6)))) (nx _ hz)
     simp only[aB,hd];omega
theorem Pn:bQ 206 Pm:=fun args r ob h ho=>by
 unfold Pm at h
 split at h
 · rename_i n B m C
   cases h;have hmn:m<=n:=ho _ (by simp);have hL:B<=LIM:=ho _ (by simp);unfold LIM at hL;obtain⟨hx,hxn⟩:=aO (b:=b32) (by decide) n;obtain⟨hy,hyn⟩:=aO (b:=b32) (by decide) m;refine af Tryz.f206 fun S w0=> ?_
   refine Good.natlt (n:=n) (B:=B) 0 rfl fun hn=> ?_
   refine Good.weak 41 [(0,.list 1 (aG (aC b32 n))),(1,.list 1 (aG (aC b32 m)))] (by kernel_rfl) (.cons Ref.opn (.cons Ref.opn .nil)) ?_;have l1:=hx.len (by rw[hxn];exact hn);generalize aC b32 n=xs at*;generalize aC b32 m=ys at*;subst hxn;subst hyn
   have hlen:ys.length<=xs.length:=by
     rcases Nat.lt_or_ge xs.length ys.length with h | h
     · have:=dU (by decide) hx hy h;omega
     · exact h
   refine cP (p:=(4*((aG xs).length:Int)<=281474976710656)/\((((aG xs).length:Nat):Int)<=(big:Int))) (by simp only[aB];unfold big;omega) fun⟨q0,q1⟩=>gN rB [0,1,4,5,6,13,14] [] (.a4 (rfl:((aG xs).length:Int)=((aG xs).length:Int)) (show 0<=((aG xs).length:Int) from Int.natCast_nonneg _) q0 q1) (t:=Mz) (σ:=slots 41 [(0,.list 1 (aG xs)),(1,.list 1 (aG ys)),(4,.nil),(5,.own 0 1 0 ((aG xs).length)),(6,.int .u32 (0:Int)),(13,.i6 ((aG xs).length:Int)),(14,.i6 (0:Int))]) (h:=[some ⟨362,1,true,(List.replicate ((aG xs).length) [.int .u32 (0:Int)]),none⟩]) ?_
   rw[mP];refine Good.weak 41 [(0,_),(1,_),(5,_),(6,_),(13,_),(14,_)] (by kernel_rfl) (.r (.r (.r (.r (.r (.r .nil)))))) ?_;exact JG (by rw[aB]) hx.1 hy.1 hlen (by unfold big;omega) (by omega) (by omega) _ 0 0 _ rfl (by omega) (by omega) (by simp[aB]) (nS (by decide)) (by simp[aH])
 · cases h
end
def rC:=((((kn.cons Pn).cons Mx).cons Td).cons CG).cons Ak
def Po:KF
 | [.agg [.z n B],.nat d C]=>some (.agg [.q (mkRat n d) (max B C)],[0<d,max B C+128<=LIM])
 | _=>none
theorem sQ {n:Int} {d:Nat} (hd:d≠0):iL (decide (n<0)) (n.natAbs/n.natAbs.gcd d)=(mkRat n d).num:=by
 rw[<- wC (mkRat n d).num,Ai hd]
 congr 1
 simp only[decide_eq_decide];exact(Ex hd).symm
theorem Gk:bQ 112 Po:=by
 refine cK Tryz.f112 fun _ _ _ S w0 h ho=> ?_
 unfold Po at h;split at h <;> cases h;rename_i n B d C;have hd:0<d:=ho _ (by simp);have hL:max B C+128<=LIM:=ho _ (by simp);have hB1:B<=max B C:=Nat.le_max_left _ _;have hC1:C<=max B C:=Nat.le_max_right _ _;refine Good.zlt (n:=n) (B:=B) 0 rfl fun hn=>Good.natlt (n:=d) (B:=C) 1 rfl fun hdC=> ?_
 have hg0:0<n.natAbs.gcd d:=Nat.gcd_pos_of_pos_right _ hd;have hgd:n.natAbs.gcd d<=d:=Nat.gcd_le_right _ hd;have hgE:n.natAbs.gcd d<2^max B C:=kE (Nat.lt_of_le_of_lt hgd hdC) hC1;obtain⟨hx,hxn⟩:=aO (b:=b32) (by decide) (n.natAbs.gcd d);have fold:∀ k e,k=(mkRat n d).num->e=(mkRat n d).den-1->Ref (.agg [.z k B,.nat e C]) (.agg [.q (mkRat n d) (max B C)]):=fun k e hk he=>Ref.agg (RefC.mkq hB1 hC1 hk he)
 have dn0:d≠0:=by omega
 have v1:(1:Int)<18446744073709551616:=by decide
 have rest:GF 112 S w0 (.agg [.q (mkRat n d) (max B C)]) [.code (aN [1,0,1,1,0,0] (aA Tryz.f112)),.code (aN [1,0,1,1,0,1] (aA Tryz.f112)),.code (aN [1,1] (aA Tryz.f112))] ⟨slots 42 [(1,.nat d C),(2,.ptr 0 2 0 0),(4,.ptr 1 3 0 0),(5,(.list 1 (aG (aC b32 (n.natAbs.gcd d)))))],[some ⟨54,2,false,[[(.z n B)]],none⟩,some ⟨56,3,false,[[(.q 0 0)]],none⟩]⟩:=by
   refine Good.weak 42 [(1,_),(2,_),(4,_),(5,.nat (n.natAbs.gcd d) (max B C))] (by kernel_rfl) (.r (.r (.r (.cons (Ref.nat hx hxn hgE) .nil)))) ?_;have hdg:0<d/n.natAbs.gcd d:=Nat.div_pos hgd hg0;refine rF rC [] (.c6 hg0 (om (max B (max B C)+128<=LIM)) hg0 (om (max C (max B C)+128<=LIM)) (dc (0<=(1:Int))) v1 (.a2 hdg (om (C<=LIM)))) (V:=.agg [.z (iL (decide (n<0)) (n.natAbs/n.natAbs.gcd d)) B,.nat ((d/n.natAbs.gcd d)-1) C]) (fold _ _ (sQ dn0) ?_)
   rw[pD dn0]
 have v0:Ref (.nat (Nat.gcd n.natAbs d) (max B C)) (.list 1 (aG (aC b32 (Nat.gcd n.natAbs d)))):=Ref.opn
 by_cases c1:(aC b32 (n.natAbs.gcd d)).length=1
 · by_cases c2:(aC b32 (n.natAbs.gcd d)).getD 0 0=1
   · have hg1:n.natAbs.gcd d=1:=by
       have h1:=aQ b32 (aC b32 (n.natAbs.gcd d)) 0;rw[fQ (by omega),hxn,c2] at h1;simpa[aH] using h1
     refine rF rC [(9,.list 1 (aG (aC b32 (n.natAbs.gcd d)))),(13,ff),(15,.cptr [.int .u32 ((aC b32 (n.natAbs.gcd d)).getD 0 0:Int)] 0),(18,ff)] (.c6 (show Ref (.nat (Nat.gcd n.natAbs d) (max B C)) (.list 1 (aG (aC b32 (n.natAbs.gcd d)))) from Ref.opn) hL (jF (show((aG (aC b32 (n.natAbs.gcd d))).length:Int)=(1:Int) by rw[aB];omega)) (show Ref (.cptr ((aG (aC b32 (n.natAbs.gcd d))).getD 0 []) 0) (.cptr [.int .u32 ((aC b32 (n.natAbs.gcd d)).getD 0 0:Int)] 0) from Ref.cd32 ((om (0<(aC b32 (n.natAbs.gcd d)).length)))) (dc (0<=(0:Int))) (show(0:Int)<((aG (aC b32 (n.natAbs.gcd d))).length:Int) by rw[aB];omega) (.a5 (jF (om (((aC b32 (n.natAbs.gcd d)).getD 0 0:Int)=(1:Int)))) (dc (0<=(1:Int))) v1 hd (om (C<=LIM)))) (V:=.agg [.z (iL (decide (n<0)) n.natAbs) B,.nat (d-1) C]) (fold _ _ ?_ ?_)
     · rw[<- sQ dn0,hg1,Nat.div_one]
     · rw[pD dn0,hg1,Nat.div_one]
   · exact gR rC (some 3) [1,2,4,5] [0,1] [(9,.list 1 (aG (aC b32 (Nat.gcd n.natAbs d)))),(13,ff),(15,.cptr [.int .u32 ((aC b32 (Nat.gcd n.natAbs d)).getD 0 0:Int)] 0),(18,tt)] (.c6 v0 hL (jF (show((aG (aC b32 (Nat.gcd n.natAbs d))).length:Int)=(1:Int) by rw[aB];omega)) (show Ref (.cptr ((aG (aC b32 (Nat.gcd n.natAbs d))).getD 0 []) 0) (.cptr [.int .u32 ((aC b32 (Nat.gcd n.natAbs d)).getD 0 0:Int)] 0) from Ref.cd32 ((om (0<(aC b32 (Nat.gcd n.natAbs d)).length)))) (dc (0<=(0:Int))) (show(0:Int)<((aG (aC b32 (Nat.gcd n.natAbs d))).length:Int) by rw[aB];omega) (.a1 (jT (om (¬ ((((aC b32 (Nat.gcd n.natAbs d)).getD 0 0:Nat):Int)=(1:Int))))))) rest
 · exact gR rC (some 3) [1,2,4,5] [0,1] [(9,.list 1 (aG (aC b32 (Nat.gcd n.natAbs d)))),(13,tt)] (.a3 v0 hL (jT (show ¬ ((((aG (aC b32 (Nat.gcd n.natAbs d))).length:Nat):Int)=(1:Int)) by rw[aB];omega))) rest
end Go.Av
namespace Go.Av
open Go.RowKit
theorem RefC.opn:RefC (.nat n B::cs) (.list 1 (aG (aC b32 n))::cs):=fun ρ S w D vs x=>by
 cases x with
 | nat xs h1 h2 h3 h4=>
   obtain⟨g1,g2⟩:=aO (b:=b32) (by decide) n;rw[<- Dig.uniq (by decide) h1 g1 (by rw[h2,g2])];exact h4
theorem RefC.opnd:RefC (.dig n B::cs) (.list 1 (aM (aC b10k n))::cs):=fun ρ S w D vs x=>by
 cases x with
 | dig xs h1 h2 h3 h4=>
   obtain⟨g1,g2⟩:=aO (b:=b10k) (by decide) n;rw[<- Dig.uniq (by decide) h1 g1 (by rw[h2,g2])];exact h4
theorem RefC.zopn:RefC (.z n B::cs) (.bool (decide (n<0)):: .nat n.natAbs B::cs):=fun ρ S w D vs x=>by
 cases x with
 | z h=>exact h
theorem RefC.rzopn:RefC (.rz n B::cs) (.bool (decide (n<0)):: .dig n.natAbs B::cs):=fun ρ S w D vs x=>by
 cases x with
 | rz h=>exact h
theorem RefC.q_eq (h:x=y) (k:B<=C):RefC (.q x B::cs) (.q y C::cs):=by subst h;exact RefC.q_le k
theorem RefC.z_eq (h:x=y) (k:B<=C):RefC (.z x B::cs) (.z y C::cs):=by subst h;exact RefC.z_le k
theorem RefC.rz_eq (h:x=y) (k:B<=C):RefC (.rz x B::cs) (.rz y C::cs):=by subst h;exact RefC.rz_le k
theorem Ref.nat_of (h:x=y) (k:B<=C):Ref (.nat x B) (.nat y C):=by subst h;exact Ref.nat_le k
theorem Ref.dig_of (h:x=y) (k:B<=C):Ref (.dig x B) (.dig y C):=by subst h;exact Ref.dig_le k
theorem Ref.q1 (h:x=y) (k:B<=C):Ref (.agg [.q x B]) (.agg [.q y C]):=Ref.agg (RefC.q_eq h k)
theorem Ref.z1 (h:x=y) (k:B<=C):Ref (.agg [.z x B]) (.agg [.z y C]):=Ref.agg (RefC.z_eq h k)
theorem Ref.rz1 (h:x=y) (k:B<=C):Ref (.agg [.rz x B]) (.agg [.rz y C]):=Ref.agg (RefC.rz_eq h k)
theorem uJ (a b:Bool):(!(a==b))=(a !=b):=rfl
end Go.Av
namespace Go.Av
open Go.Proofs Go.RowKit
def Pp:KF
 | [.int .i64 n]=>some (.nat n.natAbs 64,[(-9223372036854775808:Int)<=n,n<=(9223372036854775807:Int)])
 | _=>none
theorem Pq:bQ 110 Pp:=by
 refine cK Tryz.f110 fun _ _ _ S w0 h ho=> ?_
 unfold Pp at h;split at h <;> cases h;rename_i n;obtain⟨o1,o2⟩:=ho.e2;have K:=kn.cons CG
 by_cases h1:n<(0:Int)
 · exact rF K [(4,tt),(7,.int .u64 (0-n))] (.a4 (iT h1) (show Ref (.int .u64 (IntKind.u64.wrap (0-(IntKind.u64.wrap n)))) (.int .u64 (0-n)) by exact Ref.int (by simp only[IntKind.wrap,IntKind.signed,IntKind.bits];simp;omega)) (om (0<=(0-n))) (om ((0-n)<18446744073709551616))) (V:=.nat ((0-n).toNat) 64) (Ref.nat_of (by omega) (rl _))
 · exact rF K [(4,ff),(10,.int .u64 n)] (.a4 (iF h1) (wU (n) n) (om (0<=n)) (om (n<18446744073709551616))) (V:=.nat n.toNat 64) (Ref.nat_of (by omega) (rl _))
def Pr:KF
 | [.int .i64 n,.int .i64 d]=>some (.tup [.agg [.q ((n:Rat)/(d:Rat)) 64],.int .i64 (if d=0 then 9 else 0)],[(-9223372036854775808:Int)<=n,n<=(9223372036854775807:Int),(-9223372036854775808:Int)<=d,d<=(9223372036854775807:Int)])
 | _=>none
theorem Ps:bQ 105 Pr:=by
 refine cK Tryz.f105 fun _ _ _ S w0 h ho=> ?_
 unfold Pr at h;split at h <;> cases h;rename_i n d;obtain⟨o1,o2,o3,o4⟩:=ho.e4;have L:=dR;have K:=((kn.cons Gk).cons Pq).cons Ak
 by_cases h1:d=(0:Int)
 · refine rF K [(7,tt)] (.a1 (iT h1)) (V:=.tup [.agg [.q 0 0],.i6 (9:Int)]) ?_
   subst h1;exact Ref.tup2 (Ref.q1 (by rw[show((0:Int):Rat)=0 from rfl,Rat.div_def,Rat.inv_zero,Rat.mul_zero]) (by omega)) (Ref.int (by simp)) rfl rfl rfl rfl
 · refine rF K [(7,ff)] (.c6 (iF h1) o1 o2 o3 o4 (om (0<d.natAbs)) (.a1 (om (max 64 64+128<=LIM)))) (V:=.tup [.agg [.q (mkRat (iL (!((decide (n<(0:Int)))==(decide (d<(0:Int))))) n.natAbs) d.natAbs) (max 64 64)],.i6 (0:Int)]) ?_
   refine Ref.tup2 (Ref.q1 ?_ (by omega)) (Ref.int (by rw[if_neg h1])) rfl rfl rfl rfl;have h:=FP (n:Rat) (d:Rat) (fun h=>h1 (Rat.intCast_eq_zero_iff.1 h));rw[<- h];simp[uJ];rfl
def kI:=kn
def Pt:KF
 | [.dig n _,.dig m _]=>some (.int .i64 (gY n m),[])
 | _=>none
section
variable {S:Nat->Prop} {w0:World}
noncomputable abbrev MA:List Item:=[.code (aN [1,1,0,1,0,0] (aA Tryz.f221)),.inLoop (aN [1,1,0,1,0,0] (aA Tryz.f221)),.inBlock 0,.code (aN [1,1,1] (aA Tryz.f221))]
theorem JH {xs ys:List Nat} (hl:xs.length=ys.length) (hx:∀ x∈xs,x<b10k) (hy:∀ x∈ys,x<b10k) (hb:xs.length<=big):∀ (j:Nat),j<=xs.length->xs.drop j=ys.drop j->
   GF 221 S w0 (.i6 (gY (aH b10k xs) (aH b10k ys))) MA ⟨slots 41 [(0,.list 1 (aM xs)),(1,.list 1 (aM ys)),(5,(.i6 (((j:Nat):Int)-1)))],[]⟩:=by
 unfold big at hb;intro j
 induction j with
 | zero=>
   intro _ hd;rw[show(((0:Nat):Int)-1)= -1 from rfl];refine rF kI [] .nil (V:=.i6 (0:Int)) ?_
   simp only[List.drop_zero] at hd;subst hd;exact Ref.int (Dr _).symm
 | succ j ih=>
   intro hj hd;rw[show(((j+1:Nat):Int)-1)=((j:Nat):Int) by omega]
   have o:(j<xs.length)/\(((j:Nat):Int)<(((aM xs).length:Nat):Int))/\(j<ys.length)/\(((j:Nat):Int)<(((aM ys).length:Nat):Int)):=by
     simp only[aI];omega
   have v0:(0:Int)<=(j:Int):=by omega
   by_cases h:xs.getD j 0=ys.getD j 0
   · refine gN kI [0,1,4,5] [(20,tt),(25,.cptr [.i6 (xs.getD j 0:Int)] 0),(29,.cptr [.i6 (ys.getD j 0:Int)] 0),(31,ff),(22,.i6 ((j:Int)-(1:Int)))] (.c6 (iT v0) (Ref.cd64 o.1) (nn j) o.2.1 (Ref.cd64 o.2.2.1) (nn j) (.a3 o.2.2.2 (jF (show(xs.getD j 0:Int)=(ys.getD j 0:Int) by rw[h])) (wI ((j:Int)-(1:Int)) ((j:Int)-(1:Int))))) (t:=MA) (σ:=slots 41 [(0,.list 1 (aM xs)),(1,.list 1 (aM ys)),(5,.i6 ((j:Int)-(1:Int)))]) (h:=[]) ?_
     refine ih (by omega) ?_;rw[List.drop_eq_getElem_cons (by omega:j<xs.length),List.drop_eq_getElem_cons (by omega:j<ys.length),hd]
     have:xs[j]'(by omega)=ys[j]'(by omega):=by
       simpa[mQ,show j<xs.length by omega,show j<ys.length by omega] using h
     rw[this]
   · have v1:¬ (((xs.getD j 0:Nat):Int)=(ys.getD j 0:Int)):=by omega
     by_cases h2:xs.getD j 0<ys.getD j 0
     · refine rF kI [(20,tt),(25,.cptr [.i6 (xs.getD j 0:Int)] 0),(29,.cptr [.i6 (ys.getD j 0:Int)] 0),(31,tt),(34,.cptr [.i6 (xs.getD j 0:Int)] 0),(38,.cptr [.i6 (ys.getD j 0:Int)] 0),(40,tt)] (.c6 (iT v0) (Ref.cd64 o.1) (nn j) o.2.1 (Ref.cd64 o.2.2.1) (nn j) (.c6 o.2.2.2 (jT v1) (Ref.cd64 o.1) (nn j) o.2.1 (Ref.cd64 o.2.2.1) (.a3 (nn j) o.2.2.2 (iT (om ((xs.getD j 0:Int)<(ys.getD j 0:Int))))))) (V:=.i6 (-1:Int)) ?_
       exact Ref.int (uF (gX (by decide) hx hd h2)).symm
     · refine rF kI [(20,tt),(25,.cptr [.i6 (xs.getD j 0:Int)] 0),(29,.cptr [.i6 (ys.getD j 0:Int)] 0),(31,tt),(34,.cptr [.i6 (xs.getD j 0:Int)] 0),(38,.cptr [.i6 (ys.getD j 0:Int)] 0),(40,ff)] (.c6 (iT v0) (Ref.cd64 o.1) (nn j) o.2.1 (Ref.cd64 o.2.2.1) (nn j) (.c6 o.2.2.2 (jT v1) (Ref.cd64 o.1) (nn j) o.2.1 (Ref.cd64 o.2.2.1) (.a3 (nn j) o.2.2.2 (iF (om (¬ (((xs.getD j 0:Nat):Int)<(ys.getD j 0:Int)))))))) (V:=.i6 (1:Int)) ?_
       exact Ref.int (uG (gX (by decide) hy hd.symm (by omega))).symm
theorem Pu:bQ 221 Pt:=fun args r ob h ho=>by
 unfold Pt at h
 split at h
 · rename_i n B m C
   cases h;obtain⟨hx,hxn⟩:=aO (b:=b10k) (by decide) n;obtain⟨hy,hyn⟩:=aO (b:=b10k) (by decide) m;refine af Tryz.f221 fun S w0=> ?_
   refine Good.weak 41 [(0,.list 1 (aM (aC b10k n))),(1,.list 1 (aM (aC b10k m)))] (by kernel_rfl) (.cons Ref.opnd (.cons Ref.opnd .nil)) ?_;refine Good.len 0 (e:=1) (xs:=aM (aC b10k n)) (by rfl) fun hb=> ?_
   rw[aI] at hb;generalize aC b10k n=xs at*;generalize aC b10k m=ys at*;subst hxn;subst hyn
   by_cases h1:xs.length=ys.length
   · refine gN kI [0,1,4,5] [(10,ff),(18,.i6 ((((aM xs).length:Nat):Int)-(1:Int)))] (.a2 (jF (show((aM xs).length:Int)=((aM ys).length:Int) by simp only[aI];omega)) (wI ((((aM xs).length:Nat):Int)-(1:Int)) ((((aM xs).length:Nat):Int)-(1:Int)) (by simp only[aI];unfold big at hb;omega))) (t:=MA) (σ:=slots 41 [(0,.list 1 (aM xs)),(1,.list 1 (aM ys)),(4,.i6 (0:Int)),(5,(.i6 ((((aM xs).length:Nat):Int)-(1:Int))))]) (h:=[]) ?_
     rw[aI];refine Good.weak 41 [(0,_),(1,_),(5,_)] (by kernel_rfl) (.r (.r (.r .nil))) ?_;exact JH h1 hx.1 hy.1 hb xs.length (rl _) (by rw[List.drop_length,h1,List.drop_length])
   · have v0:¬ ((((aM xs).length:Nat):Int)=((aM ys).length:Int)):=by simp only[aI];omega
     by_cases h2:xs.length<ys.length
     · refine rF kI [(10,tt),(15,tt)] (.a2 (jT v0) (iT (show((aM xs).length:Int)<((aM ys).length:Int) by simp only[aI];omega))) (V:=.i6 (-1:Int)) ?_
       exact Ref.int (uF (dU (by decide) hx hy h2)).symm
     · refine rF kI [(10,tt),(15,ff)] (.a2 (jT v0) (iF (show ¬ ((((aM xs).length:Nat):Int)<((aM ys).length:Int)) by simp only[aI];omega))) (V:=.i6 (1:Int)) ?_
       exact Ref.int (uG (dU (by decide) hy hx (by omega))).symm
 · cases h
end
end Go.Av
namespace Go.Av
open Go.RowKit
def Gl:List Nat->AV
 | []=>.nil
 | d::ds=>.own 0 1 0 (ds.length+1)
def Gm:List Nat->List (Option ABlk)
 | []=>[]
 | d::ds=>[some ⟨3,1,true,aM (d::ds),none⟩]
theorem zG (ds:List Nat) (v:Nat):Gl (ds++ [v])= .own 0 1 0 (ds.length+1):=by
 cases ds <;> simp[Gl]
theorem zI (ds:List Nat) (v:Nat):Gm (ds++ [v])= [some ⟨3,1,true,aM (ds++ [v]),none⟩]:=by
 cases ds <;> simp[Gm]
theorem Ref.nilL {e:Nat}:Ref .nil (.list e []):=fun ρ S w D v h=>by
 have h':RelCs ρ S w D [.nil] [v]:=h;cases h' with
 | nil h2=>exact aV (.list (fun _=>[]) (by simp) (by unfold big;omega) (by simp) (by simp) (by simp) h2)
theorem iM (b:Nat) (ds:List Nat) (v:Nat):aH b (ds++ [v])=aH b ds+b^ds.length*v:=by
 rw[eL];simp[aH]
theorem rD {b:Nat} {ds:List Nat} {v:Nat} (h:∀ x∈ds,x<b) (hv:v<b):∀ x∈ds++ [v],x<b:=fun x hx=>by
 rcases List.mem_append.1 hx with h' | h'
 · exact h x h'
 · simp at h';omega
end Go.Av
namespace Go.Av
open Go.Proofs Go.RowKit
def fA:=kn
abbrev lD (ff:Func):List Item:=[.code (aN [1,1,1,0,0,0] (aA ff)),.inLoop (aN [1,1,1,0,0,0] (aA ff)),.inBlock 0,.code (aN [1,1,1,1] (aA ff))]
abbrev wO (s:Bool) (m:Nat) (ds:List Nat):List (Option ABlk):=[some ⟨64,2,false,[[.bool false,.nil]],none⟩,some ⟨64,2,false,[[.bool s,.own 2 1 0 m]],none⟩,some ⟨3,1,true,(aM ds),none⟩]
abbrev sR (v:Nat):List (Nat×AV):=[(0,(.i6 (-(v:Int)))),(2,(.ptr 0 2 0 0)),(3,(.ptr 1 2 0 0))]
abbrev wP (v:Nat):List (Nat×AV):=[(0,(.i6 (v:Int))),(2,(.ptr 0 2 0 0)),(3,(.ptr 1 2 0 0))]
abbrev Gn (s:Bool) (m:Nat) (ds:List Nat):List (Option ABlk):=[some ⟨64,2,false,[[.bool s,.own 2 1 0 m]],none⟩,some ⟨64,2,false,[[.bool s,.own 2 1 0 m]],none⟩,some ⟨3,1,true,(aM ds),none⟩]
section
variable {S0 C0:Nat->Prop} {w0:World} {Post:Value->World->Prop}
theorem Gp (s:Bool) (v:Nat) (h1:(v:Int)=(0:Int))
   (hg:Good Tryz.prog 201 S0 C0 w0 Post [.code .ret] ⟨slots 25 (wP v),[some ⟨64,2,false,[[.bool s,.nil]],none⟩,some ⟨64,2,false,[[.bool s,.nil]],none⟩]⟩):
   Good Tryz.prog 201 S0 C0 w0 Post (lD Tryz.f201) ⟨slots 25 (wP v),[some ⟨64,2,false,[[.bool false,.nil]],none⟩,some ⟨64,2,false,[[.bool s,.nil]],none⟩]⟩:=
 go mixed aT fA 12 none [0,2,3] [(9,(.bool false))] (ob:=[Ref (.bool (!decide ((v:Int)=(0:Int)))) (.bool false)]) (by kernel_rfl)
   (.cons (Ref.bool (congrArg Bool.not (decide_eq_true h1))) (AllP.nil)) hg
theorem Gq (s:Bool) (v:Nat) (h1:(-(v:Int))=(0:Int))
   (hg:Good Tryz.prog 201 S0 C0 w0 Post [.code .ret] ⟨slots 25 (sR v),[some ⟨64,2,false,[[.bool s,.nil]],none⟩,some ⟨64,2,false,[[.bool s,.nil]],none⟩]⟩):
   Good Tryz.prog 201 S0 C0 w0 Post (lD Tryz.f201) ⟨slots 25 (sR v),[some ⟨64,2,false,[[.bool false,.nil]],none⟩,some ⟨64,2,false,[[.bool s,.nil]],none⟩]⟩:=
 go mixed aT fA 12 none [0,2,3] [(9,(.bool false))] (ob:=[Ref (.bool (!decide ((-(v:Int))=(0:Int)))) (.bool false)]) (by kernel_rfl)
   (.cons (Ref.bool (congrArg Bool.not (decide_eq_true h1))) (AllP.nil)) hg
theorem Gr (s:Bool) (v m:Nat) (ds:List Nat) (h1:¬ ((v:Int)=(0:Int))) (h2:¬ (((v % 10000:Nat):Int)<(0:Int))) (o:(m=(aM ds).length)/\((m+1)*8<=140737488355328)/\(m+1<=big)/\((v:Int)<=9223372036854775807))
   (hg:Good Tryz.prog 201 S0 C0 w0 Post (lD Tryz.f201) ⟨slots 25 [(0,.i6 ((v/10000:Nat):Int)),(2,.ptr 0 2 0 0),(3,.ptr 1 2 0 0)],[some ⟨64,2,false,[[.bool false,.nil]],none⟩,some ⟨64,2,false,[[.bool s,.own 2 1 0 (m+1)]],none⟩,some ⟨3,1,true,((aM ds)++ [[(AV.int .i64 ((v % 10000:Nat):Int))]]),none⟩]⟩):
   Good Tryz.prog 201 S0 C0 w0 Post (lD Tryz.f201) ⟨slots 25 (wP v),(wO s m ds)⟩:=
 tR mixed aT fA 23 none [0,2,3] [0,1,4] [(9,(.bool true)),(11,(.i6 ((v % 10000:Nat):Int))),(13,(.bool false)),(23,(.i6 ((v/10000:Nat):Int)))] (ob:=[Ref (.bool (!decide ((v:Int)=(0:Int)))) (.bool true),Ref (.i6 ((v:Int).tmod (10000:Int))) (.i6 ((v % 10000:Nat):Int)),(10000:Int)≠0,Ref (.bool (decide (((v % 10000:Nat):Int)<(0:Int)))) (.bool false),1=1,m=(aM ds).length,(m+1)*8<=140737488355328,m+1<=big,Ref (.i6 (IntKind.i64.wrap ((v:Int).tdiv (10000:Int)))) (.i6 ((v/10000:Nat):Int)),(10000:Int)≠0]) (by decide) (by kernel_rfl)
   (.cons (Ref.bool (congrArg Bool.not (decide_eq_false h1))) (.cons (Ref.rem (a:=v) (b:=10000) rfl rfl) (.cons (by decide) (.cons (Ref.bool (decide_eq_false h2)) (.cons (rfl) (.cons (o.1) (.cons (o.2.1) (.cons (o.2.2.1) (.cons (Ref.quo (a:=v) (b:=10000) rfl rfl (by decide) o.2.2.2) (.cons (by decide) (AllP.nil))))))))))) hg
theorem Gs (s:Bool) (v m:Nat) (ds:List Nat) (h1:(v:Int)=(0:Int))
   (hg:Good Tryz.prog 201 S0 C0 w0 Post [.code .ret] ⟨slots 25 (wP v),(Gn s m ds)⟩):
   Good Tryz.prog 201 S0 C0 w0 Post (lD Tryz.f201) ⟨slots 25 (wP v),(wO s m ds)⟩:=
 go mixed aT fA 12 none [0,2,3] [(9,(.bool false))] (ob:=[Ref (.bool (!decide ((v:Int)=(0:Int)))) (.bool false)]) (by kernel_rfl)
   (.cons (Ref.bool (congrArg Bool.not (decide_eq_true h1))) (AllP.nil)) hg
theorem Gt (s:Bool) (v m:Nat) (ds:List Nat) (h1:¬ ((-(v:Int))=(0:Int))) (h2:(-((v % 10000:Nat):Int))<(0:Int)) (o:(Ref (.i6 ((-(v:Int)).tmod (10000:Int))) (.i6 (-((v % 10000:Nat):Int))))/\(-9223372036854775808<=0-(-((v % 10000:Nat):Int))/\0-(-((v % 10000:Nat):Int))<=9223372036854775807)/\(m=(aM ds).length)/\((m+1)*8<=140737488355328)/\(m+1<=big)/\(Ref (.i6 (IntKind.i64.wrap ((-(v:Int)).tdiv (10000:Int)))) (.i6 (-((v/10000:Nat):Int)))))
   (hg:Good Tryz.prog 201 S0 C0 w0 Post (lD Tryz.f201) ⟨slots 25 [(0,(.i6 (-((v/10000:Nat):Int)))),(2,.ptr 0 2 0 0),(3,.ptr 1 2 0 0)],[some ⟨64,2,false,[[.bool false,.nil]],none⟩,some ⟨64,2,false,[[.bool s,.own 2 1 0 (m+1)]],none⟩,some ⟨3,1,true,((aM ds)++ [[(AV.int .i64 (0-(-((v % 10000:Nat):Int))))]]),none⟩]⟩):
   Good Tryz.prog 201 S0 C0 w0 Post (lD Tryz.f201) ⟨slots 25 (sR v),(wO s m ds)⟩:=
 tR mixed aT fA 23 none [0,2,3] [0,1,4] [(9,(.bool true)),(11,(.i6 (-((v % 10000:Nat):Int)))),(13,(.bool true)),(15,(.i6 (0-(-((v % 10000:Nat):Int))))),(23,(.i6 (-((v/10000:Nat):Int))))] (ob:=[Ref (.bool (!decide ((-(v:Int))=(0:Int)))) (.bool true),Ref (.i6 ((-(v:Int)).tmod (10000:Int))) (.i6 (-((v % 10000:Nat):Int))),(10000:Int)≠0,Ref (.bool (decide ((-((v % 10000:Nat):Int))<(0:Int)))) (.bool true),Ref (.i6 (IntKind.i64.wrap (0-(-((v % 10000:Nat):Int))))) (.i6 (0-(-((v % 10000:Nat):Int)))),1=1,m=(aM ds).length,(m+1)*8<=140737488355328,m+1<=big,Ref (.i6 (IntKind.i64.wrap ((-(v:Int)).tdiv (10000:Int)))) (.i6 (-((v/10000:Nat):Int))),(10000:Int)≠0]) (by decide) (by kernel_rfl)
   (.cons (Ref.bool (congrArg Bool.not (decide_eq_false h1))) (.cons (o.1) (.cons (by decide) (.cons (Ref.bool (decide_eq_true h2)) (.cons ((Ref.wr o.2.1).trans (Ref.int (by rfl))) (.cons (rfl) (.cons (o.2.2.1) (.cons (o.2.2.2.1) (.cons (o.2.2.2.2.1) (.cons (o.2.2.2.2.2) (.cons (by decide) (AllP.nil)))))))))))) hg
theorem Gu (s:Bool) (v m:Nat) (ds:List Nat) (h1:¬ ((-(v:Int))=(0:Int))) (h2:¬ ((-((v % 10000:Nat):Int))<(0:Int))) (o:(Ref (.i6 ((-(v:Int)).tmod (10000:Int))) (.i6 (-((v % 10000:Nat):Int))))/\(m=(aM ds).length)/\((m+1)*8<=140737488355328)/\(m+1<=big)/\(Ref (.i6 (IntKind.i64.wrap ((-(v:Int)).tdiv (10000:Int)))) (.i6 (-((v/10000:Nat):Int)))))
   (hg:Good Tryz.prog 201 S0 C0 w0 Post (lD Tryz.f201) ⟨slots 25 [(0,(.i6 (-((v/10000:Nat):Int)))),(2,.ptr 0 2 0 0),(3,.ptr 1 2 0 0)],[some ⟨64,2,false,[[.bool false,.nil]],none⟩,some ⟨64,2,false,[[.bool s,.own 2 1 0 (m+1)]],none⟩,some ⟨3,1,true,((aM ds)++ [[(AV.int .i64 (-((v % 10000:Nat):Int)))]]),none⟩]⟩):
   Good Tryz.prog 201 S0 C0 w0 Post (lD Tryz.f201) ⟨slots 25 (sR v),(wO s m ds)⟩:=
 tR mixed aT fA 23 none [0,2,3] [0,1,4] [(9,(.bool true)),(11,(.i6 (-((v % 10000:Nat):Int)))),(13,(.bool false)),(23,(.i6 (-((v/10000:Nat):Int))))] (ob:=[Ref (.bool (!decide ((-(v:Int))=(0:Int)))) (.bool true),Ref (.i6 ((-(v:Int)).tmod (10000:Int))) (.i6 (-((v % 10000:Nat):Int))),(10000:Int)≠0,Ref (.bool (decide ((-((v % 10000:Nat):Int))<(0:Int)))) (.bool false),1=1,m=(aM ds).length,(m+1)*8<=140737488355328,m+1<=big,Ref (.i6 (IntKind.i64.wrap ((-(v:Int)).tdiv (10000:Int)))) (.i6 (-((v/10000:Nat):Int))),(10000:Int)≠0]) (by decide) (by kernel_rfl)
   (.cons (Ref.bool (congrArg Bool.not (decide_eq_false h1))) (.cons (o.1) (.cons (by decide) (.cons (Ref.bool (decide_eq_false h2)) (.cons (rfl) (.cons (o.2.1) (.cons (o.2.2.1) (.cons (o.2.2.2.1) (.cons (o.2.2.2.2) (.cons (by decide) (AllP.nil))))))))))) hg
theorem Gv (s:Bool) (v m:Nat) (ds:List Nat) (h1:(-(v:Int))=(0:Int))
   (hg:Good Tryz.prog 201 S0 C0 w0 Post [.code .ret] ⟨slots 25 (sR v),(Gn s m ds)⟩):
   Good Tryz.prog 201 S0 C0 w0 Post (lD Tryz.f201) ⟨slots 25 (sR v),(wO s m ds)⟩:=
 go mixed aT fA 12 none [0,2,3] [(9,(.bool false))] (ob:=[Ref (.bool (!decide ((-(v:Int))=(0:Int)))) (.bool false)]) (by kernel_rfl)
   (.cons (Ref.bool (congrArg Bool.not (decide_eq_true h1))) (AllP.nil)) hg
end
def Pv:KF
 | [.int .i64 n]=>some (.agg [.rz n 64],[(-9223372036854775808:Int)<=n,n<=(9223372036854775807:Int)])
 | _=>none
def sg (g:Bool) (v:Nat):Int:=if g then-(v:Int) else v
theorem AllP.of_nil {l:List Prop} (h:l= []):AllP l:=by rw[h];exact AllP.nil
theorem neg_tmod (v:Nat):Ref (AV.int .i64 ((-((v:Nat):Int)).tmod (10000:Int))) (AV.int .i64 (-((v % 10000:Nat):Int))):=Ref.int (by
 rw[Int.neg_tmod];rfl)
theorem neg_tdiv {v:Nat} (h:v<=9223372036854775808):Ref (AV.int .i64 (IntKind.i64.wrap ((-((v:Nat):Int)).tdiv (10000:Int)))) (AV.int .i64 (-((v/10000:Nat):Int))):=by
 have e:(-((v:Nat):Int)).tdiv (10000:Int)= -((v/10000:Nat):Int):=by rw[Int.neg_tdiv];rfl
 exact Ref.wrI e (by omega)
section
variable {S:Nat->Prop} {w0:World}
noncomputable abbrev EO:List Item:=[.code (aN [1,1,1,0,0,0] (aA Tryz.f201)),.inLoop (aN [1,1,1,0,0,0] (aA Tryz.f201)),.inBlock 0,.code (aN [1,1,1,1] (aA Tryz.f201))]
def zD:List Nat->AV
 | []=>.nil
 | d::ds=>.own 2 1 0 (ds.length+1)
def zH:List Nat->List (Option ABlk)
 | []=>[]
 | d::ds=>[some ⟨3,1,true,aM (d::ds),none⟩]
theorem JI (ds:List Nat) (v:Nat):zD (ds++ [v])= .own 2 1 0 (ds.length+1):=by cases ds <;> simp[zD]
theorem JJ (ds:List Nat) (v:Nat):zH (ds++ [v])= [some ⟨3,1,true,aM (ds++ [v]),none⟩]:=by cases ds <;> simp[zH]
theorem MB {N:Int} {s:Bool} {ds:List Nat} (hs:s=decide (N<0)) (hd:Dig b10k ds) (hv:aH b10k ds=N.natAbs) (hB:N.natAbs<2^64) {V:AV}:
   GF 201 S w0 (.agg [.rz N 64]) [.code .ret] ⟨slots 25 [(0,V),(2,.ptr 0 2 0 0),(3,.ptr 1 2 0 0)],[some ⟨64,2,false,[[(.bool s),zD ds]],none⟩,some ⟨64,2,false,[[(.bool s),zD ds]],none⟩]++zH ds⟩:=by
 refine Good.pk 25 [(2,(AV.ptr 0 2 0 0))] ?_;cases ds with
 | nil=>
   refine gE [.agg [AV.bool s,.nil]] (Ref.agg ?_);have h0:N=0:=by simp[aH] at hv;omega
   subst h0;subst hs;exact RefC.rz0
 | cons d ds=>
   refine Good.freezeD (b:=⟨3,1,true,aM (d::ds),none⟩) 2 (by rfl) (by rfl) .on ?_ ?_
   · have e:qY 2 ⟨3,1,true,aM (d::ds),none⟩ ((([some ⟨64,2,false,[[(.bool s),zD (d::ds)]],none⟩,some ⟨64,2,false,[[(.bool s),zD (d::ds)]],none⟩]:List (Option ABlk))++zH (d::ds)).set 2 none)= [0+(ds.length+1)<=(aM (d::ds)).length,0+(ds.length+1)<=(aM (d::ds)).length]:=by kernel_rfl
     rw[e];exact .cons (by rw[aI];simp) (.cons (by rw[aI];simp) .nil)
   · refine gE [.agg [AV.bool s,.list 1 (((aM (d::ds)).drop 0).take (ds.length+1))]] (Ref.agg ?_)
     rw[List.drop_zero,fQ (by rw[aI];simp)];exact(RefC.tl (RefC.digL hd hv hB)).trans (RefC.mkrz (rl _) hs rfl)
theorem JK {N:Int} {s g:Bool} (hs:s=decide (N<0)) (hB:N.natAbs<=9223372036854775808):∀ (f v:Nat) (ds:List Nat),v<=f->(∀ x∈ds,x<b10k)->aH b10k ds+b10k^ds.length*v=N.natAbs->(v=0->ds.getLast?≠some 0)->(g=false->v<=9223372036854775807)->
   GF 201 S w0 (.agg [.rz N 64]) EO ⟨slots 25 [(0,.i6 (sg g v)),(2,.ptr 0 2 0 0),(3,.ptr 1 2 0 0)],[some ⟨64,2,false,[[(.bool false),.nil]],none⟩,some ⟨64,2,false,[[(.bool s),zD ds]],none⟩]++zH ds⟩:=by
 have last:∀ (ds:List Nat),(∀ x∈ds,x<b10k)->aH b10k ds+b10k^ds.length*0=N.natAbs->ds.getLast?≠some 0->
     GF 201 S w0 (.agg [.rz N 64]) EO ⟨slots 25 [(0,.i6 (sg g 0)),(2,.ptr 0 2 0 0),(3,.ptr 1 2 0 0)],[some ⟨64,2,false,[[(.bool false),.nil]],none⟩,some ⟨64,2,false,[[(.bool s),zD ds]],none⟩]++zH ds⟩:=by
   intro ds hd hv hl;have fin:=fun V=>MB (S:=S) (w0:=w0) (N:=N) (s:=s) (ds:=ds) hs ⟨hd,hl⟩ (by rw[Nat.mul_zero] at hv;omega) (by omega) (V:=V)
   cases ds with
   | nil=>
     cases g with
     | false=>exact Gp s 0 rfl (fin _)
     | true=>exact Gq s 0 rfl (fin _)
   | cons d ds=>
     cases g with
     | false=>exact Gs s 0 (ds.length+1) (d::ds) rfl (fin _)
     | true=>exact Gv s 0 (ds.length+1) (d::ds) rfl (fin _)
 intro f
 induction f with
 | zero=>
   intro v ds hf hd hv hl _;have:v=0:=by omega
   subst this;exact last ds hd hv (hl rfl)
 | succ f ih=>
   intro v ds hf hd hv hl hg
   by_cases h0:v=0
   · subst h0;exact last ds hd hv (hl rfl)
   have hlen:ds.length<=4:=by
     have h1:b10k^ds.length*1<=b10k^ds.length*v:=Nat.mul_le_mul_left _ (by omega);have h2:=zA ds.length;have h3:2^(13*ds.length)<2^64:=by omega
     have:=(Nat.pow_lt_pow_iff_right (by decide:1<2)).1 h3;omega
   have hlt:v/10000<=f:=by omega
   have nx:=ih (v/10000) (ds++ [v % 10000]) hlt (rD hd (Nat.mod_lt _ (by decide))) (by
     rw[iM,List.length_append,List.length_singleton,Nat.pow_succ,Nat.mul_assoc,Nat.add_assoc, <- Nat.mul_add];have:v % 10000+b10k*(v/10000)=v:=by unfold b10k;omega
     rw[this];exact hv) (fun h=>by simp;omega) (fun h=>by have:=hg h;omega)
   rw[JI,JJ] at nx;have E:∀ (e:Int),e=((v % 10000:Nat):Int)->(aM ds)++ [[(AV.int .i64 e)]]=aM (ds++ [v % 10000]):=fun e h=>by rw[h];exact wE ds _
   have E0:ds= []->∀ (e:Int),e=((v % 10000:Nat):Int)-> [[(AV.int .i64 e)]]=aM (ds++ [v % 10000]):=fun h0 e h=>by rw[h,h0];rfl
   have v0:(10000:Int)≠0:=by decide
   have v1:1*8<=140737488355328:=by decide
   have v2:1<=big:=by unfold big;omega
   cases g with
   | false=>
     have hg:=hg rfl;cases ds with
     | nil=>
       refine gR fA none [0,2,3] [0,1,3] [(9,tt),(11,.i6 ((v % 10000:Nat):Int)),(13,ff),(23,.i6 ((v/10000:Nat):Int))] (.c6 (jT (om (¬ ((v:Int)=(0:Int))))) (show Ref (.i6 ((v:Int).tmod (10000:Int))) (.i6 ((v % 10000:Nat):Int)) from Ref.rem (a:=v) (b:=10000) rfl rfl) v0 (iF (om (¬ (((v % 10000:Nat):Int)<(0:Int))))) r1 (dc (0<1)) (.a4 v1 v2 (show Ref (.i6 (IntKind.i64.wrap ((v:Int).tdiv (10000:Int)))) (.i6 ((v/10000:Nat):Int)) from Ref.quo (a:=v) (b:=10000) rfl rfl (by decide) ((om ((v:Int)<=9223372036854775807)))) v0)) (t:=EO) (σ:=slots 25 [(0,.i6 ((v/10000:Nat):Int)),(2,.ptr 0 2 0 0),(3,.ptr 1 2 0 0)]) (h:=[some ⟨64,2,false,[[.bool false,.nil]],none⟩,some ⟨64,2,false,[[.bool s,.own 2 1 0 1]],none⟩,some ⟨3,1,true,[[.i6 ((v % 10000:Nat):Int)]],none⟩]) ?_
       rw[E0 rfl _ rfl];exact nx
     | cons d ds=>
       simp only[List.length_cons] at hlen;refine Gr s v (ds.length+1) (d::ds) (by omega) (by omega) ⟨by rw[aI];simp,by omega,by unfold big;omega,by omega⟩ ?_;rw[E _ rfl];exact nx
   | true=>
     have hv9:v<=9223372036854775808:=by
       have h1:1*v<=b10k^ds.length*v:=Nat.mul_le_mul_right _ (Nat.pow_pos (by decide));omega
     have v3:¬ ((-(v:Int))=(0:Int)):=by omega
     by_cases hm:v % 10000=0
     · cases ds with
       | nil=>
         refine gR fA none [0,2,3] [0,1,3] [(9,tt),(11,.i6 (-((v % 10000:Nat):Int))),(13,ff),(23,.i6 (-((v/10000:Nat):Int)))] (.c6 (jT v3) (neg_tmod v) v0 (iF (om (¬ ((-((v % 10000:Nat):Int))<(0:Int))))) r1 (dc (0<1)) (.a4 v1 v2 (neg_tdiv hv9) v0)) (t:=EO) (σ:=slots 25 [(0,(.i6 (-((v/10000:Nat):Int)))),(2,.ptr 0 2 0 0),(3,.ptr 1 2 0 0)]) (h:=[some ⟨64,2,false,[[.bool false,.nil]],none⟩,some ⟨64,2,false,[[.bool s,.own 2 1 0 1]],none⟩,some ⟨3,1,true,[[.i6 (-((v % 10000:Nat):Int))]],none⟩]) ?_
         rw[E0 rfl _ (by omega)];exact nx
       | cons d ds=>
         simp only[List.length_cons] at hlen;refine Gu s v (ds.length+1) (d::ds) (by omega) (by omega) ⟨neg_tmod v,by rw[aI];simp,by omega,by unfold big;omega,neg_tdiv hv9⟩ ?_;rw[E _ (by omega)];exact nx
     · cases ds with
       | nil=>
         refine gR fA none [0,2,3] [0,1,3] [(9,tt),(11,.i6 (-((v % 10000:Nat):Int))),(13,tt),(15,.i6 (0-(-((v % 10000:Nat):Int)))),(23,.i6 (-((v/10000:Nat):Int)))] (.c6 (jT v3) (neg_tmod v) v0 (iT (om ((-((v % 10000:Nat):Int))<(0:Int)))) (wI (0-(-((v % 10000:Nat):Int))) (0-(-((v % 10000:Nat):Int)))) r1 (.a5 (dc (0<1)) v1 v2 (neg_tdiv hv9) v0)) (t:=EO) (σ:=slots 25 [(0,(.i6 (-((v/10000:Nat):Int)))),(2,.ptr 0 2 0 0),(3,.ptr 1 2 0 0)]) (h:=[some ⟨64,2,false,[[.bool false,.nil]],none⟩,some ⟨64,2,false,[[.bool s,.own 2 1 0 1]],none⟩,some ⟨3,1,true,[[.i6 (0-(-((v % 10000:Nat):Int)))]],none⟩]) ?_
         rw[E0 rfl _ (by omega)];exact nx
       | cons d ds=>
         simp only[List.length_cons] at hlen;refine Gt s v (ds.length+1) (d::ds) (by omega) (by omega) ⟨neg_tmod v,by omega,by rw[aI];simp,by omega,by unfold big;omega,neg_tdiv hv9⟩ ?_;rw[E _ (by omega)];exact nx
theorem EQ:bQ 201 Pv:=by
 refine cK Tryz.f201 fun _ _ _ S w0 h ho=> ?_
 unfold Pv at h;split at h <;> cases h;rename_i n;obtain⟨o1,o2⟩:=ho.e2;refine gN fA [0,2,3] [] .nil (t:=EO) (σ:=slots 25 [(0,.i6 n),(2,.ptr 0 2 0 0),(3,.ptr 1 2 0 0)]) (h:=[some ⟨64,2,false,[[.bool false,.nil]],none⟩,some ⟨64,2,false,[[.bool (decide (n<(0:Int))),.nil]],none⟩]) ?_
 have:=JK (S:=S) (w0:=w0) (N:=n) (s:=decide (n<0)) (g:=decide (n<0)) rfl (by omega) n.natAbs n.natAbs [] (rl _) (by simp) (by simp[aH]) (by simp) (fun h=>by have:=of_decide_eq_false h;omega);have e:sg (decide (n<0)) n.natAbs=n:=wC n;rw[e] at this;exact this
end
def nY:=kn.cons BB
def Pw:KF
 | [.nat n B,.nat m C]=>some (.nat (n*m) (B+C),[B+C+128<=LIM])
 | _=>none
theorem zJ {A P Q x y Y:Nat}:A+P*(x*Y)+P*Q*(x*y)=A+P*(x*(Y+Q*y)):=by
 simp only[Nat.mul_add,Nat.mul_assoc,Nat.mul_comm,Nat.mul_left_comm];omega
section
variable {S:Nat->Prop} {w0:World}
noncomputable abbrev JL:List Item:=[.code (aN [1,1,0,1,0,0] (aA Tryz.f115)),.inLoop (aN [1,1,0,1,0,0] (aA Tryz.f115)),.inBlock 0,.code (aN [1,1,1] (aA Tryz.f115))]
noncomputable abbrev Gw:List Item:=[.code (aN [1,1,0,1,0,0,1,1,0,0,1,1,0,1,0,0] (aA Tryz.f115)),.inLoop (aN [1,1,0,1,0,0,1,1,0,0,1,1,0,1,0,0] (aA Tryz.f115)),.inBlock 2,.code (aN [1,1,0,1,0,0,1,1,0,0,1,1,1] (aA Tryz.f115)),.inBlock 1,.code (aN [1,1,0,1,0,0,1,1,1] (aA Tryz.f115)),.inLoop (aN [1,1,0,1,0,0] (aA Tryz.f115)),.inBlock 0,.code (aN [1,1,1] (aA Tryz.f115))]
variable {Post:Value->World->Prop}
theorem Gx {xs ys:List Nat} {m i:Nat} (hm:m=xs.length+ys.length) (hi:i<xs.length) (hx:∀ x∈xs,x<b32) (hy:∀ x∈ys,x<b32) (hbig:m+2<=LIM)
   (next:∀ ds:List Nat,ds.length=m->(∀ x∈ds,x<b32)->aH b32 ds=aH b32 (xs.take (i+1))*aH b32 ys->(∀ t,i+1+ys.length<=t->ds.getD t 0=0)->
     Good Tryz.prog 115 S No w0 Post JL ⟨slots 67 [(1,.list 1 (aG ys)),(5,.own 0 1 0 m),(17,.list 1 (aG xs)),(18,(.i6 (((aG xs).length:Nat):Int))),(19,.i6 ((i+1:Nat):Int))],[some ⟨362,1,true,(aG ds),none⟩]⟩):
   ∀ (j k c:Nat) (ds:List Nat),j=ys.length-k->k<=ys.length->c<b32->ds.length=m->(∀ x∈ds,x<b32)->aH b32 ds+b32^(i+k)*c=aH b32 (xs.take i)*aH b32 ys+b32^i*(xs.getD i 0*aH b32 (ys.take k))->(∀ t,i+ys.length<=t->ds.getD t 0=0)->
   Good Tryz.prog 115 S No w0 Post Gw ⟨slots 67 [(1,.list 1 (aG ys)),(5,.own 0 1 0 m),(6,.i6 ((i:Nat):Int)),(7,.int .u32 ((xs.getD i 0:Nat):Int)),(8,.int .u64 ((c:Nat):Int)),(17,.list 1 (aG xs)),(18,(.i6 (((aG xs).length:Nat):Int))),(19,.i6 ((i:Nat):Int)),(24,.list 1 (aG ys)),(25,(.i6 (((aG ys).length:Nat):Int))),(26,.i6 ((k:Nat):Int))],[some ⟨362,1,true,(aG ds),none⟩]⟩:=by
 unfold LIM at hbig;have hx1:=aY (b:=b32) (by decide) hx i;have fb:b32=4294967296:=rfl;intro j
 induction j with
 | zero=>
   intro k c ds hj hk hc hd hdl hinv hz;have hk:k=ys.length:=by omega
   subst hk;refine cP (p:=(-9223372036854775808<=(i:Int)+((aG ys).length:Int)/\(i:Int)+((aG ys).length:Int)<=9223372036854775807)/\(0<=(c:Int)/\(c:Int)<=4294967295)/\(((i+(aG ys).length:Nat):Int)<(m:Int))/\(0+(i+(aG ys).length)<(aG ds).length)/\(-9223372036854775808<=(i:Int)+(1:Int)/\(i:Int)+(1:Int)<=9223372036854775807)) (by rw[aB,aB];omega) fun⟨q0,q1,q2,q3,q4⟩=>gN nY [1,5,6,7,8,17,18,19,24,25,26] [(27,ff),(60,.i6 ((i+(aG ys).length:Nat):Int)),(62,.int .u32 (c:Int)),(64,.i6 ((i+1:Nat):Int))] (.c6 (iF (show ¬ ((ys.length:Int)<((aG ys).length:Int)) by rw[aB];omega)) (wI ((i:Int)+((aG ys).length:Int)) ((i+(aG ys).length:Nat):Int) q0) (wV (c:Int) (c:Int) q1) (nn (i+(aG ys).length)) q2 q3 (.a1 (wI ((i:Int)+(1:Int)) ((i+1:Nat):Int) q4))) (t:=JL) (σ:=slots 67 [(1,.list 1 (aG ys)),(5,.own 0 1 0 m),(6,.i6 (i:Int)),(7,(.int .u32 (((xs.getD i 0):Nat):Int))),(8,.int .u64 (c:Int)),(17,.list 1 (aG xs)),(18,.i6 ((aG xs).length:Int)),(19,.i6 ((i+1:Nat):Int)),(24,.list 1 (aG ys)),(25,.i6 ((aG ys).length:Int)),(26,.i6 (ys.length:Int))]) (h:=[some ⟨362,1,true,((aG ds).set (0+(i+(aG ys).length)) [.int .u32 (c:Int)]),none⟩]) ?_
   refine Good.weak 67 [(1,_),(5,_),(17,_),(18,_),(19,_)] (by kernel_rfl) (.r (.r (.r (.r (.r .nil))))) ?_;rw[eN,Nat.zero_add, @aB ys];rw[fQ (rl _)] at hinv;rw[fb] at hc;have h2:=gW (b:=b32) (xs:=ds) (j:=i+ys.length) (v:=c) (by omega);rw[hz _ (rl _),Nat.mul_zero,Nat.add_zero] at h2;refine next _ (by simp[hd]) (eW hdl (by rw[fb];exact hc)) ?_ (fun t ht=>by rw[dE (by omega)];exact hz t (by omega));rw[h2,hinv,aQ,Nat.add_mul,Nat.mul_assoc]
 | succ j ih=>
   intro k c ds hj hk hc hd hdl hinv hz;have hy1:=aY (b:=b32) (by decide) hy k;have ho1:=aY (b:=b32) (by decide) hdl (i+k);have hm1:=sO hx1 hy1;have hcast:((xs.getD i 0:Nat):Int)*((ys.getD k 0:Nat):Int)=((xs.getD i 0*ys.getD k 0:Nat):Int):=by simp
   rw[fb] at hc hx1 hy1 ho1;refine cP (p:=(k<ys.length)/\((k:Int)<((aG ys).length:Int))/\(0<=(((xs.getD i 0):Nat):Int)/\(((xs.getD i 0):Nat):Int)<=18446744073709551615)/\(0<=(ys.getD k 0:Int)/\(ys.getD k 0:Int)<=18446744073709551615)/\(0<=(((xs.getD i 0):Nat):Int)*(ys.getD k 0:Int)/\(((xs.getD i 0):Nat):Int)*(ys.getD k 0:Int)<=18446744073709551615)/\(-9223372036854775808<=(i:Int)+(k:Int)/\(i:Int)+(k:Int)<=9223372036854775807)/\(((i+k:Nat):Int)<(m:Int))/\(0+(i+k)<ds.length)/\(0+(i+k)<(aG ds).length)/\(0<=(ds.getD (0+(i+k)) 0:Int)/\(ds.getD (0+(i+k)) 0:Int)<=18446744073709551615)/\(0<=(((xs.getD i 0)*(ys.getD k 0):Nat):Int)+(ds.getD (0+(i+k)) 0:Int)/\(((xs.getD i 0)*(ys.getD k 0):Nat):Int)+(ds.getD (0+(i+k)) 0:Int)<=18446744073709551615)/\(0<=(c:Int)+(((xs.getD i 0)*(ys.getD k 0)+ds.getD (0+(i+k)) 0:Nat):Int)/\(c:Int)+(((xs.getD i 0)*(ys.getD k 0)+ds.getD (0+(i+k)) 0:Nat):Int)<=18446744073709551615)/\(-9223372036854775808<=(k:Int)+(1:Int)/\(k:Int)+(1:Int)<=9223372036854775807)) ?_ fun⟨q0,q1,q2,q3,q4,q5,q6,q7,q8,q9,q10,q11,q12⟩=>gN nY [1,5,6,7,8,17,18,19,24,25,26] [(27,tt),(29,.cptr [.int .u32 (ys.getD k 0:Int)] 0),(33,.int .u64 (((xs.getD i 0):Nat):Int)),(35,.int .u64 (ys.getD k 0:Int)),(36,.int .u64 (((xs.getD i 0)*(ys.getD k 0):Nat):Int)),(40,.i6 ((i+k:Nat):Int)),(42,.int .u32 (ds.getD (0+(i+k)) 0:Int)),(43,.int .u64 (ds.getD (0+(i+k)) 0:Int)),(44,.int .u64 (((xs.getD i 0)*(ys.getD k 0)+ds.getD (0+(i+k)) 0:Nat):Int)),(45,.int .u64 ((c+(xs.getD i 0)*(ys.getD k 0)+ds.getD (0+(i+k)) 0:Nat):Int)),(49,.i6 ((i+k:Nat):Int)),(51,.int .u32 (((c+(xs.getD i 0)*(ys.getD k 0)+ds.getD (0+(i+k)) 0) % 4294967296:Nat):Int)),(54,.int .u64 (((c+(xs.getD i 0)*(ys.getD k 0)+ds.getD (0+(i+k)) 0)/4294967296:Nat):Int)),(55,.i6 ((k+1:Nat):Int))] (.c6 (iT (show(k:Int)<((aG ys).length:Int) by rw[aB];omega)) (Ref.cd32 q0) (nn k) q1 (wU (((xs.getD i 0):Nat):Int) (((xs.getD i 0):Nat):Int) q2) (wU (ys.getD k 0:Int) (ys.getD k 0:Int) q3) (.c6 (wU ((((xs.getD i 0):Nat):Int)*(ys.getD k 0:Int)) (((xs.getD i 0)*(ys.getD k 0):Nat):Int) q4) (wI ((i:Int)+(k:Int)) ((i+k:Nat):Int) q5) (nn (i+k)) q6 (Ref.cd32h q7) q8 (.c6 (wU (ds.getD (0+(i+k)) 0:Int) (ds.getD (0+(i+k)) 0:Int) q9) (wU ((((xs.getD i 0)*(ys.getD k 0):Nat):Int)+(ds.getD (0+(i+k)) 0:Int)) (((xs.getD i 0)*(ys.getD k 0)+ds.getD (0+(i+k)) 0:Nat):Int) q10) (wU ((c:Int)+(((xs.getD i 0)*(ys.getD k 0)+ds.getD (0+(i+k)) 0:Nat):Int)) ((c+(xs.getD i 0)*(ys.getD k 0)+ds.getD (0+(i+k)) 0:Nat):Int) q11) (wI ((i:Int)+(k:Int)) ((i+k:Nat):Int) q5) (show Ref (.int .u32 (IntKind.u32.wrap ((c+(xs.getD i 0)*(ys.getD k 0)+ds.getD (0+(i+k)) 0:Nat):Int))) (.int .u32 (((c+(xs.getD i 0)*(ys.getD k 0)+ds.getD (0+(i+k)) 0) % 4294967296:Nat):Int)) from Ref.md32 (by first | rfl | omega)) (nn (i+k)) (.a5 q6 q8 (show Ref (.int .u64 (((c+(xs.getD i 0)*(ys.getD k 0)+ds.getD (0+(i+k)) 0:Nat):Int).fdiv (2^(min (32:Int).toNat 64)))) (.int .u64 (((c+(xs.getD i 0)*(ys.getD k 0)+ds.getD (0+(i+k)) 0)/4294967296:Nat):Int)) from Ref.shrc (c:=min (Int.toNat _) _) (by rfl) (by decide)) (dc (0<=(32:Int))) (wI ((k:Int)+(1:Int)) ((k+1:Nat):Int) q12))))) (t:=Gw) (σ:=slots 67 [(1,.list 1 (aG ys)),(5,.own 0 1 0 m),(6,.i6 (i:Int)),(7,(.int .u32 (((xs.getD i 0):Nat):Int))),(8,(.int .u64 (((c+(xs.getD i 0)*(ys.getD k 0)+ds.getD (0+(i+k)) 0)/4294967296:Nat):Int))),(17,.list 1 (aG xs)),(18,.i6 ((aG xs).length:Int)),(19,.i6 (i:Int)),(24,.list 1 (aG ys)),(25,.i6 ((aG ys).length:Int)),(26,.i6 ((k+1:Nat):Int))]) (h:=[some ⟨362,1,true,((aG ds).set (0+(i+k)) [.int .u32 (((c+(xs.getD i 0)*(ys.getD k 0)+ds.getD (0+(i+k)) 0) % 4294967296:Nat):Int)]),none⟩]) ?_
   · simp only[aB,Nat.zero_add,hcast]
     omega
   · rw[eN]
     simp only[Nat.zero_add];refine ih _ _ _ (by omega) (by omega) (by rw[fb];omega) (by simp[hd]) (eW hdl (by rw[fb];omega)) ?_ (fun t ht=>by rw[dE (by omega)];exact hz t ht);have h2:=gW (b:=b32) (xs:=ds) (j:=i+k) (v:=(c+xs.getD i 0*ys.getD k 0+ds.getD (i+k) 0) % 4294967296) (by omega);rw[show i+(k+1)=i+k+1 by omega,Nat.pow_succ,aQ];have h3:=Bw (b:=b32) (V:=aH b32 ds) (c:=c) rfl h2 hinv;rw[Nat.pow_add] at h3 ⊢;exact h3.trans zJ
theorem Gy {xs ys:List Nat} {m E:Nat} (hm:m=xs.length+ys.length) (hx:∀ x∈xs,x<b32) (hy:∀ x∈ys,x<b32) (hbig:m+2<=LIM) (hE:aH b32 xs*aH b32 ys<2^E):
   ∀ (j i:Nat) (ds:List Nat),j=xs.length-i->i<=xs.length->ds.length=m->(∀ x∈ds,x<b32)->aH b32 ds=aH b32 (xs.take i)*aH b32 ys->(∀ t,i+ys.length<=t->ds.getD t 0=0)->
     GF 115 S w0 (.nat (aH b32 xs*aH b32 ys) E) JL ⟨slots 67 [(1,.list 1 (aG ys)),(5,.own 0 1 0 m),(17,.list 1 (aG xs)),(18,(.i6 (((aG xs).length:Nat):Int))),(19,.i6 ((i:Nat):Int))],[some ⟨362,1,true,(aG ds),none⟩]⟩:=by
 intro j
 induction j with
 | zero=>
   intro i ds hj hi hd hdl hinv hz;have hi:i=xs.length:=by omega
   subst hi;rw[fQ (rl _)] at hinv;obtain⟨q1,q2,q3⟩:=wM (m:=m) hd.symm hE hinv hdl (xs:=[]) rfl;refine rF nY [(20,ff)] (.a4 (iF (show ¬ ((xs.length:Int)<((aG xs).length:Int)) by rw[aB];omega)) (show 0+m<=(aG ds).length by rw[aB];omega) q1 q2) (V:=.nat (aH b32 (aZ (((aG ds).drop 0).take m))) (32*(((aG ds).drop 0).take m).length)) q3
 | succ j ih=>
   intro i ds hj hi hd hdl hinv hz;have v0:(i:Int)<((aG xs).length:Int):=by rw[aB];omega
   refine gN nY [1,4,5,6,7,8,17,18,19,24,25,26] [(20,tt),(22,.cptr [.int .u32 (xs.getD i 0:Int)] 0)] (.a4 (iT v0) (show Ref (.cptr ((aG xs).getD i []) 0) (.cptr [.int .u32 (xs.getD i 0:Int)] 0) from Ref.cd32 ((om (i<xs.length)))) (nn i) v0) (t:=Gw) (σ:=slots 67 [(1,.list 1 (aG ys)),(5,.own 0 1 0 m),(6,.i6 (i:Int)),(7,.int .u32 (xs.getD i 0:Int)),(8,.int .u64 (0:Int)),(17,.list 1 (aG xs)),(18,.i6 ((aG xs).length:Int)),(19,.i6 (i:Int)),(24,.list 1 (aG ys)),(25,.i6 ((aG ys).length:Int)),(26,.i6 (0:Int))]) (h:=[some ⟨362,1,true,(aG ds),none⟩]) ?_
   refine Gx hm (by omega) hx hy hbig (fun D e1 e2 e3 e4=>ih (i+1) D (by omega) (by omega) e1 e2 e3 e4) _ 0 0 ds rfl (by omega) (by decide) hd hdl ?_ hz;simp[aH,hinv]
theorem Gz:bQ 115 Pw:=fun args r ob h ho=>by
 unfold Pw at h
 split at h
 · rename_i n B m C
   cases h;have hL:B+C+128<=LIM:=ho _ (by simp);unfold LIM at hL;obtain⟨hx,hxn⟩:=aO (b:=b32) (by decide) n;obtain⟨hy,hyn⟩:=aO (b:=b32) (by decide) m;refine af Tryz.f115 fun S w0=> ?_
   refine Good.natlt (n:=n) (B:=B) 0 rfl fun hn=>Good.natlt (n:=m) (B:=C) 1 rfl fun hm=> ?_
   refine Good.weak 67 [(0,.list 1 (aG (aC b32 n))),(1,.list 1 (aG (aC b32 m)))] (by kernel_rfl) (.cons Ref.opn (.cons Ref.opn .nil)) ?_;have l1:=hx.len (by rw[hxn];exact hn);have l2:=hy.len (by rw[hyn];exact hm);generalize aC b32 n=xs at*;generalize aC b32 m=ys at*;subst hxn;subst hyn;refine cP (p:=(-9223372036854775808<=((aG xs).length:Int)+((aG ys).length:Int)/\((aG xs).length:Int)+((aG ys).length:Int)<=9223372036854775807)/\(4*(((aG xs).length+(aG ys).length:Nat):Int)<=281474976710656)/\((((aG xs).length+(aG ys).length:Nat):Int)<=(big:Int))) (by simp only[aB];unfold big;omega) fun⟨q0,q1,q2⟩=>gN nY [1,5,17,18,19] [(15,.i6 (((aG xs).length+(aG ys).length:Nat):Int))] (.a5 (wI ((((aG xs).length:Nat):Int)+((aG ys).length:Int)) (((aG xs).length+(aG ys).length:Nat):Int) q0) (rfl:(((aG xs).length+(aG ys).length:Nat):Int)=(((aG xs).length+(aG ys).length:Nat):Int)) (nn ((aG xs).length+(aG ys).length)) q1 q2) (t:=JL) (σ:=slots 67 [(1,.list 1 (aG ys)),(5,.own 0 1 0 ((aG xs).length+(aG ys).length)),(17,.list 1 (aG xs)),(18,.i6 ((aG xs).length:Int)),(19,.i6 (0:Int))]) (h:=[some ⟨362,1,true,(List.replicate ((aG xs).length+(aG ys).length) [.int .u32 (0:Int)]),none⟩]) ?_
   rw[mP];simp only[aB]
   have:=Gy (S:=S) (w0:=w0) (xs:=xs) (ys:=ys) rfl hx.1 hy.1 (by unfold LIM;omega) (vZ hn hm) xs.length 0 (List.replicate (xs.length+ys.length) 0) rfl (by omega) (by simp) (nS (by decide)) (by simp[aH,nT]) (fun t _=>Bs _ _);simp only[aB] at this;exact this
 · cases h
end
def rG:=kn
def Px:KF
 | [.list 1 X]=>some (.dig (aH b10k (bI X)) (14*X.length),[X=aM (bI X),∀ x∈bI X,x<b10k])
 | _=>none
section
variable {S:Nat->Prop} {w0:World}
noncomputable abbrev Py:List Item:=[.code (aN [1,0,0,0] (aA Tryz.f272)),.inLoop (aN [1,0,0,0] (aA Tryz.f272)),.inBlock 0,.code (aN [1,1] (aA Tryz.f272))]
theorem JM {N B:Nat} (hB:N<2^B):∀ (j:Nat) (xs:List Nat),xs.length=j->(∀ x∈xs,x<b10k)->aH b10k xs=N->j<=big->
   GF 272 S w0 (.dig N B) Py ⟨slots 21 [(0,.list 1 (aM xs))],[]⟩:=by
 intro j
 induction j with
 | zero=>
   intro xs hl hx hN hb;refine rF rG [(6,ff)] (.a1 (iF (show ¬ ((0:Int)<((aM xs).length:Int)) by rw[aI];omega))) (V:=.list 1 (aM xs)) (Ref.dig ⟨hx, ?_⟩ hN hB)
   have:xs= []:=List.length_eq_zero_iff.1 hl;subst this;simp
 | succ k ih=>
   intro xs hl hx hN hb;unfold big at hb;have v0:Ref (.i6 (IntKind.i64.wrap ((((aM xs).length:Nat):Int)-(1:Int)))) (.i6 (k:Int)):=by rw[aI];exact Ref.wrI (by omega) (by omega)
   have v1:Ref (.cptr ((aM xs).getD k []) 0) (.cptr [.i6 (xs.getD k 0:Int)] 0):=Ref.cd64 ((om (k<xs.length)));have v2:(0:Int)<((aM xs).length:Int):=by rw[aI];omega
   have v3:(k:Int)<((aM xs).length:Int):=by rw[aI];omega
   by_cases h:xs.getD k 0=0
   · refine gN rG [0,2] [(6,tt),(10,.i6 (k:Int)),(11,.cptr [.i6 (xs.getD k 0:Int)] 0),(14,tt),(18,.i6 (k:Int))] (.c6 (iT v2) v0 v1 (nn k) v3 (iT (om ((xs.getD k 0:Int)=(0:Int)))) (.a3 v0 (nn k) (show(k:Int)<=((aM xs).length:Int) by rw[aI];omega))) (t:=Py) (σ:=slots 21 [(0,(.list 1 (((aM xs).take k).drop 0)))]) (h:=[]) ?_
     rw[List.drop_zero,FR];refine ih _ (by simp;omega) (fun x h=>hx x (List.mem_of_mem_take h)) ?_ (by unfold big;omega);have h1:=aQ b10k xs k;rw[fQ (by omega),hN,h,Nat.mul_zero] at h1;omega
   · refine rF rG [(6,tt),(10,.i6 (k:Int)),(11,.cptr [.i6 (xs.getD k 0:Int)] 0),(14,ff)] (.a6 (iT v2) v0 v1 (nn k) v3 (iF (om (¬ (((xs.getD k 0:Nat):Int)=(0:Int)))))) (V:=.list 1 (aM xs)) (Ref.dig ⟨hx, ?_⟩ hN hB)
     rw[List.getLast?_eq_getElem?,hl,Nat.add_sub_cancel,List.getElem?_eq_getElem (by omega)];intro he;apply h;simp at he;simp[mQ,show k<xs.length by omega,he]
theorem MC:bQ 272 Px:=fun args r ob h ho=>by
 unfold Px at h
 split at h
 · rename_i X
   cases h;have h1:X=aM (bI X):=ho _ (by simp);have h2:∀ x∈bI X,x<b10k:=ho _ (by simp);generalize bI X=xs at h1 h2;subst h1;refine af Tryz.f272 fun S w0=> ?_
   rw[aI];have e:kC [.list 1 (aM xs)] Tryz.f272.ntmps=⟨slots 21 [(0,.list 1 (aM xs))],[]⟩:=by kernel_rfl
   rw[e];refine Good.len 0 (e:=1) (xs:=aM xs) (by rfl) fun hb=> ?_
   rw[aI] at hb;exact gN rG [0] [] .nil (JM (Ez h2) _ xs rfl h2 rfl hb)
 · cases h
end
def lT:=kn.cons MC
end Go.Av
