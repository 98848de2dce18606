/- PoseJacobians: a part of its proof. No condition. -/
import Derived.Test.YtbdhgnlabjmnoaaGreatK1
import Derived.MapKept
set_option linter.all false
set_option maxRecDepth 100000
set_option autoImplicit true
set_option relaxedAutoImplicit true
namespace Go.Av
open Go.Proofs Go.RowKit
def Pz:KF
 | [.dig n B,.dig m C]=>some (.dig (n*m) (B+C),[B+C+128<=LIM])
 | _=>none
theorem Ref.digB {n B C:Nat} (h:n<2^C):Ref (.dig n B) (.dig n C):=by
 intro ρ S w D v hv;have h':RelCs ρ S w D [.dig n B] [v]:=hv;cases h' with
 | dig xs h1 h2 h3 h4=>exact aV (.dig xs h1 h2 h h4)
theorem Good.diglt {P:Program} {f:FuncId} {S0 C0:Nat->Prop} {w0:World} {Post:Value->World->Prop} {todo:List Item} {st:St} (t:Nat) {n B:Nat} (ht:st.σ.getD t .any= .dig n B) (hg:n<2^B->Good P f S0 C0 w0 Post todo st):Good P f S0 C0 w0 Post todo st:=
 Good.fact t ht rfl (fun ρ S w D v hv=>qX (show RelCs ρ S w D [.dig n B] [v] from hv)) hg
section
variable {S:Nat->Prop} {w0:World}
noncomputable abbrev JN:List Item:=[.code (aN [1,1,0,1,0,0] (aA Tryz.f223)),.inLoop (aN [1,1,0,1,0,0] (aA Tryz.f223)),.inBlock 0,.code (aN [1,1,1] (aA Tryz.f223))]
noncomputable abbrev Dz:List Item:=[.code (aN [1,1,0,1,0,0,1,0,0,1,1,0,0] (aA Tryz.f223)),.inLoop (aN [1,1,0,1,0,0,1,0,0,1,1,0,0] (aA Tryz.f223)),.inBlock 2,.inBlock 1,.code (aN [1,1,0,1,0,0,1,1] (aA Tryz.f223)),.inLoop (aN [1,1,0,1,0,0] (aA Tryz.f223)),.inBlock 0,.code (aN [1,1,1] (aA Tryz.f223))]
variable {Post:Value->World->Prop}
theorem GA {xs ys:List Nat} {m i:Nat} (hm:m=xs.length+ys.length) (hi:i<xs.length) (hx:∀ x∈xs,x<b10k) (hy:∀ x∈ys,x<b10k) (hbig:m+2<=LIM)
   (next:∀ ds:List Nat,ds.length=m->(∀ x∈ds,x<b10k)->aH b10k ds=aH b10k (xs.take (i+1))*aH b10k ys->(∀ t,i+1+ys.length<=t->ds.getD t 0=0)->
     Good Tryz.prog 223 S No w0 Post JN ⟨slots 66 [(0,.list 1 (aM xs)),(1,.list 1 (aM ys)),(5,.own 0 1 0 m),(6,.i6 ((i+1:Nat):Int))],[some ⟨3,1,true,(aM ds),none⟩]⟩):
   ∀ (j k c:Nat) (ds:List Nat),j=ys.length-k->k<=ys.length->c<b10k->ds.length=m->(∀ x∈ds,x<b10k)->aH b10k ds+b10k^(i+k)*c=aH b10k (xs.take i)*aH b10k ys+b10k^i*(xs.getD i 0*aH b10k (ys.take k))->(∀ t,i+ys.length<=t->ds.getD t 0=0)->
   Good Tryz.prog 223 S No w0 Post Dz ⟨slots 66 [(0,.list 1 (aM xs)),(1,.list 1 (aM ys)),(5,.own 0 1 0 m),(6,.i6 ((i:Nat):Int)),(7,.i6 ((c:Nat):Int)),(8,.i6 ((k:Nat):Int))],[some ⟨3,1,true,(aM ds),none⟩]⟩:=by
 unfold LIM at hbig;have hx1:=aY (b:=b10k) (by decide) hx i;have fb:b10k=10000:=rfl
 have fin:∀ (k:Nat) (ds:List Nat),ys.length<=k->ds.length=m->(∀ x∈ds,x<b10k)->aH b10k ds=aH b10k (xs.take i)*aH b10k ys+b10k^i*(xs.getD i 0*aH b10k ys)->(∀ t,i+1+ys.length<=t->ds.getD t 0=0)->
     Good Tryz.prog 223 S No w0 Post Dz ⟨slots 66 [(0,.list 1 (aM xs)),(1,.list 1 (aM ys)),(5,.own 0 1 0 m),(6,.i6 ((i:Nat):Int)),(7,.i6 ((0:Nat):Int)),(8,.i6 ((k:Nat):Int))],[some ⟨3,1,true,(aM ds),none⟩]⟩:=by
   intro k ds hk hd hdl hv hz;refine gN lT [0,1,5,6,7,8] [(26,ff),(29,ff),(21,.i6 ((i+1:Nat):Int))] (.a3 (iF (show ¬ ((k:Int)<((aM ys).length:Int)) by rw[aI];omega)) (iF (om (¬ ((0:Int)<(0:Int))))) (wI ((i:Int)+(1:Int)) ((i+1:Nat):Int))) (t:=JN) (σ:=slots 66 [(0,.list 1 (aM xs)),(1,.list 1 (aM ys)),(5,.own 0 1 0 m),(6,.i6 ((i+1:Nat):Int)),(7,.i6 (0:Int)),(8,.i6 (k:Int))]) (h:=[some ⟨3,1,true,(aM ds),none⟩]) ?_
   refine Good.weak 66 [(0,_),(1,_),(5,_),(6,_)] (by kernel_rfl) (.r (.r (.r (.r .nil)))) ?_;refine next ds hd hdl ?_ hz;rw[hv,aQ,Nat.add_mul,Nat.mul_assoc]
 intro j;have v0:(10000:Int)≠0:=by decide
 induction j with
 | zero=>
   intro k c ds hj hk hc hd hdl hinv hz;have hk:k=ys.length:=by omega
   subst hk;rw[fQ (rl _)] at hinv
   by_cases h0:c=0
   · subst h0
     exact fin _ ds (rl _) hd hdl (by rw[Nat.mul_zero,Nat.add_zero] at hinv;exact hinv) (fun t ht=>hz t (by omega))
   · have ho:ds.getD (i+ys.length) 0=0:=hz _ (rl _)
     rw[fb] at hc;have v1:¬ ((ys.length:Int)<((aM ys).length:Int)):=by rw[aI];omega
     refine cP (p:=(-9223372036854775808<=(i:Int)+(ys.length:Int)/\(i:Int)+(ys.length:Int)<=9223372036854775807)/\(((i+ys.length:Nat):Int)<(m:Int))/\(0+(i+ys.length)<ds.length)/\(0+(i+ys.length)<(aM ds).length)/\(-9223372036854775808<=(ds.getD (0+(i+ys.length)) 0:Int)+(c:Int)/\(ds.getD (0+(i+ys.length)) 0:Int)+(c:Int)<=9223372036854775807)/\(((ds.getD (0+(i+ys.length)) 0+c:Nat):Int)<=9223372036854775807)/\(-9223372036854775808<=(ys.length:Int)+(1:Int)/\(ys.length:Int)+(1:Int)<=9223372036854775807)) ?_ fun⟨q0,q1,q2,q3,q4,q5,q6⟩=>gN lT [0,1,5,6,7,8] [(26,ff),(29,tt),(35,.i6 ((i+ys.length:Nat):Int)),(37,.i6 (ds.getD (0+(i+ys.length)) 0:Int)),(39,.i6 ((ds.getD (0+(i+ys.length)) 0+c:Nat):Int)),(43,ff),(58,.i6 ((i+ys.length:Nat):Int)),(60,.i6 (((ds.getD (0+(i+ys.length)) 0+c) % 10000:Nat):Int)),(63,.i6 (((ds.getD (0+(i+ys.length)) 0+c)/10000:Nat):Int)),(31,.i6 ((ys.length+1:Nat):Int))] (.c6 (iF v1) (iT (om ((0:Int)<(c:Int)))) (wI ((i:Int)+(ys.length:Int)) ((i+ys.length:Nat):Int) q0) (nn (i+ys.length)) q1 (Ref.cd64h q2) (.c6 q3 (wI (((ds.getD (0+(i+ys.length)) 0:Nat):Int)+(c:Int)) ((ds.getD (0+(i+ys.length)) 0+c:Nat):Int) q4) (iF v1) (wI ((i:Int)+(ys.length:Int)) ((i+ys.length:Nat):Int) q0) (show Ref (.i6 (((ds.getD (0+(i+ys.length)) 0+c:Nat):Int).tmod (10000:Int))) (.i6 (((ds.getD (0+(i+ys.length)) 0+c) % 10000:Nat):Int)) from Ref.rem (a:=ds.getD (0+(i+ys.length)) 0+c) (b:=10000) rfl rfl) v0 (.a6 (nn (i+ys.length)) q1 q3 (show Ref (.i6 (IntKind.i64.wrap (((ds.getD (0+(i+ys.length)) 0+c:Nat):Int).tdiv (10000:Int)))) (.i6 (((ds.getD (0+(i+ys.length)) 0+c)/10000:Nat):Int)) from Ref.quo (a:=ds.getD (0+(i+ys.length)) 0+c) (b:=10000) rfl rfl (by decide) q5) v0 (wI ((ys.length:Int)+(1:Int)) ((ys.length+1:Nat):Int) q6)))) (t:=Dz) (σ:=slots 66 [(0,.list 1 (aM xs)),(1,.list 1 (aM ys)),(5,.own 0 1 0 m),(6,.i6 (i:Int)),(7,(.i6 (((ds.getD (0+(i+ys.length)) 0+c)/10000:Nat):Int))),(8,.i6 ((ys.length+1:Nat):Int))]) (h:=[some ⟨3,1,true,((aM ds).set (0+(i+ys.length)) [.i6 (((ds.getD (0+(i+ys.length)) 0+c) % 10000:Nat):Int)]),none⟩]) ?_
     · simp only[Nat.zero_add,ho,aI];omega
     · simp only[Nat.zero_add,ho]
       rw[Aj,Nat.mod_eq_of_lt hc,Nat.div_eq_of_lt hc];have h2:=gW (b:=b10k) (xs:=ds) (j:=i+ys.length) (v:=c) (by omega);rw[ho,Nat.mul_zero,Nat.add_zero] at h2;exact fin _ _ (by omega) (by simp[hd]) (eW hdl (by rw[fb];exact hc)) (by rw[h2,hinv]) (fun t ht=>by rw[dE (by omega)];exact hz t (by omega))
 | succ j ih=>
   intro k c ds hj hk hc hd hdl hinv hz;have hy1:=aY (b:=b10k) (by decide) hy k;have ho1:=aY (b:=b10k) (by decide) hdl (i+k);have hcast:((xs.getD i 0:Nat):Int)*((ys.getD k 0:Nat):Int)=((xs.getD i 0*ys.getD k 0:Nat):Int):=by simp
   rw[fb] at hc hx1 hy1 ho1;have hm1:xs.getD i 0*ys.getD k 0<=9999*9999:=Nat.mul_le_mul (by omega) (by omega);have v2:(k:Int)<((aM ys).length:Int):=by rw[aI];omega
   refine cP (p:=(-9223372036854775808<=(i:Int)+(k:Int)/\(i:Int)+(k:Int)<=9223372036854775807)/\(((i+k:Nat):Int)<(m:Int))/\(0+(i+k)<ds.length)/\(0+(i+k)<(aM ds).length)/\(-9223372036854775808<=(ds.getD (0+(i+k)) 0:Int)+(c:Int)/\(ds.getD (0+(i+k)) 0:Int)+(c:Int)<=9223372036854775807)/\(i<xs.length)/\((i:Int)<((aM xs).length:Int))/\(k<ys.length)/\((k:Int)<((aM ys).length:Int))/\(-9223372036854775808<=(xs.getD i 0:Int)*(ys.getD k 0:Int)/\(xs.getD i 0:Int)*(ys.getD k 0:Int)<=9223372036854775807)/\(-9223372036854775808<=((ds.getD (0+(i+k)) 0+c:Nat):Int)+(((xs.getD i 0)*(ys.getD k 0):Nat):Int)/\((ds.getD (0+(i+k)) 0+c:Nat):Int)+(((xs.getD i 0)*(ys.getD k 0):Nat):Int)<=9223372036854775807)/\(((ds.getD (0+(i+k)) 0+c+(xs.getD i 0)*(ys.getD k 0):Nat):Int)<=9223372036854775807)/\(-9223372036854775808<=(k:Int)+(1:Int)/\(k:Int)+(1:Int)<=9223372036854775807)) ?_ fun⟨q0,q1,q2,q3,q4,q5,q6,q7,q8,q9,q10,q11,q12⟩=>gN lT [0,1,5,6,7,8] [(26,tt),(35,.i6 ((i+k:Nat):Int)),(37,.i6 (ds.getD (0+(i+k)) 0:Int)),(39,.i6 ((ds.getD (0+(i+k)) 0+c:Nat):Int)),(43,tt),(47,.cptr [.i6 (xs.getD i 0:Int)] 0),(51,.cptr [.i6 (ys.getD k 0:Int)] 0),(53,.i6 (((xs.getD i 0)*(ys.getD k 0):Nat):Int)),(54,.i6 ((ds.getD (0+(i+k)) 0+c+(xs.getD i 0)*(ys.getD k 0):Nat):Int)),(58,.i6 ((i+k:Nat):Int)),(60,.i6 (((ds.getD (0+(i+k)) 0+c+(xs.getD i 0)*(ys.getD k 0)) % 10000:Nat):Int)),(63,.i6 (((ds.getD (0+(i+k)) 0+c+(xs.getD i 0)*(ys.getD k 0))/10000:Nat):Int)),(31,.i6 ((k+1:Nat):Int))] (.c6 (iT v2) (wI ((i:Int)+(k:Int)) ((i+k:Nat):Int) q0) (nn (i+k)) q1 (Ref.cd64h q2) q3 (.c6 (wI (((ds.getD (0+(i+k)) 0:Nat):Int)+(c:Int)) ((ds.getD (0+(i+k)) 0+c:Nat):Int) q4) (iT v2) (Ref.cd64 q5) (nn i) q6 (Ref.cd64 q7) (.c6 (nn k) q8 (wI (((xs.getD i 0:Nat):Int)*(ys.getD k 0:Int)) (((xs.getD i 0)*(ys.getD k 0):Nat):Int) q9) (wI (((ds.getD (0+(i+k)) 0+c:Nat):Int)+(((xs.getD i 0)*(ys.getD k 0):Nat):Int)) ((ds.getD (0+(i+k)) 0+c+(xs.getD i 0)*(ys.getD k 0):Nat):Int) q10) (wI ((i:Int)+(k:Int)) ((i+k:Nat):Int) q0) (show Ref (.i6 (((ds.getD (0+(i+k)) 0+c+(xs.getD i 0)*(ys.getD k 0):Nat):Int).tmod (10000:Int))) (.i6 (((ds.getD (0+(i+k)) 0+c+(xs.getD i 0)*(ys.getD k 0)) % 10000:Nat):Int)) from Ref.rem (a:=ds.getD (0+(i+k)) 0+c+(xs.getD i 0)*(ys.getD k 0)) (b:=10000) rfl rfl) (.c6 v0 (nn (i+k)) q1 q3 (show Ref (.i6 (IntKind.i64.wrap (((ds.getD (0+(i+k)) 0+c+(xs.getD i 0)*(ys.getD k 0):Nat):Int).tdiv (10000:Int)))) (.i6 (((ds.getD (0+(i+k)) 0+c+(xs.getD i 0)*(ys.getD k 0))/10000:Nat):Int)) from Ref.quo (a:=ds.getD (0+(i+k)) 0+c+(xs.getD i 0)*(ys.getD k 0)) (b:=10000) rfl rfl (by decide) q11) v0 (.a1 (wI ((k:Int)+(1:Int)) ((k+1:Nat):Int) q12)))))) (t:=Dz) (σ:=slots 66 [(0,.list 1 (aM xs)),(1,.list 1 (aM ys)),(5,.own 0 1 0 m),(6,.i6 (i:Int)),(7,(.i6 (((ds.getD (0+(i+k)) 0+c+(xs.getD i 0)*(ys.getD k 0))/10000:Nat):Int))),(8,.i6 ((k+1:Nat):Int))]) (h:=[some ⟨3,1,true,((aM ds).set (0+(i+k)) [.i6 (((ds.getD (0+(i+k)) 0+c+(xs.getD i 0)*(ys.getD k 0)) % 10000:Nat):Int)]),none⟩]) ?_
   · simp only[aI,Nat.zero_add,hcast]
     omega
   · rw[Aj]
     simp only[Nat.zero_add];refine ih _ _ _ (by omega) (by omega) (by rw[fb];omega) (by simp[hd]) (eW hdl (by rw[fb];omega)) ?_ (fun t ht=>by rw[dE (by omega)];exact hz t ht);have h2:=gW (b:=b10k) (xs:=ds) (j:=i+k) (v:=(ds.getD (i+k) 0+c+xs.getD i 0*ys.getD k 0) % 10000) (by omega);rw[show i+(k+1)=i+k+1 by omega,Nat.pow_succ,aQ];have h3:=Bw (b:=b10k) (V:=aH b10k ds) (c:=c) (xy:=xs.getD i 0*ys.getD k 0) (o:=ds.getD (i+k) 0) (t:=ds.getD (i+k) 0+c+xs.getD i 0*ys.getD k 0) (by omega) h2 hinv;rw[Nat.pow_add] at h3 ⊢;exact h3.trans zJ
theorem GB {xs ys:List Nat} {m E:Nat} (hm:m=xs.length+ys.length) (hx:∀ x∈xs,x<b10k) (hy:∀ x∈ys,x<b10k) (hbig:m+2<=LIM) (hE:aH b10k xs*aH b10k ys<2^E):
   ∀ (j i:Nat) (ds:List Nat),j=xs.length-i->i<=xs.length->ds.length=m->(∀ x∈ds,x<b10k)->aH b10k ds=aH b10k (xs.take i)*aH b10k ys->(∀ t,i+ys.length<=t->ds.getD t 0=0)->
     GF 223 S w0 (.dig (aH b10k xs*aH b10k ys) E) JN ⟨slots 66 [(0,.list 1 (aM xs)),(1,.list 1 (aM ys)),(5,.own 0 1 0 m),(6,.i6 ((i:Nat):Int))],[some ⟨3,1,true,(aM ds),none⟩]⟩:=by
 intro j
 induction j with
 | zero=>
   intro i ds hj hi hd hdl hinv hz;have hi:i=xs.length:=by omega
   subst hi;rw[fQ (rl _)] at hinv;have e0:((aM ds).drop 0).take m=aM ds:=by rw[List.drop_zero,fQ (by rw[aI];omega)]
   refine rF lT [(19,ff)] (.a4 (iF (show ¬ ((xs.length:Int)<((aM xs).length:Int)) by rw[aI];omega)) (show 0+m<=(aM ds).length by rw[aI];omega) (show(((aM ds).drop 0).take m)=aM (bI (((aM ds).drop 0).take m)) by rw[e0,bR]) (show ∀ x∈bI (((aM ds).drop 0).take m),x<b10k by rw[e0,bR];exact hdl)) (V:=.dig (aH b10k (bI (((aM ds).drop 0).take m))) (14*(((aM ds).drop 0).take m).length)) ?_
   show Ref (.dig (aH b10k (bI (((aM ds).drop 0).take m))) _) _;rw[e0,bR,hinv];exact Ref.digB hE
 | succ j ih=>
   intro i ds hj hi hd hdl hinv hz;exact gN lT [0,1,4,5,6,7,8] [(19,tt)] (.a1 (iT (show(i:Int)<((aM xs).length:Int) by rw[aI];omega))) (GA hm (by omega) hx hy hbig (fun D e1 e2 e3 e4=>ih (i+1) D (by omega) (by omega) e1 e2 e3 e4) _ 0 0 ds rfl (by omega) (by decide) hd hdl (by simp[aH,hinv]) hz)
theorem PA:bQ 223 Pz:=fun args r ob h ho=>by
 unfold Pz at h
 split at h
 · rename_i n B m C
   cases h;have hL:B+C+128<=LIM:=ho _ (by simp);unfold LIM at hL;obtain⟨hx,hxn⟩:=aO (b:=b10k) (by decide) n;obtain⟨hy,hyn⟩:=aO (b:=b10k) (by decide) m;refine af Tryz.f223 fun S w0=> ?_
   refine Good.diglt (n:=n) (B:=B) 0 rfl fun hn=>Good.diglt (n:=m) (B:=C) 1 rfl fun hm=> ?_
   refine Good.weak 66 [(0,.list 1 (aM (aC b10k n))),(1,.list 1 (aM (aC b10k m)))] (by kernel_rfl) (.cons Ref.opnd (.cons Ref.opnd .nil)) ?_;have l1:=hx.len10 (by rw[hxn];exact hn);have l2:=hy.len10 (by rw[hyn];exact hm);generalize aC b10k n=xs at*;generalize aC b10k m=ys at*;subst hxn;subst hyn;refine cP (p:=(-9223372036854775808<=((aM xs).length:Int)+((aM ys).length:Int)/\((aM xs).length:Int)+((aM ys).length:Int)<=9223372036854775807)/\(8*(((aM xs).length+(aM ys).length:Nat):Int)<=281474976710656)/\((((aM xs).length+(aM ys).length:Nat):Int)<=(big:Int))) (by simp only[aI];unfold big;omega) fun⟨q0,q1,q2⟩=>gN lT [0,1,4,5,6] [(14,.i6 (((aM xs).length+(aM ys).length:Nat):Int))] (.a5 (wI ((((aM xs).length:Nat):Int)+((aM ys).length:Int)) (((aM xs).length+(aM ys).length:Nat):Int) q0) (rfl:(((aM xs).length+(aM ys).length:Nat):Int)=(((aM xs).length+(aM ys).length:Nat):Int)) (nn ((aM xs).length+(aM ys).length)) q1 q2) (t:=JN) (σ:=slots 66 [(0,.list 1 (aM xs)),(1,.list 1 (aM ys)),(4,.nil),(5,.own 0 1 0 ((aM xs).length+(aM ys).length)),(6,.i6 (0:Int))]) (h:=[some ⟨3,1,true,(List.replicate ((aM xs).length+(aM ys).length) [.i6 (0:Int)]),none⟩]) ?_
   rw[Dt];simp only[aI];refine Good.weak 66 [(0,_),(1,_),(5,_),(6,_)] (by kernel_rfl) (.r (.r (.r (.r .nil)))) ?_;exact GB rfl hx.1 hy.1 (by unfold LIM;omega) (vZ hn hm) xs.length 0 (List.replicate (xs.length+ys.length) 0) rfl (by omega) (by simp) (nS (by decide)) (by simp[aH,nT]) (fun t _=>Bs _ _)
 · cases h
end
def fB:=kn.cons MC
def PB:KF
 | [.dig n B,.dig m C]=>some (.dig (n-m) B,[m<=n,B<=LIM])
 | _=>none
section
variable {S:Nat->Prop} {w0:World}
noncomputable abbrev wQ:List Item:=[.code (aN [1,1,1,0,1,0,0] (aA Tryz.f293)),.inLoop (aN [1,1,1,0,1,0,0] (aA Tryz.f293)),.inBlock 0,.code (aN [1,1,1,1] (aA Tryz.f293))]
theorem JO {xs ys:List Nat} {N B:Nat} (hx:∀ x∈xs,x<b10k) (hy:∀ x∈ys,x<b10k) (hl:ys.length<=xs.length) (hbig:xs.length+2<=LIM)
   (hN:aH b10k xs=aH b10k ys+N) (hB:N<2^B):∀ (j i c:Nat) (ds:List Nat),j=xs.length-i->i<=xs.length->c<=1->ds.length=i->(∀ x∈ds,x<b10k)->
   aH b10k ds+aH b10k (ys.take i)=aH b10k (xs.take i)+b10k^i*c->
   GF 293 S w0 (.dig N B) wQ ⟨slots 41 [(0,.list 1 (aM xs)),(1,.list 1 (aM ys)),(5,Gl ds),(6,.i6 ((c:Nat):Int)),(7,.i6 ((i:Nat):Int))],Gm ds⟩:=by
 have fb:b10k=10000:=rfl;unfold LIM at hbig;intro j
 induction j with
 | zero=>
   intro i c ds hj hi hc hd hdl hinv;have hi:i=xs.length:=by omega
   subst hi;have hlt:aH b10k ds<b10k^xs.length:=by rw[<- hd];exact dI (by decide) hdl
   rw[fQ hl,fQ (rl _)] at hinv
   have hc0:c=0:=by
     rcases Nat.eq_zero_or_pos c with h | h
     · exact h
     · have:b10k^xs.length*1<=b10k^xs.length*c:=Nat.mul_le_mul_left _ h
       omega
   subst hc0;have hv:aH b10k ds=N:=by omega
   have v5:¬ ((xs.length:Int)<((aM xs).length:Int)):=by rw[aI];omega
   cases ds with
   | nil=>
     refine rF fB [(12,ff),(39,.list 1 (aM []))] (.a4 (iF v5) (show Ref AV.nil (.list 1 (aM [])) from Ref.nilL) (rfl:(aM [])=aM (bI (aM []))) (show ∀ x∈bI (aM []),x<b10k by simp[bI,aM])) (V:=.dig (aH b10k (bI (aM []))) (14*(aM []).length)) ?_
     exact Ref.dig_of hv (by simp[aM])
   | cons d ds=>
     have e0:((aM (d::ds)).drop 0).take (ds.length+1)=aM (d::ds):=by rw[List.drop_zero,fQ (by rw[aI];simp)]
     refine rF fB [(12,ff)] (.a4 (iF v5) (show 0+(ds.length+1)<=(aM (d::ds)).length by rw[aI];simp) (show(((aM (d::ds)).drop 0).take (ds.length+1))=aM (bI (((aM (d::ds)).drop 0).take (ds.length+1))) by rw[e0,bR]) (show ∀ x∈bI (((aM (d::ds)).drop 0).take (ds.length+1)),x<b10k by rw[e0,bR];exact hdl)) (V:=.dig (aH b10k (bI (((aM (d::ds)).drop 0).take (ds.length+1)))) (14*(((aM (d::ds)).drop 0).take (ds.length+1)).length)) ?_
     show Ref (.dig (aH b10k (bI (((aM (d::ds)).drop 0).take (ds.length+1)))) _) _;rw[e0,bR,hv];intro ρ S w D v h;have h':RelCs ρ S w D [.dig N _] [v]:=h;cases h' with
     | dig xs h1 h2 h3 h4=>exact aV (.dig xs h1 h2 hB h4)
 | succ j ih=>
   intro i c ds hj hi hc hd hdl hinv;have hx1:=aY (b:=b10k) (by decide) hx i;have hy1:=aY (b:=b10k) (by decide) hy i;rw[fb] at hx1 hy1
   have nx:∀ (v c' y:Nat),y=ys.getD i 0->v<10000->c'<=1->v+y+c=xs.getD i 0+b10k*c'->
       GF 293 S w0 (.dig N B) wQ ⟨slots 41 [(0,.list 1 (aM xs)),(1,.list 1 (aM ys)),(5,.own 0 1 0 (ds.length+1)),(6,.i6 ((c':Nat):Int)),(7,.i6 ((i+1:Nat):Int))],[some ⟨3,1,true,(aM (ds++ [v])),none⟩]⟩:=by
     intro v c' y hyy hv hc' he
     have:=ih (i+1) c' (ds++ [v]) (by omega) (by omega) hc' (by simp[hd]) (rD hdl hv) (by
       rw[iM,hd,aQ,aQ b10k xs,Nat.pow_succ, <- hyy]
       exact Bu he hinv)
     rw[zG,zI] at this;exact this
   have E:∀ (e:Int) (v:Nat),e=((v:Nat):Int)->(aM ds)++ [[(AV.int .i64 e)]]=aM (ds++ [v]):=fun e v h=>by rw[h];exact wE ds v
   have E0:ds= []->∀ (e:Int) (v:Nat),e=((v:Nat):Int)-> [[(AV.int .i64 e)]]=aM (ds++ [v]):=fun h0 e v h=>by rw[h,h0];rfl
   have v0:(i:Int)<((aM xs).length:Int):=by rw[aI];omega
   have v8:0<1:=by decide
   by_cases hyl:i<ys.length
   · have v2:(i:Int)<((aM ys).length:Int):=by rw[aI];omega
     by_cases hneg:xs.getD i 0<c+ys.getD i 0
     · have hN2:=nx (xs.getD i 0+10000-c-ys.getD i 0) 1 _ rfl (by omega) (by omega) (by rw[fb];omega)
       have v4:(((xs.getD i 0:Int)-(c:Int))-(ys.getD i 0:Int))<(0:Int):=by omega
       cases ds with
       | nil=>
         refine cP (p:=(i<xs.length)/\((i:Int)<((aM xs).length:Int))/\(-9223372036854775808<=(xs.getD i 0:Int)-(c:Int)/\(xs.getD i 0:Int)-(c:Int)<=9223372036854775807)/\(i<ys.length)/\((i:Int)<((aM ys).length:Int))/\(-9223372036854775808<=(((xs.getD i 0:Nat):Int)-(c:Int))-(ys.getD i 0:Int)/\(((xs.getD i 0:Nat):Int)-(c:Int))-(ys.getD i 0:Int)<=9223372036854775807)/\(-9223372036854775808<=(((xs.getD i 0:Int)-(c:Int))-(ys.getD i 0:Int))+(10000:Int)/\(((xs.getD i 0:Int)-(c:Int))-(ys.getD i 0:Int))+(10000:Int)<=9223372036854775807)/\(1*8<=140737488355328)/\(1<=big)/\(-9223372036854775808<=(i:Int)+(1:Int)/\(i:Int)+(1:Int)<=9223372036854775807)) (by simp only[aI];unfold big;omega) fun⟨q0,q1,q2,q3,q4,q5,q6,q7,q8,q9⟩=>gR fB none [0,1,4,5,6,7] [1] [(12,tt),(17,.cptr [.i6 (xs.getD i 0:Int)] 0),(20,.i6 (((xs.getD i 0:Nat):Int)-(c:Int))),(24,tt),(28,.cptr [.i6 (ys.getD i 0:Int)] 0),(30,.i6 (((xs.getD i 0:Int)-(c:Int))-(ys.getD i 0:Int))),(32,tt),(34,.i6 (((((xs.getD i 0:Nat):Int)-(c:Int))-(ys.getD i 0:Int))+(10000:Int))),(14,.i6 ((i+1:Nat):Int))] (.c6 (iT v0) (Ref.cd64 q0) (nn i) q1 (wI (((xs.getD i 0:Nat):Int)-(c:Int)) (((xs.getD i 0:Nat):Int)-(c:Int)) q2) (iT v2) (.c6 (Ref.cd64 q3) (nn i) q4 (wI (((xs.getD i 0:Int)-(c:Int))-(ys.getD i 0:Int)) (((xs.getD i 0:Int)-(c:Int))-(ys.getD i 0:Int)) q5) (iT v4) (wI (((((xs.getD i 0:Nat):Int)-(c:Int))-(ys.getD i 0:Int))+(10000:Int)) (((((xs.getD i 0:Nat):Int)-(c:Int))-(ys.getD i 0:Int))+(10000:Int)) q6) (.a5 r1 v8 q7 q8 (wI ((i:Int)+(1:Int)) ((i+1:Nat):Int) q9)))) (t:=wQ) (σ:=slots 41 [(0,.list 1 (aM xs)),(1,.list 1 (aM ys)),(5,.own 0 1 0 1),(6,.i6 (1:Int)),(7,.i6 ((i+1:Nat):Int))]) (h:=[some ⟨3,1,true,[[.i6 (((((xs.getD i 0:Nat):Int)-(c:Int))-(ys.getD i 0:Int))+(10000:Int))]],none⟩]) ?_
         rw[E0 rfl _ (xs.getD i 0+10000-c-ys.getD i 0) (by omega)];exact hN2
       | cons d ds=>
         refine cP (p:=(i<xs.length)/\((i:Int)<((aM xs).length:Int))/\(-9223372036854775808<=(xs.getD i 0:Int)-(c:Int)/\(xs.getD i 0:Int)-(c:Int)<=9223372036854775807)/\(i<ys.length)/\((i:Int)<((aM ys).length:Int))/\(-9223372036854775808<=(((xs.getD i 0:Nat):Int)-(c:Int))-(ys.getD i 0:Int)/\(((xs.getD i 0:Nat):Int)-(c:Int))-(ys.getD i 0:Int)<=9223372036854775807)/\(-9223372036854775808<=(((xs.getD i 0:Int)-(c:Int))-(ys.getD i 0:Int))+(10000:Int)/\(((xs.getD i 0:Int)-(c:Int))-(ys.getD i 0:Int))+(10000:Int)<=9223372036854775807)/\((ds.length+1)=(aM (d::ds)).length)/\(((ds.length+1)+1)*8<=140737488355328)/\((ds.length+1)+1<=big)/\(-9223372036854775808<=(i:Int)+(1:Int)/\(i:Int)+(1:Int)<=9223372036854775807)) (by simp only[aI,List.length_cons,true_and] at hd ⊢;unfold big;omega) fun⟨q0,q1,q2,q3,q4,q5,q6,q7,q8,q9,q10⟩=>gR fB none [0,1,4,5,6,7] [2] [(12,tt),(17,.cptr [.i6 (xs.getD i 0:Int)] 0),(20,.i6 (((xs.getD i 0:Nat):Int)-(c:Int))),(24,tt),(28,.cptr [.i6 (ys.getD i 0:Int)] 0),(30,.i6 (((xs.getD i 0:Int)-(c:Int))-(ys.getD i 0:Int))),(32,tt),(34,.i6 (((((xs.getD i 0:Nat):Int)-(c:Int))-(ys.getD i 0:Int))+(10000:Int))),(14,.i6 ((i+1:Nat):Int))] (.c6 (iT v0) (Ref.cd64 q0) (nn i) q1 (wI (((xs.getD i 0:Nat):Int)-(c:Int)) (((xs.getD i 0:Nat):Int)-(c:Int)) q2) (iT v2) (.c6 (Ref.cd64 q3) (nn i) q4 (wI (((xs.getD i 0:Int)-(c:Int))-(ys.getD i 0:Int)) (((xs.getD i 0:Int)-(c:Int))-(ys.getD i 0:Int)) q5) (iT v4) (wI (((((xs.getD i 0:Nat):Int)-(c:Int))-(ys.getD i 0:Int))+(10000:Int)) (((((xs.getD i 0:Nat):Int)-(c:Int))-(ys.getD i 0:Int))+(10000:Int)) q6) (.a5 r1 q7 q8 q9 (wI ((i:Int)+(1:Int)) ((i+1:Nat):Int) q10)))) (t:=wQ) (σ:=slots 41 [(0,.list 1 (aM xs)),(1,.list 1 (aM ys)),(5,.own 0 1 0 ((ds.length+1)+1)),(6,.i6 (1:Int)),(7,.i6 ((i+1:Nat):Int))]) (h:=[some ⟨3,1,true,((aM (d::ds))++ [[(AV.int .i64 (((((xs.getD i 0:Nat):Int)-(c:Int))-(ys.getD i 0:Int))+(10000:Int)))]]),none⟩]) ?_
         rw[E _ (xs.getD i 0+10000-c-ys.getD i 0) (by omega)];exact hN2
     · have hN2:=nx (xs.getD i 0-c-ys.getD i 0) 0 _ rfl (by omega) (by omega) (by rw[fb];omega)
       have v3:¬ (((((xs.getD i 0:Nat):Int)-(c:Int))-(ys.getD i 0:Int))<(0:Int)):=by omega
       cases ds with
       | nil=>
         refine cP (p:=(i<xs.length)/\((i:Int)<((aM xs).length:Int))/\(-9223372036854775808<=(xs.getD i 0:Int)-(c:Int)/\(xs.getD i 0:Int)-(c:Int)<=9223372036854775807)/\(i<ys.length)/\((i:Int)<((aM ys).length:Int))/\(-9223372036854775808<=(((xs.getD i 0:Nat):Int)-(c:Int))-(ys.getD i 0:Int)/\(((xs.getD i 0:Nat):Int)-(c:Int))-(ys.getD i 0:Int)<=9223372036854775807)/\(1*8<=140737488355328)/\(1<=big)/\(-9223372036854775808<=(i:Int)+(1:Int)/\(i:Int)+(1:Int)<=9223372036854775807)) (by simp only[aI];unfold big;omega) fun⟨q0,q1,q2,q3,q4,q5,q6,q7,q8⟩=>gR fB none [0,1,4,5,6,7] [1] [(12,tt),(17,.cptr [.i6 (xs.getD i 0:Int)] 0),(20,.i6 (((xs.getD i 0:Nat):Int)-(c:Int))),(24,tt),(28,.cptr [.i6 (ys.getD i 0:Int)] 0),(30,.i6 (((xs.getD i 0:Int)-(c:Int))-(ys.getD i 0:Int))),(32,ff),(14,.i6 ((i+1:Nat):Int))] (.c6 (iT v0) (Ref.cd64 q0) (nn i) q1 (wI (((xs.getD i 0:Nat):Int)-(c:Int)) (((xs.getD i 0:Nat):Int)-(c:Int)) q2) (iT v2) (.c6 (Ref.cd64 q3) (nn i) q4 (wI (((xs.getD i 0:Int)-(c:Int))-(ys.getD i 0:Int)) (((xs.getD i 0:Int)-(c:Int))-(ys.getD i 0:Int)) q5) (iF v3) r1 (.a4 v8 q6 q7 (wI ((i:Int)+(1:Int)) ((i+1:Nat):Int) q8)))) (t:=wQ) (σ:=slots 41 [(0,.list 1 (aM xs)),(1,.list 1 (aM ys)),(5,.own 0 1 0 1),(6,.i6 (0:Int)),(7,.i6 ((i+1:Nat):Int))]) (h:=[some ⟨3,1,true,[[.i6 (((xs.getD i 0:Int)-(c:Int))-(ys.getD i 0:Int))]],none⟩]) ?_
         rw[E0 rfl _ (xs.getD i 0-c-ys.getD i 0) (by omega)];exact hN2
       | cons d ds=>
         refine cP (p:=(i<xs.length)/\((i:Int)<((aM xs).length:Int))/\(-9223372036854775808<=(xs.getD i 0:Int)-(c:Int)/\(xs.getD i 0:Int)-(c:Int)<=9223372036854775807)/\(i<ys.length)/\((i:Int)<((aM ys).length:Int))/\(-9223372036854775808<=(((xs.getD i 0:Nat):Int)-(c:Int))-(ys.getD i 0:Int)/\(((xs.getD i 0:Nat):Int)-(c:Int))-(ys.getD i 0:Int)<=9223372036854775807)/\((ds.length+1)=(aM (d::ds)).length)/\(((ds.length+1)+1)*8<=140737488355328)/\((ds.length+1)+1<=big)/\(-9223372036854775808<=(i:Int)+(1:Int)/\(i:Int)+(1:Int)<=9223372036854775807)) (by simp only[aI,List.length_cons,true_and] at hd ⊢;unfold big;omega) fun⟨q0,q1,q2,q3,q4,q5,q6,q7,q8,q9⟩=>gR fB none [0,1,4,5,6,7] [2] [(12,tt),(17,.cptr [.i6 (xs.getD i 0:Int)] 0),(20,.i6 (((xs.getD i 0:Nat):Int)-(c:Int))),(24,tt),(28,.cptr [.i6 (ys.getD i 0:Int)] 0),(30,.i6 (((xs.getD i 0:Int)-(c:Int))-(ys.getD i 0:Int))),(32,ff),(14,.i6 ((i+1:Nat):Int))] (.c6 (iT v0) (Ref.cd64 q0) (nn i) q1 (wI (((xs.getD i 0:Nat):Int)-(c:Int)) (((xs.getD i 0:Nat):Int)-(c:Int)) q2) (iT v2) (.c6 (Ref.cd64 q3) (nn i) q4 (wI (((xs.getD i 0:Int)-(c:Int))-(ys.getD i 0:Int)) (((xs.getD i 0:Int)-(c:Int))-(ys.getD i 0:Int)) q5) (iF v3) r1 (.a4 q6 q7 q8 (wI ((i:Int)+(1:Int)) ((i+1:Nat):Int) q9)))) (t:=wQ) (σ:=slots 41 [(0,.list 1 (aM xs)),(1,.list 1 (aM ys)),(5,.own 0 1 0 ((ds.length+1)+1)),(6,.i6 (0:Int)),(7,.i6 ((i+1:Nat):Int))]) (h:=[some ⟨3,1,true,((aM (d::ds))++ [[(AV.int .i64 (((xs.getD i 0:Int)-(c:Int))-(ys.getD i 0:Int)))]]),none⟩]) ?_
         rw[E _ (xs.getD i 0-c-ys.getD i 0) (by omega)];exact hN2
   · have hz:0=ys.getD i 0:=by simp[mQ,Nat.le_of_not_lt hyl]
     have v1:¬ ((i:Int)<((aM ys).length:Int)):=by rw[aI];omega
     by_cases hneg:xs.getD i 0<c
     · have hN2:=nx (xs.getD i 0+10000-c) 1 0 hz (by omega) (by omega) (by rw[fb];omega)
       have v6:(((xs.getD i 0:Nat):Int)-(c:Int))<(0:Int):=by omega
       cases ds with
       | nil=>
         refine cP (p:=(i<xs.length)/\((i:Int)<((aM xs).length:Int))/\(-9223372036854775808<=(xs.getD i 0:Int)-(c:Int)/\(xs.getD i 0:Int)-(c:Int)<=9223372036854775807)/\(-9223372036854775808<=(((xs.getD i 0:Nat):Int)-(c:Int))+(10000:Int)/\(((xs.getD i 0:Nat):Int)-(c:Int))+(10000:Int)<=9223372036854775807)/\(1*8<=140737488355328)/\(1<=big)/\(-9223372036854775808<=(i:Int)+(1:Int)/\(i:Int)+(1:Int)<=9223372036854775807)) (by simp only[aI];unfold big;omega) fun⟨q0,q1,q2,q3,q4,q5,q6⟩=>gR fB none [0,1,4,5,6,7] [1] [(12,tt),(17,.cptr [.i6 (xs.getD i 0:Int)] 0),(20,.i6 (((xs.getD i 0:Nat):Int)-(c:Int))),(24,ff),(32,tt),(34,.i6 (((xs.getD i 0:Int)-(c:Int))+(10000:Int))),(14,.i6 ((i+1:Nat):Int))] (.c6 (iT v0) (Ref.cd64 q0) (nn i) q1 (wI (((xs.getD i 0:Nat):Int)-(c:Int)) (((xs.getD i 0:Nat):Int)-(c:Int)) q2) (iF v1) (.c6 (iT v6) (wI (((xs.getD i 0:Int)-(c:Int))+(10000:Int)) (((xs.getD i 0:Int)-(c:Int))+(10000:Int)) q3) r1 v8 q4 q5 (.a1 (wI ((i:Int)+(1:Int)) ((i+1:Nat):Int) q6)))) (t:=wQ) (σ:=slots 41 [(0,.list 1 (aM xs)),(1,.list 1 (aM ys)),(5,.own 0 1 0 1),(6,.i6 (1:Int)),(7,.i6 ((i+1:Nat):Int))]) (h:=[some ⟨3,1,true,[[.i6 (((xs.getD i 0:Int)-(c:Int))+(10000:Int))]],none⟩]) ?_
         rw[E0 rfl _ (xs.getD i 0+10000-c) (by omega)];exact hN2
       | cons d ds=>
         refine cP (p:=(i<xs.length)/\((i:Int)<((aM xs).length:Int))/\(-9223372036854775808<=(xs.getD i 0:Int)-(c:Int)/\(xs.getD i 0:Int)-(c:Int)<=9223372036854775807)/\(-9223372036854775808<=(((xs.getD i 0:Nat):Int)-(c:Int))+(10000:Int)/\(((xs.getD i 0:Nat):Int)-(c:Int))+(10000:Int)<=9223372036854775807)/\((ds.length+1)=(aM (d::ds)).length)/\(((ds.length+1)+1)*8<=140737488355328)/\((ds.length+1)+1<=big)/\(-9223372036854775808<=(i:Int)+(1:Int)/\(i:Int)+(1:Int)<=9223372036854775807)) (by simp only[aI,List.length_cons,true_and] at hd ⊢;unfold big;omega) fun⟨q0,q1,q2,q3,q4,q5,q6,q7⟩=>gR fB none [0,1,4,5,6,7] [2] [(12,tt),(17,.cptr [.i6 (xs.getD i 0:Int)] 0),(20,.i6 (((xs.getD i 0:Nat):Int)-(c:Int))),(24,ff),(32,tt),(34,.i6 (((xs.getD i 0:Int)-(c:Int))+(10000:Int))),(14,.i6 ((i+1:Nat):Int))] (.c6 (iT v0) (Ref.cd64 q0) (nn i) q1 (wI (((xs.getD i 0:Nat):Int)-(c:Int)) (((xs.getD i 0:Nat):Int)-(c:Int)) q2) (iF v1) (.c6 (iT v6) (wI (((xs.getD i 0:Int)-(c:Int))+(10000:Int)) (((xs.getD i 0:Int)-(c:Int))+(10000:Int)) q3) r1 q4 q5 q6 (.a1 (wI ((i:Int)+(1:Int)) ((i+1:Nat):Int) q7)))) (t:=wQ) (σ:=slots 41 [(0,.list 1 (aM xs)),(1,.list 1 (aM ys)),(5,.own 0 1 0 ((ds.length+1)+1)),(6,.i6 (1:Int)),(7,.i6 ((i+1:Nat):Int))]) (h:=[some ⟨3,1,true,((aM (d::ds))++ [[(AV.int .i64 (((xs.getD i 0:Int)-(c:Int))+(10000:Int)))]]),none⟩]) ?_
         rw[E _ (xs.getD i 0+10000-c) (by omega)];exact hN2
     · have hN2:=nx (xs.getD i 0-c) 0 0 hz (by omega) (by omega) (by rw[fb];omega)
       have v7:¬ (((xs.getD i 0:Int)-(c:Int))<(0:Int)):=by omega
       cases ds with
       | nil=>
         refine cP (p:=(i<xs.length)/\((i:Int)<((aM xs).length:Int))/\(-9223372036854775808<=(xs.getD i 0:Int)-(c:Int)/\(xs.getD i 0:Int)-(c:Int)<=9223372036854775807)/\(1*8<=140737488355328)/\(1<=big)/\(-9223372036854775808<=(i:Int)+(1:Int)/\(i:Int)+(1:Int)<=9223372036854775807)) (by simp only[aI];unfold big;omega) fun⟨q0,q1,q2,q3,q4,q5⟩=>gR fB none [0,1,4,5,6,7] [1] [(12,tt),(17,.cptr [.i6 (xs.getD i 0:Int)] 0),(20,.i6 (((xs.getD i 0:Nat):Int)-(c:Int))),(24,ff),(32,ff),(14,.i6 ((i+1:Nat):Int))] (.c6 (iT v0) (Ref.cd64 q0) (nn i) q1 (wI (((xs.getD i 0:Nat):Int)-(c:Int)) (((xs.getD i 0:Nat):Int)-(c:Int)) q2) (iF v1) (.a6 (iF v7) r1 v8 q3 q4 (wI ((i:Int)+(1:Int)) ((i+1:Nat):Int) q5))) (t:=wQ) (σ:=slots 41 [(0,.list 1 (aM xs)),(1,.list 1 (aM ys)),(5,.own 0 1 0 1),(6,.i6 (0:Int)),(7,.i6 ((i+1:Nat):Int))]) (h:=[some ⟨3,1,true,[[.i6 (((xs.getD i 0:Nat):Int)-(c:Int))]],none⟩]) ?_
         rw[E0 rfl _ (xs.getD i 0-c) (by omega)];exact hN2
       | cons d ds=>
         refine cP (p:=(i<xs.length)/\((i:Int)<((aM xs).length:Int))/\(-9223372036854775808<=(xs.getD i 0:Int)-(c:Int)/\(xs.getD i 0:Int)-(c:Int)<=9223372036854775807)/\((ds.length+1)=(aM (d::ds)).length)/\(((ds.length+1)+1)*8<=140737488355328)/\((ds.length+1)+1<=big)/\(-9223372036854775808<=(i:Int)+(1:Int)/\(i:Int)+(1:Int)<=9223372036854775807)) (by simp only[aI,List.length_cons,true_and] at hd ⊢;unfold big;omega) fun⟨q0,q1,q2,q3,q4,q5,q6⟩=>gR fB none [0,1,4,5,6,7] [2] [(12,tt),(17,.cptr [.i6 (xs.getD i 0:Int)] 0),(20,.i6 (((xs.getD i 0:Nat):Int)-(c:Int))),(24,ff),(32,ff),(14,.i6 ((i+1:Nat):Int))] (.c6 (iT v0) (Ref.cd64 q0) (nn i) q1 (wI (((xs.getD i 0:Nat):Int)-(c:Int)) (((xs.getD i 0:Nat):Int)-(c:Int)) q2) (iF v1) (.a6 (iF v7) r1 q3 q4 q5 (wI ((i:Int)+(1:Int)) ((i+1:Nat):Int) q6))) (t:=wQ) (σ:=slots 41 [(0,.list 1 (aM xs)),(1,.list 1 (aM ys)),(5,.own 0 1 0 ((ds.length+1)+1)),(6,.i6 (0:Int)),(7,.i6 ((i+1:Nat):Int))]) (h:=[some ⟨3,1,true,((aM (d::ds))++ [[(AV.int .i64 (((xs.getD i 0:Nat):Int)-(c:Int)))]]),none⟩]) ?_
         rw[E _ (xs.getD i 0-c) (by omega)];exact hN2
theorem PC:bQ 293 PB:=fun args r ob h ho=>by
 unfold PB at h
 split at h
 · rename_i n B m C
   cases h;have hmn:m<=n:=ho _ (by simp);have hL:B<=LIM:=ho _ (by simp);unfold LIM at hL;obtain⟨hx,hxn⟩:=aO (b:=b10k) (by decide) n;obtain⟨hy,hyn⟩:=aO (b:=b10k) (by decide) m;refine af Tryz.f293 fun S w0=> ?_
   refine Good.fact (V:=.dig n B) (p:=n<2^B) 0 rfl rfl (fun ρ S w D v hv=>qX (show RelCs ρ S w D [.dig n B] [v] from hv)) fun hn=> ?_
   refine Good.weak 41 [(0,.list 1 (aM (aC b10k n))),(1,.list 1 (aM (aC b10k m)))] (by kernel_rfl) (.cons Ref.opnd (.cons Ref.opnd .nil)) ?_;have l1:=hx.len10 (by rw[hxn];exact hn);generalize aC b10k n=xs at*;generalize aC b10k m=ys at*;subst hxn;subst hyn
   have hlen:ys.length<=xs.length:=by
     rcases Nat.lt_or_ge xs.length ys.length with h | h
     · have:=dU (by decide) hx hy h;omega
     · exact h
   refine gN fB [0,1,4,5,6,7] [] .nil (t:=wQ) (σ:=slots 41 [(0,.list 1 (aM xs)),(1,.list 1 (aM ys)),(4,.nil),(5,.nil),(6,.i6 (0:Int)),(7,.i6 (0:Int))]) (h:=[]) ?_
   refine Good.weak 41 [(0,_),(1,_),(5,_),(6,_),(7,_)] (by kernel_rfl) (.r (.r (.r (.r (.r .nil))))) ?_;exact JO hx.1 hy.1 hlen (by unfold LIM;omega) (by omega) (by omega) _ 0 0 [] rfl (by omega) (by omega) rfl (by simp) (by simp[aH])
 · cases h
end
def wR:=kn
def PD:KF
 | [.list 1 X,.int .i64 f]=>some (.int .i64 ((aH b10k ((bI X).drop f.toNat):Nat):Int),[0<=f,X=aM (bI X),∀ x∈bI X,x<b10k,f.toNat<=(bI X).length,(bI X).length<=f.toNat+4])
 | _=>none
section
variable {S:Nat->Prop} {w0:World}
noncomputable abbrev MD:List Item:=[.code (aN [1,1,0,1,0,0] (aA Tryz.f297)),.inLoop (aN [1,1,0,1,0,0] (aA Tryz.f297)),.inBlock 0,.code (aN [1,1,1] (aA Tryz.f297))]
theorem JP {xs:List Nat} {f:Nat} (hx:∀ x∈xs,x<b10k) (hf:f<=xs.length) (hl:xs.length<=f+4) (hb:xs.length<=big):∀ (j k v:Nat),k=f+j->k<=xs.length->v=aH b10k (xs.drop k)->
   GF 297 S w0 (.i6 ((aH b10k (xs.drop f):Nat):Int)) MD ⟨slots 23 [(0,.list 1 (aM xs)),(1,.i6 ((f:Nat):Int)),(5,.i6 ((v:Nat):Int)),(6,(.i6 (((k:Nat):Int)-1)))],[]⟩:=by
 unfold big at hb;intro j
 induction j with
 | zero=>
   intro k v hj hk hv;have hk:k=f:=by omega
   subst hk;refine rF wR [(12,ff)] (.a1 (iF (om (¬ ((k:Int)<=((k:Int)-1)))))) (V:=.i6 (v:Int)) (Ref.nat_eq hv)
 | succ j ih=>
   intro k v hj hk hv;obtain⟨i,rfl⟩:∃ i,k=i+1:=⟨k-1,by omega⟩;rw[show(((i+1:Nat):Int)-1)=((i:Nat):Int) by omega];have hx1:=aY (b:=b10k) (by decide) hx i
   have hv3:v<1000000000000:=by
     have h1:=dI (b:=b10k) (by decide) (xs:=xs.drop (i+1)) (fun x h=>hx x (List.mem_of_mem_drop h));have h2:b10k^(xs.drop (i+1)).length<=b10k^3:=Nat.pow_le_pow_right (by decide) (by rw[List.length_drop];omega);have h3:b10k^3=1000000000000:=by decide
     omega
   unfold b10k at hx1;refine gN wR [0,1,4,5,6] [(12,tt),(16,.i6 ((v*10000:Nat):Int)),(19,.cptr [.i6 (xs.getD i 0:Int)] 0),(21,.i6 ((xs.getD i 0+10000*v:Nat):Int)),(14,.i6 ((i:Int)-(1:Int)))] (.c6 (iT (om ((f:Int)<=(i:Int)))) (wI ((v:Int)*(10000:Int)) ((v*10000:Nat):Int)) (show Ref (.cptr ((aM xs).getD i []) 0) (.cptr [.i6 (xs.getD i 0:Int)] 0) from Ref.cd64 ((om (i<xs.length)))) (nn i) (show(i:Int)<((aM xs).length:Int) by rw[aI];omega) (show Ref (.i6 (IntKind.i64.wrap (((v*10000:Nat):Int)+(xs.getD i 0:Int)))) (.i6 ((xs.getD i 0+10000*v:Nat):Int)) from Ref.wrI (by omega) (by omega)) (.a1 (wI ((i:Int)-(1:Int)) ((i:Int)-(1:Int))))) (t:=MD) (σ:=slots 23 [(0,.list 1 (aM xs)),(1,.i6 (f:Int)),(5,.i6 ((xs.getD i 0+10000*v:Nat):Int)),(6,.i6 ((i:Int)-(1:Int)))]) (h:=[]) ?_
   refine ih i _ (by omega) (by omega) ?_;rw[cC (by omega:i<xs.length),hv];rfl
theorem Te:bQ 297 PD:=fun args r ob h ho=>by
 unfold PD at h
 split at h
 · rename_i X f
   cases h;have h0:0<=f:=ho _ (by simp);have h1:X=aM (bI X):=ho _ (by simp);have h2:∀ x∈bI X,x<b10k:=ho _ (by simp);have h3:f.toNat<=(bI X).length:=ho _ (by simp);have h4:(bI X).length<=f.toNat+4:=ho _ (by simp);obtain⟨f,rfl⟩:=Int.eq_ofNat_of_zero_le h0;replace h3:f<=(bI X).length:=h3;replace h4:(bI X).length<=f+4:=h4;generalize bI X=xs at*;subst h1;refine af Tryz.f297 fun S w0=> ?_
   show Good _ _ _ _ _ (eD S w0 (.i6 ((aH b10k (xs.drop f):Nat):Int))) _ _;have e:kC [AV.list 1 (aM xs),.i6 ((f:Nat):Int)] Tryz.f297.ntmps=⟨slots 23 [(0,.list 1 (aM xs)),(1,.i6 ((f:Nat):Int))],[]⟩:=by kernel_rfl
   rw[e];refine Good.len 0 (e:=1) (xs:=aM xs) (by rfl) fun hb=> ?_
   rw[aI] at hb;refine gN wR [0,1,4,5,6] [(9,.i6 ((((aM xs).length:Nat):Int)-(1:Int)))] (.a1 (wI ((((aM xs).length:Nat):Int)-(1:Int)) ((((aM xs).length:Nat):Int)-(1:Int)) (by rw[aI];unfold big at hb;omega))) (t:=MD) (σ:=slots 23 [(0,.list 1 (aM xs)),(1,.i6 (f:Int)),(4,.i6 (0:Int)),(5,.i6 (0:Int)),(6,(.i6 ((((aM xs).length:Nat):Int)-(1:Int))))]) (h:=[]) ?_
   refine Good.weak 23 [(0,_),(1,_),(5,_),(6,_)] (by kernel_rfl) (.r (.r (.r (.r .nil)))) ?_;rw[aI];exact JP h2 h3 h4 hb (xs.length-f) xs.length 0 (by omega) (by omega) (by rw[List.drop_length];rfl)
 · cases h
end
def kK:=(((((kn.cons Te).cons PC).cons MC).cons PA).cons Pu).cons EQ
def PE:KF
 | [.dig n B,.dig m C]=>some (.tup [.dig (n/m) B,.dig (n % m) C],[0<m,B+C+300<=LIM])
 | _=>none
theorem CJ (x:Nat) (rs:List Nat):(([[(AV.int .i64 ((x:Nat):Int))]]++(aM rs)).drop 0).take (1+((aM rs).length))=aM (x::rs):=by
 rw[List.drop_zero,fQ (by simp;omega)];rfl
theorem ER {t m A Bv P K:Nat} (hA:A*P<=t) (hm:m<(Bv+1)*P) (hK:K=A/(Bv+1)):m*K<=t:=by
 have h1:K*(Bv+1)<=A:=by rw[hK];exact Nat.div_mul_le_self _ _
 have h2:=Nat.mul_le_mul_right P h1;have h3:m*K<=(Bv+1)*P*K:=Nat.mul_le_mul_right K (Nat.le_of_lt hm);have e:(Bv+1)*P*K=K*(Bv+1)*P:=by rw[Nat.mul_comm _ K,Nat.mul_assoc]
 omega
section
variable {S:Nat->Prop} {w0:World}
noncomputable abbrev JQ:List Item:=[.code (aN [1,1,1,0,1,0,0] (aA Tryz.f260)),.inLoop (aN [1,1,1,0,1,0,0] (aA Tryz.f260)),.inBlock 0,.code (aN [1,1,1,1] (aA Tryz.f260))]
noncomputable abbrev BD:List Item:=[.code (aN [1,1,1,0,1,0,0,1,0,0,1,1,1,1,0,0,0] (aA Tryz.f260)),.inLoop (aN [1,1,1,0,1,0,0,1,0,0,1,1,1,1,0,0,0] (aA Tryz.f260)),.inBlock 2,.code (aN [1,1,1,0,1,0,0,1,0,0,1,1,1,1,1] (aA Tryz.f260)),.inBlock 1,.code (aN [1,1,1,0,1,0,0,1,1] (aA Tryz.f260)),.inLoop (aN [1,1,1,0,1,0,0] (aA Tryz.f260)),.inBlock 0,.code (aN [1,1,1,1] (aA Tryz.f260))]
variable {Post:Value->World->Prop}
theorem GC {xs ys qs:List Nat} {t m C F l j:Nat} (hy:Dig b10k ys) (hym:aH b10k ys=m) (hm:m<2^C) (hm0:0<m) (ht:t<10000*m) (hF:F<=LIM) (hl:l=qs.length) (hj:j<l) (hlL:l<=LIM)
   (next:Good Tryz.prog 260 S No w0 Post JQ ⟨slots 76 [(0,.list 1 (aM xs)),(1,.list 1 (aM ys)),(6,.dig (t % m) C),(7,.own 0 1 0 l),(8,(.i6 (((j:Nat):Int)-(1:Int))))],[some ⟨3,1,true,(aM (qs.set j (t/m))),none⟩]⟩):
   ∀ (f r k:Nat),r<=f->t=k*m+r->
   Good Tryz.prog 260 S No w0 Post BD ⟨slots 76 [(0,.list 1 (aM xs)),(1,.list 1 (aM ys)),(6,.dig r F),(7,.own 0 1 0 l),(8,.i6 ((j:Nat):Int)),(9,.i6 ((k:Nat):Int))],[some ⟨3,1,true,(aM qs),none⟩]⟩:=by
 unfold LIM at hlL;have v0:Ref (.list 1 (aM ys)) (.dig m C):=Ref.dig hy hym hm
 have last:∀ r k,r<m->t=k*m+r->Good Tryz.prog 260 S No w0 Post BD ⟨slots 76 [(0,.list 1 (aM xs)),(1,.list 1 (aM ys)),(6,.dig r F),(7,.own 0 1 0 l),(8,.i6 ((j:Nat):Int)),(9,.i6 ((k:Nat):Int))],[some ⟨3,1,true,(aM qs),none⟩]⟩:=by
   intro r k hr he;obtain⟨q1,q2⟩:=pF he hr;refine gR kK none [0,1,4,5,6,7,8,9] [0] [(61,.dig m C),(63,ff),(19,.i6 ((j:Int)-(1:Int)))] (.a6 v0 (show Ref (.bool (decide ((0:Int)<=(gY r m)))) (.bool false) from Ref.bool (decide_eq_false (fun h=>by have:=bM.1 h;omega))) (nn j) (om ((j:Int)<(l:Int))) (show 0+j<(aM qs).length by rw[aI];omega) (wI ((j:Int)-(1:Int)) ((j:Int)-(1:Int)))) (t:=JQ) (σ:=slots 76 [(0,.list 1 (aM xs)),(1,.list 1 (aM ys)),(6,.dig r F),(7,.own 0 1 0 l),(8,.i6 ((j:Int)-(1:Int))),(9,.i6 (k:Int))]) (h:=[some ⟨3,1,true,((aM qs).set (0+j) [.i6 (k:Int)]),none⟩]) ?_
   rw[Aj,Nat.zero_add, <- q1];refine Good.weak 76 [(0,_),(1,_),(6,.dig (t % m) C),(7,_),(8,_)] (by kernel_rfl) (.r (.r (.cons ?_ (.r (.r .nil))))) next;rw[q2];exact Ref.digB (by omega)
 intro f
 induction f with
 | zero=>
   intro r k hf he;exact last r k (by omega) he
 | succ f ih=>
   intro r k hf he
   by_cases h:r<m
   · exact last r k h he
   · have hk:k<10000:=by
       rcases Nat.lt_or_ge k 10000 with h | h
       · exact h
       · have:=Nat.mul_le_mul_right m h;omega
     exact gR kK none [0,1,4,5,6,7,8,9] [0] [(61,.dig m C),(63,tt),(65,.dig m C),(68,.i6 ((k+1:Nat):Int))] (.a6 v0 (show Ref (.bool (decide ((0:Int)<=(gY r m)))) (.bool true) from Ref.bool (decide_eq_true (bM.2 (by omega)))) v0 (om (m<=r)) hF (wI ((k:Int)+(1:Int)) ((k+1:Nat):Int))) (ih (r-m) (k+1) (by omega) (by rw[Nat.add_mul,Nat.one_mul];omega))
theorem JR {xs ys:List Nat} {m B C:Nat} (hx:∀ x∈xs,x<b10k) (hy:Dig b10k ys) (hym:aH b10k ys=m) (hm:m<2^C) (hm0:0<m) (hL:B+C+300<=LIM) (hxl:13*xs.length<=B+12) (hn:aH b10k xs<2^B):
   ∀ (k r:Nat) (qs:List Nat),k<=xs.length->r<m->qs.length=xs.length->(∀ x∈qs,x<b10k)->aH b10k (xs.drop k)=aH b10k (qs.drop k)*m+r->
   GF 260 S w0 (.tup [.dig (aH b10k xs/m) B,.dig (aH b10k xs % m) C]) JQ ⟨slots 76 [(0,.list 1 (aM xs)),(1,.list 1 (aM ys)),(6,.dig r C),(7,.own 0 1 0 xs.length),(8,(.i6 (((k:Nat):Int)-(1:Int))))],[some ⟨3,1,true,(aM qs),none⟩]⟩:=by
 have fb:b10k=10000:=rfl;have hyl:=hy.len10 (B:=C) (by rw[hym];exact hm);unfold LIM at hL;intro k
 induction k with
 | zero=>
   intro r qs hk hr hql hqd hinv;rw[show(((0:Nat):Int)-(1:Int))= -1 from rfl];simp only[List.drop_zero] at hinv;obtain⟨q1,q2⟩:=pF hinv hr;have e0:((aM qs).drop 0).take xs.length=aM qs:=by rw[List.drop_zero,fQ (by rw[aI];omega)]
   refine rF kK [] (.a3 (show 0+xs.length<=(aM qs).length by rw[aI];omega) (show(((aM qs).drop 0).take xs.length)=aM (bI (((aM qs).drop 0).take xs.length)) by rw[e0,bR]) (show ∀ x∈bI (((aM qs).drop 0).take xs.length),x<b10k by rw[e0,bR];exact hqd)) (V:=.tup [.dig (aH b10k (bI (((aM qs).drop 0).take xs.length))) (14*(((aM qs).drop 0).take xs.length).length),AV.dig r C]) ?_
   rw[e0,bR,q1,q2];refine Ref.tup2 (Ref.digB ?_) rr rfl rfl rfl rfl
   have:=Nat.div_le_self (aH b10k xs) m;omega
 | succ j ih=>
   intro r qs hk hr hql hqd hinv;rw[show(((j+1:Nat):Int)-(1:Int))=((j:Nat):Int) by omega];have hx1:=aY (b:=b10k) (by decide) hx j;obtain⟨hrd,hrv⟩:=aO (b:=b10k) (by decide) r;have hrl:=hrd.len10 (B:=C) (by rw[hrv];omega);obtain⟨t,ht⟩:∃ t,t=xs.getD j 0+10000*r:=⟨_,rfl⟩;have htm:t<10000*m:=by rw[fb] at hx1;omega
   have hval:aH b10k (xs.getD j 0::aC b10k r)=t:=by rw[aH,hrv,ht,fb]
   have hxr:∀ x∈xs.getD j 0::aC b10k r,x<b10k:=by
     intro x hx';rcases List.mem_cons.1 hx' with rfl | h
     · exact hx1
     · exact hrd.1 x h
   obtain⟨htd,htv⟩:=aO (b:=b10k) (by decide) t;have hmlen:m<b10k^ys.length:=by rw[<- hym];exact dI (by decide) hy.1
   have htl:(aC b10k t).length<=ys.length+1:=fV (by decide) (by rw[Nat.pow_succ,Nat.mul_comm];exact Nat.lt_of_lt_of_le htm (Nat.mul_le_mul_left 10000 (Nat.le_of_lt hmlen)))
   have htF:t<2^(C+14):=by
     rw[Nat.pow_add,Nat.mul_comm];have:10000*m<=2^14*2^C:=Nat.mul_le_mul (by decide) (Nat.le_of_lt hm);omega
   have hys:Ref (AV.list 1 (aM ys)) (AV.dig m C):=Ref.dig hy hym hm;have hts:Ref (AV.list 1 (aM (aC b10k t))) (AV.dig t (C+14)):=Ref.dig htd htv htF
   have hfin:=GC (S:=S) (w0:=w0) (Post:=eD S w0 (.tup [.dig (aH b10k xs/m) B,.dig (aH b10k xs % m) C])) (xs:=xs) (qs:=qs) (F:=C+14) (l:=xs.length) (j:=j) hy hym hm hm0 htm (by unfold LIM;omega) hql.symm (by omega) (by unfold LIM;omega)
     (ih (t % m) _ (by omega) (Nat.mod_lt _ hm0) (by simp[hql]) (eW hqd (by rw[fb];rw[Nat.div_lt_iff_lt_mul hm0];exact htm)) (by
       rw[cC (by omega:j<xs.length),cC (by simp;omega:j<(qs.set j (t/m)).length),cZ (by omega),nU (by omega)];refine wL hinv ?_
       rw[Nat.div_add_mod,ht,fb];omega))
   have c4:((1+((aM (aC b10k r)).length))*8<=140737488355328):=by rw[aI];omega
   have c5:(1+((aM (aC b10k r)).length)<=big):=by rw[aI];unfold big;omega
   have c6:Ref (AV.dig (aH b10k (bI ((([[(AV.int .i64 ((xs.getD j 0:Nat):Int))]]++(aM (aC b10k r))).drop 0).take (1+((aM (aC b10k r)).length))))) (14*((([[(AV.int .i64 ((xs.getD j 0:Nat):Int))]]++(aM (aC b10k r))).drop 0).take (1+((aM (aC b10k r)).length))).length)) (AV.list 1 (aM (aC b10k t))):=by rw[CJ,bR,hval];exact Ref.opnd
   have c7:(0+(1+((aM (aC b10k r)).length))<=([[(AV.int .i64 ((xs.getD j 0:Nat):Int))]]++(aM (aC b10k r))).length):=by simp only[List.length_append,List.length_singleton,Nat.zero_add];omega
   have c8:(((([[(AV.int .i64 ((xs.getD j 0:Nat):Int))]]++(aM (aC b10k r))).drop 0).take (1+((aM (aC b10k r)).length)))=aM (bI ((([[(AV.int .i64 ((xs.getD j 0:Nat):Int))]]++(aM (aC b10k r))).drop 0).take (1+((aM (aC b10k r)).length))))):=by rw[CJ,bR]
   have c9:(∀ x∈bI ((([[(AV.int .i64 ((xs.getD j 0:Nat):Int))]]++(aM (aC b10k r))).drop 0).take (1+((aM (aC b10k r)).length))),x<b10k):=by rw[CJ,bR];exact hxr
   have d1:aM (aC b10k t)=aM (bI (aM (aC b10k t))):=by rw[bR]
   have d2:∀ x∈bI (aM (aC b10k t)),x<b10k:=by rw[bR];exact htd.1
   have d3:aM ys=aM (bI (aM ys)):=by rw[bR]
   have d4:∀ x∈bI (aM ys),x<b10k:=by rw[bR];exact hy.1
   have v0:Ref (.cptr ((aM xs).getD j []) 0) (.cptr [.i6 (xs.getD j 0:Int)] 0):=Ref.cd64 ((om (j<xs.length)));have v2:(j:Int)<((aM xs).length:Int):=by rw[aI];omega
   have v3:Ref (.dig r C) (.list 1 (aM (aC b10k r))):=Ref.opnd;have v4:C+64+128<=LIM:=by unfold LIM;omega
   have v6:(C+14)<=LIM:=by unfold LIM;omega
   have v7:(0:Int)<=(j:Int):=by omega
   by_cases h3:ys.length<=3
   · have hA:aH b10k ((bI (aM (aC b10k t))).drop 0)=t:=by rw[bR,List.drop_zero,htv]
     have hBv:aH b10k ((bI (aM ys)).drop 0)=m:=by rw[bR,List.drop_zero,hym]
     have ht16:t<10000000000000000:=by
       have h1:=iR (b:=b10k) (n:=t) (by decide);have h2:b10k^(aC b10k t).length<=b10k^4:=Nat.pow_le_pow_right (by decide) (by omega);have h4:b10k^4=10000000000000000:=by decide
       omega
     have hK:t/m<=t:=Nat.div_le_self _ _;refine gR kK none [0,1,4,5,6,7,8,9] [0] [(17,tt),(22,.cptr [.i6 (xs.getD j 0:Int)] 0),(25,.list 1 (aM (aC b10k r))),(27,.list 1 (aM (aC b10k t))),(30,tt),(35,.i6 (((aH b10k ((bI (aM (aC b10k t))).drop 0))/(aH b10k ((bI (aM ys)).drop 0)):Nat):Int)),(53,.dig t (C+14)),(54,.dig m C)] (.c6 (iT v7) v0 (nn j) v2 v3 r1 (.c6 c4 c5 c6 c7 c8 c9 (.c6 (iT (show((aM ys).length:Int)<=(3:Int) by rw[aI];omega)) (dc (0<=(0:Int))) d1 d2 (show 0<=(bI (aM (aC b10k t))).length from Nat.zero_le _) (show(bI (aM (aC b10k t))).length<=0+4 by rw[bR];omega) (.c6 (dc (0<=(0:Int))) d3 d4 (show 0<=(bI (aM ys)).length from Nat.zero_le _) (show(bI (aM ys)).length<=0+4 by rw[bR];omega) (show Ref (.i6 (IntKind.i64.wrap (((aH b10k ((bI (aM (aC b10k t))).drop 0):Nat):Int).tdiv (aH b10k ((bI (aM ys)).drop 0):Int)))) (.i6 (((aH b10k ((bI (aM (aC b10k t))).drop 0))/(aH b10k ((bI (aM ys)).drop 0)):Nat):Int)) from Ref.quo (a:=aH b10k ((bI (aM (aC b10k t))).drop 0)) (b:=aH b10k ((bI (aM ys)).drop 0)) rfl rfl (by decide) ((show(aH b10k ((bI (aM (aC b10k t))).drop 0):Int)<=9223372036854775807 by rw[hA];omega))) (.c6 (show(aH b10k ((bI (aM ys)).drop 0):Int)≠0 by rw[hBv];omega) hts hys (show(-9223372036854775808:Int)<=(((aH b10k ((bI (aM (aC b10k t))).drop 0))/(aH b10k ((bI (aM ys)).drop 0)):Nat):Int) from ?_) (show(((aH b10k ((bI (aM (aC b10k t))).drop 0))/(aH b10k ((bI (aM ys)).drop 0)):Nat):Int)<=(9223372036854775807:Int) from ?_) v4 (.a2 (show(m*((aH b10k ((bI (aM (aC b10k t))).drop 0))/(aH b10k ((bI (aM ys)).drop 0))))<=t by rw[hA,hBv];exact Nat.mul_div_le t m) v6)))))) (t:=BD) (σ:=slots 76 [(0,.list 1 (aM xs)),(1,.list 1 (aM ys)),(6,(.dig (t-(m*((aH b10k ((bI (aM (aC b10k t))).drop 0))/(aH b10k ((bI (aM ys)).drop 0))))) (C+14))),(7,.own 0 1 0 xs.length),(8,.i6 (j:Int)),(9,(.i6 (((aH b10k ((bI (aM (aC b10k t))).drop 0))/(aH b10k ((bI (aM ys)).drop 0)):Nat):Int)))]) (h:=[some ⟨3,1,true,(aM qs),none⟩]) ?_
     · exact Int.le_trans (by decide) (Int.natCast_nonneg _)
     · rw[hA,hBv];exact Int.le_trans (Int.ofNat_le.2 hK) (by omega)
     · rw[hA,hBv]
       exact hfin _ _ _ (rl _) (by have:=Nat.mul_div_le t m;rw[Nat.mul_comm];omega)
   · have v5:¬ ((((aM ys).length:Nat):Int)<=(3:Int)):=by rw[aI];omega
     by_cases h4:ys.length<=(aC b10k t).length
     · obtain⟨w,hw⟩:∃ w,ys.length=w+3:=⟨ys.length-3,by omega⟩
       obtain⟨A,hA⟩:∃ A,aH b10k ((bI (aM (aC b10k t))).drop w)=A:=⟨_,rfl⟩;obtain⟨Bv,hBv⟩:∃ Bv,aH b10k ((bI (aM ys)).drop w)=Bv:=⟨_,rfl⟩;have hA':=hA;have hBv':=hBv;rw[bR] at hA' hBv';have s1:=cR b10k w (aC b10k t);have s2:=cR b10k w ys;rw[hA',htv] at s1;rw[hBv',hym] at s2;have s3:=dA (b:=b10k) (by decide) hy.1 w
       have hA16:A<10000000000000000:=by
         have h1:=dI (b:=b10k) (by decide) (xs:=(aC b10k t).drop w) (fun x h=>htd.1 x (List.mem_of_mem_drop h));have h2:b10k^((aC b10k t).drop w).length<=b10k^4:=Nat.pow_le_pow_right (by decide) (by rw[List.length_drop];omega);have h4:b10k^4=10000000000000000:=by decide
         omega
       have hB12:Bv<10000000000000000:=by
         have h1:=dI (b:=b10k) (by decide) (xs:=ys.drop w) (fun x h=>hy.1 x (List.mem_of_mem_drop h));have h2:b10k^(ys.drop w).length<=b10k^4:=Nat.pow_le_pow_right (by decide) (by rw[List.length_drop];omega);have h4:b10k^4=10000000000000000:=by decide
         omega
       have hlow:m*(A/(Bv+1))<=t:=ER (P:=b10k^w) (Bv:=Bv) (by rw[Nat.mul_comm];omega) (by rw[Nat.add_mul,Nat.one_mul,Nat.mul_comm Bv];omega) rfl;have hK:A/(Bv+1)<=A:=Nat.div_le_self _ _;have v1:Ref (.i6 (IntKind.i64.wrap ((((aM ys).length:Nat):Int)-(3:Int)))) (.i6 (w:Int)):=Ref.wrI (by rw[aI];omega) (by omega);refine gR kK none [0,1,4,5,6,7,8,9] [0] [(17,tt),(22,.cptr [.i6 (xs.getD j 0:Int)] 0),(25,.list 1 (aM (aC b10k r))),(27,.list 1 (aM (aC b10k t))),(30,ff),(40,tt),(44,.i6 (w:Int)),(49,.i6 (w:Int)),(51,.i6 ((aH b10k ((bI (aM ys)).drop w)+1:Nat):Int)),(52,.i6 (((aH b10k ((bI (aM (aC b10k t))).drop w))/(aH b10k ((bI (aM ys)).drop w)+1):Nat):Int)),(53,.dig t (C+14)),(54,.dig m C)] (.c6 (iT v7) v0 (nn j) v2 v3 r1 (.c6 c4 c5 c6 c7 c8 c9 (.c6 (iF v5) (iT (show((aM ys).length:Int)<=((aM (aC b10k t)).length:Int) by rw[aI,aI];omega)) v1 (nn w) d1 d2 (.c6 (show w<=(bI (aM (aC b10k t))).length by rw[bR];omega) (show(bI (aM (aC b10k t))).length<=w+4 by rw[bR];omega) v1 (nn w) d3 d4 (.c6 (show w<=(bI (aM ys)).length by rw[bR];omega) (show(bI (aM ys)).length<=w+4 by rw[bR];omega) (wI (((aH b10k ((bI (aM ys)).drop w):Nat):Int)+(1:Int)) ((aH b10k ((bI (aM ys)).drop w)+1:Nat):Int) (by rw[hBv];omega)) (show Ref (.i6 (IntKind.i64.wrap (((aH b10k ((bI (aM (aC b10k t))).drop w):Nat):Int).tdiv ((aH b10k ((bI (aM ys)).drop w)+1:Nat):Int)))) (.i6 (((aH b10k ((bI (aM (aC b10k t))).drop w))/(aH b10k ((bI (aM ys)).drop w)+1):Nat):Int)) from Ref.quo (a:=aH b10k ((bI (aM (aC b10k t))).drop w)) (b:=aH b10k ((bI (aM ys)).drop w)+1) rfl rfl (by decide) ((show(aH b10k ((bI (aM (aC b10k t))).drop w):Int)<=9223372036854775807 by rw[hA];omega))) (show((aH b10k ((bI (aM ys)).drop w)+1:Nat):Int)≠0 by rw[hBv];omega) hts (.a6 hys (show(-9223372036854775808:Int)<=(((aH b10k ((bI (aM (aC b10k t))).drop w))/(aH b10k ((bI (aM ys)).drop w)+1):Nat):Int) from ?_) (show(((aH b10k ((bI (aM (aC b10k t))).drop w))/(aH b10k ((bI (aM ys)).drop w)+1):Nat):Int)<=(9223372036854775807:Int) from ?_) v4 (show(m*((aH b10k ((bI (aM (aC b10k t))).drop w))/(aH b10k ((bI (aM ys)).drop w)+1)))<=t by rw[hA,hBv];exact hlow) v6)))))) (t:=BD) (σ:=slots 76 [(0,.list 1 (aM xs)),(1,.list 1 (aM ys)),(6,(.dig (t-(m*((aH b10k ((bI (aM (aC b10k t))).drop w))/(aH b10k ((bI (aM ys)).drop w)+1)))) (C+14))),(7,.own 0 1 0 xs.length),(8,.i6 (j:Int)),(9,(.i6 (((aH b10k ((bI (aM (aC b10k t))).drop w))/(aH b10k ((bI (aM ys)).drop w)+1):Nat):Int)))]) (h:=[some ⟨3,1,true,(aM qs),none⟩]) ?_
       · exact Int.le_trans (by decide) (Int.natCast_nonneg _)
       · rw[hA,hBv];exact Int.le_trans (Int.ofNat_le.2 hK) (by omega)
       · rw[hA,hBv]
         exact hfin _ _ _ (rl _) (by rw[Nat.mul_comm];omega)
     · refine gR kK none [0,1,4,5,6,7,8,9] [0] [(17,tt),(22,.cptr [.i6 (xs.getD j 0:Int)] 0),(25,.list 1 (aM (aC b10k r))),(27,.list 1 (aM (aC b10k t))),(30,ff),(40,ff),(53,.dig t (C+14)),(54,.dig m C)] (.c6 (iT v7) v0 (nn j) v2 v3 r1 (.c6 c4 c5 c6 c7 c8 c9 (.c6 (iF v5) (iF (show ¬ ((((aM ys).length:Nat):Int)<=((aM (aC b10k t)).length:Int)) by rw[aI,aI];omega)) hts hys (dc ((-9223372036854775808:Int)<=0)) (dc (0<=(9223372036854775807:Int))) (.a3 v4 (om ((m*0)<=t)) v6)))) (t:=BD) (σ:=slots 76 [(0,.list 1 (aM xs)),(1,.list 1 (aM ys)),(6,.dig (t-(m*0)) (C+14)),(7,.own 0 1 0 xs.length),(8,.i6 (j:Int)),(9,.i6 (0:Int))]) (h:=[some ⟨3,1,true,(aM qs),none⟩]) ?_
       exact hfin _ _ 0 (rl _) (by omega)
theorem PF:bQ 260 PE:=fun args r ob h ho=>by
 unfold PE at h
 split at h
 · rename_i n B m C
   cases h;have hm0:0<m:=ho _ (by simp);have hL:B+C+300<=LIM:=ho _ (by simp);obtain⟨hx,hxn⟩:=aO (b:=b10k) (by decide) n;obtain⟨hy,hyn⟩:=aO (b:=b10k) (by decide) m;refine af Tryz.f260 fun S w0=> ?_
   refine Good.diglt (n:=n) (B:=B) 0 rfl fun hn=>Good.diglt (n:=m) (B:=C) 1 rfl fun hm=> ?_
   refine Good.weak 76 [(0,.list 1 (aM (aC b10k n))),(1,.list 1 (aM (aC b10k m)))] (by kernel_rfl) (.cons Ref.opnd (.cons Ref.opnd .nil)) ?_;have l1:=hx.len10 (by rw[hxn];exact hn);generalize aC b10k n=xs at*;generalize aC b10k m=ys at*;subst hxn;have hL':=hL;unfold LIM at hL';refine cP (p:=(8*((aM xs).length:Int)<=281474976710656)/\((((aM xs).length:Nat):Int)<=(big:Int))/\(-9223372036854775808<=((aM xs).length:Int)-(1:Int)/\((aM xs).length:Int)-(1:Int)<=9223372036854775807)) (by simp only[aI];unfold big;omega) fun⟨q0,q1,q2⟩=>gN kK [0,1,4,5,6,7,8,9] [(15,.i6 ((((aM xs).length:Nat):Int)-(1:Int)))] (.a5 (rfl:((aM xs).length:Int)=((aM xs).length:Int)) (show 0<=((aM xs).length:Int) from Int.natCast_nonneg _) q0 q1 (wI ((((aM xs).length:Nat):Int)-(1:Int)) ((((aM xs).length:Nat):Int)-(1:Int)) q2)) (t:=JQ) (σ:=slots 76 [(0,.list 1 (aM xs)),(1,.list 1 (aM ys)),(4,.nil),(5,.nil),(6,.nil),(7,.own 0 1 0 ((aM xs).length)),(8,(.i6 ((((aM xs).length:Nat):Int)-(1:Int))))]) (h:=[some ⟨3,1,true,(List.replicate ((aM xs).length) [.i6 (0:Int)]),none⟩]) ?_
   rw[Dt,aI];refine Good.weak 76 [(0,_),(1,_),(6,.dig 0 C),(7,_),(8,_)] (by kernel_rfl) (.r (.r (.cons Ref.nil0d (.r (.r .nil))))) ?_;exact JR hx.1 hy hyn hm hm0 hL l1 hn xs.length 0 _ (rl _) hm0 (by simp) (nS (by decide)) (by simp[aH,List.drop_length])
 · cases h
end
def rH:=kn
def PG:KF
 | [.agg [.bool s,.dig n B]]=>some (.tup [.int .i64 ((if n<10000000000000000 then n else 0:Nat):Int),.bool (decide (n<10000000000000000))],[])
 | _=>none
section
variable {S:Nat->Prop} {w0:World}
noncomputable abbrev ME:List Item:=[.code (aN [1,1,1,0,1,0,0] (aA Tryz.f296)),.inLoop (aN [1,1,1,0,1,0,0] (aA Tryz.f296)),.inBlock 0,.code (aN [1,1,1,1] (aA Tryz.f296))]
theorem JS {s:Bool} {xs:List Nat} (hx:∀ x∈xs,x<b10k) (hl:xs.length<=4):∀ (k v:Nat),k<=xs.length->v=aH b10k (xs.drop k)->
   GF 296 S w0 (.tup [.i6 ((aH b10k xs:Nat):Int),.bool true]) ME ⟨slots 27 [(1,.ptr 0 2 0 0),(4,.i6 ((v:Nat):Int)),(5,(.i6 (((k:Nat):Int)-1)))],[some ⟨64,2,false,[[(.bool s),(.list 1 (aM xs))]],none⟩]⟩:=by
 intro k
 induction k with
 | zero=>
   intro v hk hv;rw[List.drop_zero] at hv;rw[show(((0:Nat):Int)-1)= -1 from rfl];refine rF rH [] .nil (V:=.tup [AV.int .i64 (v:Int),AV.bool true]) ?_
   rw[hv];exact rr
 | succ i ih=>
   intro v hk hv;rw[show(((i+1:Nat):Int)-1)=((i:Nat):Int) by omega];have hx1:=aY (b:=b10k) (by decide) hx i
   have hv3:v<1000000000000:=by
     have h1:=dI (b:=b10k) (by decide) (xs:=xs.drop (i+1)) (fun x h=>hx x (List.mem_of_mem_drop h));have h2:b10k^(xs.drop (i+1)).length<=b10k^3:=Nat.pow_le_pow_right (by decide) (by rw[List.length_drop];omega);have h3:b10k^3=1000000000000:=by decide
     omega
   unfold b10k at hx1;refine gN rH [1,2,3,4,5] [(15,tt),(19,.i6 ((v*10000:Nat):Int)),(23,.cptr [.i6 (xs.getD i 0:Int)] 0),(25,.i6 ((xs.getD i 0+10000*v:Nat):Int)),(17,.i6 ((i:Int)-(1:Int)))] (.c6 (iT (om ((0:Int)<=(i:Int)))) (wI ((v:Int)*(10000:Int)) ((v*10000:Nat):Int)) (show Ref (.cptr ((aM xs).getD i []) 0) (.cptr [.i6 (xs.getD i 0:Int)] 0) from Ref.cd64 ((om (i<xs.length)))) (nn i) (show(i:Int)<((aM xs).length:Int) by rw[aI];omega) (show Ref (.i6 (IntKind.i64.wrap (((v*10000:Nat):Int)+(xs.getD i 0:Int)))) (.i6 ((xs.getD i 0+10000*v:Nat):Int)) from Ref.wrI (by omega) (by omega)) (.a1 (wI ((i:Int)-(1:Int)) ((i:Int)-(1:Int))))) (t:=ME) (σ:=slots 27 [(1,.ptr 0 2 0 0),(4,.i6 ((xs.getD i 0+10000*v:Nat):Int)),(5,.i6 ((i:Int)-(1:Int)))]) (h:=[some ⟨64,2,false,[[.bool s,.list 1 (aM xs)]],none⟩]) ?_
   refine ih _ (by omega) ?_;rw[cC (by omega:i<xs.length),hv];rfl
theorem Tf  :bQ  296 PG  :=fun args r ob h ho=>by
 unfold PG at h
 split at h
 · rename_i s n B
   cases h;obtain⟨hx,hxn⟩:=aO (b:=b10k) (by decide) n;refine af Tryz.f296 fun S w0=> ?_
   refine Good.weak 27 [(0,.agg [.bool s,.list 1 (aM (aC b10k n))])] (by kernel_rfl) (.cons (Ref.agg (RefC.tl RefC.opnd)) .nil) ?_;refine Good.aggf (p:=(aC b10k n).length<=big) 0 rfl (fun ρ S w D vs h=> ?_) fun hb=> ?_
   · have h2:=h.cut1.2
     generalize vs.drop _=us at h2;cases h2 with
     | list f h1 h2=>rw[aI] at h1;omega
   have hlen : (aC     b10k n).length <= 4 ↔n<10000000000000000:=by
     constructor
     · intro h
       have h1:=iR (b:=b10k) (n:=n) (by decide);have h2:b10k^(aC b10k n).length<=b10k^4:=Nat.pow_le_pow_right (by decide) h;have h4:b10k^4=10000000000000000:=by decide
       omega
     · intro h
       exact fV            (by decide) (by have h4:b10k^4=10000000000000000:=by decide
                                           omega)
   generalize aC b10k n=xs at*;subst hxn;unfold big at hb
   by_cases h4:xs.length<=4
   · refine gN rH [1,2,3,4,5] [(9,ff),(13,.i6 ((((aM xs).length:Nat):Int)-(1:Int)))] (.a2 (iF (show ¬ ((4:Int)<((aM xs).length:Int)) by rw[aI];omega)) (wI ((((aM xs).length:Nat):Int)-(1:Int)) ((((aM xs).length:Nat):Int)-(1:Int)) (by rw[aI];omega))) (t:=ME) (σ:=slots 27 [(1,.ptr 0 2 0 0),(2,.i6 (0:Int)),(3,.bool false),(4,.i6 (0:Int)),(5,(.i6 ((((aM xs).length:Nat):Int)-(1:Int))))]) (h:=[some ⟨64,2,false,[[.bool s,.list 1 (aM xs)]],none⟩]) ?_
     have hn:=hlen.1 h4;refine Good.weak 27 [(1,_),(4,_),(5,_)] (by kernel_rfl) (.r (.r (.r .nil))) ?_;rw[if_pos hn,decide_eq_true hn,aI];exact JS hx.1 h4 xs.length 0 (rl _) (by rw[List.drop_length];rfl)
   · have hn:¬ aH b10k xs<10000000000000000:=fun h=>h4 (hlen.2 h)
     refine rF rH [(9,tt)] (.a1 (iT (show(4:Int)<((aM xs).length:Int) by rw[aI];omega))) (V:=.tup [AV.int .i64 0,AV.bool false]) ?_
     rw[if_neg hn,decide_eq_false hn];exact rr
 · cases h
end
def kL:=((kn.cons Tf).cons PF).cons EQ
section
variable {S0 C0:Nat->Prop} {w0:World} {Post:Value->World->Prop}
theorem GD (u v:Nat) (h1:(v:Int)=(0:Int)) (o:((-9223372036854775808:Int)<=(u:Int))/\((u:Int)<=(9223372036854775807:Int)))
   (hg:Good Tryz.prog 259 S0 C0 w0 Post [.code .ret,.code (aN [1,1,0,0,0,1,0,1,1,1] (aA Tryz.f259)),.inBlock 1,.inLoop (aN [1,1,0,0,0] (aA Tryz.f259)),.inBlock 0,.code (aN [1,1,1] (aA Tryz.f259))] ⟨slots 54 [(4,.ptr 0 2 0 0),(7,.i6 (u:Int)),(9,.i6 (v:Int))],[some ⟨64,2,false,[[.rz (u:Int) 64]],none⟩]⟩):
   Good Tryz.prog 259 S0 C0 w0 Post [.code (aN [1,1,0,0,0,1,0,1,1,0,1,0,0,0,0] (aA Tryz.f259)),.inLoop (aN [1,1,0,0,0,1,0,1,1,0,1,0,0,0,0] (aA Tryz.f259)),.inBlock 2,.code (aN [1,1,0,0,0,1,0,1,1,0,1,0,1] (aA Tryz.f259)),.code (aN [1,1,0,0,0,1,0,1,1,1] (aA Tryz.f259)),.inBlock 1,.inLoop (aN [1,1,0,0,0] (aA Tryz.f259)),.inBlock 0,.code (aN [1,1,1] (aA Tryz.f259))] ⟨slots 54 [(4,.ptr 0 2 0 0),(7,.i6 (u:Int)),(9,.i6 (v:Int))],[some ⟨64,2,false,[[.bool false,.nil]],none⟩]⟩:=
 tR mixed aT kL 12 none [4,7,9] [0] [(37,(.bool false))] (ob:=[Ref (.bool (!decide ((v:Int)=(0:Int)))) (.bool false),(-9223372036854775808:Int)<=(u:Int),(u:Int)<=(9223372036854775807:Int)]) (by decide) (by kernel_rfl)
   (.cons (Ref.bool (congrArg Bool.not (decide_eq_true h1))) (.cons (o.1) (.cons (o.2) (AllP.nil)))) hg
end
def PH:KF
 | [.agg [.rz n B],.agg [.rz m C]]=>some (.agg [.rz ((Nat.gcd n.natAbs m.natAbs:Nat):Int) (max B C)],[max B C+max B C+300<=LIM])
 | _=>none
theorem RefC.rzB {n:Int} {B C:Nat} {cs:List AV} (h:n.natAbs<2^C):RefC (.rz n B::cs) (.rz n C::cs):=fun ρ S w D vs x=>by
 cases x with
 | rz h1=>
   refine .rz ?_;cases h1 with
   | bool h2=>
     cases h2 with
     | dig xs a b c d=>exact .bool (.dig xs a b h d)
theorem RefC.mkrzN {n B:Nat} {cs:List AV}:RefC (.bool false:: .dig n B::cs) (.rz ((n:Nat):Int) B::cs):=RefC.mkrz (rl _) (by simp) (by simp)
section
variable {S:Nat->Prop} {w0:World}
noncomputable abbrev GE:List Item:=[.code (aN [1,1,0,0,0] (aA Tryz.f259)),.inLoop (aN [1,1,0,0,0] (aA Tryz.f259)),.inBlock 0,.code (aN [1,1,1] (aA Tryz.f259))]
noncomputable abbrev DA:List Item:=[.code (aN [1,1,0,0,0,1,0,1,1,0,1,0,0,0,0] (aA Tryz.f259)),.inLoop (aN [1,1,0,0,0,1,0,1,1,0,1,0,0,0,0] (aA Tryz.f259)),.inBlock 2,.code (aN [1,1,0,0,0,1,0,1,1,0,1,0,1] (aA Tryz.f259)),.code (aN [1,1,0,0,0,1,0,1,1,1] (aA Tryz.f259)),.inBlock 1,.inLoop (aN [1,1,0,0,0] (aA Tryz.f259)),.inBlock 0,.code (aN [1,1,1] (aA Tryz.f259))]
theorem GG {E:Nat}:∀ (f x y:Nat),y<=f->x<10000000000000000->y<10000000000000000->Nat.gcd x y<2^E->
   GF 259 S w0 (.agg [.rz ((Nat.gcd x y:Nat):Int) E]) DA ⟨slots 54 [(4,.ptr 0 2 0 0),(7,.i6 ((x:Nat):Int)),(9,.i6 ((y:Nat):Int))],[some ⟨64,2,false,[[(.bool false),.nil]],none⟩]⟩:=by
 have last:∀ x,x<10000000000000000->Nat.gcd x 0<2^E->GF 259 S w0 (.agg [.rz ((Nat.gcd x 0:Nat):Int) E]) DA ⟨slots 54 [(4,.ptr 0 2 0 0),(7,.i6 ((x:Nat):Int)),(9,.i6 ((0:Nat):Int))],[some ⟨64,2,false,[[(.bool false),.nil]],none⟩]⟩:=by
   intro x hx hE;rw[Nat.gcd_zero_right] at hE ⊢;exact GD x 0 rfl ⟨by omega,by omega⟩ (gE [.agg [AV.rz ((x:Nat):Int) 64]] (Ref.agg (RefC.rzB (by simpa using hE))))
 intro f
 induction f with
 | zero=>
   intro x y hf hx hy hE;have:y=0:=by omega
   subst this;exact last x hx hE
 | succ f ih=>
   intro x y hf hx hy hE
   by_cases h0:y=0
   · subst h0;exact last x hx hE
   · refine gN kL [4,7,9] [(37,tt),(41,.i6 ((x % y:Nat):Int))] (.a3 (jT (om (¬ ((y:Int)=(0:Int))))) (show Ref (.i6 ((x:Int).tmod (y:Int))) (.i6 ((x % y:Nat):Int)) from Ref.rem (a:=x) (b:=y) rfl rfl) (om ((y:Int)≠0))) (t:=DA) (σ:=slots 54 [(4,.ptr 0 2 0 0),(7,.i6 (y:Int)),(9,.i6 ((x % y:Nat):Int))]) (h:=[some ⟨64,2,false,[[.bool false,.nil]],none⟩]) ?_
     have hlt:x % y<y:=Nat.mod_lt _ (by omega);rw[rA] at hE ⊢;exact ih _ _ (by omega) hy (by omega) hE
theorem JT {E:Nat} (hL:E+E+300<=LIM):∀ (f n m:Nat),m<=f->n<2^E->m<2^E->
   GF 259 S w0 (.agg [.rz ((Nat.gcd n m:Nat):Int) E]) GE ⟨slots 54 [(4,.ptr 0 2 0 0),(5,.dig n E),(6,.dig m E)],[some ⟨64,2,false,[[(.bool false),.nil]],none⟩]⟩:=by
 have last:∀ n,n<2^E->GF 259 S w0 (.agg [.rz ((Nat.gcd n 0:Nat):Int) E]) GE ⟨slots 54 [(4,.ptr 0 2 0 0),(5,.dig n E),(6,.dig 0 E)],[some ⟨64,2,false,[[(.bool false),.nil]],none⟩]⟩:=by
   intro n hn;rw[Nat.gcd_zero_right];refine rF kL [(17,.list 1 (aM (aC b10k 0))),(19,ff)] (.a2 (show Ref (.dig 0 E) (.list 1 (aM (aC b10k 0))) from Ref.opnd) (iF (show ¬ ((0:Int)<((aM (aC b10k 0)).length:Int)) by simp[aI,gL]))) (V:=.agg [AV.bool false,AV.dig n E]) (Ref.agg RefC.mkrzN)
 intro f
 induction f with
 | zero=>
   intro n m hf hn hm;have:m=0:=by omega
   subst this;exact last n hn
 | succ f ih=>
   intro n m hf hn hm
   by_cases h0:m=0
   · subst h0;exact last n hn
   have hy0:0<(aC b10k m).length:=(cJ (by decide)).2 (by omega);have hlt:n % m<m:=Nat.mod_lt _ (by omega);have nx:=ih m (n % m) (by omega) hm (by omega);rw[<- rA] at nx;have v0:(0:Int)<((aM (aC b10k m)).length:Int):=by rw[aI];omega
   have v1:Ref (.dig m E) (.list 1 (aM (aC b10k m))):=Ref.opnd
   by_cases c1:n<10000000000000000
   · by_cases c2:m<10000000000000000
     · refine gR kL none [4,5,6,7,9] [0] [(17,.list 1 (aM (aC b10k m))),(19,tt),(33,tt),(35,tt)] (.a4 v1 (iT v0) (iT c1) (iT c2)) (t:=DA) (σ:=slots 54 [(4,.ptr 0 2 0 0),(5,.dig n E),(6,.dig m E),(7,.i6 ((if n<10000000000000000 then n else 0:Nat):Int)),(9,.i6 ((if m<10000000000000000 then m else 0:Nat):Int))]) (h:=[some ⟨64,2,false,[[.bool false,.nil]],none⟩]) ?_
       rw[if_pos c1,if_pos c2];refine Good.weak 54 [(4,_),(7,_),(9,_)] (by kernel_rfl) (.r (.r (.r .nil))) ?_;exact GG m n m (rl _) c1 c2 (Gi hn hm)
     · refine gR kL none [4,5,6,7,9] [0] [(17,.list 1 (aM (aC b10k m))),(19,tt),(33,tt),(35,ff)] (.a6 v1 (iT v0) (iT c1) (iF c2) (om (0<m)) hL) (t:=GE) (σ:=slots 54 [(4,.ptr 0 2 0 0),(5,.dig m E),(6,.dig (n % m) E),(7,.i6 ((if n<10000000000000000 then n else 0:Nat):Int)),(9,.i6 ((if m<10000000000000000 then m else 0:Nat):Int))]) (h:=[some ⟨64,2,false,[[.bool false,.nil]],none⟩]) ?_
       exact Good.weak 54 [(4,_),(5,_),(6,_)] (by kernel_rfl) (.r (.r (.r .nil))) nx
   · refine gR kL none [4,5,6,7,9] [0] [(17,.list 1 (aM (aC b10k m))),(19,tt),(33,ff)] (.a5 v1 (iT v0) (iF c1) (om (0<m)) hL) (t:=GE) (σ:=slots 54 [(4,.ptr 0 2 0 0),(5,.dig m E),(6,.dig (n % m) E),(7,.i6 ((if n<10000000000000000 then n else 0:Nat):Int)),(9,.i6 ((if m<10000000000000000 then m else 0:Nat):Int))]) (h:=[some ⟨64,2,false,[[.bool false,.nil]],none⟩]) ?_
     exact Good.weak 54 [(4,_),(5,_),(6,_)] (by kernel_rfl) (.r (.r (.r .nil))) nx
theorem Tg:bQ 259 PH:=by
 refine cK Tryz.f259 fun _ _ _ S w0 h ho=> ?_
 unfold PH at h;split at h <;> cases h;rename_i n B m C;have hL:max B C+max B C+300<=LIM:=ho _ (by simp);refine Good.rzlt (n:=n) (B:=B) 0 rfl fun hn=>Good.rzlt (n:=m) (B:=C) 1 rfl fun hm=> ?_
 refine gR kL none [4,5,6] [2] [] .nil (t:=GE) (σ:=slots 54 [(4,.ptr 0 2 0 0),(5,.dig n.natAbs B),(6,.dig m.natAbs C)]) (h:=[some ⟨64,2,false,[[.bool false,.nil]],none⟩]) ?_
 have hn':=kE hn (Nat.le_max_left B C);have hm':=kE hm (Nat.le_max_right B C);refine Good.weak 54 [(4,_),(5,.dig n.natAbs (max B C)),(6,.dig m.natAbs (max B C))] (by kernel_rfl) (.r (.cons (Ref.digB hn') (.cons (Ref.digB hm') .nil))) ?_;exact JT hL _ _ _ (rl _) hn' hm'
end
def BF:=kn
def PI:KF
 | [.bool s,.dig n B]=>some (.agg [.rz (iL s n) B],[])
 | _=>none
theorem JU:bQ 222 PI:=by
 refine cK Tryz.f222 fun _ _ _ S w0 h ho=> ?_
 unfold PI at h;split at h <;> cases h;rename_i s n B;obtain⟨hx,hxn⟩:=aO (b:=b10k) (by decide) n;refine Good.diglt (n:=n) (B:=B) 1 rfl fun hn=> ?_
 refine Good.weak 13 [(0,.bool s),(1,.list 1 (aM (aC b10k n)))] (by kernel_rfl) (.r (.cons Ref.opnd .nil)) ?_
 have fold:∀ t:Bool,t=decide (iL s n<0)->Ref (.agg [.bool t,.list 1 (aM (aC b10k n))]) (.agg [.rz (iL s n) B]):=fun t ht=>
   Ref.agg ((RefC.tl (c:=.bool t) (RefC.digL hx hxn hn)).trans (RefC.mkrz (rl _) ht (wA s n).symm))
 cases s with
 | true=>
   refine rF BF [] .nil (V:=.agg [.bool (decide ((0:Int)<((aM (aC b10k n)).length:Int))),.list 1 (aM (aC b10k n))]) (fold _ ?_)
   rw[uI,Bool.true_and]
   have:=cJ (b:=b10k) (n:=n) (by decide);simp only[decide_eq_decide];rw[aI];omega
 | false=>
   refine rF BF [] .nil (V:=.agg [AV.bool false,.list 1 (aM (aC b10k n))]) (fold _ ?_)
   rw[uI,Bool.false_and]
theorem DB (n:Int):iL (!decide (n<0)) n.natAbs= -n:=by
 by_cases a:n<0 <;> simp[a,iL] <;> omega
def Ve:KF
 | [.agg [.q x B]]=>some (.agg [.q (-x) B],[])
 | _=>none
theorem Ow:bQ 59 Ve:=by
 refine cK Tryz.f59 fun _ _ _ S w0 h ho=> ?_
 unfold Ve at h;split at h <;> cases h;rename_i x B;have K:=kn.cons Ak;refine rF K [] .nil (V:=.agg [.z (iL (!decide (x.num<0)) x.num.natAbs) B,.nat (x.den-1) B]) ?_
 refine Ref.agg (RefC.mkq (rl _) (rl _) ?_ rfl);exact DB x.num
def PJ:KF
 | [.agg [.rz n B]]=>some (.agg [.rz (-n) B],[])
 | _=>none
theorem PK:bQ 228 PJ:=by
 refine cK Tryz.f228 fun _ _ _ S w0 h ho=> ?_
 unfold PJ at h;split at h <;> cases h;rename_i n B;have K:=kn.cons JU;exact rF K [] .nil (V:=.agg [.rz (iL (!decide (n<0)) n.natAbs) B]) (Ref.rz1 (DB n) (rl _))
def lU:=(((kn.cons PF).cons Tg).cons PK).cons JU
def PL:KF
 | [.agg [.rz n B],.agg [.rz d C]]=>some (.agg [.rq ((n:Rat)/(d:Rat)) ((n:Rat)/(d:Rat)).den (max B C)],[d≠0,max B C+max B C+300<=LIM])
 | _=>none
theorem zK {n d:Int} (hd:0<d):mkRat n d.natAbs=(n:Rat)/(d:Rat):=by
 rw[Rat.mkRat_eq_div]
 congr 1
 rw[<- Rat.intCast_natCast,Int.natAbs_of_nonneg (by omega)]
theorem BG (n d:Int):((-n:Int):Rat)/((-d:Int):Rat)=(n:Rat)/(d:Rat):=by
 rw[Rat.intCast_neg,Rat.intCast_neg,Rat.div_def,Rat.div_def]
 have:(-(d:Rat))⁻¹= -((d:Rat)⁻¹):=by
   by_cases h:(d:Rat)=0
   · rw[h];simp
   · refine Rat.inv_eq_of_mul_eq_one ?_
     rw[Rat.neg_mul,Rat.mul_neg,Rat.neg_neg,Rat.mul_inv_cancel _ h]
 rw[this,Rat.neg_mul,Rat.mul_neg,Rat.neg_neg]
theorem pI {n d:Int} {B C:Nat} {X:Rat} (hX:X=mkRat n d.natAbs) (hd:0<d) {k e:Int} (h:(k=n/\e=d/\n.natAbs.gcd d.natAbs=1)\/(k=iL (decide (n<0)) (n.natAbs/n.natAbs.gcd d.natAbs)/\e=iL false (d.natAbs/n.natAbs.gcd d.natAbs))):
   Ref (.agg [.rz k B,.rz e C]) (.agg [.rq X X.den (max B C)]):=by
 have dn:d.natAbs≠0:=by omega
 refine Ref.agg (RefC.mkrq (Nat.le_max_left _ _) (Nat.le_max_right _ _) ?_ ?_ (.inl rfl))
 · rcases h with ⟨rfl,rfl,hg⟩ | ⟨rfl,rfl⟩
   · rw[hX,sP dn,hg];simp
   · rw[hX, <- sQ dn]
 · rcases h with ⟨rfl,rfl,hg⟩ | ⟨rfl,rfl⟩
   · rw[hX,pD dn,hg,Nat.div_one];omega
   · rw[hX,pD dn];rfl
theorem JV:bQ 200 PL:=by
 refine cK Tryz.f200 fun _ _ _ S w0 h ho=> ?_
 unfold PL at h;split at h <;> cases h;rename_i n B d C;have hd:d≠0:=ho _ (by simp);have hL:max B C+max B C+300<=LIM:=ho _ (by simp);have hB1:B<=max B C:=Nat.le_max_left _ _;have hC1:C<=max B C:=Nat.le_max_right _ _
 have one:∀ v:Nat,(aC b10k v).length=1->(aC b10k v).getD 0 0=1->v=1:=by
   intro v h1 h2;obtain⟨hx,hxn⟩:=aO (b:=b10k) (by decide) v;have h3:=aQ b10k (aC b10k v) 0;rw[fQ (by omega),hxn,h2] at h3;simpa[aH] using h3
 have v4:B+(max B C)+300<=LIM:=by omega
 have v5:C+(max B C)+300<=LIM:=by omega
 have v10:0<=(0:Int):=by decide
 by_cases hneg:d<0
 · have hX:(n:Rat)/(d:Rat)=mkRat (-n) (-d).natAbs:=by rw[zK (by omega),BG]
   have hg:0<Nat.gcd (-n).natAbs (-d).natAbs:=Nat.gcd_pos_of_pos_right _ (by omega);have v0:Ref (.dig (Nat.gcd (-n).natAbs (-d).natAbs) (max B C)) (.list 1 (aM (aC b10k (Nat.gcd (-n).natAbs (-d).natAbs)))):=Ref.opnd
   by_cases c1:(aC b10k (Nat.gcd (-n).natAbs (-d).natAbs)).length=1
   · have v2:Ref (.cptr ((aM (aC b10k (Nat.gcd (-n).natAbs (-d).natAbs))).getD 0 []) 0) (.cptr [.i6 ((aC b10k (Nat.gcd (-n).natAbs (-d).natAbs)).getD 0 0:Int)] 0):=Ref.cd64 ((om (0<(aC b10k (Nat.gcd (-n).natAbs (-d).natAbs)).length)))
     have v6:((aM (aC b10k (Nat.gcd (-n).natAbs (-d).natAbs))).length:Int)=(1:Int):=by rw[aI];omega
     have v7:(0:Int)<((aM (aC b10k (Nat.gcd (-n).natAbs (-d).natAbs))).length:Int):=by rw[aI];omega
     by_cases c2:(aC b10k (Nat.gcd (-n).natAbs (-d).natAbs)).getD 0 0=1
     · refine rF lU [(11,tt),(20,.list 1 (aM (aC b10k (Nat.gcd (-n).natAbs (-d).natAbs)))),(23,tt),(25,.list 1 (aM (aC b10k (Nat.gcd (-n).natAbs (-d).natAbs)))),(26,.cptr [.i6 ((aC b10k (Nat.gcd (-n).natAbs (-d).natAbs)).getD 0 0:Int)] 0),(29,tt)] (.c6 (iT hneg) hL v0 (iT v6) v0 v2 (.a3 v10 v7 (iT (om (((aC b10k (Nat.gcd (-n).natAbs (-d).natAbs)).getD 0 0:Int)=(1:Int)))))) (V:=.agg [AV.rz (-n) B,AV.rz (-d) C]) (pI hX (by omega) (.inl ⟨rfl,rfl,one _ c1 c2⟩))
     · refine rF lU [(11,tt),(20,.list 1 (aM (aC b10k (Nat.gcd (-n).natAbs (-d).natAbs)))),(23,tt),(25,.list 1 (aM (aC b10k (Nat.gcd (-n).natAbs (-d).natAbs)))),(26,.cptr [.i6 ((aC b10k (Nat.gcd (-n).natAbs (-d).natAbs)).getD 0 0:Int)] 0),(29,ff)] (.c6 (iT hneg) hL v0 (iT v6) v0 v2 (.c6 v10 v7 (iF (om (¬ ((((aC b10k (Nat.gcd (-n).natAbs (-d).natAbs)).getD 0 0:Nat):Int)=(1:Int))))) hg v4 hg (.a1 v5))) (V:=.agg [.rz (iL (decide ((-n)<0)) (((-n).natAbs)/(Nat.gcd (-n).natAbs (-d).natAbs))) B,.rz (iL false (((-d).natAbs)/(Nat.gcd (-n).natAbs (-d).natAbs))) C]) (pI hX (by omega) (.inr ⟨rfl,rfl⟩))
   · refine rF lU [(11,tt),(20,.list 1 (aM (aC b10k (Nat.gcd (-n).natAbs (-d).natAbs)))),(23,ff)] (.c6 (iT hneg) hL v0 (iF (show ¬ ((((aM (aC b10k (Nat.gcd (-n).natAbs (-d).natAbs))).length:Nat):Int)=(1:Int)) by rw[aI];omega)) hg v4 (.a2 hg v5)) (V:=.agg [.rz (iL (decide ((-n)<0)) (((-n).natAbs)/(Nat.gcd (-n).natAbs (-d).natAbs))) B,.rz (iL false (((-d).natAbs)/(Nat.gcd (-n).natAbs (-d).natAbs))) C]) (pI hX (by omega) (.inr ⟨rfl,rfl⟩))
 · have hX:(n:Rat)/(d:Rat)=mkRat n d.natAbs:=by rw[zK (by omega)]
   have hg:0<Nat.gcd n.natAbs d.natAbs:=Nat.gcd_pos_of_pos_right _ (by omega);have v1:Ref (.dig (Nat.gcd n.natAbs d.natAbs) (max B C)) (.list 1 (aM (aC b10k (Nat.gcd n.natAbs d.natAbs)))):=Ref.opnd
   by_cases c1:(aC b10k (Nat.gcd n.natAbs d.natAbs)).length=1
   · have v3:Ref (.cptr ((aM (aC b10k (Nat.gcd n.natAbs d.natAbs))).getD 0 []) 0) (.cptr [.i6 ((aC b10k (Nat.gcd n.natAbs d.natAbs)).getD 0 0:Int)] 0):=Ref.cd64 ((om (0<(aC b10k (Nat.gcd n.natAbs d.natAbs)).length)))
     have v8:((aM (aC b10k (Nat.gcd n.natAbs d.natAbs))).length:Int)=(1:Int):=by rw[aI];omega
     have v9:(0:Int)<((aM (aC b10k (Nat.gcd n.natAbs d.natAbs))).length:Int):=by rw[aI];omega
     by_cases c2:(aC b10k (Nat.gcd n.natAbs d.natAbs)).getD 0 0=1
     · refine rF lU [(11,ff),(20,.list 1 (aM (aC b10k (Nat.gcd n.natAbs d.natAbs)))),(23,tt),(25,.list 1 (aM (aC b10k (Nat.gcd n.natAbs d.natAbs)))),(26,.cptr [.i6 ((aC b10k (Nat.gcd n.natAbs d.natAbs)).getD 0 0:Int)] 0),(29,tt)] (.c6 (iF hneg) hL v1 (iT v8) v1 v3 (.a3 v10 v9 (iT (om (((aC b10k (Nat.gcd n.natAbs d.natAbs)).getD 0 0:Int)=(1:Int)))))) (V:=.agg [AV.rz n B,AV.rz d C]) (pI hX (by omega) (.inl ⟨rfl,rfl,one _ c1 c2⟩))
     · refine rF lU [(11,ff),(20,.list 1 (aM (aC b10k (Nat.gcd n.natAbs d.natAbs)))),(23,tt),(25,.list 1 (aM (aC b10k (Nat.gcd n.natAbs d.natAbs)))),(26,.cptr [.i6 ((aC b10k (Nat.gcd n.natAbs d.natAbs)).getD 0 0:Int)] 0),(29,ff)] (.c6 (iF hneg) hL v1 (iT v8) v1 v3 (.c6 v10 v9 (iF (om (¬ ((((aC b10k (Nat.gcd n.natAbs d.natAbs)).getD 0 0:Nat):Int)=(1:Int))))) hg v4 hg (.a1 v5))) (V:=.agg [.rz (iL (decide (n<0)) (n.natAbs/(Nat.gcd n.natAbs d.natAbs))) B,.rz (iL false (d.natAbs/(Nat.gcd n.natAbs d.natAbs))) C]) (pI hX (by omega) (.inr ⟨rfl,rfl⟩))
   · refine rF lU [(11,ff),(20,.list 1 (aM (aC b10k (Nat.gcd n.natAbs d.natAbs)))),(23,ff)] (.c6 (iF hneg) hL v1 (iF (show ¬ ((((aM (aC b10k (Nat.gcd n.natAbs d.natAbs))).length:Nat):Int)=(1:Int)) by rw[aI];omega)) hg v4 (.a2 hg v5)) (V:=.agg [.rz (iL (decide (n<0)) (n.natAbs/(Nat.gcd n.natAbs d.natAbs))) B,.rz (iL false (d.natAbs/(Nat.gcd n.natAbs d.natAbs))) C]) (pI hX (by omega) (.inr ⟨rfl,rfl⟩))
def PM:KF
 | [.int .i64 n,.int .i64 d]=>some (.agg [.rq ((Int.cast n:Rat)/(Int.cast d:Rat)) ((Int.cast n:Rat)/(Int.cast d:Rat)).den 64],[(-9223372036854775808:Int)<=n,n<=(9223372036854775807:Int),(-9223372036854775808:Int)<=d,d<=(9223372036854775807:Int),(d:Int)≠0])
 | _=>none
theorem Th:bQ 106 PM:=by
 refine cK Tryz.f106 fun _ _ _ S w0 h ho=> ?_
 unfold PM at h;split at h <;> cases h;rename_i n d;obtain⟨o1,o2,o3,o4,o5⟩:=ho.e5;have L:=dR;have K:=(kn.cons EQ).cons JV;exact rR K [] (.a6 o1 o2 o3 o4 o5 (om (max 64 64+max 64 64+300<=LIM)))
def PN:KF
 | [.agg [.rz n B],.agg [.rz m C]]=>some (.agg [.rz (n*m) (B+C)],[B+C+128<=LIM])
 | _=>none
theorem MF:bQ 134 PN:=by
 refine cK Tryz.f134 fun _ _ _ S w0 h ho=> ?_
 unfold PN at h;split at h <;> cases h;rename_i n B m C;have o1:=ho.one;have K:=(kn.cons PA).cons JU;exact rF K [] (.a1 o1) (V:=.agg [.rz (iL (!((decide (n<0))==(decide (m<0)))) (n.natAbs*m.natAbs)) (B+C)]) (Ref.rz1 (by rw[uJ,wD]) (rl _))
def PO:KF
 | [.agg [.rq x d B]]=>some (.agg [.rz (d:Int) (max B 64)],[d≠0])
 | _=>none
theorem JW:bQ 135 PO:=by
 refine cK Tryz.f135 fun _ _ _ S w0 h ho=> ?_
 unfold PO at h;split at h <;> cases h;rename_i x d B;have o1:=ho.one;have K:=kn.cons EQ;have v0:Ref (.dig ((d:Int).natAbs) B) (.list 1 (aM (aC b10k (d:Int).natAbs))):=by exact Ref.opnd
 by_cases h1:(((aM (aC b10k ((d:Nat):Int).natAbs)).length:Nat):Int)=(0:Int)
 · refine rF K [(5,.list 1 (aM (aC b10k (d:Int).natAbs))),(7,tt)] (.a4 v0 (iT h1) (dc ((-9223372036854775808:Int)<=1)) (dc (1<=(9223372036854775807:Int)))) (V:=.agg [.rz 1 64]) ?_
   rw[aI] at h1;have:=(cJ (b:=b10k) (n:=((d:Nat):Int).natAbs) (by decide)).2 (by omega);omega
 · exact rF K [(5,.list 1 (aM (aC b10k (d:Int).natAbs))),(7,ff)] (.a2 v0 (iF h1)) (V:=.agg [.rz (d:Int) B]) (Ref.rz1 rfl (by omega))
def PP:KF
 | [.agg [.rq x d B],.agg [.rq y e C]]=>some (.agg [.rq (x*y) (x*y).den (max B 64+max C 64)],[d=x.den,e=y.den,max B 64+max C 64+(max B 64+max C 64)+300<=LIM])
 | _=>none
theorem JX:bQ 107 PP:=by
 refine cK Tryz.f107 fun _ _ _ S w0 h ho=> ?_
 unfold PP at h;split at h <;> cases h;rename_i x d B y e C;obtain⟨o1,o2,o3⟩:=ho.e3;have L:=dR;have K:=((kn.cons JV).cons JW).cons MF;have hx:=x.den_nz;have hy:=y.den_nz;have hm:((d:Nat):Int)*((e:Nat):Int)≠0:=Int.mul_ne_zero (by omega) (by omega);have hq:(Int.cast (x.num*y.num):Rat)/(Int.cast (((d:Nat):Int)*((e:Nat):Int)):Rat)=x*y:=by subst o1;subst o2;rw[Rat.mul_def,Rat.normalize_eq_mkRat,Rat.mkRat_eq_div];push_cast;rfl
 refine rF K [] (.a6 (om (B+C+128<=LIM)) (om (d≠0)) (om (e≠0)) (om ((max B 64)+(max C 64)+128<=LIM)) hm (om (max (B+C) ((max B 64)+(max C 64))+max (B+C) ((max B 64)+(max C 64))+300<=LIM))) (V:=.agg [.rq ((Int.cast (x.num*y.num):Rat)/(Int.cast ((d:Int)*(e:Int)):Rat)) (((Int.cast (x.num*y.num):Rat)/(Int.cast ((d:Int)*(e:Int)):Rat)).den) (max (B+C) ((max B 64)+(max C 64)))]) ?_
 rw[hq];exact Ref.agg (RefC.rq_le (by omega))
def wS:=(kn.cons BB).cons CG
def PQ:KF
 | [.nat n B,.nat m C]=>some (.nat (n+m) (max B C+1),[max B C+1<=LIM])
 | _=>none
section
variable {S:Nat->Prop} {w0:World}
noncomputable abbrev JY:List Item:=[.code (aN [1,1,1,1,0,1,0,0] (aA Tryz.f203)),.inLoop (aN [1,1,1,1,0,1,0,0] (aA Tryz.f203)),.inBlock 0,.code (aN [1,1,1,1,1] (aA Tryz.f203))]
theorem DC {xs ys:List Nat} {N B m:Nat} (hmm:m=xs.length+1) (hx:∀ x∈xs,x<b32) (hy:∀ x∈ys,x<b32) (hl:ys.length<=xs.length) (hbig:xs.length+2<=big)
   (hN:aH b32 xs+aH b32 ys=N) (hB:N<2^B):∀ (j i c:Nat) (ds:List Nat),j=xs.length-i->i<=xs.length->c<2->ds.length=xs.length+1->(∀ x∈ds,x<b32)->
   aH b32 (ds.take i)+b32^i*c=aH b32 (xs.take i)+aH b32 (ys.take i)->
   GF 203 S w0 (.nat N B) JY
     ⟨slots 58 [(0,.list 1 (aG xs)),(1,.list 1 (aG ys)),(5,.own 0 1 0 m),(6,.int .u64 ((c:Nat):Int)),(20,(.i6 (((aG xs).length:Nat):Int))),(21,.i6 ((i:Nat):Int))],
      [some ⟨362,1,true,(aG ds),none⟩]⟩:=by
 subst hmm;unfold big at hbig;intro j
 induction j with
 | zero=>
   intro i c ds hj hi hc hd hdl hinv;have hi:i=xs.length:=by omega
   subst hi;have hcm:c % 4294967296=c:=by omega
   have e0:((((aG ds).set (0+(aG xs).length) [(AV.int .u32 ((c % 4294967296:Nat):Int))]).drop 0).take (xs.length+1))=aG (ds.set xs.length c):=by
     rw[hcm,eN,aB,Nat.zero_add,List.drop_zero,fQ (by simp[aB,hd])]
   have hlt:∀ x∈ds.set xs.length c,x<b32:=eW hdl (by unfold b32;omega)
   have hval:aH b32 (ds.set xs.length c)=N:=by
     have h1:=aQ b32 (ds.set xs.length c) xs.length;rw[fQ (by simp[hd]),nR,cZ (by omega)] at h1;rw[h1,hinv,fQ (rl _),fQ hl];exact hN
   refine gN wS [0,1,5,6,20,21,4] [(22,ff),(54,.int .u32 ((c % 4294967296:Nat):Int))] (.c6 (iF (show ¬ ((xs.length:Int)<((aG xs).length:Int)) by rw[aB];omega)) (show Ref (.int .u32 (IntKind.u32.wrap (c:Int))) (.int .u32 ((c % 4294967296:Nat):Int)) from Ref.md32 (by rfl)) (show 0<=((aG xs).length:Int) from Int.natCast_nonneg _) (show((aG xs).length:Int)<(((xs.length+1):Nat):Int) by rw[aB];omega) (show 0+((aG xs).length)<(aG ds).length by rw[aB,aB];omega) (show 0+(xs.length+1)<=((aG ds).set (0+((aG xs).length)) [(AV.int .u32 ((c % 4294967296:Nat):Int))]).length by simp only[List.length_set,aB];omega) (.a2 (show((((aG ds).set (0+((aG xs).length)) [(AV.int .u32 ((c % 4294967296:Nat):Int))]).drop 0).take (xs.length+1))=aG (aZ ((((aG ds).set (0+((aG xs).length)) [(AV.int .u32 ((c % 4294967296:Nat):Int))]).drop 0).take (xs.length+1))) from ?_) (show ∀ x∈aZ ((((aG ds).set (0+((aG xs).length)) [(AV.int .u32 ((c % 4294967296:Nat):Int))]).drop 0).take (xs.length+1)),x<b32 from ?_))) (t:=[.code .ret]) (σ:=slots 58 [(0,.list 1 (aG xs)),(1,.list 1 (aG ys)),(4,(.nat (aH b32 (aZ ((((aG ds).set (0+((aG xs).length)) [(.int .u32 ((c % 4294967296:Nat):Int))]).drop 0).take (xs.length+1)))) (32*((((aG ds).set (0+((aG xs).length)) [(.int .u32 ((c % 4294967296:Nat):Int))]).drop 0).take (xs.length+1)).length))),(5,.own 0 1 0 (xs.length+1)),(6,.int .u64 (c:Int)),(20,.i6 ((aG xs).length:Int)),(21,.i6 (xs.length:Int))]) (h:=[none,none]) ?_
   · rw[e0,bV]
   · rw[e0,bV];exact hlt
   · refine bP aT (fn:=Tryz.f203) (by kernel_rfl) 4 (by kernel_rfl) rfl (by rfl) ?_
     show Ref (.nat (aH b32 (aZ ((((aG ds).set (0+((aG xs).length)) [(AV.int .u32 ((c % 4294967296:Nat):Int))]).drop 0).take (xs.length+1)))) _) _;rw[e0,bV,hval];exact Ref.natB hB
 | succ j ih=>
   intro i c ds hj hi hc hd hdl hinv;have hlt:i<xs.length:=by omega
   have hx1:xs.getD i 0<b32:=aY (by decide) hx i;have hy1:ys.getD i 0<b32:=aY (by decide) hy i;unfold b32 at hx1 hy1
   have nx:∀ t,t=c+xs.getD i 0+ys.getD i 0->GF 203 S w0 (.nat N B) JY
     ⟨slots 58 [(0,.list 1 (aG xs)),(1,.list 1 (aG ys)),(5,.own 0 1 0 (xs.length+1)),(6,.int .u64 ((t/4294967296:Nat):Int)),(20,(.i6 (((aG xs).length:Nat):Int))),(21,.i6 ((i+1:Nat):Int))],
      [some ⟨362,1,true,((aG ds).set (0+i) [(AV.int .u32 ((t % 4294967296:Nat):Int))]),none⟩]⟩:=by
     intro t ht;rw[eN,Nat.zero_add];refine ih (i+1) (t/4294967296) _ (by omega) (by omega) (by omega) (by simp[hd]) (eW hdl (by unfold b32;omega)) ?_;rw[aQ,aQ b32 xs,aQ b32 ys,nR,cZ (by omega),Nat.pow_succ];have h1:t=4294967296*(t/4294967296)+t % 4294967296:=(Nat.div_add_mod _ _).symm
     have h2:b32^i*(t % 4294967296)+b32^i*b32*(t/4294967296)=b32^i*t:=by
       rw[Nat.mul_assoc, <- Nat.mul_add]
       congr 1
       unfold b32;omega
     have h3:b32^i*t=b32^i*c+b32^i*xs.getD i 0+b32^i*ys.getD i 0:=by rw[ht,Nat.mul_add,Nat.mul_add]
     omega
   have v0:(i:Int)<((aG xs).length:Int):=by rw[aB];omega
   by_cases hyl:i<ys.length
   · refine cP (p:=(i<xs.length)/\((i:Int)<((aG xs).length:Int))/\(0<=(xs.getD i 0:Int)/\(xs.getD i 0:Int)<=18446744073709551615)/\(0<=(c:Int)+(xs.getD i 0:Int)/\(c:Int)+(xs.getD i 0:Int)<=18446744073709551615)/\(i<ys.length)/\((i:Int)<((aG ys).length:Int))/\(0<=(ys.getD i 0:Int)/\(ys.getD i 0:Int)<=18446744073709551615)/\(0<=((c+xs.getD i 0:Nat):Int)+(ys.getD i 0:Int)/\((c+xs.getD i 0:Nat):Int)+(ys.getD i 0:Int)<=18446744073709551615)/\((i:Int)<(((xs.length+1):Nat):Int))/\(0+i<(aG ds).length)/\(-9223372036854775808<=(i:Int)+(1:Int)/\(i:Int)+(1:Int)<=9223372036854775807)) ?_ fun⟨q0,q1,q2,q3,q4,q5,q6,q7,q8,q9,q10⟩=>gN wS [0,1,5,6,20,21,4] [(22,tt),(27,.cptr [.int .u32 (xs.getD i 0:Int)] 0),(29,.int .u64 (xs.getD i 0:Int)),(30,.int .u64 ((c+xs.getD i 0:Nat):Int)),(34,tt),(38,.cptr [.int .u32 (ys.getD i 0:Int)] 0),(40,.int .u64 (ys.getD i 0:Int)),(41,.int .u64 ((c+xs.getD i 0+ys.getD i 0:Nat):Int)),(45,.int .u32 (((c+xs.getD i 0+ys.getD i 0) % 4294967296:Nat):Int)),(48,.int .u64 (((c+xs.getD i 0+ys.getD i 0)/4294967296:Nat):Int)),(49,.i6 ((i+1:Nat):Int))] (.c6 (iT v0) (Ref.cd32 q0) (nn i) q1 (wU (xs.getD i 0:Int) (xs.getD i 0:Int) q2) (wU ((c:Int)+(xs.getD i 0:Int)) ((c+xs.getD i 0:Nat):Int) q3) (.c6 (iT (show(i:Int)<((aG ys).length:Int) by rw[aB];omega)) (Ref.cd32 q4) (nn i) q5 (wU (ys.getD i 0:Int) (ys.getD i 0:Int) q6) (wU (((c+xs.getD i 0:Nat):Int)+(ys.getD i 0:Int)) ((c+xs.getD i 0+ys.getD i 0:Nat):Int) q7) (.c6 (show Ref (.int .u32 (IntKind.u32.wrap ((c+xs.getD i 0+ys.getD i 0:Nat):Int))) (.int .u32 (((c+xs.getD i 0+ys.getD i 0) % 4294967296:Nat):Int)) from Ref.md32 (by rfl)) (nn i) q8 q9 (show Ref (.int .u64 (((c+xs.getD i 0+ys.getD i 0:Nat):Int).fdiv (2^(min (32:Int).toNat 64)))) (.int .u64 (((c+xs.getD i 0+ys.getD i 0)/4294967296:Nat):Int)) from Ref.shrc (c:=min (Int.toNat _) _) (by rfl) (by decide)) (dc (0<=(32:Int))) (.a1 (wI ((i:Int)+(1:Int)) ((i+1:Nat):Int) q10))))) (nx _ rfl)
     simp only[aB,hd];omega
   · have hz:ys.getD i 0=0:=by simp[mQ,Nat.le_of_not_lt hyl]
     refine cP (p:=(i<xs.length)/\((i:Int)<((aG xs).length:Int))/\(0<=(xs.getD i 0:Int)/\(xs.getD i 0:Int)<=18446744073709551615)/\(0<=(c:Int)+(xs.getD i 0:Int)/\(c:Int)+(xs.getD i 0:Int)<=18446744073709551615)/\((i:Int)<(((xs.length+1):Nat):Int))/\(0+i<(aG ds).length)/\(-9223372036854775808<=(i:Int)+(1:Int)/\(i:Int)+(1:Int)<=9223372036854775807)) ?_ fun⟨q0,q1,q2,q3,q4,q5,q6⟩=>gN wS [0,1,5,6,20,21,4] [(22,tt),(27,.cptr [.int .u32 (xs.getD i 0:Int)] 0),(29,.int .u64 (xs.getD i 0:Int)),(30,.int .u64 ((c+xs.getD i 0:Nat):Int)),(34,ff),(45,.int .u32 (((c+xs.getD i 0) % 4294967296:Nat):Int)),(48,.int .u64 (((c+xs.getD i 0)/4294967296:Nat):Int)),(49,.i6 ((i+1:Nat):Int))] (.c6 (iT v0) (Ref.cd32 q0) (nn i) q1 (wU (xs.getD i 0:Int) (xs.getD i 0:Int) q2) (wU ((c:Int)+(xs.getD i 0:Int)) ((c+xs.getD i 0:Nat):Int) q3) (.c6 (iF (show ¬ ((i:Int)<((aG ys).length:Int)) by rw[aB];omega)) (show Ref (.int .u32 (IntKind.u32.wrap ((c+xs.getD i 0:Nat):Int))) (.int .u32 (((c+xs.getD i 0) % 4294967296:Nat):Int)) from Ref.md32 (by rfl)) (nn i) q4 q5 (show Ref (.int .u64 (((c+xs.getD i 0:Nat):Int).fdiv (2^(min (32:Int).toNat 64)))) (.int .u64 (((c+xs.getD i 0)/4294967296:Nat):Int)) from Ref.shrc (c:=min (Int.toNat _) _) (by rfl) (by decide)) (.a2 (dc (0<=(32:Int))) (wI ((i:Int)+(1:Int)) ((i+1:Nat):Int) q6)))) (nx _ (by rw[hz,Nat.add_zero]))
     simp only[aB,hd];omega
theorem MG:bQ 203 PQ:=fun args r ob h ho=>by
 unfold PQ at h
 split at h
 · rename_i n B m C
   cases h;have hL:max B C+1<=LIM:=ho _ (by simp);unfold LIM at hL;obtain⟨⟨hx,hxl⟩,hxn⟩:=aO (b:=b32) (by decide) n;obtain⟨⟨hy,hyl⟩,hyn⟩:=aO (b:=b32) (by decide) m;refine af Tryz.f203 fun S w0=> ?_
   refine Good.natlt (n:=n) (B:=B) 0 rfl fun hn=>Good.natlt (n:=m) (B:=C) 1 rfl fun hm=> ?_
   refine Good.weak 58 [(0,.list 1 (aG (aC b32 n))),(1,.list 1 (aG (aC b32 m)))] (by kernel_rfl) (.cons Ref.opn (.cons Ref.opn .nil)) ?_;have l1:=Dig.len ⟨hx,hxl⟩ (by rw[hxn];exact hn);have l2:=Dig.len ⟨hy,hyl⟩ (by rw[hyn];exact hm);generalize aC b32 n=xs at*;generalize aC b32 m=ys at*
   have hB:n+m<2^(max B C+1):=by
     have h1:=Nat.pow_le_pow_right (by decide:0<2) (Nat.le_max_left B C);have h2:=Nat.pow_le_pow_right (by decide:0<2) (Nat.le_max_right B C);rw[Nat.pow_succ];omega
   by_cases hlt:xs.length<ys.length
   · refine cP (p:=(-9223372036854775808<=((aG ys).length:Int)+(1:Int)/\((aG ys).length:Int)+(1:Int)<=9223372036854775807)/\(4*(((aG ys).length+1:Nat):Int)<=281474976710656)/\((((aG ys).length+1:Nat):Int)<=(big:Int))) (by simp only[aB];unfold big;omega) fun⟨q0,q1,q2⟩=>gN wS [0,1,5,6,20,21] [(12,tt),(17,.i6 (((aG ys).length+1:Nat):Int))] (.a6 (iT (show((aG xs).length:Int)<((aG ys).length:Int) by simp only[aB];omega)) (wI ((((aG ys).length:Nat):Int)+(1:Int)) (((aG ys).length+1:Nat):Int) q0) (rfl:(((aG ys).length+1:Nat):Int)=(((aG ys).length+1:Nat):Int)) (nn ((aG ys).length+1)) q1 q2) (t:=JY) (σ:=slots 58 [(0,.list 1 (aG ys)),(1,.list 1 (aG xs)),(5,.own 0 1 0 ((aG ys).length+1)),(6,.int .u64 (0:Int)),(20,.i6 ((aG ys).length:Int)),(21,.i6 (0:Int))]) (h:=[some ⟨362,1,true,(List.replicate ((aG ys).length+1) [.int .u32 (0:Int)]),none⟩]) ?_
     rw[mP];refine DC (by rw[aB]) hy hx (by omega) (by unfold big;omega) (by omega) hB _ 0 0 _ rfl (by omega) (by omega) (by simp[aB]) (nS (by decide)) (by simp[aH])
   · refine cP (p:=(-9223372036854775808<=((aG xs).length:Int)+(1:Int)/\((aG xs).length:Int)+(1:Int)<=9223372036854775807)/\(4*(((aG xs).length+1:Nat):Int)<=281474976710656)/\((((aG xs).length+1:Nat):Int)<=(big:Int))) (by simp only[aB];unfold big;omega) fun⟨q0,q1,q2⟩=>gN wS [0,1,5,6,20,21] [(12,ff),(17,.i6 (((aG xs).length+1:Nat):Int))] (.a6 (iF (show ¬ ((((aG xs).length:Nat):Int)<((aG ys).length:Int)) by simp only[aB];omega)) (wI ((((aG xs).length:Nat):Int)+(1:Int)) (((aG xs).length+1:Nat):Int) q0) (rfl:(((aG xs).length+1:Nat):Int)=(((aG xs).length+1:Nat):Int)) (nn ((aG xs).length+1)) q1 q2) (t:=JY) (σ:=slots 58 [(0,.list 1 (aG xs)),(1,.list 1 (aG ys)),(5,.own 0 1 0 ((aG xs).length+1)),(6,.int .u64 (0:Int)),(20,.i6 ((aG xs).length:Int)),(21,.i6 (0:Int))]) (h:=[some ⟨362,1,true,(List.replicate ((aG xs).length+1) [.int .u32 (0:Int)]),none⟩]) ?_
     rw[mP];refine DC (by rw[aB]) hx hy (by omega) (by unfold big;omega) (by omega) hB _ 0 0 _ rfl (by omega) (by omega) (by simp[aB]) (nS (by decide)) (by simp[aH])
 · cases h
end
def PR:KF
 | [.agg [.q x B]]=>some (.nat x.den (B+1),[max B 64+1<=LIM])
 | _=>none
theorem CK:bQ 111 PR:=by
 refine cK Tryz.f111 fun _ _ _ S w0 h ho=> ?_
 unfold PR at h;split at h <;> cases h;rename_i x B;have o1:=ho.one;have L:=dR;have K:=(kn.cons MG).cons CG;refine Good.qlt (x:=x) (B:=B) 0 rfl fun q1 q2=> ?_
 refine rF K [] (.a3 (dc (0<=(1:Int))) (dc ((1:Int)<18446744073709551616)) o1) (V:=.nat ((x.den-1)+1) (max B 64+1)) ?_
 rw[By];exact Ref.natB (by have:=By x;rw[Nat.pow_succ];omega)
def Vf:KF
 | [.agg [.q x B],.agg [.q y C]]=>some (.agg [.q (x*y) (B+C+2)],[B+C+200<=LIM])
 | _=>none
theorem Fp:bQ 29 Vf:=by
 refine cK Tryz.f29 fun _ _ _ S w0 h ho=> ?_
 unfold Vf at h;split at h <;> cases h;rename_i x B y C;have o1:=ho.one;have L:=dR;have K:=(((kn.cons Gz).cons Gk).cons CK).cons Ak;refine rF K [] (.a6 (om (B+C+128<=LIM)) (om (max B 64+1<=LIM)) (om (max C 64+1<=LIM)) (om ((B+1)+(C+1)+128<=LIM)) (show 0<(x.den*y.den) by exact Nat.mul_pos x.den_pos y.den_pos) (om (max (B+C) ((B+1)+(C+1))+128<=LIM))) (V:=.agg [.q (mkRat (iL (!((decide (x.num<0))==(decide (y.num<0)))) (x.num.natAbs*y.num.natAbs)) (x.den*y.den)) (max (B+C) ((B+1)+(C+1)))]) ?_
 refine Ref.q1 ?_ (by omega);rw[uJ,wD,FO]
def uK:=(((kn.cons JX).cons Th).cons Ps).cons Fp
noncomputable abbrev Ly:List Item:=[.code (aN [1,1,1,1,1,0,1,0,0] (aA Tryz.f24)),.inLoop (aN [1,1,1,1,1,0,1,0,0] (aA Tryz.f24)),.inBlock 0,.code (aN [1,1,1,1,1,1] (aA Tryz.f24))]
def GH (n d:Int):Rat:=(Int.cast n:Rat)/(Int.cast (if d=0 then 1 else d):Rat)
def iZ (n d p:Int):Rat:=GH n d^(p.toNat % 4+1)
def Lz (n d p:Int):Prop:=(-9223372036854775808:Int)<=n/\n<=(9223372036854775807:Int)/\(-9223372036854775808:Int)<=d/\d<=(9223372036854775807:Int)/\0<=p/\p<=255
def Vg:KF
 | [.agg [.int .i64 n,.int .i64 d,.int .u8 p]]=>some (.tup [.agg [.q (iZ n d p) 300],.agg [.rq (iZ n d p) (iZ n d p).den 300]],[Lz n d p])
 | _=>none
section
variable {S:Nat->Prop} {w0:World}
theorem GI (n d:Int) (p:Nat) (x:Rat):∀ (f k:Nat) (y:Rat) (E F:Nat),k+f=p % 4->y=x^(k+1)->E=64+66*k->F=64+64*k->
   GF 24 S w0 (.tup [.agg [.q (x^(p % 4+1)) 300],.agg [.rq (x^(p % 4+1)) (x^(p % 4+1)).den 300]])
   Ly
   ⟨slots 44 [(1,.ptr 0 3 0 0),(2,.ptr 1 3 0 0),(3,.ptr 2 4 0 0),(4,.ptr 3 3 0 0),(6,.ptr 4 4 0 0),(7,.ptr 5 3 0 0),(8,.ptr 6 4 0 0),(9,.int .u8 ((k:Nat):Int))],
     [some ⟨29,3,false,[[(.i6 n),(.i6 d),(.int .u8 ((p:Nat):Int))]],none⟩,some ⟨56,3,false,[[(.q 0 0)]],none⟩,some ⟨66,4,false,[[(.rq 0 0 0)]],none⟩,some ⟨56,3,false,[[(.q x 64)]],none⟩,some ⟨66,4,false,[[(.rq x x.den 64)]],none⟩,some ⟨56,3,false,[[(.q y E)]],none⟩,some ⟨66,4,false,[[(.rq y y.den F)]],none⟩]⟩:=by
 intro f;have v0:Ref (.int .u8 ((p:Int).tmod (4:Int))) (.int .u8 ((p % 4:Nat):Int)):=Ref.rem (a:=p) (b:=4) rfl rfl
 induction f with
 | zero=>
   intro k y E F h hy hE hF;have hk:k=p % 4:=by omega
   subst hy;subst hE;subst hF;refine rF uK [(32,.int .u8 ((p % 4:Nat):Int)),(33,ff)] (.a3 v0 (dc ((4:Int)≠0)) (iF (om (¬ ((k:Int)<((p % 4:Nat):Int)))))) (V:=.tup [.agg [.q (x^(k+1)) (64+66*k)],.agg [.rq (x^(k+1)) (x^(k+1)).den (64+64*k)]]) ?_
   rw[<- hk];show Ref (.tup [.agg [.q (x^(k+1)) (64+66*k)],.agg [.rq (x^(k+1)) (x^(k+1)).den (64+64*k)]]) (.tup [.agg [.q (x^(k+1)) 300],.agg [.rq (x^(k+1)) (x^(k+1)).den 300]]);have h1:64+66*k<=300:=by omega
   have h2:64+64*k<=300:=by omega
   exact Ref.tup2 (Ref.agg (RefC.q_le h1)) (Ref.agg (RefC.rq_le h2)) rfl rfl rfl rfl
 | succ f ih=>
   intro k y E F h hy hE hF;refine gR uK none [1,2,3,4,6,7,8,9] [0,1,2,3,4,5,6] [(32,.int .u8 ((p % 4:Nat):Int)),(33,tt),(35,.int .u8 ((k+1:Nat):Int))] (.c6 v0 (dc ((4:Int)≠0)) (iT (om ((k:Int)<((p % 4:Nat):Int)))) (show E+64+200<=LIM by unfold LIM;omega) (rfl:y.den=y.den) (rfl:x.den=x.den) (.a2 (show max F 64+max 64 64+(max F 64+max 64 64)+300<=LIM by unfold LIM;omega) (wB ((k:Int)+(1:Int)) ((k+1:Nat):Int)))) (t:=Ly) (σ:=slots 44 [(1,.ptr 0 3 0 0),(2,.ptr 1 3 0 0),(3,.ptr 2 4 0 0),(4,.ptr 3 3 0 0),(6,.ptr 4 4 0 0),(7,.ptr 5 3 0 0),(8,.ptr 6 4 0 0),(9,.int .u8 ((k+1:Nat):Int))]) (h:=[some ⟨29,3,false,[[.i6 n,.i6 d,.int .u8 (p:Int)]],none⟩,some ⟨56,3,false,[[.q 0 0]],none⟩,some ⟨66,4,false,[[.rq 0 0 0]],none⟩,some ⟨56,3,false,[[.q x 64]],none⟩,some ⟨66,4,false,[[.rq x x.den 64]],none⟩,some ⟨56,3,false,[[.q (y*x) (E+64+2)]],none⟩,some ⟨66,4,false,[[.rq (y*x) ((y*x).den) (max F 64+max 64 64)]],none⟩]) ?_
   exact ih (k+1) (y*x) _ _ (by omega) (by rw[hy,Rat.pow_succ x (k+1)]) (by omega) (by omega)
end
theorem SQ:bQ 24 Vg:=by
 refine cK Tryz.f24 fun _ _ _ S w0 h ho=> ?_
 unfold Vg at h;split at h <;> cases h;rename_i n d p;obtain⟨o1,o2,o3,o4,o5,o6⟩:Lz n d p:=ho _ (by simp);clear ho;obtain⟨p,rfl⟩:=Int.eq_ofNat_of_zero_le o5;have hp:(((p:Nat):Int)).toNat=p:=by simp
 unfold iZ;rw[hp]
 by_cases hd:d=0
 · have hB:GH n d=(Int.cast n:Rat)/(Int.cast 1:Rat):=by unfold GH;rw[if_pos hd]
   rw[hB];have v0:(-9223372036854775808:Int)<=1:=by decide
   have v1:1<=(9223372036854775807:Int):=by decide
   exact gR uK none [1,2,3,4,6,7,8,9] [0,1,2,4,6,7,8] [(12,tt)] (.c6 (iT hd) o1 o2 v0 v1 o1 (.a4 o2 v0 v1 (dc ((1:Int)≠0)))) (GI n 1 p _ (p % 4) 0 _ _ _ (by omega) (Rat.pow_one _).symm rfl rfl)
 · have hB:GH n d=(Int.cast n:Rat)/(Int.cast d:Rat):=by unfold GH;rw[if_neg hd]
   rw[hB];exact gR uK none [1,2,3,4,6,7,8,9] [0,1,2,4,6,7,8] [(12,ff)] (.c6 (iF hd) o1 o2 o3 o4 o1 (.a4 o2 o3 o4 hd)) (GI n d p _ (p % 4) 0 _ _ _ (by omega) (Rat.pow_one _).symm rfl rfl)
def Vh:KF
 | [.agg [.int .i64 n,.int .i64 d,.int .u8 p,.int .i64 m,.int .i64 e,.int .u8 r]]=>some (.tup [.agg [.q (iZ n d p) 300,.q (iZ m e r) 300],.agg [.rq (iZ n d p) (iZ n d p).den 300,.rq (iZ m e r) (iZ m e r).den 300]],[Lz n d p,Lz m e r])
 | _=>none
theorem SR:bQ 23 Vh:=by
 refine cK Tryz.f23 fun _ _ _ S w0 h ho=> ?_
 unfold Vh at h;split at h <;> cases h;rename_i n d p m e r;obtain⟨o1,o2⟩:=ho.e2;have K:=kn.cons SQ;exact rR K [] (.a2 o1 o2)
end Go.Av
namespace Go.Av
open Go.RowKit
structure NumD where
 n:Int
 d:Int
 p:Int
 deriving Inhabited
structure SpotD where
 x:NumD
 z:NumD
 deriving Inhabited
structure PtD where
 x:Rat
 z:Rat
 deriving Inhabited
def NumD.ok (a:NumD):Prop:=Lz a.n a.d a.p
def NumD.val (a:NumD):Rat:=iZ a.n a.d a.p
def SpotD.ok (a:SpotD):Prop:=a.x.ok/\a.z.ok
def SpotD.pt (a:SpotD):PtD:=⟨a.x.val,a.z.val⟩
def unNum (a:NumD):List AV:=[.int .i64 a.n,.int .i64 a.d,.int .u8 a.p]
def unSpot (s:SpotD):List AV:=[.int .i64 s.x.n,.int .i64 s.x.d,.int .u8 s.x.p,.int .i64 s.z.n,.int .i64 s.z.d,.int .u8 s.z.p]
def jA:List AV->NumD
 | [.int _ n,.int _ d,.int _ p]=>⟨n,d,p⟩
 | _=>default
def cY:List AV->SpotD
 | [.int _ n,.int _ d,.int _ p,.int _ m,.int _ e,.int _ q]=>⟨⟨n,d,p⟩,⟨m,e,q⟩⟩
 | _=>default
def eY (B:Nat) (a:PtD):List AV:=[.q a.x B,.q a.z B]
def hG (B:Nat) (a:PtD):List AV:=[.rq a.x a.x.den B,.rq a.z a.z.den B]
theorem kM {α:Type} {f:List AV->α} {g:α->List AV} (h:∀ a,f (g a)=a) (l:List α):(l.map g).map f=l:=by
 rw[List.map_map];conv=>rhs;rw[<- List.map_id l]
 exact List.map_congr_left fun a _=>h a
theorem wT (l:List NumD):(l.map unNum).map jA=l:=kM (fun _=>rfl) l
theorem dJ (l:List SpotD):(l.map unSpot).map cY=l:=kM (fun _=>rfl) l
theorem BH {α:Type} [Inhabited α] {f:α->List AV} {xs:List α} {i:Nat} (h:i<xs.length):(xs.map f).getD i []=f (xs.getD i default):=by
 simp[List.getD_eq_getElem?_getD,List.getElem?_eq_getElem h]
theorem Ref.cmap {α:Type} [Inhabited α] {f:α->List AV} {xs:List α} {i:Nat} (h:i<xs.length):Ref (.cptr ((xs.map f).getD i []) 0) (.cptr (f (xs.getD i default)) 0):=Ref.eq (by rw[BH h])
theorem eA {α:Type} [Inhabited α] {f:α->List AV} (xs:List α):xs.map f=(List.range xs.length).map fun i=>f (xs.getD i default):=by
 refine List.ext_getElem (by simp) fun i h1 h2=> ?_
 simp at h1;simp[List.getD_eq_getElem?_getD,h1]
theorem dN {α:Type} [Inhabited α] {xs:List α} {i:Nat} (h:i<xs.length):xs.getD i default∈xs:=by
 simp[List.getD_eq_getElem?_getD,List.getElem?_eq_getElem h]
section
theorem wW (n:Nat) (X Y:Nat->List AV) (st:AV->AV->Nat->List (Option ABlk)->St) (k l e e' ty ty':Nat)
   (h0:0<n->Good P f S0 C0 w0 Post todo (st (.own k e 0 1) (.own l e' 0 1) 1 [some ⟨ty,e,true,[X 0],none⟩,some ⟨ty',e',true,[Y 0],none⟩])->Good P f S0 C0 w0 Post todo (st .nil .nil 0 []))
   (hs:∀ i A B,0<i->i<n->A.length=i->B.length=i->Good P f S0 C0 w0 Post todo (st (.own k e 0 (i+1)) (.own l e' 0 (i+1)) (i+1) [some ⟨ty,e,true,A++ [X i],none⟩,some ⟨ty',e',true,B++ [Y i],none⟩])->
     Good P f S0 C0 w0 Post todo (st (.own k e 0 i) (.own l e' 0 i) i [some ⟨ty,e,true,A,none⟩,some ⟨ty',e',true,B,none⟩]))
   (hz:∀ A B,0<n->A.length=n->B.length=n->Good P f S0 C0 w0 Post todo (st (.list e A) (.list e' B) n [])->Good P f S0 C0 w0 Post todo (st (.own k e 0 n) (.own l e' 0 n) n [some ⟨ty,e,true,A,none⟩,some ⟨ty',e',true,B,none⟩]))
   (hn:n=0->Good P f S0 C0 w0 Post todo (st (.list e []) (.list e' []) 0 [])->Good P f S0 C0 w0 Post todo (st .nil .nil 0 []))
   (hX:XS=(List.range n).map X) (hY:YS=(List.range n).map Y) (hend:Good P f S0 C0 w0 Post todo (st (.list e XS) (.list e' YS) n [])):Good P f S0 C0 w0 Post todo (st .nil .nil 0 []):=by
 subst hX;subst hY
 by_cases hp:n=0
 · subst hp;exact hn rfl hend
 · have key:∀ f' i,0<i->i+f'=n->Good P f S0 C0 w0 Post todo (st (.own k e 0 i) (.own l e' 0 i) i [some ⟨ty,e,true,(List.range i).map X,none⟩,some ⟨ty',e',true,(List.range i).map Y,none⟩]):=by
     intro f'
     induction f' with
     | zero=>
       intro i hi h;have:i=n:=by omega
       subst this;exact hz _ _ (by omega) (by simp) (by simp) hend
     | succ f' ih=>
       intro i hi h;have nx:=ih (i+1) (by omega) (by omega);rw[List.range_succ,List.map_append,List.map_append] at nx;exact hs i _ _ hi (by omega) (by simp) (by simp) nx
   exact h0 (by omega) (key (n-1) 1 (by omega) (by omega))
theorem Good.weakB (l i:Nat) (hl:h[l]? =some (some b)) (he:b.elems[i]? =some el) (hr:RefC el el')
   (hg:Good P f S0 C0 w0 Post todo ⟨σ,h.set l (some { b with elems:=b.elems.set i el' })⟩):Good P f S0 C0 w0 Post todo ⟨σ,h⟩:=by
 refine hg.map fun ρ D a w R=>⟨ρ,D, ?_⟩
 have hlen:l<h.length:=(List.getElem?_eq_some_iff.1 hl).1
 have hget:∀ (j:Nat) (c:ABlk),(h.set l (some { b with elems:=b.elems.set i el' }))[j]? =some (some c)->∃ d,h[j]? =some (some d)/\c.pin=d.pin/\(c=d\/j=l/\d=b/\c={ b with elems:=b.elems.set i el' }):=by
   intro j c hc;rw[List.getElem?_set] at hc
   split at hc
   · rename_i hjl;subst hjl
     injection hc with hc;injection hc with hc;subst hc;exact⟨b,hl,rfl,.inr ⟨rfl,rfl,rfl⟩⟩
   · exact⟨c,hc,rfl,.inl rfl⟩
 have hget':∀ (j:Nat) (d:ABlk),h[j]? =some (some d)->∃ c,(h.set l (some { b with elems:=b.elems.set i el' }))[j]? =some (some c):=by
   intro j d hd;rw[List.getElem?_set]
   split
   · rename_i hjl;subst hjl
     exact⟨_,rfl⟩
   · exact⟨d,hd⟩
 have hS:Sof S0 ρ (h.set l (some { b with elems:=b.elems.set i el' }))=Sof S0 ρ h:=by
   funext k;apply propext
   constructor
   · rintro(h | ⟨j,c,hc,e⟩)
     · exact .inl h
     · obtain⟨d,hd,_⟩:=hget j c hc;exact .inr ⟨j,d,hd,e⟩
   · rintro(h | ⟨j,d,hd,e⟩)
     · exact .inl h
     · obtain⟨c,hc⟩:=hget' j d hd;exact .inr ⟨j,c,hc,e⟩
 exact {
   defers:=R.defers
   len:=R.len
   tmps:=fun t v hv=>by rw[hS];exact R.tmps t v hv
   heap := fun j c hc=>by
     obtain⟨d,hd,_,hcd⟩:=hget j c hc;rw[hS];rcases hcd with rfl | ⟨rfl,rfl,rfl⟩
     · exact R.heap j c hd
     · obtain⟨h1,arr,h2,h3,h4⟩:=R.heap j d hd
       refine⟨h1,arr,h2,by simpa using h3,fun m el2 hm=> ?_⟩
       dsimp only at hm ⊢
       rw[List.getElem?_set] at hm
       split at hm
       · rename_i him;subst him
         split at hm
         · injection hm with hm;subst hm
           exact hr _ _ _ _ _ (h4 i el he)
         · cases hm
       · exact h4 m el2 hm
   inj:=fun j j' c c' hc hc' e=>by
     obtain⟨d,hd,_⟩:=hget j c hc;obtain⟨d',hd',_⟩:=hget j' c' hc';exact R.inj j j' d d' hd hd' e
   lt:=R.lt
   dlt:=fun i hi=>by
     have:=R.dlt i hi;simpa using this
   chg:=R.chg
   mine:=fun j c hc=>by
     obtain⟨d,hd,hp,_⟩:=hget j c hc
     have:=R.mine j d hd;unfold Cq at this ⊢
     rw[hp];exact this }
end
end Go.Av
namespace Go.Av
open Go.Proofs Go.RowKit
def BI:ByteArray:=ByteArray.mk #[97,98,99,100,101,102,103,104,105,106,107,108,109,110,111,112,113,114,115,116,117,118,119,120,121,122]
def tS (i:Nat):ByteArray:=if i<26 then BI.extract i (i+1) else ByteArray.mk #[]
def PS:KF
 | [.int .i64 i]=>some (.str (tS i.toNat),[0<=i,i.toNat<=4611686018427387904])
 | _=>none
theorem Ti:bQ 102 PS:=by
 refine cK Tryz.f102 fun _ _ _ S w0 h ho=> ?_
 unfold PS at h;split at h <;> cases h;rename_i i;obtain⟨o1000,o1⟩:=ho.e2;obtain⟨i,rfl⟩:=Int.eq_ofNat_of_zero_le o1000;clear o1000;replace o1:i<=4611686018427387904:=o1;have hz:BI.size=26:=by decide
 have v0:Ref (.str (ByteArray.mk #[97,98,99,100,101,102,103,104,105,106,107,108,109,110,111,112,113,114,115,116,117,118,119,120,121,122])) (.str BI):=by exact rr
 by_cases h1:((i:Nat):Int)<((BI.size:Nat):Int)
 · refine rF .nil [(3,.str BI),(7,tt),(11,.i6 ((i+1:Nat):Int))] (.c6 v0 (iT h1) (wI ((i:Int)+(1:Int)) ((i+1:Nat):Int) (by omega)) (nn (i+1)) (om (((i+1:Nat):Int)<=(BI.size:Int))) (nn i) (.a1 (om ((i:Int)<=((i+1:Nat):Int))))) (V:=.str (BI.extract i (i+1))) (r:=.str (tS i)) ?_
   unfold tS;rw[if_pos (by omega)];exact rr
 · refine rF .nil [(3,.str BI),(7,ff)] (.a2 v0 (iF h1)) (V:=.str (ByteArray.mk #[])) (r:=.str (tS i)) ?_
   unfold tS;rw[if_neg (by omega)];exact rr
end Go.Av
namespace Go.Av
open Go.RowKit
def BJ:List AV->PtD
 | [.q x _,.q z _]=>⟨x,z⟩
 | _=>default
theorem uL {B:Nat} (l:List PtD):(l.map (eY B)).map BJ=l:=kM (fun v=>by cases v;rfl) l
structure LimbD where
 par:Int
 at_:SpotD
 c:SpotD
 ma:NumD
 inr:NumD
 low:NumD
 high:NumD
 shape:List SpotD
 deriving Inhabited
structure BodyD where
 name:ByteArray
 par:Int
 at_:PtD
 c:PtD
 ma:Rat
 inr:Rat
 low:Rat
 high:Rat
 shape:List PtD
 deriving Inhabited
def dF (v:LimbD):List AV:=[.int .i64 v.par,.int .i64 v.at_.x.n,.int .i64 v.at_.x.d,.int .u8 v.at_.x.p,.int .i64 v.at_.z.n,.int .i64 v.at_.z.d,.int .u8 v.at_.z.p,.int .i64 v.c.x.n,.int .i64 v.c.x.d,.int .u8 v.c.x.p,.int .i64 v.c.z.n,.int .i64 v.c.z.d,.int .u8 v.c.z.p,.int .i64 v.ma.n,.int .i64 v.ma.d,.int .u8 v.ma.p,.int .i64 v.inr.n,.int .i64 v.inr.d,.int .u8 v.inr.p,.int .i64 v.low.n,.int .i64 v.low.d,.int .u8 v.low.p,.int .i64 v.high.n,.int .i64 v.high.d,.int .u8 v.high.p,.list 6 (v.shape.map unSpot)]
def aE (B:Nat) (v:BodyD):List AV:=[.str v.name,.int .i64 v.par,.q v.at_.x B,.q v.at_.z B,.q v.ma B,.q v.inr B,.q v.c.x B,.q v.c.z B,.q v.low B,.q v.high B,.list 6 (v.shape.map (eY B))]
def aK (B:Nat) (v:BodyD):List AV:=[.int .i64 v.par,.rq v.at_.x v.at_.x.den B,.rq v.at_.z v.at_.z.den B,.rq v.ma v.ma.den B,.rq v.inr v.inr.den B,.rq v.c.x v.c.x.den B,.rq v.c.z v.c.z.den B,.rq v.low v.low.den B,.rq v.high v.high.den B,.list 8 (v.shape.map (hG B))]
def reBody:List AV->BodyD
 | [.str name,.int _ par,.q at_x _,.q at_z _,.q ma _,.q inr _,.q cx _,.q cz _,.q low _,.q high _,.list _ shape]=>⟨name,par,⟨at_x,at_z⟩,⟨cx,cz⟩,ma,inr,low,high,shape.map BJ⟩
 | _=>default
theorem iN {B:Nat} (l:List BodyD):(l.map (aE B)).map reBody=l:=kM (fun v=>by cases v;simp only[reBody,aE,uL]) l
def CL:List AV->LimbD
 | [.int _ par,.int _ at_xn,.int _ at_xd,.int _ at_xp,.int _ at_zn,.int _ at_zd,.int _ at_zp,.int _ cxn,.int _ cxd,.int _ cxp,.int _ czn,.int _ czd,.int _ czp,.int _ man,.int _ mad,.int _ map,.int _ inrn,.int _ inrd,.int _ inrp,.int _ lown,.int _ lowd,.int _ lowp,.int _ highn,.int _ highd,.int _ highp,.list _ shape]=>⟨par,⟨⟨at_xn,at_xd,at_xp⟩,⟨at_zn,at_zd,at_zp⟩⟩,⟨⟨cxn,cxd,cxp⟩,⟨czn,czd,czp⟩⟩,⟨man,mad,map⟩,⟨inrn,inrd,inrp⟩,⟨lown,lowd,lowp⟩,⟨highn,highd,highp⟩,shape.map cY⟩
 | _=>default
theorem ES (l:List LimbD):(l.map dF).map CL=l:=kM (fun v=>by cases v;simp only[CL,dF,dJ]) l
def LimbD.ok (v:LimbD):Prop:=v.at_.ok/\v.c.ok/\v.ma.ok/\v.inr.ok/\v.low.ok/\v.high.ok/\(∀ s∈v.shape,s.ok)/\v.shape.length*128<=140737488355328
def LimbD.real (name:ByteArray) (v:LimbD):BodyD:=⟨name,v.par,v.at_.pt,v.c.pt,v.ma.val,v.inr.val,v.low.val,v.high.val,v.shape.map SpotD.pt⟩
structure CordD where
 a:Int
 b:Int
 from_:SpotD
 to:SpotD
 k:NumD
 deriving Inhabited
structure CordyD where
 a:Int
 b:Int
 from_:PtD
 to:PtD
 k:Rat
 deriving Inhabited
def cA (v:CordD):List AV:=[.int .i64 v.a,.int .i64 v.b,.int .i64 v.from_.x.n,.int .i64 v.from_.x.d,.int .u8 v.from_.x.p,.int .i64 v.from_.z.n,.int .i64 v.from_.z.d,.int .u8 v.from_.z.p,.int .i64 v.to.x.n,.int .i64 v.to.x.d,.int .u8 v.to.x.p,.int .i64 v.to.z.n,.int .i64 v.to.z.d,.int .u8 v.to.z.p,.int .i64 v.k.n,.int .i64 v.k.d,.int .u8 v.k.p]
def aJ (B:Nat) (v:CordyD):List AV:=[.int .i64 v.a,.int .i64 v.b,.q v.from_.x B,.q v.from_.z B,.q v.to.x B,.q v.to.z B,.q v.k B]
def bL (B:Nat) (v:CordyD):List AV:=[.int .i64 v.a,.int .i64 v.b,.rq v.from_.x v.from_.x.den B,.rq v.from_.z v.from_.z.den B,.rq v.to.x v.to.x.den B,.rq v.to.z v.to.z.den B,.rq v.k v.k.den B]
def cV:List AV->CordyD
 | [.int _ a,.int _ b,.q from_x _,.q from_z _,.q tox _,.q toz _,.q k _]=>⟨a,b,⟨from_x,from_z⟩,⟨tox,toz⟩,k⟩
 | _=>default
theorem kN {B:Nat} (l:List CordyD):(l.map (aJ B)).map cV=l:=kM (fun v=>by cases v;simp only[cV,aJ]) l
def An:List AV->CordD
 | [.int _ a,.int _ b,.int _ from_xn,.int _ from_xd,.int _ from_xp,.int _ from_zn,.int _ from_zd,.int _ from_zp,.int _ toxn,.int _ toxd,.int _ toxp,.int _ tozn,.int _ tozd,.int _ tozp,.int _ kn,.int _ kd,.int _ kp]=>⟨a,b,⟨⟨from_xn,from_xd,from_xp⟩,⟨from_zn,from_zd,from_zp⟩⟩,⟨⟨toxn,toxd,toxp⟩,⟨tozn,tozd,tozp⟩⟩,⟨kn,kd,kp⟩⟩
 | _=>default
theorem ET (l:List CordD):(l.map cA).map An=l:=kM (fun v=>by cases v;simp only[An,cA]) l
def CordD.ok (v:CordD):Prop:=v.from_.ok/\v.to.ok/\v.k.ok
def CordD.real (v:CordD):CordyD:=⟨v.a,v.b,v.from_.pt,v.to.pt,v.k.val⟩
structure DriveD where
 body:Int
 t:NumD
 h:NumD
 c:NumD
 m:NumD
 deriving Inhabited
structure MotorD where
 body:Int
 t:Rat
 h:Rat
 c:Rat
 m:Rat
 deriving Inhabited
def dK (v:DriveD):List AV:=[.int .i64 v.body,.int .i64 v.t.n,.int .i64 v.t.d,.int .u8 v.t.p,.int .i64 v.h.n,.int .i64 v.h.d,.int .u8 v.h.p,.int .i64 v.c.n,.int .i64 v.c.d,.int .u8 v.c.p,.int .i64 v.m.n,.int .i64 v.m.d,.int .u8 v.m.p]
def aP (B:Nat) (v:MotorD):List AV:=[.int .i64 v.body,.q v.t B,.q v.h B,.q v.c B,.q v.m B]
def jB (B:Nat) (v:MotorD):List AV:=[.int .i64 v.body,.rq v.t v.t.den B,.rq v.h v.h.den B,.rq v.c v.c.den B,.rq v.m v.m.den B]
def gB:List AV->MotorD
 | [.int _ body,.q t _,.q h _,.q c _,.q m _]=>⟨body,t,h,c,m⟩
 | _=>default
theorem pZ {B:Nat} (l:List MotorD):(l.map (aP B)).map gB=l:=kM (fun v=>by cases v;simp only[gB,aP]) l
def Ao:List AV->DriveD
 | [.int _ body,.int _ tn,.int _ td,.int _ tp,.int _ hn,.int _ hd,.int _ hp,.int _ cn,.int _ cd,.int _ cp,.int _ mn,.int _ md,.int _ mp]=>⟨body,⟨tn,td,tp⟩,⟨hn,hd,hp⟩,⟨cn,cd,cp⟩,⟨mn,md,mp⟩⟩
 | _=>default
theorem CM (l:List DriveD):(l.map dK).map Ao=l:=kM (fun v=>by cases v;simp only[Ao,dK]) l
def DriveD.ok (v:DriveD):Prop:=v.t.ok/\v.h.ok/\v.c.ok/\v.m.ok
def DriveD.real (v:DriveD):MotorD:=⟨v.body,v.t.val,v.h.val,v.c.val,v.m.val⟩
structure SoleD where
 body:Int
 pts:List SpotD
 fr:NumD
 deriving Inhabited
structure FootD where
 body:Int
 pts:List PtD
 fr:Rat
 deriving Inhabited
def dG (v:SoleD):List AV:=[.int .i64 v.body,.list 6 (v.pts.map unSpot),.int .i64 v.fr.n,.int .i64 v.fr.d,.int .u8 v.fr.p]
def aX (B:Nat) (v:FootD):List AV:=[.int .i64 v.body,.list 6 (v.pts.map (eY B)),.q v.fr B]
def uM (B:Nat) (v:FootD):List AV:=[.int .i64 v.body,.list 8 (v.pts.map (hG B)),.rq v.fr v.fr.den B]
def fC:List AV->FootD
 | [.int _ body,.list _ pts,.q fr _]=>⟨body,pts.map BJ,fr⟩
 | _=>default
theorem sS {B:Nat} (l:List FootD):(l.map (aX B)).map fC=l:=kM (fun v=>by cases v;simp only[fC,aX,uL]) l
def CN:List AV->SoleD
 | [.int _ body,.list _ pts,.int _ frn,.int _ frd,.int _ frp]=>⟨body,pts.map cY,⟨frn,frd,frp⟩⟩
 | _=>default
theorem EU (l:List SoleD):(l.map dG).map CN=l:=kM (fun v=>by cases v;simp only[CN,dG,dJ]) l
def SoleD.ok (v:SoleD):Prop:=(∀ s∈v.pts,s.ok)/\v.pts.length*128<=140737488355328/\v.fr.ok
def SoleD.real (v:SoleD):FootD:=⟨v.body,v.pts.map SpotD.pt,v.fr.val⟩
structure RigD where
 limbs:List LimbD
 springs:List CordD
 tendons:List CordD
 drives:List DriveD
 soles:List SoleD
 deriving Inhabited
structure MachD where
 name:ByteArray
 bodies:List BodyD
 springs:List CordyD
 tendons:List CordyD
 motors:List MotorD
 feet:List FootD
 deriving Inhabited
def cL (r:RigD):List AV:=[.list 26 (r.limbs.map dF),.list 17 (r.springs.map cA),.list 17 (r.tendons.map cA),.list 13 (r.drives.map dK),.list 5 (r.soles.map dG)]
def hH:List AV->RigD
 | [.list _ a,.list _ b,.list _ c,.list _ d,.list _ e]=>⟨a.map CL,b.map An,c.map An,d.map Ao,e.map CN⟩
 | _=>default
def aD (B:Nat) (m:MachD):List AV:=[.str m.name,.list 27 (m.bodies.map (aE B)),.list 17 (m.springs.map (aJ B)),.list 17 (m.tendons.map (aJ B)),.list 13 (m.motors.map (aP B)),.list 5 (m.feet.map (aX B))]
def mS (B:Nat) (m:MachD):List AV:=[.list 34 (m.bodies.map (aK B)),.list 22 (m.springs.map (bL B)),.list 22 (m.tendons.map (bL B)),.list 17 (m.motors.map (jB B)),.list 6 (m.feet.map (uM B))]
def aF:List AV->MachD
 | [.str a,.list _ b,.list _ c,.list _ d,.list _ e,.list _ f]=>⟨a,b.map reBody,c.map cV,d.map cV,e.map gB,f.map fC⟩
 | _=>default
theorem aU {B:Nat} (m:MachD):aF (aD B m)=m:=by cases m;simp only[aF,aD,iN,kN,pZ,sS]
def kO:ByteArray:=ByteArray.mk #[114,105,103]
def nZ (l:List LimbD):List BodyD:=(List.range l.length).map fun i=>(l.getD i default).real (tS i)
def RigD.real (r:RigD):MachD:=⟨kO,nZ r.limbs,r.springs.map CordD.real,r.tendons.map CordD.real,r.drives.map DriveD.real,r.soles.map SoleD.real⟩
def RigD.ok (r:RigD):Prop:=(∀ v∈r.limbs,v.ok)/\(∀ v∈r.springs,v.ok)/\(∀ v∈r.tendons,v.ok)/\(∀ v∈r.drives,v.ok)/\(∀ v∈r.soles,v.ok)/\
 r.limbs.length*1024<=140737488355328/\r.springs.length*1024<=140737488355328/\r.tendons.length*1024<=140737488355328/\r.drives.length*1024<=140737488355328/\r.soles.length*1024<=140737488355328
end Go.Av
namespace Go.Av
open Go.Proofs Go.RowKit
def gC:=kn
noncomputable abbrev DE:List Item:=[.code (aN [1,1,0,1,0,0] (aA Tryz.f20)),.inLoop (aN [1,1,0,1,0,0] (aA Tryz.f20)),.inBlock 0,.code (aN [1,1,1] (aA Tryz.f20))]
noncomputable abbrev LA:List Item:=[.code (aN [1,1,1,0,1,0,0] (aA Tryz.f20)),.inLoop (aN [1,1,1,0,1,0,0] (aA Tryz.f20)),.inBlock 2,.code (aN [1,1,1,1] (aA Tryz.f20))]
def RigD.small (r:RigD):Bool:=decide (r.limbs.length<=8/\r.springs.length<=5/\r.tendons.length<=5/\r.drives.length<=9/\r.soles.length<=5/\(∀ v∈r.limbs,v.shape.length<=6)/\(∀ v∈r.soles,v.pts.length<=6))
def Vi:KF
 | [.agg R]=>some (.bool (hH R).small,[R=cL (hH R)])
 | _=>none
theorem qA   {G:Nat->Prop} (n:Nat) (hend:G n) (hs:∀ i,i<n->G (i+1)->G i):G 0:=by
 have key:∀ f i,i+f=n->G i:=by
   intro f
   induction f with
   | zero => intro i h;have:i=n:=by omega
             subst this;exact hend
   | succ f ih=>intro i h;exact hs i (by omega) (ih (i+1) (by omega))
 exact key n 0 (by omega)
theorem BK {α:Type} [Inhabited α] {xs:List α} {p:α->Prop} (h:∀ j,j<xs.length->p (xs.getD j default)):∀ v∈xs,p v:=fun v hv=>by
 obtain⟨j,hj,rfl⟩:=List.getElem_of_mem hv
 have:=h j hj;simpa[mQ,hj] using this
section
variable {S:Nat->Prop} {w0:World}
theorem Vj {r:RigD} {todo:List Item} {σ:List AV} {h:List (Option ABlk)} {b:Bool} (e:b=r.small) (hσ:σ.getD 2 .any= .bool b):GF 20 S w0 (.bool r.small) (.code .ret::todo) ⟨σ,h⟩:=
 bP aT (fn:=Tryz.f20) (by kernel_rfl) 2 (by kernel_rfl) rfl (by rw[hσ];rfl) (by rw[hσ,e];exact rr)
theorem JZ {r:RigD} (h0:r.limbs.length<=8/\r.springs.length<=5/\r.tendons.length<=5/\r.drives.length<=9/\r.soles.length<=5/\(∀ v∈r.limbs,v.shape.length<=6)):
   GF 20 S w0 (.bool r.small) LA
   ⟨slots 63 [(1,.ptr 0 5 0 0),(4,.i6 ((0:Nat):Int))],[some ⟨27,5,false,[cL r],none⟩]⟩:=by
 refine qA (G:=fun i=>(∀ j,j<i->(r.soles.getD j default).pts.length<=6)->GF 20 S w0 (.bool r.small) LA
   ⟨slots 63 [(1,.ptr 0 5 0 0),(4,.i6 ((i:Nat):Int))],[some ⟨27,5,false,[cL r],none⟩]⟩) r.soles.length ?_ ?_ (fun j hj=>absurd hj (Nat.not_lt_zero j))
 · intro hj
   exact rF gC [(52,ff)] (.a1 (iF (show ¬ ((r.soles.length:Int)<((r.soles.map dG).length:Int)) by rw[bH];omega))) (V:=.bool true) (Ref.bool (decide_eq_true ⟨h0.1,h0.2.1,h0.2.2.1,h0.2.2.2.1,h0.2.2.2.2.1,h0.2.2.2.2.2,BK hj⟩).symm)
 · intro i hlt ih hj
   have v0:(i:Int)<((r.soles.map dG).length:Int):=by rw[bH];omega
   have v1:Ref (.cptr ((r.soles.map dG).getD i []) 0) (.cptr (dG (r.soles.getD i default)) 0):=Ref.cmap hlt
   by_cases c:(r.soles.getD i default).pts.length<=6
   · have hl:=h0.2.2.2.2.1
     exact gN gC [1,2,4] [(52,tt),(58,.cptr (dG (r.soles.getD i default)) 0),(62,ff),(54,.i6 ((i+1:Nat):Int))] (.a6 (iT v0) v1 (nn i) v0 (iF (show ¬ ((6:Int)<(((r.soles.getD i default).pts.map unSpot).length:Int)) by rw[bH];omega)) (wI ((i:Int)+(1:Int)) ((i+1:Nat):Int))) (ih fun j hj'=>if e:j=i then e▸c else hj j (by omega))
   · exact rF gC [(52,tt),(58,.cptr (dG (r.soles.getD i default)) 0),(62,tt)] (.a5 (iT v0) v1 (nn i) v0 (iT (show(6:Int)<(((r.soles.getD i default).pts.map unSpot).length:Int) by rw[bH];omega))) (V:=.bool false) (Ref.bool (decide_eq_false fun h=>c (h.2.2.2.2.2.2 _ (dN hlt))).symm)
theorem Ka {r:RigD} (h0:r.limbs.length<=8/\r.springs.length<=5/\r.tendons.length<=5/\r.drives.length<=9/\r.soles.length<=5):
   GF 20 S w0 (.bool r.small) DE
   ⟨slots 63 [(1,.ptr 0 5 0 0),(3,.i6 ((0:Nat):Int))],[some ⟨27,5,false,[cL r],none⟩]⟩:=by
 refine qA (G:=fun i=>(∀ j,j<i->(r.limbs.getD j default).shape.length<=6)->GF 20 S w0 (.bool r.small) DE
   ⟨slots 63 [(1,.ptr 0 5 0 0),(3,.i6 ((i:Nat):Int))],[some ⟨27,5,false,[cL r],none⟩]⟩) r.limbs.length ?_ ?_ (fun j hj=>absurd hj (Nat.not_lt_zero j))
 · intro hj
   exact gN gC [1,4] [(37,ff)] (.a1 (iF (show ¬ ((r.limbs.length:Int)<((r.limbs.map dF).length:Int)) by rw[bH];omega))) (JZ ⟨h0.1,h0.2.1,h0.2.2.1,h0.2.2.2.1,h0.2.2.2.2,BK hj⟩)
 · intro i hlt ih hj
   have v0:(i:Int)<((r.limbs.map dF).length:Int):=by rw[bH];omega
   have v1:Ref (.cptr ((r.limbs.map dF).getD i []) 0) (.cptr (dF (r.limbs.getD i default)) 0):=Ref.cmap hlt
   by_cases c:(r.limbs.getD i default).shape.length<=6
   · have hl:=h0.1
     refine gN gC [1,2,3] [(37,tt),(43,.cptr (dF (r.limbs.getD i default)) 0),(47,ff),(39,.i6 ((i+1:Nat):Int))] (.a6 (iT v0) v1 (nn i) v0 (iF (show ¬ ((6:Int)<(((r.limbs.getD i default).shape.map unSpot).length:Int)) by rw[bH];omega)) (wI ((i:Int)+(1:Int)) ((i+1:Nat):Int))) (t:=DE) (σ:=slots 63 [(1,.ptr 0 5 0 0),(3,.i6 ((i+1:Nat):Int))]) (h:=[some ⟨27,5,false,[(cL r)],none⟩]) ?_
     exact ih fun j hj' => by by_cases e:j=i
                              · subst e;exact c
                              · exact hj j (by omega)
   · exact rF gC [(37,tt),(43,.cptr (dF (r.limbs.getD i default)) 0),(47,tt)] (.a5 (iT v0) v1 (nn i) v0 (iT (show(6:Int)<(((r.limbs.getD i default).shape.map unSpot).length:Int) by rw[bH];omega))) (V:=.bool false) (Ref.bool (decide_eq_false fun h=>c (h.2.2.2.2.2.1 _ (dN hlt))).symm)
end
theorem VZ:bQ 20 Vi:=by
 refine cK Tryz.f20 fun _ _ _ S w0 h ho=> ?_
 unfold Vi at h;split at h <;> cases h;rename_i R;have o1:=ho.one;clear ho;generalize hH R=r at*;subst o1;have len:∀ {α:Type} {f:α->List AV} {l:List α} {n:Nat},¬ l.length<=n->((n:Nat):Int)<(((l.map f).length:Nat):Int):=fun h=>by rw[bH];omega
 have len':∀ {α:Type} {f:α->List AV} {l:List α} {n:Nat},l.length<=n->¬ ((n:Nat):Int)<(((l.map f).length:Nat):Int):=fun h=>by rw[bH];omega
 by_cases c1:r.limbs.length<=8
 · have v0 :Ref (.bool (decide ((8:Int)<((r.limbs.map dF).length:Int)))) (.bool false):=Ref.bool (decide_eq_false (len' c1))
   by_cases c2:r.springs.length<=5
   · have v1:Ref (.bool (decide ((5:Int)<((r.springs.map cA).length:Int)))) (.bool false):=Ref.bool (decide_eq_false (len' c2))
     by_cases c3:r.tendons.length<=5
     · have v2:Ref (.bool (decide ((5:Int)<((r.tendons.map cA).length:Int)))) (.bool false):=Ref.bool (decide_eq_false (len' c3))
       by_cases c4:r.drives.length<=9
       · have v3:Ref (.bool (decide ((9:Int)<((r.drives.map dK).length:Int)))) (.bool false):=Ref.bool (decide_eq_false (len' c4))
         by_cases c5:r.soles.length<=5
         · refine gN gC [1,2,3] [(9,ff),(15,ff),(21,ff),(27,ff),(32,ff)] (.a5 v0 v1 v2 v3 (show Ref (.bool (decide ((5:Int)<((r.soles.map dG).length:Int)))) (.bool false) from Ref.bool (decide_eq_false (len' c5)))) (t:=DE) (σ:=slots 63 [(1,.ptr 0 5 0 0),(2,.bool false),(3,.i6 (0:Int))]) (h:=[some ⟨27,5,false,[(cL r)],none⟩]) ?_
           exact Good.weak 63 [(1,_),(3,_)] (by kernel_rfl) (.r (.r .nil)) (Ka ⟨c1,c2,c3,c4,c5⟩)
         · exact rF gC [(9,ff),(15,ff),(21,ff),(27,ff),(32,tt)] (.a5 v0 v1 v2 v3 (show Ref (.bool (decide ((5:Int)<((r.soles.map dG).length:Int)))) (.bool true) from Ref.bool (decide_eq_true (len c5)))) (V:=.bool false) (Ref.bool (decide_eq_false fun h=>c5 h.2.2.2.2.1).symm)
       · exact rF gC [(9,ff),(15,ff),(21,ff),(27,tt)] (.a4 v0 v1 v2 (show Ref (.bool (decide ((9:Int)<((r.drives.map dK).length:Int)))) (.bool true) from Ref.bool (decide_eq_true (len c4)))) (V:=.bool false) (Ref.bool (decide_eq_false fun h=>c4 h.2.2.2.1).symm)
     · exact rF gC [(9,ff),(15,ff),(21,tt)] (.a3 v0 v1 (show Ref (.bool (decide ((5:Int)<((r.tendons.map cA).length:Int)))) (.bool true) from Ref.bool (decide_eq_true (len c3)))) (V:=.bool false) (Ref.bool (decide_eq_false fun h=>c3 h.2.2.1).symm)
   · exact rF gC [(9,ff),(15,tt)] (.a2 v0 (show Ref (.bool (decide ((5:Int)<((r.springs.map cA).length:Int)))) (.bool true) from Ref.bool (decide_eq_true (len c2)))) (V:=.bool false) (Ref.bool (decide_eq_false fun h=>c2 h.2.1).symm)
 · exact rF gC [(9,tt)] (.a1 (show Ref (.bool (decide ((8:Int)<((r.limbs.map dF).length:Int)))) (.bool true) from Ref.bool (decide_eq_true (len c1)))) (V:=.bool false) (Ref.bool (decide_eq_false fun h=>c1 h.1).symm)
def rI:=kn
abbrev GJ (ff:Func):List Item:=[.code (aN [1,1,0,1,0,0] (aA ff)),.inLoop (aN [1,1,0,1,0,0] (aA ff)),.inBlock 0,.code (aN [1,1,1] (aA ff))]
section
variable {S0 C0:Nat->Prop} {w0:World} {Post:Value->World->Prop}
theorem GK (X:List (List AV)) (i n:Nat) (c:Int) (h1:(i:Int)<(n:Int)) (h2:c=(0:Int)) (o:(Ref (.cptr (X.getD i []) 0) (.cptr [.i6 c] 0))/\((i:Int)<(X.length:Int))/\(-9223372036854775808<=(i:Int)+(1:Int)/\(i:Int)+(1:Int)<=9223372036854775807))
   (hg:Good Tryz.prog 188 S0 C0 w0 Post (GJ Tryz.f188) ⟨slots 18 [(3,.i6 (0:Int)),(6,.list 1 X),(7,.i6 (n:Int)),(8,.i6 ((i+1:Nat):Int))],[]⟩):
   Good Tryz.prog 188 S0 C0 w0 Post (GJ Tryz.f188) ⟨slots 18 [(3,.i6 (0:Int)),(6,.list 1 X),(7,.i6 (n:Int)),(8,.i6 (i:Int))],[]⟩:=
 go mixed aT rI 21 none [2,3,6,7,8] [(9,(.bool true)),(10,(.cptr [.i6 c] 0)),(14,(.bool false)),(16,(.i6 ((i+1:Nat):Int)))] (ob:=[Ref (.bool (decide ((i:Int)<(n:Int)))) (.bool true),Ref (.cptr (X.getD i []) 0) (.cptr [.i6 c] 0),0<=(i:Int),(i:Int)<(X.length:Int),Ref (.bool (!decide (c=(0:Int)))) (.bool false),Ref (.i6 (IntKind.i64.wrap ((i:Int)+(1:Int)))) (.i6 ((i+1:Nat):Int))]) (by kernel_rfl)
   (.cons (Ref.bool (decide_eq_true h1)) (.cons (o.1) (.cons (Int.natCast_nonneg _) (.cons (o.2.1) (.cons (Ref.bool (congrArg Bool.not (decide_eq_true h2))) (.cons ((Ref.wr o.2.2).trans (Ref.int (by rfl))) (AllP.nil))))))) hg
end
def Fq (n:Int):List AV:=[.i6 n]
def Ox:List AV->Int
 | [.int _ n]=>n
 | _=>0
def Ap:List Int->Int
 | []=>0
 | e::es=>if e=0 then Ap es else e
theorem GL {es:List Int} {r:Int} (i:Nat) (h:∀ j,j<i->es.getD j 0=0) (k:(i<es.length/\es.getD i 0=r/\r≠0)\/es.length<=i/\r=0):r=Ap es:=by
 induction es generalizing i with
 | nil => rcases k with ⟨k,_⟩ | ⟨_,k⟩
          · simp at k
          · exact k
 | cons e es ih=>
   cases i with
   | zero=>
     rcases k with ⟨_,k,k'⟩ | ⟨k,_⟩
     · simp at k;subst k;simp[Ap,k']
     · simp at k
   | succ i=>
     have h0:e=0:=by simpa using h 0 (by omega)
     subst h0;simp only[Ap,if_true];refine ih i (fun j hj=>by simpa using h (j+1) (by omega)) ?_;rcases k with ⟨k1,k2,k3⟩ | ⟨k1,k2⟩
     · exact .inl ⟨by simpa using k1,by simpa using k2,k3⟩
     · exact .inr ⟨by simpa using k1,k2⟩
theorem Ref.cI {es:List Int} {i:Nat} (h:i<es.length):Ref (.cptr ((es.map Fq).getD i []) 0) (.cptr [.i6 (es.getD i 0)] 0):=by
 have:es.getD i 0=es.getD i default:=rfl;rw[this];exact Ref.cmap (f:=Fq) h
def PT:KF
 | [.list 1 X]=>some (.int .i64 (Ap (X.map Ox)),[X=(X.map Ox).map Fq,X.length<=4611686018427387904])
 | _=>none
section
variable {S:Nat->Prop} {w0:World}
theorem Tj {s:List Int} {todo:List Item} {σ:List AV} {h:List (Option ABlk)} {b:Int} (e:b=Ap s) (hσ:σ.getD 2 .any= .i6 b):GF 188 S w0 (.i6 (Ap s)) (.code .ret::todo) ⟨σ,h⟩:=
 bP aT (fn:=Tryz.f188) (by kernel_rfl) 2 (by kernel_rfl) rfl (by rw[hσ];rfl) (by rw[hσ,e];exact rr)
noncomputable abbrev MH:List Item:=[.code (aN [1,1,0,1,0,0] (aA Tryz.f188)),.inLoop (aN [1,1,0,1,0,0] (aA Tryz.f188)),.inBlock 0,.code (aN [1,1,1] (aA Tryz.f188))]
theorem Kb {es:List Int} (hL:es.length<=4611686018427387904):
   GF 188 S w0 (.i6 (Ap es)) MH ⟨slots 18 [(3,.i6 (0:Int)),(6,.list 1 (es.map Fq)),(7,.i6 ((es.length:Nat):Int)),(8,.i6 ((0:Nat):Int))],[]⟩:=by
 refine qA (G:=fun i=>(∀ j,j<i->es.getD j 0=0)->GF 188 S w0 (.i6 (Ap es)) MH ⟨slots 18 [(3,.i6 (0:Int)),(6,.list 1 (es.map Fq)),(7,.i6 ((es.length:Nat):Int)),(8,.i6 ((i:Nat):Int))],[]⟩) es.length ?_ ?_ (fun j hj=>absurd hj (Nat.not_lt_zero j))
 · intro hj
   exact rF rI [(9,ff)] (.a1 (iF (om (¬ ((es.length:Int)<(es.length:Int)))))) (V:=.i6 (0:Int)) (Ref.int (GL es.length hj (.inr ⟨Nat.le_refl _,rfl⟩)))
 · intro i hlt ih hj
   by_cases c:es.getD i 0=0
   · exact GK (es.map Fq) i es.length (es.getD i 0) (by omega) c ⟨Ref.cI hlt,by rw[bH];omega,by omega⟩ (ih fun j hj'=>by
       by_cases e:j=i
       · subst e;exact c
       · exact hj j (by omega))
   · exact rF rI [(9,tt),(10,.cptr [.i6 (es.getD i 0)] 0),(14,tt)] (.a5 (iT (om ((i:Int)<(es.length:Int)))) (show Ref (.cptr ((es.map Fq).getD i []) 0) (.cptr [.i6 (es.getD i 0)] 0) from Ref.cI hlt) (nn i) (show(i:Int)<((es.map Fq).length:Int) by rw[bH];omega) (jT c)) (V:=.i6 (es.getD i 0)) (Ref.int (GL i hj (.inl ⟨hlt,rfl,c⟩)))
end
theorem Tk:bQ 188 PT:=by
 refine cK Tryz.f188 fun _ _ _ S w0 h ho=> ?_
 unfold PT at h;split at h <;> cases h;rename_i X;obtain⟨o1,-⟩:=ho.e2;have o2:(X.map Ox).length<=4611686018427387904:=by rw[bH];exact ho _ (by simp)
 clear ho;generalize X.map Ox=es at*;subst o1;refine gN rI [0,2,3,6,7,8] [] .nil (t:=MH) (σ:=slots 18 [(0,.list 1 (es.map Fq)),(2,.i6 (0:Int)),(3,.i6 (0:Int)),(6,.list 1 (es.map Fq)),(7,.i6 ((es.map Fq).length:Int)),(8,.i6 (0:Int))]) (h:=[]) ?_
 rw[bH];exact Good.weak 18 [(3,_),(6,_),(7,_),(8,_)] (by kernel_rfl) (.r (.r (.r (.r .nil)))) (Kb o2)
def cF:=kn
abbrev GM (ff:Func):List Item:=[.code (aN [1,1,0,1,0,0] (aA ff)),.inLoop (aN [1,1,0,1,0,0] (aA ff)),.inBlock 0,.code (aN [1,1,1] (aA ff))]
section
variable {S0 C0:Nat->Prop} {w0:World} {Post:Value->World->Prop}
theorem GN (s:ByteArray) (h1:¬ ((s.size:Int)<(1:Int))) (h2:¬ ((32:Int)<(s.size:Int))) (h3:(48:Int)<=((s.data.toList.getD 0 0).toNat:Int)) (h4:¬ ((((s.data.toList.getD 0 0).toNat:Nat):Int)<=(57:Int))) (o:((0:Int)<(s.size:Int)))
   (hg:Good Tryz.prog 187 S0 C0 w0 Post (GM Tryz.f187) ⟨slots 61 [(0,.str s),(2,.bool false),(24,.i6 (s.size:Int)),(25,.i6 (0:Int))],[]⟩):
   Good Tryz.prog 187 S0 C0 w0 Post [.code (aN [] (aA Tryz.f187))] ⟨slots 61 [(0,.str s)],[]⟩:=
 go mixed aT cF 17 none [0,2,24,25] [(8,(.bool false)),(13,(.bool false)),(17,(.bool true)),(22,(.bool false))] (ob:=[Ref (.bool (decide ((s.size:Int)<(1:Int)))) (.bool false),Ref (.bool (decide ((32:Int)<(s.size:Int)))) (.bool false),0<=(0:Int),(0:Int)<(s.size:Int),Ref (.bool (decide ((48:Int)<=((s.data.toList.getD 0 0).toNat:Int)))) (.bool true),0<=(0:Int),(0:Int)<(s.size:Int),Ref (.bool (decide ((((s.data.toList.getD 0 0).toNat:Nat):Int)<=(57:Int)))) (.bool false)]) (by kernel_rfl)
   (.cons (Ref.bool (decide_eq_false h1)) (.cons (Ref.bool (decide_eq_false h2)) (.cons (by decide) (.cons (o) (.cons (Ref.bool (decide_eq_true h3)) (.cons (by decide) (.cons (o) (.cons (Ref.bool (decide_eq_false h4)) (AllP.nil))))))))) hg
theorem GO (s:ByteArray) (h1:¬ ((s.size:Int)<(1:Int))) (h2:¬ ((32:Int)<(s.size:Int))) (h3:¬ ((48:Int)<=((s.data.toList.getD 0 0).toNat:Int))) (o:((0:Int)<(s.size:Int)))
   (hg:Good Tryz.prog 187 S0 C0 w0 Post (GM Tryz.f187) ⟨slots 61 [(0,.str s),(2,.bool false),(24,.i6 (s.size:Int)),(25,.i6 (0:Int))],[]⟩):
   Good Tryz.prog 187 S0 C0 w0 Post [.code (aN [] (aA Tryz.f187))] ⟨slots 61 [(0,.str s)],[]⟩:=
 go mixed aT cF 17 none [0,2,24,25] [(8,(.bool false)),(13,(.bool false)),(17,(.bool false))] (ob:=[Ref (.bool (decide ((s.size:Int)<(1:Int)))) (.bool false),Ref (.bool (decide ((32:Int)<(s.size:Int)))) (.bool false),0<=(0:Int),(0:Int)<(s.size:Int),Ref (.bool (decide ((48:Int)<=((s.data.toList.getD 0 0).toNat:Int)))) (.bool false)]) (by kernel_rfl)
   (.cons (Ref.bool (decide_eq_false h1)) (.cons (Ref.bool (decide_eq_false h2)) (.cons (by decide) (.cons (o) (.cons (Ref.bool (decide_eq_false h3)) (AllP.nil)))))) hg
end
def mT (s:ByteArray) (i:Nat):Int:=(((s.data.toList.getD i 0).toNat:Nat):Int)
def cD (c:Int):Prop:=c=95\/(48<=c/\c<=57)\/(97<=c/\c<=122)\/(65<=c/\c<=90)
instance (c:Int):Decidable (cD c):=by unfold cD;infer_instance
def eG (s:ByteArray):Bool:=decide (1<=s.size/\s.size<=32/\¬ (48<=mT s 0/\mT s 0<=57)/\∀ i,i<s.size->cD (mT s i))
def PU:KF
 | [.str s]=>some (.bool (eG s),[])
 | _=>none
section
variable {S:Nat->Prop} {w0:World}
theorem Tl {s:ByteArray} {todo:List Item} {σ:List AV} {h:List (Option ABlk)} {b:Bool} (e:b=eG s) (hσ:σ.getD 2 .any= .bool b):GF 187 S w0 (.bool (eG s)) (.code .ret::todo) ⟨σ,h⟩:=
 bP aT (fn:=Tryz.f187) (by kernel_rfl) 2 (by kernel_rfl) rfl (by rw[hσ];rfl) (by rw[hσ,e];exact rr)
noncomputable abbrev PV:List Item:=[.code (aN [1,1,0,1,0,0] (aA Tryz.f187)),.inLoop (aN [1,1,0,1,0,0] (aA Tryz.f187)),.inBlock 0,.code (aN [1,1,1] (aA Tryz.f187))]
theorem DF {s:ByteArray} (h1:1<=s.size/\s.size<=32/\¬ (48<=mT s 0/\mT s 0<=57)):
   GF 187 S w0 (.bool (eG s)) PV ⟨slots 61 [(0,.str s),(24,.i6 ((s.size:Nat):Int)),(25,.i6 ((0:Nat):Int))],[]⟩:=by
 refine qA (G:=fun i=>(∀ j,j<i->cD (mT s j))->GF 187 S w0 (.bool (eG s)) PV ⟨slots 61 [(0,.str s),(24,.i6 ((s.size:Nat):Int)),(25,.i6 ((i:Nat):Int))],[]⟩) s.size ?_ ?_ (fun j hj=>absurd hj (Nat.not_lt_zero j))
 · intro hj
   exact rF cF [(26,ff)] (.a1 (iF (om (¬ ((s.size:Int)<(s.size:Int)))))) (V:=.bool true) (Ref.bool (decide_eq_true ⟨h1.1,h1.2.1,h1.2.2,hj⟩).symm)
 · intro i hlt ih hj
   have c1:((i:Nat):Int)<((s.size:Nat):Int):=by omega
   generalize hc:mT s i=c at*;have bad:¬ cD c->false=eG s:=fun h=>(decide_eq_false fun k=>h (hc▸k.2.2.2 i hlt)).symm
   have good:cD c->∀ j,j<i+1->cD (mT s j):=fun h j hj'=>by
     by_cases e:j=i
     · subst e;rw[hc];exact h
     · exact hj j (by omega)
   have v0:Ref (.int .u8 ((s.data.toList.getD i 0).toNat:Int)) (.int .u8 c):=Ref.int hc
   by_cases c2:c=(95:Int)
   · exact gN cF [0,2,24,25] [(26,tt),(30,.int .u8 c),(33,ff),(60,.i6 ((i+1:Nat):Int))] (.a6 (iT c1) v0 (nn i) c1 (jF c2) (wI ((i:Int)+(1:Int)) ((i+1:Nat):Int))) (ih (good (by unfold cD;omega)))
   · by_cases c3:(48:Int)<=c
     · by_cases c4:c<=(57:Int)
       · exact gN cF [0,2,24,25] [(26,tt),(30,.int .u8 c),(33,tt),(36,tt),(42,ff),(60,.i6 ((i+1:Nat):Int))] (.c6 (iT c1) v0 (nn i) c1 (jT c2) (iT c3) (.a2 (jF c4) (wI ((i:Int)+(1:Int)) ((i+1:Nat):Int)))) (ih (good (by unfold cD;omega)))
       · by_cases c5:(97:Int)<=c
         · by_cases c6:c<=(122:Int)
           · exact gN cF [0,2,24,25] [(26,tt),(30,.int .u8 c),(33,tt),(36,tt),(42,tt),(45,tt),(51,ff),(60,.i6 ((i+1:Nat):Int))] (.c6 (iT c1) v0 (nn i) c1 (jT c2) (iT c3) (.a4 (jT c4) (iT c5) (jF c6) (wI ((i:Int)+(1:Int)) ((i+1:Nat):Int)))) (ih (good (by unfold cD;omega)))
           · by_cases c7:(65:Int)<=c
             · by_cases c8:c<=(90:Int)
               · exact gN cF [0,2,24,25] [(26,tt),(30,.int .u8 c),(33,tt),(36,tt),(42,tt),(45,tt),(51,tt),(54,tt),(59,ff),(60,.i6 ((i+1:Nat):Int))] (.c6 (iT c1) v0 (nn i) c1 (jT c2) (iT c3) (.a6 (jT c4) (iT c5) (jT c6) (iT c7) (jF c8) (wI ((i:Int)+(1:Int)) ((i+1:Nat):Int)))) (ih (good (by unfold cD;omega)))
               · exact rF cF [(26,tt),(30,.int .u8 c),(33,tt),(36,tt),(42,tt),(45,tt),(51,tt),(54,tt),(59,tt)] (.c6 (iT c1) v0 (nn i) c1 (jT c2) (iT c3) (.a5 (jT c4) (iT c5) (jT c6) (iT c7) (jT c8))) (V:=.bool false) (Ref.bool (bad (by unfold cD;omega)))
             · exact rF cF [(26,tt),(30,.int .u8 c),(33,tt),(36,tt),(42,tt),(45,tt),(51,tt),(54,ff)] (.c6 (iT c1) v0 (nn i) c1 (jT c2) (iT c3) (.a4 (jT c4) (iT c5) (jT c6) (iF c7))) (V:=.bool false) (Ref.bool (bad (by unfold cD;omega)))
         · by_cases c6:(65:Int)<=c
           · by_cases c7:c<=(90:Int)
             · exact gN cF [0,2,24,25] [(26,tt),(30,.int .u8 c),(33,tt),(36,tt),(42,tt),(45,ff),(54,tt),(59,ff),(60,.i6 ((i+1:Nat):Int))] (.c6 (iT c1) v0 (nn i) c1 (jT c2) (iT c3) (.a5 (jT c4) (iF c5) (iT c6) (jF c7) (wI ((i:Int)+(1:Int)) ((i+1:Nat):Int)))) (ih (good (by unfold cD;omega)))
             · exact rF cF [(26,tt),(30,.int .u8 c),(33,tt),(36,tt),(42,tt),(45,ff),(54,tt),(59,tt)] (.c6 (iT c1) v0 (nn i) c1 (jT c2) (iT c3) (.a4 (jT c4) (iF c5) (iT c6) (jT c7))) (V:=.bool false) (Ref.bool (bad (by unfold cD;omega)))
           · exact rF cF [(26,tt),(30,.int .u8 c),(33,tt),(36,tt),(42,tt),(45,ff),(54,ff)] (.c6 (iT c1) v0 (nn i) c1 (jT c2) (iT c3) (.a3 (jT c4) (iF c5) (iF c6))) (V:=.bool false) (Ref.bool (bad (by unfold cD;omega)))
     · by_cases c4:(97:Int)<=c
       · by_cases c5:c<=(122:Int)
         · exact gN cF [0,2,24,25] [(26,tt),(30,.int .u8 c),(33,tt),(36,ff),(45,tt),(51,ff),(60,.i6 ((i+1:Nat):Int))] (.c6 (iT c1) v0 (nn i) c1 (jT c2) (iF c3) (.a3 (iT c4) (jF c5) (wI ((i:Int)+(1:Int)) ((i+1:Nat):Int)))) (ih (good (by unfold cD;omega)))
         · by_cases c6:(65:Int)<=c
           · by_cases c7:c<=(90:Int)
             · exact gN cF [0,2,24,25] [(26,tt),(30,.int .u8 c),(33,tt),(36,ff),(45,tt),(51,tt),(54,tt),(59,ff),(60,.i6 ((i+1:Nat):Int))] (.c6 (iT c1) v0 (nn i) c1 (jT c2) (iF c3) (.a5 (iT c4) (jT c5) (iT c6) (jF c7) (wI ((i:Int)+(1:Int)) ((i+1:Nat):Int)))) (ih (good (by unfold cD;omega)))
             · exact rF cF [(26,tt),(30,.int .u8 c),(33,tt),(36,ff),(45,tt),(51,tt),(54,tt),(59,tt)] (.c6 (iT c1) v0 (nn i) c1 (jT c2) (iF c3) (.a4 (iT c4) (jT c5) (iT c6) (jT c7))) (V:=.bool false) (Ref.bool (bad (by unfold cD;omega)))
           · exact rF cF [(26,tt),(30,.int .u8 c),(33,tt),(36,ff),(45,tt),(51,tt),(54,ff)] (.c6 (iT c1) v0 (nn i) c1 (jT c2) (iF c3) (.a3 (iT c4) (jT c5) (iF c6))) (V:=.bool false) (Ref.bool (bad (by unfold cD;omega)))
       · by_cases c5:(65:Int)<=c
         · by_cases c6:c<=(90:Int)
           · exact gN cF [0,2,24,25] [(26,tt),(30,.int .u8 c),(33,tt),(36,ff),(45,ff),(54,tt),(59,ff),(60,.i6 ((i+1:Nat):Int))] (.c6 (iT c1) v0 (nn i) c1 (jT c2) (iF c3) (.a4 (iF c4) (iT c5) (jF c6) (wI ((i:Int)+(1:Int)) ((i+1:Nat):Int)))) (ih (good (by unfold cD;omega)))
           · exact rF cF [(26,tt),(30,.int .u8 c),(33,tt),(36,ff),(45,ff),(54,tt),(59,tt)] (.c6 (iT c1) v0 (nn i) c1 (jT c2) (iF c3) (.a3 (iF c4) (iT c5) (jT c6))) (V:=.bool false) (Ref.bool (bad (by unfold cD;omega)))
         · exact rF cF [(26,tt),(30,.int .u8 c),(33,tt),(36,ff),(45,ff),(54,ff)] (.c6 (iT c1) v0 (nn i) c1 (jT c2) (iF c3) (.a2 (iF c4) (iF c5))) (V:=.bool false) (Ref.bool (bad (by unfold cD;omega)))
end
theorem PW:bQ 187 PU:=by
 refine cK Tryz.f187 fun _ _ _ S w0 h ho=> ?_
 unfold PU at h;split at h <;> cases h;rename_i s;have b0:mT s 0=(((s.data.toList.getD 0 0).toNat:Nat):Int):=rfl
 by_cases c1:((s.size:Nat):Int)<(1:Int)
 · exact rF cF [(8,tt)] (.a1 (iT c1)) (V:=.bool false) (Ref.bool (decide_eq_false fun k=>by have:=k.1;have:=k.2.1;have:=k.2.2.1;omega).symm)
 · by_cases c2:(32:Int)<((s.size:Nat):Int)
   · exact rF cF [(8,ff),(13,tt)] (.a2 (iF c1) (iT c2)) (V:=.bool false) (Ref.bool (decide_eq_false fun k=>by have:=k.1;have:=k.2.1;have:=k.2.2.1;omega).symm)
   · by_cases c3:(48:Int)<=(((s.data.toList.getD 0 0).toNat:Nat):Int)
     · by_cases c4:(((s.data.toList.getD 0 0).toNat:Nat):Int)<=(57:Int)
       · exact rF cF [(8,ff),(13,ff),(17,tt),(22,tt)] (.c6 (iF c1) (iF c2) (dc (0<=(0:Int))) (om ((0:Int)<(s.size:Int))) (iT c3) (dc (0<=(0:Int))) (.a2 (om ((0:Int)<(s.size:Int))) (iT c4))) (V:=.bool false) (Ref.bool (decide_eq_false fun k=>by have:=k.1;have:=k.2.1;have:=k.2.2.1;omega).symm)
       · refine GN s c1 c2 c3 c4 (by omega) ?_
         exact Good.weak 61 [(0,_),(24,_),(25,_)] (by kernel_rfl) (.r (.r (.r .nil))) (DF ⟨by omega,by omega,by omega⟩)
     · refine GO s c1 c2 c3 (by omega) ?_
       exact Good.weak 61 [(0,_),(24,_),(25,_)] (by kernel_rfl) (.r (.r (.r .nil))) (DF ⟨by omega,by omega,by omega⟩)
def PX:KF
 | [.agg [.z n B],.nat m C]=>some (.agg [.z (n*(m:Int)) (B+C)],[B+C+128<=LIM])
 | _=>none
theorem PY:bQ 113 PX:=by
 refine cK Tryz.f113 fun _ _ _ S w0 h ho=> ?_
 unfold PX at h;split at h <;> cases h;rename_i n B m C;have o1:=ho.one;have K:=(kn.cons Gz).cons Ak;exact rF K [] (.a1 o1) (V:=.agg [.z (iL (decide (n<0)) (n.natAbs*m)) (B+C)]) (Ref.z1 (Jp n m) (rl _))
theorem BL {n m:Int} (h:((decide (n<0))==(decide (m<0)))=true):iL (decide (n<0)) (n.natAbs+m.natAbs)=n+m:=by
 by_cases a:n<0 <;> by_cases b:m<0 <;> simp[a,b,iL] at h ⊢ <;> omega
theorem rK {n m:Int} (h:((decide (n<0))==(decide (m<0)))=false) (k:m.natAbs<=n.natAbs):iL (decide (n<0)) (n.natAbs-m.natAbs)=n+m:=by
 by_cases a:n<0 <;> by_cases b:m<0 <;> simp[a,b,iL] at h ⊢ <;> omega
def PZ:KF
 | [.agg [.z n B],.agg [.z m C]]=>some (.agg [.z (n+m) (max B C+1)],[max B C+1<=LIM])
 | _=>none
theorem Tm:bQ 114 PZ:=by
 refine cK Tryz.f114 fun _ _ _ S w0 h ho=> ?_
 unfold PZ at h;split at h <;> cases h;rename_i n B m C;have o1:=ho.one;have L:=dR;have K:=(((kn.cons Ga).cons Pn).cons MG).cons Ak;rcases Bool.eq_false_or_eq_true ((decide (n<0))==(decide (m<0))) with h1 | h1
 · refine rF K [(5,tt)] (.a2 (show Ref (.bool ((decide (n<0))==(decide (m<0)))) (.bool true) from Ref.bool h1) o1) (V:=.agg [.z (iL (decide (n<0)) (n.natAbs+m.natAbs)) (max B C+1)]) ?_
   refine Ref.z1 ?_ (by omega);exact BL h1
 · have v0:Ref (.bool ((decide (n<0))==(decide (m<0)))) (.bool false):=Ref.bool h1
   by_cases h2:(0:Int)<=(gY n.natAbs m.natAbs)
   · refine rF K [(5,ff),(19,tt)] (.a4 v0 (iT h2) (bM.1 h2) (om (B<=LIM))) (V:=.agg [.z (iL (decide (n<0)) (n.natAbs-m.natAbs)) B]) ?_
     refine Ref.z1 ?_ (by omega);exact rK h1 (bM.1 h2)
   · refine rF K [(5,ff),(19,ff)] (.a4 v0 (iF h2) (Nat.le_of_lt (Nat.lt_of_not_le fun h=>h2 (bM.2 h))) (om (C<=LIM))) (V:=.agg [.z (iL (decide (m<0)) (m.natAbs-n.natAbs)) C]) ?_
     refine Ref.z1 ?_ (by omega);rw[Int.add_comm];exact rK (by rw[<- h1];exact BEq.comm) (Nat.le_of_lt (Nat.lt_of_not_le fun h=>h2 (bM.2 h)))
def Vk:KF
 | [.agg [.q x B],.agg [.q y C]]=>some (.agg [.q (x+y) (B+C+2)],[B+C+200<=LIM])
 | _=>none
theorem Fr:bQ 26 Vk:=by
 refine cK Tryz.f26 fun _ _ _ S w0 h ho=> ?_
 unfold Vk at h;split at h <;> cases h;rename_i x B y C;have o1:=ho.one;have L:=dR;have K:=((((kn.cons Gz).cons Tm).cons PY).cons Gk).cons CK;exact rF K [] (.c6 (om (max B 64+1<=LIM)) (om (max C 64+1<=LIM)) (om (B+(C+1)+128<=LIM)) (om (C+(B+1)+128<=LIM)) (om (max (B+(C+1)) (C+(B+1))+1<=LIM)) (om ((B+1)+(C+1)+128<=LIM)) (.a2 (show 0<(x.den*y.den) by exact Nat.mul_pos x.den_pos y.den_pos) (om (max (max (B+(C+1)) (C+(B+1))+1) ((B+1)+(C+1))+128<=LIM)))) (V:=.agg [.q (mkRat ((x.num*(y.den:Int))+(y.num*(x.den:Int))) (x.den*y.den)) (max (max (B+(C+1)) (C+(B+1))+1) ((B+1)+(C+1)))]) (Ref.q1 (Mo x y) (by omega))
def Vl:KF
 | [.agg [.q x B],.agg [.q y C]]=>some (.agg [.q (x-y) (B+C+2)],[B+C+200<=LIM])
 | _=>none
theorem LB:bQ 28 Vl:=by
 refine cK Tryz.f28 fun _ _ _ S w0 h ho=> ?_
 unfold Vl at h;split at h <;> cases h;rename_i x B y C;have o1:=ho.one;have K:=(kn.cons Ow).cons Fr;exact rF K [] (.a1 o1) (V:=.agg [.q (x+(-y)) (B+C+2)]) (Ref.q1 (Rat.sub_eq_add_neg x y).symm (rl _))
def Qa:KF
 | [.agg [.q px B,.q pz D],.agg [.q qx C,.q qz E]]=>some (.agg [.q (px*qz-pz*qx) (B+D+C+E+6)],[B+D+C+E+300<=LIM])
 | _=>none
theorem Qb:bQ 212 Qa:=by
 refine cK Tryz.f212 fun _ _ _ S w0 h ho=> ?_
 unfold Qa at h;split at h <;> cases h;rename_i px B pz D qx C qz E;have o1:=ho.one;have L:=dR;have K:=(kn.cons Fp).cons LB;exact rF K [] (.a3 (om (B+E+200<=LIM)) (om (D+C+200<=LIM)) (om ((B+E+2)+(D+C+2)+200<=LIM))) (V:=.agg [.q ((px*qz)-(pz*qx)) ((B+E+2)+(D+C+2)+2)]) (Ref.q1 rfl (by omega))
def Vm:KF
 | [.agg [.q px B,.q pz D],.agg [.q qx C,.q qz E]]=>some (.agg [.q (px-qx) (B+C+2),.q (pz-qz) (D+E+2)],[B+D+C+E+300<=LIM])
 | _=>none
theorem Tn:bQ 32 Vm:=by
 refine cK Tryz.f32 fun _ _ _ S w0 h ho=> ?_
 unfold Vm at h;split at h <;> cases h;rename_i px B pz D qx C qz E;have o1:=ho.one;have L:=dR;have K:=kn.cons LB;exact rR K [] (.a2 (om (B+C+200<=LIM)) (om (D+E+200<=LIM)))
def Qc:KF
 | [.agg [.z n B]]=>some (.int .i64 (Int.sign n),[])
 | _=>none
theorem To:bQ 156 Qc:=by
 refine cK Tryz.f156 fun _ _ _ S w0 h ho=> ?_
 unfold Qc at h;split at h <;> cases h;rename_i n B;refine Good.weak 11 [(0,.agg [.bool (decide (n<0)),.list 1 (aG (aC b32 n.natAbs))])] (by kernel_rfl) (.cons (Ref.agg (RefC.zopn.trans (RefC.tl RefC.opn))) .nil) ?_;have hl:=cJ (b:=b32) (n:=n.natAbs) (by decide);generalize aC b32 n.natAbs=xs at*;rw[<- @aB xs] at hl;rcases Bool.eq_false_or_eq_true (decide (n<0)) with h1 | h1
 · exact rF .nil [(3,tt)] (.a1 (show Ref (.bool (decide (n<0))) (.bool true) from Ref.bool h1)) (V:=.i6 (-1:Int)) (Ref.int (Int.sign_eq_neg_one_of_neg (of_decide_eq_true h1)).symm)
 · have v0:Ref (.bool (decide (n<0))) (.bool false):=Ref.bool h1
   by_cases h2:(((aG xs).length:Nat):Int)=(0:Int)
   · refine rF .nil [(3,ff),(6,tt)] (.a2 v0 (iT h2)) (V:=.i6 (0:Int)) ?_
     have h1:=of_decide_eq_false h1;exact Ref.int (by rw[show n=0 by omega];rfl)
   · refine rF .nil [(3,ff),(6,ff)] (.a2 v0 (iF h2)) (V:=.i6 (1:Int)) ?_
     have h1:=of_decide_eq_false h1;exact Ref.int (Int.sign_eq_one_of_pos (by omega)).symm
def Vn:KF
 | [.agg [.q x B]]=>some (.int .i64 (Int.sign x.num),[])
 | _=>none
theorem Cn:bQ 60 Vn:=by
 refine cK Tryz.f60 fun _ _ _ S w0 h ho=> ?_
 unfold Vn at h;split at h <;> cases h;rename_i x B;have K:=kn.cons To;exact rR K [] .nil
def iA:=((kn.cons Qb).cons Cn).cons Tn
section
variable {S0 C0:Nat->Prop} {w0:World} {Post:Value->World->Prop}
theorem GP (l:List PtD) (i n k:Nat) (a b c:PtD) (h1:¬ ((k:Int)<(n:Int))) (o:(-9223372036854775808<=(i:Int)+(1:Int)/\(i:Int)+(1:Int)<=9223372036854775807))
   (hg:Good Tryz.prog 254 S0 C0 w0 Post [.code (aN [1,1,1,0,1,0,0] (aA Tryz.f254)),.inLoop (aN [1,1,1,0,1,0,0] (aA Tryz.f254)),.inBlock 0,.code (aN [1,1,1,1] (aA Tryz.f254))] ⟨slots 56 [(0,.list 6 (l.map (eY 300))),(3,.i6 (n:Int)),(4,.i6 (i:Int)),(5,.ptr 0 6 0 0),(6,.ptr 1 6 0 0),(7,.i6 (k:Int)),(20,.list 6 (l.map (eY 300))),(21,.i6 (n:Int)),(22,.i6 ((i+1:Nat):Int))],[some ⟨58,6,false,[[.q a.x 300,.q a.z 300]],none⟩,some ⟨58,6,false,[[.q b.x 300,.q b.z 300]],none⟩]⟩):
   Good Tryz.prog 254 S0 C0 w0 Post [.code (aN [1,1,1,0,1,0,0,1,1,0,0,1,1,1,0,0] (aA Tryz.f254)),.inLoop (aN [1,1,1,0,1,0,0,1,1,0,0,1,1,1,0,0] (aA Tryz.f254)),.inBlock 2,.inBlock 1,.code (aN [1,1,1,0,1,0,0,1,1,1] (aA Tryz.f254)),.inLoop (aN [1,1,1,0,1,0,0] (aA Tryz.f254)),.inBlock 0,.code (aN [1,1,1,1] (aA Tryz.f254))] ⟨slots 56 [(0,.list 6 (l.map (eY 300))),(3,.i6 (n:Int)),(4,.i6 (i:Int)),(5,.ptr 0 6 0 0),(6,.ptr 1 6 0 0),(7,.i6 (k:Int)),(20,.list 6 (l.map (eY 300))),(21,.i6 (n:Int)),(22,.i6 (i:Int))],[some ⟨58,6,false,[[.q a.x 300,.q a.z 300]],none⟩,some ⟨58,6,false,[[.q b.x 300,.q b.z 300]],none⟩]⟩:=
 go mixed aT iA 13 none [0,2,3,4,5,6,7,20,21,22] [(36,(.bool false)),(55,(.i6 ((i+1:Nat):Int)))] (ob:=[Ref (.bool (decide ((k:Int)<(n:Int)))) (.bool false),Ref (.i6 (IntKind.i64.wrap ((i:Int)+(1:Int)))) (.i6 ((i+1:Nat):Int))]) (by kernel_rfl)
   (.cons (Ref.bool (decide_eq_false h1)) (.cons ((Ref.wr o).trans (Ref.int (by rfl))) (AllP.nil))) hg
end
def BM (l:List PtD) (i k:Nat):Int:=
 Int.sign (((l.getD ((i+1) % l.length) default).x-(l.getD i default).x)*((l.getD ((i+k) % l.length) default).z-(l.getD i default).z)-((l.getD ((i+1) % l.length) default).z-(l.getD i default).z)*((l.getD ((i+k) % l.length) default).x-(l.getD i default).x)).num
def cW (l:List PtD):Bool:=decide ((l.length=0\/3<=l.length/\l.length<=12)/\∀ i,i<l.length->∀ k,k<l.length->2<=k->0<BM l i k)
def Qd:KF
 | [.list 6 X]=>some (.bool (cW (X.map BJ)),[X=(X.map BJ).map (eY 300)])
 | _=>none
section
variable {S:Nat->Prop} {w0:World}
noncomputable abbrev GQ:List Item:=[.code (aN [1,1,1,0,1,0,0] (aA Tryz.f254)),.inLoop (aN [1,1,1,0,1,0,0] (aA Tryz.f254)),.inBlock 0,.code (aN [1,1,1,1] (aA Tryz.f254))]
noncomputable abbrev DG:List Item:=[.code (aN [1,1,1,0,1,0,0,1,1,0,0,1,1,1,0,0] (aA Tryz.f254)),.inLoop (aN [1,1,1,0,1,0,0,1,1,0,0,1,1,1,0,0] (aA Tryz.f254)),.inBlock 2,.inBlock 1,.code (aN [1,1,1,0,1,0,0,1,1,1] (aA Tryz.f254)),.inLoop (aN [1,1,1,0,1,0,0] (aA Tryz.f254)),.inBlock 0,.code (aN [1,1,1,1] (aA Tryz.f254))]
theorem Tp {l:List PtD} {todo:List Item} {σ:List AV} {h:List (Option ABlk)} {b:Bool} (e:b=cW l) (hσ:σ.getD 2 .any= .bool b):GF 254 S w0 (.bool (cW l)) (.code .ret::todo) ⟨σ,h⟩:=
 bP aT (fn:=Tryz.f254) (by kernel_rfl) 2 (by kernel_rfl) rfl (by rw[hσ];rfl) (by rw[hσ,e];exact rr)
theorem GR {l:List PtD} {i:Nat} (h:i<l.length):Ref (.cptr ((l.map (eY 300)).getD i []) 0) (.cptr [.q (l.getD i default).x 300,.q (l.getD i default).z 300] 0):=Ref.cmap (f:=eY 300) h
theorem GS {l:List PtD} {i:Nat} (hi:i<l.length) (h3:3<=l.length/\l.length<=12)
   (next:(∀ k,k<l.length->2<=k->0<BM l i k)->GF 254 S w0 (.bool (cW l)) GQ ⟨slots 56 [(0,.list 6 (l.map (eY 300))),(3,.i6 ((l.length:Nat):Int)),(20,.list 6 (l.map (eY 300))),(21,.i6 ((l.length:Nat):Int)),(22,.i6 ((i+1:Nat):Int))],[]⟩):
   GF 254 S w0 (.bool (cW l)) DG ⟨slots 56 [(0,.list 6 (l.map (eY 300))),(3,.i6 ((l.length:Nat):Int)),(4,.i6 ((i:Nat):Int)),(5,.ptr 0 6 0 0),(6,.ptr 1 6 0 0),(7,.i6 ((2:Nat):Int)),(20,.list 6 (l.map (eY 300))),(21,.i6 ((l.length:Nat):Int)),(22,.i6 ((i:Nat):Int))],
     [some ⟨58,6,false,[eY 300 (l.getD i default)],none⟩,some ⟨58,6,false,[eY 300 (l.getD ((i+1) % l.length) default)],none⟩]⟩:=by
 refine qA (G:=fun f=>(∀ k,k<2+f->2<=k->0<BM l i k)->GF 254 S w0 (.bool (cW l)) DG ⟨slots 56 [(0,.list 6 (l.map (eY 300))),(3,.i6 ((l.length:Nat):Int)),(4,.i6 ((i:Nat):Int)),(5,.ptr 0 6 0 0),(6,.ptr 1 6 0 0),(7,.i6 ((2+f:Nat):Int)),(20,.list 6 (l.map (eY 300))),(21,.i6 ((l.length:Nat):Int)),(22,.i6 ((i:Nat):Int))],
     [some ⟨58,6,false,[eY 300 (l.getD i default)],none⟩,some ⟨58,6,false,[eY 300 (l.getD ((i+1) % l.length) default)],none⟩]⟩) (l.length-2) ?_ ?_ (fun k hk h2=>absurd hk (by omega))
 · intro hk
   refine GP l i l.length (2+(l.length-2)) (l.getD i default) (l.getD ((i+1) % l.length) default) default (by omega) (by omega) ?_;exact Good.weak 56 [(0,_),(3,_),(20,_),(21,_),(22,_)] (by kernel_rfl) (.r (.r (.r (.r (.r .nil))))) (Good.tidy [] (by decide) (by kernel_rfl) (by kernel_rfl) (next fun k hk' h2=>hk k (by omega) h2))
 · intro f hf ih hk
   have hm:(i+(2+f)) % l.length<l.length:=Nat.mod_lt _ (by omega);have v0:Ref (.cptr ((l.map (eY 300)).getD ((i+(2+f)) % l.length) []) 0) (.cptr [.q (l.getD ((i+(2+f)) % l.length) default).x 300,.q (l.getD ((i+(2+f)) % l.length) default).z 300] 0):=GR hm;have v1:Ref (.i6 (((i+(2+f):Nat):Int).tmod (l.length:Int))) (.i6 (((i+(2+f)) % l.length:Nat):Int)):=Ref.rem (a:=i+(2+f)) (b:=l.length) rfl rfl;have v2:300+300+300+300+300<=LIM:=by decide
   have v3:(((i+(2+f)) % l.length:Nat):Int)<((l.map (eY 300)).length:Int):=by first | omega | (rw[bH];omega)
   have v4:(300+300+2)+(300+300+2)+(300+300+2)+(300+300+2)+300<=LIM:=by decide
   have v5:(((2+f):Nat):Int)<(l.length:Int):=by omega
   by_cases c:BM l i (2+f)<=0
   · exact rF iA [(36,tt),(45,.i6 ((i+(2+f):Nat):Int)),(47,.i6 (((i+(2+f)) % l.length:Nat):Int)),(48,.cptr [.q (l.getD ((i+(2+f)) % l.length) default).x 300,.q (l.getD ((i+(2+f)) % l.length) default).z 300] 0),(54,tt)] (.c6 (iT v5) v2 (wI ((i:Int)+(((2+f):Nat):Int)) ((i+(2+f):Nat):Int) (by first | omega | (rw[bH];omega))) v1 (om ((l.length:Int)≠0)) v0 (.a5 (nn ((i+(2+f)) % l.length)) v3 v2 v4 (iT c))) (V:=.bool false) (Ref.bool (decide_eq_false fun h=>by have:=h.2 i hi (2+f) (by omega) (by omega);omega).symm)
   · refine gR iA none [0,2,3,4,5,6,7,20,21,22] [0,1] [(36,tt),(45,.i6 ((i+(2+f):Nat):Int)),(47,.i6 (((i+(2+f)) % l.length:Nat):Int)),(48,.cptr [.q (l.getD ((i+(2+f)) % l.length) default).x 300,.q (l.getD ((i+(2+f)) % l.length) default).z 300] 0),(54,ff),(38,.i6 (((2+f)+1:Nat):Int))] (.c6 (iT v5) v2 (wI ((i:Int)+(((2+f):Nat):Int)) ((i+(2+f):Nat):Int) (by first | omega | (rw[bH];omega))) v1 (om ((l.length:Int)≠0)) v0 (.a6 (nn ((i+(2+f)) % l.length)) v3 v2 v4 (iF c) (wI ((((2+f):Nat):Int)+(1:Int)) (((2+f)+1:Nat):Int) (by first | omega | (rw[bH];omega))))) (t:=DG) (σ:=slots 56 [(0,.list 6 (l.map (eY 300))),(3,.i6 (l.length:Int)),(4,.i6 (i:Int)),(5,.ptr 0 6 0 0),(6,.ptr 1 6 0 0),(7,(.i6 (((2+f)+1:Nat):Int))),(20,.list 6 (l.map (eY 300))),(21,.i6 (l.length:Int)),(22,.i6 (i:Int))]) (h:=[some ⟨58,6,false,[[.q (l.getD i default).x 300,.q (l.getD i default).z 300]],none⟩,some ⟨58,6,false,[[.q (l.getD ((i+1) % l.length) default).x 300,.q (l.getD ((i+1) % l.length) default).z 300]],none⟩]) ?_
     exact Good.weak 56 [(0,_),(3,_),(4,_),(5,_),(6,_),(7,_),(20,_),(21,_),(22,_)] (by kernel_rfl) (.r (.r (.r (.r (.r (.r (.r (.r (.r .nil))))))))) (ih fun k hk' h2=>by
       by_cases e:k=2+f
       · subst e;omega
       · exact hk k (by omega) h2)
theorem DH {l:List PtD} (h3:l.length=0\/3<=l.length/\l.length<=12):
   GF 254 S w0 (.bool (cW l)) GQ ⟨slots 56 [(0,.list 6 (l.map (eY 300))),(3,.i6 ((l.length:Nat):Int)),(20,.list 6 (l.map (eY 300))),(21,.i6 ((l.length:Nat):Int)),(22,.i6 ((0:Nat):Int))],[]⟩:=by
 refine qA (G:=fun i=>(∀ j,j<i->∀ k,k<l.length->2<=k->0<BM l j k)->GF 254 S w0 (.bool (cW l)) GQ ⟨slots 56 [(0,.list 6 (l.map (eY 300))),(3,.i6 ((l.length:Nat):Int)),(20,.list 6 (l.map (eY 300))),(21,.i6 ((l.length:Nat):Int)),(22,.i6 ((i:Nat):Int))],[]⟩) l.length ?_ ?_ (fun k hk=>absurd hk (Nat.not_lt_zero k))
 · intro hj
   exact rF iA [(23,ff)] (.a1 (iF (om (¬ ((l.length:Int)<(l.length:Int)))))) (V:=.bool true) (Ref.bool (decide_eq_true ⟨h3,hj⟩).symm)
 · intro i hlt ih hj
   have hm:(i+1) % l.length<l.length:=Nat.mod_lt _ (by omega);refine gN iA [0,2,3,4,5,6,7,20,21,22] [(23,tt),(25,.cptr [.q (l.getD i default).x 300,.q (l.getD i default).z 300] 0),(29,.i6 ((i+1:Nat):Int)),(31,.i6 (((i+1) % l.length:Nat):Int)),(32,.cptr [.q (l.getD ((i+1) % l.length) default).x 300,.q (l.getD ((i+1) % l.length) default).z 300] 0)] (.c6 (iT (om ((i:Int)<(l.length:Int)))) (show Ref (.cptr ((l.map (eY 300)).getD i []) 0) (.cptr [.q (l.getD i default).x 300,.q (l.getD i default).z 300] 0) from GR hlt) (nn i) (show(i:Int)<((l.map (eY 300)).length:Int) by first | omega | (rw[bH];omega)) (wI ((i:Int)+(1:Int)) ((i+1:Nat):Int) (by first | omega | (rw[bH];omega))) (show Ref (.i6 (((i+1:Nat):Int).tmod (l.length:Int))) (.i6 (((i+1) % l.length:Nat):Int)) from Ref.rem (a:=i+1) (b:=l.length) rfl rfl) (.a4 (om ((l.length:Int)≠0)) (show Ref (.cptr ((l.map (eY 300)).getD ((i+1) % l.length) []) 0) (.cptr [.q (l.getD ((i+1) % l.length) default).x 300,.q (l.getD ((i+1) % l.length) default).z 300] 0) from GR hm) (nn ((i+1) % l.length)) (show(((i+1) % l.length:Nat):Int)<((l.map (eY 300)).length:Int) by first | omega | (rw[bH];omega)))) (t:=DG) (σ:=slots 56 [(0,.list 6 (l.map (eY 300))),(3,.i6 (l.length:Int)),(4,.i6 (i:Int)),(5,.ptr 0 6 0 0),(6,.ptr 1 6 0 0),(7,.i6 (2:Int)),(20,.list 6 (l.map (eY 300))),(21,.i6 (l.length:Int)),(22,.i6 (i:Int))]) (h:=[some ⟨58,6,false,[[.q (l.getD i default).x 300,.q (l.getD i default).z 300]],none⟩,some ⟨58,6,false,[[.q (l.getD ((i+1) % l.length) default).x 300,.q (l.getD ((i+1) % l.length) default).z 300]],none⟩]) ?_
   refine Good.weak 56 [(0,_),(3,_),(4,_),(5,_),(6,_),(7,.i6 ((2:Nat):Int)),(20,_),(21,_),(22,_)] (by kernel_rfl) (.r (.r (.r (.r (.r (.r (.r (.r (.r .nil))))))))) (GS hlt (by omega) fun hk=>ih fun j hj'=>by
     by_cases e:j=i
     · subst e;exact hk
     · exact hj j (by omega))
end
theorem Tq:bQ 254 Qd:=by
 refine cK Tryz.f254 fun _ _ _ S w0 h ho=> ?_
 unfold Qd at h;split at h <;> cases h;rename_i X;have o1:=ho.one;clear ho;generalize X.map BJ=l at*;subst o1;have hl:(l.map (eY 300)).length=l.length:=bH ..
 by_cases c1:(((l.map (eY 300)).length:Nat):Int)=(0:Int)
 · refine gN iA [0,2,3,20,21,22] [(12,ff)] (.a1 (jF c1)) (t:=GQ) (σ:=slots 56 [(0,.list 6 (l.map (eY 300))),(2,.bool false),(3,(.i6 ((l.map (eY 300)).length:Int))),(20,.list 6 (l.map (eY 300))),(21,(.i6 ((l.map (eY 300)).length:Int))),(22,.i6 (0:Int))]) (h:=[]) ?_
   rw[hl];exact Good.weak 56 [(0,_),(3,_),(20,_),(21,_),(22,_)] (by kernel_rfl) (.r (.r (.r (.r (.r .nil))))) (DH (by omega))
 · by_cases c2:(((l.map (eY 300)).length:Nat):Int)<(3:Int)
   · exact rF iA [(12,tt),(15,tt)] (.a2 (jT c1) (iT c2)) (V:=.bool false) (Ref.bool (decide_eq_false fun h=>by have:=h.1;omega).symm)
   · by_cases c3:(12:Int)<(((l.map (eY 300)).length:Nat):Int)
     · exact rF iA [(12,tt),(15,ff),(19,tt)] (.a3 (jT c1) (iF c2) (iT c3)) (V:=.bool false) (Ref.bool (decide_eq_false fun h=>by have:=h.1;omega).symm)
     · refine gN iA [0,2,3,20,21,22] [(12,tt),(15,ff),(19,ff)] (.a3 (jT c1) (iF c2) (iF c3)) (t:=GQ) (σ:=slots 56 [(0,.list 6 (l.map (eY 300))),(2,.bool false),(3,(.i6 ((l.map (eY 300)).length:Int))),(20,.list 6 (l.map (eY 300))),(21,(.i6 ((l.map (eY 300)).length:Int))),(22,.i6 (0:Int))]) (h:=[]) ?_
       rw[hl];exact Good.weak 56 [(0,_),(3,_),(20,_),(21,_),(22,_)] (by kernel_rfl) (.r (.r (.r (.r (.r .nil))))) (DH (by omega))
def Qe:KF
 | [.agg [.str n,.int .i64 p,.q ax 300,.q az 300,.q ma 300,.q ir 300,.q cx 300,.q cz 300,.q lo 300,.q hi 300,.list 6 H],.cptr [.str n',.int .i64 p',.q ax' 300,.q az' 300,.q ma' 300,.q ir' 300,.q cx' 300,.q cz' 300,.q lo' 300,.q hi' 300,.list 6 H'] 0]=>some (.bool (n.toList==n'.toList),[])
 | _=>none
theorem Tr:bQ 252 Qe:=by
 refine cK Tryz.f252 fun _ _ _ S w0 h ho=> ?_
 unfold Qe at h;split at h <;> cases h;rename_i n p ax az ma ir cx cz lo hi H n' p' ax' az' ma' ir' cx' cz' lo' hi' H';exact rR .nil [] .nil
def rL:=kn.cons Tr
def fD (p:Nat->Bool):Nat->Nat->Int
 | _,0=> -1
 | i,k+1=>if p i then (i:Int) else fD p (i+1) k
def Qf:KF
 | [.list 27 X,.fn 252 [.cptr [.str n0,.int .i64 p0,.q ax0 300,.q az0 300,.q ma0 300,.q ir0 300,.q cx0 300,.q cz0 300,.q lo0 300,.q hi0 300,.list 6 H0] 0]]=>some (.int .i64 (fD (fun j=>(((X.map reBody).getD j default).name.toList==n0.toList)) 0 X.length),[X=(X.map reBody).map (aE 300),X.length<=4611686018427387904])
 | _=>none
section
variable {S:Nat->Prop} {w0:World}
noncomputable abbrev MI:List Item:=[.code (aN [1,0,1,0,0] (aA Tryz.f294)),.inLoop (aN [1,0,1,0,0] (aA Tryz.f294)),.inBlock 0,.code (aN [1,1] (aA Tryz.f294))]
theorem Kc {es:List BodyD} (n0:ByteArray) (p0:Int) (ax0 az0 ma0 ir0 cx0 cz0 lo0 hi0:Rat) (H0:List (List AV)) (hL:es.length<=4611686018427387904):
   GF 294 S w0 (.i6 (fD (fun j=>((es.getD j default).name.toList==n0.toList)) 0 es.length)) MI ⟨slots 19 [(0,.list 27 (es.map (aE 300))),(1,.fn 252 [.cptr [.str n0,.i6 p0,.q ax0 300,.q az0 300,.q ma0 300,.q ir0 300,.q cx0 300,.q cz0 300,.q lo0 300,.q hi0 300,.list 6 H0] 0]),(6,.list 27 (es.map (aE 300))),(7,.i6 ((es.length:Nat):Int)),(8,.i6 ((0:Nat):Int))],[]⟩:=by
 have ret:∀ {todo:List Item} {σ:List AV} {h:List (Option ABlk)} {b:Int},b=fD (fun j=>((es.getD j default).name.toList==n0.toList)) 0 es.length->σ.getD 4 .any= .i6 b->GF 294 S w0 (.i6 (fD (fun j=>((es.getD j default).name.toList==n0.toList)) 0 es.length)) (.code .ret::todo) ⟨σ,h⟩:=fun e hσ=>
   bP aT (fn:=Tryz.f294) (by kernel_rfl) 4 (by kernel_rfl) rfl (by rw[hσ];rfl) (by rw[hσ,e];exact rr)
 refine qA (G:=fun i=>fD (fun j=>((es.getD j default).name.toList==n0.toList)) i (es.length-i)=fD (fun j=>((es.getD j default).name.toList==n0.toList)) 0 es.length->GF 294 S w0 (.i6 (fD (fun j=>((es.getD j default).name.toList==n0.toList)) 0 es.length)) MI ⟨slots 19 [(0,.list 27 (es.map (aE 300))),(1,.fn 252 [.cptr [.str n0,.i6 p0,.q ax0 300,.q az0 300,.q ma0 300,.q ir0 300,.q cx0 300,.q cz0 300,.q lo0 300,.q hi0 300,.list 6 H0] 0]),(6,.list 27 (es.map (aE 300))),(7,.i6 ((es.length:Nat):Int)),(8,.i6 ((i:Nat):Int))],[]⟩) es.length ?_ ?_ rfl
 · intro he
   rw[Nat.sub_self] at he;exact rF rL [(9,ff)] (.a1 (iF (om (¬ ((es.length:Int)<(es.length:Int)))))) (V:=.i6 (-1:Int)) (Ref.int he)
 · intro i hlt ih he
   rw[show es.length-i=(es.length-(i+1))+1 by omega,fD] at he;have v0:Ref (.cptr ((es.map (aE 300)).getD i []) 0) (.cptr (aE 300 (es.getD i default)) 0):=Ref.cmap hlt;have v1:(i:Int)<((es.map (aE 300)).length:Int):=by rw[bH];omega
   have v2:(i:Int)<(es.length:Int):=by omega
   by_cases c:((es.getD i default).name.toList==n0.toList)=true
   · rw[if_pos c] at he
     exact rF rL [(9,tt),(14,.cptr (aE 300 (es.getD i default)) 0),(16,tt)] (.a5 (iT v2) v0 (nn i) v1 (show Ref (.bool ((es.getD i default).name.toList==n0.toList)) (.bool true) from Ref.bool c)) (V:=.i6 (i:Int)) (Ref.int he)
   · rw[if_neg c] at he
     exact gR rL none [0,1,4,6,7,8] [] [(9,tt),(14,.cptr (aE 300 (es.getD i default)) 0),(16,ff),(18,.i6 ((i+1:Nat):Int))] (.a6 (iT v2) v0 (nn i) v1 (show Ref (.bool ((es.getD i default).name.toList==n0.toList)) (.bool false) from Ref.bool (show((es.getD i default).name.toList==n0.toList)=false by simpa using c)) (wI ((i:Int)+(1:Int)) ((i+1:Nat):Int))) (ih he)
end
theorem Ts:bQ 294 Qf:=by
 refine cK Tryz.f294 fun _ _ _ S w0 h ho=> ?_
 unfold Qf at h;split at h <;> cases h;rename_i X n0 p0 ax0 az0 ma0 ir0 cx0 cz0 lo0 hi0 H0;obtain⟨o1,-⟩:=ho.e2;have o2:(X.map reBody).length<=4611686018427387904:=by rw[bH];exact ho _ (by simp)
 clear ho;rw[show X.length=(X.map reBody).length by rw[bH]];generalize (X.map reBody)=es at*;subst o1;refine gN rL [0,1,6,7,8] [] .nil (t:=MI) (σ:=slots 19 [(0,.list 27 (es.map (aE 300))),(1,.fn 252 [.cptr [.str n0,.i6 p0,.q ax0 300,.q az0 300,.q ma0 300,.q ir0 300,.q cx0 300,.q cz0 300,.q lo0 300,.q hi0 300,.list 6 H0] 0]),(6,.list 27 (es.map (aE 300))),(7,(.i6 ((es.map (aE 300)).length:Int))),(8,.i6 (0:Int))]) (h:=[]) ?_
 rw[bH];exact Kc n0 p0 ax0 az0 ma0 ir0 cx0 cz0 lo0 hi0 H0 o2
def Qg:KF
 | [.list 27 X,.fn 252 [.cptr [.str n0,.int .i64 p0,.q ax0 300,.q az0 300,.q ma0 300,.q ir0 300,.q cx0 300,.q cz0 300,.q lo0 300,.q hi0 300,.list 6 H0] 0]]=>some (.bool (decide (0<=fD (fun j=>(((X.map reBody).getD j default).name.toList==n0.toList)) 0 X.length)),[X=(X.map reBody).map (aE 300),X.length<=4611686018427387904])
 | _=>none
theorem Tt:bQ 251 Qg:=by
 refine cK Tryz.f251 fun _ _ _ S w0 h ho=> ?_
 unfold Qg at h;split at h <;> cases h;rename_i X n0 p0 ax0 az0 ma0 ir0 cx0 cz0 lo0 hi0 H0;obtain⟨o1,o2⟩:=ho.e2;have K:=kn.cons Ts;exact rR K [] (.a2 o1 o2)
theorem Qh {n m:Int} (h:(!((decide (n<0))==(decide (m<0))))=true) (k:n<0):(-1:Int)=uA n m:=by
 by_cases b:m<0 <;> simp[k,b] at h
 unfold uA;rw[if_pos (by omega)]
theorem Qi {n m:Int} (h:(!((decide (n<0))==(decide (m<0))))=true) (k:¬ n<0):(1:Int)=uA n m:=by
 by_cases b:m<0 <;> simp[k,b] at h
 unfold uA;rw[if_neg (by omega),if_pos (by omega)]
theorem Qj {n m:Int} (h:(!((decide (n<0))==(decide (m<0))))=false) (k:n<0):gY m.natAbs n.natAbs=uA n m:=by
 by_cases b:m<0 <;> simp[k,b] at h
 unfold uA gY
 by_cases c:n<m
 · rw[if_pos (by omega),if_pos c]
 · by_cases d:m<n
   · rw[if_neg (by omega),if_pos (by omega),if_neg c,if_pos d]
   · rw[if_neg (by omega),if_neg (by omega),if_neg c,if_neg d]
theorem Qk {n m:Int} (h:(!((decide (n<0))==(decide (m<0))))=false) (k:¬ n<0):gY n.natAbs m.natAbs=uA n m:=by
 by_cases b:m<0 <;> simp[k,b] at h
 unfold uA gY
 by_cases c:n<m
 · rw[if_pos (by omega),if_pos c]
 · by_cases d:m<n
   · rw[if_neg (by omega),if_pos (by omega),if_neg c,if_pos d]
   · rw[if_neg (by omega),if_neg (by omega),if_neg c,if_neg d]
def Ql:KF
 | [.agg [.z n B],.agg [.z m C]]=>some (.int .i64 (uA n m),[])
 | _=>none
theorem Tu:bQ 199 Ql:=by
 refine cK Tryz.f199 fun _ _ _ S w0 h ho=> ?_
 unfold Ql at h;split at h <;> cases h;rename_i n B m C;have K:=kn.cons Ga;rcases Bool.eq_false_or_eq_true (!((decide (n<0))==(decide (m<0)))) with h1 | h1
 · have v1:Ref (.bool (!((decide (n<0))==(decide (m<0))))) (.bool true):=Ref.bool h1
   by_cases h2:n<0
   · exact rF K [(11,tt),(5,tt)] (.a2 v1 (iT h2)) (V:=.i6 (-1:Int)) (Ref.int (Qh h1 h2))
   · exact rF K [(11,tt),(5,ff),(15,tt)] (.a3 v1 (iF h2) v1) (V:=.i6 (1:Int)) (Ref.int (Qi h1 h2))
 · have v0:Ref (.bool (!((decide (n<0))==(decide (m<0))))) (.bool false):=Ref.bool h1
   by_cases h2:n<0
   · exact rF K [(11,ff),(15,ff),(21,tt)] (.a3 v0 v0 (iT h2)) (V:=.i6 (gY m.natAbs n.natAbs)) (Ref.int (Qj h1 h2))
   · exact rF K [(11,ff),(15,ff),(21,ff)] (.a3 v0 v0 (iF h2)) (V:=.i6 (gY n.natAbs m.natAbs)) (Ref.int (Qk h1 h2))
def Qm:KF
 | [.agg [.q x B],.agg [.q y C]]=>some (.int .i64 (kV x y),[B+C+200<=LIM])
 | _=>none
theorem GT:bQ 104 Qm:=by
 refine cK Tryz.f104 fun _ _ _ S w0 h ho=> ?_
 unfold Qm at h;split at h <;> cases h;rename_i x B y C;have o1:=ho.one;have L:=dR;have K:=((kn.cons Tu).cons PY).cons CK;exact rF K [] (.a4 (om (max C 64+1<=LIM)) (om (B+(C+1)+128<=LIM)) (om (max B 64+1<=LIM)) (om (C+(B+1)+128<=LIM))) (V:=.i6 (uA (x.num*(y.den:Int)) (y.num*(x.den:Int)))) (Ref.int (Jo x y))
def Qn:KF
 | [.agg [.q x B,.q y C],.agg [.q z D,.q w E]]=>some (.bool (decide (x=z/\y=w)),[B+D+200<=LIM,C+E+200<=LIM])
 | _=>none
theorem Qo:bQ 253 Qn:=by
 refine cK Tryz.f253 fun _ _ _ S w0 h ho=> ?_
 unfold Qn at h;split at h <;> cases h;rename_i x B y C z D w E;obtain⟨o1,o2⟩:=ho.e2;have K:=kn.cons GT
 by_cases h1:(kV x z)=(0:Int)
 · exact rF K [(11,tt)] (.a3 o1 (iT h1) o2) (V:=.bool (decide ((kV y w)=(0:Int)))) (Ref.bool (by rw[jW] at h1;simp[jW,h1]))
 · exact rF K [(11,ff)] (.a2 o1 (iF h1)) (V:=.bool false) (Ref.bool (by rw[jW] at h1;simp[h1]))
def cG:=(((((kn.cons Tq).cons Qo).cons Tt).cons PW).cons GT).cons Cn
noncomputable abbrev wX:List Item:=[.code (aN [1,1,1,1,0] (aA Tryz.f190)),.code (aN [1,1,1,1,1] (aA Tryz.f190))]
noncomputable abbrev Aq:List Item:=[.code (aN [1,1,1,1,1,0,0] (aA Tryz.f190)),.code (aN [1,1,1,1,1,0,1] (aA Tryz.f190)),.code (aN [1,1,1,1,1,1] (aA Tryz.f190))]
noncomputable abbrev GU:List Item:=[.code (aN [1,1,1,0] (aA Tryz.f190)),.code (aN [1,1,1,1] (aA Tryz.f190))]
noncomputable abbrev GV:List Item:=[.code (aN [1,1,0,0,1,1,0] (aA Tryz.f190)),.code (aN [1,1,0,0,1,1,1] (aA Tryz.f190)),.inBlock 0,.code (aN [1,1,1] (aA Tryz.f190))]
noncomputable abbrev GW:List Item:=[.code .ret,.inBlock 0,.code (aN [1,1,1] (aA Tryz.f190))]
def lE (v:BodyD):Bool:=decide (v.par= -1/\(v.at_.x=0/\v.at_.z=0)/\Int.sign v.low.num=0/\Int.sign v.high.num=0)
def pR (v:BodyD) (i:Nat):Bool:=decide (0<=v.par/\v.par<((i:Nat):Int)/\kV v.low v.high<=0)
def jC (i:Nat) (v:BodyD) (tr lb:Bool):Int:=if (i=0/\tr=false)\/(0<i/\lb=false)\/Int.sign v.ma.num<=0\/Int.sign v.inr.num<=0\/cW v.shape=false then 2 else 0
def sT (bs:List BodyD) (i:Nat) (v:BodyD):Prop:=0<=fD (fun j=>(((bs.take i).getD j default).name.toList==v.name.toList)) 0 i
instance (bs:List BodyD) (i:Nat) (v:BodyD):Decidable (sT bs i v):=by unfold sT;infer_instance
def BN (bs:List BodyD) (i:Nat) (v:BodyD):Int:=if eG v.name=false then 6 else if sT bs i v then 7 else jC i v (lE v) (pR v i)
def eE (bs:List BodyD) (i:Nat):Int:=BN bs i (bs.getD i default)
def Qp:KF
 | [.agg M,.int .i64 i]=>some (.int .i64 (eE (aF M).bodies i.toNat),[0<=i,M=aD 300 (aF M),i.toNat<(aF M).bodies.length,(aF M).bodies.length<=4611686018427387904])
 | _=>none
section
variable {S:Nat->Prop} {w0:World}
theorem GX {R:Int} {todo:List Item} {σ:List AV} {h:List (Option ABlk)} {b:Int} (e:b=R) (hσ:σ.getD 4 .any= .i6 b):GF 190 S w0 (.i6 R) (.code .ret::todo) ⟨σ,h⟩:=
 bP aT (fn:=Tryz.f190) (by kernel_rfl) 4 (by kernel_rfl) rfl (by rw[hσ];rfl) (by rw[hσ,e];exact rr)
theorem CO (i:Nat) (v:BodyD) (tr lb:Bool):GF 190 S w0 (.i6 (jC i v tr lb)) Aq ⟨slots 95 [(1,.i6 ((i:Nat):Int)),(5,.cptr (aE 300 v) 0),(6,.bool tr),(7,.bool lb)],[]⟩:=by
 have hL:True:=trivial;have v0:(v.shape.map (eY 300))=((v.shape.map (eY 300)).map BJ).map (eY 300):=(congrArg (fun l=>l.map (eY 300)) (uL _)).symm;have v1:Ref (.bool (cW ((v.shape.map (eY 300)).map BJ))) (.bool (cW v.shape)):=Ref.bool (congrArg cW (uL _))
 by_cases c1:((i:Nat):Int)=(0:Int)
 · rcases Bool.eq_false_or_eq_true (!tr) with c2 | c2
   · exact rF cG [(65,tt),(69,tt)] (.a2 (iT c1) (show Ref (.bool (!tr)) (.bool true) from Ref.bool c2)) (V:=.i6 (2:Int)) (Ref.int (by clear hL;unfold jC;simp_all))
   · by_cases c3:(0:Int)<((i:Nat):Int)
     · exfalso;omega
     · have v2:Ref (.bool (!tr)) (.bool false):=Ref.bool c2
       by_cases c4:(Int.sign v.ma.num)<=(0:Int)
       · exact rF cG [(65,tt),(69,ff),(72,ff),(83,tt)] (.a4 (iT c1) v2 (iF c3) (iT c4)) (V:=.i6 (2:Int)) (Ref.int (by clear hL;unfold jC;simp_all))
       · by_cases c5:(Int.sign v.inr.num)<=(0:Int)
         · exact rF cG [(65,tt),(69,ff),(72,ff),(83,ff),(89,tt)] (.a5 (iT c1) v2 (iF c3) (iF c4) (iT c5)) (V:=.i6 (2:Int)) (Ref.int (by clear hL;unfold jC;simp_all))
         · rcases Bool.eq_false_or_eq_true (!(cW v.shape)) with c6 | c6
           · exact rF cG [(65,tt),(69,ff),(72,ff),(83,ff),(89,ff),(92,.bool (cW v.shape)),(94,tt)] (.c6 (iT c1) v2 (iF c3) (iF c4) (iF c5) v1 (.a2 v0 (show Ref (.bool (!(cW v.shape))) (.bool true) from Ref.bool c6))) (V:=.i6 (2:Int)) (Ref.int (by clear hL;unfold jC;simp_all))
           · exact rF cG [(65,tt),(69,ff),(72,ff),(83,ff),(89,ff),(92,.bool (cW v.shape)),(94,ff)] (.c6 (iT c1) v2 (iF c3) (iF c4) (iF c5) v1 (.a2 v0 (show Ref (.bool (!(cW v.shape))) (.bool false) from Ref.bool c6))) (V:=.i6 (0:Int)) (Ref.int (by clear hL;unfold jC;simp_all))
 · by_cases c2:(0:Int)<((i:Nat):Int)
   · rcases Bool.eq_false_or_eq_true (!lb) with c3 | c3
     · exact rF cG [(65,ff),(72,tt),(77,tt)] (.a3 (iF c1) (iT c2) (show Ref (.bool (!lb)) (.bool true) from Ref.bool c3)) (V:=.i6 (2:Int)) (Ref.int (by clear hL;unfold jC;simp_all))
     · have v3:Ref (.bool (!lb)) (.bool false):=Ref.bool c3
       by_cases c4:(Int.sign v.ma.num)<=(0:Int)
       · exact rF cG [(65,ff),(72,tt),(77,ff),(83,tt)] (.a4 (iF c1) (iT c2) v3 (iT c4)) (V:=.i6 (2:Int)) (Ref.int (by clear hL;unfold jC;simp_all))
       · by_cases c5:(Int.sign v.inr.num)<=(0:Int)
         · exact rF cG [(65,ff),(72,tt),(77,ff),(83,ff),(89,tt)] (.a5 (iF c1) (iT c2) v3 (iF c4) (iT c5)) (V:=.i6 (2:Int)) (Ref.int (by clear hL;unfold jC;simp_all))
         · rcases Bool.eq_false_or_eq_true (!(cW v.shape)) with c6 | c6
           · exact rF cG [(65,ff),(72,tt),(77,ff),(83,ff),(89,ff),(92,.bool (cW v.shape)),(94,tt)] (.c6 (iF c1) (iT c2) v3 (iF c4) (iF c5) v1 (.a2 v0 (show Ref (.bool (!(cW v.shape))) (.bool true) from Ref.bool c6))) (V:=.i6 (2:Int)) (Ref.int (by clear hL;unfold jC;simp_all))
           · exact rF cG [(65,ff),(72,tt),(77,ff),(83,ff),(89,ff),(92,.bool (cW v.shape)),(94,ff)] (.c6 (iF c1) (iT c2) v3 (iF c4) (iF c5) v1 (.a2 v0 (show Ref (.bool (!(cW v.shape))) (.bool false) from Ref.bool c6))) (V:=.i6 (0:Int)) (Ref.int (by clear hL;unfold jC;simp_all))
   · exfalso;omega
theorem Ar (i:Nat) (v:BodyD) (tr:Bool):GF 190 S w0 (.i6 (jC i v tr (pR v i))) wX ⟨slots 95 [(1,.i6 ((i:Nat):Int)),(5,.cptr (aE 300 v) 0),(6,.bool tr)],[]⟩:=by
 by_cases c1:(0:Int)<=v.par
 · by_cases c2:v.par<((i:Nat):Int)
   · refine gR cG (some 8) [1,5,6,7] [] [(49,tt),(55,tt)] (.a3 (iT c1) (iT c2) (dc (300+300+200<=LIM))) (t:=Aq) (σ:=slots 95 [(1,.i6 (i:Int)),(5,.cptr (aE 300 v) 0),(6,.bool tr),(7,(.bool (decide ((kV v.low v.high)<=(0:Int)))))]) (h:=[]) ?_
     have e:pR v i=decide (kV v.low v.high<=(0:Int)):=decide_eq_decide.2 ⟨fun h=>h.2.2,fun h=>⟨c1,c2,h⟩⟩;rw[e];exact CO i v tr _
   · refine gR cG (some 8) [1,5,6,7] [] [(49,tt),(55,ff)] (.a2 (iT c1) (iF c2)) (t:=Aq) (σ:=slots 95 [(1,.i6 (i:Int)),(5,.cptr (aE 300 v) 0),(6,.bool tr),(7,.bool false)]) (h:=[]) ?_
     have e:pR v i=false:=decide_eq_false (by omega);rw[e];exact CO i v tr false
 · refine gR cG (some 8) [1,5,6,7] [] [(49,ff)] (.a1 (iF c1)) (t:=Aq) (σ:=slots 95 [(1,.i6 (i:Int)),(5,.cptr (aE 300 v) 0),(6,.bool tr),(7,.bool false)]) (h:=[]) ?_
   have e:pR v i=false:=decide_eq_false (by omega);rw[e];exact CO i v tr false
theorem MJ (i:Nat) (v:BodyD):GF 190 S w0 (.i6 (jC i v (lE v) (pR v i))) GU ⟨slots 95 [(1,.i6 ((i:Nat):Int)),(5,.cptr (aE 300 v) 0)],[]⟩:=by
 by_cases c1:v.par=(-1:Int)
 · have v0:300+0+200<=LIM:=by decide
   rcases Bool.eq_false_or_eq_true (decide (v.at_.x=0/\v.at_.z=0)) with c2 | c2
   · have v1:Ref (.bool (decide (v.at_.x=0/\v.at_.z=0))) (.bool true):=Ref.bool c2
     by_cases c3:(Int.sign v.low.num)=(0:Int)
     · refine gR cG (some 7) [1,5,6] [] [(28,tt),(34,tt),(40,tt)] (.a5 (iT c1) v0 v0 v1 (iT c3)) (t:=wX) (σ:=slots 95 [(1,.i6 (i:Int)),(5,.cptr (aE 300 v) 0),(6,(.bool (decide ((Int.sign v.high.num)=(0:Int)))))]) (h:=[]) ?_
       have e:lE v=decide (Int.sign v.high.num=(0:Int)):=decide_eq_decide.2 ⟨fun h=>h.2.2.2,fun h=>⟨c1,of_decide_eq_true c2,c3,h⟩⟩;rw[e];exact Ar i v _
     · refine gR cG (some 7) [1,5,6] [] [(28,tt),(34,tt),(40,ff)] (.a5 (iT c1) v0 v0 v1 (iF c3)) (t:=wX) (σ:=slots 95 [(1,.i6 (i:Int)),(5,.cptr (aE 300 v) 0),(6,.bool false)]) (h:=[]) ?_
       have e:lE v=false:=decide_eq_false (fun h=>c3 h.2.2.1);rw[e];exact Ar i v false
   · refine gR cG (some 7) [1,5,6] [] [(28,tt),(34,ff)] (.a4 (iT c1) v0 v0 (show Ref (.bool (decide (v.at_.x=0/\v.at_.z=0))) (.bool false) from Ref.bool c2)) (t:=wX) (σ:=slots 95 [(1,.i6 (i:Int)),(5,.cptr (aE 300 v) 0),(6,.bool false)]) (h:=[]) ?_
     have e:lE v=false:=decide_eq_false (fun h=>by have:=decide_eq_true h.2.1;rw[this] at c2;cases c2);rw[e];exact Ar i v false
 · refine gR cG (some 7) [1,5,6] [] [(28,ff)] (.a1 (iF c1)) (t:=wX) (σ:=slots 95 [(1,.i6 (i:Int)),(5,.cptr (aE 300 v) 0),(6,.bool false)]) (h:=[]) ?_
   have e:lE v=false:=decide_eq_false (fun h=>c1 h.1);rw[e];exact Ar i v false
theorem MK (m:MachD) (i:Nat) (v:BodyD) (hi:i<=m.bodies.length) (hL:m.bodies.length<=4611686018427387904):GF 190 S w0 (.i6 (if sT m.bodies i v then 7 else jC i v (lE v) (pR v i))) GV ⟨slots 95 [(1,.i6 ((i:Nat):Int)),(2,.ptr 0 6 0 0),(5,.cptr (aE 300 v) 0)],[some ⟨41,6,false,[aD 300 m],none⟩]⟩:=by
 have ht:(m.bodies.take i).length=i:=by rw[List.length_take];omega
 have hx:((m.bodies.take i).map (aE 300)).length=i:=by rw[bH,ht]
 have v0:Ref (.bool (decide (0<=fD (fun j=>(((((m.bodies.take i).map (aE 300)).map reBody).getD j default).name.toList==v.name.toList)) 0 ((m.bodies.take i).map (aE 300)).length))) (.bool (decide (0<=fD (fun j=>(((m.bodies.take i).getD j default).name.toList==v.name.toList)) 0 i))):=Ref.bool (by rw[iN,hx]);have v1:Ref (.list 27 (((m.bodies.map (aE 300)).take i).drop 0)) (.list 27 ((m.bodies.take i).map (aE 300))):=Ref.eq (by rw[List.drop_zero,List.map_take]);have v2:((m.bodies.take i).map (aE 300))=(((m.bodies.take i).map (aE 300)).map reBody).map (aE 300):=by rw[iN]
 have v3:(i:Int)<=((m.bodies.map (aE 300)).length:Int):=by rw[bH];omega
 have v4:((m.bodies.take i).map (aE 300)).length<=4611686018427387904:=by omega
 rcases Bool.eq_false_or_eq_true (decide (0<=fD (fun j=>(((m.bodies.take i).getD j default).name.toList==v.name.toList)) 0 i)) with c1 | c1
 · refine gR cG (some 6) [1,2,4,5] [0] [(22,.list 27 ((m.bodies.take i).map (aE 300))),(24,.bool (decide (0<=fD (fun j=>(((m.bodies.take i).getD j default).name.toList==v.name.toList)) 0 i))),(18,tt)] (.c6 v1 (nn i) v3 v0 v2 v4 (.a1 (show Ref (.bool (decide (0<=fD (fun j=>(((m.bodies.take i).getD j default).name.toList==v.name.toList)) 0 i))) (.bool true) from Ref.bool c1))) (t:=GW) (σ:=slots 95 [(1,.i6 (i:Int)),(2,.ptr 0 6 0 0),(4,.i6 (7:Int)),(5,.cptr (aE 300 v) 0)]) (h:=[some ⟨41,6,false,[(aD 300 m)],none⟩]) ?_
   rw[if_pos (show sT m.bodies i v from of_decide_eq_true c1)];exact GX (b:=7) rfl rfl
 · refine gR cG (some 6) [1,2,4,5] [0] [(22,.list 27 ((m.bodies.take i).map (aE 300))),(24,.bool (decide (0<=fD (fun j=>(((m.bodies.take i).getD j default).name.toList==v.name.toList)) 0 i))),(18,ff)] (.c6 v1 (nn i) v3 v0 v2 v4 (.a1 (show Ref (.bool (decide (0<=fD (fun j=>(((m.bodies.take i).getD j default).name.toList==v.name.toList)) 0 i))) (.bool false) from Ref.bool c1))) (t:=GU) (σ:=slots 95 [(1,.i6 (i:Int)),(2,.ptr 0 6 0 0),(5,.cptr (aE 300 v) 0)]) (h:=[some ⟨41,6,false,[(aD 300 m)],none⟩]) ?_
   rw[if_neg (show ¬ sT m.bodies i v from of_decide_eq_false c1)];exact Good.weak 95 [(1,_),(5,_)] (by kernel_rfl) (.r (.r .nil)) (Good.tidy [] (by decide) (by kernel_rfl) (by kernel_rfl) (MJ i v))
end
theorem Tv:bQ 190 Qp:=fun args r ob h ho=>by
 unfold Qp at h
 split at h
 · rename_i M i
   cases h;have o0:0<=i:=ho _ (by simp);have o1:M=aD 300 (aF M):=ho _ (by simp);have o2:i.toNat<(aF M).bodies.length:=ho _ (by simp);have o3:(aF M).bodies.length<=4611686018427387904:=ho _ (by simp);clear ho;generalize aF M=m at*;subst o1;obtain⟨i,rfl⟩:=Int.eq_ofNat_of_zero_le o0;replace o2:i<m.bodies.length:=o2;show tX Tryz.prog 190 [.agg (aD 300 m),.i6 ((i:Nat):Int)] (.i6 (BN m.bodies i (m.bodies.getD i default)));obtain⟨v,hv⟩:∃ v,v=m.bodies.getD i default:=⟨_,rfl⟩;have hr:Ref (.cptr ((m.bodies.map (aE 300)).getD i []) 0) (.cptr (aE 300 v) 0):=by rw[hv];exact Ref.cmap o2
   rw[<- hv];clear hv;refine af Tryz.f190 fun S w0=> ?_
   have e:kC [AV.agg (aD 300 m),.i6 ((i:Nat):Int)] Tryz.f190.ntmps=⟨slots 95 [(0,.agg (aD 300 m)),(1,.i6 ((i:Nat):Int))],[]⟩:=by kernel_rfl
   rw[e];clear e;unfold BN;have v0:(i:Int)<((m.bodies.map (aE 300)).length:Int):=by rw[bH];omega
   rcases Bool.eq_false_or_eq_true (!(eG v.name)) with c1 | c1
   · refine gR cG (some 4) [1,2,4,5] [0,1] [(11,.cptr (aE 300 v) 0),(13,tt)] (.a4 hr (nn i) v0 (show Ref (.bool (!(eG v.name))) (.bool true) from Ref.bool c1)) (t:=GW) (σ:=slots 95 [(1,.i6 (i:Int)),(2,.ptr 0 6 0 0),(4,.i6 (6:Int)),(5,.ptr 1 27 0 0)]) (h:=[some ⟨41,6,false,[(aD 300 m)],none⟩,some ⟨114,27,false,[(aE 300 v)],none⟩]) ?_
     rw[if_pos (show eG v.name=false by simpa using c1)];exact GX (b:=6) rfl rfl
   · refine gR cG (some 4) [1,2,4,5] [0,1] [(11,.cptr (aE 300 v) 0),(13,ff)] (.a4 hr (nn i) v0 (show Ref (.bool (!(eG v.name))) (.bool false) from Ref.bool c1)) (t:=GV) (σ:=slots 95 [(1,.i6 (i:Int)),(2,.ptr 0 6 0 0),(4,.i6 (0:Int)),(5,.ptr 1 27 0 0)]) (h:=[some ⟨41,6,false,[(aD 300 m)],none⟩,some ⟨114,27,false,[(aE 300 v)],none⟩]) ?_
     rw[if_neg (show ¬ eG v.name=false by simpa using c1)];refine Good.freezeD (b:=⟨114,27,false,[aE 300 v],none⟩) 1 (by rfl) (by rfl) (.oe (.a1 (dc (0<1)))) .on ?_;refine Good.tidy [0] (by decide) (σ':=slots 95 [(1,.i6 ((i:Nat):Int)),(2,.ptr 0 6 0 0),(4,.i6 (0:Int)),(5,.cptr (aE 300 v) 0)]) (h':=[some ⟨41,6,false,[aD 300 m],none⟩]) (by kernel_rfl) (by kernel_rfl) ?_;exact Good.weak 95 [(1,_),(2,_),(5,_)] (by kernel_rfl) (.r (.r (.r .nil))) (MK m i v (Nat.le_of_lt o2) o3)
 · cases h
def oA:=kn.cons Tv
def eO (f:Nat->Int):Nat->Nat->Int
 | _,0=>0
 | i,k+1=>if f i=0 then eO f (i+1) k else f i
def bC (n:Nat) (most:Int) (f:Nat->Int):Int:=if most<((n:Nat):Int) then 5 else eO f 0 n
def Qq:KF
 | [.list 27 X,.int .i64 t,.fnm 190 true M]=>some (.int .i64 (bC (aF M).bodies.length t (fun i=>eE (aF M).bodies i)),[M=aD 300 (aF M),X=(aF M).bodies.map (aE 300),(aF M).bodies.length<=4611686018427387904])
 | _=>none
section
variable {S:Nat->Prop} {w0:World}
theorem Tw {R:Int} {todo:List Item} {σ:List AV} {h:List (Option ABlk)} {b:Int} (e:b=R) (hσ:σ.getD 6 .any= .i6 b):GF 189 S w0 (.i6 R) (.code .ret::todo) ⟨σ,h⟩:=
 bP aT (fn:=Tryz.f189) (by kernel_rfl) 6 (by kernel_rfl) rfl (by rw[hσ];rfl) (by rw[hσ,e];exact rr)
noncomputable abbrev ML:List Item:=[.code (aN [1,1,0,1,0,0] (aA Tryz.f189)),.inLoop (aN [1,1,0,1,0,0] (aA Tryz.f189)),.inBlock 0,.code (aN [1,1,1] (aA Tryz.f189))]
theorem Kd {m:MachD} {R:Int} (hR:eO (fun i=>eE m.bodies i) 0 m.bodies.length=R) (hL:m.bodies.length<=4611686018427387904):
   GF 189 S w0 (.i6 R) ML ⟨slots 25 [(0,.list 27 (m.bodies.map (aE 300))),(2,.fnm 190 true (aD 300 m)),(14,.i6 ((m.bodies.length:Nat):Int)),(15,.i6 ((0:Nat):Int))],[]⟩:=by
 refine qA (G:=fun i=>eO (fun i=>eE m.bodies i) i (m.bodies.length-i)=R->GF 189 S w0 (.i6 R) ML ⟨slots 25 [(0,.list 27 (m.bodies.map (aE 300))),(2,.fnm 190 true (aD 300 m)),(14,.i6 ((m.bodies.length:Nat):Int)),(15,.i6 ((i:Nat):Int))],[]⟩) m.bodies.length ?_ ?_ hR
 · intro he
   rw[Nat.sub_self] at he;exact rF oA [(16,ff)] (.a1 (iF (om (¬ ((m.bodies.length:Int)<(m.bodies.length:Int)))))) (V:=.i6 (0:Int)) (Ref.int he)
 · intro i hlt ih he
   have hx:(m.bodies.map (aE 300)).length=m.bodies.length:=bH ..;rw[show m.bodies.length-i=(m.bodies.length-(i+1))+1 by omega,eO] at he;have v0:Ref (.i6 (eE (aF (aD 300 m)).bodies i)) (.i6 (eE m.bodies i)):=Ref.int (congrArg (fun x:MachD=>eE x.bodies i) (aU m));have v1:(aF (aD 300 m)).bodies.length<=4611686018427387904:=(congrArg (fun x:MachD=>x.bodies.length<=4611686018427387904) (aU m)).mpr hL;have v2:i<(aF (aD 300 m)).bodies.length:=(congrArg (fun x:MachD=>i<x.bodies.length) (aU m)).mpr hlt;have v3:(aD 300 m)=aD 300 (aF (aD 300 m)):=(congrArg (aD 300) (aU m)).symm;have v4:(i:Int)<(m.bodies.length:Int):=by omega
   by_cases c:eE m.bodies i=0
   · rw[if_pos c] at he
     exact gR oA none [0,2,6,14,15] [] [(16,tt),(20,.i6 (eE m.bodies i)),(22,ff),(24,.i6 ((i+1:Nat):Int))] (.c6 (iT v4) v0 (nn i) v3 v2 v1 (.a2 (jF c) (wI ((i:Int)+(1:Int)) ((i+1:Nat):Int)))) (ih he)
   · rw[if_neg c] at he
     exact rF oA [(16,tt),(20,.i6 (eE m.bodies i)),(22,tt)] (.c6 (iT v4) v0 (nn i) v3 v2 v1 (.a1 (jT c))) (V:=.i6 (eE m.bodies i)) (Ref.int he)
end
theorem Tx:bQ 189 Qq:=by
 refine cK Tryz.f189 fun _ _ _ S w0 h ho=> ?_
 unfold Qq at h;split at h <;> cases h;rename_i X t M;obtain⟨o1,o2,o3⟩:=ho.e3;clear ho;generalize aF M=m at*;subst o1;subst o2;have hx:(m.bodies.map (aE 300)).length=m.bodies.length:=bH ..
 by_cases c:t<((m.bodies.length:Nat):Int)
 · exact rF oA [(12,tt)] (.a1 (iT (show t<((m.bodies.map (aE 300)).length:Int) by rw[hx];exact c))) (V:=.i6 (5:Int)) (Ref.int (by unfold bC;rw[if_pos c]))
 · refine gN oA [0,1,2,6,13,14,15] [(12,ff)] (.a1 (iF (show ¬ (t<((m.bodies.map (aE 300)).length:Int)) by rw[hx];exact c))) (t:=ML) (σ:=slots 25 [(0,.list 27 (m.bodies.map (aE 300))),(1,.i6 t),(2,.fnm 190 true (aD 300 m)),(6,.i6 (0:Int)),(13,.list 27 (m.bodies.map (aE 300))),(14,(.i6 ((m.bodies.map (aE 300)).length:Int))),(15,.i6 (0:Int))]) (h:=[]) ?_
   rw[hx];exact Good.weak 25 [(0,_),(2,_),(14,_),(15,_)] (by kernel_rfl) (.r (.r (.r (.r .nil)))) (Kd (by unfold bC;rw[if_neg c]) o3)
theorem Ref.cmapX {α:Type} [Inhabited α] {f:α->List AV} {g:List AV->α} {X:List (List AV)} {i:Nat} (h:X=(X.map g).map f) (hi:i<X.length):Ref (.cptr (X.getD i []) 0) (.cptr (f ((X.map g).getD i default)) 0):=by
 have:=Ref.cmap (f:=f) (xs:=X.map g) (i:=i) (by rw[bH];exact hi)
 rwa [<- h] at this
def Qr:KF
 | [.agg [.str mn,.list 27 XB,.list 17 XS,.list 17 XT,.list 13 XD,.list 5 XF],.int .i64 i]=>some (.bool (decide (0<=i/\i<((XB.length:Nat):Int))),[])
 | _=>none
theorem MM:bQ 256 Qr:=by
 refine cK Tryz.f256 fun _ _ _ S w0 h ho=> ?_
 unfold Qr at h;split at h <;> cases h;rename_i mn XB XS XT XD XF i
 by_cases h1:(0:Int)<=i
 · exact rF .nil [(7,tt)] (.a1 (iT h1)) (V:=.bool (decide (i<(XB.length:Int)))) (Ref.bool (by simp[h1]))
 · exact rF .nil [(7,ff)] (.a1 (iF h1)) (V:=.bool false) (Ref.bool (by simp[h1]))
def nI (n:Nat) (a b:Int):Bool:=decide (0<=a/\a<((n:Nat):Int))&&(decide (0<=b/\b<((n:Nat):Int))&& !decide (a=b))
def Qs:KF
 | [.agg [.str mn,.list 27 XB,.list 17 XS,.list 17 XT,.list 13 XD,.list 5 XF],.int .i64 a,.int .i64 b]=>some (.bool (nI XB.length a b),[])
 | _=>none
theorem Qt:bQ 255 Qs:=by
 refine cK Tryz.f255 fun _ _ _ S w0 h ho=> ?_
 unfold Qs at h;split at h <;> cases h;rename_i mn XB XS XT XD XF a b;have K:=kn.cons MM;rcases Bool.eq_false_or_eq_true (decide (0<=a/\a<((XB.length:Nat):Int))) with h1 | h1
 · have v0:Ref (.bool (decide (0<=a/\a<(XB.length:Int)))) (.bool true):=Ref.bool h1
   rcases Bool.eq_false_or_eq_true (decide (0<=b/\b<((XB.length:Nat):Int))) with h2 | h2
   · refine rF K [(10,tt),(15,tt)] (.a2 v0 (show Ref (.bool (decide (0<=b/\b<(XB.length:Int)))) (.bool true) from Ref.bool h2)) (V:=.bool (!decide (a=b))) ?_
     unfold nI;simp only[*,Bool.true_and,Bool.false_and];exact rr
   · refine rF K [(10,tt),(15,ff)] (.a2 v0 (show Ref (.bool (decide (0<=b/\b<(XB.length:Int)))) (.bool false) from Ref.bool h2)) (V:=.bool false) ?_
     unfold nI;simp only[*,Bool.true_and,Bool.false_and];exact rr
 · refine rF K [(10,ff)] (.a1 (show Ref (.bool (decide (0<=a/\a<(XB.length:Int)))) (.bool false) from Ref.bool h1)) (V:=.bool false) ?_
   unfold nI;simp only[*,Bool.true_and,Bool.false_and];exact rr
def bX (n:Nat) (v:CordyD):Int:=if nI n v.a v.b=false then 2 else if Int.sign v.k.num<0 then 2 else 0
def Qu:KF
 | [.agg [.str mn,.list 27 XB,.list 17 XS,.list 17 XT,.list 13 XD,.list 5 XF],.int .i64 i]=>some (.int .i64 (bX XB.length ((XS.map cV).getD i.toNat default)),[0<=i,XS=(XS.map cV).map (aJ 300),i.toNat<XS.length])
 | _=>none
theorem Ty:bQ 192 Qu:=by
 refine cK Tryz.f192 fun _ _ _ S w0 h ho=> ?_
 unfold Qu at h;split at h <;> cases h;rename_i mn XB XS XT XD XF i;obtain⟨o1000,o1,o2⟩:=ho.e3;have K:=(kn.cons Qt).cons Cn;obtain⟨i,rfl⟩:=Int.eq_ofNat_of_zero_le o1000;clear o1000;replace o1:XS=(XS.map cV).map (aJ 300):=o1;replace o2:i<XS.length:=o2;obtain⟨v,hv⟩:∃ v,v=(XS.map cV).getD i default:=⟨_,rfl⟩;have hr:Ref (.cptr (XS.getD i []) 0) (.cptr (aJ 300 v) 0):=by rw[hv];exact Ref.cmapX o1 o2
 have v0:Ref (.cptr (XS.getD i []) 0) (.cptr (aJ 300 v) 0):=by exact hr
 have v1:(i:Int)<(XS.length:Int):=by omega
 rcases Bool.eq_false_or_eq_true (!(nI XB.length v.a v.b)) with h1 | h1
 · refine rF K [(9,.cptr (aJ 300 v) 0),(18,tt)] (.a4 v0 (nn i) v1 (show Ref (.bool (!(nI XB.length v.a v.b))) (.bool true) from Ref.bool h1)) (V:=.i6 (2:Int)) (r:=.i6 (bX XB.length ((XS.map cV).getD i default))) ?_
   rw[<- hv];clear hv hr o1 ho;exact Ref.int (by unfold bX;simp_all)
 · have v2:Ref (.bool (!(nI XB.length v.a v.b))) (.bool false):=Ref.bool h1
   by_cases h2:(Int.sign v.k.num)<(0:Int)
   · refine rF K [(9,.cptr (aJ 300 v) 0),(18,ff),(23,tt)] (.a5 v0 (nn i) v1 v2 (iT h2)) (V:=.i6 (2:Int)) (r:=.i6 (bX XB.length ((XS.map cV).getD i default))) ?_
     rw[<- hv];clear hv hr o1 ho;exact Ref.int (by unfold bX;simp_all)
   · refine rF K [(9,.cptr (aJ 300 v) 0),(18,ff),(23,ff)] (.a5 v0 (nn i) v1 v2 (iF h2)) (V:=.i6 (0:Int)) (r:=.i6 (bX XB.length ((XS.map cV).getD i default))) ?_
     rw[<- hv];clear hv hr o1 ho;exact Ref.int (by unfold bX;simp_all)
def oB:=kn.cons Ty
def Qv:KF
 | [.list 17 X,.int .i64 t,.fnm 192 true M]=>some (.int .i64 (bC (aF M).springs.length t (fun i=>bX (aF M).bodies.length ((aF M).springs.getD i default))),[M=aD 300 (aF M),X=(aF M).springs.map (aJ 300),(aF M).springs.length<=4611686018427387904])
 | _=>none
section
variable {S:Nat->Prop} {w0:World}
theorem Tz {R:Int} {todo:List Item} {σ:List AV} {h:List (Option ABlk)} {b:Int} (e:b=R) (hσ:σ.getD 6 .any= .i6 b):GF 191 S w0 (.i6 R) (.code .ret::todo) ⟨σ,h⟩:=
 bP aT (fn:=Tryz.f191) (by kernel_rfl) 6 (by kernel_rfl) rfl (by rw[hσ];rfl) (by rw[hσ,e];exact rr)
noncomputable abbrev MN:List Item:=[.code (aN [1,1,0,1,0,0] (aA Tryz.f191)),.inLoop (aN [1,1,0,1,0,0] (aA Tryz.f191)),.inBlock 0,.code (aN [1,1,1] (aA Tryz.f191))]
theorem Ke {m:MachD} {R:Int} (hR:eO (fun i=>bX m.bodies.length (m.springs.getD i default)) 0 m.springs.length=R) (hL:m.springs.length<=4611686018427387904):
   GF 191 S w0 (.i6 R) MN ⟨slots 25 [(0,.list 17 (m.springs.map (aJ 300))),(2,.fnm 192 true (aD 300 m)),(14,.i6 ((m.springs.length:Nat):Int)),(15,.i6 ((0:Nat):Int))],[]⟩:=by
 refine qA (G:=fun i=>eO (fun i=>bX m.bodies.length (m.springs.getD i default)) i (m.springs.length-i)=R->GF 191 S w0 (.i6 R) MN ⟨slots 25 [(0,.list 17 (m.springs.map (aJ 300))),(2,.fnm 192 true (aD 300 m)),(14,.i6 ((m.springs.length:Nat):Int)),(15,.i6 ((i:Nat):Int))],[]⟩) m.springs.length ?_ ?_ hR
 · intro he
   rw[Nat.sub_self] at he;exact rF oB [(16,ff)] (.a1 (iF (om (¬ ((m.springs.length:Int)<(m.springs.length:Int)))))) (V:=.i6 (0:Int)) (Ref.int he)
 · intro i hlt ih he
   have hx:(m.springs.map (aJ 300)).length=m.springs.length:=bH ..;rw[show m.springs.length-i=(m.springs.length-(i+1))+1 by omega,eO] at he;have v0:Ref (.i6 (bX (m.bodies.map (aE 300)).length (((m.springs.map (aJ 300)).map cV).getD i default))) (.i6 (bX m.bodies.length (m.springs.getD i default))):=Ref.int (by rw[kN,bH]);have v1:(m.springs.map (aJ 300))=((m.springs.map (aJ 300)).map cV).map (aJ 300):=by rw[kN]
   have v2:i<(m.springs.map (aJ 300)).length:=by rw[bH];exact hlt
   have v3:(i:Int)<(m.springs.length:Int):=by omega
   by_cases c:bX m.bodies.length (m.springs.getD i default)=0
   · rw[if_pos c] at he
     exact gR oB none [0,2,6,14,15] [] [(16,tt),(20,.i6 (bX m.bodies.length (m.springs.getD i default))),(22,ff),(24,.i6 ((i+1:Nat):Int))] (.c6 (iT v3) v0 (nn i) v1 v2 (jF c) (.a1 (wI ((i:Int)+(1:Int)) ((i+1:Nat):Int)))) (ih he)
   · rw[if_neg c] at he
     exact rF oB [(16,tt),(20,.i6 (bX m.bodies.length (m.springs.getD i default))),(22,tt)] (.a6 (iT v3) v0 (nn i) v1 v2 (jT c)) (V:=.i6 (bX m.bodies.length (m.springs.getD i default))) (Ref.int he)
end
theorem TA:bQ 191 Qv:=by
 refine cK Tryz.f191 fun _ _ _ S w0 h ho=> ?_
 unfold Qv at h;split at h <;> cases h;rename_i X t M;obtain⟨o1,o2,o3⟩:=ho.e3;clear ho;generalize aF M=m at*;subst o1;subst o2;have hx:(m.springs.map (aJ 300)).length=m.springs.length:=bH ..
 by_cases c:t<((m.springs.length:Nat):Int)
 · exact rF oB [(12,tt)] (.a1 (iT (show t<((m.springs.map (aJ 300)).length:Int) by rw[hx];exact c))) (V:=.i6 (5:Int)) (Ref.int (by unfold bC;rw[if_pos c]))
 · refine gN oB [0,1,2,6,13,14,15] [(12,ff)] (.a1 (iF (show ¬ (t<((m.springs.map (aJ 300)).length:Int)) by rw[hx];exact c))) (t:=MN) (σ:=slots 25 [(0,.list 17 (m.springs.map (aJ 300))),(1,.i6 t),(2,.fnm 192 true (aD 300 m)),(6,.i6 (0:Int)),(13,.list 17 (m.springs.map (aJ 300))),(14,(.i6 ((m.springs.map (aJ 300)).length:Int))),(15,.i6 (0:Int))]) (h:=[]) ?_
   rw[hx];exact Good.weak 25 [(0,_),(2,_),(14,_),(15,_)] (by kernel_rfl) (.r (.r (.r (.r .nil)))) (Ke (by unfold bC;rw[if_neg c]) o3)
def bY (n:Nat) (v:CordyD):Int:=if nI n v.a v.b=false then 2 else if Int.sign v.k.num<=0 then 2 else 0
def Qw:KF
 | [.agg [.str mn,.list 27 XB,.list 17 XS,.list 17 XT,.list 13 XD,.list 5 XF],.int .i64 i]=>some (.int .i64 (bY XB.length ((XT.map cV).getD i.toNat default)),[0<=i,XT=(XT.map cV).map (aJ 300),i.toNat<XT.length])
 | _=>none
theorem TB:bQ 194 Qw:=by
 refine cK Tryz.f194 fun _ _ _ S w0 h ho=> ?_
 unfold Qw at h;split at h <;> cases h;rename_i mn XB XS XT XD XF i;obtain⟨o1000,o1,o2⟩:=ho.e3;have K:=(kn.cons Qt).cons Cn;obtain⟨i,rfl⟩:=Int.eq_ofNat_of_zero_le o1000;clear o1000;replace o1:XT=(XT.map cV).map (aJ 300):=o1;replace o2:i<XT.length:=o2;obtain⟨v,hv⟩:∃ v,v=(XT.map cV).getD i default:=⟨_,rfl⟩;have hr:Ref (.cptr (XT.getD i []) 0) (.cptr (aJ 300 v) 0):=by rw[hv];exact Ref.cmapX o1 o2
 have v0:Ref (.cptr (XT.getD i []) 0) (.cptr (aJ 300 v) 0):=by exact hr
 have v1:(i:Int)<(XT.length:Int):=by omega
 rcases Bool.eq_false_or_eq_true (!(nI XB.length v.a v.b)) with h1 | h1
 · refine rF K [(9,.cptr (aJ 300 v) 0),(18,tt)] (.a4 v0 (nn i) v1 (show Ref (.bool (!(nI XB.length v.a v.b))) (.bool true) from Ref.bool h1)) (V:=.i6 (2:Int)) (r:=.i6 (bY XB.length ((XT.map cV).getD i default))) ?_
   rw[<- hv];clear hv hr o1 ho;exact Ref.int (by unfold bY;simp_all)
 · have v2:Ref (.bool (!(nI XB.length v.a v.b))) (.bool false):=Ref.bool h1
   by_cases h2:(Int.sign v.k.num)<=(0:Int)
   · refine rF K [(9,.cptr (aJ 300 v) 0),(18,ff),(23,tt)] (.a5 v0 (nn i) v1 v2 (iT h2)) (V:=.i6 (2:Int)) (r:=.i6 (bY XB.length ((XT.map cV).getD i default))) ?_
     rw[<- hv];clear hv hr o1 ho;exact Ref.int (by unfold bY;simp_all)
   · refine rF K [(9,.cptr (aJ 300 v) 0),(18,ff),(23,ff)] (.a5 v0 (nn i) v1 v2 (iF h2)) (V:=.i6 (0:Int)) (r:=.i6 (bY XB.length ((XT.map cV).getD i default))) ?_
     rw[<- hv];clear hv hr o1 ho;exact Ref.int (by unfold bY;simp_all)
def oC:=kn.cons TB
def Qx:KF
 | [.list 17 X,.int .i64 t,.fnm 194 true M]=>some (.int .i64 (bC (aF M).tendons.length t (fun i=>bY (aF M).bodies.length ((aF M).tendons.getD i default))),[M=aD 300 (aF M),X=(aF M).tendons.map (aJ 300),(aF M).tendons.length<=4611686018427387904])
 | _=>none
section
variable {S:Nat->Prop} {w0:World}
theorem TC {R:Int} {todo:List Item} {σ:List AV} {h:List (Option ABlk)} {b:Int} (e:b=R) (hσ:σ.getD 6 .any= .i6 b):GF 193 S w0 (.i6 R) (.code .ret::todo) ⟨σ,h⟩:=
 bP aT (fn:=Tryz.f193) (by kernel_rfl) 6 (by kernel_rfl) rfl (by rw[hσ];rfl) (by rw[hσ,e];exact rr)
noncomputable abbrev MO:List Item:=[.code (aN [1,1,0,1,0,0] (aA Tryz.f193)),.inLoop (aN [1,1,0,1,0,0] (aA Tryz.f193)),.inBlock 0,.code (aN [1,1,1] (aA Tryz.f193))]
theorem Kf {m:MachD} {R:Int} (hR:eO (fun i=>bY m.bodies.length (m.tendons.getD i default)) 0 m.tendons.length=R) (hL:m.tendons.length<=4611686018427387904):
   GF 193 S w0 (.i6 R) MO ⟨slots 25 [(0,.list 17 (m.tendons.map (aJ 300))),(2,.fnm 194 true (aD 300 m)),(14,.i6 ((m.tendons.length:Nat):Int)),(15,.i6 ((0:Nat):Int))],[]⟩:=by
 refine qA (G:=fun i=>eO (fun i=>bY m.bodies.length (m.tendons.getD i default)) i (m.tendons.length-i)=R->GF 193 S w0 (.i6 R) MO ⟨slots 25 [(0,.list 17 (m.tendons.map (aJ 300))),(2,.fnm 194 true (aD 300 m)),(14,.i6 ((m.tendons.length:Nat):Int)),(15,.i6 ((i:Nat):Int))],[]⟩) m.tendons.length ?_ ?_ hR
 · intro he
   rw[Nat.sub_self] at he;exact rF oC [(16,ff)] (.a1 (iF (om (¬ ((m.tendons.length:Int)<(m.tendons.length:Int)))))) (V:=.i6 (0:Int)) (Ref.int he)
 · intro i hlt ih he
   have hx:(m.tendons.map (aJ 300)).length=m.tendons.length:=bH ..;rw[show m.tendons.length-i=(m.tendons.length-(i+1))+1 by omega,eO] at he;have v0:Ref (.i6 (bY (m.bodies.map (aE 300)).length (((m.tendons.map (aJ 300)).map cV).getD i default))) (.i6 (bY m.bodies.length (m.tendons.getD i default))):=Ref.int (by rw[kN,bH]);have v1:(m.tendons.map (aJ 300))=((m.tendons.map (aJ 300)).map cV).map (aJ 300):=by rw[kN]
   have v2:i<(m.tendons.map (aJ 300)).length:=by rw[bH];exact hlt
   have v3:(i:Int)<(m.tendons.length:Int):=by omega
   by_cases c:bY m.bodies.length (m.tendons.getD i default)=0
   · rw[if_pos c] at he
     exact gR oC none [0,2,6,14,15] [] [(16,tt),(20,.i6 (bY m.bodies.length (m.tendons.getD i default))),(22,ff),(24,.i6 ((i+1:Nat):Int))] (.c6 (iT v3) v0 (nn i) v1 v2 (jF c) (.a1 (wI ((i:Int)+(1:Int)) ((i+1:Nat):Int)))) (ih he)
   · rw[if_neg c] at he
     exact rF oC [(16,tt),(20,.i6 (bY m.bodies.length (m.tendons.getD i default))),(22,tt)] (.a6 (iT v3) v0 (nn i) v1 v2 (jT c)) (V:=.i6 (bY m.bodies.length (m.tendons.getD i default))) (Ref.int he)
end
theorem TD:bQ 193 Qx:=by
 refine cK Tryz.f193 fun _ _ _ S w0 h ho=> ?_
 unfold Qx at h;split at h <;> cases h;rename_i X t M;obtain⟨o1,o2,o3⟩:=ho.e3;clear ho;generalize aF M=m at*;subst o1;subst o2;have hx:(m.tendons.map (aJ 300)).length=m.tendons.length:=bH ..
 by_cases c:t<((m.tendons.length:Nat):Int)
 · exact rF oC [(12,tt)] (.a1 (iT (show t<((m.tendons.map (aJ 300)).length:Int) by rw[hx];exact c))) (V:=.i6 (5:Int)) (Ref.int (by unfold bC;rw[if_pos c]))
 · refine gN oC [0,1,2,6,13,14,15] [(12,ff)] (.a1 (iF (show ¬ (t<((m.tendons.map (aJ 300)).length:Int)) by rw[hx];exact c))) (t:=MO) (σ:=slots 25 [(0,.list 17 (m.tendons.map (aJ 300))),(1,.i6 t),(2,.fnm 194 true (aD 300 m)),(6,.i6 (0:Int)),(13,.list 17 (m.tendons.map (aJ 300))),(14,(.i6 ((m.tendons.map (aJ 300)).length:Int))),(15,.i6 (0:Int))]) (h:=[]) ?_
   rw[hx];exact Good.weak 25 [(0,_),(2,_),(14,_),(15,_)] (by kernel_rfl) (.r (.r (.r (.r .nil)))) (Kf (by unfold bC;rw[if_neg c]) o3)
def Qy:KF
 | [.agg [.int .i64 p,.q to 300,.q he 300,.q co 300,.q mo 300],.cptr [.int .i64 p',.q to' 300,.q he' 300,.q co' 300,.q mo' 300] 0]=>some (.bool (decide (p=p')),[])
 | _=>none
theorem TE:bQ 258 Qy:=by
 refine cK Tryz.f258 fun _ _ _ S w0 h ho=> ?_
 unfold Qy at h;split at h <;> cases h;rename_i p to he co mo p' to' he' co' mo';exact rR .nil [] .nil
def rM:=kn.cons TE
def Qz:KF
 | [.list 13 X,.fn 258 [.cptr [.int .i64 p0,.q to0 300,.q he0 300,.q co0 300,.q mo0 300] 0]]=>some (.int .i64 (fD (fun j=>(decide (((X.map gB).getD j default).body=p0))) 0 X.length),[X=(X.map gB).map (aP 300),X.length<=4611686018427387904])
 | _=>none
section
variable {S:Nat->Prop} {w0:World}
noncomputable abbrev MP:List Item:=[.code (aN [1,0,1,0,0] (aA Tryz.f295)),.inLoop (aN [1,0,1,0,0] (aA Tryz.f295)),.inBlock 0,.code (aN [1,1] (aA Tryz.f295))]
theorem Kg {es:List MotorD} (p0:Int) (to0 he0 co0 mo0:Rat) (hL:es.length<=4611686018427387904):
   GF 295 S w0 (.i6 (fD (fun j=>(decide ((es.getD j default).body=p0))) 0 es.length)) MP ⟨slots 19 [(0,.list 13 (es.map (aP 300))),(1,.fn 258 [.cptr [.i6 p0,.q to0 300,.q he0 300,.q co0 300,.q mo0 300] 0]),(6,.list 13 (es.map (aP 300))),(7,.i6 ((es.length:Nat):Int)),(8,.i6 ((0:Nat):Int))],[]⟩:=by
 have ret:∀ {todo:List Item} {σ:List AV} {h:List (Option ABlk)} {b:Int},b=fD (fun j=>(decide ((es.getD j default).body=p0))) 0 es.length->σ.getD 4 .any= .i6 b->GF 295 S w0 (.i6 (fD (fun j=>(decide ((es.getD j default).body=p0))) 0 es.length)) (.code .ret::todo) ⟨σ,h⟩:=fun e hσ=>
   bP aT (fn:=Tryz.f295) (by kernel_rfl) 4 (by kernel_rfl) rfl (by rw[hσ];rfl) (by rw[hσ,e];exact rr)
 refine qA (G:=fun i=>fD (fun j=>(decide ((es.getD j default).body=p0))) i (es.length-i)=fD (fun j=>(decide ((es.getD j default).body=p0))) 0 es.length->GF 295 S w0 (.i6 (fD (fun j=>(decide ((es.getD j default).body=p0))) 0 es.length)) MP ⟨slots 19 [(0,.list 13 (es.map (aP 300))),(1,.fn 258 [.cptr [.i6 p0,.q to0 300,.q he0 300,.q co0 300,.q mo0 300] 0]),(6,.list 13 (es.map (aP 300))),(7,.i6 ((es.length:Nat):Int)),(8,.i6 ((i:Nat):Int))],[]⟩) es.length ?_ ?_ rfl
 · intro he
   rw[Nat.sub_self] at he;exact rF rM [(9,ff)] (.a1 (iF (om (¬ ((es.length:Int)<(es.length:Int)))))) (V:=.i6 (-1:Int)) (Ref.int he)
 · intro i hlt ih he
   rw[show es.length-i=(es.length-(i+1))+1 by omega,fD] at he;have v0:Ref (.cptr ((es.map (aP 300)).getD i []) 0) (.cptr (aP 300 (es.getD i default)) 0):=Ref.cmap hlt;have v1:(i:Int)<((es.map (aP 300)).length:Int):=by rw[bH];omega
   have v2:(i:Int)<(es.length:Int):=by omega
   by_cases c:(decide ((es.getD i default).body=p0))=true
   · rw[if_pos c] at he
     exact rF rM [(9,tt),(14,.cptr (aP 300 (es.getD i default)) 0),(16,tt)] (.a5 (iT v2) v0 (nn i) v1 (show Ref (.bool (decide ((es.getD i default).body=p0))) (.bool true) from Ref.bool c)) (V:=.i6 (i:Int)) (Ref.int he)
   · rw[if_neg c] at he
     exact gR rM none [0,1,4,6,7,8] [] [(9,tt),(14,.cptr (aP 300 (es.getD i default)) 0),(16,ff),(18,.i6 ((i+1:Nat):Int))] (.a6 (iT v2) v0 (nn i) v1 (show Ref (.bool (decide ((es.getD i default).body=p0))) (.bool false) from Ref.bool (show(decide ((es.getD i default).body=p0))=false by simpa using c)) (wI ((i:Int)+(1:Int)) ((i+1:Nat):Int))) (ih he)
end
theorem TF:bQ 295 Qz:=by
 refine cK Tryz.f295 fun _ _ _ S w0 h ho=> ?_
 unfold Qz at h;split at h <;> cases h;rename_i X p0 to0 he0 co0 mo0;obtain⟨o1,-⟩:=ho.e2;have o2:(X.map gB).length<=4611686018427387904:=by rw[bH];exact ho _ (by simp)
 clear ho;rw[show X.length=(X.map gB).length by rw[bH]];generalize (X.map gB)=es at*;subst o1;refine gN rM [0,1,6,7,8] [] .nil (t:=MP) (σ:=slots 19 [(0,.list 13 (es.map (aP 300))),(1,.fn 258 [.cptr [.i6 p0,.q to0 300,.q he0 300,.q co0 300,.q mo0 300] 0]),(6,.list 13 (es.map (aP 300))),(7,(.i6 ((es.map (aP 300)).length:Int))),(8,.i6 (0:Int))]) (h:=[]) ?_
 rw[bH];exact Kg p0 to0 he0 co0 mo0 o2
def QA:KF
 | [.list 13 X,.fn 258 [.cptr [.int .i64 p0,.q to0 300,.q he0 300,.q co0 300,.q mo0 300] 0]]=>some (.bool (decide (0<=fD (fun j=>(decide (((X.map gB).getD j default).body=p0))) 0 X.length)),[X=(X.map gB).map (aP 300),X.length<=4611686018427387904])
 | _=>none
theorem TG:bQ 257 QA:=by
 refine cK Tryz.f257 fun _ _ _ S w0 h ho=> ?_
 unfold QA at h;split at h <;> cases h;rename_i X p0 to0 he0 co0 mo0;obtain⟨o1,o2⟩:=ho.e2;have K:=kn.cons TF;exact rR K [] (.a2 o1 o2)
def iB:=((kn.cons TG).cons MM).cons Cn
noncomputable abbrev qC:List Item:=[.code .ret,.inBlock 0,.code (aN [1,1,1] (aA Tryz.f196))]
noncomputable abbrev GY:List Item:=[.code (aN [1,1,0,0,1,1,0] (aA Tryz.f196)),.code (aN [1,1,0,0,1,1,1] (aA Tryz.f196)),.inBlock 0,.code (aN [1,1,1] (aA Tryz.f196))]
def sU (bs:List MotorD) (i:Nat) (v:MotorD):Prop:=0<=fD (fun j=>(decide (((bs.take i).getD j default).body=v.body))) 0 i
instance (bs:List MotorD) (i:Nat) (v:MotorD):Decidable (sU bs i v):=by unfold sU;infer_instance
def CP (n:Nat) (bs:List MotorD) (i:Nat) (v:MotorD):Int:=
 if decide (0<=v.body/\v.body<((n:Nat):Int))=false\/v.body=0\/Int.sign v.t.num<0\/Int.sign v.h.num<0\/Int.sign v.c.num<0\/Int.sign v.m.num<=0 then 2 else if sU bs i v then 7 else 0
def dP (n:Nat) (bs:List MotorD) (i:Nat):Int:=CP n bs i (bs.getD i default)
def QC:KF
 | [.agg M,.int .i64 i]=>some (.int .i64 (dP (aF M).bodies.length (aF M).motors i.toNat),[0<=i,M=aD 300 (aF M),i.toNat<(aF M).motors.length,(aF M).motors.length<=4611686018427387904])
 | _=>none
section
variable {S:Nat->Prop} {w0:World}
theorem oD {R:Int} {todo:List Item} {σ:List AV} {h:List (Option ABlk)} {b:Int} (e:b=R) (hσ:σ.getD 4 .any= .i6 b):GF 196 S w0 (.i6 R) (.code .ret::todo) ⟨σ,h⟩:=
 bP aT (fn:=Tryz.f196) (by kernel_rfl) 4 (by kernel_rfl) rfl (by rw[hσ];rfl) (by rw[hσ,e];exact rr)
theorem MQ (m:MachD) (i:Nat) (v:MotorD) (hi:i<=m.motors.length) (hL:m.motors.length<=4611686018427387904):GF 196 S w0 (.i6 (if sU m.motors i v then 7 else 0)) GY ⟨slots 53 [(1,.i6 ((i:Nat):Int)),(2,.ptr 0 6 0 0),(5,.cptr (aP 300 v) 0)],[some ⟨41,6,false,[aD 300 m],none⟩]⟩:=by
 have ht:(m.motors.take i).length=i:=by rw[List.length_take];omega
 have hx:((m.motors.take i).map (aP 300)).length=i:=by rw[bH,ht]
 have v0:Ref (.bool (decide (0<=fD (fun j=>(decide (((((m.motors.take i).map (aP 300)).map gB).getD j default).body=v.body))) 0 ((m.motors.take i).map (aP 300)).length))) (.bool (decide (0<=fD (fun j=>(decide (((m.motors.take i).getD j default).body=v.body))) 0 i))):=Ref.bool (by rw[pZ,hx]);have v1:Ref (.list 13 (((m.motors.map (aP 300)).take i).drop 0)) (.list 13 ((m.motors.take i).map (aP 300))):=Ref.eq (by rw[List.drop_zero,List.map_take]);have v2:((m.motors.take i).map (aP 300))=(((m.motors.take i).map (aP 300)).map gB).map (aP 300):=by rw[pZ]
 have v3:(i:Int)<=((m.motors.map (aP 300)).length:Int):=by rw[bH];omega
 have v4:((m.motors.take i).map (aP 300)).length<=4611686018427387904:=by omega
 rcases Bool.eq_false_or_eq_true (decide (0<=fD (fun j=>(decide (((m.motors.take i).getD j default).body=v.body))) 0 i)) with c1 | c1
 · refine gR iB none [4] [] [(50,.list 13 ((m.motors.take i).map (aP 300))),(52,.bool (decide (0<=fD (fun j=>(decide (((m.motors.take i).getD j default).body=v.body))) 0 i))),(46,tt)] (.c6 v1 (nn i) v3 v0 v2 v4 (.a1 (show Ref (.bool (decide (0<=fD (fun j=>(decide (((m.motors.take i).getD j default).body=v.body))) 0 i))) (.bool true) from Ref.bool c1))) (t:=qC) (σ:=slots 53 [(4,.i6 (7:Int))]) (h:=[]) ?_
   rw[if_pos (show sU m.motors i v from of_decide_eq_true c1)];exact oD (b:=7) rfl rfl
 · refine gR iB none [4] [] [(50,.list 13 ((m.motors.take i).map (aP 300))),(52,.bool (decide (0<=fD (fun j=>(decide (((m.motors.take i).getD j default).body=v.body))) 0 i))),(46,ff)] (.c6 v1 (nn i) v3 v0 v2 v4 (.a1 (show Ref (.bool (decide (0<=fD (fun j=>(decide (((m.motors.take i).getD j default).body=v.body))) 0 i))) (.bool false) from Ref.bool c1))) (t:=[.code .ret]) (σ:=slots 53 [(4,.i6 (0:Int))]) (h:=[]) ?_
   rw[if_neg (show ¬ sU m.motors i v from of_decide_eq_false c1)];exact oD (b:=0) rfl rfl
end
abbrev qD (m:MachD) (v:MotorD):List (Option ABlk):=[some ⟨41,6,false,[(aD 300 m)],none⟩,some ⟨239,13,false,[(aP 300 v)],none⟩]
theorem TH   : bQ  196 QC:=fun args r ob h ho=>by
 unfold QC at h
 split at h
 · rename_i M i
   cases h;have o0:0<=i:=ho _ (by simp);have o1:M=aD 300 (aF M):=ho _ (by simp);have o2:i.toNat<(aF M).motors.length:=ho _ (by simp);have o3:(aF M).motors.length<=4611686018427387904:=ho _ (by simp);clear ho;generalize aF M=m at*;subst o1;obtain⟨i,rfl⟩:=Int.eq_ofNat_of_zero_le o0;replace o2:i<m.motors.length:=o2;show tX Tryz.prog 196 [.agg (aD 300 m),.i6 ((i:Nat):Int)] (.i6 (CP m.bodies.length m.motors i (m.motors.getD i default)));obtain⟨v,hv⟩:∃ v,v=m.motors.getD i default:=⟨_,rfl⟩;have hr:Ref (.cptr ((m.motors.map (aP 300)).getD i []) 0) (.cptr (aP 300 v) 0):=by rw[hv];exact Ref.cmap o2
   rw[<- hv];clear hv;refine af Tryz.f196 fun S w0=> ?_
   have e:kC [AV.agg (aD 300 m),.i6 ((i:Nat):Int)] Tryz.f196.ntmps=⟨slots 53 [(0,.agg (aD 300 m)),(1,.i6 ((i:Nat):Int))],[]⟩:=by kernel_rfl
   rw[e];clear e;have hb:(m.bodies.map (aE 300)).length=m.bodies.length:=bH ..;unfold CP;have v1:(i:Int)<((m.motors.map (aP 300)).length:Int):=by rw[bH];omega
   rcases Bool.eq_false_or_eq_true (!(decide (0<=v.body/\v.body<(((m.bodies.map (aE 300)).length:Nat):Int)))) with c1 | c1
   · refine gR iB (some 4) [1,2,4,5] [0,1] [(9,.cptr (aP 300 v) 0),(17,tt)] (.a4 hr (nn i) v1 (show Ref (.bool (!(decide (0<=v.body/\v.body<((m.bodies.map (aE 300)).length:Int))))) (.bool true) from Ref.bool c1)) (t:=qC) (σ:=slots 53 [(1,.i6 (i:Int)),(2,.ptr 0 6 0 0),(4,.i6 (2:Int)),(5,.ptr 1 13 0 0)]) (h:=(qD m v)) ?_
     rw[hb] at c1;generalize decide (0<=v.body/\v.body<((m.bodies.length:Nat):Int))=dd at c1 ⊢;exact oD (b:=2) (by rw[if_pos (by clear hr o2 o3 S w0;simp_all)]) rfl
   · have v0 : Ref (.bool (!(decide (0<=v.body/\v.body<((m.bodies.map (aE 300)).length:Int))))) (.bool false):=Ref.bool c1
     by_cases c2:v.body=(0:Int)
     · refine gR iB (some 4) [1,2,4,5] [0,1] [(9,.cptr (aP 300 v) 0),(17,ff),(22,tt)] (.a5 hr (nn i) v1 v0 (iT c2)) (t:=qC) (σ:=slots 53 [(1,.i6 (i:Int)),(2,.ptr 0 6 0 0),(4,.i6 (2:Int)),(5,.ptr 1 13 0 0)]) (h:=(qD m v)) ?_
       rw[hb] at c1;generalize decide (0<=v.body/\v.body<((m.bodies.length:Nat):Int))=dd at c1 ⊢;exact oD (b:=2) (by rw[if_pos (by clear hr o2 o3 S w0;simp_all)]) rfl
     · by_cases c3:(Int.sign v.t.num)<(0:Int)
       · refine gR iB (some 4) [1,2,4,5] [0,1] [(9,.cptr (aP 300 v) 0),(17,ff),(22,ff),(28,tt)] (.a6 hr (nn i) v1 v0 (iF c2) (iT c3)) (t:=qC) (σ:=slots 53 [(1,.i6 (i:Int)),(2,.ptr 0 6 0 0),(4,.i6 (2:Int)),(5,.ptr 1 13 0 0)]) (h:=(qD m v)) ?_
         rw[hb] at c1;generalize decide (0<=v.body/\v.body<((m.bodies.length:Nat):Int))=dd at c1 ⊢;exact oD (b:=2) (by rw[if_pos (by clear hr o2 o3 S w0;simp_all)]) rfl
       · by_cases c4:(Int.sign v.h.num)<(0:Int)
         · refine gR iB (some 4) [1,2,4,5] [0,1] [(9,.cptr (aP 300 v) 0),(17,ff),(22,ff),(28,ff),(34,tt)] (.c6 hr (nn i) v1 v0 (iF c2) (iF c3) (.a1 (iT c4))) (t:=qC) (σ:=slots 53 [(1,.i6 (i:Int)),(2,.ptr 0 6 0 0),(4,.i6 (2:Int)),(5,.ptr 1 13 0 0)]) (h:=(qD m v)) ?_
           rw[hb] at c1;generalize decide (0<=v.body/\v.body<((m.bodies.length:Nat):Int))=dd at c1 ⊢;exact oD (b:=2) (by rw[if_pos (by clear hr o2 o3 S w0;simp_all)]) rfl
         · by_cases c5:(Int.sign v.c.num)<(0:Int)
           · refine gR iB (some 4) [1,2,4,5] [0,1] [(9,.cptr (aP 300 v) 0),(17,ff),(22,ff),(28,ff),(34,ff),(40,tt)] (.c6 hr (nn i) v1 v0 (iF c2) (iF c3) (.a2 (iF c4) (iT c5))) (t:=qC) (σ:=slots 53 [(1,.i6 (i:Int)),(2,.ptr 0 6 0 0),(4,.i6 (2:Int)),(5,.ptr 1 13 0 0)]) (h:=(qD m v)) ?_
             rw[hb] at c1;generalize decide (0<=v.body/\v.body<((m.bodies.length:Nat):Int))=dd at c1 ⊢;exact oD (b:=2) (by rw[if_pos (by clear hr o2 o3 S w0;simp_all)]) rfl
           · by_cases c6:(Int.sign v.m.num)<=(0:Int)
             · refine gR iB (some 4) [1,2,4,5] [0,1] [(9,.cptr (aP 300 v) 0),(17,ff),(22,ff),(28,ff),(34,ff),(40,ff),(11,tt)] (.c6 hr (nn i) v1 v0 (iF c2) (iF c3) (.a3 (iF c4) (iF c5) (iT c6))) (t:=qC) (σ:=slots 53 [(1,.i6 (i:Int)),(2,.ptr 0 6 0 0),(4,.i6 (2:Int)),(5,.ptr 1 13 0 0)]) (h:=(qD m v)) ?_
               rw[hb] at c1;generalize decide (0<=v.body/\v.body<((m.bodies.length:Nat):Int))=dd at c1 ⊢;exact oD (b:=2) (by rw[if_pos (by clear hr o2 o3 S w0;simp_all)]) rfl
             · refine gR iB (some 4) [1,2,4,5] [0,1] [(9,.cptr (aP 300 v) 0),(17,ff),(22,ff),(28,ff),(34,ff),(40,ff),(11,ff)] (.c6 hr (nn i) v1 v0 (iF c2) (iF c3) (.a3 (iF c4) (iF c5) (iF c6))) (t:=GY) (σ:=slots 53 [(1,.i6 (i:Int)),(2,.ptr 0 6 0 0),(4,.i6 (0:Int)),(5,.ptr 1 13 0 0)]) (h:=(qD m v)) ?_
               rw[hb] at c1;generalize decide (0<=v.body/\v.body<((m.bodies.length:Nat):Int))=dd at c1 ⊢;rw[if_neg (by clear hr o2 o3 S w0;simp_all)];refine Good.freezeD (b:=⟨239,13,false,[aP 300 v],none⟩) 1 (by rfl) (by rfl) (.oe (.a1 (dc (0<1)))) .on ?_;refine Good.tidy [0] (by decide) (σ':=slots 53 [(1,.i6 ((i:Nat):Int)),(2,.ptr 0 6 0 0),(4,.i6 (0:Int)),(5,.cptr (aP 300 v) 0)]) (h':=[some ⟨41,6,false,[aD 300 m],none⟩]) (by kernel_rfl) (by kernel_rfl) ?_;exact Good.weak 53 [(1,_),(2,_),(5,_)] (by kernel_rfl) (.r (.r (.r .nil))) (MQ m i v (Nat.le_of_lt o2) o3)
 · cases h
def oE:=kn.cons TH
def QD:KF
 | [.list 13 X,.int .i64 t,.fnm 196 true M]=>some (.int .i64 (bC (aF M).motors.length t (fun i=>dP (aF M).bodies.length (aF M).motors i)),[M=aD 300 (aF M),X=(aF M).motors.map (aP 300),(aF M).motors.length<=4611686018427387904])
 | _=>none
section
variable {S:Nat->Prop} {w0:World}
theorem TJ {R:Int} {todo:List Item} {σ:List AV} {h:List (Option ABlk)} {b:Int} (e:b=R) (hσ:σ.getD 6 .any= .i6 b):GF 195 S w0 (.i6 R) (.code .ret::todo) ⟨σ,h⟩:=
 bP aT (fn:=Tryz.f195) (by kernel_rfl) 6 (by kernel_rfl) rfl (by rw[hσ];rfl) (by rw[hσ,e];exact rr)
noncomputable abbrev MR:List Item:=[.code (aN [1,1,0,1,0,0] (aA Tryz.f195)),.inLoop (aN [1,1,0,1,0,0] (aA Tryz.f195)),.inBlock 0,.code (aN [1,1,1] (aA Tryz.f195))]
theorem Kh {m:MachD} {R:Int} (hR:eO (fun i=>dP m.bodies.length m.motors i) 0 m.motors.length=R) (hL:m.motors.length<=4611686018427387904):
   GF 195 S w0 (.i6 R) MR ⟨slots 25 [(0,.list 13 (m.motors.map (aP 300))),(2,.fnm 196 true (aD 300 m)),(14,.i6 ((m.motors.length:Nat):Int)),(15,.i6 ((0:Nat):Int))],[]⟩:=by
 refine qA (G:=fun i=>eO (fun i=>dP m.bodies.length m.motors i) i (m.motors.length-i)=R->GF 195 S w0 (.i6 R) MR ⟨slots 25 [(0,.list 13 (m.motors.map (aP 300))),(2,.fnm 196 true (aD 300 m)),(14,.i6 ((m.motors.length:Nat):Int)),(15,.i6 ((i:Nat):Int))],[]⟩) m.motors.length ?_ ?_ hR
 · intro he
   rw[Nat.sub_self] at he;exact rF oE [(16,ff)] (.a1 (iF (om (¬ ((m.motors.length:Int)<(m.motors.length:Int)))))) (V:=.i6 (0:Int)) (Ref.int he)
 · intro i hlt ih he
   have hx:(m.motors.map (aP 300)).length=m.motors.length:=bH ..;rw[show m.motors.length-i=(m.motors.length-(i+1))+1 by omega,eO] at he;have v0:Ref (.i6 (dP (aF (aD 300 m)).bodies.length (aF (aD 300 m)).motors i)) (.i6 (dP m.bodies.length m.motors i)):=Ref.int (congrArg (fun x:MachD=>dP x.bodies.length x.motors i) (aU m));have v1:(aF (aD 300 m)).motors.length<=4611686018427387904:=(congrArg (fun x:MachD=>x.motors.length<=4611686018427387904) (aU m)).mpr hL;have v2:i<(aF (aD 300 m)).motors.length:=(congrArg (fun x:MachD=>i<x.motors.length) (aU m)).mpr hlt;have v3:(aD 300 m)=aD 300 (aF (aD 300 m)):=(congrArg (aD 300) (aU m)).symm;have v4:(i:Int)<(m.motors.length:Int):=by omega
   by_cases c:dP m.bodies.length m.motors i=0
   · rw[if_pos c] at he
     exact gR oE none [0,2,6,14,15] [] [(16,tt),(20,.i6 (dP m.bodies.length m.motors i)),(22,ff),(24,.i6 ((i+1:Nat):Int))] (.c6 (iT v4) v0 (nn i) v3 v2 v1 (.a2 (jF c) (wI ((i:Int)+(1:Int)) ((i+1:Nat):Int)))) (ih he)
   · rw[if_neg c] at he
     exact rF oE [(16,tt),(20,.i6 (dP m.bodies.length m.motors i)),(22,tt)] (.c6 (iT v4) v0 (nn i) v3 v2 v1 (.a1 (jT c))) (V:=.i6 (dP m.bodies.length m.motors i)) (Ref.int he)
end
theorem TL:bQ 195 QD:=by
 refine cK Tryz.f195 fun _ _ _ S w0 h ho=> ?_
 unfold QD at h;split at h <;> cases h;rename_i X t M;obtain⟨o1,o2,o3⟩:=ho.e3;clear ho;generalize aF M=m at*;subst o1;subst o2;have hx:(m.motors.map (aP 300)).length=m.motors.length:=bH ..
 by_cases c:t<((m.motors.length:Nat):Int)
 · exact rF oE [(12,tt)] (.a1 (iT (show t<((m.motors.map (aP 300)).length:Int) by rw[hx];exact c))) (V:=.i6 (5:Int)) (Ref.int (by unfold bC;rw[if_pos c]))
 · refine gN oE [0,1,2,6,13,14,15] [(12,ff)] (.a1 (iF (show ¬ (t<((m.motors.map (aP 300)).length:Int)) by rw[hx];exact c))) (t:=MR) (σ:=slots 25 [(0,.list 13 (m.motors.map (aP 300))),(1,.i6 t),(2,.fnm 196 true (aD 300 m)),(6,.i6 (0:Int)),(13,.list 13 (m.motors.map (aP 300))),(14,(.i6 ((m.motors.map (aP 300)).length:Int))),(15,.i6 (0:Int))]) (h:=[]) ?_
   rw[hx];exact Good.weak 25 [(0,_),(2,_),(14,_),(15,_)] (by kernel_rfl) (.r (.r (.r (.r .nil)))) (Kh (by unfold bC;rw[if_neg c]) o3)
def cS (n:Nat) (v:FootD):Int:=if decide (0<=v.body/\v.body<((n:Nat):Int))=false then 2 else if v.pts.length<1 then 2 else if 2<v.pts.length then 2 else if v.pts.length=2/\(v.pts.getD 0 default).x=(v.pts.getD 1 default).x/\(v.pts.getD 0 default).z=(v.pts.getD 1 default).z then 2 else if Int.sign v.fr.num<0 then 2 else 0
def QE:KF
 | [.agg [.str mn,.list 27 XB,.list 17 XS,.list 17 XT,.list 13 XD,.list 5 XF],.int .i64 i]=>some (.int .i64 (cS XB.length ((XF.map fC).getD i.toNat default)),[0<=i,XF=(XF.map fC).map (aX 300),i.toNat<XF.length])
 | _=>none
theorem TM   :bQ 198 QE:=by
 refine cK Tryz.f198 fun _ _ _ S w0 h ho=> ?_
 unfold QE at h;split at h <;> cases h;rename_i mn XB XS XT XD XF i;obtain⟨o1000,o1,o2⟩:=ho.e3;have L:=dR;have K:=((kn.cons MM).cons Qo).cons Cn;obtain⟨i,rfl⟩:=Int.eq_ofNat_of_zero_le o1000;clear o1000;replace o1:XF=(XF.map fC).map (aX 300):=o1;replace o2:i<XF.length:=o2;obtain⟨v,hv⟩:∃ v,v=(XF.map fC).getD i default:=⟨_,rfl⟩;have hr:Ref (.cptr (XF.getD i []) 0) (.cptr (aX 300 v) 0):=by rw[hv];exact Ref.cmapX o1 o2
 have hl:(v.pts.map (eY 300)).length=v.pts.length:=bH ..;have v1:Ref (.cptr (XF.getD i []) 0) (.cptr (aX 300 v) 0):=by exact hr
 have v4:(i:Int)<(XF.length:Int):=by omega
 rcases Bool.eq_false_or_eq_true (!(decide (0<=v.body/\v.body<((XB.length:Nat):Int)))) with h1 | h1
 · refine rF K [(9,.cptr (aX 300 v) 0),(16,tt)] (.a4 v1 (nn i) v4 (show Ref (.bool (!(decide (0<=v.body/\v.body<(XB.length:Int))))) (.bool true) from Ref.bool h1)) (V:=.i6 (2:Int)) (r:=.i6 (cS XB.length ((XF.map fC).getD i default))) ?_
   rw[<- hv];rw[hl] at*;exact Ref.int (by unfold cS;rw[if_pos (by revert h1;cases decide (0<=v.body/\v.body<((XB.length:Nat):Int)) <;> simp)])
 · have v0 : Ref (.bool (!(decide (0<=v.body/\v.body<(XB.length:Int))))) (.bool false):=Ref.bool h1
   by_cases h2:(((v.pts.map (eY 300)).length:Nat):Int)<(1:Int)
   · refine rF K [(9,.cptr (aX 300 v) 0),(16,ff),(22,tt)] (.a5 v1 (nn i) v4 v0 (iT h2)) (V:=.i6 (2:Int)) (r:=.i6 (cS XB.length ((XF.map fC).getD i default))) ?_
     rw[<- hv];rw[hl] at*;exact Ref.int (by unfold cS;rw[if_neg (by revert h1;cases decide (0<=v.body/\v.body<((XB.length:Nat):Int)) <;> simp),if_pos (by omega)])
   · by_cases h3:(2:Int)<(((v.pts.map (eY 300)).length:Nat):Int)
     · refine rF K [(9,.cptr (aX 300 v) 0),(16,ff),(22,ff),(28,tt)] (.a6 v1 (nn i) v4 v0 (iF h2) (iT h3)) (V:=.i6 (2:Int)) (r:=.i6 (cS XB.length ((XF.map fC).getD i default))) ?_
       rw[<- hv];rw[hl] at*;exact Ref.int (by unfold cS;rw[if_neg (by revert h1;cases decide (0<=v.body/\v.body<((XB.length:Nat):Int)) <;> simp),if_neg (by omega),if_pos (by omega)])
     · by_cases h4:(((v.pts.map (eY 300)).length:Nat):Int)=(2:Int)
       · have v2:Ref (.cptr ((v.pts.map (eY 300)).getD 0 []) 0) (.cptr [.q ((v.pts.getD 0 default).x) 300,.q ((v.pts.getD 0 default).z) 300] 0):=by exact Ref.cmap (f:=eY 300) (by omega)
         have v3:Ref (.cptr ((v.pts.map (eY 300)).getD 1 []) 0) (.cptr [.q ((v.pts.getD 1 default).x) 300,.q ((v.pts.getD 1 default).z) 300] 0):=by exact Ref.cmap (f:=eY 300) (by omega)
         have v6:300+300+200<=LIM:=by omega
         have v7:(0:Int)<((v.pts.map (eY 300)).length:Int):=by omega
         have v8:(1:Int)<((v.pts.map (eY 300)).length:Int):=by omega
         have v9:0<=(0:Int):=by decide
         have v10:0<=(1:Int):=by decide
         rcases Bool.eq_false_or_eq_true (decide (((v.pts.getD 0 default).x)=((v.pts.getD 1 default).x)/\((v.pts.getD 0 default).z)=((v.pts.getD 1 default).z))) with h5 | h5
         · refine rF K [(9,.cptr (aX 300 v) 0),(16,ff),(22,ff),(28,ff),(33,tt),(36,.cptr [.q ((v.pts.getD 0 default).x) 300,.q ((v.pts.getD 0 default).z) 300] 0),(40,.cptr [.q ((v.pts.getD 1 default).x) 300,.q ((v.pts.getD 1 default).z) 300] 0),(45,tt)] (.c6 v1 (nn i) v4 v0 (iF h2) (iF h3) (.c6 (iT h4) v2 v9 v7 v3 v10 (.a4 v8 v6 v6 (show Ref (.bool (decide (((v.pts.getD 0 default).x)=((v.pts.getD 1 default).x)/\((v.pts.getD 0 default).z)=((v.pts.getD 1 default).z)))) (.bool true) from Ref.bool h5)))) (V:=.i6 (2:Int)) (r:=.i6 (cS XB.length ((XF.map fC).getD i default))) ?_
           rw[<- hv];rw[hl] at*;exact Ref.int (by unfold cS;rw[if_neg (by revert h1;cases decide (0<=v.body/\v.body<((XB.length:Nat):Int)) <;> simp),if_neg (by omega),if_neg (by omega),if_pos ⟨by omega,of_decide_eq_true h5⟩])
         · have v5:Ref (.bool (decide (((v.pts.getD 0 default).x)=((v.pts.getD 1 default).x)/\((v.pts.getD 0 default).z)=((v.pts.getD 1 default).z)))) (.bool false):=Ref.bool h5
           by_cases h6:(Int.sign v.fr.num)<(0:Int)
           · refine rF K [(9,.cptr (aX 300 v) 0),(16,ff),(22,ff),(28,ff),(33,tt),(36,.cptr [.q ((v.pts.getD 0 default).x) 300,.q ((v.pts.getD 0 default).z) 300] 0),(40,.cptr [.q ((v.pts.getD 1 default).x) 300,.q ((v.pts.getD 1 default).z) 300] 0),(45,ff),(50,tt)] (.c6 v1 (nn i) v4 v0 (iF h2) (iF h3) (.c6 (iT h4) v2 v9 v7 v3 v10 (.a5 v8 v6 v6 v5 (iT h6)))) (V:=.i6 (2:Int)) (r:=.i6 (cS XB.length ((XF.map fC).getD i default))) ?_
             rw[<- hv];rw[hl] at*;exact Ref.int (by unfold cS;rw[if_neg (by revert h1;cases decide (0<=v.body/\v.body<((XB.length:Nat):Int)) <;> simp),if_neg (by omega),if_neg (by omega),if_neg (by intro k;have:=decide_eq_true k.2;rw[this] at h5;cases h5),if_pos h6])
           · refine rF K [(9,.cptr (aX 300 v) 0),(16,ff),(22,ff),(28,ff),(33,tt),(36,.cptr [.q ((v.pts.getD 0 default).x) 300,.q ((v.pts.getD 0 default).z) 300] 0),(40,.cptr [.q ((v.pts.getD 1 default).x) 300,.q ((v.pts.getD 1 default).z) 300] 0),(45,ff),(50,ff)] (.c6 v1 (nn i) v4 v0 (iF h2) (iF h3) (.c6 (iT h4) v2 v9 v7 v3 v10 (.a5 v8 v6 v6 v5 (iF h6)))) (V:=.i6 (0:Int)) (r:=.i6 (cS XB.length ((XF.map fC).getD i default))) ?_
             rw[<- hv];rw[hl] at*;exact Ref.int (by unfold cS;rw[if_neg (by revert h1;cases decide (0<=v.body/\v.body<((XB.length:Nat):Int)) <;> simp),if_neg (by omega),if_neg (by omega),if_neg (by intro k;have:=decide_eq_true k.2;rw[this] at h5;cases h5),if_neg h6])
       · by_cases h5:(Int.sign v.fr.num)<(0:Int)
         · refine rF K [(9,.cptr (aX 300 v) 0),(16,ff),(22,ff),(28,ff),(33,ff),(50,tt)] (.c6 v1 (nn i) v4 v0 (iF h2) (iF h3) (.a2 (iF h4) (iT h5))) (V:=.i6 (2:Int)) (r:=.i6 (cS XB.length ((XF.map fC).getD i default))) ?_
           rw[<- hv];rw[hl] at*;exact Ref.int (by unfold cS;rw[if_neg (by revert h1;cases decide (0<=v.body/\v.body<((XB.length:Nat):Int)) <;> simp),if_neg (by omega),if_neg (by omega),if_neg (by intro k;have:=k.1;omega),if_pos h5])
         · refine rF K [(9,.cptr (aX 300 v) 0),(16,ff),(22,ff),(28,ff),(33,ff),(50,ff)] (.c6 v1 (nn i) v4 v0 (iF h2) (iF h3) (.a2 (iF h4) (iF h5))) (V:=.i6 (0:Int)) (r:=.i6 (cS XB.length ((XF.map fC).getD i default))) ?_
           rw[<- hv];rw[hl] at*;exact Ref.int (by unfold cS;rw[if_neg (by revert h1;cases decide (0<=v.body/\v.body<((XB.length:Nat):Int)) <;> simp),if_neg (by omega),if_neg (by omega),if_neg (by intro k;have:=k.1;omega),if_neg h5])
def oF:=kn.cons TM
def QF:KF
 | [.list 5 X,.int .i64 t,.fnm 198 true M]=>some (.int .i64 (bC (aF M).feet.length t (fun i=>cS (aF M).bodies.length ((aF M).feet.getD i default))),[M=aD 300 (aF M),X=(aF M).feet.map (aX 300),(aF M).feet.length<=4611686018427387904])
 | _=>none
section
variable {S:Nat->Prop} {w0:World}
theorem TN {R:Int} {todo:List Item} {σ:List AV} {h:List (Option ABlk)} {b:Int} (e:b=R) (hσ:σ.getD 6 .any= .i6 b):GF 197 S w0 (.i6 R) (.code .ret::todo) ⟨σ,h⟩:=
 bP aT (fn:=Tryz.f197) (by kernel_rfl) 6 (by kernel_rfl) rfl (by rw[hσ];rfl) (by rw[hσ,e];exact rr)
noncomputable abbrev MS:List Item:=[.code (aN [1,1,0,1,0,0] (aA Tryz.f197)),.inLoop (aN [1,1,0,1,0,0] (aA Tryz.f197)),.inBlock 0,.code (aN [1,1,1] (aA Tryz.f197))]
theorem Ki {m:MachD} {R:Int} (hR:eO (fun i=>cS m.bodies.length (m.feet.getD i default)) 0 m.feet.length=R) (hL:m.feet.length<=4611686018427387904):
   GF 197 S w0 (.i6 R) MS ⟨slots 25 [(0,.list 5 (m.feet.map (aX 300))),(2,.fnm 198 true (aD 300 m)),(14,.i6 ((m.feet.length:Nat):Int)),(15,.i6 ((0:Nat):Int))],[]⟩:=by
 refine qA (G:=fun i=>eO (fun i=>cS m.bodies.length (m.feet.getD i default)) i (m.feet.length-i)=R->GF 197 S w0 (.i6 R) MS ⟨slots 25 [(0,.list 5 (m.feet.map (aX 300))),(2,.fnm 198 true (aD 300 m)),(14,.i6 ((m.feet.length:Nat):Int)),(15,.i6 ((i:Nat):Int))],[]⟩) m.feet.length ?_ ?_ hR
 · intro he
   rw[Nat.sub_self] at he;exact rF oF [(16,ff)] (.a1 (iF (om (¬ ((m.feet.length:Int)<(m.feet.length:Int)))))) (V:=.i6 (0:Int)) (Ref.int he)
 · intro i hlt ih he
   have hx:(m.feet.map (aX 300)).length=m.feet.length:=bH ..;rw[show m.feet.length-i=(m.feet.length-(i+1))+1 by omega,eO] at he;have v0:Ref (.i6 (cS (m.bodies.map (aE 300)).length (((m.feet.map (aX 300)).map fC).getD i default))) (.i6 (cS m.bodies.length (m.feet.getD i default))):=Ref.int (by rw[sS,bH]);have v1:(m.feet.map (aX 300))=((m.feet.map (aX 300)).map fC).map (aX 300):=by rw[sS]
   have v2:i<(m.feet.map (aX 300)).length:=by rw[bH];exact hlt
   have v3:(i:Int)<(m.feet.length:Int):=by omega
   by_cases c:cS m.bodies.length (m.feet.getD i default)=0
   · rw[if_pos c] at he
     exact gR oF none [0,2,6,14,15] [] [(16,tt),(20,.i6 (cS m.bodies.length (m.feet.getD i default))),(22,ff),(24,.i6 ((i+1:Nat):Int))] (.c6 (iT v3) v0 (nn i) v1 v2 (jF c) (.a1 (wI ((i:Int)+(1:Int)) ((i+1:Nat):Int)))) (ih he)
   · rw[if_neg c] at he
     exact rF oF [(16,tt),(20,.i6 (cS m.bodies.length (m.feet.getD i default))),(22,tt)] (.a6 (iT v3) v0 (nn i) v1 v2 (jT c)) (V:=.i6 (cS m.bodies.length (m.feet.getD i default))) (Ref.int he)
end
theorem TO:bQ 197 QF:=by
 refine cK Tryz.f197 fun _ _ _ S w0 h ho=> ?_
 unfold QF at h;split at h <;> cases h;rename_i X t M;obtain⟨o1,o2,o3⟩:=ho.e3;clear ho;generalize aF M=m at*;subst o1;subst o2;have hx:(m.feet.map (aX 300)).length=m.feet.length:=bH ..
 by_cases c:t<((m.feet.length:Nat):Int)
 · exact rF oF [(12,tt)] (.a1 (iT (show t<((m.feet.map (aX 300)).length:Int) by rw[hx];exact c))) (V:=.i6 (5:Int)) (Ref.int (by unfold bC;rw[if_pos c]))
 · refine gN oF [0,1,2,6,13,14,15] [(12,ff)] (.a1 (iF (show ¬ (t<((m.feet.map (aX 300)).length:Int)) by rw[hx];exact c))) (t:=MS) (σ:=slots 25 [(0,.list 5 (m.feet.map (aX 300))),(1,.i6 t),(2,.fnm 198 true (aD 300 m)),(6,.i6 (0:Int)),(13,.list 5 (m.feet.map (aX 300))),(14,(.i6 ((m.feet.map (aX 300)).length:Int))),(15,.i6 (0:Int))]) (h:=[]) ?_
   rw[hx];exact Good.weak 25 [(0,_),(2,_),(14,_),(15,_)] (by kernel_rfl) (.r (.r (.r (.r .nil)))) (Ki (by unfold bC;rw[if_neg c]) o3)
def wY:=((((((kn.cons TO).cons TL).cons TD).cons TA).cons Tx).cons Tk).cons PW
def MachD.small (m:MachD):Prop:=m.bodies.length<=4611686018427387904/\m.springs.length<=4611686018427387904/\m.tendons.length<=4611686018427387904/\m.motors.length<=4611686018427387904/\m.feet.length<=4611686018427387904
def dW (m:MachD):Int:=if eG m.name=false then 6 else if m.bodies.length=0 then 2 else Ap [(bC m.bodies.length 12 (fun i=>eE m.bodies i)),(bC m.springs.length 8 (fun i=>bX m.bodies.length (m.springs.getD i default))),(bC m.tendons.length 8 (fun i=>bY m.bodies.length (m.tendons.getD i default))),(bC m.motors.length ((m.bodies.length:Nat):Int) (fun i=>dP m.bodies.length m.motors i)),(bC m.feet.length 6 (fun i=>cS m.bodies.length (m.feet.getD i default)))]
def QG:KF
 | [.agg M]=>some (.int .i64 (dW (aF M)),[M=aD 300 (aF M),(aF M).small])
 | _=>none
theorem QH:bQ 103 QG:=by
 refine cK Tryz.f103 fun _ _ _ S w0 h ho=> ?_
 unfold QG at h;split at h <;> cases h;rename_i M;obtain⟨o1,o2⟩:=ho.e2;clear ho;generalize aF M=m at*;subst o1;have hb:(m.bodies.map (aE 300)).length=m.bodies.length:=bH ..;have hM:aD 300 m=aD 300 (aF (aD 300 m)):=(congrArg (aD 300) (aU m)).symm
 have ret:∀ {R:Int} {todo:List Item} {σ:List AV} {h:List (Option ABlk)} {b:Int},b=R->σ.getD 2 .any= .i6 b->GF 103 S w0 (.i6 R) (.code .ret::todo) ⟨σ,h⟩:=fun e hσ=>
   bP aT (fn:=Tryz.f103) (by kernel_rfl) 2 (by kernel_rfl) rfl (by rw[hσ];rfl) (by rw[hσ,e];exact rr)
 unfold dW;rcases Bool.eq_false_or_eq_true (!(eG m.name)) with c1 | c1
 · exact rF wY [(3,tt)] (.a1 (show Ref (.bool (!(eG m.name))) (.bool true) from Ref.bool c1)) (V:=.i6 (6:Int)) (Ref.int (by rw[if_pos (by simpa using c1)]))
 · have v0:Ref (.bool (!(eG m.name))) (.bool false):=Ref.bool c1
   by_cases c2:(((m.bodies.map (aE 300)).length:Nat):Int)=(0:Int)
   · exact rF wY [(3,ff),(8,tt)] (.a2 v0 (iT c2)) (V:=.i6 (2:Int)) (Ref.int (by rw[if_neg (by simpa using c1),if_pos (by omega)]))
   · exact rF wY [(3,ff),(8,ff),(17,.i6 (bC m.bodies.length 12 (fun i=>eE m.bodies i))),(22,.i6 (bC m.springs.length 8 (fun i=>bX m.bodies.length (m.springs.getD i default)))),(27,.i6 (bC m.tendons.length 8 (fun i=>bY m.bodies.length (m.tendons.getD i default)))),(35,.i6 (bC m.motors.length (m.bodies.length:Int) (fun i=>dP m.bodies.length m.motors i))),(40,.i6 (bC m.feet.length 6 (fun i=>cS m.bodies.length (m.feet.getD i default)))),(42,.i6 (Ap [(bC m.bodies.length 12 (fun i=>eE m.bodies i)),(bC m.springs.length 8 (fun i=>bX m.bodies.length (m.springs.getD i default))),(bC m.tendons.length 8 (fun i=>bY m.bodies.length (m.tendons.getD i default))),(bC m.motors.length (m.bodies.length:Int) (fun i=>dP m.bodies.length m.motors i)),(bC m.feet.length 6 (fun i=>cS m.bodies.length (m.feet.getD i default)))]))] (.c6 v0 (iF c2) (show Ref (.i6 (bC (aF (aD 300 m)).bodies.length 12 (fun i=>eE (aF (aD 300 m)).bodies i))) (.i6 (bC m.bodies.length 12 (fun i=>eE m.bodies i))) from Ref.int (congrArg (fun m:MachD=>(bC m.bodies.length 12 (fun i=>eE m.bodies i))) (aU m))) hM (show(m.bodies.map (aE 300))=(aF (aD 300 m)).bodies.map (aE 300) from(congrArg (fun x:MachD=>x.bodies.map (aE 300)) (aU m)).symm) (show(aF (aD 300 m)).bodies.length<=4611686018427387904 from(congrArg (fun x:MachD=>x.bodies.length<=4611686018427387904) (aU m)).mpr o2.1) (.c6 (show Ref (.i6 (bC (aF (aD 300 m)).springs.length 8 (fun i=>bX (aF (aD 300 m)).bodies.length ((aF (aD 300 m)).springs.getD i default)))) (.i6 (bC m.springs.length 8 (fun i=>bX m.bodies.length (m.springs.getD i default)))) from Ref.int (congrArg (fun m:MachD=>(bC m.springs.length 8 (fun i=>bX m.bodies.length (m.springs.getD i default)))) (aU m))) hM (show(m.springs.map (aJ 300))=(aF (aD 300 m)).springs.map (aJ 300) from(congrArg (fun x:MachD=>x.springs.map (aJ 300)) (aU m)).symm) (show(aF (aD 300 m)).springs.length<=4611686018427387904 from(congrArg (fun x:MachD=>x.springs.length<=4611686018427387904) (aU m)).mpr o2.2.1) (show Ref (.i6 (bC (aF (aD 300 m)).tendons.length 8 (fun i=>bY (aF (aD 300 m)).bodies.length ((aF (aD 300 m)).tendons.getD i default)))) (.i6 (bC m.tendons.length 8 (fun i=>bY m.bodies.length (m.tendons.getD i default)))) from Ref.int (congrArg (fun m:MachD=>(bC m.tendons.length 8 (fun i=>bY m.bodies.length (m.tendons.getD i default)))) (aU m))) hM (.c6 (show(m.tendons.map (aJ 300))=(aF (aD 300 m)).tendons.map (aJ 300) from(congrArg (fun x:MachD=>x.tendons.map (aJ 300)) (aU m)).symm) (show(aF (aD 300 m)).tendons.length<=4611686018427387904 from(congrArg (fun x:MachD=>x.tendons.length<=4611686018427387904) (aU m)).mpr o2.2.2.1) (show Ref (.i6 (bC (aF (aD 300 m)).motors.length ((m.bodies.map (aE 300)).length:Int) (fun i=>dP (aF (aD 300 m)).bodies.length (aF (aD 300 m)).motors i))) (.i6 (bC m.motors.length (m.bodies.length:Int) (fun i=>dP m.bodies.length m.motors i))) from Ref.int (by rw[hb];exact congrArg (fun x:MachD=>bC x.motors.length ((m.bodies.length:Nat):Int) (fun i=>dP x.bodies.length x.motors i)) (aU m))) hM (show(m.motors.map (aP 300))=(aF (aD 300 m)).motors.map (aP 300) from(congrArg (fun x:MachD=>x.motors.map (aP 300)) (aU m)).symm) (show(aF (aD 300 m)).motors.length<=4611686018427387904 from(congrArg (fun x:MachD=>x.motors.length<=4611686018427387904) (aU m)).mpr o2.2.2.2.1) (.c6 (show Ref (.i6 (bC (aF (aD 300 m)).feet.length 6 (fun i=>cS (aF (aD 300 m)).bodies.length ((aF (aD 300 m)).feet.getD i default)))) (.i6 (bC m.feet.length 6 (fun i=>cS m.bodies.length (m.feet.getD i default)))) from Ref.int (congrArg (fun m:MachD=>(bC m.feet.length 6 (fun i=>cS m.bodies.length (m.feet.getD i default)))) (aU m))) hM (show(m.feet.map (aX 300))=(aF (aD 300 m)).feet.map (aX 300) from(congrArg (fun x:MachD=>x.feet.map (aX 300)) (aU m)).symm) (show(aF (aD 300 m)).feet.length<=4611686018427387904 from(congrArg (fun x:MachD=>x.feet.length<=4611686018427387904) (aU m)).mpr o2.2.2.2.2) (show Ref (.i6 (Ap ([[(AV.int .i64 (bC m.bodies.length 12 (fun i=>eE m.bodies i)))],[(AV.int .i64 (bC m.springs.length 8 (fun i=>bX m.bodies.length (m.springs.getD i default))))],[(AV.int .i64 (bC m.tendons.length 8 (fun i=>bY m.bodies.length (m.tendons.getD i default))))],[(AV.int .i64 (bC m.motors.length (m.bodies.length:Int) (fun i=>dP m.bodies.length m.motors i)))],[(AV.int .i64 (bC m.feet.length 6 (fun i=>cS m.bodies.length (m.feet.getD i default))))]].map Ox))) (.i6 (Ap [(bC m.bodies.length 12 (fun i=>eE m.bodies i)),(bC m.springs.length 8 (fun i=>bX m.bodies.length (m.springs.getD i default))),(bC m.tendons.length 8 (fun i=>bY m.bodies.length (m.tendons.getD i default))),(bC m.motors.length (m.bodies.length:Int) (fun i=>dP m.bodies.length m.motors i)),(bC m.feet.length 6 (fun i=>cS m.bodies.length (m.feet.getD i default)))])) from rr) (dc (0+5<=5)) (.a2 (rfl: [[.i6 (bC m.bodies.length 12 (fun i=>eE m.bodies i))],[.i6 (bC m.springs.length 8 (fun i=>bX m.bodies.length (m.springs.getD i default)))],[.i6 (bC m.tendons.length 8 (fun i=>bY m.bodies.length (m.tendons.getD i default)))],[.i6 (bC m.motors.length (m.bodies.length:Int) (fun i=>dP m.bodies.length m.motors i))],[.i6 (bC m.feet.length 6 (fun i=>cS m.bodies.length (m.feet.getD i default)))]]=([[(AV.int .i64 (bC m.bodies.length 12 (fun i=>eE m.bodies i)))],[(AV.int .i64 (bC m.springs.length 8 (fun i=>bX m.bodies.length (m.springs.getD i default))))],[(AV.int .i64 (bC m.tendons.length 8 (fun i=>bY m.bodies.length (m.tendons.getD i default))))],[(AV.int .i64 (bC m.motors.length (m.bodies.length:Int) (fun i=>dP m.bodies.length m.motors i)))],[(AV.int .i64 (bC m.feet.length 6 (fun i=>cS m.bodies.length (m.feet.getD i default))))]].map Ox).map Fq) (show [[(AV.int .i64 (bC m.bodies.length 12 (fun i=>eE m.bodies i)))],[(AV.int .i64 (bC m.springs.length 8 (fun i=>bX m.bodies.length (m.springs.getD i default))))],[(AV.int .i64 (bC m.tendons.length 8 (fun i=>bY m.bodies.length (m.tendons.getD i default))))],[(AV.int .i64 (bC m.motors.length (m.bodies.length:Int) (fun i=>dP m.bodies.length m.motors i)))],[(AV.int .i64 (bC m.feet.length 6 (fun i=>cS m.bodies.length (m.feet.getD i default))))]].length<=4611686018427387904 by simp)))))) (V:=.i6 (Ap [(bC m.bodies.length 12 (fun i=>eE m.bodies i)),(bC m.springs.length 8 (fun i=>bX m.bodies.length (m.springs.getD i default))),(bC m.tendons.length 8 (fun i=>bY m.bodies.length (m.tendons.getD i default))),(bC m.motors.length (m.bodies.length:Int) (fun i=>dP m.bodies.length m.motors i)),(bC m.feet.length 6 (fun i=>cS m.bodies.length (m.feet.getD i default)))])) (Ref.int (by rw[if_neg (by simpa using c1),if_neg (by omega)]))
def uN:=kn.cons SQ
def bG (B:Nat) (x:Rat):List AV:=[.q x B]
def dL (B:Nat) (x:Rat):List AV:=[.rq x x.den B]
def zL (l:List NumD):List (List AV):=(l.map NumD.val).map (bG 300)
def zM (l:List NumD):List (List AV):=(l.map NumD.val).map (dL 300)
def Vo:KF
 | [.list 3 X]=>some (.tup [.list 3 (zL (X.map jA)),.list 4 (zM (X.map jA))],[X=(X.map jA).map unNum,∀ s∈X.map jA,s.ok,X.length*128<=140737488355328])
 | _=>none
section
variable {S:Nat->Prop} {w0:World}
theorem MT (ls:List NumD) (hok:∀ s∈ls,s.ok) (hL:ls.length*128<=140737488355328):
   GF 63 S w0 (.tup [.list 3 (zL ls),.list 4 (zM ls)])
   [.code (aN [1,1,1,0,1,0,0] (aA Tryz.f63)),.inLoop (aN [1,1,1,0,1,0,0] (aA Tryz.f63)),.inBlock 0,.code (aN [1,1,1,1] (aA Tryz.f63))]
   ⟨slots 33 [(0,.list 3 (ls.map unNum)),(4,.nil),(5,.nil),(6,.i6 ((0:Nat):Int))],[]⟩:=by
 refine wW (XS:=zL ls) (YS:=zM ls) ls.length (fun i=>[.q (ls.getD i default).val 300]) (fun i=>[.rq (ls.getD i default).val (ls.getD i default).val.den 300]) (fun a b i h=>⟨slots 33 [(0,.list 3 (ls.map unNum)),(4,a),(5,b),(6,.i6 ((i:Nat):Int))],h⟩) 0 1 3 4 56 66 ?_ ?_ ?_ ?_ (by rw[zL,List.map_map];exact eA (f:=fun s=>[.q s.val 300]) ls) (by rw[zM,List.map_map];exact eA (f:=fun s=>[.rq s.val s.val.den 300]) ls) ?_
 · intro hp hg
   have hs:=hok _ (dN hp);have v0:(0:Int)<((ls.map unNum).length:Int):=by rw[bH];omega
   exact gR uN none [0,4,5,6] [4,6] [(12,tt),(18,.cptr (unNum (ls.getD 0 default)) 0),(14,.i6 ((0+1:Nat):Int))] (.c6 (iT v0) (show Ref (.cptr ((ls.map unNum).getD 0 []) 0) (.cptr (unNum (ls.getD 0 default)) 0) from Ref.cmap hp) (nn 0) v0 hs r1 (.c6 (dc (0<1)) (dc (1*56<=140737488355328)) (dc (1<=big)) r1 (dc (0<1)) (dc (1*64<=140737488355328)) (.a2 (dc (1<=big)) (wI ((0:Int)+(1:Int)) ((0+1:Nat):Int))))) hg
 · intro i A B hi hlt hA hB hg
   have hs:=hok _ (dN hlt);have v1:(i:Int)<((ls.map unNum).length:Int):=by rw[bH];omega
   exact gR uN none [0,4,5,6] [6,8] [(12,tt),(18,.cptr (unNum (ls.getD i default)) 0),(14,.i6 ((i+1:Nat):Int))] (.c6 (iT v1) (show Ref (.cptr ((ls.map unNum).getD i []) 0) (.cptr (unNum (ls.getD i default)) 0) from Ref.cmap hlt) (nn i) v1 hs r1 (.c6 (show i=A.length from hA.symm) (om ((i+1)*56<=140737488355328)) (show i+1<=big by unfold big;omega) r1 (show i=B.length from hB.symm) (om ((i+1)*64<=140737488355328)) (.a2 (show i+1<=big by unfold big;omega) (wI ((i:Int)+(1:Int)) ((i+1:Nat):Int))))) hg
 · intro A B hp hA hB hg
   refine Good.freezeD (b:=⟨56,3,true,A,none⟩) 0 (by rfl) (by rfl) (.cons (by show 0+ls.length<=A.length;omega) .nil) .nil ?_;refine Good.freezeD (b:=⟨66,4,true,B,none⟩) 1 (by rfl) (by rfl) (.cons (by show 0+ls.length<=B.length;omega) .nil) .nil ?_;refine Good.tidy [] (by decide) (σ':=slots 33 [(0,.list 3 (ls.map unNum)),(4,.list 3 ((A.drop 0).take ls.length)),(5,.list 4 ((B.drop 0).take ls.length)),(6,.i6 ((ls.length:Nat):Int))]) (h':=[]) (by kernel_rfl) (by kernel_rfl) ?_;rw[List.drop_zero,List.drop_zero,fQ (by omega),fQ (by omega)];exact hg
 · intro h0 hg
   exact Good.weak 33 [(0,_),(4,_),(5,_),(6,_)] (by kernel_rfl) (.r (.cons Ref.nilL (.cons Ref.nilL (.r .nil)))) hg
 · exact rR uN [(12,ff)] (.a1 (iF (show ¬ ((ls.length:Int)<((ls.map unNum).length:Int)) by rw[bH];omega)))
end
theorem Wc:bQ 63 Vo:=fun args r ob h ho=>by
 unfold Vo at h
 split at h
 · rename_i X
   cases h;have o1:X=(X.map jA).map unNum:=ho _ (by simp);have o2:∀ s∈X.map jA,s.ok:=ho _ (by simp);have o3:(X.map jA).length*128<=140737488355328:=by rw[bH];exact ho _ (by simp)
   clear ho;generalize X.map jA=ls at*;subst o1;refine af Tryz.f63 fun S w0=> ?_
   have e:kC [AV.list 3 (ls.map unNum)] Tryz.f63.ntmps=⟨slots 33 [(0,.list 3 (ls.map unNum))],[]⟩:=by kernel_rfl
   rw[e];clear e;exact gN uN [0,4,5,6] [] .nil (MT ls o2 o3)
 · cases h
structure StandD where
 at_:SpotD
 turn:NumD
 joints:List NumD
 deriving Inhabited
structure PoseD where
 at_:PtD
 turn:Rat
 joints:List Rat
 deriving Inhabited
def DI (s:StandD):List AV:=[.i6 s.at_.x.n,.i6 s.at_.x.d,.int .u8 s.at_.x.p,.i6 s.at_.z.n,.i6 s.at_.z.d,.int .u8 s.at_.z.p,.i6 s.turn.n,.i6 s.turn.d,.int .u8 s.turn.p,.list 3 (s.joints.map unNum)]
def StandD.ok (s:StandD):Prop:=s.at_.ok/\s.turn.ok/\(∀ v∈s.joints,v.ok)/\s.joints.length*128<=140737488355328
def StandD.real (s:StandD):PoseD:=⟨s.at_.pt,s.turn.val,s.joints.map NumD.val⟩
def aW (B:Nat) (p:PoseD):List AV:=[.q p.at_.x B,.q p.at_.z B,.q p.turn B,.list 3 (p.joints.map (bG B))]
def mU (B:Nat) (p:PoseD):List AV:=[.rq p.at_.x p.at_.x.den B,.rq p.at_.z p.at_.z.den B,.rq p.turn p.turn.den B,.list 4 (p.joints.map (dL B))]
def Vp:KF
 | [.agg [.int .i64 n,.int .i64 d,.int .u8 p,.int .i64 n',.int .i64 d',.int .u8 p',.int .i64 nt,.int .i64 dt,.int .u8 pt,.list 3 X]]=>some (.tup [.agg [.q (iZ n d p) 300,.q (iZ n' d' p') 300,.q (iZ nt dt pt) 300,.list 3 (zL (X.map jA))],.agg [.rq (iZ n d p) (iZ n d p).den 300,.rq (iZ n' d' p') (iZ n' d' p').den 300,.rq (iZ nt dt pt) (iZ nt dt pt).den 300,.list 4 (zM (X.map jA))]],[Lz n d p,Lz n' d' p',Lz nt dt pt,X=(X.map jA).map unNum,∀ s∈X.map jA,s.ok,X.length*128<=140737488355328])
 | _=>none
theorem Wd:bQ 19 Vp:=by
 refine cK Tryz.f19 fun _ _ _ S w0 h ho=> ?_
 unfold Vp at h;split at h <;> cases h;rename_i n d p n' d' p' nt dt pt X;obtain⟨o1,o2,o3,o4,o5,o6⟩:=ho.e6;have K:=((kn.cons Wc).cons SQ).cons SR;exact rR K [] (.a6 o1 o2 o3 o4 o5 o6)
end Go.Av
namespace Go.Av
open Go.RowKit
structure InvG (X:Nat×AOp->Prop) (𝓡:Array Bool->(Nat->Nat)->(Nat->Prop)->St->Act->World->Prop) (O:Rec->Prop) (T:TT) (K:KT) (ops:Array Oper) (listed:Array Bool) (xs:List (Nat×AOp)) (rs:List Rec) (st st':St) (a:Act) (w:World) (ρ:Nat->Nat) (D:Nat->Prop):Prop where
 rel:𝓡 listed ρ D st a w
 run:gQ T K ops xs st=some (st',rs)
 obs:∀ r∈rs,O r
 pend:Pend D st.h xs
 size:listed.size=ops.size
 mem:∀ i,i<ops.size->(listed.getD i false=false↔∃ x,(i,x)∈xs)
 all:∀ p∈xs,X p
 sorted:xs.Pairwise fun p q=>p.1<q.1
 ops_:∀ p∈xs,ops[p.1]? =some p.2.o
 closed:Cy ops listed
 pairs:rs.Pairwise fun r s=>sK ops (sJ [] ops.toList) r s=true
section
variable {P:Program} {T:TT} {K:KT} {ops:Array Oper} {Q:Exit->Act->World->Prop}
theorem CQ {X:Nat×AOp->Prop} {opsR:Array Oper} {𝓡:Array Bool->(Nat->Nat)->(Nat->Prop)->St->Act->World->Prop} {O:Rec->Prop} (hE:fL 0 ops.toList=true) {st':St}
   (hr:∀ listed,Region.ready .any opsR listed=Region.ready .any ops listed)
   (hQ:∀ listed ρ' D' a' w',𝓡 listed ρ' D' st' a' w'->(∀ i,i<ops.size->listed.getD i false=true)->Q .normal a' w')
   (hstep:∀ listed i x st st1 r a w ρ D,𝓡 listed ρ D st a w->listed.size=ops.size->i<ops.size->listed.getD i false=false->(∀ o,ops[i]? =some o->∀ e∈o.after.toList,Region.binds .any e=true->listed.getD e.on false=true)->ops[i]? =some x.o->(eC x.o.op=true->st.h[x.nid]? =some none/\¬ D x.nid)->dD T K ops i x st=some (st1,r)->O r->X (i,x)->(∃ rest rs1,gQ T K ops rest st1=some (st',rs1)/\∀ p∈rest,p.1≠i/\listed.getD p.1 false=false/\ops[p.1]? =some p.2.o)->
     wpOp P opsR Q i (fun a' w'=>∃ ρ' D',𝓡 (listed.setIfInBounds i true) ρ' D' st1 a' w'/\∀ l,D' l->D l\/l=x.nid/\eC x.o.op=true) a w):
   ∀ (iH:Nat) (listed:Array Bool) (xs:List (Nat×AOp)) (rs:List Rec) (st:St) (a:Act) (w:World) (ρ:Nat->Nat) (D:Nat->Prop),xs.length<=iH->
     InvG X 𝓡 O T K ops listed xs rs st st' a w ρ D->wpAny P .any opsR Q iH listed a w:=by
 have done : ∀ (listed:Array Bool) (xs:List (Nat×AOp)) (rs:List Rec) (st:St) (a:Act) (w:World) (ρ:Nat->Nat) (D:Nat->Prop),InvG X 𝓡 O T K ops listed xs rs st st' a w ρ D->
     (Region.ready .any ops listed= []->xs= [])/\(xs= []->Region.ready .any ops listed= []/\Q .normal a w):=by
   intro listed xs rs st a w ρ D I;constructor
   · intro hr
     cases xs with
     | nil=>rfl
     | cons p xs=>
       exfalso;obtain⟨i,x⟩:=p;have ho:=I.ops_ (i,x) (by simp);have hlt:=(Array.getElem?_eq_some_iff.1 ho).1;have hun:=(I.mem i hlt).2 ⟨x,by simp⟩
       have:i∈Region.ready .any ops listed:=by
         rw[jU];refine⟨hlt,by rw[oZ (by rw[I.size];exact hlt)];exact hun,x.o,ho,fun e he hb=> ?_⟩;have hle:=jM ops.toList 0 i x.o hE (by simpa using ho) e he hb;simp at hle;cases hq:listed.getD e.on false with
         | true=>rfl
         | false=>
           exfalso;obtain⟨y,hy⟩:=(I.mem e.on (by omega)).1 hq;rcases List.mem_cons.1 hy with h | h
           · injection h with h _;omega
           · have:=(List.pairwise_cons.1 I.sorted).1 _ h
             simp at this;omega
       rw[hr] at this;cases this
   · intro hx
     subst hx;have hrun:=I.run;simp only[gQ] at hrun;injection hrun with hrun;simp only[Prod.mk.injEq] at hrun
     have hall:∀ i,i<ops.size->listed.getD i false=true:=fun i hi=>by
       cases hc:listed.getD i false with
       | true=>rfl
       | false=>obtain⟨y,hy⟩:=(I.mem i hi).1 hc;simp at hy
     refine⟨?_,hQ _ _ _ _ _ (by rw[<- hrun.1];exact I.rel) hall⟩;cases hr:Region.ready .any ops listed with
     | nil=>rfl
     | cons i l=>
       exfalso;have hi:i∈Region.ready .any ops listed:=by rw[hr];simp
       obtain⟨h1,h2,_⟩:=jU.1 hi;rw[oZ (by rw[I.size];exact h1)] at h2;obtain⟨x,hx⟩:=(I.mem i h1).1 h2;simp at hx
 intro iH
 induction iH with
 | zero=>
   intro listed xs rs st a w ρ D hl I
   have:=((done _ _ _ _ _ _ _ _ I).2 (by cases xs with | nil=>rfl | cons _ _=>simp at hl));exact⟨by rw[hr];exact this.1,this.2⟩
 | succ iH   ih=>
   intro listed xs rs st a w ρ D hl I;refine⟨fun hr'=>((done _ _ _ _ _ _ _ _ I).2 ((done _ _ _ _ _ _ _ _ I).1 (by rw[<- hr];exact hr'))).2,fun i hi=> ?_⟩;rw[hr] at hi;obtain⟨hlt,hun,o,ho,hed⟩:=jU.1 hi;rw[oZ (by rw[I.size];exact hlt)] at hun;obtain⟨x,hx⟩:=(I.mem i hlt).1 hun;obtain⟨pre,post,rfl⟩:=List.append_of_mem hx
   have hox:x.o=o:=by
     have:=I.ops_ (i,x) hx;rw[ho] at this;injection this with this;exact this.symm
   obtain⟨rp,r,rq,hrs,hlen,hfront⟩:=FH pre i x post st st' rs I.run;have hidx:=vS I.run;rw[hrs] at hidx;simp only[List.map_append,List.map_cons] at hidx;have hsplit:=List.append_inj hidx (by simp[hlen]);have hri:r.i=i:=by have:=hsplit.2;simp at this;exact this.1
   have hpairs:=I.pairs;rw[hrs] at hpairs
   have hind:∀ q∈rp,yQ ops q r=true:=by
     intro q hq;have hp:=(List.pairwise_append.1 hpairs).2.2 q hq r (by simp);unfold sK at hp;rw[Bool.or_eq_true] at hp;rcases hp with hp | hp
     · exfalso
       rw[hri] at hp;have hqi:q.i∈pre.map (·.1):=by rw[<- hsplit.1];exact List.mem_map.2 ⟨q,hq,rfl⟩
       obtain⟨p,hp1,hp2⟩:=List.mem_map.1 hqi;have hpo:=I.ops_ p (by simp[hp1]);have hplt:=(Array.getElem?_eq_some_iff.1 hpo).1;have hqun:=(I.mem p.1 hplt).2 ⟨p.2,by simp[hp1]⟩;obtain⟨e,h1,h2,h3,h4⟩:=oY ops.toList [] i o (by simpa using ho) hE q.i (by simpa using hp);have hel:=hed e h1 h2
       have hql:listed.getD q.i false=true:=by
         rcases h4 with h4 | h4
         · rw[<- h4];exact hel
         · simp at h3
           exact vR hE I.closed e.on hel ops[e.on] (by simp[show e.on<ops.size from by omega]) q.i h4
       rw[hp2] at hqun;rw[hqun] at hql;cases hql
     · exact hp
   have hrun2:=hfront hind;obtain⟨st1,r',rs1,g1,g2,g3⟩:=eJ.1 hrun2;injection g3 with g3 g4;subst g3;subst g4
   have hmemx:∀ p,p∈pre++post->p∈pre++(i,x)::post:=fun p hp=>by
     rcases List.mem_append.1 hp with h | h
     · simp[h]
     · simp[h]
   have hpend2:Pend D st.h ((i,x)::(pre++post)):=by
     refine⟨fun p hp=>I.pend.free p ?_, ?_⟩
     · rcases List.mem_cons.1 hp with rfl | hp
       · exact hx
       · exact hmemx p hp
     · have hap:=I.pend.apart
       rw[List.pairwise_append] at hap;obtain⟨k1,k2,k3⟩:=hap;rw[List.pairwise_cons] at k2;refine List.pairwise_cons.2 ⟨fun q hq hx hn=> ?_,List.pairwise_append.2 ⟨k1,k2.2,fun p hp q hq=>k3 p hp q (by simp[hq])⟩⟩;rcases List.mem_append.1 hq with h | h
       · exact fun e=>k3 q h (i,x) (by simp) hn hx e.symm
       · exact k2.1 q h hx hn
   have hneq:∀ p,p∈pre++post->p.1≠i:=by
     intro p hp e;have hs:=I.sorted;rw[List.pairwise_append,List.pairwise_cons] at hs;rcases List.mem_append.1 hp with h | h
     · have:=hs.2.2 p h (i,x) (by simp)
       simp at this;omega
     · have:=hs.2.1.1 p h
       simp at this;omega
   refine wpOp_mono ?_ (hstep listed i x st st1 r a w ρ D I.rel I.size hlt hun (fun o' ho'=>by rw[ho] at ho';injection ho' with ho';subst ho';exact hed) (I.ops_ (i,x) hx) (hpend2.free (i,x) (by simp)) g1 (I.obs r (by rw[hrs];simp)) (I.all (i,x) hx) ⟨pre++post,rp++rq,g2,fun p hp=>⟨hneq p hp,(I.mem p.1 (Array.getElem?_eq_some_iff.1 (I.ops_ p (hmemx p hp))).1).2 ⟨p.2,hmemx p hp⟩,I.ops_ p (hmemx p hp)⟩⟩);rintro a' w' ⟨ρ',D',R',hD'⟩;refine ih (listed.setIfInBounds i true) (pre++post) (rp++rq) st1 a' w' ρ' D' (by simp at hl ⊢;omega) ?_
   exact {
     rel:=R'
     run:=g2
     obs:=fun q hq=>I.obs q (by rw[hrs];rcases List.mem_append.1 hq with h | h <;> simp[h])
     pend:=hpend2.tail g1 hD'
     size:=by simpa using I.size
     mem :=by
       intro k hk
       by_cases hki:i=k
       · subst hki
         constructor
         · intro h
           simp[cE,I.size,hlt] at h
         · rintro⟨y,hy⟩
           exact absurd rfl (hneq (i,y) hy)
       · have e1:(listed.setIfInBounds i true).getD k false=listed.getD k false:=by
           simp[cE,hki]
         rw[e1,I.mem k hk];constructor
         · rintro⟨y,hy⟩
           refine⟨y, ?_⟩;rcases List.mem_append.1 hy with h | h
           · simp[h]
           · rcases List.mem_cons.1 h with h | h
             · injection h with h _;exact absurd h.symm hki
             · simp[h]
         · rintro⟨y,hy⟩
           exact⟨y,hmemx _ hy⟩
     sorted:=by
       have hs:=I.sorted;rw[List.pairwise_append,List.pairwise_cons] at hs;exact List.pairwise_append.2 ⟨hs.1,hs.2.1.2,fun p hp q hq=>hs.2.2 p hp q (by simp[hq])⟩
     ops_:=fun p hp=>I.ops_ p (hmemx p hp)
     all:=fun p hp=>I.all p (hmemx p hp)
     closed:=by
       intro k ok hk hl2 e he hb
       by_cases hki:i=k
       · subst hki
         rw[ho] at hk;injection hk with hk;subst hk
         have:=hed e he hb
         by_cases h:i=e.on
         · subst h;simp[cE,I.size,hlt]
         · simpa[cE,h] using this
       · have e1:(listed.setIfInBounds i true).getD k false=listed.getD k false:=by
           simp[cE,hki]
         rw[e1] at hl2
         have:=I.closed k ok hk hl2 e he hb
         by_cases h:i=e.on
         · subst h;simp[cE,I.size,hlt]
         · simpa[cE,h] using this
     pairs:=by
       rw[List.pairwise_append,List.pairwise_cons] at hpairs
       exact List.pairwise_append.2 ⟨hpairs.1,hpairs.2.1.2,fun p hp q hq=>hpairs.2.2 p hp q (by simp[hq])⟩ }
theorem zN {X:Nat×AOp->Prop} {opsR:Array Oper} {𝓡:Array Bool->(Nat->Nat)->(Nat->Prop)->St->Act->World->Prop} {O:Rec->Prop} (hE:fL 0 ops.toList=true) {st':St}
   (hQ:∀ listed ρ' D' a' w',𝓡 listed ρ' D' st' a' w'->(∀ i,i<ops.size->listed.getD i false=true)->Q .normal a' w')
   (hstep:∀ listed i x st st1 r a w ρ D,𝓡 listed ρ D st a w->listed.size=ops.size->i<ops.size->listed.getD i false=false->(∀ o,ops[i]? =some o->∀ e∈o.after.toList,Region.binds .any e=true->listed.getD e.on false=true)->ops[i]? =some x.o->(eC x.o.op=true->st.h[x.nid]? =some none/\¬ D x.nid)->dD T K ops i x st=some (st1,r)->O r->X (i,x)->(∃ rest rs1,gQ T K ops rest st1=some (st',rs1)/\∀ p∈rest,p.1≠i/\listed.getD p.1 false=false/\ops[p.1]? =some p.2.o)->
     wpOp P opsR Q i (fun a' w'=>∃ ρ' D',𝓡 (listed.setIfInBounds i true) ρ' D' st1 a' w'/\∀ l,D' l->D l\/l=x.nid/\eC x.o.op=true) a w):
   ∀ (xs:List (Nat×AOp)) (k:Nat) (listed:Array Bool) (ρ:Nat->Nat) (D:Nat->Prop) (st:St) (a:Act) (w:World) (rs:List Rec),listed.size=ops.size->(∀ i,i<ops.size->(listed.getD i false=true↔i<k))->
     xs.map (·.1)=List.range' k xs.length->k+xs.length=ops.size->𝓡 listed ρ D st a w->gQ T K ops xs st=some (st',rs)->(∀ r∈rs,O r)->Pend D st.h xs->(∀ p∈xs,ops[p.1]? =some p.2.o)->(∀ p∈xs,X p)->wpOps P opsR Q (xs.map (·.1)) a w
 | [],k,listed,ρ,D,st,a,w,rs,hsz,hl,_,hk,R,he,_,_,_,_=>by
   simp only[gQ] at he;injection he with he;simp only[Prod.mk.injEq] at he;obtain⟨rfl,rfl⟩:=he;exact hQ _ _ _ _ _ R fun i hi=>(hl i hi).2 (by simp at hk;omega)
 | (i, x)::xs,k,listed,ρ,D,st,a,w,rs,hsz,hl,hidx,hk,R,he,hob,hp,ho,hX=>by
   obtain⟨st1,r,rs1,h1,h2,rfl⟩:=eJ.1 he;simp only[List.map_cons,List.length_cons,List.range'_succ,List.cons.injEq] at hidx;obtain⟨rfl,hidx⟩:=hidx;simp only[List.length_cons] at hk;simp only[List.map_cons];rw[wpOps_cons];have hlt:i<ops.size:=by omega
   have hun:listed.getD i false=false:=by
     cases hc:listed.getD i false with
     | false=>rfl
     | true=>exact absurd ((hl i hlt).1 hc) (Nat.lt_irrefl i)
   have hox:=ho (i,x) (by simp)
   have hin:∀ p∈xs,i<p.1:=fun p hp'=>by
     have:p.1∈List.range' (i+1) xs.length:=by rw[<- hidx];exact List.mem_map.2 ⟨p,hp',rfl⟩
     have:=List.mem_range'_1.1 this;omega
   refine wpOp_mono ?_ (hstep listed i x st st1 r a w ρ D R hsz hlt hun (fun o ho' e he' hb=>by
     have:=jM ops.toList 0 i o hE (by simpa using ho') e he' hb;simp at this
     exact(hl e.on (by omega)).2 this) hox (hp.free (i,x) (by simp)) h1 (hob r (by simp)) (hX _ (by simp))
     ⟨xs,rs1,h2,fun p hp'=>⟨by have:=hin p hp';omega,by
       have hplt:=(Array.getElem?_eq_some_iff.1 (ho p (by simp[hp']))).1;cases hc:listed.getD p.1 false with
       | false=>rfl
       | true=>exact absurd ((hl p.1 hplt).1 hc) (by have:=hin p hp';omega),ho p (by simp[hp'])⟩⟩)
   rintro a' w' ⟨ρ',D',R',hD'⟩;refine zN hE hQ hstep xs (i+1) (listed.setIfInBounds i true) ρ' D' st1 a' w' rs1 (by simpa using hsz) ?_ hidx (by omega) R' h2 (fun r hr=>hob r (by simp[hr])) (hp.tail h1 hD') (fun p hp=>ho p (by simp[hp])) (fun p hp=>hX p (by simp[hp]));intro j hj;rw[cE]
   by_cases e:i=j
   · subst e;simp[hsz,hlt]
   · rw[if_neg (fun h=>e h.1),hl j hj];omega
def lV (T:TT) (K:KT) (ops:Array Oper) (draw:Bool) (ov:lJ) (st:St):Option (St×List Rec):=
 match gQ T K ops (bU 0 ops.toList ov st.h.length) ⟨st.σ,st.h++List.replicate (dT ops.toList) none⟩ with
 | some (st',rs)=>if fL 0 ops.toList&&(!draw||oW ops (sJ [] ops.toList) rs) then some (st',rs) else none
 | none=>none
def eV:List Oper->List Oper->Prop
 | [],[]=>True
 | o::os,o'::os'=>o'.dst=o.dst/\o'.guard=o.guard/\o'.after=o.after/\eV os os'
 | _,_=>False
theorem iS:∀ {os os':List Oper},eV os os'->os'.length=os.length/\∀ i:Nat,(os[i]? =none/\os'[i]? =none)\/∃ (o o':Oper),os[i]? =some o/\os'[i]? =some o'/\o'.dst=o.dst/\o'.guard=o.guard/\o'.after=o.after
 | [],[],_=>⟨rfl,fun i=>.inl ⟨rfl,rfl⟩⟩
 | o::os,o'::os',h=>by
   obtain⟨h1,h2,h3,h4⟩:=h;obtain⟨k1,k2⟩:=iS h4;refine⟨by simp[k1],fun i=> ?_⟩;cases i with
   | zero=>exact .inr ⟨o,o',rfl,rfl,h1,h2,h3⟩
   | succ i=>simpa using k2 i
 | [],_::_,h=>h.elim
 | _::_,[],h=>h.elim
theorem BO {opsR ops:Array Oper} (h:eV opsR.toList ops.toList) (listed:Array Bool):Region.ready .any opsR listed=Region.ready .any ops listed:=by
 obtain⟨h1,h2⟩:=iS h;unfold Region.ready;have hs:ops.size=opsR.size:=by simpa using h1
 rw[hs];refine List.filter_congr fun i _=> ?_
 congr 1
 rcases h2 i with ⟨k1,k2⟩ | ⟨o,o',k1,k2,_,_,k3⟩
 · rw[Array.getElem?_toList] at k1 k2;rw[k1,k2]
 · rw[Array.getElem?_toList] at k1 k2;rw[k1,k2];simp[k3]
theorem BP (h:eV opsR.toList ops.toList) (hi:opsR[i]? =ops[i]?) (hw:wpOp P ops Q i J a w):wpOp P opsR Q i J a w:=by
 obtain⟨h1,h2⟩:=iS h
 have hy:∀ tmps,yielded opsR tmps=yielded ops tmps:=by
   intro tmps;funext j;unfold yielded
   have:(opsR[j]?).bind (·.dst)=(ops[j]?).bind (·.dst):=by
     rcases h2 j with ⟨k1,k2⟩ | ⟨o,o',k1,k2,k3,_,_⟩
     · rw[Array.getElem?_toList] at k1 k2;rw[k1,k2]
     · rw[Array.getElem?_toList] at k1 k2;rw[k1,k2];simp[k3]
   rw[this]
 unfold wpOp at hw ⊢;rw[hi,hy];exact hw
theorem DJ (hm:P.follows .mixedOrders=true) {X:Nat×AOp->Prop} {id:Nat} {opsR:Array Oper} {draw:Bool} {ov:lJ} {st st':St} {rs:List Rec} {𝓡:Array Bool->(Nat->Nat)->(Nat->Prop)->St->Act->World->Prop} {O:Rec->Prop} {ρ:Nat->Nat} {D:Nat->Prop} {a:Act} {w:World}
   (he:lV T K ops draw ov st=some (st',rs)) (hO:∀ r∈rs,O r) (hsh:eV opsR.toList ops.toList) (hX:∀ p∈bU 0 ops.toList ov st.h.length,X p) (hD:∀ l,D l->l<st.h.length)
   (R0:∀ w',(w'=w\/w'={ w with drawn:=w.drawn+1 })->𝓡 (Array.replicate ops.size false) ρ D ⟨st.σ,st.h++List.replicate (dT ops.toList) none⟩ a w')
   (hQ:∀ listed ρ' D' a' w',𝓡 listed ρ' D' st' a' w'->(∀ i,i<ops.size->listed.getD i false=true)->Q .normal a' w')
   (hstep:∀ listed i x st st1 r a w ρ D,𝓡 listed ρ D st a w->listed.size=ops.size->i<ops.size->listed.getD i false=false->(∀ o,ops[i]? =some o->∀ e∈o.after.toList,Region.binds .any e=true->listed.getD e.on false=true)->ops[i]? =some x.o->(eC x.o.op=true->st.h[x.nid]? =some none/\¬ D x.nid)->dD T K ops i x st=some (st1,r)->O r->X (i,x)->(∃ rest rs1,gQ T K ops rest st1=some (st',rs1)/\∀ p∈rest,p.1≠i/\listed.getD p.1 false=false/\ops[p.1]? =some p.2.o)->
     wpOp P opsR Q i (fun a' w'=>∃ ρ' D',𝓡 (listed.setIfInBounds i true) ρ' D' st1 a' w'/\∀ l,D' l->D l\/l=x.nid/\eC x.o.op=true) a w):
   (Code.region id opsR draw).wp P Q a w:=by
 unfold lV at he
 split at he
 · rename_i st2 rs2 hrun
   split at he
   · rename_i hc
     injection he with he;simp only[Prod.mk.injEq] at he;obtain⟨rfl,rfl⟩:=he;rw[Bool.and_eq_true] at hc;obtain⟨hnid,hap⟩:=lN ops.toList 0 ov st.h.length
     have hpend:Pend D (st.h++List.replicate (dT ops.toList) none) (bU 0 ops.toList ov st.h.length):=by
       refine⟨fun p hp hn=> ?_,hap⟩;obtain⟨h1,h2⟩:=hnid p hp hn;refine⟨?_,fun h=> ?_⟩
       · rw[List.getElem?_append_right h1,List.getElem?_replicate,if_pos (by omega)]
       · have:=hD _ h;omega
     have hops:∀ p∈bU 0 ops.toList ov st.h.length,ops[p.1]? =some p.2.o:=by
       intro p hp;obtain⟨k,h1,h2⟩:=gK _ _ _ _ p hp;rw[h1,Nat.zero_add];simpa using h2
     have hsz:opsR.size=ops.size:=by have:=(iS hsh).1;simpa using this.symm
     cases draw with
     | false=>
       refine wp_region ?_
       have:=zN (P:=P) (Q:=Q) (opsR:=opsR) hc.1 hQ hstep (bU 0 ops.toList ov st.h.length) 0 (Array.replicate ops.size false) ρ D ⟨st.σ,st.h++List.replicate (dT ops.toList) none⟩ a w rs2 (by simp) (fun i hi=>by simp[Array.getD,hi])
         (by rw[eU,fM]) (by rw[fM];simp) (R0 w (.inl rfl)) hrun hO hpend hops hX
       rw[eU] at this;rw[hsz,List.range_eq_range'];simpa using this
     | true=>
       refine wp_region_any hm ?_;have hp:oW ops (sJ [] ops.toList) rs2=true:=by simpa using hc.2
       rw[hsz];refine CQ (P:=P) (X:=X) hc.1 (BO hsh) hQ hstep ops.size _ (bU 0 ops.toList ov st.h.length) rs2 ⟨st.σ,st.h++List.replicate (dT ops.toList) none⟩ a _ ρ D (by rw[fM];simp) ?_
       exact {
         rel:=R0 _ (.inr rfl)
         run:=hrun
         obs:=hO
         pend:=hpend
         size:=by simp
         mem:=fun i hi=>⟨fun _=>by have:=pA ops.toList 0 ov st.h.length i (by simpa using hi);simpa using this,fun _=>by simp[Array.getD,hi]⟩
         all:=hX
         sorted:=gU _ _ _ _
         ops_:=hops
         closed:=fun k o hk hl=>by
           have:=(Array.getElem?_eq_some_iff.1 hk).1;simp[Array.getD,this] at hl
         pairs:=jN hp }
   · cases he
 · cases he
end
structure Base where
 S:Nat->Prop
 C:Nat->Prop
 w:World
section
variable {P:Program} {T:TT} {K:KT} {ops:Array Oper} {f:FuncId} {S0 C0:Nat->Prop} {w0:World} {Post:Value->World->Prop}
theorem sV (h:dD T K ops i x st=some (st1,r)):∃ V,st1.σ=put st.σ x.o.dst V:=by
 unfold dD at h
 split at h
 · split at h
   · injection h with h;simp only[Prod.mk.injEq] at h;exact⟨_,by rw[<- h.1]⟩
   · cases h
 · injection h with h;simp only[Prod.mk.injEq] at h;exact⟨_,by rw[<- h.1]⟩
 · cases h
theorem sW:∀ {xs:List (Nat×AOp)} {st st':St} {rs:List Rec} {t:Nat},gQ T K ops xs st=some (st',rs)->(∀ p∈xs,p.2.o.dst≠some t)->st'.σ.getD t .any=st.σ.getD t .any
 | [],st,st',rs,t,h,_=>by simp only[gQ] at h;injection h with h;simp only[Prod.mk.injEq] at h;rw[h.1]
 | (i,x)::xs,st,st',rs,t,h,hx=>by
   obtain⟨st1,r,rs1,h1,h2,rfl⟩:=eJ.1 h;rw[sW h2 (fun p hp=>hx p (by simp[hp]))];obtain⟨V,hV⟩:=sV h1;rw[hV,qT (hx (i,x) (by simp))]
theorem Good.regionX (hm:P.follows .mixedOrders=true) (hT:kU P T) (hK:KOK P K) {id:Nat} {opsR:Array Oper} {draw:Bool} {ov:lJ} {st st':St} {rs:List Rec} {todo:List Item} (iX:Nat) {oX:Oper} {V:AV} {B B':Base->Prop} {args:List (Nat×AV)}
   (he:lV T K ops draw ov st=some (st',rs)) (hO:∀ r∈rs,r.i≠iX->AllP r.ob) (hsh:eV opsR.toList ops.toList) (hne:∀ i,i≠iX->opsR[i]? =ops[i]?)
   (hoX:opsR[iX]? =some oX) (hg:oX.guard=none) (hop:ops[iX]? =some { oX with op:=.move (.const undef) }) (hV:∀ x,(iX,x)∈bU 0 ops.toList ov st.h.length->x.ov=some V\/oX.dst=none)
   (hargs:∀ p∈args,st'.σ.getD p.1 .any=p.2/\∀ (j:Nat) (o:Oper),ops[j]? =some o->o.dst=some p.1->∃ e∈oX.after.toList,e.on=j/\Region.binds .any e=true)
   (hX:∀ (Q:Exit->Act->World->Prop) β ρ D σ h a w,B β->Rel β.S β.C β.w ρ D ⟨σ,h⟩ a w->(∀ p∈args,σ.getD p.1 .any=p.2)->wpOp P opsR Q iX (fun a' w'=>∃ β',B' β'/\Rel β'.S β'.C β'.w ρ D ⟨put σ oX.dst V,h⟩ a' w') a w)
   (hB:B ⟨S0,C0,w0⟩) (hgood:∀ β,B' β->Good P f β.S β.C β.w Post todo st'):Good P f S0 C0 w0 Post (.code (.region id opsR draw)::todo) st:=by
 intro ρ D a w R b cs hb hk
 have key:(Code.region id opsR draw).wp P (fun e a' w'=>e=Exit.normal/\∃ β ρ' D',B' β/\Rel β.S β.C β.w ρ' D' st' a' w') a w:=by
   have hXin:ops[iX]? ≠none:=by rw[hop];simp
   have hXlt:iX<ops.size:=by
     rcases Nat.lt_or_ge iX ops.size with h | h
     · exact h
     · exact absurd (Array.getElem?_eq_none h) hXin
   refine DJ (ρ:=ρ) hm (X:=fun p=>p∈bU 0 ops.toList ov st.h.length) (𝓡:=fun listed ρ D st a w=>∃ β:Base,(if listed.getD iX false=true then B' β else B β)/\Rel β.S β.C β.w ρ D st a w) (O:=fun r=>r.i≠iX->AllP r.ob) (T:=T) (K:=K) (ops:=ops)
     he hO hsh (fun p hp=>hp) R.dlt ?_ ?_ ?_
   · intro w' hw'
     refine⟨⟨S0,C0,w0⟩, ?_, ?_⟩
     · rw[if_neg (by simp[Array.getD,hXlt])];exact hB
     · rcases hw' with rfl | rfl
       · exact R.more _
       · exact(R.more _).draw
   · intro listed ρ' D' a' w' h hall
     obtain⟨β,h1,h2⟩:=h;rw[if_pos (hall iX hXlt)] at h1;exact⟨rfl,β,ρ',D',h1,h2⟩
   · intro listed i x st2 st1 r a2 w2 ρ2 D2 h hsz hi hun hed hox hfresh h1 hOr hxin hrest
     obtain⟨β,hβ,R2⟩:=h
     by_cases hiX:i=iX
     · subst hiX
       rw[if_neg (by rw[hun];simp)] at hβ;have hxo:x.o={ oX with op:=.move (.const undef) }:=by rw[hop] at hox;injection hox with hox;exact hox.symm
       have hst1:st1=⟨put st2.σ oX.dst V,st2.h⟩:=by
         have hov:=hV x hxin;unfold dD lM nG kA at h1;rw[hxo] at h1;simp only[hg,Op.operands,List.map_cons,List.map_nil,eZ,val] at h1;injection h1 with h1;simp only[Prod.mk.injEq] at h1;rw[<- h1.1];rcases hov with hov | hov
         · simp only[hov,mK];rfl
         · simp only[hov];rfl
       obtain⟨rest,rs1,hr1,hr2⟩:=hrest
       have hA:∀ p∈args,st2.σ.getD p.1 .any=p.2:=by
         intro p hp;obtain⟨g1,g2⟩:=hargs p hp
         have hnot:∀ (j:Nat) (o:Oper),ops[j]? =some o->o.dst=some p.1->listed.getD j false=true:=by
           intro j o hj hd;obtain⟨e,e1,e2,e3⟩:=g2 j o hj hd
           have:=hed _ hop e e1 e3
           rwa [e2] at this
         have k1:st'.σ.getD p.1 .any=st1.σ.getD p.1 .any:=sW hr1 fun q hq hd=>by
           obtain⟨q1,q2,q3⟩:=hr2 q hq
           have:=hnot q.1 q.2.o q3 hd;rw[q2] at this;cases this
         have k2:oX.dst≠some p.1:=fun hd=>by
           have:=hnot i _ hop hd;rw[hun] at this;cases this
         rw[<- g1,k1,hst1];exact(qT k2).symm
       refine wpOp_mono ?_ (hX _ β ρ2 D2 st2.σ st2.h a2 w2 hβ R2 hA);rintro a' w' ⟨β',b1,b2⟩;refine⟨ρ2,D2,⟨β', ?_,by rw[hst1];exact b2⟩,fun l hl=>.inl hl⟩;rw[if_pos (by simp[cE,hsz,hi])];exact b1
     · refine BP hsh (hne i hiX) (wpOp_mono ?_ (qS hT hK R2 hox hfresh h1 (hOr ?_)))
       · rintro a' w' ⟨ρ',D',R',hD'⟩
         refine⟨ρ',D',⟨β, ?_,R'⟩,hD'⟩;have:(listed.setIfInBounds i true).getD iX false=listed.getD iX false:=by simp[cE,hiX]
         rw[this];exact hβ
       · have:r.i=i:=by
           unfold dD at h1
           split at h1
           · split at h1
             · injection h1 with h1;simp only[Prod.mk.injEq] at h1;rw[<- h1.2]
             · cases h1
           · injection h1 with h1;simp only[Prod.mk.injEq] at h1;rw[<- h1.2]
           · cases h1
         rw[this];exact hiX
 obtain⟨e,a',w',⟨rfl,β,ρ',D',hβ,R'⟩,harr⟩:=key b _ cs;obtain⟨v,w2,fr,h1,h2,h3⟩:=hgood β hβ ρ' D' a' w' R' b cs hb hk;exact⟨v,w2,fr,h1,Steps.trans harr h2,h3⟩
end
end Go.Av
namespace Go.Av
open Go.RowKit Go.MapKept
def zO:AV->Bool
 | .agg _ | .tup _=>false
 | c=>wd c==1
section
variable {P:Program} {S0 C0:Nat->Prop} {w0 w:World} {ρ:Nat->Nat} {D:Nat->Prop} {σ:List AV} {h:List (Option ABlk)} {a:Act}
theorem sX {opsR:Array Oper} {Q:Exit->Act->World->Prop} {iX:Nat} {oX:Oper} {c:Call} {g:Operand} {f:FuncId} {caps:List AV} (R:Rel S0 C0 w0 ρ D ⟨σ,h⟩ a w) (hoX:opsR[iX]? =some oX) (hg:oX.guard=none)
   (hop:oX.op= .call c) (hc:c.callee= .value g) (hgv:bF σ g= .fn f caps) (hn:((c.args.toList.map (bF σ)).all dC&&caps.all dC&&caps.all zO)=true) (hb:oT P f) {J:Value->World->Prop}
   (hcall:∀ vals,RelVs ρ0 (Sof S0 ρ h) w No (c.args.toList.map (bF σ)++caps) vals->Calls P f vals.toArray w fun e w'=>∃ v,e= .returned v/\J v w'):
   wpOp P opsR Q iX (fun a' w'=>∃ v,J v w'/\a'=a.put oX.dst v) a w:=by
 unfold wpOp;rw[hoX];simp only[Region.wanted,hg,if_true];refine .inl ?_;rw[Bool.and_eq_true,Bool.and_eq_true] at hn;obtain⟨⟨hn1,hn2⟩,hones⟩:=hn;have hgR:=R.eval g;simp only[hgv] at hgR;have h':RelCs ρ (Sof S0 ρ h) w D [.fn f caps] [a.eval g]:=hgR
 have hv:∃ cvs:List Value,a.eval g= .func (.func f) #[] cvs.toArray/\RelCs ρ (Sof S0 ρ h) w D caps cvs:=by
   generalize a.eval g=v at h';cases h' with
   | fn h _=>exact⟨_,rfl,h⟩
 obtain⟨cvs,hv,hcv⟩:=hv
 have hcaps:∀ (caps:List AV) (cvs:List Value),caps.all dC=true->caps.all zO=true->RelCs ρ (Sof S0 ρ h) w D caps cvs->RelVs ρ0 (Sof S0 ρ h) w No caps cvs:=by
   intro caps
   induction caps with
   | nil=>intro cvs _ _ hcv;cases hcv;trivial
   | cons c cs ih=>
     intro cvs hn2 hones hcv;simp only[List.all_cons,Bool.and_eq_true] at hn2 hones;obtain⟨g1,g2⟩:=hcv.cut1
     have hw:wd c=1:=by
       have:=hones.1;cases c <;> simp_all [zO,wd]
     rw[hw] at g1 g2
     match cvs,g1,g2 with
     | [],g1,_=>exact absurd g1.wds_eq (by simp[tJ,hw])
     | v::vs,g1,g2=>exact⟨RelV0.noRef (aV g1) hn2.1 ρ0,ih vs hn2.2 hones.2 g2⟩
 have hmap:c.args.map a.eval=(c.args.toList.map a.eval).toArray:=by apply Array.ext';simp
 have hrun:(execOp a.eval oX).run P w= .ok (.enter f (c.args.toList.map a.eval++cvs).toArray) w:=by
   rw[execOp,hop];simp only[resolve,hc,hv,Deferred.ofValue,Sem.run_bind,Sem.run_pure,Result.andThen_ok,invoke];rw[jR hb]
   congr 2
   rw[hmap];simp
 unfold Oper.wp;rw[hrun,Oper.upon_enter];refine(hcall _ ((nL R _ hn1).app (hcaps _ _ hn2 hones hcv))).mono ?_;rintro e w' ⟨v,rfl,hJ⟩;exact⟨v,hJ,rfl⟩
theorem kP (hoX:opsR[iX]? =some oX) (hg:oX.guard=none) (hrun:(execOp a.eval oX).run P w= .ok (.value v) w') (hJ:J (a.put oX.dst v) w'):
   wpOp P opsR Q iX J a w:=by
 unfold wpOp;rw[hoX];simp only[Region.wanted,hg,if_true];refine .inl ?_;unfold Oper.wp;rw[hrun];exact hJ
theorem sY (hoX:opsR[iX]? =some oX) (hg:oX.guard=none) (hrun:(execOp a.eval oX).run P w= .ok .skip w') (hJ:J (a.put oX.dst undef) w'):
   wpOp P opsR Q iX J a w:=by
 unfold wpOp;rw[hoX];simp only[Region.wanted,hg,if_true];refine .inl ?_;unfold Oper.wp;rw[hrun];exact hJ
theorem Chg.mono (h:Chg X w w') (k:∀ i,X i->Y i):Chg Y w w':=⟨h.os,h.tape,h.output,h.size,fun i hi hn=>h.block i hi fun hx=>hn (k i hx),h.row⟩
def qE (ρ:Nat->Nat) (h:List (Option ABlk)):Nat->Prop:=fun k=>∃ l b,h[l]? =some (some b)/\ρ l=k
theorem Rel.rebase (R:Rel S0 C0 w0 ρ D st a w) (hC:∀ k,qE ρ st.h k->C1 k):Rel S0 C1 w ρ D st a w:=
 { R with
   chg:=Chg.refl _ _
   mine:=fun l b hb=>⟨.inl (hC _ ⟨l,b,hb,rfl⟩),(R.mine l b hb).2⟩ }
theorem Rel.turn (R:Rel S0 C0 w0 ρ D ⟨σ,h⟩ a w) (hc:Chg X w w') (hX:∀ k,X k->S0 k) (hv:dst=none\/RelV ρ (Sof S0 ρ h) w' D V v):
   Rel S0 (qE ρ h) w' ρ D ⟨put σ dst V,h⟩ (a.put dst v) w':=by
 have R1:Rel S0 (fun k=>qE ρ h k\/X k) w ρ D ⟨σ,h⟩ a w:=R.rebase fun k hk=>.inl hk
 have hk:Keep ρ (Sof S0 ρ h) w D ρ (Sof S0 ρ h) w':=
   ⟨hc.size,fun l hl=>⟨rfl,hc.row _⟩,fun k hk hs=>⟨hs,hc.block k hk fun hx=>hs (.inl (hX k hx))⟩⟩
 have hheap:∀ l b,h[l]? =some (some b)->D l/\RelB ρ (Sof S0 ρ h) w' D l b:=by
   intro l b hb;obtain⟨h1,h2⟩:=R.heap l b hb;obtain⟨arr,h3,h4⟩:=h2;refine⟨h1,RelB.keep ⟨arr,h3,h4⟩ (fun _ h=>h) hk rfl (hc.block _ (fJ h3) fun hx=>(R.mine l b hb).2.1 (hX _ hx))⟩
 have base:∀ V v,RelV ρ (Sof S0 ρ h) w' D V v->Rel S0 (qE ρ h) w' ρ D ⟨put σ dst V,h⟩ (a.put dst v) w':=fun V v hv=>
   (R1.step (h':=h) hk (fun _ h=>h) hv hheap R.inj R.dlt (hc.mono fun k hk=>.inr hk) (fun l b hb=>⟨.inl (.inl ⟨l,b,hb,rfl⟩),(R.mine l b hb).2⟩)).rebase fun k hk=>hk
 rcases hv with rfl | hv
 · exact base .any undef trivial
 · exact base V v hv
def Memo (F:Nat->List AV) (n:Nat) (S:Nat->Prop) (w:World) (r:Nat):Prop:=
 ∃ es clk,w.heap[r]? =some (.map es clk)/\es.size=n/\∀ j e,es[j]? =some e->e.key= .int .i64 ((j:Nat):Int)/\∃ vs:List Value,e.val= .agg vs.toArray/\RelCs ρ0 S w No (F j) vs
theorem Memo.keep {F:Nat->List AV} {n r:Nat} {S S':Nat->Prop} {w':World} (M:Memo F n S w r) (hs:w.heap.size<=w'.heap.size) (hr:w'.heap[r]? =w.heap[r]?) (hk:∀ k,k<w.heap.size->¬ S k->¬ S' k/\w'.heap[k]? =w.heap[k]?):Memo F n S' w' r:=by
 obtain⟨es,clk,h1,h2,h3⟩:=M;refine⟨es,clk,by rw[hr];exact h1,h2,fun j e he=> ?_⟩;obtain⟨k1,vs,k2,k3⟩:=h3 j e he;exact⟨k1,vs,k2,k3.keep _ (fun _ h=>h) ⟨hs,fun l h=>h.elim,hk⟩⟩
theorem Memo.look {F:Nat->List AV} {n r mt kt et i:Nat} {S:Nat->Prop} (M:Memo F n S w r) (hm:P.underlying mt=some (.map kt et)) (hk:P.underlying kt=some (.int .i64)) (hi:i<n):
   ∃ vs:List Value,(∀ ok,(Instr.lookup mt (.map (some r)) (.int .i64 ((i:Nat):Int)) ok).run P w= .ok (if ok then .tuple #[.agg vs.toArray,.bool true] else .agg vs.toArray) w)/\RelCs ρ0 S w No (F i) vs:=by
 obtain⟨es,clk,h1,h2,h3⟩:=M;have hkey:IsKey (.int .i64) (.int .i64 ((i:Nat):Int)):=by simp[IsKey]
 have hks:∀ x∈es.toList,IsKey (.int .i64) x.key:=fun x hx=>by
   obtain⟨j,hj⟩:=List.mem_iff_getElem?.1 hx;rw[(h3 j x (by simpa using hj)).1];simp[IsKey]
 rcases findNow_spec hkey es.toList 0 hks with ⟨k1,k2⟩ | ⟨j,e,k1,k2,k3⟩
 · exfalso
   have hlt:i<es.size:=by omega
   have:=k2 es[i] (by simp);exact this (h3 i es[i] (by simp[hlt])).1
 · obtain⟨g1,vs,g2,g3⟩:=h3 j e (by simpa using k2)
   have hij:j=i:=by rw[g1] at k3;injection k3 with _ k3;omega
   subst hij;refine⟨vs,fun ok=> ?_,g3⟩;cases ok <;> simp[Instr.lookup,run_underlying hm,Result.andThen,MapKept.run_getObj_map h1,run_checkKey hk hkey,run_findKey hk k1,g2]
theorem Memo.miss {F:Nat->List AV} {n r mt kt et i:Nat} {S:Nat->Prop} (M:Memo F n S w r) (hm:P.underlying mt=some (.map kt et)) (hk:P.underlying kt=some (.int .i64)) (hi:n<=i) {z:Value} (hz:(zeroValue et).run P w= .ok z w):
   (Instr.lookup mt (.map (some r)) (.int .i64 ((i:Nat):Int)) true).run P w= .ok (.tuple #[z,.bool false]) w:=by
 obtain⟨es,clk,h1,h2,h3⟩:=M;have hkey:IsKey (.int .i64) (.int .i64 ((i:Nat):Int)):=by simp[IsKey]
 have hks:∀ x∈es.toList,IsKey (.int .i64) x.key:=fun x hx=>by
   obtain⟨j,hj⟩:=List.mem_iff_getElem?.1 hx;rw[(h3 j x (by simpa using hj)).1];simp[IsKey]
 rcases findNow_spec hkey es.toList 0 hks with ⟨k1,k2⟩ | ⟨j,e,k1,k2,k3⟩
 · simp[Instr.lookup,run_underlying hm,Result.andThen,MapKept.run_getObj_map h1,run_checkKey hk hkey,run_findKey hk k1,hz]
 · exfalso
   obtain⟨g1,_⟩:=h3 j e (by simpa using k2);have hjl:j<es.size:=by have:=(List.getElem?_eq_some_iff.1 k2).1;simpa using this
   rw[g1] at k3;injection k3 with _ k3;omega
theorem Memo.upd {F:Nat->List AV} {n r mt kt et:Nat} {S:Nat->Prop} (M:Memo F n S w r) (hm:P.underlying mt=some (.map kt et)) (hk:P.underlying kt=some (.int .i64)) {vs:List Value} (hv:RelCs ρ0 S w No (F n) vs) (hS:S r):
   ∃ w',(Instr.mapUpdate mt (.map (some r)) (.int .i64 ((n:Nat):Int)) (.agg vs.toArray)).run P w= .ok () w'/\Chg (· =r) w w'/\Memo F (n+1) S w' r:=by
 obtain⟨es,clk,h1,h2,h3⟩:=M;have hkey:IsKey (.int .i64) (.int .i64 ((n:Nat):Int)):=by simp[IsKey]
 have hks:∀ x∈es.toList,IsKey (.int .i64) x.key:=fun x hx=>by
   obtain⟨j,hj⟩:=List.mem_iff_getElem?.1 hx;rw[(h3 j x (by simpa using hj)).1];simp[IsKey]
 rcases findNow_spec hkey es.toList 0 hks with ⟨k1,k2⟩ | ⟨j,e,k1,k2,k3⟩
 · have hc:=heap_set (o':=.map (es.push ⟨.int .i64 ((n:Nat):Int),.agg vs.toArray,clk⟩) (clk+1)) h1
   have hrt:=fJ h1
   have hchg:Chg (· =r) w { w with heap:=w.heap.setIfInBounds r (.map (es.push ⟨.int .i64 ((n:Nat):Int),.agg vs.toArray,clk⟩) (clk+1)) }:=
     ⟨rfl,rfl,rfl,by simp,fun k _ hk=>hc.2 k hk,fun k arr ty ha=>⟨arr,ty,by
       have:k≠r:=fun e=>by rw[e,h1] at ha;cases ha
       simp only[hc.2 k this];exact ha,Nat.le_refl _⟩⟩
   refine⟨_, ?_,hchg,_,_,hc.1,by simp[h2],fun j e he=> ?_⟩
   · simp[Instr.mapUpdate,run_underlying hm,MapKept.run_getObj_map h1,run_checkKey hk hkey,run_findKey hk k1,MapKept.run_setObj_map _ h1,Result.andThen]
   · have kp:∀ {cs:List AV} {us:List Value},RelCs ρ0 S w No cs us->RelCs ρ0 S { w with heap:=w.heap.setIfInBounds r (.map (es.push ⟨.int .i64 ((n:Nat):Int),.agg vs.toArray,clk⟩) (clk+1)) } No cs us:=
       fun hcs=>hcs.keep _ (fun _ h=>h) ⟨hchg.size,fun l h=>h.elim,fun k _ hs=>⟨hs,hc.2 k fun e=>hs (e▸hS)⟩⟩
     rw[Array.getElem?_push] at he
     split at he
     · rename_i hj
       injection he with he;subst he;exact⟨by rw[hj,h2],vs,rfl,by rw[hj,h2];exact kp hv⟩
     · obtain⟨g1,us,g2,g3⟩:=h3 j e he
       exact⟨g1,us,g2,kp g3⟩
 · exfalso
   obtain⟨g1,_⟩:=h3 j e (by simpa using k2);have hjl:j<es.size:=by have:=(List.getElem?_eq_some_iff.1 k2).1;simpa using this
   rw[g1] at k3;injection k3 with _ k3;omega
end
end Go.Av
namespace Go.Av
open Go.Proofs Go.RowKit
def bD (m:MachD) (n:Nat):Int:=if dW m=0 then (if ((n:Nat):Int)=((m.bodies.length:Nat):Int)-1 then 0 else 2) else dW m
def Vq:KF
 | [.agg [.str mn,.list 27 XB,.list 17 XS,.list 17 XT,.list 13 XD,.list 5 XF],.agg [.q ax A1,.q az A2,.q tu A3,.list 3 J]]=>some (.int .i64 (bD (aF [AV.str mn,AV.list 27 XB,AV.list 17 XS,AV.list 17 XT,AV.list 13 XD,AV.list 5 XF]) J.length),[[AV.str mn,AV.list 27 XB,AV.list 17 XS,AV.list 17 XT,AV.list 13 XD,AV.list 5 XF]=aD 300 (aF [AV.str mn,AV.list 27 XB,AV.list 17 XS,AV.list 17 XT,AV.list 13 XD,AV.list 5 XF]),(aF [AV.str mn,AV.list 27 XB,AV.list 17 XS,AV.list 17 XT,AV.list 13 XD,AV.list 5 XF]).small,J.length<=4611686018427387904,XB.length<=4611686018427387904])
 | _=>none
theorem We:bQ 21 Vq:=by
 refine cK Tryz.f21 fun _ _ _ S w0 h ho=> ?_
 unfold Vq at h;split at h <;> cases h;rename_i mn XB XS XT XD XF ax A1 az A2 tu A3 J;obtain⟨o1,o2,o3,o4⟩:=ho.e4;have K:=kn.cons QH;have hb:((aF [AV.str mn,AV.list 27 XB,AV.list 17 XS,AV.list 17 XT,AV.list 13 XD,AV.list 5 XF]).bodies.length:Int)=((XB.length:Nat):Int):=by simp[aF]
 by_cases h1:(dW (aF [(AV.str mn),(AV.list 27 XB),(AV.list 17 XS),(AV.list 17 XT),(AV.list 13 XD),(AV.list 5 XF)]))=(0:Int)
 · by_cases h2:((J.length:Nat):Int)=(((XB.length:Nat):Int)-(1:Int))
   · exact rF K [(9,ff),(17,.i6 ((XB.length:Int)-(1:Int))),(18,ff)] (.a5 o1 o2 (jF h1) (wI ((XB.length:Int)-(1:Int)) ((XB.length:Int)-(1:Int)) (by omega)) (jF h2)) (V:=.i6 (0:Int)) (Ref.int (by unfold bD;rw[if_pos h1,hb,if_pos h2]))
   · exact rF K [(9,ff),(17,.i6 ((XB.length:Int)-(1:Int))),(18,tt)] (.a5 o1 o2 (jF h1) (wI ((XB.length:Int)-(1:Int)) ((XB.length:Int)-(1:Int)) (by omega)) (jT h2)) (V:=.i6 (2:Int)) (Ref.int (by unfold bD;rw[if_pos h1,hb,if_neg h2]))
 · exact rF K [(9,tt)] (.a3 o1 o2 (jT h1)) (V:=.i6 (dW (aF [.str mn,.list 27 XB,.list 17 XS,.list 17 XT,.list 13 XD,.list 5 XF]))) (Ref.int (by unfold bD;rw[if_neg h1]))
end Go.Av
namespace Go.Av
open Go.RowKit
structure FrameD where
 at_:PtD
 c:Rat
 s:Rat
 deriving Inhabited
def dS (e:Nat) (f:FrameD):List AV:=[.q f.at_.x (2*e),.q f.at_.z (2*e),.q f.c e,.q f.s e]
def rN:Code->Nat
 | .region i _ _=>i
 | _=>0
def aL:Code->Array Oper
 | .region _ o _=>o
 | _=> #[]
def lA:Code->Bool
 | .region _ _ d=>d
 | _=>false
def CR (o:Oper):Oper:={ o with op:=.move (.const undef) }
def lW:Nat->List Oper->List Oper
 | _,[]=>[]
 | 0,o::os=>CR o::os
 | i+1,o::os=>o::lW i os
theorem tT:∀ (i:Nat) (os:List Oper),eV os (lW i os)
 | i,[]=>by cases i <;> trivial
 | 0,o::os=>⟨rfl,rfl,rfl,shape_refl os⟩
 | i+1,o::os=>⟨rfl,rfl,rfl,tT i os⟩
where shape_refl:∀ os:List Oper,eV os os
 | []=>trivial
 | o::os=>⟨rfl,rfl,rfl,shape_refl os⟩
theorem BQ:∀ (i j:Nat) (os:List Oper),j≠i->(lW i os)[j]? =os[j]?
 | i,_,[],_=>by cases i <;> rfl
 | 0,j+1,o::os,_=>by simp[lW]
 | i+1,0,o::os,_=>by simp[lW]
 | i+1,j+1,o::os,h=>by simpa[lW] using BQ i j os (by omega)
 | 0,0,_::_,h=>absurd rfl h
theorem BR:∀ (i:Nat) (os:List Oper) (o:Oper),os[i]? =some o->(lW i os)[i]? =some (CR o)
 | _,[],_,h=>by simp at h
 | 0,o::os,o',h=>by simp at h;subst h;simp[lW]
 | i+1,o::os,o',h=>by simpa[lW] using BR i os o' (by simpa using h)
def GZ (i:Nat):List (Nat×AOp)->Option AV
 | []=>none
 | (j,x)::r=>if j=i then x.ov else GZ i r
theorem DK:∀ {l:List (Nat×AOp)} {i:Nat} {x:AOp},l.Pairwise (fun p q=>p.1<q.1)->(i,x)∈l->GZ i l=x.ov
 | (j,y)::r,i,x,hs,h=>by
   rcases List.mem_cons.1 h with h | h
   · injection h with h1 h2;subst h1;subst h2;simp[GZ]
   · have:=(List.pairwise_cons.1 hs).1 _ h
     simp at this;rw[GZ,if_neg (by omega),DK (List.pairwise_cons.1 hs).2 h]
 | [],_,_,_,h=>by simp at h
def CS (i:Nat):List Rec->List Prop
 | []=>[]
 | r::rs=>(if r.i=i then [] else r.ob)++CS i rs
theorem wZ {i:Nat}:∀ {rs:List Rec},AllP (CS i rs)->∀ r∈rs,r.i≠i->AllP r.ob
 | r ::rs,h,q,hq,hn=>by
   rcases List.mem_cons.1 hq with rfl | hq
   · have:=(AllP.app h).1
     rwa [if_neg hn] at this
   · exact wZ (AllP.app h).2 q hq hn
 | [],_,_,hq,_=>by simp at hq
def uO (ops:List Oper) (o:Oper) (ts:List Nat):Bool:=
 ts.all fun t=>(List.range ops.length).all fun j=>match ops[j]? with
   | some q=>if q.dst==some t then o.after.toList.any fun e=>e.on==j&&Region.binds .any e else true
   | none=>true
theorem rO {ops:List Oper} {o:Oper} {ts:List Nat} (h:uO ops o ts=true):∀ t∈ts,∀ (j:Nat) (q:Oper),ops[j]? =some q->q.dst=some t->∃ e∈o.after.toList,e.on=j/\Region.binds .any e=true:=by
 intro t ht j q hj hd;have h1:=List.all_eq_true.1 h t ht;have h2:=List.all_eq_true.1 h1 j (List.mem_range.2 (List.getElem?_eq_some_iff.1 hj).1);simp only[hj,hd,beq_self_eq_true,if_true] at h2;obtain⟨e,e1,e2⟩:=List.any_eq_true.1 h2;rw[Bool.and_eq_true] at e2;exact⟨e,e1,by simpa using e2.1,e2.2⟩
section
variable {P:Program} {T:TT} {K:KT} {f:FuncId} {S0 C0:Nat->Prop} {w0:World} {Post:Value->World->Prop}
theorem Good.regX (hm:P.follows .mixedOrders=true) (hT:kU P T) (hK:KOK P K) {c:Code} (iX:Nat) {oX:Oper} {dX:Option Nat} {V:AV} {ov:lJ} {st:St} {σ':List AV} {h':List (Option ABlk)} {ob:List Prop} {todo:List Item} {B B':Base->Prop} (ts:List Nat)
   (hc:c= .region (rN c) (aL c) (lA c)) (hoX:(aL c).toList[iX]? =some oX) (hg:oX.guard=none) (hd:oX.dst=dX)
   (he:(lV T K (lW iX (aL c).toList).toArray (lA c) ov st).map (fun r=>(r.1.σ,r.1.h,CS iX r.2))=some (σ',h',ob)) (hob:AllP ob)
   (hV:dX=none\/GZ iX (bU 0 (lW iX (aL c).toList) ov st.h.length)=some V) (hts:uO (lW iX (aL c).toList) oX ts=true)
   (hX:∀ (Q:Exit->Act->World->Prop) β ρ D σ h a w,B β->Rel β.S β.C β.w ρ D ⟨σ,h⟩ a w->(∀ t∈ts,σ.getD t .any=σ'.getD t .any)->wpOp P (aL c) Q iX (fun a' w'=>∃ β',B' β'/\Rel β'.S β'.C β'.w ρ D ⟨put σ dX V,h⟩ a' w') a w)
   (hB:B ⟨S0,C0,w0⟩) (hgood:∀ β,B' β->Good P f β.S β.C β.w Post todo ⟨σ',h'⟩):Good P f S0 C0 w0 Post (.code c::todo) st:=by
 subst hd;obtain⟨⟨st',rs⟩,h1,h2⟩:=Option.map_eq_some_iff.1 he;simp only[Prod.mk.injEq] at h2;obtain⟨rfl,rfl,rfl⟩:=h2;rw[hc]
 refine Good.regionX (ops:=(lW iX (aL c).toList).toArray) (args:=ts.map fun t=>(t,st'.σ.getD t .any)) hm hT hK iX (V:=V) (oX:=oX) h1 (wZ hob) (by simpa using tT iX _) (fun i hi=>by
   have:=BQ iX i (aL c).toList hi
   simpa using this.symm) (by simpa using hoX) hg (by simpa[CR] using BR iX _ _ hoX) (fun x hx=> ?_) ?_ ?_ hB hgood
 · rcases hV with h | h
   · exact .inr h
   · left
     have:=DK (gU _ _ _ _) hx;simp only[List.toList_toArray] at this;rw[<- this];exact h
 · intro p hp
   obtain⟨t,ht,rfl⟩:=List.mem_map.1 hp;refine⟨rfl,fun j o hj hd=>rO hts t ht j o (by simpa using hj) hd⟩
 · intro Q β ρ D σ h a w hβ R hA
   exact hX Q β ρ D σ h a w hβ R fun t ht=>hA (t,st'.σ.getD t .any) (List.mem_map.2 ⟨t,ht,rfl⟩)
end
end Go.Av
