/- PoseBent: a part of its proof. No condition. -/
import Derived.Test.YtbdhgnlabjmnoaaGreatK1
set_option linter.all false
set_option maxRecDepth 100000
set_option autoImplicit true
set_option relaxedAutoImplicit true
namespace Go.Av
open Go.Proofs Go.RowKit
def OF:KF
 | [.list 1 X]=>some (.dig (aJ b10k (bK X)) (14*X.length),[X=aO (bK X),∀ x∈bK X,x<b10k])
 | _=>none
section
variable {S:Nat->Prop} {w0:World}
noncomputable abbrev OG:List Item:=[.code (aR [1,0,0,0] (aA Tryz.f272)),.inLoop (aR [1,0,0,0] (aA Tryz.f272)),.inBlock 0,.code (aR [1,1] (aA Tryz.f272))]
theorem Jn {N B:Nat} (hB:N<2^B):∀ (j:Nat) (xs:List Nat),xs.length=j->(∀ x∈xs,x<b10k)->aJ b10k xs=N->j<=big->
   GF 272 S w0 (.dig N B) OG ⟨slots 21 [(0,.list 1 (aO xs))],[]⟩:=by
 intro j
 induction j with
 | zero=>
   intro xs hl hx hN hb;refine rF rG [(6,ff)] (.a1 (iF (show ¬ ((0:Int)<((aO xs).length:Int)) by rw[aL];omega))) (V:=.list 1 (aO xs)) (Ref.dig ⟨hx, ?_⟩ hN hB)
   have:xs= []:=List.length_eq_zero_iff.1 hl;subst this;simp
 | succ k ih=>
   intro xs hl hx hN hb;unfold big at hb;have v0:Ref (.i6 (IntKind.i64.wrap ((((aO xs).length:Nat):Int)-(1:Int)))) (.i6 (k:Int)):=by rw[aL];exact Ref.wrI (by omega) (by omega)
   have v1:Ref (.cptr ((aO xs).getD k []) 0) (.cptr [.i6 (xs.getD k 0:Int)] 0):=Ref.cd64 ((om (k<xs.length)));have v2:(0:Int)<((aO xs).length:Int):=by rw[aL];omega
   have v3:(k:Int)<((aO xs).length:Int):=by rw[aL];omega
   by_cases h:xs.getD k 0=0
   · refine gN rG [0,2] [(6,tt),(10,.i6 (k:Int)),(11,.cptr [.i6 (xs.getD k 0:Int)] 0),(14,tt),(18,.i6 (k:Int))] (.c6 (iT v2) v0 v1 (nn k) v3 (iT (om ((xs.getD k 0:Int)=(0:Int)))) (.a3 v0 (nn k) (show(k:Int)<=((aO xs).length:Int) by rw[aL];omega))) (t:=OG) (σ:=slots 21 [(0,(.list 1 (((aO xs).take k).drop 0)))]) (h:=[]) ?_
     rw[List.drop_zero,Fy];refine ih _ (by simp;omega) (fun x h=>hx x (List.mem_of_mem_take h)) ?_ (by unfold big;omega);have h1:=aT b10k xs k;rw[gO (by omega),hN,h,Nat.mul_zero] at h1;omega
   · refine rF rG [(6,tt),(10,.i6 (k:Int)),(11,.cptr [.i6 (xs.getD k 0:Int)] 0),(14,ff)] (.a6 (iT v2) v0 v1 (nn k) v3 (iF (om (¬ (((xs.getD k 0:Nat):Int)=(0:Int)))))) (V:=.list 1 (aO xs)) (Ref.dig ⟨hx, ?_⟩ hN hB)
     rw[List.getLast?_eq_getElem?,hl,Nat.add_sub_cancel,List.getElem?_eq_getElem (by omega)];intro he;apply h;simp at he;simp[nG,show k<xs.length by omega,he]
theorem LN:bO 272 OF:=fun args r ob h ho=>by
 unfold OF at h
 split at h
 · rename_i X
   cases h;have h1:X=aO (bK X):=ho _ (by simp);have h2:∀ x∈bK X,x<b10k:=ho _ (by simp);generalize bK X=xs at h1 h2;subst h1;refine af Tryz.f272 fun S w0=> ?_
   rw[aL];have e:kY [.list 1 (aO xs)] Tryz.f272.ntmps=⟨slots 21 [(0,.list 1 (aO xs))],[]⟩:=by kernel_rfl
   rw[e];refine Good.len 0 (e:=1) (xs:=aO xs) (by rfl) fun hb=> ?_
   rw[aL] at hb;exact gN rG [0] [] .nil (Jn (Eo h2) _ xs rfl h2 rfl hb)
 · cases h
end
def lJ:=kn.cons LN
def OH:KF
 | [.dig n B,.dig m C]=>some (.dig (n*m) (B+C),[B+C+128<=LIM])
 | _=>none
theorem Ref.digB {n B C:Nat} (h:n<2^C):Ref (.dig n B) (.dig n C):=by
 intro ρ S w D v hv;have h':RelCs ρ S w D [.dig n B] [v]:=hv;cases h' with
 | dig xs h1 h2 h3 h4=>exact bA (.dig xs h1 h2 h h4)
theorem Good.diglt {P:Program} {f:FuncId} {S0 C0:Nat->Prop} {w0:World} {Post:Value->World->Prop} {todo:List Item} {st:St} (t:Nat) {n B:Nat} (ht:st.σ.getD t .any= .dig n B) (hg:n<2^B->Good P f S0 C0 w0 Post todo st):Good P f S0 C0 w0 Post todo st:=
 Good.fact t ht rfl (fun ρ S w D v hv=>qY (show RelCs ρ S w D [.dig n B] [v] from hv)) hg
section
variable {S:Nat->Prop} {w0:World}
noncomputable abbrev Jo:List Item:=[.code (aR [1,1,0,1,0,0] (aA Tryz.f223)),.inLoop (aR [1,1,0,1,0,0] (aA Tryz.f223)),.inBlock 0,.code (aR [1,1,1] (aA Tryz.f223))]
noncomputable abbrev Dq:List Item:=[.code (aR [1,1,0,1,0,0,1,0,0,1,1,0,0] (aA Tryz.f223)),.inLoop (aR [1,1,0,1,0,0,1,0,0,1,1,0,0] (aA Tryz.f223)),.inBlock 2,.inBlock 1,.code (aR [1,1,0,1,0,0,1,1] (aA Tryz.f223)),.inLoop (aR [1,1,0,1,0,0] (aA Tryz.f223)),.inBlock 0,.code (aR [1,1,1] (aA Tryz.f223))]
variable {Post:Value->World->Prop}
theorem Gj {xs ys:List Nat} {m i:Nat} (hm:m=xs.length+ys.length) (hi:i<xs.length) (hx:∀ x∈xs,x<b10k) (hy:∀ x∈ys,x<b10k) (hbig:m+2<=LIM)
   (next:∀ ds:List Nat,ds.length=m->(∀ x∈ds,x<b10k)->aJ b10k ds=aJ b10k (xs.take (i+1))*aJ b10k ys->(∀ t,i+1+ys.length<=t->ds.getD t 0=0)->
     Good Tryz.prog 223 S No w0 Post Jo ⟨slots 66 [(0,.list 1 (aO xs)),(1,.list 1 (aO ys)),(5,.own 0 1 0 m),(6,.i6 ((i+1:Nat):Int))],[some ⟨3,1,true,(aO ds),none⟩]⟩):
   ∀ (j k c:Nat) (ds:List Nat),j=ys.length-k->k<=ys.length->c<b10k->ds.length=m->(∀ x∈ds,x<b10k)->aJ b10k ds+b10k^(i+k)*c=aJ b10k (xs.take i)*aJ b10k ys+b10k^i*(xs.getD i 0*aJ b10k (ys.take k))->(∀ t,i+ys.length<=t->ds.getD t 0=0)->
   Good Tryz.prog 223 S No w0 Post Dq ⟨slots 66 [(0,.list 1 (aO xs)),(1,.list 1 (aO ys)),(5,.own 0 1 0 m),(6,.i6 ((i:Nat):Int)),(7,.i6 ((c:Nat):Int)),(8,.i6 ((k:Nat):Int))],[some ⟨3,1,true,(aO ds),none⟩]⟩:=by
 unfold LIM at hbig;have hx1:=bC (b:=b10k) (by decide) hx i;have fb:b10k=10000:=rfl
 have fin:∀ (k:Nat) (ds:List Nat),ys.length<=k->ds.length=m->(∀ x∈ds,x<b10k)->aJ b10k ds=aJ b10k (xs.take i)*aJ b10k ys+b10k^i*(xs.getD i 0*aJ b10k ys)->(∀ t,i+1+ys.length<=t->ds.getD t 0=0)->
     Good Tryz.prog 223 S No w0 Post Dq ⟨slots 66 [(0,.list 1 (aO xs)),(1,.list 1 (aO ys)),(5,.own 0 1 0 m),(6,.i6 ((i:Nat):Int)),(7,.i6 ((0:Nat):Int)),(8,.i6 ((k:Nat):Int))],[some ⟨3,1,true,(aO ds),none⟩]⟩:=by
   intro k ds hk hd hdl hv hz;refine gN lJ [0,1,5,6,7,8] [(26,ff),(29,ff),(21,.i6 ((i+1:Nat):Int))] (.a3 (iF (show ¬ ((k:Int)<((aO ys).length:Int)) by rw[aL];omega)) (iF (om (¬ ((0:Int)<(0:Int))))) (wI ((i:Int)+(1:Int)) ((i+1:Nat):Int))) (t:=Jo) (σ:=slots 66 [(0,.list 1 (aO xs)),(1,.list 1 (aO ys)),(5,.own 0 1 0 m),(6,.i6 ((i+1:Nat):Int)),(7,.i6 (0:Int)),(8,.i6 (k:Int))]) (h:=[some ⟨3,1,true,(aO ds),none⟩]) ?_
   refine Good.weak 66 [(0,_),(1,_),(5,_),(6,_)] (by kernel_rfl) (.r (.r (.r (.r .nil)))) ?_;refine next ds hd hdl ?_ hz;rw[hv,aT,Nat.add_mul,Nat.mul_assoc]
 intro j;have v0:(10000:Int)≠0:=by decide
 induction j with
 | zero=>
   intro k c ds hj hk hc hd hdl hinv hz;have hk:k=ys.length:=by omega
   subst hk;rw[gO (rl _)] at hinv
   by_cases h0:c=0
   · subst h0
     exact fin _ ds (rl _) hd hdl (by rw[Nat.mul_zero,Nat.add_zero] at hinv;exact hinv) (fun t ht=>hz t (by omega))
   · have ho:ds.getD (i+ys.length) 0=0:=hz _ (rl _)
     rw[fb] at hc;have v1:¬ ((ys.length:Int)<((aO ys).length:Int)):=by rw[aL];omega
     refine cX (p:=(-9223372036854775808<=(i:Int)+(ys.length:Int)/\(i:Int)+(ys.length:Int)<=9223372036854775807)/\(((i+ys.length:Nat):Int)<(m:Int))/\(0+(i+ys.length)<ds.length)/\(0+(i+ys.length)<(aO ds).length)/\(-9223372036854775808<=(ds.getD (0+(i+ys.length)) 0:Int)+(c:Int)/\(ds.getD (0+(i+ys.length)) 0:Int)+(c:Int)<=9223372036854775807)/\(((ds.getD (0+(i+ys.length)) 0+c:Nat):Int)<=9223372036854775807)/\(-9223372036854775808<=(ys.length:Int)+(1:Int)/\(ys.length:Int)+(1:Int)<=9223372036854775807)) ?_ fun⟨q0,q1,q2,q3,q4,q5,q6⟩=>gN lJ [0,1,5,6,7,8] [(26,ff),(29,tt),(35,.i6 ((i+ys.length:Nat):Int)),(37,.i6 (ds.getD (0+(i+ys.length)) 0:Int)),(39,.i6 ((ds.getD (0+(i+ys.length)) 0+c:Nat):Int)),(43,ff),(58,.i6 ((i+ys.length:Nat):Int)),(60,.i6 (((ds.getD (0+(i+ys.length)) 0+c) % 10000:Nat):Int)),(63,.i6 (((ds.getD (0+(i+ys.length)) 0+c)/10000:Nat):Int)),(31,.i6 ((ys.length+1:Nat):Int))] (.c6 (iF v1) (iT (om ((0:Int)<(c:Int)))) (wI ((i:Int)+(ys.length:Int)) ((i+ys.length:Nat):Int) q0) (nn (i+ys.length)) q1 (Ref.cd64h q2) (.c6 q3 (wI (((ds.getD (0+(i+ys.length)) 0:Nat):Int)+(c:Int)) ((ds.getD (0+(i+ys.length)) 0+c:Nat):Int) q4) (iF v1) (wI ((i:Int)+(ys.length:Int)) ((i+ys.length:Nat):Int) q0) (show Ref (.i6 (((ds.getD (0+(i+ys.length)) 0+c:Nat):Int).tmod (10000:Int))) (.i6 (((ds.getD (0+(i+ys.length)) 0+c) % 10000:Nat):Int)) from Ref.rem (a:=ds.getD (0+(i+ys.length)) 0+c) (b:=10000) rfl rfl) v0 (.a6 (nn (i+ys.length)) q1 q3 (show Ref (.i6 (IntKind.i64.wrap (((ds.getD (0+(i+ys.length)) 0+c:Nat):Int).tdiv (10000:Int)))) (.i6 (((ds.getD (0+(i+ys.length)) 0+c)/10000:Nat):Int)) from Ref.quo (a:=ds.getD (0+(i+ys.length)) 0+c) (b:=10000) rfl rfl (by decide) q5) v0 (wI ((ys.length:Int)+(1:Int)) ((ys.length+1:Nat):Int) q6)))) (t:=Dq) (σ:=slots 66 [(0,.list 1 (aO xs)),(1,.list 1 (aO ys)),(5,.own 0 1 0 m),(6,.i6 (i:Int)),(7,(.i6 (((ds.getD (0+(i+ys.length)) 0+c)/10000:Nat):Int))),(8,.i6 ((ys.length+1:Nat):Int))]) (h:=[some ⟨3,1,true,((aO ds).set (0+(i+ys.length)) [.i6 (((ds.getD (0+(i+ys.length)) 0+c) % 10000:Nat):Int)]),none⟩]) ?_
     · simp only[Nat.zero_add,ho,aL];omega
     · simp only[Nat.zero_add,ho]
       rw[Aa,Nat.mod_eq_of_lt hc,Nat.div_eq_of_lt hc];have h2:=hZ (b:=b10k) (xs:=ds) (j:=i+ys.length) (v:=c) (by omega);rw[ho,Nat.mul_zero,Nat.add_zero] at h2;exact fin _ _ (by omega) (by simp[hd]) (fH hdl (by rw[fb];exact hc)) (by rw[h2,hinv]) (fun t ht=>by rw[dR (by omega)];exact hz t (by omega))
 | succ j ih=>
   intro k c ds hj hk hc hd hdl hinv hz;have hy1:=bC (b:=b10k) (by decide) hy k;have ho1:=bC (b:=b10k) (by decide) hdl (i+k);have hcast:((xs.getD i 0:Nat):Int)*((ys.getD k 0:Nat):Int)=((xs.getD i 0*ys.getD k 0:Nat):Int):=by simp
   rw[fb] at hc hx1 hy1 ho1;have hm1:xs.getD i 0*ys.getD k 0<=9999*9999:=Nat.mul_le_mul (by omega) (by omega);have v2:(k:Int)<((aO ys).length:Int):=by rw[aL];omega
   refine cX (p:=(-9223372036854775808<=(i:Int)+(k:Int)/\(i:Int)+(k:Int)<=9223372036854775807)/\(((i+k:Nat):Int)<(m:Int))/\(0+(i+k)<ds.length)/\(0+(i+k)<(aO ds).length)/\(-9223372036854775808<=(ds.getD (0+(i+k)) 0:Int)+(c:Int)/\(ds.getD (0+(i+k)) 0:Int)+(c:Int)<=9223372036854775807)/\(i<xs.length)/\((i:Int)<((aO xs).length:Int))/\(k<ys.length)/\((k:Int)<((aO ys).length:Int))/\(-9223372036854775808<=(xs.getD i 0:Int)*(ys.getD k 0:Int)/\(xs.getD i 0:Int)*(ys.getD k 0:Int)<=9223372036854775807)/\(-9223372036854775808<=((ds.getD (0+(i+k)) 0+c:Nat):Int)+(((xs.getD i 0)*(ys.getD k 0):Nat):Int)/\((ds.getD (0+(i+k)) 0+c:Nat):Int)+(((xs.getD i 0)*(ys.getD k 0):Nat):Int)<=9223372036854775807)/\(((ds.getD (0+(i+k)) 0+c+(xs.getD i 0)*(ys.getD k 0):Nat):Int)<=9223372036854775807)/\(-9223372036854775808<=(k:Int)+(1:Int)/\(k:Int)+(1:Int)<=9223372036854775807)) ?_ fun⟨q0,q1,q2,q3,q4,q5,q6,q7,q8,q9,q10,q11,q12⟩=>gN lJ [0,1,5,6,7,8] [(26,tt),(35,.i6 ((i+k:Nat):Int)),(37,.i6 (ds.getD (0+(i+k)) 0:Int)),(39,.i6 ((ds.getD (0+(i+k)) 0+c:Nat):Int)),(43,tt),(47,.cptr [.i6 (xs.getD i 0:Int)] 0),(51,.cptr [.i6 (ys.getD k 0:Int)] 0),(53,.i6 (((xs.getD i 0)*(ys.getD k 0):Nat):Int)),(54,.i6 ((ds.getD (0+(i+k)) 0+c+(xs.getD i 0)*(ys.getD k 0):Nat):Int)),(58,.i6 ((i+k:Nat):Int)),(60,.i6 (((ds.getD (0+(i+k)) 0+c+(xs.getD i 0)*(ys.getD k 0)) % 10000:Nat):Int)),(63,.i6 (((ds.getD (0+(i+k)) 0+c+(xs.getD i 0)*(ys.getD k 0))/10000:Nat):Int)),(31,.i6 ((k+1:Nat):Int))] (.c6 (iT v2) (wI ((i:Int)+(k:Int)) ((i+k:Nat):Int) q0) (nn (i+k)) q1 (Ref.cd64h q2) q3 (.c6 (wI (((ds.getD (0+(i+k)) 0:Nat):Int)+(c:Int)) ((ds.getD (0+(i+k)) 0+c:Nat):Int) q4) (iT v2) (Ref.cd64 q5) (nn i) q6 (Ref.cd64 q7) (.c6 (nn k) q8 (wI (((xs.getD i 0:Nat):Int)*(ys.getD k 0:Int)) (((xs.getD i 0)*(ys.getD k 0):Nat):Int) q9) (wI (((ds.getD (0+(i+k)) 0+c:Nat):Int)+(((xs.getD i 0)*(ys.getD k 0):Nat):Int)) ((ds.getD (0+(i+k)) 0+c+(xs.getD i 0)*(ys.getD k 0):Nat):Int) q10) (wI ((i:Int)+(k:Int)) ((i+k:Nat):Int) q0) (show Ref (.i6 (((ds.getD (0+(i+k)) 0+c+(xs.getD i 0)*(ys.getD k 0):Nat):Int).tmod (10000:Int))) (.i6 (((ds.getD (0+(i+k)) 0+c+(xs.getD i 0)*(ys.getD k 0)) % 10000:Nat):Int)) from Ref.rem (a:=ds.getD (0+(i+k)) 0+c+(xs.getD i 0)*(ys.getD k 0)) (b:=10000) rfl rfl) (.c6 v0 (nn (i+k)) q1 q3 (show Ref (.i6 (IntKind.i64.wrap (((ds.getD (0+(i+k)) 0+c+(xs.getD i 0)*(ys.getD k 0):Nat):Int).tdiv (10000:Int)))) (.i6 (((ds.getD (0+(i+k)) 0+c+(xs.getD i 0)*(ys.getD k 0))/10000:Nat):Int)) from Ref.quo (a:=ds.getD (0+(i+k)) 0+c+(xs.getD i 0)*(ys.getD k 0)) (b:=10000) rfl rfl (by decide) q11) v0 (.a1 (wI ((k:Int)+(1:Int)) ((k+1:Nat):Int) q12)))))) (t:=Dq) (σ:=slots 66 [(0,.list 1 (aO xs)),(1,.list 1 (aO ys)),(5,.own 0 1 0 m),(6,.i6 (i:Int)),(7,(.i6 (((ds.getD (0+(i+k)) 0+c+(xs.getD i 0)*(ys.getD k 0))/10000:Nat):Int))),(8,.i6 ((k+1:Nat):Int))]) (h:=[some ⟨3,1,true,((aO ds).set (0+(i+k)) [.i6 (((ds.getD (0+(i+k)) 0+c+(xs.getD i 0)*(ys.getD k 0)) % 10000:Nat):Int)]),none⟩]) ?_
   · simp only[aL,Nat.zero_add,hcast]
     omega
   · rw[Aa]
     simp only[Nat.zero_add];refine ih _ _ _ (by omega) (by omega) (by rw[fb];omega) (by simp[hd]) (fH hdl (by rw[fb];omega)) ?_ (fun t ht=>by rw[dR (by omega)];exact hz t ht);have h2:=hZ (b:=b10k) (xs:=ds) (j:=i+k) (v:=(ds.getD (i+k) 0+c+xs.getD i 0*ys.getD k 0) % 10000) (by omega);rw[show i+(k+1)=i+k+1 by omega,Nat.pow_succ,aT];have h3:=Bs (b:=b10k) (V:=aJ b10k ds) (c:=c) (xy:=xs.getD i 0*ys.getD k 0) (o:=ds.getD (i+k) 0) (t:=ds.getD (i+k) 0+c+xs.getD i 0*ys.getD k 0) (by omega) h2 hinv;rw[Nat.pow_add] at h3 ⊢;exact h3.trans yV
theorem Gk {xs ys:List Nat} {m E:Nat} (hm:m=xs.length+ys.length) (hx:∀ x∈xs,x<b10k) (hy:∀ x∈ys,x<b10k) (hbig:m+2<=LIM) (hE:aJ b10k xs*aJ b10k ys<2^E):
   ∀ (j i:Nat) (ds:List Nat),j=xs.length-i->i<=xs.length->ds.length=m->(∀ x∈ds,x<b10k)->aJ b10k ds=aJ b10k (xs.take i)*aJ b10k ys->(∀ t,i+ys.length<=t->ds.getD t 0=0)->
     GF 223 S w0 (.dig (aJ b10k xs*aJ b10k ys) E) Jo ⟨slots 66 [(0,.list 1 (aO xs)),(1,.list 1 (aO ys)),(5,.own 0 1 0 m),(6,.i6 ((i:Nat):Int))],[some ⟨3,1,true,(aO ds),none⟩]⟩:=by
 intro j
 induction j with
 | zero=>
   intro i ds hj hi hd hdl hinv hz;have hi:i=xs.length:=by omega
   subst hi;rw[gO (rl _)] at hinv;have e0:((aO ds).drop 0).take m=aO ds:=by rw[List.drop_zero,gO (by rw[aL];omega)]
   refine rF lJ [(19,ff)] (.a4 (iF (show ¬ ((xs.length:Int)<((aO xs).length:Int)) by rw[aL];omega)) (show 0+m<=(aO ds).length by rw[aL];omega) (show(((aO ds).drop 0).take m)=aO (bK (((aO ds).drop 0).take m)) by rw[e0,bY]) (show ∀ x∈bK (((aO ds).drop 0).take m),x<b10k by rw[e0,bY];exact hdl)) (V:=.dig (aJ b10k (bK (((aO ds).drop 0).take m))) (14*(((aO ds).drop 0).take m).length)) ?_
   show Ref (.dig (aJ b10k (bK (((aO ds).drop 0).take m))) _) _;rw[e0,bY,hinv];exact Ref.digB hE
 | succ j ih=>
   intro i ds hj hi hd hdl hinv hz;exact gN lJ [0,1,4,5,6,7,8] [(19,tt)] (.a1 (iT (show(i:Int)<((aO xs).length:Int) by rw[aL];omega))) (Gj hm (by omega) hx hy hbig (fun D e1 e2 e3 e4=>ih (i+1) D (by omega) (by omega) e1 e2 e3 e4) _ 0 0 ds rfl (by omega) (by decide) hd hdl (by simp[aJ,hinv]) hz)
theorem OI:bO 223 OH:=fun args r ob h ho=>by
 unfold OH at h
 split at h
 · rename_i n B m C
   cases h;have hL:B+C+128<=LIM:=ho _ (by simp);unfold LIM at hL;obtain⟨hx,hxn⟩:=aQ (b:=b10k) (by decide) n;obtain⟨hy,hyn⟩:=aQ (b:=b10k) (by decide) m;refine af Tryz.f223 fun S w0=> ?_
   refine Good.diglt (n:=n) (B:=B) 0 rfl fun hn=>Good.diglt (n:=m) (B:=C) 1 rfl fun hm=> ?_
   refine Good.weak 66 [(0,.list 1 (aO (aD b10k n))),(1,.list 1 (aO (aD b10k m)))] (by kernel_rfl) (.cons Ref.opnd (.cons Ref.opnd .nil)) ?_;have l1:=hx.len10 (by rw[hxn];exact hn);have l2:=hy.len10 (by rw[hyn];exact hm);generalize aD b10k n=xs at*;generalize aD b10k m=ys at*;subst hxn;subst hyn;refine cX (p:=(-9223372036854775808<=((aO xs).length:Int)+((aO ys).length:Int)/\((aO xs).length:Int)+((aO ys).length:Int)<=9223372036854775807)/\(8*(((aO xs).length+(aO ys).length:Nat):Int)<=281474976710656)/\((((aO xs).length+(aO ys).length:Nat):Int)<=(big:Int))) (by simp only[aL];unfold big;omega) fun⟨q0,q1,q2⟩=>gN lJ [0,1,4,5,6] [(14,.i6 (((aO xs).length+(aO ys).length:Nat):Int))] (.a5 (wI ((((aO xs).length:Nat):Int)+((aO ys).length:Int)) (((aO xs).length+(aO ys).length:Nat):Int) q0) (rfl:(((aO xs).length+(aO ys).length:Nat):Int)=(((aO xs).length+(aO ys).length:Nat):Int)) (nn ((aO xs).length+(aO ys).length)) q1 q2) (t:=Jo) (σ:=slots 66 [(0,.list 1 (aO xs)),(1,.list 1 (aO ys)),(4,.nil),(5,.own 0 1 0 ((aO xs).length+(aO ys).length)),(6,.i6 (0:Int))]) (h:=[some ⟨3,1,true,(List.replicate ((aO xs).length+(aO ys).length) [.i6 (0:Int)]),none⟩]) ?_
   rw[Dl];simp only[aL];refine Good.weak 66 [(0,_),(1,_),(5,_),(6,_)] (by kernel_rfl) (.r (.r (.r (.r .nil)))) ?_;exact Gk rfl hx.1 hy.1 (by unfold LIM;omega) (vV hn hm) xs.length 0 (List.replicate (xs.length+ys.length) 0) rfl (by omega) (by simp) (nF (by decide)) (by simp[aJ,nH]) (fun t _=>Bp _ _)
 · cases h
end
def fN:=kn.cons LN
def OJ:KF
 | [.dig n B,.dig m C]=>some (.dig (n-m) B,[m<=n,B<=LIM])
 | _=>none
section
variable {S:Nat->Prop} {w0:World}
noncomputable abbrev wM:List Item:=[.code (aR [1,1,1,0,1,0,0] (aA Tryz.f293)),.inLoop (aR [1,1,1,0,1,0,0] (aA Tryz.f293)),.inBlock 0,.code (aR [1,1,1,1] (aA Tryz.f293))]
theorem Jp {xs ys:List Nat} {N B:Nat} (hx:∀ x∈xs,x<b10k) (hy:∀ x∈ys,x<b10k) (hl:ys.length<=xs.length) (hbig:xs.length+2<=LIM)
   (hN:aJ b10k xs=aJ b10k ys+N) (hB:N<2^B):∀ (j i c:Nat) (ds:List Nat),j=xs.length-i->i<=xs.length->c<=1->ds.length=i->(∀ x∈ds,x<b10k)->
   aJ b10k ds+aJ b10k (ys.take i)=aJ b10k (xs.take i)+b10k^i*c->
   GF 293 S w0 (.dig N B) wM ⟨slots 41 [(0,.list 1 (aO xs)),(1,.list 1 (aO ys)),(5,FV ds),(6,.i6 ((c:Nat):Int)),(7,.i6 ((i:Nat):Int))],FW ds⟩:=by
 have fb:b10k=10000:=rfl;unfold LIM at hbig;intro j
 induction j with
 | zero=>
   intro i c ds hj hi hc hd hdl hinv;have hi:i=xs.length:=by omega
   subst hi;have hlt:aJ b10k ds<b10k^xs.length:=by rw[<- hd];exact dY (by decide) hdl
   rw[gO hl,gO (rl _)] at hinv
   have hc0:c=0:=by
     rcases Nat.eq_zero_or_pos c with h | h
     · exact h
     · have:b10k^xs.length*1<=b10k^xs.length*c:=Nat.mul_le_mul_left _ h
       omega
   subst hc0;have hv:aJ b10k ds=N:=by omega
   have v5:¬ ((xs.length:Int)<((aO xs).length:Int)):=by rw[aL];omega
   cases ds with
   | nil=>
     refine rF fN [(12,ff),(39,.list 1 (aO []))] (.a4 (iF v5) (show Ref AV.nil (.list 1 (aO [])) from Ref.nilL) (rfl:(aO [])=aO (bK (aO []))) (show ∀ x∈bK (aO []),x<b10k by simp[bK,aO])) (V:=.dig (aJ b10k (bK (aO []))) (14*(aO []).length)) ?_
     exact Ref.dig_of hv (by simp[aO])
   | cons d ds=>
     have e0:((aO (d::ds)).drop 0).take (ds.length+1)=aO (d::ds):=by rw[List.drop_zero,gO (by rw[aL];simp)]
     refine rF fN [(12,ff)] (.a4 (iF v5) (show 0+(ds.length+1)<=(aO (d::ds)).length by rw[aL];simp) (show(((aO (d::ds)).drop 0).take (ds.length+1))=aO (bK (((aO (d::ds)).drop 0).take (ds.length+1))) by rw[e0,bY]) (show ∀ x∈bK (((aO (d::ds)).drop 0).take (ds.length+1)),x<b10k by rw[e0,bY];exact hdl)) (V:=.dig (aJ b10k (bK (((aO (d::ds)).drop 0).take (ds.length+1)))) (14*(((aO (d::ds)).drop 0).take (ds.length+1)).length)) ?_
     show Ref (.dig (aJ b10k (bK (((aO (d::ds)).drop 0).take (ds.length+1)))) _) _;rw[e0,bY,hv];intro ρ S w D v h;have h':RelCs ρ S w D [.dig N _] [v]:=h;cases h' with
     | dig xs h1 h2 h3 h4=>exact bA (.dig xs h1 h2 hB h4)
 | succ j ih=>
   intro i c ds hj hi hc hd hdl hinv;have hx1:=bC (b:=b10k) (by decide) hx i;have hy1:=bC (b:=b10k) (by decide) hy i;rw[fb] at hx1 hy1
   have nx:∀ (v c' y:Nat),y=ys.getD i 0->v<10000->c'<=1->v+y+c=xs.getD i 0+b10k*c'->
       GF 293 S w0 (.dig N B) wM ⟨slots 41 [(0,.list 1 (aO xs)),(1,.list 1 (aO ys)),(5,.own 0 1 0 (ds.length+1)),(6,.i6 ((c':Nat):Int)),(7,.i6 ((i+1:Nat):Int))],[some ⟨3,1,true,(aO (ds++ [v])),none⟩]⟩:=by
     intro v c' y hyy hv hc' he
     have:=ih (i+1) c' (ds++ [v]) (by omega) (by omega) hc' (by simp[hd]) (rE hdl hv) (by
       rw[iN,hd,aT,aT b10k xs,Nat.pow_succ, <- hyy]
       exact Br he hinv)
     rw[yT,yU] at this;exact this
   have E:∀ (e:Int) (v:Nat),e=((v:Nat):Int)->(aO ds)++ [[(AV.int .i64 e)]]=aO (ds++ [v]):=fun e v h=>by rw[h];exact vZ ds v
   have E0:ds= []->∀ (e:Int) (v:Nat),e=((v:Nat):Int)-> [[(AV.int .i64 e)]]=aO (ds++ [v]):=fun h0 e v h=>by rw[h,h0];rfl
   have v0:(i:Int)<((aO xs).length:Int):=by rw[aL];omega
   have v8:0<1:=by decide
   by_cases hyl:i<ys.length
   · have v2:(i:Int)<((aO ys).length:Int):=by rw[aL];omega
     by_cases hneg:xs.getD i 0<c+ys.getD i 0
     · have hN2:=nx (xs.getD i 0+10000-c-ys.getD i 0) 1 _ rfl (by omega) (by omega) (by rw[fb];omega)
       have v4:(((xs.getD i 0:Int)-(c:Int))-(ys.getD i 0:Int))<(0:Int):=by omega
       cases ds with
       | nil=>
         refine cX (p:=(i<xs.length)/\((i:Int)<((aO xs).length:Int))/\(-9223372036854775808<=(xs.getD i 0:Int)-(c:Int)/\(xs.getD i 0:Int)-(c:Int)<=9223372036854775807)/\(i<ys.length)/\((i:Int)<((aO ys).length:Int))/\(-9223372036854775808<=(((xs.getD i 0:Nat):Int)-(c:Int))-(ys.getD i 0:Int)/\(((xs.getD i 0:Nat):Int)-(c:Int))-(ys.getD i 0:Int)<=9223372036854775807)/\(-9223372036854775808<=(((xs.getD i 0:Int)-(c:Int))-(ys.getD i 0:Int))+(10000:Int)/\(((xs.getD i 0:Int)-(c:Int))-(ys.getD i 0:Int))+(10000:Int)<=9223372036854775807)/\(1*8<=140737488355328)/\(1<=big)/\(-9223372036854775808<=(i:Int)+(1:Int)/\(i:Int)+(1:Int)<=9223372036854775807)) (by simp only[aL];unfold big;omega) fun⟨q0,q1,q2,q3,q4,q5,q6,q7,q8,q9⟩=>gR fN none [0,1,4,5,6,7] [1] [(12,tt),(17,.cptr [.i6 (xs.getD i 0:Int)] 0),(20,.i6 (((xs.getD i 0:Nat):Int)-(c:Int))),(24,tt),(28,.cptr [.i6 (ys.getD i 0:Int)] 0),(30,.i6 (((xs.getD i 0:Int)-(c:Int))-(ys.getD i 0:Int))),(32,tt),(34,.i6 (((((xs.getD i 0:Nat):Int)-(c:Int))-(ys.getD i 0:Int))+(10000:Int))),(14,.i6 ((i+1:Nat):Int))] (.c6 (iT v0) (Ref.cd64 q0) (nn i) q1 (wI (((xs.getD i 0:Nat):Int)-(c:Int)) (((xs.getD i 0:Nat):Int)-(c:Int)) q2) (iT v2) (.c6 (Ref.cd64 q3) (nn i) q4 (wI (((xs.getD i 0:Int)-(c:Int))-(ys.getD i 0:Int)) (((xs.getD i 0:Int)-(c:Int))-(ys.getD i 0:Int)) q5) (iT v4) (wI (((((xs.getD i 0:Nat):Int)-(c:Int))-(ys.getD i 0:Int))+(10000:Int)) (((((xs.getD i 0:Nat):Int)-(c:Int))-(ys.getD i 0:Int))+(10000:Int)) q6) (.a5 r1 v8 q7 q8 (wI ((i:Int)+(1:Int)) ((i+1:Nat):Int) q9)))) (t:=wM) (σ:=slots 41 [(0,.list 1 (aO xs)),(1,.list 1 (aO ys)),(5,.own 0 1 0 1),(6,.i6 (1:Int)),(7,.i6 ((i+1:Nat):Int))]) (h:=[some ⟨3,1,true,[[.i6 (((((xs.getD i 0:Nat):Int)-(c:Int))-(ys.getD i 0:Int))+(10000:Int))]],none⟩]) ?_
         rw[E0 rfl _ (xs.getD i 0+10000-c-ys.getD i 0) (by omega)];exact hN2
       | cons d ds=>
         refine cX (p:=(i<xs.length)/\((i:Int)<((aO xs).length:Int))/\(-9223372036854775808<=(xs.getD i 0:Int)-(c:Int)/\(xs.getD i 0:Int)-(c:Int)<=9223372036854775807)/\(i<ys.length)/\((i:Int)<((aO ys).length:Int))/\(-9223372036854775808<=(((xs.getD i 0:Nat):Int)-(c:Int))-(ys.getD i 0:Int)/\(((xs.getD i 0:Nat):Int)-(c:Int))-(ys.getD i 0:Int)<=9223372036854775807)/\(-9223372036854775808<=(((xs.getD i 0:Int)-(c:Int))-(ys.getD i 0:Int))+(10000:Int)/\(((xs.getD i 0:Int)-(c:Int))-(ys.getD i 0:Int))+(10000:Int)<=9223372036854775807)/\((ds.length+1)=(aO (d::ds)).length)/\(((ds.length+1)+1)*8<=140737488355328)/\((ds.length+1)+1<=big)/\(-9223372036854775808<=(i:Int)+(1:Int)/\(i:Int)+(1:Int)<=9223372036854775807)) (by simp only[aL,List.length_cons,true_and] at hd ⊢;unfold big;omega) fun⟨q0,q1,q2,q3,q4,q5,q6,q7,q8,q9,q10⟩=>gR fN none [0,1,4,5,6,7] [2] [(12,tt),(17,.cptr [.i6 (xs.getD i 0:Int)] 0),(20,.i6 (((xs.getD i 0:Nat):Int)-(c:Int))),(24,tt),(28,.cptr [.i6 (ys.getD i 0:Int)] 0),(30,.i6 (((xs.getD i 0:Int)-(c:Int))-(ys.getD i 0:Int))),(32,tt),(34,.i6 (((((xs.getD i 0:Nat):Int)-(c:Int))-(ys.getD i 0:Int))+(10000:Int))),(14,.i6 ((i+1:Nat):Int))] (.c6 (iT v0) (Ref.cd64 q0) (nn i) q1 (wI (((xs.getD i 0:Nat):Int)-(c:Int)) (((xs.getD i 0:Nat):Int)-(c:Int)) q2) (iT v2) (.c6 (Ref.cd64 q3) (nn i) q4 (wI (((xs.getD i 0:Int)-(c:Int))-(ys.getD i 0:Int)) (((xs.getD i 0:Int)-(c:Int))-(ys.getD i 0:Int)) q5) (iT v4) (wI (((((xs.getD i 0:Nat):Int)-(c:Int))-(ys.getD i 0:Int))+(10000:Int)) (((((xs.getD i 0:Nat):Int)-(c:Int))-(ys.getD i 0:Int))+(10000:Int)) q6) (.a5 r1 q7 q8 q9 (wI ((i:Int)+(1:Int)) ((i+1:Nat):Int) q10)))) (t:=wM) (σ:=slots 41 [(0,.list 1 (aO xs)),(1,.list 1 (aO ys)),(5,.own 0 1 0 ((ds.length+1)+1)),(6,.i6 (1:Int)),(7,.i6 ((i+1:Nat):Int))]) (h:=[some ⟨3,1,true,((aO (d::ds))++ [[(AV.int .i64 (((((xs.getD i 0:Nat):Int)-(c:Int))-(ys.getD i 0:Int))+(10000:Int)))]]),none⟩]) ?_
         rw[E _ (xs.getD i 0+10000-c-ys.getD i 0) (by omega)];exact hN2
     · have hN2:=nx (xs.getD i 0-c-ys.getD i 0) 0 _ rfl (by omega) (by omega) (by rw[fb];omega)
       have v3:¬ (((((xs.getD i 0:Nat):Int)-(c:Int))-(ys.getD i 0:Int))<(0:Int)):=by omega
       cases ds with
       | nil=>
         refine cX (p:=(i<xs.length)/\((i:Int)<((aO xs).length:Int))/\(-9223372036854775808<=(xs.getD i 0:Int)-(c:Int)/\(xs.getD i 0:Int)-(c:Int)<=9223372036854775807)/\(i<ys.length)/\((i:Int)<((aO ys).length:Int))/\(-9223372036854775808<=(((xs.getD i 0:Nat):Int)-(c:Int))-(ys.getD i 0:Int)/\(((xs.getD i 0:Nat):Int)-(c:Int))-(ys.getD i 0:Int)<=9223372036854775807)/\(1*8<=140737488355328)/\(1<=big)/\(-9223372036854775808<=(i:Int)+(1:Int)/\(i:Int)+(1:Int)<=9223372036854775807)) (by simp only[aL];unfold big;omega) fun⟨q0,q1,q2,q3,q4,q5,q6,q7,q8⟩=>gR fN none [0,1,4,5,6,7] [1] [(12,tt),(17,.cptr [.i6 (xs.getD i 0:Int)] 0),(20,.i6 (((xs.getD i 0:Nat):Int)-(c:Int))),(24,tt),(28,.cptr [.i6 (ys.getD i 0:Int)] 0),(30,.i6 (((xs.getD i 0:Int)-(c:Int))-(ys.getD i 0:Int))),(32,ff),(14,.i6 ((i+1:Nat):Int))] (.c6 (iT v0) (Ref.cd64 q0) (nn i) q1 (wI (((xs.getD i 0:Nat):Int)-(c:Int)) (((xs.getD i 0:Nat):Int)-(c:Int)) q2) (iT v2) (.c6 (Ref.cd64 q3) (nn i) q4 (wI (((xs.getD i 0:Int)-(c:Int))-(ys.getD i 0:Int)) (((xs.getD i 0:Int)-(c:Int))-(ys.getD i 0:Int)) q5) (iF v3) r1 (.a4 v8 q6 q7 (wI ((i:Int)+(1:Int)) ((i+1:Nat):Int) q8)))) (t:=wM) (σ:=slots 41 [(0,.list 1 (aO xs)),(1,.list 1 (aO ys)),(5,.own 0 1 0 1),(6,.i6 (0:Int)),(7,.i6 ((i+1:Nat):Int))]) (h:=[some ⟨3,1,true,[[.i6 (((xs.getD i 0:Int)-(c:Int))-(ys.getD i 0:Int))]],none⟩]) ?_
         rw[E0 rfl _ (xs.getD i 0-c-ys.getD i 0) (by omega)];exact hN2
       | cons d ds=>
         refine cX (p:=(i<xs.length)/\((i:Int)<((aO xs).length:Int))/\(-9223372036854775808<=(xs.getD i 0:Int)-(c:Int)/\(xs.getD i 0:Int)-(c:Int)<=9223372036854775807)/\(i<ys.length)/\((i:Int)<((aO ys).length:Int))/\(-9223372036854775808<=(((xs.getD i 0:Nat):Int)-(c:Int))-(ys.getD i 0:Int)/\(((xs.getD i 0:Nat):Int)-(c:Int))-(ys.getD i 0:Int)<=9223372036854775807)/\((ds.length+1)=(aO (d::ds)).length)/\(((ds.length+1)+1)*8<=140737488355328)/\((ds.length+1)+1<=big)/\(-9223372036854775808<=(i:Int)+(1:Int)/\(i:Int)+(1:Int)<=9223372036854775807)) (by simp only[aL,List.length_cons,true_and] at hd ⊢;unfold big;omega) fun⟨q0,q1,q2,q3,q4,q5,q6,q7,q8,q9⟩=>gR fN none [0,1,4,5,6,7] [2] [(12,tt),(17,.cptr [.i6 (xs.getD i 0:Int)] 0),(20,.i6 (((xs.getD i 0:Nat):Int)-(c:Int))),(24,tt),(28,.cptr [.i6 (ys.getD i 0:Int)] 0),(30,.i6 (((xs.getD i 0:Int)-(c:Int))-(ys.getD i 0:Int))),(32,ff),(14,.i6 ((i+1:Nat):Int))] (.c6 (iT v0) (Ref.cd64 q0) (nn i) q1 (wI (((xs.getD i 0:Nat):Int)-(c:Int)) (((xs.getD i 0:Nat):Int)-(c:Int)) q2) (iT v2) (.c6 (Ref.cd64 q3) (nn i) q4 (wI (((xs.getD i 0:Int)-(c:Int))-(ys.getD i 0:Int)) (((xs.getD i 0:Int)-(c:Int))-(ys.getD i 0:Int)) q5) (iF v3) r1 (.a4 q6 q7 q8 (wI ((i:Int)+(1:Int)) ((i+1:Nat):Int) q9)))) (t:=wM) (σ:=slots 41 [(0,.list 1 (aO xs)),(1,.list 1 (aO ys)),(5,.own 0 1 0 ((ds.length+1)+1)),(6,.i6 (0:Int)),(7,.i6 ((i+1:Nat):Int))]) (h:=[some ⟨3,1,true,((aO (d::ds))++ [[(AV.int .i64 (((xs.getD i 0:Int)-(c:Int))-(ys.getD i 0:Int)))]]),none⟩]) ?_
         rw[E _ (xs.getD i 0-c-ys.getD i 0) (by omega)];exact hN2
   · have hz:0=ys.getD i 0:=by simp[nG,Nat.le_of_not_lt hyl]
     have v1:¬ ((i:Int)<((aO ys).length:Int)):=by rw[aL];omega
     by_cases hneg:xs.getD i 0<c
     · have hN2:=nx (xs.getD i 0+10000-c) 1 0 hz (by omega) (by omega) (by rw[fb];omega)
       have v6:(((xs.getD i 0:Nat):Int)-(c:Int))<(0:Int):=by omega
       cases ds with
       | nil=>
         refine cX (p:=(i<xs.length)/\((i:Int)<((aO xs).length:Int))/\(-9223372036854775808<=(xs.getD i 0:Int)-(c:Int)/\(xs.getD i 0:Int)-(c:Int)<=9223372036854775807)/\(-9223372036854775808<=(((xs.getD i 0:Nat):Int)-(c:Int))+(10000:Int)/\(((xs.getD i 0:Nat):Int)-(c:Int))+(10000:Int)<=9223372036854775807)/\(1*8<=140737488355328)/\(1<=big)/\(-9223372036854775808<=(i:Int)+(1:Int)/\(i:Int)+(1:Int)<=9223372036854775807)) (by simp only[aL];unfold big;omega) fun⟨q0,q1,q2,q3,q4,q5,q6⟩=>gR fN none [0,1,4,5,6,7] [1] [(12,tt),(17,.cptr [.i6 (xs.getD i 0:Int)] 0),(20,.i6 (((xs.getD i 0:Nat):Int)-(c:Int))),(24,ff),(32,tt),(34,.i6 (((xs.getD i 0:Int)-(c:Int))+(10000:Int))),(14,.i6 ((i+1:Nat):Int))] (.c6 (iT v0) (Ref.cd64 q0) (nn i) q1 (wI (((xs.getD i 0:Nat):Int)-(c:Int)) (((xs.getD i 0:Nat):Int)-(c:Int)) q2) (iF v1) (.c6 (iT v6) (wI (((xs.getD i 0:Int)-(c:Int))+(10000:Int)) (((xs.getD i 0:Int)-(c:Int))+(10000:Int)) q3) r1 v8 q4 q5 (.a1 (wI ((i:Int)+(1:Int)) ((i+1:Nat):Int) q6)))) (t:=wM) (σ:=slots 41 [(0,.list 1 (aO xs)),(1,.list 1 (aO ys)),(5,.own 0 1 0 1),(6,.i6 (1:Int)),(7,.i6 ((i+1:Nat):Int))]) (h:=[some ⟨3,1,true,[[.i6 (((xs.getD i 0:Int)-(c:Int))+(10000:Int))]],none⟩]) ?_
         rw[E0 rfl _ (xs.getD i 0+10000-c) (by omega)];exact hN2
       | cons d ds=>
         refine cX (p:=(i<xs.length)/\((i:Int)<((aO xs).length:Int))/\(-9223372036854775808<=(xs.getD i 0:Int)-(c:Int)/\(xs.getD i 0:Int)-(c:Int)<=9223372036854775807)/\(-9223372036854775808<=(((xs.getD i 0:Nat):Int)-(c:Int))+(10000:Int)/\(((xs.getD i 0:Nat):Int)-(c:Int))+(10000:Int)<=9223372036854775807)/\((ds.length+1)=(aO (d::ds)).length)/\(((ds.length+1)+1)*8<=140737488355328)/\((ds.length+1)+1<=big)/\(-9223372036854775808<=(i:Int)+(1:Int)/\(i:Int)+(1:Int)<=9223372036854775807)) (by simp only[aL,List.length_cons,true_and] at hd ⊢;unfold big;omega) fun⟨q0,q1,q2,q3,q4,q5,q6,q7⟩=>gR fN none [0,1,4,5,6,7] [2] [(12,tt),(17,.cptr [.i6 (xs.getD i 0:Int)] 0),(20,.i6 (((xs.getD i 0:Nat):Int)-(c:Int))),(24,ff),(32,tt),(34,.i6 (((xs.getD i 0:Int)-(c:Int))+(10000:Int))),(14,.i6 ((i+1:Nat):Int))] (.c6 (iT v0) (Ref.cd64 q0) (nn i) q1 (wI (((xs.getD i 0:Nat):Int)-(c:Int)) (((xs.getD i 0:Nat):Int)-(c:Int)) q2) (iF v1) (.c6 (iT v6) (wI (((xs.getD i 0:Int)-(c:Int))+(10000:Int)) (((xs.getD i 0:Int)-(c:Int))+(10000:Int)) q3) r1 q4 q5 q6 (.a1 (wI ((i:Int)+(1:Int)) ((i+1:Nat):Int) q7)))) (t:=wM) (σ:=slots 41 [(0,.list 1 (aO xs)),(1,.list 1 (aO ys)),(5,.own 0 1 0 ((ds.length+1)+1)),(6,.i6 (1:Int)),(7,.i6 ((i+1:Nat):Int))]) (h:=[some ⟨3,1,true,((aO (d::ds))++ [[(AV.int .i64 (((xs.getD i 0:Int)-(c:Int))+(10000:Int)))]]),none⟩]) ?_
         rw[E _ (xs.getD i 0+10000-c) (by omega)];exact hN2
     · have hN2:=nx (xs.getD i 0-c) 0 0 hz (by omega) (by omega) (by rw[fb];omega)
       have v7:¬ (((xs.getD i 0:Int)-(c:Int))<(0:Int)):=by omega
       cases ds with
       | nil=>
         refine cX (p:=(i<xs.length)/\((i:Int)<((aO xs).length:Int))/\(-9223372036854775808<=(xs.getD i 0:Int)-(c:Int)/\(xs.getD i 0:Int)-(c:Int)<=9223372036854775807)/\(1*8<=140737488355328)/\(1<=big)/\(-9223372036854775808<=(i:Int)+(1:Int)/\(i:Int)+(1:Int)<=9223372036854775807)) (by simp only[aL];unfold big;omega) fun⟨q0,q1,q2,q3,q4,q5⟩=>gR fN none [0,1,4,5,6,7] [1] [(12,tt),(17,.cptr [.i6 (xs.getD i 0:Int)] 0),(20,.i6 (((xs.getD i 0:Nat):Int)-(c:Int))),(24,ff),(32,ff),(14,.i6 ((i+1:Nat):Int))] (.c6 (iT v0) (Ref.cd64 q0) (nn i) q1 (wI (((xs.getD i 0:Nat):Int)-(c:Int)) (((xs.getD i 0:Nat):Int)-(c:Int)) q2) (iF v1) (.a6 (iF v7) r1 v8 q3 q4 (wI ((i:Int)+(1:Int)) ((i+1:Nat):Int) q5))) (t:=wM) (σ:=slots 41 [(0,.list 1 (aO xs)),(1,.list 1 (aO ys)),(5,.own 0 1 0 1),(6,.i6 (0:Int)),(7,.i6 ((i+1:Nat):Int))]) (h:=[some ⟨3,1,true,[[.i6 (((xs.getD i 0:Nat):Int)-(c:Int))]],none⟩]) ?_
         rw[E0 rfl _ (xs.getD i 0-c) (by omega)];exact hN2
       | cons d ds=>
         refine cX (p:=(i<xs.length)/\((i:Int)<((aO xs).length:Int))/\(-9223372036854775808<=(xs.getD i 0:Int)-(c:Int)/\(xs.getD i 0:Int)-(c:Int)<=9223372036854775807)/\((ds.length+1)=(aO (d::ds)).length)/\(((ds.length+1)+1)*8<=140737488355328)/\((ds.length+1)+1<=big)/\(-9223372036854775808<=(i:Int)+(1:Int)/\(i:Int)+(1:Int)<=9223372036854775807)) (by simp only[aL,List.length_cons,true_and] at hd ⊢;unfold big;omega) fun⟨q0,q1,q2,q3,q4,q5,q6⟩=>gR fN none [0,1,4,5,6,7] [2] [(12,tt),(17,.cptr [.i6 (xs.getD i 0:Int)] 0),(20,.i6 (((xs.getD i 0:Nat):Int)-(c:Int))),(24,ff),(32,ff),(14,.i6 ((i+1:Nat):Int))] (.c6 (iT v0) (Ref.cd64 q0) (nn i) q1 (wI (((xs.getD i 0:Nat):Int)-(c:Int)) (((xs.getD i 0:Nat):Int)-(c:Int)) q2) (iF v1) (.a6 (iF v7) r1 q3 q4 q5 (wI ((i:Int)+(1:Int)) ((i+1:Nat):Int) q6))) (t:=wM) (σ:=slots 41 [(0,.list 1 (aO xs)),(1,.list 1 (aO ys)),(5,.own 0 1 0 ((ds.length+1)+1)),(6,.i6 (0:Int)),(7,.i6 ((i+1:Nat):Int))]) (h:=[some ⟨3,1,true,((aO (d::ds))++ [[(AV.int .i64 (((xs.getD i 0:Nat):Int)-(c:Int)))]]),none⟩]) ?_
         rw[E _ (xs.getD i 0-c) (by omega)];exact hN2
theorem LO:bO 293 OJ:=fun args r ob h ho=>by
 unfold OJ at h
 split at h
 · rename_i n B m C
   cases h;have hmn:m<=n:=ho _ (by simp);have hL:B<=LIM:=ho _ (by simp);unfold LIM at hL;obtain⟨hx,hxn⟩:=aQ (b:=b10k) (by decide) n;obtain⟨hy,hyn⟩:=aQ (b:=b10k) (by decide) m;refine af Tryz.f293 fun S w0=> ?_
   refine Good.fact (V:=.dig n B) (p:=n<2^B) 0 rfl rfl (fun ρ S w D v hv=>qY (show RelCs ρ S w D [.dig n B] [v] from hv)) fun hn=> ?_
   refine Good.weak 41 [(0,.list 1 (aO (aD b10k n))),(1,.list 1 (aO (aD b10k m)))] (by kernel_rfl) (.cons Ref.opnd (.cons Ref.opnd .nil)) ?_;have l1:=hx.len10 (by rw[hxn];exact hn);generalize aD b10k n=xs at*;generalize aD b10k m=ys at*;subst hxn;subst hyn
   have hlen:ys.length<=xs.length:=by
     rcases Nat.lt_or_ge xs.length ys.length with h | h
     · have:=eI (by decide) hx hy h;omega
     · exact h
   refine gN fN [0,1,4,5,6,7] [] .nil (t:=wM) (σ:=slots 41 [(0,.list 1 (aO xs)),(1,.list 1 (aO ys)),(4,.nil),(5,.nil),(6,.i6 (0:Int)),(7,.i6 (0:Int))]) (h:=[]) ?_
   refine Good.weak 41 [(0,_),(1,_),(5,_),(6,_),(7,_)] (by kernel_rfl) (.r (.r (.r (.r (.r .nil))))) ?_;exact Jp hx.1 hy.1 hlen (by unfold LIM;omega) (by omega) (by omega) _ 0 0 [] rfl (by omega) (by omega) rfl (by simp) (by simp[aJ])
 · cases h
end
def wN:=kn
def OK:KF
 | [.list 1 X,.int .i64 f]=>some (.int .i64 ((aJ b10k ((bK X).drop f.toNat):Nat):Int),[0<=f,X=aO (bK X),∀ x∈bK X,x<b10k,f.toNat<=(bK X).length,(bK X).length<=f.toNat+4])
 | _=>none
section
variable {S:Nat->Prop} {w0:World}
noncomputable abbrev LP:List Item:=[.code (aR [1,1,0,1,0,0] (aA Tryz.f297)),.inLoop (aR [1,1,0,1,0,0] (aA Tryz.f297)),.inBlock 0,.code (aR [1,1,1] (aA Tryz.f297))]
theorem Jq {xs:List Nat} {f:Nat} (hx:∀ x∈xs,x<b10k) (hf:f<=xs.length) (hl:xs.length<=f+4) (hb:xs.length<=big):∀ (j k v:Nat),k=f+j->k<=xs.length->v=aJ b10k (xs.drop k)->
   GF 297 S w0 (.i6 ((aJ b10k (xs.drop f):Nat):Int)) LP ⟨slots 23 [(0,.list 1 (aO xs)),(1,.i6 ((f:Nat):Int)),(5,.i6 ((v:Nat):Int)),(6,(.i6 (((k:Nat):Int)-1)))],[]⟩:=by
 unfold big at hb;intro j
 induction j with
 | zero=>
   intro k v hj hk hv;have hk:k=f:=by omega
   subst hk;refine rF wN [(12,ff)] (.a1 (iF (om (¬ ((k:Int)<=((k:Int)-1)))))) (V:=.i6 (v:Int)) (Ref.nat_eq hv)
 | succ j ih=>
   intro k v hj hk hv;obtain⟨i,rfl⟩:∃ i,k=i+1:=⟨k-1,by omega⟩;rw[show(((i+1:Nat):Int)-1)=((i:Nat):Int) by omega];have hx1:=bC (b:=b10k) (by decide) hx i
   have hv3:v<1000000000000:=by
     have h1:=dY (b:=b10k) (by decide) (xs:=xs.drop (i+1)) (fun x h=>hx x (List.mem_of_mem_drop h));have h2:b10k^(xs.drop (i+1)).length<=b10k^3:=Nat.pow_le_pow_right (by decide) (by rw[List.length_drop];omega);have h3:b10k^3=1000000000000:=by decide
     omega
   unfold b10k at hx1;refine gN wN [0,1,4,5,6] [(12,tt),(16,.i6 ((v*10000:Nat):Int)),(19,.cptr [.i6 (xs.getD i 0:Int)] 0),(21,.i6 ((xs.getD i 0+10000*v:Nat):Int)),(14,.i6 ((i:Int)-(1:Int)))] (.c6 (iT (om ((f:Int)<=(i:Int)))) (wI ((v:Int)*(10000:Int)) ((v*10000:Nat):Int)) (show Ref (.cptr ((aO xs).getD i []) 0) (.cptr [.i6 (xs.getD i 0:Int)] 0) from Ref.cd64 ((om (i<xs.length)))) (nn i) (show(i:Int)<((aO xs).length:Int) by rw[aL];omega) (show Ref (.i6 (IntKind.i64.wrap (((v*10000:Nat):Int)+(xs.getD i 0:Int)))) (.i6 ((xs.getD i 0+10000*v:Nat):Int)) from Ref.wrI (by omega) (by omega)) (.a1 (wI ((i:Int)-(1:Int)) ((i:Int)-(1:Int))))) (t:=LP) (σ:=slots 23 [(0,.list 1 (aO xs)),(1,.i6 (f:Int)),(5,.i6 ((xs.getD i 0+10000*v:Nat):Int)),(6,.i6 ((i:Int)-(1:Int)))]) (h:=[]) ?_
   refine ih i _ (by omega) (by omega) ?_;rw[cK (by omega:i<xs.length),hv];rfl
theorem Sq:bO 297 OK:=fun args r ob h ho=>by
 unfold OK at h
 split at h
 · rename_i X f
   cases h;have h0:0<=f:=ho _ (by simp);have h1:X=aO (bK X):=ho _ (by simp);have h2:∀ x∈bK X,x<b10k:=ho _ (by simp);have h3:f.toNat<=(bK X).length:=ho _ (by simp);have h4:(bK X).length<=f.toNat+4:=ho _ (by simp);obtain⟨f,rfl⟩:=Int.eq_ofNat_of_zero_le h0;replace h3:f<=(bK X).length:=h3;replace h4:(bK X).length<=f+4:=h4;generalize bK X=xs at*;subst h1;refine af Tryz.f297 fun S w0=> ?_
   show Good _ _ _ _ _ (eN S w0 (.i6 ((aJ b10k (xs.drop f):Nat):Int))) _ _;have e:kY [AV.list 1 (aO xs),.i6 ((f:Nat):Int)] Tryz.f297.ntmps=⟨slots 23 [(0,.list 1 (aO xs)),(1,.i6 ((f:Nat):Int))],[]⟩:=by kernel_rfl
   rw[e];refine Good.len 0 (e:=1) (xs:=aO xs) (by rfl) fun hb=> ?_
   rw[aL] at hb;refine gN wN [0,1,4,5,6] [(9,.i6 ((((aO xs).length:Nat):Int)-(1:Int)))] (.a1 (wI ((((aO xs).length:Nat):Int)-(1:Int)) ((((aO xs).length:Nat):Int)-(1:Int)) (by rw[aL];unfold big at hb;omega))) (t:=LP) (σ:=slots 23 [(0,.list 1 (aO xs)),(1,.i6 (f:Int)),(4,.i6 (0:Int)),(5,.i6 (0:Int)),(6,(.i6 ((((aO xs).length:Nat):Int)-(1:Int))))]) (h:=[]) ?_
   refine Good.weak 23 [(0,_),(1,_),(5,_),(6,_)] (by kernel_rfl) (.r (.r (.r (.r .nil)))) ?_;rw[aL];exact Jq h2 h3 h4 hb (xs.length-f) xs.length 0 (by omega) (by omega) (by rw[List.drop_length];rfl)
 · cases h
end
def kK:=(((((kn.cons Sq).cons LO).cons LN).cons OI).cons LL).cons CC
def OL:KF
 | [.dig n B,.dig m C]=>some (.tup [.dig (n/m) B,.dig (n % m) C],[0<m,B+C+300<=LIM])
 | _=>none
theorem CD (x:Nat) (rs:List Nat):(([[(AV.int .i64 ((x:Nat):Int))]]++(aO rs)).drop 0).take (1+((aO rs).length))=aO (x::rs):=by
 rw[List.drop_zero,gO (by simp;omega)];rfl
theorem EE {t m A Bv P K:Nat} (hA:A*P<=t) (hm:m<(Bv+1)*P) (hK:K=A/(Bv+1)):m*K<=t:=by
 have h1:K*(Bv+1)<=A:=by rw[hK];exact Nat.div_mul_le_self _ _
 have h2:=Nat.mul_le_mul_right P h1;have h3:m*K<=(Bv+1)*P*K:=Nat.mul_le_mul_right K (Nat.le_of_lt hm);have e:(Bv+1)*P*K=K*(Bv+1)*P:=by rw[Nat.mul_comm _ K,Nat.mul_assoc]
 omega
section
variable {S:Nat->Prop} {w0:World}
noncomputable abbrev Jr:List Item:=[.code (aR [1,1,1,0,1,0,0] (aA Tryz.f260)),.inLoop (aR [1,1,1,0,1,0,0] (aA Tryz.f260)),.inBlock 0,.code (aR [1,1,1,1] (aA Tryz.f260))]
noncomputable abbrev BA:List Item:=[.code (aR [1,1,1,0,1,0,0,1,0,0,1,1,1,1,0,0,0] (aA Tryz.f260)),.inLoop (aR [1,1,1,0,1,0,0,1,0,0,1,1,1,1,0,0,0] (aA Tryz.f260)),.inBlock 2,.code (aR [1,1,1,0,1,0,0,1,0,0,1,1,1,1,1] (aA Tryz.f260)),.inBlock 1,.code (aR [1,1,1,0,1,0,0,1,1] (aA Tryz.f260)),.inLoop (aR [1,1,1,0,1,0,0] (aA Tryz.f260)),.inBlock 0,.code (aR [1,1,1,1] (aA Tryz.f260))]
variable {Post:Value->World->Prop}
theorem Gl {xs ys qs:List Nat} {t m C F l j:Nat} (hy:Dig b10k ys) (hym:aJ b10k ys=m) (hm:m<2^C) (hm0:0<m) (ht:t<10000*m) (hF:F<=LIM) (hl:l=qs.length) (hj:j<l) (hlL:l<=LIM)
   (next:Good Tryz.prog 260 S No w0 Post Jr ⟨slots 76 [(0,.list 1 (aO xs)),(1,.list 1 (aO ys)),(6,.dig (t % m) C),(7,.own 0 1 0 l),(8,(.i6 (((j:Nat):Int)-(1:Int))))],[some ⟨3,1,true,(aO (qs.set j (t/m))),none⟩]⟩):
   ∀ (f r k:Nat),r<=f->t=k*m+r->
   Good Tryz.prog 260 S No w0 Post BA ⟨slots 76 [(0,.list 1 (aO xs)),(1,.list 1 (aO ys)),(6,.dig r F),(7,.own 0 1 0 l),(8,.i6 ((j:Nat):Int)),(9,.i6 ((k:Nat):Int))],[some ⟨3,1,true,(aO qs),none⟩]⟩:=by
 unfold LIM at hlL;have v0:Ref (.list 1 (aO ys)) (.dig m C):=Ref.dig hy hym hm
 have last:∀ r k,r<m->t=k*m+r->Good Tryz.prog 260 S No w0 Post BA ⟨slots 76 [(0,.list 1 (aO xs)),(1,.list 1 (aO ys)),(6,.dig r F),(7,.own 0 1 0 l),(8,.i6 ((j:Nat):Int)),(9,.i6 ((k:Nat):Int))],[some ⟨3,1,true,(aO qs),none⟩]⟩:=by
   intro r k hr he;obtain⟨q1,q2⟩:=oY he hr;refine gR kK none [0,1,4,5,6,7,8,9] [0] [(61,.dig m C),(63,ff),(19,.i6 ((j:Int)-(1:Int)))] (.a6 v0 (show Ref (.bool (decide ((0:Int)<=(fL r m)))) (.bool false) from Ref.bool (decide_eq_false (fun h=>by have:=bR.1 h;omega))) (nn j) (om ((j:Int)<(l:Int))) (show 0+j<(aO qs).length by rw[aL];omega) (wI ((j:Int)-(1:Int)) ((j:Int)-(1:Int)))) (t:=Jr) (σ:=slots 76 [(0,.list 1 (aO xs)),(1,.list 1 (aO ys)),(6,.dig r F),(7,.own 0 1 0 l),(8,.i6 ((j:Int)-(1:Int))),(9,.i6 (k:Int))]) (h:=[some ⟨3,1,true,((aO qs).set (0+j) [.i6 (k:Int)]),none⟩]) ?_
   rw[Aa,Nat.zero_add, <- q1];refine Good.weak 76 [(0,_),(1,_),(6,.dig (t % m) C),(7,_),(8,_)] (by kernel_rfl) (.r (.r (.cons ?_ (.r (.r .nil))))) next;rw[q2];exact Ref.digB (by omega)
 intro f
 induction f with
 | zero=>
   intro r k hf he;exact last r k (by omega) he
 | succ f ih=>
   intro r k hf he
   by_cases h:r<m
   · exact last r k h he
   · have hk:k<10000:=by
       rcases Nat.lt_or_ge k 10000 with h | h
       · exact h
       · have:=Nat.mul_le_mul_right m h;omega
     exact gR kK none [0,1,4,5,6,7,8,9] [0] [(61,.dig m C),(63,tt),(65,.dig m C),(68,.i6 ((k+1:Nat):Int))] (.a6 v0 (show Ref (.bool (decide ((0:Int)<=(fL r m)))) (.bool true) from Ref.bool (decide_eq_true (bR.2 (by omega)))) v0 (om (m<=r)) hF (wI ((k:Int)+(1:Int)) ((k+1:Nat):Int))) (ih (r-m) (k+1) (by omega) (by rw[Nat.add_mul,Nat.one_mul];omega))
theorem Js {xs ys:List Nat} {m B C:Nat} (hx:∀ x∈xs,x<b10k) (hy:Dig b10k ys) (hym:aJ b10k ys=m) (hm:m<2^C) (hm0:0<m) (hL:B+C+300<=LIM) (hxl:13*xs.length<=B+12) (hn:aJ b10k xs<2^B):
   ∀ (k r:Nat) (qs:List Nat),k<=xs.length->r<m->qs.length=xs.length->(∀ x∈qs,x<b10k)->aJ b10k (xs.drop k)=aJ b10k (qs.drop k)*m+r->
   GF 260 S w0 (.tup [.dig (aJ b10k xs/m) B,.dig (aJ b10k xs % m) C]) Jr ⟨slots 76 [(0,.list 1 (aO xs)),(1,.list 1 (aO ys)),(6,.dig r C),(7,.own 0 1 0 xs.length),(8,(.i6 (((k:Nat):Int)-(1:Int))))],[some ⟨3,1,true,(aO qs),none⟩]⟩:=by
 have fb:b10k=10000:=rfl;have hyl:=hy.len10 (B:=C) (by rw[hym];exact hm);unfold LIM at hL;intro k
 induction k with
 | zero=>
   intro r qs hk hr hql hqd hinv;rw[show(((0:Nat):Int)-(1:Int))= -1 from rfl];simp only[List.drop_zero] at hinv;obtain⟨q1,q2⟩:=oY hinv hr;have e0:((aO qs).drop 0).take xs.length=aO qs:=by rw[List.drop_zero,gO (by rw[aL];omega)]
   refine rF kK [] (.a3 (show 0+xs.length<=(aO qs).length by rw[aL];omega) (show(((aO qs).drop 0).take xs.length)=aO (bK (((aO qs).drop 0).take xs.length)) by rw[e0,bY]) (show ∀ x∈bK (((aO qs).drop 0).take xs.length),x<b10k by rw[e0,bY];exact hqd)) (V:=.tup [.dig (aJ b10k (bK (((aO qs).drop 0).take xs.length))) (14*(((aO qs).drop 0).take xs.length).length),AV.dig r C]) ?_
   rw[e0,bY,q1,q2];refine Ref.tup2 (Ref.digB ?_) rr rfl rfl rfl rfl
   have:=Nat.div_le_self (aJ b10k xs) m;omega
 | succ j ih=>
   intro r qs hk hr hql hqd hinv;rw[show(((j+1:Nat):Int)-(1:Int))=((j:Nat):Int) by omega];have hx1:=bC (b:=b10k) (by decide) hx j;obtain⟨hrd,hrv⟩:=aQ (b:=b10k) (by decide) r;have hrl:=hrd.len10 (B:=C) (by rw[hrv];omega);obtain⟨t,ht⟩:∃ t,t=xs.getD j 0+10000*r:=⟨_,rfl⟩;have htm:t<10000*m:=by rw[fb] at hx1;omega
   have hval:aJ b10k (xs.getD j 0::aD b10k r)=t:=by rw[aJ,hrv,ht,fb]
   have hxr:∀ x∈xs.getD j 0::aD b10k r,x<b10k:=by
     intro x hx';rcases List.mem_cons.1 hx' with rfl | h
     · exact hx1
     · exact hrd.1 x h
   obtain⟨htd,htv⟩:=aQ (b:=b10k) (by decide) t;have hmlen:m<b10k^ys.length:=by rw[<- hym];exact dY (by decide) hy.1
   have htl:(aD b10k t).length<=ys.length+1:=gF (by decide) (by rw[Nat.pow_succ,Nat.mul_comm];exact Nat.lt_of_lt_of_le htm (Nat.mul_le_mul_left 10000 (Nat.le_of_lt hmlen)))
   have htF:t<2^(C+14):=by
     rw[Nat.pow_add,Nat.mul_comm];have:10000*m<=2^14*2^C:=Nat.mul_le_mul (by decide) (Nat.le_of_lt hm);omega
   have hys:Ref (AV.list 1 (aO ys)) (AV.dig m C):=Ref.dig hy hym hm;have hts:Ref (AV.list 1 (aO (aD b10k t))) (AV.dig t (C+14)):=Ref.dig htd htv htF
   have hfin:=Gl (S:=S) (w0:=w0) (Post:=eN S w0 (.tup [.dig (aJ b10k xs/m) B,.dig (aJ b10k xs % m) C])) (xs:=xs) (qs:=qs) (F:=C+14) (l:=xs.length) (j:=j) hy hym hm hm0 htm (by unfold LIM;omega) hql.symm (by omega) (by unfold LIM;omega)
     (ih (t % m) _ (by omega) (Nat.mod_lt _ hm0) (by simp[hql]) (fH hqd (by rw[fb];rw[Nat.div_lt_iff_lt_mul hm0];exact htm)) (by
       rw[cK (by omega:j<xs.length),cK (by simp;omega:j<(qs.set j (t/m)).length),dM (by omega),nI (by omega)];refine wG hinv ?_
       rw[Nat.div_add_mod,ht,fb];omega))
   have c4:((1+((aO (aD b10k r)).length))*8<=140737488355328):=by rw[aL];omega
   have c5:(1+((aO (aD b10k r)).length)<=big):=by rw[aL];unfold big;omega
   have c6:Ref (AV.dig (aJ b10k (bK ((([[(AV.int .i64 ((xs.getD j 0:Nat):Int))]]++(aO (aD b10k r))).drop 0).take (1+((aO (aD b10k r)).length))))) (14*((([[(AV.int .i64 ((xs.getD j 0:Nat):Int))]]++(aO (aD b10k r))).drop 0).take (1+((aO (aD b10k r)).length))).length)) (AV.list 1 (aO (aD b10k t))):=by rw[CD,bY,hval];exact Ref.opnd
   have c7:(0+(1+((aO (aD b10k r)).length))<=([[(AV.int .i64 ((xs.getD j 0:Nat):Int))]]++(aO (aD b10k r))).length):=by simp only[List.length_append,List.length_singleton,Nat.zero_add];omega
   have c8:(((([[(AV.int .i64 ((xs.getD j 0:Nat):Int))]]++(aO (aD b10k r))).drop 0).take (1+((aO (aD b10k r)).length)))=aO (bK ((([[(AV.int .i64 ((xs.getD j 0:Nat):Int))]]++(aO (aD b10k r))).drop 0).take (1+((aO (aD b10k r)).length))))):=by rw[CD,bY]
   have c9:(∀ x∈bK ((([[(AV.int .i64 ((xs.getD j 0:Nat):Int))]]++(aO (aD b10k r))).drop 0).take (1+((aO (aD b10k r)).length))),x<b10k):=by rw[CD,bY];exact hxr
   have d1:aO (aD b10k t)=aO (bK (aO (aD b10k t))):=by rw[bY]
   have d2:∀ x∈bK (aO (aD b10k t)),x<b10k:=by rw[bY];exact htd.1
   have d3:aO ys=aO (bK (aO ys)):=by rw[bY]
   have d4:∀ x∈bK (aO ys),x<b10k:=by rw[bY];exact hy.1
   have v0:Ref (.cptr ((aO xs).getD j []) 0) (.cptr [.i6 (xs.getD j 0:Int)] 0):=Ref.cd64 ((om (j<xs.length)));have v2:(j:Int)<((aO xs).length:Int):=by rw[aL];omega
   have v3:Ref (.dig r C) (.list 1 (aO (aD b10k r))):=Ref.opnd;have v4:C+64+128<=LIM:=by unfold LIM;omega
   have v6:(C+14)<=LIM:=by unfold LIM;omega
   have v7:(0:Int)<=(j:Int):=by omega
   by_cases h3:ys.length<=3
   · have hA:aJ b10k ((bK (aO (aD b10k t))).drop 0)=t:=by rw[bY,List.drop_zero,htv]
     have hBv:aJ b10k ((bK (aO ys)).drop 0)=m:=by rw[bY,List.drop_zero,hym]
     have ht16:t<10000000000000000:=by
       have h1:=iU (b:=b10k) (n:=t) (by decide);have h2:b10k^(aD b10k t).length<=b10k^4:=Nat.pow_le_pow_right (by decide) (by omega);have h4:b10k^4=10000000000000000:=by decide
       omega
     have hK:t/m<=t:=Nat.div_le_self _ _;refine gR kK none [0,1,4,5,6,7,8,9] [0] [(17,tt),(22,.cptr [.i6 (xs.getD j 0:Int)] 0),(25,.list 1 (aO (aD b10k r))),(27,.list 1 (aO (aD b10k t))),(30,tt),(35,.i6 (((aJ b10k ((bK (aO (aD b10k t))).drop 0))/(aJ b10k ((bK (aO ys)).drop 0)):Nat):Int)),(53,.dig t (C+14)),(54,.dig m C)] (.c6 (iT v7) v0 (nn j) v2 v3 r1 (.c6 c4 c5 c6 c7 c8 c9 (.c6 (iT (show((aO ys).length:Int)<=(3:Int) by rw[aL];omega)) (dc (0<=(0:Int))) d1 d2 (show 0<=(bK (aO (aD b10k t))).length from Nat.zero_le _) (show(bK (aO (aD b10k t))).length<=0+4 by rw[bY];omega) (.c6 (dc (0<=(0:Int))) d3 d4 (show 0<=(bK (aO ys)).length from Nat.zero_le _) (show(bK (aO ys)).length<=0+4 by rw[bY];omega) (show Ref (.i6 (IntKind.i64.wrap (((aJ b10k ((bK (aO (aD b10k t))).drop 0):Nat):Int).tdiv (aJ b10k ((bK (aO ys)).drop 0):Int)))) (.i6 (((aJ b10k ((bK (aO (aD b10k t))).drop 0))/(aJ b10k ((bK (aO ys)).drop 0)):Nat):Int)) from Ref.quo (a:=aJ b10k ((bK (aO (aD b10k t))).drop 0)) (b:=aJ b10k ((bK (aO ys)).drop 0)) rfl rfl (by decide) ((show(aJ b10k ((bK (aO (aD b10k t))).drop 0):Int)<=9223372036854775807 by rw[hA];omega))) (.c6 (show(aJ b10k ((bK (aO ys)).drop 0):Int)≠0 by rw[hBv];omega) hts hys (show(-9223372036854775808:Int)<=(((aJ b10k ((bK (aO (aD b10k t))).drop 0))/(aJ b10k ((bK (aO ys)).drop 0)):Nat):Int) from ?_) (show(((aJ b10k ((bK (aO (aD b10k t))).drop 0))/(aJ b10k ((bK (aO ys)).drop 0)):Nat):Int)<=(9223372036854775807:Int) from ?_) v4 (.a2 (show(m*((aJ b10k ((bK (aO (aD b10k t))).drop 0))/(aJ b10k ((bK (aO ys)).drop 0))))<=t by rw[hA,hBv];exact Nat.mul_div_le t m) v6)))))) (t:=BA) (σ:=slots 76 [(0,.list 1 (aO xs)),(1,.list 1 (aO ys)),(6,(.dig (t-(m*((aJ b10k ((bK (aO (aD b10k t))).drop 0))/(aJ b10k ((bK (aO ys)).drop 0))))) (C+14))),(7,.own 0 1 0 xs.length),(8,.i6 (j:Int)),(9,(.i6 (((aJ b10k ((bK (aO (aD b10k t))).drop 0))/(aJ b10k ((bK (aO ys)).drop 0)):Nat):Int)))]) (h:=[some ⟨3,1,true,(aO qs),none⟩]) ?_
     · exact Int.le_trans (by decide) (Int.natCast_nonneg _)
     · rw[hA,hBv];exact Int.le_trans (Int.ofNat_le.2 hK) (by omega)
     · rw[hA,hBv]
       exact hfin _ _ _ (rl _) (by have:=Nat.mul_div_le t m;rw[Nat.mul_comm];omega)
   · have v5:¬ ((((aO ys).length:Nat):Int)<=(3:Int)):=by rw[aL];omega
     by_cases h4:ys.length<=(aD b10k t).length
     · obtain⟨w,hw⟩:∃ w,ys.length=w+3:=⟨ys.length-3,by omega⟩
       obtain⟨A,hA⟩:∃ A,aJ b10k ((bK (aO (aD b10k t))).drop w)=A:=⟨_,rfl⟩;obtain⟨Bv,hBv⟩:∃ Bv,aJ b10k ((bK (aO ys)).drop w)=Bv:=⟨_,rfl⟩;have hA':=hA;have hBv':=hBv;rw[bY] at hA' hBv';have s1:=cZ b10k w (aD b10k t);have s2:=cZ b10k w ys;rw[hA',htv] at s1;rw[hBv',hym] at s2;have s3:=dN (b:=b10k) (by decide) hy.1 w
       have hA16:A<10000000000000000:=by
         have h1:=dY (b:=b10k) (by decide) (xs:=(aD b10k t).drop w) (fun x h=>htd.1 x (List.mem_of_mem_drop h));have h2:b10k^((aD b10k t).drop w).length<=b10k^4:=Nat.pow_le_pow_right (by decide) (by rw[List.length_drop];omega);have h4:b10k^4=10000000000000000:=by decide
         omega
       have hB12:Bv<10000000000000000:=by
         have h1:=dY (b:=b10k) (by decide) (xs:=ys.drop w) (fun x h=>hy.1 x (List.mem_of_mem_drop h));have h2:b10k^(ys.drop w).length<=b10k^4:=Nat.pow_le_pow_right (by decide) (by rw[List.length_drop];omega);have h4:b10k^4=10000000000000000:=by decide
         omega
       have hlow:m*(A/(Bv+1))<=t:=EE (P:=b10k^w) (Bv:=Bv) (by rw[Nat.mul_comm];omega) (by rw[Nat.add_mul,Nat.one_mul,Nat.mul_comm Bv];omega) rfl;have hK:A/(Bv+1)<=A:=Nat.div_le_self _ _;have v1:Ref (.i6 (IntKind.i64.wrap ((((aO ys).length:Nat):Int)-(3:Int)))) (.i6 (w:Int)):=Ref.wrI (by rw[aL];omega) (by omega);refine gR kK none [0,1,4,5,6,7,8,9] [0] [(17,tt),(22,.cptr [.i6 (xs.getD j 0:Int)] 0),(25,.list 1 (aO (aD b10k r))),(27,.list 1 (aO (aD b10k t))),(30,ff),(40,tt),(44,.i6 (w:Int)),(49,.i6 (w:Int)),(51,.i6 ((aJ b10k ((bK (aO ys)).drop w)+1:Nat):Int)),(52,.i6 (((aJ b10k ((bK (aO (aD b10k t))).drop w))/(aJ b10k ((bK (aO ys)).drop w)+1):Nat):Int)),(53,.dig t (C+14)),(54,.dig m C)] (.c6 (iT v7) v0 (nn j) v2 v3 r1 (.c6 c4 c5 c6 c7 c8 c9 (.c6 (iF v5) (iT (show((aO ys).length:Int)<=((aO (aD b10k t)).length:Int) by rw[aL,aL];omega)) v1 (nn w) d1 d2 (.c6 (show w<=(bK (aO (aD b10k t))).length by rw[bY];omega) (show(bK (aO (aD b10k t))).length<=w+4 by rw[bY];omega) v1 (nn w) d3 d4 (.c6 (show w<=(bK (aO ys)).length by rw[bY];omega) (show(bK (aO ys)).length<=w+4 by rw[bY];omega) (wI (((aJ b10k ((bK (aO ys)).drop w):Nat):Int)+(1:Int)) ((aJ b10k ((bK (aO ys)).drop w)+1:Nat):Int) (by rw[hBv];omega)) (show Ref (.i6 (IntKind.i64.wrap (((aJ b10k ((bK (aO (aD b10k t))).drop w):Nat):Int).tdiv ((aJ b10k ((bK (aO ys)).drop w)+1:Nat):Int)))) (.i6 (((aJ b10k ((bK (aO (aD b10k t))).drop w))/(aJ b10k ((bK (aO ys)).drop w)+1):Nat):Int)) from Ref.quo (a:=aJ b10k ((bK (aO (aD b10k t))).drop w)) (b:=aJ b10k ((bK (aO ys)).drop w)+1) rfl rfl (by decide) ((show(aJ b10k ((bK (aO (aD b10k t))).drop w):Int)<=9223372036854775807 by rw[hA];omega))) (show((aJ b10k ((bK (aO ys)).drop w)+1:Nat):Int)≠0 by rw[hBv];omega) hts (.a6 hys (show(-9223372036854775808:Int)<=(((aJ b10k ((bK (aO (aD b10k t))).drop w))/(aJ b10k ((bK (aO ys)).drop w)+1):Nat):Int) from ?_) (show(((aJ b10k ((bK (aO (aD b10k t))).drop w))/(aJ b10k ((bK (aO ys)).drop w)+1):Nat):Int)<=(9223372036854775807:Int) from ?_) v4 (show(m*((aJ b10k ((bK (aO (aD b10k t))).drop w))/(aJ b10k ((bK (aO ys)).drop w)+1)))<=t by rw[hA,hBv];exact hlow) v6)))))) (t:=BA) (σ:=slots 76 [(0,.list 1 (aO xs)),(1,.list 1 (aO ys)),(6,(.dig (t-(m*((aJ b10k ((bK (aO (aD b10k t))).drop w))/(aJ b10k ((bK (aO ys)).drop w)+1)))) (C+14))),(7,.own 0 1 0 xs.length),(8,.i6 (j:Int)),(9,(.i6 (((aJ b10k ((bK (aO (aD b10k t))).drop w))/(aJ b10k ((bK (aO ys)).drop w)+1):Nat):Int)))]) (h:=[some ⟨3,1,true,(aO qs),none⟩]) ?_
       · exact Int.le_trans (by decide) (Int.natCast_nonneg _)
       · rw[hA,hBv];exact Int.le_trans (Int.ofNat_le.2 hK) (by omega)
       · rw[hA,hBv]
         exact hfin _ _ _ (rl _) (by rw[Nat.mul_comm];omega)
     · refine gR kK none [0,1,4,5,6,7,8,9] [0] [(17,tt),(22,.cptr [.i6 (xs.getD j 0:Int)] 0),(25,.list 1 (aO (aD b10k r))),(27,.list 1 (aO (aD b10k t))),(30,ff),(40,ff),(53,.dig t (C+14)),(54,.dig m C)] (.c6 (iT v7) v0 (nn j) v2 v3 r1 (.c6 c4 c5 c6 c7 c8 c9 (.c6 (iF v5) (iF (show ¬ ((((aO ys).length:Nat):Int)<=((aO (aD b10k t)).length:Int)) by rw[aL,aL];omega)) hts hys (dc ((-9223372036854775808:Int)<=0)) (dc (0<=(9223372036854775807:Int))) (.a3 v4 (om ((m*0)<=t)) v6)))) (t:=BA) (σ:=slots 76 [(0,.list 1 (aO xs)),(1,.list 1 (aO ys)),(6,.dig (t-(m*0)) (C+14)),(7,.own 0 1 0 xs.length),(8,.i6 (j:Int)),(9,.i6 (0:Int))]) (h:=[some ⟨3,1,true,(aO qs),none⟩]) ?_
       exact hfin _ _ 0 (rl _) (by omega)
theorem LQ:bO 260 OL:=fun args r ob h ho=>by
 unfold OL at h
 split at h
 · rename_i n B m C
   cases h;have hm0:0<m:=ho _ (by simp);have hL:B+C+300<=LIM:=ho _ (by simp);obtain⟨hx,hxn⟩:=aQ (b:=b10k) (by decide) n;obtain⟨hy,hyn⟩:=aQ (b:=b10k) (by decide) m;refine af Tryz.f260 fun S w0=> ?_
   refine Good.diglt (n:=n) (B:=B) 0 rfl fun hn=>Good.diglt (n:=m) (B:=C) 1 rfl fun hm=> ?_
   refine Good.weak 76 [(0,.list 1 (aO (aD b10k n))),(1,.list 1 (aO (aD b10k m)))] (by kernel_rfl) (.cons Ref.opnd (.cons Ref.opnd .nil)) ?_;have l1:=hx.len10 (by rw[hxn];exact hn);generalize aD b10k n=xs at*;generalize aD b10k m=ys at*;subst hxn;have hL':=hL;unfold LIM at hL';refine cX (p:=(8*((aO xs).length:Int)<=281474976710656)/\((((aO xs).length:Nat):Int)<=(big:Int))/\(-9223372036854775808<=((aO xs).length:Int)-(1:Int)/\((aO xs).length:Int)-(1:Int)<=9223372036854775807)) (by simp only[aL];unfold big;omega) fun⟨q0,q1,q2⟩=>gN kK [0,1,4,5,6,7,8,9] [(15,.i6 ((((aO xs).length:Nat):Int)-(1:Int)))] (.a5 (rfl:((aO xs).length:Int)=((aO xs).length:Int)) (show 0<=((aO xs).length:Int) from Int.natCast_nonneg _) q0 q1 (wI ((((aO xs).length:Nat):Int)-(1:Int)) ((((aO xs).length:Nat):Int)-(1:Int)) q2)) (t:=Jr) (σ:=slots 76 [(0,.list 1 (aO xs)),(1,.list 1 (aO ys)),(4,.nil),(5,.nil),(6,.nil),(7,.own 0 1 0 ((aO xs).length)),(8,(.i6 ((((aO xs).length:Nat):Int)-(1:Int))))]) (h:=[some ⟨3,1,true,(List.replicate ((aO xs).length) [.i6 (0:Int)]),none⟩]) ?_
   rw[Dl,aL];refine Good.weak 76 [(0,_),(1,_),(6,.dig 0 C),(7,_),(8,_)] (by kernel_rfl) (.r (.r (.cons Ref.nil0d (.r (.r .nil))))) ?_;exact Js hx.1 hy hyn hm hm0 hL l1 hn xs.length 0 _ (rl _) hm0 (by simp) (nF (by decide)) (by simp[aJ,List.drop_length])
 · cases h
end
def rH:=kn
def OM:KF
 | [.agg [.bool s,.dig n B]]=>some (.tup [.int .i64 ((if n<10000000000000000 then n else 0:Nat):Int),.bool (decide (n<10000000000000000))],[])
 | _=>none
section
variable {S:Nat->Prop} {w0:World}
noncomputable abbrev LR:List Item:=[.code (aR [1,1,1,0,1,0,0] (aA Tryz.f296)),.inLoop (aR [1,1,1,0,1,0,0] (aA Tryz.f296)),.inBlock 0,.code (aR [1,1,1,1] (aA Tryz.f296))]
theorem Jt {s:Bool} {xs:List Nat} (hx:∀ x∈xs,x<b10k) (hl:xs.length<=4):∀ (k v:Nat),k<=xs.length->v=aJ b10k (xs.drop k)->
   GF 296 S w0 (.tup [.i6 ((aJ b10k xs:Nat):Int),.bool true]) LR ⟨slots 27 [(1,.ptr 0 2 0 0),(4,.i6 ((v:Nat):Int)),(5,(.i6 (((k:Nat):Int)-1)))],[some ⟨64,2,false,[[(.bool s),(.list 1 (aO xs))]],none⟩]⟩:=by
 intro k
 induction k with
 | zero=>
   intro v hk hv;rw[List.drop_zero] at hv;rw[show(((0:Nat):Int)-1)= -1 from rfl];refine rF rH [] .nil (V:=.tup [AV.int .i64 (v:Int),AV.bool true]) ?_
   rw[hv];exact rr
 | succ i ih=>
   intro v hk hv;rw[show(((i+1:Nat):Int)-1)=((i:Nat):Int) by omega];have hx1:=bC (b:=b10k) (by decide) hx i
   have hv3:v<1000000000000:=by
     have h1:=dY (b:=b10k) (by decide) (xs:=xs.drop (i+1)) (fun x h=>hx x (List.mem_of_mem_drop h));have h2:b10k^(xs.drop (i+1)).length<=b10k^3:=Nat.pow_le_pow_right (by decide) (by rw[List.length_drop];omega);have h3:b10k^3=1000000000000:=by decide
     omega
   unfold b10k at hx1;refine gN rH [1,2,3,4,5] [(15,tt),(19,.i6 ((v*10000:Nat):Int)),(23,.cptr [.i6 (xs.getD i 0:Int)] 0),(25,.i6 ((xs.getD i 0+10000*v:Nat):Int)),(17,.i6 ((i:Int)-(1:Int)))] (.c6 (iT (om ((0:Int)<=(i:Int)))) (wI ((v:Int)*(10000:Int)) ((v*10000:Nat):Int)) (show Ref (.cptr ((aO xs).getD i []) 0) (.cptr [.i6 (xs.getD i 0:Int)] 0) from Ref.cd64 ((om (i<xs.length)))) (nn i) (show(i:Int)<((aO xs).length:Int) by rw[aL];omega) (show Ref (.i6 (IntKind.i64.wrap (((v*10000:Nat):Int)+(xs.getD i 0:Int)))) (.i6 ((xs.getD i 0+10000*v:Nat):Int)) from Ref.wrI (by omega) (by omega)) (.a1 (wI ((i:Int)-(1:Int)) ((i:Int)-(1:Int))))) (t:=LR) (σ:=slots 27 [(1,.ptr 0 2 0 0),(4,.i6 ((xs.getD i 0+10000*v:Nat):Int)),(5,.i6 ((i:Int)-(1:Int)))]) (h:=[some ⟨64,2,false,[[.bool s,.list 1 (aO xs)]],none⟩]) ?_
   refine ih _ (by omega) ?_;rw[cK (by omega:i<xs.length),hv];rfl
theorem Sr  :bO  296 OM  :=fun args r ob h ho=>by
 unfold OM at h
 split at h
 · rename_i s n B
   cases h;obtain⟨hx,hxn⟩:=aQ (b:=b10k) (by decide) n;refine af Tryz.f296 fun S w0=> ?_
   refine Good.weak 27 [(0,.agg [.bool s,.list 1 (aO (aD b10k n))])] (by kernel_rfl) (.cons (Ref.agg (RefC.tl RefC.opnd)) .nil) ?_;refine Good.aggf (p:=(aD b10k n).length<=big) 0 rfl (fun ρ S w D vs h=> ?_) fun hb=> ?_
   · have h2:=h.cut1.2
     generalize vs.drop _=us at h2;cases h2 with
     | list f h1 h2=>rw[aL] at h1;omega
   have hlen : (aD     b10k n).length <= 4 ↔n<10000000000000000:=by
     constructor
     · intro h
       have h1:=iU (b:=b10k) (n:=n) (by decide);have h2:b10k^(aD b10k n).length<=b10k^4:=Nat.pow_le_pow_right (by decide) h;have h4:b10k^4=10000000000000000:=by decide
       omega
     · intro h
       exact gF            (by decide) (by have h4:b10k^4=10000000000000000:=by decide
                                           omega)
   generalize aD b10k n=xs at*;subst hxn;unfold big at hb
   by_cases h4:xs.length<=4
   · refine gN rH [1,2,3,4,5] [(9,ff),(13,.i6 ((((aO xs).length:Nat):Int)-(1:Int)))] (.a2 (iF (show ¬ ((4:Int)<((aO xs).length:Int)) by rw[aL];omega)) (wI ((((aO xs).length:Nat):Int)-(1:Int)) ((((aO xs).length:Nat):Int)-(1:Int)) (by rw[aL];omega))) (t:=LR) (σ:=slots 27 [(1,.ptr 0 2 0 0),(2,.i6 (0:Int)),(3,.bool false),(4,.i6 (0:Int)),(5,(.i6 ((((aO xs).length:Nat):Int)-(1:Int))))]) (h:=[some ⟨64,2,false,[[.bool s,.list 1 (aO xs)]],none⟩]) ?_
     have hn:=hlen.1 h4;refine Good.weak 27 [(1,_),(4,_),(5,_)] (by kernel_rfl) (.r (.r (.r .nil))) ?_;rw[if_pos hn,decide_eq_true hn,aL];exact Jt hx.1 h4 xs.length 0 (rl _) (by rw[List.drop_length];rfl)
   · have hn:¬ aJ b10k xs<10000000000000000:=fun h=>h4 (hlen.2 h)
     refine rF rH [(9,tt)] (.a1 (iT (show(4:Int)<((aO xs).length:Int) by rw[aL];omega))) (V:=.tup [AV.int .i64 0,AV.bool false]) ?_
     rw[if_neg hn,decide_eq_false hn];exact rr
 · cases h
end
def kL:=((kn.cons Sr).cons LQ).cons CC
section
variable {S0 C0:Nat->Prop} {w0:World} {Post:Value->World->Prop}
theorem Gm (u v:Nat) (h1:(v:Int)=(0:Int)) (o:((-9223372036854775808:Int)<=(u:Int))/\((u:Int)<=(9223372036854775807:Int)))
   (hg:Good Tryz.prog 259 S0 C0 w0 Post [.code .ret,.code (aR [1,1,0,0,0,1,0,1,1,1] (aA Tryz.f259)),.inBlock 1,.inLoop (aR [1,1,0,0,0] (aA Tryz.f259)),.inBlock 0,.code (aR [1,1,1] (aA Tryz.f259))] ⟨slots 54 [(4,.ptr 0 2 0 0),(7,.i6 (u:Int)),(9,.i6 (v:Int))],[some ⟨64,2,false,[[.rz (u:Int) 64]],none⟩]⟩):
   Good Tryz.prog 259 S0 C0 w0 Post [.code (aR [1,1,0,0,0,1,0,1,1,0,1,0,0,0,0] (aA Tryz.f259)),.inLoop (aR [1,1,0,0,0,1,0,1,1,0,1,0,0,0,0] (aA Tryz.f259)),.inBlock 2,.code (aR [1,1,0,0,0,1,0,1,1,0,1,0,1] (aA Tryz.f259)),.code (aR [1,1,0,0,0,1,0,1,1,1] (aA Tryz.f259)),.inBlock 1,.inLoop (aR [1,1,0,0,0] (aA Tryz.f259)),.inBlock 0,.code (aR [1,1,1] (aA Tryz.f259))] ⟨slots 54 [(4,.ptr 0 2 0 0),(7,.i6 (u:Int)),(9,.i6 (v:Int))],[some ⟨64,2,false,[[.bool false,.nil]],none⟩]⟩:=
 tN mixed aX kL 12 none [4,7,9] [0] [(37,(.bool false))] (ob:=[Ref (.bool (!decide ((v:Int)=(0:Int)))) (.bool false),(-9223372036854775808:Int)<=(u:Int),(u:Int)<=(9223372036854775807:Int)]) (by decide) (by kernel_rfl)
   (.cons (Ref.bool (congrArg Bool.not (decide_eq_true h1))) (.cons (o.1) (.cons (o.2) (AllP.nil)))) hg
end
def ON:KF
 | [.agg [.rz n B],.agg [.rz m C]]=>some (.agg [.rz ((Nat.gcd n.natAbs m.natAbs:Nat):Int) (max B C)],[max B C+max B C+300<=LIM])
 | _=>none
theorem RefC.rzB {n:Int} {B C:Nat} {cs:List AV} (h:n.natAbs<2^C):RefC (.rz n B::cs) (.rz n C::cs):=fun ρ S w D vs x=>by
 cases x with
 | rz h1=>
   refine .rz ?_;cases h1 with
   | bool h2=>
     cases h2 with
     | dig xs a b c d=>exact .bool (.dig xs a b h d)
theorem RefC.mkrzN {n B:Nat} {cs:List AV}:RefC (.bool false:: .dig n B::cs) (.rz ((n:Nat):Int) B::cs):=RefC.mkrz (rl _) (by simp) (by simp)
section
variable {S:Nat->Prop} {w0:World}
noncomputable abbrev Gn:List Item:=[.code (aR [1,1,0,0,0] (aA Tryz.f259)),.inLoop (aR [1,1,0,0,0] (aA Tryz.f259)),.inBlock 0,.code (aR [1,1,1] (aA Tryz.f259))]
noncomputable abbrev Dr:List Item:=[.code (aR [1,1,0,0,0,1,0,1,1,0,1,0,0,0,0] (aA Tryz.f259)),.inLoop (aR [1,1,0,0,0,1,0,1,1,0,1,0,0,0,0] (aA Tryz.f259)),.inBlock 2,.code (aR [1,1,0,0,0,1,0,1,1,0,1,0,1] (aA Tryz.f259)),.code (aR [1,1,0,0,0,1,0,1,1,1] (aA Tryz.f259)),.inBlock 1,.inLoop (aR [1,1,0,0,0] (aA Tryz.f259)),.inBlock 0,.code (aR [1,1,1] (aA Tryz.f259))]
theorem Gp {E:Nat}:∀ (f x y:Nat),y<=f->x<10000000000000000->y<10000000000000000->Nat.gcd x y<2^E->
   GF 259 S w0 (.agg [.rz ((Nat.gcd x y:Nat):Int) E]) Dr ⟨slots 54 [(4,.ptr 0 2 0 0),(7,.i6 ((x:Nat):Int)),(9,.i6 ((y:Nat):Int))],[some ⟨64,2,false,[[(.bool false),.nil]],none⟩]⟩:=by
 have last:∀ x,x<10000000000000000->Nat.gcd x 0<2^E->GF 259 S w0 (.agg [.rz ((Nat.gcd x 0:Nat):Int) E]) Dr ⟨slots 54 [(4,.ptr 0 2 0 0),(7,.i6 ((x:Nat):Int)),(9,.i6 ((0:Nat):Int))],[some ⟨64,2,false,[[(.bool false),.nil]],none⟩]⟩:=by
   intro x hx hE;rw[Nat.gcd_zero_right] at hE ⊢;exact Gm x 0 rfl ⟨by omega,by omega⟩ (gE [.agg [AV.rz ((x:Nat):Int) 64]] (Ref.agg (RefC.rzB (by simpa using hE))))
 intro f
 induction f with
 | zero=>
   intro x y hf hx hy hE;have:y=0:=by omega
   subst this;exact last x hx hE
 | succ f ih=>
   intro x y hf hx hy hE
   by_cases h0:y=0
   · subst h0;exact last x hx hE
   · refine gN kL [4,7,9] [(37,tt),(41,.i6 ((x % y:Nat):Int))] (.a3 (jT (om (¬ ((y:Int)=(0:Int))))) (show Ref (.i6 ((x:Int).tmod (y:Int))) (.i6 ((x % y:Nat):Int)) from Ref.rem (a:=x) (b:=y) rfl rfl) (om ((y:Int)≠0))) (t:=Dr) (σ:=slots 54 [(4,.ptr 0 2 0 0),(7,.i6 (y:Int)),(9,.i6 ((x % y:Nat):Int))]) (h:=[some ⟨64,2,false,[[.bool false,.nil]],none⟩]) ?_
     have hlt:x % y<y:=Nat.mod_lt _ (by omega);rw[rB] at hE ⊢;exact ih _ _ (by omega) hy (by omega) hE
theorem Ju {E:Nat} (hL:E+E+300<=LIM):∀ (f n m:Nat),m<=f->n<2^E->m<2^E->
   GF 259 S w0 (.agg [.rz ((Nat.gcd n m:Nat):Int) E]) Gn ⟨slots 54 [(4,.ptr 0 2 0 0),(5,.dig n E),(6,.dig m E)],[some ⟨64,2,false,[[(.bool false),.nil]],none⟩]⟩:=by
 have last:∀ n,n<2^E->GF 259 S w0 (.agg [.rz ((Nat.gcd n 0:Nat):Int) E]) Gn ⟨slots 54 [(4,.ptr 0 2 0 0),(5,.dig n E),(6,.dig 0 E)],[some ⟨64,2,false,[[(.bool false),.nil]],none⟩]⟩:=by
   intro n hn;rw[Nat.gcd_zero_right];refine rF kL [(17,.list 1 (aO (aD b10k 0))),(19,ff)] (.a2 (show Ref (.dig 0 E) (.list 1 (aO (aD b10k 0))) from Ref.opnd) (iF (show ¬ ((0:Int)<((aO (aD b10k 0)).length:Int)) by simp[aL,gW]))) (V:=.agg [AV.bool false,AV.dig n E]) (Ref.agg RefC.mkrzN)
 intro f
 induction f with
 | zero=>
   intro n m hf hn hm;have:m=0:=by omega
   subst this;exact last n hn
 | succ f ih=>
   intro n m hf hn hm
   by_cases h0:m=0
   · subst h0;exact last n hn
   have hy0:0<(aD b10k m).length:=(dA (by decide)).2 (by omega);have hlt:n % m<m:=Nat.mod_lt _ (by omega);have nx:=ih m (n % m) (by omega) hm (by omega);rw[<- rB] at nx;have v0:(0:Int)<((aO (aD b10k m)).length:Int):=by rw[aL];omega
   have v1:Ref (.dig m E) (.list 1 (aO (aD b10k m))):=Ref.opnd
   by_cases c1:n<10000000000000000
   · by_cases c2:m<10000000000000000
     · refine gR kL none [4,5,6,7,9] [0] [(17,.list 1 (aO (aD b10k m))),(19,tt),(33,tt),(35,tt)] (.a4 v1 (iT v0) (iT c1) (iT c2)) (t:=Dr) (σ:=slots 54 [(4,.ptr 0 2 0 0),(5,.dig n E),(6,.dig m E),(7,.i6 ((if n<10000000000000000 then n else 0:Nat):Int)),(9,.i6 ((if m<10000000000000000 then m else 0:Nat):Int))]) (h:=[some ⟨64,2,false,[[.bool false,.nil]],none⟩]) ?_
       rw[if_pos c1,if_pos c2];refine Good.weak 54 [(4,_),(7,_),(9,_)] (by kernel_rfl) (.r (.r (.r .nil))) ?_;exact Gp m n m (rl _) c1 c2 (FS hn hm)
     · refine gR kL none [4,5,6,7,9] [0] [(17,.list 1 (aO (aD b10k m))),(19,tt),(33,tt),(35,ff)] (.a6 v1 (iT v0) (iT c1) (iF c2) (om (0<m)) hL) (t:=Gn) (σ:=slots 54 [(4,.ptr 0 2 0 0),(5,.dig m E),(6,.dig (n % m) E),(7,.i6 ((if n<10000000000000000 then n else 0:Nat):Int)),(9,.i6 ((if m<10000000000000000 then m else 0:Nat):Int))]) (h:=[some ⟨64,2,false,[[.bool false,.nil]],none⟩]) ?_
       exact Good.weak 54 [(4,_),(5,_),(6,_)] (by kernel_rfl) (.r (.r (.r .nil))) nx
   · refine gR kL none [4,5,6,7,9] [0] [(17,.list 1 (aO (aD b10k m))),(19,tt),(33,ff)] (.a5 v1 (iT v0) (iF c1) (om (0<m)) hL) (t:=Gn) (σ:=slots 54 [(4,.ptr 0 2 0 0),(5,.dig m E),(6,.dig (n % m) E),(7,.i6 ((if n<10000000000000000 then n else 0:Nat):Int)),(9,.i6 ((if m<10000000000000000 then m else 0:Nat):Int))]) (h:=[some ⟨64,2,false,[[.bool false,.nil]],none⟩]) ?_
     exact Good.weak 54 [(4,_),(5,_),(6,_)] (by kernel_rfl) (.r (.r (.r .nil))) nx
theorem Ss:bO 259 ON:=by
 refine cJ Tryz.f259 fun _ _ _ S w0 h ho=> ?_
 unfold ON at h;split at h <;> cases h;rename_i n B m C;have hL:max B C+max B C+300<=LIM:=ho _ (by simp);refine Good.rzlt (n:=n) (B:=B) 0 rfl fun hn=>Good.rzlt (n:=m) (B:=C) 1 rfl fun hm=> ?_
 refine gR kL none [4,5,6] [2] [] .nil (t:=Gn) (σ:=slots 54 [(4,.ptr 0 2 0 0),(5,.dig n.natAbs B),(6,.dig m.natAbs C)]) (h:=[some ⟨64,2,false,[[.bool false,.nil]],none⟩]) ?_
 have hn':=kF hn (Nat.le_max_left B C);have hm':=kF hm (Nat.le_max_right B C);refine Good.weak 54 [(4,_),(5,.dig n.natAbs (max B C)),(6,.dig m.natAbs (max B C))] (by kernel_rfl) (.r (.cons (Ref.digB hn') (.cons (Ref.digB hm') .nil))) ?_;exact Ju hL _ _ _ (rl _) hn' hm'
end
def BB:=kn
def OO:KF
 | [.bool s,.dig n B]=>some (.agg [.rz (iM s n) B],[])
 | _=>none
theorem Gq:bO 222 OO:=by
 refine cJ Tryz.f222 fun _ _ _ S w0 h ho=> ?_
 unfold OO at h;split at h <;> cases h;rename_i s n B;obtain⟨hx,hxn⟩:=aQ (b:=b10k) (by decide) n;refine Good.diglt (n:=n) (B:=B) 1 rfl fun hn=> ?_
 refine Good.weak 13 [(0,.bool s),(1,.list 1 (aO (aD b10k n)))] (by kernel_rfl) (.r (.cons Ref.opnd .nil)) ?_
 have fold:∀ t:Bool,t=decide (iM s n<0)->Ref (.agg [.bool t,.list 1 (aO (aD b10k n))]) (.agg [.rz (iM s n) B]):=fun t ht=>
   Ref.agg ((RefC.tl (c:=.bool t) (RefC.digL hx hxn hn)).trans (RefC.mkrz (rl _) ht (vW s n).symm))
 cases s with
 | true=>
   refine rF BB [] .nil (V:=.agg [.bool (decide ((0:Int)<((aO (aD b10k n)).length:Int))),.list 1 (aO (aD b10k n))]) (fold _ ?_)
   rw[uF,Bool.true_and]
   have:=dA (b:=b10k) (n:=n) (by decide);simp only[decide_eq_decide];rw[aL];omega
 | false=>
   refine rF BB [] .nil (V:=.agg [AV.bool false,.list 1 (aO (aD b10k n))]) (fold _ ?_)
   rw[uF,Bool.false_and]
theorem Ds (n:Int):iM (!decide (n<0)) n.natAbs= -n:=by
 by_cases a:n<0 <;> simp[a,iM] <;> omega
def Uu:KF
 | [.agg [.q x B]]=>some (.agg [.q (-x) B],[])
 | _=>none
theorem OP:bO 59 Uu:=by
 refine cJ Tryz.f59 fun _ _ _ S w0 h ho=> ?_
 unfold Uu at h;split at h <;> cases h;rename_i x B;have K:=kn.cons Ac;refine rF K [] .nil (V:=.agg [.z (iM (!decide (x.num<0)) x.num.natAbs) B,.nat (x.den-1) B]) ?_
 refine Ref.agg (RefC.mkq (rl _) (rl _) ?_ rfl);exact Ds x.num
def OQ:KF
 | [.agg [.rz n B]]=>some (.agg [.rz (-n) B],[])
 | _=>none
theorem LS:bO 228 OQ:=by
 refine cJ Tryz.f228 fun _ _ _ S w0 h ho=> ?_
 unfold OQ at h;split at h <;> cases h;rename_i n B;have K:=kn.cons Gq;exact rF K [] .nil (V:=.agg [.rz (iM (!decide (n<0)) n.natAbs) B]) (Ref.rz1 (Ds n) (rl _))
def lK:=(((kn.cons LQ).cons Ss).cons LS).cons Gq
def OR:KF
 | [.agg [.rz n B],.agg [.rz d C]]=>some (.agg [.rq ((n:Rat)/(d:Rat)) ((n:Rat)/(d:Rat)).den (max B C)],[d≠0,max B C+max B C+300<=LIM])
 | _=>none
theorem yW {n d:Int} (hd:0<d):mkRat n d.natAbs=(n:Rat)/(d:Rat):=by
 rw[Rat.mkRat_eq_div]
 congr 1
 rw[<- Rat.intCast_natCast,Int.natAbs_of_nonneg (by omega)]
theorem BC (n d:Int):((-n:Int):Rat)/((-d:Int):Rat)=(n:Rat)/(d:Rat):=by
 rw[Rat.intCast_neg,Rat.intCast_neg,Rat.div_def,Rat.div_def]
 have:(-(d:Rat))⁻¹= -((d:Rat)⁻¹):=by
   by_cases h:(d:Rat)=0
   · rw[h];simp
   · refine Rat.inv_eq_of_mul_eq_one ?_
     rw[Rat.neg_mul,Rat.mul_neg,Rat.neg_neg,Rat.mul_inv_cancel _ h]
 rw[this,Rat.neg_mul,Rat.mul_neg,Rat.neg_neg]
theorem pB {n d:Int} {B C:Nat} {X:Rat} (hX:X=mkRat n d.natAbs) (hd:0<d) {k e:Int} (h:(k=n/\e=d/\n.natAbs.gcd d.natAbs=1)\/(k=iM (decide (n<0)) (n.natAbs/n.natAbs.gcd d.natAbs)/\e=iM false (d.natAbs/n.natAbs.gcd d.natAbs))):
   Ref (.agg [.rz k B,.rz e C]) (.agg [.rq X X.den (max B C)]):=by
 have dn:d.natAbs≠0:=by omega
 refine Ref.agg (RefC.mkrq (Nat.le_max_left _ _) (Nat.le_max_right _ _) ?_ ?_ (.inl rfl))
 · rcases h with ⟨rfl,rfl,hg⟩ | ⟨rfl,rfl⟩
   · rw[hX,sS dn,hg];simp
   · rw[hX, <- sT dn]
 · rcases h with ⟨rfl,rfl,hg⟩ | ⟨rfl,rfl⟩
   · rw[hX,oV dn,hg,Nat.div_one];omega
   · rw[hX,oV dn];rfl
theorem Gr:bO 200 OR:=by
 refine cJ Tryz.f200 fun _ _ _ S w0 h ho=> ?_
 unfold OR at h;split at h <;> cases h;rename_i n B d C;have hd:d≠0:=ho _ (by simp);have hL:max B C+max B C+300<=LIM:=ho _ (by simp);have hB1:B<=max B C:=Nat.le_max_left _ _;have hC1:C<=max B C:=Nat.le_max_right _ _
 have one:∀ v:Nat,(aD b10k v).length=1->(aD b10k v).getD 0 0=1->v=1:=by
   intro v h1 h2;obtain⟨hx,hxn⟩:=aQ (b:=b10k) (by decide) v;have h3:=aT b10k (aD b10k v) 0;rw[gO (by omega),hxn,h2] at h3;simpa[aJ] using h3
 have v4:B+(max B C)+300<=LIM:=by omega
 have v5:C+(max B C)+300<=LIM:=by omega
 have v10:0<=(0:Int):=by decide
 by_cases hneg:d<0
 · have hX:(n:Rat)/(d:Rat)=mkRat (-n) (-d).natAbs:=by rw[yW (by omega),BC]
   have hg:0<Nat.gcd (-n).natAbs (-d).natAbs:=Nat.gcd_pos_of_pos_right _ (by omega);have v0:Ref (.dig (Nat.gcd (-n).natAbs (-d).natAbs) (max B C)) (.list 1 (aO (aD b10k (Nat.gcd (-n).natAbs (-d).natAbs)))):=Ref.opnd
   by_cases c1:(aD b10k (Nat.gcd (-n).natAbs (-d).natAbs)).length=1
   · have v2:Ref (.cptr ((aO (aD b10k (Nat.gcd (-n).natAbs (-d).natAbs))).getD 0 []) 0) (.cptr [.i6 ((aD b10k (Nat.gcd (-n).natAbs (-d).natAbs)).getD 0 0:Int)] 0):=Ref.cd64 ((om (0<(aD b10k (Nat.gcd (-n).natAbs (-d).natAbs)).length)))
     have v6:((aO (aD b10k (Nat.gcd (-n).natAbs (-d).natAbs))).length:Int)=(1:Int):=by rw[aL];omega
     have v7:(0:Int)<((aO (aD b10k (Nat.gcd (-n).natAbs (-d).natAbs))).length:Int):=by rw[aL];omega
     by_cases c2:(aD b10k (Nat.gcd (-n).natAbs (-d).natAbs)).getD 0 0=1
     · refine rF lK [(11,tt),(20,.list 1 (aO (aD b10k (Nat.gcd (-n).natAbs (-d).natAbs)))),(23,tt),(25,.list 1 (aO (aD b10k (Nat.gcd (-n).natAbs (-d).natAbs)))),(26,.cptr [.i6 ((aD b10k (Nat.gcd (-n).natAbs (-d).natAbs)).getD 0 0:Int)] 0),(29,tt)] (.c6 (iT hneg) hL v0 (iT v6) v0 v2 (.a3 v10 v7 (iT (om (((aD b10k (Nat.gcd (-n).natAbs (-d).natAbs)).getD 0 0:Int)=(1:Int)))))) (V:=.agg [AV.rz (-n) B,AV.rz (-d) C]) (pB hX (by omega) (.inl ⟨rfl,rfl,one _ c1 c2⟩))
     · refine rF lK [(11,tt),(20,.list 1 (aO (aD b10k (Nat.gcd (-n).natAbs (-d).natAbs)))),(23,tt),(25,.list 1 (aO (aD b10k (Nat.gcd (-n).natAbs (-d).natAbs)))),(26,.cptr [.i6 ((aD b10k (Nat.gcd (-n).natAbs (-d).natAbs)).getD 0 0:Int)] 0),(29,ff)] (.c6 (iT hneg) hL v0 (iT v6) v0 v2 (.c6 v10 v7 (iF (om (¬ ((((aD b10k (Nat.gcd (-n).natAbs (-d).natAbs)).getD 0 0:Nat):Int)=(1:Int))))) hg v4 hg (.a1 v5))) (V:=.agg [.rz (iM (decide ((-n)<0)) (((-n).natAbs)/(Nat.gcd (-n).natAbs (-d).natAbs))) B,.rz (iM false (((-d).natAbs)/(Nat.gcd (-n).natAbs (-d).natAbs))) C]) (pB hX (by omega) (.inr ⟨rfl,rfl⟩))
   · refine rF lK [(11,tt),(20,.list 1 (aO (aD b10k (Nat.gcd (-n).natAbs (-d).natAbs)))),(23,ff)] (.c6 (iT hneg) hL v0 (iF (show ¬ ((((aO (aD b10k (Nat.gcd (-n).natAbs (-d).natAbs))).length:Nat):Int)=(1:Int)) by rw[aL];omega)) hg v4 (.a2 hg v5)) (V:=.agg [.rz (iM (decide ((-n)<0)) (((-n).natAbs)/(Nat.gcd (-n).natAbs (-d).natAbs))) B,.rz (iM false (((-d).natAbs)/(Nat.gcd (-n).natAbs (-d).natAbs))) C]) (pB hX (by omega) (.inr ⟨rfl,rfl⟩))
 · have hX:(n:Rat)/(d:Rat)=mkRat n d.natAbs:=by rw[yW (by omega)]
   have hg:0<Nat.gcd n.natAbs d.natAbs:=Nat.gcd_pos_of_pos_right _ (by omega);have v1:Ref (.dig (Nat.gcd n.natAbs d.natAbs) (max B C)) (.list 1 (aO (aD b10k (Nat.gcd n.natAbs d.natAbs)))):=Ref.opnd
   by_cases c1:(aD b10k (Nat.gcd n.natAbs d.natAbs)).length=1
   · have v3:Ref (.cptr ((aO (aD b10k (Nat.gcd n.natAbs d.natAbs))).getD 0 []) 0) (.cptr [.i6 ((aD b10k (Nat.gcd n.natAbs d.natAbs)).getD 0 0:Int)] 0):=Ref.cd64 ((om (0<(aD b10k (Nat.gcd n.natAbs d.natAbs)).length)))
     have v8:((aO (aD b10k (Nat.gcd n.natAbs d.natAbs))).length:Int)=(1:Int):=by rw[aL];omega
     have v9:(0:Int)<((aO (aD b10k (Nat.gcd n.natAbs d.natAbs))).length:Int):=by rw[aL];omega
     by_cases c2:(aD b10k (Nat.gcd n.natAbs d.natAbs)).getD 0 0=1
     · refine rF lK [(11,ff),(20,.list 1 (aO (aD b10k (Nat.gcd n.natAbs d.natAbs)))),(23,tt),(25,.list 1 (aO (aD b10k (Nat.gcd n.natAbs d.natAbs)))),(26,.cptr [.i6 ((aD b10k (Nat.gcd n.natAbs d.natAbs)).getD 0 0:Int)] 0),(29,tt)] (.c6 (iF hneg) hL v1 (iT v8) v1 v3 (.a3 v10 v9 (iT (om (((aD b10k (Nat.gcd n.natAbs d.natAbs)).getD 0 0:Int)=(1:Int)))))) (V:=.agg [AV.rz n B,AV.rz d C]) (pB hX (by omega) (.inl ⟨rfl,rfl,one _ c1 c2⟩))
     · refine rF lK [(11,ff),(20,.list 1 (aO (aD b10k (Nat.gcd n.natAbs d.natAbs)))),(23,tt),(25,.list 1 (aO (aD b10k (Nat.gcd n.natAbs d.natAbs)))),(26,.cptr [.i6 ((aD b10k (Nat.gcd n.natAbs d.natAbs)).getD 0 0:Int)] 0),(29,ff)] (.c6 (iF hneg) hL v1 (iT v8) v1 v3 (.c6 v10 v9 (iF (om (¬ ((((aD b10k (Nat.gcd n.natAbs d.natAbs)).getD 0 0:Nat):Int)=(1:Int))))) hg v4 hg (.a1 v5))) (V:=.agg [.rz (iM (decide (n<0)) (n.natAbs/(Nat.gcd n.natAbs d.natAbs))) B,.rz (iM false (d.natAbs/(Nat.gcd n.natAbs d.natAbs))) C]) (pB hX (by omega) (.inr ⟨rfl,rfl⟩))
   · refine rF lK [(11,ff),(20,.list 1 (aO (aD b10k (Nat.gcd n.natAbs d.natAbs)))),(23,ff)] (.c6 (iF hneg) hL v1 (iF (show ¬ ((((aO (aD b10k (Nat.gcd n.natAbs d.natAbs))).length:Nat):Int)=(1:Int)) by rw[aL];omega)) hg v4 (.a2 hg v5)) (V:=.agg [.rz (iM (decide (n<0)) (n.natAbs/(Nat.gcd n.natAbs d.natAbs))) B,.rz (iM false (d.natAbs/(Nat.gcd n.natAbs d.natAbs))) C]) (pB hX (by omega) (.inr ⟨rfl,rfl⟩))
def OS:KF
 | [.int .i64 n,.int .i64 d]=>some (.agg [.rq ((Int.cast n:Rat)/(Int.cast d:Rat)) ((Int.cast n:Rat)/(Int.cast d:Rat)).den 64],[(-9223372036854775808:Int)<=n,n<=(9223372036854775807:Int),(-9223372036854775808:Int)<=d,d<=(9223372036854775807:Int),(d:Int)≠0])
 | _=>none
theorem Su:bO 106 OS:=by
 refine cJ Tryz.f106 fun _ _ _ S w0 h ho=> ?_
 unfold OS at h;split at h <;> cases h;rename_i n d;obtain⟨o1,o2,o3,o4,o5⟩:=ho.e5;have L:=dH;have K:=(kn.cons CC).cons Gr;exact rR K [] (.a6 o1 o2 o3 o4 o5 (om (max 64 64+max 64 64+300<=LIM)))
def BD:=kn.cons CC
theorem Gs {S0 C0:Nat->Prop} {w0:World} {Post:Value->World->Prop} (x:Rat) (d B:Nat) (h1:(((aO (aD b10k ((d:Nat):Int).natAbs)).length:Nat):Int)=(0:Int)) (o:(Ref (AV.dig (((d:Nat):Int).natAbs) B) (AV.list 1 (aO (aD b10k ((d:Nat):Int).natAbs)))))
   (hg:Good Tryz.prog 135 S0 C0 w0 Post [.code .ret,.code (aR [1,1] (aA Tryz.f135))] ⟨slots 11 [(2,.ptr 1 2 0 0)],[some ⟨66,4,false,[[(.rq x d B)]],none⟩,some ⟨64,2,false,[[(.rz 1 64)]],none⟩,none]⟩):
   Good Tryz.prog 135 S0 C0 w0 Post [.code (aR [] (aA Tryz.f135))] ⟨slots 11 [(0,.agg [(.rq x d B)])],[]⟩:=
 go mixed aX BD 13 none [2] [(5,(AV.list 1 (aO (aD b10k ((d:Nat):Int).natAbs)))),(7,(AV.bool true))] (ob:=[Ref (AV.dig (((d:Nat):Int).natAbs) B) (AV.list 1 (aO (aD b10k ((d:Nat):Int).natAbs))),Ref (AV.bool (decide ((((aO (aD b10k ((d:Nat):Int).natAbs)).length:Nat):Int)=(0:Int)))) (.bool true),(-9223372036854775808:Int)<=1,1<=(9223372036854775807:Int)]) (by kernel_rfl)
   (.cons (o) (.cons (Ref.bool (decide_eq_true h1)) (.cons (by decide) (.cons (by decide) (AllP.nil))))) hg
theorem Gt {S0 C0:Nat->Prop} {w0:World} {Post:Value->World->Prop} (x:Rat) (d B:Nat) (h1:¬ ((((aO (aD b10k ((d:Nat):Int).natAbs)).length:Nat):Int)=(0:Int))) (o:(Ref (AV.dig (((d:Nat):Int).natAbs) B) (AV.list 1 (aO (aD b10k ((d:Nat):Int).natAbs)))))
   (hg:Good Tryz.prog 135 S0 C0 w0 Post [.code .ret] ⟨slots 11 [(2,.ptr 1 2 0 0)],[some ⟨66,4,false,[[(.rq x d B)]],none⟩,some ⟨64,2,false,[[(.rz ((d:Nat):Int) B)]],none⟩]⟩):
   Good Tryz.prog 135 S0 C0 w0 Post [.code (aR [] (aA Tryz.f135))] ⟨slots 11 [(0,.agg [(.rq x d B)])],[]⟩:=
 go mixed aX BD 14 none [2] [(5,(AV.list 1 (aO (aD b10k ((d:Nat):Int).natAbs)))),(7,(AV.bool false))] (ob:=[Ref (AV.dig (((d:Nat):Int).natAbs) B) (AV.list 1 (aO (aD b10k ((d:Nat):Int).natAbs))),Ref (AV.bool (decide ((((aO (aD b10k ((d:Nat):Int).natAbs)).length:Nat):Int)=(0:Int)))) (.bool false)]) (by kernel_rfl)
   (.cons (o) (.cons (Ref.bool (decide_eq_false h1)) (AllP.nil))) hg
def Gu:KF
 | [.agg [.rq x d B]]=>some (.agg [.rz (x.den:Int) (max B 64)],[])
 | _=>none
theorem tO (args:List AV) (r:AV) (ob:List Prop) (h:Gu args=some (r,ob)) (ho:AllP ob):qL Tryz.prog 135 args r:=by
 unfold Gu at h
 split at h
 · rename_i x d B
   cases h;refine af Tryz.f135 fun S w0=> ?_
   have e:kY [.agg [.rq x d B]] Tryz.f135.ntmps=⟨slots 11 [(0,.agg [(.rq x d B)])],[]⟩:=by kernel_rfl
   rw[e];clear e;refine Good.rqlt (x:=x) (d:=d) (B:=B) (cs:=[]) 0 rfl fun _ _ hd=> ?_
   have hz:=x.den_nz
   by_cases h1:(((aO (aD b10k ((d:Nat):Int).natAbs)).length:Nat):Int)=(0:Int)
   · refine Gs x d B h1 Ref.opnd (gE [(AV.agg [(AV.rz 1 64)])] ?_)
     have hp:¬ 0<d:=fun h=>by
       rw[aL] at h1;have:=(dA (b:=b10k) (n:=((d:Nat):Int).natAbs) (by decide)).2 (by omega);omega
     exact Ref.rz1 (by omega) (by omega)
   · refine Gt x d B h1 Ref.opnd (gE [(AV.agg [(AV.rz ((d:Nat):Int) B)])] ?_)
     have hp:d≠0:=fun h=>h1 (by rw[h];rfl)
     exact Ref.rz1 (by omega) (by omega)
 · cases h
def LU:KF
 | [.agg [.rz n B],.agg [.rz m C]]=>some (.agg [.rz (n*m) (B+C)],[B+C+128<=LIM])
 | _=>none
theorem CE:bO 134 LU:=by
 refine cJ Tryz.f134 fun _ _ _ S w0 h ho=> ?_
 unfold LU at h;split at h <;> cases h;rename_i n B m C;have o1:=ho.one;have K:=(kn.cons OI).cons Gq;exact rF K [] (.a1 o1) (V:=.agg [.rz (iM (!((decide (n<0))==(decide (m<0)))) (n.natAbs*m.natAbs)) (B+C)]) (Ref.rz1 (by rw[uG,vY]) (rl _))
def LV:KF
 | [.agg [.rq x d B],.agg [.rq y e C]]=>some (.agg [.rq (x*y) (x*y).den (max B 64+max C 64)],[max B 64+max C 64+(max B 64+max C 64)+300<=LIM])
 | _=>none
theorem CF:bO 107 LV:=by
 refine cJ Tryz.f107 fun _ _ _ S w0 h ho=> ?_
 unfold LV at h;split at h <;> cases h;rename_i x d B y e C;have o1:=ho.one;have L:=dH;have K:=((kn.cons Gr).cons tO).cons CE;have hx:=x.den_nz;have hy:=y.den_nz;have hm:((x.den:Nat):Int)*((y.den:Nat):Int)≠0:=Int.mul_ne_zero (by omega) (by omega);have hq:(Int.cast (x.num*y.num):Rat)/(Int.cast (((x.den:Nat):Int)*((y.den:Nat):Int)):Rat)=x*y:=by rw[Rat.mul_def,Rat.normalize_eq_mkRat,Rat.mkRat_eq_div];push_cast;rfl
 refine rF K [] (.a4 (om (B+C+128<=LIM)) (om ((max B 64)+(max C 64)+128<=LIM)) hm (om (max (B+C) ((max B 64)+(max C 64))+max (B+C) ((max B 64)+(max C 64))+300<=LIM))) (V:=.agg [.rq ((Int.cast (x.num*y.num):Rat)/(Int.cast ((x.den:Int)*(y.den:Int)):Rat)) (((Int.cast (x.num*y.num):Rat)/(Int.cast ((x.den:Int)*(y.den:Int)):Rat)).den) (max (B+C) ((max B 64)+(max C 64)))]) ?_
 rw[hq];exact Ref.agg (RefC.rq_le (by omega))
def wO:=(kn.cons By).cons Cz
def OT:KF
 | [.nat n B,.nat m C]=>some (.nat (n+m) (max B C+1),[max B C+1<=LIM])
 | _=>none
section
variable {S:Nat->Prop} {w0:World}
noncomputable abbrev Jv:List Item:=[.code (aR [1,1,1,1,0,1,0,0] (aA Tryz.f203)),.inLoop (aR [1,1,1,1,0,1,0,0] (aA Tryz.f203)),.inBlock 0,.code (aR [1,1,1,1,1] (aA Tryz.f203))]
theorem Dt {xs ys:List Nat} {N B m:Nat} (hmm:m=xs.length+1) (hx:∀ x∈xs,x<b32) (hy:∀ x∈ys,x<b32) (hl:ys.length<=xs.length) (hbig:xs.length+2<=big)
   (hN:aJ b32 xs+aJ b32 ys=N) (hB:N<2^B):∀ (j i c:Nat) (ds:List Nat),j=xs.length-i->i<=xs.length->c<2->ds.length=xs.length+1->(∀ x∈ds,x<b32)->
   aJ b32 (ds.take i)+b32^i*c=aJ b32 (xs.take i)+aJ b32 (ys.take i)->
   GF 203 S w0 (.nat N B) Jv
     ⟨slots 58 [(0,.list 1 (aI xs)),(1,.list 1 (aI ys)),(5,.own 0 1 0 m),(6,.int .u64 ((c:Nat):Int)),(20,(.i6 (((aI xs).length:Nat):Int))),(21,.i6 ((i:Nat):Int))],
      [some ⟨362,1,true,(aI ds),none⟩]⟩:=by
 subst hmm;unfold big at hbig;intro j
 induction j with
 | zero=>
   intro i c ds hj hi hc hd hdl hinv;have hi:i=xs.length:=by omega
   subst hi;have hcm:c % 4294967296=c:=by omega
   have e0:((((aI ds).set (0+(aI xs).length) [(AV.int .u32 ((c % 4294967296:Nat):Int))]).drop 0).take (xs.length+1))=aI (ds.set xs.length c):=by
     rw[hcm,eY,aB,Nat.zero_add,List.drop_zero,gO (by simp[aB,hd])]
   have hlt:∀ x∈ds.set xs.length c,x<b32:=fH hdl (by unfold b32;omega)
   have hval:aJ b32 (ds.set xs.length c)=N:=by
     have h1:=aT b32 (ds.set xs.length c) xs.length;rw[gO (by simp[hd]),nE,dM (by omega)] at h1;rw[h1,hinv,gO (rl _),gO hl];exact hN
   refine gN wO [0,1,5,6,20,21,4] [(22,ff),(54,.int .u32 ((c % 4294967296:Nat):Int))] (.c6 (iF (show ¬ ((xs.length:Int)<((aI xs).length:Int)) by rw[aB];omega)) (show Ref (.int .u32 (IntKind.u32.wrap (c:Int))) (.int .u32 ((c % 4294967296:Nat):Int)) from Ref.md32 (by rfl)) (show 0<=((aI xs).length:Int) from Int.natCast_nonneg _) (show((aI xs).length:Int)<(((xs.length+1):Nat):Int) by rw[aB];omega) (show 0+((aI xs).length)<(aI ds).length by rw[aB,aB];omega) (show 0+(xs.length+1)<=((aI ds).set (0+((aI xs).length)) [(AV.int .u32 ((c % 4294967296:Nat):Int))]).length by simp only[List.length_set,aB];omega) (.a2 (show((((aI ds).set (0+((aI xs).length)) [(AV.int .u32 ((c % 4294967296:Nat):Int))]).drop 0).take (xs.length+1))=aI (bD ((((aI ds).set (0+((aI xs).length)) [(AV.int .u32 ((c % 4294967296:Nat):Int))]).drop 0).take (xs.length+1))) from ?_) (show ∀ x∈bD ((((aI ds).set (0+((aI xs).length)) [(AV.int .u32 ((c % 4294967296:Nat):Int))]).drop 0).take (xs.length+1)),x<b32 from ?_))) (t:=[.code .ret]) (σ:=slots 58 [(0,.list 1 (aI xs)),(1,.list 1 (aI ys)),(4,(.nat (aJ b32 (bD ((((aI ds).set (0+((aI xs).length)) [(.int .u32 ((c % 4294967296:Nat):Int))]).drop 0).take (xs.length+1)))) (32*((((aI ds).set (0+((aI xs).length)) [(.int .u32 ((c % 4294967296:Nat):Int))]).drop 0).take (xs.length+1)).length))),(5,.own 0 1 0 (xs.length+1)),(6,.int .u64 (c:Int)),(20,.i6 ((aI xs).length:Int)),(21,.i6 (xs.length:Int))]) (h:=[none,none]) ?_
   · rw[e0,cC]
   · rw[e0,cC];exact hlt
   · refine bX aX (fn:=Tryz.f203) (by kernel_rfl) 4 (by kernel_rfl) rfl (by rfl) ?_
     show Ref (.nat (aJ b32 (bD ((((aI ds).set (0+((aI xs).length)) [(AV.int .u32 ((c % 4294967296:Nat):Int))]).drop 0).take (xs.length+1)))) _) _;rw[e0,cC,hval];exact Ref.natB hB
 | succ j ih=>
   intro i c ds hj hi hc hd hdl hinv;have hlt:i<xs.length:=by omega
   have hx1:xs.getD i 0<b32:=bC (by decide) hx i;have hy1:ys.getD i 0<b32:=bC (by decide) hy i;unfold b32 at hx1 hy1
   have nx:∀ t,t=c+xs.getD i 0+ys.getD i 0->GF 203 S w0 (.nat N B) Jv
     ⟨slots 58 [(0,.list 1 (aI xs)),(1,.list 1 (aI ys)),(5,.own 0 1 0 (xs.length+1)),(6,.int .u64 ((t/4294967296:Nat):Int)),(20,(.i6 (((aI xs).length:Nat):Int))),(21,.i6 ((i+1:Nat):Int))],
      [some ⟨362,1,true,((aI ds).set (0+i) [(AV.int .u32 ((t % 4294967296:Nat):Int))]),none⟩]⟩:=by
     intro t ht;rw[eY,Nat.zero_add];refine ih (i+1) (t/4294967296) _ (by omega) (by omega) (by omega) (by simp[hd]) (fH hdl (by unfold b32;omega)) ?_;rw[aT,aT b32 xs,aT b32 ys,nE,dM (by omega),Nat.pow_succ];have h1:t=4294967296*(t/4294967296)+t % 4294967296:=(Nat.div_add_mod _ _).symm
     have h2:b32^i*(t % 4294967296)+b32^i*b32*(t/4294967296)=b32^i*t:=by
       rw[Nat.mul_assoc, <- Nat.mul_add]
       congr 1
       unfold b32;omega
     have h3:b32^i*t=b32^i*c+b32^i*xs.getD i 0+b32^i*ys.getD i 0:=by rw[ht,Nat.mul_add,Nat.mul_add]
     omega
   have v0:(i:Int)<((aI xs).length:Int):=by rw[aB];omega
   by_cases hyl:i<ys.length
   · refine cX (p:=(i<xs.length)/\((i:Int)<((aI xs).length:Int))/\(0<=(xs.getD i 0:Int)/\(xs.getD i 0:Int)<=18446744073709551615)/\(0<=(c:Int)+(xs.getD i 0:Int)/\(c:Int)+(xs.getD i 0:Int)<=18446744073709551615)/\(i<ys.length)/\((i:Int)<((aI ys).length:Int))/\(0<=(ys.getD i 0:Int)/\(ys.getD i 0:Int)<=18446744073709551615)/\(0<=((c+xs.getD i 0:Nat):Int)+(ys.getD i 0:Int)/\((c+xs.getD i 0:Nat):Int)+(ys.getD i 0:Int)<=18446744073709551615)/\((i:Int)<(((xs.length+1):Nat):Int))/\(0+i<(aI ds).length)/\(-9223372036854775808<=(i:Int)+(1:Int)/\(i:Int)+(1:Int)<=9223372036854775807)) ?_ fun⟨q0,q1,q2,q3,q4,q5,q6,q7,q8,q9,q10⟩=>gN wO [0,1,5,6,20,21,4] [(22,tt),(27,.cptr [.int .u32 (xs.getD i 0:Int)] 0),(29,.int .u64 (xs.getD i 0:Int)),(30,.int .u64 ((c+xs.getD i 0:Nat):Int)),(34,tt),(38,.cptr [.int .u32 (ys.getD i 0:Int)] 0),(40,.int .u64 (ys.getD i 0:Int)),(41,.int .u64 ((c+xs.getD i 0+ys.getD i 0:Nat):Int)),(45,.int .u32 (((c+xs.getD i 0+ys.getD i 0) % 4294967296:Nat):Int)),(48,.int .u64 (((c+xs.getD i 0+ys.getD i 0)/4294967296:Nat):Int)),(49,.i6 ((i+1:Nat):Int))] (.c6 (iT v0) (Ref.cd32 q0) (nn i) q1 (wU (xs.getD i 0:Int) (xs.getD i 0:Int) q2) (wU ((c:Int)+(xs.getD i 0:Int)) ((c+xs.getD i 0:Nat):Int) q3) (.c6 (iT (show(i:Int)<((aI ys).length:Int) by rw[aB];omega)) (Ref.cd32 q4) (nn i) q5 (wU (ys.getD i 0:Int) (ys.getD i 0:Int) q6) (wU (((c+xs.getD i 0:Nat):Int)+(ys.getD i 0:Int)) ((c+xs.getD i 0+ys.getD i 0:Nat):Int) q7) (.c6 (show Ref (.int .u32 (IntKind.u32.wrap ((c+xs.getD i 0+ys.getD i 0:Nat):Int))) (.int .u32 (((c+xs.getD i 0+ys.getD i 0) % 4294967296:Nat):Int)) from Ref.md32 (by rfl)) (nn i) q8 q9 (show Ref (.int .u64 (((c+xs.getD i 0+ys.getD i 0:Nat):Int).fdiv (2^(min (32:Int).toNat 64)))) (.int .u64 (((c+xs.getD i 0+ys.getD i 0)/4294967296:Nat):Int)) from Ref.shrc (c:=min (Int.toNat _) _) (by rfl) (by decide)) (dc (0<=(32:Int))) (.a1 (wI ((i:Int)+(1:Int)) ((i+1:Nat):Int) q10))))) (nx _ rfl)
     simp only[aB,hd];omega
   · have hz:ys.getD i 0=0:=by simp[nG,Nat.le_of_not_lt hyl]
     refine cX (p:=(i<xs.length)/\((i:Int)<((aI xs).length:Int))/\(0<=(xs.getD i 0:Int)/\(xs.getD i 0:Int)<=18446744073709551615)/\(0<=(c:Int)+(xs.getD i 0:Int)/\(c:Int)+(xs.getD i 0:Int)<=18446744073709551615)/\((i:Int)<(((xs.length+1):Nat):Int))/\(0+i<(aI ds).length)/\(-9223372036854775808<=(i:Int)+(1:Int)/\(i:Int)+(1:Int)<=9223372036854775807)) ?_ fun⟨q0,q1,q2,q3,q4,q5,q6⟩=>gN wO [0,1,5,6,20,21,4] [(22,tt),(27,.cptr [.int .u32 (xs.getD i 0:Int)] 0),(29,.int .u64 (xs.getD i 0:Int)),(30,.int .u64 ((c+xs.getD i 0:Nat):Int)),(34,ff),(45,.int .u32 (((c+xs.getD i 0) % 4294967296:Nat):Int)),(48,.int .u64 (((c+xs.getD i 0)/4294967296:Nat):Int)),(49,.i6 ((i+1:Nat):Int))] (.c6 (iT v0) (Ref.cd32 q0) (nn i) q1 (wU (xs.getD i 0:Int) (xs.getD i 0:Int) q2) (wU ((c:Int)+(xs.getD i 0:Int)) ((c+xs.getD i 0:Nat):Int) q3) (.c6 (iF (show ¬ ((i:Int)<((aI ys).length:Int)) by rw[aB];omega)) (show Ref (.int .u32 (IntKind.u32.wrap ((c+xs.getD i 0:Nat):Int))) (.int .u32 (((c+xs.getD i 0) % 4294967296:Nat):Int)) from Ref.md32 (by rfl)) (nn i) q4 q5 (show Ref (.int .u64 (((c+xs.getD i 0:Nat):Int).fdiv (2^(min (32:Int).toNat 64)))) (.int .u64 (((c+xs.getD i 0)/4294967296:Nat):Int)) from Ref.shrc (c:=min (Int.toNat _) _) (by rfl) (by decide)) (.a2 (dc (0<=(32:Int))) (wI ((i:Int)+(1:Int)) ((i+1:Nat):Int) q6)))) (nx _ (by rw[hz,Nat.add_zero]))
     simp only[aB,hd];omega
theorem LW:bO 203 OT:=fun args r ob h ho=>by
 unfold OT at h
 split at h
 · rename_i n B m C
   cases h;have hL:max B C+1<=LIM:=ho _ (by simp);unfold LIM at hL;obtain⟨⟨hx,hxl⟩,hxn⟩:=aQ (b:=b32) (by decide) n;obtain⟨⟨hy,hyl⟩,hyn⟩:=aQ (b:=b32) (by decide) m;refine af Tryz.f203 fun S w0=> ?_
   refine Good.natlt (n:=n) (B:=B) 0 rfl fun hn=>Good.natlt (n:=m) (B:=C) 1 rfl fun hm=> ?_
   refine Good.weak 58 [(0,.list 1 (aI (aD b32 n))),(1,.list 1 (aI (aD b32 m)))] (by kernel_rfl) (.cons Ref.opn (.cons Ref.opn .nil)) ?_;have l1:=Dig.len ⟨hx,hxl⟩ (by rw[hxn];exact hn);have l2:=Dig.len ⟨hy,hyl⟩ (by rw[hyn];exact hm);generalize aD b32 n=xs at*;generalize aD b32 m=ys at*
   have hB:n+m<2^(max B C+1):=by
     have h1:=Nat.pow_le_pow_right (by decide:0<2) (Nat.le_max_left B C);have h2:=Nat.pow_le_pow_right (by decide:0<2) (Nat.le_max_right B C);rw[Nat.pow_succ];omega
   by_cases hlt:xs.length<ys.length
   · refine cX (p:=(-9223372036854775808<=((aI ys).length:Int)+(1:Int)/\((aI ys).length:Int)+(1:Int)<=9223372036854775807)/\(4*(((aI ys).length+1:Nat):Int)<=281474976710656)/\((((aI ys).length+1:Nat):Int)<=(big:Int))) (by simp only[aB];unfold big;omega) fun⟨q0,q1,q2⟩=>gN wO [0,1,5,6,20,21] [(12,tt),(17,.i6 (((aI ys).length+1:Nat):Int))] (.a6 (iT (show((aI xs).length:Int)<((aI ys).length:Int) by simp only[aB];omega)) (wI ((((aI ys).length:Nat):Int)+(1:Int)) (((aI ys).length+1:Nat):Int) q0) (rfl:(((aI ys).length+1:Nat):Int)=(((aI ys).length+1:Nat):Int)) (nn ((aI ys).length+1)) q1 q2) (t:=Jv) (σ:=slots 58 [(0,.list 1 (aI ys)),(1,.list 1 (aI xs)),(5,.own 0 1 0 ((aI ys).length+1)),(6,.int .u64 (0:Int)),(20,.i6 ((aI ys).length:Int)),(21,.i6 (0:Int))]) (h:=[some ⟨362,1,true,(List.replicate ((aI ys).length+1) [.int .u32 (0:Int)]),none⟩]) ?_
     rw[mF];refine Dt (by rw[aB]) hy hx (by omega) (by unfold big;omega) (by omega) hB _ 0 0 _ rfl (by omega) (by omega) (by simp[aB]) (nF (by decide)) (by simp[aJ])
   · refine cX (p:=(-9223372036854775808<=((aI xs).length:Int)+(1:Int)/\((aI xs).length:Int)+(1:Int)<=9223372036854775807)/\(4*(((aI xs).length+1:Nat):Int)<=281474976710656)/\((((aI xs).length+1:Nat):Int)<=(big:Int))) (by simp only[aB];unfold big;omega) fun⟨q0,q1,q2⟩=>gN wO [0,1,5,6,20,21] [(12,ff),(17,.i6 (((aI xs).length+1:Nat):Int))] (.a6 (iF (show ¬ ((((aI xs).length:Nat):Int)<((aI ys).length:Int)) by simp only[aB];omega)) (wI ((((aI xs).length:Nat):Int)+(1:Int)) (((aI xs).length+1:Nat):Int) q0) (rfl:(((aI xs).length+1:Nat):Int)=(((aI xs).length+1:Nat):Int)) (nn ((aI xs).length+1)) q1 q2) (t:=Jv) (σ:=slots 58 [(0,.list 1 (aI xs)),(1,.list 1 (aI ys)),(5,.own 0 1 0 ((aI xs).length+1)),(6,.int .u64 (0:Int)),(20,.i6 ((aI xs).length:Int)),(21,.i6 (0:Int))]) (h:=[some ⟨362,1,true,(List.replicate ((aI xs).length+1) [.int .u32 (0:Int)]),none⟩]) ?_
     rw[mF];refine Dt (by rw[aB]) hx hy (by omega) (by unfold big;omega) (by omega) hB _ 0 0 _ rfl (by omega) (by omega) (by simp[aB]) (nF (by decide)) (by simp[aJ])
 · cases h
end
def OU:KF
 | [.agg [.q x B]]=>some (.nat x.den (B+1),[max B 64+1<=LIM])
 | _=>none
theorem CG:bO 111 OU:=by
 refine cJ Tryz.f111 fun _ _ _ S w0 h ho=> ?_
 unfold OU at h;split at h <;> cases h;rename_i x B;have o1:=ho.one;have L:=dH;have K:=(kn.cons LW).cons Cz;refine Good.qlt (x:=x) (B:=B) 0 rfl fun q1 q2=> ?_
 refine rF K [] (.a3 (dc (0<=(1:Int))) (dc ((1:Int)<18446744073709551616)) o1) (V:=.nat ((x.den-1)+1) (max B 64+1)) ?_
 rw[Bu];exact Ref.natB (by have:=Bu x;rw[Nat.pow_succ];omega)
def Uv:KF
 | [.agg [.q x B],.agg [.q y C]]=>some (.agg [.q (x*y) (B+C+2)],[B+C+200<=LIM])
 | _=>none
theorem EZ:bO 29 Uv:=by
 refine cJ Tryz.f29 fun _ _ _ S w0 h ho=> ?_
 unfold Uv at h;split at h <;> cases h;rename_i x B y C;have o1:=ho.one;have L:=dH;have K:=(((kn.cons Gi).cons FU).cons CG).cons Ac;refine rF K [] (.a6 (om (B+C+128<=LIM)) (om (max B 64+1<=LIM)) (om (max C 64+1<=LIM)) (om ((B+1)+(C+1)+128<=LIM)) (show 0<(x.den*y.den) by exact Nat.mul_pos x.den_pos y.den_pos) (om (max (B+C) ((B+1)+(C+1))+128<=LIM))) (V:=.agg [.q (mkRat (iM (!((decide (x.num<0))==(decide (y.num<0)))) (x.num.natAbs*y.num.natAbs)) (x.den*y.den)) (max (B+C) ((B+1)+(C+1)))]) ?_
 refine Ref.q1 ?_ (by omega);rw[uG,vY,Fw]
def uH:=(((kn.cons CF).cons Su).cons OB).cons EZ
noncomputable abbrev KJ:List Item:=[.code (aR [1,1,1,1,1,0,1,0,0] (aA Tryz.f24)),.inLoop (aR [1,1,1,1,1,0,1,0,0] (aA Tryz.f24)),.inBlock 0,.code (aR [1,1,1,1,1,1] (aA Tryz.f24))]
def Gv (n d:Int):Rat:=(Int.cast n:Rat)/(Int.cast (if d=0 then 1 else d):Rat)
def fB (n d p:Int):Rat:=Gv n d^(p.toNat % 4+1)
def Du (n d p:Int):Prop:=(-9223372036854775808:Int)<=n/\n<=(9223372036854775807:Int)/\(-9223372036854775808:Int)<=d/\d<=(9223372036854775807:Int)/\0<=p/\p<=255
def Uw:KF
 | [.agg [.int .i64 n,.int .i64 d,.int .u8 p]]=>some (.tup [.agg [.q (fB n d p) 300],.agg [.rq (fB n d p) (fB n d p).den 300]],[Du n d p])
 | _=>none
section
variable {S:Nat->Prop} {w0:World}
theorem Gw (n d:Int) (p:Nat) (x:Rat):∀ (f k:Nat) (y:Rat) (E F:Nat),k+f=p % 4->y=x^(k+1)->E=64+66*k->F=64+64*k->
   GF 24 S w0 (.tup [.agg [.q (x^(p % 4+1)) 300],.agg [.rq (x^(p % 4+1)) (x^(p % 4+1)).den 300]])
   KJ
   ⟨slots 44 [(1,.ptr 0 3 0 0),(2,.ptr 1 3 0 0),(3,.ptr 2 4 0 0),(4,.ptr 3 3 0 0),(6,.ptr 4 4 0 0),(7,.ptr 5 3 0 0),(8,.ptr 6 4 0 0),(9,.int .u8 ((k:Nat):Int))],
     [some ⟨29,3,false,[[(.i6 n),(.i6 d),(.int .u8 ((p:Nat):Int))]],none⟩,some ⟨56,3,false,[[(.q 0 0)]],none⟩,some ⟨66,4,false,[[(.rq 0 0 0)]],none⟩,some ⟨56,3,false,[[(.q x 64)]],none⟩,some ⟨66,4,false,[[(.rq x x.den 64)]],none⟩,some ⟨56,3,false,[[(.q y E)]],none⟩,some ⟨66,4,false,[[(.rq y y.den F)]],none⟩]⟩:=by
 intro f;have v0:Ref (.int .u8 ((p:Int).tmod (4:Int))) (.int .u8 ((p % 4:Nat):Int)):=Ref.rem (a:=p) (b:=4) rfl rfl
 induction f with
 | zero=>
   intro k y E F h hy hE hF;have hk:k=p % 4:=by omega
   subst hy;subst hE;subst hF;refine rF uH [(32,.int .u8 ((p % 4:Nat):Int)),(33,ff)] (.a3 v0 (dc ((4:Int)≠0)) (iF (om (¬ ((k:Int)<((p % 4:Nat):Int)))))) (V:=.tup [.agg [.q (x^(k+1)) (64+66*k)],.agg [.rq (x^(k+1)) (x^(k+1)).den (64+64*k)]]) ?_
   rw[<- hk];show Ref (.tup [.agg [.q (x^(k+1)) (64+66*k)],.agg [.rq (x^(k+1)) (x^(k+1)).den (64+64*k)]]) (.tup [.agg [.q (x^(k+1)) 300],.agg [.rq (x^(k+1)) (x^(k+1)).den 300]]);have h1:64+66*k<=300:=by omega
   have h2:64+64*k<=300:=by omega
   exact Ref.tup2 (Ref.agg (RefC.q_le h1)) (Ref.agg (RefC.rq_le h2)) rfl rfl rfl rfl
 | succ f ih=>
   intro k y E F h hy hE hF;refine gR uH none [1,2,3,4,6,7,8,9] [0,1,2,3,4,5,6] [(32,.int .u8 ((p % 4:Nat):Int)),(33,tt),(35,.int .u8 ((k+1:Nat):Int))] (.a6 v0 (dc ((4:Int)≠0)) (iT (om ((k:Int)<((p % 4:Nat):Int)))) (show E+64+200<=LIM by unfold LIM;omega) (show max F 64+max 64 64+(max F 64+max 64 64)+300<=LIM by unfold LIM;omega) (wB ((k:Int)+(1:Int)) ((k+1:Nat):Int))) (t:=KJ) (σ:=slots 44 [(1,.ptr 0 3 0 0),(2,.ptr 1 3 0 0),(3,.ptr 2 4 0 0),(4,.ptr 3 3 0 0),(6,.ptr 4 4 0 0),(7,.ptr 5 3 0 0),(8,.ptr 6 4 0 0),(9,.int .u8 ((k+1:Nat):Int))]) (h:=[some ⟨29,3,false,[[.i6 n,.i6 d,.int .u8 (p:Int)]],none⟩,some ⟨56,3,false,[[.q 0 0]],none⟩,some ⟨66,4,false,[[.rq 0 0 0]],none⟩,some ⟨56,3,false,[[.q x 64]],none⟩,some ⟨66,4,false,[[.rq x x.den 64]],none⟩,some ⟨56,3,false,[[.q (y*x) (E+64+2)]],none⟩,some ⟨66,4,false,[[.rq (y*x) ((y*x).den) (max F 64+max 64 64)]],none⟩]) ?_
   exact ih (k+1) (y*x) _ _ (by omega) (by rw[hy,Rat.pow_succ x (k+1)]) (by omega) (by omega)
end
theorem OV:bO 24 Uw:=by
 refine cJ Tryz.f24 fun _ _ _ S w0 h ho=> ?_
 unfold Uw at h;split at h <;> cases h;rename_i n d p;obtain⟨o1,o2,o3,o4,o5,o6⟩:Du n d p:=ho _ (by simp);clear ho;obtain⟨p,rfl⟩:=Int.eq_ofNat_of_zero_le o5;have hp:(((p:Nat):Int)).toNat=p:=by simp
 unfold fB;rw[hp]
 by_cases hd:d=0
 · have hB:Gv n d=(Int.cast n:Rat)/(Int.cast 1:Rat):=by unfold Gv;rw[if_pos hd]
   rw[hB];have v0:(-9223372036854775808:Int)<=1:=by decide
   have v1:1<=(9223372036854775807:Int):=by decide
   exact gR uH none [1,2,3,4,6,7,8,9] [0,1,2,4,6,7,8] [(12,tt)] (.c6 (iT hd) o1 o2 v0 v1 o1 (.a4 o2 v0 v1 (dc ((1:Int)≠0)))) (Gw n 1 p _ (p % 4) 0 _ _ _ (by omega) (Rat.pow_one _).symm rfl rfl)
 · have hB:Gv n d=(Int.cast n:Rat)/(Int.cast d:Rat):=by unfold Gv;rw[if_neg hd]
   rw[hB];exact gR uH none [1,2,3,4,6,7,8,9] [0,1,2,4,6,7,8] [(12,ff)] (.c6 (iF hd) o1 o2 o3 o4 o1 (.a4 o2 o3 o4 hd)) (Gw n d p _ (p % 4) 0 _ _ _ (by omega) (Rat.pow_one _).symm rfl rfl)
def Ux:KF
 | [.agg [.int .i64 n,.int .i64 d,.int .u8 p,.int .i64 m,.int .i64 e,.int .u8 r]]=>some (.tup [.agg [.q (fB n d p) 300,.q (fB m e r) 300],.agg [.rq (fB n d p) (fB n d p).den 300,.rq (fB m e r) (fB m e r).den 300]],[Du n d p,Du m e r])
 | _=>none
theorem Sg:bO 23 Ux:=by
 refine cJ Tryz.f23 fun _ _ _ S w0 h ho=> ?_
 unfold Ux at h;split at h <;> cases h;rename_i n d p m e r;obtain⟨o1,o2⟩:=ho.e2;have K:=kn.cons OV;exact rR K [] (.a2 o1 o2)
end Go.Av
namespace Go.Av
open Go.RowKit
structure NumD where
 n:Int
 d:Int
 p:Int
 deriving Inhabited
structure SpotD where
 x:NumD
 z:NumD
 deriving Inhabited
structure PtD where
 x:Rat
 z:Rat
 deriving Inhabited
def NumD.ok (a:NumD):Prop:=Du a.n a.d a.p
def NumD.val (a:NumD):Rat:=fB a.n a.d a.p
def SpotD.ok (a:SpotD):Prop:=a.x.ok/\a.z.ok
def SpotD.pt (a:SpotD):PtD:=⟨a.x.val,a.z.val⟩
def unNum (a:NumD):List AV:=[.int .i64 a.n,.int .i64 a.d,.int .u8 a.p]
def unSpot (s:SpotD):List AV:=[.int .i64 s.x.n,.int .i64 s.x.d,.int .u8 s.x.p,.int .i64 s.z.n,.int .i64 s.z.d,.int .u8 s.z.p]
def jE:List AV->NumD
 | [.int _ n,.int _ d,.int _ p]=>⟨n,d,p⟩
 | _=>default
def dK:List AV->SpotD
 | [.int _ n,.int _ d,.int _ p,.int _ m,.int _ e,.int _ q]=>⟨⟨n,d,p⟩,⟨m,e,q⟩⟩
 | _=>default
def dV (B:Nat) (a:PtD):List AV:=[.q a.x B,.q a.z B]
def iK (B:Nat) (a:PtD):List AV:=[.rq a.x a.x.den B,.rq a.z a.z.den B]
theorem kW {α:Type} {f:List AV->α} {g:α->List AV} (h:∀ a,f (g a)=a) (l:List α):(l.map g).map f=l:=by
 rw[List.map_map];conv=>rhs;rw[<- List.map_id l]
 exact List.map_congr_left fun a _=>h a
theorem wP (l:List NumD):(l.map unNum).map jE=l:=kW (fun _=>rfl) l
theorem dZ (l:List SpotD):(l.map unSpot).map dK=l:=kW (fun _=>rfl) l
theorem Gx {α:Type} [Inhabited α] {f:α->List AV} {xs:List α} {i:Nat} (h:i<xs.length):(xs.map f).getD i []=f (xs.getD i default):=by
 simp[List.getD_eq_getElem?_getD,List.getElem?_eq_getElem h]
theorem Ref.cmap {α:Type} [Inhabited α] {f:α->List AV} {xs:List α} {i:Nat} (h:i<xs.length):Ref (.cptr ((xs.map f).getD i []) 0) (.cptr (f (xs.getD i default)) 0):=Ref.eq (by rw[Gx h])
theorem eK {α:Type} [Inhabited α] {f:α->List AV} (xs:List α):xs.map f=(List.range xs.length).map fun i=>f (xs.getD i default):=by
 refine List.ext_getElem (by simp) fun i h1 h2=> ?_
 simp at h1;simp[List.getD_eq_getElem?_getD,h1]
theorem eB {α:Type} [Inhabited α] {xs:List α} {i:Nat} (h:i<xs.length):xs.getD i default∈xs:=by
 simp[List.getD_eq_getElem?_getD,List.getElem?_eq_getElem h]
section
theorem wQ (n:Nat) (X Y:Nat->List AV) (st:AV->AV->Nat->List (Option ABlk)->St) (k l e e' ty ty':Nat)
   (h0:0<n->Good P f S0 C0 w0 Post todo (st (.own k e 0 1) (.own l e' 0 1) 1 [some ⟨ty,e,true,[X 0],none⟩,some ⟨ty',e',true,[Y 0],none⟩])->Good P f S0 C0 w0 Post todo (st .nil .nil 0 []))
   (hs:∀ i A B,0<i->i<n->A.length=i->B.length=i->Good P f S0 C0 w0 Post todo (st (.own k e 0 (i+1)) (.own l e' 0 (i+1)) (i+1) [some ⟨ty,e,true,A++ [X i],none⟩,some ⟨ty',e',true,B++ [Y i],none⟩])->
     Good P f S0 C0 w0 Post todo (st (.own k e 0 i) (.own l e' 0 i) i [some ⟨ty,e,true,A,none⟩,some ⟨ty',e',true,B,none⟩]))
   (hz:∀ A B,0<n->A.length=n->B.length=n->Good P f S0 C0 w0 Post todo (st (.list e A) (.list e' B) n [])->Good P f S0 C0 w0 Post todo (st (.own k e 0 n) (.own l e' 0 n) n [some ⟨ty,e,true,A,none⟩,some ⟨ty',e',true,B,none⟩]))
   (hn:n=0->Good P f S0 C0 w0 Post todo (st (.list e []) (.list e' []) 0 [])->Good P f S0 C0 w0 Post todo (st .nil .nil 0 []))
   (hX:XS=(List.range n).map X) (hY:YS=(List.range n).map Y) (hend:Good P f S0 C0 w0 Post todo (st (.list e XS) (.list e' YS) n [])):Good P f S0 C0 w0 Post todo (st .nil .nil 0 []):=by
 subst hX;subst hY
 by_cases hp:n=0
 · subst hp;exact hn rfl hend
 · have key:∀ f' i,0<i->i+f'=n->Good P f S0 C0 w0 Post todo (st (.own k e 0 i) (.own l e' 0 i) i [some ⟨ty,e,true,(List.range i).map X,none⟩,some ⟨ty',e',true,(List.range i).map Y,none⟩]):=by
     intro f'
     induction f' with
     | zero=>
       intro i hi h;have:i=n:=by omega
       subst this;exact hz _ _ (by omega) (by simp) (by simp) hend
     | succ f' ih=>
       intro i hi h;have nx:=ih (i+1) (by omega) (by omega);rw[List.range_succ,List.map_append,List.map_append] at nx;exact hs i _ _ hi (by omega) (by simp) (by simp) nx
   exact h0 (by omega) (key (n-1) 1 (by omega) (by omega))
theorem Good.weakB (l i:Nat) (hl:h[l]? =some (some b)) (he:b.elems[i]? =some el) (hr:RefC el el')
   (hg:Good P f S0 C0 w0 Post todo ⟨σ,h.set l (some { b with elems:=b.elems.set i el' })⟩):Good P f S0 C0 w0 Post todo ⟨σ,h⟩:=by
 refine hg.map fun ρ D a w R=>⟨ρ,D, ?_⟩
 have hlen:l<h.length:=(List.getElem?_eq_some_iff.1 hl).1
 have hget:∀ (j:Nat) (c:ABlk),(h.set l (some { b with elems:=b.elems.set i el' }))[j]? =some (some c)->∃ d,h[j]? =some (some d)/\c.pin=d.pin/\(c=d\/j=l/\d=b/\c={ b with elems:=b.elems.set i el' }):=by
   intro j c hc;rw[List.getElem?_set] at hc
   split at hc
   · rename_i hjl;subst hjl
     injection hc with hc;injection hc with hc;subst hc;exact⟨b,hl,rfl,.inr ⟨rfl,rfl,rfl⟩⟩
   · exact⟨c,hc,rfl,.inl rfl⟩
 have hget':∀ (j:Nat) (d:ABlk),h[j]? =some (some d)->∃ c,(h.set l (some { b with elems:=b.elems.set i el' }))[j]? =some (some c):=by
   intro j d hd;rw[List.getElem?_set]
   split
   · rename_i hjl;subst hjl
     exact⟨_,rfl⟩
   · exact⟨d,hd⟩
 have hS:Sof S0 ρ (h.set l (some { b with elems:=b.elems.set i el' }))=Sof S0 ρ h:=by
   funext k;apply propext
   constructor
   · rintro(h | ⟨j,c,hc,e⟩)
     · exact .inl h
     · obtain⟨d,hd,_⟩:=hget j c hc;exact .inr ⟨j,d,hd,e⟩
   · rintro(h | ⟨j,d,hd,e⟩)
     · exact .inl h
     · obtain⟨c,hc⟩:=hget' j d hd;exact .inr ⟨j,c,hc,e⟩
 exact {
   defers:=R.defers
   len:=R.len
   tmps:=fun t v hv=>by rw[hS];exact R.tmps t v hv
   heap := fun j c hc=>by
     obtain⟨d,hd,_,hcd⟩:=hget j c hc;rw[hS];rcases hcd with rfl | ⟨rfl,rfl,rfl⟩
     · exact R.heap j c hd
     · obtain⟨h1,arr,h2,h3,h4⟩:=R.heap j d hd
       refine⟨h1,arr,h2,by simpa using h3,fun m el2 hm=> ?_⟩
       dsimp only at hm ⊢
       rw[List.getElem?_set] at hm
       split at hm
       · rename_i him;subst him
         split at hm
         · injection hm with hm;subst hm
           exact hr _ _ _ _ _ (h4 i el he)
         · cases hm
       · exact h4 m el2 hm
   inj:=fun j j' c c' hc hc' e=>by
     obtain⟨d,hd,_⟩:=hget j c hc;obtain⟨d',hd',_⟩:=hget j' c' hc';exact R.inj j j' d d' hd hd' e
   lt:=R.lt
   dlt:=fun i hi=>by
     have:=R.dlt i hi;simpa using this
   chg:=R.chg
   mine:=fun j c hc=>by
     obtain⟨d,hd,hp,_⟩:=hget j c hc
     have:=R.mine j d hd;unfold DY at this ⊢
     rw[hp];exact this }
end
end Go.Av
namespace Go.Av
open Go.Proofs Go.RowKit
def BF:ByteArray:=ByteArray.mk #[97,98,99,100,101,102,103,104,105,106,107,108,109,110,111,112,113,114,115,116,117,118,119,120,121,122]
def tP (i:Nat):ByteArray:=if i<26 then BF.extract i (i+1) else ByteArray.mk #[]
def OW:KF
 | [.int .i64 i]=>some (.str (tP i.toNat),[0<=i,i.toNat<=4611686018427387904])
 | _=>none
theorem Sv:bO 102 OW:=by
 refine cJ Tryz.f102 fun _ _ _ S w0 h ho=> ?_
 unfold OW at h;split at h <;> cases h;rename_i i;obtain⟨o1000,o1⟩:=ho.e2;obtain⟨i,rfl⟩:=Int.eq_ofNat_of_zero_le o1000;clear o1000;replace o1:i<=4611686018427387904:=o1;have hz:BF.size=26:=by decide
 have v0:Ref (.str (ByteArray.mk #[97,98,99,100,101,102,103,104,105,106,107,108,109,110,111,112,113,114,115,116,117,118,119,120,121,122])) (.str BF):=by exact rr
 by_cases h1:((i:Nat):Int)<((BF.size:Nat):Int)
 · refine rF .nil [(3,.str BF),(7,tt),(11,.i6 ((i+1:Nat):Int))] (.c6 v0 (iT h1) (wI ((i:Int)+(1:Int)) ((i+1:Nat):Int) (by omega)) (nn (i+1)) (om (((i+1:Nat):Int)<=(BF.size:Int))) (nn i) (.a1 (om ((i:Int)<=((i+1:Nat):Int))))) (V:=.str (BF.extract i (i+1))) (r:=.str (tP i)) ?_
   unfold tP;rw[if_pos (by omega)];exact rr
 · refine rF .nil [(3,.str BF),(7,ff)] (.a2 v0 (iF h1)) (V:=.str (ByteArray.mk #[])) (r:=.str (tP i)) ?_
   unfold tP;rw[if_neg (by omega)];exact rr
end Go.Av
namespace Go.Av
open Go.RowKit
def BG:List AV->PtD
 | [.q x _,.q z _]=>⟨x,z⟩
 | _=>default
theorem uI {B:Nat} (l:List PtD):(l.map (dV B)).map BG=l:=kW (fun v=>by cases v;rfl) l
structure LimbD where
 par:Int
 at_:SpotD
 c:SpotD
 ma:NumD
 inr:NumD
 low:NumD
 high:NumD
 shape:List SpotD
 deriving Inhabited
structure BodyD where
 name:ByteArray
 par:Int
 at_:PtD
 c:PtD
 ma:Rat
 inr:Rat
 low:Rat
 high:Rat
 shape:List PtD
 deriving Inhabited
def dS (v:LimbD):List AV:=[.int .i64 v.par,.int .i64 v.at_.x.n,.int .i64 v.at_.x.d,.int .u8 v.at_.x.p,.int .i64 v.at_.z.n,.int .i64 v.at_.z.d,.int .u8 v.at_.z.p,.int .i64 v.c.x.n,.int .i64 v.c.x.d,.int .u8 v.c.x.p,.int .i64 v.c.z.n,.int .i64 v.c.z.d,.int .u8 v.c.z.p,.int .i64 v.ma.n,.int .i64 v.ma.d,.int .u8 v.ma.p,.int .i64 v.inr.n,.int .i64 v.inr.d,.int .u8 v.inr.p,.int .i64 v.low.n,.int .i64 v.low.d,.int .u8 v.low.p,.int .i64 v.high.n,.int .i64 v.high.d,.int .u8 v.high.p,.list 6 (v.shape.map unSpot)]
def aH (B:Nat) (v:BodyD):List AV:=[.str v.name,.int .i64 v.par,.q v.at_.x B,.q v.at_.z B,.q v.ma B,.q v.inr B,.q v.c.x B,.q v.c.z B,.q v.low B,.q v.high B,.list 6 (v.shape.map (dV B))]
def aK (B:Nat) (v:BodyD):List AV:=[.int .i64 v.par,.rq v.at_.x v.at_.x.den B,.rq v.at_.z v.at_.z.den B,.rq v.ma v.ma.den B,.rq v.inr v.inr.den B,.rq v.c.x v.c.x.den B,.rq v.c.z v.c.z.den B,.rq v.low v.low.den B,.rq v.high v.high.den B,.list 8 (v.shape.map (iK B))]
def reBody:List AV->BodyD
 | [.str name,.int _ par,.q at_x _,.q at_z _,.q ma _,.q inr _,.q cx _,.q cz _,.q low _,.q high _,.list _ shape]=>⟨name,par,⟨at_x,at_z⟩,⟨cx,cz⟩,ma,inr,low,high,shape.map BG⟩
 | _=>default
theorem iO {B:Nat} (l:List BodyD):(l.map (aH B)).map reBody=l:=kW (fun v=>by cases v;simp only[reBody,aH,uI]) l
def CH:List AV->LimbD
 | [.int _ par,.int _ at_xn,.int _ at_xd,.int _ at_xp,.int _ at_zn,.int _ at_zd,.int _ at_zp,.int _ cxn,.int _ cxd,.int _ cxp,.int _ czn,.int _ czd,.int _ czp,.int _ man,.int _ mad,.int _ map,.int _ inrn,.int _ inrd,.int _ inrp,.int _ lown,.int _ lowd,.int _ lowp,.int _ highn,.int _ highd,.int _ highp,.list _ shape]=>⟨par,⟨⟨at_xn,at_xd,at_xp⟩,⟨at_zn,at_zd,at_zp⟩⟩,⟨⟨cxn,cxd,cxp⟩,⟨czn,czd,czp⟩⟩,⟨man,mad,map⟩,⟨inrn,inrd,inrp⟩,⟨lown,lowd,lowp⟩,⟨highn,highd,highp⟩,shape.map dK⟩
 | _=>default
theorem EF (l:List LimbD):(l.map dS).map CH=l:=kW (fun v=>by cases v;simp only[CH,dS,dZ]) l
def LimbD.ok (v:LimbD):Prop:=v.at_.ok/\v.c.ok/\v.ma.ok/\v.inr.ok/\v.low.ok/\v.high.ok/\(∀ s∈v.shape,s.ok)/\v.shape.length*128<=140737488355328
def LimbD.real (name:ByteArray) (v:LimbD):BodyD:=⟨name,v.par,v.at_.pt,v.c.pt,v.ma.val,v.inr.val,v.low.val,v.high.val,v.shape.map SpotD.pt⟩
structure CordD where
 a:Int
 b:Int
 from_:SpotD
 to:SpotD
 k:NumD
 deriving Inhabited
structure CordyD where
 a:Int
 b:Int
 from_:PtD
 to:PtD
 k:Rat
 deriving Inhabited
def cG (v:CordD):List AV:=[.int .i64 v.a,.int .i64 v.b,.int .i64 v.from_.x.n,.int .i64 v.from_.x.d,.int .u8 v.from_.x.p,.int .i64 v.from_.z.n,.int .i64 v.from_.z.d,.int .u8 v.from_.z.p,.int .i64 v.to.x.n,.int .i64 v.to.x.d,.int .u8 v.to.x.p,.int .i64 v.to.z.n,.int .i64 v.to.z.d,.int .u8 v.to.z.p,.int .i64 v.k.n,.int .i64 v.k.d,.int .u8 v.k.p]
def aN (B:Nat) (v:CordyD):List AV:=[.int .i64 v.a,.int .i64 v.b,.q v.from_.x B,.q v.from_.z B,.q v.to.x B,.q v.to.z B,.q v.k B]
def bP (B:Nat) (v:CordyD):List AV:=[.int .i64 v.a,.int .i64 v.b,.rq v.from_.x v.from_.x.den B,.rq v.from_.z v.from_.z.den B,.rq v.to.x v.to.x.den B,.rq v.to.z v.to.z.den B,.rq v.k v.k.den B]
def dF:List AV->CordyD
 | [.int _ a,.int _ b,.q from_x _,.q from_z _,.q tox _,.q toz _,.q k _]=>⟨a,b,⟨from_x,from_z⟩,⟨tox,toz⟩,k⟩
 | _=>default
theorem kM {B:Nat} (l:List CordyD):(l.map (aN B)).map dF=l:=kW (fun v=>by cases v;simp only[dF,aN]) l
def Af:List AV->CordD
 | [.int _ a,.int _ b,.int _ from_xn,.int _ from_xd,.int _ from_xp,.int _ from_zn,.int _ from_zd,.int _ from_zp,.int _ toxn,.int _ toxd,.int _ toxp,.int _ tozn,.int _ tozd,.int _ tozp,.int _ kn,.int _ kd,.int _ kp]=>⟨a,b,⟨⟨from_xn,from_xd,from_xp⟩,⟨from_zn,from_zd,from_zp⟩⟩,⟨⟨toxn,toxd,toxp⟩,⟨tozn,tozd,tozp⟩⟩,⟨kn,kd,kp⟩⟩
 | _=>default
theorem EG (l:List CordD):(l.map cG).map Af=l:=kW (fun v=>by cases v;simp only[Af,cG]) l
def CordD.ok (v:CordD):Prop:=v.from_.ok/\v.to.ok/\v.k.ok
def CordD.real (v:CordD):CordyD:=⟨v.a,v.b,v.from_.pt,v.to.pt,v.k.val⟩
structure DriveD where
 body:Int
 t:NumD
 h:NumD
 c:NumD
 m:NumD
 deriving Inhabited
structure MotorD where
 body:Int
 t:Rat
 h:Rat
 c:Rat
 m:Rat
 deriving Inhabited
def eA (v:DriveD):List AV:=[.int .i64 v.body,.int .i64 v.t.n,.int .i64 v.t.d,.int .u8 v.t.p,.int .i64 v.h.n,.int .i64 v.h.d,.int .u8 v.h.p,.int .i64 v.c.n,.int .i64 v.c.d,.int .u8 v.c.p,.int .i64 v.m.n,.int .i64 v.m.d,.int .u8 v.m.p]
def aV (B:Nat) (v:MotorD):List AV:=[.int .i64 v.body,.q v.t B,.q v.h B,.q v.c B,.q v.m B]
def jG (B:Nat) (v:MotorD):List AV:=[.int .i64 v.body,.rq v.t v.t.den B,.rq v.h v.h.den B,.rq v.c v.c.den B,.rq v.m v.m.den B]
def gK:List AV->MotorD
 | [.int _ body,.q t _,.q h _,.q c _,.q m _]=>⟨body,t,h,c,m⟩
 | _=>default
theorem pV {B:Nat} (l:List MotorD):(l.map (aV B)).map gK=l:=kW (fun v=>by cases v;simp only[gK,aV]) l
def Ag:List AV->DriveD
 | [.int _ body,.int _ tn,.int _ td,.int _ tp,.int _ hn,.int _ hd,.int _ hp,.int _ cn,.int _ cd,.int _ cp,.int _ mn,.int _ md,.int _ mp]=>⟨body,⟨tn,td,tp⟩,⟨hn,hd,hp⟩,⟨cn,cd,cp⟩,⟨mn,md,mp⟩⟩
 | _=>default
theorem CI (l:List DriveD):(l.map eA).map Ag=l:=kW (fun v=>by cases v;simp only[Ag,eA]) l
def DriveD.ok (v:DriveD):Prop:=v.t.ok/\v.h.ok/\v.c.ok/\v.m.ok
def DriveD.real (v:DriveD):MotorD:=⟨v.body,v.t.val,v.h.val,v.c.val,v.m.val⟩
structure SoleD where
 body:Int
 pts:List SpotD
 fr:NumD
 deriving Inhabited
structure FootD where
 body:Int
 pts:List PtD
 fr:Rat
 deriving Inhabited
def dT (v:SoleD):List AV:=[.int .i64 v.body,.list 6 (v.pts.map unSpot),.int .i64 v.fr.n,.int .i64 v.fr.d,.int .u8 v.fr.p]
def bH (B:Nat) (v:FootD):List AV:=[.int .i64 v.body,.list 6 (v.pts.map (dV B)),.q v.fr B]
def uJ (B:Nat) (v:FootD):List AV:=[.int .i64 v.body,.list 8 (v.pts.map (iK B)),.rq v.fr v.fr.den B]
def fO:List AV->FootD
 | [.int _ body,.list _ pts,.q fr _]=>⟨body,pts.map BG,fr⟩
 | _=>default
theorem sV {B:Nat} (l:List FootD):(l.map (bH B)).map fO=l:=kW (fun v=>by cases v;simp only[fO,bH,uI]) l
def CJ:List AV->SoleD
 | [.int _ body,.list _ pts,.int _ frn,.int _ frd,.int _ frp]=>⟨body,pts.map dK,⟨frn,frd,frp⟩⟩
 | _=>default
theorem EH (l:List SoleD):(l.map dT).map CJ=l:=kW (fun v=>by cases v;simp only[CJ,dT,dZ]) l
def SoleD.ok (v:SoleD):Prop:=(∀ s∈v.pts,s.ok)/\v.pts.length*128<=140737488355328/\v.fr.ok
def SoleD.real (v:SoleD):FootD:=⟨v.body,v.pts.map SpotD.pt,v.fr.val⟩
structure RigD where
 limbs:List LimbD
 springs:List CordD
 tendons:List CordD
 drives:List DriveD
 soles:List SoleD
 deriving Inhabited
structure MachD where
 name:ByteArray
 bodies:List BodyD
 springs:List CordyD
 tendons:List CordyD
 motors:List MotorD
 feet:List FootD
 deriving Inhabited
def cV (r:RigD):List AV:=[.list 26 (r.limbs.map dS),.list 17 (r.springs.map cG),.list 17 (r.tendons.map cG),.list 13 (r.drives.map eA),.list 5 (r.soles.map dT)]
def iC:List AV->RigD
 | [.list _ a,.list _ b,.list _ c,.list _ d,.list _ e]=>⟨a.map CH,b.map Af,c.map Af,d.map Ag,e.map CJ⟩
 | _=>default
def aE (B:Nat) (m:MachD):List AV:=[.str m.name,.list 27 (m.bodies.map (aH B)),.list 17 (m.springs.map (aN B)),.list 17 (m.tendons.map (aN B)),.list 13 (m.motors.map (aV B)),.list 5 (m.feet.map (bH B))]
def iV (B:Nat) (m:MachD):List AV:=[.list 34 (m.bodies.map (aK B)),.list 22 (m.springs.map (bP B)),.list 22 (m.tendons.map (bP B)),.list 17 (m.motors.map (jG B)),.list 6 (m.feet.map (uJ B))]
def aG:List AV->MachD
 | [.str a,.list _ b,.list _ c,.list _ d,.list _ e,.list _ f]=>⟨a,b.map reBody,c.map dF,d.map dF,e.map gK,f.map fO⟩
 | _=>default
theorem aW {B:Nat} (m:MachD):aG (aE B m)=m:=by cases m;simp only[aG,aE,iO,kM,pV,sV]
def kN:ByteArray:=ByteArray.mk #[114,105,103]
def nN (l:List LimbD):List BodyD:=(List.range l.length).map fun i=>(l.getD i default).real (tP i)
def RigD.real (r:RigD):MachD:=⟨kN,nN r.limbs,r.springs.map CordD.real,r.tendons.map CordD.real,r.drives.map DriveD.real,r.soles.map SoleD.real⟩
def RigD.ok (r:RigD):Prop:=(∀ v∈r.limbs,v.ok)/\(∀ v∈r.springs,v.ok)/\(∀ v∈r.tendons,v.ok)/\(∀ v∈r.drives,v.ok)/\(∀ v∈r.soles,v.ok)/\
 r.limbs.length*1024<=140737488355328/\r.springs.length*1024<=140737488355328/\r.tendons.length*1024<=140737488355328/\r.drives.length*1024<=140737488355328/\r.soles.length*1024<=140737488355328
end Go.Av
namespace Go.Av
open Go.Proofs Go.RowKit
def gL:=kn
noncomputable abbrev Dv:List Item:=[.code (aR [1,1,0,1,0,0] (aA Tryz.f20)),.inLoop (aR [1,1,0,1,0,0] (aA Tryz.f20)),.inBlock 0,.code (aR [1,1,1] (aA Tryz.f20))]
noncomputable abbrev KK:List Item:=[.code (aR [1,1,1,0,1,0,0] (aA Tryz.f20)),.inLoop (aR [1,1,1,0,1,0,0] (aA Tryz.f20)),.inBlock 2,.code (aR [1,1,1,1] (aA Tryz.f20))]
def RigD.small (r:RigD):Bool:=decide (r.limbs.length<=8/\r.springs.length<=5/\r.tendons.length<=5/\r.drives.length<=9/\r.soles.length<=5/\(∀ v∈r.limbs,v.shape.length<=6)/\(∀ v∈r.soles,v.pts.length<=6))
def Uy:KF
 | [.agg R]=>some (.bool (iC R).small,[R=cV (iC R)])
 | _=>none
theorem pW   {G:Nat->Prop} (n:Nat) (hend:G n) (hs:∀ i,i<n->G (i+1)->G i):G 0:=by
 have key:∀ f i,i+f=n->G i:=by
   intro f
   induction f with
   | zero => intro i h;have:i=n:=by omega
             subst this;exact hend
   | succ f ih=>intro i h;exact hs i (by omega) (ih (i+1) (by omega))
 exact key n 0 (by omega)
theorem BH {α:Type} [Inhabited α] {xs:List α} {p:α->Prop} (h:∀ j,j<xs.length->p (xs.getD j default)):∀ v∈xs,p v:=fun v hv=>by
 obtain⟨j,hj,rfl⟩:=List.getElem_of_mem hv
 have:=h j hj;simpa[nG,hj] using this
section
variable {S:Nat->Prop} {w0:World}
theorem Uz {r:RigD} {todo:List Item} {σ:List AV} {h:List (Option ABlk)} {b:Bool} (e:b=r.small) (hσ:σ.getD 2 .any= .bool b):GF 20 S w0 (.bool r.small) (.code .ret::todo) ⟨σ,h⟩:=
 bX aX (fn:=Tryz.f20) (by kernel_rfl) 2 (by kernel_rfl) rfl (by rw[hσ];rfl) (by rw[hσ,e];exact rr)
theorem Jw {r:RigD} (h0:r.limbs.length<=8/\r.springs.length<=5/\r.tendons.length<=5/\r.drives.length<=9/\r.soles.length<=5/\(∀ v∈r.limbs,v.shape.length<=6)):
   GF 20 S w0 (.bool r.small) KK
   ⟨slots 63 [(1,.ptr 0 5 0 0),(4,.i6 ((0:Nat):Int))],[some ⟨27,5,false,[cV r],none⟩]⟩:=by
 refine pW (G:=fun i=>(∀ j,j<i->(r.soles.getD j default).pts.length<=6)->GF 20 S w0 (.bool r.small) KK
   ⟨slots 63 [(1,.ptr 0 5 0 0),(4,.i6 ((i:Nat):Int))],[some ⟨27,5,false,[cV r],none⟩]⟩) r.soles.length ?_ ?_ (fun j hj=>absurd hj (Nat.not_lt_zero j))
 · intro hj
   exact rF gL [(52,ff)] (.a1 (iF (show ¬ ((r.soles.length:Int)<((r.soles.map dT).length:Int)) by rw[bM];omega))) (V:=.bool true) (Ref.bool (decide_eq_true ⟨h0.1,h0.2.1,h0.2.2.1,h0.2.2.2.1,h0.2.2.2.2.1,h0.2.2.2.2.2,BH hj⟩).symm)
 · intro i hlt ih hj
   have v0:(i:Int)<((r.soles.map dT).length:Int):=by rw[bM];omega
   have v1:Ref (.cptr ((r.soles.map dT).getD i []) 0) (.cptr (dT (r.soles.getD i default)) 0):=Ref.cmap hlt
   by_cases c:(r.soles.getD i default).pts.length<=6
   · have hl:=h0.2.2.2.2.1
     exact gN gL [1,2,4] [(52,tt),(58,.cptr (dT (r.soles.getD i default)) 0),(62,ff),(54,.i6 ((i+1:Nat):Int))] (.a6 (iT v0) v1 (nn i) v0 (iF (show ¬ ((6:Int)<(((r.soles.getD i default).pts.map unSpot).length:Int)) by rw[bM];omega)) (wI ((i:Int)+(1:Int)) ((i+1:Nat):Int))) (ih fun j hj'=>if e:j=i then e▸c else hj j (by omega))
   · exact rF gL [(52,tt),(58,.cptr (dT (r.soles.getD i default)) 0),(62,tt)] (.a5 (iT v0) v1 (nn i) v0 (iT (show(6:Int)<(((r.soles.getD i default).pts.map unSpot).length:Int) by rw[bM];omega))) (V:=.bool false) (Ref.bool (decide_eq_false fun h=>c (h.2.2.2.2.2.2 _ (eB hlt))).symm)
theorem Jx {r:RigD} (h0:r.limbs.length<=8/\r.springs.length<=5/\r.tendons.length<=5/\r.drives.length<=9/\r.soles.length<=5):
   GF 20 S w0 (.bool r.small) Dv
   ⟨slots 63 [(1,.ptr 0 5 0 0),(3,.i6 ((0:Nat):Int))],[some ⟨27,5,false,[cV r],none⟩]⟩:=by
 refine pW (G:=fun i=>(∀ j,j<i->(r.limbs.getD j default).shape.length<=6)->GF 20 S w0 (.bool r.small) Dv
   ⟨slots 63 [(1,.ptr 0 5 0 0),(3,.i6 ((i:Nat):Int))],[some ⟨27,5,false,[cV r],none⟩]⟩) r.limbs.length ?_ ?_ (fun j hj=>absurd hj (Nat.not_lt_zero j))
 · intro hj
   exact gN gL [1,4] [(37,ff)] (.a1 (iF (show ¬ ((r.limbs.length:Int)<((r.limbs.map dS).length:Int)) by rw[bM];omega))) (Jw ⟨h0.1,h0.2.1,h0.2.2.1,h0.2.2.2.1,h0.2.2.2.2,BH hj⟩)
 · intro i hlt ih hj
   have v0:(i:Int)<((r.limbs.map dS).length:Int):=by rw[bM];omega
   have v1:Ref (.cptr ((r.limbs.map dS).getD i []) 0) (.cptr (dS (r.limbs.getD i default)) 0):=Ref.cmap hlt
   by_cases c:(r.limbs.getD i default).shape.length<=6
   · have hl:=h0.1
     refine gN gL [1,2,3] [(37,tt),(43,.cptr (dS (r.limbs.getD i default)) 0),(47,ff),(39,.i6 ((i+1:Nat):Int))] (.a6 (iT v0) v1 (nn i) v0 (iF (show ¬ ((6:Int)<(((r.limbs.getD i default).shape.map unSpot).length:Int)) by rw[bM];omega)) (wI ((i:Int)+(1:Int)) ((i+1:Nat):Int))) (t:=Dv) (σ:=slots 63 [(1,.ptr 0 5 0 0),(3,.i6 ((i+1:Nat):Int))]) (h:=[some ⟨27,5,false,[(cV r)],none⟩]) ?_
     exact ih fun j hj' => by by_cases e:j=i
                              · subst e;exact c
                              · exact hj j (by omega)
   · exact rF gL [(37,tt),(43,.cptr (dS (r.limbs.getD i default)) 0),(47,tt)] (.a5 (iT v0) v1 (nn i) v0 (iT (show(6:Int)<(((r.limbs.getD i default).shape.map unSpot).length:Int) by rw[bM];omega))) (V:=.bool false) (Ref.bool (decide_eq_false fun h=>c (h.2.2.2.2.2.1 _ (eB hlt))).symm)
end
theorem Vo:bO 20 Uy:=by
 refine cJ Tryz.f20 fun _ _ _ S w0 h ho=> ?_
 unfold Uy at h;split at h <;> cases h;rename_i R;have o1:=ho.one;clear ho;generalize iC R=r at*;subst o1;have len:∀ {α:Type} {f:α->List AV} {l:List α} {n:Nat},¬ l.length<=n->((n:Nat):Int)<(((l.map f).length:Nat):Int):=fun h=>by rw[bM];omega
 have len':∀ {α:Type} {f:α->List AV} {l:List α} {n:Nat},l.length<=n->¬ ((n:Nat):Int)<(((l.map f).length:Nat):Int):=fun h=>by rw[bM];omega
 by_cases c1:r.limbs.length<=8
 · have v0 :Ref (.bool (decide ((8:Int)<((r.limbs.map dS).length:Int)))) (.bool false):=Ref.bool (decide_eq_false (len' c1))
   by_cases c2:r.springs.length<=5
   · have v1:Ref (.bool (decide ((5:Int)<((r.springs.map cG).length:Int)))) (.bool false):=Ref.bool (decide_eq_false (len' c2))
     by_cases c3:r.tendons.length<=5
     · have v2:Ref (.bool (decide ((5:Int)<((r.tendons.map cG).length:Int)))) (.bool false):=Ref.bool (decide_eq_false (len' c3))
       by_cases c4:r.drives.length<=9
       · have v3:Ref (.bool (decide ((9:Int)<((r.drives.map eA).length:Int)))) (.bool false):=Ref.bool (decide_eq_false (len' c4))
         by_cases c5:r.soles.length<=5
         · refine gN gL [1,2,3] [(9,ff),(15,ff),(21,ff),(27,ff),(32,ff)] (.a5 v0 v1 v2 v3 (show Ref (.bool (decide ((5:Int)<((r.soles.map dT).length:Int)))) (.bool false) from Ref.bool (decide_eq_false (len' c5)))) (t:=Dv) (σ:=slots 63 [(1,.ptr 0 5 0 0),(2,.bool false),(3,.i6 (0:Int))]) (h:=[some ⟨27,5,false,[(cV r)],none⟩]) ?_
           exact Good.weak 63 [(1,_),(3,_)] (by kernel_rfl) (.r (.r .nil)) (Jx ⟨c1,c2,c3,c4,c5⟩)
         · exact rF gL [(9,ff),(15,ff),(21,ff),(27,ff),(32,tt)] (.a5 v0 v1 v2 v3 (show Ref (.bool (decide ((5:Int)<((r.soles.map dT).length:Int)))) (.bool true) from Ref.bool (decide_eq_true (len c5)))) (V:=.bool false) (Ref.bool (decide_eq_false fun h=>c5 h.2.2.2.2.1).symm)
       · exact rF gL [(9,ff),(15,ff),(21,ff),(27,tt)] (.a4 v0 v1 v2 (show Ref (.bool (decide ((9:Int)<((r.drives.map eA).length:Int)))) (.bool true) from Ref.bool (decide_eq_true (len c4)))) (V:=.bool false) (Ref.bool (decide_eq_false fun h=>c4 h.2.2.2.1).symm)
     · exact rF gL [(9,ff),(15,ff),(21,tt)] (.a3 v0 v1 (show Ref (.bool (decide ((5:Int)<((r.tendons.map cG).length:Int)))) (.bool true) from Ref.bool (decide_eq_true (len c3)))) (V:=.bool false) (Ref.bool (decide_eq_false fun h=>c3 h.2.2.1).symm)
   · exact rF gL [(9,ff),(15,tt)] (.a2 v0 (show Ref (.bool (decide ((5:Int)<((r.springs.map cG).length:Int)))) (.bool true) from Ref.bool (decide_eq_true (len c2)))) (V:=.bool false) (Ref.bool (decide_eq_false fun h=>c2 h.2.1).symm)
 · exact rF gL [(9,tt)] (.a1 (show Ref (.bool (decide ((8:Int)<((r.limbs.map dS).length:Int)))) (.bool true) from Ref.bool (decide_eq_true (len c1)))) (V:=.bool false) (Ref.bool (decide_eq_false fun h=>c1 h.1).symm)
def rI:=kn
abbrev Gy (ff:Func):List Item:=[.code (aR [1,1,0,1,0,0] (aA ff)),.inLoop (aR [1,1,0,1,0,0] (aA ff)),.inBlock 0,.code (aR [1,1,1] (aA ff))]
section
variable {S0 C0:Nat->Prop} {w0:World} {Post:Value->World->Prop}
theorem Gz (X:List (List AV)) (i n:Nat) (c:Int) (h1:(i:Int)<(n:Int)) (h2:c=(0:Int)) (o:(Ref (.cptr (X.getD i []) 0) (.cptr [.i6 c] 0))/\((i:Int)<(X.length:Int))/\(-9223372036854775808<=(i:Int)+(1:Int)/\(i:Int)+(1:Int)<=9223372036854775807))
   (hg:Good Tryz.prog 188 S0 C0 w0 Post (Gy Tryz.f188) ⟨slots 18 [(3,.i6 (0:Int)),(6,.list 1 X),(7,.i6 (n:Int)),(8,.i6 ((i+1:Nat):Int))],[]⟩):
   Good Tryz.prog 188 S0 C0 w0 Post (Gy Tryz.f188) ⟨slots 18 [(3,.i6 (0:Int)),(6,.list 1 X),(7,.i6 (n:Int)),(8,.i6 (i:Int))],[]⟩:=
 go mixed aX rI 21 none [2,3,6,7,8] [(9,(.bool true)),(10,(.cptr [.i6 c] 0)),(14,(.bool false)),(16,(.i6 ((i+1:Nat):Int)))] (ob:=[Ref (.bool (decide ((i:Int)<(n:Int)))) (.bool true),Ref (.cptr (X.getD i []) 0) (.cptr [.i6 c] 0),0<=(i:Int),(i:Int)<(X.length:Int),Ref (.bool (!decide (c=(0:Int)))) (.bool false),Ref (.i6 (IntKind.i64.wrap ((i:Int)+(1:Int)))) (.i6 ((i+1:Nat):Int))]) (by kernel_rfl)
   (.cons (Ref.bool (decide_eq_true h1)) (.cons (o.1) (.cons (Int.natCast_nonneg _) (.cons (o.2.1) (.cons (Ref.bool (congrArg Bool.not (decide_eq_true h2))) (.cons ((Ref.wr o.2.2).trans (Ref.int (by rfl))) (AllP.nil))))))) hg
end
def Fa (n:Int):List AV:=[.i6 n]
def ND:List AV->Int
 | [.int _ n]=>n
 | _=>0
def Ah:List Int->Int
 | []=>0
 | e::es=>if e=0 then Ah es else e
theorem GA {es:List Int} {r:Int} (i:Nat) (h:∀ j,j<i->es.getD j 0=0) (k:(i<es.length/\es.getD i 0=r/\r≠0)\/es.length<=i/\r=0):r=Ah es:=by
 induction es generalizing i with
 | nil => rcases k with ⟨k,_⟩ | ⟨_,k⟩
          · simp at k
          · exact k
 | cons e es ih=>
   cases i with
   | zero=>
     rcases k with ⟨_,k,k'⟩ | ⟨k,_⟩
     · simp at k;subst k;simp[Ah,k']
     · simp at k
   | succ i=>
     have h0:e=0:=by simpa using h 0 (by omega)
     subst h0;simp only[Ah,if_true];refine ih i (fun j hj=>by simpa using h (j+1) (by omega)) ?_;rcases k with ⟨k1,k2,k3⟩ | ⟨k1,k2⟩
     · exact .inl ⟨by simpa using k1,by simpa using k2,k3⟩
     · exact .inr ⟨by simpa using k1,k2⟩
theorem Ref.cI {es:List Int} {i:Nat} (h:i<es.length):Ref (.cptr ((es.map Fa).getD i []) 0) (.cptr [.i6 (es.getD i 0)] 0):=by
 have:es.getD i 0=es.getD i default:=rfl;rw[this];exact Ref.cmap (f:=Fa) h
def OX:KF
 | [.list 1 X]=>some (.int .i64 (Ah (X.map ND)),[X=(X.map ND).map Fa,X.length<=4611686018427387904])
 | _=>none
section
variable {S:Nat->Prop} {w0:World}
theorem Sw {s:List Int} {todo:List Item} {σ:List AV} {h:List (Option ABlk)} {b:Int} (e:b=Ah s) (hσ:σ.getD 2 .any= .i6 b):GF 188 S w0 (.i6 (Ah s)) (.code .ret::todo) ⟨σ,h⟩:=
 bX aX (fn:=Tryz.f188) (by kernel_rfl) 2 (by kernel_rfl) rfl (by rw[hσ];rfl) (by rw[hσ,e];exact rr)
noncomputable abbrev LX:List Item:=[.code (aR [1,1,0,1,0,0] (aA Tryz.f188)),.inLoop (aR [1,1,0,1,0,0] (aA Tryz.f188)),.inBlock 0,.code (aR [1,1,1] (aA Tryz.f188))]
theorem Jy {es:List Int} (hL:es.length<=4611686018427387904):
   GF 188 S w0 (.i6 (Ah es)) LX ⟨slots 18 [(3,.i6 (0:Int)),(6,.list 1 (es.map Fa)),(7,.i6 ((es.length:Nat):Int)),(8,.i6 ((0:Nat):Int))],[]⟩:=by
 refine pW (G:=fun i=>(∀ j,j<i->es.getD j 0=0)->GF 188 S w0 (.i6 (Ah es)) LX ⟨slots 18 [(3,.i6 (0:Int)),(6,.list 1 (es.map Fa)),(7,.i6 ((es.length:Nat):Int)),(8,.i6 ((i:Nat):Int))],[]⟩) es.length ?_ ?_ (fun j hj=>absurd hj (Nat.not_lt_zero j))
 · intro hj
   exact rF rI [(9,ff)] (.a1 (iF (om (¬ ((es.length:Int)<(es.length:Int)))))) (V:=.i6 (0:Int)) (Ref.int (GA es.length hj (.inr ⟨Nat.le_refl _,rfl⟩)))
 · intro i hlt ih hj
   by_cases c:es.getD i 0=0
   · exact Gz (es.map Fa) i es.length (es.getD i 0) (by omega) c ⟨Ref.cI hlt,by rw[bM];omega,by omega⟩ (ih fun j hj'=>by
       by_cases e:j=i
       · subst e;exact c
       · exact hj j (by omega))
   · exact rF rI [(9,tt),(10,.cptr [.i6 (es.getD i 0)] 0),(14,tt)] (.a5 (iT (om ((i:Int)<(es.length:Int)))) (show Ref (.cptr ((es.map Fa).getD i []) 0) (.cptr [.i6 (es.getD i 0)] 0) from Ref.cI hlt) (nn i) (show(i:Int)<((es.map Fa).length:Int) by rw[bM];omega) (jT c)) (V:=.i6 (es.getD i 0)) (Ref.int (GA i hj (.inl ⟨hlt,rfl,c⟩)))
end
theorem Sx:bO 188 OX:=by
 refine cJ Tryz.f188 fun _ _ _ S w0 h ho=> ?_
 unfold OX at h;split at h <;> cases h;rename_i X;obtain⟨o1,-⟩:=ho.e2;have o2:(X.map ND).length<=4611686018427387904:=by rw[bM];exact ho _ (by simp)
 clear ho;generalize X.map ND=es at*;subst o1;refine gN rI [0,2,3,6,7,8] [] .nil (t:=LX) (σ:=slots 18 [(0,.list 1 (es.map Fa)),(2,.i6 (0:Int)),(3,.i6 (0:Int)),(6,.list 1 (es.map Fa)),(7,.i6 ((es.map Fa).length:Int)),(8,.i6 (0:Int))]) (h:=[]) ?_
 rw[bM];exact Good.weak 18 [(3,_),(6,_),(7,_),(8,_)] (by kernel_rfl) (.r (.r (.r (.r .nil)))) (Jy o2)
def cP:=kn
abbrev GB (ff:Func):List Item:=[.code (aR [1,1,0,1,0,0] (aA ff)),.inLoop (aR [1,1,0,1,0,0] (aA ff)),.inBlock 0,.code (aR [1,1,1] (aA ff))]
section
variable {S0 C0:Nat->Prop} {w0:World} {Post:Value->World->Prop}
theorem GC (s:ByteArray) (h1:¬ ((s.size:Int)<(1:Int))) (h2:¬ ((32:Int)<(s.size:Int))) (h3:(48:Int)<=((s.data.toList.getD 0 0).toNat:Int)) (h4:¬ ((((s.data.toList.getD 0 0).toNat:Nat):Int)<=(57:Int))) (o:((0:Int)<(s.size:Int)))
   (hg:Good Tryz.prog 187 S0 C0 w0 Post (GB Tryz.f187) ⟨slots 61 [(0,.str s),(2,.bool false),(24,.i6 (s.size:Int)),(25,.i6 (0:Int))],[]⟩):
   Good Tryz.prog 187 S0 C0 w0 Post [.code (aR [] (aA Tryz.f187))] ⟨slots 61 [(0,.str s)],[]⟩:=
 go mixed aX cP 17 none [0,2,24,25] [(8,(.bool false)),(13,(.bool false)),(17,(.bool true)),(22,(.bool false))] (ob:=[Ref (.bool (decide ((s.size:Int)<(1:Int)))) (.bool false),Ref (.bool (decide ((32:Int)<(s.size:Int)))) (.bool false),0<=(0:Int),(0:Int)<(s.size:Int),Ref (.bool (decide ((48:Int)<=((s.data.toList.getD 0 0).toNat:Int)))) (.bool true),0<=(0:Int),(0:Int)<(s.size:Int),Ref (.bool (decide ((((s.data.toList.getD 0 0).toNat:Nat):Int)<=(57:Int)))) (.bool false)]) (by kernel_rfl)
   (.cons (Ref.bool (decide_eq_false h1)) (.cons (Ref.bool (decide_eq_false h2)) (.cons (by decide) (.cons (o) (.cons (Ref.bool (decide_eq_true h3)) (.cons (by decide) (.cons (o) (.cons (Ref.bool (decide_eq_false h4)) (AllP.nil))))))))) hg
theorem GD (s:ByteArray) (h1:¬ ((s.size:Int)<(1:Int))) (h2:¬ ((32:Int)<(s.size:Int))) (h3:¬ ((48:Int)<=((s.data.toList.getD 0 0).toNat:Int))) (o:((0:Int)<(s.size:Int)))
   (hg:Good Tryz.prog 187 S0 C0 w0 Post (GB Tryz.f187) ⟨slots 61 [(0,.str s),(2,.bool false),(24,.i6 (s.size:Int)),(25,.i6 (0:Int))],[]⟩):
   Good Tryz.prog 187 S0 C0 w0 Post [.code (aR [] (aA Tryz.f187))] ⟨slots 61 [(0,.str s)],[]⟩:=
 go mixed aX cP 17 none [0,2,24,25] [(8,(.bool false)),(13,(.bool false)),(17,(.bool false))] (ob:=[Ref (.bool (decide ((s.size:Int)<(1:Int)))) (.bool false),Ref (.bool (decide ((32:Int)<(s.size:Int)))) (.bool false),0<=(0:Int),(0:Int)<(s.size:Int),Ref (.bool (decide ((48:Int)<=((s.data.toList.getD 0 0).toNat:Int)))) (.bool false)]) (by kernel_rfl)
   (.cons (Ref.bool (decide_eq_false h1)) (.cons (Ref.bool (decide_eq_false h2)) (.cons (by decide) (.cons (o) (.cons (Ref.bool (decide_eq_false h3)) (AllP.nil)))))) hg
end
def mG (s:ByteArray) (i:Nat):Int:=(((s.data.toList.getD i 0).toNat:Nat):Int)
def cL (c:Int):Prop:=c=95\/(48<=c/\c<=57)\/(97<=c/\c<=122)\/(65<=c/\c<=90)
instance (c:Int):Decidable (cL c):=by unfold cL;infer_instance
def eO (s:ByteArray):Bool:=decide (1<=s.size/\s.size<=32/\¬ (48<=mG s 0/\mG s 0<=57)/\∀ i,i<s.size->cL (mG s i))
def OY:KF
 | [.str s]=>some (.bool (eO s),[])
 | _=>none
section
variable {S:Nat->Prop} {w0:World}
theorem Sy {s:ByteArray} {todo:List Item} {σ:List AV} {h:List (Option ABlk)} {b:Bool} (e:b=eO s) (hσ:σ.getD 2 .any= .bool b):GF 187 S w0 (.bool (eO s)) (.code .ret::todo) ⟨σ,h⟩:=
 bX aX (fn:=Tryz.f187) (by kernel_rfl) 2 (by kernel_rfl) rfl (by rw[hσ];rfl) (by rw[hσ,e];exact rr)
noncomputable abbrev OZ:List Item:=[.code (aR [1,1,0,1,0,0] (aA Tryz.f187)),.inLoop (aR [1,1,0,1,0,0] (aA Tryz.f187)),.inBlock 0,.code (aR [1,1,1] (aA Tryz.f187))]
theorem Dw {s:ByteArray} (h1:1<=s.size/\s.size<=32/\¬ (48<=mG s 0/\mG s 0<=57)):
   GF 187 S w0 (.bool (eO s)) OZ ⟨slots 61 [(0,.str s),(24,.i6 ((s.size:Nat):Int)),(25,.i6 ((0:Nat):Int))],[]⟩:=by
 refine pW (G:=fun i=>(∀ j,j<i->cL (mG s j))->GF 187 S w0 (.bool (eO s)) OZ ⟨slots 61 [(0,.str s),(24,.i6 ((s.size:Nat):Int)),(25,.i6 ((i:Nat):Int))],[]⟩) s.size ?_ ?_ (fun j hj=>absurd hj (Nat.not_lt_zero j))
 · intro hj
   exact rF cP [(26,ff)] (.a1 (iF (om (¬ ((s.size:Int)<(s.size:Int)))))) (V:=.bool true) (Ref.bool (decide_eq_true ⟨h1.1,h1.2.1,h1.2.2,hj⟩).symm)
 · intro i hlt ih hj
   have c1:((i:Nat):Int)<((s.size:Nat):Int):=by omega
   generalize hc:mG s i=c at*;have bad:¬ cL c->false=eO s:=fun h=>(decide_eq_false fun k=>h (hc▸k.2.2.2 i hlt)).symm
   have good:cL c->∀ j,j<i+1->cL (mG s j):=fun h j hj'=>by
     by_cases e:j=i
     · subst e;rw[hc];exact h
     · exact hj j (by omega)
   have v0:Ref (.int .u8 ((s.data.toList.getD i 0).toNat:Int)) (.int .u8 c):=Ref.int hc
   by_cases c2:c=(95:Int)
   · exact gN cP [0,2,24,25] [(26,tt),(30,.int .u8 c),(33,ff),(60,.i6 ((i+1:Nat):Int))] (.a6 (iT c1) v0 (nn i) c1 (jF c2) (wI ((i:Int)+(1:Int)) ((i+1:Nat):Int))) (ih (good (by unfold cL;omega)))
   · by_cases c3:(48:Int)<=c
     · by_cases c4:c<=(57:Int)
       · exact gN cP [0,2,24,25] [(26,tt),(30,.int .u8 c),(33,tt),(36,tt),(42,ff),(60,.i6 ((i+1:Nat):Int))] (.c6 (iT c1) v0 (nn i) c1 (jT c2) (iT c3) (.a2 (jF c4) (wI ((i:Int)+(1:Int)) ((i+1:Nat):Int)))) (ih (good (by unfold cL;omega)))
       · by_cases c5:(97:Int)<=c
         · by_cases c6:c<=(122:Int)
           · exact gN cP [0,2,24,25] [(26,tt),(30,.int .u8 c),(33,tt),(36,tt),(42,tt),(45,tt),(51,ff),(60,.i6 ((i+1:Nat):Int))] (.c6 (iT c1) v0 (nn i) c1 (jT c2) (iT c3) (.a4 (jT c4) (iT c5) (jF c6) (wI ((i:Int)+(1:Int)) ((i+1:Nat):Int)))) (ih (good (by unfold cL;omega)))
           · by_cases c7:(65:Int)<=c
             · by_cases c8:c<=(90:Int)
               · exact gN cP [0,2,24,25] [(26,tt),(30,.int .u8 c),(33,tt),(36,tt),(42,tt),(45,tt),(51,tt),(54,tt),(59,ff),(60,.i6 ((i+1:Nat):Int))] (.c6 (iT c1) v0 (nn i) c1 (jT c2) (iT c3) (.a6 (jT c4) (iT c5) (jT c6) (iT c7) (jF c8) (wI ((i:Int)+(1:Int)) ((i+1:Nat):Int)))) (ih (good (by unfold cL;omega)))
               · exact rF cP [(26,tt),(30,.int .u8 c),(33,tt),(36,tt),(42,tt),(45,tt),(51,tt),(54,tt),(59,tt)] (.c6 (iT c1) v0 (nn i) c1 (jT c2) (iT c3) (.a5 (jT c4) (iT c5) (jT c6) (iT c7) (jT c8))) (V:=.bool false) (Ref.bool (bad (by unfold cL;omega)))
             · exact rF cP [(26,tt),(30,.int .u8 c),(33,tt),(36,tt),(42,tt),(45,tt),(51,tt),(54,ff)] (.c6 (iT c1) v0 (nn i) c1 (jT c2) (iT c3) (.a4 (jT c4) (iT c5) (jT c6) (iF c7))) (V:=.bool false) (Ref.bool (bad (by unfold cL;omega)))
         · by_cases c6:(65:Int)<=c
           · by_cases c7:c<=(90:Int)
             · exact gN cP [0,2,24,25] [(26,tt),(30,.int .u8 c),(33,tt),(36,tt),(42,tt),(45,ff),(54,tt),(59,ff),(60,.i6 ((i+1:Nat):Int))] (.c6 (iT c1) v0 (nn i) c1 (jT c2) (iT c3) (.a5 (jT c4) (iF c5) (iT c6) (jF c7) (wI ((i:Int)+(1:Int)) ((i+1:Nat):Int)))) (ih (good (by unfold cL;omega)))
             · exact rF cP [(26,tt),(30,.int .u8 c),(33,tt),(36,tt),(42,tt),(45,ff),(54,tt),(59,tt)] (.c6 (iT c1) v0 (nn i) c1 (jT c2) (iT c3) (.a4 (jT c4) (iF c5) (iT c6) (jT c7))) (V:=.bool false) (Ref.bool (bad (by unfold cL;omega)))
           · exact rF cP [(26,tt),(30,.int .u8 c),(33,tt),(36,tt),(42,tt),(45,ff),(54,ff)] (.c6 (iT c1) v0 (nn i) c1 (jT c2) (iT c3) (.a3 (jT c4) (iF c5) (iF c6))) (V:=.bool false) (Ref.bool (bad (by unfold cL;omega)))
     · by_cases c4:(97:Int)<=c
       · by_cases c5:c<=(122:Int)
         · exact gN cP [0,2,24,25] [(26,tt),(30,.int .u8 c),(33,tt),(36,ff),(45,tt),(51,ff),(60,.i6 ((i+1:Nat):Int))] (.c6 (iT c1) v0 (nn i) c1 (jT c2) (iF c3) (.a3 (iT c4) (jF c5) (wI ((i:Int)+(1:Int)) ((i+1:Nat):Int)))) (ih (good (by unfold cL;omega)))
         · by_cases c6:(65:Int)<=c
           · by_cases c7:c<=(90:Int)
             · exact gN cP [0,2,24,25] [(26,tt),(30,.int .u8 c),(33,tt),(36,ff),(45,tt),(51,tt),(54,tt),(59,ff),(60,.i6 ((i+1:Nat):Int))] (.c6 (iT c1) v0 (nn i) c1 (jT c2) (iF c3) (.a5 (iT c4) (jT c5) (iT c6) (jF c7) (wI ((i:Int)+(1:Int)) ((i+1:Nat):Int)))) (ih (good (by unfold cL;omega)))
             · exact rF cP [(26,tt),(30,.int .u8 c),(33,tt),(36,ff),(45,tt),(51,tt),(54,tt),(59,tt)] (.c6 (iT c1) v0 (nn i) c1 (jT c2) (iF c3) (.a4 (iT c4) (jT c5) (iT c6) (jT c7))) (V:=.bool false) (Ref.bool (bad (by unfold cL;omega)))
           · exact rF cP [(26,tt),(30,.int .u8 c),(33,tt),(36,ff),(45,tt),(51,tt),(54,ff)] (.c6 (iT c1) v0 (nn i) c1 (jT c2) (iF c3) (.a3 (iT c4) (jT c5) (iF c6))) (V:=.bool false) (Ref.bool (bad (by unfold cL;omega)))
       · by_cases c5:(65:Int)<=c
         · by_cases c6:c<=(90:Int)
           · exact gN cP [0,2,24,25] [(26,tt),(30,.int .u8 c),(33,tt),(36,ff),(45,ff),(54,tt),(59,ff),(60,.i6 ((i+1:Nat):Int))] (.c6 (iT c1) v0 (nn i) c1 (jT c2) (iF c3) (.a4 (iF c4) (iT c5) (jF c6) (wI ((i:Int)+(1:Int)) ((i+1:Nat):Int)))) (ih (good (by unfold cL;omega)))
           · exact rF cP [(26,tt),(30,.int .u8 c),(33,tt),(36,ff),(45,ff),(54,tt),(59,tt)] (.c6 (iT c1) v0 (nn i) c1 (jT c2) (iF c3) (.a3 (iF c4) (iT c5) (jT c6))) (V:=.bool false) (Ref.bool (bad (by unfold cL;omega)))
         · exact rF cP [(26,tt),(30,.int .u8 c),(33,tt),(36,ff),(45,ff),(54,ff)] (.c6 (iT c1) v0 (nn i) c1 (jT c2) (iF c3) (.a2 (iF c4) (iF c5))) (V:=.bool false) (Ref.bool (bad (by unfold cL;omega)))
end
theorem Pa:bO 187 OY:=by
 refine cJ Tryz.f187 fun _ _ _ S w0 h ho=> ?_
 unfold OY at h;split at h <;> cases h;rename_i s;have b0:mG s 0=(((s.data.toList.getD 0 0).toNat:Nat):Int):=rfl
 by_cases c1:((s.size:Nat):Int)<(1:Int)
 · exact rF cP [(8,tt)] (.a1 (iT c1)) (V:=.bool false) (Ref.bool (decide_eq_false fun k=>by have:=k.1;have:=k.2.1;have:=k.2.2.1;omega).symm)
 · by_cases c2:(32:Int)<((s.size:Nat):Int)
   · exact rF cP [(8,ff),(13,tt)] (.a2 (iF c1) (iT c2)) (V:=.bool false) (Ref.bool (decide_eq_false fun k=>by have:=k.1;have:=k.2.1;have:=k.2.2.1;omega).symm)
   · by_cases c3:(48:Int)<=(((s.data.toList.getD 0 0).toNat:Nat):Int)
     · by_cases c4:(((s.data.toList.getD 0 0).toNat:Nat):Int)<=(57:Int)
       · exact rF cP [(8,ff),(13,ff),(17,tt),(22,tt)] (.c6 (iF c1) (iF c2) (dc (0<=(0:Int))) (om ((0:Int)<(s.size:Int))) (iT c3) (dc (0<=(0:Int))) (.a2 (om ((0:Int)<(s.size:Int))) (iT c4))) (V:=.bool false) (Ref.bool (decide_eq_false fun k=>by have:=k.1;have:=k.2.1;have:=k.2.2.1;omega).symm)
       · refine GC s c1 c2 c3 c4 (by omega) ?_
         exact Good.weak 61 [(0,_),(24,_),(25,_)] (by kernel_rfl) (.r (.r (.r .nil))) (Dw ⟨by omega,by omega,by omega⟩)
     · refine GD s c1 c2 c3 (by omega) ?_
       exact Good.weak 61 [(0,_),(24,_),(25,_)] (by kernel_rfl) (.r (.r (.r .nil))) (Dw ⟨by omega,by omega,by omega⟩)
def Pb:KF
 | [.agg [.z n B],.nat m C]=>some (.agg [.z (n*(m:Int)) (B+C)],[B+C+128<=LIM])
 | _=>none
theorem Pc:bO 113 Pb:=by
 refine cJ Tryz.f113 fun _ _ _ S w0 h ho=> ?_
 unfold Pb at h;split at h <;> cases h;rename_i n B m C;have o1:=ho.one;have K:=(kn.cons Gi).cons Ac;exact rF K [] (.a1 o1) (V:=.agg [.z (iM (decide (n<0)) (n.natAbs*m)) (B+C)]) (Ref.z1 (IQ n m) (rl _))
theorem BI {n m:Int} (h:((decide (n<0))==(decide (m<0)))=true):iM (decide (n<0)) (n.natAbs+m.natAbs)=n+m:=by
 by_cases a:n<0 <;> by_cases b:m<0 <;> simp[a,b,iM] at h ⊢ <;> omega
theorem rJ {n m:Int} (h:((decide (n<0))==(decide (m<0)))=false) (k:m.natAbs<=n.natAbs):iM (decide (n<0)) (n.natAbs-m.natAbs)=n+m:=by
 by_cases a:n<0 <;> by_cases b:m<0 <;> simp[a,b,iM] at h ⊢ <;> omega
def Pd:KF
 | [.agg [.z n B],.agg [.z m C]]=>some (.agg [.z (n+m) (max B C+1)],[max B C+1<=LIM])
 | _=>none
theorem Sz:bO 114 Pd:=by
 refine cJ Tryz.f114 fun _ _ _ S w0 h ho=> ?_
 unfold Pd at h;split at h <;> cases h;rename_i n B m C;have o1:=ho.one;have L:=dH;have K:=(((kn.cons FJ).cons Ow).cons LW).cons Ac;rcases Bool.eq_false_or_eq_true ((decide (n<0))==(decide (m<0))) with h1 | h1
 · refine rF K [(5,tt)] (.a2 (show Ref (.bool ((decide (n<0))==(decide (m<0)))) (.bool true) from Ref.bool h1) o1) (V:=.agg [.z (iM (decide (n<0)) (n.natAbs+m.natAbs)) (max B C+1)]) ?_
   refine Ref.z1 ?_ (by omega);exact BI h1
 · have v0:Ref (.bool ((decide (n<0))==(decide (m<0)))) (.bool false):=Ref.bool h1
   by_cases h2:(0:Int)<=(fL n.natAbs m.natAbs)
   · refine rF K [(5,ff),(19,tt)] (.a4 v0 (iT h2) (bR.1 h2) (om (B<=LIM))) (V:=.agg [.z (iM (decide (n<0)) (n.natAbs-m.natAbs)) B]) ?_
     refine Ref.z1 ?_ (by omega);exact rJ h1 (bR.1 h2)
   · refine rF K [(5,ff),(19,ff)] (.a4 v0 (iF h2) (Nat.le_of_lt (Nat.lt_of_not_le fun h=>h2 (bR.2 h))) (om (C<=LIM))) (V:=.agg [.z (iM (decide (m<0)) (m.natAbs-n.natAbs)) C]) ?_
     refine Ref.z1 ?_ (by omega);rw[Int.add_comm];exact rJ (by rw[<- h1];exact BEq.comm) (Nat.le_of_lt (Nat.lt_of_not_le fun h=>h2 (bR.2 h)))
def UA:KF
 | [.agg [.q x B],.agg [.q y C]]=>some (.agg [.q (x+y) (B+C+2)],[B+C+200<=LIM])
 | _=>none
theorem Fb:bO 26 UA:=by
 refine cJ Tryz.f26 fun _ _ _ S w0 h ho=> ?_
 unfold UA at h;split at h <;> cases h;rename_i x B y C;have o1:=ho.one;have L:=dH;have K:=((((kn.cons Gi).cons Sz).cons Pc).cons FU).cons CG;exact rF K [] (.c6 (om (max B 64+1<=LIM)) (om (max C 64+1<=LIM)) (om (B+(C+1)+128<=LIM)) (om (C+(B+1)+128<=LIM)) (om (max (B+(C+1)) (C+(B+1))+1<=LIM)) (om ((B+1)+(C+1)+128<=LIM)) (.a2 (show 0<(x.den*y.den) by exact Nat.mul_pos x.den_pos y.den_pos) (om (max (max (B+(C+1)) (C+(B+1))+1) ((B+1)+(C+1))+128<=LIM)))) (V:=.agg [.q (mkRat ((x.num*(y.den:Int))+(y.num*(x.den:Int))) (x.den*y.den)) (max (max (B+(C+1)) (C+(B+1))+1) ((B+1)+(C+1)))]) (Ref.q1 (Lx x y) (by omega))
def UB:KF
 | [.agg [.q x B],.agg [.q y C]]=>some (.agg [.q (x-y) (B+C+2)],[B+C+200<=LIM])
 | _=>none
theorem KL:bO 28 UB:=by
 refine cJ Tryz.f28 fun _ _ _ S w0 h ho=> ?_
 unfold UB at h;split at h <;> cases h;rename_i x B y C;have o1:=ho.one;have K:=(kn.cons OP).cons Fb;exact rF K [] (.a1 o1) (V:=.agg [.q (x+(-y)) (B+C+2)]) (Ref.q1 (Rat.sub_eq_add_neg x y).symm (rl _))
def Pe:KF
 | [.agg [.q px B,.q pz D],.agg [.q qx C,.q qz E]]=>some (.agg [.q (px*qz-pz*qx) (B+D+C+E+6)],[B+D+C+E+300<=LIM])
 | _=>none
theorem Pf:bO 212 Pe:=by
 refine cJ Tryz.f212 fun _ _ _ S w0 h ho=> ?_
 unfold Pe at h;split at h <;> cases h;rename_i px B pz D qx C qz E;have o1:=ho.one;have L:=dH;have K:=(kn.cons EZ).cons KL;exact rF K [] (.a3 (om (B+E+200<=LIM)) (om (D+C+200<=LIM)) (om ((B+E+2)+(D+C+2)+200<=LIM))) (V:=.agg [.q ((px*qz)-(pz*qx)) ((B+E+2)+(D+C+2)+2)]) (Ref.q1 rfl (by omega))
def UC:KF
 | [.agg [.q px B,.q pz D],.agg [.q qx C,.q qz E]]=>some (.agg [.q (px-qx) (B+C+2),.q (pz-qz) (D+E+2)],[B+D+C+E+300<=LIM])
 | _=>none
theorem UD:bO 32 UC:=by
 refine cJ Tryz.f32 fun _ _ _ S w0 h ho=> ?_
 unfold UC at h;split at h <;> cases h;rename_i px B pz D qx C qz E;have o1:=ho.one;have L:=dH;have K:=kn.cons KL;exact rR K [] (.a2 (om (B+C+200<=LIM)) (om (D+E+200<=LIM)))
def Pg:KF
 | [.agg [.z n B]]=>some (.int .i64 (Int.sign n),[])
 | _=>none
theorem SA:bO 156 Pg:=by
 refine cJ Tryz.f156 fun _ _ _ S w0 h ho=> ?_
 unfold Pg at h;split at h <;> cases h;rename_i n B;refine Good.weak 11 [(0,.agg [.bool (decide (n<0)),.list 1 (aI (aD b32 n.natAbs))])] (by kernel_rfl) (.cons (Ref.agg (RefC.zopn.trans (RefC.tl RefC.opn))) .nil) ?_;have hl:=dA (b:=b32) (n:=n.natAbs) (by decide);generalize aD b32 n.natAbs=xs at*;rw[<- @aB xs] at hl;rcases Bool.eq_false_or_eq_true (decide (n<0)) with h1 | h1
 · exact rF .nil [(3,tt)] (.a1 (show Ref (.bool (decide (n<0))) (.bool true) from Ref.bool h1)) (V:=.i6 (-1:Int)) (Ref.int (Int.sign_eq_neg_one_of_neg (of_decide_eq_true h1)).symm)
 · have v0:Ref (.bool (decide (n<0))) (.bool false):=Ref.bool h1
   by_cases h2:(((aI xs).length:Nat):Int)=(0:Int)
   · refine rF .nil [(3,ff),(6,tt)] (.a2 v0 (iT h2)) (V:=.i6 (0:Int)) ?_
     have h1:=of_decide_eq_false h1;exact Ref.int (by rw[show n=0 by omega];rfl)
   · refine rF .nil [(3,ff),(6,ff)] (.a2 v0 (iF h2)) (V:=.i6 (1:Int)) ?_
     have h1:=of_decide_eq_false h1;exact Ref.int (Int.sign_eq_one_of_pos (by omega)).symm
def UE:KF
 | [.agg [.q x B]]=>some (.int .i64 (Int.sign x.num),[])
 | _=>none
theorem AT:bO 60 UE:=by
 refine cJ Tryz.f60 fun _ _ _ S w0 h ho=> ?_
 unfold UE at h;split at h <;> cases h;rename_i x B;have K:=kn.cons SA;exact rR K [] .nil
def iD:=((kn.cons Pf).cons AT).cons UD
section
variable {S0 C0:Nat->Prop} {w0:World} {Post:Value->World->Prop}
theorem GE (l:List PtD) (i n k:Nat) (a b c:PtD) (h1:¬ ((k:Int)<(n:Int))) (o:(-9223372036854775808<=(i:Int)+(1:Int)/\(i:Int)+(1:Int)<=9223372036854775807))
   (hg:Good Tryz.prog 254 S0 C0 w0 Post [.code (aR [1,1,1,0,1,0,0] (aA Tryz.f254)),.inLoop (aR [1,1,1,0,1,0,0] (aA Tryz.f254)),.inBlock 0,.code (aR [1,1,1,1] (aA Tryz.f254))] ⟨slots 56 [(0,.list 6 (l.map (dV 300))),(3,.i6 (n:Int)),(4,.i6 (i:Int)),(5,.ptr 0 6 0 0),(6,.ptr 1 6 0 0),(7,.i6 (k:Int)),(20,.list 6 (l.map (dV 300))),(21,.i6 (n:Int)),(22,.i6 ((i+1:Nat):Int))],[some ⟨58,6,false,[[.q a.x 300,.q a.z 300]],none⟩,some ⟨58,6,false,[[.q b.x 300,.q b.z 300]],none⟩]⟩):
   Good Tryz.prog 254 S0 C0 w0 Post [.code (aR [1,1,1,0,1,0,0,1,1,0,0,1,1,1,0,0] (aA Tryz.f254)),.inLoop (aR [1,1,1,0,1,0,0,1,1,0,0,1,1,1,0,0] (aA Tryz.f254)),.inBlock 2,.inBlock 1,.code (aR [1,1,1,0,1,0,0,1,1,1] (aA Tryz.f254)),.inLoop (aR [1,1,1,0,1,0,0] (aA Tryz.f254)),.inBlock 0,.code (aR [1,1,1,1] (aA Tryz.f254))] ⟨slots 56 [(0,.list 6 (l.map (dV 300))),(3,.i6 (n:Int)),(4,.i6 (i:Int)),(5,.ptr 0 6 0 0),(6,.ptr 1 6 0 0),(7,.i6 (k:Int)),(20,.list 6 (l.map (dV 300))),(21,.i6 (n:Int)),(22,.i6 (i:Int))],[some ⟨58,6,false,[[.q a.x 300,.q a.z 300]],none⟩,some ⟨58,6,false,[[.q b.x 300,.q b.z 300]],none⟩]⟩:=
 go mixed aX iD 13 none [0,2,3,4,5,6,7,20,21,22] [(36,(.bool false)),(55,(.i6 ((i+1:Nat):Int)))] (ob:=[Ref (.bool (decide ((k:Int)<(n:Int)))) (.bool false),Ref (.i6 (IntKind.i64.wrap ((i:Int)+(1:Int)))) (.i6 ((i+1:Nat):Int))]) (by kernel_rfl)
   (.cons (Ref.bool (decide_eq_false h1)) (.cons ((Ref.wr o).trans (Ref.int (by rfl))) (AllP.nil))) hg
end
def BJ (l:List PtD) (i k:Nat):Int:=
 Int.sign (((l.getD ((i+1) % l.length) default).x-(l.getD i default).x)*((l.getD ((i+k) % l.length) default).z-(l.getD i default).z)-((l.getD ((i+1) % l.length) default).z-(l.getD i default).z)*((l.getD ((i+k) % l.length) default).x-(l.getD i default).x)).num
def dG (l:List PtD):Bool:=decide ((l.length=0\/3<=l.length/\l.length<=12)/\∀ i,i<l.length->∀ k,k<l.length->2<=k->0<BJ l i k)
def Ph:KF
 | [.list 6 X]=>some (.bool (dG (X.map BG)),[X=(X.map BG).map (dV 300)])
 | _=>none
section
variable {S:Nat->Prop} {w0:World}
noncomputable abbrev GG:List Item:=[.code (aR [1,1,1,0,1,0,0] (aA Tryz.f254)),.inLoop (aR [1,1,1,0,1,0,0] (aA Tryz.f254)),.inBlock 0,.code (aR [1,1,1,1] (aA Tryz.f254))]
noncomputable abbrev Dx:List Item:=[.code (aR [1,1,1,0,1,0,0,1,1,0,0,1,1,1,0,0] (aA Tryz.f254)),.inLoop (aR [1,1,1,0,1,0,0,1,1,0,0,1,1,1,0,0] (aA Tryz.f254)),.inBlock 2,.inBlock 1,.code (aR [1,1,1,0,1,0,0,1,1,1] (aA Tryz.f254)),.inLoop (aR [1,1,1,0,1,0,0] (aA Tryz.f254)),.inBlock 0,.code (aR [1,1,1,1] (aA Tryz.f254))]
theorem SB {l:List PtD} {todo:List Item} {σ:List AV} {h:List (Option ABlk)} {b:Bool} (e:b=dG l) (hσ:σ.getD 2 .any= .bool b):GF 254 S w0 (.bool (dG l)) (.code .ret::todo) ⟨σ,h⟩:=
 bX aX (fn:=Tryz.f254) (by kernel_rfl) 2 (by kernel_rfl) rfl (by rw[hσ];rfl) (by rw[hσ,e];exact rr)
theorem GH {l:List PtD} {i:Nat} (h:i<l.length):Ref (.cptr ((l.map (dV 300)).getD i []) 0) (.cptr [.q (l.getD i default).x 300,.q (l.getD i default).z 300] 0):=Ref.cmap (f:=dV 300) h
theorem GI {l:List PtD} {i:Nat} (hi:i<l.length) (h3:3<=l.length/\l.length<=12)
   (next:(∀ k,k<l.length->2<=k->0<BJ l i k)->GF 254 S w0 (.bool (dG l)) GG ⟨slots 56 [(0,.list 6 (l.map (dV 300))),(3,.i6 ((l.length:Nat):Int)),(20,.list 6 (l.map (dV 300))),(21,.i6 ((l.length:Nat):Int)),(22,.i6 ((i+1:Nat):Int))],[]⟩):
   GF 254 S w0 (.bool (dG l)) Dx ⟨slots 56 [(0,.list 6 (l.map (dV 300))),(3,.i6 ((l.length:Nat):Int)),(4,.i6 ((i:Nat):Int)),(5,.ptr 0 6 0 0),(6,.ptr 1 6 0 0),(7,.i6 ((2:Nat):Int)),(20,.list 6 (l.map (dV 300))),(21,.i6 ((l.length:Nat):Int)),(22,.i6 ((i:Nat):Int))],
     [some ⟨58,6,false,[dV 300 (l.getD i default)],none⟩,some ⟨58,6,false,[dV 300 (l.getD ((i+1) % l.length) default)],none⟩]⟩:=by
 refine pW (G:=fun f=>(∀ k,k<2+f->2<=k->0<BJ l i k)->GF 254 S w0 (.bool (dG l)) Dx ⟨slots 56 [(0,.list 6 (l.map (dV 300))),(3,.i6 ((l.length:Nat):Int)),(4,.i6 ((i:Nat):Int)),(5,.ptr 0 6 0 0),(6,.ptr 1 6 0 0),(7,.i6 ((2+f:Nat):Int)),(20,.list 6 (l.map (dV 300))),(21,.i6 ((l.length:Nat):Int)),(22,.i6 ((i:Nat):Int))],
     [some ⟨58,6,false,[dV 300 (l.getD i default)],none⟩,some ⟨58,6,false,[dV 300 (l.getD ((i+1) % l.length) default)],none⟩]⟩) (l.length-2) ?_ ?_ (fun k hk h2=>absurd hk (by omega))
 · intro hk
   refine GE l i l.length (2+(l.length-2)) (l.getD i default) (l.getD ((i+1) % l.length) default) default (by omega) (by omega) ?_;exact Good.weak 56 [(0,_),(3,_),(20,_),(21,_),(22,_)] (by kernel_rfl) (.r (.r (.r (.r (.r .nil))))) (Good.tidy [] (by decide) (by kernel_rfl) (by kernel_rfl) (next fun k hk' h2=>hk k (by omega) h2))
 · intro f hf ih hk
   have hm:(i+(2+f)) % l.length<l.length:=Nat.mod_lt _ (by omega);have v0:Ref (.cptr ((l.map (dV 300)).getD ((i+(2+f)) % l.length) []) 0) (.cptr [.q (l.getD ((i+(2+f)) % l.length) default).x 300,.q (l.getD ((i+(2+f)) % l.length) default).z 300] 0):=GH hm;have v1:Ref (.i6 (((i+(2+f):Nat):Int).tmod (l.length:Int))) (.i6 (((i+(2+f)) % l.length:Nat):Int)):=Ref.rem (a:=i+(2+f)) (b:=l.length) rfl rfl;have v2:300+300+300+300+300<=LIM:=by decide
   have v3:(((i+(2+f)) % l.length:Nat):Int)<((l.map (dV 300)).length:Int):=by first | omega | (rw[bM];omega)
   have v4:(300+300+2)+(300+300+2)+(300+300+2)+(300+300+2)+300<=LIM:=by decide
   have v5:(((2+f):Nat):Int)<(l.length:Int):=by omega
   by_cases c:BJ l i (2+f)<=0
   · exact rF iD [(36,tt),(45,.i6 ((i+(2+f):Nat):Int)),(47,.i6 (((i+(2+f)) % l.length:Nat):Int)),(48,.cptr [.q (l.getD ((i+(2+f)) % l.length) default).x 300,.q (l.getD ((i+(2+f)) % l.length) default).z 300] 0),(54,tt)] (.c6 (iT v5) v2 (wI ((i:Int)+(((2+f):Nat):Int)) ((i+(2+f):Nat):Int) (by first | omega | (rw[bM];omega))) v1 (om ((l.length:Int)≠0)) v0 (.a5 (nn ((i+(2+f)) % l.length)) v3 v2 v4 (iT c))) (V:=.bool false) (Ref.bool (decide_eq_false fun h=>by have:=h.2 i hi (2+f) (by omega) (by omega);omega).symm)
   · refine gR iD none [0,2,3,4,5,6,7,20,21,22] [0,1] [(36,tt),(45,.i6 ((i+(2+f):Nat):Int)),(47,.i6 (((i+(2+f)) % l.length:Nat):Int)),(48,.cptr [.q (l.getD ((i+(2+f)) % l.length) default).x 300,.q (l.getD ((i+(2+f)) % l.length) default).z 300] 0),(54,ff),(38,.i6 (((2+f)+1:Nat):Int))] (.c6 (iT v5) v2 (wI ((i:Int)+(((2+f):Nat):Int)) ((i+(2+f):Nat):Int) (by first | omega | (rw[bM];omega))) v1 (om ((l.length:Int)≠0)) v0 (.a6 (nn ((i+(2+f)) % l.length)) v3 v2 v4 (iF c) (wI ((((2+f):Nat):Int)+(1:Int)) (((2+f)+1:Nat):Int) (by first | omega | (rw[bM];omega))))) (t:=Dx) (σ:=slots 56 [(0,.list 6 (l.map (dV 300))),(3,.i6 (l.length:Int)),(4,.i6 (i:Int)),(5,.ptr 0 6 0 0),(6,.ptr 1 6 0 0),(7,(.i6 (((2+f)+1:Nat):Int))),(20,.list 6 (l.map (dV 300))),(21,.i6 (l.length:Int)),(22,.i6 (i:Int))]) (h:=[some ⟨58,6,false,[[.q (l.getD i default).x 300,.q (l.getD i default).z 300]],none⟩,some ⟨58,6,false,[[.q (l.getD ((i+1) % l.length) default).x 300,.q (l.getD ((i+1) % l.length) default).z 300]],none⟩]) ?_
     exact Good.weak 56 [(0,_),(3,_),(4,_),(5,_),(6,_),(7,_),(20,_),(21,_),(22,_)] (by kernel_rfl) (.r (.r (.r (.r (.r (.r (.r (.r (.r .nil))))))))) (ih fun k hk' h2=>by
       by_cases e:k=2+f
       · subst e;omega
       · exact hk k (by omega) h2)
theorem Dy {l:List PtD} (h3:l.length=0\/3<=l.length/\l.length<=12):
   GF 254 S w0 (.bool (dG l)) GG ⟨slots 56 [(0,.list 6 (l.map (dV 300))),(3,.i6 ((l.length:Nat):Int)),(20,.list 6 (l.map (dV 300))),(21,.i6 ((l.length:Nat):Int)),(22,.i6 ((0:Nat):Int))],[]⟩:=by
 refine pW (G:=fun i=>(∀ j,j<i->∀ k,k<l.length->2<=k->0<BJ l j k)->GF 254 S w0 (.bool (dG l)) GG ⟨slots 56 [(0,.list 6 (l.map (dV 300))),(3,.i6 ((l.length:Nat):Int)),(20,.list 6 (l.map (dV 300))),(21,.i6 ((l.length:Nat):Int)),(22,.i6 ((i:Nat):Int))],[]⟩) l.length ?_ ?_ (fun k hk=>absurd hk (Nat.not_lt_zero k))
 · intro hj
   exact rF iD [(23,ff)] (.a1 (iF (om (¬ ((l.length:Int)<(l.length:Int)))))) (V:=.bool true) (Ref.bool (decide_eq_true ⟨h3,hj⟩).symm)
 · intro i hlt ih hj
   have hm:(i+1) % l.length<l.length:=Nat.mod_lt _ (by omega);refine gN iD [0,2,3,4,5,6,7,20,21,22] [(23,tt),(25,.cptr [.q (l.getD i default).x 300,.q (l.getD i default).z 300] 0),(29,.i6 ((i+1:Nat):Int)),(31,.i6 (((i+1) % l.length:Nat):Int)),(32,.cptr [.q (l.getD ((i+1) % l.length) default).x 300,.q (l.getD ((i+1) % l.length) default).z 300] 0)] (.c6 (iT (om ((i:Int)<(l.length:Int)))) (show Ref (.cptr ((l.map (dV 300)).getD i []) 0) (.cptr [.q (l.getD i default).x 300,.q (l.getD i default).z 300] 0) from GH hlt) (nn i) (show(i:Int)<((l.map (dV 300)).length:Int) by first | omega | (rw[bM];omega)) (wI ((i:Int)+(1:Int)) ((i+1:Nat):Int) (by first | omega | (rw[bM];omega))) (show Ref (.i6 (((i+1:Nat):Int).tmod (l.length:Int))) (.i6 (((i+1) % l.length:Nat):Int)) from Ref.rem (a:=i+1) (b:=l.length) rfl rfl) (.a4 (om ((l.length:Int)≠0)) (show Ref (.cptr ((l.map (dV 300)).getD ((i+1) % l.length) []) 0) (.cptr [.q (l.getD ((i+1) % l.length) default).x 300,.q (l.getD ((i+1) % l.length) default).z 300] 0) from GH hm) (nn ((i+1) % l.length)) (show(((i+1) % l.length:Nat):Int)<((l.map (dV 300)).length:Int) by first | omega | (rw[bM];omega)))) (t:=Dx) (σ:=slots 56 [(0,.list 6 (l.map (dV 300))),(3,.i6 (l.length:Int)),(4,.i6 (i:Int)),(5,.ptr 0 6 0 0),(6,.ptr 1 6 0 0),(7,.i6 (2:Int)),(20,.list 6 (l.map (dV 300))),(21,.i6 (l.length:Int)),(22,.i6 (i:Int))]) (h:=[some ⟨58,6,false,[[.q (l.getD i default).x 300,.q (l.getD i default).z 300]],none⟩,some ⟨58,6,false,[[.q (l.getD ((i+1) % l.length) default).x 300,.q (l.getD ((i+1) % l.length) default).z 300]],none⟩]) ?_
   refine Good.weak 56 [(0,_),(3,_),(4,_),(5,_),(6,_),(7,.i6 ((2:Nat):Int)),(20,_),(21,_),(22,_)] (by kernel_rfl) (.r (.r (.r (.r (.r (.r (.r (.r (.r .nil))))))))) (GI hlt (by omega) fun hk=>ih fun j hj'=>by
     by_cases e:j=i
     · subst e;exact hk
     · exact hj j (by omega))
end
theorem SC:bO 254 Ph:=by
 refine cJ Tryz.f254 fun _ _ _ S w0 h ho=> ?_
 unfold Ph at h;split at h <;> cases h;rename_i X;have o1:=ho.one;clear ho;generalize X.map BG=l at*;subst o1;have hl:(l.map (dV 300)).length=l.length:=bM ..
 by_cases c1:(((l.map (dV 300)).length:Nat):Int)=(0:Int)
 · refine gN iD [0,2,3,20,21,22] [(12,ff)] (.a1 (jF c1)) (t:=GG) (σ:=slots 56 [(0,.list 6 (l.map (dV 300))),(2,.bool false),(3,(.i6 ((l.map (dV 300)).length:Int))),(20,.list 6 (l.map (dV 300))),(21,(.i6 ((l.map (dV 300)).length:Int))),(22,.i6 (0:Int))]) (h:=[]) ?_
   rw[hl];exact Good.weak 56 [(0,_),(3,_),(20,_),(21,_),(22,_)] (by kernel_rfl) (.r (.r (.r (.r (.r .nil))))) (Dy (by omega))
 · by_cases c2:(((l.map (dV 300)).length:Nat):Int)<(3:Int)
   · exact rF iD [(12,tt),(15,tt)] (.a2 (jT c1) (iT c2)) (V:=.bool false) (Ref.bool (decide_eq_false fun h=>by have:=h.1;omega).symm)
   · by_cases c3:(12:Int)<(((l.map (dV 300)).length:Nat):Int)
     · exact rF iD [(12,tt),(15,ff),(19,tt)] (.a3 (jT c1) (iF c2) (iT c3)) (V:=.bool false) (Ref.bool (decide_eq_false fun h=>by have:=h.1;omega).symm)
     · refine gN iD [0,2,3,20,21,22] [(12,tt),(15,ff),(19,ff)] (.a3 (jT c1) (iF c2) (iF c3)) (t:=GG) (σ:=slots 56 [(0,.list 6 (l.map (dV 300))),(2,.bool false),(3,(.i6 ((l.map (dV 300)).length:Int))),(20,.list 6 (l.map (dV 300))),(21,(.i6 ((l.map (dV 300)).length:Int))),(22,.i6 (0:Int))]) (h:=[]) ?_
       rw[hl];exact Good.weak 56 [(0,_),(3,_),(20,_),(21,_),(22,_)] (by kernel_rfl) (.r (.r (.r (.r (.r .nil))))) (Dy (by omega))
def Pi:KF
 | [.agg [.str n,.int .i64 p,.q ax 300,.q az 300,.q ma 300,.q ir 300,.q cx 300,.q cz 300,.q lo 300,.q hi 300,.list 6 H],.cptr [.str n',.int .i64 p',.q ax' 300,.q az' 300,.q ma' 300,.q ir' 300,.q cx' 300,.q cz' 300,.q lo' 300,.q hi' 300,.list 6 H'] 0]=>some (.bool (n.toList==n'.toList),[])
 | _=>none
theorem SD:bO 252 Pi:=by
 refine cJ Tryz.f252 fun _ _ _ S w0 h ho=> ?_
 unfold Pi at h;split at h <;> cases h;rename_i n p ax az ma ir cx cz lo hi H n' p' ax' az' ma' ir' cx' cz' lo' hi' H';exact rR .nil [] .nil
def rK:=kn.cons SD
def fP (p:Nat->Bool):Nat->Nat->Int
 | _,0=> -1
 | i,k+1=>if p i then (i:Int) else fP p (i+1) k
def Pj:KF
 | [.list 27 X,.fn 252 [.cptr [.str n0,.int .i64 p0,.q ax0 300,.q az0 300,.q ma0 300,.q ir0 300,.q cx0 300,.q cz0 300,.q lo0 300,.q hi0 300,.list 6 H0] 0]]=>some (.int .i64 (fP (fun j=>(((X.map reBody).getD j default).name.toList==n0.toList)) 0 X.length),[X=(X.map reBody).map (aH 300),X.length<=4611686018427387904])
 | _=>none
section
variable {S:Nat->Prop} {w0:World}
noncomputable abbrev LY:List Item:=[.code (aR [1,0,1,0,0] (aA Tryz.f294)),.inLoop (aR [1,0,1,0,0] (aA Tryz.f294)),.inBlock 0,.code (aR [1,1] (aA Tryz.f294))]
theorem Jz {es:List BodyD} (n0:ByteArray) (p0:Int) (ax0 az0 ma0 ir0 cx0 cz0 lo0 hi0:Rat) (H0:List (List AV)) (hL:es.length<=4611686018427387904):
   GF 294 S w0 (.i6 (fP (fun j=>((es.getD j default).name.toList==n0.toList)) 0 es.length)) LY ⟨slots 19 [(0,.list 27 (es.map (aH 300))),(1,.fn 252 [.cptr [.str n0,.i6 p0,.q ax0 300,.q az0 300,.q ma0 300,.q ir0 300,.q cx0 300,.q cz0 300,.q lo0 300,.q hi0 300,.list 6 H0] 0]),(6,.list 27 (es.map (aH 300))),(7,.i6 ((es.length:Nat):Int)),(8,.i6 ((0:Nat):Int))],[]⟩:=by
 have ret:∀ {todo:List Item} {σ:List AV} {h:List (Option ABlk)} {b:Int},b=fP (fun j=>((es.getD j default).name.toList==n0.toList)) 0 es.length->σ.getD 4 .any= .i6 b->GF 294 S w0 (.i6 (fP (fun j=>((es.getD j default).name.toList==n0.toList)) 0 es.length)) (.code .ret::todo) ⟨σ,h⟩:=fun e hσ=>
   bX aX (fn:=Tryz.f294) (by kernel_rfl) 4 (by kernel_rfl) rfl (by rw[hσ];rfl) (by rw[hσ,e];exact rr)
 refine pW (G:=fun i=>fP (fun j=>((es.getD j default).name.toList==n0.toList)) i (es.length-i)=fP (fun j=>((es.getD j default).name.toList==n0.toList)) 0 es.length->GF 294 S w0 (.i6 (fP (fun j=>((es.getD j default).name.toList==n0.toList)) 0 es.length)) LY ⟨slots 19 [(0,.list 27 (es.map (aH 300))),(1,.fn 252 [.cptr [.str n0,.i6 p0,.q ax0 300,.q az0 300,.q ma0 300,.q ir0 300,.q cx0 300,.q cz0 300,.q lo0 300,.q hi0 300,.list 6 H0] 0]),(6,.list 27 (es.map (aH 300))),(7,.i6 ((es.length:Nat):Int)),(8,.i6 ((i:Nat):Int))],[]⟩) es.length ?_ ?_ rfl
 · intro he
   rw[Nat.sub_self] at he;exact rF rK [(9,ff)] (.a1 (iF (om (¬ ((es.length:Int)<(es.length:Int)))))) (V:=.i6 (-1:Int)) (Ref.int he)
 · intro i hlt ih he
   rw[show es.length-i=(es.length-(i+1))+1 by omega,fP] at he;have v0:Ref (.cptr ((es.map (aH 300)).getD i []) 0) (.cptr (aH 300 (es.getD i default)) 0):=Ref.cmap hlt;have v1:(i:Int)<((es.map (aH 300)).length:Int):=by rw[bM];omega
   have v2:(i:Int)<(es.length:Int):=by omega
   by_cases c:((es.getD i default).name.toList==n0.toList)=true
   · rw[if_pos c] at he
     exact rF rK [(9,tt),(14,.cptr (aH 300 (es.getD i default)) 0),(16,tt)] (.a5 (iT v2) v0 (nn i) v1 (show Ref (.bool ((es.getD i default).name.toList==n0.toList)) (.bool true) from Ref.bool c)) (V:=.i6 (i:Int)) (Ref.int he)
   · rw[if_neg c] at he
     exact gR rK none [0,1,4,6,7,8] [] [(9,tt),(14,.cptr (aH 300 (es.getD i default)) 0),(16,ff),(18,.i6 ((i+1:Nat):Int))] (.a6 (iT v2) v0 (nn i) v1 (show Ref (.bool ((es.getD i default).name.toList==n0.toList)) (.bool false) from Ref.bool (show((es.getD i default).name.toList==n0.toList)=false by simpa using c)) (wI ((i:Int)+(1:Int)) ((i+1:Nat):Int))) (ih he)
end
theorem SE:bO 294 Pj:=by
 refine cJ Tryz.f294 fun _ _ _ S w0 h ho=> ?_
 unfold Pj at h;split at h <;> cases h;rename_i X n0 p0 ax0 az0 ma0 ir0 cx0 cz0 lo0 hi0 H0;obtain⟨o1,-⟩:=ho.e2;have o2:(X.map reBody).length<=4611686018427387904:=by rw[bM];exact ho _ (by simp)
 clear ho;rw[show X.length=(X.map reBody).length by rw[bM]];generalize (X.map reBody)=es at*;subst o1;refine gN rK [0,1,6,7,8] [] .nil (t:=LY) (σ:=slots 19 [(0,.list 27 (es.map (aH 300))),(1,.fn 252 [.cptr [.str n0,.i6 p0,.q ax0 300,.q az0 300,.q ma0 300,.q ir0 300,.q cx0 300,.q cz0 300,.q lo0 300,.q hi0 300,.list 6 H0] 0]),(6,.list 27 (es.map (aH 300))),(7,(.i6 ((es.map (aH 300)).length:Int))),(8,.i6 (0:Int))]) (h:=[]) ?_
 rw[bM];exact Jz n0 p0 ax0 az0 ma0 ir0 cx0 cz0 lo0 hi0 H0 o2
def Pk:KF
 | [.list 27 X,.fn 252 [.cptr [.str n0,.int .i64 p0,.q ax0 300,.q az0 300,.q ma0 300,.q ir0 300,.q cx0 300,.q cz0 300,.q lo0 300,.q hi0 300,.list 6 H0] 0]]=>some (.bool (decide (0<=fP (fun j=>(((X.map reBody).getD j default).name.toList==n0.toList)) 0 X.length)),[X=(X.map reBody).map (aH 300),X.length<=4611686018427387904])
 | _=>none
theorem SF:bO 251 Pk:=by
 refine cJ Tryz.f251 fun _ _ _ S w0 h ho=> ?_
 unfold Pk at h;split at h <;> cases h;rename_i X n0 p0 ax0 az0 ma0 ir0 cx0 cz0 lo0 hi0 H0;obtain⟨o1,o2⟩:=ho.e2;have K:=kn.cons SE;exact rR K [] (.a2 o1 o2)
theorem Pm {n m:Int} (h:(!((decide (n<0))==(decide (m<0))))=true) (k:n<0):(-1:Int)=fJ n m:=by
 by_cases b:m<0 <;> simp[k,b] at h
 unfold fJ;rw[if_pos (by omega)]
theorem Pn {n m:Int} (h:(!((decide (n<0))==(decide (m<0))))=true) (k:¬ n<0):(1:Int)=fJ n m:=by
 by_cases b:m<0 <;> simp[k,b] at h
 unfold fJ;rw[if_neg (by omega),if_pos (by omega)]
theorem Po {n m:Int} (h:(!((decide (n<0))==(decide (m<0))))=false) (k:n<0):fL m.natAbs n.natAbs=fJ n m:=by
 by_cases b:m<0 <;> simp[k,b] at h
 unfold fJ fL
 by_cases c:n<m
 · rw[if_pos (by omega),if_pos c]
 · by_cases d:m<n
   · rw[if_neg (by omega),if_pos (by omega),if_neg c,if_pos d]
   · rw[if_neg (by omega),if_neg (by omega),if_neg c,if_neg d]
theorem Pp {n m:Int} (h:(!((decide (n<0))==(decide (m<0))))=false) (k:¬ n<0):fL n.natAbs m.natAbs=fJ n m:=by
 by_cases b:m<0 <;> simp[k,b] at h
 unfold fJ fL
 by_cases c:n<m
 · rw[if_pos (by omega),if_pos c]
 · by_cases d:m<n
   · rw[if_neg (by omega),if_pos (by omega),if_neg c,if_pos d]
   · rw[if_neg (by omega),if_neg (by omega),if_neg c,if_neg d]
def Pq:KF
 | [.agg [.z n B],.agg [.z m C]]=>some (.int .i64 (fJ n m),[])
 | _=>none
theorem SG:bO 199 Pq:=by
 refine cJ Tryz.f199 fun _ _ _ S w0 h ho=> ?_
 unfold Pq at h;split at h <;> cases h;rename_i n B m C;have K:=kn.cons FJ;rcases Bool.eq_false_or_eq_true (!((decide (n<0))==(decide (m<0)))) with h1 | h1
 · have v1:Ref (.bool (!((decide (n<0))==(decide (m<0))))) (.bool true):=Ref.bool h1
   by_cases h2:n<0
   · exact rF K [(11,tt),(5,tt)] (.a2 v1 (iT h2)) (V:=.i6 (-1:Int)) (Ref.int (Pm h1 h2))
   · exact rF K [(11,tt),(5,ff),(15,tt)] (.a3 v1 (iF h2) v1) (V:=.i6 (1:Int)) (Ref.int (Pn h1 h2))
 · have v0:Ref (.bool (!((decide (n<0))==(decide (m<0))))) (.bool false):=Ref.bool h1
   by_cases h2:n<0
   · exact rF K [(11,ff),(15,ff),(21,tt)] (.a3 v0 v0 (iT h2)) (V:=.i6 (fL m.natAbs n.natAbs)) (Ref.int (Po h1 h2))
   · exact rF K [(11,ff),(15,ff),(21,ff)] (.a3 v0 v0 (iF h2)) (V:=.i6 (fL n.natAbs m.natAbs)) (Ref.int (Pp h1 h2))
def Pr:KF
 | [.agg [.q x B],.agg [.q y C]]=>some (.int .i64 (jI x y),[B+C+200<=LIM])
 | _=>none
theorem EI:bO 104 Pr:=by
 refine cJ Tryz.f104 fun _ _ _ S w0 h ho=> ?_
 unfold Pr at h;split at h <;> cases h;rename_i x B y C;have o1:=ho.one;have L:=dH;have K:=((kn.cons SG).cons Pc).cons CG;exact rF K [] (.a4 (om (max C 64+1<=LIM)) (om (B+(C+1)+128<=LIM)) (om (max B 64+1<=LIM)) (om (C+(B+1)+128<=LIM))) (V:=.i6 (fJ (x.num*(y.den:Int)) (y.num*(x.den:Int)))) (Ref.int (IP x y))
def Ps:KF
 | [.agg [.q x B,.q y C],.agg [.q z D,.q w E]]=>some (.bool (decide (x=z/\y=w)),[B+D+200<=LIM,C+E+200<=LIM])
 | _=>none
theorem Pt:bO 253 Ps:=by
 refine cJ Tryz.f253 fun _ _ _ S w0 h ho=> ?_
 unfold Ps at h;split at h <;> cases h;rename_i x B y C z D w E;obtain⟨o1,o2⟩:=ho.e2;have K:=kn.cons EI
 by_cases h1:(jI x z)=(0:Int)
 · exact rF K [(11,tt)] (.a3 o1 (iT h1) o2) (V:=.bool (decide ((jI y w)=(0:Int)))) (Ref.bool (by rw[fW] at h1;simp[fW,h1]))
 · exact rF K [(11,ff)] (.a2 o1 (iF h1)) (V:=.bool false) (Ref.bool (by rw[fW] at h1;simp[h1]))
def cS:=(((((kn.cons SC).cons Pt).cons SF).cons Pa).cons EI).cons AT
noncomputable abbrev wR:List Item:=[.code (aR [1,1,1,1,0] (aA Tryz.f190)),.code (aR [1,1,1,1,1] (aA Tryz.f190))]
noncomputable abbrev Ai:List Item:=[.code (aR [1,1,1,1,1,0,0] (aA Tryz.f190)),.code (aR [1,1,1,1,1,0,1] (aA Tryz.f190)),.code (aR [1,1,1,1,1,1] (aA Tryz.f190))]
noncomputable abbrev GJ:List Item:=[.code (aR [1,1,1,0] (aA Tryz.f190)),.code (aR [1,1,1,1] (aA Tryz.f190))]
noncomputable abbrev GK:List Item:=[.code (aR [1,1,0,0,1,1,0] (aA Tryz.f190)),.code (aR [1,1,0,0,1,1,1] (aA Tryz.f190)),.inBlock 0,.code (aR [1,1,1] (aA Tryz.f190))]
noncomputable abbrev GL:List Item:=[.code .ret,.inBlock 0,.code (aR [1,1,1] (aA Tryz.f190))]
def pX (v:BodyD):Bool:=decide (v.par= -1/\(v.at_.x=0/\v.at_.z=0)/\Int.sign v.low.num=0/\Int.sign v.high.num=0)
def pL (v:BodyD) (i:Nat):Bool:=decide (0<=v.par/\v.par<((i:Nat):Int)/\jI v.low v.high<=0)
def jO (i:Nat) (v:BodyD) (tr lb:Bool):Int:=if (i=0/\tr=false)\/(0<i/\lb=false)\/Int.sign v.ma.num<=0\/Int.sign v.inr.num<=0\/dG v.shape=false then 2 else 0
def sW (bs:List BodyD) (i:Nat) (v:BodyD):Prop:=0<=fP (fun j=>(((bs.take i).getD j default).name.toList==v.name.toList)) 0 i
instance (bs:List BodyD) (i:Nat) (v:BodyD):Decidable (sW bs i v):=by unfold sW;infer_instance
def Dz (bs:List BodyD) (i:Nat) (v:BodyD):Int:=if eO v.name=false then 6 else if sW bs i v then 7 else jO i v (pX v) (pL v i)
def eX (bs:List BodyD) (i:Nat):Int:=Dz bs i (bs.getD i default)
def Pu:KF
 | [.agg M,.int .i64 i]=>some (.int .i64 (eX (aG M).bodies i.toNat),[0<=i,M=aE 300 (aG M),i.toNat<(aG M).bodies.length,(aG M).bodies.length<=4611686018427387904])
 | _=>none
section
variable {S:Nat->Prop} {w0:World}
theorem GM {R:Int} {todo:List Item} {σ:List AV} {h:List (Option ABlk)} {b:Int} (e:b=R) (hσ:σ.getD 4 .any= .i6 b):GF 190 S w0 (.i6 R) (.code .ret::todo) ⟨σ,h⟩:=
 bX aX (fn:=Tryz.f190) (by kernel_rfl) 4 (by kernel_rfl) rfl (by rw[hσ];rfl) (by rw[hσ,e];exact rr)
theorem CK (i:Nat) (v:BodyD) (tr lb:Bool):GF 190 S w0 (.i6 (jO i v tr lb)) Ai ⟨slots 95 [(1,.i6 ((i:Nat):Int)),(5,.cptr (aH 300 v) 0),(6,.bool tr),(7,.bool lb)],[]⟩:=by
 have hL:True:=trivial;have v0:(v.shape.map (dV 300))=((v.shape.map (dV 300)).map BG).map (dV 300):=(congrArg (fun l=>l.map (dV 300)) (uI _)).symm;have v1:Ref (.bool (dG ((v.shape.map (dV 300)).map BG))) (.bool (dG v.shape)):=Ref.bool (congrArg dG (uI _))
 by_cases c1:((i:Nat):Int)=(0:Int)
 · rcases Bool.eq_false_or_eq_true (!tr) with c2 | c2
   · exact rF cS [(65,tt),(69,tt)] (.a2 (iT c1) (show Ref (.bool (!tr)) (.bool true) from Ref.bool c2)) (V:=.i6 (2:Int)) (Ref.int (by clear hL;unfold jO;simp_all))
   · by_cases c3:(0:Int)<((i:Nat):Int)
     · exfalso;omega
     · have v2:Ref (.bool (!tr)) (.bool false):=Ref.bool c2
       by_cases c4:(Int.sign v.ma.num)<=(0:Int)
       · exact rF cS [(65,tt),(69,ff),(72,ff),(83,tt)] (.a4 (iT c1) v2 (iF c3) (iT c4)) (V:=.i6 (2:Int)) (Ref.int (by clear hL;unfold jO;simp_all))
       · by_cases c5:(Int.sign v.inr.num)<=(0:Int)
         · exact rF cS [(65,tt),(69,ff),(72,ff),(83,ff),(89,tt)] (.a5 (iT c1) v2 (iF c3) (iF c4) (iT c5)) (V:=.i6 (2:Int)) (Ref.int (by clear hL;unfold jO;simp_all))
         · rcases Bool.eq_false_or_eq_true (!(dG v.shape)) with c6 | c6
           · exact rF cS [(65,tt),(69,ff),(72,ff),(83,ff),(89,ff),(92,.bool (dG v.shape)),(94,tt)] (.c6 (iT c1) v2 (iF c3) (iF c4) (iF c5) v1 (.a2 v0 (show Ref (.bool (!(dG v.shape))) (.bool true) from Ref.bool c6))) (V:=.i6 (2:Int)) (Ref.int (by clear hL;unfold jO;simp_all))
           · exact rF cS [(65,tt),(69,ff),(72,ff),(83,ff),(89,ff),(92,.bool (dG v.shape)),(94,ff)] (.c6 (iT c1) v2 (iF c3) (iF c4) (iF c5) v1 (.a2 v0 (show Ref (.bool (!(dG v.shape))) (.bool false) from Ref.bool c6))) (V:=.i6 (0:Int)) (Ref.int (by clear hL;unfold jO;simp_all))
 · by_cases c2:(0:Int)<((i:Nat):Int)
   · rcases Bool.eq_false_or_eq_true (!lb) with c3 | c3
     · exact rF cS [(65,ff),(72,tt),(77,tt)] (.a3 (iF c1) (iT c2) (show Ref (.bool (!lb)) (.bool true) from Ref.bool c3)) (V:=.i6 (2:Int)) (Ref.int (by clear hL;unfold jO;simp_all))
     · have v3:Ref (.bool (!lb)) (.bool false):=Ref.bool c3
       by_cases c4:(Int.sign v.ma.num)<=(0:Int)
       · exact rF cS [(65,ff),(72,tt),(77,ff),(83,tt)] (.a4 (iF c1) (iT c2) v3 (iT c4)) (V:=.i6 (2:Int)) (Ref.int (by clear hL;unfold jO;simp_all))
       · by_cases c5:(Int.sign v.inr.num)<=(0:Int)
         · exact rF cS [(65,ff),(72,tt),(77,ff),(83,ff),(89,tt)] (.a5 (iF c1) (iT c2) v3 (iF c4) (iT c5)) (V:=.i6 (2:Int)) (Ref.int (by clear hL;unfold jO;simp_all))
         · rcases Bool.eq_false_or_eq_true (!(dG v.shape)) with c6 | c6
           · exact rF cS [(65,ff),(72,tt),(77,ff),(83,ff),(89,ff),(92,.bool (dG v.shape)),(94,tt)] (.c6 (iF c1) (iT c2) v3 (iF c4) (iF c5) v1 (.a2 v0 (show Ref (.bool (!(dG v.shape))) (.bool true) from Ref.bool c6))) (V:=.i6 (2:Int)) (Ref.int (by clear hL;unfold jO;simp_all))
           · exact rF cS [(65,ff),(72,tt),(77,ff),(83,ff),(89,ff),(92,.bool (dG v.shape)),(94,ff)] (.c6 (iF c1) (iT c2) v3 (iF c4) (iF c5) v1 (.a2 v0 (show Ref (.bool (!(dG v.shape))) (.bool false) from Ref.bool c6))) (V:=.i6 (0:Int)) (Ref.int (by clear hL;unfold jO;simp_all))
   · exfalso;omega
theorem Aj (i:Nat) (v:BodyD) (tr:Bool):GF 190 S w0 (.i6 (jO i v tr (pL v i))) wR ⟨slots 95 [(1,.i6 ((i:Nat):Int)),(5,.cptr (aH 300 v) 0),(6,.bool tr)],[]⟩:=by
 by_cases c1:(0:Int)<=v.par
 · by_cases c2:v.par<((i:Nat):Int)
   · refine gR cS (some 8) [1,5,6,7] [] [(49,tt),(55,tt)] (.a3 (iT c1) (iT c2) (dc (300+300+200<=LIM))) (t:=Ai) (σ:=slots 95 [(1,.i6 (i:Int)),(5,.cptr (aH 300 v) 0),(6,.bool tr),(7,(.bool (decide ((jI v.low v.high)<=(0:Int)))))]) (h:=[]) ?_
     have e:pL v i=decide (jI v.low v.high<=(0:Int)):=decide_eq_decide.2 ⟨fun h=>h.2.2,fun h=>⟨c1,c2,h⟩⟩;rw[e];exact CK i v tr _
   · refine gR cS (some 8) [1,5,6,7] [] [(49,tt),(55,ff)] (.a2 (iT c1) (iF c2)) (t:=Ai) (σ:=slots 95 [(1,.i6 (i:Int)),(5,.cptr (aH 300 v) 0),(6,.bool tr),(7,.bool false)]) (h:=[]) ?_
     have e:pL v i=false:=decide_eq_false (by omega);rw[e];exact CK i v tr false
 · refine gR cS (some 8) [1,5,6,7] [] [(49,ff)] (.a1 (iF c1)) (t:=Ai) (σ:=slots 95 [(1,.i6 (i:Int)),(5,.cptr (aH 300 v) 0),(6,.bool tr),(7,.bool false)]) (h:=[]) ?_
   have e:pL v i=false:=decide_eq_false (by omega);rw[e];exact CK i v tr false
theorem LZ (i:Nat) (v:BodyD):GF 190 S w0 (.i6 (jO i v (pX v) (pL v i))) GJ ⟨slots 95 [(1,.i6 ((i:Nat):Int)),(5,.cptr (aH 300 v) 0)],[]⟩:=by
 by_cases c1:v.par=(-1:Int)
 · have v0:300+0+200<=LIM:=by decide
   rcases Bool.eq_false_or_eq_true (decide (v.at_.x=0/\v.at_.z=0)) with c2 | c2
   · have v1:Ref (.bool (decide (v.at_.x=0/\v.at_.z=0))) (.bool true):=Ref.bool c2
     by_cases c3:(Int.sign v.low.num)=(0:Int)
     · refine gR cS (some 7) [1,5,6] [] [(28,tt),(34,tt),(40,tt)] (.a5 (iT c1) v0 v0 v1 (iT c3)) (t:=wR) (σ:=slots 95 [(1,.i6 (i:Int)),(5,.cptr (aH 300 v) 0),(6,(.bool (decide ((Int.sign v.high.num)=(0:Int)))))]) (h:=[]) ?_
       have e:pX v=decide (Int.sign v.high.num=(0:Int)):=decide_eq_decide.2 ⟨fun h=>h.2.2.2,fun h=>⟨c1,of_decide_eq_true c2,c3,h⟩⟩;rw[e];exact Aj i v _
     · refine gR cS (some 7) [1,5,6] [] [(28,tt),(34,tt),(40,ff)] (.a5 (iT c1) v0 v0 v1 (iF c3)) (t:=wR) (σ:=slots 95 [(1,.i6 (i:Int)),(5,.cptr (aH 300 v) 0),(6,.bool false)]) (h:=[]) ?_
       have e:pX v=false:=decide_eq_false (fun h=>c3 h.2.2.1);rw[e];exact Aj i v false
   · refine gR cS (some 7) [1,5,6] [] [(28,tt),(34,ff)] (.a4 (iT c1) v0 v0 (show Ref (.bool (decide (v.at_.x=0/\v.at_.z=0))) (.bool false) from Ref.bool c2)) (t:=wR) (σ:=slots 95 [(1,.i6 (i:Int)),(5,.cptr (aH 300 v) 0),(6,.bool false)]) (h:=[]) ?_
     have e:pX v=false:=decide_eq_false (fun h=>by have:=decide_eq_true h.2.1;rw[this] at c2;cases c2);rw[e];exact Aj i v false
 · refine gR cS (some 7) [1,5,6] [] [(28,ff)] (.a1 (iF c1)) (t:=wR) (σ:=slots 95 [(1,.i6 (i:Int)),(5,.cptr (aH 300 v) 0),(6,.bool false)]) (h:=[]) ?_
   have e:pX v=false:=decide_eq_false (fun h=>c1 h.1);rw[e];exact Aj i v false
theorem Ma (m:MachD) (i:Nat) (v:BodyD) (hi:i<=m.bodies.length) (hL:m.bodies.length<=4611686018427387904):GF 190 S w0 (.i6 (if sW m.bodies i v then 7 else jO i v (pX v) (pL v i))) GK ⟨slots 95 [(1,.i6 ((i:Nat):Int)),(2,.ptr 0 6 0 0),(5,.cptr (aH 300 v) 0)],[some ⟨41,6,false,[aE 300 m],none⟩]⟩:=by
 have ht:(m.bodies.take i).length=i:=by rw[List.length_take];omega
 have hx:((m.bodies.take i).map (aH 300)).length=i:=by rw[bM,ht]
 have v0:Ref (.bool (decide (0<=fP (fun j=>(((((m.bodies.take i).map (aH 300)).map reBody).getD j default).name.toList==v.name.toList)) 0 ((m.bodies.take i).map (aH 300)).length))) (.bool (decide (0<=fP (fun j=>(((m.bodies.take i).getD j default).name.toList==v.name.toList)) 0 i))):=Ref.bool (by rw[iO,hx]);have v1:Ref (.list 27 (((m.bodies.map (aH 300)).take i).drop 0)) (.list 27 ((m.bodies.take i).map (aH 300))):=Ref.eq (by rw[List.drop_zero,List.map_take]);have v2:((m.bodies.take i).map (aH 300))=(((m.bodies.take i).map (aH 300)).map reBody).map (aH 300):=by rw[iO]
 have v3:(i:Int)<=((m.bodies.map (aH 300)).length:Int):=by rw[bM];omega
 have v4:((m.bodies.take i).map (aH 300)).length<=4611686018427387904:=by omega
 rcases Bool.eq_false_or_eq_true (decide (0<=fP (fun j=>(((m.bodies.take i).getD j default).name.toList==v.name.toList)) 0 i)) with c1 | c1
 · refine gR cS (some 6) [1,2,4,5] [0] [(22,.list 27 ((m.bodies.take i).map (aH 300))),(24,.bool (decide (0<=fP (fun j=>(((m.bodies.take i).getD j default).name.toList==v.name.toList)) 0 i))),(18,tt)] (.c6 v1 (nn i) v3 v0 v2 v4 (.a1 (show Ref (.bool (decide (0<=fP (fun j=>(((m.bodies.take i).getD j default).name.toList==v.name.toList)) 0 i))) (.bool true) from Ref.bool c1))) (t:=GL) (σ:=slots 95 [(1,.i6 (i:Int)),(2,.ptr 0 6 0 0),(4,.i6 (7:Int)),(5,.cptr (aH 300 v) 0)]) (h:=[some ⟨41,6,false,[(aE 300 m)],none⟩]) ?_
   rw[if_pos (show sW m.bodies i v from of_decide_eq_true c1)];exact GM (b:=7) rfl rfl
 · refine gR cS (some 6) [1,2,4,5] [0] [(22,.list 27 ((m.bodies.take i).map (aH 300))),(24,.bool (decide (0<=fP (fun j=>(((m.bodies.take i).getD j default).name.toList==v.name.toList)) 0 i))),(18,ff)] (.c6 v1 (nn i) v3 v0 v2 v4 (.a1 (show Ref (.bool (decide (0<=fP (fun j=>(((m.bodies.take i).getD j default).name.toList==v.name.toList)) 0 i))) (.bool false) from Ref.bool c1))) (t:=GJ) (σ:=slots 95 [(1,.i6 (i:Int)),(2,.ptr 0 6 0 0),(5,.cptr (aH 300 v) 0)]) (h:=[some ⟨41,6,false,[(aE 300 m)],none⟩]) ?_
   rw[if_neg (show ¬ sW m.bodies i v from of_decide_eq_false c1)];exact Good.weak 95 [(1,_),(5,_)] (by kernel_rfl) (.r (.r .nil)) (Good.tidy [] (by decide) (by kernel_rfl) (by kernel_rfl) (LZ i v))
end
theorem SI:bO 190 Pu:=fun args r ob h ho=>by
 unfold Pu at h
 split at h
 · rename_i M i
   cases h;have o0:0<=i:=ho _ (by simp);have o1:M=aE 300 (aG M):=ho _ (by simp);have o2:i.toNat<(aG M).bodies.length:=ho _ (by simp);have o3:(aG M).bodies.length<=4611686018427387904:=ho _ (by simp);clear ho;generalize aG M=m at*;subst o1;obtain⟨i,rfl⟩:=Int.eq_ofNat_of_zero_le o0;replace o2:i<m.bodies.length:=o2;show qL Tryz.prog 190 [.agg (aE 300 m),.i6 ((i:Nat):Int)] (.i6 (Dz m.bodies i (m.bodies.getD i default)));obtain⟨v,hv⟩:∃ v,v=m.bodies.getD i default:=⟨_,rfl⟩;have hr:Ref (.cptr ((m.bodies.map (aH 300)).getD i []) 0) (.cptr (aH 300 v) 0):=by rw[hv];exact Ref.cmap o2
   rw[<- hv];clear hv;refine af Tryz.f190 fun S w0=> ?_
   have e:kY [AV.agg (aE 300 m),.i6 ((i:Nat):Int)] Tryz.f190.ntmps=⟨slots 95 [(0,.agg (aE 300 m)),(1,.i6 ((i:Nat):Int))],[]⟩:=by kernel_rfl
   rw[e];clear e;unfold Dz;have v0:(i:Int)<((m.bodies.map (aH 300)).length:Int):=by rw[bM];omega
   rcases Bool.eq_false_or_eq_true (!(eO v.name)) with c1 | c1
   · refine gR cS (some 4) [1,2,4,5] [0,1] [(11,.cptr (aH 300 v) 0),(13,tt)] (.a4 hr (nn i) v0 (show Ref (.bool (!(eO v.name))) (.bool true) from Ref.bool c1)) (t:=GL) (σ:=slots 95 [(1,.i6 (i:Int)),(2,.ptr 0 6 0 0),(4,.i6 (6:Int)),(5,.ptr 1 27 0 0)]) (h:=[some ⟨41,6,false,[(aE 300 m)],none⟩,some ⟨114,27,false,[(aH 300 v)],none⟩]) ?_
     rw[if_pos (show eO v.name=false by simpa using c1)];exact GM (b:=6) rfl rfl
   · refine gR cS (some 4) [1,2,4,5] [0,1] [(11,.cptr (aH 300 v) 0),(13,ff)] (.a4 hr (nn i) v0 (show Ref (.bool (!(eO v.name))) (.bool false) from Ref.bool c1)) (t:=GK) (σ:=slots 95 [(1,.i6 (i:Int)),(2,.ptr 0 6 0 0),(4,.i6 (0:Int)),(5,.ptr 1 27 0 0)]) (h:=[some ⟨41,6,false,[(aE 300 m)],none⟩,some ⟨114,27,false,[(aH 300 v)],none⟩]) ?_
     rw[if_neg (show ¬ eO v.name=false by simpa using c1)];refine Good.freezeD (b:=⟨114,27,false,[aH 300 v],none⟩) 1 (by rfl) (by rfl) (.oe (.a1 (dc (0<1)))) .on ?_;refine Good.tidy [0] (by decide) (σ':=slots 95 [(1,.i6 ((i:Nat):Int)),(2,.ptr 0 6 0 0),(4,.i6 (0:Int)),(5,.cptr (aH 300 v) 0)]) (h':=[some ⟨41,6,false,[aE 300 m],none⟩]) (by kernel_rfl) (by kernel_rfl) ?_;exact Good.weak 95 [(1,_),(2,_),(5,_)] (by kernel_rfl) (.r (.r (.r .nil))) (Ma m i v (Nat.le_of_lt o2) o3)
 · cases h
def nO:=kn.cons SI
def eZ (f:Nat->Int):Nat->Nat->Int
 | _,0=>0
 | i,k+1=>if f i=0 then eZ f (i+1) k else f i
def bG (n:Nat) (most:Int) (f:Nat->Int):Int:=if most<((n:Nat):Int) then 5 else eZ f 0 n
def Pv:KF
 | [.list 27 X,.int .i64 t,.fnm 190 true M]=>some (.int .i64 (bG (aG M).bodies.length t (fun i=>eX (aG M).bodies i)),[M=aE 300 (aG M),X=(aG M).bodies.map (aH 300),(aG M).bodies.length<=4611686018427387904])
 | _=>none
section
variable {S:Nat->Prop} {w0:World}
theorem SJ {R:Int} {todo:List Item} {σ:List AV} {h:List (Option ABlk)} {b:Int} (e:b=R) (hσ:σ.getD 6 .any= .i6 b):GF 189 S w0 (.i6 R) (.code .ret::todo) ⟨σ,h⟩:=
 bX aX (fn:=Tryz.f189) (by kernel_rfl) 6 (by kernel_rfl) rfl (by rw[hσ];rfl) (by rw[hσ,e];exact rr)
noncomputable abbrev Mb:List Item:=[.code (aR [1,1,0,1,0,0] (aA Tryz.f189)),.inLoop (aR [1,1,0,1,0,0] (aA Tryz.f189)),.inBlock 0,.code (aR [1,1,1] (aA Tryz.f189))]
theorem JA {m:MachD} {R:Int} (hR:eZ (fun i=>eX m.bodies i) 0 m.bodies.length=R) (hL:m.bodies.length<=4611686018427387904):
   GF 189 S w0 (.i6 R) Mb ⟨slots 25 [(0,.list 27 (m.bodies.map (aH 300))),(2,.fnm 190 true (aE 300 m)),(14,.i6 ((m.bodies.length:Nat):Int)),(15,.i6 ((0:Nat):Int))],[]⟩:=by
 refine pW (G:=fun i=>eZ (fun i=>eX m.bodies i) i (m.bodies.length-i)=R->GF 189 S w0 (.i6 R) Mb ⟨slots 25 [(0,.list 27 (m.bodies.map (aH 300))),(2,.fnm 190 true (aE 300 m)),(14,.i6 ((m.bodies.length:Nat):Int)),(15,.i6 ((i:Nat):Int))],[]⟩) m.bodies.length ?_ ?_ hR
 · intro he
   rw[Nat.sub_self] at he;exact rF nO [(16,ff)] (.a1 (iF (om (¬ ((m.bodies.length:Int)<(m.bodies.length:Int)))))) (V:=.i6 (0:Int)) (Ref.int he)
 · intro i hlt ih he
   have hx:(m.bodies.map (aH 300)).length=m.bodies.length:=bM ..;rw[show m.bodies.length-i=(m.bodies.length-(i+1))+1 by omega,eZ] at he;have v0:Ref (.i6 (eX (aG (aE 300 m)).bodies i)) (.i6 (eX m.bodies i)):=Ref.int (congrArg (fun x:MachD=>eX x.bodies i) (aW m));have v1:(aG (aE 300 m)).bodies.length<=4611686018427387904:=(congrArg (fun x:MachD=>x.bodies.length<=4611686018427387904) (aW m)).mpr hL;have v2:i<(aG (aE 300 m)).bodies.length:=(congrArg (fun x:MachD=>i<x.bodies.length) (aW m)).mpr hlt;have v3:(aE 300 m)=aE 300 (aG (aE 300 m)):=(congrArg (aE 300) (aW m)).symm;have v4:(i:Int)<(m.bodies.length:Int):=by omega
   by_cases c:eX m.bodies i=0
   · rw[if_pos c] at he
     exact gR nO none [0,2,6,14,15] [] [(16,tt),(20,.i6 (eX m.bodies i)),(22,ff),(24,.i6 ((i+1:Nat):Int))] (.c6 (iT v4) v0 (nn i) v3 v2 v1 (.a2 (jF c) (wI ((i:Int)+(1:Int)) ((i+1:Nat):Int)))) (ih he)
   · rw[if_neg c] at he
     exact rF nO [(16,tt),(20,.i6 (eX m.bodies i)),(22,tt)] (.c6 (iT v4) v0 (nn i) v3 v2 v1 (.a1 (jT c))) (V:=.i6 (eX m.bodies i)) (Ref.int he)
end
theorem SK:bO 189 Pv:=by
 refine cJ Tryz.f189 fun _ _ _ S w0 h ho=> ?_
 unfold Pv at h;split at h <;> cases h;rename_i X t M;obtain⟨o1,o2,o3⟩:=ho.e3;clear ho;generalize aG M=m at*;subst o1;subst o2;have hx:(m.bodies.map (aH 300)).length=m.bodies.length:=bM ..
 by_cases c:t<((m.bodies.length:Nat):Int)
 · exact rF nO [(12,tt)] (.a1 (iT (show t<((m.bodies.map (aH 300)).length:Int) by rw[hx];exact c))) (V:=.i6 (5:Int)) (Ref.int (by unfold bG;rw[if_pos c]))
 · refine gN nO [0,1,2,6,13,14,15] [(12,ff)] (.a1 (iF (show ¬ (t<((m.bodies.map (aH 300)).length:Int)) by rw[hx];exact c))) (t:=Mb) (σ:=slots 25 [(0,.list 27 (m.bodies.map (aH 300))),(1,.i6 t),(2,.fnm 190 true (aE 300 m)),(6,.i6 (0:Int)),(13,.list 27 (m.bodies.map (aH 300))),(14,(.i6 ((m.bodies.map (aH 300)).length:Int))),(15,.i6 (0:Int))]) (h:=[]) ?_
   rw[hx];exact Good.weak 25 [(0,_),(2,_),(14,_),(15,_)] (by kernel_rfl) (.r (.r (.r (.r .nil)))) (JA (by unfold bG;rw[if_neg c]) o3)
theorem Ref.cmapX {α:Type} [Inhabited α] {f:α->List AV} {g:List AV->α} {X:List (List AV)} {i:Nat} (h:X=(X.map g).map f) (hi:i<X.length):Ref (.cptr (X.getD i []) 0) (.cptr (f ((X.map g).getD i default)) 0):=by
 have:=Ref.cmap (f:=f) (xs:=X.map g) (i:=i) (by rw[bM];exact hi)
 rwa [<- h] at this
def Pw:KF
 | [.agg [.str mn,.list 27 XB,.list 17 XS,.list 17 XT,.list 13 XD,.list 5 XF],.int .i64 i]=>some (.bool (decide (0<=i/\i<((XB.length:Nat):Int))),[])
 | _=>none
theorem Mc:bO 256 Pw:=by
 refine cJ Tryz.f256 fun _ _ _ S w0 h ho=> ?_
 unfold Pw at h;split at h <;> cases h;rename_i mn XB XS XT XD XF i
 by_cases h1:(0:Int)<=i
 · exact rF .nil [(7,tt)] (.a1 (iT h1)) (V:=.bool (decide (i<(XB.length:Int)))) (Ref.bool (by simp[h1]))
 · exact rF .nil [(7,ff)] (.a1 (iF h1)) (V:=.bool false) (Ref.bool (by simp[h1]))
def mT (n:Nat) (a b:Int):Bool:=decide (0<=a/\a<((n:Nat):Int))&&(decide (0<=b/\b<((n:Nat):Int))&& !decide (a=b))
def Px:KF
 | [.agg [.str mn,.list 27 XB,.list 17 XS,.list 17 XT,.list 13 XD,.list 5 XF],.int .i64 a,.int .i64 b]=>some (.bool (mT XB.length a b),[])
 | _=>none
theorem Py:bO 255 Px:=by
 refine cJ Tryz.f255 fun _ _ _ S w0 h ho=> ?_
 unfold Px at h;split at h <;> cases h;rename_i mn XB XS XT XD XF a b;have K:=kn.cons Mc;rcases Bool.eq_false_or_eq_true (decide (0<=a/\a<((XB.length:Nat):Int))) with h1 | h1
 · have v0:Ref (.bool (decide (0<=a/\a<(XB.length:Int)))) (.bool true):=Ref.bool h1
   rcases Bool.eq_false_or_eq_true (decide (0<=b/\b<((XB.length:Nat):Int))) with h2 | h2
   · refine rF K [(10,tt),(15,tt)] (.a2 v0 (show Ref (.bool (decide (0<=b/\b<(XB.length:Int)))) (.bool true) from Ref.bool h2)) (V:=.bool (!decide (a=b))) ?_
     unfold mT;simp only[*,Bool.true_and,Bool.false_and];exact rr
   · refine rF K [(10,tt),(15,ff)] (.a2 v0 (show Ref (.bool (decide (0<=b/\b<(XB.length:Int)))) (.bool false) from Ref.bool h2)) (V:=.bool false) ?_
     unfold mT;simp only[*,Bool.true_and,Bool.false_and];exact rr
 · refine rF K [(10,ff)] (.a1 (show Ref (.bool (decide (0<=a/\a<(XB.length:Int)))) (.bool false) from Ref.bool h1)) (V:=.bool false) ?_
   unfold mT;simp only[*,Bool.true_and,Bool.false_and];exact rr
def cD (n:Nat) (v:CordyD):Int:=if mT n v.a v.b=false then 2 else if Int.sign v.k.num<0 then 2 else 0
def Pz:KF
 | [.agg [.str mn,.list 27 XB,.list 17 XS,.list 17 XT,.list 13 XD,.list 5 XF],.int .i64 i]=>some (.int .i64 (cD XB.length ((XS.map dF).getD i.toNat default)),[0<=i,XS=(XS.map dF).map (aN 300),i.toNat<XS.length])
 | _=>none
theorem SL:bO 192 Pz:=by
 refine cJ Tryz.f192 fun _ _ _ S w0 h ho=> ?_
 unfold Pz at h;split at h <;> cases h;rename_i mn XB XS XT XD XF i;obtain⟨o1000,o1,o2⟩:=ho.e3;have K:=(kn.cons Py).cons AT;obtain⟨i,rfl⟩:=Int.eq_ofNat_of_zero_le o1000;clear o1000;replace o1:XS=(XS.map dF).map (aN 300):=o1;replace o2:i<XS.length:=o2;obtain⟨v,hv⟩:∃ v,v=(XS.map dF).getD i default:=⟨_,rfl⟩;have hr:Ref (.cptr (XS.getD i []) 0) (.cptr (aN 300 v) 0):=by rw[hv];exact Ref.cmapX o1 o2
 have v0:Ref (.cptr (XS.getD i []) 0) (.cptr (aN 300 v) 0):=by exact hr
 have v1:(i:Int)<(XS.length:Int):=by omega
 rcases Bool.eq_false_or_eq_true (!(mT XB.length v.a v.b)) with h1 | h1
 · refine rF K [(9,.cptr (aN 300 v) 0),(18,tt)] (.a4 v0 (nn i) v1 (show Ref (.bool (!(mT XB.length v.a v.b))) (.bool true) from Ref.bool h1)) (V:=.i6 (2:Int)) (r:=.i6 (cD XB.length ((XS.map dF).getD i default))) ?_
   rw[<- hv];clear hv hr o1 ho;exact Ref.int (by unfold cD;simp_all)
 · have v2:Ref (.bool (!(mT XB.length v.a v.b))) (.bool false):=Ref.bool h1
   by_cases h2:(Int.sign v.k.num)<(0:Int)
   · refine rF K [(9,.cptr (aN 300 v) 0),(18,ff),(23,tt)] (.a5 v0 (nn i) v1 v2 (iT h2)) (V:=.i6 (2:Int)) (r:=.i6 (cD XB.length ((XS.map dF).getD i default))) ?_
     rw[<- hv];clear hv hr o1 ho;exact Ref.int (by unfold cD;simp_all)
   · refine rF K [(9,.cptr (aN 300 v) 0),(18,ff),(23,ff)] (.a5 v0 (nn i) v1 v2 (iF h2)) (V:=.i6 (0:Int)) (r:=.i6 (cD XB.length ((XS.map dF).getD i default))) ?_
     rw[<- hv];clear hv hr o1 ho;exact Ref.int (by unfold cD;simp_all)
def nP:=kn.cons SL
def PA:KF
 | [.list 17 X,.int .i64 t,.fnm 192 true M]=>some (.int .i64 (bG (aG M).springs.length t (fun i=>cD (aG M).bodies.length ((aG M).springs.getD i default))),[M=aE 300 (aG M),X=(aG M).springs.map (aN 300),(aG M).springs.length<=4611686018427387904])
 | _=>none
section
variable {S:Nat->Prop} {w0:World}
theorem SM {R:Int} {todo:List Item} {σ:List AV} {h:List (Option ABlk)} {b:Int} (e:b=R) (hσ:σ.getD 6 .any= .i6 b):GF 191 S w0 (.i6 R) (.code .ret::todo) ⟨σ,h⟩:=
 bX aX (fn:=Tryz.f191) (by kernel_rfl) 6 (by kernel_rfl) rfl (by rw[hσ];rfl) (by rw[hσ,e];exact rr)
noncomputable abbrev Md:List Item:=[.code (aR [1,1,0,1,0,0] (aA Tryz.f191)),.inLoop (aR [1,1,0,1,0,0] (aA Tryz.f191)),.inBlock 0,.code (aR [1,1,1] (aA Tryz.f191))]
theorem JB {m:MachD} {R:Int} (hR:eZ (fun i=>cD m.bodies.length (m.springs.getD i default)) 0 m.springs.length=R) (hL:m.springs.length<=4611686018427387904):
   GF 191 S w0 (.i6 R) Md ⟨slots 25 [(0,.list 17 (m.springs.map (aN 300))),(2,.fnm 192 true (aE 300 m)),(14,.i6 ((m.springs.length:Nat):Int)),(15,.i6 ((0:Nat):Int))],[]⟩:=by
 refine pW (G:=fun i=>eZ (fun i=>cD m.bodies.length (m.springs.getD i default)) i (m.springs.length-i)=R->GF 191 S w0 (.i6 R) Md ⟨slots 25 [(0,.list 17 (m.springs.map (aN 300))),(2,.fnm 192 true (aE 300 m)),(14,.i6 ((m.springs.length:Nat):Int)),(15,.i6 ((i:Nat):Int))],[]⟩) m.springs.length ?_ ?_ hR
 · intro he
   rw[Nat.sub_self] at he;exact rF nP [(16,ff)] (.a1 (iF (om (¬ ((m.springs.length:Int)<(m.springs.length:Int)))))) (V:=.i6 (0:Int)) (Ref.int he)
 · intro i hlt ih he
   have hx:(m.springs.map (aN 300)).length=m.springs.length:=bM ..;rw[show m.springs.length-i=(m.springs.length-(i+1))+1 by omega,eZ] at he;have v0:Ref (.i6 (cD (m.bodies.map (aH 300)).length (((m.springs.map (aN 300)).map dF).getD i default))) (.i6 (cD m.bodies.length (m.springs.getD i default))):=Ref.int (by rw[kM,bM]);have v1:(m.springs.map (aN 300))=((m.springs.map (aN 300)).map dF).map (aN 300):=by rw[kM]
   have v2:i<(m.springs.map (aN 300)).length:=by rw[bM];exact hlt
   have v3:(i:Int)<(m.springs.length:Int):=by omega
   by_cases c:cD m.bodies.length (m.springs.getD i default)=0
   · rw[if_pos c] at he
     exact gR nP none [0,2,6,14,15] [] [(16,tt),(20,.i6 (cD m.bodies.length (m.springs.getD i default))),(22,ff),(24,.i6 ((i+1:Nat):Int))] (.c6 (iT v3) v0 (nn i) v1 v2 (jF c) (.a1 (wI ((i:Int)+(1:Int)) ((i+1:Nat):Int)))) (ih he)
   · rw[if_neg c] at he
     exact rF nP [(16,tt),(20,.i6 (cD m.bodies.length (m.springs.getD i default))),(22,tt)] (.a6 (iT v3) v0 (nn i) v1 v2 (jT c)) (V:=.i6 (cD m.bodies.length (m.springs.getD i default))) (Ref.int he)
end
theorem SN:bO 191 PA:=by
 refine cJ Tryz.f191 fun _ _ _ S w0 h ho=> ?_
 unfold PA at h;split at h <;> cases h;rename_i X t M;obtain⟨o1,o2,o3⟩:=ho.e3;clear ho;generalize aG M=m at*;subst o1;subst o2;have hx:(m.springs.map (aN 300)).length=m.springs.length:=bM ..
 by_cases c:t<((m.springs.length:Nat):Int)
 · exact rF nP [(12,tt)] (.a1 (iT (show t<((m.springs.map (aN 300)).length:Int) by rw[hx];exact c))) (V:=.i6 (5:Int)) (Ref.int (by unfold bG;rw[if_pos c]))
 · refine gN nP [0,1,2,6,13,14,15] [(12,ff)] (.a1 (iF (show ¬ (t<((m.springs.map (aN 300)).length:Int)) by rw[hx];exact c))) (t:=Md) (σ:=slots 25 [(0,.list 17 (m.springs.map (aN 300))),(1,.i6 t),(2,.fnm 192 true (aE 300 m)),(6,.i6 (0:Int)),(13,.list 17 (m.springs.map (aN 300))),(14,(.i6 ((m.springs.map (aN 300)).length:Int))),(15,.i6 (0:Int))]) (h:=[]) ?_
   rw[hx];exact Good.weak 25 [(0,_),(2,_),(14,_),(15,_)] (by kernel_rfl) (.r (.r (.r (.r .nil)))) (JB (by unfold bG;rw[if_neg c]) o3)
def cE (n:Nat) (v:CordyD):Int:=if mT n v.a v.b=false then 2 else if Int.sign v.k.num<=0 then 2 else 0
def PB:KF
 | [.agg [.str mn,.list 27 XB,.list 17 XS,.list 17 XT,.list 13 XD,.list 5 XF],.int .i64 i]=>some (.int .i64 (cE XB.length ((XT.map dF).getD i.toNat default)),[0<=i,XT=(XT.map dF).map (aN 300),i.toNat<XT.length])
 | _=>none
theorem SO:bO 194 PB:=by
 refine cJ Tryz.f194 fun _ _ _ S w0 h ho=> ?_
 unfold PB at h;split at h <;> cases h;rename_i mn XB XS XT XD XF i;obtain⟨o1000,o1,o2⟩:=ho.e3;have K:=(kn.cons Py).cons AT;obtain⟨i,rfl⟩:=Int.eq_ofNat_of_zero_le o1000;clear o1000;replace o1:XT=(XT.map dF).map (aN 300):=o1;replace o2:i<XT.length:=o2;obtain⟨v,hv⟩:∃ v,v=(XT.map dF).getD i default:=⟨_,rfl⟩;have hr:Ref (.cptr (XT.getD i []) 0) (.cptr (aN 300 v) 0):=by rw[hv];exact Ref.cmapX o1 o2
 have v0:Ref (.cptr (XT.getD i []) 0) (.cptr (aN 300 v) 0):=by exact hr
 have v1:(i:Int)<(XT.length:Int):=by omega
 rcases Bool.eq_false_or_eq_true (!(mT XB.length v.a v.b)) with h1 | h1
 · refine rF K [(9,.cptr (aN 300 v) 0),(18,tt)] (.a4 v0 (nn i) v1 (show Ref (.bool (!(mT XB.length v.a v.b))) (.bool true) from Ref.bool h1)) (V:=.i6 (2:Int)) (r:=.i6 (cE XB.length ((XT.map dF).getD i default))) ?_
   rw[<- hv];clear hv hr o1 ho;exact Ref.int (by unfold cE;simp_all)
 · have v2:Ref (.bool (!(mT XB.length v.a v.b))) (.bool false):=Ref.bool h1
   by_cases h2:(Int.sign v.k.num)<=(0:Int)
   · refine rF K [(9,.cptr (aN 300 v) 0),(18,ff),(23,tt)] (.a5 v0 (nn i) v1 v2 (iT h2)) (V:=.i6 (2:Int)) (r:=.i6 (cE XB.length ((XT.map dF).getD i default))) ?_
     rw[<- hv];clear hv hr o1 ho;exact Ref.int (by unfold cE;simp_all)
   · refine rF K [(9,.cptr (aN 300 v) 0),(18,ff),(23,ff)] (.a5 v0 (nn i) v1 v2 (iF h2)) (V:=.i6 (0:Int)) (r:=.i6 (cE XB.length ((XT.map dF).getD i default))) ?_
     rw[<- hv];clear hv hr o1 ho;exact Ref.int (by unfold cE;simp_all)
def nQ:=kn.cons SO
def PC:KF
 | [.list 17 X,.int .i64 t,.fnm 194 true M]=>some (.int .i64 (bG (aG M).tendons.length t (fun i=>cE (aG M).bodies.length ((aG M).tendons.getD i default))),[M=aE 300 (aG M),X=(aG M).tendons.map (aN 300),(aG M).tendons.length<=4611686018427387904])
 | _=>none
section
variable {S:Nat->Prop} {w0:World}
theorem SP {R:Int} {todo:List Item} {σ:List AV} {h:List (Option ABlk)} {b:Int} (e:b=R) (hσ:σ.getD 6 .any= .i6 b):GF 193 S w0 (.i6 R) (.code .ret::todo) ⟨σ,h⟩:=
 bX aX (fn:=Tryz.f193) (by kernel_rfl) 6 (by kernel_rfl) rfl (by rw[hσ];rfl) (by rw[hσ,e];exact rr)
noncomputable abbrev Me:List Item:=[.code (aR [1,1,0,1,0,0] (aA Tryz.f193)),.inLoop (aR [1,1,0,1,0,0] (aA Tryz.f193)),.inBlock 0,.code (aR [1,1,1] (aA Tryz.f193))]
theorem JC {m:MachD} {R:Int} (hR:eZ (fun i=>cE m.bodies.length (m.tendons.getD i default)) 0 m.tendons.length=R) (hL:m.tendons.length<=4611686018427387904):
   GF 193 S w0 (.i6 R) Me ⟨slots 25 [(0,.list 17 (m.tendons.map (aN 300))),(2,.fnm 194 true (aE 300 m)),(14,.i6 ((m.tendons.length:Nat):Int)),(15,.i6 ((0:Nat):Int))],[]⟩:=by
 refine pW (G:=fun i=>eZ (fun i=>cE m.bodies.length (m.tendons.getD i default)) i (m.tendons.length-i)=R->GF 193 S w0 (.i6 R) Me ⟨slots 25 [(0,.list 17 (m.tendons.map (aN 300))),(2,.fnm 194 true (aE 300 m)),(14,.i6 ((m.tendons.length:Nat):Int)),(15,.i6 ((i:Nat):Int))],[]⟩) m.tendons.length ?_ ?_ hR
 · intro he
   rw[Nat.sub_self] at he;exact rF nQ [(16,ff)] (.a1 (iF (om (¬ ((m.tendons.length:Int)<(m.tendons.length:Int)))))) (V:=.i6 (0:Int)) (Ref.int he)
 · intro i hlt ih he
   have hx:(m.tendons.map (aN 300)).length=m.tendons.length:=bM ..;rw[show m.tendons.length-i=(m.tendons.length-(i+1))+1 by omega,eZ] at he;have v0:Ref (.i6 (cE (m.bodies.map (aH 300)).length (((m.tendons.map (aN 300)).map dF).getD i default))) (.i6 (cE m.bodies.length (m.tendons.getD i default))):=Ref.int (by rw[kM,bM]);have v1:(m.tendons.map (aN 300))=((m.tendons.map (aN 300)).map dF).map (aN 300):=by rw[kM]
   have v2:i<(m.tendons.map (aN 300)).length:=by rw[bM];exact hlt
   have v3:(i:Int)<(m.tendons.length:Int):=by omega
   by_cases c:cE m.bodies.length (m.tendons.getD i default)=0
   · rw[if_pos c] at he
     exact gR nQ none [0,2,6,14,15] [] [(16,tt),(20,.i6 (cE m.bodies.length (m.tendons.getD i default))),(22,ff),(24,.i6 ((i+1:Nat):Int))] (.c6 (iT v3) v0 (nn i) v1 v2 (jF c) (.a1 (wI ((i:Int)+(1:Int)) ((i+1:Nat):Int)))) (ih he)
   · rw[if_neg c] at he
     exact rF nQ [(16,tt),(20,.i6 (cE m.bodies.length (m.tendons.getD i default))),(22,tt)] (.a6 (iT v3) v0 (nn i) v1 v2 (jT c)) (V:=.i6 (cE m.bodies.length (m.tendons.getD i default))) (Ref.int he)
end
theorem SQ:bO 193 PC:=by
 refine cJ Tryz.f193 fun _ _ _ S w0 h ho=> ?_
 unfold PC at h;split at h <;> cases h;rename_i X t M;obtain⟨o1,o2,o3⟩:=ho.e3;clear ho;generalize aG M=m at*;subst o1;subst o2;have hx:(m.tendons.map (aN 300)).length=m.tendons.length:=bM ..
 by_cases c:t<((m.tendons.length:Nat):Int)
 · exact rF nQ [(12,tt)] (.a1 (iT (show t<((m.tendons.map (aN 300)).length:Int) by rw[hx];exact c))) (V:=.i6 (5:Int)) (Ref.int (by unfold bG;rw[if_pos c]))
 · refine gN nQ [0,1,2,6,13,14,15] [(12,ff)] (.a1 (iF (show ¬ (t<((m.tendons.map (aN 300)).length:Int)) by rw[hx];exact c))) (t:=Me) (σ:=slots 25 [(0,.list 17 (m.tendons.map (aN 300))),(1,.i6 t),(2,.fnm 194 true (aE 300 m)),(6,.i6 (0:Int)),(13,.list 17 (m.tendons.map (aN 300))),(14,(.i6 ((m.tendons.map (aN 300)).length:Int))),(15,.i6 (0:Int))]) (h:=[]) ?_
   rw[hx];exact Good.weak 25 [(0,_),(2,_),(14,_),(15,_)] (by kernel_rfl) (.r (.r (.r (.r .nil)))) (JC (by unfold bG;rw[if_neg c]) o3)
def PD:KF
 | [.agg [.int .i64 p,.q to 300,.q he 300,.q co 300,.q mo 300],.cptr [.int .i64 p',.q to' 300,.q he' 300,.q co' 300,.q mo' 300] 0]=>some (.bool (decide (p=p')),[])
 | _=>none
theorem SR:bO 258 PD:=by
 refine cJ Tryz.f258 fun _ _ _ S w0 h ho=> ?_
 unfold PD at h;split at h <;> cases h;rename_i p to he co mo p' to' he' co' mo';exact rR .nil [] .nil
def rM:=kn.cons SR
def PE:KF
 | [.list 13 X,.fn 258 [.cptr [.int .i64 p0,.q to0 300,.q he0 300,.q co0 300,.q mo0 300] 0]]=>some (.int .i64 (fP (fun j=>(decide (((X.map gK).getD j default).body=p0))) 0 X.length),[X=(X.map gK).map (aV 300),X.length<=4611686018427387904])
 | _=>none
section
variable {S:Nat->Prop} {w0:World}
noncomputable abbrev Mf:List Item:=[.code (aR [1,0,1,0,0] (aA Tryz.f295)),.inLoop (aR [1,0,1,0,0] (aA Tryz.f295)),.inBlock 0,.code (aR [1,1] (aA Tryz.f295))]
theorem JD {es:List MotorD} (p0:Int) (to0 he0 co0 mo0:Rat) (hL:es.length<=4611686018427387904):
   GF 295 S w0 (.i6 (fP (fun j=>(decide ((es.getD j default).body=p0))) 0 es.length)) Mf ⟨slots 19 [(0,.list 13 (es.map (aV 300))),(1,.fn 258 [.cptr [.i6 p0,.q to0 300,.q he0 300,.q co0 300,.q mo0 300] 0]),(6,.list 13 (es.map (aV 300))),(7,.i6 ((es.length:Nat):Int)),(8,.i6 ((0:Nat):Int))],[]⟩:=by
 have ret:∀ {todo:List Item} {σ:List AV} {h:List (Option ABlk)} {b:Int},b=fP (fun j=>(decide ((es.getD j default).body=p0))) 0 es.length->σ.getD 4 .any= .i6 b->GF 295 S w0 (.i6 (fP (fun j=>(decide ((es.getD j default).body=p0))) 0 es.length)) (.code .ret::todo) ⟨σ,h⟩:=fun e hσ=>
   bX aX (fn:=Tryz.f295) (by kernel_rfl) 4 (by kernel_rfl) rfl (by rw[hσ];rfl) (by rw[hσ,e];exact rr)
 refine pW (G:=fun i=>fP (fun j=>(decide ((es.getD j default).body=p0))) i (es.length-i)=fP (fun j=>(decide ((es.getD j default).body=p0))) 0 es.length->GF 295 S w0 (.i6 (fP (fun j=>(decide ((es.getD j default).body=p0))) 0 es.length)) Mf ⟨slots 19 [(0,.list 13 (es.map (aV 300))),(1,.fn 258 [.cptr [.i6 p0,.q to0 300,.q he0 300,.q co0 300,.q mo0 300] 0]),(6,.list 13 (es.map (aV 300))),(7,.i6 ((es.length:Nat):Int)),(8,.i6 ((i:Nat):Int))],[]⟩) es.length ?_ ?_ rfl
 · intro he
   rw[Nat.sub_self] at he;exact rF rM [(9,ff)] (.a1 (iF (om (¬ ((es.length:Int)<(es.length:Int)))))) (V:=.i6 (-1:Int)) (Ref.int he)
 · intro i hlt ih he
   rw[show es.length-i=(es.length-(i+1))+1 by omega,fP] at he;have v0:Ref (.cptr ((es.map (aV 300)).getD i []) 0) (.cptr (aV 300 (es.getD i default)) 0):=Ref.cmap hlt;have v1:(i:Int)<((es.map (aV 300)).length:Int):=by rw[bM];omega
   have v2:(i:Int)<(es.length:Int):=by omega
   by_cases c:(decide ((es.getD i default).body=p0))=true
   · rw[if_pos c] at he
     exact rF rM [(9,tt),(14,.cptr (aV 300 (es.getD i default)) 0),(16,tt)] (.a5 (iT v2) v0 (nn i) v1 (show Ref (.bool (decide ((es.getD i default).body=p0))) (.bool true) from Ref.bool c)) (V:=.i6 (i:Int)) (Ref.int he)
   · rw[if_neg c] at he
     exact gR rM none [0,1,4,6,7,8] [] [(9,tt),(14,.cptr (aV 300 (es.getD i default)) 0),(16,ff),(18,.i6 ((i+1:Nat):Int))] (.a6 (iT v2) v0 (nn i) v1 (show Ref (.bool (decide ((es.getD i default).body=p0))) (.bool false) from Ref.bool (show(decide ((es.getD i default).body=p0))=false by simpa using c)) (wI ((i:Int)+(1:Int)) ((i+1:Nat):Int))) (ih he)
end
theorem SS:bO 295 PE:=by
 refine cJ Tryz.f295 fun _ _ _ S w0 h ho=> ?_
 unfold PE at h;split at h <;> cases h;rename_i X p0 to0 he0 co0 mo0;obtain⟨o1,-⟩:=ho.e2;have o2:(X.map gK).length<=4611686018427387904:=by rw[bM];exact ho _ (by simp)
 clear ho;rw[show X.length=(X.map gK).length by rw[bM]];generalize (X.map gK)=es at*;subst o1;refine gN rM [0,1,6,7,8] [] .nil (t:=Mf) (σ:=slots 19 [(0,.list 13 (es.map (aV 300))),(1,.fn 258 [.cptr [.i6 p0,.q to0 300,.q he0 300,.q co0 300,.q mo0 300] 0]),(6,.list 13 (es.map (aV 300))),(7,(.i6 ((es.map (aV 300)).length:Int))),(8,.i6 (0:Int))]) (h:=[]) ?_
 rw[bM];exact JD p0 to0 he0 co0 mo0 o2
def PF:KF
 | [.list 13 X,.fn 258 [.cptr [.int .i64 p0,.q to0 300,.q he0 300,.q co0 300,.q mo0 300] 0]]=>some (.bool (decide (0<=fP (fun j=>(decide (((X.map gK).getD j default).body=p0))) 0 X.length)),[X=(X.map gK).map (aV 300),X.length<=4611686018427387904])
 | _=>none
theorem SU:bO 257 PF:=by
 refine cJ Tryz.f257 fun _ _ _ S w0 h ho=> ?_
 unfold PF at h;split at h <;> cases h;rename_i X p0 to0 he0 co0 mo0;obtain⟨o1,o2⟩:=ho.e2;have K:=kn.cons SS;exact rR K [] (.a2 o1 o2)
def iE:=((kn.cons SU).cons Mc).cons AT
noncomputable abbrev pY:List Item:=[.code .ret,.inBlock 0,.code (aR [1,1,1] (aA Tryz.f196))]
noncomputable abbrev GN:List Item:=[.code (aR [1,1,0,0,1,1,0] (aA Tryz.f196)),.code (aR [1,1,0,0,1,1,1] (aA Tryz.f196)),.inBlock 0,.code (aR [1,1,1] (aA Tryz.f196))]
def sX (bs:List MotorD) (i:Nat) (v:MotorD):Prop:=0<=fP (fun j=>(decide (((bs.take i).getD j default).body=v.body))) 0 i
instance (bs:List MotorD) (i:Nat) (v:MotorD):Decidable (sX bs i v):=by unfold sX;infer_instance
def CL (n:Nat) (bs:List MotorD) (i:Nat) (v:MotorD):Int:=
 if decide (0<=v.body/\v.body<((n:Nat):Int))=false\/v.body=0\/Int.sign v.t.num<0\/Int.sign v.h.num<0\/Int.sign v.c.num<0\/Int.sign v.m.num<=0 then 2 else if sX bs i v then 7 else 0
def eD (n:Nat) (bs:List MotorD) (i:Nat):Int:=CL n bs i (bs.getD i default)
def PG:KF
 | [.agg M,.int .i64 i]=>some (.int .i64 (eD (aG M).bodies.length (aG M).motors i.toNat),[0<=i,M=aE 300 (aG M),i.toNat<(aG M).motors.length,(aG M).motors.length<=4611686018427387904])
 | _=>none
section
variable {S:Nat->Prop} {w0:World}
theorem nR {R:Int} {todo:List Item} {σ:List AV} {h:List (Option ABlk)} {b:Int} (e:b=R) (hσ:σ.getD 4 .any= .i6 b):GF 196 S w0 (.i6 R) (.code .ret::todo) ⟨σ,h⟩:=
 bX aX (fn:=Tryz.f196) (by kernel_rfl) 4 (by kernel_rfl) rfl (by rw[hσ];rfl) (by rw[hσ,e];exact rr)
theorem Mg (m:MachD) (i:Nat) (v:MotorD) (hi:i<=m.motors.length) (hL:m.motors.length<=4611686018427387904):GF 196 S w0 (.i6 (if sX m.motors i v then 7 else 0)) GN ⟨slots 53 [(1,.i6 ((i:Nat):Int)),(2,.ptr 0 6 0 0),(5,.cptr (aV 300 v) 0)],[some ⟨41,6,false,[aE 300 m],none⟩]⟩:=by
 have ht:(m.motors.take i).length=i:=by rw[List.length_take];omega
 have hx:((m.motors.take i).map (aV 300)).length=i:=by rw[bM,ht]
 have v0:Ref (.bool (decide (0<=fP (fun j=>(decide (((((m.motors.take i).map (aV 300)).map gK).getD j default).body=v.body))) 0 ((m.motors.take i).map (aV 300)).length))) (.bool (decide (0<=fP (fun j=>(decide (((m.motors.take i).getD j default).body=v.body))) 0 i))):=Ref.bool (by rw[pV,hx]);have v1:Ref (.list 13 (((m.motors.map (aV 300)).take i).drop 0)) (.list 13 ((m.motors.take i).map (aV 300))):=Ref.eq (by rw[List.drop_zero,List.map_take]);have v2:((m.motors.take i).map (aV 300))=(((m.motors.take i).map (aV 300)).map gK).map (aV 300):=by rw[pV]
 have v3:(i:Int)<=((m.motors.map (aV 300)).length:Int):=by rw[bM];omega
 have v4:((m.motors.take i).map (aV 300)).length<=4611686018427387904:=by omega
 rcases Bool.eq_false_or_eq_true (decide (0<=fP (fun j=>(decide (((m.motors.take i).getD j default).body=v.body))) 0 i)) with c1 | c1
 · refine gR iE none [4] [] [(50,.list 13 ((m.motors.take i).map (aV 300))),(52,.bool (decide (0<=fP (fun j=>(decide (((m.motors.take i).getD j default).body=v.body))) 0 i))),(46,tt)] (.c6 v1 (nn i) v3 v0 v2 v4 (.a1 (show Ref (.bool (decide (0<=fP (fun j=>(decide (((m.motors.take i).getD j default).body=v.body))) 0 i))) (.bool true) from Ref.bool c1))) (t:=pY) (σ:=slots 53 [(4,.i6 (7:Int))]) (h:=[]) ?_
   rw[if_pos (show sX m.motors i v from of_decide_eq_true c1)];exact nR (b:=7) rfl rfl
 · refine gR iE none [4] [] [(50,.list 13 ((m.motors.take i).map (aV 300))),(52,.bool (decide (0<=fP (fun j=>(decide (((m.motors.take i).getD j default).body=v.body))) 0 i))),(46,ff)] (.c6 v1 (nn i) v3 v0 v2 v4 (.a1 (show Ref (.bool (decide (0<=fP (fun j=>(decide (((m.motors.take i).getD j default).body=v.body))) 0 i))) (.bool false) from Ref.bool c1))) (t:=[.code .ret]) (σ:=slots 53 [(4,.i6 (0:Int))]) (h:=[]) ?_
   rw[if_neg (show ¬ sX m.motors i v from of_decide_eq_false c1)];exact nR (b:=0) rfl rfl
end
abbrev pZ (m:MachD) (v:MotorD):List (Option ABlk):=[some ⟨41,6,false,[(aE 300 m)],none⟩,some ⟨239,13,false,[(aV 300 v)],none⟩]
theorem SV   : bO  196 PG:=fun args r ob h ho=>by
 unfold PG at h
 split at h
 · rename_i M i
   cases h;have o0:0<=i:=ho _ (by simp);have o1:M=aE 300 (aG M):=ho _ (by simp);have o2:i.toNat<(aG M).motors.length:=ho _ (by simp);have o3:(aG M).motors.length<=4611686018427387904:=ho _ (by simp);clear ho;generalize aG M=m at*;subst o1;obtain⟨i,rfl⟩:=Int.eq_ofNat_of_zero_le o0;replace o2:i<m.motors.length:=o2;show qL Tryz.prog 196 [.agg (aE 300 m),.i6 ((i:Nat):Int)] (.i6 (CL m.bodies.length m.motors i (m.motors.getD i default)));obtain⟨v,hv⟩:∃ v,v=m.motors.getD i default:=⟨_,rfl⟩;have hr:Ref (.cptr ((m.motors.map (aV 300)).getD i []) 0) (.cptr (aV 300 v) 0):=by rw[hv];exact Ref.cmap o2
   rw[<- hv];clear hv;refine af Tryz.f196 fun S w0=> ?_
   have e:kY [AV.agg (aE 300 m),.i6 ((i:Nat):Int)] Tryz.f196.ntmps=⟨slots 53 [(0,.agg (aE 300 m)),(1,.i6 ((i:Nat):Int))],[]⟩:=by kernel_rfl
   rw[e];clear e;have hb:(m.bodies.map (aH 300)).length=m.bodies.length:=bM ..;unfold CL;have v1:(i:Int)<((m.motors.map (aV 300)).length:Int):=by rw[bM];omega
   rcases Bool.eq_false_or_eq_true (!(decide (0<=v.body/\v.body<(((m.bodies.map (aH 300)).length:Nat):Int)))) with c1 | c1
   · refine gR iE (some 4) [1,2,4,5] [0,1] [(9,.cptr (aV 300 v) 0),(17,tt)] (.a4 hr (nn i) v1 (show Ref (.bool (!(decide (0<=v.body/\v.body<((m.bodies.map (aH 300)).length:Int))))) (.bool true) from Ref.bool c1)) (t:=pY) (σ:=slots 53 [(1,.i6 (i:Int)),(2,.ptr 0 6 0 0),(4,.i6 (2:Int)),(5,.ptr 1 13 0 0)]) (h:=(pZ m v)) ?_
     rw[hb] at c1;generalize decide (0<=v.body/\v.body<((m.bodies.length:Nat):Int))=dd at c1 ⊢;exact nR (b:=2) (by rw[if_pos (by clear hr o2 o3 S w0;simp_all)]) rfl
   · have v0 : Ref (.bool (!(decide (0<=v.body/\v.body<((m.bodies.map (aH 300)).length:Int))))) (.bool false):=Ref.bool c1
     by_cases c2:v.body=(0:Int)
     · refine gR iE (some 4) [1,2,4,5] [0,1] [(9,.cptr (aV 300 v) 0),(17,ff),(22,tt)] (.a5 hr (nn i) v1 v0 (iT c2)) (t:=pY) (σ:=slots 53 [(1,.i6 (i:Int)),(2,.ptr 0 6 0 0),(4,.i6 (2:Int)),(5,.ptr 1 13 0 0)]) (h:=(pZ m v)) ?_
       rw[hb] at c1;generalize decide (0<=v.body/\v.body<((m.bodies.length:Nat):Int))=dd at c1 ⊢;exact nR (b:=2) (by rw[if_pos (by clear hr o2 o3 S w0;simp_all)]) rfl
     · by_cases c3:(Int.sign v.t.num)<(0:Int)
       · refine gR iE (some 4) [1,2,4,5] [0,1] [(9,.cptr (aV 300 v) 0),(17,ff),(22,ff),(28,tt)] (.a6 hr (nn i) v1 v0 (iF c2) (iT c3)) (t:=pY) (σ:=slots 53 [(1,.i6 (i:Int)),(2,.ptr 0 6 0 0),(4,.i6 (2:Int)),(5,.ptr 1 13 0 0)]) (h:=(pZ m v)) ?_
         rw[hb] at c1;generalize decide (0<=v.body/\v.body<((m.bodies.length:Nat):Int))=dd at c1 ⊢;exact nR (b:=2) (by rw[if_pos (by clear hr o2 o3 S w0;simp_all)]) rfl
       · by_cases c4:(Int.sign v.h.num)<(0:Int)
         · refine gR iE (some 4) [1,2,4,5] [0,1] [(9,.cptr (aV 300 v) 0),(17,ff),(22,ff),(28,ff),(34,tt)] (.c6 hr (nn i) v1 v0 (iF c2) (iF c3) (.a1 (iT c4))) (t:=pY) (σ:=slots 53 [(1,.i6 (i:Int)),(2,.ptr 0 6 0 0),(4,.i6 (2:Int)),(5,.ptr 1 13 0 0)]) (h:=(pZ m v)) ?_
           rw[hb] at c1;generalize decide (0<=v.body/\v.body<((m.bodies.length:Nat):Int))=dd at c1 ⊢;exact nR (b:=2) (by rw[if_pos (by clear hr o2 o3 S w0;simp_all)]) rfl
         · by_cases c5:(Int.sign v.c.num)<(0:Int)
           · refine gR iE (some 4) [1,2,4,5] [0,1] [(9,.cptr (aV 300 v) 0),(17,ff),(22,ff),(28,ff),(34,ff),(40,tt)] (.c6 hr (nn i) v1 v0 (iF c2) (iF c3) (.a2 (iF c4) (iT c5))) (t:=pY) (σ:=slots 53 [(1,.i6 (i:Int)),(2,.ptr 0 6 0 0),(4,.i6 (2:Int)),(5,.ptr 1 13 0 0)]) (h:=(pZ m v)) ?_
             rw[hb] at c1;generalize decide (0<=v.body/\v.body<((m.bodies.length:Nat):Int))=dd at c1 ⊢;exact nR (b:=2) (by rw[if_pos (by clear hr o2 o3 S w0;simp_all)]) rfl
           · by_cases c6:(Int.sign v.m.num)<=(0:Int)
             · refine gR iE (some 4) [1,2,4,5] [0,1] [(9,.cptr (aV 300 v) 0),(17,ff),(22,ff),(28,ff),(34,ff),(40,ff),(11,tt)] (.c6 hr (nn i) v1 v0 (iF c2) (iF c3) (.a3 (iF c4) (iF c5) (iT c6))) (t:=pY) (σ:=slots 53 [(1,.i6 (i:Int)),(2,.ptr 0 6 0 0),(4,.i6 (2:Int)),(5,.ptr 1 13 0 0)]) (h:=(pZ m v)) ?_
               rw[hb] at c1;generalize decide (0<=v.body/\v.body<((m.bodies.length:Nat):Int))=dd at c1 ⊢;exact nR (b:=2) (by rw[if_pos (by clear hr o2 o3 S w0;simp_all)]) rfl
             · refine gR iE (some 4) [1,2,4,5] [0,1] [(9,.cptr (aV 300 v) 0),(17,ff),(22,ff),(28,ff),(34,ff),(40,ff),(11,ff)] (.c6 hr (nn i) v1 v0 (iF c2) (iF c3) (.a3 (iF c4) (iF c5) (iF c6))) (t:=GN) (σ:=slots 53 [(1,.i6 (i:Int)),(2,.ptr 0 6 0 0),(4,.i6 (0:Int)),(5,.ptr 1 13 0 0)]) (h:=(pZ m v)) ?_
               rw[hb] at c1;generalize decide (0<=v.body/\v.body<((m.bodies.length:Nat):Int))=dd at c1 ⊢;rw[if_neg (by clear hr o2 o3 S w0;simp_all)];refine Good.freezeD (b:=⟨239,13,false,[aV 300 v],none⟩) 1 (by rfl) (by rfl) (.oe (.a1 (dc (0<1)))) .on ?_;refine Good.tidy [0] (by decide) (σ':=slots 53 [(1,.i6 ((i:Nat):Int)),(2,.ptr 0 6 0 0),(4,.i6 (0:Int)),(5,.cptr (aV 300 v) 0)]) (h':=[some ⟨41,6,false,[aE 300 m],none⟩]) (by kernel_rfl) (by kernel_rfl) ?_;exact Good.weak 53 [(1,_),(2,_),(5,_)] (by kernel_rfl) (.r (.r (.r .nil))) (Mg m i v (Nat.le_of_lt o2) o3)
 · cases h
def nT:=kn.cons SV
def PH:KF
 | [.list 13 X,.int .i64 t,.fnm 196 true M]=>some (.int .i64 (bG (aG M).motors.length t (fun i=>eD (aG M).bodies.length (aG M).motors i)),[M=aE 300 (aG M),X=(aG M).motors.map (aV 300),(aG M).motors.length<=4611686018427387904])
 | _=>none
section
variable {S:Nat->Prop} {w0:World}
theorem SW {R:Int} {todo:List Item} {σ:List AV} {h:List (Option ABlk)} {b:Int} (e:b=R) (hσ:σ.getD 6 .any= .i6 b):GF 195 S w0 (.i6 R) (.code .ret::todo) ⟨σ,h⟩:=
 bX aX (fn:=Tryz.f195) (by kernel_rfl) 6 (by kernel_rfl) rfl (by rw[hσ];rfl) (by rw[hσ,e];exact rr)
noncomputable abbrev Mh:List Item:=[.code (aR [1,1,0,1,0,0] (aA Tryz.f195)),.inLoop (aR [1,1,0,1,0,0] (aA Tryz.f195)),.inBlock 0,.code (aR [1,1,1] (aA Tryz.f195))]
theorem JE {m:MachD} {R:Int} (hR:eZ (fun i=>eD m.bodies.length m.motors i) 0 m.motors.length=R) (hL:m.motors.length<=4611686018427387904):
   GF 195 S w0 (.i6 R) Mh ⟨slots 25 [(0,.list 13 (m.motors.map (aV 300))),(2,.fnm 196 true (aE 300 m)),(14,.i6 ((m.motors.length:Nat):Int)),(15,.i6 ((0:Nat):Int))],[]⟩:=by
 refine pW (G:=fun i=>eZ (fun i=>eD m.bodies.length m.motors i) i (m.motors.length-i)=R->GF 195 S w0 (.i6 R) Mh ⟨slots 25 [(0,.list 13 (m.motors.map (aV 300))),(2,.fnm 196 true (aE 300 m)),(14,.i6 ((m.motors.length:Nat):Int)),(15,.i6 ((i:Nat):Int))],[]⟩) m.motors.length ?_ ?_ hR
 · intro he
   rw[Nat.sub_self] at he;exact rF nT [(16,ff)] (.a1 (iF (om (¬ ((m.motors.length:Int)<(m.motors.length:Int)))))) (V:=.i6 (0:Int)) (Ref.int he)
 · intro i hlt ih he
   have hx:(m.motors.map (aV 300)).length=m.motors.length:=bM ..;rw[show m.motors.length-i=(m.motors.length-(i+1))+1 by omega,eZ] at he;have v0:Ref (.i6 (eD (aG (aE 300 m)).bodies.length (aG (aE 300 m)).motors i)) (.i6 (eD m.bodies.length m.motors i)):=Ref.int (congrArg (fun x:MachD=>eD x.bodies.length x.motors i) (aW m));have v1:(aG (aE 300 m)).motors.length<=4611686018427387904:=(congrArg (fun x:MachD=>x.motors.length<=4611686018427387904) (aW m)).mpr hL;have v2:i<(aG (aE 300 m)).motors.length:=(congrArg (fun x:MachD=>i<x.motors.length) (aW m)).mpr hlt;have v3:(aE 300 m)=aE 300 (aG (aE 300 m)):=(congrArg (aE 300) (aW m)).symm;have v4:(i:Int)<(m.motors.length:Int):=by omega
   by_cases c:eD m.bodies.length m.motors i=0
   · rw[if_pos c] at he
     exact gR nT none [0,2,6,14,15] [] [(16,tt),(20,.i6 (eD m.bodies.length m.motors i)),(22,ff),(24,.i6 ((i+1:Nat):Int))] (.c6 (iT v4) v0 (nn i) v3 v2 v1 (.a2 (jF c) (wI ((i:Int)+(1:Int)) ((i+1:Nat):Int)))) (ih he)
   · rw[if_neg c] at he
     exact rF nT [(16,tt),(20,.i6 (eD m.bodies.length m.motors i)),(22,tt)] (.c6 (iT v4) v0 (nn i) v3 v2 v1 (.a1 (jT c))) (V:=.i6 (eD m.bodies.length m.motors i)) (Ref.int he)
end
theorem SX:bO 195 PH:=by
 refine cJ Tryz.f195 fun _ _ _ S w0 h ho=> ?_
 unfold PH at h;split at h <;> cases h;rename_i X t M;obtain⟨o1,o2,o3⟩:=ho.e3;clear ho;generalize aG M=m at*;subst o1;subst o2;have hx:(m.motors.map (aV 300)).length=m.motors.length:=bM ..
 by_cases c:t<((m.motors.length:Nat):Int)
 · exact rF nT [(12,tt)] (.a1 (iT (show t<((m.motors.map (aV 300)).length:Int) by rw[hx];exact c))) (V:=.i6 (5:Int)) (Ref.int (by unfold bG;rw[if_pos c]))
 · refine gN nT [0,1,2,6,13,14,15] [(12,ff)] (.a1 (iF (show ¬ (t<((m.motors.map (aV 300)).length:Int)) by rw[hx];exact c))) (t:=Mh) (σ:=slots 25 [(0,.list 13 (m.motors.map (aV 300))),(1,.i6 t),(2,.fnm 196 true (aE 300 m)),(6,.i6 (0:Int)),(13,.list 13 (m.motors.map (aV 300))),(14,(.i6 ((m.motors.map (aV 300)).length:Int))),(15,.i6 (0:Int))]) (h:=[]) ?_
   rw[hx];exact Good.weak 25 [(0,_),(2,_),(14,_),(15,_)] (by kernel_rfl) (.r (.r (.r (.r .nil)))) (JE (by unfold bG;rw[if_neg c]) o3)
def dB (n:Nat) (v:FootD):Int:=if decide (0<=v.body/\v.body<((n:Nat):Int))=false then 2 else if v.pts.length<1 then 2 else if 2<v.pts.length then 2 else if v.pts.length=2/\(v.pts.getD 0 default).x=(v.pts.getD 1 default).x/\(v.pts.getD 0 default).z=(v.pts.getD 1 default).z then 2 else if Int.sign v.fr.num<0 then 2 else 0
def PI:KF
 | [.agg [.str mn,.list 27 XB,.list 17 XS,.list 17 XT,.list 13 XD,.list 5 XF],.int .i64 i]=>some (.int .i64 (dB XB.length ((XF.map fO).getD i.toNat default)),[0<=i,XF=(XF.map fO).map (bH 300),i.toNat<XF.length])
 | _=>none
theorem SY   :bO 198 PI:=by
 refine cJ Tryz.f198 fun _ _ _ S w0 h ho=> ?_
 unfold PI at h;split at h <;> cases h;rename_i mn XB XS XT XD XF i;obtain⟨o1000,o1,o2⟩:=ho.e3;have L:=dH;have K:=((kn.cons Mc).cons Pt).cons AT;obtain⟨i,rfl⟩:=Int.eq_ofNat_of_zero_le o1000;clear o1000;replace o1:XF=(XF.map fO).map (bH 300):=o1;replace o2:i<XF.length:=o2;obtain⟨v,hv⟩:∃ v,v=(XF.map fO).getD i default:=⟨_,rfl⟩;have hr:Ref (.cptr (XF.getD i []) 0) (.cptr (bH 300 v) 0):=by rw[hv];exact Ref.cmapX o1 o2
 have hl:(v.pts.map (dV 300)).length=v.pts.length:=bM ..;have v1:Ref (.cptr (XF.getD i []) 0) (.cptr (bH 300 v) 0):=by exact hr
 have v4:(i:Int)<(XF.length:Int):=by omega
 rcases Bool.eq_false_or_eq_true (!(decide (0<=v.body/\v.body<((XB.length:Nat):Int)))) with h1 | h1
 · refine rF K [(9,.cptr (bH 300 v) 0),(16,tt)] (.a4 v1 (nn i) v4 (show Ref (.bool (!(decide (0<=v.body/\v.body<(XB.length:Int))))) (.bool true) from Ref.bool h1)) (V:=.i6 (2:Int)) (r:=.i6 (dB XB.length ((XF.map fO).getD i default))) ?_
   rw[<- hv];rw[hl] at*;exact Ref.int (by unfold dB;rw[if_pos (by revert h1;cases decide (0<=v.body/\v.body<((XB.length:Nat):Int)) <;> simp)])
 · have v0 : Ref (.bool (!(decide (0<=v.body/\v.body<(XB.length:Int))))) (.bool false):=Ref.bool h1
   by_cases h2:(((v.pts.map (dV 300)).length:Nat):Int)<(1:Int)
   · refine rF K [(9,.cptr (bH 300 v) 0),(16,ff),(22,tt)] (.a5 v1 (nn i) v4 v0 (iT h2)) (V:=.i6 (2:Int)) (r:=.i6 (dB XB.length ((XF.map fO).getD i default))) ?_
     rw[<- hv];rw[hl] at*;exact Ref.int (by unfold dB;rw[if_neg (by revert h1;cases decide (0<=v.body/\v.body<((XB.length:Nat):Int)) <;> simp),if_pos (by omega)])
   · by_cases h3:(2:Int)<(((v.pts.map (dV 300)).length:Nat):Int)
     · refine rF K [(9,.cptr (bH 300 v) 0),(16,ff),(22,ff),(28,tt)] (.a6 v1 (nn i) v4 v0 (iF h2) (iT h3)) (V:=.i6 (2:Int)) (r:=.i6 (dB XB.length ((XF.map fO).getD i default))) ?_
       rw[<- hv];rw[hl] at*;exact Ref.int (by unfold dB;rw[if_neg (by revert h1;cases decide (0<=v.body/\v.body<((XB.length:Nat):Int)) <;> simp),if_neg (by omega),if_pos (by omega)])
     · by_cases h4:(((v.pts.map (dV 300)).length:Nat):Int)=(2:Int)
       · have v2:Ref (.cptr ((v.pts.map (dV 300)).getD 0 []) 0) (.cptr [.q ((v.pts.getD 0 default).x) 300,.q ((v.pts.getD 0 default).z) 300] 0):=by exact Ref.cmap (f:=dV 300) (by omega)
         have v3:Ref (.cptr ((v.pts.map (dV 300)).getD 1 []) 0) (.cptr [.q ((v.pts.getD 1 default).x) 300,.q ((v.pts.getD 1 default).z) 300] 0):=by exact Ref.cmap (f:=dV 300) (by omega)
         have v6:300+300+200<=LIM:=by omega
         have v7:(0:Int)<((v.pts.map (dV 300)).length:Int):=by omega
         have v8:(1:Int)<((v.pts.map (dV 300)).length:Int):=by omega
         have v9:0<=(0:Int):=by decide
         have v10:0<=(1:Int):=by decide
         rcases Bool.eq_false_or_eq_true (decide (((v.pts.getD 0 default).x)=((v.pts.getD 1 default).x)/\((v.pts.getD 0 default).z)=((v.pts.getD 1 default).z))) with h5 | h5
         · refine rF K [(9,.cptr (bH 300 v) 0),(16,ff),(22,ff),(28,ff),(33,tt),(36,.cptr [.q ((v.pts.getD 0 default).x) 300,.q ((v.pts.getD 0 default).z) 300] 0),(40,.cptr [.q ((v.pts.getD 1 default).x) 300,.q ((v.pts.getD 1 default).z) 300] 0),(45,tt)] (.c6 v1 (nn i) v4 v0 (iF h2) (iF h3) (.c6 (iT h4) v2 v9 v7 v3 v10 (.a4 v8 v6 v6 (show Ref (.bool (decide (((v.pts.getD 0 default).x)=((v.pts.getD 1 default).x)/\((v.pts.getD 0 default).z)=((v.pts.getD 1 default).z)))) (.bool true) from Ref.bool h5)))) (V:=.i6 (2:Int)) (r:=.i6 (dB XB.length ((XF.map fO).getD i default))) ?_
           rw[<- hv];rw[hl] at*;exact Ref.int (by unfold dB;rw[if_neg (by revert h1;cases decide (0<=v.body/\v.body<((XB.length:Nat):Int)) <;> simp),if_neg (by omega),if_neg (by omega),if_pos ⟨by omega,of_decide_eq_true h5⟩])
         · have v5:Ref (.bool (decide (((v.pts.getD 0 default).x)=((v.pts.getD 1 default).x)/\((v.pts.getD 0 default).z)=((v.pts.getD 1 default).z)))) (.bool false):=Ref.bool h5
           by_cases h6:(Int.sign v.fr.num)<(0:Int)
           · refine rF K [(9,.cptr (bH 300 v) 0),(16,ff),(22,ff),(28,ff),(33,tt),(36,.cptr [.q ((v.pts.getD 0 default).x) 300,.q ((v.pts.getD 0 default).z) 300] 0),(40,.cptr [.q ((v.pts.getD 1 default).x) 300,.q ((v.pts.getD 1 default).z) 300] 0),(45,ff),(50,tt)] (.c6 v1 (nn i) v4 v0 (iF h2) (iF h3) (.c6 (iT h4) v2 v9 v7 v3 v10 (.a5 v8 v6 v6 v5 (iT h6)))) (V:=.i6 (2:Int)) (r:=.i6 (dB XB.length ((XF.map fO).getD i default))) ?_
             rw[<- hv];rw[hl] at*;exact Ref.int (by unfold dB;rw[if_neg (by revert h1;cases decide (0<=v.body/\v.body<((XB.length:Nat):Int)) <;> simp),if_neg (by omega),if_neg (by omega),if_neg (by intro k;have:=decide_eq_true k.2;rw[this] at h5;cases h5),if_pos h6])
           · refine rF K [(9,.cptr (bH 300 v) 0),(16,ff),(22,ff),(28,ff),(33,tt),(36,.cptr [.q ((v.pts.getD 0 default).x) 300,.q ((v.pts.getD 0 default).z) 300] 0),(40,.cptr [.q ((v.pts.getD 1 default).x) 300,.q ((v.pts.getD 1 default).z) 300] 0),(45,ff),(50,ff)] (.c6 v1 (nn i) v4 v0 (iF h2) (iF h3) (.c6 (iT h4) v2 v9 v7 v3 v10 (.a5 v8 v6 v6 v5 (iF h6)))) (V:=.i6 (0:Int)) (r:=.i6 (dB XB.length ((XF.map fO).getD i default))) ?_
             rw[<- hv];rw[hl] at*;exact Ref.int (by unfold dB;rw[if_neg (by revert h1;cases decide (0<=v.body/\v.body<((XB.length:Nat):Int)) <;> simp),if_neg (by omega),if_neg (by omega),if_neg (by intro k;have:=decide_eq_true k.2;rw[this] at h5;cases h5),if_neg h6])
       · by_cases h5:(Int.sign v.fr.num)<(0:Int)
         · refine rF K [(9,.cptr (bH 300 v) 0),(16,ff),(22,ff),(28,ff),(33,ff),(50,tt)] (.c6 v1 (nn i) v4 v0 (iF h2) (iF h3) (.a2 (iF h4) (iT h5))) (V:=.i6 (2:Int)) (r:=.i6 (dB XB.length ((XF.map fO).getD i default))) ?_
           rw[<- hv];rw[hl] at*;exact Ref.int (by unfold dB;rw[if_neg (by revert h1;cases decide (0<=v.body/\v.body<((XB.length:Nat):Int)) <;> simp),if_neg (by omega),if_neg (by omega),if_neg (by intro k;have:=k.1;omega),if_pos h5])
         · refine rF K [(9,.cptr (bH 300 v) 0),(16,ff),(22,ff),(28,ff),(33,ff),(50,ff)] (.c6 v1 (nn i) v4 v0 (iF h2) (iF h3) (.a2 (iF h4) (iF h5))) (V:=.i6 (0:Int)) (r:=.i6 (dB XB.length ((XF.map fO).getD i default))) ?_
           rw[<- hv];rw[hl] at*;exact Ref.int (by unfold dB;rw[if_neg (by revert h1;cases decide (0<=v.body/\v.body<((XB.length:Nat):Int)) <;> simp),if_neg (by omega),if_neg (by omega),if_neg (by intro k;have:=k.1;omega),if_neg h5])
def nU:=kn.cons SY
def PJ:KF
 | [.list 5 X,.int .i64 t,.fnm 198 true M]=>some (.int .i64 (bG (aG M).feet.length t (fun i=>dB (aG M).bodies.length ((aG M).feet.getD i default))),[M=aE 300 (aG M),X=(aG M).feet.map (bH 300),(aG M).feet.length<=4611686018427387904])
 | _=>none
section
variable {S:Nat->Prop} {w0:World}
theorem Ta {R:Int} {todo:List Item} {σ:List AV} {h:List (Option ABlk)} {b:Int} (e:b=R) (hσ:σ.getD 6 .any= .i6 b):GF 197 S w0 (.i6 R) (.code .ret::todo) ⟨σ,h⟩:=
 bX aX (fn:=Tryz.f197) (by kernel_rfl) 6 (by kernel_rfl) rfl (by rw[hσ];rfl) (by rw[hσ,e];exact rr)
noncomputable abbrev Mi:List Item:=[.code (aR [1,1,0,1,0,0] (aA Tryz.f197)),.inLoop (aR [1,1,0,1,0,0] (aA Tryz.f197)),.inBlock 0,.code (aR [1,1,1] (aA Tryz.f197))]
theorem JF {m:MachD} {R:Int} (hR:eZ (fun i=>dB m.bodies.length (m.feet.getD i default)) 0 m.feet.length=R) (hL:m.feet.length<=4611686018427387904):
   GF 197 S w0 (.i6 R) Mi ⟨slots 25 [(0,.list 5 (m.feet.map (bH 300))),(2,.fnm 198 true (aE 300 m)),(14,.i6 ((m.feet.length:Nat):Int)),(15,.i6 ((0:Nat):Int))],[]⟩:=by
 refine pW (G:=fun i=>eZ (fun i=>dB m.bodies.length (m.feet.getD i default)) i (m.feet.length-i)=R->GF 197 S w0 (.i6 R) Mi ⟨slots 25 [(0,.list 5 (m.feet.map (bH 300))),(2,.fnm 198 true (aE 300 m)),(14,.i6 ((m.feet.length:Nat):Int)),(15,.i6 ((i:Nat):Int))],[]⟩) m.feet.length ?_ ?_ hR
 · intro he
   rw[Nat.sub_self] at he;exact rF nU [(16,ff)] (.a1 (iF (om (¬ ((m.feet.length:Int)<(m.feet.length:Int)))))) (V:=.i6 (0:Int)) (Ref.int he)
 · intro i hlt ih he
   have hx:(m.feet.map (bH 300)).length=m.feet.length:=bM ..;rw[show m.feet.length-i=(m.feet.length-(i+1))+1 by omega,eZ] at he;have v0:Ref (.i6 (dB (m.bodies.map (aH 300)).length (((m.feet.map (bH 300)).map fO).getD i default))) (.i6 (dB m.bodies.length (m.feet.getD i default))):=Ref.int (by rw[sV,bM]);have v1:(m.feet.map (bH 300))=((m.feet.map (bH 300)).map fO).map (bH 300):=by rw[sV]
   have v2:i<(m.feet.map (bH 300)).length:=by rw[bM];exact hlt
   have v3:(i:Int)<(m.feet.length:Int):=by omega
   by_cases c:dB m.bodies.length (m.feet.getD i default)=0
   · rw[if_pos c] at he
     exact gR nU none [0,2,6,14,15] [] [(16,tt),(20,.i6 (dB m.bodies.length (m.feet.getD i default))),(22,ff),(24,.i6 ((i+1:Nat):Int))] (.c6 (iT v3) v0 (nn i) v1 v2 (jF c) (.a1 (wI ((i:Int)+(1:Int)) ((i+1:Nat):Int)))) (ih he)
   · rw[if_neg c] at he
     exact rF nU [(16,tt),(20,.i6 (dB m.bodies.length (m.feet.getD i default))),(22,tt)] (.a6 (iT v3) v0 (nn i) v1 v2 (jT c)) (V:=.i6 (dB m.bodies.length (m.feet.getD i default))) (Ref.int he)
end
theorem Tb:bO 197 PJ:=by
 refine cJ Tryz.f197 fun _ _ _ S w0 h ho=> ?_
 unfold PJ at h;split at h <;> cases h;rename_i X t M;obtain⟨o1,o2,o3⟩:=ho.e3;clear ho;generalize aG M=m at*;subst o1;subst o2;have hx:(m.feet.map (bH 300)).length=m.feet.length:=bM ..
 by_cases c:t<((m.feet.length:Nat):Int)
 · exact rF nU [(12,tt)] (.a1 (iT (show t<((m.feet.map (bH 300)).length:Int) by rw[hx];exact c))) (V:=.i6 (5:Int)) (Ref.int (by unfold bG;rw[if_pos c]))
 · refine gN nU [0,1,2,6,13,14,15] [(12,ff)] (.a1 (iF (show ¬ (t<((m.feet.map (bH 300)).length:Int)) by rw[hx];exact c))) (t:=Mi) (σ:=slots 25 [(0,.list 5 (m.feet.map (bH 300))),(1,.i6 t),(2,.fnm 198 true (aE 300 m)),(6,.i6 (0:Int)),(13,.list 5 (m.feet.map (bH 300))),(14,(.i6 ((m.feet.map (bH 300)).length:Int))),(15,.i6 (0:Int))]) (h:=[]) ?_
   rw[hx];exact Good.weak 25 [(0,_),(2,_),(14,_),(15,_)] (by kernel_rfl) (.r (.r (.r (.r .nil)))) (JF (by unfold bG;rw[if_neg c]) o3)
def wS:=((((((kn.cons Tb).cons SX).cons SQ).cons SN).cons SK).cons Sx).cons Pa
def MachD.small (m:MachD):Prop:=m.bodies.length<=4611686018427387904/\m.springs.length<=4611686018427387904/\m.tendons.length<=4611686018427387904/\m.motors.length<=4611686018427387904/\m.feet.length<=4611686018427387904
def iP (m:MachD):Int:=if eO m.name=false then 6 else if m.bodies.length=0 then 2 else Ah [(bG m.bodies.length 12 (fun i=>eX m.bodies i)),(bG m.springs.length 8 (fun i=>cD m.bodies.length (m.springs.getD i default))),(bG m.tendons.length 8 (fun i=>cE m.bodies.length (m.tendons.getD i default))),(bG m.motors.length ((m.bodies.length:Nat):Int) (fun i=>eD m.bodies.length m.motors i)),(bG m.feet.length 6 (fun i=>dB m.bodies.length (m.feet.getD i default)))]
def PK:KF
 | [.agg M]=>some (.int .i64 (iP (aG M)),[M=aE 300 (aG M),(aG M).small])
 | _=>none
theorem PL:bO 103 PK:=by
 refine cJ Tryz.f103 fun _ _ _ S w0 h ho=> ?_
 unfold PK at h;split at h <;> cases h;rename_i M;obtain⟨o1,o2⟩:=ho.e2;clear ho;generalize aG M=m at*;subst o1;have hb:(m.bodies.map (aH 300)).length=m.bodies.length:=bM ..;have hM:aE 300 m=aE 300 (aG (aE 300 m)):=(congrArg (aE 300) (aW m)).symm
 have ret:∀ {R:Int} {todo:List Item} {σ:List AV} {h:List (Option ABlk)} {b:Int},b=R->σ.getD 2 .any= .i6 b->GF 103 S w0 (.i6 R) (.code .ret::todo) ⟨σ,h⟩:=fun e hσ=>
   bX aX (fn:=Tryz.f103) (by kernel_rfl) 2 (by kernel_rfl) rfl (by rw[hσ];rfl) (by rw[hσ,e];exact rr)
 unfold iP;rcases Bool.eq_false_or_eq_true (!(eO m.name)) with c1 | c1
 · exact rF wS [(3,tt)] (.a1 (show Ref (.bool (!(eO m.name))) (.bool true) from Ref.bool c1)) (V:=.i6 (6:Int)) (Ref.int (by rw[if_pos (by simpa using c1)]))
 · have v0:Ref (.bool (!(eO m.name))) (.bool false):=Ref.bool c1
   by_cases c2:(((m.bodies.map (aH 300)).length:Nat):Int)=(0:Int)
   · exact rF wS [(3,ff),(8,tt)] (.a2 v0 (iT c2)) (V:=.i6 (2:Int)) (Ref.int (by rw[if_neg (by simpa using c1),if_pos (by omega)]))
   · exact rF wS [(3,ff),(8,ff),(17,.i6 (bG m.bodies.length 12 (fun i=>eX m.bodies i))),(22,.i6 (bG m.springs.length 8 (fun i=>cD m.bodies.length (m.springs.getD i default)))),(27,.i6 (bG m.tendons.length 8 (fun i=>cE m.bodies.length (m.tendons.getD i default)))),(35,.i6 (bG m.motors.length (m.bodies.length:Int) (fun i=>eD m.bodies.length m.motors i))),(40,.i6 (bG m.feet.length 6 (fun i=>dB m.bodies.length (m.feet.getD i default)))),(42,.i6 (Ah [(bG m.bodies.length 12 (fun i=>eX m.bodies i)),(bG m.springs.length 8 (fun i=>cD m.bodies.length (m.springs.getD i default))),(bG m.tendons.length 8 (fun i=>cE m.bodies.length (m.tendons.getD i default))),(bG m.motors.length (m.bodies.length:Int) (fun i=>eD m.bodies.length m.motors i)),(bG m.feet.length 6 (fun i=>dB m.bodies.length (m.feet.getD i default)))]))] (.c6 v0 (iF c2) (show Ref (.i6 (bG (aG (aE 300 m)).bodies.length 12 (fun i=>eX (aG (aE 300 m)).bodies i))) (.i6 (bG m.bodies.length 12 (fun i=>eX m.bodies i))) from Ref.int (congrArg (fun m:MachD=>(bG m.bodies.length 12 (fun i=>eX m.bodies i))) (aW m))) hM (show(m.bodies.map (aH 300))=(aG (aE 300 m)).bodies.map (aH 300) from(congrArg (fun x:MachD=>x.bodies.map (aH 300)) (aW m)).symm) (show(aG (aE 300 m)).bodies.length<=4611686018427387904 from(congrArg (fun x:MachD=>x.bodies.length<=4611686018427387904) (aW m)).mpr o2.1) (.c6 (show Ref (.i6 (bG (aG (aE 300 m)).springs.length 8 (fun i=>cD (aG (aE 300 m)).bodies.length ((aG (aE 300 m)).springs.getD i default)))) (.i6 (bG m.springs.length 8 (fun i=>cD m.bodies.length (m.springs.getD i default)))) from Ref.int (congrArg (fun m:MachD=>(bG m.springs.length 8 (fun i=>cD m.bodies.length (m.springs.getD i default)))) (aW m))) hM (show(m.springs.map (aN 300))=(aG (aE 300 m)).springs.map (aN 300) from(congrArg (fun x:MachD=>x.springs.map (aN 300)) (aW m)).symm) (show(aG (aE 300 m)).springs.length<=4611686018427387904 from(congrArg (fun x:MachD=>x.springs.length<=4611686018427387904) (aW m)).mpr o2.2.1) (show Ref (.i6 (bG (aG (aE 300 m)).tendons.length 8 (fun i=>cE (aG (aE 300 m)).bodies.length ((aG (aE 300 m)).tendons.getD i default)))) (.i6 (bG m.tendons.length 8 (fun i=>cE m.bodies.length (m.tendons.getD i default)))) from Ref.int (congrArg (fun m:MachD=>(bG m.tendons.length 8 (fun i=>cE m.bodies.length (m.tendons.getD i default)))) (aW m))) hM (.c6 (show(m.tendons.map (aN 300))=(aG (aE 300 m)).tendons.map (aN 300) from(congrArg (fun x:MachD=>x.tendons.map (aN 300)) (aW m)).symm) (show(aG (aE 300 m)).tendons.length<=4611686018427387904 from(congrArg (fun x:MachD=>x.tendons.length<=4611686018427387904) (aW m)).mpr o2.2.2.1) (show Ref (.i6 (bG (aG (aE 300 m)).motors.length ((m.bodies.map (aH 300)).length:Int) (fun i=>eD (aG (aE 300 m)).bodies.length (aG (aE 300 m)).motors i))) (.i6 (bG m.motors.length (m.bodies.length:Int) (fun i=>eD m.bodies.length m.motors i))) from Ref.int (by rw[hb];exact congrArg (fun x:MachD=>bG x.motors.length ((m.bodies.length:Nat):Int) (fun i=>eD x.bodies.length x.motors i)) (aW m))) hM (show(m.motors.map (aV 300))=(aG (aE 300 m)).motors.map (aV 300) from(congrArg (fun x:MachD=>x.motors.map (aV 300)) (aW m)).symm) (show(aG (aE 300 m)).motors.length<=4611686018427387904 from(congrArg (fun x:MachD=>x.motors.length<=4611686018427387904) (aW m)).mpr o2.2.2.2.1) (.c6 (show Ref (.i6 (bG (aG (aE 300 m)).feet.length 6 (fun i=>dB (aG (aE 300 m)).bodies.length ((aG (aE 300 m)).feet.getD i default)))) (.i6 (bG m.feet.length 6 (fun i=>dB m.bodies.length (m.feet.getD i default)))) from Ref.int (congrArg (fun m:MachD=>(bG m.feet.length 6 (fun i=>dB m.bodies.length (m.feet.getD i default)))) (aW m))) hM (show(m.feet.map (bH 300))=(aG (aE 300 m)).feet.map (bH 300) from(congrArg (fun x:MachD=>x.feet.map (bH 300)) (aW m)).symm) (show(aG (aE 300 m)).feet.length<=4611686018427387904 from(congrArg (fun x:MachD=>x.feet.length<=4611686018427387904) (aW m)).mpr o2.2.2.2.2) (show Ref (.i6 (Ah ([[(AV.int .i64 (bG m.bodies.length 12 (fun i=>eX m.bodies i)))],[(AV.int .i64 (bG m.springs.length 8 (fun i=>cD m.bodies.length (m.springs.getD i default))))],[(AV.int .i64 (bG m.tendons.length 8 (fun i=>cE m.bodies.length (m.tendons.getD i default))))],[(AV.int .i64 (bG m.motors.length (m.bodies.length:Int) (fun i=>eD m.bodies.length m.motors i)))],[(AV.int .i64 (bG m.feet.length 6 (fun i=>dB m.bodies.length (m.feet.getD i default))))]].map ND))) (.i6 (Ah [(bG m.bodies.length 12 (fun i=>eX m.bodies i)),(bG m.springs.length 8 (fun i=>cD m.bodies.length (m.springs.getD i default))),(bG m.tendons.length 8 (fun i=>cE m.bodies.length (m.tendons.getD i default))),(bG m.motors.length (m.bodies.length:Int) (fun i=>eD m.bodies.length m.motors i)),(bG m.feet.length 6 (fun i=>dB m.bodies.length (m.feet.getD i default)))])) from rr) (dc (0+5<=5)) (.a2 (rfl: [[.i6 (bG m.bodies.length 12 (fun i=>eX m.bodies i))],[.i6 (bG m.springs.length 8 (fun i=>cD m.bodies.length (m.springs.getD i default)))],[.i6 (bG m.tendons.length 8 (fun i=>cE m.bodies.length (m.tendons.getD i default)))],[.i6 (bG m.motors.length (m.bodies.length:Int) (fun i=>eD m.bodies.length m.motors i))],[.i6 (bG m.feet.length 6 (fun i=>dB m.bodies.length (m.feet.getD i default)))]]=([[(AV.int .i64 (bG m.bodies.length 12 (fun i=>eX m.bodies i)))],[(AV.int .i64 (bG m.springs.length 8 (fun i=>cD m.bodies.length (m.springs.getD i default))))],[(AV.int .i64 (bG m.tendons.length 8 (fun i=>cE m.bodies.length (m.tendons.getD i default))))],[(AV.int .i64 (bG m.motors.length (m.bodies.length:Int) (fun i=>eD m.bodies.length m.motors i)))],[(AV.int .i64 (bG m.feet.length 6 (fun i=>dB m.bodies.length (m.feet.getD i default))))]].map ND).map Fa) (show [[(AV.int .i64 (bG m.bodies.length 12 (fun i=>eX m.bodies i)))],[(AV.int .i64 (bG m.springs.length 8 (fun i=>cD m.bodies.length (m.springs.getD i default))))],[(AV.int .i64 (bG m.tendons.length 8 (fun i=>cE m.bodies.length (m.tendons.getD i default))))],[(AV.int .i64 (bG m.motors.length (m.bodies.length:Int) (fun i=>eD m.bodies.length m.motors i)))],[(AV.int .i64 (bG m.feet.length 6 (fun i=>dB m.bodies.length (m.feet.getD i default))))]].length<=4611686018427387904 by simp)))))) (V:=.i6 (Ah [(bG m.bodies.length 12 (fun i=>eX m.bodies i)),(bG m.springs.length 8 (fun i=>cD m.bodies.length (m.springs.getD i default))),(bG m.tendons.length 8 (fun i=>cE m.bodies.length (m.tendons.getD i default))),(bG m.motors.length (m.bodies.length:Int) (fun i=>eD m.bodies.length m.motors i)),(bG m.feet.length 6 (fun i=>dB m.bodies.length (m.feet.getD i default)))])) (Ref.int (by rw[if_neg (by simpa using c1),if_neg (by omega)]))
def uK:=kn.cons OV
def dU (B:Nat) (x:Rat):List AV:=[.q x B]
def cU (B:Nat) (x:Rat):List AV:=[.rq x x.den B]
def yX (l:List NumD):List (List AV):=(l.map NumD.val).map (dU 300)
def yY (l:List NumD):List (List AV):=(l.map NumD.val).map (cU 300)
def UF:KF
 | [.list 3 X]=>some (.tup [.list 3 (yX (X.map jE)),.list 4 (yY (X.map jE))],[X=(X.map jE).map unNum,∀ s∈X.map jE,s.ok,X.length*128<=140737488355328])
 | _=>none
section
variable {S:Nat->Prop} {w0:World}
theorem Mj (ls:List NumD) (hok:∀ s∈ls,s.ok) (hL:ls.length*128<=140737488355328):
   GF 63 S w0 (.tup [.list 3 (yX ls),.list 4 (yY ls)])
   [.code (aR [1,1,1,0,1,0,0] (aA Tryz.f63)),.inLoop (aR [1,1,1,0,1,0,0] (aA Tryz.f63)),.inBlock 0,.code (aR [1,1,1,1] (aA Tryz.f63))]
   ⟨slots 33 [(0,.list 3 (ls.map unNum)),(4,.nil),(5,.nil),(6,.i6 ((0:Nat):Int))],[]⟩:=by
 refine wQ (XS:=yX ls) (YS:=yY ls) ls.length (fun i=>[.q (ls.getD i default).val 300]) (fun i=>[.rq (ls.getD i default).val (ls.getD i default).val.den 300]) (fun a b i h=>⟨slots 33 [(0,.list 3 (ls.map unNum)),(4,a),(5,b),(6,.i6 ((i:Nat):Int))],h⟩) 0 1 3 4 56 66 ?_ ?_ ?_ ?_ (by rw[yX,List.map_map];exact eK (f:=fun s=>[.q s.val 300]) ls) (by rw[yY,List.map_map];exact eK (f:=fun s=>[.rq s.val s.val.den 300]) ls) ?_
 · intro hp hg
   have hs:=hok _ (eB hp);have v0:(0:Int)<((ls.map unNum).length:Int):=by rw[bM];omega
   exact gR uK none [0,4,5,6] [4,6] [(12,tt),(18,.cptr (unNum (ls.getD 0 default)) 0),(14,.i6 ((0+1:Nat):Int))] (.c6 (iT v0) (show Ref (.cptr ((ls.map unNum).getD 0 []) 0) (.cptr (unNum (ls.getD 0 default)) 0) from Ref.cmap hp) (nn 0) v0 hs r1 (.c6 (dc (0<1)) (dc (1*56<=140737488355328)) (dc (1<=big)) r1 (dc (0<1)) (dc (1*64<=140737488355328)) (.a2 (dc (1<=big)) (wI ((0:Int)+(1:Int)) ((0+1:Nat):Int))))) hg
 · intro i A B hi hlt hA hB hg
   have hs:=hok _ (eB hlt);have v1:(i:Int)<((ls.map unNum).length:Int):=by rw[bM];omega
   exact gR uK none [0,4,5,6] [6,8] [(12,tt),(18,.cptr (unNum (ls.getD i default)) 0),(14,.i6 ((i+1:Nat):Int))] (.c6 (iT v1) (show Ref (.cptr ((ls.map unNum).getD i []) 0) (.cptr (unNum (ls.getD i default)) 0) from Ref.cmap hlt) (nn i) v1 hs r1 (.c6 (show i=A.length from hA.symm) (om ((i+1)*56<=140737488355328)) (show i+1<=big by unfold big;omega) r1 (show i=B.length from hB.symm) (om ((i+1)*64<=140737488355328)) (.a2 (show i+1<=big by unfold big;omega) (wI ((i:Int)+(1:Int)) ((i+1:Nat):Int))))) hg
 · intro A B hp hA hB hg
   refine Good.freezeD (b:=⟨56,3,true,A,none⟩) 0 (by rfl) (by rfl) (.cons (by show 0+ls.length<=A.length;omega) .nil) .nil ?_;refine Good.freezeD (b:=⟨66,4,true,B,none⟩) 1 (by rfl) (by rfl) (.cons (by show 0+ls.length<=B.length;omega) .nil) .nil ?_;refine Good.tidy [] (by decide) (σ':=slots 33 [(0,.list 3 (ls.map unNum)),(4,.list 3 ((A.drop 0).take ls.length)),(5,.list 4 ((B.drop 0).take ls.length)),(6,.i6 ((ls.length:Nat):Int))]) (h':=[]) (by kernel_rfl) (by kernel_rfl) ?_;rw[List.drop_zero,List.drop_zero,gO (by omega),gO (by omega)];exact hg
 · intro h0 hg
   exact Good.weak 33 [(0,_),(4,_),(5,_),(6,_)] (by kernel_rfl) (.r (.cons Ref.nilL (.cons Ref.nilL (.r .nil)))) hg
 · exact rR uK [(12,ff)] (.a1 (iF (show ¬ ((ls.length:Int)<((ls.map unNum).length:Int)) by rw[bM];omega)))
end
theorem Vp:bO 63 UF:=fun args r ob h ho=>by
 unfold UF at h
 split at h
 · rename_i X
   cases h;have o1:X=(X.map jE).map unNum:=ho _ (by simp);have o2:∀ s∈X.map jE,s.ok:=ho _ (by simp);have o3:(X.map jE).length*128<=140737488355328:=by rw[bM];exact ho _ (by simp)
   clear ho;generalize X.map jE=ls at*;subst o1;refine af Tryz.f63 fun S w0=> ?_
   have e:kY [AV.list 3 (ls.map unNum)] Tryz.f63.ntmps=⟨slots 33 [(0,.list 3 (ls.map unNum))],[]⟩:=by kernel_rfl
   rw[e];clear e;exact gN uK [0,4,5,6] [] .nil (Mj ls o2 o3)
 · cases h
structure StandD where
 at_:SpotD
 turn:NumD
 joints:List NumD
 deriving Inhabited
structure PoseD where
 at_:PtD
 turn:Rat
 joints:List Rat
 deriving Inhabited
def DA (s:StandD):List AV:=[.i6 s.at_.x.n,.i6 s.at_.x.d,.int .u8 s.at_.x.p,.i6 s.at_.z.n,.i6 s.at_.z.d,.int .u8 s.at_.z.p,.i6 s.turn.n,.i6 s.turn.d,.int .u8 s.turn.p,.list 3 (s.joints.map unNum)]
def StandD.ok (s:StandD):Prop:=s.at_.ok/\s.turn.ok/\(∀ v∈s.joints,v.ok)/\s.joints.length*128<=140737488355328
def StandD.real (s:StandD):PoseD:=⟨s.at_.pt,s.turn.val,s.joints.map NumD.val⟩
def bB (B:Nat) (p:PoseD):List AV:=[.q p.at_.x B,.q p.at_.z B,.q p.turn B,.list 3 (p.joints.map (dU B))]
def mH (B:Nat) (p:PoseD):List AV:=[.rq p.at_.x p.at_.x.den B,.rq p.at_.z p.at_.z.den B,.rq p.turn p.turn.den B,.list 4 (p.joints.map (cU B))]
def UG:KF
 | [.agg [.int .i64 n,.int .i64 d,.int .u8 p,.int .i64 n',.int .i64 d',.int .u8 p',.int .i64 nt,.int .i64 dt,.int .u8 pt,.list 3 X]]=>some (.tup [.agg [.q (fB n d p) 300,.q (fB n' d' p') 300,.q (fB nt dt pt) 300,.list 3 (yX (X.map jE))],.agg [.rq (fB n d p) (fB n d p).den 300,.rq (fB n' d' p') (fB n' d' p').den 300,.rq (fB nt dt pt) (fB nt dt pt).den 300,.list 4 (yY (X.map jE))]],[Du n d p,Du n' d' p',Du nt dt pt,X=(X.map jE).map unNum,∀ s∈X.map jE,s.ok,X.length*128<=140737488355328])
 | _=>none
theorem Vq:bO 19 UG:=by
 refine cJ Tryz.f19 fun _ _ _ S w0 h ho=> ?_
 unfold UG at h;split at h <;> cases h;rename_i n d p n' d' p' nt dt pt X;obtain⟨o1,o2,o3,o4,o5,o6⟩:=ho.e6;have K:=((kn.cons Vp).cons OV).cons Sg;exact rR K [] (.a6 o1 o2 o3 o4 o5 o6)
end Go.Av
namespace Go.Av
open Go.RowKit
structure InvG (X:Nat×AOp->Prop) (𝓡:Array Bool->(Nat->Nat)->(Nat->Prop)->St->Act->World->Prop) (O:Rec->Prop) (T:TT) (K:KT) (ops:Array Oper) (listed:Array Bool) (xs:List (Nat×AOp)) (rs:List Rec) (st st':St) (a:Act) (w:World) (ρ:Nat->Nat) (D:Nat->Prop):Prop where
 rel:𝓡 listed ρ D st a w
 run:jD T K ops xs st=some (st',rs)
 obs:∀ r∈rs,O r
 pend:Pend D st.h xs
 size:listed.size=ops.size
 mem:∀ i,i<ops.size->(listed.getD i false=false↔∃ x,(i,x)∈xs)
 all:∀ p∈xs,X p
 sorted:xs.Pairwise fun p q=>p.1<q.1
 ops_:∀ p∈xs,ops[p.1]? =some p.2.o
 closed:Cr ops listed
 pairs:rs.Pairwise fun r s=>sK ops (sJ [] ops.toList) r s=true
section
variable {P:Program} {T:TT} {K:KT} {ops:Array Oper} {Q:Exit->Act->World->Prop}
theorem CM {X:Nat×AOp->Prop} {opsR:Array Oper} {𝓡:Array Bool->(Nat->Nat)->(Nat->Prop)->St->Act->World->Prop} {O:Rec->Prop} (hE:fV 0 ops.toList=true) {st':St}
   (hr:∀ listed,Region.ready .any opsR listed=Region.ready .any ops listed)
   (hQ:∀ listed ρ' D' a' w',𝓡 listed ρ' D' st' a' w'->(∀ i,i<ops.size->listed.getD i false=true)->Q .normal a' w')
   (hstep:∀ listed i x st st1 r a w ρ D,𝓡 listed ρ D st a w->listed.size=ops.size->i<ops.size->listed.getD i false=false->(∀ o,ops[i]? =some o->∀ e∈o.after.toList,Region.binds .any e=true->listed.getD e.on false=true)->ops[i]? =some x.o->(fA x.o.op=true->st.h[x.nid]? =some none/\¬ D x.nid)->dQ T K ops i x st=some (st1,r)->O r->X (i,x)->(∃ rest rs1,jD T K ops rest st1=some (st',rs1)/\∀ p∈rest,p.1≠i/\listed.getD p.1 false=false/\ops[p.1]? =some p.2.o)->
     wpOp P opsR Q i (fun a' w'=>∃ ρ' D',𝓡 (listed.setIfInBounds i true) ρ' D' st1 a' w'/\∀ l,D' l->D l\/l=x.nid/\fA x.o.op=true) a w):
   ∀ (kA:Nat) (listed:Array Bool) (xs:List (Nat×AOp)) (rs:List Rec) (st:St) (a:Act) (w:World) (ρ:Nat->Nat) (D:Nat->Prop),xs.length<=kA->
     InvG X 𝓡 O T K ops listed xs rs st st' a w ρ D->wpAny P .any opsR Q kA listed a w:=by
 have done : ∀ (listed:Array Bool) (xs:List (Nat×AOp)) (rs:List Rec) (st:St) (a:Act) (w:World) (ρ:Nat->Nat) (D:Nat->Prop),InvG X 𝓡 O T K ops listed xs rs st st' a w ρ D->
     (Region.ready .any ops listed= []->xs= [])/\(xs= []->Region.ready .any ops listed= []/\Q .normal a w):=by
   intro listed xs rs st a w ρ D I;constructor
   · intro hr
     cases xs with
     | nil=>rfl
     | cons p xs=>
       exfalso;obtain⟨i,x⟩:=p;have ho:=I.ops_ (i,x) (by simp);have hlt:=(Array.getElem?_eq_some_iff.1 ho).1;have hun:=(I.mem i hlt).2 ⟨x,by simp⟩
       have:i∈Region.ready .any ops listed:=by
         rw[jY];refine⟨hlt,by rw[oP (by rw[I.size];exact hlt)];exact hun,x.o,ho,fun e he hb=> ?_⟩;have hle:=jQ ops.toList 0 i x.o hE (by simpa using ho) e he hb;simp at hle;cases hq:listed.getD e.on false with
         | true=>rfl
         | false=>
           exfalso;obtain⟨y,hy⟩:=(I.mem e.on (by omega)).1 hq;rcases List.mem_cons.1 hy with h | h
           · injection h with h _;omega
           · have:=(List.pairwise_cons.1 I.sorted).1 _ h
             simp at this;omega
       rw[hr] at this;cases this
   · intro hx
     subst hx;have hrun:=I.run;simp only[jD] at hrun;injection hrun with hrun;simp only[Prod.mk.injEq] at hrun
     have hall:∀ i,i<ops.size->listed.getD i false=true:=fun i hi=>by
       cases hc:listed.getD i false with
       | true=>rfl
       | false=>obtain⟨y,hy⟩:=(I.mem i hi).1 hc;simp at hy
     refine⟨?_,hQ _ _ _ _ _ (by rw[<- hrun.1];exact I.rel) hall⟩;cases hr:Region.ready .any ops listed with
     | nil=>rfl
     | cons i l=>
       exfalso;have hi:i∈Region.ready .any ops listed:=by rw[hr];simp
       obtain⟨h1,h2,_⟩:=jY.1 hi;rw[oP (by rw[I.size];exact h1)] at h2;obtain⟨x,hx⟩:=(I.mem i h1).1 h2;simp at hx
 intro kA
 induction kA with
 | zero=>
   intro listed xs rs st a w ρ D hl I
   have:=((done _ _ _ _ _ _ _ _ I).2 (by cases xs with | nil=>rfl | cons _ _=>simp at hl));exact⟨by rw[hr];exact this.1,this.2⟩
 | succ kA   ih=>
   intro listed xs rs st a w ρ D hl I;refine⟨fun hr'=>((done _ _ _ _ _ _ _ _ I).2 ((done _ _ _ _ _ _ _ _ I).1 (by rw[<- hr];exact hr'))).2,fun i hi=> ?_⟩;rw[hr] at hi;obtain⟨hlt,hun,o,ho,hed⟩:=jY.1 hi;rw[oP (by rw[I.size];exact hlt)] at hun;obtain⟨x,hx⟩:=(I.mem i hlt).1 hun;obtain⟨pre,post,rfl⟩:=List.append_of_mem hx
   have hox:x.o=o:=by
     have:=I.ops_ (i,x) hx;rw[ho] at this;injection this with this;exact this.symm
   obtain⟨rp,r,rq,hrs,hlen,hfront⟩:=Fo pre i x post st st' rs I.run;have hidx:=vP I.run;rw[hrs] at hidx;simp only[List.map_append,List.map_cons] at hidx;have hsplit:=List.append_inj hidx (by simp[hlen]);have hri:r.i=i:=by have:=hsplit.2;simp at this;exact this.1
   have hpairs:=I.pairs;rw[hrs] at hpairs
   have hind:∀ q∈rp,yF ops q r=true:=by
     intro q hq;have hp:=(List.pairwise_append.1 hpairs).2.2 q hq r (by simp);unfold sK at hp;rw[Bool.or_eq_true] at hp;rcases hp with hp | hp
     · exfalso
       rw[hri] at hp;have hqi:q.i∈pre.map (·.1):=by rw[<- hsplit.1];exact List.mem_map.2 ⟨q,hq,rfl⟩
       obtain⟨p,hp1,hp2⟩:=List.mem_map.1 hqi;have hpo:=I.ops_ p (by simp[hp1]);have hplt:=(Array.getElem?_eq_some_iff.1 hpo).1;have hqun:=(I.mem p.1 hplt).2 ⟨p.2,by simp[hp1]⟩;obtain⟨e,h1,h2,h3,h4⟩:=oO ops.toList [] i o (by simpa using ho) hE q.i (by simpa using hp);have hel:=hed e h1 h2
       have hql:listed.getD q.i false=true:=by
         rcases h4 with h4 | h4
         · rw[<- h4];exact hel
         · simp at h3
           exact vO hE I.closed e.on hel ops[e.on] (by simp[show e.on<ops.size from by omega]) q.i h4
       rw[hp2] at hqun;rw[hqun] at hql;cases hql
     · exact hp
   have hrun2:=hfront hind;obtain⟨st1,r',rs1,g1,g2,g3⟩:=eS.1 hrun2;injection g3 with g3 g4;subst g3;subst g4
   have hmemx:∀ p,p∈pre++post->p∈pre++(i,x)::post:=fun p hp=>by
     rcases List.mem_append.1 hp with h | h
     · simp[h]
     · simp[h]
   have hpend2:Pend D st.h ((i,x)::(pre++post)):=by
     refine⟨fun p hp=>I.pend.free p ?_, ?_⟩
     · rcases List.mem_cons.1 hp with rfl | hp
       · exact hx
       · exact hmemx p hp
     · have hap:=I.pend.apart
       rw[List.pairwise_append] at hap;obtain⟨k1,k2,k3⟩:=hap;rw[List.pairwise_cons] at k2;refine List.pairwise_cons.2 ⟨fun q hq hx hn=> ?_,List.pairwise_append.2 ⟨k1,k2.2,fun p hp q hq=>k3 p hp q (by simp[hq])⟩⟩;rcases List.mem_append.1 hq with h | h
       · exact fun e=>k3 q h (i,x) (by simp) hn hx e.symm
       · exact k2.1 q h hx hn
   have hneq:∀ p,p∈pre++post->p.1≠i:=by
     intro p hp e;have hs:=I.sorted;rw[List.pairwise_append,List.pairwise_cons] at hs;rcases List.mem_append.1 hp with h | h
     · have:=hs.2.2 p h (i,x) (by simp)
       simp at this;omega
     · have:=hs.2.1.1 p h
       simp at this;omega
   refine wpOp_mono ?_ (hstep listed i x st st1 r a w ρ D I.rel I.size hlt hun (fun o' ho'=>by rw[ho] at ho';injection ho' with ho';subst ho';exact hed) (I.ops_ (i,x) hx) (hpend2.free (i,x) (by simp)) g1 (I.obs r (by rw[hrs];simp)) (I.all (i,x) hx) ⟨pre++post,rp++rq,g2,fun p hp=>⟨hneq p hp,(I.mem p.1 (Array.getElem?_eq_some_iff.1 (I.ops_ p (hmemx p hp))).1).2 ⟨p.2,hmemx p hp⟩,I.ops_ p (hmemx p hp)⟩⟩);rintro a' w' ⟨ρ',D',R',hD'⟩;refine ih (listed.setIfInBounds i true) (pre++post) (rp++rq) st1 a' w' ρ' D' (by simp at hl ⊢;omega) ?_
   exact {
     rel:=R'
     run:=g2
     obs:=fun q hq=>I.obs q (by rw[hrs];rcases List.mem_append.1 hq with h | h <;> simp[h])
     pend:=hpend2.tail g1 hD'
     size:=by simpa using I.size
     mem :=by
       intro k hk
       by_cases hki:i=k
       · subst hki
         constructor
         · intro h
           simp[cO,I.size,hlt] at h
         · rintro⟨y,hy⟩
           exact absurd rfl (hneq (i,y) hy)
       · have e1:(listed.setIfInBounds i true).getD k false=listed.getD k false:=by
           simp[cO,hki]
         rw[e1,I.mem k hk];constructor
         · rintro⟨y,hy⟩
           refine⟨y, ?_⟩;rcases List.mem_append.1 hy with h | h
           · simp[h]
           · rcases List.mem_cons.1 h with h | h
             · injection h with h _;exact absurd h.symm hki
             · simp[h]
         · rintro⟨y,hy⟩
           exact⟨y,hmemx _ hy⟩
     sorted:=by
       have hs:=I.sorted;rw[List.pairwise_append,List.pairwise_cons] at hs;exact List.pairwise_append.2 ⟨hs.1,hs.2.1.2,fun p hp q hq=>hs.2.2 p hp q (by simp[hq])⟩
     ops_:=fun p hp=>I.ops_ p (hmemx p hp)
     all:=fun p hp=>I.all p (hmemx p hp)
     closed:=by
       intro k ok hk hl2 e he hb
       by_cases hki:i=k
       · subst hki
         rw[ho] at hk;injection hk with hk;subst hk
         have:=hed e he hb
         by_cases h:i=e.on
         · subst h;simp[cO,I.size,hlt]
         · simpa[cO,h] using this
       · have e1:(listed.setIfInBounds i true).getD k false=listed.getD k false:=by
           simp[cO,hki]
         rw[e1] at hl2
         have:=I.closed k ok hk hl2 e he hb
         by_cases h:i=e.on
         · subst h;simp[cO,I.size,hlt]
         · simpa[cO,h] using this
     pairs:=by
       rw[List.pairwise_append,List.pairwise_cons] at hpairs
       exact List.pairwise_append.2 ⟨hpairs.1,hpairs.2.1.2,fun p hp q hq=>hpairs.2.2 p hp q (by simp[hq])⟩ }
theorem yZ {X:Nat×AOp->Prop} {opsR:Array Oper} {𝓡:Array Bool->(Nat->Nat)->(Nat->Prop)->St->Act->World->Prop} {O:Rec->Prop} (hE:fV 0 ops.toList=true) {st':St}
   (hQ:∀ listed ρ' D' a' w',𝓡 listed ρ' D' st' a' w'->(∀ i,i<ops.size->listed.getD i false=true)->Q .normal a' w')
   (hstep:∀ listed i x st st1 r a w ρ D,𝓡 listed ρ D st a w->listed.size=ops.size->i<ops.size->listed.getD i false=false->(∀ o,ops[i]? =some o->∀ e∈o.after.toList,Region.binds .any e=true->listed.getD e.on false=true)->ops[i]? =some x.o->(fA x.o.op=true->st.h[x.nid]? =some none/\¬ D x.nid)->dQ T K ops i x st=some (st1,r)->O r->X (i,x)->(∃ rest rs1,jD T K ops rest st1=some (st',rs1)/\∀ p∈rest,p.1≠i/\listed.getD p.1 false=false/\ops[p.1]? =some p.2.o)->
     wpOp P opsR Q i (fun a' w'=>∃ ρ' D',𝓡 (listed.setIfInBounds i true) ρ' D' st1 a' w'/\∀ l,D' l->D l\/l=x.nid/\fA x.o.op=true) a w):
   ∀ (xs:List (Nat×AOp)) (k:Nat) (listed:Array Bool) (ρ:Nat->Nat) (D:Nat->Prop) (st:St) (a:Act) (w:World) (rs:List Rec),listed.size=ops.size->(∀ i,i<ops.size->(listed.getD i false=true↔i<k))->
     xs.map (·.1)=List.range' k xs.length->k+xs.length=ops.size->𝓡 listed ρ D st a w->jD T K ops xs st=some (st',rs)->(∀ r∈rs,O r)->Pend D st.h xs->(∀ p∈xs,ops[p.1]? =some p.2.o)->(∀ p∈xs,X p)->wpOps P opsR Q (xs.map (·.1)) a w
 | [],k,listed,ρ,D,st,a,w,rs,hsz,hl,_,hk,R,he,_,_,_,_=>by
   simp only[jD] at he;injection he with he;simp only[Prod.mk.injEq] at he;obtain⟨rfl,rfl⟩:=he;exact hQ _ _ _ _ _ R fun i hi=>(hl i hi).2 (by simp at hk;omega)
 | (i, x)::xs,k,listed,ρ,D,st,a,w,rs,hsz,hl,hidx,hk,R,he,hob,hp,ho,hX=>by
   obtain⟨st1,r,rs1,h1,h2,rfl⟩:=eS.1 he;simp only[List.map_cons,List.length_cons,List.range'_succ,List.cons.injEq] at hidx;obtain⟨rfl,hidx⟩:=hidx;simp only[List.length_cons] at hk;simp only[List.map_cons];rw[wpOps_cons];have hlt:i<ops.size:=by omega
   have hun:listed.getD i false=false:=by
     cases hc:listed.getD i false with
     | false=>rfl
     | true=>exact absurd ((hl i hlt).1 hc) (Nat.lt_irrefl i)
   have hox:=ho (i,x) (by simp)
   have hin:∀ p∈xs,i<p.1:=fun p hp'=>by
     have:p.1∈List.range' (i+1) xs.length:=by rw[<- hidx];exact List.mem_map.2 ⟨p,hp',rfl⟩
     have:=List.mem_range'_1.1 this;omega
   refine wpOp_mono ?_ (hstep listed i x st st1 r a w ρ D R hsz hlt hun (fun o ho' e he' hb=>by
     have:=jQ ops.toList 0 i o hE (by simpa using ho') e he' hb;simp at this
     exact(hl e.on (by omega)).2 this) hox (hp.free (i,x) (by simp)) h1 (hob r (by simp)) (hX _ (by simp))
     ⟨xs,rs1,h2,fun p hp'=>⟨by have:=hin p hp';omega,by
       have hplt:=(Array.getElem?_eq_some_iff.1 (ho p (by simp[hp']))).1;cases hc:listed.getD p.1 false with
       | false=>rfl
       | true=>exact absurd ((hl p.1 hplt).1 hc) (by have:=hin p hp';omega),ho p (by simp[hp'])⟩⟩)
   rintro a' w' ⟨ρ',D',R',hD'⟩;refine yZ hE hQ hstep xs (i+1) (listed.setIfInBounds i true) ρ' D' st1 a' w' rs1 (by simpa using hsz) ?_ hidx (by omega) R' h2 (fun r hr=>hob r (by simp[hr])) (hp.tail h1 hD') (fun p hp=>ho p (by simp[hp])) (fun p hp=>hX p (by simp[hp]));intro j hj;rw[cO]
   by_cases e:i=j
   · subst e;simp[hsz,hlt]
   · rw[if_neg (fun h=>e h.1),hl j hj];omega
def lM (T:TT) (K:KT) (ops:Array Oper) (draw:Bool) (ov:mW) (st:St):Option (St×List Rec):=
 match jD T K ops (eF 0 ops.toList ov st.h.length) ⟨st.σ,st.h++List.replicate (eT ops.toList) none⟩ with
 | some (st',rs)=>if fV 0 ops.toList&&(!draw||oN ops (sJ [] ops.toList) rs) then some (st',rs) else none
 | none=>none
def fG:List Oper->List Oper->Prop
 | [],[]=>True
 | o::os,o'::os'=>o'.dst=o.dst/\o'.guard=o.guard/\o'.after=o.after/\fG os os'
 | _,_=>False
theorem iW:∀ {os os':List Oper},fG os os'->os'.length=os.length/\∀ i:Nat,(os[i]? =none/\os'[i]? =none)\/∃ (o o':Oper),os[i]? =some o/\os'[i]? =some o'/\o'.dst=o.dst/\o'.guard=o.guard/\o'.after=o.after
 | [],[],_=>⟨rfl,fun i=>.inl ⟨rfl,rfl⟩⟩
 | o::os,o'::os',h=>by
   obtain⟨h1,h2,h3,h4⟩:=h;obtain⟨k1,k2⟩:=iW h4;refine⟨by simp[k1],fun i=> ?_⟩;cases i with
   | zero=>exact .inr ⟨o,o',rfl,rfl,h1,h2,h3⟩
   | succ i=>simpa using k2 i
 | [],_::_,h=>h.elim
 | _::_,[],h=>h.elim
theorem BK {opsR ops:Array Oper} (h:fG opsR.toList ops.toList) (listed:Array Bool):Region.ready .any opsR listed=Region.ready .any ops listed:=by
 obtain⟨h1,h2⟩:=iW h;unfold Region.ready;have hs:ops.size=opsR.size:=by simpa using h1
 rw[hs];refine List.filter_congr fun i _=> ?_
 congr 1
 rcases h2 i with ⟨k1,k2⟩ | ⟨o,o',k1,k2,_,_,k3⟩
 · rw[Array.getElem?_toList] at k1 k2;rw[k1,k2]
 · rw[Array.getElem?_toList] at k1 k2;rw[k1,k2];simp[k3]
theorem BL (h:fG opsR.toList ops.toList) (hi:opsR[i]? =ops[i]?) (hw:wpOp P ops Q i J a w):wpOp P opsR Q i J a w:=by
 obtain⟨h1,h2⟩:=iW h
 have hy:∀ tmps,yielded opsR tmps=yielded ops tmps:=by
   intro tmps;funext j;unfold yielded
   have:(opsR[j]?).bind (·.dst)=(ops[j]?).bind (·.dst):=by
     rcases h2 j with ⟨k1,k2⟩ | ⟨o,o',k1,k2,k3,_,_⟩
     · rw[Array.getElem?_toList] at k1 k2;rw[k1,k2]
     · rw[Array.getElem?_toList] at k1 k2;rw[k1,k2];simp[k3]
   rw[this]
 unfold wpOp at hw ⊢;rw[hi,hy];exact hw
theorem DB (hm:P.follows .mixedOrders=true) {X:Nat×AOp->Prop} {id:Nat} {opsR:Array Oper} {draw:Bool} {ov:mW} {st st':St} {rs:List Rec} {𝓡:Array Bool->(Nat->Nat)->(Nat->Prop)->St->Act->World->Prop} {O:Rec->Prop} {ρ:Nat->Nat} {D:Nat->Prop} {a:Act} {w:World}
   (he:lM T K ops draw ov st=some (st',rs)) (hO:∀ r∈rs,O r) (hsh:fG opsR.toList ops.toList) (hX:∀ p∈eF 0 ops.toList ov st.h.length,X p) (hD:∀ l,D l->l<st.h.length)
   (R0:∀ w',(w'=w\/w'={ w with drawn:=w.drawn+1 })->𝓡 (Array.replicate ops.size false) ρ D ⟨st.σ,st.h++List.replicate (eT ops.toList) none⟩ a w')
   (hQ:∀ listed ρ' D' a' w',𝓡 listed ρ' D' st' a' w'->(∀ i,i<ops.size->listed.getD i false=true)->Q .normal a' w')
   (hstep:∀ listed i x st st1 r a w ρ D,𝓡 listed ρ D st a w->listed.size=ops.size->i<ops.size->listed.getD i false=false->(∀ o,ops[i]? =some o->∀ e∈o.after.toList,Region.binds .any e=true->listed.getD e.on false=true)->ops[i]? =some x.o->(fA x.o.op=true->st.h[x.nid]? =some none/\¬ D x.nid)->dQ T K ops i x st=some (st1,r)->O r->X (i,x)->(∃ rest rs1,jD T K ops rest st1=some (st',rs1)/\∀ p∈rest,p.1≠i/\listed.getD p.1 false=false/\ops[p.1]? =some p.2.o)->
     wpOp P opsR Q i (fun a' w'=>∃ ρ' D',𝓡 (listed.setIfInBounds i true) ρ' D' st1 a' w'/\∀ l,D' l->D l\/l=x.nid/\fA x.o.op=true) a w):
   (Code.region id opsR draw).wp P Q a w:=by
 unfold lM at he
 split at he
 · rename_i st2 rs2 hrun
   split at he
   · rename_i hc
     injection he with he;simp only[Prod.mk.injEq] at he;obtain⟨rfl,rfl⟩:=he;rw[Bool.and_eq_true] at hc;obtain⟨hnid,hap⟩:=sM ops.toList 0 ov st.h.length
     have hpend:Pend D (st.h++List.replicate (eT ops.toList) none) (eF 0 ops.toList ov st.h.length):=by
       refine⟨fun p hp hn=> ?_,hap⟩;obtain⟨h1,h2⟩:=hnid p hp hn;refine⟨?_,fun h=> ?_⟩
       · rw[List.getElem?_append_right h1,List.getElem?_replicate,if_pos (by omega)]
       · have:=hD _ h;omega
     have hops:∀ p∈eF 0 ops.toList ov st.h.length,ops[p.1]? =some p.2.o:=by
       intro p hp;obtain⟨k,h1,h2⟩:=oQ _ _ _ _ p hp;rw[h1,Nat.zero_add];simpa using h2
     have hsz:opsR.size=ops.size:=by have:=(iW hsh).1;simpa using this.symm
     cases draw with
     | false=>
       refine wp_region ?_
       have:=yZ (P:=P) (Q:=Q) (opsR:=opsR) hc.1 hQ hstep (eF 0 ops.toList ov st.h.length) 0 (Array.replicate ops.size false) ρ D ⟨st.σ,st.h++List.replicate (eT ops.toList) none⟩ a w rs2 (by simp) (fun i hi=>by simp[Array.getD,hi])
         (by rw[oR,hH]) (by rw[hH];simp) (R0 w (.inl rfl)) hrun hO hpend hops hX
       rw[oR] at this;rw[hsz,List.range_eq_range'];simpa using this
     | true=>
       refine wp_region_any hm ?_;have hp:oN ops (sJ [] ops.toList) rs2=true:=by simpa using hc.2
       rw[hsz];refine CM (P:=P) (X:=X) hc.1 (BK hsh) hQ hstep ops.size _ (eF 0 ops.toList ov st.h.length) rs2 ⟨st.σ,st.h++List.replicate (eT ops.toList) none⟩ a _ ρ D (by rw[hH];simp) ?_
       exact {
         rel:=R0 _ (.inr rfl)
         run:=hrun
         obs:=hO
         pend:=hpend
         size:=by simp
         mem:=fun i hi=>⟨fun _=>by have:=sL ops.toList 0 ov st.h.length i (by simpa using hi);simpa using this,fun _=>by simp[Array.getD,hi]⟩
         all:=hX
         sorted:=jR _ _ _ _
         ops_:=hops
         closed:=fun k o hk hl=>by
           have:=(Array.getElem?_eq_some_iff.1 hk).1;simp[Array.getD,this] at hl
         pairs:=mB hp }
   · cases he
 · cases he
end
structure Base where
 S:Nat->Prop
 C:Nat->Prop
 w:World
section
variable {P:Program} {T:TT} {K:KT} {ops:Array Oper} {f:FuncId} {S0 C0:Nat->Prop} {w0:World} {Post:Value->World->Prop}
theorem sY (h:dQ T K ops i x st=some (st1,r)):∃ V,st1.σ=put st.σ x.o.dst V:=by
 unfold dQ at h
 split at h
 · split at h
   · injection h with h;simp only[Prod.mk.injEq] at h;exact⟨_,by rw[<- h.1]⟩
   · cases h
 · injection h with h;simp only[Prod.mk.injEq] at h;exact⟨_,by rw[<- h.1]⟩
 · cases h
theorem sZ:∀ {xs:List (Nat×AOp)} {st st':St} {rs:List Rec} {t:Nat},jD T K ops xs st=some (st',rs)->(∀ p∈xs,p.2.o.dst≠some t)->st'.σ.getD t .any=st.σ.getD t .any
 | [],st,st',rs,t,h,_=>by simp only[jD] at h;injection h with h;simp only[Prod.mk.injEq] at h;rw[h.1]
 | (i,x)::xs,st,st',rs,t,h,hx=>by
   obtain⟨st1,r,rs1,h1,h2,rfl⟩:=eS.1 h;rw[sZ h2 (fun p hp=>hx p (by simp[hp]))];obtain⟨V,hV⟩:=sY h1;rw[hV,qS (hx (i,x) (by simp))]
theorem Good.regionX (hm:P.follows .mixedOrders=true) (hT:lT P T) (hK:KOK P K) {id:Nat} {opsR:Array Oper} {draw:Bool} {ov:mW} {st st':St} {rs:List Rec} {todo:List Item} (iX:Nat) {oX:Oper} {V:AV} {B B':Base->Prop} {args:List (Nat×AV)}
   (he:lM T K ops draw ov st=some (st',rs)) (hO:∀ r∈rs,r.i≠iX->AllP r.ob) (hsh:fG opsR.toList ops.toList) (hne:∀ i,i≠iX->opsR[i]? =ops[i]?)
   (hoX:opsR[iX]? =some oX) (hg:oX.guard=none) (hop:ops[iX]? =some { oX with op:=.move (.const undef) }) (hV:∀ x,(iX,x)∈eF 0 ops.toList ov st.h.length->x.ov=some V\/oX.dst=none)
   (hargs:∀ p∈args,st'.σ.getD p.1 .any=p.2/\∀ (j:Nat) (o:Oper),ops[j]? =some o->o.dst=some p.1->∃ e∈oX.after.toList,e.on=j/\Region.binds .any e=true)
   (hX:∀ (Q:Exit->Act->World->Prop) β ρ D σ h a w,B β->Rel β.S β.C β.w ρ D ⟨σ,h⟩ a w->(∀ p∈args,σ.getD p.1 .any=p.2)->wpOp P opsR Q iX (fun a' w'=>∃ β',B' β'/\Rel β'.S β'.C β'.w ρ D ⟨put σ oX.dst V,h⟩ a' w') a w)
   (hB:B ⟨S0,C0,w0⟩) (hgood:∀ β,B' β->Good P f β.S β.C β.w Post todo st'):Good P f S0 C0 w0 Post (.code (.region id opsR draw)::todo) st:=by
 intro ρ D a w R b cs hb hk
 have key:(Code.region id opsR draw).wp P (fun e a' w'=>e=Exit.normal/\∃ β ρ' D',B' β/\Rel β.S β.C β.w ρ' D' st' a' w') a w:=by
   have hXin:ops[iX]? ≠none:=by rw[hop];simp
   have hXlt:iX<ops.size:=by
     rcases Nat.lt_or_ge iX ops.size with h | h
     · exact h
     · exact absurd (Array.getElem?_eq_none h) hXin
   refine DB (ρ:=ρ) hm (X:=fun p=>p∈eF 0 ops.toList ov st.h.length) (𝓡:=fun listed ρ D st a w=>∃ β:Base,(if listed.getD iX false=true then B' β else B β)/\Rel β.S β.C β.w ρ D st a w) (O:=fun r=>r.i≠iX->AllP r.ob) (T:=T) (K:=K) (ops:=ops)
     he hO hsh (fun p hp=>hp) R.dlt ?_ ?_ ?_
   · intro w' hw'
     refine⟨⟨S0,C0,w0⟩, ?_, ?_⟩
     · rw[if_neg (by simp[Array.getD,hXlt])];exact hB
     · rcases hw' with rfl | rfl
       · exact R.more _
       · exact(R.more _).draw
   · intro listed ρ' D' a' w' h hall
     obtain⟨β,h1,h2⟩:=h;rw[if_pos (hall iX hXlt)] at h1;exact⟨rfl,β,ρ',D',h1,h2⟩
   · intro listed i x st2 st1 r a2 w2 ρ2 D2 h hsz hi hun hed hox hfresh h1 hOr hxin hrest
     obtain⟨β,hβ,R2⟩:=h
     by_cases hiX:i=iX
     · subst hiX
       rw[if_neg (by rw[hun];simp)] at hβ;have hxo:x.o={ oX with op:=.move (.const undef) }:=by rw[hop] at hox;injection hox with hox;exact hox.symm
       have hst1:st1=⟨put st2.σ oX.dst V,st2.h⟩:=by
         have hov:=hV x hxin;unfold dQ pK mQ kE at h1;rw[hxo] at h1;simp only[hg,Op.operands,List.map_cons,List.map_nil,fK,val] at h1;injection h1 with h1;simp only[Prod.mk.injEq] at h1;rw[<- h1.1];rcases hov with hov | hov
         · simp only[hov,mA];rfl
         · simp only[hov];rfl
       obtain⟨rest,rs1,hr1,hr2⟩:=hrest
       have hA:∀ p∈args,st2.σ.getD p.1 .any=p.2:=by
         intro p hp;obtain⟨g1,g2⟩:=hargs p hp
         have hnot:∀ (j:Nat) (o:Oper),ops[j]? =some o->o.dst=some p.1->listed.getD j false=true:=by
           intro j o hj hd;obtain⟨e,e1,e2,e3⟩:=g2 j o hj hd
           have:=hed _ hop e e1 e3
           rwa [e2] at this
         have k1:st'.σ.getD p.1 .any=st1.σ.getD p.1 .any:=sZ hr1 fun q hq hd=>by
           obtain⟨q1,q2,q3⟩:=hr2 q hq
           have:=hnot q.1 q.2.o q3 hd;rw[q2] at this;cases this
         have k2:oX.dst≠some p.1:=fun hd=>by
           have:=hnot i _ hop hd;rw[hun] at this;cases this
         rw[<- g1,k1,hst1];exact(qS k2).symm
       refine wpOp_mono ?_ (hX _ β ρ2 D2 st2.σ st2.h a2 w2 hβ R2 hA);rintro a' w' ⟨β',b1,b2⟩;refine⟨ρ2,D2,⟨β', ?_,by rw[hst1];exact b2⟩,fun l hl=>.inl hl⟩;rw[if_pos (by simp[cO,hsz,hi])];exact b1
     · refine BL hsh (hne i hiX) (wpOp_mono ?_ (qR hT hK R2 hox hfresh h1 (hOr ?_)))
       · rintro a' w' ⟨ρ',D',R',hD'⟩
         refine⟨ρ',D',⟨β, ?_,R'⟩,hD'⟩;have:(listed.setIfInBounds i true).getD iX false=listed.getD iX false:=by simp[cO,hiX]
         rw[this];exact hβ
       · have:r.i=i:=by
           unfold dQ at h1
           split at h1
           · split at h1
             · injection h1 with h1;simp only[Prod.mk.injEq] at h1;rw[<- h1.2]
             · cases h1
           · injection h1 with h1;simp only[Prod.mk.injEq] at h1;rw[<- h1.2]
           · cases h1
         rw[this];exact hiX
 obtain⟨e,a',w',⟨rfl,β,ρ',D',hβ,R'⟩,harr⟩:=key b _ cs;obtain⟨v,w2,fr,h1,h2,h3⟩:=hgood β hβ ρ' D' a' w' R' b cs hb hk;exact⟨v,w2,fr,h1,Steps.trans harr h2,h3⟩
end
end Go.Av
