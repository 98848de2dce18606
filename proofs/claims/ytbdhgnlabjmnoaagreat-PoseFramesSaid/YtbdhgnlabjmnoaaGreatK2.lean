/- PoseFrames: a part of its proof. No condition. -/
import Derived.Test.YtbdhgnlabjmnoaaGreatK1
set_option linter.all false
set_option maxRecDepth 100000
set_option autoImplicit true
set_option relaxedAutoImplicit true
namespace Go.Av
open Go.Proofs Go.RowKit
def k115:KF
 | [.nat n B,.nat m C]=>some (.nat (n*m) (B+C),[B+C+128<=LIM])
 | _=>none
theorem mul_inner {A P Q x y Y:Nat}:A+P*(x*Y)+P*Q*(x*y)=A+P*(x*(Y+Q*y)):=by
 simp only[Nat.mul_add,Nat.mul_assoc,Nat.mul_comm,Nat.mul_left_comm];omega
section
variable {S:Nat->Prop} {w0:World}
noncomputable abbrev T115:List Item:=[.code (nav [1,1,0,1,0,0] (bodyOf Tryz.f115)),.inLoop (nav [1,1,0,1,0,0] (bodyOf Tryz.f115)),.inBlock 0,.code (nav [1,1,1] (bodyOf Tryz.f115))]
noncomputable abbrev T115i:List Item:=[.code (nav [1,1,0,1,0,0,1,1,0,0,1,1,0,1,0,0] (bodyOf Tryz.f115)),.inLoop (nav [1,1,0,1,0,0,1,1,0,0,1,1,0,1,0,0] (bodyOf Tryz.f115)),.inBlock 2,.code (nav [1,1,0,1,0,0,1,1,0,0,1,1,1] (bodyOf Tryz.f115)),.inBlock 1,.code (nav [1,1,0,1,0,0,1,1,1] (bodyOf Tryz.f115)),.inLoop (nav [1,1,0,1,0,0] (bodyOf Tryz.f115)),.inBlock 0,.code (nav [1,1,1] (bodyOf Tryz.f115))]
variable {Post:Value->World->Prop}
theorem inner115 {xs ys:List Nat} {m i:Nat} (hm:m=xs.length+ys.length) (hi:i<xs.length) (hx:∀ x∈xs,x<b32) (hy:∀ x∈ys,x<b32) (hbig:m+2<=LIM)
   (next:∀ ds:List Nat,ds.length=m->(∀ x∈ds,x<b32)->dval b32 ds=dval b32 (xs.take (i+1))*dval b32 ys->(∀ t,i+1+ys.length<=t->ds.getD t 0=0)->
     Good Tryz.prog 115 S No w0 Post T115 ⟨slots 67 [(1,.list 1 (d32 ys)),(5,.own 0 1 0 m),(17,.list 1 (d32 xs)),(18,(.i6 (((d32 xs).length:Nat):Int))),(19,.i6 ((i+1:Nat):Int))],[some ⟨362,1,true,(d32 ds),none⟩]⟩):
   ∀ (j k c:Nat) (ds:List Nat),j=ys.length-k->k<=ys.length->c<b32->ds.length=m->(∀ x∈ds,x<b32)->dval b32 ds+b32^(i+k)*c=dval b32 (xs.take i)*dval b32 ys+b32^i*(xs.getD i 0*dval b32 (ys.take k))->(∀ t,i+ys.length<=t->ds.getD t 0=0)->
   Good Tryz.prog 115 S No w0 Post T115i ⟨slots 67 [(1,.list 1 (d32 ys)),(5,.own 0 1 0 m),(6,.i6 ((i:Nat):Int)),(7,.int .u32 ((xs.getD i 0:Nat):Int)),(8,.int .u64 ((c:Nat):Int)),(17,.list 1 (d32 xs)),(18,(.i6 (((d32 xs).length:Nat):Int))),(19,.i6 ((i:Nat):Int)),(24,.list 1 (d32 ys)),(25,(.i6 (((d32 ys).length:Nat):Int))),(26,.i6 ((k:Nat):Int))],[some ⟨362,1,true,(d32 ds),none⟩]⟩:=by
 unfold LIM at hbig;have hx1:=getD_lt (b:=b32) (by decide) hx i;have fb:b32=4294967296:=rfl;intro j
 induction j with
 | zero=>
   intro k c ds hj hk hc hd hdl hinv hz;have hk:k=ys.length:=by omega
   subst hk;refine have_ (p:=(-9223372036854775808<=(i:Int)+((d32 ys).length:Int)/\(i:Int)+((d32 ys).length:Int)<=9223372036854775807)/\(0<=(c:Int)/\(c:Int)<=4294967295)/\(((i+(d32 ys).length:Nat):Int)<(m:Int))/\(0+(i+(d32 ys).length)<(d32 ds).length)/\(-9223372036854775808<=(i:Int)+(1:Int)/\(i:Int)+(1:Int)<=9223372036854775807)) (by rw[d32_length,d32_length];omega) fun⟨q0,q1,q2,q3,q4⟩=>gN KT115_ok [1,5,6,7,8,17,18,19,24,25,26] [(27,ff),(60,.i6 ((i+(d32 ys).length:Nat):Int)),(62,.int .u32 (c:Int)),(64,.i6 ((i+1:Nat):Int))] (.c6 (iF (show ¬ ((ys.length:Int)<((d32 ys).length:Int)) by rw[d32_length];omega)) (wI ((i:Int)+((d32 ys).length:Int)) ((i+(d32 ys).length:Nat):Int) q0) (wV (c:Int) (c:Int) q1) (nn (i+(d32 ys).length)) q2 q3 (.a1 (wI ((i:Int)+(1:Int)) ((i+1:Nat):Int) q4))) (t:=T115) (σ:=slots 67 [(1,.list 1 (d32 ys)),(5,.own 0 1 0 m),(6,.i6 (i:Int)),(7,(.int .u32 (((xs.getD i 0):Nat):Int))),(8,.int .u64 (c:Int)),(17,.list 1 (d32 xs)),(18,.i6 ((d32 xs).length:Int)),(19,.i6 ((i+1:Nat):Int)),(24,.list 1 (d32 ys)),(25,.i6 ((d32 ys).length:Int)),(26,.i6 (ys.length:Int))]) (h:=[some ⟨362,1,true,((d32 ds).set (0+(i+(d32 ys).length)) [.int .u32 (c:Int)]),none⟩]) ?_
   refine Good.weak 67 [(1,_),(5,_),(17,_),(18,_),(19,_)] (by kernel_rfl) (.r (.r (.r (.r (.r .nil))))) ?_;rw[d32_set,Nat.zero_add, @d32_length ys];rw[tkE (rl _)] at hinv;rw[fb] at hc;have h2:=dval_set (b:=b32) (xs:=ds) (j:=i+ys.length) (v:=c) (by omega);rw[hz _ (rl _),Nat.mul_zero,Nat.add_zero] at h2;refine next _ (by simp[hd]) (set_lt hdl (by rw[fb];exact hc)) ?_ (fun t ht=>by rw[getD_set_ne (by omega)];exact hz t (by omega));rw[h2,hinv,dval_take_succ,Nat.add_mul,Nat.mul_assoc]
 | succ j ih=>
   intro k c ds hj hk hc hd hdl hinv hz;have hy1:=getD_lt (b:=b32) (by decide) hy k;have ho1:=getD_lt (b:=b32) (by decide) hdl (i+k);have hm1:=mul_lt_64 hx1 hy1;have hcast:((xs.getD i 0:Nat):Int)*((ys.getD k 0:Nat):Int)=((xs.getD i 0*ys.getD k 0:Nat):Int):=by simp
   rw[fb] at hc hx1 hy1 ho1;refine have_ (p:=(k<ys.length)/\((k:Int)<((d32 ys).length:Int))/\(0<=(((xs.getD i 0):Nat):Int)/\(((xs.getD i 0):Nat):Int)<=18446744073709551615)/\(0<=(ys.getD k 0:Int)/\(ys.getD k 0:Int)<=18446744073709551615)/\(0<=(((xs.getD i 0):Nat):Int)*(ys.getD k 0:Int)/\(((xs.getD i 0):Nat):Int)*(ys.getD k 0:Int)<=18446744073709551615)/\(-9223372036854775808<=(i:Int)+(k:Int)/\(i:Int)+(k:Int)<=9223372036854775807)/\(((i+k:Nat):Int)<(m:Int))/\(0+(i+k)<ds.length)/\(0+(i+k)<(d32 ds).length)/\(0<=(ds.getD (0+(i+k)) 0:Int)/\(ds.getD (0+(i+k)) 0:Int)<=18446744073709551615)/\(0<=(((xs.getD i 0)*(ys.getD k 0):Nat):Int)+(ds.getD (0+(i+k)) 0:Int)/\(((xs.getD i 0)*(ys.getD k 0):Nat):Int)+(ds.getD (0+(i+k)) 0:Int)<=18446744073709551615)/\(0<=(c:Int)+(((xs.getD i 0)*(ys.getD k 0)+ds.getD (0+(i+k)) 0:Nat):Int)/\(c:Int)+(((xs.getD i 0)*(ys.getD k 0)+ds.getD (0+(i+k)) 0:Nat):Int)<=18446744073709551615)/\(-9223372036854775808<=(k:Int)+(1:Int)/\(k:Int)+(1:Int)<=9223372036854775807)) ?_ fun⟨q0,q1,q2,q3,q4,q5,q6,q7,q8,q9,q10,q11,q12⟩=>gN KT115_ok [1,5,6,7,8,17,18,19,24,25,26] [(27,tt),(29,.cptr [.int .u32 (ys.getD k 0:Int)] 0),(33,.int .u64 (((xs.getD i 0):Nat):Int)),(35,.int .u64 (ys.getD k 0:Int)),(36,.int .u64 (((xs.getD i 0)*(ys.getD k 0):Nat):Int)),(40,.i6 ((i+k:Nat):Int)),(42,.int .u32 (ds.getD (0+(i+k)) 0:Int)),(43,.int .u64 (ds.getD (0+(i+k)) 0:Int)),(44,.int .u64 (((xs.getD i 0)*(ys.getD k 0)+ds.getD (0+(i+k)) 0:Nat):Int)),(45,.int .u64 ((c+(xs.getD i 0)*(ys.getD k 0)+ds.getD (0+(i+k)) 0:Nat):Int)),(49,.i6 ((i+k:Nat):Int)),(51,.int .u32 (((c+(xs.getD i 0)*(ys.getD k 0)+ds.getD (0+(i+k)) 0) % 4294967296:Nat):Int)),(54,.int .u64 (((c+(xs.getD i 0)*(ys.getD k 0)+ds.getD (0+(i+k)) 0)/4294967296:Nat):Int)),(55,.i6 ((k+1:Nat):Int))] (.c6 (iT (show(k:Int)<((d32 ys).length:Int) by rw[d32_length];omega)) (Ref.cd32 q0) (nn k) q1 (wU (((xs.getD i 0):Nat):Int) (((xs.getD i 0):Nat):Int) q2) (wU (ys.getD k 0:Int) (ys.getD k 0:Int) q3) (.c6 (wU ((((xs.getD i 0):Nat):Int)*(ys.getD k 0:Int)) (((xs.getD i 0)*(ys.getD k 0):Nat):Int) q4) (wI ((i:Int)+(k:Int)) ((i+k:Nat):Int) q5) (nn (i+k)) q6 (Ref.cd32h q7) q8 (.c6 (wU (ds.getD (0+(i+k)) 0:Int) (ds.getD (0+(i+k)) 0:Int) q9) (wU ((((xs.getD i 0)*(ys.getD k 0):Nat):Int)+(ds.getD (0+(i+k)) 0:Int)) (((xs.getD i 0)*(ys.getD k 0)+ds.getD (0+(i+k)) 0:Nat):Int) q10) (wU ((c:Int)+(((xs.getD i 0)*(ys.getD k 0)+ds.getD (0+(i+k)) 0:Nat):Int)) ((c+(xs.getD i 0)*(ys.getD k 0)+ds.getD (0+(i+k)) 0:Nat):Int) q11) (wI ((i:Int)+(k:Int)) ((i+k:Nat):Int) q5) (show Ref (.int .u32 (IntKind.u32.wrap ((c+(xs.getD i 0)*(ys.getD k 0)+ds.getD (0+(i+k)) 0:Nat):Int))) (.int .u32 (((c+(xs.getD i 0)*(ys.getD k 0)+ds.getD (0+(i+k)) 0) % 4294967296:Nat):Int)) from Ref.md32 (by first | rfl | omega)) (nn (i+k)) (.a5 q6 q8 (show Ref (.int .u64 (((c+(xs.getD i 0)*(ys.getD k 0)+ds.getD (0+(i+k)) 0:Nat):Int).fdiv (2^(min (32:Int).toNat 64)))) (.int .u64 (((c+(xs.getD i 0)*(ys.getD k 0)+ds.getD (0+(i+k)) 0)/4294967296:Nat):Int)) from Ref.shrc (c:=min (Int.toNat _) _) (by rfl) (by decide)) (dc (0<=(32:Int))) (wI ((k:Int)+(1:Int)) ((k+1:Nat):Int) q12))))) (t:=T115i) (σ:=slots 67 [(1,.list 1 (d32 ys)),(5,.own 0 1 0 m),(6,.i6 (i:Int)),(7,(.int .u32 (((xs.getD i 0):Nat):Int))),(8,(.int .u64 (((c+(xs.getD i 0)*(ys.getD k 0)+ds.getD (0+(i+k)) 0)/4294967296:Nat):Int))),(17,.list 1 (d32 xs)),(18,.i6 ((d32 xs).length:Int)),(19,.i6 (i:Int)),(24,.list 1 (d32 ys)),(25,.i6 ((d32 ys).length:Int)),(26,.i6 ((k+1:Nat):Int))]) (h:=[some ⟨362,1,true,((d32 ds).set (0+(i+k)) [.int .u32 (((c+(xs.getD i 0)*(ys.getD k 0)+ds.getD (0+(i+k)) 0) % 4294967296:Nat):Int)]),none⟩]) ?_
   · simp only[d32_length,Nat.zero_add,hcast]
     omega
   · rw[d32_set]
     simp only[Nat.zero_add];refine ih _ _ _ (by omega) (by omega) (by rw[fb];omega) (by simp[hd]) (set_lt hdl (by rw[fb];omega)) ?_ (fun t ht=>by rw[getD_set_ne (by omega)];exact hz t ht);have h2:=dval_set (b:=b32) (xs:=ds) (j:=i+k) (v:=(c+xs.getD i 0*ys.getD k 0+ds.getD (i+k) 0) % 4294967296) (by omega);rw[show i+(k+1)=i+k+1 by omega,Nat.pow_succ,dval_take_succ];have h3:=step_mul (b:=b32) (V:=dval b32 ds) (c:=c) rfl h2 hinv;rw[Nat.pow_add] at h3 ⊢;exact h3.trans mul_inner
theorem outer115 {xs ys:List Nat} {m E:Nat} (hm:m=xs.length+ys.length) (hx:∀ x∈xs,x<b32) (hy:∀ x∈ys,x<b32) (hbig:m+2<=LIM) (hE:dval b32 xs*dval b32 ys<2^E):
   ∀ (j i:Nat) (ds:List Nat),j=xs.length-i->i<=xs.length->ds.length=m->(∀ x∈ds,x<b32)->dval b32 ds=dval b32 (xs.take i)*dval b32 ys->(∀ t,i+ys.length<=t->ds.getD t 0=0)->
     GF 115 S w0 (.nat (dval b32 xs*dval b32 ys) E) T115 ⟨slots 67 [(1,.list 1 (d32 ys)),(5,.own 0 1 0 m),(17,.list 1 (d32 xs)),(18,(.i6 (((d32 xs).length:Nat):Int))),(19,.i6 ((i:Nat):Int))],[some ⟨362,1,true,(d32 ds),none⟩]⟩:=by
 intro j
 induction j with
 | zero=>
   intro i ds hj hi hd hdl hinv hz;have hi:i=xs.length:=by omega
   subst hi;rw[tkE (rl _)] at hinv;obtain⟨q1,q2,q3⟩:=end262 (m:=m) hd.symm hE hinv hdl (xs:=[]) rfl;refine rF KT115_ok [(20,ff)] (.a4 (iF (show ¬ ((xs.length:Int)<((d32 xs).length:Int)) by rw[d32_length];omega)) (show 0+m<=(d32 ds).length by rw[d32_length];omega) q1 q2) (V:=.nat (dval b32 (un32 (((d32 ds).drop 0).take m))) (32*(((d32 ds).drop 0).take m).length)) q3
 | succ j ih=>
   intro i ds hj hi hd hdl hinv hz;have v0:(i:Int)<((d32 xs).length:Int):=by rw[d32_length];omega
   refine gN KT115_ok [1,4,5,6,7,8,17,18,19,24,25,26] [(20,tt),(22,.cptr [.int .u32 (xs.getD i 0:Int)] 0)] (.a4 (iT v0) (show Ref (.cptr ((d32 xs).getD i []) 0) (.cptr [.int .u32 (xs.getD i 0:Int)] 0) from Ref.cd32 ((om (i<xs.length)))) (nn i) v0) (t:=T115i) (σ:=slots 67 [(1,.list 1 (d32 ys)),(5,.own 0 1 0 m),(6,.i6 (i:Int)),(7,.int .u32 (xs.getD i 0:Int)),(8,.int .u64 (0:Int)),(17,.list 1 (d32 xs)),(18,.i6 ((d32 xs).length:Int)),(19,.i6 (i:Int)),(24,.list 1 (d32 ys)),(25,.i6 ((d32 ys).length:Int)),(26,.i6 (0:Int))]) (h:=[some ⟨362,1,true,(d32 ds),none⟩]) ?_
   refine inner115 hm (by omega) hx hy hbig (fun D e1 e2 e3 e4=>ih (i+1) D (by omega) (by omega) e1 e2 e3 e4) _ 0 0 ds rfl (by omega) (by decide) hd hdl ?_ hz;simp[dval,hinv]
theorem a115:Ctr 115 k115:=fun args r ob h ho=>by
 unfold k115 at h
 split at h
 · rename_i n B m C
   cases h;have hL:B+C+128<=LIM:=ho _ (by simp);unfold LIM at hL;obtain⟨hx,hxn⟩:=digits_spec (b:=b32) (by decide) n;obtain⟨hy,hyn⟩:=digits_spec (b:=b32) (by decide) m;refine af Tryz.f115 fun S w0=> ?_
   refine Good.natlt (n:=n) (B:=B) 0 rfl fun hn=>Good.natlt (n:=m) (B:=C) 1 rfl fun hm=> ?_
   refine Good.weak 67 [(0,.list 1 (d32 (digits b32 n))),(1,.list 1 (d32 (digits b32 m)))] (by kernel_rfl) (.cons Ref.opn (.cons Ref.opn .nil)) ?_;have l1:=hx.len (by rw[hxn];exact hn);have l2:=hy.len (by rw[hyn];exact hm);generalize digits b32 n=xs at*;generalize digits b32 m=ys at*;subst hxn;subst hyn;refine have_ (p:=(-9223372036854775808<=((d32 xs).length:Int)+((d32 ys).length:Int)/\((d32 xs).length:Int)+((d32 ys).length:Int)<=9223372036854775807)/\(4*(((d32 xs).length+(d32 ys).length:Nat):Int)<=281474976710656)/\((((d32 xs).length+(d32 ys).length:Nat):Int)<=(big:Int))) (by simp only[d32_length];unfold big;omega) fun⟨q0,q1,q2⟩=>gN KT115_ok [1,5,17,18,19] [(15,.i6 (((d32 xs).length+(d32 ys).length:Nat):Int))] (.a5 (wI ((((d32 xs).length:Nat):Int)+((d32 ys).length:Int)) (((d32 xs).length+(d32 ys).length:Nat):Int) q0) (rfl:(((d32 xs).length+(d32 ys).length:Nat):Int)=(((d32 xs).length+(d32 ys).length:Nat):Int)) (nn ((d32 xs).length+(d32 ys).length)) q1 q2) (t:=T115) (σ:=slots 67 [(1,.list 1 (d32 ys)),(5,.own 0 1 0 ((d32 xs).length+(d32 ys).length)),(17,.list 1 (d32 xs)),(18,.i6 ((d32 xs).length:Int)),(19,.i6 (0:Int))]) (h:=[some ⟨362,1,true,(List.replicate ((d32 xs).length+(d32 ys).length) [.int .u32 (0:Int)]),none⟩]) ?_
   rw[d32_rep];simp only[d32_length]
   have:=outer115 (S:=S) (w0:=w0) (xs:=xs) (ys:=ys) rfl hx.1 hy.1 (by unfold LIM;omega) (mul_lt_pow hn hm) xs.length 0 (List.replicate (xs.length+ys.length) 0) rfl (by omega) (by simp) (rep_lt (by decide)) (by simp[dval,dval_rep]) (fun t _=>getD_rep _ _);simp only[d32_length] at this;exact this
 · cases h
end
def KT272_ok:=kn
def k272:KF
 | [.list 1 X]=>some (.dig (dval b10k (un64 X)) (14*X.length),[X=d64 (un64 X),∀ x∈un64 X,x<b10k])
 | _=>none
section
variable {S:Nat->Prop} {w0:World}
noncomputable abbrev T272:List Item:=[.code (nav [1,0,0,0] (bodyOf Tryz.f272)),.inLoop (nav [1,0,0,0] (bodyOf Tryz.f272)),.inBlock 0,.code (nav [1,1] (bodyOf Tryz.f272))]
theorem loop272 {N B:Nat} (hB:N<2^B):∀ (j:Nat) (xs:List Nat),xs.length=j->(∀ x∈xs,x<b10k)->dval b10k xs=N->j<=big->
   GF 272 S w0 (.dig N B) T272 ⟨slots 21 [(0,.list 1 (d64 xs))],[]⟩:=by
 intro j
 induction j with
 | zero=>
   intro xs hl hx hN hb;refine rF KT272_ok [(6,ff)] (.a1 (iF (show ¬ ((0:Int)<((d64 xs).length:Int)) by rw[d64_length];omega))) (V:=.list 1 (d64 xs)) (Ref.dig ⟨hx, ?_⟩ hN hB)
   have:xs= []:=List.length_eq_zero_iff.1 hl;subst this;simp
 | succ k ih=>
   intro xs hl hx hN hb;unfold big at hb;have v0:Ref (.i6 (IntKind.i64.wrap ((((d64 xs).length:Nat):Int)-(1:Int)))) (.i6 (k:Int)):=by rw[d64_length];exact Ref.wrI (by omega) (by omega)
   have v1:Ref (.cptr ((d64 xs).getD k []) 0) (.cptr [.i6 (xs.getD k 0:Int)] 0):=Ref.cd64 ((om (k<xs.length)));have v2:(0:Int)<((d64 xs).length:Int):=by rw[d64_length];omega
   have v3:(k:Int)<((d64 xs).length:Int):=by rw[d64_length];omega
   by_cases h:xs.getD k 0=0
   · refine gN KT272_ok [0,2] [(6,tt),(10,.i6 (k:Int)),(11,.cptr [.i6 (xs.getD k 0:Int)] 0),(14,tt),(18,.i6 (k:Int))] (.c6 (iT v2) v0 v1 (nn k) v3 (iT (om ((xs.getD k 0:Int)=(0:Int)))) (.a3 v0 (nn k) (show(k:Int)<=((d64 xs).length:Int) by rw[d64_length];omega))) (t:=T272) (σ:=slots 21 [(0,(.list 1 (((d64 xs).take k).drop 0)))]) (h:=[]) ?_
     rw[List.drop_zero,d64_take];refine ih _ (by simp;omega) (fun x h=>hx x (List.mem_of_mem_take h)) ?_ (by unfold big;omega);have h1:=dval_take_succ b10k xs k;rw[tkE (by omega),hN,h,Nat.mul_zero] at h1;omega
   · refine rF KT272_ok [(6,tt),(10,.i6 (k:Int)),(11,.cptr [.i6 (xs.getD k 0:Int)] 0),(14,ff)] (.a6 (iT v2) v0 v1 (nn k) v3 (iF (om (¬ (((xs.getD k 0:Nat):Int)=(0:Int)))))) (V:=.list 1 (d64 xs)) (Ref.dig ⟨hx, ?_⟩ hN hB)
     rw[List.getLast?_eq_getElem?,hl,Nat.add_sub_cancel,List.getElem?_eq_getElem (by omega)];intro he;apply h;simp at he;simp[gdE,show k<xs.length by omega,he]
theorem a272:Ctr 272 k272:=fun args r ob h ho=>by
 unfold k272 at h
 split at h
 · rename_i X
   cases h;have h1:X=d64 (un64 X):=ho _ (by simp);have h2:∀ x∈un64 X,x<b10k:=ho _ (by simp);generalize un64 X=xs at h1 h2;subst h1;refine af Tryz.f272 fun S w0=> ?_
   rw[d64_length];have e:st0 [.list 1 (d64 xs)] Tryz.f272.ntmps=⟨slots 21 [(0,.list 1 (d64 xs))],[]⟩:=by kernel_rfl
   rw[e];refine Good.len 0 (e:=1) (xs:=d64 xs) (by rfl) fun hb=> ?_
   rw[d64_length] at hb;exact gN KT272_ok [0] [] .nil (loop272 (dval_lt10 h2) _ xs rfl h2 rfl hb)
 · cases h
end
def KT223_ok:=kn.cons a272
def k223:KF
 | [.dig n B,.dig m C]=>some (.dig (n*m) (B+C),[B+C+128<=LIM])
 | _=>none
theorem Ref.digB {n B C:Nat} (h:n<2^C):Ref (.dig n B) (.dig n C):=by
 intro ρ S w D v hv;have h':RelCs ρ S w D [.dig n B] [v]:=hv;cases h' with
 | dig xs h1 h2 h3 h4=>exact RelV_one (.dig xs h1 h2 h h4)
theorem Good.diglt {P:Program} {f:FuncId} {S0 C0:Nat->Prop} {w0:World} {Post:Value->World->Prop} {todo:List Item} {st:St} (t:Nat) {n B:Nat} (ht:st.σ.getD t .any= .dig n B) (hg:n<2^B->Good P f S0 C0 w0 Post todo st):Good P f S0 C0 w0 Post todo st:=
 Good.fact t ht rfl (fun ρ S w D v hv=>dig_inv (show RelCs ρ S w D [.dig n B] [v] from hv)) hg
section
variable {S:Nat->Prop} {w0:World}
noncomputable abbrev T223:List Item:=[.code (nav [1,1,0,1,0,0] (bodyOf Tryz.f223)),.inLoop (nav [1,1,0,1,0,0] (bodyOf Tryz.f223)),.inBlock 0,.code (nav [1,1,1] (bodyOf Tryz.f223))]
noncomputable abbrev T223i:List Item:=[.code (nav [1,1,0,1,0,0,1,0,0,1,1,0,0] (bodyOf Tryz.f223)),.inLoop (nav [1,1,0,1,0,0,1,0,0,1,1,0,0] (bodyOf Tryz.f223)),.inBlock 2,.inBlock 1,.code (nav [1,1,0,1,0,0,1,1] (bodyOf Tryz.f223)),.inLoop (nav [1,1,0,1,0,0] (bodyOf Tryz.f223)),.inBlock 0,.code (nav [1,1,1] (bodyOf Tryz.f223))]
variable {Post:Value->World->Prop}
theorem inner223 {xs ys:List Nat} {m i:Nat} (hm:m=xs.length+ys.length) (hi:i<xs.length) (hx:∀ x∈xs,x<b10k) (hy:∀ x∈ys,x<b10k) (hbig:m+2<=LIM)
   (next:∀ ds:List Nat,ds.length=m->(∀ x∈ds,x<b10k)->dval b10k ds=dval b10k (xs.take (i+1))*dval b10k ys->(∀ t,i+1+ys.length<=t->ds.getD t 0=0)->
     Good Tryz.prog 223 S No w0 Post T223 ⟨slots 66 [(0,.list 1 (d64 xs)),(1,.list 1 (d64 ys)),(5,.own 0 1 0 m),(6,.i6 ((i+1:Nat):Int))],[some ⟨3,1,true,(d64 ds),none⟩]⟩):
   ∀ (j k c:Nat) (ds:List Nat),j=ys.length-k->k<=ys.length->c<b10k->ds.length=m->(∀ x∈ds,x<b10k)->dval b10k ds+b10k^(i+k)*c=dval b10k (xs.take i)*dval b10k ys+b10k^i*(xs.getD i 0*dval b10k (ys.take k))->(∀ t,i+ys.length<=t->ds.getD t 0=0)->
   Good Tryz.prog 223 S No w0 Post T223i ⟨slots 66 [(0,.list 1 (d64 xs)),(1,.list 1 (d64 ys)),(5,.own 0 1 0 m),(6,.i6 ((i:Nat):Int)),(7,.i6 ((c:Nat):Int)),(8,.i6 ((k:Nat):Int))],[some ⟨3,1,true,(d64 ds),none⟩]⟩:=by
 unfold LIM at hbig;have hx1:=getD_lt (b:=b10k) (by decide) hx i;have fb:b10k=10000:=rfl
 have fin:∀ (k:Nat) (ds:List Nat),ys.length<=k->ds.length=m->(∀ x∈ds,x<b10k)->dval b10k ds=dval b10k (xs.take i)*dval b10k ys+b10k^i*(xs.getD i 0*dval b10k ys)->(∀ t,i+1+ys.length<=t->ds.getD t 0=0)->
     Good Tryz.prog 223 S No w0 Post T223i ⟨slots 66 [(0,.list 1 (d64 xs)),(1,.list 1 (d64 ys)),(5,.own 0 1 0 m),(6,.i6 ((i:Nat):Int)),(7,.i6 ((0:Nat):Int)),(8,.i6 ((k:Nat):Int))],[some ⟨3,1,true,(d64 ds),none⟩]⟩:=by
   intro k ds hk hd hdl hv hz;refine gN KT223_ok [0,1,5,6,7,8] [(26,ff),(29,ff),(21,.i6 ((i+1:Nat):Int))] (.a3 (iF (show ¬ ((k:Int)<((d64 ys).length:Int)) by rw[d64_length];omega)) (iF (om (¬ ((0:Int)<(0:Int))))) (wI ((i:Int)+(1:Int)) ((i+1:Nat):Int))) (t:=T223) (σ:=slots 66 [(0,.list 1 (d64 xs)),(1,.list 1 (d64 ys)),(5,.own 0 1 0 m),(6,.i6 ((i+1:Nat):Int)),(7,.i6 (0:Int)),(8,.i6 (k:Int))]) (h:=[some ⟨3,1,true,(d64 ds),none⟩]) ?_
   refine Good.weak 66 [(0,_),(1,_),(5,_),(6,_)] (by kernel_rfl) (.r (.r (.r (.r .nil)))) ?_;refine next ds hd hdl ?_ hz;rw[hv,dval_take_succ,Nat.add_mul,Nat.mul_assoc]
 intro j;have v0:(10000:Int)≠0:=by decide
 induction j with
 | zero=>
   intro k c ds hj hk hc hd hdl hinv hz;have hk:k=ys.length:=by omega
   subst hk;rw[tkE (rl _)] at hinv
   by_cases h0:c=0
   · subst h0
     exact fin _ ds (rl _) hd hdl (by rw[Nat.mul_zero,Nat.add_zero] at hinv;exact hinv) (fun t ht=>hz t (by omega))
   · have ho:ds.getD (i+ys.length) 0=0:=hz _ (rl _)
     rw[fb] at hc;have v1:¬ ((ys.length:Int)<((d64 ys).length:Int)):=by rw[d64_length];omega
     refine have_ (p:=(-9223372036854775808<=(i:Int)+(ys.length:Int)/\(i:Int)+(ys.length:Int)<=9223372036854775807)/\(((i+ys.length:Nat):Int)<(m:Int))/\(0+(i+ys.length)<ds.length)/\(0+(i+ys.length)<(d64 ds).length)/\(-9223372036854775808<=(ds.getD (0+(i+ys.length)) 0:Int)+(c:Int)/\(ds.getD (0+(i+ys.length)) 0:Int)+(c:Int)<=9223372036854775807)/\(((ds.getD (0+(i+ys.length)) 0+c:Nat):Int)<=9223372036854775807)/\(-9223372036854775808<=(ys.length:Int)+(1:Int)/\(ys.length:Int)+(1:Int)<=9223372036854775807)) ?_ fun⟨q0,q1,q2,q3,q4,q5,q6⟩=>gN KT223_ok [0,1,5,6,7,8] [(26,ff),(29,tt),(35,.i6 ((i+ys.length:Nat):Int)),(37,.i6 (ds.getD (0+(i+ys.length)) 0:Int)),(39,.i6 ((ds.getD (0+(i+ys.length)) 0+c:Nat):Int)),(43,ff),(58,.i6 ((i+ys.length:Nat):Int)),(60,.i6 (((ds.getD (0+(i+ys.length)) 0+c) % 10000:Nat):Int)),(63,.i6 (((ds.getD (0+(i+ys.length)) 0+c)/10000:Nat):Int)),(31,.i6 ((ys.length+1:Nat):Int))] (.c6 (iF v1) (iT (om ((0:Int)<(c:Int)))) (wI ((i:Int)+(ys.length:Int)) ((i+ys.length:Nat):Int) q0) (nn (i+ys.length)) q1 (Ref.cd64h q2) (.c6 q3 (wI (((ds.getD (0+(i+ys.length)) 0:Nat):Int)+(c:Int)) ((ds.getD (0+(i+ys.length)) 0+c:Nat):Int) q4) (iF v1) (wI ((i:Int)+(ys.length:Int)) ((i+ys.length:Nat):Int) q0) (show Ref (.i6 (((ds.getD (0+(i+ys.length)) 0+c:Nat):Int).tmod (10000:Int))) (.i6 (((ds.getD (0+(i+ys.length)) 0+c) % 10000:Nat):Int)) from Ref.rem (a:=ds.getD (0+(i+ys.length)) 0+c) (b:=10000) rfl rfl) v0 (.a6 (nn (i+ys.length)) q1 q3 (show Ref (.i6 (IntKind.i64.wrap (((ds.getD (0+(i+ys.length)) 0+c:Nat):Int).tdiv (10000:Int)))) (.i6 (((ds.getD (0+(i+ys.length)) 0+c)/10000:Nat):Int)) from Ref.quo (a:=ds.getD (0+(i+ys.length)) 0+c) (b:=10000) rfl rfl (by decide) q5) v0 (wI ((ys.length:Int)+(1:Int)) ((ys.length+1:Nat):Int) q6)))) (t:=T223i) (σ:=slots 66 [(0,.list 1 (d64 xs)),(1,.list 1 (d64 ys)),(5,.own 0 1 0 m),(6,.i6 (i:Int)),(7,(.i6 (((ds.getD (0+(i+ys.length)) 0+c)/10000:Nat):Int))),(8,.i6 ((ys.length+1:Nat):Int))]) (h:=[some ⟨3,1,true,((d64 ds).set (0+(i+ys.length)) [.i6 (((ds.getD (0+(i+ys.length)) 0+c) % 10000:Nat):Int)]),none⟩]) ?_
     · simp only[Nat.zero_add,ho,d64_length];omega
     · simp only[Nat.zero_add,ho]
       rw[d64_set,Nat.mod_eq_of_lt hc,Nat.div_eq_of_lt hc];have h2:=dval_set (b:=b10k) (xs:=ds) (j:=i+ys.length) (v:=c) (by omega);rw[ho,Nat.mul_zero,Nat.add_zero] at h2;exact fin _ _ (by omega) (by simp[hd]) (set_lt hdl (by rw[fb];exact hc)) (by rw[h2,hinv]) (fun t ht=>by rw[getD_set_ne (by omega)];exact hz t (by omega))
 | succ j ih=>
   intro k c ds hj hk hc hd hdl hinv hz;have hy1:=getD_lt (b:=b10k) (by decide) hy k;have ho1:=getD_lt (b:=b10k) (by decide) hdl (i+k);have hcast:((xs.getD i 0:Nat):Int)*((ys.getD k 0:Nat):Int)=((xs.getD i 0*ys.getD k 0:Nat):Int):=by simp
   rw[fb] at hc hx1 hy1 ho1;have hm1:xs.getD i 0*ys.getD k 0<=9999*9999:=Nat.mul_le_mul (by omega) (by omega);have v2:(k:Int)<((d64 ys).length:Int):=by rw[d64_length];omega
   refine have_ (p:=(-9223372036854775808<=(i:Int)+(k:Int)/\(i:Int)+(k:Int)<=9223372036854775807)/\(((i+k:Nat):Int)<(m:Int))/\(0+(i+k)<ds.length)/\(0+(i+k)<(d64 ds).length)/\(-9223372036854775808<=(ds.getD (0+(i+k)) 0:Int)+(c:Int)/\(ds.getD (0+(i+k)) 0:Int)+(c:Int)<=9223372036854775807)/\(i<xs.length)/\((i:Int)<((d64 xs).length:Int))/\(k<ys.length)/\((k:Int)<((d64 ys).length:Int))/\(-9223372036854775808<=(xs.getD i 0:Int)*(ys.getD k 0:Int)/\(xs.getD i 0:Int)*(ys.getD k 0:Int)<=9223372036854775807)/\(-9223372036854775808<=((ds.getD (0+(i+k)) 0+c:Nat):Int)+(((xs.getD i 0)*(ys.getD k 0):Nat):Int)/\((ds.getD (0+(i+k)) 0+c:Nat):Int)+(((xs.getD i 0)*(ys.getD k 0):Nat):Int)<=9223372036854775807)/\(((ds.getD (0+(i+k)) 0+c+(xs.getD i 0)*(ys.getD k 0):Nat):Int)<=9223372036854775807)/\(-9223372036854775808<=(k:Int)+(1:Int)/\(k:Int)+(1:Int)<=9223372036854775807)) ?_ fun⟨q0,q1,q2,q3,q4,q5,q6,q7,q8,q9,q10,q11,q12⟩=>gN KT223_ok [0,1,5,6,7,8] [(26,tt),(35,.i6 ((i+k:Nat):Int)),(37,.i6 (ds.getD (0+(i+k)) 0:Int)),(39,.i6 ((ds.getD (0+(i+k)) 0+c:Nat):Int)),(43,tt),(47,.cptr [.i6 (xs.getD i 0:Int)] 0),(51,.cptr [.i6 (ys.getD k 0:Int)] 0),(53,.i6 (((xs.getD i 0)*(ys.getD k 0):Nat):Int)),(54,.i6 ((ds.getD (0+(i+k)) 0+c+(xs.getD i 0)*(ys.getD k 0):Nat):Int)),(58,.i6 ((i+k:Nat):Int)),(60,.i6 (((ds.getD (0+(i+k)) 0+c+(xs.getD i 0)*(ys.getD k 0)) % 10000:Nat):Int)),(63,.i6 (((ds.getD (0+(i+k)) 0+c+(xs.getD i 0)*(ys.getD k 0))/10000:Nat):Int)),(31,.i6 ((k+1:Nat):Int))] (.c6 (iT v2) (wI ((i:Int)+(k:Int)) ((i+k:Nat):Int) q0) (nn (i+k)) q1 (Ref.cd64h q2) q3 (.c6 (wI (((ds.getD (0+(i+k)) 0:Nat):Int)+(c:Int)) ((ds.getD (0+(i+k)) 0+c:Nat):Int) q4) (iT v2) (Ref.cd64 q5) (nn i) q6 (Ref.cd64 q7) (.c6 (nn k) q8 (wI (((xs.getD i 0:Nat):Int)*(ys.getD k 0:Int)) (((xs.getD i 0)*(ys.getD k 0):Nat):Int) q9) (wI (((ds.getD (0+(i+k)) 0+c:Nat):Int)+(((xs.getD i 0)*(ys.getD k 0):Nat):Int)) ((ds.getD (0+(i+k)) 0+c+(xs.getD i 0)*(ys.getD k 0):Nat):Int) q10) (wI ((i:Int)+(k:Int)) ((i+k:Nat):Int) q0) (show Ref (.i6 (((ds.getD (0+(i+k)) 0+c+(xs.getD i 0)*(ys.getD k 0):Nat):Int).tmod (10000:Int))) (.i6 (((ds.getD (0+(i+k)) 0+c+(xs.getD i 0)*(ys.getD k 0)) % 10000:Nat):Int)) from Ref.rem (a:=ds.getD (0+(i+k)) 0+c+(xs.getD i 0)*(ys.getD k 0)) (b:=10000) rfl rfl) (.c6 v0 (nn (i+k)) q1 q3 (show Ref (.i6 (IntKind.i64.wrap (((ds.getD (0+(i+k)) 0+c+(xs.getD i 0)*(ys.getD k 0):Nat):Int).tdiv (10000:Int)))) (.i6 (((ds.getD (0+(i+k)) 0+c+(xs.getD i 0)*(ys.getD k 0))/10000:Nat):Int)) from Ref.quo (a:=ds.getD (0+(i+k)) 0+c+(xs.getD i 0)*(ys.getD k 0)) (b:=10000) rfl rfl (by decide) q11) v0 (.a1 (wI ((k:Int)+(1:Int)) ((k+1:Nat):Int) q12)))))) (t:=T223i) (σ:=slots 66 [(0,.list 1 (d64 xs)),(1,.list 1 (d64 ys)),(5,.own 0 1 0 m),(6,.i6 (i:Int)),(7,(.i6 (((ds.getD (0+(i+k)) 0+c+(xs.getD i 0)*(ys.getD k 0))/10000:Nat):Int))),(8,.i6 ((k+1:Nat):Int))]) (h:=[some ⟨3,1,true,((d64 ds).set (0+(i+k)) [.i6 (((ds.getD (0+(i+k)) 0+c+(xs.getD i 0)*(ys.getD k 0)) % 10000:Nat):Int)]),none⟩]) ?_
   · simp only[d64_length,Nat.zero_add,hcast]
     omega
   · rw[d64_set]
     simp only[Nat.zero_add];refine ih _ _ _ (by omega) (by omega) (by rw[fb];omega) (by simp[hd]) (set_lt hdl (by rw[fb];omega)) ?_ (fun t ht=>by rw[getD_set_ne (by omega)];exact hz t ht);have h2:=dval_set (b:=b10k) (xs:=ds) (j:=i+k) (v:=(ds.getD (i+k) 0+c+xs.getD i 0*ys.getD k 0) % 10000) (by omega);rw[show i+(k+1)=i+k+1 by omega,Nat.pow_succ,dval_take_succ];have h3:=step_mul (b:=b10k) (V:=dval b10k ds) (c:=c) (xy:=xs.getD i 0*ys.getD k 0) (o:=ds.getD (i+k) 0) (t:=ds.getD (i+k) 0+c+xs.getD i 0*ys.getD k 0) (by omega) h2 hinv;rw[Nat.pow_add] at h3 ⊢;exact h3.trans mul_inner
theorem outer223 {xs ys:List Nat} {m E:Nat} (hm:m=xs.length+ys.length) (hx:∀ x∈xs,x<b10k) (hy:∀ x∈ys,x<b10k) (hbig:m+2<=LIM) (hE:dval b10k xs*dval b10k ys<2^E):
   ∀ (j i:Nat) (ds:List Nat),j=xs.length-i->i<=xs.length->ds.length=m->(∀ x∈ds,x<b10k)->dval b10k ds=dval b10k (xs.take i)*dval b10k ys->(∀ t,i+ys.length<=t->ds.getD t 0=0)->
     GF 223 S w0 (.dig (dval b10k xs*dval b10k ys) E) T223 ⟨slots 66 [(0,.list 1 (d64 xs)),(1,.list 1 (d64 ys)),(5,.own 0 1 0 m),(6,.i6 ((i:Nat):Int))],[some ⟨3,1,true,(d64 ds),none⟩]⟩:=by
 intro j
 induction j with
 | zero=>
   intro i ds hj hi hd hdl hinv hz;have hi:i=xs.length:=by omega
   subst hi;rw[tkE (rl _)] at hinv;have e0:((d64 ds).drop 0).take m=d64 ds:=by rw[List.drop_zero,tkE (by rw[d64_length];omega)]
   refine rF KT223_ok [(19,ff)] (.a4 (iF (show ¬ ((xs.length:Int)<((d64 xs).length:Int)) by rw[d64_length];omega)) (show 0+m<=(d64 ds).length by rw[d64_length];omega) (show(((d64 ds).drop 0).take m)=d64 (un64 (((d64 ds).drop 0).take m)) by rw[e0,un64_d64]) (show ∀ x∈un64 (((d64 ds).drop 0).take m),x<b10k by rw[e0,un64_d64];exact hdl)) (V:=.dig (dval b10k (un64 (((d64 ds).drop 0).take m))) (14*(((d64 ds).drop 0).take m).length)) ?_
   show Ref (.dig (dval b10k (un64 (((d64 ds).drop 0).take m))) _) _;rw[e0,un64_d64,hinv];exact Ref.digB hE
 | succ j ih=>
   intro i ds hj hi hd hdl hinv hz;exact gN KT223_ok [0,1,4,5,6,7,8] [(19,tt)] (.a1 (iT (show(i:Int)<((d64 xs).length:Int) by rw[d64_length];omega))) (inner223 hm (by omega) hx hy hbig (fun D e1 e2 e3 e4=>ih (i+1) D (by omega) (by omega) e1 e2 e3 e4) _ 0 0 ds rfl (by omega) (by decide) hd hdl (by simp[dval,hinv]) hz)
theorem a223:Ctr 223 k223:=fun args r ob h ho=>by
 unfold k223 at h
 split at h
 · rename_i n B m C
   cases h;have hL:B+C+128<=LIM:=ho _ (by simp);unfold LIM at hL;obtain⟨hx,hxn⟩:=digits_spec (b:=b10k) (by decide) n;obtain⟨hy,hyn⟩:=digits_spec (b:=b10k) (by decide) m;refine af Tryz.f223 fun S w0=> ?_
   refine Good.diglt (n:=n) (B:=B) 0 rfl fun hn=>Good.diglt (n:=m) (B:=C) 1 rfl fun hm=> ?_
   refine Good.weak 66 [(0,.list 1 (d64 (digits b10k n))),(1,.list 1 (d64 (digits b10k m)))] (by kernel_rfl) (.cons Ref.opnd (.cons Ref.opnd .nil)) ?_;have l1:=hx.len10 (by rw[hxn];exact hn);have l2:=hy.len10 (by rw[hyn];exact hm);generalize digits b10k n=xs at*;generalize digits b10k m=ys at*;subst hxn;subst hyn;refine have_ (p:=(-9223372036854775808<=((d64 xs).length:Int)+((d64 ys).length:Int)/\((d64 xs).length:Int)+((d64 ys).length:Int)<=9223372036854775807)/\(8*(((d64 xs).length+(d64 ys).length:Nat):Int)<=281474976710656)/\((((d64 xs).length+(d64 ys).length:Nat):Int)<=(big:Int))) (by simp only[d64_length];unfold big;omega) fun⟨q0,q1,q2⟩=>gN KT223_ok [0,1,4,5,6] [(14,.i6 (((d64 xs).length+(d64 ys).length:Nat):Int))] (.a5 (wI ((((d64 xs).length:Nat):Int)+((d64 ys).length:Int)) (((d64 xs).length+(d64 ys).length:Nat):Int) q0) (rfl:(((d64 xs).length+(d64 ys).length:Nat):Int)=(((d64 xs).length+(d64 ys).length:Nat):Int)) (nn ((d64 xs).length+(d64 ys).length)) q1 q2) (t:=T223) (σ:=slots 66 [(0,.list 1 (d64 xs)),(1,.list 1 (d64 ys)),(4,.nil),(5,.own 0 1 0 ((d64 xs).length+(d64 ys).length)),(6,.i6 (0:Int))]) (h:=[some ⟨3,1,true,(List.replicate ((d64 xs).length+(d64 ys).length) [.i6 (0:Int)]),none⟩]) ?_
   rw[d64_rep];simp only[d64_length];refine Good.weak 66 [(0,_),(1,_),(5,_),(6,_)] (by kernel_rfl) (.r (.r (.r (.r .nil)))) ?_;exact outer223 rfl hx.1 hy.1 (by unfold LIM;omega) (mul_lt_pow hn hm) xs.length 0 (List.replicate (xs.length+ys.length) 0) rfl (by omega) (by simp) (rep_lt (by decide)) (by simp[dval,dval_rep]) (fun t _=>getD_rep _ _)
 · cases h
end
def KT293_ok:=kn.cons a272
def k293:KF
 | [.dig n B,.dig m C]=>some (.dig (n-m) B,[m<=n,B<=LIM])
 | _=>none
section
variable {S:Nat->Prop} {w0:World}
noncomputable abbrev T293:List Item:=[.code (nav [1,1,1,0,1,0,0] (bodyOf Tryz.f293)),.inLoop (nav [1,1,1,0,1,0,0] (bodyOf Tryz.f293)),.inBlock 0,.code (nav [1,1,1,1] (bodyOf Tryz.f293))]
theorem loop293 {xs ys:List Nat} {N B:Nat} (hx:∀ x∈xs,x<b10k) (hy:∀ x∈ys,x<b10k) (hl:ys.length<=xs.length) (hbig:xs.length+2<=LIM)
   (hN:dval b10k xs=dval b10k ys+N) (hB:N<2^B):∀ (j i c:Nat) (ds:List Nat),j=xs.length-i->i<=xs.length->c<=1->ds.length=i->(∀ x∈ds,x<b10k)->
   dval b10k ds+dval b10k (ys.take i)=dval b10k (xs.take i)+b10k^i*c->
   GF 293 S w0 (.dig N B) T293 ⟨slots 41 [(0,.list 1 (d64 xs)),(1,.list 1 (d64 ys)),(5,outS ds),(6,.i6 ((c:Nat):Int)),(7,.i6 ((i:Nat):Int))],outH ds⟩:=by
 have fb:b10k=10000:=rfl;unfold LIM at hbig;intro j
 induction j with
 | zero=>
   intro i c ds hj hi hc hd hdl hinv;have hi:i=xs.length:=by omega
   subst hi;have hlt:dval b10k ds<b10k^xs.length:=by rw[<- hd];exact dval_lt (by decide) hdl
   rw[tkE hl,tkE (rl _)] at hinv
   have hc0:c=0:=by
     rcases Nat.eq_zero_or_pos c with h | h
     · exact h
     · have:b10k^xs.length*1<=b10k^xs.length*c:=Nat.mul_le_mul_left _ h
       omega
   subst hc0;have hv:dval b10k ds=N:=by omega
   have v5:¬ ((xs.length:Int)<((d64 xs).length:Int)):=by rw[d64_length];omega
   cases ds with
   | nil=>
     refine rF KT293_ok [(12,ff),(39,.list 1 (d64 []))] (.a4 (iF v5) (show Ref AV.nil (.list 1 (d64 [])) from Ref.nilL) (rfl:(d64 [])=d64 (un64 (d64 []))) (show ∀ x∈un64 (d64 []),x<b10k by simp[un64,d64])) (V:=.dig (dval b10k (un64 (d64 []))) (14*(d64 []).length)) ?_
     exact Ref.dig_of hv (by simp[d64])
   | cons d ds=>
     have e0:((d64 (d::ds)).drop 0).take (ds.length+1)=d64 (d::ds):=by rw[List.drop_zero,tkE (by rw[d64_length];simp)]
     refine rF KT293_ok [(12,ff)] (.a4 (iF v5) (show 0+(ds.length+1)<=(d64 (d::ds)).length by rw[d64_length];simp) (show(((d64 (d::ds)).drop 0).take (ds.length+1))=d64 (un64 (((d64 (d::ds)).drop 0).take (ds.length+1))) by rw[e0,un64_d64]) (show ∀ x∈un64 (((d64 (d::ds)).drop 0).take (ds.length+1)),x<b10k by rw[e0,un64_d64];exact hdl)) (V:=.dig (dval b10k (un64 (((d64 (d::ds)).drop 0).take (ds.length+1)))) (14*(((d64 (d::ds)).drop 0).take (ds.length+1)).length)) ?_
     show Ref (.dig (dval b10k (un64 (((d64 (d::ds)).drop 0).take (ds.length+1)))) _) _;rw[e0,un64_d64,hv];intro ρ S w D v h;have h':RelCs ρ S w D [.dig N _] [v]:=h;cases h' with
     | dig xs h1 h2 h3 h4=>exact RelV_one (.dig xs h1 h2 hB h4)
 | succ j ih=>
   intro i c ds hj hi hc hd hdl hinv;have hx1:=getD_lt (b:=b10k) (by decide) hx i;have hy1:=getD_lt (b:=b10k) (by decide) hy i;rw[fb] at hx1 hy1
   have nx:∀ (v c' y:Nat),y=ys.getD i 0->v<10000->c'<=1->v+y+c=xs.getD i 0+b10k*c'->
       GF 293 S w0 (.dig N B) T293 ⟨slots 41 [(0,.list 1 (d64 xs)),(1,.list 1 (d64 ys)),(5,.own 0 1 0 (ds.length+1)),(6,.i6 ((c':Nat):Int)),(7,.i6 ((i+1:Nat):Int))],[some ⟨3,1,true,(d64 (ds++ [v])),none⟩]⟩:=by
     intro v c' y hyy hv hc' he
     have:=ih (i+1) c' (ds++ [v]) (by omega) (by omega) hc' (by simp[hd]) (snoc_lt hdl hv) (by
       rw[dval_snoc,hd,dval_take_succ,dval_take_succ b10k xs,Nat.pow_succ, <- hyy]
       exact step_sub he hinv)
     rw[outS_snoc,outH_snoc] at this;exact this
   have E:∀ (e:Int) (v:Nat),e=((v:Nat):Int)->(d64 ds)++ [[(AV.int .i64 e)]]=d64 (ds++ [v]):=fun e v h=>by rw[h];exact d64_snoc ds v
   have E0:ds= []->∀ (e:Int) (v:Nat),e=((v:Nat):Int)-> [[(AV.int .i64 e)]]=d64 (ds++ [v]):=fun h0 e v h=>by rw[h,h0];rfl
   have v0:(i:Int)<((d64 xs).length:Int):=by rw[d64_length];omega
   have v8:0<1:=by decide
   by_cases hyl:i<ys.length
   · have v2:(i:Int)<((d64 ys).length:Int):=by rw[d64_length];omega
     by_cases hneg:xs.getD i 0<c+ys.getD i 0
     · have hN2:=nx (xs.getD i 0+10000-c-ys.getD i 0) 1 _ rfl (by omega) (by omega) (by rw[fb];omega)
       have v4:(((xs.getD i 0:Int)-(c:Int))-(ys.getD i 0:Int))<(0:Int):=by omega
       cases ds with
       | nil=>
         refine have_ (p:=(i<xs.length)/\((i:Int)<((d64 xs).length:Int))/\(-9223372036854775808<=(xs.getD i 0:Int)-(c:Int)/\(xs.getD i 0:Int)-(c:Int)<=9223372036854775807)/\(i<ys.length)/\((i:Int)<((d64 ys).length:Int))/\(-9223372036854775808<=(((xs.getD i 0:Nat):Int)-(c:Int))-(ys.getD i 0:Int)/\(((xs.getD i 0:Nat):Int)-(c:Int))-(ys.getD i 0:Int)<=9223372036854775807)/\(-9223372036854775808<=(((xs.getD i 0:Int)-(c:Int))-(ys.getD i 0:Int))+(10000:Int)/\(((xs.getD i 0:Int)-(c:Int))-(ys.getD i 0:Int))+(10000:Int)<=9223372036854775807)/\(1*8<=140737488355328)/\(1<=big)/\(-9223372036854775808<=(i:Int)+(1:Int)/\(i:Int)+(1:Int)<=9223372036854775807)) (by simp only[d64_length];unfold big;omega) fun⟨q0,q1,q2,q3,q4,q5,q6,q7,q8,q9⟩=>gR KT293_ok none [0,1,4,5,6,7] [1] [(12,tt),(17,.cptr [.i6 (xs.getD i 0:Int)] 0),(20,.i6 (((xs.getD i 0:Nat):Int)-(c:Int))),(24,tt),(28,.cptr [.i6 (ys.getD i 0:Int)] 0),(30,.i6 (((xs.getD i 0:Int)-(c:Int))-(ys.getD i 0:Int))),(32,tt),(34,.i6 (((((xs.getD i 0:Nat):Int)-(c:Int))-(ys.getD i 0:Int))+(10000:Int))),(14,.i6 ((i+1:Nat):Int))] (.c6 (iT v0) (Ref.cd64 q0) (nn i) q1 (wI (((xs.getD i 0:Nat):Int)-(c:Int)) (((xs.getD i 0:Nat):Int)-(c:Int)) q2) (iT v2) (.c6 (Ref.cd64 q3) (nn i) q4 (wI (((xs.getD i 0:Int)-(c:Int))-(ys.getD i 0:Int)) (((xs.getD i 0:Int)-(c:Int))-(ys.getD i 0:Int)) q5) (iT v4) (wI (((((xs.getD i 0:Nat):Int)-(c:Int))-(ys.getD i 0:Int))+(10000:Int)) (((((xs.getD i 0:Nat):Int)-(c:Int))-(ys.getD i 0:Int))+(10000:Int)) q6) (.a5 r1 v8 q7 q8 (wI ((i:Int)+(1:Int)) ((i+1:Nat):Int) q9)))) (t:=T293) (σ:=slots 41 [(0,.list 1 (d64 xs)),(1,.list 1 (d64 ys)),(5,.own 0 1 0 1),(6,.i6 (1:Int)),(7,.i6 ((i+1:Nat):Int))]) (h:=[some ⟨3,1,true,[[.i6 (((((xs.getD i 0:Nat):Int)-(c:Int))-(ys.getD i 0:Int))+(10000:Int))]],none⟩]) ?_
         rw[E0 rfl _ (xs.getD i 0+10000-c-ys.getD i 0) (by omega)];exact hN2
       | cons d ds=>
         refine have_ (p:=(i<xs.length)/\((i:Int)<((d64 xs).length:Int))/\(-9223372036854775808<=(xs.getD i 0:Int)-(c:Int)/\(xs.getD i 0:Int)-(c:Int)<=9223372036854775807)/\(i<ys.length)/\((i:Int)<((d64 ys).length:Int))/\(-9223372036854775808<=(((xs.getD i 0:Nat):Int)-(c:Int))-(ys.getD i 0:Int)/\(((xs.getD i 0:Nat):Int)-(c:Int))-(ys.getD i 0:Int)<=9223372036854775807)/\(-9223372036854775808<=(((xs.getD i 0:Int)-(c:Int))-(ys.getD i 0:Int))+(10000:Int)/\(((xs.getD i 0:Int)-(c:Int))-(ys.getD i 0:Int))+(10000:Int)<=9223372036854775807)/\((ds.length+1)=(d64 (d::ds)).length)/\(((ds.length+1)+1)*8<=140737488355328)/\((ds.length+1)+1<=big)/\(-9223372036854775808<=(i:Int)+(1:Int)/\(i:Int)+(1:Int)<=9223372036854775807)) (by simp only[d64_length,List.length_cons,true_and] at hd ⊢;unfold big;omega) fun⟨q0,q1,q2,q3,q4,q5,q6,q7,q8,q9,q10⟩=>gR KT293_ok none [0,1,4,5,6,7] [2] [(12,tt),(17,.cptr [.i6 (xs.getD i 0:Int)] 0),(20,.i6 (((xs.getD i 0:Nat):Int)-(c:Int))),(24,tt),(28,.cptr [.i6 (ys.getD i 0:Int)] 0),(30,.i6 (((xs.getD i 0:Int)-(c:Int))-(ys.getD i 0:Int))),(32,tt),(34,.i6 (((((xs.getD i 0:Nat):Int)-(c:Int))-(ys.getD i 0:Int))+(10000:Int))),(14,.i6 ((i+1:Nat):Int))] (.c6 (iT v0) (Ref.cd64 q0) (nn i) q1 (wI (((xs.getD i 0:Nat):Int)-(c:Int)) (((xs.getD i 0:Nat):Int)-(c:Int)) q2) (iT v2) (.c6 (Ref.cd64 q3) (nn i) q4 (wI (((xs.getD i 0:Int)-(c:Int))-(ys.getD i 0:Int)) (((xs.getD i 0:Int)-(c:Int))-(ys.getD i 0:Int)) q5) (iT v4) (wI (((((xs.getD i 0:Nat):Int)-(c:Int))-(ys.getD i 0:Int))+(10000:Int)) (((((xs.getD i 0:Nat):Int)-(c:Int))-(ys.getD i 0:Int))+(10000:Int)) q6) (.a5 r1 q7 q8 q9 (wI ((i:Int)+(1:Int)) ((i+1:Nat):Int) q10)))) (t:=T293) (σ:=slots 41 [(0,.list 1 (d64 xs)),(1,.list 1 (d64 ys)),(5,.own 0 1 0 ((ds.length+1)+1)),(6,.i6 (1:Int)),(7,.i6 ((i+1:Nat):Int))]) (h:=[some ⟨3,1,true,((d64 (d::ds))++ [[(AV.int .i64 (((((xs.getD i 0:Nat):Int)-(c:Int))-(ys.getD i 0:Int))+(10000:Int)))]]),none⟩]) ?_
         rw[E _ (xs.getD i 0+10000-c-ys.getD i 0) (by omega)];exact hN2
     · have hN2:=nx (xs.getD i 0-c-ys.getD i 0) 0 _ rfl (by omega) (by omega) (by rw[fb];omega)
       have v3:¬ (((((xs.getD i 0:Nat):Int)-(c:Int))-(ys.getD i 0:Int))<(0:Int)):=by omega
       cases ds with
       | nil=>
         refine have_ (p:=(i<xs.length)/\((i:Int)<((d64 xs).length:Int))/\(-9223372036854775808<=(xs.getD i 0:Int)-(c:Int)/\(xs.getD i 0:Int)-(c:Int)<=9223372036854775807)/\(i<ys.length)/\((i:Int)<((d64 ys).length:Int))/\(-9223372036854775808<=(((xs.getD i 0:Nat):Int)-(c:Int))-(ys.getD i 0:Int)/\(((xs.getD i 0:Nat):Int)-(c:Int))-(ys.getD i 0:Int)<=9223372036854775807)/\(1*8<=140737488355328)/\(1<=big)/\(-9223372036854775808<=(i:Int)+(1:Int)/\(i:Int)+(1:Int)<=9223372036854775807)) (by simp only[d64_length];unfold big;omega) fun⟨q0,q1,q2,q3,q4,q5,q6,q7,q8⟩=>gR KT293_ok none [0,1,4,5,6,7] [1] [(12,tt),(17,.cptr [.i6 (xs.getD i 0:Int)] 0),(20,.i6 (((xs.getD i 0:Nat):Int)-(c:Int))),(24,tt),(28,.cptr [.i6 (ys.getD i 0:Int)] 0),(30,.i6 (((xs.getD i 0:Int)-(c:Int))-(ys.getD i 0:Int))),(32,ff),(14,.i6 ((i+1:Nat):Int))] (.c6 (iT v0) (Ref.cd64 q0) (nn i) q1 (wI (((xs.getD i 0:Nat):Int)-(c:Int)) (((xs.getD i 0:Nat):Int)-(c:Int)) q2) (iT v2) (.c6 (Ref.cd64 q3) (nn i) q4 (wI (((xs.getD i 0:Int)-(c:Int))-(ys.getD i 0:Int)) (((xs.getD i 0:Int)-(c:Int))-(ys.getD i 0:Int)) q5) (iF v3) r1 (.a4 v8 q6 q7 (wI ((i:Int)+(1:Int)) ((i+1:Nat):Int) q8)))) (t:=T293) (σ:=slots 41 [(0,.list 1 (d64 xs)),(1,.list 1 (d64 ys)),(5,.own 0 1 0 1),(6,.i6 (0:Int)),(7,.i6 ((i+1:Nat):Int))]) (h:=[some ⟨3,1,true,[[.i6 (((xs.getD i 0:Int)-(c:Int))-(ys.getD i 0:Int))]],none⟩]) ?_
         rw[E0 rfl _ (xs.getD i 0-c-ys.getD i 0) (by omega)];exact hN2
       | cons d ds=>
         refine have_ (p:=(i<xs.length)/\((i:Int)<((d64 xs).length:Int))/\(-9223372036854775808<=(xs.getD i 0:Int)-(c:Int)/\(xs.getD i 0:Int)-(c:Int)<=9223372036854775807)/\(i<ys.length)/\((i:Int)<((d64 ys).length:Int))/\(-9223372036854775808<=(((xs.getD i 0:Nat):Int)-(c:Int))-(ys.getD i 0:Int)/\(((xs.getD i 0:Nat):Int)-(c:Int))-(ys.getD i 0:Int)<=9223372036854775807)/\((ds.length+1)=(d64 (d::ds)).length)/\(((ds.length+1)+1)*8<=140737488355328)/\((ds.length+1)+1<=big)/\(-9223372036854775808<=(i:Int)+(1:Int)/\(i:Int)+(1:Int)<=9223372036854775807)) (by simp only[d64_length,List.length_cons,true_and] at hd ⊢;unfold big;omega) fun⟨q0,q1,q2,q3,q4,q5,q6,q7,q8,q9⟩=>gR KT293_ok none [0,1,4,5,6,7] [2] [(12,tt),(17,.cptr [.i6 (xs.getD i 0:Int)] 0),(20,.i6 (((xs.getD i 0:Nat):Int)-(c:Int))),(24,tt),(28,.cptr [.i6 (ys.getD i 0:Int)] 0),(30,.i6 (((xs.getD i 0:Int)-(c:Int))-(ys.getD i 0:Int))),(32,ff),(14,.i6 ((i+1:Nat):Int))] (.c6 (iT v0) (Ref.cd64 q0) (nn i) q1 (wI (((xs.getD i 0:Nat):Int)-(c:Int)) (((xs.getD i 0:Nat):Int)-(c:Int)) q2) (iT v2) (.c6 (Ref.cd64 q3) (nn i) q4 (wI (((xs.getD i 0:Int)-(c:Int))-(ys.getD i 0:Int)) (((xs.getD i 0:Int)-(c:Int))-(ys.getD i 0:Int)) q5) (iF v3) r1 (.a4 q6 q7 q8 (wI ((i:Int)+(1:Int)) ((i+1:Nat):Int) q9)))) (t:=T293) (σ:=slots 41 [(0,.list 1 (d64 xs)),(1,.list 1 (d64 ys)),(5,.own 0 1 0 ((ds.length+1)+1)),(6,.i6 (0:Int)),(7,.i6 ((i+1:Nat):Int))]) (h:=[some ⟨3,1,true,((d64 (d::ds))++ [[(AV.int .i64 (((xs.getD i 0:Int)-(c:Int))-(ys.getD i 0:Int)))]]),none⟩]) ?_
         rw[E _ (xs.getD i 0-c-ys.getD i 0) (by omega)];exact hN2
   · have hz:0=ys.getD i 0:=by simp[gdE,Nat.le_of_not_lt hyl]
     have v1:¬ ((i:Int)<((d64 ys).length:Int)):=by rw[d64_length];omega
     by_cases hneg:xs.getD i 0<c
     · have hN2:=nx (xs.getD i 0+10000-c) 1 0 hz (by omega) (by omega) (by rw[fb];omega)
       have v6:(((xs.getD i 0:Nat):Int)-(c:Int))<(0:Int):=by omega
       cases ds with
       | nil=>
         refine have_ (p:=(i<xs.length)/\((i:Int)<((d64 xs).length:Int))/\(-9223372036854775808<=(xs.getD i 0:Int)-(c:Int)/\(xs.getD i 0:Int)-(c:Int)<=9223372036854775807)/\(-9223372036854775808<=(((xs.getD i 0:Nat):Int)-(c:Int))+(10000:Int)/\(((xs.getD i 0:Nat):Int)-(c:Int))+(10000:Int)<=9223372036854775807)/\(1*8<=140737488355328)/\(1<=big)/\(-9223372036854775808<=(i:Int)+(1:Int)/\(i:Int)+(1:Int)<=9223372036854775807)) (by simp only[d64_length];unfold big;omega) fun⟨q0,q1,q2,q3,q4,q5,q6⟩=>gR KT293_ok none [0,1,4,5,6,7] [1] [(12,tt),(17,.cptr [.i6 (xs.getD i 0:Int)] 0),(20,.i6 (((xs.getD i 0:Nat):Int)-(c:Int))),(24,ff),(32,tt),(34,.i6 (((xs.getD i 0:Int)-(c:Int))+(10000:Int))),(14,.i6 ((i+1:Nat):Int))] (.c6 (iT v0) (Ref.cd64 q0) (nn i) q1 (wI (((xs.getD i 0:Nat):Int)-(c:Int)) (((xs.getD i 0:Nat):Int)-(c:Int)) q2) (iF v1) (.c6 (iT v6) (wI (((xs.getD i 0:Int)-(c:Int))+(10000:Int)) (((xs.getD i 0:Int)-(c:Int))+(10000:Int)) q3) r1 v8 q4 q5 (.a1 (wI ((i:Int)+(1:Int)) ((i+1:Nat):Int) q6)))) (t:=T293) (σ:=slots 41 [(0,.list 1 (d64 xs)),(1,.list 1 (d64 ys)),(5,.own 0 1 0 1),(6,.i6 (1:Int)),(7,.i6 ((i+1:Nat):Int))]) (h:=[some ⟨3,1,true,[[.i6 (((xs.getD i 0:Int)-(c:Int))+(10000:Int))]],none⟩]) ?_
         rw[E0 rfl _ (xs.getD i 0+10000-c) (by omega)];exact hN2
       | cons d ds=>
         refine have_ (p:=(i<xs.length)/\((i:Int)<((d64 xs).length:Int))/\(-9223372036854775808<=(xs.getD i 0:Int)-(c:Int)/\(xs.getD i 0:Int)-(c:Int)<=9223372036854775807)/\(-9223372036854775808<=(((xs.getD i 0:Nat):Int)-(c:Int))+(10000:Int)/\(((xs.getD i 0:Nat):Int)-(c:Int))+(10000:Int)<=9223372036854775807)/\((ds.length+1)=(d64 (d::ds)).length)/\(((ds.length+1)+1)*8<=140737488355328)/\((ds.length+1)+1<=big)/\(-9223372036854775808<=(i:Int)+(1:Int)/\(i:Int)+(1:Int)<=9223372036854775807)) (by simp only[d64_length,List.length_cons,true_and] at hd ⊢;unfold big;omega) fun⟨q0,q1,q2,q3,q4,q5,q6,q7⟩=>gR KT293_ok none [0,1,4,5,6,7] [2] [(12,tt),(17,.cptr [.i6 (xs.getD i 0:Int)] 0),(20,.i6 (((xs.getD i 0:Nat):Int)-(c:Int))),(24,ff),(32,tt),(34,.i6 (((xs.getD i 0:Int)-(c:Int))+(10000:Int))),(14,.i6 ((i+1:Nat):Int))] (.c6 (iT v0) (Ref.cd64 q0) (nn i) q1 (wI (((xs.getD i 0:Nat):Int)-(c:Int)) (((xs.getD i 0:Nat):Int)-(c:Int)) q2) (iF v1) (.c6 (iT v6) (wI (((xs.getD i 0:Int)-(c:Int))+(10000:Int)) (((xs.getD i 0:Int)-(c:Int))+(10000:Int)) q3) r1 q4 q5 q6 (.a1 (wI ((i:Int)+(1:Int)) ((i+1:Nat):Int) q7)))) (t:=T293) (σ:=slots 41 [(0,.list 1 (d64 xs)),(1,.list 1 (d64 ys)),(5,.own 0 1 0 ((ds.length+1)+1)),(6,.i6 (1:Int)),(7,.i6 ((i+1:Nat):Int))]) (h:=[some ⟨3,1,true,((d64 (d::ds))++ [[(AV.int .i64 (((xs.getD i 0:Int)-(c:Int))+(10000:Int)))]]),none⟩]) ?_
         rw[E _ (xs.getD i 0+10000-c) (by omega)];exact hN2
     · have hN2:=nx (xs.getD i 0-c) 0 0 hz (by omega) (by omega) (by rw[fb];omega)
       have v7:¬ (((xs.getD i 0:Int)-(c:Int))<(0:Int)):=by omega
       cases ds with
       | nil=>
         refine have_ (p:=(i<xs.length)/\((i:Int)<((d64 xs).length:Int))/\(-9223372036854775808<=(xs.getD i 0:Int)-(c:Int)/\(xs.getD i 0:Int)-(c:Int)<=9223372036854775807)/\(1*8<=140737488355328)/\(1<=big)/\(-9223372036854775808<=(i:Int)+(1:Int)/\(i:Int)+(1:Int)<=9223372036854775807)) (by simp only[d64_length];unfold big;omega) fun⟨q0,q1,q2,q3,q4,q5⟩=>gR KT293_ok none [0,1,4,5,6,7] [1] [(12,tt),(17,.cptr [.i6 (xs.getD i 0:Int)] 0),(20,.i6 (((xs.getD i 0:Nat):Int)-(c:Int))),(24,ff),(32,ff),(14,.i6 ((i+1:Nat):Int))] (.c6 (iT v0) (Ref.cd64 q0) (nn i) q1 (wI (((xs.getD i 0:Nat):Int)-(c:Int)) (((xs.getD i 0:Nat):Int)-(c:Int)) q2) (iF v1) (.a6 (iF v7) r1 v8 q3 q4 (wI ((i:Int)+(1:Int)) ((i+1:Nat):Int) q5))) (t:=T293) (σ:=slots 41 [(0,.list 1 (d64 xs)),(1,.list 1 (d64 ys)),(5,.own 0 1 0 1),(6,.i6 (0:Int)),(7,.i6 ((i+1:Nat):Int))]) (h:=[some ⟨3,1,true,[[.i6 (((xs.getD i 0:Nat):Int)-(c:Int))]],none⟩]) ?_
         rw[E0 rfl _ (xs.getD i 0-c) (by omega)];exact hN2
       | cons d ds=>
         refine have_ (p:=(i<xs.length)/\((i:Int)<((d64 xs).length:Int))/\(-9223372036854775808<=(xs.getD i 0:Int)-(c:Int)/\(xs.getD i 0:Int)-(c:Int)<=9223372036854775807)/\((ds.length+1)=(d64 (d::ds)).length)/\(((ds.length+1)+1)*8<=140737488355328)/\((ds.length+1)+1<=big)/\(-9223372036854775808<=(i:Int)+(1:Int)/\(i:Int)+(1:Int)<=9223372036854775807)) (by simp only[d64_length,List.length_cons,true_and] at hd ⊢;unfold big;omega) fun⟨q0,q1,q2,q3,q4,q5,q6⟩=>gR KT293_ok none [0,1,4,5,6,7] [2] [(12,tt),(17,.cptr [.i6 (xs.getD i 0:Int)] 0),(20,.i6 (((xs.getD i 0:Nat):Int)-(c:Int))),(24,ff),(32,ff),(14,.i6 ((i+1:Nat):Int))] (.c6 (iT v0) (Ref.cd64 q0) (nn i) q1 (wI (((xs.getD i 0:Nat):Int)-(c:Int)) (((xs.getD i 0:Nat):Int)-(c:Int)) q2) (iF v1) (.a6 (iF v7) r1 q3 q4 q5 (wI ((i:Int)+(1:Int)) ((i+1:Nat):Int) q6))) (t:=T293) (σ:=slots 41 [(0,.list 1 (d64 xs)),(1,.list 1 (d64 ys)),(5,.own 0 1 0 ((ds.length+1)+1)),(6,.i6 (0:Int)),(7,.i6 ((i+1:Nat):Int))]) (h:=[some ⟨3,1,true,((d64 (d::ds))++ [[(AV.int .i64 (((xs.getD i 0:Nat):Int)-(c:Int)))]]),none⟩]) ?_
         rw[E _ (xs.getD i 0-c) (by omega)];exact hN2
theorem a293:Ctr 293 k293:=fun args r ob h ho=>by
 unfold k293 at h
 split at h
 · rename_i n B m C
   cases h;have hmn:m<=n:=ho _ (by simp);have hL:B<=LIM:=ho _ (by simp);unfold LIM at hL;obtain⟨hx,hxn⟩:=digits_spec (b:=b10k) (by decide) n;obtain⟨hy,hyn⟩:=digits_spec (b:=b10k) (by decide) m;refine af Tryz.f293 fun S w0=> ?_
   refine Good.fact (V:=.dig n B) (p:=n<2^B) 0 rfl rfl (fun ρ S w D v hv=>dig_inv (show RelCs ρ S w D [.dig n B] [v] from hv)) fun hn=> ?_
   refine Good.weak 41 [(0,.list 1 (d64 (digits b10k n))),(1,.list 1 (d64 (digits b10k m)))] (by kernel_rfl) (.cons Ref.opnd (.cons Ref.opnd .nil)) ?_;have l1:=hx.len10 (by rw[hxn];exact hn);generalize digits b10k n=xs at*;generalize digits b10k m=ys at*;subst hxn;subst hyn
   have hlen:ys.length<=xs.length:=by
     rcases Nat.lt_or_ge xs.length ys.length with h | h
     · have:=dval_lt_of_len (by decide) hx hy h;omega
     · exact h
   refine gN KT293_ok [0,1,4,5,6,7] [] .nil (t:=T293) (σ:=slots 41 [(0,.list 1 (d64 xs)),(1,.list 1 (d64 ys)),(4,.nil),(5,.nil),(6,.i6 (0:Int)),(7,.i6 (0:Int))]) (h:=[]) ?_
   refine Good.weak 41 [(0,_),(1,_),(5,_),(6,_),(7,_)] (by kernel_rfl) (.r (.r (.r (.r (.r .nil))))) ?_;exact loop293 hx.1 hy.1 hlen (by unfold LIM;omega) (by omega) (by omega) _ 0 0 [] rfl (by omega) (by omega) rfl (by simp) (by simp[dval])
 · cases h
end
def KT297_ok:=kn
def k297:KF
 | [.list 1 X,.int .i64 f]=>some (.int .i64 ((dval b10k ((un64 X).drop f.toNat):Nat):Int),[0<=f,X=d64 (un64 X),∀ x∈un64 X,x<b10k,f.toNat<=(un64 X).length,(un64 X).length<=f.toNat+4])
 | _=>none
section
variable {S:Nat->Prop} {w0:World}
noncomputable abbrev T297:List Item:=[.code (nav [1,1,0,1,0,0] (bodyOf Tryz.f297)),.inLoop (nav [1,1,0,1,0,0] (bodyOf Tryz.f297)),.inBlock 0,.code (nav [1,1,1] (bodyOf Tryz.f297))]
theorem loop297 {xs:List Nat} {f:Nat} (hx:∀ x∈xs,x<b10k) (hf:f<=xs.length) (hl:xs.length<=f+4) (hb:xs.length<=big):∀ (j k v:Nat),k=f+j->k<=xs.length->v=dval b10k (xs.drop k)->
   GF 297 S w0 (.i6 ((dval b10k (xs.drop f):Nat):Int)) T297 ⟨slots 23 [(0,.list 1 (d64 xs)),(1,.i6 ((f:Nat):Int)),(5,.i6 ((v:Nat):Int)),(6,(.i6 (((k:Nat):Int)-1)))],[]⟩:=by
 unfold big at hb;intro j
 induction j with
 | zero=>
   intro k v hj hk hv;have hk:k=f:=by omega
   subst hk;refine rF KT297_ok [(12,ff)] (.a1 (iF (om (¬ ((k:Int)<=((k:Int)-1)))))) (V:=.i6 (v:Int)) (Ref.nat_eq hv)
 | succ j ih=>
   intro k v hj hk hv;obtain⟨i,rfl⟩:∃ i,k=i+1:=⟨k-1,by omega⟩;rw[show(((i+1:Nat):Int)-1)=((i:Nat):Int) by omega];have hx1:=getD_lt (b:=b10k) (by decide) hx i
   have hv3:v<1000000000000:=by
     have h1:=dval_lt (b:=b10k) (by decide) (xs:=xs.drop (i+1)) (fun x h=>hx x (List.mem_of_mem_drop h));have h2:b10k^(xs.drop (i+1)).length<=b10k^3:=Nat.pow_le_pow_right (by decide) (by rw[List.length_drop];omega);have h3:b10k^3=1000000000000:=by decide
     omega
   unfold b10k at hx1;refine gN KT297_ok [0,1,4,5,6] [(12,tt),(16,.i6 ((v*10000:Nat):Int)),(19,.cptr [.i6 (xs.getD i 0:Int)] 0),(21,.i6 ((xs.getD i 0+10000*v:Nat):Int)),(14,.i6 ((i:Int)-(1:Int)))] (.c6 (iT (om ((f:Int)<=(i:Int)))) (wI ((v:Int)*(10000:Int)) ((v*10000:Nat):Int)) (show Ref (.cptr ((d64 xs).getD i []) 0) (.cptr [.i6 (xs.getD i 0:Int)] 0) from Ref.cd64 ((om (i<xs.length)))) (nn i) (show(i:Int)<((d64 xs).length:Int) by rw[d64_length];omega) (show Ref (.i6 (IntKind.i64.wrap (((v*10000:Nat):Int)+(xs.getD i 0:Int)))) (.i6 ((xs.getD i 0+10000*v:Nat):Int)) from Ref.wrI (by omega) (by omega)) (.a1 (wI ((i:Int)-(1:Int)) ((i:Int)-(1:Int))))) (t:=T297) (σ:=slots 23 [(0,.list 1 (d64 xs)),(1,.i6 (f:Int)),(5,.i6 ((xs.getD i 0+10000*v:Nat):Int)),(6,.i6 ((i:Int)-(1:Int)))]) (h:=[]) ?_
   refine ih i _ (by omega) (by omega) ?_;rw[dval_drop_succ (by omega:i<xs.length),hv];rfl
theorem a297:Ctr 297 k297:=fun args r ob h ho=>by
 unfold k297 at h
 split at h
 · rename_i X f
   cases h;have h0:0<=f:=ho _ (by simp);have h1:X=d64 (un64 X):=ho _ (by simp);have h2:∀ x∈un64 X,x<b10k:=ho _ (by simp);have h3:f.toNat<=(un64 X).length:=ho _ (by simp);have h4:(un64 X).length<=f.toNat+4:=ho _ (by simp);obtain⟨f,rfl⟩:=Int.eq_ofNat_of_zero_le h0;replace h3:f<=(un64 X).length:=h3;replace h4:(un64 X).length<=f+4:=h4;generalize un64 X=xs at*;subst h1;refine af Tryz.f297 fun S w0=> ?_
   show Good _ _ _ _ _ (PostF S w0 (.i6 ((dval b10k (xs.drop f):Nat):Int))) _ _;have e:st0 [AV.list 1 (d64 xs),.i6 ((f:Nat):Int)] Tryz.f297.ntmps=⟨slots 23 [(0,.list 1 (d64 xs)),(1,.i6 ((f:Nat):Int))],[]⟩:=by kernel_rfl
   rw[e];refine Good.len 0 (e:=1) (xs:=d64 xs) (by rfl) fun hb=> ?_
   rw[d64_length] at hb;refine gN KT297_ok [0,1,4,5,6] [(9,.i6 ((((d64 xs).length:Nat):Int)-(1:Int)))] (.a1 (wI ((((d64 xs).length:Nat):Int)-(1:Int)) ((((d64 xs).length:Nat):Int)-(1:Int)) (by rw[d64_length];unfold big at hb;omega))) (t:=T297) (σ:=slots 23 [(0,.list 1 (d64 xs)),(1,.i6 (f:Int)),(4,.i6 (0:Int)),(5,.i6 (0:Int)),(6,(.i6 ((((d64 xs).length:Nat):Int)-(1:Int))))]) (h:=[]) ?_
   refine Good.weak 23 [(0,_),(1,_),(5,_),(6,_)] (by kernel_rfl) (.r (.r (.r (.r .nil)))) ?_;rw[d64_length];exact loop297 h2 h3 h4 hb (xs.length-f) xs.length 0 (by omega) (by omega) (by rw[List.drop_length];rfl)
 · cases h
end
def KT260_ok:=(((((kn.cons a297).cons a293).cons a272).cons a223).cons a221).cons a201
def k260:KF
 | [.dig n B,.dig m C]=>some (.tup [.dig (n/m) B,.dig (n % m) C],[0<m,B+C+300<=LIM])
 | _=>none
theorem row260 (x:Nat) (rs:List Nat):(([[(AV.int .i64 ((x:Nat):Int))]]++(d64 rs)).drop 0).take (1+((d64 rs).length))=d64 (x::rs):=by
 rw[List.drop_zero,tkE (by simp;omega)];rfl
theorem guess_low {t m A Bv P K:Nat} (hA:A*P<=t) (hm:m<(Bv+1)*P) (hK:K=A/(Bv+1)):m*K<=t:=by
 have h1:K*(Bv+1)<=A:=by rw[hK];exact Nat.div_mul_le_self _ _
 have h2:=Nat.mul_le_mul_right P h1;have h3:m*K<=(Bv+1)*P*K:=Nat.mul_le_mul_right K (Nat.le_of_lt hm);have e:(Bv+1)*P*K=K*(Bv+1)*P:=by rw[Nat.mul_comm _ K,Nat.mul_assoc]
 omega
section
variable {S:Nat->Prop} {w0:World}
noncomputable abbrev T260:List Item:=[.code (nav [1,1,1,0,1,0,0] (bodyOf Tryz.f260)),.inLoop (nav [1,1,1,0,1,0,0] (bodyOf Tryz.f260)),.inBlock 0,.code (nav [1,1,1,1] (bodyOf Tryz.f260))]
noncomputable abbrev T260i:List Item:=[.code (nav [1,1,1,0,1,0,0,1,0,0,1,1,1,1,0,0,0] (bodyOf Tryz.f260)),.inLoop (nav [1,1,1,0,1,0,0,1,0,0,1,1,1,1,0,0,0] (bodyOf Tryz.f260)),.inBlock 2,.code (nav [1,1,1,0,1,0,0,1,0,0,1,1,1,1,1] (bodyOf Tryz.f260)),.inBlock 1,.code (nav [1,1,1,0,1,0,0,1,1] (bodyOf Tryz.f260)),.inLoop (nav [1,1,1,0,1,0,0] (bodyOf Tryz.f260)),.inBlock 0,.code (nav [1,1,1,1] (bodyOf Tryz.f260))]
variable {Post:Value->World->Prop}
theorem inner260 {xs ys qs:List Nat} {t m C F l j:Nat} (hy:Dig b10k ys) (hym:dval b10k ys=m) (hm:m<2^C) (hm0:0<m) (ht:t<10000*m) (hF:F<=LIM) (hl:l=qs.length) (hj:j<l) (hlL:l<=LIM)
   (next:Good Tryz.prog 260 S No w0 Post T260 ⟨slots 76 [(0,.list 1 (d64 xs)),(1,.list 1 (d64 ys)),(6,.dig (t % m) C),(7,.own 0 1 0 l),(8,(.i6 (((j:Nat):Int)-(1:Int))))],[some ⟨3,1,true,(d64 (qs.set j (t/m))),none⟩]⟩):
   ∀ (f r k:Nat),r<=f->t=k*m+r->
   Good Tryz.prog 260 S No w0 Post T260i ⟨slots 76 [(0,.list 1 (d64 xs)),(1,.list 1 (d64 ys)),(6,.dig r F),(7,.own 0 1 0 l),(8,.i6 ((j:Nat):Int)),(9,.i6 ((k:Nat):Int))],[some ⟨3,1,true,(d64 qs),none⟩]⟩:=by
 unfold LIM at hlL;have v0:Ref (.list 1 (d64 ys)) (.dig m C):=Ref.dig hy hym hm
 have last:∀ r k,r<m->t=k*m+r->Good Tryz.prog 260 S No w0 Post T260i ⟨slots 76 [(0,.list 1 (d64 xs)),(1,.list 1 (d64 ys)),(6,.dig r F),(7,.own 0 1 0 l),(8,.i6 ((j:Nat):Int)),(9,.i6 ((k:Nat):Int))],[some ⟨3,1,true,(d64 qs),none⟩]⟩:=by
   intro r k hr he;obtain⟨q1,q2⟩:=div_val he hr;refine gR KT260_ok none [0,1,4,5,6,7,8,9] [0] [(61,.dig m C),(63,ff),(19,.i6 ((j:Int)-(1:Int)))] (.a6 v0 (show Ref (.bool (decide ((0:Int)<=(cmpN r m)))) (.bool false) from Ref.bool (decide_eq_false (fun h=>by have:=cmpN_nonneg.1 h;omega))) (nn j) (om ((j:Int)<(l:Int))) (show 0+j<(d64 qs).length by rw[d64_length];omega) (wI ((j:Int)-(1:Int)) ((j:Int)-(1:Int)))) (t:=T260) (σ:=slots 76 [(0,.list 1 (d64 xs)),(1,.list 1 (d64 ys)),(6,.dig r F),(7,.own 0 1 0 l),(8,.i6 ((j:Int)-(1:Int))),(9,.i6 (k:Int))]) (h:=[some ⟨3,1,true,((d64 qs).set (0+j) [.i6 (k:Int)]),none⟩]) ?_
   rw[d64_set,Nat.zero_add, <- q1];refine Good.weak 76 [(0,_),(1,_),(6,.dig (t % m) C),(7,_),(8,_)] (by kernel_rfl) (.r (.r (.cons ?_ (.r (.r .nil))))) next;rw[q2];exact Ref.digB (by omega)
 intro f
 induction f with
 | zero=>
   intro r k hf he;exact last r k (by omega) he
 | succ f ih=>
   intro r k hf he
   by_cases h:r<m
   · exact last r k h he
   · have hk:k<10000:=by
       rcases Nat.lt_or_ge k 10000 with h | h
       · exact h
       · have:=Nat.mul_le_mul_right m h;omega
     exact gR KT260_ok none [0,1,4,5,6,7,8,9] [0] [(61,.dig m C),(63,tt),(65,.dig m C),(68,.i6 ((k+1:Nat):Int))] (.a6 v0 (show Ref (.bool (decide ((0:Int)<=(cmpN r m)))) (.bool true) from Ref.bool (decide_eq_true (cmpN_nonneg.2 (by omega)))) v0 (om (m<=r)) hF (wI ((k:Int)+(1:Int)) ((k+1:Nat):Int))) (ih (r-m) (k+1) (by omega) (by rw[Nat.add_mul,Nat.one_mul];omega))
theorem loop260 {xs ys:List Nat} {m B C:Nat} (hx:∀ x∈xs,x<b10k) (hy:Dig b10k ys) (hym:dval b10k ys=m) (hm:m<2^C) (hm0:0<m) (hL:B+C+300<=LIM) (hxl:13*xs.length<=B+12) (hn:dval b10k xs<2^B):
   ∀ (k r:Nat) (qs:List Nat),k<=xs.length->r<m->qs.length=xs.length->(∀ x∈qs,x<b10k)->dval b10k (xs.drop k)=dval b10k (qs.drop k)*m+r->
   GF 260 S w0 (.tup [.dig (dval b10k xs/m) B,.dig (dval b10k xs % m) C]) T260 ⟨slots 76 [(0,.list 1 (d64 xs)),(1,.list 1 (d64 ys)),(6,.dig r C),(7,.own 0 1 0 xs.length),(8,(.i6 (((k:Nat):Int)-(1:Int))))],[some ⟨3,1,true,(d64 qs),none⟩]⟩:=by
 have fb:b10k=10000:=rfl;have hyl:=hy.len10 (B:=C) (by rw[hym];exact hm);unfold LIM at hL;intro k
 induction k with
 | zero=>
   intro r qs hk hr hql hqd hinv;rw[show(((0:Nat):Int)-(1:Int))= -1 from rfl];simp only[List.drop_zero] at hinv;obtain⟨q1,q2⟩:=div_val hinv hr;have e0:((d64 qs).drop 0).take xs.length=d64 qs:=by rw[List.drop_zero,tkE (by rw[d64_length];omega)]
   refine rF KT260_ok [] (.a3 (show 0+xs.length<=(d64 qs).length by rw[d64_length];omega) (show(((d64 qs).drop 0).take xs.length)=d64 (un64 (((d64 qs).drop 0).take xs.length)) by rw[e0,un64_d64]) (show ∀ x∈un64 (((d64 qs).drop 0).take xs.length),x<b10k by rw[e0,un64_d64];exact hqd)) (V:=.tup [.dig (dval b10k (un64 (((d64 qs).drop 0).take xs.length))) (14*(((d64 qs).drop 0).take xs.length).length),AV.dig r C]) ?_
   rw[e0,un64_d64,q1,q2];refine Ref.tup2 (Ref.digB ?_) rr rfl rfl rfl rfl
   have:=Nat.div_le_self (dval b10k xs) m;omega
 | succ j ih=>
   intro r qs hk hr hql hqd hinv;rw[show(((j+1:Nat):Int)-(1:Int))=((j:Nat):Int) by omega];have hx1:=getD_lt (b:=b10k) (by decide) hx j;obtain⟨hrd,hrv⟩:=digits_spec (b:=b10k) (by decide) r;have hrl:=hrd.len10 (B:=C) (by rw[hrv];omega);obtain⟨t,ht⟩:∃ t,t=xs.getD j 0+10000*r:=⟨_,rfl⟩;have htm:t<10000*m:=by rw[fb] at hx1;omega
   have hval:dval b10k (xs.getD j 0::digits b10k r)=t:=by rw[dval,hrv,ht,fb]
   have hxr:∀ x∈xs.getD j 0::digits b10k r,x<b10k:=by
     intro x hx';rcases List.mem_cons.1 hx' with rfl | h
     · exact hx1
     · exact hrd.1 x h
   obtain⟨htd,htv⟩:=digits_spec (b:=b10k) (by decide) t;have hmlen:m<b10k^ys.length:=by rw[<- hym];exact dval_lt (by decide) hy.1
   have htl:(digits b10k t).length<=ys.length+1:=digits_len_le (by decide) (by rw[Nat.pow_succ,Nat.mul_comm];exact Nat.lt_of_lt_of_le htm (Nat.mul_le_mul_left 10000 (Nat.le_of_lt hmlen)))
   have htF:t<2^(C+14):=by
     rw[Nat.pow_add,Nat.mul_comm];have:10000*m<=2^14*2^C:=Nat.mul_le_mul (by decide) (Nat.le_of_lt hm);omega
   have hys:Ref (AV.list 1 (d64 ys)) (AV.dig m C):=Ref.dig hy hym hm;have hts:Ref (AV.list 1 (d64 (digits b10k t))) (AV.dig t (C+14)):=Ref.dig htd htv htF
   have hfin:=inner260 (S:=S) (w0:=w0) (Post:=PostF S w0 (.tup [.dig (dval b10k xs/m) B,.dig (dval b10k xs % m) C])) (xs:=xs) (qs:=qs) (F:=C+14) (l:=xs.length) (j:=j) hy hym hm hm0 htm (by unfold LIM;omega) hql.symm (by omega) (by unfold LIM;omega)
     (ih (t % m) _ (by omega) (Nat.mod_lt _ hm0) (by simp[hql]) (set_lt hqd (by rw[fb];rw[Nat.div_lt_iff_lt_mul hm0];exact htm)) (by
       rw[dval_drop_succ (by omega:j<xs.length),dval_drop_succ (by simp;omega:j<(qs.set j (t/m)).length),set_getD_self (by omega),drop_set_lt (by omega)];refine short_step hinv ?_
       rw[Nat.div_add_mod,ht,fb];omega))
   have c4:((1+((d64 (digits b10k r)).length))*8<=140737488355328):=by rw[d64_length];omega
   have c5:(1+((d64 (digits b10k r)).length)<=big):=by rw[d64_length];unfold big;omega
   have c6:Ref (AV.dig (dval b10k (un64 ((([[(AV.int .i64 ((xs.getD j 0:Nat):Int))]]++(d64 (digits b10k r))).drop 0).take (1+((d64 (digits b10k r)).length))))) (14*((([[(AV.int .i64 ((xs.getD j 0:Nat):Int))]]++(d64 (digits b10k r))).drop 0).take (1+((d64 (digits b10k r)).length))).length)) (AV.list 1 (d64 (digits b10k t))):=by rw[row260,un64_d64,hval];exact Ref.opnd
   have c7:(0+(1+((d64 (digits b10k r)).length))<=([[(AV.int .i64 ((xs.getD j 0:Nat):Int))]]++(d64 (digits b10k r))).length):=by simp only[List.length_append,List.length_singleton,Nat.zero_add];omega
   have c8:(((([[(AV.int .i64 ((xs.getD j 0:Nat):Int))]]++(d64 (digits b10k r))).drop 0).take (1+((d64 (digits b10k r)).length)))=d64 (un64 ((([[(AV.int .i64 ((xs.getD j 0:Nat):Int))]]++(d64 (digits b10k r))).drop 0).take (1+((d64 (digits b10k r)).length))))):=by rw[row260,un64_d64]
   have c9:(∀ x∈un64 ((([[(AV.int .i64 ((xs.getD j 0:Nat):Int))]]++(d64 (digits b10k r))).drop 0).take (1+((d64 (digits b10k r)).length))),x<b10k):=by rw[row260,un64_d64];exact hxr
   have d1:d64 (digits b10k t)=d64 (un64 (d64 (digits b10k t))):=by rw[un64_d64]
   have d2:∀ x∈un64 (d64 (digits b10k t)),x<b10k:=by rw[un64_d64];exact htd.1
   have d3:d64 ys=d64 (un64 (d64 ys)):=by rw[un64_d64]
   have d4:∀ x∈un64 (d64 ys),x<b10k:=by rw[un64_d64];exact hy.1
   have v0:Ref (.cptr ((d64 xs).getD j []) 0) (.cptr [.i6 (xs.getD j 0:Int)] 0):=Ref.cd64 ((om (j<xs.length)));have v2:(j:Int)<((d64 xs).length:Int):=by rw[d64_length];omega
   have v3:Ref (.dig r C) (.list 1 (d64 (digits b10k r))):=Ref.opnd;have v4:C+64+128<=LIM:=by unfold LIM;omega
   have v6:(C+14)<=LIM:=by unfold LIM;omega
   have v7:(0:Int)<=(j:Int):=by omega
   by_cases h3:ys.length<=3
   · have hA:dval b10k ((un64 (d64 (digits b10k t))).drop 0)=t:=by rw[un64_d64,List.drop_zero,htv]
     have hBv:dval b10k ((un64 (d64 ys)).drop 0)=m:=by rw[un64_d64,List.drop_zero,hym]
     have ht16:t<10000000000000000:=by
       have h1:=digits_lt_len (b:=b10k) (n:=t) (by decide);have h2:b10k^(digits b10k t).length<=b10k^4:=Nat.pow_le_pow_right (by decide) (by omega);have h4:b10k^4=10000000000000000:=by decide
       omega
     have hK:t/m<=t:=Nat.div_le_self _ _;refine gR KT260_ok none [0,1,4,5,6,7,8,9] [0] [(17,tt),(22,.cptr [.i6 (xs.getD j 0:Int)] 0),(25,.list 1 (d64 (digits b10k r))),(27,.list 1 (d64 (digits b10k t))),(30,tt),(35,.i6 (((dval b10k ((un64 (d64 (digits b10k t))).drop 0))/(dval b10k ((un64 (d64 ys)).drop 0)):Nat):Int)),(53,.dig t (C+14)),(54,.dig m C)] (.c6 (iT v7) v0 (nn j) v2 v3 r1 (.c6 c4 c5 c6 c7 c8 c9 (.c6 (iT (show((d64 ys).length:Int)<=(3:Int) by rw[d64_length];omega)) (dc (0<=(0:Int))) d1 d2 (show 0<=(un64 (d64 (digits b10k t))).length from Nat.zero_le _) (show(un64 (d64 (digits b10k t))).length<=0+4 by rw[un64_d64];omega) (.c6 (dc (0<=(0:Int))) d3 d4 (show 0<=(un64 (d64 ys)).length from Nat.zero_le _) (show(un64 (d64 ys)).length<=0+4 by rw[un64_d64];omega) (show Ref (.i6 (IntKind.i64.wrap (((dval b10k ((un64 (d64 (digits b10k t))).drop 0):Nat):Int).tdiv (dval b10k ((un64 (d64 ys)).drop 0):Int)))) (.i6 (((dval b10k ((un64 (d64 (digits b10k t))).drop 0))/(dval b10k ((un64 (d64 ys)).drop 0)):Nat):Int)) from Ref.quo (a:=dval b10k ((un64 (d64 (digits b10k t))).drop 0)) (b:=dval b10k ((un64 (d64 ys)).drop 0)) rfl rfl (by decide) ((show(dval b10k ((un64 (d64 (digits b10k t))).drop 0):Int)<=9223372036854775807 by rw[hA];omega))) (.c6 (show(dval b10k ((un64 (d64 ys)).drop 0):Int)≠0 by rw[hBv];omega) hts hys (show(-9223372036854775808:Int)<=(((dval b10k ((un64 (d64 (digits b10k t))).drop 0))/(dval b10k ((un64 (d64 ys)).drop 0)):Nat):Int) from ?_) (show(((dval b10k ((un64 (d64 (digits b10k t))).drop 0))/(dval b10k ((un64 (d64 ys)).drop 0)):Nat):Int)<=(9223372036854775807:Int) from ?_) v4 (.a2 (show(m*((dval b10k ((un64 (d64 (digits b10k t))).drop 0))/(dval b10k ((un64 (d64 ys)).drop 0))))<=t by rw[hA,hBv];exact Nat.mul_div_le t m) v6)))))) (t:=T260i) (σ:=slots 76 [(0,.list 1 (d64 xs)),(1,.list 1 (d64 ys)),(6,(.dig (t-(m*((dval b10k ((un64 (d64 (digits b10k t))).drop 0))/(dval b10k ((un64 (d64 ys)).drop 0))))) (C+14))),(7,.own 0 1 0 xs.length),(8,.i6 (j:Int)),(9,(.i6 (((dval b10k ((un64 (d64 (digits b10k t))).drop 0))/(dval b10k ((un64 (d64 ys)).drop 0)):Nat):Int)))]) (h:=[some ⟨3,1,true,(d64 qs),none⟩]) ?_
     · exact Int.le_trans (by decide) (Int.natCast_nonneg _)
     · rw[hA,hBv];exact Int.le_trans (Int.ofNat_le.2 hK) (by omega)
     · rw[hA,hBv]
       exact hfin _ _ _ (rl _) (by have:=Nat.mul_div_le t m;rw[Nat.mul_comm];omega)
   · have v5:¬ ((((d64 ys).length:Nat):Int)<=(3:Int)):=by rw[d64_length];omega
     by_cases h4:ys.length<=(digits b10k t).length
     · obtain⟨w,hw⟩:∃ w,ys.length=w+3:=⟨ys.length-3,by omega⟩
       obtain⟨A,hA⟩:∃ A,dval b10k ((un64 (d64 (digits b10k t))).drop w)=A:=⟨_,rfl⟩;obtain⟨Bv,hBv⟩:∃ Bv,dval b10k ((un64 (d64 ys)).drop w)=Bv:=⟨_,rfl⟩;have hA':=hA;have hBv':=hBv;rw[un64_d64] at hA' hBv';have s1:=dval_split b10k w (digits b10k t);have s2:=dval_split b10k w ys;rw[hA',htv] at s1;rw[hBv',hym] at s2;have s3:=dval_take_lt (b:=b10k) (by decide) hy.1 w
       have hA16:A<10000000000000000:=by
         have h1:=dval_lt (b:=b10k) (by decide) (xs:=(digits b10k t).drop w) (fun x h=>htd.1 x (List.mem_of_mem_drop h));have h2:b10k^((digits b10k t).drop w).length<=b10k^4:=Nat.pow_le_pow_right (by decide) (by rw[List.length_drop];omega);have h4:b10k^4=10000000000000000:=by decide
         omega
       have hB12:Bv<10000000000000000:=by
         have h1:=dval_lt (b:=b10k) (by decide) (xs:=ys.drop w) (fun x h=>hy.1 x (List.mem_of_mem_drop h));have h2:b10k^(ys.drop w).length<=b10k^4:=Nat.pow_le_pow_right (by decide) (by rw[List.length_drop];omega);have h4:b10k^4=10000000000000000:=by decide
         omega
       have hlow:m*(A/(Bv+1))<=t:=guess_low (P:=b10k^w) (Bv:=Bv) (by rw[Nat.mul_comm];omega) (by rw[Nat.add_mul,Nat.one_mul,Nat.mul_comm Bv];omega) rfl;have hK:A/(Bv+1)<=A:=Nat.div_le_self _ _;have v1:Ref (.i6 (IntKind.i64.wrap ((((d64 ys).length:Nat):Int)-(3:Int)))) (.i6 (w:Int)):=Ref.wrI (by rw[d64_length];omega) (by omega);refine gR KT260_ok none [0,1,4,5,6,7,8,9] [0] [(17,tt),(22,.cptr [.i6 (xs.getD j 0:Int)] 0),(25,.list 1 (d64 (digits b10k r))),(27,.list 1 (d64 (digits b10k t))),(30,ff),(40,tt),(44,.i6 (w:Int)),(49,.i6 (w:Int)),(51,.i6 ((dval b10k ((un64 (d64 ys)).drop w)+1:Nat):Int)),(52,.i6 (((dval b10k ((un64 (d64 (digits b10k t))).drop w))/(dval b10k ((un64 (d64 ys)).drop w)+1):Nat):Int)),(53,.dig t (C+14)),(54,.dig m C)] (.c6 (iT v7) v0 (nn j) v2 v3 r1 (.c6 c4 c5 c6 c7 c8 c9 (.c6 (iF v5) (iT (show((d64 ys).length:Int)<=((d64 (digits b10k t)).length:Int) by rw[d64_length,d64_length];omega)) v1 (nn w) d1 d2 (.c6 (show w<=(un64 (d64 (digits b10k t))).length by rw[un64_d64];omega) (show(un64 (d64 (digits b10k t))).length<=w+4 by rw[un64_d64];omega) v1 (nn w) d3 d4 (.c6 (show w<=(un64 (d64 ys)).length by rw[un64_d64];omega) (show(un64 (d64 ys)).length<=w+4 by rw[un64_d64];omega) (wI (((dval b10k ((un64 (d64 ys)).drop w):Nat):Int)+(1:Int)) ((dval b10k ((un64 (d64 ys)).drop w)+1:Nat):Int) (by rw[hBv];omega)) (show Ref (.i6 (IntKind.i64.wrap (((dval b10k ((un64 (d64 (digits b10k t))).drop w):Nat):Int).tdiv ((dval b10k ((un64 (d64 ys)).drop w)+1:Nat):Int)))) (.i6 (((dval b10k ((un64 (d64 (digits b10k t))).drop w))/(dval b10k ((un64 (d64 ys)).drop w)+1):Nat):Int)) from Ref.quo (a:=dval b10k ((un64 (d64 (digits b10k t))).drop w)) (b:=dval b10k ((un64 (d64 ys)).drop w)+1) rfl rfl (by decide) ((show(dval b10k ((un64 (d64 (digits b10k t))).drop w):Int)<=9223372036854775807 by rw[hA];omega))) (show((dval b10k ((un64 (d64 ys)).drop w)+1:Nat):Int)≠0 by rw[hBv];omega) hts (.a6 hys (show(-9223372036854775808:Int)<=(((dval b10k ((un64 (d64 (digits b10k t))).drop w))/(dval b10k ((un64 (d64 ys)).drop w)+1):Nat):Int) from ?_) (show(((dval b10k ((un64 (d64 (digits b10k t))).drop w))/(dval b10k ((un64 (d64 ys)).drop w)+1):Nat):Int)<=(9223372036854775807:Int) from ?_) v4 (show(m*((dval b10k ((un64 (d64 (digits b10k t))).drop w))/(dval b10k ((un64 (d64 ys)).drop w)+1)))<=t by rw[hA,hBv];exact hlow) v6)))))) (t:=T260i) (σ:=slots 76 [(0,.list 1 (d64 xs)),(1,.list 1 (d64 ys)),(6,(.dig (t-(m*((dval b10k ((un64 (d64 (digits b10k t))).drop w))/(dval b10k ((un64 (d64 ys)).drop w)+1)))) (C+14))),(7,.own 0 1 0 xs.length),(8,.i6 (j:Int)),(9,(.i6 (((dval b10k ((un64 (d64 (digits b10k t))).drop w))/(dval b10k ((un64 (d64 ys)).drop w)+1):Nat):Int)))]) (h:=[some ⟨3,1,true,(d64 qs),none⟩]) ?_
       · exact Int.le_trans (by decide) (Int.natCast_nonneg _)
       · rw[hA,hBv];exact Int.le_trans (Int.ofNat_le.2 hK) (by omega)
       · rw[hA,hBv]
         exact hfin _ _ _ (rl _) (by rw[Nat.mul_comm];omega)
     · refine gR KT260_ok none [0,1,4,5,6,7,8,9] [0] [(17,tt),(22,.cptr [.i6 (xs.getD j 0:Int)] 0),(25,.list 1 (d64 (digits b10k r))),(27,.list 1 (d64 (digits b10k t))),(30,ff),(40,ff),(53,.dig t (C+14)),(54,.dig m C)] (.c6 (iT v7) v0 (nn j) v2 v3 r1 (.c6 c4 c5 c6 c7 c8 c9 (.c6 (iF v5) (iF (show ¬ ((((d64 ys).length:Nat):Int)<=((d64 (digits b10k t)).length:Int)) by rw[d64_length,d64_length];omega)) hts hys (dc ((-9223372036854775808:Int)<=0)) (dc (0<=(9223372036854775807:Int))) (.a3 v4 (om ((m*0)<=t)) v6)))) (t:=T260i) (σ:=slots 76 [(0,.list 1 (d64 xs)),(1,.list 1 (d64 ys)),(6,.dig (t-(m*0)) (C+14)),(7,.own 0 1 0 xs.length),(8,.i6 (j:Int)),(9,.i6 (0:Int))]) (h:=[some ⟨3,1,true,(d64 qs),none⟩]) ?_
       exact hfin _ _ 0 (rl _) (by omega)
theorem a260:Ctr 260 k260:=fun args r ob h ho=>by
 unfold k260 at h
 split at h
 · rename_i n B m C
   cases h;have hm0:0<m:=ho _ (by simp);have hL:B+C+300<=LIM:=ho _ (by simp);obtain⟨hx,hxn⟩:=digits_spec (b:=b10k) (by decide) n;obtain⟨hy,hyn⟩:=digits_spec (b:=b10k) (by decide) m;refine af Tryz.f260 fun S w0=> ?_
   refine Good.diglt (n:=n) (B:=B) 0 rfl fun hn=>Good.diglt (n:=m) (B:=C) 1 rfl fun hm=> ?_
   refine Good.weak 76 [(0,.list 1 (d64 (digits b10k n))),(1,.list 1 (d64 (digits b10k m)))] (by kernel_rfl) (.cons Ref.opnd (.cons Ref.opnd .nil)) ?_;have l1:=hx.len10 (by rw[hxn];exact hn);generalize digits b10k n=xs at*;generalize digits b10k m=ys at*;subst hxn;have hL':=hL;unfold LIM at hL';refine have_ (p:=(8*((d64 xs).length:Int)<=281474976710656)/\((((d64 xs).length:Nat):Int)<=(big:Int))/\(-9223372036854775808<=((d64 xs).length:Int)-(1:Int)/\((d64 xs).length:Int)-(1:Int)<=9223372036854775807)) (by simp only[d64_length];unfold big;omega) fun⟨q0,q1,q2⟩=>gN KT260_ok [0,1,4,5,6,7,8,9] [(15,.i6 ((((d64 xs).length:Nat):Int)-(1:Int)))] (.a5 (rfl:((d64 xs).length:Int)=((d64 xs).length:Int)) (show 0<=((d64 xs).length:Int) from Int.natCast_nonneg _) q0 q1 (wI ((((d64 xs).length:Nat):Int)-(1:Int)) ((((d64 xs).length:Nat):Int)-(1:Int)) q2)) (t:=T260) (σ:=slots 76 [(0,.list 1 (d64 xs)),(1,.list 1 (d64 ys)),(4,.nil),(5,.nil),(6,.nil),(7,.own 0 1 0 ((d64 xs).length)),(8,(.i6 ((((d64 xs).length:Nat):Int)-(1:Int))))]) (h:=[some ⟨3,1,true,(List.replicate ((d64 xs).length) [.i6 (0:Int)]),none⟩]) ?_
   rw[d64_rep,d64_length];refine Good.weak 76 [(0,_),(1,_),(6,.dig 0 C),(7,_),(8,_)] (by kernel_rfl) (.r (.r (.cons Ref.nil0d (.r (.r .nil))))) ?_;exact loop260 hx.1 hy hyn hm hm0 hL l1 hn xs.length 0 _ (rl _) hm0 (by simp) (rep_lt (by decide)) (by simp[dval,List.drop_length])
 · cases h
end
def KT296_ok:=kn
def k296:KF
 | [.agg [.bool s,.dig n B]]=>some (.tup [.int .i64 ((if n<10000000000000000 then n else 0:Nat):Int),.bool (decide (n<10000000000000000))],[])
 | _=>none
section
variable {S:Nat->Prop} {w0:World}
noncomputable abbrev T296:List Item:=[.code (nav [1,1,1,0,1,0,0] (bodyOf Tryz.f296)),.inLoop (nav [1,1,1,0,1,0,0] (bodyOf Tryz.f296)),.inBlock 0,.code (nav [1,1,1,1] (bodyOf Tryz.f296))]
theorem loop296 {s:Bool} {xs:List Nat} (hx:∀ x∈xs,x<b10k) (hl:xs.length<=4):∀ (k v:Nat),k<=xs.length->v=dval b10k (xs.drop k)->
   GF 296 S w0 (.tup [.i6 ((dval b10k xs:Nat):Int),.bool true]) T296 ⟨slots 27 [(1,.ptr 0 2 0 0),(4,.i6 ((v:Nat):Int)),(5,(.i6 (((k:Nat):Int)-1)))],[some ⟨64,2,false,[[(.bool s),(.list 1 (d64 xs))]],none⟩]⟩:=by
 intro k
 induction k with
 | zero=>
   intro v hk hv;rw[List.drop_zero] at hv;rw[show(((0:Nat):Int)-1)= -1 from rfl];refine rF KT296_ok [] .nil (V:=.tup [AV.int .i64 (v:Int),AV.bool true]) ?_
   rw[hv];exact rr
 | succ i ih=>
   intro v hk hv;rw[show(((i+1:Nat):Int)-1)=((i:Nat):Int) by omega];have hx1:=getD_lt (b:=b10k) (by decide) hx i
   have hv3:v<1000000000000:=by
     have h1:=dval_lt (b:=b10k) (by decide) (xs:=xs.drop (i+1)) (fun x h=>hx x (List.mem_of_mem_drop h));have h2:b10k^(xs.drop (i+1)).length<=b10k^3:=Nat.pow_le_pow_right (by decide) (by rw[List.length_drop];omega);have h3:b10k^3=1000000000000:=by decide
     omega
   unfold b10k at hx1;refine gN KT296_ok [1,2,3,4,5] [(15,tt),(19,.i6 ((v*10000:Nat):Int)),(23,.cptr [.i6 (xs.getD i 0:Int)] 0),(25,.i6 ((xs.getD i 0+10000*v:Nat):Int)),(17,.i6 ((i:Int)-(1:Int)))] (.c6 (iT (om ((0:Int)<=(i:Int)))) (wI ((v:Int)*(10000:Int)) ((v*10000:Nat):Int)) (show Ref (.cptr ((d64 xs).getD i []) 0) (.cptr [.i6 (xs.getD i 0:Int)] 0) from Ref.cd64 ((om (i<xs.length)))) (nn i) (show(i:Int)<((d64 xs).length:Int) by rw[d64_length];omega) (show Ref (.i6 (IntKind.i64.wrap (((v*10000:Nat):Int)+(xs.getD i 0:Int)))) (.i6 ((xs.getD i 0+10000*v:Nat):Int)) from Ref.wrI (by omega) (by omega)) (.a1 (wI ((i:Int)-(1:Int)) ((i:Int)-(1:Int))))) (t:=T296) (σ:=slots 27 [(1,.ptr 0 2 0 0),(4,.i6 ((xs.getD i 0+10000*v:Nat):Int)),(5,.i6 ((i:Int)-(1:Int)))]) (h:=[some ⟨64,2,false,[[.bool s,.list 1 (d64 xs)]],none⟩]) ?_
   refine ih _ (by omega) ?_;rw[dval_drop_succ (by omega:i<xs.length),hv];rfl
theorem a296:Ctr 296 k296:=fun args r ob h ho=>by
 unfold k296 at h
 split at h
 · rename_i s n B
   cases h;obtain⟨hx,hxn⟩:=digits_spec (b:=b10k) (by decide) n;refine af Tryz.f296 fun S w0=> ?_
   refine Good.weak 27 [(0,.agg [.bool s,.list 1 (d64 (digits b10k n))])] (by kernel_rfl) (.cons (Ref.agg (RefC.tl RefC.opnd)) .nil) ?_;refine Good.aggf (p:=(digits b10k n).length<=big) 0 rfl (fun ρ S w D vs h=> ?_) fun hb=> ?_
   · have h2:=h.cut1.2
     generalize vs.drop _=us at h2;cases h2 with
     | list f h1 h2=>rw[d64_length] at h1;omega
   have hlen : (digits b10k n).length <= 4 ↔n<10000000000000000:=by
     constructor
     · intro h
       have h1:=digits_lt_len (b:=b10k) (n:=n) (by decide);have h2:b10k^(digits b10k n).length<=b10k^4:=Nat.pow_le_pow_right (by decide) h;have h4:b10k^4=10000000000000000:=by decide
       omega
     · intro h
       exact digits_len_le (by decide) (by have h4:b10k^4=10000000000000000:=by decide
                                           omega)
   generalize digits b10k n=xs at*;subst hxn;unfold big at hb
   by_cases h4:xs.length<=4
   · refine gN KT296_ok [1,2,3,4,5] [(9,ff),(13,.i6 ((((d64 xs).length:Nat):Int)-(1:Int)))] (.a2 (iF (show ¬ ((4:Int)<((d64 xs).length:Int)) by rw[d64_length];omega)) (wI ((((d64 xs).length:Nat):Int)-(1:Int)) ((((d64 xs).length:Nat):Int)-(1:Int)) (by rw[d64_length];omega))) (t:=T296) (σ:=slots 27 [(1,.ptr 0 2 0 0),(2,.i6 (0:Int)),(3,.bool false),(4,.i6 (0:Int)),(5,(.i6 ((((d64 xs).length:Nat):Int)-(1:Int))))]) (h:=[some ⟨64,2,false,[[.bool s,.list 1 (d64 xs)]],none⟩]) ?_
     have hn:=hlen.1 h4;refine Good.weak 27 [(1,_),(4,_),(5,_)] (by kernel_rfl) (.r (.r (.r .nil))) ?_;rw[if_pos hn,decide_eq_true hn,d64_length];exact loop296 hx.1 h4 xs.length 0 (rl _) (by rw[List.drop_length];rfl)
   · have hn:¬ dval b10k xs<10000000000000000:=fun h=>h4 (hlen.2 h)
     refine rF KT296_ok [(9,tt)] (.a1 (iT (show(4:Int)<((d64 xs).length:Int) by rw[d64_length];omega))) (V:=.tup [AV.int .i64 0,AV.bool false]) ?_
     rw[if_neg hn,decide_eq_false hn];exact rr
 · cases h
end
def KT259_ok:=((kn.cons a296).cons a260).cons a201
section
variable {S0 C0:Nat->Prop} {w0:World} {Post:Value->World->Prop}
theorem p259_2_1 (u v:Nat) (h1:(v:Int)=(0:Int)) (o:((-9223372036854775808:Int)<=(u:Int))/\((u:Int)<=(9223372036854775807:Int)))
   (hg:Good Tryz.prog 259 S0 C0 w0 Post [.code .ret,.code (nav [1,1,0,0,0,1,0,1,1,1] (bodyOf Tryz.f259)),.inBlock 1,.inLoop (nav [1,1,0,0,0] (bodyOf Tryz.f259)),.inBlock 0,.code (nav [1,1,1] (bodyOf Tryz.f259))] ⟨slots 54 [(4,.ptr 0 2 0 0),(7,.i6 (u:Int)),(9,.i6 (v:Int))],[some ⟨64,2,false,[[.rz (u:Int) 64]],none⟩]⟩):
   Good Tryz.prog 259 S0 C0 w0 Post [.code (nav [1,1,0,0,0,1,0,1,1,0,1,0,0,0,0] (bodyOf Tryz.f259)),.inLoop (nav [1,1,0,0,0,1,0,1,1,0,1,0,0,0,0] (bodyOf Tryz.f259)),.inBlock 2,.code (nav [1,1,0,0,0,1,0,1,1,0,1,0,1] (bodyOf Tryz.f259)),.code (nav [1,1,0,0,0,1,0,1,1,1] (bodyOf Tryz.f259)),.inBlock 1,.inLoop (nav [1,1,0,0,0] (bodyOf Tryz.f259)),.inBlock 0,.code (nav [1,1,1] (bodyOf Tryz.f259))] ⟨slots 54 [(4,.ptr 0 2 0 0),(7,.i6 (u:Int)),(9,.i6 (v:Int))],[some ⟨64,2,false,[[.bool false,.nil]],none⟩]⟩:=
 goR mixed TT0_ok KT259_ok 12 none [4,7,9] [0] [(37,(.bool false))] (ob:=[Ref (.bool (!decide ((v:Int)=(0:Int)))) (.bool false),(-9223372036854775808:Int)<=(u:Int),(u:Int)<=(9223372036854775807:Int)]) (by decide) (by kernel_rfl)
   (.cons (Ref.bool (congrArg Bool.not (decide_eq_true h1))) (.cons (o.1) (.cons (o.2) (AllP.nil)))) hg
end
def k259:KF
 | [.agg [.rz n B],.agg [.rz m C]]=>some (.agg [.rz ((Nat.gcd n.natAbs m.natAbs:Nat):Int) (max B C)],[max B C+max B C+300<=LIM])
 | _=>none
theorem RefC.rzB {n:Int} {B C:Nat} {cs:List AV} (h:n.natAbs<2^C):RefC (.rz n B::cs) (.rz n C::cs):=fun ρ S w D vs x=>by
 cases x with
 | rz h1=>
   refine .rz ?_;cases h1 with
   | bool h2=>
     cases h2 with
     | dig xs a b c d=>exact .bool (.dig xs a b h d)
theorem RefC.mkrzN {n B:Nat} {cs:List AV}:RefC (.bool false:: .dig n B::cs) (.rz ((n:Nat):Int) B::cs):=RefC.mkrz (rl _) (by simp) (by simp)
section
variable {S:Nat->Prop} {w0:World}
noncomputable abbrev T259:List Item:=[.code (nav [1,1,0,0,0] (bodyOf Tryz.f259)),.inLoop (nav [1,1,0,0,0] (bodyOf Tryz.f259)),.inBlock 0,.code (nav [1,1,1] (bodyOf Tryz.f259))]
noncomputable abbrev T259i:List Item:=[.code (nav [1,1,0,0,0,1,0,1,1,0,1,0,0,0,0] (bodyOf Tryz.f259)),.inLoop (nav [1,1,0,0,0,1,0,1,1,0,1,0,0,0,0] (bodyOf Tryz.f259)),.inBlock 2,.code (nav [1,1,0,0,0,1,0,1,1,0,1,0,1] (bodyOf Tryz.f259)),.code (nav [1,1,0,0,0,1,0,1,1,1] (bodyOf Tryz.f259)),.inBlock 1,.inLoop (nav [1,1,0,0,0] (bodyOf Tryz.f259)),.inBlock 0,.code (nav [1,1,1] (bodyOf Tryz.f259))]
theorem inner259 {E:Nat}:∀ (f x y:Nat),y<=f->x<10000000000000000->y<10000000000000000->Nat.gcd x y<2^E->
   GF 259 S w0 (.agg [.rz ((Nat.gcd x y:Nat):Int) E]) T259i ⟨slots 54 [(4,.ptr 0 2 0 0),(7,.i6 ((x:Nat):Int)),(9,.i6 ((y:Nat):Int))],[some ⟨64,2,false,[[(.bool false),.nil]],none⟩]⟩:=by
 have last:∀ x,x<10000000000000000->Nat.gcd x 0<2^E->GF 259 S w0 (.agg [.rz ((Nat.gcd x 0:Nat):Int) E]) T259i ⟨slots 54 [(4,.ptr 0 2 0 0),(7,.i6 ((x:Nat):Int)),(9,.i6 ((0:Nat):Int))],[some ⟨64,2,false,[[(.bool false),.nil]],none⟩]⟩:=by
   intro x hx hE;rw[Nat.gcd_zero_right] at hE ⊢;exact p259_2_1 x 0 rfl ⟨by omega,by omega⟩ (gE [.agg [AV.rz ((x:Nat):Int) 64]] (Ref.agg (RefC.rzB (by simpa using hE))))
 intro f
 induction f with
 | zero=>
   intro x y hf hx hy hE;have:y=0:=by omega
   subst this;exact last x hx hE
 | succ f ih=>
   intro x y hf hx hy hE
   by_cases h0:y=0
   · subst h0;exact last x hx hE
   · refine gN KT259_ok [4,7,9] [(37,tt),(41,.i6 ((x % y:Nat):Int))] (.a3 (jT (om (¬ ((y:Int)=(0:Int))))) (show Ref (.i6 ((x:Int).tmod (y:Int))) (.i6 ((x % y:Nat):Int)) from Ref.rem (a:=x) (b:=y) rfl rfl) (om ((y:Int)≠0))) (t:=T259i) (σ:=slots 54 [(4,.ptr 0 2 0 0),(7,.i6 (y:Int)),(9,.i6 ((x % y:Nat):Int))]) (h:=[some ⟨64,2,false,[[.bool false,.nil]],none⟩]) ?_
     have hlt:x % y<y:=Nat.mod_lt _ (by omega);rw[gcd_step] at hE ⊢;exact ih _ _ (by omega) hy (by omega) hE
theorem loop259 {E:Nat} (hL:E+E+300<=LIM):∀ (f n m:Nat),m<=f->n<2^E->m<2^E->
   GF 259 S w0 (.agg [.rz ((Nat.gcd n m:Nat):Int) E]) T259 ⟨slots 54 [(4,.ptr 0 2 0 0),(5,.dig n E),(6,.dig m E)],[some ⟨64,2,false,[[(.bool false),.nil]],none⟩]⟩:=by
 have last:∀ n,n<2^E->GF 259 S w0 (.agg [.rz ((Nat.gcd n 0:Nat):Int) E]) T259 ⟨slots 54 [(4,.ptr 0 2 0 0),(5,.dig n E),(6,.dig 0 E)],[some ⟨64,2,false,[[(.bool false),.nil]],none⟩]⟩:=by
   intro n hn;rw[Nat.gcd_zero_right];refine rF KT259_ok [(17,.list 1 (d64 (digits b10k 0))),(19,ff)] (.a2 (show Ref (.dig 0 E) (.list 1 (d64 (digits b10k 0))) from Ref.opnd) (iF (show ¬ ((0:Int)<((d64 (digits b10k 0)).length:Int)) by simp[d64_length,digits_zero]))) (V:=.agg [AV.bool false,AV.dig n E]) (Ref.agg RefC.mkrzN)
 intro f
 induction f with
 | zero=>
   intro n m hf hn hm;have:m=0:=by omega
   subst this;exact last n hn
 | succ f ih=>
   intro n m hf hn hm
   by_cases h0:m=0
   · subst h0;exact last n hn
   have hy0:0<(digits b10k m).length:=(digits_pos (by decide)).2 (by omega);have hlt:n % m<m:=Nat.mod_lt _ (by omega);have nx:=ih m (n % m) (by omega) hm (by omega);rw[<- gcd_step] at nx;have v0:(0:Int)<((d64 (digits b10k m)).length:Int):=by rw[d64_length];omega
   have v1:Ref (.dig m E) (.list 1 (d64 (digits b10k m))):=Ref.opnd
   by_cases c1:n<10000000000000000
   · by_cases c2:m<10000000000000000
     · refine gR KT259_ok none [4,5,6,7,9] [0] [(17,.list 1 (d64 (digits b10k m))),(19,tt),(33,tt),(35,tt)] (.a4 v1 (iT v0) (iT c1) (iT c2)) (t:=T259i) (σ:=slots 54 [(4,.ptr 0 2 0 0),(5,.dig n E),(6,.dig m E),(7,.i6 ((if n<10000000000000000 then n else 0:Nat):Int)),(9,.i6 ((if m<10000000000000000 then m else 0:Nat):Int))]) (h:=[some ⟨64,2,false,[[.bool false,.nil]],none⟩]) ?_
       rw[if_pos c1,if_pos c2];refine Good.weak 54 [(4,_),(7,_),(9,_)] (by kernel_rfl) (.r (.r (.r .nil))) ?_;exact inner259 m n m (rl _) c1 c2 (gcd_lt hn hm)
     · refine gR KT259_ok none [4,5,6,7,9] [0] [(17,.list 1 (d64 (digits b10k m))),(19,tt),(33,tt),(35,ff)] (.a6 v1 (iT v0) (iT c1) (iF c2) (om (0<m)) hL) (t:=T259) (σ:=slots 54 [(4,.ptr 0 2 0 0),(5,.dig m E),(6,.dig (n % m) E),(7,.i6 ((if n<10000000000000000 then n else 0:Nat):Int)),(9,.i6 ((if m<10000000000000000 then m else 0:Nat):Int))]) (h:=[some ⟨64,2,false,[[.bool false,.nil]],none⟩]) ?_
       exact Good.weak 54 [(4,_),(5,_),(6,_)] (by kernel_rfl) (.r (.r (.r .nil))) nx
   · refine gR KT259_ok none [4,5,6,7,9] [0] [(17,.list 1 (d64 (digits b10k m))),(19,tt),(33,ff)] (.a5 v1 (iT v0) (iF c1) (om (0<m)) hL) (t:=T259) (σ:=slots 54 [(4,.ptr 0 2 0 0),(5,.dig m E),(6,.dig (n % m) E),(7,.i6 ((if n<10000000000000000 then n else 0:Nat):Int)),(9,.i6 ((if m<10000000000000000 then m else 0:Nat):Int))]) (h:=[some ⟨64,2,false,[[.bool false,.nil]],none⟩]) ?_
     exact Good.weak 54 [(4,_),(5,_),(6,_)] (by kernel_rfl) (.r (.r (.r .nil))) nx
theorem a259:Ctr 259 k259:=by
 refine ctr Tryz.f259 fun _ _ _ S w0 h ho=> ?_
 unfold k259 at h;split at h <;> cases h;rename_i n B m C;have hL:max B C+max B C+300<=LIM:=ho _ (by simp);refine Good.rzlt (n:=n) (B:=B) 0 rfl fun hn=>Good.rzlt (n:=m) (B:=C) 1 rfl fun hm=> ?_
 refine gR KT259_ok none [4,5,6] [2] [] .nil (t:=T259) (σ:=slots 54 [(4,.ptr 0 2 0 0),(5,.dig n.natAbs B),(6,.dig m.natAbs C)]) (h:=[some ⟨64,2,false,[[.bool false,.nil]],none⟩]) ?_
 have hn':=pow_le hn (Nat.le_max_left B C);have hm':=pow_le hm (Nat.le_max_right B C);refine Good.weak 54 [(4,_),(5,.dig n.natAbs (max B C)),(6,.dig m.natAbs (max B C))] (by kernel_rfl) (.r (.cons (Ref.digB hn') (.cons (Ref.digB hm') .nil))) ?_;exact loop259 hL _ _ _ (rl _) hn' hm'
end
def KT222_ok:=kn
def k222:KF
 | [.bool s,.dig n B]=>some (.agg [.rz (sgn s n) B],[])
 | _=>none
theorem a222:Ctr 222 k222:=by
 refine ctr Tryz.f222 fun _ _ _ S w0 h ho=> ?_
 unfold k222 at h;split at h <;> cases h;rename_i s n B;obtain⟨hx,hxn⟩:=digits_spec (b:=b10k) (by decide) n;refine Good.diglt (n:=n) (B:=B) 1 rfl fun hn=> ?_
 refine Good.weak 13 [(0,.bool s),(1,.list 1 (d64 (digits b10k n)))] (by kernel_rfl) (.r (.cons Ref.opnd .nil)) ?_
 have fold:∀ t:Bool,t=decide (sgn s n<0)->Ref (.agg [.bool t,.list 1 (d64 (digits b10k n))]) (.agg [.rz (sgn s n) B]):=fun t ht=>
   Ref.agg ((RefC.tl (c:=.bool t) (RefC.digL hx hxn hn)).trans (RefC.mkrz (rl _) ht (sgn_natAbs s n).symm))
 cases s with
 | true=>
   refine rF KT222_ok [] .nil (V:=.agg [.bool (decide ((0:Int)<((d64 (digits b10k n)).length:Int))),.list 1 (d64 (digits b10k n))]) (fold _ ?_)
   rw[sgn_neg,Bool.true_and]
   have:=digits_pos (b:=b10k) (n:=n) (by decide);simp only[decide_eq_decide];rw[d64_length];omega
 | false=>
   refine rF KT222_ok [] .nil (V:=.agg [AV.bool false,.list 1 (d64 (digits b10k n))]) (fold _ ?_)
   rw[sgn_neg,Bool.false_and]
theorem neg_sgn (n:Int):sgn (!decide (n<0)) n.natAbs= -n:=by
 by_cases a:n<0 <;> simp[a,sgn] <;> omega
def k59:KF
 | [.agg [.q x B]]=>some (.agg [.q (-x) B],[])
 | _=>none
theorem a59:Ctr 59 k59:=by
 refine ctr Tryz.f59 fun _ _ _ S w0 h ho=> ?_
 unfold k59 at h;split at h <;> cases h;rename_i x B;have K:=kn.cons a109;refine rF K [] .nil (V:=.agg [.z (sgn (!decide (x.num<0)) x.num.natAbs) B,.nat (x.den-1) B]) ?_
 refine Ref.agg (RefC.mkq (rl _) (rl _) ?_ rfl);exact neg_sgn x.num
def k228:KF
 | [.agg [.rz n B]]=>some (.agg [.rz (-n) B],[])
 | _=>none
theorem a228:Ctr 228 k228:=by
 refine ctr Tryz.f228 fun _ _ _ S w0 h ho=> ?_
 unfold k228 at h;split at h <;> cases h;rename_i n B;have K:=kn.cons a222;exact rF K [] .nil (V:=.agg [.rz (sgn (!decide (n<0)) n.natAbs) B]) (Ref.rz1 (neg_sgn n) (rl _))
def KT200_ok:=(((kn.cons a260).cons a259).cons a228).cons a222
def k200:KF
 | [.agg [.rz n B],.agg [.rz d C]]=>some (.agg [.rq ((n:Rat)/(d:Rat)) ((n:Rat)/(d:Rat)).den (max B C)],[d≠0,max B C+max B C+300<=LIM])
 | _=>none
theorem mkRat_pos {n d:Int} (hd:0<d):mkRat n d.natAbs=(n:Rat)/(d:Rat):=by
 rw[Rat.mkRat_eq_div]
 congr 1
 rw[<- Rat.intCast_natCast,Int.natAbs_of_nonneg (by omega)]
theorem div_neg_neg (n d:Int):((-n:Int):Rat)/((-d:Int):Rat)=(n:Rat)/(d:Rat):=by
 rw[Rat.intCast_neg,Rat.intCast_neg,Rat.div_def,Rat.div_def]
 have:(-(d:Rat))⁻¹= -((d:Rat)⁻¹):=by
   by_cases h:(d:Rat)=0
   · rw[h];simp
   · refine Rat.inv_eq_of_mul_eq_one ?_
     rw[Rat.neg_mul,Rat.mul_neg,Rat.neg_neg,Rat.mul_inv_cancel _ h]
 rw[this,Rat.neg_mul,Rat.mul_neg,Rat.neg_neg]
theorem fold200 {n d:Int} {B C:Nat} {X:Rat} (hX:X=mkRat n d.natAbs) (hd:0<d) {k e:Int} (h:(k=n/\e=d/\n.natAbs.gcd d.natAbs=1)\/(k=sgn (decide (n<0)) (n.natAbs/n.natAbs.gcd d.natAbs)/\e=sgn false (d.natAbs/n.natAbs.gcd d.natAbs))):
   Ref (.agg [.rz k B,.rz e C]) (.agg [.rq X X.den (max B C)]):=by
 have dn:d.natAbs≠0:=by omega
 refine Ref.agg (RefC.mkrq (Nat.le_max_left _ _) (Nat.le_max_right _ _) ?_ ?_ (.inl rfl))
 · rcases h with ⟨rfl,rfl,hg⟩ | ⟨rfl,rfl⟩
   · rw[hX,mkRat_num dn,hg];simp
   · rw[hX, <- mkRat_sgn dn]
 · rcases h with ⟨rfl,rfl,hg⟩ | ⟨rfl,rfl⟩
   · rw[hX,mkRat_den dn,hg,Nat.div_one];omega
   · rw[hX,mkRat_den dn];rfl
theorem a200:Ctr 200 k200:=by
 refine ctr Tryz.f200 fun _ _ _ S w0 h ho=> ?_
 unfold k200 at h;split at h <;> cases h;rename_i n B d C;have hd:d≠0:=ho _ (by simp);have hL:max B C+max B C+300<=LIM:=ho _ (by simp);have hB1:B<=max B C:=Nat.le_max_left _ _;have hC1:C<=max B C:=Nat.le_max_right _ _
 have one:∀ v:Nat,(digits b10k v).length=1->(digits b10k v).getD 0 0=1->v=1:=by
   intro v h1 h2;obtain⟨hx,hxn⟩:=digits_spec (b:=b10k) (by decide) v;have h3:=dval_take_succ b10k (digits b10k v) 0;rw[tkE (by omega),hxn,h2] at h3;simpa[dval] using h3
 have v4:B+(max B C)+300<=LIM:=by omega
 have v5:C+(max B C)+300<=LIM:=by omega
 have v10:0<=(0:Int):=by decide
 by_cases hneg:d<0
 · have hX:(n:Rat)/(d:Rat)=mkRat (-n) (-d).natAbs:=by rw[mkRat_pos (by omega),div_neg_neg]
   have hg:0<Nat.gcd (-n).natAbs (-d).natAbs:=Nat.gcd_pos_of_pos_right _ (by omega);have v0:Ref (.dig (Nat.gcd (-n).natAbs (-d).natAbs) (max B C)) (.list 1 (d64 (digits b10k (Nat.gcd (-n).natAbs (-d).natAbs)))):=Ref.opnd
   by_cases c1:(digits b10k (Nat.gcd (-n).natAbs (-d).natAbs)).length=1
   · have v2:Ref (.cptr ((d64 (digits b10k (Nat.gcd (-n).natAbs (-d).natAbs))).getD 0 []) 0) (.cptr [.i6 ((digits b10k (Nat.gcd (-n).natAbs (-d).natAbs)).getD 0 0:Int)] 0):=Ref.cd64 ((om (0<(digits b10k (Nat.gcd (-n).natAbs (-d).natAbs)).length)))
     have v6:((d64 (digits b10k (Nat.gcd (-n).natAbs (-d).natAbs))).length:Int)=(1:Int):=by rw[d64_length];omega
     have v7:(0:Int)<((d64 (digits b10k (Nat.gcd (-n).natAbs (-d).natAbs))).length:Int):=by rw[d64_length];omega
     by_cases c2:(digits b10k (Nat.gcd (-n).natAbs (-d).natAbs)).getD 0 0=1
     · refine rF KT200_ok [(11,tt),(20,.list 1 (d64 (digits b10k (Nat.gcd (-n).natAbs (-d).natAbs)))),(23,tt),(25,.list 1 (d64 (digits b10k (Nat.gcd (-n).natAbs (-d).natAbs)))),(26,.cptr [.i6 ((digits b10k (Nat.gcd (-n).natAbs (-d).natAbs)).getD 0 0:Int)] 0),(29,tt)] (.c6 (iT hneg) hL v0 (iT v6) v0 v2 (.a3 v10 v7 (iT (om (((digits b10k (Nat.gcd (-n).natAbs (-d).natAbs)).getD 0 0:Int)=(1:Int)))))) (V:=.agg [AV.rz (-n) B,AV.rz (-d) C]) (fold200 hX (by omega) (.inl ⟨rfl,rfl,one _ c1 c2⟩))
     · refine rF KT200_ok [(11,tt),(20,.list 1 (d64 (digits b10k (Nat.gcd (-n).natAbs (-d).natAbs)))),(23,tt),(25,.list 1 (d64 (digits b10k (Nat.gcd (-n).natAbs (-d).natAbs)))),(26,.cptr [.i6 ((digits b10k (Nat.gcd (-n).natAbs (-d).natAbs)).getD 0 0:Int)] 0),(29,ff)] (.c6 (iT hneg) hL v0 (iT v6) v0 v2 (.c6 v10 v7 (iF (om (¬ ((((digits b10k (Nat.gcd (-n).natAbs (-d).natAbs)).getD 0 0:Nat):Int)=(1:Int))))) hg v4 hg (.a1 v5))) (V:=.agg [.rz (sgn (decide ((-n)<0)) (((-n).natAbs)/(Nat.gcd (-n).natAbs (-d).natAbs))) B,.rz (sgn false (((-d).natAbs)/(Nat.gcd (-n).natAbs (-d).natAbs))) C]) (fold200 hX (by omega) (.inr ⟨rfl,rfl⟩))
   · refine rF KT200_ok [(11,tt),(20,.list 1 (d64 (digits b10k (Nat.gcd (-n).natAbs (-d).natAbs)))),(23,ff)] (.c6 (iT hneg) hL v0 (iF (show ¬ ((((d64 (digits b10k (Nat.gcd (-n).natAbs (-d).natAbs))).length:Nat):Int)=(1:Int)) by rw[d64_length];omega)) hg v4 (.a2 hg v5)) (V:=.agg [.rz (sgn (decide ((-n)<0)) (((-n).natAbs)/(Nat.gcd (-n).natAbs (-d).natAbs))) B,.rz (sgn false (((-d).natAbs)/(Nat.gcd (-n).natAbs (-d).natAbs))) C]) (fold200 hX (by omega) (.inr ⟨rfl,rfl⟩))
 · have hX:(n:Rat)/(d:Rat)=mkRat n d.natAbs:=by rw[mkRat_pos (by omega)]
   have hg:0<Nat.gcd n.natAbs d.natAbs:=Nat.gcd_pos_of_pos_right _ (by omega);have v1:Ref (.dig (Nat.gcd n.natAbs d.natAbs) (max B C)) (.list 1 (d64 (digits b10k (Nat.gcd n.natAbs d.natAbs)))):=Ref.opnd
   by_cases c1:(digits b10k (Nat.gcd n.natAbs d.natAbs)).length=1
   · have v3:Ref (.cptr ((d64 (digits b10k (Nat.gcd n.natAbs d.natAbs))).getD 0 []) 0) (.cptr [.i6 ((digits b10k (Nat.gcd n.natAbs d.natAbs)).getD 0 0:Int)] 0):=Ref.cd64 ((om (0<(digits b10k (Nat.gcd n.natAbs d.natAbs)).length)))
     have v8:((d64 (digits b10k (Nat.gcd n.natAbs d.natAbs))).length:Int)=(1:Int):=by rw[d64_length];omega
     have v9:(0:Int)<((d64 (digits b10k (Nat.gcd n.natAbs d.natAbs))).length:Int):=by rw[d64_length];omega
     by_cases c2:(digits b10k (Nat.gcd n.natAbs d.natAbs)).getD 0 0=1
     · refine rF KT200_ok [(11,ff),(20,.list 1 (d64 (digits b10k (Nat.gcd n.natAbs d.natAbs)))),(23,tt),(25,.list 1 (d64 (digits b10k (Nat.gcd n.natAbs d.natAbs)))),(26,.cptr [.i6 ((digits b10k (Nat.gcd n.natAbs d.natAbs)).getD 0 0:Int)] 0),(29,tt)] (.c6 (iF hneg) hL v1 (iT v8) v1 v3 (.a3 v10 v9 (iT (om (((digits b10k (Nat.gcd n.natAbs d.natAbs)).getD 0 0:Int)=(1:Int)))))) (V:=.agg [AV.rz n B,AV.rz d C]) (fold200 hX (by omega) (.inl ⟨rfl,rfl,one _ c1 c2⟩))
     · refine rF KT200_ok [(11,ff),(20,.list 1 (d64 (digits b10k (Nat.gcd n.natAbs d.natAbs)))),(23,tt),(25,.list 1 (d64 (digits b10k (Nat.gcd n.natAbs d.natAbs)))),(26,.cptr [.i6 ((digits b10k (Nat.gcd n.natAbs d.natAbs)).getD 0 0:Int)] 0),(29,ff)] (.c6 (iF hneg) hL v1 (iT v8) v1 v3 (.c6 v10 v9 (iF (om (¬ ((((digits b10k (Nat.gcd n.natAbs d.natAbs)).getD 0 0:Nat):Int)=(1:Int))))) hg v4 hg (.a1 v5))) (V:=.agg [.rz (sgn (decide (n<0)) (n.natAbs/(Nat.gcd n.natAbs d.natAbs))) B,.rz (sgn false (d.natAbs/(Nat.gcd n.natAbs d.natAbs))) C]) (fold200 hX (by omega) (.inr ⟨rfl,rfl⟩))
   · refine rF KT200_ok [(11,ff),(20,.list 1 (d64 (digits b10k (Nat.gcd n.natAbs d.natAbs)))),(23,ff)] (.c6 (iF hneg) hL v1 (iF (show ¬ ((((d64 (digits b10k (Nat.gcd n.natAbs d.natAbs))).length:Nat):Int)=(1:Int)) by rw[d64_length];omega)) hg v4 (.a2 hg v5)) (V:=.agg [.rz (sgn (decide (n<0)) (n.natAbs/(Nat.gcd n.natAbs d.natAbs))) B,.rz (sgn false (d.natAbs/(Nat.gcd n.natAbs d.natAbs))) C]) (fold200 hX (by omega) (.inr ⟨rfl,rfl⟩))
def k106:KF
 | [.int .i64 n,.int .i64 d]=>some (.agg [.rq ((Int.cast n:Rat)/(Int.cast d:Rat)) ((Int.cast n:Rat)/(Int.cast d:Rat)).den 64],[(-9223372036854775808:Int)<=n,n<=(9223372036854775807:Int),(-9223372036854775808:Int)<=d,d<=(9223372036854775807:Int),(d:Int)≠0])
 | _=>none
theorem a106:Ctr 106 k106:=by
 refine ctr Tryz.f106 fun _ _ _ S w0 h ho=> ?_
 unfold k106 at h;split at h <;> cases h;rename_i n d;obtain⟨o1,o2,o3,o4,o5⟩:=ho.e5;have L:=limE;have K:=(kn.cons a201).cons a200;exact rR K [] (.a6 o1 o2 o3 o4 o5 (om (max 64 64+max 64 64+300<=LIM)))
def k134:KF
 | [.agg [.rz n B],.agg [.rz m C]]=>some (.agg [.rz (n*m) (B+C)],[B+C+128<=LIM])
 | _=>none
theorem a134:Ctr 134 k134:=by
 refine ctr Tryz.f134 fun _ _ _ S w0 h ho=> ?_
 unfold k134 at h;split at h <;> cases h;rename_i n B m C;have o1:=ho.one;have K:=(kn.cons a223).cons a222;exact rF K [] (.a1 o1) (V:=.agg [.rz (sgn (!((decide (n<0))==(decide (m<0)))) (n.natAbs*m.natAbs)) (B+C)]) (Ref.rz1 (by rw[neq_xor,sgn_mulxor]) (rl _))
def k135:KF
 | [.agg [.rq x d B]]=>some (.agg [.rz (d:Int) (max B 64)],[d≠0])
 | _=>none
theorem a135:Ctr 135 k135:=by
 refine ctr Tryz.f135 fun _ _ _ S w0 h ho=> ?_
 unfold k135 at h;split at h <;> cases h;rename_i x d B;have o1:=ho.one;have K:=kn.cons a201;have v0:Ref (.dig ((d:Int).natAbs) B) (.list 1 (d64 (digits b10k (d:Int).natAbs))):=by exact Ref.opnd
 by_cases h1:(((d64 (digits b10k ((d:Nat):Int).natAbs)).length:Nat):Int)=(0:Int)
 · refine rF K [(5,.list 1 (d64 (digits b10k (d:Int).natAbs))),(7,tt)] (.a4 v0 (iT h1) (dc ((-9223372036854775808:Int)<=1)) (dc (1<=(9223372036854775807:Int)))) (V:=.agg [.rz 1 64]) ?_
   rw[d64_length] at h1;have:=(digits_pos (b:=b10k) (n:=((d:Nat):Int).natAbs) (by decide)).2 (by omega);omega
 · exact rF K [(5,.list 1 (d64 (digits b10k (d:Int).natAbs))),(7,ff)] (.a2 v0 (iF h1)) (V:=.agg [.rz (d:Int) B]) (Ref.rz1 rfl (by omega))
def k107:KF
 | [.agg [.rq x d B],.agg [.rq y e C]]=>some (.agg [.rq (x*y) (x*y).den (max B 64+max C 64)],[d=x.den,e=y.den,max B 64+max C 64+(max B 64+max C 64)+300<=LIM])
 | _=>none
theorem a107:Ctr 107 k107:=by
 refine ctr Tryz.f107 fun _ _ _ S w0 h ho=> ?_
 unfold k107 at h;split at h <;> cases h;rename_i x d B y e C;obtain⟨o1,o2,o3⟩:=ho.e3;have L:=limE;have K:=((kn.cons a200).cons a135).cons a134;have hx:=x.den_nz;have hy:=y.den_nz;have hm:((d:Nat):Int)*((e:Nat):Int)≠0:=Int.mul_ne_zero (by omega) (by omega);have hq:(Int.cast (x.num*y.num):Rat)/(Int.cast (((d:Nat):Int)*((e:Nat):Int)):Rat)=x*y:=by subst o1;subst o2;rw[Rat.mul_def,Rat.normalize_eq_mkRat,Rat.mkRat_eq_div];push_cast;rfl
 refine rF K [] (.a6 (om (B+C+128<=LIM)) (om (d≠0)) (om (e≠0)) (om ((max B 64)+(max C 64)+128<=LIM)) hm (om (max (B+C) ((max B 64)+(max C 64))+max (B+C) ((max B 64)+(max C 64))+300<=LIM))) (V:=.agg [.rq ((Int.cast (x.num*y.num):Rat)/(Int.cast ((d:Int)*(e:Int)):Rat)) (((Int.cast (x.num*y.num):Rat)/(Int.cast ((d:Int)*(e:Int)):Rat)).den) (max (B+C) ((max B 64)+(max C 64)))]) ?_
 rw[hq];exact Ref.agg (RefC.rq_le (by omega))
def KK2_ok:=(kn.cons a208).cons a202
def k203:KF
 | [.nat n B,.nat m C]=>some (.nat (n+m) (max B C+1),[max B C+1<=LIM])
 | _=>none
section
variable {S:Nat->Prop} {w0:World}
noncomputable abbrev T203:List Item:=[.code (nav [1,1,1,1,0,1,0,0] (bodyOf Tryz.f203)),.inLoop (nav [1,1,1,1,0,1,0,0] (bodyOf Tryz.f203)),.inBlock 0,.code (nav [1,1,1,1,1] (bodyOf Tryz.f203))]
theorem loop203 {xs ys:List Nat} {N B m:Nat} (hmm:m=xs.length+1) (hx:∀ x∈xs,x<b32) (hy:∀ x∈ys,x<b32) (hl:ys.length<=xs.length) (hbig:xs.length+2<=big)
   (hN:dval b32 xs+dval b32 ys=N) (hB:N<2^B):∀ (j i c:Nat) (ds:List Nat),j=xs.length-i->i<=xs.length->c<2->ds.length=xs.length+1->(∀ x∈ds,x<b32)->
   dval b32 (ds.take i)+b32^i*c=dval b32 (xs.take i)+dval b32 (ys.take i)->
   GF 203 S w0 (.nat N B) T203
     ⟨slots 58 [(0,.list 1 (d32 xs)),(1,.list 1 (d32 ys)),(5,.own 0 1 0 m),(6,.int .u64 ((c:Nat):Int)),(20,(.i6 (((d32 xs).length:Nat):Int))),(21,.i6 ((i:Nat):Int))],
      [some ⟨362,1,true,(d32 ds),none⟩]⟩:=by
 subst hmm;unfold big at hbig;intro j
 induction j with
 | zero=>
   intro i c ds hj hi hc hd hdl hinv;have hi:i=xs.length:=by omega
   subst hi;have hcm:c % 4294967296=c:=by omega
   have e0:((((d32 ds).set (0+(d32 xs).length) [(AV.int .u32 ((c % 4294967296:Nat):Int))]).drop 0).take (xs.length+1))=d32 (ds.set xs.length c):=by
     rw[hcm,d32_set,d32_length,Nat.zero_add,List.drop_zero,tkE (by simp[d32_length,hd])]
   have hlt:∀ x∈ds.set xs.length c,x<b32:=set_lt hdl (by unfold b32;omega)
   have hval:dval b32 (ds.set xs.length c)=N:=by
     have h1:=dval_take_succ b32 (ds.set xs.length c) xs.length;rw[tkE (by simp[hd]),set_take,set_getD_self (by omega)] at h1;rw[h1,hinv,tkE (rl _),tkE hl];exact hN
   refine gN KK2_ok [0,1,5,6,20,21,4] [(22,ff),(54,.int .u32 ((c % 4294967296:Nat):Int))] (.c6 (iF (show ¬ ((xs.length:Int)<((d32 xs).length:Int)) by rw[d32_length];omega)) (show Ref (.int .u32 (IntKind.u32.wrap (c:Int))) (.int .u32 ((c % 4294967296:Nat):Int)) from Ref.md32 (by rfl)) (show 0<=((d32 xs).length:Int) from Int.natCast_nonneg _) (show((d32 xs).length:Int)<(((xs.length+1):Nat):Int) by rw[d32_length];omega) (show 0+((d32 xs).length)<(d32 ds).length by rw[d32_length,d32_length];omega) (show 0+(xs.length+1)<=((d32 ds).set (0+((d32 xs).length)) [(AV.int .u32 ((c % 4294967296:Nat):Int))]).length by simp only[List.length_set,d32_length];omega) (.a2 (show((((d32 ds).set (0+((d32 xs).length)) [(AV.int .u32 ((c % 4294967296:Nat):Int))]).drop 0).take (xs.length+1))=d32 (un32 ((((d32 ds).set (0+((d32 xs).length)) [(AV.int .u32 ((c % 4294967296:Nat):Int))]).drop 0).take (xs.length+1))) from ?_) (show ∀ x∈un32 ((((d32 ds).set (0+((d32 xs).length)) [(AV.int .u32 ((c % 4294967296:Nat):Int))]).drop 0).take (xs.length+1)),x<b32 from ?_))) (t:=[.code .ret]) (σ:=slots 58 [(0,.list 1 (d32 xs)),(1,.list 1 (d32 ys)),(4,(.nat (dval b32 (un32 ((((d32 ds).set (0+((d32 xs).length)) [(.int .u32 ((c % 4294967296:Nat):Int))]).drop 0).take (xs.length+1)))) (32*((((d32 ds).set (0+((d32 xs).length)) [(.int .u32 ((c % 4294967296:Nat):Int))]).drop 0).take (xs.length+1)).length))),(5,.own 0 1 0 (xs.length+1)),(6,.int .u64 (c:Int)),(20,.i6 ((d32 xs).length:Int)),(21,.i6 (xs.length:Int))]) (h:=[none,none]) ?_
   · rw[e0,un32_d32]
   · rw[e0,un32_d32];exact hlt
   · refine good_ret1 TT0_ok (fn:=Tryz.f203) (by kernel_rfl) 4 (by kernel_rfl) rfl (by rfl) ?_
     show Ref (.nat (dval b32 (un32 ((((d32 ds).set (0+((d32 xs).length)) [(AV.int .u32 ((c % 4294967296:Nat):Int))]).drop 0).take (xs.length+1)))) _) _;rw[e0,un32_d32,hval];exact Ref.natB hB
 | succ j ih=>
   intro i c ds hj hi hc hd hdl hinv;have hlt:i<xs.length:=by omega
   have hx1:xs.getD i 0<b32:=getD_lt (by decide) hx i;have hy1:ys.getD i 0<b32:=getD_lt (by decide) hy i;unfold b32 at hx1 hy1
   have nx:∀ t,t=c+xs.getD i 0+ys.getD i 0->GF 203 S w0 (.nat N B) T203
     ⟨slots 58 [(0,.list 1 (d32 xs)),(1,.list 1 (d32 ys)),(5,.own 0 1 0 (xs.length+1)),(6,.int .u64 ((t/4294967296:Nat):Int)),(20,(.i6 (((d32 xs).length:Nat):Int))),(21,.i6 ((i+1:Nat):Int))],
      [some ⟨362,1,true,((d32 ds).set (0+i) [(AV.int .u32 ((t % 4294967296:Nat):Int))]),none⟩]⟩:=by
     intro t ht;rw[d32_set,Nat.zero_add];refine ih (i+1) (t/4294967296) _ (by omega) (by omega) (by omega) (by simp[hd]) (set_lt hdl (by unfold b32;omega)) ?_;rw[dval_take_succ,dval_take_succ b32 xs,dval_take_succ b32 ys,set_take,set_getD_self (by omega),Nat.pow_succ];have h1:t=4294967296*(t/4294967296)+t % 4294967296:=(Nat.div_add_mod _ _).symm
     have h2:b32^i*(t % 4294967296)+b32^i*b32*(t/4294967296)=b32^i*t:=by
       rw[Nat.mul_assoc, <- Nat.mul_add]
       congr 1
       unfold b32;omega
     have h3:b32^i*t=b32^i*c+b32^i*xs.getD i 0+b32^i*ys.getD i 0:=by rw[ht,Nat.mul_add,Nat.mul_add]
     omega
   have v0:(i:Int)<((d32 xs).length:Int):=by rw[d32_length];omega
   by_cases hyl:i<ys.length
   · refine have_ (p:=(i<xs.length)/\((i:Int)<((d32 xs).length:Int))/\(0<=(xs.getD i 0:Int)/\(xs.getD i 0:Int)<=18446744073709551615)/\(0<=(c:Int)+(xs.getD i 0:Int)/\(c:Int)+(xs.getD i 0:Int)<=18446744073709551615)/\(i<ys.length)/\((i:Int)<((d32 ys).length:Int))/\(0<=(ys.getD i 0:Int)/\(ys.getD i 0:Int)<=18446744073709551615)/\(0<=((c+xs.getD i 0:Nat):Int)+(ys.getD i 0:Int)/\((c+xs.getD i 0:Nat):Int)+(ys.getD i 0:Int)<=18446744073709551615)/\((i:Int)<(((xs.length+1):Nat):Int))/\(0+i<(d32 ds).length)/\(-9223372036854775808<=(i:Int)+(1:Int)/\(i:Int)+(1:Int)<=9223372036854775807)) ?_ fun⟨q0,q1,q2,q3,q4,q5,q6,q7,q8,q9,q10⟩=>gN KK2_ok [0,1,5,6,20,21,4] [(22,tt),(27,.cptr [.int .u32 (xs.getD i 0:Int)] 0),(29,.int .u64 (xs.getD i 0:Int)),(30,.int .u64 ((c+xs.getD i 0:Nat):Int)),(34,tt),(38,.cptr [.int .u32 (ys.getD i 0:Int)] 0),(40,.int .u64 (ys.getD i 0:Int)),(41,.int .u64 ((c+xs.getD i 0+ys.getD i 0:Nat):Int)),(45,.int .u32 (((c+xs.getD i 0+ys.getD i 0) % 4294967296:Nat):Int)),(48,.int .u64 (((c+xs.getD i 0+ys.getD i 0)/4294967296:Nat):Int)),(49,.i6 ((i+1:Nat):Int))] (.c6 (iT v0) (Ref.cd32 q0) (nn i) q1 (wU (xs.getD i 0:Int) (xs.getD i 0:Int) q2) (wU ((c:Int)+(xs.getD i 0:Int)) ((c+xs.getD i 0:Nat):Int) q3) (.c6 (iT (show(i:Int)<((d32 ys).length:Int) by rw[d32_length];omega)) (Ref.cd32 q4) (nn i) q5 (wU (ys.getD i 0:Int) (ys.getD i 0:Int) q6) (wU (((c+xs.getD i 0:Nat):Int)+(ys.getD i 0:Int)) ((c+xs.getD i 0+ys.getD i 0:Nat):Int) q7) (.c6 (show Ref (.int .u32 (IntKind.u32.wrap ((c+xs.getD i 0+ys.getD i 0:Nat):Int))) (.int .u32 (((c+xs.getD i 0+ys.getD i 0) % 4294967296:Nat):Int)) from Ref.md32 (by rfl)) (nn i) q8 q9 (show Ref (.int .u64 (((c+xs.getD i 0+ys.getD i 0:Nat):Int).fdiv (2^(min (32:Int).toNat 64)))) (.int .u64 (((c+xs.getD i 0+ys.getD i 0)/4294967296:Nat):Int)) from Ref.shrc (c:=min (Int.toNat _) _) (by rfl) (by decide)) (dc (0<=(32:Int))) (.a1 (wI ((i:Int)+(1:Int)) ((i+1:Nat):Int) q10))))) (nx _ rfl)
     simp only[d32_length,hd];omega
   · have hz:ys.getD i 0=0:=by simp[gdE,Nat.le_of_not_lt hyl]
     refine have_ (p:=(i<xs.length)/\((i:Int)<((d32 xs).length:Int))/\(0<=(xs.getD i 0:Int)/\(xs.getD i 0:Int)<=18446744073709551615)/\(0<=(c:Int)+(xs.getD i 0:Int)/\(c:Int)+(xs.getD i 0:Int)<=18446744073709551615)/\((i:Int)<(((xs.length+1):Nat):Int))/\(0+i<(d32 ds).length)/\(-9223372036854775808<=(i:Int)+(1:Int)/\(i:Int)+(1:Int)<=9223372036854775807)) ?_ fun⟨q0,q1,q2,q3,q4,q5,q6⟩=>gN KK2_ok [0,1,5,6,20,21,4] [(22,tt),(27,.cptr [.int .u32 (xs.getD i 0:Int)] 0),(29,.int .u64 (xs.getD i 0:Int)),(30,.int .u64 ((c+xs.getD i 0:Nat):Int)),(34,ff),(45,.int .u32 (((c+xs.getD i 0) % 4294967296:Nat):Int)),(48,.int .u64 (((c+xs.getD i 0)/4294967296:Nat):Int)),(49,.i6 ((i+1:Nat):Int))] (.c6 (iT v0) (Ref.cd32 q0) (nn i) q1 (wU (xs.getD i 0:Int) (xs.getD i 0:Int) q2) (wU ((c:Int)+(xs.getD i 0:Int)) ((c+xs.getD i 0:Nat):Int) q3) (.c6 (iF (show ¬ ((i:Int)<((d32 ys).length:Int)) by rw[d32_length];omega)) (show Ref (.int .u32 (IntKind.u32.wrap ((c+xs.getD i 0:Nat):Int))) (.int .u32 (((c+xs.getD i 0) % 4294967296:Nat):Int)) from Ref.md32 (by rfl)) (nn i) q4 q5 (show Ref (.int .u64 (((c+xs.getD i 0:Nat):Int).fdiv (2^(min (32:Int).toNat 64)))) (.int .u64 (((c+xs.getD i 0)/4294967296:Nat):Int)) from Ref.shrc (c:=min (Int.toNat _) _) (by rfl) (by decide)) (.a2 (dc (0<=(32:Int))) (wI ((i:Int)+(1:Int)) ((i+1:Nat):Int) q6)))) (nx _ (by rw[hz,Nat.add_zero]))
     simp only[d32_length,hd];omega
theorem a203:Ctr 203 k203:=fun args r ob h ho=>by
 unfold k203 at h
 split at h
 · rename_i n B m C
   cases h;have hL:max B C+1<=LIM:=ho _ (by simp);unfold LIM at hL;obtain⟨⟨hx,hxl⟩,hxn⟩:=digits_spec (b:=b32) (by decide) n;obtain⟨⟨hy,hyl⟩,hyn⟩:=digits_spec (b:=b32) (by decide) m;refine af Tryz.f203 fun S w0=> ?_
   refine Good.natlt (n:=n) (B:=B) 0 rfl fun hn=>Good.natlt (n:=m) (B:=C) 1 rfl fun hm=> ?_
   refine Good.weak 58 [(0,.list 1 (d32 (digits b32 n))),(1,.list 1 (d32 (digits b32 m)))] (by kernel_rfl) (.cons Ref.opn (.cons Ref.opn .nil)) ?_;have l1:=Dig.len ⟨hx,hxl⟩ (by rw[hxn];exact hn);have l2:=Dig.len ⟨hy,hyl⟩ (by rw[hyn];exact hm);generalize digits b32 n=xs at*;generalize digits b32 m=ys at*
   have hB:n+m<2^(max B C+1):=by
     have h1:=Nat.pow_le_pow_right (by decide:0<2) (Nat.le_max_left B C);have h2:=Nat.pow_le_pow_right (by decide:0<2) (Nat.le_max_right B C);rw[Nat.pow_succ];omega
   by_cases hlt:xs.length<ys.length
   · refine have_ (p:=(-9223372036854775808<=((d32 ys).length:Int)+(1:Int)/\((d32 ys).length:Int)+(1:Int)<=9223372036854775807)/\(4*(((d32 ys).length+1:Nat):Int)<=281474976710656)/\((((d32 ys).length+1:Nat):Int)<=(big:Int))) (by simp only[d32_length];unfold big;omega) fun⟨q0,q1,q2⟩=>gN KK2_ok [0,1,5,6,20,21] [(12,tt),(17,.i6 (((d32 ys).length+1:Nat):Int))] (.a6 (iT (show((d32 xs).length:Int)<((d32 ys).length:Int) by simp only[d32_length];omega)) (wI ((((d32 ys).length:Nat):Int)+(1:Int)) (((d32 ys).length+1:Nat):Int) q0) (rfl:(((d32 ys).length+1:Nat):Int)=(((d32 ys).length+1:Nat):Int)) (nn ((d32 ys).length+1)) q1 q2) (t:=T203) (σ:=slots 58 [(0,.list 1 (d32 ys)),(1,.list 1 (d32 xs)),(5,.own 0 1 0 ((d32 ys).length+1)),(6,.int .u64 (0:Int)),(20,.i6 ((d32 ys).length:Int)),(21,.i6 (0:Int))]) (h:=[some ⟨362,1,true,(List.replicate ((d32 ys).length+1) [.int .u32 (0:Int)]),none⟩]) ?_
     rw[d32_rep];refine loop203 (by rw[d32_length]) hy hx (by omega) (by unfold big;omega) (by omega) hB _ 0 0 _ rfl (by omega) (by omega) (by simp[d32_length]) (rep_lt (by decide)) (by simp[dval])
   · refine have_ (p:=(-9223372036854775808<=((d32 xs).length:Int)+(1:Int)/\((d32 xs).length:Int)+(1:Int)<=9223372036854775807)/\(4*(((d32 xs).length+1:Nat):Int)<=281474976710656)/\((((d32 xs).length+1:Nat):Int)<=(big:Int))) (by simp only[d32_length];unfold big;omega) fun⟨q0,q1,q2⟩=>gN KK2_ok [0,1,5,6,20,21] [(12,ff),(17,.i6 (((d32 xs).length+1:Nat):Int))] (.a6 (iF (show ¬ ((((d32 xs).length:Nat):Int)<((d32 ys).length:Int)) by simp only[d32_length];omega)) (wI ((((d32 xs).length:Nat):Int)+(1:Int)) (((d32 xs).length+1:Nat):Int) q0) (rfl:(((d32 xs).length+1:Nat):Int)=(((d32 xs).length+1:Nat):Int)) (nn ((d32 xs).length+1)) q1 q2) (t:=T203) (σ:=slots 58 [(0,.list 1 (d32 xs)),(1,.list 1 (d32 ys)),(5,.own 0 1 0 ((d32 xs).length+1)),(6,.int .u64 (0:Int)),(20,.i6 ((d32 xs).length:Int)),(21,.i6 (0:Int))]) (h:=[some ⟨362,1,true,(List.replicate ((d32 xs).length+1) [.int .u32 (0:Int)]),none⟩]) ?_
     rw[d32_rep];refine loop203 (by rw[d32_length]) hx hy (by omega) (by unfold big;omega) (by omega) hB _ 0 0 _ rfl (by omega) (by omega) (by simp[d32_length]) (rep_lt (by decide)) (by simp[dval])
 · cases h
end
def k111:KF
 | [.agg [.q x B]]=>some (.nat x.den (B+1),[max B 64+1<=LIM])
 | _=>none
theorem a111:Ctr 111 k111:=by
 refine ctr Tryz.f111 fun _ _ _ S w0 h ho=> ?_
 unfold k111 at h;split at h <;> cases h;rename_i x B;have o1:=ho.one;have L:=limE;have K:=(kn.cons a203).cons a202;refine Good.qlt (x:=x) (B:=B) 0 rfl fun q1 q2=> ?_
 refine rF K [] (.a3 (dc (0<=(1:Int))) (dc ((1:Int)<18446744073709551616)) o1) (V:=.nat ((x.den-1)+1) (max B 64+1)) ?_
 rw[den_pos'];exact Ref.natB (by have:=den_pos' x;rw[Nat.pow_succ];omega)
def k29:KF
 | [.agg [.q x B],.agg [.q y C]]=>some (.agg [.q (x*y) (B+C+2)],[B+C+200<=LIM])
 | _=>none
theorem a29:Ctr 29 k29:=by
 refine ctr Tryz.f29 fun _ _ _ S w0 h ho=> ?_
 unfold k29 at h;split at h <;> cases h;rename_i x B y C;have o1:=ho.one;have L:=limE;have K:=(((kn.cons a115).cons a112).cons a111).cons a109;refine rF K [] (.a6 (om (B+C+128<=LIM)) (om (max B 64+1<=LIM)) (om (max C 64+1<=LIM)) (om ((B+1)+(C+1)+128<=LIM)) (show 0<(x.den*y.den) by exact Nat.mul_pos x.den_pos y.den_pos) (om (max (B+C) ((B+1)+(C+1))+128<=LIM))) (V:=.agg [.q (mkRat (sgn (!((decide (x.num<0))==(decide (y.num<0)))) (x.num.natAbs*y.num.natAbs)) (x.den*y.den)) (max (B+C) ((B+1)+(C+1)))]) ?_
 refine Ref.q1 ?_ (by omega);rw[neq_xor,sgn_mulxor,mul_mk]
def KT24_ok:=(((kn.cons a107).cons a106).cons a105).cons a29
noncomputable abbrev c24T0:List Item:=[.code (nav [1,1,1,1,1,0,1,0,0] (bodyOf Tryz.f24)),.inLoop (nav [1,1,1,1,1,0,1,0,0] (bodyOf Tryz.f24)),.inBlock 0,.code (nav [1,1,1,1,1,1] (bodyOf Tryz.f24))]
def numB (n d:Int):Rat:=(Int.cast n:Rat)/(Int.cast (if d=0 then 1 else d):Rat)
def numV (n d p:Int):Rat:=numB n d^(p.toNat % 4+1)
def okN (n d p:Int):Prop:=(-9223372036854775808:Int)<=n/\n<=(9223372036854775807:Int)/\(-9223372036854775808:Int)<=d/\d<=(9223372036854775807:Int)/\0<=p/\p<=255
def k24:KF
 | [.agg [.int .i64 n,.int .i64 d,.int .u8 p]]=>some (.tup [.agg [.q (numV n d p) 300],.agg [.rq (numV n d p) (numV n d p).den 300]],[okN n d p])
 | _=>none
section
variable {S:Nat->Prop} {w0:World}
theorem loop24 (n d:Int) (p:Nat) (x:Rat):∀ (f k:Nat) (y:Rat) (E F:Nat),k+f=p % 4->y=x^(k+1)->E=64+66*k->F=64+64*k->
   GF 24 S w0 (.tup [.agg [.q (x^(p % 4+1)) 300],.agg [.rq (x^(p % 4+1)) (x^(p % 4+1)).den 300]])
   c24T0
   ⟨slots 44 [(1,.ptr 0 3 0 0),(2,.ptr 1 3 0 0),(3,.ptr 2 4 0 0),(4,.ptr 3 3 0 0),(6,.ptr 4 4 0 0),(7,.ptr 5 3 0 0),(8,.ptr 6 4 0 0),(9,.int .u8 ((k:Nat):Int))],
     [some ⟨29,3,false,[[(.i6 n),(.i6 d),(.int .u8 ((p:Nat):Int))]],none⟩,some ⟨56,3,false,[[(.q 0 0)]],none⟩,some ⟨66,4,false,[[(.rq 0 0 0)]],none⟩,some ⟨56,3,false,[[(.q x 64)]],none⟩,some ⟨66,4,false,[[(.rq x x.den 64)]],none⟩,some ⟨56,3,false,[[(.q y E)]],none⟩,some ⟨66,4,false,[[(.rq y y.den F)]],none⟩]⟩:=by
 intro f;have v0:Ref (.int .u8 ((p:Int).tmod (4:Int))) (.int .u8 ((p % 4:Nat):Int)):=Ref.rem (a:=p) (b:=4) rfl rfl
 induction f with
 | zero=>
   intro k y E F h hy hE hF;have hk:k=p % 4:=by omega
   subst hy;subst hE;subst hF;refine rF KT24_ok [(32,.int .u8 ((p % 4:Nat):Int)),(33,ff)] (.a3 v0 (dc ((4:Int)≠0)) (iF (om (¬ ((k:Int)<((p % 4:Nat):Int)))))) (V:=.tup [.agg [.q (x^(k+1)) (64+66*k)],.agg [.rq (x^(k+1)) (x^(k+1)).den (64+64*k)]]) ?_
   rw[<- hk];show Ref (.tup [.agg [.q (x^(k+1)) (64+66*k)],.agg [.rq (x^(k+1)) (x^(k+1)).den (64+64*k)]]) (.tup [.agg [.q (x^(k+1)) 300],.agg [.rq (x^(k+1)) (x^(k+1)).den 300]]);have h1:64+66*k<=300:=by omega
   have h2:64+64*k<=300:=by omega
   exact Ref.tup2 (Ref.agg (RefC.q_le h1)) (Ref.agg (RefC.rq_le h2)) rfl rfl rfl rfl
 | succ f ih=>
   intro k y E F h hy hE hF;refine gR KT24_ok none [1,2,3,4,6,7,8,9] [0,1,2,3,4,5,6] [(32,.int .u8 ((p % 4:Nat):Int)),(33,tt),(35,.int .u8 ((k+1:Nat):Int))] (.c6 v0 (dc ((4:Int)≠0)) (iT (om ((k:Int)<((p % 4:Nat):Int)))) (show E+64+200<=LIM by unfold LIM;omega) (rfl:y.den=y.den) (rfl:x.den=x.den) (.a2 (show max F 64+max 64 64+(max F 64+max 64 64)+300<=LIM by unfold LIM;omega) (wB ((k:Int)+(1:Int)) ((k+1:Nat):Int)))) (t:=c24T0) (σ:=slots 44 [(1,.ptr 0 3 0 0),(2,.ptr 1 3 0 0),(3,.ptr 2 4 0 0),(4,.ptr 3 3 0 0),(6,.ptr 4 4 0 0),(7,.ptr 5 3 0 0),(8,.ptr 6 4 0 0),(9,.int .u8 ((k+1:Nat):Int))]) (h:=[some ⟨29,3,false,[[.i6 n,.i6 d,.int .u8 (p:Int)]],none⟩,some ⟨56,3,false,[[.q 0 0]],none⟩,some ⟨66,4,false,[[.rq 0 0 0]],none⟩,some ⟨56,3,false,[[.q x 64]],none⟩,some ⟨66,4,false,[[.rq x x.den 64]],none⟩,some ⟨56,3,false,[[.q (y*x) (E+64+2)]],none⟩,some ⟨66,4,false,[[.rq (y*x) ((y*x).den) (max F 64+max 64 64)]],none⟩]) ?_
   exact ih (k+1) (y*x) _ _ (by omega) (by rw[hy,Rat.pow_succ x (k+1)]) (by omega) (by omega)
end
theorem a24:Ctr 24 k24:=by
 refine ctr Tryz.f24 fun _ _ _ S w0 h ho=> ?_
 unfold k24 at h;split at h <;> cases h;rename_i n d p;obtain⟨o1,o2,o3,o4,o5,o6⟩:okN n d p:=ho _ (by simp);clear ho;obtain⟨p,rfl⟩:=Int.eq_ofNat_of_zero_le o5;have hp:(((p:Nat):Int)).toNat=p:=by simp
 unfold numV;rw[hp]
 by_cases hd:d=0
 · have hB:numB n d=(Int.cast n:Rat)/(Int.cast 1:Rat):=by unfold numB;rw[if_pos hd]
   rw[hB];have v0:(-9223372036854775808:Int)<=1:=by decide
   have v1:1<=(9223372036854775807:Int):=by decide
   exact gR KT24_ok none [1,2,3,4,6,7,8,9] [0,1,2,4,6,7,8] [(12,tt)] (.c6 (iT hd) o1 o2 v0 v1 o1 (.a4 o2 v0 v1 (dc ((1:Int)≠0)))) (loop24 n 1 p _ (p % 4) 0 _ _ _ (by omega) (Rat.pow_one _).symm rfl rfl)
 · have hB:numB n d=(Int.cast n:Rat)/(Int.cast d:Rat):=by unfold numB;rw[if_neg hd]
   rw[hB];exact gR KT24_ok none [1,2,3,4,6,7,8,9] [0,1,2,4,6,7,8] [(12,ff)] (.c6 (iF hd) o1 o2 o3 o4 o1 (.a4 o2 o3 o4 hd)) (loop24 n d p _ (p % 4) 0 _ _ _ (by omega) (Rat.pow_one _).symm rfl rfl)
def k23:KF
 | [.agg [.int .i64 n,.int .i64 d,.int .u8 p,.int .i64 m,.int .i64 e,.int .u8 r]]=>some (.tup [.agg [.q (numV n d p) 300,.q (numV m e r) 300],.agg [.rq (numV n d p) (numV n d p).den 300,.rq (numV m e r) (numV m e r).den 300]],[okN n d p,okN m e r])
 | _=>none
theorem a23:Ctr 23 k23:=by
 refine ctr Tryz.f23 fun _ _ _ S w0 h ho=> ?_
 unfold k23 at h;split at h <;> cases h;rename_i n d p m e r;obtain⟨o1,o2⟩:=ho.e2;have K:=kn.cons a24;exact rR K [] (.a2 o1 o2)
end Go.Av
namespace Go.Av
open Go.RowKit
structure NumD where
 n:Int
 d:Int
 p:Int
 deriving Inhabited
structure SpotD where
 x:NumD
 z:NumD
 deriving Inhabited
structure PtD where
 x:Rat
 z:Rat
 deriving Inhabited
def NumD.ok (a:NumD):Prop:=okN a.n a.d a.p
def NumD.val (a:NumD):Rat:=numV a.n a.d a.p
def SpotD.ok (a:SpotD):Prop:=a.x.ok/\a.z.ok
def SpotD.pt (a:SpotD):PtD:=⟨a.x.val,a.z.val⟩
def unNum (a:NumD):List AV:=[.int .i64 a.n,.int .i64 a.d,.int .u8 a.p]
def unSpot (s:SpotD):List AV:=[.int .i64 s.x.n,.int .i64 s.x.d,.int .u8 s.x.p,.int .i64 s.z.n,.int .i64 s.z.d,.int .u8 s.z.p]
def reNum:List AV->NumD
 | [.int _ n,.int _ d,.int _ p]=>⟨n,d,p⟩
 | _=>default
def reSpot:List AV->SpotD
 | [.int _ n,.int _ d,.int _ p,.int _ m,.int _ e,.int _ q]=>⟨⟨n,d,p⟩,⟨m,e,q⟩⟩
 | _=>default
def unP (B:Nat) (a:PtD):List AV:=[.q a.x B,.q a.z B]
def unRP (B:Nat) (a:PtD):List AV:=[.rq a.x a.x.den B,.rq a.z a.z.den B]
theorem re_un {α:Type} {f:List AV->α} {g:α->List AV} (h:∀ a,f (g a)=a) (l:List α):(l.map g).map f=l:=by
 rw[List.map_map];conv=>rhs;rw[<- List.map_id l]
 exact List.map_congr_left fun a _=>h a
theorem reNum_un (l:List NumD):(l.map unNum).map reNum=l:=re_un (fun _=>rfl) l
theorem reSpot_un (l:List SpotD):(l.map unSpot).map reSpot=l:=re_un (fun _=>rfl) l
theorem map_getD {α:Type} [Inhabited α] {f:α->List AV} {xs:List α} {i:Nat} (h:i<xs.length):(xs.map f).getD i []=f (xs.getD i default):=by
 simp[List.getD_eq_getElem?_getD,List.getElem?_eq_getElem h]
theorem Ref.cmap {α:Type} [Inhabited α] {f:α->List AV} {xs:List α} {i:Nat} (h:i<xs.length):Ref (.cptr ((xs.map f).getD i []) 0) (.cptr (f (xs.getD i default)) 0):=Ref.eq (by rw[map_getD h])
theorem map_range {α:Type} [Inhabited α] {f:α->List AV} (xs:List α):xs.map f=(List.range xs.length).map fun i=>f (xs.getD i default):=by
 refine List.ext_getElem (by simp) fun i h1 h2=> ?_
 simp at h1;simp[List.getD_eq_getElem?_getD,h1]
theorem getD_mem {α:Type} [Inhabited α] {xs:List α} {i:Nat} (h:i<xs.length):xs.getD i default∈xs:=by
 simp[List.getD_eq_getElem?_getD,List.getElem?_eq_getElem h]
section
theorem rows2 (n:Nat) (X Y:Nat->List AV) (st:AV->AV->Nat->List (Option ABlk)->St) (k l e e' ty ty':Nat)
   (h0:0<n->Good P f S0 C0 w0 Post todo (st (.own k e 0 1) (.own l e' 0 1) 1 [some ⟨ty,e,true,[X 0],none⟩,some ⟨ty',e',true,[Y 0],none⟩])->Good P f S0 C0 w0 Post todo (st .nil .nil 0 []))
   (hs:∀ i A B,0<i->i<n->A.length=i->B.length=i->Good P f S0 C0 w0 Post todo (st (.own k e 0 (i+1)) (.own l e' 0 (i+1)) (i+1) [some ⟨ty,e,true,A++ [X i],none⟩,some ⟨ty',e',true,B++ [Y i],none⟩])->
     Good P f S0 C0 w0 Post todo (st (.own k e 0 i) (.own l e' 0 i) i [some ⟨ty,e,true,A,none⟩,some ⟨ty',e',true,B,none⟩]))
   (hz:∀ A B,0<n->A.length=n->B.length=n->Good P f S0 C0 w0 Post todo (st (.list e A) (.list e' B) n [])->Good P f S0 C0 w0 Post todo (st (.own k e 0 n) (.own l e' 0 n) n [some ⟨ty,e,true,A,none⟩,some ⟨ty',e',true,B,none⟩]))
   (hn:n=0->Good P f S0 C0 w0 Post todo (st (.list e []) (.list e' []) 0 [])->Good P f S0 C0 w0 Post todo (st .nil .nil 0 []))
   (hX:XS=(List.range n).map X) (hY:YS=(List.range n).map Y) (hend:Good P f S0 C0 w0 Post todo (st (.list e XS) (.list e' YS) n [])):Good P f S0 C0 w0 Post todo (st .nil .nil 0 []):=by
 subst hX;subst hY
 by_cases hp:n=0
 · subst hp;exact hn rfl hend
 · have key:∀ f' i,0<i->i+f'=n->Good P f S0 C0 w0 Post todo (st (.own k e 0 i) (.own l e' 0 i) i [some ⟨ty,e,true,(List.range i).map X,none⟩,some ⟨ty',e',true,(List.range i).map Y,none⟩]):=by
     intro f'
     induction f' with
     | zero=>
       intro i hi h;have:i=n:=by omega
       subst this;exact hz _ _ (by omega) (by simp) (by simp) hend
     | succ f' ih=>
       intro i hi h;have nx:=ih (i+1) (by omega) (by omega);rw[List.range_succ,List.map_append,List.map_append] at nx;exact hs i _ _ hi (by omega) (by simp) (by simp) nx
   exact h0 (by omega) (key (n-1) 1 (by omega) (by omega))
theorem Good.weakB (l i:Nat) (hl:h[l]? =some (some b)) (he:b.elems[i]? =some el) (hr:RefC el el')
   (hg:Good P f S0 C0 w0 Post todo ⟨σ,h.set l (some { b with elems:=b.elems.set i el' })⟩):Good P f S0 C0 w0 Post todo ⟨σ,h⟩:=by
 refine hg.map fun ρ D a w R=>⟨ρ,D, ?_⟩
 have hlen:l<h.length:=(List.getElem?_eq_some_iff.1 hl).1
 have hget:∀ (j:Nat) (c:ABlk),(h.set l (some { b with elems:=b.elems.set i el' }))[j]? =some (some c)->∃ d,h[j]? =some (some d)/\c.pin=d.pin/\(c=d\/j=l/\d=b/\c={ b with elems:=b.elems.set i el' }):=by
   intro j c hc;rw[List.getElem?_set] at hc
   split at hc
   · rename_i hjl;subst hjl
     injection hc with hc;injection hc with hc;subst hc;exact⟨b,hl,rfl,.inr ⟨rfl,rfl,rfl⟩⟩
   · exact⟨c,hc,rfl,.inl rfl⟩
 have hget':∀ (j:Nat) (d:ABlk),h[j]? =some (some d)->∃ c,(h.set l (some { b with elems:=b.elems.set i el' }))[j]? =some (some c):=by
   intro j d hd;rw[List.getElem?_set]
   split
   · rename_i hjl;subst hjl
     exact⟨_,rfl⟩
   · exact⟨d,hd⟩
 have hS:Sof S0 ρ (h.set l (some { b with elems:=b.elems.set i el' }))=Sof S0 ρ h:=by
   funext k;apply propext
   constructor
   · rintro(h | ⟨j,c,hc,e⟩)
     · exact .inl h
     · obtain⟨d,hd,_⟩:=hget j c hc;exact .inr ⟨j,d,hd,e⟩
   · rintro(h | ⟨j,d,hd,e⟩)
     · exact .inl h
     · obtain⟨c,hc⟩:=hget' j d hd;exact .inr ⟨j,c,hc,e⟩
 exact {
   defers:=R.defers
   len:=R.len
   tmps:=fun t v hv=>by rw[hS];exact R.tmps t v hv
   heap := fun j c hc=>by
     obtain⟨d,hd,_,hcd⟩:=hget j c hc;rw[hS];rcases hcd with rfl | ⟨rfl,rfl,rfl⟩
     · exact R.heap j c hd
     · obtain⟨h1,arr,h2,h3,h4⟩:=R.heap j d hd
       refine⟨h1,arr,h2,by simpa using h3,fun m el2 hm=> ?_⟩
       dsimp only at hm ⊢
       rw[List.getElem?_set] at hm
       split at hm
       · rename_i him;subst him
         split at hm
         · injection hm with hm;subst hm
           exact hr _ _ _ _ _ (h4 i el he)
         · cases hm
       · exact h4 m el2 hm
   inj:=fun j j' c c' hc hc' e=>by
     obtain⟨d,hd,_⟩:=hget j c hc;obtain⟨d',hd',_⟩:=hget j' c' hc';exact R.inj j j' d d' hd hd' e
   lt:=R.lt
   dlt:=fun i hi=>by
     have:=R.dlt i hi;simpa using this
   chg:=R.chg
   mine:=fun j c hc=>by
     obtain⟨d,hd,hp,_⟩:=hget j c hc
     have:=R.mine j d hd;unfold Mine at this ⊢
     rw[hp];exact this }
end
end Go.Av
namespace Go.Av
open Go.Proofs Go.RowKit
def abcB:ByteArray:=ByteArray.mk #[97,98,99,100,101,102,103,104,105,106,107,108,109,110,111,112,113,114,115,116,117,118,119,120,121,122]
def nameB (i:Nat):ByteArray:=if i<26 then abcB.extract i (i+1) else ByteArray.mk #[]
def k102:KF
 | [.int .i64 i]=>some (.str (nameB i.toNat),[0<=i,i.toNat<=4611686018427387904])
 | _=>none
theorem a102:Ctr 102 k102:=by
 refine ctr Tryz.f102 fun _ _ _ S w0 h ho=> ?_
 unfold k102 at h;split at h <;> cases h;rename_i i;obtain⟨o1000,o1⟩:=ho.e2;obtain⟨i,rfl⟩:=Int.eq_ofNat_of_zero_le o1000;clear o1000;replace o1:i<=4611686018427387904:=o1;have hz:abcB.size=26:=by decide
 have v0:Ref (.str (ByteArray.mk #[97,98,99,100,101,102,103,104,105,106,107,108,109,110,111,112,113,114,115,116,117,118,119,120,121,122])) (.str abcB):=by exact rr
 by_cases h1:((i:Nat):Int)<((abcB.size:Nat):Int)
 · refine rF .nil [(3,.str abcB),(7,tt),(11,.i6 ((i+1:Nat):Int))] (.c6 v0 (iT h1) (wI ((i:Int)+(1:Int)) ((i+1:Nat):Int) (by omega)) (nn (i+1)) (om (((i+1:Nat):Int)<=(abcB.size:Int))) (nn i) (.a1 (om ((i:Int)<=((i+1:Nat):Int))))) (V:=.str (abcB.extract i (i+1))) (r:=.str (nameB i)) ?_
   unfold nameB;rw[if_pos (by omega)];exact rr
 · refine rF .nil [(3,.str abcB),(7,ff)] (.a2 v0 (iF h1)) (V:=.str (ByteArray.mk #[])) (r:=.str (nameB i)) ?_
   unfold nameB;rw[if_neg (by omega)];exact rr
end Go.Av
namespace Go.Av
open Go.RowKit
def rePt:List AV->PtD
 | [.q x _,.q z _]=>⟨x,z⟩
 | _=>default
theorem rePt_un {B:Nat} (l:List PtD):(l.map (unP B)).map rePt=l:=re_un (fun v=>by cases v;rfl) l
structure LimbD where
 par:Int
 at_:SpotD
 c:SpotD
 ma:NumD
 inr:NumD
 low:NumD
 high:NumD
 shape:List SpotD
 deriving Inhabited
structure BodyD where
 name:ByteArray
 par:Int
 at_:PtD
 c:PtD
 ma:Rat
 inr:Rat
 low:Rat
 high:Rat
 shape:List PtD
 deriving Inhabited
def unLimb (v:LimbD):List AV:=[.int .i64 v.par,.int .i64 v.at_.x.n,.int .i64 v.at_.x.d,.int .u8 v.at_.x.p,.int .i64 v.at_.z.n,.int .i64 v.at_.z.d,.int .u8 v.at_.z.p,.int .i64 v.c.x.n,.int .i64 v.c.x.d,.int .u8 v.c.x.p,.int .i64 v.c.z.n,.int .i64 v.c.z.d,.int .u8 v.c.z.p,.int .i64 v.ma.n,.int .i64 v.ma.d,.int .u8 v.ma.p,.int .i64 v.inr.n,.int .i64 v.inr.d,.int .u8 v.inr.p,.int .i64 v.low.n,.int .i64 v.low.d,.int .u8 v.low.p,.int .i64 v.high.n,.int .i64 v.high.d,.int .u8 v.high.p,.list 6 (v.shape.map unSpot)]
def unBody (B:Nat) (v:BodyD):List AV:=[.str v.name,.int .i64 v.par,.q v.at_.x B,.q v.at_.z B,.q v.ma B,.q v.inr B,.q v.c.x B,.q v.c.z B,.q v.low B,.q v.high B,.list 6 (v.shape.map (unP B))]
def unRBody (B:Nat) (v:BodyD):List AV:=[.int .i64 v.par,.rq v.at_.x v.at_.x.den B,.rq v.at_.z v.at_.z.den B,.rq v.ma v.ma.den B,.rq v.inr v.inr.den B,.rq v.c.x v.c.x.den B,.rq v.c.z v.c.z.den B,.rq v.low v.low.den B,.rq v.high v.high.den B,.list 8 (v.shape.map (unRP B))]
def reBody:List AV->BodyD
 | [.str name,.int _ par,.q at_x _,.q at_z _,.q ma _,.q inr _,.q cx _,.q cz _,.q low _,.q high _,.list _ shape]=>⟨name,par,⟨at_x,at_z⟩,⟨cx,cz⟩,ma,inr,low,high,shape.map rePt⟩
 | _=>default
theorem reBody_un {B:Nat} (l:List BodyD):(l.map (unBody B)).map reBody=l:=re_un (fun v=>by cases v;simp only[reBody,unBody,rePt_un]) l
def reLimb:List AV->LimbD
 | [.int _ par,.int _ at_xn,.int _ at_xd,.int _ at_xp,.int _ at_zn,.int _ at_zd,.int _ at_zp,.int _ cxn,.int _ cxd,.int _ cxp,.int _ czn,.int _ czd,.int _ czp,.int _ man,.int _ mad,.int _ map,.int _ inrn,.int _ inrd,.int _ inrp,.int _ lown,.int _ lowd,.int _ lowp,.int _ highn,.int _ highd,.int _ highp,.list _ shape]=>⟨par,⟨⟨at_xn,at_xd,at_xp⟩,⟨at_zn,at_zd,at_zp⟩⟩,⟨⟨cxn,cxd,cxp⟩,⟨czn,czd,czp⟩⟩,⟨man,mad,map⟩,⟨inrn,inrd,inrp⟩,⟨lown,lowd,lowp⟩,⟨highn,highd,highp⟩,shape.map reSpot⟩
 | _=>default
theorem reLimb_un (l:List LimbD):(l.map unLimb).map reLimb=l:=re_un (fun v=>by cases v;simp only[reLimb,unLimb,reSpot_un]) l
def LimbD.ok (v:LimbD):Prop:=v.at_.ok/\v.c.ok/\v.ma.ok/\v.inr.ok/\v.low.ok/\v.high.ok/\(∀ s∈v.shape,s.ok)/\v.shape.length*128<=140737488355328
def LimbD.real (name:ByteArray) (v:LimbD):BodyD:=⟨name,v.par,v.at_.pt,v.c.pt,v.ma.val,v.inr.val,v.low.val,v.high.val,v.shape.map SpotD.pt⟩
structure CordD where
 a:Int
 b:Int
 from_:SpotD
 to:SpotD
 k:NumD
 deriving Inhabited
structure CordyD where
 a:Int
 b:Int
 from_:PtD
 to:PtD
 k:Rat
 deriving Inhabited
def unCord (v:CordD):List AV:=[.int .i64 v.a,.int .i64 v.b,.int .i64 v.from_.x.n,.int .i64 v.from_.x.d,.int .u8 v.from_.x.p,.int .i64 v.from_.z.n,.int .i64 v.from_.z.d,.int .u8 v.from_.z.p,.int .i64 v.to.x.n,.int .i64 v.to.x.d,.int .u8 v.to.x.p,.int .i64 v.to.z.n,.int .i64 v.to.z.d,.int .u8 v.to.z.p,.int .i64 v.k.n,.int .i64 v.k.d,.int .u8 v.k.p]
def unCordy (B:Nat) (v:CordyD):List AV:=[.int .i64 v.a,.int .i64 v.b,.q v.from_.x B,.q v.from_.z B,.q v.to.x B,.q v.to.z B,.q v.k B]
def unRCordy (B:Nat) (v:CordyD):List AV:=[.int .i64 v.a,.int .i64 v.b,.rq v.from_.x v.from_.x.den B,.rq v.from_.z v.from_.z.den B,.rq v.to.x v.to.x.den B,.rq v.to.z v.to.z.den B,.rq v.k v.k.den B]
def reCordy:List AV->CordyD
 | [.int _ a,.int _ b,.q from_x _,.q from_z _,.q tox _,.q toz _,.q k _]=>⟨a,b,⟨from_x,from_z⟩,⟨tox,toz⟩,k⟩
 | _=>default
theorem reCordy_un {B:Nat} (l:List CordyD):(l.map (unCordy B)).map reCordy=l:=re_un (fun v=>by cases v;simp only[reCordy,unCordy]) l
def reCord:List AV->CordD
 | [.int _ a,.int _ b,.int _ from_xn,.int _ from_xd,.int _ from_xp,.int _ from_zn,.int _ from_zd,.int _ from_zp,.int _ toxn,.int _ toxd,.int _ toxp,.int _ tozn,.int _ tozd,.int _ tozp,.int _ kn,.int _ kd,.int _ kp]=>⟨a,b,⟨⟨from_xn,from_xd,from_xp⟩,⟨from_zn,from_zd,from_zp⟩⟩,⟨⟨toxn,toxd,toxp⟩,⟨tozn,tozd,tozp⟩⟩,⟨kn,kd,kp⟩⟩
 | _=>default
theorem reCord_un (l:List CordD):(l.map unCord).map reCord=l:=re_un (fun v=>by cases v;simp only[reCord,unCord]) l
def CordD.ok (v:CordD):Prop:=v.from_.ok/\v.to.ok/\v.k.ok
def CordD.real (v:CordD):CordyD:=⟨v.a,v.b,v.from_.pt,v.to.pt,v.k.val⟩
structure DriveD where
 body:Int
 t:NumD
 h:NumD
 c:NumD
 m:NumD
 deriving Inhabited
structure MotorD where
 body:Int
 t:Rat
 h:Rat
 c:Rat
 m:Rat
 deriving Inhabited
def unDrive (v:DriveD):List AV:=[.int .i64 v.body,.int .i64 v.t.n,.int .i64 v.t.d,.int .u8 v.t.p,.int .i64 v.h.n,.int .i64 v.h.d,.int .u8 v.h.p,.int .i64 v.c.n,.int .i64 v.c.d,.int .u8 v.c.p,.int .i64 v.m.n,.int .i64 v.m.d,.int .u8 v.m.p]
def unMotor (B:Nat) (v:MotorD):List AV:=[.int .i64 v.body,.q v.t B,.q v.h B,.q v.c B,.q v.m B]
def unRMotor (B:Nat) (v:MotorD):List AV:=[.int .i64 v.body,.rq v.t v.t.den B,.rq v.h v.h.den B,.rq v.c v.c.den B,.rq v.m v.m.den B]
def reMotor:List AV->MotorD
 | [.int _ body,.q t _,.q h _,.q c _,.q m _]=>⟨body,t,h,c,m⟩
 | _=>default
theorem reMotor_un {B:Nat} (l:List MotorD):(l.map (unMotor B)).map reMotor=l:=re_un (fun v=>by cases v;simp only[reMotor,unMotor]) l
def reDrive:List AV->DriveD
 | [.int _ body,.int _ tn,.int _ td,.int _ tp,.int _ hn,.int _ hd,.int _ hp,.int _ cn,.int _ cd,.int _ cp,.int _ mn,.int _ md,.int _ mp]=>⟨body,⟨tn,td,tp⟩,⟨hn,hd,hp⟩,⟨cn,cd,cp⟩,⟨mn,md,mp⟩⟩
 | _=>default
theorem reDrive_un (l:List DriveD):(l.map unDrive).map reDrive=l:=re_un (fun v=>by cases v;simp only[reDrive,unDrive]) l
def DriveD.ok (v:DriveD):Prop:=v.t.ok/\v.h.ok/\v.c.ok/\v.m.ok
def DriveD.real (v:DriveD):MotorD:=⟨v.body,v.t.val,v.h.val,v.c.val,v.m.val⟩
structure SoleD where
 body:Int
 pts:List SpotD
 fr:NumD
 deriving Inhabited
structure FootD where
 body:Int
 pts:List PtD
 fr:Rat
 deriving Inhabited
def unSole (v:SoleD):List AV:=[.int .i64 v.body,.list 6 (v.pts.map unSpot),.int .i64 v.fr.n,.int .i64 v.fr.d,.int .u8 v.fr.p]
def unFoot (B:Nat) (v:FootD):List AV:=[.int .i64 v.body,.list 6 (v.pts.map (unP B)),.q v.fr B]
def unRFoot (B:Nat) (v:FootD):List AV:=[.int .i64 v.body,.list 8 (v.pts.map (unRP B)),.rq v.fr v.fr.den B]
def reFoot:List AV->FootD
 | [.int _ body,.list _ pts,.q fr _]=>⟨body,pts.map rePt,fr⟩
 | _=>default
theorem reFoot_un {B:Nat} (l:List FootD):(l.map (unFoot B)).map reFoot=l:=re_un (fun v=>by cases v;simp only[reFoot,unFoot,rePt_un]) l
def reSole:List AV->SoleD
 | [.int _ body,.list _ pts,.int _ frn,.int _ frd,.int _ frp]=>⟨body,pts.map reSpot,⟨frn,frd,frp⟩⟩
 | _=>default
theorem reSole_un (l:List SoleD):(l.map unSole).map reSole=l:=re_un (fun v=>by cases v;simp only[reSole,unSole,reSpot_un]) l
def SoleD.ok (v:SoleD):Prop:=(∀ s∈v.pts,s.ok)/\v.pts.length*128<=140737488355328/\v.fr.ok
def SoleD.real (v:SoleD):FootD:=⟨v.body,v.pts.map SpotD.pt,v.fr.val⟩
structure RigD where
 limbs:List LimbD
 springs:List CordD
 tendons:List CordD
 drives:List DriveD
 soles:List SoleD
 deriving Inhabited
structure MachD where
 name:ByteArray
 bodies:List BodyD
 springs:List CordyD
 tendons:List CordyD
 motors:List MotorD
 feet:List FootD
 deriving Inhabited
def unRig (r:RigD):List AV:=[.list 26 (r.limbs.map unLimb),.list 17 (r.springs.map unCord),.list 17 (r.tendons.map unCord),.list 13 (r.drives.map unDrive),.list 5 (r.soles.map unSole)]
def reRig:List AV->RigD
 | [.list _ a,.list _ b,.list _ c,.list _ d,.list _ e]=>⟨a.map reLimb,b.map reCord,c.map reCord,d.map reDrive,e.map reSole⟩
 | _=>default
def unMach (B:Nat) (m:MachD):List AV:=[.str m.name,.list 27 (m.bodies.map (unBody B)),.list 17 (m.springs.map (unCordy B)),.list 17 (m.tendons.map (unCordy B)),.list 13 (m.motors.map (unMotor B)),.list 5 (m.feet.map (unFoot B))]
def unRMach (B:Nat) (m:MachD):List AV:=[.list 34 (m.bodies.map (unRBody B)),.list 22 (m.springs.map (unRCordy B)),.list 22 (m.tendons.map (unRCordy B)),.list 17 (m.motors.map (unRMotor B)),.list 6 (m.feet.map (unRFoot B))]
def reMach:List AV->MachD
 | [.str a,.list _ b,.list _ c,.list _ d,.list _ e,.list _ f]=>⟨a,b.map reBody,c.map reCordy,d.map reCordy,e.map reMotor,f.map reFoot⟩
 | _=>default
theorem reMach_un {B:Nat} (m:MachD):reMach (unMach B m)=m:=by cases m;simp only[reMach,unMach,reBody_un,reCordy_un,reMotor_un,reFoot_un]
def rigB:ByteArray:=ByteArray.mk #[114,105,103]
def bodiesOf (l:List LimbD):List BodyD:=(List.range l.length).map fun i=>(l.getD i default).real (nameB i)
def RigD.real (r:RigD):MachD:=⟨rigB,bodiesOf r.limbs,r.springs.map CordD.real,r.tendons.map CordD.real,r.drives.map DriveD.real,r.soles.map SoleD.real⟩
def RigD.ok (r:RigD):Prop:=(∀ v∈r.limbs,v.ok)/\(∀ v∈r.springs,v.ok)/\(∀ v∈r.tendons,v.ok)/\(∀ v∈r.drives,v.ok)/\(∀ v∈r.soles,v.ok)/\
 r.limbs.length*1024<=140737488355328/\r.springs.length*1024<=140737488355328/\r.tendons.length*1024<=140737488355328/\r.drives.length*1024<=140737488355328/\r.soles.length*1024<=140737488355328
end Go.Av
namespace Go.Av
open Go.Proofs Go.RowKit
def KT53_ok:=kn.cons a23
def spotsP (l:List SpotD):List (List AV):=(l.map SpotD.pt).map (unP 300)
def spotsR (l:List SpotD):List (List AV):=(l.map SpotD.pt).map (unRP 300)
def k53:KF
 | [.list 6 X]=>some (.tup [.list 6 (spotsP (X.map reSpot)),.list 8 (spotsR (X.map reSpot))],[X=(X.map reSpot).map unSpot,∀ s∈X.map reSpot,s.ok,X.length*128<=140737488355328])
 | _=>none
section
variable {S:Nat->Prop} {w0:World}
theorem loop53 (ls:List SpotD) (hok:∀ s∈ls,s.ok) (hL:ls.length*128<=140737488355328):
   GF 53 S w0 (.tup [.list 6 (spotsP ls),.list 8 (spotsR ls)])
   [.code (nav [1,1,1,0,1,0,0] (bodyOf Tryz.f53)),.inLoop (nav [1,1,1,0,1,0,0] (bodyOf Tryz.f53)),.inBlock 0,.code (nav [1,1,1,1] (bodyOf Tryz.f53))]
   ⟨slots 33 [(0,.list 6 (ls.map unSpot)),(4,.nil),(5,.nil),(6,.i6 ((0:Nat):Int))],[]⟩:=by
 refine rows2 (XS:=spotsP ls) (YS:=spotsR ls) ls.length (fun i=>unP 300 (ls.getD i default).pt) (fun i=>unRP 300 (ls.getD i default).pt) (fun a b i h=>⟨slots 33 [(0,.list 6 (ls.map unSpot)),(4,a),(5,b),(6,.i6 ((i:Nat):Int))],h⟩) 0 1 6 8 58 68 ?_ ?_ ?_ ?_ (by rw[spotsP,List.map_map];exact map_range (f:=fun s=>unP 300 s.pt) ls) (by rw[spotsR,List.map_map];exact map_range (f:=fun s=>unRP 300 s.pt) ls) ?_
 · intro hp hg
   have hs:=hok _ (getD_mem hp);have v0:(0:Int)<((ls.map unSpot).length:Int):=by rw[lmE];omega
   exact gR KT53_ok none [0,4,5,6] [4,6] [(12,tt),(18,.cptr (unSpot (ls.getD 0 default)) 0),(14,.i6 ((0+1:Nat):Int))] (.c6 (iT v0) (show Ref (.cptr ((ls.map unSpot).getD 0 []) 0) (.cptr (unSpot (ls.getD 0 default)) 0) from Ref.cmap hp) (nn 0) v0 hs.1 hs.2 (.c6 r1 (dc (0<1)) (dc (1*112<=140737488355328)) (dc (1<=big)) r1 (dc (0<1)) (.a3 (dc (1*128<=140737488355328)) (dc (1<=big)) (wI ((0:Int)+(1:Int)) ((0+1:Nat):Int))))) hg
 · intro i A B hi hlt hA hB hg
   have hs:=hok _ (getD_mem hlt);have v1:(i:Int)<((ls.map unSpot).length:Int):=by rw[lmE];omega
   exact gR KT53_ok none [0,4,5,6] [6,8] [(12,tt),(18,.cptr (unSpot (ls.getD i default)) 0),(14,.i6 ((i+1:Nat):Int))] (.c6 (iT v1) (show Ref (.cptr ((ls.map unSpot).getD i []) 0) (.cptr (unSpot (ls.getD i default)) 0) from Ref.cmap hlt) (nn i) v1 hs.1 hs.2 (.c6 r1 (show i=A.length from hA.symm) (om ((i+1)*112<=140737488355328)) (show i+1<=big by unfold big;omega) r1 (show i=B.length from hB.symm) (.a3 (om ((i+1)*128<=140737488355328)) (show i+1<=big by unfold big;omega) (wI ((i:Int)+(1:Int)) ((i+1:Nat):Int))))) hg
 · intro A B hp hA hB hg
   refine Good.freezeD (b:=⟨58,6,true,A,none⟩) 0 (by rfl) (by rfl) (.cons (by show 0+ls.length<=A.length;omega) .nil) .nil ?_;refine Good.freezeD (b:=⟨68,8,true,B,none⟩) 1 (by rfl) (by rfl) (.cons (by show 0+ls.length<=B.length;omega) .nil) .nil ?_;refine Good.tidy [] (by decide) (σ':=slots 33 [(0,.list 6 (ls.map unSpot)),(4,.list 6 ((A.drop 0).take ls.length)),(5,.list 8 ((B.drop 0).take ls.length)),(6,.i6 ((ls.length:Nat):Int))]) (h':=[]) (by kernel_rfl) (by kernel_rfl) ?_;rw[List.drop_zero,List.drop_zero,tkE (by omega),tkE (by omega)];exact hg
 · intro h0 hg
   exact Good.weak 33 [(0,_),(4,_),(5,_),(6,_)] (by kernel_rfl) (.r (.cons Ref.nilL (.cons Ref.nilL (.r .nil)))) hg
 · exact rR KT53_ok [(12,ff)] (.a1 (iF (show ¬ ((ls.length:Int)<((ls.map unSpot).length:Int)) by rw[lmE];omega)))
end
theorem a53:Ctr 53 k53:=fun args r ob h ho=>by
 unfold k53 at h
 split at h
 · rename_i X
   cases h;have o1:X=(X.map reSpot).map unSpot:=ho _ (by simp);have o2:∀ s∈X.map reSpot,s.ok:=ho _ (by simp);have o3:(X.map reSpot).length*128<=140737488355328:=by rw[lmE];exact ho _ (by simp)
   clear ho;generalize X.map reSpot=ls at*;subst o1;refine af Tryz.f53 fun S w0=> ?_
   have e:st0 [AV.list 6 (ls.map unSpot)] Tryz.f53.ntmps=⟨slots 33 [(0,.list 6 (ls.map unSpot))],[]⟩:=by kernel_rfl
   rw[e];clear e;exact gN KT53_ok [0,4,5,6] [] .nil (loop53 ls o2 o3)
 · cases h
def KT18_ok:=(((kn.cons a102).cons a53).cons a24).cons a23
def k18:KF
 | [.agg R]=>some (.tup [.agg (unMach 300 (reRig R).real),.agg (unRMach 300 (reRig R).real)],[R=unRig (reRig R),(reRig R).ok])
 | _=>none
theorem AllP.of_eq {l l':List Prop} (h:l=l') (k:AllP l'):AllP l:=by rw[h];exact k
theorem RefC.nilL {e:Nat} {cs:List AV}:RefC (.nil::cs) (.list e []::cs):=RefC.cons (fun ρ S w D vs h=>by
 cases h with
 | nil h2=>exact .list (fun _=>[]) (by simp) (by unfold big;omega) (by simp) (by simp) (by simp) h2) RefC.rfl'
theorem Good.castH {P:Program} {f:FuncId} {S0 C0:Nat->Prop} {w0:World} {Post:Value->World->Prop} {todo:List Item} {σ:List AV} {h h':List (Option ABlk)} (e:h=h') (hg:Good P f S0 C0 w0 Post todo ⟨σ,h'⟩):Good P f S0 C0 w0 Post todo ⟨σ,h⟩:=by rw[e];exact hg
theorem reRig_un (r:RigD):reRig (unRig r)=r:=by cases r;simp only[reRig,unRig,reLimb_un,reCord_un,reDrive_un,reSole_un]
section
variable {S:Nat->Prop} {w0:World}
noncomputable abbrev Q18 (S:Nat->Prop) (w0:World) (r:RigD):=PostF S w0 (.tup [.agg (unMach 300 r.real),.agg (unRMach 300 r.real)])
abbrev c18_0:ABlk:=⟨41,6,false,[[.str (ByteArray.mk #[]),.nil,.nil,.nil,.nil,.nil]],none⟩
abbrev c18_1:ABlk:=⟨48,5,false,[[.nil,.nil,.nil,.nil,.nil]],none⟩
abbrev c18_3 (r:RigD):List AV:=[.list 6 (spotsP (r.soles.getD 0 default).pts),.list 8 (spotsR (r.soles.getD 0 default).pts)]
theorem loop18_4 (r:RigD) (hok:r.ok):Good Tryz.prog 18 S No w0 (Q18 S w0 r) [.code (nav [1,1,1,1,1,1,1,0,1,0,0] (bodyOf Tryz.f18)),.inLoop (nav [1,1,1,1,1,1,1,0,1,0,0] (bodyOf Tryz.f18)),.inBlock 8,.code (nav [1,1,1,1,1,1,1,1] (bodyOf Tryz.f18))] ⟨slots 359 [(1,.ptr 0 5 0 0),(2,.ptr 1 6 0 0),(3,.ptr 2 5 0 0),(4,.ptr 3 6 0 0),(5,.ptr 4 5 0 0),(48,.i6 ((0:Nat):Int))],[some ⟨27,5,false,[unRig r],none⟩,some (c18_0),some (c18_1),some ⟨41,6,false,[[.str rigB,.list 27 (r.real.bodies.map (unBody 300)),.list 17 (r.real.springs.map (unCordy 300)),.list 17 (r.real.tendons.map (unCordy 300)),.list 13 (r.real.motors.map (unMotor 300)),.nil]],none⟩,some ⟨48,5,false,[[.list 34 (r.real.bodies.map (unRBody 300)),.list 22 (r.real.springs.map (unRCordy 300)),.list 22 (r.real.tendons.map (unRCordy 300)),.list 17 (r.real.motors.map (unRMotor 300)),.nil]],none⟩]⟩:=by
 have hl:=hok.2.2.2.2.2.2.2.2.2;refine rows2 (XS:=r.real.feet.map (unFoot 300)) (YS:=r.real.feet.map (unRFoot 300)) r.soles.length (fun i=>unFoot 300 ((r.soles.getD i default).real)) (fun i=>unRFoot 300 ((r.soles.getD i default).real)) (fun a b i h=>⟨slots 359 [(1,.ptr 0 5 0 0),(2,.ptr 1 6 0 0),(3,.ptr 2 5 0 0),(4,.ptr 3 6 0 0),(5,.ptr 4 5 0 0),(48,.i6 ((i:Nat):Int))],[some ⟨27,5,false,[unRig r],none⟩,some (c18_0),some (c18_1),some ⟨41,6,false,[[.str rigB,.list 27 (r.real.bodies.map (unBody 300)),.list 17 (r.real.springs.map (unCordy 300)),.list 17 (r.real.tendons.map (unCordy 300)),.list 13 (r.real.motors.map (unMotor 300)),a]],none⟩,some ⟨48,5,false,[[.list 34 (r.real.bodies.map (unRBody 300)),.list 22 (r.real.springs.map (unRCordy 300)),.list 22 (r.real.tendons.map (unRCordy 300)),.list 17 (r.real.motors.map (unRMotor 300)),b]],none⟩]++h⟩) 5 6 5 6 245 186 ?_ ?_ ?_ ?_ (by simp only[RigD.real,List.map_map];exact map_range (f:=fun v=>unFoot 300 v.real) r.soles) (by simp only[RigD.real,List.map_map];exact map_range (f:=fun v=>unRFoot 300 v.real) r.soles) ?_
 · intro hlt hg
   have hv:=hok.2.2.2.2.1 _ (getD_mem hlt);have v0:(0:Int)<((r.soles.map unSole).length:Int):=by rw[lmE];omega
   exact gR KT18_ok none [1,2,3,4,5,48] [0,1,2,3,4,11,13] [(317,tt),(323,.cptr (unSole (r.soles.getD 0 default)) 0),(328,.tup (c18_3 r)),(319,.i6 ((0+1:Nat):Int))] (.c6 (iT v0) (show Ref (.cptr ((r.soles.map unSole).getD 0 []) 0) (.cptr (unSole (r.soles.getD 0 default)) 0) from Ref.cmap hlt) (nn 0) v0 (show Ref (.tup [.list 6 (spotsP (((r.soles.getD 0 default).pts.map unSpot).map reSpot)),.list 8 (spotsR (((r.soles.getD 0 default).pts.map unSpot).map reSpot))]) (.tup (c18_3 r)) from Ref.eq (by rw[reSpot_un])) (show((r.soles.getD 0 default).pts.map unSpot)=(((r.soles.getD 0 default).pts.map unSpot).map reSpot).map unSpot by rw[reSpot_un]) (.c6 (show ∀ s∈((r.soles.getD 0 default).pts.map unSpot).map reSpot,s.ok by rw[reSpot_un];exact hv.1) (show((r.soles.getD 0 default).pts.map unSpot).length*128<=140737488355328 by rw[lmE];exact hv.2.1) hv.2.2 r1 (dc (0<1)) (dc (1*88<=140737488355328)) (.a6 (dc (1<=big)) r1 (dc (0<1)) (dc (1*96<=140737488355328)) (dc (1<=big)) (wI ((0:Int)+(1:Int)) ((0+1:Nat):Int))))) hg
 · intro i A B hi hlt hA hB hg
   have hv:=hok.2.2.2.2.1 _ (getD_mem hlt);have v1:(i:Int)<((r.soles.map unSole).length:Int):=by rw[lmE];omega
   exact gR KT18_ok none [1,2,3,4,5,48] [0,1,2,3,4,13,15] [(317,tt),(323,.cptr (unSole (r.soles.getD i default)) 0),(328,.tup [.list 6 (spotsP (r.soles.getD i default).pts),.list 8 (spotsR (r.soles.getD i default).pts)]),(319,.i6 ((i+1:Nat):Int))] (.c6 (iT v1) (show Ref (.cptr ((r.soles.map unSole).getD i []) 0) (.cptr (unSole (r.soles.getD i default)) 0) from Ref.cmap hlt) (nn i) v1 (show Ref (.tup [.list 6 (spotsP (((r.soles.getD i default).pts.map unSpot).map reSpot)),.list 8 (spotsR (((r.soles.getD i default).pts.map unSpot).map reSpot))]) (.tup [.list 6 (spotsP (r.soles.getD i default).pts),.list 8 (spotsR (r.soles.getD i default).pts)]) from Ref.eq (by rw[reSpot_un])) (show((r.soles.getD i default).pts.map unSpot)=(((r.soles.getD i default).pts.map unSpot).map reSpot).map unSpot by rw[reSpot_un]) (.c6 (show ∀ s∈((r.soles.getD i default).pts.map unSpot).map reSpot,s.ok by rw[reSpot_un];exact hv.1) (show((r.soles.getD i default).pts.map unSpot).length*128<=140737488355328 by rw[lmE];exact hv.2.1) hv.2.2 r1 (show i=A.length from hA.symm) (om ((i+1)*88<=140737488355328)) (.a6 (show i+1<=big by unfold big;omega) r1 (show i=B.length from hB.symm) (om ((i+1)*96<=140737488355328)) (show i+1<=big by unfold big;omega) (wI ((i:Int)+(1:Int)) ((i+1:Nat):Int))))) hg
 · intro A B hp hA hB hg
   refine Good.freezeD (b:=⟨245,5,true,A,none⟩) 5 (by rfl) (by rfl) .on (.oe (.a1 (om (0+r.soles.length<=A.length)))) ?_;refine Good.freezeD (b:=⟨186,6,true,B,none⟩) 6 (by rfl) (by rfl) .on (.oe (.a1 (om (0+r.soles.length<=B.length)))) ?_;refine Good.tidy [0,1,2,3,4] (by decide) (σ':=slots 359 [(1,.ptr 0 5 0 0),(2,.ptr 1 6 0 0),(3,.ptr 2 5 0 0),(4,.ptr 3 6 0 0),(5,.ptr 4 5 0 0),(48,.i6 ((r.soles.length:Nat):Int))]) (h':=[some ⟨27,5,false,[unRig r],none⟩,some (c18_0),some (c18_1),some ⟨41,6,false,[[.str rigB,.list 27 (r.real.bodies.map (unBody 300)),.list 17 (r.real.springs.map (unCordy 300)),.list 17 (r.real.tendons.map (unCordy 300)),.list 13 (r.real.motors.map (unMotor 300)),.list 5 ((A.drop 0).take r.soles.length)]],none⟩,some ⟨48,5,false,[[.list 34 (r.real.bodies.map (unRBody 300)),.list 22 (r.real.springs.map (unRCordy 300)),.list 22 (r.real.tendons.map (unRCordy 300)),.list 17 (r.real.motors.map (unRMotor 300)),.list 6 ((B.drop 0).take r.soles.length)]],none⟩]) (by kernel_rfl) (by kernel_rfl) ?_;rw[List.drop_zero,List.drop_zero,tkE (by omega),tkE (by omega)];exact hg
 · intro h0 hg
   refine Good.weakB (el':=[.str rigB,.list 27 (r.real.bodies.map (unBody 300)),.list 17 (r.real.springs.map (unCordy 300)),.list 17 (r.real.tendons.map (unCordy 300)),.list 13 (r.real.motors.map (unMotor 300)),.list 5 []]) 3 0 (by rfl) (by rfl) (RefC.tl (RefC.tl (RefC.tl (RefC.tl (RefC.tl RefC.nilL))))) (Good.weakB (el':=[.list 34 (r.real.bodies.map (unRBody 300)),.list 22 (r.real.springs.map (unRCordy 300)),.list 22 (r.real.tendons.map (unRCordy 300)),.list 17 (r.real.motors.map (unRMotor 300)),.list 6 []]) 4 0 (by rfl) (by rfl) (RefC.tl (RefC.tl (RefC.tl (RefC.tl RefC.nilL)))) (Good.castH (by kernel_rfl) hg))
 · exact rR KT18_ok [(317,ff)] (.a1 (iF (show ¬ ((r.soles.length:Int)<((r.soles.map unSole).length:Int)) by rw[lmE];omega)))
theorem loop18_3 (r:RigD) (hok:r.ok):Good Tryz.prog 18 S No w0 (Q18 S w0 r) [.code (nav [1,1,1,1,1,1,0,1,0,0] (bodyOf Tryz.f18)),.inLoop (nav [1,1,1,1,1,1,0,1,0,0] (bodyOf Tryz.f18)),.inBlock 6,.code (nav [1,1,1,1,1,1,1] (bodyOf Tryz.f18))] ⟨slots 359 [(1,.ptr 0 5 0 0),(2,.ptr 1 6 0 0),(3,.ptr 2 5 0 0),(4,.ptr 3 6 0 0),(5,.ptr 4 5 0 0),(38,.i6 ((0:Nat):Int))],[some ⟨27,5,false,[unRig r],none⟩,some (c18_0),some (c18_1),some ⟨41,6,false,[[.str rigB,.list 27 (r.real.bodies.map (unBody 300)),.list 17 (r.real.springs.map (unCordy 300)),.list 17 (r.real.tendons.map (unCordy 300)),.nil,.nil]],none⟩,some ⟨48,5,false,[[.list 34 (r.real.bodies.map (unRBody 300)),.list 22 (r.real.springs.map (unRCordy 300)),.list 22 (r.real.tendons.map (unRCordy 300)),.nil,.nil]],none⟩]⟩:=by
 have hl:=hok.2.2.2.2.2.2.2.2.1;refine rows2 (XS:=r.real.motors.map (unMotor 300)) (YS:=r.real.motors.map (unRMotor 300)) r.drives.length (fun i=>unMotor 300 ((r.drives.getD i default).real)) (fun i=>unRMotor 300 ((r.drives.getD i default).real)) (fun a b i h=>⟨slots 359 [(1,.ptr 0 5 0 0),(2,.ptr 1 6 0 0),(3,.ptr 2 5 0 0),(4,.ptr 3 6 0 0),(5,.ptr 4 5 0 0),(38,.i6 ((i:Nat):Int))],[some ⟨27,5,false,[unRig r],none⟩,some (c18_0),some (c18_1),some ⟨41,6,false,[[.str rigB,.list 27 (r.real.bodies.map (unBody 300)),.list 17 (r.real.springs.map (unCordy 300)),.list 17 (r.real.tendons.map (unCordy 300)),a,.nil]],none⟩,some ⟨48,5,false,[[.list 34 (r.real.bodies.map (unRBody 300)),.list 22 (r.real.springs.map (unRCordy 300)),.list 22 (r.real.tendons.map (unRCordy 300)),b,.nil]],none⟩]++h⟩) 5 6 13 17 239 241 ?_ ?_ ?_ ?_ (by simp only[RigD.real,List.map_map];exact map_range (f:=fun v=>unMotor 300 v.real) r.drives) (by simp only[RigD.real,List.map_map];exact map_range (f:=fun v=>unRMotor 300 v.real) r.drives) ?_
 · intro hlt hg
   have hv:=hok.2.2.2.1 _ (getD_mem hlt);have v0:(0:Int)<((r.drives.map unDrive).length:Int):=by rw[lmE];omega
   exact gR KT18_ok none [1,2,3,4,5,38] [0,1,2,3,4,19,21] [(257,tt),(263,.cptr (unDrive (r.drives.getD 0 default)) 0),(259,.i6 ((0+1:Nat):Int))] (.c6 (iT v0) (show Ref (.cptr ((r.drives.map unDrive).getD 0 []) 0) (.cptr (unDrive (r.drives.getD 0 default)) 0) from Ref.cmap hlt) (nn 0) v0 hv.1 hv.2.1 (.c6 hv.2.2.1 hv.2.2.2 r1 (dc (0<1)) (dc (1*232<=140737488355328)) (dc (1<=big)) (.a5 r1 (dc (0<1)) (dc (1*264<=140737488355328)) (dc (1<=big)) (wI ((0:Int)+(1:Int)) ((0+1:Nat):Int))))) hg
 · intro i A B hi hlt hA hB hg
   have hv:=hok.2.2.2.1 _ (getD_mem hlt);have v1:(i:Int)<((r.drives.map unDrive).length:Int):=by rw[lmE];omega
   exact gR KT18_ok none [1,2,3,4,5,38] [0,1,2,3,4,21,23] [(257,tt),(263,.cptr (unDrive (r.drives.getD i default)) 0),(259,.i6 ((i+1:Nat):Int))] (.c6 (iT v1) (show Ref (.cptr ((r.drives.map unDrive).getD i []) 0) (.cptr (unDrive (r.drives.getD i default)) 0) from Ref.cmap hlt) (nn i) v1 hv.1 hv.2.1 (.c6 hv.2.2.1 hv.2.2.2 r1 (show i=A.length from hA.symm) (om ((i+1)*232<=140737488355328)) (show i+1<=big by unfold big;omega) (.a5 r1 (show i=B.length from hB.symm) (om ((i+1)*264<=140737488355328)) (show i+1<=big by unfold big;omega) (wI ((i:Int)+(1:Int)) ((i+1:Nat):Int))))) hg
 · intro A B hp hA hB hg
   refine Good.freezeD (b:=⟨239,13,true,A,none⟩) 5 (by rfl) (by rfl) .on (.oe (.a1 (om (0+r.drives.length<=A.length)))) ?_;refine Good.freezeD (b:=⟨241,17,true,B,none⟩) 6 (by rfl) (by rfl) .on (.oe (.a1 (om (0+r.drives.length<=B.length)))) ?_;refine Good.tidy [0,1,2,3,4] (by decide) (σ':=slots 359 [(1,.ptr 0 5 0 0),(2,.ptr 1 6 0 0),(3,.ptr 2 5 0 0),(4,.ptr 3 6 0 0),(5,.ptr 4 5 0 0),(38,.i6 ((r.drives.length:Nat):Int))]) (h':=[some ⟨27,5,false,[unRig r],none⟩,some (c18_0),some (c18_1),some ⟨41,6,false,[[.str rigB,.list 27 (r.real.bodies.map (unBody 300)),.list 17 (r.real.springs.map (unCordy 300)),.list 17 (r.real.tendons.map (unCordy 300)),.list 13 ((A.drop 0).take r.drives.length),.nil]],none⟩,some ⟨48,5,false,[[.list 34 (r.real.bodies.map (unRBody 300)),.list 22 (r.real.springs.map (unRCordy 300)),.list 22 (r.real.tendons.map (unRCordy 300)),.list 17 ((B.drop 0).take r.drives.length),.nil]],none⟩]) (by kernel_rfl) (by kernel_rfl) ?_;rw[List.drop_zero,List.drop_zero,tkE (by omega),tkE (by omega)];exact hg
 · intro h0 hg
   refine Good.weakB (el':=[.str rigB,.list 27 (r.real.bodies.map (unBody 300)),.list 17 (r.real.springs.map (unCordy 300)),.list 17 (r.real.tendons.map (unCordy 300)),.list 13 [],.nil]) 3 0 (by rfl) (by rfl) (RefC.tl (RefC.tl (RefC.tl (RefC.tl RefC.nilL)))) (Good.weakB (el':=[.list 34 (r.real.bodies.map (unRBody 300)),.list 22 (r.real.springs.map (unRCordy 300)),.list 22 (r.real.tendons.map (unRCordy 300)),.list 17 [],.nil]) 4 0 (by rfl) (by rfl) (RefC.tl (RefC.tl (RefC.tl RefC.nilL))) (Good.castH (by kernel_rfl) hg))
 · exact gN KT18_ok [1,2,3,4,5,48] [(257,ff)] (.a1 (iF (show ¬ ((r.drives.length:Int)<((r.drives.map unDrive).length:Int)) by rw[lmE];omega))) (loop18_4 r hok)
theorem loop18_2 (r:RigD) (hok:r.ok):Good Tryz.prog 18 S No w0 (Q18 S w0 r) [.code (nav [1,1,1,1,1,0,1,0,0] (bodyOf Tryz.f18)),.inLoop (nav [1,1,1,1,1,0,1,0,0] (bodyOf Tryz.f18)),.inBlock 4,.code (nav [1,1,1,1,1,1] (bodyOf Tryz.f18))] ⟨slots 359 [(1,.ptr 0 5 0 0),(2,.ptr 1 6 0 0),(3,.ptr 2 5 0 0),(4,.ptr 3 6 0 0),(5,.ptr 4 5 0 0),(30,.i6 ((0:Nat):Int))],[some ⟨27,5,false,[unRig r],none⟩,some (c18_0),some (c18_1),some ⟨41,6,false,[[.str rigB,.list 27 (r.real.bodies.map (unBody 300)),.list 17 (r.real.springs.map (unCordy 300)),.nil,.nil,.nil]],none⟩,some ⟨48,5,false,[[.list 34 (r.real.bodies.map (unRBody 300)),.list 22 (r.real.springs.map (unRCordy 300)),.nil,.nil,.nil]],none⟩]⟩:=by
 have hl:=hok.2.2.2.2.2.2.2.1;refine rows2 (XS:=r.real.tendons.map (unCordy 300)) (YS:=r.real.tendons.map (unRCordy 300)) r.tendons.length (fun i=>unCordy 300 ((r.tendons.getD i default).real)) (fun i=>unRCordy 300 ((r.tendons.getD i default).real)) (fun a b i h=>⟨slots 359 [(1,.ptr 0 5 0 0),(2,.ptr 1 6 0 0),(3,.ptr 2 5 0 0),(4,.ptr 3 6 0 0),(5,.ptr 4 5 0 0),(30,.i6 ((i:Nat):Int))],[some ⟨27,5,false,[unRig r],none⟩,some (c18_0),some (c18_1),some ⟨41,6,false,[[.str rigB,.list 27 (r.real.bodies.map (unBody 300)),.list 17 (r.real.springs.map (unCordy 300)),a,.nil,.nil]],none⟩,some ⟨48,5,false,[[.list 34 (r.real.bodies.map (unRBody 300)),.list 22 (r.real.springs.map (unRCordy 300)),b,.nil,.nil]],none⟩]++h⟩) 5 6 17 22 233 235 ?_ ?_ ?_ ?_ (by simp only[RigD.real,List.map_map];exact map_range (f:=fun v=>unCordy 300 v.real) r.tendons) (by simp only[RigD.real,List.map_map];exact map_range (f:=fun v=>unRCordy 300 v.real) r.tendons) ?_
 · intro hlt hg
   have hv:=hok.2.2.1 _ (getD_mem hlt);have v0:(0:Int)<((r.tendons.map unCord).length:Int):=by rw[lmE];omega
   exact gR KT18_ok none [1,2,3,4,5,30] [0,1,2,3,4,16,18] [(201,tt),(207,.cptr (unCord (r.tendons.getD 0 default)) 0),(203,.i6 ((0+1:Nat):Int))] (.c6 (iT v0) (show Ref (.cptr ((r.tendons.map unCord).getD 0 []) 0) (.cptr (unCord (r.tendons.getD 0 default)) 0) from Ref.cmap hlt) (nn 0) v0 hv.1.1 hv.1.2 (.c6 hv.2.1.1 hv.2.1.2 hv.2.2 r1 (dc (0<1)) (dc (1*296<=140737488355328)) (.a6 (dc (1<=big)) r1 (dc (0<1)) (dc (1*336<=140737488355328)) (dc (1<=big)) (wI ((0:Int)+(1:Int)) ((0+1:Nat):Int))))) hg
 · intro i A B hi hlt hA hB hg
   have hv:=hok.2.2.1 _ (getD_mem hlt);have v1:(i:Int)<((r.tendons.map unCord).length:Int):=by rw[lmE];omega
   exact gR KT18_ok none [1,2,3,4,5,30] [0,1,2,3,4,18,20] [(201,tt),(207,.cptr (unCord (r.tendons.getD i default)) 0),(203,.i6 ((i+1:Nat):Int))] (.c6 (iT v1) (show Ref (.cptr ((r.tendons.map unCord).getD i []) 0) (.cptr (unCord (r.tendons.getD i default)) 0) from Ref.cmap hlt) (nn i) v1 hv.1.1 hv.1.2 (.c6 hv.2.1.1 hv.2.1.2 hv.2.2 r1 (show i=A.length from hA.symm) (om ((i+1)*296<=140737488355328)) (.a6 (show i+1<=big by unfold big;omega) r1 (show i=B.length from hB.symm) (om ((i+1)*336<=140737488355328)) (show i+1<=big by unfold big;omega) (wI ((i:Int)+(1:Int)) ((i+1:Nat):Int))))) hg
 · intro A B hp hA hB hg
   refine Good.freezeD (b:=⟨233,17,true,A,none⟩) 5 (by rfl) (by rfl) .on (.oe (.a1 (om (0+r.tendons.length<=A.length)))) ?_;refine Good.freezeD (b:=⟨235,22,true,B,none⟩) 6 (by rfl) (by rfl) .on (.oe (.a1 (om (0+r.tendons.length<=B.length)))) ?_;refine Good.tidy [0,1,2,3,4] (by decide) (σ':=slots 359 [(1,.ptr 0 5 0 0),(2,.ptr 1 6 0 0),(3,.ptr 2 5 0 0),(4,.ptr 3 6 0 0),(5,.ptr 4 5 0 0),(30,.i6 ((r.tendons.length:Nat):Int))]) (h':=[some ⟨27,5,false,[unRig r],none⟩,some (c18_0),some (c18_1),some ⟨41,6,false,[[.str rigB,.list 27 (r.real.bodies.map (unBody 300)),.list 17 (r.real.springs.map (unCordy 300)),.list 17 ((A.drop 0).take r.tendons.length),.nil,.nil]],none⟩,some ⟨48,5,false,[[.list 34 (r.real.bodies.map (unRBody 300)),.list 22 (r.real.springs.map (unRCordy 300)),.list 22 ((B.drop 0).take r.tendons.length),.nil,.nil]],none⟩]) (by kernel_rfl) (by kernel_rfl) ?_;rw[List.drop_zero,List.drop_zero,tkE (by omega),tkE (by omega)];exact hg
 · intro h0 hg
   refine Good.weakB (el':=[.str rigB,.list 27 (r.real.bodies.map (unBody 300)),.list 17 (r.real.springs.map (unCordy 300)),.list 17 [],.nil,.nil]) 3 0 (by rfl) (by rfl) (RefC.tl (RefC.tl (RefC.tl RefC.nilL))) (Good.weakB (el':=[.list 34 (r.real.bodies.map (unRBody 300)),.list 22 (r.real.springs.map (unRCordy 300)),.list 22 [],.nil,.nil]) 4 0 (by rfl) (by rfl) (RefC.tl (RefC.tl RefC.nilL)) (Good.castH (by kernel_rfl) hg))
 · exact gN KT18_ok [1,2,3,4,5,38] [(201,ff)] (.a1 (iF (show ¬ ((r.tendons.length:Int)<((r.tendons.map unCord).length:Int)) by rw[lmE];omega))) (loop18_3 r hok)
theorem loop18_1 (r:RigD) (hok:r.ok):Good Tryz.prog 18 S No w0 (Q18 S w0 r) [.code (nav [1,1,1,1,0,1,0,0] (bodyOf Tryz.f18)),.inLoop (nav [1,1,1,1,0,1,0,0] (bodyOf Tryz.f18)),.inBlock 2,.code (nav [1,1,1,1,1] (bodyOf Tryz.f18))] ⟨slots 359 [(1,.ptr 0 5 0 0),(2,.ptr 1 6 0 0),(3,.ptr 2 5 0 0),(4,.ptr 3 6 0 0),(5,.ptr 4 5 0 0),(22,.i6 ((0:Nat):Int))],[some ⟨27,5,false,[unRig r],none⟩,some (c18_0),some (c18_1),some ⟨41,6,false,[[.str rigB,.list 27 (r.real.bodies.map (unBody 300)),.nil,.nil,.nil,.nil]],none⟩,some ⟨48,5,false,[[.list 34 (r.real.bodies.map (unRBody 300)),.nil,.nil,.nil,.nil]],none⟩]⟩:=by
 have hl:=hok.2.2.2.2.2.2.1;refine rows2 (XS:=r.real.springs.map (unCordy 300)) (YS:=r.real.springs.map (unRCordy 300)) r.springs.length (fun i=>unCordy 300 ((r.springs.getD i default).real)) (fun i=>unRCordy 300 ((r.springs.getD i default).real)) (fun a b i h=>⟨slots 359 [(1,.ptr 0 5 0 0),(2,.ptr 1 6 0 0),(3,.ptr 2 5 0 0),(4,.ptr 3 6 0 0),(5,.ptr 4 5 0 0),(22,.i6 ((i:Nat):Int))],[some ⟨27,5,false,[unRig r],none⟩,some (c18_0),some (c18_1),some ⟨41,6,false,[[.str rigB,.list 27 (r.real.bodies.map (unBody 300)),a,.nil,.nil,.nil]],none⟩,some ⟨48,5,false,[[.list 34 (r.real.bodies.map (unRBody 300)),b,.nil,.nil,.nil]],none⟩]++h⟩) 5 6 17 22 229 231 ?_ ?_ ?_ ?_ (by simp only[RigD.real,List.map_map];exact map_range (f:=fun v=>unCordy 300 v.real) r.springs) (by simp only[RigD.real,List.map_map];exact map_range (f:=fun v=>unRCordy 300 v.real) r.springs) ?_
 · intro hlt hg
   have hv:=hok.2.1 _ (getD_mem hlt);have v0:(0:Int)<((r.springs.map unCord).length:Int):=by rw[lmE];omega
   exact gR KT18_ok none [1,2,3,4,5,22] [0,1,2,3,4,16,18] [(145,tt),(151,.cptr (unCord (r.springs.getD 0 default)) 0),(147,.i6 ((0+1:Nat):Int))] (.c6 (iT v0) (show Ref (.cptr ((r.springs.map unCord).getD 0 []) 0) (.cptr (unCord (r.springs.getD 0 default)) 0) from Ref.cmap hlt) (nn 0) v0 hv.1.1 hv.1.2 (.c6 hv.2.1.1 hv.2.1.2 hv.2.2 r1 (dc (0<1)) (dc (1*296<=140737488355328)) (.a6 (dc (1<=big)) r1 (dc (0<1)) (dc (1*336<=140737488355328)) (dc (1<=big)) (wI ((0:Int)+(1:Int)) ((0+1:Nat):Int))))) hg
 · intro i A B hi hlt hA hB hg
   have hv:=hok.2.1 _ (getD_mem hlt);have v1:(i:Int)<((r.springs.map unCord).length:Int):=by rw[lmE];omega
   exact gR KT18_ok none [1,2,3,4,5,22] [0,1,2,3,4,18,20] [(145,tt),(151,.cptr (unCord (r.springs.getD i default)) 0),(147,.i6 ((i+1:Nat):Int))] (.c6 (iT v1) (show Ref (.cptr ((r.springs.map unCord).getD i []) 0) (.cptr (unCord (r.springs.getD i default)) 0) from Ref.cmap hlt) (nn i) v1 hv.1.1 hv.1.2 (.c6 hv.2.1.1 hv.2.1.2 hv.2.2 r1 (show i=A.length from hA.symm) (om ((i+1)*296<=140737488355328)) (.a6 (show i+1<=big by unfold big;omega) r1 (show i=B.length from hB.symm) (om ((i+1)*336<=140737488355328)) (show i+1<=big by unfold big;omega) (wI ((i:Int)+(1:Int)) ((i+1:Nat):Int))))) hg
 · intro A B hp hA hB hg
   refine Good.freezeD (b:=⟨229,17,true,A,none⟩) 5 (by rfl) (by rfl) .on (.oe (.a1 (om (0+r.springs.length<=A.length)))) ?_;refine Good.freezeD (b:=⟨231,22,true,B,none⟩) 6 (by rfl) (by rfl) .on (.oe (.a1 (om (0+r.springs.length<=B.length)))) ?_;refine Good.tidy [0,1,2,3,4] (by decide) (σ':=slots 359 [(1,.ptr 0 5 0 0),(2,.ptr 1 6 0 0),(3,.ptr 2 5 0 0),(4,.ptr 3 6 0 0),(5,.ptr 4 5 0 0),(22,.i6 ((r.springs.length:Nat):Int))]) (h':=[some ⟨27,5,false,[unRig r],none⟩,some (c18_0),some (c18_1),some ⟨41,6,false,[[.str rigB,.list 27 (r.real.bodies.map (unBody 300)),.list 17 ((A.drop 0).take r.springs.length),.nil,.nil,.nil]],none⟩,some ⟨48,5,false,[[.list 34 (r.real.bodies.map (unRBody 300)),.list 22 ((B.drop 0).take r.springs.length),.nil,.nil,.nil]],none⟩]) (by kernel_rfl) (by kernel_rfl) ?_;rw[List.drop_zero,List.drop_zero,tkE (by omega),tkE (by omega)];exact hg
 · intro h0 hg
   refine Good.weakB (el':=[.str rigB,.list 27 (r.real.bodies.map (unBody 300)),.list 17 [],.nil,.nil,.nil]) 3 0 (by rfl) (by rfl) (RefC.tl (RefC.tl RefC.nilL)) (Good.weakB (el':=[.list 34 (r.real.bodies.map (unRBody 300)),.list 22 [],.nil,.nil,.nil]) 4 0 (by rfl) (by rfl) (RefC.tl RefC.nilL) (Good.castH (by kernel_rfl) hg))
 · exact gN KT18_ok [1,2,3,4,5,30] [(145,ff)] (.a1 (iF (show ¬ ((r.springs.length:Int)<((r.springs.map unCord).length:Int)) by rw[lmE];omega))) (loop18_2 r hok)
abbrev c18_2 (r:RigD):List AV:=[.list 6 (spotsP (r.limbs.getD 0 default).shape),.list 8 (spotsR (r.limbs.getD 0 default).shape)]
abbrev c18_4 (r:RigD) (i:Nat):List AV:=[.list 6 (spotsP (r.limbs.getD i default).shape),.list 8 (spotsR (r.limbs.getD i default).shape)]
theorem loop18_0 (r:RigD) (hok:r.ok):Good Tryz.prog 18 S No w0 (Q18 S w0 r) [.code (nav [1,1,1,0,1,0,0] (bodyOf Tryz.f18)),.inLoop (nav [1,1,1,0,1,0,0] (bodyOf Tryz.f18)),.inBlock 0,.code (nav [1,1,1,1] (bodyOf Tryz.f18))] ⟨slots 359 [(1,.ptr 0 5 0 0),(2,.ptr 1 6 0 0),(3,.ptr 2 5 0 0),(4,.ptr 3 6 0 0),(5,.ptr 4 5 0 0),(6,.i6 ((0:Nat):Int))],[some ⟨27,5,false,[unRig r],none⟩,some (c18_0),some (c18_1),some ⟨41,6,false,[[.str rigB,.nil,.nil,.nil,.nil,.nil]],none⟩,some (c18_1)]⟩:=by
 have hl:=hok.2.2.2.2.2.1;refine rows2 (XS:=r.real.bodies.map (unBody 300)) (YS:=r.real.bodies.map (unRBody 300)) r.limbs.length (fun i=>unBody 300 ((r.limbs.getD i default).real (nameB i))) (fun i=>unRBody 300 ((r.limbs.getD i default).real (nameB i))) (fun a b i h=>⟨slots 359 [(1,.ptr 0 5 0 0),(2,.ptr 1 6 0 0),(3,.ptr 2 5 0 0),(4,.ptr 3 6 0 0),(5,.ptr 4 5 0 0),(6,.i6 ((i:Nat):Int))],[some ⟨27,5,false,[unRig r],none⟩,some (c18_0),some (c18_1),some ⟨41,6,false,[[.str rigB,a,.nil,.nil,.nil,.nil]],none⟩,some ⟨48,5,false,[[b,.nil,.nil,.nil,.nil]],none⟩]++h⟩) 5 6 27 34 114 184 ?_ ?_ ?_ ?_ (by simp only[RigD.real,bodiesOf,List.map_map];rfl) (by simp only[RigD.real,bodiesOf,List.map_map];rfl) ?_
 · intro hlt hg
   have hv:=hok.1 _ (getD_mem hlt);have v0:(0:Int)<((r.limbs.map unLimb).length:Int):=by rw[lmE];omega
   exact gR KT18_ok none [1,2,3,4,5,6] [0,1,2,3,4,27,29] [(59,tt),(65,.cptr (unLimb (r.limbs.getD 0 default)) 0),(106,.tup (c18_2 r)),(61,.i6 ((0+1:Nat):Int))] (.c6 (iT v0) (show Ref (.cptr ((r.limbs.map unLimb).getD 0 []) 0) (.cptr (unLimb (r.limbs.getD 0 default)) 0) from Ref.cmap hlt) (nn 0) v0 hv.1.1 hv.1.2 (.c6 hv.2.1.1 hv.2.1.2 hv.2.2.1 hv.2.2.2.1 hv.2.2.2.2.1 hv.2.2.2.2.2.1 (.c6 (show Ref (.tup [.list 6 (spotsP (((r.limbs.getD 0 default).shape.map unSpot).map reSpot)),.list 8 (spotsR (((r.limbs.getD 0 default).shape.map unSpot).map reSpot))]) (.tup (c18_2 r)) from Ref.eq (by rw[reSpot_un])) (show((r.limbs.getD 0 default).shape.map unSpot)=(((r.limbs.getD 0 default).shape.map unSpot).map reSpot).map unSpot by rw[reSpot_un]) (show ∀ s∈((r.limbs.getD 0 default).shape.map unSpot).map reSpot,s.ok by rw[reSpot_un];exact hv.2.2.2.2.2.2.1) (show((r.limbs.getD 0 default).shape.map unSpot).length*128<=140737488355328 by rw[lmE];exact hv.2.2.2.2.2.2.2) (nn 0) (om (0<=4611686018427387904)) (.c6 r1 (dc (0<1)) (dc (1*496<=140737488355328)) (dc (1<=big)) r1 (dc (0<1)) (.a3 (dc (1*544<=140737488355328)) (dc (1<=big)) (wI ((0:Int)+(1:Int)) ((0+1:Nat):Int))))))) hg
 · intro i A B hi hlt hA hB hg
   have hv:=hok.1 _ (getD_mem hlt);have v1:(i:Int)<((r.limbs.map unLimb).length:Int):=by rw[lmE];omega
   exact gR KT18_ok none [1,2,3,4,5,6] [0,1,2,3,4,29,31] [(59,tt),(65,.cptr (unLimb (r.limbs.getD i default)) 0),(106,.tup (c18_4 r i)),(61,.i6 ((i+1:Nat):Int))] (.c6 (iT v1) (show Ref (.cptr ((r.limbs.map unLimb).getD i []) 0) (.cptr (unLimb (r.limbs.getD i default)) 0) from Ref.cmap hlt) (nn i) v1 hv.1.1 hv.1.2 (.c6 hv.2.1.1 hv.2.1.2 hv.2.2.1 hv.2.2.2.1 hv.2.2.2.2.1 hv.2.2.2.2.2.1 (.c6 (show Ref (.tup [.list 6 (spotsP (((r.limbs.getD i default).shape.map unSpot).map reSpot)),.list 8 (spotsR (((r.limbs.getD i default).shape.map unSpot).map reSpot))]) (.tup (c18_4 r i)) from Ref.eq (by rw[reSpot_un])) (show((r.limbs.getD i default).shape.map unSpot)=(((r.limbs.getD i default).shape.map unSpot).map reSpot).map unSpot by rw[reSpot_un]) (show ∀ s∈((r.limbs.getD i default).shape.map unSpot).map reSpot,s.ok by rw[reSpot_un];exact hv.2.2.2.2.2.2.1) (show((r.limbs.getD i default).shape.map unSpot).length*128<=140737488355328 by rw[lmE];exact hv.2.2.2.2.2.2.2) (nn i) (om (i<=4611686018427387904)) (.c6 r1 (show i=A.length from hA.symm) (om ((i+1)*496<=140737488355328)) (show i+1<=big by unfold big;omega) r1 (show i=B.length from hB.symm) (.a3 (om ((i+1)*544<=140737488355328)) (show i+1<=big by unfold big;omega) (wI ((i:Int)+(1:Int)) ((i+1:Nat):Int))))))) hg
 · intro A B hp hA hB hg
   refine Good.freezeD (b:=⟨114,27,true,A,none⟩) 5 (by rfl) (by rfl) .on (.oe (.a1 (om (0+r.limbs.length<=A.length)))) ?_;refine Good.freezeD (b:=⟨184,34,true,B,none⟩) 6 (by rfl) (by rfl) .on (.oe (.a1 (om (0+r.limbs.length<=B.length)))) ?_;refine Good.tidy [0,1,2,3,4] (by decide) (σ':=slots 359 [(1,.ptr 0 5 0 0),(2,.ptr 1 6 0 0),(3,.ptr 2 5 0 0),(4,.ptr 3 6 0 0),(5,.ptr 4 5 0 0),(6,.i6 ((r.limbs.length:Nat):Int))]) (h':=[some ⟨27,5,false,[unRig r],none⟩,some (c18_0),some (c18_1),some ⟨41,6,false,[[.str rigB,.list 27 ((A.drop 0).take r.limbs.length),.nil,.nil,.nil,.nil]],none⟩,some ⟨48,5,false,[[.list 34 ((B.drop 0).take r.limbs.length),.nil,.nil,.nil,.nil]],none⟩]) (by kernel_rfl) (by kernel_rfl) ?_;rw[List.drop_zero,List.drop_zero,tkE (by omega),tkE (by omega)];exact hg
 · intro h0 hg
   refine Good.weakB (el':=[.str rigB,.list 27 [],.nil,.nil,.nil,.nil]) 3 0 (by rfl) (by rfl) (RefC.tl RefC.nilL) (Good.weakB (el':=[.list 34 [],.nil,.nil,.nil,.nil]) 4 0 (by rfl) (by rfl) RefC.nilL (Good.castH (by kernel_rfl) hg))
 · exact gN KT18_ok [1,2,3,4,5,22] [(59,ff)] (.a1 (iF (show ¬ ((r.limbs.length:Int)<((r.limbs.map unLimb).length:Int)) by rw[lmE];omega))) (loop18_1 r hok)
end
theorem a18:Ctr 18 k18:=by
 refine ctr Tryz.f18 fun _ _ _ S w0 h ho=> ?_
 unfold k18 at h;split at h <;> cases h;rename_i R;obtain⟨o1,o2⟩:=ho.e2;clear ho;generalize reRig R=r at*;subst o1;exact gN KT18_ok [1,2,3,4,5,6] [(54,.agg [.str rigB,AV.nil,AV.nil,AV.nil,AV.nil,AV.nil])] (.a1 (show Ref (.agg [.str (ByteArray.mk #[114,105,103]),AV.nil,AV.nil,AV.nil,AV.nil,AV.nil]) (.agg [.str rigB,AV.nil,AV.nil,AV.nil,AV.nil,AV.nil]) from rr)) (loop18_0 r o2)
def KT20_ok:=kn
noncomputable abbrev c20T0:List Item:=[.code (nav [1,1,0,1,0,0] (bodyOf Tryz.f20)),.inLoop (nav [1,1,0,1,0,0] (bodyOf Tryz.f20)),.inBlock 0,.code (nav [1,1,1] (bodyOf Tryz.f20))]
noncomputable abbrev c20T1:List Item:=[.code (nav [1,1,1,0,1,0,0] (bodyOf Tryz.f20)),.inLoop (nav [1,1,1,0,1,0,0] (bodyOf Tryz.f20)),.inBlock 2,.code (nav [1,1,1,1] (bodyOf Tryz.f20))]
def RigD.small (r:RigD):Bool:=decide (r.limbs.length<=8/\r.springs.length<=5/\r.tendons.length<=5/\r.drives.length<=9/\r.soles.length<=5/\(∀ v∈r.limbs,v.shape.length<=6)/\(∀ v∈r.soles,v.pts.length<=6))
def k20:KF
 | [.agg R]=>some (.bool (reRig R).small,[R=unRig (reRig R)])
 | _=>none
theorem down {G:Nat->Prop} (n:Nat) (hend:G n) (hs:∀ i,i<n->G (i+1)->G i):G 0:=by
 have key:∀ f i,i+f=n->G i:=by
   intro f
   induction f with
   | zero => intro i h;have:i=n:=by omega
             subst this;exact hend
   | succ f ih=>intro i h;exact hs i (by omega) (ih (i+1) (by omega))
 exact key n 0 (by omega)
theorem getD_all {α:Type} [Inhabited α] {xs:List α} {p:α->Prop} (h:∀ j,j<xs.length->p (xs.getD j default)):∀ v∈xs,p v:=fun v hv=>by
 obtain⟨j,hj,rfl⟩:=List.getElem_of_mem hv
 have:=h j hj;simpa[gdE,hj] using this
section
variable {S:Nat->Prop} {w0:World}
theorem loop20b {r:RigD} (h0:r.limbs.length<=8/\r.springs.length<=5/\r.tendons.length<=5/\r.drives.length<=9/\r.soles.length<=5/\(∀ v∈r.limbs,v.shape.length<=6)):
   GF 20 S w0 (.bool r.small) c20T1
   ⟨slots 63 [(1,.ptr 0 5 0 0),(4,.i6 ((0:Nat):Int))],[some ⟨27,5,false,[unRig r],none⟩]⟩:=by
 refine down (G:=fun i=>(∀ j,j<i->(r.soles.getD j default).pts.length<=6)->GF 20 S w0 (.bool r.small) c20T1
   ⟨slots 63 [(1,.ptr 0 5 0 0),(4,.i6 ((i:Nat):Int))],[some ⟨27,5,false,[unRig r],none⟩]⟩) r.soles.length ?_ ?_ (fun j hj=>absurd hj (Nat.not_lt_zero j))
 · intro hj
   exact rF KT20_ok [(52,ff)] (.a1 (iF (show ¬ ((r.soles.length:Int)<((r.soles.map unSole).length:Int)) by rw[lmE];omega))) (V:=.bool true) (Ref.bool (decide_eq_true ⟨h0.1,h0.2.1,h0.2.2.1,h0.2.2.2.1,h0.2.2.2.2.1,h0.2.2.2.2.2,getD_all hj⟩).symm)
 · intro i hlt ih hj
   have v0:(i:Int)<((r.soles.map unSole).length:Int):=by rw[lmE];omega
   have v1:Ref (.cptr ((r.soles.map unSole).getD i []) 0) (.cptr (unSole (r.soles.getD i default)) 0):=Ref.cmap hlt
   by_cases c:(r.soles.getD i default).pts.length<=6
   · have hl:=h0.2.2.2.2.1
     exact gN KT20_ok [1,2,4] [(52,tt),(58,.cptr (unSole (r.soles.getD i default)) 0),(62,ff),(54,.i6 ((i+1:Nat):Int))] (.a6 (iT v0) v1 (nn i) v0 (iF (show ¬ ((6:Int)<(((r.soles.getD i default).pts.map unSpot).length:Int)) by rw[lmE];omega)) (wI ((i:Int)+(1:Int)) ((i+1:Nat):Int))) (ih fun j hj'=>if e:j=i then e▸c else hj j (by omega))
   · exact rF KT20_ok [(52,tt),(58,.cptr (unSole (r.soles.getD i default)) 0),(62,tt)] (.a5 (iT v0) v1 (nn i) v0 (iT (show(6:Int)<(((r.soles.getD i default).pts.map unSpot).length:Int) by rw[lmE];omega))) (V:=.bool false) (Ref.bool (decide_eq_false fun h=>c (h.2.2.2.2.2.2 _ (getD_mem hlt))).symm)
theorem loop20a {r:RigD} (h0:r.limbs.length<=8/\r.springs.length<=5/\r.tendons.length<=5/\r.drives.length<=9/\r.soles.length<=5):
   GF 20 S w0 (.bool r.small) c20T0
   ⟨slots 63 [(1,.ptr 0 5 0 0),(3,.i6 ((0:Nat):Int))],[some ⟨27,5,false,[unRig r],none⟩]⟩:=by
 refine down (G:=fun i=>(∀ j,j<i->(r.limbs.getD j default).shape.length<=6)->GF 20 S w0 (.bool r.small) c20T0
   ⟨slots 63 [(1,.ptr 0 5 0 0),(3,.i6 ((i:Nat):Int))],[some ⟨27,5,false,[unRig r],none⟩]⟩) r.limbs.length ?_ ?_ (fun j hj=>absurd hj (Nat.not_lt_zero j))
 · intro hj
   exact gN KT20_ok [1,4] [(37,ff)] (.a1 (iF (show ¬ ((r.limbs.length:Int)<((r.limbs.map unLimb).length:Int)) by rw[lmE];omega))) (loop20b ⟨h0.1,h0.2.1,h0.2.2.1,h0.2.2.2.1,h0.2.2.2.2,getD_all hj⟩)
 · intro i hlt ih hj
   have v0:(i:Int)<((r.limbs.map unLimb).length:Int):=by rw[lmE];omega
   have v1:Ref (.cptr ((r.limbs.map unLimb).getD i []) 0) (.cptr (unLimb (r.limbs.getD i default)) 0):=Ref.cmap hlt
   by_cases c:(r.limbs.getD i default).shape.length<=6
   · have hl:=h0.1
     refine gN KT20_ok [1,2,3] [(37,tt),(43,.cptr (unLimb (r.limbs.getD i default)) 0),(47,ff),(39,.i6 ((i+1:Nat):Int))] (.a6 (iT v0) v1 (nn i) v0 (iF (show ¬ ((6:Int)<(((r.limbs.getD i default).shape.map unSpot).length:Int)) by rw[lmE];omega)) (wI ((i:Int)+(1:Int)) ((i+1:Nat):Int))) (t:=c20T0) (σ:=slots 63 [(1,.ptr 0 5 0 0),(3,.i6 ((i+1:Nat):Int))]) (h:=[some ⟨27,5,false,[(unRig r)],none⟩]) ?_
     exact ih fun j hj' => by by_cases e:j=i
                              · subst e;exact c
                              · exact hj j (by omega)
   · exact rF KT20_ok [(37,tt),(43,.cptr (unLimb (r.limbs.getD i default)) 0),(47,tt)] (.a5 (iT v0) v1 (nn i) v0 (iT (show(6:Int)<(((r.limbs.getD i default).shape.map unSpot).length:Int) by rw[lmE];omega))) (V:=.bool false) (Ref.bool (decide_eq_false fun h=>c (h.2.2.2.2.2.1 _ (getD_mem hlt))).symm)
end
theorem a20:Ctr 20 k20:=by
 refine ctr Tryz.f20 fun _ _ _ S w0 h ho=> ?_
 unfold k20 at h;split at h <;> cases h;rename_i R;have o1:=ho.one;clear ho;generalize reRig R=r at*;subst o1;have len:∀ {α:Type} {f:α->List AV} {l:List α} {n:Nat},¬ l.length<=n->((n:Nat):Int)<(((l.map f).length:Nat):Int):=fun h=>by rw[lmE];omega
 have len':∀ {α:Type} {f:α->List AV} {l:List α} {n:Nat},l.length<=n->¬ ((n:Nat):Int)<(((l.map f).length:Nat):Int):=fun h=>by rw[lmE];omega
 by_cases c1:r.limbs.length<=8
 · have v0 :Ref (.bool (decide ((8:Int)<((r.limbs.map unLimb).length:Int)))) (.bool false):=Ref.bool (decide_eq_false (len' c1))
   by_cases c2:r.springs.length<=5
   · have v1:Ref (.bool (decide ((5:Int)<((r.springs.map unCord).length:Int)))) (.bool false):=Ref.bool (decide_eq_false (len' c2))
     by_cases c3:r.tendons.length<=5
     · have v2:Ref (.bool (decide ((5:Int)<((r.tendons.map unCord).length:Int)))) (.bool false):=Ref.bool (decide_eq_false (len' c3))
       by_cases c4:r.drives.length<=9
       · have v3:Ref (.bool (decide ((9:Int)<((r.drives.map unDrive).length:Int)))) (.bool false):=Ref.bool (decide_eq_false (len' c4))
         by_cases c5:r.soles.length<=5
         · refine gN KT20_ok [1,2,3] [(9,ff),(15,ff),(21,ff),(27,ff),(32,ff)] (.a5 v0 v1 v2 v3 (show Ref (.bool (decide ((5:Int)<((r.soles.map unSole).length:Int)))) (.bool false) from Ref.bool (decide_eq_false (len' c5)))) (t:=c20T0) (σ:=slots 63 [(1,.ptr 0 5 0 0),(2,.bool false),(3,.i6 (0:Int))]) (h:=[some ⟨27,5,false,[(unRig r)],none⟩]) ?_
           exact Good.weak 63 [(1,_),(3,_)] (by kernel_rfl) (.r (.r .nil)) (loop20a ⟨c1,c2,c3,c4,c5⟩)
         · exact rF KT20_ok [(9,ff),(15,ff),(21,ff),(27,ff),(32,tt)] (.a5 v0 v1 v2 v3 (show Ref (.bool (decide ((5:Int)<((r.soles.map unSole).length:Int)))) (.bool true) from Ref.bool (decide_eq_true (len c5)))) (V:=.bool false) (Ref.bool (decide_eq_false fun h=>c5 h.2.2.2.2.1).symm)
       · exact rF KT20_ok [(9,ff),(15,ff),(21,ff),(27,tt)] (.a4 v0 v1 v2 (show Ref (.bool (decide ((9:Int)<((r.drives.map unDrive).length:Int)))) (.bool true) from Ref.bool (decide_eq_true (len c4)))) (V:=.bool false) (Ref.bool (decide_eq_false fun h=>c4 h.2.2.2.1).symm)
     · exact rF KT20_ok [(9,ff),(15,ff),(21,tt)] (.a3 v0 v1 (show Ref (.bool (decide ((5:Int)<((r.tendons.map unCord).length:Int)))) (.bool true) from Ref.bool (decide_eq_true (len c3)))) (V:=.bool false) (Ref.bool (decide_eq_false fun h=>c3 h.2.2.1).symm)
   · exact rF KT20_ok [(9,ff),(15,tt)] (.a2 v0 (show Ref (.bool (decide ((5:Int)<((r.springs.map unCord).length:Int)))) (.bool true) from Ref.bool (decide_eq_true (len c2)))) (V:=.bool false) (Ref.bool (decide_eq_false fun h=>c2 h.2.1).symm)
 · exact rF KT20_ok [(9,tt)] (.a1 (show Ref (.bool (decide ((8:Int)<((r.limbs.map unLimb).length:Int)))) (.bool true) from Ref.bool (decide_eq_true (len c1)))) (V:=.bool false) (Ref.bool (decide_eq_false fun h=>c1 h.1).symm)
def KT188_ok:=kn
abbrev n188_0 (ff:Func):List Item:=[.code (nav [1,1,0,1,0,0] (bodyOf ff)),.inLoop (nav [1,1,0,1,0,0] (bodyOf ff)),.inBlock 0,.code (nav [1,1,1] (bodyOf ff))]
section
variable {S0 C0:Nat->Prop} {w0:World} {Post:Value->World->Prop}
theorem p188_1_1 (X:List (List AV)) (i n:Nat) (c:Int) (h1:(i:Int)<(n:Int)) (h2:c=(0:Int)) (o:(Ref (.cptr (X.getD i []) 0) (.cptr [.i6 c] 0))/\((i:Int)<(X.length:Int))/\(-9223372036854775808<=(i:Int)+(1:Int)/\(i:Int)+(1:Int)<=9223372036854775807))
   (hg:Good Tryz.prog 188 S0 C0 w0 Post (n188_0 Tryz.f188) ⟨slots 18 [(3,.i6 (0:Int)),(6,.list 1 X),(7,.i6 (n:Int)),(8,.i6 ((i+1:Nat):Int))],[]⟩):
   Good Tryz.prog 188 S0 C0 w0 Post (n188_0 Tryz.f188) ⟨slots 18 [(3,.i6 (0:Int)),(6,.list 1 X),(7,.i6 (n:Int)),(8,.i6 (i:Int))],[]⟩:=
 go mixed TT0_ok KT188_ok 21 none [2,3,6,7,8] [(9,(.bool true)),(10,(.cptr [.i6 c] 0)),(14,(.bool false)),(16,(.i6 ((i+1:Nat):Int)))] (ob:=[Ref (.bool (decide ((i:Int)<(n:Int)))) (.bool true),Ref (.cptr (X.getD i []) 0) (.cptr [.i6 c] 0),0<=(i:Int),(i:Int)<(X.length:Int),Ref (.bool (!decide (c=(0:Int)))) (.bool false),Ref (.i6 (IntKind.i64.wrap ((i:Int)+(1:Int)))) (.i6 ((i+1:Nat):Int))]) (by kernel_rfl)
   (.cons (Ref.bool (decide_eq_true h1)) (.cons (o.1) (.cons (Int.natCast_nonneg _) (.cons (o.2.1) (.cons (Ref.bool (congrArg Bool.not (decide_eq_true h2))) (.cons ((Ref.wr o.2.2).trans (Ref.int (by rfl))) (AllP.nil))))))) hg
end
def unI (n:Int):List AV:=[.i6 n]
def reI:List AV->Int
 | [.int _ n]=>n
 | _=>0
def orE:List Int->Int
 | []=>0
 | e::es=>if e=0 then orE es else e
theorem orE_eq {es:List Int} {r:Int} (i:Nat) (h:∀ j,j<i->es.getD j 0=0) (k:(i<es.length/\es.getD i 0=r/\r≠0)\/es.length<=i/\r=0):r=orE es:=by
 induction es generalizing i with
 | nil => rcases k with ⟨k,_⟩ | ⟨_,k⟩
          · simp at k
          · exact k
 | cons e es ih=>
   cases i with
   | zero=>
     rcases k with ⟨_,k,k'⟩ | ⟨k,_⟩
     · simp at k;subst k;simp[orE,k']
     · simp at k
   | succ i=>
     have h0:e=0:=by simpa using h 0 (by omega)
     subst h0;simp only[orE,if_true];refine ih i (fun j hj=>by simpa using h (j+1) (by omega)) ?_;rcases k with ⟨k1,k2,k3⟩ | ⟨k1,k2⟩
     · exact .inl ⟨by simpa using k1,by simpa using k2,k3⟩
     · exact .inr ⟨by simpa using k1,k2⟩
theorem Ref.cI {es:List Int} {i:Nat} (h:i<es.length):Ref (.cptr ((es.map unI).getD i []) 0) (.cptr [.i6 (es.getD i 0)] 0):=by
 have:es.getD i 0=es.getD i default:=rfl;rw[this];exact Ref.cmap (f:=unI) h
def k188:KF
 | [.list 1 X]=>some (.int .i64 (orE (X.map reI)),[X=(X.map reI).map unI,X.length<=4611686018427387904])
 | _=>none
section
variable {S:Nat->Prop} {w0:World}
noncomputable abbrev T188:List Item:=[.code (nav [1,1,0,1,0,0] (bodyOf Tryz.f188)),.inLoop (nav [1,1,0,1,0,0] (bodyOf Tryz.f188)),.inBlock 0,.code (nav [1,1,1] (bodyOf Tryz.f188))]
theorem loop188 {es:List Int} (hL:es.length<=4611686018427387904):
   GF 188 S w0 (.i6 (orE es)) T188 ⟨slots 18 [(3,.i6 (0:Int)),(6,.list 1 (es.map unI)),(7,.i6 ((es.length:Nat):Int)),(8,.i6 ((0:Nat):Int))],[]⟩:=by
 refine down (G:=fun i=>(∀ j,j<i->es.getD j 0=0)->GF 188 S w0 (.i6 (orE es)) T188 ⟨slots 18 [(3,.i6 (0:Int)),(6,.list 1 (es.map unI)),(7,.i6 ((es.length:Nat):Int)),(8,.i6 ((i:Nat):Int))],[]⟩) es.length ?_ ?_ (fun j hj=>absurd hj (Nat.not_lt_zero j))
 · intro hj
   exact rF KT188_ok [(9,ff)] (.a1 (iF (om (¬ ((es.length:Int)<(es.length:Int)))))) (V:=.i6 (0:Int)) (Ref.int (orE_eq es.length hj (.inr ⟨Nat.le_refl _,rfl⟩)))
 · intro i hlt ih hj
   by_cases c:es.getD i 0=0
   · exact p188_1_1 (es.map unI) i es.length (es.getD i 0) (by omega) c ⟨Ref.cI hlt,by rw[lmE];omega,by omega⟩ (ih fun j hj'=>by
       by_cases e:j=i
       · subst e;exact c
       · exact hj j (by omega))
   · exact rF KT188_ok [(9,tt),(10,.cptr [.i6 (es.getD i 0)] 0),(14,tt)] (.a5 (iT (om ((i:Int)<(es.length:Int)))) (show Ref (.cptr ((es.map unI).getD i []) 0) (.cptr [.i6 (es.getD i 0)] 0) from Ref.cI hlt) (nn i) (show(i:Int)<((es.map unI).length:Int) by rw[lmE];omega) (jT c)) (V:=.i6 (es.getD i 0)) (Ref.int (orE_eq i hj (.inl ⟨hlt,rfl,c⟩)))
end
theorem a188:Ctr 188 k188:=by
 refine ctr Tryz.f188 fun _ _ _ S w0 h ho=> ?_
 unfold k188 at h;split at h <;> cases h;rename_i X;obtain⟨o1,-⟩:=ho.e2;have o2:(X.map reI).length<=4611686018427387904:=by rw[lmE];exact ho _ (by simp)
 clear ho;generalize X.map reI=es at*;subst o1;refine gN KT188_ok [0,2,3,6,7,8] [] .nil (t:=T188) (σ:=slots 18 [(0,.list 1 (es.map unI)),(2,.i6 (0:Int)),(3,.i6 (0:Int)),(6,.list 1 (es.map unI)),(7,.i6 ((es.map unI).length:Int)),(8,.i6 (0:Int))]) (h:=[]) ?_
 rw[lmE];exact Good.weak 18 [(3,_),(6,_),(7,_),(8,_)] (by kernel_rfl) (.r (.r (.r (.r .nil)))) (loop188 o2)
def KT187_ok:=kn
abbrev n187_0 (ff:Func):List Item:=[.code (nav [1,1,0,1,0,0] (bodyOf ff)),.inLoop (nav [1,1,0,1,0,0] (bodyOf ff)),.inBlock 0,.code (nav [1,1,1] (bodyOf ff))]
section
variable {S0 C0:Nat->Prop} {w0:World} {Post:Value->World->Prop}
theorem p187_0_3 (s:ByteArray) (h1:¬ ((s.size:Int)<(1:Int))) (h2:¬ ((32:Int)<(s.size:Int))) (h3:(48:Int)<=((s.data.toList.getD 0 0).toNat:Int)) (h4:¬ ((((s.data.toList.getD 0 0).toNat:Nat):Int)<=(57:Int))) (o:((0:Int)<(s.size:Int)))
   (hg:Good Tryz.prog 187 S0 C0 w0 Post (n187_0 Tryz.f187) ⟨slots 61 [(0,.str s),(2,.bool false),(24,.i6 (s.size:Int)),(25,.i6 (0:Int))],[]⟩):
   Good Tryz.prog 187 S0 C0 w0 Post [.code (nav [] (bodyOf Tryz.f187))] ⟨slots 61 [(0,.str s)],[]⟩:=
 go mixed TT0_ok KT187_ok 17 none [0,2,24,25] [(8,(.bool false)),(13,(.bool false)),(17,(.bool true)),(22,(.bool false))] (ob:=[Ref (.bool (decide ((s.size:Int)<(1:Int)))) (.bool false),Ref (.bool (decide ((32:Int)<(s.size:Int)))) (.bool false),0<=(0:Int),(0:Int)<(s.size:Int),Ref (.bool (decide ((48:Int)<=((s.data.toList.getD 0 0).toNat:Int)))) (.bool true),0<=(0:Int),(0:Int)<(s.size:Int),Ref (.bool (decide ((((s.data.toList.getD 0 0).toNat:Nat):Int)<=(57:Int)))) (.bool false)]) (by kernel_rfl)
   (.cons (Ref.bool (decide_eq_false h1)) (.cons (Ref.bool (decide_eq_false h2)) (.cons (by decide) (.cons (o) (.cons (Ref.bool (decide_eq_true h3)) (.cons (by decide) (.cons (o) (.cons (Ref.bool (decide_eq_false h4)) (AllP.nil))))))))) hg
theorem p187_0_4 (s:ByteArray) (h1:¬ ((s.size:Int)<(1:Int))) (h2:¬ ((32:Int)<(s.size:Int))) (h3:¬ ((48:Int)<=((s.data.toList.getD 0 0).toNat:Int))) (o:((0:Int)<(s.size:Int)))
   (hg:Good Tryz.prog 187 S0 C0 w0 Post (n187_0 Tryz.f187) ⟨slots 61 [(0,.str s),(2,.bool false),(24,.i6 (s.size:Int)),(25,.i6 (0:Int))],[]⟩):
   Good Tryz.prog 187 S0 C0 w0 Post [.code (nav [] (bodyOf Tryz.f187))] ⟨slots 61 [(0,.str s)],[]⟩:=
 go mixed TT0_ok KT187_ok 17 none [0,2,24,25] [(8,(.bool false)),(13,(.bool false)),(17,(.bool false))] (ob:=[Ref (.bool (decide ((s.size:Int)<(1:Int)))) (.bool false),Ref (.bool (decide ((32:Int)<(s.size:Int)))) (.bool false),0<=(0:Int),(0:Int)<(s.size:Int),Ref (.bool (decide ((48:Int)<=((s.data.toList.getD 0 0).toNat:Int)))) (.bool false)]) (by kernel_rfl)
   (.cons (Ref.bool (decide_eq_false h1)) (.cons (Ref.bool (decide_eq_false h2)) (.cons (by decide) (.cons (o) (.cons (Ref.bool (decide_eq_false h3)) (AllP.nil)))))) hg
end
def byteAt (s:ByteArray) (i:Nat):Int:=(((s.data.toList.getD i 0).toNat:Nat):Int)
def nameChar (c:Int):Prop:=c=95\/(48<=c/\c<=57)\/(97<=c/\c<=122)\/(65<=c/\c<=90)
instance (c:Int):Decidable (nameChar c):=by unfold nameChar;infer_instance
def isNameB (s:ByteArray):Bool:=decide (1<=s.size/\s.size<=32/\¬ (48<=byteAt s 0/\byteAt s 0<=57)/\∀ i,i<s.size->nameChar (byteAt s i))
def k187:KF
 | [.str s]=>some (.bool (isNameB s),[])
 | _=>none
section
variable {S:Nat->Prop} {w0:World}
noncomputable abbrev T187:List Item:=[.code (nav [1,1,0,1,0,0] (bodyOf Tryz.f187)),.inLoop (nav [1,1,0,1,0,0] (bodyOf Tryz.f187)),.inBlock 0,.code (nav [1,1,1] (bodyOf Tryz.f187))]
theorem loop187 {s:ByteArray} (h1:1<=s.size/\s.size<=32/\¬ (48<=byteAt s 0/\byteAt s 0<=57)):
   GF 187 S w0 (.bool (isNameB s)) T187 ⟨slots 61 [(0,.str s),(24,.i6 ((s.size:Nat):Int)),(25,.i6 ((0:Nat):Int))],[]⟩:=by
 refine down (G:=fun i=>(∀ j,j<i->nameChar (byteAt s j))->GF 187 S w0 (.bool (isNameB s)) T187 ⟨slots 61 [(0,.str s),(24,.i6 ((s.size:Nat):Int)),(25,.i6 ((i:Nat):Int))],[]⟩) s.size ?_ ?_ (fun j hj=>absurd hj (Nat.not_lt_zero j))
 · intro hj
   exact rF KT187_ok [(26,ff)] (.a1 (iF (om (¬ ((s.size:Int)<(s.size:Int)))))) (V:=.bool true) (Ref.bool (decide_eq_true ⟨h1.1,h1.2.1,h1.2.2,hj⟩).symm)
 · intro i hlt ih hj
   have c1:((i:Nat):Int)<((s.size:Nat):Int):=by omega
   generalize hc:byteAt s i=c at*;have bad:¬ nameChar c->false=isNameB s:=fun h=>(decide_eq_false fun k=>h (hc▸k.2.2.2 i hlt)).symm
   have good:nameChar c->∀ j,j<i+1->nameChar (byteAt s j):=fun h j hj'=>by
     by_cases e:j=i
     · subst e;rw[hc];exact h
     · exact hj j (by omega)
   have v0:Ref (.int .u8 ((s.data.toList.getD i 0).toNat:Int)) (.int .u8 c):=Ref.int hc
   by_cases c2:c=(95:Int)
   · exact gN KT187_ok [0,2,24,25] [(26,tt),(30,.int .u8 c),(33,ff),(60,.i6 ((i+1:Nat):Int))] (.a6 (iT c1) v0 (nn i) c1 (jF c2) (wI ((i:Int)+(1:Int)) ((i+1:Nat):Int))) (ih (good (by unfold nameChar;omega)))
   · by_cases c3:(48:Int)<=c
     · by_cases c4:c<=(57:Int)
       · exact gN KT187_ok [0,2,24,25] [(26,tt),(30,.int .u8 c),(33,tt),(36,tt),(42,ff),(60,.i6 ((i+1:Nat):Int))] (.c6 (iT c1) v0 (nn i) c1 (jT c2) (iT c3) (.a2 (jF c4) (wI ((i:Int)+(1:Int)) ((i+1:Nat):Int)))) (ih (good (by unfold nameChar;omega)))
       · by_cases c5:(97:Int)<=c
         · by_cases c6:c<=(122:Int)
           · exact gN KT187_ok [0,2,24,25] [(26,tt),(30,.int .u8 c),(33,tt),(36,tt),(42,tt),(45,tt),(51,ff),(60,.i6 ((i+1:Nat):Int))] (.c6 (iT c1) v0 (nn i) c1 (jT c2) (iT c3) (.a4 (jT c4) (iT c5) (jF c6) (wI ((i:Int)+(1:Int)) ((i+1:Nat):Int)))) (ih (good (by unfold nameChar;omega)))
           · by_cases c7:(65:Int)<=c
             · by_cases c8:c<=(90:Int)
               · exact gN KT187_ok [0,2,24,25] [(26,tt),(30,.int .u8 c),(33,tt),(36,tt),(42,tt),(45,tt),(51,tt),(54,tt),(59,ff),(60,.i6 ((i+1:Nat):Int))] (.c6 (iT c1) v0 (nn i) c1 (jT c2) (iT c3) (.a6 (jT c4) (iT c5) (jT c6) (iT c7) (jF c8) (wI ((i:Int)+(1:Int)) ((i+1:Nat):Int)))) (ih (good (by unfold nameChar;omega)))
               · exact rF KT187_ok [(26,tt),(30,.int .u8 c),(33,tt),(36,tt),(42,tt),(45,tt),(51,tt),(54,tt),(59,tt)] (.c6 (iT c1) v0 (nn i) c1 (jT c2) (iT c3) (.a5 (jT c4) (iT c5) (jT c6) (iT c7) (jT c8))) (V:=.bool false) (Ref.bool (bad (by unfold nameChar;omega)))
             · exact rF KT187_ok [(26,tt),(30,.int .u8 c),(33,tt),(36,tt),(42,tt),(45,tt),(51,tt),(54,ff)] (.c6 (iT c1) v0 (nn i) c1 (jT c2) (iT c3) (.a4 (jT c4) (iT c5) (jT c6) (iF c7))) (V:=.bool false) (Ref.bool (bad (by unfold nameChar;omega)))
         · by_cases c6:(65:Int)<=c
           · by_cases c7:c<=(90:Int)
             · exact gN KT187_ok [0,2,24,25] [(26,tt),(30,.int .u8 c),(33,tt),(36,tt),(42,tt),(45,ff),(54,tt),(59,ff),(60,.i6 ((i+1:Nat):Int))] (.c6 (iT c1) v0 (nn i) c1 (jT c2) (iT c3) (.a5 (jT c4) (iF c5) (iT c6) (jF c7) (wI ((i:Int)+(1:Int)) ((i+1:Nat):Int)))) (ih (good (by unfold nameChar;omega)))
             · exact rF KT187_ok [(26,tt),(30,.int .u8 c),(33,tt),(36,tt),(42,tt),(45,ff),(54,tt),(59,tt)] (.c6 (iT c1) v0 (nn i) c1 (jT c2) (iT c3) (.a4 (jT c4) (iF c5) (iT c6) (jT c7))) (V:=.bool false) (Ref.bool (bad (by unfold nameChar;omega)))
           · exact rF KT187_ok [(26,tt),(30,.int .u8 c),(33,tt),(36,tt),(42,tt),(45,ff),(54,ff)] (.c6 (iT c1) v0 (nn i) c1 (jT c2) (iT c3) (.a3 (jT c4) (iF c5) (iF c6))) (V:=.bool false) (Ref.bool (bad (by unfold nameChar;omega)))
     · by_cases c4:(97:Int)<=c
       · by_cases c5:c<=(122:Int)
         · exact gN KT187_ok [0,2,24,25] [(26,tt),(30,.int .u8 c),(33,tt),(36,ff),(45,tt),(51,ff),(60,.i6 ((i+1:Nat):Int))] (.c6 (iT c1) v0 (nn i) c1 (jT c2) (iF c3) (.a3 (iT c4) (jF c5) (wI ((i:Int)+(1:Int)) ((i+1:Nat):Int)))) (ih (good (by unfold nameChar;omega)))
         · by_cases c6:(65:Int)<=c
           · by_cases c7:c<=(90:Int)
             · exact gN KT187_ok [0,2,24,25] [(26,tt),(30,.int .u8 c),(33,tt),(36,ff),(45,tt),(51,tt),(54,tt),(59,ff),(60,.i6 ((i+1:Nat):Int))] (.c6 (iT c1) v0 (nn i) c1 (jT c2) (iF c3) (.a5 (iT c4) (jT c5) (iT c6) (jF c7) (wI ((i:Int)+(1:Int)) ((i+1:Nat):Int)))) (ih (good (by unfold nameChar;omega)))
             · exact rF KT187_ok [(26,tt),(30,.int .u8 c),(33,tt),(36,ff),(45,tt),(51,tt),(54,tt),(59,tt)] (.c6 (iT c1) v0 (nn i) c1 (jT c2) (iF c3) (.a4 (iT c4) (jT c5) (iT c6) (jT c7))) (V:=.bool false) (Ref.bool (bad (by unfold nameChar;omega)))
           · exact rF KT187_ok [(26,tt),(30,.int .u8 c),(33,tt),(36,ff),(45,tt),(51,tt),(54,ff)] (.c6 (iT c1) v0 (nn i) c1 (jT c2) (iF c3) (.a3 (iT c4) (jT c5) (iF c6))) (V:=.bool false) (Ref.bool (bad (by unfold nameChar;omega)))
       · by_cases c5:(65:Int)<=c
         · by_cases c6:c<=(90:Int)
           · exact gN KT187_ok [0,2,24,25] [(26,tt),(30,.int .u8 c),(33,tt),(36,ff),(45,ff),(54,tt),(59,ff),(60,.i6 ((i+1:Nat):Int))] (.c6 (iT c1) v0 (nn i) c1 (jT c2) (iF c3) (.a4 (iF c4) (iT c5) (jF c6) (wI ((i:Int)+(1:Int)) ((i+1:Nat):Int)))) (ih (good (by unfold nameChar;omega)))
           · exact rF KT187_ok [(26,tt),(30,.int .u8 c),(33,tt),(36,ff),(45,ff),(54,tt),(59,tt)] (.c6 (iT c1) v0 (nn i) c1 (jT c2) (iF c3) (.a3 (iF c4) (iT c5) (jT c6))) (V:=.bool false) (Ref.bool (bad (by unfold nameChar;omega)))
         · exact rF KT187_ok [(26,tt),(30,.int .u8 c),(33,tt),(36,ff),(45,ff),(54,ff)] (.c6 (iT c1) v0 (nn i) c1 (jT c2) (iF c3) (.a2 (iF c4) (iF c5))) (V:=.bool false) (Ref.bool (bad (by unfold nameChar;omega)))
end
theorem a187:Ctr 187 k187:=by
 refine ctr Tryz.f187 fun _ _ _ S w0 h ho=> ?_
 unfold k187 at h;split at h <;> cases h;rename_i s;have b0:byteAt s 0=(((s.data.toList.getD 0 0).toNat:Nat):Int):=rfl
 by_cases c1:((s.size:Nat):Int)<(1:Int)
 · exact rF KT187_ok [(8,tt)] (.a1 (iT c1)) (V:=.bool false) (Ref.bool (decide_eq_false fun k=>by have:=k.1;have:=k.2.1;have:=k.2.2.1;omega).symm)
 · by_cases c2:(32:Int)<((s.size:Nat):Int)
   · exact rF KT187_ok [(8,ff),(13,tt)] (.a2 (iF c1) (iT c2)) (V:=.bool false) (Ref.bool (decide_eq_false fun k=>by have:=k.1;have:=k.2.1;have:=k.2.2.1;omega).symm)
   · by_cases c3:(48:Int)<=(((s.data.toList.getD 0 0).toNat:Nat):Int)
     · by_cases c4:(((s.data.toList.getD 0 0).toNat:Nat):Int)<=(57:Int)
       · exact rF KT187_ok [(8,ff),(13,ff),(17,tt),(22,tt)] (.c6 (iF c1) (iF c2) (dc (0<=(0:Int))) (om ((0:Int)<(s.size:Int))) (iT c3) (dc (0<=(0:Int))) (.a2 (om ((0:Int)<(s.size:Int))) (iT c4))) (V:=.bool false) (Ref.bool (decide_eq_false fun k=>by have:=k.1;have:=k.2.1;have:=k.2.2.1;omega).symm)
       · refine p187_0_3 s c1 c2 c3 c4 (by omega) ?_
         exact Good.weak 61 [(0,_),(24,_),(25,_)] (by kernel_rfl) (.r (.r (.r .nil))) (loop187 ⟨by omega,by omega,by omega⟩)
     · refine p187_0_4 s c1 c2 c3 (by omega) ?_
       exact Good.weak 61 [(0,_),(24,_),(25,_)] (by kernel_rfl) (.r (.r (.r .nil))) (loop187 ⟨by omega,by omega,by omega⟩)
def k113:KF
 | [.agg [.z n B],.nat m C]=>some (.agg [.z (n*(m:Int)) (B+C)],[B+C+128<=LIM])
 | _=>none
theorem a113:Ctr 113 k113:=by
 refine ctr Tryz.f113 fun _ _ _ S w0 h ho=> ?_
 unfold k113 at h;split at h <;> cases h;rename_i n B m C;have o1:=ho.one;have K:=(kn.cons a115).cons a109;exact rF K [] (.a1 o1) (V:=.agg [.z (sgn (decide (n<0)) (n.natAbs*m)) (B+C)]) (Ref.z1 (sgn_mul n m) (rl _))
theorem add_same {n m:Int} (h:((decide (n<0))==(decide (m<0)))=true):sgn (decide (n<0)) (n.natAbs+m.natAbs)=n+m:=by
 by_cases a:n<0 <;> by_cases b:m<0 <;> simp[a,b,sgn] at h ⊢ <;> omega
theorem add_diff {n m:Int} (h:((decide (n<0))==(decide (m<0)))=false) (k:m.natAbs<=n.natAbs):sgn (decide (n<0)) (n.natAbs-m.natAbs)=n+m:=by
 by_cases a:n<0 <;> by_cases b:m<0 <;> simp[a,b,sgn] at h ⊢ <;> omega
def k114:KF
 | [.agg [.z n B],.agg [.z m C]]=>some (.agg [.z (n+m) (max B C+1)],[max B C+1<=LIM])
 | _=>none
theorem a114:Ctr 114 k114:=by
 refine ctr Tryz.f114 fun _ _ _ S w0 h ho=> ?_
 unfold k114 at h;split at h <;> cases h;rename_i n B m C;have o1:=ho.one;have L:=limE;have K:=(((kn.cons a207).cons a206).cons a203).cons a109;rcases Bool.eq_false_or_eq_true ((decide (n<0))==(decide (m<0))) with h1 | h1
 · refine rF K [(5,tt)] (.a2 (show Ref (.bool ((decide (n<0))==(decide (m<0)))) (.bool true) from Ref.bool h1) o1) (V:=.agg [.z (sgn (decide (n<0)) (n.natAbs+m.natAbs)) (max B C+1)]) ?_
   refine Ref.z1 ?_ (by omega);exact add_same h1
 · have v0:Ref (.bool ((decide (n<0))==(decide (m<0)))) (.bool false):=Ref.bool h1
   by_cases h2:(0:Int)<=(cmpN n.natAbs m.natAbs)
   · refine rF K [(5,ff),(19,tt)] (.a4 v0 (iT h2) (cmpN_nonneg.1 h2) (om (B<=LIM))) (V:=.agg [.z (sgn (decide (n<0)) (n.natAbs-m.natAbs)) B]) ?_
     refine Ref.z1 ?_ (by omega);exact add_diff h1 (cmpN_nonneg.1 h2)
   · refine rF K [(5,ff),(19,ff)] (.a4 v0 (iF h2) (Nat.le_of_lt (Nat.lt_of_not_le fun h=>h2 (cmpN_nonneg.2 h))) (om (C<=LIM))) (V:=.agg [.z (sgn (decide (m<0)) (m.natAbs-n.natAbs)) C]) ?_
     refine Ref.z1 ?_ (by omega);rw[Int.add_comm];exact add_diff (by rw[<- h1];exact BEq.comm) (Nat.le_of_lt (Nat.lt_of_not_le fun h=>h2 (cmpN_nonneg.2 h)))
def k26:KF
 | [.agg [.q x B],.agg [.q y C]]=>some (.agg [.q (x+y) (B+C+2)],[B+C+200<=LIM])
 | _=>none
theorem a26:Ctr 26 k26:=by
 refine ctr Tryz.f26 fun _ _ _ S w0 h ho=> ?_
 unfold k26 at h;split at h <;> cases h;rename_i x B y C;have o1:=ho.one;have L:=limE;have K:=((((kn.cons a115).cons a114).cons a113).cons a112).cons a111;exact rF K [] (.c6 (om (max B 64+1<=LIM)) (om (max C 64+1<=LIM)) (om (B+(C+1)+128<=LIM)) (om (C+(B+1)+128<=LIM)) (om (max (B+(C+1)) (C+(B+1))+1<=LIM)) (om ((B+1)+(C+1)+128<=LIM)) (.a2 (show 0<(x.den*y.den) by exact Nat.mul_pos x.den_pos y.den_pos) (om (max (max (B+(C+1)) (C+(B+1))+1) ((B+1)+(C+1))+128<=LIM)))) (V:=.agg [.q (mkRat ((x.num*(y.den:Int))+(y.num*(x.den:Int))) (x.den*y.den)) (max (max (B+(C+1)) (C+(B+1))+1) ((B+1)+(C+1)))]) (Ref.q1 (add_mk x y) (by omega))
def k28:KF
 | [.agg [.q x B],.agg [.q y C]]=>some (.agg [.q (x-y) (B+C+2)],[B+C+200<=LIM])
 | _=>none
theorem a28:Ctr 28 k28:=by
 refine ctr Tryz.f28 fun _ _ _ S w0 h ho=> ?_
 unfold k28 at h;split at h <;> cases h;rename_i x B y C;have o1:=ho.one;have K:=(kn.cons a59).cons a26;exact rF K [] (.a1 o1) (V:=.agg [.q (x+(-y)) (B+C+2)]) (Ref.q1 (Rat.sub_eq_add_neg x y).symm (rl _))
def k212:KF
 | [.agg [.q px B,.q pz D],.agg [.q qx C,.q qz E]]=>some (.agg [.q (px*qz-pz*qx) (B+D+C+E+6)],[B+D+C+E+300<=LIM])
 | _=>none
theorem a212:Ctr 212 k212:=by
 refine ctr Tryz.f212 fun _ _ _ S w0 h ho=> ?_
 unfold k212 at h;split at h <;> cases h;rename_i px B pz D qx C qz E;have o1:=ho.one;have L:=limE;have K:=(kn.cons a29).cons a28;exact rF K [] (.a3 (om (B+E+200<=LIM)) (om (D+C+200<=LIM)) (om ((B+E+2)+(D+C+2)+200<=LIM))) (V:=.agg [.q ((px*qz)-(pz*qx)) ((B+E+2)+(D+C+2)+2)]) (Ref.q1 rfl (by omega))
def k32:KF
 | [.agg [.q px B,.q pz D],.agg [.q qx C,.q qz E]]=>some (.agg [.q (px-qx) (B+C+2),.q (pz-qz) (D+E+2)],[B+D+C+E+300<=LIM])
 | _=>none
theorem a32:Ctr 32 k32:=by
 refine ctr Tryz.f32 fun _ _ _ S w0 h ho=> ?_
 unfold k32 at h;split at h <;> cases h;rename_i px B pz D qx C qz E;have o1:=ho.one;have L:=limE;have K:=kn.cons a28;exact rR K [] (.a2 (om (B+C+200<=LIM)) (om (D+E+200<=LIM)))
def k156:KF
 | [.agg [.z n B]]=>some (.int .i64 (Int.sign n),[])
 | _=>none
theorem a156:Ctr 156 k156:=by
 refine ctr Tryz.f156 fun _ _ _ S w0 h ho=> ?_
 unfold k156 at h;split at h <;> cases h;rename_i n B;refine Good.weak 11 [(0,.agg [.bool (decide (n<0)),.list 1 (d32 (digits b32 n.natAbs))])] (by kernel_rfl) (.cons (Ref.agg (RefC.zopn.trans (RefC.tl RefC.opn))) .nil) ?_;have hl:=digits_pos (b:=b32) (n:=n.natAbs) (by decide);generalize digits b32 n.natAbs=xs at*;rw[<- @d32_length xs] at hl;rcases Bool.eq_false_or_eq_true (decide (n<0)) with h1 | h1
 · exact rF .nil [(3,tt)] (.a1 (show Ref (.bool (decide (n<0))) (.bool true) from Ref.bool h1)) (V:=.i6 (-1:Int)) (Ref.int (Int.sign_eq_neg_one_of_neg (of_decide_eq_true h1)).symm)
 · have v0:Ref (.bool (decide (n<0))) (.bool false):=Ref.bool h1
   by_cases h2:(((d32 xs).length:Nat):Int)=(0:Int)
   · refine rF .nil [(3,ff),(6,tt)] (.a2 v0 (iT h2)) (V:=.i6 (0:Int)) ?_
     have h1:=of_decide_eq_false h1;exact Ref.int (by rw[show n=0 by omega];rfl)
   · refine rF .nil [(3,ff),(6,ff)] (.a2 v0 (iF h2)) (V:=.i6 (1:Int)) ?_
     have h1:=of_decide_eq_false h1;exact Ref.int (Int.sign_eq_one_of_pos (by omega)).symm
def k60:KF
 | [.agg [.q x B]]=>some (.int .i64 (Int.sign x.num),[])
 | _=>none
theorem a60:Ctr 60 k60:=by
 refine ctr Tryz.f60 fun _ _ _ S w0 h ho=> ?_
 unfold k60 at h;split at h <;> cases h;rename_i x B;have K:=kn.cons a156;exact rR K [] .nil
def KT254_ok:=((kn.cons a212).cons a60).cons a32
section
variable {S0 C0:Nat->Prop} {w0:World} {Post:Value->World->Prop}
theorem p254_2_2 (l:List PtD) (i n k:Nat) (a b c:PtD) (h1:¬ ((k:Int)<(n:Int))) (o:(-9223372036854775808<=(i:Int)+(1:Int)/\(i:Int)+(1:Int)<=9223372036854775807))
   (hg:Good Tryz.prog 254 S0 C0 w0 Post [.code (nav [1,1,1,0,1,0,0] (bodyOf Tryz.f254)),.inLoop (nav [1,1,1,0,1,0,0] (bodyOf Tryz.f254)),.inBlock 0,.code (nav [1,1,1,1] (bodyOf Tryz.f254))] ⟨slots 56 [(0,.list 6 (l.map (unP 300))),(3,.i6 (n:Int)),(4,.i6 (i:Int)),(5,.ptr 0 6 0 0),(6,.ptr 1 6 0 0),(7,.i6 (k:Int)),(20,.list 6 (l.map (unP 300))),(21,.i6 (n:Int)),(22,.i6 ((i+1:Nat):Int))],[some ⟨58,6,false,[[.q a.x 300,.q a.z 300]],none⟩,some ⟨58,6,false,[[.q b.x 300,.q b.z 300]],none⟩]⟩):
   Good Tryz.prog 254 S0 C0 w0 Post [.code (nav [1,1,1,0,1,0,0,1,1,0,0,1,1,1,0,0] (bodyOf Tryz.f254)),.inLoop (nav [1,1,1,0,1,0,0,1,1,0,0,1,1,1,0,0] (bodyOf Tryz.f254)),.inBlock 2,.inBlock 1,.code (nav [1,1,1,0,1,0,0,1,1,1] (bodyOf Tryz.f254)),.inLoop (nav [1,1,1,0,1,0,0] (bodyOf Tryz.f254)),.inBlock 0,.code (nav [1,1,1,1] (bodyOf Tryz.f254))] ⟨slots 56 [(0,.list 6 (l.map (unP 300))),(3,.i6 (n:Int)),(4,.i6 (i:Int)),(5,.ptr 0 6 0 0),(6,.ptr 1 6 0 0),(7,.i6 (k:Int)),(20,.list 6 (l.map (unP 300))),(21,.i6 (n:Int)),(22,.i6 (i:Int))],[some ⟨58,6,false,[[.q a.x 300,.q a.z 300]],none⟩,some ⟨58,6,false,[[.q b.x 300,.q b.z 300]],none⟩]⟩:=
 go mixed TT0_ok KT254_ok 13 none [0,2,3,4,5,6,7,20,21,22] [(36,(.bool false)),(55,(.i6 ((i+1:Nat):Int)))] (ob:=[Ref (.bool (decide ((k:Int)<(n:Int)))) (.bool false),Ref (.i6 (IntKind.i64.wrap ((i:Int)+(1:Int)))) (.i6 ((i+1:Nat):Int))]) (by kernel_rfl)
   (.cons (Ref.bool (decide_eq_false h1)) (.cons ((Ref.wr o).trans (Ref.int (by rfl))) (AllP.nil))) hg
end
def turnS (l:List PtD) (i k:Nat):Int:=
 Int.sign (((l.getD ((i+1) % l.length) default).x-(l.getD i default).x)*((l.getD ((i+k) % l.length) default).z-(l.getD i default).z)-((l.getD ((i+1) % l.length) default).z-(l.getD i default).z)*((l.getD ((i+k) % l.length) default).x-(l.getD i default).x)).num
def convexB (l:List PtD):Bool:=decide ((l.length=0\/3<=l.length/\l.length<=12)/\∀ i,i<l.length->∀ k,k<l.length->2<=k->0<turnS l i k)
def k254:KF
 | [.list 6 X]=>some (.bool (convexB (X.map rePt)),[X=(X.map rePt).map (unP 300)])
 | _=>none
section
variable {S:Nat->Prop} {w0:World}
noncomputable abbrev T254:List Item:=[.code (nav [1,1,1,0,1,0,0] (bodyOf Tryz.f254)),.inLoop (nav [1,1,1,0,1,0,0] (bodyOf Tryz.f254)),.inBlock 0,.code (nav [1,1,1,1] (bodyOf Tryz.f254))]
noncomputable abbrev T254i:List Item:=[.code (nav [1,1,1,0,1,0,0,1,1,0,0,1,1,1,0,0] (bodyOf Tryz.f254)),.inLoop (nav [1,1,1,0,1,0,0,1,1,0,0,1,1,1,0,0] (bodyOf Tryz.f254)),.inBlock 2,.inBlock 1,.code (nav [1,1,1,0,1,0,0,1,1,1] (bodyOf Tryz.f254)),.inLoop (nav [1,1,1,0,1,0,0] (bodyOf Tryz.f254)),.inBlock 0,.code (nav [1,1,1,1] (bodyOf Tryz.f254))]
theorem getPt {l:List PtD} {i:Nat} (h:i<l.length):Ref (.cptr ((l.map (unP 300)).getD i []) 0) (.cptr [.q (l.getD i default).x 300,.q (l.getD i default).z 300] 0):=Ref.cmap (f:=unP 300) h
theorem inner254 {l:List PtD} {i:Nat} (hi:i<l.length) (h3:3<=l.length/\l.length<=12)
   (next:(∀ k,k<l.length->2<=k->0<turnS l i k)->GF 254 S w0 (.bool (convexB l)) T254 ⟨slots 56 [(0,.list 6 (l.map (unP 300))),(3,.i6 ((l.length:Nat):Int)),(20,.list 6 (l.map (unP 300))),(21,.i6 ((l.length:Nat):Int)),(22,.i6 ((i+1:Nat):Int))],[]⟩):
   GF 254 S w0 (.bool (convexB l)) T254i ⟨slots 56 [(0,.list 6 (l.map (unP 300))),(3,.i6 ((l.length:Nat):Int)),(4,.i6 ((i:Nat):Int)),(5,.ptr 0 6 0 0),(6,.ptr 1 6 0 0),(7,.i6 ((2:Nat):Int)),(20,.list 6 (l.map (unP 300))),(21,.i6 ((l.length:Nat):Int)),(22,.i6 ((i:Nat):Int))],
     [some ⟨58,6,false,[unP 300 (l.getD i default)],none⟩,some ⟨58,6,false,[unP 300 (l.getD ((i+1) % l.length) default)],none⟩]⟩:=by
 refine down (G:=fun f=>(∀ k,k<2+f->2<=k->0<turnS l i k)->GF 254 S w0 (.bool (convexB l)) T254i ⟨slots 56 [(0,.list 6 (l.map (unP 300))),(3,.i6 ((l.length:Nat):Int)),(4,.i6 ((i:Nat):Int)),(5,.ptr 0 6 0 0),(6,.ptr 1 6 0 0),(7,.i6 ((2+f:Nat):Int)),(20,.list 6 (l.map (unP 300))),(21,.i6 ((l.length:Nat):Int)),(22,.i6 ((i:Nat):Int))],
     [some ⟨58,6,false,[unP 300 (l.getD i default)],none⟩,some ⟨58,6,false,[unP 300 (l.getD ((i+1) % l.length) default)],none⟩]⟩) (l.length-2) ?_ ?_ (fun k hk h2=>absurd hk (by omega))
 · intro hk
   refine p254_2_2 l i l.length (2+(l.length-2)) (l.getD i default) (l.getD ((i+1) % l.length) default) default (by omega) (by omega) ?_;exact Good.weak 56 [(0,_),(3,_),(20,_),(21,_),(22,_)] (by kernel_rfl) (.r (.r (.r (.r (.r .nil))))) (Good.tidy [] (by decide) (by kernel_rfl) (by kernel_rfl) (next fun k hk' h2=>hk k (by omega) h2))
 · intro f hf ih hk
   have hm:(i+(2+f)) % l.length<l.length:=Nat.mod_lt _ (by omega);have v0:Ref (.cptr ((l.map (unP 300)).getD ((i+(2+f)) % l.length) []) 0) (.cptr [.q (l.getD ((i+(2+f)) % l.length) default).x 300,.q (l.getD ((i+(2+f)) % l.length) default).z 300] 0):=getPt hm;have v1:Ref (.i6 (((i+(2+f):Nat):Int).tmod (l.length:Int))) (.i6 (((i+(2+f)) % l.length:Nat):Int)):=Ref.rem (a:=i+(2+f)) (b:=l.length) rfl rfl;have v2:300+300+300+300+300<=LIM:=by decide
   have v3:(((i+(2+f)) % l.length:Nat):Int)<((l.map (unP 300)).length:Int):=by first | omega | (rw[lmE];omega)
   have v4:(300+300+2)+(300+300+2)+(300+300+2)+(300+300+2)+300<=LIM:=by decide
   have v5:(((2+f):Nat):Int)<(l.length:Int):=by omega
   by_cases c:turnS l i (2+f)<=0
   · exact rF KT254_ok [(36,tt),(45,.i6 ((i+(2+f):Nat):Int)),(47,.i6 (((i+(2+f)) % l.length:Nat):Int)),(48,.cptr [.q (l.getD ((i+(2+f)) % l.length) default).x 300,.q (l.getD ((i+(2+f)) % l.length) default).z 300] 0),(54,tt)] (.c6 (iT v5) v2 (wI ((i:Int)+(((2+f):Nat):Int)) ((i+(2+f):Nat):Int) (by first | omega | (rw[lmE];omega))) v1 (om ((l.length:Int)≠0)) v0 (.a5 (nn ((i+(2+f)) % l.length)) v3 v2 v4 (iT c))) (V:=.bool false) (Ref.bool (decide_eq_false fun h=>by have:=h.2 i hi (2+f) (by omega) (by omega);omega).symm)
   · refine gR KT254_ok none [0,2,3,4,5,6,7,20,21,22] [0,1] [(36,tt),(45,.i6 ((i+(2+f):Nat):Int)),(47,.i6 (((i+(2+f)) % l.length:Nat):Int)),(48,.cptr [.q (l.getD ((i+(2+f)) % l.length) default).x 300,.q (l.getD ((i+(2+f)) % l.length) default).z 300] 0),(54,ff),(38,.i6 (((2+f)+1:Nat):Int))] (.c6 (iT v5) v2 (wI ((i:Int)+(((2+f):Nat):Int)) ((i+(2+f):Nat):Int) (by first | omega | (rw[lmE];omega))) v1 (om ((l.length:Int)≠0)) v0 (.a6 (nn ((i+(2+f)) % l.length)) v3 v2 v4 (iF c) (wI ((((2+f):Nat):Int)+(1:Int)) (((2+f)+1:Nat):Int) (by first | omega | (rw[lmE];omega))))) (t:=T254i) (σ:=slots 56 [(0,.list 6 (l.map (unP 300))),(3,.i6 (l.length:Int)),(4,.i6 (i:Int)),(5,.ptr 0 6 0 0),(6,.ptr 1 6 0 0),(7,(.i6 (((2+f)+1:Nat):Int))),(20,.list 6 (l.map (unP 300))),(21,.i6 (l.length:Int)),(22,.i6 (i:Int))]) (h:=[some ⟨58,6,false,[[.q (l.getD i default).x 300,.q (l.getD i default).z 300]],none⟩,some ⟨58,6,false,[[.q (l.getD ((i+1) % l.length) default).x 300,.q (l.getD ((i+1) % l.length) default).z 300]],none⟩]) ?_
     exact Good.weak 56 [(0,_),(3,_),(4,_),(5,_),(6,_),(7,_),(20,_),(21,_),(22,_)] (by kernel_rfl) (.r (.r (.r (.r (.r (.r (.r (.r (.r .nil))))))))) (ih fun k hk' h2=>by
       by_cases e:k=2+f
       · subst e;omega
       · exact hk k (by omega) h2)
theorem loop254 {l:List PtD} (h3:l.length=0\/3<=l.length/\l.length<=12):
   GF 254 S w0 (.bool (convexB l)) T254 ⟨slots 56 [(0,.list 6 (l.map (unP 300))),(3,.i6 ((l.length:Nat):Int)),(20,.list 6 (l.map (unP 300))),(21,.i6 ((l.length:Nat):Int)),(22,.i6 ((0:Nat):Int))],[]⟩:=by
 refine down (G:=fun i=>(∀ j,j<i->∀ k,k<l.length->2<=k->0<turnS l j k)->GF 254 S w0 (.bool (convexB l)) T254 ⟨slots 56 [(0,.list 6 (l.map (unP 300))),(3,.i6 ((l.length:Nat):Int)),(20,.list 6 (l.map (unP 300))),(21,.i6 ((l.length:Nat):Int)),(22,.i6 ((i:Nat):Int))],[]⟩) l.length ?_ ?_ (fun k hk=>absurd hk (Nat.not_lt_zero k))
 · intro hj
   exact rF KT254_ok [(23,ff)] (.a1 (iF (om (¬ ((l.length:Int)<(l.length:Int)))))) (V:=.bool true) (Ref.bool (decide_eq_true ⟨h3,hj⟩).symm)
 · intro i hlt ih hj
   have hm:(i+1) % l.length<l.length:=Nat.mod_lt _ (by omega);refine gN KT254_ok [0,2,3,4,5,6,7,20,21,22] [(23,tt),(25,.cptr [.q (l.getD i default).x 300,.q (l.getD i default).z 300] 0),(29,.i6 ((i+1:Nat):Int)),(31,.i6 (((i+1) % l.length:Nat):Int)),(32,.cptr [.q (l.getD ((i+1) % l.length) default).x 300,.q (l.getD ((i+1) % l.length) default).z 300] 0)] (.c6 (iT (om ((i:Int)<(l.length:Int)))) (show Ref (.cptr ((l.map (unP 300)).getD i []) 0) (.cptr [.q (l.getD i default).x 300,.q (l.getD i default).z 300] 0) from getPt hlt) (nn i) (show(i:Int)<((l.map (unP 300)).length:Int) by first | omega | (rw[lmE];omega)) (wI ((i:Int)+(1:Int)) ((i+1:Nat):Int) (by first | omega | (rw[lmE];omega))) (show Ref (.i6 (((i+1:Nat):Int).tmod (l.length:Int))) (.i6 (((i+1) % l.length:Nat):Int)) from Ref.rem (a:=i+1) (b:=l.length) rfl rfl) (.a4 (om ((l.length:Int)≠0)) (show Ref (.cptr ((l.map (unP 300)).getD ((i+1) % l.length) []) 0) (.cptr [.q (l.getD ((i+1) % l.length) default).x 300,.q (l.getD ((i+1) % l.length) default).z 300] 0) from getPt hm) (nn ((i+1) % l.length)) (show(((i+1) % l.length:Nat):Int)<((l.map (unP 300)).length:Int) by first | omega | (rw[lmE];omega)))) (t:=T254i) (σ:=slots 56 [(0,.list 6 (l.map (unP 300))),(3,.i6 (l.length:Int)),(4,.i6 (i:Int)),(5,.ptr 0 6 0 0),(6,.ptr 1 6 0 0),(7,.i6 (2:Int)),(20,.list 6 (l.map (unP 300))),(21,.i6 (l.length:Int)),(22,.i6 (i:Int))]) (h:=[some ⟨58,6,false,[[.q (l.getD i default).x 300,.q (l.getD i default).z 300]],none⟩,some ⟨58,6,false,[[.q (l.getD ((i+1) % l.length) default).x 300,.q (l.getD ((i+1) % l.length) default).z 300]],none⟩]) ?_
   refine Good.weak 56 [(0,_),(3,_),(4,_),(5,_),(6,_),(7,.i6 ((2:Nat):Int)),(20,_),(21,_),(22,_)] (by kernel_rfl) (.r (.r (.r (.r (.r (.r (.r (.r (.r .nil))))))))) (inner254 hlt (by omega) fun hk=>ih fun j hj'=>by
     by_cases e:j=i
     · subst e;exact hk
     · exact hj j (by omega))
end
theorem a254:Ctr 254 k254:=by
 refine ctr Tryz.f254 fun _ _ _ S w0 h ho=> ?_
 unfold k254 at h;split at h <;> cases h;rename_i X;have o1:=ho.one;clear ho;generalize X.map rePt=l at*;subst o1;have hl:(l.map (unP 300)).length=l.length:=lmE ..
 by_cases c1:(((l.map (unP 300)).length:Nat):Int)=(0:Int)
 · refine gN KT254_ok [0,2,3,20,21,22] [(12,ff)] (.a1 (jF c1)) (t:=T254) (σ:=slots 56 [(0,.list 6 (l.map (unP 300))),(2,.bool false),(3,(.i6 ((l.map (unP 300)).length:Int))),(20,.list 6 (l.map (unP 300))),(21,(.i6 ((l.map (unP 300)).length:Int))),(22,.i6 (0:Int))]) (h:=[]) ?_
   rw[hl];exact Good.weak 56 [(0,_),(3,_),(20,_),(21,_),(22,_)] (by kernel_rfl) (.r (.r (.r (.r (.r .nil))))) (loop254 (by omega))
 · by_cases c2:(((l.map (unP 300)).length:Nat):Int)<(3:Int)
   · exact rF KT254_ok [(12,tt),(15,tt)] (.a2 (jT c1) (iT c2)) (V:=.bool false) (Ref.bool (decide_eq_false fun h=>by have:=h.1;omega).symm)
   · by_cases c3:(12:Int)<(((l.map (unP 300)).length:Nat):Int)
     · exact rF KT254_ok [(12,tt),(15,ff),(19,tt)] (.a3 (jT c1) (iF c2) (iT c3)) (V:=.bool false) (Ref.bool (decide_eq_false fun h=>by have:=h.1;omega).symm)
     · refine gN KT254_ok [0,2,3,20,21,22] [(12,tt),(15,ff),(19,ff)] (.a3 (jT c1) (iF c2) (iF c3)) (t:=T254) (σ:=slots 56 [(0,.list 6 (l.map (unP 300))),(2,.bool false),(3,(.i6 ((l.map (unP 300)).length:Int))),(20,.list 6 (l.map (unP 300))),(21,(.i6 ((l.map (unP 300)).length:Int))),(22,.i6 (0:Int))]) (h:=[]) ?_
       rw[hl];exact Good.weak 56 [(0,_),(3,_),(20,_),(21,_),(22,_)] (by kernel_rfl) (.r (.r (.r (.r (.r .nil))))) (loop254 (by omega))
def k252:KF
 | [.agg [.str n,.int .i64 p,.q ax 300,.q az 300,.q ma 300,.q ir 300,.q cx 300,.q cz 300,.q lo 300,.q hi 300,.list 6 H],.cptr [.str n',.int .i64 p',.q ax' 300,.q az' 300,.q ma' 300,.q ir' 300,.q cx' 300,.q cz' 300,.q lo' 300,.q hi' 300,.list 6 H'] 0]=>some (.bool (n.toList==n'.toList),[])
 | _=>none
theorem a252:Ctr 252 k252:=by
 refine ctr Tryz.f252 fun _ _ _ S w0 h ho=> ?_
 unfold k252 at h;split at h <;> cases h;rename_i n p ax az ma ir cx cz lo hi H n' p' ax' az' ma' ir' cx' cz' lo' hi' H';exact rR .nil [] .nil
def KT294_ok:=kn.cons a252
def idxP (p:Nat->Bool):Nat->Nat->Int
 | _,0=> -1
 | i,k+1=>if p i then (i:Int) else idxP p (i+1) k
def k294:KF
 | [.list 27 X,.fn 252 [.cptr [.str n0,.int .i64 p0,.q ax0 300,.q az0 300,.q ma0 300,.q ir0 300,.q cx0 300,.q cz0 300,.q lo0 300,.q hi0 300,.list 6 H0] 0]]=>some (.int .i64 (idxP (fun j=>(((X.map reBody).getD j default).name.toList==n0.toList)) 0 X.length),[X=(X.map reBody).map (unBody 300),X.length<=4611686018427387904])
 | _=>none
section
variable {S:Nat->Prop} {w0:World}
noncomputable abbrev T294:List Item:=[.code (nav [1,0,1,0,0] (bodyOf Tryz.f294)),.inLoop (nav [1,0,1,0,0] (bodyOf Tryz.f294)),.inBlock 0,.code (nav [1,1] (bodyOf Tryz.f294))]
theorem loop294 {es:List BodyD} (n0:ByteArray) (p0:Int) (ax0 az0 ma0 ir0 cx0 cz0 lo0 hi0:Rat) (H0:List (List AV)) (hL:es.length<=4611686018427387904):
   GF 294 S w0 (.i6 (idxP (fun j=>((es.getD j default).name.toList==n0.toList)) 0 es.length)) T294 ⟨slots 19 [(0,.list 27 (es.map (unBody 300))),(1,.fn 252 [.cptr [.str n0,.i6 p0,.q ax0 300,.q az0 300,.q ma0 300,.q ir0 300,.q cx0 300,.q cz0 300,.q lo0 300,.q hi0 300,.list 6 H0] 0]),(6,.list 27 (es.map (unBody 300))),(7,.i6 ((es.length:Nat):Int)),(8,.i6 ((0:Nat):Int))],[]⟩:=by
 have ret:∀ {todo:List Item} {σ:List AV} {h:List (Option ABlk)} {b:Int},b=idxP (fun j=>((es.getD j default).name.toList==n0.toList)) 0 es.length->σ.getD 4 .any= .i6 b->GF 294 S w0 (.i6 (idxP (fun j=>((es.getD j default).name.toList==n0.toList)) 0 es.length)) (.code .ret::todo) ⟨σ,h⟩:=fun e hσ=>
   good_ret1 TT0_ok (fn:=Tryz.f294) (by kernel_rfl) 4 (by kernel_rfl) rfl (by rw[hσ];rfl) (by rw[hσ,e];exact rr)
 refine down (G:=fun i=>idxP (fun j=>((es.getD j default).name.toList==n0.toList)) i (es.length-i)=idxP (fun j=>((es.getD j default).name.toList==n0.toList)) 0 es.length->GF 294 S w0 (.i6 (idxP (fun j=>((es.getD j default).name.toList==n0.toList)) 0 es.length)) T294 ⟨slots 19 [(0,.list 27 (es.map (unBody 300))),(1,.fn 252 [.cptr [.str n0,.i6 p0,.q ax0 300,.q az0 300,.q ma0 300,.q ir0 300,.q cx0 300,.q cz0 300,.q lo0 300,.q hi0 300,.list 6 H0] 0]),(6,.list 27 (es.map (unBody 300))),(7,.i6 ((es.length:Nat):Int)),(8,.i6 ((i:Nat):Int))],[]⟩) es.length ?_ ?_ rfl
 · intro he
   rw[Nat.sub_self] at he;exact rF KT294_ok [(9,ff)] (.a1 (iF (om (¬ ((es.length:Int)<(es.length:Int)))))) (V:=.i6 (-1:Int)) (Ref.int he)
 · intro i hlt ih he
   rw[show es.length-i=(es.length-(i+1))+1 by omega,idxP] at he;have v0:Ref (.cptr ((es.map (unBody 300)).getD i []) 0) (.cptr (unBody 300 (es.getD i default)) 0):=Ref.cmap hlt;have v1:(i:Int)<((es.map (unBody 300)).length:Int):=by rw[lmE];omega
   have v2:(i:Int)<(es.length:Int):=by omega
   by_cases c:((es.getD i default).name.toList==n0.toList)=true
   · rw[if_pos c] at he
     exact rF KT294_ok [(9,tt),(14,.cptr (unBody 300 (es.getD i default)) 0),(16,tt)] (.a5 (iT v2) v0 (nn i) v1 (show Ref (.bool ((es.getD i default).name.toList==n0.toList)) (.bool true) from Ref.bool c)) (V:=.i6 (i:Int)) (Ref.int he)
   · rw[if_neg c] at he
     exact gR KT294_ok none [0,1,4,6,7,8] [] [(9,tt),(14,.cptr (unBody 300 (es.getD i default)) 0),(16,ff),(18,.i6 ((i+1:Nat):Int))] (.a6 (iT v2) v0 (nn i) v1 (show Ref (.bool ((es.getD i default).name.toList==n0.toList)) (.bool false) from Ref.bool (show((es.getD i default).name.toList==n0.toList)=false by simpa using c)) (wI ((i:Int)+(1:Int)) ((i+1:Nat):Int))) (ih he)
end
theorem a294:Ctr 294 k294:=by
 refine ctr Tryz.f294 fun _ _ _ S w0 h ho=> ?_
 unfold k294 at h;split at h <;> cases h;rename_i X n0 p0 ax0 az0 ma0 ir0 cx0 cz0 lo0 hi0 H0;obtain⟨o1,-⟩:=ho.e2;have o2:(X.map reBody).length<=4611686018427387904:=by rw[lmE];exact ho _ (by simp)
 clear ho;rw[show X.length=(X.map reBody).length by rw[lmE]];generalize (X.map reBody)=es at*;subst o1;refine gN KT294_ok [0,1,6,7,8] [] .nil (t:=T294) (σ:=slots 19 [(0,.list 27 (es.map (unBody 300))),(1,.fn 252 [.cptr [.str n0,.i6 p0,.q ax0 300,.q az0 300,.q ma0 300,.q ir0 300,.q cx0 300,.q cz0 300,.q lo0 300,.q hi0 300,.list 6 H0] 0]),(6,.list 27 (es.map (unBody 300))),(7,(.i6 ((es.map (unBody 300)).length:Int))),(8,.i6 (0:Int))]) (h:=[]) ?_
 rw[lmE];exact loop294 n0 p0 ax0 az0 ma0 ir0 cx0 cz0 lo0 hi0 H0 o2
def k251:KF
 | [.list 27 X,.fn 252 [.cptr [.str n0,.int .i64 p0,.q ax0 300,.q az0 300,.q ma0 300,.q ir0 300,.q cx0 300,.q cz0 300,.q lo0 300,.q hi0 300,.list 6 H0] 0]]=>some (.bool (decide (0<=idxP (fun j=>(((X.map reBody).getD j default).name.toList==n0.toList)) 0 X.length)),[X=(X.map reBody).map (unBody 300),X.length<=4611686018427387904])
 | _=>none
theorem a251:Ctr 251 k251:=by
 refine ctr Tryz.f251 fun _ _ _ S w0 h ho=> ?_
 unfold k251 at h;split at h <;> cases h;rename_i X n0 p0 ax0 az0 ma0 ir0 cx0 cz0 lo0 hi0 H0;obtain⟨o1,o2⟩:=ho.e2;have K:=kn.cons a294;exact rR K [] (.a2 o1 o2)
theorem cmp_a {n m:Int} (h:(!((decide (n<0))==(decide (m<0))))=true) (k:n<0):(-1:Int)=cmpZ n m:=by
 by_cases b:m<0 <;> simp[k,b] at h
 unfold cmpZ;rw[if_pos (by omega)]
theorem cmp_b {n m:Int} (h:(!((decide (n<0))==(decide (m<0))))=true) (k:¬ n<0):(1:Int)=cmpZ n m:=by
 by_cases b:m<0 <;> simp[k,b] at h
 unfold cmpZ;rw[if_neg (by omega),if_pos (by omega)]
theorem cmp_c {n m:Int} (h:(!((decide (n<0))==(decide (m<0))))=false) (k:n<0):cmpN m.natAbs n.natAbs=cmpZ n m:=by
 by_cases b:m<0 <;> simp[k,b] at h
 unfold cmpZ cmpN
 by_cases c:n<m
 · rw[if_pos (by omega),if_pos c]
 · by_cases d:m<n
   · rw[if_neg (by omega),if_pos (by omega),if_neg c,if_pos d]
   · rw[if_neg (by omega),if_neg (by omega),if_neg c,if_neg d]
theorem cmp_d {n m:Int} (h:(!((decide (n<0))==(decide (m<0))))=false) (k:¬ n<0):cmpN n.natAbs m.natAbs=cmpZ n m:=by
 by_cases b:m<0 <;> simp[k,b] at h
 unfold cmpZ cmpN
 by_cases c:n<m
 · rw[if_pos (by omega),if_pos c]
 · by_cases d:m<n
   · rw[if_neg (by omega),if_pos (by omega),if_neg c,if_pos d]
   · rw[if_neg (by omega),if_neg (by omega),if_neg c,if_neg d]
def k199:KF
 | [.agg [.z n B],.agg [.z m C]]=>some (.int .i64 (cmpZ n m),[])
 | _=>none
theorem a199:Ctr 199 k199:=by
 refine ctr Tryz.f199 fun _ _ _ S w0 h ho=> ?_
 unfold k199 at h;split at h <;> cases h;rename_i n B m C;have K:=kn.cons a207;rcases Bool.eq_false_or_eq_true (!((decide (n<0))==(decide (m<0)))) with h1 | h1
 · have v1:Ref (.bool (!((decide (n<0))==(decide (m<0))))) (.bool true):=Ref.bool h1
   by_cases h2:n<0
   · exact rF K [(11,tt),(5,tt)] (.a2 v1 (iT h2)) (V:=.i6 (-1:Int)) (Ref.int (cmp_a h1 h2))
   · exact rF K [(11,tt),(5,ff),(15,tt)] (.a3 v1 (iF h2) v1) (V:=.i6 (1:Int)) (Ref.int (cmp_b h1 h2))
 · have v0:Ref (.bool (!((decide (n<0))==(decide (m<0))))) (.bool false):=Ref.bool h1
   by_cases h2:n<0
   · exact rF K [(11,ff),(15,ff),(21,tt)] (.a3 v0 v0 (iT h2)) (V:=.i6 (cmpN m.natAbs n.natAbs)) (Ref.int (cmp_c h1 h2))
   · exact rF K [(11,ff),(15,ff),(21,ff)] (.a3 v0 v0 (iF h2)) (V:=.i6 (cmpN n.natAbs m.natAbs)) (Ref.int (cmp_d h1 h2))
def k104:KF
 | [.agg [.q x B],.agg [.q y C]]=>some (.int .i64 (cmpQ x y),[B+C+200<=LIM])
 | _=>none
theorem a104:Ctr 104 k104:=by
 refine ctr Tryz.f104 fun _ _ _ S w0 h ho=> ?_
 unfold k104 at h;split at h <;> cases h;rename_i x B y C;have o1:=ho.one;have L:=limE;have K:=((kn.cons a199).cons a113).cons a111;exact rF K [] (.a4 (om (max C 64+1<=LIM)) (om (B+(C+1)+128<=LIM)) (om (max B 64+1<=LIM)) (om (C+(B+1)+128<=LIM))) (V:=.i6 (cmpZ (x.num*(y.den:Int)) (y.num*(x.den:Int)))) (Ref.int (cmpQ_eq x y))
def k253:KF
 | [.agg [.q x B,.q y C],.agg [.q z D,.q w E]]=>some (.bool (decide (x=z/\y=w)),[B+D+200<=LIM,C+E+200<=LIM])
 | _=>none
theorem a253:Ctr 253 k253:=by
 refine ctr Tryz.f253 fun _ _ _ S w0 h ho=> ?_
 unfold k253 at h;split at h <;> cases h;rename_i x B y C z D w E;obtain⟨o1,o2⟩:=ho.e2;have K:=kn.cons a104
 by_cases h1:(cmpQ x z)=(0:Int)
 · exact rF K [(11,tt)] (.a3 o1 (iT h1) o2) (V:=.bool (decide ((cmpQ y w)=(0:Int)))) (Ref.bool (by rw[cmpQ_zero] at h1;simp[cmpQ_zero,h1]))
 · exact rF K [(11,ff)] (.a2 o1 (iF h1)) (V:=.bool false) (Ref.bool (by rw[cmpQ_zero] at h1;simp[h1]))
def KT190_ok:=(((((kn.cons a254).cons a253).cons a251).cons a187).cons a104).cons a60
noncomputable abbrev c190T0:List Item:=[.code (nav [1,1,1,1,0] (bodyOf Tryz.f190)),.code (nav [1,1,1,1,1] (bodyOf Tryz.f190))]
noncomputable abbrev c190T1:List Item:=[.code (nav [1,1,1,1,1,0,0] (bodyOf Tryz.f190)),.code (nav [1,1,1,1,1,0,1] (bodyOf Tryz.f190)),.code (nav [1,1,1,1,1,1] (bodyOf Tryz.f190))]
noncomputable abbrev c190T2:List Item:=[.code (nav [1,1,1,0] (bodyOf Tryz.f190)),.code (nav [1,1,1,1] (bodyOf Tryz.f190))]
noncomputable abbrev c190T3:List Item:=[.code (nav [1,1,0,0,1,1,0] (bodyOf Tryz.f190)),.code (nav [1,1,0,0,1,1,1] (bodyOf Tryz.f190)),.inBlock 0,.code (nav [1,1,1] (bodyOf Tryz.f190))]
noncomputable abbrev c190T4:List Item:=[.code .ret,.inBlock 0,.code (nav [1,1,1] (bodyOf Tryz.f190))]
def trunkB (v:BodyD):Bool:=decide (v.par= -1/\(v.at_.x=0/\v.at_.z=0)/\Int.sign v.low.num=0/\Int.sign v.high.num=0)
def limbB (v:BodyD) (i:Nat):Bool:=decide (0<=v.par/\v.par<((i:Nat):Int)/\cmpQ v.low v.high<=0)
def bodyF (i:Nat) (v:BodyD) (tr lb:Bool):Int:=if (i=0/\tr=false)\/(0<i/\lb=false)\/Int.sign v.ma.num<=0\/Int.sign v.inr.num<=0\/convexB v.shape=false then 2 else 0
def twiceB (bs:List BodyD) (i:Nat) (v:BodyD):Prop:=0<=idxP (fun j=>(((bs.take i).getD j default).name.toList==v.name.toList)) 0 i
instance (bs:List BodyD) (i:Nat) (v:BodyD):Decidable (twiceB bs i v):=by unfold twiceB;infer_instance
def bodyV (bs:List BodyD) (i:Nat) (v:BodyD):Int:=if isNameB v.name=false then 6 else if twiceB bs i v then 7 else bodyF i v (trunkB v) (limbB v i)
def bodyE (bs:List BodyD) (i:Nat):Int:=bodyV bs i (bs.getD i default)
def k190:KF
 | [.agg M,.int .i64 i]=>some (.int .i64 (bodyE (reMach M).bodies i.toNat),[0<=i,M=unMach 300 (reMach M),i.toNat<(reMach M).bodies.length,(reMach M).bodies.length<=4611686018427387904])
 | _=>none
section
variable {S:Nat->Prop} {w0:World}
theorem ret190 {R:Int} {todo:List Item} {σ:List AV} {h:List (Option ABlk)} {b:Int} (e:b=R) (hσ:σ.getD 4 .any= .i6 b):GF 190 S w0 (.i6 R) (.code .ret::todo) ⟨σ,h⟩:=
 good_ret1 TT0_ok (fn:=Tryz.f190) (by kernel_rfl) 4 (by kernel_rfl) rfl (by rw[hσ];rfl) (by rw[hσ,e];exact rr)
theorem s190_4 (i:Nat) (v:BodyD) (tr lb:Bool):GF 190 S w0 (.i6 (bodyF i v tr lb)) c190T1 ⟨slots 95 [(1,.i6 ((i:Nat):Int)),(5,.cptr (unBody 300 v) 0),(6,.bool tr),(7,.bool lb)],[]⟩:=by
 have hL:True:=trivial;have v0:(v.shape.map (unP 300))=((v.shape.map (unP 300)).map rePt).map (unP 300):=(congrArg (fun l=>l.map (unP 300)) (rePt_un _)).symm;have v1:Ref (.bool (convexB ((v.shape.map (unP 300)).map rePt))) (.bool (convexB v.shape)):=Ref.bool (congrArg convexB (rePt_un _))
 by_cases c1:((i:Nat):Int)=(0:Int)
 · rcases Bool.eq_false_or_eq_true (!tr) with c2 | c2
   · exact rF KT190_ok [(65,tt),(69,tt)] (.a2 (iT c1) (show Ref (.bool (!tr)) (.bool true) from Ref.bool c2)) (V:=.i6 (2:Int)) (Ref.int (by clear hL;unfold bodyF;simp_all))
   · by_cases c3:(0:Int)<((i:Nat):Int)
     · exfalso;omega
     · have v2:Ref (.bool (!tr)) (.bool false):=Ref.bool c2
       by_cases c4:(Int.sign v.ma.num)<=(0:Int)
       · exact rF KT190_ok [(65,tt),(69,ff),(72,ff),(83,tt)] (.a4 (iT c1) v2 (iF c3) (iT c4)) (V:=.i6 (2:Int)) (Ref.int (by clear hL;unfold bodyF;simp_all))
       · by_cases c5:(Int.sign v.inr.num)<=(0:Int)
         · exact rF KT190_ok [(65,tt),(69,ff),(72,ff),(83,ff),(89,tt)] (.a5 (iT c1) v2 (iF c3) (iF c4) (iT c5)) (V:=.i6 (2:Int)) (Ref.int (by clear hL;unfold bodyF;simp_all))
         · rcases Bool.eq_false_or_eq_true (!(convexB v.shape)) with c6 | c6
           · exact rF KT190_ok [(65,tt),(69,ff),(72,ff),(83,ff),(89,ff),(92,.bool (convexB v.shape)),(94,tt)] (.c6 (iT c1) v2 (iF c3) (iF c4) (iF c5) v1 (.a2 v0 (show Ref (.bool (!(convexB v.shape))) (.bool true) from Ref.bool c6))) (V:=.i6 (2:Int)) (Ref.int (by clear hL;unfold bodyF;simp_all))
           · exact rF KT190_ok [(65,tt),(69,ff),(72,ff),(83,ff),(89,ff),(92,.bool (convexB v.shape)),(94,ff)] (.c6 (iT c1) v2 (iF c3) (iF c4) (iF c5) v1 (.a2 v0 (show Ref (.bool (!(convexB v.shape))) (.bool false) from Ref.bool c6))) (V:=.i6 (0:Int)) (Ref.int (by clear hL;unfold bodyF;simp_all))
 · by_cases c2:(0:Int)<((i:Nat):Int)
   · rcases Bool.eq_false_or_eq_true (!lb) with c3 | c3
     · exact rF KT190_ok [(65,ff),(72,tt),(77,tt)] (.a3 (iF c1) (iT c2) (show Ref (.bool (!lb)) (.bool true) from Ref.bool c3)) (V:=.i6 (2:Int)) (Ref.int (by clear hL;unfold bodyF;simp_all))
     · have v3:Ref (.bool (!lb)) (.bool false):=Ref.bool c3
       by_cases c4:(Int.sign v.ma.num)<=(0:Int)
       · exact rF KT190_ok [(65,ff),(72,tt),(77,ff),(83,tt)] (.a4 (iF c1) (iT c2) v3 (iT c4)) (V:=.i6 (2:Int)) (Ref.int (by clear hL;unfold bodyF;simp_all))
       · by_cases c5:(Int.sign v.inr.num)<=(0:Int)
         · exact rF KT190_ok [(65,ff),(72,tt),(77,ff),(83,ff),(89,tt)] (.a5 (iF c1) (iT c2) v3 (iF c4) (iT c5)) (V:=.i6 (2:Int)) (Ref.int (by clear hL;unfold bodyF;simp_all))
         · rcases Bool.eq_false_or_eq_true (!(convexB v.shape)) with c6 | c6
           · exact rF KT190_ok [(65,ff),(72,tt),(77,ff),(83,ff),(89,ff),(92,.bool (convexB v.shape)),(94,tt)] (.c6 (iF c1) (iT c2) v3 (iF c4) (iF c5) v1 (.a2 v0 (show Ref (.bool (!(convexB v.shape))) (.bool true) from Ref.bool c6))) (V:=.i6 (2:Int)) (Ref.int (by clear hL;unfold bodyF;simp_all))
           · exact rF KT190_ok [(65,ff),(72,tt),(77,ff),(83,ff),(89,ff),(92,.bool (convexB v.shape)),(94,ff)] (.c6 (iF c1) (iT c2) v3 (iF c4) (iF c5) v1 (.a2 v0 (show Ref (.bool (!(convexB v.shape))) (.bool false) from Ref.bool c6))) (V:=.i6 (0:Int)) (Ref.int (by clear hL;unfold bodyF;simp_all))
   · exfalso;omega
theorem s190_3 (i:Nat) (v:BodyD) (tr:Bool):GF 190 S w0 (.i6 (bodyF i v tr (limbB v i))) c190T0 ⟨slots 95 [(1,.i6 ((i:Nat):Int)),(5,.cptr (unBody 300 v) 0),(6,.bool tr)],[]⟩:=by
 by_cases c1:(0:Int)<=v.par
 · by_cases c2:v.par<((i:Nat):Int)
   · refine gR KT190_ok (some 8) [1,5,6,7] [] [(49,tt),(55,tt)] (.a3 (iT c1) (iT c2) (dc (300+300+200<=LIM))) (t:=c190T1) (σ:=slots 95 [(1,.i6 (i:Int)),(5,.cptr (unBody 300 v) 0),(6,.bool tr),(7,(.bool (decide ((cmpQ v.low v.high)<=(0:Int)))))]) (h:=[]) ?_
     have e:limbB v i=decide (cmpQ v.low v.high<=(0:Int)):=decide_eq_decide.2 ⟨fun h=>h.2.2,fun h=>⟨c1,c2,h⟩⟩;rw[e];exact s190_4 i v tr _
   · refine gR KT190_ok (some 8) [1,5,6,7] [] [(49,tt),(55,ff)] (.a2 (iT c1) (iF c2)) (t:=c190T1) (σ:=slots 95 [(1,.i6 (i:Int)),(5,.cptr (unBody 300 v) 0),(6,.bool tr),(7,.bool false)]) (h:=[]) ?_
     have e:limbB v i=false:=decide_eq_false (by omega);rw[e];exact s190_4 i v tr false
 · refine gR KT190_ok (some 8) [1,5,6,7] [] [(49,ff)] (.a1 (iF c1)) (t:=c190T1) (σ:=slots 95 [(1,.i6 (i:Int)),(5,.cptr (unBody 300 v) 0),(6,.bool tr),(7,.bool false)]) (h:=[]) ?_
   have e:limbB v i=false:=decide_eq_false (by omega);rw[e];exact s190_4 i v tr false
theorem s190_2 (i:Nat) (v:BodyD):GF 190 S w0 (.i6 (bodyF i v (trunkB v) (limbB v i))) c190T2 ⟨slots 95 [(1,.i6 ((i:Nat):Int)),(5,.cptr (unBody 300 v) 0)],[]⟩:=by
 by_cases c1:v.par=(-1:Int)
 · have v0:300+0+200<=LIM:=by decide
   rcases Bool.eq_false_or_eq_true (decide (v.at_.x=0/\v.at_.z=0)) with c2 | c2
   · have v1:Ref (.bool (decide (v.at_.x=0/\v.at_.z=0))) (.bool true):=Ref.bool c2
     by_cases c3:(Int.sign v.low.num)=(0:Int)
     · refine gR KT190_ok (some 7) [1,5,6] [] [(28,tt),(34,tt),(40,tt)] (.a5 (iT c1) v0 v0 v1 (iT c3)) (t:=c190T0) (σ:=slots 95 [(1,.i6 (i:Int)),(5,.cptr (unBody 300 v) 0),(6,(.bool (decide ((Int.sign v.high.num)=(0:Int)))))]) (h:=[]) ?_
       have e:trunkB v=decide (Int.sign v.high.num=(0:Int)):=decide_eq_decide.2 ⟨fun h=>h.2.2.2,fun h=>⟨c1,of_decide_eq_true c2,c3,h⟩⟩;rw[e];exact s190_3 i v _
     · refine gR KT190_ok (some 7) [1,5,6] [] [(28,tt),(34,tt),(40,ff)] (.a5 (iT c1) v0 v0 v1 (iF c3)) (t:=c190T0) (σ:=slots 95 [(1,.i6 (i:Int)),(5,.cptr (unBody 300 v) 0),(6,.bool false)]) (h:=[]) ?_
       have e:trunkB v=false:=decide_eq_false (fun h=>c3 h.2.2.1);rw[e];exact s190_3 i v false
   · refine gR KT190_ok (some 7) [1,5,6] [] [(28,tt),(34,ff)] (.a4 (iT c1) v0 v0 (show Ref (.bool (decide (v.at_.x=0/\v.at_.z=0))) (.bool false) from Ref.bool c2)) (t:=c190T0) (σ:=slots 95 [(1,.i6 (i:Int)),(5,.cptr (unBody 300 v) 0),(6,.bool false)]) (h:=[]) ?_
     have e:trunkB v=false:=decide_eq_false (fun h=>by have:=decide_eq_true h.2.1;rw[this] at c2;cases c2);rw[e];exact s190_3 i v false
 · refine gR KT190_ok (some 7) [1,5,6] [] [(28,ff)] (.a1 (iF c1)) (t:=c190T0) (σ:=slots 95 [(1,.i6 (i:Int)),(5,.cptr (unBody 300 v) 0),(6,.bool false)]) (h:=[]) ?_
   have e:trunkB v=false:=decide_eq_false (fun h=>c1 h.1);rw[e];exact s190_3 i v false
theorem s190_1 (m:MachD) (i:Nat) (v:BodyD) (hi:i<=m.bodies.length) (hL:m.bodies.length<=4611686018427387904):GF 190 S w0 (.i6 (if twiceB m.bodies i v then 7 else bodyF i v (trunkB v) (limbB v i))) c190T3 ⟨slots 95 [(1,.i6 ((i:Nat):Int)),(2,.ptr 0 6 0 0),(5,.cptr (unBody 300 v) 0)],[some ⟨41,6,false,[unMach 300 m],none⟩]⟩:=by
 have ht:(m.bodies.take i).length=i:=by rw[List.length_take];omega
 have hx:((m.bodies.take i).map (unBody 300)).length=i:=by rw[lmE,ht]
 have v0:Ref (.bool (decide (0<=idxP (fun j=>(((((m.bodies.take i).map (unBody 300)).map reBody).getD j default).name.toList==v.name.toList)) 0 ((m.bodies.take i).map (unBody 300)).length))) (.bool (decide (0<=idxP (fun j=>(((m.bodies.take i).getD j default).name.toList==v.name.toList)) 0 i))):=Ref.bool (by rw[reBody_un,hx]);have v1:Ref (.list 27 (((m.bodies.map (unBody 300)).take i).drop 0)) (.list 27 ((m.bodies.take i).map (unBody 300))):=Ref.eq (by rw[List.drop_zero,List.map_take]);have v2:((m.bodies.take i).map (unBody 300))=(((m.bodies.take i).map (unBody 300)).map reBody).map (unBody 300):=by rw[reBody_un]
 have v3:(i:Int)<=((m.bodies.map (unBody 300)).length:Int):=by rw[lmE];omega
 have v4:((m.bodies.take i).map (unBody 300)).length<=4611686018427387904:=by omega
 rcases Bool.eq_false_or_eq_true (decide (0<=idxP (fun j=>(((m.bodies.take i).getD j default).name.toList==v.name.toList)) 0 i)) with c1 | c1
 · refine gR KT190_ok (some 6) [1,2,4,5] [0] [(22,.list 27 ((m.bodies.take i).map (unBody 300))),(24,.bool (decide (0<=idxP (fun j=>(((m.bodies.take i).getD j default).name.toList==v.name.toList)) 0 i))),(18,tt)] (.c6 v1 (nn i) v3 v0 v2 v4 (.a1 (show Ref (.bool (decide (0<=idxP (fun j=>(((m.bodies.take i).getD j default).name.toList==v.name.toList)) 0 i))) (.bool true) from Ref.bool c1))) (t:=c190T4) (σ:=slots 95 [(1,.i6 (i:Int)),(2,.ptr 0 6 0 0),(4,.i6 (7:Int)),(5,.cptr (unBody 300 v) 0)]) (h:=[some ⟨41,6,false,[(unMach 300 m)],none⟩]) ?_
   rw[if_pos (show twiceB m.bodies i v from of_decide_eq_true c1)];exact ret190 (b:=7) rfl rfl
 · refine gR KT190_ok (some 6) [1,2,4,5] [0] [(22,.list 27 ((m.bodies.take i).map (unBody 300))),(24,.bool (decide (0<=idxP (fun j=>(((m.bodies.take i).getD j default).name.toList==v.name.toList)) 0 i))),(18,ff)] (.c6 v1 (nn i) v3 v0 v2 v4 (.a1 (show Ref (.bool (decide (0<=idxP (fun j=>(((m.bodies.take i).getD j default).name.toList==v.name.toList)) 0 i))) (.bool false) from Ref.bool c1))) (t:=c190T2) (σ:=slots 95 [(1,.i6 (i:Int)),(2,.ptr 0 6 0 0),(5,.cptr (unBody 300 v) 0)]) (h:=[some ⟨41,6,false,[(unMach 300 m)],none⟩]) ?_
   rw[if_neg (show ¬ twiceB m.bodies i v from of_decide_eq_false c1)];exact Good.weak 95 [(1,_),(5,_)] (by kernel_rfl) (.r (.r .nil)) (Good.tidy [] (by decide) (by kernel_rfl) (by kernel_rfl) (s190_2 i v))
end
theorem a190:Ctr 190 k190:=fun args r ob h ho=>by
 unfold k190 at h
 split at h
 · rename_i M i
   cases h;have o0:0<=i:=ho _ (by simp);have o1:M=unMach 300 (reMach M):=ho _ (by simp);have o2:i.toNat<(reMach M).bodies.length:=ho _ (by simp);have o3:(reMach M).bodies.length<=4611686018427387904:=ho _ (by simp);clear ho;generalize reMach M=m at*;subst o1;obtain⟨i,rfl⟩:=Int.eq_ofNat_of_zero_le o0;replace o2:i<m.bodies.length:=o2;show AFun Tryz.prog 190 [.agg (unMach 300 m),.i6 ((i:Nat):Int)] (.i6 (bodyV m.bodies i (m.bodies.getD i default)));obtain⟨v,hv⟩:∃ v,v=m.bodies.getD i default:=⟨_,rfl⟩;have hr:Ref (.cptr ((m.bodies.map (unBody 300)).getD i []) 0) (.cptr (unBody 300 v) 0):=by rw[hv];exact Ref.cmap o2
   rw[<- hv];clear hv;refine af Tryz.f190 fun S w0=> ?_
   have e:st0 [AV.agg (unMach 300 m),.i6 ((i:Nat):Int)] Tryz.f190.ntmps=⟨slots 95 [(0,.agg (unMach 300 m)),(1,.i6 ((i:Nat):Int))],[]⟩:=by kernel_rfl
   rw[e];clear e;unfold bodyV;have v0:(i:Int)<((m.bodies.map (unBody 300)).length:Int):=by rw[lmE];omega
   rcases Bool.eq_false_or_eq_true (!(isNameB v.name)) with c1 | c1
   · refine gR KT190_ok (some 4) [1,2,4,5] [0,1] [(11,.cptr (unBody 300 v) 0),(13,tt)] (.a4 hr (nn i) v0 (show Ref (.bool (!(isNameB v.name))) (.bool true) from Ref.bool c1)) (t:=c190T4) (σ:=slots 95 [(1,.i6 (i:Int)),(2,.ptr 0 6 0 0),(4,.i6 (6:Int)),(5,.ptr 1 27 0 0)]) (h:=[some ⟨41,6,false,[(unMach 300 m)],none⟩,some ⟨114,27,false,[(unBody 300 v)],none⟩]) ?_
     rw[if_pos (show isNameB v.name=false by simpa using c1)];exact ret190 (b:=6) rfl rfl
   · refine gR KT190_ok (some 4) [1,2,4,5] [0,1] [(11,.cptr (unBody 300 v) 0),(13,ff)] (.a4 hr (nn i) v0 (show Ref (.bool (!(isNameB v.name))) (.bool false) from Ref.bool c1)) (t:=c190T3) (σ:=slots 95 [(1,.i6 (i:Int)),(2,.ptr 0 6 0 0),(4,.i6 (0:Int)),(5,.ptr 1 27 0 0)]) (h:=[some ⟨41,6,false,[(unMach 300 m)],none⟩,some ⟨114,27,false,[(unBody 300 v)],none⟩]) ?_
     rw[if_neg (show ¬ isNameB v.name=false by simpa using c1)];refine Good.freezeD (b:=⟨114,27,false,[unBody 300 v],none⟩) 1 (by rfl) (by rfl) (.oe (.a1 (dc (0<1)))) .on ?_;refine Good.tidy [0] (by decide) (σ':=slots 95 [(1,.i6 ((i:Nat):Int)),(2,.ptr 0 6 0 0),(4,.i6 (0:Int)),(5,.cptr (unBody 300 v) 0)]) (h':=[some ⟨41,6,false,[unMach 300 m],none⟩]) (by kernel_rfl) (by kernel_rfl) ?_;exact Good.weak 95 [(1,_),(2,_),(5,_)] (by kernel_rfl) (.r (.r (.r .nil))) (s190_1 m i v (Nat.le_of_lt o2) o3)
 · cases h
def KT189_ok:=kn.cons a190
def firstE (f:Nat->Int):Nat->Nat->Int
 | _,0=>0
 | i,k+1=>if f i=0 then firstE f (i+1) k else f i
def eachE (n:Nat) (most:Int) (f:Nat->Int):Int:=if most<((n:Nat):Int) then 5 else firstE f 0 n
def k189:KF
 | [.list 27 X,.int .i64 t,.fnm 190 true M]=>some (.int .i64 (eachE (reMach M).bodies.length t (fun i=>bodyE (reMach M).bodies i)),[M=unMach 300 (reMach M),X=(reMach M).bodies.map (unBody 300),(reMach M).bodies.length<=4611686018427387904])
 | _=>none
section
variable {S:Nat->Prop} {w0:World}
noncomputable abbrev T189:List Item:=[.code (nav [1,1,0,1,0,0] (bodyOf Tryz.f189)),.inLoop (nav [1,1,0,1,0,0] (bodyOf Tryz.f189)),.inBlock 0,.code (nav [1,1,1] (bodyOf Tryz.f189))]
theorem loop189 {m:MachD} {R:Int} (hR:firstE (fun i=>bodyE m.bodies i) 0 m.bodies.length=R) (hL:m.bodies.length<=4611686018427387904):
   GF 189 S w0 (.i6 R) T189 ⟨slots 25 [(0,.list 27 (m.bodies.map (unBody 300))),(2,.fnm 190 true (unMach 300 m)),(14,.i6 ((m.bodies.length:Nat):Int)),(15,.i6 ((0:Nat):Int))],[]⟩:=by
 refine down (G:=fun i=>firstE (fun i=>bodyE m.bodies i) i (m.bodies.length-i)=R->GF 189 S w0 (.i6 R) T189 ⟨slots 25 [(0,.list 27 (m.bodies.map (unBody 300))),(2,.fnm 190 true (unMach 300 m)),(14,.i6 ((m.bodies.length:Nat):Int)),(15,.i6 ((i:Nat):Int))],[]⟩) m.bodies.length ?_ ?_ hR
 · intro he
   rw[Nat.sub_self] at he;exact rF KT189_ok [(16,ff)] (.a1 (iF (om (¬ ((m.bodies.length:Int)<(m.bodies.length:Int)))))) (V:=.i6 (0:Int)) (Ref.int he)
 · intro i hlt ih he
   have hx:(m.bodies.map (unBody 300)).length=m.bodies.length:=lmE ..;rw[show m.bodies.length-i=(m.bodies.length-(i+1))+1 by omega,firstE] at he;have v0:Ref (.i6 (bodyE (reMach (unMach 300 m)).bodies i)) (.i6 (bodyE m.bodies i)):=Ref.int (congrArg (fun x:MachD=>bodyE x.bodies i) (reMach_un m));have v1:(reMach (unMach 300 m)).bodies.length<=4611686018427387904:=(congrArg (fun x:MachD=>x.bodies.length<=4611686018427387904) (reMach_un m)).mpr hL;have v2:i<(reMach (unMach 300 m)).bodies.length:=(congrArg (fun x:MachD=>i<x.bodies.length) (reMach_un m)).mpr hlt;have v3:(unMach 300 m)=unMach 300 (reMach (unMach 300 m)):=(congrArg (unMach 300) (reMach_un m)).symm;have v4:(i:Int)<(m.bodies.length:Int):=by omega
   by_cases c:bodyE m.bodies i=0
   · rw[if_pos c] at he
     exact gR KT189_ok none [0,2,6,14,15] [] [(16,tt),(20,.i6 (bodyE m.bodies i)),(22,ff),(24,.i6 ((i+1:Nat):Int))] (.c6 (iT v4) v0 (nn i) v3 v2 v1 (.a2 (jF c) (wI ((i:Int)+(1:Int)) ((i+1:Nat):Int)))) (ih he)
   · rw[if_neg c] at he
     exact rF KT189_ok [(16,tt),(20,.i6 (bodyE m.bodies i)),(22,tt)] (.c6 (iT v4) v0 (nn i) v3 v2 v1 (.a1 (jT c))) (V:=.i6 (bodyE m.bodies i)) (Ref.int he)
end
theorem a189:Ctr 189 k189:=by
 refine ctr Tryz.f189 fun _ _ _ S w0 h ho=> ?_
 unfold k189 at h;split at h <;> cases h;rename_i X t M;obtain⟨o1,o2,o3⟩:=ho.e3;clear ho;generalize reMach M=m at*;subst o1;subst o2;have hx:(m.bodies.map (unBody 300)).length=m.bodies.length:=lmE ..
 by_cases c:t<((m.bodies.length:Nat):Int)
 · exact rF KT189_ok [(12,tt)] (.a1 (iT (show t<((m.bodies.map (unBody 300)).length:Int) by rw[hx];exact c))) (V:=.i6 (5:Int)) (Ref.int (by unfold eachE;rw[if_pos c]))
 · refine gN KT189_ok [0,1,2,6,13,14,15] [(12,ff)] (.a1 (iF (show ¬ (t<((m.bodies.map (unBody 300)).length:Int)) by rw[hx];exact c))) (t:=T189) (σ:=slots 25 [(0,.list 27 (m.bodies.map (unBody 300))),(1,.i6 t),(2,.fnm 190 true (unMach 300 m)),(6,.i6 (0:Int)),(13,.list 27 (m.bodies.map (unBody 300))),(14,(.i6 ((m.bodies.map (unBody 300)).length:Int))),(15,.i6 (0:Int))]) (h:=[]) ?_
   rw[hx];exact Good.weak 25 [(0,_),(2,_),(14,_),(15,_)] (by kernel_rfl) (.r (.r (.r (.r .nil)))) (loop189 (by unfold eachE;rw[if_neg c]) o3)
theorem Ref.cmapX {α:Type} [Inhabited α] {f:α->List AV} {g:List AV->α} {X:List (List AV)} {i:Nat} (h:X=(X.map g).map f) (hi:i<X.length):Ref (.cptr (X.getD i []) 0) (.cptr (f ((X.map g).getD i default)) 0):=by
 have:=Ref.cmap (f:=f) (xs:=X.map g) (i:=i) (by rw[lmE];exact hi)
 rwa [<- h] at this
def k256:KF
 | [.agg [.str mn,.list 27 XB,.list 17 XS,.list 17 XT,.list 13 XD,.list 5 XF],.int .i64 i]=>some (.bool (decide (0<=i/\i<((XB.length:Nat):Int))),[])
 | _=>none
theorem a256:Ctr 256 k256:=by
 refine ctr Tryz.f256 fun _ _ _ S w0 h ho=> ?_
 unfold k256 at h;split at h <;> cases h;rename_i mn XB XS XT XD XF i
 by_cases h1:(0:Int)<=i
 · exact rF .nil [(7,tt)] (.a1 (iT h1)) (V:=.bool (decide (i<(XB.length:Int)))) (Ref.bool (by simp[h1]))
 · exact rF .nil [(7,ff)] (.a1 (iF h1)) (V:=.bool false) (Ref.bool (by simp[h1]))
def pairB (n:Nat) (a b:Int):Bool:=decide (0<=a/\a<((n:Nat):Int))&&(decide (0<=b/\b<((n:Nat):Int))&& !decide (a=b))
def k255:KF
 | [.agg [.str mn,.list 27 XB,.list 17 XS,.list 17 XT,.list 13 XD,.list 5 XF],.int .i64 a,.int .i64 b]=>some (.bool (pairB XB.length a b),[])
 | _=>none
theorem a255:Ctr 255 k255:=by
 refine ctr Tryz.f255 fun _ _ _ S w0 h ho=> ?_
 unfold k255 at h;split at h <;> cases h;rename_i mn XB XS XT XD XF a b;have K:=kn.cons a256;rcases Bool.eq_false_or_eq_true (decide (0<=a/\a<((XB.length:Nat):Int))) with h1 | h1
 · have v0:Ref (.bool (decide (0<=a/\a<(XB.length:Int)))) (.bool true):=Ref.bool h1
   rcases Bool.eq_false_or_eq_true (decide (0<=b/\b<((XB.length:Nat):Int))) with h2 | h2
   · refine rF K [(10,tt),(15,tt)] (.a2 v0 (show Ref (.bool (decide (0<=b/\b<(XB.length:Int)))) (.bool true) from Ref.bool h2)) (V:=.bool (!decide (a=b))) ?_
     unfold pairB;simp only[*,Bool.true_and,Bool.false_and];exact rr
   · refine rF K [(10,tt),(15,ff)] (.a2 v0 (show Ref (.bool (decide (0<=b/\b<(XB.length:Int)))) (.bool false) from Ref.bool h2)) (V:=.bool false) ?_
     unfold pairB;simp only[*,Bool.true_and,Bool.false_and];exact rr
 · refine rF K [(10,ff)] (.a1 (show Ref (.bool (decide (0<=a/\a<(XB.length:Int)))) (.bool false) from Ref.bool h1)) (V:=.bool false) ?_
   unfold pairB;simp only[*,Bool.true_and,Bool.false_and];exact rr
def springE (n:Nat) (v:CordyD):Int:=if pairB n v.a v.b=false then 2 else if Int.sign v.k.num<0 then 2 else 0
def k192:KF
 | [.agg [.str mn,.list 27 XB,.list 17 XS,.list 17 XT,.list 13 XD,.list 5 XF],.int .i64 i]=>some (.int .i64 (springE XB.length ((XS.map reCordy).getD i.toNat default)),[0<=i,XS=(XS.map reCordy).map (unCordy 300),i.toNat<XS.length])
 | _=>none
theorem a192:Ctr 192 k192:=by
 refine ctr Tryz.f192 fun _ _ _ S w0 h ho=> ?_
 unfold k192 at h;split at h <;> cases h;rename_i mn XB XS XT XD XF i;obtain⟨o1000,o1,o2⟩:=ho.e3;have K:=(kn.cons a255).cons a60;obtain⟨i,rfl⟩:=Int.eq_ofNat_of_zero_le o1000;clear o1000;replace o1:XS=(XS.map reCordy).map (unCordy 300):=o1;replace o2:i<XS.length:=o2;obtain⟨v,hv⟩:∃ v,v=(XS.map reCordy).getD i default:=⟨_,rfl⟩;have hr:Ref (.cptr (XS.getD i []) 0) (.cptr (unCordy 300 v) 0):=by rw[hv];exact Ref.cmapX o1 o2
 have v0:Ref (.cptr (XS.getD i []) 0) (.cptr (unCordy 300 v) 0):=by exact hr
 have v1:(i:Int)<(XS.length:Int):=by omega
 rcases Bool.eq_false_or_eq_true (!(pairB XB.length v.a v.b)) with h1 | h1
 · refine rF K [(9,.cptr (unCordy 300 v) 0),(18,tt)] (.a4 v0 (nn i) v1 (show Ref (.bool (!(pairB XB.length v.a v.b))) (.bool true) from Ref.bool h1)) (V:=.i6 (2:Int)) (r:=.i6 (springE XB.length ((XS.map reCordy).getD i default))) ?_
   rw[<- hv];clear hv hr o1 ho;exact Ref.int (by unfold springE;simp_all)
 · have v2:Ref (.bool (!(pairB XB.length v.a v.b))) (.bool false):=Ref.bool h1
   by_cases h2:(Int.sign v.k.num)<(0:Int)
   · refine rF K [(9,.cptr (unCordy 300 v) 0),(18,ff),(23,tt)] (.a5 v0 (nn i) v1 v2 (iT h2)) (V:=.i6 (2:Int)) (r:=.i6 (springE XB.length ((XS.map reCordy).getD i default))) ?_
     rw[<- hv];clear hv hr o1 ho;exact Ref.int (by unfold springE;simp_all)
   · refine rF K [(9,.cptr (unCordy 300 v) 0),(18,ff),(23,ff)] (.a5 v0 (nn i) v1 v2 (iF h2)) (V:=.i6 (0:Int)) (r:=.i6 (springE XB.length ((XS.map reCordy).getD i default))) ?_
     rw[<- hv];clear hv hr o1 ho;exact Ref.int (by unfold springE;simp_all)
def KT191_ok:=kn.cons a192
def k191:KF
 | [.list 17 X,.int .i64 t,.fnm 192 true M]=>some (.int .i64 (eachE (reMach M).springs.length t (fun i=>springE (reMach M).bodies.length ((reMach M).springs.getD i default))),[M=unMach 300 (reMach M),X=(reMach M).springs.map (unCordy 300),(reMach M).springs.length<=4611686018427387904])
 | _=>none
section
variable {S:Nat->Prop} {w0:World}
noncomputable abbrev T191:List Item:=[.code (nav [1,1,0,1,0,0] (bodyOf Tryz.f191)),.inLoop (nav [1,1,0,1,0,0] (bodyOf Tryz.f191)),.inBlock 0,.code (nav [1,1,1] (bodyOf Tryz.f191))]
theorem loop191 {m:MachD} {R:Int} (hR:firstE (fun i=>springE m.bodies.length (m.springs.getD i default)) 0 m.springs.length=R) (hL:m.springs.length<=4611686018427387904):
   GF 191 S w0 (.i6 R) T191 ⟨slots 25 [(0,.list 17 (m.springs.map (unCordy 300))),(2,.fnm 192 true (unMach 300 m)),(14,.i6 ((m.springs.length:Nat):Int)),(15,.i6 ((0:Nat):Int))],[]⟩:=by
 refine down (G:=fun i=>firstE (fun i=>springE m.bodies.length (m.springs.getD i default)) i (m.springs.length-i)=R->GF 191 S w0 (.i6 R) T191 ⟨slots 25 [(0,.list 17 (m.springs.map (unCordy 300))),(2,.fnm 192 true (unMach 300 m)),(14,.i6 ((m.springs.length:Nat):Int)),(15,.i6 ((i:Nat):Int))],[]⟩) m.springs.length ?_ ?_ hR
 · intro he
   rw[Nat.sub_self] at he;exact rF KT191_ok [(16,ff)] (.a1 (iF (om (¬ ((m.springs.length:Int)<(m.springs.length:Int)))))) (V:=.i6 (0:Int)) (Ref.int he)
 · intro i hlt ih he
   have hx:(m.springs.map (unCordy 300)).length=m.springs.length:=lmE ..;rw[show m.springs.length-i=(m.springs.length-(i+1))+1 by omega,firstE] at he;have v0:Ref (.i6 (springE (m.bodies.map (unBody 300)).length (((m.springs.map (unCordy 300)).map reCordy).getD i default))) (.i6 (springE m.bodies.length (m.springs.getD i default))):=Ref.int (by rw[reCordy_un,lmE]);have v1:(m.springs.map (unCordy 300))=((m.springs.map (unCordy 300)).map reCordy).map (unCordy 300):=by rw[reCordy_un]
   have v2:i<(m.springs.map (unCordy 300)).length:=by rw[lmE];exact hlt
   have v3:(i:Int)<(m.springs.length:Int):=by omega
   by_cases c:springE m.bodies.length (m.springs.getD i default)=0
   · rw[if_pos c] at he
     exact gR KT191_ok none [0,2,6,14,15] [] [(16,tt),(20,.i6 (springE m.bodies.length (m.springs.getD i default))),(22,ff),(24,.i6 ((i+1:Nat):Int))] (.c6 (iT v3) v0 (nn i) v1 v2 (jF c) (.a1 (wI ((i:Int)+(1:Int)) ((i+1:Nat):Int)))) (ih he)
   · rw[if_neg c] at he
     exact rF KT191_ok [(16,tt),(20,.i6 (springE m.bodies.length (m.springs.getD i default))),(22,tt)] (.a6 (iT v3) v0 (nn i) v1 v2 (jT c)) (V:=.i6 (springE m.bodies.length (m.springs.getD i default))) (Ref.int he)
end
theorem a191:Ctr 191 k191:=by
 refine ctr Tryz.f191 fun _ _ _ S w0 h ho=> ?_
 unfold k191 at h;split at h <;> cases h;rename_i X t M;obtain⟨o1,o2,o3⟩:=ho.e3;clear ho;generalize reMach M=m at*;subst o1;subst o2;have hx:(m.springs.map (unCordy 300)).length=m.springs.length:=lmE ..
 by_cases c:t<((m.springs.length:Nat):Int)
 · exact rF KT191_ok [(12,tt)] (.a1 (iT (show t<((m.springs.map (unCordy 300)).length:Int) by rw[hx];exact c))) (V:=.i6 (5:Int)) (Ref.int (by unfold eachE;rw[if_pos c]))
 · refine gN KT191_ok [0,1,2,6,13,14,15] [(12,ff)] (.a1 (iF (show ¬ (t<((m.springs.map (unCordy 300)).length:Int)) by rw[hx];exact c))) (t:=T191) (σ:=slots 25 [(0,.list 17 (m.springs.map (unCordy 300))),(1,.i6 t),(2,.fnm 192 true (unMach 300 m)),(6,.i6 (0:Int)),(13,.list 17 (m.springs.map (unCordy 300))),(14,(.i6 ((m.springs.map (unCordy 300)).length:Int))),(15,.i6 (0:Int))]) (h:=[]) ?_
   rw[hx];exact Good.weak 25 [(0,_),(2,_),(14,_),(15,_)] (by kernel_rfl) (.r (.r (.r (.r .nil)))) (loop191 (by unfold eachE;rw[if_neg c]) o3)
def tendonE (n:Nat) (v:CordyD):Int:=if pairB n v.a v.b=false then 2 else if Int.sign v.k.num<=0 then 2 else 0
def k194:KF
 | [.agg [.str mn,.list 27 XB,.list 17 XS,.list 17 XT,.list 13 XD,.list 5 XF],.int .i64 i]=>some (.int .i64 (tendonE XB.length ((XT.map reCordy).getD i.toNat default)),[0<=i,XT=(XT.map reCordy).map (unCordy 300),i.toNat<XT.length])
 | _=>none
theorem a194:Ctr 194 k194:=by
 refine ctr Tryz.f194 fun _ _ _ S w0 h ho=> ?_
 unfold k194 at h;split at h <;> cases h;rename_i mn XB XS XT XD XF i;obtain⟨o1000,o1,o2⟩:=ho.e3;have K:=(kn.cons a255).cons a60;obtain⟨i,rfl⟩:=Int.eq_ofNat_of_zero_le o1000;clear o1000;replace o1:XT=(XT.map reCordy).map (unCordy 300):=o1;replace o2:i<XT.length:=o2;obtain⟨v,hv⟩:∃ v,v=(XT.map reCordy).getD i default:=⟨_,rfl⟩;have hr:Ref (.cptr (XT.getD i []) 0) (.cptr (unCordy 300 v) 0):=by rw[hv];exact Ref.cmapX o1 o2
 have v0:Ref (.cptr (XT.getD i []) 0) (.cptr (unCordy 300 v) 0):=by exact hr
 have v1:(i:Int)<(XT.length:Int):=by omega
 rcases Bool.eq_false_or_eq_true (!(pairB XB.length v.a v.b)) with h1 | h1
 · refine rF K [(9,.cptr (unCordy 300 v) 0),(18,tt)] (.a4 v0 (nn i) v1 (show Ref (.bool (!(pairB XB.length v.a v.b))) (.bool true) from Ref.bool h1)) (V:=.i6 (2:Int)) (r:=.i6 (tendonE XB.length ((XT.map reCordy).getD i default))) ?_
   rw[<- hv];clear hv hr o1 ho;exact Ref.int (by unfold tendonE;simp_all)
 · have v2:Ref (.bool (!(pairB XB.length v.a v.b))) (.bool false):=Ref.bool h1
   by_cases h2:(Int.sign v.k.num)<=(0:Int)
   · refine rF K [(9,.cptr (unCordy 300 v) 0),(18,ff),(23,tt)] (.a5 v0 (nn i) v1 v2 (iT h2)) (V:=.i6 (2:Int)) (r:=.i6 (tendonE XB.length ((XT.map reCordy).getD i default))) ?_
     rw[<- hv];clear hv hr o1 ho;exact Ref.int (by unfold tendonE;simp_all)
   · refine rF K [(9,.cptr (unCordy 300 v) 0),(18,ff),(23,ff)] (.a5 v0 (nn i) v1 v2 (iF h2)) (V:=.i6 (0:Int)) (r:=.i6 (tendonE XB.length ((XT.map reCordy).getD i default))) ?_
     rw[<- hv];clear hv hr o1 ho;exact Ref.int (by unfold tendonE;simp_all)
def KT193_ok:=kn.cons a194
def k193:KF
 | [.list 17 X,.int .i64 t,.fnm 194 true M]=>some (.int .i64 (eachE (reMach M).tendons.length t (fun i=>tendonE (reMach M).bodies.length ((reMach M).tendons.getD i default))),[M=unMach 300 (reMach M),X=(reMach M).tendons.map (unCordy 300),(reMach M).tendons.length<=4611686018427387904])
 | _=>none
section
variable {S:Nat->Prop} {w0:World}
noncomputable abbrev T193:List Item:=[.code (nav [1,1,0,1,0,0] (bodyOf Tryz.f193)),.inLoop (nav [1,1,0,1,0,0] (bodyOf Tryz.f193)),.inBlock 0,.code (nav [1,1,1] (bodyOf Tryz.f193))]
theorem loop193 {m:MachD} {R:Int} (hR:firstE (fun i=>tendonE m.bodies.length (m.tendons.getD i default)) 0 m.tendons.length=R) (hL:m.tendons.length<=4611686018427387904):
   GF 193 S w0 (.i6 R) T193 ⟨slots 25 [(0,.list 17 (m.tendons.map (unCordy 300))),(2,.fnm 194 true (unMach 300 m)),(14,.i6 ((m.tendons.length:Nat):Int)),(15,.i6 ((0:Nat):Int))],[]⟩:=by
 refine down (G:=fun i=>firstE (fun i=>tendonE m.bodies.length (m.tendons.getD i default)) i (m.tendons.length-i)=R->GF 193 S w0 (.i6 R) T193 ⟨slots 25 [(0,.list 17 (m.tendons.map (unCordy 300))),(2,.fnm 194 true (unMach 300 m)),(14,.i6 ((m.tendons.length:Nat):Int)),(15,.i6 ((i:Nat):Int))],[]⟩) m.tendons.length ?_ ?_ hR
 · intro he
   rw[Nat.sub_self] at he;exact rF KT193_ok [(16,ff)] (.a1 (iF (om (¬ ((m.tendons.length:Int)<(m.tendons.length:Int)))))) (V:=.i6 (0:Int)) (Ref.int he)
 · intro i hlt ih he
   have hx:(m.tendons.map (unCordy 300)).length=m.tendons.length:=lmE ..;rw[show m.tendons.length-i=(m.tendons.length-(i+1))+1 by omega,firstE] at he;have v0:Ref (.i6 (tendonE (m.bodies.map (unBody 300)).length (((m.tendons.map (unCordy 300)).map reCordy).getD i default))) (.i6 (tendonE m.bodies.length (m.tendons.getD i default))):=Ref.int (by rw[reCordy_un,lmE]);have v1:(m.tendons.map (unCordy 300))=((m.tendons.map (unCordy 300)).map reCordy).map (unCordy 300):=by rw[reCordy_un]
   have v2:i<(m.tendons.map (unCordy 300)).length:=by rw[lmE];exact hlt
   have v3:(i:Int)<(m.tendons.length:Int):=by omega
   by_cases c:tendonE m.bodies.length (m.tendons.getD i default)=0
   · rw[if_pos c] at he
     exact gR KT193_ok none [0,2,6,14,15] [] [(16,tt),(20,.i6 (tendonE m.bodies.length (m.tendons.getD i default))),(22,ff),(24,.i6 ((i+1:Nat):Int))] (.c6 (iT v3) v0 (nn i) v1 v2 (jF c) (.a1 (wI ((i:Int)+(1:Int)) ((i+1:Nat):Int)))) (ih he)
   · rw[if_neg c] at he
     exact rF KT193_ok [(16,tt),(20,.i6 (tendonE m.bodies.length (m.tendons.getD i default))),(22,tt)] (.a6 (iT v3) v0 (nn i) v1 v2 (jT c)) (V:=.i6 (tendonE m.bodies.length (m.tendons.getD i default))) (Ref.int he)
end
theorem a193:Ctr 193 k193:=by
 refine ctr Tryz.f193 fun _ _ _ S w0 h ho=> ?_
 unfold k193 at h;split at h <;> cases h;rename_i X t M;obtain⟨o1,o2,o3⟩:=ho.e3;clear ho;generalize reMach M=m at*;subst o1;subst o2;have hx:(m.tendons.map (unCordy 300)).length=m.tendons.length:=lmE ..
 by_cases c:t<((m.tendons.length:Nat):Int)
 · exact rF KT193_ok [(12,tt)] (.a1 (iT (show t<((m.tendons.map (unCordy 300)).length:Int) by rw[hx];exact c))) (V:=.i6 (5:Int)) (Ref.int (by unfold eachE;rw[if_pos c]))
 · refine gN KT193_ok [0,1,2,6,13,14,15] [(12,ff)] (.a1 (iF (show ¬ (t<((m.tendons.map (unCordy 300)).length:Int)) by rw[hx];exact c))) (t:=T193) (σ:=slots 25 [(0,.list 17 (m.tendons.map (unCordy 300))),(1,.i6 t),(2,.fnm 194 true (unMach 300 m)),(6,.i6 (0:Int)),(13,.list 17 (m.tendons.map (unCordy 300))),(14,(.i6 ((m.tendons.map (unCordy 300)).length:Int))),(15,.i6 (0:Int))]) (h:=[]) ?_
   rw[hx];exact Good.weak 25 [(0,_),(2,_),(14,_),(15,_)] (by kernel_rfl) (.r (.r (.r (.r .nil)))) (loop193 (by unfold eachE;rw[if_neg c]) o3)
def k258:KF
 | [.agg [.int .i64 p,.q to 300,.q he 300,.q co 300,.q mo 300],.cptr [.int .i64 p',.q to' 300,.q he' 300,.q co' 300,.q mo' 300] 0]=>some (.bool (decide (p=p')),[])
 | _=>none
theorem a258:Ctr 258 k258:=by
 refine ctr Tryz.f258 fun _ _ _ S w0 h ho=> ?_
 unfold k258 at h;split at h <;> cases h;rename_i p to he co mo p' to' he' co' mo';exact rR .nil [] .nil
def KT295_ok:=kn.cons a258
def k295:KF
 | [.list 13 X,.fn 258 [.cptr [.int .i64 p0,.q to0 300,.q he0 300,.q co0 300,.q mo0 300] 0]]=>some (.int .i64 (idxP (fun j=>(decide (((X.map reMotor).getD j default).body=p0))) 0 X.length),[X=(X.map reMotor).map (unMotor 300),X.length<=4611686018427387904])
 | _=>none
section
variable {S:Nat->Prop} {w0:World}
noncomputable abbrev T295:List Item:=[.code (nav [1,0,1,0,0] (bodyOf Tryz.f295)),.inLoop (nav [1,0,1,0,0] (bodyOf Tryz.f295)),.inBlock 0,.code (nav [1,1] (bodyOf Tryz.f295))]
theorem loop295 {es:List MotorD} (p0:Int) (to0 he0 co0 mo0:Rat) (hL:es.length<=4611686018427387904):
   GF 295 S w0 (.i6 (idxP (fun j=>(decide ((es.getD j default).body=p0))) 0 es.length)) T295 ⟨slots 19 [(0,.list 13 (es.map (unMotor 300))),(1,.fn 258 [.cptr [.i6 p0,.q to0 300,.q he0 300,.q co0 300,.q mo0 300] 0]),(6,.list 13 (es.map (unMotor 300))),(7,.i6 ((es.length:Nat):Int)),(8,.i6 ((0:Nat):Int))],[]⟩:=by
 have ret:∀ {todo:List Item} {σ:List AV} {h:List (Option ABlk)} {b:Int},b=idxP (fun j=>(decide ((es.getD j default).body=p0))) 0 es.length->σ.getD 4 .any= .i6 b->GF 295 S w0 (.i6 (idxP (fun j=>(decide ((es.getD j default).body=p0))) 0 es.length)) (.code .ret::todo) ⟨σ,h⟩:=fun e hσ=>
   good_ret1 TT0_ok (fn:=Tryz.f295) (by kernel_rfl) 4 (by kernel_rfl) rfl (by rw[hσ];rfl) (by rw[hσ,e];exact rr)
 refine down (G:=fun i=>idxP (fun j=>(decide ((es.getD j default).body=p0))) i (es.length-i)=idxP (fun j=>(decide ((es.getD j default).body=p0))) 0 es.length->GF 295 S w0 (.i6 (idxP (fun j=>(decide ((es.getD j default).body=p0))) 0 es.length)) T295 ⟨slots 19 [(0,.list 13 (es.map (unMotor 300))),(1,.fn 258 [.cptr [.i6 p0,.q to0 300,.q he0 300,.q co0 300,.q mo0 300] 0]),(6,.list 13 (es.map (unMotor 300))),(7,.i6 ((es.length:Nat):Int)),(8,.i6 ((i:Nat):Int))],[]⟩) es.length ?_ ?_ rfl
 · intro he
   rw[Nat.sub_self] at he;exact rF KT295_ok [(9,ff)] (.a1 (iF (om (¬ ((es.length:Int)<(es.length:Int)))))) (V:=.i6 (-1:Int)) (Ref.int he)
 · intro i hlt ih he
   rw[show es.length-i=(es.length-(i+1))+1 by omega,idxP] at he;have v0:Ref (.cptr ((es.map (unMotor 300)).getD i []) 0) (.cptr (unMotor 300 (es.getD i default)) 0):=Ref.cmap hlt;have v1:(i:Int)<((es.map (unMotor 300)).length:Int):=by rw[lmE];omega
   have v2:(i:Int)<(es.length:Int):=by omega
   by_cases c:(decide ((es.getD i default).body=p0))=true
   · rw[if_pos c] at he
     exact rF KT295_ok [(9,tt),(14,.cptr (unMotor 300 (es.getD i default)) 0),(16,tt)] (.a5 (iT v2) v0 (nn i) v1 (show Ref (.bool (decide ((es.getD i default).body=p0))) (.bool true) from Ref.bool c)) (V:=.i6 (i:Int)) (Ref.int he)
   · rw[if_neg c] at he
     exact gR KT295_ok none [0,1,4,6,7,8] [] [(9,tt),(14,.cptr (unMotor 300 (es.getD i default)) 0),(16,ff),(18,.i6 ((i+1:Nat):Int))] (.a6 (iT v2) v0 (nn i) v1 (show Ref (.bool (decide ((es.getD i default).body=p0))) (.bool false) from Ref.bool (show(decide ((es.getD i default).body=p0))=false by simpa using c)) (wI ((i:Int)+(1:Int)) ((i+1:Nat):Int))) (ih he)
end
theorem a295:Ctr 295 k295:=by
 refine ctr Tryz.f295 fun _ _ _ S w0 h ho=> ?_
 unfold k295 at h;split at h <;> cases h;rename_i X p0 to0 he0 co0 mo0;obtain⟨o1,-⟩:=ho.e2;have o2:(X.map reMotor).length<=4611686018427387904:=by rw[lmE];exact ho _ (by simp)
 clear ho;rw[show X.length=(X.map reMotor).length by rw[lmE]];generalize (X.map reMotor)=es at*;subst o1;refine gN KT295_ok [0,1,6,7,8] [] .nil (t:=T295) (σ:=slots 19 [(0,.list 13 (es.map (unMotor 300))),(1,.fn 258 [.cptr [.i6 p0,.q to0 300,.q he0 300,.q co0 300,.q mo0 300] 0]),(6,.list 13 (es.map (unMotor 300))),(7,(.i6 ((es.map (unMotor 300)).length:Int))),(8,.i6 (0:Int))]) (h:=[]) ?_
 rw[lmE];exact loop295 p0 to0 he0 co0 mo0 o2
def k257:KF
 | [.list 13 X,.fn 258 [.cptr [.int .i64 p0,.q to0 300,.q he0 300,.q co0 300,.q mo0 300] 0]]=>some (.bool (decide (0<=idxP (fun j=>(decide (((X.map reMotor).getD j default).body=p0))) 0 X.length)),[X=(X.map reMotor).map (unMotor 300),X.length<=4611686018427387904])
 | _=>none
theorem a257:Ctr 257 k257:=by
 refine ctr Tryz.f257 fun _ _ _ S w0 h ho=> ?_
 unfold k257 at h;split at h <;> cases h;rename_i X p0 to0 he0 co0 mo0;obtain⟨o1,o2⟩:=ho.e2;have K:=kn.cons a295;exact rR K [] (.a2 o1 o2)
def KT196_ok:=((kn.cons a257).cons a256).cons a60
noncomputable abbrev c196T0:List Item:=[.code .ret,.inBlock 0,.code (nav [1,1,1] (bodyOf Tryz.f196))]
noncomputable abbrev c196T1:List Item:=[.code (nav [1,1,0,0,1,1,0] (bodyOf Tryz.f196)),.code (nav [1,1,0,0,1,1,1] (bodyOf Tryz.f196)),.inBlock 0,.code (nav [1,1,1] (bodyOf Tryz.f196))]
def twiceM (bs:List MotorD) (i:Nat) (v:MotorD):Prop:=0<=idxP (fun j=>(decide (((bs.take i).getD j default).body=v.body))) 0 i
instance (bs:List MotorD) (i:Nat) (v:MotorD):Decidable (twiceM bs i v):=by unfold twiceM;infer_instance
def motorV (n:Nat) (bs:List MotorD) (i:Nat) (v:MotorD):Int:=
 if decide (0<=v.body/\v.body<((n:Nat):Int))=false\/v.body=0\/Int.sign v.t.num<0\/Int.sign v.h.num<0\/Int.sign v.c.num<0\/Int.sign v.m.num<=0 then 2 else if twiceM bs i v then 7 else 0
def motorE (n:Nat) (bs:List MotorD) (i:Nat):Int:=motorV n bs i (bs.getD i default)
def k196:KF
 | [.agg M,.int .i64 i]=>some (.int .i64 (motorE (reMach M).bodies.length (reMach M).motors i.toNat),[0<=i,M=unMach 300 (reMach M),i.toNat<(reMach M).motors.length,(reMach M).motors.length<=4611686018427387904])
 | _=>none
section
variable {S:Nat->Prop} {w0:World}
theorem ret196 {R:Int} {todo:List Item} {σ:List AV} {h:List (Option ABlk)} {b:Int} (e:b=R) (hσ:σ.getD 4 .any= .i6 b):GF 196 S w0 (.i6 R) (.code .ret::todo) ⟨σ,h⟩:=
 good_ret1 TT0_ok (fn:=Tryz.f196) (by kernel_rfl) 4 (by kernel_rfl) rfl (by rw[hσ];rfl) (by rw[hσ,e];exact rr)
theorem s196_1 (m:MachD) (i:Nat) (v:MotorD) (hi:i<=m.motors.length) (hL:m.motors.length<=4611686018427387904):GF 196 S w0 (.i6 (if twiceM m.motors i v then 7 else 0)) c196T1 ⟨slots 53 [(1,.i6 ((i:Nat):Int)),(2,.ptr 0 6 0 0),(5,.cptr (unMotor 300 v) 0)],[some ⟨41,6,false,[unMach 300 m],none⟩]⟩:=by
 have ht:(m.motors.take i).length=i:=by rw[List.length_take];omega
 have hx:((m.motors.take i).map (unMotor 300)).length=i:=by rw[lmE,ht]
 have v0:Ref (.bool (decide (0<=idxP (fun j=>(decide (((((m.motors.take i).map (unMotor 300)).map reMotor).getD j default).body=v.body))) 0 ((m.motors.take i).map (unMotor 300)).length))) (.bool (decide (0<=idxP (fun j=>(decide (((m.motors.take i).getD j default).body=v.body))) 0 i))):=Ref.bool (by rw[reMotor_un,hx]);have v1:Ref (.list 13 (((m.motors.map (unMotor 300)).take i).drop 0)) (.list 13 ((m.motors.take i).map (unMotor 300))):=Ref.eq (by rw[List.drop_zero,List.map_take]);have v2:((m.motors.take i).map (unMotor 300))=(((m.motors.take i).map (unMotor 300)).map reMotor).map (unMotor 300):=by rw[reMotor_un]
 have v3:(i:Int)<=((m.motors.map (unMotor 300)).length:Int):=by rw[lmE];omega
 have v4:((m.motors.take i).map (unMotor 300)).length<=4611686018427387904:=by omega
 rcases Bool.eq_false_or_eq_true (decide (0<=idxP (fun j=>(decide (((m.motors.take i).getD j default).body=v.body))) 0 i)) with c1 | c1
 · refine gR KT196_ok none [4] [] [(50,.list 13 ((m.motors.take i).map (unMotor 300))),(52,.bool (decide (0<=idxP (fun j=>(decide (((m.motors.take i).getD j default).body=v.body))) 0 i))),(46,tt)] (.c6 v1 (nn i) v3 v0 v2 v4 (.a1 (show Ref (.bool (decide (0<=idxP (fun j=>(decide (((m.motors.take i).getD j default).body=v.body))) 0 i))) (.bool true) from Ref.bool c1))) (t:=c196T0) (σ:=slots 53 [(4,.i6 (7:Int))]) (h:=[]) ?_
   rw[if_pos (show twiceM m.motors i v from of_decide_eq_true c1)];exact ret196 (b:=7) rfl rfl
 · refine gR KT196_ok none [4] [] [(50,.list 13 ((m.motors.take i).map (unMotor 300))),(52,.bool (decide (0<=idxP (fun j=>(decide (((m.motors.take i).getD j default).body=v.body))) 0 i))),(46,ff)] (.c6 v1 (nn i) v3 v0 v2 v4 (.a1 (show Ref (.bool (decide (0<=idxP (fun j=>(decide (((m.motors.take i).getD j default).body=v.body))) 0 i))) (.bool false) from Ref.bool c1))) (t:=[.code .ret]) (σ:=slots 53 [(4,.i6 (0:Int))]) (h:=[]) ?_
   rw[if_neg (show ¬ twiceM m.motors i v from of_decide_eq_false c1)];exact ret196 (b:=0) rfl rfl
end
abbrev c196_0 (m:MachD) (v:MotorD):List (Option ABlk):=[some ⟨41,6,false,[(unMach 300 m)],none⟩,some ⟨239,13,false,[(unMotor 300 v)],none⟩]
theorem a196 : Ctr 196 k196:=fun args r ob h ho=>by
 unfold k196 at h
 split at h
 · rename_i M i
   cases h;have o0:0<=i:=ho _ (by simp);have o1:M=unMach 300 (reMach M):=ho _ (by simp);have o2:i.toNat<(reMach M).motors.length:=ho _ (by simp);have o3:(reMach M).motors.length<=4611686018427387904:=ho _ (by simp);clear ho;generalize reMach M=m at*;subst o1;obtain⟨i,rfl⟩:=Int.eq_ofNat_of_zero_le o0;replace o2:i<m.motors.length:=o2;show AFun Tryz.prog 196 [.agg (unMach 300 m),.i6 ((i:Nat):Int)] (.i6 (motorV m.bodies.length m.motors i (m.motors.getD i default)));obtain⟨v,hv⟩:∃ v,v=m.motors.getD i default:=⟨_,rfl⟩;have hr:Ref (.cptr ((m.motors.map (unMotor 300)).getD i []) 0) (.cptr (unMotor 300 v) 0):=by rw[hv];exact Ref.cmap o2
   rw[<- hv];clear hv;refine af Tryz.f196 fun S w0=> ?_
   have e:st0 [AV.agg (unMach 300 m),.i6 ((i:Nat):Int)] Tryz.f196.ntmps=⟨slots 53 [(0,.agg (unMach 300 m)),(1,.i6 ((i:Nat):Int))],[]⟩:=by kernel_rfl
   rw[e];clear e;have hb:(m.bodies.map (unBody 300)).length=m.bodies.length:=lmE ..;unfold motorV;have v1:(i:Int)<((m.motors.map (unMotor 300)).length:Int):=by rw[lmE];omega
   rcases Bool.eq_false_or_eq_true (!(decide (0<=v.body/\v.body<(((m.bodies.map (unBody 300)).length:Nat):Int)))) with c1 | c1
   · refine gR KT196_ok (some 4) [1,2,4,5] [0,1] [(9,.cptr (unMotor 300 v) 0),(17,tt)] (.a4 hr (nn i) v1 (show Ref (.bool (!(decide (0<=v.body/\v.body<((m.bodies.map (unBody 300)).length:Int))))) (.bool true) from Ref.bool c1)) (t:=c196T0) (σ:=slots 53 [(1,.i6 (i:Int)),(2,.ptr 0 6 0 0),(4,.i6 (2:Int)),(5,.ptr 1 13 0 0)]) (h:=(c196_0 m v)) ?_
     rw[hb] at c1;generalize decide (0<=v.body/\v.body<((m.bodies.length:Nat):Int))=dd at c1 ⊢;exact ret196 (b:=2) (by rw[if_pos (by clear hr o2 o3 S w0;simp_all)]) rfl
   · have v0 : Ref (.bool (!(decide (0<=v.body/\v.body<((m.bodies.map (unBody 300)).length:Int))))) (.bool false):=Ref.bool c1
     by_cases c2:v.body=(0:Int)
     · refine gR KT196_ok (some 4) [1,2,4,5] [0,1] [(9,.cptr (unMotor 300 v) 0),(17,ff),(22,tt)] (.a5 hr (nn i) v1 v0 (iT c2)) (t:=c196T0) (σ:=slots 53 [(1,.i6 (i:Int)),(2,.ptr 0 6 0 0),(4,.i6 (2:Int)),(5,.ptr 1 13 0 0)]) (h:=(c196_0 m v)) ?_
       rw[hb] at c1;generalize decide (0<=v.body/\v.body<((m.bodies.length:Nat):Int))=dd at c1 ⊢;exact ret196 (b:=2) (by rw[if_pos (by clear hr o2 o3 S w0;simp_all)]) rfl
     · by_cases c3:(Int.sign v.t.num)<(0:Int)
       · refine gR KT196_ok (some 4) [1,2,4,5] [0,1] [(9,.cptr (unMotor 300 v) 0),(17,ff),(22,ff),(28,tt)] (.a6 hr (nn i) v1 v0 (iF c2) (iT c3)) (t:=c196T0) (σ:=slots 53 [(1,.i6 (i:Int)),(2,.ptr 0 6 0 0),(4,.i6 (2:Int)),(5,.ptr 1 13 0 0)]) (h:=(c196_0 m v)) ?_
         rw[hb] at c1;generalize decide (0<=v.body/\v.body<((m.bodies.length:Nat):Int))=dd at c1 ⊢;exact ret196 (b:=2) (by rw[if_pos (by clear hr o2 o3 S w0;simp_all)]) rfl
       · by_cases c4:(Int.sign v.h.num)<(0:Int)
         · refine gR KT196_ok (some 4) [1,2,4,5] [0,1] [(9,.cptr (unMotor 300 v) 0),(17,ff),(22,ff),(28,ff),(34,tt)] (.c6 hr (nn i) v1 v0 (iF c2) (iF c3) (.a1 (iT c4))) (t:=c196T0) (σ:=slots 53 [(1,.i6 (i:Int)),(2,.ptr 0 6 0 0),(4,.i6 (2:Int)),(5,.ptr 1 13 0 0)]) (h:=(c196_0 m v)) ?_
           rw[hb] at c1;generalize decide (0<=v.body/\v.body<((m.bodies.length:Nat):Int))=dd at c1 ⊢;exact ret196 (b:=2) (by rw[if_pos (by clear hr o2 o3 S w0;simp_all)]) rfl
         · by_cases c5:(Int.sign v.c.num)<(0:Int)
           · refine gR KT196_ok (some 4) [1,2,4,5] [0,1] [(9,.cptr (unMotor 300 v) 0),(17,ff),(22,ff),(28,ff),(34,ff),(40,tt)] (.c6 hr (nn i) v1 v0 (iF c2) (iF c3) (.a2 (iF c4) (iT c5))) (t:=c196T0) (σ:=slots 53 [(1,.i6 (i:Int)),(2,.ptr 0 6 0 0),(4,.i6 (2:Int)),(5,.ptr 1 13 0 0)]) (h:=(c196_0 m v)) ?_
             rw[hb] at c1;generalize decide (0<=v.body/\v.body<((m.bodies.length:Nat):Int))=dd at c1 ⊢;exact ret196 (b:=2) (by rw[if_pos (by clear hr o2 o3 S w0;simp_all)]) rfl
           · by_cases c6:(Int.sign v.m.num)<=(0:Int)
             · refine gR KT196_ok (some 4) [1,2,4,5] [0,1] [(9,.cptr (unMotor 300 v) 0),(17,ff),(22,ff),(28,ff),(34,ff),(40,ff),(11,tt)] (.c6 hr (nn i) v1 v0 (iF c2) (iF c3) (.a3 (iF c4) (iF c5) (iT c6))) (t:=c196T0) (σ:=slots 53 [(1,.i6 (i:Int)),(2,.ptr 0 6 0 0),(4,.i6 (2:Int)),(5,.ptr 1 13 0 0)]) (h:=(c196_0 m v)) ?_
               rw[hb] at c1;generalize decide (0<=v.body/\v.body<((m.bodies.length:Nat):Int))=dd at c1 ⊢;exact ret196 (b:=2) (by rw[if_pos (by clear hr o2 o3 S w0;simp_all)]) rfl
             · refine gR KT196_ok (some 4) [1,2,4,5] [0,1] [(9,.cptr (unMotor 300 v) 0),(17,ff),(22,ff),(28,ff),(34,ff),(40,ff),(11,ff)] (.c6 hr (nn i) v1 v0 (iF c2) (iF c3) (.a3 (iF c4) (iF c5) (iF c6))) (t:=c196T1) (σ:=slots 53 [(1,.i6 (i:Int)),(2,.ptr 0 6 0 0),(4,.i6 (0:Int)),(5,.ptr 1 13 0 0)]) (h:=(c196_0 m v)) ?_
               rw[hb] at c1;generalize decide (0<=v.body/\v.body<((m.bodies.length:Nat):Int))=dd at c1 ⊢;rw[if_neg (by clear hr o2 o3 S w0;simp_all)];refine Good.freezeD (b:=⟨239,13,false,[unMotor 300 v],none⟩) 1 (by rfl) (by rfl) (.oe (.a1 (dc (0<1)))) .on ?_;refine Good.tidy [0] (by decide) (σ':=slots 53 [(1,.i6 ((i:Nat):Int)),(2,.ptr 0 6 0 0),(4,.i6 (0:Int)),(5,.cptr (unMotor 300 v) 0)]) (h':=[some ⟨41,6,false,[unMach 300 m],none⟩]) (by kernel_rfl) (by kernel_rfl) ?_;exact Good.weak 53 [(1,_),(2,_),(5,_)] (by kernel_rfl) (.r (.r (.r .nil))) (s196_1 m i v (Nat.le_of_lt o2) o3)
 · cases h
def KT195_ok:=kn.cons a196
def k195:KF
 | [.list 13 X,.int .i64 t,.fnm 196 true M]=>some (.int .i64 (eachE (reMach M).motors.length t (fun i=>motorE (reMach M).bodies.length (reMach M).motors i)),[M=unMach 300 (reMach M),X=(reMach M).motors.map (unMotor 300),(reMach M).motors.length<=4611686018427387904])
 | _=>none
section
variable {S:Nat->Prop} {w0:World}
noncomputable abbrev T195:List Item:=[.code (nav [1,1,0,1,0,0] (bodyOf Tryz.f195)),.inLoop (nav [1,1,0,1,0,0] (bodyOf Tryz.f195)),.inBlock 0,.code (nav [1,1,1] (bodyOf Tryz.f195))]
theorem loop195 {m:MachD} {R:Int} (hR:firstE (fun i=>motorE m.bodies.length m.motors i) 0 m.motors.length=R) (hL:m.motors.length<=4611686018427387904):
   GF 195 S w0 (.i6 R) T195 ⟨slots 25 [(0,.list 13 (m.motors.map (unMotor 300))),(2,.fnm 196 true (unMach 300 m)),(14,.i6 ((m.motors.length:Nat):Int)),(15,.i6 ((0:Nat):Int))],[]⟩:=by
 refine down (G:=fun i=>firstE (fun i=>motorE m.bodies.length m.motors i) i (m.motors.length-i)=R->GF 195 S w0 (.i6 R) T195 ⟨slots 25 [(0,.list 13 (m.motors.map (unMotor 300))),(2,.fnm 196 true (unMach 300 m)),(14,.i6 ((m.motors.length:Nat):Int)),(15,.i6 ((i:Nat):Int))],[]⟩) m.motors.length ?_ ?_ hR
 · intro he
   rw[Nat.sub_self] at he;exact rF KT195_ok [(16,ff)] (.a1 (iF (om (¬ ((m.motors.length:Int)<(m.motors.length:Int)))))) (V:=.i6 (0:Int)) (Ref.int he)
 · intro i hlt ih he
   have hx:(m.motors.map (unMotor 300)).length=m.motors.length:=lmE ..;rw[show m.motors.length-i=(m.motors.length-(i+1))+1 by omega,firstE] at he;have v0:Ref (.i6 (motorE (reMach (unMach 300 m)).bodies.length (reMach (unMach 300 m)).motors i)) (.i6 (motorE m.bodies.length m.motors i)):=Ref.int (congrArg (fun x:MachD=>motorE x.bodies.length x.motors i) (reMach_un m));have v1:(reMach (unMach 300 m)).motors.length<=4611686018427387904:=(congrArg (fun x:MachD=>x.motors.length<=4611686018427387904) (reMach_un m)).mpr hL;have v2:i<(reMach (unMach 300 m)).motors.length:=(congrArg (fun x:MachD=>i<x.motors.length) (reMach_un m)).mpr hlt;have v3:(unMach 300 m)=unMach 300 (reMach (unMach 300 m)):=(congrArg (unMach 300) (reMach_un m)).symm;have v4:(i:Int)<(m.motors.length:Int):=by omega
   by_cases c:motorE m.bodies.length m.motors i=0
   · rw[if_pos c] at he
     exact gR KT195_ok none [0,2,6,14,15] [] [(16,tt),(20,.i6 (motorE m.bodies.length m.motors i)),(22,ff),(24,.i6 ((i+1:Nat):Int))] (.c6 (iT v4) v0 (nn i) v3 v2 v1 (.a2 (jF c) (wI ((i:Int)+(1:Int)) ((i+1:Nat):Int)))) (ih he)
   · rw[if_neg c] at he
     exact rF KT195_ok [(16,tt),(20,.i6 (motorE m.bodies.length m.motors i)),(22,tt)] (.c6 (iT v4) v0 (nn i) v3 v2 v1 (.a1 (jT c))) (V:=.i6 (motorE m.bodies.length m.motors i)) (Ref.int he)
end
theorem a195:Ctr 195 k195:=by
 refine ctr Tryz.f195 fun _ _ _ S w0 h ho=> ?_
 unfold k195 at h;split at h <;> cases h;rename_i X t M;obtain⟨o1,o2,o3⟩:=ho.e3;clear ho;generalize reMach M=m at*;subst o1;subst o2;have hx:(m.motors.map (unMotor 300)).length=m.motors.length:=lmE ..
 by_cases c:t<((m.motors.length:Nat):Int)
 · exact rF KT195_ok [(12,tt)] (.a1 (iT (show t<((m.motors.map (unMotor 300)).length:Int) by rw[hx];exact c))) (V:=.i6 (5:Int)) (Ref.int (by unfold eachE;rw[if_pos c]))
 · refine gN KT195_ok [0,1,2,6,13,14,15] [(12,ff)] (.a1 (iF (show ¬ (t<((m.motors.map (unMotor 300)).length:Int)) by rw[hx];exact c))) (t:=T195) (σ:=slots 25 [(0,.list 13 (m.motors.map (unMotor 300))),(1,.i6 t),(2,.fnm 196 true (unMach 300 m)),(6,.i6 (0:Int)),(13,.list 13 (m.motors.map (unMotor 300))),(14,(.i6 ((m.motors.map (unMotor 300)).length:Int))),(15,.i6 (0:Int))]) (h:=[]) ?_
   rw[hx];exact Good.weak 25 [(0,_),(2,_),(14,_),(15,_)] (by kernel_rfl) (.r (.r (.r (.r .nil)))) (loop195 (by unfold eachE;rw[if_neg c]) o3)
def footE (n:Nat) (v:FootD):Int:=if decide (0<=v.body/\v.body<((n:Nat):Int))=false then 2 else if v.pts.length<1 then 2 else if 2<v.pts.length then 2 else if v.pts.length=2/\(v.pts.getD 0 default).x=(v.pts.getD 1 default).x/\(v.pts.getD 0 default).z=(v.pts.getD 1 default).z then 2 else if Int.sign v.fr.num<0 then 2 else 0
def k198:KF
 | [.agg [.str mn,.list 27 XB,.list 17 XS,.list 17 XT,.list 13 XD,.list 5 XF],.int .i64 i]=>some (.int .i64 (footE XB.length ((XF.map reFoot).getD i.toNat default)),[0<=i,XF=(XF.map reFoot).map (unFoot 300),i.toNat<XF.length])
 | _=>none
theorem a198 :Ctr 198 k198:=by
 refine ctr Tryz.f198 fun _ _ _ S w0 h ho=> ?_
 unfold k198 at h;split at h <;> cases h;rename_i mn XB XS XT XD XF i;obtain⟨o1000,o1,o2⟩:=ho.e3;have L:=limE;have K:=((kn.cons a256).cons a253).cons a60;obtain⟨i,rfl⟩:=Int.eq_ofNat_of_zero_le o1000;clear o1000;replace o1:XF=(XF.map reFoot).map (unFoot 300):=o1;replace o2:i<XF.length:=o2;obtain⟨v,hv⟩:∃ v,v=(XF.map reFoot).getD i default:=⟨_,rfl⟩;have hr:Ref (.cptr (XF.getD i []) 0) (.cptr (unFoot 300 v) 0):=by rw[hv];exact Ref.cmapX o1 o2
 have hl:(v.pts.map (unP 300)).length=v.pts.length:=lmE ..;have v1:Ref (.cptr (XF.getD i []) 0) (.cptr (unFoot 300 v) 0):=by exact hr
 have v4:(i:Int)<(XF.length:Int):=by omega
 rcases Bool.eq_false_or_eq_true (!(decide (0<=v.body/\v.body<((XB.length:Nat):Int)))) with h1 | h1
 · refine rF K [(9,.cptr (unFoot 300 v) 0),(16,tt)] (.a4 v1 (nn i) v4 (show Ref (.bool (!(decide (0<=v.body/\v.body<(XB.length:Int))))) (.bool true) from Ref.bool h1)) (V:=.i6 (2:Int)) (r:=.i6 (footE XB.length ((XF.map reFoot).getD i default))) ?_
   rw[<- hv];rw[hl] at*;exact Ref.int (by unfold footE;rw[if_pos (by revert h1;cases decide (0<=v.body/\v.body<((XB.length:Nat):Int)) <;> simp)])
 · have v0 : Ref (.bool (!(decide (0<=v.body/\v.body<(XB.length:Int))))) (.bool false):=Ref.bool h1
   by_cases h2:(((v.pts.map (unP 300)).length:Nat):Int)<(1:Int)
   · refine rF K [(9,.cptr (unFoot 300 v) 0),(16,ff),(22,tt)] (.a5 v1 (nn i) v4 v0 (iT h2)) (V:=.i6 (2:Int)) (r:=.i6 (footE XB.length ((XF.map reFoot).getD i default))) ?_
     rw[<- hv];rw[hl] at*;exact Ref.int (by unfold footE;rw[if_neg (by revert h1;cases decide (0<=v.body/\v.body<((XB.length:Nat):Int)) <;> simp),if_pos (by omega)])
   · by_cases h3:(2:Int)<(((v.pts.map (unP 300)).length:Nat):Int)
     · refine rF K [(9,.cptr (unFoot 300 v) 0),(16,ff),(22,ff),(28,tt)] (.a6 v1 (nn i) v4 v0 (iF h2) (iT h3)) (V:=.i6 (2:Int)) (r:=.i6 (footE XB.length ((XF.map reFoot).getD i default))) ?_
       rw[<- hv];rw[hl] at*;exact Ref.int (by unfold footE;rw[if_neg (by revert h1;cases decide (0<=v.body/\v.body<((XB.length:Nat):Int)) <;> simp),if_neg (by omega),if_pos (by omega)])
     · by_cases h4:(((v.pts.map (unP 300)).length:Nat):Int)=(2:Int)
       · have v2:Ref (.cptr ((v.pts.map (unP 300)).getD 0 []) 0) (.cptr [.q ((v.pts.getD 0 default).x) 300,.q ((v.pts.getD 0 default).z) 300] 0):=by exact Ref.cmap (f:=unP 300) (by omega)
         have v3:Ref (.cptr ((v.pts.map (unP 300)).getD 1 []) 0) (.cptr [.q ((v.pts.getD 1 default).x) 300,.q ((v.pts.getD 1 default).z) 300] 0):=by exact Ref.cmap (f:=unP 300) (by omega)
         have v6:300+300+200<=LIM:=by omega
         have v7:(0:Int)<((v.pts.map (unP 300)).length:Int):=by omega
         have v8:(1:Int)<((v.pts.map (unP 300)).length:Int):=by omega
         have v9:0<=(0:Int):=by decide
         have v10:0<=(1:Int):=by decide
         rcases Bool.eq_false_or_eq_true (decide (((v.pts.getD 0 default).x)=((v.pts.getD 1 default).x)/\((v.pts.getD 0 default).z)=((v.pts.getD 1 default).z))) with h5 | h5
         · refine rF K [(9,.cptr (unFoot 300 v) 0),(16,ff),(22,ff),(28,ff),(33,tt),(36,.cptr [.q ((v.pts.getD 0 default).x) 300,.q ((v.pts.getD 0 default).z) 300] 0),(40,.cptr [.q ((v.pts.getD 1 default).x) 300,.q ((v.pts.getD 1 default).z) 300] 0),(45,tt)] (.c6 v1 (nn i) v4 v0 (iF h2) (iF h3) (.c6 (iT h4) v2 v9 v7 v3 v10 (.a4 v8 v6 v6 (show Ref (.bool (decide (((v.pts.getD 0 default).x)=((v.pts.getD 1 default).x)/\((v.pts.getD 0 default).z)=((v.pts.getD 1 default).z)))) (.bool true) from Ref.bool h5)))) (V:=.i6 (2:Int)) (r:=.i6 (footE XB.length ((XF.map reFoot).getD i default))) ?_
           rw[<- hv];rw[hl] at*;exact Ref.int (by unfold footE;rw[if_neg (by revert h1;cases decide (0<=v.body/\v.body<((XB.length:Nat):Int)) <;> simp),if_neg (by omega),if_neg (by omega),if_pos ⟨by omega,of_decide_eq_true h5⟩])
         · have v5:Ref (.bool (decide (((v.pts.getD 0 default).x)=((v.pts.getD 1 default).x)/\((v.pts.getD 0 default).z)=((v.pts.getD 1 default).z)))) (.bool false):=Ref.bool h5
           by_cases h6:(Int.sign v.fr.num)<(0:Int)
           · refine rF K [(9,.cptr (unFoot 300 v) 0),(16,ff),(22,ff),(28,ff),(33,tt),(36,.cptr [.q ((v.pts.getD 0 default).x) 300,.q ((v.pts.getD 0 default).z) 300] 0),(40,.cptr [.q ((v.pts.getD 1 default).x) 300,.q ((v.pts.getD 1 default).z) 300] 0),(45,ff),(50,tt)] (.c6 v1 (nn i) v4 v0 (iF h2) (iF h3) (.c6 (iT h4) v2 v9 v7 v3 v10 (.a5 v8 v6 v6 v5 (iT h6)))) (V:=.i6 (2:Int)) (r:=.i6 (footE XB.length ((XF.map reFoot).getD i default))) ?_
             rw[<- hv];rw[hl] at*;exact Ref.int (by unfold footE;rw[if_neg (by revert h1;cases decide (0<=v.body/\v.body<((XB.length:Nat):Int)) <;> simp),if_neg (by omega),if_neg (by omega),if_neg (by intro k;have:=decide_eq_true k.2;rw[this] at h5;cases h5),if_pos h6])
           · refine rF K [(9,.cptr (unFoot 300 v) 0),(16,ff),(22,ff),(28,ff),(33,tt),(36,.cptr [.q ((v.pts.getD 0 default).x) 300,.q ((v.pts.getD 0 default).z) 300] 0),(40,.cptr [.q ((v.pts.getD 1 default).x) 300,.q ((v.pts.getD 1 default).z) 300] 0),(45,ff),(50,ff)] (.c6 v1 (nn i) v4 v0 (iF h2) (iF h3) (.c6 (iT h4) v2 v9 v7 v3 v10 (.a5 v8 v6 v6 v5 (iF h6)))) (V:=.i6 (0:Int)) (r:=.i6 (footE XB.length ((XF.map reFoot).getD i default))) ?_
             rw[<- hv];rw[hl] at*;exact Ref.int (by unfold footE;rw[if_neg (by revert h1;cases decide (0<=v.body/\v.body<((XB.length:Nat):Int)) <;> simp),if_neg (by omega),if_neg (by omega),if_neg (by intro k;have:=decide_eq_true k.2;rw[this] at h5;cases h5),if_neg h6])
       · by_cases h5:(Int.sign v.fr.num)<(0:Int)
         · refine rF K [(9,.cptr (unFoot 300 v) 0),(16,ff),(22,ff),(28,ff),(33,ff),(50,tt)] (.c6 v1 (nn i) v4 v0 (iF h2) (iF h3) (.a2 (iF h4) (iT h5))) (V:=.i6 (2:Int)) (r:=.i6 (footE XB.length ((XF.map reFoot).getD i default))) ?_
           rw[<- hv];rw[hl] at*;exact Ref.int (by unfold footE;rw[if_neg (by revert h1;cases decide (0<=v.body/\v.body<((XB.length:Nat):Int)) <;> simp),if_neg (by omega),if_neg (by omega),if_neg (by intro k;have:=k.1;omega),if_pos h5])
         · refine rF K [(9,.cptr (unFoot 300 v) 0),(16,ff),(22,ff),(28,ff),(33,ff),(50,ff)] (.c6 v1 (nn i) v4 v0 (iF h2) (iF h3) (.a2 (iF h4) (iF h5))) (V:=.i6 (0:Int)) (r:=.i6 (footE XB.length ((XF.map reFoot).getD i default))) ?_
           rw[<- hv];rw[hl] at*;exact Ref.int (by unfold footE;rw[if_neg (by revert h1;cases decide (0<=v.body/\v.body<((XB.length:Nat):Int)) <;> simp),if_neg (by omega),if_neg (by omega),if_neg (by intro k;have:=k.1;omega),if_neg h5])
def KT197_ok:=kn.cons a198
def k197:KF
 | [.list 5 X,.int .i64 t,.fnm 198 true M]=>some (.int .i64 (eachE (reMach M).feet.length t (fun i=>footE (reMach M).bodies.length ((reMach M).feet.getD i default))),[M=unMach 300 (reMach M),X=(reMach M).feet.map (unFoot 300),(reMach M).feet.length<=4611686018427387904])
 | _=>none
section
variable {S:Nat->Prop} {w0:World}
noncomputable abbrev T197:List Item:=[.code (nav [1,1,0,1,0,0] (bodyOf Tryz.f197)),.inLoop (nav [1,1,0,1,0,0] (bodyOf Tryz.f197)),.inBlock 0,.code (nav [1,1,1] (bodyOf Tryz.f197))]
theorem loop197 {m:MachD} {R:Int} (hR:firstE (fun i=>footE m.bodies.length (m.feet.getD i default)) 0 m.feet.length=R) (hL:m.feet.length<=4611686018427387904):
   GF 197 S w0 (.i6 R) T197 ⟨slots 25 [(0,.list 5 (m.feet.map (unFoot 300))),(2,.fnm 198 true (unMach 300 m)),(14,.i6 ((m.feet.length:Nat):Int)),(15,.i6 ((0:Nat):Int))],[]⟩:=by
 refine down (G:=fun i=>firstE (fun i=>footE m.bodies.length (m.feet.getD i default)) i (m.feet.length-i)=R->GF 197 S w0 (.i6 R) T197 ⟨slots 25 [(0,.list 5 (m.feet.map (unFoot 300))),(2,.fnm 198 true (unMach 300 m)),(14,.i6 ((m.feet.length:Nat):Int)),(15,.i6 ((i:Nat):Int))],[]⟩) m.feet.length ?_ ?_ hR
 · intro he
   rw[Nat.sub_self] at he;exact rF KT197_ok [(16,ff)] (.a1 (iF (om (¬ ((m.feet.length:Int)<(m.feet.length:Int)))))) (V:=.i6 (0:Int)) (Ref.int he)
 · intro i hlt ih he
   have hx:(m.feet.map (unFoot 300)).length=m.feet.length:=lmE ..;rw[show m.feet.length-i=(m.feet.length-(i+1))+1 by omega,firstE] at he;have v0:Ref (.i6 (footE (m.bodies.map (unBody 300)).length (((m.feet.map (unFoot 300)).map reFoot).getD i default))) (.i6 (footE m.bodies.length (m.feet.getD i default))):=Ref.int (by rw[reFoot_un,lmE]);have v1:(m.feet.map (unFoot 300))=((m.feet.map (unFoot 300)).map reFoot).map (unFoot 300):=by rw[reFoot_un]
   have v2:i<(m.feet.map (unFoot 300)).length:=by rw[lmE];exact hlt
   have v3:(i:Int)<(m.feet.length:Int):=by omega
   by_cases c:footE m.bodies.length (m.feet.getD i default)=0
   · rw[if_pos c] at he
     exact gR KT197_ok none [0,2,6,14,15] [] [(16,tt),(20,.i6 (footE m.bodies.length (m.feet.getD i default))),(22,ff),(24,.i6 ((i+1:Nat):Int))] (.c6 (iT v3) v0 (nn i) v1 v2 (jF c) (.a1 (wI ((i:Int)+(1:Int)) ((i+1:Nat):Int)))) (ih he)
   · rw[if_neg c] at he
     exact rF KT197_ok [(16,tt),(20,.i6 (footE m.bodies.length (m.feet.getD i default))),(22,tt)] (.a6 (iT v3) v0 (nn i) v1 v2 (jT c)) (V:=.i6 (footE m.bodies.length (m.feet.getD i default))) (Ref.int he)
end
theorem a197:Ctr 197 k197:=by
 refine ctr Tryz.f197 fun _ _ _ S w0 h ho=> ?_
 unfold k197 at h;split at h <;> cases h;rename_i X t M;obtain⟨o1,o2,o3⟩:=ho.e3;clear ho;generalize reMach M=m at*;subst o1;subst o2;have hx:(m.feet.map (unFoot 300)).length=m.feet.length:=lmE ..
 by_cases c:t<((m.feet.length:Nat):Int)
 · exact rF KT197_ok [(12,tt)] (.a1 (iT (show t<((m.feet.map (unFoot 300)).length:Int) by rw[hx];exact c))) (V:=.i6 (5:Int)) (Ref.int (by unfold eachE;rw[if_pos c]))
 · refine gN KT197_ok [0,1,2,6,13,14,15] [(12,ff)] (.a1 (iF (show ¬ (t<((m.feet.map (unFoot 300)).length:Int)) by rw[hx];exact c))) (t:=T197) (σ:=slots 25 [(0,.list 5 (m.feet.map (unFoot 300))),(1,.i6 t),(2,.fnm 198 true (unMach 300 m)),(6,.i6 (0:Int)),(13,.list 5 (m.feet.map (unFoot 300))),(14,(.i6 ((m.feet.map (unFoot 300)).length:Int))),(15,.i6 (0:Int))]) (h:=[]) ?_
   rw[hx];exact Good.weak 25 [(0,_),(2,_),(14,_),(15,_)] (by kernel_rfl) (.r (.r (.r (.r .nil)))) (loop197 (by unfold eachE;rw[if_neg c]) o3)
def KT103_ok:=((((((kn.cons a197).cons a195).cons a193).cons a191).cons a189).cons a188).cons a187
end Go.Av
