/- PoseBent: the given statement holds. No condition. -/
import Derived.Test.YtbdhgnlabjmnoaaGreatK4
import Derived.Test.YtbdhgnlabjmnoaaGreatKF
import Derived.Test.YtbdhgnlabjmnoaaGreatRows
import Derived.WalkKit
import Derived.ProofKit
import Derived.OpenShut
import Derived.JoinedCond
import Derived.Deep.Slices
import Derived.ReadAgain
import Derived.ChangeReads
import Derived.ChangeOld
set_option linter.all false
set_option maxRecDepth 100000
set_option autoImplicit true
set_option relaxedAutoImplicit true
namespace Go.Av
open Go.Proofs Go.RowKit
def eQ (m:MachD) (p:PoseD):Nat->PtD
 | 0=>⟨0,0⟩
 | i+1=>⟨(eQ m p i).x+(mJ (fr m p i) (m.bodies.getD i default).c).x*mL m.bodies ((i:Nat):Int),(eQ m p i).z+(mJ (fr m p i) (m.bodies.getD i default).c).z*mL m.bodies ((i:Nat):Int)⟩
def mM (m:MachD) (p:PoseD):PtD:=if bJ m p.joints.length=0 then eQ m p m.bodies.length else ⟨0,0⟩
def cB (jb n:Nat):Nat->Nat
 | 0=>0
 | i+1=>cB jb n i+(4*SZ jb+302*n+916)
theorem KX {jb n:Nat}:∀ {i:Nat},cB jb n i<=i*(4*SZ jb+302*n+916)
 | 0=>by simp[cB]
 | i+1=>by
   have:=KX (jb:=jb) (n:=n) (i:=i);rw[cB,Nat.add_mul];omega
theorem RB {jb n i:Nat} (hi:i<=8) (hn:n<=8):cB jb n i<=32*SZ jb+26656:=by
 have h1:=KX (jb:=jb) (n:=n) (i:=i);have h2:i*(4*SZ jb+302*n+916)<=8*(4*SZ jb+302*n+916):=Nat.mul_le_mul_right _ hi;omega
noncomputable abbrev Sk:List Item:=[.code (aR [1,1,1,1,0,1,0,0] (aA Tryz.f66)),.inLoop (aR [1,1,1,1,0,1,0,0] (aA Tryz.f66)),.inBlock 0,.code (aR [1,1,1,1,1] (aA Tryz.f66))]
abbrev DS (m:MachD) (jb:Nat) (p:PoseD):List AV:=[.str m.name,.list 27 (m.bodies.map (aH 300)),.list 17 (m.springs.map (aN 300)),.list 17 (m.tendons.map (aN 300)),.list 13 (m.motors.map (aV 300)),.list 5 (m.feet.map (bH 300)),.list 12 ((List.range m.bodies.length).map fun i=>iG (SZ jb) (fr m p i))]
abbrev Cb:ABlk:=⟨58,6,false,[[.q 0 0,.q 0 0]],none⟩
abbrev KY (m:MachD) (p:PoseD) (jb:Nat):ABlk:=⟨58,6,false,[[.q ((eQ m p m.bodies.length).x) (cB jb m.bodies.length m.bodies.length),.q ((eQ m p m.bodies.length).z) (cB jb m.bodies.length m.bodies.length)]],none⟩
abbrev KZ (jb:Nat) (m:MachD) (p:PoseD):List (Nat×AV):=[(4,.ptr 0 6 0 0),(6,.cptr (xV jb m p) 0),(8,.ptr 1 6 0 0),(25,.list 27 (m.bodies.map (aH 300))),(26,.i6 ((m.bodies.length:Nat):Int)),(27,.i6 ((0:Nat):Int))]
abbrev La (m:MachD) (p:PoseD) (jb:Nat):AV:=(.tup [.agg [.q (eQ m p m.bodies.length).x (32*SZ jb+26656),.q (eQ m p m.bodies.length).z (32*SZ jb+26656)],.i6 0])
theorem MS {S:Nat->Prop} {w0:World} {m:MachD} {p:PoseD} {jb:Nat} (h8:m.bodies.length<=8) (hS:SZ jb<=153753600):
   GF 66 S w0 (La m p jb) Sk ⟨slots 50 (KZ jb m p),[some (Cb),some ⟨58,6,false,[[.q (eQ m p 0).x (cB jb m.bodies.length 0),.q (eQ m p 0).z (cB jb m.bodies.length 0)]],none⟩]⟩:=by
 have hlm:(m.bodies.map (aH 300)).length=m.bodies.length:=bM ..;have hlr:((List.range m.bodies.length).map fun i=>iG (SZ jb) (fr m p i)).length=m.bodies.length:=by simp
 refine pW (G:=fun i=>GF 66 S w0 (La m p jb) Sk ⟨slots 50 [(4,.ptr 0 6 0 0),(6,.cptr (xV jb m p) 0),(8,.ptr 1 6 0 0),(25,.list 27 (m.bodies.map (aH 300))),(26,.i6 ((m.bodies.length:Nat):Int)),(27,.i6 ((i:Nat):Int))],[some (Cb),some ⟨58,6,false,[[.q (eQ m p i).x (cB jb m.bodies.length i),.q (eQ m p i).z (cB jb m.bodies.length i)]],none⟩]⟩) m.bodies.length ?_ ?_
 · refine gN uU [4,5,6,8,25,26,27] [(28,ff)] (.a1 (iF (om (¬ ((m.bodies.length:Int)<(m.bodies.length:Int)))))) (t:=[.code .ret]) (σ:=slots 50 [(4,.ptr 0 6 0 0),(5,.i6 (0:Int)),(6,.cptr (DS m jb p) 0),(8,.ptr 1 6 0 0),(25,.list 27 (m.bodies.map (aH 300))),(26,.i6 (m.bodies.length:Int)),(27,.i6 (m.bodies.length:Int))]) (h:=[some (KY m p jb),some (KY m p jb)]) ?_
   have:=RB (jb:=jb) h8 h8;exact gE [.agg [.q (eQ m p m.bodies.length).x (cB jb m.bodies.length m.bodies.length),.q (eQ m p m.bodies.length).z (cB jb m.bodies.length m.bodies.length)],.i6 0] (Ref.tup2 (Ref.agg (RefC.cons (RefC.q_le this) (RefC.q_le this))) rr rfl rfl rfl rfl)
 · intro i hi ih
   have:=RB (jb:=jb) (i:=i) (n:=m.bodies.length) (by omega) h8;have v0:(i:Int)<((m.bodies.map (aH 300)).length:Int):=by rw[hlm];omega
   refine gR uU none [4,6,8,25,26,27] [0,1] [(28,tt),(30,.cptr (aH 300 (m.bodies.getD i default)) 0),(38,.cptr [.q ((fr m p i).at_.x) (2*(SZ jb)),.q ((fr m p i).at_.z) (2*(SZ jb)),.q ((fr m p i).c) (SZ jb),.q ((fr m p i).s) (SZ jb)] 0),(45,.agg [.q (mL m.bodies (i:Int)) (302*m.bodies.length+304)]),(48,.i6 ((i+1:Nat):Int))] (.c6 (iT (om ((i:Int)<(m.bodies.length:Int)))) (show Ref (.cptr ((m.bodies.map (aH 300)).getD i []) 0) (.cptr (aH 300 (m.bodies.getD i default)) 0) from Ref.cmap (f:=aH 300) hi) (nn i) v0 (show Ref (.cptr (((List.range m.bodies.length).map fun i=>iG (SZ jb) (fr m p i)).getD i []) 0) (.cptr [.q ((fr m p i).at_.x) (2*(SZ jb)),.q ((fr m p i).at_.z) (2*(SZ jb)),.q ((fr m p i).c) (SZ jb),.q ((fr m p i).s) (SZ jb)] 0) from cA hi) (nn i) (.c6 (show(i:Int)<(((List.range m.bodies.length).map fun i=>iG (SZ jb) (fr m p i)).length:Int) by rw[hlr];omega) (show(2*(SZ jb))+(2*(SZ jb))+2*300+2*300+2*(SZ jb)+2*(SZ jb)+400<=LIM by unfold LIM;omega) (show Ref (.agg [.q (mL ((m.bodies.map (aH 300)).map reBody) (i:Int)) (302*(m.bodies.map (aH 300)).length+304)]) (.agg [.q (mL m.bodies (i:Int)) (302*m.bodies.length+304)]) from Ref.eq (by rw[iO,hlm])) (show(m.bodies.map (aH 300))=((m.bodies.map (aH 300)).map reBody).map (aH 300) by rw[iO]) (show(m.bodies.map (aH 300)).length<=1000 by rw[hlm];omega) (nn i) (.a4 v0 (show((2*(SZ jb))+(300+300+(SZ jb)+(SZ jb)+6)+2)+((2*(SZ jb))+(300+300+(SZ jb)+(SZ jb)+6)+2)+(302*m.bodies.length+304)+300<=LIM by unfold LIM;omega) (show(cB jb m.bodies.length i)+(cB jb m.bodies.length i)+(((2*(SZ jb))+(300+300+(SZ jb)+(SZ jb)+6)+2)+(302*m.bodies.length+304)+2)+(((2*(SZ jb))+(300+300+(SZ jb)+(SZ jb)+6)+2)+(302*m.bodies.length+304)+2)+300<=LIM by unfold LIM;omega) (wI ((i:Int)+(1:Int)) ((i+1:Nat):Int))))) (t:=Sk) (σ:=slots 50 [(4,.ptr 0 6 0 0),(6,.cptr (xV jb m p) 0),(8,.ptr 1 6 0 0),(25,.list 27 (m.bodies.map (aH 300))),(26,.i6 ((m.bodies.length:Nat):Int)),(27,.i6 ((i+1:Nat):Int))]) (h:=[some (Cb),some ⟨58,6,false,[[.q (((eQ m p i).x)+((((fr m p i).at_.x)+(((fr m p i).c)*(m.bodies.getD i default).c.x-((fr m p i).s)*(m.bodies.getD i default).c.z))*(mL m.bodies (i:Int)))) ((cB jb m.bodies.length i)+(((2*(SZ jb))+(300+300+(SZ jb)+(SZ jb)+6)+2)+(302*m.bodies.length+304)+2)+2),.q (((eQ m p i).z)+((((fr m p i).at_.z)+(((fr m p i).s)*(m.bodies.getD i default).c.x+((fr m p i).c)*(m.bodies.getD i default).c.z))*(mL m.bodies (i:Int)))) ((cB jb m.bodies.length i)+(((2*(SZ jb))+(300+300+(SZ jb)+(SZ jb)+6)+2)+(302*m.bodies.length+304)+2)+2)]],none⟩]) ?_
   have e:cB jb m.bodies.length i+(2*SZ jb+(300+300+SZ jb+SZ jb+6)+2+(302*m.bodies.length+304)+2)+2=cB jb m.bodies.length (i+1):=by rw[cB];omega
   rw[e];exact ih
def Va:KF
 | [.agg M,.agg [.q ax jb,.q az A2,.q tu A3,.list 3 J]]=>some (.tup [.agg [.q (mM (aG M) ⟨⟨ax,az⟩,tu,J.map gX⟩).x (32*SZ jb+26656),.q (mM (aG M) ⟨⟨ax,az⟩,tu,J.map gX⟩).z (32*SZ jb+26656)],.int .i64 (bJ (aG M) J.length)],[M=aE 300 (aG M),(aG M).small,(aG M).bodies.length<=8,A2<=jb,A3<=jb,jb<=100000,Ref (.list 3 J) (.list 3 ((J.map gX).map (dU jb))),J.length<=4611686018427387904])
 | _=>none
abbrev Lb (jb:Nat) (m:MachD) (p:PoseD):AV:=(.tup [(jJ jb (aG (aE 300 m)) ⟨⟨p.at_.x,p.at_.z⟩,p.turn,(p.joints.map (dU jb)).map gX⟩),.i6 (bJ (aG (aE 300 m)) (p.joints.map (dU jb)).length)])
theorem VB:bO 66 Va:=fun args r ob h ho=>by
 unfold Va at h
 split at h
 · rename_i M ax jb az A2 tu A3 J
   cases h;have o1:M=aE 300 (aG M):=ho _ (by simp);have o2:(aG M).small:=ho _ (by simp);have o3:(aG M).bodies.length<=8:=ho _ (by simp);have o4:A2<=jb:=ho _ (by simp);have o5:A3<=jb:=ho _ (by simp);have o6:jb<=100000:=ho _ (by simp);have o7:Ref (.list 3 J) (.list 3 ((J.map gX).map (dU jb))):=ho _ (by simp);have o8:J.length<=4611686018427387904:=ho _ (by simp);refine af Tryz.f66 fun S w0=> ?_
   generalize hm:aG M=m at*;subst o1;clear hm;obtain⟨p,hp⟩:∃ p:PoseD,p=⟨⟨ax,az⟩,tu,J.map gX⟩:=⟨_,rfl⟩;have hpj:p.joints.length=J.length:=by rw[hp];simp
   rw[<- hp]
   try rw[<- hpj]
   refine Good.weak 50 [(0,.agg (aE 300 m)),(1,.agg (bB jb p))] (by kernel_rfl) (.r (.cons (by rw[hp];exact Ref.pose o4 o5 o7) .nil)) ?_;clear hp;have s1:aE 300 m=aE 300 (aG (aE 300 m)):=by rw[aW]
   have s2:(aG (aE 300 m)).small:=by rw[aW];exact o2
   have s3:(aG (aE 300 m)).bodies.length<=8:=by rw[aW];exact o3
   have s4:Ref (.list 3 (p.joints.map (dU jb))) (.list 3 (((p.joints.map (dU jb)).map gX).map (dU jb))):=Ref.eq (by rw[jK]);have s5:(p.joints.map (dU jb)).length<=4611686018427387904:=by rw[bM,hpj];exact o8
   have s7:SZ jb<=153753600:=by unfold SZ;omega
   have s8:LIM=17592186044416:=rfl
   by_cases h1:(bJ m p.joints.length)=(0:Int)
   · refine gR uU none [4,5,6,8,25,26,27] [2,4] [(11,.tup [.cptr (DS m jb p) 0,.i6 (0:Int)])] (.c6 s1 s2 s3 (rl jb) (rl jb) o6 (.a3 s4 s5 (show Ref (Lb jb m p) (.tup [.cptr (DS m jb p) 0,.i6 (0:Int)]) by exact dC h1))) (t:=Sk) (σ:=slots 50 [(4,.ptr 0 6 0 0),(5,.i6 (0:Int)),(6,.cptr (DS m jb p) 0),(8,.ptr 1 6 0 0),(25,.list 27 (m.bodies.map (aH 300))),(26,(.i6 ((m.bodies.map (aH 300)).length:Int))),(27,.i6 (0:Int))]) (h:=[some (Cb),some (Cb)]) ?_
     rw[bM,show mM m p=eQ m p m.bodies.length from if_pos h1,h1];refine Good.pk 50 (KZ jb m p) ?_;exact MS o3 s7
   · refine rF uU [(11,.tup [.lit (.pointer none),.i6 (bJ m p.joints.length)]),(18,tt)] (.c6 s1 s2 s3 (rl jb) (rl jb) o6 (.a4 s4 s5 (show Ref (Lb jb m p) (.tup [.lit (.pointer none),.i6 (bJ m p.joints.length)]) by exact dD h1) (jT h1))) (V:=.tup [.agg [.q 0 0,.q 0 0],.i6 (bJ m p.joints.length)]) ?_
     rw[show mM m p=⟨0,0⟩ from if_neg h1];exact Ref.tup2 (Ref.agg (RefC.cons qe qe)) rr rfl rfl rfl rfl
 · cases h
def Vb:KF
 | [.agg [.q ax A,.q az B],.int .i64 x,.int .i64 z]=>some (.bool (decide (ax=(x:Rat)/\az=(z:Rat))),[A+300<=LIM,B+300<=LIM,(-9223372036854775808:Int)<=x,x<=(9223372036854775807:Int),(-9223372036854775808:Int)<=z,z<=(9223372036854775807:Int)])
 | _=>none
theorem VC:bO 35 Vb:=by
 refine cJ Tryz.f35 fun _ _ _ S w0 h ho=> ?_
 unfold Vb at h;split at h <;> cases h;rename_i ax A az B x z;obtain⟨o1,o2,o3,o4,o5,o6⟩:=ho.e6;have L:=dH;have K:=(kn.cons EI).cons KN
 by_cases h1:(jI ax (x:Rat))=(0:Int)
 · exact rF K [(13,tt)] (.c6 o3 o4 (om (A+64+200<=LIM)) (iT h1) o5 o6 (.a1 (om (B+64+200<=LIM)))) (V:=.bool (decide ((jI az (z:Rat))=(0:Int)))) (Ref.bool (by simp[fW] at h1 ⊢;simp[h1,fW]))
 · exact rF K [(13,ff)] (.a4 o3 o4 (om (A+64+200<=LIM)) (iF h1)) (V:=.bool false) (Ref.bool (by simp[fW] at h1 ⊢;simp[h1]))
def Vd:KF
 | [.int .i64 x,.int .i64 z]=>some (.agg [.q (x:Rat) 64,.q (z:Rat) 64],[(-9223372036854775808:Int)<=x,x<=(9223372036854775807:Int),(-9223372036854775808:Int)<=z,z<=(9223372036854775807:Int)])
 | _=>none
theorem Ui:bO 98 Vd:=by
 refine cJ Tryz.f98 fun _ _ _ S w0 h ho=> ?_
 unfold Vd at h;split at h <;> cases h;rename_i x z;obtain⟨o1,o2,o3,o4⟩:=ho.e4;have K:=kn.cons KN;exact rR K [] (.a4 o1 o2 o3 o4)
def Ko:=((kn.cons Ui).cons OP).cons KN
theorem RefC.list3 {e:Nat} {a b c a' b' c':List AV} {cs:List AV} (h1:RefC a a') (h2:RefC b b') (h3:RefC c c'):RefC (.list e [a,b,c]::cs) (.list e [a',b',c']::cs):=RefC.listW rfl fun i el el' k1 k2=>by
 match i,k1,k2 with
 | 0,k1,k2=>simp at k1 k2;subst k1;subst k2;exact h1
 | 1,k1,k2=>simp at k1 k2;subst k1;subst k2;exact h2
 | 2,k1,k2=>simp at k1 k2;subst k1;subst k2;exact h3
 | i+3,k1,k2=>simp at k1
def cF:MachD:=⟨ByteArray.mk #[119,97,108,107,101,114],[⟨ByteArray.mk #[116,114,117,110,107],-1,⟨0,0⟩,⟨0,0⟩,2,1,0,0,[]⟩,⟨ByteArray.mk #[108,101,103],0,⟨0,0⟩,⟨0,-1⟩,1,1,-1,1,[]⟩,⟨ByteArray.mk #[115,104,105,110],1,⟨0,-2⟩,⟨0,-1⟩,1,1,-1,1,[]⟩],[],[],[],[]⟩
theorem CW {n:ByteArray} {p:Int} {ax az ma ir cx cz lo hi:Rat} {B1 B2 B3 B4 B5 B6 B7 B8:Nat} (h:B1<=300/\B2<=300/\B3<=300/\B4<=300/\B5<=300/\B6<=300/\B7<=300/\B8<=300):RefC [.str n,.i6 p,.q ax B1,.q az B2,.q ma B3,.q ir B4,.q cx B5,.q cz B6,.q lo B7,.q hi B8,.nil] (aH 300 ⟨n,p,⟨ax,az⟩,⟨cx,cz⟩,ma,ir,lo,hi,[]⟩):=
 .tl (.tl (.cons (RefC.q_le h.1) (.cons (RefC.q_le h.2.1) (.cons (RefC.q_le h.2.2.1) (.cons (RefC.q_le h.2.2.2.1) (.cons (RefC.q_le h.2.2.2.2.1) (.cons (RefC.q_le h.2.2.2.2.2.1) (.cons (RefC.q_le h.2.2.2.2.2.2.1) (.cons (RefC.q_le h.2.2.2.2.2.2.2) RefC.nilL)))))))))
def Ve:KF
 | []=>some (.agg (aE 300 cF),[])
 | _=>none
theorem VD:bO 96 Ve:=by
 refine cJ Tryz.f96 fun _ _ _ S w0 h ho=> ?_
 unfold Ve at h;split at h <;> cases h;have v0:(-9223372036854775808:Int)<=0:=by decide
 have v1:0<=(9223372036854775807:Int):=by decide
 have v2:(-9223372036854775808:Int)<=(-1):=by decide
 have v3:(-1)<=(9223372036854775807:Int):=by decide
 refine gN Ko [0] [] (.c6 (dc ((-9223372036854775808:Int)<=1)) (dc (1<=(9223372036854775807:Int))) (dc ((-9223372036854775808:Int)<=2)) (dc (2<=(9223372036854775807:Int))) v0 v1 (.c6 v2 v3 v0 v1 (dc ((-9223372036854775808:Int)<=(-2))) (dc ((-2)<=(9223372036854775807:Int))) (.a4 v0 v1 v2 v3))) (t:=[.code .ret]) (σ:=slots 23 [(0,.ptr 0 6 0 0)]) (h:=[some ⟨41,6,false,[[.str (ByteArray.mk #[119,97,108,107,101,114]),.own 9 27 0 3,.nil,.nil,.nil,.nil]],none⟩,none,some ⟨56,3,false,[[.q (1:Rat) 64]],none⟩,none,none,none,none,none,none,some ⟨114,27,false,[[.str (ByteArray.mk #[116,114,117,110,107]),.i6 (-1:Int),.q 0 0,.q 0 0,.q (2:Rat) 64,.q (1:Rat) 64,.q 0 0,.q 0 0,.q 0 0,.q 0 0,.nil],[.str (ByteArray.mk #[108,101,103]),.i6 (0:Int),.q 0 0,.q 0 0,.q (1:Rat) 64,.q (1:Rat) 64,.q (0:Rat) 64,.q ((-1):Rat) 64,.q (-(1:Rat)) 64,.q (1:Rat) 64,.nil],[.str (ByteArray.mk #[115,104,105,110]),.i6 (1:Int),.q (0:Rat) 64,.q ((-2):Rat) 64,.q (1:Rat) 64,.q (1:Rat) 64,.q (0:Rat) 64,.q ((-1):Rat) 64,.q (-(1:Rat)) 64,.q (1:Rat) 64,.nil]],none⟩]) ?_
 refine Good.freezeD (b:=⟨114,27,false,[[(.str (ByteArray.mk #[116,114,117,110,107])),(.i6 (-1:Int)),(.q 0 0),(.q 0 0),(.q (2:Rat) 64),(.q (1:Rat) 64),(.q 0 0),(.q 0 0),(.q 0 0),(.q 0 0),.nil],[(.str (ByteArray.mk #[108,101,103])),(.i6 (0:Int)),(.q 0 0),(.q 0 0),(.q (1:Rat) 64),(.q (1:Rat) 64),(.q (0:Rat) 64),(.q ((-1):Rat) 64),(.q (-(1:Rat)) 64),(.q (1:Rat) 64),.nil],[(.str (ByteArray.mk #[115,104,105,110])),(.i6 (1:Int)),(.q (0:Rat) 64),(.q ((-2):Rat) 64),(.q (1:Rat) 64),(.q (1:Rat) 64),(.q (0:Rat) 64),(.q ((-1):Rat) 64),(.q (-(1:Rat)) 64),(.q (1:Rat) 64),.nil]],none⟩) 9 (by rfl) (by rfl) .on (.oe (.a1 (dc (0+3<=3)))) ?_;refine gE [(AV.agg [(AV.str (ByteArray.mk #[119,97,108,107,101,114])),(AV.list 27 [[(AV.str (ByteArray.mk #[116,114,117,110,107])),(AV.int .i64 (-1:Int)),(AV.q 0 0),(AV.q 0 0),(AV.q (2:Rat) 64),(AV.q (1:Rat) 64),(AV.q 0 0),(AV.q 0 0),(AV.q 0 0),(AV.q 0 0),AV.nil],[(AV.str (ByteArray.mk #[108,101,103])),(AV.int .i64 (0:Int)),(AV.q 0 0),(AV.q 0 0),(AV.q (1:Rat) 64),(AV.q (1:Rat) 64),(AV.q (0:Rat) 64),(AV.q ((-1):Rat) 64),(AV.q (-(1:Rat)) 64),(AV.q (1:Rat) 64),AV.nil],[(AV.str (ByteArray.mk #[115,104,105,110])),(AV.int .i64 (1:Int)),(AV.q (0:Rat) 64),(AV.q ((-2):Rat) 64),(AV.q (1:Rat) 64),(AV.q (1:Rat) 64),(AV.q (0:Rat) 64),(AV.q ((-1):Rat) 64),(AV.q (-(1:Rat)) 64),(AV.q (1:Rat) 64),AV.nil]]),AV.nil,AV.nil,AV.nil,AV.nil])] ?_
 show Ref (AV.agg [(AV.str (ByteArray.mk #[119,97,108,107,101,114])),(AV.list 27 [[(AV.str (ByteArray.mk #[116,114,117,110,107])),(AV.int .i64 (-1:Int)),(AV.q 0 0),(AV.q 0 0),(AV.q (2:Rat) 64),(AV.q (1:Rat) 64),(AV.q 0 0),(AV.q 0 0),(AV.q 0 0),(AV.q 0 0),AV.nil],[(AV.str (ByteArray.mk #[108,101,103])),(AV.int .i64 (0:Int)),(AV.q 0 0),(AV.q 0 0),(AV.q (1:Rat) 64),(AV.q (1:Rat) 64),(AV.q (0:Rat) 64),(AV.q ((-1):Rat) 64),(AV.q (-(1:Rat)) 64),(AV.q (1:Rat) 64),AV.nil],[(AV.str (ByteArray.mk #[115,104,105,110])),(AV.int .i64 (1:Int)),(AV.q (0:Rat) 64),(AV.q ((-2):Rat) 64),(AV.q (1:Rat) 64),(AV.q (1:Rat) 64),(AV.q (0:Rat) 64),(AV.q ((-1):Rat) 64),(AV.q (-(1:Rat)) 64),(AV.q (1:Rat) 64),AV.nil]]),AV.nil,AV.nil,AV.nil,AV.nil]) (.agg (aE 300 cF));exact Ref.agg (RefC.tl (RefC.cons (RefC.list3 (CW (by decide)) (CW (by decide)) (CW (by decide))) (RefC.cons RefC.nilL (RefC.cons RefC.nilL (RefC.cons RefC.nilL RefC.nilL)))))
def Kp:=(kn.cons Ui).cons KN
def Vf:KF
 | [.int .i64 x,.int .i64 z]=>some (.agg [.q 0 64,.q 4 64,.q 0 0,.list 3 [[.q (x:Rat) 64],[.q (z:Rat) 64]]],[(-9223372036854775808:Int)<=x,x<=(9223372036854775807:Int),(-9223372036854775808:Int)<=z,z<=(9223372036854775807:Int)])
 | _=>none
theorem VE:bO 97 Vf:=by
 refine cJ Tryz.f97 fun _ _ _ S w0 h ho=> ?_
 unfold Vf at h;split at h <;> cases h;rename_i x z;obtain⟨o1,o2,o3,o4⟩:=ho.e4;refine gN Kp [4] [] (.c6 (dc ((-9223372036854775808:Int)<=0)) (dc (0<=(9223372036854775807:Int))) (dc ((-9223372036854775808:Int)<=4)) (dc (4<=(9223372036854775807:Int))) o1 o2 (.a2 o3 o4)) (t:=[.code .ret]) (σ:=slots 12 [(4,.ptr 0 10 0 0)]) (h:=[some ⟨61,10,false,[[.q (0:Rat) 64,.q (4:Rat) 64,.q 0 0,.own 4 3 0 2]],none⟩,none,none,none,some ⟨56,3,false,[[.q (x:Rat) 64],[.q (z:Rat) 64]],none⟩]) ?_
 refine Good.freezeD (b:=⟨56,3,false,[[(.q (x:Rat) 64)],[(.q (z:Rat) 64)]],none⟩) 4 (by rfl) (by rfl) .on (.oe (.a1 (dc (0+2<=2)))) ?_;refine gE [(AV.agg [(AV.q (0:Rat) 64),(AV.q (4:Rat) 64),(AV.q 0 0),(AV.list 3 [[(AV.q (x:Rat) 64)],[(AV.q (z:Rat) 64)]])])] ?_;show Ref (AV.agg [(AV.q (0:Rat) 64),(AV.q (4:Rat) 64),(AV.q 0 0),(AV.list 3 [[(AV.q (x:Rat) 64)],[(AV.q (z:Rat) 64)]])]) (.agg [.q 0 64,.q 4 64,.q 0 0,.list 3 [[.q (x:Rat) 64],[.q (z:Rat) 64]]]);exact rr
deriving instance DecidableEq for PtD,Sd,BendD
abbrev lC (a b:Rat):PoseD:=⟨⟨0,4⟩,0,[a,b]⟩
theorem RC (a:Rat) (x z:Rat) (h1:bZ cF 2 2=0) (h2:jL cF (lC a 0) 2 ⟨(0:Rat),(-2:Rat)⟩=⟨x,z⟩):Ref (.tup [.agg [.q (jL cF (lC a 0) 2 ⟨(0:Rat),(-2:Rat)⟩).x (4*SZ 64+64+64+8),.q (jL cF (lC a 0) 2 ⟨(0:Rat),(-2:Rat)⟩).z (4*SZ 64+64+64+8)],.i6 (bZ cF 2 2)]) (.tup [.agg [.q x 24008,.q z 24008],.i6 0]):=Ref.eq (by rw[h1,h2];rfl)
theorem Uj:Ref (.tup [.agg [.q (mM cF (lC 0 0)).x (32*SZ 64+26656),.q (mM cF (lC 0 0)).z (32*SZ 64+26656)],.i6 (bJ cF 2)]) (.tup [.agg [.q 0 217632,.q 3 217632],.i6 0]):=Ref.eq (by rw[show mM cF (lC 0 0)=⟨0,3⟩ from by decide+kernel,show bJ cF 2=0 from by decide+kernel];rfl)
theorem Uk:Ref (.tup [.list 19 ((xL cF (lC 0 0) 2 ⟨(0:Rat),(-2:Rat)⟩ ⟨(2:Rat),(2:Rat)⟩).map (cR (DM 64 64 (lX 64 64 64) (lX 64 64 64)) (DN 64 64 (lX 64 64 64) (lX 64 64 64)) (DO 64 64 (lX 64 64 64) (lX 64 64 64)) (bT 64 64 (lX 64 64 64) (lX 64 64 64)))),.i6 (pN cF (lC 0 0) 2 ⟨(0:Rat),(-2:Rat)⟩ ⟨(2:Rat),(2:Rat)⟩)]) (.tup [.list 19 [[.q 1 18904124229,.q 0 9452927697,.q 0 3462331,.q (-1) 1731164,.q 0 1731164,.q 0 1731164,.bool true],[.q (0:Rat) 18904124229,.q 0 9452927697,.q 0 3462331,.q 1 1731164,.q 0 1731164,.q 0 1731164,.bool true]],.i6 0]):=Ref.eq (by rw[show xL cF (lC 0 0) 2 ⟨(0:Rat),(-2:Rat)⟩ ⟨(2:Rat),(2:Rat)⟩= [⟨⟨1,0,0⟩,⟨-1,0,0⟩,true⟩,⟨⟨0,0,0⟩,⟨1,0,0⟩,true⟩] from by decide+kernel,show pN cF (lC 0 0) 2 ⟨(0:Rat),(-2:Rat)⟩ ⟨(2:Rat),(2:Rat)⟩=0 from by decide+kernel];rfl)
def Vg:KF
 | []=>some (.bool true,[])
 | _=>none
abbrev zL:List AV:=[.str (cF.name),.list 27 (cF.bodies.map (aH 300)),.list 17 (cF.springs.map (aN 300)),.list 17 (cF.tendons.map (aN 300)),.list 13 (cF.motors.map (aV 300)),.list 5 (cF.feet.map (bH 300))]
abbrev sD:=(aG [(AV.str (cF.name)),(AV.list 27 (cF.bodies.map (aH 300))),(AV.list 17 (cF.springs.map (aN 300))),(AV.list 17 (cF.tendons.map (aN 300))),(AV.list 13 (cF.motors.map (aV 300))),(AV.list 5 (cF.feet.map (bH 300)))])
theorem VF:bO 22 Vg:=by
 refine cJ Tryz.f22 fun _ _ _ S w0 h ho=> ?_
 unfold Vg at h;split at h <;> cases h;have K:=(((((((((kn.cons AT).cons EI).cons KN).cons VC).cons Vz).cons VB).cons Vu).cons Ui).cons VE).cons VD;have v0:(zL)=aE 300 (aG (zL)):=by rfl
 have v1:(sD).bodies.length<=8:=by decide+kernel
 have v2:(-9223372036854775808:Int)<=0:=by decide
 have v3:0<=(9223372036854775807:Int):=by decide
 have v4:Ref (.list 3 [[.q (0:Rat) 64],[.q (0:Rat) 64]]) (.list 3 (([[(AV.q (0:Rat) 64)],[(AV.q (0:Rat) 64)]].map gX).map (dU 64))):=rr;have v5: [[(AV.q (0:Rat) 64)],[(AV.q (0:Rat) 64)]].length<=4611686018427387904:=by decide+kernel
 have v6:24008+300<=LIM:=by decide+kernel
 have v7:(-9223372036854775808:Int)<=(-2):=by decide+kernel
 have v8:(-2)<=(9223372036854775807:Int):=by decide+kernel
 have v9:64<=100000:=by decide
 have v10:64<=64:=by decide
 have v11:8*SZ 64+2*64+2*64+400<=LIM:=by decide+kernel
 have v12:0<=64:=by decide
 have v13:0<=(0:Int):=by decide
 have v14:(0:Int)<2:=by decide
 have v15:(-9223372036854775808:Int)<=1:=by decide
 have v16:(-9223372036854775808:Int)<=2:=by decide
 have v17:(-9223372036854775808:Int)<=4:=by decide
 have v18:1<=(9223372036854775807:Int):=by decide
 have v19:2<=(9223372036854775807:Int):=by decide
 have v20:4<=(9223372036854775807:Int):=by decide
 have v21:217632+300<=LIM:=by decide+kernel
 exact rR K [(10,.agg (zL)),(15,.tup [.agg [.q 0 24008,.q 0 24008],.i6 (0:Int)]),(22,.tup [.agg [.q 4 24008,.q 4 24008],.i6 (0:Int)]),(28,.tup [.agg [.q 0 217632,.q 3 217632],.i6 (0:Int)]),(36,.tup [.list 19 [[.q 1 18904124229,.q 0 9452927697,.q 0 3462331,.q (-1) 1731164,.q 0 1731164,.q 0 1731164,.bool true],[.q (0:Rat) 18904124229,.q 0 9452927697,.q 0 3462331,.q 1 1731164,.q 0 1731164,.q 0 1731164,.bool true]],.i6 (0:Int)]),(55,tt),(59,tt),(63,tt),(83,.i6 (0:Int)),(93,.i6 (0:Int)),(102,.i6 (0:Int))] (.c6 (show Ref (.agg (aE 300 cF)) (.agg (zL)) from rr) v2 v3 v2 v3 v2 (.c6 v3 v7 v8 (show Ref (.tup [.agg [.q ((jL (sD) ⟨⟨0,4⟩,0,[[(AV.q (0:Rat) 64)],[(AV.q (0:Rat) 64)]].map gX⟩ 2 ⟨(0:Rat),((-2):Rat)⟩).x) (4*SZ 64+64+64+8),.q ((jL (sD) ⟨⟨0,4⟩,0,[[(AV.q (0:Rat) 64)],[(AV.q (0:Rat) 64)]].map gX⟩ 2 ⟨(0:Rat),((-2):Rat)⟩).z) (4*SZ 64+64+64+8)],.i6 (bZ (aG (zL)) [[(AV.q (0:Rat) 64)],[(AV.q (0:Rat) 64)]].length 2)]) (.tup [.agg [.q 0 24008,.q 0 24008],.i6 (0:Int)]) from RC 0 0 0 (by decide+kernel) (by decide+kernel)) v0 (show(sD).small by(refine⟨?_, ?_, ?_, ?_, ?_⟩ <;> decide+kernel)) (.c6 v1 v10 v12 v9 v4 v5 (.c6 v11 v15 v18 v2 v3 v2 (.c6 v3 v7 v8 (show Ref (.tup [.agg [.q ((jL (sD) ⟨⟨0,4⟩,0,[[(AV.q (1:Rat) 64)],[(AV.q (0:Rat) 64)]].map gX⟩ 2 ⟨(0:Rat),((-2):Rat)⟩).x) (4*SZ 64+64+64+8),.q ((jL (sD) ⟨⟨0,4⟩,0,[[(AV.q (1:Rat) 64)],[(AV.q (0:Rat) 64)]].map gX⟩ 2 ⟨(0:Rat),((-2):Rat)⟩).z) (4*SZ 64+64+64+8)],.i6 (bZ (aG (zL)) [[(AV.q (1:Rat) 64)],[(AV.q (0:Rat) 64)]].length 2)]) (.tup [.agg [.q 4 24008,.q 4 24008],.i6 (0:Int)]) from RC 1 4 4 (by decide+kernel) (by decide+kernel)) v0 (show(sD).small by(refine⟨?_, ?_, ?_, ?_, ?_⟩ <;> decide+kernel)) (.c6 v1 v10 v12 v9 (show Ref (.list 3 [[.q (1:Rat) 64],[.q (0:Rat) 64]]) (.list 3 (([[(AV.q (1:Rat) 64)],[(AV.q (0:Rat) 64)]].map gX).map (dU 64))) from rr) (show [[(AV.q (1:Rat) 64)],[(AV.q (0:Rat) 64)]].length<=4611686018427387904 by decide+kernel) (.c6 v11 v2 v3 v2 v3 Uj (.c6 v0 (show(sD).small by(refine⟨?_, ?_, ?_, ?_, ?_⟩ <;> decide+kernel)) v1 v10 v12 v9 (.c6 v4 v5 v2 v3 v2 v3 (.c6 v2 v3 v7 v8 v16 v19 (.c6 v16 v19 Uk v0 (show(sD).small by(refine⟨?_, ?_, ?_, ?_, ?_⟩ <;> decide+kernel)) v1 (.c6 v10 v12 v9 v4 v5 (show 8*DM 64 64 (lX 64 64 64) (lX 64 64 64)+8*DN 64 64 (lX 64 64 64) (lX 64 64 64)+4*DO 64 64 (lX 64 64 64) (lX 64 64 64)+400*bT 64 64 (lX 64 64 64) (lX 64 64 64)+20000<=LIM by decide+kernel) (.c6 (show 64+64+20*SZ 64+20000<=LIM by decide+kernel) (show Ref (.bool (decide (0=(0:Rat)/\0=(0:Rat)))) (.bool true) from Ref.bool (by decide+kernel)) v6 v6 v2 v3 (.c6 v2 v3 (show Ref (.bool (decide (4=(4:Rat)/\4=(4:Rat)))) (.bool true) from Ref.bool (by decide+kernel)) v6 v6 v17 (.c6 v20 v17 v20 (show Ref (.bool (decide (0=(0:Rat)/\3=(3:Rat)))) (.bool true) from Ref.bool (by decide+kernel)) v21 v21 (.c6 v2 v3 (dc ((-9223372036854775808:Int)<=3)) (dc (3<=(9223372036854775807:Int))) v13 v14 (.c6 v13 v14 v15 v18 (show Ref (.i6 (jI 1 (1:Rat))) (.i6 (0:Int)) from Ref.eq (congrArg _ (by decide+kernel))) (show 18904124229+64+200<=LIM by decide+kernel) (.c6 v13 v14 (show(-9223372036854775808:Int)<=(-1) by decide+kernel) (show(-1)<=(9223372036854775807:Int) by decide+kernel) (show Ref (.i6 (jI (-1) ((-1):Rat))) (.i6 (0:Int)) from Ref.eq (congrArg _ (by decide+kernel))) (show 1731164+64+200<=LIM by decide+kernel) (.a3 (dc (0<=(1:Int))) (dc ((1:Int)<2)) (show Ref (.i6 (Int.sign (0:Rat).num)) (.i6 (0:Int)) from Ref.eq (congrArg _ (by decide+kernel))))))))))))))))))))))
def Vh:KF
 | [.agg [.str mn,.list 27 XB,.list 17 XS,.list 17 XT,.list 13 XD,.list 5 XF],.agg [.q ax A1,.q az A2,.q tu A3,.list 3 J]]=>some (.int .i64 (bJ (aG [AV.str mn,AV.list 27 XB,AV.list 17 XS,AV.list 17 XT,AV.list 13 XD,AV.list 5 XF]) J.length),[[AV.str mn,AV.list 27 XB,AV.list 17 XS,AV.list 17 XT,AV.list 13 XD,AV.list 5 XF]=aE 300 (aG [AV.str mn,AV.list 27 XB,AV.list 17 XS,AV.list 17 XT,AV.list 13 XD,AV.list 5 XF]),(aG [AV.str mn,AV.list 27 XB,AV.list 17 XS,AV.list 17 XT,AV.list 13 XD,AV.list 5 XF]).small,J.length<=4611686018427387904,XB.length<=4611686018427387904])
 | _=>none
theorem VG:bO 49 Vh:=by
 refine cJ Tryz.f49 fun _ _ _ S w0 h ho=> ?_
 unfold Vh at h;split at h <;> cases h;rename_i mn XB XS XT XD XF ax A1 az A2 tu A3 J;obtain⟨o1,o2,o3,o4⟩:=ho.e4;have K:=kn.cons PL;have hb:((aG [AV.str mn,AV.list 27 XB,AV.list 17 XS,AV.list 17 XT,AV.list 13 XD,AV.list 5 XF]).bodies.length:Int)=((XB.length:Nat):Int):=by simp[aG]
 by_cases h1:(iP (aG [(AV.str mn),(AV.list 27 XB),(AV.list 17 XS),(AV.list 17 XT),(AV.list 13 XD),(AV.list 5 XF)]))=(0:Int)
 · by_cases h2:((J.length:Nat):Int)=(((XB.length:Nat):Int)-(1:Int))
   · exact rF K [(10,tt),(17,.i6 ((XB.length:Int)-(1:Int))),(19,ff)] (.a5 o1 o2 (iT h1) (wI ((XB.length:Int)-(1:Int)) ((XB.length:Int)-(1:Int)) (by first | assumption | omega)) (jF h2)) (V:=.i6 (iP (aG [.str mn,.list 27 XB,.list 17 XS,.list 17 XT,.list 13 XD,.list 5 XF]))) (Ref.int (by unfold bJ;rw[if_pos h1,hb,if_pos h2];exact h1))
   · exact rF K [(10,tt),(17,.i6 ((XB.length:Int)-(1:Int))),(19,tt)] (.a5 o1 o2 (iT h1) (wI ((XB.length:Int)-(1:Int)) ((XB.length:Int)-(1:Int)) (by first | assumption | omega)) (jT h2)) (V:=.i6 (2:Int)) (Ref.int (by unfold bJ;rw[if_pos h1,hb,if_neg h2]))
 · exact rF K [(10,ff)] (.a3 o1 o2 (iF h1)) (V:=.i6 (iP (aG [.str mn,.list 27 XB,.list 17 XS,.list 17 XT,.list 13 XD,.list 5 XF]))) (Ref.int (by unfold bJ;rw[if_neg h1]))
def Vi:KF
 | [.agg M,.agg [.q ax jb,.q az A2,.q tu A3,.list 3 J],.int .i64 b]=>some (.int .i64 (dP (aG M) J.length b),[M=aE 300 (aG M),(aG M).small,(aG M).bodies.length<=8,A2<=jb,A3<=jb,jb<=100000,Ref (.list 3 J) (.list 3 ((J.map gX).map (dU jb))),J.length<=4611686018427387904])
 | _=>none
theorem VH:bO 39 Vi:=by
 refine cJ Tryz.f39 fun _ _ _ S w0 h ho=> ?_
 unfold Vi at h;split at h <;> cases h;rename_i M ax jb az A2 tu A3 J b;obtain⟨o1,o2,o3,o4,o5,o6,o7,o8⟩:=ho.e8;have K:=(kn.cons VG).cons ER;generalize hm:aG M=m at*;subst o1;clear hm;obtain⟨p,hp⟩:∃ p:PoseD,p=⟨⟨ax,az⟩,tu,J.map gX⟩:=⟨_,rfl⟩;have hpj:p.joints.length=J.length:=by rw[hp];simp
 try rw[<- hp]
 try rw[<- hpj]
 refine Good.weak 40 [(0,.agg (aE 300 m)),(1,.agg (bB jb p)),(2,.i6 b)] (by kernel_rfl) (.r (.cons (by rw[hp];exact Ref.pose o4 o5 o7) (.r .nil))) ?_;clear hp;have s1:aE 300 m=aE 300 (aG (aE 300 m)):=by rw[aW]
 have s2:(aG (aE 300 m)).small:=by rw[aW];exact o2
 have s3:(aG (aE 300 m)).bodies.length<=8:=by rw[aW];exact o3
 have s4:Ref (.list 3 (p.joints.map (dU jb))) (.list 3 (((p.joints.map (dU jb)).map gX).map (dU jb))):=Ref.eq (by rw[jK]);have s5:(p.joints.map (dU jb)).length<=4611686018427387904:=by rw[bM,hpj];exact o8
 have s7:SZ jb<=153753600:=by unfold SZ;omega
 have s8:LIM=17592186044416:=rfl;obtain⟨v,hv⟩:∃ v,v=jS m b:=⟨_,rfl⟩;have hbl:m.bodies.length<=8:=by rw[aW] at s3;exact s3
 have v0:Ref (.i6 (bJ (aG (aE 300 m)) (p.joints.map (dU jb)).length)) (.i6 (bJ m p.joints.length)):=by exact Ref.int (by rw[bM];exact congrArg (fun x=>bJ x p.joints.length) (aW m))
 have v1:(m.bodies.map (aH 300)).length<=4611686018427387904:=by simp only[bM] at*;omega
 by_cases h1:(bJ m p.joints.length)=(0:Int)
 · by_cases h2:b<(0:Int)
   · refine rF K [(10,.i6 (bJ m p.joints.length)),(13,tt),(16,tt)] (.c6 v0 s1 s2 s5 v1 (iT h1) (.a1 (iT h2))) (V:=.i6 (3:Int)) ?_
     have w:bZ m p.joints.length b=3:=by unfold bZ;rw[if_pos h1,if_neg (by simp only[bM] at*;omega)]
     exact Ref.int (by unfold dP;rw[w];rfl)
   · by_cases h3:(((m.bodies.map (aH 300)).length:Nat):Int)<=b
     · refine rF K [(10,.i6 (bJ m p.joints.length)),(13,tt),(16,ff),(23,tt)] (.c6 v0 s1 s2 s5 v1 (iT h1) (.a2 (iF h2) (iT h3))) (V:=.i6 (3:Int)) ?_
       have w:bZ m p.joints.length b=3:=by unfold bZ;rw[if_pos h1,if_neg (by simp only[bM] at*;omega)]
       exact Ref.int (by unfold dP;rw[w];rfl)
     · by_cases h4:b=(0:Int)
       · refine rF K [(10,.i6 (bJ m p.joints.length)),(13,tt),(16,ff),(23,ff),(26,tt),(29,tt)] (.c6 v0 s1 s2 s5 v1 (iT h1) (.a4 (iF h2) (iF h3) (iT h1) (iT h4))) (V:=.i6 (2:Int)) ?_
         have w:bZ m p.joints.length b=0:=by unfold bZ;rw[if_pos h1,if_pos (by simp only[bM] at*;omega)]
         exact Ref.int (by unfold dP;rw[w,if_pos rfl,if_pos (.inl h4)])
       · have v2:Ref (.cptr ((m.bodies.map (aH 300)).getD b.toNat []) 0) (.cptr (aH 300 v) 0):=by rw[hv];exact Ref.cmap (by simp only[bM] at*;omega)
         have v3:b<((m.bodies.map (aH 300)).length:Int):=by simp only[bM] at*;omega
         have v4:0<=b:=by simp only[bM] at*;omega
         by_cases h5:v.par=(0:Int)
         · refine rF K [(10,.i6 (bJ m p.joints.length)),(13,tt),(16,ff),(23,ff),(26,tt),(29,ff),(33,.cptr (aH 300 v) 0),(38,tt)] (.c6 v0 s1 s2 s5 v1 (iT h1) (.c6 (iF h2) (iF h3) (iT h1) (iF h4) v2 v4 (.a2 v3 (iT h5)))) (V:=.i6 (2:Int)) ?_
           have w:bZ m p.joints.length b=0:=by unfold bZ;rw[if_pos h1,if_pos (by simp only[bM] at*;omega)]
           exact Ref.int (by unfold dP;rw[w,if_pos rfl,if_pos (.inr (by rw[<- hv];exact h5))])
         · refine rF K [(10,.i6 (bJ m p.joints.length)),(13,tt),(16,ff),(23,ff),(26,tt),(29,ff),(33,.cptr (aH 300 v) 0),(38,ff)] (.c6 v0 s1 s2 s5 v1 (iT h1) (.c6 (iF h2) (iF h3) (iT h1) (iF h4) v2 v4 (.a2 v3 (iF h5)))) (V:=.i6 (bJ m p.joints.length)) ?_
           have w:bZ m p.joints.length b=0:=by unfold bZ;rw[if_pos h1,if_pos (by simp only[bM] at*;omega)]
           exact Ref.int (by unfold dP;rw[w,if_pos rfl,if_neg (by rw[<- hv];exact fun h=>h.elim h4 h5)];exact h1)
 · refine rF K [(10,.i6 (bJ m p.joints.length)),(13,ff),(26,ff)] (.c6 v0 s1 s2 s5 v1 (iF h1) (.a1 (iF h1))) (V:=.i6 (bJ m p.joints.length)) ?_
   have w:bZ m p.joints.length b=bJ m p.joints.length:=by unfold bZ;rw[if_neg h1]
   exact Ref.int (by unfold dP;rw[w,if_neg h1])
def Vj:KF
 | [.agg [.int .i64 xa1,.int .i64 xa2,.int .u8 xa3,.int .i64 xb1,.int .i64 xb2,.int .u8 xb3,.int .i64 xd1,.int .i64 xd2,.int .u8 xd3,.int .i64 yc1,.int .i64 yc2,.int .u8 yc3,.int .i64 ye1,.int .i64 ye2,.int .u8 ye3,.int .i64 yf1,.int .i64 yf2,.int .u8 yf3]]=>some (.tup [.agg [.q (fB xa1 xa2 xa3) 300,.q (fB xb1 xb2 xb3) 300,.q (fB xd1 xd2 xd3) 300,.q (fB yc1 yc2 yc3) 300,.q (fB ye1 ye2 ye3) 300,.q (fB yf1 yf2 yf3) 300,.bool false],.agg [.rq (fB xa1 xa2 xa3) (fB xa1 xa2 xa3).den 300,.rq (fB xb1 xb2 xb3) (fB xb1 xb2 xb3).den 300,.rq (fB xd1 xd2 xd3) (fB xd1 xd2 xd3).den 300,.rq (fB yc1 yc2 yc3) (fB yc1 yc2 yc3).den 300,.rq (fB ye1 ye2 ye3) (fB ye1 ye2 ye3).den 300,.rq (fB yf1 yf2 yf3) (fB yf1 yf2 yf3).den 300,.bool false]],[Du xa1 xa2 xa3,Du xb1 xb2 xb3,Du xd1 xd2 xd3,Du yc1 yc2 yc3,Du ye1 ye2 ye3,Du yf1 yf2 yf3])
 | _=>none
theorem VI:bO 44 Vj:=by
 refine cJ Tryz.f44 fun _ _ _ S w0 h ho=> ?_
 unfold Vj at h;split at h <;> cases h;rename_i xa1 xa2 xa3 xb1 xb2 xb3 xd1 xd2 xd3 yc1 yc2 yc3 ye1 ye2 ye3 yf1 yf2 yf3;obtain⟨o1,o2,o3,o4,o5,o6⟩:=ho.e6;have K:=kn.cons OV;exact rR K [] (.a6 o1 o2 o3 o4 o5 o6)
theorem Lc (x y:Rat):fJ (x.num*(y.den:Int)) (y.num*(x.den:Int))=0↔x=y:=by
 rw[lR];constructor
 · intro h
   have h1:= @Rat.divInt_eq_divInt_iff (x.den:Int) (y.den:Int) x.num y.num (by have:=x.den_nz;omega) (by have:=y.den_nz;omega);rw[<- Rat.num_divInt_den x, <- Rat.num_divInt_den y];exact h1.2 h
 · intro h;subst h;rfl
def Vk:KF
 | [.agg [.rq x d B],.agg [.rq y e C]]=>some (.int .i64 (fJ (x.num*(y.den:Int)) (y.num*(x.den:Int))),[max B 64+max C 64+B+C+300<=LIM])
 | _=>none
theorem VJ:bO 46 Vk:=by
 refine cJ Tryz.f46 fun _ _ _ S w0 h ho=> ?_
 unfold Vk at h;split at h <;> cases h;rename_i x d B y e C;have o1:=ho.one;have L:=dH;have K:=((kn.cons Kk).cons CE).cons tO;exact rR K [] (.a2 (om (B+(max C 64)+128<=LIM)) (om (C+(max B 64)+128<=LIM)))
def xO:=kn
def qI (ds:List Nat) (i:Nat):List Nat:=(List.range ds.length).map fun k=>if k<i\/ds.length-i<=k then ds.getD (ds.length-1-k) 0 else ds.getD k 0
theorem kX (ds:List Nat) (i:Nat):(qI ds i).length=ds.length:=by simp[qI]
theorem pD {ds:List Nat} {i k:Nat} (h:k<ds.length):(qI ds i).getD k 0=if k<i\/ds.length-i<=k then ds.getD (ds.length-1-k) 0 else ds.getD k 0:=by
 unfold qI;rw[nG,List.getElem?_map,List.getElem?_range h];rfl
theorem MT {xs ys:List Nat} (hl:xs.length=ys.length) (h:∀ k,k<xs.length->xs.getD k 0=ys.getD k 0):xs=ys:=by
 refine List.ext_getElem hl fun k h1 h2=> ?_
 have:=h k h1
 rwa [nG,nG,List.getElem?_eq_getElem h1,List.getElem?_eq_getElem h2] at this
theorem HY (ds:List Nat):qI ds 0=ds:=by
 refine MT (kX ds 0) fun k hk=> ?_
 rw[kX] at hk;rw[pD hk,if_neg (by omega)]
theorem Kq {ds:List Nat} {i:Nat} (h:ds.length<=2*i+1):qI ds i=ds.reverse:=by
 refine MT (by rw[kX,List.length_reverse]) fun k hk=> ?_
 rw[kX] at hk;rw[pD hk,nG,nG,nG,List.getElem?_reverse hk]
 split
 · rfl
 · rw[show ds.length-1-k=k by omega]
theorem HZ {ds:List Nat} {i:Nat} (h:2*i+1<ds.length):((qI ds i).set i ((qI ds i).getD (ds.length-1-i) 0)).set (ds.length-1-i) ((qI ds i).getD i 0)=qI ds (i+1):=by
 have g1:(qI ds i).getD i 0=ds.getD i 0:=by rw[pD (by omega),if_neg (by omega)]
 have g2:(qI ds i).getD (ds.length-1-i) 0=ds.getD (ds.length-1-i) 0:=by rw[pD (by omega),if_neg (by omega)]
 rw[g1,g2];refine MT (by simp[kX]) fun k hk=> ?_
 simp only[List.length_set,kX] at hk;rw[pD hk];simp only[nG,List.getElem?_set,List.length_set,kX]
 by_cases e1:ds.length-1-i=k
 · rw[if_pos e1,if_pos (by omega),if_pos (by omega),show ds.length-1-k=i by omega];simp[show i<ds.length by omega]
 · rw[if_neg e1]
   by_cases e2:i=k
   · rw[if_pos e2,if_pos (by omega),if_pos (by omega), <- e2];rfl
   · rw[if_neg e2]
     have:=pD (ds:=ds) (i:=i) hk;rw[nG] at this;rw[this];simp only[nG]
     by_cases e3:k<i\/ds.length-i<=k
     · rw[if_pos e3,if_pos (by omega)]
     · rw[if_neg e3,if_neg (by omega)]
def RD:List AV->List ABlk->Option (AV×List (Option ABlk)×List Prop)
 | [.own 0 1 0 m],[⟨5,1,true,D,none⟩]=>some (.tup [],[some ⟨5,1,true,d8 (Hw D).reverse,none⟩],[D=d8 (Hw D),m=(Hw D).length,m<=4611686018427387904,0<m])
 | _,_=>none
section
variable {S:Nat->Prop} {w0:World} {ρ:Nat->Nat}
noncomputable abbrev Kr:List Item:=[.code (aR [1,0,0] (aA Tryz.f250)),.inLoop (aR [1,0,0] (aA Tryz.f250)),.inBlock 0]
theorem Ks (hq:ρ 0<w0.heap.size) {ds:List Nat} {m:Nat} (hm:m=ds.length) (hmL:m<=4611686018427387904):∀ (j i:Nat),i+j+1=m->
   Good Tryz.prog 250 S (fun k=>∃ l,l<1/\k=ρ l) w0 (yL S w0 ρ 1 (.tup []) [some ⟨5,1,true,d8 ds.reverse,none⟩]) Kr
     ⟨slots 28 [(0,.own 0 1 0 m),(2,.i6 ((i:Nat):Int)),(3,.i6 ((j:Nat):Int))],[some ⟨5,1,true,d8 (qI ds i),(some (ρ 0))⟩]⟩:=by
 have fin:∀ (i j:Nat),i+j+1=m->¬ ((i:Nat):Int)<((j:Nat):Int)->Good Tryz.prog 250 S (fun k=>∃ l,l<1/\k=ρ l) w0 (yL S w0 ρ 1 (.tup []) [some ⟨5,1,true,d8 ds.reverse,none⟩]) Kr
     ⟨slots 28 [(0,.own 0 1 0 m),(2,.i6 ((i:Nat):Int)),(3,.i6 ((j:Nat):Int))],[some ⟨5,1,true,d8 (qI ds i),(some (ρ 0))⟩]⟩:=fun i j hij h=>by
   refine gN xO [0,2,3] [(9,ff)] (.a1 (iF h)) (t:=[]) (σ:=slots 28 [(0,.own 0 1 0 m),(2,.i6 (i:Int)),(3,.i6 (j:Int))]) (h:=[some ⟨5,1,true,(d8 (qI ds i)),(some (ρ 0))⟩]) ?_
   rw[Kq (by omega)]
   exact oS aX (fn:=Tryz.f250) (by kernel_rfl) (.inl rfl) (Vs:=[]) (by kernel_rfl) (by rfl) (by rfl)
     (fun | 0,_=>⟨_,rfl,rfl⟩ | l+1,hl=>absurd hl (by omega)) (fun | 0,_=>hq | l+1,hl=>absurd hl (by omega)) rr
 intro j
 induction j with
 | zero=>exact fun i hij=>fin i 0 hij (by omega)
 | succ j ih=>
   intro i hij
   by_cases h:((i:Nat):Int)<((j+1:Nat):Int)
   · have hl:=kX ds i
     have k1:j+1<(qI ds i).length:=by rw[hl];omega
     have k2:i<(qI ds i).length:=by rw[hl];omega
     have v0:0+i<(d8 (qI ds i)).length:=by rw[gY];omega
     have v1:(((j+1):Nat):Int)<(m:Int):=by omega
     refine gN xO [0,2,3] [(9,tt),(21,.int .u8 ((((qI ds i).getD (j+1) 0):Nat):Int)),(25,.int .u8 ((((qI ds i).getD i 0):Nat):Int)),(11,.i6 ((i+1:Nat):Int)),(13,.i6 ((((j+1):Nat):Int)-(1:Int)))] (.c6 (iT h) (nn (j+1)) v1 (show Ref (((d8 (qI ds i)).getD (0+(j+1)) []).headD .any) (.int .u8 ((((qI ds i).getD (j+1) 0):Nat):Int)) from Ref.eq (by rw[Nat.zero_add,Hx k1])) (show 0+(j+1)<(d8 (qI ds i)).length by rw[gY];omega) (nn i) (.c6 (om ((i:Int)<(m:Int))) (show Ref (((d8 (qI ds i)).getD (0+i) []).headD .any) (.int .u8 ((((qI ds i).getD i 0):Nat):Int)) from Ref.eq (by rw[Nat.zero_add,Hx k2])) v0 (nn i) (om ((i:Int)<(m:Int))) v0 (.a5 (nn (j+1)) v1 (show 0+(j+1)<((d8 (qI ds i)).set (0+i) [(AV.int .u8 ((((qI ds i).getD (j+1) 0):Nat):Int))]).length by rw[List.length_set,gY];omega) (wI ((i:Int)+(1:Int)) ((i+1:Nat):Int)) (wI ((((j+1):Nat):Int)-(1:Int)) ((((j+1):Nat):Int)-(1:Int)))))) (t:=Kr) (σ:=slots 28 [(0,.own 0 1 0 m),(2,.i6 ((i+1:Nat):Int)),(3,(.i6 ((((j+1):Nat):Int)-(1:Int))))]) (h:=[some ⟨5,1,true,(((d8 (qI ds i)).set (0+i) [(AV.int .u8 ((((qI ds i).getD (j+1) 0):Nat):Int))]).set (0+(j+1)) [.int .u8 ((((qI ds i).getD i 0):Nat):Int)]),(some (ρ 0))⟩]) ?_
     rw[Nat.zero_add,Nat.zero_add,Hy,Hy]
     have:=HZ (ds:=ds) (i:=i) (by omega);rw[show ds.length-1-i=j+1 by omega] at this;rw[this];have e:((j+1:Nat):Int)-(1:Int)=((j:Nat):Int):=by omega
     rw[e];exact ih (i+1) (by omega)
   · exact fin i (j+1) hij h
end
theorem RE (args:List AV) (b:List ABlk) (r:AV) (h2:List (Option ABlk)) (ob:List Prop) (h:RD args b=some (r,h2,ob)) (ho:AllP ob):qN Tryz.prog 250 args b r h2:=by
 unfold RD at h
 split at h
 · rename_i m D
   cases h;have o1:D=d8 (Hw D):=ho _ (by simp);have o2:m=(Hw D).length:=ho _ (by simp);have o3:m<=4611686018427387904:=ho _ (by simp);have o4:0<m:=ho _ (by simp);generalize Hw D=ds at*;subst o1;refine qV (fn:=Tryz.f250) (c:=aA Tryz.f250) (by kernel_rfl) (by kernel_rfl) (by kernel_rfl) (by simp) fun S w0 ρ hρ=> ?_
   have e2:(kY [AV.own 0 1 0 m] Tryz.f250.ntmps).σ=slots 28 [(0,.own 0 1 0 m)]:=by kernel_rfl
   show Good _ _ _ _ _ _ _ ⟨(kY [AV.own 0 1 0 m] Tryz.f250.ntmps).σ,pU ρ 0 _⟩;rw[e2];refine gN xO [0,2,3] [(6,.i6 ((m:Int)-(1:Int)))] (.a1 (wI ((m:Int)-(1:Int)) ((m:Int)-(1:Int)))) (t:=Kr) (σ:=slots 28 [(0,.own 0 1 0 m),(2,.i6 (0:Int)),(3,.i6 ((m:Int)-(1:Int)))]) (h:=[some ⟨5,1,true,(d8 ds),(some (ρ 0))⟩]) ?_
   have e:((m:Nat):Int)-(1:Int)=((m-1:Nat):Int):=by omega
   rw[e]
   have:=Ks (S:=S) (w0:=w0) (ρ:=ρ) (hρ 0 (by simp)) o2 o3 (m-1) 0 (by omega);rw[HY] at this;exact this
 · cases h
def fE:=((kn.cons Ot).cons Ob).consH RE
abbrev oF (ff:Func):List Item:=[.code (aR [1,1,1,0,0,0,1,0,1,1,0,1,0,0] (aA ff)),.inLoop (aR [1,1,1,0,0,0,1,0,1,1,0,1,0,0] (aA ff)),.inBlock 2,.code (aR [1,1,1,0,0,0,1,0,1,1,1] (aA ff)),.inBlock 1,.inLoop (aR [1,1,1,0,0,0] (aA ff)),.inBlock 0,.code (aR [1,1,1,1] (aA ff))]
abbrev Ia (ys:List Nat) (r:Nat) (c:Nat) (i:Nat):List (Nat×AV):=[(23,(.bool true)),(24,(.list 1 (aI ys))),(27,(.bool false)),(31,(.bool true)),(36,(.int .u64 ((r % 10:Nat):Int))),(37,(.int .u64 ((48+(r % 10):Nat):Int))),(38,(.int .u8 (c:Int))),(42,(.int .u64 ((r/10:Nat):Int))),(33,(.i6 ((i+1:Nat):Int)))]
abbrev Ib (ys:List Nat) (r:Nat) (c:Nat) (i:Nat):List (Nat×AV):=[(23,(.bool true)),(24,(.list 1 (aI ys))),(27,(.bool true)),(36,(.int .u64 ((r % 10:Nat):Int))),(37,(.int .u64 ((48+(r % 10):Nat):Int))),(38,(.int .u8 (c:Int))),(42,(.int .u64 ((r/10:Nat):Int))),(33,(.i6 ((i+1:Nat):Int)))]
abbrev AI (r:Nat):AV:=(.int .u64 (IntKind.u64.wrap ((48:Int)+((r % 10:Nat):Int))))
abbrev AJ (r:Nat):AV:=(.int .u8 (IntKind.u8.wrap ((48+(r % 10):Nat):Int)))
abbrev AK (r:Nat):AV:=(.int .u64 (IntKind.u64.wrap ((r:Int).tdiv (10:Int))))
abbrev AL (i:Nat):AV:=(.i6 (IntKind.i64.wrap ((i:Int)+(1:Int))))
abbrev AM (ys:List Nat):AV:=(.bool (decide ((0:Int)<((aI ys).length:Int))))
section
variable {S0 C0:Nat->Prop} {w0:World} {Post:Value->World->Prop}
theorem Ic (n B q r i c:Nat) (ys:List Nat) (h1:(i:Int)<(9:Int)) (h2:(0:Int)<((aI ys).length:Int)) (o:(Ref (.nat q B) (.list 1 (aI ys)))/\(0<=(48:Int)+((r % 10:Nat):Int)/\(48:Int)+((r % 10:Nat):Int)<=18446744073709551615)/\(Ref (.int .u8 (IntKind.u8.wrap ((48+(r % 10):Nat):Int))) (.int .u8 (c:Int)))/\(1*1<=140737488355328)/\(1<=big)/\(Ref (.int .u64 (IntKind.u64.wrap ((r:Int).tdiv (10:Int)))) (.int .u64 ((r/10:Nat):Int)))/\(-9223372036854775808<=(i:Int)+(1:Int)/\(i:Int)+(1:Int)<=9223372036854775807))
   (hg:Good Tryz.prog 186 S0 C0 w0 Post (oF Tryz.f186) ⟨slots 48 [(3,.own 0 1 0 1),(4,.nat q B),(6,.int .u64 ((r/10:Nat):Int)),(7,.i6 ((i+1:Nat):Int))],[some ⟨5,1,true,[[.int .u8 (c:Int)]],none⟩]⟩):
   Good Tryz.prog 186 S0 C0 w0 Post (oF Tryz.f186) ⟨slots 48 [(3,.nil),(4,.nat q B),(6,.int .u64 (r:Int)),(7,.i6 (i:Int))],[]⟩:=
 tN mixed aX fE 18 none [0,3,4,6,7] [1] (Ib ys r c i) (ob:=[Ref (.bool (decide ((i:Int)<(9:Int)))) (.bool true),Ref (.nat q B) (.list 1 (aI ys)),Ref (AM ys) (.bool true),Ref (.int .u64 ((r:Int).tmod (10:Int))) (.int .u64 ((r % 10:Nat):Int)),(10:Int)≠0,Ref (AI r) (.int .u64 ((48+(r % 10):Nat):Int)),Ref (AJ r) (.int .u8 (c:Int)),1=1,0<1,1*1<=140737488355328,1<=big,Ref (AK r) (.int .u64 ((r/10:Nat):Int)),(10:Int)≠0,Ref (AL i) (.i6 ((i+1:Nat):Int))]) (by decide) (by kernel_rfl)
   (.cons (Ref.bool (decide_eq_true h1)) (.cons (o.1) (.cons (Ref.bool (decide_eq_true h2)) (.cons (Ref.rem (a:=r) (b:=10) rfl rfl) (.cons (by decide) (.cons ((Ref.wr o.2.1).trans (Ref.int (by first | rfl | omega | simp))) (.cons (o.2.2.1) (.cons (rfl) (.cons (by decide) (.cons (o.2.2.2.1) (.cons (o.2.2.2.2.1) (.cons (o.2.2.2.2.2.1) (.cons (by decide) (.cons ((Ref.wr o.2.2.2.2.2.2).trans (Ref.int (by first | rfl | omega | simp))) (AllP.nil))))))))))))))) hg
theorem Ie (n B q r i c:Nat) (ys:List Nat) (h1:(i:Int)<(9:Int)) (h2:¬ ((0:Int)<((aI ys).length:Int))) (h3:(0:Int)<(r:Int)) (o:(Ref (.nat q B) (.list 1 (aI ys)))/\(0<=(48:Int)+((r % 10:Nat):Int)/\(48:Int)+((r % 10:Nat):Int)<=18446744073709551615)/\(Ref (.int .u8 (IntKind.u8.wrap ((48+(r % 10):Nat):Int))) (.int .u8 (c:Int)))/\(1*1<=140737488355328)/\(1<=big)/\(Ref (.int .u64 (IntKind.u64.wrap ((r:Int).tdiv (10:Int)))) (.int .u64 ((r/10:Nat):Int)))/\(-9223372036854775808<=(i:Int)+(1:Int)/\(i:Int)+(1:Int)<=9223372036854775807))
   (hg:Good Tryz.prog 186 S0 C0 w0 Post (oF Tryz.f186) ⟨slots 48 [(3,.own 0 1 0 1),(4,.nat q B),(6,.int .u64 ((r/10:Nat):Int)),(7,.i6 ((i+1:Nat):Int))],[some ⟨5,1,true,[[.int .u8 (c:Int)]],none⟩]⟩):
   Good Tryz.prog 186 S0 C0 w0 Post (oF Tryz.f186) ⟨slots 48 [(3,.nil),(4,.nat q B),(6,.int .u64 (r:Int)),(7,.i6 (i:Int))],[]⟩:=
 tN mixed aX fE 18 none [0,3,4,6,7] [1] (Ia ys r c i) (ob:=[Ref (.bool (decide ((i:Int)<(9:Int)))) (.bool true),Ref (.nat q B) (.list 1 (aI ys)),Ref (AM ys) (.bool false),Ref (.bool (decide ((0:Int)<(r:Int)))) (.bool true),Ref (.int .u64 ((r:Int).tmod (10:Int))) (.int .u64 ((r % 10:Nat):Int)),(10:Int)≠0,Ref (AI r) (.int .u64 ((48+(r % 10):Nat):Int)),Ref (AJ r) (.int .u8 (c:Int)),1=1,0<1,1*1<=140737488355328,1<=big,Ref (AK r) (.int .u64 ((r/10:Nat):Int)),(10:Int)≠0,Ref (AL i) (.i6 ((i+1:Nat):Int))]) (by decide) (by kernel_rfl)
   (.cons (Ref.bool (decide_eq_true h1)) (.cons (o.1) (.cons (Ref.bool (decide_eq_false h2)) (.cons (Ref.bool (decide_eq_true h3)) (.cons (Ref.rem (a:=r) (b:=10) rfl rfl) (.cons (by decide) (.cons ((Ref.wr o.2.1).trans (Ref.int (by first | rfl | omega | simp))) (.cons (o.2.2.1) (.cons (rfl) (.cons (by decide) (.cons (o.2.2.2.1) (.cons (o.2.2.2.2.1) (.cons (o.2.2.2.2.2.1) (.cons (by decide) (.cons ((Ref.wr o.2.2.2.2.2.2).trans (Ref.int (by first | rfl | omega | simp))) (AllP.nil)))))))))))))))) hg
theorem If (n B q r i c:Nat) (ys:List Nat) (ds:List Nat) (m:Nat) (h1:(i:Int)<(9:Int)) (h2:(0:Int)<((aI ys).length:Int)) (o:(Ref (.nat q B) (.list 1 (aI ys)))/\(0<=(48:Int)+((r % 10:Nat):Int)/\(48:Int)+((r % 10:Nat):Int)<=18446744073709551615)/\(Ref (.int .u8 (IntKind.u8.wrap ((48+(r % 10):Nat):Int))) (.int .u8 (c:Int)))/\(m=(d8 ds).length)/\((m+1)*1<=140737488355328)/\(m+1<=big)/\(Ref (.int .u64 (IntKind.u64.wrap ((r:Int).tdiv (10:Int)))) (.int .u64 ((r/10:Nat):Int)))/\(-9223372036854775808<=(i:Int)+(1:Int)/\(i:Int)+(1:Int)<=9223372036854775807))
   (hg:Good Tryz.prog 186 S0 C0 w0 Post (oF Tryz.f186) ⟨slots 48 [(3,.own 0 1 0 (m+1)),(4,.nat q B),(6,.int .u64 ((r/10:Nat):Int)),(7,.i6 ((i+1:Nat):Int))],[some ⟨5,1,true,((d8 ds)++ [[(AV.int .u8 (c:Int))]]),none⟩]⟩):
   Good Tryz.prog 186 S0 C0 w0 Post (oF Tryz.f186) ⟨slots 48 [(3,.own 0 1 0 m),(4,.nat q B),(6,.int .u64 (r:Int)),(7,.i6 (i:Int))],[some ⟨5,1,true,(d8 ds),none⟩]⟩:=
 tN mixed aX fE 18 none [0,3,4,6,7] [2] (Ib ys r c i) (ob:=[Ref (.bool (decide ((i:Int)<(9:Int)))) (.bool true),Ref (.nat q B) (.list 1 (aI ys)),Ref (AM ys) (.bool true),Ref (.int .u64 ((r:Int).tmod (10:Int))) (.int .u64 ((r % 10:Nat):Int)),(10:Int)≠0,Ref (AI r) (.int .u64 ((48+(r % 10):Nat):Int)),Ref (AJ r) (.int .u8 (c:Int)),1=1,m=(d8 ds).length,(m+1)*1<=140737488355328,m+1<=big,Ref (AK r) (.int .u64 ((r/10:Nat):Int)),(10:Int)≠0,Ref (AL i) (.i6 ((i+1:Nat):Int))]) (by decide) (by kernel_rfl)
   (.cons (Ref.bool (decide_eq_true h1)) (.cons (o.1) (.cons (Ref.bool (decide_eq_true h2)) (.cons (Ref.rem (a:=r) (b:=10) rfl rfl) (.cons (by decide) (.cons ((Ref.wr o.2.1).trans (Ref.int (by first | rfl | omega | simp))) (.cons (o.2.2.1) (.cons (rfl) (.cons (o.2.2.2.1) (.cons (o.2.2.2.2.1) (.cons (o.2.2.2.2.2.1) (.cons (o.2.2.2.2.2.2.1) (.cons (by decide) (.cons ((Ref.wr o.2.2.2.2.2.2.2).trans (Ref.int (by first | rfl | omega | simp))) (AllP.nil))))))))))))))) hg
theorem Ig (n B q r i c:Nat) (ys:List Nat) (ds:List Nat) (m:Nat) (h1:(i:Int)<(9:Int)) (h2:¬ ((0:Int)<((aI ys).length:Int))) (h3:(0:Int)<(r:Int)) (o:(Ref (.nat q B) (.list 1 (aI ys)))/\(0<=(48:Int)+((r % 10:Nat):Int)/\(48:Int)+((r % 10:Nat):Int)<=18446744073709551615)/\(Ref (.int .u8 (IntKind.u8.wrap ((48+(r % 10):Nat):Int))) (.int .u8 (c:Int)))/\(m=(d8 ds).length)/\((m+1)*1<=140737488355328)/\(m+1<=big)/\(Ref (.int .u64 (IntKind.u64.wrap ((r:Int).tdiv (10:Int)))) (.int .u64 ((r/10:Nat):Int)))/\(-9223372036854775808<=(i:Int)+(1:Int)/\(i:Int)+(1:Int)<=9223372036854775807))
   (hg:Good Tryz.prog 186 S0 C0 w0 Post (oF Tryz.f186) ⟨slots 48 [(3,.own 0 1 0 (m+1)),(4,.nat q B),(6,.int .u64 ((r/10:Nat):Int)),(7,.i6 ((i+1:Nat):Int))],[some ⟨5,1,true,((d8 ds)++ [[(AV.int .u8 (c:Int))]]),none⟩]⟩):
   Good Tryz.prog 186 S0 C0 w0 Post (oF Tryz.f186) ⟨slots 48 [(3,.own 0 1 0 m),(4,.nat q B),(6,.int .u64 (r:Int)),(7,.i6 (i:Int))],[some ⟨5,1,true,(d8 ds),none⟩]⟩:=
 tN mixed aX fE 18 none [0,3,4,6,7] [2] (Ia ys r c i) (ob:=[Ref (.bool (decide ((i:Int)<(9:Int)))) (.bool true),Ref (.nat q B) (.list 1 (aI ys)),Ref (AM ys) (.bool false),Ref (.bool (decide ((0:Int)<(r:Int)))) (.bool true),Ref (.int .u64 ((r:Int).tmod (10:Int))) (.int .u64 ((r % 10:Nat):Int)),(10:Int)≠0,Ref (AI r) (.int .u64 ((48+(r % 10):Nat):Int)),Ref (AJ r) (.int .u8 (c:Int)),1=1,m=(d8 ds).length,(m+1)*1<=140737488355328,m+1<=big,Ref (AK r) (.int .u64 ((r/10:Nat):Int)),(10:Int)≠0,Ref (AL i) (.i6 ((i+1:Nat):Int))]) (by decide) (by kernel_rfl)
   (.cons (Ref.bool (decide_eq_true h1)) (.cons (o.1) (.cons (Ref.bool (decide_eq_false h2)) (.cons (Ref.bool (decide_eq_true h3)) (.cons (Ref.rem (a:=r) (b:=10) rfl rfl) (.cons (by decide) (.cons ((Ref.wr o.2.1).trans (Ref.int (by first | rfl | omega | simp))) (.cons (o.2.2.1) (.cons (rfl) (.cons (o.2.2.2.1) (.cons (o.2.2.2.2.1) (.cons (o.2.2.2.2.2.1) (.cons (o.2.2.2.2.2.2.1) (.cons (by decide) (.cons ((Ref.wr o.2.2.2.2.2.2.2).trans (Ref.int (by first | rfl | omega | simp))) (AllP.nil)))))))))))))))) hg
theorem Ul {B B':Base->Prop} (es:List Nat)
   (hB:B ⟨S0,C0,w0⟩) (hX:∀ (Q:Exit->Act->World->Prop) β ρ D σ h a w,B β->Rel β.S β.C β.w ρ D ⟨σ,h⟩ a w->(∀ τ∈ [46],σ.getD τ .any=(slots 48 [(2,.str (jH es)),(3,.list 1 (d8 es)),(46,.list 1 (d8 es)),(47,.str (jH es))]).getD τ .any)->wpOp Tryz.prog (aZ (aR [1,1,1,1,1,0] (aA Tryz.f186))) Q 1 (fun a' w'=>∃ β',B' β'/\Rel β'.S β'.C β'.w ρ D ⟨put σ (some 47) (.str (jH es)),h⟩ a' w') a w)
   (hg:∀ β,B' β->Good Tryz.prog 186 β.S β.C β.w Post [.code .ret] ⟨slots 48 [(2,.str (jH es)),(3,.list 1 (d8 es)),(46,.list 1 (d8 es)),(47,.str (jH es))],[none]⟩):
   Good Tryz.prog 186 S0 C0 w0 Post [.code (aR [1,1,1,1,1,0] (aA Tryz.f186)),.code .ret] ⟨slots 48 [(3,.list 1 (d8 es))],[none]⟩:=
 Good.regX mixed aX fE 1 (c:=aR [1,1,1,1,1,0] (aA Tryz.f186)) (oX:=((aZ (aR [1,1,1,1,1,0] (aA Tryz.f186))).toList[1]?).getD default) (dX:=some 47) (V:=(.str (jH es))) (ov:=[(47,(.str (jH es)))]) (ob:=[]) [46] (by kernel_rfl) (by kernel_rfl) (by kernel_rfl) (by kernel_rfl) (by kernel_rfl)
   (AllP.nil) (Or.inr (by kernel_rfl)) (by kernel_rfl) hX hB hg
end
def jA (es:List Nat):List Nat:=es.map (48+·)
theorem pE (es:List Nat):(jA es).length=es.length:=by simp[jA]
theorem xP (es:List Nat) (v:Nat):jA (es++ [v])=jA es++ [48+v]:=by simp[jA]
theorem Kt (ds:List Nat) (v:Nat):d8 ds++ [[AV.int .u8 ((v:Nat):Int)]]=d8 (ds++ [v]):=by simp[d8]
def fX (n:Nat):ByteArray:=if n=0 then ByteArray.mk #[48] else jH (jA (aD 10 n)).reverse
def RF:KF
 | [.nat n B]=>some (.str (fX n),[B<=LIM])
 | _=>none
def Inv (N v:Nat) (es:List Nat):Prop:=(∀ x∈es,x<10)/\aJ 10 es+10^es.length*v=N/\(es≠ []->10^(es.length-1)<=N)
theorem Inv.push {N v:Nat} {es:List Nat} (h:Inv N v es) (hv:0<v):Inv N (v/10) (es++ [v % 10]):=by
 obtain⟨h1,h2,h3⟩:=h;refine⟨rE h1 (Nat.mod_lt _ (by decide)), ?_,fun _=> ?_⟩
 · rw[iN,List.length_append,List.length_singleton,Nat.pow_succ,Nat.mul_assoc,Nat.add_assoc, <- Nat.mul_add,Nat.mod_add_div];exact h2
 · rw[List.length_append,List.length_singleton,Nat.add_sub_cancel]
   have:=Nat.mul_le_mul_left (10^es.length) (show 1<=v from hv);omega
theorem Inv.len {N v B:Nat} {es:List Nat} (h:Inv N v es) (hB:N<2^B):es.length<=B+1:=by
 obtain⟨h1,h2,h3⟩:=h;rcases Nat.eq_zero_or_pos es.length with e | e
 · omega
 · have h4:=h3 (fun e'=>by rw[e'] at e;simp at e)
   have h5:2^(es.length-1)<=10^(es.length-1):=Nat.pow_le_pow_left (by decide) _
   have:=(Nat.pow_lt_pow_iff_right (a:=2) (by decide)).1 (Nat.lt_of_le_of_lt (Nat.le_trans h5 h4) hB);omega
theorem Inv.done {N:Nat} {es:List Nat} (h:Inv N 0 es) (h0:es≠ []):es=aD 10 N/\N≠0:=by
 obtain⟨h1,h2,h3⟩:=h;rw[Nat.mul_zero,Nat.add_zero] at h2;have h4:=h3 h0;obtain⟨g1,g2⟩:=aQ (b:=10) (by decide) N;refine⟨Dig.uniq (b:=10) (by decide) (Dig.of_ge (by decide) h1 (by rw[h2];exact h4)) g1 (by rw[h2,g2]), ?_⟩
 have:=Nat.pow_pos (n:=es.length-1) (dc (0<10));omega
theorem RG {ρ:Nat->Nat} {S:Nat->Prop} {w:World} {D:Nat->Prop} {es:List Nat} {v:Value} (h:RelV ρ S w D (.list 1 (d8 es)) v) (h0:es≠ []):(convert 414 9 v).run Tryz.prog w= .ok (.string (jH es)) w:=by
 obtain⟨A,cap,f,rfl,g1,g2,g3,g4,g5⟩:=kC h;have hl:(d8 es).length=es.length:=gY;obtain⟨ad,rfl,_,_,hs⟩:=g5 (by rw[hl];exact List.length_pos_iff.2 h0);rw[run_convert_bytes_string w 414 9 5 _ _ _ (by kernel_rfl) (by kernel_rfl) (by kernel_rfl)]
 have hc:∀ j v,(es.map fun(d:Nat)=>Value.int .u8 (d:Int))[j]? =some v->w.cell? (ad.add j)=some v:=by
   intro j v hj;rw[List.getElem?_map] at hj;obtain⟨d,hd,rfl⟩:=Option.map_eq_some_iff.1 hj;have hjl:j<es.length:=(List.getElem?_eq_some_iff.1 hd).1;have hf:=g4 j [.int .u8 (d:Int)] (by simp[d8,hd]);have hfl:=g3 j (by rw[hl];exact hjl);have hsj:=hs j (by rw[hl];exact hjl)
   match hfj:f j,hfl with
   | [u],_=>
     rw[hfj] at hf hsj;have e:u= .int .u8 (d:Int):=(show RelV ρ S w No (.int .u8 (d:Int)) u from hf).int_inv;subst e
     have:=hsj 0 _ rfl;rw[Nat.mul_one] at this;exact this
 have hrun:=run_loadCells_list (w:=w) (P:=Tryz.prog) ad _ hc;rw[bM] at hrun;rw[hl,run_bytesToString w ad _ cap (es.map fun(d:Nat)=>(d:Int)) (by rw[hrun];simp[Function.comp_def]),Qp]
section
variable {S:Nat->Prop} {w0:World}
noncomputable abbrev Cc:List Item:=[.code (aR [1,1,1,0,0,0] (aA Tryz.f186)),.inLoop (aR [1,1,1,0,0,0] (aA Tryz.f186)),.inBlock 0,.code (aR [1,1,1,1] (aA Tryz.f186))]
noncomputable abbrev DT:List Item:=[.code (aR [1,1,1,0,0,0,1,0,1,1,0,1,0,0] (aA Tryz.f186)),.inLoop (aR [1,1,1,0,0,0,1,0,1,1,0,1,0,0] (aA Tryz.f186)),.inBlock 2,.code (aR [1,1,1,0,0,0,1,0,1,1,1] (aA Tryz.f186)),.inBlock 1,.inLoop (aR [1,1,1,0,0,0] (aA Tryz.f186)),.inBlock 0,.code (aR [1,1,1,1] (aA Tryz.f186))]
abbrev EV (es:List Nat):ABlk:=⟨5,1,true,d8 (jA es),none⟩
theorem RH:∃ oX:Oper,(aZ (aR [1,1,1,1,1,0] (aA Tryz.f186)))[1]? =some oX/\oX.guard=none/\oX.op=Op.convert 414 9 (Operand.tmp 46)/\oX.dst=some 47:=
 ⟨((aZ (aR [1,1,1,1,1,0] (aA Tryz.f186))).toList[1]?).getD default,by kernel_rfl,by kernel_rfl,by kernel_rfl,by kernel_rfl⟩
theorem Ih {N B:Nat} (hL:B<=LIM) (hB:N<2^B) {es:List Nat} (hI:Inv N 0 es) (h0:es≠ []):
   GF 186 S w0 (.str (fX N)) Cc ⟨slots 48 [(0,.nat 0 B),(3,.own 0 1 0 es.length)],[some (EV es)]⟩:=by
 have hl:=hI.len hB;have hp:=List.length_pos_iff.2 h0;have ha:(jA es).length=es.length:=pE es;unfold LIM at hL;refine gR fE (some 14) [0,3,4,6,7] [0] [(11,.list 1 (aI (aD b32 0))),(13,ff)] (.a6 (show Ref (.nat 0 B) (.list 1 (aI (aD b32 0))) from Ref.opn) (iF (show ¬ ((0:Int)<((aI (aD b32 0)).length:Int)) by rw[aB,gW];decide)) (show(d8 (jA es))=d8 (Hw (d8 (jA es))) by rw[CR]) (show es.length=(Hw (d8 (jA es))).length by rw[CR,ha]) (om (es.length<=4611686018427387904)) hp) (t:=[.code (aR [1,1,1,1,1,0] (aA Tryz.f186)),.code .ret]) (σ:=slots 48 [(0,.nat 0 B),(3,.own 0 1 0 es.length)]) (h:=[some ⟨5,1,true,(d8 (Hw (d8 (jA es))).reverse),none⟩]) ?_
 rw[CR];refine Good.pk 48 [(3,.own 0 1 0 es.length)] ?_;refine Good.freezeD (b:=⟨5,1,true,d8 (jA es).reverse,none⟩) 0 (by rfl) (by rfl) (AllP.of_eq (l':=[0+es.length<=(d8 (jA es).reverse).length]) (by kernel_rfl) (.cons (by rw[gY,List.length_reverse,ha];omega) .nil)) .on ?_
 refine Good.weak 48 [(3,.list 1 (d8 (jA es).reverse))] (by kernel_rfl) (.cons (by
   show Ref (.list 1 (((d8 (jA es).reverse).drop 0).take es.length)) _
   rw[List.drop_zero,gO (by rw[gY,List.length_reverse,ha];omega)];exact rr) .nil) ?_
 refine Ul (B:=fun β=>β=⟨S,No,w0⟩) (B':=fun β=>β=⟨S,No,w0⟩) (jA es).reverse rfl ?_ ?_
 · rintro Q β ρ D σ h a w1 rfl R hA
   have h1:=R.eval (.tmp 46);have e1:bI σ (.tmp 46)= .list 1 (d8 (jA es).reverse):=(hA 46 (by simp)).trans (by kernel_rfl);rw[e1] at h1;have hrun:=RG h1 (by simp[jA,h0]);obtain⟨oX,hoX,hg,hop,hd⟩:=RH;refine kO hoX hg (v:=.string (jH (jA es).reverse)) (w':=w1) ?_ ?_
   · rw[execOp,hop]
     simp only[Sem.run_bind,hrun];rfl
   · rw[hd]
     exact⟨_,rfl,R.val (.str .done)⟩
 · rintro β rfl
   obtain⟨e1,e2⟩:=hI.done h0
   exact bX aX (fn:=Tryz.f186) (by kernel_rfl) 2 (by kernel_rfl) rfl (by rfl) (Ref.eq (by
     show AV.str _=_;unfold fX
     rw[if_neg e2, <- e1]))
theorem Cd {N B q:Nat} (hL:B<=LIM) (hB:N<2^B)
   (hout:∀ es,Inv N q es->es≠ []->GF 186 S w0 (.str (fX N)) Cc ⟨slots 48 [(0,.nat q B),(3,.own 0 1 0 es.length)],[some (EV es)]⟩):
   ∀ (j i r v:Nat) (es:List Nat),i+j=9->v=r+10^j*q->r<10^j->Inv N v es->es≠ []->
   GF 186 S w0 (.str (fX N)) DT ⟨slots 48 [(3,.own 0 1 0 es.length),(4,.nat q B),(6,.int .u64 ((r:Nat):Int)),(7,.i6 ((i:Nat):Int))],[some (EV es)]⟩:=by
 intro j
 induction j with
 | zero=>
   intro i r v es hij hv hr hI h0;rw[Nat.pow_zero] at hv hr;have hv':v=q:=by omega
   subst hv';exact gN fE [0,3] [(23,ff)] (.a1 (iF (om (¬ ((i:Int)<(9:Int)))))) (hout es hI h0)
 | succ j ih=>
   intro i r v es hij hv hr hI h0;have hp:10^(j+1)*q=10*(10^j*q):=by rw[Nat.pow_succ,Nat.mul_comm (10^j) 10,Nat.mul_assoc]
   have hr':r<10*10^j:=by rw[Nat.pow_succ] at hr;omega
   have hpj:10^j<=10^9:=Nat.pow_le_pow_right (by decide) (by omega);rw[hp] at hv;have hl:=hI.len hB;have hpos:=List.length_pos_iff.2 h0;unfold LIM at hL;have big':es.length+1<=big:=by unfold big;omega
   have u1:(0:Int)<=(48:Int)+((r % 10:Nat):Int)/\(48:Int)+((r % 10:Nat):Int)<=18446744073709551615:=by omega
   have u2:Ref (AV.int .u8 (IntKind.u8.wrap ((48+(r % 10):Nat):Int))) (AV.int .u8 ((48+r % 10:Nat):Int)):=Ref.wr ⟨by show(0:Int)<=_;omega,by show _<=(255:Int);omega⟩;have u3:Ref (AV.int .u64 (IntKind.u64.wrap (((r:Nat):Int).tdiv (10:Int)))) (AV.int .u64 ((r/10:Nat):Int)):=Ref.wrU (Int.ofNat_tdiv r 10).symm (by omega);have u4: -9223372036854775808<=((i:Nat):Int)+(1:Int)/\((i:Nat):Int)+(1:Int)<=9223372036854775807:=by omega
   have nx:0<v->GF 186 S w0 (.str (fX N)) DT ⟨slots 48 [(3,.own 0 1 0 (es.length+1)),(4,.nat q B),(6,.int .u64 ((r/10:Nat):Int)),(7,.i6 ((i+1:Nat):Int))],[some ⟨5,1,true,d8 (jA es)++ [[.int .u8 ((48+r % 10:Nat):Int)]],none⟩]⟩:=by
     intro hv0
     have:=ih (i+1) (r/10) (v/10) (es++ [v % 10]) (by omega) (by omega) (by omega) (hI.push hv0) (by simp);rw[List.length_append,List.length_singleton] at this;unfold EV at this;rw[xP,show v % 10=r % 10 by omega] at this;rw[Kt];exact this
   have h9:((i:Nat):Int)<(9:Int):=by omega
   rcases Nat.eq_zero_or_pos q with hq | hq
   · have z2:¬ (0:Int)<(((aI (aD b32 q)).length:Nat):Int):=by rw[aB,hq,gW];decide
     rcases Nat.eq_zero_or_pos r with hr0 | hr0
     · have z3:¬ (0:Int)<((r:Nat):Int):=by omega
       refine gN fE [0,3,4,6,7] [(23,tt),(24,.list 1 (aI (aD b32 q))),(27,ff),(31,ff)] (.a4 (iT h9) (show Ref (.nat q B) (.list 1 (aI (aD b32 q))) from Ref.opn) (iF z2) (iF z3)) (t:=Cc) (σ:=slots 48 [(0,.nat q B),(3,.own 0 1 0 es.length),(4,.nat q B),(6,.int .u64 (r:Int)),(7,.i6 (i:Int))]) (h:=[some ⟨5,1,true,(d8 (jA es)),none⟩]) ?_
       have hv':v=q:=by rw[hv,hq,hr0,Nat.mul_zero]
       rw[hv'] at hI;refine Good.pk 48 [(0,.nat q B),(3,.own 0 1 0 es.length)] ?_;exact hout es hI h0
     · exact Ig 0 B q r i _ (aD b32 q) (jA es) es.length h9 z2 (by omega) ⟨Ref.opn,u1,u2,by rw[gY,pE],by omega,big',u3,u4⟩ (nx (by omega))
   · have z2:(0:Int)<(((aI (aD b32 q)).length:Nat):Int):=by
       have:=(dA (b:=b32) (n:=q) (by decide)).2 hq;rw[aB];omega
     have:=Nat.mul_pos (Nat.pow_pos (n:=j) (dc (0<10))) hq;exact If 0 B q r i _ (aD b32 q) (jA es) es.length h9 z2 ⟨Ref.opn,u1,u2,by rw[gY,pE],by omega,big',u3,u4⟩ (nx (by omega))
theorem Ii {N B:Nat} (hL:B<=LIM) (hB:N<2^B):∀ (k n:Nat) (es:List Nat),n<=k->Inv N n es->es≠ []->
   GF 186 S w0 (.str (fX N)) Cc ⟨slots 48 [(0,.nat n B),(3,.own 0 1 0 es.length)],[some (EV es)]⟩:=by
 intro k
 induction k with
 | zero=>
   intro n es hn hI h0;have:n=0:=by omega
   subst this;exact Ih hL hB hI h0
 | succ k ih=>
   intro n es hn hI h0;rcases Nat.eq_zero_or_pos n with hz | hz
   · subst hz;exact Ih hL hB hI h0
   · have z2:(0:Int)<(((aI (aD b32 n)).length:Nat):Int):=by
       have:=(dA (b:=b32) (n:=n) (by decide)).2 hz;rw[aB];omega
     exact gR fE (some 14) [3,4,6,7] [0] [(11,.list 1 (aI (aD b32 n))),(13,tt),(20,.int .u64 (((n % 1000000000):Nat):Int))] (.c6 (show Ref (.nat n B) (.list 1 (aI (aD b32 n))) from Ref.opn) (iT z2) (dc (0<=(1000000000:Int))) (dc (0<1000000000)) (dc (1000000000<4294967296)) hL (.a2 (show Ref (.int .u64 (((n % 1000000000):Nat):Int)) (.int .u64 (((n % 1000000000):Nat):Int)) from rr) (om ((n % 1000000000)<18446744073709551616)))) (Cd hL hB (fun es' hI' h0'=>ih (n/1000000000) es' (by omega) hI' h0') 9 0 (n % 1000000000) n es rfl (by omega) (by omega) hI h0)
end
theorem Um:bO 186 RF:=fun args r ob h ho=>by
 unfold RF at h
 split at h
 · rename_i n B
   cases h;have hL:B<=LIM:=ho _ (by simp);refine af Tryz.f186 fun S w0=> ?_
   refine Good.natlt (n:=n) (B:=B) 0 rfl fun hB=> ?_
   refine Good.pk 48 [(0,.nat n B)] ?_;rcases Nat.eq_zero_or_pos n with hz | hz
   · subst hz
     refine rF fE [(8,.list 1 (aI (aD b32 0))),(10,tt)] (.a2 (show Ref (.nat 0 B) (.list 1 (aI (aD b32 0))) from Ref.opn) (iT (show((aI (aD b32 0)).length:Int)=(0:Int) by rw[aB,gW];rfl))) (V:=.str (ByteArray.mk #[48])) rr
   · have hp:=(dA (b:=b32) (n:=n) (by decide)).2 hz
     have z2:(0:Int)<(((aI (aD b32 n)).length:Nat):Int):=by rw[aB];omega
     have v0:Ref (.nat n B) (.list 1 (aI (aD b32 n))):=Ref.opn;refine gN fE [0,3] [(8,.list 1 (aI (aD b32 n))),(10,ff)] (.a2 v0 (iF (show ¬ ((((aI (aD b32 n)).length:Nat):Int)=(0:Int)) by rw[aB];omega))) (t:=Cc) (σ:=slots 48 [(0,.nat n B),(3,.nil)]) (h:=[]) ?_
     refine gR fE (some 14) [3,4,6,7] [] [(11,.list 1 (aI (aD b32 n))),(13,tt),(20,.int .u64 (((n % 1000000000):Nat):Int))] (.c6 v0 (iT z2) (dc (0<=(1000000000:Int))) (dc (0<1000000000)) (dc (1000000000<4294967296)) hL (.a2 (show Ref (.int .u64 (((n % 1000000000):Nat):Int)) (.int .u64 (((n % 1000000000):Nat):Int)) from rr) (om ((n % 1000000000)<18446744073709551616)))) (t:=DT) (σ:=slots 48 [(3,.nil),(4,.nat (n/1000000000) B),(6,.int .u64 ((n % 1000000000:Nat):Int)),(7,.i6 ((0:Nat):Int))]) (h:=[]) ?_
     have hI:Inv n n []:=⟨by simp,by simp[aJ],fun h=>absurd rfl h⟩;generalize hr:n % 1000000000=r;generalize hq:n/1000000000=q;have hv:n=r+10^8*(10*q):=by omega
     have u1:(0:Int)<=(48:Int)+((r % 10:Nat):Int)/\(48:Int)+((r % 10:Nat):Int)<=18446744073709551615:=by omega
     have u2:Ref (AV.int .u8 (IntKind.u8.wrap ((48+(r % 10):Nat):Int))) (AV.int .u8 ((48+r % 10:Nat):Int)):=Ref.wr ⟨by show(0:Int)<=_;omega,by show _<=(255:Int);omega⟩;have u3:Ref (AV.int .u64 (IntKind.u64.wrap (((r:Nat):Int).tdiv (10:Int)))) (AV.int .u64 ((r/10:Nat):Int)):=Ref.wrU (Int.ofNat_tdiv r 10).symm (by omega)
     have G:GF 186 S w0 (.str (fX n)) DT ⟨slots 48 [(3,.own 0 1 0 1),(4,.nat q B),(6,.int .u64 ((r/10:Nat):Int)),(7,.i6 ((0+1:Nat):Int))],[some ⟨5,1,true,[[.int .u8 ((48+r % 10:Nat):Int)]],none⟩]⟩:=by
       have:=Cd (S:=S) (w0:=w0) hL hB (q:=q) (fun es' hI' h0'=>Ii hL hB _ q es' (rl _) hI' h0') 8 1 (r/10) (n/10) ([]++ [n % 10]) rfl (by omega) (by omega) (hI.push hz) (by simp);unfold EV at this;rw[xP,show n % 10=r % 10 by omega] at this;exact this
     rcases Nat.eq_zero_or_pos q with hq0 | hq0
     · exact Ie 0 B q r 0 _ (aD b32 q) (by decide) (by rw[aB,hq0,gW];decide) (by omega) ⟨Ref.opn,u1,u2,by decide,by decide,u3,by decide⟩ G
     · have:=(dA (b:=b32) (n:=q) (by decide)).2 hq0
       exact Ic 0 B q r 0 _ (aD b32 q) (by decide) (by rw[aB];omega) ⟨Ref.opn,u1,u2,by decide,by decide,u3,by decide⟩ G
 · cases h
def iI:=kn
def zB (n:Int):ByteArray:=if n<0 then ByteArray.mk #[45]++fX n.natAbs else fX n.natAbs
def RI:KF
 | [.agg [.rz n B]]=>some (.str (zB n),[B<=LIM])
 | _=>none
theorem mN (es:List Nat) (v:Nat):(jA (es++ [v])).reverse=(48+v)::(jA es).reverse:=by rw[xP,List.reverse_append];rfl
section
variable {S:Nat->Prop} {w0:World} {s:Bool} {xs:List Nat}
noncomputable abbrev RJ:List Item:=[.code (aR [1,1,1,1,0,0,0] (aA Tryz.f243)),.inLoop (aR [1,1,1,1,0,0,0] (aA Tryz.f243)),.inBlock 4,.code (aR [1,1,1,1,1] (aA Tryz.f243))]
noncomputable abbrev Ij:List Item:=[.code (aR [1,1,1,0,1,0,0] (aA Tryz.f243)),.inLoop (aR [1,1,1,0,1,0,0] (aA Tryz.f243)),.inBlock 0,.code (aR [1,1,1,1] (aA Tryz.f243))]
noncomputable abbrev Ik:List Item:=[.code (aR [1,1,1,0,1,0,0,1,0,0,1,1,0,0] (aA Tryz.f243)),.inLoop (aR [1,1,1,0,1,0,0,1,0,0,1,1,0,0] (aA Tryz.f243)),.inBlock 2,.inBlock 1,.code (aR [1,1,1,0,1,0,0,1,1] (aA Tryz.f243)),.inLoop (aR [1,1,1,0,1,0,0] (aA Tryz.f243)),.inBlock 0,.code (aR [1,1,1,1] (aA Tryz.f243))]
abbrev Ku (s:Bool) (xs:List Nat):ABlk:=⟨64,2,false,[[.bool s,.list 1 (aO xs)]],none⟩
abbrev Kv (S:Nat->Prop) (w0:World) (s:Bool) (N:Nat):Value->World->Prop:=eN S w0 (.str (if s=true then ByteArray.mk #[45]++fX N else fX N))
theorem Il {N:Nat} (hN:0<N):∀ (k:Nat) (es:List Nat),es.length=k->(∀ x∈es,x<10)->aJ 10 es=N->es.length<=100000000000000->
   Good Tryz.prog 243 S No w0 (Kv S w0 s N) RJ ⟨slots 47 [(1,.ptr 0 2 0 0),(3,.str (jH (jA es).reverse))],[some (Ku s xs)]⟩:=by
 intro k
 induction k with
 | zero=>
   intro es hl hd hv hb;rw[List.eq_nil_of_length_eq_zero hl] at hv;simp[aJ] at hv;omega
 | succ k ih=>
   intro es hl hd hv hb;obtain⟨es,v,rfl⟩:∃ e v,es=e++ [v]:=⟨es.dropLast,es.getLast (fun e=>by rw[e] at hl;simp at hl),(List.dropLast_concat_getLast _).symm⟩;have hv10:v<10:=hd v (by simp);have hd':∀ x∈es,x<10:=fun x hx=>hd x (by simp[hx])
   rw[List.length_append,List.length_singleton] at hl hb;rw[iN] at hv;rw[mN];have hsz:(jH ((48+v)::(jA es).reverse)).size=k+1:=by rw[rW,List.length_cons,List.length_reverse,pE];omega
   have o1:Ref (AV.int .u8 ((((jH ((48+v)::(jA es).reverse)).data.toList.getD 0 0).toNat:Nat):Int)) (AV.int .u8 ((48+v:Nat):Int)):=Ref.eq (by rw[MA (by omega)]);have o2:(0:Int)<(((jH ((48+v)::(jA es).reverse)).size:Nat):Int):=by rw[hsz];omega
   have v0:0<=(0:Int):=by decide
   rcases Nat.eq_zero_or_pos v with hv0 | hv0
   · subst hv0
     exact gN iI [1,2,3] [(38,.int .u8 (((48+0):Nat):Int)),(39,tt),(41,.str (jH ((jA es).reverse)))] (.c6 o1 v0 o2 (iT (dc ((((48+0):Nat):Int)=(48:Int)))) (show Ref (.str ((jH ((48+0)::(jA es).reverse)).extract 1 ((jH ((48+0)::(jA es).reverse)).size))) (.str (jH ((jA es).reverse))) from Ref.eq (by rw[Mz])) (dc (0<=(1:Int))) (.a1 (show(1:Int)<=((jH ((48+0)::(jA es).reverse)).size:Int) by rw[hsz];omega))) (ih es (by omega) hd' (by omega) (by omega))
   · have hdone:fX N=jH ((48+v)::(jA es).reverse):=by
       have hI:Inv N 0 (es++ [v]):=⟨hd,by rw[iN,Nat.mul_zero];omega,fun _=>by
         rw[List.length_append,List.length_singleton,Nat.add_sub_cancel]
         have:=Nat.mul_le_mul_left (10^es.length) (show 1<=v from hv0)
         omega⟩
       obtain⟨e1,e2⟩:=hI.done (by simp);unfold fX;rw[if_neg e2, <- e1,mN]
     have hc:¬ ((48+v:Nat):Int)=(48:Int):=by omega
     cases s with
     | true=>
       refine rF iI [(38,.int .u8 (((48+v):Nat):Int)),(39,ff),(43,tt)] (.a6 o1 v0 o2 (iF hc) (show Ref (.bool true) (.bool true) from Ref.bool rfl) (show(ByteArray.mk #[45]).size+(jH ((48+v)::(jA es).reverse)).size<=big by rw[hsz];show 1+(k+1)<=big;unfold big;omega)) (V:=.str ((ByteArray.mk #[45])++(jH ((48+v)::(jA es).reverse)))) (Ref.eq (by
         show AV.str _=_
         rw[if_pos rfl,hdone]))
     | false=>
       refine rF iI [(38,.int .u8 (((48+v):Nat):Int)),(39,ff),(43,ff)] (.a5 o1 v0 o2 (iF hc) (show Ref (.bool false) (.bool false) from Ref.bool rfl)) (V:=.str (jH ((48+v)::(jA es).reverse))) (Ref.eq (by
         show AV.str _=_
         rw[if_neg (by decide),hdone]))
theorem Im {N i M:Nat} (hM:M<=10000000000000) (hi:i<M)
   (hout:∀ es:List Nat,es.length=4*(i+1)->(∀ x∈es,x<10)->aJ 10 es=aJ b10k (xs.take (i+1))->Good Tryz.prog 243 S No w0 (Kv S w0 s N) Ij ⟨slots 47 [(1,.ptr 0 2 0 0),(3,.str (jH (jA es).reverse)),(4,.i6 ((i+1:Nat):Int))],[some (Ku s xs)]⟩):
   ∀ (j k v:Nat) (es:List Nat),k+j=4->v<10^j->es.length=4*i+k->(∀ x∈es,x<10)->aJ 10 es+10^es.length*v=aJ b10k (xs.take (i+1))->
   Good Tryz.prog 243 S No w0 (Kv S w0 s N) Ik ⟨slots 47 [(1,.ptr 0 2 0 0),(3,.str (jH (jA es).reverse)),(4,.i6 ((i:Nat):Int)),(5,.i6 ((v:Nat):Int)),(6,.i6 ((k:Nat):Int))],[some (Ku s xs)]⟩:=by
 intro j
 induction j with
 | zero=>
   intro k v es hk hv hl hd hinv;have hv0:v=0:=by omega
   subst hv0;exact gN iI [1,3,4] [(24,ff),(17,.i6 ((i+1:Nat):Int))] (.a2 (iF (om (¬ ((k:Int)<(4:Int))))) (show Ref (.i6 (IntKind.i64.wrap ((i:Int)+(1:Int)))) (.i6 ((i+1:Nat):Int)) from Ref.wrI (by omega) (by omega))) (hout es (by omega) hd (by rw[<- hinv,Nat.mul_zero,Nat.add_zero]))
 | succ j ih=>
   intro k v es hk hv hl hd hinv
   have hvb:v<10000:=by
     have:10^(j+1)<=10^4:=Nat.pow_le_pow_right (by decide) (by omega);omega
   have v0:Ref (.i6 ((v:Int).tmod (10:Int))) (.i6 ((v % 10:Nat):Int)):=Ref.rem (a:=v) (b:=10) rfl rfl;have v1:(10:Int)≠0:=by decide
   refine gN iI [1,3,4,5,6] [(24,tt),(28,.i6 ((v % 10:Nat):Int)),(30,.i6 ((v % 10:Nat):Int)),(31,.i6 ((v % 10+1:Nat):Int)),(32,.str (jH [48+v % 10])),(34,.str (jH ((48+v % 10)::((jA es).reverse)))),(36,.i6 ((v/10:Nat):Int)),(26,.i6 ((k+1:Nat):Int))] (.c6 (iT (om ((k:Int)<(4:Int)))) v0 v1 v0 v1 (show Ref (.i6 (IntKind.i64.wrap (((v % 10:Nat):Int)+(1:Int)))) (.i6 ((v % 10+1:Nat):Int)) from Ref.wrI (by omega) (by omega)) (.c6 (show Ref (.str ((ByteArray.mk #[48,49,50,51,52,53,54,55,56,57]).extract (v % 10) (v % 10+1))) (.str (jH [48+v % 10])) from Ref.eq (by rw[ES _ (Nat.mod_lt _ (by decide))])) (nn (v % 10+1)) (show((v % 10+1:Nat):Int)<=((ByteArray.mk #[48,49,50,51,52,53,54,55,56,57]).size:Int) by show _<=(10:Int);omega) (nn (v % 10)) (om (((v % 10:Nat):Int)<=((v % 10+1:Nat):Int))) (show Ref (.str ((jH [48+v % 10])++(jH ((jA es).reverse)))) (.str (jH ((48+v % 10)::((jA es).reverse)))) from Ref.eq (by rw[JZ];rfl)) (.a4 (show(jH [48+v % 10]).size+(jH ((jA es).reverse)).size<=big from by
     rw[rW,rW,List.length_reverse,pE];show 1+_<=_;unfold big;omega) (show Ref (.i6 (IntKind.i64.wrap ((v:Int).tdiv (10:Int)))) (.i6 ((v/10:Nat):Int)) from Ref.quo (a:=v) (b:=10) rfl rfl (by decide) (om (((v:Nat):Int)<=(9223372036854775807:Int)))) v1 (show Ref (.i6 (IntKind.i64.wrap ((k:Int)+(1:Int)))) (.i6 ((k+1:Nat):Int)) from Ref.wrI (by omega) (by omega))))) (t:=Ik) (σ:=slots 47 [(1,.ptr 0 2 0 0),(3,(.str (jH ((48+v % 10)::((jA es).reverse))))),(4,.i6 (i:Int)),(5,.i6 ((v/10:Nat):Int)),(6,.i6 ((k+1:Nat):Int))]) (h:=[some ⟨64,2,false,[[.bool s,.list 1 (aO xs)]],none⟩]) ?_
   have:=ih (k+1) (v/10) (es++ [v % 10]) (by omega) (by rw[Nat.pow_succ] at hv;omega) (by rw[List.length_append,List.length_singleton];omega) (rE hd (Nat.mod_lt _ (by decide))) (by
     rw[iN,List.length_append,List.length_singleton,Nat.pow_succ,Nat.mul_assoc,Nat.add_assoc, <- Nat.mul_add,Nat.mod_add_div];exact hinv)
   rw[mN] at this;exact this
theorem In {N:Nat} (hN:0<N) (hx:∀ x∈xs,x<b10k) (hxN:aJ b10k xs=N) (hM:xs.length<=10000000000000):∀ (j i:Nat) (es:List Nat),i+j=xs.length->es.length=4*i->(∀ x∈es,x<10)->aJ 10 es=aJ b10k (xs.take i)->
   Good Tryz.prog 243 S No w0 (Kv S w0 s N) Ij ⟨slots 47 [(1,.ptr 0 2 0 0),(3,.str (jH (jA es).reverse)),(4,.i6 ((i:Nat):Int))],[some (Ku s xs)]⟩:=by
 intro j
 induction j with
 | zero=>
   intro i es hi hl hd hv;exact gN iI [1,3] [(15,ff)] (.a1 (iF (show ¬ ((i:Int)<((aO xs).length:Int)) by rw[aL];omega))) (Il (s:=s) (xs:=xs) hN _ es rfl hd (by rw[hv,gO (by omega)];exact hxN) (by omega))
 | succ j ih=>
   intro i es hi hl hd hv;have hlt:((i:Nat):Int)<(((aO xs).length:Nat):Int):=by rw[aL];omega
   refine gN iI [1,3,4,5,6] [(15,tt),(21,.cptr [.i6 (xs.getD i 0:Int)] 0),(22,.i6 (((xs.getD i 0):Nat):Int))] (.a5 (iT hlt) (show Ref (.cptr ((aO xs).getD i []) 0) (.cptr [.i6 (xs.getD i 0:Int)] 0) from Ref.cd64 ((om (i<xs.length)))) (nn i) hlt (show Ref (.i6 (xs.getD i 0:Int)) (.i6 (((xs.getD i 0):Nat):Int)) from rr)) (t:=Ik) (σ:=slots 47 [(1,.ptr 0 2 0 0),(3,(.str (jH ((jA es).reverse)))),(4,.i6 (i:Int)),(5,(.i6 (((xs.getD i 0):Nat):Int))),(6,.i6 (0:Int))]) (h:=[some ⟨64,2,false,[[.bool s,.list 1 (aO xs)]],none⟩]) ?_
   have h1:=bC (b:=b10k) (by decide) hx i;refine Im (M:=xs.length) (by omega) (by omega) (fun es' a b c=>ih (i+1) es' (by omega) a b c) 4 0 (xs.getD i 0) es rfl h1 hl hd ?_;rw[aT,hv,hl,Nat.pow_mul];rfl
end
theorem Un:bO 243 RI:=fun args r ob h ho=>by
 unfold RI at h
 split at h
 · rename_i n B
   cases h;have hL:B<=LIM:=ho _ (by simp);unfold LIM at hL;refine af Tryz.f243 fun S w0=> ?_
   refine Good.rzlt (n:=n) (B:=B) (cs:=[]) 0 rfl fun hB=> ?_
   refine Good.weak 47 [(0,.agg [.bool (decide (n<0)),.list 1 (aO (aD b10k n.natAbs))])] (by kernel_rfl) (.cons (Ref.agg (RefC.rzopn.trans (RefC.tl RefC.opnd))) .nil) ?_;obtain⟨hx,hxn⟩:=aQ (b:=b10k) (by decide) n.natAbs;have hl:=hx.len10 (by rw[hxn];exact hB);rcases Nat.eq_zero_or_pos n.natAbs with hz | hz
   · have hn:n=0:=by omega
     subst hn;refine rF iI [(10,tt)] (.a1 (iT (show((aO (aD b10k (0:Int).natAbs)).length:Int)=(0:Int) by rw[aL];rfl))) (V:=.str (ByteArray.mk #[48])) rr
   · have hp:=(dA (b:=b10k) (n:=n.natAbs) (by decide)).2 hz
     refine gN iI [1,3,4] [(10,ff)] (.a1 (iF (show ¬ ((((aO (aD b10k n.natAbs)).length:Nat):Int)=(0:Int)) by rw[aL];omega))) (t:=Ij) (σ:=slots 47 [(1,.ptr 0 2 0 0),(3,.str (jH (jA []).reverse)),(4,.i6 ((0:Nat):Int))]) (h:=[some ⟨64,2,false,[[.bool (decide (n<0)),.list 1 (aO (aD b10k n.natAbs))]],none⟩]) ?_
     have:=In (S:=S) (w0:=w0) (s:=decide (n<0)) hz hx.1 hxn (by omega) _ 0 [] (Nat.zero_add _) rfl (by simp) (by simp[aJ]);have e:zB n=if decide (n<0)=true then ByteArray.mk #[45]++fX n.natAbs else fX n.natAbs:=by unfold zB;simp only[decide_eq_true_eq]
     rw[e];exact this
 · cases h
theorem pF {n B:Nat} (h:n<2^B):(fX n).size<=B+2:=by
 unfold fX
 split
 · show 1<=_;omega
 · rename_i h0
   rw[rW,List.length_reverse,pE];obtain⟨g1,g2⟩:=aQ (b:=10) (by decide) n
   have hI:Inv n 0 (aD 10 n):=⟨g1.1,by rw[Nat.mul_zero,Nat.add_zero,g2],fun hne=>by
     have:=g1.low (by decide) hne
     rwa [g2] at this⟩
   have:=hI.len h;omega
theorem Kw {n:Int} {B:Nat} (h:n.natAbs<2^B):(zB n).size<=B+3:=by
 have:=pF h;unfold zB
 split
 · rw[ByteArray.size_append];show 1+_<=_;omega
 · omega
theorem Ce {n:Nat}:fX n=ByteArray.mk #[49]↔n=1:=by
 constructor
 · intro h
   unfold fX at h
   split at h
   · exact absurd (congrArg (fun b=>b.data.toList) h) (by decide)
   · have h1:=Ka _ h (fun x hx=>by
       obtain⟨e,he,rfl⟩:=List.mem_map.1 (List.mem_reverse.1 hx)
       have:=(aQ (b:=10) (by decide) n).1.1 e he
       omega)
     have h2:jA (aD 10 n)= [49]:=by rw[<- List.reverse_reverse (jA (aD 10 n)),h1];rfl
     have h3:(aD 10 n)= [1]:=by
       match hd:aD 10 n,h2 with
       | [],h2=>simp[jA] at h2
       | [x],h2=>simp[jA] at h2;rw[show x=1 by omega]
       | _::_::_,h2=>simp[jA] at h2
     have h4:=(aQ (b:=10) (by decide) n).2;rw[h3] at h4;simpa[aJ] using h4.symm
 · rintro rfl;decide+kernel
def qB (x:Rat):ByteArray:=if x.den=1 then zB x.num else (zB x.num++ByteArray.mk #[47])++fX x.den
theorem qH (n:Nat):zB (n:Int)=fX n:=by
 unfold zB;rw[if_neg (by omega)];rfl
def RK:KF
 | [.agg [.rq x d B]]=>some (.str (qB x),[B+100<=LIM])
 | _=>none
theorem Uo:bO 174 RK:=by
 refine cJ Tryz.f174 fun _ _ _ S w0 h ho=> ?_
 unfold RK at h;split at h <;> cases h;rename_i x d B;have o1:=ho.one;have L:=dH;have K:=(kn.cons tO).cons Un;refine Good.rqlt (x:=x) (d:=d) (B:=B) (cs:=[]) 0 rfl fun hn hd hdx=> ?_
 have z1:=Kw hn
 have hd2:x.den<2^(B+1):=by
   rw[Nat.pow_succ]
   have:=Nat.two_pow_pos B;omega
 have z2:=pF hd2;have v0:(max B 64)<=LIM:=by first | omega | (unfold LIM at*;omega) | (show _+1<=big;unfold big LIM at*;omega) | (rw[ByteArray.size_append,qH];show _+1+_<=big;unfold big LIM at*;omega)
 have v1:B<=LIM:=by first | omega | (unfold LIM at*;omega) | (show _+1<=big;unfold big LIM at*;omega) | (rw[ByteArray.size_append,qH];show _+1+_<=big;unfold big LIM at*;omega)
 rcases Bool.eq_false_or_eq_true ((zB (x.den:Int)).toList==(ByteArray.mk #[49]).toList) with h1 | h1
 · refine rF K [(12,tt)] (.a3 v1 v0 (show Ref (.bool ((zB (x.den:Int)).toList==(ByteArray.mk #[49]).toList)) (.bool true) from Ref.bool h1)) (V:=.str (zB x.num)) ?_
   rw[tE,qH,Ce] at h1;exact Ref.eq (by unfold qB;rw[if_pos h1])
 · refine rF K [(12,ff)] (.a5 v1 v0 (show Ref (.bool ((zB (x.den:Int)).toList==(ByteArray.mk #[49]).toList)) (.bool false) from Ref.bool h1) (show(zB x.num).size+(ByteArray.mk #[47]).size<=big by first | omega | (unfold LIM at*;omega) | (show _+1<=big;unfold big LIM at*;omega) | (rw[ByteArray.size_append,qH];show _+1+_<=big;unfold big LIM at*;omega)) (show((zB x.num)++(ByteArray.mk #[47])).size+(zB (x.den:Int)).size<=big by first | omega | (unfold LIM at*;omega) | (show _+1<=big;unfold big LIM at*;omega) | (rw[ByteArray.size_append,qH];show _+1+_<=big;unfold big LIM at*;omega))) (V:=.str (((zB x.num)++(ByteArray.mk #[47]))++(zB (x.den:Int)))) ?_
   replace h1:¬ ((zB (x.den:Int)).toList==(ByteArray.mk #[49]).toList)=true:=by rw[h1];decide
   rw[tE,qH,Ce] at h1;exact Ref.eq (by unfold qB;rw[if_neg h1,qH])
theorem uV (x:Rat):((0:Int)<(((aI (aD b32 (x.den-1))).length:Nat):Int))↔¬ x.den=1:=by
 have h1:=dA (b:=b32) (n:=x.den-1) (by decide);have h2:=x.den_pos;rw[aB];omega
def RL:KF
 | [.agg [.q x B]]=>some (.str (qB x),[B+100<=LIM])
 | _=>none
theorem Up:bO 100 RL:=by
 refine cJ Tryz.f100 fun _ _ _ S w0 h ho=> ?_
 unfold RL at h;split at h <;> cases h;rename_i x B;have o1:=ho.one;have L:=dH;have K:=(kn.cons CG).cons Um;refine Good.qlt (x:=x) (B:=B) (cs:=[]) 0 rfl fun hn hd=> ?_
 have z1:=pF hn;have hd1:x.den<2^(B+1):=by have:=x.den_pos;rw[Nat.pow_succ];omega
 have z2:=pF hd1;have v0:Ref (.nat (x.den-1) B) (.list 1 (aI (aD b32 (x.den-1)))):=by first | exact Ref.opn | omega | (unfold LIM at*;omega) | (show 1+_<=big;unfold big LIM at*;omega) | (rw[ByteArray.size_append,ByteArray.size_append];show 1+_+(1+_)<=big;unfold big LIM at*;omega) | (rw[ByteArray.size_append];show _+(1+_)<=big;unfold big LIM at*;omega)
 have v1:B<=LIM:=by first | exact Ref.opn | omega | (unfold LIM at*;omega) | (show 1+_<=big;unfold big LIM at*;omega) | (rw[ByteArray.size_append,ByteArray.size_append];show 1+_+(1+_)<=big;unfold big LIM at*;omega) | (rw[ByteArray.size_append];show _+(1+_)<=big;unfold big LIM at*;omega)
 have v3:(ByteArray.mk #[47]).size+(fX x.den).size<=big:=by first | exact Ref.opn | omega | (unfold LIM at*;omega) | (show 1+_<=big;unfold big LIM at*;omega) | (rw[ByteArray.size_append,ByteArray.size_append];show 1+_+(1+_)<=big;unfold big LIM at*;omega) | (rw[ByteArray.size_append];show _+(1+_)<=big;unfold big LIM at*;omega)
 have v4:max B 64+1<=LIM:=by first | exact Ref.opn | omega | (unfold LIM at*;omega) | (show 1+_<=big;unfold big LIM at*;omega) | (rw[ByteArray.size_append,ByteArray.size_append];show 1+_+(1+_)<=big;unfold big LIM at*;omega) | (rw[ByteArray.size_append];show _+(1+_)<=big;unfold big LIM at*;omega)
 have v5:(B+1)<=LIM:=by first | exact Ref.opn | omega | (unfold LIM at*;omega) | (show 1+_<=big;unfold big LIM at*;omega) | (rw[ByteArray.size_append,ByteArray.size_append];show 1+_+(1+_)<=big;unfold big LIM at*;omega) | (rw[ByteArray.size_append];show _+(1+_)<=big;unfold big LIM at*;omega)
 by_cases h1:x.num<0
 · have v2:(ByteArray.mk #[45]).size+(fX x.num.natAbs).size<=big:=by first | exact Ref.opn | omega | (unfold LIM at*;omega) | (show 1+_<=big;unfold big LIM at*;omega) | (rw[ByteArray.size_append,ByteArray.size_append];show 1+_+(1+_)<=big;unfold big LIM at*;omega) | (rw[ByteArray.size_append];show _+(1+_)<=big;unfold big LIM at*;omega)
   by_cases h2:(0:Int)<(((aI (aD b32 (x.den-1))).length:Nat):Int)
   · refine rF K [(10,tt),(14,.list 1 (aI (aD b32 (x.den-1)))),(16,tt)] (.c6 v1 (iT h1) v2 v0 (iT h2) v4 (.a3 v5 v3 (show((ByteArray.mk #[45])++(fX x.num.natAbs)).size+((ByteArray.mk #[47])++(fX x.den)).size<=big by first | exact Ref.opn | omega | (unfold LIM at*;omega) | (show 1+_<=big;unfold big LIM at*;omega) | (rw[ByteArray.size_append,ByteArray.size_append];show 1+_+(1+_)<=big;unfold big LIM at*;omega) | (rw[ByteArray.size_append];show _+(1+_)<=big;unfold big LIM at*;omega)))) (V:=.str (((ByteArray.mk #[45])++(fX x.num.natAbs))++((ByteArray.mk #[47])++(fX x.den)))) ?_
     rw[uV] at h2;exact Ref.eq (by unfold qB zB;rw[if_neg h2,if_pos h1];simp only[ByteArray.append_assoc])
   · refine rF K [(10,tt),(14,.list 1 (aI (aD b32 (x.den-1)))),(16,ff)] (.a5 v1 (iT h1) v2 v0 (iF h2)) (V:=.str ((ByteArray.mk #[45])++(fX x.num.natAbs))) ?_
     rw[uV] at h2;replace h2:=Decidable.not_not.1 h2;exact Ref.eq (by unfold qB zB;rw[if_pos h2,if_pos h1])
 · by_cases h2:(0:Int)<(((aI (aD b32 (x.den-1))).length:Nat):Int)
   · refine rF K [(10,ff),(14,.list 1 (aI (aD b32 (x.den-1)))),(16,tt)] (.c6 v1 (iF h1) v0 (iT h2) v4 v5 (.a2 v3 (show(fX x.num.natAbs).size+((ByteArray.mk #[47])++(fX x.den)).size<=big by first | exact Ref.opn | omega | (unfold LIM at*;omega) | (show 1+_<=big;unfold big LIM at*;omega) | (rw[ByteArray.size_append,ByteArray.size_append];show 1+_+(1+_)<=big;unfold big LIM at*;omega) | (rw[ByteArray.size_append];show _+(1+_)<=big;unfold big LIM at*;omega)))) (V:=.str ((fX x.num.natAbs)++((ByteArray.mk #[47])++(fX x.den)))) ?_
     rw[uV] at h2;exact Ref.eq (by unfold qB zB;rw[if_neg h2,if_neg h1];simp only[ByteArray.append_assoc])
   · refine rF K [(10,ff),(14,.list 1 (aI (aD b32 (x.den-1)))),(16,ff)] (.a4 v1 (iF h1) v0 (iF h2)) (V:=.str (fX x.num.natAbs)) ?_
     rw[uV] at h2;replace h2:=Decidable.not_not.1 h2;exact Ref.eq (by unfold qB zB;rw[if_pos h2,if_neg h1])
def Vl:KF
 | [.agg [.q x B],.agg [.rq y d C]]=>some (.bool true,[x=y,B+100<=LIM,C+100<=LIM])
 | _=>none
theorem VK:bO 72 Vl:=by
 refine cJ Tryz.f72 fun _ _ _ S w0 h ho=> ?_
 unfold Vl at h;split at h <;> cases h;rename_i x B y d C;obtain⟨o1,o2,o3⟩:=ho.e3;have K:=(kn.cons Uo).cons Up;exact rR K [(9,tt)] (.a3 o2 o3 (show Ref (.bool ((qB x).toList==(qB y).toList)) (.bool true) by first | assumption | exact Ref.bool (tE.2 (by rw[o1]))))
def Vm:KF
 | [.agg [.q a A,.q b B,.q d D],.agg [.rq x e X,.rq y f Y,.rq z g Z]]=>some (.bool true,[a=x,b=y,d=z,A+100<=LIM,X+100<=LIM,B+100<=LIM,Y+100<=LIM,D+100<=LIM,Z+100<=LIM])
 | _=>none
theorem VL:bO 47 Vm:=by
 refine cJ Tryz.f47 fun _ _ _ S w0 h ho=> ?_
 unfold Vm at h;split at h <;> cases h;rename_i a A b B d D x e X y f Y z g Z;obtain⟨o1,o2,o3,o4,o5,o6,o7,o8,o9⟩:=ho.e9;have K:=kn.cons VK;exact rR K [] (.c6 o1 o4 o5 o2 o6 o7 (.a3 o3 o8 o9))
def gT:=(((((((((((kn.cons Vy).cons VL).cons VJ).cons Ua).cons VI).cons Uf).cons VH).cons Sg).cons VF).cons Vo).cons Vq).cons Vw
structure PostD where
 a:NumD
 b:NumD
 d:NumD
 c:NumD
 e:NumD
 f:NumD
 deriving Inhabited
abbrev RM (m:MachD) (p:PoseD) (x:PtD) (y:BendD) (X:Sd) (Z:Sd):List (Option ABlk):=[some ⟨48,5,false,[(iV 300 m)],none⟩,some ⟨71,13,false,[[.rq p.at_.x p.at_.x.den 300,.rq p.at_.z p.at_.z.den 300,.rq p.turn p.turn.den 300,.list 4 (p.joints.map (cU 300))]],none⟩,some ⟨68,8,false,[(iK 300 x)],none⟩,some ⟨123,25,false,[[.rq y.a.a y.a.a.den 300,.rq y.a.b y.a.b.den 300,.rq y.a.d y.a.d.den 300,.rq y.b.a y.b.a.den 300,.rq y.b.b y.b.b.den 300,.rq y.b.d y.b.d.den 300,.bool y.w]],none⟩,some ⟨106,9,false,[(eL 2251385 X)],none⟩,some ⟨106,9,false,[(eL 2251385 Z)],none⟩]
abbrev RN (ff:Func):List Item:=[.code (aR [1,1,1,1,1,1,1,1,1,1,0,0] (aA ff)),.code (aR [1,1,1,1,1,1,1,1,1,1,0,1] (aA ff)),.code (aR [1,1,1,1,1,1,1,1,1,1,1] (aA ff))]
section
variable {S0 C0:Nat->Prop} {w0:World} {Post:Value->World->Prop}
theorem MU (r:RigD) (sd:StandD) (b:Int) (xs:SpotD) (pq:PostD) (m:MachD) (p:PoseD) (x:PtD) (y:BendD) (h1:(!(r.small))=true) (o:(Ref (.bool ((iC [(AV.list 26 (r.limbs.map dS)),(AV.list 17 (r.springs.map cG)),(AV.list 17 (r.tendons.map cG)),(AV.list 13 (r.drives.map eA)),(AV.list 5 (r.soles.map dT))]).small)) (.bool (r.small)))/\((cV r)=cV (iC (cV r))))
   (hg:Good Tryz.prog 5 S0 C0 w0 Post [.code .ret,.code (aR [1,1] (aA Tryz.f5))] ⟨slots 149 [(2,.i6 b),(10,.bool true)],[]⟩):
   Good Tryz.prog 5 S0 C0 w0 Post [.code (aR [] (aA Tryz.f5))] ⟨slots 149 [(0,.agg (cV r)),(1,.agg [.i6 sd.at_.x.n,.i6 sd.at_.x.d,.int .u8 sd.at_.x.p,.i6 sd.at_.z.n,.i6 sd.at_.z.d,.int .u8 sd.at_.z.p,.i6 sd.turn.n,.i6 sd.turn.d,.int .u8 sd.turn.p,.list 3 (sd.joints.map unNum)]),(2,.i6 b),(3,.agg (unSpot xs)),(4,.agg [.i6 pq.a.n,.i6 pq.a.d,.int .u8 pq.a.p,.i6 pq.b.n,.i6 pq.b.d,.int .u8 pq.b.p,.i6 pq.d.n,.i6 pq.d.d,.int .u8 pq.d.p,.i6 pq.c.n,.i6 pq.c.d,.int .u8 pq.c.p,.i6 pq.e.n,.i6 pq.e.d,.int .u8 pq.e.p,.i6 pq.f.n,.i6 pq.f.d,.int .u8 pq.f.p])],[]⟩:=
 tN mixed aX gT 13 (some 7) [2,10,11,12,13,14,15,16,17,18] [] [(28,(.bool (r.small))),(30,(.bool true))] (ob:=[Ref (.bool ((iC [(AV.list 26 (r.limbs.map dS)),(AV.list 17 (r.springs.map cG)),(AV.list 17 (r.tendons.map cG)),(AV.list 13 (r.drives.map eA)),(AV.list 5 (r.soles.map dT))]).small)) (.bool (r.small)),(cV r)=cV (iC (cV r)),Ref (.bool (!(r.small))) (.bool true)]) (by decide) (by kernel_rfl)
   (.cons (o.1) (.cons (o.2) (.cons (Ref.bool h1) (AllP.nil)))) hg
theorem AN (m:MachD) (p:PoseD) (b:Int) (x:PtD) (y:BendD) (X Z:Sd) (e w:Int) (h1:¬ (w=(0:Int))) (o:(Ref (.bool (decide (e=w))) (.bool true))/\(X.a=0)/\(X.b=0)/\(X.d=0)/\(2251385+100<=LIM)/\(0+100<=LIM)/\(Z.a=0)/\(Z.b=0)/\(Z.d=0))
   (hg:Good Tryz.prog 5 S0 C0 w0 Post [.code .ret,.code (aR [1,1,1,1,1,1,1,1,1,1,1] (aA Tryz.f5))] ⟨slots 149 [(10,.bool true)],[]⟩):
   Good Tryz.prog 5 S0 C0 w0 Post (RN Tryz.f5) ⟨slots 149 [(2,.i6 b),(12,.ptr 0 5 0 0),(14,.ptr 1 13 0 0),(16,.ptr 2 8 0 0),(18,.ptr 3 25 0 0),(19,.ptr 4 9 0 0),(20,.ptr 5 9 0 0),(21,.i6 e),(22,.i6 w)],(RM m p x y X Z)⟩:=
 tN mixed aX gT 9 none [10] [] [(108,(.bool true)),(111,(.bool true))] (ob:=[Ref (.bool (!decide (w=(0:Int)))) (.bool true),Ref (.bool (decide (e=w))) (.bool true),X.a=0,X.b=0,X.d=0,2251385+100<=LIM,0+100<=LIM,2251385+100<=LIM,0+100<=LIM,2251385+100<=LIM,0+100<=LIM,Z.a=0,Z.b=0,Z.d=0,2251385+100<=LIM,0+100<=LIM,2251385+100<=LIM,0+100<=LIM,2251385+100<=LIM,0+100<=LIM]) (by decide) (by kernel_rfl)
   (.cons (Ref.bool (congrArg Bool.not (decide_eq_false h1))) (.cons (o.1) (.cons (o.2.1) (.cons (o.2.2.1) (.cons (o.2.2.2.1) (.cons (o.2.2.2.2.1) (.cons (o.2.2.2.2.2.1) (.cons (o.2.2.2.2.1) (.cons (o.2.2.2.2.2.1) (.cons (o.2.2.2.2.1) (.cons (o.2.2.2.2.2.1) (.cons (o.2.2.2.2.2.2.1) (.cons (o.2.2.2.2.2.2.2.1) (.cons (o.2.2.2.2.2.2.2.2) (.cons (o.2.2.2.2.1) (.cons (o.2.2.2.2.2.1) (.cons (o.2.2.2.2.1) (.cons (o.2.2.2.2.2.1) (.cons (o.2.2.2.2.1) (.cons (o.2.2.2.2.2.1) (AllP.nil))))))))))))))))))))) hg
theorem CX (m:MachD) (p:PoseD) (b:Int) (x:PtD) (y:BendD) (X Z:Sd) (d1 d2 d3 e1 e2 e3:Nat)  (o:(Ref (.tup [(xX (cM (iS (mR (m.bodies.map (aK 300))) ⟨⟨p.at_.x,p.at_.z⟩,p.turn,(p.joints.map (cU 300)).map dO⟩ b) (jS (mR (m.bodies.map (aK 300))) b).at_ ⟨x.x,x.z⟩ ⟨⟨y.a.a,y.a.b,y.a.d⟩,⟨y.b.a,y.b.b,y.b.d⟩,y.w⟩).x (aC ⟨⟨y.a.a,y.a.b,y.a.d⟩,⟨y.b.a,y.b.b,y.b.d⟩,y.w⟩)),(xX (cM (iS (mR (m.bodies.map (aK 300))) ⟨⟨p.at_.x,p.at_.z⟩,p.turn,(p.joints.map (cU 300)).map dO⟩ b) (jS (mR (m.bodies.map (aK 300))) b).at_ ⟨x.x,x.z⟩ ⟨⟨y.a.a,y.a.b,y.a.d⟩,⟨y.b.a,y.b.b,y.b.d⟩,y.w⟩).z (aC ⟨⟨y.a.a,y.a.b,y.a.d⟩,⟨y.b.a,y.b.b,y.b.d⟩,y.w⟩))]) (.tup [.agg [.rq X.a d1 3942209,.rq X.b d2 3942209,.rq X.d d3 3942209],.agg [.rq Z.a e1 3942209,.rq Z.b e2 3942209,.rq Z.d e3 3942209]]))/\((m.bodies.map (aK 300))=((m.bodies.map (aK 300)).map tD).map (aK 300))/\((p.joints.map (cU 300))=((p.joints.map (cU 300)).map dO).map (cU 300))/\(Cj 300 (mR (m.bodies.map (aK 300))) ⟨⟨p.at_.x,p.at_.z⟩,p.turn,(p.joints.map (cU 300)).map dO⟩)/\((mR (m.bodies.map (aK 300))).tree)/\(0<(m.bodies.map (aK 300)).length)/\((m.bodies.map (aK 300)).length<=8)/\((p.joints.map (cU 300)).length+1=(m.bodies.map (aK 300)).length)/\(0<=b)/\(b<((m.bodies.map (aK 300)).length:Int))/\(0<=(jS (mR (m.bodies.map (aK 300))) b).par)/\((jS (mR (m.bodies.map (aK 300))) b).par<((m.bodies.map (aK 300)).length:Int))/\(0<=(nZ (mR (m.bodies.map (aK 300))) b).par)/\((nZ (mR (m.bodies.map (aK 300))) b).par<((m.bodies.map (aK 300)).length:Int))/\(0<=y.a.d)/\(0<=y.b.d)/\(2251385+100<=LIM)/\(3942209+100<=LIM))
   (hg:Good Tryz.prog 5 S0 C0 w0 Post [.code .ret] ⟨slots 149 [(10,.bool true)],[]⟩):
   Good Tryz.prog 5 S0 C0 w0 Post (RN Tryz.f5) ⟨slots 149 [(2,.i6 b),(12,.ptr 0 5 0 0),(14,.ptr 1 13 0 0),(16,.ptr 2 8 0 0),(18,.ptr 3 25 0 0),(19,.ptr 4 9 0 0),(20,.ptr 5 9 0 0),(21,.i6 (0:Int)),(22,.i6 (0:Int))],(RM m p x y X Z)⟩:=
 tN mixed aX gT 12 none [10] [] [(131,(.tup [.agg [.rq X.a d1 3942209,.rq X.b d2 3942209,.rq X.d d3 3942209],.agg [.rq Z.a e1 3942209,.rq Z.b e2 3942209,.rq Z.d e3 3942209]]))] (ob:=[Ref (.tup [(xX (cM (iS (mR (m.bodies.map (aK 300))) ⟨⟨p.at_.x,p.at_.z⟩,p.turn,(p.joints.map (cU 300)).map dO⟩ b) (jS (mR (m.bodies.map (aK 300))) b).at_ ⟨x.x,x.z⟩ ⟨⟨y.a.a,y.a.b,y.a.d⟩,⟨y.b.a,y.b.b,y.b.d⟩,y.w⟩).x (aC ⟨⟨y.a.a,y.a.b,y.a.d⟩,⟨y.b.a,y.b.b,y.b.d⟩,y.w⟩)),(xX (cM (iS (mR (m.bodies.map (aK 300))) ⟨⟨p.at_.x,p.at_.z⟩,p.turn,(p.joints.map (cU 300)).map dO⟩ b) (jS (mR (m.bodies.map (aK 300))) b).at_ ⟨x.x,x.z⟩ ⟨⟨y.a.a,y.a.b,y.a.d⟩,⟨y.b.a,y.b.b,y.b.d⟩,y.w⟩).z (aC ⟨⟨y.a.a,y.a.b,y.a.d⟩,⟨y.b.a,y.b.b,y.b.d⟩,y.w⟩))]) (.tup [.agg [.rq X.a d1 3942209,.rq X.b d2 3942209,.rq X.d d3 3942209],.agg [.rq Z.a e1 3942209,.rq Z.b e2 3942209,.rq Z.d e3 3942209]]),(m.bodies.map (aK 300))=((m.bodies.map (aK 300)).map tD).map (aK 300),p.at_.x.den=p.at_.x.den,p.at_.z.den=p.at_.z.den,p.turn.den=p.turn.den,300=300,300=300,(p.joints.map (cU 300))=((p.joints.map (cU 300)).map dO).map (cU 300),300=300,Cj 300 (mR (m.bodies.map (aK 300))) ⟨⟨p.at_.x,p.at_.z⟩,p.turn,(p.joints.map (cU 300)).map dO⟩,(mR (m.bodies.map (aK 300))).tree,0<(m.bodies.map (aK 300)).length,(m.bodies.map (aK 300)).length<=8,(p.joints.map (cU 300)).length+1=(m.bodies.map (aK 300)).length,x.x.den=x.x.den,x.z.den=x.z.den,300=300,300=300,0<=b,b<((m.bodies.map (aK 300)).length:Int),0<=(jS (mR (m.bodies.map (aK 300))) b).par,(jS (mR (m.bodies.map (aK 300))) b).par<((m.bodies.map (aK 300)).length:Int),0<=(nZ (mR (m.bodies.map (aK 300))) b).par,(nZ (mR (m.bodies.map (aK 300))) b).par<((m.bodies.map (aK 300)).length:Int),0<=y.a.d,0<=y.b.d,y.a.a.den=y.a.a.den,y.a.b.den=y.a.b.den,y.a.d.den=y.a.d.den,y.b.a.den=y.b.a.den,y.b.b.den=y.b.b.den,y.b.d.den=y.b.d.den,300=300,300=300,300=300,300=300,300=300,300=300,X.a=X.a,X.b=X.b,X.d=X.d,2251385+100<=LIM,3942209+100<=LIM,2251385+100<=LIM,3942209+100<=LIM,2251385+100<=LIM,3942209+100<=LIM,Z.a=Z.a,Z.b=Z.b,Z.d=Z.d,2251385+100<=LIM,3942209+100<=LIM,2251385+100<=LIM,3942209+100<=LIM,2251385+100<=LIM,3942209+100<=LIM]) (by decide) (by kernel_rfl)
   (.cons (o.1) (.cons (o.2.1) (.cons (rfl) (.cons (rfl) (.cons (rfl) (.cons (rfl) (.cons (rfl) (.cons (o.2.2.1) (.cons (rfl) (.cons (o.2.2.2.1) (.cons (o.2.2.2.2.1) (.cons (o.2.2.2.2.2.1) (.cons (o.2.2.2.2.2.2.1) (.cons (o.2.2.2.2.2.2.2.1) (.cons (rfl) (.cons (rfl) (.cons (rfl) (.cons (rfl) (.cons (o.2.2.2.2.2.2.2.2.1) (.cons (o.2.2.2.2.2.2.2.2.2.1) (.cons (o.2.2.2.2.2.2.2.2.2.2.1) (.cons (o.2.2.2.2.2.2.2.2.2.2.2.1) (.cons (o.2.2.2.2.2.2.2.2.2.2.2.2.1) (.cons (o.2.2.2.2.2.2.2.2.2.2.2.2.2.1) (.cons (o.2.2.2.2.2.2.2.2.2.2.2.2.2.2.1) (.cons (o.2.2.2.2.2.2.2.2.2.2.2.2.2.2.2.1) (.cons (rfl) (.cons (rfl) (.cons (rfl) (.cons (rfl) (.cons (rfl) (.cons (rfl) (.cons (rfl) (.cons (rfl) (.cons (rfl) (.cons (rfl) (.cons (rfl) (.cons (rfl) (.cons (rfl) (.cons (rfl) (.cons (rfl) (.cons (o.2.2.2.2.2.2.2.2.2.2.2.2.2.2.2.2.1) (.cons (o.2.2.2.2.2.2.2.2.2.2.2.2.2.2.2.2.2) (.cons (o.2.2.2.2.2.2.2.2.2.2.2.2.2.2.2.2.1) (.cons (o.2.2.2.2.2.2.2.2.2.2.2.2.2.2.2.2.2) (.cons (o.2.2.2.2.2.2.2.2.2.2.2.2.2.2.2.2.1) (.cons (o.2.2.2.2.2.2.2.2.2.2.2.2.2.2.2.2.2) (.cons (rfl) (.cons (rfl) (.cons (rfl) (.cons (o.2.2.2.2.2.2.2.2.2.2.2.2.2.2.2.2.1) (.cons (o.2.2.2.2.2.2.2.2.2.2.2.2.2.2.2.2.2) (.cons (o.2.2.2.2.2.2.2.2.2.2.2.2.2.2.2.2.1) (.cons (o.2.2.2.2.2.2.2.2.2.2.2.2.2.2.2.2.2) (.cons (o.2.2.2.2.2.2.2.2.2.2.2.2.2.2.2.2.1) (.cons (o.2.2.2.2.2.2.2.2.2.2.2.2.2.2.2.2.2) (AllP.nil))))))))))))))))))))))))))))))))))))))))))))))))))))))))) hg
end
noncomputable abbrev MV:List Item:=[.code (aR [1,1,1,1,1,1,1,1,1,0,0] (aA Tryz.f5)),.code (aR [1,1,1,1,1,1,1,1,1,0,1] (aA Tryz.f5)),.code (aR [1,1,1,1,1,1,1,1,1,1] (aA Tryz.f5))]
def PostD.ok (q:PostD):Prop:=q.a.ok/\q.b.ok/\q.d.ok/\q.c.ok/\q.e.ok/\q.f.ok
def CY (q:PostD):List AV:=unNum q.a++unNum q.b++unNum q.d++unNum q.c++unNum q.e++unNum q.f
def PostD.val (q:PostD):BendD:=⟨⟨q.a.val,q.b.val,q.d.val⟩,⟨q.c.val,q.e.val,q.f.val⟩,false⟩
theorem RO (m:MachD) (p:PoseD) (i:Nat):fr (mR (m.bodies.map (aK 300))) ⟨⟨p.at_.x,p.at_.z⟩,p.turn,(p.joints.map (cU 300)).map dO⟩ i=fr m p i:=by
 rw[tF];exact HC m p i i
theorem CZ (m:MachD) (b:Int):jS (mR (m.bodies.map (aK 300))) b=MB (jS m b):=xE m _
theorem Io (m:MachD) (b:Int):nZ (mR (m.bodies.map (aK 300))) b=MB (nZ m b):=by
 unfold nZ;rw[CZ];exact xE m _
theorem Kx (m:MachD) (p:PoseD) (b:Int):iS (mR (m.bodies.map (aK 300))) ⟨⟨p.at_.x,p.at_.z⟩,p.turn,(p.joints.map (cU 300)).map dO⟩ b=iS m p b:=by
 unfold iS;rw[Io];show(⟨mJ (fr _ _ (nZ m b).par.toNat) (nZ m b).at_,(fr _ _ (nZ m b).par.toNat).c,(fr _ _ (nZ m b).par.toNat).s⟩:FrameD)=_;rw[RO]
theorem Cf (m:MachD) (p:PoseD) (b:Int) (x:PtD) (y:BendD):cM (iS (mR (m.bodies.map (aK 300))) ⟨⟨p.at_.x,p.at_.z⟩,p.turn,(p.joints.map (cU 300)).map dO⟩ b) (jS (mR (m.bodies.map (aK 300))) b).at_ x y=cM (iS m p b) (jS m b).at_ x y:=by
 rw[Kx,CZ];rfl
abbrev nS (n:Nm) (d:Rat):Sd:=bS ⟨n.a,n.b,d⟩
abbrev Ld (n:Nm) (d:Rat):Nat:=if (nS n d).d=0 then (nS n d).a.den else n.a.den
abbrev Le (n:Nm) (d:Rat):Nat:=if (nS n d).d=0 then 0 else (nS n d).b.den
abbrev Lf (n:Nm) (d:Rat):Nat:=if (nS n d).d=0 then 0 else (nS n d).d.den
theorem Ip {a b a' b':Nm} {d d':Rat} (ha:a'=a) (hb:b'=b) (hd:d'=d):Ref (.tup [xX a' d',xX b' d']) (.tup [.agg [.rq (nS a d).a (Ld a d) 3942209,.rq (nS a d).b (Le a d) 3942209,.rq (nS a d).d (Lf a d) 3942209],.agg [.rq (nS b d).a (Ld b d) 3942209,.rq (nS b d).b (Le b d) 3942209,.rq (nS b d).d (Lf b d) 3942209]]):=by
 subst ha;subst hb;subst hd;exact rr
theorem AO {S:Nat->Prop} {w0:World} {todo:List Item} {σ:List AV} {h:List (Option ABlk)} (hσ:σ.getD 10 .any= .bool true):GF 5 S w0 (.bool true) (.code .ret::todo) ⟨σ,h⟩:=
 bX aX (fn:=Tryz.f5) (by kernel_rfl) 10 (by kernel_rfl) rfl (by rw[hσ];rfl) (by rw[hσ];exact rr)
theorem DU {x:Rat}:0<Int.sign x.num↔0<x:=by
 have h1:=(cH (x:=x)).1;have h2:=(cH (x:=x)).2;constructor
 · intro h
   rcases Rat.le_iff_lt_or_eq.1 (Rat.not_lt.1 fun k=>by have:=h2.2 k;omega) with k | k
   · exact k
   · have:=h1.2 k.symm;omega
 · intro h
   have k1:¬ Int.sign x.num<0:=fun k=>absurd (h2.1 k) (Rat.not_lt.2 (Rat.le_of_lt h))
   have k2:¬ Int.sign x.num=0:=fun k=>by have:=h1.1 k;rw[this] at h;exact absurd h Rat.lt_irrefl
   omega
theorem EW (r:RigD) (sd:StandD) (b:Int) (xs:SpotD) (pq:PostD) (hr:r.okw) (hs:sd.okw) (hx:xs.ok) (hq:pq.ok):
   qL Tryz.prog 5 [.agg (cV r),.agg (DA sd),.i6 b,.agg (unSpot xs),.agg (CY pq)] (.bool true):=by
 refine af Tryz.f5 fun S w0=> ?_
 have a0:Ref (AV.tup [(AV.agg (aE 300 (iC (cV r)).real)),(AV.agg (iV 300 (iC (cV r)).real))]) (AV.tup [AV.agg (aE 300 r.real),AV.agg (iV 300 r.real)]):=Ref.eq (by rw[rT]);have a1:cV r=cV (iC (cV r)):=by rw[rT]
 have a3:Ref (AV.tup [(AV.agg [(AV.q sd.at_.x.val 300),(AV.q sd.at_.z.val 300),(AV.q sd.turn.val 300),(AV.list 3 (yX ((sd.joints.map unNum).map jE)))]),(AV.agg [(AV.rq sd.at_.x.val sd.at_.x.val.den 300),(AV.rq sd.at_.z.val sd.at_.z.val.den 300),(AV.rq sd.turn.val sd.turn.val.den 300),(AV.list 4 (yY ((sd.joints.map unNum).map jE)))])]) (AV.tup [AV.agg (bB 300 sd.real),AV.agg (mH 300 sd.real)]):=Ref.eq (by rw[wP];rfl);obtain⟨s1,s2,s3⟩:=hs;obtain⟨q1,q2,q3,q4,q5,q6⟩:=hq;have a4:sd.joints.map unNum=((sd.joints.map unNum).map jE).map unNum:=by rw[wP]
 have a5:∀ s∈(sd.joints.map unNum).map jE,s.ok:=by rw[wP];exact s3
 have a7:Ref (AV.bool (iC (cV r)).small) (AV.bool r.small):=Ref.eq (by rw[rT]);have hjl:sd.real.joints.length=sd.joints.length:=by simp[StandD.real]
 have a9:aE 300 r.real=aE 300 (aG (aE 300 r.real)):=by rw[aW]
 have a13:Ref (.list 3 (sd.real.joints.map (dU 300))) (.list 3 (((sd.real.joints.map (dU 300)).map gX).map (dU 300))):=Ref.eq (by rw[jK]);cases h1:r.small with
 | false=>exact MU r sd b xs pq r.real sd.real xs.pt pq.val (by rw[h1];rfl) ⟨a7,a1⟩ (AO rfl)
 | true=>
   have h1':(!(r.small))=false:=by rw[h1];rfl
   have hk:=hr.small h1;have a2:(iC (cV r)).ok:=by rw[rT];exact hk
   have hms:=CS hk;have a10:(aG (aE 300 r.real)).small:=by rw[aW];exact hms
   have h8:r.real.bodies.length<=8:=by rw[HA];exact Kb h1
   have a12:(aG (aE 300 r.real)).bodies.length<=8:=by rw[aW];exact h8
   have v2:Ref (.bool (!(r.small))) (.bool false):=Ref.bool h1'
   by_cases h2:(9:Int)<(((sd.joints.map unNum).length:Nat):Int)
   · refine gR gT (some 7) [10] [] [(28,.bool (r.small)),(30,ff),(35,tt)] (.a4 a7 a1 v2 (iT h2)) (t:=[.code .ret,.code (aR [1,1] (aA Tryz.f5))]) (σ:=slots 149 [(10,.bool true)]) (h:=[]) (AO rfl)
   · have s4 :sd.joints.length<=9:=by rw[bM] at h2;omega
     have a6:(sd.joints.map unNum).length*128<=140737488355328:=by rw[bM];omega
     have a11:(sd.real.joints.map (dU 300)).length<=4611686018427387904:=by rw[bM,hjl];omega
     have rx0:Ref (AV.tup [.agg [.q xs.x.val 300,.q xs.z.val 300],.agg [.rq xs.x.val xs.x.val.den 300,.rq xs.z.val xs.z.val.den 300]]) (.tup [.agg [.q xs.pt.x 300,.q xs.pt.z 300],.agg [.rq xs.pt.x xs.pt.x.den 300,.rq xs.pt.z xs.pt.z.den 300]]):=rr;have rq0:Ref (AV.tup [.agg [.q pq.a.val 300,.q pq.b.val 300,.q pq.d.val 300,.q pq.c.val 300,.q pq.e.val 300,.q pq.f.val 300,.bool false],.agg [.rq pq.a.val pq.a.val.den 300,.rq pq.b.val pq.b.val.den 300,.rq pq.d.val pq.d.val.den 300,.rq pq.c.val pq.c.val.den 300,.rq pq.e.val pq.e.val.den 300,.rq pq.f.val pq.f.val.den 300,.bool false]]) (.tup [.agg [.q pq.val.a.a 300,.q pq.val.a.b 300,.q pq.val.a.d 300,.q pq.val.b.a 300,.q pq.val.b.b 300,.q pq.val.b.d 300,.bool pq.val.w],.agg [.rq pq.val.a.a pq.val.a.a.den 300,.rq pq.val.a.b pq.val.a.b.den 300,.rq pq.val.a.d pq.val.a.d.den 300,.rq pq.val.b.a pq.val.b.a.den 300,.rq pq.val.b.b pq.val.b.b.den 300,.rq pq.val.b.d pq.val.b.d.den 300,.bool pq.val.w]]):=rr;refine gR gT (some 7) [2,11,12,13,14,15,16,17,18] [6,7,9,10,12,13,15,16] [(28,.bool (r.small)),(30,ff),(35,ff),(39,.tup [.agg (aE 300 r.real),.agg (iV 300 r.real)]),(44,.tup [.agg [.q sd.real.at_.x 300,.q sd.real.at_.z 300,.q sd.real.turn 300,.list 3 (sd.real.joints.map (dU 300))],.agg [.rq sd.real.at_.x sd.real.at_.x.den 300,.rq sd.real.at_.z sd.real.at_.z.den 300,.rq sd.real.turn sd.real.turn.den 300,.list 4 (sd.real.joints.map (cU 300))]]),(49,.tup [.agg [.q xs.pt.x 300,.q xs.pt.z 300],.agg (iK 300 xs.pt)]),(54,.tup [.agg (cR 300 300 300 300 pq.val),.agg [.rq pq.val.a.a pq.val.a.a.den 300,.rq pq.val.a.b pq.val.a.b.den 300,.rq pq.val.a.d pq.val.a.d.den 300,.rq pq.val.b.a pq.val.b.a.den 300,.rq pq.val.b.b pq.val.b.b.den 300,.rq pq.val.b.d pq.val.b.d.den 300,.bool pq.val.w]])] (.c6 a7 a1 v2 (iF h2) a0 a1 (.c6 a2 a3 s1.1 s1.2 s2 a4 (.c6 a5 a6 rx0 hx.1 hx.2 rq0 (.a6 q1 q2 q3 q4 q5 q6)))) (t:=[.code (aR [1,1,1,1,1,1,0] (aA Tryz.f5)),.code (aR [1,1,1,1,1,1,1] (aA Tryz.f5))]) (σ:=slots 149 [(2,.i6 b),(11,.ptr 0 6 0 0),(12,.ptr 1 5 0 0),(13,.ptr 2 10 0 0),(14,.ptr 3 13 0 0),(15,.ptr 4 6 0 0),(16,.ptr 5 8 0 0),(17,.ptr 6 19 0 0),(18,.ptr 7 25 0 0)]) (h:=[some ⟨41,6,false,[(aE 300 r.real)],none⟩,some ⟨48,5,false,[(iV 300 r.real)],none⟩,some ⟨61,10,false,[[.q sd.real.at_.x 300,.q sd.real.at_.z 300,.q sd.real.turn 300,.list 3 (sd.real.joints.map (dU 300))]],none⟩,some ⟨71,13,false,[[.rq sd.real.at_.x sd.real.at_.x.den 300,.rq sd.real.at_.z sd.real.at_.z.den 300,.rq sd.real.turn sd.real.turn.den 300,.list 4 (sd.real.joints.map (cU 300))]],none⟩,some ⟨58,6,false,[[.q xs.pt.x 300,.q xs.pt.z 300]],none⟩,some ⟨68,8,false,[(iK 300 xs.pt)],none⟩,some ⟨110,19,false,[(cR 300 300 300 300 pq.val)],none⟩,some ⟨123,25,false,[[.rq pq.val.a.a pq.val.a.a.den 300,.rq pq.val.a.b pq.val.a.b.den 300,.rq pq.val.a.d pq.val.a.d.den 300,.rq pq.val.b.a pq.val.b.a.den 300,.rq pq.val.b.b pq.val.b.b.den 300,.rq pq.val.b.d pq.val.b.d.den 300,.bool pq.val.w]],none⟩]) ?_
     have a14:(r.real.bodies.map (aH 300)).length<=4611686018427387904:=by rw[bM];omega
     generalize hm:r.real=m at*;generalize hp:sd.real=p at*;generalize hy:pq.val=y at*;generalize hxx:xs.pt=x at*;refine Good.seen (b:=⟨41,6,false,[aE 300 m],none⟩) (el:=aE 300 m) 0 0 (by rfl) (by rfl) fun k0=> ?_
     refine Good.seen (b:=⟨61,10,false,[bB 300 p],none⟩) (el:=bB 300 p) 2 0 (by rfl) (by rfl) fun k1=> ?_
     obtain⟨_,_,_,_,_,k0⟩:=k0;obtain⟨_,_,_,_,_,k1⟩:=k1;have hB:=GT k0 k1;have rL:∀ w:Int,dP m p.joints.length b=w->Ref (.i6 (dP (aG (aE 300 m)) (p.joints.map (dU 300)).length b)) (.i6 w):=fun w e=>Ref.eq (by rw[aW,bM,e])
     have rX:∀ (X Z:Sd) (e:Int),dL m p b x y=(X,Z)->fD m p.joints.length b y=e->Ref (.tup [.agg [.q (dL (aG (aE 300 m)) ⟨⟨p.at_.x,p.at_.z⟩,p.turn,(p.joints.map (dU 300)).map gX⟩ b x y).1.a 2251385,.q (dL (aG (aE 300 m)) ⟨⟨p.at_.x,p.at_.z⟩,p.turn,(p.joints.map (dU 300)).map gX⟩ b x y).1.b 2251385,.q (dL (aG (aE 300 m)) ⟨⟨p.at_.x,p.at_.z⟩,p.turn,(p.joints.map (dU 300)).map gX⟩ b x y).1.d 2251385],
         .agg [.q (dL (aG (aE 300 m)) ⟨⟨p.at_.x,p.at_.z⟩,p.turn,(p.joints.map (dU 300)).map gX⟩ b x y).2.a 2251385,.q (dL (aG (aE 300 m)) ⟨⟨p.at_.x,p.at_.z⟩,p.turn,(p.joints.map (dU 300)).map gX⟩ b x y).2.b 2251385,.q (dL (aG (aE 300 m)) ⟨⟨p.at_.x,p.at_.z⟩,p.turn,(p.joints.map (dU 300)).map gX⟩ b x y).2.d 2251385],.i6 (fD (aG (aE 300 m)) (p.joints.map (dU 300)).length b y)])
         (.tup [.agg [.q X.a 2251385,.q X.b 2251385,.q X.d 2251385],.agg [.q Z.a 2251385,.q Z.b 2251385,.q Z.d 2251385],.i6 e]):=fun X Z e h1 h2=>Ref.eq (by
       rw[aW,jK,bM];show AV.tup [.agg [.q (dL m p b x y).1.a 2251385,.q (dL m p b x y).1.b 2251385,.q (dL m p b x y).1.d 2251385],.agg [.q (dL m p b x y).2.a 2251385,.q (dL m p b x y).2.b 2251385,.q (dL m p b x y).2.d 2251385],.i6 (fD m p.joints.length b y)]=_
       rw[h1,h2])
     have z0:(0:Rat)=0:=rfl;have z5:(0:Int)=0:=rfl;have two0:¬ (2:Int)=0:=by decide
     have w22:Ref (.bool (decide ((2:Int)=2))) (.bool true):=Ref.bool (by decide);have z1:2251385+100<=LIM:=by decide
     have z2:0+100<=LIM:=by decide
     have z3:max 300 64+max 300 64+300+300+300<=LIM:=by decide
     have z4:3942209+100<=LIM:=by decide
     have v0:300<=300:=by decide
     have v1:300<=100000:=by decide
     by_cases h3:dP m p.joints.length b=0
     · obtain⟨t1,t2,t3,t4,t5,t6,t7⟩:=zG h3
       obtain⟨hc,hn⟩:=qE t1
       by_cases hE:y.a.d<0\/y.b.d<0\/(y.b.d≠0/\aC y≠y.b.d)
       · have e1:fD m p.joints.length b y=2:=by rw[fD,if_pos h3,if_pos hE]
         have e2:dL m p b x y=(⟨0,0,0⟩,⟨0,0,0⟩):=if_neg (by rw[e1];decide);have rx:=rX _ _ _ e2 e1;have rl:=rL 0 h3;refine gR gT (some 10) [2,12,14,16,18,19,20,21,22,23,24] [1,3,5,7,9,10] [(63,.tup [.agg (eL 2251385 (⟨0,0,0⟩:Sd)),.agg (eL 2251385 (⟨0,0,0⟩:Sd)),.i6 (2:Int)]),(70,.i6 (0:Int))] (.c6 rx a9 a10 a12 v0 v0 (.c6 v1 a13 a11 (rfl:300=300) (rfl:300=300) (rfl:300=300) (.c6 (rfl:300=300) (rfl:300=300) (rfl:300=300) (rfl:300=300) (rfl:300=300) (rfl:300=300) (.c6 rl a9 a10 a12 v0 v0 (.a3 v1 a13 a11))))) (t:=MV) (σ:=slots 149 [(2,.i6 b),(12,.ptr 0 5 0 0),(14,.ptr 1 13 0 0),(16,.ptr 2 8 0 0),(18,.ptr 3 25 0 0),(19,.ptr 4 9 0 0),(20,.ptr 5 9 0 0),(21,.i6 (2:Int)),(22,.i6 (0:Int)),(23,.i6 (Int.sign y.a.d.num)),(24,.i6 (Int.sign y.b.d.num))]) (h:=[some ⟨48,5,false,[(iV 300 m)],none⟩,some ⟨71,13,false,[[.rq p.at_.x p.at_.x.den 300,.rq p.at_.z p.at_.z.den 300,.rq p.turn p.turn.den 300,.list 4 (p.joints.map (cU 300))]],none⟩,some ⟨68,8,false,[(iK 300 x)],none⟩,some ⟨123,25,false,[[.rq y.a.a y.a.a.den 300,.rq y.a.b y.a.b.den 300,.rq y.a.d y.a.d.den 300,.rq y.b.a y.b.a.den 300,.rq y.b.b y.b.b.den 300,.rq y.b.d y.b.d.den 300,.bool y.w]],none⟩,some ⟨106,9,false,[(eL 2251385 (⟨0,0,0⟩:Sd))],none⟩,some ⟨106,9,false,[(eL 2251385 (⟨0,0,0⟩:Sd))],none⟩]) ?_
         by_cases g1:y.a.d<0
         · have s1:=cH.2.2 g1
           exact gR gT (some 12) [2,12,14,16,18,19,20,21,22] [0,1,2,3,4,5] [(81,tt),(84,tt)] (.a2 (iT z5) (iT s1)) (AN m p b x y (⟨0,0,0⟩:Sd) (⟨0,0,0⟩:Sd) (2:Int) (2:Int) two0 ⟨w22,z0,z0,z0,z1,z2,z0,z0,z0⟩ (AO rfl))
         · have g1':¬ Int.sign y.a.d.num<0:=fun e=>g1 (cH.2.1 e)
           by_cases g2:y.b.d<0
           · have s2:=cH.2.2 g2
             exact gR gT (some 12) [2,12,14,16,18,19,20,21,22] [0,1,2,3,4,5] [(81,tt),(84,ff),(88,tt)] (.a3 (iT z5) (iF g1') (iT s2)) (AN m p b x y (⟨0,0,0⟩:Sd) (⟨0,0,0⟩:Sd) (2:Int) (2:Int) two0 ⟨w22,z0,z0,z0,z1,z2,z0,z0,z0⟩ (AO rfl))
           · have g2':¬ Int.sign y.b.d.num<0:=fun e=>g2 (cH.2.1 e)
             obtain⟨u1,u2⟩:=(hE.resolve_left g1).resolve_left g2;have u3:¬ y.a.d=0:=fun e=>u2 (if_pos e)
             have u4:aC y=y.a.d:=if_neg u3;rw[u4] at u2;have c1:0<Int.sign y.a.d.num:=DU.2 (Rat.lt_of_le_of_ne (Rat.not_lt.1 g1) (Ne.symm u3));have c2:0<Int.sign y.b.d.num:=DU.2 (Rat.lt_of_le_of_ne (Rat.not_lt.1 g2) (Ne.symm u1));have c3:¬ fJ (y.a.d.num*(y.b.d.den:Int)) (y.b.d.num*(y.a.d.den:Int))=0:=fun e=>u2 ((Lc _ _).1 e)
             exact gR gT (some 12) [2,12,14,16,18,19,20,21,22] [0,1,2,3,4,5] [(81,tt),(84,ff),(88,ff),(91,tt),(95,tt),(106,tt)] (.c6 (iT z5) (iF g1') (iF g2') (iT c1) (iT c2) z3 (.a1 (jT c3))) (AN m p b x y (⟨0,0,0⟩:Sd) (⟨0,0,0⟩:Sd) (2:Int) (2:Int) two0 ⟨w22,z0,z0,z0,z1,z2,z0,z0,z0⟩ (AO rfl))
       · have e1:fD m p.joints.length b y=0:=by rw[fD,if_pos h3,if_neg hE]
         have g1:¬ y.a.d<0:=fun e=>hE (.inl e)
         have g2:¬ y.b.d<0:=fun e=>hE (.inr (.inl e))
         have n1:=Rat.not_lt.1 g1;have n2:=Rat.not_lt.1 g2;have hF:0<=aC y:=by unfold aC;split;exact n2;exact n1
         have hs0:∀ n:Nm,mU (aC y) n=nS n (aC y):=fun n=>if_neg fun e=>absurd (cH.2.1 e) (Rat.not_lt.2 hF)
         have e2:dL m p b x y=(nS (cM (iS m p b) (jS m b).at_ x y).x (aC y),nS (cM (iS m p b) (jS m b).at_ x y).z (aC y)):=by
           rw[<- hs0, <- hs0];exact if_pos e1
         obtain⟨V,hV⟩:∃ V,V=cM (iS m p b) (jS m b).at_ x y:=⟨_,rfl⟩;rw[<- hV] at e2;have rx:=rX _ _ _ e2 e1;have rl:=rL 0 h3;refine gR gT (some 10) [2,12,14,16,18,19,20,21,22,23,24] [1,3,5,7,9,10] [(63,.tup [.agg [.q (nS V.x (aC y)).a 2251385,.q (nS V.x (aC y)).b 2251385,.q (nS V.x (aC y)).d 2251385],.agg [.q (nS V.z (aC y)).a 2251385,.q (nS V.z (aC y)).b 2251385,.q (nS V.z (aC y)).d 2251385],.i6 (0:Int)]),(70,.i6 (0:Int))] (.c6 rx a9 a10 a12 v0 v0 (.c6 v1 a13 a11 (rfl:300=300) (rfl:300=300) (rfl:300=300) (.c6 (rfl:300=300) (rfl:300=300) (rfl:300=300) (rfl:300=300) (rfl:300=300) (rfl:300=300) (.c6 rl a9 a10 a12 v0 v0 (.a3 v1 a13 a11))))) (t:=MV) (σ:=slots 149 [(2,.i6 b),(12,.ptr 0 5 0 0),(14,.ptr 1 13 0 0),(16,.ptr 2 8 0 0),(18,.ptr 3 25 0 0),(19,.ptr 4 9 0 0),(20,.ptr 5 9 0 0),(21,.i6 (0:Int)),(22,.i6 (0:Int)),(23,.i6 (Int.sign y.a.d.num)),(24,.i6 (Int.sign y.b.d.num))]) (h:=[some ⟨48,5,false,[(iV 300 m)],none⟩,some ⟨71,13,false,[[.rq p.at_.x p.at_.x.den 300,.rq p.at_.z p.at_.z.den 300,.rq p.turn p.turn.den 300,.list 4 (p.joints.map (cU 300))]],none⟩,some ⟨68,8,false,[(iK 300 x)],none⟩,some ⟨123,25,false,[[.rq y.a.a y.a.a.den 300,.rq y.a.b y.a.b.den 300,.rq y.a.d y.a.d.den 300,.rq y.b.a y.b.a.den 300,.rq y.b.b y.b.b.den 300,.rq y.b.d y.b.d.den 300,.bool y.w]],none⟩,some ⟨106,9,false,[[.q (nS V.x (aC y)).a 2251385,.q (nS V.x (aC y)).b 2251385,.q (nS V.x (aC y)).d 2251385]],none⟩,some ⟨106,9,false,[[.q (nS V.z (aC y)).a 2251385,.q (nS V.z (aC y)).b 2251385,.q (nS V.z (aC y)).d 2251385]],none⟩]) ?_
         have rR:=Ip (a:=V.x) (b:=V.z) (d:=aC y) (a':=(cM (iS (mR (m.bodies.map (aK 300))) ⟨⟨p.at_.x,p.at_.z⟩,p.turn,(p.joints.map (cU 300)).map dO⟩ b) (jS (mR (m.bodies.map (aK 300))) b).at_ x y).x) (b':=(cM (iS (mR (m.bodies.map (aK 300))) ⟨⟨p.at_.x,p.at_.z⟩,p.turn,(p.joints.map (cU 300)).map dO⟩ b) (jS (mR (m.bodies.map (aK 300))) b).at_ x y).z) (d':=aC y) (by rw[Cf,hV]) (by rw[Cf,hV]) rfl;have lL:(m.bodies.map (aK 300)).length=m.bodies.length:=bM ..;have lP:(jS (mR (m.bodies.map (aK 300))) b).par=(jS m b).par:=by rw[CZ];rfl
         have uP:(nZ (mR (m.bodies.map (aK 300))) b).par=(nZ m b).par:=by rw[Io];rfl
         have r5:0<(m.bodies.map (aK 300)).length:=by rw[lL];omega
         have r6:(m.bodies.map (aK 300)).length<=8:=by rw[lL];exact h8
         have r7:(p.joints.map (cU 300)).length+1=(m.bodies.map (aK 300)).length:=by rw[lL,bM];exact hn
         have r8:0<=b:=by omega
         have r9:b<(((m.bodies.map (aK 300)).length:Nat):Int):=by rw[lL];exact t3
         have r10:0<=(jS (mR (m.bodies.map (aK 300))) b).par:=by rw[lP];omega
         have r11:(jS (mR (m.bodies.map (aK 300))) b).par<(((m.bodies.map (aK 300)).length:Nat):Int):=by rw[lP,lL];omega
         have r12:0<=(nZ (mR (m.bodies.map (aK 300))) b).par:=by rw[uP];omega
         have r13:(nZ (mR (m.bodies.map (aK 300))) b).par<(((m.bodies.map (aK 300)).length:Nat):Int):=by rw[uP,lL];omega
         have r1:=Kd m.bodies;have r2:p.joints.map (cU 300)=((p.joints.map (cU 300)).map dO).map (cU 300):=by rw[tF]
         have r3:=MC hB;have r4:=Ke (qD hc);have g1':¬ Int.sign y.a.d.num<0:=fun e=>g1 (cH.2.1 e)
         have g2':¬ Int.sign y.b.d.num<0:=fun e=>g2 (cH.2.1 e)
         by_cases c1:0<Int.sign y.a.d.num
         · by_cases c2:0<Int.sign y.b.d.num
           · have u3:¬ y.a.d=0:=fun e=>by rw[e] at c1;exact absurd c1 (by decide)
             have u1:¬ y.b.d=0:=fun e=>by rw[e] at c2;exact absurd c2 (by decide)
             have u4:aC y=y.a.d:=if_neg u3;have u5:y.a.d=y.b.d:=Decidable.byContradiction fun e=>hE (.inr (.inr ⟨u1,by rw[u4];exact e⟩))
             have c3:fJ (y.a.d.num*(y.b.d.den:Int)) (y.b.d.num*(y.a.d.den:Int))=0:=(Lc _ _).2 u5;exact gR gT (some 12) [2,12,14,16,18,19,20,21,22] [0,1,2,3,4,5] [(81,tt),(84,ff),(88,ff),(91,tt),(95,tt),(106,ff)] (.c6 (iT z5) (iF g1') (iF g2') (iT c1) (iT c2) z3 (.a1 (jF c3))) (CX m p b x y (nS V.x (aC y)) (nS V.z (aC y)) (Ld V.x (aC y)) (Le V.x (aC y)) (Lf V.x (aC y)) (Ld V.z (aC y)) (Le V.z (aC y)) (Lf V.z (aC y)) ⟨rR,r1,r2,r3,r4,r5,r6,r7,r8,r9,r10,r11,r12,r13,n1,n2,z1,z4⟩ (AO rfl))
           · exact gR gT (some 12) [2,12,14,16,18,19,20,21,22] [0,1,2,3,4,5] [(81,tt),(84,ff),(88,ff),(91,tt),(95,ff)] (.a5 (iT z5) (iF g1') (iF g2') (iT c1) (iF c2)) (CX m p b x y (nS V.x (aC y)) (nS V.z (aC y)) (Ld V.x (aC y)) (Le V.x (aC y)) (Lf V.x (aC y)) (Ld V.z (aC y)) (Le V.z (aC y)) (Lf V.z (aC y)) ⟨rR,r1,r2,r3,r4,r5,r6,r7,r8,r9,r10,r11,r12,r13,n1,n2,z1,z4⟩ (AO rfl))
         · exact gR gT (some 12) [2,12,14,16,18,19,20,21,22] [0,1,2,3,4,5] [(81,tt),(84,ff),(88,ff),(91,ff)] (.a4 (iT z5) (iF g1') (iF g2') (iF c1)) (CX m p b x y (nS V.x (aC y)) (nS V.z (aC y)) (Ld V.x (aC y)) (Le V.x (aC y)) (Lf V.x (aC y)) (Ld V.z (aC y)) (Le V.z (aC y)) (Lf V.z (aC y)) ⟨rR,r1,r2,r3,r4,r5,r6,r7,r8,r9,r10,r11,r12,r13,n1,n2,z1,z4⟩ (AO rfl))
     · have e1:fD m p.joints.length b y=dP m p.joints.length b:=if_neg h3
       have e2:dL m p b x y=(⟨0,0,0⟩,⟨0,0,0⟩):=if_neg (by rw[e1];exact h3);have rx:=rX _ _ _ e2 e1;have rl:=rL _ rfl;refine gR gT (some 10) [2,12,14,16,18,19,20,21,22,23,24] [1,3,5,7,9,10] [(63,.tup [.agg (eL 2251385 (⟨0,0,0⟩:Sd)),.agg (eL 2251385 (⟨0,0,0⟩:Sd)),.i6 (dP m p.joints.length b)]),(70,.i6 (dP m p.joints.length b))] (.c6 rx a9 a10 a12 v0 v0 (.c6 v1 a13 a11 (rfl:300=300) (rfl:300=300) (rfl:300=300) (.c6 (rfl:300=300) (rfl:300=300) (rfl:300=300) (rfl:300=300) (rfl:300=300) (rfl:300=300) (.c6 rl a9 a10 a12 v0 v0 (.a3 v1 a13 a11))))) (t:=MV) (σ:=slots 149 [(2,.i6 b),(12,.ptr 0 5 0 0),(14,.ptr 1 13 0 0),(16,.ptr 2 8 0 0),(18,.ptr 3 25 0 0),(19,.ptr 4 9 0 0),(20,.ptr 5 9 0 0),(21,.i6 (dP m p.joints.length b)),(22,.i6 (dP m p.joints.length b)),(23,.i6 (Int.sign y.a.d.num)),(24,.i6 (Int.sign y.b.d.num))]) (h:=[some ⟨48,5,false,[(iV 300 m)],none⟩,some ⟨71,13,false,[[.rq p.at_.x p.at_.x.den 300,.rq p.at_.z p.at_.z.den 300,.rq p.turn p.turn.den 300,.list 4 (p.joints.map (cU 300))]],none⟩,some ⟨68,8,false,[(iK 300 x)],none⟩,some ⟨123,25,false,[[.rq y.a.a y.a.a.den 300,.rq y.a.b y.a.b.den 300,.rq y.a.d y.a.d.den 300,.rq y.b.a y.b.a.den 300,.rq y.b.b y.b.b.den 300,.rq y.b.d y.b.d.den 300,.bool y.w]],none⟩,some ⟨106,9,false,[(eL 2251385 (⟨0,0,0⟩:Sd))],none⟩,some ⟨106,9,false,[(eL 2251385 (⟨0,0,0⟩:Sd))],none⟩]) ?_
       have wl:Ref (.bool (decide (dP m p.joints.length b=dP m p.joints.length b))) (.bool true):=Ref.bool (by simp);exact gR gT (some 12) [2,12,14,16,18,19,20,21,22] [0,1,2,3,4,5] [(81,ff)] (.a1 (iF h3)) (AN m p b x y (⟨0,0,0⟩:Sd) (⟨0,0,0⟩:Sd) (dP m p.joints.length b) (dP m p.joints.length b) h3 ⟨wl,z0,z0,z0,z1,z2,z0,z0,z0⟩ (AO rfl))
end Go.Av
namespace Go.Av
open Go.Proofs Go.RowKit Go.Proofs.YtbdhgnlabjmnoaaGreat
theorem Ky {w:World} {a:Addr} {v:Value} (h:w.cell? a=some v):a.block<w.heap.size:=by
 unfold World.cell? at h;rcases Nat.lt_or_ge a.block w.heap.size with h1 | h1
 · exact h1
 · rw[Array.getElem?_eq_none h1] at h;simp at h
section
variable {H:Type} (enc:TypeId×Value->H) (P:Program) (w:World) (base:Nat) (sp:Nat->Bool) (hd:Bool)
def Opn (t:TypeId) (R:List AV->Prop):Prop:=∀ kA cs d ps,DataW.trod enc P w base sp hd kA t cs=some (d,ps)->∃ ch,R ch/\RelCs ρ0 No w No ch cs
end
section
variable {H:Type} {enc:TypeId×Value->H} {P:Program} {w:World} {base:Nat} {sp:Nat->Bool} {hd:Bool}
theorem Opn.mono {t:TypeId} {R R':List AV->Prop} (h:Opn enc P w base sp hd t R) (hr:∀ ch,R ch->R' ch):Opn enc P w base sp hd t R':=fun kA cs d ps h1=>by
 obtain⟨ch,g1,g2⟩:=h kA cs d ps h1;exact⟨ch,hr _ g1,g2⟩
theorem AP {t:TypeId} {k:IntKind} (ht:P.underlying t=some (.int k)):Opn enc P w base sp hd t (fun ch=>∃ n,ch= [.int k n]/\(Lit.int k n).wf=true):=fun kA cs d ps h1=>by
 obtain⟨n,rfl,_,hw⟩:=DataW.trod_int ht h1;exact⟨_,⟨n,rfl,hw⟩,.int .done⟩
def AllR:List (List AV->Prop)->List (List AV)->Prop
 | [],[]=>True
 | R::Rs,c::cs=>R c/\AllR Rs cs
 | _,_=>False
theorem xQ {n:Nat} {cs:List Value}:∀ (fl:List Field) (Rs:List (List AV->Prop)) (xl:List (DataW H×List MemPlace)) (off:Nat),Rs.length=fl.length->xl.length=fl.length->
   (∀ (i:Nat) (f:Field),fl[i]? =some f->f.offset=off+((fl.take i).map fun f=>P.cellsOf f.type).sum)->(cs.drop off).length=(fl.map fun f=>P.cellsOf f.type).sum->
   (∀ (i:Nat) (f:Field),fl[i]? =some f->DataW.trod enc P w base sp hd n f.type ((cs.drop f.offset).take (P.cellsOf f.type))=xl[i]?)->
   (∀ (i:Nat) (f:Field) (R:List AV->Prop),fl[i]? =some f->Rs[i]? =some R->Opn enc P w base sp hd f.type R)->∃ css,AllR Rs css/\RelCs ρ0 No w No css.flatten (cs.drop off)
 | [],[],[],off,_,_,_,hlen,_,_=>by
   refine⟨[],trivial, ?_⟩;simp only[List.map_nil,List.sum_nil] at hlen;rw[List.length_eq_zero_iff.1 hlen];exact .done
 | f ::fl,R::Rs,x::xl,off,h1,h2,hoff,hlen,ht,ho=>by
   have e0:f.offset=off:=by simpa using hoff 0 f rfl
   have t0:=ht 0 f rfl;rw[e0] at t0;simp only[List.getElem?_cons_zero] at t0;obtain⟨xd,xp⟩:=x;obtain⟨ch,g1,g2⟩:=ho 0 f R rfl rfl n _ xd xp t0;simp only[List.map_cons,List.sum_cons] at hlen
   obtain⟨css,k1,k2⟩:=xQ (n:=n) (cs:=cs) fl Rs xl (off+P.cellsOf f.type) (by simpa using h1) (by simpa using h2)
     (fun i f' hf=>by have:=hoff (i+1) f' (by simpa using hf);simp only[List.take_succ_cons,List.map_cons,List.sum_cons] at this;omega)
     (by simp only[List.length_drop] at hlen ⊢;omega) (fun i f' hf=>by simpa using ht (i+1) f' (by simpa using hf)) (fun i f' R' hf hR=>ho (i+1) f' R' (by simpa using hf) (by simpa using hR))
   refine⟨ch::css,⟨g1,k1⟩, ?_⟩;rw[List.flatten_cons]
   have:cs.drop off=(cs.drop off).take (P.cellsOf f.type)++cs.drop (off+P.cellsOf f.type):=by
     rw[<- List.drop_drop];exact(List.take_append_drop _ _).symm
   rw[this];exact g2.app k2
 | [],_::_,_,_,h1,_,_,_,_,_=>by simp at h1
 | _::_,[],_,_,h1,_,_,_,_,_=>by simp at h1
 | [],[],_::_,_,_,h2,_,_,_,_=>by simp at h2
 | _::_,_::_,[],_,_,h2,_,_,_,_=>by simp at h2
theorem Da {T:TypeId->Prop} (K:Kids P T) {t:TypeId} (hT:T t) {fs:Array Field} (ht:P.underlying t=some (.struct fs)) {Rs:List (List AV->Prop)} (hl:Rs.length=fs.toList.length)
   (ho:∀ (i:Nat) (f:Field) (R:List AV->Prop),fs.toList[i]? =some f->Rs[i]? =some R->Opn enc P w base sp hd f.type R):
   Opn enc P w base sp hd t (fun ch=>∃ css,AllR Rs css/\ch=css.flatten):=fun kA cs d ps h1=>by
 obtain⟨xs,n,_,he,hlen,hxl,hf⟩:=DataW.trod_struct ht h1;obtain⟨_,ksz,koff⟩:=K.struct hT ht;injection he with he1 he2;subst he1;obtain⟨css,g1,g2⟩:=xQ (enc:=enc) (P:=P) (w:=w) (base:=base) (sp:=sp) (hd:=hd) (n:=n) (cs:=cs) fs.toList Rs xs 0 hl (by simpa using hxl) (fun i f hf'=>by rw[koff i f hf'];omega) (by rw[List.drop_zero,hlen,ksz]) (fun i f hf'=>hf i f (by simpa using hf')) ho;exact⟨css.flatten,⟨css,g1,rfl⟩,by simpa using g2⟩
theorem EX {t e:TypeId} (ht:P.underlying t=some (.slice e)) {R:List AV->Prop} (hz:0<P.cellsOf e) (ho:Opn enc P w base sp hd e R):
   Opn enc P w base sp hd t (fun ch=>∃ l:List (List AV),(∀ c∈l,R c)/\ch= [.list (P.cellsOf e) l]):=fun kA cs d ps h1=>by
 rcases Deep.open_slice ht h1 with ⟨rfl,_⟩ | ⟨a,len,cap,m,n,D,Pl,rfl,hb,hl,hm,hmm,he,hx⟩
 · exact⟨[.list (P.cellsOf e) []],⟨[],by simp,rfl⟩,.list (xs:=[]) (fun _=>[]) (by simp) (by simp[big]) (by simp) (by simp) (by simp) .done⟩
 · injection he with he1 he2
   subst he1;have hlm:len<=m:=by rw[hmm];split <;> omega
   have key:∀ i,∃ c:List AV×List Value,i<len->R c.1/\RelCs ρ0 No w No c.1 c.2/\w.cells? base (a.add (i*P.cellsOf e)) (P.cellsOf e)=some c.2:=by
     intro i
     by_cases hi:i<len
     · obtain⟨cs',hc,ht'⟩:=hx i (by omega)
       obtain⟨ch,g1,g2⟩:=ho n cs' (D i) (Pl i) ht';exact⟨(ch,cs'),fun _=>⟨g1,g2,hc⟩⟩
     · exact⟨([],[]),fun h=>absurd h hi⟩
   let f:Nat->List AV×List Value:=fun i=>Classical.choose (key i)
   have hf:∀ i,i<len->R (f i).1/\RelCs ρ0 No w No (f i).1 (f i).2/\w.cells? base (a.add (i*P.cellsOf e)) (P.cellsOf e)=some (f i).2:=fun i=>Classical.choose_spec (key i)
   refine⟨[.list (P.cellsOf e) ((List.range len).map fun i=>(f i).1)],⟨(List.range len).map fun i=>(f i).1, ?_,rfl⟩, ?_⟩
   · intro c hc
     obtain⟨i,hi,rfl⟩:=List.mem_map.1 hc;exact(hf i (List.mem_range.1 hi)).1
   · have hcell:∀ i,i<len->(f i).2.length=P.cellsOf e/\∀ j v,(f i).2[j]? =some v->w.cell? ((a.add (i*P.cellsOf e)).add j)=some v:=by
       intro i hi;have h3:=(hf i hi).2.2;unfold World.cells? at h3
       split at h3
       · have hl3:=mapM_some_length h3
         refine⟨by simpa using hl3,fun j v hv=> ?_⟩
         have hj:j<P.cellsOf e:=by
           have:=(List.getElem?_eq_some_iff.1 hv).1;rw[show(f i).2.length=P.cellsOf e by simpa using hl3] at this;exact this
         have:=mapM_some_get h3 j j (by simp[hj]);rw[this];exact hv
       · cases h3
     have e1:len=((List.range len).map fun i=>(f i).1).length:=by simp
     have key2:RelCs ρ0 No w No [.list (P.cellsOf e) ((List.range len).map fun i=>(f i).1)] [.slice (some a) ((List.range len).map fun i=>(f i).1).length cap]:=by
       refine .list (fun i=>(f i).2) (by simpa using hl) (Nat.le_trans hm (by decide)) (fun i hi=>(hcell i (by simpa using hi)).1) (fun i el he=> ?_) (fun hp=> ?_) .done
       · rw[List.getElem?_map] at he
         have hi:i<len:=by
           rcases Nat.lt_or_ge i len with h | h
           · exact h
           · simp[h] at he
         rw[List.getElem?_range hi] at he;injection he with he;subst he;exact(hf i hi).2.1
       · have hp':0<len:=by simpa using hp
         refine⟨a,rfl, ?_,fun h=>h,fun i hi=>(hcell i (by simpa using hi)).2⟩;obtain⟨l0,c0⟩:=hcell 0 hp';have:∃ v,(f 0).2[0]? =some v:=⟨(f 0).2[0]'(by omega),by simp[l0,hz]⟩;obtain⟨v,hv⟩:=this;have h5:=c0 0 v hv;have hblk:=Ky h5;simpa[jU] using hblk
     rw[<- e1] at key2;exact key2
end
def Cg (P:Program) (t:TypeId):Option (List TypeId):=match P.underlying t with
 | some (.struct fs)=>some (fs.toList.map (·.type))
 | _=>none
theorem Lg:Kids Tryz.prog (· <Tryz.prog.types.size):=kids_rows (by kernel_rfl) (by kernel_rfl)
section
variable {H:Type} {enc:TypeId×Value->H} {w:World} {base:Nat} {sp:Nat->Bool} {hd:Bool}
abbrev iJ (enc:TypeId×Value->H) (w:World) (base:Nat) (sp:Nat->Bool) (hd:Bool) (t:TypeId) (R:List AV->Prop):Prop:=Opn enc Tryz.prog w base sp hd t R
theorem eM {t:TypeId} {ts:List TypeId} (hs:Cg Tryz.prog t=some ts) (hlt:Nat.ble (t+1) Tryz.prog.types.size=true) {Rs:List (List AV->Prop)} (hl:Rs.length=ts.length)
   (ho:∀ (i:Nat) (u:TypeId) (R:List AV->Prop),ts[i]? =some u->Rs[i]? =some R->iJ enc w base sp hd u R):
   iJ enc w base sp hd t (fun ch=>∃ css,AllR Rs css/\ch=css.flatten):=by
 unfold Cg at hs
 split at hs
 · rename_i fs ht
   injection hs with hs;subst hs;exact Da Lg (Nat.le_of_ble_eq_true hlt) ht (by simpa using hl) fun i f R hf hR=>ho i f.type R (by rw[List.getElem?_map,hf];rfl) hR
 · cases hs
theorem AllR.cons {R:List AV->Prop} {Rs:List (List AV->Prop)}:∀ {css:List (List AV)},AllR (R::Rs) css->∃ c cs,css=c::cs/\R c/\AllR Rs cs
 | [],h=>h.elim
 | c::cs,h=>⟨c,cs,rfl,h.1,h.2⟩
theorem AllR.nil:∀ {css:List (List AV)},AllR [] css->css= []
 | [],_=>rfl
 | _::_,h=>h.elim
theorem AQ {n:Int} (h:(Lit.int .i64 n).wf=true):(-9223372036854775808:Int)<=n/\n<=(9223372036854775807:Int):=by
 simpa[Lit.wf,IntKind.min,IntKind.max,IntKind.signed,IntKind.bits] using h
theorem RP {n:Int} (h:(Lit.int .u8 n).wf=true):0<=n/\n<=255:=by
 simpa[Lit.wf,IntKind.min,IntKind.max,IntKind.signed,IntKind.bits] using h
abbrev EY (ch:List AV):Prop:=∃ n,ch= [.int .i64 n]/\(Lit.int .i64 n).wf=true
abbrev Vn (ch:List AV):Prop:=∃ n,ch= [.int .u8 n]/\(Lit.int .u8 n).wf=true
abbrev dJ (ch:List AV):Prop:=∃ a:NumD,ch=unNum a/\a.ok
abbrev lD (ch:List AV):Prop:=∃ a:SpotD,ch=unSpot a/\a.ok
theorem RQ:iJ enc w base sp hd 2 EY:=AP (by kernel_rfl)
theorem Kz:iJ enc w base sp hd 3 EY:=AP (by kernel_rfl)
theorem Uq:iJ enc w base sp hd 5 Vn:=AP (by kernel_rfl)
theorem Iq {A B C:List AV->Prop} {a b c:TypeId} (hA:iJ enc w base sp hd a A) (hB:iJ enc w base sp hd b B) (hC:iJ enc w base sp hd c C):
   ∀ (i:Nat) (u:TypeId) (R:List AV->Prop),[a,b,c][i]? =some u-> [A,B,C][i]? =some R->iJ enc w base sp hd u R
 | 0,u,R,h1,h2=>by simp at h1 h2;subst h1;subst h2;exact hA
 | 1,u,R,h1,h2=>by simp at h1 h2;subst h1;subst h2;exact hB
 | 2,u,R,h1,h2=>by simp at h1 h2;subst h1;subst h2;exact hC
 | i+3,u,R,h1,h2=>by simp at h1
theorem zM {L:List (TypeId×(List AV->Prop))} (h:∀ p∈L,iJ enc w base sp hd p.1 p.2):∀ (i:Nat) (u:TypeId) (R:List AV->Prop),(L.map (·.1))[i]? =some u->(L.map (·.2))[i]? =some R->iJ enc w base sp hd u R:=by
 intro i u R h1 h2;rw[List.getElem?_map] at h1 h2;cases hp:L[i]? with
 | none=>rw[hp] at h1;cases h1
 | some p=>
   rw[hp] at h1 h2;simp at h1 h2;subst h1;subst h2;exact h p (List.mem_of_getElem? hp)
theorem tT:iJ enc w base sp hd 29 dJ:=by
 refine(eM (ts:=[2,2,5]) (Rs:=[EY,EY,Vn]) (by kernel_rfl) (by kernel_rfl) rfl (Iq RQ RQ Uq)).mono ?_;rintro ch ⟨css,h,rfl⟩;obtain⟨_,css1,rfl,⟨n,rfl,h1⟩,kk1⟩:=h.cons;obtain⟨_,css2,rfl,⟨d,rfl,h2⟩,kk2⟩:=kk1.cons;obtain⟨_,css3,rfl,⟨p,rfl,h3⟩,kk3⟩:=kk2.cons;obtain rfl:=kk3.nil;exact⟨⟨n,d,p⟩,rfl,(AQ h1).1,(AQ h1).2,(AQ h2).1,(AQ h2).2,RP h3⟩
theorem Ch:iJ enc w base sp hd 31 lD:=by
 refine(eM (ts:=[29,29]) (Rs:=[dJ,dJ]) (by kernel_rfl) (by kernel_rfl) rfl (zM (L:=[(29,dJ),(29,dJ)]) (by intro p hp;simp at hp;subst hp;exact tT))).mono ?_;rintro ch ⟨css,h,rfl⟩;obtain⟨_,css1,rfl,⟨x,rfl,h1⟩,kk1⟩:=h.cons;obtain⟨_,css2,rfl,⟨z,rfl,h2⟩,kk2⟩:=kk1.cons;obtain rfl:=kk2.nil;exact⟨⟨x,z⟩,rfl,h1,h2⟩
theorem Ir {α:Type} {un:α->List AV} {ok:α->Prop}:∀ (l:List (List AV)),(∀ c∈l,∃ a,c=un a/\ok a)->∃ xs:List α,l=xs.map un/\∀ a∈xs,ok a
 | [],_=>⟨[],rfl,by simp⟩
 | c::l,h=>by
   obtain⟨a,rfl,ha⟩:=h c (by simp);obtain⟨xs,rfl,hx⟩:=Ir l fun c hc=>h c (by simp[hc])
   exact⟨a::xs,rfl,by simpa using ⟨ha,hx⟩⟩
theorem lS {t e:TypeId} {n:Nat} {α:Type} {un:α->List AV} {ok:α->Prop} (ht:Tryz.prog.underlying t=some (.slice e)) (hn:Tryz.prog.cellsOf e=n) (hz:0<n) (ho:iJ enc w base sp hd e (fun ch=>∃ a,ch=un a/\ok a)):
   iJ enc w base sp hd t (fun ch=>∃ xs:List α,ch= [.list n (xs.map un)]/\(∀ a∈xs,ok a)):=by
 refine(EX ht (by rw[hn];exact hz) ho).mono ?_;rintro ch ⟨l,h1,rfl⟩;obtain⟨xs,rfl,hx⟩:=Ir l h1;exact⟨xs,by rw[hn],hx⟩
abbrev DV {α:Type} (n:Nat) (un:α->List AV) (ok:α->Prop) (ch:List AV):Prop:=∃ xs:List α,ch= [.list n (xs.map un)]/\(∀ a∈xs,ok a)
abbrev uW (ch:List AV):Prop:=∃ xs:List SpotD,ch= [.list 6 (xs.map unSpot)]/\(∀ a∈xs,a.ok)
abbrev Is (ch:List AV):Prop:=∃ xs:List NumD,ch= [.list 3 (xs.map unNum)]/\(∀ a∈xs,a.ok)
theorem It:iJ enc w base sp hd 137 uW:=lS (by kernel_rfl) (by kernel_rfl) (by decide) Ch
theorem RR:iJ enc w base sp hd 32 Is:=lS (by kernel_rfl) (by kernel_rfl) (by decide) tT
theorem MW:iJ enc w base sp hd 224 (fun ch=>∃ a:LimbD,ch=dS a/\a.okw):=by
 refine(eM (ts:=[3,31,31,29,29,29,29,137]) (Rs:=[EY,lD,lD,dJ,dJ,dJ,dJ,uW]) (by kernel_rfl) (by kernel_rfl) rfl
   (zM (L:=[(3,EY),(31,lD),(31,lD),(29,dJ),(29,dJ),(29,dJ),(29,dJ),(137,uW)]) (by intro p hp;simp at hp;rcases hp with rfl | rfl | rfl | rfl <;> first | exact Kz | exact Ch | exact tT | exact It))).mono ?_
 rintro ch ⟨css,h,rfl⟩;obtain⟨_,css1,rfl,⟨a,rfl,_⟩,kk1⟩:=h.cons;obtain⟨_,css2,rfl,⟨b,rfl,h2⟩,kk2⟩:=kk1.cons;obtain⟨_,css3,rfl,⟨c,rfl,h3⟩,kk3⟩:=kk2.cons;obtain⟨_,css4,rfl,⟨d,rfl,h4⟩,kk4⟩:=kk3.cons;obtain⟨_,css5,rfl,⟨e,rfl,h5⟩,kk5⟩:=kk4.cons;obtain⟨_,css6,rfl,⟨f,rfl,h6⟩,kk6⟩:=kk5.cons;obtain⟨_,css7,rfl,⟨g,rfl,h7⟩,kk7⟩:=kk6.cons;obtain⟨_,css8,rfl,⟨l,rfl,h8⟩,kk8⟩:=kk7.cons;obtain rfl:=kk8.nil;exact⟨⟨a,b,c,d,e,f,g,l⟩,rfl,h2,h3,h4,h5,h6,h7,h8⟩
theorem MX:iJ enc w base sp hd 227 (fun ch=>∃ a:CordD,ch=cG a/\a.ok):=by
 refine(eM (ts:=[3,3,31,31,29]) (Rs:=[EY,EY,lD,lD,dJ]) (by kernel_rfl) (by kernel_rfl) rfl
   (zM (L:=[(3,EY),(3,EY),(31,lD),(31,lD),(29,dJ)]) (by intro p hp;simp at hp;rcases hp with rfl | rfl | rfl <;> first | exact Kz | exact Ch | exact tT))).mono ?_
 rintro ch ⟨css,h,rfl⟩;obtain⟨_,css1,rfl,⟨a,rfl,_⟩,kk1⟩:=h.cons;obtain⟨_,css2,rfl,⟨b,rfl,_⟩,kk2⟩:=kk1.cons;obtain⟨_,css3,rfl,⟨c,rfl,h3⟩,kk3⟩:=kk2.cons;obtain⟨_,css4,rfl,⟨d,rfl,h4⟩,kk4⟩:=kk3.cons;obtain⟨_,css5,rfl,⟨e,rfl,h5⟩,kk5⟩:=kk4.cons;obtain rfl:=kk5.nil;exact⟨⟨a,b,c,d,e⟩,rfl,h3,h4,h5⟩
theorem MY:iJ enc w base sp hd 237 (fun ch=>∃ a:DriveD,ch=eA a/\a.ok):=by
 refine(eM (ts:=[3,29,29,29,29]) (Rs:=[EY,dJ,dJ,dJ,dJ]) (by kernel_rfl) (by kernel_rfl) rfl
   (zM (L:=[(3,EY),(29,dJ),(29,dJ),(29,dJ),(29,dJ)]) (by intro p hp;simp at hp;rcases hp with rfl | rfl <;> first | exact Kz | exact tT))).mono ?_
 rintro ch ⟨css,h,rfl⟩;obtain⟨_,css1,rfl,⟨a,rfl,_⟩,kk1⟩:=h.cons;obtain⟨_,css2,rfl,⟨b,rfl,h2⟩,kk2⟩:=kk1.cons;obtain⟨_,css3,rfl,⟨c,rfl,h3⟩,kk3⟩:=kk2.cons;obtain⟨_,css4,rfl,⟨d,rfl,h4⟩,kk4⟩:=kk3.cons;obtain⟨_,css5,rfl,⟨e,rfl,h5⟩,kk5⟩:=kk4.cons;obtain rfl:=kk5.nil;exact⟨⟨a,b,c,d,e⟩,rfl,h2,h3,h4,h5⟩
theorem MZ:iJ enc w base sp hd 243 (fun ch=>∃ a:SoleD,ch=dT a/\a.okw):=by
 refine(eM (ts:=[3,137,29]) (Rs:=[EY,uW,dJ]) (by kernel_rfl) (by kernel_rfl) rfl (Iq Kz It tT)).mono ?_;rintro ch ⟨css,h,rfl⟩;obtain⟨_,css1,rfl,⟨a,rfl,_⟩,kk1⟩:=h.cons;obtain⟨_,css2,rfl,⟨l,rfl,h2⟩,kk2⟩:=kk1.cons;obtain⟨_,css3,rfl,⟨c,rfl,h4⟩,kk3⟩:=kk2.cons;obtain rfl:=kk3.nil;exact⟨⟨a,l,c⟩,rfl,h2,h4⟩
theorem RS:iJ enc w base sp hd 27 (fun ch=>∃ r:RigD,ch=cV r/\r.okw):=by
 have h22:iJ enc w base sp hd 22 (DV 26 dS LimbD.okw):=lS (n:=26) (by kernel_rfl) (by kernel_rfl) (by decide) MW;have h23:iJ enc w base sp hd 23 (DV 17 cG CordD.ok):=lS (n:=17) (by kernel_rfl) (by kernel_rfl) (by decide) MX;have h24:iJ enc w base sp hd 24 (DV 13 eA DriveD.ok):=lS (n:=13) (by kernel_rfl) (by kernel_rfl) (by decide) MY;have h25:iJ enc w base sp hd 25 (DV 5 dT SoleD.okw):=lS (n:=5) (by kernel_rfl) (by kernel_rfl) (by decide) MZ;refine(eM (ts:=[22,23,23,24,25]) (Rs:=[DV 26 dS LimbD.okw,DV 17 cG CordD.ok,DV 17 cG CordD.ok,DV 13 eA DriveD.ok,DV 5 dT SoleD.okw]) (by kernel_rfl) (by kernel_rfl) rfl (zM (L:=[(22,DV 26 dS LimbD.okw),(23,DV 17 cG CordD.ok),(23,DV 17 cG CordD.ok),(24,DV 13 eA DriveD.ok),(25,DV 5 dT SoleD.okw)]) (by intro p hp;simp at hp;rcases hp with rfl | rfl | rfl | rfl <;> first | exact h22 | exact h23 | exact h24 | exact h25))).mono ?_;rintro ch ⟨css,h,rfl⟩;obtain⟨_,css1,rfl,⟨a,rfl,h1⟩,kk1⟩:=h.cons;obtain⟨_,css2,rfl,⟨b,rfl,h2⟩,kk2⟩:=kk1.cons;obtain⟨_,css3,rfl,⟨c,rfl,h3⟩,kk3⟩:=kk2.cons;obtain⟨_,css4,rfl,⟨d,rfl,h4⟩,kk4⟩:=kk3.cons;obtain⟨_,css5,rfl,⟨e,rfl,h5⟩,kk5⟩:=kk4.cons;obtain rfl:=kk5.nil;exact⟨⟨a,b,c,d,e⟩,rfl,h1,h2,h3,h4,h5⟩
theorem RT:iJ enc w base sp hd 34 (fun ch=>∃ s:StandD,ch=DA s/\s.okw):=by
 refine(eM (ts:=[31,29,32]) (Rs:=[lD,dJ,Is]) (by kernel_rfl) (by kernel_rfl) rfl (Iq Ch tT RR)).mono ?_;rintro ch ⟨css,h,rfl⟩;obtain⟨_,css1,rfl,⟨a,rfl,h1⟩,kk1⟩:=h.cons;obtain⟨_,css2,rfl,⟨b,rfl,h2⟩,kk2⟩:=kk1.cons;obtain⟨_,css3,rfl,⟨c,rfl,h3⟩,kk3⟩:=kk2.cons;obtain rfl:=kk3.nil;exact⟨⟨a,b,c⟩,rfl,h1,h2,h3⟩
theorem uX {t:TypeId} {fs:Array Field} {R:List AV->Prop} {r:Reach} {b0:Nat} {v:Value} {d:DataW H} {ps:List MemPlace} (ho:iJ enc w base sp hd t R) (ht:Tryz.prog.underlying t=some (.struct fs)) (hval:Value.okWide Tryz.prog w r b0 t v)
   (h:DataW.Trod enc Tryz.prog w base sp hd t v d ps):∃ ch,R ch/\RelV0 ρ0 No w No (.agg ch) v:=by
 obtain⟨n,hn⟩:=h;obtain⟨cs,rfl,_⟩:=WideShapes.okWide_struct ht hval;obtain⟨ch,g1,g2⟩:=ho n _ d ps hn;exact⟨ch,g1,cs.toList,by simp,by simpa[Value.cells] using g2⟩
end
end Go.Av
namespace Go.Proofs.YtbdhgnlabjmnoaaGreat.poseBent
open Go.ChangeShapes Go.WideShapes Go.ChangeAt Go.RowKit Go.Av
section
variable {H:Type} {enc:TypeId×Value->H} {w:World} {base:Nat} {sp:Nat->Bool} {hd:Bool}
theorem Na:iJ enc w base sp hd 119 (fun ch=>∃ a:PostD,ch=CY a/\a.ok):=by
 refine(eM (ts:=[29,29,29,29,29,29]) (Rs:=[dJ,dJ,dJ,dJ,dJ,dJ]) (by kernel_rfl) (by kernel_rfl) rfl
   (zM (L:=[(29,dJ),(29,dJ),(29,dJ),(29,dJ),(29,dJ),(29,dJ)]) (by intro p hp;simp at hp;subst hp;exact tT))).mono ?_
 rintro ch ⟨css,h,rfl⟩;obtain⟨_,css1,rfl,⟨a,rfl,h1⟩,kk1⟩:=h.cons;obtain⟨_,css2,rfl,⟨b,rfl,h2⟩,kk2⟩:=kk1.cons;obtain⟨_,css3,rfl,⟨c,rfl,h3⟩,kk3⟩:=kk2.cons;obtain⟨_,css4,rfl,⟨d,rfl,h4⟩,kk4⟩:=kk3.cons;obtain⟨_,css5,rfl,⟨e,rfl,h5⟩,kk5⟩:=kk4.cons;obtain⟨_,css6,rfl,⟨f,rfl,h6⟩,kk6⟩:=kk5.cons;obtain rfl:=kk6.nil;exact⟨⟨a,b,c,d,e,f⟩,by simp[CY],h1,h2,h3,h4,h5,h6⟩
end
theorem own:ownKnob Tryz.prog.godebug=none:=by kernel_rfl
theorem Nb:∀ t e,t<Tryz.prog.types.size->Tryz.prog.underlying t=some (.slice e)->0<Tryz.prog.cellsOf e:=slices_full_of Tryz.prog (by kernel_rfl)
theorem DW:Tryz.f5.params= #[27,34,3,31,119]:=by kernel_rfl
theorem Ur:Tryz.prog.underlying 4=some .bool:=by kernel_rfl
theorem CP:Tryz.prog.underlying 3=some (.int .i64):=by kernel_rfl
def Ci (P:Program) (t:TypeId):Bool:=match P.underlying t with
 | some (.struct _)=>true
 | _=>false
theorem pG {P:Program} {t:TypeId} (h:Ci P t=true):∃ fs,P.underlying t=some (.struct fs):=by
 unfold Ci at h
 split at h
 · exact⟨_,by assumption⟩
 · cases h
theorem xR {H:Type} {enc:TypeId×Value->H} {P:Program} {W W':World} {base:Nat} {sp:Nat->Bool} {hd:Bool} (hB:Below W.heap.size W W'):∀ {ts:List TypeId} {vs:List Value} {ds:List (DataW H)} {ps:List MemPlace},
   DataW.TrodAll enc P W base sp hd ts vs ds ps->DataW.TrodAll enc P W' base sp hd ts vs ds ps
 | [],[],[],_,h=>h
 | _::_,_::_,_::_,_,⟨p,q,⟨n,h1⟩,h2,e⟩=>⟨p,q,⟨n,DataW.trod_carry n _ _ _ h1 fun p hp=>hB.same (DataW.trod_lt n _ _ _ h1 p hp)⟩,xR hB h2,e⟩
def DX:Array Value:= #[.agg #[.slice none 0 0,.slice none 0 0,.slice none 0 0,.slice none 0 0,.slice none 0 0],.agg #[.int .i64 0,.int .i64 0,.int .u8 0,.int .i64 0,.int .i64 0,.int .u8 0,.int .i64 0,.int .i64 0,.int .u8 0,.slice none 0 0],.int .i64 0,.agg #[.int .i64 0,.int .i64 0,.int .u8 0,.int .i64 0,.int .i64 0,.int .u8 0],.agg #[.int .i64 0,.int .i64 0,.int .u8 0,.int .i64 0,.int .i64 0,.int .u8 0,.int .i64 0,.int .i64 0,.int .u8 0,.int .i64 0,.int .i64 0,.int .u8 0,.int .i64 0,.int .i64 0,.int .u8 0,.int .i64 0,.int .i64 0,.int .u8 0]]
theorem Iu (H:Type) (enc:TypeId×Value->H) (W:World) (base:Nat) (args:Array Value) (ds gs:List (DataW H)) (before:List MemPlace)
   (hval:∀ (j:Nat) t v,Tryz.f5.params[j]? =some t->args[j]? =some v->Value.okWide Tryz.prog W .any base t v)
   (hW:DataW.Whole enc Tryz.prog Tryz.f5.params.toList Rows.poseBentSpec.vars false W args.toList ds gs before):
   Calls Tryz.prog 5 args W fun e W'=>∃ v,e= .returned v/\Rows.poseBentSpec.post enc Tryz.prog Tryz.f5 false true false false W args v W':=by
 have hW':=hW;obtain⟨p,q,hA0,hV,rfl,hfz,hnd⟩:=hW;have hA:DataW.TrodAll enc Tryz.prog W 0 (fun _=>true) true Tryz.f5.params.toList args.toList ds p:=hA0;rw[DW] at hA hval;obtain⟨rfl,rfl⟩:=trodVars_none hV;have hAll:=hA;obtain⟨v0,vs0,d0,ds0,p0,q0,hargs,rfl,rfl,h0,r0⟩:=trodAll_cons hA;obtain⟨v1,vs1,d1,ds1,p1,q1,rfl,rfl,rfl,h1,r1⟩:=trodAll_cons r0;obtain⟨v2,vs2,d2,ds2,p2,q2,rfl,rfl,rfl,h2,r2⟩:=trodAll_cons r1;obtain⟨v3,vs3,d3,ds3,p3,q3,rfl,rfl,rfl,h3,r3⟩:=trodAll_cons r2;obtain⟨v4,vs4,d4,ds4,p4,q4,rfl,rfl,rfl,h4,r4⟩:=trodAll_cons r3;obtain⟨rfl,rfl,rfl⟩:=trodAll_nil r4;obtain rfl:args= #[v0,v1,v2,v3,v4]:=by cases args;simp_all
 obtain⟨f27,t27⟩:=pG (P:=Tryz.prog) (t:=27) (by kernel_rfl);obtain⟨f34,t34⟩:=pG (P:=Tryz.prog) (t:=34) (by kernel_rfl);obtain⟨f31,t31⟩:=pG (P:=Tryz.prog) (t:=31) (by kernel_rfl);obtain⟨f119,t119⟩:=pG (P:=Tryz.prog) (t:=119) (by kernel_rfl);obtain⟨_,⟨r,rfl,hr⟩,g0⟩:=uX RS t27 (hval 0 27 v0 rfl rfl) h0;obtain⟨_,⟨s,rfl,hs⟩,g1⟩:=uX RT t34 (hval 1 34 v1 rfl rfl) h1;obtain⟨bd,rfl,rfl,rfl,w2⟩:=open_int CP (hval 2 3 v2 rfl rfl) h2;obtain⟨_,⟨x,rfl,hx⟩,g3⟩:=uX Ch t31 (hval 3 31 v3 rfl rfl) h3;obtain⟨_,⟨y,rfl,hy⟩,g4⟩:=uX Na t119 (hval 4 119 v4 rfl rfl) h4;have hF:=(EW r s bd x y hr hs hx hy).2 No W [v0,v1,.int .i64 bd,v3,v4] (fun _ h=>h.elim) ⟨g0,g1,RelCs.int .done,g3,g4,trivial⟩;refine hF.mono ?_;rintro e W' ⟨v,rfl,hv,hch⟩;have hvb:v= .bool true:=RelV.bool_inv hv;subst hvb;have hB:Below W.heap.size W W':=hch.below;have hlt:∀ t∈ [27,34,3,31,119],t<Tryz.prog.types.size:=fun t ht=>Nat.lt_of_lt_of_le (show t<300 by simp at ht;omega) (Nat.le_of_ble_eq_true (by kernel_rfl))
 have h6:=DataW.TrodAll.respare (spare':=fun b=>decide (b<W.heap.size)) Lg Nb hlt hAll (fun p hp=>by
   have:=hW'.lt p (by simpa using hp)
   simpa using this)
 have h7:DataW.TrodAll enc Tryz.prog W' 0 (fun b=>decide (b<W.heap.size)) true Tryz.f5.params.toList [v0,v1,.int .i64 bd,v3,v4] [d0,d1,.lit (.int .i64 bd),d3,d4] (p0++(p1++([]++(p3++(p4++ []))))):=by rw[DW];exact xR hB h6
 exact⟨_,rfl,_,_,_,[],_,[],hW',trodAll_cons_mk (shut_bool Ur _) trodAll_mk0,h7,rfl,hB.frame _,fun h=>by cases h⟩
section
variable (os:Os) {H:Type} (enc:TypeId×Value->H)
abbrev NE:Input:=⟨#[],DX,[]⟩
theorem w1:(World.plainHolding Tryz.prog os NE).variablesB Tryz.prog=true:=by kernel_rfl
theorem w2:((World.plainHolding Tryz.prog os NE).heap.toList.drop Tryz.prog.globals.size).take ((begin Tryz.prog (fun _ _=>0) default).world.heap.size-Tryz.prog.globals.size)=
     (begin Tryz.prog (fun _ _=>0) default).world.heap.toList.drop Tryz.prog.globals.size:=by kernel_rfl
theorem w3:Input.okWideB Tryz.prog (World.plainHolding Tryz.prog os NE) 5 ⟨#[],DX,[]⟩=true:=by kernel_rfl
theorem w4:Rows.poseBentSpec.preB enc Tryz.prog Tryz.f5 Rows.poseBentRow.domain false (World.plainHolding Tryz.prog os NE).memory DX 8=true:=by kernel_rfl
end
theorem w6:Tryz.prog.inits.idxOf? 5=none:=by kernel_rfl
theorem Lh:Tryz.prog.funcs[5]? =some Tryz.f5:=by kernel_rfl
theorem w7 (os:Os) {H:Type} (enc:TypeId×Value->H):Rows.poseBentSpec.sizedB enc Tryz.prog Tryz.f5 false (World.plainHolding Tryz.prog os NE).memory DX 8=true:=by kernel_rfl
theorem lifted (os:Os) (started:os.Started) (H:Type) (enc:TypeId×Value->H):
   ReturnsInHanded {} Tryz.checked os 5 .any (Rows.poseBentSpec.pre6 enc Tryz.prog Tryz.f5 Rows.poseBentRow.domain false) (Rows.poseBentSpec.post enc Tryz.prog Tryz.f5 false true false false):=by
 refine returnsInHanded_of_change own started w6 (fn:=Tryz.f5) Lh (ChangeSpec.witness6 (enc:=enc) (C:=Tryz.checked) (s:=Rows.poseBentSpec) false NE 8 (w1 os) (w2 os) (w3 os) (w4 os enc) (w7 os enc)) ?_;intro W base args ds gs before hval hW _ _;exact Iu H enc W base args ds gs before hval hW
theorem c1:Tryz.checked.prog.funcNamed "amble/amblelaw04.PoseBent" =some 5:=by kernel_rfl
theorem c3:Tryz.f5.isInstance Tryz.checked.prog Rows.poseBentRow.origin Rows.poseBentRow.targs:=of_decide_eq_true (by kernel_rfl)
theorem c4:Tryz.f5.isWrapper Tryz.checked.prog Rows.poseBentRow.wrapper Rows.poseBentRow.mainSum:=by
 unfold Func.isWrapper;first | (rw[if_pos (by decide+kernel)];kernel_rfl) | (rw[if_neg (by decide+kernel)];exact⟨rfl,rfl⟩)
theorem proved:Rows.PoseBentSaid:=
 OpenClaim.holds_of_wide 5 Tryz.f5 rfl rfl rfl rfl rfl rfl rfl ⟨rfl,rfl,rfl,rfl,rfl⟩ rfl rfl rfl rfl rfl c1 Lh Li c3 c4
   (fun os started H enc _=>lifted os started H enc)
end Go.Proofs.YtbdhgnlabjmnoaaGreat.poseBent
