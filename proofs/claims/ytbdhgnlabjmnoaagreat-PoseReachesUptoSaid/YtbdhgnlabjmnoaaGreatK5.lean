/- PoseReaches: the given statement holds. No condition. -/
import Derived.Test.YtbdhgnlabjmnoaaGreatK4
import Derived.Test.YtbdhgnlabjmnoaaGreatKF
import Derived.Test.YtbdhgnlabjmnoaaGreatRows
import Derived.WalkKit
import Derived.ProofKit
import Derived.OpenShut
import Derived.JoinedCond
import Derived.Deep.Slices
import Derived.ReadAgain
import Derived.ChangeReads
import Derived.ChangeOld
set_option linter.all false
set_option maxRecDepth 100000
set_option autoImplicit true
set_option relaxedAutoImplicit true
namespace Go.Av
open Go.Proofs Go.RowKit
noncomputable abbrev h4T0:List Item:=[.code (nav [1,1,1,1,1,1,1,1,1,1,1,1,1,1,1,1,1,0,1,0,0] (bodyOf Tryz.f4)),.inLoop (nav [1,1,1,1,1,1,1,1,1,1,1,1,1,1,1,1,1,0,1,0,0] (bodyOf Tryz.f4)),.inBlock 4,.code (nav [1,1,1,1,1,1,1,1,1,1,1,1,1,1,1,1,1,1] (bodyOf Tryz.f4))]
noncomputable abbrev h4T1:List Item:=[.code (nav [1,1,1,1,1,1,1,1,1,1,1,1,1,1,0,1,0,0,1,0,0,1,0] (bodyOf Tryz.f4)),.code (nav [1,1,1,1,1,1,1,1,1,1,1,1,1,1,0,1,0,0,1,0,0,1,1] (bodyOf Tryz.f4)),.inBlock 3,.code (nav [1,1,1,1,1,1,1,1,1,1,1,1,1,1,0,1,0,0,1,1] (bodyOf Tryz.f4)),.inLoop (nav [1,1,1,1,1,1,1,1,1,1,1,1,1,1,0,1,0,0] (bodyOf Tryz.f4)),.inBlock 2,.code (nav [1,1,1,1,1,1,1,1,1,1,1,1,1,1,1] (bodyOf Tryz.f4))]
noncomputable abbrev h4T2:List Item:=[.code (nav [1,1,1,1,1,1,1,1,1,1,1,1,1,1,0,1,0,0] (bodyOf Tryz.f4)),.inLoop (nav [1,1,1,1,1,1,1,1,1,1,1,1,1,1,0,1,0,0] (bodyOf Tryz.f4)),.inBlock 2,.code (nav [1,1,1,1,1,1,1,1,1,1,1,1,1,1,1] (bodyOf Tryz.f4))]
theorem stepF_unit {f:FrameD} {v:BodyD} {t:Rat} (h:f.c*f.c+f.s*f.s=1):(stepF f v t).c*(stepF f v t).c+(stepF f v t).s*(stepF f v t).s=1:=by
 have h2:=one_sq t;have:turnC t*turnC t+turnS' t*turnS' t=1:=by unfold turnC turnS';grind
 simp only[stepF];grind
theorem frF_unit (m:MachD) (p:PoseD):∀ (n i:Nat),(frF m p n i).c*(frF m p n i).c+(frF m p n i).s*(frF m p n i).s=1
 | 0,i=>by
   have h2:=one_sq p.turn;simp only[frF];unfold turnC turnS';grind
 | n +1,i=>by
   rw[frF]
   split
   · have h2:=one_sq p.turn
     simp only;unfold turnC turnS';grind
   · exact stepF_unit (frF_unit m p n _)
theorem hip_unit (m:MachD) (p:PoseD) (b:Int):(hipF m p b).c*(hipF m p b).c+(hipF m p b).s*(hipF m p b).s=1:=frF_unit m p _ _
theorem leg_frames {m:MachD} {p:PoseD} {b:Int} (h:legE m p.joints.length b=0):∃ u c:Nat,((c:Nat):Int)=b/\0<u/\u<c/\c<m.bodies.length/\p.joints.length+1=m.bodies.length/\(loB m b).par=((u:Nat):Int)/\loB m b=m.bodies.getD c default/\upB m b=m.bodies.getD u default/\
   fr m p c=stepF (fr m p u) (loB m b) (p.joints.getD (c-1) default)/\fr m p u=stepF (fr m p (upB m b).par.toNat) (upB m b) (p.joints.getD (u-1) default)/\(upB m b).par.toNat<m.bodies.length:=by
 obtain⟨h1,h2,h3,h4,h5,h6,h7⟩:=leg_parts h;obtain⟨hc,hn⟩:=pose_parts h1;have ht:=check_tree hc;exact⟨(loB m b).par.toNat,b.toNat,by omega,by omega,by omega,by omega,hn,by omega,rfl,rfl,fr_step ht (by omega) (by omega),fr_step ht (by omega) (by omega),by omega⟩
theorem leg_here {m:MachD} {p:PoseD} {b:Int} {u c:Nat} (x:PtD) (e1:fr m p c=stepF (fr m p u) (loB m b) (p.joints.getD (c-1) default)) (e2:fr m p u=stepF (fr m p (upB m b).par.toNat) (upB m b) (p.joints.getD (u-1) default)) (k:PtD)
   (hk:k=⟨(loB m b).at_.x+(turnC (p.joints.getD (c-1) default)*x.x-turnS' (p.joints.getD (c-1) default)*x.z),(loB m b).at_.z+(turnS' (p.joints.getD (c-1) default)*x.x+turnC (p.joints.getD (c-1) default)*x.z)⟩):
   localD (hipF m p b) (placeF (fr m p c) x)=⟨turnC (p.joints.getD (u-1) default)*k.x-turnS' (p.joints.getD (u-1) default)*k.z,turnS' (p.joints.getD (u-1) default)*k.x+turnC (p.joints.getD (u-1) default)*k.z⟩:=by
 have hu:=hip_unit m p b;unfold hipF at hu ⊢;rw[e1,e2,hk];generalize fr m p (upB m b).par.toNat=f at*;generalize loB m b=v at*;generalize upB m b=w at*;generalize hA:turnC (p.joints.getD (c-1) default)=a;generalize hA':turnS' (p.joints.getD (c-1) default)=a';generalize hC:turnC (p.joints.getD (u-1) default)=C;generalize hS:turnS' (p.joints.getD (u-1) default)=S;simp only[localD,placeF,stepF,hA,hA',hC,hS,PtD.mk.injEq] at hu ⊢;constructor <;> grind
theorem QB.gen {A B K:Nat} {x y z:Rat} (h:QB A x) (k:QB B y) (hw:Wh (x.den*y.den) z) (ha:Ab K z) (hK:K<=2^(A+B+1)):QB (2*A+2*B+2) z:=by
 have hd:x.den*y.den<=2^(A+B):=by
   rw[Nat.pow_add];exact Nat.mul_le_mul (by have:=h.2;omega) (by have:=k.2;omega)
 have hm:=Nat.mul_le_mul hK hd;rw[<- Nat.pow_add,show A+B+1+(A+B)=2*A+2*B+1 by omega] at hm
 have:=Nat.pow_lt_pow_right (om (1<2)) (om (2*A+2*B+1<2*A+2*B+2));exact .of (Nat.mul_pos x.den_pos y.den_pos) hw ha.1 ha.2 (by omega) (Nat.le_trans hd (pow2_le (by omega)))
theorem sum_pow (A B:Nat):2^A+2^B<=2^(A+B+1):=by
 have:=pow2_le (om (A<=A+B))
 have:=pow2_le (om (B<=A+B));rw[Nat.pow_succ];omega
theorem QB.add {A B:Nat} {x y:Rat} (h:QB A x) (k:QB B y):QB (2*A+2*B+2) (x+y):=
 h.gen k (((Wh.of x).up _).add (by have:=(Wh.of y).up x.den;rwa [Nat.mul_comm] at this)) (h.ab.add k.ab) (sum_pow A B)
theorem QB.sub {A B:Nat} {x y:Rat} (h:QB A x) (k:QB B y):QB (2*A+2*B+2) (x-y):=
 h.gen k (((Wh.of x).up _).sub (by have:=(Wh.of y).up x.den;rwa [Nat.mul_comm] at this)) (h.ab.sub k.ab) (sum_pow A B)
theorem Ab.mul {K L:Nat} {x y:Rat} (h:Ab K x) (k:Ab L y):Ab (K*L) (x*y):=by
 obtain⟨h1,h2⟩:=h;obtain⟨k1,k2⟩:=k;unfold Ab;rw[Int.natCast_mul,Rat.intCast_mul];generalize ((K:Int):Rat)=K at*;generalize ((L:Int):Rat)=L at*;have q1:=Rat.mul_nonneg (show 0<=K-x by grind) (show 0<=L+y by grind);have q2:=Rat.mul_nonneg (show 0<=K+x by grind) (show 0<=L-y by grind);have q3:=Rat.mul_nonneg (show 0<=K-x by grind) (show 0<=L-y by grind);have q4:=Rat.mul_nonneg (show 0<=K+x by grind) (show 0<=L+y by grind);constructor <;> grind
theorem QB.mul {A B:Nat} {x y:Rat} (h:QB A x) (k:QB B y):QB (2*A+2*B+2) (x*y):=
 h.gen k ((Wh.of x).mul (Wh.of y)) (h.ab.mul k.ab) (by rw[<- Nat.pow_add];exact pow2_le (by omega))
theorem QB.neg {B:Nat} {x:Rat} (h:QB B x):QB B (-x):=by
 unfold QB;show(-x.num).natAbs<2^B/\x.den-1<2^B;rw[Int.natAbs_neg];exact h
theorem local_QB {f:FrameD} {w to:PtD} (h:QB 19960 f.at_.x/\QB 19960 f.at_.z/\QB 9980 f.c/\QB 9980 f.s) (hw:QB 300 w.x/\QB 300 w.z) (ht:QB 300 to.x/\QB 300 to.z):
   QB 4000000 (localD ⟨placeF f w,f.c,f.s⟩ to).x/\QB 4000000 (localD ⟨placeF f w,f.c,f.s⟩ to).z:=by
 obtain⟨h1,h2,h3,h4⟩:=h;have px:=ht.1.sub (h1.add ((h3.mul hw.1).sub (h4.mul hw.2)));have pz:=ht.2.sub (h2.add ((h4.mul hw.1).add (h3.mul hw.2)));exact⟨((h3.mul px).sub (h4.neg.mul pz)).mono (by omega),((h4.neg.mul px).add (h3.mul pz)).mono (by omega)⟩
theorem bey_all {m:MachD} {p:PoseD} {n u c:Nat} (hu:0<u) (hc:0<c) (hu2:u<=n) (hc2:c<=n):(beyL m p n).all (fun x=> !decide (x+1=u)&& !decide (x+1=c))=(!beyB m p (u-1)&& !beyB m p (c-1)):=by
 rw[Bool.eq_iff_iff];simp only[List.all_eq_true,beyL,List.mem_filter,List.mem_range,Bool.and_eq_true,Bool.not_eq_true',decide_eq_false_iff_not];constructor
 · intro h
   refine⟨?_, ?_⟩
   · cases hb:beyB m p (u-1) with
     | false=>rfl
     | true=>exact absurd (om (u-1+1=u)) (h (u-1) ⟨by omega,hb⟩).1
   · cases hb:beyB m p (c-1) with
     | false=>rfl
     | true=>exact absurd (om (c-1+1=c)) (h (c-1) ⟨by omega,hb⟩).2
 · rintro⟨h1,h2⟩ x ⟨_,hx⟩
   refine⟨fun e=> ?_,fun e=> ?_⟩
   · rw[show x=u-1 by omega,h1] at hx;cases hx
   · rw[show x=c-1 by omega,h2] at hx;cases hx
theorem bey_fine {m:MachD} {p:PoseD} {n u c:Nat} {v w:BodyD} (hu:0<u) (hc:0<c) (hu2:u<=n) (hc2:c<=n) (hv:v=m.bodies.getD u default) (hw:w=m.bodies.getD c default):
   (beyL m p n).all (fun x=> !decide (x+1=u)&& !decide (x+1=c))=fineB v w (p.joints.getD (u-1) default) (p.joints.getD (c-1) default):=by
 rw[bey_all hu hc hu2 hc2]
 have k:∀ j,0<j->(!beyB m p (j-1))=decide ((m.bodies.getD j default).low<=p.joints.getD (j-1) default/\p.joints.getD (j-1) default<=(m.bodies.getD j default).high):=fun j hj=>by
   unfold beyB;rw[show j-1+1=j by omega,Bool.eq_iff_iff];simp[Rat.not_lt]
 rw[k u hu,k c hc, <- hv, <- hw];rfl
theorem any_take {α:Type} [Inhabited α] (f:α->Bool) {l:List α} {i:Nat} (h:i<l.length):(l.take (i+1)).any f=((l.take i).any f||f (l.getD i default)):=by
 have e:l.take (i+1)=l.take i++ [l.getD i default]:=by
   rw[List.take_add_one,List.getElem?_eq_getElem h];simp[gdE,h]
 rw[e,List.any_append];simp
theorem all_take {α:Type} [Inhabited α] (f:α->Bool) {l:List α} {i:Nat} (h:i<l.length):(l.take (i+1)).all f=((l.take i).all f&&f (l.getD i default)):=by
 have e:l.take (i+1)=l.take i++ [l.getD i default]:=by
   rw[List.take_add_one,List.getElem?_eq_getElem h];simp[gdE,h]
 rw[e,List.all_append];simp
theorem Good.seen {P:Program} {f:FuncId} {S0 C0:Nat->Prop} {w0:World} {Post:Value->World->Prop} {todo:List Item} {σ:List AV} {h:List (Option ABlk)} (l i:Nat) {b:ABlk} {el:List AV} (hl:h[l]? =some (some b)) (he:b.elems[i]? =some el)
   (hg:(∃ ρ S w D vs,RelCs ρ S w D el vs)->Good P f S0 C0 w0 Post todo ⟨σ,h⟩):Good P f S0 C0 w0 Post todo ⟨σ,h⟩:=fun ρ D a w R bb cs hb hk=>by
 obtain⟨_,arr,_,_,h3⟩:=R.heap l b hl;exact hg ⟨_,_,_,_,_,h3 i el he⟩ ρ D a w R bb cs hb hk
theorem bnds_len {m:MachD} {p:PoseD} {b:Int} {x q:PtD}:(bndS m p b x q).1.length<=1000:=by
 show(bendsS (upB m b) (loB m b) x (localD (hipF m p b) q)).1.length<=1000;unfold bendsS
 split
 · simp
 · split
   · simp
   · have h1:=filterMap_len (bendOf (upB m b) (loB m b) x (localD (hipF m p b) q)) (rootsL (loB m b).at_ x (localD (hipF m p b) q))
     have h2:=rootsS_len (kOf (loB m b).at_ x (localD (hipF m p b) q)+dotP (loB m b).at_ x) (crossP (loB m b).at_ x+crossP (loB m b).at_ x) (kOf (loB m b).at_ x (localD (hipF m p b) q)-dotP (loB m b).at_ x);unfold rootsL at h1 ⊢;simp only;omega
theorem real_len (r:RigD):r.real.bodies.length=r.limbs.length:=by simp[RigD.real,bodiesOf]
theorem real_small {r:RigD} (h:r.ok):r.real.small:=by
 obtain⟨_,_,_,_,_,h1,h2,h3,h4,h5⟩:=h;refine⟨?_, ?_, ?_, ?_, ?_⟩ <;> simp only[RigD.real,bodiesOf,lmE,List.length_range] <;> omega
theorem rig_le8 {r:RigD} (h:r.small=true):r.limbs.length<=8:=by
 unfold RigD.small at h;exact(of_decide_eq_true h).1
abbrev Mx (m:MachD):List AV:=[AV.str m.name,AV.list 27 (m.bodies.map (unBody 300)),AV.list 17 (m.springs.map (unCordy 300)),AV.list 17 (m.tendons.map (unCordy 300)),AV.list 13 (m.motors.map (unMotor 300)),AV.list 5 (m.feet.map (unFoot 300))]
theorem Mx_re (m:MachD):reMach (Mx m)=m:=reMach_un m
section
variable {S:Nat->Prop} {w0:World}
theorem fin4 {todo:List Item} {σ:List AV} {h:List (Option ABlk)} (hσ:σ.getD 10 .any= .bool true):GF 4 S w0 (.bool true) (.code .ret::todo) ⟨σ,h⟩:=
 good_ret1 TT0_ok (fn:=Tryz.f4) (by kernel_rfl) 10 (by kernel_rfl) rfl (by rw[hσ];rfl) (by rw[hσ];exact rr)
theorem loop4c {L:List Nat} {u c:Nat} {wi:Bool} (hL:L.length<=1000) (hw:wi=L.all (fun x=> !decide (x+1=u)&& !decide (x+1=c))):∀ (j i:Nat),i+j=L.length->∀ fi,fi=(L.take i).all (fun x=> !decide (x+1=u)&& !decide (x+1=c))->
   GF 4 S w0 (.bool true) h4T0 ⟨slots 248 [(2,.i6 ((c:Nat):Int)),(29,.i6 ((u:Nat):Int)),(30,.bool true),(31,.bool wi),(34,.list 1 (L.map unJ)),(36,.bool fi),(37,.i6 ((i:Nat):Int))],[]⟩:=by
 intro j;have hl:(L.map unJ).length=L.length:=lmE ..
 induction j with
 | zero=>
   intro i hij fi hfi;rw[tkE (by omega), <- hw] at hfi;exact gS KT4_ok (some 34) [30,31,36] [(219,ff)] (.a1 (iF (show ¬ ((i:Int)<((L.map unJ).length:Int)) by rw[hl];omega))) (p4_8_0 wi fi (Ref.bool (by rw[hfi];simp)) (fin4 rfl))
 | succ j ih=>
   intro i hij fi hfi;have hi:i<L.length:=by omega
   have hs:=all_take (fun x=> !decide (x+1=u)&& !decide (x+1=c)) hi;rw[<- hfi] at hs;obtain⟨x,hx⟩:∃ x,x=L.getD i default:=⟨_,rfl⟩;rw[<- hx] at hs;have h1:((i:Nat):Int)<(((L.map unJ).length:Nat):Int):=by rw[hl];omega
   have r1:Ref (AV.cptr ((L.map unJ).getD i []) 0) (AV.cptr [(AV.int .i64 ((x+1:Nat):Int))] 0):=by rw[hx];exact Ref.cmap (f:=unJ) hi
   cases fi with
   | false=>
     exact gS KT4_ok (some 34) [2,29,30,31,34,36,37] [(219,tt),(223,ff),(221,.i6 ((i+1:Nat):Int))] (.a3 (iT h1) (show Ref (.bool false) (.bool false) from Ref.bool rfl) (wI ((i:Int)+(1:Int)) ((i+1:Nat):Int))) (ih (i+1) (by omega) false hs.symm)
   | true=>
     have v0:Ref (.bool true) (.bool true):=Ref.bool rfl
     by_cases h3:((x+1:Nat):Int)=((u:Nat):Int)
     · exact gS KT4_ok (some 34) [2,29,30,31,34,36,37] [(219,tt),(223,tt),(226,.cptr [.i6 ((x+1:Nat):Int)] 0),(231,ff),(221,.i6 ((i+1:Nat):Int))] (.c6 (iT h1) v0 r1 (nn i) h1 (jF h3) (.a1 (wI ((i:Int)+(1:Int)) ((i+1:Nat):Int)))) (ih (i+1) (by omega) false (by rw[hs];simp[show x+1=u by omega]))
     · refine gS KT4_ok (some 34) [2,29,30,31,34,36,37] [(219,tt),(223,tt),(226,.cptr [.i6 ((x+1:Nat):Int)] 0),(231,tt),(234,.cptr [.i6 ((x+1:Nat):Int)] 0),(221,.i6 ((i+1:Nat):Int))] (.c6 (iT h1) v0 r1 (nn i) h1 (jT h3) (.a4 r1 (nn i) h1 (wI ((i:Int)+(1:Int)) ((i+1:Nat):Int)))) (t:=h4T0) (σ:=slots 248 [(2,.i6 (c:Int)),(29,.i6 (u:Int)),(30,.bool true),(31,.bool wi),(34,.list 1 (L.map unJ)),(36,(.bool (!decide (((x+1:Nat):Int)=(c:Int))))),(37,.i6 ((i+1:Nat):Int))]) (h:=[]) ?_
       refine ih (i+1) (by omega) _ ?_;rw[hs];have:¬ x+1=u:=by omega
       rw[show decide (((x+1:Nat):Int)=((c:Nat):Int))=decide (x+1=c) from decide_eq_decide.2 ⟨fun h=>by omega,fun h=>by omega⟩]
       simp[this]
variable {m:MachD} {p:PoseD} {k:List BendD} {S1 S2 S3 T u c:Nat}
abbrev st4 (k:List BendD) (S1 S2 S3 T u c i:Nat) (fd wi:Bool):List AV:=slots 248 [(2,.i6 ((c:Nat):Int)),(11,.ptr 0 6 0 0),(13,.ptr 1 10 0 0),(27,.list 19 (k.map (unBend S1 S2 S3 T))),(29,.i6 ((u:Nat):Int)),(30,.bool fd),(31,.bool wi),(32,.i6 ((i:Nat):Int))]
theorem step4 {i:Nat} {y:BendD} {fd wi is:Bool} (hi:i<k.length) (h8:k.length<=1000) (hy:y=k.getD i default)
   (hg:GF 4 S w0 (.bool true) h4T2 ⟨st4 k S1 S2 S3 T u c (i+1) (fd||is) (wi||(is&&y.w)),[some ⟨41,6,false,[Mx m],none⟩,some ⟨61,10,false,[unPose 300 p],none⟩]⟩):
   GF 4 S w0 (.bool true) h4T1 ⟨slots 248 [(2,.i6 ((c:Nat):Int)),(11,.ptr 0 6 0 0),(13,.ptr 1 10 0 0),(27,.list 19 (k.map (unBend S1 S2 S3 T))),(29,.i6 ((u:Nat):Int)),(30,.bool fd),(31,.bool wi),(32,.i6 ((i:Nat):Int)),(33,.bool is)],[some ⟨41,6,false,[Mx m],none⟩,some ⟨61,10,false,[unPose 300 p],none⟩]⟩:=by
 have hl:(k.map (unBend S1 S2 S3 T)).length=k.length:=lmE ..;have r1:Ref (.cptr ((k.map (unBend S1 S2 S3 T)).getD i []) 0) (.cptr (unBend S1 S2 S3 T y) 0):=by rw[hy];exact Ref.cmap hi
 have nx:∀ fd',fd'=(fd||is)->GF 4 S w0 (.bool true) [.code (nav [1,1,1,1,1,1,1,1,1,1,1,1,1,1,0,1,0,0,1,0,0,1,1] (bodyOf Tryz.f4)),.inBlock 3,.code (nav [1,1,1,1,1,1,1,1,1,1,1,1,1,1,0,1,0,0,1,1] (bodyOf Tryz.f4)),.inLoop (nav [1,1,1,1,1,1,1,1,1,1,1,1,1,1,0,1,0,0] (bodyOf Tryz.f4)),.inBlock 2,.code (nav [1,1,1,1,1,1,1,1,1,1,1,1,1,1,1] (bodyOf Tryz.f4))] ⟨slots 248 [(2,.i6 ((c:Nat):Int)),(11,.ptr 0 6 0 0),(13,.ptr 1 10 0 0),(27,.list 19 (k.map (unBend S1 S2 S3 T))),(29,.i6 ((u:Nat):Int)),(30,.bool fd'),(31,.bool wi),(32,.i6 ((i:Nat):Int)),(33,.bool is)],[some ⟨41,6,false,[Mx m],none⟩,some ⟨61,10,false,[unPose 300 p],none⟩]⟩:=fun fd' hf=>by
   rw[<- hf] at hg;cases wi with
   | true=>exact p4_6_0 m p k S1 S2 S3 T i u c fd' true is y rfl (by omega) hg
   | false=>
     cases is with
     | true=>exact p4_6_1 m p k S1 S2 S3 T i u c fd' false true y rfl rfl ⟨r1,by rw[hl];omega,by omega⟩ hg
     | false=>exact p4_6_2 m p k S1 S2 S3 T i u c fd' false false y rfl rfl (by omega) hg
 cases fd with
 | true=>exact p4_5_0 m p k S1 S2 S3 T i u c true wi is rfl (nx true rfl)
 | false=>exact p4_5_1 m p k S1 S2 S3 T i u c false wi is rfl (nx is (by simp))
theorem loop4b {v w:BodyD} {e x:PtD} {s t:Rat} (hm:m.small) (h8:m.bodies.length<=8) (hp:poseE m p.joints.length=0) (hk:k=(bendsS v w x e).1) (hk2:k.length<=1000) (hu:0<u) (huc:u<c) (hc:c<m.bodies.length) (hv:v=m.bodies.getD u default) (hw:w=m.bodies.getD c default)
   (hs:s=p.joints.getD (u-1) default) (ht:t=p.joints.getD (c-1) default) (hany:k.any (isBe s t)=true/\k.any (fun y=>isBe s t y&&y.w)=fineB v w s t) (hS:8*S1+8*S2+4*S3+20*T+5000<=LIM):∀ (j i:Nat),i+j=k.length->∀ fd wi,fd=(k.take i).any (isBe s t)->wi=(k.take i).any (fun y=>isBe s t y&&y.w)->
   GF 4 S w0 (.bool true) h4T2 ⟨st4 k S1 S2 S3 T u c i fd wi,[some ⟨41,6,false,[Mx m],none⟩,some ⟨61,10,false,[unPose 300 p],none⟩]⟩:=by
 obtain⟨hc0,hn⟩:=pose_parts hp;intro j;have hl:(k.map (unBend S1 S2 S3 T)).length=k.length:=lmE ..;have hjl:(p.joints.map (unQ 300)).length=p.joints.length:=lmE ..
 induction j with
 | zero=>
   intro i hij fd wi hfd hwi;rw[tkE (by omega)] at hfd hwi;rw[hany.1] at hfd;rw[hany.2] at hwi;have hbl:=beyL_len (m:=m) (p:=p) p.joints.length;have hf:=bey_fine (m:=m) (p:=p) (n:=p.joints.length) (v:=v) (w:=w) hu (by omega) (by omega) (by omega) hv hw;rw[<- hs, <- ht, <- hwi] at hf;subst hfd;have s1:Mx m=unMach 300 (reMach (Mx m)):=by rw[Mx_re];rfl
   have s2:(reMach (Mx m)).small:=by rw[Mx_re];exact hm
   have s3:(reMach (Mx m)).bodies.length<=8:=by rw[Mx_re];exact h8
   have s4:Ref (.list 3 (p.joints.map (unQ 300))) (.list 3 (((p.joints.map (unQ 300)).map reQ).map (unQ 300))):=Ref.eq (by rw[reQ_un]);have s5:(p.joints.map (unQ 300)).length<=4611686018427387904:=by rw[hjl];omega
   have s6:poseE (reMach (Mx m)) (p.joints.map (unQ 300)).length=0:=by rw[Mx_re,hjl];exact hp
   have rY:Ref (.tup [.list 1 ((beyL (reMach (Mx m)) ⟨⟨p.at_.x,p.at_.z⟩,p.turn,(p.joints.map (unQ 300)).map reQ⟩ (p.joints.map (unQ 300)).length).map unJ),.i6 0]) (.tup [.list 1 ((beyL m p p.joints.length).map unJ),.i6 0]):=Ref.eq (by rw[Mx_re,reQ_un,hjl]);have hnl:¬ (((i:Nat):Int)<(((k.map (unBend S1 S2 S3 T)).length:Nat):Int)):=by rw[hl];omega
   refine gR KT4_ok (some 26) [2,29,30,31,34,36,37] [0,1] [(166,ff),(213,.tup [.list 1 ((beyL m p p.joints.length).map unJ),.i6 (0:Int)])] (.c6 (iF hnl) rY s1 s2 s3 (dc (300<=300)) (.a5 (dc (300<=300)) (dc (300<=100000)) s4 s5 s6)) (t:=h4T0) (σ:=slots 248 [(2,.i6 ((c:Nat):Int)),(29,.i6 ((u:Nat):Int)),(30,.bool true),(31,.bool wi),(34,.list 1 ((beyL m p p.joints.length).map unJ)),(36,.bool true),(37,.i6 ((0:Nat):Int))]) (h:=[some ⟨41,6,false,[(unMach 300 m)],none⟩,some ⟨61,10,false,[[.q p.at_.x 300,.q p.at_.z 300,.q p.turn 300,.list 3 (p.joints.map (unQ 300))]],none⟩]) ?_
   refine Good.tidy [] (by decide) (σ':=slots 248 [(2,.i6 ((c:Nat):Int)),(29,.i6 ((u:Nat):Int)),(30,.bool true),(31,.bool wi),(34,.list 1 ((beyL m p p.joints.length).map unJ)),(36,.bool true),(37,.i6 ((0:Nat):Int))]) (h':=[]) (by kernel_rfl) (by kernel_rfl) ?_;exact loop4c (by omega) hf.symm (beyL m p p.joints.length).length 0 (by omega) true (by simp)
 | succ j ih=>
   intro i hij fd wi hfd hwi;have hi:i<k.length:=by omega
   obtain⟨y,hy⟩:∃ y,y=k.getD i default:=⟨_,rfl⟩;have a1:=any_take (isBe s t) hi;have a2:=any_take (fun y=>isBe s t y&&y.w) hi;rw[<- hfd, <- hy] at a1;rw[<- hwi, <- hy] at a2;have hmem:y∈(bendsS v w x e).1:=by rw[<- hk,hy];simp[gdE,hi]
   obtain⟨n1,n2,_⟩:=bend_ok hmem
   have hX:∀ {d:Sd},nok d->∀ q,decide (cmpX d.d 0=0/\cmpC d.a d.b d.d q 0 0=0)=decide (cmpC d.a d.b d.d q 0 0=0):=fun {d} n q=>by
     have:cmpX d.d 0=0:=if_neg fun h=>h.elim (fun h=>absurd (sgn_num.2.1 h) (Rat.not_lt.2 n.fld.1)) (fun h=>absurd h (by decide))
     simp[this]
   have nx:=step4 (S:=S) (w0:=w0) (m:=m) (p:=p) (S1:=S1) (S2:=S2) (S3:=S3) (T:=T) (u:=u) (c:=c) (fd:=fd) (wi:=wi) (is:=isBe s t y) hi hk2 hy (by
     have:=ih (i+1) (by omega) _ _ rfl rfl
     rw[a1,a2] at this;exact this)
   have h1:((i:Nat):Int)<(((k.map (unBend S1 S2 S3 T)).length:Nat):Int):=by rw[hl];omega
   have r1:Ref (.cptr ((k.map (unBend S1 S2 S3 T)).getD i []) 0) (.cptr (unBend S1 S2 S3 T y) 0):=by rw[hy];exact Ref.cmap hi
   have ju:∀ n:Nat,0<n->n<=p.joints.length->Ref (AV.int .i64 (IntKind.i64.wrap (((n:Nat):Int)-(1:Int)))) (AV.int .i64 ((n-1:Nat):Int)):=fun n h1 h2=>(Ref.wr ⟨by show(-9223372036854775808:Int)<=_;omega,by show _<=(9223372036854775807:Int);omega⟩).trans (Ref.int (by omega))
   have r2:Ref (AV.cptr ((p.joints.map (unQ 300)).getD (u-1) []) 0) (AV.cptr [(AV.q s 300)] 0):=by rw[hs];exact Ref.cmap (f:=unQ 300) (by omega)
   have r3:Ref (AV.cptr ((p.joints.map (unQ 300)).getD (c-1) []) 0) (AV.cptr [(AV.q t 300)] 0):=by rw[ht];exact Ref.cmap (f:=unQ 300) (by omega)
   have ru:=ju u hu (by omega);have rc:=ju c (by omega) (by omega);have jlu:((u-1:Nat):Int)<(((p.joints.map (unQ 300)).length:Nat):Int):=by rw[hjl];omega
   have jlc:((c-1:Nat):Int)<(((p.joints.map (unQ 300)).length:Nat):Int):=by rw[hjl];omega
   have z1:8*S1+8*300+8*S2+4*S3+2000<=LIM:=by omega
   have z2:8*T+8*300+8*T+4*T+2000<=LIM:=by omega
   have rb:Ref (AV.bool (decide (cmpX y.b.d 0=0/\cmpC y.b.a y.b.b y.b.d t 0 0=0))) (AV.bool (decide (cmpC y.b.a y.b.b y.b.d t 0 0=0))):=Ref.bool (hX n2 t);cases ea:decide (cmpC y.a.a y.a.b y.a.d s 0 0=0) with
   | true=>
     have ra:Ref (AV.bool (decide (cmpX y.a.d 0=0/\cmpC y.a.a y.a.b y.a.d s 0 0=0))) (AV.bool true):=Ref.bool (by rw[hX n1,ea]);refine gR KT4_ok (some 26) [2,11,13,27,29,30,31,32,33,34,36,37] [0,1] [(166,tt),(171,.cptr (unBend S1 S2 S3 T y) 0),(177,.i6 ((u-1:Nat):Int)),(178,.cptr [.q s 300] 0),(180,tt),(181,tt),(184,.cptr (unBend S1 S2 S3 T y) 0),(190,.i6 ((c-1:Nat):Int)),(191,.cptr [.q t 300] 0),(193,.bool (decide (cmpC y.b.a y.b.b y.b.d t 0 0=0)))] (.c6 (iT h1) r1 (nn i) h1 ru r2 (.c6 (nn (u-1)) jlu ra z1 (show Ref (.bool true) (.bool true) from Ref.bool rfl) r1 (.c6 (nn i) h1 rc r3 (nn (c-1)) jlc (.a2 rb z2)))) (t:=h4T1) (σ:=slots 248 [(2,.i6 (c:Int)),(11,.ptr 0 6 0 0),(13,.ptr 1 10 0 0),(27,.list 19 (k.map (unBend S1 S2 S3 T))),(29,.i6 (u:Int)),(30,.bool fd),(31,.bool wi),(32,.i6 (i:Int)),(33,.bool (decide (cmpC y.b.a y.b.b y.b.d t 0 0=0)))]) (h:=[some ⟨41,6,false,[(unMach 300 m)],none⟩,some ⟨61,10,false,[[.q p.at_.x 300,.q p.at_.z 300,.q p.turn 300,.list 3 (p.joints.map (unQ 300))]],none⟩]) ?_
     have e:isBe s t y=decide (cmpC y.b.a y.b.b y.b.d t 0 0=0):=by unfold isBe;rw[ea];rfl
     rw[e] at nx;exact nx
   | false=>
     have ra:Ref (AV.bool (decide (cmpX y.a.d 0=0/\cmpC y.a.a y.a.b y.a.d s 0 0=0))) (AV.bool false):=Ref.bool (by rw[hX n1,ea]);refine gR KT4_ok (some 26) [2,11,13,27,29,30,31,32,33,34,36,37] [0,1] [(166,tt),(171,.cptr (unBend S1 S2 S3 T y) 0),(177,.i6 ((u-1:Nat):Int)),(178,.cptr [.q s 300] 0),(180,ff),(181,ff)] (.c6 (iT h1) r1 (nn i) h1 ru r2 (.a5 (nn (u-1)) jlu ra z1 (show Ref (.bool false) (.bool false) from Ref.bool rfl))) (t:=h4T1) (σ:=slots 248 [(2,.i6 (c:Int)),(11,.ptr 0 6 0 0),(13,.ptr 1 10 0 0),(27,.list 19 (k.map (unBend S1 S2 S3 T))),(29,.i6 (u:Int)),(30,.bool fd),(31,.bool wi),(32,.i6 (i:Int)),(33,.bool false)]) (h:=[some ⟨41,6,false,[(unMach 300 m)],none⟩,some ⟨61,10,false,[[.q p.at_.x 300,.q p.at_.z 300,.q p.turn 300,.list 3 (p.joints.map (unQ 300))]],none⟩]) ?_
     have e:isBe s t y=false:=by unfold isBe;rw[ea];rfl
     rw[e] at nx;exact nx
theorem mid4 {b:Int} {x to:PtD} (hm:m.small) (h8:m.bodies.length<=8) (hE:legE m p.joints.length b=0):GF 4 S w0 (.bool true) [.code (nav [1,1,1,1,1,1,1,1,1,0] (bodyOf Tryz.f4)),.code (nav [1,1,1,1,1,1,1,1,1,1] (bodyOf Tryz.f4))] ⟨slots 248 [(2,.i6 b),(11,.ptr 0 6 0 0),(13,.ptr 1 10 0 0),(15,.ptr 2 6 0 0),(17,.ptr 3 6 0 0)],[some ⟨41,6,false,[Mx m],none⟩,some ⟨61,10,false,[unPose 300 p],none⟩,some ⟨58,6,false,[[.q x.x 300,.q x.z 300]],none⟩,some ⟨58,6,false,[[.q to.x 300,.q to.z 300]],none⟩]⟩:=by
 obtain⟨u,c,cb,u0,uc,c8,hn,hu,hlo,hup,f1,f2,_⟩:=leg_frames hE;obtain⟨hp,b0,bn,_⟩:=leg_parts hE;subst cb;have hjl:(p.joints.map (unQ 300)).length=p.joints.length:=lmE ..;have s1:Mx m=unMach 300 (reMach (Mx m)):=by rw[Mx_re];rfl
 have s2:(reMach (Mx m)).small:=by rw[Mx_re];exact hm
 have s3:(reMach (Mx m)).bodies.length<=8:=by rw[Mx_re];exact h8
 have s4:Ref (.list 3 (p.joints.map (unQ 300))) (.list 3 (((p.joints.map (unQ 300)).map reQ).map (unQ 300))):=Ref.eq (by rw[reQ_un]);have s5:(p.joints.map (unQ 300)).length<=4611686018427387904:=by rw[hjl];omega
 obtain⟨q,hq⟩:∃ q,q=placeF (fr m p c) x:=⟨_,rfl⟩;have wE:worldE m p.joints.length ((c:Nat):Int)=0:=by unfold worldE;rw[if_pos hp,if_pos (by omega)]
 have wV:worldV m p ((c:Nat):Int) x=q:=by unfold worldV;rw[if_pos wE,hq,show((c:Nat):Int).toNat=c from rfl]
 have rW:Ref (.tup [.agg [.q (worldV (reMach (Mx m)) ⟨⟨p.at_.x,p.at_.z⟩,p.turn,(p.joints.map (unQ 300)).map reQ⟩ ((c:Nat):Int) ⟨x.x,x.z⟩).x (4*SZ 300+300+300+8),.q (worldV (reMach (Mx m)) ⟨⟨p.at_.x,p.at_.z⟩,p.turn,(p.joints.map (unQ 300)).map reQ⟩ ((c:Nat):Int) ⟨x.x,x.z⟩).z (4*SZ 300+300+300+8)],.i6 (worldE (reMach (Mx m)) (p.joints.map (unQ 300)).length ((c:Nat):Int))]) (.tup [.agg [.q q.x 40528,.q q.z 40528],.i6 0]):=by
   rw[Mx_re,reQ_un,hjl,wE];show Ref (.tup [.agg [.q (worldV m p ((c:Nat):Int) x).x _,.q (worldV m p ((c:Nat):Int) x).z _],_]) _;rw[wV];exact rr
 have rB:Ref (.tup [.list 19 ((bndsL (reMach (Mx m)) ⟨⟨p.at_.x,p.at_.z⟩,p.turn,(p.joints.map (unQ 300)).map reQ⟩ ((c:Nat):Int) ⟨x.x,x.z⟩ ⟨q.x,q.z⟩).map (unBend (bS1 300 300 (lX 300 40528 40528) (lX 300 40528 40528)) (bS2 300 300 (lX 300 40528 40528) (lX 300 40528 40528)) (bS3 300 300 (lX 300 40528 40528) (lX 300 40528 40528)) (bT 300 300 (lX 300 40528 40528) (lX 300 40528 40528)))),.i6 (bndsE (reMach (Mx m)) ⟨⟨p.at_.x,p.at_.z⟩,p.turn,(p.joints.map (unQ 300)).map reQ⟩ ((c:Nat):Int) ⟨x.x,x.z⟩ ⟨q.x,q.z⟩)])
     (.tup [.list 19 ((bndsL m p ((c:Nat):Int) x q).map (unBend (bS1 300 300 (lX 300 40528 40528) (lX 300 40528 40528)) (bS2 300 300 (lX 300 40528 40528) (lX 300 40528 40528)) (bS3 300 300 (lX 300 40528 40528) (lX 300 40528 40528)) (bT 300 300 (lX 300 40528 40528) (lX 300 40528 40528)))),.i6 (bndsE m p ((c:Nat):Int) x q)]):=Ref.eq (by rw[Mx_re,reQ_un])
 by_cases h:bndsE m p ((c:Nat):Int) x q=0
 · have h2:(bndS m p ((c:Nat):Int) x q).2=true:=by
     unfold bndsE at h;rw[if_pos hE] at h
     split at h
     · assumption
     · cases h
   have hL:bndsL m p ((c:Nat):Int) x q=(bndS m p ((c:Nat):Int) x q).1:=if_pos h;have hany:=reach_any (u:=upB m ((c:Nat):Int)) (v:=loB m ((c:Nat):Int)) (x:=x) (e:=localD (hipF m p ((c:Nat):Int)) q) (s:=p.joints.getD (u-1) default) (t:=p.joints.getD (c-1) default) rfl (by rw[hq];exact leg_here x f1 f2 _ rfl) h2;have rV:Ref (.cptr ((m.bodies.map (unBody 300)).getD ((c:Nat):Int).toNat []) 0) (.cptr (unBody 300 (loB m ((c:Nat):Int))) 0):=by rw[hlo];exact Ref.cmap c8
   have z4:0<=((c:Nat):Int):=by omega
   have z5:((c:Nat):Int)<(((m.bodies.map (unBody 300)).length:Nat):Int):=by rw[lmE];omega
   refine p4_3_1 m p ((c:Nat):Int) x to q (bndsL m p ((c:Nat):Int) x q) (bndsE m p ((c:Nat):Int) x q) _ _ _ _ u (loB m ((c:Nat):Int)) h ⟨rW,s1,s2,s3,s4,s5,by decide+kernel,rB,by decide+kernel,by decide+kernel,rV,z4,z5,Ref.int hu⟩ ?_
   have hlen:(bndsL m p ((c:Nat):Int) x q).length<=1000:=by
     rw[hL];exact bnds_len
   exact loop4b (m:=m) (p:=p) (v:=upB m ((c:Nat):Int)) (w:=loB m ((c:Nat):Int)) (e:=localD (hipF m p ((c:Nat):Int)) q) (x:=x) hm h8 hp hL hlen u0 uc c8 hup hlo rfl rfl (by rw[hL];exact hany) (by decide+kernel) (bndsL m p ((c:Nat):Int) x q).length 0 (by omega) false false (by simp) (by simp)
 · have h10:bndsE m p ((c:Nat):Int) x q=10:=by
     unfold bndsE at h ⊢;rw[if_pos hE] at h ⊢
     split at h
     · exact absurd rfl h
     · rename_i h1;rw[if_neg h1]
   exact p4_3_0 m p ((c:Nat):Int) x to q (bndsL m p ((c:Nat):Int) x q) (bndsE m p ((c:Nat):Int) x q) _ _ _ _ u default h ⟨rW,s1,s2,s3,s4,s5,by decide+kernel,rB,by decide+kernel,by decide+kernel,Ref.bool (decide_eq_true h10)⟩ (fin4 rfl)
theorem loop4a {b:Int} {x to:PtD} {l:List BendD} {e:Int} (hm:m.small) (h8:m.bodies.length<=8) (hE:legE m p.joints.length b=0) (hB:Bnd 300 m p) (hto:QB 300 to.x/\QB 300 to.z) (hl:∀ y∈l,y∈(bndS m p b x to).1) (hl2:l.length<=1000) (he:e=0\/e=10)
   (hS:128*S1+128*S2+800*S3+2000*T+300000000<=LIM):∀ (j i:Nat),i+j=l.length->
   GF 4 S w0 (.bool true) [.code (nav [1,1,1,1,1,1,1,0,1,0,0] (bodyOf Tryz.f4)),.inLoop (nav [1,1,1,1,1,1,1,0,1,0,0] (bodyOf Tryz.f4)),.inBlock 0,.code (nav [1,1,1,1,1,1,1,1] (bodyOf Tryz.f4))] ⟨slots 248 [(2,.i6 b),(11,.ptr 0 6 0 0),(13,.ptr 1 10 0 0),(15,.ptr 2 6 0 0),(17,.ptr 3 6 0 0),(19,.list 19 (l.map (unBend S1 S2 S3 T))),(20,.i6 e),(21,.i6 ((i:Nat):Int))],[some ⟨41,6,false,[Mx m],none⟩,some ⟨61,10,false,[unPose 300 p],none⟩,some ⟨58,6,false,[[.q x.x 300,.q x.z 300]],none⟩,some ⟨58,6,false,[[.q to.x 300,.q to.z 300]],none⟩]⟩:=by
 have hll:(l.map (unBend S1 S2 S3 T)).length=l.length:=lmE ..;obtain⟨hp,b0,bn,_⟩:=leg_parts hE;obtain⟨hc0,hn⟩:=pose_parts hp;intro j
 induction j with
 | zero=>
   intro i hij;have h1:¬ (((i:Nat):Int)<(((l.map (unBend S1 S2 S3 T)).length:Nat):Int)):=by rw[hll];omega
   by_cases h0:e=0
   · exact gS KT4_ok (some 16) [2,11,13,15,17] [(87,ff),(121,ff),(124,ff)] (.a3 (iF h1) (jF h0) (show Ref (.bool false) (.bool false) from rr)) (mid4 (x:=x) (to:=to) hm h8 hE)
   · exact gS KT4_ok (some 16) [2,11,13,15,17] [(87,ff),(121,tt),(124,ff)] (.a3 (iF h1) (jT h0) (show Ref (.bool (!decide (e=(10:Int)))) (.bool false) from Ref.bool (by simp[he.resolve_left h0]))) (mid4 (x:=x) (to:=to) hm h8 hE)
 | succ j ih=>
   intro i hij;have hi:i<l.length:=by omega
   have hjl:(p.joints.map (unQ 300)).length=p.joints.length:=lmE ..;obtain⟨y,hy⟩:∃ y,y=l.getD i default:=⟨_,rfl⟩;have hmem:y∈(bndS m p b x to).1:=hl y (by rw[hy];simp[gdE,hi]);obtain⟨n1,n2,n3,_,n5⟩:=bend_ok hmem;have hV:=bent_to (hip_unit m p b) hmem;obtain⟨u,c,cb,u0,uc,c8,_,hu,hlo,hup,f1,f2,hbase⟩:=leg_frames hE;obtain⟨g1,g2,g3,g4⟩:=fr_FQ hB (check_tree hc0) (by omega) hbase h8;have hz:=rz_le (jb:=300) (i:=(upB m b).par.toNat) (by omega);rw[show SZ 300=9980 from rfl] at hz;have hwb:QB 300 (upB m b).at_.x/\QB 300 (upB m b).at_.z:=by rw[hup];exact hB.2.2.2.2 u (by omega)
   obtain⟨l1,l2⟩:=local_QB (f:=fr m p (upB m b).par.toNat) (w:=(upB m b).at_) (to:=to) ⟨g1.mono (by omega),g2.mono (by omega),g3.mono (by omega),g4.mono (by omega)⟩ hwb hto;have hOK:bentOK (hipF m p b) (loB m b).at_ ⟨x.x,x.z⟩ y:=⟨n1.fld.1,n2.fld.1,n3,localD (hipF m p b) to,to,n5,l1,l2,hV,hto⟩;have hyy:(⟨⟨y.a.a,y.a.b,y.a.d⟩,⟨y.b.a,y.b.b,y.b.d⟩,y.w⟩:BendD)=y:=rfl;have r1:Ref (.cptr ((l.map (unBend S1 S2 S3 T)).getD i []) 0) (.cptr (unBend S1 S2 S3 T y) 0):=by rw[hy];exact Ref.cmap hi
   have eq1:∀ q:Rat,decide (cmpX 0 0=0/\cmpC q 0 0 q 0 0=0)=true:=fun q=>decide_eq_true ⟨by decide,(cmpC_zero (s:=⟨q,0,0⟩) (.inl ⟨rfl,rfl⟩) q).2 rfl⟩
   have h1:((i:Nat):Int)<(((l.map (unBend S1 S2 S3 T)).length:Nat):Int):=by rw[hll];omega
   have hz2:SZ 300=9980:=rfl;have s1:Mx m=unMach 300 (reMach (Mx m)):=by rw[Mx_re];rfl
   have s2:(reMach (Mx m)).small:=by rw[Mx_re];exact hm
   have s3:(reMach (Mx m)).bodies.length<=8:=by rw[Mx_re];exact h8
   have s4:Ref (.list 3 (p.joints.map (unQ 300))) (.list 3 (((p.joints.map (unQ 300)).map reQ).map (unQ 300))):=Ref.eq (by rw[reQ_un]);have s5:(p.joints.map (unQ 300)).length<=4611686018427387904:=by rw[hjl];omega
   have s6:legE (reMach (Mx m)) (p.joints.map (unQ 300)).length b=0:=by rw[Mx_re,hjl];exact hE
   have s7:bentOK (hipF (reMach (Mx m)) ⟨⟨p.at_.x,p.at_.z⟩,p.turn,(p.joints.map (unQ 300)).map reQ⟩ b) (loB (reMach (Mx m)) b).at_ ⟨x.x,x.z⟩ ⟨⟨y.a.a,y.a.b,y.a.d⟩,⟨y.b.a,y.b.b,y.b.d⟩,y.w⟩:=by rw[Mx_re,reQ_un];exact hOK
   have z1:128*S1+128*S2+800*S3+800*T+600*T+600*T+10*300+10*300+20*SZ 300+50000000<=LIM:=by omega
   have rT:Ref (.tup [.agg [.q (bentV (hipF (reMach (Mx m)) ⟨⟨p.at_.x,p.at_.z⟩,p.turn,(p.joints.map (unQ 300)).map reQ⟩ b) (loB (reMach (Mx m)) b).at_ ⟨x.x,x.z⟩ ⟨⟨y.a.a,y.a.b,y.a.d⟩,⟨y.b.a,y.b.b,y.b.d⟩,y.w⟩).x.a 300,.q 0 0,.q 0 0],.agg [.q (bentV (hipF (reMach (Mx m)) ⟨⟨p.at_.x,p.at_.z⟩,p.turn,(p.joints.map (unQ 300)).map reQ⟩ b) (loB (reMach (Mx m)) b).at_ ⟨x.x,x.z⟩ ⟨⟨y.a.a,y.a.b,y.a.d⟩,⟨y.b.a,y.b.b,y.b.d⟩,y.w⟩).z.a 300,.q 0 0,.q 0 0],.i6 0]) (.tup [.agg [.q to.x 300,.q 0 0,.q 0 0],.agg [.q to.z 300,.q 0 0,.q 0 0],.i6 0]):=by
     rw[Mx_re,reQ_un];show Ref (.tup [.agg [.q (bentV (hipF m p b) (loB m b).at_ x y).x.a 300,_,_],.agg [.q (bentV (hipF m p b) (loB m b).at_ x y).z.a 300,_,_],_]) _;rw[hV];exact rr
   have v0:8*300+8*300+8*0+4*0+2000<=LIM:=by decide+kernel
   exact gR KT4_ok (some 16) [2,11,13,15,17,19,20,21] [0,1,2,3] [(87,tt),(97,.cptr (unBend S1 S2 S3 T y) 0),(99,.tup [.agg [.q to.x 300,.q 0 0,.q 0 0],.agg [.q to.z 300,.q 0 0,.q 0 0],.i6 (0:Int)]),(109,tt),(116,tt),(89,.i6 ((i+1:Nat):Int))] (.c6 (iT h1) r1 (nn i) h1 rT s1 (.c6 s2 s3 (dc (300<=300)) (dc (300<=300)) (dc (300<=100000)) s4 (.c6 s5 s6 s7 z1 (show Ref (.bool (decide (cmpX 0 0=0/\cmpC to.x 0 0 to.x 0 0=0))) (.bool true) from Ref.bool (eq1 _)) v0 (.a3 (show Ref (.bool (decide (cmpX 0 0=0/\cmpC to.z 0 0 to.z 0 0=0))) (.bool true) from Ref.bool (eq1 _)) v0 (wI ((i:Int)+(1:Int)) ((i+1:Nat):Int)))))) (ih (i+1) (by omega))
end
theorem reaches_true (r:RigD) (sd:StandD) (b:Int) (xs ts:SpotD) (hr:r.ok) (hs:sd.ok) (hx:xs.ok) (ht:ts.ok):
   AFun Tryz.prog 4 [.agg (unRig r),.agg (unStand sd),.i6 b,.agg (unSpot xs),.agg (unSpot ts)] (.bool true):=by
 refine af Tryz.f4 fun S w0=> ?_
 have a0:Ref (AV.tup [(AV.agg (unMach 300 (reRig (unRig r)).real)),(AV.agg (unRMach 300 (reRig (unRig r)).real))]) (AV.tup [AV.agg (unMach 300 r.real),AV.agg (unRMach 300 r.real)]):=Ref.eq (by rw[reRig_un]);have a1:unRig r=unRig (reRig (unRig r)):=by rw[reRig_un]
 have a2:(reRig (unRig r)).ok:=by rw[reRig_un];exact hr
 have a3:Ref (AV.tup [(AV.agg [(AV.q sd.at_.x.val 300),(AV.q sd.at_.z.val 300),(AV.q sd.turn.val 300),(AV.list 3 (numsP ((sd.joints.map unNum).map reNum)))]),(AV.agg [(AV.rq sd.at_.x.val sd.at_.x.val.den 300),(AV.rq sd.at_.z.val sd.at_.z.val.den 300),(AV.rq sd.turn.val sd.turn.val.den 300),(AV.list 4 (numsR ((sd.joints.map unNum).map reNum)))])]) (AV.tup [AV.agg (unPose 300 sd.real),AV.agg (unRPose 300 sd.real)]):=Ref.eq (by rw[reNum_un];rfl);obtain⟨s1,s2,s3,s4⟩:=hs;have a4:sd.joints.map unNum=((sd.joints.map unNum).map reNum).map unNum:=by rw[reNum_un]
 have a5:∀ s∈(sd.joints.map unNum).map reNum,s.ok:=by rw[reNum_un];exact s3
 have a6:(sd.joints.map unNum).length*128<=140737488355328:=by rw[lmE];exact s4
 have a7:Ref (AV.bool (reRig (unRig r)).small) (AV.bool r.small):=Ref.eq (by rw[reRig_un]);have hms:=real_small hr;have hjl:sd.real.joints.length=sd.joints.length:=by simp[StandD.real]
 have a8:Ref (AV.int .i64 (legE (reMach (Mx r.real)) (sd.real.joints.map (unQ 300)).length b)) (AV.int .i64 (legE r.real sd.real.joints.length b)):=Ref.eq (by rw[Mx_re,lmE]);have a9:Mx r.real=unMach 300 (reMach (Mx r.real)):=by rw[Mx_re];rfl
 have a10:(reMach (Mx r.real)).small:=by rw[Mx_re];exact hms
 have a11:(sd.real.joints.map (unQ 300)).length<=4611686018427387904:=by rw[lmE,hjl];omega
 have a13:Ref (.list 3 (sd.real.joints.map (unQ 300))) (.list 3 (((sd.real.joints.map (unQ 300)).map reQ).map (unQ 300))):=Ref.eq (by rw[reQ_un]);cases h1:r.small with
 | false=>exact p4_0_0 r sd b xs ts r.real sd.real (by rw[h1];rfl) ⟨a0,a1,a2,a3,s1.1,s1.2,s2,a4,a5,a6,a7⟩ (fin4 rfl)
 | true=>
   have h1':(!(r.small))=false:=by rw[h1];rfl
   have h8:r.real.bodies.length<=8:=by rw[real_len];exact rig_le8 h1
   have a12:(reMach (Mx r.real)).bodies.length<=8:=by rw[Mx_re];exact h8
   have v0:Ref (.bool (!(r.small))) (.bool false):=Ref.bool h1'
   by_cases h2:(9:Int)<(((sd.joints.map unNum).length:Nat):Int)
   · refine gR KT4_ok (some 5) [10] [2,3,5,8] [(40,.tup [.agg (unMach 300 r.real),.agg (unRMach 300 r.real)]),(45,.tup [.agg [.q sd.real.at_.x 300,.q sd.real.at_.z 300,.q sd.real.turn 300,.list 3 (sd.real.joints.map (unQ 300))],.agg [.rq sd.real.at_.x sd.real.at_.x.den 300,.rq sd.real.at_.z sd.real.at_.z.den 300,.rq sd.real.turn sd.real.turn.den 300,.list 4 (sd.real.joints.map (unRQ 300))]]),(49,.bool (r.small)),(51,ff),(57,tt)] (.c6 a0 a1 a2 a3 s1.1 s1.2 (.c6 s2 a4 a5 a6 a7 a1 (.a3 a2 v0 (iT h2)))) (t:=[.code .ret,.code (nav [1,1,1,1] (bodyOf Tryz.f4))]) (σ:=slots 248 [(10,.bool true)]) (h:=[some ⟨31,6,false,[(unSpot xs)],none⟩,some ⟨31,6,false,[(unSpot ts)],none⟩,some ⟨41,6,false,[(unMach 300 r.real)],none⟩,some ⟨61,10,false,[[.q sd.real.at_.x 300,.q sd.real.at_.z 300,.q sd.real.turn 300,.list 3 (sd.real.joints.map (unQ 300))]],none⟩]) (fin4 rfl)
   · have v1:300<=300:=by decide
     by_cases h3:(legE r.real sd.real.joints.length b)=(0:Int)
     · refine gR KT4_ok (some 5) [2,8,9,10,11,13] [2,3,5,8] [(40,.tup [.agg (unMach 300 r.real),.agg (unRMach 300 r.real)]),(45,.tup [.agg [.q sd.real.at_.x 300,.q sd.real.at_.z 300,.q sd.real.turn 300,.list 3 (sd.real.joints.map (unQ 300))],.agg [.rq sd.real.at_.x sd.real.at_.x.den 300,.rq sd.real.at_.z sd.real.at_.z.den 300,.rq sd.real.turn sd.real.turn.den 300,.list 4 (sd.real.joints.map (unRQ 300))]]),(49,.bool (r.small)),(51,ff),(57,ff),(61,.i6 (legE r.real sd.real.joints.length b)),(63,ff)] (.c6 a0 a1 a2 a3 s1.1 s1.2 (.c6 s2 a4 a5 a6 a7 a1 (.c6 a2 v0 (iF h2) a8 a9 a10 (.c6 a12 v1 v1 (dc (300<=100000)) a13 a11 (.a1 (jF h3)))))) (t:=[.code (nav [1,1,1,1,0] (bodyOf Tryz.f4)),.code (nav [1,1,1,1,1] (bodyOf Tryz.f4))]) (σ:=slots 248 [(2,.i6 b),(8,.ptr 0 6 0 0),(9,.ptr 1 6 0 0),(10,.bool false),(11,.ptr 2 6 0 0),(13,.ptr 3 10 0 0)]) (h:=[some ⟨31,6,false,[(unSpot xs)],none⟩,some ⟨31,6,false,[(unSpot ts)],none⟩,some ⟨41,6,false,[(unMach 300 r.real)],none⟩,some ⟨61,10,false,[[.q sd.real.at_.x 300,.q sd.real.at_.z 300,.q sd.real.turn 300,.list 3 (sd.real.joints.map (unQ 300))]],none⟩]) ?_
       generalize hm:r.real=m at*;generalize hp:sd.real=p at*;have hjl':(p.joints.map (unQ 300)).length=p.joints.length:=lmE ..
       have rB:Ref (.tup [.list 19 ((bndsL (reMach (Mx m)) ⟨⟨p.at_.x,p.at_.z⟩,p.turn,(p.joints.map (unQ 300)).map reQ⟩ b ⟨xs.pt.x,xs.pt.z⟩ ⟨ts.pt.x,ts.pt.z⟩).map (unBend (bS1 300 300 (lX 300 300 300) (lX 300 300 300)) (bS2 300 300 (lX 300 300 300) (lX 300 300 300)) (bS3 300 300 (lX 300 300 300) (lX 300 300 300)) (bT 300 300 (lX 300 300 300) (lX 300 300 300)))),.i6 (bndsE (reMach (Mx m)) ⟨⟨p.at_.x,p.at_.z⟩,p.turn,(p.joints.map (unQ 300)).map reQ⟩ b ⟨xs.pt.x,xs.pt.z⟩ ⟨ts.pt.x,ts.pt.z⟩)])
           (.tup [.list 19 ((bndsL m p b xs.pt ts.pt).map (unBend (bS1 300 300 (lX 300 300 300) (lX 300 300 300)) (bS2 300 300 (lX 300 300 300) (lX 300 300 300)) (bS3 300 300 (lX 300 300 300) (lX 300 300 300)) (bT 300 300 (lX 300 300 300) (lX 300 300 300)))),.i6 (bndsE m p b xs.pt ts.pt)]):=Ref.eq (by rw[Mx_re,reQ_un])
       refine p4_1_0 xs ts m p b xs.pt ts.pt (bndsL m p b xs.pt ts.pt) (bndsE m p b xs.pt ts.pt) _ _ _ _ ⟨rr,hx.1,hx.2,rr,ht.1,ht.2,rB,a9,a10,a12,a13,a11,by decide+kernel,by decide+kernel⟩ ?_;refine Good.seen (b:=⟨41,6,false,[Mx m],none⟩) (el:=Mx m) 0 0 (by rfl) (by rfl) fun h0=> ?_
       refine Good.seen (b:=⟨61,10,false,[unPose 300 p],none⟩) (el:=unPose 300 p) 1 0 (by rfl) (by rfl) fun h1=> ?_
       refine Good.seen (b:=⟨58,6,false,[[.q ts.pt.x 300,.q ts.pt.z 300]],none⟩) (el:=[.q ts.pt.x 300,.q ts.pt.z 300]) 3 0 (by rfl) (by rfl) fun h2=> ?_
       obtain⟨_,_,_,_,_,k0⟩:=h0;obtain⟨_,_,_,_,_,k1⟩:=h1;obtain⟨_,_,_,_,_,k3⟩:=h2;obtain⟨q1,_,k3⟩:=k3.qb;refine loop4a (x:=xs.pt) (to:=ts.pt) hms h8 h3 (bnd_of k0 k1) ⟨q1,k3.qb.1⟩ (fun y hy=> ?_) ?_ ?_ (by decide+kernel) (bndsL m p b xs.pt ts.pt).length 0 (by omega)
       · unfold bndsL at hy
         split at hy
         · exact hy
         · cases hy
       · unfold bndsL
         split
         · exact bnds_len
         · simp
       · unfold bndsE
         rw[if_pos h3]
         split
         · exact .inl rfl
         · exact .inr rfl
     · refine gR KT4_ok (some 5) [10] [2,3,5,8] [(40,.tup [.agg (unMach 300 r.real),.agg (unRMach 300 r.real)]),(45,.tup [.agg [.q sd.real.at_.x 300,.q sd.real.at_.z 300,.q sd.real.turn 300,.list 3 (sd.real.joints.map (unQ 300))],.agg [.rq sd.real.at_.x sd.real.at_.x.den 300,.rq sd.real.at_.z sd.real.at_.z.den 300,.rq sd.real.turn sd.real.turn.den 300,.list 4 (sd.real.joints.map (unRQ 300))]]),(49,.bool (r.small)),(51,ff),(57,ff),(61,.i6 (legE r.real sd.real.joints.length b)),(63,tt)] (.c6 a0 a1 a2 a3 s1.1 s1.2 (.c6 s2 a4 a5 a6 a7 a1 (.c6 a2 v0 (iF h2) a8 a9 a10 (.c6 a12 v1 v1 (dc (300<=100000)) a13 a11 (.a1 (jT h3)))))) (t:=[.code .ret,.code (nav [1,1,1,1] (bodyOf Tryz.f4))]) (σ:=slots 248 [(10,.bool true)]) (h:=[some ⟨31,6,false,[(unSpot xs)],none⟩,some ⟨31,6,false,[(unSpot ts)],none⟩,some ⟨41,6,false,[(unMach 300 r.real)],none⟩,some ⟨61,10,false,[[.q sd.real.at_.x 300,.q sd.real.at_.z 300,.q sd.real.turn 300,.list 3 (sd.real.joints.map (unQ 300))]],none⟩]) (fin4 rfl)
end Go.Av
namespace Go.Av
open Go.Proofs Go.RowKit Go.Proofs.YtbdhgnlabjmnoaaGreat
abbrev bulk {H:Type} (d:DataW H):Nat:=Rows.uptoBulk d
theorem bulk_one {H:Type} (d:DataW H):1<=bulk d:=by
 cases d with
 | lit l=>cases l <;> simp[bulk,Rows.uptoBulk]
 | nil=>simp[bulk,Rows.uptoBulk]
 | ptr d=>simp[bulk,Rows.uptoBulk]
 | slice elems spare=>simp[bulk,Rows.uptoBulk]
 | agg parts=>simp[bulk,Rows.uptoBulk]
 | iface t d=>simp[bulk,Rows.uptoBulk]
 | map entries=>simp[bulk,Rows.uptoBulk]
 | held h=>simp[bulk,Rows.uptoBulk]
theorem bulk_part {H:Type} {d:DataW H} {l:List (DataW H)} (h:d∈l):bulk d<=Rows.uptoBulkAll l:=by
 induction l with
 | nil=>cases h
 | cons x r ih=>
   simp only[Rows.uptoBulkAll];cases List.mem_cons.1 h with
   | inl e=>subst e;unfold bulk;omega
   | inr e=>have:=ih e;omega
theorem bulk_len {H:Type} (l:List (DataW H)):l.length<=Rows.uptoBulkAll l:=by
 induction l with
 | nil=>simp[Rows.uptoBulkAll]
 | cons x r ih=>have:=bulk_one x;unfold bulk at this;simp only[Rows.uptoBulkAll,List.length_cons];omega
theorem cell_lt {w:World} {a:Addr} {v:Value} (h:w.cell? a=some v):a.block<w.heap.size:=by
 unfold World.cell? at h;rcases Nat.lt_or_ge a.block w.heap.size with h1 | h1
 · exact h1
 · rw[Array.getElem?_eq_none h1] at h;simp at h
section
variable {H:Type} (enc:TypeId×Value->H) (P:Program) (w:World) (base:Nat) (sp:Nat->Bool) (hd:Bool)
def Opn (t:TypeId) (R:List AV->Prop):Prop:=∀ fuel cs d ps,DataW.trod enc P w base sp hd fuel t cs=some (d,ps)->bulk d<=1048576->∃ ch,R ch/\RelCs ρ0 No w No ch cs
end
section
variable {H:Type} {enc:TypeId×Value->H} {P:Program} {w:World} {base:Nat} {sp:Nat->Bool} {hd:Bool}
theorem Opn.mono {t:TypeId} {R R':List AV->Prop} (h:Opn enc P w base sp hd t R) (hr:∀ ch,R ch->R' ch):Opn enc P w base sp hd t R':=fun fuel cs d ps h1 h2=>by
 obtain⟨ch,g1,g2⟩:=h fuel cs d ps h1 h2;exact⟨ch,hr _ g1,g2⟩
theorem opn_int {t:TypeId} {k:IntKind} (ht:P.underlying t=some (.int k)):Opn enc P w base sp hd t (fun ch=>∃ n,ch= [.int k n]/\(Lit.int k n).wf=true):=fun fuel cs d ps h1 h2=>by
 obtain⟨n,rfl,_,hw⟩:=DataW.trod_int ht h1;exact⟨_,⟨n,rfl,hw⟩,.int .done⟩
def AllR:List (List AV->Prop)->List (List AV)->Prop
 | [],[]=>True
 | R::Rs,c::cs=>R c/\AllR Rs cs
 | _,_=>False
theorem opn_fields {n:Nat} {cs:List Value}:∀ (fl:List Field) (Rs:List (List AV->Prop)) (xl:List (DataW H×List MemPlace)) (off:Nat),Rs.length=fl.length->xl.length=fl.length->
   (∀ (i:Nat) (f:Field),fl[i]? =some f->f.offset=off+((fl.take i).map fun f=>P.cellsOf f.type).sum)->(cs.drop off).length=(fl.map fun f=>P.cellsOf f.type).sum->
   (∀ (i:Nat) (f:Field),fl[i]? =some f->DataW.trod enc P w base sp hd n f.type ((cs.drop f.offset).take (P.cellsOf f.type))=xl[i]?)->(∀ x∈xl,bulk x.1<=1048576)->
   (∀ (i:Nat) (f:Field) (R:List AV->Prop),fl[i]? =some f->Rs[i]? =some R->Opn enc P w base sp hd f.type R)->∃ css,AllR Rs css/\RelCs ρ0 No w No css.flatten (cs.drop off)
 | [],[],[],off,_,_,_,hlen,_,_,_=>by
   refine⟨[],trivial, ?_⟩;simp only[List.map_nil,List.sum_nil] at hlen;rw[List.length_eq_zero_iff.1 hlen];exact .done
 | f ::fl,R::Rs,x::xl,off,h1,h2,hoff,hlen,ht,hb,ho=>by
   have e0:f.offset=off:=by simpa using hoff 0 f rfl
   have t0:=ht 0 f rfl;rw[e0] at t0;simp only[List.getElem?_cons_zero] at t0;obtain⟨xd,xp⟩:=x;obtain⟨ch,g1,g2⟩:=ho 0 f R rfl rfl n _ xd xp t0 (hb (xd,xp) (by simp));simp only[List.map_cons,List.sum_cons] at hlen
   obtain⟨css,k1,k2⟩:=opn_fields (n:=n) (cs:=cs) fl Rs xl (off+P.cellsOf f.type) (by simpa using h1) (by simpa using h2)
     (fun i f' hf=>by have:=hoff (i+1) f' (by simpa using hf);simp only[List.take_succ_cons,List.map_cons,List.sum_cons] at this;omega)
     (by simp only[List.length_drop] at hlen ⊢;omega) (fun i f' hf=>by simpa using ht (i+1) f' (by simpa using hf)) (fun y hy=>hb y (by simp[hy])) (fun i f' R' hf hR=>ho (i+1) f' R' (by simpa using hf) (by simpa using hR))
   refine⟨ch::css,⟨g1,k1⟩, ?_⟩;rw[List.flatten_cons]
   have:cs.drop off=(cs.drop off).take (P.cellsOf f.type)++cs.drop (off+P.cellsOf f.type):=by
     rw[<- List.drop_drop];exact(List.take_append_drop _ _).symm
   rw[this];exact g2.app k2
 | [],_::_,_,_,h1,_,_,_,_,_,_=>by simp at h1
 | _::_,[],_,_,h1,_,_,_,_,_,_=>by simp at h1
 | [],[],_::_,_,_,h2,_,_,_,_,_=>by simp at h2
 | _::_,_::_,[],_,_,h2,_,_,_,_,_=>by simp at h2
theorem opn_struct {T:TypeId->Prop} (K:Kids P T) {t:TypeId} (hT:T t) {fs:Array Field} (ht:P.underlying t=some (.struct fs)) {Rs:List (List AV->Prop)} (hl:Rs.length=fs.toList.length)
   (ho:∀ (i:Nat) (f:Field) (R:List AV->Prop),fs.toList[i]? =some f->Rs[i]? =some R->Opn enc P w base sp hd f.type R):
   Opn enc P w base sp hd t (fun ch=>∃ css,AllR Rs css/\ch=css.flatten):=fun fuel cs d ps h1 h2=>by
 obtain⟨xs,n,_,he,hlen,hxl,hf⟩:=DataW.trod_struct ht h1;obtain⟨_,ksz,koff⟩:=K.struct hT ht;injection he with he1 he2;subst he1
 have hb:∀ x∈xs,bulk x.1<=1048576:=by
   intro x hx;have h3:=bulk_part (List.mem_map.2 ⟨x,hx,rfl⟩:x.1∈xs.map (·.1));simp only[bulk,Rows.uptoBulk] at h2 h3 ⊢;omega
 obtain⟨css,g1,g2⟩:=opn_fields (enc:=enc) (P:=P) (w:=w) (base:=base) (sp:=sp) (hd:=hd) (n:=n) (cs:=cs) fs.toList Rs xs 0 hl (by simpa using hxl) (fun i f hf'=>by rw[koff i f hf'];omega) (by rw[List.drop_zero,hlen,ksz]) (fun i f hf'=>hf i f (by simpa using hf')) hb ho;exact⟨css.flatten,⟨css,g1,rfl⟩,by simpa using g2⟩
theorem opn_slice {t e:TypeId} (ht:P.underlying t=some (.slice e)) {R:List AV->Prop} (hz:0<P.cellsOf e) (ho:Opn enc P w base sp hd e R):
   Opn enc P w base sp hd t (fun ch=>∃ l:List (List AV),(∀ c∈l,R c)/\l.length<=1048576/\ch= [.list (P.cellsOf e) l]):=fun fuel cs d ps h1 h2=>by
 rcases Deep.open_slice ht h1 with ⟨rfl,_⟩ | ⟨a,len,cap,m,n,D,Pl,rfl,hb,hl,hm,hmm,he,hx⟩
 · exact⟨[.list (P.cellsOf e) []],⟨[],by simp,by simp,rfl⟩,.list (xs:=[]) (fun _=>[]) (by simp) (by simp[big]) (by simp) (by simp) (by simp) .done⟩
 · injection he with he1 he2
   subst he1
   have hlb:Rows.uptoBulkAll ((List.range len).map D)<=1048575:=by
     simp only[bulk,Rows.uptoBulk] at h2;omega
   have hlen:len<=1048575:=by
     have:=bulk_len ((List.range len).map D);simp at this;omega
   have hlm:len<=m:=by rw[hmm];split <;> omega
   have key:∀ i,∃ c:List AV×List Value,i<len->R c.1/\RelCs ρ0 No w No c.1 c.2/\w.cells? base (a.add (i*P.cellsOf e)) (P.cellsOf e)=some c.2:=by
     intro i
     by_cases hi:i<len
     · obtain⟨cs',hc,ht'⟩:=hx i (by omega)
       have hbi:bulk (D i)<=1048576:=by
         have:=bulk_part (List.mem_map.2 ⟨i,List.mem_range.2 hi,rfl⟩:D i∈(List.range len).map D);omega
       obtain⟨ch,g1,g2⟩:=ho n cs' (D i) (Pl i) ht' hbi;exact⟨(ch,cs'),fun _=>⟨g1,g2,hc⟩⟩
     · exact⟨([],[]),fun h=>absurd h hi⟩
   let f:Nat->List AV×List Value:=fun i=>Classical.choose (key i)
   have hf:∀ i,i<len->R (f i).1/\RelCs ρ0 No w No (f i).1 (f i).2/\w.cells? base (a.add (i*P.cellsOf e)) (P.cellsOf e)=some (f i).2:=fun i=>Classical.choose_spec (key i)
   refine⟨[.list (P.cellsOf e) ((List.range len).map fun i=>(f i).1)],⟨(List.range len).map fun i=>(f i).1, ?_,by simp;omega,rfl⟩, ?_⟩
   · intro c hc
     obtain⟨i,hi,rfl⟩:=List.mem_map.1 hc;exact(hf i (List.mem_range.1 hi)).1
   · have hcell:∀ i,i<len->(f i).2.length=P.cellsOf e/\∀ j v,(f i).2[j]? =some v->w.cell? ((a.add (i*P.cellsOf e)).add j)=some v:=by
       intro i hi;have h3:=(hf i hi).2.2;unfold World.cells? at h3
       split at h3
       · have hl3:=mapM_some_length h3
         refine⟨by simpa using hl3,fun j v hv=> ?_⟩
         have hj:j<P.cellsOf e:=by
           have:=(List.getElem?_eq_some_iff.1 hv).1;rw[show(f i).2.length=P.cellsOf e by simpa using hl3] at this;exact this
         have:=mapM_some_get h3 j j (by simp[hj]);rw[this];exact hv
       · cases h3
     have e1:len=((List.range len).map fun i=>(f i).1).length:=by simp
     have key2:RelCs ρ0 No w No [.list (P.cellsOf e) ((List.range len).map fun i=>(f i).1)] [.slice (some a) ((List.range len).map fun i=>(f i).1).length cap]:=by
       refine .list (fun i=>(f i).2) (by simpa using hl) (Nat.le_trans hm (by decide)) (fun i hi=>(hcell i (by simpa using hi)).1) (fun i el he=> ?_) (fun hp=> ?_) .done
       · rw[List.getElem?_map] at he
         have hi:i<len:=by
           rcases Nat.lt_or_ge i len with h | h
           · exact h
           · simp[h] at he
         rw[List.getElem?_range hi] at he;injection he with he;subst he;exact(hf i hi).2.1
       · have hp':0<len:=by simpa using hp
         refine⟨a,rfl, ?_,fun h=>h,fun i hi=>(hcell i (by simpa using hi)).2⟩;obtain⟨l0,c0⟩:=hcell 0 hp';have:∃ v,(f 0).2[0]? =some v:=⟨(f 0).2[0]'(by omega),by simp[l0,hz]⟩;obtain⟨v,hv⟩:=this;have h5:=c0 0 v hv;have hblk:=cell_lt h5;simpa[block_add] using hblk
     rw[<- e1] at key2;exact key2
end
def structTs (P:Program) (t:TypeId):Option (List TypeId):=match P.underlying t with
 | some (.struct fs)=>some (fs.toList.map (·.type))
 | _=>none
theorem kidsT:Kids Tryz.prog (· <Tryz.prog.types.size):=kids_rows (by kernel_rfl) (by kernel_rfl)
section
variable {H:Type} {enc:TypeId×Value->H} {w:World} {base:Nat} {sp:Nat->Bool} {hd:Bool}
abbrev OpnT (enc:TypeId×Value->H) (w:World) (base:Nat) (sp:Nat->Bool) (hd:Bool) (t:TypeId) (R:List AV->Prop):Prop:=Opn enc Tryz.prog w base sp hd t R
theorem opn_structT {t:TypeId} {ts:List TypeId} (hs:structTs Tryz.prog t=some ts) (hlt:Nat.ble (t+1) Tryz.prog.types.size=true) {Rs:List (List AV->Prop)} (hl:Rs.length=ts.length)
   (ho:∀ (i:Nat) (u:TypeId) (R:List AV->Prop),ts[i]? =some u->Rs[i]? =some R->OpnT enc w base sp hd u R):
   OpnT enc w base sp hd t (fun ch=>∃ css,AllR Rs css/\ch=css.flatten):=by
 unfold structTs at hs
 split at hs
 · rename_i fs ht
   injection hs with hs;subst hs;exact opn_struct kidsT (Nat.le_of_ble_eq_true hlt) ht (by simpa using hl) fun i f R hf hR=>ho i f.type R (by rw[List.getElem?_map,hf];rfl) hR
 · cases hs
theorem AllR.cons {R:List AV->Prop} {Rs:List (List AV->Prop)}:∀ {css:List (List AV)},AllR (R::Rs) css->∃ c cs,css=c::cs/\R c/\AllR Rs cs
 | [],h=>h.elim
 | c::cs,h=>⟨c,cs,rfl,h.1,h.2⟩
theorem AllR.nil:∀ {css:List (List AV)},AllR [] css->css= []
 | [],_=>rfl
 | _::_,h=>h.elim
theorem wf_i64 {n:Int} (h:(Lit.int .i64 n).wf=true):(-9223372036854775808:Int)<=n/\n<=(9223372036854775807:Int):=by
 simpa[Lit.wf,IntKind.min,IntKind.max,IntKind.signed,IntKind.bits] using h
theorem wf_u8 {n:Int} (h:(Lit.int .u8 n).wf=true):0<=n/\n<=255:=by
 simpa[Lit.wf,IntKind.min,IntKind.max,IntKind.signed,IntKind.bits] using h
abbrev isI (ch:List AV):Prop:=∃ n,ch= [.int .i64 n]/\(Lit.int .i64 n).wf=true
abbrev isB (ch:List AV):Prop:=∃ n,ch= [.int .u8 n]/\(Lit.int .u8 n).wf=true
abbrev isNum (ch:List AV):Prop:=∃ a:NumD,ch=unNum a/\a.ok
abbrev isSpot (ch:List AV):Prop:=∃ a:SpotD,ch=unSpot a/\a.ok
theorem opn2:OpnT enc w base sp hd 2 isI:=opn_int (by kernel_rfl)
theorem opn3:OpnT enc w base sp hd 3 isI:=opn_int (by kernel_rfl)
theorem opn5:OpnT enc w base sp hd 5 isB:=opn_int (by kernel_rfl)
theorem pick3 {A B C:List AV->Prop} {a b c:TypeId} (hA:OpnT enc w base sp hd a A) (hB:OpnT enc w base sp hd b B) (hC:OpnT enc w base sp hd c C):
   ∀ (i:Nat) (u:TypeId) (R:List AV->Prop),[a,b,c][i]? =some u-> [A,B,C][i]? =some R->OpnT enc w base sp hd u R
 | 0,u,R,h1,h2=>by simp at h1 h2;subst h1;subst h2;exact hA
 | 1,u,R,h1,h2=>by simp at h1 h2;subst h1;subst h2;exact hB
 | 2,u,R,h1,h2=>by simp at h1 h2;subst h1;subst h2;exact hC
 | i+3,u,R,h1,h2=>by simp at h1
theorem pickL {L:List (TypeId×(List AV->Prop))} (h:∀ p∈L,OpnT enc w base sp hd p.1 p.2):∀ (i:Nat) (u:TypeId) (R:List AV->Prop),(L.map (·.1))[i]? =some u->(L.map (·.2))[i]? =some R->OpnT enc w base sp hd u R:=by
 intro i u R h1 h2;rw[List.getElem?_map] at h1 h2;cases hp:L[i]? with
 | none=>rw[hp] at h1;cases h1
 | some p=>
   rw[hp] at h1 h2;simp at h1 h2;subst h1;subst h2;exact h p (List.mem_of_getElem? hp)
theorem opn29:OpnT enc w base sp hd 29 isNum:=by
 refine(opn_structT (ts:=[2,2,5]) (Rs:=[isI,isI,isB]) (by kernel_rfl) (by kernel_rfl) rfl (pick3 opn2 opn2 opn5)).mono ?_;rintro ch ⟨css,h,rfl⟩;obtain⟨_,css1,rfl,⟨n,rfl,h1⟩,kk1⟩:=h.cons;obtain⟨_,css2,rfl,⟨d,rfl,h2⟩,kk2⟩:=kk1.cons;obtain⟨_,css3,rfl,⟨p,rfl,h3⟩,kk3⟩:=kk2.cons;obtain rfl:=kk3.nil;exact⟨⟨n,d,p⟩,rfl,(wf_i64 h1).1,(wf_i64 h1).2,(wf_i64 h2).1,(wf_i64 h2).2,wf_u8 h3⟩
theorem opn31:OpnT enc w base sp hd 31 isSpot:=by
 refine(opn_structT (ts:=[29,29]) (Rs:=[isNum,isNum]) (by kernel_rfl) (by kernel_rfl) rfl (pickL (L:=[(29,isNum),(29,isNum)]) (by intro p hp;simp at hp;subst hp;exact opn29))).mono ?_;rintro ch ⟨css,h,rfl⟩;obtain⟨_,css1,rfl,⟨x,rfl,h1⟩,kk1⟩:=h.cons;obtain⟨_,css2,rfl,⟨z,rfl,h2⟩,kk2⟩:=kk1.cons;obtain rfl:=kk2.nil;exact⟨⟨x,z⟩,rfl,h1,h2⟩
theorem lst_of {α:Type} {un:α->List AV} {ok:α->Prop}:∀ (l:List (List AV)),(∀ c∈l,∃ a,c=un a/\ok a)->∃ xs:List α,l=xs.map un/\∀ a∈xs,ok a
 | [],_=>⟨[],rfl,by simp⟩
 | c::l,h=>by
   obtain⟨a,rfl,ha⟩:=h c (by simp);obtain⟨xs,rfl,hx⟩:=lst_of l fun c hc=>h c (by simp[hc])
   exact⟨a::xs,rfl,by simpa using ⟨ha,hx⟩⟩
theorem opn_list {t e:TypeId} {n:Nat} {α:Type} {un:α->List AV} {ok:α->Prop} (ht:Tryz.prog.underlying t=some (.slice e)) (hn:Tryz.prog.cellsOf e=n) (hz:0<n) (ho:OpnT enc w base sp hd e (fun ch=>∃ a,ch=un a/\ok a)):
   OpnT enc w base sp hd t (fun ch=>∃ xs:List α,ch= [.list n (xs.map un)]/\(∀ a∈xs,ok a)/\xs.length<=1048576):=by
 refine(opn_slice ht (by rw[hn];exact hz) ho).mono ?_;rintro ch ⟨l,h1,h2,rfl⟩;obtain⟨xs,rfl,hx⟩:=lst_of l h1;exact⟨xs,by rw[hn],hx,by simpa using h2⟩
abbrev isL {α:Type} (n:Nat) (un:α->List AV) (ok:α->Prop) (ch:List AV):Prop:=∃ xs:List α,ch= [.list n (xs.map un)]/\(∀ a∈xs,ok a)/\xs.length<=1048576
abbrev isSpots (ch:List AV):Prop:=∃ xs:List SpotD,ch= [.list 6 (xs.map unSpot)]/\(∀ a∈xs,a.ok)/\xs.length<=1048576
abbrev isNums (ch:List AV):Prop:=∃ xs:List NumD,ch= [.list 3 (xs.map unNum)]/\(∀ a∈xs,a.ok)/\xs.length<=1048576
theorem opn137:OpnT enc w base sp hd 137 isSpots:=opn_list (by kernel_rfl) (by kernel_rfl) (by decide) opn31
theorem opn32:OpnT enc w base sp hd 32 isNums:=opn_list (by kernel_rfl) (by kernel_rfl) (by decide) opn29
theorem opn224:OpnT enc w base sp hd 224 (fun ch=>∃ a:LimbD,ch=unLimb a/\a.ok):=by
 refine(opn_structT (ts:=[3,31,31,29,29,29,29,137]) (Rs:=[isI,isSpot,isSpot,isNum,isNum,isNum,isNum,isSpots]) (by kernel_rfl) (by kernel_rfl) rfl
   (pickL (L:=[(3,isI),(31,isSpot),(31,isSpot),(29,isNum),(29,isNum),(29,isNum),(29,isNum),(137,isSpots)]) (by intro p hp;simp at hp;rcases hp with rfl | rfl | rfl | rfl <;> first | exact opn3 | exact opn31 | exact opn29 | exact opn137))).mono ?_
 rintro ch ⟨css,h,rfl⟩;obtain⟨_,css1,rfl,⟨a,rfl,_⟩,kk1⟩:=h.cons;obtain⟨_,css2,rfl,⟨b,rfl,h2⟩,kk2⟩:=kk1.cons;obtain⟨_,css3,rfl,⟨c,rfl,h3⟩,kk3⟩:=kk2.cons;obtain⟨_,css4,rfl,⟨d,rfl,h4⟩,kk4⟩:=kk3.cons;obtain⟨_,css5,rfl,⟨e,rfl,h5⟩,kk5⟩:=kk4.cons;obtain⟨_,css6,rfl,⟨f,rfl,h6⟩,kk6⟩:=kk5.cons;obtain⟨_,css7,rfl,⟨g,rfl,h7⟩,kk7⟩:=kk6.cons;obtain⟨_,css8,rfl,⟨l,rfl,h8,h9⟩,kk8⟩:=kk7.cons;obtain rfl:=kk8.nil;exact⟨⟨a,b,c,d,e,f,g,l⟩,rfl,h2,h3,h4,h5,h6,h7,h8,by simp only;omega⟩
theorem opn227:OpnT enc w base sp hd 227 (fun ch=>∃ a:CordD,ch=unCord a/\a.ok):=by
 refine(opn_structT (ts:=[3,3,31,31,29]) (Rs:=[isI,isI,isSpot,isSpot,isNum]) (by kernel_rfl) (by kernel_rfl) rfl
   (pickL (L:=[(3,isI),(3,isI),(31,isSpot),(31,isSpot),(29,isNum)]) (by intro p hp;simp at hp;rcases hp with rfl | rfl | rfl <;> first | exact opn3 | exact opn31 | exact opn29))).mono ?_
 rintro ch ⟨css,h,rfl⟩;obtain⟨_,css1,rfl,⟨a,rfl,_⟩,kk1⟩:=h.cons;obtain⟨_,css2,rfl,⟨b,rfl,_⟩,kk2⟩:=kk1.cons;obtain⟨_,css3,rfl,⟨c,rfl,h3⟩,kk3⟩:=kk2.cons;obtain⟨_,css4,rfl,⟨d,rfl,h4⟩,kk4⟩:=kk3.cons;obtain⟨_,css5,rfl,⟨e,rfl,h5⟩,kk5⟩:=kk4.cons;obtain rfl:=kk5.nil;exact⟨⟨a,b,c,d,e⟩,rfl,h3,h4,h5⟩
theorem opn237:OpnT enc w base sp hd 237 (fun ch=>∃ a:DriveD,ch=unDrive a/\a.ok):=by
 refine(opn_structT (ts:=[3,29,29,29,29]) (Rs:=[isI,isNum,isNum,isNum,isNum]) (by kernel_rfl) (by kernel_rfl) rfl
   (pickL (L:=[(3,isI),(29,isNum),(29,isNum),(29,isNum),(29,isNum)]) (by intro p hp;simp at hp;rcases hp with rfl | rfl <;> first | exact opn3 | exact opn29))).mono ?_
 rintro ch ⟨css,h,rfl⟩;obtain⟨_,css1,rfl,⟨a,rfl,_⟩,kk1⟩:=h.cons;obtain⟨_,css2,rfl,⟨b,rfl,h2⟩,kk2⟩:=kk1.cons;obtain⟨_,css3,rfl,⟨c,rfl,h3⟩,kk3⟩:=kk2.cons;obtain⟨_,css4,rfl,⟨d,rfl,h4⟩,kk4⟩:=kk3.cons;obtain⟨_,css5,rfl,⟨e,rfl,h5⟩,kk5⟩:=kk4.cons;obtain rfl:=kk5.nil;exact⟨⟨a,b,c,d,e⟩,rfl,h2,h3,h4,h5⟩
theorem opn243:OpnT enc w base sp hd 243 (fun ch=>∃ a:SoleD,ch=unSole a/\a.ok):=by
 refine(opn_structT (ts:=[3,137,29]) (Rs:=[isI,isSpots,isNum]) (by kernel_rfl) (by kernel_rfl) rfl (pick3 opn3 opn137 opn29)).mono ?_;rintro ch ⟨css,h,rfl⟩;obtain⟨_,css1,rfl,⟨a,rfl,_⟩,kk1⟩:=h.cons;obtain⟨_,css2,rfl,⟨l,rfl,h2,h3⟩,kk2⟩:=kk1.cons;obtain⟨_,css3,rfl,⟨c,rfl,h4⟩,kk3⟩:=kk2.cons;obtain rfl:=kk3.nil;exact⟨⟨a,l,c⟩,rfl,h2,by simp only;omega,h4⟩
theorem opn27:OpnT enc w base sp hd 27 (fun ch=>∃ r:RigD,ch=unRig r/\r.ok):=by
 have h22:OpnT enc w base sp hd 22 (isL 26 unLimb LimbD.ok):=opn_list (n:=26) (by kernel_rfl) (by kernel_rfl) (by decide) opn224;have h23:OpnT enc w base sp hd 23 (isL 17 unCord CordD.ok):=opn_list (n:=17) (by kernel_rfl) (by kernel_rfl) (by decide) opn227;have h24:OpnT enc w base sp hd 24 (isL 13 unDrive DriveD.ok):=opn_list (n:=13) (by kernel_rfl) (by kernel_rfl) (by decide) opn237;have h25:OpnT enc w base sp hd 25 (isL 5 unSole SoleD.ok):=opn_list (n:=5) (by kernel_rfl) (by kernel_rfl) (by decide) opn243;refine(opn_structT (ts:=[22,23,23,24,25]) (Rs:=[isL 26 unLimb LimbD.ok,isL 17 unCord CordD.ok,isL 17 unCord CordD.ok,isL 13 unDrive DriveD.ok,isL 5 unSole SoleD.ok]) (by kernel_rfl) (by kernel_rfl) rfl (pickL (L:=[(22,isL 26 unLimb LimbD.ok),(23,isL 17 unCord CordD.ok),(23,isL 17 unCord CordD.ok),(24,isL 13 unDrive DriveD.ok),(25,isL 5 unSole SoleD.ok)]) (by intro p hp;simp at hp;rcases hp with rfl | rfl | rfl | rfl <;> first | exact h22 | exact h23 | exact h24 | exact h25))).mono ?_;rintro ch ⟨css,h,rfl⟩;obtain⟨_,css1,rfl,⟨a,rfl,h1,g1⟩,kk1⟩:=h.cons;obtain⟨_,css2,rfl,⟨b,rfl,h2,g2⟩,kk2⟩:=kk1.cons;obtain⟨_,css3,rfl,⟨c,rfl,h3,g3⟩,kk3⟩:=kk2.cons;obtain⟨_,css4,rfl,⟨d,rfl,h4,g4⟩,kk4⟩:=kk3.cons;obtain⟨_,css5,rfl,⟨e,rfl,h5,g5⟩,kk5⟩:=kk4.cons;obtain rfl:=kk5.nil;exact⟨⟨a,b,c,d,e⟩,rfl,h1,h2,h3,h4,h5,by simp only;omega,by simp only;omega,by simp only;omega,by simp only;omega,by simp only;omega⟩
theorem opn34:OpnT enc w base sp hd 34 (fun ch=>∃ s:StandD,ch=unStand s/\s.ok):=by
 refine(opn_structT (ts:=[31,29,32]) (Rs:=[isSpot,isNum,isNums]) (by kernel_rfl) (by kernel_rfl) rfl (pick3 opn31 opn29 opn32)).mono ?_;rintro ch ⟨css,h,rfl⟩;obtain⟨_,css1,rfl,⟨a,rfl,h1⟩,kk1⟩:=h.cons;obtain⟨_,css2,rfl,⟨b,rfl,h2⟩,kk2⟩:=kk1.cons;obtain⟨_,css3,rfl,⟨c,rfl,h3,h4⟩,kk3⟩:=kk2.cons;obtain rfl:=kk3.nil;exact⟨⟨a,b,c⟩,rfl,h1,h2,h3,by simp only;omega⟩
theorem opn_arg {t:TypeId} {fs:Array Field} {R:List AV->Prop} {r:Reach} {b0:Nat} {v:Value} {d:DataW H} {ps:List MemPlace} (ho:OpnT enc w base sp hd t R) (ht:Tryz.prog.underlying t=some (.struct fs)) (hval:Value.okWide Tryz.prog w r b0 t v)
   (h:DataW.Trod enc Tryz.prog w base sp hd t v d ps) (hb:bulk d<=1048576):∃ ch,R ch/\RelV0 ρ0 No w No (.agg ch) v:=by
 obtain⟨n,hn⟩:=h;obtain⟨cs,rfl,_⟩:=WideShapes.okWide_struct ht hval;obtain⟨ch,g1,g2⟩:=ho n _ d ps hn hb;exact⟨ch,g1,cs.toList,by simp,by simpa[Value.cells] using g2⟩
end
end Go.Av
namespace Go.Proofs.YtbdhgnlabjmnoaaGreat.poseReaches
open Go.ChangeShapes Go.WideShapes Go.ChangeAt Go.RowKit Go.Av
theorem own:ownKnob Tryz.prog.godebug=none:=by kernel_rfl
theorem slices:∀ t e,t<Tryz.prog.types.size->Tryz.prog.underlying t=some (.slice e)->0<Tryz.prog.cellsOf e:=slices_full_of Tryz.prog (by kernel_rfl)
theorem params4:Tryz.f4.params= #[27,34,3,31,31]:=by kernel_rfl
theorem und4:Tryz.prog.underlying 4=some .bool:=by kernel_rfl
theorem und3:Tryz.prog.underlying 3=some (.int .i64):=by kernel_rfl
def isStruct (P:Program) (t:TypeId):Bool:=match P.underlying t with
 | some (.struct _)=>true
 | _=>false
theorem struct_of {P:Program} {t:TypeId} (h:isStruct P t=true):∃ fs,P.underlying t=some (.struct fs):=by
 unfold isStruct at h
 split at h
 · exact⟨_,by assumption⟩
 · cases h
theorem trodAll_up {H:Type} {enc:TypeId×Value->H} {P:Program} {W W':World} {base:Nat} {sp:Nat->Bool} {hd:Bool} (hB:Below W.heap.size W W'):∀ {ts:List TypeId} {vs:List Value} {ds:List (DataW H)} {ps:List MemPlace},
   DataW.TrodAll enc P W base sp hd ts vs ds ps->DataW.TrodAll enc P W' base sp hd ts vs ds ps
 | [],[],[],_,h=>h
 | _::_,_::_,_::_,_,⟨p,q,⟨n,h1⟩,h2,e⟩=>⟨p,q,⟨n,DataW.trod_carry n _ _ _ h1 fun p hp=>hB.same (DataW.trod_lt n _ _ _ h1 p hp)⟩,trodAll_up hB h2,e⟩
def wargs:Array Value:= #[.agg #[.slice none 0 0,.slice none 0 0,.slice none 0 0,.slice none 0 0,.slice none 0 0],.agg #[.int .i64 0,.int .i64 0,.int .u8 0,.int .i64 0,.int .i64 0,.int .u8 0,.int .i64 0,.int .i64 0,.int .u8 0,.slice none 0 0],.int .i64 0,.agg #[.int .i64 0,.int .i64 0,.int .u8 0,.int .i64 0,.int .i64 0,.int .u8 0],.agg #[.int .i64 0,.int .i64 0,.int .u8 0,.int .i64 0,.int .i64 0,.int .u8 0]]
def wnum {H:Type}:DataW H:=.agg [.lit (.int .i64 0),.lit (.int .i64 0),.lit (.int .u8 0)]
def wdata {H:Type}:List (DataW H):=[.agg [.nil,.nil,.nil,.nil,.nil],.agg [.agg [wnum,wnum],wnum,.nil],.lit (.int .i64 0),.agg [wnum,wnum],.agg [wnum,wnum]]
theorem contract (H:Type) (enc:TypeId×Value->H) (W:World) (base:Nat) (args:Array Value) (ds gs:List (DataW H)) (before:List MemPlace)
   (hval:∀ (j:Nat) t v,Tryz.f4.params[j]? =some t->args[j]? =some v->Value.okWide Tryz.prog W .any base t v)
   (hW:DataW.Whole enc Tryz.prog Tryz.f4.params.toList Rows.poseReachesSpec.vars false W args.toList ds gs before) (hk:Rows.uptoSmall H (ds++gs)=true):
   Calls Tryz.prog 4 args W fun e W'=>∃ v,e= .returned v/\Rows.poseReachesSpec.post enc Tryz.prog Tryz.f4 false true false false W args v W':=by
 have hW':=hW;obtain⟨p,q,hA0,hV,rfl,hfz,hnd⟩:=hW;have hA:DataW.TrodAll enc Tryz.prog W 0 (fun _=>true) true Tryz.f4.params.toList args.toList ds p:=hA0;rw[params4] at hA hval;obtain⟨rfl,rfl⟩:=trodVars_none hV;have hAll:=hA;obtain⟨v0,vs0,d0,ds0,p0,q0,hargs,rfl,rfl,h0,r0⟩:=trodAll_cons hA;obtain⟨v1,vs1,d1,ds1,p1,q1,rfl,rfl,rfl,h1,r1⟩:=trodAll_cons r0;obtain⟨v2,vs2,d2,ds2,p2,q2,rfl,rfl,rfl,h2,r2⟩:=trodAll_cons r1;obtain⟨v3,vs3,d3,ds3,p3,q3,rfl,rfl,rfl,h3,r3⟩:=trodAll_cons r2;obtain⟨v4,vs4,d4,ds4,p4,q4,rfl,rfl,rfl,h4,r4⟩:=trodAll_cons r3;obtain⟨rfl,rfl,rfl⟩:=trodAll_nil r4;obtain rfl:args= #[v0,v1,v2,v3,v4]:=by cases args;simp_all
 have hb:Rows.uptoBulkAll ([d0,d1,d2,d3,d4]++([]:List (DataW H)))<=1048576:=of_decide_eq_true hk;have hbd:∀ d∈ [d0,d1,d2,d3,d4],bulk d<=1048576:=fun d hd=>Nat.le_trans (bulk_part (by simpa using hd)) hb
 obtain⟨f27,t27⟩:=struct_of (P:=Tryz.prog) (t:=27) (by kernel_rfl);obtain⟨f34,t34⟩:=struct_of (P:=Tryz.prog) (t:=34) (by kernel_rfl);obtain⟨f31,t31⟩:=struct_of (P:=Tryz.prog) (t:=31) (by kernel_rfl);obtain⟨_,⟨r,rfl,hr⟩,g0⟩:=opn_arg opn27 t27 (hval 0 27 v0 rfl rfl) h0 (hbd d0 (by simp));obtain⟨_,⟨s,rfl,hs⟩,g1⟩:=opn_arg opn34 t34 (hval 1 34 v1 rfl rfl) h1 (hbd d1 (by simp));obtain⟨bd,rfl,rfl,rfl,w2⟩:=open_int und3 (hval 2 3 v2 rfl rfl) h2;obtain⟨_,⟨x,rfl,hx⟩,g3⟩:=opn_arg opn31 t31 (hval 3 31 v3 rfl rfl) h3 (hbd d3 (by simp));obtain⟨_,⟨t,rfl,ht⟩,g4⟩:=opn_arg opn31 t31 (hval 4 31 v4 rfl rfl) h4 (hbd d4 (by simp));have hF:=(reaches_true r s bd x t hr hs hx ht).2 No W [v0,v1,.int .i64 bd,v3,v4] (fun _ h=>h.elim) ⟨g0,g1,RelCs.int .done,g3,g4,trivial⟩;refine hF.mono ?_;rintro e W' ⟨v,rfl,hv,hch⟩;have hvb:v= .bool true:=RelV.bool_inv hv;subst hvb;have hB:Below W.heap.size W W':=hch.below;have hlt:∀ t∈ [27,34,3,31,31],t<Tryz.prog.types.size:=fun t ht=>Nat.lt_of_lt_of_le (show t<300 by simp at ht;omega) (Nat.le_of_ble_eq_true (by kernel_rfl))
 have h6:=DataW.TrodAll.respare (spare':=fun b=>decide (b<W.heap.size)) kidsT slices hlt hAll (fun p hp=>by
   have:=hW'.lt p (by simpa using hp)
   simpa using this)
 have h7:DataW.TrodAll enc Tryz.prog W' 0 (fun b=>decide (b<W.heap.size)) true Tryz.f4.params.toList [v0,v1,.int .i64 bd,v3,v4] [d0,d1,.lit (.int .i64 bd),d3,d4] (p0++(p1++([]++(p3++(p4++ []))))):=by rw[params4];exact trodAll_up hB h6
 exact⟨_,rfl,_,_,_,[],_,[],hW',trodAll_cons_mk (shut_bool und4 _) trodAll_mk0,h7,rfl,hB.frame _,fun h=>by cases h⟩
section
variable (os:Os) {H:Type} (enc:TypeId×Value->H)
abbrev inp:Input:=⟨#[],wargs,[]⟩
theorem w1:(World.plainHolding Tryz.prog os inp).variablesB Tryz.prog=true:=by kernel_rfl
theorem w2:((World.plainHolding Tryz.prog os inp).heap.toList.drop Tryz.prog.globals.size).take ((begin Tryz.prog (fun _ _=>0) default).world.heap.size-Tryz.prog.globals.size)=
     (begin Tryz.prog (fun _ _=>0) default).world.heap.toList.drop Tryz.prog.globals.size:=by kernel_rfl
theorem w3:Input.okWideB Tryz.prog (World.plainHolding Tryz.prog os inp) 4 ⟨#[],wargs,[]⟩=true:=by kernel_rfl
theorem w4:DataW.whole enc Tryz.prog (World.plainHolding Tryz.prog os inp).memory Tryz.f4.params.toList [] false wargs.toList 8=some (wdata,[],[]):=by kernel_rfl
theorem w5:Rows.uptoSmall H (wdata++ [])=true:=by kernel_rfl
end
theorem w6:Tryz.prog.inits.idxOf? 4=none:=by kernel_rfl
theorem func4:Tryz.prog.funcs[4]? =some Tryz.f4:=by kernel_rfl
theorem w7 (os:Os) {H:Type} (enc:TypeId×Value->H):(Rows.OpenSpec.upto Rows.poseReachesSpec).bare.sizedB enc Tryz.prog Tryz.f4 false (World.plainHolding Tryz.prog os inp).memory wargs 8=true:=by kernel_rfl
theorem lifted (os:Os) (started:os.Started) (H:Type) (enc:TypeId×Value->H) (F:Stop.Interp):
   ReturnsInHanded {} Tryz.checked os 4 .any ((Rows.OpenSpec.upto Rows.poseReachesSpec).pre6 enc Tryz.prog Tryz.f4 Rows.poseReachesUptoRow.domain false) (((Rows.OpenSpec.upto Rows.poseReachesSpec).at F).post enc Tryz.prog Tryz.f4 false true false false):=by
 refine returnsInHanded_of_cond (C:=Tryz.checked) (s:=Rows.OpenSpec.upto Rows.poseReachesSpec) (k:=Rows.uptoSmall) rfl own started w6 (fn:=Tryz.f4) func4
   (OpenSpec.witness (enc:=enc) (C:=Tryz.checked) (s:=Rows.OpenSpec.upto Rows.poseReachesSpec) (k:=Rows.uptoSmall) rfl false inp 8 (w1 os) (w2 os) (w3 os) (x:=(wdata,[],[])) (w4 os enc) rfl w5 (w7 os enc)) ?_
 intro W base args ds gs before hval hW _ hk _;exact contract H enc W base args ds gs before hval hW hk
theorem c1:Tryz.checked.prog.funcNamed "amble/amblelaw04.PoseReaches" =some 4:=by kernel_rfl
theorem c3:Tryz.f4.isInstance Tryz.checked.prog Rows.poseReachesUptoRow.origin Rows.poseReachesUptoRow.targs:=of_decide_eq_true (by kernel_rfl)
theorem c4:Tryz.f4.isWrapper Tryz.checked.prog Rows.poseReachesUptoRow.wrapper Rows.poseReachesUptoRow.mainSum:=by
 unfold Func.isWrapper;first | (rw[if_pos (by decide+kernel)];kernel_rfl) | (rw[if_neg (by decide+kernel)];exact⟨rfl,rfl⟩)
theorem proved:Rows.PoseReachesUptoSaid:=
 OpenClaim.holds_of_cond 4 Tryz.f4 rfl rfl rfl rfl rfl rfl rfl ⟨rfl,rfl,rfl,rfl,rfl⟩ rfl rfl rfl rfl rfl c1 func4 facts c3 c4
   (fun os started H enc _ F=>lifted os started H enc F)
end Go.Proofs.YtbdhgnlabjmnoaaGreat.poseReaches
