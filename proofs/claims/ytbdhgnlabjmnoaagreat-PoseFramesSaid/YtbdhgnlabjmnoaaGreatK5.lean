/- PoseFrames: the given statement holds. No condition. -/
import Derived.Test.YtbdhgnlabjmnoaaGreatK4
import Derived.Test.YtbdhgnlabjmnoaaGreatKF
import Derived.Test.YtbdhgnlabjmnoaaGreatRows
import Derived.WalkKit
import Derived.ProofKit
import Derived.OpenShut
import Derived.JoinedCond
import Derived.Deep.Slices
import Derived.ReadAgain
import Derived.ChangeReads
import Derived.ChangeOld
set_option linter.all false
set_option maxRecDepth 100000
set_option autoImplicit true
set_option relaxedAutoImplicit true
namespace Go.Av
open Go.Proofs Go.RowKit
def solL (jb:Nat) (m:MachD) (p:PoseD):List (List AV):=(List.range m.feet.length).map (E149 m.feet (fsL m p) (SZ jb))
def solesV (jb:Nat) (m:MachD) (p:PoseD):AV:=.list 1 (if poseE m p.joints.length=0 then solL jb m p else [])
def k55:KF
 | [.agg M,.agg [.q ax jb,.q az A2,.q tu A3,.list 3 J]]=>some (.tup [solesV jb (reMach M) ⟨⟨ax,az⟩,tu,J.map reQ⟩,.int .i64 (poseE (reMach M) J.length)],[M=unMach 300 (reMach M),(reMach M).small,(reMach M).bodies.length<=8,A2<=jb,A3<=jb,jb<=100000,Ref (.list 3 J) (.list 3 ((J.map reQ).map (unQ jb))),J.length<=4611686018427387904])
 | _=>none
theorem a55:Ctr 55 k55:=by
 refine ctr Tryz.f55 fun _ _ _ S w0 h ho=> ?_
 unfold k55 at h;split at h <;> cases h;rename_i M ax jb az A2 tu A3 J;obtain⟨o1,o2,o3,o4,o5,o6,o7,o8⟩:=ho.e8;have K:=(kn.cons a149).cons a117;generalize hm:reMach M=m at*;subst o1;clear hm;obtain⟨p,hp⟩:∃ p:PoseD,p=⟨⟨ax,az⟩,tu,J.map reQ⟩:=⟨_,rfl⟩;have hpj:p.joints.length=J.length:=by rw[hp];simp
 try rw[<- hp]
 try rw[<- hpj]
 refine Good.weak 19 [(0,.agg (unMach 300 m)),(1,.agg (unPose jb p))] (by kernel_rfl) (.r (.cons (by rw[hp];exact Ref.pose o4 o5 o7) .nil)) ?_;clear hp;have s1:unMach 300 m=unMach 300 (reMach (unMach 300 m)):=by rw[reMach_un]
 have s2:(reMach (unMach 300 m)).small:=by rw[reMach_un];exact o2
 have s3:(reMach (unMach 300 m)).bodies.length<=8:=by rw[reMach_un];exact o3
 have s4:Ref (.list 3 (p.joints.map (unQ jb))) (.list 3 (((p.joints.map (unQ jb)).map reQ).map (unQ jb))):=Ref.eq (by rw[reQ_un]);have s5:(p.joints.map (unQ jb)).length<=4611686018427387904:=by rw[lmE,hpj];exact o8
 have s7:SZ jb<=153753600:=by unfold SZ;omega
 have s8:LIM=17592186044416:=rfl
 by_cases h1:(poseE m p.joints.length)=(0:Int)
 · refine rF K [(11,.tup [.cptr [.str m.name,.list 27 (m.bodies.map (unBody 300)),.list 17 (m.springs.map (unCordy 300)),.list 17 (m.tendons.map (unCordy 300)),.list 13 (m.motors.map (unMotor 300)),.list 5 (m.feet.map (unFoot 300)),.list 12 ((List.range m.bodies.length).map fun i=>unF (SZ jb) (fr m p i))] 0,.i6 (0:Int)]),(18,.list 1 (solL jb m p))] (.c6 (show Ref (.tup [(standP jb (reMach (unMach 300 m)) ⟨⟨p.at_.x,p.at_.z⟩,p.turn,(p.joints.map (unQ jb)).map reQ⟩),.i6 (poseE (reMach (unMach 300 m)) (p.joints.map (unQ jb)).length)]) (.tup [.cptr [.str m.name,.list 27 (m.bodies.map (unBody 300)),.list 17 (m.springs.map (unCordy 300)),.list 17 (m.tendons.map (unCordy 300)),.list 13 (m.motors.map (unMotor 300)),.list 5 (m.feet.map (unFoot 300)),.list 12 ((List.range m.bodies.length).map fun i=>unF (SZ jb) (fr m p i))] 0,.i6 (0:Int)]) by first | exact s1 | exact s2 | exact s3 | exact s4 | exact s5 | exact standP_ok h1 | exact standP_no h1 | (simp only[lmE,List.length_range] at*;exact frL_ref (by omega)) | (simp only[lmE,List.length_range] at*;omega) | exact fs_eq h1 | (have:=fs_sz (jb:=jb) h1;unfold XRl at this;omega) | (rw[reBody_un];done) | (rw[reFoot_un];done) | (rw[reBody_un];omega) | (rw[reFoot_un];have:=feet_len h1;omega) | (rw[reFoot_un];intro i hi;have hf:=feet_ok h1 hi;exact⟨hf.1,hf.2.1,by rw[show((List.range m.bodies.length).map fun i=>unF (SZ jb) (fr m p i)).map reFm=fsL m p from fs_re,fs_len];exact hf.2.2⟩) | exact Ref.eq (by rw[reFoot_un,show((List.range m.bodies.length).map fun i=>unF (SZ jb) (fr m p i)).map reFm=fsL m p from fs_re,show reFs ((List.range m.bodies.length).map fun i=>unF (SZ jb) (fr m p i))=SZ jb from fs_sz h1];rfl)) s1 s2 s3 (rl jb) (rl jb) (.c6 o6 s4 s5 (show Ref (.list 1 ((List.range ((m.feet.map (unFoot 300)).map reFoot).length).map (E149 ((m.feet.map (unFoot 300)).map reFoot) (((List.range m.bodies.length).map fun i=>unF (SZ jb) (fr m p i)).map reFm) (reFs ((List.range m.bodies.length).map fun i=>unF (SZ jb) (fr m p i)))))) (.list 1 (solL jb m p)) by first | exact s1 | exact s2 | exact s3 | exact s4 | exact s5 | exact standP_ok h1 | exact standP_no h1 | (simp only[lmE,List.length_range] at*;exact frL_ref (by omega)) | (simp only[lmE,List.length_range] at*;omega) | exact fs_eq h1 | (have:=fs_sz (jb:=jb) h1;unfold XRl at this;omega) | (rw[reBody_un];done) | (rw[reFoot_un];done) | (rw[reBody_un];omega) | (rw[reFoot_un];have:=feet_len h1;omega) | (rw[reFoot_un];intro i hi;have hf:=feet_ok h1 hi;exact⟨hf.1,hf.2.1,by rw[show((List.range m.bodies.length).map fun i=>unF (SZ jb) (fr m p i)).map reFm=fsL m p from fs_re,fs_len];exact hf.2.2⟩) | exact Ref.eq (by rw[reFoot_un,show((List.range m.bodies.length).map fun i=>unF (SZ jb) (fr m p i)).map reFm=fsL m p from fs_re,show reFs ((List.range m.bodies.length).map fun i=>unF (SZ jb) (fr m p i))=SZ jb from fs_sz h1];rfl)) (show(m.bodies.map (unBody 300))=((m.bodies.map (unBody 300)).map reBody).map (unBody 300) by first | exact s1 | exact s2 | exact s3 | exact s4 | exact s5 | exact standP_ok h1 | exact standP_no h1 | (simp only[lmE,List.length_range] at*;exact frL_ref (by omega)) | (simp only[lmE,List.length_range] at*;omega) | exact fs_eq h1 | (have:=fs_sz (jb:=jb) h1;unfold XRl at this;omega) | (rw[reBody_un];done) | (rw[reFoot_un];done) | (rw[reBody_un];omega) | (rw[reFoot_un];have:=feet_len h1;omega) | (rw[reFoot_un];intro i hi;have hf:=feet_ok h1 hi;exact⟨hf.1,hf.2.1,by rw[show((List.range m.bodies.length).map fun i=>unF (SZ jb) (fr m p i)).map reFm=fsL m p from fs_re,fs_len];exact hf.2.2⟩) | exact Ref.eq (by rw[reFoot_un,show((List.range m.bodies.length).map fun i=>unF (SZ jb) (fr m p i)).map reFm=fsL m p from fs_re,show reFs ((List.range m.bodies.length).map fun i=>unF (SZ jb) (fr m p i))=SZ jb from fs_sz h1];rfl)) (show(m.feet.map (unFoot 300))=((m.feet.map (unFoot 300)).map reFoot).map (unFoot 300) by first | exact s1 | exact s2 | exact s3 | exact s4 | exact s5 | exact standP_ok h1 | exact standP_no h1 | (simp only[lmE,List.length_range] at*;exact frL_ref (by omega)) | (simp only[lmE,List.length_range] at*;omega) | exact fs_eq h1 | (have:=fs_sz (jb:=jb) h1;unfold XRl at this;omega) | (rw[reBody_un];done) | (rw[reFoot_un];done) | (rw[reBody_un];omega) | (rw[reFoot_un];have:=feet_len h1;omega) | (rw[reFoot_un];intro i hi;have hf:=feet_ok h1 hi;exact⟨hf.1,hf.2.1,by rw[show((List.range m.bodies.length).map fun i=>unF (SZ jb) (fr m p i)).map reFm=fsL m p from fs_re,fs_len];exact hf.2.2⟩) | exact Ref.eq (by rw[reFoot_un,show((List.range m.bodies.length).map fun i=>unF (SZ jb) (fr m p i)).map reFm=fsL m p from fs_re,show reFs ((List.range m.bodies.length).map fun i=>unF (SZ jb) (fr m p i))=SZ jb from fs_sz h1];rfl)) (.a4 (show((List.range m.bodies.length).map fun i=>unF (SZ jb) (fr m p i))=(((List.range m.bodies.length).map fun i=>unF (SZ jb) (fr m p i)).map reFm).map (unF (reFs ((List.range m.bodies.length).map fun i=>unF (SZ jb) (fr m p i)))) by first | exact s1 | exact s2 | exact s3 | exact s4 | exact s5 | exact standP_ok h1 | exact standP_no h1 | (simp only[lmE,List.length_range] at*;exact frL_ref (by omega)) | (simp only[lmE,List.length_range] at*;omega) | exact fs_eq h1 | (have:=fs_sz (jb:=jb) h1;unfold XRl at this;omega) | (rw[reBody_un];done) | (rw[reFoot_un];done) | (rw[reBody_un];omega) | (rw[reFoot_un];have:=feet_len h1;omega) | (rw[reFoot_un];intro i hi;have hf:=feet_ok h1 hi;exact⟨hf.1,hf.2.1,by rw[show((List.range m.bodies.length).map fun i=>unF (SZ jb) (fr m p i)).map reFm=fsL m p from fs_re,fs_len];exact hf.2.2⟩) | exact Ref.eq (by rw[reFoot_un,show((List.range m.bodies.length).map fun i=>unF (SZ jb) (fr m p i)).map reFm=fsL m p from fs_re,show reFs ((List.range m.bodies.length).map fun i=>unF (SZ jb) (fr m p i))=SZ jb from fs_sz h1];rfl)) (show 8*reFs ((List.range m.bodies.length).map fun i=>unF (SZ jb) (fr m p i))+1600<=LIM by first | exact s1 | exact s2 | exact s3 | exact s4 | exact s5 | exact standP_ok h1 | exact standP_no h1 | (simp only[lmE,List.length_range] at*;exact frL_ref (by omega)) | (simp only[lmE,List.length_range] at*;omega) | exact fs_eq h1 | (have:=fs_sz (jb:=jb) h1;unfold XRl at this;omega) | (rw[reBody_un];done) | (rw[reFoot_un];done) | (rw[reBody_un];omega) | (rw[reFoot_un];have:=feet_len h1;omega) | (rw[reFoot_un];intro i hi;have hf:=feet_ok h1 hi;exact⟨hf.1,hf.2.1,by rw[show((List.range m.bodies.length).map fun i=>unF (SZ jb) (fr m p i)).map reFm=fsL m p from fs_re,fs_len];exact hf.2.2⟩) | exact Ref.eq (by rw[reFoot_un,show((List.range m.bodies.length).map fun i=>unF (SZ jb) (fr m p i)).map reFm=fsL m p from fs_re,show reFs ((List.range m.bodies.length).map fun i=>unF (SZ jb) (fr m p i))=SZ jb from fs_sz h1];rfl)) (show((m.feet.map (unFoot 300)).map reFoot).length<=1000000 by first | exact s1 | exact s2 | exact s3 | exact s4 | exact s5 | exact standP_ok h1 | exact standP_no h1 | (simp only[lmE,List.length_range] at*;exact frL_ref (by omega)) | (simp only[lmE,List.length_range] at*;omega) | exact fs_eq h1 | (have:=fs_sz (jb:=jb) h1;unfold XRl at this;omega) | (rw[reBody_un];done) | (rw[reFoot_un];done) | (rw[reBody_un];omega) | (rw[reFoot_un];have:=feet_len h1;omega) | (rw[reFoot_un];intro i hi;have hf:=feet_ok h1 hi;exact⟨hf.1,hf.2.1,by rw[show((List.range m.bodies.length).map fun i=>unF (SZ jb) (fr m p i)).map reFm=fsL m p from fs_re,fs_len];exact hf.2.2⟩) | exact Ref.eq (by rw[reFoot_un,show((List.range m.bodies.length).map fun i=>unF (SZ jb) (fr m p i)).map reFm=fsL m p from fs_re,show reFs ((List.range m.bodies.length).map fun i=>unF (SZ jb) (fr m p i))=SZ jb from fs_sz h1];rfl)) (show ∀ i,i<((m.feet.map (unFoot 300)).map reFoot).length->(((m.feet.map (unFoot 300)).map reFoot).getD i default).pts.length<=1000000/\0<=(((m.feet.map (unFoot 300)).map reFoot).getD i default).body/\(((m.feet.map (unFoot 300)).map reFoot).getD i default).body.toNat<(((List.range m.bodies.length).map fun i=>unF (SZ jb) (fr m p i)).map reFm).length by first | exact s1 | exact s2 | exact s3 | exact s4 | exact s5 | exact standP_ok h1 | exact standP_no h1 | (simp only[lmE,List.length_range] at*;exact frL_ref (by omega)) | (simp only[lmE,List.length_range] at*;omega) | exact fs_eq h1 | (have:=fs_sz (jb:=jb) h1;unfold XRl at this;omega) | (rw[reBody_un];done) | (rw[reFoot_un];done) | (rw[reBody_un];omega) | (rw[reFoot_un];have:=feet_len h1;omega) | (rw[reFoot_un];intro i hi;have hf:=feet_ok h1 hi;exact⟨hf.1,hf.2.1,by rw[show((List.range m.bodies.length).map fun i=>unF (SZ jb) (fr m p i)).map reFm=fsL m p from fs_re,fs_len];exact hf.2.2⟩) | exact Ref.eq (by rw[reFoot_un,show((List.range m.bodies.length).map fun i=>unF (SZ jb) (fr m p i)).map reFm=fsL m p from fs_re,show reFs ((List.range m.bodies.length).map fun i=>unF (SZ jb) (fr m p i))=SZ jb from fs_sz h1];rfl))))) (V:=.tup [.list 1 (solL jb m p),.i6 (0:Int)]) ?_
   unfold solesV;rw[if_pos h1,h1];exact rr
 · refine rF K [(11,.tup [.lit (.pointer none),.i6 (poseE m p.joints.length)]),(15,tt)] (.c6 (show Ref (.tup [(standP jb (reMach (unMach 300 m)) ⟨⟨p.at_.x,p.at_.z⟩,p.turn,(p.joints.map (unQ jb)).map reQ⟩),.i6 (poseE (reMach (unMach 300 m)) (p.joints.map (unQ jb)).length)]) (.tup [.lit (.pointer none),.i6 (poseE m p.joints.length)]) by first | exact s1 | exact s2 | exact s3 | exact s4 | exact s5 | exact standP_ok h1 | exact standP_no h1 | (simp only[lmE,List.length_range] at*;exact frL_ref (by omega)) | (simp only[lmE,List.length_range] at*;omega) | exact fs_eq h1 | (have:=fs_sz (jb:=jb) h1;unfold XRl at this;omega) | (rw[reBody_un];done) | (rw[reFoot_un];done) | (rw[reBody_un];omega) | (rw[reFoot_un];have:=feet_len h1;omega) | (rw[reFoot_un];intro i hi;have hf:=feet_ok h1 hi;exact⟨hf.1,hf.2.1,by rw[show((List.range m.bodies.length).map fun i=>unF (SZ jb) (fr m p i)).map reFm=fsL m p from fs_re,fs_len];exact hf.2.2⟩) | exact Ref.eq (by rw[reFoot_un,show((List.range m.bodies.length).map fun i=>unF (SZ jb) (fr m p i)).map reFm=fsL m p from fs_re,show reFs ((List.range m.bodies.length).map fun i=>unF (SZ jb) (fr m p i))=SZ jb from fs_sz h1];rfl)) s1 s2 s3 (rl jb) (rl jb) (.a4 o6 s4 s5 (jT h1))) (V:=.tup [AV.nil,.i6 (poseE m p.joints.length)]) ?_
   unfold solesV;rw[if_neg h1];exact Ref.tup2 Ref.nilL rr rfl rfl rfl rfl
def shpL (jb:Nat) (m:MachD) (p:PoseD):List (List AV):=(List.range m.bodies.length).map (E171 m.bodies (fsL m p) (SZ jb))
def shapesV (jb:Nat) (m:MachD) (p:PoseD):AV:=.list 1 (if poseE m p.joints.length=0 then shpL jb m p else [])
def k69:KF
 | [.agg M,.agg [.q ax jb,.q az A2,.q tu A3,.list 3 J]]=>some (.tup [shapesV jb (reMach M) ⟨⟨ax,az⟩,tu,J.map reQ⟩,.int .i64 (poseE (reMach M) J.length)],[M=unMach 300 (reMach M),(reMach M).small,(reMach M).bodies.length<=8,A2<=jb,A3<=jb,jb<=100000,Ref (.list 3 J) (.list 3 ((J.map reQ).map (unQ jb))),J.length<=4611686018427387904])
 | _=>none
theorem a69:Ctr 69 k69:=by
 refine ctr Tryz.f69 fun _ _ _ S w0 h ho=> ?_
 unfold k69 at h;split at h <;> cases h;rename_i M ax jb az A2 tu A3 J;obtain⟨o1,o2,o3,o4,o5,o6,o7,o8⟩:=ho.e8;have K:=(kn.cons a171).cons a117;generalize hm:reMach M=m at*;subst o1;clear hm;obtain⟨p,hp⟩:∃ p:PoseD,p=⟨⟨ax,az⟩,tu,J.map reQ⟩:=⟨_,rfl⟩;have hpj:p.joints.length=J.length:=by rw[hp];simp
 try rw[<- hp]
 try rw[<- hpj]
 refine Good.weak 19 [(0,.agg (unMach 300 m)),(1,.agg (unPose jb p))] (by kernel_rfl) (.r (.cons (by rw[hp];exact Ref.pose o4 o5 o7) .nil)) ?_;clear hp;have s1:unMach 300 m=unMach 300 (reMach (unMach 300 m)):=by rw[reMach_un]
 have s2:(reMach (unMach 300 m)).small:=by rw[reMach_un];exact o2
 have s3:(reMach (unMach 300 m)).bodies.length<=8:=by rw[reMach_un];exact o3
 have s4:Ref (.list 3 (p.joints.map (unQ jb))) (.list 3 (((p.joints.map (unQ jb)).map reQ).map (unQ jb))):=Ref.eq (by rw[reQ_un]);have s5:(p.joints.map (unQ jb)).length<=4611686018427387904:=by rw[lmE,hpj];exact o8
 have s7:SZ jb<=153753600:=by unfold SZ;omega
 have s8:LIM=17592186044416:=rfl
 by_cases h1:(poseE m p.joints.length)=(0:Int)
 · refine rF K [(11,.tup [.cptr [.str m.name,.list 27 (m.bodies.map (unBody 300)),.list 17 (m.springs.map (unCordy 300)),.list 17 (m.tendons.map (unCordy 300)),.list 13 (m.motors.map (unMotor 300)),.list 5 (m.feet.map (unFoot 300)),.list 12 ((List.range m.bodies.length).map fun i=>unF (SZ jb) (fr m p i))] 0,.i6 (0:Int)]),(18,.list 1 (shpL jb m p))] (.c6 (show Ref (.tup [(standP jb (reMach (unMach 300 m)) ⟨⟨p.at_.x,p.at_.z⟩,p.turn,(p.joints.map (unQ jb)).map reQ⟩),.i6 (poseE (reMach (unMach 300 m)) (p.joints.map (unQ jb)).length)]) (.tup [.cptr [.str m.name,.list 27 (m.bodies.map (unBody 300)),.list 17 (m.springs.map (unCordy 300)),.list 17 (m.tendons.map (unCordy 300)),.list 13 (m.motors.map (unMotor 300)),.list 5 (m.feet.map (unFoot 300)),.list 12 ((List.range m.bodies.length).map fun i=>unF (SZ jb) (fr m p i))] 0,.i6 (0:Int)]) by first | exact s1 | exact s2 | exact s3 | exact s4 | exact s5 | exact standP_ok h1 | exact standP_no h1 | (simp only[lmE,List.length_range] at*;exact frL_ref (by omega)) | (simp only[lmE,List.length_range] at*;omega) | exact fs_eq h1 | (have:=fs_sz (jb:=jb) h1;unfold XRl at this;omega) | (rw[reBody_un];done) | (rw[reFoot_un];done) | (rw[reBody_un];omega) | (rw[reFoot_un];have:=feet_len h1;omega) | (rw[reBody_un];intro i hi;exact⟨shape_le h1 hi,by rw[show((List.range m.bodies.length).map fun i=>unF (SZ jb) (fr m p i)).map reFm=fsL m p from fs_re,fs_len];exact hi⟩) | exact Ref.eq (by rw[reBody_un,show((List.range m.bodies.length).map fun i=>unF (SZ jb) (fr m p i)).map reFm=fsL m p from fs_re,show reFs ((List.range m.bodies.length).map fun i=>unF (SZ jb) (fr m p i))=SZ jb from fs_sz h1];rfl)) s1 s2 s3 (rl jb) (rl jb) (.c6 o6 s4 s5 (show Ref (.list 1 ((List.range ((m.bodies.map (unBody 300)).map reBody).length).map (E171 ((m.bodies.map (unBody 300)).map reBody) (((List.range m.bodies.length).map fun i=>unF (SZ jb) (fr m p i)).map reFm) (reFs ((List.range m.bodies.length).map fun i=>unF (SZ jb) (fr m p i)))))) (.list 1 (shpL jb m p)) by first | exact s1 | exact s2 | exact s3 | exact s4 | exact s5 | exact standP_ok h1 | exact standP_no h1 | (simp only[lmE,List.length_range] at*;exact frL_ref (by omega)) | (simp only[lmE,List.length_range] at*;omega) | exact fs_eq h1 | (have:=fs_sz (jb:=jb) h1;unfold XRl at this;omega) | (rw[reBody_un];done) | (rw[reFoot_un];done) | (rw[reBody_un];omega) | (rw[reFoot_un];have:=feet_len h1;omega) | (rw[reBody_un];intro i hi;exact⟨shape_le h1 hi,by rw[show((List.range m.bodies.length).map fun i=>unF (SZ jb) (fr m p i)).map reFm=fsL m p from fs_re,fs_len];exact hi⟩) | exact Ref.eq (by rw[reBody_un,show((List.range m.bodies.length).map fun i=>unF (SZ jb) (fr m p i)).map reFm=fsL m p from fs_re,show reFs ((List.range m.bodies.length).map fun i=>unF (SZ jb) (fr m p i))=SZ jb from fs_sz h1];rfl)) (show(m.bodies.map (unBody 300))=((m.bodies.map (unBody 300)).map reBody).map (unBody 300) by first | exact s1 | exact s2 | exact s3 | exact s4 | exact s5 | exact standP_ok h1 | exact standP_no h1 | (simp only[lmE,List.length_range] at*;exact frL_ref (by omega)) | (simp only[lmE,List.length_range] at*;omega) | exact fs_eq h1 | (have:=fs_sz (jb:=jb) h1;unfold XRl at this;omega) | (rw[reBody_un];done) | (rw[reFoot_un];done) | (rw[reBody_un];omega) | (rw[reFoot_un];have:=feet_len h1;omega) | (rw[reBody_un];intro i hi;exact⟨shape_le h1 hi,by rw[show((List.range m.bodies.length).map fun i=>unF (SZ jb) (fr m p i)).map reFm=fsL m p from fs_re,fs_len];exact hi⟩) | exact Ref.eq (by rw[reBody_un,show((List.range m.bodies.length).map fun i=>unF (SZ jb) (fr m p i)).map reFm=fsL m p from fs_re,show reFs ((List.range m.bodies.length).map fun i=>unF (SZ jb) (fr m p i))=SZ jb from fs_sz h1];rfl)) (show(m.feet.map (unFoot 300))=((m.feet.map (unFoot 300)).map reFoot).map (unFoot 300) by first | exact s1 | exact s2 | exact s3 | exact s4 | exact s5 | exact standP_ok h1 | exact standP_no h1 | (simp only[lmE,List.length_range] at*;exact frL_ref (by omega)) | (simp only[lmE,List.length_range] at*;omega) | exact fs_eq h1 | (have:=fs_sz (jb:=jb) h1;unfold XRl at this;omega) | (rw[reBody_un];done) | (rw[reFoot_un];done) | (rw[reBody_un];omega) | (rw[reFoot_un];have:=feet_len h1;omega) | (rw[reBody_un];intro i hi;exact⟨shape_le h1 hi,by rw[show((List.range m.bodies.length).map fun i=>unF (SZ jb) (fr m p i)).map reFm=fsL m p from fs_re,fs_len];exact hi⟩) | exact Ref.eq (by rw[reBody_un,show((List.range m.bodies.length).map fun i=>unF (SZ jb) (fr m p i)).map reFm=fsL m p from fs_re,show reFs ((List.range m.bodies.length).map fun i=>unF (SZ jb) (fr m p i))=SZ jb from fs_sz h1];rfl)) (.a4 (show((List.range m.bodies.length).map fun i=>unF (SZ jb) (fr m p i))=(((List.range m.bodies.length).map fun i=>unF (SZ jb) (fr m p i)).map reFm).map (unF (reFs ((List.range m.bodies.length).map fun i=>unF (SZ jb) (fr m p i)))) by first | exact s1 | exact s2 | exact s3 | exact s4 | exact s5 | exact standP_ok h1 | exact standP_no h1 | (simp only[lmE,List.length_range] at*;exact frL_ref (by omega)) | (simp only[lmE,List.length_range] at*;omega) | exact fs_eq h1 | (have:=fs_sz (jb:=jb) h1;unfold XRl at this;omega) | (rw[reBody_un];done) | (rw[reFoot_un];done) | (rw[reBody_un];omega) | (rw[reFoot_un];have:=feet_len h1;omega) | (rw[reBody_un];intro i hi;exact⟨shape_le h1 hi,by rw[show((List.range m.bodies.length).map fun i=>unF (SZ jb) (fr m p i)).map reFm=fsL m p from fs_re,fs_len];exact hi⟩) | exact Ref.eq (by rw[reBody_un,show((List.range m.bodies.length).map fun i=>unF (SZ jb) (fr m p i)).map reFm=fsL m p from fs_re,show reFs ((List.range m.bodies.length).map fun i=>unF (SZ jb) (fr m p i))=SZ jb from fs_sz h1];rfl)) (show 8*reFs ((List.range m.bodies.length).map fun i=>unF (SZ jb) (fr m p i))+1600<=LIM by first | exact s1 | exact s2 | exact s3 | exact s4 | exact s5 | exact standP_ok h1 | exact standP_no h1 | (simp only[lmE,List.length_range] at*;exact frL_ref (by omega)) | (simp only[lmE,List.length_range] at*;omega) | exact fs_eq h1 | (have:=fs_sz (jb:=jb) h1;unfold XRl at this;omega) | (rw[reBody_un];done) | (rw[reFoot_un];done) | (rw[reBody_un];omega) | (rw[reFoot_un];have:=feet_len h1;omega) | (rw[reBody_un];intro i hi;exact⟨shape_le h1 hi,by rw[show((List.range m.bodies.length).map fun i=>unF (SZ jb) (fr m p i)).map reFm=fsL m p from fs_re,fs_len];exact hi⟩) | exact Ref.eq (by rw[reBody_un,show((List.range m.bodies.length).map fun i=>unF (SZ jb) (fr m p i)).map reFm=fsL m p from fs_re,show reFs ((List.range m.bodies.length).map fun i=>unF (SZ jb) (fr m p i))=SZ jb from fs_sz h1];rfl)) (show((m.bodies.map (unBody 300)).map reBody).length<=1000000 by first | exact s1 | exact s2 | exact s3 | exact s4 | exact s5 | exact standP_ok h1 | exact standP_no h1 | (simp only[lmE,List.length_range] at*;exact frL_ref (by omega)) | (simp only[lmE,List.length_range] at*;omega) | exact fs_eq h1 | (have:=fs_sz (jb:=jb) h1;unfold XRl at this;omega) | (rw[reBody_un];done) | (rw[reFoot_un];done) | (rw[reBody_un];omega) | (rw[reFoot_un];have:=feet_len h1;omega) | (rw[reBody_un];intro i hi;exact⟨shape_le h1 hi,by rw[show((List.range m.bodies.length).map fun i=>unF (SZ jb) (fr m p i)).map reFm=fsL m p from fs_re,fs_len];exact hi⟩) | exact Ref.eq (by rw[reBody_un,show((List.range m.bodies.length).map fun i=>unF (SZ jb) (fr m p i)).map reFm=fsL m p from fs_re,show reFs ((List.range m.bodies.length).map fun i=>unF (SZ jb) (fr m p i))=SZ jb from fs_sz h1];rfl)) (show ∀ i,i<((m.bodies.map (unBody 300)).map reBody).length->(((m.bodies.map (unBody 300)).map reBody).getD i default).shape.length<=1000000/\i<(((List.range m.bodies.length).map fun i=>unF (SZ jb) (fr m p i)).map reFm).length by first | exact s1 | exact s2 | exact s3 | exact s4 | exact s5 | exact standP_ok h1 | exact standP_no h1 | (simp only[lmE,List.length_range] at*;exact frL_ref (by omega)) | (simp only[lmE,List.length_range] at*;omega) | exact fs_eq h1 | (have:=fs_sz (jb:=jb) h1;unfold XRl at this;omega) | (rw[reBody_un];done) | (rw[reFoot_un];done) | (rw[reBody_un];omega) | (rw[reFoot_un];have:=feet_len h1;omega) | (rw[reBody_un];intro i hi;exact⟨shape_le h1 hi,by rw[show((List.range m.bodies.length).map fun i=>unF (SZ jb) (fr m p i)).map reFm=fsL m p from fs_re,fs_len];exact hi⟩) | exact Ref.eq (by rw[reBody_un,show((List.range m.bodies.length).map fun i=>unF (SZ jb) (fr m p i)).map reFm=fsL m p from fs_re,show reFs ((List.range m.bodies.length).map fun i=>unF (SZ jb) (fr m p i))=SZ jb from fs_sz h1];rfl))))) (V:=.tup [.list 1 (shpL jb m p),.i6 (0:Int)]) ?_
   unfold shapesV;rw[if_pos h1,h1];exact rr
 · refine rF K [(11,.tup [.lit (.pointer none),.i6 (poseE m p.joints.length)]),(15,tt)] (.c6 (show Ref (.tup [(standP jb (reMach (unMach 300 m)) ⟨⟨p.at_.x,p.at_.z⟩,p.turn,(p.joints.map (unQ jb)).map reQ⟩),.i6 (poseE (reMach (unMach 300 m)) (p.joints.map (unQ jb)).length)]) (.tup [.lit (.pointer none),.i6 (poseE m p.joints.length)]) by first | exact s1 | exact s2 | exact s3 | exact s4 | exact s5 | exact standP_ok h1 | exact standP_no h1 | (simp only[lmE,List.length_range] at*;exact frL_ref (by omega)) | (simp only[lmE,List.length_range] at*;omega) | exact fs_eq h1 | (have:=fs_sz (jb:=jb) h1;unfold XRl at this;omega) | (rw[reBody_un];done) | (rw[reFoot_un];done) | (rw[reBody_un];omega) | (rw[reFoot_un];have:=feet_len h1;omega) | (rw[reBody_un];intro i hi;exact⟨shape_le h1 hi,by rw[show((List.range m.bodies.length).map fun i=>unF (SZ jb) (fr m p i)).map reFm=fsL m p from fs_re,fs_len];exact hi⟩) | exact Ref.eq (by rw[reBody_un,show((List.range m.bodies.length).map fun i=>unF (SZ jb) (fr m p i)).map reFm=fsL m p from fs_re,show reFs ((List.range m.bodies.length).map fun i=>unF (SZ jb) (fr m p i))=SZ jb from fs_sz h1];rfl)) s1 s2 s3 (rl jb) (rl jb) (.a4 o6 s4 s5 (jT h1))) (V:=.tup [AV.nil,.i6 (poseE m p.joints.length)]) ?_
   unfold shapesV;rw[if_neg h1];exact Ref.tup2 Ref.nilL rr rfl rfl rfl rfl
def KT10_ok:=((((((((((((((((kn.cons a75).cons a74).cons a73).cons a72).cons a71).cons a70).cons a69).cons a68).cons a55).cons a49).cons a30).cons a23).cons a22).cons a21).cons a20).cons a19).cons a18
section
variable {S0 C0:Nat->Prop} {w0:World} {Post:Value->World->Prop}
theorem p10_0_0 (r:RigD) (sd:StandD) (b:Int) (xs:SpotD) (m:MachD) (p:PoseD) (x:PtD) (h1:(!(r.small))=true) (o:(Ref (.bool ((reRig [(AV.list 26 (r.limbs.map unLimb)),(AV.list 17 (r.springs.map unCord)),(AV.list 17 (r.tendons.map unCord)),(AV.list 13 (r.drives.map unDrive)),(AV.list 5 (r.soles.map unSole))]).small)) (.bool (r.small)))/\((unRig r)=unRig (reRig (unRig r))))
   (hg:Good Tryz.prog 10 S0 C0 w0 Post [.code .ret,.code (nav [1,1] (bodyOf Tryz.f10))] ⟨slots 298 [(2,.i6 b),(8,.bool true)],[]⟩):
   Good Tryz.prog 10 S0 C0 w0 Post [.code (nav [] (bodyOf Tryz.f10))] ⟨slots 298 [(0,.agg (unRig r)),(1,.agg [.i6 sd.at_.x.n,.i6 sd.at_.x.d,.int .u8 sd.at_.x.p,.i6 sd.at_.z.n,.i6 sd.at_.z.d,.int .u8 sd.at_.z.p,.i6 sd.turn.n,.i6 sd.turn.d,.int .u8 sd.turn.p,.list 3 (sd.joints.map unNum)]),(2,.i6 b),(3,.agg (unSpot xs))],[]⟩:=
 goR mixed TT0_ok KT10_ok 13 (some 6) [2,8,9,10,11,12,13,14] [] [(28,(.bool (r.small))),(30,(.bool true))] (ob:=[Ref (.bool ((reRig [(AV.list 26 (r.limbs.map unLimb)),(AV.list 17 (r.springs.map unCord)),(AV.list 17 (r.tendons.map unCord)),(AV.list 13 (r.drives.map unDrive)),(AV.list 5 (r.soles.map unSole))]).small)) (.bool (r.small)),(unRig r)=unRig (reRig (unRig r)),Ref (.bool (!(r.small))) (.bool true)]) (by decide) (by kernel_rfl)
   (.cons (o.1) (.cons (o.2) (.cons (Ref.bool h1) (AllP.nil)))) hg
end
noncomputable abbrev h10T0:List Item:=[.code .ret,.code (nav [1,1,1,1,1,1,1,1,1,1,1,1,1,1,1,1] (bodyOf Tryz.f10))]
def rfL (m:MachD) (p:PoseD):List (List AV):=(List.range m.bodies.length).map (rfr 300 m p)
theorem rfL_len {m:MachD} {p:PoseD}:(rfL m p).length=m.bodies.length:=by simp[rfL]
theorem rfL_get {m:MachD} {p:PoseD} {i:Nat} (h:i<m.bodies.length):(rfL m p).getD i []=unRF (rz 300 i) (fr m p i):=by
 unfold rfL;rw[gdE,List.getElem?_map,List.getElem?_range h];rfl
theorem fsL_get {m:MachD} {p:PoseD} {i:Nat} (h:i<m.bodies.length):(fsL m p).getD i default=fr m p i:=by
 unfold fsL;rw[gdE,List.getElem?_map,List.getElem?_range h];rfl
theorem reRPt_un {B:Nat} (l:List PtD):(l.map (unRP B)).map reRPt=l:=re_un (fun v=>by cases v;rfl) l
theorem rePP_un {X Z:Nat} (l:List PtD):(l.map (unPP X Z)).map rePt=l:=re_un (fun v=>by cases v;rfl) l
theorem reRPP_un {X Z:Nat} (l:List PtD):(l.map (unRPP X Z)).map reRPt=l:=re_un (fun v=>by cases v;rfl) l
theorem pSz_le {X Z N:Nat} (l:List PtD) (h1:X+100<=N) (h2:Z+100<=N):(pSz (l.map (unPP X Z))).1+100<=N/\(pSz (l.map (unPP X Z))).2+100<=N:=by
 cases l
 · constructor <;> (show 0+100<=N;omega)
 · exact⟨h1,h2⟩
theorem pSz_leR {X Z N:Nat} (l:List PtD) (h1:X+100<=N) (h2:Z+100<=N):(pSz (l.map (unRPP X Z))).1+100<=N/\(pSz (l.map (unRPP X Z))).2+100<=N:=by
 cases l
 · constructor <;> (show 0+100<=N;omega)
 · exact⟨h1,h2⟩
theorem G231_eq (f:FrameD) (P Q U W:Nat) (l:List PtD):l.map (G231 f P Q U W)=(l.map (placeF f)).map (unPP (P+(300+300+U+W+6)+2) (Q+(300+300+U+W+6)+2)):=by rw[List.map_map];rfl
theorem G74_eq (f:FrameD) (P Q U W:Nat) (l:List PtD):l.map (G74 f P Q U W)=(l.map (placeF f)).map (unRPP (max P 64+max 300 64+max 300 64+max U 64+max W 64+1+1) (max Q 64+max 300 64+max 300 64+max U 64+max W 64+1+1)):=by rw[List.map_map];rfl
theorem sz300:SZ 300=9980:=by decide
theorem same_places {f:FrameD} {l:List PtD} {s t:Nat} (hs:s<=100000) (ht:t<=100000) (hl:l.length<=1000000):
   (l.map (G231 f (2*s) (2*s) s s)=((l.map (G231 f (2*s) (2*s) s s)).map rePt).map (unPP (pSz (l.map (G231 f (2*s) (2*s) s s))).1 (pSz (l.map (G231 f (2*s) (2*s) s s))).2))/\
   (l.map (G74 f (2*t+1) (2*t+1) (t+1) (t+1))=((l.map (G74 f (2*t+1) (2*t+1) (t+1) (t+1))).map reRPt).map (unRPP (pSz (l.map (G74 f (2*t+1) (2*t+1) (t+1) (t+1)))).1 (pSz (l.map (G74 f (2*t+1) (2*t+1) (t+1) (t+1)))).2))/\
   (l.map (G231 f (2*s) (2*s) s s)).map rePt=(l.map (G74 f (2*t+1) (2*t+1) (t+1) (t+1))).map reRPt/\
   (pSz (l.map (G231 f (2*s) (2*s) s s))).1+100<=LIM/\(pSz (l.map (G231 f (2*s) (2*s) s s))).2+100<=LIM/\
   (pSz (l.map (G74 f (2*t+1) (2*t+1) (t+1) (t+1)))).1+100<=LIM/\(pSz (l.map (G74 f (2*t+1) (2*t+1) (t+1) (t+1)))).2+100<=LIM/\
   ((l.map (G231 f (2*s) (2*s) s s)).map rePt).length<=1000000:=by
 rw[G231_eq,G74_eq,rePP_un,reRPP_un];obtain⟨a1,a2⟩:=pSz_le (X:=2*s+(300+300+s+s+6)+2) (Z:=2*s+(300+300+s+s+6)+2) (N:=LIM) (l.map (placeF f)) (by unfold LIM;omega) (by unfold LIM;omega);obtain⟨a3,a4⟩:=pSz_leR (X:=max (2*t+1) 64+max 300 64+max 300 64+max (t+1) 64+max (t+1) 64+1+1) (Z:=max (2*t+1) 64+max 300 64+max 300 64+max (t+1) 64+max (t+1) 64+1+1) (N:=LIM) (l.map (placeF f)) (by unfold LIM;omega) (by unfold LIM;omega);exact⟨pSz_un _,pSz_unR _,rfl,a1,a2,a3,a4,by rw[lmE];exact hl⟩
section
variable {S:Nat->Prop} {w0:World} {m:MachD} {p:PoseD} {b:Int} {x:PtD}
theorem fin10 (h:poseE m p.joints.length=0) (h8:m.bodies.length<=8):
   GF 10 S w0 (.bool true) [.code (nav [1,1,1,1,1,1,1,1,1,1,1,1,1,1,1,0,0] (bodyOf Tryz.f10)),.code (nav [1,1,1,1,1,1,1,1,1,1,1,1,1,1,1,0,1] (bodyOf Tryz.f10)),.code (nav [1,1,1,1,1,1,1,1,1,1,1,1,1,1,1,1] (bodyOf Tryz.f10))] ⟨slots 298 [(2,.i6 b),(14,.ptr 1 8 0 0),(17,.ptr 2 6 0 0),(18,.i6 (worldE m p.joints.length b)),(24,.list 16 (rfL m p))],[some ⟨48,5,false,[(unRMach 300 m)],none⟩,some ⟨68,8,false,[(unRP 300 x)],none⟩,some ⟨58,6,false,[[.q (worldV m p b x).x (4*SZ 300+300+300+8),.q (worldV m p b x).z (4*SZ 300+300+300+8)]],none⟩]⟩:=by
 have hn:=rfL_len (m:=m) (p:=p);have hs:=sz300;have hL:4*SZ 300+300+300+8+100<=LIM:=by rw[hs];decide
 have h0:0+100<=LIM:=by decide
 have ret:∀ {todo:List Item},(match todo with | []=>true | .code .ret::_=>true | _=>false)=true->GF 10 S w0 (.bool true) todo ⟨slots 298 [(8,.bool true)],[]⟩:=fun ht=>good_ret1 TT0_ok (fn:=Tryz.f10) (by kernel_rfl) 8 (by kernel_rfl) ht (by rfl) rr
 by_cases hb:0<=b/\b<((m.bodies.length:Nat):Int)
 · have e:worldE m p.joints.length b=0:=by unfold worldE;rw[if_pos h,if_pos hb]
   have v:worldV m p b x=placeF (fr m p b.toNat) x:=if_pos e;have hi:b.toNat<m.bodies.length:=by omega
   have hz:rz 300 b.toNat<=SZ 300:=rz_le (by omega);refine gR KT10_ok none [8] [] [(267,ff),(272,ff),(284,tt),(288,.i6 (b.toNat:Int)),(289,.cptr [.rq (fr m p b.toNat).at_.x (fr m p b.toNat).at_.x.den (2*(rz 300 b.toNat)+1),.rq (fr m p b.toNat).at_.z (fr m p b.toNat).at_.z.den (2*(rz 300 b.toNat)+1),.rq (fr m p b.toNat).c (fr m p b.toNat).c.den ((rz 300 b.toNat)+1),.rq (fr m p b.toNat).s (fr m p b.toNat).s.den ((rz 300 b.toNat)+1)] 0),(292,.agg [.rq (placeF (fr m p b.toNat) x).x (placeF (fr m p b.toNat) x).x.den (max (2*rz 300 b.toNat+1) 64+max 300 64+max 300 64+max (rz 300 b.toNat+1) 64+max (rz 300 b.toNat+1) 64+1+1),.rq (placeF (fr m p b.toNat) x).z (placeF (fr m p b.toNat) x).z.den (max (2*rz 300 b.toNat+1) 64+max 300 64+max 300 64+max (rz 300 b.toNat+1) 64+max (rz 300 b.toNat+1) 64+1+1)])] (.c6 (iF (om (¬ (b<(0:Int))))) (iF (show ¬ ((((rfL m p).length:Nat):Int)<=b) by rw[hn];omega)) (show Ref (.bool (decide ((worldE m p.joints.length b)=(0:Int)))) (.bool true) from Ref.bool (by rw[e];rfl)) (show Ref (.i6 b) (.i6 (b.toNat:Int)) from Ref.int (by omega)) (show Ref (.cptr ((rfL m p).getD b.toNat []) 0) (.cptr [.rq (fr m p b.toNat).at_.x (fr m p b.toNat).at_.x.den (2*(rz 300 b.toNat)+1),.rq (fr m p b.toNat).at_.z (fr m p b.toNat).at_.z.den (2*(rz 300 b.toNat)+1),.rq (fr m p b.toNat).c (fr m p b.toNat).c.den ((rz 300 b.toNat)+1),.rq (fr m p b.toNat).s (fr m p b.toNat).s.den ((rz 300 b.toNat)+1)] 0) from Ref.eq (by rw[rfL_get hi];rfl)) (nn b.toNat) (.c6 (show(b.toNat:Int)<((rfL m p).length:Int) by rw[hn];omega) (show Ref (.agg [.rq ((fr m p b.toNat).at_.x+((fr m p b.toNat).c*x.x-(fr m p b.toNat).s*x.z)) (((fr m p b.toNat).at_.x+((fr m p b.toNat).c*x.x-(fr m p b.toNat).s*x.z)).den) (max (2*(rz 300 b.toNat)+1) 64+max 300 64+max 300 64+max ((rz 300 b.toNat)+1) 64+max ((rz 300 b.toNat)+1) 64+1+1),.rq ((fr m p b.toNat).at_.z+((fr m p b.toNat).s*x.x+(fr m p b.toNat).c*x.z)) (((fr m p b.toNat).at_.z+((fr m p b.toNat).s*x.x+(fr m p b.toNat).c*x.z)).den) (max (2*(rz 300 b.toNat)+1) 64+max 300 64+max 300 64+max ((rz 300 b.toNat)+1) 64+max ((rz 300 b.toNat)+1) 64+1+1)]) (.agg [.rq (placeF (fr m p b.toNat) x).x (placeF (fr m p b.toNat) x).x.den (max (2*rz 300 b.toNat+1) 64+max 300 64+max 300 64+max (rz 300 b.toNat+1) 64+max (rz 300 b.toNat+1) 64+1+1),.rq (placeF (fr m p b.toNat) x).z (placeF (fr m p b.toNat) x).z.den (max (2*rz 300 b.toNat+1) 64+max 300 64+max 300 64+max (rz 300 b.toNat+1) 64+max (rz 300 b.toNat+1) 64+1+1)]) from rr) (rfl:(fr m p b.toNat).at_.x.den=(fr m p b.toNat).at_.x.den) (rfl:(fr m p b.toNat).at_.z.den=(fr m p b.toNat).at_.z.den) (rfl:(fr m p b.toNat).c.den=(fr m p b.toNat).c.den) (rfl:(fr m p b.toNat).s.den=(fr m p b.toNat).s.den) (.c6 (rfl:x.x.den=x.x.den) (rfl:x.z.den=x.z.den) (show 8*max 300 64+8*max 300 64+8*max ((rz 300 b.toNat)+1) 64+8*max ((rz 300 b.toNat)+1) 64+8*max (2*(rz 300 b.toNat)+1) 64+8*max (2*(rz 300 b.toNat)+1) 64+2000<=LIM by unfold LIM;omega) (show(worldV m p b x).x=(placeF (fr m p b.toNat) x).x by rw[v]) (show(worldV m p b x).z=(placeF (fr m p b.toNat) x).z by rw[v]) hL (.a3 (show(max (2*rz 300 b.toNat+1) 64+max 300 64+max 300 64+max (rz 300 b.toNat+1) 64+max (rz 300 b.toNat+1) 64+1+1)+100<=LIM by unfold LIM;omega) hL (show(max (2*rz 300 b.toNat+1) 64+max 300 64+max 300 64+max (rz 300 b.toNat+1) 64+max (rz 300 b.toNat+1) 64+1+1)+100<=LIM by unfold LIM;omega))))) (t:=[.code .ret]) (σ:=slots 298 [(8,.bool true)]) (h:=[]) (ret rfl)
 · have e:worldE m p.joints.length b=3:=by unfold worldE;rw[if_pos h,if_neg hb]
   have v:worldV m p b x=⟨0,0⟩:=if_neg (by rw[e];decide)
   by_cases hb0:b<0
   · refine gR KT10_ok none [8] [] [(267,tt),(274,tt)] (.c6 (iT hb0) (show Ref (.bool (decide ((worldE m p.joints.length b)=(3:Int)))) (.bool true) from Ref.bool (by rw[e];rfl)) (show(worldV m p b x).x=0 by rw[v]) (show(worldV m p b x).z=0 by rw[v]) hL h0 (.a2 hL h0)) (t:=h10T0) (σ:=slots 298 [(8,.bool true)]) (h:=[]) (ret rfl)
   · refine gR KT10_ok none [8] [] [(267,ff),(272,tt),(274,tt)] (.c6 (iF hb0) (iT (show((rfL m p).length:Int)<=b by rw[hn];omega)) (show Ref (.bool (decide ((worldE m p.joints.length b)=(3:Int)))) (.bool true) from Ref.bool (by rw[e];rfl)) (show(worldV m p b x).x=0 by rw[v]) (show(worldV m p b x).z=0 by rw[v]) hL (.a3 h0 hL h0)) (t:=h10T0) (σ:=slots 298 [(8,.bool true)]) (h:=[]) (ret rfl)
theorem sole10 (h:poseE m p.joints.length=0) (h8:m.bodies.length<=8):∀ (j i:Nat),i+j=m.feet.length->
   GF 10 S w0 (.bool true) [.code (nav [1,1,1,1,1,1,1,1,1,1,1,1,1,1,0,1,0,0] (bodyOf Tryz.f10)),.inLoop (nav [1,1,1,1,1,1,1,1,1,1,1,1,1,1,0,1,0,0] (bodyOf Tryz.f10)),.inBlock 2,.code (nav [1,1,1,1,1,1,1,1,1,1,1,1,1,1,1] (bodyOf Tryz.f10))] ⟨slots 298 [(2,.i6 b),(10,.ptr 0 5 0 0),(14,.ptr 1 8 0 0),(17,.ptr 2 6 0 0),(18,.i6 (worldE m p.joints.length b)),(21,.list 1 (solL 300 m p)),(24,.list 16 (rfL m p)),(26,.i6 ((i:Nat):Int))],[some ⟨48,5,false,[(unRMach 300 m)],none⟩,some ⟨68,8,false,[(unRP 300 x)],none⟩,some ⟨58,6,false,[[.q (worldV m p b x).x (4*SZ 300+300+300+8),.q (worldV m p b x).z (4*SZ 300+300+300+8)]],none⟩]⟩:=by
 have hn:=rfL_len (m:=m) (p:=p);have hsl:(solL 300 m p).length=m.feet.length:=by simp[solL]
 have hfl:(m.feet.map (unRFoot 300)).length=m.feet.length:=lmE ..;intro j
 induction j with
 | zero=>
   intro i hij;exact gS KT10_ok (some 26) [2,14,17,18,24] [(240,ff)] (.a1 (iF (show ¬ ((i:Int)<((solL 300 m p).length:Int)) by rw[hsl];omega))) (fin10 (b:=b) (x:=x) h h8)
 | succ j ih=>
   intro i hij;have hi:i<m.feet.length:=by omega
   obtain⟨f1,f2,f3⟩:=feet_ok h hi;obtain⟨v,hv⟩:∃ v,v=m.feet.getD i default:=⟨_,rfl⟩;rw[<- hv] at f1 f2 f3;have hz:rz 300 v.body.toNat<=SZ 300:=rz_le (by omega);have hs:=sz300;obtain⟨g1,g2,g3,g4,g5,g6,g7,g8⟩:=same_places (f:=fr m p v.body.toNat) (l:=v.pts) (s:=SZ 300) (t:=rz 300 v.body.toNat) (by omega) (by omega) f1
   refine gR KT10_ok (some 26) [2,10,14,17,18,21,24,26] [0,1,2] [(240,tt),(245,.cptr [.list 6 (v.pts.map (G231 (fr m p v.body.toNat) (2*SZ 300) (2*SZ 300) (SZ 300) (SZ 300)))] 0),(251,.cptr (unRFoot 300 v) 0),(253,.i6 (v.body.toNat:Int)),(254,.cptr [.rq (fr m p v.body.toNat).at_.x (fr m p v.body.toNat).at_.x.den (2*(rz 300 v.body.toNat)+1),.rq (fr m p v.body.toNat).at_.z (fr m p v.body.toNat).at_.z.den (2*(rz 300 v.body.toNat)+1),.rq (fr m p v.body.toNat).c (fr m p v.body.toNat).c.den ((rz 300 v.body.toNat)+1),.rq (fr m p v.body.toNat).s (fr m p v.body.toNat).s.den ((rz 300 v.body.toNat)+1)] 0),(259,.cptr (unRFoot 300 v) 0),(262,.list 8 (v.pts.map (G74 (fr m p v.body.toNat) (2*rz 300 v.body.toNat+1) (2*rz 300 v.body.toNat+1) (rz 300 v.body.toNat+1) (rz 300 v.body.toNat+1)))),(242,.i6 ((i+1:Nat):Int))] (.c6 (iT (show(i:Int)<((solL 300 m p).length:Int) by rw[hsl];omega)) (show Ref (.cptr ((solL 300 m p).getD i []) 0) (.cptr [.list 6 (v.pts.map (G231 (fr m p v.body.toNat) (2*SZ 300) (2*SZ 300) (SZ 300) (SZ 300)))] 0) from Ref.eq (by
       unfold solL;rw[gdE,List.getElem?_map,List.getElem?_range hi];show AV.cptr (E149 m.feet (fsL m p) (SZ 300) i) 0=_;unfold E149
       rw[<- hv,fsL_get f3])) (nn i) (show(i:Int)<((solL 300 m p).length:Int) by rw[hsl];omega) (show Ref (.cptr ((m.feet.map (unRFoot 300)).getD i []) 0) (.cptr (unRFoot 300 v) 0) by rw[hv];exact Ref.cmap (f:=unRFoot 300) hi) (nn i) (.c6 (show(i:Int)<((m.feet.map (unRFoot 300)).length:Int) by rw[hfl];omega) (show Ref (.i6 v.body) (.i6 (v.body.toNat:Int)) from Ref.int (by omega)) (show Ref (.cptr ((rfL m p).getD v.body.toNat []) 0) (.cptr [.rq (fr m p v.body.toNat).at_.x (fr m p v.body.toNat).at_.x.den (2*(rz 300 v.body.toNat)+1),.rq (fr m p v.body.toNat).at_.z (fr m p v.body.toNat).at_.z.den (2*(rz 300 v.body.toNat)+1),.rq (fr m p v.body.toNat).c (fr m p v.body.toNat).c.den ((rz 300 v.body.toNat)+1),.rq (fr m p v.body.toNat).s (fr m p v.body.toNat).s.den ((rz 300 v.body.toNat)+1)] 0) from Ref.eq (by rw[rfL_get f3];rfl)) (nn v.body.toNat) (show(v.body.toNat:Int)<((rfL m p).length:Int) by rw[hn];omega) (show Ref (.cptr ((m.feet.map (unRFoot 300)).getD i []) 0) (.cptr (unRFoot 300 v) 0) by rw[hv];exact Ref.cmap (f:=unRFoot 300) hi) (.c6 (nn i) (show(i:Int)<((m.feet.map (unRFoot 300)).length:Int) by rw[hfl];omega) (show Ref (.list 8 (((v.pts.map (unRP 300)).map reRPt).map (G74 ⟨⟨(fr m p v.body.toNat).at_.x,(fr m p v.body.toNat).at_.z⟩,(fr m p v.body.toNat).c,(fr m p v.body.toNat).s⟩ (2*(rz 300 v.body.toNat)+1) (2*(rz 300 v.body.toNat)+1) ((rz 300 v.body.toNat)+1) ((rz 300 v.body.toNat)+1)))) (.list 8 (v.pts.map (G74 (fr m p v.body.toNat) (2*rz 300 v.body.toNat+1) (2*rz 300 v.body.toNat+1) (rz 300 v.body.toNat+1) (rz 300 v.body.toNat+1)))) from Ref.eq (by rw[reRPt_un])) (rfl:(fr m p v.body.toNat).at_.x.den=(fr m p v.body.toNat).at_.x.den) (rfl:(fr m p v.body.toNat).at_.z.den=(fr m p v.body.toNat).at_.z.den) (rfl:(fr m p v.body.toNat).c.den=(fr m p v.body.toNat).c.den) (.c6 (rfl:(fr m p v.body.toNat).s.den=(fr m p v.body.toNat).s.den) (show(v.pts.map (unRP 300))=((v.pts.map (unRP 300)).map reRPt).map (unRP 300) by rw[reRPt_un]) (show(v.pts.map (unRP 300)).length<=1000000 by rw[lmE];exact f1) (show 8*max 300 64+8*max 300 64+8*max ((rz 300 v.body.toNat)+1) 64+8*max ((rz 300 v.body.toNat)+1) 64+8*max (2*(rz 300 v.body.toNat)+1) 64+8*max (2*(rz 300 v.body.toNat)+1) 64+2000<=LIM by unfold LIM;omega) g1 g2 (.c6 g3 g4 g5 g6 g7 g8 (.a1 (wI ((i:Int)+(1:Int)) ((i+1:Nat):Int) (by have:=feet_len h;omega)))))))) (ih (i+1) (by omega))
theorem body10 (h:poseE m p.joints.length=0) (h8:m.bodies.length<=8):∀ (j i:Nat),i+j=m.bodies.length->
   GF 10 S w0 (.bool true) [.code (nav [1,1,1,1,1,1,1,1,1,1,1,1,1,0,1,0,0] (bodyOf Tryz.f10)),.inLoop (nav [1,1,1,1,1,1,1,1,1,1,1,1,1,0,1,0,0] (bodyOf Tryz.f10)),.inBlock 0,.code (nav [1,1,1,1,1,1,1,1,1,1,1,1,1,1] (bodyOf Tryz.f10))] ⟨slots 298 [(2,.i6 b),(10,.ptr 0 5 0 0),(14,.ptr 1 8 0 0),(15,.list 12 (XRl 300 m p)),(17,.ptr 2 6 0 0),(18,.i6 (worldE m p.joints.length b)),(19,.list 1 (shpL 300 m p)),(21,.list 1 (solL 300 m p)),(24,.list 16 (rfL m p)),(25,.i6 ((i:Nat):Int))],[some ⟨48,5,false,[(unRMach 300 m)],none⟩,some ⟨68,8,false,[(unRP 300 x)],none⟩,some ⟨58,6,false,[[.q (worldV m p b x).x (4*SZ 300+300+300+8),.q (worldV m p b x).z (4*SZ 300+300+300+8)]],none⟩]⟩:=by
 have hn:=rfL_len (m:=m) (p:=p);have hsl:(shpL 300 m p).length=m.bodies.length:=by simp[shpL]
 have hxl:(XRl 300 m p).length=m.bodies.length:=by simp[XRl]
 have hbl:(m.bodies.map (unRBody 300)).length=m.bodies.length:=lmE ..;intro j
 induction j with
 | zero=>
   intro i hij;exact gN KT10_ok [2,10,14,17,18,21,24,26] [(171,ff)] (.a1 (iF (show ¬ ((i:Int)<((rfL m p).length:Int)) by rw[hn];omega))) (sole10 (b:=b) (x:=x) h h8 m.feet.length 0 (Nat.zero_add _))
 | succ j ih=>
   intro i hij;have hi:i<m.bodies.length:=by omega
   have f1:=shape_le h hi;obtain⟨v,hv⟩:∃ v,v=m.bodies.getD i default:=⟨_,rfl⟩;rw[<- hv] at f1;have hz:rz 300 i<=SZ 300:=rz_le (by omega);have hs:=sz300;obtain⟨g1,g2,g3,g4,g5,g6,g7,g8⟩:=same_places (f:=fr m p i) (l:=v.shape) (s:=SZ 300) (t:=rz 300 i) (by omega) (by omega) f1
   refine gR KT10_ok none [2,10,14,15,17,18,19,21,24,25,26] [0,1,2] [(171,tt),(176,.cptr (unF (SZ 300) (fr m p i)) 0),(181,.cptr [.rq (fr m p i).at_.x (fr m p i).at_.x.den (2*(rz 300 i)+1),.rq (fr m p i).at_.z (fr m p i).at_.z.den (2*(rz 300 i)+1),.rq (fr m p i).c (fr m p i).c.den ((rz 300 i)+1),.rq (fr m p i).s (fr m p i).s.den ((rz 300 i)+1)] 0),(189,.cptr (unF (SZ 300) (fr m p i)) 0),(195,.cptr [.rq (fr m p i).at_.x (fr m p i).at_.x.den (2*(rz 300 i)+1),.rq (fr m p i).at_.z (fr m p i).at_.z.den (2*(rz 300 i)+1),.rq (fr m p i).c (fr m p i).c.den ((rz 300 i)+1),.rq (fr m p i).s (fr m p i).s.den ((rz 300 i)+1)] 0),(205,.cptr (unF (SZ 300) (fr m p i)) 0),(211,.cptr [.rq (fr m p i).at_.x (fr m p i).at_.x.den (2*(rz 300 i)+1),.rq (fr m p i).at_.z (fr m p i).at_.z.den (2*(rz 300 i)+1),.rq (fr m p i).c (fr m p i).c.den ((rz 300 i)+1),.rq (fr m p i).s (fr m p i).s.den ((rz 300 i)+1)] 0),(221,.cptr [.list 6 (v.shape.map (G231 (fr m p i) (2*SZ 300) (2*SZ 300) (SZ 300) (SZ 300)))] 0),(225,.cptr [.rq (fr m p i).at_.x (fr m p i).at_.x.den (2*(rz 300 i)+1),.rq (fr m p i).at_.z (fr m p i).at_.z.den (2*(rz 300 i)+1),.rq (fr m p i).c (fr m p i).c.den ((rz 300 i)+1),.rq (fr m p i).s (fr m p i).s.den ((rz 300 i)+1)] 0),(230,.cptr (unRBody 300 v) 0),(233,.list 8 (v.shape.map (G74 (fr m p i) (2*rz 300 i+1) (2*rz 300 i+1) (rz 300 i+1) (rz 300 i+1)))),(173,.i6 ((i+1:Nat):Int))] (.c6 (iT (show(i:Int)<((rfL m p).length:Int) by rw[hn];omega)) (frL_ref (jb:=300) (m:=m) (p:=p) hi) (nn i) (show(i:Int)<((XRl 300 m p).length:Int) by rw[hxl];omega) (show Ref (.cptr ((rfL m p).getD i []) 0) (.cptr [.rq (fr m p i).at_.x (fr m p i).at_.x.den (2*(rz 300 i)+1),.rq (fr m p i).at_.z (fr m p i).at_.z.den (2*(rz 300 i)+1),.rq (fr m p i).c (fr m p i).c.den ((rz 300 i)+1),.rq (fr m p i).s (fr m p i).s.den ((rz 300 i)+1)] 0) from Ref.eq (by rw[rfL_get hi];rfl)) (nn i) (.c6 (show(i:Int)<((rfL m p).length:Int) by rw[hn];omega) (rfl:(fr m p i).at_.x=(fr m p i).at_.x) (rfl:(fr m p i).at_.z=(fr m p i).at_.z) (show(2*(SZ 300))+100<=LIM by unfold LIM;omega) (show(2*(rz 300 i)+1)+100<=LIM by unfold LIM;omega) (show(2*(SZ 300))+100<=LIM by unfold LIM;omega) (.c6 (show(2*(rz 300 i)+1)+100<=LIM by unfold LIM;omega) (frL_ref (jb:=300) (m:=m) (p:=p) hi) (nn i) (show(i:Int)<((XRl 300 m p).length:Int) by rw[hxl];omega) (show Ref (.cptr ((rfL m p).getD i []) 0) (.cptr [.rq (fr m p i).at_.x (fr m p i).at_.x.den (2*(rz 300 i)+1),.rq (fr m p i).at_.z (fr m p i).at_.z.den (2*(rz 300 i)+1),.rq (fr m p i).c (fr m p i).c.den ((rz 300 i)+1),.rq (fr m p i).s (fr m p i).s.den ((rz 300 i)+1)] 0) from Ref.eq (by rw[rfL_get hi];rfl)) (nn i) (.c6 (show(i:Int)<((rfL m p).length:Int) by rw[hn];omega) (rfl:(fr m p i).c=(fr m p i).c) (show(SZ 300)+100<=LIM by unfold LIM;omega) (show((rz 300 i)+1)+100<=LIM by unfold LIM;omega) (frL_ref (jb:=300) (m:=m) (p:=p) hi) (nn i) (.c6 (show(i:Int)<((XRl 300 m p).length:Int) by rw[hxl];omega) (show Ref (.cptr ((rfL m p).getD i []) 0) (.cptr [.rq (fr m p i).at_.x (fr m p i).at_.x.den (2*(rz 300 i)+1),.rq (fr m p i).at_.z (fr m p i).at_.z.den (2*(rz 300 i)+1),.rq (fr m p i).c (fr m p i).c.den ((rz 300 i)+1),.rq (fr m p i).s (fr m p i).s.den ((rz 300 i)+1)] 0) from Ref.eq (by rw[rfL_get hi];rfl)) (nn i) (show(i:Int)<((rfL m p).length:Int) by rw[hn];omega) (rfl:(fr m p i).s=(fr m p i).s) (show(SZ 300)+100<=LIM by unfold LIM;omega) (.c6 (show((rz 300 i)+1)+100<=LIM by unfold LIM;omega) (show Ref (.cptr ((shpL 300 m p).getD i []) 0) (.cptr [.list 6 (v.shape.map (G231 (fr m p i) (2*SZ 300) (2*SZ 300) (SZ 300) (SZ 300)))] 0) from Ref.eq (by
       unfold shpL;rw[gdE,List.getElem?_map,List.getElem?_range hi];show AV.cptr (E171 m.bodies (fsL m p) (SZ 300) i) 0=_;unfold E171
       rw[<- hv,fsL_get hi])) (nn i) (show(i:Int)<((shpL 300 m p).length:Int) by rw[hsl];omega) (show Ref (.cptr ((rfL m p).getD i []) 0) (.cptr [.rq (fr m p i).at_.x (fr m p i).at_.x.den (2*(rz 300 i)+1),.rq (fr m p i).at_.z (fr m p i).at_.z.den (2*(rz 300 i)+1),.rq (fr m p i).c (fr m p i).c.den ((rz 300 i)+1),.rq (fr m p i).s (fr m p i).s.den ((rz 300 i)+1)] 0) from Ref.eq (by rw[rfL_get hi];rfl)) (nn i) (.c6 (show(i:Int)<((rfL m p).length:Int) by rw[hn];omega) (show Ref (.cptr ((m.bodies.map (unRBody 300)).getD i []) 0) (.cptr (unRBody 300 v) 0) by rw[hv];exact Ref.cmap (f:=unRBody 300) hi) (nn i) (show(i:Int)<((m.bodies.map (unRBody 300)).length:Int) by rw[hbl];omega) (show Ref (.list 8 (((v.shape.map (unRP 300)).map reRPt).map (G74 ⟨⟨(fr m p i).at_.x,(fr m p i).at_.z⟩,(fr m p i).c,(fr m p i).s⟩ (2*(rz 300 i)+1) (2*(rz 300 i)+1) ((rz 300 i)+1) ((rz 300 i)+1)))) (.list 8 (v.shape.map (G74 (fr m p i) (2*rz 300 i+1) (2*rz 300 i+1) (rz 300 i+1) (rz 300 i+1)))) from Ref.eq (by rw[reRPt_un])) (rfl:(fr m p i).at_.x.den=(fr m p i).at_.x.den) (.c6 (rfl:(fr m p i).at_.z.den=(fr m p i).at_.z.den) (rfl:(fr m p i).c.den=(fr m p i).c.den) (rfl:(fr m p i).s.den=(fr m p i).s.den) (show(v.shape.map (unRP 300))=((v.shape.map (unRP 300)).map reRPt).map (unRP 300) by rw[reRPt_un]) (show(v.shape.map (unRP 300)).length<=1000000 by rw[lmE];exact f1) (show 8*max 300 64+8*max 300 64+8*max ((rz 300 i)+1) 64+8*max ((rz 300 i)+1) 64+8*max (2*(rz 300 i)+1) 64+8*max (2*(rz 300 i)+1) 64+2000<=LIM by unfold LIM;omega) (.c6 g1 g2 g3 g4 g5 g6 (.a3 g7 g8 (wI ((i:Int)+(1:Int)) ((i+1:Nat):Int)))))))))))) (ih (i+1) (by omega))
end
def LimbD.okw (v:LimbD):Prop:=v.at_.ok/\v.c.ok/\v.ma.ok/\v.inr.ok/\v.low.ok/\v.high.ok/\∀ s∈v.shape,s.ok
def SoleD.okw (v:SoleD):Prop:=(∀ s∈v.pts,s.ok)/\v.fr.ok
def RigD.okw (r:RigD):Prop:=(∀ v∈r.limbs,v.okw)/\(∀ v∈r.springs,v.ok)/\(∀ v∈r.tendons,v.ok)/\(∀ v∈r.drives,v.ok)/\(∀ v∈r.soles,v.okw)
def StandD.okw (s:StandD):Prop:=s.at_.ok/\s.turn.ok/\∀ v∈s.joints,v.ok
theorem RigD.okw.small {r:RigD} (h:r.okw) (hs:r.small=true):r.ok:=by
 obtain⟨h1,h2,h3,h4,h5⟩:=h;unfold RigD.small at hs;obtain⟨s1,s2,s3,s4,s5,s6,s7⟩:=of_decide_eq_true hs;refine⟨fun v hv=> ?_,h2,h3,h4,fun v hv=> ?_,by omega,by omega,by omega,by omega,by omega⟩
 · obtain⟨a,b,c,d,e,f,g⟩:=h1 v hv
   have:=s6 v hv;exact⟨a,b,c,d,e,f,g,by omega⟩
 · obtain⟨a,b⟩:=h5 v hv
   have:=s7 v hv;exact⟨a,by omega,b⟩
theorem Good.seen {P:Program} {f:FuncId} {S0 C0:Nat->Prop} {w0:World} {Post:Value->World->Prop} {todo:List Item} {σ:List AV} {h:List (Option ABlk)} (l i:Nat) {b:ABlk} {el:List AV} (hl:h[l]? =some (some b)) (he:b.elems[i]? =some el)
   (hg:(∃ ρ S w D vs,RelCs ρ S w D el vs)->Good P f S0 C0 w0 Post todo ⟨σ,h⟩):Good P f S0 C0 w0 Post todo ⟨σ,h⟩:=fun ρ D a w R bb cs hb hk=>by
 obtain⟨_,arr,_,_,h3⟩:=R.heap l b hl;exact hg ⟨_,_,_,_,_,h3 i el he⟩ ρ D a w R bb cs hb hk
theorem real_len (r:RigD):r.real.bodies.length=r.limbs.length:=by simp[RigD.real,bodiesOf]
theorem real_small {r:RigD} (h:r.ok):r.real.small:=by
 obtain⟨_,_,_,_,_,h1,h2,h3,h4,h5⟩:=h;refine⟨?_, ?_, ?_, ?_, ?_⟩ <;> simp only[RigD.real,bodiesOf,lmE,List.length_range] <;> omega
theorem rig_le8 {r:RigD} (h:r.small=true):r.limbs.length<=8:=by
 unfold RigD.small at h;exact(of_decide_eq_true h).1
def nnB (v:BodyD):BodyD:=⟨ByteArray.mk #[],v.par,v.at_,v.c,v.ma,v.inr,v.low,v.high,v.shape⟩
theorem reRB_nn (v:BodyD):reRB (unRBody 300 v)=nnB v:=by
 cases v;simp only[reRB,unRBody,nnB,reRPt_un]
theorem mR_bodies (l:List BodyD):(l.map (unRBody 300)).map reRB=l.map nnB:=by
 rw[List.map_map];exact List.map_congr_left fun v _=>reRB_nn v
theorem unRB_nn (l:List BodyD):l.map (unRBody 300)=((l.map (unRBody 300)).map reRB).map (unRBody 300):=by
 rw[mR_bodies,List.map_map];exact List.map_congr_left fun v _=>rfl
theorem reRQ_un10 (l:List Rat):(l.map (unRQ 300)).map reRQ=l:=re_un (fun v=>rfl) l
theorem mR_get (m:MachD) (i:Nat):(mR (m.bodies.map (unRBody 300))).bodies.getD i default=nnB (m.bodies.getD i default):=by
 show((m.bodies.map (unRBody 300)).map reRB).getD i default=_;rw[mR_bodies,gdE,gdE,List.getElem?_map];cases m.bodies[i]? <;> rfl
theorem mR_len (m:MachD):(mR (m.bodies.map (unRBody 300))).bodies.length=m.bodies.length:=by simp[mR]
theorem frF_mR (m:MachD) (p:PoseD):∀ (n i:Nat),frF (mR (m.bodies.map (unRBody 300))) p n i=frF m p n i
 | 0,i=>rfl
 | n+1,i=>by
   rw[frF,frF,mR_get];show(if i=0 then _ else stepF (frF (mR (m.bodies.map (unRBody 300))) p n (m.bodies.getD i default).par.toNat) (nnB (m.bodies.getD i default)) _)=_;rw[frF_mR m p n];rfl
theorem rfL_mR (m:MachD) (p:PoseD):(List.range (m.bodies.map (unRBody 300)).length).map (rfr 300 (mR (m.bodies.map (unRBody 300))) ⟨⟨p.at_.x,p.at_.z⟩,p.turn,(p.joints.map (unRQ 300)).map reRQ⟩)=rfL m p:=by
 rw[reRQ_un10,lmE]
 exact List.map_congr_left fun i _=>by
   show unRF (rz 300 i) (frF (mR (m.bodies.map (unRBody 300))) p i i)=unRF (rz 300 i) (frF m p i i);rw[frF_mR]
theorem bnd_mR {m:MachD} {p:PoseD} (h:Bnd 300 m p):Bnd 300 (mR (m.bodies.map (unRBody 300))) ⟨⟨p.at_.x,p.at_.z⟩,p.turn,(p.joints.map (unRQ 300)).map reRQ⟩:=by
 obtain⟨h1,h2,h3,h4,h5⟩:=h;rw[reRQ_un10];exact⟨h1,h2,h3,h4,fun i hi=>by rw[mR_get];exact h5 i (by rw[mR_len] at hi;exact hi)⟩
theorem tree_mR {m:MachD} (h:m.tree):(mR (m.bodies.map (unRBody 300))).tree:=fun i h0 hi=>by
 rw[mR_get];exact h i h0 (by rw[mR_len] at hi;exact hi)
theorem ret10 {S:Nat->Prop} {w0:World} {todo:List Item} {σ:List AV} {h:List (Option ABlk)} (hσ:σ.getD 8 .any= .bool true):GF 10 S w0 (.bool true) (.code .ret::todo) ⟨σ,h⟩:=
 good_ret1 TT0_ok (fn:=Tryz.f10) (by kernel_rfl) 8 (by kernel_rfl) rfl (by rw[hσ];rfl) (by rw[hσ];exact rr)
set_option maxHeartbeats 400000 in
theorem frames_true (r:RigD) (sd:StandD) (b:Int) (xs:SpotD) (hr:r.okw) (hs:sd.okw) (hx:xs.ok):
   AFun Tryz.prog 10 [.agg (unRig r),.agg (unStand sd),.i6 b,.agg (unSpot xs)] (.bool true):=by
 refine af Tryz.f10 fun S w0=> ?_
 have a0:Ref (AV.tup [(AV.agg (unMach 300 (reRig (unRig r)).real)),(AV.agg (unRMach 300 (reRig (unRig r)).real))]) (AV.tup [AV.agg (unMach 300 r.real),AV.agg (unRMach 300 r.real)]):=Ref.eq (by rw[reRig_un]);have a1:unRig r=unRig (reRig (unRig r)):=by rw[reRig_un]
 have a3:Ref (AV.tup [(AV.agg [(AV.q sd.at_.x.val 300),(AV.q sd.at_.z.val 300),(AV.q sd.turn.val 300),(AV.list 3 (numsP ((sd.joints.map unNum).map reNum)))]),(AV.agg [(AV.rq sd.at_.x.val sd.at_.x.val.den 300),(AV.rq sd.at_.z.val sd.at_.z.val.den 300),(AV.rq sd.turn.val sd.turn.val.den 300),(AV.list 4 (numsR ((sd.joints.map unNum).map reNum)))])]) (AV.tup [AV.agg (unPose 300 sd.real),AV.agg (unRPose 300 sd.real)]):=Ref.eq (by rw[reNum_un];rfl);obtain⟨s1,s2,s3⟩:=hs;have a4:sd.joints.map unNum=((sd.joints.map unNum).map reNum).map unNum:=by rw[reNum_un]
 have a5:∀ s∈(sd.joints.map unNum).map reNum,s.ok:=by rw[reNum_un];exact s3
 have a7:Ref (AV.bool (reRig (unRig r)).small) (AV.bool r.small):=Ref.eq (by rw[reRig_un]);have hjl:sd.real.joints.length=sd.joints.length:=by simp[StandD.real]
 have a9:unMach 300 r.real=unMach 300 (reMach (unMach 300 r.real)):=by rw[reMach_un]
 have a13:Ref (.list 3 (sd.real.joints.map (unQ 300))) (.list 3 (((sd.real.joints.map (unQ 300)).map reQ).map (unQ 300))):=Ref.eq (by rw[reQ_un]);cases h1:r.small with
 | false=>exact p10_0_0 r sd b xs r.real sd.real xs.pt (by rw[h1];rfl) ⟨a7,a1⟩ (ret10 rfl)
 | true=>
   have h1':(!(r.small))=false:=by rw[h1];rfl
   have hk:=hr.small h1;have a2:(reRig (unRig r)).ok:=by rw[reRig_un];exact hk
   have hms:=real_small hk;have a10:(reMach (unMach 300 r.real)).small:=by rw[reMach_un];exact hms
   have h8:r.real.bodies.length<=8:=by rw[real_len];exact rig_le8 h1
   have a12:(reMach (unMach 300 r.real)).bodies.length<=8:=by rw[reMach_un];exact h8
   have v2:Ref (.bool (!(r.small))) (.bool false):=Ref.bool h1'
   by_cases h2:(9:Int)<(((sd.joints.map unNum).length:Nat):Int)
   · refine gR KT10_ok (some 6) [8] [] [(28,.bool (r.small)),(30,ff),(35,tt)] (.a4 a7 a1 v2 (iT h2)) (t:=[.code .ret,.code (nav [1,1] (bodyOf Tryz.f10))]) (σ:=slots 298 [(8,.bool true)]) (h:=[]) (ret10 rfl)
   · have s4:sd.joints.length<=9:=by rw[lmE] at h2;omega
     have a6:(sd.joints.map unNum).length*128<=140737488355328:=by rw[lmE];omega
     have a11:(sd.real.joints.map (unQ 300)).length<=4611686018427387904:=by rw[lmE,hjl];omega
     refine gR KT10_ok (some 6) [2,9,10,11,12,13,14] [5,6,8,9,11,12] [(28,.bool (r.small)),(30,ff),(35,ff),(39,.tup [.agg (unMach 300 r.real),.agg (unRMach 300 r.real)]),(44,.tup [.agg [.q sd.real.at_.x 300,.q sd.real.at_.z 300,.q sd.real.turn 300,.list 3 (sd.real.joints.map (unQ 300))],.agg [.rq sd.real.at_.x sd.real.at_.x.den 300,.rq sd.real.at_.z sd.real.at_.z.den 300,.rq sd.real.turn sd.real.turn.den 300,.list 4 (sd.real.joints.map (unRQ 300))]]),(49,.tup [.agg [.q xs.pt.x 300,.q xs.pt.z 300],.agg (unRP 300 xs.pt)])] (.c6 a7 a1 v2 (iF h2) a0 a1 (.c6 a2 a3 s1.1 s1.2 s2 a4 (.a5 a5 a6 (show Ref (.tup [.agg [.q (numV xs.x.n xs.x.d xs.x.p) 300,.q (numV xs.z.n xs.z.d xs.z.p) 300],.agg [.rq (numV xs.x.n xs.x.d xs.x.p) ((numV xs.x.n xs.x.d xs.x.p).den) 300,.rq (numV xs.z.n xs.z.d xs.z.p) ((numV xs.z.n xs.z.d xs.z.p).den) 300]]) (.tup [.agg [.q xs.pt.x 300,.q xs.pt.z 300],.agg (unRP 300 xs.pt)]) from rr) hx.1 hx.2))) (t:=[.code (nav [1,1,1,1,1,0] (bodyOf Tryz.f10)),.code (nav [1,1,1,1,1,1] (bodyOf Tryz.f10))]) (σ:=slots 298 [(2,.i6 b),(9,.ptr 0 6 0 0),(10,.ptr 1 5 0 0),(11,.ptr 2 10 0 0),(12,.ptr 3 13 0 0),(13,.ptr 4 6 0 0),(14,.ptr 5 8 0 0)]) (h:=[some ⟨41,6,false,[(unMach 300 r.real)],none⟩,some ⟨48,5,false,[(unRMach 300 r.real)],none⟩,some ⟨61,10,false,[[.q sd.real.at_.x 300,.q sd.real.at_.z 300,.q sd.real.turn 300,.list 3 (sd.real.joints.map (unQ 300))]],none⟩,some ⟨71,13,false,[[.rq sd.real.at_.x sd.real.at_.x.den 300,.rq sd.real.at_.z sd.real.at_.z.den 300,.rq sd.real.turn sd.real.turn.den 300,.list 4 (sd.real.joints.map (unRQ 300))]],none⟩,some ⟨58,6,false,[[.q xs.pt.x 300,.q xs.pt.z 300]],none⟩,some ⟨68,8,false,[(unRP 300 xs.pt)],none⟩]) ?_
     have a14:(r.real.bodies.map (unBody 300)).length<=4611686018427387904:=by rw[lmE];omega
     generalize hm:r.real=m at*;generalize hp:sd.real=p at*;have hL:4*SZ 300+300+300+8+100<=LIM:=by rw[sz300];decide
     have hL2:8*SZ 300+2*300+2*300+400<=LIM:=by rw[sz300];decide
     have rE:Ref (.i6 (poseE (reMach (unMach 300 m)) (p.joints.map (unQ 300)).length)) (.i6 (poseE m p.joints.length)):=Ref.eq (by rw[reMach_un,lmE])
     have rW:Ref (.tup [.agg [.q (worldV (reMach (unMach 300 m)) ⟨⟨p.at_.x,p.at_.z⟩,p.turn,(p.joints.map (unQ 300)).map reQ⟩ b ⟨xs.pt.x,xs.pt.z⟩).x (4*SZ 300+300+300+8),.q (worldV (reMach (unMach 300 m)) ⟨⟨p.at_.x,p.at_.z⟩,p.turn,(p.joints.map (unQ 300)).map reQ⟩ b ⟨xs.pt.x,xs.pt.z⟩).z (4*SZ 300+300+300+8)],.i6 (worldE (reMach (unMach 300 m)) (p.joints.map (unQ 300)).length b)])
         (.tup [.agg [.q (worldV m p b xs.pt).x (4*SZ 300+300+300+8),.q (worldV m p b xs.pt).z (4*SZ 300+300+300+8)],.i6 (worldE m p.joints.length b)]):=Ref.eq (by rw[reMach_un,reQ_un,lmE])
     have v0:300<=300:=by decide
     have v1:300<=100000:=by decide
     by_cases h3:poseE m p.joints.length=(0:Int)
     · have rF:Ref (.tup [framesV 300 (reMach (unMach 300 m)) ⟨⟨p.at_.x,p.at_.z⟩,p.turn,(p.joints.map (unQ 300)).map reQ⟩,.i6 (poseE (reMach (unMach 300 m)) (p.joints.map (unQ 300)).length)]) (.tup [.list 12 (XRl 300 m p),.i6 0]):=Ref.eq (by
         rw[reMach_un,reQ_un,lmE,h3];show AV.tup [framesV 300 m p,_]=_
         unfold framesV;rw[if_pos h3])
       have rS:Ref (.tup [shapesV 300 (reMach (unMach 300 m)) ⟨⟨p.at_.x,p.at_.z⟩,p.turn,(p.joints.map (unQ 300)).map reQ⟩,.i6 (poseE (reMach (unMach 300 m)) (p.joints.map (unQ 300)).length)]) (.tup [.list 1 (shpL 300 m p),.i6 0]):=Ref.eq (by
         rw[reMach_un,reQ_un,lmE,h3];show AV.tup [shapesV 300 m p,_]=_
         unfold shapesV;rw[if_pos h3])
       have rO:Ref (.tup [solesV 300 (reMach (unMach 300 m)) ⟨⟨p.at_.x,p.at_.z⟩,p.turn,(p.joints.map (unQ 300)).map reQ⟩,.i6 (poseE (reMach (unMach 300 m)) (p.joints.map (unQ 300)).length)]) (.tup [.list 1 (solL 300 m p),.i6 0]):=Ref.eq (by
         rw[reMach_un,reQ_un,lmE,h3];show AV.tup [solesV 300 m p,_]=_
         unfold solesV;rw[if_pos h3])
       have rE0:=rE;rw[h3] at rE0;obtain⟨hc,hn⟩:=pose_parts h3;refine Good.seen (b:=⟨41,6,false,[unMach 300 m],none⟩) (el:=unMach 300 m) 0 0 (by rfl) (by rfl) fun k0=> ?_
       refine Good.seen (b:=⟨61,10,false,[unPose 300 p],none⟩) (el:=unPose 300 p) 2 0 (by rfl) (by rfl) fun k1=> ?_
       obtain⟨_,_,_,_,_,k0⟩:=k0;obtain⟨_,_,_,_,_,k1⟩:=k1;have hB:=bnd_of k0 k1;have z0:(0:Int)=0:=rfl;refine gR KT10_ok (some 13) [2,9,10,11,12,13,14,15,16,17,18,19,20,21,22] [0,1,2,3,4,5,8] [(55,.tup [.list 12 (XRl 300 m p),.i6 0]),(63,.tup [.agg [.q (worldV m p b xs.pt).x (4*SZ 300+300+300+8),.q (worldV m p b xs.pt).z (4*SZ 300+300+300+8)],.i6 (worldE m p.joints.length b)]),(69,.tup [.list 1 (shpL 300 m p),.i6 0]),(75,.tup [.list 1 (solL 300 m p),.i6 0]),(80,.i6 0),(82,ff)] (.c6 rF a9 a10 a12 v0 v0 (.c6 v1 a13 a11 rW a9 a10 (.c6 a12 v0 v0 v1 a13 a11 (.c6 hL2 rS a9 a10 a12 v0 (.c6 v0 v1 a13 a11 rO a9 (.c6 a10 a12 v0 v0 v1 a13 (.c6 a11 rE0 a9 a10 a11 a14 (.a1 (jF z0))))))))) (t:=[.code (nav [1,1,1,1,1,1,1,1,1,1,1,0] (bodyOf Tryz.f10)),.code (nav [1,1,1,1,1,1,1,1,1,1,1,1] (bodyOf Tryz.f10))]) (σ:=slots 298 [(2,.i6 b),(9,.ptr 0 6 0 0),(10,.ptr 1 5 0 0),(11,.ptr 2 10 0 0),(12,.ptr 3 13 0 0),(13,.ptr 4 6 0 0),(14,.ptr 5 8 0 0),(15,.list 12 (XRl 300 m p)),(16,.i6 0),(17,.ptr 6 6 0 0),(18,.i6 (worldE m p.joints.length b)),(19,.list 1 (shpL 300 m p)),(20,.i6 0),(21,.list 1 (solL 300 m p)),(22,.i6 0)]) (h:=[some ⟨41,6,false,[(unMach 300 m)],none⟩,some ⟨48,5,false,[(unRMach 300 m)],none⟩,some ⟨61,10,false,[[.q p.at_.x 300,.q p.at_.z 300,.q p.turn 300,.list 3 (p.joints.map (unQ 300))]],none⟩,some ⟨71,13,false,[[.rq p.at_.x p.at_.x.den 300,.rq p.at_.z p.at_.z.den 300,.rq p.turn p.turn.den 300,.list 4 (p.joints.map (unRQ 300))]],none⟩,some ⟨58,6,false,[[.q xs.pt.x 300,.q xs.pt.z 300]],none⟩,some ⟨68,8,false,[(unRP 300 xs.pt)],none⟩,some ⟨58,6,false,[[.q (worldV m p b xs.pt).x (4*SZ 300+300+300+8),.q (worldV m p b xs.pt).z (4*SZ 300+300+300+8)]],none⟩]) ?_
       have e1:(XRl 300 m p).length=m.bodies.length:=by simp[XRl]
       have e2:(shpL 300 m p).length=m.bodies.length:=by simp[shpL]
       have e3:(solL 300 m p).length=m.feet.length:=by simp[solL]
       have b1:Ref (.bool (!decide ((((XRl 300 m p).length:Nat):Int)=(((rfL m p).length:Nat):Int)))) (.bool false):=Ref.bool (by rw[e1,rfL_len];simp);have b2:Ref (.bool (!decide ((((shpL 300 m p).length:Nat):Int)=(((rfL m p).length:Nat):Int)))) (.bool false):=Ref.bool (by rw[e2,rfL_len];simp);have b3:Ref (.bool (!decide ((((solL 300 m p).length:Nat):Int)=(((m.feet.map (unRFoot 300)).length:Nat):Int)))) (.bool false):=Ref.bool (by rw[e3,lmE];simp);exact gR KT10_ok none [2,10,14,15,17,18,19,21,24,25] [1,5,6] [(129,.list 16 (rfL m p)),(132,.i6 (0:Int)),(151,ff),(158,ff),(166,ff)] (.c6 (show Ref (.list 16 ((List.range (m.bodies.map (unRBody 300)).length).map (rfr 300 (mR (m.bodies.map (unRBody 300))) ⟨⟨p.at_.x,p.at_.z⟩,p.turn,(p.joints.map (unRQ 300)).map reRQ⟩))) (.list 16 (rfL m p)) from Ref.eq (by rw[rfL_mR])) (show(m.bodies.map (unRBody 300))=((m.bodies.map (unRBody 300)).map reRB).map (unRBody 300) from unRB_nn _) (rfl:p.at_.x.den=p.at_.x.den) (rfl:p.at_.z.den=p.at_.z.den) (rfl:p.turn.den=p.turn.den) (rfl:300=300) (.c6 (rfl:300=300) (show(p.joints.map (unRQ 300))=((p.joints.map (unRQ 300)).map reRQ).map (unRQ 300) by rw[reRQ_un10]) v1 (bnd_mR hB) (tree_mR (check_tree hc)) (show 0<(m.bodies.map (unRBody 300)).length by rw[lmE];omega) (.c6 (show(m.bodies.map (unRBody 300)).length<=8 by rw[lmE];exact h8) (show(p.joints.map (unRQ 300)).length+1=(m.bodies.map (unRBody 300)).length by rw[lmE,lmE];exact hn) rE0 a9 a10 a11 (.a4 a14 b1 b2 b3)))) (body10 (b:=b) (x:=xs.pt) h3 h8 m.bodies.length 0 (Nat.zero_add _))
     · have e:worldE m p.joints.length b=poseE m p.joints.length:=by unfold worldE;rw[if_neg h3]
       have v:worldV m p b xs.pt=⟨0,0⟩:=if_neg (by rw[e];exact h3)
       have rF:Ref (.tup [framesV 300 (reMach (unMach 300 m)) ⟨⟨p.at_.x,p.at_.z⟩,p.turn,(p.joints.map (unQ 300)).map reQ⟩,.i6 (poseE (reMach (unMach 300 m)) (p.joints.map (unQ 300)).length)]) (.tup [.list 12 [],.i6 (poseE m p.joints.length)]):=Ref.eq (by
         rw[reMach_un,reQ_un,lmE];show AV.tup [framesV 300 m p,_]=_
         unfold framesV;rw[if_neg h3])
       have rS:Ref (.tup [shapesV 300 (reMach (unMach 300 m)) ⟨⟨p.at_.x,p.at_.z⟩,p.turn,(p.joints.map (unQ 300)).map reQ⟩,.i6 (poseE (reMach (unMach 300 m)) (p.joints.map (unQ 300)).length)]) (.tup [.list 1 [],.i6 (poseE m p.joints.length)]):=Ref.eq (by
         rw[reMach_un,reQ_un,lmE];show AV.tup [shapesV 300 m p,_]=_
         unfold shapesV;rw[if_neg h3])
       have rO:Ref (.tup [solesV 300 (reMach (unMach 300 m)) ⟨⟨p.at_.x,p.at_.z⟩,p.turn,(p.joints.map (unQ 300)).map reQ⟩,.i6 (poseE (reMach (unMach 300 m)) (p.joints.map (unQ 300)).length)]) (.tup [.list 1 [],.i6 (poseE m p.joints.length)]):=Ref.eq (by
         rw[reMach_un,reQ_un,lmE];show AV.tup [solesV 300 m p,_]=_
         unfold solesV;rw[if_neg h3])
       have z1:(-9223372036854775808:Int)<=((([]:List (List AV)).length:Nat):Int)+((([]:List (List AV)).length:Nat):Int)/\((([]:List (List AV)).length:Nat):Int)+((([]:List (List AV)).length:Nat):Int)<=9223372036854775807:=by constructor <;> simp
       have z2:(-9223372036854775808:Int)<=((([]:List (List AV)).length+([]:List (List AV)).length:Nat):Int)+((([]:List (List AV)).length:Nat):Int)/\((([]:List (List AV)).length+([]:List (List AV)).length:Nat):Int)+((([]:List (List AV)).length:Nat):Int)<=9223372036854775807:=by constructor <;> simp
       have z3:Ref (.bool (decide (((([]:List (List AV)).length+([]:List (List AV)).length+([]:List (List AV)).length:Nat):Int)=(0:Int)))) (.bool true):=Ref.bool (by simp);have z4:0+100<=LIM:=by unfold LIM;omega
       have z5:Ref (.bool (decide (poseE m p.joints.length=poseE m p.joints.length))) (.bool true):=Ref.bool (by simp);have z6:Ref (.bool (decide (worldE m p.joints.length b=poseE m p.joints.length))) (.bool true):=Ref.bool (by rw[e];simp);have z7:(worldV m p b xs.pt).x=0:=by rw[v]
       have z8:(worldV m p b xs.pt).z=0:=by rw[v]
       refine gR KT10_ok (some 13) [8] [0,1,2,3,4,5,8] [(55,.tup [.list 12 ([]:List (List AV)),.i6 (poseE m p.joints.length)]),(63,.tup [.agg [.q (worldV m p b xs.pt).x (4*SZ 300+300+300+8),.q (worldV m p b xs.pt).z (4*SZ 300+300+300+8)],.i6 (worldE m p.joints.length b)]),(69,.tup [.list 1 ([]:List (List AV)),.i6 (poseE m p.joints.length)]),(75,.tup [.list 1 ([]:List (List AV)),.i6 (poseE m p.joints.length)]),(80,.i6 (poseE m p.joints.length)),(82,tt),(85,.i6 (poseE m p.joints.length)),(87,tt),(91,tt),(96,tt),(101,tt),(106,tt),(113,.i6 ((([]:List (List AV)).length+([]:List (List AV)).length:Nat):Int)),(116,.i6 ((([]:List (List AV)).length+([]:List (List AV)).length+([]:List (List AV)).length:Nat):Int)),(117,tt)] (.c6 rF a9 a10 a12 v0 v0 (.c6 v1 a13 a11 rW a9 a10 (.c6 a12 v0 v0 v1 a13 a11 (.c6 hL2 rS a9 a10 a12 v0 (.c6 v0 v1 a13 a11 rO a9 (.c6 a10 a12 v0 v0 v1 a13 (.c6 a11 rE a9 a10 a11 a14 (.c6 (jT h3) rE a9 a10 a11 a14 (.c6 z5 z5 z6 z5 z5 (wI (((([]:List (List AV)).length:Nat):Int)+(([]:List (List AV)).length:Int)) ((([]:List (List AV)).length+([]:List (List AV)).length:Nat):Int) z1) (.c6 (wI (((([]:List (List AV)).length+([]:List (List AV)).length:Nat):Int)+(([]:List (List AV)).length:Int)) ((([]:List (List AV)).length+([]:List (List AV)).length+([]:List (List AV)).length:Nat):Int) z2) z3 z7 z8 hL z4 (.a2 hL z4))))))))))) (t:=[.code .ret,.code (nav [1,1,1,1,1,1,1,1,1,1,1] (bodyOf Tryz.f10))]) (σ:=slots 298 [(8,.bool true)]) (h:=[some ⟨41,6,false,[(unMach 300 m)],none⟩,some ⟨48,5,false,[(unRMach 300 m)],none⟩,some ⟨61,10,false,[[.q p.at_.x 300,.q p.at_.z 300,.q p.turn 300,.list 3 (p.joints.map (unQ 300))]],none⟩,some ⟨71,13,false,[[.rq p.at_.x p.at_.x.den 300,.rq p.at_.z p.at_.z.den 300,.rq p.turn p.turn.den 300,.list 4 (p.joints.map (unRQ 300))]],none⟩,some ⟨58,6,false,[[.q xs.pt.x 300,.q xs.pt.z 300]],none⟩,some ⟨68,8,false,[(unRP 300 xs.pt)],none⟩,some ⟨58,6,false,[[.q (worldV m p b xs.pt).x (4*SZ 300+300+300+8),.q (worldV m p b xs.pt).z (4*SZ 300+300+300+8)]],none⟩]) (ret10 (by kernel_rfl))
end Go.Av
namespace Go.Av
open Go.Proofs Go.RowKit Go.Proofs.YtbdhgnlabjmnoaaGreat
theorem cell_lt {w:World} {a:Addr} {v:Value} (h:w.cell? a=some v):a.block<w.heap.size:=by
 unfold World.cell? at h;rcases Nat.lt_or_ge a.block w.heap.size with h1 | h1
 · exact h1
 · rw[Array.getElem?_eq_none h1] at h;simp at h
section
variable {H:Type} (enc:TypeId×Value->H) (P:Program) (w:World) (base:Nat) (sp:Nat->Bool) (hd:Bool)
def Opn (t:TypeId) (R:List AV->Prop):Prop:=∀ fuel cs d ps,DataW.trod enc P w base sp hd fuel t cs=some (d,ps)->∃ ch,R ch/\RelCs ρ0 No w No ch cs
end
section
variable {H:Type} {enc:TypeId×Value->H} {P:Program} {w:World} {base:Nat} {sp:Nat->Bool} {hd:Bool}
theorem Opn.mono {t:TypeId} {R R':List AV->Prop} (h:Opn enc P w base sp hd t R) (hr:∀ ch,R ch->R' ch):Opn enc P w base sp hd t R':=fun fuel cs d ps h1=>by
 obtain⟨ch,g1,g2⟩:=h fuel cs d ps h1;exact⟨ch,hr _ g1,g2⟩
theorem opn_int {t:TypeId} {k:IntKind} (ht:P.underlying t=some (.int k)):Opn enc P w base sp hd t (fun ch=>∃ n,ch= [.int k n]/\(Lit.int k n).wf=true):=fun fuel cs d ps h1=>by
 obtain⟨n,rfl,_,hw⟩:=DataW.trod_int ht h1;exact⟨_,⟨n,rfl,hw⟩,.int .done⟩
def AllR:List (List AV->Prop)->List (List AV)->Prop
 | [],[]=>True
 | R::Rs,c::cs=>R c/\AllR Rs cs
 | _,_=>False
theorem opn_fields {n:Nat} {cs:List Value}:∀ (fl:List Field) (Rs:List (List AV->Prop)) (xl:List (DataW H×List MemPlace)) (off:Nat),Rs.length=fl.length->xl.length=fl.length->
   (∀ (i:Nat) (f:Field),fl[i]? =some f->f.offset=off+((fl.take i).map fun f=>P.cellsOf f.type).sum)->(cs.drop off).length=(fl.map fun f=>P.cellsOf f.type).sum->
   (∀ (i:Nat) (f:Field),fl[i]? =some f->DataW.trod enc P w base sp hd n f.type ((cs.drop f.offset).take (P.cellsOf f.type))=xl[i]?)->
   (∀ (i:Nat) (f:Field) (R:List AV->Prop),fl[i]? =some f->Rs[i]? =some R->Opn enc P w base sp hd f.type R)->∃ css,AllR Rs css/\RelCs ρ0 No w No css.flatten (cs.drop off)
 | [],[],[],off,_,_,_,hlen,_,_=>by
   refine⟨[],trivial, ?_⟩;simp only[List.map_nil,List.sum_nil] at hlen;rw[List.length_eq_zero_iff.1 hlen];exact .done
 | f ::fl,R::Rs,x::xl,off,h1,h2,hoff,hlen,ht,ho=>by
   have e0:f.offset=off:=by simpa using hoff 0 f rfl
   have t0:=ht 0 f rfl;rw[e0] at t0;simp only[List.getElem?_cons_zero] at t0;obtain⟨xd,xp⟩:=x;obtain⟨ch,g1,g2⟩:=ho 0 f R rfl rfl n _ xd xp t0;simp only[List.map_cons,List.sum_cons] at hlen
   obtain⟨css,k1,k2⟩:=opn_fields (n:=n) (cs:=cs) fl Rs xl (off+P.cellsOf f.type) (by simpa using h1) (by simpa using h2)
     (fun i f' hf=>by have:=hoff (i+1) f' (by simpa using hf);simp only[List.take_succ_cons,List.map_cons,List.sum_cons] at this;omega)
     (by simp only[List.length_drop] at hlen ⊢;omega) (fun i f' hf=>by simpa using ht (i+1) f' (by simpa using hf)) (fun i f' R' hf hR=>ho (i+1) f' R' (by simpa using hf) (by simpa using hR))
   refine⟨ch::css,⟨g1,k1⟩, ?_⟩;rw[List.flatten_cons]
   have:cs.drop off=(cs.drop off).take (P.cellsOf f.type)++cs.drop (off+P.cellsOf f.type):=by
     rw[<- List.drop_drop];exact(List.take_append_drop _ _).symm
   rw[this];exact g2.app k2
 | [],_::_,_,_,h1,_,_,_,_,_=>by simp at h1
 | _::_,[],_,_,h1,_,_,_,_,_=>by simp at h1
 | [],[],_::_,_,_,h2,_,_,_,_=>by simp at h2
 | _::_,_::_,[],_,_,h2,_,_,_,_=>by simp at h2
theorem opn_struct {T:TypeId->Prop} (K:Kids P T) {t:TypeId} (hT:T t) {fs:Array Field} (ht:P.underlying t=some (.struct fs)) {Rs:List (List AV->Prop)} (hl:Rs.length=fs.toList.length)
   (ho:∀ (i:Nat) (f:Field) (R:List AV->Prop),fs.toList[i]? =some f->Rs[i]? =some R->Opn enc P w base sp hd f.type R):
   Opn enc P w base sp hd t (fun ch=>∃ css,AllR Rs css/\ch=css.flatten):=fun fuel cs d ps h1=>by
 obtain⟨xs,n,_,he,hlen,hxl,hf⟩:=DataW.trod_struct ht h1;obtain⟨_,ksz,koff⟩:=K.struct hT ht;injection he with he1 he2;subst he1;obtain⟨css,g1,g2⟩:=opn_fields (enc:=enc) (P:=P) (w:=w) (base:=base) (sp:=sp) (hd:=hd) (n:=n) (cs:=cs) fs.toList Rs xs 0 hl (by simpa using hxl) (fun i f hf'=>by rw[koff i f hf'];omega) (by rw[List.drop_zero,hlen,ksz]) (fun i f hf'=>hf i f (by simpa using hf')) ho;exact⟨css.flatten,⟨css,g1,rfl⟩,by simpa using g2⟩
theorem opn_slice {t e:TypeId} (ht:P.underlying t=some (.slice e)) {R:List AV->Prop} (hz:0<P.cellsOf e) (ho:Opn enc P w base sp hd e R):
   Opn enc P w base sp hd t (fun ch=>∃ l:List (List AV),(∀ c∈l,R c)/\ch= [.list (P.cellsOf e) l]):=fun fuel cs d ps h1=>by
 rcases Deep.open_slice ht h1 with ⟨rfl,_⟩ | ⟨a,len,cap,m,n,D,Pl,rfl,hb,hl,hm,hmm,he,hx⟩
 · exact⟨[.list (P.cellsOf e) []],⟨[],by simp,rfl⟩,.list (xs:=[]) (fun _=>[]) (by simp) (by simp[big]) (by simp) (by simp) (by simp) .done⟩
 · injection he with he1 he2
   subst he1;have hlm:len<=m:=by rw[hmm];split <;> omega
   have key:∀ i,∃ c:List AV×List Value,i<len->R c.1/\RelCs ρ0 No w No c.1 c.2/\w.cells? base (a.add (i*P.cellsOf e)) (P.cellsOf e)=some c.2:=by
     intro i
     by_cases hi:i<len
     · obtain⟨cs',hc,ht'⟩:=hx i (by omega)
       obtain⟨ch,g1,g2⟩:=ho n cs' (D i) (Pl i) ht';exact⟨(ch,cs'),fun _=>⟨g1,g2,hc⟩⟩
     · exact⟨([],[]),fun h=>absurd h hi⟩
   let f:Nat->List AV×List Value:=fun i=>Classical.choose (key i)
   have hf:∀ i,i<len->R (f i).1/\RelCs ρ0 No w No (f i).1 (f i).2/\w.cells? base (a.add (i*P.cellsOf e)) (P.cellsOf e)=some (f i).2:=fun i=>Classical.choose_spec (key i)
   refine⟨[.list (P.cellsOf e) ((List.range len).map fun i=>(f i).1)],⟨(List.range len).map fun i=>(f i).1, ?_,rfl⟩, ?_⟩
   · intro c hc
     obtain⟨i,hi,rfl⟩:=List.mem_map.1 hc;exact(hf i (List.mem_range.1 hi)).1
   · have hcell:∀ i,i<len->(f i).2.length=P.cellsOf e/\∀ j v,(f i).2[j]? =some v->w.cell? ((a.add (i*P.cellsOf e)).add j)=some v:=by
       intro i hi;have h3:=(hf i hi).2.2;unfold World.cells? at h3
       split at h3
       · have hl3:=mapM_some_length h3
         refine⟨by simpa using hl3,fun j v hv=> ?_⟩
         have hj:j<P.cellsOf e:=by
           have:=(List.getElem?_eq_some_iff.1 hv).1;rw[show(f i).2.length=P.cellsOf e by simpa using hl3] at this;exact this
         have:=mapM_some_get h3 j j (by simp[hj]);rw[this];exact hv
       · cases h3
     have e1:len=((List.range len).map fun i=>(f i).1).length:=by simp
     have key2:RelCs ρ0 No w No [.list (P.cellsOf e) ((List.range len).map fun i=>(f i).1)] [.slice (some a) ((List.range len).map fun i=>(f i).1).length cap]:=by
       refine .list (fun i=>(f i).2) (by simpa using hl) (Nat.le_trans hm (by decide)) (fun i hi=>(hcell i (by simpa using hi)).1) (fun i el he=> ?_) (fun hp=> ?_) .done
       · rw[List.getElem?_map] at he
         have hi:i<len:=by
           rcases Nat.lt_or_ge i len with h | h
           · exact h
           · simp[h] at he
         rw[List.getElem?_range hi] at he;injection he with he;subst he;exact(hf i hi).2.1
       · have hp':0<len:=by simpa using hp
         refine⟨a,rfl, ?_,fun h=>h,fun i hi=>(hcell i (by simpa using hi)).2⟩;obtain⟨l0,c0⟩:=hcell 0 hp';have:∃ v,(f 0).2[0]? =some v:=⟨(f 0).2[0]'(by omega),by simp[l0,hz]⟩;obtain⟨v,hv⟩:=this;have h5:=c0 0 v hv;have hblk:=cell_lt h5;simpa[block_add] using hblk
     rw[<- e1] at key2;exact key2
end
def structTs (P:Program) (t:TypeId):Option (List TypeId):=match P.underlying t with
 | some (.struct fs)=>some (fs.toList.map (·.type))
 | _=>none
theorem kidsT:Kids Tryz.prog (· <Tryz.prog.types.size):=kids_rows (by kernel_rfl) (by kernel_rfl)
section
variable {H:Type} {enc:TypeId×Value->H} {w:World} {base:Nat} {sp:Nat->Bool} {hd:Bool}
abbrev OpnT (enc:TypeId×Value->H) (w:World) (base:Nat) (sp:Nat->Bool) (hd:Bool) (t:TypeId) (R:List AV->Prop):Prop:=Opn enc Tryz.prog w base sp hd t R
theorem opn_structT {t:TypeId} {ts:List TypeId} (hs:structTs Tryz.prog t=some ts) (hlt:Nat.ble (t+1) Tryz.prog.types.size=true) {Rs:List (List AV->Prop)} (hl:Rs.length=ts.length)
   (ho:∀ (i:Nat) (u:TypeId) (R:List AV->Prop),ts[i]? =some u->Rs[i]? =some R->OpnT enc w base sp hd u R):
   OpnT enc w base sp hd t (fun ch=>∃ css,AllR Rs css/\ch=css.flatten):=by
 unfold structTs at hs
 split at hs
 · rename_i fs ht
   injection hs with hs;subst hs;exact opn_struct kidsT (Nat.le_of_ble_eq_true hlt) ht (by simpa using hl) fun i f R hf hR=>ho i f.type R (by rw[List.getElem?_map,hf];rfl) hR
 · cases hs
theorem AllR.cons {R:List AV->Prop} {Rs:List (List AV->Prop)}:∀ {css:List (List AV)},AllR (R::Rs) css->∃ c cs,css=c::cs/\R c/\AllR Rs cs
 | [],h=>h.elim
 | c::cs,h=>⟨c,cs,rfl,h.1,h.2⟩
theorem AllR.nil:∀ {css:List (List AV)},AllR [] css->css= []
 | [],_=>rfl
 | _::_,h=>h.elim
theorem wf_i64 {n:Int} (h:(Lit.int .i64 n).wf=true):(-9223372036854775808:Int)<=n/\n<=(9223372036854775807:Int):=by
 simpa[Lit.wf,IntKind.min,IntKind.max,IntKind.signed,IntKind.bits] using h
theorem wf_u8 {n:Int} (h:(Lit.int .u8 n).wf=true):0<=n/\n<=255:=by
 simpa[Lit.wf,IntKind.min,IntKind.max,IntKind.signed,IntKind.bits] using h
abbrev isI (ch:List AV):Prop:=∃ n,ch= [.int .i64 n]/\(Lit.int .i64 n).wf=true
abbrev isB (ch:List AV):Prop:=∃ n,ch= [.int .u8 n]/\(Lit.int .u8 n).wf=true
abbrev isNum (ch:List AV):Prop:=∃ a:NumD,ch=unNum a/\a.ok
abbrev isSpot (ch:List AV):Prop:=∃ a:SpotD,ch=unSpot a/\a.ok
theorem opn2:OpnT enc w base sp hd 2 isI:=opn_int (by kernel_rfl)
theorem opn3:OpnT enc w base sp hd 3 isI:=opn_int (by kernel_rfl)
theorem opn5:OpnT enc w base sp hd 5 isB:=opn_int (by kernel_rfl)
theorem pick3 {A B C:List AV->Prop} {a b c:TypeId} (hA:OpnT enc w base sp hd a A) (hB:OpnT enc w base sp hd b B) (hC:OpnT enc w base sp hd c C):
   ∀ (i:Nat) (u:TypeId) (R:List AV->Prop),[a,b,c][i]? =some u-> [A,B,C][i]? =some R->OpnT enc w base sp hd u R
 | 0,u,R,h1,h2=>by simp at h1 h2;subst h1;subst h2;exact hA
 | 1,u,R,h1,h2=>by simp at h1 h2;subst h1;subst h2;exact hB
 | 2,u,R,h1,h2=>by simp at h1 h2;subst h1;subst h2;exact hC
 | i+3,u,R,h1,h2=>by simp at h1
theorem pickL {L:List (TypeId×(List AV->Prop))} (h:∀ p∈L,OpnT enc w base sp hd p.1 p.2):∀ (i:Nat) (u:TypeId) (R:List AV->Prop),(L.map (·.1))[i]? =some u->(L.map (·.2))[i]? =some R->OpnT enc w base sp hd u R:=by
 intro i u R h1 h2;rw[List.getElem?_map] at h1 h2;cases hp:L[i]? with
 | none=>rw[hp] at h1;cases h1
 | some p=>
   rw[hp] at h1 h2;simp at h1 h2;subst h1;subst h2;exact h p (List.mem_of_getElem? hp)
theorem opn29:OpnT enc w base sp hd 29 isNum:=by
 refine(opn_structT (ts:=[2,2,5]) (Rs:=[isI,isI,isB]) (by kernel_rfl) (by kernel_rfl) rfl (pick3 opn2 opn2 opn5)).mono ?_;rintro ch ⟨css,h,rfl⟩;obtain⟨_,css1,rfl,⟨n,rfl,h1⟩,kk1⟩:=h.cons;obtain⟨_,css2,rfl,⟨d,rfl,h2⟩,kk2⟩:=kk1.cons;obtain⟨_,css3,rfl,⟨p,rfl,h3⟩,kk3⟩:=kk2.cons;obtain rfl:=kk3.nil;exact⟨⟨n,d,p⟩,rfl,(wf_i64 h1).1,(wf_i64 h1).2,(wf_i64 h2).1,(wf_i64 h2).2,wf_u8 h3⟩
theorem opn31:OpnT enc w base sp hd 31 isSpot:=by
 refine(opn_structT (ts:=[29,29]) (Rs:=[isNum,isNum]) (by kernel_rfl) (by kernel_rfl) rfl (pickL (L:=[(29,isNum),(29,isNum)]) (by intro p hp;simp at hp;subst hp;exact opn29))).mono ?_;rintro ch ⟨css,h,rfl⟩;obtain⟨_,css1,rfl,⟨x,rfl,h1⟩,kk1⟩:=h.cons;obtain⟨_,css2,rfl,⟨z,rfl,h2⟩,kk2⟩:=kk1.cons;obtain rfl:=kk2.nil;exact⟨⟨x,z⟩,rfl,h1,h2⟩
theorem lst_of {α:Type} {un:α->List AV} {ok:α->Prop}:∀ (l:List (List AV)),(∀ c∈l,∃ a,c=un a/\ok a)->∃ xs:List α,l=xs.map un/\∀ a∈xs,ok a
 | [],_=>⟨[],rfl,by simp⟩
 | c::l,h=>by
   obtain⟨a,rfl,ha⟩:=h c (by simp);obtain⟨xs,rfl,hx⟩:=lst_of l fun c hc=>h c (by simp[hc])
   exact⟨a::xs,rfl,by simpa using ⟨ha,hx⟩⟩
theorem opn_list {t e:TypeId} {n:Nat} {α:Type} {un:α->List AV} {ok:α->Prop} (ht:Tryz.prog.underlying t=some (.slice e)) (hn:Tryz.prog.cellsOf e=n) (hz:0<n) (ho:OpnT enc w base sp hd e (fun ch=>∃ a,ch=un a/\ok a)):
   OpnT enc w base sp hd t (fun ch=>∃ xs:List α,ch= [.list n (xs.map un)]/\(∀ a∈xs,ok a)):=by
 refine(opn_slice ht (by rw[hn];exact hz) ho).mono ?_;rintro ch ⟨l,h1,rfl⟩;obtain⟨xs,rfl,hx⟩:=lst_of l h1;exact⟨xs,by rw[hn],hx⟩
abbrev isL {α:Type} (n:Nat) (un:α->List AV) (ok:α->Prop) (ch:List AV):Prop:=∃ xs:List α,ch= [.list n (xs.map un)]/\(∀ a∈xs,ok a)
abbrev isSpots (ch:List AV):Prop:=∃ xs:List SpotD,ch= [.list 6 (xs.map unSpot)]/\(∀ a∈xs,a.ok)
abbrev isNums (ch:List AV):Prop:=∃ xs:List NumD,ch= [.list 3 (xs.map unNum)]/\(∀ a∈xs,a.ok)
theorem opn137:OpnT enc w base sp hd 137 isSpots:=opn_list (by kernel_rfl) (by kernel_rfl) (by decide) opn31
theorem opn32:OpnT enc w base sp hd 32 isNums:=opn_list (by kernel_rfl) (by kernel_rfl) (by decide) opn29
theorem opn224:OpnT enc w base sp hd 224 (fun ch=>∃ a:LimbD,ch=unLimb a/\a.okw):=by
 refine(opn_structT (ts:=[3,31,31,29,29,29,29,137]) (Rs:=[isI,isSpot,isSpot,isNum,isNum,isNum,isNum,isSpots]) (by kernel_rfl) (by kernel_rfl) rfl
   (pickL (L:=[(3,isI),(31,isSpot),(31,isSpot),(29,isNum),(29,isNum),(29,isNum),(29,isNum),(137,isSpots)]) (by intro p hp;simp at hp;rcases hp with rfl | rfl | rfl | rfl <;> first | exact opn3 | exact opn31 | exact opn29 | exact opn137))).mono ?_
 rintro ch ⟨css,h,rfl⟩;obtain⟨_,css1,rfl,⟨a,rfl,_⟩,kk1⟩:=h.cons;obtain⟨_,css2,rfl,⟨b,rfl,h2⟩,kk2⟩:=kk1.cons;obtain⟨_,css3,rfl,⟨c,rfl,h3⟩,kk3⟩:=kk2.cons;obtain⟨_,css4,rfl,⟨d,rfl,h4⟩,kk4⟩:=kk3.cons;obtain⟨_,css5,rfl,⟨e,rfl,h5⟩,kk5⟩:=kk4.cons;obtain⟨_,css6,rfl,⟨f,rfl,h6⟩,kk6⟩:=kk5.cons;obtain⟨_,css7,rfl,⟨g,rfl,h7⟩,kk7⟩:=kk6.cons;obtain⟨_,css8,rfl,⟨l,rfl,h8⟩,kk8⟩:=kk7.cons;obtain rfl:=kk8.nil;exact⟨⟨a,b,c,d,e,f,g,l⟩,rfl,h2,h3,h4,h5,h6,h7,h8⟩
theorem opn227:OpnT enc w base sp hd 227 (fun ch=>∃ a:CordD,ch=unCord a/\a.ok):=by
 refine(opn_structT (ts:=[3,3,31,31,29]) (Rs:=[isI,isI,isSpot,isSpot,isNum]) (by kernel_rfl) (by kernel_rfl) rfl
   (pickL (L:=[(3,isI),(3,isI),(31,isSpot),(31,isSpot),(29,isNum)]) (by intro p hp;simp at hp;rcases hp with rfl | rfl | rfl <;> first | exact opn3 | exact opn31 | exact opn29))).mono ?_
 rintro ch ⟨css,h,rfl⟩;obtain⟨_,css1,rfl,⟨a,rfl,_⟩,kk1⟩:=h.cons;obtain⟨_,css2,rfl,⟨b,rfl,_⟩,kk2⟩:=kk1.cons;obtain⟨_,css3,rfl,⟨c,rfl,h3⟩,kk3⟩:=kk2.cons;obtain⟨_,css4,rfl,⟨d,rfl,h4⟩,kk4⟩:=kk3.cons;obtain⟨_,css5,rfl,⟨e,rfl,h5⟩,kk5⟩:=kk4.cons;obtain rfl:=kk5.nil;exact⟨⟨a,b,c,d,e⟩,rfl,h3,h4,h5⟩
theorem opn237:OpnT enc w base sp hd 237 (fun ch=>∃ a:DriveD,ch=unDrive a/\a.ok):=by
 refine(opn_structT (ts:=[3,29,29,29,29]) (Rs:=[isI,isNum,isNum,isNum,isNum]) (by kernel_rfl) (by kernel_rfl) rfl
   (pickL (L:=[(3,isI),(29,isNum),(29,isNum),(29,isNum),(29,isNum)]) (by intro p hp;simp at hp;rcases hp with rfl | rfl <;> first | exact opn3 | exact opn29))).mono ?_
 rintro ch ⟨css,h,rfl⟩;obtain⟨_,css1,rfl,⟨a,rfl,_⟩,kk1⟩:=h.cons;obtain⟨_,css2,rfl,⟨b,rfl,h2⟩,kk2⟩:=kk1.cons;obtain⟨_,css3,rfl,⟨c,rfl,h3⟩,kk3⟩:=kk2.cons;obtain⟨_,css4,rfl,⟨d,rfl,h4⟩,kk4⟩:=kk3.cons;obtain⟨_,css5,rfl,⟨e,rfl,h5⟩,kk5⟩:=kk4.cons;obtain rfl:=kk5.nil;exact⟨⟨a,b,c,d,e⟩,rfl,h2,h3,h4,h5⟩
theorem opn243:OpnT enc w base sp hd 243 (fun ch=>∃ a:SoleD,ch=unSole a/\a.okw):=by
 refine(opn_structT (ts:=[3,137,29]) (Rs:=[isI,isSpots,isNum]) (by kernel_rfl) (by kernel_rfl) rfl (pick3 opn3 opn137 opn29)).mono ?_;rintro ch ⟨css,h,rfl⟩;obtain⟨_,css1,rfl,⟨a,rfl,_⟩,kk1⟩:=h.cons;obtain⟨_,css2,rfl,⟨l,rfl,h2⟩,kk2⟩:=kk1.cons;obtain⟨_,css3,rfl,⟨c,rfl,h4⟩,kk3⟩:=kk2.cons;obtain rfl:=kk3.nil;exact⟨⟨a,l,c⟩,rfl,h2,h4⟩
theorem opn27:OpnT enc w base sp hd 27 (fun ch=>∃ r:RigD,ch=unRig r/\r.okw):=by
 have h22:OpnT enc w base sp hd 22 (isL 26 unLimb LimbD.okw):=opn_list (n:=26) (by kernel_rfl) (by kernel_rfl) (by decide) opn224;have h23:OpnT enc w base sp hd 23 (isL 17 unCord CordD.ok):=opn_list (n:=17) (by kernel_rfl) (by kernel_rfl) (by decide) opn227;have h24:OpnT enc w base sp hd 24 (isL 13 unDrive DriveD.ok):=opn_list (n:=13) (by kernel_rfl) (by kernel_rfl) (by decide) opn237;have h25:OpnT enc w base sp hd 25 (isL 5 unSole SoleD.okw):=opn_list (n:=5) (by kernel_rfl) (by kernel_rfl) (by decide) opn243;refine(opn_structT (ts:=[22,23,23,24,25]) (Rs:=[isL 26 unLimb LimbD.okw,isL 17 unCord CordD.ok,isL 17 unCord CordD.ok,isL 13 unDrive DriveD.ok,isL 5 unSole SoleD.okw]) (by kernel_rfl) (by kernel_rfl) rfl (pickL (L:=[(22,isL 26 unLimb LimbD.okw),(23,isL 17 unCord CordD.ok),(23,isL 17 unCord CordD.ok),(24,isL 13 unDrive DriveD.ok),(25,isL 5 unSole SoleD.okw)]) (by intro p hp;simp at hp;rcases hp with rfl | rfl | rfl | rfl <;> first | exact h22 | exact h23 | exact h24 | exact h25))).mono ?_;rintro ch ⟨css,h,rfl⟩;obtain⟨_,css1,rfl,⟨a,rfl,h1⟩,kk1⟩:=h.cons;obtain⟨_,css2,rfl,⟨b,rfl,h2⟩,kk2⟩:=kk1.cons;obtain⟨_,css3,rfl,⟨c,rfl,h3⟩,kk3⟩:=kk2.cons;obtain⟨_,css4,rfl,⟨d,rfl,h4⟩,kk4⟩:=kk3.cons;obtain⟨_,css5,rfl,⟨e,rfl,h5⟩,kk5⟩:=kk4.cons;obtain rfl:=kk5.nil;exact⟨⟨a,b,c,d,e⟩,rfl,h1,h2,h3,h4,h5⟩
theorem opn34:OpnT enc w base sp hd 34 (fun ch=>∃ s:StandD,ch=unStand s/\s.okw):=by
 refine(opn_structT (ts:=[31,29,32]) (Rs:=[isSpot,isNum,isNums]) (by kernel_rfl) (by kernel_rfl) rfl (pick3 opn31 opn29 opn32)).mono ?_;rintro ch ⟨css,h,rfl⟩;obtain⟨_,css1,rfl,⟨a,rfl,h1⟩,kk1⟩:=h.cons;obtain⟨_,css2,rfl,⟨b,rfl,h2⟩,kk2⟩:=kk1.cons;obtain⟨_,css3,rfl,⟨c,rfl,h3⟩,kk3⟩:=kk2.cons;obtain rfl:=kk3.nil;exact⟨⟨a,b,c⟩,rfl,h1,h2,h3⟩
theorem opn_arg {t:TypeId} {fs:Array Field} {R:List AV->Prop} {r:Reach} {b0:Nat} {v:Value} {d:DataW H} {ps:List MemPlace} (ho:OpnT enc w base sp hd t R) (ht:Tryz.prog.underlying t=some (.struct fs)) (hval:Value.okWide Tryz.prog w r b0 t v)
   (h:DataW.Trod enc Tryz.prog w base sp hd t v d ps):∃ ch,R ch/\RelV0 ρ0 No w No (.agg ch) v:=by
 obtain⟨n,hn⟩:=h;obtain⟨cs,rfl,_⟩:=WideShapes.okWide_struct ht hval;obtain⟨ch,g1,g2⟩:=ho n _ d ps hn;exact⟨ch,g1,cs.toList,by simp,by simpa[Value.cells] using g2⟩
end
end Go.Av
namespace Go.Proofs.YtbdhgnlabjmnoaaGreat.poseFrames
open Go.ChangeShapes Go.WideShapes Go.ChangeAt Go.RowKit Go.Av
theorem own:ownKnob Tryz.prog.godebug=none:=by kernel_rfl
theorem slices:∀ t e,t<Tryz.prog.types.size->Tryz.prog.underlying t=some (.slice e)->0<Tryz.prog.cellsOf e:=slices_full_of Tryz.prog (by kernel_rfl)
theorem params10:Tryz.f10.params= #[27,34,3,31]:=by kernel_rfl
theorem und4:Tryz.prog.underlying 4=some .bool:=by kernel_rfl
theorem und3:Tryz.prog.underlying 3=some (.int .i64):=by kernel_rfl
def isStruct (P:Program) (t:TypeId):Bool:=match P.underlying t with
 | some (.struct _)=>true
 | _=>false
theorem struct_of {P:Program} {t:TypeId} (h:isStruct P t=true):∃ fs,P.underlying t=some (.struct fs):=by
 unfold isStruct at h
 split at h
 · exact⟨_,by assumption⟩
 · cases h
theorem trodAll_up {H:Type} {enc:TypeId×Value->H} {P:Program} {W W':World} {base:Nat} {sp:Nat->Bool} {hd:Bool} (hB:Below W.heap.size W W'):∀ {ts:List TypeId} {vs:List Value} {ds:List (DataW H)} {ps:List MemPlace},
   DataW.TrodAll enc P W base sp hd ts vs ds ps->DataW.TrodAll enc P W' base sp hd ts vs ds ps
 | [],[],[],_,h=>h
 | _::_,_::_,_::_,_,⟨p,q,⟨n,h1⟩,h2,e⟩=>⟨p,q,⟨n,DataW.trod_carry n _ _ _ h1 fun p hp=>hB.same (DataW.trod_lt n _ _ _ h1 p hp)⟩,trodAll_up hB h2,e⟩
def wargs:Array Value:= #[.agg #[.slice none 0 0,.slice none 0 0,.slice none 0 0,.slice none 0 0,.slice none 0 0],.agg #[.int .i64 0,.int .i64 0,.int .u8 0,.int .i64 0,.int .i64 0,.int .u8 0,.int .i64 0,.int .i64 0,.int .u8 0,.slice none 0 0],.int .i64 0,.agg #[.int .i64 0,.int .i64 0,.int .u8 0,.int .i64 0,.int .i64 0,.int .u8 0]]
theorem contract (H:Type) (enc:TypeId×Value->H) (W:World) (base:Nat) (args:Array Value) (ds gs:List (DataW H)) (before:List MemPlace)
   (hval:∀ (j:Nat) t v,Tryz.f10.params[j]? =some t->args[j]? =some v->Value.okWide Tryz.prog W .any base t v)
   (hW:DataW.Whole enc Tryz.prog Tryz.f10.params.toList Rows.poseFramesSpec.vars false W args.toList ds gs before):
   Calls Tryz.prog 10 args W fun e W'=>∃ v,e= .returned v/\Rows.poseFramesSpec.post enc Tryz.prog Tryz.f10 false true false false W args v W':=by
 have hW':=hW;obtain⟨p,q,hA0,hV,rfl,hfz,hnd⟩:=hW;have hA:DataW.TrodAll enc Tryz.prog W 0 (fun _=>true) true Tryz.f10.params.toList args.toList ds p:=hA0;rw[params10] at hA hval;obtain⟨rfl,rfl⟩:=trodVars_none hV;have hAll:=hA;obtain⟨v0,vs0,d0,ds0,p0,q0,hargs,rfl,rfl,h0,r0⟩:=trodAll_cons hA;obtain⟨v1,vs1,d1,ds1,p1,q1,rfl,rfl,rfl,h1,r1⟩:=trodAll_cons r0;obtain⟨v2,vs2,d2,ds2,p2,q2,rfl,rfl,rfl,h2,r2⟩:=trodAll_cons r1;obtain⟨v3,vs3,d3,ds3,p3,q3,rfl,rfl,rfl,h3,r3⟩:=trodAll_cons r2;obtain⟨rfl,rfl,rfl⟩:=trodAll_nil r3;obtain rfl:args= #[v0,v1,v2,v3]:=by cases args;simp_all
 obtain⟨f27,t27⟩:=struct_of (P:=Tryz.prog) (t:=27) (by kernel_rfl);obtain⟨f34,t34⟩:=struct_of (P:=Tryz.prog) (t:=34) (by kernel_rfl);obtain⟨f31,t31⟩:=struct_of (P:=Tryz.prog) (t:=31) (by kernel_rfl);obtain⟨_,⟨r,rfl,hr⟩,g0⟩:=opn_arg opn27 t27 (hval 0 27 v0 rfl rfl) h0;obtain⟨_,⟨s,rfl,hs⟩,g1⟩:=opn_arg opn34 t34 (hval 1 34 v1 rfl rfl) h1;obtain⟨bd,rfl,rfl,rfl,w2⟩:=open_int und3 (hval 2 3 v2 rfl rfl) h2;obtain⟨_,⟨x,rfl,hx⟩,g3⟩:=opn_arg opn31 t31 (hval 3 31 v3 rfl rfl) h3;have hF:=(frames_true r s bd x hr hs hx).2 No W [v0,v1,.int .i64 bd,v3] (fun _ h=>h.elim) ⟨g0,g1,RelCs.int .done,g3,trivial⟩;refine hF.mono ?_;rintro e W' ⟨v,rfl,hv,hch⟩;have hvb:v= .bool true:=RelV.bool_inv hv;subst hvb;have hB:Below W.heap.size W W':=hch.below;have hlt:∀ t∈ [27,34,3,31],t<Tryz.prog.types.size:=fun t ht=>Nat.lt_of_lt_of_le (show t<300 by simp at ht;omega) (Nat.le_of_ble_eq_true (by kernel_rfl))
 have h6:=DataW.TrodAll.respare (spare':=fun b=>decide (b<W.heap.size)) kidsT slices hlt hAll (fun p hp=>by
   have:=hW'.lt p (by simpa using hp)
   simpa using this)
 have h7:DataW.TrodAll enc Tryz.prog W' 0 (fun b=>decide (b<W.heap.size)) true Tryz.f10.params.toList [v0,v1,.int .i64 bd,v3] [d0,d1,.lit (.int .i64 bd),d3] (p0++(p1++([]++(p3++ [])))):=by rw[params10];exact trodAll_up hB h6
 exact⟨_,rfl,_,_,_,[],_,[],hW',trodAll_cons_mk (shut_bool und4 _) trodAll_mk0,h7,rfl,hB.frame _,fun h=>by cases h⟩
section
variable (os:Os) {H:Type} (enc:TypeId×Value->H)
abbrev inp:Input:=⟨#[],wargs,[]⟩
theorem w1:(World.plainHolding Tryz.prog os inp).variablesB Tryz.prog=true:=by kernel_rfl
theorem w2:((World.plainHolding Tryz.prog os inp).heap.toList.drop Tryz.prog.globals.size).take ((begin Tryz.prog (fun _ _=>0) default).world.heap.size-Tryz.prog.globals.size)=
     (begin Tryz.prog (fun _ _=>0) default).world.heap.toList.drop Tryz.prog.globals.size:=by kernel_rfl
theorem w3:Input.okWideB Tryz.prog (World.plainHolding Tryz.prog os inp) 10 ⟨#[],wargs,[]⟩=true:=by kernel_rfl
theorem w4:Rows.poseFramesSpec.preB enc Tryz.prog Tryz.f10 Rows.poseFramesRow.domain false (World.plainHolding Tryz.prog os inp).memory wargs 8=true:=by kernel_rfl
end
theorem w6:Tryz.prog.inits.idxOf? 10=none:=by kernel_rfl
theorem func10:Tryz.prog.funcs[10]? =some Tryz.f10:=by kernel_rfl
theorem w7 (os:Os) {H:Type} (enc:TypeId×Value->H):Rows.poseFramesSpec.sizedB enc Tryz.prog Tryz.f10 false (World.plainHolding Tryz.prog os inp).memory wargs 8=true:=by kernel_rfl
theorem lifted (os:Os) (started:os.Started) (H:Type) (enc:TypeId×Value->H):
   ReturnsInHanded {} Tryz.checked os 10 .any (Rows.poseFramesSpec.pre6 enc Tryz.prog Tryz.f10 Rows.poseFramesRow.domain false) (Rows.poseFramesSpec.post enc Tryz.prog Tryz.f10 false true false false):=by
 refine returnsInHanded_of_change own started w6 (fn:=Tryz.f10) func10 (ChangeSpec.witness6 (enc:=enc) (C:=Tryz.checked) (s:=Rows.poseFramesSpec) false inp 8 (w1 os) (w2 os) (w3 os) (w4 os enc) (w7 os enc)) ?_;intro W base args ds gs before hval hW _ _;exact contract H enc W base args ds gs before hval hW
theorem c1:Tryz.checked.prog.funcNamed "amble/amblelaw04.PoseFrames" =some 10:=by kernel_rfl
theorem c3:Tryz.f10.isInstance Tryz.checked.prog Rows.poseFramesRow.origin Rows.poseFramesRow.targs:=of_decide_eq_true (by kernel_rfl)
theorem c4:Tryz.f10.isWrapper Tryz.checked.prog Rows.poseFramesRow.wrapper Rows.poseFramesRow.mainSum:=by
 unfold Func.isWrapper;first | (rw[if_pos (by decide+kernel)];kernel_rfl) | (rw[if_neg (by decide+kernel)];exact⟨rfl,rfl⟩)
theorem proved:Rows.PoseFramesSaid:=
 OpenClaim.holds_of_wide 10 Tryz.f10 rfl rfl rfl rfl rfl rfl rfl ⟨rfl,rfl,rfl,rfl,rfl⟩ rfl rfl rfl rfl rfl c1 func10 facts c3 c4
   (fun os started H enc _=>lifted os started H enc)
end Go.Proofs.YtbdhgnlabjmnoaaGreat.poseFrames
