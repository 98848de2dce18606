/- PoseJacobians: the given statement holds. No condition. -/
import Derived.Test.YtbdhgnlabjmnoaaGreatK4
import Derived.Test.YtbdhgnlabjmnoaaGreatKF
import Derived.Test.YtbdhgnlabjmnoaaGreatRows
import Derived.WalkKit
import Derived.ProofKit
import Derived.OpenShut
import Derived.JoinedCond
import Derived.Deep.Slices
import Derived.ReadAgain
import Derived.ChangeReads
import Derived.ChangeOld
set_option linter.all false
set_option maxRecDepth 100000
set_option autoImplicit true
set_option relaxedAutoImplicit true
namespace Go.Av
open Go.Proofs Go.RowKit
structure BendD where
 a:Sd
 b:Sd
 w:Bool
 deriving Inhabited
def eB (S1 S2 S3 T:Nat) (y:BendD):List AV:=[.q y.a.a S1,.q y.a.b S2,.q y.a.d S3,.q y.b.a T,.q y.b.b T,.q y.b.d T,.bool y.w]
def ID (v x:PtD) (t:Sd):Vc:=AQ ⟨⟨v.x,0⟩,⟨v.z,0⟩⟩ (fY t.d ⟨⟨x.x,0⟩,⟨x.z,0⟩⟩ ⟨t.a,t.b⟩)
def IE (w:Vc) (d:PtD) (f:Rat) (t:Sd):Nm:=Ce ⟨f,0⟩ (Ce (dY t.d w.x ⟨d.x,0⟩) (dY t.d w.z ⟨d.z,0⟩))
def IF (d:Rat) (b:Nm):Prop:=(if Int.sign d.num<0 then 0 else gH b.a b.b d)=0
instance (d:Rat) (b:Nm):Decidable (IF d b):=by unfold IF;infer_instance
def Sr (d:Rat) (y:Nm):Sd:=if Int.sign d.num<0 then (⟨0,0,0⟩:Sd) else jK ⟨y.a,y.b,d⟩
def NK (w:Vc) (b:Nm) (d:PtD) (t:Sd):Sd:=Sr t.d (xR t.d (NE (dY t.d w.x ⟨d.z,0⟩) (dY t.d w.z ⟨d.x,0⟩)) b)
def LS (u v:BodyD) (w:Vc) (b:Nm) (d:PtD) (t:Sd):Option BendD:=
 if IF t.d b then none else some ⟨NK w b d t,t,bA u.low u.high (NK w b d t)&&bA v.low v.high t⟩
def kW (a b:PtD):Rat:=a.x*b.x+a.z*b.z
def AR (a b:PtD):Rat:=a.x*b.z-a.z*b.x
def gI (u v:BodyD) (x d:PtD) (t:Sd):Option BendD:=LS u v (ID v.at_ x t) (IE (ID v.at_ x t) d (kW d d) t) d t
def SW (v x d:PtD):Rat:=(kW d d-kW v v-kW x x)*((Int.cast 1:Rat)/(Int.cast 2:Rat))
def cU (v x d:PtD):List Sd:=dV (SW v x d+kW v x) (AR v x+AR v x) (SW v x d-kW v x)
def AS (v x d:PtD):Int:=if SW v x d+kW v x=0/\AR v x+AR v x=0/\SW v x d-kW v x=0 then 10 else 0
def kT (u v:BodyD) (x d:PtD):List BendD×Bool:=
 if AS v.at_ x d=10 then ([],decide (kW x x=0/\0<kW v.at_ v.at_/\kW d d+kW v.at_ d=0))
 else if cU v.at_ x d≠ []/\kW d d=0 then ([],false)
 else ((cU v.at_ x d).filterMap (gI u v x d),true)
theorem De (a b c:Rat):(dV a b c).length<=2:=by
 unfold dV;split
 · split <;> simp
 · split
   · simp
   · split <;> simp
theorem yH {α β:Type} (f:α->Option β) (l:List α):(l.filterMap f).length<=l.length:=by
 induction l with
 | nil=>simp
 | cons a l ih=>
   rw[List.filterMap_cons]
   split <;> simp <;> omega
theorem xT {α β:Type} [Inhabited α] (f:α->Option β) {l:List α} {i:Nat} (h:i<l.length):(l.take (i+1)).filterMap f=(l.take i).filterMap f++(f (l.getD i default)).toList:=by
 have e:l.take (i+1)=l.take i++ [l.getD i default]:=by
   rw[List.take_add_one,List.getElem?_eq_getElem h];simp[mQ,h]
 rw[e,List.filterMap_append];generalize l.getD i default=y;cases hf:f y <;> simp[List.filterMap_cons,hf]
noncomputable abbrev AT:List Item:=[.code (aN [1,1,1,1,1,1,1,1,0,1,0,0] (aA Tryz.f122)),.inLoop (aN [1,1,1,1,1,1,1,1,0,1,0,0] (aA Tryz.f122)),.inBlock 0,.code (aN [1,1,1,1,1,1,1,1,1] (aA Tryz.f122))]
section
variable {S:Nat->Prop} {w0:World} {h:FrameD} {u v:BodyD} {us vs:List (List AV)} {x d:PtD} {H1 H2 H3 H4 B C X Z:Nat} {L:List Sd} {T FA W BE S1 S2 S3:Nat} {f:Rat}
abbrev IG (h:FrameD) (u v:BodyD) (us vs:List (List AV)) (x d:PtD) (H1 H2 H3 H4 B C X Z:Nat) (L:List Sd) (T FA:Nat) (f:Rat) (i:Nat) (o:AV):List AV:=slots 171 [(2,.cptr [.q h.at_.x H1,.q h.at_.z H2,.q h.c H3,.q h.s H4,.str u.name,.i6 u.par,.q u.at_.x 300,.q u.at_.z 300,.q u.ma 300,.q u.inr 300,.q u.c.x 300,.q u.c.z 300,.q u.low 300,.q u.high 300,.list 6 us,.str v.name,.i6 v.par,.q v.at_.x 300,.q v.at_.z 300,.q v.ma 300,.q v.inr 300,.q v.c.x 300,.q v.c.z 300,.q v.low 300,.q v.high 300,.list 6 vs,.q x.x B,.q x.z C] 0),(3,.cptr [.q d.x X,.q d.z Z] 0),(6,.cptr [.q v.at_.x 300,.q v.at_.z 300] 0),(7,.cptr [.q x.x B,.q x.z C] 0),(8,.cptr [.q f FA] 0),(15,o),(85,.list 9 (L.map (fP T))),(86,.i6 ((L.length:Nat):Int)),(87,.i6 ((i:Nat):Int))]
abbrev IH (S1 S2 S3 T:Nat) (A:List BendD):AV:=.tup [.list 19 (A.map (eB S1 S2 S3 T)),.bool true]
def nC (A:List BendD):AV:=if A= [] then .nil else .own 0 19 0 A.length
def sC (S1 S2 S3 T:Nat) (A:List BendD):List (Option ABlk):=if A= [] then [] else [some ⟨110,19,true,A.map (eB S1 S2 S3 T),none⟩]
theorem II (A:List BendD) (i:Nat) (hi:i=L.length):GF 122 S w0 (IH S1 S2 S3 T A) AT ⟨IG h u v us vs x d H1 H2 H3 H4 B C X Z L T FA f i (nC A),sC S1 S2 S3 T A⟩:=by
 have hn:¬ (((i:Nat):Int)<((L.length:Nat):Int)):=by omega
 by_cases hA:A= []
 · subst hA
   refine rF eK [(88,ff)] (.a1 (iF hn)) (V:=.tup [.nil,.bool true]) (Ref.tup2 Ref.nilL rr rfl rfl rfl rfl)
 · have e1:nC A= .own 0 19 0 A.length:=if_neg hA
   have e2:sC S1 S2 S3 T A= [some ⟨110,19,true,A.map (eB S1 S2 S3 T),none⟩]:=if_neg hA;rw[e1,e2];refine gN eK [4,5] [(88,ff)] (.a1 (iF hn)) (t:=[.code .ret]) (σ:=slots 171 [(4,.own 0 19 0 A.length),(5,.bool true)]) (h:=[some ⟨110,19,true,(A.map (eB S1 S2 S3 T)),none⟩]) ?_
   refine Good.freezeD (b:=⟨110,19,true,A.map (eB S1 S2 S3 T),none⟩) 0 (by rfl) (by rfl) (.oe (.a1 (show 0+A.length<=(A.map (eB S1 S2 S3 T)).length by simp))) .on ?_;exact gE [.list 19 (((A.map (eB S1 S2 S3 T)).drop 0).take A.length),.bool true] (Ref.eq (by rw[List.drop_zero,fQ (by simp)];rfl))
abbrev lG (h:FrameD) (H1:Nat) (H2:Nat) (H3:Nat) (H4:Nat) (u:BodyD) (us:List (List AV)) (v:BodyD) (vs:List (List AV)) (x:PtD) (B:Nat) (C:Nat):List AV:=[.q h.at_.x H1,.q h.at_.z H2,.q h.c H3,.q h.s H4,.str u.name,.i6 u.par,.q u.at_.x 300,.q u.at_.z 300,.q u.ma 300,.q u.inr 300,.q u.c.x 300,.q u.c.z 300,.q u.low 300,.q u.high 300,.list 6 us,.str v.name,.i6 v.par,.q v.at_.x 300,.q v.at_.z 300,.q v.ma 300,.q v.inr 300,.q v.c.x 300,.q v.c.z 300,.q v.low 300,.q v.high 300,.list 6 vs,.q x.x B,.q x.z C]
abbrev qJ (w:Vc) (W:Nat):List AV:=[.q w.x.a W,.q w.x.b W,.q w.z.a W,.q w.z.b W]
abbrev AU (u:BodyD) (s:Sd) (v:BodyD) (t:Sd):AV:=(.bool (bA u.low u.high ⟨s.a,s.b,s.d⟩&&bA v.low v.high ⟨t.a,t.b,t.d⟩))
abbrev IJ (A:List BendD) (S1:Nat) (S2:Nat) (S3:Nat) (T:Nat) (s:Sd) (t:Sd) (u:BodyD) (v:BodyD):ABlk:=⟨110,19,true,((A.map (eB S1 S2 S3 T))++ [[(AV.q s.a S1),(AV.q s.b S2),(AV.q s.d S3),(AV.q t.a T),(AV.q t.b T),(AV.q t.d T),(AV.bool (bA u.low u.high ⟨s.a,s.b,s.d⟩&&bA v.low v.high ⟨t.a,t.b,t.d⟩))]]),none⟩
abbrev AW (u:BodyD) (s:Sd):AV:=(.bool (bA u.low u.high ⟨s.a,s.b,s.d⟩))
set_option maxHeartbeats 2000000 in
theorem Lj (hf:¬ Int.sign f.num=0) (hfar:f=kW d d) (hLen:L.length<=2) (hFA:FA=2*X+2*Z+6) (hW:W=170*T+B+C+1804) (hBE:BE=FA+4*W+X+Z+2*T+24) (hS1:S1=2*(2*(4*W+X+Z+2*T+18)+6*BE+2*T+18)+T+5) (hS2:S2=(2*(4*W+X+Z+2*T+18)+6*BE+2*T+18)+T+3) (hS3:S3=2*T+3)
   (hL:8*S1+8*S2+4*S3+400*T+20000<=LIM):∀ (j i:Nat),i+j=L.length->∀ A:List BendD,A=(L.take i).filterMap (gI u v x d)->
   GF 122 S w0 (IH S1 S2 S3 T (L.filterMap (gI u v x d))) AT ⟨IG h u v us vs x d H1 H2 H3 H4 B C X Z L T FA f i (nC A),sC S1 S2 S3 T A⟩:=by
 intro j
 induction j with
 | zero=>
   intro i hij A hA;have hi:i=L.length:=by omega
   have:A=L.filterMap (gI u v x d):=by rw[hA,hi,fQ (rl _)]
   rw[<- this];exact II A i hi
 | succ j ih =>
   intro i hij A hA;have hi:((i:Nat):Int)<((L.length:Nat):Int):=by omega
   have ih:=fun i (h:i+j=L.length)=>ih i h
   obtain⟨t,ht⟩:∃ t,t=L.getD i default:=⟨_,rfl⟩;obtain⟨w,hw⟩:∃ w,w=ID v.at_ x t:=⟨_,rfl⟩;obtain⟨b,hb⟩:∃ b,b=IE w d f t:=⟨_,rfl⟩;obtain⟨s,hs⟩:∃ s,s=NK w b d t:=⟨_,rfl⟩
   have hcm:Ref (.cptr ((L.map (fP T)).getD i []) 0) (.cptr (fP T t) 0):=by
     rw[ht];exact Ref.cmap (f:=fP T) (by omega)
   have hnx:=xT (gI u v x d) (l:=L) (i:=i) (by omega);rw[<- ht] at hnx;have hbo:gI u v x d t=LS u v w b d t:=by rw[hb,hw,hfar];rfl
   have hno:((if Int.sign t.d.num<0 then 0 else gH b.a b.b t.d)=0)->gI u v x d t=none:=fun h=>by rw[hbo];exact if_pos h
   have hso:(¬ (if Int.sign t.d.num<0 then 0 else gH b.a b.b t.d)=0)->gI u v x d t=some ⟨s,t,bA u.low u.high s&&bA v.low v.high t⟩:=fun h=>by rw[hbo,hs];exact if_neg h
   have hAl:A.length<=2:=by
     rw[hA]
     have:=yH (gI u v x d) (L.take i);have:(L.take i).length<=L.length:=by simp;omega
     omega
   have v0:Ref (.agg [.q ((AQ ⟨⟨v.at_.x,0⟩,⟨v.at_.z,0⟩⟩ ⟨⟨((fY t.d ⟨⟨x.x,0⟩,⟨x.z,0⟩⟩ ⟨t.a,t.b⟩).x.a),((fY t.d ⟨⟨x.x,0⟩,⟨x.z,0⟩⟩ ⟨t.a,t.b⟩).x.b)⟩,⟨((fY t.d ⟨⟨x.x,0⟩,⟨x.z,0⟩⟩ ⟨t.a,t.b⟩).z.a),((fY t.d ⟨⟨x.x,0⟩,⟨x.z,0⟩⟩ ⟨t.a,t.b⟩).z.b)⟩⟩).x.a) (300+(64*T+64*T+42*T+B+0+C+0+1500)+2),.q ((AQ ⟨⟨v.at_.x,0⟩,⟨v.at_.z,0⟩⟩ ⟨⟨((fY t.d ⟨⟨x.x,0⟩,⟨x.z,0⟩⟩ ⟨t.a,t.b⟩).x.a),((fY t.d ⟨⟨x.x,0⟩,⟨x.z,0⟩⟩ ⟨t.a,t.b⟩).x.b)⟩,⟨((fY t.d ⟨⟨x.x,0⟩,⟨x.z,0⟩⟩ ⟨t.a,t.b⟩).z.a),((fY t.d ⟨⟨x.x,0⟩,⟨x.z,0⟩⟩ ⟨t.a,t.b⟩).z.b)⟩⟩).x.b) (0+(64*T+64*T+42*T+B+0+C+0+1500)+2),.q ((AQ ⟨⟨v.at_.x,0⟩,⟨v.at_.z,0⟩⟩ ⟨⟨((fY t.d ⟨⟨x.x,0⟩,⟨x.z,0⟩⟩ ⟨t.a,t.b⟩).x.a),((fY t.d ⟨⟨x.x,0⟩,⟨x.z,0⟩⟩ ⟨t.a,t.b⟩).x.b)⟩,⟨((fY t.d ⟨⟨x.x,0⟩,⟨x.z,0⟩⟩ ⟨t.a,t.b⟩).z.a),((fY t.d ⟨⟨x.x,0⟩,⟨x.z,0⟩⟩ ⟨t.a,t.b⟩).z.b)⟩⟩).z.a) (300+(64*T+64*T+42*T+B+0+C+0+1500)+2),.q ((AQ ⟨⟨v.at_.x,0⟩,⟨v.at_.z,0⟩⟩ ⟨⟨((fY t.d ⟨⟨x.x,0⟩,⟨x.z,0⟩⟩ ⟨t.a,t.b⟩).x.a),((fY t.d ⟨⟨x.x,0⟩,⟨x.z,0⟩⟩ ⟨t.a,t.b⟩).x.b)⟩,⟨((fY t.d ⟨⟨x.x,0⟩,⟨x.z,0⟩⟩ ⟨t.a,t.b⟩).z.a),((fY t.d ⟨⟨x.x,0⟩,⟨x.z,0⟩⟩ ⟨t.a,t.b⟩).z.b)⟩⟩).z.b) (0+(64*T+64*T+42*T+B+0+C+0+1500)+2)]) (.agg (qJ w W)):=by rw[hw];exact Ref.agg (RefC.cons qe (RefC.cons qe (RefC.cons qe qe)))
   have v1:Ref (.agg [.q (((if Int.sign t.d.num<0 then (⟨0,0,0⟩:Sd) else jK ⟨((xR t.d ⟨(((dY t.d ⟨w.x.a,w.x.b⟩ ⟨d.z,0⟩).a)-((dY t.d ⟨w.z.a,w.z.b⟩ ⟨d.x,0⟩).a)),(((dY t.d ⟨w.x.a,w.x.b⟩ ⟨d.z,0⟩).b)-((dY t.d ⟨w.z.a,w.z.b⟩ ⟨d.x,0⟩).b))⟩ ⟨b.a,b.b⟩).a),((xR t.d ⟨(((dY t.d ⟨w.x.a,w.x.b⟩ ⟨d.z,0⟩).a)-((dY t.d ⟨w.z.a,w.z.b⟩ ⟨d.x,0⟩).a)),(((dY t.d ⟨w.x.a,w.x.b⟩ ⟨d.z,0⟩).b)-((dY t.d ⟨w.z.a,w.z.b⟩ ⟨d.x,0⟩).b))⟩ ⟨b.a,b.b⟩).b),t.d⟩)).a) ((((W+W+Z+0+T+8)+(W+W+X+0+T+8)+2)+((W+W+Z+0+T+8)+(W+W+X+0+T+8)+2)+3*BE+3*BE+2*T+18)+(((W+W+Z+0+T+8)+(W+W+X+0+T+8)+2)+((W+W+Z+0+T+8)+(W+W+X+0+T+8)+2)+3*BE+3*BE+2*T+18)+T+5),.q (((if Int.sign t.d.num<0 then (⟨0,0,0⟩:Sd) else jK ⟨((xR t.d ⟨(((dY t.d ⟨w.x.a,w.x.b⟩ ⟨d.z,0⟩).a)-((dY t.d ⟨w.z.a,w.z.b⟩ ⟨d.x,0⟩).a)),(((dY t.d ⟨w.x.a,w.x.b⟩ ⟨d.z,0⟩).b)-((dY t.d ⟨w.z.a,w.z.b⟩ ⟨d.x,0⟩).b))⟩ ⟨b.a,b.b⟩).a),((xR t.d ⟨(((dY t.d ⟨w.x.a,w.x.b⟩ ⟨d.z,0⟩).a)-((dY t.d ⟨w.z.a,w.z.b⟩ ⟨d.x,0⟩).a)),(((dY t.d ⟨w.x.a,w.x.b⟩ ⟨d.z,0⟩).b)-((dY t.d ⟨w.z.a,w.z.b⟩ ⟨d.x,0⟩).b))⟩ ⟨b.a,b.b⟩).b),t.d⟩)).b) ((((W+W+Z+0+T+8)+(W+W+X+0+T+8)+2)+((W+W+Z+0+T+8)+(W+W+X+0+T+8)+2)+3*BE+3*BE+2*T+18)+T+3),.q (((if Int.sign t.d.num<0 then (⟨0,0,0⟩:Sd) else jK ⟨((xR t.d ⟨(((dY t.d ⟨w.x.a,w.x.b⟩ ⟨d.z,0⟩).a)-((dY t.d ⟨w.z.a,w.z.b⟩ ⟨d.x,0⟩).a)),(((dY t.d ⟨w.x.a,w.x.b⟩ ⟨d.z,0⟩).b)-((dY t.d ⟨w.z.a,w.z.b⟩ ⟨d.x,0⟩).b))⟩ ⟨b.a,b.b⟩).a),((xR t.d ⟨(((dY t.d ⟨w.x.a,w.x.b⟩ ⟨d.z,0⟩).a)-((dY t.d ⟨w.z.a,w.z.b⟩ ⟨d.x,0⟩).a)),(((dY t.d ⟨w.x.a,w.x.b⟩ ⟨d.z,0⟩).b)-((dY t.d ⟨w.z.a,w.z.b⟩ ⟨d.x,0⟩).b))⟩ ⟨b.a,b.b⟩).b),t.d⟩)).d) (2*T+3)]) (.agg [.q s.a S1,.q s.b S2,.q s.d S3]):=by rw[hs];exact Ref.agg (RefC.cons qe (RefC.cons qe qe))
   have v2:Ref (.agg [.q (f+(((dY t.d ⟨w.x.a,w.x.b⟩ ⟨d.x,0⟩).a)+((dY t.d ⟨w.z.a,w.z.b⟩ ⟨d.z,0⟩).a))) (FA+((W+W+X+0+T+8)+(W+W+Z+0+T+8)+2)+2),.q (0+(((dY t.d ⟨w.x.a,w.x.b⟩ ⟨d.x,0⟩).b)+((dY t.d ⟨w.z.a,w.z.b⟩ ⟨d.z,0⟩).b))) (0+((W+W+X+0+T+8)+(W+W+Z+0+T+8)+2)+2)]) (.agg [.q b.a BE,.q b.b BE]):=by rw[hb];exact Ref.agg (RefC.cons qe qe)
   have v3:300+0+300+0+(64*T+64*T+42*T+B+0+C+0+1500)+(64*T+64*T+42*T+B+0+C+0+1500)+(64*T+64*T+42*T+B+0+C+0+1500)+(64*T+64*T+42*T+B+0+C+0+1500)+T+600<=LIM:=by omega
   have v4:(((W+W+Z+0+T+8)+(W+W+X+0+T+8)+2)+((W+W+Z+0+T+8)+(W+W+X+0+T+8)+2)+3*BE+3*BE+2*T+18)+(((W+W+Z+0+T+8)+(W+W+X+0+T+8)+2)+((W+W+Z+0+T+8)+(W+W+X+0+T+8)+2)+3*BE+3*BE+2*T+18)+3*T+600<=LIM:=by omega
   have v5:FA+0+((W+W+X+0+T+8)+(W+W+Z+0+T+8)+2)+((W+W+X+0+T+8)+(W+W+Z+0+T+8)+2)+T+400<=LIM:=by omega
   have v6:(W+W+X+0+T+8)+(W+W+X+0+T+8)+(W+W+Z+0+T+8)+(W+W+Z+0+T+8)+T+400<=LIM:=by omega
   have v7:((W+W+Z+0+T+8)+(W+W+X+0+T+8)+2)+((W+W+Z+0+T+8)+(W+W+X+0+T+8)+2)+3*BE+3*BE+2*T+400<=LIM:=by omega
   have v8:128*T+128*T+90*T+2*B+2*0+2*C+2*0+8000<=LIM:=by omega
   have v9:(W+W+Z+0+T+8)+(W+W+Z+0+T+8)+(W+W+X+0+T+8)+(W+W+X+0+T+8)+T+400<=LIM:=by omega
   have v10:(i:Int)<((L.map (fP T)).length:Int):=by rw[bH];omega
   have v11:W+W+X+0+T+400<=LIM:=by omega
   have v12:W+W+Z+0+T+400<=LIM:=by omega
   have v13:2*BE+2*BE+T+600<=LIM:=by omega
   have v14:8*S1+8*300+8*300+8*S2+4*S3+2000<=LIM:=by omega
   have v15:8*T+8*300+8*300+8*T+4*T+2000<=LIM:=by omega
   by_cases hA0:A= []
   · subst hA0
     show Good Tryz.prog 122 S No w0 _ AT ⟨IG h u v us vs x d H1 H2 H3 H4 B C X Z L T FA f i .nil,[]⟩
     by_cases c1:((i:Nat):Int)<((L.length:Nat):Int)
     · by_cases c2:(Int.sign f.num)=(0:Int)
       · exact absurd c2 hf
       · by_cases c3:(if Int.sign t.d.num<0 then 0 else gH b.a b.b t.d)=0
         · exact gR eK none [2,3,4,5,6,7,8,15,85,86,87] [] [(88,tt),(89,.cptr (fP T t) 0),(93,ff),(110,.agg (qJ w W)),(130,.agg [.q b.a BE,.q b.b BE]),(133,tt),(169,.i6 ((i+1:Nat):Int))] (.c6 (iT c1) hcm (nn i) v10 (iF c2) v8 (.c6 v0 v3 v11 v12 v6 v2 (.a4 v5 (iT c3) v13 (wI ((i:Int)+(1:Int)) ((i+1:Nat):Int) (by first | omega | decide | (unfold big;omega)))))) (ih (i+1) (by omega) [] (by rw[hnx,hno c3, <- hA];rfl))
         · rcases Bool.eq_false_or_eq_true (bA u.low u.high ⟨s.a,s.b,s.d⟩) with c4 | c4
           · refine gR eK none [2,3,4,5,6,7,8,15,85,86,87] [26] [(88,tt),(89,.cptr (fP T t) 0),(93,ff),(110,.agg (qJ w W)),(130,.agg [.q b.a BE,.q b.b BE]),(133,ff),(152,.agg [.q s.a S1,.q s.b S2,.q s.d S3]),(160,tt),(165,.bool (bA u.low u.high ⟨s.a,s.b,s.d⟩&&bA v.low v.high ⟨t.a,t.b,t.d⟩)),(169,.i6 ((i+1:Nat):Int))] (.c6 (iT c1) hcm (nn i) v10 (iF c2) v8 (.c6 v0 v3 v11 v12 v6 v2 (.c6 v5 (iF c3) v13 v12 v11 v9 (.c6 v7 v1 v4 v14 (show Ref (AW u s) (.bool true) from Ref.bool c4) v15 (.a6 (show Ref (.bool (bA v.low v.high ⟨t.a,t.b,t.d⟩)) (AU u s v t) from Ref.bool (by rw[c4];simp)) r1 (dc (0<1)) (om (1*344<=140737488355328)) (dc (1<=big)) (wI ((i:Int)+(1:Int)) ((i+1:Nat):Int) (by first | omega | decide | (unfold big;omega)))))))) (t:=AT) (σ:=slots 171 [(2,.cptr (lG h H1 H2 H3 H4 u us v vs x B C) 0),(3,.cptr [.q d.x X,.q d.z Z] 0),(6,.cptr [.q v.at_.x 300,.q v.at_.z 300] 0),(7,.cptr [.q x.x B,.q x.z C] 0),(8,.cptr [.q f FA] 0),(15,.own 0 19 0 1),(85,.list 9 (L.map (fP T))),(86,.i6 (L.length:Int)),(87,.i6 ((i+1:Nat):Int))]) (h:=[some ⟨110,19,true,[[.q s.a S1,.q s.b S2,.q s.d S3,.q t.a T,.q t.b T,.q t.d T,.bool (bA u.low u.high ⟨s.a,s.b,s.d⟩&&bA v.low v.high ⟨t.a,t.b,t.d⟩)]],none⟩]) ?_
             have hA2:([]:List BendD)++ [⟨s,t,bA u.low u.high s&&bA v.low v.high t⟩]=(L.take (i+1)).filterMap (gI u v x d):=by rw[hnx,hso c3, <- hA];rfl
             have:=ih (i+1) (by omega) _ hA2;exact this
           · refine gR eK none [2,3,4,5,6,7,8,15,85,86,87] [26] [(88,tt),(89,.cptr (fP T t) 0),(93,ff),(110,.agg (qJ w W)),(130,.agg [.q b.a BE,.q b.b BE]),(133,ff),(152,.agg [.q s.a S1,.q s.b S2,.q s.d S3]),(160,ff),(165,.bool (bA u.low u.high ⟨s.a,s.b,s.d⟩&&bA v.low v.high ⟨t.a,t.b,t.d⟩)),(169,.i6 ((i+1:Nat):Int))] (.c6 (iT c1) hcm (nn i) v10 (iF c2) v8 (.c6 v0 v3 v11 v12 v6 v2 (.c6 v5 (iF c3) v13 v12 v11 v9 (.c6 v7 v1 v4 v14 (show Ref (AW u s) (.bool false) from Ref.bool c4) (show Ref (.bool false) (AU u s v t) from Ref.bool (by rw[c4];simp)) (.a5 r1 (dc (0<1)) (om (1*344<=140737488355328)) (dc (1<=big)) (wI ((i:Int)+(1:Int)) ((i+1:Nat):Int) (by first | omega | decide | (unfold big;omega)))))))) (t:=AT) (σ:=slots 171 [(2,.cptr (lG h H1 H2 H3 H4 u us v vs x B C) 0),(3,.cptr [.q d.x X,.q d.z Z] 0),(6,.cptr [.q v.at_.x 300,.q v.at_.z 300] 0),(7,.cptr [.q x.x B,.q x.z C] 0),(8,.cptr [.q f FA] 0),(15,.own 0 19 0 1),(85,.list 9 (L.map (fP T))),(86,.i6 (L.length:Int)),(87,.i6 ((i+1:Nat):Int))]) (h:=[some ⟨110,19,true,[[.q s.a S1,.q s.b S2,.q s.d S3,.q t.a T,.q t.b T,.q t.d T,.bool (bA u.low u.high ⟨s.a,s.b,s.d⟩&&bA v.low v.high ⟨t.a,t.b,t.d⟩)]],none⟩]) ?_
             have hA2:([]:List BendD)++ [⟨s,t,bA u.low u.high s&&bA v.low v.high t⟩]=(L.take (i+1)).filterMap (gI u v x d):=by rw[hnx,hso c3, <- hA];rfl
             have:=ih (i+1) (by omega) _ hA2;exact this
     · exact absurd hi c1
   · have e1 :nC A= .own 0 19 0 A.length:=if_neg hA0
     have e2:sC S1 S2 S3 T A= [some ⟨110,19,true,A.map (eB S1 S2 S3 T),none⟩]:=if_neg hA0;rw[e1,e2]
     by_cases c1:((i:Nat):Int)<((L.length:Nat):Int)
     · by_cases c2:(Int.sign f.num)=(0:Int)
       · exact absurd c2 hf
       · by_cases c3:(if Int.sign t.d.num<0 then 0 else gH b.a b.b t.d)=0
         · refine gR eK none [2,3,4,5,6,7,8,15,85,86,87] [0] [(88,tt),(89,.cptr (fP T t) 0),(93,ff),(110,.agg (qJ w W)),(130,.agg [.q b.a BE,.q b.b BE]),(133,tt),(169,.i6 ((i+1:Nat):Int))] (.c6 (iT c1) hcm (nn i) v10 (iF c2) v8 (.c6 v0 v3 v11 v12 v6 v2 (.a4 v5 (iT c3) v13 (wI ((i:Int)+(1:Int)) ((i+1:Nat):Int) (by first | omega | decide | (unfold big;omega)))))) (t:=AT) (σ:=slots 171 [(2,.cptr (lG h H1 H2 H3 H4 u us v vs x B C) 0),(3,.cptr [.q d.x X,.q d.z Z] 0),(6,.cptr [.q v.at_.x 300,.q v.at_.z 300] 0),(7,.cptr [.q x.x B,.q x.z C] 0),(8,.cptr [.q f FA] 0),(15,.own 0 19 0 A.length),(85,.list 9 (L.map (fP T))),(86,.i6 (L.length:Int)),(87,.i6 ((i+1:Nat):Int))]) (h:=[some ⟨110,19,true,(A.map (eB S1 S2 S3 T)),none⟩]) ?_
           have:=ih (i+1) (by omega) A (by rw[hnx,hno c3];simp[hA]);rw[e1,e2] at this;exact this
         · have v16:A.length=(A.map (eB S1 S2 S3 T)).length:=by simp
           have v17:(A.length+1)*344<=140737488355328:=by omega
           have v18:A.length+1<=big:=by(unfold big;omega)
           rcases Bool.eq_false_or_eq_true (bA u.low u.high ⟨s.a,s.b,s.d⟩) with c4 | c4
           · refine gR eK none [2,3,4,5,6,7,8,15,85,86,87] [27] [(88,tt),(89,.cptr (fP T t) 0),(93,ff),(110,.agg (qJ w W)),(130,.agg [.q b.a BE,.q b.b BE]),(133,ff),(152,.agg [.q s.a S1,.q s.b S2,.q s.d S3]),(160,tt),(165,.bool (bA u.low u.high ⟨s.a,s.b,s.d⟩&&bA v.low v.high ⟨t.a,t.b,t.d⟩)),(169,.i6 ((i+1:Nat):Int))] (.c6 (iT c1) hcm (nn i) v10 (iF c2) v8 (.c6 v0 v3 v11 v12 v6 v2 (.c6 v5 (iF c3) v13 v12 v11 v9 (.c6 v7 v1 v4 v14 (show Ref (AW u s) (.bool true) from Ref.bool c4) v15 (.a6 (show Ref (.bool (bA v.low v.high ⟨t.a,t.b,t.d⟩)) (AU u s v t) from Ref.bool (by rw[c4];simp)) r1 v16 v17 v18 (wI ((i:Int)+(1:Int)) ((i+1:Nat):Int) (by first | omega | decide | (unfold big;omega)))))))) (t:=AT) (σ:=slots 171 [(2,.cptr (lG h H1 H2 H3 H4 u us v vs x B C) 0),(3,.cptr [.q d.x X,.q d.z Z] 0),(6,.cptr [.q v.at_.x 300,.q v.at_.z 300] 0),(7,.cptr [.q x.x B,.q x.z C] 0),(8,.cptr [.q f FA] 0),(15,.own 0 19 0 (A.length+1)),(85,.list 9 (L.map (fP T))),(86,.i6 (L.length:Int)),(87,.i6 ((i+1:Nat):Int))]) (h:=[some (IJ A S1 S2 S3 T s t u v)]) ?_
             have hA2:A++ [⟨s,t,bA u.low u.high s&&bA v.low v.high t⟩]=(L.take (i+1)).filterMap (gI u v x d):=by rw[hnx,hso c3, <- hA];rfl
             have:=ih (i+1) (by omega) _ hA2;have e3:nC (A++ [⟨s,t,bA u.low u.high s&&bA v.low v.high t⟩])= .own 0 19 0 (A.length+1):=by unfold nC;rw[if_neg (by simp)];simp
             have e4:sC S1 S2 S3 T (A++ [⟨s,t,bA u.low u.high s&&bA v.low v.high t⟩])= [some ⟨110,19,true,A.map (eB S1 S2 S3 T)++ [eB S1 S2 S3 T ⟨s,t,bA u.low u.high s&&bA v.low v.high t⟩],none⟩]:=by unfold sC;rw[if_neg (by simp)];simp
             rw[e3,e4] at this;exact this
           · refine gR eK none [2,3,4,5,6,7,8,15,85,86,87] [27] [(88,tt),(89,.cptr (fP T t) 0),(93,ff),(110,.agg (qJ w W)),(130,.agg [.q b.a BE,.q b.b BE]),(133,ff),(152,.agg [.q s.a S1,.q s.b S2,.q s.d S3]),(160,ff),(165,.bool (bA u.low u.high ⟨s.a,s.b,s.d⟩&&bA v.low v.high ⟨t.a,t.b,t.d⟩)),(169,.i6 ((i+1:Nat):Int))] (.c6 (iT c1) hcm (nn i) v10 (iF c2) v8 (.c6 v0 v3 v11 v12 v6 v2 (.c6 v5 (iF c3) v13 v12 v11 v9 (.c6 v7 v1 v4 v14 (show Ref (AW u s) (.bool false) from Ref.bool c4) (show Ref (.bool false) (AU u s v t) from Ref.bool (by rw[c4];simp)) (.a5 r1 v16 v17 v18 (wI ((i:Int)+(1:Int)) ((i+1:Nat):Int) (by first | omega | decide | (unfold big;omega)))))))) (t:=AT) (σ:=slots 171 [(2,.cptr (lG h H1 H2 H3 H4 u us v vs x B C) 0),(3,.cptr [.q d.x X,.q d.z Z] 0),(6,.cptr [.q v.at_.x 300,.q v.at_.z 300] 0),(7,.cptr [.q x.x B,.q x.z C] 0),(8,.cptr [.q f FA] 0),(15,.own 0 19 0 (A.length+1)),(85,.list 9 (L.map (fP T))),(86,.i6 (L.length:Int)),(87,.i6 ((i+1:Nat):Int))]) (h:=[some (IJ A S1 S2 S3 T s t u v)]) ?_
             have hA2:A++ [⟨s,t,bA u.low u.high s&&bA v.low v.high t⟩]=(L.take (i+1)).filterMap (gI u v x d):=by rw[hnx,hso c3, <- hA];rfl
             have:=ih (i+1) (by omega) _ hA2;have e3:nC (A++ [⟨s,t,bA u.low u.high s&&bA v.low v.high t⟩])= .own 0 19 0 (A.length+1):=by unfold nC;rw[if_neg (by simp)];simp
             have e4:sC S1 S2 S3 T (A++ [⟨s,t,bA u.low u.high s&&bA v.low v.high t⟩])= [some ⟨110,19,true,A.map (eB S1 S2 S3 T)++ [eB S1 S2 S3 T ⟨s,t,bA u.low u.high s&&bA v.low v.high t⟩],none⟩]:=by unfold sC;rw[if_neg (by simp)];simp
             rw[e3,e4] at this;exact this
     · exact absurd hi c1
end
def xU (ulo uhi vlo vhi:Rat) (vat x d:PtD):List BendD×Bool:=kT { (default:BodyD) with low:=ulo,high:=uhi } { (default:BodyD) with low:=vlo,high:=vhi,at_:=vat } x d
def bT (B C X Z:Nat):Nat:=14*X+14*Z+29*B+29*C+18500
def bW (B C X Z:Nat):Nat:=170*bT B C X Z+B+C+1804
def SX (B C X Z:Nat):Nat:=(2*X+2*Z+6)+4*bW B C X Z+X+Z+2*bT B C X Z+24
def Ss (B C X Z:Nat):Nat:=2*(4*bW B C X Z+X+Z+2*bT B C X Z+18)+6*SX B C X Z+2*bT B C X Z+18
def Ea (B C X Z:Nat):Nat:=2*Ss B C X Z+bT B C X Z+5
def Eb (B C X Z:Nat):Nat:=Ss B C X Z+bT B C X Z+3
def Ec (B C X Z:Nat):Nat:=2*bT B C X Z+3
def Su:KF
 | [.agg [.q hx H1,.q hz H2,.q hc H3,.q hs H4,.str un,.int .i64 up,.q ux 300,.q uz 300,.q uma 300,.q uin 300,.q ucx 300,.q ucz 300,.q ulo 300,.q uhi 300,.list 6 us,.str vn,.int .i64 vp,.q vx 300,.q vz 300,.q vma 300,.q vin 300,.q vcx 300,.q vcz 300,.q vlo 300,.q vhi 300,.list 6 vs,.q xx B,.q xz C],.agg [.q dx X,.q dz Z]]=>some (.tup [.list 19 ((xU ulo uhi vlo vhi ⟨vx,vz⟩ ⟨xx,xz⟩ ⟨dx,dz⟩).1.map (eB (Ea B C X Z) (Eb B C X Z) (Ec B C X Z) (bT B C X Z))),.bool (xU ulo uhi vlo vhi ⟨vx,vz⟩ ⟨xx,xz⟩ ⟨dx,dz⟩).2],[8*Ea B C X Z+8*Eb B C X Z+4*Ec B C X Z+400*bT B C X Z+20000<=LIM])
 | _=>none
abbrev AX (v:BodyD) (x:PtD) (d:PtD) (B:Nat) (C:Nat) (X:Nat) (Z:Nat):List AV:=[.list 9 ((cU v.at_ x d).map (fP (bT B C X Z))),.i6 (AS v.at_ x d)]
abbrev AY (d:PtD) (X:Nat) (Z:Nat):List AV:=[.q (d.x*d.x+d.z*d.z) (X+Z+X+Z+6)]
theorem UT:bQ 122 Su:=fun args r ob h ho=>by
 unfold Su at h
 split at h
 · rename_i hx H1 hz H2 hc H3 hs H4 un up ux uz uma uin ucx ucz ulo uhi us vn vp vx vz vma vin vcx vcz vlo vhi vs xx B xz C dx X dz Z
   cases h;have o1:8*Ea B C X Z+8*Eb B C X Z+4*Ec B C X Z+400*bT B C X Z+20000<=LIM:=ho _ (by simp);clear ho;obtain⟨h,hh⟩:∃ h:FrameD,h=⟨⟨hx,hz⟩,hc,hs⟩:=⟨_,rfl⟩;obtain⟨u,hu⟩:∃ u:BodyD,u=⟨un,up,⟨ux,uz⟩,⟨ucx,ucz⟩,uma,uin,ulo,uhi,[]⟩:=⟨_,rfl⟩;obtain⟨v,hv⟩:∃ v:BodyD,v=⟨vn,vp,⟨vx,vz⟩,⟨vcx,vcz⟩,vma,vin,vlo,vhi,[]⟩:=⟨_,rfl⟩;obtain⟨x,hx'⟩:∃ x:PtD,x=⟨xx,xz⟩:=⟨_,rfl⟩;obtain⟨d,hd⟩:∃ d:PtD,d=⟨dx,dz⟩:=⟨_,rfl⟩;have hres:xU ulo uhi vlo vhi ⟨vx,vz⟩ ⟨xx,xz⟩ ⟨dx,dz⟩=kT u v x d:=by rw[hu,hv,hx',hd];rfl
   rw[hres];refine af Tryz.f122 fun S w0=> ?_
   refine Good.weak 171 [(0,.agg (lG h H1 H2 H3 H4 u us v vs x B C)),(1,.agg [.q d.x X,.q d.z Z])] (by kernel_rfl) (.cons (Ref.eq (by rw[hh,hu,hv,hx'];rfl)) (.cons (Ref.eq (by rw[hd];rfl)) .nil)) ?_;have hT:bT B C X Z=14*X+14*Z+29*B+29*C+18500:=rfl;have hW:bW B C X Z=170*bT B C X Z+B+C+1804:=rfl;have hBE:SX B C X Z=(2*X+2*Z+6)+4*bW B C X Z+X+Z+2*bT B C X Z+24:=rfl;have hDV:Ss B C X Z=2*(4*bW B C X Z+X+Z+2*bT B C X Z+18)+6*SX B C X Z+2*bT B C X Z+18:=rfl;have h1:Ea B C X Z=2*Ss B C X Z+bT B C X Z+5:=rfl;have h2:Eb B C X Z=Ss B C X Z+bT B C X Z+3:=rfl;have h3:Ec B C X Z=2*bT B C X Z+3:=rfl;have hroots:Ref (AV.tup [(AV.list 9 ((dV (((((d.x*d.x+d.z*d.z)-(v.at_.x*v.at_.x+v.at_.z*v.at_.z))-(x.x*x.x+x.z*x.z))*((Int.cast 1:Rat)/(Int.cast 2:Rat)))+(v.at_.x*x.x+v.at_.z*x.z)) ((v.at_.x*x.z-v.at_.z*x.x)+(v.at_.x*x.z-v.at_.z*x.x)) (((((d.x*d.x+d.z*d.z)-(v.at_.x*v.at_.x+v.at_.z*v.at_.z))-(x.x*x.x+x.z*x.z))*((Int.cast 1:Rat)/(Int.cast 2:Rat)))-(v.at_.x*x.x+v.at_.z*x.z))).map (fP (5*(((((X+Z+X+Z+6)+(300+300+300+300+6)+2)+(B+C+B+C+6)+2)+64+2)+(300+300+B+C+6)+2)+4*((300+300+B+C+6)+(300+300+B+C+6)+2)+2*(((((X+Z+X+Z+6)+(300+300+300+300+6)+2)+(B+C+B+C+6)+2)+64+2)+(300+300+B+C+6)+2)+300)))),(AV.int .i64 (if (((((d.x*d.x+d.z*d.z)-(v.at_.x*v.at_.x+v.at_.z*v.at_.z))-(x.x*x.x+x.z*x.z))*((Int.cast 1:Rat)/(Int.cast 2:Rat)))+(v.at_.x*x.x+v.at_.z*x.z))=0/\((v.at_.x*x.z-v.at_.z*x.x)+(v.at_.x*x.z-v.at_.z*x.x))=0/\(((((d.x*d.x+d.z*d.z)-(v.at_.x*v.at_.x+v.at_.z*v.at_.z))-(x.x*x.x+x.z*x.z))*((Int.cast 1:Rat)/(Int.cast 2:Rat)))-(v.at_.x*x.x+v.at_.z*x.z))=0 then 10 else 0))]) (AV.tup [(AV.list 9 ((cU v.at_ x d).map (fP (bT B C X Z)))),(AV.int .i64 (AS v.at_ x d))]):=Ref.tup2 (Ref.listM (cU v.at_ x d) fun y _=>RefC.cons (RefC.q_le (by omega)) (RefC.cons (RefC.q_le (by omega)) (RefC.q_le (by omega)))) (Ref.int rfl) rfl rfl rfl rfl
   have v0:20*(((((X+Z+X+Z+6)+(300+300+300+300+6)+2)+(B+C+B+C+6)+2)+64+2)+(300+300+B+C+6)+2)+20*((300+300+B+C+6)+(300+300+B+C+6)+2)+10*(((((X+Z+X+Z+6)+(300+300+300+300+6)+2)+(B+C+B+C+6)+2)+64+2)+(300+300+B+C+6)+2)+3000<=LIM:=by omega
   have v1:((((X+Z+X+Z+6)+(300+300+300+300+6)+2)+(B+C+B+C+6)+2)+64+2)+(300+300+B+C+6)+200<=LIM:=by omega
   have v2:(((X+Z+X+Z+6)+(300+300+300+300+6)+2)+(B+C+B+C+6)+2)+64+200<=LIM:=by omega
   have v3:((X+Z+X+Z+6)+(300+300+300+300+6)+2)+(B+C+B+C+6)+200<=LIM:=by omega
   have v4:300+300+B+C+300<=LIM:=by omega
   have v5:300+300+300+300+300<=LIM:=by omega
   have v6:B+C+B+C+300<=LIM:=by omega
   have v7:(X+Z+X+Z+6)+(300+300+300+300+6)+200<=LIM:=by omega
   have v8:(300+300+B+C+6)+(300+300+B+C+6)+200<=LIM:=by omega
   have v9:X+Z+X+Z+300<=LIM:=by omega
   by_cases c1:AS v.at_ x d=10
   · have e:kT u v x d=([],decide (kW x x=0/\0<kW v.at_ v.at_/\kW d d+kW v.at_ d=0)):=if_pos c1
     rw[e]
     by_cases c2:(Int.sign (x.x*x.x+x.z*x.z).num)=(0:Int)
     · have k2:kW x x=0:=kR.1 c2
       by_cases c3:(0:Int)<(Int.sign (v.at_.x*v.at_.x+v.at_.z*v.at_.z).num)
       · have k3:0<kW v.at_ v.at_:=Hm.1 c3
         refine rF eK [(48,.tup (AX v x d B C X Z)),(62,tt),(68,tt),(76,tt)] (.c6 v9 v5 v7 v6 v3 v2 (.c6 v4 v4 v1 v8 v1 v0 (.c6 hroots (iT c1) v6 (iT c2) v5 (iT c3) (.a2 (om (300+300+X+Z+300<=LIM)) (om ((X+Z+X+Z+6)+(300+300+X+Z+6)+200<=LIM)))))) (V:=.tup [.nil,.bool (decide ((Int.sign ((d.x*d.x+d.z*d.z)+(v.at_.x*d.x+v.at_.z*d.z)).num)=(0:Int)))]) (Ref.tup2 Ref.nilL (Ref.bool ?_) rfl rfl rfl rfl)
         rw[decide_eq_decide,kR];exact⟨fun h=>⟨k2,k3,h⟩,fun h=>h.2.2⟩
       · have k3:¬ 0<kW v.at_ v.at_:=fun h=>c3 (Hm.2 h)
         refine rF eK [(48,.tup (AX v x d B C X Z)),(62,tt),(68,tt),(76,ff)] (.c6 v9 v5 v7 v6 v3 v2 (.c6 v4 v4 v1 v8 v1 v0 (.a6 hroots (iT c1) v6 (iT c2) v5 (iF c3)))) (V:=.tup [.nil,.bool false]) (Ref.tup2 Ref.nilL (Ref.bool (by simp[k3])) rfl rfl rfl rfl)
     · have k2:¬ kW x x=0:=fun h=>c2 (kR.2 h)
       refine rF eK [(48,.tup (AX v x d B C X Z)),(62,tt),(68,ff)] (.c6 v9 v5 v7 v6 v3 v2 (.c6 v4 v4 v1 v8 v1 v0 (.a4 hroots (iT c1) v6 (iF c2)))) (V:=.tup [.nil,.bool false]) (Ref.tup2 Ref.nilL (Ref.bool (by simp[k2])) rfl rfl rfl rfl)
   · refine gR eK none [2,3,4,5,6,7,8,15,85,86,87] [0,1,2,3,5] [(48,.tup (AX v x d B C X Z)),(62,ff)] (.c6 v9 v5 v7 v6 v3 v2 (.c6 v4 v4 v1 v8 v1 v0 (.a2 hroots (iF c1)))) (t:=AT) (σ:=slots 171 [(2,.ptr 0 72 0 0),(3,.ptr 1 6 0 0),(4,.nil),(5,.bool false),(6,.ptr 2 6 0 0),(7,.ptr 3 6 0 0),(8,.ptr 4 3 0 0),(15,.nil),(85,(.list 9 ((cU v.at_ x d).map (fP (bT B C X Z))))),(86,(.i6 (((cU v.at_ x d).map (fP (bT B C X Z))).length:Int))),(87,.i6 (0:Int))]) (h:=[some ⟨267,72,false,[(lG h H1 H2 H3 H4 u us v vs x B C)],none⟩,some ⟨58,6,false,[[.q d.x X,.q d.z Z]],none⟩,some ⟨58,6,false,[[.q v.at_.x 300,.q v.at_.z 300]],none⟩,some ⟨58,6,false,[[.q x.x B,.q x.z C]],none⟩,some ⟨56,3,false,[(AY d X Z)],none⟩]) ?_
     have hlen:((cU v.at_ x d).map (fP (bT B C X Z))).length=(cU v.at_ x d).length:=bH ..;rw[hlen];refine Good.freezeD (b:=⟨267,72,false,[(lG h H1 H2 H3 H4 u us v vs x B C)],none⟩) 0 (by rfl) (by rfl) (.oe (.a1 (dc (0<1)))) .on ?_;refine Good.freezeD (b:=⟨58,6,false,[[.q d.x X,.q d.z Z]],none⟩) 1 (by rfl) (by rfl) (.oe (.a1 (dc (0<1)))) .on ?_;refine Good.freezeD (b:=⟨58,6,false,[[.q v.at_.x 300,.q v.at_.z 300]],none⟩) 2 (by rfl) (by rfl) (.oe (.a1 (dc (0<1)))) .on ?_;refine Good.freezeD (b:=⟨58,6,false,[[.q x.x B,.q x.z C]],none⟩) 3 (by rfl) (by rfl) (.oe (.a1 (dc (0<1)))) .on ?_;refine Good.freezeD (b:=⟨56,3,false,[(AY d X Z)],none⟩) 4 (by rfl) (by rfl) (.oe (.a1 (dc (0<1)))) .on ?_;refine Good.tidy [] (by decide) (σ':=slots 171 [(2,.cptr (lG h H1 H2 H3 H4 u us v vs x B C) 0),(3,.cptr [.q d.x X,.q d.z Z] 0),(6,.cptr [.q v.at_.x 300,.q v.at_.z 300] 0),(7,.cptr [.q x.x B,.q x.z C] 0),(8,.cptr (AY d X Z) 0),(4,.nil),(5,.bool false),(15,.nil),(85,.list 9 ((cU v.at_ x d).map (fP (bT B C X Z)))),(86,.i6 (((cU v.at_ x d).length:Nat):Int)),(87,.i6 0)]) (h':=[]) (by kernel_rfl) (by kernel_rfl) ?_
     refine Good.pk 171 [(2,.cptr (lG h H1 H2 H3 H4 u us v vs x B C) 0),(3,.cptr [.q d.x X,.q d.z Z] 0),(6,.cptr [.q v.at_.x 300,.q v.at_.z 300] 0),(7,.cptr [.q x.x B,.q x.z C] 0),(8,.cptr (AY d X Z) 0),(15,.nil),(85,.list 9 ((cU v.at_ x d).map (fP (bT B C X Z)))),(86,.i6 (((cU v.at_ x d).length:Nat):Int)),(87,.i6 0)] ?_;have e1:nC []= .nil:=if_pos rfl;have e2:sC (Ea B C X Z) (Eb B C X Z) (Ec B C X Z) (bT B C X Z) []= []:=if_pos rfl
     by_cases c2:Int.sign (d.x*d.x+d.z*d.z).num=0
     · by_cases c3:cU v.at_ x d= []
       · have e:kT u v x d=((cU v.at_ x d).filterMap (gI u v x d),true):=by unfold kT;rw[if_neg c1,if_neg (fun h=>h.1 c3)]
         rw[e,c3]
         have:=II (S:=S) (w0:=w0) (h:=h) (u:=u) (v:=v) (us:=us) (vs:=vs) (x:=x) (d:=d) (H1:=H1) (H2:=H2) (H3:=H3) (H4:=H4) (B:=B) (C:=C) (X:=X) (Z:=Z) (L:=[]) (T:=bT B C X Z) (FA:=X+Z+X+Z+6) (S1:=Ea B C X Z) (S2:=Eb B C X Z) (S3:=Ec B C X Z) (f:=d.x*d.x+d.z*d.z) [] 0 rfl;rw[e1,e2] at this;exact this
       · have e:kT u v x d=([],false):=by unfold kT;rw[if_neg c1,if_pos ⟨c3,kR.1 c2⟩]
         rw[e];have hpos:0<(cU v.at_ x d).length:=List.length_pos_iff.2 c3;refine rF eK [(88,tt),(89,.cptr [.q ((cU v.at_ x d).getD 0 default).a (bT B C X Z),.q ((cU v.at_ x d).getD 0 default).b (bT B C X Z),.q ((cU v.at_ x d).getD 0 default).d (bT B C X Z)] 0),(93,tt)] (.a5 (iT (om ((0:Int)<((((cU v.at_ x d).length):Nat):Int)))) (show Ref (.cptr (((cU v.at_ x d).map (fP (bT B C X Z))).getD 0 []) 0) (.cptr [.q ((cU v.at_ x d).getD 0 default).a (bT B C X Z),.q ((cU v.at_ x d).getD 0 default).b (bT B C X Z),.q ((cU v.at_ x d).getD 0 default).d (bT B C X Z)] 0) from Ref.cmap (f:=fP (bT B C X Z)) hpos) (nn 0) (show(0:Int)<(((cU v.at_ x d).map (fP (bT B C X Z))).length:Int) by rw[bH];omega) (iT c2)) (V:=.tup [.nil,.bool false]) (Ref.tup2 Ref.nilL rr rfl rfl rfl rfl)
     · have e:kT u v x d=((cU v.at_ x d).filterMap (gI u v x d),true):=by unfold kT;rw[if_neg c1,if_neg (fun h=>c2 (kR.2 h.2))]
       rw[e]
       have:=Lj (S:=S) (w0:=w0) (h:=h) (u:=u) (v:=v) (us:=us) (vs:=vs) (x:=x) (d:=d) (H1:=H1) (H2:=H2) (H3:=H3) (H4:=H4) (B:=B) (C:=C) (X:=X) (Z:=Z) (L:=cU v.at_ x d) (T:=bT B C X Z) (FA:=X+Z+X+Z+6) (S1:=Ea B C X Z) (S2:=Eb B C X Z) (S3:=Ec B C X Z) (f:=d.x*d.x+d.z*d.z) (W:=bW B C X Z) (BE:=SX B C X Z) c2 rfl (De _ _ _) (by omega) (by omega) (by omega) (by omega) (by omega) (by omega) (by omega) (cU v.at_ x d).length 0 (by omega) [] rfl;rw[e1,e2] at this;exact this
 · cases h
def Cp (m:MachD) (b:Int):BodyD:=m.bodies.getD b.toNat default
def Ed (m:MachD) (b:Int):BodyD:=m.bodies.getD (Cp m b).par.toNat default
def Fk (m:MachD) (p:PoseD) (b:Int):FrameD:=⟨eQ (fr m p (Ed m b).par.toNat) (Ed m b).at_,(fr m p (Ed m b).par.toNat).c,(fr m p (Ed m b).par.toNat).s⟩
def iI (m:MachD) (n:Nat) (b:Int):Int:=if bK m n b=0 then (if b=0\/(Cp m b).par=0 then 2 else 0) else bK m n b
def Ee (jb:Nat) (f:FrameD) (u v:BodyD) (x:PtD) (B C:Nat):List AV:=[.q f.at_.x (4*SZ jb+608),.q f.at_.z (4*SZ jb+608),.q f.c (SZ jb),.q f.s (SZ jb)]++aE 300 u++aE 300 v++ [.q x.x B,.q x.z C]
def Df:List AV:=[.q 0 0,.q 0 0,.q 0 0,.q 0 0,.str (ByteArray.mk #[]),.i6 0,.q 0 0,.q 0 0,.q 0 0,.q 0 0,.q 0 0,.q 0 0,.q 0 0,.q 0 0,.nil,.str (ByteArray.mk #[]),.i6 0,.q 0 0,.q 0 0,.q 0 0,.q 0 0,.q 0 0,.q 0 0,.q 0 0,.q 0 0,.nil,.q 0 0,.q 0 0]
def xV (jb:Nat) (m:MachD) (p:PoseD) (b:Int) (x:PtD) (B C:Nat):AV:=if iI m p.joints.length b=0 then .agg (Ee jb (Fk m p b) (Ed m b) (Cp m b) x B C) else .agg Df
theorem Fl {m:MachD} {n:Nat} {b:Int} (h:iI m n b=0):bD m n=0/\0<b/\b<((m.bodies.length:Nat):Int)/\0<(Cp m b).par/\(Cp m b).par<b/\0<=(Ed m b).par/\(Ed m b).par<(Cp m b).par:=by
 unfold iI at h
 split at h
 · rename_i hw
   split at h
   · cases h
   · rename_i h0
     unfold bK at hw
     split at hw
     · rename_i hp
       split at hw
       · rename_i hb
         have ht:=mW (gF hp).1;have h1:=ht b.toNat (by omega) (by omega);have h2:0<=(Cp m b).par/\(Cp m b).par<b:=⟨h1.1,by have:=h1.2;unfold Cp;omega⟩;have h3:=ht (Cp m b).par.toNat (by omega) (by omega);refine⟨hp,by omega,hb.2,by omega,h2.2,h3.1, ?_⟩
         have:=h3.2;unfold Ed;omega
       · cases hw
     · rename_i hp;exact absurd hw hp
 · rename_i hw;exact absurd h hw
theorem cO {m:MachD} {v:BodyD} {i:Nat} (hv:v=m.bodies.getD i default) (h:i<m.bodies.length):Ref (.cptr ((m.bodies.map (aE 300)).getD i []) 0) (.cptr (aE 300 v) 0):=hv▸Ref.cmap h
def Sv:KF
 | [.agg M,.agg [.q ax jb,.q az A2,.q tu A3,.list 3 J],.int .i64 b,.agg [.q px B,.q pz C]]=>some (.tup [xV jb (aF M) ⟨⟨ax,az⟩,tu,J.map gM⟩ b ⟨px,pz⟩ B C,.int .i64 (iI (aF M) J.length b)],[M=aD 300 (aF M),(aF M).small,(aF M).bodies.length<=8,A2<=jb,A3<=jb,jb<=100000,Ref (.list 3 J) (.list 3 ((J.map gM).map (bG jb))),J.length<=4611686018427387904])
 | _=>none
abbrev oP (m:MachD) (jb:Nat) (p:PoseD):List AV:=[.cptr [.str m.name,.list 27 (m.bodies.map (aE 300)),.list 17 (m.springs.map (aJ 300)),.list 17 (m.tendons.map (aJ 300)),.list 13 (m.motors.map (aP 300)),.list 5 (m.feet.map (aX 300)),.list 12 ((List.range m.bodies.length).map fun i=>dS (SZ jb) (fr m p i))] 0,.i6 (0:Int)]
abbrev AZ:List AV:=[.q 0 0,.q 0 0,.q 0 0,.q 0 0,.str (ByteArray.mk #[]),.i6 (0:Int),.q 0 0,.q 0 0,.q 0 0,.q 0 0,.q 0 0,.q 0 0,.q 0 0,.q 0 0,AV.nil,.str (ByteArray.mk #[]),.i6 (0:Int),.q 0 0,.q 0 0,.q 0 0,.q 0 0,.q 0 0,.q 0 0,.q 0 0,.q 0 0,AV.nil,.q 0 0,.q 0 0]
abbrev xW (jb:Nat) (m:MachD) (p:PoseD):AV:=(.tup [(iE jb (aF (aD 300 m)) ⟨⟨p.at_.x,p.at_.z⟩,p.turn,(p.joints.map (bG jb)).map gM⟩),.i6 (bD (aF (aD 300 m)) (p.joints.map (bG jb)).length)])
abbrev IK (m:MachD) (p:PoseD) (u:BodyD) (jb:Nat):List AV:=[.q ((fr m p u.par.toNat).at_.x) (2*(SZ jb)),.q ((fr m p u.par.toNat).at_.z) (2*(SZ jb)),.q ((fr m p u.par.toNat).c) (SZ jb),.q ((fr m p u.par.toNat).s) (SZ jb)]
theorem UU:bQ 121 Sv:=by
 refine cK Tryz.f121 fun _ _ _ S w0 h ho=> ?_
 unfold Sv at h;split at h <;> cases h;rename_i M ax jb az A2 tu A3 J b px B pz C;obtain⟨o1,o2,o3,o4,o5,o6,o7,o8⟩:=ho.e8;have K:=((kn.cons Hn).cons Ni).cons Hz;generalize hm:aF M=m at*;subst o1;clear hm;obtain⟨p,hp⟩:∃ p:PoseD,p=⟨⟨ax,az⟩,tu,J.map gM⟩:=⟨_,rfl⟩;have hpj:p.joints.length=J.length:=by rw[hp];simp
 rw[<- hp]
 try rw[<- hpj]
 refine Good.weak 84 [(0,.agg (aD 300 m)),(1,.agg (aW jb p)),(2,.i6 b),(3,.agg [.q px B,.q pz C])] (by kernel_rfl) (.r (.cons (by rw[hp];exact Ref.pose o4 o5 o7) (.r (.r .nil)))) ?_;clear hp;have s1:aD 300 m=aD 300 (aF (aD 300 m)):=by rw[aU]
 have s2:(aF (aD 300 m)).small:=by rw[aU];exact o2
 have s3:(aF (aD 300 m)).bodies.length<=8:=by rw[aU];exact o3
 have s4:Ref (.list 3 (p.joints.map (bG jb))) (.list 3 (((p.joints.map (bG jb)).map gM).map (bG jb))):=Ref.eq (by rw[gG]);have s5:(p.joints.map (bG jb)).length<=4611686018427387904:=by rw[bH,hpj];exact o8
 have s7:SZ jb<=153753600:=by unfold SZ;omega
 have s8:LIM=17592186044416:=rfl;obtain⟨v,hv⟩:∃ v,v=Cp m b:=⟨_,rfl⟩;obtain⟨u,hu⟩:∃ u,u=Ed m b:=⟨_,rfl⟩;have hu2:u=m.bodies.getD v.par.toNat default:=by rw[hu,hv];rfl
 have hleg:bD m p.joints.length=0->(0<=b/\b<((m.bodies.length:Nat):Int))->¬ b=0->¬ v.par=0->(0<=v.par/\v.par<((m.bodies.length:Nat):Int)/\v.par.toNat<m.bodies.length/\0<=u.par/\u.par<((m.bodies.length:Nat):Int)/\u.par.toNat<m.bodies.length):=by
   intro a1 a2 a3 a4;have q:=Fl (m:=m) (n:=p.joints.length) (b:=b) (by unfold iI bK;rw[if_pos a1,if_pos a2,if_pos rfl,if_neg (by rw[<- hv];exact not_or.2 ⟨a3,a4⟩)]);rw[<- hv, <- hu] at q;omega
 by_cases h1:(bD m p.joints.length)=(0:Int)
 · by_cases h2:0<=b/\b<(((m.bodies.map (aE 300)).length:Nat):Int)
   · by_cases h3:b=(0:Int)
     · refine rF K [(15,.tup (oP m jb p)),(26,ff),(35,tt)] (.c6 s1 s2 s3 (rl jb) (rl jb) o6 (.a5 s4 s5 (show Ref (xW jb m p) (.tup (oP m jb p)) by first | exact s1 | exact s2 | exact s3 | exact s4 | exact s5 | exact cM h1 | exact cN h1 | (simp only[bH,List.length_range] at*;exact bS (by omega)) | (simp only[bH,List.length_range] at*;omega) | exact cO hv (by simp only[bH] at*;omega) | (have q:=hleg h1 (by simpa using h2) h3 h4;first | exact cO hu2 (by omega) | exact bS (by omega) | (simp only[bH,List.length_range] at*;omega))) (jF h2) (iT h3))) (V:=.tup [.agg (AZ),.i6 (2:Int)]) ?_
       have w:bK m p.joints.length b=0:=by unfold bK;rw[if_pos h1,if_pos (by simpa using h2)]
       have e:iI m p.joints.length b=2:=by unfold iI;rw[if_pos w,if_pos (Or.inl h3)]
       rw[show xV jb m p b ⟨px,pz⟩ B C= .agg Df from if_neg (by rw[e];first | decide | exact h1),e];exact Ref.tup2 rr rr rfl rfl rfl rfl
     · have v2:0<=b:=by(simp only[bH,List.length_range] at*;omega)
       by_cases h4:v.par=(0:Int)
       · refine rF K [(15,.tup (oP m jb p)),(26,ff),(35,ff),(42,.cptr (aE 300 v) 0),(32,tt)] (.c6 s1 s2 s3 (rl jb) (rl jb) o6 (.c6 s4 s5 (show Ref (xW jb m p) (.tup (oP m jb p)) by first | exact s1 | exact s2 | exact s3 | exact s4 | exact s5 | exact cM h1 | exact cN h1 | (simp only[bH,List.length_range] at*;exact bS (by omega)) | (simp only[bH,List.length_range] at*;omega) | exact cO hv (by simp only[bH] at*;omega) | (have q:=hleg h1 (by simpa using h2) h3 h4;first | exact cO hu2 (by omega) | exact bS (by omega) | (simp only[bH,List.length_range] at*;omega))) (jF h2) (iF h3) (show Ref (.cptr ((m.bodies.map (aE 300)).getD b.toNat []) 0) (.cptr (aE 300 v) 0) by first | exact s1 | exact s2 | exact s3 | exact s4 | exact s5 | exact cM h1 | exact cN h1 | (simp only[bH,List.length_range] at*;exact bS (by omega)) | (simp only[bH,List.length_range] at*;omega) | exact cO hv (by simp only[bH] at*;omega) | (have q:=hleg h1 (by simpa using h2) h3 h4;first | exact cO hu2 (by omega) | exact bS (by omega) | (simp only[bH,List.length_range] at*;omega))) (.a3 v2 (show b<((m.bodies.map (aE 300)).length:Int) by first | exact s1 | exact s2 | exact s3 | exact s4 | exact s5 | exact cM h1 | exact cN h1 | (simp only[bH,List.length_range] at*;exact bS (by omega)) | (simp only[bH,List.length_range] at*;omega) | exact cO hv (by simp only[bH] at*;omega) | (have q:=hleg h1 (by simpa using h2) h3 h4;first | exact cO hu2 (by omega) | exact bS (by omega) | (simp only[bH,List.length_range] at*;omega))) (iT h4)))) (V:=.tup [.agg (AZ),.i6 (2:Int)]) ?_
         have w:bK m p.joints.length b=0:=by unfold bK;rw[if_pos h1,if_pos (by simpa using h2)]
         have e:iI m p.joints.length b=2:=by unfold iI;rw[if_pos w,if_pos (Or.inr (hv▸h4))]
         rw[show xV jb m p b ⟨px,pz⟩ B C= .agg Df from if_neg (by rw[e];first | decide | exact h1),e];exact Ref.tup2 rr rr rfl rfl rfl rfl
       · have v0:Ref (.cptr ((m.bodies.map (aE 300)).getD b.toNat []) 0) (.cptr (aE 300 v) 0):=by first | exact s1 | exact s2 | exact s3 | exact s4 | exact s5 | exact cM h1 | exact cN h1 | (simp only[bH,List.length_range] at*;exact bS (by omega)) | (simp only[bH,List.length_range] at*;omega) | exact cO hv (by simp only[bH] at*;omega) | (have q:=hleg h1 (by simpa using h2) h3 h4;first | exact cO hu2 (by omega) | exact bS (by omega) | (simp only[bH,List.length_range] at*;omega))
         have v1:b<((m.bodies.map (aE 300)).length:Int):=by first | exact s1 | exact s2 | exact s3 | exact s4 | exact s5 | exact cM h1 | exact cN h1 | (simp only[bH,List.length_range] at*;exact bS (by omega)) | (simp only[bH,List.length_range] at*;omega) | exact cO hv (by simp only[bH] at*;omega) | (have q:=hleg h1 (by simpa using h2) h3 h4;first | exact cO hu2 (by omega) | exact bS (by omega) | (simp only[bH,List.length_range] at*;omega))
         refine rF K [(15,.tup (oP m jb p)),(26,ff),(35,ff),(42,.cptr (aE 300 v) 0),(32,ff),(54,.cptr (aE 300 v) 0),(63,.cptr (aE 300 u) 0),(71,.cptr (IK m p u jb) 0)] (.c6 s1 s2 s3 (rl jb) (rl jb) o6 (.c6 s4 s5 (show Ref (xW jb m p) (.tup (oP m jb p)) by first | exact s1 | exact s2 | exact s3 | exact s4 | exact s5 | exact cM h1 | exact cN h1 | (simp only[bH,List.length_range] at*;exact bS (by omega)) | (simp only[bH,List.length_range] at*;omega) | exact cO hv (by simp only[bH] at*;omega) | (have q:=hleg h1 (by simpa using h2) h3 h4;first | exact cO hu2 (by omega) | exact bS (by omega) | (simp only[bH,List.length_range] at*;omega))) (jF h2) (iF h3) v0 (.c6 v2 v1 (iF h4) v0 v2 v1 (.c6 (show Ref (.cptr ((m.bodies.map (aE 300)).getD v.par.toNat []) 0) (.cptr (aE 300 u) 0) by first | exact s1 | exact s2 | exact s3 | exact s4 | exact s5 | exact cM h1 | exact cN h1 | (simp only[bH,List.length_range] at*;exact bS (by omega)) | (simp only[bH,List.length_range] at*;omega) | exact cO hv (by simp only[bH] at*;omega) | (have q:=hleg h1 (by simpa using h2) h3 h4;first | exact cO hu2 (by omega) | exact bS (by omega) | (simp only[bH,List.length_range] at*;omega))) (show 0<=v.par by(simp only[bH,List.length_range] at*;omega)) (show v.par<((m.bodies.map (aE 300)).length:Int) by first | exact s1 | exact s2 | exact s3 | exact s4 | exact s5 | exact cM h1 | exact cN h1 | (simp only[bH,List.length_range] at*;exact bS (by omega)) | (simp only[bH,List.length_range] at*;omega) | exact cO hv (by simp only[bH] at*;omega) | (have q:=hleg h1 (by simpa using h2) h3 h4;first | exact cO hu2 (by omega) | exact bS (by omega) | (simp only[bH,List.length_range] at*;omega))) (show Ref (.cptr (((List.range m.bodies.length).map fun i=>dS (SZ jb) (fr m p i)).getD u.par.toNat []) 0) (.cptr (IK m p u jb) 0) by(simp only[bH,List.length_range] at*;exact bS (by omega))) (show 0<=u.par by(simp only[bH,List.length_range] at*;omega)) (show u.par<(((List.range m.bodies.length).map fun i=>dS (SZ jb) (fr m p i)).length:Int) by first | exact s1 | exact s2 | exact s3 | exact s4 | exact s5 | exact cM h1 | exact cN h1 | (simp only[bH,List.length_range] at*;exact bS (by omega)) | (simp only[bH,List.length_range] at*;omega) | exact cO hv (by simp only[bH] at*;omega) | (have q:=hleg h1 (by simpa using h2) h3 h4;first | exact cO hu2 (by omega) | exact bS (by omega) | (simp only[bH,List.length_range] at*;omega))) (.a1 (show(2*(SZ jb))+(2*(SZ jb))+2*300+2*300+2*(SZ jb)+2*(SZ jb)+400<=LIM by(simp only[bH,List.length_range] at*;omega))))))) (V:=.tup [.agg [.q (((fr m p u.par.toNat).at_.x)+(((fr m p u.par.toNat).c)*u.at_.x-((fr m p u.par.toNat).s)*u.at_.z)) ((2*(SZ jb))+(300+300+(SZ jb)+(SZ jb)+6)+2),.q (((fr m p u.par.toNat).at_.z)+(((fr m p u.par.toNat).s)*u.at_.x+((fr m p u.par.toNat).c)*u.at_.z)) ((2*(SZ jb))+(300+300+(SZ jb)+(SZ jb)+6)+2),.q ((fr m p u.par.toNat).c) (SZ jb),.q ((fr m p u.par.toNat).s) (SZ jb),.str u.name,.i6 u.par,.q u.at_.x 300,.q u.at_.z 300,.q u.ma 300,.q u.inr 300,.q u.c.x 300,.q u.c.z 300,.q u.low 300,.q u.high 300,.list 6 (u.shape.map (eY 300)),.str v.name,.i6 v.par,.q v.at_.x 300,.q v.at_.z 300,.q v.ma 300,.q v.inr 300,.q v.c.x 300,.q v.c.z 300,.q v.low 300,.q v.high 300,.list 6 (v.shape.map (eY 300)),.q px B,.q pz C],.i6 (0:Int)]) ?_
         have w:bK m p.joints.length b=0:=by unfold bK;rw[if_pos h1,if_pos (by simpa using h2)]
         have e:iI m p.joints.length b=0:=by unfold iI;rw[if_pos w,if_neg (by rw[<- hv];exact not_or.2 ⟨h3,h4⟩)]
         rw[show xV jb m p b ⟨px,pz⟩ B C= .agg (Ee jb (Fk m p b) (Ed m b) (Cp m b) ⟨px,pz⟩ B C) from if_pos e,e, <- hv, <- hu];exact Ref.tup2 (Ref.agg (RefC.cons (RefC.q_eq (by rw[hu];rfl) (by omega)) (RefC.cons (RefC.q_eq (by rw[hu];rfl) (by omega)) (RefC.cons (RefC.q_eq (by rw[hu];rfl) (by omega)) (RefC.cons (RefC.q_eq (by rw[hu];rfl) (by omega)) RefC.rfl'))))) rr rfl rfl rfl rfl
   · refine rF K [(15,.tup (oP m jb p)),(26,tt)] (.c6 s1 s2 s3 (rl jb) (rl jb) o6 (.a4 s4 s5 (show Ref (xW jb m p) (.tup (oP m jb p)) by first | exact s1 | exact s2 | exact s3 | exact s4 | exact s5 | exact cM h1 | exact cN h1 | (simp only[bH,List.length_range] at*;exact bS (by omega)) | (simp only[bH,List.length_range] at*;omega) | exact cO hv (by simp only[bH] at*;omega) | (have q:=hleg h1 (by simpa using h2) h3 h4;first | exact cO hu2 (by omega) | exact bS (by omega) | (simp only[bH,List.length_range] at*;omega))) (jT h2))) (V:=.tup [.agg (AZ),.i6 (3:Int)]) ?_
     have w:bK m p.joints.length b=3:=by unfold bK;rw[if_pos h1,if_neg (by simpa using h2)]
     have e:iI m p.joints.length b=3:=by unfold iI;rw[if_neg (by rw[w];decide),w]
     rw[show xV jb m p b ⟨px,pz⟩ B C= .agg Df from if_neg (by rw[e];first | decide | exact h1),e];exact Ref.tup2 rr rr rfl rfl rfl rfl
 · refine rF K [(15,.tup [.lit (.pointer none),.i6 (bD m p.joints.length)]),(21,tt)] (.c6 s1 s2 s3 (rl jb) (rl jb) o6 (.a4 s4 s5 (show Ref (xW jb m p) (.tup [.lit (.pointer none),.i6 (bD m p.joints.length)]) by first | exact s1 | exact s2 | exact s3 | exact s4 | exact s5 | exact cM h1 | exact cN h1 | (simp only[bH,List.length_range] at*;exact bS (by omega)) | (simp only[bH,List.length_range] at*;omega) | exact cO hv (by simp only[bH] at*;omega) | (have q:=hleg h1 (by simpa using h2) h3 h4;first | exact cO hu2 (by omega) | exact bS (by omega) | (simp only[bH,List.length_range] at*;omega))) (jT h1))) (V:=.tup [.agg (AZ),.i6 (bD m p.joints.length)]) ?_
   have w:bK m p.joints.length b=bD m p.joints.length:=by unfold bK;rw[if_neg h1]
   have e:iI m p.joints.length b=bD m p.joints.length:=by unfold iI;rw[if_neg (by rw[w];exact h1),w]
   rw[show xV jb m p b ⟨px,pz⟩ B C= .agg Df from if_neg (by rw[e];first | decide | exact h1),e];exact Ref.tup2 rr rr rfl rfl rfl rfl
def Sw:KF
 | [.agg [.q c C,.q s E]]=>some (.agg [.q c C,.q (-s) E],[])
 | _=>none
theorem UV:bQ 123 Sw:=by
 refine cK Tryz.f123 fun _ _ _ S w0 h ho=> ?_
 unfold Sw at h;split at h <;> cases h;rename_i c C s E;have K:=kn.cons Ow;exact rR K [] .nil
def jI (h:FrameD) (to:PtD):PtD:=⟨h.c*(to.x-h.at_.x)-(-h.s)*(to.z-h.at_.z),(-h.s)*(to.x-h.at_.x)+h.c*(to.z-h.at_.z)⟩
def NL (m:MachD) (p:PoseD) (b:Int) (x to:PtD):List BendD×Bool:=kT (Ed m b) (Cp m b) x (jI (Fk m p b) to)
def pS (m:MachD) (p:PoseD) (b:Int) (x to:PtD):Int:=if iI m p.joints.length b=0 then (if (NL m p b x to).2=true then 0 else 10) else iI m p.joints.length b
def xX (m:MachD) (p:PoseD) (b:Int) (x to:PtD):List BendD:=if pS m p b x to=0 then (NL m p b x to).1 else []
def lX (jb TX TZ:Nat):Nat:=(TX+(4*SZ jb+608)+2)+(TZ+(4*SZ jb+608)+2)+SZ jb+SZ jb+6
theorem Lk {jb:Nat} {m:MachD} {p:PoseD} {b:Int} {px pz:Rat} {B C:Nat} {h:FrameD} {u v:BodyD} (hh:h=Fk m p b) (hu:u=Ed m b) (hv:v=Cp m b) (e:iI m p.joints.length b=0):Ref (.tup [xV jb (aF (aD 300 m)) ⟨⟨p.at_.x,p.at_.z⟩,p.turn,(p.joints.map (bG jb)).map gM⟩ b ⟨px,pz⟩ B C,.i6 (iI (aF (aD 300 m)) (p.joints.map (bG jb)).length b)]) (.tup [.agg (Ee jb h u v ⟨px,pz⟩ B C),.i6 0]):=by
 subst hh;subst hu;subst hv;exact Ref.eq (by rw[aU,gG,bH,show xV jb m ⟨⟨p.at_.x,p.at_.z⟩,p.turn,p.joints⟩ b ⟨px,pz⟩ B C= .agg (Ee jb (Fk m p b) (Ed m b) (Cp m b) ⟨px,pz⟩ B C) from if_pos e,e])
theorem Ll {jb:Nat} {m:MachD} {p:PoseD} {b:Int} {px pz:Rat} {B C:Nat} (e:¬ iI m p.joints.length b=0):Ref (.tup [xV jb (aF (aD 300 m)) ⟨⟨p.at_.x,p.at_.z⟩,p.turn,(p.joints.map (bG jb)).map gM⟩ b ⟨px,pz⟩ B C,.i6 (iI (aF (aD 300 m)) (p.joints.map (bG jb)).length b)]) (.tup [.agg Df,.i6 (iI m p.joints.length b)]):=
 Ref.eq (by rw[aU,gG,bH,show xV jb m ⟨⟨p.at_.x,p.at_.z⟩,p.turn,p.joints⟩ b ⟨px,pz⟩ B C= .agg Df from if_neg e])
def VO:KF
 | [.agg M,.agg [.q ax jb,.q az A2,.q tu A3,.list 3 J],.int .i64 b,.agg [.q px B,.q pz C],.agg [.q tx TX,.q tz TZ]]=>some (.tup [.list 19 ((xX (aF M) ⟨⟨ax,az⟩,tu,J.map gM⟩ b ⟨px,pz⟩ ⟨tx,tz⟩).map (eB (Ea B C (lX jb TX TZ) (lX jb TX TZ)) (Eb B C (lX jb TX TZ) (lX jb TX TZ)) (Ec B C (lX jb TX TZ) (lX jb TX TZ)) (bT B C (lX jb TX TZ) (lX jb TX TZ)))),.int .i64 (pS (aF M) ⟨⟨ax,az⟩,tu,J.map gM⟩ b ⟨px,pz⟩ ⟨tx,tz⟩)],[M=aD 300 (aF M),(aF M).small,(aF M).bodies.length<=8,A2<=jb,A3<=jb,jb<=100000,Ref (.list 3 J) (.list 3 ((J.map gM).map (bG jb))),J.length<=4611686018427387904,8*Ea B C (lX jb TX TZ) (lX jb TX TZ)+8*Eb B C (lX jb TX TZ) (lX jb TX TZ)+4*Ec B C (lX jb TX TZ) (lX jb TX TZ)+400*bT B C (lX jb TX TZ) (lX jb TX TZ)+20000<=LIM,TX+TZ+20*SZ jb+20000<=LIM])
 | _=>none
abbrev IL (h:FrameD) (jb:Nat) (u:BodyD) (v:BodyD) (px:Rat) (B:Nat) (pz:Rat) (C:Nat):List AV:=[.agg [.q h.at_.x (4*SZ jb+608),.q h.at_.z (4*SZ jb+608),.q h.c (SZ jb),.q h.s (SZ jb),.str u.name,.i6 u.par,.q u.at_.x 300,.q u.at_.z 300,.q u.ma 300,.q u.inr 300,.q u.c.x 300,.q u.c.z 300,.q u.low 300,.q u.high 300,.list 6 (u.shape.map (eY 300)),.str v.name,.i6 v.par,.q v.at_.x 300,.q v.at_.z 300,.q v.ma 300,.q v.inr 300,.q v.c.x 300,.q v.c.z 300,.q v.low 300,.q v.high 300,.list 6 (v.shape.map (eY 300)),.q px B,.q pz C],.i6 (0:Int)]
abbrev LU:List AV:=[.q 0 0,.q 0 0,.q 0 0,.q 0 0,.str (ByteArray.mk #[]),.i6 (0:Int),.q 0 0,.q 0 0,.q 0 0,.q 0 0,.q 0 0,.q 0 0,.q 0 0,.q 0 0,AV.nil,.str (ByteArray.mk #[]),.i6 (0:Int),.q 0 0,.q 0 0,.q 0 0,.q 0 0,.q 0 0,.q 0 0,.q 0 0,.q 0 0,AV.nil,.q 0 0,.q 0 0]
abbrev IM (y:List BendD×Bool) (B:Nat) (C:Nat) (jb:Nat) (TX:Nat) (TZ:Nat):List AV:=[.list 19 (y.1.map (eB (Ea B C (lX jb TX TZ) (lX jb TX TZ)) (Eb B C (lX jb TX TZ) (lX jb TX TZ)) (Ec B C (lX jb TX TZ) (lX jb TX TZ)) (bT B C (lX jb TX TZ) (lX jb TX TZ)))),.bool y.2]
abbrev LV (jb:Nat) (m:MachD) (p:PoseD) (b:Int) (px:Rat) (pz:Rat) (B:Nat) (C:Nat):AV:=(.tup [(xV jb (aF (aD 300 m)) ⟨⟨p.at_.x,p.at_.z⟩,p.turn,(p.joints.map (bG jb)).map gM⟩ b ⟨px,pz⟩ B C),.i6 (iI (aF (aD 300 m)) (p.joints.map (bG jb)).length b)])
theorem Ws:bQ 40 VO:=by
 refine cK Tryz.f40 fun _ _ _ S w0 h ho=> ?_
 unfold VO at h;split at h <;> cases h;rename_i M ax jb az A2 tu A3 J b px B pz C tx TX tz TZ;obtain⟨o1,o2,o3,o4,o5,o6,o7,o8,o9,o10⟩:=ho.e10;have K:=(((((kn.cons UT).cons TS).cons UV).cons Tn).cons UU).cons Hz;generalize hm:aF M=m at*;subst o1;clear hm;obtain⟨p,hp⟩:∃ p:PoseD,p=⟨⟨ax,az⟩,tu,J.map gM⟩:=⟨_,rfl⟩;have hpj:p.joints.length=J.length:=by rw[hp];simp
 rw[<- hp]
 try rw[<- hpj]
 refine Good.weak 45 [(0,.agg (aD 300 m)),(1,.agg (aW jb p)),(2,.i6 b),(3,.agg [.q px B,.q pz C]),(4,.agg [.q tx TX,.q tz TZ])] (by kernel_rfl) (.r (.cons (by rw[hp];exact Ref.pose o4 o5 o7) (.r (.r (.r .nil))))) ?_;clear hp;have s1:aD 300 m=aD 300 (aF (aD 300 m)):=by rw[aU]
 have s2:(aF (aD 300 m)).small:=by rw[aU];exact o2
 have s3:(aF (aD 300 m)).bodies.length<=8:=by rw[aU];exact o3
 have s4:Ref (.list 3 (p.joints.map (bG jb))) (.list 3 (((p.joints.map (bG jb)).map gM).map (bG jb))):=Ref.eq (by rw[gG]);have s5:(p.joints.map (bG jb)).length<=4611686018427387904:=by rw[bH,hpj];exact o8
 have s7:SZ jb<=153753600:=by unfold SZ;omega
 have s8:LIM=17592186044416:=rfl;obtain⟨h,hh⟩:∃ h,h=Fk m p b:=⟨_,rfl⟩;obtain⟨u,hu⟩:∃ u,u=Ed m b:=⟨_,rfl⟩;obtain⟨v,hv⟩:∃ v,v=Cp m b:=⟨_,rfl⟩;obtain⟨y,hy⟩:∃ y,y=kT u v ⟨px,pz⟩ (jI h ⟨tx,tz⟩):=⟨_,rfl⟩;have hS:NL m p b ⟨px,pz⟩ ⟨tx,tz⟩=y:=by rw[hy,hh,hu,hv];rfl
 have hX:lX jb TX TZ=(TX+(4*SZ jb+608)+2)+(TZ+(4*SZ jb+608)+2)+SZ jb+SZ jb+6:=rfl
 by_cases h1:(iI m p.joints.length b)=(0:Int)
 · have v0:Ref (LV jb m p b px pz B C) (.tup (IL h jb u v px B pz C)):=by exact Lk hh hu hv h1
   have v1:Ref (.tup [.list 19 ((xU u.low u.high v.low v.high ⟨v.at_.x,v.at_.z⟩ ⟨px,pz⟩ ⟨((jI h ⟨tx,tz⟩).x),((jI h ⟨tx,tz⟩).z)⟩).1.map (eB (Ea B C (lX jb TX TZ) (lX jb TX TZ)) (Eb B C (lX jb TX TZ) (lX jb TX TZ)) (Ec B C (lX jb TX TZ) (lX jb TX TZ)) (bT B C (lX jb TX TZ) (lX jb TX TZ)))),.bool ((xU u.low u.high v.low v.high ⟨v.at_.x,v.at_.z⟩ ⟨px,pz⟩ ⟨((jI h ⟨tx,tz⟩).x),((jI h ⟨tx,tz⟩).z)⟩).2)]) (.tup (IM y B C jb TX TZ)):=by exact Ref.eq (by rw[hy];rfl)
   have v2:Ref (.agg [.q (h.c*(tx-h.at_.x)-(-h.s)*(tz-h.at_.z)) ((TX+(4*SZ jb+608)+2)+(TZ+(4*SZ jb+608)+2)+(SZ jb)+(SZ jb)+6),.q ((-h.s)*(tx-h.at_.x)+h.c*(tz-h.at_.z)) ((TX+(4*SZ jb+608)+2)+(TZ+(4*SZ jb+608)+2)+(SZ jb)+(SZ jb)+6)]) (.agg [.q ((jI h ⟨tx,tz⟩).x) (lX jb TX TZ),.q ((jI h ⟨tx,tz⟩).z) (lX jb TX TZ)]):=Ref.agg (RefC.cons qe qe);have v3:(TX+(4*SZ jb+608)+2)+(TZ+(4*SZ jb+608)+2)+(SZ jb)+(SZ jb)+300<=LIM:=by omega
   have v4:TX+TZ+(4*SZ jb+608)+(4*SZ jb+608)+300<=LIM:=by omega
   rcases Bool.eq_false_or_eq_true (!y.2) with h2 | h2
   · refine rF K [(16,.tup (IL h jb u v px B pz C)),(38,.agg [.q ((jI h ⟨tx,tz⟩).x) (lX jb TX TZ),.q ((jI h ⟨tx,tz⟩).z) (lX jb TX TZ)]),(27,.tup (IM y B C jb TX TZ)),(43,tt)] (.c6 s1 s2 s3 (rl jb) (rl jb) o6 (.c6 s4 s5 v0 v4 v2 v3 (.a3 o9 v1 (show Ref (.bool (!y.2)) (.bool true) from Ref.bool h2)))) (V:=.tup [AV.nil,.i6 (10:Int)]) ?_
     have e:pS m p b ⟨px,pz⟩ ⟨tx,tz⟩=10:=by unfold pS;rw[if_pos h1,hS,if_neg (by simpa using h2)]
     rw[show xX m p b ⟨px,pz⟩ ⟨tx,tz⟩= [] from if_neg (by rw[e];decide),e];exact Ref.tup2 Ref.nilL rr rfl rfl rfl rfl
   · refine rF K [(16,.tup (IL h jb u v px B pz C)),(38,.agg [.q ((jI h ⟨tx,tz⟩).x) (lX jb TX TZ),.q ((jI h ⟨tx,tz⟩).z) (lX jb TX TZ)]),(27,.tup (IM y B C jb TX TZ)),(43,ff)] (.c6 s1 s2 s3 (rl jb) (rl jb) o6 (.c6 s4 s5 v0 v4 v2 v3 (.a3 o9 v1 (show Ref (.bool (!y.2)) (.bool false) from Ref.bool h2)))) (V:=.tup [.list 19 (y.1.map (eB (Ea B C (lX jb TX TZ) (lX jb TX TZ)) (Eb B C (lX jb TX TZ) (lX jb TX TZ)) (Ec B C (lX jb TX TZ) (lX jb TX TZ)) (bT B C (lX jb TX TZ) (lX jb TX TZ)))),.i6 (0:Int)]) ?_
     have e:pS m p b ⟨px,pz⟩ ⟨tx,tz⟩=0:=by unfold pS;rw[if_pos h1,hS,if_pos (by simpa using h2)]
     rw[show xX m p b ⟨px,pz⟩ ⟨tx,tz⟩=y.1 from by unfold xX;rw[if_pos e,hS],e];exact rr
 · refine rF K [(16,.tup [.agg (LU),.i6 (iI m p.joints.length b)]),(25,tt)] (.c6 s1 s2 s3 (rl jb) (rl jb) o6 (.a4 s4 s5 (show Ref (LV jb m p b px pz B C) (.tup [.agg (LU),.i6 (iI m p.joints.length b)]) by exact Ll h1) (jT h1))) (V:=.tup [AV.nil,.i6 (iI m p.joints.length b)]) ?_
   have e:pS m p b ⟨px,pz⟩ ⟨tx,tz⟩=iI m p.joints.length b:=by unfold pS;rw[if_neg h1]
   rw[show xX m p b ⟨px,pz⟩ ⟨tx,tz⟩= [] from if_neg (by rw[e];exact h1),e];exact Ref.tup2 Ref.nilL rr rfl rfl rfl rfl
def VP:KF
 | [.int .i64 x,.int .i64 z]=>some (.agg [.q (x:Rat) 64,.q (z:Rat) 64],[(-9223372036854775808:Int)<=x,x<=(9223372036854775807:Int),(-9223372036854775808:Int)<=z,z<=(9223372036854775807:Int)])
 | _=>none
theorem UW:bQ 98 VP:=by
 refine cK Tryz.f98 fun _ _ _ S w0 h ho=> ?_
 unfold VP at h;split at h <;> cases h;rename_i x z;obtain⟨o1,o2,o3,o4⟩:=ho.e4;have K:=kn.cons Kl;exact rR K [] (.a4 o1 o2 o3 o4)
def Lm:=((kn.cons UW).cons Ow).cons Kl
theorem RefC.list3 {e:Nat} {a b c a' b' c':List AV} {cs:List AV} (h1:RefC a a') (h2:RefC b b') (h3:RefC c c'):RefC (.list e [a,b,c]::cs) (.list e [a',b',c']::cs):=RefC.listW rfl fun i el el' k1 k2=>by
 match i,k1,k2 with
 | 0,k1,k2=>simp at k1 k2;subst k1;subst k2;exact h1
 | 1,k1,k2=>simp at k1 k2;subst k1;subst k2;exact h2
 | 2,k1,k2=>simp at k1 k2;subst k1;subst k2;exact h3
 | i+3,k1,k2=>simp at k1
def bZ:MachD:=⟨ByteArray.mk #[119,97,108,107,101,114],[⟨ByteArray.mk #[116,114,117,110,107],-1,⟨0,0⟩,⟨0,0⟩,2,1,0,0,[]⟩,⟨ByteArray.mk #[108,101,103],0,⟨0,0⟩,⟨0,-1⟩,1,1,-1,1,[]⟩,⟨ByteArray.mk #[115,104,105,110],1,⟨0,-2⟩,⟨0,-1⟩,1,1,-1,1,[]⟩],[],[],[],[]⟩
theorem Dg {n:ByteArray} {p:Int} {ax az ma ir cx cz lo hi:Rat} {B1 B2 B3 B4 B5 B6 B7 B8:Nat} (h:B1<=300/\B2<=300/\B3<=300/\B4<=300/\B5<=300/\B6<=300/\B7<=300/\B8<=300):RefC [.str n,.i6 p,.q ax B1,.q az B2,.q ma B3,.q ir B4,.q cx B5,.q cz B6,.q lo B7,.q hi B8,.nil] (aE 300 ⟨n,p,⟨ax,az⟩,⟨cx,cz⟩,ma,ir,lo,hi,[]⟩):=
 .tl (.tl (.cons (RefC.q_le h.1) (.cons (RefC.q_le h.2.1) (.cons (RefC.q_le h.2.2.1) (.cons (RefC.q_le h.2.2.2.1) (.cons (RefC.q_le h.2.2.2.2.1) (.cons (RefC.q_le h.2.2.2.2.2.1) (.cons (RefC.q_le h.2.2.2.2.2.2.1) (.cons (RefC.q_le h.2.2.2.2.2.2.2) RefC.nilL)))))))))
def VQ:KF
 | []=>some (.agg (aD 300 bZ),[])
 | _=>none
theorem Wt:bQ 96 VQ:=by
 refine cK Tryz.f96 fun _ _ _ S w0 h ho=> ?_
 unfold VQ at h;split at h <;> cases h;have v0:(-9223372036854775808:Int)<=0:=by decide
 have v1:0<=(9223372036854775807:Int):=by decide
 have v2:(-9223372036854775808:Int)<=(-1):=by decide
 have v3:(-1)<=(9223372036854775807:Int):=by decide
 refine gN Lm [0] [] (.c6 (dc ((-9223372036854775808:Int)<=1)) (dc (1<=(9223372036854775807:Int))) (dc ((-9223372036854775808:Int)<=2)) (dc (2<=(9223372036854775807:Int))) v0 v1 (.c6 v2 v3 v0 v1 (dc ((-9223372036854775808:Int)<=(-2))) (dc ((-2)<=(9223372036854775807:Int))) (.a4 v0 v1 v2 v3))) (t:=[.code .ret]) (σ:=slots 23 [(0,.ptr 0 6 0 0)]) (h:=[some ⟨41,6,false,[[.str (ByteArray.mk #[119,97,108,107,101,114]),.own 9 27 0 3,.nil,.nil,.nil,.nil]],none⟩,none,some ⟨56,3,false,[[.q (1:Rat) 64]],none⟩,none,none,none,none,none,none,some ⟨114,27,false,[[.str (ByteArray.mk #[116,114,117,110,107]),.i6 (-1:Int),.q 0 0,.q 0 0,.q (2:Rat) 64,.q (1:Rat) 64,.q 0 0,.q 0 0,.q 0 0,.q 0 0,.nil],[.str (ByteArray.mk #[108,101,103]),.i6 (0:Int),.q 0 0,.q 0 0,.q (1:Rat) 64,.q (1:Rat) 64,.q (0:Rat) 64,.q ((-1):Rat) 64,.q (-(1:Rat)) 64,.q (1:Rat) 64,.nil],[.str (ByteArray.mk #[115,104,105,110]),.i6 (1:Int),.q (0:Rat) 64,.q ((-2):Rat) 64,.q (1:Rat) 64,.q (1:Rat) 64,.q (0:Rat) 64,.q ((-1):Rat) 64,.q (-(1:Rat)) 64,.q (1:Rat) 64,.nil]],none⟩]) ?_
 refine Good.freezeD (b:=⟨114,27,false,[[(.str (ByteArray.mk #[116,114,117,110,107])),(.i6 (-1:Int)),(.q 0 0),(.q 0 0),(.q (2:Rat) 64),(.q (1:Rat) 64),(.q 0 0),(.q 0 0),(.q 0 0),(.q 0 0),.nil],[(.str (ByteArray.mk #[108,101,103])),(.i6 (0:Int)),(.q 0 0),(.q 0 0),(.q (1:Rat) 64),(.q (1:Rat) 64),(.q (0:Rat) 64),(.q ((-1):Rat) 64),(.q (-(1:Rat)) 64),(.q (1:Rat) 64),.nil],[(.str (ByteArray.mk #[115,104,105,110])),(.i6 (1:Int)),(.q (0:Rat) 64),(.q ((-2):Rat) 64),(.q (1:Rat) 64),(.q (1:Rat) 64),(.q (0:Rat) 64),(.q ((-1):Rat) 64),(.q (-(1:Rat)) 64),(.q (1:Rat) 64),.nil]],none⟩) 9 (by rfl) (by rfl) .on (.oe (.a1 (dc (0+3<=3)))) ?_;refine gE [(AV.agg [(AV.str (ByteArray.mk #[119,97,108,107,101,114])),(AV.list 27 [[(AV.str (ByteArray.mk #[116,114,117,110,107])),(AV.int .i64 (-1:Int)),(AV.q 0 0),(AV.q 0 0),(AV.q (2:Rat) 64),(AV.q (1:Rat) 64),(AV.q 0 0),(AV.q 0 0),(AV.q 0 0),(AV.q 0 0),AV.nil],[(AV.str (ByteArray.mk #[108,101,103])),(AV.int .i64 (0:Int)),(AV.q 0 0),(AV.q 0 0),(AV.q (1:Rat) 64),(AV.q (1:Rat) 64),(AV.q (0:Rat) 64),(AV.q ((-1):Rat) 64),(AV.q (-(1:Rat)) 64),(AV.q (1:Rat) 64),AV.nil],[(AV.str (ByteArray.mk #[115,104,105,110])),(AV.int .i64 (1:Int)),(AV.q (0:Rat) 64),(AV.q ((-2):Rat) 64),(AV.q (1:Rat) 64),(AV.q (1:Rat) 64),(AV.q (0:Rat) 64),(AV.q ((-1):Rat) 64),(AV.q (-(1:Rat)) 64),(AV.q (1:Rat) 64),AV.nil]]),AV.nil,AV.nil,AV.nil,AV.nil])] ?_
 show Ref (AV.agg [(AV.str (ByteArray.mk #[119,97,108,107,101,114])),(AV.list 27 [[(AV.str (ByteArray.mk #[116,114,117,110,107])),(AV.int .i64 (-1:Int)),(AV.q 0 0),(AV.q 0 0),(AV.q (2:Rat) 64),(AV.q (1:Rat) 64),(AV.q 0 0),(AV.q 0 0),(AV.q 0 0),(AV.q 0 0),AV.nil],[(AV.str (ByteArray.mk #[108,101,103])),(AV.int .i64 (0:Int)),(AV.q 0 0),(AV.q 0 0),(AV.q (1:Rat) 64),(AV.q (1:Rat) 64),(AV.q (0:Rat) 64),(AV.q ((-1):Rat) 64),(AV.q (-(1:Rat)) 64),(AV.q (1:Rat) 64),AV.nil],[(AV.str (ByteArray.mk #[115,104,105,110])),(AV.int .i64 (1:Int)),(AV.q (0:Rat) 64),(AV.q ((-2):Rat) 64),(AV.q (1:Rat) 64),(AV.q (1:Rat) 64),(AV.q (0:Rat) 64),(AV.q ((-1):Rat) 64),(AV.q (-(1:Rat)) 64),(AV.q (1:Rat) 64),AV.nil]]),AV.nil,AV.nil,AV.nil,AV.nil]) (.agg (aD 300 bZ));exact Ref.agg (RefC.tl (RefC.cons (RefC.list3 (Dg (by decide)) (Dg (by decide)) (Dg (by decide))) (RefC.cons RefC.nilL (RefC.cons RefC.nilL (RefC.cons RefC.nilL RefC.nilL)))))
def Ln:=(kn.cons UW).cons Kl
def VR:KF
 | [.int .i64 x,.int .i64 z]=>some (.agg [.q 0 64,.q 4 64,.q 0 0,.list 3 [[.q (x:Rat) 64],[.q (z:Rat) 64]]],[(-9223372036854775808:Int)<=x,x<=(9223372036854775807:Int),(-9223372036854775808:Int)<=z,z<=(9223372036854775807:Int)])
 | _=>none
theorem Wu:bQ 97 VR:=by
 refine cK Tryz.f97 fun _ _ _ S w0 h ho=> ?_
 unfold VR at h;split at h <;> cases h;rename_i x z;obtain⟨o1,o2,o3,o4⟩:=ho.e4;refine gN Ln [4] [] (.c6 (dc ((-9223372036854775808:Int)<=0)) (dc (0<=(9223372036854775807:Int))) (dc ((-9223372036854775808:Int)<=4)) (dc (4<=(9223372036854775807:Int))) o1 o2 (.a2 o3 o4)) (t:=[.code .ret]) (σ:=slots 12 [(4,.ptr 0 10 0 0)]) (h:=[some ⟨61,10,false,[[.q (0:Rat) 64,.q (4:Rat) 64,.q 0 0,.own 4 3 0 2]],none⟩,none,none,none,some ⟨56,3,false,[[.q (x:Rat) 64],[.q (z:Rat) 64]],none⟩]) ?_
 refine Good.freezeD (b:=⟨56,3,false,[[(.q (x:Rat) 64)],[(.q (z:Rat) 64)]],none⟩) 4 (by rfl) (by rfl) .on (.oe (.a1 (dc (0+2<=2)))) ?_;refine gE [(AV.agg [(AV.q (0:Rat) 64),(AV.q (4:Rat) 64),(AV.q 0 0),(AV.list 3 [[(AV.q (x:Rat) 64)],[(AV.q (z:Rat) 64)]])])] ?_;show Ref (AV.agg [(AV.q (0:Rat) 64),(AV.q (4:Rat) 64),(AV.q 0 0),(AV.list 3 [[(AV.q (x:Rat) 64)],[(AV.q (z:Rat) 64)]])]) (.agg [.q 0 64,.q 4 64,.q 0 0,.list 3 [[.q (x:Rat) 64],[.q (z:Rat) 64]]]);exact rr
deriving instance DecidableEq for PtD,Sd,BendD
abbrev lH (a b:Rat):PoseD:=⟨⟨0,4⟩,0,[a,b]⟩
theorem Sy (a:Rat) (x z:Rat) (h1:bK bZ 2 2=0) (h2:jH bZ (lH a 0) 2 ⟨(0:Rat),(-2:Rat)⟩=⟨x,z⟩):Ref (.tup [.agg [.q (jH bZ (lH a 0) 2 ⟨(0:Rat),(-2:Rat)⟩).x (4*SZ 64+64+64+8),.q (jH bZ (lH a 0) 2 ⟨(0:Rat),(-2:Rat)⟩).z (4*SZ 64+64+64+8)],.i6 (bK bZ 2 2)]) (.tup [.agg [.q x 24008,.q z 24008],.i6 0]):=Ref.eq (by rw[h1,h2];rfl)
theorem UX:Ref (.tup [.agg [.q (nB bZ (lH 0 0)).x (32*SZ 64+26656),.q (nB bZ (lH 0 0)).z (32*SZ 64+26656)],.i6 (bD bZ 2)]) (.tup [.agg [.q 0 217632,.q 3 217632],.i6 0]):=Ref.eq (by rw[show nB bZ (lH 0 0)=⟨0,3⟩ from by decide+kernel,show bD bZ 2=0 from by decide+kernel];rfl)
theorem UY:Ref (.tup [.list 19 ((xX bZ (lH 0 0) 2 ⟨(0:Rat),(-2:Rat)⟩ ⟨(2:Rat),(2:Rat)⟩).map (eB (Ea 64 64 (lX 64 64 64) (lX 64 64 64)) (Eb 64 64 (lX 64 64 64) (lX 64 64 64)) (Ec 64 64 (lX 64 64 64) (lX 64 64 64)) (bT 64 64 (lX 64 64 64) (lX 64 64 64)))),.i6 (pS bZ (lH 0 0) 2 ⟨(0:Rat),(-2:Rat)⟩ ⟨(2:Rat),(2:Rat)⟩)]) (.tup [.list 19 [[.q 1 18904124229,.q 0 9452927697,.q 0 3462331,.q (-1) 1731164,.q 0 1731164,.q 0 1731164,.bool true],[.q (0:Rat) 18904124229,.q 0 9452927697,.q 0 3462331,.q 1 1731164,.q 0 1731164,.q 0 1731164,.bool true]],.i6 0]):=Ref.eq (by rw[show xX bZ (lH 0 0) 2 ⟨(0:Rat),(-2:Rat)⟩ ⟨(2:Rat),(2:Rat)⟩= [⟨⟨1,0,0⟩,⟨-1,0,0⟩,true⟩,⟨⟨0,0,0⟩,⟨1,0,0⟩,true⟩] from by decide+kernel,show pS bZ (lH 0 0) 2 ⟨(0:Rat),(-2:Rat)⟩ ⟨(2:Rat),(2:Rat)⟩=0 from by decide+kernel];rfl)
def VS:KF
 | []=>some (.bool true,[])
 | _=>none
abbrev zT:List AV:=[.str (bZ.name),.list 27 (bZ.bodies.map (aE 300)),.list 17 (bZ.springs.map (aJ 300)),.list 17 (bZ.tendons.map (aJ 300)),.list 13 (bZ.motors.map (aP 300)),.list 5 (bZ.feet.map (aX 300))]
abbrev sD:=(aF [(AV.str (bZ.name)),(AV.list 27 (bZ.bodies.map (aE 300))),(AV.list 17 (bZ.springs.map (aJ 300))),(AV.list 17 (bZ.tendons.map (aJ 300))),(AV.list 13 (bZ.motors.map (aP 300))),(AV.list 5 (bZ.feet.map (aX 300)))])
theorem Wv:bQ 22 VS:=by
 refine cK Tryz.f22 fun _ _ _ S w0 h ho=> ?_
 unfold VS at h;split at h <;> cases h;have K:=(((((((((kn.cons Cn).cons GT).cons Kl).cons Wr).cons Ws).cons Wq).cons Wk).cons UW).cons Wu).cons Wt;have v0:(zT)=aD 300 (aF (zT)):=by rfl
 have v1:(sD).bodies.length<=8:=by decide+kernel
 have v2:(-9223372036854775808:Int)<=0:=by decide
 have v3:0<=(9223372036854775807:Int):=by decide
 have v4:Ref (.list 3 [[.q (0:Rat) 64],[.q (0:Rat) 64]]) (.list 3 (([[(AV.q (0:Rat) 64)],[(AV.q (0:Rat) 64)]].map gM).map (bG 64))):=rr;have v5: [[(AV.q (0:Rat) 64)],[(AV.q (0:Rat) 64)]].length<=4611686018427387904:=by decide+kernel
 have v6:24008+300<=LIM:=by decide+kernel
 have v7:(-9223372036854775808:Int)<=(-2):=by decide+kernel
 have v8:(-2)<=(9223372036854775807:Int):=by decide+kernel
 have v9:64<=100000:=by decide
 have v10:64<=64:=by decide
 have v11:8*SZ 64+2*64+2*64+400<=LIM:=by decide+kernel
 have v12:0<=64:=by decide
 have v13:0<=(0:Int):=by decide
 have v14:(0:Int)<2:=by decide
 have v15:(-9223372036854775808:Int)<=1:=by decide
 have v16:(-9223372036854775808:Int)<=2:=by decide
 have v17:(-9223372036854775808:Int)<=4:=by decide
 have v18:1<=(9223372036854775807:Int):=by decide
 have v19:2<=(9223372036854775807:Int):=by decide
 have v20:4<=(9223372036854775807:Int):=by decide
 have v21:217632+300<=LIM:=by decide+kernel
 exact rR K [(10,.agg (zT)),(15,.tup [.agg [.q 0 24008,.q 0 24008],.i6 (0:Int)]),(22,.tup [.agg [.q 4 24008,.q 4 24008],.i6 (0:Int)]),(28,.tup [.agg [.q 0 217632,.q 3 217632],.i6 (0:Int)]),(36,.tup [.list 19 [[.q 1 18904124229,.q 0 9452927697,.q 0 3462331,.q (-1) 1731164,.q 0 1731164,.q 0 1731164,.bool true],[.q (0:Rat) 18904124229,.q 0 9452927697,.q 0 3462331,.q 1 1731164,.q 0 1731164,.q 0 1731164,.bool true]],.i6 (0:Int)]),(55,tt),(59,tt),(63,tt),(83,.i6 (0:Int)),(93,.i6 (0:Int)),(102,.i6 (0:Int))] (.c6 (show Ref (.agg (aD 300 bZ)) (.agg (zT)) from rr) v2 v3 v2 v3 v2 (.c6 v3 v7 v8 (show Ref (.tup [.agg [.q ((jH (sD) ⟨⟨0,4⟩,0,[[(AV.q (0:Rat) 64)],[(AV.q (0:Rat) 64)]].map gM⟩ 2 ⟨(0:Rat),((-2):Rat)⟩).x) (4*SZ 64+64+64+8),.q ((jH (sD) ⟨⟨0,4⟩,0,[[(AV.q (0:Rat) 64)],[(AV.q (0:Rat) 64)]].map gM⟩ 2 ⟨(0:Rat),((-2):Rat)⟩).z) (4*SZ 64+64+64+8)],.i6 (bK (aF (zT)) [[(AV.q (0:Rat) 64)],[(AV.q (0:Rat) 64)]].length 2)]) (.tup [.agg [.q 0 24008,.q 0 24008],.i6 (0:Int)]) from Sy 0 0 0 (by decide+kernel) (by decide+kernel)) v0 (show(sD).small by(refine⟨?_, ?_, ?_, ?_, ?_⟩ <;> decide+kernel)) (.c6 v1 v10 v12 v9 v4 v5 (.c6 v11 v15 v18 v2 v3 v2 (.c6 v3 v7 v8 (show Ref (.tup [.agg [.q ((jH (sD) ⟨⟨0,4⟩,0,[[(AV.q (1:Rat) 64)],[(AV.q (0:Rat) 64)]].map gM⟩ 2 ⟨(0:Rat),((-2):Rat)⟩).x) (4*SZ 64+64+64+8),.q ((jH (sD) ⟨⟨0,4⟩,0,[[(AV.q (1:Rat) 64)],[(AV.q (0:Rat) 64)]].map gM⟩ 2 ⟨(0:Rat),((-2):Rat)⟩).z) (4*SZ 64+64+64+8)],.i6 (bK (aF (zT)) [[(AV.q (1:Rat) 64)],[(AV.q (0:Rat) 64)]].length 2)]) (.tup [.agg [.q 4 24008,.q 4 24008],.i6 (0:Int)]) from Sy 1 4 4 (by decide+kernel) (by decide+kernel)) v0 (show(sD).small by(refine⟨?_, ?_, ?_, ?_, ?_⟩ <;> decide+kernel)) (.c6 v1 v10 v12 v9 (show Ref (.list 3 [[.q (1:Rat) 64],[.q (0:Rat) 64]]) (.list 3 (([[(AV.q (1:Rat) 64)],[(AV.q (0:Rat) 64)]].map gM).map (bG 64))) from rr) (show [[(AV.q (1:Rat) 64)],[(AV.q (0:Rat) 64)]].length<=4611686018427387904 by decide+kernel) (.c6 v11 v2 v3 v2 v3 UX (.c6 v0 (show(sD).small by(refine⟨?_, ?_, ?_, ?_, ?_⟩ <;> decide+kernel)) v1 v10 v12 v9 (.c6 v4 v5 v2 v3 v2 v3 (.c6 v2 v3 v7 v8 v16 v19 (.c6 v16 v19 UY v0 (show(sD).small by(refine⟨?_, ?_, ?_, ?_, ?_⟩ <;> decide+kernel)) v1 (.c6 v10 v12 v9 v4 v5 (show 8*Ea 64 64 (lX 64 64 64) (lX 64 64 64)+8*Eb 64 64 (lX 64 64 64) (lX 64 64 64)+4*Ec 64 64 (lX 64 64 64) (lX 64 64 64)+400*bT 64 64 (lX 64 64 64) (lX 64 64 64)+20000<=LIM by decide+kernel) (.c6 (show 64+64+20*SZ 64+20000<=LIM by decide+kernel) (show Ref (.bool (decide (0=(0:Rat)/\0=(0:Rat)))) (.bool true) from Ref.bool (by decide+kernel)) v6 v6 v2 v3 (.c6 v2 v3 (show Ref (.bool (decide (4=(4:Rat)/\4=(4:Rat)))) (.bool true) from Ref.bool (by decide+kernel)) v6 v6 v17 (.c6 v20 v17 v20 (show Ref (.bool (decide (0=(0:Rat)/\3=(3:Rat)))) (.bool true) from Ref.bool (by decide+kernel)) v21 v21 (.c6 v2 v3 (dc ((-9223372036854775808:Int)<=3)) (dc (3<=(9223372036854775807:Int))) v13 v14 (.c6 v13 v14 v15 v18 (show Ref (.i6 (kV 1 (1:Rat))) (.i6 (0:Int)) from Ref.eq (congrArg _ (by decide+kernel))) (show 18904124229+64+200<=LIM by decide+kernel) (.c6 v13 v14 (show(-9223372036854775808:Int)<=(-1) by decide+kernel) (show(-1)<=(9223372036854775807:Int) by decide+kernel) (show Ref (.i6 (kV (-1) ((-1):Rat))) (.i6 (0:Int)) from Ref.eq (congrArg _ (by decide+kernel))) (show 1731164+64+200<=LIM by decide+kernel) (.a3 (dc (0<=(1:Int))) (dc ((1:Int)<2)) (show Ref (.i6 (Int.sign (0:Rat).num)) (.i6 (0:Int)) from Ref.eq (congrArg _ (by decide+kernel))))))))))))))))))))))
def qK (jb:Nat) (m:MachD) (p:PoseD) (b:Int) (x:PtD) (E:Nat):AV:=if bK m p.joints.length b=0 then .list 1 (yG m (fr m p) b x E) else .nil
theorem tW {m:MachD} (hc:dW m=0) {F G:Nat->FrameD} (h:∀ i,i<m.bodies.length->F i=G i) (X:PtD):∀ (n:Nat) (b:Int) (Y Z:List Rat),b<((m.bodies.length:Nat):Int)->dH m F X n b Y Z=dH m G X n b Y Z
 | 0,b,Y,Z,_=>rfl
 | n +1,b,Y,Z,hb=>by
   unfold dH
   split
   · rename_i h0
     have hp:=CZ hc h0 hb;rw[h b.toNat (by omega)];exact tW hc h X n _ _ _ (by omega)
   · rfl
theorem Dh {m:MachD} (hc:dW m=0) {F G:Nat->FrameD} (h:∀ i,i<m.bodies.length->F i=G i) {b:Int} {x:PtD} {E:Nat} (h0:0<=b) (hb:b<((m.bodies.length:Nat):Int)):yG m F b x E=yG m G b x E:=by
 unfold yG tG;rw[h b.toNat (by omega),tW hc h _ _ _ _ _ hb]
theorem Sz {jb:Nat} {m:MachD} {p:PoseD} (hn:0<m.bodies.length):xM (((List.range m.bodies.length).map fun i=>dS (SZ jb) (fr m p i)).getD 0 [])=SZ jb/\∀ i,i<m.bodies.length->LI (((List.range m.bodies.length).map fun i=>dS (SZ jb) (fr m p i)).getD i [])=fr m p i:=
 ⟨by rw[AH hn];rfl,fun i hi=>by rw[AH hi];rfl⟩
theorem NM {jb:Nat} {m:MachD} {p:PoseD} (hn:0<m.bodies.length):((List.range m.bodies.length).map fun i=>dS (SZ jb) (fr m p i))=(List.range m.bodies.length).map fun i=>dS (xM (((List.range m.bodies.length).map fun i=>dS (SZ jb) (fr m p i)).getD 0 [])) (LI (((List.range m.bodies.length).map fun i=>dS (SZ jb) (fr m p i)).getD i [])):=
 List.map_congr_left fun i hi=>by rw[(Sz hn).1,(Sz hn).2 i (List.mem_range.1 hi)]
def VT:KF
 | [.agg M,.agg [.q ax jb,.q az A2,.q tu A3,.list 3 J],.int .i64 b,.agg [.q px B,.q pz C]]=>some (.tup [qK jb (aF M) ⟨⟨ax,az⟩,tu,J.map gM⟩ b ⟨px,pz⟩ (6*SZ jb+B+C+74),.int .i64 (bK (aF M) J.length b)],[M=aD 300 (aF M),(aF M).small,(aF M).bodies.length<=8,A2<=jb,A3<=jb,jb<=100000,Ref (.list 3 J) (.list 3 ((J.map gM).map (bG jb))),J.length<=4611686018427387904,12*SZ jb+3*B+3*C+1000<=LIM])
 | _=>none
theorem Ww:bQ 31 VT:=by
 refine cK Tryz.f31 fun _ _ _ S w0 h ho=> ?_
 unfold VT at h;split at h <;> cases h;rename_i M ax jb az A2 tu A3 J b px B pz C;obtain⟨o1,o2,o3,o4,o5,o6,o7,o8,o9⟩:=ho.e9;have K:=((kn.cons Ur).cons Ni).cons Hz;generalize hm:aF M=m at*;subst o1;clear hm;obtain⟨p,hp⟩:∃ p:PoseD,p=⟨⟨ax,az⟩,tu,J.map gM⟩:=⟨_,rfl⟩;have hpj:p.joints.length=J.length:=by rw[hp];simp
 rw[<- hp]
 try rw[<- hpj]
 refine Good.weak 31 [(0,.agg (aD 300 m)),(1,.agg (aW jb p)),(2,.i6 b),(3,.agg [.q px B,.q pz C])] (by kernel_rfl) (.r (.cons (by rw[hp];exact Ref.pose o4 o5 o7) (.r (.r .nil)))) ?_;clear hp;have s1:aD 300 m=aD 300 (aF (aD 300 m)):=by rw[aU]
 have s2:(aF (aD 300 m)).small:=by rw[aU];exact o2
 have s3:(aF (aD 300 m)).bodies.length<=8:=by rw[aU];exact o3
 have s4:Ref (.list 3 (p.joints.map (bG jb))) (.list 3 (((p.joints.map (bG jb)).map gM).map (bG jb))):=Ref.eq (by rw[gG]);have s5:(p.joints.map (bG jb)).length<=4611686018427387904:=by rw[bH,hpj];exact o8
 have s7:SZ jb<=153753600:=by unfold SZ;omega
 have s8:LIM=17592186044416:=rfl;have s6:aF (aD 300 m)=m:=aU m
 by_cases h1:(bD m p.joints.length)=(0:Int)
 · have v0:Ref (.tup [(iE jb (aF (aD 300 m)) ⟨⟨p.at_.x,p.at_.z⟩,p.turn,(p.joints.map (bG jb)).map gM⟩),.i6 (bD (aF (aD 300 m)) (p.joints.map (bG jb)).length)]) (.tup [.cptr [.str m.name,.list 27 (m.bodies.map (aE 300)),.list 17 (m.springs.map (aJ 300)),.list 17 (m.tendons.map (aJ 300)),.list 13 (m.motors.map (aP 300)),.list 5 (m.feet.map (aX 300)),.list 12 ((List.range m.bodies.length).map fun i=>dS (SZ jb) (fr m p i))] 0,.i6 (0:Int)]):=by exact cM h1
   by_cases h2:0<=b/\b<(((m.bodies.map (aE 300)).length:Nat):Int)
   · refine rF K [(15,.tup [.cptr [.str m.name,.list 27 (m.bodies.map (aE 300)),.list 17 (m.springs.map (aJ 300)),.list 17 (m.tendons.map (aJ 300)),.list 13 (m.motors.map (aP 300)),.list 5 (m.feet.map (aX 300)),.list 12 ((List.range m.bodies.length).map fun i=>dS (SZ jb) (fr m p i))] 0,.i6 (0:Int)]),(22,ff),(30,.list 1 (yG m (fr m p) b ⟨px,pz⟩ (6*SZ jb+B+C+74)))] (.c6 v0 s1 s2 s3 (rl jb) (rl jb) (.c6 o6 s4 s5 (jF h2) (show Ref (.list 1 (yG (aF (aD 300 m)) (fun i=>LI (((List.range m.bodies.length).map fun i=>dS (SZ jb) (fr m p i)).getD i [])) b ⟨px,pz⟩ (6*xM (((List.range m.bodies.length).map fun i=>dS (SZ jb) (fr m p i)).getD 0 [])+B+C+74))) (.list 1 (yG m (fr m p) b ⟨px,pz⟩ (6*SZ jb+B+C+74))) by(have hc0:=(gF h1).1;have hn0:0<m.bodies.length:=(by have:=(jD hc0).1;omega);have h2b:=h2;simp only[bH] at h2b;exact Ref.eq (by rw[s6];exact congrArg _ ((Dh hc0 (Sz hn0).2 h2b.1 h2b.2).trans (by rw[(Sz hn0).1]))))) s1 (.a6 (show dW (aF (aD 300 m))=0 by rw[s6];exact(gF h1).1) s3 (show((List.range m.bodies.length).map fun i=>dS (SZ jb) (fr m p i))=(List.range (aF (aD 300 m)).bodies.length).map fun i=>dS (xM (((List.range m.bodies.length).map fun i=>dS (SZ jb) (fr m p i)).getD 0 [])) (LI (((List.range m.bodies.length).map fun i=>dS (SZ jb) (fr m p i)).getD i [])) by rw[s6];exact NM (by have:=(jD (gF h1).1).1;omega)) (show 0<=b by(try rw[s6]);(try simp only[bH,List.length_range] at*);omega) (show b<((aF (aD 300 m)).bodies.length:Int) by(try rw[s6]);(try simp only[bH,List.length_range] at*);omega) (show 12*xM (((List.range m.bodies.length).map fun i=>dS (SZ jb) (fr m p i)).getD 0 [])+3*B+3*C+1000<=LIM by rw[(Sz (by have:=(jD (gF h1).1).1;omega)).1];omega)))) (V:=.tup [.list 1 (yG m (fr m p) b ⟨px,pz⟩ (6*SZ jb+B+C+74)),.i6 (0:Int)]) ?_
     have e:bK m p.joints.length b=0:=by unfold bK;rw[if_pos h1,if_pos (by simpa using h2)]
     have v:qK jb m p b ⟨px,pz⟩ (6*SZ jb+B+C+74)= .list 1 (yG m (fr m p) b ⟨px,pz⟩ (6*SZ jb+B+C+74)):=if_pos e;rw[v,e];exact rr
   · refine rF K [(15,.tup [.cptr [.str m.name,.list 27 (m.bodies.map (aE 300)),.list 17 (m.springs.map (aJ 300)),.list 17 (m.tendons.map (aJ 300)),.list 13 (m.motors.map (aP 300)),.list 5 (m.feet.map (aX 300)),.list 12 ((List.range m.bodies.length).map fun i=>dS (SZ jb) (fr m p i))] 0,.i6 (0:Int)]),(22,tt)] (.c6 v0 s1 s2 s3 (rl jb) (rl jb) (.a4 o6 s4 s5 (jT h2))) (V:=.tup [AV.nil,.i6 (3:Int)]) ?_
     have e:bK m p.joints.length b=3:=by unfold bK;rw[if_pos h1,if_neg (by simpa using h2)]
     have v:qK jb m p b ⟨px,pz⟩ (6*SZ jb+B+C+74)= .nil:=if_neg (by rw[e];decide);rw[v,e];exact rr
 · refine rF K [(15,.tup [.lit (.pointer none),.i6 (bD m p.joints.length)]),(18,tt)] (.c6 (show Ref (.tup [(iE jb (aF (aD 300 m)) ⟨⟨p.at_.x,p.at_.z⟩,p.turn,(p.joints.map (bG jb)).map gM⟩),.i6 (bD (aF (aD 300 m)) (p.joints.map (bG jb)).length)]) (.tup [.lit (.pointer none),.i6 (bD m p.joints.length)]) by exact cN h1) s1 s2 s3 (rl jb) (rl jb) (.a4 o6 s4 s5 (jT h1))) (V:=.tup [AV.nil,.i6 (bD m p.joints.length)]) ?_
   have e:bK m p.joints.length b=bD m p.joints.length:=by unfold bK;rw[if_neg h1]
   have v:qK jb m p b ⟨px,pz⟩ (6*SZ jb+B+C+74)= .nil:=if_neg (by rw[e];exact h1);rw[v,e];exact rr
def VU:KF
 | [.agg [.str mn,.list 27 XB,.list 17 XS,.list 17 XT,.list 13 XD,.list 5 XF],.agg [.q ax A1,.q az A2,.q tu A3,.list 3 J]]=>some (.int .i64 (bD (aF [AV.str mn,AV.list 27 XB,AV.list 17 XS,AV.list 17 XT,AV.list 13 XD,AV.list 5 XF]) J.length),[[AV.str mn,AV.list 27 XB,AV.list 17 XS,AV.list 17 XT,AV.list 13 XD,AV.list 5 XF]=aD 300 (aF [AV.str mn,AV.list 27 XB,AV.list 17 XS,AV.list 17 XT,AV.list 13 XD,AV.list 5 XF]),(aF [AV.str mn,AV.list 27 XB,AV.list 17 XS,AV.list 17 XT,AV.list 13 XD,AV.list 5 XF]).small,J.length<=4611686018427387904,XB.length<=4611686018427387904])
 | _=>none
theorem Wx:bQ 49 VU:=by
 refine cK Tryz.f49 fun _ _ _ S w0 h ho=> ?_
 unfold VU at h;split at h <;> cases h;rename_i mn XB XS XT XD XF ax A1 az A2 tu A3 J;obtain⟨o1,o2,o3,o4⟩:=ho.e4;have K:=kn.cons QH;have hb:((aF [AV.str mn,AV.list 27 XB,AV.list 17 XS,AV.list 17 XT,AV.list 13 XD,AV.list 5 XF]).bodies.length:Int)=((XB.length:Nat):Int):=by simp[aF]
 by_cases h1:(dW (aF [(AV.str mn),(AV.list 27 XB),(AV.list 17 XS),(AV.list 17 XT),(AV.list 13 XD),(AV.list 5 XF)]))=(0:Int)
 · by_cases h2:((J.length:Nat):Int)=(((XB.length:Nat):Int)-(1:Int))
   · exact rF K [(10,tt),(17,.i6 ((XB.length:Int)-(1:Int))),(19,ff)] (.a5 o1 o2 (iT h1) (wI ((XB.length:Int)-(1:Int)) ((XB.length:Int)-(1:Int)) (by first | assumption | omega)) (jF h2)) (V:=.i6 (dW (aF [.str mn,.list 27 XB,.list 17 XS,.list 17 XT,.list 13 XD,.list 5 XF]))) (Ref.int (by unfold bD;rw[if_pos h1,hb,if_pos h2];exact h1))
   · exact rF K [(10,tt),(17,.i6 ((XB.length:Int)-(1:Int))),(19,tt)] (.a5 o1 o2 (iT h1) (wI ((XB.length:Int)-(1:Int)) ((XB.length:Int)-(1:Int)) (by first | assumption | omega)) (jT h2)) (V:=.i6 (2:Int)) (Ref.int (by unfold bD;rw[if_pos h1,hb,if_neg h2]))
 · exact rF K [(10,ff)] (.a3 o1 o2 (iF h1)) (V:=.i6 (dW (aF [.str mn,.list 27 XB,.list 17 XS,.list 17 XT,.list 13 XD,.list 5 XF]))) (Ref.int (by unfold bD;rw[if_neg h1]))
def qL:=((((((((kn.cons Wn).cons Wo).cons Wx).cons Ww).cons SR).cons Wv).cons VZ).cons Wd).cons Wg
section
variable {S0 C0:Nat->Prop} {w0:World} {Post:Value->World->Prop}
theorem NN (r:RigD) (sd:StandD) (b:Int) (xs:SpotD) (m:MachD) (p:PoseD) (x:PtD) (h1:(!(r.small))=true) (o:(Ref (.bool ((hH [(AV.list 26 (r.limbs.map dF)),(AV.list 17 (r.springs.map cA)),(AV.list 17 (r.tendons.map cA)),(AV.list 13 (r.drives.map dK)),(AV.list 5 (r.soles.map dG))]).small)) (.bool (r.small)))/\((cL r)=cL (hH (cL r))))
   (hg:Good Tryz.prog 6 S0 C0 w0 Post [.code .ret,.code (aN [1,1] (aA Tryz.f6))] ⟨slots 94 [(2,.i6 b),(8,.bool true)],[]⟩):
   Good Tryz.prog 6 S0 C0 w0 Post [.code (aN [] (aA Tryz.f6))] ⟨slots 94 [(0,.agg (cL r)),(1,.agg [.i6 sd.at_.x.n,.i6 sd.at_.x.d,.int .u8 sd.at_.x.p,.i6 sd.at_.z.n,.i6 sd.at_.z.d,.int .u8 sd.at_.z.p,.i6 sd.turn.n,.i6 sd.turn.d,.int .u8 sd.turn.p,.list 3 (sd.joints.map unNum)]),(2,.i6 b),(3,.agg (unSpot xs))],[]⟩:=
 tR mixed aT qL 13 (some 6) [2,8,9,10,11,12,13,14] [] [(19,(.bool (r.small))),(21,(.bool true))] (ob:=[Ref (.bool ((hH [(AV.list 26 (r.limbs.map dF)),(AV.list 17 (r.springs.map cA)),(AV.list 17 (r.tendons.map cA)),(AV.list 13 (r.drives.map dK)),(AV.list 5 (r.soles.map dG))]).small)) (.bool (r.small)),(cL r)=cL (hH (cL r)),Ref (.bool (!(r.small))) (.bool true)]) (by decide) (by kernel_rfl)
   (.cons (o.1) (.cons (o.2) (.cons (Ref.bool h1) (AllP.nil)))) hg
theorem NO (m:MachD) (p:PoseD) (b:Int) (x:PtD) (A B C D:List (List AV)) (h1:¬ (b<(0:Int))) (h2:¬ ((((m.bodies.map (aE 300)).length:Nat):Int)<=b)) (o:(Ref (.tup [(qK 300 (aF (aD 300 m)) ⟨⟨p.at_.x,p.at_.z⟩,p.turn,(p.joints.map (bG 300)).map gM⟩ b ⟨x.x,x.z⟩ (6*SZ 300+300+300+74)),.i6 (bK (aF (aD 300 m)) (p.joints.map (bG 300)).length b)]) (.tup [.list 1 [[.list 3 A],[.list 3 B]],.i6 (0:Int)]))/\((aD 300 m)=aD 300 (aF (aD 300 m)))/\((aF (aD 300 m)).small)/\((aF (aD 300 m)).bodies.length<=8)/\(Ref (.list 3 (p.joints.map (bG 300))) (.list 3 (((p.joints.map (bG 300)).map gM).map (bG 300))))/\((p.joints.map (bG 300)).length<=4611686018427387904)/\(12*SZ 300+3*300+3*300+1000<=LIM)/\(Ref (.i6 (bD (aF (aD 300 m)) (p.joints.map (bG 300)).length)) (.i6 (0:Int)))/\((aD 300 m)=aD 300 (aF (aD 300 m)))/\((aF (aD 300 m)).small)/\((m.bodies.map (aE 300)).length<=4611686018427387904)/\(Ref (.list 1 (zQ 300 (mR (m.bodies.map (aK 300))) ⟨⟨p.at_.x,p.at_.z⟩,p.turn,(p.joints.map (dL 300)).map fX⟩ b ⟨x.x,x.z⟩)) (.list 1 [[.list 4 C],[.list 4 D]]))/\((m.bodies.map (aK 300))=((m.bodies.map (aK 300)).map fW).map (aK 300))/\((p.joints.map (dL 300))=((p.joints.map (dL 300)).map fX).map (dL 300))/\(Co 300 (mR (m.bodies.map (aK 300))) ⟨⟨p.at_.x,p.at_.z⟩,p.turn,(p.joints.map (dL 300)).map fX⟩)/\((mR (m.bodies.map (aK 300))).tree)/\(0<(m.bodies.map (aK 300)).length)/\((m.bodies.map (aK 300)).length<=8)/\((p.joints.map (dL 300)).length+1=(m.bodies.map (aK 300)).length)/\(rX ((m.bodies.map (aK 300)).map fW))/\(0<=b)/\(b<((m.bodies.map (aK 300)).length:Int))/\(sB A C)/\(sB B D))
   (hg:Good Tryz.prog 6 S0 C0 w0 Post [.code .ret] ⟨slots 94 [(8,.bool true)],[]⟩):
   Good Tryz.prog 6 S0 C0 w0 Post [.code (aN [1,1,1,1,1,0] (aA Tryz.f6)),.code (aN [1,1,1,1,1,1] (aA Tryz.f6))] ⟨slots 94 [(2,.i6 b),(9,.ptr 0 6 0 0),(10,.ptr 1 5 0 0),(11,.ptr 2 10 0 0),(12,.ptr 3 13 0 0),(13,.ptr 4 6 0 0),(14,.ptr 5 8 0 0)],[some ⟨41,6,false,[(aD 300 m)],none⟩,some ⟨48,5,false,[(mS 300 m)],none⟩,some ⟨61,10,false,[[.q p.at_.x 300,.q p.at_.z 300,.q p.turn 300,.list 3 (p.joints.map (bG 300))]],none⟩,some ⟨71,13,false,[[.rq p.at_.x p.at_.x.den 300,.rq p.at_.z p.at_.z.den 300,.rq p.turn p.turn.den 300,.list 4 (p.joints.map (dL 300))]],none⟩,some ⟨58,6,false,[[.q x.x 300,.q x.z 300]],none⟩,some ⟨68,8,false,[(hG 300 x)],none⟩]⟩:=
 tR mixed aT qL 20 none [8] [] [(48,(.tup [.list 1 [[.list 3 A],[.list 3 B]],.i6 (0:Int)])),(53,(.i6 (0:Int))),(59,(.bool false)),(66,(.bool false)),(88,(.list 1 [[.list 4 C],[.list 4 D]]))] (ob:=[Ref (.tup [(qK 300 (aF (aD 300 m)) ⟨⟨p.at_.x,p.at_.z⟩,p.turn,(p.joints.map (bG 300)).map gM⟩ b ⟨x.x,x.z⟩ (6*SZ 300+300+300+74)),.i6 (bK (aF (aD 300 m)) (p.joints.map (bG 300)).length b)]) (.tup [.list 1 [[.list 3 A],[.list 3 B]],.i6 (0:Int)]),(aD 300 m)=aD 300 (aF (aD 300 m)),(aF (aD 300 m)).small,(aF (aD 300 m)).bodies.length<=8,300<=300,300<=300,300<=100000,Ref (.list 3 (p.joints.map (bG 300))) (.list 3 (((p.joints.map (bG 300)).map gM).map (bG 300))),(p.joints.map (bG 300)).length<=4611686018427387904,12*SZ 300+3*300+3*300+1000<=LIM,Ref (.i6 (bD (aF (aD 300 m)) (p.joints.map (bG 300)).length)) (.i6 (0:Int)),(aD 300 m)=aD 300 (aF (aD 300 m)),(aF (aD 300 m)).small,(p.joints.map (bG 300)).length<=4611686018427387904,(m.bodies.map (aE 300)).length<=4611686018427387904,Ref (.bool (decide (b<(0:Int)))) (.bool false),Ref (.bool (decide ((((m.bodies.map (aE 300)).length:Nat):Int)<=b))) (.bool false),Ref (.list 1 (zQ 300 (mR (m.bodies.map (aK 300))) ⟨⟨p.at_.x,p.at_.z⟩,p.turn,(p.joints.map (dL 300)).map fX⟩ b ⟨x.x,x.z⟩)) (.list 1 [[.list 4 C],[.list 4 D]]),(m.bodies.map (aK 300))=((m.bodies.map (aK 300)).map fW).map (aK 300),p.at_.x.den=p.at_.x.den,p.at_.z.den=p.at_.z.den,p.turn.den=p.turn.den,300=300,300=300,(p.joints.map (dL 300))=((p.joints.map (dL 300)).map fX).map (dL 300),300<=100000,Co 300 (mR (m.bodies.map (aK 300))) ⟨⟨p.at_.x,p.at_.z⟩,p.turn,(p.joints.map (dL 300)).map fX⟩,(mR (m.bodies.map (aK 300))).tree,0<(m.bodies.map (aK 300)).length,(m.bodies.map (aK 300)).length<=8,(p.joints.map (dL 300)).length+1=(m.bodies.map (aK 300)).length,x.x.den=x.x.den,x.z.den=x.z.den,300=300,300=300,rX ((m.bodies.map (aK 300)).map fW),0<=b,b<((m.bodies.map (aK 300)).length:Int),sB A C,sB B D]) (by decide) (by kernel_rfl)
   (.cons (o.1) (.cons (o.2.1) (.cons (o.2.2.1) (.cons (o.2.2.2.1) (.cons (by decide) (.cons (by decide) (.cons (by decide) (.cons (o.2.2.2.2.1) (.cons (o.2.2.2.2.2.1) (.cons (o.2.2.2.2.2.2.1) (.cons (o.2.2.2.2.2.2.2.1) (.cons (o.2.2.2.2.2.2.2.2.1) (.cons (o.2.2.2.2.2.2.2.2.2.1) (.cons (o.2.2.2.2.2.1) (.cons (o.2.2.2.2.2.2.2.2.2.2.1) (.cons (Ref.bool (decide_eq_false h1)) (.cons (Ref.bool (decide_eq_false h2)) (.cons (o.2.2.2.2.2.2.2.2.2.2.2.1) (.cons (o.2.2.2.2.2.2.2.2.2.2.2.2.1) (.cons (rfl) (.cons (rfl) (.cons (rfl) (.cons (rfl) (.cons (rfl) (.cons (o.2.2.2.2.2.2.2.2.2.2.2.2.2.1) (.cons (by decide) (.cons (o.2.2.2.2.2.2.2.2.2.2.2.2.2.2.1) (.cons (o.2.2.2.2.2.2.2.2.2.2.2.2.2.2.2.1) (.cons (o.2.2.2.2.2.2.2.2.2.2.2.2.2.2.2.2.1) (.cons (o.2.2.2.2.2.2.2.2.2.2.2.2.2.2.2.2.2.1) (.cons (o.2.2.2.2.2.2.2.2.2.2.2.2.2.2.2.2.2.2.1) (.cons (rfl) (.cons (rfl) (.cons (rfl) (.cons (rfl) (.cons (o.2.2.2.2.2.2.2.2.2.2.2.2.2.2.2.2.2.2.2.1) (.cons (o.2.2.2.2.2.2.2.2.2.2.2.2.2.2.2.2.2.2.2.2.1) (.cons (o.2.2.2.2.2.2.2.2.2.2.2.2.2.2.2.2.2.2.2.2.2.1) (.cons (o.2.2.2.2.2.2.2.2.2.2.2.2.2.2.2.2.2.2.2.2.2.2.1) (.cons (o.2.2.2.2.2.2.2.2.2.2.2.2.2.2.2.2.2.2.2.2.2.2.2) (AllP.nil))))))))))))))))))))))))))))))))))))))))) hg
end
noncomputable abbrev NP:List Item:=[.code .ret,.code (aN [1,1,1,1,1,1,1,1,1] (aA Tryz.f6))]
theorem Ef {m m':MachD} {F F':Nat->FrameD} {w:PtD} {b:Int} (hb:m'.bodies=m.bodies.map LH) (hF:∀ i,F' i=F i):∀ i,fI m' F' w b i=fI m F w b i
 | 0=>by unfold fI;rw[hb,bH]
 | i+1=>by rw[mB,mB,Ef hb hF i,hb,HT,hF]
theorem LW (m:MachD) (p:PoseD) (i:Nat):fr (mR (m.bodies.map (aK 300))) ⟨⟨p.at_.x,p.at_.z⟩,p.turn,(p.joints.map (dL 300)).map fX⟩ i=fr m p i:=by
 rw[tE];exact HS m p i i
theorem IN (m:MachD) (p:PoseD) (b:Int) (x:PtD):zQ 300 (mR (m.bodies.map (aK 300))) ⟨⟨p.at_.x,p.at_.z⟩,p.turn,(p.joints.map (dL 300)).map fX⟩ b ⟨x.x,x.z⟩=zQ 300 m p b x:=by
 unfold zQ;rw[LW,CX,Ef (m:=m) (F:=fr m p) (pK m.bodies) (LW m p)]
theorem Lo {m:MachD} (h:dW m=0):rX ((m.bodies.map (aK 300)).map fW):=fun i hi=>by
 rw[pK,bH] at hi;have e:=AI m i;show((mR (m.bodies.map (aK 300))).bodies.getD i default).par<_;rw[e]
 have:=(CZ h (b:=((i:Nat):Int)) (by omega) (by omega)).1
 rwa [Int.toNat_natCast] at this
theorem Ci {xs:List Rat} {ys:List (Rat×Nat)} {X Z:Nat} (h:xs=ys.map (·.1)) (hX:X+100<=LIM) (hZ:Z+100<=LIM) (hl:ys.length<=1000000):sB (xs.map (bG X)) (ys.map (dB Z)):=by
 have h1:=NB (X:=X) xs;have h2:=La (X:=Z) ys;refine⟨?_, ?_, ?_,by omega,by omega, ?_⟩
 · rw[gG];exact NA xs
 · rw[AP];exact KZ ys
 · rw[gG,AP];exact h
 · rw[AP];exact hl
theorem Fm {S:Nat->Prop} {w0:World} {todo:List Item} {σ:List AV} {h:List (Option ABlk)} (hσ:σ.getD 8 .any= .bool true):GF 6 S w0 (.bool true) (.code .ret::todo) ⟨σ,h⟩:=
 bP aT (fn:=Tryz.f6) (by kernel_rfl) 8 (by kernel_rfl) rfl (by rw[hσ];rfl) (by rw[hσ];exact rr)
theorem xY (r:RigD) (sd:StandD) (b:Int) (xs:SpotD) (hr:r.okw) (hs:sd.okw) (hx:xs.ok):
   tX Tryz.prog 6 [.agg (cL r),.agg (DI sd),.i6 b,.agg (unSpot xs)] (.bool true):=by
 refine af Tryz.f6 fun S w0=> ?_
 have a0:Ref (AV.tup [(AV.agg (aD 300 (hH (cL r)).real)),(AV.agg (mS 300 (hH (cL r)).real))]) (AV.tup [AV.agg (aD 300 r.real),AV.agg (mS 300 r.real)]):=Ref.eq (by rw[rU]);have a1:cL r=cL (hH (cL r)):=by rw[rU]
 have a3:Ref (AV.tup [(AV.agg [(AV.q sd.at_.x.val 300),(AV.q sd.at_.z.val 300),(AV.q sd.turn.val 300),(AV.list 3 (zL ((sd.joints.map unNum).map jA)))]),(AV.agg [(AV.rq sd.at_.x.val sd.at_.x.val.den 300),(AV.rq sd.at_.z.val sd.at_.z.val.den 300),(AV.rq sd.turn.val sd.turn.val.den 300),(AV.list 4 (zM ((sd.joints.map unNum).map jA)))])]) (AV.tup [AV.agg (aW 300 sd.real),AV.agg (mU 300 sd.real)]):=Ref.eq (by rw[wT];rfl);obtain⟨s1,s2,s3⟩:=hs;have a4:sd.joints.map unNum=((sd.joints.map unNum).map jA).map unNum:=by rw[wT]
 have a5:∀ s∈(sd.joints.map unNum).map jA,s.ok:=by rw[wT];exact s3
 have a7:Ref (AV.bool (hH (cL r)).small) (AV.bool r.small):=Ref.eq (by rw[rU]);have hjl:sd.real.joints.length=sd.joints.length:=by simp[StandD.real]
 have a9:aD 300 r.real=aD 300 (aF (aD 300 r.real)):=by rw[aU]
 have a13:Ref (.list 3 (sd.real.joints.map (bG 300))) (.list 3 (((sd.real.joints.map (bG 300)).map gM).map (bG 300))):=Ref.eq (by rw[gG]);cases h1:r.small with
 | false=>exact NN r sd b xs r.real sd.real xs.pt (by rw[h1];rfl) ⟨a7,a1⟩ (Fm rfl)
 | true=>
   have h1':(!(r.small))=false:=by rw[h1];rfl
   have hk:=hr.small h1;have a2:(hH (cL r)).ok:=by rw[rU];exact hk
   have hms:=CW hk;have a10:(aF (aD 300 r.real)).small:=by rw[aU];exact hms
   have h8:r.real.bodies.length<=8:=by rw[HR];exact KI h1
   have a12:(aF (aD 300 r.real)).bodies.length<=8:=by rw[aU];exact h8
   have v1:Ref (.bool (!(r.small))) (.bool false):=Ref.bool h1'
   by_cases h2:(9:Int)<(((sd.joints.map unNum).length:Nat):Int)
   · refine gR qL (some 6) [8] [] [(19,.bool (r.small)),(21,ff),(26,tt)] (.a4 a7 a1 v1 (iT h2)) (t:=[.code .ret,.code (aN [1,1] (aA Tryz.f6))]) (σ:=slots 94 [(8,.bool true)]) (h:=[]) (Fm rfl)
   · have s4 :sd.joints.length<=9:=by rw[bH] at h2;omega
     have a6:(sd.joints.map unNum).length*128<=140737488355328:=by rw[bH];omega
     have a11:(sd.real.joints.map (bG 300)).length<=4611686018427387904:=by rw[bH,hjl];omega
     refine gR qL (some 6) [2,9,10,11,12,13,14] [5,6,8,9,11,12] [(19,.bool (r.small)),(21,ff),(26,ff),(30,.tup [.agg (aD 300 r.real),.agg (mS 300 r.real)]),(35,.tup [.agg [.q sd.real.at_.x 300,.q sd.real.at_.z 300,.q sd.real.turn 300,.list 3 (sd.real.joints.map (bG 300))],.agg [.rq sd.real.at_.x sd.real.at_.x.den 300,.rq sd.real.at_.z sd.real.at_.z.den 300,.rq sd.real.turn sd.real.turn.den 300,.list 4 (sd.real.joints.map (dL 300))]]),(40,.tup [.agg [.q xs.pt.x 300,.q xs.pt.z 300],.agg (hG 300 xs.pt)])] (.c6 a7 a1 v1 (iF h2) a0 a1 (.c6 a2 a3 s1.1 s1.2 s2 a4 (.a5 a5 a6 (show Ref (.tup [.agg [.q (iZ xs.x.n xs.x.d xs.x.p) 300,.q (iZ xs.z.n xs.z.d xs.z.p) 300],.agg [.rq (iZ xs.x.n xs.x.d xs.x.p) ((iZ xs.x.n xs.x.d xs.x.p).den) 300,.rq (iZ xs.z.n xs.z.d xs.z.p) ((iZ xs.z.n xs.z.d xs.z.p).den) 300]]) (.tup [.agg [.q xs.pt.x 300,.q xs.pt.z 300],.agg (hG 300 xs.pt)]) from rr) hx.1 hx.2))) (t:=[.code (aN [1,1,1,1,1,0] (aA Tryz.f6)),.code (aN [1,1,1,1,1,1] (aA Tryz.f6))]) (σ:=slots 94 [(2,.i6 b),(9,.ptr 0 6 0 0),(10,.ptr 1 5 0 0),(11,.ptr 2 10 0 0),(12,.ptr 3 13 0 0),(13,.ptr 4 6 0 0),(14,.ptr 5 8 0 0)]) (h:=[some ⟨41,6,false,[(aD 300 r.real)],none⟩,some ⟨48,5,false,[(mS 300 r.real)],none⟩,some ⟨61,10,false,[[.q sd.real.at_.x 300,.q sd.real.at_.z 300,.q sd.real.turn 300,.list 3 (sd.real.joints.map (bG 300))]],none⟩,some ⟨71,13,false,[[.rq sd.real.at_.x sd.real.at_.x.den 300,.rq sd.real.at_.z sd.real.at_.z.den 300,.rq sd.real.turn sd.real.turn.den 300,.list 4 (sd.real.joints.map (dL 300))]],none⟩,some ⟨58,6,false,[[.q xs.pt.x 300,.q xs.pt.z 300]],none⟩,some ⟨68,8,false,[(hG 300 xs.pt)],none⟩]) ?_
     have a14:(r.real.bodies.map (aE 300)).length<=4611686018427387904:=by rw[bH];omega
     generalize hm:r.real=m at*;generalize hp:sd.real=p at*;have hL:12*SZ 300+3*300+3*300+1000<=LIM:=by rw[HQ];decide
     have rE:Ref (.i6 (bD (aF (aD 300 m)) (p.joints.map (bG 300)).length)) (.i6 (bD m p.joints.length)):=Ref.eq (by rw[aU,bH]);have v0:300<=300:=by decide
     have v2:300<=100000:=by decide
     by_cases h3:bD m p.joints.length=(0:Int)
     · have rE0:=rE
       rw[h3] at rE0
       by_cases h4:0<=b/\b<((m.bodies.length:Nat):Int)
       · have e:bK m p.joints.length b=0:=by unfold bK;rw[if_pos h3,if_pos h4]
         obtain⟨hc,hn⟩:=gF h3;obtain⟨g1,g2⟩:=Ix (m:=m) (F:=fr m p) (X:=eQ (fr m p b.toNat) xs.pt) b;obtain⟨r1,r2⟩:=mC (m:=m) (F:=fr m p) (w:=eQ (fr m p b.toNat) xs.pt) (b:=b) m.bodies.length;refine Good.seen (b:=⟨41,6,false,[aD 300 m],none⟩) (el:=aD 300 m) 0 0 (by rfl) (by rfl) fun k0=> ?_
         refine Good.seen (b:=⟨61,10,false,[aW 300 p],none⟩) (el:=aW 300 p) 2 0 (by rfl) (by rfl) fun k1=> ?_
         obtain⟨_,_,_,_,_,k0⟩:=k0;obtain⟨_,_,_,_,_,k1⟩:=k1;have hB:=Hf k0 k1
         have rJ:Ref (.tup [qK 300 (aF (aD 300 m)) ⟨⟨p.at_.x,p.at_.z⟩,p.turn,(p.joints.map (bG 300)).map gM⟩ b ⟨xs.pt.x,xs.pt.z⟩ (6*SZ 300+300+300+74),.i6 (bK (aF (aD 300 m)) (p.joints.map (bG 300)).length b)])
             (.tup [.list 1 [[.list 3 ((tG m (fr m p) b xs.pt).1.map (bG (6*SZ 300+300+300+74)))],[.list 3 ((tG m (fr m p) b xs.pt).2.map (bG (6*SZ 300+300+300+74)))]],.i6 0]):=Ref.eq (by
           rw[aU,gG,bH,e];show AV.tup [qK 300 m p b xs.pt _,_]=_
           unfold qK;rw[if_pos e];rfl)
         have hE:EJ 300+100<=LIM:=by unfold EJ;rw[HQ];decide
         have hX:6*SZ 300+300+300+74+100<=LIM:=by rw[HQ];decide
         exact NO m p b xs.pt _ _ ((fI m (fr m p) (eQ (fr m p b.toNat) xs.pt) b m.bodies.length).1.map (dB (EJ 300))) ((fI m (fr m p) (eQ (fr m p b.toNat) xs.pt) b m.bodies.length).2.map (dB (EJ 300))) (by omega) (by rw[bH];omega)
           ⟨rJ,a9,a10,a12,a13,a11,hL,rE0,a9,a10,a14,Ref.eq (by rw[IN];rfl),KK _,by rw[tE],Nl hB,KL (mW hc),by rw[bH];omega,by rw[bH];exact h8,by rw[bH,bH];exact hn,Lo hc,h4.1,by rw[bH];exact h4.2,
             Ci g1 hX hE (by omega),Ci g2 hX hE (by omega)⟩ (Fm rfl)
       · have e:bK m p.joints.length b=3:=by unfold bK;rw[if_pos h3,if_neg h4]
         have rJ:Ref (.tup [qK 300 (aF (aD 300 m)) ⟨⟨p.at_.x,p.at_.z⟩,p.turn,(p.joints.map (bG 300)).map gM⟩ b ⟨xs.pt.x,xs.pt.z⟩ (6*SZ 300+300+300+74),.i6 (bK (aF (aD 300 m)) (p.joints.map (bG 300)).length b)])
             (.tup [.nil,.i6 3]):=Ref.eq (by
           rw[aU,gG,bH,e];show AV.tup [qK 300 m p b xs.pt _,_]=_
           unfold qK;rw[if_neg (by rw[e];decide)])
         by_cases h5:b<0
         · refine gR qL none [8] [] [(48,.tup [AV.nil,.i6 (3:Int)]),(53,.i6 (0:Int)),(59,tt)] (.c6 rJ a9 a10 a12 v0 v0 (.c6 v2 a13 a11 hL rE0 a9 (.a4 a10 a11 a14 (iT h5)))) (t:=NP) (σ:=slots 94 [(8,.bool true)]) (h:=[]) (Fm rfl)
         · refine gR qL none [8] [] [(48,.tup [AV.nil,.i6 (3:Int)]),(53,.i6 (0:Int)),(59,ff),(66,tt)] (.c6 rJ a9 a10 a12 v0 v0 (.c6 v2 a13 a11 hL rE0 a9 (.a5 a10 a11 a14 (iF h5) (iT (show((m.bodies.map (aE 300)).length:Int)<=b by rw[bH];omega))))) (t:=NP) (σ:=slots 94 [(8,.bool true)]) (h:=[]) (Fm rfl)
     · have e:bK m p.joints.length b=bD m p.joints.length:=by unfold bK;rw[if_neg h3]
       have rJ:Ref (.tup [qK 300 (aF (aD 300 m)) ⟨⟨p.at_.x,p.at_.z⟩,p.turn,(p.joints.map (bG 300)).map gM⟩ b ⟨xs.pt.x,xs.pt.z⟩ (6*SZ 300+300+300+74),.i6 (bK (aF (aD 300 m)) (p.joints.map (bG 300)).length b)])
           (.tup [.nil,.i6 (bD m p.joints.length)]):=Ref.eq (by
         rw[aU,gG,bH,e];show AV.tup [qK 300 m p b xs.pt _,_]=_
         unfold qK;rw[if_neg (by rw[e];exact h3)])
       refine gR qL none [8] [] [(48,.tup [AV.nil,.i6 (bD m p.joints.length)]),(53,.i6 (bD m p.joints.length)),(56,ff),(68,tt),(71,tt)] (.c6 rJ a9 a10 a12 v0 v0 (.c6 v2 a13 a11 hL rE a9 (.a6 a10 a11 a14 (iF h3) (jT h3) (show Ref (.bool (decide ((bD m p.joints.length)=(bD m p.joints.length)))) (.bool true) from Ref.bool (by simp))))) (t:=NP) (σ:=slots 94 [(8,.bool true)]) (h:=[]) (Fm rfl)
end Go.Av
namespace Go.Av
open Go.Proofs Go.RowKit Go.Proofs.YtbdhgnlabjmnoaaGreat
theorem Lp {w:World} {a:Addr} {v:Value} (h:w.cell? a=some v):a.block<w.heap.size:=by
 unfold World.cell? at h;rcases Nat.lt_or_ge a.block w.heap.size with h1 | h1
 · exact h1
 · rw[Array.getElem?_eq_none h1] at h;simp at h
section
variable {H:Type} (enc:TypeId×Value->H) (P:Program) (w:World) (base:Nat) (sp:Nat->Bool) (hd:Bool)
def Opn (t:TypeId) (R:List AV->Prop):Prop:=∀ iH cs d ps,DataW.trod enc P w base sp hd iH t cs=some (d,ps)->∃ ch,R ch/\RelCs ρ0 No w No ch cs
end
section
variable {H:Type} {enc:TypeId×Value->H} {P:Program} {w:World} {base:Nat} {sp:Nat->Bool} {hd:Bool}
theorem Opn.mono {t:TypeId} {R R':List AV->Prop} (h:Opn enc P w base sp hd t R) (hr:∀ ch,R ch->R' ch):Opn enc P w base sp hd t R':=fun iH cs d ps h1=>by
 obtain⟨ch,g1,g2⟩:=h iH cs d ps h1;exact⟨ch,hr _ g1,g2⟩
theorem Ba {t:TypeId} {k:IntKind} (ht:P.underlying t=some (.int k)):Opn enc P w base sp hd t (fun ch=>∃ n,ch= [.int k n]/\(Lit.int k n).wf=true):=fun iH cs d ps h1=>by
 obtain⟨n,rfl,_,hw⟩:=DataW.trod_int ht h1;exact⟨_,⟨n,rfl,hw⟩,.int .done⟩
def AllR:List (List AV->Prop)->List (List AV)->Prop
 | [],[]=>True
 | R::Rs,c::cs=>R c/\AllR Rs cs
 | _,_=>False
theorem xZ {n:Nat} {cs:List Value}:∀ (fl:List Field) (Rs:List (List AV->Prop)) (xl:List (DataW H×List MemPlace)) (off:Nat),Rs.length=fl.length->xl.length=fl.length->
   (∀ (i:Nat) (f:Field),fl[i]? =some f->f.offset=off+((fl.take i).map fun f=>P.cellsOf f.type).sum)->(cs.drop off).length=(fl.map fun f=>P.cellsOf f.type).sum->
   (∀ (i:Nat) (f:Field),fl[i]? =some f->DataW.trod enc P w base sp hd n f.type ((cs.drop f.offset).take (P.cellsOf f.type))=xl[i]?)->
   (∀ (i:Nat) (f:Field) (R:List AV->Prop),fl[i]? =some f->Rs[i]? =some R->Opn enc P w base sp hd f.type R)->∃ css,AllR Rs css/\RelCs ρ0 No w No css.flatten (cs.drop off)
 | [],[],[],off,_,_,_,hlen,_,_=>by
   refine⟨[],trivial, ?_⟩;simp only[List.map_nil,List.sum_nil] at hlen;rw[List.length_eq_zero_iff.1 hlen];exact .done
 | f ::fl,R::Rs,x::xl,off,h1,h2,hoff,hlen,ht,ho=>by
   have e0:f.offset=off:=by simpa using hoff 0 f rfl
   have t0:=ht 0 f rfl;rw[e0] at t0;simp only[List.getElem?_cons_zero] at t0;obtain⟨xd,xp⟩:=x;obtain⟨ch,g1,g2⟩:=ho 0 f R rfl rfl n _ xd xp t0;simp only[List.map_cons,List.sum_cons] at hlen
   obtain⟨css,k1,k2⟩:=xZ (n:=n) (cs:=cs) fl Rs xl (off+P.cellsOf f.type) (by simpa using h1) (by simpa using h2)
     (fun i f' hf=>by have:=hoff (i+1) f' (by simpa using hf);simp only[List.take_succ_cons,List.map_cons,List.sum_cons] at this;omega)
     (by simp only[List.length_drop] at hlen ⊢;omega) (fun i f' hf=>by simpa using ht (i+1) f' (by simpa using hf)) (fun i f' R' hf hR=>ho (i+1) f' R' (by simpa using hf) (by simpa using hR))
   refine⟨ch::css,⟨g1,k1⟩, ?_⟩;rw[List.flatten_cons]
   have:cs.drop off=(cs.drop off).take (P.cellsOf f.type)++cs.drop (off+P.cellsOf f.type):=by
     rw[<- List.drop_drop];exact(List.take_append_drop _ _).symm
   rw[this];exact g2.app k2
 | [],_::_,_,_,h1,_,_,_,_,_=>by simp at h1
 | _::_,[],_,_,h1,_,_,_,_,_=>by simp at h1
 | [],[],_::_,_,_,h2,_,_,_,_=>by simp at h2
 | _::_,_::_,[],_,_,h2,_,_,_,_=>by simp at h2
theorem Di {T:TypeId->Prop} (K:Kids P T) {t:TypeId} (hT:T t) {fs:Array Field} (ht:P.underlying t=some (.struct fs)) {Rs:List (List AV->Prop)} (hl:Rs.length=fs.toList.length)
   (ho:∀ (i:Nat) (f:Field) (R:List AV->Prop),fs.toList[i]? =some f->Rs[i]? =some R->Opn enc P w base sp hd f.type R):
   Opn enc P w base sp hd t (fun ch=>∃ css,AllR Rs css/\ch=css.flatten):=fun iH cs d ps h1=>by
 obtain⟨xs,n,_,he,hlen,hxl,hf⟩:=DataW.trod_struct ht h1;obtain⟨_,ksz,koff⟩:=K.struct hT ht;injection he with he1 he2;subst he1;obtain⟨css,g1,g2⟩:=xZ (enc:=enc) (P:=P) (w:=w) (base:=base) (sp:=sp) (hd:=hd) (n:=n) (cs:=cs) fs.toList Rs xs 0 hl (by simpa using hxl) (fun i f hf'=>by rw[koff i f hf'];omega) (by rw[List.drop_zero,hlen,ksz]) (fun i f hf'=>hf i f (by simpa using hf')) ho;exact⟨css.flatten,⟨css,g1,rfl⟩,by simpa using g2⟩
theorem Fn {t e:TypeId} (ht:P.underlying t=some (.slice e)) {R:List AV->Prop} (hz:0<P.cellsOf e) (ho:Opn enc P w base sp hd e R):
   Opn enc P w base sp hd t (fun ch=>∃ l:List (List AV),(∀ c∈l,R c)/\ch= [.list (P.cellsOf e) l]):=fun iH cs d ps h1=>by
 rcases Deep.open_slice ht h1 with ⟨rfl,_⟩ | ⟨a,len,cap,m,n,D,Pl,rfl,hb,hl,hm,hmm,he,hx⟩
 · exact⟨[.list (P.cellsOf e) []],⟨[],by simp,rfl⟩,.list (xs:=[]) (fun _=>[]) (by simp) (by simp[big]) (by simp) (by simp) (by simp) .done⟩
 · injection he with he1 he2
   subst he1;have hlm:len<=m:=by rw[hmm];split <;> omega
   have key:∀ i,∃ c:List AV×List Value,i<len->R c.1/\RelCs ρ0 No w No c.1 c.2/\w.cells? base (a.add (i*P.cellsOf e)) (P.cellsOf e)=some c.2:=by
     intro i
     by_cases hi:i<len
     · obtain⟨cs',hc,ht'⟩:=hx i (by omega)
       obtain⟨ch,g1,g2⟩:=ho n cs' (D i) (Pl i) ht';exact⟨(ch,cs'),fun _=>⟨g1,g2,hc⟩⟩
     · exact⟨([],[]),fun h=>absurd h hi⟩
   let f:Nat->List AV×List Value:=fun i=>Classical.choose (key i)
   have hf:∀ i,i<len->R (f i).1/\RelCs ρ0 No w No (f i).1 (f i).2/\w.cells? base (a.add (i*P.cellsOf e)) (P.cellsOf e)=some (f i).2:=fun i=>Classical.choose_spec (key i)
   refine⟨[.list (P.cellsOf e) ((List.range len).map fun i=>(f i).1)],⟨(List.range len).map fun i=>(f i).1, ?_,rfl⟩, ?_⟩
   · intro c hc
     obtain⟨i,hi,rfl⟩:=List.mem_map.1 hc;exact(hf i (List.mem_range.1 hi)).1
   · have hcell:∀ i,i<len->(f i).2.length=P.cellsOf e/\∀ j v,(f i).2[j]? =some v->w.cell? ((a.add (i*P.cellsOf e)).add j)=some v:=by
       intro i hi;have h3:=(hf i hi).2.2;unfold World.cells? at h3
       split at h3
       · have hl3:=mapM_some_length h3
         refine⟨by simpa using hl3,fun j v hv=> ?_⟩
         have hj:j<P.cellsOf e:=by
           have:=(List.getElem?_eq_some_iff.1 hv).1;rw[show(f i).2.length=P.cellsOf e by simpa using hl3] at this;exact this
         have:=mapM_some_get h3 j j (by simp[hj]);rw[this];exact hv
       · cases h3
     have e1:len=((List.range len).map fun i=>(f i).1).length:=by simp
     have key2:RelCs ρ0 No w No [.list (P.cellsOf e) ((List.range len).map fun i=>(f i).1)] [.slice (some a) ((List.range len).map fun i=>(f i).1).length cap]:=by
       refine .list (fun i=>(f i).2) (by simpa using hl) (Nat.le_trans hm (by decide)) (fun i hi=>(hcell i (by simpa using hi)).1) (fun i el he=> ?_) (fun hp=> ?_) .done
       · rw[List.getElem?_map] at he
         have hi:i<len:=by
           rcases Nat.lt_or_ge i len with h | h
           · exact h
           · simp[h] at he
         rw[List.getElem?_range hi] at he;injection he with he;subst he;exact(hf i hi).2.1
       · have hp':0<len:=by simpa using hp
         refine⟨a,rfl, ?_,fun h=>h,fun i hi=>(hcell i (by simpa using hi)).2⟩;obtain⟨l0,c0⟩:=hcell 0 hp';have:∃ v,(f 0).2[0]? =some v:=⟨(f 0).2[0]'(by omega),by simp[l0,hz]⟩;obtain⟨v,hv⟩:=this;have h5:=c0 0 v hv;have hblk:=Lp h5;simpa[jO] using hblk
     rw[<- e1] at key2;exact key2
end
def Cj (P:Program) (t:TypeId):Option (List TypeId):=match P.underlying t with
 | some (.struct fs)=>some (fs.toList.map (·.type))
 | _=>none
theorem LX:Kids Tryz.prog (· <Tryz.prog.types.size):=kids_rows (by kernel_rfl) (by kernel_rfl)
section
variable {H:Type} {enc:TypeId×Value->H} {w:World} {base:Nat} {sp:Nat->Bool} {hd:Bool}
abbrev iJ (enc:TypeId×Value->H) (w:World) (base:Nat) (sp:Nat->Bool) (hd:Bool) (t:TypeId) (R:List AV->Prop):Prop:=Opn enc Tryz.prog w base sp hd t R
theorem eM {t:TypeId} {ts:List TypeId} (hs:Cj Tryz.prog t=some ts) (hlt:Nat.ble (t+1) Tryz.prog.types.size=true) {Rs:List (List AV->Prop)} (hl:Rs.length=ts.length)
   (ho:∀ (i:Nat) (u:TypeId) (R:List AV->Prop),ts[i]? =some u->Rs[i]? =some R->iJ enc w base sp hd u R):
   iJ enc w base sp hd t (fun ch=>∃ css,AllR Rs css/\ch=css.flatten):=by
 unfold Cj at hs
 split at hs
 · rename_i fs ht
   injection hs with hs;subst hs;exact Di LX (Nat.le_of_ble_eq_true hlt) ht (by simpa using hl) fun i f R hf hR=>ho i f.type R (by rw[List.getElem?_map,hf];rfl) hR
 · cases hs
theorem AllR.cons {R:List AV->Prop} {Rs:List (List AV->Prop)}:∀ {css:List (List AV)},AllR (R::Rs) css->∃ c cs,css=c::cs/\R c/\AllR Rs cs
 | [],h=>h.elim
 | c::cs,h=>⟨c,cs,rfl,h.1,h.2⟩
theorem AllR.nil:∀ {css:List (List AV)},AllR [] css->css= []
 | [],_=>rfl
 | _::_,h=>h.elim
theorem Bb {n:Int} (h:(Lit.int .i64 n).wf=true):(-9223372036854775808:Int)<=n/\n<=(9223372036854775807:Int):=by
 simpa[Lit.wf,IntKind.min,IntKind.max,IntKind.signed,IntKind.bits] using h
theorem SA {n:Int} (h:(Lit.int .u8 n).wf=true):0<=n/\n<=255:=by
 simpa[Lit.wf,IntKind.min,IntKind.max,IntKind.signed,IntKind.bits] using h
abbrev Fo (ch:List AV):Prop:=∃ n,ch= [.int .i64 n]/\(Lit.int .i64 n).wf=true
abbrev VV (ch:List AV):Prop:=∃ n,ch= [.int .u8 n]/\(Lit.int .u8 n).wf=true
abbrev eT (ch:List AV):Prop:=∃ a:NumD,ch=unNum a/\a.ok
abbrev lI (ch:List AV):Prop:=∃ a:SpotD,ch=unSpot a/\a.ok
theorem SB:iJ enc w base sp hd 2 Fo:=Ba (by kernel_rfl)
theorem Lq:iJ enc w base sp hd 3 Fo:=Ba (by kernel_rfl)
theorem UZ:iJ enc w base sp hd 5 VV:=Ba (by kernel_rfl)
theorem IP {A B C:List AV->Prop} {a b c:TypeId} (hA:iJ enc w base sp hd a A) (hB:iJ enc w base sp hd b B) (hC:iJ enc w base sp hd c C):
   ∀ (i:Nat) (u:TypeId) (R:List AV->Prop),[a,b,c][i]? =some u-> [A,B,C][i]? =some R->iJ enc w base sp hd u R
 | 0,u,R,h1,h2=>by simp at h1 h2;subst h1;subst h2;exact hA
 | 1,u,R,h1,h2=>by simp at h1 h2;subst h1;subst h2;exact hB
 | 2,u,R,h1,h2=>by simp at h1 h2;subst h1;subst h2;exact hC
 | i+3,u,R,h1,h2=>by simp at h1
theorem Ck {L:List (TypeId×(List AV->Prop))} (h:∀ p∈L,iJ enc w base sp hd p.1 p.2):∀ (i:Nat) (u:TypeId) (R:List AV->Prop),(L.map (·.1))[i]? =some u->(L.map (·.2))[i]? =some R->iJ enc w base sp hd u R:=by
 intro i u R h1 h2;rw[List.getElem?_map] at h1 h2;cases hp:L[i]? with
 | none=>rw[hp] at h1;cases h1
 | some p=>
   rw[hp] at h1 h2;simp at h1 h2;subst h1;subst h2;exact h p (List.mem_of_getElem? hp)
theorem yA:iJ enc w base sp hd 29 eT:=by
 refine(eM (ts:=[2,2,5]) (Rs:=[Fo,Fo,VV]) (by kernel_rfl) (by kernel_rfl) rfl (IP SB SB UZ)).mono ?_;rintro ch ⟨css,h,rfl⟩;obtain⟨_,css1,rfl,⟨n,rfl,h1⟩,kk1⟩:=h.cons;obtain⟨_,css2,rfl,⟨d,rfl,h2⟩,kk2⟩:=kk1.cons;obtain⟨_,css3,rfl,⟨p,rfl,h3⟩,kk3⟩:=kk2.cons;obtain rfl:=kk3.nil;exact⟨⟨n,d,p⟩,rfl,(Bb h1).1,(Bb h1).2,(Bb h2).1,(Bb h2).2,SA h3⟩
theorem Cl:iJ enc w base sp hd 31 lI:=by
 refine(eM (ts:=[29,29]) (Rs:=[eT,eT]) (by kernel_rfl) (by kernel_rfl) rfl (Ck (L:=[(29,eT),(29,eT)]) (by intro p hp;simp at hp;subst hp;exact yA))).mono ?_;rintro ch ⟨css,h,rfl⟩;obtain⟨_,css1,rfl,⟨x,rfl,h1⟩,kk1⟩:=h.cons;obtain⟨_,css2,rfl,⟨z,rfl,h2⟩,kk2⟩:=kk1.cons;obtain rfl:=kk2.nil;exact⟨⟨x,z⟩,rfl,h1,h2⟩
theorem IQ {α:Type} {un:α->List AV} {ok:α->Prop}:∀ (l:List (List AV)),(∀ c∈l,∃ a,c=un a/\ok a)->∃ xs:List α,l=xs.map un/\∀ a∈xs,ok a
 | [],_=>⟨[],rfl,by simp⟩
 | c::l,h=>by
   obtain⟨a,rfl,ha⟩:=h c (by simp);obtain⟨xs,rfl,hx⟩:=IQ l fun c hc=>h c (by simp[hc])
   exact⟨a::xs,rfl,by simpa using ⟨ha,hx⟩⟩
theorem mE {t e:TypeId} {n:Nat} {α:Type} {un:α->List AV} {ok:α->Prop} (ht:Tryz.prog.underlying t=some (.slice e)) (hn:Tryz.prog.cellsOf e=n) (hz:0<n) (ho:iJ enc w base sp hd e (fun ch=>∃ a,ch=un a/\ok a)):
   iJ enc w base sp hd t (fun ch=>∃ xs:List α,ch= [.list n (xs.map un)]/\(∀ a∈xs,ok a)):=by
 refine(Fn ht (by rw[hn];exact hz) ho).mono ?_;rintro ch ⟨l,h1,rfl⟩;obtain⟨xs,rfl,hx⟩:=IQ l h1;exact⟨xs,by rw[hn],hx⟩
abbrev Eg {α:Type} (n:Nat) (un:α->List AV) (ok:α->Prop) (ch:List AV):Prop:=∃ xs:List α,ch= [.list n (xs.map un)]/\(∀ a∈xs,ok a)
abbrev uY (ch:List AV):Prop:=∃ xs:List SpotD,ch= [.list 6 (xs.map unSpot)]/\(∀ a∈xs,a.ok)
abbrev IR (ch:List AV):Prop:=∃ xs:List NumD,ch= [.list 3 (xs.map unNum)]/\(∀ a∈xs,a.ok)
theorem IS:iJ enc w base sp hd 137 uY:=mE (by kernel_rfl) (by kernel_rfl) (by decide) Cl
theorem SC:iJ enc w base sp hd 32 IR:=mE (by kernel_rfl) (by kernel_rfl) (by decide) yA
theorem NQ:iJ enc w base sp hd 224 (fun ch=>∃ a:LimbD,ch=dF a/\a.okw):=by
 refine(eM (ts:=[3,31,31,29,29,29,29,137]) (Rs:=[Fo,lI,lI,eT,eT,eT,eT,uY]) (by kernel_rfl) (by kernel_rfl) rfl
   (Ck (L:=[(3,Fo),(31,lI),(31,lI),(29,eT),(29,eT),(29,eT),(29,eT),(137,uY)]) (by intro p hp;simp at hp;rcases hp with rfl | rfl | rfl | rfl <;> first | exact Lq | exact Cl | exact yA | exact IS))).mono ?_
 rintro ch ⟨css,h,rfl⟩;obtain⟨_,css1,rfl,⟨a,rfl,_⟩,kk1⟩:=h.cons;obtain⟨_,css2,rfl,⟨b,rfl,h2⟩,kk2⟩:=kk1.cons;obtain⟨_,css3,rfl,⟨c,rfl,h3⟩,kk3⟩:=kk2.cons;obtain⟨_,css4,rfl,⟨d,rfl,h4⟩,kk4⟩:=kk3.cons;obtain⟨_,css5,rfl,⟨e,rfl,h5⟩,kk5⟩:=kk4.cons;obtain⟨_,css6,rfl,⟨f,rfl,h6⟩,kk6⟩:=kk5.cons;obtain⟨_,css7,rfl,⟨g,rfl,h7⟩,kk7⟩:=kk6.cons;obtain⟨_,css8,rfl,⟨l,rfl,h8⟩,kk8⟩:=kk7.cons;obtain rfl:=kk8.nil;exact⟨⟨a,b,c,d,e,f,g,l⟩,rfl,h2,h3,h4,h5,h6,h7,h8⟩
theorem NR:iJ enc w base sp hd 227 (fun ch=>∃ a:CordD,ch=cA a/\a.ok):=by
 refine(eM (ts:=[3,3,31,31,29]) (Rs:=[Fo,Fo,lI,lI,eT]) (by kernel_rfl) (by kernel_rfl) rfl
   (Ck (L:=[(3,Fo),(3,Fo),(31,lI),(31,lI),(29,eT)]) (by intro p hp;simp at hp;rcases hp with rfl | rfl | rfl <;> first | exact Lq | exact Cl | exact yA))).mono ?_
 rintro ch ⟨css,h,rfl⟩;obtain⟨_,css1,rfl,⟨a,rfl,_⟩,kk1⟩:=h.cons;obtain⟨_,css2,rfl,⟨b,rfl,_⟩,kk2⟩:=kk1.cons;obtain⟨_,css3,rfl,⟨c,rfl,h3⟩,kk3⟩:=kk2.cons;obtain⟨_,css4,rfl,⟨d,rfl,h4⟩,kk4⟩:=kk3.cons;obtain⟨_,css5,rfl,⟨e,rfl,h5⟩,kk5⟩:=kk4.cons;obtain rfl:=kk5.nil;exact⟨⟨a,b,c,d,e⟩,rfl,h3,h4,h5⟩
theorem NS:iJ enc w base sp hd 237 (fun ch=>∃ a:DriveD,ch=dK a/\a.ok):=by
 refine(eM (ts:=[3,29,29,29,29]) (Rs:=[Fo,eT,eT,eT,eT]) (by kernel_rfl) (by kernel_rfl) rfl
   (Ck (L:=[(3,Fo),(29,eT),(29,eT),(29,eT),(29,eT)]) (by intro p hp;simp at hp;rcases hp with rfl | rfl <;> first | exact Lq | exact yA))).mono ?_
 rintro ch ⟨css,h,rfl⟩;obtain⟨_,css1,rfl,⟨a,rfl,_⟩,kk1⟩:=h.cons;obtain⟨_,css2,rfl,⟨b,rfl,h2⟩,kk2⟩:=kk1.cons;obtain⟨_,css3,rfl,⟨c,rfl,h3⟩,kk3⟩:=kk2.cons;obtain⟨_,css4,rfl,⟨d,rfl,h4⟩,kk4⟩:=kk3.cons;obtain⟨_,css5,rfl,⟨e,rfl,h5⟩,kk5⟩:=kk4.cons;obtain rfl:=kk5.nil;exact⟨⟨a,b,c,d,e⟩,rfl,h2,h3,h4,h5⟩
theorem NT:iJ enc w base sp hd 243 (fun ch=>∃ a:SoleD,ch=dG a/\a.okw):=by
 refine(eM (ts:=[3,137,29]) (Rs:=[Fo,uY,eT]) (by kernel_rfl) (by kernel_rfl) rfl (IP Lq IS yA)).mono ?_;rintro ch ⟨css,h,rfl⟩;obtain⟨_,css1,rfl,⟨a,rfl,_⟩,kk1⟩:=h.cons;obtain⟨_,css2,rfl,⟨l,rfl,h2⟩,kk2⟩:=kk1.cons;obtain⟨_,css3,rfl,⟨c,rfl,h4⟩,kk3⟩:=kk2.cons;obtain rfl:=kk3.nil;exact⟨⟨a,l,c⟩,rfl,h2,h4⟩
theorem SD:iJ enc w base sp hd 27 (fun ch=>∃ r:RigD,ch=cL r/\r.okw):=by
 have h22:iJ enc w base sp hd 22 (Eg 26 dF LimbD.okw):=mE (n:=26) (by kernel_rfl) (by kernel_rfl) (by decide) NQ;have h23:iJ enc w base sp hd 23 (Eg 17 cA CordD.ok):=mE (n:=17) (by kernel_rfl) (by kernel_rfl) (by decide) NR;have h24:iJ enc w base sp hd 24 (Eg 13 dK DriveD.ok):=mE (n:=13) (by kernel_rfl) (by kernel_rfl) (by decide) NS;have h25:iJ enc w base sp hd 25 (Eg 5 dG SoleD.okw):=mE (n:=5) (by kernel_rfl) (by kernel_rfl) (by decide) NT;refine(eM (ts:=[22,23,23,24,25]) (Rs:=[Eg 26 dF LimbD.okw,Eg 17 cA CordD.ok,Eg 17 cA CordD.ok,Eg 13 dK DriveD.ok,Eg 5 dG SoleD.okw]) (by kernel_rfl) (by kernel_rfl) rfl (Ck (L:=[(22,Eg 26 dF LimbD.okw),(23,Eg 17 cA CordD.ok),(23,Eg 17 cA CordD.ok),(24,Eg 13 dK DriveD.ok),(25,Eg 5 dG SoleD.okw)]) (by intro p hp;simp at hp;rcases hp with rfl | rfl | rfl | rfl <;> first | exact h22 | exact h23 | exact h24 | exact h25))).mono ?_;rintro ch ⟨css,h,rfl⟩;obtain⟨_,css1,rfl,⟨a,rfl,h1⟩,kk1⟩:=h.cons;obtain⟨_,css2,rfl,⟨b,rfl,h2⟩,kk2⟩:=kk1.cons;obtain⟨_,css3,rfl,⟨c,rfl,h3⟩,kk3⟩:=kk2.cons;obtain⟨_,css4,rfl,⟨d,rfl,h4⟩,kk4⟩:=kk3.cons;obtain⟨_,css5,rfl,⟨e,rfl,h5⟩,kk5⟩:=kk4.cons;obtain rfl:=kk5.nil;exact⟨⟨a,b,c,d,e⟩,rfl,h1,h2,h3,h4,h5⟩
theorem SE:iJ enc w base sp hd 34 (fun ch=>∃ s:StandD,ch=DI s/\s.okw):=by
 refine(eM (ts:=[31,29,32]) (Rs:=[lI,eT,IR]) (by kernel_rfl) (by kernel_rfl) rfl (IP Cl yA SC)).mono ?_;rintro ch ⟨css,h,rfl⟩;obtain⟨_,css1,rfl,⟨a,rfl,h1⟩,kk1⟩:=h.cons;obtain⟨_,css2,rfl,⟨b,rfl,h2⟩,kk2⟩:=kk1.cons;obtain⟨_,css3,rfl,⟨c,rfl,h3⟩,kk3⟩:=kk2.cons;obtain rfl:=kk3.nil;exact⟨⟨a,b,c⟩,rfl,h1,h2,h3⟩
theorem Bc {t:TypeId} {fs:Array Field} {R:List AV->Prop} {r:Reach} {b0:Nat} {v:Value} {d:DataW H} {ps:List MemPlace} (ho:iJ enc w base sp hd t R) (ht:Tryz.prog.underlying t=some (.struct fs)) (hval:Value.okWide Tryz.prog w r b0 t v)
   (h:DataW.Trod enc Tryz.prog w base sp hd t v d ps):∃ ch,R ch/\RelV0 ρ0 No w No (.agg ch) v:=by
 obtain⟨n,hn⟩:=h;obtain⟨cs,rfl,_⟩:=WideShapes.okWide_struct ht hval;obtain⟨ch,g1,g2⟩:=ho n _ d ps hn;exact⟨ch,g1,cs.toList,by simp,by simpa[Value.cells] using g2⟩
end
end Go.Av
namespace Go.Proofs.YtbdhgnlabjmnoaaGreat.poseJacobians
open Go.ChangeShapes Go.WideShapes Go.ChangeAt Go.RowKit Go.Av
theorem own:ownKnob Tryz.prog.godebug=none:=by kernel_rfl
theorem NU:∀ t e,t<Tryz.prog.types.size->Tryz.prog.underlying t=some (.slice e)->0<Tryz.prog.cellsOf e:=slices_full_of Tryz.prog (by kernel_rfl)
theorem Eh:Tryz.f6.params= #[27,34,3,31]:=by kernel_rfl
theorem Va:Tryz.prog.underlying 4=some .bool:=by kernel_rfl
theorem CT:Tryz.prog.underlying 3=some (.int .i64):=by kernel_rfl
def Cm (P:Program) (t:TypeId):Bool:=match P.underlying t with
 | some (.struct _)=>true
 | _=>false
theorem tI {P:Program} {t:TypeId} (h:Cm P t=true):∃ fs,P.underlying t=some (.struct fs):=by
 unfold Cm at h
 split at h
 · exact⟨_,by assumption⟩
 · cases h
theorem yB {H:Type} {enc:TypeId×Value->H} {P:Program} {W W':World} {base:Nat} {sp:Nat->Bool} {hd:Bool} (hB:Below W.heap.size W W'):∀ {ts:List TypeId} {vs:List Value} {ds:List (DataW H)} {ps:List MemPlace},
   DataW.TrodAll enc P W base sp hd ts vs ds ps->DataW.TrodAll enc P W' base sp hd ts vs ds ps
 | [],[],[],_,h=>h
 | _::_,_::_,_::_,_,⟨p,q,⟨n,h1⟩,h2,e⟩=>⟨p,q,⟨n,DataW.trod_carry n _ _ _ h1 fun p hp=>hB.same (DataW.trod_lt n _ _ _ h1 p hp)⟩,yB hB h2,e⟩
def Ei:Array Value:= #[.agg #[.slice none 0 0,.slice none 0 0,.slice none 0 0,.slice none 0 0,.slice none 0 0],.agg #[.int .i64 0,.int .i64 0,.int .u8 0,.int .i64 0,.int .i64 0,.int .u8 0,.int .i64 0,.int .i64 0,.int .u8 0,.slice none 0 0],.int .i64 0,.agg #[.int .i64 0,.int .i64 0,.int .u8 0,.int .i64 0,.int .i64 0,.int .u8 0]]
theorem IT (H:Type) (enc:TypeId×Value->H) (W:World) (base:Nat) (args:Array Value) (ds gs:List (DataW H)) (before:List MemPlace)
   (hval:∀ (j:Nat) t v,Tryz.f6.params[j]? =some t->args[j]? =some v->Value.okWide Tryz.prog W .any base t v)
   (hW:DataW.Whole enc Tryz.prog Tryz.f6.params.toList Rows.poseJacobiansSpec.vars false W args.toList ds gs before):
   Calls Tryz.prog 6 args W fun e W'=>∃ v,e= .returned v/\Rows.poseJacobiansSpec.post enc Tryz.prog Tryz.f6 false true false false W args v W':=by
 have hW':=hW;obtain⟨p,q,hA0,hV,rfl,hfz,hnd⟩:=hW;have hA:DataW.TrodAll enc Tryz.prog W 0 (fun _=>true) true Tryz.f6.params.toList args.toList ds p:=hA0;rw[Eh] at hA hval;obtain⟨rfl,rfl⟩:=trodVars_none hV;have hAll:=hA;obtain⟨v0,vs0,d0,ds0,p0,q0,hargs,rfl,rfl,h0,r0⟩:=trodAll_cons hA;obtain⟨v1,vs1,d1,ds1,p1,q1,rfl,rfl,rfl,h1,r1⟩:=trodAll_cons r0;obtain⟨v2,vs2,d2,ds2,p2,q2,rfl,rfl,rfl,h2,r2⟩:=trodAll_cons r1;obtain⟨v3,vs3,d3,ds3,p3,q3,rfl,rfl,rfl,h3,r3⟩:=trodAll_cons r2;obtain⟨rfl,rfl,rfl⟩:=trodAll_nil r3;obtain rfl:args= #[v0,v1,v2,v3]:=by cases args;simp_all
 obtain⟨f27,t27⟩:=tI (P:=Tryz.prog) (t:=27) (by kernel_rfl);obtain⟨f34,t34⟩:=tI (P:=Tryz.prog) (t:=34) (by kernel_rfl);obtain⟨f31,t31⟩:=tI (P:=Tryz.prog) (t:=31) (by kernel_rfl);obtain⟨_,⟨r,rfl,hr⟩,g0⟩:=Bc SD t27 (hval 0 27 v0 rfl rfl) h0;obtain⟨_,⟨s,rfl,hs⟩,g1⟩:=Bc SE t34 (hval 1 34 v1 rfl rfl) h1;obtain⟨bd,rfl,rfl,rfl,w2⟩:=open_int CT (hval 2 3 v2 rfl rfl) h2;obtain⟨_,⟨x,rfl,hx⟩,g3⟩:=Bc Cl t31 (hval 3 31 v3 rfl rfl) h3;have hF:=(xY r s bd x hr hs hx).2 No W [v0,v1,.int .i64 bd,v3] (fun _ h=>h.elim) ⟨g0,g1,RelCs.int .done,g3,trivial⟩;refine hF.mono ?_;rintro e W' ⟨v,rfl,hv,hch⟩;have hvb:v= .bool true:=RelV.bool_inv hv;subst hvb;have hB:Below W.heap.size W W':=hch.below;have hlt:∀ t∈ [27,34,3,31],t<Tryz.prog.types.size:=fun t ht=>Nat.lt_of_lt_of_le (show t<300 by simp at ht;omega) (Nat.le_of_ble_eq_true (by kernel_rfl))
 have h6:=DataW.TrodAll.respare (spare':=fun b=>decide (b<W.heap.size)) LX NU hlt hAll (fun p hp=>by
   have:=hW'.lt p (by simpa using hp)
   simpa using this)
 have h7:DataW.TrodAll enc Tryz.prog W' 0 (fun b=>decide (b<W.heap.size)) true Tryz.f6.params.toList [v0,v1,.int .i64 bd,v3] [d0,d1,.lit (.int .i64 bd),d3] (p0++(p1++([]++(p3++ [])))):=by rw[Eh];exact yB hB h6
 exact⟨_,rfl,_,_,_,[],_,[],hW',trodAll_cons_mk (shut_bool Va _) trodAll_mk0,h7,rfl,hB.frame _,fun h=>by cases h⟩
section
variable (os:Os) {H:Type} (enc:TypeId×Value->H)
abbrev Oy:Input:=⟨#[],Ei,[]⟩
theorem w1:(World.plainHolding Tryz.prog os Oy).variablesB Tryz.prog=true:=by kernel_rfl
theorem w2:((World.plainHolding Tryz.prog os Oy).heap.toList.drop Tryz.prog.globals.size).take ((begin Tryz.prog (fun _ _=>0) default).world.heap.size-Tryz.prog.globals.size)=
     (begin Tryz.prog (fun _ _=>0) default).world.heap.toList.drop Tryz.prog.globals.size:=by kernel_rfl
theorem w3:Input.okWideB Tryz.prog (World.plainHolding Tryz.prog os Oy) 6 ⟨#[],Ei,[]⟩=true:=by kernel_rfl
theorem w4:Rows.poseJacobiansSpec.preB enc Tryz.prog Tryz.f6 Rows.poseJacobiansRow.domain false (World.plainHolding Tryz.prog os Oy).memory Ei 8=true:=by kernel_rfl
end
theorem w6:Tryz.prog.inits.idxOf? 6=none:=by kernel_rfl
theorem LY:Tryz.prog.funcs[6]? =some Tryz.f6:=by kernel_rfl
theorem w7 (os:Os) {H:Type} (enc:TypeId×Value->H):Rows.poseJacobiansSpec.sizedB enc Tryz.prog Tryz.f6 false (World.plainHolding Tryz.prog os Oy).memory Ei 8=true:=by kernel_rfl
theorem lifted (os:Os) (started:os.Started) (H:Type) (enc:TypeId×Value->H):
   ReturnsInHanded {} Tryz.checked os 6 .any (Rows.poseJacobiansSpec.pre6 enc Tryz.prog Tryz.f6 Rows.poseJacobiansRow.domain false) (Rows.poseJacobiansSpec.post enc Tryz.prog Tryz.f6 false true false false):=by
 refine returnsInHanded_of_change own started w6 (fn:=Tryz.f6) LY (ChangeSpec.witness6 (enc:=enc) (C:=Tryz.checked) (s:=Rows.poseJacobiansSpec) false Oy 8 (w1 os) (w2 os) (w3 os) (w4 os enc) (w7 os enc)) ?_;intro W base args ds gs before hval hW _ _;exact IT H enc W base args ds gs before hval hW
theorem c1:Tryz.checked.prog.funcNamed "amble/amblelaw04.PoseJacobians" =some 6:=by kernel_rfl
theorem c3:Tryz.f6.isInstance Tryz.checked.prog Rows.poseJacobiansRow.origin Rows.poseJacobiansRow.targs:=of_decide_eq_true (by kernel_rfl)
theorem c4:Tryz.f6.isWrapper Tryz.checked.prog Rows.poseJacobiansRow.wrapper Rows.poseJacobiansRow.mainSum:=by
 unfold Func.isWrapper;first | (rw[if_pos (by decide+kernel)];kernel_rfl) | (rw[if_neg (by decide+kernel)];exact⟨rfl,rfl⟩)
theorem proved:Rows.PoseJacobiansSaid:=
 OpenClaim.holds_of_wide 6 Tryz.f6 rfl rfl rfl rfl rfl rfl rfl ⟨rfl,rfl,rfl,rfl,rfl⟩ rfl rfl rfl rfl rfl c1 LY LZ c3 c4
   (fun os started H enc _=>lifted os started H enc)
end Go.Proofs.YtbdhgnlabjmnoaaGreat.poseJacobians
