/- PoseReaches: a part of its proof. No condition. -/
import Derived.Test.YtbdhgnlabjmnoaaGreatK3
set_option linter.all false
set_option maxRecDepth 100000
set_option autoImplicit true
set_option relaxedAutoImplicit true
namespace Go.Av
open Go.Proofs Go.RowKit
structure BendD where
 a:Sd
 b:Sd
 w:Bool
 deriving Inhabited
def unBend (S1 S2 S3 T:Nat) (y:BendD):List AV:=[.q y.a.a S1,.q y.a.b S2,.q y.a.d S3,.q y.b.a T,.q y.b.b T,.q y.b.d T,.bool y.w]
def kneeV (v x:PtD) (t:Sd):Vc:=vAdd ⟨⟨v.x,0⟩,⟨v.z,0⟩⟩ (fTurn t.d ⟨⟨x.x,0⟩,⟨x.z,0⟩⟩ ⟨t.a,t.b⟩)
def belowN (w:Vc) (d:PtD) (f:Rat) (t:Sd):Nm:=fAdd ⟨f,0⟩ (fAdd (fMul t.d w.x ⟨d.x,0⟩) (fMul t.d w.z ⟨d.z,0⟩))
def zeroF (d:Rat) (b:Nm):Prop:=(if Int.sign d.num<0 then 0 else sgnS b.a b.b d)=0
instance (d:Rat) (b:Nm):Decidable (zeroF d b):=by unfold zeroF;infer_instance
def surdF (d:Rat) (y:Nm):Sd:=if Int.sign d.num<0 then (⟨0,0,0⟩:Sd) else nrm ⟨y.a,y.b,d⟩
def hipS (w:Vc) (b:Nm) (d:PtD) (t:Sd):Sd:=surdF t.d (fDiv t.d (fSub (fMul t.d w.x ⟨d.z,0⟩) (fMul t.d w.z ⟨d.x,0⟩)) b)
def bendK (u v:BodyD) (w:Vc) (b:Nm) (d:PtD) (t:Sd):Option BendD:=
 if zeroF t.d b then none else some ⟨hipS w b d t,t,withinB u.low u.high (hipS w b d t)&&withinB v.low v.high t⟩
def dotP (a b:PtD):Rat:=a.x*b.x+a.z*b.z
def crossP (a b:PtD):Rat:=a.x*b.z-a.z*b.x
def bendOf (u v:BodyD) (x d:PtD) (t:Sd):Option BendD:=bendK u v (kneeV v.at_ x t) (belowN (kneeV v.at_ x t) d (dotP d d) t) d t
def kOf (v x d:PtD):Rat:=(dotP d d-dotP v v-dotP x x)*((Int.cast 1:Rat)/(Int.cast 2:Rat))
def rootsL (v x d:PtD):List Sd:=rootsS (kOf v x d+dotP v x) (crossP v x+crossP v x) (kOf v x d-dotP v x)
def rootsE (v x d:PtD):Int:=if kOf v x d+dotP v x=0/\crossP v x+crossP v x=0/\kOf v x d-dotP v x=0 then 10 else 0
def bendsS (u v:BodyD) (x d:PtD):List BendD×Bool:=
 if rootsE v.at_ x d=10 then ([],decide (dotP x x=0/\0<dotP v.at_ v.at_/\dotP d d+dotP v.at_ d=0))
 else if rootsL v.at_ x d≠ []/\dotP d d=0 then ([],false)
 else ((rootsL v.at_ x d).filterMap (bendOf u v x d),true)
theorem rootsS_len (a b c:Rat):(rootsS a b c).length<=2:=by
 unfold rootsS;split
 · split <;> simp
 · split
   · simp
   · split <;> simp
theorem filterMap_len {α β:Type} (f:α->Option β) (l:List α):(l.filterMap f).length<=l.length:=by
 induction l with
 | nil=>simp
 | cons a l ih=>
   rw[List.filterMap_cons]
   split <;> simp <;> omega
theorem filterMap_take {α β:Type} [Inhabited α] (f:α->Option β) {l:List α} {i:Nat} (h:i<l.length):(l.take (i+1)).filterMap f=(l.take i).filterMap f++(f (l.getD i default)).toList:=by
 have e:l.take (i+1)=l.take i++ [l.getD i default]:=by
   rw[List.take_add_one,List.getElem?_eq_getElem h];simp[gdE,h]
 rw[e,List.filterMap_append];generalize l.getD i default=y;cases hf:f y <;> simp[List.filterMap_cons,hf]
noncomputable abbrev T122:List Item:=[.code (nav [1,1,1,1,1,1,1,1,0,1,0,0] (bodyOf Tryz.f122)),.inLoop (nav [1,1,1,1,1,1,1,1,0,1,0,0] (bodyOf Tryz.f122)),.inBlock 0,.code (nav [1,1,1,1,1,1,1,1,1] (bodyOf Tryz.f122))]
section
variable {S:Nat->Prop} {w0:World} {h:FrameD} {u v:BodyD} {us vs:List (List AV)} {x d:PtD} {H1 H2 H3 H4 B C X Z:Nat} {L:List Sd} {T FA W BE S1 S2 S3:Nat} {f:Rat}
abbrev st122 (h:FrameD) (u v:BodyD) (us vs:List (List AV)) (x d:PtD) (H1 H2 H3 H4 B C X Z:Nat) (L:List Sd) (T FA:Nat) (f:Rat) (i:Nat) (o:AV):List AV:=slots 171 [(2,.cptr [.q h.at_.x H1,.q h.at_.z H2,.q h.c H3,.q h.s H4,.str u.name,.i6 u.par,.q u.at_.x 300,.q u.at_.z 300,.q u.ma 300,.q u.inr 300,.q u.c.x 300,.q u.c.z 300,.q u.low 300,.q u.high 300,.list 6 us,.str v.name,.i6 v.par,.q v.at_.x 300,.q v.at_.z 300,.q v.ma 300,.q v.inr 300,.q v.c.x 300,.q v.c.z 300,.q v.low 300,.q v.high 300,.list 6 vs,.q x.x B,.q x.z C] 0),(3,.cptr [.q d.x X,.q d.z Z] 0),(6,.cptr [.q v.at_.x 300,.q v.at_.z 300] 0),(7,.cptr [.q x.x B,.q x.z C] 0),(8,.cptr [.q f FA] 0),(15,o),(85,.list 9 (L.map (unSd T))),(86,.i6 ((L.length:Nat):Int)),(87,.i6 ((i:Nat):Int))]
abbrev res122 (S1 S2 S3 T:Nat) (A:List BendD):AV:=.tup [.list 19 (A.map (unBend S1 S2 S3 T)),.bool true]
def out122 (A:List BendD):AV:=if A= [] then .nil else .own 0 19 0 A.length
def oh122 (S1 S2 S3 T:Nat) (A:List BendD):List (Option ABlk):=if A= [] then [] else [some ⟨110,19,true,A.map (unBend S1 S2 S3 T),none⟩]
theorem end122 (A:List BendD) (i:Nat) (hi:i=L.length):GF 122 S w0 (res122 S1 S2 S3 T A) T122 ⟨st122 h u v us vs x d H1 H2 H3 H4 B C X Z L T FA f i (out122 A),oh122 S1 S2 S3 T A⟩:=by
 have hn:¬ (((i:Nat):Int)<((L.length:Nat):Int)):=by omega
 by_cases hA:A= []
 · subst hA
   refine rF KT122_ok [(88,ff)] (.a1 (iF hn)) (V:=.tup [.nil,.bool true]) (Ref.tup2 Ref.nilL rr rfl rfl rfl rfl)
 · have e1:out122 A= .own 0 19 0 A.length:=if_neg hA
   have e2:oh122 S1 S2 S3 T A= [some ⟨110,19,true,A.map (unBend S1 S2 S3 T),none⟩]:=if_neg hA;rw[e1,e2];refine gN KT122_ok [4,5] [(88,ff)] (.a1 (iF hn)) (t:=[.code .ret]) (σ:=slots 171 [(4,.own 0 19 0 A.length),(5,.bool true)]) (h:=[some ⟨110,19,true,(A.map (unBend S1 S2 S3 T)),none⟩]) ?_
   refine Good.freezeD (b:=⟨110,19,true,A.map (unBend S1 S2 S3 T),none⟩) 0 (by rfl) (by rfl) (.oe (.a1 (show 0+A.length<=(A.map (unBend S1 S2 S3 T)).length by simp))) .on ?_;exact gE [.list 19 (((A.map (unBend S1 S2 S3 T)).drop 0).take A.length),.bool true] (Ref.eq (by rw[List.drop_zero,tkE (by simp)];rfl))
abbrev c122_0 (h:FrameD) (H1:Nat) (H2:Nat) (H3:Nat) (H4:Nat) (u:BodyD) (us:List (List AV)) (v:BodyD) (vs:List (List AV)) (x:PtD) (B:Nat) (C:Nat):List AV:=[.q h.at_.x H1,.q h.at_.z H2,.q h.c H3,.q h.s H4,.str u.name,.i6 u.par,.q u.at_.x 300,.q u.at_.z 300,.q u.ma 300,.q u.inr 300,.q u.c.x 300,.q u.c.z 300,.q u.low 300,.q u.high 300,.list 6 us,.str v.name,.i6 v.par,.q v.at_.x 300,.q v.at_.z 300,.q v.ma 300,.q v.inr 300,.q v.c.x 300,.q v.c.z 300,.q v.low 300,.q v.high 300,.list 6 vs,.q x.x B,.q x.z C]
abbrev c122_1 (w:Vc) (W:Nat):List AV:=[.q w.x.a W,.q w.x.b W,.q w.z.a W,.q w.z.b W]
abbrev c122_2 (u:BodyD) (s:Sd) (v:BodyD) (t:Sd):AV:=(.bool (withinB u.low u.high ⟨s.a,s.b,s.d⟩&&withinB v.low v.high ⟨t.a,t.b,t.d⟩))
abbrev c122_4 (A:List BendD) (S1:Nat) (S2:Nat) (S3:Nat) (T:Nat) (s:Sd) (t:Sd) (u:BodyD) (v:BodyD):ABlk:=⟨110,19,true,((A.map (unBend S1 S2 S3 T))++ [[(AV.q s.a S1),(AV.q s.b S2),(AV.q s.d S3),(AV.q t.a T),(AV.q t.b T),(AV.q t.d T),(AV.bool (withinB u.low u.high ⟨s.a,s.b,s.d⟩&&withinB v.low v.high ⟨t.a,t.b,t.d⟩))]]),none⟩
abbrev c122_5 (u:BodyD) (s:Sd):AV:=(.bool (withinB u.low u.high ⟨s.a,s.b,s.d⟩))
set_option maxHeartbeats 2000000 in
theorem loop122 (hf:¬ Int.sign f.num=0) (hfar:f=dotP d d) (hLen:L.length<=2) (hFA:FA=2*X+2*Z+6) (hW:W=170*T+B+C+1804) (hBE:BE=FA+4*W+X+Z+2*T+24) (hS1:S1=2*(2*(4*W+X+Z+2*T+18)+6*BE+2*T+18)+T+5) (hS2:S2=(2*(4*W+X+Z+2*T+18)+6*BE+2*T+18)+T+3) (hS3:S3=2*T+3)
   (hL:8*S1+8*S2+4*S3+400*T+20000<=LIM):∀ (j i:Nat),i+j=L.length->∀ A:List BendD,A=(L.take i).filterMap (bendOf u v x d)->
   GF 122 S w0 (res122 S1 S2 S3 T (L.filterMap (bendOf u v x d))) T122 ⟨st122 h u v us vs x d H1 H2 H3 H4 B C X Z L T FA f i (out122 A),oh122 S1 S2 S3 T A⟩:=by
 intro j
 induction j with
 | zero=>
   intro i hij A hA;have hi:i=L.length:=by omega
   have:A=L.filterMap (bendOf u v x d):=by rw[hA,hi,tkE (rl _)]
   rw[<- this];exact end122 A i hi
 | succ j ih =>
   intro i hij A hA;have hi:((i:Nat):Int)<((L.length:Nat):Int):=by omega
   have ih:=fun i (h:i+j=L.length)=>ih i h
   obtain⟨t,ht⟩:∃ t,t=L.getD i default:=⟨_,rfl⟩;obtain⟨w,hw⟩:∃ w,w=kneeV v.at_ x t:=⟨_,rfl⟩;obtain⟨b,hb⟩:∃ b,b=belowN w d f t:=⟨_,rfl⟩;obtain⟨s,hs⟩:∃ s,s=hipS w b d t:=⟨_,rfl⟩
   have hcm:Ref (.cptr ((L.map (unSd T)).getD i []) 0) (.cptr (unSd T t) 0):=by
     rw[ht];exact Ref.cmap (f:=unSd T) (by omega)
   have hnx:=filterMap_take (bendOf u v x d) (l:=L) (i:=i) (by omega);rw[<- ht] at hnx;have hbo:bendOf u v x d t=bendK u v w b d t:=by rw[hb,hw,hfar];rfl
   have hno:((if Int.sign t.d.num<0 then 0 else sgnS b.a b.b t.d)=0)->bendOf u v x d t=none:=fun h=>by rw[hbo];exact if_pos h
   have hso:(¬ (if Int.sign t.d.num<0 then 0 else sgnS b.a b.b t.d)=0)->bendOf u v x d t=some ⟨s,t,withinB u.low u.high s&&withinB v.low v.high t⟩:=fun h=>by rw[hbo,hs];exact if_neg h
   have hAl:A.length<=2:=by
     rw[hA]
     have:=filterMap_len (bendOf u v x d) (L.take i);have:(L.take i).length<=L.length:=by simp;omega
     omega
   have v0:Ref (.agg [.q ((vAdd ⟨⟨v.at_.x,0⟩,⟨v.at_.z,0⟩⟩ ⟨⟨((fTurn t.d ⟨⟨x.x,0⟩,⟨x.z,0⟩⟩ ⟨t.a,t.b⟩).x.a),((fTurn t.d ⟨⟨x.x,0⟩,⟨x.z,0⟩⟩ ⟨t.a,t.b⟩).x.b)⟩,⟨((fTurn t.d ⟨⟨x.x,0⟩,⟨x.z,0⟩⟩ ⟨t.a,t.b⟩).z.a),((fTurn t.d ⟨⟨x.x,0⟩,⟨x.z,0⟩⟩ ⟨t.a,t.b⟩).z.b)⟩⟩).x.a) (300+(64*T+64*T+42*T+B+0+C+0+1500)+2),.q ((vAdd ⟨⟨v.at_.x,0⟩,⟨v.at_.z,0⟩⟩ ⟨⟨((fTurn t.d ⟨⟨x.x,0⟩,⟨x.z,0⟩⟩ ⟨t.a,t.b⟩).x.a),((fTurn t.d ⟨⟨x.x,0⟩,⟨x.z,0⟩⟩ ⟨t.a,t.b⟩).x.b)⟩,⟨((fTurn t.d ⟨⟨x.x,0⟩,⟨x.z,0⟩⟩ ⟨t.a,t.b⟩).z.a),((fTurn t.d ⟨⟨x.x,0⟩,⟨x.z,0⟩⟩ ⟨t.a,t.b⟩).z.b)⟩⟩).x.b) (0+(64*T+64*T+42*T+B+0+C+0+1500)+2),.q ((vAdd ⟨⟨v.at_.x,0⟩,⟨v.at_.z,0⟩⟩ ⟨⟨((fTurn t.d ⟨⟨x.x,0⟩,⟨x.z,0⟩⟩ ⟨t.a,t.b⟩).x.a),((fTurn t.d ⟨⟨x.x,0⟩,⟨x.z,0⟩⟩ ⟨t.a,t.b⟩).x.b)⟩,⟨((fTurn t.d ⟨⟨x.x,0⟩,⟨x.z,0⟩⟩ ⟨t.a,t.b⟩).z.a),((fTurn t.d ⟨⟨x.x,0⟩,⟨x.z,0⟩⟩ ⟨t.a,t.b⟩).z.b)⟩⟩).z.a) (300+(64*T+64*T+42*T+B+0+C+0+1500)+2),.q ((vAdd ⟨⟨v.at_.x,0⟩,⟨v.at_.z,0⟩⟩ ⟨⟨((fTurn t.d ⟨⟨x.x,0⟩,⟨x.z,0⟩⟩ ⟨t.a,t.b⟩).x.a),((fTurn t.d ⟨⟨x.x,0⟩,⟨x.z,0⟩⟩ ⟨t.a,t.b⟩).x.b)⟩,⟨((fTurn t.d ⟨⟨x.x,0⟩,⟨x.z,0⟩⟩ ⟨t.a,t.b⟩).z.a),((fTurn t.d ⟨⟨x.x,0⟩,⟨x.z,0⟩⟩ ⟨t.a,t.b⟩).z.b)⟩⟩).z.b) (0+(64*T+64*T+42*T+B+0+C+0+1500)+2)]) (.agg (c122_1 w W)):=by rw[hw];exact Ref.agg (RefC.cons qe (RefC.cons qe (RefC.cons qe qe)))
   have v1:Ref (.agg [.q (((if Int.sign t.d.num<0 then (⟨0,0,0⟩:Sd) else nrm ⟨((fDiv t.d ⟨(((fMul t.d ⟨w.x.a,w.x.b⟩ ⟨d.z,0⟩).a)-((fMul t.d ⟨w.z.a,w.z.b⟩ ⟨d.x,0⟩).a)),(((fMul t.d ⟨w.x.a,w.x.b⟩ ⟨d.z,0⟩).b)-((fMul t.d ⟨w.z.a,w.z.b⟩ ⟨d.x,0⟩).b))⟩ ⟨b.a,b.b⟩).a),((fDiv t.d ⟨(((fMul t.d ⟨w.x.a,w.x.b⟩ ⟨d.z,0⟩).a)-((fMul t.d ⟨w.z.a,w.z.b⟩ ⟨d.x,0⟩).a)),(((fMul t.d ⟨w.x.a,w.x.b⟩ ⟨d.z,0⟩).b)-((fMul t.d ⟨w.z.a,w.z.b⟩ ⟨d.x,0⟩).b))⟩ ⟨b.a,b.b⟩).b),t.d⟩)).a) ((((W+W+Z+0+T+8)+(W+W+X+0+T+8)+2)+((W+W+Z+0+T+8)+(W+W+X+0+T+8)+2)+3*BE+3*BE+2*T+18)+(((W+W+Z+0+T+8)+(W+W+X+0+T+8)+2)+((W+W+Z+0+T+8)+(W+W+X+0+T+8)+2)+3*BE+3*BE+2*T+18)+T+5),.q (((if Int.sign t.d.num<0 then (⟨0,0,0⟩:Sd) else nrm ⟨((fDiv t.d ⟨(((fMul t.d ⟨w.x.a,w.x.b⟩ ⟨d.z,0⟩).a)-((fMul t.d ⟨w.z.a,w.z.b⟩ ⟨d.x,0⟩).a)),(((fMul t.d ⟨w.x.a,w.x.b⟩ ⟨d.z,0⟩).b)-((fMul t.d ⟨w.z.a,w.z.b⟩ ⟨d.x,0⟩).b))⟩ ⟨b.a,b.b⟩).a),((fDiv t.d ⟨(((fMul t.d ⟨w.x.a,w.x.b⟩ ⟨d.z,0⟩).a)-((fMul t.d ⟨w.z.a,w.z.b⟩ ⟨d.x,0⟩).a)),(((fMul t.d ⟨w.x.a,w.x.b⟩ ⟨d.z,0⟩).b)-((fMul t.d ⟨w.z.a,w.z.b⟩ ⟨d.x,0⟩).b))⟩ ⟨b.a,b.b⟩).b),t.d⟩)).b) ((((W+W+Z+0+T+8)+(W+W+X+0+T+8)+2)+((W+W+Z+0+T+8)+(W+W+X+0+T+8)+2)+3*BE+3*BE+2*T+18)+T+3),.q (((if Int.sign t.d.num<0 then (⟨0,0,0⟩:Sd) else nrm ⟨((fDiv t.d ⟨(((fMul t.d ⟨w.x.a,w.x.b⟩ ⟨d.z,0⟩).a)-((fMul t.d ⟨w.z.a,w.z.b⟩ ⟨d.x,0⟩).a)),(((fMul t.d ⟨w.x.a,w.x.b⟩ ⟨d.z,0⟩).b)-((fMul t.d ⟨w.z.a,w.z.b⟩ ⟨d.x,0⟩).b))⟩ ⟨b.a,b.b⟩).a),((fDiv t.d ⟨(((fMul t.d ⟨w.x.a,w.x.b⟩ ⟨d.z,0⟩).a)-((fMul t.d ⟨w.z.a,w.z.b⟩ ⟨d.x,0⟩).a)),(((fMul t.d ⟨w.x.a,w.x.b⟩ ⟨d.z,0⟩).b)-((fMul t.d ⟨w.z.a,w.z.b⟩ ⟨d.x,0⟩).b))⟩ ⟨b.a,b.b⟩).b),t.d⟩)).d) (2*T+3)]) (.agg [.q s.a S1,.q s.b S2,.q s.d S3]):=by rw[hs];exact Ref.agg (RefC.cons qe (RefC.cons qe qe))
   have v2:Ref (.agg [.q (f+(((fMul t.d ⟨w.x.a,w.x.b⟩ ⟨d.x,0⟩).a)+((fMul t.d ⟨w.z.a,w.z.b⟩ ⟨d.z,0⟩).a))) (FA+((W+W+X+0+T+8)+(W+W+Z+0+T+8)+2)+2),.q (0+(((fMul t.d ⟨w.x.a,w.x.b⟩ ⟨d.x,0⟩).b)+((fMul t.d ⟨w.z.a,w.z.b⟩ ⟨d.z,0⟩).b))) (0+((W+W+X+0+T+8)+(W+W+Z+0+T+8)+2)+2)]) (.agg [.q b.a BE,.q b.b BE]):=by rw[hb];exact Ref.agg (RefC.cons qe qe)
   have v3:300+0+300+0+(64*T+64*T+42*T+B+0+C+0+1500)+(64*T+64*T+42*T+B+0+C+0+1500)+(64*T+64*T+42*T+B+0+C+0+1500)+(64*T+64*T+42*T+B+0+C+0+1500)+T+600<=LIM:=by omega
   have v4:(((W+W+Z+0+T+8)+(W+W+X+0+T+8)+2)+((W+W+Z+0+T+8)+(W+W+X+0+T+8)+2)+3*BE+3*BE+2*T+18)+(((W+W+Z+0+T+8)+(W+W+X+0+T+8)+2)+((W+W+Z+0+T+8)+(W+W+X+0+T+8)+2)+3*BE+3*BE+2*T+18)+3*T+600<=LIM:=by omega
   have v5:FA+0+((W+W+X+0+T+8)+(W+W+Z+0+T+8)+2)+((W+W+X+0+T+8)+(W+W+Z+0+T+8)+2)+T+400<=LIM:=by omega
   have v6:(W+W+X+0+T+8)+(W+W+X+0+T+8)+(W+W+Z+0+T+8)+(W+W+Z+0+T+8)+T+400<=LIM:=by omega
   have v7:((W+W+Z+0+T+8)+(W+W+X+0+T+8)+2)+((W+W+Z+0+T+8)+(W+W+X+0+T+8)+2)+3*BE+3*BE+2*T+400<=LIM:=by omega
   have v8:128*T+128*T+90*T+2*B+2*0+2*C+2*0+8000<=LIM:=by omega
   have v9:(W+W+Z+0+T+8)+(W+W+Z+0+T+8)+(W+W+X+0+T+8)+(W+W+X+0+T+8)+T+400<=LIM:=by omega
   have v10:(i:Int)<((L.map (unSd T)).length:Int):=by rw[lmE];omega
   have v11:W+W+X+0+T+400<=LIM:=by omega
   have v12:W+W+Z+0+T+400<=LIM:=by omega
   have v13:2*BE+2*BE+T+600<=LIM:=by omega
   have v14:8*S1+8*300+8*300+8*S2+4*S3+2000<=LIM:=by omega
   have v15:8*T+8*300+8*300+8*T+4*T+2000<=LIM:=by omega
   by_cases hA0:A= []
   · subst hA0
     show Good Tryz.prog 122 S No w0 _ T122 ⟨st122 h u v us vs x d H1 H2 H3 H4 B C X Z L T FA f i .nil,[]⟩
     by_cases c1:((i:Nat):Int)<((L.length:Nat):Int)
     · by_cases c2:(Int.sign f.num)=(0:Int)
       · exact absurd c2 hf
       · by_cases c3:(if Int.sign t.d.num<0 then 0 else sgnS b.a b.b t.d)=0
         · exact gR KT122_ok none [2,3,4,5,6,7,8,15,85,86,87] [] [(88,tt),(89,.cptr (unSd T t) 0),(93,ff),(110,.agg (c122_1 w W)),(130,.agg [.q b.a BE,.q b.b BE]),(133,tt),(169,.i6 ((i+1:Nat):Int))] (.c6 (iT c1) hcm (nn i) v10 (iF c2) v8 (.c6 v0 v3 v11 v12 v6 v2 (.a4 v5 (iT c3) v13 (wI ((i:Int)+(1:Int)) ((i+1:Nat):Int) (by first | omega | decide | (unfold big;omega)))))) (ih (i+1) (by omega) [] (by rw[hnx,hno c3, <- hA];rfl))
         · rcases Bool.eq_false_or_eq_true (withinB u.low u.high ⟨s.a,s.b,s.d⟩) with c4 | c4
           · refine gR KT122_ok none [2,3,4,5,6,7,8,15,85,86,87] [26] [(88,tt),(89,.cptr (unSd T t) 0),(93,ff),(110,.agg (c122_1 w W)),(130,.agg [.q b.a BE,.q b.b BE]),(133,ff),(152,.agg [.q s.a S1,.q s.b S2,.q s.d S3]),(160,tt),(165,.bool (withinB u.low u.high ⟨s.a,s.b,s.d⟩&&withinB v.low v.high ⟨t.a,t.b,t.d⟩)),(169,.i6 ((i+1:Nat):Int))] (.c6 (iT c1) hcm (nn i) v10 (iF c2) v8 (.c6 v0 v3 v11 v12 v6 v2 (.c6 v5 (iF c3) v13 v12 v11 v9 (.c6 v7 v1 v4 v14 (show Ref (c122_5 u s) (.bool true) from Ref.bool c4) v15 (.a6 (show Ref (.bool (withinB v.low v.high ⟨t.a,t.b,t.d⟩)) (c122_2 u s v t) from Ref.bool (by rw[c4];simp)) r1 (dc (0<1)) (om (1*344<=140737488355328)) (dc (1<=big)) (wI ((i:Int)+(1:Int)) ((i+1:Nat):Int) (by first | omega | decide | (unfold big;omega)))))))) (t:=T122) (σ:=slots 171 [(2,.cptr (c122_0 h H1 H2 H3 H4 u us v vs x B C) 0),(3,.cptr [.q d.x X,.q d.z Z] 0),(6,.cptr [.q v.at_.x 300,.q v.at_.z 300] 0),(7,.cptr [.q x.x B,.q x.z C] 0),(8,.cptr [.q f FA] 0),(15,.own 0 19 0 1),(85,.list 9 (L.map (unSd T))),(86,.i6 (L.length:Int)),(87,.i6 ((i+1:Nat):Int))]) (h:=[some ⟨110,19,true,[[.q s.a S1,.q s.b S2,.q s.d S3,.q t.a T,.q t.b T,.q t.d T,.bool (withinB u.low u.high ⟨s.a,s.b,s.d⟩&&withinB v.low v.high ⟨t.a,t.b,t.d⟩)]],none⟩]) ?_
             have hA2:([]:List BendD)++ [⟨s,t,withinB u.low u.high s&&withinB v.low v.high t⟩]=(L.take (i+1)).filterMap (bendOf u v x d):=by rw[hnx,hso c3, <- hA];rfl
             have:=ih (i+1) (by omega) _ hA2;exact this
           · refine gR KT122_ok none [2,3,4,5,6,7,8,15,85,86,87] [26] [(88,tt),(89,.cptr (unSd T t) 0),(93,ff),(110,.agg (c122_1 w W)),(130,.agg [.q b.a BE,.q b.b BE]),(133,ff),(152,.agg [.q s.a S1,.q s.b S2,.q s.d S3]),(160,ff),(165,.bool (withinB u.low u.high ⟨s.a,s.b,s.d⟩&&withinB v.low v.high ⟨t.a,t.b,t.d⟩)),(169,.i6 ((i+1:Nat):Int))] (.c6 (iT c1) hcm (nn i) v10 (iF c2) v8 (.c6 v0 v3 v11 v12 v6 v2 (.c6 v5 (iF c3) v13 v12 v11 v9 (.c6 v7 v1 v4 v14 (show Ref (c122_5 u s) (.bool false) from Ref.bool c4) (show Ref (.bool false) (c122_2 u s v t) from Ref.bool (by rw[c4];simp)) (.a5 r1 (dc (0<1)) (om (1*344<=140737488355328)) (dc (1<=big)) (wI ((i:Int)+(1:Int)) ((i+1:Nat):Int) (by first | omega | decide | (unfold big;omega)))))))) (t:=T122) (σ:=slots 171 [(2,.cptr (c122_0 h H1 H2 H3 H4 u us v vs x B C) 0),(3,.cptr [.q d.x X,.q d.z Z] 0),(6,.cptr [.q v.at_.x 300,.q v.at_.z 300] 0),(7,.cptr [.q x.x B,.q x.z C] 0),(8,.cptr [.q f FA] 0),(15,.own 0 19 0 1),(85,.list 9 (L.map (unSd T))),(86,.i6 (L.length:Int)),(87,.i6 ((i+1:Nat):Int))]) (h:=[some ⟨110,19,true,[[.q s.a S1,.q s.b S2,.q s.d S3,.q t.a T,.q t.b T,.q t.d T,.bool (withinB u.low u.high ⟨s.a,s.b,s.d⟩&&withinB v.low v.high ⟨t.a,t.b,t.d⟩)]],none⟩]) ?_
             have hA2:([]:List BendD)++ [⟨s,t,withinB u.low u.high s&&withinB v.low v.high t⟩]=(L.take (i+1)).filterMap (bendOf u v x d):=by rw[hnx,hso c3, <- hA];rfl
             have:=ih (i+1) (by omega) _ hA2;exact this
     · exact absurd hi c1
   · have e1 :out122 A= .own 0 19 0 A.length:=if_neg hA0
     have e2:oh122 S1 S2 S3 T A= [some ⟨110,19,true,A.map (unBend S1 S2 S3 T),none⟩]:=if_neg hA0;rw[e1,e2]
     by_cases c1:((i:Nat):Int)<((L.length:Nat):Int)
     · by_cases c2:(Int.sign f.num)=(0:Int)
       · exact absurd c2 hf
       · by_cases c3:(if Int.sign t.d.num<0 then 0 else sgnS b.a b.b t.d)=0
         · refine gR KT122_ok none [2,3,4,5,6,7,8,15,85,86,87] [0] [(88,tt),(89,.cptr (unSd T t) 0),(93,ff),(110,.agg (c122_1 w W)),(130,.agg [.q b.a BE,.q b.b BE]),(133,tt),(169,.i6 ((i+1:Nat):Int))] (.c6 (iT c1) hcm (nn i) v10 (iF c2) v8 (.c6 v0 v3 v11 v12 v6 v2 (.a4 v5 (iT c3) v13 (wI ((i:Int)+(1:Int)) ((i+1:Nat):Int) (by first | omega | decide | (unfold big;omega)))))) (t:=T122) (σ:=slots 171 [(2,.cptr (c122_0 h H1 H2 H3 H4 u us v vs x B C) 0),(3,.cptr [.q d.x X,.q d.z Z] 0),(6,.cptr [.q v.at_.x 300,.q v.at_.z 300] 0),(7,.cptr [.q x.x B,.q x.z C] 0),(8,.cptr [.q f FA] 0),(15,.own 0 19 0 A.length),(85,.list 9 (L.map (unSd T))),(86,.i6 (L.length:Int)),(87,.i6 ((i+1:Nat):Int))]) (h:=[some ⟨110,19,true,(A.map (unBend S1 S2 S3 T)),none⟩]) ?_
           have:=ih (i+1) (by omega) A (by rw[hnx,hno c3];simp[hA]);rw[e1,e2] at this;exact this
         · have v16:A.length=(A.map (unBend S1 S2 S3 T)).length:=by simp
           have v17:(A.length+1)*344<=140737488355328:=by omega
           have v18:A.length+1<=big:=by(unfold big;omega)
           rcases Bool.eq_false_or_eq_true (withinB u.low u.high ⟨s.a,s.b,s.d⟩) with c4 | c4
           · refine gR KT122_ok none [2,3,4,5,6,7,8,15,85,86,87] [27] [(88,tt),(89,.cptr (unSd T t) 0),(93,ff),(110,.agg (c122_1 w W)),(130,.agg [.q b.a BE,.q b.b BE]),(133,ff),(152,.agg [.q s.a S1,.q s.b S2,.q s.d S3]),(160,tt),(165,.bool (withinB u.low u.high ⟨s.a,s.b,s.d⟩&&withinB v.low v.high ⟨t.a,t.b,t.d⟩)),(169,.i6 ((i+1:Nat):Int))] (.c6 (iT c1) hcm (nn i) v10 (iF c2) v8 (.c6 v0 v3 v11 v12 v6 v2 (.c6 v5 (iF c3) v13 v12 v11 v9 (.c6 v7 v1 v4 v14 (show Ref (c122_5 u s) (.bool true) from Ref.bool c4) v15 (.a6 (show Ref (.bool (withinB v.low v.high ⟨t.a,t.b,t.d⟩)) (c122_2 u s v t) from Ref.bool (by rw[c4];simp)) r1 v16 v17 v18 (wI ((i:Int)+(1:Int)) ((i+1:Nat):Int) (by first | omega | decide | (unfold big;omega)))))))) (t:=T122) (σ:=slots 171 [(2,.cptr (c122_0 h H1 H2 H3 H4 u us v vs x B C) 0),(3,.cptr [.q d.x X,.q d.z Z] 0),(6,.cptr [.q v.at_.x 300,.q v.at_.z 300] 0),(7,.cptr [.q x.x B,.q x.z C] 0),(8,.cptr [.q f FA] 0),(15,.own 0 19 0 (A.length+1)),(85,.list 9 (L.map (unSd T))),(86,.i6 (L.length:Int)),(87,.i6 ((i+1:Nat):Int))]) (h:=[some (c122_4 A S1 S2 S3 T s t u v)]) ?_
             have hA2:A++ [⟨s,t,withinB u.low u.high s&&withinB v.low v.high t⟩]=(L.take (i+1)).filterMap (bendOf u v x d):=by rw[hnx,hso c3, <- hA];rfl
             have:=ih (i+1) (by omega) _ hA2;have e3:out122 (A++ [⟨s,t,withinB u.low u.high s&&withinB v.low v.high t⟩])= .own 0 19 0 (A.length+1):=by unfold out122;rw[if_neg (by simp)];simp
             have e4:oh122 S1 S2 S3 T (A++ [⟨s,t,withinB u.low u.high s&&withinB v.low v.high t⟩])= [some ⟨110,19,true,A.map (unBend S1 S2 S3 T)++ [unBend S1 S2 S3 T ⟨s,t,withinB u.low u.high s&&withinB v.low v.high t⟩],none⟩]:=by unfold oh122;rw[if_neg (by simp)];simp
             rw[e3,e4] at this;exact this
           · refine gR KT122_ok none [2,3,4,5,6,7,8,15,85,86,87] [27] [(88,tt),(89,.cptr (unSd T t) 0),(93,ff),(110,.agg (c122_1 w W)),(130,.agg [.q b.a BE,.q b.b BE]),(133,ff),(152,.agg [.q s.a S1,.q s.b S2,.q s.d S3]),(160,ff),(165,.bool (withinB u.low u.high ⟨s.a,s.b,s.d⟩&&withinB v.low v.high ⟨t.a,t.b,t.d⟩)),(169,.i6 ((i+1:Nat):Int))] (.c6 (iT c1) hcm (nn i) v10 (iF c2) v8 (.c6 v0 v3 v11 v12 v6 v2 (.c6 v5 (iF c3) v13 v12 v11 v9 (.c6 v7 v1 v4 v14 (show Ref (c122_5 u s) (.bool false) from Ref.bool c4) (show Ref (.bool false) (c122_2 u s v t) from Ref.bool (by rw[c4];simp)) (.a5 r1 v16 v17 v18 (wI ((i:Int)+(1:Int)) ((i+1:Nat):Int) (by first | omega | decide | (unfold big;omega)))))))) (t:=T122) (σ:=slots 171 [(2,.cptr (c122_0 h H1 H2 H3 H4 u us v vs x B C) 0),(3,.cptr [.q d.x X,.q d.z Z] 0),(6,.cptr [.q v.at_.x 300,.q v.at_.z 300] 0),(7,.cptr [.q x.x B,.q x.z C] 0),(8,.cptr [.q f FA] 0),(15,.own 0 19 0 (A.length+1)),(85,.list 9 (L.map (unSd T))),(86,.i6 (L.length:Int)),(87,.i6 ((i+1:Nat):Int))]) (h:=[some (c122_4 A S1 S2 S3 T s t u v)]) ?_
             have hA2:A++ [⟨s,t,withinB u.low u.high s&&withinB v.low v.high t⟩]=(L.take (i+1)).filterMap (bendOf u v x d):=by rw[hnx,hso c3, <- hA];rfl
             have:=ih (i+1) (by omega) _ hA2;have e3:out122 (A++ [⟨s,t,withinB u.low u.high s&&withinB v.low v.high t⟩])= .own 0 19 0 (A.length+1):=by unfold out122;rw[if_neg (by simp)];simp
             have e4:oh122 S1 S2 S3 T (A++ [⟨s,t,withinB u.low u.high s&&withinB v.low v.high t⟩])= [some ⟨110,19,true,A.map (unBend S1 S2 S3 T)++ [unBend S1 S2 S3 T ⟨s,t,withinB u.low u.high s&&withinB v.low v.high t⟩],none⟩]:=by unfold oh122;rw[if_neg (by simp)];simp
             rw[e3,e4] at this;exact this
     · exact absurd hi c1
end
def bendsT (ulo uhi vlo vhi:Rat) (vat x d:PtD):List BendD×Bool:=bendsS { (default:BodyD) with low:=ulo,high:=uhi } { (default:BodyD) with low:=vlo,high:=vhi,at_:=vat } x d
def bT (B C X Z:Nat):Nat:=14*X+14*Z+29*B+29*C+18500
def bW (B C X Z:Nat):Nat:=170*bT B C X Z+B+C+1804
def bBE (B C X Z:Nat):Nat:=(2*X+2*Z+6)+4*bW B C X Z+X+Z+2*bT B C X Z+24
def bDV (B C X Z:Nat):Nat:=2*(4*bW B C X Z+X+Z+2*bT B C X Z+18)+6*bBE B C X Z+2*bT B C X Z+18
def bS1 (B C X Z:Nat):Nat:=2*bDV B C X Z+bT B C X Z+5
def bS2 (B C X Z:Nat):Nat:=bDV B C X Z+bT B C X Z+3
def bS3 (B C X Z:Nat):Nat:=2*bT B C X Z+3
def k122:KF
 | [.agg [.q hx H1,.q hz H2,.q hc H3,.q hs H4,.str un,.int .i64 up,.q ux 300,.q uz 300,.q uma 300,.q uin 300,.q ucx 300,.q ucz 300,.q ulo 300,.q uhi 300,.list 6 us,.str vn,.int .i64 vp,.q vx 300,.q vz 300,.q vma 300,.q vin 300,.q vcx 300,.q vcz 300,.q vlo 300,.q vhi 300,.list 6 vs,.q xx B,.q xz C],.agg [.q dx X,.q dz Z]]=>some (.tup [.list 19 ((bendsT ulo uhi vlo vhi ⟨vx,vz⟩ ⟨xx,xz⟩ ⟨dx,dz⟩).1.map (unBend (bS1 B C X Z) (bS2 B C X Z) (bS3 B C X Z) (bT B C X Z))),.bool (bendsT ulo uhi vlo vhi ⟨vx,vz⟩ ⟨xx,xz⟩ ⟨dx,dz⟩).2],[8*bS1 B C X Z+8*bS2 B C X Z+4*bS3 B C X Z+400*bT B C X Z+20000<=LIM])
 | _=>none
abbrev c122_6 (v:BodyD) (x:PtD) (d:PtD) (B:Nat) (C:Nat) (X:Nat) (Z:Nat):List AV:=[.list 9 ((rootsL v.at_ x d).map (unSd (bT B C X Z))),.i6 (rootsE v.at_ x d)]
abbrev c122_7 (d:PtD) (X:Nat) (Z:Nat):List AV:=[.q (d.x*d.x+d.z*d.z) (X+Z+X+Z+6)]
theorem a122:Ctr 122 k122:=fun args r ob h ho=>by
 unfold k122 at h
 split at h
 · rename_i hx H1 hz H2 hc H3 hs H4 un up ux uz uma uin ucx ucz ulo uhi us vn vp vx vz vma vin vcx vcz vlo vhi vs xx B xz C dx X dz Z
   cases h;have o1:8*bS1 B C X Z+8*bS2 B C X Z+4*bS3 B C X Z+400*bT B C X Z+20000<=LIM:=ho _ (by simp);clear ho;obtain⟨h,hh⟩:∃ h:FrameD,h=⟨⟨hx,hz⟩,hc,hs⟩:=⟨_,rfl⟩;obtain⟨u,hu⟩:∃ u:BodyD,u=⟨un,up,⟨ux,uz⟩,⟨ucx,ucz⟩,uma,uin,ulo,uhi,[]⟩:=⟨_,rfl⟩;obtain⟨v,hv⟩:∃ v:BodyD,v=⟨vn,vp,⟨vx,vz⟩,⟨vcx,vcz⟩,vma,vin,vlo,vhi,[]⟩:=⟨_,rfl⟩;obtain⟨x,hx'⟩:∃ x:PtD,x=⟨xx,xz⟩:=⟨_,rfl⟩;obtain⟨d,hd⟩:∃ d:PtD,d=⟨dx,dz⟩:=⟨_,rfl⟩;have hres:bendsT ulo uhi vlo vhi ⟨vx,vz⟩ ⟨xx,xz⟩ ⟨dx,dz⟩=bendsS u v x d:=by rw[hu,hv,hx',hd];rfl
   rw[hres];refine af Tryz.f122 fun S w0=> ?_
   refine Good.weak 171 [(0,.agg (c122_0 h H1 H2 H3 H4 u us v vs x B C)),(1,.agg [.q d.x X,.q d.z Z])] (by kernel_rfl) (.cons (Ref.eq (by rw[hh,hu,hv,hx'];rfl)) (.cons (Ref.eq (by rw[hd];rfl)) .nil)) ?_;have hT:bT B C X Z=14*X+14*Z+29*B+29*C+18500:=rfl;have hW:bW B C X Z=170*bT B C X Z+B+C+1804:=rfl;have hBE:bBE B C X Z=(2*X+2*Z+6)+4*bW B C X Z+X+Z+2*bT B C X Z+24:=rfl;have hDV:bDV B C X Z=2*(4*bW B C X Z+X+Z+2*bT B C X Z+18)+6*bBE B C X Z+2*bT B C X Z+18:=rfl;have h1:bS1 B C X Z=2*bDV B C X Z+bT B C X Z+5:=rfl;have h2:bS2 B C X Z=bDV B C X Z+bT B C X Z+3:=rfl;have h3:bS3 B C X Z=2*bT B C X Z+3:=rfl;have hroots:Ref (AV.tup [(AV.list 9 ((rootsS (((((d.x*d.x+d.z*d.z)-(v.at_.x*v.at_.x+v.at_.z*v.at_.z))-(x.x*x.x+x.z*x.z))*((Int.cast 1:Rat)/(Int.cast 2:Rat)))+(v.at_.x*x.x+v.at_.z*x.z)) ((v.at_.x*x.z-v.at_.z*x.x)+(v.at_.x*x.z-v.at_.z*x.x)) (((((d.x*d.x+d.z*d.z)-(v.at_.x*v.at_.x+v.at_.z*v.at_.z))-(x.x*x.x+x.z*x.z))*((Int.cast 1:Rat)/(Int.cast 2:Rat)))-(v.at_.x*x.x+v.at_.z*x.z))).map (unSd (5*(((((X+Z+X+Z+6)+(300+300+300+300+6)+2)+(B+C+B+C+6)+2)+64+2)+(300+300+B+C+6)+2)+4*((300+300+B+C+6)+(300+300+B+C+6)+2)+2*(((((X+Z+X+Z+6)+(300+300+300+300+6)+2)+(B+C+B+C+6)+2)+64+2)+(300+300+B+C+6)+2)+300)))),(AV.int .i64 (if (((((d.x*d.x+d.z*d.z)-(v.at_.x*v.at_.x+v.at_.z*v.at_.z))-(x.x*x.x+x.z*x.z))*((Int.cast 1:Rat)/(Int.cast 2:Rat)))+(v.at_.x*x.x+v.at_.z*x.z))=0/\((v.at_.x*x.z-v.at_.z*x.x)+(v.at_.x*x.z-v.at_.z*x.x))=0/\(((((d.x*d.x+d.z*d.z)-(v.at_.x*v.at_.x+v.at_.z*v.at_.z))-(x.x*x.x+x.z*x.z))*((Int.cast 1:Rat)/(Int.cast 2:Rat)))-(v.at_.x*x.x+v.at_.z*x.z))=0 then 10 else 0))]) (AV.tup [(AV.list 9 ((rootsL v.at_ x d).map (unSd (bT B C X Z)))),(AV.int .i64 (rootsE v.at_ x d))]):=Ref.tup2 (Ref.listM (rootsL v.at_ x d) fun y _=>RefC.cons (RefC.q_le (by omega)) (RefC.cons (RefC.q_le (by omega)) (RefC.q_le (by omega)))) (Ref.int rfl) rfl rfl rfl rfl
   have v0:20*(((((X+Z+X+Z+6)+(300+300+300+300+6)+2)+(B+C+B+C+6)+2)+64+2)+(300+300+B+C+6)+2)+20*((300+300+B+C+6)+(300+300+B+C+6)+2)+10*(((((X+Z+X+Z+6)+(300+300+300+300+6)+2)+(B+C+B+C+6)+2)+64+2)+(300+300+B+C+6)+2)+3000<=LIM:=by omega
   have v1:((((X+Z+X+Z+6)+(300+300+300+300+6)+2)+(B+C+B+C+6)+2)+64+2)+(300+300+B+C+6)+200<=LIM:=by omega
   have v2:(((X+Z+X+Z+6)+(300+300+300+300+6)+2)+(B+C+B+C+6)+2)+64+200<=LIM:=by omega
   have v3:((X+Z+X+Z+6)+(300+300+300+300+6)+2)+(B+C+B+C+6)+200<=LIM:=by omega
   have v4:300+300+B+C+300<=LIM:=by omega
   have v5:300+300+300+300+300<=LIM:=by omega
   have v6:B+C+B+C+300<=LIM:=by omega
   have v7:(X+Z+X+Z+6)+(300+300+300+300+6)+200<=LIM:=by omega
   have v8:(300+300+B+C+6)+(300+300+B+C+6)+200<=LIM:=by omega
   have v9:X+Z+X+Z+300<=LIM:=by omega
   by_cases c1:rootsE v.at_ x d=10
   · have e:bendsS u v x d=([],decide (dotP x x=0/\0<dotP v.at_ v.at_/\dotP d d+dotP v.at_ d=0)):=if_pos c1
     rw[e]
     by_cases c2:(Int.sign (x.x*x.x+x.z*x.z).num)=(0:Int)
     · have k2:dotP x x=0:=sgn_zero.1 c2
       by_cases c3:(0:Int)<(Int.sign (v.at_.x*v.at_.x+v.at_.z*v.at_.z).num)
       · have k3:0<dotP v.at_ v.at_:=sgn_gt.1 c3
         refine rF KT122_ok [(48,.tup (c122_6 v x d B C X Z)),(62,tt),(68,tt),(76,tt)] (.c6 v9 v5 v7 v6 v3 v2 (.c6 v4 v4 v1 v8 v1 v0 (.c6 hroots (iT c1) v6 (iT c2) v5 (iT c3) (.a2 (om (300+300+X+Z+300<=LIM)) (om ((X+Z+X+Z+6)+(300+300+X+Z+6)+200<=LIM)))))) (V:=.tup [.nil,.bool (decide ((Int.sign ((d.x*d.x+d.z*d.z)+(v.at_.x*d.x+v.at_.z*d.z)).num)=(0:Int)))]) (Ref.tup2 Ref.nilL (Ref.bool ?_) rfl rfl rfl rfl)
         rw[decide_eq_decide,sgn_zero];exact⟨fun h=>⟨k2,k3,h⟩,fun h=>h.2.2⟩
       · have k3:¬ 0<dotP v.at_ v.at_:=fun h=>c3 (sgn_gt.2 h)
         refine rF KT122_ok [(48,.tup (c122_6 v x d B C X Z)),(62,tt),(68,tt),(76,ff)] (.c6 v9 v5 v7 v6 v3 v2 (.c6 v4 v4 v1 v8 v1 v0 (.a6 hroots (iT c1) v6 (iT c2) v5 (iF c3)))) (V:=.tup [.nil,.bool false]) (Ref.tup2 Ref.nilL (Ref.bool (by simp[k3])) rfl rfl rfl rfl)
     · have k2:¬ dotP x x=0:=fun h=>c2 (sgn_zero.2 h)
       refine rF KT122_ok [(48,.tup (c122_6 v x d B C X Z)),(62,tt),(68,ff)] (.c6 v9 v5 v7 v6 v3 v2 (.c6 v4 v4 v1 v8 v1 v0 (.a4 hroots (iT c1) v6 (iF c2)))) (V:=.tup [.nil,.bool false]) (Ref.tup2 Ref.nilL (Ref.bool (by simp[k2])) rfl rfl rfl rfl)
   · refine gR KT122_ok none [2,3,4,5,6,7,8,15,85,86,87] [0,1,2,3,5] [(48,.tup (c122_6 v x d B C X Z)),(62,ff)] (.c6 v9 v5 v7 v6 v3 v2 (.c6 v4 v4 v1 v8 v1 v0 (.a2 hroots (iF c1)))) (t:=T122) (σ:=slots 171 [(2,.ptr 0 72 0 0),(3,.ptr 1 6 0 0),(4,.nil),(5,.bool false),(6,.ptr 2 6 0 0),(7,.ptr 3 6 0 0),(8,.ptr 4 3 0 0),(15,.nil),(85,(.list 9 ((rootsL v.at_ x d).map (unSd (bT B C X Z))))),(86,(.i6 (((rootsL v.at_ x d).map (unSd (bT B C X Z))).length:Int))),(87,.i6 (0:Int))]) (h:=[some ⟨267,72,false,[(c122_0 h H1 H2 H3 H4 u us v vs x B C)],none⟩,some ⟨58,6,false,[[.q d.x X,.q d.z Z]],none⟩,some ⟨58,6,false,[[.q v.at_.x 300,.q v.at_.z 300]],none⟩,some ⟨58,6,false,[[.q x.x B,.q x.z C]],none⟩,some ⟨56,3,false,[(c122_7 d X Z)],none⟩]) ?_
     have hlen:((rootsL v.at_ x d).map (unSd (bT B C X Z))).length=(rootsL v.at_ x d).length:=lmE ..;rw[hlen];refine Good.freezeD (b:=⟨267,72,false,[(c122_0 h H1 H2 H3 H4 u us v vs x B C)],none⟩) 0 (by rfl) (by rfl) (.oe (.a1 (dc (0<1)))) .on ?_;refine Good.freezeD (b:=⟨58,6,false,[[.q d.x X,.q d.z Z]],none⟩) 1 (by rfl) (by rfl) (.oe (.a1 (dc (0<1)))) .on ?_;refine Good.freezeD (b:=⟨58,6,false,[[.q v.at_.x 300,.q v.at_.z 300]],none⟩) 2 (by rfl) (by rfl) (.oe (.a1 (dc (0<1)))) .on ?_;refine Good.freezeD (b:=⟨58,6,false,[[.q x.x B,.q x.z C]],none⟩) 3 (by rfl) (by rfl) (.oe (.a1 (dc (0<1)))) .on ?_;refine Good.freezeD (b:=⟨56,3,false,[(c122_7 d X Z)],none⟩) 4 (by rfl) (by rfl) (.oe (.a1 (dc (0<1)))) .on ?_;refine Good.tidy [] (by decide) (σ':=slots 171 [(2,.cptr (c122_0 h H1 H2 H3 H4 u us v vs x B C) 0),(3,.cptr [.q d.x X,.q d.z Z] 0),(6,.cptr [.q v.at_.x 300,.q v.at_.z 300] 0),(7,.cptr [.q x.x B,.q x.z C] 0),(8,.cptr (c122_7 d X Z) 0),(4,.nil),(5,.bool false),(15,.nil),(85,.list 9 ((rootsL v.at_ x d).map (unSd (bT B C X Z)))),(86,.i6 (((rootsL v.at_ x d).length:Nat):Int)),(87,.i6 0)]) (h':=[]) (by kernel_rfl) (by kernel_rfl) ?_
     refine Good.pk 171 [(2,.cptr (c122_0 h H1 H2 H3 H4 u us v vs x B C) 0),(3,.cptr [.q d.x X,.q d.z Z] 0),(6,.cptr [.q v.at_.x 300,.q v.at_.z 300] 0),(7,.cptr [.q x.x B,.q x.z C] 0),(8,.cptr (c122_7 d X Z) 0),(15,.nil),(85,.list 9 ((rootsL v.at_ x d).map (unSd (bT B C X Z)))),(86,.i6 (((rootsL v.at_ x d).length:Nat):Int)),(87,.i6 0)] ?_;have e1:out122 []= .nil:=if_pos rfl;have e2:oh122 (bS1 B C X Z) (bS2 B C X Z) (bS3 B C X Z) (bT B C X Z) []= []:=if_pos rfl
     by_cases c2:Int.sign (d.x*d.x+d.z*d.z).num=0
     · by_cases c3:rootsL v.at_ x d= []
       · have e:bendsS u v x d=((rootsL v.at_ x d).filterMap (bendOf u v x d),true):=by unfold bendsS;rw[if_neg c1,if_neg (fun h=>h.1 c3)]
         rw[e,c3]
         have:=end122 (S:=S) (w0:=w0) (h:=h) (u:=u) (v:=v) (us:=us) (vs:=vs) (x:=x) (d:=d) (H1:=H1) (H2:=H2) (H3:=H3) (H4:=H4) (B:=B) (C:=C) (X:=X) (Z:=Z) (L:=[]) (T:=bT B C X Z) (FA:=X+Z+X+Z+6) (S1:=bS1 B C X Z) (S2:=bS2 B C X Z) (S3:=bS3 B C X Z) (f:=d.x*d.x+d.z*d.z) [] 0 rfl;rw[e1,e2] at this;exact this
       · have e:bendsS u v x d=([],false):=by unfold bendsS;rw[if_neg c1,if_pos ⟨c3,sgn_zero.1 c2⟩]
         rw[e];have hpos:0<(rootsL v.at_ x d).length:=List.length_pos_iff.2 c3;refine rF KT122_ok [(88,tt),(89,.cptr [.q ((rootsL v.at_ x d).getD 0 default).a (bT B C X Z),.q ((rootsL v.at_ x d).getD 0 default).b (bT B C X Z),.q ((rootsL v.at_ x d).getD 0 default).d (bT B C X Z)] 0),(93,tt)] (.a5 (iT (om ((0:Int)<((((rootsL v.at_ x d).length):Nat):Int)))) (show Ref (.cptr (((rootsL v.at_ x d).map (unSd (bT B C X Z))).getD 0 []) 0) (.cptr [.q ((rootsL v.at_ x d).getD 0 default).a (bT B C X Z),.q ((rootsL v.at_ x d).getD 0 default).b (bT B C X Z),.q ((rootsL v.at_ x d).getD 0 default).d (bT B C X Z)] 0) from Ref.cmap (f:=unSd (bT B C X Z)) hpos) (nn 0) (show(0:Int)<(((rootsL v.at_ x d).map (unSd (bT B C X Z))).length:Int) by rw[lmE];omega) (iT c2)) (V:=.tup [.nil,.bool false]) (Ref.tup2 Ref.nilL rr rfl rfl rfl rfl)
     · have e:bendsS u v x d=((rootsL v.at_ x d).filterMap (bendOf u v x d),true):=by unfold bendsS;rw[if_neg c1,if_neg (fun h=>c2 (sgn_zero.2 h.2))]
       rw[e]
       have:=loop122 (S:=S) (w0:=w0) (h:=h) (u:=u) (v:=v) (us:=us) (vs:=vs) (x:=x) (d:=d) (H1:=H1) (H2:=H2) (H3:=H3) (H4:=H4) (B:=B) (C:=C) (X:=X) (Z:=Z) (L:=rootsL v.at_ x d) (T:=bT B C X Z) (FA:=X+Z+X+Z+6) (S1:=bS1 B C X Z) (S2:=bS2 B C X Z) (S3:=bS3 B C X Z) (f:=d.x*d.x+d.z*d.z) (W:=bW B C X Z) (BE:=bBE B C X Z) c2 rfl (rootsS_len _ _ _) (by omega) (by omega) (by omega) (by omega) (by omega) (by omega) (by omega) (rootsL v.at_ x d).length 0 (by omega) [] rfl;rw[e1,e2] at this;exact this
 · cases h
def k118:KF
 | [.cptr [.str mn,.list 27 XB,.list 17 XS,.list 17 XT,.list 13 XD,.list 5 XF,.list 12 XR] 0,.int .i64 b]=>some (.bool (decide (0<=b/\b<((XB.length:Nat):Int))),[])
 | _=>none
theorem a118:Ctr 118 k118:=by
 refine ctr Tryz.f118 fun _ _ _ S w0 h ho=> ?_
 unfold k118 at h;split at h <;> cases h;rename_i mn XB XS XT XD XF XR b
 by_cases h1:(0:Int)<=b
 · exact rF .nil [(7,tt)] (.a1 (iT h1)) (V:=.bool (decide (b<(XB.length:Int)))) (Ref.bool (by simp[h1]))
 · exact rF .nil [(7,ff)] (.a1 (iF h1)) (V:=.bool false) (Ref.bool (by simp[h1]))
theorem frL_get {jb i:Nat} {m:MachD} {p:PoseD} (h:i<m.bodies.length):((List.range m.bodies.length).map fun i=>unF (SZ jb) (fr m p i)).getD i []=unF (SZ jb) (fr m p i):=by
 rw[gdE,List.getElem?_map,List.getElem?_range h];rfl
theorem frL_ref {jb i:Nat} {m:MachD} {p:PoseD} (h:i<m.bodies.length):Ref (.cptr (((List.range m.bodies.length).map fun i=>unF (SZ jb) (fr m p i)).getD i []) 0) (.cptr (unF (SZ jb) (fr m p i)) 0):=Ref.eq (by rw[frL_get h])
theorem standP_ok {jb:Nat} {m:MachD} {p:PoseD} (h:poseE m p.joints.length=0):Ref (.tup [standP jb (reMach (unMach 300 m)) ⟨⟨p.at_.x,p.at_.z⟩,p.turn,(p.joints.map (unQ jb)).map reQ⟩,.i6 (poseE (reMach (unMach 300 m)) (p.joints.map (unQ jb)).length)]) (.tup [.cptr (unPl jb m p) 0,.i6 0]):=
 Ref.eq (by rw[reMach_un,reQ_un,lmE,show standP jb m ⟨⟨p.at_.x,p.at_.z⟩,p.turn,p.joints⟩= .cptr (unPl jb m p) 0 from if_pos h,h])
theorem standP_no {jb:Nat} {m:MachD} {p:PoseD} (h:¬ poseE m p.joints.length=0):Ref (.tup [standP jb (reMach (unMach 300 m)) ⟨⟨p.at_.x,p.at_.z⟩,p.turn,(p.joints.map (unQ jb)).map reQ⟩,.i6 (poseE (reMach (unMach 300 m)) (p.joints.map (unQ jb)).length)]) (.tup [.lit (.pointer none),.i6 (poseE m p.joints.length)]):=
 Ref.eq (by rw[reMach_un,reQ_un,lmE,show standP jb m ⟨⟨p.at_.x,p.at_.z⟩,p.turn,p.joints⟩= .lit (.pointer none) from if_neg h])
theorem Ref.pose {ax az tu:Rat} {jb A2 A3:Nat} {J:List (List AV)} (h2:A2<=jb) (h3:A3<=jb) (h:Ref (.list 3 J) (.list 3 ((J.map reQ).map (unQ jb)))):Ref (.agg [.q ax jb,.q az A2,.q tu A3,.list 3 J]) (.agg (unPose jb ⟨⟨ax,az⟩,tu,J.map reQ⟩)):=by
 refine Ref.agg (RefC.tl (RefC.cons (RefC.q_le h2) (RefC.cons (RefC.q_le h3) ?_)));intro ρ S w D vs x;cases x with
 | list f1 f2 f3 f4 f5 f6 f7=>
   cases f7;exact h _ _ _ _ _ (RelV_one (.list f1 f2 f3 f4 f5 f6 .done))
def placeF (f:FrameD) (x:PtD):PtD:=⟨f.at_.x+(f.c*x.x-f.s*x.z),f.at_.z+(f.s*x.x+f.c*x.z)⟩
def worldE (m:MachD) (n:Nat) (b:Int):Int:=if poseE m n=0 then (if 0<=b/\b<((m.bodies.length:Nat):Int) then 0 else 3) else poseE m n
def worldV (m:MachD) (p:PoseD) (b:Int) (x:PtD):PtD:=if worldE m p.joints.length b=0 then placeF (fr m p b.toNat) x else ⟨0,0⟩
def k30:KF
 | [.agg M,.agg [.q ax jb,.q az A2,.q tu A3,.list 3 J],.int .i64 b,.agg [.q px B,.q pz C]]=>some (.tup [.agg [.q (worldV (reMach M) ⟨⟨ax,az⟩,tu,J.map reQ⟩ b ⟨px,pz⟩).x (4*SZ jb+B+C+8),.q (worldV (reMach M) ⟨⟨ax,az⟩,tu,J.map reQ⟩ b ⟨px,pz⟩).z (4*SZ jb+B+C+8)],.int .i64 (worldE (reMach M) J.length b)],[M=unMach 300 (reMach M),(reMach M).small,(reMach M).bodies.length<=8,A2<=jb,A3<=jb,jb<=100000,Ref (.list 3 J) (.list 3 ((J.map reQ).map (unQ jb))),J.length<=4611686018427387904,8*SZ jb+2*B+2*C+400<=LIM])
 | _=>none
theorem a30:Ctr 30 k30:=by
 refine ctr Tryz.f30 fun _ _ _ S w0 h ho=> ?_
 unfold k30 at h;split at h <;> cases h;rename_i M ax jb az A2 tu A3 J b px B pz C;obtain⟨o1,o2,o3,o4,o5,o6,o7,o8,o9⟩:=ho.e9;have K:=((kn.cons a119).cons a118).cons a117;generalize hm:reMach M=m at*;subst o1;clear hm;obtain⟨p,hp⟩:∃ p:PoseD,p=⟨⟨ax,az⟩,tu,J.map reQ⟩:=⟨_,rfl⟩;have hpj:p.joints.length=J.length:=by rw[hp];simp
 rw[<- hp]
 try rw[<- hpj]
 refine Good.weak 38 [(0,.agg (unMach 300 m)),(1,.agg (unPose jb p)),(2,.i6 b),(3,.agg [.q px B,.q pz C])] (by kernel_rfl) (.r (.cons (by rw[hp];exact Ref.pose o4 o5 o7) (.r (.r .nil)))) ?_;clear hp;have s1:unMach 300 m=unMach 300 (reMach (unMach 300 m)):=by rw[reMach_un]
 have s2:(reMach (unMach 300 m)).small:=by rw[reMach_un];exact o2
 have s3:(reMach (unMach 300 m)).bodies.length<=8:=by rw[reMach_un];exact o3
 have s4:Ref (.list 3 (p.joints.map (unQ jb))) (.list 3 (((p.joints.map (unQ jb)).map reQ).map (unQ jb))):=Ref.eq (by rw[reQ_un]);have s5:(p.joints.map (unQ jb)).length<=4611686018427387904:=by rw[lmE,hpj];exact o8
 have s7:SZ jb<=153753600:=by unfold SZ;omega
 have s8:LIM=17592186044416:=rfl
 by_cases h1:(poseE m p.joints.length)=(0:Int)
 · have v0:Ref (.tup [(standP jb (reMach (unMach 300 m)) ⟨⟨p.at_.x,p.at_.z⟩,p.turn,(p.joints.map (unQ jb)).map reQ⟩),.i6 (poseE (reMach (unMach 300 m)) (p.joints.map (unQ jb)).length)]) (.tup [.cptr [.str m.name,.list 27 (m.bodies.map (unBody 300)),.list 17 (m.springs.map (unCordy 300)),.list 17 (m.tendons.map (unCordy 300)),.list 13 (m.motors.map (unMotor 300)),.list 5 (m.feet.map (unFoot 300)),.list 12 ((List.range m.bodies.length).map fun i=>unF (SZ jb) (fr m p i))] 0,.i6 (0:Int)]):=by first | exact s1 | exact s2 | exact s3 | exact s4 | exact s5 | exact standP_ok h1 | exact standP_no h1 | (simp only[lmE,List.length_range] at*;exact frL_ref (by omega)) | (simp only[lmE,List.length_range] at*;omega)
   by_cases h2:0<=b/\b<(((m.bodies.map (unBody 300)).length:Nat):Int)
   · refine rF K [(12,.tup [.cptr [.str m.name,.list 27 (m.bodies.map (unBody 300)),.list 17 (m.springs.map (unCordy 300)),.list 17 (m.tendons.map (unCordy 300)),.list 13 (m.motors.map (unMotor 300)),.list 5 (m.feet.map (unFoot 300)),.list 12 ((List.range m.bodies.length).map fun i=>unF (SZ jb) (fr m p i))] 0,.i6 (0:Int)]),(23,ff),(34,.cptr [.q ((fr m p b.toNat).at_.x) (2*(SZ jb)),.q ((fr m p b.toNat).at_.z) (2*(SZ jb)),.q ((fr m p b.toNat).c) (SZ jb),.q ((fr m p b.toNat).s) (SZ jb)] 0)] (.c6 s1 s2 s3 (rl jb) (rl jb) o6 (.c6 s4 s5 v0 (jF h2) (show Ref (.cptr (((List.range m.bodies.length).map fun i=>unF (SZ jb) (fr m p i)).getD b.toNat []) 0) (.cptr [.q ((fr m p b.toNat).at_.x) (2*(SZ jb)),.q ((fr m p b.toNat).at_.z) (2*(SZ jb)),.q ((fr m p b.toNat).c) (SZ jb),.q ((fr m p b.toNat).s) (SZ jb)] 0) by(simp only[lmE,List.length_range] at*;exact frL_ref (by omega))) (show 0<=b by(simp only[lmE,List.length_range] at*;omega)) (.a2 (show b<(((List.range m.bodies.length).map fun i=>unF (SZ jb) (fr m p i)).length:Int) by first | exact s1 | exact s2 | exact s3 | exact s4 | exact s5 | exact standP_ok h1 | exact standP_no h1 | (simp only[lmE,List.length_range] at*;exact frL_ref (by omega)) | (simp only[lmE,List.length_range] at*;omega)) (show(2*(SZ jb))+(2*(SZ jb))+2*B+2*C+2*(SZ jb)+2*(SZ jb)+400<=LIM by(simp only[lmE,List.length_range] at*;omega))))) (V:=.tup [.agg [.q (((fr m p b.toNat).at_.x)+(((fr m p b.toNat).c)*px-((fr m p b.toNat).s)*pz)) ((2*(SZ jb))+(B+C+(SZ jb)+(SZ jb)+6)+2),.q (((fr m p b.toNat).at_.z)+(((fr m p b.toNat).s)*px+((fr m p b.toNat).c)*pz)) ((2*(SZ jb))+(B+C+(SZ jb)+(SZ jb)+6)+2)],.i6 (0:Int)]) ?_
     have e:worldE m p.joints.length b=0:=by unfold worldE;rw[if_pos h1,if_pos (by simpa using h2)]
     have v:worldV m p b ⟨px,pz⟩=placeF (fr m p b.toNat) ⟨px,pz⟩:=if_pos e;rw[v,e];exact Ref.tup2 (Ref.agg (RefC.cons qe qe)) rr rfl rfl rfl rfl
   · refine rF K [(12,.tup [.cptr [.str m.name,.list 27 (m.bodies.map (unBody 300)),.list 17 (m.springs.map (unCordy 300)),.list 17 (m.tendons.map (unCordy 300)),.list 13 (m.motors.map (unMotor 300)),.list 5 (m.feet.map (unFoot 300)),.list 12 ((List.range m.bodies.length).map fun i=>unF (SZ jb) (fr m p i))] 0,.i6 (0:Int)]),(23,tt)] (.c6 s1 s2 s3 (rl jb) (rl jb) o6 (.a4 s4 s5 v0 (jT h2))) (V:=.tup [.agg [.q 0 0,.q 0 0],.i6 (3:Int)]) ?_
     have e:worldE m p.joints.length b=3:=by unfold worldE;rw[if_pos h1,if_neg (by simpa using h2)]
     have v:worldV m p b ⟨px,pz⟩=⟨0,0⟩:=if_neg (by rw[e];decide);rw[v,e];exact Ref.tup2 (Ref.agg (RefC.cons qe qe)) rr rfl rfl rfl rfl
 · refine rF K [(12,.tup [.lit (.pointer none),.i6 (poseE m p.joints.length)]),(18,tt)] (.c6 s1 s2 s3 (rl jb) (rl jb) o6 (.a4 s4 s5 (show Ref (.tup [(standP jb (reMach (unMach 300 m)) ⟨⟨p.at_.x,p.at_.z⟩,p.turn,(p.joints.map (unQ jb)).map reQ⟩),.i6 (poseE (reMach (unMach 300 m)) (p.joints.map (unQ jb)).length)]) (.tup [.lit (.pointer none),.i6 (poseE m p.joints.length)]) by first | exact s1 | exact s2 | exact s3 | exact s4 | exact s5 | exact standP_ok h1 | exact standP_no h1 | (simp only[lmE,List.length_range] at*;exact frL_ref (by omega)) | (simp only[lmE,List.length_range] at*;omega)) (jT h1))) (V:=.tup [.agg [.q 0 0,.q 0 0],.i6 (poseE m p.joints.length)]) ?_
   have e:worldE m p.joints.length b=poseE m p.joints.length:=by unfold worldE;rw[if_neg h1]
   have v:worldV m p b ⟨px,pz⟩=⟨0,0⟩:=if_neg (by rw[e];exact h1);rw[v,e];exact Ref.tup2 (Ref.agg (RefC.cons qe qe)) rr rfl rfl rfl rfl
def loB (m:MachD) (b:Int):BodyD:=m.bodies.getD b.toNat default
def upB (m:MachD) (b:Int):BodyD:=m.bodies.getD (loB m b).par.toNat default
def hipF (m:MachD) (p:PoseD) (b:Int):FrameD:=⟨placeF (fr m p (upB m b).par.toNat) (upB m b).at_,(fr m p (upB m b).par.toNat).c,(fr m p (upB m b).par.toNat).s⟩
def legE (m:MachD) (n:Nat) (b:Int):Int:=if worldE m n b=0 then (if b=0\/(loB m b).par=0 then 2 else 0) else worldE m n b
def unLeg (jb:Nat) (f:FrameD) (u v:BodyD) (x:PtD) (B C:Nat):List AV:=[.q f.at_.x (4*SZ jb+608),.q f.at_.z (4*SZ jb+608),.q f.c (SZ jb),.q f.s (SZ jb)]++unBody 300 u++unBody 300 v++ [.q x.x B,.q x.z C]
def zLeg:List AV:=[.q 0 0,.q 0 0,.q 0 0,.q 0 0,.str (ByteArray.mk #[]),.i6 0,.q 0 0,.q 0 0,.q 0 0,.q 0 0,.q 0 0,.q 0 0,.q 0 0,.q 0 0,.nil,.str (ByteArray.mk #[]),.i6 0,.q 0 0,.q 0 0,.q 0 0,.q 0 0,.q 0 0,.q 0 0,.q 0 0,.q 0 0,.nil,.q 0 0,.q 0 0]
def legP (jb:Nat) (m:MachD) (p:PoseD) (b:Int) (x:PtD) (B C:Nat):AV:=if legE m p.joints.length b=0 then .agg (unLeg jb (hipF m p b) (upB m b) (loB m b) x B C) else .agg zLeg
theorem leg_parts {m:MachD} {n:Nat} {b:Int} (h:legE m n b=0):poseE m n=0/\0<b/\b<((m.bodies.length:Nat):Int)/\0<(loB m b).par/\(loB m b).par<b/\0<=(upB m b).par/\(upB m b).par<(loB m b).par:=by
 unfold legE at h
 split at h
 · rename_i hw
   split at h
   · cases h
   · rename_i h0
     unfold worldE at hw
     split at hw
     · rename_i hp
       split at hw
       · rename_i hb
         have ht:=check_tree (pose_parts hp).1;have h1:=ht b.toNat (by omega) (by omega);have h2:0<=(loB m b).par/\(loB m b).par<b:=⟨h1.1,by have:=h1.2;unfold loB;omega⟩;have h3:=ht (loB m b).par.toNat (by omega) (by omega);refine⟨hp,by omega,hb.2,by omega,h2.2,h3.1, ?_⟩
         have:=h3.2;unfold upB;omega
       · cases hw
     · rename_i hp;exact absurd hw hp
 · rename_i hw;exact absurd h hw
theorem bodyRef {m:MachD} {v:BodyD} {i:Nat} (hv:v=m.bodies.getD i default) (h:i<m.bodies.length):Ref (.cptr ((m.bodies.map (unBody 300)).getD i []) 0) (.cptr (unBody 300 v) 0):=hv▸Ref.cmap h
def k121:KF
 | [.agg M,.agg [.q ax jb,.q az A2,.q tu A3,.list 3 J],.int .i64 b,.agg [.q px B,.q pz C]]=>some (.tup [legP jb (reMach M) ⟨⟨ax,az⟩,tu,J.map reQ⟩ b ⟨px,pz⟩ B C,.int .i64 (legE (reMach M) J.length b)],[M=unMach 300 (reMach M),(reMach M).small,(reMach M).bodies.length<=8,A2<=jb,A3<=jb,jb<=100000,Ref (.list 3 J) (.list 3 ((J.map reQ).map (unQ jb))),J.length<=4611686018427387904])
 | _=>none
abbrev d121_0 (m:MachD) (jb:Nat) (p:PoseD):List AV:=[.cptr [.str m.name,.list 27 (m.bodies.map (unBody 300)),.list 17 (m.springs.map (unCordy 300)),.list 17 (m.tendons.map (unCordy 300)),.list 13 (m.motors.map (unMotor 300)),.list 5 (m.feet.map (unFoot 300)),.list 12 ((List.range m.bodies.length).map fun i=>unF (SZ jb) (fr m p i))] 0,.i6 (0:Int)]
abbrev d121_1:List AV:=[.q 0 0,.q 0 0,.q 0 0,.q 0 0,.str (ByteArray.mk #[]),.i6 (0:Int),.q 0 0,.q 0 0,.q 0 0,.q 0 0,.q 0 0,.q 0 0,.q 0 0,.q 0 0,AV.nil,.str (ByteArray.mk #[]),.i6 (0:Int),.q 0 0,.q 0 0,.q 0 0,.q 0 0,.q 0 0,.q 0 0,.q 0 0,.q 0 0,AV.nil,.q 0 0,.q 0 0]
abbrev d121_2 (jb:Nat) (m:MachD) (p:PoseD):AV:=(.tup [(standP jb (reMach (unMach 300 m)) ⟨⟨p.at_.x,p.at_.z⟩,p.turn,(p.joints.map (unQ jb)).map reQ⟩),.i6 (poseE (reMach (unMach 300 m)) (p.joints.map (unQ jb)).length)])
abbrev d121_3 (m:MachD) (p:PoseD) (u:BodyD) (jb:Nat):List AV:=[.q ((fr m p u.par.toNat).at_.x) (2*(SZ jb)),.q ((fr m p u.par.toNat).at_.z) (2*(SZ jb)),.q ((fr m p u.par.toNat).c) (SZ jb),.q ((fr m p u.par.toNat).s) (SZ jb)]
theorem a121:Ctr 121 k121:=by
 refine ctr Tryz.f121 fun _ _ _ S w0 h ho=> ?_
 unfold k121 at h;split at h <;> cases h;rename_i M ax jb az A2 tu A3 J b px B pz C;obtain⟨o1,o2,o3,o4,o5,o6,o7,o8⟩:=ho.e8;have K:=((kn.cons a119).cons a118).cons a117;generalize hm:reMach M=m at*;subst o1;clear hm;obtain⟨p,hp⟩:∃ p:PoseD,p=⟨⟨ax,az⟩,tu,J.map reQ⟩:=⟨_,rfl⟩;have hpj:p.joints.length=J.length:=by rw[hp];simp
 rw[<- hp]
 try rw[<- hpj]
 refine Good.weak 84 [(0,.agg (unMach 300 m)),(1,.agg (unPose jb p)),(2,.i6 b),(3,.agg [.q px B,.q pz C])] (by kernel_rfl) (.r (.cons (by rw[hp];exact Ref.pose o4 o5 o7) (.r (.r .nil)))) ?_;clear hp;have s1:unMach 300 m=unMach 300 (reMach (unMach 300 m)):=by rw[reMach_un]
 have s2:(reMach (unMach 300 m)).small:=by rw[reMach_un];exact o2
 have s3:(reMach (unMach 300 m)).bodies.length<=8:=by rw[reMach_un];exact o3
 have s4:Ref (.list 3 (p.joints.map (unQ jb))) (.list 3 (((p.joints.map (unQ jb)).map reQ).map (unQ jb))):=Ref.eq (by rw[reQ_un]);have s5:(p.joints.map (unQ jb)).length<=4611686018427387904:=by rw[lmE,hpj];exact o8
 have s7:SZ jb<=153753600:=by unfold SZ;omega
 have s8:LIM=17592186044416:=rfl;obtain⟨v,hv⟩:∃ v,v=loB m b:=⟨_,rfl⟩;obtain⟨u,hu⟩:∃ u,u=upB m b:=⟨_,rfl⟩;have hu2:u=m.bodies.getD v.par.toNat default:=by rw[hu,hv];rfl
 have hleg:poseE m p.joints.length=0->(0<=b/\b<((m.bodies.length:Nat):Int))->¬ b=0->¬ v.par=0->(0<=v.par/\v.par<((m.bodies.length:Nat):Int)/\v.par.toNat<m.bodies.length/\0<=u.par/\u.par<((m.bodies.length:Nat):Int)/\u.par.toNat<m.bodies.length):=by
   intro a1 a2 a3 a4;have q:=leg_parts (m:=m) (n:=p.joints.length) (b:=b) (by unfold legE worldE;rw[if_pos a1,if_pos a2,if_pos rfl,if_neg (by rw[<- hv];exact not_or.2 ⟨a3,a4⟩)]);rw[<- hv, <- hu] at q;omega
 by_cases h1:(poseE m p.joints.length)=(0:Int)
 · by_cases h2:0<=b/\b<(((m.bodies.map (unBody 300)).length:Nat):Int)
   · by_cases h3:b=(0:Int)
     · refine rF K [(15,.tup (d121_0 m jb p)),(26,ff),(35,tt)] (.c6 s1 s2 s3 (rl jb) (rl jb) o6 (.a5 s4 s5 (show Ref (d121_2 jb m p) (.tup (d121_0 m jb p)) by first | exact s1 | exact s2 | exact s3 | exact s4 | exact s5 | exact standP_ok h1 | exact standP_no h1 | (simp only[lmE,List.length_range] at*;exact frL_ref (by omega)) | (simp only[lmE,List.length_range] at*;omega) | exact bodyRef hv (by simp only[lmE] at*;omega) | (have q:=hleg h1 (by simpa using h2) h3 h4;first | exact bodyRef hu2 (by omega) | exact frL_ref (by omega) | (simp only[lmE,List.length_range] at*;omega))) (jF h2) (iT h3))) (V:=.tup [.agg (d121_1),.i6 (2:Int)]) ?_
       have w:worldE m p.joints.length b=0:=by unfold worldE;rw[if_pos h1,if_pos (by simpa using h2)]
       have e:legE m p.joints.length b=2:=by unfold legE;rw[if_pos w,if_pos (Or.inl h3)]
       rw[show legP jb m p b ⟨px,pz⟩ B C= .agg zLeg from if_neg (by rw[e];first | decide | exact h1),e];exact Ref.tup2 rr rr rfl rfl rfl rfl
     · have v2:0<=b:=by(simp only[lmE,List.length_range] at*;omega)
       by_cases h4:v.par=(0:Int)
       · refine rF K [(15,.tup (d121_0 m jb p)),(26,ff),(35,ff),(42,.cptr (unBody 300 v) 0),(32,tt)] (.c6 s1 s2 s3 (rl jb) (rl jb) o6 (.c6 s4 s5 (show Ref (d121_2 jb m p) (.tup (d121_0 m jb p)) by first | exact s1 | exact s2 | exact s3 | exact s4 | exact s5 | exact standP_ok h1 | exact standP_no h1 | (simp only[lmE,List.length_range] at*;exact frL_ref (by omega)) | (simp only[lmE,List.length_range] at*;omega) | exact bodyRef hv (by simp only[lmE] at*;omega) | (have q:=hleg h1 (by simpa using h2) h3 h4;first | exact bodyRef hu2 (by omega) | exact frL_ref (by omega) | (simp only[lmE,List.length_range] at*;omega))) (jF h2) (iF h3) (show Ref (.cptr ((m.bodies.map (unBody 300)).getD b.toNat []) 0) (.cptr (unBody 300 v) 0) by first | exact s1 | exact s2 | exact s3 | exact s4 | exact s5 | exact standP_ok h1 | exact standP_no h1 | (simp only[lmE,List.length_range] at*;exact frL_ref (by omega)) | (simp only[lmE,List.length_range] at*;omega) | exact bodyRef hv (by simp only[lmE] at*;omega) | (have q:=hleg h1 (by simpa using h2) h3 h4;first | exact bodyRef hu2 (by omega) | exact frL_ref (by omega) | (simp only[lmE,List.length_range] at*;omega))) (.a3 v2 (show b<((m.bodies.map (unBody 300)).length:Int) by first | exact s1 | exact s2 | exact s3 | exact s4 | exact s5 | exact standP_ok h1 | exact standP_no h1 | (simp only[lmE,List.length_range] at*;exact frL_ref (by omega)) | (simp only[lmE,List.length_range] at*;omega) | exact bodyRef hv (by simp only[lmE] at*;omega) | (have q:=hleg h1 (by simpa using h2) h3 h4;first | exact bodyRef hu2 (by omega) | exact frL_ref (by omega) | (simp only[lmE,List.length_range] at*;omega))) (iT h4)))) (V:=.tup [.agg (d121_1),.i6 (2:Int)]) ?_
         have w:worldE m p.joints.length b=0:=by unfold worldE;rw[if_pos h1,if_pos (by simpa using h2)]
         have e:legE m p.joints.length b=2:=by unfold legE;rw[if_pos w,if_pos (Or.inr (hv▸h4))]
         rw[show legP jb m p b ⟨px,pz⟩ B C= .agg zLeg from if_neg (by rw[e];first | decide | exact h1),e];exact Ref.tup2 rr rr rfl rfl rfl rfl
       · have v0:Ref (.cptr ((m.bodies.map (unBody 300)).getD b.toNat []) 0) (.cptr (unBody 300 v) 0):=by first | exact s1 | exact s2 | exact s3 | exact s4 | exact s5 | exact standP_ok h1 | exact standP_no h1 | (simp only[lmE,List.length_range] at*;exact frL_ref (by omega)) | (simp only[lmE,List.length_range] at*;omega) | exact bodyRef hv (by simp only[lmE] at*;omega) | (have q:=hleg h1 (by simpa using h2) h3 h4;first | exact bodyRef hu2 (by omega) | exact frL_ref (by omega) | (simp only[lmE,List.length_range] at*;omega))
         have v1:b<((m.bodies.map (unBody 300)).length:Int):=by first | exact s1 | exact s2 | exact s3 | exact s4 | exact s5 | exact standP_ok h1 | exact standP_no h1 | (simp only[lmE,List.length_range] at*;exact frL_ref (by omega)) | (simp only[lmE,List.length_range] at*;omega) | exact bodyRef hv (by simp only[lmE] at*;omega) | (have q:=hleg h1 (by simpa using h2) h3 h4;first | exact bodyRef hu2 (by omega) | exact frL_ref (by omega) | (simp only[lmE,List.length_range] at*;omega))
         refine rF K [(15,.tup (d121_0 m jb p)),(26,ff),(35,ff),(42,.cptr (unBody 300 v) 0),(32,ff),(54,.cptr (unBody 300 v) 0),(63,.cptr (unBody 300 u) 0),(71,.cptr (d121_3 m p u jb) 0)] (.c6 s1 s2 s3 (rl jb) (rl jb) o6 (.c6 s4 s5 (show Ref (d121_2 jb m p) (.tup (d121_0 m jb p)) by first | exact s1 | exact s2 | exact s3 | exact s4 | exact s5 | exact standP_ok h1 | exact standP_no h1 | (simp only[lmE,List.length_range] at*;exact frL_ref (by omega)) | (simp only[lmE,List.length_range] at*;omega) | exact bodyRef hv (by simp only[lmE] at*;omega) | (have q:=hleg h1 (by simpa using h2) h3 h4;first | exact bodyRef hu2 (by omega) | exact frL_ref (by omega) | (simp only[lmE,List.length_range] at*;omega))) (jF h2) (iF h3) v0 (.c6 v2 v1 (iF h4) v0 v2 v1 (.c6 (show Ref (.cptr ((m.bodies.map (unBody 300)).getD v.par.toNat []) 0) (.cptr (unBody 300 u) 0) by first | exact s1 | exact s2 | exact s3 | exact s4 | exact s5 | exact standP_ok h1 | exact standP_no h1 | (simp only[lmE,List.length_range] at*;exact frL_ref (by omega)) | (simp only[lmE,List.length_range] at*;omega) | exact bodyRef hv (by simp only[lmE] at*;omega) | (have q:=hleg h1 (by simpa using h2) h3 h4;first | exact bodyRef hu2 (by omega) | exact frL_ref (by omega) | (simp only[lmE,List.length_range] at*;omega))) (show 0<=v.par by(simp only[lmE,List.length_range] at*;omega)) (show v.par<((m.bodies.map (unBody 300)).length:Int) by first | exact s1 | exact s2 | exact s3 | exact s4 | exact s5 | exact standP_ok h1 | exact standP_no h1 | (simp only[lmE,List.length_range] at*;exact frL_ref (by omega)) | (simp only[lmE,List.length_range] at*;omega) | exact bodyRef hv (by simp only[lmE] at*;omega) | (have q:=hleg h1 (by simpa using h2) h3 h4;first | exact bodyRef hu2 (by omega) | exact frL_ref (by omega) | (simp only[lmE,List.length_range] at*;omega))) (show Ref (.cptr (((List.range m.bodies.length).map fun i=>unF (SZ jb) (fr m p i)).getD u.par.toNat []) 0) (.cptr (d121_3 m p u jb) 0) by(simp only[lmE,List.length_range] at*;exact frL_ref (by omega))) (show 0<=u.par by(simp only[lmE,List.length_range] at*;omega)) (show u.par<(((List.range m.bodies.length).map fun i=>unF (SZ jb) (fr m p i)).length:Int) by first | exact s1 | exact s2 | exact s3 | exact s4 | exact s5 | exact standP_ok h1 | exact standP_no h1 | (simp only[lmE,List.length_range] at*;exact frL_ref (by omega)) | (simp only[lmE,List.length_range] at*;omega) | exact bodyRef hv (by simp only[lmE] at*;omega) | (have q:=hleg h1 (by simpa using h2) h3 h4;first | exact bodyRef hu2 (by omega) | exact frL_ref (by omega) | (simp only[lmE,List.length_range] at*;omega))) (.a1 (show(2*(SZ jb))+(2*(SZ jb))+2*300+2*300+2*(SZ jb)+2*(SZ jb)+400<=LIM by(simp only[lmE,List.length_range] at*;omega))))))) (V:=.tup [.agg [.q (((fr m p u.par.toNat).at_.x)+(((fr m p u.par.toNat).c)*u.at_.x-((fr m p u.par.toNat).s)*u.at_.z)) ((2*(SZ jb))+(300+300+(SZ jb)+(SZ jb)+6)+2),.q (((fr m p u.par.toNat).at_.z)+(((fr m p u.par.toNat).s)*u.at_.x+((fr m p u.par.toNat).c)*u.at_.z)) ((2*(SZ jb))+(300+300+(SZ jb)+(SZ jb)+6)+2),.q ((fr m p u.par.toNat).c) (SZ jb),.q ((fr m p u.par.toNat).s) (SZ jb),.str u.name,.i6 u.par,.q u.at_.x 300,.q u.at_.z 300,.q u.ma 300,.q u.inr 300,.q u.c.x 300,.q u.c.z 300,.q u.low 300,.q u.high 300,.list 6 (u.shape.map (unP 300)),.str v.name,.i6 v.par,.q v.at_.x 300,.q v.at_.z 300,.q v.ma 300,.q v.inr 300,.q v.c.x 300,.q v.c.z 300,.q v.low 300,.q v.high 300,.list 6 (v.shape.map (unP 300)),.q px B,.q pz C],.i6 (0:Int)]) ?_
         have w:worldE m p.joints.length b=0:=by unfold worldE;rw[if_pos h1,if_pos (by simpa using h2)]
         have e:legE m p.joints.length b=0:=by unfold legE;rw[if_pos w,if_neg (by rw[<- hv];exact not_or.2 ⟨h3,h4⟩)]
         rw[show legP jb m p b ⟨px,pz⟩ B C= .agg (unLeg jb (hipF m p b) (upB m b) (loB m b) ⟨px,pz⟩ B C) from if_pos e,e, <- hv, <- hu];exact Ref.tup2 (Ref.agg (RefC.cons (RefC.q_eq (by rw[hu];rfl) (by omega)) (RefC.cons (RefC.q_eq (by rw[hu];rfl) (by omega)) (RefC.cons (RefC.q_eq (by rw[hu];rfl) (by omega)) (RefC.cons (RefC.q_eq (by rw[hu];rfl) (by omega)) RefC.rfl'))))) rr rfl rfl rfl rfl
   · refine rF K [(15,.tup (d121_0 m jb p)),(26,tt)] (.c6 s1 s2 s3 (rl jb) (rl jb) o6 (.a4 s4 s5 (show Ref (d121_2 jb m p) (.tup (d121_0 m jb p)) by first | exact s1 | exact s2 | exact s3 | exact s4 | exact s5 | exact standP_ok h1 | exact standP_no h1 | (simp only[lmE,List.length_range] at*;exact frL_ref (by omega)) | (simp only[lmE,List.length_range] at*;omega) | exact bodyRef hv (by simp only[lmE] at*;omega) | (have q:=hleg h1 (by simpa using h2) h3 h4;first | exact bodyRef hu2 (by omega) | exact frL_ref (by omega) | (simp only[lmE,List.length_range] at*;omega))) (jT h2))) (V:=.tup [.agg (d121_1),.i6 (3:Int)]) ?_
     have w:worldE m p.joints.length b=3:=by unfold worldE;rw[if_pos h1,if_neg (by simpa using h2)]
     have e:legE m p.joints.length b=3:=by unfold legE;rw[if_neg (by rw[w];decide),w]
     rw[show legP jb m p b ⟨px,pz⟩ B C= .agg zLeg from if_neg (by rw[e];first | decide | exact h1),e];exact Ref.tup2 rr rr rfl rfl rfl rfl
 · refine rF K [(15,.tup [.lit (.pointer none),.i6 (poseE m p.joints.length)]),(21,tt)] (.c6 s1 s2 s3 (rl jb) (rl jb) o6 (.a4 s4 s5 (show Ref (d121_2 jb m p) (.tup [.lit (.pointer none),.i6 (poseE m p.joints.length)]) by first | exact s1 | exact s2 | exact s3 | exact s4 | exact s5 | exact standP_ok h1 | exact standP_no h1 | (simp only[lmE,List.length_range] at*;exact frL_ref (by omega)) | (simp only[lmE,List.length_range] at*;omega) | exact bodyRef hv (by simp only[lmE] at*;omega) | (have q:=hleg h1 (by simpa using h2) h3 h4;first | exact bodyRef hu2 (by omega) | exact frL_ref (by omega) | (simp only[lmE,List.length_range] at*;omega))) (jT h1))) (V:=.tup [.agg (d121_1),.i6 (poseE m p.joints.length)]) ?_
   have w:worldE m p.joints.length b=poseE m p.joints.length:=by unfold worldE;rw[if_neg h1]
   have e:legE m p.joints.length b=poseE m p.joints.length:=by unfold legE;rw[if_neg (by rw[w];exact h1),w]
   rw[show legP jb m p b ⟨px,pz⟩ B C= .agg zLeg from if_neg (by rw[e];first | decide | exact h1),e];exact Ref.tup2 rr rr rfl rfl rfl rfl
def k123:KF
 | [.agg [.q c C,.q s E]]=>some (.agg [.q c C,.q (-s) E],[])
 | _=>none
theorem a123:Ctr 123 k123:=by
 refine ctr Tryz.f123 fun _ _ _ S w0 h ho=> ?_
 unfold k123 at h;split at h <;> cases h;rename_i c C s E;have K:=kn.cons a59;exact rR K [] .nil
def localD (h:FrameD) (to:PtD):PtD:=⟨h.c*(to.x-h.at_.x)-(-h.s)*(to.z-h.at_.z),(-h.s)*(to.x-h.at_.x)+h.c*(to.z-h.at_.z)⟩
def bndS (m:MachD) (p:PoseD) (b:Int) (x to:PtD):List BendD×Bool:=bendsS (upB m b) (loB m b) x (localD (hipF m p b) to)
def bndsE (m:MachD) (p:PoseD) (b:Int) (x to:PtD):Int:=if legE m p.joints.length b=0 then (if (bndS m p b x to).2=true then 0 else 10) else legE m p.joints.length b
def bndsL (m:MachD) (p:PoseD) (b:Int) (x to:PtD):List BendD:=if bndsE m p b x to=0 then (bndS m p b x to).1 else []
def lX (jb TX TZ:Nat):Nat:=(TX+(4*SZ jb+608)+2)+(TZ+(4*SZ jb+608)+2)+SZ jb+SZ jb+6
theorem legP_ok {jb:Nat} {m:MachD} {p:PoseD} {b:Int} {px pz:Rat} {B C:Nat} {h:FrameD} {u v:BodyD} (hh:h=hipF m p b) (hu:u=upB m b) (hv:v=loB m b) (e:legE m p.joints.length b=0):Ref (.tup [legP jb (reMach (unMach 300 m)) ⟨⟨p.at_.x,p.at_.z⟩,p.turn,(p.joints.map (unQ jb)).map reQ⟩ b ⟨px,pz⟩ B C,.i6 (legE (reMach (unMach 300 m)) (p.joints.map (unQ jb)).length b)]) (.tup [.agg (unLeg jb h u v ⟨px,pz⟩ B C),.i6 0]):=by
 subst hh;subst hu;subst hv;exact Ref.eq (by rw[reMach_un,reQ_un,lmE,show legP jb m ⟨⟨p.at_.x,p.at_.z⟩,p.turn,p.joints⟩ b ⟨px,pz⟩ B C= .agg (unLeg jb (hipF m p b) (upB m b) (loB m b) ⟨px,pz⟩ B C) from if_pos e,e])
theorem legP_no {jb:Nat} {m:MachD} {p:PoseD} {b:Int} {px pz:Rat} {B C:Nat} (e:¬ legE m p.joints.length b=0):Ref (.tup [legP jb (reMach (unMach 300 m)) ⟨⟨p.at_.x,p.at_.z⟩,p.turn,(p.joints.map (unQ jb)).map reQ⟩ b ⟨px,pz⟩ B C,.i6 (legE (reMach (unMach 300 m)) (p.joints.map (unQ jb)).length b)]) (.tup [.agg zLeg,.i6 (legE m p.joints.length b)]):=
 Ref.eq (by rw[reMach_un,reQ_un,lmE,show legP jb m ⟨⟨p.at_.x,p.at_.z⟩,p.turn,p.joints⟩ b ⟨px,pz⟩ B C= .agg zLeg from if_neg e])
def k40:KF
 | [.agg M,.agg [.q ax jb,.q az A2,.q tu A3,.list 3 J],.int .i64 b,.agg [.q px B,.q pz C],.agg [.q tx TX,.q tz TZ]]=>some (.tup [.list 19 ((bndsL (reMach M) ⟨⟨ax,az⟩,tu,J.map reQ⟩ b ⟨px,pz⟩ ⟨tx,tz⟩).map (unBend (bS1 B C (lX jb TX TZ) (lX jb TX TZ)) (bS2 B C (lX jb TX TZ) (lX jb TX TZ)) (bS3 B C (lX jb TX TZ) (lX jb TX TZ)) (bT B C (lX jb TX TZ) (lX jb TX TZ)))),.int .i64 (bndsE (reMach M) ⟨⟨ax,az⟩,tu,J.map reQ⟩ b ⟨px,pz⟩ ⟨tx,tz⟩)],[M=unMach 300 (reMach M),(reMach M).small,(reMach M).bodies.length<=8,A2<=jb,A3<=jb,jb<=100000,Ref (.list 3 J) (.list 3 ((J.map reQ).map (unQ jb))),J.length<=4611686018427387904,8*bS1 B C (lX jb TX TZ) (lX jb TX TZ)+8*bS2 B C (lX jb TX TZ) (lX jb TX TZ)+4*bS3 B C (lX jb TX TZ) (lX jb TX TZ)+400*bT B C (lX jb TX TZ) (lX jb TX TZ)+20000<=LIM,TX+TZ+20*SZ jb+20000<=LIM])
 | _=>none
abbrev d40_0 (h:FrameD) (jb:Nat) (u:BodyD) (v:BodyD) (px:Rat) (B:Nat) (pz:Rat) (C:Nat):List AV:=[.agg [.q h.at_.x (4*SZ jb+608),.q h.at_.z (4*SZ jb+608),.q h.c (SZ jb),.q h.s (SZ jb),.str u.name,.i6 u.par,.q u.at_.x 300,.q u.at_.z 300,.q u.ma 300,.q u.inr 300,.q u.c.x 300,.q u.c.z 300,.q u.low 300,.q u.high 300,.list 6 (u.shape.map (unP 300)),.str v.name,.i6 v.par,.q v.at_.x 300,.q v.at_.z 300,.q v.ma 300,.q v.inr 300,.q v.c.x 300,.q v.c.z 300,.q v.low 300,.q v.high 300,.list 6 (v.shape.map (unP 300)),.q px B,.q pz C],.i6 (0:Int)]
abbrev d40_1:List AV:=[.q 0 0,.q 0 0,.q 0 0,.q 0 0,.str (ByteArray.mk #[]),.i6 (0:Int),.q 0 0,.q 0 0,.q 0 0,.q 0 0,.q 0 0,.q 0 0,.q 0 0,.q 0 0,AV.nil,.str (ByteArray.mk #[]),.i6 (0:Int),.q 0 0,.q 0 0,.q 0 0,.q 0 0,.q 0 0,.q 0 0,.q 0 0,.q 0 0,AV.nil,.q 0 0,.q 0 0]
abbrev d40_2 (y:List BendD×Bool) (B:Nat) (C:Nat) (jb:Nat) (TX:Nat) (TZ:Nat):List AV:=[.list 19 (y.1.map (unBend (bS1 B C (lX jb TX TZ) (lX jb TX TZ)) (bS2 B C (lX jb TX TZ) (lX jb TX TZ)) (bS3 B C (lX jb TX TZ) (lX jb TX TZ)) (bT B C (lX jb TX TZ) (lX jb TX TZ)))),.bool y.2]
abbrev d40_3 (jb:Nat) (m:MachD) (p:PoseD) (b:Int) (px:Rat) (pz:Rat) (B:Nat) (C:Nat):AV:=(.tup [(legP jb (reMach (unMach 300 m)) ⟨⟨p.at_.x,p.at_.z⟩,p.turn,(p.joints.map (unQ jb)).map reQ⟩ b ⟨px,pz⟩ B C),.i6 (legE (reMach (unMach 300 m)) (p.joints.map (unQ jb)).length b)])
theorem a40:Ctr 40 k40:=by
 refine ctr Tryz.f40 fun _ _ _ S w0 h ho=> ?_
 unfold k40 at h;split at h <;> cases h;rename_i M ax jb az A2 tu A3 J b px B pz C tx TX tz TZ;obtain⟨o1,o2,o3,o4,o5,o6,o7,o8,o9,o10⟩:=ho.e10;have K:=(((((kn.cons a122).cons a37).cons a123).cons a32).cons a121).cons a117;generalize hm:reMach M=m at*;subst o1;clear hm;obtain⟨p,hp⟩:∃ p:PoseD,p=⟨⟨ax,az⟩,tu,J.map reQ⟩:=⟨_,rfl⟩;have hpj:p.joints.length=J.length:=by rw[hp];simp
 rw[<- hp]
 try rw[<- hpj]
 refine Good.weak 45 [(0,.agg (unMach 300 m)),(1,.agg (unPose jb p)),(2,.i6 b),(3,.agg [.q px B,.q pz C]),(4,.agg [.q tx TX,.q tz TZ])] (by kernel_rfl) (.r (.cons (by rw[hp];exact Ref.pose o4 o5 o7) (.r (.r (.r .nil))))) ?_;clear hp;have s1:unMach 300 m=unMach 300 (reMach (unMach 300 m)):=by rw[reMach_un]
 have s2:(reMach (unMach 300 m)).small:=by rw[reMach_un];exact o2
 have s3:(reMach (unMach 300 m)).bodies.length<=8:=by rw[reMach_un];exact o3
 have s4:Ref (.list 3 (p.joints.map (unQ jb))) (.list 3 (((p.joints.map (unQ jb)).map reQ).map (unQ jb))):=Ref.eq (by rw[reQ_un]);have s5:(p.joints.map (unQ jb)).length<=4611686018427387904:=by rw[lmE,hpj];exact o8
 have s7:SZ jb<=153753600:=by unfold SZ;omega
 have s8:LIM=17592186044416:=rfl;obtain⟨h,hh⟩:∃ h,h=hipF m p b:=⟨_,rfl⟩;obtain⟨u,hu⟩:∃ u,u=upB m b:=⟨_,rfl⟩;obtain⟨v,hv⟩:∃ v,v=loB m b:=⟨_,rfl⟩;obtain⟨y,hy⟩:∃ y,y=bendsS u v ⟨px,pz⟩ (localD h ⟨tx,tz⟩):=⟨_,rfl⟩;have hS:bndS m p b ⟨px,pz⟩ ⟨tx,tz⟩=y:=by rw[hy,hh,hu,hv];rfl
 have hX:lX jb TX TZ=(TX+(4*SZ jb+608)+2)+(TZ+(4*SZ jb+608)+2)+SZ jb+SZ jb+6:=rfl
 by_cases h1:(legE m p.joints.length b)=(0:Int)
 · have v0:Ref (d40_3 jb m p b px pz B C) (.tup (d40_0 h jb u v px B pz C)):=by exact legP_ok hh hu hv h1
   have v1:Ref (.tup [.list 19 ((bendsT u.low u.high v.low v.high ⟨v.at_.x,v.at_.z⟩ ⟨px,pz⟩ ⟨((localD h ⟨tx,tz⟩).x),((localD h ⟨tx,tz⟩).z)⟩).1.map (unBend (bS1 B C (lX jb TX TZ) (lX jb TX TZ)) (bS2 B C (lX jb TX TZ) (lX jb TX TZ)) (bS3 B C (lX jb TX TZ) (lX jb TX TZ)) (bT B C (lX jb TX TZ) (lX jb TX TZ)))),.bool ((bendsT u.low u.high v.low v.high ⟨v.at_.x,v.at_.z⟩ ⟨px,pz⟩ ⟨((localD h ⟨tx,tz⟩).x),((localD h ⟨tx,tz⟩).z)⟩).2)]) (.tup (d40_2 y B C jb TX TZ)):=by exact Ref.eq (by rw[hy];rfl)
   have v2:Ref (.agg [.q (h.c*(tx-h.at_.x)-(-h.s)*(tz-h.at_.z)) ((TX+(4*SZ jb+608)+2)+(TZ+(4*SZ jb+608)+2)+(SZ jb)+(SZ jb)+6),.q ((-h.s)*(tx-h.at_.x)+h.c*(tz-h.at_.z)) ((TX+(4*SZ jb+608)+2)+(TZ+(4*SZ jb+608)+2)+(SZ jb)+(SZ jb)+6)]) (.agg [.q ((localD h ⟨tx,tz⟩).x) (lX jb TX TZ),.q ((localD h ⟨tx,tz⟩).z) (lX jb TX TZ)]):=Ref.agg (RefC.cons qe qe);have v3:(TX+(4*SZ jb+608)+2)+(TZ+(4*SZ jb+608)+2)+(SZ jb)+(SZ jb)+300<=LIM:=by omega
   have v4:TX+TZ+(4*SZ jb+608)+(4*SZ jb+608)+300<=LIM:=by omega
   rcases Bool.eq_false_or_eq_true (!y.2) with h2 | h2
   · refine rF K [(16,.tup (d40_0 h jb u v px B pz C)),(38,.agg [.q ((localD h ⟨tx,tz⟩).x) (lX jb TX TZ),.q ((localD h ⟨tx,tz⟩).z) (lX jb TX TZ)]),(27,.tup (d40_2 y B C jb TX TZ)),(43,tt)] (.c6 s1 s2 s3 (rl jb) (rl jb) o6 (.c6 s4 s5 v0 v4 v2 v3 (.a3 o9 v1 (show Ref (.bool (!y.2)) (.bool true) from Ref.bool h2)))) (V:=.tup [AV.nil,.i6 (10:Int)]) ?_
     have e:bndsE m p b ⟨px,pz⟩ ⟨tx,tz⟩=10:=by unfold bndsE;rw[if_pos h1,hS,if_neg (by simpa using h2)]
     rw[show bndsL m p b ⟨px,pz⟩ ⟨tx,tz⟩= [] from if_neg (by rw[e];decide),e];exact Ref.tup2 Ref.nilL rr rfl rfl rfl rfl
   · refine rF K [(16,.tup (d40_0 h jb u v px B pz C)),(38,.agg [.q ((localD h ⟨tx,tz⟩).x) (lX jb TX TZ),.q ((localD h ⟨tx,tz⟩).z) (lX jb TX TZ)]),(27,.tup (d40_2 y B C jb TX TZ)),(43,ff)] (.c6 s1 s2 s3 (rl jb) (rl jb) o6 (.c6 s4 s5 v0 v4 v2 v3 (.a3 o9 v1 (show Ref (.bool (!y.2)) (.bool false) from Ref.bool h2)))) (V:=.tup [.list 19 (y.1.map (unBend (bS1 B C (lX jb TX TZ) (lX jb TX TZ)) (bS2 B C (lX jb TX TZ) (lX jb TX TZ)) (bS3 B C (lX jb TX TZ) (lX jb TX TZ)) (bT B C (lX jb TX TZ) (lX jb TX TZ)))),.i6 (0:Int)]) ?_
     have e:bndsE m p b ⟨px,pz⟩ ⟨tx,tz⟩=0:=by unfold bndsE;rw[if_pos h1,hS,if_pos (by simpa using h2)]
     rw[show bndsL m p b ⟨px,pz⟩ ⟨tx,tz⟩=y.1 from by unfold bndsL;rw[if_pos e,hS],e];exact rr
 · refine rF K [(16,.tup [.agg (d40_1),.i6 (legE m p.joints.length b)]),(25,tt)] (.c6 s1 s2 s3 (rl jb) (rl jb) o6 (.a4 s4 s5 (show Ref (d40_3 jb m p b px pz B C) (.tup [.agg (d40_1),.i6 (legE m p.joints.length b)]) by exact legP_no h1) (jT h1))) (V:=.tup [AV.nil,.i6 (legE m p.joints.length b)]) ?_
   have e:bndsE m p b ⟨px,pz⟩ ⟨tx,tz⟩=legE m p.joints.length b:=by unfold bndsE;rw[if_neg h1]
   rw[show bndsL m p b ⟨px,pz⟩ ⟨tx,tz⟩= [] from if_neg (by rw[e];exact h1),e];exact Ref.tup2 Ref.nilL rr rfl rfl rfl rfl
def k42:KF
 | [.agg [.q a A,.q b B,.q d D],.agg [.q q Q]]=>some (.bool (decide (cmpX d 0=0/\cmpC a b d q 0 0=0)),[8*A+8*Q+8*B+4*D+2000<=LIM])
 | _=>none
theorem a42:Ctr 42 k42:=by
 refine ctr Tryz.f42 fun _ _ _ S w0 h ho=> ?_
 unfold k42 at h;split at h <;> cases h;rename_i a A b B d D q Q;have o1:=ho.one;have L:=limE;have K:=kn.cons a132;have v0:8*A+8*Q+8*B+4*D+4*0+2*0+2000<=LIM:=by omega
 by_cases h1:(cmpX d 0)=(0:Int)
 · exact rF K [(16,tt)] (.a2 v0 (iT h1)) (V:=.bool (decide ((cmpC a b d q 0 0)=(0:Int)))) (Ref.bool (by simp_all))
 · exact rF K [(16,ff)] (.a2 v0 (iF h1)) (V:=.bool false) (Ref.bool (by simp_all))
end Go.Av
namespace Go.Av
theorem Nm.ext' {x y:Nm} (h:x.a=y.a) (k:x.b=y.b):x=y:=by cases x;cases y;simp_all
def nO (d:Rat) (y:Nm):Rat:=y.a*y.a-d*y.b*y.b
theorem div_mul {d:Rat} {x y:Nm} (h:nO d y≠0):fMul d y (fDiv d x y)=x:=by
 unfold nO at h;have e:(fMul d y (fCon y)).a=y.a*y.a-d*y.b*y.b:=by simp only[fMul,fCon];grind
 unfold fDiv;rw[e];refine Nm.ext' ?_ ?_ <;> simp only[fMul,fCon] <;> grind
theorem cancel {d:Rat} {y w:Nm} (h:nO d y≠0) (e:fMul d y w=⟨0,0⟩):w=⟨0,0⟩:=by
 unfold nO at h;simp only[fMul,Nm.mk.injEq] at e;obtain⟨e1,e2⟩:=e;refine Nm.ext' ?_ ?_ <;> simp only <;> grind
theorem nO_mul {d:Rat} {x y:Nm} (h:nO d x≠0) (k:nO d y≠0):nO d (fMul d x y)≠0:=by
 have:nO d (fMul d x y)=nO d x*nO d y:=by simp only[nO,fMul];grind
 rw[this];intro e;rcases Rat.mul_eq_zero.1 e with e | e <;> contradiction
theorem sub0 {x y:Nm} (h:fSub x y=⟨0,0⟩):x=y:=by
 simp only[fSub,Nm.mk.injEq] at h;exact Nm.ext' (by grind) (by grind)
def fld (d:Rat):Prop:=0<=d/\(d=0\/∀ x:Rat,x*x≠d)
theorem nO_one {d:Rat} (hd:fld d) (t:Nm):nO d (fAdd fOne (fMul d t t))≠0:=by
 obtain⟨h0,h⟩:=hd
 have ha:0<1+(t.a*t.a+d*t.b*t.b):=by
   have h1:=sq_nn t.a
   have:=Rat.mul_nonneg h0 (sq_nn t.b)
   grind
 simp only[nO,fAdd,fOne,fMul];intro e;generalize 1+(t.a*t.a+d*t.b*t.b)=p at*;generalize 0+(t.a*t.b+t.b*t.a)=q at*;rcases h with h | h
 · subst h
   have:=Rat.mul_pos ha ha
   grind
 · by_cases hq:q=0
   · subst hq
     have:=Rat.mul_pos ha ha
     grind
   · exact h (p/q) (by grind)
theorem turn_n {d:Rat} (hd:fld d) (t:Nm):∃ n c s:Nm,nO d n≠0/\n=fAdd fOne (fMul d t t)/\fMul d n c=fSub fOne (fMul d t t)/\fMul d n s=fAdd t t/\∀ p,fTurn d p t=fSpin d p c s:=
 ⟨_,_,_,nO_one hd t,rfl,div_mul (nO_one hd t),div_mul (nO_one hd t),fun _=>rfl⟩
theorem knee_len {d:Rat} (hd:fld d) (u w:PtD) (t:Nm) (f k:Rat) (hk:2*k=f-dotP u u-dotP w w)
   (hr:fAdd (fAdd (fMul d ⟨k+dotP u w,0⟩ (fMul d t t)) (fMul d ⟨crossP u w+crossP u w,0⟩ t)) ⟨k-dotP u w,0⟩=⟨0,0⟩):
   fAdd (fMul d (vAdd ⟨⟨u.x,0⟩,⟨u.z,0⟩⟩ (fTurn d ⟨⟨w.x,0⟩,⟨w.z,0⟩⟩ t)).x (vAdd ⟨⟨u.x,0⟩,⟨u.z,0⟩⟩ (fTurn d ⟨⟨w.x,0⟩,⟨w.z,0⟩⟩ t)).x) (fMul d (vAdd ⟨⟨u.x,0⟩,⟨u.z,0⟩⟩ (fTurn d ⟨⟨w.x,0⟩,⟨w.z,0⟩⟩ t)).z (vAdd ⟨⟨u.x,0⟩,⟨u.z,0⟩⟩ (fTurn d ⟨⟨w.x,0⟩,⟨w.z,0⟩⟩ t)).z)=⟨f,0⟩:=by
 obtain⟨n,c,s,hn,en,ec,es,ht⟩:=turn_n hd t;rw[ht];refine sub0 (cancel (nO_mul hn hn) ?_)
 have h1:fMul d (fMul d n n) (fSub (fAdd (fMul d (vAdd ⟨⟨u.x,0⟩,⟨u.z,0⟩⟩ (fSpin d ⟨⟨w.x,0⟩,⟨w.z,0⟩⟩ c s)).x (vAdd ⟨⟨u.x,0⟩,⟨u.z,0⟩⟩ (fSpin d ⟨⟨w.x,0⟩,⟨w.z,0⟩⟩ c s)).x) (fMul d (vAdd ⟨⟨u.x,0⟩,⟨u.z,0⟩⟩ (fSpin d ⟨⟨w.x,0⟩,⟨w.z,0⟩⟩ c s)).z (vAdd ⟨⟨u.x,0⟩,⟨u.z,0⟩⟩ (fSpin d ⟨⟨w.x,0⟩,⟨w.z,0⟩⟩ c s)).z)) ⟨f,0⟩)
     =fAdd (fMul d (fMul d n n) ⟨dotP u u-f,0⟩) (fAdd (fMul d ⟨dotP w w,0⟩ (fAdd (fMul d (fMul d n c) (fMul d n c)) (fMul d (fMul d n s) (fMul d n s)))) (fMul d ⟨2,0⟩ (fMul d n (fSub (fMul d ⟨dotP u w,0⟩ (fMul d n c)) (fMul d ⟨crossP u w,0⟩ (fMul d n s)))))):=by
   refine Nm.ext' ?_ ?_ <;> simp only[fMul,fAdd,fSub,vAdd,fSpin,dotP,crossP] <;> grind
 rw[h1,ec,es,en];simp only[fMul,fAdd,fSub,fOne,Nm.mk.injEq] at hr ⊢;obtain⟨r1,r2⟩:=hr;generalize dotP u w=x at*;generalize crossP u w=y at*;generalize dotP u u=uu at*;generalize dotP w w=ww at*;have hf:f=2*k+uu+ww:=by grind
 subst hf;constructor <;> grind
theorem turn_to {d:Rat} (hd:fld d) (v:Vc) (e:PtD) (b c q:Nm) (hb:b=fAdd ⟨dotP e e,0⟩ (fAdd (fMul d v.x ⟨e.x,0⟩) (fMul d v.z ⟨e.z,0⟩))) (hc:c=fSub (fMul d v.x ⟨e.z,0⟩) (fMul d v.z ⟨e.x,0⟩))
   (hn:nO d b≠0) (hq:fMul d b q=c) (hv:fAdd (fMul d v.x v.x) (fMul d v.z v.z)=⟨dotP e e,0⟩):fTurn d v q=⟨⟨e.x,0⟩,⟨e.z,0⟩⟩:=by
 obtain⟨n,C,S,n0,en,ec,es,ht⟩:=turn_n hd q
 have hk:∀ k:Nm,fMul d k (fSub (fAdd (fMul d v.x v.x) (fMul d v.z v.z)) ⟨dotP e e,0⟩)=⟨0,0⟩:=fun k=>by
   rw[hv];simp only[fMul,fSub,Nm.mk.injEq];constructor <;> grind
 have hm:nO d (fMul d n (fMul d b b))≠0:=nO_mul n0 (nO_mul hn hn);rw[ht]
 have en2:fMul d (fMul d b b) n=fAdd (fMul d b b) (fMul d c c):=by
   rw[en, <- hq];refine Nm.ext' ?_ ?_ <;> simp only[fMul,fAdd,fOne] <;> grind
 have ec2:fMul d (fMul d b b) (fMul d n C)=fSub (fMul d b b) (fMul d c c):=by
   rw[ec, <- hq];refine Nm.ext' ?_ ?_ <;> simp only[fMul,fSub,fOne] <;> grind
 have es2:fMul d (fMul d b b) (fMul d n S)=fMul d ⟨2,0⟩ (fMul d b c):=by
   rw[es, <- hq];refine Nm.ext' ?_ ?_ <;> simp only[fMul,fAdd] <;> grind
 have e1:fMul d (fMul d n (fMul d b b)) (fSub (fSpin d v C S).x ⟨e.x,0⟩)=fSub (fSub (fMul d (fMul d (fMul d b b) (fMul d n C)) v.x) (fMul d (fMul d (fMul d b b) (fMul d n S)) v.z)) (fMul d (fMul d (fMul d b b) n) ⟨e.x,0⟩):=by
   refine Nm.ext' ?_ ?_ <;> simp only[fMul,fSub,fSpin] <;> grind
 have e2:fMul d (fMul d n (fMul d b b)) (fSub (fSpin d v C S).z ⟨e.z,0⟩)=fSub (fAdd (fMul d (fMul d (fMul d b b) (fMul d n S)) v.x) (fMul d (fMul d (fMul d b b) (fMul d n C)) v.z)) (fMul d (fMul d (fMul d b b) n) ⟨e.z,0⟩):=by
   refine Nm.ext' ?_ ?_ <;> simp only[fMul,fSub,fAdd,fSpin] <;> grind
 have f1:fSub (fSub (fMul d (fSub (fMul d b b) (fMul d c c)) v.x) (fMul d (fMul d ⟨2,0⟩ (fMul d b c)) v.z)) (fMul d (fAdd (fMul d b b) (fMul d c c)) ⟨e.x,0⟩)=
     fMul d (fSub (fMul d (fMul d ⟨2,0⟩ b) ⟨e.x,0⟩) (fMul d ⟨dotP e e,0⟩ (fAdd v.x ⟨e.x,0⟩))) (fSub (fAdd (fMul d v.x v.x) (fMul d v.z v.z)) ⟨dotP e e,0⟩):=by
   rw[hb,hc];refine Nm.ext' ?_ ?_ <;> simp only[fMul,fSub,fAdd,dotP] <;> grind
 have f2:fSub (fAdd (fMul d (fMul d ⟨2,0⟩ (fMul d b c)) v.x) (fMul d (fSub (fMul d b b) (fMul d c c)) v.z)) (fMul d (fAdd (fMul d b b) (fMul d c c)) ⟨e.z,0⟩)=
     fMul d (fSub (fMul d (fMul d ⟨2,0⟩ b) ⟨e.z,0⟩) (fMul d ⟨dotP e e,0⟩ (fAdd v.z ⟨e.z,0⟩))) (fSub (fAdd (fMul d v.x v.x) (fMul d v.z v.z)) ⟨dotP e e,0⟩):=by
   rw[hb,hc];refine Nm.ext' ?_ ?_ <;> simp only[fMul,fSub,fAdd,dotP] <;> grind
 have g1:(fSpin d v C S).x=⟨e.x,0⟩:=sub0 (cancel hm (by rw[e1,ec2,es2,en2,f1,hk]));have g2:(fSpin d v C S).z=⟨e.z,0⟩:=sub0 (cancel hm (by rw[e2,ec2,es2,en2,f2,hk]));generalize fSpin d v C S=w at*;cases w;simp_all
theorem sq_num (y:Rat):(y*y).num=y.num*y.num/\(y*y).den=y.den*y.den:=by
 have e:y*y=y^2:=by rw[Rat.pow_succ,Rat.pow_succ,Rat.pow_zero,Rat.one_mul]
 rw[e,Rat.num_pow,Rat.den_pow,Int.pow_succ,Int.pow_succ,Int.pow_zero,Int.one_mul,Nat.pow_succ,Nat.pow_succ,Nat.pow_zero,Nat.one_mul];exact⟨rfl,rfl⟩
theorem isqrt_sq (n:Nat):isqrt (n*n)=n:=(isqrt_uniq (rl _) (by simp only[Nat.mul_add,Nat.add_mul];omega)).symm
theorem sqB_of (y:Rat):sqB (y*y)=true:=by
 obtain⟨h1,h2⟩:=sq_num y;unfold sqB;rw[h1,h2,Int.natAbs_mul,isqrt_sq,isqrt_sq];simp
theorem sqV_sq {d:Rat} (h:sqB d=true) (h0:0<=d):sqV d*sqV d=d:=by
 obtain⟨h1,h2⟩:=of_decide_eq_true h;unfold sqV;rw[Rat.mkRat_mul_mkRat,h2, <- Int.natCast_mul,h1,Int.natAbs_of_nonneg (Rat.num_nonneg.2 h0),Rat.mkRat_self]
theorem nrm_spec (s:Sd) (h:0<=s.d):(∃ v:Rat,(s.b=0\/v*v=s.d)/\nrm s=⟨s.a+s.b*v,0,0⟩)\/
   (s.b≠0/\∃ k:Rat,k≠0/\nrm s=⟨s.a,s.b/k,s.d*k*k⟩/\(∀ x,x*x≠s.d*k*k)/\(s.d*k*k).den=1):=by
 unfold nrm
 by_cases hb:s.b=0
 · exact .inl ⟨0,.inl hb,by rw[if_pos hb,hb];congr 1;grind⟩
 · rw[if_neg hb]
   cases hs:sqB s.d with
   | true=>exact .inl ⟨sqV s.d,.inr (sqV_sq hs h),by rw[if_pos rfl]⟩
   | false=>
     have k0:((s.d.den:Int):Rat)≠0:=by
       have:=s.d.den_nz;intro h
       have:=Rat.intCast_eq_zero_iff.1 h;omega
     have e:((s.d.num:Rat))*((s.d.den:Int):Rat)=s.d*((s.d.den:Int):Rat)*((s.d.den:Int):Rat):=by
       have h1:s.d=(s.d.num:Rat)/((s.d.den:Int):Rat):=by rw[<- Rat.divInt_eq_div,Rat.num_divInt_den]
       grind
     refine .inr ⟨hb,((s.d.den:Int):Rat),k0,by rw[if_neg (by simp),e],fun x hx=> ?_, ?_⟩
     · have:sqB s.d=true:=by
         rw[show s.d=x/((s.d.den:Int):Rat)*(x/((s.d.den:Int):Rat)) by grind];exact sqB_of _
       rw[hs] at this;cases this
     · rw[<- e, <- Rat.intCast_mul];rfl
def nok (s:Sd):Prop:=(s.b=0/\s.d=0)\/(s.b≠0/\0<s.d/\(∀ x,x*x≠s.d)/\s.d.den=1)
theorem nrm_ok (s:Sd) (h:0<=s.d):nok (nrm s):=by
 rcases nrm_spec s h with ⟨v,_,e⟩ | ⟨hb,k,hk,e,h1,h2⟩
 · rw[e];exact .inl ⟨rfl,rfl⟩
 · rw[e]
   refine .inr ⟨fun h=>hb (by simp only at h;grind), ?_,h1,h2⟩
   have:=Rat.mul_nonneg h (sq_nn k);have h3:=h1 0;simp only at h1 ⊢
   grind
theorem nok.fld {s:Sd} (h:nok s):fld s.d:=by
 rcases h with ⟨_,h⟩ | ⟨_,h,h1,_⟩
 · exact⟨by rw[h];exact Rat.le_refl,.inl h⟩
 · exact⟨Rat.le_of_lt h,.inr h1⟩
theorem sqB_no {d:Rat} (h0:0<d) (h:∀ x,x*x≠d):sqB d=false:=by
 cases hs:sqB d with
 | false=>rfl
 | true=>exact absurd (sqV_sq hs (Rat.le_of_lt h0)) (h _)
theorem nrm_same {d:Rat} (a b:Rat) (h0:0<d) (h:∀ x,x*x≠d) (h1:d.den=1):nrm ⟨a,b,d⟩=if b=0 then ⟨a,0,0⟩ else ⟨a,b,d⟩:=by
 unfold nrm;simp only[sqB_no h0 h,h1]
 have e:d=(d.num:Rat):=by
   have:=Rat.num_divInt_den d;rw[h1,Rat.divInt_eq_div] at this
   grind
 split
 · rfl
 · simp only[Bool.false_eq_true,if_false,Sd.mk.injEq]
   exact⟨trivial,by grind,by grind⟩
theorem sgn_num {x:Rat}:(Int.sign x.num=0↔x=0)/\(Int.sign x.num<0↔x<0):=by
 refine⟨by rw[Int.sign_eq_zero_iff_zero,Rat.num_eq_zero], ?_⟩;rw[<- Rat.not_le, <- Rat.num_nonneg];rcases Int.lt_trichotomy x.num 0 with h | h | h
 · rw[Int.sign_eq_neg_one_of_neg h];omega
 · rw[h];decide
 · rw[Int.sign_eq_one_of_pos h];omega
theorem sgnS_zero (d:Rat):sgnS 0 0 d=0:=by simp[sgnS]
theorem sgnS_rat (x:Rat):sgnS x 0 0=Int.sign x.num:=by
 unfold sgnS;simp;intro h;rw[h];rfl
theorem sgnS_nsq {a b d:Rat} (hb:b≠0) (h0:0<d) (h:∀ x,x*x≠d):sgnS a b d≠0:=by
 unfold sgnS;have e1:Int.sign b.num≠0:=fun h=>hb (sgn_num.1.1 h)
 have e2:Int.sign d.num≠0:=fun h=>by have:=sgn_num.1.1 h;grind
 split
 · split
   · assumption
   · intro e
     rcases Int.mul_eq_zero.1 e with h | h <;> contradiction
 · rename_i h1
   intro e;rcases Int.mul_eq_zero.1 e with h2 | h2
   · rw[h2] at h1;simp at h1
   · have h3:=cmpQ_zero.1 h2
     exact h (a/b) (by grind)
theorem cmpC_zero {s:Sd} (h:nok s) (q:Rat):cmpC s.a s.b s.d q 0 0=0↔s=⟨q,0,0⟩:=by
 have z:Int.sign (0:Rat).num*Int.sign (0:Rat).num=0:=by decide
 have hd:¬ (Int.sign s.d.num<0\/Int.sign (0:Rat).num<0):=by
   rw[sgn_num.2,sgn_num.2];obtain⟨h1,_⟩:=h.fld;rintro(h | h)
   · exact absurd h (Rat.not_lt.2 h1)
   · exact absurd h (by decide)
 unfold cmpC;rw[if_neg hd];unfold cmpS;rw[z]
 have key:sgnS (s.a-q) s.b s.d=0↔s=⟨q,0,0⟩:=by
   rcases h with ⟨h1,h2⟩ | ⟨h1,h2,h3,_⟩
   · rw[h1,h2]
     rw[sgnS_rat,sgn_num.1];obtain⟨a,b,d⟩:=s;simp only at h1 h2 ⊢;subst h1;subst h2;simp only[Sd.mk.injEq,and_true];constructor <;> intro h <;> grind
   · constructor
     · intro h;exact absurd h (sgnS_nsq h1 h2 h3)
     · intro h;rw[h] at h1;exact absurd rfl h1
 rw[<- key]
 split
 · constructor <;> intro h <;> omega
 · split
   · constructor <;> intro h <;> omega
   · have:sgnS (s.a-q) s.b s.d=0:=by omega
     simp[this]
theorem within_rat (lo hi s:Rat):withinB lo hi ⟨s,0,0⟩=decide (lo<=s/\s<=hi):=by
 have e:∀ q:Rat,cmpC s 0 0 q 0 0=Int.sign (s-q).num:=fun q=>by
   have z:Int.sign (0:Rat).num=0:=by decide
   unfold cmpC cmpS;rw[sgnS_rat,z];simp only[Int.mul_zero,Int.lt_irrefl,or_self,if_false];rcases Int.lt_trichotomy (s-q).num 0 with h | h | h
   · rw[Int.sign_eq_neg_one_of_neg h];simp
   · rw[h];simp
   · rw[Int.sign_eq_one_of_pos h];simp
 unfold withinB;simp only[e];refine decide_eq_decide.2 ⟨fun⟨h,k⟩=>⟨?_, ?_⟩,fun⟨h,k⟩=>⟨?_, ?_⟩⟩
 · have:¬ (s-lo<0):=fun x=>by have:=(sgn_num (x:=s-lo)).2.2 x;omega
   grind
 · have:¬ (hi-s<0):=fun x=>by
     have h1:¬ (s-hi<0):=by grind
     have h2:¬ Int.sign (s-hi).num<0:=fun e=>h1 (sgn_num.2.1 e)
     have h3:Int.sign (s-hi).num=0:=by omega
     have:=sgn_num.1.1 h3
     grind
   grind
 · have:¬ Int.sign (s-lo).num<0:=fun x=>by have:=sgn_num.2.1 x;grind
   omega
 · by_cases h1:s-hi=0
   · rw[sgn_num.1.2 h1];omega
   · have:Int.sign (s-hi).num<0:=sgn_num.2.2 (by grind)
     omega
def rootN (X Y Z:Rat) (t:Sd):Prop:=fAdd (fAdd (fMul t.d ⟨X,0⟩ (fMul t.d ⟨t.a,t.b⟩ ⟨t.a,t.b⟩)) (fMul t.d ⟨Y,0⟩ ⟨t.a,t.b⟩)) ⟨Z,0⟩=⟨0,0⟩
theorem root_rat {X Y Z a:Rat} (h:X*a*a+Y*a+Z=0):rootN X Y Z ⟨a,0,0⟩:=by
 unfold rootN;refine Nm.ext' ?_ ?_ <;> simp only[fAdd,fMul] <;> grind
theorem root_nrm {X Y Z a b d:Rat} (hd:0<=d) (h1:X*(a*a+b*b*d)+Y*a+Z=0) (h2:2*X*a+Y=0):rootN X Y Z (nrm ⟨a,b,d⟩):=by
 rcases nrm_spec ⟨a,b,d⟩ hd with ⟨v,hv,e⟩ | ⟨hb,k,hk,e,_⟩
 · rw[e]
   simp only at hv ⊢;refine root_rat ?_;rcases hv with h | h
   · subst h;grind
   · grind
 · rw[e]
   unfold rootN;simp only at hb ⊢;refine Nm.ext' ?_ ?_ <;> simp only[fAdd,fMul] <;> grind
theorem roots_ok {X Y Z:Rat} {t:Sd} (h:t∈rootsS X Y Z):nok t/\rootN X Y Z t:=by
 unfold rootsS at h;have rt:∀ q:Rat,nok ⟨q,0,0⟩:=fun q=>.inl ⟨rfl,rfl⟩
 split at h
 · split at h
   · cases h
   · rename_i h1 h2
     rw[List.mem_singleton.1 h];exact⟨rt _,root_rat (by rw[h1];grind)⟩
 · rename_i hX
   split at h
   · cases h
   · rename_i hD
     have hD:=Rat.not_lt.1 hD
     split at h
     · rename_i h3
       rw[List.mem_singleton.1 h];exact⟨rt _,root_rat (by grind)⟩
     · have key:∀ r:Rat,r*r=1/(X+X)*(1/(X+X))->nok (nrm ⟨-(Y/(X+X)),r,Y*Y-4*X*Z⟩)/\rootN X Y Z (nrm ⟨-(Y/(X+X)),r,Y*Y-4*X*Z⟩):=fun r hr=>
         ⟨nrm_ok _ hD,root_nrm hD (by rw[hr];grind) (by grind)⟩
       simp only[List.mem_cons,List.mem_nil_iff,or_false] at h;rcases h with h | h
       · rw[h];exact key _ (by split <;> grind)
       · rw[h];exact key _ (by split <;> grind)
theorem rat_root {X Y Z t:Rat} (h:X*t*t+Y*t+Z=0) (h0:¬ (X=0/\Y=0/\Z=0)):(⟨t,0,0⟩:Sd)∈rootsS X Y Z:=by
 unfold rootsS
 split
 · rename_i hX
   subst hX;rw[if_neg (fun hY=>h0 ⟨rfl,hY,by subst hY;grind⟩)];rw[List.mem_singleton];simp only[Sd.mk.injEq,and_true]
   grind
 · rename_i hX
   have e:Y*Y-4*X*Z=(2*X*t+Y)*(2*X*t+Y):=by grind
   have hD:=sq_nn (2*X*t+Y);rw[if_neg (by rw[e];exact Rat.not_lt.2 hD)]
   split
   · rw[List.mem_singleton]
     simp only[Sd.mk.injEq,and_true]
     have:2*X*t+Y=0:=by
       rcases Rat.mul_eq_zero.1 (show(2*X*t+Y)*(2*X*t+Y)=0 by grind) with h | h <;> exact h
     grind
   · rename_i hne
     have hs:sqB (Y*Y-4*X*Z)=true:=by rw[e];exact sqB_of _
     have hv:=sqV_sq hs (by rw[e];exact hD)
     have en:∀ r:Rat,r≠0->nrm ⟨-(Y/(X+X)),r,Y*Y-4*X*Z⟩=⟨-(Y/(X+X))+r*sqV (Y*Y-4*X*Z),0,0⟩:=fun r hr=>by
       unfold nrm;rw[if_neg hr,hs,if_pos rfl]
     obtain⟨r,hr⟩:∃ r,r=if 1/(X+X)<0 then-(1/(X+X)) else 1/(X+X):=⟨_,rfl⟩;rw[<- hr];have hr2:r=1/(X+X)\/r= -(1/(X+X)):=by rw[hr];split <;> simp
     have hr0:r≠0:=by rcases hr2 with h | h <;> grind
     rw[en r hr0,en (-r) (by grind)];generalize sqV (Y*Y-4*X*Z)=v at*
     have hv2:v=2*X*t+Y\/v= -(2*X*t+Y):=by
       rcases Rat.mul_eq_zero.1 (show(v-(2*X*t+Y))*(v+(2*X*t+Y))=0 by grind) with h | h
       · left;grind
       · right;grind
     simp only[List.mem_cons,List.mem_nil_iff,or_false,Sd.mk.injEq,and_true];rcases hr2 with h1 | h1 <;> rcases hv2 with h2 | h2 <;> first | (left;grind) | (right;grind)
theorem zero_no {d:Rat} (hd:fld d) {b:Nm} (h:¬ zeroF d b):nO d b≠0:=by
 intro e;apply h;unfold zeroF;obtain⟨h0,h1⟩:=hd;rw[if_neg (fun x=>absurd (sgn_num.2.1 x) (Rat.not_lt.2 h0))];unfold nO at e;rcases h1 with h1 | h1
 · subst h1
   have:b.a=0:=by
     rcases Rat.mul_eq_zero.1 (show b.a*b.a=0 by grind) with h | h <;> exact h
   rw[this];unfold sgnS;simp
 · by_cases hb:b.b=0
   · rw[hb] at e ⊢
     have:b.a=0:=by
       rcases Rat.mul_eq_zero.1 (show b.a*b.a=0 by grind) with h | h <;> exact h
     rw[this];exact sgnS_zero _
   · exact absurd (by grind) (h1 (b.a/b.b))
def rtl (d:Rat) (y:Nm):Prop:=d=0->y.b=0
theorem surd_part {t:Sd} (ht:nok t) (y:Nm) (hy:rtl t.d y):nok (surdF t.d y)/\((surdF t.d y).d=0\/(surdF t.d y).d=t.d)/\(⟨(surdF t.d y).a,if (surdF t.d y).d=0 then 0 else (surdF t.d y).b⟩:Nm)=y:=by
 obtain⟨h0,_⟩:=ht.fld;have e:surdF t.d y=nrm ⟨y.a,y.b,t.d⟩:=if_neg fun x=>absurd (sgn_num.2.1 x) (Rat.not_lt.2 h0)
 rw[e];refine⟨nrm_ok _ h0, ?_⟩;rcases ht with ⟨h1,h2⟩ | ⟨h1,h2,h3,h4⟩
 · have hb:=hy h2
   have:nrm ⟨y.a,y.b,t.d⟩=⟨y.a,0,0⟩:=if_pos hb;rw[this];exact⟨.inl rfl,Nm.ext' rfl (by simp[hb])⟩
 · rw[nrm_same _ _ h2 h3 h4]
   split
   · rename_i hb
     exact⟨.inl rfl,Nm.ext' rfl (by simp[hb])⟩
   · refine⟨.inr rfl,Nm.ext' rfl ?_⟩
     rw[if_neg (fun h=>by simp only at h;grind)]
theorem rtl_mul {d:Rat} {x y:Nm} (h:rtl d x) (k:rtl d y):rtl d (fMul d x y):=fun e=>by simp only[fMul];rw[h e,k e];grind
theorem rtl_add {d:Rat} {x y:Nm} (h:rtl d x) (k:rtl d y):rtl d (fAdd x y):=fun e=>by simp only[fAdd];rw[h e,k e];grind
theorem rtl_sub {d:Rat} {x y:Nm} (h:rtl d x) (k:rtl d y):rtl d (fSub x y):=fun e=>by simp only[fSub];rw[h e,k e];grind
theorem rtl_div {d:Rat} {x y:Nm} (h:rtl d x) (k:rtl d y):rtl d (fDiv d x y):=fun e=>by
 have:(fMul d x (fCon y)).b=0:=rtl_mul h (y:=fCon y) (fun e=>by simp only[fCon];rw[k e];grind) e;simp only[fDiv,this];grind
theorem rtl_rat (d q:Rat):rtl d ⟨q,0⟩:=fun _=>rfl
theorem nok.rtl {t:Sd} (h:nok t):rtl t.d ⟨t.a,t.b⟩:=fun e=>by
 rcases h with ⟨h,_⟩ | ⟨_,h,_⟩
 · exact h
 · rw[e] at h;exact absurd h (by decide)
theorem rtl_turn {d:Rat} {p:Vc} {t:Nm} (hx:rtl d p.x) (hz:rtl d p.z) (ht:rtl d t):rtl d (fTurn d p t).x/\rtl d (fTurn d p t).z:=by
 have h1:rtl d (fDiv d (fSub fOne (fMul d t t)) (fAdd fOne (fMul d t t))):=rtl_div (rtl_sub (rtl_rat d 1) (rtl_mul ht ht)) (rtl_add (rtl_rat d 1) (rtl_mul ht ht));have h2:rtl d (fDiv d (fAdd t t) (fAdd fOne (fMul d t t))):=rtl_div (rtl_add ht ht) (rtl_add (rtl_rat d 1) (rtl_mul ht ht));exact⟨rtl_sub (rtl_mul h1 hx) (rtl_mul h2 hz),rtl_add (rtl_mul h2 hx) (rtl_mul h1 hz)⟩
def partN (s:Sd):Nm:=⟨s.a,if s.d=0 then 0 else s.b⟩
theorem bend_ok {u v:BodyD} {x e:PtD} {y:BendD} (h:y∈(bendsS u v x e).1):nok y.a/\nok y.b/\(y.a.d=0\/y.a.d=y.b.d)/\y.w=(withinB u.low u.high y.a&&withinB v.low v.high y.b)/\
   fTurn y.b.d (vAdd ⟨⟨v.at_.x,0⟩,⟨v.at_.z,0⟩⟩ (fTurn y.b.d ⟨⟨x.x,0⟩,⟨x.z,0⟩⟩ (partN y.b))) (partN y.a)=⟨⟨e.x,0⟩,⟨e.z,0⟩⟩:=by
 unfold bendsS at h
 split at h
 · cases h
 · split at h
   · cases h
   · obtain⟨t,ht,hy⟩:=List.mem_filterMap.1 h
     obtain⟨n,r⟩:=roots_ok ht;unfold bendOf bendK at hy
     split at hy
     · cases hy
     · rename_i hz
       injection hy with hy;subst hy;have hb:=zero_no n.fld hz;have hx1:=rtl_turn (d:=t.d) (p:=⟨⟨x.x,0⟩,⟨x.z,0⟩⟩) (rtl_rat _ _) (rtl_rat _ _) n.rtl;have hk1:rtl t.d (kneeV v.at_ x t).x:=rtl_add (rtl_rat _ _) hx1.1;have hk2:rtl t.d (kneeV v.at_ x t).z:=rtl_add (rtl_rat _ _) hx1.2;have hc:rtl t.d (fSub (fMul t.d (kneeV v.at_ x t).x ⟨e.z,0⟩) (fMul t.d (kneeV v.at_ x t).z ⟨e.x,0⟩)):=rtl_sub (rtl_mul hk1 (rtl_rat _ _)) (rtl_mul hk2 (rtl_rat _ _));have hw:rtl t.d (belowN (kneeV v.at_ x t) e (dotP e e) t):=rtl_add (rtl_rat _ _) (rtl_add (rtl_mul hk1 (rtl_rat _ _)) (rtl_mul hk2 (rtl_rat _ _)));obtain⟨s1,s2,s3⟩:=surd_part n _ (rtl_div hc hw)
       have ep:partN t=⟨t.a,t.b⟩:=by
         unfold partN
         split
         · rename_i h;exact Nm.ext' rfl (n.rtl h).symm
         · rfl
       refine⟨s1,n,s2,rfl, ?_⟩;have e1:partN (hipS (kneeV v.at_ x t) (belowN (kneeV v.at_ x t) e (dotP e e) t) e t)=fDiv t.d (fSub (fMul t.d (kneeV v.at_ x t).x ⟨e.z,0⟩) (fMul t.d (kneeV v.at_ x t).z ⟨e.x,0⟩)) (belowN (kneeV v.at_ x t) e (dotP e e) t):=s3;show fTurn t.d (vAdd _ (fTurn t.d _ (partN t))) (partN (hipS _ _ _ _))=_;rw[ep,e1];refine turn_to n.fld (kneeV v.at_ x t) e _ _ _ rfl rfl hb (div_mul hb) ?_;refine knee_len n.fld v.at_ x ⟨t.a,t.b⟩ (dotP e e) (kOf v.at_ x e) ?_ r;unfold kOf;have:(Int.cast 2:Rat)*((Int.cast 1:Rat)/(Int.cast 2:Rat))=1:=by decide+kernel
       grind
def bentF (y:BendD):Rat:=if y.a.d=0 then y.b.d else y.a.d
def bentV (h:FrameD) (v x:PtD) (y:BendD):Vc:=
 vAdd (fSpin (bentF y) (fTurn (bentF y) (vAdd ⟨⟨v.x,0⟩,⟨v.z,0⟩⟩ (fTurn (bentF y) ⟨⟨x.x,0⟩,⟨x.z,0⟩⟩ (partN y.b))) (partN y.a)) ⟨h.c,0⟩ ⟨h.s,0⟩) ⟨⟨h.at_.x,0⟩,⟨h.at_.z,0⟩⟩
theorem bentF_ok {y:BendD} (h:y.a.d=0\/y.a.d=y.b.d):bentF y=y.b.d:=by
 unfold bentF
 split
 · rfl
 · rename_i h1;exact h.resolve_left h1
theorem bent_to {u v:BodyD} {x:PtD} {h:FrameD} {to:PtD} {y:BendD} (hh:h.c*h.c+h.s*h.s=1) (hy:y∈(bendsS u v x (localD h to)).1):bentV h v.at_ x y=⟨⟨to.x,0⟩,⟨to.z,0⟩⟩:=by
 obtain⟨_,_,h1,_,h2⟩:=bend_ok hy;unfold bentV;rw[bentF_ok h1,h2];simp only[vAdd,fSpin,fAdd,fSub,fMul,localD,Vc.mk.injEq,Nm.mk.injEq];refine⟨⟨?_, ?_⟩, ?_, ?_⟩ <;> grind
theorem fDiv_rat (a n:Rat):fDiv 0 ⟨a,0⟩ ⟨n,0⟩=⟨a/n,0⟩:=by
 unfold fDiv;simp only[fMul,fCon]
 by_cases h:n=0
 · subst h;refine Nm.ext' ?_ ?_ <;> simp only <;> grind
 · refine Nm.ext' ?_ ?_ <;> simp only <;> grind
theorem turn_rat (p:PtD) (t:Rat):fTurn 0 ⟨⟨p.x,0⟩,⟨p.z,0⟩⟩ ⟨t,0⟩=⟨⟨turnC t*p.x-turnS' t*p.z,0⟩,⟨turnS' t*p.x+turnC t*p.z,0⟩⟩:=by
 have h1:fSub fOne (fMul 0 ⟨t,0⟩ ⟨t,0⟩)=⟨1-t*t,0⟩:=by refine Nm.ext' ?_ ?_ <;> simp only[fSub,fOne,fMul] <;> grind
 have h2:fAdd fOne (fMul 0 ⟨t,0⟩ ⟨t,0⟩)=⟨1+t*t,0⟩:=by refine Nm.ext' ?_ ?_ <;> simp only[fAdd,fOne,fMul] <;> grind
 have h3:fAdd (⟨t,0⟩:Nm) ⟨t,0⟩=⟨t+t,0⟩:=by refine Nm.ext' ?_ ?_ <;> simp only[fAdd] <;> grind
 unfold fTurn;rw[h1,h2,h3,fDiv_rat,fDiv_rat];simp only[fSpin,fSub,fAdd,fMul,Vc.mk.injEq,Nm.mk.injEq,turnC,turnS'];refine⟨⟨?_, ?_⟩, ?_, ?_⟩ <;> grind
theorem sq_zero {x y:Rat} (h:x*x+y*y=0):x=0/\y=0:=by
 have h1:=sq_nn x;have h2:=sq_nn y;have h3:x*x=0:=by grind
 have h4:y*y=0:=by grind
 constructor
 · rcases Rat.mul_eq_zero.1 h3 with h | h <;> exact h
 · rcases Rat.mul_eq_zero.1 h4 with h | h <;> exact h
theorem found {u v:BodyD} {x e k:PtD} {s t:Rat} (hk:k=⟨v.at_.x+(turnC t*x.x-turnS' t*x.z),v.at_.z+(turnS' t*x.x+turnC t*x.z)⟩)
   (he:e=⟨turnC s*k.x-turnS' s*k.z,turnS' s*k.x+turnC s*k.z⟩) (hf:(bendsS u v x e).2=true):
   (⟨⟨s,0,0⟩,⟨t,0,0⟩,withinB u.low u.high ⟨s,0,0⟩&&withinB v.low v.high ⟨t,0,0⟩⟩:BendD)∈(bendsS u v x e).1:=by
 have c1:turnC t*(1+t*t)=1-t*t:=by have:=one_sq t;unfold turnC;grind
 have c2:turnS' t*(1+t*t)=t+t:=by have:=one_sq t;unfold turnS';grind
 have c3:turnC s*(1+s*s)=1-s*s:=by have:=one_sq s;unfold turnC;grind
 have c4:turnS' s*(1+s*s)=s+s:=by have:=one_sq s;unfold turnS';grind
 have ct:turnC t*turnC t+turnS' t*turnS' t=1:=by have:=one_sq t;unfold turnC turnS';grind
 have cs:turnC s*turnC s+turnS' s*turnS' s=1:=by have:=one_sq s;unfold turnC turnS';grind
 have hkt:kneeV v.at_ x ⟨t,0,0⟩=⟨⟨k.x,0⟩,⟨k.z,0⟩⟩:=by
   unfold kneeV;rw[turn_rat,hk];simp only[vAdd,fAdd,Vc.mk.injEq,Nm.mk.injEq,and_true,true_and];constructor <;> grind
 have ot:=one_sq t;have os:=one_sq s;have hC:turnC s+1≠0:=by grind
 generalize hCt:turnC t=Ct at*;generalize hSt:turnS' t=St at*;generalize hCs:turnC s=Cs at*;generalize hSs:turnS' s=Ss at*;have hlen:dotP e e=dotP k k:=by rw[he];simp only[dotP];grind
 have hkk:dotP k k=dotP v.at_ v.at_+dotP x x+2*(Ct*dotP v.at_ x-St*crossP v.at_ x):=by rw[hk];simp only[dotP,crossP];grind
 have hke:dotP k e=Cs*dotP k k:=by rw[he];simp only[dotP];grind
 have hko:kOf v.at_ x e=Ct*dotP v.at_ x-St*crossP v.at_ x:=by
   unfold kOf;have:(Int.cast 2:Rat)*((Int.cast 1:Rat)/(Int.cast 2:Rat))=1:=by decide+kernel
   rw[hlen,hkk];grind
 have hroot:(kOf v.at_ x e+dotP v.at_ x)*t*t+(crossP v.at_ x+crossP v.at_ x)*t+(kOf v.at_ x e-dotP v.at_ x)=0:=by
   rw[hko];generalize dotP v.at_ x=a;generalize crossP v.at_ x=b
   grind
 unfold bendsS at hf ⊢
 split at hf
 · exfalso
   obtain⟨h1,h2,h3⟩:=of_decide_eq_true hf;obtain⟨x1,x2⟩:=sq_zero h1
   have:k=v.at_:=by
     rw[hk,x1,x2];generalize v.at_=a at*;cases a;simp only[PtD.mk.injEq];constructor <;> grind
   rw[hlen, <- this,hke] at h3;rw[<- this] at h2;have:dotP k k*(Cs+1)=0:=by grind
   rcases Rat.mul_eq_zero.1 this with h | h
   · rw[h] at h2;exact absurd h2 (by decide)
   · exact hC h
 · rename_i h10
   have h0:¬ (kOf v.at_ x e+dotP v.at_ x=0/\crossP v.at_ x+crossP v.at_ x=0/\kOf v.at_ x e-dotP v.at_ x=0):=fun h=>h10 (if_pos h)
   have hmem:=rat_root hroot h0
   split at hf
   · cases hf
   · rename_i hne
     have hfar:dotP k k≠0:=fun h=>hne ⟨fun e=>(by unfold rootsL at e;rw[e] at hmem;cases hmem),by rw[hlen,h]⟩
     rw[if_neg h10,if_neg hne];refine List.mem_filterMap.2 ⟨⟨t,0,0⟩,hmem, ?_⟩;unfold bendOf;rw[hkt]
     have hb:belowN ⟨⟨k.x,0⟩,⟨k.z,0⟩⟩ e (dotP e e) ⟨t,0,0⟩=⟨dotP k k*(Cs+1),0⟩:=by
       unfold belowN;rw[hlen];refine Nm.ext' ?_ ?_ <;> simp only[fAdd,fMul]
       · have:k.x*e.x+k.z*e.z=Cs*dotP k k:=hke
         grind
       · grind
     rw[hb];have hb0:dotP k k*(Cs+1)≠0:=fun h=>by rcases Rat.mul_eq_zero.1 h with h | h <;> contradiction
     have hz:¬ zeroF 0 ⟨dotP k k*(Cs+1),0⟩:=by
       unfold zeroF;rw[if_neg (by decide)];simp only[sgnS_rat];exact fun h=>hb0 (sgn_num.1.1 h)
     have hs:hipS ⟨⟨k.x,0⟩,⟨k.z,0⟩⟩ ⟨dotP k k*(Cs+1),0⟩ e ⟨t,0,0⟩=⟨s,0,0⟩:=by
       unfold hipS
       have:fSub (fMul 0 ⟨k.x,0⟩ ⟨e.z,0⟩) (fMul 0 ⟨k.z,0⟩ ⟨e.x,0⟩)=⟨dotP k k*Ss,0⟩:=by
         rw[he];refine Nm.ext' ?_ ?_ <;> simp only[fSub,fMul,dotP] <;> grind
       simp only;rw[this,fDiv_rat];unfold surdF;rw[if_neg (by decide)];unfold nrm;rw[if_pos rfl];simp only[Sd.mk.injEq,and_true]
       grind
     unfold bendK;rw[if_neg hz,hs]
def isBe (s t:Rat) (y:BendD):Bool:=decide (cmpC y.a.a y.a.b y.a.d s 0 0=0)&&decide (cmpC y.b.a y.b.b y.b.d t 0 0=0)
def fineB (u v:BodyD) (s t:Rat):Bool:=decide (u.low<=s/\s<=u.high)&&decide (v.low<=t/\t<=v.high)
theorem reach_any {u v:BodyD} {x e k:PtD} {s t:Rat} (hk:k=⟨v.at_.x+(turnC t*x.x-turnS' t*x.z),v.at_.z+(turnS' t*x.x+turnC t*x.z)⟩)
   (he:e=⟨turnC s*k.x-turnS' s*k.z,turnS' s*k.x+turnC s*k.z⟩) (hf:(bendsS u v x e).2=true):
   (bendsS u v x e).1.any (isBe s t)=true/\(bendsS u v x e).1.any (fun y=>isBe s t y&&y.w)=fineB u v s t:=by
 have h:=found hk he hf;rw[within_rat,within_rat] at h;have h1:∀ q:Rat,cmpC q 0 0 q 0 0=0:=fun q=>(cmpC_zero (s:=⟨q,0,0⟩) (.inl ⟨rfl,rfl⟩) q).2 rfl
 have hi:∀ w,isBe s t ⟨⟨s,0,0⟩,⟨t,0,0⟩,w⟩=true:=fun w=>by simp[isBe,h1]
 have hw:∀ y∈(bendsS u v x e).1,isBe s t y=true->y.w=fineB u v s t:=fun y hy hb=>by
   obtain⟨n1,n2,_,h3,_⟩:=bend_ok hy;unfold isBe at hb;simp only[Bool.and_eq_true,decide_eq_true_eq] at hb;rw[h3,(cmpC_zero n1 s).1 hb.1,(cmpC_zero n2 t).1 hb.2,within_rat,within_rat];rfl
 refine⟨List.any_eq_true.2 ⟨_,h,hi _⟩, ?_⟩;cases hF:fineB u v s t with
 | true=>exact List.any_eq_true.2 ⟨_,h,by rw[hi];exact hF⟩
 | false=>
   refine List.any_eq_false.2 fun y hy=> ?_
   simp only[Bool.and_eq_true,not_and];intro hb;rw[hw y hy hb,hF];simp
end Go.Av
namespace Go.Av
open Go.Proofs Go.RowKit
def k127:KF
 | [.agg [.q a A,.q b B,.q d D]]=>some (.agg [.q a A,.q (if d=0 then 0 else b) B],[])
 | _=>none
theorem a127:Ctr 127 k127:=by
 refine ctr Tryz.f127 fun _ _ _ S w0 h ho=> ?_
 unfold k127 at h;split at h <;> cases h;rename_i a A b B d D;have K:=(kn.cons a130).cons a60
 by_cases h1:(Int.sign d.num)=(0:Int)
 · refine rF K [(6,tt)] (.a1 (iT h1)) (V:=.agg [.q a A,.q 0 0]) ?_
   rw[if_pos (by simpa[Int.sign_eq_zero_iff_zero] using h1)];exact Ref.agg (RefC.cons qe qe)
 · refine rF K [(6,ff)] (.a1 (iF h1)) (V:=.agg [.q a A,.q b B]) ?_
   rw[if_neg (by simpa[Int.sign_eq_zero_iff_zero] using h1)];exact rr
def KT41_ok:=(((((((((((kn.cons a131).cons a130).cons a129).cons a124).cons a128).cons a126).cons a127).cons a125).cons a104).cons a60).cons a121).cons a117
theorem p41_1_0 {S0 C0:Nat → Prop} {w0:World} {Post:Value → World → Prop} (m:MachD) (p:PoseD) (jb:Nat) (b:Int) (px:Rat) (B:Nat) (pz:Rat) (C:Nat) (y:BendD) (U1 U2 U3 V1 V2 V3:Nat) (h:FrameD) (u v:BodyD) (f:Rat) (F W:Nat) (w:Vc) (q to:PtD)  (o:(128*V1+128*V2+90*F+2*B+2*0+2*C+2*0+8000≤LIM)∧(Ref (AV.agg [(AV.q ((vAdd ⟨⟨v.at_.x,0⟩,⟨v.at_.z,0⟩⟩ ⟨⟨((fTurn f ⟨⟨px,0⟩,⟨pz,0⟩⟩ ⟨y.b.a,(if y.b.d=0 then 0 else y.b.b)⟩).x.a),((fTurn f ⟨⟨px,0⟩,⟨pz,0⟩⟩ ⟨y.b.a,(if y.b.d=0 then 0 else y.b.b)⟩).x.b)⟩,⟨((fTurn f ⟨⟨px,0⟩,⟨pz,0⟩⟩ ⟨y.b.a,(if y.b.d=0 then 0 else y.b.b)⟩).z.a),((fTurn f ⟨⟨px,0⟩,⟨pz,0⟩⟩ ⟨y.b.a,(if y.b.d=0 then 0 else y.b.b)⟩).z.b)⟩⟩).x.a) (300+(64*V1+64*V2+42*F+B+0+C+0+1500)+2)),(AV.q ((vAdd ⟨⟨v.at_.x,0⟩,⟨v.at_.z,0⟩⟩ ⟨⟨((fTurn f ⟨⟨px,0⟩,⟨pz,0⟩⟩ ⟨y.b.a,(if y.b.d=0 then 0 else y.b.b)⟩).x.a),((fTurn f ⟨⟨px,0⟩,⟨pz,0⟩⟩ ⟨y.b.a,(if y.b.d=0 then 0 else y.b.b)⟩).x.b)⟩,⟨((fTurn f ⟨⟨px,0⟩,⟨pz,0⟩⟩ ⟨y.b.a,(if y.b.d=0 then 0 else y.b.b)⟩).z.a),((fTurn f ⟨⟨px,0⟩,⟨pz,0⟩⟩ ⟨y.b.a,(if y.b.d=0 then 0 else y.b.b)⟩).z.b)⟩⟩).x.b) (0+(64*V1+64*V2+42*F+B+0+C+0+1500)+2)),(AV.q ((vAdd ⟨⟨v.at_.x,0⟩,⟨v.at_.z,0⟩⟩ ⟨⟨((fTurn f ⟨⟨px,0⟩,⟨pz,0⟩⟩ ⟨y.b.a,(if y.b.d=0 then 0 else y.b.b)⟩).x.a),((fTurn f ⟨⟨px,0⟩,⟨pz,0⟩⟩ ⟨y.b.a,(if y.b.d=0 then 0 else y.b.b)⟩).x.b)⟩,⟨((fTurn f ⟨⟨px,0⟩,⟨pz,0⟩⟩ ⟨y.b.a,(if y.b.d=0 then 0 else y.b.b)⟩).z.a),((fTurn f ⟨⟨px,0⟩,⟨pz,0⟩⟩ ⟨y.b.a,(if y.b.d=0 then 0 else y.b.b)⟩).z.b)⟩⟩).z.a) (300+(64*V1+64*V2+42*F+B+0+C+0+1500)+2)),(AV.q ((vAdd ⟨⟨v.at_.x,0⟩,⟨v.at_.z,0⟩⟩ ⟨⟨((fTurn f ⟨⟨px,0⟩,⟨pz,0⟩⟩ ⟨y.b.a,(if y.b.d=0 then 0 else y.b.b)⟩).x.a),((fTurn f ⟨⟨px,0⟩,⟨pz,0⟩⟩ ⟨y.b.a,(if y.b.d=0 then 0 else y.b.b)⟩).x.b)⟩,⟨((fTurn f ⟨⟨px,0⟩,⟨pz,0⟩⟩ ⟨y.b.a,(if y.b.d=0 then 0 else y.b.b)⟩).z.a),((fTurn f ⟨⟨px,0⟩,⟨pz,0⟩⟩ ⟨y.b.a,(if y.b.d=0 then 0 else y.b.b)⟩).z.b)⟩⟩).z.b) (0+(64*V1+64*V2+42*F+B+0+C+0+1500)+2))]) (AV.agg [(AV.q w.x.a W),(AV.q w.x.b W),(AV.q w.z.a W),(AV.q w.z.b W)]))∧(300+0+300+0+(64*V1+64*V2+42*F+B+0+C+0+1500)+(64*V1+64*V2+42*F+B+0+C+0+1500)+(64*V1+64*V2+42*F+B+0+C+0+1500)+(64*V1+64*V2+42*F+B+0+C+0+1500)+F+600≤LIM)∧(Ref (AV.agg [(AV.q ((fTurn f ⟨⟨w.x.a,w.x.b⟩,⟨w.z.a,w.z.b⟩⟩ ⟨y.a.a,(if y.a.d=0 then 0 else y.a.b)⟩).x.a) (64*U1+64*U2+42*F+W+W+W+W+1500)),(AV.q ((fTurn f ⟨⟨w.x.a,w.x.b⟩,⟨w.z.a,w.z.b⟩⟩ ⟨y.a.a,(if y.a.d=0 then 0 else y.a.b)⟩).x.b) (64*U1+64*U2+42*F+W+W+W+W+1500)),(AV.q ((fTurn f ⟨⟨w.x.a,w.x.b⟩,⟨w.z.a,w.z.b⟩⟩ ⟨y.a.a,(if y.a.d=0 then 0 else y.a.b)⟩).z.a) (64*U1+64*U2+42*F+W+W+W+W+1500)),(AV.q ((fTurn f ⟨⟨w.x.a,w.x.b⟩,⟨w.z.a,w.z.b⟩⟩ ⟨y.a.a,(if y.a.d=0 then 0 else y.a.b)⟩).z.b) (64*U1+64*U2+42*F+W+W+W+W+1500))]) (AV.agg [(AV.q q.x 4000000),(AV.q 0 0),(AV.q q.z 4000000),(AV.q 0 0)]))∧(128*U1+128*U2+90*F+2*W+2*W+2*W+2*W+8000≤LIM)∧(2*(SZ jb)+2*0+2*(SZ jb)+2*0+2*4000000+2*0+2*4000000+2*0+5*F+1000≤LIM)∧(Ref (AV.agg [(AV.q ((vAdd ⟨⟨((fSpin f ⟨⟨q.x,0⟩,⟨q.z,0⟩⟩ ⟨h.c,0⟩ ⟨h.s,0⟩).x.a),((fSpin f ⟨⟨q.x,0⟩,⟨q.z,0⟩⟩ ⟨h.c,0⟩ ⟨h.s,0⟩).x.b)⟩,⟨((fSpin f ⟨⟨q.x,0⟩,⟨q.z,0⟩⟩ ⟨h.c,0⟩ ⟨h.s,0⟩).z.a),((fSpin f ⟨⟨q.x,0⟩,⟨q.z,0⟩⟩ ⟨h.c,0⟩ ⟨h.s,0⟩).z.b)⟩⟩ ⟨⟨h.at_.x,0⟩,⟨h.at_.z,0⟩⟩).x.a) (((SZ jb)+0+(SZ jb)+0+4000000+0+4000000+0+2*F+18)+(4*SZ jb+608)+2)),(AV.q ((vAdd ⟨⟨((fSpin f ⟨⟨q.x,0⟩,⟨q.z,0⟩⟩ ⟨h.c,0⟩ ⟨h.s,0⟩).x.a),((fSpin f ⟨⟨q.x,0⟩,⟨q.z,0⟩⟩ ⟨h.c,0⟩ ⟨h.s,0⟩).x.b)⟩,⟨((fSpin f ⟨⟨q.x,0⟩,⟨q.z,0⟩⟩ ⟨h.c,0⟩ ⟨h.s,0⟩).z.a),((fSpin f ⟨⟨q.x,0⟩,⟨q.z,0⟩⟩ ⟨h.c,0⟩ ⟨h.s,0⟩).z.b)⟩⟩ ⟨⟨h.at_.x,0⟩,⟨h.at_.z,0⟩⟩).x.b) (((SZ jb)+0+(SZ jb)+0+4000000+0+4000000+0+2*F+18)+0+2)),(AV.q ((vAdd ⟨⟨((fSpin f ⟨⟨q.x,0⟩,⟨q.z,0⟩⟩ ⟨h.c,0⟩ ⟨h.s,0⟩).x.a),((fSpin f ⟨⟨q.x,0⟩,⟨q.z,0⟩⟩ ⟨h.c,0⟩ ⟨h.s,0⟩).x.b)⟩,⟨((fSpin f ⟨⟨q.x,0⟩,⟨q.z,0⟩⟩ ⟨h.c,0⟩ ⟨h.s,0⟩).z.a),((fSpin f ⟨⟨q.x,0⟩,⟨q.z,0⟩⟩ ⟨h.c,0⟩ ⟨h.s,0⟩).z.b)⟩⟩ ⟨⟨h.at_.x,0⟩,⟨h.at_.z,0⟩⟩).z.a) (((SZ jb)+0+(SZ jb)+0+4000000+0+4000000+0+2*F+18)+(4*SZ jb+608)+2)),(AV.q ((vAdd ⟨⟨((fSpin f ⟨⟨q.x,0⟩,⟨q.z,0⟩⟩ ⟨h.c,0⟩ ⟨h.s,0⟩).x.a),((fSpin f ⟨⟨q.x,0⟩,⟨q.z,0⟩⟩ ⟨h.c,0⟩ ⟨h.s,0⟩).x.b)⟩,⟨((fSpin f ⟨⟨q.x,0⟩,⟨q.z,0⟩⟩ ⟨h.c,0⟩ ⟨h.s,0⟩).z.a),((fSpin f ⟨⟨q.x,0⟩,⟨q.z,0⟩⟩ ⟨h.c,0⟩ ⟨h.s,0⟩).z.b)⟩⟩ ⟨⟨h.at_.x,0⟩,⟨h.at_.z,0⟩⟩).z.b) (((SZ jb)+0+(SZ jb)+0+4000000+0+4000000+0+2*F+18)+0+2))]) (AV.agg [(AV.q to.x 300),(AV.q 0 0),(AV.q to.z 300),(AV.q 0 0)]))∧(((SZ jb)+0+(SZ jb)+0+4000000+0+4000000+0+2*F+18)+((SZ jb)+0+(SZ jb)+0+4000000+0+4000000+0+2*F+18)+((SZ jb)+0+(SZ jb)+0+4000000+0+4000000+0+2*F+18)+((SZ jb)+0+(SZ jb)+0+4000000+0+4000000+0+2*F+18)+(4*SZ jb+608)+0+(4*SZ jb+608)+0+F+600≤LIM)∧(Ref (AV.agg [(AV.q (((if Int.sign f.num<0 then (⟨0,0,0⟩:Sd) else nrm ⟨to.x,0,f⟩)).a) (300+0+F+5)),(AV.q (((if Int.sign f.num<0 then (⟨0,0,0⟩:Sd) else nrm ⟨to.x,0,f⟩)).b) (0+F+3)),(AV.q (((if Int.sign f.num<0 then (⟨0,0,0⟩:Sd) else nrm ⟨to.x,0,f⟩)).d) (2*F+3))]) (AV.agg [(AV.q to.x 300),(AV.q 0 0),(AV.q 0 0)]))∧(300+0+3*F+600≤LIM)∧(Ref (AV.agg [(AV.q (((if Int.sign f.num<0 then (⟨0,0,0⟩:Sd) else nrm ⟨to.z,0,f⟩)).a) (300+0+F+5)),(AV.q (((if Int.sign f.num<0 then (⟨0,0,0⟩:Sd) else nrm ⟨to.z,0,f⟩)).b) (0+F+3)),(AV.q (((if Int.sign f.num<0 then (⟨0,0,0⟩:Sd) else nrm ⟨to.z,0,f⟩)).d) (2*F+3))]) (AV.agg [(AV.q to.z 300),(AV.q 0 0),(AV.q 0 0)])))
    (hg:Good Tryz.prog 41 S0 C0 w0 Post [.code .ret] ⟨slots 121 [(10,(AV.ptr 0 9 0 0)),(11,(AV.ptr 1 9 0 0)),(12,(AV.int .i64 (0:Int)))],[some ⟨106,9,false,[[(AV.q to.x 300),(AV.q 0 0),(AV.q 0 0)]],none⟩,some ⟨106,9,false,[[(AV.q to.z 300),(AV.q 0 0),(AV.q 0 0)]],none⟩]⟩):
    Good Tryz.prog 41 S0 C0 w0 Post [.code (nav [1,1,1,1,1,1,0] (bodyOf Tryz.f41)),.code (nav [1,1,1,1,1,1,1] (bodyOf Tryz.f41))] ⟨slots 121 [(9,(AV.ptr 0 19 0 0)),(10,(AV.ptr 1 9 0 0)),(11,(AV.ptr 2 9 0 0)),(13,(AV.ptr 3 72 0 0)),(14,(AV.ptr 4 3 0 0))],[some ⟨110,19,false,[[(AV.q y.a.a U1),(AV.q y.a.b U2),(AV.q y.a.d U3),(AV.q y.b.a V1),(AV.q y.b.b V2),(AV.q y.b.d V3),(AV.bool y.w)]],none⟩,some ⟨106,9,false,[[(AV.q 0 0),(AV.q 0 0),(AV.q 0 0)]],none⟩,some ⟨106,9,false,[[(AV.q 0 0),(AV.q 0 0),(AV.q 0 0)]],none⟩,some ⟨267,72,false,[[(AV.q h.at_.x (4*SZ jb+608)),(AV.q h.at_.z (4*SZ jb+608)),(AV.q h.c (SZ jb)),(AV.q h.s (SZ jb)),(AV.str u.name),(AV.int .i64 u.par),(AV.q u.at_.x 300),(AV.q u.at_.z 300),(AV.q u.ma 300),(AV.q u.inr 300),(AV.q u.c.x 300),(AV.q u.c.z 300),(AV.q u.low 300),(AV.q u.high 300),(AV.list 6 (u.shape.map (unP 300))),(AV.str v.name),(AV.int .i64 v.par),(AV.q v.at_.x 300),(AV.q v.at_.z 300),(AV.q v.ma 300),(AV.q v.inr 300),(AV.q v.c.x 300),(AV.q v.c.z 300),(AV.q v.low 300),(AV.q v.high 300),(AV.list 6 (v.shape.map (unP 300))),(AV.q px B),(AV.q pz C)]],none⟩,some ⟨274,3,false,[[(AV.q f F)]],none⟩]⟩:=
  goR mixed TT0_ok KT41_ok 12 none [10,11,12] [1,2] [(86,(AV.agg [(AV.q w.x.a W),(AV.q w.x.b W),(AV.q w.z.a W),(AV.q w.z.b W)])),(93,(AV.agg [(AV.q q.x 4000000),(AV.q 0 0),(AV.q q.z 4000000),(AV.q 0 0)])),(112,(AV.agg [(AV.q to.x 300),(AV.q 0 0),(AV.q to.z 300),(AV.q 0 0)])),(116,(AV.agg [(AV.q to.x 300),(AV.q 0 0),(AV.q 0 0)])),(120,(AV.agg [(AV.q to.z 300),(AV.q 0 0),(AV.q 0 0)]))] (ob:=[128*V1+128*V2+90*F+2*B+2*0+2*C+2*0+8000≤LIM,Ref (AV.agg [(AV.q ((vAdd ⟨⟨v.at_.x,0⟩,⟨v.at_.z,0⟩⟩ ⟨⟨((fTurn f ⟨⟨px,0⟩,⟨pz,0⟩⟩ ⟨y.b.a,(if y.b.d=0 then 0 else y.b.b)⟩).x.a),((fTurn f ⟨⟨px,0⟩,⟨pz,0⟩⟩ ⟨y.b.a,(if y.b.d=0 then 0 else y.b.b)⟩).x.b)⟩,⟨((fTurn f ⟨⟨px,0⟩,⟨pz,0⟩⟩ ⟨y.b.a,(if y.b.d=0 then 0 else y.b.b)⟩).z.a),((fTurn f ⟨⟨px,0⟩,⟨pz,0⟩⟩ ⟨y.b.a,(if y.b.d=0 then 0 else y.b.b)⟩).z.b)⟩⟩).x.a) (300+(64*V1+64*V2+42*F+B+0+C+0+1500)+2)),(AV.q ((vAdd ⟨⟨v.at_.x,0⟩,⟨v.at_.z,0⟩⟩ ⟨⟨((fTurn f ⟨⟨px,0⟩,⟨pz,0⟩⟩ ⟨y.b.a,(if y.b.d=0 then 0 else y.b.b)⟩).x.a),((fTurn f ⟨⟨px,0⟩,⟨pz,0⟩⟩ ⟨y.b.a,(if y.b.d=0 then 0 else y.b.b)⟩).x.b)⟩,⟨((fTurn f ⟨⟨px,0⟩,⟨pz,0⟩⟩ ⟨y.b.a,(if y.b.d=0 then 0 else y.b.b)⟩).z.a),((fTurn f ⟨⟨px,0⟩,⟨pz,0⟩⟩ ⟨y.b.a,(if y.b.d=0 then 0 else y.b.b)⟩).z.b)⟩⟩).x.b) (0+(64*V1+64*V2+42*F+B+0+C+0+1500)+2)),(AV.q ((vAdd ⟨⟨v.at_.x,0⟩,⟨v.at_.z,0⟩⟩ ⟨⟨((fTurn f ⟨⟨px,0⟩,⟨pz,0⟩⟩ ⟨y.b.a,(if y.b.d=0 then 0 else y.b.b)⟩).x.a),((fTurn f ⟨⟨px,0⟩,⟨pz,0⟩⟩ ⟨y.b.a,(if y.b.d=0 then 0 else y.b.b)⟩).x.b)⟩,⟨((fTurn f ⟨⟨px,0⟩,⟨pz,0⟩⟩ ⟨y.b.a,(if y.b.d=0 then 0 else y.b.b)⟩).z.a),((fTurn f ⟨⟨px,0⟩,⟨pz,0⟩⟩ ⟨y.b.a,(if y.b.d=0 then 0 else y.b.b)⟩).z.b)⟩⟩).z.a) (300+(64*V1+64*V2+42*F+B+0+C+0+1500)+2)),(AV.q ((vAdd ⟨⟨v.at_.x,0⟩,⟨v.at_.z,0⟩⟩ ⟨⟨((fTurn f ⟨⟨px,0⟩,⟨pz,0⟩⟩ ⟨y.b.a,(if y.b.d=0 then 0 else y.b.b)⟩).x.a),((fTurn f ⟨⟨px,0⟩,⟨pz,0⟩⟩ ⟨y.b.a,(if y.b.d=0 then 0 else y.b.b)⟩).x.b)⟩,⟨((fTurn f ⟨⟨px,0⟩,⟨pz,0⟩⟩ ⟨y.b.a,(if y.b.d=0 then 0 else y.b.b)⟩).z.a),((fTurn f ⟨⟨px,0⟩,⟨pz,0⟩⟩ ⟨y.b.a,(if y.b.d=0 then 0 else y.b.b)⟩).z.b)⟩⟩).z.b) (0+(64*V1+64*V2+42*F+B+0+C+0+1500)+2))]) (AV.agg [(AV.q w.x.a W),(AV.q w.x.b W),(AV.q w.z.a W),(AV.q w.z.b W)]),300+0+300+0+(64*V1+64*V2+42*F+B+0+C+0+1500)+(64*V1+64*V2+42*F+B+0+C+0+1500)+(64*V1+64*V2+42*F+B+0+C+0+1500)+(64*V1+64*V2+42*F+B+0+C+0+1500)+F+600≤LIM,Ref (AV.agg [(AV.q ((fTurn f ⟨⟨w.x.a,w.x.b⟩,⟨w.z.a,w.z.b⟩⟩ ⟨y.a.a,(if y.a.d=0 then 0 else y.a.b)⟩).x.a) (64*U1+64*U2+42*F+W+W+W+W+1500)),(AV.q ((fTurn f ⟨⟨w.x.a,w.x.b⟩,⟨w.z.a,w.z.b⟩⟩ ⟨y.a.a,(if y.a.d=0 then 0 else y.a.b)⟩).x.b) (64*U1+64*U2+42*F+W+W+W+W+1500)),(AV.q ((fTurn f ⟨⟨w.x.a,w.x.b⟩,⟨w.z.a,w.z.b⟩⟩ ⟨y.a.a,(if y.a.d=0 then 0 else y.a.b)⟩).z.a) (64*U1+64*U2+42*F+W+W+W+W+1500)),(AV.q ((fTurn f ⟨⟨w.x.a,w.x.b⟩,⟨w.z.a,w.z.b⟩⟩ ⟨y.a.a,(if y.a.d=0 then 0 else y.a.b)⟩).z.b) (64*U1+64*U2+42*F+W+W+W+W+1500))]) (AV.agg [(AV.q q.x 4000000),(AV.q 0 0),(AV.q q.z 4000000),(AV.q 0 0)]),128*U1+128*U2+90*F+2*W+2*W+2*W+2*W+8000≤LIM,2*(SZ jb)+2*0+2*(SZ jb)+2*0+2*4000000+2*0+2*4000000+2*0+5*F+1000≤LIM,Ref (AV.agg [(AV.q ((vAdd ⟨⟨((fSpin f ⟨⟨q.x,0⟩,⟨q.z,0⟩⟩ ⟨h.c,0⟩ ⟨h.s,0⟩).x.a),((fSpin f ⟨⟨q.x,0⟩,⟨q.z,0⟩⟩ ⟨h.c,0⟩ ⟨h.s,0⟩).x.b)⟩,⟨((fSpin f ⟨⟨q.x,0⟩,⟨q.z,0⟩⟩ ⟨h.c,0⟩ ⟨h.s,0⟩).z.a),((fSpin f ⟨⟨q.x,0⟩,⟨q.z,0⟩⟩ ⟨h.c,0⟩ ⟨h.s,0⟩).z.b)⟩⟩ ⟨⟨h.at_.x,0⟩,⟨h.at_.z,0⟩⟩).x.a) (((SZ jb)+0+(SZ jb)+0+4000000+0+4000000+0+2*F+18)+(4*SZ jb+608)+2)),(AV.q ((vAdd ⟨⟨((fSpin f ⟨⟨q.x,0⟩,⟨q.z,0⟩⟩ ⟨h.c,0⟩ ⟨h.s,0⟩).x.a),((fSpin f ⟨⟨q.x,0⟩,⟨q.z,0⟩⟩ ⟨h.c,0⟩ ⟨h.s,0⟩).x.b)⟩,⟨((fSpin f ⟨⟨q.x,0⟩,⟨q.z,0⟩⟩ ⟨h.c,0⟩ ⟨h.s,0⟩).z.a),((fSpin f ⟨⟨q.x,0⟩,⟨q.z,0⟩⟩ ⟨h.c,0⟩ ⟨h.s,0⟩).z.b)⟩⟩ ⟨⟨h.at_.x,0⟩,⟨h.at_.z,0⟩⟩).x.b) (((SZ jb)+0+(SZ jb)+0+4000000+0+4000000+0+2*F+18)+0+2)),(AV.q ((vAdd ⟨⟨((fSpin f ⟨⟨q.x,0⟩,⟨q.z,0⟩⟩ ⟨h.c,0⟩ ⟨h.s,0⟩).x.a),((fSpin f ⟨⟨q.x,0⟩,⟨q.z,0⟩⟩ ⟨h.c,0⟩ ⟨h.s,0⟩).x.b)⟩,⟨((fSpin f ⟨⟨q.x,0⟩,⟨q.z,0⟩⟩ ⟨h.c,0⟩ ⟨h.s,0⟩).z.a),((fSpin f ⟨⟨q.x,0⟩,⟨q.z,0⟩⟩ ⟨h.c,0⟩ ⟨h.s,0⟩).z.b)⟩⟩ ⟨⟨h.at_.x,0⟩,⟨h.at_.z,0⟩⟩).z.a) (((SZ jb)+0+(SZ jb)+0+4000000+0+4000000+0+2*F+18)+(4*SZ jb+608)+2)),(AV.q ((vAdd ⟨⟨((fSpin f ⟨⟨q.x,0⟩,⟨q.z,0⟩⟩ ⟨h.c,0⟩ ⟨h.s,0⟩).x.a),((fSpin f ⟨⟨q.x,0⟩,⟨q.z,0⟩⟩ ⟨h.c,0⟩ ⟨h.s,0⟩).x.b)⟩,⟨((fSpin f ⟨⟨q.x,0⟩,⟨q.z,0⟩⟩ ⟨h.c,0⟩ ⟨h.s,0⟩).z.a),((fSpin f ⟨⟨q.x,0⟩,⟨q.z,0⟩⟩ ⟨h.c,0⟩ ⟨h.s,0⟩).z.b)⟩⟩ ⟨⟨h.at_.x,0⟩,⟨h.at_.z,0⟩⟩).z.b) (((SZ jb)+0+(SZ jb)+0+4000000+0+4000000+0+2*F+18)+0+2))]) (AV.agg [(AV.q to.x 300),(AV.q 0 0),(AV.q to.z 300),(AV.q 0 0)]),((SZ jb)+0+(SZ jb)+0+4000000+0+4000000+0+2*F+18)+((SZ jb)+0+(SZ jb)+0+4000000+0+4000000+0+2*F+18)+((SZ jb)+0+(SZ jb)+0+4000000+0+4000000+0+2*F+18)+((SZ jb)+0+(SZ jb)+0+4000000+0+4000000+0+2*F+18)+(4*SZ jb+608)+0+(4*SZ jb+608)+0+F+600≤LIM,Ref (AV.agg [(AV.q (((if Int.sign f.num<0 then (⟨0,0,0⟩:Sd) else nrm ⟨to.x,0,f⟩)).a) (300+0+F+5)),(AV.q (((if Int.sign f.num<0 then (⟨0,0,0⟩:Sd) else nrm ⟨to.x,0,f⟩)).b) (0+F+3)),(AV.q (((if Int.sign f.num<0 then (⟨0,0,0⟩:Sd) else nrm ⟨to.x,0,f⟩)).d) (2*F+3))]) (AV.agg [(AV.q to.x 300),(AV.q 0 0),(AV.q 0 0)]),300+0+3*F+600≤LIM,Ref (AV.agg [(AV.q (((if Int.sign f.num<0 then (⟨0,0,0⟩:Sd) else nrm ⟨to.z,0,f⟩)).a) (300+0+F+5)),(AV.q (((if Int.sign f.num<0 then (⟨0,0,0⟩:Sd) else nrm ⟨to.z,0,f⟩)).b) (0+F+3)),(AV.q (((if Int.sign f.num<0 then (⟨0,0,0⟩:Sd) else nrm ⟨to.z,0,f⟩)).d) (2*F+3))]) (AV.agg [(AV.q to.z 300),(AV.q 0 0),(AV.q 0 0)]),300+0+3*F+600≤LIM]) (by decide) (by kernel_rfl)
    (.cons (o.1) (.cons (o.2.1) (.cons (o.2.2.1) (.cons (o.2.2.2.1) (.cons (o.2.2.2.2.1) (.cons (o.2.2.2.2.2.1) (.cons (o.2.2.2.2.2.2.1) (.cons (o.2.2.2.2.2.2.2.1) (.cons (o.2.2.2.2.2.2.2.2.1) (.cons (o.2.2.2.2.2.2.2.2.2.1) (.cons (o.2.2.2.2.2.2.2.2.2.2) (.cons (o.2.2.2.2.2.2.2.2.2.1) (AllP.nil))))))))))))) hg
theorem p41_0_1 {S0 C0:Nat → Prop} {w0:World} {Post:Value → World → Prop} (m:MachD) (p:PoseD) (jb:Nat) (b:Int) (px:Rat) (B:Nat) (pz:Rat) (C:Nat) (y:BendD) (U1 U2 U3 V1 V2 V3:Nat) (h:FrameD) (u v:BodyD) (h1:(Int.sign y.a.d.num)=(0:Int)) (h2:(Int.sign y.b.d.num)=(0:Int)) (o:(Ref (AV.tup [(legP jb (reMach [(AV.str m.name),(AV.list 27 (m.bodies.map (unBody 300))),(AV.list 17 (m.springs.map (unCordy 300))),(AV.list 17 (m.tendons.map (unCordy 300))),(AV.list 13 (m.motors.map (unMotor 300))),(AV.list 5 (m.feet.map (unFoot 300)))]) ⟨⟨p.at_.x,p.at_.z⟩,p.turn,(p.joints.map (unQ jb)).map reQ⟩ b ⟨px,pz⟩ B C),(AV.int .i64 (legE (reMach [(AV.str m.name),(AV.list 27 (m.bodies.map (unBody 300))),(AV.list 17 (m.springs.map (unCordy 300))),(AV.list 17 (m.tendons.map (unCordy 300))),(AV.list 13 (m.motors.map (unMotor 300))),(AV.list 5 (m.feet.map (unFoot 300)))]) (p.joints.map (unQ jb)).length b))]) (AV.tup [(AV.agg [(AV.q h.at_.x (4*SZ jb+608)),(AV.q h.at_.z (4*SZ jb+608)),(AV.q h.c (SZ jb)),(AV.q h.s (SZ jb)),(AV.str u.name),(AV.int .i64 u.par),(AV.q u.at_.x 300),(AV.q u.at_.z 300),(AV.q u.ma 300),(AV.q u.inr 300),(AV.q u.c.x 300),(AV.q u.c.z 300),(AV.q u.low 300),(AV.q u.high 300),(AV.list 6 (u.shape.map (unP 300))),(AV.str v.name),(AV.int .i64 v.par),(AV.q v.at_.x 300),(AV.q v.at_.z 300),(AV.q v.ma 300),(AV.q v.inr 300),(AV.q v.c.x 300),(AV.q v.c.z 300),(AV.q v.low 300),(AV.q v.high 300),(AV.list 6 (v.shape.map (unP 300))),(AV.q px B),(AV.q pz C)]),(AV.int .i64 (0:Int))]))∧([(AV.str m.name),(AV.list 27 (m.bodies.map (unBody 300))),(AV.list 17 (m.springs.map (unCordy 300))),(AV.list 17 (m.tendons.map (unCordy 300))),(AV.list 13 (m.motors.map (unMotor 300))),(AV.list 5 (m.feet.map (unFoot 300)))]=unMach 300 (reMach [(AV.str m.name),(AV.list 27 (m.bodies.map (unBody 300))),(AV.list 17 (m.springs.map (unCordy 300))),(AV.list 17 (m.tendons.map (unCordy 300))),(AV.list 13 (m.motors.map (unMotor 300))),(AV.list 5 (m.feet.map (unFoot 300)))]))∧((reMach [(AV.str m.name),(AV.list 27 (m.bodies.map (unBody 300))),(AV.list 17 (m.springs.map (unCordy 300))),(AV.list 17 (m.tendons.map (unCordy 300))),(AV.list 13 (m.motors.map (unMotor 300))),(AV.list 5 (m.feet.map (unFoot 300)))]).small)∧((reMach [(AV.str m.name),(AV.list 27 (m.bodies.map (unBody 300))),(AV.list 17 (m.springs.map (unCordy 300))),(AV.list 17 (m.tendons.map (unCordy 300))),(AV.list 13 (m.motors.map (unMotor 300))),(AV.list 5 (m.feet.map (unFoot 300)))]).bodies.length≤8)∧(jb≤jb)∧(jb≤100000)∧(Ref (.list 3 (p.joints.map (unQ jb))) (.list 3 (((p.joints.map (unQ jb)).map reQ).map (unQ jb))))∧((p.joints.map (unQ jb)).length≤4611686018427387904)∧(Ref (AV.bool (decide ((Int.sign y.a.d.num)<(0:Int)))) (AV.bool false))∧(Ref (AV.bool (decide ((Int.sign y.b.d.num)<(0:Int)))) (AV.bool false))∧(Ref (AV.bool false) (AV.bool false)))
    (hg:Good Tryz.prog 41 S0 C0 w0 Post [.code (nav [1,1,1,1,1,1,0] (bodyOf Tryz.f41)),.code (nav [1,1,1,1,1,1,1] (bodyOf Tryz.f41))] ⟨slots 121 [(9,(AV.ptr 0 19 0 0)),(10,(AV.ptr 1 9 0 0)),(11,(AV.ptr 2 9 0 0)),(13,(AV.ptr 3 72 0 0)),(14,(AV.ptr 4 3 0 0))],[some ⟨110,19,false,[[(AV.q y.a.a U1),(AV.q y.a.b U2),(AV.q y.a.d U3),(AV.q y.b.a V1),(AV.q y.b.b V2),(AV.q y.b.d V3),(AV.bool y.w)]],none⟩,some ⟨106,9,false,[[(AV.q 0 0),(AV.q 0 0),(AV.q 0 0)]],none⟩,some ⟨106,9,false,[[(AV.q 0 0),(AV.q 0 0),(AV.q 0 0)]],none⟩,some ⟨267,72,false,[[(AV.q h.at_.x (4*SZ jb+608)),(AV.q h.at_.z (4*SZ jb+608)),(AV.q h.c (SZ jb)),(AV.q h.s (SZ jb)),(AV.str u.name),(AV.int .i64 u.par),(AV.q u.at_.x 300),(AV.q u.at_.z 300),(AV.q u.ma 300),(AV.q u.inr 300),(AV.q u.c.x 300),(AV.q u.c.z 300),(AV.q u.low 300),(AV.q u.high 300),(AV.list 6 (u.shape.map (unP 300))),(AV.str v.name),(AV.int .i64 v.par),(AV.q v.at_.x 300),(AV.q v.at_.z 300),(AV.q v.ma 300),(AV.q v.inr 300),(AV.q v.c.x 300),(AV.q v.c.z 300),(AV.q v.low 300),(AV.q v.high 300),(AV.list 6 (v.shape.map (unP 300))),(AV.q px B),(AV.q pz C)]],none⟩,some ⟨274,3,false,[[(AV.q y.b.d V3)]],none⟩]⟩):
    Good Tryz.prog 41 S0 C0 w0 Post [.code (nav [] (bodyOf Tryz.f41))] ⟨slots 121 [(0,(AV.agg [(AV.str m.name),(AV.list 27 (m.bodies.map (unBody 300))),(AV.list 17 (m.springs.map (unCordy 300))),(AV.list 17 (m.tendons.map (unCordy 300))),(AV.list 13 (m.motors.map (unMotor 300))),(AV.list 5 (m.feet.map (unFoot 300)))])),(1,(AV.agg [(AV.q p.at_.x jb),(AV.q p.at_.z jb),(AV.q p.turn jb),(AV.list 3 (p.joints.map (unQ jb)))])),(2,(AV.int .i64 b)),(3,(AV.agg [(AV.q px B),(AV.q pz C)])),(4,(AV.agg [(AV.q y.a.a U1),(AV.q y.a.b U2),(AV.q y.a.d U3),(AV.q y.b.a V1),(AV.q y.b.b V2),(AV.q y.b.d V3),(AV.bool y.w)]))],[]⟩:=
  goR mixed TT0_ok KT41_ok 27 (some 9) [9,10,11,13,14] [3,4,5,7,8] [(21,(AV.tup [(AV.agg [(AV.q h.at_.x (4*SZ jb+608)),(AV.q h.at_.z (4*SZ jb+608)),(AV.q h.c (SZ jb)),(AV.q h.s (SZ jb)),(AV.str u.name),(AV.int .i64 u.par),(AV.q u.at_.x 300),(AV.q u.at_.z 300),(AV.q u.ma 300),(AV.q u.inr 300),(AV.q u.c.x 300),(AV.q u.c.z 300),(AV.q u.low 300),(AV.q u.high 300),(AV.list 6 (u.shape.map (unP 300))),(AV.str v.name),(AV.int .i64 v.par),(AV.q v.at_.x 300),(AV.q v.at_.z 300),(AV.q v.ma 300),(AV.q v.inr 300),(AV.q v.c.x 300),(AV.q v.c.z 300),(AV.q v.low 300),(AV.q v.high 300),(AV.list 6 (v.shape.map (unP 300))),(AV.q px B),(AV.q pz C)]),(AV.int .i64 (0:Int))])),(37,(AV.bool true)),(46,(AV.bool false)),(52,(AV.bool false)),(60,(AV.bool false)),(69,(AV.bool false))] (ob:=[Ref (AV.tup [(legP jb (reMach [(AV.str m.name),(AV.list 27 (m.bodies.map (unBody 300))),(AV.list 17 (m.springs.map (unCordy 300))),(AV.list 17 (m.tendons.map (unCordy 300))),(AV.list 13 (m.motors.map (unMotor 300))),(AV.list 5 (m.feet.map (unFoot 300)))]) ⟨⟨p.at_.x,p.at_.z⟩,p.turn,(p.joints.map (unQ jb)).map reQ⟩ b ⟨px,pz⟩ B C),(AV.int .i64 (legE (reMach [(AV.str m.name),(AV.list 27 (m.bodies.map (unBody 300))),(AV.list 17 (m.springs.map (unCordy 300))),(AV.list 17 (m.tendons.map (unCordy 300))),(AV.list 13 (m.motors.map (unMotor 300))),(AV.list 5 (m.feet.map (unFoot 300)))]) (p.joints.map (unQ jb)).length b))]) (AV.tup [(AV.agg [(AV.q h.at_.x (4*SZ jb+608)),(AV.q h.at_.z (4*SZ jb+608)),(AV.q h.c (SZ jb)),(AV.q h.s (SZ jb)),(AV.str u.name),(AV.int .i64 u.par),(AV.q u.at_.x 300),(AV.q u.at_.z 300),(AV.q u.ma 300),(AV.q u.inr 300),(AV.q u.c.x 300),(AV.q u.c.z 300),(AV.q u.low 300),(AV.q u.high 300),(AV.list 6 (u.shape.map (unP 300))),(AV.str v.name),(AV.int .i64 v.par),(AV.q v.at_.x 300),(AV.q v.at_.z 300),(AV.q v.ma 300),(AV.q v.inr 300),(AV.q v.c.x 300),(AV.q v.c.z 300),(AV.q v.low 300),(AV.q v.high 300),(AV.list 6 (v.shape.map (unP 300))),(AV.q px B),(AV.q pz C)]),(AV.int .i64 (0:Int))]),[(AV.str m.name),(AV.list 27 (m.bodies.map (unBody 300))),(AV.list 17 (m.springs.map (unCordy 300))),(AV.list 17 (m.tendons.map (unCordy 300))),(AV.list 13 (m.motors.map (unMotor 300))),(AV.list 5 (m.feet.map (unFoot 300)))]=unMach 300 (reMach [(AV.str m.name),(AV.list 27 (m.bodies.map (unBody 300))),(AV.list 17 (m.springs.map (unCordy 300))),(AV.list 17 (m.tendons.map (unCordy 300))),(AV.list 13 (m.motors.map (unMotor 300))),(AV.list 5 (m.feet.map (unFoot 300)))]),(reMach [(AV.str m.name),(AV.list 27 (m.bodies.map (unBody 300))),(AV.list 17 (m.springs.map (unCordy 300))),(AV.list 17 (m.tendons.map (unCordy 300))),(AV.list 13 (m.motors.map (unMotor 300))),(AV.list 5 (m.feet.map (unFoot 300)))]).small,(reMach [(AV.str m.name),(AV.list 27 (m.bodies.map (unBody 300))),(AV.list 17 (m.springs.map (unCordy 300))),(AV.list 17 (m.tendons.map (unCordy 300))),(AV.list 13 (m.motors.map (unMotor 300))),(AV.list 5 (m.feet.map (unFoot 300)))]).bodies.length≤8,jb≤jb,jb≤jb,jb≤100000,Ref (.list 3 (p.joints.map (unQ jb))) (.list 3 (((p.joints.map (unQ jb)).map reQ).map (unQ jb))),(p.joints.map (unQ jb)).length≤4611686018427387904,Ref (AV.bool (decide ((Int.sign y.a.d.num)=(0:Int)))) (.bool true),Ref (AV.bool (decide ((Int.sign y.a.d.num)<(0:Int)))) (AV.bool false),Ref (AV.bool (decide ((Int.sign y.b.d.num)<(0:Int)))) (AV.bool false),Ref (AV.bool (!decide ((Int.sign y.b.d.num)=(0:Int)))) (.bool false),Ref (AV.bool false) (AV.bool false)]) (by decide) (by kernel_rfl)
    (.cons (o.1) (.cons (o.2.1) (.cons (o.2.2.1) (.cons (o.2.2.2.1) (.cons (o.2.2.2.2.1) (.cons (o.2.2.2.2.1) (.cons (o.2.2.2.2.2.1) (.cons (o.2.2.2.2.2.2.1) (.cons (o.2.2.2.2.2.2.2.1) (.cons (Ref.bool (decide_eq_true h1)) (.cons (o.2.2.2.2.2.2.2.2.1) (.cons (o.2.2.2.2.2.2.2.2.2.1) (.cons (Ref.bool (congrArg Bool.not (decide_eq_true h2))) (.cons (o.2.2.2.2.2.2.2.2.2.2) (AllP.nil))))))))))))))) hg
theorem p41_0_0 {S0 C0:Nat → Prop} {w0:World} {Post:Value → World → Prop} (m:MachD) (p:PoseD) (jb:Nat) (b:Int) (px:Rat) (B:Nat) (pz:Rat) (C:Nat) (y:BendD) (U1 U2 U3 V1 V2 V3:Nat) (h:FrameD) (u v:BodyD) (h1:(Int.sign y.a.d.num)=(0:Int)) (h2:¬ ((Int.sign y.b.d.num)=(0:Int))) (o:(Ref (AV.tup [(legP jb (reMach [(AV.str m.name),(AV.list 27 (m.bodies.map (unBody 300))),(AV.list 17 (m.springs.map (unCordy 300))),(AV.list 17 (m.tendons.map (unCordy 300))),(AV.list 13 (m.motors.map (unMotor 300))),(AV.list 5 (m.feet.map (unFoot 300)))]) ⟨⟨p.at_.x,p.at_.z⟩,p.turn,(p.joints.map (unQ jb)).map reQ⟩ b ⟨px,pz⟩ B C),(AV.int .i64 (legE (reMach [(AV.str m.name),(AV.list 27 (m.bodies.map (unBody 300))),(AV.list 17 (m.springs.map (unCordy 300))),(AV.list 17 (m.tendons.map (unCordy 300))),(AV.list 13 (m.motors.map (unMotor 300))),(AV.list 5 (m.feet.map (unFoot 300)))]) (p.joints.map (unQ jb)).length b))]) (AV.tup [(AV.agg [(AV.q h.at_.x (4*SZ jb+608)),(AV.q h.at_.z (4*SZ jb+608)),(AV.q h.c (SZ jb)),(AV.q h.s (SZ jb)),(AV.str u.name),(AV.int .i64 u.par),(AV.q u.at_.x 300),(AV.q u.at_.z 300),(AV.q u.ma 300),(AV.q u.inr 300),(AV.q u.c.x 300),(AV.q u.c.z 300),(AV.q u.low 300),(AV.q u.high 300),(AV.list 6 (u.shape.map (unP 300))),(AV.str v.name),(AV.int .i64 v.par),(AV.q v.at_.x 300),(AV.q v.at_.z 300),(AV.q v.ma 300),(AV.q v.inr 300),(AV.q v.c.x 300),(AV.q v.c.z 300),(AV.q v.low 300),(AV.q v.high 300),(AV.list 6 (v.shape.map (unP 300))),(AV.q px B),(AV.q pz C)]),(AV.int .i64 (0:Int))]))∧([(AV.str m.name),(AV.list 27 (m.bodies.map (unBody 300))),(AV.list 17 (m.springs.map (unCordy 300))),(AV.list 17 (m.tendons.map (unCordy 300))),(AV.list 13 (m.motors.map (unMotor 300))),(AV.list 5 (m.feet.map (unFoot 300)))]=unMach 300 (reMach [(AV.str m.name),(AV.list 27 (m.bodies.map (unBody 300))),(AV.list 17 (m.springs.map (unCordy 300))),(AV.list 17 (m.tendons.map (unCordy 300))),(AV.list 13 (m.motors.map (unMotor 300))),(AV.list 5 (m.feet.map (unFoot 300)))]))∧((reMach [(AV.str m.name),(AV.list 27 (m.bodies.map (unBody 300))),(AV.list 17 (m.springs.map (unCordy 300))),(AV.list 17 (m.tendons.map (unCordy 300))),(AV.list 13 (m.motors.map (unMotor 300))),(AV.list 5 (m.feet.map (unFoot 300)))]).small)∧((reMach [(AV.str m.name),(AV.list 27 (m.bodies.map (unBody 300))),(AV.list 17 (m.springs.map (unCordy 300))),(AV.list 17 (m.tendons.map (unCordy 300))),(AV.list 13 (m.motors.map (unMotor 300))),(AV.list 5 (m.feet.map (unFoot 300)))]).bodies.length≤8)∧(jb≤jb)∧(jb≤100000)∧(Ref (.list 3 (p.joints.map (unQ jb))) (.list 3 (((p.joints.map (unQ jb)).map reQ).map (unQ jb))))∧((p.joints.map (unQ jb)).length≤4611686018427387904)∧(Ref (AV.bool (decide ((Int.sign y.a.d.num)<(0:Int)))) (AV.bool false))∧(Ref (AV.bool (decide ((Int.sign y.b.d.num)<(0:Int)))) (AV.bool false))∧(V3+V3+200≤LIM)∧(Ref (AV.bool (!decide ((cmpQ y.b.d y.b.d)=(0:Int)))) (AV.bool false)))
    (hg:Good Tryz.prog 41 S0 C0 w0 Post [.code (nav [1,1,1,1,1,1,0] (bodyOf Tryz.f41)),.code (nav [1,1,1,1,1,1,1] (bodyOf Tryz.f41))] ⟨slots 121 [(9,(AV.ptr 0 19 0 0)),(10,(AV.ptr 1 9 0 0)),(11,(AV.ptr 2 9 0 0)),(13,(AV.ptr 3 72 0 0)),(14,(AV.ptr 4 3 0 0))],[some ⟨110,19,false,[[(AV.q y.a.a U1),(AV.q y.a.b U2),(AV.q y.a.d U3),(AV.q y.b.a V1),(AV.q y.b.b V2),(AV.q y.b.d V3),(AV.bool y.w)]],none⟩,some ⟨106,9,false,[[(AV.q 0 0),(AV.q 0 0),(AV.q 0 0)]],none⟩,some ⟨106,9,false,[[(AV.q 0 0),(AV.q 0 0),(AV.q 0 0)]],none⟩,some ⟨267,72,false,[[(AV.q h.at_.x (4*SZ jb+608)),(AV.q h.at_.z (4*SZ jb+608)),(AV.q h.c (SZ jb)),(AV.q h.s (SZ jb)),(AV.str u.name),(AV.int .i64 u.par),(AV.q u.at_.x 300),(AV.q u.at_.z 300),(AV.q u.ma 300),(AV.q u.inr 300),(AV.q u.c.x 300),(AV.q u.c.z 300),(AV.q u.low 300),(AV.q u.high 300),(AV.list 6 (u.shape.map (unP 300))),(AV.str v.name),(AV.int .i64 v.par),(AV.q v.at_.x 300),(AV.q v.at_.z 300),(AV.q v.ma 300),(AV.q v.inr 300),(AV.q v.c.x 300),(AV.q v.c.z 300),(AV.q v.low 300),(AV.q v.high 300),(AV.list 6 (v.shape.map (unP 300))),(AV.q px B),(AV.q pz C)]],none⟩,some ⟨274,3,false,[[(AV.q y.b.d V3)]],none⟩]⟩):
    Good Tryz.prog 41 S0 C0 w0 Post [.code (nav [] (bodyOf Tryz.f41))] ⟨slots 121 [(0,(AV.agg [(AV.str m.name),(AV.list 27 (m.bodies.map (unBody 300))),(AV.list 17 (m.springs.map (unCordy 300))),(AV.list 17 (m.tendons.map (unCordy 300))),(AV.list 13 (m.motors.map (unMotor 300))),(AV.list 5 (m.feet.map (unFoot 300)))])),(1,(AV.agg [(AV.q p.at_.x jb),(AV.q p.at_.z jb),(AV.q p.turn jb),(AV.list 3 (p.joints.map (unQ jb)))])),(2,(AV.int .i64 b)),(3,(AV.agg [(AV.q px B),(AV.q pz C)])),(4,(AV.agg [(AV.q y.a.a U1),(AV.q y.a.b U2),(AV.q y.a.d U3),(AV.q y.b.a V1),(AV.q y.b.b V2),(AV.q y.b.d V3),(AV.bool y.w)]))],[]⟩:=
  goR mixed TT0_ok KT41_ok 27 (some 9) [9,10,11,13,14] [3,4,5,7,8] [(21,(AV.tup [(AV.agg [(AV.q h.at_.x (4*SZ jb+608)),(AV.q h.at_.z (4*SZ jb+608)),(AV.q h.c (SZ jb)),(AV.q h.s (SZ jb)),(AV.str u.name),(AV.int .i64 u.par),(AV.q u.at_.x 300),(AV.q u.at_.z 300),(AV.q u.ma 300),(AV.q u.inr 300),(AV.q u.c.x 300),(AV.q u.c.z 300),(AV.q u.low 300),(AV.q u.high 300),(AV.list 6 (u.shape.map (unP 300))),(AV.str v.name),(AV.int .i64 v.par),(AV.q v.at_.x 300),(AV.q v.at_.z 300),(AV.q v.ma 300),(AV.q v.inr 300),(AV.q v.c.x 300),(AV.q v.c.z 300),(AV.q v.low 300),(AV.q v.high 300),(AV.list 6 (v.shape.map (unP 300))),(AV.q px B),(AV.q pz C)]),(AV.int .i64 (0:Int))])),(37,(AV.bool true)),(46,(AV.bool false)),(52,(AV.bool false)),(60,(AV.bool true)),(69,(AV.bool false))] (ob:=[Ref (AV.tup [(legP jb (reMach [(AV.str m.name),(AV.list 27 (m.bodies.map (unBody 300))),(AV.list 17 (m.springs.map (unCordy 300))),(AV.list 17 (m.tendons.map (unCordy 300))),(AV.list 13 (m.motors.map (unMotor 300))),(AV.list 5 (m.feet.map (unFoot 300)))]) ⟨⟨p.at_.x,p.at_.z⟩,p.turn,(p.joints.map (unQ jb)).map reQ⟩ b ⟨px,pz⟩ B C),(AV.int .i64 (legE (reMach [(AV.str m.name),(AV.list 27 (m.bodies.map (unBody 300))),(AV.list 17 (m.springs.map (unCordy 300))),(AV.list 17 (m.tendons.map (unCordy 300))),(AV.list 13 (m.motors.map (unMotor 300))),(AV.list 5 (m.feet.map (unFoot 300)))]) (p.joints.map (unQ jb)).length b))]) (AV.tup [(AV.agg [(AV.q h.at_.x (4*SZ jb+608)),(AV.q h.at_.z (4*SZ jb+608)),(AV.q h.c (SZ jb)),(AV.q h.s (SZ jb)),(AV.str u.name),(AV.int .i64 u.par),(AV.q u.at_.x 300),(AV.q u.at_.z 300),(AV.q u.ma 300),(AV.q u.inr 300),(AV.q u.c.x 300),(AV.q u.c.z 300),(AV.q u.low 300),(AV.q u.high 300),(AV.list 6 (u.shape.map (unP 300))),(AV.str v.name),(AV.int .i64 v.par),(AV.q v.at_.x 300),(AV.q v.at_.z 300),(AV.q v.ma 300),(AV.q v.inr 300),(AV.q v.c.x 300),(AV.q v.c.z 300),(AV.q v.low 300),(AV.q v.high 300),(AV.list 6 (v.shape.map (unP 300))),(AV.q px B),(AV.q pz C)]),(AV.int .i64 (0:Int))]),[(AV.str m.name),(AV.list 27 (m.bodies.map (unBody 300))),(AV.list 17 (m.springs.map (unCordy 300))),(AV.list 17 (m.tendons.map (unCordy 300))),(AV.list 13 (m.motors.map (unMotor 300))),(AV.list 5 (m.feet.map (unFoot 300)))]=unMach 300 (reMach [(AV.str m.name),(AV.list 27 (m.bodies.map (unBody 300))),(AV.list 17 (m.springs.map (unCordy 300))),(AV.list 17 (m.tendons.map (unCordy 300))),(AV.list 13 (m.motors.map (unMotor 300))),(AV.list 5 (m.feet.map (unFoot 300)))]),(reMach [(AV.str m.name),(AV.list 27 (m.bodies.map (unBody 300))),(AV.list 17 (m.springs.map (unCordy 300))),(AV.list 17 (m.tendons.map (unCordy 300))),(AV.list 13 (m.motors.map (unMotor 300))),(AV.list 5 (m.feet.map (unFoot 300)))]).small,(reMach [(AV.str m.name),(AV.list 27 (m.bodies.map (unBody 300))),(AV.list 17 (m.springs.map (unCordy 300))),(AV.list 17 (m.tendons.map (unCordy 300))),(AV.list 13 (m.motors.map (unMotor 300))),(AV.list 5 (m.feet.map (unFoot 300)))]).bodies.length≤8,jb≤jb,jb≤jb,jb≤100000,Ref (.list 3 (p.joints.map (unQ jb))) (.list 3 (((p.joints.map (unQ jb)).map reQ).map (unQ jb))),(p.joints.map (unQ jb)).length≤4611686018427387904,Ref (AV.bool (decide ((Int.sign y.a.d.num)=(0:Int)))) (.bool true),Ref (AV.bool (decide ((Int.sign y.a.d.num)<(0:Int)))) (AV.bool false),Ref (AV.bool (decide ((Int.sign y.b.d.num)<(0:Int)))) (AV.bool false),Ref (AV.bool (!decide ((Int.sign y.b.d.num)=(0:Int)))) (.bool true),V3+V3+200≤LIM,Ref (AV.bool (!decide ((cmpQ y.b.d y.b.d)=(0:Int)))) (AV.bool false)]) (by decide) (by kernel_rfl)
    (.cons (o.1) (.cons (o.2.1) (.cons (o.2.2.1) (.cons (o.2.2.2.1) (.cons (o.2.2.2.2.1) (.cons (o.2.2.2.2.1) (.cons (o.2.2.2.2.2.1) (.cons (o.2.2.2.2.2.2.1) (.cons (o.2.2.2.2.2.2.2.1) (.cons (Ref.bool (decide_eq_true h1)) (.cons (o.2.2.2.2.2.2.2.2.1) (.cons (o.2.2.2.2.2.2.2.2.2.1) (.cons (Ref.bool (congrArg Bool.not (decide_eq_false h2))) (.cons (o.2.2.2.2.2.2.2.2.2.2.1) (.cons (o.2.2.2.2.2.2.2.2.2.2.2) (AllP.nil)))))))))))))))) hg
theorem p41_0_3 {S0 C0:Nat → Prop} {w0:World} {Post:Value → World → Prop} (m:MachD) (p:PoseD) (jb:Nat) (b:Int) (px:Rat) (B:Nat) (pz:Rat) (C:Nat) (y:BendD) (U1 U2 U3 V1 V2 V3:Nat) (h:FrameD) (u v:BodyD) (h1:¬ ((Int.sign y.a.d.num)=(0:Int))) (h2:(Int.sign y.b.d.num)=(0:Int)) (o:(Ref (AV.tup [(legP jb (reMach [(AV.str m.name),(AV.list 27 (m.bodies.map (unBody 300))),(AV.list 17 (m.springs.map (unCordy 300))),(AV.list 17 (m.tendons.map (unCordy 300))),(AV.list 13 (m.motors.map (unMotor 300))),(AV.list 5 (m.feet.map (unFoot 300)))]) ⟨⟨p.at_.x,p.at_.z⟩,p.turn,(p.joints.map (unQ jb)).map reQ⟩ b ⟨px,pz⟩ B C),(AV.int .i64 (legE (reMach [(AV.str m.name),(AV.list 27 (m.bodies.map (unBody 300))),(AV.list 17 (m.springs.map (unCordy 300))),(AV.list 17 (m.tendons.map (unCordy 300))),(AV.list 13 (m.motors.map (unMotor 300))),(AV.list 5 (m.feet.map (unFoot 300)))]) (p.joints.map (unQ jb)).length b))]) (AV.tup [(AV.agg [(AV.q h.at_.x (4*SZ jb+608)),(AV.q h.at_.z (4*SZ jb+608)),(AV.q h.c (SZ jb)),(AV.q h.s (SZ jb)),(AV.str u.name),(AV.int .i64 u.par),(AV.q u.at_.x 300),(AV.q u.at_.z 300),(AV.q u.ma 300),(AV.q u.inr 300),(AV.q u.c.x 300),(AV.q u.c.z 300),(AV.q u.low 300),(AV.q u.high 300),(AV.list 6 (u.shape.map (unP 300))),(AV.str v.name),(AV.int .i64 v.par),(AV.q v.at_.x 300),(AV.q v.at_.z 300),(AV.q v.ma 300),(AV.q v.inr 300),(AV.q v.c.x 300),(AV.q v.c.z 300),(AV.q v.low 300),(AV.q v.high 300),(AV.list 6 (v.shape.map (unP 300))),(AV.q px B),(AV.q pz C)]),(AV.int .i64 (0:Int))]))∧([(AV.str m.name),(AV.list 27 (m.bodies.map (unBody 300))),(AV.list 17 (m.springs.map (unCordy 300))),(AV.list 17 (m.tendons.map (unCordy 300))),(AV.list 13 (m.motors.map (unMotor 300))),(AV.list 5 (m.feet.map (unFoot 300)))]=unMach 300 (reMach [(AV.str m.name),(AV.list 27 (m.bodies.map (unBody 300))),(AV.list 17 (m.springs.map (unCordy 300))),(AV.list 17 (m.tendons.map (unCordy 300))),(AV.list 13 (m.motors.map (unMotor 300))),(AV.list 5 (m.feet.map (unFoot 300)))]))∧((reMach [(AV.str m.name),(AV.list 27 (m.bodies.map (unBody 300))),(AV.list 17 (m.springs.map (unCordy 300))),(AV.list 17 (m.tendons.map (unCordy 300))),(AV.list 13 (m.motors.map (unMotor 300))),(AV.list 5 (m.feet.map (unFoot 300)))]).small)∧((reMach [(AV.str m.name),(AV.list 27 (m.bodies.map (unBody 300))),(AV.list 17 (m.springs.map (unCordy 300))),(AV.list 17 (m.tendons.map (unCordy 300))),(AV.list 13 (m.motors.map (unMotor 300))),(AV.list 5 (m.feet.map (unFoot 300)))]).bodies.length≤8)∧(jb≤jb)∧(jb≤100000)∧(Ref (.list 3 (p.joints.map (unQ jb))) (.list 3 (((p.joints.map (unQ jb)).map reQ).map (unQ jb))))∧((p.joints.map (unQ jb)).length≤4611686018427387904)∧(Ref (AV.bool (decide ((Int.sign y.a.d.num)<(0:Int)))) (AV.bool false))∧(Ref (AV.bool (decide ((Int.sign y.b.d.num)<(0:Int)))) (AV.bool false))∧(Ref (AV.bool false) (AV.bool false)))
    (hg:Good Tryz.prog 41 S0 C0 w0 Post [.code (nav [1,1,1,1,1,1,0] (bodyOf Tryz.f41)),.code (nav [1,1,1,1,1,1,1] (bodyOf Tryz.f41))] ⟨slots 121 [(9,(AV.ptr 0 19 0 0)),(10,(AV.ptr 1 9 0 0)),(11,(AV.ptr 2 9 0 0)),(13,(AV.ptr 3 72 0 0)),(14,(AV.ptr 4 3 0 0))],[some ⟨110,19,false,[[(AV.q y.a.a U1),(AV.q y.a.b U2),(AV.q y.a.d U3),(AV.q y.b.a V1),(AV.q y.b.b V2),(AV.q y.b.d V3),(AV.bool y.w)]],none⟩,some ⟨106,9,false,[[(AV.q 0 0),(AV.q 0 0),(AV.q 0 0)]],none⟩,some ⟨106,9,false,[[(AV.q 0 0),(AV.q 0 0),(AV.q 0 0)]],none⟩,some ⟨267,72,false,[[(AV.q h.at_.x (4*SZ jb+608)),(AV.q h.at_.z (4*SZ jb+608)),(AV.q h.c (SZ jb)),(AV.q h.s (SZ jb)),(AV.str u.name),(AV.int .i64 u.par),(AV.q u.at_.x 300),(AV.q u.at_.z 300),(AV.q u.ma 300),(AV.q u.inr 300),(AV.q u.c.x 300),(AV.q u.c.z 300),(AV.q u.low 300),(AV.q u.high 300),(AV.list 6 (u.shape.map (unP 300))),(AV.str v.name),(AV.int .i64 v.par),(AV.q v.at_.x 300),(AV.q v.at_.z 300),(AV.q v.ma 300),(AV.q v.inr 300),(AV.q v.c.x 300),(AV.q v.c.z 300),(AV.q v.low 300),(AV.q v.high 300),(AV.list 6 (v.shape.map (unP 300))),(AV.q px B),(AV.q pz C)]],none⟩,some ⟨274,3,false,[[(AV.q y.a.d U3)]],none⟩]⟩):
    Good Tryz.prog 41 S0 C0 w0 Post [.code (nav [] (bodyOf Tryz.f41))] ⟨slots 121 [(0,(AV.agg [(AV.str m.name),(AV.list 27 (m.bodies.map (unBody 300))),(AV.list 17 (m.springs.map (unCordy 300))),(AV.list 17 (m.tendons.map (unCordy 300))),(AV.list 13 (m.motors.map (unMotor 300))),(AV.list 5 (m.feet.map (unFoot 300)))])),(1,(AV.agg [(AV.q p.at_.x jb),(AV.q p.at_.z jb),(AV.q p.turn jb),(AV.list 3 (p.joints.map (unQ jb)))])),(2,(AV.int .i64 b)),(3,(AV.agg [(AV.q px B),(AV.q pz C)])),(4,(AV.agg [(AV.q y.a.a U1),(AV.q y.a.b U2),(AV.q y.a.d U3),(AV.q y.b.a V1),(AV.q y.b.b V2),(AV.q y.b.d V3),(AV.bool y.w)]))],[]⟩:=
  goR mixed TT0_ok KT41_ok 27 (some 9) [9,10,11,13,14] [3,4,5,7,8] [(21,(AV.tup [(AV.agg [(AV.q h.at_.x (4*SZ jb+608)),(AV.q h.at_.z (4*SZ jb+608)),(AV.q h.c (SZ jb)),(AV.q h.s (SZ jb)),(AV.str u.name),(AV.int .i64 u.par),(AV.q u.at_.x 300),(AV.q u.at_.z 300),(AV.q u.ma 300),(AV.q u.inr 300),(AV.q u.c.x 300),(AV.q u.c.z 300),(AV.q u.low 300),(AV.q u.high 300),(AV.list 6 (u.shape.map (unP 300))),(AV.str v.name),(AV.int .i64 v.par),(AV.q v.at_.x 300),(AV.q v.at_.z 300),(AV.q v.ma 300),(AV.q v.inr 300),(AV.q v.c.x 300),(AV.q v.c.z 300),(AV.q v.low 300),(AV.q v.high 300),(AV.list 6 (v.shape.map (unP 300))),(AV.q px B),(AV.q pz C)]),(AV.int .i64 (0:Int))])),(37,(AV.bool false)),(46,(AV.bool false)),(52,(AV.bool false)),(60,(AV.bool false)),(69,(AV.bool false))] (ob:=[Ref (AV.tup [(legP jb (reMach [(AV.str m.name),(AV.list 27 (m.bodies.map (unBody 300))),(AV.list 17 (m.springs.map (unCordy 300))),(AV.list 17 (m.tendons.map (unCordy 300))),(AV.list 13 (m.motors.map (unMotor 300))),(AV.list 5 (m.feet.map (unFoot 300)))]) ⟨⟨p.at_.x,p.at_.z⟩,p.turn,(p.joints.map (unQ jb)).map reQ⟩ b ⟨px,pz⟩ B C),(AV.int .i64 (legE (reMach [(AV.str m.name),(AV.list 27 (m.bodies.map (unBody 300))),(AV.list 17 (m.springs.map (unCordy 300))),(AV.list 17 (m.tendons.map (unCordy 300))),(AV.list 13 (m.motors.map (unMotor 300))),(AV.list 5 (m.feet.map (unFoot 300)))]) (p.joints.map (unQ jb)).length b))]) (AV.tup [(AV.agg [(AV.q h.at_.x (4*SZ jb+608)),(AV.q h.at_.z (4*SZ jb+608)),(AV.q h.c (SZ jb)),(AV.q h.s (SZ jb)),(AV.str u.name),(AV.int .i64 u.par),(AV.q u.at_.x 300),(AV.q u.at_.z 300),(AV.q u.ma 300),(AV.q u.inr 300),(AV.q u.c.x 300),(AV.q u.c.z 300),(AV.q u.low 300),(AV.q u.high 300),(AV.list 6 (u.shape.map (unP 300))),(AV.str v.name),(AV.int .i64 v.par),(AV.q v.at_.x 300),(AV.q v.at_.z 300),(AV.q v.ma 300),(AV.q v.inr 300),(AV.q v.c.x 300),(AV.q v.c.z 300),(AV.q v.low 300),(AV.q v.high 300),(AV.list 6 (v.shape.map (unP 300))),(AV.q px B),(AV.q pz C)]),(AV.int .i64 (0:Int))]),[(AV.str m.name),(AV.list 27 (m.bodies.map (unBody 300))),(AV.list 17 (m.springs.map (unCordy 300))),(AV.list 17 (m.tendons.map (unCordy 300))),(AV.list 13 (m.motors.map (unMotor 300))),(AV.list 5 (m.feet.map (unFoot 300)))]=unMach 300 (reMach [(AV.str m.name),(AV.list 27 (m.bodies.map (unBody 300))),(AV.list 17 (m.springs.map (unCordy 300))),(AV.list 17 (m.tendons.map (unCordy 300))),(AV.list 13 (m.motors.map (unMotor 300))),(AV.list 5 (m.feet.map (unFoot 300)))]),(reMach [(AV.str m.name),(AV.list 27 (m.bodies.map (unBody 300))),(AV.list 17 (m.springs.map (unCordy 300))),(AV.list 17 (m.tendons.map (unCordy 300))),(AV.list 13 (m.motors.map (unMotor 300))),(AV.list 5 (m.feet.map (unFoot 300)))]).small,(reMach [(AV.str m.name),(AV.list 27 (m.bodies.map (unBody 300))),(AV.list 17 (m.springs.map (unCordy 300))),(AV.list 17 (m.tendons.map (unCordy 300))),(AV.list 13 (m.motors.map (unMotor 300))),(AV.list 5 (m.feet.map (unFoot 300)))]).bodies.length≤8,jb≤jb,jb≤jb,jb≤100000,Ref (.list 3 (p.joints.map (unQ jb))) (.list 3 (((p.joints.map (unQ jb)).map reQ).map (unQ jb))),(p.joints.map (unQ jb)).length≤4611686018427387904,Ref (AV.bool (decide ((Int.sign y.a.d.num)=(0:Int)))) (.bool false),Ref (AV.bool (decide ((Int.sign y.a.d.num)<(0:Int)))) (AV.bool false),Ref (AV.bool (decide ((Int.sign y.b.d.num)<(0:Int)))) (AV.bool false),Ref (AV.bool (!decide ((Int.sign y.b.d.num)=(0:Int)))) (.bool false),Ref (AV.bool false) (AV.bool false)]) (by decide) (by kernel_rfl)
    (.cons (o.1) (.cons (o.2.1) (.cons (o.2.2.1) (.cons (o.2.2.2.1) (.cons (o.2.2.2.2.1) (.cons (o.2.2.2.2.1) (.cons (o.2.2.2.2.2.1) (.cons (o.2.2.2.2.2.2.1) (.cons (o.2.2.2.2.2.2.2.1) (.cons (Ref.bool (decide_eq_false h1)) (.cons (o.2.2.2.2.2.2.2.2.1) (.cons (o.2.2.2.2.2.2.2.2.2.1) (.cons (Ref.bool (congrArg Bool.not (decide_eq_true h2))) (.cons (o.2.2.2.2.2.2.2.2.2.2) (AllP.nil))))))))))))))) hg
theorem p41_0_2 {S0 C0:Nat → Prop} {w0:World} {Post:Value → World → Prop} (m:MachD) (p:PoseD) (jb:Nat) (b:Int) (px:Rat) (B:Nat) (pz:Rat) (C:Nat) (y:BendD) (U1 U2 U3 V1 V2 V3:Nat) (h:FrameD) (u v:BodyD) (h1:¬ ((Int.sign y.a.d.num)=(0:Int))) (h2:¬ ((Int.sign y.b.d.num)=(0:Int))) (o:(Ref (AV.tup [(legP jb (reMach [(AV.str m.name),(AV.list 27 (m.bodies.map (unBody 300))),(AV.list 17 (m.springs.map (unCordy 300))),(AV.list 17 (m.tendons.map (unCordy 300))),(AV.list 13 (m.motors.map (unMotor 300))),(AV.list 5 (m.feet.map (unFoot 300)))]) ⟨⟨p.at_.x,p.at_.z⟩,p.turn,(p.joints.map (unQ jb)).map reQ⟩ b ⟨px,pz⟩ B C),(AV.int .i64 (legE (reMach [(AV.str m.name),(AV.list 27 (m.bodies.map (unBody 300))),(AV.list 17 (m.springs.map (unCordy 300))),(AV.list 17 (m.tendons.map (unCordy 300))),(AV.list 13 (m.motors.map (unMotor 300))),(AV.list 5 (m.feet.map (unFoot 300)))]) (p.joints.map (unQ jb)).length b))]) (AV.tup [(AV.agg [(AV.q h.at_.x (4*SZ jb+608)),(AV.q h.at_.z (4*SZ jb+608)),(AV.q h.c (SZ jb)),(AV.q h.s (SZ jb)),(AV.str u.name),(AV.int .i64 u.par),(AV.q u.at_.x 300),(AV.q u.at_.z 300),(AV.q u.ma 300),(AV.q u.inr 300),(AV.q u.c.x 300),(AV.q u.c.z 300),(AV.q u.low 300),(AV.q u.high 300),(AV.list 6 (u.shape.map (unP 300))),(AV.str v.name),(AV.int .i64 v.par),(AV.q v.at_.x 300),(AV.q v.at_.z 300),(AV.q v.ma 300),(AV.q v.inr 300),(AV.q v.c.x 300),(AV.q v.c.z 300),(AV.q v.low 300),(AV.q v.high 300),(AV.list 6 (v.shape.map (unP 300))),(AV.q px B),(AV.q pz C)]),(AV.int .i64 (0:Int))]))∧([(AV.str m.name),(AV.list 27 (m.bodies.map (unBody 300))),(AV.list 17 (m.springs.map (unCordy 300))),(AV.list 17 (m.tendons.map (unCordy 300))),(AV.list 13 (m.motors.map (unMotor 300))),(AV.list 5 (m.feet.map (unFoot 300)))]=unMach 300 (reMach [(AV.str m.name),(AV.list 27 (m.bodies.map (unBody 300))),(AV.list 17 (m.springs.map (unCordy 300))),(AV.list 17 (m.tendons.map (unCordy 300))),(AV.list 13 (m.motors.map (unMotor 300))),(AV.list 5 (m.feet.map (unFoot 300)))]))∧((reMach [(AV.str m.name),(AV.list 27 (m.bodies.map (unBody 300))),(AV.list 17 (m.springs.map (unCordy 300))),(AV.list 17 (m.tendons.map (unCordy 300))),(AV.list 13 (m.motors.map (unMotor 300))),(AV.list 5 (m.feet.map (unFoot 300)))]).small)∧((reMach [(AV.str m.name),(AV.list 27 (m.bodies.map (unBody 300))),(AV.list 17 (m.springs.map (unCordy 300))),(AV.list 17 (m.tendons.map (unCordy 300))),(AV.list 13 (m.motors.map (unMotor 300))),(AV.list 5 (m.feet.map (unFoot 300)))]).bodies.length≤8)∧(jb≤jb)∧(jb≤100000)∧(Ref (.list 3 (p.joints.map (unQ jb))) (.list 3 (((p.joints.map (unQ jb)).map reQ).map (unQ jb))))∧((p.joints.map (unQ jb)).length≤4611686018427387904)∧(Ref (AV.bool (decide ((Int.sign y.a.d.num)<(0:Int)))) (AV.bool false))∧(Ref (AV.bool (decide ((Int.sign y.b.d.num)<(0:Int)))) (AV.bool false))∧(U3+V3+200≤LIM)∧(Ref (AV.bool (!decide ((cmpQ y.a.d y.b.d)=(0:Int)))) (AV.bool false)))
    (hg:Good Tryz.prog 41 S0 C0 w0 Post [.code (nav [1,1,1,1,1,1,0] (bodyOf Tryz.f41)),.code (nav [1,1,1,1,1,1,1] (bodyOf Tryz.f41))] ⟨slots 121 [(9,(AV.ptr 0 19 0 0)),(10,(AV.ptr 1 9 0 0)),(11,(AV.ptr 2 9 0 0)),(13,(AV.ptr 3 72 0 0)),(14,(AV.ptr 4 3 0 0))],[some ⟨110,19,false,[[(AV.q y.a.a U1),(AV.q y.a.b U2),(AV.q y.a.d U3),(AV.q y.b.a V1),(AV.q y.b.b V2),(AV.q y.b.d V3),(AV.bool y.w)]],none⟩,some ⟨106,9,false,[[(AV.q 0 0),(AV.q 0 0),(AV.q 0 0)]],none⟩,some ⟨106,9,false,[[(AV.q 0 0),(AV.q 0 0),(AV.q 0 0)]],none⟩,some ⟨267,72,false,[[(AV.q h.at_.x (4*SZ jb+608)),(AV.q h.at_.z (4*SZ jb+608)),(AV.q h.c (SZ jb)),(AV.q h.s (SZ jb)),(AV.str u.name),(AV.int .i64 u.par),(AV.q u.at_.x 300),(AV.q u.at_.z 300),(AV.q u.ma 300),(AV.q u.inr 300),(AV.q u.c.x 300),(AV.q u.c.z 300),(AV.q u.low 300),(AV.q u.high 300),(AV.list 6 (u.shape.map (unP 300))),(AV.str v.name),(AV.int .i64 v.par),(AV.q v.at_.x 300),(AV.q v.at_.z 300),(AV.q v.ma 300),(AV.q v.inr 300),(AV.q v.c.x 300),(AV.q v.c.z 300),(AV.q v.low 300),(AV.q v.high 300),(AV.list 6 (v.shape.map (unP 300))),(AV.q px B),(AV.q pz C)]],none⟩,some ⟨274,3,false,[[(AV.q y.a.d U3)]],none⟩]⟩):
    Good Tryz.prog 41 S0 C0 w0 Post [.code (nav [] (bodyOf Tryz.f41))] ⟨slots 121 [(0,(AV.agg [(AV.str m.name),(AV.list 27 (m.bodies.map (unBody 300))),(AV.list 17 (m.springs.map (unCordy 300))),(AV.list 17 (m.tendons.map (unCordy 300))),(AV.list 13 (m.motors.map (unMotor 300))),(AV.list 5 (m.feet.map (unFoot 300)))])),(1,(AV.agg [(AV.q p.at_.x jb),(AV.q p.at_.z jb),(AV.q p.turn jb),(AV.list 3 (p.joints.map (unQ jb)))])),(2,(AV.int .i64 b)),(3,(AV.agg [(AV.q px B),(AV.q pz C)])),(4,(AV.agg [(AV.q y.a.a U1),(AV.q y.a.b U2),(AV.q y.a.d U3),(AV.q y.b.a V1),(AV.q y.b.b V2),(AV.q y.b.d V3),(AV.bool y.w)]))],[]⟩:=
  goR mixed TT0_ok KT41_ok 27 (some 9) [9,10,11,13,14] [3,4,5,7,8] [(21,(AV.tup [(AV.agg [(AV.q h.at_.x (4*SZ jb+608)),(AV.q h.at_.z (4*SZ jb+608)),(AV.q h.c (SZ jb)),(AV.q h.s (SZ jb)),(AV.str u.name),(AV.int .i64 u.par),(AV.q u.at_.x 300),(AV.q u.at_.z 300),(AV.q u.ma 300),(AV.q u.inr 300),(AV.q u.c.x 300),(AV.q u.c.z 300),(AV.q u.low 300),(AV.q u.high 300),(AV.list 6 (u.shape.map (unP 300))),(AV.str v.name),(AV.int .i64 v.par),(AV.q v.at_.x 300),(AV.q v.at_.z 300),(AV.q v.ma 300),(AV.q v.inr 300),(AV.q v.c.x 300),(AV.q v.c.z 300),(AV.q v.low 300),(AV.q v.high 300),(AV.list 6 (v.shape.map (unP 300))),(AV.q px B),(AV.q pz C)]),(AV.int .i64 (0:Int))])),(37,(AV.bool false)),(46,(AV.bool false)),(52,(AV.bool false)),(60,(AV.bool true)),(69,(AV.bool false))] (ob:=[Ref (AV.tup [(legP jb (reMach [(AV.str m.name),(AV.list 27 (m.bodies.map (unBody 300))),(AV.list 17 (m.springs.map (unCordy 300))),(AV.list 17 (m.tendons.map (unCordy 300))),(AV.list 13 (m.motors.map (unMotor 300))),(AV.list 5 (m.feet.map (unFoot 300)))]) ⟨⟨p.at_.x,p.at_.z⟩,p.turn,(p.joints.map (unQ jb)).map reQ⟩ b ⟨px,pz⟩ B C),(AV.int .i64 (legE (reMach [(AV.str m.name),(AV.list 27 (m.bodies.map (unBody 300))),(AV.list 17 (m.springs.map (unCordy 300))),(AV.list 17 (m.tendons.map (unCordy 300))),(AV.list 13 (m.motors.map (unMotor 300))),(AV.list 5 (m.feet.map (unFoot 300)))]) (p.joints.map (unQ jb)).length b))]) (AV.tup [(AV.agg [(AV.q h.at_.x (4*SZ jb+608)),(AV.q h.at_.z (4*SZ jb+608)),(AV.q h.c (SZ jb)),(AV.q h.s (SZ jb)),(AV.str u.name),(AV.int .i64 u.par),(AV.q u.at_.x 300),(AV.q u.at_.z 300),(AV.q u.ma 300),(AV.q u.inr 300),(AV.q u.c.x 300),(AV.q u.c.z 300),(AV.q u.low 300),(AV.q u.high 300),(AV.list 6 (u.shape.map (unP 300))),(AV.str v.name),(AV.int .i64 v.par),(AV.q v.at_.x 300),(AV.q v.at_.z 300),(AV.q v.ma 300),(AV.q v.inr 300),(AV.q v.c.x 300),(AV.q v.c.z 300),(AV.q v.low 300),(AV.q v.high 300),(AV.list 6 (v.shape.map (unP 300))),(AV.q px B),(AV.q pz C)]),(AV.int .i64 (0:Int))]),[(AV.str m.name),(AV.list 27 (m.bodies.map (unBody 300))),(AV.list 17 (m.springs.map (unCordy 300))),(AV.list 17 (m.tendons.map (unCordy 300))),(AV.list 13 (m.motors.map (unMotor 300))),(AV.list 5 (m.feet.map (unFoot 300)))]=unMach 300 (reMach [(AV.str m.name),(AV.list 27 (m.bodies.map (unBody 300))),(AV.list 17 (m.springs.map (unCordy 300))),(AV.list 17 (m.tendons.map (unCordy 300))),(AV.list 13 (m.motors.map (unMotor 300))),(AV.list 5 (m.feet.map (unFoot 300)))]),(reMach [(AV.str m.name),(AV.list 27 (m.bodies.map (unBody 300))),(AV.list 17 (m.springs.map (unCordy 300))),(AV.list 17 (m.tendons.map (unCordy 300))),(AV.list 13 (m.motors.map (unMotor 300))),(AV.list 5 (m.feet.map (unFoot 300)))]).small,(reMach [(AV.str m.name),(AV.list 27 (m.bodies.map (unBody 300))),(AV.list 17 (m.springs.map (unCordy 300))),(AV.list 17 (m.tendons.map (unCordy 300))),(AV.list 13 (m.motors.map (unMotor 300))),(AV.list 5 (m.feet.map (unFoot 300)))]).bodies.length≤8,jb≤jb,jb≤jb,jb≤100000,Ref (.list 3 (p.joints.map (unQ jb))) (.list 3 (((p.joints.map (unQ jb)).map reQ).map (unQ jb))),(p.joints.map (unQ jb)).length≤4611686018427387904,Ref (AV.bool (decide ((Int.sign y.a.d.num)=(0:Int)))) (.bool false),Ref (AV.bool (decide ((Int.sign y.a.d.num)<(0:Int)))) (AV.bool false),Ref (AV.bool (decide ((Int.sign y.b.d.num)<(0:Int)))) (AV.bool false),Ref (AV.bool (!decide ((Int.sign y.b.d.num)=(0:Int)))) (.bool true),U3+V3+200≤LIM,Ref (AV.bool (!decide ((cmpQ y.a.d y.b.d)=(0:Int)))) (AV.bool false)]) (by decide) (by kernel_rfl)
    (.cons (o.1) (.cons (o.2.1) (.cons (o.2.2.1) (.cons (o.2.2.2.1) (.cons (o.2.2.2.2.1) (.cons (o.2.2.2.2.1) (.cons (o.2.2.2.2.2.1) (.cons (o.2.2.2.2.2.2.1) (.cons (o.2.2.2.2.2.2.2.1) (.cons (Ref.bool (decide_eq_false h1)) (.cons (o.2.2.2.2.2.2.2.2.1) (.cons (o.2.2.2.2.2.2.2.2.2.1) (.cons (Ref.bool (congrArg Bool.not (decide_eq_false h2))) (.cons (o.2.2.2.2.2.2.2.2.2.2.1) (.cons (o.2.2.2.2.2.2.2.2.2.2.2) (AllP.nil)))))))))))))))) hg
/-- What is asked of a posture here: it is in one field, and brings the point to a place known otherwise. -/
def bentOK (h:FrameD) (v x:PtD) (y:BendD):Prop:=0≤y.a.d∧0≤y.b.d∧(y.a.d=0∨y.a.d=y.b.d)∧∃ q to:PtD,
  fTurn y.b.d (vAdd ⟨⟨v.x,0⟩,⟨v.z,0⟩⟩ (fTurn y.b.d ⟨⟨x.x,0⟩,⟨x.z,0⟩⟩ (partN y.b))) (partN y.a)=⟨⟨q.x,0⟩,⟨q.z,0⟩⟩∧QB 4000000 q.x∧QB 4000000 q.z∧bentV h v x y=⟨⟨to.x,0⟩,⟨to.z,0⟩⟩∧QB 300 to.x∧QB 300 to.z
theorem QB.zero:QB 0 0:=⟨by decide,by decide⟩
theorem surd_rat {f q:Rat} (h:0≤f) {X Y Z:Nat} (hq:QB 300 q):Ref (.agg [.q (if Int.sign f.num<0 then (⟨0,0,0⟩:Sd) else nrm ⟨q,0,f⟩).a X,.q (if Int.sign f.num<0 then (⟨0,0,0⟩:Sd) else nrm ⟨q,0,f⟩).b Y,.q (if Int.sign f.num<0 then (⟨0,0,0⟩:Sd) else nrm ⟨q,0,f⟩).d Z]) (.agg [.q q 300,.q 0 0,.q 0 0]):=by
  have e:(if Int.sign f.num<0 then (⟨0,0,0⟩:Sd) else nrm ⟨q,0,f⟩)=⟨q,0,0⟩:=by
    rw[if_neg fun x=>absurd (sgn_num.2.1 x) (Rat.not_lt.2 h)];exact if_pos rfl
  rw[e]
  exact Ref.agg (RefC.cons (RefC.q_of rfl hq) (RefC.cons (RefC.q_of rfl .zero) (RefC.q_of rfl .zero)))
theorem tail41 {S:Nat → Prop} {w0:World} {m:MachD} {p:PoseD} {jb:Nat} {b:Int} {px pz:Rat} {B C:Nat} {y:BendD} {U1 U2 U3 V1 V2 V3:Nat} {h:FrameD} {u v:BodyD} {q to:PtD} (k2:0≤y.b.d) (hf:bentF y=y.b.d)
    (hq:fTurn y.b.d (vAdd ⟨⟨v.at_.x,0⟩,⟨v.at_.z,0⟩⟩ (fTurn y.b.d ⟨⟨px,0⟩,⟨pz,0⟩⟩ (partN y.b))) (partN y.a)=⟨⟨q.x,0⟩,⟨q.z,0⟩⟩) (q1:QB 4000000 q.x) (q2:QB 4000000 q.z) (ht:bentV h v.at_ ⟨px,pz⟩ y=⟨⟨to.x,0⟩,⟨to.z,0⟩⟩) (q3:QB 300 to.x) (q4:QB 300 to.z)
    (hs:128*U1+128*U2+800*U3+800*V3+600*V1+600*V2+10*B+10*C+20*SZ jb+50000000≤LIM):Good Tryz.prog 41 S No w0 (PostF S w0 (.tup [.agg [.q to.x 300,.q 0 0,.q 0 0],.agg [.q to.z 300,.q 0 0,.q 0 0],.int .i64 0])) [.code (nav [1,1,1,1,1,1,0] (bodyOf Tryz.f41)),.code (nav [1,1,1,1,1,1,1] (bodyOf Tryz.f41))] ⟨slots 121 [(9,.ptr 0 19 0 0),(10,.ptr 1 9 0 0),(11,.ptr 2 9 0 0),(13,.ptr 3 72 0 0),(14,.ptr 4 3 0 0)],[some ⟨110,19,false,[[(AV.q y.a.a U1),(AV.q y.a.b U2),(AV.q y.a.d U3),(AV.q y.b.a V1),(AV.q y.b.b V2),(AV.q y.b.d V3),(AV.bool y.w)]],none⟩,some ⟨106,9,false,[[(AV.q 0 0),(AV.q 0 0),(AV.q 0 0)]],none⟩,some ⟨106,9,false,[[(AV.q 0 0),(AV.q 0 0),(AV.q 0 0)]],none⟩,some ⟨267,72,false,[[(AV.q h.at_.x (4*SZ jb+608)),(AV.q h.at_.z (4*SZ jb+608)),(AV.q h.c (SZ jb)),(AV.q h.s (SZ jb)),(AV.str u.name),(AV.int .i64 u.par),(AV.q u.at_.x 300),(AV.q u.at_.z 300),(AV.q u.ma 300),(AV.q u.inr 300),(AV.q u.c.x 300),(AV.q u.c.z 300),(AV.q u.low 300),(AV.q u.high 300),(AV.list 6 (u.shape.map (unP 300))),(AV.str v.name),(AV.int .i64 v.par),(AV.q v.at_.x 300),(AV.q v.at_.z 300),(AV.q v.ma 300),(AV.q v.inr 300),(AV.q v.c.x 300),(AV.q v.c.z 300),(AV.q v.low 300),(AV.q v.high 300),(AV.list 6 (v.shape.map (unP 300))),(AV.q px B),(AV.q pz C)]],none⟩,some ⟨274,3,false,[[(AV.q y.b.d (U3+V3))]],none⟩]⟩:=by
  obtain⟨w,hw⟩:∃ w,w=vAdd ⟨⟨v.at_.x,0⟩,⟨v.at_.z,0⟩⟩ (fTurn y.b.d ⟨⟨px,0⟩,⟨pz,0⟩⟩ (partN y.b)):=⟨_,rfl⟩
  rw[← hw] at hq
  have hV:bentV h v.at_ ⟨px,pz⟩ y=vAdd (fSpin y.b.d ⟨⟨q.x,0⟩,⟨q.z,0⟩⟩ ⟨h.c,0⟩ ⟨h.s,0⟩) ⟨⟨h.at_.x,0⟩,⟨h.at_.z,0⟩⟩:=by
    unfold bentV
    rw[hf]
    show vAdd (fSpin _ (fTurn _ (vAdd _ (fTurn _ ⟨⟨px,0⟩,⟨pz,0⟩⟩ _)) _) _ _) _=_
    rw[← hw,hq]
  rw[hV] at ht
  refine p41_1_0 m p jb b px B pz C y U1 U2 U3 V1 V2 V3 h u v y.b.d (U3+V3) (64*V1+64*V2+42*(U3+V3)+B+C+1804) w q to ⟨by omega, ?_,by omega, ?_,by omega,by omega, ?_,by omega,surd_rat k2 q3,by omega,surd_rat k2 q4⟩ ?_
  · rw[hw];exact Ref.agg (RefC.cons (RefC.q_eq rfl (by omega)) (RefC.cons (RefC.q_eq rfl (by omega)) (RefC.cons (RefC.q_eq rfl (by omega)) (RefC.q_eq rfl (by omega)))))
  · show Ref (.agg [.q (fTurn y.b.d w (partN y.a)).x.a _,.q (fTurn y.b.d w (partN y.a)).x.b _,.q (fTurn y.b.d w (partN y.a)).z.a _,.q (fTurn y.b.d w (partN y.a)).z.b _]) _
    rw[hq];exact Ref.agg (RefC.cons (RefC.q_of rfl q1) (RefC.cons (RefC.q_of rfl .zero) (RefC.cons (RefC.q_of rfl q2) (RefC.q_of rfl .zero))))
  · show Ref (.agg [.q (vAdd (fSpin y.b.d ⟨⟨q.x,0⟩,⟨q.z,0⟩⟩ ⟨h.c,0⟩ ⟨h.s,0⟩) ⟨⟨h.at_.x,0⟩,⟨h.at_.z,0⟩⟩).x.a _,.q (vAdd (fSpin y.b.d ⟨⟨q.x,0⟩,⟨q.z,0⟩⟩ ⟨h.c,0⟩ ⟨h.s,0⟩) ⟨⟨h.at_.x,0⟩,⟨h.at_.z,0⟩⟩).x.b _,.q (vAdd (fSpin y.b.d ⟨⟨q.x,0⟩,⟨q.z,0⟩⟩ ⟨h.c,0⟩ ⟨h.s,0⟩) ⟨⟨h.at_.x,0⟩,⟨h.at_.z,0⟩⟩).z.a _,.q (vAdd (fSpin y.b.d ⟨⟨q.x,0⟩,⟨q.z,0⟩⟩ ⟨h.c,0⟩ ⟨h.s,0⟩) ⟨⟨h.at_.x,0⟩,⟨h.at_.z,0⟩⟩).z.b _]) _
    rw[ht];exact Ref.agg (RefC.cons (RefC.q_of rfl q3) (RefC.cons (RefC.q_of rfl .zero) (RefC.cons (RefC.q_of rfl q4) (RefC.q_of rfl .zero))))
  exact good_endF TT0_ok (fn:=Tryz.f41) (by kernel_rfl) (.inr ⟨_,rfl⟩) (Vs:=[.agg [.q to.x 300,.q 0 0,.q 0 0],.agg [.q to.z 300,.q 0 0,.q 0 0],.int .i64 0]) (by kernel_rfl) (by rfl) (by rfl) Ref.rfl'
def k41:List AV → Option (AV×List Prop)
  | [.agg M,.agg [.q ax jb,.q az A2,.q tu A3,.list 3 J],.int .i64 b,.agg [.q px B,.q pz C],.agg [.q a1 U1,.q a2 U2,.q a3 U3,.q b1 V1,.q b2 V2,.q b3 V3,.bool bw]]=>some (.tup [.agg [.q (bentV (hipF (reMach M) ⟨⟨ax,az⟩,tu,J.map reQ⟩ b) (loB (reMach M) b).at_ ⟨px,pz⟩ ⟨⟨a1,a2,a3⟩,⟨b1,b2,b3⟩,bw⟩).x.a 300,.q 0 0,.q 0 0],.agg [.q (bentV (hipF (reMach M) ⟨⟨ax,az⟩,tu,J.map reQ⟩ b) (loB (reMach M) b).at_ ⟨px,pz⟩ ⟨⟨a1,a2,a3⟩,⟨b1,b2,b3⟩,bw⟩).z.a 300,.q 0 0,.q 0 0],.int .i64 0],[M=unMach 300 (reMach M),(reMach M).small,(reMach M).bodies.length≤8,A2≤jb,A3≤jb,jb≤100000,Ref (.list 3 J) (.list 3 ((J.map reQ).map (unQ jb))),J.length≤4611686018427387904,legE (reMach M) J.length b=0,bentOK (hipF (reMach M) ⟨⟨ax,az⟩,tu,J.map reQ⟩ b) (loB (reMach M) b).at_ ⟨px,pz⟩ ⟨⟨a1,a2,a3⟩,⟨b1,b2,b3⟩,bw⟩,128*U1+128*U2+800*U3+800*V3+600*V1+600*V2+10*B+10*C+20*SZ jb+50000000≤LIM])
  | _=>none
theorem a41 (args:List AV) (r:AV) (ob:List Prop) (h:k41 args=some (r,ob)) (ho:AllP ob):AFun Tryz.prog 41 args r:=by
  unfold k41 at h
  split at h
  · rename_i M ax jb az A2 tu A3 J b px B pz C a1 U1 a2 U2 a3 U3 b1 V1 b2 V2 b3 V3 bw
    injection h with h;simp only[Prod.mk.injEq] at h
    obtain⟨rfl,rfl⟩:=h
    have o1:M=unMach 300 (reMach M):=ho _ (by simp)
    have o2:(reMach M).small:=ho _ (by simp)
    have o3:(reMach M).bodies.length≤8:=ho _ (by simp)
    have o4:A2≤jb:=ho _ (by simp)
    have o5:A3≤jb:=ho _ (by simp)
    have o6:jb≤100000:=ho _ (by simp)
    have o7:Ref (.list 3 J) (.list 3 ((J.map reQ).map (unQ jb))):=ho _ (by simp)
    have o8:J.length≤4611686018427387904:=ho _ (by simp)
    have o9:legE (reMach M) J.length b=0:=ho _ (by simp)
    have o10:bentOK (hipF (reMach M) ⟨⟨ax,az⟩,tu,J.map reQ⟩ b) (loB (reMach M) b).at_ ⟨px,pz⟩ ⟨⟨a1,a2,a3⟩,⟨b1,b2,b3⟩,bw⟩:=ho _ (by simp)
    have o11:128*U1+128*U2+800*U3+800*V3+600*V1+600*V2+10*B+10*C+20*SZ jb+50000000≤LIM:=ho _ (by simp)
    clear ho
    refine afun_of (fn:=Tryz.f41) (c:=bodyOf Tryz.f41) (by kernel_rfl) (by kernel_rfl) (by kernel_rfl) fun S w0=> ?_
    obtain⟨y,hy⟩:∃ y:BendD,y=⟨⟨a1,a2,a3⟩,⟨b1,b2,b3⟩,bw⟩:=⟨_,rfl⟩
    rw[← hy] at o10
    have e:st0 [.agg M,.agg [.q ax jb,.q az A2,.q tu A3,.list 3 J],.int .i64 b,.agg [.q px B,.q pz C],.agg [.q a1 U1,.q a2 U2,.q a3 U3,.q b1 V1,.q b2 V2,.q b3 V3,.bool bw]] Tryz.f41.ntmps=⟨slots 121 [(0,.agg M),(1,.agg [.q ax jb,.q az A2,.q tu A3,.list 3 J]),(2,.int .i64 b),(3,.agg [.q px B,.q pz C]),(4,.agg [.q y.a.a U1,.q y.a.b U2,.q y.a.d U3,.q y.b.a V1,.q y.b.b V2,.q y.b.d V3,.bool y.w])],[]⟩:=by subst hy;kernel_rfl
    rw[e];clear e
    rw[← hy]
    clear hy
    generalize hm:reMach M=m at*
    subst o1
    clear hm
    obtain⟨p,hp⟩:∃ p:PoseD,p=⟨⟨ax,az⟩,tu,J.map reQ⟩:=⟨_,rfl⟩
    have hpj:p.joints.length=J.length:=by rw[hp];simp
    rw[← hp]
    rw[← hp] at o10
    try rw[← hpj]
    refine Good.weak 121 [(0,.agg (unMach 300 m)),(1,.agg (unPose jb p)),(2,.int .i64 b),(3,.agg [.q px B,.q pz C]),(4,.agg [.q y.a.a U1,.q y.a.b U2,.q y.a.d U3,.q y.b.a V1,.q y.b.b V2,.q y.b.d V3,.bool y.w])] (by kernel_rfl) (.cons Ref.rfl' (.cons (by rw[hp];exact Ref.pose o4 o5 o7) (.cons Ref.rfl' (.cons Ref.rfl' (.cons Ref.rfl' .nil))))) ?_
    clear hp
    have s1:unMach 300 m=unMach 300 (reMach (unMach 300 m)):=by rw[reMach_un]
    have s2:(reMach (unMach 300 m)).small:=by rw[reMach_un];exact o2
    have s3:(reMach (unMach 300 m)).bodies.length≤8:=by rw[reMach_un];exact o3
    have s4:Ref (.list 3 (p.joints.map (unQ jb))) (.list 3 (((p.joints.map (unQ jb)).map reQ).map (unQ jb))):=Ref.eq (by rw[reQ_un])
    have s5:(p.joints.map (unQ jb)).length≤4611686018427387904:=by rw[List.length_map,hpj];exact o8
    have s7:SZ jb≤153753600:=by unfold SZ;omega
    have s8:LIM=17592186044416:=rfl
    obtain⟨h,hh⟩:∃ h,h=hipF m p b:=⟨_,rfl⟩
    obtain⟨u,hu⟩:∃ u,u=upB m b:=⟨_,rfl⟩
    obtain⟨v,hv⟩:∃ v,v=loB m b:=⟨_,rfl⟩
    rw[← hh, ← hv] at o10 ⊢
    have oe:legE m p.joints.length b=0:=by rw[hpj];exact o9
    obtain⟨k1,k2,k3,q,to,c1,c2,c3,c4,c5,c6⟩:=o10
    have hR:∀ {t:Vc},t=⟨⟨to.x,0⟩,⟨to.z,0⟩⟩ → t.x.a=to.x∧t.z.a=to.z:=fun e=>by rw[e];exact⟨rfl,rfl⟩
    rw[(hR c4).1,(hR c4).2]
    have T:True → Good Tryz.prog 41 S No w0 _ [.code (nav [1,1,1,1,1,1,0] (bodyOf Tryz.f41)),.code (nav [1,1,1,1,1,1,1] (bodyOf Tryz.f41))] ⟨slots 121 [(9,.ptr 0 19 0 0),(10,.ptr 1 9 0 0),(11,.ptr 2 9 0 0),(13,.ptr 3 72 0 0),(14,.ptr 4 3 0 0)],_⟩:=fun _=>tail41 (U1:=U1) (px:=px) (pz:=pz) (B:=B) (C:=C) (m:=m) (p:=p) (jb:=jb) (b:=b) (u:=u) k2 (bentF_ok k3) c1 c2 c3 c4 c5 c6 o11
    have T:=T trivial
    by_cases h1:(Int.sign y.a.d.num)=(0:Int)
    · by_cases h2:(Int.sign y.b.d.num)=(0:Int)
      · refine p41_0_1 m p jb b px B pz C y U1 U2 U3 V1 V2 V3 h u v h1 h2 ⟨by first | exact legP_ok hh hu hv oe | exact legP_ok hh hu hv oe,by exact s1,by exact s2,by exact s3,by omega,by omega,by exact s4,by exact s5,by exact Ref.bool (decide_eq_false fun x=>absurd (sgn_num.2.1 x) (Rat.not_lt.2 k1)),by exact Ref.bool (decide_eq_false fun x=>absurd (sgn_num.2.1 x) (Rat.not_lt.2 k2)),by exact Ref.rfl'⟩ ?_
        exact Good.weakB (b:=⟨274,3,false,[[.q y.b.d V3]],none⟩) (el':=[.q y.b.d (U3+V3)]) 4 0 (by rfl) (by rfl) (RefC.q_eq rfl (by omega)) T
      · refine p41_0_0 m p jb b px B pz C y U1 U2 U3 V1 V2 V3 h u v h1 h2 ⟨by first | exact legP_ok hh hu hv oe | exact legP_ok hh hu hv oe,by exact s1,by exact s2,by exact s3,by omega,by omega,by exact s4,by exact s5,by exact Ref.bool (decide_eq_false fun x=>absurd (sgn_num.2.1 x) (Rat.not_lt.2 k1)),by exact Ref.bool (decide_eq_false fun x=>absurd (sgn_num.2.1 x) (Rat.not_lt.2 k2)),by omega,by exact Ref.bool (by rw[cmpQ_zero.2 (by first | rfl | exact k3.resolve_left fun e=>h1 (sgn_num.1.2 e))];rfl)⟩ ?_
        exact Good.weakB (b:=⟨274,3,false,[[.q y.b.d V3]],none⟩) (el':=[.q y.b.d (U3+V3)]) 4 0 (by rfl) (by rfl) (RefC.q_eq rfl (by omega)) T
    · have ed:y.a.d=y.b.d:=k3.resolve_left fun e=>h1 (sgn_num.1.2 e)
      by_cases h2:(Int.sign y.b.d.num)=(0:Int)
      · refine p41_0_3 m p jb b px B pz C y U1 U2 U3 V1 V2 V3 h u v h1 h2 ⟨by first | exact legP_ok hh hu hv oe | exact legP_ok hh hu hv oe,by exact s1,by exact s2,by exact s3,by omega,by omega,by exact s4,by exact s5,by exact Ref.bool (decide_eq_false fun x=>absurd (sgn_num.2.1 x) (Rat.not_lt.2 k1)),by exact Ref.bool (decide_eq_false fun x=>absurd (sgn_num.2.1 x) (Rat.not_lt.2 k2)),by exact Ref.rfl'⟩ ?_
        exact Good.weakB (b:=⟨274,3,false,[[.q y.a.d U3]],none⟩) (el':=[.q y.b.d (U3+V3)]) 4 0 (by rfl) (by rfl) (RefC.q_eq ed (by omega)) T
      · refine p41_0_2 m p jb b px B pz C y U1 U2 U3 V1 V2 V3 h u v h1 h2 ⟨by first | exact legP_ok hh hu hv oe | exact legP_ok hh hu hv oe,by exact s1,by exact s2,by exact s3,by omega,by omega,by exact s4,by exact s5,by exact Ref.bool (decide_eq_false fun x=>absurd (sgn_num.2.1 x) (Rat.not_lt.2 k1)),by exact Ref.bool (decide_eq_false fun x=>absurd (sgn_num.2.1 x) (Rat.not_lt.2 k2)),by omega,by exact Ref.bool (by rw[cmpQ_zero.2 (by first | rfl | exact k3.resolve_left fun e=>h1 (sgn_num.1.2 e))];rfl)⟩ ?_
        exact Good.weakB (b:=⟨274,3,false,[[.q y.a.d U3]],none⟩) (el':=[.q y.b.d (U3+V3)]) 4 0 (by rfl) (by rfl) (RefC.q_eq ed (by omega)) T
  · cases h
def KT43_ok:=(kn.cons a104).cons a21
theorem p43_1_3 {S0 C0:Nat → Prop} {w0:World} {Post:Value → World → Prop} (m:MachD) (p:PoseD) (jb i n:Nat) (t:Rat) (v:BodyD) (h1:¬ (((i:Nat):Int)<((n:Nat):Int)))
    (hg:Good Tryz.prog 43 S0 C0 w0 Post [.code .ret] ⟨slots 50 [(2,(AV.ptr 0 6 0 0)),(4,AV.nil),(5,(AV.int .i64 (0:Int))),(7,AV.nil),(18,(AV.list 3 (p.joints.map (unQ jb)))),(19,(AV.int .i64 ((n:Nat):Int))),(20,(AV.int .i64 ((i:Nat):Int)))],[some ⟨41,6,false,[[(AV.str m.name),(AV.list 27 (m.bodies.map (unBody 300))),(AV.list 17 (m.springs.map (unCordy 300))),(AV.list 17 (m.tendons.map (unCordy 300))),(AV.list 13 (m.motors.map (unMotor 300))),(AV.list 5 (m.feet.map (unFoot 300)))]],none⟩]⟩):
    Good Tryz.prog 43 S0 C0 w0 Post [.code (nav [1,1,1,0,1,0,0] (bodyOf Tryz.f43)),.inLoop (nav [1,1,1,0,1,0,0] (bodyOf Tryz.f43)),.inBlock 0,.code (nav [1,1,1,1] (bodyOf Tryz.f43))] ⟨slots 50 [(2,(AV.ptr 0 6 0 0)),(7,AV.nil),(18,(AV.list 3 (p.joints.map (unQ jb)))),(19,(AV.int .i64 ((n:Nat):Int))),(20,(AV.int .i64 ((i:Nat):Int)))],[some ⟨41,6,false,[[(AV.str m.name),(AV.list 27 (m.bodies.map (unBody 300))),(AV.list 17 (m.springs.map (unCordy 300))),(AV.list 17 (m.tendons.map (unCordy 300))),(AV.list 13 (m.motors.map (unMotor 300))),(AV.list 5 (m.feet.map (unFoot 300)))]],none⟩]⟩:=
  go mixed TT0_ok KT43_ok 12 none [2,4,5,7,18,19,20] [(21,(AV.bool false))] (ob:=[Ref (AV.bool (decide (((i:Nat):Int)<((n:Nat):Int)))) (.bool false)]) (by kernel_rfl)
    (.cons (Ref.bool (decide_eq_false h1)) (AllP.nil)) hg
theorem p43_2_3 {S0 C0:Nat → Prop} {w0:World} {Post:Value → World → Prop} (m:MachD) (p:PoseD) (jb i n:Nat) (t:Rat) (v:BodyD) (k:Nat) (A:List (List AV)) (h1:¬ (((i:Nat):Int)<((n:Nat):Int)))
    (hg:Good Tryz.prog 43 S0 C0 w0 Post [.code .ret] ⟨slots 50 [(2,(AV.ptr 0 6 0 0)),(4,(AV.own 1 1 0 k)),(5,(AV.int .i64 (0:Int))),(7,(AV.own 1 1 0 k)),(18,(AV.list 3 (p.joints.map (unQ jb)))),(19,(AV.int .i64 ((n:Nat):Int))),(20,(AV.int .i64 ((i:Nat):Int)))],[some ⟨41,6,false,[[(AV.str m.name),(AV.list 27 (m.bodies.map (unBody 300))),(AV.list 17 (m.springs.map (unCordy 300))),(AV.list 17 (m.tendons.map (unCordy 300))),(AV.list 13 (m.motors.map (unMotor 300))),(AV.list 5 (m.feet.map (unFoot 300)))]],none⟩,some ⟨3,1,true,A,none⟩]⟩):
    Good Tryz.prog 43 S0 C0 w0 Post [.code (nav [1,1,1,0,1,0,0] (bodyOf Tryz.f43)),.inLoop (nav [1,1,1,0,1,0,0] (bodyOf Tryz.f43)),.inBlock 0,.code (nav [1,1,1,1] (bodyOf Tryz.f43))] ⟨slots 50 [(2,(AV.ptr 0 6 0 0)),(7,(AV.own 1 1 0 k)),(18,(AV.list 3 (p.joints.map (unQ jb)))),(19,(AV.int .i64 ((n:Nat):Int))),(20,(AV.int .i64 ((i:Nat):Int)))],[some ⟨41,6,false,[[(AV.str m.name),(AV.list 27 (m.bodies.map (unBody 300))),(AV.list 17 (m.springs.map (unCordy 300))),(AV.list 17 (m.tendons.map (unCordy 300))),(AV.list 13 (m.motors.map (unMotor 300))),(AV.list 5 (m.feet.map (unFoot 300)))]],none⟩,some ⟨3,1,true,A,none⟩]⟩:=
  go mixed TT0_ok KT43_ok 12 none [2,4,5,7,18,19,20] [(21,(AV.bool false))] (ob:=[Ref (AV.bool (decide (((i:Nat):Int)<((n:Nat):Int)))) (.bool false)]) (by kernel_rfl)
    (.cons (Ref.bool (decide_eq_false h1)) (AllP.nil)) hg
theorem p43_1_0 {S0 C0:Nat → Prop} {w0:World} {Post:Value → World → Prop} (m:MachD) (p:PoseD) (jb i n:Nat) (t:Rat) (v:BodyD) (h1:((i:Nat):Int)<((n:Nat):Int)) (h2:(cmpQ t v.low)<(0:Int)) (o:(Ref (AV.cptr ((p.joints.map (unQ jb)).getD i []) 0) (AV.cptr [(AV.q t jb)] 0))∧(((i:Nat):Int)<(((p.joints.map (unQ jb)).length:Nat):Int))∧(-9223372036854775808≤((i:Nat):Int)+(1:Int)∧((i:Nat):Int)+(1:Int)≤9223372036854775807)∧(Ref (AV.cptr ((m.bodies.map (unBody 300)).getD (i+1) []) 0) (AV.cptr [(AV.str v.name),(AV.int .i64 v.par),(AV.q v.at_.x 300),(AV.q v.at_.z 300),(AV.q v.ma 300),(AV.q v.inr 300),(AV.q v.c.x 300),(AV.q v.c.z 300),(AV.q v.low 300),(AV.q v.high 300),(AV.list 6 (v.shape.map (unP 300)))] 0))∧(((i+1:Nat):Int)<(((m.bodies.map (unBody 300)).length:Nat):Int))∧(jb+300+200≤LIM)∧(1*8≤140737488355328)∧(1≤big))
    (hg:Good Tryz.prog 43 S0 C0 w0 Post [.code (nav [1,1,1,0,1,0,0] (bodyOf Tryz.f43)),.inLoop (nav [1,1,1,0,1,0,0] (bodyOf Tryz.f43)),.inBlock 0,.code (nav [1,1,1,1] (bodyOf Tryz.f43))] ⟨slots 50 [(2,(AV.ptr 0 6 0 0)),(7,(AV.own 1 1 0 1)),(18,(AV.list 3 (p.joints.map (unQ jb)))),(19,(AV.int .i64 ((n:Nat):Int))),(20,(AV.int .i64 ((i+1:Nat):Int)))],[some ⟨41,6,false,[[(AV.str m.name),(AV.list 27 (m.bodies.map (unBody 300))),(AV.list 17 (m.springs.map (unCordy 300))),(AV.list 17 (m.tendons.map (unCordy 300))),(AV.list 13 (m.motors.map (unMotor 300))),(AV.list 5 (m.feet.map (unFoot 300)))]],none⟩,some ⟨3,1,true,[[(AV.int .i64 ((i+1:Nat):Int))]],none⟩]⟩):
    Good Tryz.prog 43 S0 C0 w0 Post [.code (nav [1,1,1,0,1,0,0] (bodyOf Tryz.f43)),.inLoop (nav [1,1,1,0,1,0,0] (bodyOf Tryz.f43)),.inBlock 0,.code (nav [1,1,1,1] (bodyOf Tryz.f43))] ⟨slots 50 [(2,(AV.ptr 0 6 0 0)),(7,AV.nil),(18,(AV.list 3 (p.joints.map (unQ jb)))),(19,(AV.int .i64 ((n:Nat):Int))),(20,(AV.int .i64 ((i:Nat):Int)))],[some ⟨41,6,false,[[(AV.str m.name),(AV.list 27 (m.bodies.map (unBody 300))),(AV.list 17 (m.springs.map (unCordy 300))),(AV.list 17 (m.tendons.map (unCordy 300))),(AV.list 13 (m.motors.map (unMotor 300))),(AV.list 5 (m.feet.map (unFoot 300)))]],none⟩]⟩:=
  goR mixed TT0_ok KT43_ok 23 none [2,4,5,7,18,19,20] [0,6] [(21,(AV.bool true)),(23,(AV.cptr [(AV.q t jb)] 0)),(28,(AV.int .i64 ((i+1:Nat):Int))),(29,(AV.cptr [(AV.str v.name),(AV.int .i64 v.par),(AV.q v.at_.x 300),(AV.q v.at_.z 300),(AV.q v.ma 300),(AV.q v.inr 300),(AV.q v.c.x 300),(AV.q v.c.z 300),(AV.q v.low 300),(AV.q v.high 300),(AV.list 6 (v.shape.map (unP 300)))] 0)),(36,(AV.bool true)),(45,(AV.int .i64 ((i+1:Nat):Int))),(48,(AV.int .i64 ((i+1:Nat):Int)))] (ob:=[Ref (AV.bool (decide (((i:Nat):Int)<((n:Nat):Int)))) (.bool true),Ref (AV.cptr ((p.joints.map (unQ jb)).getD i []) 0) (AV.cptr [(AV.q t jb)] 0),0≤((i:Nat):Int),((i:Nat):Int)<(((p.joints.map (unQ jb)).length:Nat):Int),Ref (AV.int .i64 (IntKind.i64.wrap (((i:Nat):Int)+(1:Int)))) (AV.int .i64 ((i+1:Nat):Int)),Ref (AV.cptr ((m.bodies.map (unBody 300)).getD (i+1) []) 0) (AV.cptr [(AV.str v.name),(AV.int .i64 v.par),(AV.q v.at_.x 300),(AV.q v.at_.z 300),(AV.q v.ma 300),(AV.q v.inr 300),(AV.q v.c.x 300),(AV.q v.c.z 300),(AV.q v.low 300),(AV.q v.high 300),(AV.list 6 (v.shape.map (unP 300)))] 0),0≤((i+1:Nat):Int),((i+1:Nat):Int)<(((m.bodies.map (unBody 300)).length:Nat):Int),jb+300+200≤LIM,Ref (AV.bool (decide ((cmpQ t v.low)<(0:Int)))) (.bool true),Ref (AV.int .i64 (IntKind.i64.wrap (((i:Nat):Int)+(1:Int)))) (AV.int .i64 ((i+1:Nat):Int)),1=1,0<1,1*8≤140737488355328,1≤big,Ref (AV.int .i64 (IntKind.i64.wrap (((i:Nat):Int)+(1:Int)))) (AV.int .i64 ((i+1:Nat):Int))]) (by decide) (by kernel_rfl)
    (.cons (Ref.bool (decide_eq_true h1)) (.cons (o.1) (.cons (Int.natCast_nonneg _) (.cons (o.2.1) (.cons ((Ref.wr o.2.2.1).trans (Ref.int (by first | rfl | omega | simp))) (.cons (o.2.2.2.1) (.cons (Int.natCast_nonneg _) (.cons (o.2.2.2.2.1) (.cons (o.2.2.2.2.2.1) (.cons (Ref.bool (decide_eq_true h2)) (.cons ((Ref.wr o.2.2.1).trans (Ref.int (by first | rfl | omega | simp))) (.cons (rfl) (.cons (by decide) (.cons (o.2.2.2.2.2.2.1) (.cons (o.2.2.2.2.2.2.2) (.cons ((Ref.wr o.2.2.1).trans (Ref.int (by first | rfl | omega | simp))) (AllP.nil))))))))))))))))) hg
theorem p43_1_1 {S0 C0:Nat → Prop} {w0:World} {Post:Value → World → Prop} (m:MachD) (p:PoseD) (jb i n:Nat) (t:Rat) (v:BodyD) (h1:((i:Nat):Int)<((n:Nat):Int)) (h2:¬ ((cmpQ t v.low)<(0:Int))) (h3:(0:Int)<(cmpQ t v.high)) (o:(Ref (AV.cptr ((p.joints.map (unQ jb)).getD i []) 0) (AV.cptr [(AV.q t jb)] 0))∧(((i:Nat):Int)<(((p.joints.map (unQ jb)).length:Nat):Int))∧(-9223372036854775808≤((i:Nat):Int)+(1:Int)∧((i:Nat):Int)+(1:Int)≤9223372036854775807)∧(Ref (AV.cptr ((m.bodies.map (unBody 300)).getD (i+1) []) 0) (AV.cptr [(AV.str v.name),(AV.int .i64 v.par),(AV.q v.at_.x 300),(AV.q v.at_.z 300),(AV.q v.ma 300),(AV.q v.inr 300),(AV.q v.c.x 300),(AV.q v.c.z 300),(AV.q v.low 300),(AV.q v.high 300),(AV.list 6 (v.shape.map (unP 300)))] 0))∧(((i+1:Nat):Int)<(((m.bodies.map (unBody 300)).length:Nat):Int))∧(jb+300+200≤LIM)∧(1*8≤140737488355328)∧(1≤big))
    (hg:Good Tryz.prog 43 S0 C0 w0 Post [.code (nav [1,1,1,0,1,0,0] (bodyOf Tryz.f43)),.inLoop (nav [1,1,1,0,1,0,0] (bodyOf Tryz.f43)),.inBlock 0,.code (nav [1,1,1,1] (bodyOf Tryz.f43))] ⟨slots 50 [(2,(AV.ptr 0 6 0 0)),(7,(AV.own 1 1 0 1)),(18,(AV.list 3 (p.joints.map (unQ jb)))),(19,(AV.int .i64 ((n:Nat):Int))),(20,(AV.int .i64 ((i+1:Nat):Int)))],[some ⟨41,6,false,[[(AV.str m.name),(AV.list 27 (m.bodies.map (unBody 300))),(AV.list 17 (m.springs.map (unCordy 300))),(AV.list 17 (m.tendons.map (unCordy 300))),(AV.list 13 (m.motors.map (unMotor 300))),(AV.list 5 (m.feet.map (unFoot 300)))]],none⟩,some ⟨3,1,true,[[(AV.int .i64 ((i+1:Nat):Int))]],none⟩]⟩):
    Good Tryz.prog 43 S0 C0 w0 Post [.code (nav [1,1,1,0,1,0,0] (bodyOf Tryz.f43)),.inLoop (nav [1,1,1,0,1,0,0] (bodyOf Tryz.f43)),.inBlock 0,.code (nav [1,1,1,1] (bodyOf Tryz.f43))] ⟨slots 50 [(2,(AV.ptr 0 6 0 0)),(7,AV.nil),(18,(AV.list 3 (p.joints.map (unQ jb)))),(19,(AV.int .i64 ((n:Nat):Int))),(20,(AV.int .i64 ((i:Nat):Int)))],[some ⟨41,6,false,[[(AV.str m.name),(AV.list 27 (m.bodies.map (unBody 300))),(AV.list 17 (m.springs.map (unCordy 300))),(AV.list 17 (m.tendons.map (unCordy 300))),(AV.list 13 (m.motors.map (unMotor 300))),(AV.list 5 (m.feet.map (unFoot 300)))]],none⟩]⟩:=
  goR mixed TT0_ok KT43_ok 23 none [2,4,5,7,18,19,20] [0,6] [(21,(AV.bool true)),(23,(AV.cptr [(AV.q t jb)] 0)),(28,(AV.int .i64 ((i+1:Nat):Int))),(29,(AV.cptr [(AV.str v.name),(AV.int .i64 v.par),(AV.q v.at_.x 300),(AV.q v.at_.z 300),(AV.q v.ma 300),(AV.q v.inr 300),(AV.q v.c.x 300),(AV.q v.c.z 300),(AV.q v.low 300),(AV.q v.high 300),(AV.list 6 (v.shape.map (unP 300)))] 0)),(36,(AV.bool false)),(42,(AV.bool true)),(45,(AV.int .i64 ((i+1:Nat):Int))),(48,(AV.int .i64 ((i+1:Nat):Int)))] (ob:=[Ref (AV.bool (decide (((i:Nat):Int)<((n:Nat):Int)))) (.bool true),Ref (AV.cptr ((p.joints.map (unQ jb)).getD i []) 0) (AV.cptr [(AV.q t jb)] 0),0≤((i:Nat):Int),((i:Nat):Int)<(((p.joints.map (unQ jb)).length:Nat):Int),Ref (AV.int .i64 (IntKind.i64.wrap (((i:Nat):Int)+(1:Int)))) (AV.int .i64 ((i+1:Nat):Int)),Ref (AV.cptr ((m.bodies.map (unBody 300)).getD (i+1) []) 0) (AV.cptr [(AV.str v.name),(AV.int .i64 v.par),(AV.q v.at_.x 300),(AV.q v.at_.z 300),(AV.q v.ma 300),(AV.q v.inr 300),(AV.q v.c.x 300),(AV.q v.c.z 300),(AV.q v.low 300),(AV.q v.high 300),(AV.list 6 (v.shape.map (unP 300)))] 0),0≤((i+1:Nat):Int),((i+1:Nat):Int)<(((m.bodies.map (unBody 300)).length:Nat):Int),jb+300+200≤LIM,Ref (AV.bool (decide ((cmpQ t v.low)<(0:Int)))) (.bool false),jb+300+200≤LIM,Ref (AV.bool (decide ((0:Int)<(cmpQ t v.high)))) (.bool true),Ref (AV.int .i64 (IntKind.i64.wrap (((i:Nat):Int)+(1:Int)))) (AV.int .i64 ((i+1:Nat):Int)),1=1,0<1,1*8≤140737488355328,1≤big,Ref (AV.int .i64 (IntKind.i64.wrap (((i:Nat):Int)+(1:Int)))) (AV.int .i64 ((i+1:Nat):Int))]) (by decide) (by kernel_rfl)
    (.cons (Ref.bool (decide_eq_true h1)) (.cons (o.1) (.cons (Int.natCast_nonneg _) (.cons (o.2.1) (.cons ((Ref.wr o.2.2.1).trans (Ref.int (by first | rfl | omega | simp))) (.cons (o.2.2.2.1) (.cons (Int.natCast_nonneg _) (.cons (o.2.2.2.2.1) (.cons (o.2.2.2.2.2.1) (.cons (Ref.bool (decide_eq_false h2)) (.cons (o.2.2.2.2.2.1) (.cons (Ref.bool (decide_eq_true h3)) (.cons ((Ref.wr o.2.2.1).trans (Ref.int (by first | rfl | omega | simp))) (.cons (rfl) (.cons (by decide) (.cons (o.2.2.2.2.2.2.1) (.cons (o.2.2.2.2.2.2.2) (.cons ((Ref.wr o.2.2.1).trans (Ref.int (by first | rfl | omega | simp))) (AllP.nil))))))))))))))))))) hg
theorem p43_1_2 {S0 C0:Nat → Prop} {w0:World} {Post:Value → World → Prop} (m:MachD) (p:PoseD) (jb i n:Nat) (t:Rat) (v:BodyD) (h1:((i:Nat):Int)<((n:Nat):Int)) (h2:¬ ((cmpQ t v.low)<(0:Int))) (h3:¬ ((0:Int)<(cmpQ t v.high))) (o:(Ref (AV.cptr ((p.joints.map (unQ jb)).getD i []) 0) (AV.cptr [(AV.q t jb)] 0))∧(((i:Nat):Int)<(((p.joints.map (unQ jb)).length:Nat):Int))∧(-9223372036854775808≤((i:Nat):Int)+(1:Int)∧((i:Nat):Int)+(1:Int)≤9223372036854775807)∧(Ref (AV.cptr ((m.bodies.map (unBody 300)).getD (i+1) []) 0) (AV.cptr [(AV.str v.name),(AV.int .i64 v.par),(AV.q v.at_.x 300),(AV.q v.at_.z 300),(AV.q v.ma 300),(AV.q v.inr 300),(AV.q v.c.x 300),(AV.q v.c.z 300),(AV.q v.low 300),(AV.q v.high 300),(AV.list 6 (v.shape.map (unP 300)))] 0))∧(((i+1:Nat):Int)<(((m.bodies.map (unBody 300)).length:Nat):Int))∧(jb+300+200≤LIM))
    (hg:Good Tryz.prog 43 S0 C0 w0 Post [.code (nav [1,1,1,0,1,0,0] (bodyOf Tryz.f43)),.inLoop (nav [1,1,1,0,1,0,0] (bodyOf Tryz.f43)),.inBlock 0,.code (nav [1,1,1,1] (bodyOf Tryz.f43))] ⟨slots 50 [(2,(AV.ptr 0 6 0 0)),(7,AV.nil),(18,(AV.list 3 (p.joints.map (unQ jb)))),(19,(AV.int .i64 ((n:Nat):Int))),(20,(AV.int .i64 ((i+1:Nat):Int)))],[some ⟨41,6,false,[[(AV.str m.name),(AV.list 27 (m.bodies.map (unBody 300))),(AV.list 17 (m.springs.map (unCordy 300))),(AV.list 17 (m.tendons.map (unCordy 300))),(AV.list 13 (m.motors.map (unMotor 300))),(AV.list 5 (m.feet.map (unFoot 300)))]],none⟩]⟩):
    Good Tryz.prog 43 S0 C0 w0 Post [.code (nav [1,1,1,0,1,0,0] (bodyOf Tryz.f43)),.inLoop (nav [1,1,1,0,1,0,0] (bodyOf Tryz.f43)),.inBlock 0,.code (nav [1,1,1,1] (bodyOf Tryz.f43))] ⟨slots 50 [(2,(AV.ptr 0 6 0 0)),(7,AV.nil),(18,(AV.list 3 (p.joints.map (unQ jb)))),(19,(AV.int .i64 ((n:Nat):Int))),(20,(AV.int .i64 ((i:Nat):Int)))],[some ⟨41,6,false,[[(AV.str m.name),(AV.list 27 (m.bodies.map (unBody 300))),(AV.list 17 (m.springs.map (unCordy 300))),(AV.list 17 (m.tendons.map (unCordy 300))),(AV.list 13 (m.motors.map (unMotor 300))),(AV.list 5 (m.feet.map (unFoot 300)))]],none⟩]⟩:=
  goR mixed TT0_ok KT43_ok 23 none [2,4,5,7,18,19,20] [0] [(21,(AV.bool true)),(23,(AV.cptr [(AV.q t jb)] 0)),(28,(AV.int .i64 ((i+1:Nat):Int))),(29,(AV.cptr [(AV.str v.name),(AV.int .i64 v.par),(AV.q v.at_.x 300),(AV.q v.at_.z 300),(AV.q v.ma 300),(AV.q v.inr 300),(AV.q v.c.x 300),(AV.q v.c.z 300),(AV.q v.low 300),(AV.q v.high 300),(AV.list 6 (v.shape.map (unP 300)))] 0)),(36,(AV.bool false)),(42,(AV.bool false)),(48,(AV.int .i64 ((i+1:Nat):Int)))] (ob:=[Ref (AV.bool (decide (((i:Nat):Int)<((n:Nat):Int)))) (.bool true),Ref (AV.cptr ((p.joints.map (unQ jb)).getD i []) 0) (AV.cptr [(AV.q t jb)] 0),0≤((i:Nat):Int),((i:Nat):Int)<(((p.joints.map (unQ jb)).length:Nat):Int),Ref (AV.int .i64 (IntKind.i64.wrap (((i:Nat):Int)+(1:Int)))) (AV.int .i64 ((i+1:Nat):Int)),Ref (AV.cptr ((m.bodies.map (unBody 300)).getD (i+1) []) 0) (AV.cptr [(AV.str v.name),(AV.int .i64 v.par),(AV.q v.at_.x 300),(AV.q v.at_.z 300),(AV.q v.ma 300),(AV.q v.inr 300),(AV.q v.c.x 300),(AV.q v.c.z 300),(AV.q v.low 300),(AV.q v.high 300),(AV.list 6 (v.shape.map (unP 300)))] 0),0≤((i+1:Nat):Int),((i+1:Nat):Int)<(((m.bodies.map (unBody 300)).length:Nat):Int),jb+300+200≤LIM,Ref (AV.bool (decide ((cmpQ t v.low)<(0:Int)))) (.bool false),jb+300+200≤LIM,Ref (AV.bool (decide ((0:Int)<(cmpQ t v.high)))) (.bool false),Ref (AV.int .i64 (IntKind.i64.wrap (((i:Nat):Int)+(1:Int)))) (AV.int .i64 ((i+1:Nat):Int))]) (by decide) (by kernel_rfl)
    (.cons (Ref.bool (decide_eq_true h1)) (.cons (o.1) (.cons (Int.natCast_nonneg _) (.cons (o.2.1) (.cons ((Ref.wr o.2.2.1).trans (Ref.int (by first | rfl | omega | simp))) (.cons (o.2.2.2.1) (.cons (Int.natCast_nonneg _) (.cons (o.2.2.2.2.1) (.cons (o.2.2.2.2.2) (.cons (Ref.bool (decide_eq_false h2)) (.cons (o.2.2.2.2.2) (.cons (Ref.bool (decide_eq_false h3)) (.cons ((Ref.wr o.2.2.1).trans (Ref.int (by first | rfl | omega | simp))) (AllP.nil)))))))))))))) hg
theorem p43_2_0 {S0 C0:Nat → Prop} {w0:World} {Post:Value → World → Prop} (m:MachD) (p:PoseD) (jb i n:Nat) (t:Rat) (v:BodyD) (k:Nat) (A:List (List AV)) (h1:((i:Nat):Int)<((n:Nat):Int)) (h2:(cmpQ t v.low)<(0:Int)) (o:(Ref (AV.cptr ((p.joints.map (unQ jb)).getD i []) 0) (AV.cptr [(AV.q t jb)] 0))∧(((i:Nat):Int)<(((p.joints.map (unQ jb)).length:Nat):Int))∧(-9223372036854775808≤((i:Nat):Int)+(1:Int)∧((i:Nat):Int)+(1:Int)≤9223372036854775807)∧(Ref (AV.cptr ((m.bodies.map (unBody 300)).getD (i+1) []) 0) (AV.cptr [(AV.str v.name),(AV.int .i64 v.par),(AV.q v.at_.x 300),(AV.q v.at_.z 300),(AV.q v.ma 300),(AV.q v.inr 300),(AV.q v.c.x 300),(AV.q v.c.z 300),(AV.q v.low 300),(AV.q v.high 300),(AV.list 6 (v.shape.map (unP 300)))] 0))∧(((i+1:Nat):Int)<(((m.bodies.map (unBody 300)).length:Nat):Int))∧(jb+300+200≤LIM)∧(k=A.length)∧((k+1)*8≤140737488355328)∧(k+1≤big))
    (hg:Good Tryz.prog 43 S0 C0 w0 Post [.code (nav [1,1,1,0,1,0,0] (bodyOf Tryz.f43)),.inLoop (nav [1,1,1,0,1,0,0] (bodyOf Tryz.f43)),.inBlock 0,.code (nav [1,1,1,1] (bodyOf Tryz.f43))] ⟨slots 50 [(2,(AV.ptr 0 6 0 0)),(7,(AV.own 1 1 0 (k+1))),(18,(AV.list 3 (p.joints.map (unQ jb)))),(19,(AV.int .i64 ((n:Nat):Int))),(20,(AV.int .i64 ((i+1:Nat):Int)))],[some ⟨41,6,false,[[(AV.str m.name),(AV.list 27 (m.bodies.map (unBody 300))),(AV.list 17 (m.springs.map (unCordy 300))),(AV.list 17 (m.tendons.map (unCordy 300))),(AV.list 13 (m.motors.map (unMotor 300))),(AV.list 5 (m.feet.map (unFoot 300)))]],none⟩,some ⟨3,1,true,(A++ [[(AV.int .i64 ((i+1:Nat):Int))]]),none⟩]⟩):
    Good Tryz.prog 43 S0 C0 w0 Post [.code (nav [1,1,1,0,1,0,0] (bodyOf Tryz.f43)),.inLoop (nav [1,1,1,0,1,0,0] (bodyOf Tryz.f43)),.inBlock 0,.code (nav [1,1,1,1] (bodyOf Tryz.f43))] ⟨slots 50 [(2,(AV.ptr 0 6 0 0)),(7,(AV.own 1 1 0 k)),(18,(AV.list 3 (p.joints.map (unQ jb)))),(19,(AV.int .i64 ((n:Nat):Int))),(20,(AV.int .i64 ((i:Nat):Int)))],[some ⟨41,6,false,[[(AV.str m.name),(AV.list 27 (m.bodies.map (unBody 300))),(AV.list 17 (m.springs.map (unCordy 300))),(AV.list 17 (m.tendons.map (unCordy 300))),(AV.list 13 (m.motors.map (unMotor 300))),(AV.list 5 (m.feet.map (unFoot 300)))]],none⟩,some ⟨3,1,true,A,none⟩]⟩:=
  goR mixed TT0_ok KT43_ok 23 none [2,4,5,7,18,19,20] [0,7] [(21,(AV.bool true)),(23,(AV.cptr [(AV.q t jb)] 0)),(28,(AV.int .i64 ((i+1:Nat):Int))),(29,(AV.cptr [(AV.str v.name),(AV.int .i64 v.par),(AV.q v.at_.x 300),(AV.q v.at_.z 300),(AV.q v.ma 300),(AV.q v.inr 300),(AV.q v.c.x 300),(AV.q v.c.z 300),(AV.q v.low 300),(AV.q v.high 300),(AV.list 6 (v.shape.map (unP 300)))] 0)),(36,(AV.bool true)),(45,(AV.int .i64 ((i+1:Nat):Int))),(48,(AV.int .i64 ((i+1:Nat):Int)))] (ob:=[Ref (AV.bool (decide (((i:Nat):Int)<((n:Nat):Int)))) (.bool true),Ref (AV.cptr ((p.joints.map (unQ jb)).getD i []) 0) (AV.cptr [(AV.q t jb)] 0),0≤((i:Nat):Int),((i:Nat):Int)<(((p.joints.map (unQ jb)).length:Nat):Int),Ref (AV.int .i64 (IntKind.i64.wrap (((i:Nat):Int)+(1:Int)))) (AV.int .i64 ((i+1:Nat):Int)),Ref (AV.cptr ((m.bodies.map (unBody 300)).getD (i+1) []) 0) (AV.cptr [(AV.str v.name),(AV.int .i64 v.par),(AV.q v.at_.x 300),(AV.q v.at_.z 300),(AV.q v.ma 300),(AV.q v.inr 300),(AV.q v.c.x 300),(AV.q v.c.z 300),(AV.q v.low 300),(AV.q v.high 300),(AV.list 6 (v.shape.map (unP 300)))] 0),0≤((i+1:Nat):Int),((i+1:Nat):Int)<(((m.bodies.map (unBody 300)).length:Nat):Int),jb+300+200≤LIM,Ref (AV.bool (decide ((cmpQ t v.low)<(0:Int)))) (.bool true),Ref (AV.int .i64 (IntKind.i64.wrap (((i:Nat):Int)+(1:Int)))) (AV.int .i64 ((i+1:Nat):Int)),1=1,k=A.length,(k+1)*8≤140737488355328,k+1≤big,Ref (AV.int .i64 (IntKind.i64.wrap (((i:Nat):Int)+(1:Int)))) (AV.int .i64 ((i+1:Nat):Int))]) (by decide) (by kernel_rfl)
    (.cons (Ref.bool (decide_eq_true h1)) (.cons (o.1) (.cons (Int.natCast_nonneg _) (.cons (o.2.1) (.cons ((Ref.wr o.2.2.1).trans (Ref.int (by first | rfl | omega | simp))) (.cons (o.2.2.2.1) (.cons (Int.natCast_nonneg _) (.cons (o.2.2.2.2.1) (.cons (o.2.2.2.2.2.1) (.cons (Ref.bool (decide_eq_true h2)) (.cons ((Ref.wr o.2.2.1).trans (Ref.int (by first | rfl | omega | simp))) (.cons (rfl) (.cons (o.2.2.2.2.2.2.1) (.cons (o.2.2.2.2.2.2.2.1) (.cons (o.2.2.2.2.2.2.2.2) (.cons ((Ref.wr o.2.2.1).trans (Ref.int (by first | rfl | omega | simp))) (AllP.nil))))))))))))))))) hg
theorem p43_2_1 {S0 C0:Nat → Prop} {w0:World} {Post:Value → World → Prop} (m:MachD) (p:PoseD) (jb i n:Nat) (t:Rat) (v:BodyD) (k:Nat) (A:List (List AV)) (h1:((i:Nat):Int)<((n:Nat):Int)) (h2:¬ ((cmpQ t v.low)<(0:Int))) (h3:(0:Int)<(cmpQ t v.high)) (o:(Ref (AV.cptr ((p.joints.map (unQ jb)).getD i []) 0) (AV.cptr [(AV.q t jb)] 0))∧(((i:Nat):Int)<(((p.joints.map (unQ jb)).length:Nat):Int))∧(-9223372036854775808≤((i:Nat):Int)+(1:Int)∧((i:Nat):Int)+(1:Int)≤9223372036854775807)∧(Ref (AV.cptr ((m.bodies.map (unBody 300)).getD (i+1) []) 0) (AV.cptr [(AV.str v.name),(AV.int .i64 v.par),(AV.q v.at_.x 300),(AV.q v.at_.z 300),(AV.q v.ma 300),(AV.q v.inr 300),(AV.q v.c.x 300),(AV.q v.c.z 300),(AV.q v.low 300),(AV.q v.high 300),(AV.list 6 (v.shape.map (unP 300)))] 0))∧(((i+1:Nat):Int)<(((m.bodies.map (unBody 300)).length:Nat):Int))∧(jb+300+200≤LIM)∧(k=A.length)∧((k+1)*8≤140737488355328)∧(k+1≤big))
    (hg:Good Tryz.prog 43 S0 C0 w0 Post [.code (nav [1,1,1,0,1,0,0] (bodyOf Tryz.f43)),.inLoop (nav [1,1,1,0,1,0,0] (bodyOf Tryz.f43)),.inBlock 0,.code (nav [1,1,1,1] (bodyOf Tryz.f43))] ⟨slots 50 [(2,(AV.ptr 0 6 0 0)),(7,(AV.own 1 1 0 (k+1))),(18,(AV.list 3 (p.joints.map (unQ jb)))),(19,(AV.int .i64 ((n:Nat):Int))),(20,(AV.int .i64 ((i+1:Nat):Int)))],[some ⟨41,6,false,[[(AV.str m.name),(AV.list 27 (m.bodies.map (unBody 300))),(AV.list 17 (m.springs.map (unCordy 300))),(AV.list 17 (m.tendons.map (unCordy 300))),(AV.list 13 (m.motors.map (unMotor 300))),(AV.list 5 (m.feet.map (unFoot 300)))]],none⟩,some ⟨3,1,true,(A++ [[(AV.int .i64 ((i+1:Nat):Int))]]),none⟩]⟩):
    Good Tryz.prog 43 S0 C0 w0 Post [.code (nav [1,1,1,0,1,0,0] (bodyOf Tryz.f43)),.inLoop (nav [1,1,1,0,1,0,0] (bodyOf Tryz.f43)),.inBlock 0,.code (nav [1,1,1,1] (bodyOf Tryz.f43))] ⟨slots 50 [(2,(AV.ptr 0 6 0 0)),(7,(AV.own 1 1 0 k)),(18,(AV.list 3 (p.joints.map (unQ jb)))),(19,(AV.int .i64 ((n:Nat):Int))),(20,(AV.int .i64 ((i:Nat):Int)))],[some ⟨41,6,false,[[(AV.str m.name),(AV.list 27 (m.bodies.map (unBody 300))),(AV.list 17 (m.springs.map (unCordy 300))),(AV.list 17 (m.tendons.map (unCordy 300))),(AV.list 13 (m.motors.map (unMotor 300))),(AV.list 5 (m.feet.map (unFoot 300)))]],none⟩,some ⟨3,1,true,A,none⟩]⟩:=
  goR mixed TT0_ok KT43_ok 23 none [2,4,5,7,18,19,20] [0,7] [(21,(AV.bool true)),(23,(AV.cptr [(AV.q t jb)] 0)),(28,(AV.int .i64 ((i+1:Nat):Int))),(29,(AV.cptr [(AV.str v.name),(AV.int .i64 v.par),(AV.q v.at_.x 300),(AV.q v.at_.z 300),(AV.q v.ma 300),(AV.q v.inr 300),(AV.q v.c.x 300),(AV.q v.c.z 300),(AV.q v.low 300),(AV.q v.high 300),(AV.list 6 (v.shape.map (unP 300)))] 0)),(36,(AV.bool false)),(42,(AV.bool true)),(45,(AV.int .i64 ((i+1:Nat):Int))),(48,(AV.int .i64 ((i+1:Nat):Int)))] (ob:=[Ref (AV.bool (decide (((i:Nat):Int)<((n:Nat):Int)))) (.bool true),Ref (AV.cptr ((p.joints.map (unQ jb)).getD i []) 0) (AV.cptr [(AV.q t jb)] 0),0≤((i:Nat):Int),((i:Nat):Int)<(((p.joints.map (unQ jb)).length:Nat):Int),Ref (AV.int .i64 (IntKind.i64.wrap (((i:Nat):Int)+(1:Int)))) (AV.int .i64 ((i+1:Nat):Int)),Ref (AV.cptr ((m.bodies.map (unBody 300)).getD (i+1) []) 0) (AV.cptr [(AV.str v.name),(AV.int .i64 v.par),(AV.q v.at_.x 300),(AV.q v.at_.z 300),(AV.q v.ma 300),(AV.q v.inr 300),(AV.q v.c.x 300),(AV.q v.c.z 300),(AV.q v.low 300),(AV.q v.high 300),(AV.list 6 (v.shape.map (unP 300)))] 0),0≤((i+1:Nat):Int),((i+1:Nat):Int)<(((m.bodies.map (unBody 300)).length:Nat):Int),jb+300+200≤LIM,Ref (AV.bool (decide ((cmpQ t v.low)<(0:Int)))) (.bool false),jb+300+200≤LIM,Ref (AV.bool (decide ((0:Int)<(cmpQ t v.high)))) (.bool true),Ref (AV.int .i64 (IntKind.i64.wrap (((i:Nat):Int)+(1:Int)))) (AV.int .i64 ((i+1:Nat):Int)),1=1,k=A.length,(k+1)*8≤140737488355328,k+1≤big,Ref (AV.int .i64 (IntKind.i64.wrap (((i:Nat):Int)+(1:Int)))) (AV.int .i64 ((i+1:Nat):Int))]) (by decide) (by kernel_rfl)
    (.cons (Ref.bool (decide_eq_true h1)) (.cons (o.1) (.cons (Int.natCast_nonneg _) (.cons (o.2.1) (.cons ((Ref.wr o.2.2.1).trans (Ref.int (by first | rfl | omega | simp))) (.cons (o.2.2.2.1) (.cons (Int.natCast_nonneg _) (.cons (o.2.2.2.2.1) (.cons (o.2.2.2.2.2.1) (.cons (Ref.bool (decide_eq_false h2)) (.cons (o.2.2.2.2.2.1) (.cons (Ref.bool (decide_eq_true h3)) (.cons ((Ref.wr o.2.2.1).trans (Ref.int (by first | rfl | omega | simp))) (.cons (rfl) (.cons (o.2.2.2.2.2.2.1) (.cons (o.2.2.2.2.2.2.2.1) (.cons (o.2.2.2.2.2.2.2.2) (.cons ((Ref.wr o.2.2.1).trans (Ref.int (by first | rfl | omega | simp))) (AllP.nil))))))))))))))))))) hg
theorem p43_2_2 {S0 C0:Nat → Prop} {w0:World} {Post:Value → World → Prop} (m:MachD) (p:PoseD) (jb i n:Nat) (t:Rat) (v:BodyD) (k:Nat) (A:List (List AV)) (h1:((i:Nat):Int)<((n:Nat):Int)) (h2:¬ ((cmpQ t v.low)<(0:Int))) (h3:¬ ((0:Int)<(cmpQ t v.high))) (o:(Ref (AV.cptr ((p.joints.map (unQ jb)).getD i []) 0) (AV.cptr [(AV.q t jb)] 0))∧(((i:Nat):Int)<(((p.joints.map (unQ jb)).length:Nat):Int))∧(-9223372036854775808≤((i:Nat):Int)+(1:Int)∧((i:Nat):Int)+(1:Int)≤9223372036854775807)∧(Ref (AV.cptr ((m.bodies.map (unBody 300)).getD (i+1) []) 0) (AV.cptr [(AV.str v.name),(AV.int .i64 v.par),(AV.q v.at_.x 300),(AV.q v.at_.z 300),(AV.q v.ma 300),(AV.q v.inr 300),(AV.q v.c.x 300),(AV.q v.c.z 300),(AV.q v.low 300),(AV.q v.high 300),(AV.list 6 (v.shape.map (unP 300)))] 0))∧(((i+1:Nat):Int)<(((m.bodies.map (unBody 300)).length:Nat):Int))∧(jb+300+200≤LIM))
    (hg:Good Tryz.prog 43 S0 C0 w0 Post [.code (nav [1,1,1,0,1,0,0] (bodyOf Tryz.f43)),.inLoop (nav [1,1,1,0,1,0,0] (bodyOf Tryz.f43)),.inBlock 0,.code (nav [1,1,1,1] (bodyOf Tryz.f43))] ⟨slots 50 [(2,(AV.ptr 0 6 0 0)),(7,(AV.own 1 1 0 k)),(18,(AV.list 3 (p.joints.map (unQ jb)))),(19,(AV.int .i64 ((n:Nat):Int))),(20,(AV.int .i64 ((i+1:Nat):Int)))],[some ⟨41,6,false,[[(AV.str m.name),(AV.list 27 (m.bodies.map (unBody 300))),(AV.list 17 (m.springs.map (unCordy 300))),(AV.list 17 (m.tendons.map (unCordy 300))),(AV.list 13 (m.motors.map (unMotor 300))),(AV.list 5 (m.feet.map (unFoot 300)))]],none⟩,some ⟨3,1,true,A,none⟩]⟩):
    Good Tryz.prog 43 S0 C0 w0 Post [.code (nav [1,1,1,0,1,0,0] (bodyOf Tryz.f43)),.inLoop (nav [1,1,1,0,1,0,0] (bodyOf Tryz.f43)),.inBlock 0,.code (nav [1,1,1,1] (bodyOf Tryz.f43))] ⟨slots 50 [(2,(AV.ptr 0 6 0 0)),(7,(AV.own 1 1 0 k)),(18,(AV.list 3 (p.joints.map (unQ jb)))),(19,(AV.int .i64 ((n:Nat):Int))),(20,(AV.int .i64 ((i:Nat):Int)))],[some ⟨41,6,false,[[(AV.str m.name),(AV.list 27 (m.bodies.map (unBody 300))),(AV.list 17 (m.springs.map (unCordy 300))),(AV.list 17 (m.tendons.map (unCordy 300))),(AV.list 13 (m.motors.map (unMotor 300))),(AV.list 5 (m.feet.map (unFoot 300)))]],none⟩,some ⟨3,1,true,A,none⟩]⟩:=
  goR mixed TT0_ok KT43_ok 23 none [2,4,5,7,18,19,20] [0,1] [(21,(AV.bool true)),(23,(AV.cptr [(AV.q t jb)] 0)),(28,(AV.int .i64 ((i+1:Nat):Int))),(29,(AV.cptr [(AV.str v.name),(AV.int .i64 v.par),(AV.q v.at_.x 300),(AV.q v.at_.z 300),(AV.q v.ma 300),(AV.q v.inr 300),(AV.q v.c.x 300),(AV.q v.c.z 300),(AV.q v.low 300),(AV.q v.high 300),(AV.list 6 (v.shape.map (unP 300)))] 0)),(36,(AV.bool false)),(42,(AV.bool false)),(48,(AV.int .i64 ((i+1:Nat):Int)))] (ob:=[Ref (AV.bool (decide (((i:Nat):Int)<((n:Nat):Int)))) (.bool true),Ref (AV.cptr ((p.joints.map (unQ jb)).getD i []) 0) (AV.cptr [(AV.q t jb)] 0),0≤((i:Nat):Int),((i:Nat):Int)<(((p.joints.map (unQ jb)).length:Nat):Int),Ref (AV.int .i64 (IntKind.i64.wrap (((i:Nat):Int)+(1:Int)))) (AV.int .i64 ((i+1:Nat):Int)),Ref (AV.cptr ((m.bodies.map (unBody 300)).getD (i+1) []) 0) (AV.cptr [(AV.str v.name),(AV.int .i64 v.par),(AV.q v.at_.x 300),(AV.q v.at_.z 300),(AV.q v.ma 300),(AV.q v.inr 300),(AV.q v.c.x 300),(AV.q v.c.z 300),(AV.q v.low 300),(AV.q v.high 300),(AV.list 6 (v.shape.map (unP 300)))] 0),0≤((i+1:Nat):Int),((i+1:Nat):Int)<(((m.bodies.map (unBody 300)).length:Nat):Int),jb+300+200≤LIM,Ref (AV.bool (decide ((cmpQ t v.low)<(0:Int)))) (.bool false),jb+300+200≤LIM,Ref (AV.bool (decide ((0:Int)<(cmpQ t v.high)))) (.bool false),Ref (AV.int .i64 (IntKind.i64.wrap (((i:Nat):Int)+(1:Int)))) (AV.int .i64 ((i+1:Nat):Int))]) (by decide) (by kernel_rfl)
    (.cons (Ref.bool (decide_eq_true h1)) (.cons (o.1) (.cons (Int.natCast_nonneg _) (.cons (o.2.1) (.cons ((Ref.wr o.2.2.1).trans (Ref.int (by first | rfl | omega | simp))) (.cons (o.2.2.2.1) (.cons (Int.natCast_nonneg _) (.cons (o.2.2.2.2.1) (.cons (o.2.2.2.2.2) (.cons (Ref.bool (decide_eq_false h2)) (.cons (o.2.2.2.2.2) (.cons (Ref.bool (decide_eq_false h3)) (.cons ((Ref.wr o.2.2.1).trans (Ref.int (by first | rfl | omega | simp))) (AllP.nil)))))))))))))) hg
theorem p43_0_0 {S0 C0:Nat → Prop} {w0:World} {Post:Value → World → Prop} (m:MachD) (p:PoseD) (jb:Nat)  (o:(Ref (AV.int .i64 (poseE (reMach [AV.str m.name,AV.list 27 (m.bodies.map (unBody 300)),AV.list 17 (m.springs.map (unCordy 300)),AV.list 17 (m.tendons.map (unCordy 300)),AV.list 13 (m.motors.map (unMotor 300)),AV.list 5 (m.feet.map (unFoot 300))]) (p.joints.map (unQ jb)).length)) (AV.int .i64 (0:Int)))∧([AV.str m.name,AV.list 27 (m.bodies.map (unBody 300)),AV.list 17 (m.springs.map (unCordy 300)),AV.list 17 (m.tendons.map (unCordy 300)),AV.list 13 (m.motors.map (unMotor 300)),AV.list 5 (m.feet.map (unFoot 300))]=unMach 300 (reMach [AV.str m.name,AV.list 27 (m.bodies.map (unBody 300)),AV.list 17 (m.springs.map (unCordy 300)),AV.list 17 (m.tendons.map (unCordy 300)),AV.list 13 (m.motors.map (unMotor 300)),AV.list 5 (m.feet.map (unFoot 300))]))∧((reMach [AV.str m.name,AV.list 27 (m.bodies.map (unBody 300)),AV.list 17 (m.springs.map (unCordy 300)),AV.list 17 (m.tendons.map (unCordy 300)),AV.list 13 (m.motors.map (unMotor 300)),AV.list 5 (m.feet.map (unFoot 300))]).small)∧((p.joints.map (unQ jb)).length≤4611686018427387904)∧((m.bodies.map (unBody 300)).length≤4611686018427387904))
    (hg:Good Tryz.prog 43 S0 C0 w0 Post [.code (nav [1,1,1,0,1,0,0] (bodyOf Tryz.f43)),.inLoop (nav [1,1,1,0,1,0,0] (bodyOf Tryz.f43)),.inBlock 0,.code (nav [1,1,1,1] (bodyOf Tryz.f43))] ⟨slots 50 [(2,(AV.ptr 0 6 0 0)),(7,AV.nil),(18,(AV.list 3 (p.joints.map (unQ jb)))),(19,(AV.int .i64 (((p.joints.map (unQ jb)).length:Nat):Int))),(20,(AV.int .i64 (0:Int)))],[some ⟨41,6,false,[[(AV.str m.name),(AV.list 27 (m.bodies.map (unBody 300))),(AV.list 17 (m.springs.map (unCordy 300))),(AV.list 17 (m.tendons.map (unCordy 300))),(AV.list 13 (m.motors.map (unMotor 300))),(AV.list 5 (m.feet.map (unFoot 300)))]],none⟩]⟩):
    Good Tryz.prog 43 S0 C0 w0 Post [.code (nav [] (bodyOf Tryz.f43))] ⟨slots 50 [(0,(AV.agg [(AV.str m.name),(AV.list 27 (m.bodies.map (unBody 300))),(AV.list 17 (m.springs.map (unCordy 300))),(AV.list 17 (m.tendons.map (unCordy 300))),(AV.list 13 (m.motors.map (unMotor 300))),(AV.list 5 (m.feet.map (unFoot 300)))])),(1,(AV.agg [(AV.q p.at_.x jb),(AV.q p.at_.z jb),(AV.q p.turn jb),(AV.list 3 (p.joints.map (unQ jb)))]))],[]⟩:=
  goR mixed TT0_ok KT43_ok 21 none [2,7,18,19,20] [0] [(13,(AV.int .i64 (0:Int)))] (ob:=[Ref (AV.int .i64 (poseE (reMach [AV.str m.name,AV.list 27 (m.bodies.map (unBody 300)),AV.list 17 (m.springs.map (unCordy 300)),AV.list 17 (m.tendons.map (unCordy 300)),AV.list 13 (m.motors.map (unMotor 300)),AV.list 5 (m.feet.map (unFoot 300))]) (p.joints.map (unQ jb)).length)) (AV.int .i64 (0:Int)),[AV.str m.name,AV.list 27 (m.bodies.map (unBody 300)),AV.list 17 (m.springs.map (unCordy 300)),AV.list 17 (m.tendons.map (unCordy 300)),AV.list 13 (m.motors.map (unMotor 300)),AV.list 5 (m.feet.map (unFoot 300))]=unMach 300 (reMach [AV.str m.name,AV.list 27 (m.bodies.map (unBody 300)),AV.list 17 (m.springs.map (unCordy 300)),AV.list 17 (m.tendons.map (unCordy 300)),AV.list 13 (m.motors.map (unMotor 300)),AV.list 5 (m.feet.map (unFoot 300))]),(reMach [AV.str m.name,AV.list 27 (m.bodies.map (unBody 300)),AV.list 17 (m.springs.map (unCordy 300)),AV.list 17 (m.tendons.map (unCordy 300)),AV.list 13 (m.motors.map (unMotor 300)),AV.list 5 (m.feet.map (unFoot 300))]).small,(p.joints.map (unQ jb)).length≤4611686018427387904,(m.bodies.map (unBody 300)).length≤4611686018427387904]) (by decide) (by kernel_rfl)
    (.cons (o.1) (.cons (o.2.1) (.cons (o.2.2.1) (.cons (o.2.2.2.1) (.cons (o.2.2.2.2) (AllP.nil)))))) hg
def beyB (m:MachD) (p:PoseD) (i:Nat):Bool:=decide (p.joints.getD i default<(m.bodies.getD (i+1) default).low)||decide ((m.bodies.getD (i+1) default).high<p.joints.getD i default)
/-- The places of the joints, among the first n, that are beyond. -/
def beyL (m:MachD) (p:PoseD) (n:Nat):List Nat:=(List.range n).filter (beyB m p)
def unJ (i:Nat):List AV:=[.int .i64 ((i+1:Nat):Int)]
theorem beyL_succ {m:MachD} {p:PoseD} (n:Nat):beyL m p (n+1)=if beyB m p n then beyL m p n++ [n] else beyL m p n:=by
  unfold beyL
  rw[List.range_succ,List.filter_append]
  cases h:beyB m p n <;> simp[h]
theorem beyL_len {m:MachD} {p:PoseD} (n:Nat):(beyL m p n).length≤n:=by
  have:=List.length_filter_le (beyB m p) (List.range n)
  simpa[beyL] using this
noncomputable abbrev T43:List Item:=[.code (nav [1,1,1,0,1,0,0] (bodyOf Tryz.f43)),.inLoop (nav [1,1,1,0,1,0,0] (bodyOf Tryz.f43)),.inBlock 0,.code (nav [1,1,1,1] (bodyOf Tryz.f43))]
def out43 (A:List Nat):AV:=if A= [] then .nil else .own 1 1 0 A.length
def oh43 (A:List Nat):List (Option ABlk):=if A= [] then [] else [some ⟨3,1,true,A.map unJ,none⟩]
abbrev st43 (m:MachD) (p:PoseD) (jb n i:Nat) (o:AV):List AV:=slots 50 [(2,.ptr 0 6 0 0),(7,o),(18,.list 3 (p.joints.map (unQ jb))),(19,.int .i64 ((n:Nat):Int)),(20,.int .i64 ((i:Nat):Int))]
abbrev mb43 (m:MachD):Option ABlk:=some ⟨41,6,false,[[AV.str m.name,AV.list 27 (m.bodies.map (unBody 300)),AV.list 17 (m.springs.map (unCordy 300)),AV.list 17 (m.tendons.map (unCordy 300)),AV.list 13 (m.motors.map (unMotor 300)),AV.list 5 (m.feet.map (unFoot 300))]],none⟩
theorem loop43 {S:Nat → Prop} {w0:World} {m:MachD} {p:PoseD} {jb:Nat} (h8:m.bodies.length≤8) (hj:p.joints.length+1=m.bodies.length) (hb:jb≤100000):∀ (j i:Nat),i+j=p.joints.length → ∀ A,A=beyL m p i →
    Good Tryz.prog 43 S No w0 (PostF S w0 (.tup [.list 1 ((beyL m p p.joints.length).map unJ),.int .i64 0])) T43 ⟨st43 m p jb p.joints.length i (out43 A),mb43 m::oh43 A⟩:=by
  intro j
  induction j with
  | zero=>
    intro i hij A hA
    have hi:i=p.joints.length:=by omega
    subst hi
    rw[← hA]
    have hn:¬ (((p.joints.length:Nat):Int)<((p.joints.length:Nat):Int)):=by omega
    by_cases hA0:A= []
    · subst hA0
      show Good Tryz.prog 43 S No w0 _ T43 ⟨st43 m p jb p.joints.length p.joints.length .nil,[mb43 m]⟩
      refine p43_1_3 m p jb p.joints.length p.joints.length default default hn ?_
      exact good_endF TT0_ok (fn:=Tryz.f43) (by kernel_rfl) (.inr ⟨_,rfl⟩) (Vs:=[.nil,.int .i64 0]) (by kernel_rfl) (by rfl) (by rfl) (Ref.tup2 Ref.nilL Ref.rfl' rfl rfl rfl rfl)
    · have e1:out43 A= .own 1 1 0 A.length:=if_neg hA0
      have e2:oh43 A= [some ⟨3,1,true,A.map unJ,none⟩]:=if_neg hA0
      rw[e1,e2]
      refine p43_2_3 m p jb p.joints.length p.joints.length default default A.length (A.map unJ) hn ?_
      refine Good.pick 50 [(4,.own 1 1 0 A.length),(5,.int .i64 0)] (by kernel_rfl) (by kernel_rfl) ?_
      refine Good.freezeD (b:=⟨3,1,true,A.map unJ,none⟩) 1 (by rfl) (by rfl) (AllP.of_eq (l':=[0+A.length≤(A.map unJ).length]) (by kernel_rfl) (.cons (by simp) .nil)) (AllP.of_nil (by kernel_rfl)) ?_
      exact good_endF TT0_ok (fn:=Tryz.f43) (by kernel_rfl) (.inr ⟨_,rfl⟩) (Vs:=[.list 1 (((A.map unJ).drop 0).take A.length),.int .i64 0]) (by kernel_rfl) (by rfl) (by rfl) (Ref.eq (by rw[List.drop_zero,List.take_of_length_le (by simp)];rfl))
  | succ j ih=>
    intro i hij A hA
    have hi:((i:Nat):Int)<((p.joints.length:Nat):Int):=by omega
    have hS:=beyL_succ (m:=m) (p:=p) i
    have hAl:A.length≤i:=by rw[hA];exact beyL_len i
    obtain⟨t,ht⟩:∃ t,t=p.joints.getD i default:=⟨_,rfl⟩
    obtain⟨v,hv⟩:∃ v,v=m.bodies.getD (i+1) default:=⟨_,rfl⟩
    have hB:beyB m p i=(decide (t<v.low)||decide (v.high<t)):=by rw[ht,hv];rfl
    have r1:Ref (.cptr ((p.joints.map (unQ jb)).getD i []) 0) (.cptr [.q t jb] 0):=by rw[ht];exact Ref.cmap (f:=unQ jb) (by omega)
    have r2:Ref (.cptr ((m.bodies.map (unBody 300)).getD (i+1) []) 0) (.cptr (unBody 300 v) 0):=by rw[hv];exact Ref.cmap (by omega)
    have r3:((i:Nat):Int)<(((p.joints.map (unQ jb)).length:Nat):Int):=by rw[List.length_map];exact hi
    have r4:((i+1:Nat):Int)<(((m.bodies.map (unBody 300)).length:Nat):Int):=by rw[List.length_map];omega
    have r5:jb+300+200≤LIM:=by unfold LIM;omega
    have nx:∀ b,beyB m p i=b → ∀ A',A'=(if b then A++ [i] else A) → Good Tryz.prog 43 S No w0 (PostF S w0 (.tup [.list 1 ((beyL m p p.joints.length).map unJ),.int .i64 0])) T43 ⟨st43 m p jb p.joints.length (i+1) (out43 A'),mb43 m::oh43 A'⟩:=fun b hb' A' hA'=>by
      refine ih (i+1) (by omega) A' ?_
      rw[hS,hb',hA',hA]
    have x1:out43 (A++ [i])= .own 1 1 0 (A.length+1):=by unfold out43;rw[if_neg (by simp)];simp
    have x2:oh43 (A++ [i])= [some ⟨3,1,true,A.map unJ++ [unJ i],none⟩]:=by unfold oh43;rw[if_neg (by simp)];simp
    by_cases hA0:A= []
    · subst hA0
      show Good Tryz.prog 43 S No w0 _ T43 ⟨st43 m p jb p.joints.length i .nil,[mb43 m]⟩
      by_cases c1:cmpQ t v.low<(0:Int)
      · refine p43_1_0 m p jb i p.joints.length t v hi c1 ⟨r1,r3,by omega,r2,r4,r5,by decide,by decide⟩ ?_
        have:=nx true (by rw[hB,decide_eq_true (cmpQ_neg.1 c1)];rfl) _ rfl
        simp only[if_true] at this
        rw[x1,x2] at this
        exact this
      · by_cases c2:(0:Int)<cmpQ t v.high
        · refine p43_1_1 m p jb i p.joints.length t v hi c1 c2 ⟨r1,r3,by omega,r2,r4,r5,by decide,by decide⟩ ?_
          have:=nx true (by rw[hB,decide_eq_true (cmpQ_pos.1 c2)];simp) _ rfl
          simp only[if_true] at this
          rw[x1,x2] at this
          exact this
        · refine p43_1_2 m p jb i p.joints.length t v hi c1 c2 ⟨r1,r3,by omega,r2,r4,r5⟩ ?_
          exact nx false (by rw[hB,decide_eq_false fun h=>c1 (cmpQ_neg.2 h),decide_eq_false fun h=>c2 (cmpQ_pos.2 h)];rfl) [] rfl
    · have e1:out43 A= .own 1 1 0 A.length:=if_neg hA0
      have e2:oh43 A= [some ⟨3,1,true,A.map unJ,none⟩]:=if_neg hA0
      rw[e1,e2]
      by_cases c1:cmpQ t v.low<(0:Int)
      · refine p43_2_0 m p jb i p.joints.length t v A.length (A.map unJ) hi c1 ⟨r1,r3,by omega,r2,r4,r5,by simp,by omega,by unfold big;omega⟩ ?_
        have:=nx true (by rw[hB,decide_eq_true (cmpQ_neg.1 c1)];rfl) _ rfl
        simp only[if_true] at this
        rw[x1,x2] at this
        exact this
      · by_cases c2:(0:Int)<cmpQ t v.high
        · refine p43_2_1 m p jb i p.joints.length t v A.length (A.map unJ) hi c1 c2 ⟨r1,r3,by omega,r2,r4,r5,by simp,by omega,by unfold big;omega⟩ ?_
          have:=nx true (by rw[hB,decide_eq_true (cmpQ_pos.1 c2)];simp) _ rfl
          simp only[if_true] at this
          rw[x1,x2] at this
          exact this
        · refine p43_2_2 m p jb i p.joints.length t v A.length (A.map unJ) hi c1 c2 ⟨r1,r3,by omega,r2,r4,r5⟩ ?_
          have:=nx false (by rw[hB,decide_eq_false fun h=>c1 (cmpQ_neg.2 h),decide_eq_false fun h=>c2 (cmpQ_pos.2 h)];rfl) A rfl
          rw[e1,e2] at this
          exact this
def k43:List AV → Option (AV×List Prop)
  | [.agg M,.agg [.q ax jb,.q az A2,.q tu A3,.list 3 J]]=>some (.tup [.list 1 ((beyL (reMach M) ⟨⟨ax,az⟩,tu,J.map reQ⟩ J.length).map unJ),.int .i64 0],[M=unMach 300 (reMach M),(reMach M).small,(reMach M).bodies.length≤8,A2≤jb,A3≤jb,jb≤100000,Ref (.list 3 J) (.list 3 ((J.map reQ).map (unQ jb))),J.length≤4611686018427387904,poseE (reMach M) J.length=0])
  | _=>none
theorem a43 (args:List AV) (r:AV) (ob:List Prop) (h:k43 args=some (r,ob)) (ho:AllP ob):AFun Tryz.prog 43 args r:=by
  unfold k43 at h
  split at h
  · rename_i M ax jb az A2 tu A3 J
    injection h with h;simp only[Prod.mk.injEq] at h
    obtain⟨rfl,rfl⟩:=h
    have o1:M=unMach 300 (reMach M):=ho _ (by simp)
    have o2:(reMach M).small:=ho _ (by simp)
    have o3:(reMach M).bodies.length≤8:=ho _ (by simp)
    have o4:A2≤jb:=ho _ (by simp)
    have o5:A3≤jb:=ho _ (by simp)
    have o6:jb≤100000:=ho _ (by simp)
    have o7:Ref (.list 3 J) (.list 3 ((J.map reQ).map (unQ jb))):=ho _ (by simp)
    have o8:J.length≤4611686018427387904:=ho _ (by simp)
    have o9:poseE (reMach M) J.length=0:=ho _ (by simp)
    clear ho
    refine afun_of (fn:=Tryz.f43) (c:=bodyOf Tryz.f43) (by kernel_rfl) (by kernel_rfl) (by kernel_rfl) fun S w0=> ?_
    have e:st0 [.agg M,.agg [.q ax jb,.q az A2,.q tu A3,.list 3 J]] Tryz.f43.ntmps=⟨slots 50 [(0,.agg M),(1,.agg [.q ax jb,.q az A2,.q tu A3,.list 3 J])],[]⟩:=by kernel_rfl
    rw[e];clear e
    generalize hm:reMach M=m at*
    subst o1
    clear hm
    obtain⟨p,hp⟩:∃ p:PoseD,p=⟨⟨ax,az⟩,tu,J.map reQ⟩:=⟨_,rfl⟩
    have hpj:p.joints.length=J.length:=by rw[hp];simp
    rw[← hp]
    try rw[← hpj]
    refine Good.weak 50 [(0,.agg (unMach 300 m)),(1,.agg (unPose jb p))] (by kernel_rfl) (.cons Ref.rfl' (.cons (by rw[hp];exact Ref.pose o4 o5 o7) .nil)) ?_
    clear hp
    have s1:unMach 300 m=unMach 300 (reMach (unMach 300 m)):=by rw[reMach_un]
    have s2:(reMach (unMach 300 m)).small:=by rw[reMach_un];exact o2
    have s3:(reMach (unMach 300 m)).bodies.length≤8:=by rw[reMach_un];exact o3
    have s4:Ref (.list 3 (p.joints.map (unQ jb))) (.list 3 (((p.joints.map (unQ jb)).map reQ).map (unQ jb))):=Ref.eq (by rw[reQ_un])
    have s5:(p.joints.map (unQ jb)).length≤4611686018427387904:=by rw[List.length_map,hpj];exact o8
    have s7:SZ jb≤153753600:=by unfold SZ;omega
    have s8:LIM=17592186044416:=rfl
    obtain⟨c1,c2⟩:=pose_parts o9
    rw[reMach_un] at s3
    have hl:(p.joints.map (unQ jb)).length=p.joints.length:=List.length_map ..
    refine p43_0_0 m p jb ⟨Ref.int (by rw[hl,hpj];exact(congrArg (fun x=>poseE x _) (reMach_un m)).trans o9),s1,s2,s5,by rw[List.length_map];omega⟩ ?_
    rw[hl]
    exact loop43 s3 (by rw[hpj];exact c2) o6 p.joints.length 0 (by omega) [] rfl
  · cases h
def KT242_ok:=kn.cons a26
def massS (l:List BodyD):Nat->Rat
 | 0=>0
 | i+1=>massS l i+(l.getD i default).ma
def k242:KF
 | [.cptr [.str mn,.list 27 XB,.list 17 XS,.list 17 XT,.list 13 XD,.list 5 XF,.list 12 XR] 0]=>some (.agg [.q (massS (XB.map reBody) XB.length) (302*XB.length)],[XB=(XB.map reBody).map (unBody 300),XB.length<=1000])
 | _=>none
noncomputable abbrev T242:List Item:=[.code (nav [1,1,0,1,0,0] (bodyOf Tryz.f242)),.inLoop (nav [1,1,0,1,0,0] (bodyOf Tryz.f242)),.inBlock 0,.code (nav [1,1,1] (bodyOf Tryz.f242))]
theorem loop242 {S:Nat->Prop} {w0:World} {L:List BodyD} (hL:L.length<=1000):
   GF 242 S w0 (.agg [.q (massS L L.length) (302*L.length)]) T242 ⟨slots 22 [(2,.ptr 0 3 0 0),(3,.ptr 1 3 0 0),(10,.list 27 (L.map (unBody 300))),(11,.i6 ((L.length:Nat):Int)),(12,.i6 ((0:Nat):Int))],[some ⟨56,3,false,[[.q 0 0]],none⟩,some ⟨56,3,false,[[.q (massS L 0) (302*0)]],none⟩]⟩:=by
 refine down (G:=fun i=>GF 242 S w0 (.agg [.q (massS L L.length) (302*L.length)]) T242 ⟨slots 22 [(2,.ptr 0 3 0 0),(3,.ptr 1 3 0 0),(10,.list 27 (L.map (unBody 300))),(11,.i6 ((L.length:Nat):Int)),(12,.i6 ((i:Nat):Int))],[some ⟨56,3,false,[[.q 0 0]],none⟩,some ⟨56,3,false,[[.q (massS L i) (302*i)]],none⟩]⟩) L.length ?_ ?_
 · exact rR KT242_ok [(13,ff)] (.a1 (iF (om (¬ ((L.length:Int)<(L.length:Int))))))
 · intro i hi ih
   exact gR KT242_ok none [2,3,10,11,12] [0,1] [(13,tt),(14,.cptr (unBody 300 (L.getD i default)) 0),(20,.i6 ((i+1:Nat):Int))] (.a6 (iT (om ((i:Int)<(L.length:Int)))) (show Ref (.cptr ((L.map (unBody 300)).getD i []) 0) (.cptr (unBody 300 (L.getD i default)) 0) from Ref.cmap (f:=unBody 300) hi) (nn i) (show(i:Int)<((L.map (unBody 300)).length:Int) by rw[lmE];omega) (show(302*i)+300+200<=LIM by unfold LIM;omega) (wI ((i:Int)+(1:Int)) ((i+1:Nat):Int))) ih
theorem a242:Ctr 242 k242:=fun args r ob h ho=>by
 unfold k242 at h
 split at h
 · rename_i mn XB XS XT XD XF XR
   cases h;have o1:XB=(XB.map reBody).map (unBody 300):=ho _ (by simp);have o2:XB.length<=1000:=ho _ (by simp);clear ho;obtain⟨L,hL⟩:∃ L,L=XB.map reBody:=⟨_,rfl⟩;have hl:XB.length=L.length:=by rw[hL];simp
   rw[<- hL] at o1 ⊢;rw[hl] at o2 ⊢;subst o1;clear hL;refine af Tryz.f242 fun S w0=> ?_
   refine gN KT242_ok [0,2,3,10,11,12] [] .nil (t:=T242) (σ:=slots 22 [(0,.cptr [.str mn,.list 27 (L.map (unBody 300)),.list 17 XS,.list 17 XT,.list 13 XD,.list 5 XF,.list 12 XR] 0),(2,.ptr 0 3 0 0),(3,.ptr 1 3 0 0),(10,.list 27 (L.map (unBody 300))),(11,(.i6 ((L.map (unBody 300)).length:Int))),(12,.i6 (0:Int))]) (h:=[some ⟨56,3,false,[[.q 0 0]],none⟩,some ⟨56,3,false,[[.q 0 0]],none⟩]) ?_
   rw[lmE];refine Good.pk 22 [(2,.ptr 0 3 0 0),(3,.ptr 1 3 0 0),(10,.list 27 (L.map (unBody 300))),(11,.i6 ((L.length:Nat):Int)),(12,.i6 ((0:Nat):Int))] ?_;exact loop242 o2
 · cases h
def shareS (l:List BodyD) (b:Int):Rat:=(l.getD b.toNat default).ma/massS l l.length
def k170:KF
 | [.cptr [.str mn,.list 27 XB,.list 17 XS,.list 17 XT,.list 13 XD,.list 5 XF,.list 12 XR] 0,.int .i64 b]=>some (.agg [.q (shareS (XB.map reBody) b) (302*XB.length+304)],[XB=(XB.map reBody).map (unBody 300),XB.length<=1000,0<=b,b<((XB.length:Nat):Int)])
 | _=>none
theorem a170:Ctr 170 k170:=by
 refine ctr Tryz.f170 fun _ _ _ S w0 h ho=> ?_
 unfold k170 at h;split at h <;> cases h;rename_i mn XB XS XT XD XF XR b;obtain⟨o1,o2,o3,o4⟩:=ho.e4;have L:=limE;have K:=(kn.cons a242).cons a27;obtain⟨L,hL⟩:∃ L,L=XB.map reBody:=⟨_,rfl⟩;have hl:XB.length=L.length:=by rw[hL];simp
 rw[<- hL] at o1 ⊢;rw[hl] at o2 o4 ⊢;subst o1;clear hL hl ho;obtain⟨v,hv⟩:∃ v,v=L.getD b.toNat default:=⟨_,rfl⟩;have hlm:(L.map (unBody 300)).length=L.length:=lmE ..;exact rF K [(14,.cptr (unBody 300 v) 0),(18,.agg [.q (massS L L.length) (302*L.length)])] (.c6 (show Ref (.cptr ((L.map (unBody 300)).getD b.toNat []) 0) (.cptr (unBody 300 v) 0) by rw[hv];exact Ref.cmap (f:=unBody 300) (by omega)) o3 (show b<((L.map (unBody 300)).length:Int) by rw[hlm];omega) (show Ref (.agg [.q (massS ((L.map (unBody 300)).map reBody) (L.map (unBody 300)).length) (302*(L.map (unBody 300)).length)]) (.agg [.q (massS L L.length) (302*L.length)]) from Ref.eq (by rw[reBody_un,lmE])) (show(L.map (unBody 300))=((L.map (unBody 300)).map reBody).map (unBody 300) by rw[reBody_un]) (show(L.map (unBody 300)).length<=1000 by rw[hlm];omega) (.a1 (show 300+(302*L.length)+200<=LIM by unfold LIM;omega))) (V:=.agg [.q (v.ma/(massS L L.length)) (300+(302*L.length)+2)]) (Ref.q1 (by unfold shareS;rw[hv]) (by omega))
def k62:KF
 | [.agg [.q px B,.q pz D],.agg [.q k C]]=>some (.agg [.q (px*k) (B+C+2),.q (pz*k) (D+C+2)],[B+D+C+300<=LIM])
 | _=>none
theorem a62:Ctr 62 k62:=by
 refine ctr Tryz.f62 fun _ _ _ S w0 h ho=> ?_
 unfold k62 at h;split at h <;> cases h;rename_i px B pz D k C;have o1:=ho.one;have L:=limE;have K:=kn.cons a29;exact rR K [] (.a2 (om (B+C+200<=LIM)) (om (D+C+200<=LIM)))
def KT66_ok:=((((kn.cons a170).cons a119).cons a117).cons a62).cons a36
def centreS (m:MachD) (p:PoseD):Nat->PtD
 | 0=>⟨0,0⟩
 | i+1=>⟨(centreS m p i).x+(placeF (fr m p i) (m.bodies.getD i default).c).x*shareS m.bodies ((i:Nat):Int),(centreS m p i).z+(placeF (fr m p i) (m.bodies.getD i default).c).z*shareS m.bodies ((i:Nat):Int)⟩
def centreV (m:MachD) (p:PoseD):PtD:=if poseE m p.joints.length=0 then centreS m p m.bodies.length else ⟨0,0⟩
def cB (jb n:Nat):Nat->Nat
 | 0=>0
 | i+1=>cB jb n i+(4*SZ jb+302*n+916)
theorem cB_le {jb n:Nat}:∀ {i:Nat},cB jb n i<=i*(4*SZ jb+302*n+916)
 | 0=>by simp[cB]
 | i+1=>by
   have:=cB_le (jb:=jb) (n:=n) (i:=i);rw[cB,Nat.add_mul];omega
theorem cB_8 {jb n i:Nat} (hi:i<=8) (hn:n<=8):cB jb n i<=32*SZ jb+26656:=by
 have h1:=cB_le (jb:=jb) (n:=n) (i:=i);have h2:i*(4*SZ jb+302*n+916)<=8*(4*SZ jb+302*n+916):=Nat.mul_le_mul_right _ hi;omega
noncomputable abbrev T66:List Item:=[.code (nav [1,1,1,1,0,1,0,0] (bodyOf Tryz.f66)),.inLoop (nav [1,1,1,1,0,1,0,0] (bodyOf Tryz.f66)),.inBlock 0,.code (nav [1,1,1,1,1] (bodyOf Tryz.f66))]
abbrev c66_0 (m:MachD) (jb:Nat) (p:PoseD):List AV:=[.str m.name,.list 27 (m.bodies.map (unBody 300)),.list 17 (m.springs.map (unCordy 300)),.list 17 (m.tendons.map (unCordy 300)),.list 13 (m.motors.map (unMotor 300)),.list 5 (m.feet.map (unFoot 300)),.list 12 ((List.range m.bodies.length).map fun i=>unF (SZ jb) (fr m p i))]
abbrev c66_1:ABlk:=⟨58,6,false,[[.q 0 0,.q 0 0]],none⟩
abbrev c66_2 (m:MachD) (p:PoseD) (jb:Nat):ABlk:=⟨58,6,false,[[.q ((centreS m p m.bodies.length).x) (cB jb m.bodies.length m.bodies.length),.q ((centreS m p m.bodies.length).z) (cB jb m.bodies.length m.bodies.length)]],none⟩
abbrev c66_4 (jb:Nat) (m:MachD) (p:PoseD):List (Nat×AV):=[(4,.ptr 0 6 0 0),(6,.cptr (unPl jb m p) 0),(8,.ptr 1 6 0 0),(25,.list 27 (m.bodies.map (unBody 300))),(26,.i6 ((m.bodies.length:Nat):Int)),(27,.i6 ((0:Nat):Int))]
abbrev c66_5 (m:MachD) (p:PoseD) (jb:Nat):AV:=(.tup [.agg [.q (centreS m p m.bodies.length).x (32*SZ jb+26656),.q (centreS m p m.bodies.length).z (32*SZ jb+26656)],.i6 0])
theorem loop66 {S:Nat->Prop} {w0:World} {m:MachD} {p:PoseD} {jb:Nat} (h8:m.bodies.length<=8) (hS:SZ jb<=153753600):
   GF 66 S w0 (c66_5 m p jb) T66 ⟨slots 50 (c66_4 jb m p),[some (c66_1),some ⟨58,6,false,[[.q (centreS m p 0).x (cB jb m.bodies.length 0),.q (centreS m p 0).z (cB jb m.bodies.length 0)]],none⟩]⟩:=by
 have hlm:(m.bodies.map (unBody 300)).length=m.bodies.length:=lmE ..;have hlr:((List.range m.bodies.length).map fun i=>unF (SZ jb) (fr m p i)).length=m.bodies.length:=by simp
 refine down (G:=fun i=>GF 66 S w0 (c66_5 m p jb) T66 ⟨slots 50 [(4,.ptr 0 6 0 0),(6,.cptr (unPl jb m p) 0),(8,.ptr 1 6 0 0),(25,.list 27 (m.bodies.map (unBody 300))),(26,.i6 ((m.bodies.length:Nat):Int)),(27,.i6 ((i:Nat):Int))],[some (c66_1),some ⟨58,6,false,[[.q (centreS m p i).x (cB jb m.bodies.length i),.q (centreS m p i).z (cB jb m.bodies.length i)]],none⟩]⟩) m.bodies.length ?_ ?_
 · refine gN KT66_ok [4,5,6,8,25,26,27] [(28,ff)] (.a1 (iF (om (¬ ((m.bodies.length:Int)<(m.bodies.length:Int)))))) (t:=[.code .ret]) (σ:=slots 50 [(4,.ptr 0 6 0 0),(5,.i6 (0:Int)),(6,.cptr (c66_0 m jb p) 0),(8,.ptr 1 6 0 0),(25,.list 27 (m.bodies.map (unBody 300))),(26,.i6 (m.bodies.length:Int)),(27,.i6 (m.bodies.length:Int))]) (h:=[some (c66_2 m p jb),some (c66_2 m p jb)]) ?_
   have:=cB_8 (jb:=jb) h8 h8;exact gE [.agg [.q (centreS m p m.bodies.length).x (cB jb m.bodies.length m.bodies.length),.q (centreS m p m.bodies.length).z (cB jb m.bodies.length m.bodies.length)],.i6 0] (Ref.tup2 (Ref.agg (RefC.cons (RefC.q_le this) (RefC.q_le this))) rr rfl rfl rfl rfl)
 · intro i hi ih
   have:=cB_8 (jb:=jb) (i:=i) (n:=m.bodies.length) (by omega) h8;have v0:(i:Int)<((m.bodies.map (unBody 300)).length:Int):=by rw[hlm];omega
   refine gR KT66_ok none [4,6,8,25,26,27] [0,1] [(28,tt),(30,.cptr (unBody 300 (m.bodies.getD i default)) 0),(38,.cptr [.q ((fr m p i).at_.x) (2*(SZ jb)),.q ((fr m p i).at_.z) (2*(SZ jb)),.q ((fr m p i).c) (SZ jb),.q ((fr m p i).s) (SZ jb)] 0),(45,.agg [.q (shareS m.bodies (i:Int)) (302*m.bodies.length+304)]),(48,.i6 ((i+1:Nat):Int))] (.c6 (iT (om ((i:Int)<(m.bodies.length:Int)))) (show Ref (.cptr ((m.bodies.map (unBody 300)).getD i []) 0) (.cptr (unBody 300 (m.bodies.getD i default)) 0) from Ref.cmap (f:=unBody 300) hi) (nn i) v0 (show Ref (.cptr (((List.range m.bodies.length).map fun i=>unF (SZ jb) (fr m p i)).getD i []) 0) (.cptr [.q ((fr m p i).at_.x) (2*(SZ jb)),.q ((fr m p i).at_.z) (2*(SZ jb)),.q ((fr m p i).c) (SZ jb),.q ((fr m p i).s) (SZ jb)] 0) from frL_ref hi) (nn i) (.c6 (show(i:Int)<(((List.range m.bodies.length).map fun i=>unF (SZ jb) (fr m p i)).length:Int) by rw[hlr];omega) (show(2*(SZ jb))+(2*(SZ jb))+2*300+2*300+2*(SZ jb)+2*(SZ jb)+400<=LIM by unfold LIM;omega) (show Ref (.agg [.q (shareS ((m.bodies.map (unBody 300)).map reBody) (i:Int)) (302*(m.bodies.map (unBody 300)).length+304)]) (.agg [.q (shareS m.bodies (i:Int)) (302*m.bodies.length+304)]) from Ref.eq (by rw[reBody_un,hlm])) (show(m.bodies.map (unBody 300))=((m.bodies.map (unBody 300)).map reBody).map (unBody 300) by rw[reBody_un]) (show(m.bodies.map (unBody 300)).length<=1000 by rw[hlm];omega) (nn i) (.a4 v0 (show((2*(SZ jb))+(300+300+(SZ jb)+(SZ jb)+6)+2)+((2*(SZ jb))+(300+300+(SZ jb)+(SZ jb)+6)+2)+(302*m.bodies.length+304)+300<=LIM by unfold LIM;omega) (show(cB jb m.bodies.length i)+(cB jb m.bodies.length i)+(((2*(SZ jb))+(300+300+(SZ jb)+(SZ jb)+6)+2)+(302*m.bodies.length+304)+2)+(((2*(SZ jb))+(300+300+(SZ jb)+(SZ jb)+6)+2)+(302*m.bodies.length+304)+2)+300<=LIM by unfold LIM;omega) (wI ((i:Int)+(1:Int)) ((i+1:Nat):Int))))) (t:=T66) (σ:=slots 50 [(4,.ptr 0 6 0 0),(6,.cptr (unPl jb m p) 0),(8,.ptr 1 6 0 0),(25,.list 27 (m.bodies.map (unBody 300))),(26,.i6 ((m.bodies.length:Nat):Int)),(27,.i6 ((i+1:Nat):Int))]) (h:=[some (c66_1),some ⟨58,6,false,[[.q (((centreS m p i).x)+((((fr m p i).at_.x)+(((fr m p i).c)*(m.bodies.getD i default).c.x-((fr m p i).s)*(m.bodies.getD i default).c.z))*(shareS m.bodies (i:Int)))) ((cB jb m.bodies.length i)+(((2*(SZ jb))+(300+300+(SZ jb)+(SZ jb)+6)+2)+(302*m.bodies.length+304)+2)+2),.q (((centreS m p i).z)+((((fr m p i).at_.z)+(((fr m p i).s)*(m.bodies.getD i default).c.x+((fr m p i).c)*(m.bodies.getD i default).c.z))*(shareS m.bodies (i:Int)))) ((cB jb m.bodies.length i)+(((2*(SZ jb))+(300+300+(SZ jb)+(SZ jb)+6)+2)+(302*m.bodies.length+304)+2)+2)]],none⟩]) ?_
   have e:cB jb m.bodies.length i+(2*SZ jb+(300+300+SZ jb+SZ jb+6)+2+(302*m.bodies.length+304)+2)+2=cB jb m.bodies.length (i+1):=by rw[cB];omega
   rw[e];exact ih
def k66:KF
 | [.agg M,.agg [.q ax jb,.q az A2,.q tu A3,.list 3 J]]=>some (.tup [.agg [.q (centreV (reMach M) ⟨⟨ax,az⟩,tu,J.map reQ⟩).x (32*SZ jb+26656),.q (centreV (reMach M) ⟨⟨ax,az⟩,tu,J.map reQ⟩).z (32*SZ jb+26656)],.int .i64 (poseE (reMach M) J.length)],[M=unMach 300 (reMach M),(reMach M).small,(reMach M).bodies.length<=8,A2<=jb,A3<=jb,jb<=100000,Ref (.list 3 J) (.list 3 ((J.map reQ).map (unQ jb))),J.length<=4611686018427387904])
 | _=>none
abbrev c66_3 (jb:Nat) (m:MachD) (p:PoseD):AV:=(.tup [(standP jb (reMach (unMach 300 m)) ⟨⟨p.at_.x,p.at_.z⟩,p.turn,(p.joints.map (unQ jb)).map reQ⟩),.i6 (poseE (reMach (unMach 300 m)) (p.joints.map (unQ jb)).length)])
theorem a66:Ctr 66 k66:=fun args r ob h ho=>by
 unfold k66 at h
 split at h
 · rename_i M ax jb az A2 tu A3 J
   cases h;have o1:M=unMach 300 (reMach M):=ho _ (by simp);have o2:(reMach M).small:=ho _ (by simp);have o3:(reMach M).bodies.length<=8:=ho _ (by simp);have o4:A2<=jb:=ho _ (by simp);have o5:A3<=jb:=ho _ (by simp);have o6:jb<=100000:=ho _ (by simp);have o7:Ref (.list 3 J) (.list 3 ((J.map reQ).map (unQ jb))):=ho _ (by simp);have o8:J.length<=4611686018427387904:=ho _ (by simp);refine af Tryz.f66 fun S w0=> ?_
   generalize hm:reMach M=m at*;subst o1;clear hm;obtain⟨p,hp⟩:∃ p:PoseD,p=⟨⟨ax,az⟩,tu,J.map reQ⟩:=⟨_,rfl⟩;have hpj:p.joints.length=J.length:=by rw[hp];simp
   rw[<- hp]
   try rw[<- hpj]
   refine Good.weak 50 [(0,.agg (unMach 300 m)),(1,.agg (unPose jb p))] (by kernel_rfl) (.r (.cons (by rw[hp];exact Ref.pose o4 o5 o7) .nil)) ?_;clear hp;have s1:unMach 300 m=unMach 300 (reMach (unMach 300 m)):=by rw[reMach_un]
   have s2:(reMach (unMach 300 m)).small:=by rw[reMach_un];exact o2
   have s3:(reMach (unMach 300 m)).bodies.length<=8:=by rw[reMach_un];exact o3
   have s4:Ref (.list 3 (p.joints.map (unQ jb))) (.list 3 (((p.joints.map (unQ jb)).map reQ).map (unQ jb))):=Ref.eq (by rw[reQ_un]);have s5:(p.joints.map (unQ jb)).length<=4611686018427387904:=by rw[lmE,hpj];exact o8
   have s7:SZ jb<=153753600:=by unfold SZ;omega
   have s8:LIM=17592186044416:=rfl
   by_cases h1:(poseE m p.joints.length)=(0:Int)
   · refine gR KT66_ok none [4,5,6,8,25,26,27] [2,4] [(11,.tup [.cptr (c66_0 m jb p) 0,.i6 (0:Int)])] (.c6 s1 s2 s3 (rl jb) (rl jb) o6 (.a3 s4 s5 (show Ref (c66_3 jb m p) (.tup [.cptr (c66_0 m jb p) 0,.i6 (0:Int)]) by exact standP_ok h1))) (t:=T66) (σ:=slots 50 [(4,.ptr 0 6 0 0),(5,.i6 (0:Int)),(6,.cptr (c66_0 m jb p) 0),(8,.ptr 1 6 0 0),(25,.list 27 (m.bodies.map (unBody 300))),(26,(.i6 ((m.bodies.map (unBody 300)).length:Int))),(27,.i6 (0:Int))]) (h:=[some (c66_1),some (c66_1)]) ?_
     rw[lmE,show centreV m p=centreS m p m.bodies.length from if_pos h1,h1];refine Good.pk 50 (c66_4 jb m p) ?_;exact loop66 o3 s7
   · refine rF KT66_ok [(11,.tup [.lit (.pointer none),.i6 (poseE m p.joints.length)]),(18,tt)] (.c6 s1 s2 s3 (rl jb) (rl jb) o6 (.a4 s4 s5 (show Ref (c66_3 jb m p) (.tup [.lit (.pointer none),.i6 (poseE m p.joints.length)]) by exact standP_no h1) (jT h1))) (V:=.tup [.agg [.q 0 0,.q 0 0],.i6 (poseE m p.joints.length)]) ?_
     rw[show centreV m p=⟨0,0⟩ from if_neg h1];exact Ref.tup2 (Ref.agg (RefC.cons qe qe)) rr rfl rfl rfl rfl
 · cases h
def k35:KF
 | [.agg [.q ax A,.q az B],.int .i64 x,.int .i64 z]=>some (.bool (decide (ax=(x:Rat)/\az=(z:Rat))),[A+300<=LIM,B+300<=LIM,(-9223372036854775808:Int)<=x,x<=(9223372036854775807:Int),(-9223372036854775808:Int)<=z,z<=(9223372036854775807:Int)])
 | _=>none
theorem a35:Ctr 35 k35:=by
 refine ctr Tryz.f35 fun _ _ _ S w0 h ho=> ?_
 unfold k35 at h;split at h <;> cases h;rename_i ax A az B x z;obtain⟨o1,o2,o3,o4,o5,o6⟩:=ho.e6;have L:=limE;have K:=(kn.cons a104).cons a25
 by_cases h1:(cmpQ ax (x:Rat))=(0:Int)
 · exact rF K [(13,tt)] (.c6 o3 o4 (om (A+64+200<=LIM)) (iT h1) o5 o6 (.a1 (om (B+64+200<=LIM)))) (V:=.bool (decide ((cmpQ az (z:Rat))=(0:Int)))) (Ref.bool (by simp[cmpQ_zero] at h1 ⊢;simp[h1,cmpQ_zero]))
 · exact rF K [(13,ff)] (.a4 o3 o4 (om (A+64+200<=LIM)) (iF h1)) (V:=.bool false) (Ref.bool (by simp[cmpQ_zero] at h1 ⊢;simp[h1]))
def k98:KF
 | [.int .i64 x,.int .i64 z]=>some (.agg [.q (x:Rat) 64,.q (z:Rat) 64],[(-9223372036854775808:Int)<=x,x<=(9223372036854775807:Int),(-9223372036854775808:Int)<=z,z<=(9223372036854775807:Int)])
 | _=>none
theorem a98:Ctr 98 k98:=by
 refine ctr Tryz.f98 fun _ _ _ S w0 h ho=> ?_
 unfold k98 at h;split at h <;> cases h;rename_i x z;obtain⟨o1,o2,o3,o4⟩:=ho.e4;have K:=kn.cons a25;exact rR K [] (.a4 o1 o2 o3 o4)
def KD96_ok:=((kn.cons a98).cons a59).cons a25
theorem RefC.list3 {e:Nat} {a b c a' b' c':List AV} {cs:List AV} (h1:RefC a a') (h2:RefC b b') (h3:RefC c c'):RefC (.list e [a,b,c]::cs) (.list e [a',b',c']::cs):=RefC.listW rfl fun i el el' k1 k2=>by
 match i,k1,k2 with
 | 0,k1,k2=>simp at k1 k2;subst k1;subst k2;exact h1
 | 1,k1,k2=>simp at k1 k2;subst k1;subst k2;exact h2
 | 2,k1,k2=>simp at k1 k2;subst k1;subst k2;exact h3
 | i+3,k1,k2=>simp at k1
def walkerM:MachD:=⟨ByteArray.mk #[119,97,108,107,101,114],[⟨ByteArray.mk #[116,114,117,110,107],-1,⟨0,0⟩,⟨0,0⟩,2,1,0,0,[]⟩,⟨ByteArray.mk #[108,101,103],0,⟨0,0⟩,⟨0,-1⟩,1,1,-1,1,[]⟩,⟨ByteArray.mk #[115,104,105,110],1,⟨0,-2⟩,⟨0,-1⟩,1,1,-1,1,[]⟩],[],[],[],[]⟩
theorem bodyLe {n:ByteArray} {p:Int} {ax az ma ir cx cz lo hi:Rat} {B1 B2 B3 B4 B5 B6 B7 B8:Nat} (h:B1<=300/\B2<=300/\B3<=300/\B4<=300/\B5<=300/\B6<=300/\B7<=300/\B8<=300):RefC [.str n,.i6 p,.q ax B1,.q az B2,.q ma B3,.q ir B4,.q cx B5,.q cz B6,.q lo B7,.q hi B8,.nil] (unBody 300 ⟨n,p,⟨ax,az⟩,⟨cx,cz⟩,ma,ir,lo,hi,[]⟩):=
 .tl (.tl (.cons (RefC.q_le h.1) (.cons (RefC.q_le h.2.1) (.cons (RefC.q_le h.2.2.1) (.cons (RefC.q_le h.2.2.2.1) (.cons (RefC.q_le h.2.2.2.2.1) (.cons (RefC.q_le h.2.2.2.2.2.1) (.cons (RefC.q_le h.2.2.2.2.2.2.1) (.cons (RefC.q_le h.2.2.2.2.2.2.2) RefC.nilL)))))))))
def k96:KF
 | []=>some (.agg (unMach 300 walkerM),[])
 | _=>none
theorem a96:Ctr 96 k96:=by
 refine ctr Tryz.f96 fun _ _ _ S w0 h ho=> ?_
 unfold k96 at h;split at h <;> cases h;have v0:(-9223372036854775808:Int)<=0:=by decide
 have v1:0<=(9223372036854775807:Int):=by decide
 have v2:(-9223372036854775808:Int)<=(-1):=by decide
 have v3:(-1)<=(9223372036854775807:Int):=by decide
 refine gN KD96_ok [0] [] (.c6 (dc ((-9223372036854775808:Int)<=1)) (dc (1<=(9223372036854775807:Int))) (dc ((-9223372036854775808:Int)<=2)) (dc (2<=(9223372036854775807:Int))) v0 v1 (.c6 v2 v3 v0 v1 (dc ((-9223372036854775808:Int)<=(-2))) (dc ((-2)<=(9223372036854775807:Int))) (.a4 v0 v1 v2 v3))) (t:=[.code .ret]) (σ:=slots 23 [(0,.ptr 0 6 0 0)]) (h:=[some ⟨41,6,false,[[.str (ByteArray.mk #[119,97,108,107,101,114]),.own 9 27 0 3,.nil,.nil,.nil,.nil]],none⟩,none,some ⟨56,3,false,[[.q (1:Rat) 64]],none⟩,none,none,none,none,none,none,some ⟨114,27,false,[[.str (ByteArray.mk #[116,114,117,110,107]),.i6 (-1:Int),.q 0 0,.q 0 0,.q (2:Rat) 64,.q (1:Rat) 64,.q 0 0,.q 0 0,.q 0 0,.q 0 0,.nil],[.str (ByteArray.mk #[108,101,103]),.i6 (0:Int),.q 0 0,.q 0 0,.q (1:Rat) 64,.q (1:Rat) 64,.q (0:Rat) 64,.q ((-1):Rat) 64,.q (-(1:Rat)) 64,.q (1:Rat) 64,.nil],[.str (ByteArray.mk #[115,104,105,110]),.i6 (1:Int),.q (0:Rat) 64,.q ((-2):Rat) 64,.q (1:Rat) 64,.q (1:Rat) 64,.q (0:Rat) 64,.q ((-1):Rat) 64,.q (-(1:Rat)) 64,.q (1:Rat) 64,.nil]],none⟩]) ?_
 refine Good.freezeD (b:=⟨114,27,false,[[(.str (ByteArray.mk #[116,114,117,110,107])),(.i6 (-1:Int)),(.q 0 0),(.q 0 0),(.q (2:Rat) 64),(.q (1:Rat) 64),(.q 0 0),(.q 0 0),(.q 0 0),(.q 0 0),.nil],[(.str (ByteArray.mk #[108,101,103])),(.i6 (0:Int)),(.q 0 0),(.q 0 0),(.q (1:Rat) 64),(.q (1:Rat) 64),(.q (0:Rat) 64),(.q ((-1):Rat) 64),(.q (-(1:Rat)) 64),(.q (1:Rat) 64),.nil],[(.str (ByteArray.mk #[115,104,105,110])),(.i6 (1:Int)),(.q (0:Rat) 64),(.q ((-2):Rat) 64),(.q (1:Rat) 64),(.q (1:Rat) 64),(.q (0:Rat) 64),(.q ((-1):Rat) 64),(.q (-(1:Rat)) 64),(.q (1:Rat) 64),.nil]],none⟩) 9 (by rfl) (by rfl) .on (.oe (.a1 (dc (0+3<=3)))) ?_;refine gE [(AV.agg [(AV.str (ByteArray.mk #[119,97,108,107,101,114])),(AV.list 27 [[(AV.str (ByteArray.mk #[116,114,117,110,107])),(AV.int .i64 (-1:Int)),(AV.q 0 0),(AV.q 0 0),(AV.q (2:Rat) 64),(AV.q (1:Rat) 64),(AV.q 0 0),(AV.q 0 0),(AV.q 0 0),(AV.q 0 0),AV.nil],[(AV.str (ByteArray.mk #[108,101,103])),(AV.int .i64 (0:Int)),(AV.q 0 0),(AV.q 0 0),(AV.q (1:Rat) 64),(AV.q (1:Rat) 64),(AV.q (0:Rat) 64),(AV.q ((-1):Rat) 64),(AV.q (-(1:Rat)) 64),(AV.q (1:Rat) 64),AV.nil],[(AV.str (ByteArray.mk #[115,104,105,110])),(AV.int .i64 (1:Int)),(AV.q (0:Rat) 64),(AV.q ((-2):Rat) 64),(AV.q (1:Rat) 64),(AV.q (1:Rat) 64),(AV.q (0:Rat) 64),(AV.q ((-1):Rat) 64),(AV.q (-(1:Rat)) 64),(AV.q (1:Rat) 64),AV.nil]]),AV.nil,AV.nil,AV.nil,AV.nil])] ?_
 show Ref (AV.agg [(AV.str (ByteArray.mk #[119,97,108,107,101,114])),(AV.list 27 [[(AV.str (ByteArray.mk #[116,114,117,110,107])),(AV.int .i64 (-1:Int)),(AV.q 0 0),(AV.q 0 0),(AV.q (2:Rat) 64),(AV.q (1:Rat) 64),(AV.q 0 0),(AV.q 0 0),(AV.q 0 0),(AV.q 0 0),AV.nil],[(AV.str (ByteArray.mk #[108,101,103])),(AV.int .i64 (0:Int)),(AV.q 0 0),(AV.q 0 0),(AV.q (1:Rat) 64),(AV.q (1:Rat) 64),(AV.q (0:Rat) 64),(AV.q ((-1):Rat) 64),(AV.q (-(1:Rat)) 64),(AV.q (1:Rat) 64),AV.nil],[(AV.str (ByteArray.mk #[115,104,105,110])),(AV.int .i64 (1:Int)),(AV.q (0:Rat) 64),(AV.q ((-2):Rat) 64),(AV.q (1:Rat) 64),(AV.q (1:Rat) 64),(AV.q (0:Rat) 64),(AV.q ((-1):Rat) 64),(AV.q (-(1:Rat)) 64),(AV.q (1:Rat) 64),AV.nil]]),AV.nil,AV.nil,AV.nil,AV.nil]) (.agg (unMach 300 walkerM));exact Ref.agg (RefC.tl (RefC.cons (RefC.list3 (bodyLe (by decide)) (bodyLe (by decide)) (bodyLe (by decide))) (RefC.cons RefC.nilL (RefC.cons RefC.nilL (RefC.cons RefC.nilL RefC.nilL)))))
def KD97_ok:=(kn.cons a98).cons a25
def k97:KF
 | [.int .i64 x,.int .i64 z]=>some (.agg [.q 0 64,.q 4 64,.q 0 0,.list 3 [[.q (x:Rat) 64],[.q (z:Rat) 64]]],[(-9223372036854775808:Int)<=x,x<=(9223372036854775807:Int),(-9223372036854775808:Int)<=z,z<=(9223372036854775807:Int)])
 | _=>none
theorem a97:Ctr 97 k97:=by
 refine ctr Tryz.f97 fun _ _ _ S w0 h ho=> ?_
 unfold k97 at h;split at h <;> cases h;rename_i x z;obtain⟨o1,o2,o3,o4⟩:=ho.e4;refine gN KD97_ok [4] [] (.c6 (dc ((-9223372036854775808:Int)<=0)) (dc (0<=(9223372036854775807:Int))) (dc ((-9223372036854775808:Int)<=4)) (dc (4<=(9223372036854775807:Int))) o1 o2 (.a2 o3 o4)) (t:=[.code .ret]) (σ:=slots 12 [(4,.ptr 0 10 0 0)]) (h:=[some ⟨61,10,false,[[.q (0:Rat) 64,.q (4:Rat) 64,.q 0 0,.own 4 3 0 2]],none⟩,none,none,none,some ⟨56,3,false,[[.q (x:Rat) 64],[.q (z:Rat) 64]],none⟩]) ?_
 refine Good.freezeD (b:=⟨56,3,false,[[(.q (x:Rat) 64)],[(.q (z:Rat) 64)]],none⟩) 4 (by rfl) (by rfl) .on (.oe (.a1 (dc (0+2<=2)))) ?_;refine gE [(AV.agg [(AV.q (0:Rat) 64),(AV.q (4:Rat) 64),(AV.q 0 0),(AV.list 3 [[(AV.q (x:Rat) 64)],[(AV.q (z:Rat) 64)]])])] ?_;show Ref (AV.agg [(AV.q (0:Rat) 64),(AV.q (4:Rat) 64),(AV.q 0 0),(AV.list 3 [[(AV.q (x:Rat) 64)],[(AV.q (z:Rat) 64)]])]) (.agg [.q 0 64,.q 4 64,.q 0 0,.list 3 [[.q (x:Rat) 64],[.q (z:Rat) 64]]]);exact rr
deriving instance DecidableEq for PtD,Sd,BendD
abbrev stoodP (a b:Rat):PoseD:=⟨⟨0,4⟩,0,[a,b]⟩
theorem aw30 (a:Rat) (x z:Rat) (h1:worldE walkerM 2 2=0) (h2:worldV walkerM (stoodP a 0) 2 ⟨(0:Rat),(-2:Rat)⟩=⟨x,z⟩):Ref (.tup [.agg [.q (worldV walkerM (stoodP a 0) 2 ⟨(0:Rat),(-2:Rat)⟩).x (4*SZ 64+64+64+8),.q (worldV walkerM (stoodP a 0) 2 ⟨(0:Rat),(-2:Rat)⟩).z (4*SZ 64+64+64+8)],.i6 (worldE walkerM 2 2)]) (.tup [.agg [.q x 24008,.q z 24008],.i6 0]):=Ref.eq (by rw[h1,h2];rfl)
theorem aw66:Ref (.tup [.agg [.q (centreV walkerM (stoodP 0 0)).x (32*SZ 64+26656),.q (centreV walkerM (stoodP 0 0)).z (32*SZ 64+26656)],.i6 (poseE walkerM 2)]) (.tup [.agg [.q 0 217632,.q 3 217632],.i6 0]):=Ref.eq (by rw[show centreV walkerM (stoodP 0 0)=⟨0,3⟩ from by decide+kernel,show poseE walkerM 2=0 from by decide+kernel];rfl)
theorem aw40:Ref (.tup [.list 19 ((bndsL walkerM (stoodP 0 0) 2 ⟨(0:Rat),(-2:Rat)⟩ ⟨(2:Rat),(2:Rat)⟩).map (unBend (bS1 64 64 (lX 64 64 64) (lX 64 64 64)) (bS2 64 64 (lX 64 64 64) (lX 64 64 64)) (bS3 64 64 (lX 64 64 64) (lX 64 64 64)) (bT 64 64 (lX 64 64 64) (lX 64 64 64)))),.i6 (bndsE walkerM (stoodP 0 0) 2 ⟨(0:Rat),(-2:Rat)⟩ ⟨(2:Rat),(2:Rat)⟩)]) (.tup [.list 19 [[.q 1 18904124229,.q 0 9452927697,.q 0 3462331,.q (-1) 1731164,.q 0 1731164,.q 0 1731164,.bool true],[.q (0:Rat) 18904124229,.q 0 9452927697,.q 0 3462331,.q 1 1731164,.q 0 1731164,.q 0 1731164,.bool true]],.i6 0]):=Ref.eq (by rw[show bndsL walkerM (stoodP 0 0) 2 ⟨(0:Rat),(-2:Rat)⟩ ⟨(2:Rat),(2:Rat)⟩= [⟨⟨1,0,0⟩,⟨-1,0,0⟩,true⟩,⟨⟨0,0,0⟩,⟨1,0,0⟩,true⟩] from by decide+kernel,show bndsE walkerM (stoodP 0 0) 2 ⟨(0:Rat),(-2:Rat)⟩ ⟨(2:Rat),(2:Rat)⟩=0 from by decide+kernel];rfl)
def k22:KF
 | []=>some (.bool true,[])
 | _=>none
abbrev d22_0:List AV:=[.str (walkerM.name),.list 27 (walkerM.bodies.map (unBody 300)),.list 17 (walkerM.springs.map (unCordy 300)),.list 17 (walkerM.tendons.map (unCordy 300)),.list 13 (walkerM.motors.map (unMotor 300)),.list 5 (walkerM.feet.map (unFoot 300))]
abbrev d22_1:=(reMach [(AV.str (walkerM.name)),(AV.list 27 (walkerM.bodies.map (unBody 300))),(AV.list 17 (walkerM.springs.map (unCordy 300))),(AV.list 17 (walkerM.tendons.map (unCordy 300))),(AV.list 13 (walkerM.motors.map (unMotor 300))),(AV.list 5 (walkerM.feet.map (unFoot 300)))])
theorem a22:Ctr 22 k22:=by
 refine ctr Tryz.f22 fun _ _ _ S w0 h ho=> ?_
 unfold k22 at h;split at h <;> cases h;have K:=(((((((((kn.cons a60).cons a104).cons a25).cons a35).cons a40).cons a66).cons a30).cons a98).cons a97).cons a96;have v0:(d22_0)=unMach 300 (reMach (d22_0)):=by rfl
 have v1:(d22_1).bodies.length<=8:=by decide+kernel
 have v2:(-9223372036854775808:Int)<=0:=by decide
 have v3:0<=(9223372036854775807:Int):=by decide
 have v4:Ref (.list 3 [[.q (0:Rat) 64],[.q (0:Rat) 64]]) (.list 3 (([[(AV.q (0:Rat) 64)],[(AV.q (0:Rat) 64)]].map reQ).map (unQ 64))):=rr;have v5: [[(AV.q (0:Rat) 64)],[(AV.q (0:Rat) 64)]].length<=4611686018427387904:=by decide+kernel
 have v6:24008+300<=LIM:=by decide+kernel
 have v7:(-9223372036854775808:Int)<=(-2):=by decide+kernel
 have v8:(-2)<=(9223372036854775807:Int):=by decide+kernel
 have v9:64<=100000:=by decide
 have v10:64<=64:=by decide
 have v11:8*SZ 64+2*64+2*64+400<=LIM:=by decide+kernel
 have v12:0<=64:=by decide
 have v13:0<=(0:Int):=by decide
 have v14:(0:Int)<2:=by decide
 have v15:(-9223372036854775808:Int)<=1:=by decide
 have v16:(-9223372036854775808:Int)<=2:=by decide
 have v17:(-9223372036854775808:Int)<=4:=by decide
 have v18:1<=(9223372036854775807:Int):=by decide
 have v19:2<=(9223372036854775807:Int):=by decide
 have v20:4<=(9223372036854775807:Int):=by decide
 have v21:217632+300<=LIM:=by decide+kernel
 exact rR K [(10,.agg (d22_0)),(15,.tup [.agg [.q 0 24008,.q 0 24008],.i6 (0:Int)]),(22,.tup [.agg [.q 4 24008,.q 4 24008],.i6 (0:Int)]),(28,.tup [.agg [.q 0 217632,.q 3 217632],.i6 (0:Int)]),(36,.tup [.list 19 [[.q 1 18904124229,.q 0 9452927697,.q 0 3462331,.q (-1) 1731164,.q 0 1731164,.q 0 1731164,.bool true],[.q (0:Rat) 18904124229,.q 0 9452927697,.q 0 3462331,.q 1 1731164,.q 0 1731164,.q 0 1731164,.bool true]],.i6 (0:Int)]),(55,tt),(59,tt),(63,tt),(83,.i6 (0:Int)),(93,.i6 (0:Int)),(102,.i6 (0:Int))] (.c6 (show Ref (.agg (unMach 300 walkerM)) (.agg (d22_0)) from rr) v2 v3 v2 v3 v2 (.c6 v3 v7 v8 (show Ref (.tup [.agg [.q ((worldV (d22_1) ⟨⟨0,4⟩,0,[[(AV.q (0:Rat) 64)],[(AV.q (0:Rat) 64)]].map reQ⟩ 2 ⟨(0:Rat),((-2):Rat)⟩).x) (4*SZ 64+64+64+8),.q ((worldV (d22_1) ⟨⟨0,4⟩,0,[[(AV.q (0:Rat) 64)],[(AV.q (0:Rat) 64)]].map reQ⟩ 2 ⟨(0:Rat),((-2):Rat)⟩).z) (4*SZ 64+64+64+8)],.i6 (worldE (reMach (d22_0)) [[(AV.q (0:Rat) 64)],[(AV.q (0:Rat) 64)]].length 2)]) (.tup [.agg [.q 0 24008,.q 0 24008],.i6 (0:Int)]) from aw30 0 0 0 (by decide+kernel) (by decide+kernel)) v0 (show(d22_1).small by(refine⟨?_, ?_, ?_, ?_, ?_⟩ <;> decide+kernel)) (.c6 v1 v10 v12 v9 v4 v5 (.c6 v11 v15 v18 v2 v3 v2 (.c6 v3 v7 v8 (show Ref (.tup [.agg [.q ((worldV (d22_1) ⟨⟨0,4⟩,0,[[(AV.q (1:Rat) 64)],[(AV.q (0:Rat) 64)]].map reQ⟩ 2 ⟨(0:Rat),((-2):Rat)⟩).x) (4*SZ 64+64+64+8),.q ((worldV (d22_1) ⟨⟨0,4⟩,0,[[(AV.q (1:Rat) 64)],[(AV.q (0:Rat) 64)]].map reQ⟩ 2 ⟨(0:Rat),((-2):Rat)⟩).z) (4*SZ 64+64+64+8)],.i6 (worldE (reMach (d22_0)) [[(AV.q (1:Rat) 64)],[(AV.q (0:Rat) 64)]].length 2)]) (.tup [.agg [.q 4 24008,.q 4 24008],.i6 (0:Int)]) from aw30 1 4 4 (by decide+kernel) (by decide+kernel)) v0 (show(d22_1).small by(refine⟨?_, ?_, ?_, ?_, ?_⟩ <;> decide+kernel)) (.c6 v1 v10 v12 v9 (show Ref (.list 3 [[.q (1:Rat) 64],[.q (0:Rat) 64]]) (.list 3 (([[(AV.q (1:Rat) 64)],[(AV.q (0:Rat) 64)]].map reQ).map (unQ 64))) from rr) (show [[(AV.q (1:Rat) 64)],[(AV.q (0:Rat) 64)]].length<=4611686018427387904 by decide+kernel) (.c6 v11 v2 v3 v2 v3 aw66 (.c6 v0 (show(d22_1).small by(refine⟨?_, ?_, ?_, ?_, ?_⟩ <;> decide+kernel)) v1 v10 v12 v9 (.c6 v4 v5 v2 v3 v2 v3 (.c6 v2 v3 v7 v8 v16 v19 (.c6 v16 v19 aw40 v0 (show(d22_1).small by(refine⟨?_, ?_, ?_, ?_, ?_⟩ <;> decide+kernel)) v1 (.c6 v10 v12 v9 v4 v5 (show 8*bS1 64 64 (lX 64 64 64) (lX 64 64 64)+8*bS2 64 64 (lX 64 64 64) (lX 64 64 64)+4*bS3 64 64 (lX 64 64 64) (lX 64 64 64)+400*bT 64 64 (lX 64 64 64) (lX 64 64 64)+20000<=LIM by decide+kernel) (.c6 (show 64+64+20*SZ 64+20000<=LIM by decide+kernel) (show Ref (.bool (decide (0=(0:Rat)/\0=(0:Rat)))) (.bool true) from Ref.bool (by decide+kernel)) v6 v6 v2 v3 (.c6 v2 v3 (show Ref (.bool (decide (4=(4:Rat)/\4=(4:Rat)))) (.bool true) from Ref.bool (by decide+kernel)) v6 v6 v17 (.c6 v20 v17 v20 (show Ref (.bool (decide (0=(0:Rat)/\3=(3:Rat)))) (.bool true) from Ref.bool (by decide+kernel)) v21 v21 (.c6 v2 v3 (dc ((-9223372036854775808:Int)<=3)) (dc (3<=(9223372036854775807:Int))) v13 v14 (.c6 v13 v14 v15 v18 (show Ref (.i6 (cmpQ 1 (1:Rat))) (.i6 (0:Int)) from Ref.eq (congrArg _ (by decide+kernel))) (show 18904124229+64+200<=LIM by decide+kernel) (.c6 v13 v14 (show(-9223372036854775808:Int)<=(-1) by decide+kernel) (show(-1)<=(9223372036854775807:Int) by decide+kernel) (show Ref (.i6 (cmpQ (-1) ((-1):Rat))) (.i6 (0:Int)) from Ref.eq (congrArg _ (by decide+kernel))) (show 1731164+64+200<=LIM by decide+kernel) (.a3 (dc (0<=(1:Int))) (dc ((1:Int)<2)) (show Ref (.i6 (Int.sign (0:Rat).num)) (.i6 (0:Int)) from Ref.eq (congrArg _ (by decide+kernel))))))))))))))))))))))
def k49:KF
 | [.agg [.str mn,.list 27 XB,.list 17 XS,.list 17 XT,.list 13 XD,.list 5 XF],.agg [.q ax A1,.q az A2,.q tu A3,.list 3 J]]=>some (.int .i64 (poseE (reMach [AV.str mn,AV.list 27 XB,AV.list 17 XS,AV.list 17 XT,AV.list 13 XD,AV.list 5 XF]) J.length),[[AV.str mn,AV.list 27 XB,AV.list 17 XS,AV.list 17 XT,AV.list 13 XD,AV.list 5 XF]=unMach 300 (reMach [AV.str mn,AV.list 27 XB,AV.list 17 XS,AV.list 17 XT,AV.list 13 XD,AV.list 5 XF]),(reMach [AV.str mn,AV.list 27 XB,AV.list 17 XS,AV.list 17 XT,AV.list 13 XD,AV.list 5 XF]).small,J.length<=4611686018427387904,XB.length<=4611686018427387904])
 | _=>none
theorem a49:Ctr 49 k49:=by
 refine ctr Tryz.f49 fun _ _ _ S w0 h ho=> ?_
 unfold k49 at h;split at h <;> cases h;rename_i mn XB XS XT XD XF ax A1 az A2 tu A3 J;obtain⟨o1,o2,o3,o4⟩:=ho.e4;have K:=kn.cons a103;have hb:((reMach [AV.str mn,AV.list 27 XB,AV.list 17 XS,AV.list 17 XT,AV.list 13 XD,AV.list 5 XF]).bodies.length:Int)=((XB.length:Nat):Int):=by simp[reMach]
 by_cases h1:(checkE (reMach [(AV.str mn),(AV.list 27 XB),(AV.list 17 XS),(AV.list 17 XT),(AV.list 13 XD),(AV.list 5 XF)]))=(0:Int)
 · by_cases h2:((J.length:Nat):Int)=(((XB.length:Nat):Int)-(1:Int))
   · exact rF K [(10,tt),(17,.i6 ((XB.length:Int)-(1:Int))),(19,ff)] (.a5 o1 o2 (iT h1) (wI ((XB.length:Int)-(1:Int)) ((XB.length:Int)-(1:Int)) (by first | assumption | omega)) (jF h2)) (V:=.i6 (checkE (reMach [.str mn,.list 27 XB,.list 17 XS,.list 17 XT,.list 13 XD,.list 5 XF]))) (Ref.int (by unfold poseE;rw[if_pos h1,hb,if_pos h2];exact h1))
   · exact rF K [(10,tt),(17,.i6 ((XB.length:Int)-(1:Int))),(19,tt)] (.a5 o1 o2 (iT h1) (wI ((XB.length:Int)-(1:Int)) ((XB.length:Int)-(1:Int)) (by first | assumption | omega)) (jT h2)) (V:=.i6 (2:Int)) (Ref.int (by unfold poseE;rw[if_pos h1,hb,if_neg h2]))
 · exact rF K [(10,ff)] (.a3 o1 o2 (iF h1)) (V:=.i6 (checkE (reMach [.str mn,.list 27 XB,.list 17 XS,.list 17 XT,.list 13 XD,.list 5 XF]))) (Ref.int (by unfold poseE;rw[if_neg h1]))
def k39:KF
 | [.agg M,.agg [.q ax jb,.q az A2,.q tu A3,.list 3 J],.int .i64 b]=>some (.int .i64 (legE (reMach M) J.length b),[M=unMach 300 (reMach M),(reMach M).small,(reMach M).bodies.length<=8,A2<=jb,A3<=jb,jb<=100000,Ref (.list 3 J) (.list 3 ((J.map reQ).map (unQ jb))),J.length<=4611686018427387904])
 | _=>none
theorem a39:Ctr 39 k39:=by
 refine ctr Tryz.f39 fun _ _ _ S w0 h ho=> ?_
 unfold k39 at h;split at h <;> cases h;rename_i M ax jb az A2 tu A3 J b;obtain⟨o1,o2,o3,o4,o5,o6,o7,o8⟩:=ho.e8;have K:=(kn.cons a49).cons a117;generalize hm:reMach M=m at*;subst o1;clear hm;obtain⟨p,hp⟩:∃ p:PoseD,p=⟨⟨ax,az⟩,tu,J.map reQ⟩:=⟨_,rfl⟩;have hpj:p.joints.length=J.length:=by rw[hp];simp
 try rw[<- hp]
 try rw[<- hpj]
 refine Good.weak 40 [(0,.agg (unMach 300 m)),(1,.agg (unPose jb p)),(2,.i6 b)] (by kernel_rfl) (.r (.cons (by rw[hp];exact Ref.pose o4 o5 o7) (.r .nil))) ?_;clear hp;have s1:unMach 300 m=unMach 300 (reMach (unMach 300 m)):=by rw[reMach_un]
 have s2:(reMach (unMach 300 m)).small:=by rw[reMach_un];exact o2
 have s3:(reMach (unMach 300 m)).bodies.length<=8:=by rw[reMach_un];exact o3
 have s4:Ref (.list 3 (p.joints.map (unQ jb))) (.list 3 (((p.joints.map (unQ jb)).map reQ).map (unQ jb))):=Ref.eq (by rw[reQ_un]);have s5:(p.joints.map (unQ jb)).length<=4611686018427387904:=by rw[lmE,hpj];exact o8
 have s7:SZ jb<=153753600:=by unfold SZ;omega
 have s8:LIM=17592186044416:=rfl;obtain⟨v,hv⟩:∃ v,v=loB m b:=⟨_,rfl⟩;have hbl:m.bodies.length<=8:=by rw[reMach_un] at s3;exact s3
 have v0:Ref (.i6 (poseE (reMach (unMach 300 m)) (p.joints.map (unQ jb)).length)) (.i6 (poseE m p.joints.length)):=by exact Ref.int (by rw[lmE];exact congrArg (fun x=>poseE x p.joints.length) (reMach_un m))
 have v1:(m.bodies.map (unBody 300)).length<=4611686018427387904:=by simp only[lmE] at*;omega
 by_cases h1:(poseE m p.joints.length)=(0:Int)
 · by_cases h2:b<(0:Int)
   · refine rF K [(10,.i6 (poseE m p.joints.length)),(13,tt),(16,tt)] (.c6 v0 s1 s2 s5 v1 (iT h1) (.a1 (iT h2))) (V:=.i6 (3:Int)) ?_
     have w:worldE m p.joints.length b=3:=by unfold worldE;rw[if_pos h1,if_neg (by simp only[lmE] at*;omega)]
     exact Ref.int (by unfold legE;rw[w];rfl)
   · by_cases h3:(((m.bodies.map (unBody 300)).length:Nat):Int)<=b
     · refine rF K [(10,.i6 (poseE m p.joints.length)),(13,tt),(16,ff),(23,tt)] (.c6 v0 s1 s2 s5 v1 (iT h1) (.a2 (iF h2) (iT h3))) (V:=.i6 (3:Int)) ?_
       have w:worldE m p.joints.length b=3:=by unfold worldE;rw[if_pos h1,if_neg (by simp only[lmE] at*;omega)]
       exact Ref.int (by unfold legE;rw[w];rfl)
     · by_cases h4:b=(0:Int)
       · refine rF K [(10,.i6 (poseE m p.joints.length)),(13,tt),(16,ff),(23,ff),(26,tt),(29,tt)] (.c6 v0 s1 s2 s5 v1 (iT h1) (.a4 (iF h2) (iF h3) (iT h1) (iT h4))) (V:=.i6 (2:Int)) ?_
         have w:worldE m p.joints.length b=0:=by unfold worldE;rw[if_pos h1,if_pos (by simp only[lmE] at*;omega)]
         exact Ref.int (by unfold legE;rw[w,if_pos rfl,if_pos (.inl h4)])
       · have v2:Ref (.cptr ((m.bodies.map (unBody 300)).getD b.toNat []) 0) (.cptr (unBody 300 v) 0):=by rw[hv];exact Ref.cmap (by simp only[lmE] at*;omega)
         have v3:b<((m.bodies.map (unBody 300)).length:Int):=by simp only[lmE] at*;omega
         have v4:0<=b:=by simp only[lmE] at*;omega
         by_cases h5:v.par=(0:Int)
         · refine rF K [(10,.i6 (poseE m p.joints.length)),(13,tt),(16,ff),(23,ff),(26,tt),(29,ff),(33,.cptr (unBody 300 v) 0),(38,tt)] (.c6 v0 s1 s2 s5 v1 (iT h1) (.c6 (iF h2) (iF h3) (iT h1) (iF h4) v2 v4 (.a2 v3 (iT h5)))) (V:=.i6 (2:Int)) ?_
           have w:worldE m p.joints.length b=0:=by unfold worldE;rw[if_pos h1,if_pos (by simp only[lmE] at*;omega)]
           exact Ref.int (by unfold legE;rw[w,if_pos rfl,if_pos (.inr (by rw[<- hv];exact h5))])
         · refine rF K [(10,.i6 (poseE m p.joints.length)),(13,tt),(16,ff),(23,ff),(26,tt),(29,ff),(33,.cptr (unBody 300 v) 0),(38,ff)] (.c6 v0 s1 s2 s5 v1 (iT h1) (.c6 (iF h2) (iF h3) (iT h1) (iF h4) v2 v4 (.a2 v3 (iF h5)))) (V:=.i6 (poseE m p.joints.length)) ?_
           have w:worldE m p.joints.length b=0:=by unfold worldE;rw[if_pos h1,if_pos (by simp only[lmE] at*;omega)]
           exact Ref.int (by unfold legE;rw[w,if_pos rfl,if_neg (by rw[<- hv];exact fun h=>h.elim h4 h5)];exact h1)
 · refine rF K [(10,.i6 (poseE m p.joints.length)),(13,ff),(26,ff)] (.c6 v0 s1 s2 s5 v1 (iF h1) (.a1 (iF h1))) (V:=.i6 (poseE m p.joints.length)) ?_
   have w:worldE m p.joints.length b=poseE m p.joints.length:=by unfold worldE;rw[if_neg h1]
   exact Ref.int (by unfold legE;rw[w,if_neg h1])
def KT4_ok:=((((((((((kn.cons a43).cons a42).cons a41).cons a40).cons a39).cons a30).cons a23).cons a22).cons a20).cons a19).cons a18
abbrev n4_0 (m:MachD) (p:PoseD):List (Option ABlk):=[some ⟨41,6,false,[(unMach 300 m)],none⟩,some ⟨61,10,false,[[.q p.at_.x 300,.q p.at_.z 300,.q p.turn 300,.list 3 (p.joints.map (unQ 300))]],none⟩]
abbrev n4_1 (ff:Func):List Item:=[.code (nav [1,1,1,1,1,1,1,1,1,1,1,1,1,1,0,1,0,0,1,0,0,1,1] (bodyOf ff)),.inBlock 3,.code (nav [1,1,1,1,1,1,1,1,1,1,1,1,1,1,0,1,0,0,1,1] (bodyOf ff)),.inLoop (nav [1,1,1,1,1,1,1,1,1,1,1,1,1,1,0,1,0,0] (bodyOf ff)),.inBlock 2,.code (nav [1,1,1,1,1,1,1,1,1,1,1,1,1,1,1] (bodyOf ff))]
abbrev n4_2 (ff:Func):List Item:=[.code (nav [1,1,1,1,1,1,1,1,1,1,1,1,1,1,0,1,0,0] (bodyOf ff)),.inLoop (nav [1,1,1,1,1,1,1,1,1,1,1,1,1,1,0,1,0,0] (bodyOf ff)),.inBlock 2,.code (nav [1,1,1,1,1,1,1,1,1,1,1,1,1,1,1] (bodyOf ff))]
abbrev n4_3 (c:Nat) (k:List BendD) (S1:Nat) (S2:Nat) (S3:Nat) (T:Nat) (u:Nat) (fd:Bool) (wi:Bool) (i:Nat) (is:Bool):List (Nat×AV):=[(2,(.i6 (c:Int))),(11,(.ptr 0 6 0 0)),(13,(.ptr 1 10 0 0)),(27,(.list 19 (k.map (unBend S1 S2 S3 T)))),(29,(.i6 (u:Int))),(30,(.bool fd)),(31,(.bool wi)),(32,(.i6 (i:Int))),(33,(.bool is))]
abbrev n4_4 (m:MachD) (p:PoseD) (x:PtD) (to:PtD):List (Option ABlk):=[some ⟨41,6,false,[(unMach 300 m)],none⟩,some ⟨61,10,false,[[.q p.at_.x 300,.q p.at_.z 300,.q p.turn 300,.list 3 (p.joints.map (unQ 300))]],none⟩,some ⟨58,6,false,[[.q x.x 300,.q x.z 300]],none⟩,some ⟨58,6,false,[[.q to.x 300,.q to.z 300]],none⟩]
abbrev n4_5 (ff:Func):List Item:=[.code (nav [1,1,1,1,1,1,1,1,1,1,1,1,1,1,0,1,0,0,1,0,0,1,0] (bodyOf ff)),.code (nav [1,1,1,1,1,1,1,1,1,1,1,1,1,1,0,1,0,0,1,0,0,1,1] (bodyOf ff)),.inBlock 3,.code (nav [1,1,1,1,1,1,1,1,1,1,1,1,1,1,0,1,0,0,1,1] (bodyOf ff)),.inLoop (nav [1,1,1,1,1,1,1,1,1,1,1,1,1,1,0,1,0,0] (bodyOf ff)),.inBlock 2,.code (nav [1,1,1,1,1,1,1,1,1,1,1,1,1,1,1] (bodyOf ff))]
abbrev n4_6 (m:MachD) (p:PoseD) (b:Int) (x:PtD) (q:PtD):AV:=(.tup [.list 19 ((bndsL (reMach (unMach 300 m)) ⟨⟨p.at_.x,p.at_.z⟩,p.turn,(p.joints.map (unQ 300)).map reQ⟩ b ⟨x.x,x.z⟩ ⟨q.x,q.z⟩).map (unBend (bS1 300 300 (lX 300 40528 40528) (lX 300 40528 40528)) (bS2 300 300 (lX 300 40528 40528) (lX 300 40528 40528)) (bS3 300 300 (lX 300 40528 40528) (lX 300 40528 40528)) (bT 300 300 (lX 300 40528 40528) (lX 300 40528 40528)))),.i6 (bndsE (reMach (unMach 300 m)) ⟨⟨p.at_.x,p.at_.z⟩,p.turn,(p.joints.map (unQ 300)).map reQ⟩ b ⟨x.x,x.z⟩ ⟨q.x,q.z⟩)])
abbrev n4_7 (m:MachD) (p:PoseD) (b:Int) (x:PtD):AV:=(.tup [.agg [.q ((worldV (reMach (unMach 300 m)) ⟨⟨p.at_.x,p.at_.z⟩,p.turn,(p.joints.map (unQ 300)).map reQ⟩ b ⟨x.x,x.z⟩).x) (4*SZ 300+300+300+8),.q ((worldV (reMach (unMach 300 m)) ⟨⟨p.at_.x,p.at_.z⟩,p.turn,(p.joints.map (unQ 300)).map reQ⟩ b ⟨x.x,x.z⟩).z) (4*SZ 300+300+300+8)],.i6 (worldE (reMach (unMach 300 m)) (p.joints.map (unQ 300)).length b)])
abbrev n4_8 (p:PoseD):List AV:=[.q p.at_.x 300,.q p.at_.z 300,.q p.turn 300,.list 3 (p.joints.map (unQ 300))]
abbrev n4_9 (p:PoseD):AV:=(.list 3 (((p.joints.map (unQ 300)).map reQ).map (unQ 300)))
abbrev n4_10 (q:PtD):AV:=(.tup [.agg [.q q.x 40528,.q q.z 40528],.i6 (0:Int)])
abbrev n4_11 (p:PoseD):AV:=(.tup [.agg (n4_8 p),.agg [.rq p.at_.x p.at_.x.den 300,.rq p.at_.z p.at_.z.den 300,.rq p.turn p.turn.den 300,.list 4 (p.joints.map (unRQ 300))]])
abbrev n4_12 (xs:SpotD) (ts:SpotD) (m:MachD) (p:PoseD):List (Option ABlk):=[some ⟨31,6,false,[(unSpot xs)],none⟩,some ⟨31,6,false,[(unSpot ts)],none⟩,some ⟨41,6,false,[(unMach 300 m)],none⟩,some ⟨61,10,false,[(n4_8 p)],none⟩]
abbrev n4_13 (ff:Func):List Item:=[.code (nav [1,1,1,1,1,1,1,1,1,0] (bodyOf ff)),.code (nav [1,1,1,1,1,1,1,1,1,1] (bodyOf ff))]
abbrev n4_14 (i:Nat):AV:=(.i6 (IntKind.i64.wrap ((i:Int)+(1:Int))))
abbrev n4_15 (b:Int):List (Nat×AV):=[(2,(.i6 b)),(11,(.ptr 0 6 0 0)),(13,(.ptr 1 10 0 0)),(15,(.ptr 2 6 0 0)),(17,(.ptr 3 6 0 0))]
section
variable {S0 C0:Nat->Prop} {w0:World} {Post:Value->World->Prop}
theorem p4_0_0 (r:RigD) (sd:StandD) (b:Int) (xs ts:SpotD) (m:MachD) (p:PoseD) (h1:(!(r.small))=true) (o:(Ref (.tup [.agg (unMach 300 (reRig [(AV.list 26 (r.limbs.map unLimb)),(AV.list 17 (r.springs.map unCord)),(AV.list 17 (r.tendons.map unCord)),(AV.list 13 (r.drives.map unDrive)),(AV.list 5 (r.soles.map unSole))]).real),.agg (unRMach 300 (reRig [(AV.list 26 (r.limbs.map unLimb)),(AV.list 17 (r.springs.map unCord)),(AV.list 17 (r.tendons.map unCord)),(AV.list 13 (r.drives.map unDrive)),(AV.list 5 (r.soles.map unSole))]).real)]) (.tup [.agg (unMach 300 m),.agg (unRMach 300 m)]))/\((unRig r)=unRig (reRig (unRig r)))/\((reRig [(AV.list 26 (r.limbs.map unLimb)),(AV.list 17 (r.springs.map unCord)),(AV.list 17 (r.tendons.map unCord)),(AV.list 13 (r.drives.map unDrive)),(AV.list 5 (r.soles.map unSole))]).ok)/\(Ref (.tup [.agg [.q (numV sd.at_.x.n sd.at_.x.d sd.at_.x.p) 300,.q (numV sd.at_.z.n sd.at_.z.d sd.at_.z.p) 300,.q (numV sd.turn.n sd.turn.d sd.turn.p) 300,.list 3 (numsP ((sd.joints.map unNum).map reNum))],.agg [.rq (numV sd.at_.x.n sd.at_.x.d sd.at_.x.p) ((numV sd.at_.x.n sd.at_.x.d sd.at_.x.p).den) 300,.rq (numV sd.at_.z.n sd.at_.z.d sd.at_.z.p) ((numV sd.at_.z.n sd.at_.z.d sd.at_.z.p).den) 300,.rq (numV sd.turn.n sd.turn.d sd.turn.p) ((numV sd.turn.n sd.turn.d sd.turn.p).den) 300,.list 4 (numsR ((sd.joints.map unNum).map reNum))]]) (.tup [.agg [.q p.at_.x 300,.q p.at_.z 300,.q p.turn 300,.list 3 (p.joints.map (unQ 300))],.agg [.rq p.at_.x p.at_.x.den 300,.rq p.at_.z p.at_.z.den 300,.rq p.turn p.turn.den 300,.list 4 (p.joints.map (unRQ 300))]]))/\(okN sd.at_.x.n sd.at_.x.d sd.at_.x.p)/\(okN sd.at_.z.n sd.at_.z.d sd.at_.z.p)/\(okN sd.turn.n sd.turn.d sd.turn.p)/\((sd.joints.map unNum)=((sd.joints.map unNum).map reNum).map unNum)/\(∀ s∈(sd.joints.map unNum).map reNum,s.ok)/\((sd.joints.map unNum).length*128<=140737488355328)/\(Ref (.bool ((reRig [(AV.list 26 (r.limbs.map unLimb)),(AV.list 17 (r.springs.map unCord)),(AV.list 17 (r.tendons.map unCord)),(AV.list 13 (r.drives.map unDrive)),(AV.list 5 (r.soles.map unSole))]).small)) (.bool (r.small))))
   (hg:Good Tryz.prog 4 S0 C0 w0 Post [.code .ret,.code (nav [1,1,1,1] (bodyOf Tryz.f4))] ⟨slots 248 [(2,.i6 b),(8,.ptr 0 6 0 0),(9,.ptr 1 6 0 0),(10,.bool true),(11,.ptr 2 6 0 0),(13,.ptr 3 10 0 0)],(n4_12 xs ts m p)⟩):
   Good Tryz.prog 4 S0 C0 w0 Post [.code (nav [] (bodyOf Tryz.f4))] ⟨slots 248 [(0,.agg (unRig r)),(1,.agg [.i6 sd.at_.x.n,.i6 sd.at_.x.d,.int .u8 sd.at_.x.p,.i6 sd.at_.z.n,.i6 sd.at_.z.d,.int .u8 sd.at_.z.p,.i6 sd.turn.n,.i6 sd.turn.d,.int .u8 sd.turn.p,.list 3 (sd.joints.map unNum)]),(2,.i6 b),(3,.agg (unSpot xs)),(4,.agg (unSpot ts))],[]⟩:=
 goR mixed TT0_ok KT4_ok 17 (some 5) [2,8,9,10,11,13] [2,3,5,8] [(40,(.tup [.agg (unMach 300 m),.agg (unRMach 300 m)])),(45,(n4_11 p)),(49,(.bool (r.small))),(51,(.bool true))] (ob:=[Ref (.tup [.agg (unMach 300 (reRig [(AV.list 26 (r.limbs.map unLimb)),(AV.list 17 (r.springs.map unCord)),(AV.list 17 (r.tendons.map unCord)),(AV.list 13 (r.drives.map unDrive)),(AV.list 5 (r.soles.map unSole))]).real),.agg (unRMach 300 (reRig [(AV.list 26 (r.limbs.map unLimb)),(AV.list 17 (r.springs.map unCord)),(AV.list 17 (r.tendons.map unCord)),(AV.list 13 (r.drives.map unDrive)),(AV.list 5 (r.soles.map unSole))]).real)]) (.tup [.agg (unMach 300 m),.agg (unRMach 300 m)]),(unRig r)=unRig (reRig (unRig r)),(reRig [(AV.list 26 (r.limbs.map unLimb)),(AV.list 17 (r.springs.map unCord)),(AV.list 17 (r.tendons.map unCord)),(AV.list 13 (r.drives.map unDrive)),(AV.list 5 (r.soles.map unSole))]).ok,Ref (.tup [.agg [.q (numV sd.at_.x.n sd.at_.x.d sd.at_.x.p) 300,.q (numV sd.at_.z.n sd.at_.z.d sd.at_.z.p) 300,.q (numV sd.turn.n sd.turn.d sd.turn.p) 300,.list 3 (numsP ((sd.joints.map unNum).map reNum))],.agg [.rq (numV sd.at_.x.n sd.at_.x.d sd.at_.x.p) ((numV sd.at_.x.n sd.at_.x.d sd.at_.x.p).den) 300,.rq (numV sd.at_.z.n sd.at_.z.d sd.at_.z.p) ((numV sd.at_.z.n sd.at_.z.d sd.at_.z.p).den) 300,.rq (numV sd.turn.n sd.turn.d sd.turn.p) ((numV sd.turn.n sd.turn.d sd.turn.p).den) 300,.list 4 (numsR ((sd.joints.map unNum).map reNum))]]) (n4_11 p),okN sd.at_.x.n sd.at_.x.d sd.at_.x.p,okN sd.at_.z.n sd.at_.z.d sd.at_.z.p,okN sd.turn.n sd.turn.d sd.turn.p,(sd.joints.map unNum)=((sd.joints.map unNum).map reNum).map unNum,∀ s∈(sd.joints.map unNum).map reNum,s.ok,(sd.joints.map unNum).length*128<=140737488355328,Ref (.bool ((reRig [(AV.list 26 (r.limbs.map unLimb)),(AV.list 17 (r.springs.map unCord)),(AV.list 17 (r.tendons.map unCord)),(AV.list 13 (r.drives.map unDrive)),(AV.list 5 (r.soles.map unSole))]).small)) (.bool (r.small)),(unRig r)=unRig (reRig (unRig r)),(reRig [(AV.list 26 (r.limbs.map unLimb)),(AV.list 17 (r.springs.map unCord)),(AV.list 17 (r.tendons.map unCord)),(AV.list 13 (r.drives.map unDrive)),(AV.list 5 (r.soles.map unSole))]).ok,Ref (.bool (!(r.small))) (.bool true)]) (by decide) (by kernel_rfl)
   (.cons (o.1) (.cons (o.2.1) (.cons (o.2.2.1) (.cons (o.2.2.2.1) (.cons (o.2.2.2.2.1) (.cons (o.2.2.2.2.2.1) (.cons (o.2.2.2.2.2.2.1) (.cons (o.2.2.2.2.2.2.2.1) (.cons (o.2.2.2.2.2.2.2.2.1) (.cons (o.2.2.2.2.2.2.2.2.2.1) (.cons (o.2.2.2.2.2.2.2.2.2.2) (.cons (o.2.1) (.cons (o.2.2.1) (.cons (Ref.bool h1) (AllP.nil))))))))))))))) hg
theorem p4_1_0 (xs ts:SpotD) (m:MachD) (p:PoseD) (b:Int) (x to:PtD) (l:List BendD) (e:Int) (S1 S2 S3 T:Nat)  (o:(Ref (.tup [.agg [.q (numV xs.x.n xs.x.d xs.x.p) 300,.q (numV xs.z.n xs.z.d xs.z.p) 300],.agg [.rq (numV xs.x.n xs.x.d xs.x.p) ((numV xs.x.n xs.x.d xs.x.p).den) 300,.rq (numV xs.z.n xs.z.d xs.z.p) ((numV xs.z.n xs.z.d xs.z.p).den) 300]]) (.tup [.agg [.q x.x 300,.q x.z 300],.agg (unRP 300 x)]))/\(okN xs.x.n xs.x.d xs.x.p)/\(okN xs.z.n xs.z.d xs.z.p)/\(Ref (.tup [.agg [.q (numV ts.x.n ts.x.d ts.x.p) 300,.q (numV ts.z.n ts.z.d ts.z.p) 300],.agg [.rq (numV ts.x.n ts.x.d ts.x.p) ((numV ts.x.n ts.x.d ts.x.p).den) 300,.rq (numV ts.z.n ts.z.d ts.z.p) ((numV ts.z.n ts.z.d ts.z.p).den) 300]]) (.tup [.agg [.q to.x 300,.q to.z 300],.agg (unRP 300 to)]))/\(okN ts.x.n ts.x.d ts.x.p)/\(okN ts.z.n ts.z.d ts.z.p)/\(Ref (.tup [.list 19 ((bndsL (reMach (unMach 300 m)) ⟨⟨p.at_.x,p.at_.z⟩,p.turn,(p.joints.map (unQ 300)).map reQ⟩ b ⟨x.x,x.z⟩ ⟨to.x,to.z⟩).map (unBend (bS1 300 300 (lX 300 300 300) (lX 300 300 300)) (bS2 300 300 (lX 300 300 300) (lX 300 300 300)) (bS3 300 300 (lX 300 300 300) (lX 300 300 300)) (bT 300 300 (lX 300 300 300) (lX 300 300 300)))),.i6 (bndsE (reMach (unMach 300 m)) ⟨⟨p.at_.x,p.at_.z⟩,p.turn,(p.joints.map (unQ 300)).map reQ⟩ b ⟨x.x,x.z⟩ ⟨to.x,to.z⟩)]) (.tup [.list 19 (l.map (unBend S1 S2 S3 T)),.i6 e]))/\((unMach 300 m)=unMach 300 (reMach (unMach 300 m)))/\((reMach (unMach 300 m)).small)/\((reMach (unMach 300 m)).bodies.length<=8)/\(Ref (.list 3 (p.joints.map (unQ 300))) (.list 3 (((p.joints.map (unQ 300)).map reQ).map (unQ 300))))/\((p.joints.map (unQ 300)).length<=4611686018427387904)/\(8*bS1 300 300 (lX 300 300 300) (lX 300 300 300)+8*bS2 300 300 (lX 300 300 300) (lX 300 300 300)+4*bS3 300 300 (lX 300 300 300) (lX 300 300 300)+400*bT 300 300 (lX 300 300 300) (lX 300 300 300)+20000<=LIM)/\(300+300+20*SZ 300+20000<=LIM))
   (hg:Good Tryz.prog 4 S0 C0 w0 Post [.code (nav [1,1,1,1,1,1,1,0,1,0,0] (bodyOf Tryz.f4)),.inLoop (nav [1,1,1,1,1,1,1,0,1,0,0] (bodyOf Tryz.f4)),.inBlock 0,.code (nav [1,1,1,1,1,1,1,1] (bodyOf Tryz.f4))] ⟨slots 248 [(2,.i6 b),(11,.ptr 0 6 0 0),(13,.ptr 1 10 0 0),(15,.ptr 2 6 0 0),(17,.ptr 3 6 0 0),(19,.list 19 (l.map (unBend S1 S2 S3 T))),(20,.i6 e),(21,.i6 (0:Int))],(n4_4 m p x to)⟩):
   Good Tryz.prog 4 S0 C0 w0 Post [.code (nav [1,1,1,1,0] (bodyOf Tryz.f4)),.code (nav [1,1,1,1,1] (bodyOf Tryz.f4))] ⟨slots 248 [(2,.i6 b),(8,.ptr 0 6 0 0),(9,.ptr 1 6 0 0),(10,.bool false),(11,.ptr 2 6 0 0),(13,.ptr 3 10 0 0)],(n4_12 xs ts m p)⟩:=
 goR mixed TT0_ok KT4_ok 15 none [2,11,13,15,17,19,20,21] [2,3,5,8] [(67,(.tup [.agg [.q x.x 300,.q x.z 300],.agg (unRP 300 x)])),(72,(.tup [.agg [.q to.x 300,.q to.z 300],.agg (unRP 300 to)])),(81,(.tup [.list 19 (l.map (unBend S1 S2 S3 T)),.i6 e]))] (ob:=[Ref (.tup [.agg [.q (numV xs.x.n xs.x.d xs.x.p) 300,.q (numV xs.z.n xs.z.d xs.z.p) 300],.agg [.rq (numV xs.x.n xs.x.d xs.x.p) ((numV xs.x.n xs.x.d xs.x.p).den) 300,.rq (numV xs.z.n xs.z.d xs.z.p) ((numV xs.z.n xs.z.d xs.z.p).den) 300]]) (.tup [.agg [.q x.x 300,.q x.z 300],.agg (unRP 300 x)]),okN xs.x.n xs.x.d xs.x.p,okN xs.z.n xs.z.d xs.z.p,Ref (.tup [.agg [.q (numV ts.x.n ts.x.d ts.x.p) 300,.q (numV ts.z.n ts.z.d ts.z.p) 300],.agg [.rq (numV ts.x.n ts.x.d ts.x.p) ((numV ts.x.n ts.x.d ts.x.p).den) 300,.rq (numV ts.z.n ts.z.d ts.z.p) ((numV ts.z.n ts.z.d ts.z.p).den) 300]]) (.tup [.agg [.q to.x 300,.q to.z 300],.agg (unRP 300 to)]),okN ts.x.n ts.x.d ts.x.p,okN ts.z.n ts.z.d ts.z.p,Ref (.tup [.list 19 ((bndsL (reMach (unMach 300 m)) ⟨⟨p.at_.x,p.at_.z⟩,p.turn,(p.joints.map (unQ 300)).map reQ⟩ b ⟨x.x,x.z⟩ ⟨to.x,to.z⟩).map (unBend (bS1 300 300 (lX 300 300 300) (lX 300 300 300)) (bS2 300 300 (lX 300 300 300) (lX 300 300 300)) (bS3 300 300 (lX 300 300 300) (lX 300 300 300)) (bT 300 300 (lX 300 300 300) (lX 300 300 300)))),.i6 (bndsE (reMach (unMach 300 m)) ⟨⟨p.at_.x,p.at_.z⟩,p.turn,(p.joints.map (unQ 300)).map reQ⟩ b ⟨x.x,x.z⟩ ⟨to.x,to.z⟩)]) (.tup [.list 19 (l.map (unBend S1 S2 S3 T)),.i6 e]),(unMach 300 m)=unMach 300 (reMach (unMach 300 m)),(reMach (unMach 300 m)).small,(reMach (unMach 300 m)).bodies.length<=8,300<=300,300<=300,300<=100000,Ref (.list 3 (p.joints.map (unQ 300))) (n4_9 p),(p.joints.map (unQ 300)).length<=4611686018427387904,8*bS1 300 300 (lX 300 300 300) (lX 300 300 300)+8*bS2 300 300 (lX 300 300 300) (lX 300 300 300)+4*bS3 300 300 (lX 300 300 300) (lX 300 300 300)+400*bT 300 300 (lX 300 300 300) (lX 300 300 300)+20000<=LIM,300+300+20*SZ 300+20000<=LIM]) (by decide) (by kernel_rfl)
   (.cons (o.1) (.cons (o.2.1) (.cons (o.2.2.1) (.cons (o.2.2.2.1) (.cons (o.2.2.2.2.1) (.cons (o.2.2.2.2.2.1) (.cons (o.2.2.2.2.2.2.1) (.cons (o.2.2.2.2.2.2.2.1) (.cons (o.2.2.2.2.2.2.2.2.1) (.cons (o.2.2.2.2.2.2.2.2.2.1) (.cons (by decide) (.cons (by decide) (.cons (by decide) (.cons (o.2.2.2.2.2.2.2.2.2.2.1) (.cons (o.2.2.2.2.2.2.2.2.2.2.2.1) (.cons (o.2.2.2.2.2.2.2.2.2.2.2.2.1) (.cons (o.2.2.2.2.2.2.2.2.2.2.2.2.2) (AllP.nil)))))))))))))))))) hg
theorem p4_3_0 (m:MachD) (p:PoseD) (b:Int) (x to q:PtD) (k:List BendD) (h:Int) (S1 S2 S3 T u:Nat) (v:BodyD) (h1:¬ (h=(0:Int))) (o:(Ref (.tup [.agg [.q ((worldV (reMach (unMach 300 m)) ⟨⟨p.at_.x,p.at_.z⟩,p.turn,(p.joints.map (unQ 300)).map reQ⟩ b ⟨x.x,x.z⟩).x) (4*SZ 300+300+300+8),.q ((worldV (reMach (unMach 300 m)) ⟨⟨p.at_.x,p.at_.z⟩,p.turn,(p.joints.map (unQ 300)).map reQ⟩ b ⟨x.x,x.z⟩).z) (4*SZ 300+300+300+8)],.i6 (worldE (reMach (unMach 300 m)) (p.joints.map (unQ 300)).length b)]) (.tup [.agg [.q q.x 40528,.q q.z 40528],.i6 (0:Int)]))/\((unMach 300 m)=unMach 300 (reMach (unMach 300 m)))/\((reMach (unMach 300 m)).small)/\((reMach (unMach 300 m)).bodies.length<=8)/\(Ref (.list 3 (p.joints.map (unQ 300))) (.list 3 (((p.joints.map (unQ 300)).map reQ).map (unQ 300))))/\((p.joints.map (unQ 300)).length<=4611686018427387904)/\(8*SZ 300+2*300+2*300+400<=LIM)/\(Ref (.tup [.list 19 ((bndsL (reMach (unMach 300 m)) ⟨⟨p.at_.x,p.at_.z⟩,p.turn,(p.joints.map (unQ 300)).map reQ⟩ b ⟨x.x,x.z⟩ ⟨q.x,q.z⟩).map (unBend (bS1 300 300 (lX 300 40528 40528) (lX 300 40528 40528)) (bS2 300 300 (lX 300 40528 40528) (lX 300 40528 40528)) (bS3 300 300 (lX 300 40528 40528) (lX 300 40528 40528)) (bT 300 300 (lX 300 40528 40528) (lX 300 40528 40528)))),.i6 (bndsE (reMach (unMach 300 m)) ⟨⟨p.at_.x,p.at_.z⟩,p.turn,(p.joints.map (unQ 300)).map reQ⟩ b ⟨x.x,x.z⟩ ⟨q.x,q.z⟩)]) (.tup [.list 19 (k.map (unBend S1 S2 S3 T)),.i6 h]))/\(8*bS1 300 300 (lX 300 40528 40528) (lX 300 40528 40528)+8*bS2 300 300 (lX 300 40528 40528) (lX 300 40528 40528)+4*bS3 300 300 (lX 300 40528 40528) (lX 300 40528 40528)+400*bT 300 300 (lX 300 40528 40528) (lX 300 40528 40528)+20000<=LIM)/\(40528+40528+20*SZ 300+20000<=LIM)/\(Ref (.bool (decide (h=(10:Int)))) (.bool true)))
   (hg:Good Tryz.prog 4 S0 C0 w0 Post [.code .ret,.code (nav [1,1,1,1,1,1,1,1,1,1,1,1] (bodyOf Tryz.f4))] ⟨slots 248 [(2,.i6 b),(10,.bool true),(11,.ptr 0 6 0 0),(13,.ptr 1 10 0 0),(27,.list 19 (k.map (unBend S1 S2 S3 T)))],(n4_0 m p)⟩):
   Good Tryz.prog 4 S0 C0 w0 Post (n4_13 Tryz.f4) ⟨slots 248 (n4_15 b),(n4_4 m p x to)⟩:=
 goR mixed TT0_ok KT4_ok 14 none [2,10,11,13,27,29,30,31,32] [0,1] [(130,(n4_10 q)),(139,(.tup [.list 19 (k.map (unBend S1 S2 S3 T)),.i6 h])),(147,(.bool true)),(152,(.bool true))] (ob:=[Ref (n4_7 m p b x) (n4_10 q),(unMach 300 m)=unMach 300 (reMach (unMach 300 m)),(reMach (unMach 300 m)).small,(reMach (unMach 300 m)).bodies.length<=8,300<=300,300<=300,300<=100000,Ref (.list 3 (p.joints.map (unQ 300))) (n4_9 p),(p.joints.map (unQ 300)).length<=4611686018427387904,8*SZ 300+2*300+2*300+400<=LIM,Ref (n4_6 m p b x q) (.tup [.list 19 (k.map (unBend S1 S2 S3 T)),.i6 h]),(unMach 300 m)=unMach 300 (reMach (unMach 300 m)),(reMach (unMach 300 m)).small,(reMach (unMach 300 m)).bodies.length<=8,300<=300,300<=300,300<=100000,Ref (.list 3 (p.joints.map (unQ 300))) (n4_9 p),(p.joints.map (unQ 300)).length<=4611686018427387904,8*bS1 300 300 (lX 300 40528 40528) (lX 300 40528 40528)+8*bS2 300 300 (lX 300 40528 40528) (lX 300 40528 40528)+4*bS3 300 300 (lX 300 40528 40528) (lX 300 40528 40528)+400*bT 300 300 (lX 300 40528 40528) (lX 300 40528 40528)+20000<=LIM,40528+40528+20*SZ 300+20000<=LIM,Ref (.bool (!decide (h=(0:Int)))) (.bool true),Ref (.bool (decide (h=(10:Int)))) (.bool true)]) (by decide) (by kernel_rfl)
   (.cons (o.1) (.cons (o.2.1) (.cons (o.2.2.1) (.cons (o.2.2.2.1) (.cons (by decide) (.cons (by decide) (.cons (by decide) (.cons (o.2.2.2.2.1) (.cons (o.2.2.2.2.2.1) (.cons (o.2.2.2.2.2.2.1) (.cons (o.2.2.2.2.2.2.2.1) (.cons (o.2.1) (.cons (o.2.2.1) (.cons (o.2.2.2.1) (.cons (by decide) (.cons (by decide) (.cons (by decide) (.cons (o.2.2.2.2.1) (.cons (o.2.2.2.2.2.1) (.cons (o.2.2.2.2.2.2.2.2.1) (.cons (o.2.2.2.2.2.2.2.2.2.1) (.cons (Ref.bool (congrArg Bool.not (decide_eq_false h1))) (.cons (o.2.2.2.2.2.2.2.2.2.2) (AllP.nil)))))))))))))))))))))))) hg
theorem p4_3_1 (m:MachD) (p:PoseD) (b:Int) (x to q:PtD) (k:List BendD) (h:Int) (S1 S2 S3 T u:Nat) (v:BodyD) (h1:h=(0:Int)) (o:(Ref (.tup [.agg [.q ((worldV (reMach (unMach 300 m)) ⟨⟨p.at_.x,p.at_.z⟩,p.turn,(p.joints.map (unQ 300)).map reQ⟩ b ⟨x.x,x.z⟩).x) (4*SZ 300+300+300+8),.q ((worldV (reMach (unMach 300 m)) ⟨⟨p.at_.x,p.at_.z⟩,p.turn,(p.joints.map (unQ 300)).map reQ⟩ b ⟨x.x,x.z⟩).z) (4*SZ 300+300+300+8)],.i6 (worldE (reMach (unMach 300 m)) (p.joints.map (unQ 300)).length b)]) (.tup [.agg [.q q.x 40528,.q q.z 40528],.i6 (0:Int)]))/\((unMach 300 m)=unMach 300 (reMach (unMach 300 m)))/\((reMach (unMach 300 m)).small)/\((reMach (unMach 300 m)).bodies.length<=8)/\(Ref (.list 3 (p.joints.map (unQ 300))) (.list 3 (((p.joints.map (unQ 300)).map reQ).map (unQ 300))))/\((p.joints.map (unQ 300)).length<=4611686018427387904)/\(8*SZ 300+2*300+2*300+400<=LIM)/\(Ref (.tup [.list 19 ((bndsL (reMach (unMach 300 m)) ⟨⟨p.at_.x,p.at_.z⟩,p.turn,(p.joints.map (unQ 300)).map reQ⟩ b ⟨x.x,x.z⟩ ⟨q.x,q.z⟩).map (unBend (bS1 300 300 (lX 300 40528 40528) (lX 300 40528 40528)) (bS2 300 300 (lX 300 40528 40528) (lX 300 40528 40528)) (bS3 300 300 (lX 300 40528 40528) (lX 300 40528 40528)) (bT 300 300 (lX 300 40528 40528) (lX 300 40528 40528)))),.i6 (bndsE (reMach (unMach 300 m)) ⟨⟨p.at_.x,p.at_.z⟩,p.turn,(p.joints.map (unQ 300)).map reQ⟩ b ⟨x.x,x.z⟩ ⟨q.x,q.z⟩)]) (.tup [.list 19 (k.map (unBend S1 S2 S3 T)),.i6 h]))/\(8*bS1 300 300 (lX 300 40528 40528) (lX 300 40528 40528)+8*bS2 300 300 (lX 300 40528 40528) (lX 300 40528 40528)+4*bS3 300 300 (lX 300 40528 40528) (lX 300 40528 40528)+400*bT 300 300 (lX 300 40528 40528) (lX 300 40528 40528)+20000<=LIM)/\(40528+40528+20*SZ 300+20000<=LIM)/\(Ref (.cptr ((m.bodies.map (unBody 300)).getD b.toNat []) 0) (.cptr (unBody 300 v) 0))/\(0<=b)/\(b<((m.bodies.map (unBody 300)).length:Int))/\(Ref (.i6 v.par) (.i6 (u:Int))))
   (hg:Good Tryz.prog 4 S0 C0 w0 Post (n4_2 Tryz.f4) ⟨slots 248 [(2,.i6 b),(11,.ptr 0 6 0 0),(13,.ptr 1 10 0 0),(27,.list 19 (k.map (unBend S1 S2 S3 T))),(29,.i6 (u:Int)),(30,.bool false),(31,.bool false),(32,.i6 (0:Int))],(n4_0 m p)⟩):
   Good Tryz.prog 4 S0 C0 w0 Post (n4_13 Tryz.f4) ⟨slots 248 (n4_15 b),(n4_4 m p x to)⟩:=
 goR mixed TT0_ok KT4_ok 22 none [2,10,11,13,27,29,30,31,32] [0,1] [(130,(n4_10 q)),(139,(.tup [.list 19 (k.map (unBend S1 S2 S3 T)),.i6 h])),(147,(.bool false)),(160,(.cptr (unBody 300 v) 0)),(162,(.i6 (u:Int)))] (ob:=[Ref (n4_7 m p b x) (n4_10 q),(unMach 300 m)=unMach 300 (reMach (unMach 300 m)),(reMach (unMach 300 m)).small,(reMach (unMach 300 m)).bodies.length<=8,300<=300,300<=300,300<=100000,Ref (.list 3 (p.joints.map (unQ 300))) (n4_9 p),(p.joints.map (unQ 300)).length<=4611686018427387904,8*SZ 300+2*300+2*300+400<=LIM,Ref (n4_6 m p b x q) (.tup [.list 19 (k.map (unBend S1 S2 S3 T)),.i6 h]),(unMach 300 m)=unMach 300 (reMach (unMach 300 m)),(reMach (unMach 300 m)).small,(reMach (unMach 300 m)).bodies.length<=8,300<=300,300<=300,300<=100000,Ref (.list 3 (p.joints.map (unQ 300))) (n4_9 p),(p.joints.map (unQ 300)).length<=4611686018427387904,8*bS1 300 300 (lX 300 40528 40528) (lX 300 40528 40528)+8*bS2 300 300 (lX 300 40528 40528) (lX 300 40528 40528)+4*bS3 300 300 (lX 300 40528 40528) (lX 300 40528 40528)+400*bT 300 300 (lX 300 40528 40528) (lX 300 40528 40528)+20000<=LIM,40528+40528+20*SZ 300+20000<=LIM,Ref (.bool (!decide (h=(0:Int)))) (.bool false),Ref (.cptr ((m.bodies.map (unBody 300)).getD b.toNat []) 0) (.cptr (unBody 300 v) 0),0<=b,b<((m.bodies.map (unBody 300)).length:Int),Ref (.i6 v.par) (.i6 (u:Int))]) (by decide) (by kernel_rfl)
   (.cons (o.1) (.cons (o.2.1) (.cons (o.2.2.1) (.cons (o.2.2.2.1) (.cons (by decide) (.cons (by decide) (.cons (by decide) (.cons (o.2.2.2.2.1) (.cons (o.2.2.2.2.2.1) (.cons (o.2.2.2.2.2.2.1) (.cons (o.2.2.2.2.2.2.2.1) (.cons (o.2.1) (.cons (o.2.2.1) (.cons (o.2.2.2.1) (.cons (by decide) (.cons (by decide) (.cons (by decide) (.cons (o.2.2.2.2.1) (.cons (o.2.2.2.2.2.1) (.cons (o.2.2.2.2.2.2.2.2.1) (.cons (o.2.2.2.2.2.2.2.2.2.1) (.cons (Ref.bool (congrArg Bool.not (decide_eq_true h1))) (.cons (o.2.2.2.2.2.2.2.2.2.2.1) (.cons (o.2.2.2.2.2.2.2.2.2.2.2.1) (.cons (o.2.2.2.2.2.2.2.2.2.2.2.2.1) (.cons (o.2.2.2.2.2.2.2.2.2.2.2.2.2) (AllP.nil))))))))))))))))))))))))))) hg
theorem p4_5_0 (m:MachD) (p:PoseD) (k:List BendD) (S1 S2 S3 T i u c:Nat) (fd wi is:Bool) (h1:fd=true)
   (hg:Good Tryz.prog 4 S0 C0 w0 Post (n4_1 Tryz.f4) ⟨slots 248 [(2,.i6 (c:Int)),(11,.ptr 0 6 0 0),(13,.ptr 1 10 0 0),(27,.list 19 (k.map (unBend S1 S2 S3 T))),(29,.i6 (u:Int)),(30,.bool true),(31,.bool wi),(32,.i6 (i:Int)),(33,.bool is)],(n4_0 m p)⟩):
   Good Tryz.prog 4 S0 C0 w0 Post (n4_5 Tryz.f4) ⟨slots 248 (n4_3 c k S1 S2 S3 T u fd wi i is),(n4_0 m p)⟩:=
 go mixed TT0_ok KT4_ok 6 (some 27) [2,11,13,27,29,30,31,32,33] [(196,(.bool true))] (ob:=[Ref (.bool fd) (.bool true)]) (by kernel_rfl)
   (.cons (Ref.bool h1) (AllP.nil)) hg
theorem p4_5_1 (m:MachD) (p:PoseD) (k:List BendD) (S1 S2 S3 T i u c:Nat) (fd wi is:Bool) (h1:fd=false)
   (hg:Good Tryz.prog 4 S0 C0 w0 Post (n4_1 Tryz.f4) ⟨slots 248 [(2,.i6 (c:Int)),(11,.ptr 0 6 0 0),(13,.ptr 1 10 0 0),(27,.list 19 (k.map (unBend S1 S2 S3 T))),(29,.i6 (u:Int)),(30,.bool is),(31,.bool wi),(32,.i6 (i:Int)),(33,.bool is)],(n4_0 m p)⟩):
   Good Tryz.prog 4 S0 C0 w0 Post (n4_5 Tryz.f4) ⟨slots 248 (n4_3 c k S1 S2 S3 T u fd wi i is),(n4_0 m p)⟩:=
 go mixed TT0_ok KT4_ok 6 (some 27) [2,11,13,27,29,30,31,32,33] [(196,(.bool false))] (ob:=[Ref (.bool fd) (.bool false)]) (by kernel_rfl)
   (.cons (Ref.bool h1) (AllP.nil)) hg
theorem p4_6_0 (m:MachD) (p:PoseD) (k:List BendD) (S1 S2 S3 T i u c:Nat) (fd wi is:Bool) (y:BendD) (h1:wi=true) (o:(-9223372036854775808<=(i:Int)+(1:Int)/\(i:Int)+(1:Int)<=9223372036854775807))
   (hg:Good Tryz.prog 4 S0 C0 w0 Post (n4_2 Tryz.f4) ⟨slots 248 [(2,.i6 (c:Int)),(11,.ptr 0 6 0 0),(13,.ptr 1 10 0 0),(27,.list 19 (k.map (unBend S1 S2 S3 T))),(29,.i6 (u:Int)),(30,.bool fd),(31,.bool true),(32,.i6 ((i+1:Nat):Int))],(n4_0 m p)⟩):
   Good Tryz.prog 4 S0 C0 w0 Post (n4_1 Tryz.f4) ⟨slots 248 (n4_3 c k S1 S2 S3 T u fd wi i is),(n4_0 m p)⟩:=
 go mixed TT0_ok KT4_ok 9 none [2,11,13,27,29,30,31,32] [(200,(.bool true)),(168,(.i6 ((i+1:Nat):Int)))] (ob:=[Ref (.bool wi) (.bool true),Ref (n4_14 i) (.i6 ((i+1:Nat):Int))]) (by kernel_rfl)
   (.cons (Ref.bool h1) (.cons ((Ref.wr o).trans (Ref.int (by first | rfl | omega | simp))) (AllP.nil))) hg
theorem p4_6_1 (m:MachD) (p:PoseD) (k:List BendD) (S1 S2 S3 T i u c:Nat) (fd wi is:Bool) (y:BendD) (h1:wi=false) (h2:is=true) (o:(Ref (.cptr ((k.map (unBend S1 S2 S3 T)).getD i []) 0) (.cptr (unBend S1 S2 S3 T y) 0))/\((i:Int)<((k.map (unBend S1 S2 S3 T)).length:Int))/\(-9223372036854775808<=(i:Int)+(1:Int)/\(i:Int)+(1:Int)<=9223372036854775807))
   (hg:Good Tryz.prog 4 S0 C0 w0 Post (n4_2 Tryz.f4) ⟨slots 248 [(2,.i6 (c:Int)),(11,.ptr 0 6 0 0),(13,.ptr 1 10 0 0),(27,.list 19 (k.map (unBend S1 S2 S3 T))),(29,.i6 (u:Int)),(30,.bool fd),(31,.bool y.w),(32,.i6 ((i+1:Nat):Int))],(n4_0 m p)⟩):
   Good Tryz.prog 4 S0 C0 w0 Post (n4_1 Tryz.f4) ⟨slots 248 (n4_3 c k S1 S2 S3 T u fd wi i is),(n4_0 m p)⟩:=
 go mixed TT0_ok KT4_ok 9 none [2,11,13,27,29,30,31,32] [(200,(.bool false)),(202,(.bool true)),(205,(.cptr (unBend S1 S2 S3 T y) 0)),(168,(.i6 ((i+1:Nat):Int)))] (ob:=[Ref (.bool wi) (.bool false),Ref (.bool is) (.bool true),Ref (.cptr ((k.map (unBend S1 S2 S3 T)).getD i []) 0) (.cptr (unBend S1 S2 S3 T y) 0),0<=(i:Int),(i:Int)<((k.map (unBend S1 S2 S3 T)).length:Int),Ref (n4_14 i) (.i6 ((i+1:Nat):Int))]) (by kernel_rfl)
   (.cons (Ref.bool h1) (.cons (Ref.bool h2) (.cons (o.1) (.cons (Int.natCast_nonneg _) (.cons (o.2.1) (.cons ((Ref.wr o.2.2).trans (Ref.int (by first | rfl | omega | simp))) (AllP.nil))))))) hg
theorem p4_6_2 (m:MachD) (p:PoseD) (k:List BendD) (S1 S2 S3 T i u c:Nat) (fd wi is:Bool) (y:BendD) (h1:wi=false) (h2:is=false) (o:(-9223372036854775808<=(i:Int)+(1:Int)/\(i:Int)+(1:Int)<=9223372036854775807))
   (hg:Good Tryz.prog 4 S0 C0 w0 Post (n4_2 Tryz.f4) ⟨slots 248 [(2,.i6 (c:Int)),(11,.ptr 0 6 0 0),(13,.ptr 1 10 0 0),(27,.list 19 (k.map (unBend S1 S2 S3 T))),(29,.i6 (u:Int)),(30,.bool fd),(31,.bool false),(32,.i6 ((i+1:Nat):Int))],(n4_0 m p)⟩):
   Good Tryz.prog 4 S0 C0 w0 Post (n4_1 Tryz.f4) ⟨slots 248 (n4_3 c k S1 S2 S3 T u fd wi i is),(n4_0 m p)⟩:=
 go mixed TT0_ok KT4_ok 9 none [2,11,13,27,29,30,31,32] [(200,(.bool false)),(202,(.bool false)),(168,(.i6 ((i+1:Nat):Int)))] (ob:=[Ref (.bool wi) (.bool false),Ref (.bool is) (.bool false),Ref (n4_14 i) (.i6 ((i+1:Nat):Int))]) (by kernel_rfl)
   (.cons (Ref.bool h1) (.cons (Ref.bool h2) (.cons ((Ref.wr o).trans (Ref.int (by first | rfl | omega | simp))) (AllP.nil)))) hg
theorem p4_8_0 (wi fi:Bool)  (o:(Ref (.bool (wi==fi)) (.bool true)))
   (hg:Good Tryz.prog 4 S0 C0 w0 Post [.code .ret] ⟨slots 248 [(10,.bool true)],[]⟩):
   Good Tryz.prog 4 S0 C0 w0 Post [.code (nav [1,1,1,1,1,1,1,1,1,1,1,1,1,1,1,1,1,1,0] (bodyOf Tryz.f4)),.code .ret] ⟨slots 248 [(30,.bool true),(31,.bool wi),(36,.bool fi)],[]⟩:=
 goR mixed TT0_ok KT4_ok 6 none [10] [] [(243,(.bool true))] (ob:=[Ref (.bool (wi==fi)) (.bool true)]) (by decide) (by kernel_rfl)
   (.cons (o) (AllP.nil)) hg
end
end Go.Av
