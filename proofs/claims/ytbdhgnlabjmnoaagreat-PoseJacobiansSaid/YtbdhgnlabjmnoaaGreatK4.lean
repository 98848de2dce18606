/- PoseJacobians: a part of its proof. No condition. -/
import Derived.Test.YtbdhgnlabjmnoaaGreatK3
set_option linter.all false
set_option maxRecDepth 100000
set_option autoImplicit true
set_option relaxedAutoImplicit true
namespace Go.Av
open Go.Proofs Go.RowKit
theorem Ky {S0 C0:Nat → Prop} {w0:World} {Post:Value → World → Prop} (m:MachD) (p:PoseD) (XS XT XD XF:List (List AV)) (jb:Nat) (f f2:FrameD) (e e2 i j:Nat) (A:List (List AV)) (v:BodyD) (t:Rat) (h1:¬ (((i:Nat):Int)<(((m.bodies.map (aK 300)).length:Nat):Int)))
    (hg:Good Tryz.prog 71 S0 C0 w0 Post [.code .ret] ⟨slots 54 [(2,(AV.ptr 0 5 0 0)),(3,(AV.ptr 1 13 0 0)),(4,(AV.own 2 16 0 i)),(5,(AV.own 2 16 0 i)),(6,(AV.int .i64 ((i:Nat):Int)))],[some ⟨48,5,false,[[(AV.list 34 (m.bodies.map (aK 300))),(AV.list 22 XS),(AV.list 22 XT),(AV.list 17 XD),(AV.list 6 XF)]],none⟩,some ⟨71,13,false,[[(AV.rq p.at_.x p.at_.x.den jb),(AV.rq p.at_.z p.at_.z.den jb),(AV.rq p.turn p.turn.den jb),(AV.list 4 (p.joints.map (dL jb)))]],none⟩,some ⟨179,16,true,A,none⟩]⟩):
    Good Tryz.prog 71 S0 C0 w0 Post [.code (aN [1,1,0,1,0,0] (aA Tryz.f71)),.inLoop (aN [1,1,0,1,0,0] (aA Tryz.f71)),.inBlock 0,.code (aN [1,1,1] (aA Tryz.f71))] ⟨slots 54 [(2,(AV.ptr 0 5 0 0)),(3,(AV.ptr 1 13 0 0)),(5,(AV.own 2 16 0 i)),(6,(AV.int .i64 ((i:Nat):Int)))],[some ⟨48,5,false,[[(AV.list 34 (m.bodies.map (aK 300))),(AV.list 22 XS),(AV.list 22 XT),(AV.list 17 XD),(AV.list 6 XF)]],none⟩,some ⟨71,13,false,[[(AV.rq p.at_.x p.at_.x.den jb),(AV.rq p.at_.z p.at_.z.den jb),(AV.rq p.turn p.turn.den jb),(AV.list 4 (p.joints.map (dL jb)))]],none⟩,some ⟨179,16,true,A,none⟩]⟩:=
  go mixed aT rW 12 none [2,3,4,5,6] [(19,(AV.bool false))] (ob:=[Ref (AV.bool (decide (((i:Nat):Int)<(((m.bodies.map (aK 300)).length:Nat):Int)))) (.bool false)]) (by kernel_rfl)
    (.cons (Ref.bool (decide_eq_false h1)) (AllP.nil)) hg
theorem Kz {S0 C0:Nat → Prop} {w0:World} {Post:Value → World → Prop} (m:MachD) (p:PoseD) (XS XT XD XF:List (List AV)) (jb:Nat) (f f2:FrameD) (e e2 i j:Nat) (A:List (List AV)) (v:BodyD) (t:Rat) (h1:((i:Nat):Int)<(((m.bodies.map (aK 300)).length:Nat):Int)) (o:(Ref (AV.cptr ((m.bodies.map (aK 300)).getD i []) 0) (AV.cptr [(AV.int .i64 v.par),(AV.rq v.at_.x v.at_.x.den 300),(AV.rq v.at_.z v.at_.z.den 300),(AV.rq v.ma v.ma.den 300),(AV.rq v.inr v.inr.den 300),(AV.rq v.c.x v.c.x.den 300),(AV.rq v.c.z v.c.z.den 300),(AV.rq v.low v.low.den 300),(AV.rq v.high v.high.den 300),(AV.list 8 (v.shape.map (hG 300)))] 0))∧(((i:Nat):Int)<(((m.bodies.map (aK 300)).length:Nat):Int))∧(Ref (AV.int .i64 v.par) (AV.int .i64 ((j:Nat):Int)))∧(((j:Nat):Int)<((i:Nat):Int))∧(Ref (AV.agg (A.getD (0+j) [])) (AV.agg [(AV.rq f.at_.x f.at_.x.den (2*e+1)),(AV.rq f.at_.z f.at_.z.den (2*e+1)),(AV.rq f.c f.c.den (e+1)),(AV.rq f.s f.s.den (e+1))]))∧(0+j<A.length)∧(8*max 300 64+8*max 300 64+8*max (e+1) 64+8*max (e+1) 64+8*max (2*e+1) 64+8*max (2*e+1) 64+2000≤LIM)∧(Ref (AV.int .i64 (IntKind.i64.wrap (((i:Nat):Int)-(1:Int)))) (AV.int .i64 ((i-1:Nat):Int)))∧(Ref (AV.cptr ((p.joints.map (dL jb)).getD (i-1) []) 0) (AV.cptr [(AV.rq t t.den jb)] 0))∧(((i-1:Nat):Int)<(((p.joints.map (dL jb)).length:Nat):Int))∧(40*max jb 64+5000≤LIM)∧(((cQ t).den)=(cQ t).den)∧(((bN t).den)=(bN t).den)∧(8*max (e+1) 64+8*max (e+1) 64+8*max (8*max jb 64+500) 64+8*max (8*max jb 64+500) 64+2000≤LIM)∧(Ref (AV.agg [(AV.rq (f.at_.x+(f.c*v.at_.x-f.s*v.at_.z)) ((f.at_.x+(f.c*v.at_.x-f.s*v.at_.z)).den) (max (2*e+1) 64+max 300 64+max 300 64+max (e+1) 64+max (e+1) 64+1+1)),(AV.rq (f.at_.z+(f.s*v.at_.x+f.c*v.at_.z)) ((f.at_.z+(f.s*v.at_.x+f.c*v.at_.z)).den) (max (2*e+1) 64+max 300 64+max 300 64+max (e+1) 64+max (e+1) 64+1+1)),(AV.rq (f.c*(cQ t)-f.s*(bN t)) ((f.c*(cQ t)-f.s*(bN t)).den) (max (e+1) 64+max (e+1) 64+max (8*max jb 64+500) 64+max (8*max jb 64+500) 64+1)),(AV.rq (f.s*(cQ t)+f.c*(bN t)) ((f.s*(cQ t)+f.c*(bN t)).den) (max (e+1) 64+max (e+1) 64+max (8*max jb 64+500) 64+max (8*max jb 64+500) 64+1))]) (AV.agg [(AV.rq f2.at_.x f2.at_.x.den (2*e2+1)),(AV.rq f2.at_.z f2.at_.z.den (2*e2+1)),(AV.rq f2.c f2.c.den (e2+1)),(AV.rq f2.s f2.s.den (e2+1))]))∧(i=A.length)∧((i+1)*256≤140737488355328)∧(i+1≤big)∧(-9223372036854775808≤((i:Nat):Int)+(1:Int)∧((i:Nat):Int)+(1:Int)≤9223372036854775807))
    (hg:Good Tryz.prog 71 S0 C0 w0 Post [.code (aN [1,1,0,1,0,0] (aA Tryz.f71)),.inLoop (aN [1,1,0,1,0,0] (aA Tryz.f71)),.inBlock 0,.code (aN [1,1,1] (aA Tryz.f71))] ⟨slots 54 [(2,(AV.ptr 0 5 0 0)),(3,(AV.ptr 1 13 0 0)),(5,(AV.own 2 16 0 (i+1))),(6,(AV.int .i64 ((i+1:Nat):Int)))],[some ⟨48,5,false,[[(AV.list 34 (m.bodies.map (aK 300))),(AV.list 22 XS),(AV.list 22 XT),(AV.list 17 XD),(AV.list 6 XF)]],none⟩,some ⟨71,13,false,[[(AV.rq p.at_.x p.at_.x.den jb),(AV.rq p.at_.z p.at_.z.den jb),(AV.rq p.turn p.turn.den jb),(AV.list 4 (p.joints.map (dL jb)))]],none⟩,some ⟨179,16,true,(A++ [[(AV.rq f2.at_.x f2.at_.x.den (2*e2+1)),(AV.rq f2.at_.z f2.at_.z.den (2*e2+1)),(AV.rq f2.c f2.c.den (e2+1)),(AV.rq f2.s f2.s.den (e2+1))]]),none⟩]⟩):
    Good Tryz.prog 71 S0 C0 w0 Post [.code (aN [1,1,0,1,0,0] (aA Tryz.f71)),.inLoop (aN [1,1,0,1,0,0] (aA Tryz.f71)),.inBlock 0,.code (aN [1,1,1] (aA Tryz.f71))] ⟨slots 54 [(2,(AV.ptr 0 5 0 0)),(3,(AV.ptr 1 13 0 0)),(5,(AV.own 2 16 0 i)),(6,(AV.int .i64 ((i:Nat):Int)))],[some ⟨48,5,false,[[(AV.list 34 (m.bodies.map (aK 300))),(AV.list 22 XS),(AV.list 22 XT),(AV.list 17 XD),(AV.list 6 XF)]],none⟩,some ⟨71,13,false,[[(AV.rq p.at_.x p.at_.x.den jb),(AV.rq p.at_.z p.at_.z.den jb),(AV.rq p.turn p.turn.den jb),(AV.list 4 (p.joints.map (dL jb)))]],none⟩,some ⟨179,16,true,A,none⟩]⟩:=
  tR mixed aT rW 18 none [2,3,4,5,6] [0,1,8] [(19,(AV.bool true)),(26,(AV.cptr [(AV.int .i64 v.par),(AV.rq v.at_.x v.at_.x.den 300),(AV.rq v.at_.z v.at_.z.den 300),(AV.rq v.ma v.ma.den 300),(AV.rq v.inr v.inr.den 300),(AV.rq v.c.x v.c.x.den 300),(AV.rq v.c.z v.c.z.den 300),(AV.rq v.low v.low.den 300),(AV.rq v.high v.high.den 300),(AV.list 8 (v.shape.map (hG 300)))] 0)),(28,(AV.int .i64 ((j:Nat):Int))),(30,(AV.agg [(AV.rq f.at_.x f.at_.x.den (2*e+1)),(AV.rq f.at_.z f.at_.z.den (2*e+1)),(AV.rq f.c f.c.den (e+1)),(AV.rq f.s f.s.den (e+1))])),(36,(AV.cptr [(AV.int .i64 v.par),(AV.rq v.at_.x v.at_.x.den 300),(AV.rq v.at_.z v.at_.z.den 300),(AV.rq v.ma v.ma.den 300),(AV.rq v.inr v.inr.den 300),(AV.rq v.c.x v.c.x.den 300),(AV.rq v.c.z v.c.z.den 300),(AV.rq v.low v.low.den 300),(AV.rq v.high v.high.den 300),(AV.list 8 (v.shape.map (hG 300)))] 0)),(45,(AV.int .i64 ((i-1:Nat):Int))),(46,(AV.cptr [(AV.rq t t.den jb)] 0)),(50,(AV.agg [(AV.rq f2.at_.x f2.at_.x.den (2*e2+1)),(AV.rq f2.at_.z f2.at_.z.den (2*e2+1)),(AV.rq f2.c f2.c.den (e2+1)),(AV.rq f2.s f2.s.den (e2+1))])),(21,(AV.int .i64 ((i+1:Nat):Int)))] (ob:=[Ref (AV.bool (decide (((i:Nat):Int)<(((m.bodies.map (aK 300)).length:Nat):Int)))) (.bool true),Ref (AV.cptr ((m.bodies.map (aK 300)).getD i []) 0) (AV.cptr [(AV.int .i64 v.par),(AV.rq v.at_.x v.at_.x.den 300),(AV.rq v.at_.z v.at_.z.den 300),(AV.rq v.ma v.ma.den 300),(AV.rq v.inr v.inr.den 300),(AV.rq v.c.x v.c.x.den 300),(AV.rq v.c.z v.c.z.den 300),(AV.rq v.low v.low.den 300),(AV.rq v.high v.high.den 300),(AV.list 8 (v.shape.map (hG 300)))] 0),0≤((i:Nat):Int),((i:Nat):Int)<(((m.bodies.map (aK 300)).length:Nat):Int),Ref (AV.int .i64 v.par) (AV.int .i64 ((j:Nat):Int)),0≤((j:Nat):Int),((j:Nat):Int)<((i:Nat):Int),Ref (AV.agg (A.getD (0+j) [])) (AV.agg [(AV.rq f.at_.x f.at_.x.den (2*e+1)),(AV.rq f.at_.z f.at_.z.den (2*e+1)),(AV.rq f.c f.c.den (e+1)),(AV.rq f.s f.s.den (e+1))]),0+j<A.length,Ref (AV.cptr ((m.bodies.map (aK 300)).getD i []) 0) (AV.cptr [(AV.int .i64 v.par),(AV.rq v.at_.x v.at_.x.den 300),(AV.rq v.at_.z v.at_.z.den 300),(AV.rq v.ma v.ma.den 300),(AV.rq v.inr v.inr.den 300),(AV.rq v.c.x v.c.x.den 300),(AV.rq v.c.z v.c.z.den 300),(AV.rq v.low v.low.den 300),(AV.rq v.high v.high.den 300),(AV.list 8 (v.shape.map (hG 300)))] 0),0≤((i:Nat):Int),((i:Nat):Int)<(((m.bodies.map (aK 300)).length:Nat):Int),f.at_.x.den=f.at_.x.den,f.at_.z.den=f.at_.z.den,f.c.den=f.c.den,f.s.den=f.s.den,v.at_.x.den=v.at_.x.den,v.at_.z.den=v.at_.z.den,8*max 300 64+8*max 300 64+8*max (e+1) 64+8*max (e+1) 64+8*max (2*e+1) 64+8*max (2*e+1) 64+2000≤LIM,Ref (AV.int .i64 (IntKind.i64.wrap (((i:Nat):Int)-(1:Int)))) (AV.int .i64 ((i-1:Nat):Int)),Ref (AV.cptr ((p.joints.map (dL jb)).getD (i-1) []) 0) (AV.cptr [(AV.rq t t.den jb)] 0),0≤((i-1:Nat):Int),((i-1:Nat):Int)<(((p.joints.map (dL jb)).length:Nat):Int),t.den=t.den,40*max jb 64+5000≤LIM,f.c.den=f.c.den,f.s.den=f.s.den,((cQ t).den)=(cQ t).den,((bN t).den)=(bN t).den,8*max (e+1) 64+8*max (e+1) 64+8*max (8*max jb 64+500) 64+8*max (8*max jb 64+500) 64+2000≤LIM,Ref (AV.agg [(AV.rq (f.at_.x+(f.c*v.at_.x-f.s*v.at_.z)) ((f.at_.x+(f.c*v.at_.x-f.s*v.at_.z)).den) (max (2*e+1) 64+max 300 64+max 300 64+max (e+1) 64+max (e+1) 64+1+1)),(AV.rq (f.at_.z+(f.s*v.at_.x+f.c*v.at_.z)) ((f.at_.z+(f.s*v.at_.x+f.c*v.at_.z)).den) (max (2*e+1) 64+max 300 64+max 300 64+max (e+1) 64+max (e+1) 64+1+1)),(AV.rq (f.c*(cQ t)-f.s*(bN t)) ((f.c*(cQ t)-f.s*(bN t)).den) (max (e+1) 64+max (e+1) 64+max (8*max jb 64+500) 64+max (8*max jb 64+500) 64+1)),(AV.rq (f.s*(cQ t)+f.c*(bN t)) ((f.s*(cQ t)+f.c*(bN t)).den) (max (e+1) 64+max (e+1) 64+max (8*max jb 64+500) 64+max (8*max jb 64+500) 64+1))]) (AV.agg [(AV.rq f2.at_.x f2.at_.x.den (2*e2+1)),(AV.rq f2.at_.z f2.at_.z.den (2*e2+1)),(AV.rq f2.c f2.c.den (e2+1)),(AV.rq f2.s f2.s.den (e2+1))]),1=1,i=A.length,(i+1)*256≤140737488355328,i+1≤big,Ref (AV.int .i64 (IntKind.i64.wrap (((i:Nat):Int)+(1:Int)))) (AV.int .i64 ((i+1:Nat):Int))]) (by decide) (by kernel_rfl)
    (.cons (Ref.bool (decide_eq_true h1)) (.cons (o.1) (.cons (Int.natCast_nonneg _) (.cons (o.2.1) (.cons (o.2.2.1) (.cons (Int.natCast_nonneg _) (.cons (o.2.2.2.1) (.cons (o.2.2.2.2.1) (.cons (o.2.2.2.2.2.1) (.cons (o.1) (.cons (Int.natCast_nonneg _) (.cons (o.2.1) (.cons (rfl) (.cons (rfl) (.cons (rfl) (.cons (rfl) (.cons (rfl) (.cons (rfl) (.cons (o.2.2.2.2.2.2.1) (.cons (o.2.2.2.2.2.2.2.1) (.cons (o.2.2.2.2.2.2.2.2.1) (.cons (Int.natCast_nonneg _) (.cons (o.2.2.2.2.2.2.2.2.2.1) (.cons (rfl) (.cons (o.2.2.2.2.2.2.2.2.2.2.1) (.cons (rfl) (.cons (rfl) (.cons (o.2.2.2.2.2.2.2.2.2.2.2.1) (.cons (o.2.2.2.2.2.2.2.2.2.2.2.2.1) (.cons (o.2.2.2.2.2.2.2.2.2.2.2.2.2.1) (.cons (o.2.2.2.2.2.2.2.2.2.2.2.2.2.2.1) (.cons (rfl) (.cons (o.2.2.2.2.2.2.2.2.2.2.2.2.2.2.2.1) (.cons (o.2.2.2.2.2.2.2.2.2.2.2.2.2.2.2.2.1) (.cons (o.2.2.2.2.2.2.2.2.2.2.2.2.2.2.2.2.2.1) (.cons ((Ref.wr o.2.2.2.2.2.2.2.2.2.2.2.2.2.2.2.2.2.2).trans (Ref.int (by first | rfl | omega | simp))) (AllP.nil))))))))))))))))))))))))))))))))))))) hg
theorem KA {S0 C0:Nat → Prop} {w0:World} {Post:Value → World → Prop} (m:MachD) (p:PoseD) (XS XT XD XF:List (List AV)) (jb:Nat) (f f2:FrameD) (e e2:Nat) (v:BodyD) (t:Rat) (h1:(1:Int)<(((m.bodies.map (aK 300)).length:Nat):Int)) (o:(Ref (AV.cptr ((m.bodies.map (aK 300)).getD 1 []) 0) (AV.cptr [(AV.int .i64 v.par),(AV.rq v.at_.x v.at_.x.den 300),(AV.rq v.at_.z v.at_.z.den 300),(AV.rq v.ma v.ma.den 300),(AV.rq v.inr v.inr.den 300),(AV.rq v.c.x v.c.x.den 300),(AV.rq v.c.z v.c.z.den 300),(AV.rq v.low v.low.den 300),(AV.rq v.high v.high.den 300),(AV.list 8 (v.shape.map (hG 300)))] 0))∧((1:Int)<(((m.bodies.map (aK 300)).length:Nat):Int))∧(Ref (AV.int .i64 v.par) (AV.int .i64 (0:Int)))∧(Ref (AV.agg [(AV.rq f.at_.x f.at_.x.den (2*e+1)),(AV.rq f.at_.z f.at_.z.den (2*e+1)),(AV.rq f.c f.c.den (e+1)),(AV.rq f.s f.s.den (e+1))]) (AV.agg [(AV.rq f.at_.x f.at_.x.den (2*e+1)),(AV.rq f.at_.z f.at_.z.den (2*e+1)),(AV.rq f.c f.c.den (e+1)),(AV.rq f.s f.s.den (e+1))]))∧(8*max 300 64+8*max 300 64+8*max (e+1) 64+8*max (e+1) 64+8*max (2*e+1) 64+8*max (2*e+1) 64+2000≤LIM)∧(Ref (AV.int .i64 (0:Int)) (AV.int .i64 (0:Int)))∧(Ref (AV.cptr ((p.joints.map (dL jb)).getD 0 []) 0) (AV.cptr [(AV.rq t t.den jb)] 0))∧((0:Int)<(((p.joints.map (dL jb)).length:Nat):Int))∧(40*max jb 64+5000≤LIM)∧(((cQ t).den)=(cQ t).den)∧(((bN t).den)=(bN t).den)∧(8*max (e+1) 64+8*max (e+1) 64+8*max (8*max jb 64+500) 64+8*max (8*max jb 64+500) 64+2000≤LIM)∧(Ref (AV.agg [(AV.rq (f.at_.x+(f.c*v.at_.x-f.s*v.at_.z)) ((f.at_.x+(f.c*v.at_.x-f.s*v.at_.z)).den) (max (2*e+1) 64+max 300 64+max 300 64+max (e+1) 64+max (e+1) 64+1+1)),(AV.rq (f.at_.z+(f.s*v.at_.x+f.c*v.at_.z)) ((f.at_.z+(f.s*v.at_.x+f.c*v.at_.z)).den) (max (2*e+1) 64+max 300 64+max 300 64+max (e+1) 64+max (e+1) 64+1+1)),(AV.rq (f.c*(cQ t)-f.s*(bN t)) ((f.c*(cQ t)-f.s*(bN t)).den) (max (e+1) 64+max (e+1) 64+max (8*max jb 64+500) 64+max (8*max jb 64+500) 64+1)),(AV.rq (f.s*(cQ t)+f.c*(bN t)) ((f.s*(cQ t)+f.c*(bN t)).den) (max (e+1) 64+max (e+1) 64+max (8*max jb 64+500) 64+max (8*max jb 64+500) 64+1))]) (AV.agg [(AV.rq f2.at_.x f2.at_.x.den (2*e2+1)),(AV.rq f2.at_.z f2.at_.z.den (2*e2+1)),(AV.rq f2.c f2.c.den (e2+1)),(AV.rq f2.s f2.s.den (e2+1))]))∧((2)*256≤140737488355328)∧(2≤big))
    (hg:Good Tryz.prog 71 S0 C0 w0 Post [.code (aN [1,1,0,1,0,0] (aA Tryz.f71)),.inLoop (aN [1,1,0,1,0,0] (aA Tryz.f71)),.inBlock 0,.code (aN [1,1,1] (aA Tryz.f71))] ⟨slots 54 [(2,(AV.ptr 0 5 0 0)),(3,(AV.ptr 1 13 0 0)),(5,(AV.own 2 16 0 2)),(6,(AV.int .i64 (2:Int)))],[some ⟨48,5,false,[[(AV.list 34 (m.bodies.map (aK 300))),(AV.list 22 XS),(AV.list 22 XT),(AV.list 17 XD),(AV.list 6 XF)]],none⟩,some ⟨71,13,false,[[(AV.rq p.at_.x p.at_.x.den jb),(AV.rq p.at_.z p.at_.z.den jb),(AV.rq p.turn p.turn.den jb),(AV.list 4 (p.joints.map (dL jb)))]],none⟩,some ⟨179,16,true,[[(AV.rq f.at_.x f.at_.x.den (2*e+1)),(AV.rq f.at_.z f.at_.z.den (2*e+1)),(AV.rq f.c f.c.den (e+1)),(AV.rq f.s f.s.den (e+1))],[(AV.rq f2.at_.x f2.at_.x.den (2*e2+1)),(AV.rq f2.at_.z f2.at_.z.den (2*e2+1)),(AV.rq f2.c f2.c.den (e2+1)),(AV.rq f2.s f2.s.den (e2+1))]],none⟩]⟩):
    Good Tryz.prog 71 S0 C0 w0 Post [.code (aN [1,1,0,1,0,0] (aA Tryz.f71)),.inLoop (aN [1,1,0,1,0,0] (aA Tryz.f71)),.inBlock 0,.code (aN [1,1,1] (aA Tryz.f71))] ⟨slots 54 [(2,(AV.ptr 0 5 0 0)),(3,(AV.ptr 1 13 0 0)),(5,(AV.own 2 16 0 1)),(6,(AV.int .i64 (1:Int)))],[some ⟨48,5,false,[[(AV.list 34 (m.bodies.map (aK 300))),(AV.list 22 XS),(AV.list 22 XT),(AV.list 17 XD),(AV.list 6 XF)]],none⟩,some ⟨71,13,false,[[(AV.rq p.at_.x p.at_.x.den jb),(AV.rq p.at_.z p.at_.z.den jb),(AV.rq p.turn p.turn.den jb),(AV.list 4 (p.joints.map (dL jb)))]],none⟩,some ⟨179,16,false,[[(AV.rq f.at_.x f.at_.x.den (2*e+1)),(AV.rq f.at_.z f.at_.z.den (2*e+1)),(AV.rq f.c f.c.den (e+1)),(AV.rq f.s f.s.den (e+1))]],none⟩]⟩:=
  tR mixed aT rW 18 none [2,3,4,5,6] [0,1,8] [(19,(AV.bool true)),(26,(AV.cptr [(AV.int .i64 v.par),(AV.rq v.at_.x v.at_.x.den 300),(AV.rq v.at_.z v.at_.z.den 300),(AV.rq v.ma v.ma.den 300),(AV.rq v.inr v.inr.den 300),(AV.rq v.c.x v.c.x.den 300),(AV.rq v.c.z v.c.z.den 300),(AV.rq v.low v.low.den 300),(AV.rq v.high v.high.den 300),(AV.list 8 (v.shape.map (hG 300)))] 0)),(28,(AV.int .i64 (0:Int))),(30,(AV.agg [(AV.rq f.at_.x f.at_.x.den (2*e+1)),(AV.rq f.at_.z f.at_.z.den (2*e+1)),(AV.rq f.c f.c.den (e+1)),(AV.rq f.s f.s.den (e+1))])),(36,(AV.cptr [(AV.int .i64 v.par),(AV.rq v.at_.x v.at_.x.den 300),(AV.rq v.at_.z v.at_.z.den 300),(AV.rq v.ma v.ma.den 300),(AV.rq v.inr v.inr.den 300),(AV.rq v.c.x v.c.x.den 300),(AV.rq v.c.z v.c.z.den 300),(AV.rq v.low v.low.den 300),(AV.rq v.high v.high.den 300),(AV.list 8 (v.shape.map (hG 300)))] 0)),(45,(AV.int .i64 (0:Int))),(46,(AV.cptr [(AV.rq t t.den jb)] 0)),(50,(AV.agg [(AV.rq f2.at_.x f2.at_.x.den (2*e2+1)),(AV.rq f2.at_.z f2.at_.z.den (2*e2+1)),(AV.rq f2.c f2.c.den (e2+1)),(AV.rq f2.s f2.s.den (e2+1))]))] (ob:=[Ref (AV.bool (decide ((1:Int)<(((m.bodies.map (aK 300)).length:Nat):Int)))) (.bool true),Ref (AV.cptr ((m.bodies.map (aK 300)).getD 1 []) 0) (AV.cptr [(AV.int .i64 v.par),(AV.rq v.at_.x v.at_.x.den 300),(AV.rq v.at_.z v.at_.z.den 300),(AV.rq v.ma v.ma.den 300),(AV.rq v.inr v.inr.den 300),(AV.rq v.c.x v.c.x.den 300),(AV.rq v.c.z v.c.z.den 300),(AV.rq v.low v.low.den 300),(AV.rq v.high v.high.den 300),(AV.list 8 (v.shape.map (hG 300)))] 0),0≤(1:Int),(1:Int)<(((m.bodies.map (aK 300)).length:Nat):Int),Ref (AV.int .i64 v.par) (AV.int .i64 (0:Int)),0≤(0:Int),(0:Int)<1,Ref (AV.agg [(AV.rq f.at_.x f.at_.x.den (2*e+1)),(AV.rq f.at_.z f.at_.z.den (2*e+1)),(AV.rq f.c f.c.den (e+1)),(AV.rq f.s f.s.den (e+1))]) (AV.agg [(AV.rq f.at_.x f.at_.x.den (2*e+1)),(AV.rq f.at_.z f.at_.z.den (2*e+1)),(AV.rq f.c f.c.den (e+1)),(AV.rq f.s f.s.den (e+1))]),Ref (AV.cptr ((m.bodies.map (aK 300)).getD 1 []) 0) (AV.cptr [(AV.int .i64 v.par),(AV.rq v.at_.x v.at_.x.den 300),(AV.rq v.at_.z v.at_.z.den 300),(AV.rq v.ma v.ma.den 300),(AV.rq v.inr v.inr.den 300),(AV.rq v.c.x v.c.x.den 300),(AV.rq v.c.z v.c.z.den 300),(AV.rq v.low v.low.den 300),(AV.rq v.high v.high.den 300),(AV.list 8 (v.shape.map (hG 300)))] 0),0≤(1:Int),(1:Int)<(((m.bodies.map (aK 300)).length:Nat):Int),f.at_.x.den=f.at_.x.den,f.at_.z.den=f.at_.z.den,f.c.den=f.c.den,f.s.den=f.s.den,v.at_.x.den=v.at_.x.den,v.at_.z.den=v.at_.z.den,8*max 300 64+8*max 300 64+8*max (e+1) 64+8*max (e+1) 64+8*max (2*e+1) 64+8*max (2*e+1) 64+2000≤LIM,Ref (AV.int .i64 (0:Int)) (AV.int .i64 (0:Int)),Ref (AV.cptr ((p.joints.map (dL jb)).getD 0 []) 0) (AV.cptr [(AV.rq t t.den jb)] 0),0≤(0:Int),(0:Int)<(((p.joints.map (dL jb)).length:Nat):Int),t.den=t.den,40*max jb 64+5000≤LIM,f.c.den=f.c.den,f.s.den=f.s.den,((cQ t).den)=(cQ t).den,((bN t).den)=(bN t).den,8*max (e+1) 64+8*max (e+1) 64+8*max (8*max jb 64+500) 64+8*max (8*max jb 64+500) 64+2000≤LIM,Ref (AV.agg [(AV.rq (f.at_.x+(f.c*v.at_.x-f.s*v.at_.z)) ((f.at_.x+(f.c*v.at_.x-f.s*v.at_.z)).den) (max (2*e+1) 64+max 300 64+max 300 64+max (e+1) 64+max (e+1) 64+1+1)),(AV.rq (f.at_.z+(f.s*v.at_.x+f.c*v.at_.z)) ((f.at_.z+(f.s*v.at_.x+f.c*v.at_.z)).den) (max (2*e+1) 64+max 300 64+max 300 64+max (e+1) 64+max (e+1) 64+1+1)),(AV.rq (f.c*(cQ t)-f.s*(bN t)) ((f.c*(cQ t)-f.s*(bN t)).den) (max (e+1) 64+max (e+1) 64+max (8*max jb 64+500) 64+max (8*max jb 64+500) 64+1)),(AV.rq (f.s*(cQ t)+f.c*(bN t)) ((f.s*(cQ t)+f.c*(bN t)).den) (max (e+1) 64+max (e+1) 64+max (8*max jb 64+500) 64+max (8*max jb 64+500) 64+1))]) (AV.agg [(AV.rq f2.at_.x f2.at_.x.den (2*e2+1)),(AV.rq f2.at_.z f2.at_.z.den (2*e2+1)),(AV.rq f2.c f2.c.den (e2+1)),(AV.rq f2.s f2.s.den (e2+1))]),1=1,1=1,(2)*256≤140737488355328,2≤big]) (by decide) (by kernel_rfl)
    (.cons (Ref.bool (decide_eq_true h1)) (.cons (o.1) (.cons (by decide) (.cons (o.2.1) (.cons (o.2.2.1) (.cons (by decide) (.cons (by decide) (.cons (o.2.2.2.1) (.cons (o.1) (.cons (by decide) (.cons (o.2.1) (.cons (rfl) (.cons (rfl) (.cons (rfl) (.cons (rfl) (.cons (rfl) (.cons (rfl) (.cons (o.2.2.2.2.1) (.cons (o.2.2.2.2.2.1) (.cons (o.2.2.2.2.2.2.1) (.cons (by decide) (.cons (o.2.2.2.2.2.2.2.1) (.cons (rfl) (.cons (o.2.2.2.2.2.2.2.2.1) (.cons (rfl) (.cons (rfl) (.cons (o.2.2.2.2.2.2.2.2.2.1) (.cons (o.2.2.2.2.2.2.2.2.2.2.1) (.cons (o.2.2.2.2.2.2.2.2.2.2.2.1) (.cons (o.2.2.2.2.2.2.2.2.2.2.2.2.1) (.cons (rfl) (.cons (rfl) (.cons (o.2.2.2.2.2.2.2.2.2.2.2.2.2.1) (.cons (o.2.2.2.2.2.2.2.2.2.2.2.2.2.2) (AllP.nil))))))))))))))))))))))))))))))))))) hg
theorem KB {S0 C0:Nat → Prop} {w0:World} {Post:Value → World → Prop} (m:MachD) (p:PoseD) (XS XT XD XF:List (List AV)) (jb:Nat) (f f2:FrameD) (e e2:Nat) (v:BodyD) (t:Rat) (h1:¬ ((1:Int)<(((m.bodies.map (aK 300)).length:Nat):Int)))
    (hg:Good Tryz.prog 71 S0 C0 w0 Post [.code .ret] ⟨slots 54 [(2,(AV.ptr 0 5 0 0)),(3,(AV.ptr 1 13 0 0)),(4,(AV.own 2 16 0 1)),(5,(AV.own 2 16 0 1)),(6,(AV.int .i64 (1:Int)))],[some ⟨48,5,false,[[(AV.list 34 (m.bodies.map (aK 300))),(AV.list 22 XS),(AV.list 22 XT),(AV.list 17 XD),(AV.list 6 XF)]],none⟩,some ⟨71,13,false,[[(AV.rq p.at_.x p.at_.x.den jb),(AV.rq p.at_.z p.at_.z.den jb),(AV.rq p.turn p.turn.den jb),(AV.list 4 (p.joints.map (dL jb)))]],none⟩,some ⟨179,16,false,[[(AV.rq f.at_.x f.at_.x.den (2*e+1)),(AV.rq f.at_.z f.at_.z.den (2*e+1)),(AV.rq f.c f.c.den (e+1)),(AV.rq f.s f.s.den (e+1))]],none⟩]⟩):
    Good Tryz.prog 71 S0 C0 w0 Post [.code (aN [1,1,0,1,0,0] (aA Tryz.f71)),.inLoop (aN [1,1,0,1,0,0] (aA Tryz.f71)),.inBlock 0,.code (aN [1,1,1] (aA Tryz.f71))] ⟨slots 54 [(2,(AV.ptr 0 5 0 0)),(3,(AV.ptr 1 13 0 0)),(5,(AV.own 2 16 0 1)),(6,(AV.int .i64 (1:Int)))],[some ⟨48,5,false,[[(AV.list 34 (m.bodies.map (aK 300))),(AV.list 22 XS),(AV.list 22 XT),(AV.list 17 XD),(AV.list 6 XF)]],none⟩,some ⟨71,13,false,[[(AV.rq p.at_.x p.at_.x.den jb),(AV.rq p.at_.z p.at_.z.den jb),(AV.rq p.turn p.turn.den jb),(AV.list 4 (p.joints.map (dL jb)))]],none⟩,some ⟨179,16,false,[[(AV.rq f.at_.x f.at_.x.den (2*e+1)),(AV.rq f.at_.z f.at_.z.den (2*e+1)),(AV.rq f.c f.c.den (e+1)),(AV.rq f.s f.s.den (e+1))]],none⟩]⟩:=
  go mixed aT rW 12 none [2,3,4,5,6] [(19,(AV.bool false))] (ob:=[Ref (AV.bool (decide ((1:Int)<(((m.bodies.map (aK 300)).length:Nat):Int)))) (.bool false)]) (by kernel_rfl)
    (.cons (Ref.bool (decide_eq_false h1)) (AllP.nil)) hg
theorem KC {S0 C0:Nat → Prop} {w0:World} {Post:Value → World → Prop} (m:MachD) (p:PoseD) (XS XT XD XF:List (List AV)) (jb:Nat) (f:FrameD) (e:Nat)  (o:(40*max jb 64+5000≤LIM)∧(Ref (AV.agg [(AV.rq p.at_.x p.at_.x.den jb),(AV.rq p.at_.z p.at_.z.den jb),(AV.rq (cQ p.turn) ((cQ p.turn).den) (8*max jb 64+500)),(AV.rq (bN p.turn) ((bN p.turn).den) (8*max jb 64+500))]) (AV.agg [(AV.rq f.at_.x f.at_.x.den (2*e+1)),(AV.rq f.at_.z f.at_.z.den (2*e+1)),(AV.rq f.c f.c.den (e+1)),(AV.rq f.s f.s.den (e+1))])))
    (hg:Good Tryz.prog 71 S0 C0 w0 Post [.code (aN [1,1,0,1,0,0] (aA Tryz.f71)),.inLoop (aN [1,1,0,1,0,0] (aA Tryz.f71)),.inBlock 0,.code (aN [1,1,1] (aA Tryz.f71))] ⟨slots 54 [(2,(AV.ptr 0 5 0 0)),(3,(AV.ptr 1 13 0 0)),(5,(AV.own 2 16 0 1)),(6,(AV.int .i64 (1:Int)))],[some ⟨48,5,false,[[(AV.list 34 (m.bodies.map (aK 300))),(AV.list 22 XS),(AV.list 22 XT),(AV.list 17 XD),(AV.list 6 XF)]],none⟩,some ⟨71,13,false,[[(AV.rq p.at_.x p.at_.x.den jb),(AV.rq p.at_.z p.at_.z.den jb),(AV.rq p.turn p.turn.den jb),(AV.list 4 (p.joints.map (dL jb)))]],none⟩,some ⟨179,16,false,[[(AV.rq f.at_.x f.at_.x.den (2*e+1)),(AV.rq f.at_.z f.at_.z.den (2*e+1)),(AV.rq f.c f.c.den (e+1)),(AV.rq f.s f.s.den (e+1))]],none⟩]⟩):
    Good Tryz.prog 71 S0 C0 w0 Post [.code (aN [] (aA Tryz.f71))] ⟨slots 54 [(0,(AV.agg [(AV.list 34 (m.bodies.map (aK 300))),(AV.list 22 XS),(AV.list 22 XT),(AV.list 17 XD),(AV.list 6 XF)])),(1,(AV.agg [(AV.rq p.at_.x p.at_.x.den jb),(AV.rq p.at_.z p.at_.z.den jb),(AV.rq p.turn p.turn.den jb),(AV.list 4 (p.joints.map (dL jb)))]))],[]⟩:=
  tR mixed aT rW 14 none [2,3,5,6] [0,1,3] [(13,(AV.agg [(AV.rq f.at_.x f.at_.x.den (2*e+1)),(AV.rq f.at_.z f.at_.z.den (2*e+1)),(AV.rq f.c f.c.den (e+1)),(AV.rq f.s f.s.den (e+1))]))] (ob:=[p.turn.den=p.turn.den,40*max jb 64+5000≤LIM,Ref (AV.agg [(AV.rq p.at_.x p.at_.x.den jb),(AV.rq p.at_.z p.at_.z.den jb),(AV.rq (cQ p.turn) ((cQ p.turn).den) (8*max jb 64+500)),(AV.rq (bN p.turn) ((bN p.turn).den) (8*max jb 64+500))]) (AV.agg [(AV.rq f.at_.x f.at_.x.den (2*e+1)),(AV.rq f.at_.z f.at_.z.den (2*e+1)),(AV.rq f.c f.c.den (e+1)),(AV.rq f.s f.s.den (e+1))])]) (by decide) (by kernel_rfl)
    (.cons (rfl) (.cons (o.1) (.cons (o.2) (AllP.nil)))) hg
def Ng (e:Nat) (f:FrameD):List AV:=[.rq f.at_.x f.at_.x.den (2*e+1),.rq f.at_.z f.at_.z.den (2*e+1),.rq f.c f.c.den (e+1),.rq f.s f.s.den (e+1)]
def oJ (jb:Nat) (m:MachD) (p:PoseD) (i:Nat):List AV:=Ng (rz jb i) (fr m p i)
theorem RefC.dig_to {n B C:Nat} {cs:List AV} (h:n<2^C):RefC (.dig n B::cs) (.dig n C::cs):=fun ρ S w D vs x=>by
  cases x with
  | dig xs h1 h2 h3 h4=>exact .dig xs h1 h2 h h4
theorem RefC.rz_to {n:Int} {B C:Nat} {cs:List AV} (h:n.natAbs<2^C):RefC (.rz n B::cs) (.rz n C::cs):=fun ρ S w D vs x=>by
  cases x with
  | rz h1=>exact .rz (RefC.tl (RefC.dig_to h) _ _ _ _ _ h1)
theorem RefC.rq_of {x y:Rat} {B C:Nat} {cs:List AV} (e:x=y) (h:QB C y):RefC (.rq x x.den B::cs) (.rq y y.den (C+1)::cs):=fun ρ S w D vs k=>by
  subst e
  have h1:=h.1
  have h2:=h.2
  have hd:x.den<2^(C+1):=by have:=Nat.two_pow_pos C;rw[Nat.pow_succ];omega
  cases k with
  | rq h0 h1'=>exact .rq h0 (((RefC.rz_to (by rw[Nat.pow_succ];omega)).trans (RefC.tl (RefC.rz_to (by rw[Int.natAbs_natCast];exact hd)))) _ _ _ _ _ h1')
theorem Ref.rframe {f:FrameD} {x z c s:Rat} {X Z C S e:Nat} (hx:f=⟨⟨x,z⟩,c,s⟩) (h:FQ e f):Ref (.agg [.rq x x.den X,.rq z z.den Z,.rq c c.den C,.rq s s.den S]) (.agg (Ng e f)):=by
  subst hx
  exact Ref.agg (RefC.cons (RefC.rq_of rfl h.1) (RefC.cons (RefC.rq_of rfl h.2.1) (RefC.cons (RefC.rq_of rfl h.2.2.1) (RefC.rq_of rfl h.2.2.2))))
noncomputable abbrev SS:List Item:=[.code (aN [1,1,0,1,0,0] (aA Tryz.f71)),.inLoop (aN [1,1,0,1,0,0] (aA Tryz.f71)),.inBlock 0,.code (aN [1,1,1] (aA Tryz.f71))]
section
variable {S:Nat → Prop} {w0:World} {m:MachD} {p:PoseD} {XS XT XD XF:List (List AV)} {jb:Nat}
theorem Nh (hjb:jb≤100000) (hB:Co jb m p) (ht:m.tree) (h8:m.bodies.length≤8) (hj:p.joints.length+1=m.bodies.length):∀ (j i:Nat),i+j=m.bodies.length → 2≤i →
    Good Tryz.prog 71 S No w0 (eD S w0 (.list 16 ((List.range m.bodies.length).map (oJ jb m p)))) SS ⟨slots 54 [(2,.ptr 0 5 0 0),(3,.ptr 1 13 0 0),(5,.own 2 16 0 i),(6,.int .i64 ((i:Nat):Int))],[some ⟨48,5,false,[[.list 34 (m.bodies.map (aK 300)),.list 22 XS,.list 22 XT,.list 17 XD,.list 6 XF]],none⟩,some ⟨71,13,false,[mU jb p],none⟩,some ⟨179,16,true,(List.range i).map (oJ jb m p),none⟩]⟩:=by
  have hlm:(m.bodies.map (aK 300)).length=m.bodies.length:=List.length_map ..
  have hlj:(p.joints.map (dL jb)).length=p.joints.length:=List.length_map ..
  intro j
  induction j with
  | zero=>
    intro i hij h2
    have hi:i=m.bodies.length:=by omega
    subst hi
    refine Ky m p XS XT XD XF jb default default 0 0 m.bodies.length 0 ((List.range m.bodies.length).map (oJ jb m p)) default 0 (by rw[hlm];omega) ?_
    refine Good.pick 54 [(4,.own 2 16 0 m.bodies.length)] (by kernel_rfl) (by kernel_rfl) ?_
    refine Good.freezeD (b:=⟨179,16,true,(List.range m.bodies.length).map (oJ jb m p),none⟩) 2 (by rfl) (by rfl) (AllP.of_eq (l':=[0+m.bodies.length≤((List.range m.bodies.length).map (oJ jb m p)).length]) (by kernel_rfl) (.cons (by simp) .nil)) (AllP.of_nil (by kernel_rfl)) ?_
    exact lO aT (fn:=Tryz.f71) (by kernel_rfl) (.inr ⟨_,rfl⟩) (Vs:=[.list 16 ((((List.range m.bodies.length).map (oJ jb m p)).drop 0).take m.bodies.length)]) (by kernel_rfl) (by rfl) (by rfl) (Ref.eq (by rw[List.drop_zero,List.take_of_length_le (by simp)];rfl))
  | succ j ih=>
    intro i hij h2
    have hi:i<m.bodies.length:=by omega
    obtain⟨hp0,hp1⟩:=ht i (by omega) hi
    obtain⟨v,hv⟩:∃ v,v=m.bodies.getD i default:=⟨_,rfl⟩
    rw[← hv] at hp0 hp1
    obtain⟨k,hk⟩:∃ k:Nat,v.par=((k:Nat):Int):=⟨v.par.toNat,by omega⟩
    have hki:k<i:=by omega
    have hstep:fr m p i=xE (fr m p k) v (p.joints.getD (i-1) default):=by rw[uQ ht (by omega) hi, ← hv,hk];rfl
    have hz:rz jb k≤SZ jb:=rz_le (by omega)
    unfold SZ at hz
    have r1:Ref (.cptr ((m.bodies.map (aK 300)).getD i []) 0) (.cptr (aK 300 v) 0):=by rw[hv];exact Ref.cmap hi
    have r2:((i:Nat):Int)<(((m.bodies.map (aK 300)).length:Nat):Int):=by rw[hlm];omega
    have r3:Ref (.agg (((List.range i).map (oJ jb m p)).getD (0+k) [])) (.agg (Ng (rz jb k) (fr m p k))):=Ref.eq (by rw[Nat.zero_add,List.getD_eq_getElem?_getD,List.getElem?_map,List.getElem?_range hki];rfl)
    have r4:Ref (AV.int .i64 (IntKind.i64.wrap (((i:Nat):Int)-(1:Int)))) (AV.int .i64 ((i-1:Nat):Int)):=(Ref.wr ⟨by show(-9223372036854775808:Int)≤_;omega,by show _≤(9223372036854775807:Int);omega⟩).trans (Ref.int (by omega))
    have r5:Ref (AV.cptr ((p.joints.map (dL jb)).getD (i-1) []) 0) (AV.cptr [(AV.rq (p.joints.getD (i-1) default) (p.joints.getD (i-1) default).den jb)] 0):=Ref.cmap (f:=dL jb) (by omega)
    have l1:8*max 300 64+8*max 300 64+8*max (rz jb k+1) 64+8*max (rz jb k+1) 64+8*max (2*rz jb k+1) 64+8*max (2*rz jb k+1) 64+2000≤LIM:=by unfold LIM;omega
    have l2:40*max jb 64+5000≤LIM:=by unfold LIM;omega
    have l3:8*max (rz jb k+1) 64+8*max (rz jb k+1) 64+8*max (8*max jb 64+500) 64+8*max (8*max jb 64+500) 64+2000≤LIM:=by unfold LIM;omega
    have e:(List.range i).map (oJ jb m p)++ [oJ jb m p i]=(List.range (i+1)).map (oJ jb m p):=by rw[List.range_succ];simp
    have key:Good Tryz.prog 71 S No w0 (eD S w0 (.list 16 ((List.range m.bodies.length).map (oJ jb m p)))) SS ⟨slots 54 [(2,.ptr 0 5 0 0),(3,.ptr 1 13 0 0),(5,.own 2 16 0 (i+1)),(6,.int .i64 ((i+1:Nat):Int))],[some ⟨48,5,false,[[.list 34 (m.bodies.map (aK 300)),.list 22 XS,.list 22 XT,.list 17 XD,.list 6 XF]],none⟩,some ⟨71,13,false,[mU jb p],none⟩,some ⟨179,16,true,(List.range i).map (oJ jb m p)++ [oJ jb m p i],none⟩]⟩:=by
      rw[e];exact ih (i+1) (by omega) (by omega)
    refine Kz m p XS XT XD XF jb (fr m p k) (fr m p i) (rz jb k) (rz jb i) i k ((List.range i).map (oJ jb m p)) v (p.joints.getD (i-1) default) r2 ⟨r1,r2,Ref.int hk,by omega,r3,by simp;omega,l1,r4,r5,by rw[hlj];omega,l2,rfl,rfl,l3,Ref.rframe hstep (BU hB ht (by omega) hi h8),by simp,by omega,by unfold big;omega,by omega⟩ ?_
    exact key
theorem Rk (hjb:jb≤100000) (hB:Co jb m p) (ht:m.tree) (h0:0<m.bodies.length) (h8:m.bodies.length≤8) (hj:p.joints.length+1=m.bodies.length):
    Good Tryz.prog 71 S No w0 (eD S w0 (.list 16 ((List.range m.bodies.length).map (oJ jb m p)))) SS ⟨slots 54 [(2,.ptr 0 5 0 0),(3,.ptr 1 13 0 0),(5,.own 2 16 0 1),(6,.int .i64 ((1:Nat):Int))],[some ⟨48,5,false,[[.list 34 (m.bodies.map (aK 300)),.list 22 XS,.list 22 XT,.list 17 XD,.list 6 XF]],none⟩,some ⟨71,13,false,[mU jb p],none⟩,some ⟨179,16,false,[oJ jb m p 0],none⟩]⟩:=by
  have hlm:(m.bodies.map (aK 300)).length=m.bodies.length:=List.length_map ..
  have hlj:(p.joints.map (dL jb)).length=p.joints.length:=List.length_map ..
  rcases Nat.lt_or_ge 1 m.bodies.length with h1 | h1
  · obtain⟨hp0,hp1⟩:=ht 1 (by omega) h1
    obtain⟨v,hv⟩:∃ v,v=m.bodies.getD 1 default:=⟨_,rfl⟩
    rw[← hv] at hp0 hp1
    have hk:v.par=0:=by omega
    have hstep:fr m p 1=xE (fr m p 0) v (p.joints.getD 0 default):=by rw[uQ ht (by omega) h1, ← hv,hk];rfl
    have hz:rz jb 0≤SZ jb:=rz_le (by omega)
    unfold SZ at hz
    have r1:Ref (.cptr ((m.bodies.map (aK 300)).getD 1 []) 0) (.cptr (aK 300 v) 0):=by rw[hv];exact Ref.cmap h1
    have r2:(1:Int)<(((m.bodies.map (aK 300)).length:Nat):Int):=by rw[hlm];omega
    have r5:Ref (AV.cptr ((p.joints.map (dL jb)).getD 0 []) 0) (AV.cptr [(AV.rq (p.joints.getD 0 default) (p.joints.getD 0 default).den jb)] 0):=Ref.cmap (f:=dL jb) (by omega)
    have r6:(0:Int)<(((p.joints.map (dL jb)).length:Nat):Int):=by rw[hlj];omega
    have l1:8*max 300 64+8*max 300 64+8*max (rz jb 0+1) 64+8*max (rz jb 0+1) 64+8*max (2*rz jb 0+1) 64+8*max (2*rz jb 0+1) 64+2000≤LIM:=by unfold LIM;omega
    have l2:40*max jb 64+5000≤LIM:=by unfold LIM;omega
    have l3:8*max (rz jb 0+1) 64+8*max (rz jb 0+1) 64+8*max (8*max jb 64+500) 64+8*max (8*max jb 64+500) 64+2000≤LIM:=by unfold LIM;omega
    have key:Good Tryz.prog 71 S No w0 (eD S w0 (.list 16 ((List.range m.bodies.length).map (oJ jb m p)))) SS ⟨slots 54 [(2,.ptr 0 5 0 0),(3,.ptr 1 13 0 0),(5,.own 2 16 0 2),(6,.int .i64 (2:Int))],[some ⟨48,5,false,[[.list 34 (m.bodies.map (aK 300)),.list 22 XS,.list 22 XT,.list 17 XD,.list 6 XF]],none⟩,some ⟨71,13,false,[mU jb p],none⟩,some ⟨179,16,true,[oJ jb m p 0,oJ jb m p 1],none⟩]⟩:=Nh hjb hB ht h8 hj (m.bodies.length-2) 2 (by omega) (by omega)
    refine KA m p XS XT XD XF jb (fr m p 0) (fr m p 1) (rz jb 0) (rz jb 1) v (p.joints.getD 0 default) r2 ⟨r1,r2,Ref.int hk,Ref.rfl',l1,Ref.rfl',r5,r6,l2,rfl,rfl,l3,Ref.rframe hstep (BU hB ht (by omega) h1 h8),by omega,by decide⟩ ?_
    exact key
  · have e1:m.bodies.length=1:=by omega
    refine KB m p XS XT XD XF jb (fr m p 0) default (rz jb 0) 0 default 0 (by rw[hlm];omega) ?_
    refine Good.pick 54 [(4,.own 2 16 0 1)] (by kernel_rfl) (by kernel_rfl) ?_
    refine Good.freezeD (b:=⟨179,16,false,[oJ jb m p 0],none⟩) 2 (by rfl) (by rfl) (AllP.of_eq (l':=[0+1≤ [oJ jb m p 0].length]) (by kernel_rfl) (.cons (by simp) .nil)) (AllP.of_nil (by kernel_rfl)) ?_
    rw[e1]
    exact lO aT (fn:=Tryz.f71) (by kernel_rfl) (.inr ⟨_,rfl⟩) (Vs:=[.list 16 (([oJ jb m p 0].drop 0).take 1)]) (by kernel_rfl) (by rfl) (by rfl) (Ref.eq rfl)
end
def LG:List AV → PtD
  | [.rq x _ _,.rq z _ _]=>⟨x,z⟩
  | _=>default
def fW:List AV → BodyD
  | [.int _ pr,.rq x _ _,.rq z _ _,.rq ma _ _,.rq ie _ _,.rq cx _ _,.rq cz _ _,.rq lo _ _,.rq hi _ _,.list _ sh]=>⟨ByteArray.mk #[],pr,⟨x,z⟩,⟨cx,cz⟩,ma,ie,lo,hi,sh.map LG⟩
  | _=>default
def fX:List AV → Rat
  | [.rq x _ _]=>x
  | _=>0
def mR (XB:List (List AV)):MachD:=⟨ByteArray.mk #[],XB.map fW,[],[],[],[]⟩
def VD:List AV → Option (AV×List Prop)
  | [.agg [.list 34 XB,.list 22 XS,.list 22 XT,.list 17 XD,.list 6 XF],.agg [.rq ax d1 jb,.rq az d2 A2,.rq tu d3 A3,.list 4 J]]=>some (.list 16 ((List.range XB.length).map (oJ jb (mR XB) ⟨⟨ax,az⟩,tu,J.map fX⟩)),[XB=(XB.map fW).map (aK 300),d1=ax.den,d2=az.den,d3=tu.den,A2=jb,A3=jb,J=(J.map fX).map (dL jb),jb≤100000,Co jb (mR XB) ⟨⟨ax,az⟩,tu,J.map fX⟩,(mR XB).tree,0<XB.length,XB.length≤8,J.length+1=XB.length])
  | _=>none
theorem Wj (args:List AV) (r:AV) (ob:List Prop) (h:VD args=some (r,ob)) (ho:AllP ob):tX Tryz.prog 71 args r:=by
  unfold VD at h
  split at h
  · rename_i XB XS XT XD XF ax d1 jb az d2 A2 tu d3 A3 J
    injection h with h;simp only[Prod.mk.injEq] at h
    obtain⟨rfl,rfl⟩:=h
    have o1:XB=(XB.map fW).map (aK 300):=ho _ (by simp)
    have o2:d1=ax.den:=ho _ (by simp)
    have o3:d2=az.den:=ho _ (by simp)
    have o4:d3=tu.den:=ho _ (by simp)
    have o5:A2=jb:=ho _ (by simp)
    have o6:A3=jb:=ho _ (by simp)
    have o7:J=(J.map fX).map (dL jb):=ho _ (by simp)
    have o8:jb≤100000:=ho _ (by simp)
    have o9:Co jb (mR XB) ⟨⟨ax,az⟩,tu,J.map fX⟩:=ho _ (by simp)
    have o10:(mR XB).tree:=ho _ (by simp)
    have o11:0<XB.length:=ho _ (by simp)
    have o12:XB.length≤8:=ho _ (by simp)
    have o13:J.length+1=XB.length:=ho _ (by simp)
    clear ho
    subst o2;subst o3;subst o4;subst o5;subst o6
    obtain⟨m,hm⟩:∃ m,m=mR XB:=⟨_,rfl⟩
    obtain⟨p,hp⟩:∃ p:PoseD,p=⟨⟨ax,az⟩,tu,J.map fX⟩:=⟨_,rfl⟩
    rw[← hm] at o9 o10 ⊢
    rw[← hp] at o9 ⊢
    have hl:XB.length=m.bodies.length:=by rw[hm];simp[mR]
    have hjl:p.joints.length=J.length:=by rw[hp];simp
    rw[hl] at o11 o12 o13 ⊢
    have hX:XB=m.bodies.map (aK 300):=by rw[hm];exact o1
    have hJ:J=p.joints.map (dL A3):=by rw[hp];exact o7
    have hA:p.at_=⟨ax,az⟩:=by rw[hp]
    have hT:p.turn=tu:=by rw[hp]
    refine Ae (fn:=Tryz.f71) (c:=aA Tryz.f71) (by kernel_rfl) (by kernel_rfl) (by kernel_rfl) fun S w0=> ?_
    have e:kC [.agg [.list 34 XB,.list 22 XS,.list 22 XT,.list 17 XD,.list 6 XF],.agg [.rq ax ax.den A3,.rq az az.den A3,.rq tu tu.den A3,.list 4 J]] Tryz.f71.ntmps=⟨slots 54 [(0,.agg [.list 34 (m.bodies.map (aK 300)),.list 22 XS,.list 22 XT,.list 17 XD,.list 6 XF]),(1,.agg (mU A3 p))],[]⟩:=by
      rw[← hX]
      unfold mU
      rw[← hJ,hA,hT]
      kernel_rfl
    rw[e];clear e
    have hF:=BU o9 o10 (by omega) o11 o12
    refine KC m p XS XT XD XF A3 (fr m p 0) (rz A3 0) ⟨by unfold LIM;omega,Ref.rframe rfl hF⟩ ?_
    exact Rk (XS:=XS) (XT:=XT) (XD:=XD) (XF:=XF) o8 o9 o10 o11 o12 (by omega)
  · cases h
def oK:=kn
def tC (bs:List BodyD) (a:Int):Nat->Int->Bool
 | 0,_=>false
 | n+1,b=>if 0<=b then (if b=a then true else tC bs a n (bs.getD b.toNat default).par) else false
def rX (bs:List BodyD):Prop:=∀ i,i<bs.length->(bs.getD i default).par<((i:Nat):Int)
def Rl:KF
 | [.agg [.list 34 XB,.list 22 XS,.list 22 XT,.list 17 XD,.list 6 XF],.int .i64 a,.int .i64 b]=>some (.bool (tC (XB.map fW) a (b.toNat+1) b),[XB=(XB.map fW).map (aK 300),rX (XB.map fW),b<((XB.length:Nat):Int)])
 | _=>none
section
variable {S:Nat->Prop} {w0:World} {XS XT XD XF:List (List AV)} {a:Int}
theorem KD {bs:List BodyD} (hd:rX bs) (R:Bool):∀ (n:Nat) (b:Int),b<((n:Nat):Int)->b<((bs.length:Nat):Int)->tC bs a n b=R->
   GF 145 S w0 (.bool R) [.code (aN [1,0,0,0] (aA Tryz.f145)),.inLoop (aN [1,0,0,0] (aA Tryz.f145)),.inBlock 0,.code (aN [1,1] (aA Tryz.f145))]
     ⟨slots 18 [(1,.i6 a),(2,.i6 b),(3,.ptr 0 5 0 0)],[some ⟨48,5,false,[[.list 34 (bs.map (aK 300)),.list 22 XS,.list 22 XT,.list 17 XD,.list 6 XF]],none⟩]⟩:=by
 intro n
 induction n with
 | zero=>
   intro b h1 h2 hR;rw[<- hR];refine rF oK [(8,ff)] (.a1 (iF (om (¬ ((0:Int)<=b))))) (V:=.bool false) rr
 | succ n ih=>
   intro b h1 h2 hR;unfold tC at hR
   by_cases c1:(0:Int)<=b
   · rw[if_pos c1] at hR
     by_cases c2:b=a
     · rw[if_pos c2] at hR
       rw[<- hR];refine rF oK [(8,tt),(11,tt)] (.a2 (iT c1) (iT c2)) (V:=.bool true) rr
     · rw[if_neg c2] at hR
       have hlt:b.toNat<bs.length:=by omega
       have hp:=hd b.toNat hlt;exact gN oK [1,2,3,6] [(8,tt),(11,ff),(15,.cptr (aK 300 (bs.getD b.toNat default)) 0)] (.a5 (iT c1) (iF c2) (show Ref (.cptr ((bs.map (aK 300)).getD b.toNat []) 0) (.cptr (aK 300 (bs.getD b.toNat default)) 0) from Ref.cmap hlt) c1 (show b<((bs.map (aK 300)).length:Int) by rw[bH];exact h2)) (ih _ (by omega) (by omega) hR)
   · rw[if_neg c1] at hR
     rw[<- hR];refine rF oK [(8,ff)] (.a1 (iF c1)) (V:=.bool false) rr
end
theorem Un:bQ 145 Rl:=fun args r ob h ho=>by
 unfold Rl at h
 split at h
 · rename_i XB XS XT XD XF a b
   cases h;have o1:XB=(XB.map fW).map (aK 300):=ho _ (by simp);have o2:rX (XB.map fW):=ho _ (by simp);have o3:b<((XB.length:Nat):Int):=ho _ (by simp);clear ho;rw[show XB.length=(XB.map fW).length by simp] at o3;generalize XB.map fW=bs at*;subst o1;refine af Tryz.f145 fun S w0=> ?_
   have e:kC [AV.agg [.list 34 (bs.map (aK 300)),.list 22 XS,.list 22 XT,.list 17 XD,.list 6 XF],.i6 a,.i6 b] Tryz.f145.ntmps=⟨slots 18 [(0,.agg [.list 34 (bs.map (aK 300)),.list 22 XS,.list 22 XT,.list 17 XD,.list 6 XF]),(1,.i6 a),(2,.i6 b)],[]⟩:=by kernel_rfl
   rw[e];exact gN oK [1,2,3] [] .nil (KD (XS:=XS) (XT:=XT) (XD:=XD) (XF:=XF) o2 _ (b.toNat+1) b (by omega) o3 rfl)
 · cases h
def Rm:KF
 | [.cptr [.str mn,.list 27 XB,.list 17 XS,.list 17 XT,.list 13 XD,.list 5 XF,.list 12 XR] 0,.int .i64 b]=>some (.bool (decide (0<=b/\b<((XB.length:Nat):Int))),[])
 | _=>none
theorem Ni:bQ 118 Rm:=by
 refine cK Tryz.f118 fun _ _ _ S w0 h ho=> ?_
 unfold Rm at h;split at h <;> cases h;rename_i mn XB XS XT XD XF XR b
 by_cases h1:(0:Int)<=b
 · exact rF .nil [(7,tt)] (.a1 (iT h1)) (V:=.bool (decide (b<(XB.length:Int)))) (Ref.bool (by simp[h1]))
 · exact rF .nil [(7,ff)] (.a1 (iF h1)) (V:=.bool false) (Ref.bool (by simp[h1]))
theorem AH {jb i:Nat} {m:MachD} {p:PoseD} (h:i<m.bodies.length):((List.range m.bodies.length).map fun i=>dS (SZ jb) (fr m p i)).getD i []=dS (SZ jb) (fr m p i):=by
 rw[mQ,List.getElem?_map,List.getElem?_range h];rfl
theorem bS {jb i:Nat} {m:MachD} {p:PoseD} (h:i<m.bodies.length):Ref (.cptr (((List.range m.bodies.length).map fun i=>dS (SZ jb) (fr m p i)).getD i []) 0) (.cptr (dS (SZ jb) (fr m p i)) 0):=Ref.eq (by rw[AH h])
theorem cM {jb:Nat} {m:MachD} {p:PoseD} (h:bD m p.joints.length=0):Ref (.tup [iE jb (aF (aD 300 m)) ⟨⟨p.at_.x,p.at_.z⟩,p.turn,(p.joints.map (bG jb)).map gM⟩,.i6 (bD (aF (aD 300 m)) (p.joints.map (bG jb)).length)]) (.tup [.cptr (yF jb m p) 0,.i6 0]):=
 Ref.eq (by rw[aU,gG,bH,show iE jb m ⟨⟨p.at_.x,p.at_.z⟩,p.turn,p.joints⟩= .cptr (yF jb m p) 0 from if_pos h,h])
theorem cN {jb:Nat} {m:MachD} {p:PoseD} (h:¬ bD m p.joints.length=0):Ref (.tup [iE jb (aF (aD 300 m)) ⟨⟨p.at_.x,p.at_.z⟩,p.turn,(p.joints.map (bG jb)).map gM⟩,.i6 (bD (aF (aD 300 m)) (p.joints.map (bG jb)).length)]) (.tup [.lit (.pointer none),.i6 (bD m p.joints.length)]):=
 Ref.eq (by rw[aU,gG,bH,show iE jb m ⟨⟨p.at_.x,p.at_.z⟩,p.turn,p.joints⟩= .lit (.pointer none) from if_neg h])
theorem Ref.pose {ax az tu:Rat} {jb A2 A3:Nat} {J:List (List AV)} (h2:A2<=jb) (h3:A3<=jb) (h:Ref (.list 3 J) (.list 3 ((J.map gM).map (bG jb)))):Ref (.agg [.q ax jb,.q az A2,.q tu A3,.list 3 J]) (.agg (aW jb ⟨⟨ax,az⟩,tu,J.map gM⟩)):=by
 refine Ref.agg (RefC.tl (RefC.cons (RefC.q_le h2) (RefC.cons (RefC.q_le h3) ?_)));intro ρ S w D vs x;cases x with
 | list f1 f2 f3 f4 f5 f6 f7=>
   cases f7;exact h _ _ _ _ _ (aV (.list f1 f2 f3 f4 f5 f6 .done))
def eQ (f:FrameD) (x:PtD):PtD:=⟨f.at_.x+(f.c*x.x-f.s*x.z),f.at_.z+(f.s*x.x+f.c*x.z)⟩
def bK (m:MachD) (n:Nat) (b:Int):Int:=if bD m n=0 then (if 0<=b/\b<((m.bodies.length:Nat):Int) then 0 else 3) else bD m n
def jH (m:MachD) (p:PoseD) (b:Int) (x:PtD):PtD:=if bK m p.joints.length b=0 then eQ (fr m p b.toNat) x else ⟨0,0⟩
def VE:KF
 | [.agg M,.agg [.q ax jb,.q az A2,.q tu A3,.list 3 J],.int .i64 b,.agg [.q px B,.q pz C]]=>some (.tup [.agg [.q (jH (aF M) ⟨⟨ax,az⟩,tu,J.map gM⟩ b ⟨px,pz⟩).x (4*SZ jb+B+C+8),.q (jH (aF M) ⟨⟨ax,az⟩,tu,J.map gM⟩ b ⟨px,pz⟩).z (4*SZ jb+B+C+8)],.int .i64 (bK (aF M) J.length b)],[M=aD 300 (aF M),(aF M).small,(aF M).bodies.length<=8,A2<=jb,A3<=jb,jb<=100000,Ref (.list 3 J) (.list 3 ((J.map gM).map (bG jb))),J.length<=4611686018427387904,8*SZ jb+2*B+2*C+400<=LIM])
 | _=>none
theorem Wk:bQ 30 VE:=by
 refine cK Tryz.f30 fun _ _ _ S w0 h ho=> ?_
 unfold VE at h;split at h <;> cases h;rename_i M ax jb az A2 tu A3 J b px B pz C;obtain⟨o1,o2,o3,o4,o5,o6,o7,o8,o9⟩:=ho.e9;have K:=((kn.cons Hn).cons Ni).cons Hz;generalize hm:aF M=m at*;subst o1;clear hm;obtain⟨p,hp⟩:∃ p:PoseD,p=⟨⟨ax,az⟩,tu,J.map gM⟩:=⟨_,rfl⟩;have hpj:p.joints.length=J.length:=by rw[hp];simp
 rw[<- hp]
 try rw[<- hpj]
 refine Good.weak 38 [(0,.agg (aD 300 m)),(1,.agg (aW jb p)),(2,.i6 b),(3,.agg [.q px B,.q pz C])] (by kernel_rfl) (.r (.cons (by rw[hp];exact Ref.pose o4 o5 o7) (.r (.r .nil)))) ?_;clear hp;have s1:aD 300 m=aD 300 (aF (aD 300 m)):=by rw[aU]
 have s2:(aF (aD 300 m)).small:=by rw[aU];exact o2
 have s3:(aF (aD 300 m)).bodies.length<=8:=by rw[aU];exact o3
 have s4:Ref (.list 3 (p.joints.map (bG jb))) (.list 3 (((p.joints.map (bG jb)).map gM).map (bG jb))):=Ref.eq (by rw[gG]);have s5:(p.joints.map (bG jb)).length<=4611686018427387904:=by rw[bH,hpj];exact o8
 have s7:SZ jb<=153753600:=by unfold SZ;omega
 have s8:LIM=17592186044416:=rfl
 by_cases h1:(bD m p.joints.length)=(0:Int)
 · have v0:Ref (.tup [(iE jb (aF (aD 300 m)) ⟨⟨p.at_.x,p.at_.z⟩,p.turn,(p.joints.map (bG jb)).map gM⟩),.i6 (bD (aF (aD 300 m)) (p.joints.map (bG jb)).length)]) (.tup [.cptr [.str m.name,.list 27 (m.bodies.map (aE 300)),.list 17 (m.springs.map (aJ 300)),.list 17 (m.tendons.map (aJ 300)),.list 13 (m.motors.map (aP 300)),.list 5 (m.feet.map (aX 300)),.list 12 ((List.range m.bodies.length).map fun i=>dS (SZ jb) (fr m p i))] 0,.i6 (0:Int)]):=by first | exact s1 | exact s2 | exact s3 | exact s4 | exact s5 | exact cM h1 | exact cN h1 | (simp only[bH,List.length_range] at*;exact bS (by omega)) | (simp only[bH,List.length_range] at*;omega)
   by_cases h2:0<=b/\b<(((m.bodies.map (aE 300)).length:Nat):Int)
   · refine rF K [(12,.tup [.cptr [.str m.name,.list 27 (m.bodies.map (aE 300)),.list 17 (m.springs.map (aJ 300)),.list 17 (m.tendons.map (aJ 300)),.list 13 (m.motors.map (aP 300)),.list 5 (m.feet.map (aX 300)),.list 12 ((List.range m.bodies.length).map fun i=>dS (SZ jb) (fr m p i))] 0,.i6 (0:Int)]),(23,ff),(34,.cptr [.q ((fr m p b.toNat).at_.x) (2*(SZ jb)),.q ((fr m p b.toNat).at_.z) (2*(SZ jb)),.q ((fr m p b.toNat).c) (SZ jb),.q ((fr m p b.toNat).s) (SZ jb)] 0)] (.c6 s1 s2 s3 (rl jb) (rl jb) o6 (.c6 s4 s5 v0 (jF h2) (show Ref (.cptr (((List.range m.bodies.length).map fun i=>dS (SZ jb) (fr m p i)).getD b.toNat []) 0) (.cptr [.q ((fr m p b.toNat).at_.x) (2*(SZ jb)),.q ((fr m p b.toNat).at_.z) (2*(SZ jb)),.q ((fr m p b.toNat).c) (SZ jb),.q ((fr m p b.toNat).s) (SZ jb)] 0) by(simp only[bH,List.length_range] at*;exact bS (by omega))) (show 0<=b by(simp only[bH,List.length_range] at*;omega)) (.a2 (show b<(((List.range m.bodies.length).map fun i=>dS (SZ jb) (fr m p i)).length:Int) by first | exact s1 | exact s2 | exact s3 | exact s4 | exact s5 | exact cM h1 | exact cN h1 | (simp only[bH,List.length_range] at*;exact bS (by omega)) | (simp only[bH,List.length_range] at*;omega)) (show(2*(SZ jb))+(2*(SZ jb))+2*B+2*C+2*(SZ jb)+2*(SZ jb)+400<=LIM by(simp only[bH,List.length_range] at*;omega))))) (V:=.tup [.agg [.q (((fr m p b.toNat).at_.x)+(((fr m p b.toNat).c)*px-((fr m p b.toNat).s)*pz)) ((2*(SZ jb))+(B+C+(SZ jb)+(SZ jb)+6)+2),.q (((fr m p b.toNat).at_.z)+(((fr m p b.toNat).s)*px+((fr m p b.toNat).c)*pz)) ((2*(SZ jb))+(B+C+(SZ jb)+(SZ jb)+6)+2)],.i6 (0:Int)]) ?_
     have e:bK m p.joints.length b=0:=by unfold bK;rw[if_pos h1,if_pos (by simpa using h2)]
     have v:jH m p b ⟨px,pz⟩=eQ (fr m p b.toNat) ⟨px,pz⟩:=if_pos e;rw[v,e];exact Ref.tup2 (Ref.agg (RefC.cons qe qe)) rr rfl rfl rfl rfl
   · refine rF K [(12,.tup [.cptr [.str m.name,.list 27 (m.bodies.map (aE 300)),.list 17 (m.springs.map (aJ 300)),.list 17 (m.tendons.map (aJ 300)),.list 13 (m.motors.map (aP 300)),.list 5 (m.feet.map (aX 300)),.list 12 ((List.range m.bodies.length).map fun i=>dS (SZ jb) (fr m p i))] 0,.i6 (0:Int)]),(23,tt)] (.c6 s1 s2 s3 (rl jb) (rl jb) o6 (.a4 s4 s5 v0 (jT h2))) (V:=.tup [.agg [.q 0 0,.q 0 0],.i6 (3:Int)]) ?_
     have e:bK m p.joints.length b=3:=by unfold bK;rw[if_pos h1,if_neg (by simpa using h2)]
     have v:jH m p b ⟨px,pz⟩=⟨0,0⟩:=if_neg (by rw[e];decide);rw[v,e];exact Ref.tup2 (Ref.agg (RefC.cons qe qe)) rr rfl rfl rfl rfl
 · refine rF K [(12,.tup [.lit (.pointer none),.i6 (bD m p.joints.length)]),(18,tt)] (.c6 s1 s2 s3 (rl jb) (rl jb) o6 (.a4 s4 s5 (show Ref (.tup [(iE jb (aF (aD 300 m)) ⟨⟨p.at_.x,p.at_.z⟩,p.turn,(p.joints.map (bG jb)).map gM⟩),.i6 (bD (aF (aD 300 m)) (p.joints.map (bG jb)).length)]) (.tup [.lit (.pointer none),.i6 (bD m p.joints.length)]) by first | exact s1 | exact s2 | exact s3 | exact s4 | exact s5 | exact cM h1 | exact cN h1 | (simp only[bH,List.length_range] at*;exact bS (by omega)) | (simp only[bH,List.length_range] at*;omega)) (jT h1))) (V:=.tup [.agg [.q 0 0,.q 0 0],.i6 (bD m p.joints.length)]) ?_
   have e:bK m p.joints.length b=bD m p.joints.length:=by unfold bK;rw[if_neg h1]
   have v:jH m p b ⟨px,pz⟩=⟨0,0⟩:=if_neg (by rw[e];exact h1);rw[v,e];exact Ref.tup2 (Ref.agg (RefC.cons qe qe)) rr rfl rfl rfl rfl
def d8 (xs:List Nat):List (List AV):=xs.map fun(d:Nat)=>[.int .u8 (d:Int)]
def HM (X:List (List AV)):List Nat:=X.map fun
 | [.int _ n]=>n.toNat
 | _=>0
theorem CV (xs:List Nat):HM (d8 xs)=xs:=by
 unfold HM d8;rw[List.map_map]
 conv=>rhs;rw[<- List.map_id xs]
 exact List.map_congr_left fun x _=>rfl
theorem gO {xs:List Nat}:(d8 xs).length=xs.length:=by simp[d8]
theorem HN {xs:List Nat} {i:Nat} (h:i<xs.length):((d8 xs).getD i []).headD .any= .int .u8 ((xs.getD i 0:Nat):Int):=by
 simp[d8,List.getD_eq_getElem?_getD,h]
theorem HO (xs:List Nat) (i v:Nat):(d8 xs).set i [.int .u8 ((v:Nat):Int)]=d8 (xs.set i v):=by simp[d8,List.map_set]
def jE (ds:List Nat):ByteArray:=ByteArray.mk (ds.map fun d=>UInt8.ofNat d).toArray
theorem KE (xs ys:List Nat):jE xs++jE ys=jE (xs++ys):=by
 apply ByteArray.ext;simp[jE]
theorem rY (xs:List Nat):(jE xs).size=xs.length:=by simp[jE,ByteArray.size]
theorem Nj (c:Nat) (cs:List Nat):(jE (c::cs)).extract 1 (jE (c::cs)).size=jE cs:=by
 apply ByteArray.ext;simp only[jE,ByteArray.size,ByteArray.data_extract];simp;exact List.take_of_length_le (by simp)
theorem Nk {c:Nat} (h:c<256) (cs:List Nat):((jE (c::cs)).data.toList.getD 0 0).toNat=c:=by
 simp[jE];omega
theorem Ff:∀ d,d<10->(ByteArray.mk #[48,49,50,51,52,53,54,55,56,57]).extract d (d+1)=jE [48+d]:=by
 decide+kernel
theorem Rn (ds:List Nat):(ds.map fun(d:Nat)=>(d:Int)).foldl (fun r n=>r.push (UInt8.ofNat n.toNat)) ByteArray.empty=jE ds:=by
 have:∀ (ds:List Nat) (s:ByteArray),(ds.map fun(d:Nat)=>(d:Int)).foldl (fun r n=>r.push (UInt8.ofNat n.toNat)) s=ByteArray.mk (s.data++(ds.map fun d=>UInt8.ofNat d).toArray):=by
   intro ds
   induction ds with
   | nil=>intro s;simp
   | cons d ds ih=>
     intro s;rw[List.map_cons,List.foldl_cons,ih];simp[ByteArray.push]
 rw[this];show ByteArray.mk (#[]++_)=_;rw[Array.empty_append];rfl
theorem KG (xs:List Nat) (h:jE xs=ByteArray.mk #[49]) (hx:∀ x∈xs,x<256):xs= [49]:=by
 have h1:=congrArg (fun b=>b.data.toList) h;simp only[jE] at h1
 match xs,h1 with
 | [],h1=>simp at h1
 | [x],h1=>
   simp at h1
   have:=hx x (by simp);have h2:=congrArg UInt8.toNat h1;simp at h2;rw[Nat.mod_eq_of_lt this] at h2;rw[h2]
 | _::_::_,h1=>simp at h1
theorem rZ (b:ByteArray):b.toList=b.data.toList:=by
 have:∀ (k i:Nat) (r:List UInt8),b.size-i=k->ByteArray.toList.loop b i r=r.reverse++b.data.toList.drop i:=by
   intro k
   induction k with
   | zero=>
     intro i r hk;unfold ByteArray.toList.loop;rw[if_neg (by omega),List.drop_eq_nil_of_le (by show b.data.size<=i;have:b.size=b.data.size:=rfl;omega),List.append_nil]
   | succ k ih=>
     intro i r hk;have hi:i<b.data.size:=by have:b.size=b.data.size:=rfl;omega
     unfold ByteArray.toList.loop;rw[if_pos (by omega),ih _ _ (by omega),List.drop_eq_getElem_cons (i:=i) (l:=b.data.toList) (by rw[Array.length_toList];exact hi),List.reverse_cons,List.append_assoc]
     have e:b.get! i=b.data.toList[i]'(by rw[Array.length_toList];exact hi):=by
       show b.data[i]! =_;rw[getElem!_pos b.data i hi];rfl
     rw[e];rfl
 exact this _ 0 [] rfl
theorem tD {a b:ByteArray}:(a.toList==b.toList)=true↔a=b:=by
 rw[beq_iff_eq,rZ,rZ];constructor
 · intro h
   apply ByteArray.ext;exact Array.toList_inj.1 h
 · rintro rfl;rfl
def LimbD.okw (v:LimbD):Prop:=v.at_.ok/\v.c.ok/\v.ma.ok/\v.inr.ok/\v.low.ok/\v.high.ok/\∀ s∈v.shape,s.ok
def SoleD.okw (v:SoleD):Prop:=(∀ s∈v.pts,s.ok)/\v.fr.ok
def RigD.okw (r:RigD):Prop:=(∀ v∈r.limbs,v.okw)/\(∀ v∈r.springs,v.ok)/\(∀ v∈r.tendons,v.ok)/\(∀ v∈r.drives,v.ok)/\(∀ v∈r.soles,v.okw)
def StandD.okw (s:StandD):Prop:=s.at_.ok/\s.turn.ok/\∀ v∈s.joints,v.ok
theorem RigD.okw.small {r:RigD} (h:r.okw) (hs:r.small=true):r.ok:=by
 obtain⟨h1,h2,h3,h4,h5⟩:=h;unfold RigD.small at hs;obtain⟨s1,s2,s3,s4,s5,s6,s7⟩:=of_decide_eq_true hs;refine⟨fun v hv=> ?_,h2,h3,h4,fun v hv=> ?_,by omega,by omega,by omega,by omega,by omega⟩
 · obtain⟨a,b,c,d,e,f,g⟩:=h1 v hv
   have:=s6 v hv;exact⟨a,b,c,d,e,f,g,by omega⟩
 · obtain⟨a,b⟩:=h5 v hv
   have:=s7 v hv;exact⟨a,by omega,b⟩
theorem HP {B:Nat} (l:List PtD):(l.map (hG B)).map LG=l:=kM (fun v=>by cases v;rfl) l
theorem HQ:SZ 300=9980:=by decide
theorem Good.seen {P:Program} {f:FuncId} {S0 C0:Nat->Prop} {w0:World} {Post:Value->World->Prop} {todo:List Item} {σ:List AV} {h:List (Option ABlk)} (l i:Nat) {b:ABlk} {el:List AV} (hl:h[l]? =some (some b)) (he:b.elems[i]? =some el)
   (hg:(∃ ρ S w D vs,RelCs ρ S w D el vs)->Good P f S0 C0 w0 Post todo ⟨σ,h⟩):Good P f S0 C0 w0 Post todo ⟨σ,h⟩:=fun ρ D a w R bb cs hb hk=>by
 obtain⟨_,arr,_,_,h3⟩:=R.heap l b hl;exact hg ⟨_,_,_,_,_,h3 i el he⟩ ρ D a w R bb cs hb hk
theorem HR (r:RigD):r.real.bodies.length=r.limbs.length:=by simp[RigD.real,nZ]
theorem CW {r:RigD} (h:r.ok):r.real.small:=by
 obtain⟨_,_,_,_,_,h1,h2,h3,h4,h5⟩:=h;refine⟨?_, ?_, ?_, ?_, ?_⟩ <;> simp only[RigD.real,nZ,bH,List.length_range] <;> omega
theorem KI {r:RigD} (h:r.small=true):r.limbs.length<=8:=by
 unfold RigD.small at h;exact(of_decide_eq_true h).1
def LH (v:BodyD):BodyD:=⟨ByteArray.mk #[],v.par,v.at_,v.c,v.ma,v.inr,v.low,v.high,v.shape⟩
theorem KJ (v:BodyD):fW (aK 300 v)=LH v:=by
 cases v;simp only[fW,aK,LH,HP]
theorem pK (l:List BodyD):(l.map (aK 300)).map fW=l.map LH:=by
 rw[List.map_map];exact List.map_congr_left fun v _=>KJ v
theorem KK (l:List BodyD):l.map (aK 300)=((l.map (aK 300)).map fW).map (aK 300):=by
 rw[pK,List.map_map];exact List.map_congr_left fun v _=>rfl
theorem tE (l:List Rat):(l.map (dL 300)).map fX=l:=kM (fun v=>rfl) l
theorem AI (m:MachD) (i:Nat):(mR (m.bodies.map (aK 300))).bodies.getD i default=LH (m.bodies.getD i default):=by
 show((m.bodies.map (aK 300)).map fW).getD i default=_;rw[pK,mQ,mQ,List.getElem?_map];cases m.bodies[i]? <;> rfl
theorem CX (m:MachD):(mR (m.bodies.map (aK 300))).bodies.length=m.bodies.length:=by simp[mR]
theorem HS (m:MachD) (p:PoseD):∀ (n i:Nat),EY (mR (m.bodies.map (aK 300))) p n i=EY m p n i
 | 0,i=>rfl
 | n+1,i=>by
   rw[EY,EY,AI];show(if i=0 then _ else xE (EY (mR (m.bodies.map (aK 300))) p n (m.bodies.getD i default).par.toNat) (LH (m.bodies.getD i default)) _)=_;rw[HS m p n];rfl
theorem Nl {m:MachD} {p:PoseD} (h:Co 300 m p):Co 300 (mR (m.bodies.map (aK 300))) ⟨⟨p.at_.x,p.at_.z⟩,p.turn,(p.joints.map (dL 300)).map fX⟩:=by
 obtain⟨h1,h2,h3,h4,h5⟩:=h;rw[tE];exact⟨h1,h2,h3,h4,fun i hi=>by rw[AI];exact h5 i (by rw[CX] at hi;exact hi)⟩
theorem KL {m:MachD} (h:m.tree):(mR (m.bodies.map (aK 300))).tree:=fun i h0 hi=>by
 rw[AI];exact h i h0 (by rw[CX] at hi;exact hi)
theorem HT (l:List BodyD) (a:Int):∀ (n:Nat) (b:Int),tC (l.map LH) a n b=tC l a n b
 | 0,b=>rfl
 | n +1,b=>by
   unfold tC
   have e:((l.map LH).getD b.toNat default).par=(l.getD b.toNat default).par:=by
     rw[mQ,mQ,List.getElem?_map];cases l[b.toNat]? <;> rfl
   rw[e,HT l a n]
def xJ:=kn
def qM (ds:List Nat) (i:Nat):List Nat:=(List.range ds.length).map fun k=>if k<i\/ds.length-i<=k then ds.getD (ds.length-1-k) 0 else ds.getD k 0
theorem lC (ds:List Nat) (i:Nat):(qM ds i).length=ds.length:=by simp[qM]
theorem pL {ds:List Nat} {i k:Nat} (h:k<ds.length):(qM ds i).getD k 0=if k<i\/ds.length-i<=k then ds.getD (ds.length-1-k) 0 else ds.getD k 0:=by
 unfold qM;rw[mQ,List.getElem?_map,List.getElem?_range h];rfl
theorem Nn {xs ys:List Nat} (hl:xs.length=ys.length) (h:∀ k,k<xs.length->xs.getD k 0=ys.getD k 0):xs=ys:=by
 refine List.ext_getElem hl fun k h1 h2=> ?_
 have:=h k h1
 rwa [mQ,mQ,List.getElem?_eq_getElem h1,List.getElem?_eq_getElem h2] at this
theorem HU (ds:List Nat):qM ds 0=ds:=by
 refine Nn (lC ds 0) fun k hk=> ?_
 rw[lC] at hk;rw[pL hk,if_neg (by omega)]
theorem KM {ds:List Nat} {i:Nat} (h:ds.length<=2*i+1):qM ds i=ds.reverse:=by
 refine Nn (by rw[lC,List.length_reverse]) fun k hk=> ?_
 rw[lC] at hk;rw[pL hk,mQ,mQ,mQ,List.getElem?_reverse hk]
 split
 · rfl
 · rw[show ds.length-1-k=k by omega]
theorem HV {ds:List Nat} {i:Nat} (h:2*i+1<ds.length):((qM ds i).set i ((qM ds i).getD (ds.length-1-i) 0)).set (ds.length-1-i) ((qM ds i).getD i 0)=qM ds (i+1):=by
 have g1:(qM ds i).getD i 0=ds.getD i 0:=by rw[pL (by omega),if_neg (by omega)]
 have g2:(qM ds i).getD (ds.length-1-i) 0=ds.getD (ds.length-1-i) 0:=by rw[pL (by omega),if_neg (by omega)]
 rw[g1,g2];refine Nn (by simp[lC]) fun k hk=> ?_
 simp only[List.length_set,lC] at hk;rw[pL hk];simp only[mQ,List.getElem?_set,List.length_set,lC]
 by_cases e1:ds.length-1-i=k
 · rw[if_pos e1,if_pos (by omega),if_pos (by omega),show ds.length-1-k=i by omega];simp[show i<ds.length by omega]
 · rw[if_neg e1]
   by_cases e2:i=k
   · rw[if_pos e2,if_pos (by omega),if_pos (by omega), <- e2];rfl
   · rw[if_neg e2]
     have:=pL (ds:=ds) (i:=i) hk;rw[mQ] at this;rw[this];simp only[mQ]
     by_cases e3:k<i\/ds.length-i<=k
     · rw[if_pos e3,if_pos (by omega)]
     · rw[if_neg e3,if_neg (by omega)]
def Ro:List AV->List ABlk->Option (AV×List (Option ABlk)×List Prop)
 | [.own 0 1 0 m],[⟨5,1,true,D,none⟩]=>some (.tup [],[some ⟨5,1,true,d8 (HM D).reverse,none⟩],[D=d8 (HM D),m=(HM D).length,m<=4611686018427387904,0<m])
 | _,_=>none
section
variable {S:Nat->Prop} {w0:World} {ρ:Nat->Nat}
noncomputable abbrev KN:List Item:=[.code (aN [1,0,0] (aA Tryz.f250)),.inLoop (aN [1,0,0] (aA Tryz.f250)),.inBlock 0]
theorem KO (hq:ρ 0<w0.heap.size) {ds:List Nat} {m:Nat} (hm:m=ds.length) (hmL:m<=4611686018427387904):∀ (j i:Nat),i+j+1=m->
   Good Tryz.prog 250 S (fun k=>∃ l,l<1/\k=ρ l) w0 (yX S w0 ρ 1 (.tup []) [some ⟨5,1,true,d8 ds.reverse,none⟩]) KN
     ⟨slots 28 [(0,.own 0 1 0 m),(2,.i6 ((i:Nat):Int)),(3,.i6 ((j:Nat):Int))],[some ⟨5,1,true,d8 (qM ds i),(some (ρ 0))⟩]⟩:=by
 have fin:∀ (i j:Nat),i+j+1=m->¬ ((i:Nat):Int)<((j:Nat):Int)->Good Tryz.prog 250 S (fun k=>∃ l,l<1/\k=ρ l) w0 (yX S w0 ρ 1 (.tup []) [some ⟨5,1,true,d8 ds.reverse,none⟩]) KN
     ⟨slots 28 [(0,.own 0 1 0 m),(2,.i6 ((i:Nat):Int)),(3,.i6 ((j:Nat):Int))],[some ⟨5,1,true,d8 (qM ds i),(some (ρ 0))⟩]⟩:=fun i j hij h=>by
   refine gN xJ [0,2,3] [(9,ff)] (.a1 (iF h)) (t:=[]) (σ:=slots 28 [(0,.own 0 1 0 m),(2,.i6 (i:Int)),(3,.i6 (j:Int))]) (h:=[some ⟨5,1,true,(d8 (qM ds i)),(some (ρ 0))⟩]) ?_
   rw[KM (by omega)]
   exact jV aT (fn:=Tryz.f250) (by kernel_rfl) (.inl rfl) (Vs:=[]) (by kernel_rfl) (by rfl) (by rfl)
     (fun | 0,_=>⟨_,rfl,rfl⟩ | l+1,hl=>absurd hl (by omega)) (fun | 0,_=>hq | l+1,hl=>absurd hl (by omega)) rr
 intro j
 induction j with
 | zero=>exact fun i hij=>fin i 0 hij (by omega)
 | succ j ih=>
   intro i hij
   by_cases h:((i:Nat):Int)<((j+1:Nat):Int)
   · have hl:=lC ds i
     have k1:j+1<(qM ds i).length:=by rw[hl];omega
     have k2:i<(qM ds i).length:=by rw[hl];omega
     have v0:0+i<(d8 (qM ds i)).length:=by rw[gO];omega
     have v1:(((j+1):Nat):Int)<(m:Int):=by omega
     refine gN xJ [0,2,3] [(9,tt),(21,.int .u8 ((((qM ds i).getD (j+1) 0):Nat):Int)),(25,.int .u8 ((((qM ds i).getD i 0):Nat):Int)),(11,.i6 ((i+1:Nat):Int)),(13,.i6 ((((j+1):Nat):Int)-(1:Int)))] (.c6 (iT h) (nn (j+1)) v1 (show Ref (((d8 (qM ds i)).getD (0+(j+1)) []).headD .any) (.int .u8 ((((qM ds i).getD (j+1) 0):Nat):Int)) from Ref.eq (by rw[Nat.zero_add,HN k1])) (show 0+(j+1)<(d8 (qM ds i)).length by rw[gO];omega) (nn i) (.c6 (om ((i:Int)<(m:Int))) (show Ref (((d8 (qM ds i)).getD (0+i) []).headD .any) (.int .u8 ((((qM ds i).getD i 0):Nat):Int)) from Ref.eq (by rw[Nat.zero_add,HN k2])) v0 (nn i) (om ((i:Int)<(m:Int))) v0 (.a5 (nn (j+1)) v1 (show 0+(j+1)<((d8 (qM ds i)).set (0+i) [(AV.int .u8 ((((qM ds i).getD (j+1) 0):Nat):Int))]).length by rw[List.length_set,gO];omega) (wI ((i:Int)+(1:Int)) ((i+1:Nat):Int)) (wI ((((j+1):Nat):Int)-(1:Int)) ((((j+1):Nat):Int)-(1:Int)))))) (t:=KN) (σ:=slots 28 [(0,.own 0 1 0 m),(2,.i6 ((i+1:Nat):Int)),(3,(.i6 ((((j+1):Nat):Int)-(1:Int))))]) (h:=[some ⟨5,1,true,(((d8 (qM ds i)).set (0+i) [(AV.int .u8 ((((qM ds i).getD (j+1) 0):Nat):Int))]).set (0+(j+1)) [.int .u8 ((((qM ds i).getD i 0):Nat):Int)]),(some (ρ 0))⟩]) ?_
     rw[Nat.zero_add,Nat.zero_add,HO,HO]
     have:=HV (ds:=ds) (i:=i) (by omega);rw[show ds.length-1-i=j+1 by omega] at this;rw[this];have e:((j+1:Nat):Int)-(1:Int)=((j:Nat):Int):=by omega
     rw[e];exact ih (i+1) (by omega)
   · exact fin i (j+1) hij h
end
theorem Rq (args:List AV) (b:List ABlk) (r:AV) (h2:List (Option ABlk)) (ob:List Prop) (h:Ro args b=some (r,h2,ob)) (ho:AllP ob):nD Tryz.prog 250 args b r h2:=by
 unfold Ro at h
 split at h
 · rename_i m D
   cases h;have o1:D=d8 (HM D):=ho _ (by simp);have o2:m=(HM D).length:=ho _ (by simp);have o3:m<=4611686018427387904:=ho _ (by simp);have o4:0<m:=ho _ (by simp);generalize HM D=ds at*;subst o1;refine lR (fn:=Tryz.f250) (c:=aA Tryz.f250) (by kernel_rfl) (by kernel_rfl) (by kernel_rfl) (by simp) fun S w0 ρ hρ=> ?_
   have e2:(kC [AV.own 0 1 0 m] Tryz.f250.ntmps).σ=slots 28 [(0,.own 0 1 0 m)]:=by kernel_rfl
   show Good _ _ _ _ _ _ _ ⟨(kC [AV.own 0 1 0 m] Tryz.f250.ntmps).σ,pY ρ 0 _⟩;rw[e2];refine gN xJ [0,2,3] [(6,.i6 ((m:Int)-(1:Int)))] (.a1 (wI ((m:Int)-(1:Int)) ((m:Int)-(1:Int)))) (t:=KN) (σ:=slots 28 [(0,.own 0 1 0 m),(2,.i6 (0:Int)),(3,.i6 ((m:Int)-(1:Int)))]) (h:=[some ⟨5,1,true,(d8 ds),(some (ρ 0))⟩]) ?_
   have e:((m:Nat):Int)-(1:Int)=((m-1:Nat):Int):=by omega
   rw[e]
   have:=KO (S:=S) (w0:=w0) (ρ:=ρ) (hρ 0 (by simp)) o2 o3 (m-1) 0 (by omega);rw[HU] at this;exact this
 · cases h
def eS:=((kn.cons Pj).cons OV).consH Rq
abbrev oL (ff:Func):List Item:=[.code (aN [1,1,1,0,0,0,1,0,1,1,0,1,0,0] (aA ff)),.inLoop (aN [1,1,1,0,0,0,1,0,1,1,0,1,0,0] (aA ff)),.inBlock 2,.code (aN [1,1,1,0,0,0,1,0,1,1,1] (aA ff)),.inBlock 1,.inLoop (aN [1,1,1,0,0,0] (aA ff)),.inBlock 0,.code (aN [1,1,1,1] (aA ff))]
abbrev HW (ys:List Nat) (r:Nat) (c:Nat) (i:Nat):List (Nat×AV):=[(23,(.bool true)),(24,(.list 1 (aG ys))),(27,(.bool false)),(31,(.bool true)),(36,(.int .u64 ((r % 10:Nat):Int))),(37,(.int .u64 ((48+(r % 10):Nat):Int))),(38,(.int .u8 (c:Int))),(42,(.int .u64 ((r/10:Nat):Int))),(33,(.i6 ((i+1:Nat):Int)))]
abbrev HX (ys:List Nat) (r:Nat) (c:Nat) (i:Nat):List (Nat×AV):=[(23,(.bool true)),(24,(.list 1 (aG ys))),(27,(.bool true)),(36,(.int .u64 ((r % 10:Nat):Int))),(37,(.int .u64 ((48+(r % 10):Nat):Int))),(38,(.int .u8 (c:Int))),(42,(.int .u64 ((r/10:Nat):Int))),(33,(.i6 ((i+1:Nat):Int)))]
abbrev AJ (r:Nat):AV:=(.int .u64 (IntKind.u64.wrap ((48:Int)+((r % 10:Nat):Int))))
abbrev AK (r:Nat):AV:=(.int .u8 (IntKind.u8.wrap ((48+(r % 10):Nat):Int)))
abbrev AL (r:Nat):AV:=(.int .u64 (IntKind.u64.wrap ((r:Int).tdiv (10:Int))))
abbrev AM (i:Nat):AV:=(.i6 (IntKind.i64.wrap ((i:Int)+(1:Int))))
abbrev AN (ys:List Nat):AV:=(.bool (decide ((0:Int)<((aG ys).length:Int))))
section
variable {S0 C0:Nat->Prop} {w0:World} {Post:Value->World->Prop}
theorem HY (n B q r i c:Nat) (ys:List Nat) (h1:(i:Int)<(9:Int)) (h2:(0:Int)<((aG ys).length:Int)) (o:(Ref (.nat q B) (.list 1 (aG ys)))/\(0<=(48:Int)+((r % 10:Nat):Int)/\(48:Int)+((r % 10:Nat):Int)<=18446744073709551615)/\(Ref (.int .u8 (IntKind.u8.wrap ((48+(r % 10):Nat):Int))) (.int .u8 (c:Int)))/\(1*1<=140737488355328)/\(1<=big)/\(Ref (.int .u64 (IntKind.u64.wrap ((r:Int).tdiv (10:Int)))) (.int .u64 ((r/10:Nat):Int)))/\(-9223372036854775808<=(i:Int)+(1:Int)/\(i:Int)+(1:Int)<=9223372036854775807))
   (hg:Good Tryz.prog 186 S0 C0 w0 Post (oL Tryz.f186) ⟨slots 48 [(3,.own 0 1 0 1),(4,.nat q B),(6,.int .u64 ((r/10:Nat):Int)),(7,.i6 ((i+1:Nat):Int))],[some ⟨5,1,true,[[.int .u8 (c:Int)]],none⟩]⟩):
   Good Tryz.prog 186 S0 C0 w0 Post (oL Tryz.f186) ⟨slots 48 [(3,.nil),(4,.nat q B),(6,.int .u64 (r:Int)),(7,.i6 (i:Int))],[]⟩:=
 tR mixed aT eS 18 none [0,3,4,6,7] [1] (HX ys r c i) (ob:=[Ref (.bool (decide ((i:Int)<(9:Int)))) (.bool true),Ref (.nat q B) (.list 1 (aG ys)),Ref (AN ys) (.bool true),Ref (.int .u64 ((r:Int).tmod (10:Int))) (.int .u64 ((r % 10:Nat):Int)),(10:Int)≠0,Ref (AJ r) (.int .u64 ((48+(r % 10):Nat):Int)),Ref (AK r) (.int .u8 (c:Int)),1=1,0<1,1*1<=140737488355328,1<=big,Ref (AL r) (.int .u64 ((r/10:Nat):Int)),(10:Int)≠0,Ref (AM i) (.i6 ((i+1:Nat):Int))]) (by decide) (by kernel_rfl)
   (.cons (Ref.bool (decide_eq_true h1)) (.cons (o.1) (.cons (Ref.bool (decide_eq_true h2)) (.cons (Ref.rem (a:=r) (b:=10) rfl rfl) (.cons (by decide) (.cons ((Ref.wr o.2.1).trans (Ref.int (by first | rfl | omega | simp))) (.cons (o.2.2.1) (.cons (rfl) (.cons (by decide) (.cons (o.2.2.2.1) (.cons (o.2.2.2.2.1) (.cons (o.2.2.2.2.2.1) (.cons (by decide) (.cons ((Ref.wr o.2.2.2.2.2.2).trans (Ref.int (by first | rfl | omega | simp))) (AllP.nil))))))))))))))) hg
theorem HZ (n B q r i c:Nat) (ys:List Nat) (h1:(i:Int)<(9:Int)) (h2:¬ ((0:Int)<((aG ys).length:Int))) (h3:(0:Int)<(r:Int)) (o:(Ref (.nat q B) (.list 1 (aG ys)))/\(0<=(48:Int)+((r % 10:Nat):Int)/\(48:Int)+((r % 10:Nat):Int)<=18446744073709551615)/\(Ref (.int .u8 (IntKind.u8.wrap ((48+(r % 10):Nat):Int))) (.int .u8 (c:Int)))/\(1*1<=140737488355328)/\(1<=big)/\(Ref (.int .u64 (IntKind.u64.wrap ((r:Int).tdiv (10:Int)))) (.int .u64 ((r/10:Nat):Int)))/\(-9223372036854775808<=(i:Int)+(1:Int)/\(i:Int)+(1:Int)<=9223372036854775807))
   (hg:Good Tryz.prog 186 S0 C0 w0 Post (oL Tryz.f186) ⟨slots 48 [(3,.own 0 1 0 1),(4,.nat q B),(6,.int .u64 ((r/10:Nat):Int)),(7,.i6 ((i+1:Nat):Int))],[some ⟨5,1,true,[[.int .u8 (c:Int)]],none⟩]⟩):
   Good Tryz.prog 186 S0 C0 w0 Post (oL Tryz.f186) ⟨slots 48 [(3,.nil),(4,.nat q B),(6,.int .u64 (r:Int)),(7,.i6 (i:Int))],[]⟩:=
 tR mixed aT eS 18 none [0,3,4,6,7] [1] (HW ys r c i) (ob:=[Ref (.bool (decide ((i:Int)<(9:Int)))) (.bool true),Ref (.nat q B) (.list 1 (aG ys)),Ref (AN ys) (.bool false),Ref (.bool (decide ((0:Int)<(r:Int)))) (.bool true),Ref (.int .u64 ((r:Int).tmod (10:Int))) (.int .u64 ((r % 10:Nat):Int)),(10:Int)≠0,Ref (AJ r) (.int .u64 ((48+(r % 10):Nat):Int)),Ref (AK r) (.int .u8 (c:Int)),1=1,0<1,1*1<=140737488355328,1<=big,Ref (AL r) (.int .u64 ((r/10:Nat):Int)),(10:Int)≠0,Ref (AM i) (.i6 ((i+1:Nat):Int))]) (by decide) (by kernel_rfl)
   (.cons (Ref.bool (decide_eq_true h1)) (.cons (o.1) (.cons (Ref.bool (decide_eq_false h2)) (.cons (Ref.bool (decide_eq_true h3)) (.cons (Ref.rem (a:=r) (b:=10) rfl rfl) (.cons (by decide) (.cons ((Ref.wr o.2.1).trans (Ref.int (by first | rfl | omega | simp))) (.cons (o.2.2.1) (.cons (rfl) (.cons (by decide) (.cons (o.2.2.2.1) (.cons (o.2.2.2.2.1) (.cons (o.2.2.2.2.2.1) (.cons (by decide) (.cons ((Ref.wr o.2.2.2.2.2.2).trans (Ref.int (by first | rfl | omega | simp))) (AllP.nil)))))))))))))))) hg
theorem Ia (n B q r i c:Nat) (ys:List Nat) (ds:List Nat) (m:Nat) (h1:(i:Int)<(9:Int)) (h2:(0:Int)<((aG ys).length:Int)) (o:(Ref (.nat q B) (.list 1 (aG ys)))/\(0<=(48:Int)+((r % 10:Nat):Int)/\(48:Int)+((r % 10:Nat):Int)<=18446744073709551615)/\(Ref (.int .u8 (IntKind.u8.wrap ((48+(r % 10):Nat):Int))) (.int .u8 (c:Int)))/\(m=(d8 ds).length)/\((m+1)*1<=140737488355328)/\(m+1<=big)/\(Ref (.int .u64 (IntKind.u64.wrap ((r:Int).tdiv (10:Int)))) (.int .u64 ((r/10:Nat):Int)))/\(-9223372036854775808<=(i:Int)+(1:Int)/\(i:Int)+(1:Int)<=9223372036854775807))
   (hg:Good Tryz.prog 186 S0 C0 w0 Post (oL Tryz.f186) ⟨slots 48 [(3,.own 0 1 0 (m+1)),(4,.nat q B),(6,.int .u64 ((r/10:Nat):Int)),(7,.i6 ((i+1:Nat):Int))],[some ⟨5,1,true,((d8 ds)++ [[(AV.int .u8 (c:Int))]]),none⟩]⟩):
   Good Tryz.prog 186 S0 C0 w0 Post (oL Tryz.f186) ⟨slots 48 [(3,.own 0 1 0 m),(4,.nat q B),(6,.int .u64 (r:Int)),(7,.i6 (i:Int))],[some ⟨5,1,true,(d8 ds),none⟩]⟩:=
 tR mixed aT eS 18 none [0,3,4,6,7] [2] (HX ys r c i) (ob:=[Ref (.bool (decide ((i:Int)<(9:Int)))) (.bool true),Ref (.nat q B) (.list 1 (aG ys)),Ref (AN ys) (.bool true),Ref (.int .u64 ((r:Int).tmod (10:Int))) (.int .u64 ((r % 10:Nat):Int)),(10:Int)≠0,Ref (AJ r) (.int .u64 ((48+(r % 10):Nat):Int)),Ref (AK r) (.int .u8 (c:Int)),1=1,m=(d8 ds).length,(m+1)*1<=140737488355328,m+1<=big,Ref (AL r) (.int .u64 ((r/10:Nat):Int)),(10:Int)≠0,Ref (AM i) (.i6 ((i+1:Nat):Int))]) (by decide) (by kernel_rfl)
   (.cons (Ref.bool (decide_eq_true h1)) (.cons (o.1) (.cons (Ref.bool (decide_eq_true h2)) (.cons (Ref.rem (a:=r) (b:=10) rfl rfl) (.cons (by decide) (.cons ((Ref.wr o.2.1).trans (Ref.int (by first | rfl | omega | simp))) (.cons (o.2.2.1) (.cons (rfl) (.cons (o.2.2.2.1) (.cons (o.2.2.2.2.1) (.cons (o.2.2.2.2.2.1) (.cons (o.2.2.2.2.2.2.1) (.cons (by decide) (.cons ((Ref.wr o.2.2.2.2.2.2.2).trans (Ref.int (by first | rfl | omega | simp))) (AllP.nil))))))))))))))) hg
theorem Ib (n B q r i c:Nat) (ys:List Nat) (ds:List Nat) (m:Nat) (h1:(i:Int)<(9:Int)) (h2:¬ ((0:Int)<((aG ys).length:Int))) (h3:(0:Int)<(r:Int)) (o:(Ref (.nat q B) (.list 1 (aG ys)))/\(0<=(48:Int)+((r % 10:Nat):Int)/\(48:Int)+((r % 10:Nat):Int)<=18446744073709551615)/\(Ref (.int .u8 (IntKind.u8.wrap ((48+(r % 10):Nat):Int))) (.int .u8 (c:Int)))/\(m=(d8 ds).length)/\((m+1)*1<=140737488355328)/\(m+1<=big)/\(Ref (.int .u64 (IntKind.u64.wrap ((r:Int).tdiv (10:Int)))) (.int .u64 ((r/10:Nat):Int)))/\(-9223372036854775808<=(i:Int)+(1:Int)/\(i:Int)+(1:Int)<=9223372036854775807))
   (hg:Good Tryz.prog 186 S0 C0 w0 Post (oL Tryz.f186) ⟨slots 48 [(3,.own 0 1 0 (m+1)),(4,.nat q B),(6,.int .u64 ((r/10:Nat):Int)),(7,.i6 ((i+1:Nat):Int))],[some ⟨5,1,true,((d8 ds)++ [[(AV.int .u8 (c:Int))]]),none⟩]⟩):
   Good Tryz.prog 186 S0 C0 w0 Post (oL Tryz.f186) ⟨slots 48 [(3,.own 0 1 0 m),(4,.nat q B),(6,.int .u64 (r:Int)),(7,.i6 (i:Int))],[some ⟨5,1,true,(d8 ds),none⟩]⟩:=
 tR mixed aT eS 18 none [0,3,4,6,7] [2] (HW ys r c i) (ob:=[Ref (.bool (decide ((i:Int)<(9:Int)))) (.bool true),Ref (.nat q B) (.list 1 (aG ys)),Ref (AN ys) (.bool false),Ref (.bool (decide ((0:Int)<(r:Int)))) (.bool true),Ref (.int .u64 ((r:Int).tmod (10:Int))) (.int .u64 ((r % 10:Nat):Int)),(10:Int)≠0,Ref (AJ r) (.int .u64 ((48+(r % 10):Nat):Int)),Ref (AK r) (.int .u8 (c:Int)),1=1,m=(d8 ds).length,(m+1)*1<=140737488355328,m+1<=big,Ref (AL r) (.int .u64 ((r/10:Nat):Int)),(10:Int)≠0,Ref (AM i) (.i6 ((i+1:Nat):Int))]) (by decide) (by kernel_rfl)
   (.cons (Ref.bool (decide_eq_true h1)) (.cons (o.1) (.cons (Ref.bool (decide_eq_false h2)) (.cons (Ref.bool (decide_eq_true h3)) (.cons (Ref.rem (a:=r) (b:=10) rfl rfl) (.cons (by decide) (.cons ((Ref.wr o.2.1).trans (Ref.int (by first | rfl | omega | simp))) (.cons (o.2.2.1) (.cons (rfl) (.cons (o.2.2.2.1) (.cons (o.2.2.2.2.1) (.cons (o.2.2.2.2.2.1) (.cons (o.2.2.2.2.2.2.1) (.cons (by decide) (.cons ((Ref.wr o.2.2.2.2.2.2.2).trans (Ref.int (by first | rfl | omega | simp))) (AllP.nil)))))))))))))))) hg
theorem Uo {B B':Base->Prop} (es:List Nat)
   (hB:B ⟨S0,C0,w0⟩) (hX:∀ (Q:Exit->Act->World->Prop) β ρ D σ h a w,B β->Rel β.S β.C β.w ρ D ⟨σ,h⟩ a w->(∀ τ∈ [46],σ.getD τ .any=(slots 48 [(2,.str (jE es)),(3,.list 1 (d8 es)),(46,.list 1 (d8 es)),(47,.str (jE es))]).getD τ .any)->wpOp Tryz.prog (aL (aN [1,1,1,1,1,0] (aA Tryz.f186))) Q 1 (fun a' w'=>∃ β',B' β'/\Rel β'.S β'.C β'.w ρ D ⟨put σ (some 47) (.str (jE es)),h⟩ a' w') a w)
   (hg:∀ β,B' β->Good Tryz.prog 186 β.S β.C β.w Post [.code .ret] ⟨slots 48 [(2,.str (jE es)),(3,.list 1 (d8 es)),(46,.list 1 (d8 es)),(47,.str (jE es))],[none]⟩):
   Good Tryz.prog 186 S0 C0 w0 Post [.code (aN [1,1,1,1,1,0] (aA Tryz.f186)),.code .ret] ⟨slots 48 [(3,.list 1 (d8 es))],[none]⟩:=
 Good.regX mixed aT eS 1 (c:=aN [1,1,1,1,1,0] (aA Tryz.f186)) (oX:=((aL (aN [1,1,1,1,1,0] (aA Tryz.f186))).toList[1]?).getD default) (dX:=some 47) (V:=(.str (jE es))) (ov:=[(47,(.str (jE es)))]) (ob:=[]) [46] (by kernel_rfl) (by kernel_rfl) (by kernel_rfl) (by kernel_rfl) (by kernel_rfl)
   (AllP.nil) (Or.inr (by kernel_rfl)) (by kernel_rfl) hX hB hg
end
def iW (es:List Nat):List Nat:=es.map (48+·)
theorem pM (es:List Nat):(iW es).length=es.length:=by simp[iW]
theorem xK (es:List Nat) (v:Nat):iW (es++ [v])=iW es++ [48+v]:=by simp[iW]
theorem KP (ds:List Nat) (v:Nat):d8 ds++ [[AV.int .u8 ((v:Nat):Int)]]=d8 (ds++ [v]):=by simp[d8]
def fO (n:Nat):ByteArray:=if n=0 then ByteArray.mk #[48] else jE (iW (aC 10 n)).reverse
def Rr:KF
 | [.nat n B]=>some (.str (fO n),[B<=LIM])
 | _=>none
def Inv (N v:Nat) (es:List Nat):Prop:=(∀ x∈es,x<10)/\aH 10 es+10^es.length*v=N/\(es≠ []->10^(es.length-1)<=N)
theorem Inv.push {N v:Nat} {es:List Nat} (h:Inv N v es) (hv:0<v):Inv N (v/10) (es++ [v % 10]):=by
 obtain⟨h1,h2,h3⟩:=h;refine⟨rD h1 (Nat.mod_lt _ (by decide)), ?_,fun _=> ?_⟩
 · rw[iM,List.length_append,List.length_singleton,Nat.pow_succ,Nat.mul_assoc,Nat.add_assoc, <- Nat.mul_add,Nat.mod_add_div];exact h2
 · rw[List.length_append,List.length_singleton,Nat.add_sub_cancel]
   have:=Nat.mul_le_mul_left (10^es.length) (show 1<=v from hv);omega
theorem Inv.len {N v B:Nat} {es:List Nat} (h:Inv N v es) (hB:N<2^B):es.length<=B+1:=by
 obtain⟨h1,h2,h3⟩:=h;rcases Nat.eq_zero_or_pos es.length with e | e
 · omega
 · have h4:=h3 (fun e'=>by rw[e'] at e;simp at e)
   have h5:2^(es.length-1)<=10^(es.length-1):=Nat.pow_le_pow_left (by decide) _
   have:=(Nat.pow_lt_pow_iff_right (a:=2) (by decide)).1 (Nat.lt_of_le_of_lt (Nat.le_trans h5 h4) hB);omega
theorem Inv.done {N:Nat} {es:List Nat} (h:Inv N 0 es) (h0:es≠ []):es=aC 10 N/\N≠0:=by
 obtain⟨h1,h2,h3⟩:=h;rw[Nat.mul_zero,Nat.add_zero] at h2;have h4:=h3 h0;obtain⟨g1,g2⟩:=aO (b:=10) (by decide) N;refine⟨Dig.uniq (b:=10) (by decide) (Dig.of_ge (by decide) h1 (by rw[h2];exact h4)) g1 (by rw[h2,g2]), ?_⟩
 have:=Nat.pow_pos (n:=es.length-1) (dc (0<10));omega
theorem Rt {ρ:Nat->Nat} {S:Nat->Prop} {w:World} {D:Nat->Prop} {es:List Nat} {v:Value} (h:RelV ρ S w D (.list 1 (d8 es)) v) (h0:es≠ []):(convert 414 9 v).run Tryz.prog w= .ok (.string (jE es)) w:=by
 obtain⟨A,cap,f,rfl,g1,g2,g3,g4,g5⟩:=jZ h;have hl:(d8 es).length=es.length:=gO;obtain⟨ad,rfl,_,_,hs⟩:=g5 (by rw[hl];exact List.length_pos_iff.2 h0);rw[run_convert_bytes_string w 414 9 5 _ _ _ (by kernel_rfl) (by kernel_rfl) (by kernel_rfl)]
 have hc:∀ j v,(es.map fun(d:Nat)=>Value.int .u8 (d:Int))[j]? =some v->w.cell? (ad.add j)=some v:=by
   intro j v hj;rw[List.getElem?_map] at hj;obtain⟨d,hd,rfl⟩:=Option.map_eq_some_iff.1 hj;have hjl:j<es.length:=(List.getElem?_eq_some_iff.1 hd).1;have hf:=g4 j [.int .u8 (d:Int)] (by simp[d8,hd]);have hfl:=g3 j (by rw[hl];exact hjl);have hsj:=hs j (by rw[hl];exact hjl)
   match hfj:f j,hfl with
   | [u],_=>
     rw[hfj] at hf hsj;have e:u= .int .u8 (d:Int):=(show RelV ρ S w No (.int .u8 (d:Int)) u from hf).int_inv;subst e
     have:=hsj 0 _ rfl;rw[Nat.mul_one] at this;exact this
 have hrun:=run_loadCells_list (w:=w) (P:=Tryz.prog) ad _ hc;rw[bH] at hrun;rw[hl,run_bytesToString w ad _ cap (es.map fun(d:Nat)=>(d:Int)) (by rw[hrun];simp[Function.comp_def]),Rn]
section
variable {S:Nat->Prop} {w0:World}
noncomputable abbrev BX:List Item:=[.code (aN [1,1,1,0,0,0] (aA Tryz.f186)),.inLoop (aN [1,1,1,0,0,0] (aA Tryz.f186)),.inBlock 0,.code (aN [1,1,1,1] (aA Tryz.f186))]
noncomputable abbrev DT:List Item:=[.code (aN [1,1,1,0,0,0,1,0,1,1,0,1,0,0] (aA Tryz.f186)),.inLoop (aN [1,1,1,0,0,0,1,0,1,1,0,1,0,0] (aA Tryz.f186)),.inBlock 2,.code (aN [1,1,1,0,0,0,1,0,1,1,1] (aA Tryz.f186)),.inBlock 1,.inLoop (aN [1,1,1,0,0,0] (aA Tryz.f186)),.inBlock 0,.code (aN [1,1,1,1] (aA Tryz.f186))]
abbrev Fg (es:List Nat):ABlk:=⟨5,1,true,d8 (iW es),none⟩
theorem Ru:∃ oX:Oper,(aL (aN [1,1,1,1,1,0] (aA Tryz.f186)))[1]? =some oX/\oX.guard=none/\oX.op=Op.convert 414 9 (Operand.tmp 46)/\oX.dst=some 47:=
 ⟨((aL (aN [1,1,1,1,1,0] (aA Tryz.f186))).toList[1]?).getD default,by kernel_rfl,by kernel_rfl,by kernel_rfl,by kernel_rfl⟩
theorem Ic {N B:Nat} (hL:B<=LIM) (hB:N<2^B) {es:List Nat} (hI:Inv N 0 es) (h0:es≠ []):
   GF 186 S w0 (.str (fO N)) BX ⟨slots 48 [(0,.nat 0 B),(3,.own 0 1 0 es.length)],[some (Fg es)]⟩:=by
 have hl:=hI.len hB;have hp:=List.length_pos_iff.2 h0;have ha:(iW es).length=es.length:=pM es;unfold LIM at hL;refine gR eS (some 14) [0,3,4,6,7] [0] [(11,.list 1 (aG (aC b32 0))),(13,ff)] (.a6 (show Ref (.nat 0 B) (.list 1 (aG (aC b32 0))) from Ref.opn) (iF (show ¬ ((0:Int)<((aG (aC b32 0)).length:Int)) by rw[aB,gL];decide)) (show(d8 (iW es))=d8 (HM (d8 (iW es))) by rw[CV]) (show es.length=(HM (d8 (iW es))).length by rw[CV,ha]) (om (es.length<=4611686018427387904)) hp) (t:=[.code (aN [1,1,1,1,1,0] (aA Tryz.f186)),.code .ret]) (σ:=slots 48 [(0,.nat 0 B),(3,.own 0 1 0 es.length)]) (h:=[some ⟨5,1,true,(d8 (HM (d8 (iW es))).reverse),none⟩]) ?_
 rw[CV];refine Good.pk 48 [(3,.own 0 1 0 es.length)] ?_;refine Good.freezeD (b:=⟨5,1,true,d8 (iW es).reverse,none⟩) 0 (by rfl) (by rfl) (AllP.of_eq (l':=[0+es.length<=(d8 (iW es).reverse).length]) (by kernel_rfl) (.cons (by rw[gO,List.length_reverse,ha];omega) .nil)) .on ?_
 refine Good.weak 48 [(3,.list 1 (d8 (iW es).reverse))] (by kernel_rfl) (.cons (by
   show Ref (.list 1 (((d8 (iW es).reverse).drop 0).take es.length)) _
   rw[List.drop_zero,fQ (by rw[gO,List.length_reverse,ha];omega)];exact rr) .nil) ?_
 refine Uo (B:=fun β=>β=⟨S,No,w0⟩) (B':=fun β=>β=⟨S,No,w0⟩) (iW es).reverse rfl ?_ ?_
 · rintro Q β ρ D σ h a w1 rfl R hA
   have h1:=R.eval (.tmp 46);have e1:bF σ (.tmp 46)= .list 1 (d8 (iW es).reverse):=(hA 46 (by simp)).trans (by kernel_rfl);rw[e1] at h1;have hrun:=Rt h1 (by simp[iW,h0]);obtain⟨oX,hoX,hg,hop,hd⟩:=Ru;refine kP hoX hg (v:=.string (jE (iW es).reverse)) (w':=w1) ?_ ?_
   · rw[execOp,hop]
     simp only[Sem.run_bind,hrun];rfl
   · rw[hd]
     exact⟨_,rfl,R.val (.str .done)⟩
 · rintro β rfl
   obtain⟨e1,e2⟩:=hI.done h0
   exact bP aT (fn:=Tryz.f186) (by kernel_rfl) 2 (by kernel_rfl) rfl (by rfl) (Ref.eq (by
     show AV.str _=_;unfold fO
     rw[if_neg e2, <- e1]))
theorem BY {N B q:Nat} (hL:B<=LIM) (hB:N<2^B)
   (hout:∀ es,Inv N q es->es≠ []->GF 186 S w0 (.str (fO N)) BX ⟨slots 48 [(0,.nat q B),(3,.own 0 1 0 es.length)],[some (Fg es)]⟩):
   ∀ (j i r v:Nat) (es:List Nat),i+j=9->v=r+10^j*q->r<10^j->Inv N v es->es≠ []->
   GF 186 S w0 (.str (fO N)) DT ⟨slots 48 [(3,.own 0 1 0 es.length),(4,.nat q B),(6,.int .u64 ((r:Nat):Int)),(7,.i6 ((i:Nat):Int))],[some (Fg es)]⟩:=by
 intro j
 induction j with
 | zero=>
   intro i r v es hij hv hr hI h0;rw[Nat.pow_zero] at hv hr;have hv':v=q:=by omega
   subst hv';exact gN eS [0,3] [(23,ff)] (.a1 (iF (om (¬ ((i:Int)<(9:Int)))))) (hout es hI h0)
 | succ j ih=>
   intro i r v es hij hv hr hI h0;have hp:10^(j+1)*q=10*(10^j*q):=by rw[Nat.pow_succ,Nat.mul_comm (10^j) 10,Nat.mul_assoc]
   have hr':r<10*10^j:=by rw[Nat.pow_succ] at hr;omega
   have hpj:10^j<=10^9:=Nat.pow_le_pow_right (by decide) (by omega);rw[hp] at hv;have hl:=hI.len hB;have hpos:=List.length_pos_iff.2 h0;unfold LIM at hL;have big':es.length+1<=big:=by unfold big;omega
   have u1:(0:Int)<=(48:Int)+((r % 10:Nat):Int)/\(48:Int)+((r % 10:Nat):Int)<=18446744073709551615:=by omega
   have u2:Ref (AV.int .u8 (IntKind.u8.wrap ((48+(r % 10):Nat):Int))) (AV.int .u8 ((48+r % 10:Nat):Int)):=Ref.wr ⟨by show(0:Int)<=_;omega,by show _<=(255:Int);omega⟩;have u3:Ref (AV.int .u64 (IntKind.u64.wrap (((r:Nat):Int).tdiv (10:Int)))) (AV.int .u64 ((r/10:Nat):Int)):=Ref.wrU (Int.ofNat_tdiv r 10).symm (by omega);have u4: -9223372036854775808<=((i:Nat):Int)+(1:Int)/\((i:Nat):Int)+(1:Int)<=9223372036854775807:=by omega
   have nx:0<v->GF 186 S w0 (.str (fO N)) DT ⟨slots 48 [(3,.own 0 1 0 (es.length+1)),(4,.nat q B),(6,.int .u64 ((r/10:Nat):Int)),(7,.i6 ((i+1:Nat):Int))],[some ⟨5,1,true,d8 (iW es)++ [[.int .u8 ((48+r % 10:Nat):Int)]],none⟩]⟩:=by
     intro hv0
     have:=ih (i+1) (r/10) (v/10) (es++ [v % 10]) (by omega) (by omega) (by omega) (hI.push hv0) (by simp);rw[List.length_append,List.length_singleton] at this;unfold Fg at this;rw[xK,show v % 10=r % 10 by omega] at this;rw[KP];exact this
   have h9:((i:Nat):Int)<(9:Int):=by omega
   rcases Nat.eq_zero_or_pos q with hq | hq
   · have z2:¬ (0:Int)<(((aG (aC b32 q)).length:Nat):Int):=by rw[aB,hq,gL];decide
     rcases Nat.eq_zero_or_pos r with hr0 | hr0
     · have z3:¬ (0:Int)<((r:Nat):Int):=by omega
       refine gN eS [0,3,4,6,7] [(23,tt),(24,.list 1 (aG (aC b32 q))),(27,ff),(31,ff)] (.a4 (iT h9) (show Ref (.nat q B) (.list 1 (aG (aC b32 q))) from Ref.opn) (iF z2) (iF z3)) (t:=BX) (σ:=slots 48 [(0,.nat q B),(3,.own 0 1 0 es.length),(4,.nat q B),(6,.int .u64 (r:Int)),(7,.i6 (i:Int))]) (h:=[some ⟨5,1,true,(d8 (iW es)),none⟩]) ?_
       have hv':v=q:=by rw[hv,hq,hr0,Nat.mul_zero]
       rw[hv'] at hI;refine Good.pk 48 [(0,.nat q B),(3,.own 0 1 0 es.length)] ?_;exact hout es hI h0
     · exact Ib 0 B q r i _ (aC b32 q) (iW es) es.length h9 z2 (by omega) ⟨Ref.opn,u1,u2,by rw[gO,pM],by omega,big',u3,u4⟩ (nx (by omega))
   · have z2:(0:Int)<(((aG (aC b32 q)).length:Nat):Int):=by
       have:=(cJ (b:=b32) (n:=q) (by decide)).2 hq;rw[aB];omega
     have:=Nat.mul_pos (Nat.pow_pos (n:=j) (dc (0<10))) hq;exact Ia 0 B q r i _ (aC b32 q) (iW es) es.length h9 z2 ⟨Ref.opn,u1,u2,by rw[gO,pM],by omega,big',u3,u4⟩ (nx (by omega))
theorem Ie {N B:Nat} (hL:B<=LIM) (hB:N<2^B):∀ (k n:Nat) (es:List Nat),n<=k->Inv N n es->es≠ []->
   GF 186 S w0 (.str (fO N)) BX ⟨slots 48 [(0,.nat n B),(3,.own 0 1 0 es.length)],[some (Fg es)]⟩:=by
 intro k
 induction k with
 | zero=>
   intro n es hn hI h0;have:n=0:=by omega
   subst this;exact Ic hL hB hI h0
 | succ k ih=>
   intro n es hn hI h0;rcases Nat.eq_zero_or_pos n with hz | hz
   · subst hz;exact Ic hL hB hI h0
   · have z2:(0:Int)<(((aG (aC b32 n)).length:Nat):Int):=by
       have:=(cJ (b:=b32) (n:=n) (by decide)).2 hz;rw[aB];omega
     exact gR eS (some 14) [3,4,6,7] [0] [(11,.list 1 (aG (aC b32 n))),(13,tt),(20,.int .u64 (((n % 1000000000):Nat):Int))] (.c6 (show Ref (.nat n B) (.list 1 (aG (aC b32 n))) from Ref.opn) (iT z2) (dc (0<=(1000000000:Int))) (dc (0<1000000000)) (dc (1000000000<4294967296)) hL (.a2 (show Ref (.int .u64 (((n % 1000000000):Nat):Int)) (.int .u64 (((n % 1000000000):Nat):Int)) from rr) (om ((n % 1000000000)<18446744073709551616)))) (BY hL hB (fun es' hI' h0'=>ih (n/1000000000) es' (by omega) hI' h0') 9 0 (n % 1000000000) n es rfl (by omega) (by omega) hI h0)
end
theorem Up:bQ 186 Rr:=fun args r ob h ho=>by
 unfold Rr at h
 split at h
 · rename_i n B
   cases h;have hL:B<=LIM:=ho _ (by simp);refine af Tryz.f186 fun S w0=> ?_
   refine Good.natlt (n:=n) (B:=B) 0 rfl fun hB=> ?_
   refine Good.pk 48 [(0,.nat n B)] ?_;rcases Nat.eq_zero_or_pos n with hz | hz
   · subst hz
     refine rF eS [(8,.list 1 (aG (aC b32 0))),(10,tt)] (.a2 (show Ref (.nat 0 B) (.list 1 (aG (aC b32 0))) from Ref.opn) (iT (show((aG (aC b32 0)).length:Int)=(0:Int) by rw[aB,gL];rfl))) (V:=.str (ByteArray.mk #[48])) rr
   · have hp:=(cJ (b:=b32) (n:=n) (by decide)).2 hz
     have z2:(0:Int)<(((aG (aC b32 n)).length:Nat):Int):=by rw[aB];omega
     have v0:Ref (.nat n B) (.list 1 (aG (aC b32 n))):=Ref.opn;refine gN eS [0,3] [(8,.list 1 (aG (aC b32 n))),(10,ff)] (.a2 v0 (iF (show ¬ ((((aG (aC b32 n)).length:Nat):Int)=(0:Int)) by rw[aB];omega))) (t:=BX) (σ:=slots 48 [(0,.nat n B),(3,.nil)]) (h:=[]) ?_
     refine gR eS (some 14) [3,4,6,7] [] [(11,.list 1 (aG (aC b32 n))),(13,tt),(20,.int .u64 (((n % 1000000000):Nat):Int))] (.c6 v0 (iT z2) (dc (0<=(1000000000:Int))) (dc (0<1000000000)) (dc (1000000000<4294967296)) hL (.a2 (show Ref (.int .u64 (((n % 1000000000):Nat):Int)) (.int .u64 (((n % 1000000000):Nat):Int)) from rr) (om ((n % 1000000000)<18446744073709551616)))) (t:=DT) (σ:=slots 48 [(3,.nil),(4,.nat (n/1000000000) B),(6,.int .u64 ((n % 1000000000:Nat):Int)),(7,.i6 ((0:Nat):Int))]) (h:=[]) ?_
     have hI:Inv n n []:=⟨by simp,by simp[aH],fun h=>absurd rfl h⟩;generalize hr:n % 1000000000=r;generalize hq:n/1000000000=q;have hv:n=r+10^8*(10*q):=by omega
     have u1:(0:Int)<=(48:Int)+((r % 10:Nat):Int)/\(48:Int)+((r % 10:Nat):Int)<=18446744073709551615:=by omega
     have u2:Ref (AV.int .u8 (IntKind.u8.wrap ((48+(r % 10):Nat):Int))) (AV.int .u8 ((48+r % 10:Nat):Int)):=Ref.wr ⟨by show(0:Int)<=_;omega,by show _<=(255:Int);omega⟩;have u3:Ref (AV.int .u64 (IntKind.u64.wrap (((r:Nat):Int).tdiv (10:Int)))) (AV.int .u64 ((r/10:Nat):Int)):=Ref.wrU (Int.ofNat_tdiv r 10).symm (by omega)
     have G:GF 186 S w0 (.str (fO n)) DT ⟨slots 48 [(3,.own 0 1 0 1),(4,.nat q B),(6,.int .u64 ((r/10:Nat):Int)),(7,.i6 ((0+1:Nat):Int))],[some ⟨5,1,true,[[.int .u8 ((48+r % 10:Nat):Int)]],none⟩]⟩:=by
       have:=BY (S:=S) (w0:=w0) hL hB (q:=q) (fun es' hI' h0'=>Ie hL hB _ q es' (rl _) hI' h0') 8 1 (r/10) (n/10) ([]++ [n % 10]) rfl (by omega) (by omega) (hI.push hz) (by simp);unfold Fg at this;rw[xK,show n % 10=r % 10 by omega] at this;exact this
     rcases Nat.eq_zero_or_pos q with hq0 | hq0
     · exact HZ 0 B q r 0 _ (aC b32 q) (by decide) (by rw[aB,hq0,gL];decide) (by omega) ⟨Ref.opn,u1,u2,by decide,by decide,u3,by decide⟩ G
     · have:=(cJ (b:=b32) (n:=q) (by decide)).2 hq0
       exact HY 0 B q r 0 _ (aC b32 q) (by decide) (by rw[aB];omega) ⟨Ref.opn,u1,u2,by decide,by decide,u3,by decide⟩ G
 · cases h
def Np:Code->Code
 | .rangeFunc _ _ a _=>a
 | c=>c
def If:Code->Code
 | .rangeFunc _ _ _ b=>b
 | c=>c
def Rv:List AV->List ABlk->Option (AV×List (Option ABlk)×List Prop)
 | [.cptr xs 0,.int .i64 b],[]=>some (.fn 267 [.ptr 0 1 0 0,.cptr [.cptr xs 0] 0],[some ⟨3,1,false,[[.int .i64 b]],none⟩],[])
 | _,_=>none
theorem Uq {S0 C0:Nat->Prop} {w0:World} {Post:Value->World->Prop} (xs:List AV) (b:Int) (hg:Good Tryz.prog 210 S0 C0 w0 Post [.code .ret] ⟨slots 6 [(4,.fn 267 [.ptr 1 1 0 0,.ptr 0 1 0 0])],[some ⟨259,1,false,[[.cptr xs 0]],none⟩,some ⟨3,1,false,[[.i6 b]],none⟩]⟩):
   Good Tryz.prog 210 S0 C0 w0 Post [.code (aA Tryz.f210)] ⟨slots 6 [(0,.cptr xs 0),(1,.i6 b)],[]⟩:=
 go mixed aT KOK.nil 20 none [4] [] (ob:=[]) (by kernel_rfl) AllP.nil hg
theorem Rw (args:List AV) (b:List ABlk) (r:AV) (h2:List (Option ABlk)) (ob:List Prop) (h:Rv args b=some (r,h2,ob)) (ho:AllP ob):nD Tryz.prog 210 args b r h2:=by
 unfold Rv at h
 split at h
 · rename_i xs b
   cases h;refine lR (fn:=Tryz.f210) (c:=aA Tryz.f210) (by kernel_rfl) (by kernel_rfl) (by kernel_rfl) (by simp) fun S w0 ρ hρ=> ?_
   have e:(kC [AV.cptr xs 0,AV.int .i64 b] Tryz.f210.ntmps).σ=slots 6 [(0,.cptr xs 0),(1,.i6 b)]:=by kernel_rfl
   rw[e];refine Uq xs b ?_;refine Good.freezeD (b:=⟨259,1,false,[[.cptr xs 0]],none⟩) 0 (by rfl) (by rfl) (.oe (.a1 (dc (0<1)))) .on ?_;refine Good.ren [1] (by decide) ?_;exact jV aT (fn:=Tryz.f210) (by kernel_rfl) (.inr ⟨_,rfl⟩) (Vs:=[AV.fn 267 [.ptr 0 1 0 0,.cptr [.cptr xs 0] 0]]) (by kernel_rfl) (by rfl) (by rfl) (fun l hl=>absurd hl (by simp)) (fun l hl=>absurd hl (by simp)) rr
 · cases h
def fH:=((((kn.cons Hn).cons Ow).cons Tn).cons Kl).consH Rw
abbrev iQ (m:MachD) (fe:Nat) (F:Nat->FrameD):List AV:=[.cptr [.str m.name,.list 27 (m.bodies.map (aE 300)),.list 17 (m.springs.map (aJ 300)),.list 17 (m.tendons.map (aJ 300)),.list 13 (m.motors.map (aP 300)),.list 5 (m.feet.map (aX 300)),.list 12 ((List.range m.bodies.length).map fun i=>dS fe (F i))] 0]
abbrev mX (N:Nat) (k4:Nat):ABlk:=⟨59,1,false,[[.own 2 3 0 N],[.own 3 3 0 N]],(some k4)⟩
abbrev mY (X:PtD) (EP:Nat) (k1:Nat):ABlk:=⟨58,6,false,[[.q X.x EP,.q X.z EP]],(some k1)⟩
abbrev tF (X:PtD) (F:Nat->FrameD) (b:Int) (E:Nat):List AV:=[.q (X.x-(F b.toNat).at_.x) E,.q (X.z-(F b.toNat).at_.z) E]
abbrev CY (l:Nat) (m:MachD) (fe:Nat) (F:Nat->FrameD):List (Nat×AV):=[(0,(.lit (.func (.yield l) #[] #[]))),(1,(.ptr 6 1 0 0)),(2,(.cptr (iQ m fe F) 0))]
section
variable {S0 C0:Nat->Prop} {w0:World} {Post:Value->World->Prop}
theorem Nq {S0 C0:Nat->Prop} {w0:World} {ro:Option Nat} {ρ:Nat->Nat} {D:Nat->Prop} {a:Act} {w:World} (m:MachD) (F:Nat->FrameD) (fe:Nat) (b:Int) (X:PtD) (EP E N k0 k1 k2 k3 k4 k5 k6:Nat) (X0 X1:List Rat) (R:Rel S0 C0 w0 ρ D ⟨slots 79 [(3,.ptr 0 1 0 0),(7,.ptr 1 6 0 0),(8,.ptr 5 1 0 0),(50,.i6 b)],[some ⟨259,1,false,[[.cptr [.str m.name,.list 27 (m.bodies.map (aE 300)),.list 17 (m.springs.map (aJ 300)),.list 17 (m.tendons.map (aJ 300)),.list 13 (m.motors.map (aP 300)),.list 5 (m.feet.map (aX 300)),.list 12 ((List.range m.bodies.length).map fun i=>dS fe (F i))] 0]],(some k0)⟩,some ⟨58,6,false,[[.q X.x EP,.q X.z EP]],(some k1)⟩,some ⟨56,3,true,(X0.map (bG E)),(some k2)⟩,some ⟨56,3,true,(X1.map (bG E)),(some k3)⟩,some ⟨59,1,false,[[.own 2 3 0 N],[.own 3 3 0 N]],(some k4)⟩,some ⟨89,1,false,[[.own 4 1 0 2]],(some k5)⟩,some ⟨3,1,false,[[.i6 b]],(some k6)⟩]⟩ a w)
   {Q:Exit->Act->World->Prop} (hQ:∀ ρ' D' a' w',Rel S0 C0 w0 ρ' D' ⟨slots 79 [(3,.ptr 0 1 0 0),(7,.ptr 1 6 0 0),(8,.ptr 5 1 0 0),(9,.i6 b)],[some ⟨259,1,false,[(iQ m fe F)],(some k0)⟩,some (mY X EP k1),some ⟨56,3,true,(X0.map (bG E)),(some k2)⟩,some ⟨56,3,true,(X1.map (bG E)),(some k3)⟩,some (mX N k4),some ⟨89,1,false,[[.own 4 1 0 2]],(some k5)⟩,some ⟨3,1,false,[[.i6 b]],(some k6)⟩]⟩ a' w'->Q .normal a' w'):(Np (aN [1,1,1,1,0,1,0] (aA Tryz.f120))).wpIn (dQ ro) 0 Tryz.prog Q a w:=
 qF mixed aT fH [3,7,8,9] [] (ob:=[]) R (by kernel_rfl) (by kernel_rfl) (by kernel_rfl)
   (AllP.nil) hQ
theorem Nr {S0 C0:Nat->Prop} {w0:World} {ro:Option Nat} {ρ:Nat->Nat} {D:Nat->Prop} {a:Act} {w:World} (m:MachD) (F:Nat->FrameD) (fe:Nat) (b:Int) (X:PtD) (EP E N k0 k1 k2 k3 k4 k5 k6:Nat) (X0 X1:List Rat) (o:(Ref (.cptr (((List.range m.bodies.length).map fun i=>dS fe (F i)).getD b.toNat []) 0) (.cptr [.q ((F b.toNat).at_.x) (2*fe),.q ((F b.toNat).at_.z) (2*fe),.q ((F b.toNat).c) fe,.q ((F b.toNat).s) fe] 0))/\(0<=b)/\(b<(((List.range m.bodies.length).map fun i=>dS fe (F i)).length:Int))/\(Ref (.agg [.q (X.x-((F b.toNat).at_.x)) (EP+(2*fe)+2),.q (X.z-((F b.toNat).at_.z)) (EP+(2*fe)+2)]) (.agg [.q (X.x-(F b.toNat).at_.x) E,.q (X.z-(F b.toNat).at_.z) E]))/\(EP+EP+(2*fe)+(2*fe)+300<=LIM)) (R:Rel S0 C0 w0 ρ D ⟨slots 79 [(3,.ptr 0 1 0 0),(7,.ptr 1 6 0 0),(8,.ptr 5 1 0 0),(9,.i6 b)],[some ⟨259,1,false,[[.cptr [.str m.name,.list 27 (m.bodies.map (aE 300)),.list 17 (m.springs.map (aJ 300)),.list 17 (m.tendons.map (aJ 300)),.list 13 (m.motors.map (aP 300)),.list 5 (m.feet.map (aX 300)),.list 12 ((List.range m.bodies.length).map fun i=>dS fe (F i))] 0]],(some k0)⟩,some ⟨58,6,false,[[.q X.x EP,.q X.z EP]],(some k1)⟩,some ⟨56,3,true,(X0.map (bG E)),(some k2)⟩,some ⟨56,3,true,(X1.map (bG E)),(some k3)⟩,some ⟨59,1,false,[[.own 2 3 0 N],[.own 3 3 0 N]],(some k4)⟩,some ⟨89,1,false,[[.own 4 1 0 2]],(some k5)⟩,some ⟨3,1,false,[[.i6 b]],(some k6)⟩]⟩ a w)
   {Q:Exit->Act->World->Prop} (hQ:∀ ρ' D' a' w',Rel S0 C0 w0 ρ' D' ⟨slots 79 [(3,.ptr 0 1 0 0),(7,.ptr 1 6 0 0),(8,.ptr 5 1 0 0),(9,.i6 b),(10,.ptr 8 6 0 0)],[some ⟨259,1,false,[(iQ m fe F)],(some k0)⟩,some (mY X EP k1),some ⟨56,3,true,(X0.map (bG E)),(some k2)⟩,some ⟨56,3,true,(X1.map (bG E)),(some k3)⟩,some (mX N k4),some ⟨89,1,false,[[.own 4 1 0 2]],(some k5)⟩,some ⟨3,1,false,[[.i6 b]],(some k6)⟩,none,some ⟨58,6,false,[(tF X F b E)],none⟩]⟩ a' w'->Q .normal a' w'):(aN [0,0] (If (aN [1,1,1,1,0,1,0] (aA Tryz.f120)))).wpIn (dQ ro) 0 Tryz.prog Q a w:=
 qF mixed aT fH [3,7,8,9,10] [(57,(.cptr [.q ((F b.toNat).at_.x) (2*fe),.q ((F b.toNat).at_.z) (2*fe),.q ((F b.toNat).c) fe,.q ((F b.toNat).s) fe] 0)),(60,(.agg (tF X F b E)))] (ob:=[Ref (.cptr (((List.range m.bodies.length).map fun i=>dS fe (F i)).getD b.toNat []) 0) (.cptr [.q ((F b.toNat).at_.x) (2*fe),.q ((F b.toNat).at_.z) (2*fe),.q ((F b.toNat).c) fe,.q ((F b.toNat).s) fe] 0),0<=b,b<(((List.range m.bodies.length).map fun i=>dS fe (F i)).length:Int),Ref (.agg [.q (X.x-((F b.toNat).at_.x)) (EP+(2*fe)+2),.q (X.z-((F b.toNat).at_.z)) (EP+(2*fe)+2)]) (.agg (tF X F b E)),EP+EP+(2*fe)+(2*fe)+300<=LIM]) R (by kernel_rfl) (by kernel_rfl) (by kernel_rfl)
   (.cons (o.1) (.cons (o.2.1) (.cons (o.2.2.1) (.cons (o.2.2.2.1) (.cons (o.2.2.2.2) (AllP.nil)))))) hQ
theorem Ns {S0 C0:Nat->Prop} {w0:World} {ro:Option Nat} {ρ:Nat->Nat} {D:Nat->Prop} {a:Act} {w:World} (m:MachD) (F:Nat->FrameD) (fe:Nat) (b:Int) (X:PtD) (EP E N k0 k1 k2 k3 k4 k5 k6:Nat) (X0 X1:List Rat) (o:(-9223372036854775808<=(2:Int)+b/\(2:Int)+b<=9223372036854775807)/\(0<=((2:Int)+b))/\(((2:Int)+b)<(N:Int))/\(0+(((2:Int)+b).toNat)<(X0.map (bG E)).length)/\(0+(((2:Int)+b).toNat)<(X1.map (bG E)).length)) (R:Rel S0 C0 w0 ρ D ⟨slots 79 [(3,.ptr 0 1 0 0),(7,.ptr 1 6 0 0),(8,.ptr 5 1 0 0),(9,.i6 b),(10,.ptr 8 6 0 0)],[some ⟨259,1,false,[[.cptr [.str m.name,.list 27 (m.bodies.map (aE 300)),.list 17 (m.springs.map (aJ 300)),.list 17 (m.tendons.map (aJ 300)),.list 13 (m.motors.map (aP 300)),.list 5 (m.feet.map (aX 300)),.list 12 ((List.range m.bodies.length).map fun i=>dS fe (F i))] 0]],(some k0)⟩,some ⟨58,6,false,[[.q X.x EP,.q X.z EP]],(some k1)⟩,some ⟨56,3,true,(X0.map (bG E)),(some k2)⟩,some ⟨56,3,true,(X1.map (bG E)),(some k3)⟩,some ⟨59,1,false,[[.own 2 3 0 N],[.own 3 3 0 N]],(some k4)⟩,some ⟨89,1,false,[[.own 4 1 0 2]],(some k5)⟩,some ⟨3,1,false,[[.i6 b]],(some k6)⟩,none,some ⟨58,6,false,[[.q (X.x-(F b.toNat).at_.x) E,.q (X.z-(F b.toNat).at_.z) E]],none⟩]⟩ a w)
   {Q:Exit->Act->World->Prop} (hQ:∀ ρ' D' a' w',Rel S0 C0 w0 ρ' D' ⟨slots 79 [],[some ⟨259,1,false,[(iQ m fe F)],(some k0)⟩,some (mY X EP k1),some ⟨56,3,true,((X0.map (bG E)).set (0+(((2:Int)+b).toNat)) [.q (-(X.z-(F b.toNat).at_.z)) E]),(some k2)⟩,some ⟨56,3,true,((X1.map (bG E)).set (0+(((2:Int)+b).toNat)) [.q (X.x-(F b.toNat).at_.x) E]),(some k3)⟩,some (mX N k4),some ⟨89,1,false,[[.own 4 1 0 2]],(some k5)⟩,some ⟨3,1,false,[[.i6 b]],(some k6)⟩,none,some ⟨58,6,false,[(tF X F b E)],none⟩,none]⟩ a' w'->Q .normal a' w'):(aN [0,1] (If (aN [1,1,1,1,0,1,0] (aA Tryz.f120)))).wpIn (dQ ro) 0 Tryz.prog Q a w:=
 qF mixed aT fH [] [(65,(.i6 ((2:Int)+b))),(70,(.i6 ((2:Int)+b)))] (ob:=[0<=(0:Int),(0:Int)<2,Ref (.i6 (IntKind.i64.wrap ((2:Int)+b))) (.i6 ((2:Int)+b)),0<=(1:Int),(1:Int)<2,Ref (.i6 (IntKind.i64.wrap ((2:Int)+b))) (.i6 ((2:Int)+b)),0<=((2:Int)+b),((2:Int)+b)<(N:Int),0+(((2:Int)+b).toNat)<(X0.map (bG E)).length,0<=((2:Int)+b),((2:Int)+b)<(N:Int),0+(((2:Int)+b).toNat)<(X1.map (bG E)).length]) R (by kernel_rfl) (by kernel_rfl) (by kernel_rfl)
   (.cons (by decide) (.cons (by decide) (.cons ((Ref.wr o.1).trans (Ref.int (by rfl))) (.cons (by decide) (.cons (by decide) (.cons ((Ref.wr o.1).trans (Ref.int (by rfl))) (.cons (o.2.1) (.cons (o.2.2.1) (.cons (o.2.2.2.1) (.cons (o.2.1) (.cons (o.2.2.1) (.cons (o.2.2.2.2) (AllP.nil))))))))))))) hQ
theorem Nt (m:MachD) (F:Nat->FrameD) (fe:Nat) (b:Int) (X:PtD) (EP E N:Nat) (X0 X1:List Rat) (hg:Good Tryz.prog 120 S0 C0 w0 Post [.code (aN [1,1,1,1,0,1] (aA Tryz.f120)),.code (aN [1,1,1,1,1] (aA Tryz.f120))] ⟨slots 79 [(3,.ptr 0 1 0 0),(7,.ptr 1 6 0 0),(8,.ptr 5 1 0 0),(49,.fn 267 [.ptr 6 1 0 0,.cptr [.cptr [.str m.name,.list 27 (m.bodies.map (aE 300)),.list 17 (m.springs.map (aJ 300)),.list 17 (m.tendons.map (aJ 300)),.list 13 (m.motors.map (aP 300)),.list 5 (m.feet.map (aX 300)),.list 12 ((List.range m.bodies.length).map fun i=>dS fe (F i))] 0] 0])],[some ⟨259,1,false,[[.cptr [.str m.name,.list 27 (m.bodies.map (aE 300)),.list 17 (m.springs.map (aJ 300)),.list 17 (m.tendons.map (aJ 300)),.list 13 (m.motors.map (aP 300)),.list 5 (m.feet.map (aX 300)),.list 12 ((List.range m.bodies.length).map fun i=>dS fe (F i))] 0]],none⟩,some ⟨58,6,false,[[.q X.x EP,.q X.z EP]],none⟩,some ⟨56,3,true,(X0.map (bG E)),none⟩,some ⟨56,3,true,(X1.map (bG E)),none⟩,some ⟨59,1,false,[[.own 2 3 0 N],[.own 3 3 0 N]],none⟩,some ⟨89,1,false,[[.own 4 1 0 2]],none⟩,some ⟨3,1,false,[[.i6 b]],none⟩]⟩):Good Tryz.prog 120 S0 C0 w0 Post [.code (aN [1,1,1,1,0,0] (aA Tryz.f120)),.code (aN [1,1,1,1,0,1] (aA Tryz.f120)),.code (aN [1,1,1,1,1] (aA Tryz.f120))] ⟨slots 79 [(1,.i6 b),(3,.ptr 0 1 0 0),(7,.ptr 1 6 0 0),(8,.ptr 5 1 0 0)],[some ⟨259,1,false,[[.cptr [.str m.name,.list 27 (m.bodies.map (aE 300)),.list 17 (m.springs.map (aJ 300)),.list 17 (m.tendons.map (aJ 300)),.list 13 (m.motors.map (aP 300)),.list 5 (m.feet.map (aX 300)),.list 12 ((List.range m.bodies.length).map fun i=>dS fe (F i))] 0]],none⟩,some ⟨58,6,false,[[.q X.x EP,.q X.z EP]],none⟩,some ⟨56,3,true,(X0.map (bG E)),none⟩,some ⟨56,3,true,(X1.map (bG E)),none⟩,some ⟨59,1,false,[[.own 2 3 0 N],[.own 3 3 0 N]],none⟩,some ⟨89,1,false,[[.own 4 1 0 2]],none⟩]⟩:=
 Good.regOne mixed aT fH [3,7,8,49] [0,1,2,3,4,5,6] [] (ob:=[]) (by kernel_rfl) (by decide) (by kernel_rfl)
   (AllP.nil) hg
theorem Ig (m:MachD) (F:Nat->FrameD) (fe:Nat) (b:Int) (X:PtD) (EP E N k0 k1 k2 k3 k4 k5 k6:Nat) (X0 X1:List Rat) (l:Nat)
   (hg:Good Tryz.prog 267 S0 C0 w0 Post [.code (aN [0,0] (aA Tryz.f267)),.inLoop (aN [0,0] (aA Tryz.f267)),.inBlock 0] ⟨slots 20 (CY l m fe F),[some ⟨259,1,false,[(iQ m fe F)],(some k0)⟩,some (mY X EP k1),some ⟨56,3,true,(X0.map (bG E)),(some k2)⟩,some ⟨56,3,true,(X1.map (bG E)),(some k3)⟩,some (mX N k4),some ⟨89,1,false,[[.own 4 1 0 2]],(some k5)⟩,some ⟨3,1,false,[[.i6 b]],(some k6)⟩]⟩):
   Good Tryz.prog 267 S0 C0 w0 Post [.code (aN [] (aA Tryz.f267))] ⟨slots 20 (CY l m fe F),[some ⟨259,1,false,[(iQ m fe F)],(some k0)⟩,some (mY X EP k1),some ⟨56,3,true,(X0.map (bG E)),(some k2)⟩,some ⟨56,3,true,(X1.map (bG E)),(some k3)⟩,some (mX N k4),some ⟨89,1,false,[[.own 4 1 0 2]],(some k5)⟩,some ⟨3,1,false,[[.i6 b]],(some k6)⟩]⟩:=
 go mixed aT fH 7 none [0,1,2] [] (ob:=[]) (by kernel_rfl)
   (AllP.nil) hg
theorem Nu (m:MachD) (F:Nat->FrameD) (fe:Nat) (b:Int) (X:PtD) (EP E N k0 k1 k2 k3 k4 k5 k6:Nat) (X0 X1:List Rat) (l:Nat) (hb:0<=b)
   (hX:∀ ρ D a w Q,Rel S0 C0 w0 ρ D ⟨slots 20 [(0,.lit (.func (.yield l) #[] #[])),(1,.ptr 6 1 0 0),(2,.cptr (iQ m fe F) 0),(4,.i6 b),(5,.bool true),(6,.bool true),(7,.lit (.func (.yield l) #[] #[])),(8,.i6 b)],[some ⟨259,1,false,[(iQ m fe F)],(some k0)⟩,some (mY X EP k1),some ⟨56,3,true,(X0.map (bG E)),(some k2)⟩,some ⟨56,3,true,(X1.map (bG E)),(some k3)⟩,some (mX N k4),some ⟨89,1,false,[[.own 4 1 0 2]],(some k5)⟩,some ⟨3,1,false,[[.i6 b]],(some k6)⟩]⟩ a w->wpOpIn (dQ none) 0 Tryz.prog (aL (aN [0,0,0,0] (aA Tryz.f267))) Q 5 (fun a' w'=>∃ ρ' D',Rel S0 C0 w0 ρ' D' ⟨slots 20 [(0,.lit (.func (.yield l) #[] #[])),(1,.ptr 6 1 0 0),(2,.cptr (iQ m fe F) 0),(6,.bool true),(9,.bool true)],[some ⟨259,1,false,[(iQ m fe F)],(some k0)⟩,some (mY X EP k1),some ⟨56,3,true,((X0.map (bG E)).set (0+(((2:Int)+b).toNat)) [.q (-(X.z-(F b.toNat).at_.z)) E]),(some k2)⟩,some ⟨56,3,true,((X1.map (bG E)).set (0+(((2:Int)+b).toNat)) [.q (X.x-(F b.toNat).at_.x) E]),(some k3)⟩,some (mX N k4),some ⟨89,1,false,[[.own 4 1 0 2]],(some k5)⟩,some ⟨3,1,false,[[.i6 b]],(some k6)⟩,none,some ⟨58,6,false,[(tF X F b E)],none⟩,none]⟩ a' w') a w)
   (hg:Good Tryz.prog 267 S0 C0 w0 Post [.code (aN [0,0,0,1] (aA Tryz.f267)),.code (aN [0,0,1] (aA Tryz.f267)),.inLoop (aN [0,0] (aA Tryz.f267)),.inBlock 0] ⟨slots 20 [(0,.lit (.func (.yield l) #[] #[])),(1,.ptr 6 1 0 0),(2,.cptr (iQ m fe F) 0),(6,.bool true),(9,.bool true),(10,.bool true)],[some ⟨259,1,false,[(iQ m fe F)],(some k0)⟩,some (mY X EP k1),some ⟨56,3,true,((X0.map (bG E)).set (0+(((2:Int)+b).toNat)) [.q (-(X.z-(F b.toNat).at_.z)) E]),(some k2)⟩,some ⟨56,3,true,((X1.map (bG E)).set (0+(((2:Int)+b).toNat)) [.q (X.x-(F b.toNat).at_.x) E]),(some k3)⟩,some (mX N k4),some ⟨89,1,false,[[.own 4 1 0 2]],(some k5)⟩,some ⟨3,1,false,[[.i6 b]],(some k6)⟩,none,some ⟨58,6,false,[(tF X F b E)],none⟩,none]⟩):Good Tryz.prog 267 S0 C0 w0 Post [.code (aN [0,0,0,0] (aA Tryz.f267)),.code (aN [0,0,0,1] (aA Tryz.f267)),.code (aN [0,0,1] (aA Tryz.f267)),.inLoop (aN [0,0] (aA Tryz.f267)),.inBlock 0] ⟨slots 20 (CY l m fe F),[some ⟨259,1,false,[(iQ m fe F)],(some k0)⟩,some (mY X EP k1),some ⟨56,3,true,(X0.map (bG E)),(some k2)⟩,some ⟨56,3,true,(X1.map (bG E)),(some k3)⟩,some (mX N k4),some ⟨89,1,false,[[.own 4 1 0 2]],(some k5)⟩,some ⟨3,1,false,[[.i6 b]],(some k6)⟩]⟩:=
 Good.regRound mixed aT fH 5 [(5,AV.bool true)] (ob1:=[Ref (.bool (decide ((0:Int)<=b))) (.bool true)]) (ob2:=[]) (by kernel_rfl) (by kernel_rfl) (Nat.le_of_ble_eq_true (by kernel_rfl)) (by kernel_rfl) (by kernel_rfl) (.cons (Ref.bool (decide_eq_true hb)) AllP.nil) hX (by kernel_rfl) AllP.nil hg
end
noncomputable abbrev Ih:List Item:=[.code (aN [0,0] (aA Tryz.f267)),.inLoop (aN [0,0] (aA Tryz.f267)),.inBlock 0]
theorem DU {fe i:Nat} {m:MachD} {F:Nat->FrameD} (h:i<m.bodies.length):Ref (.cptr (((List.range m.bodies.length).map fun i=>dS fe (F i)).getD i []) 0) (.cptr (dS fe (F i)) 0):=Ref.eq (by rw[mQ,List.getElem?_map,List.getElem?_range h];rfl)
def dH (m:MachD) (F:Nat->FrameD) (X:PtD):Nat->Int->List Rat->List Rat->List Rat×List Rat
 | 0,_,Y,Z=>(Y,Z)
 | n+1,b,Y,Z=>if 0<=b then dH m F X n (m.bodies.getD b.toNat default).par (Y.set ((2:Int)+b).toNat (-(X.z-(F b.toNat).at_.z))) (Z.set ((2:Int)+b).toNat (X.x-(F b.toNat).at_.x)) else (Y,Z)
abbrev DV (fe:Nat) (m:MachD) (F:Nat->FrameD):List AV:=[.str m.name,.list 27 (m.bodies.map (aE 300)),.list 17 (m.springs.map (aJ 300)),.list 17 (m.tendons.map (aJ 300)),.list 13 (m.motors.map (aP 300)),.list 5 (m.feet.map (aX 300)),.list 12 ((List.range m.bodies.length).map fun i=>dS fe (F i))]
abbrev hJ (m:MachD) (F:Nat->FrameD) (fe:Nat) (X:PtD) (EP E N k0 k1 k2 k3 k4 k5 k6:Nat) (X0 X1:List Rat) (b:Int):List (Option ABlk):=[some ⟨259,1,false,[[.cptr (DV fe m F) 0]],some k0⟩,some ⟨58,6,false,[[.q X.x EP,.q X.z EP]],some k1⟩,some ⟨56,3,true,X0.map (bG E),some k2⟩,some ⟨56,3,true,X1.map (bG E),some k3⟩,some ⟨59,1,false,[[.own 2 3 0 N],[.own 3 3 0 N]],some k4⟩,some ⟨89,1,false,[[.own 4 1 0 2]],some k5⟩,some ⟨3,1,false,[[.i6 b]],some k6⟩]
theorem Fh {bs:List BodyD} (h:eE bs 0=0):(bs.getD 0 default).par= -1:=by
 unfold eE BN at h
 split at h
 · cases h
 · split at h
   · cases h
   · unfold jC at h
     split at h
     · cases h
     · rename_i h1
       have:lE (bs.getD 0 default)=true:=by
         cases ht:lE (bs.getD 0 default) with
         | true=>rfl
         | false=>exact absurd (.inl ⟨rfl,ht⟩) h1
       unfold lE at this;exact(of_decide_eq_true this).1
theorem CZ {m:MachD} (h:dW m=0) {b:Int} (h0:0<=b) (hb:b<((m.bodies.length:Nat):Int)):(m.bodies.getD b.toNat default).par<b/\ -1<=(m.bodies.getD b.toNat default).par:=by
 by_cases hz:b=0
 · subst hz
   have:=Fh ((jD h).2.1 0 (by omega));rw[show(0:Int).toNat=0 from rfl,this];decide
 · have:=mW h b.toNat (by omega) (by omega)
   omega
section
variable {S1 C1:Nat->Prop} {w1:World}
abbrev I0 (fe:Nat) (m:MachD) (F:Nat->FrameD) (l:Nat):List (Nat×AV):=[(0,.lit (.func (.yield l) #[] #[])),(1,.ptr 6 1 0 0),(2,.cptr [.cptr (DV fe m F) 0] 0)]
noncomputable abbrev codeRF:Code:=aN [1,1,1,1,0,1,0] (aA Tryz.f120)
theorem Rx:codeRF= .rangeFunc (.tmp 49) #[50] (Np codeRF) (If codeRF):=by kernel_rfl
theorem Nv:If codeRF= .block 1 (.seq (aN [0,0] (If codeRF)) (aN [0,1] (If codeRF))):=by kernel_rfl
theorem Ii (m:MachD) (F:Nat->FrameD) (fe:Nat) (X:PtD) (EP E N k0 k1 k2 k3 k4 k5 k6:Nat) (b:Int) (X0 X1:List Rat) (l:Nat) (rec:Loop) {tmps:Array Value} (hl1:w1.heap[l]? =some (.loop rec)) (hSl:S1 l) (hCl:¬ C1 l)
   (hrec:rec={ state:=.ready,pending:=none,fn:=120,tmps:=tmps,params:= #[50],assign:=Np codeRF,body:=If codeRF,defers:=rec.defers }) (hsz:tmps.size=79)
   (h3:tmps[3]? =some (.pointer (some ⟨k0,0,none⟩))) (h7:tmps[7]? =some (.pointer (some ⟨k1,0,none⟩))) (h8:tmps[8]? =some (.pointer (some ⟨k5,0,none⟩)))
   (hb0:0<=b) (hb:b<((m.bodies.length:Nat):Int)) (hN:N=m.bodies.length+2) (hX0:X0.length=N) (hX1:X1.length=N) (hn:m.bodies.length<=1000) (hE:EP+2*fe+2<=E) (hLIM:2*EP+4*fe+300<=LIM):
   ∀ ρ D a w Q,Rel S1 C1 w1 ρ D ⟨slots 20 [(0,.lit (.func (.yield l) #[] #[])),(1,.ptr 6 1 0 0),(2,.cptr [.cptr (DV fe m F) 0] 0),(4,.i6 b),(5,.bool true),(6,.bool true),(7,.lit (.func (.yield l) #[] #[])),(8,.i6 b)],hJ m F fe X EP E N k0 k1 k2 k3 k4 k5 k6 X0 X1 b⟩ a w->
     wpOpIn (dQ none) 0 Tryz.prog (aL (aN [0,0,0,0] (aA Tryz.f267))) Q 5 (fun a' w'=>∃ ρ' D',Rel S1 C1 w1 ρ' D' ⟨slots 20 [(0,.lit (.func (.yield l) #[] #[])),(1,.ptr 6 1 0 0),(2,.cptr [.cptr (DV fe m F) 0] 0),(6,.bool true),(9,.bool true)],
       hJ m F fe X EP E N k0 k1 k2 k3 k4 k5 k6 (X0.set ((2:Int)+b).toNat (-(X.z-(F b.toNat).at_.z))) (X1.set ((2:Int)+b).toNat (X.x-(F b.toNat).at_.x)) b++ [none,some ⟨58,6,false,[[.q (X.x-(F b.toNat).at_.x) E,.q (X.z-(F b.toNat).at_.z) E]],none⟩,none]⟩ a' w') a w:=by
 intro ρ D a w Q R;have hlw:w.heap[l]? =some (.loop rec):=by rw[R.chg.block l (bB hl1) hCl];exact hl1
 have hop:(((aL (aN [0,0,0,0] (aA Tryz.f267)))[5]?).getD default).op= .call { callee:=.value (.tmp 7),args:= #[.tmp 8],argTypes:= #[3] }:=by kernel_rfl
 have hdst:(((aL (aN [0,0,0,0] (aA Tryz.f267)))[5]?).getD default).dst=some 9:=by kernel_rfl
 refine Hc (g:=.tmp 7) (x:=.tmp 8) (t:=50) (c:={ callee:=.value (.tmp 7),args:= #[.tmp 8],argTypes:= #[3] }) (o:=((aL (aN [0,0,0,0] (aA Tryz.f267)))[5]?).getD default) R (by kernel_rfl) hop rfl rfl (by kernel_rfl) rfl hlw (by rw[hrec]) ?_;rw[hdst];have hx:RelV ρ (Sof S1 ρ (hJ m F fe X EP E N k0 k1 k2 k3 k4 k5 k6 X0 X1 b)) w D (.i6 b) (a.eval (.tmp 8)):=R.eval (.tmp 8);have e1:rec.fn=120:=by rw[hrec]
 have e2:rec.tmps=tmps:=by rw[hrec]
 have e3:rec.assign=Np codeRF:=by rw[hrec]
 have e4:rec.body=If codeRF:=by rw[hrec]
 rw[e1,e2,e3,e4];have z2:LIM=17592186044416:=rfl
 refine RoundIn.mono (Hb (f:=120) (h':=hJ m F fe X EP E N k0 k1 k2 k3 k4 k5 k6 (X0.set ((2:Int)+b).toNat (-(X.z-(F b.toNat).at_.z))) (X1.set ((2:Int)+b).toNat (X.x-(F b.toNat).at_.x)) b++ [none,some ⟨58,6,false,[[.q (X.x-(F b.toNat).at_.x) E,.q (X.z-(F b.toNat).at_.z) E]],none⟩,none])
   (σr:=slots 79 [(3,.ptr 0 1 0 0),(7,.ptr 1 6 0 0),(8,.ptr 5 1 0 0),(50,.i6 b)]) (σa:=slots 79 [(3,.ptr 0 1 0 0),(7,.ptr 1 6 0 0),(8,.ptr 5 1 0 0),(9,.i6 b)]) (σb:=slots 79 []) R hl1 hSl hCl (by rw[hrec]) (by rw[hrec]) (by rw[dO];simpa using hsz) ?_ ?_ ?_) ?_
 · refine tA fun q hq v hv=> ?_
   simp only[List.mem_cons,List.not_mem_nil,or_false] at hq;rcases hq with rfl | rfl | rfl | rfl
   · simp[Array.getElem?_setIfInBounds,h3] at hv;subst hv
     exact R.ptrPin (l:=0) (i:=0) (o:=0) (b:=⟨259,1,false,[[.cptr (DV fe m F) 0]],some k0⟩) rfl rfl
   · simp[Array.getElem?_setIfInBounds,h7] at hv;subst hv
     exact R.ptrPin (l:=1) (i:=0) (o:=0) (b:=⟨58,6,false,[[.q X.x EP,.q X.z EP]],some k1⟩) rfl rfl
   · simp[Array.getElem?_setIfInBounds,h8] at hv;subst hv
     exact R.ptrPin (l:=5) (i:=0) (o:=0) (b:=⟨89,1,false,[[.own 4 1 0 2]],some k5⟩) rfl rfl
   · simp[Array.getElem?_setIfInBounds,hsz] at hv;subst hv
     exact hx
 · intro C' W0 ρ1 D1 a1 R1 Q1 hQ1
   exact Nq m F fe b X EP E N k0 k1 k2 k3 k4 k5 k6 X0 X1 R1 hQ1
 · intro C' W0 ρ1 D1 a1 R1 Q1 hQ1
   rw[Nv];refine wpIn_block (wpIn_seq ?_);refine Nr m F fe b X EP E N k0 k1 k2 k3 k4 k5 k6 X0 X1 ⟨DU (by omega),hb0,by simpa using hb,Ref.agg (RefC.cons (RefC.q_le (by omega)) (RefC.q_le (by omega))),by omega⟩ R1 ?_;intro ρ2 D2 a2 W2 R2;refine Ns m F fe b X EP E N k0 k1 k2 k3 k4 k5 k6 X0 X1 ⟨by omega,by omega,by omega,by simp;omega,by simp;omega⟩ R2 ?_;intro ρ3 D3 a3 W3 R3;refine hQ1 ρ3 D3 a3 W3 ?_;have s0:(X0.map (bG E)).set (0+((2:Int)+b).toNat) [.q (-(X.z-(F b.toNat).at_.z)) E]=(X0.set ((2:Int)+b).toNat (-(X.z-(F b.toNat).at_.z))).map (bG E):=by rw[Nat.zero_add,List.map_set];rfl
   have s1:(X1.map (bG E)).set (0+((2:Int)+b).toNat) [.q (X.x-(F b.toNat).at_.x) E]=(X1.set ((2:Int)+b).toNat (X.x-(F b.toNat).at_.x)).map (bG E):=by rw[Nat.zero_add,List.map_set];rfl
   rw[s0,s1] at R3;exact R3
 · rintro e W ⟨rfl,ρ',D',R',hk⟩
   refine⟨_,rfl,ρ',D',R'.act (by exact R.defers) (by rw[dO];have:=R.len;simp[Act.put];rw[this,dO]) ?_⟩;refine tA fun q hq v hv=> ?_
   simp only[List.mem_cons,List.not_mem_nil,or_false] at hq;rcases hq with rfl | rfl | rfl | rfl | rfl
   · simp[Act.put,Array.getElem?_setIfInBounds] at hv
     exact hk _ _ rfl rfl (R.tmps 0 v hv)
   · simp[Act.put,Array.getElem?_setIfInBounds] at hv
     have hp:RelV ρ (Sof S1 ρ (hJ m F fe X EP E N k0 k1 k2 k3 k4 k5 k6 X0 X1 b)) w D (.ptr 6 1 0 0) v:=R.tmps 1 v hv;obtain⟨rfl,_⟩:=jL (st:=⟨[],hJ m F fe X EP E N k0 k1 k2 k3 k4 k5 k6 X0 X1 b⟩) hp;rw[(R.mine 6 ⟨3,1,false,[[.i6 b]],some k6⟩ rfl).2.2 k6 rfl];exact R'.ptrPin (l:=6) (i:=0) (o:=0) (b:=⟨3,1,false,[[.i6 b]],some k6⟩) rfl rfl
   · simp[Act.put,Array.getElem?_setIfInBounds] at hv
     exact hk _ _ rfl rfl (R.tmps 2 v hv)
   · simp[Act.put,Array.getElem?_setIfInBounds] at hv
     exact hk _ _ rfl rfl (R.tmps 6 v hv)
   · have hs:a.tmps.size=20:=by have:=R.len;rw[this,dO]
     simp[Act.put,Array.getElem?_setIfInBounds,hs] at hv;subst hv;exact RelCs.bool .done
abbrev xL (m:MachD) (fe:Nat) (F:Nat → FrameD):List AV:=[.cptr [.str m.name,.list 27 (m.bodies.map (aE 300)),.list 17 (m.springs.map (aJ 300)),.list 17 (m.tendons.map (aJ 300)),.list 13 (m.motors.map (aP 300)),.list 5 (m.feet.map (aX 300)),.list 12 ((List.range m.bodies.length).map fun i=>dS fe (F i))] 0]
abbrev Ij (m:MachD) (fe:Nat) (F:Nat → FrameD) (k0:Nat) (X:PtD) (EP:Nat) (k1:Nat) (X0:List Rat) (E:Nat) (k2:Nat) (X1:List Rat) (k3:Nat) (N:Nat) (k4:Nat) (k5:Nat) (b:Int) (k6:Nat):List (Option ABlk):=[some ⟨259,1,false,[(xL m fe F)],(some k0)⟩,some ⟨58,6,false,[[.q X.x EP,.q X.z EP]],(some k1)⟩,some ⟨56,3,true,(X0.map (bG E)),(some k2)⟩,some ⟨56,3,true,(X1.map (bG E)),(some k3)⟩,some ⟨59,1,false,[[.own 2 3 0 N],[.own 3 3 0 N]],(some k4)⟩,some ⟨89,1,false,[[.own 4 1 0 2]],(some k5)⟩,some ⟨3,1,false,[[.i6 b]],(some k6)⟩]
theorem KQ (m:MachD) (F:Nat->FrameD) (fe:Nat) (X:PtD) (EP E N k0 k1 k2 k3 k4 k5 k6:Nat) (l:Nat) (rec:Loop) {tmps:Array Value} {Post:Value->World->Prop} (hl1:w1.heap[l]? =some (.loop rec)) (hSl:S1 l) (hCl:¬ C1 l)
   (hrec:rec={ state:=.ready,pending:=none,fn:=120,tmps:=tmps,params:= #[50],assign:=Np codeRF,body:=If codeRF,defers:=rec.defers }) (hsz:tmps.size=79)
   (h3:tmps[3]? =some (.pointer (some ⟨k0,0,none⟩))) (h7:tmps[7]? =some (.pointer (some ⟨k1,0,none⟩))) (h8:tmps[8]? =some (.pointer (some ⟨k5,0,none⟩)))
   (hN:N=m.bodies.length+2) (hn:m.bodies.length<=1000) (hE:EP+2*fe+2<=E) (hLIM:2*EP+4*fe+300<=LIM) (hc:dW m=0):
   ∀ (n:Nat) (b:Int) (X0 X1:List Rat),b<((n:Nat):Int)->b<((m.bodies.length:Nat):Int)->X0.length=N->X1.length=N->
   (∀ bE,Good Tryz.prog 267 S1 C1 w1 Post [] ⟨slots 20 (I0 fe m F l),hJ m F fe X EP E N k0 k1 k2 k3 k4 k5 k6 (dH m F X n b X0 X1).1 (dH m F X n b X0 X1).2 bE⟩)->
   Good Tryz.prog 267 S1 C1 w1 Post Ih ⟨slots 20 (I0 fe m F l),hJ m F fe X EP E N k0 k1 k2 k3 k4 k5 k6 X0 X1 b⟩:=by
 intro n
 induction n with
 | zero=>
   intro b X0 X1 h1 h2 hX0 hX1 hg;exact gR fH none [0,1,2] [0,1,2,3,4,5,6] [(6,ff)] (.a1 (iF (om (¬ ((0:Int)<=b))))) (hg b)
 | succ n ih=>
   intro b X0 X1 h1 h2 hX0 hX1 hg
   by_cases hb0:0<=b
   · refine gS fH (some 0) [0,1,2] [] .nil (t:=[.code (aN [0,0,0,0] (aA Tryz.f267)),.code (aN [0,0,0,1] (aA Tryz.f267)),.code (aN [0,0,1] (aA Tryz.f267)),.inLoop (aN [0,0] (aA Tryz.f267)),.inBlock 0]) (σ:=slots 20 [(0,.lit (.func (.yield l) #[] #[])),(1,.ptr 6 1 0 0),(2,.cptr (xL m fe F) 0)]) (h:=(Ij m fe F k0 X EP k1 X0 E k2 X1 k3 N k4 k5 b k6)) ?_
     have hp:=CZ hc hb0 h2;have s0:(X0.map (bG E)).set (0+((2:Int)+b).toNat) [.q (-(X.z-(F b.toNat).at_.z)) E]=(X0.set ((2:Int)+b).toNat (-(X.z-(F b.toNat).at_.z))).map (bG E):=by rw[Nat.zero_add,List.map_set];rfl
     have s1:(X1.map (bG E)).set (0+((2:Int)+b).toNat) [.q (X.x-(F b.toNat).at_.x) E]=(X1.set ((2:Int)+b).toNat (X.x-(F b.toNat).at_.x)).map (bG E):=by rw[Nat.zero_add,List.map_set];rfl
     refine Nu m F fe b X EP E N k0 k1 k2 k3 k4 k5 k6 X0 X1 l hb0 ?_ ?_
     · rw[s0,s1]
       exact Ii m F fe X EP E N k0 k1 k2 k3 k4 k5 k6 b X0 X1 l rec hl1 hSl hCl hrec hsz h3 h7 h8 hb0 h2 hN hX0 hX1 hn hE hLIM
     · refine gR fH none [0,1,2] [0,1,2,3,4,5,6] [(17,.cptr (aE 300 (m.bodies.getD b.toNat default)) 0)] (.a3 (show Ref (.cptr ((m.bodies.map (aE 300)).getD b.toNat []) 0) (.cptr (aE 300 (m.bodies.getD b.toNat default)) 0) from Ref.eq ?_) hb0 (show b<((m.bodies.map (aE 300)).length:Int) by simpa using h2)) (t:=Ih) (σ:=slots 20 [(0,.lit (.func (.yield l) #[] #[])),(1,.ptr 6 1 0 0),(2,.cptr (xL m fe F) 0)]) (h:=[some ⟨259,1,false,[(xL m fe F)],(some k0)⟩,some ⟨58,6,false,[[.q X.x EP,.q X.z EP]],(some k1)⟩,some ⟨56,3,true,((X0.map (bG E)).set (0+(((2:Int)+b).toNat)) [.q (-(X.z-(F b.toNat).at_.z)) E]),(some k2)⟩,some ⟨56,3,true,((X1.map (bG E)).set (0+(((2:Int)+b).toNat)) [.q (X.x-(F b.toNat).at_.x) E]),(some k3)⟩,some ⟨59,1,false,[[.own 2 3 0 N],[.own 3 3 0 N]],(some k4)⟩,some ⟨89,1,false,[[.own 4 1 0 2]],(some k5)⟩,some ⟨3,1,false,[[.i6 (m.bodies.getD b.toNat default).par]],(some k6)⟩]) ?_
       · rw[BH (by omega)];try rfl
       · rw[s0,s1]
         refine ih _ _ _ (by omega) (by omega) (by simpa using hX0) (by simpa using hX1) fun bE=> ?_
         have:=hg bE;rw[show dH m F X (n+1) b X0 X1=dH m F X n (m.bodies.getD b.toNat default).par (X0.set ((2:Int)+b).toNat (-(X.z-(F b.toNat).at_.z))) (X1.set ((2:Int)+b).toNat (X.x-(F b.toNat).at_.x)) from if_pos hb0] at this;exact this
   · refine gR fH none [0,1,2] [0,1,2,3,4,5,6] [(6,ff)] (.a1 (iF hb0)) (t:=[]) (σ:=slots 20 [(0,.lit (.func (.yield l) #[] #[])),(1,.ptr 6 1 0 0),(2,.cptr (xL m fe F) 0)]) (h:=(Ij m fe F k0 X EP k1 X0 E k2 X1 k3 N k4 k5 b k6)) ?_
     have:=hg b;rw[show dH m F X (n+1) b X0 X1=(X0,X1) from if_neg hb0] at this;exact this
end
theorem Ik {ρ:Nat->Nat} {S:Nat->Prop} {w:World} {D:Nat->Prop} {us:List AV} {vs:List Value} {n:Nat} (h:RelVs ρ S w D us vs):
   vs.length=us.length/\∀ t v,(vs.toArray++Array.replicate (n-vs.toArray.size) undef)[t]? =some v->RelV ρ S w D ((us++List.replicate (n-us.length) AV.any).getD t .any) v:=by
 have hlen:∀ (bs:List AV) (vs:List Value),RelVs ρ S w D bs vs->vs.length=bs.length:=by
   intro bs
   induction bs with
   | nil=>intro vs h;cases vs <;> first | rfl | exact h.elim
   | cons c bs ih=>
     intro vs h;cases vs with
     | nil=>exact h.elim
     | cons v vs=>simp[ih vs h.2]
 have hget:∀ (bs:List AV) (vs:List Value),RelVs ρ S w D bs vs->∀ (i:Nat) (v:Value),vs[i]? =some v->RelV ρ S w D (bs.getD i .any) v:=by
   intro bs
   induction bs with
   | nil=>intro vs h i v hv;cases vs <;> first | exact h.elim | simp at hv
   | cons c bs ih=>
     intro vs h i v hv;cases vs with
     | nil=>exact h.elim
     | cons u vs=>
       cases i with
       | zero=>simp at hv;subst hv;exact RelV.of0 h.1
       | succ i=>exact ih vs h.2 i v (by simpa using hv)
 refine⟨hlen _ _ h,fun t v hv=> ?_⟩;rcases Nat.lt_or_ge t vs.length with h1 | h1
 · rw[Array.getElem?_append_left (by simpa using h1)] at hv
   have h2:t<us.length:=by rw[<- hlen _ _ h];exact h1
   have:=hget _ _ h t v (by simpa using hv);simpa[mQ,VX h2] using this
 · have h2:us.length<=t:=by rw[<- hlen _ _ h];exact h1
   have:(us++List.replicate (n-us.length) AV.any).getD t .any= .any:=by
     simp only[mQ,VY h2,List.getElem?_replicate]
     split <;> rfl
   rw[this];trivial
theorem Steps.peel {P:Program} {m m1 m2:Machine} (h:Steps P m m2) (hs:step P m= .next m1) (hne:m≠m2):Steps P m1 m2:=by
 obtain⟨n,hn⟩:=h;cases n with
 | zero=>simp[runN] at hn;exact absurd hn hne
 | succ n=>simp only[runN,hs] at hn;exact⟨n,hn⟩
section
variable {S0 C0:Nat->Prop} {w0:World} {Post:Value->World->Prop}
abbrev kJ (m:MachD) (F:Nat->FrameD) (fe:Nat) (X:PtD) (EP E N:Nat) (X0 X1:List Rat) (b:Int):List (Option ABlk):=[some ⟨259,1,false,[[.cptr (DV fe m F) 0]],none⟩,some ⟨58,6,false,[[.q X.x EP,.q X.z EP]],none⟩,some ⟨56,3,true,X0.map (bG E),none⟩,some ⟨56,3,true,X1.map (bG E),none⟩,some ⟨59,1,false,[[.own 2 3 0 N],[.own 3 3 0 N]],none⟩,some ⟨89,1,false,[[.own 4 1 0 2]],none⟩,some ⟨3,1,false,[[.i6 b]],none⟩]
theorem KR {a:Act} {W:World} {v:Value} {k:Nat} {Q:Exit->Act->World->Prop} (h8:a.tmps[8]? =some (.pointer (some ⟨k,0,none⟩))) (hs:a.tmps.size=79) (hl:(loadVar 89 ⟨k,0,none⟩).run Tryz.prog W= .ok v W)
   (hq:Q .normal { a with tmps:=(a.tmps.setIfInBounds 78 v).setIfInBounds 6 v } W):(aN [1,1,1,1,1,0] (aA Tryz.f120)).wpIn (dQ none) 0 Tryz.prog Q a W:=by
 have hc:aN [1,1,1,1,1,0] (aA Tryz.f120)= .region (rN (aN [1,1,1,1,1,0] (aA Tryz.f120))) (aL (aN [1,1,1,1,1,0] (aA Tryz.f120))) false:=by kernel_rfl
 rw[hc];refine wpIn_region ?_;have h0:(aL (aN [1,1,1,1,1,0] (aA Tryz.f120)))[0]? =some (((aL (aN [1,1,1,1,1,0] (aA Tryz.f120)))[0]?).getD default):=by kernel_rfl
 have h1:(aL (aN [1,1,1,1,1,0] (aA Tryz.f120)))[1]? =some (((aL (aN [1,1,1,1,1,0] (aA Tryz.f120)))[1]?).getD default):=by kernel_rfl
 have g0:((((aL (aN [1,1,1,1,1,0] (aA Tryz.f120)))[0]?).getD default).op,(((aL (aN [1,1,1,1,1,0] (aA Tryz.f120)))[0]?).getD default).dst,(((aL (aN [1,1,1,1,1,0] (aA Tryz.f120)))[0]?).getD default).guard)=(Op.load 89 (.tmp 8),some 78,none):=by kernel_rfl
 have g1:((((aL (aN [1,1,1,1,1,0] (aA Tryz.f120)))[1]?).getD default).op,(((aL (aN [1,1,1,1,1,0] (aA Tryz.f120)))[1]?).getD default).dst,(((aL (aN [1,1,1,1,1,0] (aA Tryz.f120)))[1]?).getD default).guard)=(Op.assign (.tmp 78),some 6,none):=by kernel_rfl
 have hr:List.range (aL (aN [1,1,1,1,1,0] (aA Tryz.f120))).size= [0,1]:=by kernel_rfl
 rw[hr];generalize aL (aN [1,1,1,1,1,0] (aA Tryz.f120))=ops at*;generalize (ops[0]?).getD default=o0 at*;generalize (ops[1]?).getD default=o1 at*;simp only[VW] at g0 g1;obtain⟨p1,p2,p3⟩:=g0;obtain⟨q1,q2,q3⟩:=g1;rw[wpOpsIn_cons];unfold wpOpIn;rw[h0];simp only[Region.wanted,p3];refine⟨fun _ _=>trivial, ?_⟩
 have e8:a.eval (.tmp 8)= .pointer (some ⟨k,0,none⟩):=by
   show a.tmps.getD 8 undef=_;simp only[Array.getD_eq_getD_getElem?,h8];rfl
 have r0:(o0.semAt (dQ none).round a.eval).run Tryz.prog W= .ok (.value v) W:=by
   show(execOp a.eval o0).run Tryz.prog W=_;rw[execOp,p1];simp only[e8,mH];simp[hl]
 rw[r0,Oper.uponIn_value,p2];rw[wpOpsIn_cons];unfold wpOpIn;rw[h1];simp only[Region.wanted,q3];refine⟨fun _ _=>trivial, ?_⟩
 have r1:(o1.semAt (dQ none).round (a.put (some 78) v).eval).run Tryz.prog W= .ok (.value v) W:=by
   show(execOp (a.put (some 78) v).eval o1).run Tryz.prog W=_;rw[execOp,q1]
   have:(a.put (some 78) v).eval (.tmp 78)=v:=by
     show(a.tmps.setIfInBounds 78 v).getD 78 undef=v;simp[Array.getD_eq_getD_getElem?,hs]
   show(pure (Next.value ((a.put (some 78) v).eval (.tmp 78))):Sem Next).run Tryz.prog W=_;rw[this];rfl
 rw[r1,Oper.uponIn_value,q2];exact hq
theorem Ry (m:MachD) (F:Nat->FrameD) (fe:Nat) (X:PtD) (EP E N:Nat) (X0 X1:List Rat) (b:Int) (n:Nat) (hN:N=m.bodies.length+2) (hn:m.bodies.length<=1000) (hE:EP+2*fe+2<=E) (hLIM:2*EP+4*fe+300<=LIM) (hc:dW m=0)
   (hbn:b<((n:Nat):Int)) (hb:b<((m.bodies.length:Nat):Int)) (hX0:X0.length=N) (hX1:X1.length=N)
   (hg:∀ k0 k1 k2 k3 k4 k5 k6 bE,Good Tryz.prog 120 S0 C0 w0 Post [.code .ret] ⟨slots 79 [(6,.own 4 1 0 2)],hJ m F fe X EP E N k0 k1 k2 k3 k4 k5 k6 (dH m F X n b X0 X1).1 (dH m F X n b X0 X1).2 bE⟩):
   Good Tryz.prog 120 S0 C0 w0 Post [.code codeRF,.inBlock 0,.code (aN [1,1,1,1,1] (aA Tryz.f120))] ⟨slots 79 [(3,.ptr 0 1 0 0),(7,.ptr 1 6 0 0),(8,.ptr 5 1 0 0),(49,.fn 267 [.ptr 6 1 0 0,.cptr [.cptr (DV fe m F) 0] 0])],kJ m F fe X EP E N X0 X1 b⟩:=by
 intro ρ D a w R b' cs hb' hk';have hsz:a.tmps.size=79:=by rw[R.len,dO]
 have hp:∀ (t i e:Nat) (B:ABlk),(slots 79 [(3,.ptr 0 1 0 0),(7,.ptr 1 6 0 0),(8,.ptr 5 1 0 0),(49,.fn 267 [.ptr 6 1 0 0,.cptr [.cptr (DV fe m F) 0] 0])]).getD t .any= .ptr i e 0 0->t<79->a.tmps[t]? =some (.pointer (some ⟨ρ i,0,none⟩)):=by
   intro t i e B ht hlt;have hv:a.tmps[t]? =some (a.tmps.getD t undef):=by simp[Array.getD_eq_getD_getElem?,hsz,hlt]
   have:=R.tmps t _ hv;rw[ht] at this;obtain⟨h1,_⟩:=jL (st:=⟨[],kJ m F fe X EP E N X0 X1 b⟩) this;rw[hv,h1];simp
 have h3:=hp 3 0 1 default rfl (by decide);have h7:=hp 7 1 6 default rfl (by decide);have h8:=hp 8 5 1 default rfl (by decide)
 obtain⟨cvs,hv,hcv⟩:∃ cvs:List Value,a.eval (.tmp 49)= .func (.func 267) #[] cvs.toArray/\RelCs ρ (Sof S0 ρ (kJ m F fe X EP E N X0 X1 b)) w D [.ptr 6 1 0 0,.cptr [.cptr (DV fe m F) 0] 0] cvs:=by
   have h':RelCs ρ (Sof S0 ρ (kJ m F fe X EP E N X0 X1 b)) w D [.fn 267 [.ptr 6 1 0 0,.cptr [.cptr (DV fe m F) 0] 0]] [a.eval (.tmp 49)]:=R.eval (.tmp 49);generalize a.eval (.tmp 49)=v at h';cases h' with
   | fn h _=>exact⟨_,rfl,h⟩
 let lrec:Loop:={ state:=.ready,pending:=none,fn:=120,tmps:=a.tmps,params:= #[50],assign:=Np codeRF,body:=If codeRF,defers:=w.heap.size }
 generalize hw1:(w.alloc (.deferred (some []))).alloc (.loop lrec)=w1;have sz1:w1.heap.size=w.heap.size+2:=by rw[<- hw1];simp
 have old1:∀ k,k<w.heap.size->w1.heap[k]? =w.heap[k]? :=by
   intro k hk;rw[<- hw1];show((w.heap.push _).push _)[k]? =_;rw[Array.getElem?_push_lt (by simp;omega),Array.getElem_push_lt hk];simp[hk]
 have hr1:w1.heap[w.heap.size]? =some (.deferred (some [])):=by
   rw[<- hw1];show((w.heap.push _).push _)[w.heap.size]? =_;simp[Array.getElem?_push]
 have hl1:w1.heap[w.heap.size+1]? =some (.loop lrec):=by
   rw[<- hw1]
   have:=World.alloc_heap_new (w.alloc (.deferred (some []))) (.loop lrec);simpa using this
 let S1:Nat->Prop:=fun k=>S0 k\/k=w.heap.size\/k=w.heap.size+1
 let C1:Nat->Prop:=xC ρ (lB ρ 0 (kJ m F fe X EP E N X0 X1 b))
 have Rp:=R.pinned
 have hCw:∀ k,C1 k->k<w.heap.size:=by
   rintro k ⟨i,B,hB,rfl⟩;exact Rp.Slt (.inr ⟨i,B,hB,rfl⟩)
 have chN:Chg No w w1:=by
   refine Chg.ofNo ?_ ?_ ?_ (by omega) old1 <;> rw[<- hw1] <;> rfl
 let σ2:List AV:=((.lit (.func (.yield (w.heap.size+1)) #[] #[]):AV):: [.ptr 6 1 0 0,.cptr [.cptr (DV fe m F) 0] 0])++List.replicate (20-((.lit (.func (.yield (w.heap.size+1)) #[] #[]):AV):: [.ptr 6 1 0 0,.cptr [.cptr (DV fe m F) 0] 0]).length) .any
 have hargs:RelVs ρ (Sof S0 ρ (lB ρ 0 (kJ m F fe X EP E N X0 X1 b))) w D ((.lit (.func (.yield (w.heap.size+1)) #[] #[]):AV):: [.ptr 6 1 0 0,.cptr [.cptr (DV fe m F) 0] 0]) (.func (.yield (w.heap.size+1)) #[] #[]::cvs):=by
   rw[sZ];refine⟨RelCs.lit rfl .done, ?_⟩;obtain⟨g1,g2⟩:=hcv.cut1;have w6:wd (.ptr 6 1 0 0)=1:=rfl;have w7:wd (.cptr [.cptr (DV fe m F) 0] 0)=1:=rfl;rw[w6] at g1 g2;obtain⟨g3,g4⟩:=g2.cut1;rw[w7] at g3 g4;have hl:=hcv.wds_eq;simp only[tJ,w6,w7] at hl
   match cvs,hl,g1,g3 with
   | [u,v],_,g1,g3=>exact⟨g1,g3,trivial⟩
 obtain⟨hlen,hslot⟩:=Ik (n:=20) hargs
 have R1:Rel S1 C1 w1 ρ D ⟨σ2,lB ρ 0 (kJ m F fe X EP E N X0 X1 b)⟩ { tmps:=(.func (.yield (w.heap.size+1)) #[] #[]::cvs).toArray++Array.replicate (20-(.func (.yield (w.heap.size+1)) #[] #[]::cvs).toArray.size) undef,defers:=[] } w1:=by
   refine Rp.turnW (by omega) (fun k hk _=>old1 k hk) (fun k arr ty hc=>old1 k (bB hc)) (fun k hk hs=> ?_) (fun k hs=> ?_) (fun k _ _ ho=>.inl ho) (Chg.refl _ _) rfl ?_ hslot
   · rcases hs with hs | hs | hs
     · exact hs
     · omega
     · omega
   · rcases hs with hs | hs | hs
     · have:=R.lt k hs;omega
     · omega
     · omega
   · simp only[σ2,List.length_append,List.length_replicate,Array.size_append,Array.size_replicate,List.size_toArray,hlen]
 have hσ:σ2=slots 20 (I0 fe m F (w.heap.size+1)):=rfl;have hSl:S1 (w.heap.size+1):=.inr (.inr rfl);have hCl:¬ C1 (w.heap.size+1):=fun h=>by have:=hCw _ h;omega
 have hCr:¬ C1 w.heap.size:=fun h=>by have:=hCw _ h;omega
 have hit:=KQ (S1:=S1) (C1:=C1) (w1:=w1) m F fe X EP E N (ρ 0) (ρ 1) (ρ 2) (ρ 3) (ρ 4) (ρ 5) (ρ 6) (w.heap.size+1) lrec (tmps:=a.tmps)
   (Post:=fun _ W=>∃ ρ' D' bE,Rel S1 C1 w1 ρ' D' ⟨[],hJ m F fe X EP E N (ρ 0) (ρ 1) (ρ 2) (ρ 3) (ρ 4) (ρ 5) (ρ 6) (dH m F X n b X0 X1).1 (dH m F X n b X0 X1).2 bE⟩ ⟨#[],[]⟩ W) hl1 hSl hCl rfl hsz h3 h7 h8 hN hn hE hLIM hc n b X0 X1 hbn hb hX0 hX1
   (fun bE=>nQ aT (fn:=Tryz.f267) (by kernel_rfl) (.inl rfl) (Vs:=[]) (by kernel_rfl) (.inr rfl) fun ρ' D' a' W v R' _=>⟨ρ',D',bE,R'.act rfl rfl fun t v hv=>by simp at hv⟩)
 have hit2:=Ig m F fe b X EP E N (ρ 0) (ρ 1) (ρ 2) (ρ 3) (ρ 4) (ρ 5) (ρ 6) X0 X1 (w.heap.size+1) hit;obtain⟨v4,W4,fr4,⟨ρ4,D4,bE,R4⟩,st4,fn4,lv4⟩:=hit2 ρ D _ w1 R1 { (default:Frame) with fn:=267,kind:=.normal } (({ b' with roundOf:=none }:Frame).atR { a with defers:=[{ target:=.collected w.heap.size,args:= #[] }]++a.defers } (.inRangeFunc (w.heap.size+1):: [.inBlock 0,.code (aN [1,1,1,1,1] (aA Tryz.f120))])::cs) rfl rfl;have hl4:W4.heap[w.heap.size+1]? =some (.loop lrec):=by rw[R4.chg.block _ (by omega) hCl];exact hl1
 have hr4:W4.heap[w.heap.size]? =some (.deferred (some [])):=by rw[R4.chg.block _ (by omega) hCr];exact hr1
 have sz4:=R4.chg.size;have szw:=R.chg.size;generalize hW5:W4.putObj (w.heap.size+1) (.loop { lrec with state:=.exhausted })=W5;have oth5:∀ k,k≠w.heap.size+1->W5.heap[k]? =W4.heap[k]? :=fun k hk=>by rw[<- hW5];exact World.putObj_heap_other hk
 have sz5:W5.heap.size=W4.heap.size:=by rw[<- hW5];simp
 have nc4:∀ (arr:Array Value) (ty:TypeId),W4.heap[w.heap.size+1]? ≠some (Obj.cells arr ty (0,0)):=fun arr ty e=>by rw[hl4] at e;cases e
 have nc4r:∀ (arr:Array Value) (ty:TypeId),W4.heap[w.heap.size]? ≠some (Obj.cells arr ty (0,0)):=fun arr ty e=>by rw[hr4] at e;cases e
 have c5:Chg (· =w.heap.size+1) W4 W5:=hW5▸Chg.put nc4;have hr5:W5.heap[w.heap.size]? =some (.deferred (some [])):=by rw[oth5 _ (by omega)];exact hr4
 have R5:Rel S1 (xC ρ4 (hJ m F fe X EP E N (ρ 0) (ρ 1) (ρ 2) (ρ 3) (ρ 4) (ρ 5) (ρ 6) (dH m F X n b X0 X1).1 (dH m F X n b X0 X1).2 bE)) W5 ρ4 D4 ⟨[],hJ m F fe X EP E N (ρ 0) (ρ 1) (ρ 2) (ρ 3) (ρ 4) (ρ 5) (ρ 6) (dH m F X n b X0 X1).1 (dH m F X n b X0 X1).2 bE⟩ ⟨#[],[]⟩ W5:=by
   refine R4.turnW (by omega) (fun k hk hs=>oth5 k fun e=>hs (e▸hSl)) (fun k arr ty hc=>oth5 k fun e=>nc4 arr ty (e▸hc)) (fun _ _ h=>h) (fun k hk=>by rw[sz5];exact R4.lt k hk) (fun k _ _ ho=>.inl ho) (Chg.refl _ _) rfl rfl (fun t v hv=>by simp at hv)
 have hk5:ρ4 5=ρ 5:=(R4.mine 5 ⟨89,1,false,[[.own 4 1 0 2]],some (ρ 5)⟩ rfl).2.2 _ rfl;obtain⟨ti,hti⟩:∃ ti,Ev 89=some ti:=Option.isSome_iff_exists.1 (show(Ev 89).isSome=true by kernel_rfl)
 obtain⟨v,hload,hvrel⟩:∃ v,(loadVar 89 ⟨ρ 5,0,none⟩).run Tryz.prog W5= .ok v W5/\RelV ρ4 (Sof S1 ρ4 (hJ m F fe X EP E N (ρ 0) (ρ 1) (ρ 2) (ρ 3) (ρ 4) (ρ 5) (ρ 6) (dH m F X n b X0 X1).1 (dH m F X n b X0 X1).2 bE)) W5 D4 (.own 4 1 0 2) v:=by
   have h:=vH (P:=Tryz.prog) (T:=Ev) (aT _ _ hti) (l:=5) (i:=0) (off:=0) (b:=⟨89,1,false,[[.own 4 1 0 2]],some (ρ 5)⟩) (el:=[.own 4 1 0 2]) (cs:=[.own 4 1 0 2]) (V:=.own 4 1 0 2) (R5.heap 5 _ rfl).2 rfl (by
     have:Ev 89=some ti:=hti;have e2:(Ev 89).bind (fun ti=>zU 0 ti.sz [AV.own 4 1 0 2])=some [.own 4 1 0 2]:=by kernel_rfl
     rw[this] at e2;exact e2) (by
     have:Ev 89=some ti:=hti;have e2:(Ev 89).bind (fun ti=>Fs ti [AV.own 4 1 0 2])=some (.own 4 1 0 2):=by kernel_rfl
     rw[this] at e2;exact e2)
   rw[hk5] at h;exact h
 let b0:Frame:={ b' with roundOf:=none }
 have hat:∀ a todo,b'.at a todo=b0.atR a todo:=fun a todo=>by simp[b0,Frame.at,Frame.atR]
 let mk:List Deferred:=[{ target:=.collected w.heap.size,args:= #[] }]
 have hdef:a.defers= []:=R.defers
 have s1:step Tryz.prog (lone (b0.atR a (.code codeRF:: [.inBlock 0,.code (aN [1,1,1,1,1] (aA Tryz.f120))])) cs w)= .next (lone (Frame.enter Tryz.prog 267 (#[.func (.yield (w.heap.size+1)) #[] #[]]++cvs.toArray) .normal) (b0.atR { a with defers:=mk++a.defers } (.inRangeFunc (w.heap.size+1):: [.inBlock 0,.code (aN [1,1,1,1,1] (aA Tryz.f120))])::cs) w1):=by
   rw[Rx];refine stepR_rangeFunc (d:={ target:=.fn (.func 267) cvs.toArray,args:= #[]++ #[.func (.yield (w.heap.size+1)) #[] #[]] }) (w₁:=w1) (w₁':=w1) ?_ ?_ ?_
   · have:=run_enterLoop_outer (P:=Tryz.prog) (w:=w) b0.fn a.tmps #[50] (Np codeRF) (If codeRF)
     have hfn:b0.fn=120:=hb';rw[hfn] at this ⊢;rw[<- hw1];exact this
   · simp only[resolve,rangeCall,hv,Deferred.ofValue,Sem.run_bind,Sem.run_pure,Result.andThen_ok]
     simp[Act.eval]
   · simp only[invoke]
     rw[jR ⟨Tryz.f267,by kernel_rfl,by kernel_rfl,by kernel_rfl⟩];simp
 have henter:Frame.enter Tryz.prog 267 (#[.func (.yield (w.heap.size+1)) #[] #[]]++cvs.toArray) .normal=({ (default:Frame) with fn:=267,kind:=.normal }:Frame).at { tmps:=(.func (.yield (w.heap.size+1)) #[] #[]::cvs).toArray++Array.replicate (20-(.func (.yield (w.heap.size+1)) #[] #[]::cvs).toArray.size) undef,defers:=[] } [.code (aN [] (aA Tryz.f267))]:=by
   have hf:Tryz.prog.funcs[267]? =some Tryz.f267:=by kernel_rfl
   have hbd:Tryz.f267.body=some (aA Tryz.f267):=by kernel_rfl
   have hnt:Tryz.f267.ntmps=20:=by kernel_rfl
   simp[Frame.enter,Frame.at,hf,hbd,hnt,aN]
 have s2:Steps Tryz.prog (lone (b0.atR a (.code codeRF:: [.inBlock 0,.code (aN [1,1,1,1,1] (aA Tryz.f120))])) cs w) (lone (b0.atR { a with defers:=mk++a.defers } [.code (aN [1,1,1,1,1,0] (aA Tryz.f120)),.code .ret]) cs W5):=by
   refine .head s1 ?_;rw[henter];refine Steps.trans st4 (.head (step_leave_returned lv4) ?_);rw[finish_atR_inRangeFunc];refine .head (stepR_endRangeFunc (jump:=none) (w':=W5) (by rw[<- hW5];exact run_endLoop hl4 (by simp[lrec]))) ?_;refine .head stepR_inBlock ?_;have hs:aN [1,1,1,1,1] (aA Tryz.f120)= .seq (aN [1,1,1,1,1,0] (aA Tryz.f120)) .ret:=by kernel_rfl
   rw[hs];exact .one stepR_seq
 obtain⟨e8,a8,W8,⟨he8,ha8,hW8⟩,h8s⟩:=KR (a:={ a with defers:=mk++a.defers }) (W:=W5) (v:=v) (k:=ρ 5) (Q:=fun e a' W'=>e= .normal/\a'={ a with defers:=mk++a.defers,tmps:=(a.tmps.setIfInBounds 78 v).setIfInBounds 6 v }/\W'=W5) h8 hsz hload ⟨rfl,rfl,rfl⟩ b0 [.code .ret] cs rfl trivial (room_wide _);rw[he8,ha8,hW8] at h8s;have s3:=Steps.trans s2 (StepsIn.steps h8s);generalize hW6:W5.putObj w.heap.size (.deferred none)=W6;have htake:(Instr.takeDeferred w.heap.size).run Tryz.prog W5= .ok [] W6:=by rw[<- hW6];exact run_takeDeferred hr5
 have nc5:∀ (arr:Array Value) (ty:TypeId),W5.heap[w.heap.size]? ≠some (Obj.cells arr ty (0,0)):=fun arr ty e=>by rw[hr5] at e;cases e
 have c6:Chg (· =w.heap.size) W5 W6:=hW6▸Chg.put nc5;have oth6:∀ k,k≠w.heap.size->W6.heap[k]? =W5.heap[k]? :=fun k hk=>by rw[<- hW6];exact World.putObj_heap_other hk
 have sz6:W6.heap.size=W5.heap.size:=by rw[<- hW6];simp
 have hCC:∀ k,C1 k->C0 k\/w0.heap.size<=k:=by
   rintro k ⟨i,B,hB,rfl⟩;exact(Rp.mine i B hB).1
 have R6:Rel S0 C0 w0 ρ4 D4 ⟨slots 79 [(6,.own 4 1 0 2)],hJ m F fe X EP E N (ρ 0) (ρ 1) (ρ 2) (ρ 3) (ρ 4) (ρ 5) (ρ 6) (dH m F X n b X0 X1).1 (dH m F X n b X0 X1).2 bE⟩ { tmps:=(a.tmps.setIfInBounds 78 v).setIfInBounds 6 v,defers:=[] } W6:=by
   refine R5.turnW (by omega) (fun k hk hs=>oth6 k fun e=>hs (.inr (.inl e))) (fun k arr ty hc=>oth6 k fun e=>nc5 arr ty (e▸hc)) (fun k _ h=>.inl h) (fun k hk=>by have:=R.lt k hk;omega) ?_ ?_ rfl (by rw[dO];simpa using hsz) ?_
   · intro k hs _ ho
     obtain⟨i,B,hB,rfl⟩:=ho;rcases(R4.mine i B hB).1 with h | h
     · exact hCC _ h
     · exact .inr (by omega)
   · have t1:Chg C0 w0 w1:=R.chg.trans chN (fun _ _ h=>h.elim)
     have t2:Chg C0 w0 W4:=t1.trans R4.chg (fun k hk h=>(hCC k h).elim id fun h=>absurd h (by omega));have t3:Chg C0 w0 W5:=t2.trans c5 (fun k hk h=>absurd h (by omega));exact t3.trans c6 (fun k hk h=>absurd h (by omega))
   · refine tA fun q hq u hu=> ?_
     simp only[List.mem_singleton] at hq;subst hq;simp[Array.getElem?_setIfInBounds,hsz] at hu;subst hu;exact hvrel
 obtain⟨v9,W9,fr9,hP,st9,fn9,lv9⟩:=hg (ρ 0) (ρ 1) (ρ 2) (ρ 3) (ρ 4) (ρ 5) (ρ 6) bE ρ4 D4 _ W6 R6 b' cs hb' hk'
 have st9':=Steps.peel st9 step_ret (by
   intro e;have hfr:=congrArg (fun m:Machine=>(m.gs[0]?).map fun g=>g.frame.mode) e;simp[lone,Frame.at] at hfr
   have:=lv9.1;rw[<- hfr] at this
   cases this)
 refine⟨v9,W9,fr9,hP, ?_,fn9,lv9⟩;rw[hat];refine Steps.trans s3 (.head (stepR_ret rfl) (.head (step_collected (r:=w.heap.size) (ds:=a.defers) (d:={ target:=.collected w.heap.size,args:= #[] }) (by simp) rfl rfl htake) ?_))
 have efr:({ ({ b0.atR { a with defers:=mk++a.defers,tmps:=(a.tmps.setIfInBounds 78 v).setIfInBounds 6 v } [.code .ret] with mode:=.returning }:Frame) with defers:=[]++a.defers }:Frame)={ b'.at { tmps:=(a.tmps.setIfInBounds 78 v).setIfInBounds 6 v,defers:=[] } [.code .ret] with mode:=.returning }:=by
   simp[Frame.at,Frame.atR,b0,hdef]
 rw[efr];exact st9'
end
theorem Good.weakBL {P:Program} {f:FuncId} {S0 C0:Nat->Prop} {w0:World} {Post:Value->World->Prop} {todo:List Item} {σ:List AV} {h:List (Option ABlk)} (l:Nat) {b:ABlk} {els:List (List AV)} (hl:h[l]? =some (some b)) (hle:els.length=b.elems.length) (hr:∀ (i:Nat) (el el':List AV),b.elems[i]? =some el->els[i]? =some el'->RefC el el')
   (hg:Good P f S0 C0 w0 Post todo ⟨σ,h.set l (some { b with elems:=els })⟩):Good P f S0 C0 w0 Post todo ⟨σ,h⟩:=by
 refine hg.map fun ρ D a w R=>⟨ρ,D, ?_⟩
 have hlen:l<h.length:=(List.getElem?_eq_some_iff.1 hl).1
 have hget:∀ (j:Nat) (c:ABlk),(h.set l (some { b with elems:=els }))[j]? =some (some c)->∃ d,h[j]? =some (some d)/\c.pin=d.pin/\(c=d\/j=l/\d=b/\c={ b with elems:=els }):=by
   intro j c hc;rw[List.getElem?_set] at hc
   split at hc
   · rename_i hjl;subst hjl
     injection hc with hc;injection hc with hc;subst hc;exact⟨b,hl,rfl,.inr ⟨rfl,rfl,rfl⟩⟩
   · exact⟨c,hc,rfl,.inl rfl⟩
 have hget':∀ (j:Nat) (d:ABlk),h[j]? =some (some d)->∃ c,(h.set l (some { b with elems:=els }))[j]? =some (some c):=by
   intro j d hd;rw[List.getElem?_set]
   split
   · rename_i hjl;subst hjl
     exact⟨_,rfl⟩
   · exact⟨d,hd⟩
 have hS:Sof S0 ρ (h.set l (some { b with elems:=els }))=Sof S0 ρ h:=by
   funext k;apply propext
   constructor
   · rintro(h | ⟨j,c,hc,e⟩)
     · exact .inl h
     · obtain⟨d,hd,_⟩:=hget j c hc;exact .inr ⟨j,d,hd,e⟩
   · rintro(h | ⟨j,d,hd,e⟩)
     · exact .inl h
     · obtain⟨c,hc⟩:=hget' j d hd;exact .inr ⟨j,c,hc,e⟩
 exact {
   defers:=R.defers
   len:=R.len
   tmps:=fun t v hv=>by rw[hS];exact R.tmps t v hv
   heap:=fun j c hc=>by
     obtain⟨d,hd,_,hcd⟩:=hget j c hc;rw[hS];rcases hcd with rfl | ⟨rfl,rfl,rfl⟩
     · exact R.heap j c hd
     · obtain⟨h1,arr,h2,h3,h4⟩:=R.heap j d hd
       refine⟨h1,arr,h2,by simpa[hle] using h3,fun m el2 hm=> ?_⟩
       have hlt:m<d.elems.length:=by
         have:=(List.getElem?_eq_some_iff.1 hm).1;simpa[hle] using this
       exact hr m _ el2 (List.getElem?_eq_getElem hlt) hm _ _ _ _ _ (h4 m _ (List.getElem?_eq_getElem hlt))
   inj:=fun j j' c c' hc hc' e=>by
     obtain⟨d,hd,_⟩:=hget j c hc;obtain⟨d',hd',_⟩:=hget j' c' hc';exact R.inj j j' d d' hd hd' e
   lt:=R.lt
   dlt:=fun i hi=>by
     have:=R.dlt i hi;simpa using this
   chg:=R.chg
   mine:=fun j c hc=>by
     obtain⟨d,hd,hp,_⟩:=hget j c hc
     have:=R.mine j d hd;unfold Cq at this ⊢
     rw[hp];exact this }
def LI:List AV->FrameD
 | [.q x _,.q z _,.q c _,.q s _]=>⟨⟨x,z⟩,c,s⟩
 | _=>⟨⟨0,0⟩,0,0⟩
def xM:List AV->Nat
 | [_,_,.q _ e,_]=>e
 | _=>0
def tG (m:MachD) (F:Nat->FrameD) (b:Int) (x:PtD):List Rat×List Rat:=dH m F (eQ (F b.toNat) x) (b.toNat+1) b ((List.replicate (m.bodies.length+2) 0).set 0 1) ((List.replicate (m.bodies.length+2) 0).set 1 1)
def yG (m:MachD) (F:Nat->FrameD) (b:Int) (x:PtD) (E:Nat):List (List AV):=[[.list 3 ((tG m F b x).1.map (bG E))],[.list 3 ((tG m F b x).2.map (bG E))]]
theorem tH (m:MachD) (F:Nat->FrameD) (X:PtD):∀ (n:Nat) (b:Int) (Y Z:List Rat),(dH m F X n b Y Z).1.length=Y.length/\(dH m F X n b Y Z).2.length=Z.length
 | 0,b,Y,Z=>⟨rfl,rfl⟩
 | n +1,b,Y,Z=>by
   unfold dH
   split
   · have:=tH m F X n (m.bodies.getD b.toNat default).par (Y.set ((2:Int)+b).toNat (-(X.z-(F b.toNat).at_.z))) (Z.set ((2:Int)+b).toNat (X.x-(F b.toNat).at_.x))
     simpa using this
   · exact⟨rfl,rfl⟩
theorem DW {n j E:Nat}:∀ (i:Nat) (el el':List AV),((List.replicate (n+2) [AV.q 0 0]).set j [AV.q (1:Rat) 64])[i]? =some el->((((List.replicate (n+2) (0:Rat)).set j 1).map (bG E)))[i]? =some el'->64<=E->RefC el el':=by
 intro i el el' h1 h2 hE;rw[List.getElem?_map,List.getElem?_set,List.getElem?_replicate] at h2;rw[List.getElem?_set,List.getElem?_replicate] at h1
 split at h1
 · rename_i hj
   rw[if_pos hj] at h2;simp only[List.length_replicate] at h1 h2
   split at h1
   · rename_i hl
     rw[if_pos hl] at h2;injection h1 with h1;subst h1;simp at h2;subst h2;exact RefC.q_le hE
   · cases h1
 · rename_i hj
   rw[if_neg hj] at h2
   split at h1
   · rename_i hl
     rw[if_pos hl] at h2;injection h1 with h1;subst h1;simp at h2;subst h2;exact RefC.q_le (Nat.zero_le _)
   · cases h1
def Rz:KF
 | [.cptr [.str mn,.list 27 XB,.list 17 XS,.list 17 XT,.list 13 XD,.list 5 XF,.list 12 XR] 0,.int .i64 b,.agg [.q px B,.q pz C]]=>some (.list 1 (yG (aF [.str mn,.list 27 XB,.list 17 XS,.list 17 XT,.list 13 XD,.list 5 XF]) (fun i=>LI (XR.getD i [])) b ⟨px,pz⟩ (6*xM (XR.getD 0 [])+B+C+74)),[[.str mn,.list 27 XB,.list 17 XS,.list 17 XT,.list 13 XD,.list 5 XF]=aD 300 (aF [.str mn,.list 27 XB,.list 17 XS,.list 17 XT,.list 13 XD,.list 5 XF]),dW (aF [.str mn,.list 27 XB,.list 17 XS,.list 17 XT,.list 13 XD,.list 5 XF])=0,(aF [.str mn,.list 27 XB,.list 17 XS,.list 17 XT,.list 13 XD,.list 5 XF]).bodies.length<=8,XR=(List.range (aF [.str mn,.list 27 XB,.list 17 XS,.list 17 XT,.list 13 XD,.list 5 XF]).bodies.length).map fun i=>dS (xM (XR.getD 0 [])) (LI (XR.getD i [])),0<=b,b<(((aF [.str mn,.list 27 XB,.list 17 XS,.list 17 XT,.list 13 XD,.list 5 XF]).bodies.length:Nat):Int),12*xM (XR.getD 0 [])+3*B+3*C+1000<=LIM])
 | _=>none
theorem Ur:bQ 120 Rz:=fun args r ob h ho=>by
 unfold Rz at h
 split at h
 · rename_i mn XB XS XT XD XF XR b px B pz C
   cases h;have o1: [.str mn,.list 27 XB,.list 17 XS,.list 17 XT,.list 13 XD,.list 5 XF]=aD 300 (aF [.str mn,.list 27 XB,.list 17 XS,.list 17 XT,.list 13 XD,.list 5 XF]):=ho _ (by simp);have o2:dW (aF [.str mn,.list 27 XB,.list 17 XS,.list 17 XT,.list 13 XD,.list 5 XF])=0:=ho _ (by simp);have o3:(aF [.str mn,.list 27 XB,.list 17 XS,.list 17 XT,.list 13 XD,.list 5 XF]).bodies.length<=8:=ho _ (by simp);have o4:XR=(List.range (aF [.str mn,.list 27 XB,.list 17 XS,.list 17 XT,.list 13 XD,.list 5 XF]).bodies.length).map fun i=>dS (xM (XR.getD 0 [])) (LI (XR.getD i [])):=ho _ (by simp)
   have o5:0<=b:=ho _ (by simp);have o6:b<(((aF [.str mn,.list 27 XB,.list 17 XS,.list 17 XT,.list 13 XD,.list 5 XF]).bodies.length:Nat):Int):=ho _ (by simp);have o7:12*xM (XR.getD 0 [])+3*B+3*C+1000<=LIM:=ho _ (by simp);clear ho;generalize hm:aF [.str mn,.list 27 XB,.list 17 XS,.list 17 XT,.list 13 XD,.list 5 XF]=m at*;clear hm;simp only[aD,List.cons.injEq,AV.str.injEq,AV.list.injEq,true_and,and_true] at o1;obtain⟨rfl,rfl,rfl,rfl,rfl,rfl⟩:=o1;generalize hF:(fun i=>LI (XR.getD i []))=F at*;generalize hfe:xM (XR.getD 0 [])=fe at*
   have o4':XR=(List.range m.bodies.length).map fun i=>dS fe (F i):=by
     rw[<- hF];exact o4
   clear o4 hF hfe;subst o4';have z2:LIM=17592186044416:=rfl;have hn0:0<m.bodies.length:=by omega
   refine af Tryz.f120 fun S w0=> ?_
   have v0:(((m.bodies.map (aE 300)).length+2:Nat):Int)<=(big:Int):=by simp only[bH];unfold big;omega
   have v1:56*(((m.bodies.map (aE 300)).length+2:Nat):Int)<=281474976710656:=by simp only[bH];omega
   have v2:(-9223372036854775808:Int)<=1:=by decide
   have v3:1<=(9223372036854775807:Int):=by decide
   refine gR fH (some 4) [1,3,7,8] [0,3,4,5,6,7] [(16,.cptr [.q ((F b.toNat).at_.x) (2*fe),.q ((F b.toNat).at_.z) (2*fe),.q ((F b.toNat).c) fe,.q ((F b.toNat).s) fe] 0),(26,.i6 (((m.bodies.map (aE 300)).length+2:Nat):Int)),(34,.i6 (((m.bodies.map (aE 300)).length+2:Nat):Int))] (.c6 (show Ref (.cptr (((List.range m.bodies.length).map fun i=>dS fe (F i)).getD b.toNat []) 0) (.cptr [.q ((F b.toNat).at_.x) (2*fe),.q ((F b.toNat).at_.z) (2*fe),.q ((F b.toNat).c) fe,.q ((F b.toNat).s) fe] 0) from DU (by omega)) o5 (show b<(((List.range m.bodies.length).map fun i=>dS fe (F i)).length:Int) by simpa using o6) (om ((2*fe)+(2*fe)+2*B+2*C+2*fe+2*fe+400<=LIM)) (wI ((((m.bodies.map (aE 300)).length:Nat):Int)+(2:Int)) (((m.bodies.map (aE 300)).length+2:Nat):Int) (by simp only[bH];omega)) (rfl:(((m.bodies.map (aE 300)).length+2:Nat):Int)=(((m.bodies.map (aE 300)).length+2:Nat):Int)) (.c6 (nn ((m.bodies.map (aE 300)).length+2)) v1 v0 (wI ((((m.bodies.map (aE 300)).length:Nat):Int)+(2:Int)) (((m.bodies.map (aE 300)).length+2:Nat):Int) (by simp only[bH];omega)) (rfl:(((m.bodies.map (aE 300)).length+2:Nat):Int)=(((m.bodies.map (aE 300)).length+2:Nat):Int)) (nn ((m.bodies.map (aE 300)).length+2)) (.c6 v1 v0 (dc (0<=(0:Int))) (dc ((0:Int)<2)) (dc (0<=(1:Int))) (dc ((1:Int)<2)) (.c6 v2 v3 v2 v3 (dc (0<=(0:Int))) (show(0:Int)<(((m.bodies.map (aE 300)).length+2:Nat):Int) by simp only[bH];omega) (.a4 (show 0<(List.replicate ((m.bodies.map (aE 300)).length+2) [(AV.q 0 0)]).length by simp) (dc (0<=(1:Int))) (show(1:Int)<(((m.bodies.map (aE 300)).length+2:Nat):Int) by simp only[bH];omega) (show 1<(List.replicate ((m.bodies.map (aE 300)).length+2) [(AV.q 0 0)]).length by simp)))))) (t:=[.code (aN [1,1,1,1,0,0] (aA Tryz.f120)),.code (aN [1,1,1,1,0,1] (aA Tryz.f120)),.code (aN [1,1,1,1,1] (aA Tryz.f120))]) (σ:=slots 79 [(1,.i6 b),(3,.ptr 0 1 0 0),(7,.ptr 1 6 0 0),(8,.ptr 5 1 0 0)]) (h:=[some ⟨259,1,false,[[.cptr [.str m.name,.list 27 (m.bodies.map (aE 300)),.list 17 (m.springs.map (aJ 300)),.list 17 (m.tendons.map (aJ 300)),.list 13 (m.motors.map (aP 300)),.list 5 (m.feet.map (aX 300)),.list 12 ((List.range m.bodies.length).map fun i=>dS fe (F i))] 0]],none⟩,some ⟨58,6,false,[[.q (((F b.toNat).at_.x)+(((F b.toNat).c)*px-((F b.toNat).s)*pz)) ((2*fe)+(B+C+fe+fe+6)+2),.q (((F b.toNat).at_.z)+(((F b.toNat).s)*px+((F b.toNat).c)*pz)) ((2*fe)+(B+C+fe+fe+6)+2)]],none⟩,some ⟨56,3,true,((List.replicate ((m.bodies.map (aE 300)).length+2) [(AV.q 0 0)]).set 0 [.q (1:Rat) 64]),none⟩,some ⟨56,3,true,((List.replicate ((m.bodies.map (aE 300)).length+2) [(AV.q 0 0)]).set 1 [.q (1:Rat) 64]),none⟩,some ⟨59,1,false,[[.own 2 3 0 ((m.bodies.map (aE 300)).length+2)],[.own 3 3 0 ((m.bodies.map (aE 300)).length+2)]],none⟩,some ⟨89,1,false,[[.own 4 1 0 2]],none⟩]) ?_
   simp only[bH];refine Good.weakBL 2 (els:=((List.replicate (m.bodies.length+2) (0:Rat)).set 0 1).map (bG (6*fe+B+C+74))) rfl (by simp) (fun i el el' h1 h2=>DW i el el' h1 h2 (by omega)) ?_;refine Good.weakBL 3 (els:=((List.replicate (m.bodies.length+2) (0:Rat)).set 1 1).map (bG (6*fe+B+C+74))) rfl (by simp) (fun i el el' h1 h2=>DW i el el' h1 h2 (by omega)) ?_;refine Good.weakB (el':=[.q (eQ (F b.toNat) ⟨px,pz⟩).x (4*fe+B+C+8),.q (eQ (F b.toNat) ⟨px,pz⟩).z (4*fe+B+C+8)]) 1 0 (by rfl) (by rfl) (RefC.cons qe qe) ?_;refine Nt m F fe b (eQ (F b.toNat) ⟨px,pz⟩) (4*fe+B+C+8) (6*fe+B+C+74) (m.bodies.length+2) _ _ ?_;refine Good.pre ?_ fun b' a cs w ρ D R=>step_block (id:=0) (c:=codeRF)
   refine Ry m F fe (eQ (F b.toNat) ⟨px,pz⟩) (4*fe+B+C+8) (6*fe+B+C+74) (m.bodies.length+2) _ _ b (b.toNat+1) rfl (by omega) (by omega) (by omega) o2 (by omega) o6 (by simp) (by simp) fun k0 k1 k2 k3 k4 k5 k6 bE=> ?_
   obtain⟨l1,l2⟩:=tH m F (eQ (F b.toNat) ⟨px,pz⟩) (b.toNat+1) b ((List.replicate (m.bodies.length+2) 0).set 0 1) ((List.replicate (m.bodies.length+2) 0).set 1 1);simp only[List.length_set,List.length_replicate] at l1 l2;show Good Tryz.prog 120 S No w0 _ [.code .ret] ⟨slots 79 [(6,.own 4 1 0 2)],hJ m F fe (eQ (F b.toNat) ⟨px,pz⟩) (4*fe+B+C+8) (6*fe+B+C+74) (m.bodies.length+2) k0 k1 k2 k3 k4 k5 k6 (tG m F b ⟨px,pz⟩).1 (tG m F b ⟨px,pz⟩).2 bE⟩;have l1':(tG m F b ⟨px,pz⟩).1.length=m.bodies.length+2:=l1;have l2':(tG m F b ⟨px,pz⟩).2.length=m.bodies.length+2:=l2;clear l1 l2;show GF 120 S w0 (.list 1 [[.list 3 ((tG m F b ⟨px,pz⟩).1.map (bG (6*fe+B+C+74)))],[.list 3 ((tG m F b ⟨px,pz⟩).2.map (bG (6*fe+B+C+74)))]]) _ _;generalize (tG m F b ⟨px,pz⟩).1=Y at*;generalize (tG m F b ⟨px,pz⟩).2=Z at*;refine Good.freezeD (b:=⟨56,3,true,Y.map (bG (6*fe+B+C+74)),some k2⟩) 2 (by rfl) (by rfl) .on (AllP.of_eq (l':=[0+(m.bodies.length+2)<=(Y.map (bG (6*fe+B+C+74))).length]) (by kernel_rfl) (.cons (by simp[l1']) .nil)) ?_;refine Good.freezeD (b:=⟨56,3,true,Z.map (bG (6*fe+B+C+74)),some k3⟩) 3 (by rfl) (by rfl) .on (AllP.of_eq (l':=[0+(m.bodies.length+2)<=(Z.map (bG (6*fe+B+C+74))).length]) (by kernel_rfl) (.cons (by simp[l2']) .nil)) ?_;refine Good.freezeD (b:=⟨59,1,false,[[.list 3 (((Y.map (bG (6*fe+B+C+74))).drop 0).take (m.bodies.length+2))],[.list 3 (((Z.map (bG (6*fe+B+C+74))).drop 0).take (m.bodies.length+2))]],some k4⟩) 4 (by rfl) (by rfl) (.oe (.a1 (dc (0+2<=2)))) (.oe (.a1 (dc (0+2<=2)))) ?_
   refine gE [.list 1 [[.list 3 (((Y.map (bG (6*fe+B+C+74))).drop 0).take (m.bodies.length+2))],[.list 3 (((Z.map (bG (6*fe+B+C+74))).drop 0).take (m.bodies.length+2))]]] (Ref.eq ?_);have e1:((Y.map (bG (6*fe+B+C+74))).drop 0).take (m.bodies.length+2)=Y.map (bG (6*fe+B+C+74)):=by rw[List.drop_zero];exact fQ (by simp[l1'])
   have e2:((Z.map (bG (6*fe+B+C+74))).drop 0).take (m.bodies.length+2)=Z.map (bG (6*fe+B+C+74)):=by rw[List.drop_zero];exact fQ (by simp[l2'])
   rw[e1,e2];rfl
 · cases h
def BZ:=kn.cons EQ
theorem Il {S0 C0:Nat->Prop} {w0:World} {Post:Value->World->Prop} (x:Rat) (d B:Nat) (h1:(((aM (aC b10k ((d:Nat):Int).natAbs)).length:Nat):Int)=(0:Int)) (o:(Ref (AV.dig (((d:Nat):Int).natAbs) B) (AV.list 1 (aM (aC b10k ((d:Nat):Int).natAbs)))))
   (hg:Good Tryz.prog 135 S0 C0 w0 Post [.code .ret,.code (aN [1,1] (aA Tryz.f135))] ⟨slots 11 [(2,.ptr 1 2 0 0)],[some ⟨66,4,false,[[(.rq x d B)]],none⟩,some ⟨64,2,false,[[(.rz 1 64)]],none⟩,none]⟩):
   Good Tryz.prog 135 S0 C0 w0 Post [.code (aN [] (aA Tryz.f135))] ⟨slots 11 [(0,.agg [(.rq x d B)])],[]⟩:=
 go mixed aT BZ 13 none [2] [(5,(AV.list 1 (aM (aC b10k ((d:Nat):Int).natAbs)))),(7,(AV.bool true))] (ob:=[Ref (AV.dig (((d:Nat):Int).natAbs) B) (AV.list 1 (aM (aC b10k ((d:Nat):Int).natAbs))),Ref (AV.bool (decide ((((aM (aC b10k ((d:Nat):Int).natAbs)).length:Nat):Int)=(0:Int)))) (.bool true),(-9223372036854775808:Int)<=1,1<=(9223372036854775807:Int)]) (by kernel_rfl)
   (.cons (o) (.cons (Ref.bool (decide_eq_true h1)) (.cons (by decide) (.cons (by decide) (AllP.nil))))) hg
theorem Im {S0 C0:Nat->Prop} {w0:World} {Post:Value->World->Prop} (x:Rat) (d B:Nat) (h1:¬ ((((aM (aC b10k ((d:Nat):Int).natAbs)).length:Nat):Int)=(0:Int))) (o:(Ref (AV.dig (((d:Nat):Int).natAbs) B) (AV.list 1 (aM (aC b10k ((d:Nat):Int).natAbs)))))
   (hg:Good Tryz.prog 135 S0 C0 w0 Post [.code .ret] ⟨slots 11 [(2,.ptr 1 2 0 0)],[some ⟨66,4,false,[[(.rq x d B)]],none⟩,some ⟨64,2,false,[[(.rz ((d:Nat):Int) B)]],none⟩]⟩):
   Good Tryz.prog 135 S0 C0 w0 Post [.code (aN [] (aA Tryz.f135))] ⟨slots 11 [(0,.agg [(.rq x d B)])],[]⟩:=
 go mixed aT BZ 14 none [2] [(5,(AV.list 1 (aM (aC b10k ((d:Nat):Int).natAbs)))),(7,(AV.bool false))] (ob:=[Ref (AV.dig (((d:Nat):Int).natAbs) B) (AV.list 1 (aM (aC b10k ((d:Nat):Int).natAbs))),Ref (AV.bool (decide ((((aM (aC b10k ((d:Nat):Int).natAbs)).length:Nat):Int)=(0:Int)))) (.bool false)]) (by kernel_rfl)
   (.cons (o) (.cons (Ref.bool (decide_eq_false h1)) (AllP.nil))) hg
def LJ:KF
 | [.agg [.rq x d B]]=>some (.agg [.rz (x.den:Int) (max B 64)],[])
 | _=>none
theorem RA (args:List AV) (r:AV) (ob:List Prop) (h:LJ args=some (r,ob)) (ho:AllP ob):tX Tryz.prog 135 args r:=by
 unfold LJ at h
 split at h
 · rename_i x d B
   cases h;refine af Tryz.f135 fun S w0=> ?_
   have e:kC [.agg [.rq x d B]] Tryz.f135.ntmps=⟨slots 11 [(0,.agg [(.rq x d B)])],[]⟩:=by kernel_rfl
   rw[e];clear e;refine Good.rqlt (x:=x) (d:=d) (B:=B) (cs:=[]) 0 rfl fun _ _ hd=> ?_
   have hz:=x.den_nz
   by_cases h1:(((aM (aC b10k ((d:Nat):Int).natAbs)).length:Nat):Int)=(0:Int)
   · refine Il x d B h1 Ref.opnd (gE [(AV.agg [(AV.rz 1 64)])] ?_)
     have hp:¬ 0<d:=fun h=>by
       rw[aI] at h1;have:=(cJ (b:=b10k) (n:=((d:Nat):Int).natAbs) (by decide)).2 (by omega);omega
     exact Ref.rz1 (by omega) (by omega)
   · refine Im x d B h1 Ref.opnd (gE [(AV.agg [(AV.rz ((d:Nat):Int) B)])] ?_)
     have hp:d≠0:=fun h=>h1 (by rw[h];rfl)
     exact Ref.rz1 (by omega) (by omega)
 · cases h
def iG:=kn
def zB (n:Int):ByteArray:=if n<0 then ByteArray.mk #[45]++fO n.natAbs else fO n.natAbs
def RB:KF
 | [.agg [.rz n B]]=>some (.str (zB n),[B<=LIM])
 | _=>none
theorem mZ (es:List Nat) (v:Nat):(iW (es++ [v])).reverse=(48+v)::(iW es).reverse:=by rw[xK,List.reverse_append];rfl
section
variable {S:Nat->Prop} {w0:World} {s:Bool} {xs:List Nat}
noncomputable abbrev RC:List Item:=[.code (aN [1,1,1,1,0,0,0] (aA Tryz.f243)),.inLoop (aN [1,1,1,1,0,0,0] (aA Tryz.f243)),.inBlock 4,.code (aN [1,1,1,1,1] (aA Tryz.f243))]
noncomputable abbrev In:List Item:=[.code (aN [1,1,1,0,1,0,0] (aA Tryz.f243)),.inLoop (aN [1,1,1,0,1,0,0] (aA Tryz.f243)),.inBlock 0,.code (aN [1,1,1,1] (aA Tryz.f243))]
noncomputable abbrev Io:List Item:=[.code (aN [1,1,1,0,1,0,0,1,0,0,1,1,0,0] (aA Tryz.f243)),.inLoop (aN [1,1,1,0,1,0,0,1,0,0,1,1,0,0] (aA Tryz.f243)),.inBlock 2,.inBlock 1,.code (aN [1,1,1,0,1,0,0,1,1] (aA Tryz.f243)),.inLoop (aN [1,1,1,0,1,0,0] (aA Tryz.f243)),.inBlock 0,.code (aN [1,1,1,1] (aA Tryz.f243))]
abbrev KU (s:Bool) (xs:List Nat):ABlk:=⟨64,2,false,[[.bool s,.list 1 (aM xs)]],none⟩
abbrev KV (S:Nat->Prop) (w0:World) (s:Bool) (N:Nat):Value->World->Prop:=eD S w0 (.str (if s=true then ByteArray.mk #[45]++fO N else fO N))
theorem Ip {N:Nat} (hN:0<N):∀ (k:Nat) (es:List Nat),es.length=k->(∀ x∈es,x<10)->aH 10 es=N->es.length<=100000000000000->
   Good Tryz.prog 243 S No w0 (KV S w0 s N) RC ⟨slots 47 [(1,.ptr 0 2 0 0),(3,.str (jE (iW es).reverse))],[some (KU s xs)]⟩:=by
 intro k
 induction k with
 | zero=>
   intro es hl hd hv hb;rw[List.eq_nil_of_length_eq_zero hl] at hv;simp[aH] at hv;omega
 | succ k ih=>
   intro es hl hd hv hb;obtain⟨es,v,rfl⟩:∃ e v,es=e++ [v]:=⟨es.dropLast,es.getLast (fun e=>by rw[e] at hl;simp at hl),(List.dropLast_concat_getLast _).symm⟩;have hv10:v<10:=hd v (by simp);have hd':∀ x∈es,x<10:=fun x hx=>hd x (by simp[hx])
   rw[List.length_append,List.length_singleton] at hl hb;rw[iM] at hv;rw[mZ];have hsz:(jE ((48+v)::(iW es).reverse)).size=k+1:=by rw[rY,List.length_cons,List.length_reverse,pM];omega
   have o1:Ref (AV.int .u8 ((((jE ((48+v)::(iW es).reverse)).data.toList.getD 0 0).toNat:Nat):Int)) (AV.int .u8 ((48+v:Nat):Int)):=Ref.eq (by rw[Nk (by omega)]);have o2:(0:Int)<(((jE ((48+v)::(iW es).reverse)).size:Nat):Int):=by rw[hsz];omega
   have v0:0<=(0:Int):=by decide
   rcases Nat.eq_zero_or_pos v with hv0 | hv0
   · subst hv0
     exact gN iG [1,2,3] [(38,.int .u8 (((48+0):Nat):Int)),(39,tt),(41,.str (jE ((iW es).reverse)))] (.c6 o1 v0 o2 (iT (dc ((((48+0):Nat):Int)=(48:Int)))) (show Ref (.str ((jE ((48+0)::(iW es).reverse)).extract 1 ((jE ((48+0)::(iW es).reverse)).size))) (.str (jE ((iW es).reverse))) from Ref.eq (by rw[Nj])) (dc (0<=(1:Int))) (.a1 (show(1:Int)<=((jE ((48+0)::(iW es).reverse)).size:Int) by rw[hsz];omega))) (ih es (by omega) hd' (by omega) (by omega))
   · have hdone:fO N=jE ((48+v)::(iW es).reverse):=by
       have hI:Inv N 0 (es++ [v]):=⟨hd,by rw[iM,Nat.mul_zero];omega,fun _=>by
         rw[List.length_append,List.length_singleton,Nat.add_sub_cancel]
         have:=Nat.mul_le_mul_left (10^es.length) (show 1<=v from hv0)
         omega⟩
       obtain⟨e1,e2⟩:=hI.done (by simp);unfold fO;rw[if_neg e2, <- e1,mZ]
     have hc:¬ ((48+v:Nat):Int)=(48:Int):=by omega
     cases s with
     | true=>
       refine rF iG [(38,.int .u8 (((48+v):Nat):Int)),(39,ff),(43,tt)] (.a6 o1 v0 o2 (iF hc) (show Ref (.bool true) (.bool true) from Ref.bool rfl) (show(ByteArray.mk #[45]).size+(jE ((48+v)::(iW es).reverse)).size<=big by rw[hsz];show 1+(k+1)<=big;unfold big;omega)) (V:=.str ((ByteArray.mk #[45])++(jE ((48+v)::(iW es).reverse)))) (Ref.eq (by
         show AV.str _=_
         rw[if_pos rfl,hdone]))
     | false=>
       refine rF iG [(38,.int .u8 (((48+v):Nat):Int)),(39,ff),(43,ff)] (.a5 o1 v0 o2 (iF hc) (show Ref (.bool false) (.bool false) from Ref.bool rfl)) (V:=.str (jE ((48+v)::(iW es).reverse))) (Ref.eq (by
         show AV.str _=_
         rw[if_neg (by decide),hdone]))
theorem Iq {N i M:Nat} (hM:M<=10000000000000) (hi:i<M)
   (hout:∀ es:List Nat,es.length=4*(i+1)->(∀ x∈es,x<10)->aH 10 es=aH b10k (xs.take (i+1))->Good Tryz.prog 243 S No w0 (KV S w0 s N) In ⟨slots 47 [(1,.ptr 0 2 0 0),(3,.str (jE (iW es).reverse)),(4,.i6 ((i+1:Nat):Int))],[some (KU s xs)]⟩):
   ∀ (j k v:Nat) (es:List Nat),k+j=4->v<10^j->es.length=4*i+k->(∀ x∈es,x<10)->aH 10 es+10^es.length*v=aH b10k (xs.take (i+1))->
   Good Tryz.prog 243 S No w0 (KV S w0 s N) Io ⟨slots 47 [(1,.ptr 0 2 0 0),(3,.str (jE (iW es).reverse)),(4,.i6 ((i:Nat):Int)),(5,.i6 ((v:Nat):Int)),(6,.i6 ((k:Nat):Int))],[some (KU s xs)]⟩:=by
 intro j
 induction j with
 | zero=>
   intro k v es hk hv hl hd hinv;have hv0:v=0:=by omega
   subst hv0;exact gN iG [1,3,4] [(24,ff),(17,.i6 ((i+1:Nat):Int))] (.a2 (iF (om (¬ ((k:Int)<(4:Int))))) (show Ref (.i6 (IntKind.i64.wrap ((i:Int)+(1:Int)))) (.i6 ((i+1:Nat):Int)) from Ref.wrI (by omega) (by omega))) (hout es (by omega) hd (by rw[<- hinv,Nat.mul_zero,Nat.add_zero]))
 | succ j ih=>
   intro k v es hk hv hl hd hinv
   have hvb:v<10000:=by
     have:10^(j+1)<=10^4:=Nat.pow_le_pow_right (by decide) (by omega);omega
   have v0:Ref (.i6 ((v:Int).tmod (10:Int))) (.i6 ((v % 10:Nat):Int)):=Ref.rem (a:=v) (b:=10) rfl rfl;have v1:(10:Int)≠0:=by decide
   refine gN iG [1,3,4,5,6] [(24,tt),(28,.i6 ((v % 10:Nat):Int)),(30,.i6 ((v % 10:Nat):Int)),(31,.i6 ((v % 10+1:Nat):Int)),(32,.str (jE [48+v % 10])),(34,.str (jE ((48+v % 10)::((iW es).reverse)))),(36,.i6 ((v/10:Nat):Int)),(26,.i6 ((k+1:Nat):Int))] (.c6 (iT (om ((k:Int)<(4:Int)))) v0 v1 v0 v1 (show Ref (.i6 (IntKind.i64.wrap (((v % 10:Nat):Int)+(1:Int)))) (.i6 ((v % 10+1:Nat):Int)) from Ref.wrI (by omega) (by omega)) (.c6 (show Ref (.str ((ByteArray.mk #[48,49,50,51,52,53,54,55,56,57]).extract (v % 10) (v % 10+1))) (.str (jE [48+v % 10])) from Ref.eq (by rw[Ff _ (Nat.mod_lt _ (by decide))])) (nn (v % 10+1)) (show((v % 10+1:Nat):Int)<=((ByteArray.mk #[48,49,50,51,52,53,54,55,56,57]).size:Int) by show _<=(10:Int);omega) (nn (v % 10)) (om (((v % 10:Nat):Int)<=((v % 10+1:Nat):Int))) (show Ref (.str ((jE [48+v % 10])++(jE ((iW es).reverse)))) (.str (jE ((48+v % 10)::((iW es).reverse)))) from Ref.eq (by rw[KE];rfl)) (.a4 (show(jE [48+v % 10]).size+(jE ((iW es).reverse)).size<=big from by
     rw[rY,rY,List.length_reverse,pM];show 1+_<=_;unfold big;omega) (show Ref (.i6 (IntKind.i64.wrap ((v:Int).tdiv (10:Int)))) (.i6 ((v/10:Nat):Int)) from Ref.quo (a:=v) (b:=10) rfl rfl (by decide) (om (((v:Nat):Int)<=(9223372036854775807:Int)))) v1 (show Ref (.i6 (IntKind.i64.wrap ((k:Int)+(1:Int)))) (.i6 ((k+1:Nat):Int)) from Ref.wrI (by omega) (by omega))))) (t:=Io) (σ:=slots 47 [(1,.ptr 0 2 0 0),(3,(.str (jE ((48+v % 10)::((iW es).reverse))))),(4,.i6 (i:Int)),(5,.i6 ((v/10:Nat):Int)),(6,.i6 ((k+1:Nat):Int))]) (h:=[some ⟨64,2,false,[[.bool s,.list 1 (aM xs)]],none⟩]) ?_
   have:=ih (k+1) (v/10) (es++ [v % 10]) (by omega) (by rw[Nat.pow_succ] at hv;omega) (by rw[List.length_append,List.length_singleton];omega) (rD hd (Nat.mod_lt _ (by decide))) (by
     rw[iM,List.length_append,List.length_singleton,Nat.pow_succ,Nat.mul_assoc,Nat.add_assoc, <- Nat.mul_add,Nat.mod_add_div];exact hinv)
   rw[mZ] at this;exact this
theorem Ir {N:Nat} (hN:0<N) (hx:∀ x∈xs,x<b10k) (hxN:aH b10k xs=N) (hM:xs.length<=10000000000000):∀ (j i:Nat) (es:List Nat),i+j=xs.length->es.length=4*i->(∀ x∈es,x<10)->aH 10 es=aH b10k (xs.take i)->
   Good Tryz.prog 243 S No w0 (KV S w0 s N) In ⟨slots 47 [(1,.ptr 0 2 0 0),(3,.str (jE (iW es).reverse)),(4,.i6 ((i:Nat):Int))],[some (KU s xs)]⟩:=by
 intro j
 induction j with
 | zero=>
   intro i es hi hl hd hv;exact gN iG [1,3] [(15,ff)] (.a1 (iF (show ¬ ((i:Int)<((aM xs).length:Int)) by rw[aI];omega))) (Ip (s:=s) (xs:=xs) hN _ es rfl hd (by rw[hv,fQ (by omega)];exact hxN) (by omega))
 | succ j ih=>
   intro i es hi hl hd hv;have hlt:((i:Nat):Int)<(((aM xs).length:Nat):Int):=by rw[aI];omega
   refine gN iG [1,3,4,5,6] [(15,tt),(21,.cptr [.i6 (xs.getD i 0:Int)] 0),(22,.i6 (((xs.getD i 0):Nat):Int))] (.a5 (iT hlt) (show Ref (.cptr ((aM xs).getD i []) 0) (.cptr [.i6 (xs.getD i 0:Int)] 0) from Ref.cd64 ((om (i<xs.length)))) (nn i) hlt (show Ref (.i6 (xs.getD i 0:Int)) (.i6 (((xs.getD i 0):Nat):Int)) from rr)) (t:=Io) (σ:=slots 47 [(1,.ptr 0 2 0 0),(3,(.str (jE ((iW es).reverse)))),(4,.i6 (i:Int)),(5,(.i6 (((xs.getD i 0):Nat):Int))),(6,.i6 (0:Int))]) (h:=[some ⟨64,2,false,[[.bool s,.list 1 (aM xs)]],none⟩]) ?_
   have h1:=aY (b:=b10k) (by decide) hx i;refine Iq (M:=xs.length) (by omega) (by omega) (fun es' a b c=>ih (i+1) es' (by omega) a b c) 4 0 (xs.getD i 0) es rfl h1 hl hd ?_;rw[aQ,hv,hl,Nat.pow_mul];rfl
end
theorem Us:bQ 243 RB:=fun args r ob h ho=>by
 unfold RB at h
 split at h
 · rename_i n B
   cases h;have hL:B<=LIM:=ho _ (by simp);unfold LIM at hL;refine af Tryz.f243 fun S w0=> ?_
   refine Good.rzlt (n:=n) (B:=B) (cs:=[]) 0 rfl fun hB=> ?_
   refine Good.weak 47 [(0,.agg [.bool (decide (n<0)),.list 1 (aM (aC b10k n.natAbs))])] (by kernel_rfl) (.cons (Ref.agg (RefC.rzopn.trans (RefC.tl RefC.opnd))) .nil) ?_;obtain⟨hx,hxn⟩:=aO (b:=b10k) (by decide) n.natAbs;have hl:=hx.len10 (by rw[hxn];exact hB);rcases Nat.eq_zero_or_pos n.natAbs with hz | hz
   · have hn:n=0:=by omega
     subst hn;refine rF iG [(10,tt)] (.a1 (iT (show((aM (aC b10k (0:Int).natAbs)).length:Int)=(0:Int) by rw[aI];rfl))) (V:=.str (ByteArray.mk #[48])) rr
   · have hp:=(cJ (b:=b10k) (n:=n.natAbs) (by decide)).2 hz
     refine gN iG [1,3,4] [(10,ff)] (.a1 (iF (show ¬ ((((aM (aC b10k n.natAbs)).length:Nat):Int)=(0:Int)) by rw[aI];omega))) (t:=In) (σ:=slots 47 [(1,.ptr 0 2 0 0),(3,.str (jE (iW []).reverse)),(4,.i6 ((0:Nat):Int))]) (h:=[some ⟨64,2,false,[[.bool (decide (n<0)),.list 1 (aM (aC b10k n.natAbs))]],none⟩]) ?_
     have:=Ir (S:=S) (w0:=w0) (s:=decide (n<0)) hz hx.1 hxn (by omega) _ 0 [] (Nat.zero_add _) rfl (by simp) (by simp[aH]);have e:zB n=if decide (n<0)=true then ByteArray.mk #[45]++fO n.natAbs else fO n.natAbs:=by unfold zB;simp only[decide_eq_true_eq]
     rw[e];exact this
 · cases h
theorem pN {n B:Nat} (h:n<2^B):(fO n).size<=B+2:=by
 unfold fO
 split
 · show 1<=_;omega
 · rename_i h0
   rw[rY,List.length_reverse,pM];obtain⟨g1,g2⟩:=aO (b:=10) (by decide) n
   have hI:Inv n 0 (aC 10 n):=⟨g1.1,by rw[Nat.mul_zero,Nat.add_zero,g2],fun hne=>by
     have:=g1.low (by decide) hne
     rwa [g2] at this⟩
   have:=hI.len h;omega
theorem KW {n:Int} {B:Nat} (h:n.natAbs<2^B):(zB n).size<=B+3:=by
 have:=pN h;unfold zB
 split
 · rw[ByteArray.size_append];show 1+_<=_;omega
 · omega
theorem Ca {n:Nat}:fO n=ByteArray.mk #[49]↔n=1:=by
 constructor
 · intro h
   unfold fO at h
   split at h
   · exact absurd (congrArg (fun b=>b.data.toList) h) (by decide)
   · have h1:=KG _ h (fun x hx=>by
       obtain⟨e,he,rfl⟩:=List.mem_map.1 (List.mem_reverse.1 hx)
       have:=(aO (b:=10) (by decide) n).1.1 e he
       omega)
     have h2:iW (aC 10 n)= [49]:=by rw[<- List.reverse_reverse (iW (aC 10 n)),h1];rfl
     have h3:(aC 10 n)= [1]:=by
       match hd:aC 10 n,h2 with
       | [],h2=>simp[iW] at h2
       | [x],h2=>simp[iW] at h2;rw[show x=1 by omega]
       | _::_::_,h2=>simp[iW] at h2
     have h4:=(aO (b:=10) (by decide) n).2;rw[h3] at h4;simpa[aH] using h4.symm
 · rintro rfl;decide+kernel
def qB (x:Rat):ByteArray:=if x.den=1 then zB x.num else (zB x.num++ByteArray.mk #[47])++fO x.den
theorem qH (n:Nat):zB (n:Int)=fO n:=by
 unfold zB;rw[if_neg (by omega)];rfl
def RD:KF
 | [.agg [.rq x d B]]=>some (.str (qB x),[B+100<=LIM])
 | _=>none
theorem Ut:bQ 174 RD:=by
 refine cK Tryz.f174 fun _ _ _ S w0 h ho=> ?_
 unfold RD at h;split at h <;> cases h;rename_i x d B;have o1:=ho.one;have L:=dR;have K:=(kn.cons RA).cons Us;refine Good.rqlt (x:=x) (d:=d) (B:=B) (cs:=[]) 0 rfl fun hn hd hdx=> ?_
 have z1:=KW hn
 have hd2:x.den<2^(B+1):=by
   rw[Nat.pow_succ]
   have:=Nat.two_pow_pos B;omega
 have z2:=pN hd2;have v0:(max B 64)<=LIM:=by first | omega | (unfold LIM at*;omega) | (show _+1<=big;unfold big LIM at*;omega) | (rw[ByteArray.size_append,qH];show _+1+_<=big;unfold big LIM at*;omega)
 have v1:B<=LIM:=by first | omega | (unfold LIM at*;omega) | (show _+1<=big;unfold big LIM at*;omega) | (rw[ByteArray.size_append,qH];show _+1+_<=big;unfold big LIM at*;omega)
 rcases Bool.eq_false_or_eq_true ((zB (x.den:Int)).toList==(ByteArray.mk #[49]).toList) with h1 | h1
 · refine rF K [(12,tt)] (.a3 v1 v0 (show Ref (.bool ((zB (x.den:Int)).toList==(ByteArray.mk #[49]).toList)) (.bool true) from Ref.bool h1)) (V:=.str (zB x.num)) ?_
   rw[tD,qH,Ca] at h1;exact Ref.eq (by unfold qB;rw[if_pos h1])
 · refine rF K [(12,ff)] (.a5 v1 v0 (show Ref (.bool ((zB (x.den:Int)).toList==(ByteArray.mk #[49]).toList)) (.bool false) from Ref.bool h1) (show(zB x.num).size+(ByteArray.mk #[47]).size<=big by first | omega | (unfold LIM at*;omega) | (show _+1<=big;unfold big LIM at*;omega) | (rw[ByteArray.size_append,qH];show _+1+_<=big;unfold big LIM at*;omega)) (show((zB x.num)++(ByteArray.mk #[47])).size+(zB (x.den:Int)).size<=big by first | omega | (unfold LIM at*;omega) | (show _+1<=big;unfold big LIM at*;omega) | (rw[ByteArray.size_append,qH];show _+1+_<=big;unfold big LIM at*;omega))) (V:=.str (((zB x.num)++(ByteArray.mk #[47]))++(zB (x.den:Int)))) ?_
   replace h1:¬ ((zB (x.den:Int)).toList==(ByteArray.mk #[49]).toList)=true:=by rw[h1];decide
   rw[tD,qH,Ca] at h1;exact Ref.eq (by unfold qB;rw[if_neg h1,qH])
theorem uU (x:Rat):((0:Int)<(((aG (aC b32 (x.den-1))).length:Nat):Int))↔¬ x.den=1:=by
 have h1:=cJ (b:=b32) (n:=x.den-1) (by decide);have h2:=x.den_pos;rw[aB];omega
def RE:KF
 | [.agg [.q x B]]=>some (.str (qB x),[B+100<=LIM])
 | _=>none
theorem Uu:bQ 100 RE:=by
 refine cK Tryz.f100 fun _ _ _ S w0 h ho=> ?_
 unfold RE at h;split at h <;> cases h;rename_i x B;have o1:=ho.one;have L:=dR;have K:=(kn.cons CK).cons Up;refine Good.qlt (x:=x) (B:=B) (cs:=[]) 0 rfl fun hn hd=> ?_
 have z1:=pN hn;have hd1:x.den<2^(B+1):=by have:=x.den_pos;rw[Nat.pow_succ];omega
 have z2:=pN hd1;have v0:Ref (.nat (x.den-1) B) (.list 1 (aG (aC b32 (x.den-1)))):=by first | exact Ref.opn | omega | (unfold LIM at*;omega) | (show 1+_<=big;unfold big LIM at*;omega) | (rw[ByteArray.size_append,ByteArray.size_append];show 1+_+(1+_)<=big;unfold big LIM at*;omega) | (rw[ByteArray.size_append];show _+(1+_)<=big;unfold big LIM at*;omega)
 have v1:B<=LIM:=by first | exact Ref.opn | omega | (unfold LIM at*;omega) | (show 1+_<=big;unfold big LIM at*;omega) | (rw[ByteArray.size_append,ByteArray.size_append];show 1+_+(1+_)<=big;unfold big LIM at*;omega) | (rw[ByteArray.size_append];show _+(1+_)<=big;unfold big LIM at*;omega)
 have v3:(ByteArray.mk #[47]).size+(fO x.den).size<=big:=by first | exact Ref.opn | omega | (unfold LIM at*;omega) | (show 1+_<=big;unfold big LIM at*;omega) | (rw[ByteArray.size_append,ByteArray.size_append];show 1+_+(1+_)<=big;unfold big LIM at*;omega) | (rw[ByteArray.size_append];show _+(1+_)<=big;unfold big LIM at*;omega)
 have v4:max B 64+1<=LIM:=by first | exact Ref.opn | omega | (unfold LIM at*;omega) | (show 1+_<=big;unfold big LIM at*;omega) | (rw[ByteArray.size_append,ByteArray.size_append];show 1+_+(1+_)<=big;unfold big LIM at*;omega) | (rw[ByteArray.size_append];show _+(1+_)<=big;unfold big LIM at*;omega)
 have v5:(B+1)<=LIM:=by first | exact Ref.opn | omega | (unfold LIM at*;omega) | (show 1+_<=big;unfold big LIM at*;omega) | (rw[ByteArray.size_append,ByteArray.size_append];show 1+_+(1+_)<=big;unfold big LIM at*;omega) | (rw[ByteArray.size_append];show _+(1+_)<=big;unfold big LIM at*;omega)
 by_cases h1:x.num<0
 · have v2:(ByteArray.mk #[45]).size+(fO x.num.natAbs).size<=big:=by first | exact Ref.opn | omega | (unfold LIM at*;omega) | (show 1+_<=big;unfold big LIM at*;omega) | (rw[ByteArray.size_append,ByteArray.size_append];show 1+_+(1+_)<=big;unfold big LIM at*;omega) | (rw[ByteArray.size_append];show _+(1+_)<=big;unfold big LIM at*;omega)
   by_cases h2:(0:Int)<(((aG (aC b32 (x.den-1))).length:Nat):Int)
   · refine rF K [(10,tt),(14,.list 1 (aG (aC b32 (x.den-1)))),(16,tt)] (.c6 v1 (iT h1) v2 v0 (iT h2) v4 (.a3 v5 v3 (show((ByteArray.mk #[45])++(fO x.num.natAbs)).size+((ByteArray.mk #[47])++(fO x.den)).size<=big by first | exact Ref.opn | omega | (unfold LIM at*;omega) | (show 1+_<=big;unfold big LIM at*;omega) | (rw[ByteArray.size_append,ByteArray.size_append];show 1+_+(1+_)<=big;unfold big LIM at*;omega) | (rw[ByteArray.size_append];show _+(1+_)<=big;unfold big LIM at*;omega)))) (V:=.str (((ByteArray.mk #[45])++(fO x.num.natAbs))++((ByteArray.mk #[47])++(fO x.den)))) ?_
     rw[uU] at h2;exact Ref.eq (by unfold qB zB;rw[if_neg h2,if_pos h1];simp only[ByteArray.append_assoc])
   · refine rF K [(10,tt),(14,.list 1 (aG (aC b32 (x.den-1)))),(16,ff)] (.a5 v1 (iT h1) v2 v0 (iF h2)) (V:=.str ((ByteArray.mk #[45])++(fO x.num.natAbs))) ?_
     rw[uU] at h2;replace h2:=Decidable.not_not.1 h2;exact Ref.eq (by unfold qB zB;rw[if_pos h2,if_pos h1])
 · by_cases h2:(0:Int)<(((aG (aC b32 (x.den-1))).length:Nat):Int)
   · refine rF K [(10,ff),(14,.list 1 (aG (aC b32 (x.den-1)))),(16,tt)] (.c6 v1 (iF h1) v0 (iT h2) v4 v5 (.a2 v3 (show(fO x.num.natAbs).size+((ByteArray.mk #[47])++(fO x.den)).size<=big by first | exact Ref.opn | omega | (unfold LIM at*;omega) | (show 1+_<=big;unfold big LIM at*;omega) | (rw[ByteArray.size_append,ByteArray.size_append];show 1+_+(1+_)<=big;unfold big LIM at*;omega) | (rw[ByteArray.size_append];show _+(1+_)<=big;unfold big LIM at*;omega)))) (V:=.str ((fO x.num.natAbs)++((ByteArray.mk #[47])++(fO x.den)))) ?_
     rw[uU] at h2;exact Ref.eq (by unfold qB zB;rw[if_neg h2,if_neg h1];simp only[ByteArray.append_assoc])
   · refine rF K [(10,ff),(14,.list 1 (aG (aC b32 (x.den-1)))),(16,ff)] (.a4 v1 (iF h1) v0 (iF h2)) (V:=.str (fO x.num.natAbs)) ?_
     rw[uU] at h2;replace h2:=Decidable.not_not.1 h2;exact Ref.eq (by unfold qB zB;rw[if_pos h2,if_neg h1])
def VF:KF
 | [.agg [.q x B],.agg [.rq y d C]]=>some (.bool true,[x=y,B+100<=LIM,C+100<=LIM])
 | _=>none
theorem Wl:bQ 72 VF:=by
 refine cK Tryz.f72 fun _ _ _ S w0 h ho=> ?_
 unfold VF at h;split at h <;> cases h;rename_i x B y d C;obtain⟨o1,o2,o3⟩:=ho.e3;have K:=(kn.cons Ut).cons Uu;exact rR K [(9,tt)] (.a3 o2 o3 (show Ref (.bool ((qB x).toList==(qB y).toList)) (.bool true) by first | assumption | exact Ref.bool (tD.2 (by rw[o1]))))
def dB (E:Nat) (p:Rat×Nat):List AV:=[.rq p.1 p.2 E]
def xN:=kn.cons Wl
def mA:=kn
abbrev Is (ff:Func):List Item:=[.code (aN [1,1,0,1,0,0,1,0,0] (aA ff)),.inBlock 1,.code (aN [1,1,0,1,0,0,1,1] (aA ff)),.inLoop (aN [1,1,0,1,0,0] (aA ff)),.inBlock 0,.code (aN [1,1,1] (aA ff))]
abbrev xO (n:Nat) (k0:Nat):ABlk:=⟨66,4,true,(List.replicate n [AV.rq 0 0 0]),(some k0)⟩
abbrev It (ff:Func):List Item:=[.inBlock 1,.code (aN [1,1,0,1,0,0,1,1] (aA ff)),.inLoop (aN [1,1,0,1,0,0] (aA ff)),.inBlock 0,.code (aN [1,1,1] (aA ff))]
abbrev Da (k0:Nat) (n:Nat):ABlk:=⟨69,1,true,[[.lit (.slice (some ⟨k0,0,none⟩) n n)]],none⟩
section
variable {S0 C0:Nat->Prop} {w0:World} {Post:Value->World->Prop}
theorem Nw (n:Nat) (hn:n<=1000000)
   (hg:∀ k0,Good Tryz.prog 143 S0 C0 w0 Post (It Tryz.f143) ⟨slots 18 [(0,.i6 (2:Int)),(1,.i6 (n:Int)),(5,.own 2 1 0 1),(6,.i6 (0:Int)),(12,.nil),(13,.i6 (n:Int)),(14,.lit (.slice (some ⟨k0,0,none⟩) n n)),(15,.own 1 1 0 1),(16,.own 2 1 0 1)],[some ⟨66,4,true,(List.replicate n [AV.rq 0 0 0]),(some k0)⟩,some ⟨69,1,false,[[.lit (.slice (some ⟨k0,0,none⟩) n n)]],none⟩,some ⟨69,1,true,[[.lit (.slice (some ⟨k0,0,none⟩) n n)]],none⟩]⟩):
   Good Tryz.prog 143 S0 C0 w0 Post (Is Tryz.f143) ⟨slots 18 [(0,.i6 (2:Int)),(1,.i6 (n:Int)),(5,.nil),(6,.i6 (0:Int))],[]⟩:=
 Good.regOdd (γ:=Nat) 0 aT KOK.nil (c:=aN [1,1,0,1,0,0,1,0,0] (aA Tryz.f143)) 2 [] [] (σ1:=slots 18 [(0,.i6 (2:Int)),(1,.i6 (n:Int)),(5,.nil),(6,.i6 (0:Int)),(12,.nil),(13,.i6 (n:Int))]) (h1:=[]) (ob1:=[]) (st2:=fun k0=>⟨slots 18 [(0,.i6 (2:Int)),(1,.i6 (n:Int)),(5,.nil),(6,.i6 (0:Int)),(12,.nil),(13,.i6 (n:Int)),(14,.lit (.slice (some ⟨k0,0,none⟩) n n))],[some ⟨66,4,true,(List.replicate n [AV.rq 0 0 0]),(some k0)⟩]⟩) (σ3:=fun k0=>slots 18 [(0,.i6 (2:Int)),(1,.i6 (n:Int)),(5,.own 2 1 0 1),(6,.i6 (0:Int)),(12,.nil),(13,.i6 (n:Int)),(14,.lit (.slice (some ⟨k0,0,none⟩) n n)),(15,.own 1 1 0 1),(16,.own 2 1 0 1)]) (h3:=fun k0=>[some ⟨66,4,true,(List.replicate n [AV.rq 0 0 0]),(some k0)⟩,some ⟨69,1,false,[[.lit (.slice (some ⟨k0,0,none⟩) n n)]],none⟩,some ⟨69,1,true,[[.lit (.slice (some ⟨k0,0,none⟩) n n)]],none⟩]) (ob2:=fun k0=>[1=1,0<1,1*24<=140737488355328,1<=big]) (by kernel_rfl) (by kernel_rfl) (Nat.le_of_ble_eq_true (by kernel_rfl)) (by kernel_rfl) AllP.nil
   (fun ρ D a w Q next R hK=>DP (o:=((aL (aN [1,1,0,1,0,0,1,0,0] (aA Tryz.f143))).toList[2]?).getD default) (t:=69) (el:=66) (m:=n) (i:=⟨1,24,[.nil],.slice 66⟩) (ie:=⟨4,64,[.rq 0 0 0],.struct [(0,2,64),(2,2,64)]⟩) (x:=.tmp 13) (y:=.tmp 13) aT R (by kernel_rfl) (by kernel_rfl) (by kernel_rfl) (by kernel_rfl) (by kernel_rfl) (by kernel_rfl) (by kernel_rfl) (by kernel_rfl) (by kernel_rfl) (by decide) (by show(64:Int)*_<=_;omega) (by omega) (fun k=>by kernel_rfl) hK)
   (fun k0=>by kernel_rfl) (fun k0=>.cons (rfl) (.cons (by decide) (.cons (by first | decide | rfl) (.cons (by first | decide | rfl) (AllP.nil))))) hg
theorem Nx (n:Nat) (k0:Nat) (hn:n<=1000000)
   (hg:∀ k1,Good Tryz.prog 143 S0 C0 w0 Post (It Tryz.f143) ⟨slots 18 [(0,.i6 (2:Int)),(1,.i6 (n:Int)),(5,.own 4 1 0 2),(6,.i6 (1:Int)),(12,.own 1 1 0 1),(13,.i6 (n:Int)),(14,.lit (.slice (some ⟨k1,0,none⟩) n n)),(15,.own 3 1 0 1),(16,.own 4 1 0 2)],[some (xO n k0),none,some ⟨66,4,true,(List.replicate n [AV.rq 0 0 0]),(some k1)⟩,some ⟨69,1,false,[[.lit (.slice (some ⟨k1,0,none⟩) n n)]],none⟩,some ⟨69,1,true,([[AV.lit (.slice (some ⟨k0,0,none⟩) n n)]]++ [[(AV.lit (.slice (some ⟨k1,0,none⟩) n n))]]),none⟩]⟩):
   Good Tryz.prog 143 S0 C0 w0 Post (Is Tryz.f143) ⟨slots 18 [(0,.i6 (2:Int)),(1,.i6 (n:Int)),(5,.own 1 1 0 1),(6,.i6 (1:Int))],[some (xO n k0),some (Da k0 n)]⟩:=
 Good.regOdd (γ:=Nat) 0 aT KOK.nil (c:=aN [1,1,0,1,0,0,1,0,0] (aA Tryz.f143)) 2 [] [] (σ1:=slots 18 [(0,.i6 (2:Int)),(1,.i6 (n:Int)),(5,.own 1 1 0 1),(6,.i6 (1:Int)),(12,.own 1 1 0 1),(13,.i6 (n:Int))]) (h1:=[some (xO n k0),some (Da k0 n)]) (ob1:=[]) (st2:=fun k1=>⟨slots 18 [(0,.i6 (2:Int)),(1,.i6 (n:Int)),(5,.own 1 1 0 1),(6,.i6 (1:Int)),(12,.own 1 1 0 1),(13,.i6 (n:Int)),(14,.lit (.slice (some ⟨k1,0,none⟩) n n))],[some (xO n k0),some (Da k0 n),some ⟨66,4,true,(List.replicate n [AV.rq 0 0 0]),(some k1)⟩]⟩) (σ3:=fun k1=>slots 18 [(0,.i6 (2:Int)),(1,.i6 (n:Int)),(5,.own 4 1 0 2),(6,.i6 (1:Int)),(12,.own 1 1 0 1),(13,.i6 (n:Int)),(14,.lit (.slice (some ⟨k1,0,none⟩) n n)),(15,.own 3 1 0 1),(16,.own 4 1 0 2)]) (h3:=fun k1=>[some (xO n k0),none,some ⟨66,4,true,(List.replicate n [AV.rq 0 0 0]),(some k1)⟩,some ⟨69,1,false,[[.lit (.slice (some ⟨k1,0,none⟩) n n)]],none⟩,some ⟨69,1,true,([[AV.lit (.slice (some ⟨k0,0,none⟩) n n)]]++ [[(AV.lit (.slice (some ⟨k1,0,none⟩) n n))]]),none⟩]) (ob2:=fun k1=>[1=1,1= [[AV.lit (.slice (some ⟨k0,0,none⟩) n n)]].length,(2)*24<=140737488355328,2<=big]) (by kernel_rfl) (by kernel_rfl) (Nat.le_of_ble_eq_true (by kernel_rfl)) (by kernel_rfl) AllP.nil
   (fun ρ D a w Q next R hK=>DP (o:=((aL (aN [1,1,0,1,0,0,1,0,0] (aA Tryz.f143))).toList[2]?).getD default) (t:=69) (el:=66) (m:=n) (i:=⟨1,24,[.nil],.slice 66⟩) (ie:=⟨4,64,[.rq 0 0 0],.struct [(0,2,64),(2,2,64)]⟩) (x:=.tmp 13) (y:=.tmp 13) aT R (by kernel_rfl) (by kernel_rfl) (by kernel_rfl) (by kernel_rfl) (by kernel_rfl) (by kernel_rfl) (by kernel_rfl) (by kernel_rfl) (by kernel_rfl) (by decide) (by show(64:Int)*_<=_;omega) (by omega) (fun k=>by kernel_rfl) hK)
   (fun k1=>by kernel_rfl) (fun k1=>.cons (rfl) (.cons (by first | decide | rfl) (.cons (by first | decide | rfl) (.cons (by first | decide | rfl) (AllP.nil))))) hg
end
noncomputable abbrev Db:List Item:=[.code (aN [1,1,0,1,0,0] (aA Tryz.f143)),.inLoop (aN [1,1,0,1,0,0] (aA Tryz.f143)),.inBlock 0,.code (aN [1,1,1] (aA Tryz.f143))]
noncomputable abbrev Iu:List Item:=[.code (aN [1,1,0,1,0,0,1,0,0] (aA Tryz.f143)),.inBlock 1,.code (aN [1,1,0,1,0,0,1,1] (aA Tryz.f143)),.inLoop (aN [1,1,0,1,0,0] (aA Tryz.f143)),.inBlock 0,.code (aN [1,1,1] (aA Tryz.f143))]
abbrev KX (n:Nat):ABlk:=⟨66,4,true,List.replicate n [AV.rq 0 0 0],none⟩
theorem Ny (n:Nat) (hn:n<=1000000):nD Tryz.prog 143 [.i6 2,.i6 ((n:Nat):Int)] [] (.own 2 1 0 2) [some (KX n),some (KX n),some ⟨69,1,false,[[.own 0 4 0 n],[.own 1 4 0 n]],none⟩]:=by
 refine lR (fn:=Tryz.f143) (c:=aA Tryz.f143) (by kernel_rfl) (by kernel_rfl) (by kernel_rfl) (by simp) fun S w0 ρ hρ=> ?_
 have e:(kC [AV.int .i64 2,AV.int .i64 ((n:Nat):Int)] Tryz.f143.ntmps).σ=slots 18 [(0,.i6 2),(1,.i6 ((n:Nat):Int))]:=by kernel_rfl
 rw[e];refine gN mA [0,1,5,6] [] .nil (t:=Db) (σ:=slots 18 [(0,.i6 (2:Int)),(1,.i6 (n:Int)),(5,.nil),(6,.i6 (0:Int))]) (h:=[]) ?_
 refine gS mA (some 5) [0,1,5,6] [] .nil (t:=Iu) (σ:=slots 18 [(0,.i6 (2:Int)),(1,.i6 (n:Int)),(5,.nil),(6,.i6 (0:Int))]) (h:=[]) ?_
 refine Nw n hn fun k0=> ?_
 refine gR mA none [0,1,5,6] [0,2] [] .nil (t:=Db) (σ:=slots 18 [(0,.i6 (2:Int)),(1,.i6 (n:Int)),(5,.own 1 1 0 1),(6,.i6 (1:Int))]) (h:=[some ⟨66,4,true,(List.replicate n [AV.rq 0 0 0]),(some k0)⟩,some ⟨69,1,true,[[.lit (.slice (some ⟨k0,0,none⟩) n n)]],none⟩]) ?_
 refine gS mA (some 5) [0,1,5,6] [] .nil (t:=Iu) (σ:=slots 18 [(0,.i6 (2:Int)),(1,.i6 (n:Int)),(5,.own 1 1 0 1),(6,.i6 (1:Int))]) (h:=[some ⟨66,4,true,(List.replicate n [AV.rq 0 0 0]),(some k0)⟩,some ⟨69,1,true,[[.lit (.slice (some ⟨k0,0,none⟩) n n)]],none⟩]) ?_
 refine Nx n k0 hn fun k1=> ?_
 refine gR mA none [0,1,5,6] [0,2,4] [] .nil (t:=Db) (σ:=slots 18 [(0,.i6 (2:Int)),(1,.i6 (n:Int)),(5,.own 2 1 0 2),(6,.i6 (2:Int))]) (h:=[some ⟨66,4,true,(List.replicate n [AV.rq 0 0 0]),(some k0)⟩,some ⟨66,4,true,(List.replicate n [AV.rq 0 0 0]),(some k1)⟩,some ⟨69,1,true,([[AV.lit (.slice (some ⟨k0,0,none⟩) n n)]]++ [[(AV.lit (.slice (some ⟨k1,0,none⟩) n n))]]),none⟩]) ?_
 refine gN mA [4] [] .nil (t:=[.code .ret]) (σ:=slots 18 [(4,.own 2 1 0 2)]) (h:=[some ⟨66,4,true,(List.replicate n [AV.rq 0 0 0]),(some k0)⟩,some ⟨66,4,true,(List.replicate n [AV.rq 0 0 0]),(some k1)⟩,some ⟨69,1,true,[[.lit (.slice (some ⟨k0,0,none⟩) n n)],[.lit (.slice (some ⟨k1,0,none⟩) n n)]],none⟩]) ?_
 refine Good.unlit (l:=2) (b:=⟨69,1,true,[[.lit (.slice (some ⟨k0,0,none⟩) n n)],[.lit (.slice (some ⟨k1,0,none⟩) n n)]],none⟩) (els:=[[.own 0 4 0 n],[.own 1 4 0 n]]) rfl rfl (fun i el el' h1 h2=> ?_) ?_
 · match i,h1,h2 with
   | 0,h1,h2=>
     injection h1 with h1;injection h2 with h2;subst h1;subst h2;exact⟨k0,n,0,{ KX n with pin:=some k0 },rfl,rfl,rfl,rfl,by simp,by unfold big;omega⟩
   | 1,h1,h2=>
     injection h1 with h1;injection h2 with h2;subst h1;subst h2;exact⟨k1,n,1,{ KX n with pin:=some k1 },rfl,rfl,rfl,rfl,by simp,by unfold big;omega⟩
   | i+2,h1,h2=>simp at h1
 · exact jV aT (fn:=Tryz.f143) (by kernel_rfl) (.inr ⟨_,rfl⟩) (Vs:=[AV.own 2 1 0 2]) (by kernel_rfl) (by rfl) (by rfl) (fun l hl=>absurd hl (by simp)) (fun l hl=>absurd hl (by simp)) rr
def RF:KF
 | [.agg [.rq x d X,.rq z e Z],.agg [.rq u f U,.rq w g W]]=>some (.agg [.rq (x-u) (x-u).den (max X 64+max U 64+1),.rq (z-w) (z-w).den (max Z 64+max W 64+1)],[d=x.den,e=z.den,f=u.den,g=w.den,4*max X 64+4*max Z 64+4*max U 64+4*max W 64+2000<=LIM])
 | _=>none
theorem Uv:bQ 146 RF:=by
 refine cK Tryz.f146 fun _ _ _ S w0 h ho=> ?_
 unfold RF at h;split at h <;> cases h;rename_i x d X z e Z u f U w g W;obtain⟨o1,o2,o3,o4,o5⟩:=ho.e5;have L:=dR;have K:=kn.cons Kx;exact rF K [] (.a6 o1 o3 (show max X 64+max U 64+max X 64+max U 64+500<=LIM by first | assumption | rfl | omega) o2 o4 (show max Z 64+max W 64+max Z 64+max W 64+500<=LIM by first | assumption | rfl | omega)) (V:=.agg [.rq (x-u) ((x-u).den) (max X 64+max U 64+1),.rq (z-w) ((z-w).den) (max Z 64+max W 64+1)]) (Ref.agg (RefC.cons (RefC.rq_le (by omega)) (RefC.rq_le (by omega))))
def sA:=(((((kn.cons QS).cons Uv).cons Un).cons QP).cons VC).cons Wj
abbrev DX (XB:List (List AV)) (XS:List (List AV)) (XT:List (List AV)) (XD:List (List AV)) (XF:List (List AV)) (W:Nat) (w:PtD) (n:Nat):List (Option ABlk):=[some ⟨48,5,false,[[.list 34 XB,.list 22 XS,.list 22 XT,.list 17 XD,.list 6 XF]],none⟩,some ⟨68,8,false,[(hG W w)],none⟩,some ⟨66,4,true,(List.replicate n [AV.rq 0 0 0]),none⟩,some ⟨66,4,true,(List.replicate n [AV.rq 0 0 0]),none⟩,some ⟨69,1,false,[[.own 2 4 0 n],[.own 3 4 0 n]],none⟩]
abbrev LK (b:Int) (XR:List (List AV)) (XB:List (List AV)) (n:Nat):List (Nat×AV):=[(2,(.int .i64 b)),(4,(.ptr 0 5 0 0)),(9,(.list 16 XR)),(10,(.ptr 1 8 0 0)),(11,(.own 4 1 0 2)),(23,(.ptr 0 5 0 0)),(24,(.list 34 XB)),(25,(.int .i64 (XB.length:Int))),(26,(.int .i64 (n:Int))),(27,(.own 4 1 0 2))]
section
variable {S0 C0:Nat->Prop} {w0:World} {Post:Value->World->Prop}
theorem RG (XB XS XT XD XF XR:List (List AV)) (b:Int) (w:PtD) (W n:Nat) (hn:n<=1000000) (hl:n=XB.length+2)
   (hg:Good Tryz.prog 51 S0 C0 w0 Post [.code (aN [1,1,1,1] (aA Tryz.f51))] ⟨slots 74 (LK b XR XB n),(DX XB XS XT XD XF W w n)⟩):
   Good Tryz.prog 51 S0 C0 w0 Post [.code (aN [1,1,1,0] (aA Tryz.f51)),.code (aN [1,1,1,1] (aA Tryz.f51))] ⟨slots 74 [(2,.int .i64 b),(4,.ptr 0 5 0 0),(9,.list 16 XR),(10,.ptr 1 8 0 0)],[some ⟨48,5,false,[[.list 34 XB,.list 22 XS,.list 22 XT,.list 17 XD,.list 6 XF]],none⟩,some ⟨68,8,false,[(hG W w)],none⟩]⟩:=
 Good.regOdd (γ:=Unit) () aT KOK.nil (c:=aN [1,1,1,0] (aA Tryz.f51)) 4 [(26,.int .i64 (n:Int))] [] (σ1:=slots 74 [(2,.int .i64 b),(4,.ptr 0 5 0 0),(9,.list 16 XR),(10,.ptr 1 8 0 0),(23,.ptr 0 5 0 0),(24,.list 34 XB),(25,.int .i64 (XB.length:Int)),(26,.int .i64 (n:Int))]) (h1:=[some ⟨48,5,false,[[.list 34 XB,.list 22 XS,.list 22 XT,.list 17 XD,.list 6 XF]],none⟩,some ⟨68,8,false,[(hG W w)],none⟩]) (ob1:=[Ref (.int .i64 (IntKind.i64.wrap ((XB.length:Int)+2))) (.int .i64 (n:Int))]) (st2:=fun _=>⟨slots 74 [(2,.int .i64 b),(4,.ptr 0 5 0 0),(9,.list 16 XR),(10,.ptr 1 8 0 0),(23,.ptr 0 5 0 0),(24,.list 34 XB),(25,.int .i64 (XB.length:Int)),(26,.int .i64 (n:Int)),(27,.own 4 1 0 2)],(DX XB XS XT XD XF W w n)⟩) (σ3:=fun _=>slots 74 (LK b XR XB n)) (h3:=fun _=>(DX XB XS XT XD XF W w n)) (ob2:=fun _=>[]) (by kernel_rfl) (by kernel_rfl) (Nat.le_of_ble_eq_true (by kernel_rfl)) (by kernel_rfl) (.cons ((Ref.wr ⟨by show(-9223372036854775808:Int)<=_;omega,by show _<=(9223372036854775807:Int);omega⟩).trans (Ref.int (by omega))) .nil)
   (fun ρ D a w Q next R hK=>Ko (o:=((aL (aN [1,1,1,0] (aA Tryz.f51))).toList[4]?).getD default) (c:={ callee:=.value (.func 143),args:= #[.const (.int .i64 2),.tmp 26],argTypes:= #[3,3] }) (f:=143) R (by kernel_rfl) (by kernel_rfl) rfl (by kernel_rfl) (by kernel_rfl) (us:=[.int .i64 2,.int .i64 (n:Int)]) (by kernel_rfl) (by kernel_rfl) (Ny n hn) (by kernel_rfl) (fun ρ' D' a' w' R'=>hK () ρ' D' a' w' R'))
   (fun _=>by kernel_rfl) (fun _=>AllP.nil) (fun _=>hg)
theorem KY (XB XS XT XD XF XR:List (List AV)) (b:Int) (w:PtD) (W n:Nat)  (o:((0:Int)<(n:Int))/\(0<(List.replicate n [AV.rq 0 0 0]).length)/\((1:Int)<(n:Int))/\(1<(List.replicate n [AV.rq 0 0 0]).length))
   (hg:Good Tryz.prog 51 S0 C0 w0 Post [.code (aN [1,1,1,1,1,1,0,1,0,0] (aA Tryz.f51)),.inLoop (aN [1,1,1,1,1,1,0,1,0,0] (aA Tryz.f51)),.inBlock 0,.code (aN [1,1,1,1,1,1,1] (aA Tryz.f51))] ⟨slots 74 [(2,.int .i64 b),(4,.ptr 0 5 0 0),(9,.list 16 XR),(10,.ptr 1 8 0 0),(11,.own 4 1 0 2),(12,.int .i64 (0:Int))],[some ⟨48,5,false,[[.list 34 XB,.list 22 XS,.list 22 XT,.list 17 XD,.list 6 XF]],none⟩,some ⟨68,8,false,[(hG W w)],none⟩,some ⟨66,4,true,((List.replicate n [AV.rq 0 0 0]).set 0 [.rq (Int.cast 1:Rat) 1 64]),none⟩,some ⟨66,4,true,((List.replicate n [AV.rq 0 0 0]).set 1 [.rq (Int.cast 1:Rat) 1 64]),none⟩,some ⟨69,1,false,[[.own 2 4 0 n],[.own 3 4 0 n]],none⟩]⟩):
   Good Tryz.prog 51 S0 C0 w0 Post [.code (aN [1,1,1,1] (aA Tryz.f51))] ⟨slots 74 [(2,.int .i64 b),(4,.ptr 0 5 0 0),(9,.list 16 XR),(10,.ptr 1 8 0 0),(11,.own 4 1 0 2)],(DX XB XS XT XD XF W w n)⟩:=
 tR mixed aT sA 14 none [2,4,9,10,11,12] [0,1,2,3,4] [] (ob:=[0<=(0:Int),(0:Int)<2,(-9223372036854775808:Int)<=1,1<=(9223372036854775807:Int),0<=(0:Int),(0:Int)<(n:Int),0<(List.replicate n [AV.rq 0 0 0]).length,0<=(1:Int),(1:Int)<2,(-9223372036854775808:Int)<=1,1<=(9223372036854775807:Int),0<=(1:Int),(1:Int)<(n:Int),1<(List.replicate n [AV.rq 0 0 0]).length]) (by decide) (by kernel_rfl)
   (.cons (by decide) (.cons (by decide) (.cons (by decide) (.cons (by decide) (.cons (by decide) (.cons (o.1) (.cons (o.2.1) (.cons (by decide) (.cons (by decide) (.cons (by decide) (.cons (by decide) (.cons (by decide) (.cons (o.2.2.1) (.cons (o.2.2.2) (AllP.nil))))))))))))))) hg
end
abbrev IU (n j:Nat):List (Rat×Nat):=(List.replicate n ((0:Rat),(0:Nat))).set j (1,1)
def fI (m:MachD) (F:Nat->FrameD) (w:PtD) (b:Int):Nat->List (Rat×Nat)×List (Rat×Nat)
 | 0=>(IU (m.bodies.length+2) 0,IU (m.bodies.length+2) 1)
 | i+1=>if tC m.bodies ((i:Nat):Int) (b.toNat+1) b=true then ((fI m F w b i).1.set (2+i) (-(w.z-(F i).at_.z),(w.z-(F i).at_.z).den),(fI m F w b i).2.set (2+i) (w.x-(F i).at_.x,(w.x-(F i).at_.x).den)) else fI m F w b i
theorem mB {m:MachD} {F:Nat->FrameD} {w:PtD} {b:Int} {i:Nat}:fI m F w b (i+1)=if tC m.bodies ((i:Nat):Int) (b.toNat+1) b=true then ((fI m F w b i).1.set (2+i) (-(w.z-(F i).at_.z),(w.z-(F i).at_.z).den),(fI m F w b i).2.set (2+i) (w.x-(F i).at_.x,(w.x-(F i).at_.x).den)) else fI m F w b i:=rfl
theorem mC {m:MachD} {F:Nat->FrameD} {w:PtD} {b:Int}:∀ i,(fI m F w b i).1.length=m.bodies.length+2/\(fI m F w b i).2.length=m.bodies.length+2
 | 0=>by simp[fI]
 | i+1=>by
   obtain⟨h1,h2⟩:=mC (m:=m) (F:=F) (w:=w) (b:=b) i;unfold fI
   split
   · simp[h1,h2]
   · exact⟨h1,h2⟩
def EJ (jb:Nat):Nat:=6*SZ jb+1300
def zQ (jb:Nat) (m:MachD) (p:PoseD) (b:Int) (x:PtD):List (List AV):=[[.list 4 ((fI m (fr m p) (eQ (fr m p b.toNat) x) b m.bodies.length).1.map (dB (EJ jb)))],[.list 4 ((fI m (fr m p) (eQ (fr m p b.toNat) x) b m.bodies.length).2.map (dB (EJ jb)))]]
theorem Cb {n j E:Nat}:∀ (i:Nat) (el el':List AV),((List.replicate n [AV.rq 0 0 0]).set j [AV.rq (Int.cast 1:Rat) 1 64])[i]? =some el->((IU n j).map (dB E))[i]? =some el'->64<=E->RefC el el':=by
 intro i el el' h1 h2 hE;rw[List.getElem?_map,List.getElem?_set,List.getElem?_replicate] at h2;rw[List.getElem?_set,List.getElem?_replicate] at h1
 split at h1
 · rename_i hj
   rw[if_pos hj] at h2;simp only[List.length_replicate] at h1 h2
   split at h1
   · rename_i hl
     rw[if_pos hl] at h2;injection h1 with h1;subst h1;simp at h2;subst h2;exact RefC.rq_le hE
   · cases h1
 · rename_i hj
   rw[if_neg hj] at h2
   split at h1
   · rename_i hl
     rw[if_pos hl] at h2;injection h1 with h1;subst h1;simp at h2;subst h2;exact RefC.rq_le (Nat.zero_le _)
   · cases h1
theorem DY {X:List (Rat×Nat)} {k d E:Nat} {v:Rat}:(X.map (dB E)).set (0+k) [.rq v d E]=(X.set k (v,d)).map (dB E):=by rw[Nat.zero_add,List.map_set];rfl
noncomputable abbrev VG:List Item:=[.code (aN [1,1,1,1,1,1,0,1,0,0] (aA Tryz.f51)),.inLoop (aN [1,1,1,1,1,1,0,1,0,0] (aA Tryz.f51)),.inBlock 0,.code (aN [1,1,1,1,1,1,1] (aA Tryz.f51))]
section
variable {S:Nat->Prop} {w0:World} {m:MachD} {p:PoseD} {XS XT XD XF:List (List AV)} {jb:Nat} {b:Int} {w:PtD}
abbrev Wm (m:MachD) (w:PtD) (XS XT XD XF:List (List AV)) (W E:Nat) (A:List (Rat×Nat)×List (Rat×Nat)):List (Option ABlk):=[some ⟨48,5,false,[[.list 34 (m.bodies.map (aK 300)),.list 22 XS,.list 22 XT,.list 17 XD,.list 6 XF]],none⟩,some ⟨68,8,false,[[.rq w.x w.x.den W,.rq w.z w.z.den W]],none⟩,some ⟨66,4,true,A.1.map (dB E),none⟩,some ⟨66,4,true,A.2.map (dB E),none⟩,some ⟨69,1,false,[[.own 2 4 0 (m.bodies.length+2)],[.own 3 4 0 (m.bodies.length+2)]],none⟩]
theorem RH (x0 x1:Option ABlk) {Y Z:List (Rat×Nat)} {n E:Nat} (hY:Y.length=n) (hZ:Z.length=n):
   GF 51 S w0 (.list 1 [[.list 4 (Y.map (dB E))],[.list 4 (Z.map (dB E))]]) [.code .ret] ⟨slots 74 [(8,.own 4 1 0 2)],[x0,x1,some ⟨66,4,true,Y.map (dB E),none⟩,some ⟨66,4,true,Z.map (dB E),none⟩,some ⟨69,1,false,[[.own 2 4 0 n],[.own 3 4 0 n]],none⟩]⟩:=by
 refine Good.ren [2,3,4] (by decide) ?_;show Good Tryz.prog 51 S No w0 _ [.code .ret] ⟨slots 74 [(8,.own 2 1 0 2)],[some ⟨66,4,true,Y.map (dB E),none⟩,some ⟨66,4,true,Z.map (dB E),none⟩,some ⟨69,1,false,[[.own 0 4 0 n],[.own 1 4 0 n]],none⟩]⟩;refine Good.freezeD (b:=⟨66,4,true,Y.map (dB E),none⟩) 0 (by rfl) (by rfl) .on (AllP.of_eq (l':=[0+n<=(Y.map (dB E)).length]) (by kernel_rfl) (.cons (by simp[hY]) .nil)) ?_;refine Good.freezeD (b:=⟨66,4,true,Z.map (dB E),none⟩) 1 (by rfl) (by rfl) .on (AllP.of_eq (l':=[0+n<=(Z.map (dB E)).length]) (by kernel_rfl) (.cons (by simp[hZ]) .nil)) ?_;refine Good.freezeD (b:=⟨69,1,false,[[.list 4 (((Y.map (dB E)).drop 0).take n)],[.list 4 (((Z.map (dB E)).drop 0).take n)]],none⟩) 2 (by rfl) (by rfl) (.oe (.a1 (dc (0+2<=2)))) .on ?_;refine gE [.list 1 [[.list 4 (((Y.map (dB E)).drop 0).take n)],[.list 4 (((Z.map (dB E)).drop 0).take n)]]] (Ref.eq ?_);have e1:((Y.map (dB E)).drop 0).take n=Y.map (dB E):=by rw[List.drop_zero];exact fQ (by simp[hY])
 have e2:((Z.map (dB E)).drop 0).take n=Z.map (dB E):=by rw[List.drop_zero];exact fQ (by simp[hZ])
 rw[e1,e2];rfl
theorem Nz (hjb:jb<=100000) (hub:m.bodies.map (aK 300)=((m.bodies.map (aK 300)).map fW).map (aK 300)) (hre:∀ i n,tC ((m.bodies.map (aK 300)).map fW) i n b=tC m.bodies i n b) (hd:rX ((m.bodies.map (aK 300)).map fW))
   (hb:b<((m.bodies.length:Nat):Int)) (h8:m.bodies.length<=8):∀ (j i:Nat),i+j=m.bodies.length->
   GF 51 S w0 (.list 1 [[.list 4 ((fI m (fr m p) w b m.bodies.length).1.map (dB (EJ jb)))],[.list 4 ((fI m (fr m p) w b m.bodies.length).2.map (dB (EJ jb)))]]) VG
     ⟨slots 74 [(2,.i6 b),(4,.ptr 0 5 0 0),(9,.list 16 ((List.range m.bodies.length).map (oJ jb m p))),(10,.ptr 1 8 0 0),(11,.own 4 1 0 2),(12,.i6 ((i:Nat):Int))],Wm m w XS XT XD XF (4*SZ jb+1000) (EJ jb) (fI m (fr m p) w b i)⟩:=by
 have hlm:(m.bodies.map (aK 300)).length=m.bodies.length:=bH ..;have hlx:((List.range m.bodies.length).map (oJ jb m p)).length=m.bodies.length:=by simp
 intro j
 induction j with
 | zero=>
   intro i hij;have hi:i=m.bodies.length:=by omega
   subst hi;obtain⟨l1,l2⟩:=mC (m:=m) (F:=fr m p) (w:=w) (b:=b) m.bodies.length;exact gN sA [8] [(42,ff)] (.a1 (iF (show ¬ ((m.bodies.length:Int)<((m.bodies.map (aK 300)).length:Int)) by rw[hlm];omega))) (RH (some ⟨48,5,false,[[.list 34 (m.bodies.map (aK 300)),.list 22 XS,.list 22 XT,.list 17 XD,.list 6 XF]],none⟩) (some ⟨68,8,false,[(hG (4*SZ jb+1000) w)],none⟩) l1 l2)
 | succ j ih=>
   intro i hij;have hi:i<m.bodies.length:=by omega
   obtain⟨l1,l2⟩:=mC (m:=m) (F:=fr m p) (w:=w) (b:=b) i;have r2:((i:Nat):Int)<(((m.bodies.map (aK 300)).length:Nat):Int):=by rw[hlm];omega
   have hz:rz jb i<=SZ jb:=rz_le (by omega);have hE:EJ jb=6*SZ jb+1300:=rfl;have hS:SZ jb=17*jb+4880:=rfl;have key:=ih (i+1) (by omega);rw[mB] at key;have v2:b<((m.bodies.map (aK 300)).length:Int):=by rw[hlm];exact hb
   cases ht:tC m.bodies ((i:Nat):Int) (b.toNat+1) b with
   | true=>
     rw[if_pos ht] at key;have v0:Ref (.i6 (IntKind.i64.wrap ((2:Int)+(i:Int)))) (.i6 ((2+i:Nat):Int)):=(Ref.wr ⟨by show(-9223372036854775808:Int)<=_;omega,by show _<=(9223372036854775807:Int);omega⟩).trans (Ref.int (by omega));have v1:((2+i:Nat):Int)<(((m.bodies.length+2):Nat):Int):=by omega
     refine gR sA none [2,4,8,9,10,11,12] [0,1,2,3,4] [(42,tt),(48,tt),(52,.cptr [.rq (fr m p i).at_.x (fr m p i).at_.x.den (2*(rz jb i)+1),.rq (fr m p i).at_.z (fr m p i).at_.z.den (2*(rz jb i)+1),.rq (fr m p i).c (fr m p i).c.den ((rz jb i)+1),.rq (fr m p i).s (fr m p i).s.den ((rz jb i)+1)] 0),(55,.agg [.rq (⟨w.x-(fr m p i).at_.x,w.z-(fr m p i).at_.z⟩:PtD).x (⟨w.x-(fr m p i).at_.x,w.z-(fr m p i).at_.z⟩:PtD).x.den (EJ jb),.rq (⟨w.x-(fr m p i).at_.x,w.z-(fr m p i).at_.z⟩:PtD).z (⟨w.x-(fr m p i).at_.x,w.z-(fr m p i).at_.z⟩:PtD).z.den (EJ jb)]),(60,.i6 ((2+i:Nat):Int)),(63,.agg [.rq (-(⟨w.x-(fr m p i).at_.x,w.z-(fr m p i).at_.z⟩:PtD).z) (⟨w.x-(fr m p i).at_.x,w.z-(fr m p i).at_.z⟩:PtD).z.den (EJ jb)]),(69,.i6 ((2+i:Nat):Int)),(44,.i6 ((i+1:Nat):Int))] (.c6 (iT r2) (show Ref (.bool (tC ((m.bodies.map (aK 300)).map fW) (i:Int) (b.toNat+1) b)) (.bool true) from Ref.bool (show(tC ((m.bodies.map (aK 300)).map fW) (i:Int) (b.toNat+1) b)=true by rw[hre];exact ht)) hub hd v2 (show Ref (.cptr (((List.range m.bodies.length).map (oJ jb m p)).getD i []) 0) (.cptr [.rq (fr m p i).at_.x (fr m p i).at_.x.den (2*(rz jb i)+1),.rq (fr m p i).at_.z (fr m p i).at_.z.den (2*(rz jb i)+1),.rq (fr m p i).c (fr m p i).c.den ((rz jb i)+1),.rq (fr m p i).s (fr m p i).s.den ((rz jb i)+1)] 0) from Ref.eq (by rw[mQ,List.getElem?_map,List.getElem?_range hi];rfl)) (.c6 (nn i) (show(i:Int)<(((List.range m.bodies.length).map (oJ jb m p)).length:Int) by rw[hlx];omega) (show Ref (.agg [.rq (w.x-(fr m p i).at_.x) ((w.x-(fr m p i).at_.x).den) (max (4*SZ jb+1000) 64+max (2*(rz jb i)+1) 64+1),.rq (w.z-(fr m p i).at_.z) ((w.z-(fr m p i).at_.z).den) (max (4*SZ jb+1000) 64+max (2*(rz jb i)+1) 64+1)]) (.agg [.rq (⟨w.x-(fr m p i).at_.x,w.z-(fr m p i).at_.z⟩:PtD).x (⟨w.x-(fr m p i).at_.x,w.z-(fr m p i).at_.z⟩:PtD).x.den (EJ jb),.rq (⟨w.x-(fr m p i).at_.x,w.z-(fr m p i).at_.z⟩:PtD).z (⟨w.x-(fr m p i).at_.x,w.z-(fr m p i).at_.z⟩:PtD).z.den (EJ jb)]) from Ref.agg (RefC.cons (RefC.rq_le (by omega)) (RefC.rq_le (by omega)))) (rfl:w.x.den=w.x.den) (rfl:w.z.den=w.z.den) (rfl:(fr m p i).at_.x.den=(fr m p i).at_.x.den) (.c6 (rfl:(fr m p i).at_.z.den=(fr m p i).at_.z.den) (show 4*max (4*SZ jb+1000) 64+4*max (4*SZ jb+1000) 64+4*max (2*(rz jb i)+1) 64+4*max (2*(rz jb i)+1) 64+2000<=LIM by unfold LIM;omega) (dc (0<=(0:Int))) (dc ((0:Int)<2)) v0 (show Ref (.agg [.rq (-(⟨w.x-(fr m p i).at_.x,w.z-(fr m p i).at_.z⟩:PtD).z) (⟨w.x-(fr m p i).at_.x,w.z-(fr m p i).at_.z⟩:PtD).z.den (max (EJ jb) 64)]) (.agg [.rq (-(⟨w.x-(fr m p i).at_.x,w.z-(fr m p i).at_.z⟩:PtD).z) (⟨w.x-(fr m p i).at_.x,w.z-(fr m p i).at_.z⟩:PtD).z.den (EJ jb)]) from Ref.agg (RefC.rq_le (by omega))) (.c6 (rfl:(⟨w.x-(fr m p i).at_.x,w.z-(fr m p i).at_.z⟩:PtD).z.den=(⟨w.x-(fr m p i).at_.x,w.z-(fr m p i).at_.z⟩:PtD).z.den) (nn (2+i)) v1 (show 0+(2+i)<(((fI m (fr m p) w b i).1).map (dB (EJ jb))).length by rw[bH,l1];omega) (dc (0<=(1:Int))) (dc ((1:Int)<2)) (.a5 v0 (nn (2+i)) v1 (show 0+(2+i)<(((fI m (fr m p) w b i).2).map (dB (EJ jb))).length by rw[bH,l2];omega) (wI ((i:Int)+(1:Int)) ((i+1:Nat):Int))))))) (t:=VG) (σ:=slots 74 [(2,.i6 b),(4,.ptr 0 5 0 0),(9,.list 16 ((List.range m.bodies.length).map (oJ jb m p))),(10,.ptr 1 8 0 0),(11,.own 4 1 0 2),(12,.i6 ((i+1:Nat):Int))]) (h:=[some ⟨48,5,false,[[.list 34 (m.bodies.map (aK 300)),.list 22 XS,.list 22 XT,.list 17 XD,.list 6 XF]],none⟩,some ⟨68,8,false,[(hG (4*SZ jb+1000) w)],none⟩,some ⟨66,4,true,((((fI m (fr m p) w b i).1).map (dB (EJ jb))).set (0+(2+i)) [.rq (-(⟨w.x-(fr m p i).at_.x,w.z-(fr m p i).at_.z⟩:PtD).z) (⟨w.x-(fr m p i).at_.x,w.z-(fr m p i).at_.z⟩:PtD).z.den (EJ jb)]),none⟩,some ⟨66,4,true,((((fI m (fr m p) w b i).2).map (dB (EJ jb))).set (0+(2+i)) [.rq (⟨w.x-(fr m p i).at_.x,w.z-(fr m p i).at_.z⟩:PtD).x (⟨w.x-(fr m p i).at_.x,w.z-(fr m p i).at_.z⟩:PtD).x.den (EJ jb)]),none⟩,some ⟨69,1,false,[[.own 2 4 0 (m.bodies.length+2)],[.own 3 4 0 (m.bodies.length+2)]],none⟩]) ?_
     rw[DY,DY];exact key
   | false=>
     rw[if_neg (by rw[ht];decide)] at key;exact gR sA none [2,4,8,9,10,11,12] [0,1,2,3,4] [(42,tt),(48,ff),(44,.i6 ((i+1:Nat):Int))] (.a6 (iT r2) (show Ref (.bool (tC ((m.bodies.map (aK 300)).map fW) (i:Int) (b.toNat+1) b)) (.bool false) from Ref.bool (show(tC ((m.bodies.map (aK 300)).map fW) (i:Int) (b.toNat+1) b)=false by rw[hre];exact ht)) hub hd v2 (wI ((i:Int)+(1:Int)) ((i+1:Nat):Int))) key
end
def VH:KF
 | [.agg [.list 34 XB,.list 22 XS,.list 22 XT,.list 17 XD,.list 6 XF],.agg [.rq ax d1 jb,.rq az d2 A2,.rq tu d3 A3,.list 4 J],.int .i64 b,.agg [.rq px d X,.rq pz e Z]]=>some (.list 1 (zQ jb (mR XB) ⟨⟨ax,az⟩,tu,J.map fX⟩ b ⟨px,pz⟩),[XB=(XB.map fW).map (aK 300),d1=ax.den,d2=az.den,d3=tu.den,A2=jb,A3=jb,J=(J.map fX).map (dL jb),jb<=100000,Co jb (mR XB) ⟨⟨ax,az⟩,tu,J.map fX⟩,(mR XB).tree,0<XB.length,XB.length<=8,J.length+1=XB.length,d=px.den,e=pz.den,X=300,Z=300,rX (XB.map fW),0<=b,b<((XB.length:Nat):Int)])
 | _=>none
theorem Wn:bQ 51 VH:=fun args r ob h ho=>by
 unfold VH at h
 split at h
 · rename_i XB XS XT XD XF ax d1 jb az d2 A2 tu d3 A3 J b px d X pz e Z
   cases h;have o1:XB=(XB.map fW).map (aK 300):=ho _ (by simp);have o2:d1=ax.den:=ho _ (by simp);have o3:d2=az.den:=ho _ (by simp);have o4:d3=tu.den:=ho _ (by simp);have o5:A2=jb:=ho _ (by simp);have o6:A3=jb:=ho _ (by simp);have o7:J=(J.map fX).map (dL jb):=ho _ (by simp);have o8:jb<=100000:=ho _ (by simp);have o9:Co jb (mR XB) ⟨⟨ax,az⟩,tu,J.map fX⟩:=ho _ (by simp);have o10:(mR XB).tree:=ho _ (by simp);have o11:0<XB.length:=ho _ (by simp);have o12:XB.length<=8:=ho _ (by simp);have o13:J.length+1=XB.length:=ho _ (by simp);have o14:d=px.den:=ho _ (by simp);have o15:e=pz.den:=ho _ (by simp);have o16:X=300:=ho _ (by simp);have o17:Z=300:=ho _ (by simp);have o18:rX (XB.map fW):=ho _ (by simp);have o19:0<=b:=ho _ (by simp);have o20:b<((XB.length:Nat):Int):=ho _ (by simp);clear ho;subst o2;subst o3;subst o4;subst o5;subst o6;subst o14;subst o15;subst o16;subst o17;have q9:=o9;have q10:=o10;obtain⟨m,hm⟩:∃ m,m=mR XB:=⟨_,rfl⟩;obtain⟨p,hp⟩:∃ p:PoseD,p=⟨⟨ax,az⟩,tu,J.map fX⟩:=⟨_,rfl⟩;have hb:XB.map fW=m.bodies:=by rw[hm];rfl
   have hX:XB=m.bodies.map (aK 300):=by rw[<- hb];exact o1
   have hl:XB.length=m.bodies.length:=by rw[<- hb];simp
   rw[<- hm] at o9 o10 ⊢;rw[<- hp] at o9 ⊢;rw[hl] at o20;have hi:b.toNat<m.bodies.length:=by omega
   have hz:rz A3 b.toNat<=SZ A3:=rz_le (by omega);have hE:EJ A3=6*SZ A3+1300:=rfl;have hS:SZ A3=17*A3+4880:=rfl;refine af Tryz.f51 fun S w0=> ?_
   have ent:kC [.agg [.list 34 XB,.list 22 XS,.list 22 XT,.list 17 XD,.list 6 XF],.agg [.rq ax ax.den A3,.rq az az.den A3,.rq tu tu.den A3,.list 4 J],.i6 b,.agg [.rq px px.den 300,.rq pz pz.den 300]] Tryz.f51.ntmps=⟨slots 74 [(0,.agg [.list 34 XB,.list 22 XS,.list 22 XT,.list 17 XD,.list 6 XF]),(1,.agg [.rq ax ax.den A3,.rq az az.den A3,.rq tu tu.den A3,.list 4 J]),(2,.i6 b),(3,.agg [.rq px px.den 300,.rq pz pz.den 300])],[]⟩:=by kernel_rfl
   rw[ent];clear ent;obtain⟨w,hw⟩:∃ w,w=eQ (fr m p b.toNat) ⟨px,pz⟩:=⟨_,rfl⟩;refine gR sA (some 3) [2,4,9,10] [0,5] [(16,.list 16 ((List.range m.bodies.length).map (oJ A3 m p))),(19,.cptr [.rq (fr m p b.toNat).at_.x (fr m p b.toNat).at_.x.den (2*(rz A3 b.toNat)+1),.rq (fr m p b.toNat).at_.z (fr m p b.toNat).at_.z.den (2*(rz A3 b.toNat)+1),.rq (fr m p b.toNat).c (fr m p b.toNat).c.den ((rz A3 b.toNat)+1),.rq (fr m p b.toNat).s (fr m p b.toNat).s.den ((rz A3 b.toNat)+1)] 0),(22,.agg (hG (4*SZ A3+1000) w))] (.c6 (show Ref (.list 16 ((List.range XB.length).map (oJ A3 (mR XB) ⟨⟨(⟨⟨ax,az⟩,tu,J.map fX⟩:PoseD).at_.x,(⟨⟨ax,az⟩,tu,J.map fX⟩:PoseD).at_.z⟩,(⟨⟨ax,az⟩,tu,J.map fX⟩:PoseD).turn,J.map fX⟩))) (.list 16 ((List.range m.bodies.length).map (oJ A3 m p))) from Ref.eq (by rw[hl,hm,hp])) o1 (rfl:(⟨⟨ax,az⟩,tu,J.map fX⟩:PoseD).at_.x.den=(⟨⟨ax,az⟩,tu,J.map fX⟩:PoseD).at_.x.den) (rfl:(⟨⟨ax,az⟩,tu,J.map fX⟩:PoseD).at_.z.den=(⟨⟨ax,az⟩,tu,J.map fX⟩:PoseD).at_.z.den) (rfl:(⟨⟨ax,az⟩,tu,J.map fX⟩:PoseD).turn.den=(⟨⟨ax,az⟩,tu,J.map fX⟩:PoseD).turn.den) (rfl:A3=A3) (.c6 (rfl:A3=A3) o7 o8 q9 q10 o11 (.c6 o12 o13 (show Ref (.cptr (((List.range m.bodies.length).map (oJ A3 m p)).getD b.toNat []) 0) (.cptr [.rq (fr m p b.toNat).at_.x (fr m p b.toNat).at_.x.den (2*(rz A3 b.toNat)+1),.rq (fr m p b.toNat).at_.z (fr m p b.toNat).at_.z.den (2*(rz A3 b.toNat)+1),.rq (fr m p b.toNat).c (fr m p b.toNat).c.den ((rz A3 b.toNat)+1),.rq (fr m p b.toNat).s (fr m p b.toNat).s.den ((rz A3 b.toNat)+1)] 0) from Ref.eq (by rw[mQ,List.getElem?_map,List.getElem?_range hi];rfl)) o19 (show b<(((List.range m.bodies.length).map (oJ A3 m p)).length:Int) by simpa using o20) (show Ref (.agg [.rq ((fr m p b.toNat).at_.x+((fr m p b.toNat).c*(⟨px,pz⟩:PtD).x-(fr m p b.toNat).s*(⟨px,pz⟩:PtD).z)) (((fr m p b.toNat).at_.x+((fr m p b.toNat).c*(⟨px,pz⟩:PtD).x-(fr m p b.toNat).s*(⟨px,pz⟩:PtD).z)).den) (max (2*(rz A3 b.toNat)+1) 64+max 300 64+max 300 64+max ((rz A3 b.toNat)+1) 64+max ((rz A3 b.toNat)+1) 64+1+1),.rq ((fr m p b.toNat).at_.z+((fr m p b.toNat).s*(⟨px,pz⟩:PtD).x+(fr m p b.toNat).c*(⟨px,pz⟩:PtD).z)) (((fr m p b.toNat).at_.z+((fr m p b.toNat).s*(⟨px,pz⟩:PtD).x+(fr m p b.toNat).c*(⟨px,pz⟩:PtD).z)).den) (max (2*(rz A3 b.toNat)+1) 64+max 300 64+max 300 64+max ((rz A3 b.toNat)+1) 64+max ((rz A3 b.toNat)+1) 64+1+1)]) (.agg (hG (4*SZ A3+1000) w)) from Ref.agg (by rw[hw];exact RefC.cons (RefC.rq_le (by omega)) (RefC.rq_le (by omega)))) (.c6 (rfl:(fr m p b.toNat).at_.x.den=(fr m p b.toNat).at_.x.den) (rfl:(fr m p b.toNat).at_.z.den=(fr m p b.toNat).at_.z.den) (rfl:(fr m p b.toNat).c.den=(fr m p b.toNat).c.den) (rfl:(fr m p b.toNat).s.den=(fr m p b.toNat).s.den) (rfl:(⟨px,pz⟩:PtD).x.den=(⟨px,pz⟩:PtD).x.den) (rfl:(⟨px,pz⟩:PtD).z.den=(⟨px,pz⟩:PtD).z.den) (.a1 (show 8*max 300 64+8*max 300 64+8*max ((rz A3 b.toNat)+1) 64+8*max ((rz A3 b.toNat)+1) 64+8*max (2*(rz A3 b.toNat)+1) 64+8*max (2*(rz A3 b.toNat)+1) 64+2000<=LIM by unfold LIM;omega)))))) (t:=[.code (aN [1,1,1,0] (aA Tryz.f51)),.code (aN [1,1,1,1] (aA Tryz.f51))]) (σ:=slots 74 [(2,.i6 b),(4,.ptr 0 5 0 0),(9,.list 16 ((List.range m.bodies.length).map (oJ A3 m p))),(10,.ptr 1 8 0 0)]) (h:=[some ⟨48,5,false,[[.list 34 XB,.list 22 XS,.list 22 XT,.list 17 XD,.list 6 XF]],none⟩,some ⟨68,8,false,[(hG (4*SZ A3+1000) w)],none⟩]) ?_
   refine RG XB XS XT XD XF _ b w (4*SZ A3+1000) (m.bodies.length+2) (by omega) (by omega) ?_;refine Good.pk 74 [(2,.i6 b),(4,.ptr 0 5 0 0),(9,.list 16 ((List.range m.bodies.length).map (oJ A3 m p))),(10,.ptr 1 8 0 0),(11,.own 4 1 0 2)] ?_;refine KY XB XS XT XD XF _ b w (4*SZ A3+1000) (m.bodies.length+2) ⟨by omega,by simp,by omega,by simp⟩ ?_;refine Good.weakBL 2 (els:=(IU (m.bodies.length+2) 0).map (dB (EJ A3))) rfl (by simp) (fun i el el' h1 h2=>Cb i el el' h1 h2 (by omega)) ?_;refine Good.weakBL 3 (els:=(IU (m.bodies.length+2) 1).map (dB (EJ A3))) rfl (by simp) (fun i el el' h1 h2=>Cb i el el' h1 h2 (by omega)) ?_;rw[hX];have fin:=Nz (S:=S) (w0:=w0) (m:=m) (p:=p) (XS:=XS) (XT:=XT) (XD:=XD) (XF:=XF) (jb:=A3) (b:=b) (w:=w) o8 (by rw[<- hX];exact o1) (fun i n=>by rw[<- hX,hb]) (by rw[<- hX];exact o18) (by omega) (by omega) m.bodies.length 0 (Nat.zero_add _);rw[hw] at fin ⊢;exact fin
 · cases h
end Go.Av
namespace Go.Av
open Go.RowKit
section
variable {m:MachD} {F:Nat->FrameD} {X:PtD}
theorem AO {α:Type} {l:List α} {i j:Nat} {v:α} (h:i<l.length):(l.set i v)[j]? =if i=j then some v else l[j]? :=by
 rw[List.getElem?_set]
 by_cases e:i=j
 · rw[if_pos e,if_pos e,if_pos h]
 · rw[if_neg e,if_neg e]
theorem LL:∀ (n:Nat) (b:Int) (Y Z:List Rat) (k:Nat),k<2->(dH m F X n b Y Z).1[k]? =Y[k]? /\(dH m F X n b Y Z).2[k]? =Z[k]?
 | 0,b,Y,Z,k,hk=>⟨rfl,rfl⟩
 | n +1,b,Y,Z,k,hk=>by
   unfold dH
   split
   · rename_i h0
     have hne:¬ ((2:Int)+b).toNat=k:=by omega
     obtain⟨h1,h2⟩:=LL n (m.bodies.getD b.toNat default).par (Y.set ((2:Int)+b).toNat (-(X.z-(F b.toNat).at_.z))) (Z.set ((2:Int)+b).toNat (X.x-(F b.toNat).at_.x)) k hk;rw[h1,h2,List.getElem?_set_ne hne,List.getElem?_set_ne hne];exact⟨rfl,rfl⟩
   · exact⟨rfl,rfl⟩
theorem LM {a:Nat} (ha:a<m.bodies.length):∀ (n:Nat) (b:Int) (Y Z:List Rat),Y.length=m.bodies.length+2->Z.length=m.bodies.length+2->
   (dH m F X n b Y Z).1[2+a]? =(if tC m.bodies ((a:Nat):Int) n b=true then some (-(X.z-(F a).at_.z)) else Y[2+a]?)/\
   (dH m F X n b Y Z).2[2+a]? =(if tC m.bodies ((a:Nat):Int) n b=true then some (X.x-(F a).at_.x) else Z[2+a]?)
 | 0,b,Y,Z,hY,hZ=>⟨rfl,rfl⟩
 | n + 1,b,Y,Z,hY,hZ=>by
   unfold dH tC
   by_cases h0:0<=b
   · rw[if_pos h0,if_pos h0]
     obtain⟨h1,h2⟩:=LM ha n (m.bodies.getD b.toNat default).par (Y.set ((2:Int)+b).toNat (-(X.z-(F b.toNat).at_.z))) (Z.set ((2:Int)+b).toNat (X.x-(F b.toNat).at_.x)) (by simpa using hY) (by simpa using hZ);rw[h1,h2]
     by_cases e:b=((a:Nat):Int)
     · subst e
       rw[if_pos rfl,if_pos rfl,show((2:Int)+((a:Nat):Int)).toNat=2+a by omega,AO (by omega),AO (by omega),if_pos rfl,if_pos rfl,Int.toNat_natCast];constructor <;> split <;> rfl
     · have hne:¬ ((2:Int)+b).toNat=2+a:=by omega
       rw[if_neg e,List.getElem?_set_ne hne,List.getElem?_set_ne hne];exact⟨rfl,rfl⟩
   · rw[if_neg h0,if_neg h0];exact⟨rfl,rfl⟩
theorem Iv {b:Int} {k:Nat} (hk:k<2):∀ i,(fI m F X b i).1[k]? =(IU (m.bodies.length+2) 0)[k]? /\(fI m F X b i).2[k]? =(IU (m.bodies.length+2) 1)[k]?
 | 0=>⟨rfl,rfl⟩
 | i +1=>by
   obtain⟨h1,h2⟩:=Iv (b:=b) hk i;rw[mB]
   split
   · have hne:¬ 2+i=k:=by omega
     simp only;rw[List.getElem?_set_ne hne,List.getElem?_set_ne hne];exact⟨h1,h2⟩
   · exact⟨h1,h2⟩
theorem Iw {b:Int} {a:Nat} (ha:a<m.bodies.length):∀ i,i<=m.bodies.length->
   (fI m F X b i).1[2+a]? =(if a<i/\tC m.bodies ((a:Nat):Int) (b.toNat+1) b=true then some (-(X.z-(F a).at_.z),(X.z-(F a).at_.z).den) else (IU (m.bodies.length+2) 0)[2+a]?)/\
   (fI m F X b i).2[2+a]? =(if a<i/\tC m.bodies ((a:Nat):Int) (b.toNat+1) b=true then some (X.x-(F a).at_.x,(X.x-(F a).at_.x).den) else (IU (m.bodies.length+2) 1)[2+a]?)
 | 0,_=>⟨(if_neg (by omega)).symm,(if_neg (by omega)).symm⟩
 | i + 1,hi=>by
   obtain⟨h1,h2⟩:=Iw (b:=b) ha i (by omega);obtain⟨l1,l2⟩:=mC (m:=m) (F:=F) (w:=X) (b:=b) i;rw[mB]
   by_cases ht:tC m.bodies ((i:Nat):Int) (b.toNat+1) b=true
   · rw[if_pos ht]
     simp only;rw[AO (l:=(fI m F X b i).1) (by omega),AO (l:=(fI m F X b i).2) (by omega)]
     by_cases e:2+i=2+a
     · have e2:i=a:=by omega
       subst e2;rw[if_pos rfl,if_pos rfl,if_pos ⟨by omega,ht⟩,if_pos ⟨by omega,ht⟩];exact⟨rfl,rfl⟩
     · rw[if_neg e,if_neg e,h1,h2]
       have:(a<i/\tC m.bodies ((a:Nat):Int) (b.toNat+1) b=true)↔(a<i+1/\tC m.bodies ((a:Nat):Int) (b.toNat+1) b=true):=⟨fun h=>⟨by omega,h.2⟩,fun h=>⟨by omega,h.2⟩⟩;simp only[this];exact⟨trivial,trivial⟩
   · rw[if_neg ht,h1,h2]
     have:(a<i/\tC m.bodies ((a:Nat):Int) (b.toNat+1) b=true)↔(a<i+1/\tC m.bodies ((a:Nat):Int) (b.toNat+1) b=true):=⟨fun h=>⟨by omega,h.2⟩,fun h=>⟨by
       by_cases e:a=i
       · subst e;exact absurd h.2 ht
       · omega,h.2⟩⟩
     simp only[this];exact⟨trivial,trivial⟩
theorem uV {n j:Nat}:(IU n j).map (·.1)=(List.replicate n (0:Rat)).set j 1:=by
 rw[List.map_set,List.map_replicate]
theorem Ix (b:Int):(dH m F X (b.toNat+1) b ((List.replicate (m.bodies.length+2) 0).set 0 1) ((List.replicate (m.bodies.length+2) 0).set 1 1)).1=(fI m F X b m.bodies.length).1.map (·.1)/\
   (dH m F X (b.toNat+1) b ((List.replicate (m.bodies.length+2) 0).set 0 1) ((List.replicate (m.bodies.length+2) 0).set 1 1)).2=(fI m F X b m.bodies.length).2.map (·.1):=by
 obtain⟨l1,l2⟩:=tH m F X (b.toNat+1) b ((List.replicate (m.bodies.length+2) 0).set 0 1) ((List.replicate (m.bodies.length+2) 0).set 1 1);obtain⟨r1,r2⟩:=mC (m:=m) (F:=F) (w:=X) (b:=b) m.bodies.length;simp only[List.length_set,List.length_replicate] at l1 l2
 have key:∀ k:Nat,(dH m F X (b.toNat+1) b ((List.replicate (m.bodies.length+2) 0).set 0 1) ((List.replicate (m.bodies.length+2) 0).set 1 1)).1[k]? =((fI m F X b m.bodies.length).1.map (·.1))[k]? /\
     (dH m F X (b.toNat+1) b ((List.replicate (m.bodies.length+2) 0).set 0 1) ((List.replicate (m.bodies.length+2) 0).set 1 1)).2[k]? =((fI m F X b m.bodies.length).2.map (·.1))[k]? :=by
   intro k;rw[List.getElem?_map,List.getElem?_map]
   by_cases h1:k<2
   · obtain⟨a1,a2⟩:=LL (m:=m) (F:=F) (X:=X) (b.toNat+1) b ((List.replicate (m.bodies.length+2) 0).set 0 1) ((List.replicate (m.bodies.length+2) 0).set 1 1) k h1
     obtain⟨b1,b2⟩:=Iv (m:=m) (F:=F) (X:=X) (b:=b) h1 m.bodies.length;rw[a1,a2,b1,b2, <- List.getElem?_map, <- List.getElem?_map,uV,uV];exact⟨rfl,rfl⟩
   · by_cases h2:k<m.bodies.length+2
     · obtain⟨a,rfl⟩:∃ a,k=2+a:=⟨k-2,by omega⟩
       have ha:a<m.bodies.length:=by omega
       obtain⟨a1,a2⟩:=LM (m:=m) (F:=F) (X:=X) ha (b.toNat+1) b ((List.replicate (m.bodies.length+2) 0).set 0 1) ((List.replicate (m.bodies.length+2) 0).set 1 1) (by simp) (by simp);obtain⟨b1,b2⟩:=Iw (m:=m) (F:=F) (X:=X) (b:=b) ha m.bodies.length (rl _);rw[a1,a2,b1,b2]
       by_cases ht:tC m.bodies ((a:Nat):Int) (b.toNat+1) b=true
       · rw[if_pos ht,if_pos ht,if_pos ⟨ha,ht⟩,if_pos ⟨ha,ht⟩];exact⟨rfl,rfl⟩
       · rw[if_neg ht,if_neg ht,if_neg (fun h=>ht h.2),if_neg (fun h=>ht h.2), <- List.getElem?_map, <- List.getElem?_map,uV,uV];exact⟨rfl,rfl⟩
     · rw[List.getElem?_eq_none (by omega),List.getElem?_eq_none (by omega),List.getElem?_eq_none (by omega),List.getElem?_eq_none (by omega)];exact⟨rfl,rfl⟩
 exact⟨List.ext_getElem? fun k=>(key k).1,List.ext_getElem? fun k=>(key k).2⟩
end
end Go.Av
namespace Go.Av
open Go.Proofs Go.RowKit
def xP:List AV->Rat×Nat
 | [.rq x d _]=>(x,d)
 | _=>(0,0)
def zR:List (List AV)->Nat
 | [.q _ X]::_=>X
 | [.rq _ _ X]::_=>X
 | _=>0
theorem NA {X:Nat} (xs:List Rat):xs.map (bG X)=xs.map (bG (zR (xs.map (bG X)))):=by
 cases xs <;> rfl
theorem KZ {X:Nat} (ys:List (Rat×Nat)):ys.map (dB X)=ys.map (dB (zR (ys.map (dB X)))):=by
 cases ys <;> rfl
theorem NB {X:Nat} (xs:List Rat):zR (xs.map (bG X))<=X:=by cases xs <;> simp[zR,bG]
theorem La {X:Nat} (ys:List (Rat×Nat)):zR (ys.map (dB X))<=X:=by cases ys <;> simp[zR,dB]
theorem AP {X:Nat} (ys:List (Rat×Nat)):(ys.map (dB X)).map xP=ys:=kM (fun v=>rfl) ys
section
variable {S:Nat->Prop} {w0:World} {ys:List (Rat×Nat)} {X Z:Nat}
noncomputable abbrev Uw:List Item:=[.code (aN [1,1,0,1,0,0] (aA Tryz.f142)),.inLoop (aN [1,1,0,1,0,0] (aA Tryz.f142)),.inBlock 0,.code (aN [1,1,1] (aA Tryz.f142))]
theorem Lb (h1:X+100<=LIM) (h2:Z+100<=LIM) (hl:ys.length<=1000000):∀ (j i:Nat),i+j=ys.length->
   GF 142 S w0 (.bool true) Uw ⟨slots 27 [(0,.list 3 (ys.map fun p=>bG X p.1)),(1,.list 4 (ys.map (dB Z))),(5,.i6 ((i:Nat):Int))],[]⟩:=by
 have l1:(ys.map fun p=>bG X p.1).length=ys.length:=bH ..;have l2:(ys.map (dB Z)).length=ys.length:=bH ..;intro j
 induction j with
 | zero=>
   intro i hij;refine rF xN [(14,ff)] (.a1 (iF (show ¬ ((i:Int)<((ys.map fun p=>bG X p.1).length:Int)) by rw[l1];omega))) (V:=.bool true) rr
 | succ j ih=>
   intro i hij;have hi:i<ys.length:=by omega
   have v0:(i:Int)<((ys.map fun p=>bG X p.1).length:Int):=by rw[l1];omega
   exact gR xN none [0,1,5] [] [(14,tt),(19,.cptr [.q (ys.getD i default).1 X] 0),(23,.cptr [.rq (ys.getD i default).1 (ys.getD i default).2 Z] 0),(16,.i6 ((i+1:Nat):Int))] (.c6 (iT v0) (show Ref (.cptr ((ys.map fun p=>bG X p.1).getD i []) 0) (.cptr [.q (ys.getD i default).1 X] 0) from Ref.cmap (f:=fun p=>bG X p.1) hi) (nn i) v0 (show Ref (.cptr ((ys.map (dB Z)).getD i []) 0) (.cptr [.rq (ys.getD i default).1 (ys.getD i default).2 Z] 0) from Ref.cmap (f:=dB Z) hi) (nn i) (.a5 (show(i:Int)<((ys.map (dB Z)).length:Int) by rw[l2];omega) (rfl:(ys.getD i default).1=(ys.getD i default).1) h1 h2 (wI ((i:Int)+(1:Int)) ((i+1:Nat):Int)))) (ih (i+1) (by omega))
end
def RI:KF
 | [.list 3 L,.list 4 M]=>some (.bool true,[L=(L.map gM).map (bG (zR L)),M=(M.map xP).map (dB (zR M)),L.map gM=(M.map xP).map (·.1),zR L+100<=LIM,zR M+100<=LIM,(M.map xP).length<=1000000])
 | _=>none
theorem Ux:bQ 142 RI:=fun args r ob h ho=>by
 unfold RI at h
 split at h
 · rename_i L M
   cases h;have o1:L=(L.map gM).map (bG (zR L)):=ho _ (by simp);have o2:M=(M.map xP).map (dB (zR M)):=ho _ (by simp);have o3:L.map gM=(M.map xP).map (·.1):=ho _ (by simp);have o4:zR L+100<=LIM:=ho _ (by simp);have o5:zR M+100<=LIM:=ho _ (by simp);have o6:(M.map xP).length<=1000000:=ho _ (by simp);clear ho;rw[o3,List.map_map] at o1;clear o3;generalize M.map xP=ys at*;generalize zR L=X at*;generalize zR M=Z at*;subst o1;subst o2;refine af Tryz.f142 fun S w0=> ?_
   have e:kC [AV.list 3 (ys.map fun p=>bG X p.1),AV.list 4 (ys.map (dB Z))] Tryz.f142.ntmps=⟨slots 27 [(0,.list 3 (ys.map fun p=>bG X p.1)),(1,.list 4 (ys.map (dB Z)))],[]⟩:=by kernel_rfl
   show Good _ _ _ _ _ _ _ (kC [AV.list 3 (ys.map fun p=>bG X p.1),AV.list 4 (ys.map (dB Z))] Tryz.f142.ntmps);rw[e];exact gN xN [0,1,5] [(10,ff)] (.a1 (jF (show((ys.map fun p=>bG X p.1).length:Int)=((ys.map (dB Z)).length:Int) by simp))) (Lb o4 o5 o6 ys.length 0 (Nat.zero_add _))
 · cases h
def uW:=kn.cons Ux
noncomputable abbrev Iy:List Item:=[.code (aN [1,1,0,1,0,0] (aA Tryz.f50)),.inLoop (aN [1,1,0,1,0,0] (aA Tryz.f50)),.inBlock 0,.code (aN [1,1,1] (aA Tryz.f50))]
def sB (A C:List (List AV)):Prop:=A=(A.map gM).map (bG (zR A))/\C=(C.map xP).map (dB (zR C))/\A.map gM=(C.map xP).map (·.1)/\zR A+100<=LIM/\zR C+100<=LIM/\(C.map xP).length<=1000000
def VI:KF
 | [.list 1 [[.list 3 A],[.list 3 B]],.list 1 [[.list 4 C],[.list 4 D]]]=>some (.bool true,[sB A C,sB B D])
 | _=>none
theorem Wo:bQ 50 VI:=fun args r ob h ho=>by
 unfold VI at h
 split at h
 · rename_i A B C D
   cases h;obtain⟨a1,a2,a3,a4,a5,a6⟩:sB A C:=ho _ (by simp);obtain⟨b1,b2,b3,b4,b5,b6⟩:sB B D:=ho _ (by simp);refine af Tryz.f50 fun S w0=> ?_
   have e:kC [AV.list 1 [[.list 3 A],[.list 3 B]],AV.list 1 [[.list 4 C],[.list 4 D]]] Tryz.f50.ntmps=⟨slots 27 [(0,.list 1 [[.list 3 A],[.list 3 B]]),(1,.list 1 [[.list 4 C],[.list 4 D]])],[]⟩:=by kernel_rfl
   rw[e];refine gN uW [0,1,5] [] .nil (t:=Iy) (σ:=slots 27 [(0,.list 1 [[.list 3 A],[.list 3 B]]),(1,.list 1 [[.list 4 C],[.list 4 D]]),(5,.i6 (0:Int))]) (h:=[]) ?_
   refine gR uW none [0,1,5] [] [(19,.cptr [.list 3 A] 0),(23,.cptr [.list 4 C] 0)] (.c6 (show Ref (.cptr [.list 3 A] 0) (.cptr [.list 3 A] 0) from rr) (dc (0<=(0:Int))) (dc ((0:Int)<2)) (show Ref (.cptr [.list 4 C] 0) (.cptr [.list 4 C] 0) from rr) (dc (0<=(0:Int))) (dc ((0:Int)<2)) (.a6 a1 a2 a3 a4 a5 a6)) (t:=Iy) (σ:=slots 27 [(0,.list 1 [[.list 3 A],[.list 3 B]]),(1,.list 1 [[.list 4 C],[.list 4 D]]),(5,.i6 1)]) (h:=[]) ?_
   refine gR uW none [0,1,5] [] [(19,.cptr [.list 3 B] 0),(23,.cptr [.list 4 D] 0)] (.c6 (show Ref (.cptr [.list 3 B] 0) (.cptr [.list 3 B] 0) from rr) (dc (0<=(1:Int))) (dc ((1:Int)<2)) (show Ref (.cptr [.list 4 D] 0) (.cptr [.list 4 D] 0) from rr) (dc (0<=(1:Int))) (dc ((1:Int)<2)) (.a6 b1 b2 b3 b4 b5 b6)) (t:=Iy) (σ:=slots 27 [(0,.list 1 [[.list 3 A],[.list 3 B]]),(1,.list 1 [[.list 4 C],[.list 4 D]]),(5,.i6 2)]) (h:=[]) ?_
   refine rF uW [] .nil (V:=.bool true) rr
 · cases h
def xQ:=kn.cons Fr
def oM (l:List BodyD):Nat->Rat
 | 0=>0
 | i+1=>oM l i+(l.getD i default).ma
def RJ:KF
 | [.cptr [.str mn,.list 27 XB,.list 17 XS,.list 17 XT,.list 13 XD,.list 5 XF,.list 12 XR] 0]=>some (.agg [.q (oM (XB.map reBody) XB.length) (302*XB.length)],[XB=(XB.map reBody).map (aE 300),XB.length<=1000])
 | _=>none
noncomputable abbrev NC:List Item:=[.code (aN [1,1,0,1,0,0] (aA Tryz.f242)),.inLoop (aN [1,1,0,1,0,0] (aA Tryz.f242)),.inBlock 0,.code (aN [1,1,1] (aA Tryz.f242))]
theorem Lc {S:Nat->Prop} {w0:World} {L:List BodyD} (hL:L.length<=1000):
   GF 242 S w0 (.agg [.q (oM L L.length) (302*L.length)]) NC ⟨slots 22 [(2,.ptr 0 3 0 0),(3,.ptr 1 3 0 0),(10,.list 27 (L.map (aE 300))),(11,.i6 ((L.length:Nat):Int)),(12,.i6 ((0:Nat):Int))],[some ⟨56,3,false,[[.q 0 0]],none⟩,some ⟨56,3,false,[[.q (oM L 0) (302*0)]],none⟩]⟩:=by
 refine qA (G:=fun i=>GF 242 S w0 (.agg [.q (oM L L.length) (302*L.length)]) NC ⟨slots 22 [(2,.ptr 0 3 0 0),(3,.ptr 1 3 0 0),(10,.list 27 (L.map (aE 300))),(11,.i6 ((L.length:Nat):Int)),(12,.i6 ((i:Nat):Int))],[some ⟨56,3,false,[[.q 0 0]],none⟩,some ⟨56,3,false,[[.q (oM L i) (302*i)]],none⟩]⟩) L.length ?_ ?_
 · exact rR xQ [(13,ff)] (.a1 (iF (om (¬ ((L.length:Int)<(L.length:Int))))))
 · intro i hi ih
   exact gR xQ none [2,3,10,11,12] [0,1] [(13,tt),(14,.cptr (aE 300 (L.getD i default)) 0),(20,.i6 ((i+1:Nat):Int))] (.a6 (iT (om ((i:Int)<(L.length:Int)))) (show Ref (.cptr ((L.map (aE 300)).getD i []) 0) (.cptr (aE 300 (L.getD i default)) 0) from Ref.cmap (f:=aE 300) hi) (nn i) (show(i:Int)<((L.map (aE 300)).length:Int) by rw[bH];omega) (show(302*i)+300+200<=LIM by unfold LIM;omega) (wI ((i:Int)+(1:Int)) ((i+1:Nat):Int))) ih
theorem Uy:bQ 242 RJ:=fun args r ob h ho=>by
 unfold RJ at h
 split at h
 · rename_i mn XB XS XT XD XF XR
   cases h;have o1:XB=(XB.map reBody).map (aE 300):=ho _ (by simp);have o2:XB.length<=1000:=ho _ (by simp);clear ho;obtain⟨L,hL⟩:∃ L,L=XB.map reBody:=⟨_,rfl⟩;have hl:XB.length=L.length:=by rw[hL];simp
   rw[<- hL] at o1 ⊢;rw[hl] at o2 ⊢;subst o1;clear hL;refine af Tryz.f242 fun S w0=> ?_
   refine gN xQ [0,2,3,10,11,12] [] .nil (t:=NC) (σ:=slots 22 [(0,.cptr [.str mn,.list 27 (L.map (aE 300)),.list 17 XS,.list 17 XT,.list 13 XD,.list 5 XF,.list 12 XR] 0),(2,.ptr 0 3 0 0),(3,.ptr 1 3 0 0),(10,.list 27 (L.map (aE 300))),(11,(.i6 ((L.map (aE 300)).length:Int))),(12,.i6 (0:Int))]) (h:=[some ⟨56,3,false,[[.q 0 0]],none⟩,some ⟨56,3,false,[[.q 0 0]],none⟩]) ?_
   rw[bH];refine Good.pk 22 [(2,.ptr 0 3 0 0),(3,.ptr 1 3 0 0),(10,.list 27 (L.map (aE 300))),(11,.i6 ((L.length:Nat):Int)),(12,.i6 ((0:Nat):Int))] ?_;exact Lc o2
 · cases h
theorem Cc {y:Rat} (h:Int.sign y.num=0):y=0:=Rat.num_eq_zero.1 (Int.sign_eq_zero_iff_zero.1 h)
def VJ:KF
 | [.agg [.q x B],.agg [.q y C]]=>some (.tup [.agg [.q (x/y) (B+C+2)],.int .i64 (if y=0 then 9 else 0)],[B+C+200<=LIM])
 | _=>none
theorem VK:bQ 27 VJ:=by
 refine cK Tryz.f27 fun _ _ _ S w0 h ho=> ?_
 unfold VJ at h;split at h <;> cases h;rename_i x B y C;have o1:=ho.one;have L:=dR;have K:=(kn.cons Kk).cons Cn
 by_cases h1:(Int.sign y.num)=(0:Int)
 · refine rF K [(8,tt)] (.a1 (iT h1)) (V:=.tup [.agg [.q 0 0],.i6 (9:Int)]) ?_
   have h:=(Cc (by assumption):y=0);subst h;exact Ref.tup2 (Ref.q1 (by rw[Rat.div_def,Rat.inv_zero,Rat.mul_zero]) (by omega)) (Ref.int (by simp)) rfl rfl rfl rfl
 · exact rF K [(8,ff)] (.a3 (iF h1) o1 (show y≠0 by exact fun h=>h1 (by rw[h];rfl))) (V:=.tup [.agg [.q (x/y) (B+C+2)],.i6 (0:Int)]) (Ref.tup2 rr (Ref.int (by rw[if_neg (fun h=>h1 (by rw[h];rfl))])) rfl rfl rfl rfl)
def nA (l:List BodyD) (b:Int):Rat:=(l.getD b.toNat default).ma/oM l l.length
def RK:KF
 | [.cptr [.str mn,.list 27 XB,.list 17 XS,.list 17 XT,.list 13 XD,.list 5 XF,.list 12 XR] 0,.int .i64 b]=>some (.agg [.q (nA (XB.map reBody) b) (302*XB.length+304)],[XB=(XB.map reBody).map (aE 300),XB.length<=1000,0<=b,b<((XB.length:Nat):Int)])
 | _=>none
theorem Uz:bQ 170 RK:=by
 refine cK Tryz.f170 fun _ _ _ S w0 h ho=> ?_
 unfold RK at h;split at h <;> cases h;rename_i mn XB XS XT XD XF XR b;obtain⟨o1,o2,o3,o4⟩:=ho.e4;have L:=dR;have K:=(kn.cons Uy).cons VK;obtain⟨L,hL⟩:∃ L,L=XB.map reBody:=⟨_,rfl⟩;have hl:XB.length=L.length:=by rw[hL];simp
 rw[<- hL] at o1 ⊢;rw[hl] at o2 o4 ⊢;subst o1;clear hL hl ho;obtain⟨v,hv⟩:∃ v,v=L.getD b.toNat default:=⟨_,rfl⟩;have hlm:(L.map (aE 300)).length=L.length:=bH ..;exact rF K [(14,.cptr (aE 300 v) 0),(18,.agg [.q (oM L L.length) (302*L.length)])] (.c6 (show Ref (.cptr ((L.map (aE 300)).getD b.toNat []) 0) (.cptr (aE 300 v) 0) by rw[hv];exact Ref.cmap (f:=aE 300) (by omega)) o3 (show b<((L.map (aE 300)).length:Int) by rw[hlm];omega) (show Ref (.agg [.q (oM ((L.map (aE 300)).map reBody) (L.map (aE 300)).length) (302*(L.map (aE 300)).length)]) (.agg [.q (oM L L.length) (302*L.length)]) from Ref.eq (by rw[iN,bH])) (show(L.map (aE 300))=((L.map (aE 300)).map reBody).map (aE 300) by rw[iN]) (show(L.map (aE 300)).length<=1000 by rw[hlm];omega) (.a1 (show 300+(302*L.length)+200<=LIM by unfold LIM;omega))) (V:=.agg [.q (v.ma/(oM L L.length)) (300+(302*L.length)+2)]) (Ref.q1 (by unfold nA;rw[hv]) (by omega))
def VL:KF
 | [.agg [.q px B,.q pz D],.agg [.q k C]]=>some (.agg [.q (px*k) (B+C+2),.q (pz*k) (D+C+2)],[B+D+C+300<=LIM])
 | _=>none
theorem Wp:bQ 62 VL:=by
 refine cK Tryz.f62 fun _ _ _ S w0 h ho=> ?_
 unfold VL at h;split at h <;> cases h;rename_i px B pz D k C;have o1:=ho.one;have L:=dR;have K:=kn.cons Fp;exact rR K [] (.a2 (om (B+C+200<=LIM)) (om (D+C+200<=LIM)))
def uX:=((((kn.cons Uz).cons Hn).cons Hz).cons Wp).cons Vy
def eI (m:MachD) (p:PoseD):Nat->PtD
 | 0=>⟨0,0⟩
 | i+1=>⟨(eI m p i).x+(eQ (fr m p i) (m.bodies.getD i default).c).x*nA m.bodies ((i:Nat):Int),(eI m p i).z+(eQ (fr m p i) (m.bodies.getD i default).c).z*nA m.bodies ((i:Nat):Int)⟩
def nB (m:MachD) (p:PoseD):PtD:=if bD m p.joints.length=0 then eI m p m.bodies.length else ⟨0,0⟩
def cB (jb n:Nat):Nat->Nat
 | 0=>0
 | i+1=>cB jb n i+(4*SZ jb+302*n+916)
theorem LN {jb n:Nat}:∀ {i:Nat},cB jb n i<=i*(4*SZ jb+302*n+916)
 | 0=>by simp[cB]
 | i+1=>by
   have:=LN (jb:=jb) (n:=n) (i:=i);rw[cB,Nat.add_mul];omega
theorem RL {jb n i:Nat} (hi:i<=8) (hn:n<=8):cB jb n i<=32*SZ jb+26656:=by
 have h1:=LN (jb:=jb) (n:=n) (i:=i);have h2:i*(4*SZ jb+302*n+916)<=8*(4*SZ jb+302*n+916):=Nat.mul_le_mul_right _ hi;omega
noncomputable abbrev SU:List Item:=[.code (aN [1,1,1,1,0,1,0,0] (aA Tryz.f66)),.inLoop (aN [1,1,1,1,0,1,0,0] (aA Tryz.f66)),.inBlock 0,.code (aN [1,1,1,1,1] (aA Tryz.f66))]
abbrev DZ (m:MachD) (jb:Nat) (p:PoseD):List AV:=[.str m.name,.list 27 (m.bodies.map (aE 300)),.list 17 (m.springs.map (aJ 300)),.list 17 (m.tendons.map (aJ 300)),.list 13 (m.motors.map (aP 300)),.list 5 (m.feet.map (aX 300)),.list 12 ((List.range m.bodies.length).map fun i=>dS (SZ jb) (fr m p i))]
abbrev Cd:ABlk:=⟨58,6,false,[[.q 0 0,.q 0 0]],none⟩
abbrev LO (m:MachD) (p:PoseD) (jb:Nat):ABlk:=⟨58,6,false,[[.q ((eI m p m.bodies.length).x) (cB jb m.bodies.length m.bodies.length),.q ((eI m p m.bodies.length).z) (cB jb m.bodies.length m.bodies.length)]],none⟩
abbrev LP (jb:Nat) (m:MachD) (p:PoseD):List (Nat×AV):=[(4,.ptr 0 6 0 0),(6,.cptr (yF jb m p) 0),(8,.ptr 1 6 0 0),(25,.list 27 (m.bodies.map (aE 300))),(26,.i6 ((m.bodies.length:Nat):Int)),(27,.i6 ((0:Nat):Int))]
abbrev LQ (m:MachD) (p:PoseD) (jb:Nat):AV:=(.tup [.agg [.q (eI m p m.bodies.length).x (32*SZ jb+26656),.q (eI m p m.bodies.length).z (32*SZ jb+26656)],.i6 0])
theorem ND {S:Nat->Prop} {w0:World} {m:MachD} {p:PoseD} {jb:Nat} (h8:m.bodies.length<=8) (hS:SZ jb<=153753600):
   GF 66 S w0 (LQ m p jb) SU ⟨slots 50 (LP jb m p),[some (Cd),some ⟨58,6,false,[[.q (eI m p 0).x (cB jb m.bodies.length 0),.q (eI m p 0).z (cB jb m.bodies.length 0)]],none⟩]⟩:=by
 have hlm:(m.bodies.map (aE 300)).length=m.bodies.length:=bH ..;have hlr:((List.range m.bodies.length).map fun i=>dS (SZ jb) (fr m p i)).length=m.bodies.length:=by simp
 refine qA (G:=fun i=>GF 66 S w0 (LQ m p jb) SU ⟨slots 50 [(4,.ptr 0 6 0 0),(6,.cptr (yF jb m p) 0),(8,.ptr 1 6 0 0),(25,.list 27 (m.bodies.map (aE 300))),(26,.i6 ((m.bodies.length:Nat):Int)),(27,.i6 ((i:Nat):Int))],[some (Cd),some ⟨58,6,false,[[.q (eI m p i).x (cB jb m.bodies.length i),.q (eI m p i).z (cB jb m.bodies.length i)]],none⟩]⟩) m.bodies.length ?_ ?_
 · refine gN uX [4,5,6,8,25,26,27] [(28,ff)] (.a1 (iF (om (¬ ((m.bodies.length:Int)<(m.bodies.length:Int)))))) (t:=[.code .ret]) (σ:=slots 50 [(4,.ptr 0 6 0 0),(5,.i6 (0:Int)),(6,.cptr (DZ m jb p) 0),(8,.ptr 1 6 0 0),(25,.list 27 (m.bodies.map (aE 300))),(26,.i6 (m.bodies.length:Int)),(27,.i6 (m.bodies.length:Int))]) (h:=[some (LO m p jb),some (LO m p jb)]) ?_
   have:=RL (jb:=jb) h8 h8;exact gE [.agg [.q (eI m p m.bodies.length).x (cB jb m.bodies.length m.bodies.length),.q (eI m p m.bodies.length).z (cB jb m.bodies.length m.bodies.length)],.i6 0] (Ref.tup2 (Ref.agg (RefC.cons (RefC.q_le this) (RefC.q_le this))) rr rfl rfl rfl rfl)
 · intro i hi ih
   have:=RL (jb:=jb) (i:=i) (n:=m.bodies.length) (by omega) h8;have v0:(i:Int)<((m.bodies.map (aE 300)).length:Int):=by rw[hlm];omega
   refine gR uX none [4,6,8,25,26,27] [0,1] [(28,tt),(30,.cptr (aE 300 (m.bodies.getD i default)) 0),(38,.cptr [.q ((fr m p i).at_.x) (2*(SZ jb)),.q ((fr m p i).at_.z) (2*(SZ jb)),.q ((fr m p i).c) (SZ jb),.q ((fr m p i).s) (SZ jb)] 0),(45,.agg [.q (nA m.bodies (i:Int)) (302*m.bodies.length+304)]),(48,.i6 ((i+1:Nat):Int))] (.c6 (iT (om ((i:Int)<(m.bodies.length:Int)))) (show Ref (.cptr ((m.bodies.map (aE 300)).getD i []) 0) (.cptr (aE 300 (m.bodies.getD i default)) 0) from Ref.cmap (f:=aE 300) hi) (nn i) v0 (show Ref (.cptr (((List.range m.bodies.length).map fun i=>dS (SZ jb) (fr m p i)).getD i []) 0) (.cptr [.q ((fr m p i).at_.x) (2*(SZ jb)),.q ((fr m p i).at_.z) (2*(SZ jb)),.q ((fr m p i).c) (SZ jb),.q ((fr m p i).s) (SZ jb)] 0) from bS hi) (nn i) (.c6 (show(i:Int)<(((List.range m.bodies.length).map fun i=>dS (SZ jb) (fr m p i)).length:Int) by rw[hlr];omega) (show(2*(SZ jb))+(2*(SZ jb))+2*300+2*300+2*(SZ jb)+2*(SZ jb)+400<=LIM by unfold LIM;omega) (show Ref (.agg [.q (nA ((m.bodies.map (aE 300)).map reBody) (i:Int)) (302*(m.bodies.map (aE 300)).length+304)]) (.agg [.q (nA m.bodies (i:Int)) (302*m.bodies.length+304)]) from Ref.eq (by rw[iN,hlm])) (show(m.bodies.map (aE 300))=((m.bodies.map (aE 300)).map reBody).map (aE 300) by rw[iN]) (show(m.bodies.map (aE 300)).length<=1000 by rw[hlm];omega) (nn i) (.a4 v0 (show((2*(SZ jb))+(300+300+(SZ jb)+(SZ jb)+6)+2)+((2*(SZ jb))+(300+300+(SZ jb)+(SZ jb)+6)+2)+(302*m.bodies.length+304)+300<=LIM by unfold LIM;omega) (show(cB jb m.bodies.length i)+(cB jb m.bodies.length i)+(((2*(SZ jb))+(300+300+(SZ jb)+(SZ jb)+6)+2)+(302*m.bodies.length+304)+2)+(((2*(SZ jb))+(300+300+(SZ jb)+(SZ jb)+6)+2)+(302*m.bodies.length+304)+2)+300<=LIM by unfold LIM;omega) (wI ((i:Int)+(1:Int)) ((i+1:Nat):Int))))) (t:=SU) (σ:=slots 50 [(4,.ptr 0 6 0 0),(6,.cptr (yF jb m p) 0),(8,.ptr 1 6 0 0),(25,.list 27 (m.bodies.map (aE 300))),(26,.i6 ((m.bodies.length:Nat):Int)),(27,.i6 ((i+1:Nat):Int))]) (h:=[some (Cd),some ⟨58,6,false,[[.q (((eI m p i).x)+((((fr m p i).at_.x)+(((fr m p i).c)*(m.bodies.getD i default).c.x-((fr m p i).s)*(m.bodies.getD i default).c.z))*(nA m.bodies (i:Int)))) ((cB jb m.bodies.length i)+(((2*(SZ jb))+(300+300+(SZ jb)+(SZ jb)+6)+2)+(302*m.bodies.length+304)+2)+2),.q (((eI m p i).z)+((((fr m p i).at_.z)+(((fr m p i).s)*(m.bodies.getD i default).c.x+((fr m p i).c)*(m.bodies.getD i default).c.z))*(nA m.bodies (i:Int)))) ((cB jb m.bodies.length i)+(((2*(SZ jb))+(300+300+(SZ jb)+(SZ jb)+6)+2)+(302*m.bodies.length+304)+2)+2)]],none⟩]) ?_
   have e:cB jb m.bodies.length i+(2*SZ jb+(300+300+SZ jb+SZ jb+6)+2+(302*m.bodies.length+304)+2)+2=cB jb m.bodies.length (i+1):=by rw[cB];omega
   rw[e];exact ih
def VM:KF
 | [.agg M,.agg [.q ax jb,.q az A2,.q tu A3,.list 3 J]]=>some (.tup [.agg [.q (nB (aF M) ⟨⟨ax,az⟩,tu,J.map gM⟩).x (32*SZ jb+26656),.q (nB (aF M) ⟨⟨ax,az⟩,tu,J.map gM⟩).z (32*SZ jb+26656)],.int .i64 (bD (aF M) J.length)],[M=aD 300 (aF M),(aF M).small,(aF M).bodies.length<=8,A2<=jb,A3<=jb,jb<=100000,Ref (.list 3 J) (.list 3 ((J.map gM).map (bG jb))),J.length<=4611686018427387904])
 | _=>none
abbrev LR (jb:Nat) (m:MachD) (p:PoseD):AV:=(.tup [(iE jb (aF (aD 300 m)) ⟨⟨p.at_.x,p.at_.z⟩,p.turn,(p.joints.map (bG jb)).map gM⟩),.i6 (bD (aF (aD 300 m)) (p.joints.map (bG jb)).length)])
theorem Wq:bQ 66 VM:=fun args r ob h ho=>by
 unfold VM at h
 split at h
 · rename_i M ax jb az A2 tu A3 J
   cases h;have o1:M=aD 300 (aF M):=ho _ (by simp);have o2:(aF M).small:=ho _ (by simp);have o3:(aF M).bodies.length<=8:=ho _ (by simp);have o4:A2<=jb:=ho _ (by simp);have o5:A3<=jb:=ho _ (by simp);have o6:jb<=100000:=ho _ (by simp);have o7:Ref (.list 3 J) (.list 3 ((J.map gM).map (bG jb))):=ho _ (by simp);have o8:J.length<=4611686018427387904:=ho _ (by simp);refine af Tryz.f66 fun S w0=> ?_
   generalize hm:aF M=m at*;subst o1;clear hm;obtain⟨p,hp⟩:∃ p:PoseD,p=⟨⟨ax,az⟩,tu,J.map gM⟩:=⟨_,rfl⟩;have hpj:p.joints.length=J.length:=by rw[hp];simp
   rw[<- hp]
   try rw[<- hpj]
   refine Good.weak 50 [(0,.agg (aD 300 m)),(1,.agg (aW jb p))] (by kernel_rfl) (.r (.cons (by rw[hp];exact Ref.pose o4 o5 o7) .nil)) ?_;clear hp;have s1:aD 300 m=aD 300 (aF (aD 300 m)):=by rw[aU]
   have s2:(aF (aD 300 m)).small:=by rw[aU];exact o2
   have s3:(aF (aD 300 m)).bodies.length<=8:=by rw[aU];exact o3
   have s4:Ref (.list 3 (p.joints.map (bG jb))) (.list 3 (((p.joints.map (bG jb)).map gM).map (bG jb))):=Ref.eq (by rw[gG]);have s5:(p.joints.map (bG jb)).length<=4611686018427387904:=by rw[bH,hpj];exact o8
   have s7:SZ jb<=153753600:=by unfold SZ;omega
   have s8:LIM=17592186044416:=rfl
   by_cases h1:(bD m p.joints.length)=(0:Int)
   · refine gR uX none [4,5,6,8,25,26,27] [2,4] [(11,.tup [.cptr (DZ m jb p) 0,.i6 (0:Int)])] (.c6 s1 s2 s3 (rl jb) (rl jb) o6 (.a3 s4 s5 (show Ref (LR jb m p) (.tup [.cptr (DZ m jb p) 0,.i6 (0:Int)]) by exact cM h1))) (t:=SU) (σ:=slots 50 [(4,.ptr 0 6 0 0),(5,.i6 (0:Int)),(6,.cptr (DZ m jb p) 0),(8,.ptr 1 6 0 0),(25,.list 27 (m.bodies.map (aE 300))),(26,(.i6 ((m.bodies.map (aE 300)).length:Int))),(27,.i6 (0:Int))]) (h:=[some (Cd),some (Cd)]) ?_
     rw[bH,show nB m p=eI m p m.bodies.length from if_pos h1,h1];refine Good.pk 50 (LP jb m p) ?_;exact ND o3 s7
   · refine rF uX [(11,.tup [.lit (.pointer none),.i6 (bD m p.joints.length)]),(18,tt)] (.c6 s1 s2 s3 (rl jb) (rl jb) o6 (.a4 s4 s5 (show Ref (LR jb m p) (.tup [.lit (.pointer none),.i6 (bD m p.joints.length)]) by exact cN h1) (jT h1))) (V:=.tup [.agg [.q 0 0,.q 0 0],.i6 (bD m p.joints.length)]) ?_
     rw[show nB m p=⟨0,0⟩ from if_neg h1];exact Ref.tup2 (Ref.agg (RefC.cons qe qe)) rr rfl rfl rfl rfl
 · cases h
def VN:KF
 | [.agg [.q ax A,.q az B],.int .i64 x,.int .i64 z]=>some (.bool (decide (ax=(x:Rat)/\az=(z:Rat))),[A+300<=LIM,B+300<=LIM,(-9223372036854775808:Int)<=x,x<=(9223372036854775807:Int),(-9223372036854775808:Int)<=z,z<=(9223372036854775807:Int)])
 | _=>none
theorem Wr:bQ 35 VN:=by
 refine cK Tryz.f35 fun _ _ _ S w0 h ho=> ?_
 unfold VN at h;split at h <;> cases h;rename_i ax A az B x z;obtain⟨o1,o2,o3,o4,o5,o6⟩:=ho.e6;have L:=dR;have K:=(kn.cons GT).cons Kl
 by_cases h1:(kV ax (x:Rat))=(0:Int)
 · exact rF K [(13,tt)] (.c6 o3 o4 (om (A+64+200<=LIM)) (iT h1) o5 o6 (.a1 (om (B+64+200<=LIM)))) (V:=.bool (decide ((kV az (z:Rat))=(0:Int)))) (Ref.bool (by simp[jW] at h1 ⊢;simp[h1,jW]))
 · exact rF K [(13,ff)] (.a4 o3 o4 (om (A+64+200<=LIM)) (iF h1)) (V:=.bool false) (Ref.bool (by simp[jW] at h1 ⊢;simp[h1]))
def RM:KF
 | [.agg [.q d D],.agg [.q a A,.q b B],.agg [.q c C,.q e E]]=>some (.agg [.q (a+c) (A+C+2),.q (b+e) (B+E+2)],[A+B+C+E+D+400<=LIM])
 | _=>none
theorem Ld:bQ 128 RM:=by
 refine cK Tryz.f128 fun _ _ _ S w0 h ho=> ?_
 unfold RM at h;split at h <;> cases h;rename_i d D a A b B c C e E;have o1:=ho.one;have L:=dR;have K:=kn.cons Fr;exact rR K [] (.a2 (om (A+C+200<=LIM)) (om (B+E+200<=LIM)))
structure Nm where
 a:Rat
 b:Rat
 deriving Inhabited
def Ce (x y:Nm):Nm:=⟨x.a+y.a,x.b+y.b⟩
def NE (x y:Nm):Nm:=⟨x.a-y.a,x.b-y.b⟩
def dY (d:Rat) (x y:Nm):Nm:=⟨x.a*y.a+d*x.b*y.b,x.a*y.b+x.b*y.a⟩
def Le (y:Nm):Nm:=⟨y.a,-y.b⟩
def xR (d:Rat) (x y:Nm):Nm:=⟨(dY d x (Le y)).a/(dY d y (Le y)).a,(dY d x (Le y)).b/(dY d y (Le y)).a⟩
def RN:KF
 | [.agg [.q a A]]=>some (.agg [.q a A,.q 0 0],[])
 | _=>none
theorem NF:bQ 130 RN:=by
 refine cK Tryz.f130 fun _ _ _ S w0 h ho=> ?_
 unfold RN at h;split at h <;> cases h;rename_i a A;exact rR .nil [] .nil
def RO:KF
 | [.agg [.q d D],.agg [.q a A,.q b B],.agg [.q c C,.q e E]]=>some (.agg [.q (dY d ⟨a,b⟩ ⟨c,e⟩).a (A+B+C+E+D+8),.q (dY d ⟨a,b⟩ ⟨c,e⟩).b (A+B+C+E+D+8)],[A+B+C+E+D+400<=LIM])
 | _=>none
theorem Lf:bQ 214 RO:=by
 refine cK Tryz.f214 fun _ _ _ S w0 h ho=> ?_
 unfold RO at h;split at h <;> cases h;rename_i d D a A b B c C e E;have o1:=ho.one;have L:=dR;have K:=(kn.cons Fp).cons Fr;exact rV K [] (.c6 (om (A+C+200<=LIM)) (om (D+B+200<=LIM)) (om ((D+B+2)+E+200<=LIM)) (om ((A+C+2)+((D+B+2)+E+2)+200<=LIM)) (om (A+E+200<=LIM)) (om (B+C+200<=LIM)) (.a3 (om ((A+E+2)+(B+C+2)+200<=LIM)) (om ((A+C+2)+((D+B+2)+E+2)+2<=A+B+C+E+D+8)) (om ((A+E+2)+(B+C+2)+2<=A+B+C+E+D+8))))
def RP:KF
 | [.agg [.q d D],.agg [.q a A,.q b B],.agg [.q c C,.q e E]]=>some (.agg [.q (a-c) (A+C+2),.q (b-e) (B+E+2)],[A+B+C+E+D+400<=LIM])
 | _=>none
theorem NG:bQ 217 RP:=by
 refine cK Tryz.f217 fun _ _ _ S w0 h ho=> ?_
 unfold RP at h;split at h <;> cases h;rename_i d D a A b B c C e E;have o1:=ho.one;have L:=dR;have K:=kn.cons LB;exact rR K [] (.a2 (om (A+C+200<=LIM)) (om (B+E+200<=LIM)))
structure Vc where
 x:Nm
 z:Nm
 deriving Inhabited
def Cf (d:Rat) (p:Vc) (c s:Nm):Vc:=⟨NE (dY d c p.x) (dY d s p.z),Ce (dY d s p.x) (dY d c p.z)⟩
def NH:Nm:=⟨1,0⟩
def fY (d:Rat) (p:Vc) (t:Nm):Vc:=Cf d p (xR d (NE NH (dY d t t)) (Ce NH (dY d t t))) (xR d (Ce t t) (Ce NH (dY d t t)))
def AQ (p q:Vc):Vc:=⟨Ce p.x q.x,Ce p.z q.z⟩
def RQ:KF
 | [.agg [.q d D],.agg [.q x1 X1,.q x2 X2,.q z1 Z1,.q z2 Z2],.agg [.q c C,.q e E],.agg [.q s U,.q t V]]=>some (.agg [.q (Cf d ⟨⟨x1,x2⟩,⟨z1,z2⟩⟩ ⟨c,e⟩ ⟨s,t⟩).x.a (C+E+U+V+X1+X2+Z1+Z2+2*D+18),.q (Cf d ⟨⟨x1,x2⟩,⟨z1,z2⟩⟩ ⟨c,e⟩ ⟨s,t⟩).x.b (C+E+U+V+X1+X2+Z1+Z2+2*D+18),.q (Cf d ⟨⟨x1,x2⟩,⟨z1,z2⟩⟩ ⟨c,e⟩ ⟨s,t⟩).z.a (C+E+U+V+X1+X2+Z1+Z2+2*D+18),.q (Cf d ⟨⟨x1,x2⟩,⟨z1,z2⟩⟩ ⟨c,e⟩ ⟨s,t⟩).z.b (C+E+U+V+X1+X2+Z1+Z2+2*D+18)],[2*C+2*E+2*U+2*V+2*X1+2*X2+2*Z1+2*Z2+5*D+1000<=LIM])
 | _=>none
theorem UA:bQ 129 RQ:=by
 refine cK Tryz.f129 fun _ _ _ S w0 h ho=> ?_
 unfold RQ at h;split at h <;> cases h;rename_i d D x1 X1 x2 X2 z1 Z1 z2 Z2 c C e E s U t V;have o1:=ho.one;have L:=dR;have K:=((kn.cons NG).cons Lf).cons Ld;exact rV K [] (.c6 (om (C+E+X1+X2+D+400<=LIM)) (om (U+V+Z1+Z2+D+400<=LIM)) (om ((C+E+X1+X2+D+8)+(C+E+X1+X2+D+8)+(U+V+Z1+Z2+D+8)+(U+V+Z1+Z2+D+8)+D+400<=LIM)) (om (U+V+X1+X2+D+400<=LIM)) (om (C+E+Z1+Z2+D+400<=LIM)) (om ((U+V+X1+X2+D+8)+(U+V+X1+X2+D+8)+(C+E+Z1+Z2+D+8)+(C+E+Z1+Z2+D+8)+D+400<=LIM)) (.a4 (om ((C+E+X1+X2+D+8)+(U+V+Z1+Z2+D+8)+2<=C+E+U+V+X1+X2+Z1+Z2+2*D+18)) (om ((C+E+X1+X2+D+8)+(U+V+Z1+Z2+D+8)+2<=C+E+U+V+X1+X2+Z1+Z2+2*D+18)) (om ((U+V+X1+X2+D+8)+(C+E+Z1+Z2+D+8)+2<=C+E+U+V+X1+X2+Z1+Z2+2*D+18)) (om ((U+V+X1+X2+D+8)+(C+E+Z1+Z2+D+8)+2<=C+E+U+V+X1+X2+Z1+Z2+2*D+18))))
def RR:KF
 | [.agg [.q x1 X1,.q x2 X2,.q z1 Z1,.q z2 Z2],.agg [.q y1 Y1,.q y2 Y2,.q w1 W1,.q w2 W2],.fnm 128 true [.q d D]]=>some (.agg [.q (AQ ⟨⟨x1,x2⟩,⟨z1,z2⟩⟩ ⟨⟨y1,y2⟩,⟨w1,w2⟩⟩).x.a (X1+Y1+2),.q (AQ ⟨⟨x1,x2⟩,⟨z1,z2⟩⟩ ⟨⟨y1,y2⟩,⟨w1,w2⟩⟩).x.b (X2+Y2+2),.q (AQ ⟨⟨x1,x2⟩,⟨z1,z2⟩⟩ ⟨⟨y1,y2⟩,⟨w1,w2⟩⟩).z.a (Z1+W1+2),.q (AQ ⟨⟨x1,x2⟩,⟨z1,z2⟩⟩ ⟨⟨y1,y2⟩,⟨w1,w2⟩⟩).z.b (Z2+W2+2)],[X1+X2+Z1+Z2+Y1+Y2+W1+W2+D+600<=LIM])
 | _=>none
theorem UB:bQ 124 RR:=by
 refine cK Tryz.f124 fun _ _ _ S w0 h ho=> ?_
 unfold RR at h;split at h <;> cases h;rename_i x1 X1 x2 X2 z1 Z1 z2 Z2 y1 Y1 y2 Y2 w1 W1 w2 W2 d D;have o1:=ho.one;have L:=dR;have K:=kn.cons Ld;exact rV K [] (.a6 (om (X1+X2+Y1+Y2+D+400<=LIM)) (om (Z1+Z2+W1+W2+D+400<=LIM)) (rl (X1+Y1+2)) (rl (X2+Y2+2)) (rl (Z1+W1+2)) (rl (Z2+W2+2)))
def RS:KF
 | [.agg [.q x1 X1,.q z1 Z1]]=>some (.agg [.q x1 X1,.q 0 0,.q z1 Z1,.q 0 0],[])
 | _=>none
theorem UC:bQ 125 RS:=by
 refine cK Tryz.f125 fun _ _ _ S w0 h ho=> ?_
 unfold RS at h;split at h <;> cases h;rename_i x1 X1 z1 Z1;have K:=kn.cons NF;exact rR K [] .nil
def RT:KF
 | [.agg [.q d D],.agg [.q a A,.q b B],.agg [.q c C,.q e E]]=>some (.agg [.q (xR d ⟨a,b⟩ ⟨c,e⟩).a (A+B+3*C+3*E+2*D+18),.q (xR d ⟨a,b⟩ ⟨c,e⟩).b (A+B+3*C+3*E+2*D+18)],[A+B+3*C+3*E+2*D+400<=LIM])
 | _=>none
theorem RU:bQ 216 RT:=by
 refine cK Tryz.f216 fun _ _ _ S w0 h ho=> ?_
 unfold RT at h;split at h <;> cases h;rename_i d D a A b B c C e E;have o1:=ho.one;have L:=dR;have K:=((kn.cons Lf).cons Ow).cons VK;have v0:(A+B+C+E+D+8)+(C+E+C+E+D+8)+200<=LIM:=by omega
 exact rV K [] (.a6 (om (A+B+C+E+D+400<=LIM)) (om (C+E+C+E+D+400<=LIM)) v0 v0 (om ((A+B+C+E+D+8)+(C+E+C+E+D+8)+2<=A+B+3*C+3*E+2*D+18)) (om ((A+B+C+E+D+8)+(C+E+C+E+D+8)+2<=A+B+3*C+3*E+2*D+18)))
def RV:KF
 | [.agg [.q d D],.agg [.q x1 X1,.q x2 X2,.q z1 Z1,.q z2 Z2],.agg [.q a A,.q b B]]=>some (.agg [.q (fY d ⟨⟨x1,x2⟩,⟨z1,z2⟩⟩ ⟨a,b⟩).x.a (64*A+64*B+42*D+X1+X2+Z1+Z2+1500),.q (fY d ⟨⟨x1,x2⟩,⟨z1,z2⟩⟩ ⟨a,b⟩).x.b (64*A+64*B+42*D+X1+X2+Z1+Z2+1500),.q (fY d ⟨⟨x1,x2⟩,⟨z1,z2⟩⟩ ⟨a,b⟩).z.a (64*A+64*B+42*D+X1+X2+Z1+Z2+1500),.q (fY d ⟨⟨x1,x2⟩,⟨z1,z2⟩⟩ ⟨a,b⟩).z.b (64*A+64*B+42*D+X1+X2+Z1+Z2+1500)],[128*A+128*B+90*D+2*X1+2*X2+2*Z1+2*Z2+8000<=LIM])
 | _=>none
theorem UD:bQ 126 RV:=by
 refine cK Tryz.f126 fun _ _ _ S w0 h ho=> ?_
 unfold RV at h;split at h <;> cases h;rename_i d D x1 X1 x2 X2 z1 Z1 z2 Z2 a A b B;have o1:=ho.one;have L:=dR;have K:=((((((kn.cons NG).cons RU).cons Lf).cons NF).cons UA).cons Ld).cons Kl;have v0:64+0+(A+B+A+B+D+8)+(A+B+A+B+D+8)+D+400<=LIM:=by omega
 have v1:A+B+A+B+D+400<=LIM:=by omega
 exact rV K [] (.c6 (dc ((-9223372036854775808:Int)<=1)) (dc (1<=(9223372036854775807:Int))) v1 v0 v0 (om ((64+(A+B+A+B+D+8)+2)+(0+(A+B+A+B+D+8)+2)+3*(64+(A+B+A+B+D+8)+2)+3*(0+(A+B+A+B+D+8)+2)+2*D+400<=LIM)) (.c6 v1 (om ((A+A+2)+(B+B+2)+3*(64+(A+B+A+B+D+8)+2)+3*(0+(A+B+A+B+D+8)+2)+2*D+400<=LIM)) (om (2*((64+(A+B+A+B+D+8)+2)+(0+(A+B+A+B+D+8)+2)+3*(64+(A+B+A+B+D+8)+2)+3*(0+(A+B+A+B+D+8)+2)+2*D+18)+2*((64+(A+B+A+B+D+8)+2)+(0+(A+B+A+B+D+8)+2)+3*(64+(A+B+A+B+D+8)+2)+3*(0+(A+B+A+B+D+8)+2)+2*D+18)+2*((A+A+2)+(B+B+2)+3*(64+(A+B+A+B+D+8)+2)+3*(0+(A+B+A+B+D+8)+2)+2*D+18)+2*((A+A+2)+(B+B+2)+3*(64+(A+B+A+B+D+8)+2)+3*(0+(A+B+A+B+D+8)+2)+2*D+18)+2*X1+2*X2+2*Z1+2*Z2+5*D+1000<=LIM)) (om (((64+(A+B+A+B+D+8)+2)+(0+(A+B+A+B+D+8)+2)+3*(64+(A+B+A+B+D+8)+2)+3*(0+(A+B+A+B+D+8)+2)+2*D+18)+((64+(A+B+A+B+D+8)+2)+(0+(A+B+A+B+D+8)+2)+3*(64+(A+B+A+B+D+8)+2)+3*(0+(A+B+A+B+D+8)+2)+2*D+18)+((A+A+2)+(B+B+2)+3*(64+(A+B+A+B+D+8)+2)+3*(0+(A+B+A+B+D+8)+2)+2*D+18)+((A+A+2)+(B+B+2)+3*(64+(A+B+A+B+D+8)+2)+3*(0+(A+B+A+B+D+8)+2)+2*D+18)+X1+X2+Z1+Z2+2*D+18<=64*A+64*B+42*D+X1+X2+Z1+Z2+1500)) (om (((64+(A+B+A+B+D+8)+2)+(0+(A+B+A+B+D+8)+2)+3*(64+(A+B+A+B+D+8)+2)+3*(0+(A+B+A+B+D+8)+2)+2*D+18)+((64+(A+B+A+B+D+8)+2)+(0+(A+B+A+B+D+8)+2)+3*(64+(A+B+A+B+D+8)+2)+3*(0+(A+B+A+B+D+8)+2)+2*D+18)+((A+A+2)+(B+B+2)+3*(64+(A+B+A+B+D+8)+2)+3*(0+(A+B+A+B+D+8)+2)+2*D+18)+((A+A+2)+(B+B+2)+3*(64+(A+B+A+B+D+8)+2)+3*(0+(A+B+A+B+D+8)+2)+2*D+18)+X1+X2+Z1+Z2+2*D+18<=64*A+64*B+42*D+X1+X2+Z1+Z2+1500)) (om (((64+(A+B+A+B+D+8)+2)+(0+(A+B+A+B+D+8)+2)+3*(64+(A+B+A+B+D+8)+2)+3*(0+(A+B+A+B+D+8)+2)+2*D+18)+((64+(A+B+A+B+D+8)+2)+(0+(A+B+A+B+D+8)+2)+3*(64+(A+B+A+B+D+8)+2)+3*(0+(A+B+A+B+D+8)+2)+2*D+18)+((A+A+2)+(B+B+2)+3*(64+(A+B+A+B+D+8)+2)+3*(0+(A+B+A+B+D+8)+2)+2*D+18)+((A+A+2)+(B+B+2)+3*(64+(A+B+A+B+D+8)+2)+3*(0+(A+B+A+B+D+8)+2)+2*D+18)+X1+X2+Z1+Z2+2*D+18<=64*A+64*B+42*D+X1+X2+Z1+Z2+1500)) (.a1 (om (((64+(A+B+A+B+D+8)+2)+(0+(A+B+A+B+D+8)+2)+3*(64+(A+B+A+B+D+8)+2)+3*(0+(A+B+A+B+D+8)+2)+2*D+18)+((64+(A+B+A+B+D+8)+2)+(0+(A+B+A+B+D+8)+2)+3*(64+(A+B+A+B+D+8)+2)+3*(0+(A+B+A+B+D+8)+2)+2*D+18)+((A+A+2)+(B+B+2)+3*(64+(A+B+A+B+D+8)+2)+3*(0+(A+B+A+B+D+8)+2)+2*D+18)+((A+A+2)+(B+B+2)+3*(64+(A+B+A+B+D+8)+2)+3*(0+(A+B+A+B+D+8)+2)+2*D+18)+X1+X2+Z1+Z2+2*D+18<=64*A+64*B+42*D+X1+X2+Z1+Z2+1500)))))
theorem Cg {xs:List Nat} (h:Dig b32 xs) (hne:xs≠ []):aR (aH b32 xs)=32*(xs.length-1)+aR (xs.getD (xs.length-1) 0):=by
 have hp:0<xs.length:=List.length_pos_iff.2 hne;have h1:=Dig.low (b:=b32) (by decide) h hne;have h2:=cR b32 (xs.length-1) xs;have h3:=cC (b:=b32) (k:=xs.length-1) (xs:=xs) (by omega);have h4:=dA (b:=b32) (by decide) h.1 (xs.length-1);rw[show xs.length-1+1=xs.length by omega,List.drop_length] at h3;simp only[aH,Nat.mul_zero,Nat.add_zero] at h3;rw[h3] at h2
 have h5:aH b32 xs/b32^(xs.length-1)=xs.getD (xs.length-1) 0:=by
   rw[h2,Nat.add_mul_div_left _ _ (Nat.pow_pos (by decide)),Nat.div_eq_of_lt h4,Nat.zero_add]
 rw[kX] at h1 h5;rw[kH h1,h5]
def RW:KF
 | [.nat n B]=>some (.int .i64 ((aR n:Nat):Int),[B<=LIM])
 | _=>none
theorem UE:bQ 336 RW:=by
 refine cK Tryz.f336 fun _ _ _ S w0 h ho=> ?_
 unfold RW at h;split at h <;> cases h;rename_i n B;have o1:=ho.one;have L:=dR;have K:=kn.cons Pe;refine Good.natlt (n:=n) (B:=B) 0 rfl fun hB=> ?_
 obtain⟨hx,hxn⟩:=aO (b:=b32) (by decide) n;have hl:=CB hB;refine Good.weak 18 [(0,.list 1 (aG (aC b32 n)))] (by kernel_rfl) (.cons Ref.opn .nil) ?_;generalize aC b32 n=xs at*;unfold LIM at o1;have ht:=aY (b:=b32) (by decide) hx.1 (xs.length-1);unfold b32 at ht;have e1:((((aG xs).length:Nat):Int)-(1:Int)).toNat=xs.length-1:=by rw[aB];omega
 have hb:=pH (n:=xs.getD (xs.length-1) 0) (k:=32) ht
 by_cases h1:(((aG xs).length:Nat):Int)=(0:Int)
 · refine rF K [(5,tt)] (.a1 (iT h1)) (V:=.i6 (0:Int)) ?_
   rw[aB] at h1;have:xs= []:=List.length_eq_zero_iff.1 (by omega);subst this;rw[<- hxn];exact Ref.int (by simp[aH,aR])
 · refine rF K [(5,ff),(8,.i6 ((((aG xs).length:Nat):Int)-(1:Int))),(9,.i6 ((32:Int)*((((aG xs).length:Nat):Int)-(1:Int)))),(13,.i6 ((((aG xs).length:Nat):Int)-(1:Int))),(14,.cptr [.int .u32 (xs.getD (((((aG xs).length:Nat):Int)-(1:Int)).toNat) 0:Int)] 0),(17,.i6 (((32:Int)*((((aG xs).length:Nat):Int)-(1:Int)))+(aR (xs.getD (((((aG xs).length:Nat):Int)-(1:Int)).toNat) 0):Int)))] (.c6 (iF h1) (wI ((((aG xs).length:Nat):Int)-(1:Int)) ((((aG xs).length:Nat):Int)-(1:Int)) (by first | (rw[e1];rw[aB] at*;omega) | (rw[aB] at*;omega))) (wI ((32:Int)*((((aG xs).length:Nat):Int)-(1:Int))) ((32:Int)*((((aG xs).length:Nat):Int)-(1:Int))) (by first | (rw[e1];rw[aB] at*;omega) | (rw[aB] at*;omega))) (wI ((((aG xs).length:Nat):Int)-(1:Int)) ((((aG xs).length:Nat):Int)-(1:Int)) (by first | (rw[e1];rw[aB] at*;omega) | (rw[aB] at*;omega))) (show Ref (.cptr ((aG xs).getD ((((aG xs).length:Int)-(1:Int)).toNat) []) 0) (.cptr [.int .u32 (xs.getD (((((aG xs).length:Nat):Int)-(1:Int)).toNat) 0:Int)] 0) from Ref.cd32 ((show((((aG xs).length:Nat):Int)-(1:Int)).toNat<xs.length by(rw[e1];rw[aB] at*;omega)))) (show 0<=((((aG xs).length:Nat):Int)-(1:Int)) by(rw[aB] at*;omega)) (.a4 (show((((aG xs).length:Nat):Int)-(1:Int))<((aG xs).length:Int) by(rw[aB] at*;omega)) (show 0<=(xs.getD (((((aG xs).length:Nat):Int)-(1:Int)).toNat) 0:Int) by first | (rw[e1];exact ht) | (rw[e1];rw[aB] at*;omega) | (rw[aB] at*;omega) | omega) (show(xs.getD ((((aG xs).length:Int)-(1:Int)).toNat) 0)<4294967296 by(rw[e1];exact ht)) (wI (((32:Int)*((((aG xs).length:Nat):Int)-(1:Int)))+(aR (xs.getD (((((aG xs).length:Nat):Int)-(1:Int)).toNat) 0):Int)) (((32:Int)*((((aG xs).length:Nat):Int)-(1:Int)))+(aR (xs.getD (((((aG xs).length:Nat):Int)-(1:Int)).toNat) 0):Int)) (by first | (rw[e1];rw[aB] at*;omega) | (rw[aB] at*;omega))))) (V:=.i6 (((32:Int)*((((aG xs).length:Nat):Int)-(1:Int)))+(aR (xs.getD (((((aG xs).length:Nat):Int)-(1:Int)).toNat) 0):Int))) ?_
   rw[aB] at h1;refine Ref.int ?_;rw[<- hxn,e1,aB,Cg hx (fun h=>h1 (by rw[h];rfl))];have:0<xs.length:=by omega
   omega
def oN:=((((((kn.cons UE).cons Pb).cons OX).cons Ga).cons Mx).cons MG).cons CG
def uB:Nat->Nat->Nat
 | 0,_=>0
 | k+1,n=>if n=0 then 0 else if (2*uB k (n/4)+1)*(2*uB k (n/4)+1)<=n then 2*uB k (n/4)+1 else 2*uB k (n/4)
def eF (n:Nat):Nat:=uB n n
theorem zS:∀ (k n:Nat),n<=k->uB k n*uB k n<=n/\n<(uB k n+1)*(uB k n+1)
 | 0,n,h=>by
   have:n=0:=by omega
   subst this;simp[uB]
 | k + 1,n,h=>by
   rw[uB]
   split
   · rename_i h0;subst h0;simp
   · rename_i h0
     obtain⟨h1,h2⟩:=zS k (n/4) (by omega);generalize uB k (n/4)=s at*;have h3:4*(n/4)<=n:=by omega
     have h4:n<4*(n/4)+4:=by omega
     have e1:(2*s)*(2*s)=4*(s*s):=by grind
     have e2:(2*s+1+1)*(2*s+1+1)=4*((s+1)*(s+1)):=by grind
     split
     · rename_i h5
       exact⟨h5,by rw[e2];omega⟩
     · rename_i h5
       exact⟨by rw[e1];omega,by omega⟩
theorem qI (n:Nat):eF n*eF n<=n/\n<(eF n+1)*(eF n+1):=zS n n (rl n)
theorem Dc {n x:Nat} (h1:x*x<=n) (h2:n<(x+1)*(x+1)):x=eF n:=by
 obtain⟨h3,h4⟩:=qI n;generalize eF n=r at*;rcases Nat.lt_trichotomy x r with h | h | h
 · have:=Nat.mul_le_mul (show x+1<=r from h) (show x+1<=r from h)
   omega
 · exact h
 · have:=Nat.mul_le_mul (show r+1<=x from h) (show r+1<=x from h)
   omega
theorem Iz (n:Nat):eF n<=n:=by
 obtain⟨h,_⟩:=qI n;exact Nat.le_trans (Nat.le_mul_self _) h
theorem Fi {n:Nat} (h:0<n):0<eF n:=by
 obtain⟨_,h2⟩:=qI n;rcases Nat.eq_zero_or_pos (eF n) with e | e
 · rw[e] at h2;omega
 · exact e
theorem NI {n x:Nat} (hn:0<n) (hx:0<x):n<((x+n/x)/2+1)*((x+n/x)/2+1)/\0<(x+n/x)/2/\(x<=(x+n/x)/2->x*x<=n):=by
 have h1:x*(n/x)<=n:=Nat.mul_div_le n x;have h2:n<x*(n/x+1):=Nat.lt_mul_div_succ n hx;generalize n/x=q at*;refine⟨?_, ?_,fun h=> ?_⟩
 · have h3:x+q+1<=2*((x+q)/2+1):=by omega
   generalize (x+q)/2+1=y at*;have h4:=Nat.mul_le_mul h3 h3
   have h5:4*(x*(q+1))<=(x+q+1)*(x+q+1):=by
     rcases Nat.le_total x (q+1) with h | h
     · obtain⟨d,hd⟩:=Nat.le.dest h
       have:q+1=x+d:=hd.symm;rw[show x+q+1=x+(q+1) by omega,this];have:(x+(x+d))*(x+(x+d))=4*(x*(x+d))+d*d:=by grind
       omega
     · obtain⟨d,hd⟩:=Nat.le.dest h
       rw[show x+q+1=x+(q+1) by omega, <- hd];have:(q+1+d+(q+1))*(q+1+d+(q+1))=4*((q+1+d)*(q+1))+d*d:=by grind
       omega
   have h6:(2*y)*(2*y)=4*(y*y):=by grind
   omega
 · rcases Nat.eq_zero_or_pos ((x+q)/2) with h | h
   · exfalso
     have hx1:x=1:=by omega
     have hq0:q=0:=by omega
     subst hx1;subst hq0;omega
   · exact h
 · have h3:x<=q:=by omega
   exact Nat.le_trans (Nat.mul_le_mul_left x h3) h1
def RX:KF
 | [.nat n B]=>some (.nat (eF n) B,[B+300<=LIM])
 | _=>none
section
variable {S:Nat->Prop} {w0:World}
noncomputable abbrev NJ:List Item:=[.code (aN [1,1,1,0,0] (aA Tryz.f329)),.inLoop (aN [1,1,1,0,0] (aA Tryz.f329)),.inBlock 0]
theorem Lg {n B C:Nat} (hn:0<n) (hB:n<2^B) (hC:max B C+128<=LIM):∀ (j x:Nat),x<=j->0<x->n<(x+1)*(x+1)->x<2^C->
   GF 329 S w0 (.nat (eF n) B) NJ ⟨slots 32 [(0,.nat n B),(3,.nat x C)],[]⟩:=by
 intro j
 induction j with
 | zero=>intro x h1 h2;omega
 | succ j ih=>
   intro x hj hx hnx hxC;obtain⟨n1,n2,n3⟩:=NI hn hx;have v0:(1:Int)<=9223372036854775807:=by decide
   by_cases c:(0:Int)<=(gY ((x+(n/x))/2^1) x)
   · refine gR oN none [0,2,3] [] [(29,tt)] (.c6 hx hC (om (max C B+1<=LIM)) (dc (0<=(1:Int))) (om ((max C B+1)<=LIM)) v0 (.a1 (iT c))) (t:=[.code .ret,.code (aN [1,1,1,0,0,0,1,1,1] (aA Tryz.f329)),.inBlock 1,.inLoop (aN [1,1,1,0,0] (aA Tryz.f329)),.inBlock 0]) (σ:=slots 32 [(0,.nat n B),(2,.nat x C),(3,.nat x C)]) (h:=[]) ?_
     have h1:x=eF n:=Dc (n3 (bM.1 c)) hnx;refine bP aT (fn:=Tryz.f329) (by kernel_rfl) 2 (by kernel_rfl) rfl (by rfl) ?_;rw[h1];exact Ref.natB (Nat.lt_of_le_of_lt (Iz n) hB)
   · refine gR oN none [0,2,3] [] [(29,ff)] (.c6 hx hC (om (max C B+1<=LIM)) (dc (0<=(1:Int))) (om ((max C B+1)<=LIM)) v0 (.a1 (iF c))) (t:=NJ) (σ:=slots 32 [(0,.nat n B),(3,(.nat ((x+(n/x))/2^1) (max C B+1)))]) (h:=[]) ?_
     have hlt:(x+n/x)/2^1<x:=Nat.lt_of_not_le fun h=>c (bM.2 h)
     refine Good.weak 32 [(0,_),(3,.nat ((x+n/x)/2^1) C)] (by kernel_rfl) (.r (.cons (Ref.natB (Nat.lt_trans hlt hxC)) .nil)) ?_;exact ih _ (by omega) n2 n1 (Nat.lt_trans hlt hxC)
end
theorem UF:bQ 329 RX:=by
 refine cK Tryz.f329 fun _ _ _ S w0 h ho=> ?_
 unfold RX at h;split at h <;> cases h;rename_i n B;have o1:=ho.one;refine Good.natlt (n:=n) (B:=B) 0 rfl fun hB=> ?_
 have hb:=pH hB;obtain⟨hx,hxn⟩:=aO (b:=b32) (by decide) n;refine Good.weak 32 [(0,.list 1 (aG (aC b32 n)))] (by kernel_rfl) (.cons Ref.opn .nil) ?_;have hlen:=cJ (b:=b32) (n:=n) (by decide);generalize aC b32 n=xs at*
 by_cases c:(((aG xs).length:Nat):Int)=(0:Int)
 · refine rF oN [(9,tt)] (.a1 (iT c)) (V:=AV.nil) ?_
   rw[aB] at c;have h0:n=0:=by omega
   subst h0;exact(Ref.nilL (e:=1)).trans (Ref.nat (xs:=[]) ⟨by simp,by simp⟩ rfl (Nat.pow_pos (by decide)))
 · refine gS oN (some 3) [0,2,3] [(9,ff)] (.a1 (iF c)) (t:=[.code (aN [1,1,0] (aA Tryz.f329)),.code (aN [1,1,1] (aA Tryz.f329))]) (σ:=slots 32 [(0,.list 1 (aG xs)),(2,.nil)]) (h:=[]) ?_
   rw[aB] at c;have hn:0<n:=by omega
   refine Good.weak 32 [(0,.nat n B)] (by kernel_rfl) (.cons (Ref.nat hx hxn hB) .nil) ?_;unfold LIM at o1;refine gR oN none [0,3] [] [(13,.i6 ((aR n+1:Nat):Int)),(14,.i6 (((aR n+1)/2:Nat):Int))] (.c6 (dc (0<=(1:Int))) (dc ((1:Int)<18446744073709551616)) (show B<=LIM by unfold LIM;omega) (wI (((aR n:Nat):Int)+(1:Int)) ((aR n+1:Nat):Int)) (show Ref (.i6 (IntKind.i64.wrap (((aR n+1:Nat):Int).tdiv (2:Int)))) (.i6 (((aR n+1)/2:Nat):Int)) from Ref.quo (a:=aR n+1) (b:=2) rfl rfl (by decide) (by show _<=(9223372036854775807:Int);omega)) (dc ((2:Int)≠0)) (.a2 (nn ((aR n+1)/2)) (show 64+((aR n+1)/2)<=LIM by unfold LIM;omega))) (t:=NJ) (σ:=slots 32 [(0,.nat n B),(3,(.nat (1*2^((aR n+1)/2)) (64+((aR n+1)/2))))]) (h:=[]) ?_
   obtain⟨b1,b2,b3⟩:=kY (n:=n) (by omega)
   have hx0:n<2^((aR n+1)/2)*2^((aR n+1)/2):=by
     rw[<- Nat.pow_add];exact Nat.lt_of_lt_of_le b3 (Nat.pow_le_pow_right (by decide) (by omega))
   refine Lg hn hB (by unfold LIM;omega) _ _ (rl _) (by rw[Nat.one_mul];exact Nat.pow_pos (by decide)) ?_ ?_
   · rw[Nat.one_mul]
     exact Nat.lt_of_lt_of_le hx0 (Nat.mul_le_mul (Nat.le_succ _) (Nat.le_succ _))
   · rw[Nat.one_mul]
     exact Nat.pow_lt_pow_right (by decide) (by omega)
def IV (x:Rat):Bool:=decide (eF x.num.natAbs*eF x.num.natAbs=x.num.natAbs/\eF x.den*eF x.den=x.den)
def SV (x:Rat):Rat:=mkRat (eF x.num.natAbs:Nat) (eF x.den)
def RY:KF
 | [.agg [.q x B]]=>some (.tup [.agg [.q (if IV x then SV x else 0) (B+1)],.bool (IV x)],[2*B+400<=LIM])
 | _=>none
theorem UG:bQ 301 RY:=by
 refine cK Tryz.f301 fun _ _ _ S w0 h ho=> ?_
 unfold RY at h;split at h <;> cases h;rename_i x B;have o1:=ho.one;have L:=dR;have K:=((((kn.cons UF).cons Ga).cons Gz).cons Gk).cons CK;have v0:max B 64+1<=LIM:=by omega
 have v1:(B+1)+300<=LIM:=by omega
 have v2:B+B+128<=LIM:=by omega
 have v3:B+300<=LIM:=by omega
 by_cases h1:(gY ((eF x.num.natAbs)*(eF x.num.natAbs)) x.num.natAbs)=(0:Int)
 · have v4:(B+1)+(B+1)+128<=LIM:=by omega
   by_cases h2:(gY ((eF x.den)*(eF x.den)) x.den)=(0:Int)
   · refine rF K [(21,ff),(29,ff),(32,.agg [.z (eF x.num.natAbs:Int) B])] (.c6 v3 v0 v1 v2 (jF h1) v4 (.a5 v0 (jF h2) (show Ref (.agg [.bool false,.nat (eF x.num.natAbs) B]) (.agg [.z (eF x.num.natAbs:Int) B]) by exact Ref.agg (RefC.mkz (rl _) (by simp) (by simp))) (show 0<(eF x.den) by exact Fi x.den_pos) (om (max B (B+1)+128<=LIM)))) (V:=.tup [.agg [.q (mkRat (eF x.num.natAbs:Int) (eF x.den)) (max B (B+1))],.bool true]) ?_
     have hs:IV x=true:=decide_eq_true ⟨pC.1 h1,pC.1 h2⟩;rw[hs];exact Ref.tup2 (Ref.q1 rfl (by omega)) rr rfl rfl rfl rfl
   · refine rF K [(21,ff),(29,tt)] (.c6 v3 v0 v1 v2 (jF h1) v4 (.a2 v0 (jT h2))) (V:=.tup [.agg [.q 0 0],.bool false]) ?_
     have hs:IV x=false:=decide_eq_false fun h=>h2 (pC.2 h.2)
     rw[hs];exact Ref.tup2 (Ref.q1 rfl (by omega)) rr rfl rfl rfl rfl
 · refine rF K [(21,tt)] (.a5 v3 v0 v1 v2 (jT h1)) (V:=.tup [.agg [.q 0 0],.bool false]) ?_
   have hs:IV x=false:=decide_eq_false fun h=>h1 (pC.2 h.1)
   rw[hs];exact Ref.tup2 (Ref.q1 rfl (by omega)) rr rfl rfl rfl rfl
def RZ:KF
 | [.agg [.q x B]]=>some (.agg [.q ((x.den:Int):Rat) (B+1)],[max B 64+1<=LIM])
 | _=>none
theorem UH:bQ 302 RZ:=by
 refine cK Tryz.f302 fun _ _ _ S w0 h ho=> ?_
 unfold RZ at h;split at h <;> cases h;rename_i x B;have o1:=ho.one;have L:=dR;have K:=(kn.cons CK).cons MU;exact rR K [(5,.agg [.z (x.den:Int) (B+1)])] (.a2 o1 (show Ref (.agg [.bool false,.nat x.den (B+1)]) (.agg [.z (x.den:Int) (B+1)]) by exact Ref.agg (RefC.mkz (rl _) (by simp) (by simp))))
def Sa:KF
 | [.agg [.q x B]]=>some (.agg [.q (x.num:Rat) B],[])
 | _=>none
theorem UI:bQ 303 Sa:=by
 refine cK Tryz.f303 fun _ _ _ S w0 h ho=> ?_
 unfold Sa at h;split at h <;> cases h;rename_i x B;have K:=kn.cons MU;exact rR K [] .nil
structure Sd where
 a:Rat
 b:Rat
 d:Rat
 deriving Inhabited
def jK (s:Sd):Sd:=if s.b=0 then ⟨s.a,0,0⟩ else if IV s.d=true then ⟨s.a+s.b*SV s.d,0,0⟩ else ⟨s.a,s.b/((s.d.den:Int):Rat),(s.d.num:Rat)*((s.d.den:Int):Rat)⟩
def Sb:KF
 | [.agg [.q a A,.q b B,.q d D]]=>some (.agg [.q (jK ⟨a,b,d⟩).a (A+B+D+5),.q (jK ⟨a,b,d⟩).b (B+D+3),.q (jK ⟨a,b,d⟩).d (2*D+3)],[A+B+3*D+600<=LIM])
 | _=>none
theorem Se:bQ 269 Sb:=by
 refine cK Tryz.f269 fun _ _ _ S w0 h ho=> ?_
 unfold Sb at h;split at h <;> cases h;rename_i a A b B d D;have o1:=ho.one;have L:=dR;have K:=((((((kn.cons UI).cons UH).cons UG).cons Kk).cons Cn).cons Fp).cons Fr
 by_cases h1:(Int.sign b.num)=(0:Int)
 · refine rF K [(8,tt)] (.a1 (iT h1)) (V:=.agg [.q a A,.q 0 0,.q 0 0]) ?_
   have h0:b=0:=Cc h1;have hn:jK ⟨a,b,d⟩=⟨a,0,0⟩:=by unfold jK;rw[if_pos h0]
   rw[hn];exact Ref.agg (RefC.cons qe (RefC.cons qe qe))
 · rcases Bool.eq_false_or_eq_true (IV d) with h2 | h2
   · refine rF K [(8,ff),(18,tt)] (.a5 (iF h1) (om (2*D+400<=LIM)) (show Ref (.bool (IV d)) (.bool true) from Ref.bool h2) (om (B+(D+1)+200<=LIM)) (om (A+(B+(D+1)+2)+200<=LIM))) (V:=.agg [.q (a+(b*(if IV d then SV d else 0))) (A+(B+(D+1)+2)+2),.q 0 0,.q 0 0]) ?_
     have h0:b≠0:=fun h=>h1 (by rw[h];rfl)
     have hn:jK ⟨a,b,d⟩=⟨a+b*SV d,0,0⟩:=by unfold jK;rw[if_neg h0,if_pos h2]
     rw[hn,h2];exact Ref.agg (RefC.cons qe (RefC.cons qe qe))
   · refine rF K [(8,ff),(18,ff)] (.c6 (iF h1) (om (2*D+400<=LIM)) (show Ref (.bool (IV d)) (.bool false) from Ref.bool h2) (om (max D 64+1<=LIM)) (om (B+(D+1)+200<=LIM)) (show((d.den:Int):Rat)≠0 by exact fun h=>d.den_nz (by have:=Rat.intCast_eq_zero_iff.1 h;omega)) (.a2 (om (max D 64+1<=LIM)) (om (D+(D+1)+200<=LIM)))) (V:=.agg [.q a A,.q (b/((d.den:Int):Rat)) (B+(D+1)+2),.q ((d.num:Rat)*((d.den:Int):Rat)) (D+(D+1)+2)]) ?_
     have h0:b≠0:=fun h=>h1 (by rw[h];rfl)
     have hn:jK ⟨a,b,d⟩=⟨a,b/((d.den:Int):Rat),(d.num:Rat)*((d.den:Int):Rat)⟩:=by unfold jK;rw[if_neg h0,if_neg (by rw[h2];decide)]
     rw[hn];exact Ref.agg (RefC.cons qe (RefC.cons qe qe))
def Sf:KF
 | [.agg [.q a A,.q b B,.q d D]]=>some (.tup [.agg [.q ((if Int.sign d.num<0 then (⟨0,0,0⟩:Sd) else jK ⟨a,b,d⟩)).a (A+B+D+5),.q ((if Int.sign d.num<0 then (⟨0,0,0⟩:Sd) else jK ⟨a,b,d⟩)).b (B+D+3),.q ((if Int.sign d.num<0 then (⟨0,0,0⟩:Sd) else jK ⟨a,b,d⟩)).d (2*D+3)],.int .i64 (if Int.sign d.num<0 then 8 else 0)],[A+B+3*D+600<=LIM])
 | _=>none
theorem UJ:bQ 219 Sf:=by
 refine cK Tryz.f219 fun _ _ _ S w0 h ho=> ?_
 unfold Sf at h;split at h <;> cases h;rename_i a A b B d D;have o1:=ho.one;have L:=dR;have K:=(kn.cons Se).cons Cn
 by_cases h1:(Int.sign d.num)<(0:Int)
 · refine rF K [(7,tt)] (.a1 (iT h1)) (V:=.tup [.agg [.q 0 0,.q 0 0,.q 0 0],.i6 (8:Int)]) ?_
   simp only[if_pos h1];exact Ref.tup2 (Ref.agg (RefC.cons qe (RefC.cons qe qe))) rr rfl rfl rfl rfl
 · refine rF K [(7,ff)] (.a2 (iF h1) o1) (V:=.tup [.agg [.q ((jK ⟨a,b,d⟩).a) (A+B+D+5),.q ((jK ⟨a,b,d⟩).b) (B+D+3),.q ((jK ⟨a,b,d⟩).d) (2*D+3)],.i6 (0:Int)]) ?_
   simp only[if_neg h1];exact Ref.tup2 rr rr rfl rfl rfl rfl
def Sg:KF
 | [.agg [.q d D],.agg [.q a A,.q b B]]=>some (.agg [.q ((if Int.sign d.num<0 then (⟨0,0,0⟩:Sd) else jK ⟨a,b,d⟩)).a (A+B+D+5),.q ((if Int.sign d.num<0 then (⟨0,0,0⟩:Sd) else jK ⟨a,b,d⟩)).b (B+D+3),.q ((if Int.sign d.num<0 then (⟨0,0,0⟩:Sd) else jK ⟨a,b,d⟩)).d (2*D+3)],[A+B+3*D+600<=LIM])
 | _=>none
theorem UK:bQ 131 Sg:=by
 refine cK Tryz.f131 fun _ _ _ S w0 h ho=> ?_
 unfold Sg at h;split at h <;> cases h;rename_i d D a A b B;have o1:=ho.one;have K:=kn.cons UJ;exact rR K [] (.a1 o1)
def Sh:KF
 | [.agg [.q px B,.q pz D],.agg [.q qx C,.q qz E]]=>some (.agg [.q (px*qx+pz*qz) (B+D+C+E+6)],[B+D+C+E+300<=LIM])
 | _=>none
theorem UL:bQ 163 Sh:=by
 refine cK Tryz.f163 fun _ _ _ S w0 h ho=> ?_
 unfold Sh at h;split at h <;> cases h;rename_i px B pz D qx C qz E;have o1:=ho.one;have L:=dR;have K:=(kn.cons Fp).cons Fr;exact rF K [] (.a3 (om (B+C+200<=LIM)) (om (D+E+200<=LIM)) (om ((B+C+2)+(D+E+2)+200<=LIM))) (V:=.agg [.q ((px*qx)+(pz*qz)) ((B+C+2)+(D+E+2)+2)]) (Ref.q1 rfl (by omega))
theorem Fj (n:Nat):iL false n=n:=rfl
theorem Lh (x:Rat):(x.num.natAbs:Int)=(if x<0 then-x else x).num:=by
 have h:x<0↔x.num<0:=by rw[Rat.lt_iff];simp
 by_cases k:x<0
 · have a:=h.1 k
   rw[if_pos k];exact Int.ofNat_natAbs_of_nonpos (by omega)
 · have a:¬ x.num<0:=fun a=>k (h.2 a)
   rw[if_neg k];exact Int.natAbs_of_nonneg (by omega)
def Si:KF
 | [.agg [.q x B]]=>some (.agg [.q (if x<0 then-x else x) B],[])
 | _=>none
theorem UM:bQ 268 Si:=by
 refine cK Tryz.f268 fun _ _ _ S w0 h ho=> ?_
 unfold Si at h;split at h <;> cases h;rename_i x B;have K:=kn.cons Ak;refine rF K [] .nil (V:=.agg [.z (iL false x.num.natAbs) B,.nat (x.den-1) B]) ?_
 refine Ref.agg (RefC.mkq (rl _) (rl _) ?_ ?_)
 · rw[Fj];exact Lh x
 · split <;> rfl
def mD:=((((((((kn.cons Se).cons UM).cons Kk).cons Cn).cons Ow).cons Fp).cons LB).cons Fr).cons Kl
def fP (B:Nat) (s:Sd):List AV:=[.q s.a B,.q s.b B,.q s.d B]
def dV (a b c:Rat):List Sd:=
 if a=0 then (if b=0 then [] else [⟨-(c/b),0,0⟩])
 else if b*b-4*a*c<0 then []
 else if b*b-4*a*c=0 then [⟨-(b/(a+a)),0,0⟩]
 else [jK ⟨-(b/(a+a)),-(if 1/(a+a)<0 then-(1/(a+a)) else 1/(a+a)),b*b-4*a*c⟩,jK ⟨-(b/(a+a)),if 1/(a+a)<0 then-(1/(a+a)) else 1/(a+a),b*b-4*a*c⟩]
def Sj:KF
 | [.agg [.q a A],.agg [.q b B],.agg [.q c C]]=>some (.tup [.list 9 ((dV a b c).map (fP (5*A+4*B+2*C+300))),.int .i64 (if a=0/\b=0/\c=0 then 10 else 0)],[20*A+20*B+10*C+3000<=LIM])
 | _=>none
abbrev IA (a:Rat) (A:Nat):ABlk:=⟨56,3,false,[[.q (if ((1:Rat)/(a+a))<0 then-((1:Rat)/(a+a)) else ((1:Rat)/(a+a))) (64+(A+A+2)+2)]],none⟩
theorem UN:bQ 213 Sj:=by
 refine cK Tryz.f213 fun _ _ _ S w0 h ho=> ?_
 unfold Sj at h;split at h <;> cases h;rename_i a A b B c C;have o1:=ho.one;have q1:∀ x:Rat,(Int.sign x.num)=(0:Int)->x=0:=fun x=>kR.1
 have q2:∀ x:Rat,¬ ((Int.sign x.num)=(0:Int))->x≠0:=fun x h k=>h (kR.2 k)
 have q3:∀ x:Rat,(Int.sign x.num)=(-1:Int)->x<0:=fun x=>Hl.1
 have q4:∀ x:Rat,¬ ((Int.sign x.num)=(-1:Int))->¬ x<0:=fun x h k=>h (Hl.2 k)
 by_cases h1:(Int.sign a.num)=(0:Int)
 · by_cases h2:(Int.sign b.num)=(0:Int)
   · by_cases h3:(Int.sign c.num)=(0:Int)
     · refine rF mD [(11,ff),(15,ff),(25,ff)] (.a3 (jF h1) (jF h2) (jF h3)) (V:=.tup [AV.nil,.i6 (10:Int)]) ?_
       show Ref (AV.tup [AV.nil,(AV.int .i64 (10:Int))]) (.tup [.list 9 ((dV a b c).map (fP (5*A+4*B+2*C+300))),.i6 (if a=0/\b=0/\c=0 then 10 else 0)]);rw[if_pos ⟨q1 _ h1,q1 _ h2,q1 _ h3⟩,show dV a b c= [] by unfold dV;rw[if_pos (q1 _ h1),if_pos (q1 _ h2)]];exact Ref.tup2 Ref.nilL rr rfl rfl rfl rfl
     · refine rF mD [(11,ff),(15,ff),(25,tt)] (.a3 (jF h1) (jF h2) (jT h3)) (V:=.tup [AV.nil,.i6 (0:Int)]) ?_
       show Ref (AV.tup [AV.nil,(AV.int .i64 (0:Int))]) (.tup [.list 9 ((dV a b c).map (fP (5*A+4*B+2*C+300))),.i6 (if a=0/\b=0/\c=0 then 10 else 0)]);rw[if_neg (fun h=>q2 _ h3 h.2.2),show dV a b c= [] by unfold dV;rw[if_pos (q1 _ h1),if_pos (q1 _ h2)]];exact Ref.tup2 Ref.nilL rr rfl rfl rfl rfl
   · refine gN mD [6,7] [(11,ff),(15,tt)] (.a4 (jF h1) (jT h2) (om (C+B+200<=LIM)) (show b≠0 by grind)) (t:=[.code .ret,.inBlock 0,.code (aN [1,1] (aA Tryz.f213))]) (σ:=slots 71 [(6,.own 7 9 0 1),(7,.i6 (0:Int))]) (h:=[some ⟨56,3,false,[[.q a A]],none⟩,some ⟨56,3,false,[[.q b B]],none⟩,some ⟨56,3,false,[[.q c C]],none⟩,none,none,none,none,some ⟨106,9,false,[[.q (-(c/b)) (C+B+2),.q 0 0,.q 0 0]],none⟩]) ?_
     refine Good.freezeD (b:=⟨106,9,false,[[(.q (-(c/b)) (C+B+2)),(.q 0 0),(.q 0 0)]],none⟩) 7 (by rfl) (by rfl) (.oe (.a1 (dc (0+1<=1)))) .on ?_;refine gE [(AV.list 9 [[(AV.q (-(c/b)) (C+B+2)),(AV.q 0 0),(AV.q 0 0)]]),(AV.int .i64 (0:Int))] ?_;show Ref (AV.tup [(AV.list 9 [[(AV.q (-(c/b)) (C+B+2)),(AV.q 0 0),(AV.q 0 0)]]),(AV.int .i64 (0:Int))]) (.tup [.list 9 ((dV a b c).map (fP (5*A+4*B+2*C+300))),.i6 (if a=0/\b=0/\c=0 then 10 else 0)]);rw[if_neg (fun h=>q2 _ h2 h.2.1),show dV a b c= [⟨-(c/b),0,0⟩] by unfold dV;rw[if_pos (q1 _ h1),if_neg (q2 _ h2)]];exact Ref.tup2 (Ref.list1 (RefC.cons qe (RefC.cons qe qe))) rr rfl rfl rfl rfl
 · have v0:A+A+200<=LIM:=by omega
   have v1:(B+B+2)+((64+A+2)+C+2)+200<=LIM:=by omega
   have v3:(a+a)≠0:=by grind
   have v4:(-9223372036854775808:Int)<=4:=by decide
   have v5:(-9223372036854775808:Int)<=1:=by decide
   have v6:4<=(9223372036854775807:Int):=by decide
   have v7:1<=(9223372036854775807:Int):=by decide
   have v8:(64+A+2)+C+200<=LIM:=by omega
   have v9:64+(A+A+2)+200<=LIM:=by omega
   have v10:B+(A+A+2)+200<=LIM:=by omega
   have v11:64+A+200<=LIM:=by omega
   have v12:B+B+200<=LIM:=by omega
   by_cases h2:(Int.sign ((b*b)-(((4:Rat)*a)*c)).num)=(-1:Int)
   · refine rF mD [(11,tt),(52,tt)] (.c6 (jT h1) v12 v4 v6 v11 v8 (.c6 v1 v0 v10 v3 v5 v7 (.a4 v0 v9 v3 (iT h2)))) (V:=.tup [AV.nil,.i6 (0:Int)]) ?_
     show Ref (AV.tup [AV.nil,(AV.int .i64 (0:Int))]) (.tup [.list 9 ((dV a b c).map (fP (5*A+4*B+2*C+300))),.i6 (if a=0/\b=0/\c=0 then 10 else 0)]);rw[if_neg (fun h=>q2 _ h1 h.1),show dV a b c= [] by unfold dV;rw[if_neg (q2 _ h1),if_pos (q3 _ h2)]];exact Ref.tup2 Ref.nilL rr rfl rfl rfl rfl
   · by_cases h3:(Int.sign ((b*b)-(((4:Rat)*a)*c)).num)=(0:Int)
     · refine gN mD [6,7] [(11,tt),(52,ff),(54,tt)] (.c6 (jT h1) v12 v4 v6 v11 v8 (.c6 v1 v0 v10 v3 v5 v7 (.a5 v0 v9 v3 (iF h2) (iT h3)))) (t:=[.code .ret,.inBlock 1,.code (aN [1,1,1,1,1] (aA Tryz.f213))]) (σ:=slots 71 [(6,.own 20 9 0 1),(7,.i6 (0:Int))]) (h:=[some ⟨56,3,false,[[.q a A]],none⟩,some ⟨56,3,false,[[.q b B]],none⟩,some ⟨56,3,false,[[.q c C]],none⟩,none,none,none,none,none,none,some ⟨56,3,false,[[.q ((b*b)-(((4:Rat)*a)*c)) ((B+B+2)+((64+A+2)+C+2)+2)]],none⟩,none,none,none,none,none,none,none,some ⟨56,3,false,[[.q (-(b/(a+a))) (B+(A+A+2)+2)]],none⟩,some (IA a A),none,some ⟨106,9,false,[[.q (-(b/(a+a))) (B+(A+A+2)+2),.q 0 0,.q 0 0]],none⟩]) ?_
       refine Good.freezeD (b:=⟨106,9,false,[[(.q (-(b/(a+a))) (B+(A+A+2)+2)),(.q 0 0),(.q 0 0)]],none⟩) 20 (by rfl) (by rfl) (.oe (.a1 (dc (0+1<=1)))) .on ?_;refine gE [(AV.list 9 [[(AV.q (-(b/(a+a))) (B+(A+A+2)+2)),(AV.q 0 0),(AV.q 0 0)]]),(AV.int .i64 (0:Int))] ?_;show Ref (AV.tup [(AV.list 9 [[(AV.q (-(b/(a+a))) (B+(A+A+2)+2)),(AV.q 0 0),(AV.q 0 0)]]),(AV.int .i64 (0:Int))]) (.tup [.list 9 ((dV a b c).map (fP (5*A+4*B+2*C+300))),.i6 (if a=0/\b=0/\c=0 then 10 else 0)]);rw[if_neg (fun h=>q2 _ h1 h.1),show dV a b c= [⟨-(b/(a+a)),0,0⟩] by unfold dV;rw[if_neg (q2 _ h1),if_neg (q4 _ h2),if_pos (q1 _ h3)]];exact Ref.tup2 (Ref.list1 (RefC.cons qe (RefC.cons qe qe))) rr rfl rfl rfl rfl
     · have v2:(B+(A+A+2)+2)+(64+(A+A+2)+2)+3*((B+B+2)+((64+A+2)+C+2)+2)+600<=LIM:=by omega
       refine gN mD [6,7] [(11,tt),(52,ff),(54,ff)] (.c6 (jT h1) v12 v4 v6 v11 v8 (.c6 v1 v0 v10 v3 v5 v7 (.c6 v0 v9 v3 (iF h2) (iF h3) v2 (.a1 v2)))) (t:=[.code .ret]) (σ:=slots 71 [(6,.own 23 9 0 2),(7,.i6 (0:Int))]) (h:=[some ⟨56,3,false,[[.q a A]],none⟩,some ⟨56,3,false,[[.q b B]],none⟩,some ⟨56,3,false,[[.q c C]],none⟩,none,none,none,none,none,none,some ⟨56,3,false,[[.q ((b*b)-(((4:Rat)*a)*c)) ((B+B+2)+((64+A+2)+C+2)+2)]],none⟩,none,none,none,none,none,none,none,some ⟨56,3,false,[[.q (-(b/(a+a))) (B+(A+A+2)+2)]],none⟩,some (IA a A),none,none,none,none,some ⟨106,9,false,[[.q ((jK ⟨(-(b/(a+a))),(-(if ((1:Rat)/(a+a))<0 then-((1:Rat)/(a+a)) else ((1:Rat)/(a+a)))),((b*b)-(((4:Rat)*a)*c))⟩).a) ((B+(A+A+2)+2)+(64+(A+A+2)+2)+((B+B+2)+((64+A+2)+C+2)+2)+5),.q ((jK ⟨(-(b/(a+a))),(-(if ((1:Rat)/(a+a))<0 then-((1:Rat)/(a+a)) else ((1:Rat)/(a+a)))),((b*b)-(((4:Rat)*a)*c))⟩).b) ((64+(A+A+2)+2)+((B+B+2)+((64+A+2)+C+2)+2)+3),.q ((jK ⟨(-(b/(a+a))),(-(if ((1:Rat)/(a+a))<0 then-((1:Rat)/(a+a)) else ((1:Rat)/(a+a)))),((b*b)-(((4:Rat)*a)*c))⟩).d) (2*((B+B+2)+((64+A+2)+C+2)+2)+3)],[.q ((jK ⟨(-(b/(a+a))),(if ((1:Rat)/(a+a))<0 then-((1:Rat)/(a+a)) else ((1:Rat)/(a+a))),((b*b)-(((4:Rat)*a)*c))⟩).a) ((B+(A+A+2)+2)+(64+(A+A+2)+2)+((B+B+2)+((64+A+2)+C+2)+2)+5),.q ((jK ⟨(-(b/(a+a))),(if ((1:Rat)/(a+a))<0 then-((1:Rat)/(a+a)) else ((1:Rat)/(a+a))),((b*b)-(((4:Rat)*a)*c))⟩).b) ((64+(A+A+2)+2)+((B+B+2)+((64+A+2)+C+2)+2)+3),.q ((jK ⟨(-(b/(a+a))),(if ((1:Rat)/(a+a))<0 then-((1:Rat)/(a+a)) else ((1:Rat)/(a+a))),((b*b)-(((4:Rat)*a)*c))⟩).d) (2*((B+B+2)+((64+A+2)+C+2)+2)+3)]],none⟩]) ?_
       refine Good.freezeD (b:=⟨106,9,false,[[(.q ((jK ⟨(-(b/(a+a))),(-(if ((1:Rat)/(a+a))<0 then-((1:Rat)/(a+a)) else ((1:Rat)/(a+a)))),((b*b)-(((4:Rat)*a)*c))⟩).a) ((B+(A+A+2)+2)+(64+(A+A+2)+2)+((B+B+2)+((64+A+2)+C+2)+2)+5)),(.q ((jK ⟨(-(b/(a+a))),(-(if ((1:Rat)/(a+a))<0 then-((1:Rat)/(a+a)) else ((1:Rat)/(a+a)))),((b*b)-(((4:Rat)*a)*c))⟩).b) ((64+(A+A+2)+2)+((B+B+2)+((64+A+2)+C+2)+2)+3)),(.q ((jK ⟨(-(b/(a+a))),(-(if ((1:Rat)/(a+a))<0 then-((1:Rat)/(a+a)) else ((1:Rat)/(a+a)))),((b*b)-(((4:Rat)*a)*c))⟩).d) (2*((B+B+2)+((64+A+2)+C+2)+2)+3))],[(.q ((jK ⟨(-(b/(a+a))),(if ((1:Rat)/(a+a))<0 then-((1:Rat)/(a+a)) else ((1:Rat)/(a+a))),((b*b)-(((4:Rat)*a)*c))⟩).a) ((B+(A+A+2)+2)+(64+(A+A+2)+2)+((B+B+2)+((64+A+2)+C+2)+2)+5)),(.q ((jK ⟨(-(b/(a+a))),(if ((1:Rat)/(a+a))<0 then-((1:Rat)/(a+a)) else ((1:Rat)/(a+a))),((b*b)-(((4:Rat)*a)*c))⟩).b) ((64+(A+A+2)+2)+((B+B+2)+((64+A+2)+C+2)+2)+3)),(.q ((jK ⟨(-(b/(a+a))),(if ((1:Rat)/(a+a))<0 then-((1:Rat)/(a+a)) else ((1:Rat)/(a+a))),((b*b)-(((4:Rat)*a)*c))⟩).d) (2*((B+B+2)+((64+A+2)+C+2)+2)+3))]],none⟩) 23 (by rfl) (by rfl) (.oe (.a1 (dc (0+2<=2)))) .on ?_
       refine gE [(AV.list 9 [[(AV.q ((jK ⟨(-(b/(a+a))),(-(if ((1:Rat)/(a+a))<0 then-((1:Rat)/(a+a)) else ((1:Rat)/(a+a)))),((b*b)-(((4:Rat)*a)*c))⟩).a) ((B+(A+A+2)+2)+(64+(A+A+2)+2)+((B+B+2)+((64+A+2)+C+2)+2)+5)),(AV.q ((jK ⟨(-(b/(a+a))),(-(if ((1:Rat)/(a+a))<0 then-((1:Rat)/(a+a)) else ((1:Rat)/(a+a)))),((b*b)-(((4:Rat)*a)*c))⟩).b) ((64+(A+A+2)+2)+((B+B+2)+((64+A+2)+C+2)+2)+3)),(AV.q ((jK ⟨(-(b/(a+a))),(-(if ((1:Rat)/(a+a))<0 then-((1:Rat)/(a+a)) else ((1:Rat)/(a+a)))),((b*b)-(((4:Rat)*a)*c))⟩).d) (2*((B+B+2)+((64+A+2)+C+2)+2)+3))],[(AV.q ((jK ⟨(-(b/(a+a))),(if ((1:Rat)/(a+a))<0 then-((1:Rat)/(a+a)) else ((1:Rat)/(a+a))),((b*b)-(((4:Rat)*a)*c))⟩).a) ((B+(A+A+2)+2)+(64+(A+A+2)+2)+((B+B+2)+((64+A+2)+C+2)+2)+5)),(AV.q ((jK ⟨(-(b/(a+a))),(if ((1:Rat)/(a+a))<0 then-((1:Rat)/(a+a)) else ((1:Rat)/(a+a))),((b*b)-(((4:Rat)*a)*c))⟩).b) ((64+(A+A+2)+2)+((B+B+2)+((64+A+2)+C+2)+2)+3)),(AV.q ((jK ⟨(-(b/(a+a))),(if ((1:Rat)/(a+a))<0 then-((1:Rat)/(a+a)) else ((1:Rat)/(a+a))),((b*b)-(((4:Rat)*a)*c))⟩).d) (2*((B+B+2)+((64+A+2)+C+2)+2)+3))]]),(AV.int .i64 (0:Int))] ?_;show Ref (AV.tup [(AV.list 9 [[(AV.q ((jK ⟨(-(b/(a+a))),(-(if ((1:Rat)/(a+a))<0 then-((1:Rat)/(a+a)) else ((1:Rat)/(a+a)))),((b*b)-(((4:Rat)*a)*c))⟩).a) ((B+(A+A+2)+2)+(64+(A+A+2)+2)+((B+B+2)+((64+A+2)+C+2)+2)+5)),(AV.q ((jK ⟨(-(b/(a+a))),(-(if ((1:Rat)/(a+a))<0 then-((1:Rat)/(a+a)) else ((1:Rat)/(a+a)))),((b*b)-(((4:Rat)*a)*c))⟩).b) ((64+(A+A+2)+2)+((B+B+2)+((64+A+2)+C+2)+2)+3)),(AV.q ((jK ⟨(-(b/(a+a))),(-(if ((1:Rat)/(a+a))<0 then-((1:Rat)/(a+a)) else ((1:Rat)/(a+a)))),((b*b)-(((4:Rat)*a)*c))⟩).d) (2*((B+B+2)+((64+A+2)+C+2)+2)+3))],[(AV.q ((jK ⟨(-(b/(a+a))),(if ((1:Rat)/(a+a))<0 then-((1:Rat)/(a+a)) else ((1:Rat)/(a+a))),((b*b)-(((4:Rat)*a)*c))⟩).a) ((B+(A+A+2)+2)+(64+(A+A+2)+2)+((B+B+2)+((64+A+2)+C+2)+2)+5)),(AV.q ((jK ⟨(-(b/(a+a))),(if ((1:Rat)/(a+a))<0 then-((1:Rat)/(a+a)) else ((1:Rat)/(a+a))),((b*b)-(((4:Rat)*a)*c))⟩).b) ((64+(A+A+2)+2)+((B+B+2)+((64+A+2)+C+2)+2)+3)),(AV.q ((jK ⟨(-(b/(a+a))),(if ((1:Rat)/(a+a))<0 then-((1:Rat)/(a+a)) else ((1:Rat)/(a+a))),((b*b)-(((4:Rat)*a)*c))⟩).d) (2*((B+B+2)+((64+A+2)+C+2)+2)+3))]]),(AV.int .i64 (0:Int))]) (.tup [.list 9 ((dV a b c).map (fP (5*A+4*B+2*C+300))),.i6 (if a=0/\b=0/\c=0 then 10 else 0)])
       rw[show(if a=0/\b=0/\c=0 then (10:Int) else 0)=0 from if_neg (fun h=>q2 _ h1 h.1),show dV a b c= [jK ⟨-(b/(a+a)),-(if 1/(a+a)<0 then-(1/(a+a)) else 1/(a+a)),b*b-4*a*c⟩,jK ⟨-(b/(a+a)),if 1/(a+a)<0 then-(1/(a+a)) else 1/(a+a),b*b-4*a*c⟩] by unfold dV;rw[if_neg (q2 _ h1),if_neg (q4 _ h2),if_neg (q2 _ h3)]];exact Ref.tup2 (Ref.list2 (RefC.cons qe (RefC.cons qe qe)) (RefC.cons qe (RefC.cons qe qe))) rr rfl rfl rfl rfl
def gH (a b d:Rat):Int:=if 0<=Int.sign a.num*(Int.sign b.num*Int.sign d.num) then (if Int.sign a.num≠0 then Int.sign a.num else Int.sign b.num*Int.sign d.num) else Int.sign a.num*kV (a*a) (b*b*d)
theorem oO (n:Int): -1<=Int.sign n/\Int.sign n<=1:=by
 rcases Int.lt_trichotomy n 0 with h | h | h
 · rw[Int.sign_eq_neg_one_of_neg h];omega
 · rw[h];decide
 · rw[Int.sign_eq_one_of_pos h];omega
theorem xS {x y:Int} (hx: -1<=x/\x<=1) (hy: -1<=y/\y<=1): -1<=x*y/\x*y<=1:=by
 have:x= -1\/x=0\/x=1:=by omega
 rcases this with rfl | rfl | rfl <;> omega
theorem IB (x y:Rat): -1<=kV x y/\kV x y<=1:=by unfold kV;split <;> (try split) <;> omega
theorem IC (a b d:Rat): -1<=gH a b d/\gH a b d<=1:=by
 unfold gH;have h1:=oO a.num;have h2:=xS (oO b.num) (oO d.num)
 split
 · split
   · exact h1
   · exact h2
 · exact xS h1 (IB _ _)
def Sk:KF
 | [.agg [.q a A,.q b B,.q d D]]=>some (.int .i64 (gH a b d),[2*A+2*B+D+600<=LIM])
 | _=>none
theorem Sl:bQ 271 Sk:=by
 refine cK Tryz.f271 fun _ _ _ S w0 h ho=> ?_
 unfold Sk at h;split at h <;> cases h;rename_i a A b B d D;have o1:=ho.one;have L:=dR;have K:=((kn.cons GT).cons Cn).cons Fp;have s1:=oO a.num;have s2:=xS (oO b.num) (oO d.num);have s3:=xS s1 s2;have s4:=xS s1 (IB (a*a) (b*b*d))
 by_cases h1:(0:Int)<=((Int.sign a.num)*((Int.sign b.num)*(Int.sign d.num)))
 · by_cases h2:(Int.sign a.num)=(0:Int)
   · exact rF K [(14,.i6 ((Int.sign b.num)*(Int.sign d.num))),(17,.i6 ((Int.sign a.num)*((Int.sign b.num)*(Int.sign d.num)))),(18,tt),(20,ff)] (.a4 (wI ((Int.sign b.num)*(Int.sign d.num)) ((Int.sign b.num)*(Int.sign d.num))) (wI ((Int.sign a.num)*((Int.sign b.num)*(Int.sign d.num))) ((Int.sign a.num)*((Int.sign b.num)*(Int.sign d.num)))) (iT h1) (jF h2)) (V:=.i6 ((Int.sign b.num)*(Int.sign d.num))) (Ref.int (by unfold gH;rw[if_pos h1,if_neg (fun h=>h h2)]))
   · exact rF K [(14,.i6 ((Int.sign b.num)*(Int.sign d.num))),(17,.i6 ((Int.sign a.num)*((Int.sign b.num)*(Int.sign d.num)))),(18,tt),(20,tt)] (.a4 (wI ((Int.sign b.num)*(Int.sign d.num)) ((Int.sign b.num)*(Int.sign d.num))) (wI ((Int.sign a.num)*((Int.sign b.num)*(Int.sign d.num))) ((Int.sign a.num)*((Int.sign b.num)*(Int.sign d.num)))) (iT h1) (jT h2)) (V:=.i6 (Int.sign a.num)) (Ref.int (by unfold gH;rw[if_pos h1,if_pos h2]))
 · exact rF K [(14,.i6 ((Int.sign b.num)*(Int.sign d.num))),(17,.i6 ((Int.sign a.num)*((Int.sign b.num)*(Int.sign d.num)))),(18,ff),(38,.i6 ((Int.sign a.num)*(kV (a*a) ((b*b)*d))))] (.c6 (wI ((Int.sign b.num)*(Int.sign d.num)) ((Int.sign b.num)*(Int.sign d.num))) (wI ((Int.sign a.num)*((Int.sign b.num)*(Int.sign d.num))) ((Int.sign a.num)*((Int.sign b.num)*(Int.sign d.num)))) (iF h1) (om (A+A+200<=LIM)) (om (B+B+200<=LIM)) (om ((B+B+2)+D+200<=LIM)) (.a2 (om ((A+A+2)+((B+B+2)+D+2)+200<=LIM)) (wI ((Int.sign a.num)*(kV (a*a) ((b*b)*d))) ((Int.sign a.num)*(kV (a*a) ((b*b)*d)))))) (V:=.i6 ((Int.sign a.num)*(kV (a*a) ((b*b)*d)))) (Ref.int (by unfold gH;rw[if_neg h1]))
def Sm:KF
 | [.agg [.q a A,.q b B,.q d D]]=>some (.tup [.int .i64 (if Int.sign d.num<0 then 0 else gH a b d),.int .i64 (if Int.sign d.num<0 then 8 else 0)],[2*A+2*B+D+600<=LIM])
 | _=>none
theorem UO:bQ 270 Sm:=by
 refine cK Tryz.f270 fun _ _ _ S w0 h ho=> ?_
 unfold Sm at h;split at h <;> cases h;rename_i a A b B d D;have o1:=ho.one;have K:=(kn.cons Sl).cons Cn
 by_cases h1:(Int.sign d.num)<(0:Int)
 · refine rF K [(7,tt)] (.a1 (iT h1)) (V:=.tup [.i6 (0:Int),.i6 (8:Int)]) ?_
   simp only[if_pos h1];exact rr
 · refine rF K [(7,ff)] (.a2 (iF h1) o1) (V:=.tup [.i6 (gH a b d),.i6 (0:Int)]) ?_
   simp only[if_neg h1];exact rr
def Sn:KF
 | [.agg [.q d D],.agg [.q a A,.q b B]]=>some (.bool (decide ((if Int.sign d.num<0 then 0 else gH a b d)=0)),[2*A+2*B+D+600<=LIM])
 | _=>none
theorem UP:bQ 215 Sn:=by
 refine cK Tryz.f215 fun _ _ _ S w0 h ho=> ?_
 unfold Sn at h;split at h <;> cases h;rename_i d D a A b B;have o1:=ho.one;have K:=kn.cons UO;exact rR K [] (.a1 o1)
def Dd (a b d c e f:Rat):Int:=
 if gH (a-c) b d<Int.sign e.num*Int.sign f.num then-1 else if Int.sign e.num*Int.sign f.num<gH (a-c) b d then 1 else if gH (a-c) b d=0 then 0 else
   gH (a-c) b d*gH ((a-c)*(a-c)+b*b*d-e*e*f) ((a-c)*b+(a-c)*b) d
def So:KF
 | [.agg [.q a A,.q b B,.q d D],.agg [.q c C,.q e E,.q f W]]=>some (.int .i64 (Dd a b d c e f),[8*A+8*C+8*B+4*D+4*E+2*W+2000<=LIM])
 | _=>none
theorem UQ:bQ 220 So:=by
 refine cK Tryz.f220 fun _ _ _ S w0 h ho=> ?_
 unfold So at h;split at h <;> cases h;rename_i a A b B d D c C e E f W;have o1:=ho.one;have L:=dR;have K:=((((kn.cons Sl).cons Cn).cons Fp).cons LB).cons Fr;have s1:=IC (a-c) b d;have s2:=xS (oO e.num) (oO f.num);have s3:=xS s1 (IC ((a-c)*(a-c)+b*b*d-e*e*f) ((a-c)*b+(a-c)*b) d);have v0:2*(A+C+2)+2*B+D+600<=LIM:=by omega
 have v1:A+C+200<=LIM:=by omega
 by_cases h1:(gH (a-c) b d)<((Int.sign e.num)*(Int.sign f.num))
 · exact rF K [(23,.i6 ((Int.sign e.num)*(Int.sign f.num))),(24,tt)] (.a4 v1 v0 (wI ((Int.sign e.num)*(Int.sign f.num)) ((Int.sign e.num)*(Int.sign f.num))) (iT h1)) (V:=.i6 (-1:Int)) (Ref.int (by unfold Dd;rw[if_pos h1]))
 · by_cases h2:((Int.sign e.num)*(Int.sign f.num))<(gH (a-c) b d)
   · exact rF K [(23,.i6 ((Int.sign e.num)*(Int.sign f.num))),(24,ff),(28,tt)] (.a5 v1 v0 (wI ((Int.sign e.num)*(Int.sign f.num)) ((Int.sign e.num)*(Int.sign f.num))) (iF h1) (iT h2)) (V:=.i6 (1:Int)) (Ref.int (by unfold Dd;rw[if_neg h1,if_pos h2]))
   · by_cases h3:(gH (a-c) b d)=(0:Int)
     · exact rF K [(23,.i6 ((Int.sign e.num)*(Int.sign f.num))),(24,ff),(28,ff),(32,tt)] (.a6 v1 v0 (wI ((Int.sign e.num)*(Int.sign f.num)) ((Int.sign e.num)*(Int.sign f.num))) (iF h1) (iF h2) (iT h3)) (V:=.i6 (0:Int)) (Ref.int (by unfold Dd;rw[if_neg h1,if_neg h2,if_pos h3]))
     · exact rF K [(23,.i6 ((Int.sign e.num)*(Int.sign f.num))),(24,ff),(28,ff),(32,ff),(72,.i6 ((gH (a-c) b d)*(gH ((((a-c)*(a-c))+((b*b)*d))-((e*e)*f)) (((a-c)*b)+((a-c)*b)) d)))] (.c6 v1 v0 (wI ((Int.sign e.num)*(Int.sign f.num)) ((Int.sign e.num)*(Int.sign f.num))) (iF h1) (iF h2) (iF h3) (.c6 (om ((A+C+2)+B+200<=LIM)) (om ((A+C+2)+(A+C+2)+200<=LIM)) (om (B+B+200<=LIM)) (om ((B+B+2)+D+200<=LIM)) (om (((A+C+2)+(A+C+2)+2)+((B+B+2)+D+2)+200<=LIM)) (om (E+E+200<=LIM)) (.a5 (om ((E+E+2)+W+200<=LIM)) (om ((((A+C+2)+(A+C+2)+2)+((B+B+2)+D+2)+2)+((E+E+2)+W+2)+200<=LIM)) (om (((A+C+2)+B+2)+((A+C+2)+B+2)+200<=LIM)) (om (2*((((A+C+2)+(A+C+2)+2)+((B+B+2)+D+2)+2)+((E+E+2)+W+2)+2)+2*(((A+C+2)+B+2)+((A+C+2)+B+2)+2)+D+600<=LIM)) (wI ((gH (a-c) b d)*(gH ((((a-c)*(a-c))+((b*b)*d))-((e*e)*f)) (((a-c)*b)+((a-c)*b)) d)) ((gH (a-c) b d)*(gH ((((a-c)*(a-c))+((b*b)*d))-((e*e)*f)) (((a-c)*b)+((a-c)*b)) d)))))) (V:=.i6 ((gH (a-c) b d)*(gH ((((a-c)*(a-c))+((b*b)*d))-((e*e)*f)) (((a-c)*b)+((a-c)*b)) d))) (Ref.int (by unfold Dd;rw[if_neg h1,if_neg h2,if_neg h3]))
def Li (d f:Rat):Int:=if Int.sign d.num<0\/Int.sign f.num<0 then 8 else 0
def Ch (a b d c e f:Rat):Int:=if Int.sign d.num<0\/Int.sign f.num<0 then 0 else Dd a b d c e f
def Sp:KF
 | [.agg [.q a A,.q b B,.q d D],.agg [.q c C,.q e E,.q f W]]=>some (.tup [.int .i64 (Ch a b d c e f),.int .i64 (Li d f)],[8*A+8*C+8*B+4*D+4*E+2*W+2000<=LIM])
 | _=>none
theorem UR:bQ 132 Sp:=by
 refine cK Tryz.f132 fun _ _ _ S w0 h ho=> ?_
 unfold Sp at h;split at h <;> cases h;rename_i a A b B d D c C e E f W;have o1:=ho.one;have K:=(kn.cons UQ).cons Cn
 by_cases h1:(Int.sign d.num)<(0:Int)
 · refine rF K [(10,tt)] (.a1 (iT h1)) (V:=.tup [.i6 (0:Int),.i6 (8:Int)]) ?_
   simp only[Ch,Li,if_pos (Or.inl h1)];exact rr
 · by_cases h2:(Int.sign f.num)<(0:Int)
   · refine rF K [(10,ff),(15,tt)] (.a2 (iF h1) (iT h2)) (V:=.tup [.i6 (0:Int),.i6 (8:Int)]) ?_
     simp only[Ch,Li,if_pos (Or.inr h2)];exact rr
   · refine rF K [(10,ff),(15,ff)] (.a3 (iF h1) (iF h2) o1) (V:=.tup [.i6 (Dd a b d c e f),.i6 (0:Int)]) ?_
     simp only[Ch,Li,if_neg (not_or.2 ⟨h1,h2⟩)];exact rr
def bA (lo hi:Rat) (t:Sd):Bool:=decide (0<=Ch t.a t.b t.d lo 0 0/\Ch t.a t.b t.d hi 0 0<=0)
def Sq:KF
 | [.agg [.str nm,.int .i64 pr,.q bx B1,.q bz B2,.q ma B3,.q ie B4,.q cx B5,.q cz B6,.q lo B7,.q hi B8,.list 6 SH],.agg [.q a A,.q b B,.q d D]]=>some (.bool (bA lo hi ⟨a,b,d⟩),[8*A+8*B7+8*B8+8*B+4*D+2000<=LIM])
 | _=>none
theorem US:bQ 218 Sq:=by
 refine cK Tryz.f218 fun _ _ _ S w0 h ho=> ?_
 unfold Sq at h;split at h <;> cases h;rename_i nm pr bx B1 bz B2 ma B3 ie B4 cx B5 cz B6 lo B7 hi B8 SH a A b B d D;have o1:=ho.one;have L:=dR;have K:=kn.cons UR;have v0:8*A+8*B7+8*B+4*D+4*0+2*0+2000<=LIM:=by omega
 have v1:8*A+8*B8+8*B+4*D+4*0+2*0+2000<=LIM:=by omega
 by_cases h1:(0:Int)<=(Ch a b d lo 0 0)
 · exact rF K [(27,tt)] (.a3 v0 v1 (iT h1)) (V:=.bool (decide ((Ch a b d hi 0 0)<=(0:Int)))) (Ref.bool (by unfold bA;simp[h1]))
 · exact rF K [(27,ff)] (.a3 v0 v1 (iF h1)) (V:=.bool false) (Ref.bool (by unfold bA;simp[h1]))
def eK:=((((((((((((((((((kn.cons US).cons NG).cons RU).cons UP).cons Lf).cons UN).cons Qb).cons TR).cons UL).cons UK).cons NF).cons Ld).cons UD).cons UC).cons UB).cons Cn).cons Fp).cons LB).cons Fr
end Go.Av
