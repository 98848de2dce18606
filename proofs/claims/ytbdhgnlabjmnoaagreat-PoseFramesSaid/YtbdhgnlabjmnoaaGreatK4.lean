/- PoseFrames: a part of its proof. No condition. -/
import Derived.Test.YtbdhgnlabjmnoaaGreatK3
set_option linter.all false
set_option maxRecDepth 100000
set_option autoImplicit true
set_option relaxedAutoImplicit true
namespace Go.Av
open Go.Proofs Go.RowKit
theorem p71_1_1 {S0 C0:Nat → Prop} {w0:World} {Post:Value → World → Prop} (m:MachD) (p:PoseD) (XS XT XD XF:List (List AV)) (jb:Nat) (f f2:FrameD) (e e2 i j:Nat) (A:List (List AV)) (v:BodyD) (t:Rat) (h1:¬ (((i:Nat):Int)<(((m.bodies.map (unRBody 300)).length:Nat):Int)))
    (hg:Good Tryz.prog 71 S0 C0 w0 Post [.code .ret] ⟨slots 54 [(2,(AV.ptr 0 5 0 0)),(3,(AV.ptr 1 13 0 0)),(4,(AV.own 2 16 0 i)),(5,(AV.own 2 16 0 i)),(6,(AV.int .i64 ((i:Nat):Int)))],[some ⟨48,5,false,[[(AV.list 34 (m.bodies.map (unRBody 300))),(AV.list 22 XS),(AV.list 22 XT),(AV.list 17 XD),(AV.list 6 XF)]],none⟩,some ⟨71,13,false,[[(AV.rq p.at_.x p.at_.x.den jb),(AV.rq p.at_.z p.at_.z.den jb),(AV.rq p.turn p.turn.den jb),(AV.list 4 (p.joints.map (unRQ jb)))]],none⟩,some ⟨179,16,true,A,none⟩]⟩):
    Good Tryz.prog 71 S0 C0 w0 Post [.code (nav [1,1,0,1,0,0] (bodyOf Tryz.f71)),.inLoop (nav [1,1,0,1,0,0] (bodyOf Tryz.f71)),.inBlock 0,.code (nav [1,1,1] (bodyOf Tryz.f71))] ⟨slots 54 [(2,(AV.ptr 0 5 0 0)),(3,(AV.ptr 1 13 0 0)),(5,(AV.own 2 16 0 i)),(6,(AV.int .i64 ((i:Nat):Int)))],[some ⟨48,5,false,[[(AV.list 34 (m.bodies.map (unRBody 300))),(AV.list 22 XS),(AV.list 22 XT),(AV.list 17 XD),(AV.list 6 XF)]],none⟩,some ⟨71,13,false,[[(AV.rq p.at_.x p.at_.x.den jb),(AV.rq p.at_.z p.at_.z.den jb),(AV.rq p.turn p.turn.den jb),(AV.list 4 (p.joints.map (unRQ jb)))]],none⟩,some ⟨179,16,true,A,none⟩]⟩:=
  go mixed TT0_ok KT71_ok 12 none [2,3,4,5,6] [(19,(AV.bool false))] (ob:=[Ref (AV.bool (decide (((i:Nat):Int)<(((m.bodies.map (unRBody 300)).length:Nat):Int)))) (.bool false)]) (by kernel_rfl)
    (.cons (Ref.bool (decide_eq_false h1)) (AllP.nil)) hg
theorem p71_1_0 {S0 C0:Nat → Prop} {w0:World} {Post:Value → World → Prop} (m:MachD) (p:PoseD) (XS XT XD XF:List (List AV)) (jb:Nat) (f f2:FrameD) (e e2 i j:Nat) (A:List (List AV)) (v:BodyD) (t:Rat) (h1:((i:Nat):Int)<(((m.bodies.map (unRBody 300)).length:Nat):Int)) (o:(Ref (AV.cptr ((m.bodies.map (unRBody 300)).getD i []) 0) (AV.cptr [(AV.int .i64 v.par),(AV.rq v.at_.x v.at_.x.den 300),(AV.rq v.at_.z v.at_.z.den 300),(AV.rq v.ma v.ma.den 300),(AV.rq v.inr v.inr.den 300),(AV.rq v.c.x v.c.x.den 300),(AV.rq v.c.z v.c.z.den 300),(AV.rq v.low v.low.den 300),(AV.rq v.high v.high.den 300),(AV.list 8 (v.shape.map (unRP 300)))] 0))∧(((i:Nat):Int)<(((m.bodies.map (unRBody 300)).length:Nat):Int))∧(Ref (AV.int .i64 v.par) (AV.int .i64 ((j:Nat):Int)))∧(((j:Nat):Int)<((i:Nat):Int))∧(Ref (AV.agg (A.getD (0+j) [])) (AV.agg [(AV.rq f.at_.x f.at_.x.den (2*e+1)),(AV.rq f.at_.z f.at_.z.den (2*e+1)),(AV.rq f.c f.c.den (e+1)),(AV.rq f.s f.s.den (e+1))]))∧(0+j<A.length)∧(8*max 300 64+8*max 300 64+8*max (e+1) 64+8*max (e+1) 64+8*max (2*e+1) 64+8*max (2*e+1) 64+2000≤LIM)∧(Ref (AV.int .i64 (IntKind.i64.wrap (((i:Nat):Int)-(1:Int)))) (AV.int .i64 ((i-1:Nat):Int)))∧(Ref (AV.cptr ((p.joints.map (unRQ jb)).getD (i-1) []) 0) (AV.cptr [(AV.rq t t.den jb)] 0))∧(((i-1:Nat):Int)<(((p.joints.map (unRQ jb)).length:Nat):Int))∧(40*max jb 64+5000≤LIM)∧(((turnC t).den)=(turnC t).den)∧(((turnS' t).den)=(turnS' t).den)∧(8*max (e+1) 64+8*max (e+1) 64+8*max (8*max jb 64+500) 64+8*max (8*max jb 64+500) 64+2000≤LIM)∧(Ref (AV.agg [(AV.rq (f.at_.x+(f.c*v.at_.x-f.s*v.at_.z)) ((f.at_.x+(f.c*v.at_.x-f.s*v.at_.z)).den) (max (2*e+1) 64+max 300 64+max 300 64+max (e+1) 64+max (e+1) 64+1+1)),(AV.rq (f.at_.z+(f.s*v.at_.x+f.c*v.at_.z)) ((f.at_.z+(f.s*v.at_.x+f.c*v.at_.z)).den) (max (2*e+1) 64+max 300 64+max 300 64+max (e+1) 64+max (e+1) 64+1+1)),(AV.rq (f.c*(turnC t)-f.s*(turnS' t)) ((f.c*(turnC t)-f.s*(turnS' t)).den) (max (e+1) 64+max (e+1) 64+max (8*max jb 64+500) 64+max (8*max jb 64+500) 64+1)),(AV.rq (f.s*(turnC t)+f.c*(turnS' t)) ((f.s*(turnC t)+f.c*(turnS' t)).den) (max (e+1) 64+max (e+1) 64+max (8*max jb 64+500) 64+max (8*max jb 64+500) 64+1))]) (AV.agg [(AV.rq f2.at_.x f2.at_.x.den (2*e2+1)),(AV.rq f2.at_.z f2.at_.z.den (2*e2+1)),(AV.rq f2.c f2.c.den (e2+1)),(AV.rq f2.s f2.s.den (e2+1))]))∧(i=A.length)∧((i+1)*256≤140737488355328)∧(i+1≤big)∧(-9223372036854775808≤((i:Nat):Int)+(1:Int)∧((i:Nat):Int)+(1:Int)≤9223372036854775807))
    (hg:Good Tryz.prog 71 S0 C0 w0 Post [.code (nav [1,1,0,1,0,0] (bodyOf Tryz.f71)),.inLoop (nav [1,1,0,1,0,0] (bodyOf Tryz.f71)),.inBlock 0,.code (nav [1,1,1] (bodyOf Tryz.f71))] ⟨slots 54 [(2,(AV.ptr 0 5 0 0)),(3,(AV.ptr 1 13 0 0)),(5,(AV.own 2 16 0 (i+1))),(6,(AV.int .i64 ((i+1:Nat):Int)))],[some ⟨48,5,false,[[(AV.list 34 (m.bodies.map (unRBody 300))),(AV.list 22 XS),(AV.list 22 XT),(AV.list 17 XD),(AV.list 6 XF)]],none⟩,some ⟨71,13,false,[[(AV.rq p.at_.x p.at_.x.den jb),(AV.rq p.at_.z p.at_.z.den jb),(AV.rq p.turn p.turn.den jb),(AV.list 4 (p.joints.map (unRQ jb)))]],none⟩,some ⟨179,16,true,(A++ [[(AV.rq f2.at_.x f2.at_.x.den (2*e2+1)),(AV.rq f2.at_.z f2.at_.z.den (2*e2+1)),(AV.rq f2.c f2.c.den (e2+1)),(AV.rq f2.s f2.s.den (e2+1))]]),none⟩]⟩):
    Good Tryz.prog 71 S0 C0 w0 Post [.code (nav [1,1,0,1,0,0] (bodyOf Tryz.f71)),.inLoop (nav [1,1,0,1,0,0] (bodyOf Tryz.f71)),.inBlock 0,.code (nav [1,1,1] (bodyOf Tryz.f71))] ⟨slots 54 [(2,(AV.ptr 0 5 0 0)),(3,(AV.ptr 1 13 0 0)),(5,(AV.own 2 16 0 i)),(6,(AV.int .i64 ((i:Nat):Int)))],[some ⟨48,5,false,[[(AV.list 34 (m.bodies.map (unRBody 300))),(AV.list 22 XS),(AV.list 22 XT),(AV.list 17 XD),(AV.list 6 XF)]],none⟩,some ⟨71,13,false,[[(AV.rq p.at_.x p.at_.x.den jb),(AV.rq p.at_.z p.at_.z.den jb),(AV.rq p.turn p.turn.den jb),(AV.list 4 (p.joints.map (unRQ jb)))]],none⟩,some ⟨179,16,true,A,none⟩]⟩:=
  goR mixed TT0_ok KT71_ok 18 none [2,3,4,5,6] [0,1,8] [(19,(AV.bool true)),(26,(AV.cptr [(AV.int .i64 v.par),(AV.rq v.at_.x v.at_.x.den 300),(AV.rq v.at_.z v.at_.z.den 300),(AV.rq v.ma v.ma.den 300),(AV.rq v.inr v.inr.den 300),(AV.rq v.c.x v.c.x.den 300),(AV.rq v.c.z v.c.z.den 300),(AV.rq v.low v.low.den 300),(AV.rq v.high v.high.den 300),(AV.list 8 (v.shape.map (unRP 300)))] 0)),(28,(AV.int .i64 ((j:Nat):Int))),(30,(AV.agg [(AV.rq f.at_.x f.at_.x.den (2*e+1)),(AV.rq f.at_.z f.at_.z.den (2*e+1)),(AV.rq f.c f.c.den (e+1)),(AV.rq f.s f.s.den (e+1))])),(36,(AV.cptr [(AV.int .i64 v.par),(AV.rq v.at_.x v.at_.x.den 300),(AV.rq v.at_.z v.at_.z.den 300),(AV.rq v.ma v.ma.den 300),(AV.rq v.inr v.inr.den 300),(AV.rq v.c.x v.c.x.den 300),(AV.rq v.c.z v.c.z.den 300),(AV.rq v.low v.low.den 300),(AV.rq v.high v.high.den 300),(AV.list 8 (v.shape.map (unRP 300)))] 0)),(45,(AV.int .i64 ((i-1:Nat):Int))),(46,(AV.cptr [(AV.rq t t.den jb)] 0)),(50,(AV.agg [(AV.rq f2.at_.x f2.at_.x.den (2*e2+1)),(AV.rq f2.at_.z f2.at_.z.den (2*e2+1)),(AV.rq f2.c f2.c.den (e2+1)),(AV.rq f2.s f2.s.den (e2+1))])),(21,(AV.int .i64 ((i+1:Nat):Int)))] (ob:=[Ref (AV.bool (decide (((i:Nat):Int)<(((m.bodies.map (unRBody 300)).length:Nat):Int)))) (.bool true),Ref (AV.cptr ((m.bodies.map (unRBody 300)).getD i []) 0) (AV.cptr [(AV.int .i64 v.par),(AV.rq v.at_.x v.at_.x.den 300),(AV.rq v.at_.z v.at_.z.den 300),(AV.rq v.ma v.ma.den 300),(AV.rq v.inr v.inr.den 300),(AV.rq v.c.x v.c.x.den 300),(AV.rq v.c.z v.c.z.den 300),(AV.rq v.low v.low.den 300),(AV.rq v.high v.high.den 300),(AV.list 8 (v.shape.map (unRP 300)))] 0),0≤((i:Nat):Int),((i:Nat):Int)<(((m.bodies.map (unRBody 300)).length:Nat):Int),Ref (AV.int .i64 v.par) (AV.int .i64 ((j:Nat):Int)),0≤((j:Nat):Int),((j:Nat):Int)<((i:Nat):Int),Ref (AV.agg (A.getD (0+j) [])) (AV.agg [(AV.rq f.at_.x f.at_.x.den (2*e+1)),(AV.rq f.at_.z f.at_.z.den (2*e+1)),(AV.rq f.c f.c.den (e+1)),(AV.rq f.s f.s.den (e+1))]),0+j<A.length,Ref (AV.cptr ((m.bodies.map (unRBody 300)).getD i []) 0) (AV.cptr [(AV.int .i64 v.par),(AV.rq v.at_.x v.at_.x.den 300),(AV.rq v.at_.z v.at_.z.den 300),(AV.rq v.ma v.ma.den 300),(AV.rq v.inr v.inr.den 300),(AV.rq v.c.x v.c.x.den 300),(AV.rq v.c.z v.c.z.den 300),(AV.rq v.low v.low.den 300),(AV.rq v.high v.high.den 300),(AV.list 8 (v.shape.map (unRP 300)))] 0),0≤((i:Nat):Int),((i:Nat):Int)<(((m.bodies.map (unRBody 300)).length:Nat):Int),f.at_.x.den=f.at_.x.den,f.at_.z.den=f.at_.z.den,f.c.den=f.c.den,f.s.den=f.s.den,v.at_.x.den=v.at_.x.den,v.at_.z.den=v.at_.z.den,8*max 300 64+8*max 300 64+8*max (e+1) 64+8*max (e+1) 64+8*max (2*e+1) 64+8*max (2*e+1) 64+2000≤LIM,Ref (AV.int .i64 (IntKind.i64.wrap (((i:Nat):Int)-(1:Int)))) (AV.int .i64 ((i-1:Nat):Int)),Ref (AV.cptr ((p.joints.map (unRQ jb)).getD (i-1) []) 0) (AV.cptr [(AV.rq t t.den jb)] 0),0≤((i-1:Nat):Int),((i-1:Nat):Int)<(((p.joints.map (unRQ jb)).length:Nat):Int),t.den=t.den,40*max jb 64+5000≤LIM,f.c.den=f.c.den,f.s.den=f.s.den,((turnC t).den)=(turnC t).den,((turnS' t).den)=(turnS' t).den,8*max (e+1) 64+8*max (e+1) 64+8*max (8*max jb 64+500) 64+8*max (8*max jb 64+500) 64+2000≤LIM,Ref (AV.agg [(AV.rq (f.at_.x+(f.c*v.at_.x-f.s*v.at_.z)) ((f.at_.x+(f.c*v.at_.x-f.s*v.at_.z)).den) (max (2*e+1) 64+max 300 64+max 300 64+max (e+1) 64+max (e+1) 64+1+1)),(AV.rq (f.at_.z+(f.s*v.at_.x+f.c*v.at_.z)) ((f.at_.z+(f.s*v.at_.x+f.c*v.at_.z)).den) (max (2*e+1) 64+max 300 64+max 300 64+max (e+1) 64+max (e+1) 64+1+1)),(AV.rq (f.c*(turnC t)-f.s*(turnS' t)) ((f.c*(turnC t)-f.s*(turnS' t)).den) (max (e+1) 64+max (e+1) 64+max (8*max jb 64+500) 64+max (8*max jb 64+500) 64+1)),(AV.rq (f.s*(turnC t)+f.c*(turnS' t)) ((f.s*(turnC t)+f.c*(turnS' t)).den) (max (e+1) 64+max (e+1) 64+max (8*max jb 64+500) 64+max (8*max jb 64+500) 64+1))]) (AV.agg [(AV.rq f2.at_.x f2.at_.x.den (2*e2+1)),(AV.rq f2.at_.z f2.at_.z.den (2*e2+1)),(AV.rq f2.c f2.c.den (e2+1)),(AV.rq f2.s f2.s.den (e2+1))]),1=1,i=A.length,(i+1)*256≤140737488355328,i+1≤big,Ref (AV.int .i64 (IntKind.i64.wrap (((i:Nat):Int)+(1:Int)))) (AV.int .i64 ((i+1:Nat):Int))]) (by decide) (by kernel_rfl)
    (.cons (Ref.bool (decide_eq_true h1)) (.cons (o.1) (.cons (Int.natCast_nonneg _) (.cons (o.2.1) (.cons (o.2.2.1) (.cons (Int.natCast_nonneg _) (.cons (o.2.2.2.1) (.cons (o.2.2.2.2.1) (.cons (o.2.2.2.2.2.1) (.cons (o.1) (.cons (Int.natCast_nonneg _) (.cons (o.2.1) (.cons (rfl) (.cons (rfl) (.cons (rfl) (.cons (rfl) (.cons (rfl) (.cons (rfl) (.cons (o.2.2.2.2.2.2.1) (.cons (o.2.2.2.2.2.2.2.1) (.cons (o.2.2.2.2.2.2.2.2.1) (.cons (Int.natCast_nonneg _) (.cons (o.2.2.2.2.2.2.2.2.2.1) (.cons (rfl) (.cons (o.2.2.2.2.2.2.2.2.2.2.1) (.cons (rfl) (.cons (rfl) (.cons (o.2.2.2.2.2.2.2.2.2.2.2.1) (.cons (o.2.2.2.2.2.2.2.2.2.2.2.2.1) (.cons (o.2.2.2.2.2.2.2.2.2.2.2.2.2.1) (.cons (o.2.2.2.2.2.2.2.2.2.2.2.2.2.2.1) (.cons (rfl) (.cons (o.2.2.2.2.2.2.2.2.2.2.2.2.2.2.2.1) (.cons (o.2.2.2.2.2.2.2.2.2.2.2.2.2.2.2.2.1) (.cons (o.2.2.2.2.2.2.2.2.2.2.2.2.2.2.2.2.2.1) (.cons ((Ref.wr o.2.2.2.2.2.2.2.2.2.2.2.2.2.2.2.2.2.2).trans (Ref.int (by first | rfl | omega | simp))) (AllP.nil))))))))))))))))))))))))))))))))))))) hg
theorem p71_2_0 {S0 C0:Nat → Prop} {w0:World} {Post:Value → World → Prop} (m:MachD) (p:PoseD) (XS XT XD XF:List (List AV)) (jb:Nat) (f f2:FrameD) (e e2:Nat) (v:BodyD) (t:Rat) (h1:(1:Int)<(((m.bodies.map (unRBody 300)).length:Nat):Int)) (o:(Ref (AV.cptr ((m.bodies.map (unRBody 300)).getD 1 []) 0) (AV.cptr [(AV.int .i64 v.par),(AV.rq v.at_.x v.at_.x.den 300),(AV.rq v.at_.z v.at_.z.den 300),(AV.rq v.ma v.ma.den 300),(AV.rq v.inr v.inr.den 300),(AV.rq v.c.x v.c.x.den 300),(AV.rq v.c.z v.c.z.den 300),(AV.rq v.low v.low.den 300),(AV.rq v.high v.high.den 300),(AV.list 8 (v.shape.map (unRP 300)))] 0))∧((1:Int)<(((m.bodies.map (unRBody 300)).length:Nat):Int))∧(Ref (AV.int .i64 v.par) (AV.int .i64 (0:Int)))∧(Ref (AV.agg [(AV.rq f.at_.x f.at_.x.den (2*e+1)),(AV.rq f.at_.z f.at_.z.den (2*e+1)),(AV.rq f.c f.c.den (e+1)),(AV.rq f.s f.s.den (e+1))]) (AV.agg [(AV.rq f.at_.x f.at_.x.den (2*e+1)),(AV.rq f.at_.z f.at_.z.den (2*e+1)),(AV.rq f.c f.c.den (e+1)),(AV.rq f.s f.s.den (e+1))]))∧(8*max 300 64+8*max 300 64+8*max (e+1) 64+8*max (e+1) 64+8*max (2*e+1) 64+8*max (2*e+1) 64+2000≤LIM)∧(Ref (AV.int .i64 (0:Int)) (AV.int .i64 (0:Int)))∧(Ref (AV.cptr ((p.joints.map (unRQ jb)).getD 0 []) 0) (AV.cptr [(AV.rq t t.den jb)] 0))∧((0:Int)<(((p.joints.map (unRQ jb)).length:Nat):Int))∧(40*max jb 64+5000≤LIM)∧(((turnC t).den)=(turnC t).den)∧(((turnS' t).den)=(turnS' t).den)∧(8*max (e+1) 64+8*max (e+1) 64+8*max (8*max jb 64+500) 64+8*max (8*max jb 64+500) 64+2000≤LIM)∧(Ref (AV.agg [(AV.rq (f.at_.x+(f.c*v.at_.x-f.s*v.at_.z)) ((f.at_.x+(f.c*v.at_.x-f.s*v.at_.z)).den) (max (2*e+1) 64+max 300 64+max 300 64+max (e+1) 64+max (e+1) 64+1+1)),(AV.rq (f.at_.z+(f.s*v.at_.x+f.c*v.at_.z)) ((f.at_.z+(f.s*v.at_.x+f.c*v.at_.z)).den) (max (2*e+1) 64+max 300 64+max 300 64+max (e+1) 64+max (e+1) 64+1+1)),(AV.rq (f.c*(turnC t)-f.s*(turnS' t)) ((f.c*(turnC t)-f.s*(turnS' t)).den) (max (e+1) 64+max (e+1) 64+max (8*max jb 64+500) 64+max (8*max jb 64+500) 64+1)),(AV.rq (f.s*(turnC t)+f.c*(turnS' t)) ((f.s*(turnC t)+f.c*(turnS' t)).den) (max (e+1) 64+max (e+1) 64+max (8*max jb 64+500) 64+max (8*max jb 64+500) 64+1))]) (AV.agg [(AV.rq f2.at_.x f2.at_.x.den (2*e2+1)),(AV.rq f2.at_.z f2.at_.z.den (2*e2+1)),(AV.rq f2.c f2.c.den (e2+1)),(AV.rq f2.s f2.s.den (e2+1))]))∧((2)*256≤140737488355328)∧(2≤big))
    (hg:Good Tryz.prog 71 S0 C0 w0 Post [.code (nav [1,1,0,1,0,0] (bodyOf Tryz.f71)),.inLoop (nav [1,1,0,1,0,0] (bodyOf Tryz.f71)),.inBlock 0,.code (nav [1,1,1] (bodyOf Tryz.f71))] ⟨slots 54 [(2,(AV.ptr 0 5 0 0)),(3,(AV.ptr 1 13 0 0)),(5,(AV.own 2 16 0 2)),(6,(AV.int .i64 (2:Int)))],[some ⟨48,5,false,[[(AV.list 34 (m.bodies.map (unRBody 300))),(AV.list 22 XS),(AV.list 22 XT),(AV.list 17 XD),(AV.list 6 XF)]],none⟩,some ⟨71,13,false,[[(AV.rq p.at_.x p.at_.x.den jb),(AV.rq p.at_.z p.at_.z.den jb),(AV.rq p.turn p.turn.den jb),(AV.list 4 (p.joints.map (unRQ jb)))]],none⟩,some ⟨179,16,true,[[(AV.rq f.at_.x f.at_.x.den (2*e+1)),(AV.rq f.at_.z f.at_.z.den (2*e+1)),(AV.rq f.c f.c.den (e+1)),(AV.rq f.s f.s.den (e+1))],[(AV.rq f2.at_.x f2.at_.x.den (2*e2+1)),(AV.rq f2.at_.z f2.at_.z.den (2*e2+1)),(AV.rq f2.c f2.c.den (e2+1)),(AV.rq f2.s f2.s.den (e2+1))]],none⟩]⟩):
    Good Tryz.prog 71 S0 C0 w0 Post [.code (nav [1,1,0,1,0,0] (bodyOf Tryz.f71)),.inLoop (nav [1,1,0,1,0,0] (bodyOf Tryz.f71)),.inBlock 0,.code (nav [1,1,1] (bodyOf Tryz.f71))] ⟨slots 54 [(2,(AV.ptr 0 5 0 0)),(3,(AV.ptr 1 13 0 0)),(5,(AV.own 2 16 0 1)),(6,(AV.int .i64 (1:Int)))],[some ⟨48,5,false,[[(AV.list 34 (m.bodies.map (unRBody 300))),(AV.list 22 XS),(AV.list 22 XT),(AV.list 17 XD),(AV.list 6 XF)]],none⟩,some ⟨71,13,false,[[(AV.rq p.at_.x p.at_.x.den jb),(AV.rq p.at_.z p.at_.z.den jb),(AV.rq p.turn p.turn.den jb),(AV.list 4 (p.joints.map (unRQ jb)))]],none⟩,some ⟨179,16,false,[[(AV.rq f.at_.x f.at_.x.den (2*e+1)),(AV.rq f.at_.z f.at_.z.den (2*e+1)),(AV.rq f.c f.c.den (e+1)),(AV.rq f.s f.s.den (e+1))]],none⟩]⟩:=
  goR mixed TT0_ok KT71_ok 18 none [2,3,4,5,6] [0,1,8] [(19,(AV.bool true)),(26,(AV.cptr [(AV.int .i64 v.par),(AV.rq v.at_.x v.at_.x.den 300),(AV.rq v.at_.z v.at_.z.den 300),(AV.rq v.ma v.ma.den 300),(AV.rq v.inr v.inr.den 300),(AV.rq v.c.x v.c.x.den 300),(AV.rq v.c.z v.c.z.den 300),(AV.rq v.low v.low.den 300),(AV.rq v.high v.high.den 300),(AV.list 8 (v.shape.map (unRP 300)))] 0)),(28,(AV.int .i64 (0:Int))),(30,(AV.agg [(AV.rq f.at_.x f.at_.x.den (2*e+1)),(AV.rq f.at_.z f.at_.z.den (2*e+1)),(AV.rq f.c f.c.den (e+1)),(AV.rq f.s f.s.den (e+1))])),(36,(AV.cptr [(AV.int .i64 v.par),(AV.rq v.at_.x v.at_.x.den 300),(AV.rq v.at_.z v.at_.z.den 300),(AV.rq v.ma v.ma.den 300),(AV.rq v.inr v.inr.den 300),(AV.rq v.c.x v.c.x.den 300),(AV.rq v.c.z v.c.z.den 300),(AV.rq v.low v.low.den 300),(AV.rq v.high v.high.den 300),(AV.list 8 (v.shape.map (unRP 300)))] 0)),(45,(AV.int .i64 (0:Int))),(46,(AV.cptr [(AV.rq t t.den jb)] 0)),(50,(AV.agg [(AV.rq f2.at_.x f2.at_.x.den (2*e2+1)),(AV.rq f2.at_.z f2.at_.z.den (2*e2+1)),(AV.rq f2.c f2.c.den (e2+1)),(AV.rq f2.s f2.s.den (e2+1))]))] (ob:=[Ref (AV.bool (decide ((1:Int)<(((m.bodies.map (unRBody 300)).length:Nat):Int)))) (.bool true),Ref (AV.cptr ((m.bodies.map (unRBody 300)).getD 1 []) 0) (AV.cptr [(AV.int .i64 v.par),(AV.rq v.at_.x v.at_.x.den 300),(AV.rq v.at_.z v.at_.z.den 300),(AV.rq v.ma v.ma.den 300),(AV.rq v.inr v.inr.den 300),(AV.rq v.c.x v.c.x.den 300),(AV.rq v.c.z v.c.z.den 300),(AV.rq v.low v.low.den 300),(AV.rq v.high v.high.den 300),(AV.list 8 (v.shape.map (unRP 300)))] 0),0≤(1:Int),(1:Int)<(((m.bodies.map (unRBody 300)).length:Nat):Int),Ref (AV.int .i64 v.par) (AV.int .i64 (0:Int)),0≤(0:Int),(0:Int)<1,Ref (AV.agg [(AV.rq f.at_.x f.at_.x.den (2*e+1)),(AV.rq f.at_.z f.at_.z.den (2*e+1)),(AV.rq f.c f.c.den (e+1)),(AV.rq f.s f.s.den (e+1))]) (AV.agg [(AV.rq f.at_.x f.at_.x.den (2*e+1)),(AV.rq f.at_.z f.at_.z.den (2*e+1)),(AV.rq f.c f.c.den (e+1)),(AV.rq f.s f.s.den (e+1))]),Ref (AV.cptr ((m.bodies.map (unRBody 300)).getD 1 []) 0) (AV.cptr [(AV.int .i64 v.par),(AV.rq v.at_.x v.at_.x.den 300),(AV.rq v.at_.z v.at_.z.den 300),(AV.rq v.ma v.ma.den 300),(AV.rq v.inr v.inr.den 300),(AV.rq v.c.x v.c.x.den 300),(AV.rq v.c.z v.c.z.den 300),(AV.rq v.low v.low.den 300),(AV.rq v.high v.high.den 300),(AV.list 8 (v.shape.map (unRP 300)))] 0),0≤(1:Int),(1:Int)<(((m.bodies.map (unRBody 300)).length:Nat):Int),f.at_.x.den=f.at_.x.den,f.at_.z.den=f.at_.z.den,f.c.den=f.c.den,f.s.den=f.s.den,v.at_.x.den=v.at_.x.den,v.at_.z.den=v.at_.z.den,8*max 300 64+8*max 300 64+8*max (e+1) 64+8*max (e+1) 64+8*max (2*e+1) 64+8*max (2*e+1) 64+2000≤LIM,Ref (AV.int .i64 (0:Int)) (AV.int .i64 (0:Int)),Ref (AV.cptr ((p.joints.map (unRQ jb)).getD 0 []) 0) (AV.cptr [(AV.rq t t.den jb)] 0),0≤(0:Int),(0:Int)<(((p.joints.map (unRQ jb)).length:Nat):Int),t.den=t.den,40*max jb 64+5000≤LIM,f.c.den=f.c.den,f.s.den=f.s.den,((turnC t).den)=(turnC t).den,((turnS' t).den)=(turnS' t).den,8*max (e+1) 64+8*max (e+1) 64+8*max (8*max jb 64+500) 64+8*max (8*max jb 64+500) 64+2000≤LIM,Ref (AV.agg [(AV.rq (f.at_.x+(f.c*v.at_.x-f.s*v.at_.z)) ((f.at_.x+(f.c*v.at_.x-f.s*v.at_.z)).den) (max (2*e+1) 64+max 300 64+max 300 64+max (e+1) 64+max (e+1) 64+1+1)),(AV.rq (f.at_.z+(f.s*v.at_.x+f.c*v.at_.z)) ((f.at_.z+(f.s*v.at_.x+f.c*v.at_.z)).den) (max (2*e+1) 64+max 300 64+max 300 64+max (e+1) 64+max (e+1) 64+1+1)),(AV.rq (f.c*(turnC t)-f.s*(turnS' t)) ((f.c*(turnC t)-f.s*(turnS' t)).den) (max (e+1) 64+max (e+1) 64+max (8*max jb 64+500) 64+max (8*max jb 64+500) 64+1)),(AV.rq (f.s*(turnC t)+f.c*(turnS' t)) ((f.s*(turnC t)+f.c*(turnS' t)).den) (max (e+1) 64+max (e+1) 64+max (8*max jb 64+500) 64+max (8*max jb 64+500) 64+1))]) (AV.agg [(AV.rq f2.at_.x f2.at_.x.den (2*e2+1)),(AV.rq f2.at_.z f2.at_.z.den (2*e2+1)),(AV.rq f2.c f2.c.den (e2+1)),(AV.rq f2.s f2.s.den (e2+1))]),1=1,1=1,(2)*256≤140737488355328,2≤big]) (by decide) (by kernel_rfl)
    (.cons (Ref.bool (decide_eq_true h1)) (.cons (o.1) (.cons (by decide) (.cons (o.2.1) (.cons (o.2.2.1) (.cons (by decide) (.cons (by decide) (.cons (o.2.2.2.1) (.cons (o.1) (.cons (by decide) (.cons (o.2.1) (.cons (rfl) (.cons (rfl) (.cons (rfl) (.cons (rfl) (.cons (rfl) (.cons (rfl) (.cons (o.2.2.2.2.1) (.cons (o.2.2.2.2.2.1) (.cons (o.2.2.2.2.2.2.1) (.cons (by decide) (.cons (o.2.2.2.2.2.2.2.1) (.cons (rfl) (.cons (o.2.2.2.2.2.2.2.2.1) (.cons (rfl) (.cons (rfl) (.cons (o.2.2.2.2.2.2.2.2.2.1) (.cons (o.2.2.2.2.2.2.2.2.2.2.1) (.cons (o.2.2.2.2.2.2.2.2.2.2.2.1) (.cons (o.2.2.2.2.2.2.2.2.2.2.2.2.1) (.cons (rfl) (.cons (rfl) (.cons (o.2.2.2.2.2.2.2.2.2.2.2.2.2.1) (.cons (o.2.2.2.2.2.2.2.2.2.2.2.2.2.2) (AllP.nil))))))))))))))))))))))))))))))))))) hg
theorem p71_2_1 {S0 C0:Nat → Prop} {w0:World} {Post:Value → World → Prop} (m:MachD) (p:PoseD) (XS XT XD XF:List (List AV)) (jb:Nat) (f f2:FrameD) (e e2:Nat) (v:BodyD) (t:Rat) (h1:¬ ((1:Int)<(((m.bodies.map (unRBody 300)).length:Nat):Int)))
    (hg:Good Tryz.prog 71 S0 C0 w0 Post [.code .ret] ⟨slots 54 [(2,(AV.ptr 0 5 0 0)),(3,(AV.ptr 1 13 0 0)),(4,(AV.own 2 16 0 1)),(5,(AV.own 2 16 0 1)),(6,(AV.int .i64 (1:Int)))],[some ⟨48,5,false,[[(AV.list 34 (m.bodies.map (unRBody 300))),(AV.list 22 XS),(AV.list 22 XT),(AV.list 17 XD),(AV.list 6 XF)]],none⟩,some ⟨71,13,false,[[(AV.rq p.at_.x p.at_.x.den jb),(AV.rq p.at_.z p.at_.z.den jb),(AV.rq p.turn p.turn.den jb),(AV.list 4 (p.joints.map (unRQ jb)))]],none⟩,some ⟨179,16,false,[[(AV.rq f.at_.x f.at_.x.den (2*e+1)),(AV.rq f.at_.z f.at_.z.den (2*e+1)),(AV.rq f.c f.c.den (e+1)),(AV.rq f.s f.s.den (e+1))]],none⟩]⟩):
    Good Tryz.prog 71 S0 C0 w0 Post [.code (nav [1,1,0,1,0,0] (bodyOf Tryz.f71)),.inLoop (nav [1,1,0,1,0,0] (bodyOf Tryz.f71)),.inBlock 0,.code (nav [1,1,1] (bodyOf Tryz.f71))] ⟨slots 54 [(2,(AV.ptr 0 5 0 0)),(3,(AV.ptr 1 13 0 0)),(5,(AV.own 2 16 0 1)),(6,(AV.int .i64 (1:Int)))],[some ⟨48,5,false,[[(AV.list 34 (m.bodies.map (unRBody 300))),(AV.list 22 XS),(AV.list 22 XT),(AV.list 17 XD),(AV.list 6 XF)]],none⟩,some ⟨71,13,false,[[(AV.rq p.at_.x p.at_.x.den jb),(AV.rq p.at_.z p.at_.z.den jb),(AV.rq p.turn p.turn.den jb),(AV.list 4 (p.joints.map (unRQ jb)))]],none⟩,some ⟨179,16,false,[[(AV.rq f.at_.x f.at_.x.den (2*e+1)),(AV.rq f.at_.z f.at_.z.den (2*e+1)),(AV.rq f.c f.c.den (e+1)),(AV.rq f.s f.s.den (e+1))]],none⟩]⟩:=
  go mixed TT0_ok KT71_ok 12 none [2,3,4,5,6] [(19,(AV.bool false))] (ob:=[Ref (AV.bool (decide ((1:Int)<(((m.bodies.map (unRBody 300)).length:Nat):Int)))) (.bool false)]) (by kernel_rfl)
    (.cons (Ref.bool (decide_eq_false h1)) (AllP.nil)) hg
theorem p71_0_0 {S0 C0:Nat → Prop} {w0:World} {Post:Value → World → Prop} (m:MachD) (p:PoseD) (XS XT XD XF:List (List AV)) (jb:Nat) (f:FrameD) (e:Nat)  (o:(40*max jb 64+5000≤LIM)∧(Ref (AV.agg [(AV.rq p.at_.x p.at_.x.den jb),(AV.rq p.at_.z p.at_.z.den jb),(AV.rq (turnC p.turn) ((turnC p.turn).den) (8*max jb 64+500)),(AV.rq (turnS' p.turn) ((turnS' p.turn).den) (8*max jb 64+500))]) (AV.agg [(AV.rq f.at_.x f.at_.x.den (2*e+1)),(AV.rq f.at_.z f.at_.z.den (2*e+1)),(AV.rq f.c f.c.den (e+1)),(AV.rq f.s f.s.den (e+1))])))
    (hg:Good Tryz.prog 71 S0 C0 w0 Post [.code (nav [1,1,0,1,0,0] (bodyOf Tryz.f71)),.inLoop (nav [1,1,0,1,0,0] (bodyOf Tryz.f71)),.inBlock 0,.code (nav [1,1,1] (bodyOf Tryz.f71))] ⟨slots 54 [(2,(AV.ptr 0 5 0 0)),(3,(AV.ptr 1 13 0 0)),(5,(AV.own 2 16 0 1)),(6,(AV.int .i64 (1:Int)))],[some ⟨48,5,false,[[(AV.list 34 (m.bodies.map (unRBody 300))),(AV.list 22 XS),(AV.list 22 XT),(AV.list 17 XD),(AV.list 6 XF)]],none⟩,some ⟨71,13,false,[[(AV.rq p.at_.x p.at_.x.den jb),(AV.rq p.at_.z p.at_.z.den jb),(AV.rq p.turn p.turn.den jb),(AV.list 4 (p.joints.map (unRQ jb)))]],none⟩,some ⟨179,16,false,[[(AV.rq f.at_.x f.at_.x.den (2*e+1)),(AV.rq f.at_.z f.at_.z.den (2*e+1)),(AV.rq f.c f.c.den (e+1)),(AV.rq f.s f.s.den (e+1))]],none⟩]⟩):
    Good Tryz.prog 71 S0 C0 w0 Post [.code (nav [] (bodyOf Tryz.f71))] ⟨slots 54 [(0,(AV.agg [(AV.list 34 (m.bodies.map (unRBody 300))),(AV.list 22 XS),(AV.list 22 XT),(AV.list 17 XD),(AV.list 6 XF)])),(1,(AV.agg [(AV.rq p.at_.x p.at_.x.den jb),(AV.rq p.at_.z p.at_.z.den jb),(AV.rq p.turn p.turn.den jb),(AV.list 4 (p.joints.map (unRQ jb)))]))],[]⟩:=
  goR mixed TT0_ok KT71_ok 14 none [2,3,5,6] [0,1,3] [(13,(AV.agg [(AV.rq f.at_.x f.at_.x.den (2*e+1)),(AV.rq f.at_.z f.at_.z.den (2*e+1)),(AV.rq f.c f.c.den (e+1)),(AV.rq f.s f.s.den (e+1))]))] (ob:=[p.turn.den=p.turn.den,40*max jb 64+5000≤LIM,Ref (AV.agg [(AV.rq p.at_.x p.at_.x.den jb),(AV.rq p.at_.z p.at_.z.den jb),(AV.rq (turnC p.turn) ((turnC p.turn).den) (8*max jb 64+500)),(AV.rq (turnS' p.turn) ((turnS' p.turn).den) (8*max jb 64+500))]) (AV.agg [(AV.rq f.at_.x f.at_.x.den (2*e+1)),(AV.rq f.at_.z f.at_.z.den (2*e+1)),(AV.rq f.c f.c.den (e+1)),(AV.rq f.s f.s.den (e+1))])]) (by decide) (by kernel_rfl)
    (.cons (rfl) (.cons (o.1) (.cons (o.2) (AllP.nil)))) hg
def unRF (e:Nat) (f:FrameD):List AV:=[.rq f.at_.x f.at_.x.den (2*e+1),.rq f.at_.z f.at_.z.den (2*e+1),.rq f.c f.c.den (e+1),.rq f.s f.s.den (e+1)]
def rfr (jb:Nat) (m:MachD) (p:PoseD) (i:Nat):List AV:=unRF (rz jb i) (fr m p i)
theorem RefC.dig_to {n B C:Nat} {cs:List AV} (h:n<2^C):RefC (.dig n B::cs) (.dig n C::cs):=fun ρ S w D vs x=>by
  cases x with
  | dig xs h1 h2 h3 h4=>exact .dig xs h1 h2 h h4
theorem RefC.rz_to {n:Int} {B C:Nat} {cs:List AV} (h:n.natAbs<2^C):RefC (.rz n B::cs) (.rz n C::cs):=fun ρ S w D vs x=>by
  cases x with
  | rz h1=>exact .rz (RefC.tl (RefC.dig_to h) _ _ _ _ _ h1)
theorem RefC.rq_of {x y:Rat} {B C:Nat} {cs:List AV} (e:x=y) (h:QB C y):RefC (.rq x x.den B::cs) (.rq y y.den (C+1)::cs):=fun ρ S w D vs k=>by
  subst e
  have h1:=h.1
  have h2:=h.2
  have hd:x.den<2^(C+1):=by have:=Nat.two_pow_pos C;rw[Nat.pow_succ];omega
  cases k with
  | rq h0 h1'=>exact .rq h0 (((RefC.rz_to (by rw[Nat.pow_succ];omega)).trans (RefC.tl (RefC.rz_to (by rw[Int.natAbs_natCast];exact hd)))) _ _ _ _ _ h1')
theorem Ref.rframe {f:FrameD} {x z c s:Rat} {X Z C S e:Nat} (hx:f=⟨⟨x,z⟩,c,s⟩) (h:FQ e f):Ref (.agg [.rq x x.den X,.rq z z.den Z,.rq c c.den C,.rq s s.den S]) (.agg (unRF e f)):=by
  subst hx
  exact Ref.agg (RefC.cons (RefC.rq_of rfl h.1) (RefC.cons (RefC.rq_of rfl h.2.1) (RefC.cons (RefC.rq_of rfl h.2.2.1) (RefC.rq_of rfl h.2.2.2))))
noncomputable abbrev T71:List Item:=[.code (nav [1,1,0,1,0,0] (bodyOf Tryz.f71)),.inLoop (nav [1,1,0,1,0,0] (bodyOf Tryz.f71)),.inBlock 0,.code (nav [1,1,1] (bodyOf Tryz.f71))]
section
variable {S:Nat → Prop} {w0:World} {m:MachD} {p:PoseD} {XS XT XD XF:List (List AV)} {jb:Nat}
theorem loop71 (hjb:jb≤100000) (hB:Bnd jb m p) (ht:m.tree) (h8:m.bodies.length≤8) (hj:p.joints.length+1=m.bodies.length):∀ (j i:Nat),i+j=m.bodies.length → 2≤i →
    Good Tryz.prog 71 S No w0 (PostF S w0 (.list 16 ((List.range m.bodies.length).map (rfr jb m p)))) T71 ⟨slots 54 [(2,.ptr 0 5 0 0),(3,.ptr 1 13 0 0),(5,.own 2 16 0 i),(6,.int .i64 ((i:Nat):Int))],[some ⟨48,5,false,[[.list 34 (m.bodies.map (unRBody 300)),.list 22 XS,.list 22 XT,.list 17 XD,.list 6 XF]],none⟩,some ⟨71,13,false,[unRPose jb p],none⟩,some ⟨179,16,true,(List.range i).map (rfr jb m p),none⟩]⟩:=by
  have hlm:(m.bodies.map (unRBody 300)).length=m.bodies.length:=List.length_map ..
  have hlj:(p.joints.map (unRQ jb)).length=p.joints.length:=List.length_map ..
  intro j
  induction j with
  | zero=>
    intro i hij h2
    have hi:i=m.bodies.length:=by omega
    subst hi
    refine p71_1_1 m p XS XT XD XF jb default default 0 0 m.bodies.length 0 ((List.range m.bodies.length).map (rfr jb m p)) default 0 (by rw[hlm];omega) ?_
    refine Good.pick 54 [(4,.own 2 16 0 m.bodies.length)] (by kernel_rfl) (by kernel_rfl) ?_
    refine Good.freezeD (b:=⟨179,16,true,(List.range m.bodies.length).map (rfr jb m p),none⟩) 2 (by rfl) (by rfl) (AllP.of_eq (l':=[0+m.bodies.length≤((List.range m.bodies.length).map (rfr jb m p)).length]) (by kernel_rfl) (.cons (by simp) .nil)) (AllP.of_nil (by kernel_rfl)) ?_
    exact good_endF TT0_ok (fn:=Tryz.f71) (by kernel_rfl) (.inr ⟨_,rfl⟩) (Vs:=[.list 16 ((((List.range m.bodies.length).map (rfr jb m p)).drop 0).take m.bodies.length)]) (by kernel_rfl) (by rfl) (by rfl) (Ref.eq (by rw[List.drop_zero,List.take_of_length_le (by simp)];rfl))
  | succ j ih=>
    intro i hij h2
    have hi:i<m.bodies.length:=by omega
    obtain⟨hp0,hp1⟩:=ht i (by omega) hi
    obtain⟨v,hv⟩:∃ v,v=m.bodies.getD i default:=⟨_,rfl⟩
    rw[← hv] at hp0 hp1
    obtain⟨k,hk⟩:∃ k:Nat,v.par=((k:Nat):Int):=⟨v.par.toNat,by omega⟩
    have hki:k<i:=by omega
    have hstep:fr m p i=stepF (fr m p k) v (p.joints.getD (i-1) default):=by rw[fr_step ht (by omega) hi, ← hv,hk];rfl
    have hz:rz jb k≤SZ jb:=rz_le (by omega)
    unfold SZ at hz
    have r1:Ref (.cptr ((m.bodies.map (unRBody 300)).getD i []) 0) (.cptr (unRBody 300 v) 0):=by rw[hv];exact Ref.cmap hi
    have r2:((i:Nat):Int)<(((m.bodies.map (unRBody 300)).length:Nat):Int):=by rw[hlm];omega
    have r3:Ref (.agg (((List.range i).map (rfr jb m p)).getD (0+k) [])) (.agg (unRF (rz jb k) (fr m p k))):=Ref.eq (by rw[Nat.zero_add,List.getD_eq_getElem?_getD,List.getElem?_map,List.getElem?_range hki];rfl)
    have r4:Ref (AV.int .i64 (IntKind.i64.wrap (((i:Nat):Int)-(1:Int)))) (AV.int .i64 ((i-1:Nat):Int)):=(Ref.wr ⟨by show(-9223372036854775808:Int)≤_;omega,by show _≤(9223372036854775807:Int);omega⟩).trans (Ref.int (by omega))
    have r5:Ref (AV.cptr ((p.joints.map (unRQ jb)).getD (i-1) []) 0) (AV.cptr [(AV.rq (p.joints.getD (i-1) default) (p.joints.getD (i-1) default).den jb)] 0):=Ref.cmap (f:=unRQ jb) (by omega)
    have l1:8*max 300 64+8*max 300 64+8*max (rz jb k+1) 64+8*max (rz jb k+1) 64+8*max (2*rz jb k+1) 64+8*max (2*rz jb k+1) 64+2000≤LIM:=by unfold LIM;omega
    have l2:40*max jb 64+5000≤LIM:=by unfold LIM;omega
    have l3:8*max (rz jb k+1) 64+8*max (rz jb k+1) 64+8*max (8*max jb 64+500) 64+8*max (8*max jb 64+500) 64+2000≤LIM:=by unfold LIM;omega
    have e:(List.range i).map (rfr jb m p)++ [rfr jb m p i]=(List.range (i+1)).map (rfr jb m p):=by rw[List.range_succ];simp
    have key:Good Tryz.prog 71 S No w0 (PostF S w0 (.list 16 ((List.range m.bodies.length).map (rfr jb m p)))) T71 ⟨slots 54 [(2,.ptr 0 5 0 0),(3,.ptr 1 13 0 0),(5,.own 2 16 0 (i+1)),(6,.int .i64 ((i+1:Nat):Int))],[some ⟨48,5,false,[[.list 34 (m.bodies.map (unRBody 300)),.list 22 XS,.list 22 XT,.list 17 XD,.list 6 XF]],none⟩,some ⟨71,13,false,[unRPose jb p],none⟩,some ⟨179,16,true,(List.range i).map (rfr jb m p)++ [rfr jb m p i],none⟩]⟩:=by
      rw[e];exact ih (i+1) (by omega) (by omega)
    refine p71_1_0 m p XS XT XD XF jb (fr m p k) (fr m p i) (rz jb k) (rz jb i) i k ((List.range i).map (rfr jb m p)) v (p.joints.getD (i-1) default) r2 ⟨r1,r2,Ref.int hk,by omega,r3,by simp;omega,l1,r4,r5,by rw[hlj];omega,l2,rfl,rfl,l3,Ref.rframe hstep (fr_FQ hB ht (by omega) hi h8),by simp,by omega,by unfold big;omega,by omega⟩ ?_
    exact key
theorem run71 (hjb:jb≤100000) (hB:Bnd jb m p) (ht:m.tree) (h0:0<m.bodies.length) (h8:m.bodies.length≤8) (hj:p.joints.length+1=m.bodies.length):
    Good Tryz.prog 71 S No w0 (PostF S w0 (.list 16 ((List.range m.bodies.length).map (rfr jb m p)))) T71 ⟨slots 54 [(2,.ptr 0 5 0 0),(3,.ptr 1 13 0 0),(5,.own 2 16 0 1),(6,.int .i64 ((1:Nat):Int))],[some ⟨48,5,false,[[.list 34 (m.bodies.map (unRBody 300)),.list 22 XS,.list 22 XT,.list 17 XD,.list 6 XF]],none⟩,some ⟨71,13,false,[unRPose jb p],none⟩,some ⟨179,16,false,[rfr jb m p 0],none⟩]⟩:=by
  have hlm:(m.bodies.map (unRBody 300)).length=m.bodies.length:=List.length_map ..
  have hlj:(p.joints.map (unRQ jb)).length=p.joints.length:=List.length_map ..
  rcases Nat.lt_or_ge 1 m.bodies.length with h1 | h1
  · obtain⟨hp0,hp1⟩:=ht 1 (by omega) h1
    obtain⟨v,hv⟩:∃ v,v=m.bodies.getD 1 default:=⟨_,rfl⟩
    rw[← hv] at hp0 hp1
    have hk:v.par=0:=by omega
    have hstep:fr m p 1=stepF (fr m p 0) v (p.joints.getD 0 default):=by rw[fr_step ht (by omega) h1, ← hv,hk];rfl
    have hz:rz jb 0≤SZ jb:=rz_le (by omega)
    unfold SZ at hz
    have r1:Ref (.cptr ((m.bodies.map (unRBody 300)).getD 1 []) 0) (.cptr (unRBody 300 v) 0):=by rw[hv];exact Ref.cmap h1
    have r2:(1:Int)<(((m.bodies.map (unRBody 300)).length:Nat):Int):=by rw[hlm];omega
    have r5:Ref (AV.cptr ((p.joints.map (unRQ jb)).getD 0 []) 0) (AV.cptr [(AV.rq (p.joints.getD 0 default) (p.joints.getD 0 default).den jb)] 0):=Ref.cmap (f:=unRQ jb) (by omega)
    have r6:(0:Int)<(((p.joints.map (unRQ jb)).length:Nat):Int):=by rw[hlj];omega
    have l1:8*max 300 64+8*max 300 64+8*max (rz jb 0+1) 64+8*max (rz jb 0+1) 64+8*max (2*rz jb 0+1) 64+8*max (2*rz jb 0+1) 64+2000≤LIM:=by unfold LIM;omega
    have l2:40*max jb 64+5000≤LIM:=by unfold LIM;omega
    have l3:8*max (rz jb 0+1) 64+8*max (rz jb 0+1) 64+8*max (8*max jb 64+500) 64+8*max (8*max jb 64+500) 64+2000≤LIM:=by unfold LIM;omega
    have key:Good Tryz.prog 71 S No w0 (PostF S w0 (.list 16 ((List.range m.bodies.length).map (rfr jb m p)))) T71 ⟨slots 54 [(2,.ptr 0 5 0 0),(3,.ptr 1 13 0 0),(5,.own 2 16 0 2),(6,.int .i64 (2:Int))],[some ⟨48,5,false,[[.list 34 (m.bodies.map (unRBody 300)),.list 22 XS,.list 22 XT,.list 17 XD,.list 6 XF]],none⟩,some ⟨71,13,false,[unRPose jb p],none⟩,some ⟨179,16,true,[rfr jb m p 0,rfr jb m p 1],none⟩]⟩:=loop71 hjb hB ht h8 hj (m.bodies.length-2) 2 (by omega) (by omega)
    refine p71_2_0 m p XS XT XD XF jb (fr m p 0) (fr m p 1) (rz jb 0) (rz jb 1) v (p.joints.getD 0 default) r2 ⟨r1,r2,Ref.int hk,Ref.rfl',l1,Ref.rfl',r5,r6,l2,rfl,rfl,l3,Ref.rframe hstep (fr_FQ hB ht (by omega) h1 h8),by omega,by decide⟩ ?_
    exact key
  · have e1:m.bodies.length=1:=by omega
    refine p71_2_1 m p XS XT XD XF jb (fr m p 0) default (rz jb 0) 0 default 0 (by rw[hlm];omega) ?_
    refine Good.pick 54 [(4,.own 2 16 0 1)] (by kernel_rfl) (by kernel_rfl) ?_
    refine Good.freezeD (b:=⟨179,16,false,[rfr jb m p 0],none⟩) 2 (by rfl) (by rfl) (AllP.of_eq (l':=[0+1≤ [rfr jb m p 0].length]) (by kernel_rfl) (.cons (by simp) .nil)) (AllP.of_nil (by kernel_rfl)) ?_
    rw[e1]
    exact good_endF TT0_ok (fn:=Tryz.f71) (by kernel_rfl) (.inr ⟨_,rfl⟩) (Vs:=[.list 16 (([rfr jb m p 0].drop 0).take 1)]) (by kernel_rfl) (by rfl) (by rfl) (Ref.eq rfl)
end
def reRPt:List AV → PtD
  | [.rq x _ _,.rq z _ _]=>⟨x,z⟩
  | _=>default
def reRB:List AV → BodyD
  | [.int _ pr,.rq x _ _,.rq z _ _,.rq ma _ _,.rq ie _ _,.rq cx _ _,.rq cz _ _,.rq lo _ _,.rq hi _ _,.list _ sh]=>⟨ByteArray.mk #[],pr,⟨x,z⟩,⟨cx,cz⟩,ma,ie,lo,hi,sh.map reRPt⟩
  | _=>default
def reRQ:List AV → Rat
  | [.rq x _ _]=>x
  | _=>0
def mR (XB:List (List AV)):MachD:=⟨ByteArray.mk #[],XB.map reRB,[],[],[],[]⟩
def k71:List AV → Option (AV×List Prop)
  | [.agg [.list 34 XB,.list 22 XS,.list 22 XT,.list 17 XD,.list 6 XF],.agg [.rq ax d1 jb,.rq az d2 A2,.rq tu d3 A3,.list 4 J]]=>some (.list 16 ((List.range XB.length).map (rfr jb (mR XB) ⟨⟨ax,az⟩,tu,J.map reRQ⟩)),[XB=(XB.map reRB).map (unRBody 300),d1=ax.den,d2=az.den,d3=tu.den,A2=jb,A3=jb,J=(J.map reRQ).map (unRQ jb),jb≤100000,Bnd jb (mR XB) ⟨⟨ax,az⟩,tu,J.map reRQ⟩,(mR XB).tree,0<XB.length,XB.length≤8,J.length+1=XB.length])
  | _=>none
theorem a71 (args:List AV) (r:AV) (ob:List Prop) (h:k71 args=some (r,ob)) (ho:AllP ob):AFun Tryz.prog 71 args r:=by
  unfold k71 at h
  split at h
  · rename_i XB XS XT XD XF ax d1 jb az d2 A2 tu d3 A3 J
    injection h with h;simp only[Prod.mk.injEq] at h
    obtain⟨rfl,rfl⟩:=h
    have o1:XB=(XB.map reRB).map (unRBody 300):=ho _ (by simp)
    have o2:d1=ax.den:=ho _ (by simp)
    have o3:d2=az.den:=ho _ (by simp)
    have o4:d3=tu.den:=ho _ (by simp)
    have o5:A2=jb:=ho _ (by simp)
    have o6:A3=jb:=ho _ (by simp)
    have o7:J=(J.map reRQ).map (unRQ jb):=ho _ (by simp)
    have o8:jb≤100000:=ho _ (by simp)
    have o9:Bnd jb (mR XB) ⟨⟨ax,az⟩,tu,J.map reRQ⟩:=ho _ (by simp)
    have o10:(mR XB).tree:=ho _ (by simp)
    have o11:0<XB.length:=ho _ (by simp)
    have o12:XB.length≤8:=ho _ (by simp)
    have o13:J.length+1=XB.length:=ho _ (by simp)
    clear ho
    subst o2;subst o3;subst o4;subst o5;subst o6
    obtain⟨m,hm⟩:∃ m,m=mR XB:=⟨_,rfl⟩
    obtain⟨p,hp⟩:∃ p:PoseD,p=⟨⟨ax,az⟩,tu,J.map reRQ⟩:=⟨_,rfl⟩
    rw[← hm] at o9 o10 ⊢
    rw[← hp] at o9 ⊢
    have hl:XB.length=m.bodies.length:=by rw[hm];simp[mR]
    have hjl:p.joints.length=J.length:=by rw[hp];simp
    rw[hl] at o11 o12 o13 ⊢
    have hX:XB=m.bodies.map (unRBody 300):=by rw[hm];exact o1
    have hJ:J=p.joints.map (unRQ A3):=by rw[hp];exact o7
    have hA:p.at_=⟨ax,az⟩:=by rw[hp]
    have hT:p.turn=tu:=by rw[hp]
    refine afun_of (fn:=Tryz.f71) (c:=bodyOf Tryz.f71) (by kernel_rfl) (by kernel_rfl) (by kernel_rfl) fun S w0=> ?_
    have e:st0 [.agg [.list 34 XB,.list 22 XS,.list 22 XT,.list 17 XD,.list 6 XF],.agg [.rq ax ax.den A3,.rq az az.den A3,.rq tu tu.den A3,.list 4 J]] Tryz.f71.ntmps=⟨slots 54 [(0,.agg [.list 34 (m.bodies.map (unRBody 300)),.list 22 XS,.list 22 XT,.list 17 XD,.list 6 XF]),(1,.agg (unRPose A3 p))],[]⟩:=by
      rw[← hX]
      unfold unRPose
      rw[← hJ,hA,hT]
      kernel_rfl
    rw[e];clear e
    have hF:=fr_FQ o9 o10 (by omega) o11 o12
    refine p71_0_0 m p XS XT XD XF A3 (fr m p 0) (rz A3 0) ⟨by unfold LIM;omega,Ref.rframe rfl hF⟩ ?_
    exact run71 (XS:=XS) (XT:=XT) (XD:=XD) (XF:=XF) o8 o9 o10 o11 o12 (by omega)
  · cases h
def KT74_ok:=kn.cons a75
def unRPP (X Z:Nat) (a:PtD):List AV:=[.rq a.x a.x.den X,.rq a.z a.z.den Z]
noncomputable abbrev T74:List Item:=[.code (nav [1,1,0,1,0,0] (bodyOf Tryz.f74)),.inLoop (nav [1,1,0,1,0,0] (bodyOf Tryz.f74)),.inBlock 0,.code (nav [1,1,1] (bodyOf Tryz.f74))]
section
variable {S:Nat->Prop} {w0:World} {f:FrameD} {pts:List PtD} {P Q U W:Nat}
abbrev fb74 (f:FrameD) (P Q U W:Nat):ABlk:=⟨179,16,false,[[.rq f.at_.x f.at_.x.den P,.rq f.at_.z f.at_.z.den Q,.rq f.c f.c.den U,.rq f.s f.s.den W]],none⟩
abbrev G74 (f:FrameD) (P Q U W:Nat) (a:PtD):List AV:=unRPP (max P 64+max 300 64+max 300 64+max U 64+max W 64+1+1) (max Q 64+max 300 64+max 300 64+max U 64+max W 64+1+1) (placeF f a)
theorem loop74 (hL:8*max 300 64+8*max 300 64+8*max U 64+8*max W 64+8*max P 64+8*max Q 64+2000<=LIM) (hl:pts.length<=1000000):∀ (j i:Nat),i+j=pts.length->1<=i->
   GF 74 S w0 (.list 8 (pts.map (G74 f P Q U W))) T74 ⟨slots 23 [(2,.ptr 0 16 0 0),(5,.own 1 8 0 i),(1,.list 8 (pts.map (unRP 300))),(6,.i6 ((i:Nat):Int))],[some (fb74 f P Q U W),some ⟨68,8,true,(pts.take i).map (G74 f P Q U W),none⟩]⟩:=by
 have hlm:(pts.map (unRP 300)).length=pts.length:=lmE ..;intro j
 induction j with
 | zero=>
   intro i hij h1;have hi:i=pts.length:=by omega
   subst hi;rw[tkE (rl _)];refine gN KT74_ok [4] [(10,ff)] (.a1 (iF (show ¬ ((pts.length:Int)<((pts.map (unRP 300)).length:Int)) by rw[hlm];omega))) (t:=[.code .ret]) (σ:=slots 23 [(4,.own 1 8 0 pts.length)]) (h:=[some ⟨179,16,false,[[.rq f.at_.x f.at_.x.den P,.rq f.at_.z f.at_.z.den Q,.rq f.c f.c.den U,.rq f.s f.s.den W]],none⟩,some ⟨68,8,true,(pts.map (G74 f P Q U W)),none⟩]) ?_
   refine Good.freezeD (b:=⟨68,8,true,pts.map (G74 f P Q U W),none⟩) 1 (by rfl) (by rfl) (.oe (.a1 (show 0+pts.length<=(pts.map (G74 f P Q U W)).length by simp))) .on ?_
   exact good_ret1 TT0_ok (fn:=Tryz.f74) (by kernel_rfl) 4 (by kernel_rfl) rfl (by rfl) (by
     show Ref (.list 8 (((pts.map (G74 f P Q U W)).drop 0).take pts.length)) _
     exact Ref.eq (by rw[List.drop_zero,tkE (by simp)]))
 | succ j ih=>
   intro i hij h1;have hi:i<pts.length:=by omega
   have v0:(i:Int)<((pts.map (unRP 300)).length:Int):=by rw[hlm];omega
   refine gR KT74_ok none [1,2,4,5,6] [0,4] [(10,tt),(17,.cptr (unRP 300 (pts.getD i default)) 0),(19,.agg [.rq (placeF f (pts.getD i default)).x (placeF f (pts.getD i default)).x.den (max P 64+max 300 64+max 300 64+max U 64+max W 64+1+1),.rq (placeF f (pts.getD i default)).z (placeF f (pts.getD i default)).z.den (max Q 64+max 300 64+max 300 64+max U 64+max W 64+1+1)]),(12,.i6 ((i+1:Nat):Int))] (.c6 (iT v0) (show Ref (.cptr ((pts.map (unRP 300)).getD i []) 0) (.cptr (unRP 300 (pts.getD i default)) 0) from Ref.cmap (f:=unRP 300) hi) (nn i) v0 (show Ref (.agg [.rq (f.at_.x+(f.c*(pts.getD i default).x-f.s*(pts.getD i default).z)) ((f.at_.x+(f.c*(pts.getD i default).x-f.s*(pts.getD i default).z)).den) (max P 64+max 300 64+max 300 64+max U 64+max W 64+1+1),.rq (f.at_.z+(f.s*(pts.getD i default).x+f.c*(pts.getD i default).z)) ((f.at_.z+(f.s*(pts.getD i default).x+f.c*(pts.getD i default).z)).den) (max Q 64+max 300 64+max 300 64+max U 64+max W 64+1+1)]) (.agg [.rq (placeF f (pts.getD i default)).x (placeF f (pts.getD i default)).x.den (max P 64+max 300 64+max 300 64+max U 64+max W 64+1+1),.rq (placeF f (pts.getD i default)).z (placeF f (pts.getD i default)).z.den (max Q 64+max 300 64+max 300 64+max U 64+max W 64+1+1)]) from rr) (rfl:f.at_.x.den=f.at_.x.den) (.c6 (rfl:f.at_.z.den=f.at_.z.den) (rfl:f.c.den=f.c.den) (rfl:f.s.den=f.s.den) (rfl:(pts.getD i default).x.den=(pts.getD i default).x.den) (rfl:(pts.getD i default).z.den=(pts.getD i default).z.den) hL (.a5 r1 (show i=((pts.take i).map (G74 f P Q U W)).length by rw[lmE,List.length_take];omega) (om ((i+1)*128<=140737488355328)) (show i+1<=big by unfold big;omega) (wI ((i:Int)+(1:Int)) ((i+1:Nat):Int))))) (t:=T74) (σ:=slots 23 [(1,.list 8 (pts.map (unRP 300))),(2,.ptr 0 16 0 0),(5,.own 1 8 0 (i+1)),(6,.i6 ((i+1:Nat):Int))]) (h:=[some ⟨179,16,false,[[.rq f.at_.x f.at_.x.den P,.rq f.at_.z f.at_.z.den Q,.rq f.c f.c.den U,.rq f.s f.s.den W]],none⟩,some ⟨68,8,true,(((pts.take i).map (G74 f P Q U W))++ [[(AV.rq (placeF f (pts.getD i default)).x (placeF f (pts.getD i default)).x.den (max P 64+max 300 64+max 300 64+max U 64+max W 64+1+1)),(AV.rq (placeF f (pts.getD i default)).z (placeF f (pts.getD i default)).z.den (max Q 64+max 300 64+max 300 64+max U 64+max W 64+1+1))]]),none⟩]) ?_
   have e:(pts.take i).map (G74 f P Q U W)++ [G74 f P Q U W (pts.getD i default)]=(pts.take (i+1)).map (G74 f P Q U W):=by
     rw[List.take_add_one,List.map_append,List.getElem?_eq_getElem hi,gdE,List.getElem?_eq_getElem hi];rfl
   show Good Tryz.prog 74 S No w0 _ T74 ⟨_,[_,some ⟨68,8,true,(pts.take i).map (G74 f P Q U W)++ [G74 f P Q U W (pts.getD i default)],none⟩]⟩;rw[e];refine Good.pk 23 [(2,.ptr 0 16 0 0),(5,.own 1 8 0 (i+1)),(1,.list 8 (pts.map (unRP 300))),(6,.i6 ((i+1:Nat):Int))] ?_;exact ih (i+1) (by omega) (by omega)
theorem run74 (hL:8*max 300 64+8*max 300 64+8*max U 64+8*max W 64+8*max P 64+8*max Q 64+2000<=LIM) (hl:pts.length<=1000000):
   GF 74 S w0 (.list 8 (pts.map (G74 f P Q U W))) [.code (nav [] (bodyOf Tryz.f74))] ⟨slots 23 [(0,.agg [.rq f.at_.x f.at_.x.den P,.rq f.at_.z f.at_.z.den Q,.rq f.c f.c.den U,.rq f.s f.s.den W]),(1,.list 8 (pts.map (unRP 300)))],[]⟩:=by
 have hlm:(pts.map (unRP 300)).length=pts.length:=lmE ..;refine gN KT74_ok [2,5,1,6] [] .nil (t:=T74) (σ:=slots 23 [(2,.ptr 0 16 0 0),(5,.nil),(1,.list 8 (pts.map (unRP 300))),(6,.i6 ((0:Nat):Int))]) (h:=[some ⟨179,16,false,[[.rq f.at_.x f.at_.x.den P,.rq f.at_.z f.at_.z.den Q,.rq f.c f.c.den U,.rq f.s f.s.den W]],none⟩]) ?_
 rcases Nat.eq_zero_or_pos pts.length with h0 | h0
 · have hn:pts= []:=List.eq_nil_of_length_eq_zero h0
   subst hn;refine rF KT74_ok [(10,ff)] (.a1 (iF (dc (¬ ((0:Int)<(([].map (unRP 300)).length:Int)))))) (V:=AV.nil) Ref.nilL
 · have v0:(0:Int)<((pts.map (unRP 300)).length:Int):=by rw[hlm];omega
   refine gR KT74_ok none [1,2,4,5,6] [0,3] [(10,tt),(17,.cptr (unRP 300 (pts.getD 0 default)) 0),(19,.agg [.rq (placeF f (pts.getD 0 default)).x (placeF f (pts.getD 0 default)).x.den (max P 64+max 300 64+max 300 64+max U 64+max W 64+1+1),.rq (placeF f (pts.getD 0 default)).z (placeF f (pts.getD 0 default)).z.den (max Q 64+max 300 64+max 300 64+max U 64+max W 64+1+1)]),(12,.i6 ((0+1:Nat):Int))] (.c6 (iT v0) (show Ref (.cptr ((pts.map (unRP 300)).getD 0 []) 0) (.cptr (unRP 300 (pts.getD 0 default)) 0) from Ref.cmap (f:=unRP 300) h0) (nn 0) v0 (show Ref (.agg [.rq (f.at_.x+(f.c*(pts.getD 0 default).x-f.s*(pts.getD 0 default).z)) ((f.at_.x+(f.c*(pts.getD 0 default).x-f.s*(pts.getD 0 default).z)).den) (max P 64+max 300 64+max 300 64+max U 64+max W 64+1+1),.rq (f.at_.z+(f.s*(pts.getD 0 default).x+f.c*(pts.getD 0 default).z)) ((f.at_.z+(f.s*(pts.getD 0 default).x+f.c*(pts.getD 0 default).z)).den) (max Q 64+max 300 64+max 300 64+max U 64+max W 64+1+1)]) (.agg [.rq (placeF f (pts.getD 0 default)).x (placeF f (pts.getD 0 default)).x.den (max P 64+max 300 64+max 300 64+max U 64+max W 64+1+1),.rq (placeF f (pts.getD 0 default)).z (placeF f (pts.getD 0 default)).z.den (max Q 64+max 300 64+max 300 64+max U 64+max W 64+1+1)]) from rr) (rfl:f.at_.x.den=f.at_.x.den) (.c6 (rfl:f.at_.z.den=f.at_.z.den) (rfl:f.c.den=f.c.den) (rfl:f.s.den=f.s.den) (rfl:(pts.getD 0 default).x.den=(pts.getD 0 default).x.den) (rfl:(pts.getD 0 default).z.den=(pts.getD 0 default).z.den) hL (.a5 r1 (dc (0<1)) (dc (1*128<=140737488355328)) (dc (1<=big)) (wI ((0:Int)+(1:Int)) ((0+1:Nat):Int) (by decide))))) (t:=T74) (σ:=slots 23 [(1,.list 8 (pts.map (unRP 300))),(2,.ptr 0 16 0 0),(5,.own 1 8 0 1),(6,.i6 ((0+1:Nat):Int))]) (h:=[some ⟨179,16,false,[[.rq f.at_.x f.at_.x.den P,.rq f.at_.z f.at_.z.den Q,.rq f.c f.c.den U,.rq f.s f.s.den W]],none⟩,some ⟨68,8,true,[[.rq (placeF f (pts.getD 0 default)).x (placeF f (pts.getD 0 default)).x.den (max P 64+max 300 64+max 300 64+max U 64+max W 64+1+1),.rq (placeF f (pts.getD 0 default)).z (placeF f (pts.getD 0 default)).z.den (max Q 64+max 300 64+max 300 64+max U 64+max W 64+1+1)]],none⟩]) ?_
   have e: [G74 f P Q U W (pts.getD 0 default)]=(pts.take 1).map (G74 f P Q U W):=by
     match pts,h0 with
     | a::l,_=>rfl
   show Good Tryz.prog 74 S No w0 _ T74 ⟨_,[_,some ⟨68,8,true,[G74 f P Q U W (pts.getD 0 default)],none⟩]⟩;rw[e];refine Good.pk 23 [(2,.ptr 0 16 0 0),(5,.own 1 8 0 1),(1,.list 8 (pts.map (unRP 300))),(6,.i6 ((0+1:Nat):Int))] ?_;exact loop74 hL hl (pts.length-1) 1 (by omega) (rl _)
end
def k74:KF
 | [.agg [.rq ax d1 P,.rq az d2 Q,.rq c d3 U,.rq s d4 W],.list 8 L]=>some (.list 8 ((L.map reRPt).map (G74 ⟨⟨ax,az⟩,c,s⟩ P Q U W)),[d1=ax.den,d2=az.den,d3=c.den,d4=s.den,L=(L.map reRPt).map (unRP 300),L.length<=1000000,8*max 300 64+8*max 300 64+8*max U 64+8*max W 64+8*max P 64+8*max Q 64+2000<=LIM])
 | _=>none
theorem a74:Ctr 74 k74:=fun args r ob h ho=>by
 unfold k74 at h
 split at h
 · rename_i ax d1 P az d2 Q c d3 U s d4 W L
   cases h;have q1:d1=ax.den:=ho _ (by simp);have q2:d2=az.den:=ho _ (by simp);have q3:d3=c.den:=ho _ (by simp);have q4:d4=s.den:=ho _ (by simp);have o1:L=(L.map reRPt).map (unRP 300):=ho _ (by simp);have o2:L.length<=1000000:=ho _ (by simp);have o3:8*max 300 64+8*max 300 64+8*max U 64+8*max W 64+8*max P 64+8*max Q 64+2000<=LIM:=ho _ (by simp);clear ho;subst q1;subst q2;subst q3;subst q4;have hl:(L.map reRPt).length=L.length:=lmE ..;rw[<- hl] at o2;generalize L.map reRPt=pts at*;subst o1;refine af Tryz.f74 fun S w0=> ?_
   refine Good.pk 23 [(0,.agg [.rq ax ax.den P,.rq az az.den Q,.rq c c.den U,.rq s s.den W]),(1,.list 8 (pts.map (unRP 300)))] ?_;exact run74 (f:=⟨⟨ax,az⟩,c,s⟩) o3 o2
 · cases h
def KT135_ok:=kn.cons a201
theorem p135_8_0 {S0 C0:Nat->Prop} {w0:World} {Post:Value->World->Prop} (x:Rat) (d B:Nat) (h1:(((d64 (digits b10k ((d:Nat):Int).natAbs)).length:Nat):Int)=(0:Int)) (o:(Ref (AV.dig (((d:Nat):Int).natAbs) B) (AV.list 1 (d64 (digits b10k ((d:Nat):Int).natAbs)))))
   (hg:Good Tryz.prog 135 S0 C0 w0 Post [.code .ret,.code (nav [1,1] (bodyOf Tryz.f135))] ⟨slots 11 [(2,.ptr 1 2 0 0)],[some ⟨66,4,false,[[(.rq x d B)]],none⟩,some ⟨64,2,false,[[(.rz 1 64)]],none⟩,none]⟩):
   Good Tryz.prog 135 S0 C0 w0 Post [.code (nav [] (bodyOf Tryz.f135))] ⟨slots 11 [(0,.agg [(.rq x d B)])],[]⟩:=
 go mixed TT0_ok KT135_ok 13 none [2] [(5,(AV.list 1 (d64 (digits b10k ((d:Nat):Int).natAbs)))),(7,(AV.bool true))] (ob:=[Ref (AV.dig (((d:Nat):Int).natAbs) B) (AV.list 1 (d64 (digits b10k ((d:Nat):Int).natAbs))),Ref (AV.bool (decide ((((d64 (digits b10k ((d:Nat):Int).natAbs)).length:Nat):Int)=(0:Int)))) (.bool true),(-9223372036854775808:Int)<=1,1<=(9223372036854775807:Int)]) (by kernel_rfl)
   (.cons (o) (.cons (Ref.bool (decide_eq_true h1)) (.cons (by decide) (.cons (by decide) (AllP.nil))))) hg
theorem p135_8_1 {S0 C0:Nat->Prop} {w0:World} {Post:Value->World->Prop} (x:Rat) (d B:Nat) (h1:¬ ((((d64 (digits b10k ((d:Nat):Int).natAbs)).length:Nat):Int)=(0:Int))) (o:(Ref (AV.dig (((d:Nat):Int).natAbs) B) (AV.list 1 (d64 (digits b10k ((d:Nat):Int).natAbs)))))
   (hg:Good Tryz.prog 135 S0 C0 w0 Post [.code .ret] ⟨slots 11 [(2,.ptr 1 2 0 0)],[some ⟨66,4,false,[[(.rq x d B)]],none⟩,some ⟨64,2,false,[[(.rz ((d:Nat):Int) B)]],none⟩]⟩):
   Good Tryz.prog 135 S0 C0 w0 Post [.code (nav [] (bodyOf Tryz.f135))] ⟨slots 11 [(0,.agg [(.rq x d B)])],[]⟩:=
 go mixed TT0_ok KT135_ok 14 none [2] [(5,(AV.list 1 (d64 (digits b10k ((d:Nat):Int).natAbs)))),(7,(AV.bool false))] (ob:=[Ref (AV.dig (((d:Nat):Int).natAbs) B) (AV.list 1 (d64 (digits b10k ((d:Nat):Int).natAbs))),Ref (AV.bool (decide ((((d64 (digits b10k ((d:Nat):Int).natAbs)).length:Nat):Int)=(0:Int)))) (.bool false)]) (by kernel_rfl)
   (.cons (o) (.cons (Ref.bool (decide_eq_false h1)) (AllP.nil))) hg
def kd135:KF
 | [.agg [.rq x d B]]=>some (.agg [.rz (x.den:Int) (max B 64)],[])
 | _=>none
theorem ad135 (args:List AV) (r:AV) (ob:List Prop) (h:kd135 args=some (r,ob)) (ho:AllP ob):AFun Tryz.prog 135 args r:=by
 unfold kd135 at h
 split at h
 · rename_i x d B
   cases h;refine af Tryz.f135 fun S w0=> ?_
   have e:st0 [.agg [.rq x d B]] Tryz.f135.ntmps=⟨slots 11 [(0,.agg [(.rq x d B)])],[]⟩:=by kernel_rfl
   rw[e];clear e;refine Good.rqlt (x:=x) (d:=d) (B:=B) (cs:=[]) 0 rfl fun _ _ hd=> ?_
   have hz:=x.den_nz
   by_cases h1:(((d64 (digits b10k ((d:Nat):Int).natAbs)).length:Nat):Int)=(0:Int)
   · refine p135_8_0 x d B h1 Ref.opnd (gE [(AV.agg [(AV.rz 1 64)])] ?_)
     have hp:¬ 0<d:=fun h=>by
       rw[d64_length] at h1;have:=(digits_pos (b:=b10k) (n:=((d:Nat):Int).natAbs) (by decide)).2 (by omega);omega
     exact Ref.rz1 (by omega) (by omega)
   · refine p135_8_1 x d B h1 Ref.opnd (gE [(AV.agg [(AV.rz ((d:Nat):Int) B)])] ?_)
     have hp:d≠0:=fun h=>h1 (by rw[h];rfl)
     exact Ref.rz1 (by omega) (by omega)
 · cases h
def d8 (xs:List Nat):List (List AV):=xs.map fun(d:Nat)=>[.int .u8 (d:Int)]
def un8 (X:List (List AV)):List Nat:=X.map fun
 | [.int _ n]=>n.toNat
 | _=>0
theorem un8_d8 (xs:List Nat):un8 (d8 xs)=xs:=by
 unfold un8 d8;rw[List.map_map]
 conv=>rhs;rw[<- List.map_id xs]
 exact List.map_congr_left fun x _=>rfl
theorem d8_length {xs:List Nat}:(d8 xs).length=xs.length:=by simp[d8]
theorem d8_get {xs:List Nat} {i:Nat} (h:i<xs.length):((d8 xs).getD i []).headD .any= .int .u8 ((xs.getD i 0:Nat):Int):=by
 simp[d8,List.getD_eq_getElem?_getD,h]
theorem d8_set (xs:List Nat) (i v:Nat):(d8 xs).set i [.int .u8 ((v:Nat):Int)]=d8 (xs.set i v):=by simp[d8,List.map_set]
def bs8 (ds:List Nat):ByteArray:=ByteArray.mk (ds.map fun d=>UInt8.ofNat d).toArray
theorem bs8_app (xs ys:List Nat):bs8 xs++bs8 ys=bs8 (xs++ys):=by
 apply ByteArray.ext;simp[bs8]
theorem bs8_size (xs:List Nat):(bs8 xs).size=xs.length:=by simp[bs8,ByteArray.size]
theorem bs8_tl (c:Nat) (cs:List Nat):(bs8 (c::cs)).extract 1 (bs8 (c::cs)).size=bs8 cs:=by
 apply ByteArray.ext;simp only[bs8,ByteArray.size,ByteArray.data_extract];simp;exact List.take_of_length_le (by simp)
theorem bs8_hd {c:Nat} (h:c<256) (cs:List Nat):((bs8 (c::cs)).data.toList.getD 0 0).toNat=c:=by
 simp[bs8];omega
theorem bs8_digit:∀ d,d<10->(ByteArray.mk #[48,49,50,51,52,53,54,55,56,57]).extract d (d+1)=bs8 [48+d]:=by
 decide+kernel
theorem fold8 (ds:List Nat):(ds.map fun(d:Nat)=>(d:Int)).foldl (fun r n=>r.push (UInt8.ofNat n.toNat)) ByteArray.empty=bs8 ds:=by
 have:∀ (ds:List Nat) (s:ByteArray),(ds.map fun(d:Nat)=>(d:Int)).foldl (fun r n=>r.push (UInt8.ofNat n.toNat)) s=ByteArray.mk (s.data++(ds.map fun d=>UInt8.ofNat d).toArray):=by
   intro ds
   induction ds with
   | nil=>intro s;simp
   | cons d ds ih=>
     intro s;rw[List.map_cons,List.foldl_cons,ih];simp[ByteArray.push]
 rw[this];show ByteArray.mk (#[]++_)=_;rw[Array.empty_append];rfl
theorem bs8_one (xs:List Nat) (h:bs8 xs=ByteArray.mk #[49]) (hx:∀ x∈xs,x<256):xs= [49]:=by
 have h1:=congrArg (fun b=>b.data.toList) h;simp only[bs8] at h1
 match xs,h1 with
 | [],h1=>simp at h1
 | [x],h1=>
   simp at h1
   have:=hx x (by simp);have h2:=congrArg UInt8.toNat h1;simp at h2;rw[Nat.mod_eq_of_lt this] at h2;rw[h2]
 | _::_::_,h1=>simp at h1
theorem bytes_toList (b:ByteArray):b.toList=b.data.toList:=by
 have:∀ (k i:Nat) (r:List UInt8),b.size-i=k->ByteArray.toList.loop b i r=r.reverse++b.data.toList.drop i:=by
   intro k
   induction k with
   | zero=>
     intro i r hk;unfold ByteArray.toList.loop;rw[if_neg (by omega),List.drop_eq_nil_of_le (by show b.data.size<=i;have:b.size=b.data.size:=rfl;omega),List.append_nil]
   | succ k ih=>
     intro i r hk;have hi:i<b.data.size:=by have:b.size=b.data.size:=rfl;omega
     unfold ByteArray.toList.loop;rw[if_pos (by omega),ih _ _ (by omega),List.drop_eq_getElem_cons (i:=i) (l:=b.data.toList) (by rw[Array.length_toList];exact hi),List.reverse_cons,List.append_assoc]
     have e:b.get! i=b.data.toList[i]'(by rw[Array.length_toList];exact hi):=by
       show b.data[i]! =_;rw[getElem!_pos b.data i hi];rfl
     rw[e];rfl
 exact this _ 0 [] rfl
theorem bytes_beq {a b:ByteArray}:(a.toList==b.toList)=true↔a=b:=by
 rw[beq_iff_eq,bytes_toList,bytes_toList];constructor
 · intro h
   apply ByteArray.ext;exact Array.toList_inj.1 h
 · rintro rfl;rfl
def KT250_ok:=kn
def rvS (ds:List Nat) (i:Nat):List Nat:=(List.range ds.length).map fun k=>if k<i\/ds.length-i<=k then ds.getD (ds.length-1-k) 0 else ds.getD k 0
theorem rvS_len (ds:List Nat) (i:Nat):(rvS ds i).length=ds.length:=by simp[rvS]
theorem rvS_get {ds:List Nat} {i k:Nat} (h:k<ds.length):(rvS ds i).getD k 0=if k<i\/ds.length-i<=k then ds.getD (ds.length-1-k) 0 else ds.getD k 0:=by
 unfold rvS;rw[gdE,List.getElem?_map,List.getElem?_range h];rfl
theorem ext0 {xs ys:List Nat} (hl:xs.length=ys.length) (h:∀ k,k<xs.length->xs.getD k 0=ys.getD k 0):xs=ys:=by
 refine List.ext_getElem hl fun k h1 h2=> ?_
 have:=h k h1
 rwa [gdE,gdE,List.getElem?_eq_getElem h1,List.getElem?_eq_getElem h2] at this
theorem rvS_zero (ds:List Nat):rvS ds 0=ds:=by
 refine ext0 (rvS_len ds 0) fun k hk=> ?_
 rw[rvS_len] at hk;rw[rvS_get hk,if_neg (by omega)]
theorem rvS_end {ds:List Nat} {i:Nat} (h:ds.length<=2*i+1):rvS ds i=ds.reverse:=by
 refine ext0 (by rw[rvS_len,List.length_reverse]) fun k hk=> ?_
 rw[rvS_len] at hk;rw[rvS_get hk,gdE,gdE,gdE,List.getElem?_reverse hk]
 split
 · rfl
 · rw[show ds.length-1-k=k by omega]
theorem rvS_step {ds:List Nat} {i:Nat} (h:2*i+1<ds.length):((rvS ds i).set i ((rvS ds i).getD (ds.length-1-i) 0)).set (ds.length-1-i) ((rvS ds i).getD i 0)=rvS ds (i+1):=by
 have g1:(rvS ds i).getD i 0=ds.getD i 0:=by rw[rvS_get (by omega),if_neg (by omega)]
 have g2:(rvS ds i).getD (ds.length-1-i) 0=ds.getD (ds.length-1-i) 0:=by rw[rvS_get (by omega),if_neg (by omega)]
 rw[g1,g2];refine ext0 (by simp[rvS_len]) fun k hk=> ?_
 simp only[List.length_set,rvS_len] at hk;rw[rvS_get hk];simp only[gdE,List.getElem?_set,List.length_set,rvS_len]
 by_cases e1:ds.length-1-i=k
 · rw[if_pos e1,if_pos (by omega),if_pos (by omega),show ds.length-1-k=i by omega];simp[show i<ds.length by omega]
 · rw[if_neg e1]
   by_cases e2:i=k
   · rw[if_pos e2,if_pos (by omega),if_pos (by omega), <- e2];rfl
   · rw[if_neg e2]
     have:=rvS_get (ds:=ds) (i:=i) hk;rw[gdE] at this;rw[this];simp only[gdE]
     by_cases e3:k<i\/ds.length-i<=k
     · rw[if_pos e3,if_pos (by omega)]
     · rw[if_neg e3,if_neg (by omega)]
def h250:List AV->List ABlk->Option (AV×List (Option ABlk)×List Prop)
 | [.own 0 1 0 m],[⟨5,1,true,D,none⟩]=>some (.tup [],[some ⟨5,1,true,d8 (un8 D).reverse,none⟩],[D=d8 (un8 D),m=(un8 D).length,m<=4611686018427387904,0<m])
 | _,_=>none
section
variable {S:Nat->Prop} {w0:World} {ρ:Nat->Nat}
noncomputable abbrev T250:List Item:=[.code (nav [1,0,0] (bodyOf Tryz.f250)),.inLoop (nav [1,0,0] (bodyOf Tryz.f250)),.inBlock 0]
theorem loop250 (hq:ρ 0<w0.heap.size) {ds:List Nat} {m:Nat} (hm:m=ds.length) (hmL:m<=4611686018427387904):∀ (j i:Nat),i+j+1=m->
   Good Tryz.prog 250 S (fun k=>∃ l,l<1/\k=ρ l) w0 (PostH S w0 ρ 1 (.tup []) [some ⟨5,1,true,d8 ds.reverse,none⟩]) T250
     ⟨slots 28 [(0,.own 0 1 0 m),(2,.i6 ((i:Nat):Int)),(3,.i6 ((j:Nat):Int))],[some ⟨5,1,true,d8 (rvS ds i),(some (ρ 0))⟩]⟩:=by
 have fin:∀ (i j:Nat),i+j+1=m->¬ ((i:Nat):Int)<((j:Nat):Int)->Good Tryz.prog 250 S (fun k=>∃ l,l<1/\k=ρ l) w0 (PostH S w0 ρ 1 (.tup []) [some ⟨5,1,true,d8 ds.reverse,none⟩]) T250
     ⟨slots 28 [(0,.own 0 1 0 m),(2,.i6 ((i:Nat):Int)),(3,.i6 ((j:Nat):Int))],[some ⟨5,1,true,d8 (rvS ds i),(some (ρ 0))⟩]⟩:=fun i j hij h=>by
   refine gN KT250_ok [0,2,3] [(9,ff)] (.a1 (iF h)) (t:=[]) (σ:=slots 28 [(0,.own 0 1 0 m),(2,.i6 (i:Int)),(3,.i6 (j:Int))]) (h:=[some ⟨5,1,true,(d8 (rvS ds i)),(some (ρ 0))⟩]) ?_
   rw[rvS_end (by omega)]
   exact good_endH TT0_ok (fn:=Tryz.f250) (by kernel_rfl) (.inl rfl) (Vs:=[]) (by kernel_rfl) (by rfl) (by rfl)
     (fun | 0,_=>⟨_,rfl,rfl⟩ | l+1,hl=>absurd hl (by omega)) (fun | 0,_=>hq | l+1,hl=>absurd hl (by omega)) rr
 intro j
 induction j with
 | zero=>exact fun i hij=>fin i 0 hij (by omega)
 | succ j ih=>
   intro i hij
   by_cases h:((i:Nat):Int)<((j+1:Nat):Int)
   · have hl:=rvS_len ds i
     have k1:j+1<(rvS ds i).length:=by rw[hl];omega
     have k2:i<(rvS ds i).length:=by rw[hl];omega
     have v0:0+i<(d8 (rvS ds i)).length:=by rw[d8_length];omega
     have v1:(((j+1):Nat):Int)<(m:Int):=by omega
     refine gN KT250_ok [0,2,3] [(9,tt),(21,.int .u8 ((((rvS ds i).getD (j+1) 0):Nat):Int)),(25,.int .u8 ((((rvS ds i).getD i 0):Nat):Int)),(11,.i6 ((i+1:Nat):Int)),(13,.i6 ((((j+1):Nat):Int)-(1:Int)))] (.c6 (iT h) (nn (j+1)) v1 (show Ref (((d8 (rvS ds i)).getD (0+(j+1)) []).headD .any) (.int .u8 ((((rvS ds i).getD (j+1) 0):Nat):Int)) from Ref.eq (by rw[Nat.zero_add,d8_get k1])) (show 0+(j+1)<(d8 (rvS ds i)).length by rw[d8_length];omega) (nn i) (.c6 (om ((i:Int)<(m:Int))) (show Ref (((d8 (rvS ds i)).getD (0+i) []).headD .any) (.int .u8 ((((rvS ds i).getD i 0):Nat):Int)) from Ref.eq (by rw[Nat.zero_add,d8_get k2])) v0 (nn i) (om ((i:Int)<(m:Int))) v0 (.a5 (nn (j+1)) v1 (show 0+(j+1)<((d8 (rvS ds i)).set (0+i) [(AV.int .u8 ((((rvS ds i).getD (j+1) 0):Nat):Int))]).length by rw[List.length_set,d8_length];omega) (wI ((i:Int)+(1:Int)) ((i+1:Nat):Int)) (wI ((((j+1):Nat):Int)-(1:Int)) ((((j+1):Nat):Int)-(1:Int)))))) (t:=T250) (σ:=slots 28 [(0,.own 0 1 0 m),(2,.i6 ((i+1:Nat):Int)),(3,(.i6 ((((j+1):Nat):Int)-(1:Int))))]) (h:=[some ⟨5,1,true,(((d8 (rvS ds i)).set (0+i) [(AV.int .u8 ((((rvS ds i).getD (j+1) 0):Nat):Int))]).set (0+(j+1)) [.int .u8 ((((rvS ds i).getD i 0):Nat):Int)]),(some (ρ 0))⟩]) ?_
     rw[Nat.zero_add,Nat.zero_add,d8_set,d8_set]
     have:=rvS_step (ds:=ds) (i:=i) (by omega);rw[show ds.length-1-i=j+1 by omega] at this;rw[this];have e:((j+1:Nat):Int)-(1:Int)=((j:Nat):Int):=by omega
     rw[e];exact ih (i+1) (by omega)
   · exact fin i (j+1) hij h
end
theorem ah250 (args:List AV) (b:List ABlk) (r:AV) (h2:List (Option ABlk)) (ob:List Prop) (h:h250 args b=some (r,h2,ob)) (ho:AllP ob):AFunH Tryz.prog 250 args b r h2:=by
 unfold h250 at h
 split at h
 · rename_i m D
   cases h;have o1:D=d8 (un8 D):=ho _ (by simp);have o2:m=(un8 D).length:=ho _ (by simp);have o3:m<=4611686018427387904:=ho _ (by simp);have o4:0<m:=ho _ (by simp);generalize un8 D=ds at*;subst o1;refine afunH_of (fn:=Tryz.f250) (c:=bodyOf Tryz.f250) (by kernel_rfl) (by kernel_rfl) (by kernel_rfl) (by simp) fun S w0 ρ hρ=> ?_
   have e2:(st0 [AV.own 0 1 0 m] Tryz.f250.ntmps).σ=slots 28 [(0,.own 0 1 0 m)]:=by kernel_rfl
   show Good _ _ _ _ _ _ _ ⟨(st0 [AV.own 0 1 0 m] Tryz.f250.ntmps).σ,pins ρ 0 _⟩;rw[e2];refine gN KT250_ok [0,2,3] [(6,.i6 ((m:Int)-(1:Int)))] (.a1 (wI ((m:Int)-(1:Int)) ((m:Int)-(1:Int)))) (t:=T250) (σ:=slots 28 [(0,.own 0 1 0 m),(2,.i6 (0:Int)),(3,.i6 ((m:Int)-(1:Int)))]) (h:=[some ⟨5,1,true,(d8 ds),(some (ρ 0))⟩]) ?_
   have e:((m:Nat):Int)-(1:Int)=((m-1:Nat):Int):=by omega
   rw[e]
   have:=loop250 (S:=S) (w0:=w0) (ρ:=ρ) (hρ 0 (by simp)) o2 o3 (m-1) 0 (by omega);rw[rvS_zero] at this;exact this
 · cases h
def KT186_ok:=((kn.cons a249).cons a248).consH ah250
abbrev n186_0 (ff:Func):List Item:=[.code (nav [1,1,1,0,0,0,1,0,1,1,0,1,0,0] (bodyOf ff)),.inLoop (nav [1,1,1,0,0,0,1,0,1,1,0,1,0,0] (bodyOf ff)),.inBlock 2,.code (nav [1,1,1,0,0,0,1,0,1,1,1] (bodyOf ff)),.inBlock 1,.inLoop (nav [1,1,1,0,0,0] (bodyOf ff)),.inBlock 0,.code (nav [1,1,1,1] (bodyOf ff))]
abbrev n186_1 (ys:List Nat) (r:Nat) (c:Nat) (i:Nat):List (Nat×AV):=[(23,(.bool true)),(24,(.list 1 (d32 ys))),(27,(.bool false)),(31,(.bool true)),(36,(.int .u64 ((r % 10:Nat):Int))),(37,(.int .u64 ((48+(r % 10):Nat):Int))),(38,(.int .u8 (c:Int))),(42,(.int .u64 ((r/10:Nat):Int))),(33,(.i6 ((i+1:Nat):Int)))]
abbrev n186_2 (ys:List Nat) (r:Nat) (c:Nat) (i:Nat):List (Nat×AV):=[(23,(.bool true)),(24,(.list 1 (d32 ys))),(27,(.bool true)),(36,(.int .u64 ((r % 10:Nat):Int))),(37,(.int .u64 ((48+(r % 10):Nat):Int))),(38,(.int .u8 (c:Int))),(42,(.int .u64 ((r/10:Nat):Int))),(33,(.i6 ((i+1:Nat):Int)))]
abbrev n186_3 (r:Nat):AV:=(.int .u64 (IntKind.u64.wrap ((48:Int)+((r % 10:Nat):Int))))
abbrev n186_4 (r:Nat):AV:=(.int .u8 (IntKind.u8.wrap ((48+(r % 10):Nat):Int)))
abbrev n186_5 (r:Nat):AV:=(.int .u64 (IntKind.u64.wrap ((r:Int).tdiv (10:Int))))
abbrev n186_6 (i:Nat):AV:=(.i6 (IntKind.i64.wrap ((i:Int)+(1:Int))))
abbrev n186_7 (ys:List Nat):AV:=(.bool (decide ((0:Int)<((d32 ys).length:Int))))
section
variable {S0 C0:Nat->Prop} {w0:World} {Post:Value->World->Prop}
theorem p186_3_0 (n B q r i c:Nat) (ys:List Nat) (h1:(i:Int)<(9:Int)) (h2:(0:Int)<((d32 ys).length:Int)) (o:(Ref (.nat q B) (.list 1 (d32 ys)))/\(0<=(48:Int)+((r % 10:Nat):Int)/\(48:Int)+((r % 10:Nat):Int)<=18446744073709551615)/\(Ref (.int .u8 (IntKind.u8.wrap ((48+(r % 10):Nat):Int))) (.int .u8 (c:Int)))/\(1*1<=140737488355328)/\(1<=big)/\(Ref (.int .u64 (IntKind.u64.wrap ((r:Int).tdiv (10:Int)))) (.int .u64 ((r/10:Nat):Int)))/\(-9223372036854775808<=(i:Int)+(1:Int)/\(i:Int)+(1:Int)<=9223372036854775807))
   (hg:Good Tryz.prog 186 S0 C0 w0 Post (n186_0 Tryz.f186) ⟨slots 48 [(3,.own 0 1 0 1),(4,.nat q B),(6,.int .u64 ((r/10:Nat):Int)),(7,.i6 ((i+1:Nat):Int))],[some ⟨5,1,true,[[.int .u8 (c:Int)]],none⟩]⟩):
   Good Tryz.prog 186 S0 C0 w0 Post (n186_0 Tryz.f186) ⟨slots 48 [(3,.nil),(4,.nat q B),(6,.int .u64 (r:Int)),(7,.i6 (i:Int))],[]⟩:=
 goR mixed TT0_ok KT186_ok 18 none [0,3,4,6,7] [1] (n186_2 ys r c i) (ob:=[Ref (.bool (decide ((i:Int)<(9:Int)))) (.bool true),Ref (.nat q B) (.list 1 (d32 ys)),Ref (n186_7 ys) (.bool true),Ref (.int .u64 ((r:Int).tmod (10:Int))) (.int .u64 ((r % 10:Nat):Int)),(10:Int)≠0,Ref (n186_3 r) (.int .u64 ((48+(r % 10):Nat):Int)),Ref (n186_4 r) (.int .u8 (c:Int)),1=1,0<1,1*1<=140737488355328,1<=big,Ref (n186_5 r) (.int .u64 ((r/10:Nat):Int)),(10:Int)≠0,Ref (n186_6 i) (.i6 ((i+1:Nat):Int))]) (by decide) (by kernel_rfl)
   (.cons (Ref.bool (decide_eq_true h1)) (.cons (o.1) (.cons (Ref.bool (decide_eq_true h2)) (.cons (Ref.rem (a:=r) (b:=10) rfl rfl) (.cons (by decide) (.cons ((Ref.wr o.2.1).trans (Ref.int (by first | rfl | omega | simp))) (.cons (o.2.2.1) (.cons (rfl) (.cons (by decide) (.cons (o.2.2.2.1) (.cons (o.2.2.2.2.1) (.cons (o.2.2.2.2.2.1) (.cons (by decide) (.cons ((Ref.wr o.2.2.2.2.2.2).trans (Ref.int (by first | rfl | omega | simp))) (AllP.nil))))))))))))))) hg
theorem p186_3_1 (n B q r i c:Nat) (ys:List Nat) (h1:(i:Int)<(9:Int)) (h2:¬ ((0:Int)<((d32 ys).length:Int))) (h3:(0:Int)<(r:Int)) (o:(Ref (.nat q B) (.list 1 (d32 ys)))/\(0<=(48:Int)+((r % 10:Nat):Int)/\(48:Int)+((r % 10:Nat):Int)<=18446744073709551615)/\(Ref (.int .u8 (IntKind.u8.wrap ((48+(r % 10):Nat):Int))) (.int .u8 (c:Int)))/\(1*1<=140737488355328)/\(1<=big)/\(Ref (.int .u64 (IntKind.u64.wrap ((r:Int).tdiv (10:Int)))) (.int .u64 ((r/10:Nat):Int)))/\(-9223372036854775808<=(i:Int)+(1:Int)/\(i:Int)+(1:Int)<=9223372036854775807))
   (hg:Good Tryz.prog 186 S0 C0 w0 Post (n186_0 Tryz.f186) ⟨slots 48 [(3,.own 0 1 0 1),(4,.nat q B),(6,.int .u64 ((r/10:Nat):Int)),(7,.i6 ((i+1:Nat):Int))],[some ⟨5,1,true,[[.int .u8 (c:Int)]],none⟩]⟩):
   Good Tryz.prog 186 S0 C0 w0 Post (n186_0 Tryz.f186) ⟨slots 48 [(3,.nil),(4,.nat q B),(6,.int .u64 (r:Int)),(7,.i6 (i:Int))],[]⟩:=
 goR mixed TT0_ok KT186_ok 18 none [0,3,4,6,7] [1] (n186_1 ys r c i) (ob:=[Ref (.bool (decide ((i:Int)<(9:Int)))) (.bool true),Ref (.nat q B) (.list 1 (d32 ys)),Ref (n186_7 ys) (.bool false),Ref (.bool (decide ((0:Int)<(r:Int)))) (.bool true),Ref (.int .u64 ((r:Int).tmod (10:Int))) (.int .u64 ((r % 10:Nat):Int)),(10:Int)≠0,Ref (n186_3 r) (.int .u64 ((48+(r % 10):Nat):Int)),Ref (n186_4 r) (.int .u8 (c:Int)),1=1,0<1,1*1<=140737488355328,1<=big,Ref (n186_5 r) (.int .u64 ((r/10:Nat):Int)),(10:Int)≠0,Ref (n186_6 i) (.i6 ((i+1:Nat):Int))]) (by decide) (by kernel_rfl)
   (.cons (Ref.bool (decide_eq_true h1)) (.cons (o.1) (.cons (Ref.bool (decide_eq_false h2)) (.cons (Ref.bool (decide_eq_true h3)) (.cons (Ref.rem (a:=r) (b:=10) rfl rfl) (.cons (by decide) (.cons ((Ref.wr o.2.1).trans (Ref.int (by first | rfl | omega | simp))) (.cons (o.2.2.1) (.cons (rfl) (.cons (by decide) (.cons (o.2.2.2.1) (.cons (o.2.2.2.2.1) (.cons (o.2.2.2.2.2.1) (.cons (by decide) (.cons ((Ref.wr o.2.2.2.2.2.2).trans (Ref.int (by first | rfl | omega | simp))) (AllP.nil)))))))))))))))) hg
theorem p186_4_0 (n B q r i c:Nat) (ys:List Nat) (ds:List Nat) (m:Nat) (h1:(i:Int)<(9:Int)) (h2:(0:Int)<((d32 ys).length:Int)) (o:(Ref (.nat q B) (.list 1 (d32 ys)))/\(0<=(48:Int)+((r % 10:Nat):Int)/\(48:Int)+((r % 10:Nat):Int)<=18446744073709551615)/\(Ref (.int .u8 (IntKind.u8.wrap ((48+(r % 10):Nat):Int))) (.int .u8 (c:Int)))/\(m=(d8 ds).length)/\((m+1)*1<=140737488355328)/\(m+1<=big)/\(Ref (.int .u64 (IntKind.u64.wrap ((r:Int).tdiv (10:Int)))) (.int .u64 ((r/10:Nat):Int)))/\(-9223372036854775808<=(i:Int)+(1:Int)/\(i:Int)+(1:Int)<=9223372036854775807))
   (hg:Good Tryz.prog 186 S0 C0 w0 Post (n186_0 Tryz.f186) ⟨slots 48 [(3,.own 0 1 0 (m+1)),(4,.nat q B),(6,.int .u64 ((r/10:Nat):Int)),(7,.i6 ((i+1:Nat):Int))],[some ⟨5,1,true,((d8 ds)++ [[(AV.int .u8 (c:Int))]]),none⟩]⟩):
   Good Tryz.prog 186 S0 C0 w0 Post (n186_0 Tryz.f186) ⟨slots 48 [(3,.own 0 1 0 m),(4,.nat q B),(6,.int .u64 (r:Int)),(7,.i6 (i:Int))],[some ⟨5,1,true,(d8 ds),none⟩]⟩:=
 goR mixed TT0_ok KT186_ok 18 none [0,3,4,6,7] [2] (n186_2 ys r c i) (ob:=[Ref (.bool (decide ((i:Int)<(9:Int)))) (.bool true),Ref (.nat q B) (.list 1 (d32 ys)),Ref (n186_7 ys) (.bool true),Ref (.int .u64 ((r:Int).tmod (10:Int))) (.int .u64 ((r % 10:Nat):Int)),(10:Int)≠0,Ref (n186_3 r) (.int .u64 ((48+(r % 10):Nat):Int)),Ref (n186_4 r) (.int .u8 (c:Int)),1=1,m=(d8 ds).length,(m+1)*1<=140737488355328,m+1<=big,Ref (n186_5 r) (.int .u64 ((r/10:Nat):Int)),(10:Int)≠0,Ref (n186_6 i) (.i6 ((i+1:Nat):Int))]) (by decide) (by kernel_rfl)
   (.cons (Ref.bool (decide_eq_true h1)) (.cons (o.1) (.cons (Ref.bool (decide_eq_true h2)) (.cons (Ref.rem (a:=r) (b:=10) rfl rfl) (.cons (by decide) (.cons ((Ref.wr o.2.1).trans (Ref.int (by first | rfl | omega | simp))) (.cons (o.2.2.1) (.cons (rfl) (.cons (o.2.2.2.1) (.cons (o.2.2.2.2.1) (.cons (o.2.2.2.2.2.1) (.cons (o.2.2.2.2.2.2.1) (.cons (by decide) (.cons ((Ref.wr o.2.2.2.2.2.2.2).trans (Ref.int (by first | rfl | omega | simp))) (AllP.nil))))))))))))))) hg
theorem p186_4_1 (n B q r i c:Nat) (ys:List Nat) (ds:List Nat) (m:Nat) (h1:(i:Int)<(9:Int)) (h2:¬ ((0:Int)<((d32 ys).length:Int))) (h3:(0:Int)<(r:Int)) (o:(Ref (.nat q B) (.list 1 (d32 ys)))/\(0<=(48:Int)+((r % 10:Nat):Int)/\(48:Int)+((r % 10:Nat):Int)<=18446744073709551615)/\(Ref (.int .u8 (IntKind.u8.wrap ((48+(r % 10):Nat):Int))) (.int .u8 (c:Int)))/\(m=(d8 ds).length)/\((m+1)*1<=140737488355328)/\(m+1<=big)/\(Ref (.int .u64 (IntKind.u64.wrap ((r:Int).tdiv (10:Int)))) (.int .u64 ((r/10:Nat):Int)))/\(-9223372036854775808<=(i:Int)+(1:Int)/\(i:Int)+(1:Int)<=9223372036854775807))
   (hg:Good Tryz.prog 186 S0 C0 w0 Post (n186_0 Tryz.f186) ⟨slots 48 [(3,.own 0 1 0 (m+1)),(4,.nat q B),(6,.int .u64 ((r/10:Nat):Int)),(7,.i6 ((i+1:Nat):Int))],[some ⟨5,1,true,((d8 ds)++ [[(AV.int .u8 (c:Int))]]),none⟩]⟩):
   Good Tryz.prog 186 S0 C0 w0 Post (n186_0 Tryz.f186) ⟨slots 48 [(3,.own 0 1 0 m),(4,.nat q B),(6,.int .u64 (r:Int)),(7,.i6 (i:Int))],[some ⟨5,1,true,(d8 ds),none⟩]⟩:=
 goR mixed TT0_ok KT186_ok 18 none [0,3,4,6,7] [2] (n186_1 ys r c i) (ob:=[Ref (.bool (decide ((i:Int)<(9:Int)))) (.bool true),Ref (.nat q B) (.list 1 (d32 ys)),Ref (n186_7 ys) (.bool false),Ref (.bool (decide ((0:Int)<(r:Int)))) (.bool true),Ref (.int .u64 ((r:Int).tmod (10:Int))) (.int .u64 ((r % 10:Nat):Int)),(10:Int)≠0,Ref (n186_3 r) (.int .u64 ((48+(r % 10):Nat):Int)),Ref (n186_4 r) (.int .u8 (c:Int)),1=1,m=(d8 ds).length,(m+1)*1<=140737488355328,m+1<=big,Ref (n186_5 r) (.int .u64 ((r/10:Nat):Int)),(10:Int)≠0,Ref (n186_6 i) (.i6 ((i+1:Nat):Int))]) (by decide) (by kernel_rfl)
   (.cons (Ref.bool (decide_eq_true h1)) (.cons (o.1) (.cons (Ref.bool (decide_eq_false h2)) (.cons (Ref.bool (decide_eq_true h3)) (.cons (Ref.rem (a:=r) (b:=10) rfl rfl) (.cons (by decide) (.cons ((Ref.wr o.2.1).trans (Ref.int (by first | rfl | omega | simp))) (.cons (o.2.2.1) (.cons (rfl) (.cons (o.2.2.2.1) (.cons (o.2.2.2.2.1) (.cons (o.2.2.2.2.2.1) (.cons (o.2.2.2.2.2.2.1) (.cons (by decide) (.cons ((Ref.wr o.2.2.2.2.2.2.2).trans (Ref.int (by first | rfl | omega | simp))) (AllP.nil)))))))))))))))) hg
theorem x186 {B B':Base->Prop} (es:List Nat)
   (hB:B ⟨S0,C0,w0⟩) (hX:∀ (Q:Exit->Act->World->Prop) β ρ D σ h a w,B β->Rel β.S β.C β.w ρ D ⟨σ,h⟩ a w->(∀ τ∈ [46],σ.getD τ .any=(slots 48 [(2,.str (bs8 es)),(3,.list 1 (d8 es)),(46,.list 1 (d8 es)),(47,.str (bs8 es))]).getD τ .any)->wpOp Tryz.prog (regOps (nav [1,1,1,1,1,0] (bodyOf Tryz.f186))) Q 1 (fun a' w'=>∃ β',B' β'/\Rel β'.S β'.C β'.w ρ D ⟨put σ (some 47) (.str (bs8 es)),h⟩ a' w') a w)
   (hg:∀ β,B' β->Good Tryz.prog 186 β.S β.C β.w Post [.code .ret] ⟨slots 48 [(2,.str (bs8 es)),(3,.list 1 (d8 es)),(46,.list 1 (d8 es)),(47,.str (bs8 es))],[none]⟩):
   Good Tryz.prog 186 S0 C0 w0 Post [.code (nav [1,1,1,1,1,0] (bodyOf Tryz.f186)),.code .ret] ⟨slots 48 [(3,.list 1 (d8 es))],[none]⟩:=
 Good.regX mixed TT0_ok KT186_ok 1 (c:=nav [1,1,1,1,1,0] (bodyOf Tryz.f186)) (oX:=((regOps (nav [1,1,1,1,1,0] (bodyOf Tryz.f186))).toList[1]?).getD default) (dX:=some 47) (V:=(.str (bs8 es))) (ov:=[(47,(.str (bs8 es)))]) (ob:=[]) [46] (by kernel_rfl) (by kernel_rfl) (by kernel_rfl) (by kernel_rfl) (by kernel_rfl)
   (AllP.nil) (Or.inr (by kernel_rfl)) (by kernel_rfl) hX hB hg
end
def asc (es:List Nat):List Nat:=es.map (48+·)
theorem asc_len (es:List Nat):(asc es).length=es.length:=by simp[asc]
theorem asc_snoc (es:List Nat) (v:Nat):asc (es++ [v])=asc es++ [48+v]:=by simp[asc]
theorem d8_snoc (ds:List Nat) (v:Nat):d8 ds++ [[AV.int .u8 ((v:Nat):Int)]]=d8 (ds++ [v]):=by simp[d8]
def decB (n:Nat):ByteArray:=if n=0 then ByteArray.mk #[48] else bs8 (asc (digits 10 n)).reverse
def k186:KF
 | [.nat n B]=>some (.str (decB n),[B<=LIM])
 | _=>none
def Inv (N v:Nat) (es:List Nat):Prop:=(∀ x∈es,x<10)/\dval 10 es+10^es.length*v=N/\(es≠ []->10^(es.length-1)<=N)
theorem Inv.push {N v:Nat} {es:List Nat} (h:Inv N v es) (hv:0<v):Inv N (v/10) (es++ [v % 10]):=by
 obtain⟨h1,h2,h3⟩:=h;refine⟨snoc_lt h1 (Nat.mod_lt _ (by decide)), ?_,fun _=> ?_⟩
 · rw[dval_snoc,List.length_append,List.length_singleton,Nat.pow_succ,Nat.mul_assoc,Nat.add_assoc, <- Nat.mul_add,Nat.mod_add_div];exact h2
 · rw[List.length_append,List.length_singleton,Nat.add_sub_cancel]
   have:=Nat.mul_le_mul_left (10^es.length) (show 1<=v from hv);omega
theorem Inv.len {N v B:Nat} {es:List Nat} (h:Inv N v es) (hB:N<2^B):es.length<=B+1:=by
 obtain⟨h1,h2,h3⟩:=h;rcases Nat.eq_zero_or_pos es.length with e | e
 · omega
 · have h4:=h3 (fun e'=>by rw[e'] at e;simp at e)
   have h5:2^(es.length-1)<=10^(es.length-1):=Nat.pow_le_pow_left (by decide) _
   have:=(Nat.pow_lt_pow_iff_right (a:=2) (by decide)).1 (Nat.lt_of_le_of_lt (Nat.le_trans h5 h4) hB);omega
theorem Inv.done {N:Nat} {es:List Nat} (h:Inv N 0 es) (h0:es≠ []):es=digits 10 N/\N≠0:=by
 obtain⟨h1,h2,h3⟩:=h;rw[Nat.mul_zero,Nat.add_zero] at h2;have h4:=h3 h0;obtain⟨g1,g2⟩:=digits_spec (b:=10) (by decide) N;refine⟨Dig.uniq (b:=10) (by decide) (Dig.of_ge (by decide) h1 (by rw[h2];exact h4)) g1 (by rw[h2,g2]), ?_⟩
 have:=Nat.pow_pos (n:=es.length-1) (dc (0<10));omega
theorem conv8 {ρ:Nat->Nat} {S:Nat->Prop} {w:World} {D:Nat->Prop} {es:List Nat} {v:Value} (h:RelV ρ S w D (.list 1 (d8 es)) v) (h0:es≠ []):(convert 414 9 v).run Tryz.prog w= .ok (.string (bs8 es)) w:=by
 obtain⟨A,cap,f,rfl,g1,g2,g3,g4,g5⟩:=list_inv h;have hl:(d8 es).length=es.length:=d8_length;obtain⟨ad,rfl,_,_,hs⟩:=g5 (by rw[hl];exact List.length_pos_iff.2 h0);rw[run_convert_bytes_string w 414 9 5 _ _ _ (by kernel_rfl) (by kernel_rfl) (by kernel_rfl)]
 have hc:∀ j v,(es.map fun(d:Nat)=>Value.int .u8 (d:Int))[j]? =some v->w.cell? (ad.add j)=some v:=by
   intro j v hj;rw[List.getElem?_map] at hj;obtain⟨d,hd,rfl⟩:=Option.map_eq_some_iff.1 hj;have hjl:j<es.length:=(List.getElem?_eq_some_iff.1 hd).1;have hf:=g4 j [.int .u8 (d:Int)] (by simp[d8,hd]);have hfl:=g3 j (by rw[hl];exact hjl);have hsj:=hs j (by rw[hl];exact hjl)
   match hfj:f j,hfl with
   | [u],_=>
     rw[hfj] at hf hsj;have e:u= .int .u8 (d:Int):=(show RelV ρ S w No (.int .u8 (d:Int)) u from hf).int_inv;subst e
     have:=hsj 0 _ rfl;rw[Nat.mul_one] at this;exact this
 have hrun:=run_loadCells_list (w:=w) (P:=Tryz.prog) ad _ hc;rw[lmE] at hrun;rw[hl,run_bytesToString w ad _ cap (es.map fun(d:Nat)=>(d:Int)) (by rw[hrun];simp[Function.comp_def]),fold8]
section
variable {S:Nat->Prop} {w0:World}
noncomputable abbrev TO186:List Item:=[.code (nav [1,1,1,0,0,0] (bodyOf Tryz.f186)),.inLoop (nav [1,1,1,0,0,0] (bodyOf Tryz.f186)),.inBlock 0,.code (nav [1,1,1,1] (bodyOf Tryz.f186))]
noncomputable abbrev TI186:List Item:=[.code (nav [1,1,1,0,0,0,1,0,1,1,0,1,0,0] (bodyOf Tryz.f186)),.inLoop (nav [1,1,1,0,0,0,1,0,1,1,0,1,0,0] (bodyOf Tryz.f186)),.inBlock 2,.code (nav [1,1,1,0,0,0,1,0,1,1,1] (bodyOf Tryz.f186)),.inBlock 1,.inLoop (nav [1,1,1,0,0,0] (bodyOf Tryz.f186)),.inBlock 0,.code (nav [1,1,1,1] (bodyOf Tryz.f186))]
abbrev b186 (es:List Nat):ABlk:=⟨5,1,true,d8 (asc es),none⟩
theorem op186:∃ oX:Oper,(regOps (nav [1,1,1,1,1,0] (bodyOf Tryz.f186)))[1]? =some oX/\oX.guard=none/\oX.op=Op.convert 414 9 (Operand.tmp 46)/\oX.dst=some 47:=
 ⟨((regOps (nav [1,1,1,1,1,0] (bodyOf Tryz.f186))).toList[1]?).getD default,by kernel_rfl,by kernel_rfl,by kernel_rfl,by kernel_rfl⟩
theorem fin186 {N B:Nat} (hL:B<=LIM) (hB:N<2^B) {es:List Nat} (hI:Inv N 0 es) (h0:es≠ []):
   GF 186 S w0 (.str (decB N)) TO186 ⟨slots 48 [(0,.nat 0 B),(3,.own 0 1 0 es.length)],[some (b186 es)]⟩:=by
 have hl:=hI.len hB;have hp:=List.length_pos_iff.2 h0;have ha:(asc es).length=es.length:=asc_len es;unfold LIM at hL;refine gR KT186_ok (some 14) [0,3,4,6,7] [0] [(11,.list 1 (d32 (digits b32 0))),(13,ff)] (.a6 (show Ref (.nat 0 B) (.list 1 (d32 (digits b32 0))) from Ref.opn) (iF (show ¬ ((0:Int)<((d32 (digits b32 0)).length:Int)) by rw[d32_length,digits_zero];decide)) (show(d8 (asc es))=d8 (un8 (d8 (asc es))) by rw[un8_d8]) (show es.length=(un8 (d8 (asc es))).length by rw[un8_d8,ha]) (om (es.length<=4611686018427387904)) hp) (t:=[.code (nav [1,1,1,1,1,0] (bodyOf Tryz.f186)),.code .ret]) (σ:=slots 48 [(0,.nat 0 B),(3,.own 0 1 0 es.length)]) (h:=[some ⟨5,1,true,(d8 (un8 (d8 (asc es))).reverse),none⟩]) ?_
 rw[un8_d8];refine Good.pk 48 [(3,.own 0 1 0 es.length)] ?_;refine Good.freezeD (b:=⟨5,1,true,d8 (asc es).reverse,none⟩) 0 (by rfl) (by rfl) (AllP.of_eq (l':=[0+es.length<=(d8 (asc es).reverse).length]) (by kernel_rfl) (.cons (by rw[d8_length,List.length_reverse,ha];omega) .nil)) .on ?_
 refine Good.weak 48 [(3,.list 1 (d8 (asc es).reverse))] (by kernel_rfl) (.cons (by
   show Ref (.list 1 (((d8 (asc es).reverse).drop 0).take es.length)) _
   rw[List.drop_zero,tkE (by rw[d8_length,List.length_reverse,ha];omega)];exact rr) .nil) ?_
 refine x186 (B:=fun β=>β=⟨S,No,w0⟩) (B':=fun β=>β=⟨S,No,w0⟩) (asc es).reverse rfl ?_ ?_
 · rintro Q β ρ D σ h a w1 rfl R hA
   have h1:=R.eval (.tmp 46);have e1:aval σ (.tmp 46)= .list 1 (d8 (asc es).reverse):=(hA 46 (by simp)).trans (by kernel_rfl);rw[e1] at h1;have hrun:=conv8 h1 (by simp[asc,h0]);obtain⟨oX,hoX,hg,hop,hd⟩:=op186;refine wpOp_run hoX hg (v:=.string (bs8 (asc es).reverse)) (w':=w1) ?_ ?_
   · rw[execOp,hop]
     simp only[Sem.run_bind,hrun];rfl
   · rw[hd]
     exact⟨_,rfl,R.val (.str .done)⟩
 · rintro β rfl
   obtain⟨e1,e2⟩:=hI.done h0
   exact good_ret1 TT0_ok (fn:=Tryz.f186) (by kernel_rfl) 2 (by kernel_rfl) rfl (by rfl) (Ref.eq (by
     show AV.str _=_;unfold decB
     rw[if_neg e2, <- e1]))
theorem inner186 {N B q:Nat} (hL:B<=LIM) (hB:N<2^B)
   (hout:∀ es,Inv N q es->es≠ []->GF 186 S w0 (.str (decB N)) TO186 ⟨slots 48 [(0,.nat q B),(3,.own 0 1 0 es.length)],[some (b186 es)]⟩):
   ∀ (j i r v:Nat) (es:List Nat),i+j=9->v=r+10^j*q->r<10^j->Inv N v es->es≠ []->
   GF 186 S w0 (.str (decB N)) TI186 ⟨slots 48 [(3,.own 0 1 0 es.length),(4,.nat q B),(6,.int .u64 ((r:Nat):Int)),(7,.i6 ((i:Nat):Int))],[some (b186 es)]⟩:=by
 intro j
 induction j with
 | zero=>
   intro i r v es hij hv hr hI h0;rw[Nat.pow_zero] at hv hr;have hv':v=q:=by omega
   subst hv';exact gN KT186_ok [0,3] [(23,ff)] (.a1 (iF (om (¬ ((i:Int)<(9:Int)))))) (hout es hI h0)
 | succ j ih=>
   intro i r v es hij hv hr hI h0;have hp:10^(j+1)*q=10*(10^j*q):=by rw[Nat.pow_succ,Nat.mul_comm (10^j) 10,Nat.mul_assoc]
   have hr':r<10*10^j:=by rw[Nat.pow_succ] at hr;omega
   have hpj:10^j<=10^9:=Nat.pow_le_pow_right (by decide) (by omega);rw[hp] at hv;have hl:=hI.len hB;have hpos:=List.length_pos_iff.2 h0;unfold LIM at hL;have big':es.length+1<=big:=by unfold big;omega
   have u1:(0:Int)<=(48:Int)+((r % 10:Nat):Int)/\(48:Int)+((r % 10:Nat):Int)<=18446744073709551615:=by omega
   have u2:Ref (AV.int .u8 (IntKind.u8.wrap ((48+(r % 10):Nat):Int))) (AV.int .u8 ((48+r % 10:Nat):Int)):=Ref.wr ⟨by show(0:Int)<=_;omega,by show _<=(255:Int);omega⟩;have u3:Ref (AV.int .u64 (IntKind.u64.wrap (((r:Nat):Int).tdiv (10:Int)))) (AV.int .u64 ((r/10:Nat):Int)):=Ref.wrU (Int.ofNat_tdiv r 10).symm (by omega);have u4: -9223372036854775808<=((i:Nat):Int)+(1:Int)/\((i:Nat):Int)+(1:Int)<=9223372036854775807:=by omega
   have nx:0<v->GF 186 S w0 (.str (decB N)) TI186 ⟨slots 48 [(3,.own 0 1 0 (es.length+1)),(4,.nat q B),(6,.int .u64 ((r/10:Nat):Int)),(7,.i6 ((i+1:Nat):Int))],[some ⟨5,1,true,d8 (asc es)++ [[.int .u8 ((48+r % 10:Nat):Int)]],none⟩]⟩:=by
     intro hv0
     have:=ih (i+1) (r/10) (v/10) (es++ [v % 10]) (by omega) (by omega) (by omega) (hI.push hv0) (by simp);rw[List.length_append,List.length_singleton] at this;unfold b186 at this;rw[asc_snoc,show v % 10=r % 10 by omega] at this;rw[d8_snoc];exact this
   have h9:((i:Nat):Int)<(9:Int):=by omega
   rcases Nat.eq_zero_or_pos q with hq | hq
   · have z2:¬ (0:Int)<(((d32 (digits b32 q)).length:Nat):Int):=by rw[d32_length,hq,digits_zero];decide
     rcases Nat.eq_zero_or_pos r with hr0 | hr0
     · have z3:¬ (0:Int)<((r:Nat):Int):=by omega
       refine gN KT186_ok [0,3,4,6,7] [(23,tt),(24,.list 1 (d32 (digits b32 q))),(27,ff),(31,ff)] (.a4 (iT h9) (show Ref (.nat q B) (.list 1 (d32 (digits b32 q))) from Ref.opn) (iF z2) (iF z3)) (t:=TO186) (σ:=slots 48 [(0,.nat q B),(3,.own 0 1 0 es.length),(4,.nat q B),(6,.int .u64 (r:Int)),(7,.i6 (i:Int))]) (h:=[some ⟨5,1,true,(d8 (asc es)),none⟩]) ?_
       have hv':v=q:=by rw[hv,hq,hr0,Nat.mul_zero]
       rw[hv'] at hI;refine Good.pk 48 [(0,.nat q B),(3,.own 0 1 0 es.length)] ?_;exact hout es hI h0
     · exact p186_4_1 0 B q r i _ (digits b32 q) (asc es) es.length h9 z2 (by omega) ⟨Ref.opn,u1,u2,by rw[d8_length,asc_len],by omega,big',u3,u4⟩ (nx (by omega))
   · have z2:(0:Int)<(((d32 (digits b32 q)).length:Nat):Int):=by
       have:=(digits_pos (b:=b32) (n:=q) (by decide)).2 hq;rw[d32_length];omega
     have:=Nat.mul_pos (Nat.pow_pos (n:=j) (dc (0<10))) hq;exact p186_4_0 0 B q r i _ (digits b32 q) (asc es) es.length h9 z2 ⟨Ref.opn,u1,u2,by rw[d8_length,asc_len],by omega,big',u3,u4⟩ (nx (by omega))
theorem outer186 {N B:Nat} (hL:B<=LIM) (hB:N<2^B):∀ (k n:Nat) (es:List Nat),n<=k->Inv N n es->es≠ []->
   GF 186 S w0 (.str (decB N)) TO186 ⟨slots 48 [(0,.nat n B),(3,.own 0 1 0 es.length)],[some (b186 es)]⟩:=by
 intro k
 induction k with
 | zero=>
   intro n es hn hI h0;have:n=0:=by omega
   subst this;exact fin186 hL hB hI h0
 | succ k ih=>
   intro n es hn hI h0;rcases Nat.eq_zero_or_pos n with hz | hz
   · subst hz;exact fin186 hL hB hI h0
   · have z2:(0:Int)<(((d32 (digits b32 n)).length:Nat):Int):=by
       have:=(digits_pos (b:=b32) (n:=n) (by decide)).2 hz;rw[d32_length];omega
     exact gR KT186_ok (some 14) [3,4,6,7] [0] [(11,.list 1 (d32 (digits b32 n))),(13,tt),(20,.int .u64 (((n % 1000000000):Nat):Int))] (.c6 (show Ref (.nat n B) (.list 1 (d32 (digits b32 n))) from Ref.opn) (iT z2) (dc (0<=(1000000000:Int))) (dc (0<1000000000)) (dc (1000000000<4294967296)) hL (.a2 (show Ref (.int .u64 (((n % 1000000000):Nat):Int)) (.int .u64 (((n % 1000000000):Nat):Int)) from rr) (om ((n % 1000000000)<18446744073709551616)))) (inner186 hL hB (fun es' hI' h0'=>ih (n/1000000000) es' (by omega) hI' h0') 9 0 (n % 1000000000) n es rfl (by omega) (by omega) hI h0)
end
theorem a186:Ctr 186 k186:=fun args r ob h ho=>by
 unfold k186 at h
 split at h
 · rename_i n B
   cases h;have hL:B<=LIM:=ho _ (by simp);refine af Tryz.f186 fun S w0=> ?_
   refine Good.natlt (n:=n) (B:=B) 0 rfl fun hB=> ?_
   refine Good.pk 48 [(0,.nat n B)] ?_;rcases Nat.eq_zero_or_pos n with hz | hz
   · subst hz
     refine rF KT186_ok [(8,.list 1 (d32 (digits b32 0))),(10,tt)] (.a2 (show Ref (.nat 0 B) (.list 1 (d32 (digits b32 0))) from Ref.opn) (iT (show((d32 (digits b32 0)).length:Int)=(0:Int) by rw[d32_length,digits_zero];rfl))) (V:=.str (ByteArray.mk #[48])) rr
   · have hp:=(digits_pos (b:=b32) (n:=n) (by decide)).2 hz
     have z2:(0:Int)<(((d32 (digits b32 n)).length:Nat):Int):=by rw[d32_length];omega
     have v0:Ref (.nat n B) (.list 1 (d32 (digits b32 n))):=Ref.opn;refine gN KT186_ok [0,3] [(8,.list 1 (d32 (digits b32 n))),(10,ff)] (.a2 v0 (iF (show ¬ ((((d32 (digits b32 n)).length:Nat):Int)=(0:Int)) by rw[d32_length];omega))) (t:=TO186) (σ:=slots 48 [(0,.nat n B),(3,.nil)]) (h:=[]) ?_
     refine gR KT186_ok (some 14) [3,4,6,7] [] [(11,.list 1 (d32 (digits b32 n))),(13,tt),(20,.int .u64 (((n % 1000000000):Nat):Int))] (.c6 v0 (iT z2) (dc (0<=(1000000000:Int))) (dc (0<1000000000)) (dc (1000000000<4294967296)) hL (.a2 (show Ref (.int .u64 (((n % 1000000000):Nat):Int)) (.int .u64 (((n % 1000000000):Nat):Int)) from rr) (om ((n % 1000000000)<18446744073709551616)))) (t:=TI186) (σ:=slots 48 [(3,.nil),(4,.nat (n/1000000000) B),(6,.int .u64 ((n % 1000000000:Nat):Int)),(7,.i6 ((0:Nat):Int))]) (h:=[]) ?_
     have hI:Inv n n []:=⟨by simp,by simp[dval],fun h=>absurd rfl h⟩;generalize hr:n % 1000000000=r;generalize hq:n/1000000000=q;have hv:n=r+10^8*(10*q):=by omega
     have u1:(0:Int)<=(48:Int)+((r % 10:Nat):Int)/\(48:Int)+((r % 10:Nat):Int)<=18446744073709551615:=by omega
     have u2:Ref (AV.int .u8 (IntKind.u8.wrap ((48+(r % 10):Nat):Int))) (AV.int .u8 ((48+r % 10:Nat):Int)):=Ref.wr ⟨by show(0:Int)<=_;omega,by show _<=(255:Int);omega⟩;have u3:Ref (AV.int .u64 (IntKind.u64.wrap (((r:Nat):Int).tdiv (10:Int)))) (AV.int .u64 ((r/10:Nat):Int)):=Ref.wrU (Int.ofNat_tdiv r 10).symm (by omega)
     have G:GF 186 S w0 (.str (decB n)) TI186 ⟨slots 48 [(3,.own 0 1 0 1),(4,.nat q B),(6,.int .u64 ((r/10:Nat):Int)),(7,.i6 ((0+1:Nat):Int))],[some ⟨5,1,true,[[.int .u8 ((48+r % 10:Nat):Int)]],none⟩]⟩:=by
       have:=inner186 (S:=S) (w0:=w0) hL hB (q:=q) (fun es' hI' h0'=>outer186 hL hB _ q es' (rl _) hI' h0') 8 1 (r/10) (n/10) ([]++ [n % 10]) rfl (by omega) (by omega) (hI.push hz) (by simp);unfold b186 at this;rw[asc_snoc,show n % 10=r % 10 by omega] at this;exact this
     rcases Nat.eq_zero_or_pos q with hq0 | hq0
     · exact p186_3_1 0 B q r 0 _ (digits b32 q) (by decide) (by rw[d32_length,hq0,digits_zero];decide) (by omega) ⟨Ref.opn,u1,u2,by decide,by decide,u3,by decide⟩ G
     · have:=(digits_pos (b:=b32) (n:=q) (by decide)).2 hq0
       exact p186_3_0 0 B q r 0 _ (digits b32 q) (by decide) (by rw[d32_length];omega) ⟨Ref.opn,u1,u2,by decide,by decide,u3,by decide⟩ G
 · cases h
def KT243_ok:=kn
def zB (n:Int):ByteArray:=if n<0 then ByteArray.mk #[45]++decB n.natAbs else decB n.natAbs
def k243:KF
 | [.agg [.rz n B]]=>some (.str (zB n),[B<=LIM])
 | _=>none
theorem asc_rev_snoc (es:List Nat) (v:Nat):(asc (es++ [v])).reverse=(48+v)::(asc es).reverse:=by rw[asc_snoc,List.reverse_append];rfl
section
variable {S:Nat->Prop} {w0:World} {s:Bool} {xs:List Nat}
noncomputable abbrev TS243:List Item:=[.code (nav [1,1,1,1,0,0,0] (bodyOf Tryz.f243)),.inLoop (nav [1,1,1,1,0,0,0] (bodyOf Tryz.f243)),.inBlock 4,.code (nav [1,1,1,1,1] (bodyOf Tryz.f243))]
noncomputable abbrev TO243:List Item:=[.code (nav [1,1,1,0,1,0,0] (bodyOf Tryz.f243)),.inLoop (nav [1,1,1,0,1,0,0] (bodyOf Tryz.f243)),.inBlock 0,.code (nav [1,1,1,1] (bodyOf Tryz.f243))]
noncomputable abbrev TI243:List Item:=[.code (nav [1,1,1,0,1,0,0,1,0,0,1,1,0,0] (bodyOf Tryz.f243)),.inLoop (nav [1,1,1,0,1,0,0,1,0,0,1,1,0,0] (bodyOf Tryz.f243)),.inBlock 2,.inBlock 1,.code (nav [1,1,1,0,1,0,0,1,1] (bodyOf Tryz.f243)),.inLoop (nav [1,1,1,0,1,0,0] (bodyOf Tryz.f243)),.inBlock 0,.code (nav [1,1,1,1] (bodyOf Tryz.f243))]
abbrev b243 (s:Bool) (xs:List Nat):ABlk:=⟨64,2,false,[[.bool s,.list 1 (d64 xs)]],none⟩
abbrev P243 (S:Nat->Prop) (w0:World) (s:Bool) (N:Nat):Value->World->Prop:=PostF S w0 (.str (if s=true then ByteArray.mk #[45]++decB N else decB N))
theorem strip243 {N:Nat} (hN:0<N):∀ (k:Nat) (es:List Nat),es.length=k->(∀ x∈es,x<10)->dval 10 es=N->es.length<=100000000000000->
   Good Tryz.prog 243 S No w0 (P243 S w0 s N) TS243 ⟨slots 47 [(1,.ptr 0 2 0 0),(3,.str (bs8 (asc es).reverse))],[some (b243 s xs)]⟩:=by
 intro k
 induction k with
 | zero=>
   intro es hl hd hv hb;rw[List.eq_nil_of_length_eq_zero hl] at hv;simp[dval] at hv;omega
 | succ k ih=>
   intro es hl hd hv hb;obtain⟨es,v,rfl⟩:∃ e v,es=e++ [v]:=⟨es.dropLast,es.getLast (fun e=>by rw[e] at hl;simp at hl),(List.dropLast_concat_getLast _).symm⟩;have hv10:v<10:=hd v (by simp);have hd':∀ x∈es,x<10:=fun x hx=>hd x (by simp[hx])
   rw[List.length_append,List.length_singleton] at hl hb;rw[dval_snoc] at hv;rw[asc_rev_snoc];have hsz:(bs8 ((48+v)::(asc es).reverse)).size=k+1:=by rw[bs8_size,List.length_cons,List.length_reverse,asc_len];omega
   have o1:Ref (AV.int .u8 ((((bs8 ((48+v)::(asc es).reverse)).data.toList.getD 0 0).toNat:Nat):Int)) (AV.int .u8 ((48+v:Nat):Int)):=Ref.eq (by rw[bs8_hd (by omega)]);have o2:(0:Int)<(((bs8 ((48+v)::(asc es).reverse)).size:Nat):Int):=by rw[hsz];omega
   have v0:0<=(0:Int):=by decide
   rcases Nat.eq_zero_or_pos v with hv0 | hv0
   · subst hv0
     exact gN KT243_ok [1,2,3] [(38,.int .u8 (((48+0):Nat):Int)),(39,tt),(41,.str (bs8 ((asc es).reverse)))] (.c6 o1 v0 o2 (iT (dc ((((48+0):Nat):Int)=(48:Int)))) (show Ref (.str ((bs8 ((48+0)::(asc es).reverse)).extract 1 ((bs8 ((48+0)::(asc es).reverse)).size))) (.str (bs8 ((asc es).reverse))) from Ref.eq (by rw[bs8_tl])) (dc (0<=(1:Int))) (.a1 (show(1:Int)<=((bs8 ((48+0)::(asc es).reverse)).size:Int) by rw[hsz];omega))) (ih es (by omega) hd' (by omega) (by omega))
   · have hdone:decB N=bs8 ((48+v)::(asc es).reverse):=by
       have hI:Inv N 0 (es++ [v]):=⟨hd,by rw[dval_snoc,Nat.mul_zero];omega,fun _=>by
         rw[List.length_append,List.length_singleton,Nat.add_sub_cancel]
         have:=Nat.mul_le_mul_left (10^es.length) (show 1<=v from hv0)
         omega⟩
       obtain⟨e1,e2⟩:=hI.done (by simp);unfold decB;rw[if_neg e2, <- e1,asc_rev_snoc]
     have hc:¬ ((48+v:Nat):Int)=(48:Int):=by omega
     cases s with
     | true=>
       refine rF KT243_ok [(38,.int .u8 (((48+v):Nat):Int)),(39,ff),(43,tt)] (.a6 o1 v0 o2 (iF hc) (show Ref (.bool true) (.bool true) from Ref.bool rfl) (show(ByteArray.mk #[45]).size+(bs8 ((48+v)::(asc es).reverse)).size<=big by rw[hsz];show 1+(k+1)<=big;unfold big;omega)) (V:=.str ((ByteArray.mk #[45])++(bs8 ((48+v)::(asc es).reverse)))) (Ref.eq (by
         show AV.str _=_
         rw[if_pos rfl,hdone]))
     | false=>
       refine rF KT243_ok [(38,.int .u8 (((48+v):Nat):Int)),(39,ff),(43,ff)] (.a5 o1 v0 o2 (iF hc) (show Ref (.bool false) (.bool false) from Ref.bool rfl)) (V:=.str (bs8 ((48+v)::(asc es).reverse))) (Ref.eq (by
         show AV.str _=_
         rw[if_neg (by decide),hdone]))
theorem inner243 {N i M:Nat} (hM:M<=10000000000000) (hi:i<M)
   (hout:∀ es:List Nat,es.length=4*(i+1)->(∀ x∈es,x<10)->dval 10 es=dval b10k (xs.take (i+1))->Good Tryz.prog 243 S No w0 (P243 S w0 s N) TO243 ⟨slots 47 [(1,.ptr 0 2 0 0),(3,.str (bs8 (asc es).reverse)),(4,.i6 ((i+1:Nat):Int))],[some (b243 s xs)]⟩):
   ∀ (j k v:Nat) (es:List Nat),k+j=4->v<10^j->es.length=4*i+k->(∀ x∈es,x<10)->dval 10 es+10^es.length*v=dval b10k (xs.take (i+1))->
   Good Tryz.prog 243 S No w0 (P243 S w0 s N) TI243 ⟨slots 47 [(1,.ptr 0 2 0 0),(3,.str (bs8 (asc es).reverse)),(4,.i6 ((i:Nat):Int)),(5,.i6 ((v:Nat):Int)),(6,.i6 ((k:Nat):Int))],[some (b243 s xs)]⟩:=by
 intro j
 induction j with
 | zero=>
   intro k v es hk hv hl hd hinv;have hv0:v=0:=by omega
   subst hv0;exact gN KT243_ok [1,3,4] [(24,ff),(17,.i6 ((i+1:Nat):Int))] (.a2 (iF (om (¬ ((k:Int)<(4:Int))))) (show Ref (.i6 (IntKind.i64.wrap ((i:Int)+(1:Int)))) (.i6 ((i+1:Nat):Int)) from Ref.wrI (by omega) (by omega))) (hout es (by omega) hd (by rw[<- hinv,Nat.mul_zero,Nat.add_zero]))
 | succ j ih=>
   intro k v es hk hv hl hd hinv
   have hvb:v<10000:=by
     have:10^(j+1)<=10^4:=Nat.pow_le_pow_right (by decide) (by omega);omega
   have v0:Ref (.i6 ((v:Int).tmod (10:Int))) (.i6 ((v % 10:Nat):Int)):=Ref.rem (a:=v) (b:=10) rfl rfl;have v1:(10:Int)≠0:=by decide
   refine gN KT243_ok [1,3,4,5,6] [(24,tt),(28,.i6 ((v % 10:Nat):Int)),(30,.i6 ((v % 10:Nat):Int)),(31,.i6 ((v % 10+1:Nat):Int)),(32,.str (bs8 [48+v % 10])),(34,.str (bs8 ((48+v % 10)::((asc es).reverse)))),(36,.i6 ((v/10:Nat):Int)),(26,.i6 ((k+1:Nat):Int))] (.c6 (iT (om ((k:Int)<(4:Int)))) v0 v1 v0 v1 (show Ref (.i6 (IntKind.i64.wrap (((v % 10:Nat):Int)+(1:Int)))) (.i6 ((v % 10+1:Nat):Int)) from Ref.wrI (by omega) (by omega)) (.c6 (show Ref (.str ((ByteArray.mk #[48,49,50,51,52,53,54,55,56,57]).extract (v % 10) (v % 10+1))) (.str (bs8 [48+v % 10])) from Ref.eq (by rw[bs8_digit _ (Nat.mod_lt _ (by decide))])) (nn (v % 10+1)) (show((v % 10+1:Nat):Int)<=((ByteArray.mk #[48,49,50,51,52,53,54,55,56,57]).size:Int) by show _<=(10:Int);omega) (nn (v % 10)) (om (((v % 10:Nat):Int)<=((v % 10+1:Nat):Int))) (show Ref (.str ((bs8 [48+v % 10])++(bs8 ((asc es).reverse)))) (.str (bs8 ((48+v % 10)::((asc es).reverse)))) from Ref.eq (by rw[bs8_app];rfl)) (.a4 (show(bs8 [48+v % 10]).size+(bs8 ((asc es).reverse)).size<=big from by
     rw[bs8_size,bs8_size,List.length_reverse,asc_len];show 1+_<=_;unfold big;omega) (show Ref (.i6 (IntKind.i64.wrap ((v:Int).tdiv (10:Int)))) (.i6 ((v/10:Nat):Int)) from Ref.quo (a:=v) (b:=10) rfl rfl (by decide) (om (((v:Nat):Int)<=(9223372036854775807:Int)))) v1 (show Ref (.i6 (IntKind.i64.wrap ((k:Int)+(1:Int)))) (.i6 ((k+1:Nat):Int)) from Ref.wrI (by omega) (by omega))))) (t:=TI243) (σ:=slots 47 [(1,.ptr 0 2 0 0),(3,(.str (bs8 ((48+v % 10)::((asc es).reverse))))),(4,.i6 (i:Int)),(5,.i6 ((v/10:Nat):Int)),(6,.i6 ((k+1:Nat):Int))]) (h:=[some ⟨64,2,false,[[.bool s,.list 1 (d64 xs)]],none⟩]) ?_
   have:=ih (k+1) (v/10) (es++ [v % 10]) (by omega) (by rw[Nat.pow_succ] at hv;omega) (by rw[List.length_append,List.length_singleton];omega) (snoc_lt hd (Nat.mod_lt _ (by decide))) (by
     rw[dval_snoc,List.length_append,List.length_singleton,Nat.pow_succ,Nat.mul_assoc,Nat.add_assoc, <- Nat.mul_add,Nat.mod_add_div];exact hinv)
   rw[asc_rev_snoc] at this;exact this
theorem outer243 {N:Nat} (hN:0<N) (hx:∀ x∈xs,x<b10k) (hxN:dval b10k xs=N) (hM:xs.length<=10000000000000):∀ (j i:Nat) (es:List Nat),i+j=xs.length->es.length=4*i->(∀ x∈es,x<10)->dval 10 es=dval b10k (xs.take i)->
   Good Tryz.prog 243 S No w0 (P243 S w0 s N) TO243 ⟨slots 47 [(1,.ptr 0 2 0 0),(3,.str (bs8 (asc es).reverse)),(4,.i6 ((i:Nat):Int))],[some (b243 s xs)]⟩:=by
 intro j
 induction j with
 | zero=>
   intro i es hi hl hd hv;exact gN KT243_ok [1,3] [(15,ff)] (.a1 (iF (show ¬ ((i:Int)<((d64 xs).length:Int)) by rw[d64_length];omega))) (strip243 (s:=s) (xs:=xs) hN _ es rfl hd (by rw[hv,tkE (by omega)];exact hxN) (by omega))
 | succ j ih=>
   intro i es hi hl hd hv;have hlt:((i:Nat):Int)<(((d64 xs).length:Nat):Int):=by rw[d64_length];omega
   refine gN KT243_ok [1,3,4,5,6] [(15,tt),(21,.cptr [.i6 (xs.getD i 0:Int)] 0),(22,.i6 (((xs.getD i 0):Nat):Int))] (.a5 (iT hlt) (show Ref (.cptr ((d64 xs).getD i []) 0) (.cptr [.i6 (xs.getD i 0:Int)] 0) from Ref.cd64 ((om (i<xs.length)))) (nn i) hlt (show Ref (.i6 (xs.getD i 0:Int)) (.i6 (((xs.getD i 0):Nat):Int)) from rr)) (t:=TI243) (σ:=slots 47 [(1,.ptr 0 2 0 0),(3,(.str (bs8 ((asc es).reverse)))),(4,.i6 (i:Int)),(5,(.i6 (((xs.getD i 0):Nat):Int))),(6,.i6 (0:Int))]) (h:=[some ⟨64,2,false,[[.bool s,.list 1 (d64 xs)]],none⟩]) ?_
   have h1:=getD_lt (b:=b10k) (by decide) hx i;refine inner243 (M:=xs.length) (by omega) (by omega) (fun es' a b c=>ih (i+1) es' (by omega) a b c) 4 0 (xs.getD i 0) es rfl h1 hl hd ?_;rw[dval_take_succ,hv,hl,Nat.pow_mul];rfl
end
theorem a243:Ctr 243 k243:=fun args r ob h ho=>by
 unfold k243 at h
 split at h
 · rename_i n B
   cases h;have hL:B<=LIM:=ho _ (by simp);unfold LIM at hL;refine af Tryz.f243 fun S w0=> ?_
   refine Good.rzlt (n:=n) (B:=B) (cs:=[]) 0 rfl fun hB=> ?_
   refine Good.weak 47 [(0,.agg [.bool (decide (n<0)),.list 1 (d64 (digits b10k n.natAbs))])] (by kernel_rfl) (.cons (Ref.agg (RefC.rzopn.trans (RefC.tl RefC.opnd))) .nil) ?_;obtain⟨hx,hxn⟩:=digits_spec (b:=b10k) (by decide) n.natAbs;have hl:=hx.len10 (by rw[hxn];exact hB);rcases Nat.eq_zero_or_pos n.natAbs with hz | hz
   · have hn:n=0:=by omega
     subst hn;refine rF KT243_ok [(10,tt)] (.a1 (iT (show((d64 (digits b10k (0:Int).natAbs)).length:Int)=(0:Int) by rw[d64_length];rfl))) (V:=.str (ByteArray.mk #[48])) rr
   · have hp:=(digits_pos (b:=b10k) (n:=n.natAbs) (by decide)).2 hz
     refine gN KT243_ok [1,3,4] [(10,ff)] (.a1 (iF (show ¬ ((((d64 (digits b10k n.natAbs)).length:Nat):Int)=(0:Int)) by rw[d64_length];omega))) (t:=TO243) (σ:=slots 47 [(1,.ptr 0 2 0 0),(3,.str (bs8 (asc []).reverse)),(4,.i6 ((0:Nat):Int))]) (h:=[some ⟨64,2,false,[[.bool (decide (n<0)),.list 1 (d64 (digits b10k n.natAbs))]],none⟩]) ?_
     have:=outer243 (S:=S) (w0:=w0) (s:=decide (n<0)) hz hx.1 hxn (by omega) _ 0 [] (Nat.zero_add _) rfl (by simp) (by simp[dval]);have e:zB n=if decide (n<0)=true then ByteArray.mk #[45]++decB n.natAbs else decB n.natAbs:=by unfold zB;simp only[decide_eq_true_eq]
     rw[e];exact this
 · cases h
theorem decB_size {n B:Nat} (h:n<2^B):(decB n).size<=B+2:=by
 unfold decB
 split
 · show 1<=_;omega
 · rename_i h0
   rw[bs8_size,List.length_reverse,asc_len];obtain⟨g1,g2⟩:=digits_spec (b:=10) (by decide) n
   have hI:Inv n 0 (digits 10 n):=⟨g1.1,by rw[Nat.mul_zero,Nat.add_zero,g2],fun hne=>by
     have:=g1.low (by decide) hne
     rwa [g2] at this⟩
   have:=hI.len h;omega
theorem zB_size {n:Int} {B:Nat} (h:n.natAbs<2^B):(zB n).size<=B+3:=by
 have:=decB_size h;unfold zB
 split
 · rw[ByteArray.size_append];show 1+_<=_;omega
 · omega
theorem decB_one {n:Nat}:decB n=ByteArray.mk #[49]↔n=1:=by
 constructor
 · intro h
   unfold decB at h
   split at h
   · exact absurd (congrArg (fun b=>b.data.toList) h) (by decide)
   · have h1:=bs8_one _ h (fun x hx=>by
       obtain⟨e,he,rfl⟩:=List.mem_map.1 (List.mem_reverse.1 hx)
       have:=(digits_spec (b:=10) (by decide) n).1.1 e he
       omega)
     have h2:asc (digits 10 n)= [49]:=by rw[<- List.reverse_reverse (asc (digits 10 n)),h1];rfl
     have h3:(digits 10 n)= [1]:=by
       match hd:digits 10 n,h2 with
       | [],h2=>simp[asc] at h2
       | [x],h2=>simp[asc] at h2;rw[show x=1 by omega]
       | _::_::_,h2=>simp[asc] at h2
     have h4:=(digits_spec (b:=10) (by decide) n).2;rw[h3] at h4;simpa[dval] using h4.symm
 · rintro rfl;decide+kernel
def qB (x:Rat):ByteArray:=if x.den=1 then zB x.num else (zB x.num++ByteArray.mk #[47])++decB x.den
theorem zB_nat (n:Nat):zB (n:Int)=decB n:=by
 unfold zB;rw[if_neg (by omega)];rfl
def k174:KF
 | [.agg [.rq x d B]]=>some (.str (qB x),[B+100<=LIM])
 | _=>none
theorem a174:Ctr 174 k174:=by
 refine ctr Tryz.f174 fun _ _ _ S w0 h ho=> ?_
 unfold k174 at h;split at h <;> cases h;rename_i x d B;have o1:=ho.one;have L:=limE;have K:=(kn.cons ad135).cons a243;refine Good.rqlt (x:=x) (d:=d) (B:=B) (cs:=[]) 0 rfl fun hn hd hdx=> ?_
 have z1:=zB_size hn
 have hd2:x.den<2^(B+1):=by
   rw[Nat.pow_succ]
   have:=Nat.two_pow_pos B;omega
 have z2:=decB_size hd2;have v0:(max B 64)<=LIM:=by first | omega | (unfold LIM at*;omega) | (show _+1<=big;unfold big LIM at*;omega) | (rw[ByteArray.size_append,zB_nat];show _+1+_<=big;unfold big LIM at*;omega)
 have v1:B<=LIM:=by first | omega | (unfold LIM at*;omega) | (show _+1<=big;unfold big LIM at*;omega) | (rw[ByteArray.size_append,zB_nat];show _+1+_<=big;unfold big LIM at*;omega)
 rcases Bool.eq_false_or_eq_true ((zB (x.den:Int)).toList==(ByteArray.mk #[49]).toList) with h1 | h1
 · refine rF K [(12,tt)] (.a3 v1 v0 (show Ref (.bool ((zB (x.den:Int)).toList==(ByteArray.mk #[49]).toList)) (.bool true) from Ref.bool h1)) (V:=.str (zB x.num)) ?_
   rw[bytes_beq,zB_nat,decB_one] at h1;exact Ref.eq (by unfold qB;rw[if_pos h1])
 · refine rF K [(12,ff)] (.a5 v1 v0 (show Ref (.bool ((zB (x.den:Int)).toList==(ByteArray.mk #[49]).toList)) (.bool false) from Ref.bool h1) (show(zB x.num).size+(ByteArray.mk #[47]).size<=big by first | omega | (unfold LIM at*;omega) | (show _+1<=big;unfold big LIM at*;omega) | (rw[ByteArray.size_append,zB_nat];show _+1+_<=big;unfold big LIM at*;omega)) (show((zB x.num)++(ByteArray.mk #[47])).size+(zB (x.den:Int)).size<=big by first | omega | (unfold LIM at*;omega) | (show _+1<=big;unfold big LIM at*;omega) | (rw[ByteArray.size_append,zB_nat];show _+1+_<=big;unfold big LIM at*;omega))) (V:=.str (((zB x.num)++(ByteArray.mk #[47]))++(zB (x.den:Int)))) ?_
   replace h1:¬ ((zB (x.den:Int)).toList==(ByteArray.mk #[49]).toList)=true:=by rw[h1];decide
   rw[bytes_beq,zB_nat,decB_one] at h1;exact Ref.eq (by unfold qB;rw[if_neg h1,zB_nat])
theorem den_len (x:Rat):((0:Int)<(((d32 (digits b32 (x.den-1))).length:Nat):Int))↔¬ x.den=1:=by
 have h1:=digits_pos (b:=b32) (n:=x.den-1) (by decide);have h2:=x.den_pos;rw[d32_length];omega
def k100:KF
 | [.agg [.q x B]]=>some (.str (qB x),[B+100<=LIM])
 | _=>none
theorem a100:Ctr 100 k100:=by
 refine ctr Tryz.f100 fun _ _ _ S w0 h ho=> ?_
 unfold k100 at h;split at h <;> cases h;rename_i x B;have o1:=ho.one;have L:=limE;have K:=(kn.cons a111).cons a186;refine Good.qlt (x:=x) (B:=B) (cs:=[]) 0 rfl fun hn hd=> ?_
 have z1:=decB_size hn;have hd1:x.den<2^(B+1):=by have:=x.den_pos;rw[Nat.pow_succ];omega
 have z2:=decB_size hd1;have v0:Ref (.nat (x.den-1) B) (.list 1 (d32 (digits b32 (x.den-1)))):=by first | exact Ref.opn | omega | (unfold LIM at*;omega) | (show 1+_<=big;unfold big LIM at*;omega) | (rw[ByteArray.size_append,ByteArray.size_append];show 1+_+(1+_)<=big;unfold big LIM at*;omega) | (rw[ByteArray.size_append];show _+(1+_)<=big;unfold big LIM at*;omega)
 have v1:B<=LIM:=by first | exact Ref.opn | omega | (unfold LIM at*;omega) | (show 1+_<=big;unfold big LIM at*;omega) | (rw[ByteArray.size_append,ByteArray.size_append];show 1+_+(1+_)<=big;unfold big LIM at*;omega) | (rw[ByteArray.size_append];show _+(1+_)<=big;unfold big LIM at*;omega)
 have v3:(ByteArray.mk #[47]).size+(decB x.den).size<=big:=by first | exact Ref.opn | omega | (unfold LIM at*;omega) | (show 1+_<=big;unfold big LIM at*;omega) | (rw[ByteArray.size_append,ByteArray.size_append];show 1+_+(1+_)<=big;unfold big LIM at*;omega) | (rw[ByteArray.size_append];show _+(1+_)<=big;unfold big LIM at*;omega)
 have v4:max B 64+1<=LIM:=by first | exact Ref.opn | omega | (unfold LIM at*;omega) | (show 1+_<=big;unfold big LIM at*;omega) | (rw[ByteArray.size_append,ByteArray.size_append];show 1+_+(1+_)<=big;unfold big LIM at*;omega) | (rw[ByteArray.size_append];show _+(1+_)<=big;unfold big LIM at*;omega)
 have v5:(B+1)<=LIM:=by first | exact Ref.opn | omega | (unfold LIM at*;omega) | (show 1+_<=big;unfold big LIM at*;omega) | (rw[ByteArray.size_append,ByteArray.size_append];show 1+_+(1+_)<=big;unfold big LIM at*;omega) | (rw[ByteArray.size_append];show _+(1+_)<=big;unfold big LIM at*;omega)
 by_cases h1:x.num<0
 · have v2:(ByteArray.mk #[45]).size+(decB x.num.natAbs).size<=big:=by first | exact Ref.opn | omega | (unfold LIM at*;omega) | (show 1+_<=big;unfold big LIM at*;omega) | (rw[ByteArray.size_append,ByteArray.size_append];show 1+_+(1+_)<=big;unfold big LIM at*;omega) | (rw[ByteArray.size_append];show _+(1+_)<=big;unfold big LIM at*;omega)
   by_cases h2:(0:Int)<(((d32 (digits b32 (x.den-1))).length:Nat):Int)
   · refine rF K [(10,tt),(14,.list 1 (d32 (digits b32 (x.den-1)))),(16,tt)] (.c6 v1 (iT h1) v2 v0 (iT h2) v4 (.a3 v5 v3 (show((ByteArray.mk #[45])++(decB x.num.natAbs)).size+((ByteArray.mk #[47])++(decB x.den)).size<=big by first | exact Ref.opn | omega | (unfold LIM at*;omega) | (show 1+_<=big;unfold big LIM at*;omega) | (rw[ByteArray.size_append,ByteArray.size_append];show 1+_+(1+_)<=big;unfold big LIM at*;omega) | (rw[ByteArray.size_append];show _+(1+_)<=big;unfold big LIM at*;omega)))) (V:=.str (((ByteArray.mk #[45])++(decB x.num.natAbs))++((ByteArray.mk #[47])++(decB x.den)))) ?_
     rw[den_len] at h2;exact Ref.eq (by unfold qB zB;rw[if_neg h2,if_pos h1];simp only[ByteArray.append_assoc])
   · refine rF K [(10,tt),(14,.list 1 (d32 (digits b32 (x.den-1)))),(16,ff)] (.a5 v1 (iT h1) v2 v0 (iF h2)) (V:=.str ((ByteArray.mk #[45])++(decB x.num.natAbs))) ?_
     rw[den_len] at h2;replace h2:=Decidable.not_not.1 h2;exact Ref.eq (by unfold qB zB;rw[if_pos h2,if_pos h1])
 · by_cases h2:(0:Int)<(((d32 (digits b32 (x.den-1))).length:Nat):Int)
   · refine rF K [(10,ff),(14,.list 1 (d32 (digits b32 (x.den-1)))),(16,tt)] (.c6 v1 (iF h1) v0 (iT h2) v4 v5 (.a2 v3 (show(decB x.num.natAbs).size+((ByteArray.mk #[47])++(decB x.den)).size<=big by first | exact Ref.opn | omega | (unfold LIM at*;omega) | (show 1+_<=big;unfold big LIM at*;omega) | (rw[ByteArray.size_append,ByteArray.size_append];show 1+_+(1+_)<=big;unfold big LIM at*;omega) | (rw[ByteArray.size_append];show _+(1+_)<=big;unfold big LIM at*;omega)))) (V:=.str ((decB x.num.natAbs)++((ByteArray.mk #[47])++(decB x.den)))) ?_
     rw[den_len] at h2;exact Ref.eq (by unfold qB zB;rw[if_neg h2,if_neg h1];simp only[ByteArray.append_assoc])
   · refine rF K [(10,ff),(14,.list 1 (d32 (digits b32 (x.den-1)))),(16,ff)] (.a4 v1 (iF h1) v0 (iF h2)) (V:=.str (decB x.num.natAbs)) ?_
     rw[den_len] at h2;replace h2:=Decidable.not_not.1 h2;exact Ref.eq (by unfold qB zB;rw[if_pos h2,if_neg h1])
def k72:KF
 | [.agg [.q x B],.agg [.rq y d C]]=>some (.bool true,[x=y,B+100<=LIM,C+100<=LIM])
 | _=>none
theorem a72:Ctr 72 k72:=by
 refine ctr Tryz.f72 fun _ _ _ S w0 h ho=> ?_
 unfold k72 at h;split at h <;> cases h;rename_i x B y d C;obtain⟨o1,o2,o3⟩:=ho.e3;have K:=(kn.cons a174).cons a100;exact rR K [(9,tt)] (.a3 o2 o3 (show Ref (.bool ((qB x).toList==(qB y).toList)) (.bool true) by first | assumption | exact Ref.bool (bytes_beq.2 (by rw[o1]))))
def k70:KF
 | [.agg [.q x B,.q z B2],.agg [.rq y d C,.rq t e C2]]=>some (.bool true,[x=y,z=t,B+100<=LIM,C+100<=LIM,B2+100<=LIM,C2+100<=LIM])
 | _=>none
theorem a70:Ctr 70 k70:=by
 refine ctr Tryz.f70 fun _ _ _ S w0 h ho=> ?_
 unfold k70 at h;split at h <;> cases h;rename_i x B z B2 y d C t e C2;obtain⟨o1,o2,o3,o4,o5,o6⟩:=ho.e6;have K:=kn.cons a72;exact rR K [] (.a6 o1 o3 o4 o2 o5 o6)
def KT73_ok:=kn.cons a70
def pSz:List (List AV)->Nat×Nat
 | [.q _ X,.q _ Z]::_=>(X,Z)
 | [.rq _ _ X,.rq _ _ Z]::_=>(X,Z)
 | _=>(0,0)
theorem pSz_un {X Z:Nat} (pts:List PtD):pts.map (unPP X Z)=pts.map (unPP (pSz (pts.map (unPP X Z))).1 (pSz (pts.map (unPP X Z))).2):=by
 cases pts <;> rfl
theorem pSz_unR {X Z:Nat} (pts:List PtD):pts.map (unRPP X Z)=pts.map (unRPP (pSz (pts.map (unRPP X Z))).1 (pSz (pts.map (unRPP X Z))).2):=by
 cases pts <;> rfl
section
variable {S:Nat->Prop} {w0:World} {pts:List PtD} {X Z P Q:Nat}
noncomputable abbrev T73:List Item:=[.code (nav [1,1,0,1,0,0] (bodyOf Tryz.f73)),.inLoop (nav [1,1,0,1,0,0] (bodyOf Tryz.f73)),.inBlock 0,.code (nav [1,1,1] (bodyOf Tryz.f73))]
theorem loop73 (h1:X+100<=LIM) (h2:Z+100<=LIM) (h3:P+100<=LIM) (h4:Q+100<=LIM) (hl:pts.length<=1000000):∀ (j i:Nat),i+j=pts.length->
   GF 73 S w0 (.bool true) T73 ⟨slots 27 [(0,.list 6 (pts.map (unPP X Z))),(1,.list 8 (pts.map (unRPP P Q))),(5,.i6 ((i:Nat):Int))],[]⟩:=by
 have l1:(pts.map (unPP X Z)).length=pts.length:=lmE ..;have l2:(pts.map (unRPP P Q)).length=pts.length:=lmE ..;intro j
 induction j with
 | zero=>
   intro i hij;refine rF KT73_ok [(14,ff)] (.a1 (iF (show ¬ ((i:Int)<((pts.map (unPP X Z)).length:Int)) by rw[l1];omega))) (V:=.bool true) rr
 | succ j ih=>
   intro i hij;have hi:i<pts.length:=by omega
   have v0:(i:Int)<((pts.map (unPP X Z)).length:Int):=by rw[l1];omega
   exact gR KT73_ok none [0,1,5] [] [(14,tt),(19,.cptr [.q (pts.getD i default).x X,.q (pts.getD i default).z Z] 0),(23,.cptr [.rq (pts.getD i default).x (pts.getD i default).x.den P,.rq (pts.getD i default).z (pts.getD i default).z.den Q] 0),(16,.i6 ((i+1:Nat):Int))] (.c6 (iT v0) (show Ref (.cptr ((pts.map (unPP X Z)).getD i []) 0) (.cptr [.q (pts.getD i default).x X,.q (pts.getD i default).z Z] 0) from Ref.cmap (f:=unPP X Z) hi) (nn i) v0 (show Ref (.cptr ((pts.map (unRPP P Q)).getD i []) 0) (.cptr [.rq (pts.getD i default).x (pts.getD i default).x.den P,.rq (pts.getD i default).z (pts.getD i default).z.den Q] 0) from Ref.cmap (f:=unRPP P Q) hi) (nn i) (.c6 (show(i:Int)<((pts.map (unRPP P Q)).length:Int) by rw[l2];omega) (rfl:(pts.getD i default).x=(pts.getD i default).x) (rfl:(pts.getD i default).z=(pts.getD i default).z) h1 h3 h2 (.a2 h4 (wI ((i:Int)+(1:Int)) ((i+1:Nat):Int))))) (ih (i+1) (by omega))
end
def k73:KF
 | [.list 6 L,.list 8 M]=>some (.bool true,[L=(L.map rePt).map (unPP (pSz L).1 (pSz L).2),M=(M.map reRPt).map (unRPP (pSz M).1 (pSz M).2),L.map rePt=M.map reRPt,(pSz L).1+100<=LIM,(pSz L).2+100<=LIM,(pSz M).1+100<=LIM,(pSz M).2+100<=LIM,(L.map rePt).length<=1000000])
 | _=>none
theorem a73:Ctr 73 k73:=fun args r ob h ho=>by
 unfold k73 at h
 split at h
 · rename_i L M
   cases h;have o1:L=(L.map rePt).map (unPP (pSz L).1 (pSz L).2):=ho _ (by simp);have o2:M=(M.map reRPt).map (unRPP (pSz M).1 (pSz M).2):=ho _ (by simp);have o3:L.map rePt=M.map reRPt:=ho _ (by simp);have o4:(pSz L).1+100<=LIM:=ho _ (by simp);have o5:(pSz L).2+100<=LIM:=ho _ (by simp);have o6:(pSz M).1+100<=LIM:=ho _ (by simp);have o7:(pSz M).2+100<=LIM:=ho _ (by simp);have o8:(L.map rePt).length<=1000000:=ho _ (by simp);clear ho;rw[<- o3] at o2;generalize L.map rePt=pts at*;generalize (pSz L).1=X at*;generalize (pSz L).2=Z at*;generalize (pSz M).1=P at*;generalize (pSz M).2=Q at*;clear o3;subst o1;subst o2;refine af Tryz.f73 fun S w0=> ?_
   refine Good.pk 27 [(0,.list 6 (pts.map (unPP X Z))),(1,.list 8 (pts.map (unRPP P Q)))] ?_;exact gN KT73_ok [0,1,5] [(10,ff)] (.a1 (jF (show((pts.map (unPP X Z)).length:Int)=((pts.map (unRPP P Q)).length:Int) by simp))) (loop73 o4 o5 o6 o7 o8 pts.length 0 (Nat.zero_add _))
 · cases h
def KT242_ok:=kn.cons a26
def massS (l:List BodyD):Nat->Rat
 | 0=>0
 | i+1=>massS l i+(l.getD i default).ma
def k242:KF
 | [.cptr [.str mn,.list 27 XB,.list 17 XS,.list 17 XT,.list 13 XD,.list 5 XF,.list 12 XR] 0]=>some (.agg [.q (massS (XB.map reBody) XB.length) (302*XB.length)],[XB=(XB.map reBody).map (unBody 300),XB.length<=1000])
 | _=>none
noncomputable abbrev T242:List Item:=[.code (nav [1,1,0,1,0,0] (bodyOf Tryz.f242)),.inLoop (nav [1,1,0,1,0,0] (bodyOf Tryz.f242)),.inBlock 0,.code (nav [1,1,1] (bodyOf Tryz.f242))]
theorem loop242 {S:Nat->Prop} {w0:World} {L:List BodyD} (hL:L.length<=1000):
   GF 242 S w0 (.agg [.q (massS L L.length) (302*L.length)]) T242 ⟨slots 22 [(2,.ptr 0 3 0 0),(3,.ptr 1 3 0 0),(10,.list 27 (L.map (unBody 300))),(11,.i6 ((L.length:Nat):Int)),(12,.i6 ((0:Nat):Int))],[some ⟨56,3,false,[[.q 0 0]],none⟩,some ⟨56,3,false,[[.q (massS L 0) (302*0)]],none⟩]⟩:=by
 refine down (G:=fun i=>GF 242 S w0 (.agg [.q (massS L L.length) (302*L.length)]) T242 ⟨slots 22 [(2,.ptr 0 3 0 0),(3,.ptr 1 3 0 0),(10,.list 27 (L.map (unBody 300))),(11,.i6 ((L.length:Nat):Int)),(12,.i6 ((i:Nat):Int))],[some ⟨56,3,false,[[.q 0 0]],none⟩,some ⟨56,3,false,[[.q (massS L i) (302*i)]],none⟩]⟩) L.length ?_ ?_
 · exact rR KT242_ok [(13,ff)] (.a1 (iF (om (¬ ((L.length:Int)<(L.length:Int))))))
 · intro i hi ih
   exact gR KT242_ok none [2,3,10,11,12] [0,1] [(13,tt),(14,.cptr (unBody 300 (L.getD i default)) 0),(20,.i6 ((i+1:Nat):Int))] (.a6 (iT (om ((i:Int)<(L.length:Int)))) (show Ref (.cptr ((L.map (unBody 300)).getD i []) 0) (.cptr (unBody 300 (L.getD i default)) 0) from Ref.cmap (f:=unBody 300) hi) (nn i) (show(i:Int)<((L.map (unBody 300)).length:Int) by rw[lmE];omega) (show(302*i)+300+200<=LIM by unfold LIM;omega) (wI ((i:Int)+(1:Int)) ((i+1:Nat):Int))) ih
theorem a242:Ctr 242 k242:=fun args r ob h ho=>by
 unfold k242 at h
 split at h
 · rename_i mn XB XS XT XD XF XR
   cases h;have o1:XB=(XB.map reBody).map (unBody 300):=ho _ (by simp);have o2:XB.length<=1000:=ho _ (by simp);clear ho;obtain⟨L,hL⟩:∃ L,L=XB.map reBody:=⟨_,rfl⟩;have hl:XB.length=L.length:=by rw[hL];simp
   rw[<- hL] at o1 ⊢;rw[hl] at o2 ⊢;subst o1;clear hL;refine af Tryz.f242 fun S w0=> ?_
   refine gN KT242_ok [0,2,3,10,11,12] [] .nil (t:=T242) (σ:=slots 22 [(0,.cptr [.str mn,.list 27 (L.map (unBody 300)),.list 17 XS,.list 17 XT,.list 13 XD,.list 5 XF,.list 12 XR] 0),(2,.ptr 0 3 0 0),(3,.ptr 1 3 0 0),(10,.list 27 (L.map (unBody 300))),(11,(.i6 ((L.map (unBody 300)).length:Int))),(12,.i6 (0:Int))]) (h:=[some ⟨56,3,false,[[.q 0 0]],none⟩,some ⟨56,3,false,[[.q 0 0]],none⟩]) ?_
   rw[lmE];refine Good.pk 22 [(2,.ptr 0 3 0 0),(3,.ptr 1 3 0 0),(10,.list 27 (L.map (unBody 300))),(11,.i6 ((L.length:Nat):Int)),(12,.i6 ((0:Nat):Int))] ?_;exact loop242 o2
 · cases h
theorem div_sgn0 {y:Rat} (h:Int.sign y.num=0):y=0:=Rat.num_eq_zero.1 (Int.sign_eq_zero_iff_zero.1 h)
def k27:KF
 | [.agg [.q x B],.agg [.q y C]]=>some (.tup [.agg [.q (x/y) (B+C+2)],.int .i64 (if y=0 then 9 else 0)],[B+C+200<=LIM])
 | _=>none
theorem a27:Ctr 27 k27:=by
 refine ctr Tryz.f27 fun _ _ _ S w0 h ho=> ?_
 unfold k27 at h;split at h <;> cases h;rename_i x B y C;have o1:=ho.one;have L:=limE;have K:=(kn.cons a116).cons a60
 by_cases h1:(Int.sign y.num)=(0:Int)
 · refine rF K [(8,tt)] (.a1 (iT h1)) (V:=.tup [.agg [.q 0 0],.i6 (9:Int)]) ?_
   have h:=(div_sgn0 (by assumption):y=0);subst h;exact Ref.tup2 (Ref.q1 (by rw[Rat.div_def,Rat.inv_zero,Rat.mul_zero]) (by omega)) (Ref.int (by simp)) rfl rfl rfl rfl
 · exact rF K [(8,ff)] (.a3 (iF h1) o1 (show y≠0 by exact fun h=>h1 (by rw[h];rfl))) (V:=.tup [.agg [.q (x/y) (B+C+2)],.i6 (0:Int)]) (Ref.tup2 rr (Ref.int (by rw[if_neg (fun h=>h1 (by rw[h];rfl))])) rfl rfl rfl rfl)
def shareS (l:List BodyD) (b:Int):Rat:=(l.getD b.toNat default).ma/massS l l.length
def k170:KF
 | [.cptr [.str mn,.list 27 XB,.list 17 XS,.list 17 XT,.list 13 XD,.list 5 XF,.list 12 XR] 0,.int .i64 b]=>some (.agg [.q (shareS (XB.map reBody) b) (302*XB.length+304)],[XB=(XB.map reBody).map (unBody 300),XB.length<=1000,0<=b,b<((XB.length:Nat):Int)])
 | _=>none
theorem a170:Ctr 170 k170:=by
 refine ctr Tryz.f170 fun _ _ _ S w0 h ho=> ?_
 unfold k170 at h;split at h <;> cases h;rename_i mn XB XS XT XD XF XR b;obtain⟨o1,o2,o3,o4⟩:=ho.e4;have L:=limE;have K:=(kn.cons a242).cons a27;obtain⟨L,hL⟩:∃ L,L=XB.map reBody:=⟨_,rfl⟩;have hl:XB.length=L.length:=by rw[hL];simp
 rw[<- hL] at o1 ⊢;rw[hl] at o2 o4 ⊢;subst o1;clear hL hl ho;obtain⟨v,hv⟩:∃ v,v=L.getD b.toNat default:=⟨_,rfl⟩;have hlm:(L.map (unBody 300)).length=L.length:=lmE ..;exact rF K [(14,.cptr (unBody 300 v) 0),(18,.agg [.q (massS L L.length) (302*L.length)])] (.c6 (show Ref (.cptr ((L.map (unBody 300)).getD b.toNat []) 0) (.cptr (unBody 300 v) 0) by rw[hv];exact Ref.cmap (f:=unBody 300) (by omega)) o3 (show b<((L.map (unBody 300)).length:Int) by rw[hlm];omega) (show Ref (.agg [.q (massS ((L.map (unBody 300)).map reBody) (L.map (unBody 300)).length) (302*(L.map (unBody 300)).length)]) (.agg [.q (massS L L.length) (302*L.length)]) from Ref.eq (by rw[reBody_un,lmE])) (show(L.map (unBody 300))=((L.map (unBody 300)).map reBody).map (unBody 300) by rw[reBody_un]) (show(L.map (unBody 300)).length<=1000 by rw[hlm];omega) (.a1 (show 300+(302*L.length)+200<=LIM by unfold LIM;omega))) (V:=.agg [.q (v.ma/(massS L L.length)) (300+(302*L.length)+2)]) (Ref.q1 (by unfold shareS;rw[hv]) (by omega))
def k62:KF
 | [.agg [.q px B,.q pz D],.agg [.q k C]]=>some (.agg [.q (px*k) (B+C+2),.q (pz*k) (D+C+2)],[B+D+C+300<=LIM])
 | _=>none
theorem a62:Ctr 62 k62:=by
 refine ctr Tryz.f62 fun _ _ _ S w0 h ho=> ?_
 unfold k62 at h;split at h <;> cases h;rename_i px B pz D k C;have o1:=ho.one;have L:=limE;have K:=kn.cons a29;exact rR K [] (.a2 (om (B+C+200<=LIM)) (om (D+C+200<=LIM)))
def KT66_ok:=((((kn.cons a170).cons a119).cons a117).cons a62).cons a36
def centreS (m:MachD) (p:PoseD):Nat->PtD
 | 0=>⟨0,0⟩
 | i+1=>⟨(centreS m p i).x+(placeF (fr m p i) (m.bodies.getD i default).c).x*shareS m.bodies ((i:Nat):Int),(centreS m p i).z+(placeF (fr m p i) (m.bodies.getD i default).c).z*shareS m.bodies ((i:Nat):Int)⟩
def centreV (m:MachD) (p:PoseD):PtD:=if poseE m p.joints.length=0 then centreS m p m.bodies.length else ⟨0,0⟩
def cB (jb n:Nat):Nat->Nat
 | 0=>0
 | i+1=>cB jb n i+(4*SZ jb+302*n+916)
theorem cB_le {jb n:Nat}:∀ {i:Nat},cB jb n i<=i*(4*SZ jb+302*n+916)
 | 0=>by simp[cB]
 | i+1=>by
   have:=cB_le (jb:=jb) (n:=n) (i:=i);rw[cB,Nat.add_mul];omega
theorem cB_8 {jb n i:Nat} (hi:i<=8) (hn:n<=8):cB jb n i<=32*SZ jb+26656:=by
 have h1:=cB_le (jb:=jb) (n:=n) (i:=i);have h2:i*(4*SZ jb+302*n+916)<=8*(4*SZ jb+302*n+916):=Nat.mul_le_mul_right _ hi;omega
noncomputable abbrev T66:List Item:=[.code (nav [1,1,1,1,0,1,0,0] (bodyOf Tryz.f66)),.inLoop (nav [1,1,1,1,0,1,0,0] (bodyOf Tryz.f66)),.inBlock 0,.code (nav [1,1,1,1,1] (bodyOf Tryz.f66))]
abbrev c66_0 (m:MachD) (jb:Nat) (p:PoseD):List AV:=[.str m.name,.list 27 (m.bodies.map (unBody 300)),.list 17 (m.springs.map (unCordy 300)),.list 17 (m.tendons.map (unCordy 300)),.list 13 (m.motors.map (unMotor 300)),.list 5 (m.feet.map (unFoot 300)),.list 12 ((List.range m.bodies.length).map fun i=>unF (SZ jb) (fr m p i))]
abbrev c66_1:ABlk:=⟨58,6,false,[[.q 0 0,.q 0 0]],none⟩
abbrev c66_2 (m:MachD) (p:PoseD) (jb:Nat):ABlk:=⟨58,6,false,[[.q ((centreS m p m.bodies.length).x) (cB jb m.bodies.length m.bodies.length),.q ((centreS m p m.bodies.length).z) (cB jb m.bodies.length m.bodies.length)]],none⟩
abbrev c66_4 (jb:Nat) (m:MachD) (p:PoseD):List (Nat×AV):=[(4,.ptr 0 6 0 0),(6,.cptr (unPl jb m p) 0),(8,.ptr 1 6 0 0),(25,.list 27 (m.bodies.map (unBody 300))),(26,.i6 ((m.bodies.length:Nat):Int)),(27,.i6 ((0:Nat):Int))]
abbrev c66_5 (m:MachD) (p:PoseD) (jb:Nat):AV:=(.tup [.agg [.q (centreS m p m.bodies.length).x (32*SZ jb+26656),.q (centreS m p m.bodies.length).z (32*SZ jb+26656)],.i6 0])
theorem loop66 {S:Nat->Prop} {w0:World} {m:MachD} {p:PoseD} {jb:Nat} (h8:m.bodies.length<=8) (hS:SZ jb<=153753600):
   GF 66 S w0 (c66_5 m p jb) T66 ⟨slots 50 (c66_4 jb m p),[some (c66_1),some ⟨58,6,false,[[.q (centreS m p 0).x (cB jb m.bodies.length 0),.q (centreS m p 0).z (cB jb m.bodies.length 0)]],none⟩]⟩:=by
 have hlm:(m.bodies.map (unBody 300)).length=m.bodies.length:=lmE ..;have hlr:((List.range m.bodies.length).map fun i=>unF (SZ jb) (fr m p i)).length=m.bodies.length:=by simp
 refine down (G:=fun i=>GF 66 S w0 (c66_5 m p jb) T66 ⟨slots 50 [(4,.ptr 0 6 0 0),(6,.cptr (unPl jb m p) 0),(8,.ptr 1 6 0 0),(25,.list 27 (m.bodies.map (unBody 300))),(26,.i6 ((m.bodies.length:Nat):Int)),(27,.i6 ((i:Nat):Int))],[some (c66_1),some ⟨58,6,false,[[.q (centreS m p i).x (cB jb m.bodies.length i),.q (centreS m p i).z (cB jb m.bodies.length i)]],none⟩]⟩) m.bodies.length ?_ ?_
 · refine gN KT66_ok [4,5,6,8,25,26,27] [(28,ff)] (.a1 (iF (om (¬ ((m.bodies.length:Int)<(m.bodies.length:Int)))))) (t:=[.code .ret]) (σ:=slots 50 [(4,.ptr 0 6 0 0),(5,.i6 (0:Int)),(6,.cptr (c66_0 m jb p) 0),(8,.ptr 1 6 0 0),(25,.list 27 (m.bodies.map (unBody 300))),(26,.i6 (m.bodies.length:Int)),(27,.i6 (m.bodies.length:Int))]) (h:=[some (c66_2 m p jb),some (c66_2 m p jb)]) ?_
   have:=cB_8 (jb:=jb) h8 h8;exact gE [.agg [.q (centreS m p m.bodies.length).x (cB jb m.bodies.length m.bodies.length),.q (centreS m p m.bodies.length).z (cB jb m.bodies.length m.bodies.length)],.i6 0] (Ref.tup2 (Ref.agg (RefC.cons (RefC.q_le this) (RefC.q_le this))) rr rfl rfl rfl rfl)
 · intro i hi ih
   have:=cB_8 (jb:=jb) (i:=i) (n:=m.bodies.length) (by omega) h8;have v0:(i:Int)<((m.bodies.map (unBody 300)).length:Int):=by rw[hlm];omega
   refine gR KT66_ok none [4,6,8,25,26,27] [0,1] [(28,tt),(30,.cptr (unBody 300 (m.bodies.getD i default)) 0),(38,.cptr [.q ((fr m p i).at_.x) (2*(SZ jb)),.q ((fr m p i).at_.z) (2*(SZ jb)),.q ((fr m p i).c) (SZ jb),.q ((fr m p i).s) (SZ jb)] 0),(45,.agg [.q (shareS m.bodies (i:Int)) (302*m.bodies.length+304)]),(48,.i6 ((i+1:Nat):Int))] (.c6 (iT (om ((i:Int)<(m.bodies.length:Int)))) (show Ref (.cptr ((m.bodies.map (unBody 300)).getD i []) 0) (.cptr (unBody 300 (m.bodies.getD i default)) 0) from Ref.cmap (f:=unBody 300) hi) (nn i) v0 (show Ref (.cptr (((List.range m.bodies.length).map fun i=>unF (SZ jb) (fr m p i)).getD i []) 0) (.cptr [.q ((fr m p i).at_.x) (2*(SZ jb)),.q ((fr m p i).at_.z) (2*(SZ jb)),.q ((fr m p i).c) (SZ jb),.q ((fr m p i).s) (SZ jb)] 0) from frL_ref hi) (nn i) (.c6 (show(i:Int)<(((List.range m.bodies.length).map fun i=>unF (SZ jb) (fr m p i)).length:Int) by rw[hlr];omega) (show(2*(SZ jb))+(2*(SZ jb))+2*300+2*300+2*(SZ jb)+2*(SZ jb)+400<=LIM by unfold LIM;omega) (show Ref (.agg [.q (shareS ((m.bodies.map (unBody 300)).map reBody) (i:Int)) (302*(m.bodies.map (unBody 300)).length+304)]) (.agg [.q (shareS m.bodies (i:Int)) (302*m.bodies.length+304)]) from Ref.eq (by rw[reBody_un,hlm])) (show(m.bodies.map (unBody 300))=((m.bodies.map (unBody 300)).map reBody).map (unBody 300) by rw[reBody_un]) (show(m.bodies.map (unBody 300)).length<=1000 by rw[hlm];omega) (nn i) (.a4 v0 (show((2*(SZ jb))+(300+300+(SZ jb)+(SZ jb)+6)+2)+((2*(SZ jb))+(300+300+(SZ jb)+(SZ jb)+6)+2)+(302*m.bodies.length+304)+300<=LIM by unfold LIM;omega) (show(cB jb m.bodies.length i)+(cB jb m.bodies.length i)+(((2*(SZ jb))+(300+300+(SZ jb)+(SZ jb)+6)+2)+(302*m.bodies.length+304)+2)+(((2*(SZ jb))+(300+300+(SZ jb)+(SZ jb)+6)+2)+(302*m.bodies.length+304)+2)+300<=LIM by unfold LIM;omega) (wI ((i:Int)+(1:Int)) ((i+1:Nat):Int))))) (t:=T66) (σ:=slots 50 [(4,.ptr 0 6 0 0),(6,.cptr (unPl jb m p) 0),(8,.ptr 1 6 0 0),(25,.list 27 (m.bodies.map (unBody 300))),(26,.i6 ((m.bodies.length:Nat):Int)),(27,.i6 ((i+1:Nat):Int))]) (h:=[some (c66_1),some ⟨58,6,false,[[.q (((centreS m p i).x)+((((fr m p i).at_.x)+(((fr m p i).c)*(m.bodies.getD i default).c.x-((fr m p i).s)*(m.bodies.getD i default).c.z))*(shareS m.bodies (i:Int)))) ((cB jb m.bodies.length i)+(((2*(SZ jb))+(300+300+(SZ jb)+(SZ jb)+6)+2)+(302*m.bodies.length+304)+2)+2),.q (((centreS m p i).z)+((((fr m p i).at_.z)+(((fr m p i).s)*(m.bodies.getD i default).c.x+((fr m p i).c)*(m.bodies.getD i default).c.z))*(shareS m.bodies (i:Int)))) ((cB jb m.bodies.length i)+(((2*(SZ jb))+(300+300+(SZ jb)+(SZ jb)+6)+2)+(302*m.bodies.length+304)+2)+2)]],none⟩]) ?_
   have e:cB jb m.bodies.length i+(2*SZ jb+(300+300+SZ jb+SZ jb+6)+2+(302*m.bodies.length+304)+2)+2=cB jb m.bodies.length (i+1):=by rw[cB];omega
   rw[e];exact ih
def k66:KF
 | [.agg M,.agg [.q ax jb,.q az A2,.q tu A3,.list 3 J]]=>some (.tup [.agg [.q (centreV (reMach M) ⟨⟨ax,az⟩,tu,J.map reQ⟩).x (32*SZ jb+26656),.q (centreV (reMach M) ⟨⟨ax,az⟩,tu,J.map reQ⟩).z (32*SZ jb+26656)],.int .i64 (poseE (reMach M) J.length)],[M=unMach 300 (reMach M),(reMach M).small,(reMach M).bodies.length<=8,A2<=jb,A3<=jb,jb<=100000,Ref (.list 3 J) (.list 3 ((J.map reQ).map (unQ jb))),J.length<=4611686018427387904])
 | _=>none
abbrev c66_3 (jb:Nat) (m:MachD) (p:PoseD):AV:=(.tup [(standP jb (reMach (unMach 300 m)) ⟨⟨p.at_.x,p.at_.z⟩,p.turn,(p.joints.map (unQ jb)).map reQ⟩),.i6 (poseE (reMach (unMach 300 m)) (p.joints.map (unQ jb)).length)])
theorem a66:Ctr 66 k66:=fun args r ob h ho=>by
 unfold k66 at h
 split at h
 · rename_i M ax jb az A2 tu A3 J
   cases h;have o1:M=unMach 300 (reMach M):=ho _ (by simp);have o2:(reMach M).small:=ho _ (by simp);have o3:(reMach M).bodies.length<=8:=ho _ (by simp);have o4:A2<=jb:=ho _ (by simp);have o5:A3<=jb:=ho _ (by simp);have o6:jb<=100000:=ho _ (by simp);have o7:Ref (.list 3 J) (.list 3 ((J.map reQ).map (unQ jb))):=ho _ (by simp);have o8:J.length<=4611686018427387904:=ho _ (by simp);refine af Tryz.f66 fun S w0=> ?_
   generalize hm:reMach M=m at*;subst o1;clear hm;obtain⟨p,hp⟩:∃ p:PoseD,p=⟨⟨ax,az⟩,tu,J.map reQ⟩:=⟨_,rfl⟩;have hpj:p.joints.length=J.length:=by rw[hp];simp
   rw[<- hp]
   try rw[<- hpj]
   refine Good.weak 50 [(0,.agg (unMach 300 m)),(1,.agg (unPose jb p))] (by kernel_rfl) (.r (.cons (by rw[hp];exact Ref.pose o4 o5 o7) .nil)) ?_;clear hp;have s1:unMach 300 m=unMach 300 (reMach (unMach 300 m)):=by rw[reMach_un]
   have s2:(reMach (unMach 300 m)).small:=by rw[reMach_un];exact o2
   have s3:(reMach (unMach 300 m)).bodies.length<=8:=by rw[reMach_un];exact o3
   have s4:Ref (.list 3 (p.joints.map (unQ jb))) (.list 3 (((p.joints.map (unQ jb)).map reQ).map (unQ jb))):=Ref.eq (by rw[reQ_un]);have s5:(p.joints.map (unQ jb)).length<=4611686018427387904:=by rw[lmE,hpj];exact o8
   have s7:SZ jb<=153753600:=by unfold SZ;omega
   have s8:LIM=17592186044416:=rfl
   by_cases h1:(poseE m p.joints.length)=(0:Int)
   · refine gR KT66_ok none [4,5,6,8,25,26,27] [2,4] [(11,.tup [.cptr (c66_0 m jb p) 0,.i6 (0:Int)])] (.c6 s1 s2 s3 (rl jb) (rl jb) o6 (.a3 s4 s5 (show Ref (c66_3 jb m p) (.tup [.cptr (c66_0 m jb p) 0,.i6 (0:Int)]) by exact standP_ok h1))) (t:=T66) (σ:=slots 50 [(4,.ptr 0 6 0 0),(5,.i6 (0:Int)),(6,.cptr (c66_0 m jb p) 0),(8,.ptr 1 6 0 0),(25,.list 27 (m.bodies.map (unBody 300))),(26,(.i6 ((m.bodies.map (unBody 300)).length:Int))),(27,.i6 (0:Int))]) (h:=[some (c66_1),some (c66_1)]) ?_
     rw[lmE,show centreV m p=centreS m p m.bodies.length from if_pos h1,h1];refine Good.pk 50 (c66_4 jb m p) ?_;exact loop66 o3 s7
   · refine rF KT66_ok [(11,.tup [.lit (.pointer none),.i6 (poseE m p.joints.length)]),(18,tt)] (.c6 s1 s2 s3 (rl jb) (rl jb) o6 (.a4 s4 s5 (show Ref (c66_3 jb m p) (.tup [.lit (.pointer none),.i6 (poseE m p.joints.length)]) by exact standP_no h1) (jT h1))) (V:=.tup [.agg [.q 0 0,.q 0 0],.i6 (poseE m p.joints.length)]) ?_
     rw[show centreV m p=⟨0,0⟩ from if_neg h1];exact Ref.tup2 (Ref.agg (RefC.cons qe qe)) rr rfl rfl rfl rfl
 · cases h
def k35:KF
 | [.agg [.q ax A,.q az B],.int .i64 x,.int .i64 z]=>some (.bool (decide (ax=(x:Rat)/\az=(z:Rat))),[A+300<=LIM,B+300<=LIM,(-9223372036854775808:Int)<=x,x<=(9223372036854775807:Int),(-9223372036854775808:Int)<=z,z<=(9223372036854775807:Int)])
 | _=>none
theorem a35:Ctr 35 k35:=by
 refine ctr Tryz.f35 fun _ _ _ S w0 h ho=> ?_
 unfold k35 at h;split at h <;> cases h;rename_i ax A az B x z;obtain⟨o1,o2,o3,o4,o5,o6⟩:=ho.e6;have L:=limE;have K:=(kn.cons a104).cons a25
 by_cases h1:(cmpQ ax (x:Rat))=(0:Int)
 · exact rF K [(13,tt)] (.c6 o3 o4 (om (A+64+200<=LIM)) (iT h1) o5 o6 (.a1 (om (B+64+200<=LIM)))) (V:=.bool (decide ((cmpQ az (z:Rat))=(0:Int)))) (Ref.bool (by simp[cmpQ_zero] at h1 ⊢;simp[h1,cmpQ_zero]))
 · exact rF K [(13,ff)] (.a4 o3 o4 (om (A+64+200<=LIM)) (iF h1)) (V:=.bool false) (Ref.bool (by simp[cmpQ_zero] at h1 ⊢;simp[h1]))
def k128:KF
 | [.agg [.q d D],.agg [.q a A,.q b B],.agg [.q c C,.q e E]]=>some (.agg [.q (a+c) (A+C+2),.q (b+e) (B+E+2)],[A+B+C+E+D+400<=LIM])
 | _=>none
theorem a128:Ctr 128 k128:=by
 refine ctr Tryz.f128 fun _ _ _ S w0 h ho=> ?_
 unfold k128 at h;split at h <;> cases h;rename_i d D a A b B c C e E;have o1:=ho.one;have L:=limE;have K:=kn.cons a26;exact rR K [] (.a2 (om (A+C+200<=LIM)) (om (B+E+200<=LIM)))
structure Nm where
 a:Rat
 b:Rat
 deriving Inhabited
def fAdd (x y:Nm):Nm:=⟨x.a+y.a,x.b+y.b⟩
def fSub (x y:Nm):Nm:=⟨x.a-y.a,x.b-y.b⟩
def fMul (d:Rat) (x y:Nm):Nm:=⟨x.a*y.a+d*x.b*y.b,x.a*y.b+x.b*y.a⟩
def fCon (y:Nm):Nm:=⟨y.a,-y.b⟩
def fDiv (d:Rat) (x y:Nm):Nm:=⟨(fMul d x (fCon y)).a/(fMul d y (fCon y)).a,(fMul d x (fCon y)).b/(fMul d y (fCon y)).a⟩
def k130:KF
 | [.agg [.q a A]]=>some (.agg [.q a A,.q 0 0],[])
 | _=>none
theorem a130:Ctr 130 k130:=by
 refine ctr Tryz.f130 fun _ _ _ S w0 h ho=> ?_
 unfold k130 at h;split at h <;> cases h;rename_i a A;exact rR .nil [] .nil
def k214:KF
 | [.agg [.q d D],.agg [.q a A,.q b B],.agg [.q c C,.q e E]]=>some (.agg [.q (fMul d ⟨a,b⟩ ⟨c,e⟩).a (A+B+C+E+D+8),.q (fMul d ⟨a,b⟩ ⟨c,e⟩).b (A+B+C+E+D+8)],[A+B+C+E+D+400<=LIM])
 | _=>none
theorem a214:Ctr 214 k214:=by
 refine ctr Tryz.f214 fun _ _ _ S w0 h ho=> ?_
 unfold k214 at h;split at h <;> cases h;rename_i d D a A b B c C e E;have o1:=ho.one;have L:=limE;have K:=(kn.cons a29).cons a26;exact rV K [] (.c6 (om (A+C+200<=LIM)) (om (D+B+200<=LIM)) (om ((D+B+2)+E+200<=LIM)) (om ((A+C+2)+((D+B+2)+E+2)+200<=LIM)) (om (A+E+200<=LIM)) (om (B+C+200<=LIM)) (.a3 (om ((A+E+2)+(B+C+2)+200<=LIM)) (om ((A+C+2)+((D+B+2)+E+2)+2<=A+B+C+E+D+8)) (om ((A+E+2)+(B+C+2)+2<=A+B+C+E+D+8))))
def k217:KF
 | [.agg [.q d D],.agg [.q a A,.q b B],.agg [.q c C,.q e E]]=>some (.agg [.q (a-c) (A+C+2),.q (b-e) (B+E+2)],[A+B+C+E+D+400<=LIM])
 | _=>none
theorem a217:Ctr 217 k217:=by
 refine ctr Tryz.f217 fun _ _ _ S w0 h ho=> ?_
 unfold k217 at h;split at h <;> cases h;rename_i d D a A b B c C e E;have o1:=ho.one;have L:=limE;have K:=kn.cons a28;exact rR K [] (.a2 (om (A+C+200<=LIM)) (om (B+E+200<=LIM)))
structure Vc where
 x:Nm
 z:Nm
 deriving Inhabited
def fSpin (d:Rat) (p:Vc) (c s:Nm):Vc:=⟨fSub (fMul d c p.x) (fMul d s p.z),fAdd (fMul d s p.x) (fMul d c p.z)⟩
def fOne:Nm:=⟨1,0⟩
def fTurn (d:Rat) (p:Vc) (t:Nm):Vc:=fSpin d p (fDiv d (fSub fOne (fMul d t t)) (fAdd fOne (fMul d t t))) (fDiv d (fAdd t t) (fAdd fOne (fMul d t t)))
def vAdd (p q:Vc):Vc:=⟨fAdd p.x q.x,fAdd p.z q.z⟩
def k129:KF
 | [.agg [.q d D],.agg [.q x1 X1,.q x2 X2,.q z1 Z1,.q z2 Z2],.agg [.q c C,.q e E],.agg [.q s U,.q t V]]=>some (.agg [.q (fSpin d ⟨⟨x1,x2⟩,⟨z1,z2⟩⟩ ⟨c,e⟩ ⟨s,t⟩).x.a (C+E+U+V+X1+X2+Z1+Z2+2*D+18),.q (fSpin d ⟨⟨x1,x2⟩,⟨z1,z2⟩⟩ ⟨c,e⟩ ⟨s,t⟩).x.b (C+E+U+V+X1+X2+Z1+Z2+2*D+18),.q (fSpin d ⟨⟨x1,x2⟩,⟨z1,z2⟩⟩ ⟨c,e⟩ ⟨s,t⟩).z.a (C+E+U+V+X1+X2+Z1+Z2+2*D+18),.q (fSpin d ⟨⟨x1,x2⟩,⟨z1,z2⟩⟩ ⟨c,e⟩ ⟨s,t⟩).z.b (C+E+U+V+X1+X2+Z1+Z2+2*D+18)],[2*C+2*E+2*U+2*V+2*X1+2*X2+2*Z1+2*Z2+5*D+1000<=LIM])
 | _=>none
theorem a129:Ctr 129 k129:=by
 refine ctr Tryz.f129 fun _ _ _ S w0 h ho=> ?_
 unfold k129 at h;split at h <;> cases h;rename_i d D x1 X1 x2 X2 z1 Z1 z2 Z2 c C e E s U t V;have o1:=ho.one;have L:=limE;have K:=((kn.cons a217).cons a214).cons a128;exact rV K [] (.c6 (om (C+E+X1+X2+D+400<=LIM)) (om (U+V+Z1+Z2+D+400<=LIM)) (om ((C+E+X1+X2+D+8)+(C+E+X1+X2+D+8)+(U+V+Z1+Z2+D+8)+(U+V+Z1+Z2+D+8)+D+400<=LIM)) (om (U+V+X1+X2+D+400<=LIM)) (om (C+E+Z1+Z2+D+400<=LIM)) (om ((U+V+X1+X2+D+8)+(U+V+X1+X2+D+8)+(C+E+Z1+Z2+D+8)+(C+E+Z1+Z2+D+8)+D+400<=LIM)) (.a4 (om ((C+E+X1+X2+D+8)+(U+V+Z1+Z2+D+8)+2<=C+E+U+V+X1+X2+Z1+Z2+2*D+18)) (om ((C+E+X1+X2+D+8)+(U+V+Z1+Z2+D+8)+2<=C+E+U+V+X1+X2+Z1+Z2+2*D+18)) (om ((U+V+X1+X2+D+8)+(C+E+Z1+Z2+D+8)+2<=C+E+U+V+X1+X2+Z1+Z2+2*D+18)) (om ((U+V+X1+X2+D+8)+(C+E+Z1+Z2+D+8)+2<=C+E+U+V+X1+X2+Z1+Z2+2*D+18))))
def k124:KF
 | [.agg [.q x1 X1,.q x2 X2,.q z1 Z1,.q z2 Z2],.agg [.q y1 Y1,.q y2 Y2,.q w1 W1,.q w2 W2],.fnm 128 true [.q d D]]=>some (.agg [.q (vAdd ⟨⟨x1,x2⟩,⟨z1,z2⟩⟩ ⟨⟨y1,y2⟩,⟨w1,w2⟩⟩).x.a (X1+Y1+2),.q (vAdd ⟨⟨x1,x2⟩,⟨z1,z2⟩⟩ ⟨⟨y1,y2⟩,⟨w1,w2⟩⟩).x.b (X2+Y2+2),.q (vAdd ⟨⟨x1,x2⟩,⟨z1,z2⟩⟩ ⟨⟨y1,y2⟩,⟨w1,w2⟩⟩).z.a (Z1+W1+2),.q (vAdd ⟨⟨x1,x2⟩,⟨z1,z2⟩⟩ ⟨⟨y1,y2⟩,⟨w1,w2⟩⟩).z.b (Z2+W2+2)],[X1+X2+Z1+Z2+Y1+Y2+W1+W2+D+600<=LIM])
 | _=>none
theorem a124:Ctr 124 k124:=by
 refine ctr Tryz.f124 fun _ _ _ S w0 h ho=> ?_
 unfold k124 at h;split at h <;> cases h;rename_i x1 X1 x2 X2 z1 Z1 z2 Z2 y1 Y1 y2 Y2 w1 W1 w2 W2 d D;have o1:=ho.one;have L:=limE;have K:=kn.cons a128;exact rV K [] (.a6 (om (X1+X2+Y1+Y2+D+400<=LIM)) (om (Z1+Z2+W1+W2+D+400<=LIM)) (rl (X1+Y1+2)) (rl (X2+Y2+2)) (rl (Z1+W1+2)) (rl (Z2+W2+2)))
def k125:KF
 | [.agg [.q x1 X1,.q z1 Z1]]=>some (.agg [.q x1 X1,.q 0 0,.q z1 Z1,.q 0 0],[])
 | _=>none
theorem a125:Ctr 125 k125:=by
 refine ctr Tryz.f125 fun _ _ _ S w0 h ho=> ?_
 unfold k125 at h;split at h <;> cases h;rename_i x1 X1 z1 Z1;have K:=kn.cons a130;exact rR K [] .nil
def k216:KF
 | [.agg [.q d D],.agg [.q a A,.q b B],.agg [.q c C,.q e E]]=>some (.agg [.q (fDiv d ⟨a,b⟩ ⟨c,e⟩).a (A+B+3*C+3*E+2*D+18),.q (fDiv d ⟨a,b⟩ ⟨c,e⟩).b (A+B+3*C+3*E+2*D+18)],[A+B+3*C+3*E+2*D+400<=LIM])
 | _=>none
theorem a216:Ctr 216 k216:=by
 refine ctr Tryz.f216 fun _ _ _ S w0 h ho=> ?_
 unfold k216 at h;split at h <;> cases h;rename_i d D a A b B c C e E;have o1:=ho.one;have L:=limE;have K:=((kn.cons a214).cons a59).cons a27;have v0:(A+B+C+E+D+8)+(C+E+C+E+D+8)+200<=LIM:=by omega
 exact rV K [] (.a6 (om (A+B+C+E+D+400<=LIM)) (om (C+E+C+E+D+400<=LIM)) v0 v0 (om ((A+B+C+E+D+8)+(C+E+C+E+D+8)+2<=A+B+3*C+3*E+2*D+18)) (om ((A+B+C+E+D+8)+(C+E+C+E+D+8)+2<=A+B+3*C+3*E+2*D+18)))
def k126:KF
 | [.agg [.q d D],.agg [.q x1 X1,.q x2 X2,.q z1 Z1,.q z2 Z2],.agg [.q a A,.q b B]]=>some (.agg [.q (fTurn d ⟨⟨x1,x2⟩,⟨z1,z2⟩⟩ ⟨a,b⟩).x.a (64*A+64*B+42*D+X1+X2+Z1+Z2+1500),.q (fTurn d ⟨⟨x1,x2⟩,⟨z1,z2⟩⟩ ⟨a,b⟩).x.b (64*A+64*B+42*D+X1+X2+Z1+Z2+1500),.q (fTurn d ⟨⟨x1,x2⟩,⟨z1,z2⟩⟩ ⟨a,b⟩).z.a (64*A+64*B+42*D+X1+X2+Z1+Z2+1500),.q (fTurn d ⟨⟨x1,x2⟩,⟨z1,z2⟩⟩ ⟨a,b⟩).z.b (64*A+64*B+42*D+X1+X2+Z1+Z2+1500)],[128*A+128*B+90*D+2*X1+2*X2+2*Z1+2*Z2+8000<=LIM])
 | _=>none
theorem a126:Ctr 126 k126:=by
 refine ctr Tryz.f126 fun _ _ _ S w0 h ho=> ?_
 unfold k126 at h;split at h <;> cases h;rename_i d D x1 X1 x2 X2 z1 Z1 z2 Z2 a A b B;have o1:=ho.one;have L:=limE;have K:=((((((kn.cons a217).cons a216).cons a214).cons a130).cons a129).cons a128).cons a25;have v0:64+0+(A+B+A+B+D+8)+(A+B+A+B+D+8)+D+400<=LIM:=by omega
 have v1:A+B+A+B+D+400<=LIM:=by omega
 exact rV K [] (.c6 (dc ((-9223372036854775808:Int)<=1)) (dc (1<=(9223372036854775807:Int))) v1 v0 v0 (om ((64+(A+B+A+B+D+8)+2)+(0+(A+B+A+B+D+8)+2)+3*(64+(A+B+A+B+D+8)+2)+3*(0+(A+B+A+B+D+8)+2)+2*D+400<=LIM)) (.c6 v1 (om ((A+A+2)+(B+B+2)+3*(64+(A+B+A+B+D+8)+2)+3*(0+(A+B+A+B+D+8)+2)+2*D+400<=LIM)) (om (2*((64+(A+B+A+B+D+8)+2)+(0+(A+B+A+B+D+8)+2)+3*(64+(A+B+A+B+D+8)+2)+3*(0+(A+B+A+B+D+8)+2)+2*D+18)+2*((64+(A+B+A+B+D+8)+2)+(0+(A+B+A+B+D+8)+2)+3*(64+(A+B+A+B+D+8)+2)+3*(0+(A+B+A+B+D+8)+2)+2*D+18)+2*((A+A+2)+(B+B+2)+3*(64+(A+B+A+B+D+8)+2)+3*(0+(A+B+A+B+D+8)+2)+2*D+18)+2*((A+A+2)+(B+B+2)+3*(64+(A+B+A+B+D+8)+2)+3*(0+(A+B+A+B+D+8)+2)+2*D+18)+2*X1+2*X2+2*Z1+2*Z2+5*D+1000<=LIM)) (om (((64+(A+B+A+B+D+8)+2)+(0+(A+B+A+B+D+8)+2)+3*(64+(A+B+A+B+D+8)+2)+3*(0+(A+B+A+B+D+8)+2)+2*D+18)+((64+(A+B+A+B+D+8)+2)+(0+(A+B+A+B+D+8)+2)+3*(64+(A+B+A+B+D+8)+2)+3*(0+(A+B+A+B+D+8)+2)+2*D+18)+((A+A+2)+(B+B+2)+3*(64+(A+B+A+B+D+8)+2)+3*(0+(A+B+A+B+D+8)+2)+2*D+18)+((A+A+2)+(B+B+2)+3*(64+(A+B+A+B+D+8)+2)+3*(0+(A+B+A+B+D+8)+2)+2*D+18)+X1+X2+Z1+Z2+2*D+18<=64*A+64*B+42*D+X1+X2+Z1+Z2+1500)) (om (((64+(A+B+A+B+D+8)+2)+(0+(A+B+A+B+D+8)+2)+3*(64+(A+B+A+B+D+8)+2)+3*(0+(A+B+A+B+D+8)+2)+2*D+18)+((64+(A+B+A+B+D+8)+2)+(0+(A+B+A+B+D+8)+2)+3*(64+(A+B+A+B+D+8)+2)+3*(0+(A+B+A+B+D+8)+2)+2*D+18)+((A+A+2)+(B+B+2)+3*(64+(A+B+A+B+D+8)+2)+3*(0+(A+B+A+B+D+8)+2)+2*D+18)+((A+A+2)+(B+B+2)+3*(64+(A+B+A+B+D+8)+2)+3*(0+(A+B+A+B+D+8)+2)+2*D+18)+X1+X2+Z1+Z2+2*D+18<=64*A+64*B+42*D+X1+X2+Z1+Z2+1500)) (om (((64+(A+B+A+B+D+8)+2)+(0+(A+B+A+B+D+8)+2)+3*(64+(A+B+A+B+D+8)+2)+3*(0+(A+B+A+B+D+8)+2)+2*D+18)+((64+(A+B+A+B+D+8)+2)+(0+(A+B+A+B+D+8)+2)+3*(64+(A+B+A+B+D+8)+2)+3*(0+(A+B+A+B+D+8)+2)+2*D+18)+((A+A+2)+(B+B+2)+3*(64+(A+B+A+B+D+8)+2)+3*(0+(A+B+A+B+D+8)+2)+2*D+18)+((A+A+2)+(B+B+2)+3*(64+(A+B+A+B+D+8)+2)+3*(0+(A+B+A+B+D+8)+2)+2*D+18)+X1+X2+Z1+Z2+2*D+18<=64*A+64*B+42*D+X1+X2+Z1+Z2+1500)) (.a1 (om (((64+(A+B+A+B+D+8)+2)+(0+(A+B+A+B+D+8)+2)+3*(64+(A+B+A+B+D+8)+2)+3*(0+(A+B+A+B+D+8)+2)+2*D+18)+((64+(A+B+A+B+D+8)+2)+(0+(A+B+A+B+D+8)+2)+3*(64+(A+B+A+B+D+8)+2)+3*(0+(A+B+A+B+D+8)+2)+2*D+18)+((A+A+2)+(B+B+2)+3*(64+(A+B+A+B+D+8)+2)+3*(0+(A+B+A+B+D+8)+2)+2*D+18)+((A+A+2)+(B+B+2)+3*(64+(A+B+A+B+D+8)+2)+3*(0+(A+B+A+B+D+8)+2)+2*D+18)+X1+X2+Z1+Z2+2*D+18<=64*A+64*B+42*D+X1+X2+Z1+Z2+1500)))))
theorem bitLen_dval {xs:List Nat} (h:Dig b32 xs) (hne:xs≠ []):bitLen (dval b32 xs)=32*(xs.length-1)+bitLen (xs.getD (xs.length-1) 0):=by
 have hp:0<xs.length:=List.length_pos_iff.2 hne;have h1:=Dig.low (b:=b32) (by decide) h hne;have h2:=dval_split b32 (xs.length-1) xs;have h3:=dval_drop_succ (b:=b32) (k:=xs.length-1) (xs:=xs) (by omega);have h4:=dval_take_lt (b:=b32) (by decide) h.1 (xs.length-1);rw[show xs.length-1+1=xs.length by omega,List.drop_length] at h3;simp only[dval,Nat.mul_zero,Nat.add_zero] at h3;rw[h3] at h2
 have h5:dval b32 xs/b32^(xs.length-1)=xs.getD (xs.length-1) 0:=by
   rw[h2,Nat.add_mul_div_left _ _ (Nat.pow_pos (by decide)),Nat.div_eq_of_lt h4,Nat.zero_add]
 rw[b32_pow] at h1 h5;rw[bitLen_div h1,h5]
def k336:KF
 | [.nat n B]=>some (.int .i64 ((bitLen n:Nat):Int),[B<=LIM])
 | _=>none
theorem a336:Ctr 336 k336:=by
 refine ctr Tryz.f336 fun _ _ _ S w0 h ho=> ?_
 unfold k336 at h;split at h <;> cases h;rename_i n B;have o1:=ho.one;have L:=limE;have K:=kn.cons a298;refine Good.natlt (n:=n) (B:=B) 0 rfl fun hB=> ?_
 obtain⟨hx,hxn⟩:=digits_spec (b:=b32) (by decide) n;have hl:=digits_len hB;refine Good.weak 18 [(0,.list 1 (d32 (digits b32 n)))] (by kernel_rfl) (.cons Ref.opn .nil) ?_;generalize digits b32 n=xs at*;unfold LIM at o1;have ht:=getD_lt (b:=b32) (by decide) hx.1 (xs.length-1);unfold b32 at ht;have e1:((((d32 xs).length:Nat):Int)-(1:Int)).toNat=xs.length-1:=by rw[d32_length];omega
 have hb:=bitLen_le (n:=xs.getD (xs.length-1) 0) (k:=32) ht
 by_cases h1:(((d32 xs).length:Nat):Int)=(0:Int)
 · refine rF K [(5,tt)] (.a1 (iT h1)) (V:=.i6 (0:Int)) ?_
   rw[d32_length] at h1;have:xs= []:=List.length_eq_zero_iff.1 (by omega);subst this;rw[<- hxn];exact Ref.int (by simp[dval,bitLen])
 · refine rF K [(5,ff),(8,.i6 ((((d32 xs).length:Nat):Int)-(1:Int))),(9,.i6 ((32:Int)*((((d32 xs).length:Nat):Int)-(1:Int)))),(13,.i6 ((((d32 xs).length:Nat):Int)-(1:Int))),(14,.cptr [.int .u32 (xs.getD (((((d32 xs).length:Nat):Int)-(1:Int)).toNat) 0:Int)] 0),(17,.i6 (((32:Int)*((((d32 xs).length:Nat):Int)-(1:Int)))+(bitLen (xs.getD (((((d32 xs).length:Nat):Int)-(1:Int)).toNat) 0):Int)))] (.c6 (iF h1) (wI ((((d32 xs).length:Nat):Int)-(1:Int)) ((((d32 xs).length:Nat):Int)-(1:Int)) (by first | (rw[e1];rw[d32_length] at*;omega) | (rw[d32_length] at*;omega))) (wI ((32:Int)*((((d32 xs).length:Nat):Int)-(1:Int))) ((32:Int)*((((d32 xs).length:Nat):Int)-(1:Int))) (by first | (rw[e1];rw[d32_length] at*;omega) | (rw[d32_length] at*;omega))) (wI ((((d32 xs).length:Nat):Int)-(1:Int)) ((((d32 xs).length:Nat):Int)-(1:Int)) (by first | (rw[e1];rw[d32_length] at*;omega) | (rw[d32_length] at*;omega))) (show Ref (.cptr ((d32 xs).getD ((((d32 xs).length:Int)-(1:Int)).toNat) []) 0) (.cptr [.int .u32 (xs.getD (((((d32 xs).length:Nat):Int)-(1:Int)).toNat) 0:Int)] 0) from Ref.cd32 ((show((((d32 xs).length:Nat):Int)-(1:Int)).toNat<xs.length by(rw[e1];rw[d32_length] at*;omega)))) (show 0<=((((d32 xs).length:Nat):Int)-(1:Int)) by(rw[d32_length] at*;omega)) (.a4 (show((((d32 xs).length:Nat):Int)-(1:Int))<((d32 xs).length:Int) by(rw[d32_length] at*;omega)) (show 0<=(xs.getD (((((d32 xs).length:Nat):Int)-(1:Int)).toNat) 0:Int) by first | (rw[e1];exact ht) | (rw[e1];rw[d32_length] at*;omega) | (rw[d32_length] at*;omega) | omega) (show(xs.getD ((((d32 xs).length:Int)-(1:Int)).toNat) 0)<4294967296 by(rw[e1];exact ht)) (wI (((32:Int)*((((d32 xs).length:Nat):Int)-(1:Int)))+(bitLen (xs.getD (((((d32 xs).length:Nat):Int)-(1:Int)).toNat) 0):Int)) (((32:Int)*((((d32 xs).length:Nat):Int)-(1:Int)))+(bitLen (xs.getD (((((d32 xs).length:Nat):Int)-(1:Int)).toNat) 0):Int)) (by first | (rw[e1];rw[d32_length] at*;omega) | (rw[d32_length] at*;omega))))) (V:=.i6 (((32:Int)*((((d32 xs).length:Nat):Int)-(1:Int)))+(bitLen (xs.getD (((((d32 xs).length:Nat):Int)-(1:Int)).toNat) 0):Int))) ?_
   rw[d32_length] at h1;refine Ref.int ?_;rw[<- hxn,e1,d32_length,bitLen_dval hx (fun h=>h1 (by rw[h];rfl))];have:0<xs.length:=by omega
   omega
def KT329_ok:=((((((kn.cons a336).cons a265).cons a262).cons a207).cons a205).cons a203).cons a202
def isqF:Nat->Nat->Nat
 | 0,_=>0
 | k+1,n=>if n=0 then 0 else if (2*isqF k (n/4)+1)*(2*isqF k (n/4)+1)<=n then 2*isqF k (n/4)+1 else 2*isqF k (n/4)
def isqrt (n:Nat):Nat:=isqF n n
theorem isqF_spec:∀ (k n:Nat),n<=k->isqF k n*isqF k n<=n/\n<(isqF k n+1)*(isqF k n+1)
 | 0,n,h=>by
   have:n=0:=by omega
   subst this;simp[isqF]
 | k + 1,n,h=>by
   rw[isqF]
   split
   · rename_i h0;subst h0;simp
   · rename_i h0
     obtain⟨h1,h2⟩:=isqF_spec k (n/4) (by omega);generalize isqF k (n/4)=s at*;have h3:4*(n/4)<=n:=by omega
     have h4:n<4*(n/4)+4:=by omega
     have e1:(2*s)*(2*s)=4*(s*s):=by grind
     have e2:(2*s+1+1)*(2*s+1+1)=4*((s+1)*(s+1)):=by grind
     split
     · rename_i h5
       exact⟨h5,by rw[e2];omega⟩
     · rename_i h5
       exact⟨by rw[e1];omega,by omega⟩
theorem isqrt_spec (n:Nat):isqrt n*isqrt n<=n/\n<(isqrt n+1)*(isqrt n+1):=isqF_spec n n (rl n)
theorem isqrt_uniq {n x:Nat} (h1:x*x<=n) (h2:n<(x+1)*(x+1)):x=isqrt n:=by
 obtain⟨h3,h4⟩:=isqrt_spec n;generalize isqrt n=r at*;rcases Nat.lt_trichotomy x r with h | h | h
 · have:=Nat.mul_le_mul (show x+1<=r from h) (show x+1<=r from h)
   omega
 · exact h
 · have:=Nat.mul_le_mul (show r+1<=x from h) (show r+1<=x from h)
   omega
theorem isqrt_le (n:Nat):isqrt n<=n:=by
 obtain⟨h,_⟩:=isqrt_spec n;exact Nat.le_trans (Nat.le_mul_self _) h
theorem isqrt_pos {n:Nat} (h:0<n):0<isqrt n:=by
 obtain⟨_,h2⟩:=isqrt_spec n;rcases Nat.eq_zero_or_pos (isqrt n) with e | e
 · rw[e] at h2;omega
 · exact e
theorem newton {n x:Nat} (hn:0<n) (hx:0<x):n<((x+n/x)/2+1)*((x+n/x)/2+1)/\0<(x+n/x)/2/\(x<=(x+n/x)/2->x*x<=n):=by
 have h1:x*(n/x)<=n:=Nat.mul_div_le n x;have h2:n<x*(n/x+1):=Nat.lt_mul_div_succ n hx;generalize n/x=q at*;refine⟨?_, ?_,fun h=> ?_⟩
 · have h3:x+q+1<=2*((x+q)/2+1):=by omega
   generalize (x+q)/2+1=y at*;have h4:=Nat.mul_le_mul h3 h3
   have h5:4*(x*(q+1))<=(x+q+1)*(x+q+1):=by
     rcases Nat.le_total x (q+1) with h | h
     · obtain⟨d,hd⟩:=Nat.le.dest h
       have:q+1=x+d:=hd.symm;rw[show x+q+1=x+(q+1) by omega,this];have:(x+(x+d))*(x+(x+d))=4*(x*(x+d))+d*d:=by grind
       omega
     · obtain⟨d,hd⟩:=Nat.le.dest h
       rw[show x+q+1=x+(q+1) by omega, <- hd];have:(q+1+d+(q+1))*(q+1+d+(q+1))=4*((q+1+d)*(q+1))+d*d:=by grind
       omega
   have h6:(2*y)*(2*y)=4*(y*y):=by grind
   omega
 · rcases Nat.eq_zero_or_pos ((x+q)/2) with h | h
   · exfalso
     have hx1:x=1:=by omega
     have hq0:q=0:=by omega
     subst hx1;subst hq0;omega
   · exact h
 · have h3:x<=q:=by omega
   exact Nat.le_trans (Nat.mul_le_mul_left x h3) h1
def k329:KF
 | [.nat n B]=>some (.nat (isqrt n) B,[B+300<=LIM])
 | _=>none
section
variable {S:Nat->Prop} {w0:World}
noncomputable abbrev T329:List Item:=[.code (nav [1,1,1,0,0] (bodyOf Tryz.f329)),.inLoop (nav [1,1,1,0,0] (bodyOf Tryz.f329)),.inBlock 0]
theorem loop329 {n B C:Nat} (hn:0<n) (hB:n<2^B) (hC:max B C+128<=LIM):∀ (j x:Nat),x<=j->0<x->n<(x+1)*(x+1)->x<2^C->
   GF 329 S w0 (.nat (isqrt n) B) T329 ⟨slots 32 [(0,.nat n B),(3,.nat x C)],[]⟩:=by
 intro j
 induction j with
 | zero=>intro x h1 h2;omega
 | succ j ih=>
   intro x hj hx hnx hxC;obtain⟨n1,n2,n3⟩:=newton hn hx;have v0:(1:Int)<=9223372036854775807:=by decide
   by_cases c:(0:Int)<=(cmpN ((x+(n/x))/2^1) x)
   · refine gR KT329_ok none [0,2,3] [] [(29,tt)] (.c6 hx hC (om (max C B+1<=LIM)) (dc (0<=(1:Int))) (om ((max C B+1)<=LIM)) v0 (.a1 (iT c))) (t:=[.code .ret,.code (nav [1,1,1,0,0,0,1,1,1] (bodyOf Tryz.f329)),.inBlock 1,.inLoop (nav [1,1,1,0,0] (bodyOf Tryz.f329)),.inBlock 0]) (σ:=slots 32 [(0,.nat n B),(2,.nat x C),(3,.nat x C)]) (h:=[]) ?_
     have h1:x=isqrt n:=isqrt_uniq (n3 (cmpN_nonneg.1 c)) hnx;refine good_ret1 TT0_ok (fn:=Tryz.f329) (by kernel_rfl) 2 (by kernel_rfl) rfl (by rfl) ?_;rw[h1];exact Ref.natB (Nat.lt_of_le_of_lt (isqrt_le n) hB)
   · refine gR KT329_ok none [0,2,3] [] [(29,ff)] (.c6 hx hC (om (max C B+1<=LIM)) (dc (0<=(1:Int))) (om ((max C B+1)<=LIM)) v0 (.a1 (iF c))) (t:=T329) (σ:=slots 32 [(0,.nat n B),(3,(.nat ((x+(n/x))/2^1) (max C B+1)))]) (h:=[]) ?_
     have hlt:(x+n/x)/2^1<x:=Nat.lt_of_not_le fun h=>c (cmpN_nonneg.2 h)
     refine Good.weak 32 [(0,_),(3,.nat ((x+n/x)/2^1) C)] (by kernel_rfl) (.r (.cons (Ref.natB (Nat.lt_trans hlt hxC)) .nil)) ?_;exact ih _ (by omega) n2 n1 (Nat.lt_trans hlt hxC)
end
theorem a329:Ctr 329 k329:=by
 refine ctr Tryz.f329 fun _ _ _ S w0 h ho=> ?_
 unfold k329 at h;split at h <;> cases h;rename_i n B;have o1:=ho.one;refine Good.natlt (n:=n) (B:=B) 0 rfl fun hB=> ?_
 have hb:=bitLen_le hB;obtain⟨hx,hxn⟩:=digits_spec (b:=b32) (by decide) n;refine Good.weak 32 [(0,.list 1 (d32 (digits b32 n)))] (by kernel_rfl) (.cons Ref.opn .nil) ?_;have hlen:=digits_pos (b:=b32) (n:=n) (by decide);generalize digits b32 n=xs at*
 by_cases c:(((d32 xs).length:Nat):Int)=(0:Int)
 · refine rF KT329_ok [(9,tt)] (.a1 (iT c)) (V:=AV.nil) ?_
   rw[d32_length] at c;have h0:n=0:=by omega
   subst h0;exact(Ref.nilL (e:=1)).trans (Ref.nat (xs:=[]) ⟨by simp,by simp⟩ rfl (Nat.pow_pos (by decide)))
 · refine gS KT329_ok (some 3) [0,2,3] [(9,ff)] (.a1 (iF c)) (t:=[.code (nav [1,1,0] (bodyOf Tryz.f329)),.code (nav [1,1,1] (bodyOf Tryz.f329))]) (σ:=slots 32 [(0,.list 1 (d32 xs)),(2,.nil)]) (h:=[]) ?_
   rw[d32_length] at c;have hn:0<n:=by omega
   refine Good.weak 32 [(0,.nat n B)] (by kernel_rfl) (.cons (Ref.nat hx hxn hB) .nil) ?_;unfold LIM at o1;refine gR KT329_ok none [0,3] [] [(13,.i6 ((bitLen n+1:Nat):Int)),(14,.i6 (((bitLen n+1)/2:Nat):Int))] (.c6 (dc (0<=(1:Int))) (dc ((1:Int)<18446744073709551616)) (show B<=LIM by unfold LIM;omega) (wI (((bitLen n:Nat):Int)+(1:Int)) ((bitLen n+1:Nat):Int)) (show Ref (.i6 (IntKind.i64.wrap (((bitLen n+1:Nat):Int).tdiv (2:Int)))) (.i6 (((bitLen n+1)/2:Nat):Int)) from Ref.quo (a:=bitLen n+1) (b:=2) rfl rfl (by decide) (by show _<=(9223372036854775807:Int);omega)) (dc ((2:Int)≠0)) (.a2 (nn ((bitLen n+1)/2)) (show 64+((bitLen n+1)/2)<=LIM by unfold LIM;omega))) (t:=T329) (σ:=slots 32 [(0,.nat n B),(3,(.nat (1*2^((bitLen n+1)/2)) (64+((bitLen n+1)/2))))]) (h:=[]) ?_
   obtain⟨b1,b2,b3⟩:=bitLen_spec (n:=n) (by omega)
   have hx0:n<2^((bitLen n+1)/2)*2^((bitLen n+1)/2):=by
     rw[<- Nat.pow_add];exact Nat.lt_of_lt_of_le b3 (Nat.pow_le_pow_right (by decide) (by omega))
   refine loop329 hn hB (by unfold LIM;omega) _ _ (rl _) (by rw[Nat.one_mul];exact Nat.pow_pos (by decide)) ?_ ?_
   · rw[Nat.one_mul]
     exact Nat.lt_of_lt_of_le hx0 (Nat.mul_le_mul (Nat.le_succ _) (Nat.le_succ _))
   · rw[Nat.one_mul]
     exact Nat.pow_lt_pow_right (by decide) (by omega)
def sqB (x:Rat):Bool:=decide (isqrt x.num.natAbs*isqrt x.num.natAbs=x.num.natAbs/\isqrt x.den*isqrt x.den=x.den)
def sqV (x:Rat):Rat:=mkRat (isqrt x.num.natAbs:Nat) (isqrt x.den)
def k301:KF
 | [.agg [.q x B]]=>some (.tup [.agg [.q (if sqB x then sqV x else 0) (B+1)],.bool (sqB x)],[2*B+400<=LIM])
 | _=>none
theorem a301:Ctr 301 k301:=by
 refine ctr Tryz.f301 fun _ _ _ S w0 h ho=> ?_
 unfold k301 at h;split at h <;> cases h;rename_i x B;have o1:=ho.one;have L:=limE;have K:=((((kn.cons a329).cons a207).cons a115).cons a112).cons a111;have v0:max B 64+1<=LIM:=by omega
 have v1:(B+1)+300<=LIM:=by omega
 have v2:B+B+128<=LIM:=by omega
 have v3:B+300<=LIM:=by omega
 by_cases h1:(cmpN ((isqrt x.num.natAbs)*(isqrt x.num.natAbs)) x.num.natAbs)=(0:Int)
 · have v4:(B+1)+(B+1)+128<=LIM:=by omega
   by_cases h2:(cmpN ((isqrt x.den)*(isqrt x.den)) x.den)=(0:Int)
   · refine rF K [(21,ff),(29,ff),(32,.agg [.z (isqrt x.num.natAbs:Int) B])] (.c6 v3 v0 v1 v2 (jF h1) v4 (.a5 v0 (jF h2) (show Ref (.agg [.bool false,.nat (isqrt x.num.natAbs) B]) (.agg [.z (isqrt x.num.natAbs:Int) B]) by exact Ref.agg (RefC.mkz (rl _) (by simp) (by simp))) (show 0<(isqrt x.den) by exact isqrt_pos x.den_pos) (om (max B (B+1)+128<=LIM)))) (V:=.tup [.agg [.q (mkRat (isqrt x.num.natAbs:Int) (isqrt x.den)) (max B (B+1))],.bool true]) ?_
     have hs:sqB x=true:=decide_eq_true ⟨cmpN_zero.1 h1,cmpN_zero.1 h2⟩;rw[hs];exact Ref.tup2 (Ref.q1 rfl (by omega)) rr rfl rfl rfl rfl
   · refine rF K [(21,ff),(29,tt)] (.c6 v3 v0 v1 v2 (jF h1) v4 (.a2 v0 (jT h2))) (V:=.tup [.agg [.q 0 0],.bool false]) ?_
     have hs:sqB x=false:=decide_eq_false fun h=>h2 (cmpN_zero.2 h.2)
     rw[hs];exact Ref.tup2 (Ref.q1 rfl (by omega)) rr rfl rfl rfl rfl
 · refine rF K [(21,tt)] (.a5 v3 v0 v1 v2 (jT h1)) (V:=.tup [.agg [.q 0 0],.bool false]) ?_
   have hs:sqB x=false:=decide_eq_false fun h=>h1 (cmpN_zero.2 h.1)
   rw[hs];exact Ref.tup2 (Ref.q1 rfl (by omega)) rr rfl rfl rfl rfl
def k302:KF
 | [.agg [.q x B]]=>some (.agg [.q ((x.den:Int):Rat) (B+1)],[max B 64+1<=LIM])
 | _=>none
theorem a302:Ctr 302 k302:=by
 refine ctr Tryz.f302 fun _ _ _ S w0 h ho=> ?_
 unfold k302 at h;split at h <;> cases h;rename_i x B;have o1:=ho.one;have L:=limE;have K:=(kn.cons a111).cons a108;exact rR K [(5,.agg [.z (x.den:Int) (B+1)])] (.a2 o1 (show Ref (.agg [.bool false,.nat x.den (B+1)]) (.agg [.z (x.den:Int) (B+1)]) by exact Ref.agg (RefC.mkz (rl _) (by simp) (by simp))))
def k303:KF
 | [.agg [.q x B]]=>some (.agg [.q (x.num:Rat) B],[])
 | _=>none
theorem a303:Ctr 303 k303:=by
 refine ctr Tryz.f303 fun _ _ _ S w0 h ho=> ?_
 unfold k303 at h;split at h <;> cases h;rename_i x B;have K:=kn.cons a108;exact rR K [] .nil
structure Sd where
 a:Rat
 b:Rat
 d:Rat
 deriving Inhabited
def nrm (s:Sd):Sd:=if s.b=0 then ⟨s.a,0,0⟩ else if sqB s.d=true then ⟨s.a+s.b*sqV s.d,0,0⟩ else ⟨s.a,s.b/((s.d.den:Int):Rat),(s.d.num:Rat)*((s.d.den:Int):Rat)⟩
def k269:KF
 | [.agg [.q a A,.q b B,.q d D]]=>some (.agg [.q (nrm ⟨a,b,d⟩).a (A+B+D+5),.q (nrm ⟨a,b,d⟩).b (B+D+3),.q (nrm ⟨a,b,d⟩).d (2*D+3)],[A+B+3*D+600<=LIM])
 | _=>none
theorem a269:Ctr 269 k269:=by
 refine ctr Tryz.f269 fun _ _ _ S w0 h ho=> ?_
 unfold k269 at h;split at h <;> cases h;rename_i a A b B d D;have o1:=ho.one;have L:=limE;have K:=((((((kn.cons a303).cons a302).cons a301).cons a116).cons a60).cons a29).cons a26
 by_cases h1:(Int.sign b.num)=(0:Int)
 · refine rF K [(8,tt)] (.a1 (iT h1)) (V:=.agg [.q a A,.q 0 0,.q 0 0]) ?_
   have h0:b=0:=div_sgn0 h1;have hn:nrm ⟨a,b,d⟩=⟨a,0,0⟩:=by unfold nrm;rw[if_pos h0]
   rw[hn];exact Ref.agg (RefC.cons qe (RefC.cons qe qe))
 · rcases Bool.eq_false_or_eq_true (sqB d) with h2 | h2
   · refine rF K [(8,ff),(18,tt)] (.a5 (iF h1) (om (2*D+400<=LIM)) (show Ref (.bool (sqB d)) (.bool true) from Ref.bool h2) (om (B+(D+1)+200<=LIM)) (om (A+(B+(D+1)+2)+200<=LIM))) (V:=.agg [.q (a+(b*(if sqB d then sqV d else 0))) (A+(B+(D+1)+2)+2),.q 0 0,.q 0 0]) ?_
     have h0:b≠0:=fun h=>h1 (by rw[h];rfl)
     have hn:nrm ⟨a,b,d⟩=⟨a+b*sqV d,0,0⟩:=by unfold nrm;rw[if_neg h0,if_pos h2]
     rw[hn,h2];exact Ref.agg (RefC.cons qe (RefC.cons qe qe))
   · refine rF K [(8,ff),(18,ff)] (.c6 (iF h1) (om (2*D+400<=LIM)) (show Ref (.bool (sqB d)) (.bool false) from Ref.bool h2) (om (max D 64+1<=LIM)) (om (B+(D+1)+200<=LIM)) (show((d.den:Int):Rat)≠0 by exact fun h=>d.den_nz (by have:=Rat.intCast_eq_zero_iff.1 h;omega)) (.a2 (om (max D 64+1<=LIM)) (om (D+(D+1)+200<=LIM)))) (V:=.agg [.q a A,.q (b/((d.den:Int):Rat)) (B+(D+1)+2),.q ((d.num:Rat)*((d.den:Int):Rat)) (D+(D+1)+2)]) ?_
     have h0:b≠0:=fun h=>h1 (by rw[h];rfl)
     have hn:nrm ⟨a,b,d⟩=⟨a,b/((d.den:Int):Rat),(d.num:Rat)*((d.den:Int):Rat)⟩:=by unfold nrm;rw[if_neg h0,if_neg (by rw[h2];decide)]
     rw[hn];exact Ref.agg (RefC.cons qe (RefC.cons qe qe))
def k219:KF
 | [.agg [.q a A,.q b B,.q d D]]=>some (.tup [.agg [.q ((if Int.sign d.num<0 then (⟨0,0,0⟩:Sd) else nrm ⟨a,b,d⟩)).a (A+B+D+5),.q ((if Int.sign d.num<0 then (⟨0,0,0⟩:Sd) else nrm ⟨a,b,d⟩)).b (B+D+3),.q ((if Int.sign d.num<0 then (⟨0,0,0⟩:Sd) else nrm ⟨a,b,d⟩)).d (2*D+3)],.int .i64 (if Int.sign d.num<0 then 8 else 0)],[A+B+3*D+600<=LIM])
 | _=>none
theorem a219:Ctr 219 k219:=by
 refine ctr Tryz.f219 fun _ _ _ S w0 h ho=> ?_
 unfold k219 at h;split at h <;> cases h;rename_i a A b B d D;have o1:=ho.one;have L:=limE;have K:=(kn.cons a269).cons a60
 by_cases h1:(Int.sign d.num)<(0:Int)
 · refine rF K [(7,tt)] (.a1 (iT h1)) (V:=.tup [.agg [.q 0 0,.q 0 0,.q 0 0],.i6 (8:Int)]) ?_
   simp only[if_pos h1];exact Ref.tup2 (Ref.agg (RefC.cons qe (RefC.cons qe qe))) rr rfl rfl rfl rfl
 · refine rF K [(7,ff)] (.a2 (iF h1) o1) (V:=.tup [.agg [.q ((nrm ⟨a,b,d⟩).a) (A+B+D+5),.q ((nrm ⟨a,b,d⟩).b) (B+D+3),.q ((nrm ⟨a,b,d⟩).d) (2*D+3)],.i6 (0:Int)]) ?_
   simp only[if_neg h1];exact Ref.tup2 rr rr rfl rfl rfl rfl
def k131:KF
 | [.agg [.q d D],.agg [.q a A,.q b B]]=>some (.agg [.q ((if Int.sign d.num<0 then (⟨0,0,0⟩:Sd) else nrm ⟨a,b,d⟩)).a (A+B+D+5),.q ((if Int.sign d.num<0 then (⟨0,0,0⟩:Sd) else nrm ⟨a,b,d⟩)).b (B+D+3),.q ((if Int.sign d.num<0 then (⟨0,0,0⟩:Sd) else nrm ⟨a,b,d⟩)).d (2*D+3)],[A+B+3*D+600<=LIM])
 | _=>none
theorem a131:Ctr 131 k131:=by
 refine ctr Tryz.f131 fun _ _ _ S w0 h ho=> ?_
 unfold k131 at h;split at h <;> cases h;rename_i d D a A b B;have o1:=ho.one;have K:=kn.cons a219;exact rR K [] (.a1 o1)
def k163:KF
 | [.agg [.q px B,.q pz D],.agg [.q qx C,.q qz E]]=>some (.agg [.q (px*qx+pz*qz) (B+D+C+E+6)],[B+D+C+E+300<=LIM])
 | _=>none
theorem a163:Ctr 163 k163:=by
 refine ctr Tryz.f163 fun _ _ _ S w0 h ho=> ?_
 unfold k163 at h;split at h <;> cases h;rename_i px B pz D qx C qz E;have o1:=ho.one;have L:=limE;have K:=(kn.cons a29).cons a26;exact rF K [] (.a3 (om (B+C+200<=LIM)) (om (D+E+200<=LIM)) (om ((B+C+2)+(D+E+2)+200<=LIM))) (V:=.agg [.q ((px*qx)+(pz*qz)) ((B+C+2)+(D+E+2)+2)]) (Ref.q1 rfl (by omega))
theorem sgn_false (n:Nat):sgn false n=n:=rfl
theorem abs_num (x:Rat):(x.num.natAbs:Int)=(if x<0 then-x else x).num:=by
 have h:x<0↔x.num<0:=by rw[Rat.lt_iff];simp
 by_cases k:x<0
 · have a:=h.1 k
   rw[if_pos k];exact Int.ofNat_natAbs_of_nonpos (by omega)
 · have a:¬ x.num<0:=fun a=>k (h.2 a)
   rw[if_neg k];exact Int.natAbs_of_nonneg (by omega)
def k268:KF
 | [.agg [.q x B]]=>some (.agg [.q (if x<0 then-x else x) B],[])
 | _=>none
theorem a268:Ctr 268 k268:=by
 refine ctr Tryz.f268 fun _ _ _ S w0 h ho=> ?_
 unfold k268 at h;split at h <;> cases h;rename_i x B;have K:=kn.cons a109;refine rF K [] .nil (V:=.agg [.z (sgn false x.num.natAbs) B,.nat (x.den-1) B]) ?_
 refine Ref.agg (RefC.mkq (rl _) (rl _) ?_ ?_)
 · rw[sgn_false];exact abs_num x
 · split <;> rfl
def KD213_ok:=((((((((kn.cons a269).cons a268).cons a116).cons a60).cons a59).cons a29).cons a28).cons a26).cons a25
def unSd (B:Nat) (s:Sd):List AV:=[.q s.a B,.q s.b B,.q s.d B]
def rootsS (a b c:Rat):List Sd:=
 if a=0 then (if b=0 then [] else [⟨-(c/b),0,0⟩])
 else if b*b-4*a*c<0 then []
 else if b*b-4*a*c=0 then [⟨-(b/(a+a)),0,0⟩]
 else [nrm ⟨-(b/(a+a)),-(if 1/(a+a)<0 then-(1/(a+a)) else 1/(a+a)),b*b-4*a*c⟩,nrm ⟨-(b/(a+a)),if 1/(a+a)<0 then-(1/(a+a)) else 1/(a+a),b*b-4*a*c⟩]
def k213:KF
 | [.agg [.q a A],.agg [.q b B],.agg [.q c C]]=>some (.tup [.list 9 ((rootsS a b c).map (unSd (5*A+4*B+2*C+300))),.int .i64 (if a=0/\b=0/\c=0 then 10 else 0)],[20*A+20*B+10*C+3000<=LIM])
 | _=>none
abbrev d213_1 (a:Rat) (A:Nat):ABlk:=⟨56,3,false,[[.q (if ((1:Rat)/(a+a))<0 then-((1:Rat)/(a+a)) else ((1:Rat)/(a+a))) (64+(A+A+2)+2)]],none⟩
theorem a213:Ctr 213 k213:=by
 refine ctr Tryz.f213 fun _ _ _ S w0 h ho=> ?_
 unfold k213 at h;split at h <;> cases h;rename_i a A b B c C;have o1:=ho.one;have q1:∀ x:Rat,(Int.sign x.num)=(0:Int)->x=0:=fun x=>sgn_zero.1
 have q2:∀ x:Rat,¬ ((Int.sign x.num)=(0:Int))->x≠0:=fun x h k=>h (sgn_zero.2 k)
 have q3:∀ x:Rat,(Int.sign x.num)=(-1:Int)->x<0:=fun x=>sgn_lt.1
 have q4:∀ x:Rat,¬ ((Int.sign x.num)=(-1:Int))->¬ x<0:=fun x h k=>h (sgn_lt.2 k)
 by_cases h1:(Int.sign a.num)=(0:Int)
 · by_cases h2:(Int.sign b.num)=(0:Int)
   · by_cases h3:(Int.sign c.num)=(0:Int)
     · refine rF KD213_ok [(11,ff),(15,ff),(25,ff)] (.a3 (jF h1) (jF h2) (jF h3)) (V:=.tup [AV.nil,.i6 (10:Int)]) ?_
       show Ref (AV.tup [AV.nil,(AV.int .i64 (10:Int))]) (.tup [.list 9 ((rootsS a b c).map (unSd (5*A+4*B+2*C+300))),.i6 (if a=0/\b=0/\c=0 then 10 else 0)]);rw[if_pos ⟨q1 _ h1,q1 _ h2,q1 _ h3⟩,show rootsS a b c= [] by unfold rootsS;rw[if_pos (q1 _ h1),if_pos (q1 _ h2)]];exact Ref.tup2 Ref.nilL rr rfl rfl rfl rfl
     · refine rF KD213_ok [(11,ff),(15,ff),(25,tt)] (.a3 (jF h1) (jF h2) (jT h3)) (V:=.tup [AV.nil,.i6 (0:Int)]) ?_
       show Ref (AV.tup [AV.nil,(AV.int .i64 (0:Int))]) (.tup [.list 9 ((rootsS a b c).map (unSd (5*A+4*B+2*C+300))),.i6 (if a=0/\b=0/\c=0 then 10 else 0)]);rw[if_neg (fun h=>q2 _ h3 h.2.2),show rootsS a b c= [] by unfold rootsS;rw[if_pos (q1 _ h1),if_pos (q1 _ h2)]];exact Ref.tup2 Ref.nilL rr rfl rfl rfl rfl
   · refine gN KD213_ok [6,7] [(11,ff),(15,tt)] (.a4 (jF h1) (jT h2) (om (C+B+200<=LIM)) (show b≠0 by grind)) (t:=[.code .ret,.inBlock 0,.code (nav [1,1] (bodyOf Tryz.f213))]) (σ:=slots 71 [(6,.own 7 9 0 1),(7,.i6 (0:Int))]) (h:=[some ⟨56,3,false,[[.q a A]],none⟩,some ⟨56,3,false,[[.q b B]],none⟩,some ⟨56,3,false,[[.q c C]],none⟩,none,none,none,none,some ⟨106,9,false,[[.q (-(c/b)) (C+B+2),.q 0 0,.q 0 0]],none⟩]) ?_
     refine Good.freezeD (b:=⟨106,9,false,[[(.q (-(c/b)) (C+B+2)),(.q 0 0),(.q 0 0)]],none⟩) 7 (by rfl) (by rfl) (.oe (.a1 (dc (0+1<=1)))) .on ?_;refine gE [(AV.list 9 [[(AV.q (-(c/b)) (C+B+2)),(AV.q 0 0),(AV.q 0 0)]]),(AV.int .i64 (0:Int))] ?_;show Ref (AV.tup [(AV.list 9 [[(AV.q (-(c/b)) (C+B+2)),(AV.q 0 0),(AV.q 0 0)]]),(AV.int .i64 (0:Int))]) (.tup [.list 9 ((rootsS a b c).map (unSd (5*A+4*B+2*C+300))),.i6 (if a=0/\b=0/\c=0 then 10 else 0)]);rw[if_neg (fun h=>q2 _ h2 h.2.1),show rootsS a b c= [⟨-(c/b),0,0⟩] by unfold rootsS;rw[if_pos (q1 _ h1),if_neg (q2 _ h2)]];exact Ref.tup2 (Ref.list1 (RefC.cons qe (RefC.cons qe qe))) rr rfl rfl rfl rfl
 · have v0:A+A+200<=LIM:=by omega
   have v1:(B+B+2)+((64+A+2)+C+2)+200<=LIM:=by omega
   have v3:(a+a)≠0:=by grind
   have v4:(-9223372036854775808:Int)<=4:=by decide
   have v5:(-9223372036854775808:Int)<=1:=by decide
   have v6:4<=(9223372036854775807:Int):=by decide
   have v7:1<=(9223372036854775807:Int):=by decide
   have v8:(64+A+2)+C+200<=LIM:=by omega
   have v9:64+(A+A+2)+200<=LIM:=by omega
   have v10:B+(A+A+2)+200<=LIM:=by omega
   have v11:64+A+200<=LIM:=by omega
   have v12:B+B+200<=LIM:=by omega
   by_cases h2:(Int.sign ((b*b)-(((4:Rat)*a)*c)).num)=(-1:Int)
   · refine rF KD213_ok [(11,tt),(52,tt)] (.c6 (jT h1) v12 v4 v6 v11 v8 (.c6 v1 v0 v10 v3 v5 v7 (.a4 v0 v9 v3 (iT h2)))) (V:=.tup [AV.nil,.i6 (0:Int)]) ?_
     show Ref (AV.tup [AV.nil,(AV.int .i64 (0:Int))]) (.tup [.list 9 ((rootsS a b c).map (unSd (5*A+4*B+2*C+300))),.i6 (if a=0/\b=0/\c=0 then 10 else 0)]);rw[if_neg (fun h=>q2 _ h1 h.1),show rootsS a b c= [] by unfold rootsS;rw[if_neg (q2 _ h1),if_pos (q3 _ h2)]];exact Ref.tup2 Ref.nilL rr rfl rfl rfl rfl
   · by_cases h3:(Int.sign ((b*b)-(((4:Rat)*a)*c)).num)=(0:Int)
     · refine gN KD213_ok [6,7] [(11,tt),(52,ff),(54,tt)] (.c6 (jT h1) v12 v4 v6 v11 v8 (.c6 v1 v0 v10 v3 v5 v7 (.a5 v0 v9 v3 (iF h2) (iT h3)))) (t:=[.code .ret,.inBlock 1,.code (nav [1,1,1,1,1] (bodyOf Tryz.f213))]) (σ:=slots 71 [(6,.own 20 9 0 1),(7,.i6 (0:Int))]) (h:=[some ⟨56,3,false,[[.q a A]],none⟩,some ⟨56,3,false,[[.q b B]],none⟩,some ⟨56,3,false,[[.q c C]],none⟩,none,none,none,none,none,none,some ⟨56,3,false,[[.q ((b*b)-(((4:Rat)*a)*c)) ((B+B+2)+((64+A+2)+C+2)+2)]],none⟩,none,none,none,none,none,none,none,some ⟨56,3,false,[[.q (-(b/(a+a))) (B+(A+A+2)+2)]],none⟩,some (d213_1 a A),none,some ⟨106,9,false,[[.q (-(b/(a+a))) (B+(A+A+2)+2),.q 0 0,.q 0 0]],none⟩]) ?_
       refine Good.freezeD (b:=⟨106,9,false,[[(.q (-(b/(a+a))) (B+(A+A+2)+2)),(.q 0 0),(.q 0 0)]],none⟩) 20 (by rfl) (by rfl) (.oe (.a1 (dc (0+1<=1)))) .on ?_;refine gE [(AV.list 9 [[(AV.q (-(b/(a+a))) (B+(A+A+2)+2)),(AV.q 0 0),(AV.q 0 0)]]),(AV.int .i64 (0:Int))] ?_;show Ref (AV.tup [(AV.list 9 [[(AV.q (-(b/(a+a))) (B+(A+A+2)+2)),(AV.q 0 0),(AV.q 0 0)]]),(AV.int .i64 (0:Int))]) (.tup [.list 9 ((rootsS a b c).map (unSd (5*A+4*B+2*C+300))),.i6 (if a=0/\b=0/\c=0 then 10 else 0)]);rw[if_neg (fun h=>q2 _ h1 h.1),show rootsS a b c= [⟨-(b/(a+a)),0,0⟩] by unfold rootsS;rw[if_neg (q2 _ h1),if_neg (q4 _ h2),if_pos (q1 _ h3)]];exact Ref.tup2 (Ref.list1 (RefC.cons qe (RefC.cons qe qe))) rr rfl rfl rfl rfl
     · have v2:(B+(A+A+2)+2)+(64+(A+A+2)+2)+3*((B+B+2)+((64+A+2)+C+2)+2)+600<=LIM:=by omega
       refine gN KD213_ok [6,7] [(11,tt),(52,ff),(54,ff)] (.c6 (jT h1) v12 v4 v6 v11 v8 (.c6 v1 v0 v10 v3 v5 v7 (.c6 v0 v9 v3 (iF h2) (iF h3) v2 (.a1 v2)))) (t:=[.code .ret]) (σ:=slots 71 [(6,.own 23 9 0 2),(7,.i6 (0:Int))]) (h:=[some ⟨56,3,false,[[.q a A]],none⟩,some ⟨56,3,false,[[.q b B]],none⟩,some ⟨56,3,false,[[.q c C]],none⟩,none,none,none,none,none,none,some ⟨56,3,false,[[.q ((b*b)-(((4:Rat)*a)*c)) ((B+B+2)+((64+A+2)+C+2)+2)]],none⟩,none,none,none,none,none,none,none,some ⟨56,3,false,[[.q (-(b/(a+a))) (B+(A+A+2)+2)]],none⟩,some (d213_1 a A),none,none,none,none,some ⟨106,9,false,[[.q ((nrm ⟨(-(b/(a+a))),(-(if ((1:Rat)/(a+a))<0 then-((1:Rat)/(a+a)) else ((1:Rat)/(a+a)))),((b*b)-(((4:Rat)*a)*c))⟩).a) ((B+(A+A+2)+2)+(64+(A+A+2)+2)+((B+B+2)+((64+A+2)+C+2)+2)+5),.q ((nrm ⟨(-(b/(a+a))),(-(if ((1:Rat)/(a+a))<0 then-((1:Rat)/(a+a)) else ((1:Rat)/(a+a)))),((b*b)-(((4:Rat)*a)*c))⟩).b) ((64+(A+A+2)+2)+((B+B+2)+((64+A+2)+C+2)+2)+3),.q ((nrm ⟨(-(b/(a+a))),(-(if ((1:Rat)/(a+a))<0 then-((1:Rat)/(a+a)) else ((1:Rat)/(a+a)))),((b*b)-(((4:Rat)*a)*c))⟩).d) (2*((B+B+2)+((64+A+2)+C+2)+2)+3)],[.q ((nrm ⟨(-(b/(a+a))),(if ((1:Rat)/(a+a))<0 then-((1:Rat)/(a+a)) else ((1:Rat)/(a+a))),((b*b)-(((4:Rat)*a)*c))⟩).a) ((B+(A+A+2)+2)+(64+(A+A+2)+2)+((B+B+2)+((64+A+2)+C+2)+2)+5),.q ((nrm ⟨(-(b/(a+a))),(if ((1:Rat)/(a+a))<0 then-((1:Rat)/(a+a)) else ((1:Rat)/(a+a))),((b*b)-(((4:Rat)*a)*c))⟩).b) ((64+(A+A+2)+2)+((B+B+2)+((64+A+2)+C+2)+2)+3),.q ((nrm ⟨(-(b/(a+a))),(if ((1:Rat)/(a+a))<0 then-((1:Rat)/(a+a)) else ((1:Rat)/(a+a))),((b*b)-(((4:Rat)*a)*c))⟩).d) (2*((B+B+2)+((64+A+2)+C+2)+2)+3)]],none⟩]) ?_
       refine Good.freezeD (b:=⟨106,9,false,[[(.q ((nrm ⟨(-(b/(a+a))),(-(if ((1:Rat)/(a+a))<0 then-((1:Rat)/(a+a)) else ((1:Rat)/(a+a)))),((b*b)-(((4:Rat)*a)*c))⟩).a) ((B+(A+A+2)+2)+(64+(A+A+2)+2)+((B+B+2)+((64+A+2)+C+2)+2)+5)),(.q ((nrm ⟨(-(b/(a+a))),(-(if ((1:Rat)/(a+a))<0 then-((1:Rat)/(a+a)) else ((1:Rat)/(a+a)))),((b*b)-(((4:Rat)*a)*c))⟩).b) ((64+(A+A+2)+2)+((B+B+2)+((64+A+2)+C+2)+2)+3)),(.q ((nrm ⟨(-(b/(a+a))),(-(if ((1:Rat)/(a+a))<0 then-((1:Rat)/(a+a)) else ((1:Rat)/(a+a)))),((b*b)-(((4:Rat)*a)*c))⟩).d) (2*((B+B+2)+((64+A+2)+C+2)+2)+3))],[(.q ((nrm ⟨(-(b/(a+a))),(if ((1:Rat)/(a+a))<0 then-((1:Rat)/(a+a)) else ((1:Rat)/(a+a))),((b*b)-(((4:Rat)*a)*c))⟩).a) ((B+(A+A+2)+2)+(64+(A+A+2)+2)+((B+B+2)+((64+A+2)+C+2)+2)+5)),(.q ((nrm ⟨(-(b/(a+a))),(if ((1:Rat)/(a+a))<0 then-((1:Rat)/(a+a)) else ((1:Rat)/(a+a))),((b*b)-(((4:Rat)*a)*c))⟩).b) ((64+(A+A+2)+2)+((B+B+2)+((64+A+2)+C+2)+2)+3)),(.q ((nrm ⟨(-(b/(a+a))),(if ((1:Rat)/(a+a))<0 then-((1:Rat)/(a+a)) else ((1:Rat)/(a+a))),((b*b)-(((4:Rat)*a)*c))⟩).d) (2*((B+B+2)+((64+A+2)+C+2)+2)+3))]],none⟩) 23 (by rfl) (by rfl) (.oe (.a1 (dc (0+2<=2)))) .on ?_
       refine gE [(AV.list 9 [[(AV.q ((nrm ⟨(-(b/(a+a))),(-(if ((1:Rat)/(a+a))<0 then-((1:Rat)/(a+a)) else ((1:Rat)/(a+a)))),((b*b)-(((4:Rat)*a)*c))⟩).a) ((B+(A+A+2)+2)+(64+(A+A+2)+2)+((B+B+2)+((64+A+2)+C+2)+2)+5)),(AV.q ((nrm ⟨(-(b/(a+a))),(-(if ((1:Rat)/(a+a))<0 then-((1:Rat)/(a+a)) else ((1:Rat)/(a+a)))),((b*b)-(((4:Rat)*a)*c))⟩).b) ((64+(A+A+2)+2)+((B+B+2)+((64+A+2)+C+2)+2)+3)),(AV.q ((nrm ⟨(-(b/(a+a))),(-(if ((1:Rat)/(a+a))<0 then-((1:Rat)/(a+a)) else ((1:Rat)/(a+a)))),((b*b)-(((4:Rat)*a)*c))⟩).d) (2*((B+B+2)+((64+A+2)+C+2)+2)+3))],[(AV.q ((nrm ⟨(-(b/(a+a))),(if ((1:Rat)/(a+a))<0 then-((1:Rat)/(a+a)) else ((1:Rat)/(a+a))),((b*b)-(((4:Rat)*a)*c))⟩).a) ((B+(A+A+2)+2)+(64+(A+A+2)+2)+((B+B+2)+((64+A+2)+C+2)+2)+5)),(AV.q ((nrm ⟨(-(b/(a+a))),(if ((1:Rat)/(a+a))<0 then-((1:Rat)/(a+a)) else ((1:Rat)/(a+a))),((b*b)-(((4:Rat)*a)*c))⟩).b) ((64+(A+A+2)+2)+((B+B+2)+((64+A+2)+C+2)+2)+3)),(AV.q ((nrm ⟨(-(b/(a+a))),(if ((1:Rat)/(a+a))<0 then-((1:Rat)/(a+a)) else ((1:Rat)/(a+a))),((b*b)-(((4:Rat)*a)*c))⟩).d) (2*((B+B+2)+((64+A+2)+C+2)+2)+3))]]),(AV.int .i64 (0:Int))] ?_;show Ref (AV.tup [(AV.list 9 [[(AV.q ((nrm ⟨(-(b/(a+a))),(-(if ((1:Rat)/(a+a))<0 then-((1:Rat)/(a+a)) else ((1:Rat)/(a+a)))),((b*b)-(((4:Rat)*a)*c))⟩).a) ((B+(A+A+2)+2)+(64+(A+A+2)+2)+((B+B+2)+((64+A+2)+C+2)+2)+5)),(AV.q ((nrm ⟨(-(b/(a+a))),(-(if ((1:Rat)/(a+a))<0 then-((1:Rat)/(a+a)) else ((1:Rat)/(a+a)))),((b*b)-(((4:Rat)*a)*c))⟩).b) ((64+(A+A+2)+2)+((B+B+2)+((64+A+2)+C+2)+2)+3)),(AV.q ((nrm ⟨(-(b/(a+a))),(-(if ((1:Rat)/(a+a))<0 then-((1:Rat)/(a+a)) else ((1:Rat)/(a+a)))),((b*b)-(((4:Rat)*a)*c))⟩).d) (2*((B+B+2)+((64+A+2)+C+2)+2)+3))],[(AV.q ((nrm ⟨(-(b/(a+a))),(if ((1:Rat)/(a+a))<0 then-((1:Rat)/(a+a)) else ((1:Rat)/(a+a))),((b*b)-(((4:Rat)*a)*c))⟩).a) ((B+(A+A+2)+2)+(64+(A+A+2)+2)+((B+B+2)+((64+A+2)+C+2)+2)+5)),(AV.q ((nrm ⟨(-(b/(a+a))),(if ((1:Rat)/(a+a))<0 then-((1:Rat)/(a+a)) else ((1:Rat)/(a+a))),((b*b)-(((4:Rat)*a)*c))⟩).b) ((64+(A+A+2)+2)+((B+B+2)+((64+A+2)+C+2)+2)+3)),(AV.q ((nrm ⟨(-(b/(a+a))),(if ((1:Rat)/(a+a))<0 then-((1:Rat)/(a+a)) else ((1:Rat)/(a+a))),((b*b)-(((4:Rat)*a)*c))⟩).d) (2*((B+B+2)+((64+A+2)+C+2)+2)+3))]]),(AV.int .i64 (0:Int))]) (.tup [.list 9 ((rootsS a b c).map (unSd (5*A+4*B+2*C+300))),.i6 (if a=0/\b=0/\c=0 then 10 else 0)])
       rw[show(if a=0/\b=0/\c=0 then (10:Int) else 0)=0 from if_neg (fun h=>q2 _ h1 h.1),show rootsS a b c= [nrm ⟨-(b/(a+a)),-(if 1/(a+a)<0 then-(1/(a+a)) else 1/(a+a)),b*b-4*a*c⟩,nrm ⟨-(b/(a+a)),if 1/(a+a)<0 then-(1/(a+a)) else 1/(a+a),b*b-4*a*c⟩] by unfold rootsS;rw[if_neg (q2 _ h1),if_neg (q4 _ h2),if_neg (q2 _ h3)]];exact Ref.tup2 (Ref.list2 (RefC.cons qe (RefC.cons qe qe)) (RefC.cons qe (RefC.cons qe qe))) rr rfl rfl rfl rfl
def sgnS (a b d:Rat):Int:=if 0<=Int.sign a.num*(Int.sign b.num*Int.sign d.num) then (if Int.sign a.num≠0 then Int.sign a.num else Int.sign b.num*Int.sign d.num) else Int.sign a.num*cmpQ (a*a) (b*b*d)
theorem sign_b (n:Int): -1<=Int.sign n/\Int.sign n<=1:=by
 rcases Int.lt_trichotomy n 0 with h | h | h
 · rw[Int.sign_eq_neg_one_of_neg h];omega
 · rw[h];decide
 · rw[Int.sign_eq_one_of_pos h];omega
theorem mul_b {x y:Int} (hx: -1<=x/\x<=1) (hy: -1<=y/\y<=1): -1<=x*y/\x*y<=1:=by
 have:x= -1\/x=0\/x=1:=by omega
 rcases this with rfl | rfl | rfl <;> omega
theorem cmpQ_b (x y:Rat): -1<=cmpQ x y/\cmpQ x y<=1:=by unfold cmpQ;split <;> (try split) <;> omega
theorem sgnS_b (a b d:Rat): -1<=sgnS a b d/\sgnS a b d<=1:=by
 unfold sgnS;have h1:=sign_b a.num;have h2:=mul_b (sign_b b.num) (sign_b d.num)
 split
 · split
   · exact h1
   · exact h2
 · exact mul_b h1 (cmpQ_b _ _)
def k271:KF
 | [.agg [.q a A,.q b B,.q d D]]=>some (.int .i64 (sgnS a b d),[2*A+2*B+D+600<=LIM])
 | _=>none
theorem a271:Ctr 271 k271:=by
 refine ctr Tryz.f271 fun _ _ _ S w0 h ho=> ?_
 unfold k271 at h;split at h <;> cases h;rename_i a A b B d D;have o1:=ho.one;have L:=limE;have K:=((kn.cons a104).cons a60).cons a29;have s1:=sign_b a.num;have s2:=mul_b (sign_b b.num) (sign_b d.num);have s3:=mul_b s1 s2;have s4:=mul_b s1 (cmpQ_b (a*a) (b*b*d))
 by_cases h1:(0:Int)<=((Int.sign a.num)*((Int.sign b.num)*(Int.sign d.num)))
 · by_cases h2:(Int.sign a.num)=(0:Int)
   · exact rF K [(14,.i6 ((Int.sign b.num)*(Int.sign d.num))),(17,.i6 ((Int.sign a.num)*((Int.sign b.num)*(Int.sign d.num)))),(18,tt),(20,ff)] (.a4 (wI ((Int.sign b.num)*(Int.sign d.num)) ((Int.sign b.num)*(Int.sign d.num))) (wI ((Int.sign a.num)*((Int.sign b.num)*(Int.sign d.num))) ((Int.sign a.num)*((Int.sign b.num)*(Int.sign d.num)))) (iT h1) (jF h2)) (V:=.i6 ((Int.sign b.num)*(Int.sign d.num))) (Ref.int (by unfold sgnS;rw[if_pos h1,if_neg (fun h=>h h2)]))
   · exact rF K [(14,.i6 ((Int.sign b.num)*(Int.sign d.num))),(17,.i6 ((Int.sign a.num)*((Int.sign b.num)*(Int.sign d.num)))),(18,tt),(20,tt)] (.a4 (wI ((Int.sign b.num)*(Int.sign d.num)) ((Int.sign b.num)*(Int.sign d.num))) (wI ((Int.sign a.num)*((Int.sign b.num)*(Int.sign d.num))) ((Int.sign a.num)*((Int.sign b.num)*(Int.sign d.num)))) (iT h1) (jT h2)) (V:=.i6 (Int.sign a.num)) (Ref.int (by unfold sgnS;rw[if_pos h1,if_pos h2]))
 · exact rF K [(14,.i6 ((Int.sign b.num)*(Int.sign d.num))),(17,.i6 ((Int.sign a.num)*((Int.sign b.num)*(Int.sign d.num)))),(18,ff),(38,.i6 ((Int.sign a.num)*(cmpQ (a*a) ((b*b)*d))))] (.c6 (wI ((Int.sign b.num)*(Int.sign d.num)) ((Int.sign b.num)*(Int.sign d.num))) (wI ((Int.sign a.num)*((Int.sign b.num)*(Int.sign d.num))) ((Int.sign a.num)*((Int.sign b.num)*(Int.sign d.num)))) (iF h1) (om (A+A+200<=LIM)) (om (B+B+200<=LIM)) (om ((B+B+2)+D+200<=LIM)) (.a2 (om ((A+A+2)+((B+B+2)+D+2)+200<=LIM)) (wI ((Int.sign a.num)*(cmpQ (a*a) ((b*b)*d))) ((Int.sign a.num)*(cmpQ (a*a) ((b*b)*d)))))) (V:=.i6 ((Int.sign a.num)*(cmpQ (a*a) ((b*b)*d)))) (Ref.int (by unfold sgnS;rw[if_neg h1]))
def k270:KF
 | [.agg [.q a A,.q b B,.q d D]]=>some (.tup [.int .i64 (if Int.sign d.num<0 then 0 else sgnS a b d),.int .i64 (if Int.sign d.num<0 then 8 else 0)],[2*A+2*B+D+600<=LIM])
 | _=>none
theorem a270:Ctr 270 k270:=by
 refine ctr Tryz.f270 fun _ _ _ S w0 h ho=> ?_
 unfold k270 at h;split at h <;> cases h;rename_i a A b B d D;have o1:=ho.one;have K:=(kn.cons a271).cons a60
 by_cases h1:(Int.sign d.num)<(0:Int)
 · refine rF K [(7,tt)] (.a1 (iT h1)) (V:=.tup [.i6 (0:Int),.i6 (8:Int)]) ?_
   simp only[if_pos h1];exact rr
 · refine rF K [(7,ff)] (.a2 (iF h1) o1) (V:=.tup [.i6 (sgnS a b d),.i6 (0:Int)]) ?_
   simp only[if_neg h1];exact rr
def k215:KF
 | [.agg [.q d D],.agg [.q a A,.q b B]]=>some (.bool (decide ((if Int.sign d.num<0 then 0 else sgnS a b d)=0)),[2*A+2*B+D+600<=LIM])
 | _=>none
theorem a215:Ctr 215 k215:=by
 refine ctr Tryz.f215 fun _ _ _ S w0 h ho=> ?_
 unfold k215 at h;split at h <;> cases h;rename_i d D a A b B;have o1:=ho.one;have K:=kn.cons a270;exact rR K [] (.a1 o1)
def cmpS (a b d c e f:Rat):Int:=
 if sgnS (a-c) b d<Int.sign e.num*Int.sign f.num then-1 else if Int.sign e.num*Int.sign f.num<sgnS (a-c) b d then 1 else if sgnS (a-c) b d=0 then 0 else
   sgnS (a-c) b d*sgnS ((a-c)*(a-c)+b*b*d-e*e*f) ((a-c)*b+(a-c)*b) d
def k220:KF
 | [.agg [.q a A,.q b B,.q d D],.agg [.q c C,.q e E,.q f W]]=>some (.int .i64 (cmpS a b d c e f),[8*A+8*C+8*B+4*D+4*E+2*W+2000<=LIM])
 | _=>none
theorem a220:Ctr 220 k220:=by
 refine ctr Tryz.f220 fun _ _ _ S w0 h ho=> ?_
 unfold k220 at h;split at h <;> cases h;rename_i a A b B d D c C e E f W;have o1:=ho.one;have L:=limE;have K:=((((kn.cons a271).cons a60).cons a29).cons a28).cons a26;have s1:=sgnS_b (a-c) b d;have s2:=mul_b (sign_b e.num) (sign_b f.num);have s3:=mul_b s1 (sgnS_b ((a-c)*(a-c)+b*b*d-e*e*f) ((a-c)*b+(a-c)*b) d);have v0:2*(A+C+2)+2*B+D+600<=LIM:=by omega
 have v1:A+C+200<=LIM:=by omega
 by_cases h1:(sgnS (a-c) b d)<((Int.sign e.num)*(Int.sign f.num))
 · exact rF K [(23,.i6 ((Int.sign e.num)*(Int.sign f.num))),(24,tt)] (.a4 v1 v0 (wI ((Int.sign e.num)*(Int.sign f.num)) ((Int.sign e.num)*(Int.sign f.num))) (iT h1)) (V:=.i6 (-1:Int)) (Ref.int (by unfold cmpS;rw[if_pos h1]))
 · by_cases h2:((Int.sign e.num)*(Int.sign f.num))<(sgnS (a-c) b d)
   · exact rF K [(23,.i6 ((Int.sign e.num)*(Int.sign f.num))),(24,ff),(28,tt)] (.a5 v1 v0 (wI ((Int.sign e.num)*(Int.sign f.num)) ((Int.sign e.num)*(Int.sign f.num))) (iF h1) (iT h2)) (V:=.i6 (1:Int)) (Ref.int (by unfold cmpS;rw[if_neg h1,if_pos h2]))
   · by_cases h3:(sgnS (a-c) b d)=(0:Int)
     · exact rF K [(23,.i6 ((Int.sign e.num)*(Int.sign f.num))),(24,ff),(28,ff),(32,tt)] (.a6 v1 v0 (wI ((Int.sign e.num)*(Int.sign f.num)) ((Int.sign e.num)*(Int.sign f.num))) (iF h1) (iF h2) (iT h3)) (V:=.i6 (0:Int)) (Ref.int (by unfold cmpS;rw[if_neg h1,if_neg h2,if_pos h3]))
     · exact rF K [(23,.i6 ((Int.sign e.num)*(Int.sign f.num))),(24,ff),(28,ff),(32,ff),(72,.i6 ((sgnS (a-c) b d)*(sgnS ((((a-c)*(a-c))+((b*b)*d))-((e*e)*f)) (((a-c)*b)+((a-c)*b)) d)))] (.c6 v1 v0 (wI ((Int.sign e.num)*(Int.sign f.num)) ((Int.sign e.num)*(Int.sign f.num))) (iF h1) (iF h2) (iF h3) (.c6 (om ((A+C+2)+B+200<=LIM)) (om ((A+C+2)+(A+C+2)+200<=LIM)) (om (B+B+200<=LIM)) (om ((B+B+2)+D+200<=LIM)) (om (((A+C+2)+(A+C+2)+2)+((B+B+2)+D+2)+200<=LIM)) (om (E+E+200<=LIM)) (.a5 (om ((E+E+2)+W+200<=LIM)) (om ((((A+C+2)+(A+C+2)+2)+((B+B+2)+D+2)+2)+((E+E+2)+W+2)+200<=LIM)) (om (((A+C+2)+B+2)+((A+C+2)+B+2)+200<=LIM)) (om (2*((((A+C+2)+(A+C+2)+2)+((B+B+2)+D+2)+2)+((E+E+2)+W+2)+2)+2*(((A+C+2)+B+2)+((A+C+2)+B+2)+2)+D+600<=LIM)) (wI ((sgnS (a-c) b d)*(sgnS ((((a-c)*(a-c))+((b*b)*d))-((e*e)*f)) (((a-c)*b)+((a-c)*b)) d)) ((sgnS (a-c) b d)*(sgnS ((((a-c)*(a-c))+((b*b)*d))-((e*e)*f)) (((a-c)*b)+((a-c)*b)) d)))))) (V:=.i6 ((sgnS (a-c) b d)*(sgnS ((((a-c)*(a-c))+((b*b)*d))-((e*e)*f)) (((a-c)*b)+((a-c)*b)) d))) (Ref.int (by unfold cmpS;rw[if_neg h1,if_neg h2,if_neg h3]))
def cmpX (d f:Rat):Int:=if Int.sign d.num<0\/Int.sign f.num<0 then 8 else 0
def cmpC (a b d c e f:Rat):Int:=if Int.sign d.num<0\/Int.sign f.num<0 then 0 else cmpS a b d c e f
def k132:KF
 | [.agg [.q a A,.q b B,.q d D],.agg [.q c C,.q e E,.q f W]]=>some (.tup [.int .i64 (cmpC a b d c e f),.int .i64 (cmpX d f)],[8*A+8*C+8*B+4*D+4*E+2*W+2000<=LIM])
 | _=>none
theorem a132:Ctr 132 k132:=by
 refine ctr Tryz.f132 fun _ _ _ S w0 h ho=> ?_
 unfold k132 at h;split at h <;> cases h;rename_i a A b B d D c C e E f W;have o1:=ho.one;have K:=(kn.cons a220).cons a60
 by_cases h1:(Int.sign d.num)<(0:Int)
 · refine rF K [(10,tt)] (.a1 (iT h1)) (V:=.tup [.i6 (0:Int),.i6 (8:Int)]) ?_
   simp only[cmpC,cmpX,if_pos (Or.inl h1)];exact rr
 · by_cases h2:(Int.sign f.num)<(0:Int)
   · refine rF K [(10,ff),(15,tt)] (.a2 (iF h1) (iT h2)) (V:=.tup [.i6 (0:Int),.i6 (8:Int)]) ?_
     simp only[cmpC,cmpX,if_pos (Or.inr h2)];exact rr
   · refine rF K [(10,ff),(15,ff)] (.a3 (iF h1) (iF h2) o1) (V:=.tup [.i6 (cmpS a b d c e f),.i6 (0:Int)]) ?_
     simp only[cmpC,cmpX,if_neg (not_or.2 ⟨h1,h2⟩)];exact rr
def withinB (lo hi:Rat) (t:Sd):Bool:=decide (0<=cmpC t.a t.b t.d lo 0 0/\cmpC t.a t.b t.d hi 0 0<=0)
def k218:KF
 | [.agg [.str nm,.int .i64 pr,.q bx B1,.q bz B2,.q ma B3,.q ie B4,.q cx B5,.q cz B6,.q lo B7,.q hi B8,.list 6 SH],.agg [.q a A,.q b B,.q d D]]=>some (.bool (withinB lo hi ⟨a,b,d⟩),[8*A+8*B7+8*B8+8*B+4*D+2000<=LIM])
 | _=>none
theorem a218:Ctr 218 k218:=by
 refine ctr Tryz.f218 fun _ _ _ S w0 h ho=> ?_
 unfold k218 at h;split at h <;> cases h;rename_i nm pr bx B1 bz B2 ma B3 ie B4 cx B5 cz B6 lo B7 hi B8 SH a A b B d D;have o1:=ho.one;have L:=limE;have K:=kn.cons a132;have v0:8*A+8*B7+8*B+4*D+4*0+2*0+2000<=LIM:=by omega
 have v1:8*A+8*B8+8*B+4*D+4*0+2*0+2000<=LIM:=by omega
 by_cases h1:(0:Int)<=(cmpC a b d lo 0 0)
 · exact rF K [(27,tt)] (.a3 v0 v1 (iT h1)) (V:=.bool (decide ((cmpC a b d hi 0 0)<=(0:Int)))) (Ref.bool (by unfold withinB;simp[h1]))
 · exact rF K [(27,ff)] (.a3 v0 v1 (iF h1)) (V:=.bool false) (Ref.bool (by unfold withinB;simp[h1]))
def KT122_ok:=((((((((((((((((((kn.cons a218).cons a217).cons a216).cons a215).cons a214).cons a213).cons a212).cons a211).cons a163).cons a131).cons a130).cons a128).cons a126).cons a125).cons a124).cons a60).cons a29).cons a28).cons a26
structure BendD where
 a:Sd
 b:Sd
 w:Bool
 deriving Inhabited
def unBend (S1 S2 S3 T:Nat) (y:BendD):List AV:=[.q y.a.a S1,.q y.a.b S2,.q y.a.d S3,.q y.b.a T,.q y.b.b T,.q y.b.d T,.bool y.w]
def kneeV (v x:PtD) (t:Sd):Vc:=vAdd ⟨⟨v.x,0⟩,⟨v.z,0⟩⟩ (fTurn t.d ⟨⟨x.x,0⟩,⟨x.z,0⟩⟩ ⟨t.a,t.b⟩)
def belowN (w:Vc) (d:PtD) (f:Rat) (t:Sd):Nm:=fAdd ⟨f,0⟩ (fAdd (fMul t.d w.x ⟨d.x,0⟩) (fMul t.d w.z ⟨d.z,0⟩))
def zeroF (d:Rat) (b:Nm):Prop:=(if Int.sign d.num<0 then 0 else sgnS b.a b.b d)=0
instance (d:Rat) (b:Nm):Decidable (zeroF d b):=by unfold zeroF;infer_instance
def surdF (d:Rat) (y:Nm):Sd:=if Int.sign d.num<0 then (⟨0,0,0⟩:Sd) else nrm ⟨y.a,y.b,d⟩
def hipS (w:Vc) (b:Nm) (d:PtD) (t:Sd):Sd:=surdF t.d (fDiv t.d (fSub (fMul t.d w.x ⟨d.z,0⟩) (fMul t.d w.z ⟨d.x,0⟩)) b)
def bendK (u v:BodyD) (w:Vc) (b:Nm) (d:PtD) (t:Sd):Option BendD:=
 if zeroF t.d b then none else some ⟨hipS w b d t,t,withinB u.low u.high (hipS w b d t)&&withinB v.low v.high t⟩
def dotP (a b:PtD):Rat:=a.x*b.x+a.z*b.z
def crossP (a b:PtD):Rat:=a.x*b.z-a.z*b.x
def bendOf (u v:BodyD) (x d:PtD) (t:Sd):Option BendD:=bendK u v (kneeV v.at_ x t) (belowN (kneeV v.at_ x t) d (dotP d d) t) d t
def kOf (v x d:PtD):Rat:=(dotP d d-dotP v v-dotP x x)*((Int.cast 1:Rat)/(Int.cast 2:Rat))
def rootsL (v x d:PtD):List Sd:=rootsS (kOf v x d+dotP v x) (crossP v x+crossP v x) (kOf v x d-dotP v x)
def rootsE (v x d:PtD):Int:=if kOf v x d+dotP v x=0/\crossP v x+crossP v x=0/\kOf v x d-dotP v x=0 then 10 else 0
def bendsS (u v:BodyD) (x d:PtD):List BendD×Bool:=
 if rootsE v.at_ x d=10 then ([],decide (dotP x x=0/\0<dotP v.at_ v.at_/\dotP d d+dotP v.at_ d=0))
 else if rootsL v.at_ x d≠ []/\dotP d d=0 then ([],false)
 else ((rootsL v.at_ x d).filterMap (bendOf u v x d),true)
theorem rootsS_len (a b c:Rat):(rootsS a b c).length<=2:=by
 unfold rootsS;split
 · split <;> simp
 · split
   · simp
   · split <;> simp
theorem filterMap_len {α β:Type} (f:α->Option β) (l:List α):(l.filterMap f).length<=l.length:=by
 induction l with
 | nil=>simp
 | cons a l ih=>
   rw[List.filterMap_cons]
   split <;> simp <;> omega
theorem filterMap_take {α β:Type} [Inhabited α] (f:α->Option β) {l:List α} {i:Nat} (h:i<l.length):(l.take (i+1)).filterMap f=(l.take i).filterMap f++(f (l.getD i default)).toList:=by
 have e:l.take (i+1)=l.take i++ [l.getD i default]:=by
   rw[List.take_add_one,List.getElem?_eq_getElem h];simp[gdE,h]
 rw[e,List.filterMap_append];generalize l.getD i default=y;cases hf:f y <;> simp[List.filterMap_cons,hf]
noncomputable abbrev T122:List Item:=[.code (nav [1,1,1,1,1,1,1,1,0,1,0,0] (bodyOf Tryz.f122)),.inLoop (nav [1,1,1,1,1,1,1,1,0,1,0,0] (bodyOf Tryz.f122)),.inBlock 0,.code (nav [1,1,1,1,1,1,1,1,1] (bodyOf Tryz.f122))]
section
variable {S:Nat->Prop} {w0:World} {h:FrameD} {u v:BodyD} {us vs:List (List AV)} {x d:PtD} {H1 H2 H3 H4 B C X Z:Nat} {L:List Sd} {T FA W BE S1 S2 S3:Nat} {f:Rat}
abbrev st122 (h:FrameD) (u v:BodyD) (us vs:List (List AV)) (x d:PtD) (H1 H2 H3 H4 B C X Z:Nat) (L:List Sd) (T FA:Nat) (f:Rat) (i:Nat) (o:AV):List AV:=slots 171 [(2,.cptr [.q h.at_.x H1,.q h.at_.z H2,.q h.c H3,.q h.s H4,.str u.name,.i6 u.par,.q u.at_.x 300,.q u.at_.z 300,.q u.ma 300,.q u.inr 300,.q u.c.x 300,.q u.c.z 300,.q u.low 300,.q u.high 300,.list 6 us,.str v.name,.i6 v.par,.q v.at_.x 300,.q v.at_.z 300,.q v.ma 300,.q v.inr 300,.q v.c.x 300,.q v.c.z 300,.q v.low 300,.q v.high 300,.list 6 vs,.q x.x B,.q x.z C] 0),(3,.cptr [.q d.x X,.q d.z Z] 0),(6,.cptr [.q v.at_.x 300,.q v.at_.z 300] 0),(7,.cptr [.q x.x B,.q x.z C] 0),(8,.cptr [.q f FA] 0),(15,o),(85,.list 9 (L.map (unSd T))),(86,.i6 ((L.length:Nat):Int)),(87,.i6 ((i:Nat):Int))]
abbrev res122 (S1 S2 S3 T:Nat) (A:List BendD):AV:=.tup [.list 19 (A.map (unBend S1 S2 S3 T)),.bool true]
def out122 (A:List BendD):AV:=if A= [] then .nil else .own 0 19 0 A.length
def oh122 (S1 S2 S3 T:Nat) (A:List BendD):List (Option ABlk):=if A= [] then [] else [some ⟨110,19,true,A.map (unBend S1 S2 S3 T),none⟩]
theorem end122 (A:List BendD) (i:Nat) (hi:i=L.length):GF 122 S w0 (res122 S1 S2 S3 T A) T122 ⟨st122 h u v us vs x d H1 H2 H3 H4 B C X Z L T FA f i (out122 A),oh122 S1 S2 S3 T A⟩:=by
 have hn:¬ (((i:Nat):Int)<((L.length:Nat):Int)):=by omega
 by_cases hA:A= []
 · subst hA
   refine rF KT122_ok [(88,ff)] (.a1 (iF hn)) (V:=.tup [.nil,.bool true]) (Ref.tup2 Ref.nilL rr rfl rfl rfl rfl)
 · have e1:out122 A= .own 0 19 0 A.length:=if_neg hA
   have e2:oh122 S1 S2 S3 T A= [some ⟨110,19,true,A.map (unBend S1 S2 S3 T),none⟩]:=if_neg hA;rw[e1,e2];refine gN KT122_ok [4,5] [(88,ff)] (.a1 (iF hn)) (t:=[.code .ret]) (σ:=slots 171 [(4,.own 0 19 0 A.length),(5,.bool true)]) (h:=[some ⟨110,19,true,(A.map (unBend S1 S2 S3 T)),none⟩]) ?_
   refine Good.freezeD (b:=⟨110,19,true,A.map (unBend S1 S2 S3 T),none⟩) 0 (by rfl) (by rfl) (.oe (.a1 (show 0+A.length<=(A.map (unBend S1 S2 S3 T)).length by simp))) .on ?_;exact gE [.list 19 (((A.map (unBend S1 S2 S3 T)).drop 0).take A.length),.bool true] (Ref.eq (by rw[List.drop_zero,tkE (by simp)];rfl))
abbrev c122_0 (h:FrameD) (H1:Nat) (H2:Nat) (H3:Nat) (H4:Nat) (u:BodyD) (us:List (List AV)) (v:BodyD) (vs:List (List AV)) (x:PtD) (B:Nat) (C:Nat):List AV:=[.q h.at_.x H1,.q h.at_.z H2,.q h.c H3,.q h.s H4,.str u.name,.i6 u.par,.q u.at_.x 300,.q u.at_.z 300,.q u.ma 300,.q u.inr 300,.q u.c.x 300,.q u.c.z 300,.q u.low 300,.q u.high 300,.list 6 us,.str v.name,.i6 v.par,.q v.at_.x 300,.q v.at_.z 300,.q v.ma 300,.q v.inr 300,.q v.c.x 300,.q v.c.z 300,.q v.low 300,.q v.high 300,.list 6 vs,.q x.x B,.q x.z C]
abbrev c122_1 (w:Vc) (W:Nat):List AV:=[.q w.x.a W,.q w.x.b W,.q w.z.a W,.q w.z.b W]
abbrev c122_2 (u:BodyD) (s:Sd) (v:BodyD) (t:Sd):AV:=(.bool (withinB u.low u.high ⟨s.a,s.b,s.d⟩&&withinB v.low v.high ⟨t.a,t.b,t.d⟩))
abbrev c122_4 (A:List BendD) (S1:Nat) (S2:Nat) (S3:Nat) (T:Nat) (s:Sd) (t:Sd) (u:BodyD) (v:BodyD):ABlk:=⟨110,19,true,((A.map (unBend S1 S2 S3 T))++ [[(AV.q s.a S1),(AV.q s.b S2),(AV.q s.d S3),(AV.q t.a T),(AV.q t.b T),(AV.q t.d T),(AV.bool (withinB u.low u.high ⟨s.a,s.b,s.d⟩&&withinB v.low v.high ⟨t.a,t.b,t.d⟩))]]),none⟩
abbrev c122_5 (u:BodyD) (s:Sd):AV:=(.bool (withinB u.low u.high ⟨s.a,s.b,s.d⟩))
set_option maxHeartbeats 2000000 in
theorem loop122 (hf:¬ Int.sign f.num=0) (hfar:f=dotP d d) (hLen:L.length<=2) (hFA:FA=2*X+2*Z+6) (hW:W=170*T+B+C+1804) (hBE:BE=FA+4*W+X+Z+2*T+24) (hS1:S1=2*(2*(4*W+X+Z+2*T+18)+6*BE+2*T+18)+T+5) (hS2:S2=(2*(4*W+X+Z+2*T+18)+6*BE+2*T+18)+T+3) (hS3:S3=2*T+3)
   (hL:8*S1+8*S2+4*S3+400*T+20000<=LIM):∀ (j i:Nat),i+j=L.length->∀ A:List BendD,A=(L.take i).filterMap (bendOf u v x d)->
   GF 122 S w0 (res122 S1 S2 S3 T (L.filterMap (bendOf u v x d))) T122 ⟨st122 h u v us vs x d H1 H2 H3 H4 B C X Z L T FA f i (out122 A),oh122 S1 S2 S3 T A⟩:=by
 intro j
 induction j with
 | zero=>
   intro i hij A hA;have hi:i=L.length:=by omega
   have:A=L.filterMap (bendOf u v x d):=by rw[hA,hi,tkE (rl _)]
   rw[<- this];exact end122 A i hi
 | succ j ih =>
   intro i hij A hA;have hi:((i:Nat):Int)<((L.length:Nat):Int):=by omega
   have ih:=fun i (h:i+j=L.length)=>ih i h
   obtain⟨t,ht⟩:∃ t,t=L.getD i default:=⟨_,rfl⟩;obtain⟨w,hw⟩:∃ w,w=kneeV v.at_ x t:=⟨_,rfl⟩;obtain⟨b,hb⟩:∃ b,b=belowN w d f t:=⟨_,rfl⟩;obtain⟨s,hs⟩:∃ s,s=hipS w b d t:=⟨_,rfl⟩
   have hcm:Ref (.cptr ((L.map (unSd T)).getD i []) 0) (.cptr (unSd T t) 0):=by
     rw[ht];exact Ref.cmap (f:=unSd T) (by omega)
   have hnx:=filterMap_take (bendOf u v x d) (l:=L) (i:=i) (by omega);rw[<- ht] at hnx;have hbo:bendOf u v x d t=bendK u v w b d t:=by rw[hb,hw,hfar];rfl
   have hno:((if Int.sign t.d.num<0 then 0 else sgnS b.a b.b t.d)=0)->bendOf u v x d t=none:=fun h=>by rw[hbo];exact if_pos h
   have hso:(¬ (if Int.sign t.d.num<0 then 0 else sgnS b.a b.b t.d)=0)->bendOf u v x d t=some ⟨s,t,withinB u.low u.high s&&withinB v.low v.high t⟩:=fun h=>by rw[hbo,hs];exact if_neg h
   have hAl:A.length<=2:=by
     rw[hA]
     have:=filterMap_len (bendOf u v x d) (L.take i);have:(L.take i).length<=L.length:=by simp;omega
     omega
   have v0:Ref (.agg [.q ((vAdd ⟨⟨v.at_.x,0⟩,⟨v.at_.z,0⟩⟩ ⟨⟨((fTurn t.d ⟨⟨x.x,0⟩,⟨x.z,0⟩⟩ ⟨t.a,t.b⟩).x.a),((fTurn t.d ⟨⟨x.x,0⟩,⟨x.z,0⟩⟩ ⟨t.a,t.b⟩).x.b)⟩,⟨((fTurn t.d ⟨⟨x.x,0⟩,⟨x.z,0⟩⟩ ⟨t.a,t.b⟩).z.a),((fTurn t.d ⟨⟨x.x,0⟩,⟨x.z,0⟩⟩ ⟨t.a,t.b⟩).z.b)⟩⟩).x.a) (300+(64*T+64*T+42*T+B+0+C+0+1500)+2),.q ((vAdd ⟨⟨v.at_.x,0⟩,⟨v.at_.z,0⟩⟩ ⟨⟨((fTurn t.d ⟨⟨x.x,0⟩,⟨x.z,0⟩⟩ ⟨t.a,t.b⟩).x.a),((fTurn t.d ⟨⟨x.x,0⟩,⟨x.z,0⟩⟩ ⟨t.a,t.b⟩).x.b)⟩,⟨((fTurn t.d ⟨⟨x.x,0⟩,⟨x.z,0⟩⟩ ⟨t.a,t.b⟩).z.a),((fTurn t.d ⟨⟨x.x,0⟩,⟨x.z,0⟩⟩ ⟨t.a,t.b⟩).z.b)⟩⟩).x.b) (0+(64*T+64*T+42*T+B+0+C+0+1500)+2),.q ((vAdd ⟨⟨v.at_.x,0⟩,⟨v.at_.z,0⟩⟩ ⟨⟨((fTurn t.d ⟨⟨x.x,0⟩,⟨x.z,0⟩⟩ ⟨t.a,t.b⟩).x.a),((fTurn t.d ⟨⟨x.x,0⟩,⟨x.z,0⟩⟩ ⟨t.a,t.b⟩).x.b)⟩,⟨((fTurn t.d ⟨⟨x.x,0⟩,⟨x.z,0⟩⟩ ⟨t.a,t.b⟩).z.a),((fTurn t.d ⟨⟨x.x,0⟩,⟨x.z,0⟩⟩ ⟨t.a,t.b⟩).z.b)⟩⟩).z.a) (300+(64*T+64*T+42*T+B+0+C+0+1500)+2),.q ((vAdd ⟨⟨v.at_.x,0⟩,⟨v.at_.z,0⟩⟩ ⟨⟨((fTurn t.d ⟨⟨x.x,0⟩,⟨x.z,0⟩⟩ ⟨t.a,t.b⟩).x.a),((fTurn t.d ⟨⟨x.x,0⟩,⟨x.z,0⟩⟩ ⟨t.a,t.b⟩).x.b)⟩,⟨((fTurn t.d ⟨⟨x.x,0⟩,⟨x.z,0⟩⟩ ⟨t.a,t.b⟩).z.a),((fTurn t.d ⟨⟨x.x,0⟩,⟨x.z,0⟩⟩ ⟨t.a,t.b⟩).z.b)⟩⟩).z.b) (0+(64*T+64*T+42*T+B+0+C+0+1500)+2)]) (.agg (c122_1 w W)):=by rw[hw];exact Ref.agg (RefC.cons qe (RefC.cons qe (RefC.cons qe qe)))
   have v1:Ref (.agg [.q (((if Int.sign t.d.num<0 then (⟨0,0,0⟩:Sd) else nrm ⟨((fDiv t.d ⟨(((fMul t.d ⟨w.x.a,w.x.b⟩ ⟨d.z,0⟩).a)-((fMul t.d ⟨w.z.a,w.z.b⟩ ⟨d.x,0⟩).a)),(((fMul t.d ⟨w.x.a,w.x.b⟩ ⟨d.z,0⟩).b)-((fMul t.d ⟨w.z.a,w.z.b⟩ ⟨d.x,0⟩).b))⟩ ⟨b.a,b.b⟩).a),((fDiv t.d ⟨(((fMul t.d ⟨w.x.a,w.x.b⟩ ⟨d.z,0⟩).a)-((fMul t.d ⟨w.z.a,w.z.b⟩ ⟨d.x,0⟩).a)),(((fMul t.d ⟨w.x.a,w.x.b⟩ ⟨d.z,0⟩).b)-((fMul t.d ⟨w.z.a,w.z.b⟩ ⟨d.x,0⟩).b))⟩ ⟨b.a,b.b⟩).b),t.d⟩)).a) ((((W+W+Z+0+T+8)+(W+W+X+0+T+8)+2)+((W+W+Z+0+T+8)+(W+W+X+0+T+8)+2)+3*BE+3*BE+2*T+18)+(((W+W+Z+0+T+8)+(W+W+X+0+T+8)+2)+((W+W+Z+0+T+8)+(W+W+X+0+T+8)+2)+3*BE+3*BE+2*T+18)+T+5),.q (((if Int.sign t.d.num<0 then (⟨0,0,0⟩:Sd) else nrm ⟨((fDiv t.d ⟨(((fMul t.d ⟨w.x.a,w.x.b⟩ ⟨d.z,0⟩).a)-((fMul t.d ⟨w.z.a,w.z.b⟩ ⟨d.x,0⟩).a)),(((fMul t.d ⟨w.x.a,w.x.b⟩ ⟨d.z,0⟩).b)-((fMul t.d ⟨w.z.a,w.z.b⟩ ⟨d.x,0⟩).b))⟩ ⟨b.a,b.b⟩).a),((fDiv t.d ⟨(((fMul t.d ⟨w.x.a,w.x.b⟩ ⟨d.z,0⟩).a)-((fMul t.d ⟨w.z.a,w.z.b⟩ ⟨d.x,0⟩).a)),(((fMul t.d ⟨w.x.a,w.x.b⟩ ⟨d.z,0⟩).b)-((fMul t.d ⟨w.z.a,w.z.b⟩ ⟨d.x,0⟩).b))⟩ ⟨b.a,b.b⟩).b),t.d⟩)).b) ((((W+W+Z+0+T+8)+(W+W+X+0+T+8)+2)+((W+W+Z+0+T+8)+(W+W+X+0+T+8)+2)+3*BE+3*BE+2*T+18)+T+3),.q (((if Int.sign t.d.num<0 then (⟨0,0,0⟩:Sd) else nrm ⟨((fDiv t.d ⟨(((fMul t.d ⟨w.x.a,w.x.b⟩ ⟨d.z,0⟩).a)-((fMul t.d ⟨w.z.a,w.z.b⟩ ⟨d.x,0⟩).a)),(((fMul t.d ⟨w.x.a,w.x.b⟩ ⟨d.z,0⟩).b)-((fMul t.d ⟨w.z.a,w.z.b⟩ ⟨d.x,0⟩).b))⟩ ⟨b.a,b.b⟩).a),((fDiv t.d ⟨(((fMul t.d ⟨w.x.a,w.x.b⟩ ⟨d.z,0⟩).a)-((fMul t.d ⟨w.z.a,w.z.b⟩ ⟨d.x,0⟩).a)),(((fMul t.d ⟨w.x.a,w.x.b⟩ ⟨d.z,0⟩).b)-((fMul t.d ⟨w.z.a,w.z.b⟩ ⟨d.x,0⟩).b))⟩ ⟨b.a,b.b⟩).b),t.d⟩)).d) (2*T+3)]) (.agg [.q s.a S1,.q s.b S2,.q s.d S3]):=by rw[hs];exact Ref.agg (RefC.cons qe (RefC.cons qe qe))
   have v2:Ref (.agg [.q (f+(((fMul t.d ⟨w.x.a,w.x.b⟩ ⟨d.x,0⟩).a)+((fMul t.d ⟨w.z.a,w.z.b⟩ ⟨d.z,0⟩).a))) (FA+((W+W+X+0+T+8)+(W+W+Z+0+T+8)+2)+2),.q (0+(((fMul t.d ⟨w.x.a,w.x.b⟩ ⟨d.x,0⟩).b)+((fMul t.d ⟨w.z.a,w.z.b⟩ ⟨d.z,0⟩).b))) (0+((W+W+X+0+T+8)+(W+W+Z+0+T+8)+2)+2)]) (.agg [.q b.a BE,.q b.b BE]):=by rw[hb];exact Ref.agg (RefC.cons qe qe)
   have v3:300+0+300+0+(64*T+64*T+42*T+B+0+C+0+1500)+(64*T+64*T+42*T+B+0+C+0+1500)+(64*T+64*T+42*T+B+0+C+0+1500)+(64*T+64*T+42*T+B+0+C+0+1500)+T+600<=LIM:=by omega
   have v4:(((W+W+Z+0+T+8)+(W+W+X+0+T+8)+2)+((W+W+Z+0+T+8)+(W+W+X+0+T+8)+2)+3*BE+3*BE+2*T+18)+(((W+W+Z+0+T+8)+(W+W+X+0+T+8)+2)+((W+W+Z+0+T+8)+(W+W+X+0+T+8)+2)+3*BE+3*BE+2*T+18)+3*T+600<=LIM:=by omega
   have v5:FA+0+((W+W+X+0+T+8)+(W+W+Z+0+T+8)+2)+((W+W+X+0+T+8)+(W+W+Z+0+T+8)+2)+T+400<=LIM:=by omega
   have v6:(W+W+X+0+T+8)+(W+W+X+0+T+8)+(W+W+Z+0+T+8)+(W+W+Z+0+T+8)+T+400<=LIM:=by omega
   have v7:((W+W+Z+0+T+8)+(W+W+X+0+T+8)+2)+((W+W+Z+0+T+8)+(W+W+X+0+T+8)+2)+3*BE+3*BE+2*T+400<=LIM:=by omega
   have v8:128*T+128*T+90*T+2*B+2*0+2*C+2*0+8000<=LIM:=by omega
   have v9:(W+W+Z+0+T+8)+(W+W+Z+0+T+8)+(W+W+X+0+T+8)+(W+W+X+0+T+8)+T+400<=LIM:=by omega
   have v10:(i:Int)<((L.map (unSd T)).length:Int):=by rw[lmE];omega
   have v11:W+W+X+0+T+400<=LIM:=by omega
   have v12:W+W+Z+0+T+400<=LIM:=by omega
   have v13:2*BE+2*BE+T+600<=LIM:=by omega
   have v14:8*S1+8*300+8*300+8*S2+4*S3+2000<=LIM:=by omega
   have v15:8*T+8*300+8*300+8*T+4*T+2000<=LIM:=by omega
   by_cases hA0:A= []
   · subst hA0
     show Good Tryz.prog 122 S No w0 _ T122 ⟨st122 h u v us vs x d H1 H2 H3 H4 B C X Z L T FA f i .nil,[]⟩
     by_cases c1:((i:Nat):Int)<((L.length:Nat):Int)
     · by_cases c2:(Int.sign f.num)=(0:Int)
       · exact absurd c2 hf
       · by_cases c3:(if Int.sign t.d.num<0 then 0 else sgnS b.a b.b t.d)=0
         · exact gR KT122_ok none [2,3,4,5,6,7,8,15,85,86,87] [] [(88,tt),(89,.cptr (unSd T t) 0),(93,ff),(110,.agg (c122_1 w W)),(130,.agg [.q b.a BE,.q b.b BE]),(133,tt),(169,.i6 ((i+1:Nat):Int))] (.c6 (iT c1) hcm (nn i) v10 (iF c2) v8 (.c6 v0 v3 v11 v12 v6 v2 (.a4 v5 (iT c3) v13 (wI ((i:Int)+(1:Int)) ((i+1:Nat):Int) (by first | omega | decide | (unfold big;omega)))))) (ih (i+1) (by omega) [] (by rw[hnx,hno c3, <- hA];rfl))
         · rcases Bool.eq_false_or_eq_true (withinB u.low u.high ⟨s.a,s.b,s.d⟩) with c4 | c4
           · refine gR KT122_ok none [2,3,4,5,6,7,8,15,85,86,87] [26] [(88,tt),(89,.cptr (unSd T t) 0),(93,ff),(110,.agg (c122_1 w W)),(130,.agg [.q b.a BE,.q b.b BE]),(133,ff),(152,.agg [.q s.a S1,.q s.b S2,.q s.d S3]),(160,tt),(165,.bool (withinB u.low u.high ⟨s.a,s.b,s.d⟩&&withinB v.low v.high ⟨t.a,t.b,t.d⟩)),(169,.i6 ((i+1:Nat):Int))] (.c6 (iT c1) hcm (nn i) v10 (iF c2) v8 (.c6 v0 v3 v11 v12 v6 v2 (.c6 v5 (iF c3) v13 v12 v11 v9 (.c6 v7 v1 v4 v14 (show Ref (c122_5 u s) (.bool true) from Ref.bool c4) v15 (.a6 (show Ref (.bool (withinB v.low v.high ⟨t.a,t.b,t.d⟩)) (c122_2 u s v t) from Ref.bool (by rw[c4];simp)) r1 (dc (0<1)) (om (1*344<=140737488355328)) (dc (1<=big)) (wI ((i:Int)+(1:Int)) ((i+1:Nat):Int) (by first | omega | decide | (unfold big;omega)))))))) (t:=T122) (σ:=slots 171 [(2,.cptr (c122_0 h H1 H2 H3 H4 u us v vs x B C) 0),(3,.cptr [.q d.x X,.q d.z Z] 0),(6,.cptr [.q v.at_.x 300,.q v.at_.z 300] 0),(7,.cptr [.q x.x B,.q x.z C] 0),(8,.cptr [.q f FA] 0),(15,.own 0 19 0 1),(85,.list 9 (L.map (unSd T))),(86,.i6 (L.length:Int)),(87,.i6 ((i+1:Nat):Int))]) (h:=[some ⟨110,19,true,[[.q s.a S1,.q s.b S2,.q s.d S3,.q t.a T,.q t.b T,.q t.d T,.bool (withinB u.low u.high ⟨s.a,s.b,s.d⟩&&withinB v.low v.high ⟨t.a,t.b,t.d⟩)]],none⟩]) ?_
             have hA2:([]:List BendD)++ [⟨s,t,withinB u.low u.high s&&withinB v.low v.high t⟩]=(L.take (i+1)).filterMap (bendOf u v x d):=by rw[hnx,hso c3, <- hA];rfl
             have:=ih (i+1) (by omega) _ hA2;exact this
           · refine gR KT122_ok none [2,3,4,5,6,7,8,15,85,86,87] [26] [(88,tt),(89,.cptr (unSd T t) 0),(93,ff),(110,.agg (c122_1 w W)),(130,.agg [.q b.a BE,.q b.b BE]),(133,ff),(152,.agg [.q s.a S1,.q s.b S2,.q s.d S3]),(160,ff),(165,.bool (withinB u.low u.high ⟨s.a,s.b,s.d⟩&&withinB v.low v.high ⟨t.a,t.b,t.d⟩)),(169,.i6 ((i+1:Nat):Int))] (.c6 (iT c1) hcm (nn i) v10 (iF c2) v8 (.c6 v0 v3 v11 v12 v6 v2 (.c6 v5 (iF c3) v13 v12 v11 v9 (.c6 v7 v1 v4 v14 (show Ref (c122_5 u s) (.bool false) from Ref.bool c4) (show Ref (.bool false) (c122_2 u s v t) from Ref.bool (by rw[c4];simp)) (.a5 r1 (dc (0<1)) (om (1*344<=140737488355328)) (dc (1<=big)) (wI ((i:Int)+(1:Int)) ((i+1:Nat):Int) (by first | omega | decide | (unfold big;omega)))))))) (t:=T122) (σ:=slots 171 [(2,.cptr (c122_0 h H1 H2 H3 H4 u us v vs x B C) 0),(3,.cptr [.q d.x X,.q d.z Z] 0),(6,.cptr [.q v.at_.x 300,.q v.at_.z 300] 0),(7,.cptr [.q x.x B,.q x.z C] 0),(8,.cptr [.q f FA] 0),(15,.own 0 19 0 1),(85,.list 9 (L.map (unSd T))),(86,.i6 (L.length:Int)),(87,.i6 ((i+1:Nat):Int))]) (h:=[some ⟨110,19,true,[[.q s.a S1,.q s.b S2,.q s.d S3,.q t.a T,.q t.b T,.q t.d T,.bool (withinB u.low u.high ⟨s.a,s.b,s.d⟩&&withinB v.low v.high ⟨t.a,t.b,t.d⟩)]],none⟩]) ?_
             have hA2:([]:List BendD)++ [⟨s,t,withinB u.low u.high s&&withinB v.low v.high t⟩]=(L.take (i+1)).filterMap (bendOf u v x d):=by rw[hnx,hso c3, <- hA];rfl
             have:=ih (i+1) (by omega) _ hA2;exact this
     · exact absurd hi c1
   · have e1 :out122 A= .own 0 19 0 A.length:=if_neg hA0
     have e2:oh122 S1 S2 S3 T A= [some ⟨110,19,true,A.map (unBend S1 S2 S3 T),none⟩]:=if_neg hA0;rw[e1,e2]
     by_cases c1:((i:Nat):Int)<((L.length:Nat):Int)
     · by_cases c2:(Int.sign f.num)=(0:Int)
       · exact absurd c2 hf
       · by_cases c3:(if Int.sign t.d.num<0 then 0 else sgnS b.a b.b t.d)=0
         · refine gR KT122_ok none [2,3,4,5,6,7,8,15,85,86,87] [0] [(88,tt),(89,.cptr (unSd T t) 0),(93,ff),(110,.agg (c122_1 w W)),(130,.agg [.q b.a BE,.q b.b BE]),(133,tt),(169,.i6 ((i+1:Nat):Int))] (.c6 (iT c1) hcm (nn i) v10 (iF c2) v8 (.c6 v0 v3 v11 v12 v6 v2 (.a4 v5 (iT c3) v13 (wI ((i:Int)+(1:Int)) ((i+1:Nat):Int) (by first | omega | decide | (unfold big;omega)))))) (t:=T122) (σ:=slots 171 [(2,.cptr (c122_0 h H1 H2 H3 H4 u us v vs x B C) 0),(3,.cptr [.q d.x X,.q d.z Z] 0),(6,.cptr [.q v.at_.x 300,.q v.at_.z 300] 0),(7,.cptr [.q x.x B,.q x.z C] 0),(8,.cptr [.q f FA] 0),(15,.own 0 19 0 A.length),(85,.list 9 (L.map (unSd T))),(86,.i6 (L.length:Int)),(87,.i6 ((i+1:Nat):Int))]) (h:=[some ⟨110,19,true,(A.map (unBend S1 S2 S3 T)),none⟩]) ?_
           have:=ih (i+1) (by omega) A (by rw[hnx,hno c3];simp[hA]);rw[e1,e2] at this;exact this
         · have v16:A.length=(A.map (unBend S1 S2 S3 T)).length:=by simp
           have v17:(A.length+1)*344<=140737488355328:=by omega
           have v18:A.length+1<=big:=by(unfold big;omega)
           rcases Bool.eq_false_or_eq_true (withinB u.low u.high ⟨s.a,s.b,s.d⟩) with c4 | c4
           · refine gR KT122_ok none [2,3,4,5,6,7,8,15,85,86,87] [27] [(88,tt),(89,.cptr (unSd T t) 0),(93,ff),(110,.agg (c122_1 w W)),(130,.agg [.q b.a BE,.q b.b BE]),(133,ff),(152,.agg [.q s.a S1,.q s.b S2,.q s.d S3]),(160,tt),(165,.bool (withinB u.low u.high ⟨s.a,s.b,s.d⟩&&withinB v.low v.high ⟨t.a,t.b,t.d⟩)),(169,.i6 ((i+1:Nat):Int))] (.c6 (iT c1) hcm (nn i) v10 (iF c2) v8 (.c6 v0 v3 v11 v12 v6 v2 (.c6 v5 (iF c3) v13 v12 v11 v9 (.c6 v7 v1 v4 v14 (show Ref (c122_5 u s) (.bool true) from Ref.bool c4) v15 (.a6 (show Ref (.bool (withinB v.low v.high ⟨t.a,t.b,t.d⟩)) (c122_2 u s v t) from Ref.bool (by rw[c4];simp)) r1 v16 v17 v18 (wI ((i:Int)+(1:Int)) ((i+1:Nat):Int) (by first | omega | decide | (unfold big;omega)))))))) (t:=T122) (σ:=slots 171 [(2,.cptr (c122_0 h H1 H2 H3 H4 u us v vs x B C) 0),(3,.cptr [.q d.x X,.q d.z Z] 0),(6,.cptr [.q v.at_.x 300,.q v.at_.z 300] 0),(7,.cptr [.q x.x B,.q x.z C] 0),(8,.cptr [.q f FA] 0),(15,.own 0 19 0 (A.length+1)),(85,.list 9 (L.map (unSd T))),(86,.i6 (L.length:Int)),(87,.i6 ((i+1:Nat):Int))]) (h:=[some (c122_4 A S1 S2 S3 T s t u v)]) ?_
             have hA2:A++ [⟨s,t,withinB u.low u.high s&&withinB v.low v.high t⟩]=(L.take (i+1)).filterMap (bendOf u v x d):=by rw[hnx,hso c3, <- hA];rfl
             have:=ih (i+1) (by omega) _ hA2;have e3:out122 (A++ [⟨s,t,withinB u.low u.high s&&withinB v.low v.high t⟩])= .own 0 19 0 (A.length+1):=by unfold out122;rw[if_neg (by simp)];simp
             have e4:oh122 S1 S2 S3 T (A++ [⟨s,t,withinB u.low u.high s&&withinB v.low v.high t⟩])= [some ⟨110,19,true,A.map (unBend S1 S2 S3 T)++ [unBend S1 S2 S3 T ⟨s,t,withinB u.low u.high s&&withinB v.low v.high t⟩],none⟩]:=by unfold oh122;rw[if_neg (by simp)];simp
             rw[e3,e4] at this;exact this
           · refine gR KT122_ok none [2,3,4,5,6,7,8,15,85,86,87] [27] [(88,tt),(89,.cptr (unSd T t) 0),(93,ff),(110,.agg (c122_1 w W)),(130,.agg [.q b.a BE,.q b.b BE]),(133,ff),(152,.agg [.q s.a S1,.q s.b S2,.q s.d S3]),(160,ff),(165,.bool (withinB u.low u.high ⟨s.a,s.b,s.d⟩&&withinB v.low v.high ⟨t.a,t.b,t.d⟩)),(169,.i6 ((i+1:Nat):Int))] (.c6 (iT c1) hcm (nn i) v10 (iF c2) v8 (.c6 v0 v3 v11 v12 v6 v2 (.c6 v5 (iF c3) v13 v12 v11 v9 (.c6 v7 v1 v4 v14 (show Ref (c122_5 u s) (.bool false) from Ref.bool c4) (show Ref (.bool false) (c122_2 u s v t) from Ref.bool (by rw[c4];simp)) (.a5 r1 v16 v17 v18 (wI ((i:Int)+(1:Int)) ((i+1:Nat):Int) (by first | omega | decide | (unfold big;omega)))))))) (t:=T122) (σ:=slots 171 [(2,.cptr (c122_0 h H1 H2 H3 H4 u us v vs x B C) 0),(3,.cptr [.q d.x X,.q d.z Z] 0),(6,.cptr [.q v.at_.x 300,.q v.at_.z 300] 0),(7,.cptr [.q x.x B,.q x.z C] 0),(8,.cptr [.q f FA] 0),(15,.own 0 19 0 (A.length+1)),(85,.list 9 (L.map (unSd T))),(86,.i6 (L.length:Int)),(87,.i6 ((i+1:Nat):Int))]) (h:=[some (c122_4 A S1 S2 S3 T s t u v)]) ?_
             have hA2:A++ [⟨s,t,withinB u.low u.high s&&withinB v.low v.high t⟩]=(L.take (i+1)).filterMap (bendOf u v x d):=by rw[hnx,hso c3, <- hA];rfl
             have:=ih (i+1) (by omega) _ hA2;have e3:out122 (A++ [⟨s,t,withinB u.low u.high s&&withinB v.low v.high t⟩])= .own 0 19 0 (A.length+1):=by unfold out122;rw[if_neg (by simp)];simp
             have e4:oh122 S1 S2 S3 T (A++ [⟨s,t,withinB u.low u.high s&&withinB v.low v.high t⟩])= [some ⟨110,19,true,A.map (unBend S1 S2 S3 T)++ [unBend S1 S2 S3 T ⟨s,t,withinB u.low u.high s&&withinB v.low v.high t⟩],none⟩]:=by unfold oh122;rw[if_neg (by simp)];simp
             rw[e3,e4] at this;exact this
     · exact absurd hi c1
end
def bendsT (ulo uhi vlo vhi:Rat) (vat x d:PtD):List BendD×Bool:=bendsS { (default:BodyD) with low:=ulo,high:=uhi } { (default:BodyD) with low:=vlo,high:=vhi,at_:=vat } x d
def bT (B C X Z:Nat):Nat:=14*X+14*Z+29*B+29*C+18500
def bW (B C X Z:Nat):Nat:=170*bT B C X Z+B+C+1804
def bBE (B C X Z:Nat):Nat:=(2*X+2*Z+6)+4*bW B C X Z+X+Z+2*bT B C X Z+24
def bDV (B C X Z:Nat):Nat:=2*(4*bW B C X Z+X+Z+2*bT B C X Z+18)+6*bBE B C X Z+2*bT B C X Z+18
def bS1 (B C X Z:Nat):Nat:=2*bDV B C X Z+bT B C X Z+5
def bS2 (B C X Z:Nat):Nat:=bDV B C X Z+bT B C X Z+3
def bS3 (B C X Z:Nat):Nat:=2*bT B C X Z+3
def k122:KF
 | [.agg [.q hx H1,.q hz H2,.q hc H3,.q hs H4,.str un,.int .i64 up,.q ux 300,.q uz 300,.q uma 300,.q uin 300,.q ucx 300,.q ucz 300,.q ulo 300,.q uhi 300,.list 6 us,.str vn,.int .i64 vp,.q vx 300,.q vz 300,.q vma 300,.q vin 300,.q vcx 300,.q vcz 300,.q vlo 300,.q vhi 300,.list 6 vs,.q xx B,.q xz C],.agg [.q dx X,.q dz Z]]=>some (.tup [.list 19 ((bendsT ulo uhi vlo vhi ⟨vx,vz⟩ ⟨xx,xz⟩ ⟨dx,dz⟩).1.map (unBend (bS1 B C X Z) (bS2 B C X Z) (bS3 B C X Z) (bT B C X Z))),.bool (bendsT ulo uhi vlo vhi ⟨vx,vz⟩ ⟨xx,xz⟩ ⟨dx,dz⟩).2],[8*bS1 B C X Z+8*bS2 B C X Z+4*bS3 B C X Z+400*bT B C X Z+20000<=LIM])
 | _=>none
abbrev c122_6 (v:BodyD) (x:PtD) (d:PtD) (B:Nat) (C:Nat) (X:Nat) (Z:Nat):List AV:=[.list 9 ((rootsL v.at_ x d).map (unSd (bT B C X Z))),.i6 (rootsE v.at_ x d)]
abbrev c122_7 (d:PtD) (X:Nat) (Z:Nat):List AV:=[.q (d.x*d.x+d.z*d.z) (X+Z+X+Z+6)]
theorem a122:Ctr 122 k122:=fun args r ob h ho=>by
 unfold k122 at h
 split at h
 · rename_i hx H1 hz H2 hc H3 hs H4 un up ux uz uma uin ucx ucz ulo uhi us vn vp vx vz vma vin vcx vcz vlo vhi vs xx B xz C dx X dz Z
   cases h;have o1:8*bS1 B C X Z+8*bS2 B C X Z+4*bS3 B C X Z+400*bT B C X Z+20000<=LIM:=ho _ (by simp);clear ho;obtain⟨h,hh⟩:∃ h:FrameD,h=⟨⟨hx,hz⟩,hc,hs⟩:=⟨_,rfl⟩;obtain⟨u,hu⟩:∃ u:BodyD,u=⟨un,up,⟨ux,uz⟩,⟨ucx,ucz⟩,uma,uin,ulo,uhi,[]⟩:=⟨_,rfl⟩;obtain⟨v,hv⟩:∃ v:BodyD,v=⟨vn,vp,⟨vx,vz⟩,⟨vcx,vcz⟩,vma,vin,vlo,vhi,[]⟩:=⟨_,rfl⟩;obtain⟨x,hx'⟩:∃ x:PtD,x=⟨xx,xz⟩:=⟨_,rfl⟩;obtain⟨d,hd⟩:∃ d:PtD,d=⟨dx,dz⟩:=⟨_,rfl⟩;have hres:bendsT ulo uhi vlo vhi ⟨vx,vz⟩ ⟨xx,xz⟩ ⟨dx,dz⟩=bendsS u v x d:=by rw[hu,hv,hx',hd];rfl
   rw[hres];refine af Tryz.f122 fun S w0=> ?_
   refine Good.weak 171 [(0,.agg (c122_0 h H1 H2 H3 H4 u us v vs x B C)),(1,.agg [.q d.x X,.q d.z Z])] (by kernel_rfl) (.cons (Ref.eq (by rw[hh,hu,hv,hx'];rfl)) (.cons (Ref.eq (by rw[hd];rfl)) .nil)) ?_;have hT:bT B C X Z=14*X+14*Z+29*B+29*C+18500:=rfl;have hW:bW B C X Z=170*bT B C X Z+B+C+1804:=rfl;have hBE:bBE B C X Z=(2*X+2*Z+6)+4*bW B C X Z+X+Z+2*bT B C X Z+24:=rfl;have hDV:bDV B C X Z=2*(4*bW B C X Z+X+Z+2*bT B C X Z+18)+6*bBE B C X Z+2*bT B C X Z+18:=rfl;have h1:bS1 B C X Z=2*bDV B C X Z+bT B C X Z+5:=rfl;have h2:bS2 B C X Z=bDV B C X Z+bT B C X Z+3:=rfl;have h3:bS3 B C X Z=2*bT B C X Z+3:=rfl;have hroots:Ref (AV.tup [(AV.list 9 ((rootsS (((((d.x*d.x+d.z*d.z)-(v.at_.x*v.at_.x+v.at_.z*v.at_.z))-(x.x*x.x+x.z*x.z))*((Int.cast 1:Rat)/(Int.cast 2:Rat)))+(v.at_.x*x.x+v.at_.z*x.z)) ((v.at_.x*x.z-v.at_.z*x.x)+(v.at_.x*x.z-v.at_.z*x.x)) (((((d.x*d.x+d.z*d.z)-(v.at_.x*v.at_.x+v.at_.z*v.at_.z))-(x.x*x.x+x.z*x.z))*((Int.cast 1:Rat)/(Int.cast 2:Rat)))-(v.at_.x*x.x+v.at_.z*x.z))).map (unSd (5*(((((X+Z+X+Z+6)+(300+300+300+300+6)+2)+(B+C+B+C+6)+2)+64+2)+(300+300+B+C+6)+2)+4*((300+300+B+C+6)+(300+300+B+C+6)+2)+2*(((((X+Z+X+Z+6)+(300+300+300+300+6)+2)+(B+C+B+C+6)+2)+64+2)+(300+300+B+C+6)+2)+300)))),(AV.int .i64 (if (((((d.x*d.x+d.z*d.z)-(v.at_.x*v.at_.x+v.at_.z*v.at_.z))-(x.x*x.x+x.z*x.z))*((Int.cast 1:Rat)/(Int.cast 2:Rat)))+(v.at_.x*x.x+v.at_.z*x.z))=0/\((v.at_.x*x.z-v.at_.z*x.x)+(v.at_.x*x.z-v.at_.z*x.x))=0/\(((((d.x*d.x+d.z*d.z)-(v.at_.x*v.at_.x+v.at_.z*v.at_.z))-(x.x*x.x+x.z*x.z))*((Int.cast 1:Rat)/(Int.cast 2:Rat)))-(v.at_.x*x.x+v.at_.z*x.z))=0 then 10 else 0))]) (AV.tup [(AV.list 9 ((rootsL v.at_ x d).map (unSd (bT B C X Z)))),(AV.int .i64 (rootsE v.at_ x d))]):=Ref.tup2 (Ref.listM (rootsL v.at_ x d) fun y _=>RefC.cons (RefC.q_le (by omega)) (RefC.cons (RefC.q_le (by omega)) (RefC.q_le (by omega)))) (Ref.int rfl) rfl rfl rfl rfl
   have v0:20*(((((X+Z+X+Z+6)+(300+300+300+300+6)+2)+(B+C+B+C+6)+2)+64+2)+(300+300+B+C+6)+2)+20*((300+300+B+C+6)+(300+300+B+C+6)+2)+10*(((((X+Z+X+Z+6)+(300+300+300+300+6)+2)+(B+C+B+C+6)+2)+64+2)+(300+300+B+C+6)+2)+3000<=LIM:=by omega
   have v1:((((X+Z+X+Z+6)+(300+300+300+300+6)+2)+(B+C+B+C+6)+2)+64+2)+(300+300+B+C+6)+200<=LIM:=by omega
   have v2:(((X+Z+X+Z+6)+(300+300+300+300+6)+2)+(B+C+B+C+6)+2)+64+200<=LIM:=by omega
   have v3:((X+Z+X+Z+6)+(300+300+300+300+6)+2)+(B+C+B+C+6)+200<=LIM:=by omega
   have v4:300+300+B+C+300<=LIM:=by omega
   have v5:300+300+300+300+300<=LIM:=by omega
   have v6:B+C+B+C+300<=LIM:=by omega
   have v7:(X+Z+X+Z+6)+(300+300+300+300+6)+200<=LIM:=by omega
   have v8:(300+300+B+C+6)+(300+300+B+C+6)+200<=LIM:=by omega
   have v9:X+Z+X+Z+300<=LIM:=by omega
   by_cases c1:rootsE v.at_ x d=10
   · have e:bendsS u v x d=([],decide (dotP x x=0/\0<dotP v.at_ v.at_/\dotP d d+dotP v.at_ d=0)):=if_pos c1
     rw[e]
     by_cases c2:(Int.sign (x.x*x.x+x.z*x.z).num)=(0:Int)
     · have k2:dotP x x=0:=sgn_zero.1 c2
       by_cases c3:(0:Int)<(Int.sign (v.at_.x*v.at_.x+v.at_.z*v.at_.z).num)
       · have k3:0<dotP v.at_ v.at_:=sgn_gt.1 c3
         refine rF KT122_ok [(48,.tup (c122_6 v x d B C X Z)),(62,tt),(68,tt),(76,tt)] (.c6 v9 v5 v7 v6 v3 v2 (.c6 v4 v4 v1 v8 v1 v0 (.c6 hroots (iT c1) v6 (iT c2) v5 (iT c3) (.a2 (om (300+300+X+Z+300<=LIM)) (om ((X+Z+X+Z+6)+(300+300+X+Z+6)+200<=LIM)))))) (V:=.tup [.nil,.bool (decide ((Int.sign ((d.x*d.x+d.z*d.z)+(v.at_.x*d.x+v.at_.z*d.z)).num)=(0:Int)))]) (Ref.tup2 Ref.nilL (Ref.bool ?_) rfl rfl rfl rfl)
         rw[decide_eq_decide,sgn_zero];exact⟨fun h=>⟨k2,k3,h⟩,fun h=>h.2.2⟩
       · have k3:¬ 0<dotP v.at_ v.at_:=fun h=>c3 (sgn_gt.2 h)
         refine rF KT122_ok [(48,.tup (c122_6 v x d B C X Z)),(62,tt),(68,tt),(76,ff)] (.c6 v9 v5 v7 v6 v3 v2 (.c6 v4 v4 v1 v8 v1 v0 (.a6 hroots (iT c1) v6 (iT c2) v5 (iF c3)))) (V:=.tup [.nil,.bool false]) (Ref.tup2 Ref.nilL (Ref.bool (by simp[k3])) rfl rfl rfl rfl)
     · have k2:¬ dotP x x=0:=fun h=>c2 (sgn_zero.2 h)
       refine rF KT122_ok [(48,.tup (c122_6 v x d B C X Z)),(62,tt),(68,ff)] (.c6 v9 v5 v7 v6 v3 v2 (.c6 v4 v4 v1 v8 v1 v0 (.a4 hroots (iT c1) v6 (iF c2)))) (V:=.tup [.nil,.bool false]) (Ref.tup2 Ref.nilL (Ref.bool (by simp[k2])) rfl rfl rfl rfl)
   · refine gR KT122_ok none [2,3,4,5,6,7,8,15,85,86,87] [0,1,2,3,5] [(48,.tup (c122_6 v x d B C X Z)),(62,ff)] (.c6 v9 v5 v7 v6 v3 v2 (.c6 v4 v4 v1 v8 v1 v0 (.a2 hroots (iF c1)))) (t:=T122) (σ:=slots 171 [(2,.ptr 0 72 0 0),(3,.ptr 1 6 0 0),(4,.nil),(5,.bool false),(6,.ptr 2 6 0 0),(7,.ptr 3 6 0 0),(8,.ptr 4 3 0 0),(15,.nil),(85,(.list 9 ((rootsL v.at_ x d).map (unSd (bT B C X Z))))),(86,(.i6 (((rootsL v.at_ x d).map (unSd (bT B C X Z))).length:Int))),(87,.i6 (0:Int))]) (h:=[some ⟨267,72,false,[(c122_0 h H1 H2 H3 H4 u us v vs x B C)],none⟩,some ⟨58,6,false,[[.q d.x X,.q d.z Z]],none⟩,some ⟨58,6,false,[[.q v.at_.x 300,.q v.at_.z 300]],none⟩,some ⟨58,6,false,[[.q x.x B,.q x.z C]],none⟩,some ⟨56,3,false,[(c122_7 d X Z)],none⟩]) ?_
     have hlen:((rootsL v.at_ x d).map (unSd (bT B C X Z))).length=(rootsL v.at_ x d).length:=lmE ..;rw[hlen];refine Good.freezeD (b:=⟨267,72,false,[(c122_0 h H1 H2 H3 H4 u us v vs x B C)],none⟩) 0 (by rfl) (by rfl) (.oe (.a1 (dc (0<1)))) .on ?_;refine Good.freezeD (b:=⟨58,6,false,[[.q d.x X,.q d.z Z]],none⟩) 1 (by rfl) (by rfl) (.oe (.a1 (dc (0<1)))) .on ?_;refine Good.freezeD (b:=⟨58,6,false,[[.q v.at_.x 300,.q v.at_.z 300]],none⟩) 2 (by rfl) (by rfl) (.oe (.a1 (dc (0<1)))) .on ?_;refine Good.freezeD (b:=⟨58,6,false,[[.q x.x B,.q x.z C]],none⟩) 3 (by rfl) (by rfl) (.oe (.a1 (dc (0<1)))) .on ?_;refine Good.freezeD (b:=⟨56,3,false,[(c122_7 d X Z)],none⟩) 4 (by rfl) (by rfl) (.oe (.a1 (dc (0<1)))) .on ?_;refine Good.tidy [] (by decide) (σ':=slots 171 [(2,.cptr (c122_0 h H1 H2 H3 H4 u us v vs x B C) 0),(3,.cptr [.q d.x X,.q d.z Z] 0),(6,.cptr [.q v.at_.x 300,.q v.at_.z 300] 0),(7,.cptr [.q x.x B,.q x.z C] 0),(8,.cptr (c122_7 d X Z) 0),(4,.nil),(5,.bool false),(15,.nil),(85,.list 9 ((rootsL v.at_ x d).map (unSd (bT B C X Z)))),(86,.i6 (((rootsL v.at_ x d).length:Nat):Int)),(87,.i6 0)]) (h':=[]) (by kernel_rfl) (by kernel_rfl) ?_
     refine Good.pk 171 [(2,.cptr (c122_0 h H1 H2 H3 H4 u us v vs x B C) 0),(3,.cptr [.q d.x X,.q d.z Z] 0),(6,.cptr [.q v.at_.x 300,.q v.at_.z 300] 0),(7,.cptr [.q x.x B,.q x.z C] 0),(8,.cptr (c122_7 d X Z) 0),(15,.nil),(85,.list 9 ((rootsL v.at_ x d).map (unSd (bT B C X Z)))),(86,.i6 (((rootsL v.at_ x d).length:Nat):Int)),(87,.i6 0)] ?_;have e1:out122 []= .nil:=if_pos rfl;have e2:oh122 (bS1 B C X Z) (bS2 B C X Z) (bS3 B C X Z) (bT B C X Z) []= []:=if_pos rfl
     by_cases c2:Int.sign (d.x*d.x+d.z*d.z).num=0
     · by_cases c3:rootsL v.at_ x d= []
       · have e:bendsS u v x d=((rootsL v.at_ x d).filterMap (bendOf u v x d),true):=by unfold bendsS;rw[if_neg c1,if_neg (fun h=>h.1 c3)]
         rw[e,c3]
         have:=end122 (S:=S) (w0:=w0) (h:=h) (u:=u) (v:=v) (us:=us) (vs:=vs) (x:=x) (d:=d) (H1:=H1) (H2:=H2) (H3:=H3) (H4:=H4) (B:=B) (C:=C) (X:=X) (Z:=Z) (L:=[]) (T:=bT B C X Z) (FA:=X+Z+X+Z+6) (S1:=bS1 B C X Z) (S2:=bS2 B C X Z) (S3:=bS3 B C X Z) (f:=d.x*d.x+d.z*d.z) [] 0 rfl;rw[e1,e2] at this;exact this
       · have e:bendsS u v x d=([],false):=by unfold bendsS;rw[if_neg c1,if_pos ⟨c3,sgn_zero.1 c2⟩]
         rw[e];have hpos:0<(rootsL v.at_ x d).length:=List.length_pos_iff.2 c3;refine rF KT122_ok [(88,tt),(89,.cptr [.q ((rootsL v.at_ x d).getD 0 default).a (bT B C X Z),.q ((rootsL v.at_ x d).getD 0 default).b (bT B C X Z),.q ((rootsL v.at_ x d).getD 0 default).d (bT B C X Z)] 0),(93,tt)] (.a5 (iT (om ((0:Int)<((((rootsL v.at_ x d).length):Nat):Int)))) (show Ref (.cptr (((rootsL v.at_ x d).map (unSd (bT B C X Z))).getD 0 []) 0) (.cptr [.q ((rootsL v.at_ x d).getD 0 default).a (bT B C X Z),.q ((rootsL v.at_ x d).getD 0 default).b (bT B C X Z),.q ((rootsL v.at_ x d).getD 0 default).d (bT B C X Z)] 0) from Ref.cmap (f:=unSd (bT B C X Z)) hpos) (nn 0) (show(0:Int)<(((rootsL v.at_ x d).map (unSd (bT B C X Z))).length:Int) by rw[lmE];omega) (iT c2)) (V:=.tup [.nil,.bool false]) (Ref.tup2 Ref.nilL rr rfl rfl rfl rfl)
     · have e:bendsS u v x d=((rootsL v.at_ x d).filterMap (bendOf u v x d),true):=by unfold bendsS;rw[if_neg c1,if_neg (fun h=>c2 (sgn_zero.2 h.2))]
       rw[e]
       have:=loop122 (S:=S) (w0:=w0) (h:=h) (u:=u) (v:=v) (us:=us) (vs:=vs) (x:=x) (d:=d) (H1:=H1) (H2:=H2) (H3:=H3) (H4:=H4) (B:=B) (C:=C) (X:=X) (Z:=Z) (L:=rootsL v.at_ x d) (T:=bT B C X Z) (FA:=X+Z+X+Z+6) (S1:=bS1 B C X Z) (S2:=bS2 B C X Z) (S3:=bS3 B C X Z) (f:=d.x*d.x+d.z*d.z) (W:=bW B C X Z) (BE:=bBE B C X Z) c2 rfl (rootsS_len _ _ _) (by omega) (by omega) (by omega) (by omega) (by omega) (by omega) (by omega) (rootsL v.at_ x d).length 0 (by omega) [] rfl;rw[e1,e2] at this;exact this
 · cases h
def loB (m:MachD) (b:Int):BodyD:=m.bodies.getD b.toNat default
def upB (m:MachD) (b:Int):BodyD:=m.bodies.getD (loB m b).par.toNat default
def hipF (m:MachD) (p:PoseD) (b:Int):FrameD:=⟨placeF (fr m p (upB m b).par.toNat) (upB m b).at_,(fr m p (upB m b).par.toNat).c,(fr m p (upB m b).par.toNat).s⟩
def legE (m:MachD) (n:Nat) (b:Int):Int:=if worldE m n b=0 then (if b=0\/(loB m b).par=0 then 2 else 0) else worldE m n b
def unLeg (jb:Nat) (f:FrameD) (u v:BodyD) (x:PtD) (B C:Nat):List AV:=[.q f.at_.x (4*SZ jb+608),.q f.at_.z (4*SZ jb+608),.q f.c (SZ jb),.q f.s (SZ jb)]++unBody 300 u++unBody 300 v++ [.q x.x B,.q x.z C]
def zLeg:List AV:=[.q 0 0,.q 0 0,.q 0 0,.q 0 0,.str (ByteArray.mk #[]),.i6 0,.q 0 0,.q 0 0,.q 0 0,.q 0 0,.q 0 0,.q 0 0,.q 0 0,.q 0 0,.nil,.str (ByteArray.mk #[]),.i6 0,.q 0 0,.q 0 0,.q 0 0,.q 0 0,.q 0 0,.q 0 0,.q 0 0,.q 0 0,.nil,.q 0 0,.q 0 0]
def legP (jb:Nat) (m:MachD) (p:PoseD) (b:Int) (x:PtD) (B C:Nat):AV:=if legE m p.joints.length b=0 then .agg (unLeg jb (hipF m p b) (upB m b) (loB m b) x B C) else .agg zLeg
theorem leg_parts {m:MachD} {n:Nat} {b:Int} (h:legE m n b=0):poseE m n=0/\0<b/\b<((m.bodies.length:Nat):Int)/\0<(loB m b).par/\(loB m b).par<b/\0<=(upB m b).par/\(upB m b).par<(loB m b).par:=by
 unfold legE at h
 split at h
 · rename_i hw
   split at h
   · cases h
   · rename_i h0
     unfold worldE at hw
     split at hw
     · rename_i hp
       split at hw
       · rename_i hb
         have ht:=check_tree (pose_parts hp).1;have h1:=ht b.toNat (by omega) (by omega);have h2:0<=(loB m b).par/\(loB m b).par<b:=⟨h1.1,by have:=h1.2;unfold loB;omega⟩;have h3:=ht (loB m b).par.toNat (by omega) (by omega);refine⟨hp,by omega,hb.2,by omega,h2.2,h3.1, ?_⟩
         have:=h3.2;unfold upB;omega
       · cases hw
     · rename_i hp;exact absurd hw hp
 · rename_i hw;exact absurd h hw
theorem bodyRef {m:MachD} {v:BodyD} {i:Nat} (hv:v=m.bodies.getD i default) (h:i<m.bodies.length):Ref (.cptr ((m.bodies.map (unBody 300)).getD i []) 0) (.cptr (unBody 300 v) 0):=hv▸Ref.cmap h
def k121:KF
 | [.agg M,.agg [.q ax jb,.q az A2,.q tu A3,.list 3 J],.int .i64 b,.agg [.q px B,.q pz C]]=>some (.tup [legP jb (reMach M) ⟨⟨ax,az⟩,tu,J.map reQ⟩ b ⟨px,pz⟩ B C,.int .i64 (legE (reMach M) J.length b)],[M=unMach 300 (reMach M),(reMach M).small,(reMach M).bodies.length<=8,A2<=jb,A3<=jb,jb<=100000,Ref (.list 3 J) (.list 3 ((J.map reQ).map (unQ jb))),J.length<=4611686018427387904])
 | _=>none
abbrev d121_0 (m:MachD) (jb:Nat) (p:PoseD):List AV:=[.cptr [.str m.name,.list 27 (m.bodies.map (unBody 300)),.list 17 (m.springs.map (unCordy 300)),.list 17 (m.tendons.map (unCordy 300)),.list 13 (m.motors.map (unMotor 300)),.list 5 (m.feet.map (unFoot 300)),.list 12 ((List.range m.bodies.length).map fun i=>unF (SZ jb) (fr m p i))] 0,.i6 (0:Int)]
abbrev d121_1:List AV:=[.q 0 0,.q 0 0,.q 0 0,.q 0 0,.str (ByteArray.mk #[]),.i6 (0:Int),.q 0 0,.q 0 0,.q 0 0,.q 0 0,.q 0 0,.q 0 0,.q 0 0,.q 0 0,AV.nil,.str (ByteArray.mk #[]),.i6 (0:Int),.q 0 0,.q 0 0,.q 0 0,.q 0 0,.q 0 0,.q 0 0,.q 0 0,.q 0 0,AV.nil,.q 0 0,.q 0 0]
abbrev d121_2 (jb:Nat) (m:MachD) (p:PoseD):AV:=(.tup [(standP jb (reMach (unMach 300 m)) ⟨⟨p.at_.x,p.at_.z⟩,p.turn,(p.joints.map (unQ jb)).map reQ⟩),.i6 (poseE (reMach (unMach 300 m)) (p.joints.map (unQ jb)).length)])
abbrev d121_3 (m:MachD) (p:PoseD) (u:BodyD) (jb:Nat):List AV:=[.q ((fr m p u.par.toNat).at_.x) (2*(SZ jb)),.q ((fr m p u.par.toNat).at_.z) (2*(SZ jb)),.q ((fr m p u.par.toNat).c) (SZ jb),.q ((fr m p u.par.toNat).s) (SZ jb)]
theorem a121:Ctr 121 k121:=by
 refine ctr Tryz.f121 fun _ _ _ S w0 h ho=> ?_
 unfold k121 at h;split at h <;> cases h;rename_i M ax jb az A2 tu A3 J b px B pz C;obtain⟨o1,o2,o3,o4,o5,o6,o7,o8⟩:=ho.e8;have K:=((kn.cons a119).cons a118).cons a117;generalize hm:reMach M=m at*;subst o1;clear hm;obtain⟨p,hp⟩:∃ p:PoseD,p=⟨⟨ax,az⟩,tu,J.map reQ⟩:=⟨_,rfl⟩;have hpj:p.joints.length=J.length:=by rw[hp];simp
 rw[<- hp]
 try rw[<- hpj]
 refine Good.weak 84 [(0,.agg (unMach 300 m)),(1,.agg (unPose jb p)),(2,.i6 b),(3,.agg [.q px B,.q pz C])] (by kernel_rfl) (.r (.cons (by rw[hp];exact Ref.pose o4 o5 o7) (.r (.r .nil)))) ?_;clear hp;have s1:unMach 300 m=unMach 300 (reMach (unMach 300 m)):=by rw[reMach_un]
 have s2:(reMach (unMach 300 m)).small:=by rw[reMach_un];exact o2
 have s3:(reMach (unMach 300 m)).bodies.length<=8:=by rw[reMach_un];exact o3
 have s4:Ref (.list 3 (p.joints.map (unQ jb))) (.list 3 (((p.joints.map (unQ jb)).map reQ).map (unQ jb))):=Ref.eq (by rw[reQ_un]);have s5:(p.joints.map (unQ jb)).length<=4611686018427387904:=by rw[lmE,hpj];exact o8
 have s7:SZ jb<=153753600:=by unfold SZ;omega
 have s8:LIM=17592186044416:=rfl;obtain⟨v,hv⟩:∃ v,v=loB m b:=⟨_,rfl⟩;obtain⟨u,hu⟩:∃ u,u=upB m b:=⟨_,rfl⟩;have hu2:u=m.bodies.getD v.par.toNat default:=by rw[hu,hv];rfl
 have hleg:poseE m p.joints.length=0->(0<=b/\b<((m.bodies.length:Nat):Int))->¬ b=0->¬ v.par=0->(0<=v.par/\v.par<((m.bodies.length:Nat):Int)/\v.par.toNat<m.bodies.length/\0<=u.par/\u.par<((m.bodies.length:Nat):Int)/\u.par.toNat<m.bodies.length):=by
   intro a1 a2 a3 a4;have q:=leg_parts (m:=m) (n:=p.joints.length) (b:=b) (by unfold legE worldE;rw[if_pos a1,if_pos a2,if_pos rfl,if_neg (by rw[<- hv];exact not_or.2 ⟨a3,a4⟩)]);rw[<- hv, <- hu] at q;omega
 by_cases h1:(poseE m p.joints.length)=(0:Int)
 · by_cases h2:0<=b/\b<(((m.bodies.map (unBody 300)).length:Nat):Int)
   · by_cases h3:b=(0:Int)
     · refine rF K [(15,.tup (d121_0 m jb p)),(26,ff),(35,tt)] (.c6 s1 s2 s3 (rl jb) (rl jb) o6 (.a5 s4 s5 (show Ref (d121_2 jb m p) (.tup (d121_0 m jb p)) by first | exact s1 | exact s2 | exact s3 | exact s4 | exact s5 | exact standP_ok h1 | exact standP_no h1 | (simp only[lmE,List.length_range] at*;exact frL_ref (by omega)) | (simp only[lmE,List.length_range] at*;omega) | exact bodyRef hv (by simp only[lmE] at*;omega) | (have q:=hleg h1 (by simpa using h2) h3 h4;first | exact bodyRef hu2 (by omega) | exact frL_ref (by omega) | (simp only[lmE,List.length_range] at*;omega))) (jF h2) (iT h3))) (V:=.tup [.agg (d121_1),.i6 (2:Int)]) ?_
       have w:worldE m p.joints.length b=0:=by unfold worldE;rw[if_pos h1,if_pos (by simpa using h2)]
       have e:legE m p.joints.length b=2:=by unfold legE;rw[if_pos w,if_pos (Or.inl h3)]
       rw[show legP jb m p b ⟨px,pz⟩ B C= .agg zLeg from if_neg (by rw[e];first | decide | exact h1),e];exact Ref.tup2 rr rr rfl rfl rfl rfl
     · have v2:0<=b:=by(simp only[lmE,List.length_range] at*;omega)
       by_cases h4:v.par=(0:Int)
       · refine rF K [(15,.tup (d121_0 m jb p)),(26,ff),(35,ff),(42,.cptr (unBody 300 v) 0),(32,tt)] (.c6 s1 s2 s3 (rl jb) (rl jb) o6 (.c6 s4 s5 (show Ref (d121_2 jb m p) (.tup (d121_0 m jb p)) by first | exact s1 | exact s2 | exact s3 | exact s4 | exact s5 | exact standP_ok h1 | exact standP_no h1 | (simp only[lmE,List.length_range] at*;exact frL_ref (by omega)) | (simp only[lmE,List.length_range] at*;omega) | exact bodyRef hv (by simp only[lmE] at*;omega) | (have q:=hleg h1 (by simpa using h2) h3 h4;first | exact bodyRef hu2 (by omega) | exact frL_ref (by omega) | (simp only[lmE,List.length_range] at*;omega))) (jF h2) (iF h3) (show Ref (.cptr ((m.bodies.map (unBody 300)).getD b.toNat []) 0) (.cptr (unBody 300 v) 0) by first | exact s1 | exact s2 | exact s3 | exact s4 | exact s5 | exact standP_ok h1 | exact standP_no h1 | (simp only[lmE,List.length_range] at*;exact frL_ref (by omega)) | (simp only[lmE,List.length_range] at*;omega) | exact bodyRef hv (by simp only[lmE] at*;omega) | (have q:=hleg h1 (by simpa using h2) h3 h4;first | exact bodyRef hu2 (by omega) | exact frL_ref (by omega) | (simp only[lmE,List.length_range] at*;omega))) (.a3 v2 (show b<((m.bodies.map (unBody 300)).length:Int) by first | exact s1 | exact s2 | exact s3 | exact s4 | exact s5 | exact standP_ok h1 | exact standP_no h1 | (simp only[lmE,List.length_range] at*;exact frL_ref (by omega)) | (simp only[lmE,List.length_range] at*;omega) | exact bodyRef hv (by simp only[lmE] at*;omega) | (have q:=hleg h1 (by simpa using h2) h3 h4;first | exact bodyRef hu2 (by omega) | exact frL_ref (by omega) | (simp only[lmE,List.length_range] at*;omega))) (iT h4)))) (V:=.tup [.agg (d121_1),.i6 (2:Int)]) ?_
         have w:worldE m p.joints.length b=0:=by unfold worldE;rw[if_pos h1,if_pos (by simpa using h2)]
         have e:legE m p.joints.length b=2:=by unfold legE;rw[if_pos w,if_pos (Or.inr (hv▸h4))]
         rw[show legP jb m p b ⟨px,pz⟩ B C= .agg zLeg from if_neg (by rw[e];first | decide | exact h1),e];exact Ref.tup2 rr rr rfl rfl rfl rfl
       · have v0:Ref (.cptr ((m.bodies.map (unBody 300)).getD b.toNat []) 0) (.cptr (unBody 300 v) 0):=by first | exact s1 | exact s2 | exact s3 | exact s4 | exact s5 | exact standP_ok h1 | exact standP_no h1 | (simp only[lmE,List.length_range] at*;exact frL_ref (by omega)) | (simp only[lmE,List.length_range] at*;omega) | exact bodyRef hv (by simp only[lmE] at*;omega) | (have q:=hleg h1 (by simpa using h2) h3 h4;first | exact bodyRef hu2 (by omega) | exact frL_ref (by omega) | (simp only[lmE,List.length_range] at*;omega))
         have v1:b<((m.bodies.map (unBody 300)).length:Int):=by first | exact s1 | exact s2 | exact s3 | exact s4 | exact s5 | exact standP_ok h1 | exact standP_no h1 | (simp only[lmE,List.length_range] at*;exact frL_ref (by omega)) | (simp only[lmE,List.length_range] at*;omega) | exact bodyRef hv (by simp only[lmE] at*;omega) | (have q:=hleg h1 (by simpa using h2) h3 h4;first | exact bodyRef hu2 (by omega) | exact frL_ref (by omega) | (simp only[lmE,List.length_range] at*;omega))
         refine rF K [(15,.tup (d121_0 m jb p)),(26,ff),(35,ff),(42,.cptr (unBody 300 v) 0),(32,ff),(54,.cptr (unBody 300 v) 0),(63,.cptr (unBody 300 u) 0),(71,.cptr (d121_3 m p u jb) 0)] (.c6 s1 s2 s3 (rl jb) (rl jb) o6 (.c6 s4 s5 (show Ref (d121_2 jb m p) (.tup (d121_0 m jb p)) by first | exact s1 | exact s2 | exact s3 | exact s4 | exact s5 | exact standP_ok h1 | exact standP_no h1 | (simp only[lmE,List.length_range] at*;exact frL_ref (by omega)) | (simp only[lmE,List.length_range] at*;omega) | exact bodyRef hv (by simp only[lmE] at*;omega) | (have q:=hleg h1 (by simpa using h2) h3 h4;first | exact bodyRef hu2 (by omega) | exact frL_ref (by omega) | (simp only[lmE,List.length_range] at*;omega))) (jF h2) (iF h3) v0 (.c6 v2 v1 (iF h4) v0 v2 v1 (.c6 (show Ref (.cptr ((m.bodies.map (unBody 300)).getD v.par.toNat []) 0) (.cptr (unBody 300 u) 0) by first | exact s1 | exact s2 | exact s3 | exact s4 | exact s5 | exact standP_ok h1 | exact standP_no h1 | (simp only[lmE,List.length_range] at*;exact frL_ref (by omega)) | (simp only[lmE,List.length_range] at*;omega) | exact bodyRef hv (by simp only[lmE] at*;omega) | (have q:=hleg h1 (by simpa using h2) h3 h4;first | exact bodyRef hu2 (by omega) | exact frL_ref (by omega) | (simp only[lmE,List.length_range] at*;omega))) (show 0<=v.par by(simp only[lmE,List.length_range] at*;omega)) (show v.par<((m.bodies.map (unBody 300)).length:Int) by first | exact s1 | exact s2 | exact s3 | exact s4 | exact s5 | exact standP_ok h1 | exact standP_no h1 | (simp only[lmE,List.length_range] at*;exact frL_ref (by omega)) | (simp only[lmE,List.length_range] at*;omega) | exact bodyRef hv (by simp only[lmE] at*;omega) | (have q:=hleg h1 (by simpa using h2) h3 h4;first | exact bodyRef hu2 (by omega) | exact frL_ref (by omega) | (simp only[lmE,List.length_range] at*;omega))) (show Ref (.cptr (((List.range m.bodies.length).map fun i=>unF (SZ jb) (fr m p i)).getD u.par.toNat []) 0) (.cptr (d121_3 m p u jb) 0) by(simp only[lmE,List.length_range] at*;exact frL_ref (by omega))) (show 0<=u.par by(simp only[lmE,List.length_range] at*;omega)) (show u.par<(((List.range m.bodies.length).map fun i=>unF (SZ jb) (fr m p i)).length:Int) by first | exact s1 | exact s2 | exact s3 | exact s4 | exact s5 | exact standP_ok h1 | exact standP_no h1 | (simp only[lmE,List.length_range] at*;exact frL_ref (by omega)) | (simp only[lmE,List.length_range] at*;omega) | exact bodyRef hv (by simp only[lmE] at*;omega) | (have q:=hleg h1 (by simpa using h2) h3 h4;first | exact bodyRef hu2 (by omega) | exact frL_ref (by omega) | (simp only[lmE,List.length_range] at*;omega))) (.a1 (show(2*(SZ jb))+(2*(SZ jb))+2*300+2*300+2*(SZ jb)+2*(SZ jb)+400<=LIM by(simp only[lmE,List.length_range] at*;omega))))))) (V:=.tup [.agg [.q (((fr m p u.par.toNat).at_.x)+(((fr m p u.par.toNat).c)*u.at_.x-((fr m p u.par.toNat).s)*u.at_.z)) ((2*(SZ jb))+(300+300+(SZ jb)+(SZ jb)+6)+2),.q (((fr m p u.par.toNat).at_.z)+(((fr m p u.par.toNat).s)*u.at_.x+((fr m p u.par.toNat).c)*u.at_.z)) ((2*(SZ jb))+(300+300+(SZ jb)+(SZ jb)+6)+2),.q ((fr m p u.par.toNat).c) (SZ jb),.q ((fr m p u.par.toNat).s) (SZ jb),.str u.name,.i6 u.par,.q u.at_.x 300,.q u.at_.z 300,.q u.ma 300,.q u.inr 300,.q u.c.x 300,.q u.c.z 300,.q u.low 300,.q u.high 300,.list 6 (u.shape.map (unP 300)),.str v.name,.i6 v.par,.q v.at_.x 300,.q v.at_.z 300,.q v.ma 300,.q v.inr 300,.q v.c.x 300,.q v.c.z 300,.q v.low 300,.q v.high 300,.list 6 (v.shape.map (unP 300)),.q px B,.q pz C],.i6 (0:Int)]) ?_
         have w:worldE m p.joints.length b=0:=by unfold worldE;rw[if_pos h1,if_pos (by simpa using h2)]
         have e:legE m p.joints.length b=0:=by unfold legE;rw[if_pos w,if_neg (by rw[<- hv];exact not_or.2 ⟨h3,h4⟩)]
         rw[show legP jb m p b ⟨px,pz⟩ B C= .agg (unLeg jb (hipF m p b) (upB m b) (loB m b) ⟨px,pz⟩ B C) from if_pos e,e, <- hv, <- hu];exact Ref.tup2 (Ref.agg (RefC.cons (RefC.q_eq (by rw[hu];rfl) (by omega)) (RefC.cons (RefC.q_eq (by rw[hu];rfl) (by omega)) (RefC.cons (RefC.q_eq (by rw[hu];rfl) (by omega)) (RefC.cons (RefC.q_eq (by rw[hu];rfl) (by omega)) RefC.rfl'))))) rr rfl rfl rfl rfl
   · refine rF K [(15,.tup (d121_0 m jb p)),(26,tt)] (.c6 s1 s2 s3 (rl jb) (rl jb) o6 (.a4 s4 s5 (show Ref (d121_2 jb m p) (.tup (d121_0 m jb p)) by first | exact s1 | exact s2 | exact s3 | exact s4 | exact s5 | exact standP_ok h1 | exact standP_no h1 | (simp only[lmE,List.length_range] at*;exact frL_ref (by omega)) | (simp only[lmE,List.length_range] at*;omega) | exact bodyRef hv (by simp only[lmE] at*;omega) | (have q:=hleg h1 (by simpa using h2) h3 h4;first | exact bodyRef hu2 (by omega) | exact frL_ref (by omega) | (simp only[lmE,List.length_range] at*;omega))) (jT h2))) (V:=.tup [.agg (d121_1),.i6 (3:Int)]) ?_
     have w:worldE m p.joints.length b=3:=by unfold worldE;rw[if_pos h1,if_neg (by simpa using h2)]
     have e:legE m p.joints.length b=3:=by unfold legE;rw[if_neg (by rw[w];decide),w]
     rw[show legP jb m p b ⟨px,pz⟩ B C= .agg zLeg from if_neg (by rw[e];first | decide | exact h1),e];exact Ref.tup2 rr rr rfl rfl rfl rfl
 · refine rF K [(15,.tup [.lit (.pointer none),.i6 (poseE m p.joints.length)]),(21,tt)] (.c6 s1 s2 s3 (rl jb) (rl jb) o6 (.a4 s4 s5 (show Ref (d121_2 jb m p) (.tup [.lit (.pointer none),.i6 (poseE m p.joints.length)]) by first | exact s1 | exact s2 | exact s3 | exact s4 | exact s5 | exact standP_ok h1 | exact standP_no h1 | (simp only[lmE,List.length_range] at*;exact frL_ref (by omega)) | (simp only[lmE,List.length_range] at*;omega) | exact bodyRef hv (by simp only[lmE] at*;omega) | (have q:=hleg h1 (by simpa using h2) h3 h4;first | exact bodyRef hu2 (by omega) | exact frL_ref (by omega) | (simp only[lmE,List.length_range] at*;omega))) (jT h1))) (V:=.tup [.agg (d121_1),.i6 (poseE m p.joints.length)]) ?_
   have w:worldE m p.joints.length b=poseE m p.joints.length:=by unfold worldE;rw[if_neg h1]
   have e:legE m p.joints.length b=poseE m p.joints.length:=by unfold legE;rw[if_neg (by rw[w];exact h1),w]
   rw[show legP jb m p b ⟨px,pz⟩ B C= .agg zLeg from if_neg (by rw[e];first | decide | exact h1),e];exact Ref.tup2 rr rr rfl rfl rfl rfl
def k123:KF
 | [.agg [.q c C,.q s E]]=>some (.agg [.q c C,.q (-s) E],[])
 | _=>none
theorem a123:Ctr 123 k123:=by
 refine ctr Tryz.f123 fun _ _ _ S w0 h ho=> ?_
 unfold k123 at h;split at h <;> cases h;rename_i c C s E;have K:=kn.cons a59;exact rR K [] .nil
def localD (h:FrameD) (to:PtD):PtD:=⟨h.c*(to.x-h.at_.x)-(-h.s)*(to.z-h.at_.z),(-h.s)*(to.x-h.at_.x)+h.c*(to.z-h.at_.z)⟩
def bndS (m:MachD) (p:PoseD) (b:Int) (x to:PtD):List BendD×Bool:=bendsS (upB m b) (loB m b) x (localD (hipF m p b) to)
def bndsE (m:MachD) (p:PoseD) (b:Int) (x to:PtD):Int:=if legE m p.joints.length b=0 then (if (bndS m p b x to).2=true then 0 else 10) else legE m p.joints.length b
def bndsL (m:MachD) (p:PoseD) (b:Int) (x to:PtD):List BendD:=if bndsE m p b x to=0 then (bndS m p b x to).1 else []
def lX (jb TX TZ:Nat):Nat:=(TX+(4*SZ jb+608)+2)+(TZ+(4*SZ jb+608)+2)+SZ jb+SZ jb+6
theorem legP_ok {jb:Nat} {m:MachD} {p:PoseD} {b:Int} {px pz:Rat} {B C:Nat} {h:FrameD} {u v:BodyD} (hh:h=hipF m p b) (hu:u=upB m b) (hv:v=loB m b) (e:legE m p.joints.length b=0):Ref (.tup [legP jb (reMach (unMach 300 m)) ⟨⟨p.at_.x,p.at_.z⟩,p.turn,(p.joints.map (unQ jb)).map reQ⟩ b ⟨px,pz⟩ B C,.i6 (legE (reMach (unMach 300 m)) (p.joints.map (unQ jb)).length b)]) (.tup [.agg (unLeg jb h u v ⟨px,pz⟩ B C),.i6 0]):=by
 subst hh;subst hu;subst hv;exact Ref.eq (by rw[reMach_un,reQ_un,lmE,show legP jb m ⟨⟨p.at_.x,p.at_.z⟩,p.turn,p.joints⟩ b ⟨px,pz⟩ B C= .agg (unLeg jb (hipF m p b) (upB m b) (loB m b) ⟨px,pz⟩ B C) from if_pos e,e])
theorem legP_no {jb:Nat} {m:MachD} {p:PoseD} {b:Int} {px pz:Rat} {B C:Nat} (e:¬ legE m p.joints.length b=0):Ref (.tup [legP jb (reMach (unMach 300 m)) ⟨⟨p.at_.x,p.at_.z⟩,p.turn,(p.joints.map (unQ jb)).map reQ⟩ b ⟨px,pz⟩ B C,.i6 (legE (reMach (unMach 300 m)) (p.joints.map (unQ jb)).length b)]) (.tup [.agg zLeg,.i6 (legE m p.joints.length b)]):=
 Ref.eq (by rw[reMach_un,reQ_un,lmE,show legP jb m ⟨⟨p.at_.x,p.at_.z⟩,p.turn,p.joints⟩ b ⟨px,pz⟩ B C= .agg zLeg from if_neg e])
def k40:KF
 | [.agg M,.agg [.q ax jb,.q az A2,.q tu A3,.list 3 J],.int .i64 b,.agg [.q px B,.q pz C],.agg [.q tx TX,.q tz TZ]]=>some (.tup [.list 19 ((bndsL (reMach M) ⟨⟨ax,az⟩,tu,J.map reQ⟩ b ⟨px,pz⟩ ⟨tx,tz⟩).map (unBend (bS1 B C (lX jb TX TZ) (lX jb TX TZ)) (bS2 B C (lX jb TX TZ) (lX jb TX TZ)) (bS3 B C (lX jb TX TZ) (lX jb TX TZ)) (bT B C (lX jb TX TZ) (lX jb TX TZ)))),.int .i64 (bndsE (reMach M) ⟨⟨ax,az⟩,tu,J.map reQ⟩ b ⟨px,pz⟩ ⟨tx,tz⟩)],[M=unMach 300 (reMach M),(reMach M).small,(reMach M).bodies.length<=8,A2<=jb,A3<=jb,jb<=100000,Ref (.list 3 J) (.list 3 ((J.map reQ).map (unQ jb))),J.length<=4611686018427387904,8*bS1 B C (lX jb TX TZ) (lX jb TX TZ)+8*bS2 B C (lX jb TX TZ) (lX jb TX TZ)+4*bS3 B C (lX jb TX TZ) (lX jb TX TZ)+400*bT B C (lX jb TX TZ) (lX jb TX TZ)+20000<=LIM,TX+TZ+20*SZ jb+20000<=LIM])
 | _=>none
abbrev d40_0 (h:FrameD) (jb:Nat) (u:BodyD) (v:BodyD) (px:Rat) (B:Nat) (pz:Rat) (C:Nat):List AV:=[.agg [.q h.at_.x (4*SZ jb+608),.q h.at_.z (4*SZ jb+608),.q h.c (SZ jb),.q h.s (SZ jb),.str u.name,.i6 u.par,.q u.at_.x 300,.q u.at_.z 300,.q u.ma 300,.q u.inr 300,.q u.c.x 300,.q u.c.z 300,.q u.low 300,.q u.high 300,.list 6 (u.shape.map (unP 300)),.str v.name,.i6 v.par,.q v.at_.x 300,.q v.at_.z 300,.q v.ma 300,.q v.inr 300,.q v.c.x 300,.q v.c.z 300,.q v.low 300,.q v.high 300,.list 6 (v.shape.map (unP 300)),.q px B,.q pz C],.i6 (0:Int)]
abbrev d40_1:List AV:=[.q 0 0,.q 0 0,.q 0 0,.q 0 0,.str (ByteArray.mk #[]),.i6 (0:Int),.q 0 0,.q 0 0,.q 0 0,.q 0 0,.q 0 0,.q 0 0,.q 0 0,.q 0 0,AV.nil,.str (ByteArray.mk #[]),.i6 (0:Int),.q 0 0,.q 0 0,.q 0 0,.q 0 0,.q 0 0,.q 0 0,.q 0 0,.q 0 0,AV.nil,.q 0 0,.q 0 0]
abbrev d40_2 (y:List BendD×Bool) (B:Nat) (C:Nat) (jb:Nat) (TX:Nat) (TZ:Nat):List AV:=[.list 19 (y.1.map (unBend (bS1 B C (lX jb TX TZ) (lX jb TX TZ)) (bS2 B C (lX jb TX TZ) (lX jb TX TZ)) (bS3 B C (lX jb TX TZ) (lX jb TX TZ)) (bT B C (lX jb TX TZ) (lX jb TX TZ)))),.bool y.2]
abbrev d40_3 (jb:Nat) (m:MachD) (p:PoseD) (b:Int) (px:Rat) (pz:Rat) (B:Nat) (C:Nat):AV:=(.tup [(legP jb (reMach (unMach 300 m)) ⟨⟨p.at_.x,p.at_.z⟩,p.turn,(p.joints.map (unQ jb)).map reQ⟩ b ⟨px,pz⟩ B C),.i6 (legE (reMach (unMach 300 m)) (p.joints.map (unQ jb)).length b)])
theorem a40:Ctr 40 k40:=by
 refine ctr Tryz.f40 fun _ _ _ S w0 h ho=> ?_
 unfold k40 at h;split at h <;> cases h;rename_i M ax jb az A2 tu A3 J b px B pz C tx TX tz TZ;obtain⟨o1,o2,o3,o4,o5,o6,o7,o8,o9,o10⟩:=ho.e10;have K:=(((((kn.cons a122).cons a37).cons a123).cons a32).cons a121).cons a117;generalize hm:reMach M=m at*;subst o1;clear hm;obtain⟨p,hp⟩:∃ p:PoseD,p=⟨⟨ax,az⟩,tu,J.map reQ⟩:=⟨_,rfl⟩;have hpj:p.joints.length=J.length:=by rw[hp];simp
 rw[<- hp]
 try rw[<- hpj]
 refine Good.weak 45 [(0,.agg (unMach 300 m)),(1,.agg (unPose jb p)),(2,.i6 b),(3,.agg [.q px B,.q pz C]),(4,.agg [.q tx TX,.q tz TZ])] (by kernel_rfl) (.r (.cons (by rw[hp];exact Ref.pose o4 o5 o7) (.r (.r (.r .nil))))) ?_;clear hp;have s1:unMach 300 m=unMach 300 (reMach (unMach 300 m)):=by rw[reMach_un]
 have s2:(reMach (unMach 300 m)).small:=by rw[reMach_un];exact o2
 have s3:(reMach (unMach 300 m)).bodies.length<=8:=by rw[reMach_un];exact o3
 have s4:Ref (.list 3 (p.joints.map (unQ jb))) (.list 3 (((p.joints.map (unQ jb)).map reQ).map (unQ jb))):=Ref.eq (by rw[reQ_un]);have s5:(p.joints.map (unQ jb)).length<=4611686018427387904:=by rw[lmE,hpj];exact o8
 have s7:SZ jb<=153753600:=by unfold SZ;omega
 have s8:LIM=17592186044416:=rfl;obtain⟨h,hh⟩:∃ h,h=hipF m p b:=⟨_,rfl⟩;obtain⟨u,hu⟩:∃ u,u=upB m b:=⟨_,rfl⟩;obtain⟨v,hv⟩:∃ v,v=loB m b:=⟨_,rfl⟩;obtain⟨y,hy⟩:∃ y,y=bendsS u v ⟨px,pz⟩ (localD h ⟨tx,tz⟩):=⟨_,rfl⟩;have hS:bndS m p b ⟨px,pz⟩ ⟨tx,tz⟩=y:=by rw[hy,hh,hu,hv];rfl
 have hX:lX jb TX TZ=(TX+(4*SZ jb+608)+2)+(TZ+(4*SZ jb+608)+2)+SZ jb+SZ jb+6:=rfl
 by_cases h1:(legE m p.joints.length b)=(0:Int)
 · have v0:Ref (d40_3 jb m p b px pz B C) (.tup (d40_0 h jb u v px B pz C)):=by exact legP_ok hh hu hv h1
   have v1:Ref (.tup [.list 19 ((bendsT u.low u.high v.low v.high ⟨v.at_.x,v.at_.z⟩ ⟨px,pz⟩ ⟨((localD h ⟨tx,tz⟩).x),((localD h ⟨tx,tz⟩).z)⟩).1.map (unBend (bS1 B C (lX jb TX TZ) (lX jb TX TZ)) (bS2 B C (lX jb TX TZ) (lX jb TX TZ)) (bS3 B C (lX jb TX TZ) (lX jb TX TZ)) (bT B C (lX jb TX TZ) (lX jb TX TZ)))),.bool ((bendsT u.low u.high v.low v.high ⟨v.at_.x,v.at_.z⟩ ⟨px,pz⟩ ⟨((localD h ⟨tx,tz⟩).x),((localD h ⟨tx,tz⟩).z)⟩).2)]) (.tup (d40_2 y B C jb TX TZ)):=by exact Ref.eq (by rw[hy];rfl)
   have v2:Ref (.agg [.q (h.c*(tx-h.at_.x)-(-h.s)*(tz-h.at_.z)) ((TX+(4*SZ jb+608)+2)+(TZ+(4*SZ jb+608)+2)+(SZ jb)+(SZ jb)+6),.q ((-h.s)*(tx-h.at_.x)+h.c*(tz-h.at_.z)) ((TX+(4*SZ jb+608)+2)+(TZ+(4*SZ jb+608)+2)+(SZ jb)+(SZ jb)+6)]) (.agg [.q ((localD h ⟨tx,tz⟩).x) (lX jb TX TZ),.q ((localD h ⟨tx,tz⟩).z) (lX jb TX TZ)]):=Ref.agg (RefC.cons qe qe);have v3:(TX+(4*SZ jb+608)+2)+(TZ+(4*SZ jb+608)+2)+(SZ jb)+(SZ jb)+300<=LIM:=by omega
   have v4:TX+TZ+(4*SZ jb+608)+(4*SZ jb+608)+300<=LIM:=by omega
   rcases Bool.eq_false_or_eq_true (!y.2) with h2 | h2
   · refine rF K [(16,.tup (d40_0 h jb u v px B pz C)),(38,.agg [.q ((localD h ⟨tx,tz⟩).x) (lX jb TX TZ),.q ((localD h ⟨tx,tz⟩).z) (lX jb TX TZ)]),(27,.tup (d40_2 y B C jb TX TZ)),(43,tt)] (.c6 s1 s2 s3 (rl jb) (rl jb) o6 (.c6 s4 s5 v0 v4 v2 v3 (.a3 o9 v1 (show Ref (.bool (!y.2)) (.bool true) from Ref.bool h2)))) (V:=.tup [AV.nil,.i6 (10:Int)]) ?_
     have e:bndsE m p b ⟨px,pz⟩ ⟨tx,tz⟩=10:=by unfold bndsE;rw[if_pos h1,hS,if_neg (by simpa using h2)]
     rw[show bndsL m p b ⟨px,pz⟩ ⟨tx,tz⟩= [] from if_neg (by rw[e];decide),e];exact Ref.tup2 Ref.nilL rr rfl rfl rfl rfl
   · refine rF K [(16,.tup (d40_0 h jb u v px B pz C)),(38,.agg [.q ((localD h ⟨tx,tz⟩).x) (lX jb TX TZ),.q ((localD h ⟨tx,tz⟩).z) (lX jb TX TZ)]),(27,.tup (d40_2 y B C jb TX TZ)),(43,ff)] (.c6 s1 s2 s3 (rl jb) (rl jb) o6 (.c6 s4 s5 v0 v4 v2 v3 (.a3 o9 v1 (show Ref (.bool (!y.2)) (.bool false) from Ref.bool h2)))) (V:=.tup [.list 19 (y.1.map (unBend (bS1 B C (lX jb TX TZ) (lX jb TX TZ)) (bS2 B C (lX jb TX TZ) (lX jb TX TZ)) (bS3 B C (lX jb TX TZ) (lX jb TX TZ)) (bT B C (lX jb TX TZ) (lX jb TX TZ)))),.i6 (0:Int)]) ?_
     have e:bndsE m p b ⟨px,pz⟩ ⟨tx,tz⟩=0:=by unfold bndsE;rw[if_pos h1,hS,if_pos (by simpa using h2)]
     rw[show bndsL m p b ⟨px,pz⟩ ⟨tx,tz⟩=y.1 from by unfold bndsL;rw[if_pos e,hS],e];exact rr
 · refine rF K [(16,.tup [.agg (d40_1),.i6 (legE m p.joints.length b)]),(25,tt)] (.c6 s1 s2 s3 (rl jb) (rl jb) o6 (.a4 s4 s5 (show Ref (d40_3 jb m p b px pz B C) (.tup [.agg (d40_1),.i6 (legE m p.joints.length b)]) by exact legP_no h1) (jT h1))) (V:=.tup [AV.nil,.i6 (legE m p.joints.length b)]) ?_
   have e:bndsE m p b ⟨px,pz⟩ ⟨tx,tz⟩=legE m p.joints.length b:=by unfold bndsE;rw[if_neg h1]
   rw[show bndsL m p b ⟨px,pz⟩ ⟨tx,tz⟩= [] from if_neg (by rw[e];exact h1),e];exact Ref.tup2 Ref.nilL rr rfl rfl rfl rfl
def k98:KF
 | [.int .i64 x,.int .i64 z]=>some (.agg [.q (x:Rat) 64,.q (z:Rat) 64],[(-9223372036854775808:Int)<=x,x<=(9223372036854775807:Int),(-9223372036854775808:Int)<=z,z<=(9223372036854775807:Int)])
 | _=>none
theorem a98:Ctr 98 k98:=by
 refine ctr Tryz.f98 fun _ _ _ S w0 h ho=> ?_
 unfold k98 at h;split at h <;> cases h;rename_i x z;obtain⟨o1,o2,o3,o4⟩:=ho.e4;have K:=kn.cons a25;exact rR K [] (.a4 o1 o2 o3 o4)
def KD96_ok:=((kn.cons a98).cons a59).cons a25
theorem RefC.list3 {e:Nat} {a b c a' b' c':List AV} {cs:List AV} (h1:RefC a a') (h2:RefC b b') (h3:RefC c c'):RefC (.list e [a,b,c]::cs) (.list e [a',b',c']::cs):=RefC.listW rfl fun i el el' k1 k2=>by
 match i,k1,k2 with
 | 0,k1,k2=>simp at k1 k2;subst k1;subst k2;exact h1
 | 1,k1,k2=>simp at k1 k2;subst k1;subst k2;exact h2
 | 2,k1,k2=>simp at k1 k2;subst k1;subst k2;exact h3
 | i+3,k1,k2=>simp at k1
def walkerM:MachD:=⟨ByteArray.mk #[119,97,108,107,101,114],[⟨ByteArray.mk #[116,114,117,110,107],-1,⟨0,0⟩,⟨0,0⟩,2,1,0,0,[]⟩,⟨ByteArray.mk #[108,101,103],0,⟨0,0⟩,⟨0,-1⟩,1,1,-1,1,[]⟩,⟨ByteArray.mk #[115,104,105,110],1,⟨0,-2⟩,⟨0,-1⟩,1,1,-1,1,[]⟩],[],[],[],[]⟩
theorem bodyLe {n:ByteArray} {p:Int} {ax az ma ir cx cz lo hi:Rat} {B1 B2 B3 B4 B5 B6 B7 B8:Nat} (h:B1<=300/\B2<=300/\B3<=300/\B4<=300/\B5<=300/\B6<=300/\B7<=300/\B8<=300):RefC [.str n,.i6 p,.q ax B1,.q az B2,.q ma B3,.q ir B4,.q cx B5,.q cz B6,.q lo B7,.q hi B8,.nil] (unBody 300 ⟨n,p,⟨ax,az⟩,⟨cx,cz⟩,ma,ir,lo,hi,[]⟩):=
 .tl (.tl (.cons (RefC.q_le h.1) (.cons (RefC.q_le h.2.1) (.cons (RefC.q_le h.2.2.1) (.cons (RefC.q_le h.2.2.2.1) (.cons (RefC.q_le h.2.2.2.2.1) (.cons (RefC.q_le h.2.2.2.2.2.1) (.cons (RefC.q_le h.2.2.2.2.2.2.1) (.cons (RefC.q_le h.2.2.2.2.2.2.2) RefC.nilL)))))))))
def k96:KF
 | []=>some (.agg (unMach 300 walkerM),[])
 | _=>none
theorem a96:Ctr 96 k96:=by
 refine ctr Tryz.f96 fun _ _ _ S w0 h ho=> ?_
 unfold k96 at h;split at h <;> cases h;have v0:(-9223372036854775808:Int)<=0:=by decide
 have v1:0<=(9223372036854775807:Int):=by decide
 have v2:(-9223372036854775808:Int)<=(-1):=by decide
 have v3:(-1)<=(9223372036854775807:Int):=by decide
 refine gN KD96_ok [0] [] (.c6 (dc ((-9223372036854775808:Int)<=1)) (dc (1<=(9223372036854775807:Int))) (dc ((-9223372036854775808:Int)<=2)) (dc (2<=(9223372036854775807:Int))) v0 v1 (.c6 v2 v3 v0 v1 (dc ((-9223372036854775808:Int)<=(-2))) (dc ((-2)<=(9223372036854775807:Int))) (.a4 v0 v1 v2 v3))) (t:=[.code .ret]) (σ:=slots 23 [(0,.ptr 0 6 0 0)]) (h:=[some ⟨41,6,false,[[.str (ByteArray.mk #[119,97,108,107,101,114]),.own 9 27 0 3,.nil,.nil,.nil,.nil]],none⟩,none,some ⟨56,3,false,[[.q (1:Rat) 64]],none⟩,none,none,none,none,none,none,some ⟨114,27,false,[[.str (ByteArray.mk #[116,114,117,110,107]),.i6 (-1:Int),.q 0 0,.q 0 0,.q (2:Rat) 64,.q (1:Rat) 64,.q 0 0,.q 0 0,.q 0 0,.q 0 0,.nil],[.str (ByteArray.mk #[108,101,103]),.i6 (0:Int),.q 0 0,.q 0 0,.q (1:Rat) 64,.q (1:Rat) 64,.q (0:Rat) 64,.q ((-1):Rat) 64,.q (-(1:Rat)) 64,.q (1:Rat) 64,.nil],[.str (ByteArray.mk #[115,104,105,110]),.i6 (1:Int),.q (0:Rat) 64,.q ((-2):Rat) 64,.q (1:Rat) 64,.q (1:Rat) 64,.q (0:Rat) 64,.q ((-1):Rat) 64,.q (-(1:Rat)) 64,.q (1:Rat) 64,.nil]],none⟩]) ?_
 refine Good.freezeD (b:=⟨114,27,false,[[(.str (ByteArray.mk #[116,114,117,110,107])),(.i6 (-1:Int)),(.q 0 0),(.q 0 0),(.q (2:Rat) 64),(.q (1:Rat) 64),(.q 0 0),(.q 0 0),(.q 0 0),(.q 0 0),.nil],[(.str (ByteArray.mk #[108,101,103])),(.i6 (0:Int)),(.q 0 0),(.q 0 0),(.q (1:Rat) 64),(.q (1:Rat) 64),(.q (0:Rat) 64),(.q ((-1):Rat) 64),(.q (-(1:Rat)) 64),(.q (1:Rat) 64),.nil],[(.str (ByteArray.mk #[115,104,105,110])),(.i6 (1:Int)),(.q (0:Rat) 64),(.q ((-2):Rat) 64),(.q (1:Rat) 64),(.q (1:Rat) 64),(.q (0:Rat) 64),(.q ((-1):Rat) 64),(.q (-(1:Rat)) 64),(.q (1:Rat) 64),.nil]],none⟩) 9 (by rfl) (by rfl) .on (.oe (.a1 (dc (0+3<=3)))) ?_;refine gE [(AV.agg [(AV.str (ByteArray.mk #[119,97,108,107,101,114])),(AV.list 27 [[(AV.str (ByteArray.mk #[116,114,117,110,107])),(AV.int .i64 (-1:Int)),(AV.q 0 0),(AV.q 0 0),(AV.q (2:Rat) 64),(AV.q (1:Rat) 64),(AV.q 0 0),(AV.q 0 0),(AV.q 0 0),(AV.q 0 0),AV.nil],[(AV.str (ByteArray.mk #[108,101,103])),(AV.int .i64 (0:Int)),(AV.q 0 0),(AV.q 0 0),(AV.q (1:Rat) 64),(AV.q (1:Rat) 64),(AV.q (0:Rat) 64),(AV.q ((-1):Rat) 64),(AV.q (-(1:Rat)) 64),(AV.q (1:Rat) 64),AV.nil],[(AV.str (ByteArray.mk #[115,104,105,110])),(AV.int .i64 (1:Int)),(AV.q (0:Rat) 64),(AV.q ((-2):Rat) 64),(AV.q (1:Rat) 64),(AV.q (1:Rat) 64),(AV.q (0:Rat) 64),(AV.q ((-1):Rat) 64),(AV.q (-(1:Rat)) 64),(AV.q (1:Rat) 64),AV.nil]]),AV.nil,AV.nil,AV.nil,AV.nil])] ?_
 show Ref (AV.agg [(AV.str (ByteArray.mk #[119,97,108,107,101,114])),(AV.list 27 [[(AV.str (ByteArray.mk #[116,114,117,110,107])),(AV.int .i64 (-1:Int)),(AV.q 0 0),(AV.q 0 0),(AV.q (2:Rat) 64),(AV.q (1:Rat) 64),(AV.q 0 0),(AV.q 0 0),(AV.q 0 0),(AV.q 0 0),AV.nil],[(AV.str (ByteArray.mk #[108,101,103])),(AV.int .i64 (0:Int)),(AV.q 0 0),(AV.q 0 0),(AV.q (1:Rat) 64),(AV.q (1:Rat) 64),(AV.q (0:Rat) 64),(AV.q ((-1):Rat) 64),(AV.q (-(1:Rat)) 64),(AV.q (1:Rat) 64),AV.nil],[(AV.str (ByteArray.mk #[115,104,105,110])),(AV.int .i64 (1:Int)),(AV.q (0:Rat) 64),(AV.q ((-2):Rat) 64),(AV.q (1:Rat) 64),(AV.q (1:Rat) 64),(AV.q (0:Rat) 64),(AV.q ((-1):Rat) 64),(AV.q (-(1:Rat)) 64),(AV.q (1:Rat) 64),AV.nil]]),AV.nil,AV.nil,AV.nil,AV.nil]) (.agg (unMach 300 walkerM));exact Ref.agg (RefC.tl (RefC.cons (RefC.list3 (bodyLe (by decide)) (bodyLe (by decide)) (bodyLe (by decide))) (RefC.cons RefC.nilL (RefC.cons RefC.nilL (RefC.cons RefC.nilL RefC.nilL)))))
def KD97_ok:=(kn.cons a98).cons a25
def k97:KF
 | [.int .i64 x,.int .i64 z]=>some (.agg [.q 0 64,.q 4 64,.q 0 0,.list 3 [[.q (x:Rat) 64],[.q (z:Rat) 64]]],[(-9223372036854775808:Int)<=x,x<=(9223372036854775807:Int),(-9223372036854775808:Int)<=z,z<=(9223372036854775807:Int)])
 | _=>none
theorem a97:Ctr 97 k97:=by
 refine ctr Tryz.f97 fun _ _ _ S w0 h ho=> ?_
 unfold k97 at h;split at h <;> cases h;rename_i x z;obtain⟨o1,o2,o3,o4⟩:=ho.e4;refine gN KD97_ok [4] [] (.c6 (dc ((-9223372036854775808:Int)<=0)) (dc (0<=(9223372036854775807:Int))) (dc ((-9223372036854775808:Int)<=4)) (dc (4<=(9223372036854775807:Int))) o1 o2 (.a2 o3 o4)) (t:=[.code .ret]) (σ:=slots 12 [(4,.ptr 0 10 0 0)]) (h:=[some ⟨61,10,false,[[.q (0:Rat) 64,.q (4:Rat) 64,.q 0 0,.own 4 3 0 2]],none⟩,none,none,none,some ⟨56,3,false,[[.q (x:Rat) 64],[.q (z:Rat) 64]],none⟩]) ?_
 refine Good.freezeD (b:=⟨56,3,false,[[(.q (x:Rat) 64)],[(.q (z:Rat) 64)]],none⟩) 4 (by rfl) (by rfl) .on (.oe (.a1 (dc (0+2<=2)))) ?_;refine gE [(AV.agg [(AV.q (0:Rat) 64),(AV.q (4:Rat) 64),(AV.q 0 0),(AV.list 3 [[(AV.q (x:Rat) 64)],[(AV.q (z:Rat) 64)]])])] ?_;show Ref (AV.agg [(AV.q (0:Rat) 64),(AV.q (4:Rat) 64),(AV.q 0 0),(AV.list 3 [[(AV.q (x:Rat) 64)],[(AV.q (z:Rat) 64)]])]) (.agg [.q 0 64,.q 4 64,.q 0 0,.list 3 [[.q (x:Rat) 64],[.q (z:Rat) 64]]]);exact rr
deriving instance DecidableEq for PtD,Sd,BendD
abbrev stoodP (a b:Rat):PoseD:=⟨⟨0,4⟩,0,[a,b]⟩
theorem aw30 (a:Rat) (x z:Rat) (h1:worldE walkerM 2 2=0) (h2:worldV walkerM (stoodP a 0) 2 ⟨(0:Rat),(-2:Rat)⟩=⟨x,z⟩):Ref (.tup [.agg [.q (worldV walkerM (stoodP a 0) 2 ⟨(0:Rat),(-2:Rat)⟩).x (4*SZ 64+64+64+8),.q (worldV walkerM (stoodP a 0) 2 ⟨(0:Rat),(-2:Rat)⟩).z (4*SZ 64+64+64+8)],.i6 (worldE walkerM 2 2)]) (.tup [.agg [.q x 24008,.q z 24008],.i6 0]):=Ref.eq (by rw[h1,h2];rfl)
theorem aw66:Ref (.tup [.agg [.q (centreV walkerM (stoodP 0 0)).x (32*SZ 64+26656),.q (centreV walkerM (stoodP 0 0)).z (32*SZ 64+26656)],.i6 (poseE walkerM 2)]) (.tup [.agg [.q 0 217632,.q 3 217632],.i6 0]):=Ref.eq (by rw[show centreV walkerM (stoodP 0 0)=⟨0,3⟩ from by decide+kernel,show poseE walkerM 2=0 from by decide+kernel];rfl)
theorem aw40:Ref (.tup [.list 19 ((bndsL walkerM (stoodP 0 0) 2 ⟨(0:Rat),(-2:Rat)⟩ ⟨(2:Rat),(2:Rat)⟩).map (unBend (bS1 64 64 (lX 64 64 64) (lX 64 64 64)) (bS2 64 64 (lX 64 64 64) (lX 64 64 64)) (bS3 64 64 (lX 64 64 64) (lX 64 64 64)) (bT 64 64 (lX 64 64 64) (lX 64 64 64)))),.i6 (bndsE walkerM (stoodP 0 0) 2 ⟨(0:Rat),(-2:Rat)⟩ ⟨(2:Rat),(2:Rat)⟩)]) (.tup [.list 19 [[.q 1 18904124229,.q 0 9452927697,.q 0 3462331,.q (-1) 1731164,.q 0 1731164,.q 0 1731164,.bool true],[.q (0:Rat) 18904124229,.q 0 9452927697,.q 0 3462331,.q 1 1731164,.q 0 1731164,.q 0 1731164,.bool true]],.i6 0]):=Ref.eq (by rw[show bndsL walkerM (stoodP 0 0) 2 ⟨(0:Rat),(-2:Rat)⟩ ⟨(2:Rat),(2:Rat)⟩= [⟨⟨1,0,0⟩,⟨-1,0,0⟩,true⟩,⟨⟨0,0,0⟩,⟨1,0,0⟩,true⟩] from by decide+kernel,show bndsE walkerM (stoodP 0 0) 2 ⟨(0:Rat),(-2:Rat)⟩ ⟨(2:Rat),(2:Rat)⟩=0 from by decide+kernel];rfl)
def k22:KF
 | []=>some (.bool true,[])
 | _=>none
abbrev d22_0:List AV:=[.str (walkerM.name),.list 27 (walkerM.bodies.map (unBody 300)),.list 17 (walkerM.springs.map (unCordy 300)),.list 17 (walkerM.tendons.map (unCordy 300)),.list 13 (walkerM.motors.map (unMotor 300)),.list 5 (walkerM.feet.map (unFoot 300))]
abbrev d22_1:=(reMach [(AV.str (walkerM.name)),(AV.list 27 (walkerM.bodies.map (unBody 300))),(AV.list 17 (walkerM.springs.map (unCordy 300))),(AV.list 17 (walkerM.tendons.map (unCordy 300))),(AV.list 13 (walkerM.motors.map (unMotor 300))),(AV.list 5 (walkerM.feet.map (unFoot 300)))])
theorem a22:Ctr 22 k22:=by
 refine ctr Tryz.f22 fun _ _ _ S w0 h ho=> ?_
 unfold k22 at h;split at h <;> cases h;have K:=(((((((((kn.cons a60).cons a104).cons a25).cons a35).cons a40).cons a66).cons a30).cons a98).cons a97).cons a96;have v0:(d22_0)=unMach 300 (reMach (d22_0)):=by rfl
 have v1:(d22_1).bodies.length<=8:=by decide+kernel
 have v2:(-9223372036854775808:Int)<=0:=by decide
 have v3:0<=(9223372036854775807:Int):=by decide
 have v4:Ref (.list 3 [[.q (0:Rat) 64],[.q (0:Rat) 64]]) (.list 3 (([[(AV.q (0:Rat) 64)],[(AV.q (0:Rat) 64)]].map reQ).map (unQ 64))):=rr;have v5: [[(AV.q (0:Rat) 64)],[(AV.q (0:Rat) 64)]].length<=4611686018427387904:=by decide+kernel
 have v6:24008+300<=LIM:=by decide+kernel
 have v7:(-9223372036854775808:Int)<=(-2):=by decide+kernel
 have v8:(-2)<=(9223372036854775807:Int):=by decide+kernel
 have v9:64<=100000:=by decide
 have v10:64<=64:=by decide
 have v11:8*SZ 64+2*64+2*64+400<=LIM:=by decide+kernel
 have v12:0<=64:=by decide
 have v13:0<=(0:Int):=by decide
 have v14:(0:Int)<2:=by decide
 have v15:(-9223372036854775808:Int)<=1:=by decide
 have v16:(-9223372036854775808:Int)<=2:=by decide
 have v17:(-9223372036854775808:Int)<=4:=by decide
 have v18:1<=(9223372036854775807:Int):=by decide
 have v19:2<=(9223372036854775807:Int):=by decide
 have v20:4<=(9223372036854775807:Int):=by decide
 have v21:217632+300<=LIM:=by decide+kernel
 exact rR K [(10,.agg (d22_0)),(15,.tup [.agg [.q 0 24008,.q 0 24008],.i6 (0:Int)]),(22,.tup [.agg [.q 4 24008,.q 4 24008],.i6 (0:Int)]),(28,.tup [.agg [.q 0 217632,.q 3 217632],.i6 (0:Int)]),(36,.tup [.list 19 [[.q 1 18904124229,.q 0 9452927697,.q 0 3462331,.q (-1) 1731164,.q 0 1731164,.q 0 1731164,.bool true],[.q (0:Rat) 18904124229,.q 0 9452927697,.q 0 3462331,.q 1 1731164,.q 0 1731164,.q 0 1731164,.bool true]],.i6 (0:Int)]),(55,tt),(59,tt),(63,tt),(83,.i6 (0:Int)),(93,.i6 (0:Int)),(102,.i6 (0:Int))] (.c6 (show Ref (.agg (unMach 300 walkerM)) (.agg (d22_0)) from rr) v2 v3 v2 v3 v2 (.c6 v3 v7 v8 (show Ref (.tup [.agg [.q ((worldV (d22_1) ⟨⟨0,4⟩,0,[[(AV.q (0:Rat) 64)],[(AV.q (0:Rat) 64)]].map reQ⟩ 2 ⟨(0:Rat),((-2):Rat)⟩).x) (4*SZ 64+64+64+8),.q ((worldV (d22_1) ⟨⟨0,4⟩,0,[[(AV.q (0:Rat) 64)],[(AV.q (0:Rat) 64)]].map reQ⟩ 2 ⟨(0:Rat),((-2):Rat)⟩).z) (4*SZ 64+64+64+8)],.i6 (worldE (reMach (d22_0)) [[(AV.q (0:Rat) 64)],[(AV.q (0:Rat) 64)]].length 2)]) (.tup [.agg [.q 0 24008,.q 0 24008],.i6 (0:Int)]) from aw30 0 0 0 (by decide+kernel) (by decide+kernel)) v0 (show(d22_1).small by(refine⟨?_, ?_, ?_, ?_, ?_⟩ <;> decide+kernel)) (.c6 v1 v10 v12 v9 v4 v5 (.c6 v11 v15 v18 v2 v3 v2 (.c6 v3 v7 v8 (show Ref (.tup [.agg [.q ((worldV (d22_1) ⟨⟨0,4⟩,0,[[(AV.q (1:Rat) 64)],[(AV.q (0:Rat) 64)]].map reQ⟩ 2 ⟨(0:Rat),((-2):Rat)⟩).x) (4*SZ 64+64+64+8),.q ((worldV (d22_1) ⟨⟨0,4⟩,0,[[(AV.q (1:Rat) 64)],[(AV.q (0:Rat) 64)]].map reQ⟩ 2 ⟨(0:Rat),((-2):Rat)⟩).z) (4*SZ 64+64+64+8)],.i6 (worldE (reMach (d22_0)) [[(AV.q (1:Rat) 64)],[(AV.q (0:Rat) 64)]].length 2)]) (.tup [.agg [.q 4 24008,.q 4 24008],.i6 (0:Int)]) from aw30 1 4 4 (by decide+kernel) (by decide+kernel)) v0 (show(d22_1).small by(refine⟨?_, ?_, ?_, ?_, ?_⟩ <;> decide+kernel)) (.c6 v1 v10 v12 v9 (show Ref (.list 3 [[.q (1:Rat) 64],[.q (0:Rat) 64]]) (.list 3 (([[(AV.q (1:Rat) 64)],[(AV.q (0:Rat) 64)]].map reQ).map (unQ 64))) from rr) (show [[(AV.q (1:Rat) 64)],[(AV.q (0:Rat) 64)]].length<=4611686018427387904 by decide+kernel) (.c6 v11 v2 v3 v2 v3 aw66 (.c6 v0 (show(d22_1).small by(refine⟨?_, ?_, ?_, ?_, ?_⟩ <;> decide+kernel)) v1 v10 v12 v9 (.c6 v4 v5 v2 v3 v2 v3 (.c6 v2 v3 v7 v8 v16 v19 (.c6 v16 v19 aw40 v0 (show(d22_1).small by(refine⟨?_, ?_, ?_, ?_, ?_⟩ <;> decide+kernel)) v1 (.c6 v10 v12 v9 v4 v5 (show 8*bS1 64 64 (lX 64 64 64) (lX 64 64 64)+8*bS2 64 64 (lX 64 64 64) (lX 64 64 64)+4*bS3 64 64 (lX 64 64 64) (lX 64 64 64)+400*bT 64 64 (lX 64 64 64) (lX 64 64 64)+20000<=LIM by decide+kernel) (.c6 (show 64+64+20*SZ 64+20000<=LIM by decide+kernel) (show Ref (.bool (decide (0=(0:Rat)/\0=(0:Rat)))) (.bool true) from Ref.bool (by decide+kernel)) v6 v6 v2 v3 (.c6 v2 v3 (show Ref (.bool (decide (4=(4:Rat)/\4=(4:Rat)))) (.bool true) from Ref.bool (by decide+kernel)) v6 v6 v17 (.c6 v20 v17 v20 (show Ref (.bool (decide (0=(0:Rat)/\3=(3:Rat)))) (.bool true) from Ref.bool (by decide+kernel)) v21 v21 (.c6 v2 v3 (dc ((-9223372036854775808:Int)<=3)) (dc (3<=(9223372036854775807:Int))) v13 v14 (.c6 v13 v14 v15 v18 (show Ref (.i6 (cmpQ 1 (1:Rat))) (.i6 (0:Int)) from Ref.eq (congrArg _ (by decide+kernel))) (show 18904124229+64+200<=LIM by decide+kernel) (.c6 v13 v14 (show(-9223372036854775808:Int)<=(-1) by decide+kernel) (show(-1)<=(9223372036854775807:Int) by decide+kernel) (show Ref (.i6 (cmpQ (-1) ((-1):Rat))) (.i6 (0:Int)) from Ref.eq (congrArg _ (by decide+kernel))) (show 1731164+64+200<=LIM by decide+kernel) (.a3 (dc (0<=(1:Int))) (dc ((1:Int)<2)) (show Ref (.i6 (Int.sign (0:Rat).num)) (.i6 (0:Int)) from Ref.eq (congrArg _ (by decide+kernel))))))))))))))))))))))
def k49:KF
 | [.agg [.str mn,.list 27 XB,.list 17 XS,.list 17 XT,.list 13 XD,.list 5 XF],.agg [.q ax A1,.q az A2,.q tu A3,.list 3 J]]=>some (.int .i64 (poseE (reMach [AV.str mn,AV.list 27 XB,AV.list 17 XS,AV.list 17 XT,AV.list 13 XD,AV.list 5 XF]) J.length),[[AV.str mn,AV.list 27 XB,AV.list 17 XS,AV.list 17 XT,AV.list 13 XD,AV.list 5 XF]=unMach 300 (reMach [AV.str mn,AV.list 27 XB,AV.list 17 XS,AV.list 17 XT,AV.list 13 XD,AV.list 5 XF]),(reMach [AV.str mn,AV.list 27 XB,AV.list 17 XS,AV.list 17 XT,AV.list 13 XD,AV.list 5 XF]).small,J.length<=4611686018427387904,XB.length<=4611686018427387904])
 | _=>none
theorem a49:Ctr 49 k49:=by
 refine ctr Tryz.f49 fun _ _ _ S w0 h ho=> ?_
 unfold k49 at h;split at h <;> cases h;rename_i mn XB XS XT XD XF ax A1 az A2 tu A3 J;obtain⟨o1,o2,o3,o4⟩:=ho.e4;have K:=kn.cons a103;have hb:((reMach [AV.str mn,AV.list 27 XB,AV.list 17 XS,AV.list 17 XT,AV.list 13 XD,AV.list 5 XF]).bodies.length:Int)=((XB.length:Nat):Int):=by simp[reMach]
 by_cases h1:(checkE (reMach [(AV.str mn),(AV.list 27 XB),(AV.list 17 XS),(AV.list 17 XT),(AV.list 13 XD),(AV.list 5 XF)]))=(0:Int)
 · by_cases h2:((J.length:Nat):Int)=(((XB.length:Nat):Int)-(1:Int))
   · exact rF K [(10,tt),(17,.i6 ((XB.length:Int)-(1:Int))),(19,ff)] (.a5 o1 o2 (iT h1) (wI ((XB.length:Int)-(1:Int)) ((XB.length:Int)-(1:Int)) (by first | assumption | omega)) (jF h2)) (V:=.i6 (checkE (reMach [.str mn,.list 27 XB,.list 17 XS,.list 17 XT,.list 13 XD,.list 5 XF]))) (Ref.int (by unfold poseE;rw[if_pos h1,hb,if_pos h2];exact h1))
   · exact rF K [(10,tt),(17,.i6 ((XB.length:Int)-(1:Int))),(19,tt)] (.a5 o1 o2 (iT h1) (wI ((XB.length:Int)-(1:Int)) ((XB.length:Int)-(1:Int)) (by first | assumption | omega)) (jT h2)) (V:=.i6 (2:Int)) (Ref.int (by unfold poseE;rw[if_pos h1,hb,if_neg h2]))
 · exact rF K [(10,ff)] (.a3 o1 o2 (iF h1)) (V:=.i6 (checkE (reMach [.str mn,.list 27 XB,.list 17 XS,.list 17 XT,.list 13 XD,.list 5 XF]))) (Ref.int (by unfold poseE;rw[if_neg h1]))
def KT171_ok:=kn.cons a231
def reFm:List AV->FrameD
 | [.q x _,.q z _,.q c _,.q s _]=>⟨⟨x,z⟩,c,s⟩
 | _=>default
def reFs (X:List (List AV)):Nat:=match X.headD [] with
 | [_,_,.q _ e,_]=>e
 | _=>0
def E171 (bs:List BodyD) (fs:List FrameD) (s i:Nat):List AV:=[.list 6 ((bs.getD i default).shape.map (G231 (fs.getD i default) (2*s) (2*s) s s))]
noncomputable abbrev T171:List Item:=[.code (nav [1,1,0,1,0,0] (bodyOf Tryz.f171)),.inLoop (nav [1,1,0,1,0,0] (bodyOf Tryz.f171)),.inBlock 0,.code (nav [1,1,1] (bodyOf Tryz.f171))]
section
variable {S:Nat->Prop} {w0:World} {mn:ByteArray} {bs:List BodyD} {ft:List FootD} {fs:List FrameD} {XS XT XD:List (List AV)} {s:Nat}
abbrev PL171 (mn:ByteArray) (bs:List BodyD) (ft:List FootD) (fs:List FrameD) (XS XT XD:List (List AV)) (s:Nat):AV:=.cptr [.str mn,.list 27 (bs.map (unBody 300)),.list 17 XS,.list 17 XT,.list 13 XD,.list 5 (ft.map (unFoot 300)),.list 12 (fs.map (unF s))] 0
theorem loop171 (hL:8*s+1600<=LIM) (hl:bs.length<=1000000) (hX:∀ i,i<bs.length->(bs.getD i default).shape.length<=1000000/\i<fs.length):∀ (j i:Nat),i+j=bs.length->1<=i->
   GF 171 S w0 (.list 1 ((List.range bs.length).map (E171 bs fs s))) T171 ⟨slots 32 [(0,PL171 mn bs ft fs XS XT XD s),(3,.own 0 1 0 i),(10,.list 27 (bs.map (unBody 300))),(11,.i6 ((bs.length:Nat):Int)),(12,.i6 ((i:Nat):Int))],[some ⟨112,1,true,(List.range i).map (E171 bs fs s),none⟩]⟩:=by
 have hlm:(bs.map (unBody 300)).length=bs.length:=lmE ..;have hlf:(fs.map (unF s)).length=fs.length:=lmE ..;intro j
 induction j with
 | zero=>
   intro i hij h1;have hi:i=bs.length:=by omega
   subst hi;refine gN KT171_ok [2] [(13,ff)] (.a1 (iF (om (¬ ((bs.length:Int)<(bs.length:Int)))))) (t:=[.code .ret]) (σ:=slots 32 [(2,.own 0 1 0 bs.length)]) (h:=[some ⟨112,1,true,((List.range bs.length).map (E171 bs fs s)),none⟩]) ?_
   refine Good.freezeD (b:=⟨112,1,true,(List.range bs.length).map (E171 bs fs s),none⟩) 0 (by rfl) (by rfl) (.oe (.a1 (show 0+bs.length<=((List.range bs.length).map (E171 bs fs s)).length by simp))) .on ?_
   exact good_ret1 TT0_ok (fn:=Tryz.f171) (by kernel_rfl) 2 (by kernel_rfl) rfl (by rfl) (by
     show Ref (.list 1 ((((List.range bs.length).map (E171 bs fs s)).drop 0).take bs.length)) _
     exact Ref.eq (by rw[List.drop_zero,tkE (by simp)]))
 | succ j ih=>
   intro i hij h1;have hi:i<bs.length:=by omega
   have h:=hX i hi;refine gR KT171_ok none [0,2,3,10,11,12] [4] [(13,tt),(15,.cptr (unBody 300 (bs.getD i default)) 0),(23,.cptr (unF s (fs.getD i default)) 0),(27,.list 6 ((bs.getD i default).shape.map (G231 (fs.getD i default) (2*s) (2*s) s s))),(30,.i6 ((i+1:Nat):Int))] (.c6 (iT (om ((i:Int)<(bs.length:Int)))) (show Ref (.cptr ((bs.map (unBody 300)).getD i []) 0) (.cptr (unBody 300 (bs.getD i default)) 0) from Ref.cmap (f:=unBody 300) hi) (nn i) (show(i:Int)<((bs.map (unBody 300)).length:Int) by rw[hlm];omega) (show Ref (.cptr ((fs.map (unF s)).getD i []) 0) (.cptr (unF s (fs.getD i default)) 0) from Ref.cmap (f:=unF s) h.2) (nn i) (.c6 (show(i:Int)<((fs.map (unF s)).length:Int) by rw[hlf];omega) (show Ref (.list 6 ((((bs.getD i default).shape.map (unP 300)).map rePt).map (G231 ⟨⟨(fs.getD i default).at_.x,(fs.getD i default).at_.z⟩,(fs.getD i default).c,(fs.getD i default).s⟩ (2*s) (2*s) s s))) (.list 6 ((bs.getD i default).shape.map (G231 (fs.getD i default) (2*s) (2*s) s s))) from Ref.eq (congrArg (fun l=>AV.list 6 (l.map (G231 (fs.getD i default) (2*s) (2*s) s s))) (rePt_un _))) (show((bs.getD i default).shape.map (unP 300))=(((bs.getD i default).shape.map (unP 300)).map rePt).map (unP 300) by rw[rePt_un]) (show((bs.getD i default).shape.map (unP 300)).length<=1000000 by rw[lmE];exact h.1) (om ((2*s)+(2*s)+2*300+2*300+2*s+2*s+400<=LIM)) r1 (.a4 (show i=((List.range i).map (E171 bs fs s)).length by simp) (om ((i+1)*24<=140737488355328)) (show i+1<=big by unfold big;omega) (wI ((i:Int)+(1:Int)) ((i+1:Nat):Int))))) (t:=T171) (σ:=slots 32 [(0,.cptr [.str mn,.list 27 (bs.map (unBody 300)),.list 17 XS,.list 17 XT,.list 13 XD,.list 5 (ft.map (unFoot 300)),.list 12 (fs.map (unF s))] 0),(3,.own 0 1 0 (i+1)),(10,.list 27 (bs.map (unBody 300))),(11,.i6 (bs.length:Int)),(12,.i6 ((i+1:Nat):Int))]) (h:=[some ⟨112,1,true,(((List.range i).map (E171 bs fs s))++ [[(AV.list 6 ((bs.getD i default).shape.map (G231 (fs.getD i default) (2*s) (2*s) s s)))]]),none⟩]) ?_
   have e:(List.range i).map (E171 bs fs s)++ [E171 bs fs s i]=(List.range (i+1)).map (E171 bs fs s):=by rw[List.range_succ];simp
   show Good Tryz.prog 171 S No w0 _ T171 ⟨_,[some ⟨112,1,true,(List.range i).map (E171 bs fs s)++ [E171 bs fs s i],none⟩]⟩;rw[e];refine Good.pk 32 [(0,PL171 mn bs ft fs XS XT XD s),(3,.own 0 1 0 (i+1)),(10,.list 27 (bs.map (unBody 300))),(11,.i6 ((bs.length:Nat):Int)),(12,.i6 ((i+1:Nat):Int))] ?_;exact ih (i+1) (by omega) (by omega)
theorem run171 (hL:8*s+1600<=LIM) (hl:bs.length<=1000000) (hX:∀ i,i<bs.length->(bs.getD i default).shape.length<=1000000/\i<fs.length):
   GF 171 S w0 (.list 1 ((List.range bs.length).map (E171 bs fs s))) [.code (nav [] (bodyOf Tryz.f171))] ⟨slots 32 [(0,PL171 mn bs ft fs XS XT XD s)],[]⟩:=by
 have hlm:(bs.map (unBody 300)).length=bs.length:=lmE ..;have hlf:(fs.map (unF s)).length=fs.length:=lmE ..;refine gN KT171_ok [0,3,10,11,12] [] .nil (t:=T171) (σ:=slots 32 [(0,PL171 mn bs ft fs XS XT XD s),(3,.nil),(10,.list 27 (bs.map (unBody 300))),(11,.i6 (((bs.map (unBody 300)).length:Nat):Int)),(12,.i6 ((0:Nat):Int))]) (h:=[]) ?_
 rw[hlm];rcases Nat.eq_zero_or_pos bs.length with h0 | h0
 · have hn:bs= []:=List.eq_nil_of_length_eq_zero h0
   subst hn;refine rF KT171_ok [(13,ff)] (.a1 (iF (dc (¬ ((0:Int)<(0:Int)))))) (V:=AV.nil) Ref.nilL
 · have h:=hX 0 h0
   have hi:=h0;exact gR KT171_ok none [0,3,10,11,12] [3] [(13,tt),(15,.cptr (unBody 300 (bs.getD 0 default)) 0),(23,.cptr (unF s (fs.getD 0 default)) 0),(27,.list 6 ((bs.getD 0 default).shape.map (G231 (fs.getD 0 default) (2*s) (2*s) s s))),(30,.i6 ((0+1:Nat):Int))] (.c6 (iT (om ((0:Int)<(bs.length:Int)))) (show Ref (.cptr ((bs.map (unBody 300)).getD 0 []) 0) (.cptr (unBody 300 (bs.getD 0 default)) 0) from Ref.cmap (f:=unBody 300) h0) (nn 0) (show(0:Int)<((bs.map (unBody 300)).length:Int) by rw[hlm];omega) (show Ref (.cptr ((fs.map (unF s)).getD 0 []) 0) (.cptr (unF s (fs.getD 0 default)) 0) from Ref.cmap (f:=unF s) h.2) (nn 0) (.c6 (show(0:Int)<((fs.map (unF s)).length:Int) by rw[hlf];omega) (show Ref (.list 6 ((((bs.getD 0 default).shape.map (unP 300)).map rePt).map (G231 ⟨⟨(fs.getD 0 default).at_.x,(fs.getD 0 default).at_.z⟩,(fs.getD 0 default).c,(fs.getD 0 default).s⟩ (2*s) (2*s) s s))) (.list 6 ((bs.getD 0 default).shape.map (G231 (fs.getD 0 default) (2*s) (2*s) s s))) from Ref.eq (congrArg (fun l=>AV.list 6 (l.map (G231 (fs.getD 0 default) (2*s) (2*s) s s))) (rePt_un _))) (show((bs.getD 0 default).shape.map (unP 300))=(((bs.getD 0 default).shape.map (unP 300)).map rePt).map (unP 300) by rw[rePt_un]) (show((bs.getD 0 default).shape.map (unP 300)).length<=1000000 by rw[lmE];exact h.1) (om ((2*s)+(2*s)+2*300+2*300+2*s+2*s+400<=LIM)) r1 (.a4 (dc (0<1)) (dc (1*24<=140737488355328)) (dc (1<=big)) (wI ((0:Int)+(1:Int)) ((0+1:Nat):Int) (by decide))))) (loop171 (mn:=mn) (ft:=ft) (XS:=XS) (XT:=XT) (XD:=XD) hL hl hX (bs.length-1) 1 (by omega) (rl _))
end
def k171:KF
 | [.cptr [.str mn,.list 27 XB,.list 17 XS,.list 17 XT,.list 13 XD,.list 5 XF,.list 12 XR] 0]=>some (.list 1 ((List.range (XB.map reBody).length).map (E171 (XB.map reBody) (XR.map reFm) (reFs XR))),[XB=(XB.map reBody).map (unBody 300),XF=(XF.map reFoot).map (unFoot 300),XR=(XR.map reFm).map (unF (reFs XR)),8*reFs XR+1600<=LIM,(XB.map reBody).length<=1000000,∀ i,i<(XB.map reBody).length->((XB.map reBody).getD i default).shape.length<=1000000/\i<(XR.map reFm).length])
 | _=>none
theorem a171:Ctr 171 k171:=fun args r ob h ho=>by
 unfold k171 at h
 split at h
 · rename_i mn XB XS XT XD XF XR
   cases h;have o1:XB=(XB.map reBody).map (unBody 300):=ho _ (by simp);have o2:XF=(XF.map reFoot).map (unFoot 300):=ho _ (by simp);have o3:XR=(XR.map reFm).map (unF (reFs XR)):=ho _ (by simp);have o4:8*reFs XR+1600<=LIM:=ho _ (by simp);have o5:(XB.map reBody).length<=1000000:=ho _ (by simp);have o6:∀ i,i<(XB.map reBody).length->((XB.map reBody).getD i default).shape.length<=1000000/\i<(XR.map reFm).length:=ho _ (by simp);clear ho;generalize XB.map reBody=bs at*;generalize XF.map reFoot=ft at*;generalize reFs XR=s at*;generalize XR.map reFm=fs at*;subst o1;subst o2;subst o3;refine af Tryz.f171 fun S w0=> ?_
   refine Good.pk 32 [(0,PL171 mn bs ft fs XS XT XD s)] ?_;exact run171 o4 o5 o6
 · cases h
def KT149_ok:=kn.cons a231
def E149 (ft:List FootD) (fs:List FrameD) (s i:Nat):List AV:=[.list 6 ((ft.getD i default).pts.map (G231 (fs.getD (ft.getD i default).body.toNat default) (2*s) (2*s) s s))]
noncomputable abbrev T149:List Item:=[.code (nav [1,1,0,1,0,0] (bodyOf Tryz.f149)),.inLoop (nav [1,1,0,1,0,0] (bodyOf Tryz.f149)),.inBlock 0,.code (nav [1,1,1] (bodyOf Tryz.f149))]
section
variable {S:Nat->Prop} {w0:World} {mn:ByteArray} {bs:List BodyD} {ft:List FootD} {fs:List FrameD} {XS XT XD:List (List AV)} {s:Nat}
abbrev PL149 (mn:ByteArray) (bs:List BodyD) (ft:List FootD) (fs:List FrameD) (XS XT XD:List (List AV)) (s:Nat):AV:=.cptr [.str mn,.list 27 (bs.map (unBody 300)),.list 17 XS,.list 17 XT,.list 13 XD,.list 5 (ft.map (unFoot 300)),.list 12 (fs.map (unF s))] 0
theorem loop149 (hL:8*s+1600<=LIM) (hl:ft.length<=1000000) (hX:∀ i,i<ft.length->(ft.getD i default).pts.length<=1000000/\0<=(ft.getD i default).body/\(ft.getD i default).body.toNat<fs.length):∀ (j i:Nat),i+j=ft.length->1<=i->
   GF 149 S w0 (.list 1 ((List.range ft.length).map (E149 ft fs s))) T149 ⟨slots 32 [(0,PL149 mn bs ft fs XS XT XD s),(3,.own 0 1 0 i),(10,.list 5 (ft.map (unFoot 300))),(11,.i6 ((ft.length:Nat):Int)),(12,.i6 ((i:Nat):Int))],[some ⟨112,1,true,(List.range i).map (E149 ft fs s),none⟩]⟩:=by
 have hlm:(ft.map (unFoot 300)).length=ft.length:=lmE ..;have hlf:(fs.map (unF s)).length=fs.length:=lmE ..;intro j
 induction j with
 | zero=>
   intro i hij h1;have hi:i=ft.length:=by omega
   subst hi;refine gN KT149_ok [2] [(13,ff)] (.a1 (iF (om (¬ ((ft.length:Int)<(ft.length:Int)))))) (t:=[.code .ret]) (σ:=slots 32 [(2,.own 0 1 0 ft.length)]) (h:=[some ⟨112,1,true,((List.range ft.length).map (E149 ft fs s)),none⟩]) ?_
   refine Good.freezeD (b:=⟨112,1,true,(List.range ft.length).map (E149 ft fs s),none⟩) 0 (by rfl) (by rfl) (.oe (.a1 (show 0+ft.length<=((List.range ft.length).map (E149 ft fs s)).length by simp))) .on ?_
   exact good_ret1 TT0_ok (fn:=Tryz.f149) (by kernel_rfl) 2 (by kernel_rfl) rfl (by rfl) (by
     show Ref (.list 1 ((((List.range ft.length).map (E149 ft fs s)).drop 0).take ft.length)) _
     exact Ref.eq (by rw[List.drop_zero,tkE (by simp)]))
 | succ j ih=>
   intro i hij h1;have hi:i<ft.length:=by omega
   have h:=hX i hi;refine gR KT149_ok none [0,2,3,10,11,12] [4] [(13,tt),(14,.cptr (unFoot 300 (ft.getD i default)) 0),(22,.i6 ((((ft.getD i default).body.toNat):Nat):Int)),(23,.cptr [.q (fs.getD (ft.getD i default).body.toNat default).at_.x (2*s),.q (fs.getD (ft.getD i default).body.toNat default).at_.z (2*s),.q (fs.getD (ft.getD i default).body.toNat default).c s,.q (fs.getD (ft.getD i default).body.toNat default).s s] 0),(27,.list 6 ((ft.getD i default).pts.map (G231 (fs.getD (ft.getD i default).body.toNat default) (2*s) (2*s) s s))),(30,.i6 ((i+1:Nat):Int))] (.c6 (iT (om ((i:Int)<(ft.length:Int)))) (show Ref (.cptr ((ft.map (unFoot 300)).getD i []) 0) (.cptr (unFoot 300 (ft.getD i default)) 0) from Ref.cmap (f:=unFoot 300) hi) (nn i) (show(i:Int)<((ft.map (unFoot 300)).length:Int) by rw[hlm];omega) (show Ref (.i6 (ft.getD i default).body) (.i6 ((((ft.getD i default).body.toNat):Nat):Int)) from Ref.int (by have:=h.2.1;omega)) (show Ref (.cptr ((fs.map (unF s)).getD ((ft.getD i default).body.toNat) []) 0) (.cptr [.q (fs.getD (ft.getD i default).body.toNat default).at_.x (2*s),.q (fs.getD (ft.getD i default).body.toNat default).at_.z (2*s),.q (fs.getD (ft.getD i default).body.toNat default).c s,.q (fs.getD (ft.getD i default).body.toNat default).s s] 0) from Ref.cmap (f:=unF s) h.2.2) (.c6 (nn ((ft.getD i default).body.toNat)) (show((((ft.getD i default).body.toNat):Nat):Int)<((fs.map (unF s)).length:Int) by rw[hlf];have:=h.2.2;omega) (show Ref (.list 6 ((((ft.getD i default).pts.map (unP 300)).map rePt).map (G231 ⟨⟨(fs.getD (ft.getD i default).body.toNat default).at_.x,(fs.getD (ft.getD i default).body.toNat default).at_.z⟩,(fs.getD (ft.getD i default).body.toNat default).c,(fs.getD (ft.getD i default).body.toNat default).s⟩ (2*s) (2*s) s s))) (.list 6 ((ft.getD i default).pts.map (G231 (fs.getD (ft.getD i default).body.toNat default) (2*s) (2*s) s s))) from Ref.eq (congrArg (fun l=>AV.list 6 (l.map (G231 (fs.getD (ft.getD i default).body.toNat default) (2*s) (2*s) s s))) (rePt_un _))) (show((ft.getD i default).pts.map (unP 300))=(((ft.getD i default).pts.map (unP 300)).map rePt).map (unP 300) by rw[rePt_un]) (show((ft.getD i default).pts.map (unP 300)).length<=1000000 by rw[lmE];exact h.1) (om ((2*s)+(2*s)+2*300+2*300+2*s+2*s+400<=LIM)) (.a5 r1 (show i=((List.range i).map (E149 ft fs s)).length by simp) (om ((i+1)*24<=140737488355328)) (show i+1<=big by unfold big;omega) (wI ((i:Int)+(1:Int)) ((i+1:Nat):Int))))) (t:=T149) (σ:=slots 32 [(0,.cptr [.str mn,.list 27 (bs.map (unBody 300)),.list 17 XS,.list 17 XT,.list 13 XD,.list 5 (ft.map (unFoot 300)),.list 12 (fs.map (unF s))] 0),(3,.own 0 1 0 (i+1)),(10,.list 5 (ft.map (unFoot 300))),(11,.i6 (ft.length:Int)),(12,.i6 ((i+1:Nat):Int))]) (h:=[some ⟨112,1,true,(((List.range i).map (E149 ft fs s))++ [[(AV.list 6 ((ft.getD i default).pts.map (G231 (fs.getD (ft.getD i default).body.toNat default) (2*s) (2*s) s s)))]]),none⟩]) ?_
   have e:(List.range i).map (E149 ft fs s)++ [E149 ft fs s i]=(List.range (i+1)).map (E149 ft fs s):=by rw[List.range_succ];simp
   show Good Tryz.prog 149 S No w0 _ T149 ⟨_,[some ⟨112,1,true,(List.range i).map (E149 ft fs s)++ [E149 ft fs s i],none⟩]⟩;rw[e];refine Good.pk 32 [(0,PL149 mn bs ft fs XS XT XD s),(3,.own 0 1 0 (i+1)),(10,.list 5 (ft.map (unFoot 300))),(11,.i6 ((ft.length:Nat):Int)),(12,.i6 ((i+1:Nat):Int))] ?_;exact ih (i+1) (by omega) (by omega)
theorem run149 (hL:8*s+1600<=LIM) (hl:ft.length<=1000000) (hX:∀ i,i<ft.length->(ft.getD i default).pts.length<=1000000/\0<=(ft.getD i default).body/\(ft.getD i default).body.toNat<fs.length):
   GF 149 S w0 (.list 1 ((List.range ft.length).map (E149 ft fs s))) [.code (nav [] (bodyOf Tryz.f149))] ⟨slots 32 [(0,PL149 mn bs ft fs XS XT XD s)],[]⟩:=by
 have hlm:(ft.map (unFoot 300)).length=ft.length:=lmE ..;have hlf:(fs.map (unF s)).length=fs.length:=lmE ..;refine gN KT149_ok [0,3,10,11,12] [] .nil (t:=T149) (σ:=slots 32 [(0,PL149 mn bs ft fs XS XT XD s),(3,.nil),(10,.list 5 (ft.map (unFoot 300))),(11,.i6 (((ft.map (unFoot 300)).length:Nat):Int)),(12,.i6 ((0:Nat):Int))]) (h:=[]) ?_
 rw[hlm];rcases Nat.eq_zero_or_pos ft.length with h0 | h0
 · have hn:ft= []:=List.eq_nil_of_length_eq_zero h0
   subst hn;refine rF KT149_ok [(13,ff)] (.a1 (iF (dc (¬ ((0:Int)<(0:Int)))))) (V:=AV.nil) Ref.nilL
 · have h:=hX 0 h0
   have hi:=h0;exact gR KT149_ok none [0,3,10,11,12] [3] [(13,tt),(14,.cptr (unFoot 300 (ft.getD 0 default)) 0),(22,.i6 ((((ft.getD 0 default).body.toNat):Nat):Int)),(23,.cptr [.q (fs.getD (ft.getD 0 default).body.toNat default).at_.x (2*s),.q (fs.getD (ft.getD 0 default).body.toNat default).at_.z (2*s),.q (fs.getD (ft.getD 0 default).body.toNat default).c s,.q (fs.getD (ft.getD 0 default).body.toNat default).s s] 0),(27,.list 6 ((ft.getD 0 default).pts.map (G231 (fs.getD (ft.getD 0 default).body.toNat default) (2*s) (2*s) s s))),(30,.i6 ((0+1:Nat):Int))] (.c6 (iT (om ((0:Int)<(ft.length:Int)))) (show Ref (.cptr ((ft.map (unFoot 300)).getD 0 []) 0) (.cptr (unFoot 300 (ft.getD 0 default)) 0) from Ref.cmap (f:=unFoot 300) h0) (nn 0) (show(0:Int)<((ft.map (unFoot 300)).length:Int) by rw[hlm];omega) (show Ref (.i6 (ft.getD 0 default).body) (.i6 ((((ft.getD 0 default).body.toNat):Nat):Int)) from Ref.int (by have:=h.2.1;omega)) (show Ref (.cptr ((fs.map (unF s)).getD ((ft.getD 0 default).body.toNat) []) 0) (.cptr [.q (fs.getD (ft.getD 0 default).body.toNat default).at_.x (2*s),.q (fs.getD (ft.getD 0 default).body.toNat default).at_.z (2*s),.q (fs.getD (ft.getD 0 default).body.toNat default).c s,.q (fs.getD (ft.getD 0 default).body.toNat default).s s] 0) from Ref.cmap (f:=unF s) h.2.2) (.c6 (nn ((ft.getD 0 default).body.toNat)) (show((((ft.getD 0 default).body.toNat):Nat):Int)<((fs.map (unF s)).length:Int) by rw[hlf];have:=h.2.2;omega) (show Ref (.list 6 ((((ft.getD 0 default).pts.map (unP 300)).map rePt).map (G231 ⟨⟨(fs.getD (ft.getD 0 default).body.toNat default).at_.x,(fs.getD (ft.getD 0 default).body.toNat default).at_.z⟩,(fs.getD (ft.getD 0 default).body.toNat default).c,(fs.getD (ft.getD 0 default).body.toNat default).s⟩ (2*s) (2*s) s s))) (.list 6 ((ft.getD 0 default).pts.map (G231 (fs.getD (ft.getD 0 default).body.toNat default) (2*s) (2*s) s s))) from Ref.eq (congrArg (fun l=>AV.list 6 (l.map (G231 (fs.getD (ft.getD 0 default).body.toNat default) (2*s) (2*s) s s))) (rePt_un _))) (show((ft.getD 0 default).pts.map (unP 300))=(((ft.getD 0 default).pts.map (unP 300)).map rePt).map (unP 300) by rw[rePt_un]) (show((ft.getD 0 default).pts.map (unP 300)).length<=1000000 by rw[lmE];exact h.1) (om ((2*s)+(2*s)+2*300+2*300+2*s+2*s+400<=LIM)) (.a5 r1 (dc (0<1)) (dc (1*24<=140737488355328)) (dc (1<=big)) (wI ((0:Int)+(1:Int)) ((0+1:Nat):Int) (by decide))))) (loop149 (mn:=mn) (bs:=bs) (XS:=XS) (XT:=XT) (XD:=XD) hL hl hX (ft.length-1) 1 (by omega) (rl _))
end
def k149:KF
 | [.cptr [.str mn,.list 27 XB,.list 17 XS,.list 17 XT,.list 13 XD,.list 5 XF,.list 12 XR] 0]=>some (.list 1 ((List.range (XF.map reFoot).length).map (E149 (XF.map reFoot) (XR.map reFm) (reFs XR))),[XB=(XB.map reBody).map (unBody 300),XF=(XF.map reFoot).map (unFoot 300),XR=(XR.map reFm).map (unF (reFs XR)),8*reFs XR+1600<=LIM,(XF.map reFoot).length<=1000000,∀ i,i<(XF.map reFoot).length->((XF.map reFoot).getD i default).pts.length<=1000000/\0<=((XF.map reFoot).getD i default).body/\((XF.map reFoot).getD i default).body.toNat<(XR.map reFm).length])
 | _=>none
theorem a149:Ctr 149 k149:=fun args r ob h ho=>by
 unfold k149 at h
 split at h
 · rename_i mn XB XS XT XD XF XR
   cases h;have o1:XB=(XB.map reBody).map (unBody 300):=ho _ (by simp);have o2:XF=(XF.map reFoot).map (unFoot 300):=ho _ (by simp);have o3:XR=(XR.map reFm).map (unF (reFs XR)):=ho _ (by simp);have o4:8*reFs XR+1600<=LIM:=ho _ (by simp);have o5:(XF.map reFoot).length<=1000000:=ho _ (by simp);have o6:∀ i,i<(XF.map reFoot).length->((XF.map reFoot).getD i default).pts.length<=1000000/\0<=((XF.map reFoot).getD i default).body/\((XF.map reFoot).getD i default).body.toNat<(XR.map reFm).length:=ho _ (by simp);clear ho;generalize XB.map reBody=bs at*;generalize XF.map reFoot=ft at*;generalize reFs XR=s at*;generalize XR.map reFm=fs at*;subst o1;subst o2;subst o3;refine af Tryz.f149 fun S w0=> ?_
   refine Good.pk 32 [(0,PL149 mn bs ft fs XS XT XD s)] ?_;exact run149 o4 o5 o6
 · cases h
abbrev XRl (jb:Nat) (m:MachD) (p:PoseD):List (List AV):=(List.range m.bodies.length).map fun i=>unF (SZ jb) (fr m p i)
def fsL (m:MachD) (p:PoseD):List FrameD:=(List.range m.bodies.length).map (fr m p)
theorem fs_re {jb:Nat} {m:MachD} {p:PoseD}:(XRl jb m p).map reFm=fsL m p:=by
 unfold fsL;rw[List.map_map];rfl
theorem fs_len {m:MachD} {p:PoseD}:(fsL m p).length=m.bodies.length:=by simp[fsL]
theorem fs_sz {jb:Nat} {m:MachD} {p:PoseD} (h:poseE m p.joints.length=0):reFs (XRl jb m p)=SZ jb:=by
 have h1:=(pose_parts h).2;show reFs ((List.range m.bodies.length).map fun i=>unF (SZ jb) (fr m p i))=SZ jb;rw[<- h1,List.range_succ_eq_map];rfl
theorem fs_eq {jb:Nat} {m:MachD} {p:PoseD} (h:poseE m p.joints.length=0):XRl jb m p=((XRl jb m p).map reFm).map (unF (reFs (XRl jb m p))):=by
 rw[fs_sz h,fs_re];unfold fsL;rw[List.map_map];rfl
theorem shape_le {m:MachD} {n i:Nat} (h:poseE m n=0) (hi:i<m.bodies.length):(m.bodies.getD i default).shape.length<=1000000:=by
 have h1:=(check_parts (pose_parts h).1).2.1 i hi;unfold bodyE bodyV at h1
 split at h1
 · omega
 · split at h1
   · omega
   · unfold bodyF at h1
     split at h1
     · omega
     · rename_i hc
       have h2:convexB (m.bodies.getD i default).shape=true:=by
         cases hb:convexB (m.bodies.getD i default).shape with
         | true=>rfl
         | false=>exact absurd (.inr (.inr (.inr (.inr hb)))) hc
       unfold convexB at h2;have h3:=(of_decide_eq_true h2).1;omega
theorem feet_ok {m:MachD} {n i:Nat} (h:poseE m n=0) (hi:i<m.feet.length):(m.feet.getD i default).pts.length<=1000000/\0<=(m.feet.getD i default).body/\(m.feet.getD i default).body.toNat<m.bodies.length:=by
 have h1:=(check_parts (pose_parts h).1).2.2.2.2.2 i hi;unfold footE at h1
 split at h1
 · omega
 · rename_i h2
   split at h1
   · omega
   · split at h1
     · omega
     · have h3:0<=(m.feet.getD i default).body/\(m.feet.getD i default).body<((m.bodies.length:Nat):Int):=by simpa using h2
       omega
theorem or_five {a b c d e:Int} (h:orE [a,b,c,d,e]=0):e=0:=by
 simp only[orE] at h
 grind
theorem feet_len {m:MachD} {n:Nat} (h:poseE m n=0):m.feet.length<=6:=by
 have h1:=(pose_parts h).1;unfold checkE at h1
 split at h1
 · omega
 · split at h1
   · omega
   · have h5:=or_five h1
     unfold eachE at h5
     split at h5 <;> omega
def framesV (jb:Nat) (m:MachD) (p:PoseD):AV:=.list 12 (if poseE m p.joints.length=0 then XRl jb m p else [])
def k68:KF
 | [.agg M,.agg [.q ax jb,.q az A2,.q tu A3,.list 3 J]]=>some (.tup [framesV jb (reMach M) ⟨⟨ax,az⟩,tu,J.map reQ⟩,.int .i64 (poseE (reMach M) J.length)],[M=unMach 300 (reMach M),(reMach M).small,(reMach M).bodies.length<=8,A2<=jb,A3<=jb,jb<=100000,Ref (.list 3 J) (.list 3 ((J.map reQ).map (unQ jb))),J.length<=4611686018427387904])
 | _=>none
theorem a68:Ctr 68 k68:=by
 refine ctr Tryz.f68 fun _ _ _ S w0 h ho=> ?_
 unfold k68 at h;split at h <;> cases h;rename_i M ax jb az A2 tu A3 J;obtain⟨o1,o2,o3,o4,o5,o6,o7,o8⟩:=ho.e8;have K:=kn.cons a117;generalize hm:reMach M=m at*;subst o1;clear hm;obtain⟨p,hp⟩:∃ p:PoseD,p=⟨⟨ax,az⟩,tu,J.map reQ⟩:=⟨_,rfl⟩;have hpj:p.joints.length=J.length:=by rw[hp];simp
 try rw[<- hp]
 try rw[<- hpj]
 refine Good.weak 21 [(0,.agg (unMach 300 m)),(1,.agg (unPose jb p))] (by kernel_rfl) (.r (.cons (by rw[hp];exact Ref.pose o4 o5 o7) .nil)) ?_;clear hp;have s1:unMach 300 m=unMach 300 (reMach (unMach 300 m)):=by rw[reMach_un]
 have s2:(reMach (unMach 300 m)).small:=by rw[reMach_un];exact o2
 have s3:(reMach (unMach 300 m)).bodies.length<=8:=by rw[reMach_un];exact o3
 have s4:Ref (.list 3 (p.joints.map (unQ jb))) (.list 3 (((p.joints.map (unQ jb)).map reQ).map (unQ jb))):=Ref.eq (by rw[reQ_un]);have s5:(p.joints.map (unQ jb)).length<=4611686018427387904:=by rw[lmE,hpj];exact o8
 have s7:SZ jb<=153753600:=by unfold SZ;omega
 have s8:LIM=17592186044416:=rfl
 by_cases h1:(poseE m p.joints.length)=(0:Int)
 · refine rF K [(11,.tup [.cptr [.str m.name,.list 27 (m.bodies.map (unBody 300)),.list 17 (m.springs.map (unCordy 300)),.list 17 (m.tendons.map (unCordy 300)),.list 13 (m.motors.map (unMotor 300)),.list 5 (m.feet.map (unFoot 300)),.list 12 ((List.range m.bodies.length).map fun i=>unF (SZ jb) (fr m p i))] 0,.i6 (0:Int)])] (.c6 (show Ref (.tup [(standP jb (reMach (unMach 300 m)) ⟨⟨p.at_.x,p.at_.z⟩,p.turn,(p.joints.map (unQ jb)).map reQ⟩),.i6 (poseE (reMach (unMach 300 m)) (p.joints.map (unQ jb)).length)]) (.tup [.cptr [.str m.name,.list 27 (m.bodies.map (unBody 300)),.list 17 (m.springs.map (unCordy 300)),.list 17 (m.tendons.map (unCordy 300)),.list 13 (m.motors.map (unMotor 300)),.list 5 (m.feet.map (unFoot 300)),.list 12 ((List.range m.bodies.length).map fun i=>unF (SZ jb) (fr m p i))] 0,.i6 (0:Int)]) by first | exact s1 | exact s2 | exact s3 | exact s4 | exact s5 | exact standP_ok h1 | exact standP_no h1 | (simp only[lmE,List.length_range] at*;exact frL_ref (by omega)) | (simp only[lmE,List.length_range] at*;omega)) s1 s2 s3 (rl jb) (rl jb) (.a3 o6 s4 s5)) (V:=.tup [.list 12 ((List.range m.bodies.length).map fun i=>unF (SZ jb) (fr m p i)),.i6 (0:Int)]) ?_
   unfold framesV;rw[if_pos h1,h1];exact rr
 · refine rF K [(11,.tup [.lit (.pointer none),.i6 (poseE m p.joints.length)]),(15,tt)] (.c6 (show Ref (.tup [(standP jb (reMach (unMach 300 m)) ⟨⟨p.at_.x,p.at_.z⟩,p.turn,(p.joints.map (unQ jb)).map reQ⟩),.i6 (poseE (reMach (unMach 300 m)) (p.joints.map (unQ jb)).length)]) (.tup [.lit (.pointer none),.i6 (poseE m p.joints.length)]) by first | exact s1 | exact s2 | exact s3 | exact s4 | exact s5 | exact standP_ok h1 | exact standP_no h1 | (simp only[lmE,List.length_range] at*;exact frL_ref (by omega)) | (simp only[lmE,List.length_range] at*;omega)) s1 s2 s3 (rl jb) (rl jb) (.a4 o6 s4 s5 (jT h1))) (V:=.tup [AV.nil,.i6 (poseE m p.joints.length)]) ?_
   unfold framesV;rw[if_neg h1];exact Ref.tup2 Ref.nilL rr rfl rfl rfl rfl
end Go.Av
