/- PoseBent: a part of its proof. No condition. -/
import Derived.Test.YtbdhgnlabjmnoaaGreatK3
set_option linter.all false
set_option maxRecDepth 100000
set_option autoImplicit true
set_option relaxedAutoImplicit true
namespace Go.Av
open Go.Proofs Go.RowKit
def d8 (xs:List Nat):List (List AV):=xs.map fun(d:Nat)=>[.int .u8 (d:Int)]
def Hw (X:List (List AV)):List Nat:=X.map fun
 | [.int _ n]=>n.toNat
 | _=>0
theorem CR (xs:List Nat):Hw (d8 xs)=xs:=by
 unfold Hw d8;rw[List.map_map]
 conv=>rhs;rw[<- List.map_id xs]
 exact List.map_congr_left fun x _=>rfl
theorem gY {xs:List Nat}:(d8 xs).length=xs.length:=by simp[d8]
theorem Hx {xs:List Nat} {i:Nat} (h:i<xs.length):((d8 xs).getD i []).headD .any= .int .u8 ((xs.getD i 0:Nat):Int):=by
 simp[d8,List.getD_eq_getElem?_getD,h]
theorem Hy (xs:List Nat) (i v:Nat):(d8 xs).set i [.int .u8 ((v:Nat):Int)]=d8 (xs.set i v):=by simp[d8,List.map_set]
def jH (ds:List Nat):ByteArray:=ByteArray.mk (ds.map fun d=>UInt8.ofNat d).toArray
theorem JZ (xs ys:List Nat):jH xs++jH ys=jH (xs++ys):=by
 apply ByteArray.ext;simp[jH]
theorem rW (xs:List Nat):(jH xs).size=xs.length:=by simp[jH,ByteArray.size]
theorem Mz (c:Nat) (cs:List Nat):(jH (c::cs)).extract 1 (jH (c::cs)).size=jH cs:=by
 apply ByteArray.ext;simp only[jH,ByteArray.size,ByteArray.data_extract];simp;exact List.take_of_length_le (by simp)
theorem MA {c:Nat} (h:c<256) (cs:List Nat):((jH (c::cs)).data.toList.getD 0 0).toNat=c:=by
 simp[jH];omega
theorem ES:∀ d,d<10->(ByteArray.mk #[48,49,50,51,52,53,54,55,56,57]).extract d (d+1)=jH [48+d]:=by
 decide+kernel
theorem Qp (ds:List Nat):(ds.map fun(d:Nat)=>(d:Int)).foldl (fun r n=>r.push (UInt8.ofNat n.toNat)) ByteArray.empty=jH ds:=by
 have:∀ (ds:List Nat) (s:ByteArray),(ds.map fun(d:Nat)=>(d:Int)).foldl (fun r n=>r.push (UInt8.ofNat n.toNat)) s=ByteArray.mk (s.data++(ds.map fun d=>UInt8.ofNat d).toArray):=by
   intro ds
   induction ds with
   | nil=>intro s;simp
   | cons d ds ih=>
     intro s;rw[List.map_cons,List.foldl_cons,ih];simp[ByteArray.push]
 rw[this];show ByteArray.mk (#[]++_)=_;rw[Array.empty_append];rfl
theorem Ka (xs:List Nat) (h:jH xs=ByteArray.mk #[49]) (hx:∀ x∈xs,x<256):xs= [49]:=by
 have h1:=congrArg (fun b=>b.data.toList) h;simp only[jH] at h1
 match xs,h1 with
 | [],h1=>simp at h1
 | [x],h1=>
   simp at h1
   have:=hx x (by simp);have h2:=congrArg UInt8.toNat h1;simp at h2;rw[Nat.mod_eq_of_lt this] at h2;rw[h2]
 | _::_::_,h1=>simp at h1
theorem rY (b:ByteArray):b.toList=b.data.toList:=by
 have:∀ (k i:Nat) (r:List UInt8),b.size-i=k->ByteArray.toList.loop b i r=r.reverse++b.data.toList.drop i:=by
   intro k
   induction k with
   | zero=>
     intro i r hk;unfold ByteArray.toList.loop;rw[if_neg (by omega),List.drop_eq_nil_of_le (by show b.data.size<=i;have:b.size=b.data.size:=rfl;omega),List.append_nil]
   | succ k ih=>
     intro i r hk;have hi:i<b.data.size:=by have:b.size=b.data.size:=rfl;omega
     unfold ByteArray.toList.loop;rw[if_pos (by omega),ih _ _ (by omega),List.drop_eq_getElem_cons (i:=i) (l:=b.data.toList) (by rw[Array.length_toList];exact hi),List.reverse_cons,List.append_assoc]
     have e:b.get! i=b.data.toList[i]'(by rw[Array.length_toList];exact hi):=by
       show b.data[i]! =_;rw[getElem!_pos b.data i hi];rfl
     rw[e];rfl
 exact this _ 0 [] rfl
theorem tE {a b:ByteArray}:(a.toList==b.toList)=true↔a=b:=by
 rw[beq_iff_eq,rY,rY];constructor
 · intro h
   apply ByteArray.ext;exact Array.toList_inj.1 h
 · rintro rfl;rfl
def LimbD.okw (v:LimbD):Prop:=v.at_.ok/\v.c.ok/\v.ma.ok/\v.inr.ok/\v.low.ok/\v.high.ok/\∀ s∈v.shape,s.ok
def SoleD.okw (v:SoleD):Prop:=(∀ s∈v.pts,s.ok)/\v.fr.ok
def RigD.okw (r:RigD):Prop:=(∀ v∈r.limbs,v.okw)/\(∀ v∈r.springs,v.ok)/\(∀ v∈r.tendons,v.ok)/\(∀ v∈r.drives,v.ok)/\(∀ v∈r.soles,v.okw)
def StandD.okw (s:StandD):Prop:=s.at_.ok/\s.turn.ok/\∀ v∈s.joints,v.ok
theorem RigD.okw.small {r:RigD} (h:r.okw) (hs:r.small=true):r.ok:=by
 obtain⟨h1,h2,h3,h4,h5⟩:=h;unfold RigD.small at hs;obtain⟨s1,s2,s3,s4,s5,s6,s7⟩:=of_decide_eq_true hs;refine⟨fun v hv=> ?_,h2,h3,h4,fun v hv=> ?_,by omega,by omega,by omega,by omega,by omega⟩
 · obtain⟨a,b,c,d,e,f,g⟩:=h1 v hv
   have:=s6 v hv;exact⟨a,b,c,d,e,f,g,by omega⟩
 · obtain⟨a,b⟩:=h5 v hv
   have:=s7 v hv;exact⟨a,by omega,b⟩
theorem Hz {B:Nat} (l:List PtD):(l.map (iK B)).map KR=l:=kW (fun v=>by cases v;rfl) l
theorem Good.seen {P:Program} {f:FuncId} {S0 C0:Nat->Prop} {w0:World} {Post:Value->World->Prop} {todo:List Item} {σ:List AV} {h:List (Option ABlk)} (l i:Nat) {b:ABlk} {el:List AV} (hl:h[l]? =some (some b)) (he:b.elems[i]? =some el)
   (hg:(∃ ρ S w D vs,RelCs ρ S w D el vs)->Good P f S0 C0 w0 Post todo ⟨σ,h⟩):Good P f S0 C0 w0 Post todo ⟨σ,h⟩:=fun ρ D a w R bb cs hb hk=>by
 obtain⟨_,arr,_,_,h3⟩:=R.heap l b hl;exact hg ⟨_,_,_,_,_,h3 i el he⟩ ρ D a w R bb cs hb hk
theorem HA (r:RigD):r.real.bodies.length=r.limbs.length:=by simp[RigD.real,nN]
theorem CS {r:RigD} (h:r.ok):r.real.small:=by
 obtain⟨_,_,_,_,_,h1,h2,h3,h4,h5⟩:=h;refine⟨?_, ?_, ?_, ?_, ?_⟩ <;> simp only[RigD.real,nN,bM,List.length_range] <;> omega
theorem Kb {r:RigD} (h:r.small=true):r.limbs.length<=8:=by
 unfold RigD.small at h;exact(of_decide_eq_true h).1
def MB (v:BodyD):BodyD:=⟨ByteArray.mk #[],v.par,v.at_,v.c,v.ma,v.inr,v.low,v.high,v.shape⟩
theorem Kc (v:BodyD):tD (aK 300 v)=MB v:=by
 cases v;simp only[tD,aK,MB,Hz]
theorem zF (l:List BodyD):(l.map (aK 300)).map tD=l.map MB:=by
 rw[List.map_map];exact List.map_congr_left fun v _=>Kc v
theorem Kd (l:List BodyD):l.map (aK 300)=((l.map (aK 300)).map tD).map (aK 300):=by
 rw[zF,List.map_map];exact List.map_congr_left fun v _=>rfl
theorem tF (l:List Rat):(l.map (cU 300)).map dO=l:=kW (fun v=>rfl) l
theorem xE (m:MachD) (i:Nat):(mR (m.bodies.map (aK 300))).bodies.getD i default=MB (m.bodies.getD i default):=by
 show((m.bodies.map (aK 300)).map tD).getD i default=_;rw[zF,nG,nG,List.getElem?_map];cases m.bodies[i]? <;> rfl
theorem HB (m:MachD):(mR (m.bodies.map (aK 300))).bodies.length=m.bodies.length:=by simp[mR]
theorem HC (m:MachD) (p:PoseD):∀ (n i:Nat),EL (mR (m.bodies.map (aK 300))) p n i=EL m p n i
 | 0,i=>rfl
 | n+1,i=>by
   rw[EL,EL,xE];show(if i=0 then _ else wZ (EL (mR (m.bodies.map (aK 300))) p n (m.bodies.getD i default).par.toNat) (MB (m.bodies.getD i default)) _)=_;rw[HC m p n];rfl
theorem MC {m:MachD} {p:PoseD} (h:Cj 300 m p):Cj 300 (mR (m.bodies.map (aK 300))) ⟨⟨p.at_.x,p.at_.z⟩,p.turn,(p.joints.map (cU 300)).map dO⟩:=by
 obtain⟨h1,h2,h3,h4,h5⟩:=h;rw[tF];exact⟨h1,h2,h3,h4,fun i hi=>by rw[xE];exact h5 i (by rw[HB] at hi;exact hi)⟩
theorem Ke {m:MachD} (h:m.tree):(mR (m.bodies.map (aK 300))).tree:=fun i h0 hi=>by
 rw[xE];exact h i h0 (by rw[HB] at hi;exact hi)
def jS (m:MachD) (b:Int):BodyD:=m.bodies.getD b.toNat default
def nZ (m:MachD) (b:Int):BodyD:=m.bodies.getD (jS m b).par.toNat default
def iS (m:MachD) (p:PoseD) (b:Int):FrameD:=⟨mJ (fr m p (nZ m b).par.toNat) (nZ m b).at_,(fr m p (nZ m b).par.toNat).c,(fr m p (nZ m b).par.toNat).s⟩
def dP (m:MachD) (n:Nat) (b:Int):Int:=if bZ m n b=0 then (if b=0\/(jS m b).par=0 then 2 else 0) else bZ m n b
def DL (jb:Nat) (f:FrameD) (u v:BodyD) (x:PtD) (B C:Nat):List AV:=[.q f.at_.x (4*SZ jb+608),.q f.at_.z (4*SZ jb+608),.q f.c (SZ jb),.q f.s (SZ jb)]++aH 300 u++aH 300 v++ [.q x.x B,.q x.z C]
def CT:List AV:=[.q 0 0,.q 0 0,.q 0 0,.q 0 0,.str (ByteArray.mk #[]),.i6 0,.q 0 0,.q 0 0,.q 0 0,.q 0 0,.q 0 0,.q 0 0,.q 0 0,.q 0 0,.nil,.str (ByteArray.mk #[]),.i6 0,.q 0 0,.q 0 0,.q 0 0,.q 0 0,.q 0 0,.q 0 0,.q 0 0,.q 0 0,.nil,.q 0 0,.q 0 0]
def xF (jb:Nat) (m:MachD) (p:PoseD) (b:Int) (x:PtD) (B C:Nat):AV:=if dP m p.joints.length b=0 then .agg (DL jb (iS m p b) (nZ m b) (jS m b) x B C) else .agg CT
theorem zG {m:MachD} {n:Nat} {b:Int} (h:dP m n b=0):bJ m n=0/\0<b/\b<((m.bodies.length:Nat):Int)/\0<(jS m b).par/\(jS m b).par<b/\0<=(nZ m b).par/\(nZ m b).par<(jS m b).par:=by
 unfold dP at h
 split at h
 · rename_i hw
   split at h
   · cases h
   · rename_i h0
     unfold bZ at hw
     split at hw
     · rename_i hp
       split at hw
       · rename_i hb
         have ht:=qD (qE hp).1;have h1:=ht b.toNat (by omega) (by omega);have h2:0<=(jS m b).par/\(jS m b).par<b:=⟨h1.1,by have:=h1.2;unfold jS;omega⟩;have h3:=ht (jS m b).par.toNat (by omega) (by omega);refine⟨hp,by omega,hb.2,by omega,h2.2,h3.1, ?_⟩
         have:=h3.2;unfold nZ;omega
       · cases hw
     · rename_i hp;exact absurd hw hp
 · rename_i hw;exact absurd h hw
theorem cW {m:MachD} {v:BodyD} {i:Nat} (hv:v=m.bodies.getD i default) (h:i<m.bodies.length):Ref (.cptr ((m.bodies.map (aH 300)).getD i []) 0) (.cptr (aH 300 v) 0):=hv▸Ref.cmap h
def Qq:KF
 | [.agg M,.agg [.q ax jb,.q az A2,.q tu A3,.list 3 J],.int .i64 b,.agg [.q px B,.q pz C]]=>some (.tup [xF jb (aG M) ⟨⟨ax,az⟩,tu,J.map gX⟩ b ⟨px,pz⟩ B C,.int .i64 (dP (aG M) J.length b)],[M=aE 300 (aG M),(aG M).small,(aG M).bodies.length<=8,A2<=jb,A3<=jb,jb<=100000,Ref (.list 3 J) (.list 3 ((J.map gX).map (dU jb))),J.length<=4611686018427387904])
 | _=>none
abbrev oA (m:MachD) (jb:Nat) (p:PoseD):List AV:=[.cptr [.str m.name,.list 27 (m.bodies.map (aH 300)),.list 17 (m.springs.map (aN 300)),.list 17 (m.tendons.map (aN 300)),.list 13 (m.motors.map (aV 300)),.list 5 (m.feet.map (bH 300)),.list 12 ((List.range m.bodies.length).map fun i=>iG (SZ jb) (fr m p i))] 0,.i6 (0:Int)]
abbrev Ay:List AV:=[.q 0 0,.q 0 0,.q 0 0,.q 0 0,.str (ByteArray.mk #[]),.i6 (0:Int),.q 0 0,.q 0 0,.q 0 0,.q 0 0,.q 0 0,.q 0 0,.q 0 0,.q 0 0,AV.nil,.str (ByteArray.mk #[]),.i6 (0:Int),.q 0 0,.q 0 0,.q 0 0,.q 0 0,.q 0 0,.q 0 0,.q 0 0,.q 0 0,AV.nil,.q 0 0,.q 0 0]
abbrev xG (jb:Nat) (m:MachD) (p:PoseD):AV:=(.tup [(jJ jb (aG (aE 300 m)) ⟨⟨p.at_.x,p.at_.z⟩,p.turn,(p.joints.map (dU jb)).map gX⟩),.i6 (bJ (aG (aE 300 m)) (p.joints.map (dU jb)).length)])
abbrev HD (m:MachD) (p:PoseD) (u:BodyD) (jb:Nat):List AV:=[.q ((fr m p u.par.toNat).at_.x) (2*(SZ jb)),.q ((fr m p u.par.toNat).at_.z) (2*(SZ jb)),.q ((fr m p u.par.toNat).c) (SZ jb),.q ((fr m p u.par.toNat).s) (SZ jb)]
theorem Qr:bO 121 Qq:=by
 refine cJ Tryz.f121 fun _ _ _ S w0 h ho=> ?_
 unfold Qq at h;split at h <;> cases h;rename_i M ax jb az A2 tu A3 J b px B pz C;obtain⟨o1,o2,o3,o4,o5,o6,o7,o8⟩:=ho.e8;have K:=((kn.cons JK).cons Qa).cons ER;generalize hm:aG M=m at*;subst o1;clear hm;obtain⟨p,hp⟩:∃ p:PoseD,p=⟨⟨ax,az⟩,tu,J.map gX⟩:=⟨_,rfl⟩;have hpj:p.joints.length=J.length:=by rw[hp];simp
 rw[<- hp]
 try rw[<- hpj]
 refine Good.weak 84 [(0,.agg (aE 300 m)),(1,.agg (bB jb p)),(2,.i6 b),(3,.agg [.q px B,.q pz C])] (by kernel_rfl) (.r (.cons (by rw[hp];exact Ref.pose o4 o5 o7) (.r (.r .nil)))) ?_;clear hp;have s1:aE 300 m=aE 300 (aG (aE 300 m)):=by rw[aW]
 have s2:(aG (aE 300 m)).small:=by rw[aW];exact o2
 have s3:(aG (aE 300 m)).bodies.length<=8:=by rw[aW];exact o3
 have s4:Ref (.list 3 (p.joints.map (dU jb))) (.list 3 (((p.joints.map (dU jb)).map gX).map (dU jb))):=Ref.eq (by rw[jK]);have s5:(p.joints.map (dU jb)).length<=4611686018427387904:=by rw[bM,hpj];exact o8
 have s7:SZ jb<=153753600:=by unfold SZ;omega
 have s8:LIM=17592186044416:=rfl;obtain⟨v,hv⟩:∃ v,v=jS m b:=⟨_,rfl⟩;obtain⟨u,hu⟩:∃ u,u=nZ m b:=⟨_,rfl⟩;have hu2:u=m.bodies.getD v.par.toNat default:=by rw[hu,hv];rfl
 have hleg:bJ m p.joints.length=0->(0<=b/\b<((m.bodies.length:Nat):Int))->¬ b=0->¬ v.par=0->(0<=v.par/\v.par<((m.bodies.length:Nat):Int)/\v.par.toNat<m.bodies.length/\0<=u.par/\u.par<((m.bodies.length:Nat):Int)/\u.par.toNat<m.bodies.length):=by
   intro a1 a2 a3 a4;have q:=zG (m:=m) (n:=p.joints.length) (b:=b) (by unfold dP bZ;rw[if_pos a1,if_pos a2,if_pos rfl,if_neg (by rw[<- hv];exact not_or.2 ⟨a3,a4⟩)]);rw[<- hv, <- hu] at q;omega
 by_cases h1:(bJ m p.joints.length)=(0:Int)
 · by_cases h2:0<=b/\b<(((m.bodies.map (aH 300)).length:Nat):Int)
   · by_cases h3:b=(0:Int)
     · refine rF K [(15,.tup (oA m jb p)),(26,ff),(35,tt)] (.c6 s1 s2 s3 (rl jb) (rl jb) o6 (.a5 s4 s5 (show Ref (xG jb m p) (.tup (oA m jb p)) by first | exact s1 | exact s2 | exact s3 | exact s4 | exact s5 | exact dC h1 | exact dD h1 | (simp only[bM,List.length_range] at*;exact cA (by omega)) | (simp only[bM,List.length_range] at*;omega) | exact cW hv (by simp only[bM] at*;omega) | (have q:=hleg h1 (by simpa using h2) h3 h4;first | exact cW hu2 (by omega) | exact cA (by omega) | (simp only[bM,List.length_range] at*;omega))) (jF h2) (iT h3))) (V:=.tup [.agg (Ay),.i6 (2:Int)]) ?_
       have w:bZ m p.joints.length b=0:=by unfold bZ;rw[if_pos h1,if_pos (by simpa using h2)]
       have e:dP m p.joints.length b=2:=by unfold dP;rw[if_pos w,if_pos (Or.inl h3)]
       rw[show xF jb m p b ⟨px,pz⟩ B C= .agg CT from if_neg (by rw[e];first | decide | exact h1),e];exact Ref.tup2 rr rr rfl rfl rfl rfl
     · have v2:0<=b:=by(simp only[bM,List.length_range] at*;omega)
       by_cases h4:v.par=(0:Int)
       · refine rF K [(15,.tup (oA m jb p)),(26,ff),(35,ff),(42,.cptr (aH 300 v) 0),(32,tt)] (.c6 s1 s2 s3 (rl jb) (rl jb) o6 (.c6 s4 s5 (show Ref (xG jb m p) (.tup (oA m jb p)) by first | exact s1 | exact s2 | exact s3 | exact s4 | exact s5 | exact dC h1 | exact dD h1 | (simp only[bM,List.length_range] at*;exact cA (by omega)) | (simp only[bM,List.length_range] at*;omega) | exact cW hv (by simp only[bM] at*;omega) | (have q:=hleg h1 (by simpa using h2) h3 h4;first | exact cW hu2 (by omega) | exact cA (by omega) | (simp only[bM,List.length_range] at*;omega))) (jF h2) (iF h3) (show Ref (.cptr ((m.bodies.map (aH 300)).getD b.toNat []) 0) (.cptr (aH 300 v) 0) by first | exact s1 | exact s2 | exact s3 | exact s4 | exact s5 | exact dC h1 | exact dD h1 | (simp only[bM,List.length_range] at*;exact cA (by omega)) | (simp only[bM,List.length_range] at*;omega) | exact cW hv (by simp only[bM] at*;omega) | (have q:=hleg h1 (by simpa using h2) h3 h4;first | exact cW hu2 (by omega) | exact cA (by omega) | (simp only[bM,List.length_range] at*;omega))) (.a3 v2 (show b<((m.bodies.map (aH 300)).length:Int) by first | exact s1 | exact s2 | exact s3 | exact s4 | exact s5 | exact dC h1 | exact dD h1 | (simp only[bM,List.length_range] at*;exact cA (by omega)) | (simp only[bM,List.length_range] at*;omega) | exact cW hv (by simp only[bM] at*;omega) | (have q:=hleg h1 (by simpa using h2) h3 h4;first | exact cW hu2 (by omega) | exact cA (by omega) | (simp only[bM,List.length_range] at*;omega))) (iT h4)))) (V:=.tup [.agg (Ay),.i6 (2:Int)]) ?_
         have w:bZ m p.joints.length b=0:=by unfold bZ;rw[if_pos h1,if_pos (by simpa using h2)]
         have e:dP m p.joints.length b=2:=by unfold dP;rw[if_pos w,if_pos (Or.inr (hv▸h4))]
         rw[show xF jb m p b ⟨px,pz⟩ B C= .agg CT from if_neg (by rw[e];first | decide | exact h1),e];exact Ref.tup2 rr rr rfl rfl rfl rfl
       · have v0:Ref (.cptr ((m.bodies.map (aH 300)).getD b.toNat []) 0) (.cptr (aH 300 v) 0):=by first | exact s1 | exact s2 | exact s3 | exact s4 | exact s5 | exact dC h1 | exact dD h1 | (simp only[bM,List.length_range] at*;exact cA (by omega)) | (simp only[bM,List.length_range] at*;omega) | exact cW hv (by simp only[bM] at*;omega) | (have q:=hleg h1 (by simpa using h2) h3 h4;first | exact cW hu2 (by omega) | exact cA (by omega) | (simp only[bM,List.length_range] at*;omega))
         have v1:b<((m.bodies.map (aH 300)).length:Int):=by first | exact s1 | exact s2 | exact s3 | exact s4 | exact s5 | exact dC h1 | exact dD h1 | (simp only[bM,List.length_range] at*;exact cA (by omega)) | (simp only[bM,List.length_range] at*;omega) | exact cW hv (by simp only[bM] at*;omega) | (have q:=hleg h1 (by simpa using h2) h3 h4;first | exact cW hu2 (by omega) | exact cA (by omega) | (simp only[bM,List.length_range] at*;omega))
         refine rF K [(15,.tup (oA m jb p)),(26,ff),(35,ff),(42,.cptr (aH 300 v) 0),(32,ff),(54,.cptr (aH 300 v) 0),(63,.cptr (aH 300 u) 0),(71,.cptr (HD m p u jb) 0)] (.c6 s1 s2 s3 (rl jb) (rl jb) o6 (.c6 s4 s5 (show Ref (xG jb m p) (.tup (oA m jb p)) by first | exact s1 | exact s2 | exact s3 | exact s4 | exact s5 | exact dC h1 | exact dD h1 | (simp only[bM,List.length_range] at*;exact cA (by omega)) | (simp only[bM,List.length_range] at*;omega) | exact cW hv (by simp only[bM] at*;omega) | (have q:=hleg h1 (by simpa using h2) h3 h4;first | exact cW hu2 (by omega) | exact cA (by omega) | (simp only[bM,List.length_range] at*;omega))) (jF h2) (iF h3) v0 (.c6 v2 v1 (iF h4) v0 v2 v1 (.c6 (show Ref (.cptr ((m.bodies.map (aH 300)).getD v.par.toNat []) 0) (.cptr (aH 300 u) 0) by first | exact s1 | exact s2 | exact s3 | exact s4 | exact s5 | exact dC h1 | exact dD h1 | (simp only[bM,List.length_range] at*;exact cA (by omega)) | (simp only[bM,List.length_range] at*;omega) | exact cW hv (by simp only[bM] at*;omega) | (have q:=hleg h1 (by simpa using h2) h3 h4;first | exact cW hu2 (by omega) | exact cA (by omega) | (simp only[bM,List.length_range] at*;omega))) (show 0<=v.par by(simp only[bM,List.length_range] at*;omega)) (show v.par<((m.bodies.map (aH 300)).length:Int) by first | exact s1 | exact s2 | exact s3 | exact s4 | exact s5 | exact dC h1 | exact dD h1 | (simp only[bM,List.length_range] at*;exact cA (by omega)) | (simp only[bM,List.length_range] at*;omega) | exact cW hv (by simp only[bM] at*;omega) | (have q:=hleg h1 (by simpa using h2) h3 h4;first | exact cW hu2 (by omega) | exact cA (by omega) | (simp only[bM,List.length_range] at*;omega))) (show Ref (.cptr (((List.range m.bodies.length).map fun i=>iG (SZ jb) (fr m p i)).getD u.par.toNat []) 0) (.cptr (HD m p u jb) 0) by(simp only[bM,List.length_range] at*;exact cA (by omega))) (show 0<=u.par by(simp only[bM,List.length_range] at*;omega)) (show u.par<(((List.range m.bodies.length).map fun i=>iG (SZ jb) (fr m p i)).length:Int) by first | exact s1 | exact s2 | exact s3 | exact s4 | exact s5 | exact dC h1 | exact dD h1 | (simp only[bM,List.length_range] at*;exact cA (by omega)) | (simp only[bM,List.length_range] at*;omega) | exact cW hv (by simp only[bM] at*;omega) | (have q:=hleg h1 (by simpa using h2) h3 h4;first | exact cW hu2 (by omega) | exact cA (by omega) | (simp only[bM,List.length_range] at*;omega))) (.a1 (show(2*(SZ jb))+(2*(SZ jb))+2*300+2*300+2*(SZ jb)+2*(SZ jb)+400<=LIM by(simp only[bM,List.length_range] at*;omega))))))) (V:=.tup [.agg [.q (((fr m p u.par.toNat).at_.x)+(((fr m p u.par.toNat).c)*u.at_.x-((fr m p u.par.toNat).s)*u.at_.z)) ((2*(SZ jb))+(300+300+(SZ jb)+(SZ jb)+6)+2),.q (((fr m p u.par.toNat).at_.z)+(((fr m p u.par.toNat).s)*u.at_.x+((fr m p u.par.toNat).c)*u.at_.z)) ((2*(SZ jb))+(300+300+(SZ jb)+(SZ jb)+6)+2),.q ((fr m p u.par.toNat).c) (SZ jb),.q ((fr m p u.par.toNat).s) (SZ jb),.str u.name,.i6 u.par,.q u.at_.x 300,.q u.at_.z 300,.q u.ma 300,.q u.inr 300,.q u.c.x 300,.q u.c.z 300,.q u.low 300,.q u.high 300,.list 6 (u.shape.map (dV 300)),.str v.name,.i6 v.par,.q v.at_.x 300,.q v.at_.z 300,.q v.ma 300,.q v.inr 300,.q v.c.x 300,.q v.c.z 300,.q v.low 300,.q v.high 300,.list 6 (v.shape.map (dV 300)),.q px B,.q pz C],.i6 (0:Int)]) ?_
         have w:bZ m p.joints.length b=0:=by unfold bZ;rw[if_pos h1,if_pos (by simpa using h2)]
         have e:dP m p.joints.length b=0:=by unfold dP;rw[if_pos w,if_neg (by rw[<- hv];exact not_or.2 ⟨h3,h4⟩)]
         rw[show xF jb m p b ⟨px,pz⟩ B C= .agg (DL jb (iS m p b) (nZ m b) (jS m b) ⟨px,pz⟩ B C) from if_pos e,e, <- hv, <- hu];exact Ref.tup2 (Ref.agg (RefC.cons (RefC.q_eq (by rw[hu];rfl) (by omega)) (RefC.cons (RefC.q_eq (by rw[hu];rfl) (by omega)) (RefC.cons (RefC.q_eq (by rw[hu];rfl) (by omega)) (RefC.cons (RefC.q_eq (by rw[hu];rfl) (by omega)) RefC.rfl'))))) rr rfl rfl rfl rfl
   · refine rF K [(15,.tup (oA m jb p)),(26,tt)] (.c6 s1 s2 s3 (rl jb) (rl jb) o6 (.a4 s4 s5 (show Ref (xG jb m p) (.tup (oA m jb p)) by first | exact s1 | exact s2 | exact s3 | exact s4 | exact s5 | exact dC h1 | exact dD h1 | (simp only[bM,List.length_range] at*;exact cA (by omega)) | (simp only[bM,List.length_range] at*;omega) | exact cW hv (by simp only[bM] at*;omega) | (have q:=hleg h1 (by simpa using h2) h3 h4;first | exact cW hu2 (by omega) | exact cA (by omega) | (simp only[bM,List.length_range] at*;omega))) (jT h2))) (V:=.tup [.agg (Ay),.i6 (3:Int)]) ?_
     have w:bZ m p.joints.length b=3:=by unfold bZ;rw[if_pos h1,if_neg (by simpa using h2)]
     have e:dP m p.joints.length b=3:=by unfold dP;rw[if_neg (by rw[w];decide),w]
     rw[show xF jb m p b ⟨px,pz⟩ B C= .agg CT from if_neg (by rw[e];first | decide | exact h1),e];exact Ref.tup2 rr rr rfl rfl rfl rfl
 · refine rF K [(15,.tup [.lit (.pointer none),.i6 (bJ m p.joints.length)]),(21,tt)] (.c6 s1 s2 s3 (rl jb) (rl jb) o6 (.a4 s4 s5 (show Ref (xG jb m p) (.tup [.lit (.pointer none),.i6 (bJ m p.joints.length)]) by first | exact s1 | exact s2 | exact s3 | exact s4 | exact s5 | exact dC h1 | exact dD h1 | (simp only[bM,List.length_range] at*;exact cA (by omega)) | (simp only[bM,List.length_range] at*;omega) | exact cW hv (by simp only[bM] at*;omega) | (have q:=hleg h1 (by simpa using h2) h3 h4;first | exact cW hu2 (by omega) | exact cA (by omega) | (simp only[bM,List.length_range] at*;omega))) (jT h1))) (V:=.tup [.agg (Ay),.i6 (bJ m p.joints.length)]) ?_
   have w:bZ m p.joints.length b=bJ m p.joints.length:=by unfold bZ;rw[if_neg h1]
   have e:dP m p.joints.length b=bJ m p.joints.length:=by unfold dP;rw[if_neg (by rw[w];exact h1),w]
   rw[show xF jb m p b ⟨px,pz⟩ B C= .agg CT from if_neg (by rw[e];first | decide | exact h1),e];exact Ref.tup2 rr rr rfl rfl rfl rfl
def Qs:KF
 | [.agg [.q d D],.agg [.q a A,.q b B],.agg [.q c C,.q e E]]=>some (.agg [.q (a+c) (A+C+2),.q (b+e) (B+E+2)],[A+B+C+E+D+400<=LIM])
 | _=>none
theorem HE:bO 128 Qs:=by
 refine cJ Tryz.f128 fun _ _ _ S w0 h ho=> ?_
 unfold Qs at h;split at h <;> cases h;rename_i d D a A b B c C e E;have o1:=ho.one;have L:=dH;have K:=kn.cons Fb;exact rR K [] (.a2 (om (A+C+200<=LIM)) (om (B+E+200<=LIM)))
structure Nm where
 a:Rat
 b:Rat
 deriving Inhabited
def aP (x y:Nm):Nm:=⟨x.a+y.a,x.b+y.b⟩
def gC (x y:Nm):Nm:=⟨x.a-y.a,x.b-y.b⟩
def aY (d:Rat) (x y:Nm):Nm:=⟨x.a*y.a+d*x.b*y.b,x.a*y.b+x.b*y.a⟩
def ET (y:Nm):Nm:=⟨y.a,-y.b⟩
def dW (d:Rat) (x y:Nm):Nm:=⟨(aY d x (ET y)).a/(aY d y (ET y)).a,(aY d x (ET y)).b/(aY d y (ET y)).a⟩
def Qt:KF
 | [.agg [.q a A]]=>some (.agg [.q a A,.q 0 0],[])
 | _=>none
theorem HF:bO 130 Qt:=by
 refine cJ Tryz.f130 fun _ _ _ S w0 h ho=> ?_
 unfold Qt at h;split at h <;> cases h;rename_i a A;exact rR .nil [] .nil
def Qu:KF
 | [.agg [.q d D],.agg [.q a A,.q b B],.agg [.q c C,.q e E]]=>some (.agg [.q (aY d ⟨a,b⟩ ⟨c,e⟩).a (A+B+C+E+D+8),.q (aY d ⟨a,b⟩ ⟨c,e⟩).b (A+B+C+E+D+8)],[A+B+C+E+D+400<=LIM])
 | _=>none
theorem Kf:bO 214 Qu:=by
 refine cJ Tryz.f214 fun _ _ _ S w0 h ho=> ?_
 unfold Qu at h;split at h <;> cases h;rename_i d D a A b B c C e E;have o1:=ho.one;have L:=dH;have K:=(kn.cons EZ).cons Fb;exact rV K [] (.c6 (om (A+C+200<=LIM)) (om (D+B+200<=LIM)) (om ((D+B+2)+E+200<=LIM)) (om ((A+C+2)+((D+B+2)+E+2)+200<=LIM)) (om (A+E+200<=LIM)) (om (B+C+200<=LIM)) (.a3 (om ((A+E+2)+(B+C+2)+200<=LIM)) (om ((A+C+2)+((D+B+2)+E+2)+2<=A+B+C+E+D+8)) (om ((A+E+2)+(B+C+2)+2<=A+B+C+E+D+8))))
def Qv:KF
 | [.agg [.q d D],.agg [.q a A,.q b B],.agg [.q c C,.q e E]]=>some (.agg [.q (a-c) (A+C+2),.q (b-e) (B+E+2)],[A+B+C+E+D+400<=LIM])
 | _=>none
theorem MD:bO 217 Qv:=by
 refine cJ Tryz.f217 fun _ _ _ S w0 h ho=> ?_
 unfold Qv at h;split at h <;> cases h;rename_i d D a A b B c C e E;have o1:=ho.one;have L:=dH;have K:=kn.cons KL;exact rR K [] (.a2 (om (A+C+200<=LIM)) (om (B+E+200<=LIM)))
structure Vc where
 x:Nm
 z:Nm
 deriving Inhabited
def bQ (d:Rat) (p:Vc) (c s:Nm):Vc:=⟨gC (aY d c p.x) (aY d s p.z),aP (aY d s p.x) (aY d c p.z)⟩
def eG:Nm:=⟨1,0⟩
def aM (d:Rat) (p:Vc) (t:Nm):Vc:=bQ d p (dW d (gC eG (aY d t t)) (aP eG (aY d t t))) (dW d (aP t t) (aP eG (aY d t t)))
def bF (p q:Vc):Vc:=⟨aP p.x q.x,aP p.z q.z⟩
def Qw:KF
 | [.agg [.q d D],.agg [.q x1 X1,.q x2 X2,.q z1 Z1,.q z2 Z2],.agg [.q c C,.q e E],.agg [.q s U,.q t V]]=>some (.agg [.q (bQ d ⟨⟨x1,x2⟩,⟨z1,z2⟩⟩ ⟨c,e⟩ ⟨s,t⟩).x.a (C+E+U+V+X1+X2+Z1+Z2+2*D+18),.q (bQ d ⟨⟨x1,x2⟩,⟨z1,z2⟩⟩ ⟨c,e⟩ ⟨s,t⟩).x.b (C+E+U+V+X1+X2+Z1+Z2+2*D+18),.q (bQ d ⟨⟨x1,x2⟩,⟨z1,z2⟩⟩ ⟨c,e⟩ ⟨s,t⟩).z.a (C+E+U+V+X1+X2+Z1+Z2+2*D+18),.q (bQ d ⟨⟨x1,x2⟩,⟨z1,z2⟩⟩ ⟨c,e⟩ ⟨s,t⟩).z.b (C+E+U+V+X1+X2+Z1+Z2+2*D+18)],[2*C+2*E+2*U+2*V+2*X1+2*X2+2*Z1+2*Z2+5*D+1000<=LIM])
 | _=>none
theorem Qx:bO 129 Qw:=by
 refine cJ Tryz.f129 fun _ _ _ S w0 h ho=> ?_
 unfold Qw at h;split at h <;> cases h;rename_i d D x1 X1 x2 X2 z1 Z1 z2 Z2 c C e E s U t V;have o1:=ho.one;have L:=dH;have K:=((kn.cons MD).cons Kf).cons HE;exact rV K [] (.c6 (om (C+E+X1+X2+D+400<=LIM)) (om (U+V+Z1+Z2+D+400<=LIM)) (om ((C+E+X1+X2+D+8)+(C+E+X1+X2+D+8)+(U+V+Z1+Z2+D+8)+(U+V+Z1+Z2+D+8)+D+400<=LIM)) (om (U+V+X1+X2+D+400<=LIM)) (om (C+E+Z1+Z2+D+400<=LIM)) (om ((U+V+X1+X2+D+8)+(U+V+X1+X2+D+8)+(C+E+Z1+Z2+D+8)+(C+E+Z1+Z2+D+8)+D+400<=LIM)) (.a4 (om ((C+E+X1+X2+D+8)+(U+V+Z1+Z2+D+8)+2<=C+E+U+V+X1+X2+Z1+Z2+2*D+18)) (om ((C+E+X1+X2+D+8)+(U+V+Z1+Z2+D+8)+2<=C+E+U+V+X1+X2+Z1+Z2+2*D+18)) (om ((U+V+X1+X2+D+8)+(C+E+Z1+Z2+D+8)+2<=C+E+U+V+X1+X2+Z1+Z2+2*D+18)) (om ((U+V+X1+X2+D+8)+(C+E+Z1+Z2+D+8)+2<=C+E+U+V+X1+X2+Z1+Z2+2*D+18))))
def Qy:KF
 | [.agg [.q x1 X1,.q x2 X2,.q z1 Z1,.q z2 Z2],.agg [.q y1 Y1,.q y2 Y2,.q w1 W1,.q w2 W2],.fnm 128 true [.q d D]]=>some (.agg [.q (bF ⟨⟨x1,x2⟩,⟨z1,z2⟩⟩ ⟨⟨y1,y2⟩,⟨w1,w2⟩⟩).x.a (X1+Y1+2),.q (bF ⟨⟨x1,x2⟩,⟨z1,z2⟩⟩ ⟨⟨y1,y2⟩,⟨w1,w2⟩⟩).x.b (X2+Y2+2),.q (bF ⟨⟨x1,x2⟩,⟨z1,z2⟩⟩ ⟨⟨y1,y2⟩,⟨w1,w2⟩⟩).z.a (Z1+W1+2),.q (bF ⟨⟨x1,x2⟩,⟨z1,z2⟩⟩ ⟨⟨y1,y2⟩,⟨w1,w2⟩⟩).z.b (Z2+W2+2)],[X1+X2+Z1+Z2+Y1+Y2+W1+W2+D+600<=LIM])
 | _=>none
theorem Qz:bO 124 Qy:=by
 refine cJ Tryz.f124 fun _ _ _ S w0 h ho=> ?_
 unfold Qy at h;split at h <;> cases h;rename_i x1 X1 x2 X2 z1 Z1 z2 Z2 y1 Y1 y2 Y2 w1 W1 w2 W2 d D;have o1:=ho.one;have L:=dH;have K:=kn.cons HE;exact rV K [] (.a6 (om (X1+X2+Y1+Y2+D+400<=LIM)) (om (Z1+Z2+W1+W2+D+400<=LIM)) (rl (X1+Y1+2)) (rl (X2+Y2+2)) (rl (Z1+W1+2)) (rl (Z2+W2+2)))
def QA:KF
 | [.agg [.q x1 X1,.q z1 Z1]]=>some (.agg [.q x1 X1,.q 0 0,.q z1 Z1,.q 0 0],[])
 | _=>none
theorem QC:bO 125 QA:=by
 refine cJ Tryz.f125 fun _ _ _ S w0 h ho=> ?_
 unfold QA at h;split at h <;> cases h;rename_i x1 X1 z1 Z1;have K:=kn.cons HF;exact rR K [] .nil
theorem BV {y:Rat} (h:Int.sign y.num=0):y=0:=Rat.num_eq_zero.1 (Int.sign_eq_zero_iff_zero.1 h)
def UV:KF
 | [.agg [.q x B],.agg [.q y C]]=>some (.tup [.agg [.q (x/y) (B+C+2)],.int .i64 (if y=0 then 9 else 0)],[B+C+200<=LIM])
 | _=>none
theorem UW:bO 27 UV:=by
 refine cJ Tryz.f27 fun _ _ _ S w0 h ho=> ?_
 unfold UV at h;split at h <;> cases h;rename_i x B y C;have o1:=ho.one;have L:=dH;have K:=(kn.cons JH).cons AT
 by_cases h1:(Int.sign y.num)=(0:Int)
 · refine rF K [(8,tt)] (.a1 (iT h1)) (V:=.tup [.agg [.q 0 0],.i6 (9:Int)]) ?_
   have h:=(BV (by assumption):y=0);subst h;exact Ref.tup2 (Ref.q1 (by rw[Rat.div_def,Rat.inv_zero,Rat.mul_zero]) (by omega)) (Ref.int (by simp)) rfl rfl rfl rfl
 · exact rF K [(8,ff)] (.a3 (iF h1) o1 (show y≠0 by exact fun h=>h1 (by rw[h];rfl))) (V:=.tup [.agg [.q (x/y) (B+C+2)],.i6 (0:Int)]) (Ref.tup2 rr (Ref.int (by rw[if_neg (fun h=>h1 (by rw[h];rfl))])) rfl rfl rfl rfl)
def QD:KF
 | [.agg [.q d D],.agg [.q a A,.q b B],.agg [.q c C,.q e E]]=>some (.agg [.q (dW d ⟨a,b⟩ ⟨c,e⟩).a (A+B+3*C+3*E+2*D+18),.q (dW d ⟨a,b⟩ ⟨c,e⟩).b (A+B+3*C+3*E+2*D+18)],[A+B+3*C+3*E+2*D+400<=LIM])
 | _=>none
theorem QE:bO 216 QD:=by
 refine cJ Tryz.f216 fun _ _ _ S w0 h ho=> ?_
 unfold QD at h;split at h <;> cases h;rename_i d D a A b B c C e E;have o1:=ho.one;have L:=dH;have K:=((kn.cons Kf).cons OP).cons UW;have v0:(A+B+C+E+D+8)+(C+E+C+E+D+8)+200<=LIM:=by omega
 exact rV K [] (.a6 (om (A+B+C+E+D+400<=LIM)) (om (C+E+C+E+D+400<=LIM)) v0 v0 (om ((A+B+C+E+D+8)+(C+E+C+E+D+8)+2<=A+B+3*C+3*E+2*D+18)) (om ((A+B+C+E+D+8)+(C+E+C+E+D+8)+2<=A+B+3*C+3*E+2*D+18)))
def QF:KF
 | [.agg [.q d D],.agg [.q x1 X1,.q x2 X2,.q z1 Z1,.q z2 Z2],.agg [.q a A,.q b B]]=>some (.agg [.q (aM d ⟨⟨x1,x2⟩,⟨z1,z2⟩⟩ ⟨a,b⟩).x.a (64*A+64*B+42*D+X1+X2+Z1+Z2+1500),.q (aM d ⟨⟨x1,x2⟩,⟨z1,z2⟩⟩ ⟨a,b⟩).x.b (64*A+64*B+42*D+X1+X2+Z1+Z2+1500),.q (aM d ⟨⟨x1,x2⟩,⟨z1,z2⟩⟩ ⟨a,b⟩).z.a (64*A+64*B+42*D+X1+X2+Z1+Z2+1500),.q (aM d ⟨⟨x1,x2⟩,⟨z1,z2⟩⟩ ⟨a,b⟩).z.b (64*A+64*B+42*D+X1+X2+Z1+Z2+1500)],[128*A+128*B+90*D+2*X1+2*X2+2*Z1+2*Z2+8000<=LIM])
 | _=>none
theorem QG:bO 126 QF:=by
 refine cJ Tryz.f126 fun _ _ _ S w0 h ho=> ?_
 unfold QF at h;split at h <;> cases h;rename_i d D x1 X1 x2 X2 z1 Z1 z2 Z2 a A b B;have o1:=ho.one;have L:=dH;have K:=((((((kn.cons MD).cons QE).cons Kf).cons HF).cons Qx).cons HE).cons KN;have v0:64+0+(A+B+A+B+D+8)+(A+B+A+B+D+8)+D+400<=LIM:=by omega
 have v1:A+B+A+B+D+400<=LIM:=by omega
 exact rV K [] (.c6 (dc ((-9223372036854775808:Int)<=1)) (dc (1<=(9223372036854775807:Int))) v1 v0 v0 (om ((64+(A+B+A+B+D+8)+2)+(0+(A+B+A+B+D+8)+2)+3*(64+(A+B+A+B+D+8)+2)+3*(0+(A+B+A+B+D+8)+2)+2*D+400<=LIM)) (.c6 v1 (om ((A+A+2)+(B+B+2)+3*(64+(A+B+A+B+D+8)+2)+3*(0+(A+B+A+B+D+8)+2)+2*D+400<=LIM)) (om (2*((64+(A+B+A+B+D+8)+2)+(0+(A+B+A+B+D+8)+2)+3*(64+(A+B+A+B+D+8)+2)+3*(0+(A+B+A+B+D+8)+2)+2*D+18)+2*((64+(A+B+A+B+D+8)+2)+(0+(A+B+A+B+D+8)+2)+3*(64+(A+B+A+B+D+8)+2)+3*(0+(A+B+A+B+D+8)+2)+2*D+18)+2*((A+A+2)+(B+B+2)+3*(64+(A+B+A+B+D+8)+2)+3*(0+(A+B+A+B+D+8)+2)+2*D+18)+2*((A+A+2)+(B+B+2)+3*(64+(A+B+A+B+D+8)+2)+3*(0+(A+B+A+B+D+8)+2)+2*D+18)+2*X1+2*X2+2*Z1+2*Z2+5*D+1000<=LIM)) (om (((64+(A+B+A+B+D+8)+2)+(0+(A+B+A+B+D+8)+2)+3*(64+(A+B+A+B+D+8)+2)+3*(0+(A+B+A+B+D+8)+2)+2*D+18)+((64+(A+B+A+B+D+8)+2)+(0+(A+B+A+B+D+8)+2)+3*(64+(A+B+A+B+D+8)+2)+3*(0+(A+B+A+B+D+8)+2)+2*D+18)+((A+A+2)+(B+B+2)+3*(64+(A+B+A+B+D+8)+2)+3*(0+(A+B+A+B+D+8)+2)+2*D+18)+((A+A+2)+(B+B+2)+3*(64+(A+B+A+B+D+8)+2)+3*(0+(A+B+A+B+D+8)+2)+2*D+18)+X1+X2+Z1+Z2+2*D+18<=64*A+64*B+42*D+X1+X2+Z1+Z2+1500)) (om (((64+(A+B+A+B+D+8)+2)+(0+(A+B+A+B+D+8)+2)+3*(64+(A+B+A+B+D+8)+2)+3*(0+(A+B+A+B+D+8)+2)+2*D+18)+((64+(A+B+A+B+D+8)+2)+(0+(A+B+A+B+D+8)+2)+3*(64+(A+B+A+B+D+8)+2)+3*(0+(A+B+A+B+D+8)+2)+2*D+18)+((A+A+2)+(B+B+2)+3*(64+(A+B+A+B+D+8)+2)+3*(0+(A+B+A+B+D+8)+2)+2*D+18)+((A+A+2)+(B+B+2)+3*(64+(A+B+A+B+D+8)+2)+3*(0+(A+B+A+B+D+8)+2)+2*D+18)+X1+X2+Z1+Z2+2*D+18<=64*A+64*B+42*D+X1+X2+Z1+Z2+1500)) (om (((64+(A+B+A+B+D+8)+2)+(0+(A+B+A+B+D+8)+2)+3*(64+(A+B+A+B+D+8)+2)+3*(0+(A+B+A+B+D+8)+2)+2*D+18)+((64+(A+B+A+B+D+8)+2)+(0+(A+B+A+B+D+8)+2)+3*(64+(A+B+A+B+D+8)+2)+3*(0+(A+B+A+B+D+8)+2)+2*D+18)+((A+A+2)+(B+B+2)+3*(64+(A+B+A+B+D+8)+2)+3*(0+(A+B+A+B+D+8)+2)+2*D+18)+((A+A+2)+(B+B+2)+3*(64+(A+B+A+B+D+8)+2)+3*(0+(A+B+A+B+D+8)+2)+2*D+18)+X1+X2+Z1+Z2+2*D+18<=64*A+64*B+42*D+X1+X2+Z1+Z2+1500)) (.a1 (om (((64+(A+B+A+B+D+8)+2)+(0+(A+B+A+B+D+8)+2)+3*(64+(A+B+A+B+D+8)+2)+3*(0+(A+B+A+B+D+8)+2)+2*D+18)+((64+(A+B+A+B+D+8)+2)+(0+(A+B+A+B+D+8)+2)+3*(64+(A+B+A+B+D+8)+2)+3*(0+(A+B+A+B+D+8)+2)+2*D+18)+((A+A+2)+(B+B+2)+3*(64+(A+B+A+B+D+8)+2)+3*(0+(A+B+A+B+D+8)+2)+2*D+18)+((A+A+2)+(B+B+2)+3*(64+(A+B+A+B+D+8)+2)+3*(0+(A+B+A+B+D+8)+2)+2*D+18)+X1+X2+Z1+Z2+2*D+18<=64*A+64*B+42*D+X1+X2+Z1+Z2+1500)))))
theorem BW {xs:List Nat} (h:Dig b32 xs) (hne:xs≠ []):aU (aJ b32 xs)=32*(xs.length-1)+aU (xs.getD (xs.length-1) 0):=by
 have hp:0<xs.length:=List.length_pos_iff.2 hne;have h1:=Dig.low (b:=b32) (by decide) h hne;have h2:=cZ b32 (xs.length-1) xs;have h3:=cK (b:=b32) (k:=xs.length-1) (xs:=xs) (by omega);have h4:=dN (b:=b32) (by decide) h.1 (xs.length-1);rw[show xs.length-1+1=xs.length by omega,List.drop_length] at h3;simp only[aJ,Nat.mul_zero,Nat.add_zero] at h3;rw[h3] at h2
 have h5:aJ b32 xs/b32^(xs.length-1)=xs.getD (xs.length-1) 0:=by
   rw[h2,Nat.add_mul_div_left _ _ (Nat.pow_pos (by decide)),Nat.div_eq_of_lt h4,Nat.zero_add]
 rw[kT] at h1 h5;rw[kI h1,h5]
def QH:KF
 | [.nat n B]=>some (.int .i64 ((aU n:Nat):Int),[B<=LIM])
 | _=>none
theorem Tu:bO 336 QH:=by
 refine cJ Tryz.f336 fun _ _ _ S w0 h ho=> ?_
 unfold QH at h;split at h <;> cases h;rename_i n B;have o1:=ho.one;have L:=dH;have K:=kn.cons Ol;refine Good.natlt (n:=n) (B:=B) 0 rfl fun hB=> ?_
 obtain⟨hx,hxn⟩:=aQ (b:=b32) (by decide) n;have hl:=Cu hB;refine Good.weak 18 [(0,.list 1 (aI (aD b32 n)))] (by kernel_rfl) (.cons Ref.opn .nil) ?_;generalize aD b32 n=xs at*;unfold LIM at o1;have ht:=bC (b:=b32) (by decide) hx.1 (xs.length-1);unfold b32 at ht;have e1:((((aI xs).length:Nat):Int)-(1:Int)).toNat=xs.length-1:=by rw[aB];omega
 have hb:=pA (n:=xs.getD (xs.length-1) 0) (k:=32) ht
 by_cases h1:(((aI xs).length:Nat):Int)=(0:Int)
 · refine rF K [(5,tt)] (.a1 (iT h1)) (V:=.i6 (0:Int)) ?_
   rw[aB] at h1;have:xs= []:=List.length_eq_zero_iff.1 (by omega);subst this;rw[<- hxn];exact Ref.int (by simp[aJ,aU])
 · refine rF K [(5,ff),(8,.i6 ((((aI xs).length:Nat):Int)-(1:Int))),(9,.i6 ((32:Int)*((((aI xs).length:Nat):Int)-(1:Int)))),(13,.i6 ((((aI xs).length:Nat):Int)-(1:Int))),(14,.cptr [.int .u32 (xs.getD (((((aI xs).length:Nat):Int)-(1:Int)).toNat) 0:Int)] 0),(17,.i6 (((32:Int)*((((aI xs).length:Nat):Int)-(1:Int)))+(aU (xs.getD (((((aI xs).length:Nat):Int)-(1:Int)).toNat) 0):Int)))] (.c6 (iF h1) (wI ((((aI xs).length:Nat):Int)-(1:Int)) ((((aI xs).length:Nat):Int)-(1:Int)) (by first | (rw[e1];rw[aB] at*;omega) | (rw[aB] at*;omega))) (wI ((32:Int)*((((aI xs).length:Nat):Int)-(1:Int))) ((32:Int)*((((aI xs).length:Nat):Int)-(1:Int))) (by first | (rw[e1];rw[aB] at*;omega) | (rw[aB] at*;omega))) (wI ((((aI xs).length:Nat):Int)-(1:Int)) ((((aI xs).length:Nat):Int)-(1:Int)) (by first | (rw[e1];rw[aB] at*;omega) | (rw[aB] at*;omega))) (show Ref (.cptr ((aI xs).getD ((((aI xs).length:Int)-(1:Int)).toNat) []) 0) (.cptr [.int .u32 (xs.getD (((((aI xs).length:Nat):Int)-(1:Int)).toNat) 0:Int)] 0) from Ref.cd32 ((show((((aI xs).length:Nat):Int)-(1:Int)).toNat<xs.length by(rw[e1];rw[aB] at*;omega)))) (show 0<=((((aI xs).length:Nat):Int)-(1:Int)) by(rw[aB] at*;omega)) (.a4 (show((((aI xs).length:Nat):Int)-(1:Int))<((aI xs).length:Int) by(rw[aB] at*;omega)) (show 0<=(xs.getD (((((aI xs).length:Nat):Int)-(1:Int)).toNat) 0:Int) by first | (rw[e1];exact ht) | (rw[e1];rw[aB] at*;omega) | (rw[aB] at*;omega) | omega) (show(xs.getD ((((aI xs).length:Int)-(1:Int)).toNat) 0)<4294967296 by(rw[e1];exact ht)) (wI (((32:Int)*((((aI xs).length:Nat):Int)-(1:Int)))+(aU (xs.getD (((((aI xs).length:Nat):Int)-(1:Int)).toNat) 0):Int)) (((32:Int)*((((aI xs).length:Nat):Int)-(1:Int)))+(aU (xs.getD (((((aI xs).length:Nat):Int)-(1:Int)).toNat) 0):Int)) (by first | (rw[e1];rw[aB] at*;omega) | (rw[aB] at*;omega))))) (V:=.i6 (((32:Int)*((((aI xs).length:Nat):Int)-(1:Int)))+(aU (xs.getD (((((aI xs).length:Nat):Int)-(1:Int)).toNat) 0):Int))) ?_
   rw[aB] at h1;refine Ref.int ?_;rw[<- hxn,e1,aB,BW hx (fun h=>h1 (by rw[h];rfl))];have:0<xs.length:=by omega
   omega
def oB:=((((((kn.cons Tu).cons Oh).cons Od).cons FJ).cons LH).cons LW).cons Cz
def tX:Nat->Nat->Nat
 | 0,_=>0
 | k+1,n=>if n=0 then 0 else if (2*tX k (n/4)+1)*(2*tX k (n/4)+1)<=n then 2*tX k (n/4)+1 else 2*tX k (n/4)
def cN (n:Nat):Nat:=tX n n
theorem zI:∀ (k n:Nat),n<=k->tX k n*tX k n<=n/\n<(tX k n+1)*(tX k n+1)
 | 0,n,h=>by
   have:n=0:=by omega
   subst this;simp[tX]
 | k + 1,n,h=>by
   rw[tX]
   split
   · rename_i h0;subst h0;simp
   · rename_i h0
     obtain⟨h1,h2⟩:=zI k (n/4) (by omega);generalize tX k (n/4)=s at*;have h3:4*(n/4)<=n:=by omega
     have h4:n<4*(n/4)+4:=by omega
     have e1:(2*s)*(2*s)=4*(s*s):=by grind
     have e2:(2*s+1+1)*(2*s+1+1)=4*((s+1)*(s+1)):=by grind
     split
     · rename_i h5
       exact⟨h5,by rw[e2];omega⟩
     · rename_i h5
       exact⟨by rw[e1];omega,by omega⟩
theorem qF (n:Nat):cN n*cN n<=n/\n<(cN n+1)*(cN n+1):=zI n n (rl n)
theorem xH {n x:Nat} (h1:x*x<=n) (h2:n<(x+1)*(x+1)):x=cN n:=by
 obtain⟨h3,h4⟩:=qF n;generalize cN n=r at*;rcases Nat.lt_trichotomy x r with h | h | h
 · have:=Nat.mul_le_mul (show x+1<=r from h) (show x+1<=r from h)
   omega
 · exact h
 · have:=Nat.mul_le_mul (show r+1<=x from h) (show r+1<=x from h)
   omega
theorem HG (n:Nat):cN n<=n:=by
 obtain⟨h,_⟩:=qF n;exact Nat.le_trans (Nat.le_mul_self _) h
theorem zJ {n:Nat} (h:0<n):0<cN n:=by
 obtain⟨_,h2⟩:=qF n;rcases Nat.eq_zero_or_pos (cN n) with e | e
 · rw[e] at h2;omega
 · exact e
theorem ME {n x:Nat} (hn:0<n) (hx:0<x):n<((x+n/x)/2+1)*((x+n/x)/2+1)/\0<(x+n/x)/2/\(x<=(x+n/x)/2->x*x<=n):=by
 have h1:x*(n/x)<=n:=Nat.mul_div_le n x;have h2:n<x*(n/x+1):=Nat.lt_mul_div_succ n hx;generalize n/x=q at*;refine⟨?_, ?_,fun h=> ?_⟩
 · have h3:x+q+1<=2*((x+q)/2+1):=by omega
   generalize (x+q)/2+1=y at*;have h4:=Nat.mul_le_mul h3 h3
   have h5:4*(x*(q+1))<=(x+q+1)*(x+q+1):=by
     rcases Nat.le_total x (q+1) with h | h
     · obtain⟨d,hd⟩:=Nat.le.dest h
       have:q+1=x+d:=hd.symm;rw[show x+q+1=x+(q+1) by omega,this];have:(x+(x+d))*(x+(x+d))=4*(x*(x+d))+d*d:=by grind
       omega
     · obtain⟨d,hd⟩:=Nat.le.dest h
       rw[show x+q+1=x+(q+1) by omega, <- hd];have:(q+1+d+(q+1))*(q+1+d+(q+1))=4*((q+1+d)*(q+1))+d*d:=by grind
       omega
   have h6:(2*y)*(2*y)=4*(y*y):=by grind
   omega
 · rcases Nat.eq_zero_or_pos ((x+q)/2) with h | h
   · exfalso
     have hx1:x=1:=by omega
     have hq0:q=0:=by omega
     subst hx1;subst hq0;omega
   · exact h
 · have h3:x<=q:=by omega
   exact Nat.le_trans (Nat.mul_le_mul_left x h3) h1
def QI:KF
 | [.nat n B]=>some (.nat (cN n) B,[B+300<=LIM])
 | _=>none
section
variable {S:Nat->Prop} {w0:World}
noncomputable abbrev MF:List Item:=[.code (aR [1,1,1,0,0] (aA Tryz.f329)),.inLoop (aR [1,1,1,0,0] (aA Tryz.f329)),.inBlock 0]
theorem Kg {n B C:Nat} (hn:0<n) (hB:n<2^B) (hC:max B C+128<=LIM):∀ (j x:Nat),x<=j->0<x->n<(x+1)*(x+1)->x<2^C->
   GF 329 S w0 (.nat (cN n) B) MF ⟨slots 32 [(0,.nat n B),(3,.nat x C)],[]⟩:=by
 intro j
 induction j with
 | zero=>intro x h1 h2;omega
 | succ j ih=>
   intro x hj hx hnx hxC;obtain⟨n1,n2,n3⟩:=ME hn hx;have v0:(1:Int)<=9223372036854775807:=by decide
   by_cases c:(0:Int)<=(fL ((x+(n/x))/2^1) x)
   · refine gR oB none [0,2,3] [] [(29,tt)] (.c6 hx hC (om (max C B+1<=LIM)) (dc (0<=(1:Int))) (om ((max C B+1)<=LIM)) v0 (.a1 (iT c))) (t:=[.code .ret,.code (aR [1,1,1,0,0,0,1,1,1] (aA Tryz.f329)),.inBlock 1,.inLoop (aR [1,1,1,0,0] (aA Tryz.f329)),.inBlock 0]) (σ:=slots 32 [(0,.nat n B),(2,.nat x C),(3,.nat x C)]) (h:=[]) ?_
     have h1:x=cN n:=xH (n3 (bR.1 c)) hnx;refine bX aX (fn:=Tryz.f329) (by kernel_rfl) 2 (by kernel_rfl) rfl (by rfl) ?_;rw[h1];exact Ref.natB (Nat.lt_of_le_of_lt (HG n) hB)
   · refine gR oB none [0,2,3] [] [(29,ff)] (.c6 hx hC (om (max C B+1<=LIM)) (dc (0<=(1:Int))) (om ((max C B+1)<=LIM)) v0 (.a1 (iF c))) (t:=MF) (σ:=slots 32 [(0,.nat n B),(3,(.nat ((x+(n/x))/2^1) (max C B+1)))]) (h:=[]) ?_
     have hlt:(x+n/x)/2^1<x:=Nat.lt_of_not_le fun h=>c (bR.2 h)
     refine Good.weak 32 [(0,_),(3,.nat ((x+n/x)/2^1) C)] (by kernel_rfl) (.r (.cons (Ref.natB (Nat.lt_trans hlt hxC)) .nil)) ?_;exact ih _ (by omega) n2 n1 (Nat.lt_trans hlt hxC)
end
theorem Tv:bO 329 QI:=by
 refine cJ Tryz.f329 fun _ _ _ S w0 h ho=> ?_
 unfold QI at h;split at h <;> cases h;rename_i n B;have o1:=ho.one;refine Good.natlt (n:=n) (B:=B) 0 rfl fun hB=> ?_
 have hb:=pA hB;obtain⟨hx,hxn⟩:=aQ (b:=b32) (by decide) n;refine Good.weak 32 [(0,.list 1 (aI (aD b32 n)))] (by kernel_rfl) (.cons Ref.opn .nil) ?_;have hlen:=dA (b:=b32) (n:=n) (by decide);generalize aD b32 n=xs at*
 by_cases c:(((aI xs).length:Nat):Int)=(0:Int)
 · refine rF oB [(9,tt)] (.a1 (iT c)) (V:=AV.nil) ?_
   rw[aB] at c;have h0:n=0:=by omega
   subst h0;exact(Ref.nilL (e:=1)).trans (Ref.nat (xs:=[]) ⟨by simp,by simp⟩ rfl (Nat.pow_pos (by decide)))
 · refine gS oB (some 3) [0,2,3] [(9,ff)] (.a1 (iF c)) (t:=[.code (aR [1,1,0] (aA Tryz.f329)),.code (aR [1,1,1] (aA Tryz.f329))]) (σ:=slots 32 [(0,.list 1 (aI xs)),(2,.nil)]) (h:=[]) ?_
   rw[aB] at c;have hn:0<n:=by omega
   refine Good.weak 32 [(0,.nat n B)] (by kernel_rfl) (.cons (Ref.nat hx hxn hB) .nil) ?_;unfold LIM at o1;refine gR oB none [0,3] [] [(13,.i6 ((aU n+1:Nat):Int)),(14,.i6 (((aU n+1)/2:Nat):Int))] (.c6 (dc (0<=(1:Int))) (dc ((1:Int)<18446744073709551616)) (show B<=LIM by unfold LIM;omega) (wI (((aU n:Nat):Int)+(1:Int)) ((aU n+1:Nat):Int)) (show Ref (.i6 (IntKind.i64.wrap (((aU n+1:Nat):Int).tdiv (2:Int)))) (.i6 (((aU n+1)/2:Nat):Int)) from Ref.quo (a:=aU n+1) (b:=2) rfl rfl (by decide) (by show _<=(9223372036854775807:Int);omega)) (dc ((2:Int)≠0)) (.a2 (nn ((aU n+1)/2)) (show 64+((aU n+1)/2)<=LIM by unfold LIM;omega))) (t:=MF) (σ:=slots 32 [(0,.nat n B),(3,(.nat (1*2^((aU n+1)/2)) (64+((aU n+1)/2))))]) (h:=[]) ?_
   obtain⟨b1,b2,b3⟩:=kU (n:=n) (by omega)
   have hx0:n<2^((aU n+1)/2)*2^((aU n+1)/2):=by
     rw[<- Nat.pow_add];exact Nat.lt_of_lt_of_le b3 (Nat.pow_le_pow_right (by decide) (by omega))
   refine Kg hn hB (by unfold LIM;omega) _ _ (rl _) (by rw[Nat.one_mul];exact Nat.pow_pos (by decide)) ?_ ?_
   · rw[Nat.one_mul]
     exact Nat.lt_of_lt_of_le hx0 (Nat.mul_le_mul (Nat.le_succ _) (Nat.le_succ _))
   · rw[Nat.one_mul]
     exact Nat.pow_lt_pow_right (by decide) (by omega)
def mV (x:Rat):Bool:=decide (cN x.num.natAbs*cN x.num.natAbs=x.num.natAbs/\cN x.den*cN x.den=x.den)
def tG (x:Rat):Rat:=mkRat (cN x.num.natAbs:Nat) (cN x.den)
def QJ:KF
 | [.agg [.q x B]]=>some (.tup [.agg [.q (if mV x then tG x else 0) (B+1)],.bool (mV x)],[2*B+400<=LIM])
 | _=>none
theorem Tw:bO 301 QJ:=by
 refine cJ Tryz.f301 fun _ _ _ S w0 h ho=> ?_
 unfold QJ at h;split at h <;> cases h;rename_i x B;have o1:=ho.one;have L:=dH;have K:=((((kn.cons Tv).cons FJ).cons Gi).cons FU).cons CG;have v0:max B 64+1<=LIM:=by omega
 have v1:(B+1)+300<=LIM:=by omega
 have v2:B+B+128<=LIM:=by omega
 have v3:B+300<=LIM:=by omega
 by_cases h1:(fL ((cN x.num.natAbs)*(cN x.num.natAbs)) x.num.natAbs)=(0:Int)
 · have v4:(B+1)+(B+1)+128<=LIM:=by omega
   by_cases h2:(fL ((cN x.den)*(cN x.den)) x.den)=(0:Int)
   · refine rF K [(21,ff),(29,ff),(32,.agg [.z (cN x.num.natAbs:Int) B])] (.c6 v3 v0 v1 v2 (jF h1) v4 (.a5 v0 (jF h2) (show Ref (.agg [.bool false,.nat (cN x.num.natAbs) B]) (.agg [.z (cN x.num.natAbs:Int) B]) by exact Ref.agg (RefC.mkz (rl _) (by simp) (by simp))) (show 0<(cN x.den) by exact zJ x.den_pos) (om (max B (B+1)+128<=LIM)))) (V:=.tup [.agg [.q (mkRat (cN x.num.natAbs:Int) (cN x.den)) (max B (B+1))],.bool true]) ?_
     have hs:mV x=true:=decide_eq_true ⟨oU.1 h1,oU.1 h2⟩;rw[hs];exact Ref.tup2 (Ref.q1 rfl (by omega)) rr rfl rfl rfl rfl
   · refine rF K [(21,ff),(29,tt)] (.c6 v3 v0 v1 v2 (jF h1) v4 (.a2 v0 (jT h2))) (V:=.tup [.agg [.q 0 0],.bool false]) ?_
     have hs:mV x=false:=decide_eq_false fun h=>h2 (oU.2 h.2)
     rw[hs];exact Ref.tup2 (Ref.q1 rfl (by omega)) rr rfl rfl rfl rfl
 · refine rF K [(21,tt)] (.a5 v3 v0 v1 v2 (jT h1)) (V:=.tup [.agg [.q 0 0],.bool false]) ?_
   have hs:mV x=false:=decide_eq_false fun h=>h1 (oU.2 h.1)
   rw[hs];exact Ref.tup2 (Ref.q1 rfl (by omega)) rr rfl rfl rfl rfl
def QK:KF
 | [.agg [.q x B]]=>some (.agg [.q ((x.den:Int):Rat) (B+1)],[max B 64+1<=LIM])
 | _=>none
theorem Tx:bO 302 QK:=by
 refine cJ Tryz.f302 fun _ _ _ S w0 h ho=> ?_
 unfold QK at h;split at h <;> cases h;rename_i x B;have o1:=ho.one;have L:=dH;have K:=(kn.cons CG).cons Mk;exact rR K [(5,.agg [.z (x.den:Int) (B+1)])] (.a2 o1 (show Ref (.agg [.bool false,.nat x.den (B+1)]) (.agg [.z (x.den:Int) (B+1)]) by exact Ref.agg (RefC.mkz (rl _) (by simp) (by simp))))
def QL:KF
 | [.agg [.q x B]]=>some (.agg [.q (x.num:Rat) B],[])
 | _=>none
theorem Ty:bO 303 QL:=by
 refine cJ Tryz.f303 fun _ _ _ S w0 h ho=> ?_
 unfold QL at h;split at h <;> cases h;rename_i x B;have K:=kn.cons Mk;exact rR K [] .nil
structure Sd where
 a:Rat
 b:Rat
 d:Rat
 deriving Inhabited
def bS (s:Sd):Sd:=if s.b=0 then ⟨s.a,0,0⟩ else if mV s.d=true then ⟨s.a+s.b*tG s.d,0,0⟩ else ⟨s.a,s.b/((s.d.den:Int):Rat),(s.d.num:Rat)*((s.d.den:Int):Rat)⟩
def QM:KF
 | [.agg [.q a A,.q b B,.q d D]]=>some (.agg [.q (bS ⟨a,b,d⟩).a (A+B+D+5),.q (bS ⟨a,b,d⟩).b (B+D+3),.q (bS ⟨a,b,d⟩).d (2*D+3)],[A+B+3*D+600<=LIM])
 | _=>none
theorem QN:bO 269 QM:=by
 refine cJ Tryz.f269 fun _ _ _ S w0 h ho=> ?_
 unfold QM at h;split at h <;> cases h;rename_i a A b B d D;have o1:=ho.one;have L:=dH;have K:=((((((kn.cons Ty).cons Tx).cons Tw).cons JH).cons AT).cons EZ).cons Fb
 by_cases h1:(Int.sign b.num)=(0:Int)
 · refine rF K [(8,tt)] (.a1 (iT h1)) (V:=.agg [.q a A,.q 0 0,.q 0 0]) ?_
   have h0:b=0:=BV h1;have hn:bS ⟨a,b,d⟩=⟨a,0,0⟩:=by unfold bS;rw[if_pos h0]
   rw[hn];exact Ref.agg (RefC.cons qe (RefC.cons qe qe))
 · rcases Bool.eq_false_or_eq_true (mV d) with h2 | h2
   · refine rF K [(8,ff),(18,tt)] (.a5 (iF h1) (om (2*D+400<=LIM)) (show Ref (.bool (mV d)) (.bool true) from Ref.bool h2) (om (B+(D+1)+200<=LIM)) (om (A+(B+(D+1)+2)+200<=LIM))) (V:=.agg [.q (a+(b*(if mV d then tG d else 0))) (A+(B+(D+1)+2)+2),.q 0 0,.q 0 0]) ?_
     have h0:b≠0:=fun h=>h1 (by rw[h];rfl)
     have hn:bS ⟨a,b,d⟩=⟨a+b*tG d,0,0⟩:=by unfold bS;rw[if_neg h0,if_pos h2]
     rw[hn,h2];exact Ref.agg (RefC.cons qe (RefC.cons qe qe))
   · refine rF K [(8,ff),(18,ff)] (.c6 (iF h1) (om (2*D+400<=LIM)) (show Ref (.bool (mV d)) (.bool false) from Ref.bool h2) (om (max D 64+1<=LIM)) (om (B+(D+1)+200<=LIM)) (show((d.den:Int):Rat)≠0 by exact fun h=>d.den_nz (by have:=Rat.intCast_eq_zero_iff.1 h;omega)) (.a2 (om (max D 64+1<=LIM)) (om (D+(D+1)+200<=LIM)))) (V:=.agg [.q a A,.q (b/((d.den:Int):Rat)) (B+(D+1)+2),.q ((d.num:Rat)*((d.den:Int):Rat)) (D+(D+1)+2)]) ?_
     have h0:b≠0:=fun h=>h1 (by rw[h];rfl)
     have hn:bS ⟨a,b,d⟩=⟨a,b/((d.den:Int):Rat),(d.num:Rat)*((d.den:Int):Rat)⟩:=by unfold bS;rw[if_neg h0,if_neg (by rw[h2];decide)]
     rw[hn];exact Ref.agg (RefC.cons qe (RefC.cons qe qe))
def QO:KF
 | [.agg [.q a A,.q b B,.q d D]]=>some (.tup [.agg [.q ((if Int.sign d.num<0 then (⟨0,0,0⟩:Sd) else bS ⟨a,b,d⟩)).a (A+B+D+5),.q ((if Int.sign d.num<0 then (⟨0,0,0⟩:Sd) else bS ⟨a,b,d⟩)).b (B+D+3),.q ((if Int.sign d.num<0 then (⟨0,0,0⟩:Sd) else bS ⟨a,b,d⟩)).d (2*D+3)],.int .i64 (if Int.sign d.num<0 then 8 else 0)],[A+B+3*D+600<=LIM])
 | _=>none
theorem Tz:bO 219 QO:=by
 refine cJ Tryz.f219 fun _ _ _ S w0 h ho=> ?_
 unfold QO at h;split at h <;> cases h;rename_i a A b B d D;have o1:=ho.one;have L:=dH;have K:=(kn.cons QN).cons AT
 by_cases h1:(Int.sign d.num)<(0:Int)
 · refine rF K [(7,tt)] (.a1 (iT h1)) (V:=.tup [.agg [.q 0 0,.q 0 0,.q 0 0],.i6 (8:Int)]) ?_
   simp only[if_pos h1];exact Ref.tup2 (Ref.agg (RefC.cons qe (RefC.cons qe qe))) rr rfl rfl rfl rfl
 · refine rF K [(7,ff)] (.a2 (iF h1) o1) (V:=.tup [.agg [.q ((bS ⟨a,b,d⟩).a) (A+B+D+5),.q ((bS ⟨a,b,d⟩).b) (B+D+3),.q ((bS ⟨a,b,d⟩).d) (2*D+3)],.i6 (0:Int)]) ?_
   simp only[if_neg h1];exact Ref.tup2 rr rr rfl rfl rfl rfl
def QP:KF
 | [.agg [.q d D],.agg [.q a A,.q b B]]=>some (.agg [.q ((if Int.sign d.num<0 then (⟨0,0,0⟩:Sd) else bS ⟨a,b,d⟩)).a (A+B+D+5),.q ((if Int.sign d.num<0 then (⟨0,0,0⟩:Sd) else bS ⟨a,b,d⟩)).b (B+D+3),.q ((if Int.sign d.num<0 then (⟨0,0,0⟩:Sd) else bS ⟨a,b,d⟩)).d (2*D+3)],[A+B+3*D+600<=LIM])
 | _=>none
theorem QQ:bO 131 QP:=by
 refine cJ Tryz.f131 fun _ _ _ S w0 h ho=> ?_
 unfold QP at h;split at h <;> cases h;rename_i d D a A b B;have o1:=ho.one;have K:=kn.cons Tz;exact rR K [] (.a1 o1)
def QR:KF
 | [.agg [.q px B,.q pz D],.agg [.q qx C,.q qz E]]=>some (.agg [.q (px*qx+pz*qz) (B+D+C+E+6)],[B+D+C+E+300<=LIM])
 | _=>none
theorem TA:bO 163 QR:=by
 refine cJ Tryz.f163 fun _ _ _ S w0 h ho=> ?_
 unfold QR at h;split at h <;> cases h;rename_i px B pz D qx C qz E;have o1:=ho.one;have L:=dH;have K:=(kn.cons EZ).cons Fb;exact rF K [] (.a3 (om (B+C+200<=LIM)) (om (D+E+200<=LIM)) (om ((B+C+2)+(D+E+2)+200<=LIM))) (V:=.agg [.q ((px*qx)+(pz*qz)) ((B+C+2)+(D+E+2)+2)]) (Ref.q1 rfl (by omega))
theorem EU (n:Nat):iM false n=n:=rfl
theorem Kh (x:Rat):(x.num.natAbs:Int)=(if x<0 then-x else x).num:=by
 have h:x<0↔x.num<0:=by rw[Rat.lt_iff];simp
 by_cases k:x<0
 · have a:=h.1 k
   rw[if_pos k];exact Int.ofNat_natAbs_of_nonpos (by omega)
 · have a:¬ x.num<0:=fun a=>k (h.2 a)
   rw[if_neg k];exact Int.natAbs_of_nonneg (by omega)
def QS:KF
 | [.agg [.q x B]]=>some (.agg [.q (if x<0 then-x else x) B],[])
 | _=>none
theorem TB:bO 268 QS:=by
 refine cJ Tryz.f268 fun _ _ _ S w0 h ho=> ?_
 unfold QS at h;split at h <;> cases h;rename_i x B;have K:=kn.cons Ac;refine rF K [] .nil (V:=.agg [.z (iM false x.num.natAbs) B,.nat (x.den-1) B]) ?_
 refine Ref.agg (RefC.mkq (rl _) (rl _) ?_ ?_)
 · rw[EU];exact Kh x
 · split <;> rfl
def lQ:=((((((((kn.cons QN).cons TB).cons JH).cons AT).cons OP).cons EZ).cons KL).cons Fb).cons KN
def eL (B:Nat) (s:Sd):List AV:=[.q s.a B,.q s.b B,.q s.d B]
def eJ (a b c:Rat):List Sd:=
 if a=0 then (if b=0 then [] else [⟨-(c/b),0,0⟩])
 else if b*b-4*a*c<0 then []
 else if b*b-4*a*c=0 then [⟨-(b/(a+a)),0,0⟩]
 else [bS ⟨-(b/(a+a)),-(if 1/(a+a)<0 then-(1/(a+a)) else 1/(a+a)),b*b-4*a*c⟩,bS ⟨-(b/(a+a)),if 1/(a+a)<0 then-(1/(a+a)) else 1/(a+a),b*b-4*a*c⟩]
def QT:KF
 | [.agg [.q a A],.agg [.q b B],.agg [.q c C]]=>some (.tup [.list 9 ((eJ a b c).map (eL (5*A+4*B+2*C+300))),.int .i64 (if a=0/\b=0/\c=0 then 10 else 0)],[20*A+20*B+10*C+3000<=LIM])
 | _=>none
abbrev HH (a:Rat) (A:Nat):ABlk:=⟨56,3,false,[[.q (if ((1:Rat)/(a+a))<0 then-((1:Rat)/(a+a)) else ((1:Rat)/(a+a))) (64+(A+A+2)+2)]],none⟩
theorem TC:bO 213 QT:=by
 refine cJ Tryz.f213 fun _ _ _ S w0 h ho=> ?_
 unfold QT at h;split at h <;> cases h;rename_i a A b B c C;have o1:=ho.one;have q1:∀ x:Rat,(Int.sign x.num)=(0:Int)->x=0:=fun x=>gG.1
 have q2:∀ x:Rat,¬ ((Int.sign x.num)=(0:Int))->x≠0:=fun x h k=>h (gG.2 k)
 have q3:∀ x:Rat,(Int.sign x.num)=(-1:Int)->x<0:=fun x=>GP.1
 have q4:∀ x:Rat,¬ ((Int.sign x.num)=(-1:Int))->¬ x<0:=fun x h k=>h (GP.2 k)
 by_cases h1:(Int.sign a.num)=(0:Int)
 · by_cases h2:(Int.sign b.num)=(0:Int)
   · by_cases h3:(Int.sign c.num)=(0:Int)
     · refine rF lQ [(11,ff),(15,ff),(25,ff)] (.a3 (jF h1) (jF h2) (jF h3)) (V:=.tup [AV.nil,.i6 (10:Int)]) ?_
       show Ref (AV.tup [AV.nil,(AV.int .i64 (10:Int))]) (.tup [.list 9 ((eJ a b c).map (eL (5*A+4*B+2*C+300))),.i6 (if a=0/\b=0/\c=0 then 10 else 0)]);rw[if_pos ⟨q1 _ h1,q1 _ h2,q1 _ h3⟩,show eJ a b c= [] by unfold eJ;rw[if_pos (q1 _ h1),if_pos (q1 _ h2)]];exact Ref.tup2 Ref.nilL rr rfl rfl rfl rfl
     · refine rF lQ [(11,ff),(15,ff),(25,tt)] (.a3 (jF h1) (jF h2) (jT h3)) (V:=.tup [AV.nil,.i6 (0:Int)]) ?_
       show Ref (AV.tup [AV.nil,(AV.int .i64 (0:Int))]) (.tup [.list 9 ((eJ a b c).map (eL (5*A+4*B+2*C+300))),.i6 (if a=0/\b=0/\c=0 then 10 else 0)]);rw[if_neg (fun h=>q2 _ h3 h.2.2),show eJ a b c= [] by unfold eJ;rw[if_pos (q1 _ h1),if_pos (q1 _ h2)]];exact Ref.tup2 Ref.nilL rr rfl rfl rfl rfl
   · refine gN lQ [6,7] [(11,ff),(15,tt)] (.a4 (jF h1) (jT h2) (om (C+B+200<=LIM)) (show b≠0 by grind)) (t:=[.code .ret,.inBlock 0,.code (aR [1,1] (aA Tryz.f213))]) (σ:=slots 71 [(6,.own 7 9 0 1),(7,.i6 (0:Int))]) (h:=[some ⟨56,3,false,[[.q a A]],none⟩,some ⟨56,3,false,[[.q b B]],none⟩,some ⟨56,3,false,[[.q c C]],none⟩,none,none,none,none,some ⟨106,9,false,[[.q (-(c/b)) (C+B+2),.q 0 0,.q 0 0]],none⟩]) ?_
     refine Good.freezeD (b:=⟨106,9,false,[[(.q (-(c/b)) (C+B+2)),(.q 0 0),(.q 0 0)]],none⟩) 7 (by rfl) (by rfl) (.oe (.a1 (dc (0+1<=1)))) .on ?_;refine gE [(AV.list 9 [[(AV.q (-(c/b)) (C+B+2)),(AV.q 0 0),(AV.q 0 0)]]),(AV.int .i64 (0:Int))] ?_;show Ref (AV.tup [(AV.list 9 [[(AV.q (-(c/b)) (C+B+2)),(AV.q 0 0),(AV.q 0 0)]]),(AV.int .i64 (0:Int))]) (.tup [.list 9 ((eJ a b c).map (eL (5*A+4*B+2*C+300))),.i6 (if a=0/\b=0/\c=0 then 10 else 0)]);rw[if_neg (fun h=>q2 _ h2 h.2.1),show eJ a b c= [⟨-(c/b),0,0⟩] by unfold eJ;rw[if_pos (q1 _ h1),if_neg (q2 _ h2)]];exact Ref.tup2 (Ref.list1 (RefC.cons qe (RefC.cons qe qe))) rr rfl rfl rfl rfl
 · have v0:A+A+200<=LIM:=by omega
   have v1:(B+B+2)+((64+A+2)+C+2)+200<=LIM:=by omega
   have v3:(a+a)≠0:=by grind
   have v4:(-9223372036854775808:Int)<=4:=by decide
   have v5:(-9223372036854775808:Int)<=1:=by decide
   have v6:4<=(9223372036854775807:Int):=by decide
   have v7:1<=(9223372036854775807:Int):=by decide
   have v8:(64+A+2)+C+200<=LIM:=by omega
   have v9:64+(A+A+2)+200<=LIM:=by omega
   have v10:B+(A+A+2)+200<=LIM:=by omega
   have v11:64+A+200<=LIM:=by omega
   have v12:B+B+200<=LIM:=by omega
   by_cases h2:(Int.sign ((b*b)-(((4:Rat)*a)*c)).num)=(-1:Int)
   · refine rF lQ [(11,tt),(52,tt)] (.c6 (jT h1) v12 v4 v6 v11 v8 (.c6 v1 v0 v10 v3 v5 v7 (.a4 v0 v9 v3 (iT h2)))) (V:=.tup [AV.nil,.i6 (0:Int)]) ?_
     show Ref (AV.tup [AV.nil,(AV.int .i64 (0:Int))]) (.tup [.list 9 ((eJ a b c).map (eL (5*A+4*B+2*C+300))),.i6 (if a=0/\b=0/\c=0 then 10 else 0)]);rw[if_neg (fun h=>q2 _ h1 h.1),show eJ a b c= [] by unfold eJ;rw[if_neg (q2 _ h1),if_pos (q3 _ h2)]];exact Ref.tup2 Ref.nilL rr rfl rfl rfl rfl
   · by_cases h3:(Int.sign ((b*b)-(((4:Rat)*a)*c)).num)=(0:Int)
     · refine gN lQ [6,7] [(11,tt),(52,ff),(54,tt)] (.c6 (jT h1) v12 v4 v6 v11 v8 (.c6 v1 v0 v10 v3 v5 v7 (.a5 v0 v9 v3 (iF h2) (iT h3)))) (t:=[.code .ret,.inBlock 1,.code (aR [1,1,1,1,1] (aA Tryz.f213))]) (σ:=slots 71 [(6,.own 20 9 0 1),(7,.i6 (0:Int))]) (h:=[some ⟨56,3,false,[[.q a A]],none⟩,some ⟨56,3,false,[[.q b B]],none⟩,some ⟨56,3,false,[[.q c C]],none⟩,none,none,none,none,none,none,some ⟨56,3,false,[[.q ((b*b)-(((4:Rat)*a)*c)) ((B+B+2)+((64+A+2)+C+2)+2)]],none⟩,none,none,none,none,none,none,none,some ⟨56,3,false,[[.q (-(b/(a+a))) (B+(A+A+2)+2)]],none⟩,some (HH a A),none,some ⟨106,9,false,[[.q (-(b/(a+a))) (B+(A+A+2)+2),.q 0 0,.q 0 0]],none⟩]) ?_
       refine Good.freezeD (b:=⟨106,9,false,[[(.q (-(b/(a+a))) (B+(A+A+2)+2)),(.q 0 0),(.q 0 0)]],none⟩) 20 (by rfl) (by rfl) (.oe (.a1 (dc (0+1<=1)))) .on ?_;refine gE [(AV.list 9 [[(AV.q (-(b/(a+a))) (B+(A+A+2)+2)),(AV.q 0 0),(AV.q 0 0)]]),(AV.int .i64 (0:Int))] ?_;show Ref (AV.tup [(AV.list 9 [[(AV.q (-(b/(a+a))) (B+(A+A+2)+2)),(AV.q 0 0),(AV.q 0 0)]]),(AV.int .i64 (0:Int))]) (.tup [.list 9 ((eJ a b c).map (eL (5*A+4*B+2*C+300))),.i6 (if a=0/\b=0/\c=0 then 10 else 0)]);rw[if_neg (fun h=>q2 _ h1 h.1),show eJ a b c= [⟨-(b/(a+a)),0,0⟩] by unfold eJ;rw[if_neg (q2 _ h1),if_neg (q4 _ h2),if_pos (q1 _ h3)]];exact Ref.tup2 (Ref.list1 (RefC.cons qe (RefC.cons qe qe))) rr rfl rfl rfl rfl
     · have v2:(B+(A+A+2)+2)+(64+(A+A+2)+2)+3*((B+B+2)+((64+A+2)+C+2)+2)+600<=LIM:=by omega
       refine gN lQ [6,7] [(11,tt),(52,ff),(54,ff)] (.c6 (jT h1) v12 v4 v6 v11 v8 (.c6 v1 v0 v10 v3 v5 v7 (.c6 v0 v9 v3 (iF h2) (iF h3) v2 (.a1 v2)))) (t:=[.code .ret]) (σ:=slots 71 [(6,.own 23 9 0 2),(7,.i6 (0:Int))]) (h:=[some ⟨56,3,false,[[.q a A]],none⟩,some ⟨56,3,false,[[.q b B]],none⟩,some ⟨56,3,false,[[.q c C]],none⟩,none,none,none,none,none,none,some ⟨56,3,false,[[.q ((b*b)-(((4:Rat)*a)*c)) ((B+B+2)+((64+A+2)+C+2)+2)]],none⟩,none,none,none,none,none,none,none,some ⟨56,3,false,[[.q (-(b/(a+a))) (B+(A+A+2)+2)]],none⟩,some (HH a A),none,none,none,none,some ⟨106,9,false,[[.q ((bS ⟨(-(b/(a+a))),(-(if ((1:Rat)/(a+a))<0 then-((1:Rat)/(a+a)) else ((1:Rat)/(a+a)))),((b*b)-(((4:Rat)*a)*c))⟩).a) ((B+(A+A+2)+2)+(64+(A+A+2)+2)+((B+B+2)+((64+A+2)+C+2)+2)+5),.q ((bS ⟨(-(b/(a+a))),(-(if ((1:Rat)/(a+a))<0 then-((1:Rat)/(a+a)) else ((1:Rat)/(a+a)))),((b*b)-(((4:Rat)*a)*c))⟩).b) ((64+(A+A+2)+2)+((B+B+2)+((64+A+2)+C+2)+2)+3),.q ((bS ⟨(-(b/(a+a))),(-(if ((1:Rat)/(a+a))<0 then-((1:Rat)/(a+a)) else ((1:Rat)/(a+a)))),((b*b)-(((4:Rat)*a)*c))⟩).d) (2*((B+B+2)+((64+A+2)+C+2)+2)+3)],[.q ((bS ⟨(-(b/(a+a))),(if ((1:Rat)/(a+a))<0 then-((1:Rat)/(a+a)) else ((1:Rat)/(a+a))),((b*b)-(((4:Rat)*a)*c))⟩).a) ((B+(A+A+2)+2)+(64+(A+A+2)+2)+((B+B+2)+((64+A+2)+C+2)+2)+5),.q ((bS ⟨(-(b/(a+a))),(if ((1:Rat)/(a+a))<0 then-((1:Rat)/(a+a)) else ((1:Rat)/(a+a))),((b*b)-(((4:Rat)*a)*c))⟩).b) ((64+(A+A+2)+2)+((B+B+2)+((64+A+2)+C+2)+2)+3),.q ((bS ⟨(-(b/(a+a))),(if ((1:Rat)/(a+a))<0 then-((1:Rat)/(a+a)) else ((1:Rat)/(a+a))),((b*b)-(((4:Rat)*a)*c))⟩).d) (2*((B+B+2)+((64+A+2)+C+2)+2)+3)]],none⟩]) ?_
       refine Good.freezeD (b:=⟨106,9,false,[[(.q ((bS ⟨(-(b/(a+a))),(-(if ((1:Rat)/(a+a))<0 then-((1:Rat)/(a+a)) else ((1:Rat)/(a+a)))),((b*b)-(((4:Rat)*a)*c))⟩).a) ((B+(A+A+2)+2)+(64+(A+A+2)+2)+((B+B+2)+((64+A+2)+C+2)+2)+5)),(.q ((bS ⟨(-(b/(a+a))),(-(if ((1:Rat)/(a+a))<0 then-((1:Rat)/(a+a)) else ((1:Rat)/(a+a)))),((b*b)-(((4:Rat)*a)*c))⟩).b) ((64+(A+A+2)+2)+((B+B+2)+((64+A+2)+C+2)+2)+3)),(.q ((bS ⟨(-(b/(a+a))),(-(if ((1:Rat)/(a+a))<0 then-((1:Rat)/(a+a)) else ((1:Rat)/(a+a)))),((b*b)-(((4:Rat)*a)*c))⟩).d) (2*((B+B+2)+((64+A+2)+C+2)+2)+3))],[(.q ((bS ⟨(-(b/(a+a))),(if ((1:Rat)/(a+a))<0 then-((1:Rat)/(a+a)) else ((1:Rat)/(a+a))),((b*b)-(((4:Rat)*a)*c))⟩).a) ((B+(A+A+2)+2)+(64+(A+A+2)+2)+((B+B+2)+((64+A+2)+C+2)+2)+5)),(.q ((bS ⟨(-(b/(a+a))),(if ((1:Rat)/(a+a))<0 then-((1:Rat)/(a+a)) else ((1:Rat)/(a+a))),((b*b)-(((4:Rat)*a)*c))⟩).b) ((64+(A+A+2)+2)+((B+B+2)+((64+A+2)+C+2)+2)+3)),(.q ((bS ⟨(-(b/(a+a))),(if ((1:Rat)/(a+a))<0 then-((1:Rat)/(a+a)) else ((1:Rat)/(a+a))),((b*b)-(((4:Rat)*a)*c))⟩).d) (2*((B+B+2)+((64+A+2)+C+2)+2)+3))]],none⟩) 23 (by rfl) (by rfl) (.oe (.a1 (dc (0+2<=2)))) .on ?_
       refine gE [(AV.list 9 [[(AV.q ((bS ⟨(-(b/(a+a))),(-(if ((1:Rat)/(a+a))<0 then-((1:Rat)/(a+a)) else ((1:Rat)/(a+a)))),((b*b)-(((4:Rat)*a)*c))⟩).a) ((B+(A+A+2)+2)+(64+(A+A+2)+2)+((B+B+2)+((64+A+2)+C+2)+2)+5)),(AV.q ((bS ⟨(-(b/(a+a))),(-(if ((1:Rat)/(a+a))<0 then-((1:Rat)/(a+a)) else ((1:Rat)/(a+a)))),((b*b)-(((4:Rat)*a)*c))⟩).b) ((64+(A+A+2)+2)+((B+B+2)+((64+A+2)+C+2)+2)+3)),(AV.q ((bS ⟨(-(b/(a+a))),(-(if ((1:Rat)/(a+a))<0 then-((1:Rat)/(a+a)) else ((1:Rat)/(a+a)))),((b*b)-(((4:Rat)*a)*c))⟩).d) (2*((B+B+2)+((64+A+2)+C+2)+2)+3))],[(AV.q ((bS ⟨(-(b/(a+a))),(if ((1:Rat)/(a+a))<0 then-((1:Rat)/(a+a)) else ((1:Rat)/(a+a))),((b*b)-(((4:Rat)*a)*c))⟩).a) ((B+(A+A+2)+2)+(64+(A+A+2)+2)+((B+B+2)+((64+A+2)+C+2)+2)+5)),(AV.q ((bS ⟨(-(b/(a+a))),(if ((1:Rat)/(a+a))<0 then-((1:Rat)/(a+a)) else ((1:Rat)/(a+a))),((b*b)-(((4:Rat)*a)*c))⟩).b) ((64+(A+A+2)+2)+((B+B+2)+((64+A+2)+C+2)+2)+3)),(AV.q ((bS ⟨(-(b/(a+a))),(if ((1:Rat)/(a+a))<0 then-((1:Rat)/(a+a)) else ((1:Rat)/(a+a))),((b*b)-(((4:Rat)*a)*c))⟩).d) (2*((B+B+2)+((64+A+2)+C+2)+2)+3))]]),(AV.int .i64 (0:Int))] ?_;show Ref (AV.tup [(AV.list 9 [[(AV.q ((bS ⟨(-(b/(a+a))),(-(if ((1:Rat)/(a+a))<0 then-((1:Rat)/(a+a)) else ((1:Rat)/(a+a)))),((b*b)-(((4:Rat)*a)*c))⟩).a) ((B+(A+A+2)+2)+(64+(A+A+2)+2)+((B+B+2)+((64+A+2)+C+2)+2)+5)),(AV.q ((bS ⟨(-(b/(a+a))),(-(if ((1:Rat)/(a+a))<0 then-((1:Rat)/(a+a)) else ((1:Rat)/(a+a)))),((b*b)-(((4:Rat)*a)*c))⟩).b) ((64+(A+A+2)+2)+((B+B+2)+((64+A+2)+C+2)+2)+3)),(AV.q ((bS ⟨(-(b/(a+a))),(-(if ((1:Rat)/(a+a))<0 then-((1:Rat)/(a+a)) else ((1:Rat)/(a+a)))),((b*b)-(((4:Rat)*a)*c))⟩).d) (2*((B+B+2)+((64+A+2)+C+2)+2)+3))],[(AV.q ((bS ⟨(-(b/(a+a))),(if ((1:Rat)/(a+a))<0 then-((1:Rat)/(a+a)) else ((1:Rat)/(a+a))),((b*b)-(((4:Rat)*a)*c))⟩).a) ((B+(A+A+2)+2)+(64+(A+A+2)+2)+((B+B+2)+((64+A+2)+C+2)+2)+5)),(AV.q ((bS ⟨(-(b/(a+a))),(if ((1:Rat)/(a+a))<0 then-((1:Rat)/(a+a)) else ((1:Rat)/(a+a))),((b*b)-(((4:Rat)*a)*c))⟩).b) ((64+(A+A+2)+2)+((B+B+2)+((64+A+2)+C+2)+2)+3)),(AV.q ((bS ⟨(-(b/(a+a))),(if ((1:Rat)/(a+a))<0 then-((1:Rat)/(a+a)) else ((1:Rat)/(a+a))),((b*b)-(((4:Rat)*a)*c))⟩).d) (2*((B+B+2)+((64+A+2)+C+2)+2)+3))]]),(AV.int .i64 (0:Int))]) (.tup [.list 9 ((eJ a b c).map (eL (5*A+4*B+2*C+300))),.i6 (if a=0/\b=0/\c=0 then 10 else 0)])
       rw[show(if a=0/\b=0/\c=0 then (10:Int) else 0)=0 from if_neg (fun h=>q2 _ h1 h.1),show eJ a b c= [bS ⟨-(b/(a+a)),-(if 1/(a+a)<0 then-(1/(a+a)) else 1/(a+a)),b*b-4*a*c⟩,bS ⟨-(b/(a+a)),if 1/(a+a)<0 then-(1/(a+a)) else 1/(a+a),b*b-4*a*c⟩] by unfold eJ;rw[if_neg (q2 _ h1),if_neg (q4 _ h2),if_neg (q2 _ h3)]];exact Ref.tup2 (Ref.list2 (RefC.cons qe (RefC.cons qe qe)) (RefC.cons qe (RefC.cons qe qe))) rr rfl rfl rfl rfl
def gP (a b d:Rat):Int:=if 0<=Int.sign a.num*(Int.sign b.num*Int.sign d.num) then (if Int.sign a.num≠0 then Int.sign a.num else Int.sign b.num*Int.sign d.num) else Int.sign a.num*jI (a*a) (b*b*d)
theorem oC (n:Int): -1<=Int.sign n/\Int.sign n<=1:=by
 rcases Int.lt_trichotomy n 0 with h | h | h
 · rw[Int.sign_eq_neg_one_of_neg h];omega
 · rw[h];decide
 · rw[Int.sign_eq_one_of_pos h];omega
theorem xI {x y:Int} (hx: -1<=x/\x<=1) (hy: -1<=y/\y<=1): -1<=x*y/\x*y<=1:=by
 have:x= -1\/x=0\/x=1:=by omega
 rcases this with rfl | rfl | rfl <;> omega
theorem HI (x y:Rat): -1<=jI x y/\jI x y<=1:=by unfold jI;split <;> (try split) <;> omega
theorem HJ (a b d:Rat): -1<=gP a b d/\gP a b d<=1:=by
 unfold gP;have h1:=oC a.num;have h2:=xI (oC b.num) (oC d.num)
 split
 · split
   · exact h1
   · exact h2
 · exact xI h1 (HI _ _)
def QU:KF
 | [.agg [.q a A,.q b B,.q d D]]=>some (.int .i64 (gP a b d),[2*A+2*B+D+600<=LIM])
 | _=>none
theorem QV:bO 271 QU:=by
 refine cJ Tryz.f271 fun _ _ _ S w0 h ho=> ?_
 unfold QU at h;split at h <;> cases h;rename_i a A b B d D;have o1:=ho.one;have L:=dH;have K:=((kn.cons EI).cons AT).cons EZ;have s1:=oC a.num;have s2:=xI (oC b.num) (oC d.num);have s3:=xI s1 s2;have s4:=xI s1 (HI (a*a) (b*b*d))
 by_cases h1:(0:Int)<=((Int.sign a.num)*((Int.sign b.num)*(Int.sign d.num)))
 · by_cases h2:(Int.sign a.num)=(0:Int)
   · exact rF K [(14,.i6 ((Int.sign b.num)*(Int.sign d.num))),(17,.i6 ((Int.sign a.num)*((Int.sign b.num)*(Int.sign d.num)))),(18,tt),(20,ff)] (.a4 (wI ((Int.sign b.num)*(Int.sign d.num)) ((Int.sign b.num)*(Int.sign d.num))) (wI ((Int.sign a.num)*((Int.sign b.num)*(Int.sign d.num))) ((Int.sign a.num)*((Int.sign b.num)*(Int.sign d.num)))) (iT h1) (jF h2)) (V:=.i6 ((Int.sign b.num)*(Int.sign d.num))) (Ref.int (by unfold gP;rw[if_pos h1,if_neg (fun h=>h h2)]))
   · exact rF K [(14,.i6 ((Int.sign b.num)*(Int.sign d.num))),(17,.i6 ((Int.sign a.num)*((Int.sign b.num)*(Int.sign d.num)))),(18,tt),(20,tt)] (.a4 (wI ((Int.sign b.num)*(Int.sign d.num)) ((Int.sign b.num)*(Int.sign d.num))) (wI ((Int.sign a.num)*((Int.sign b.num)*(Int.sign d.num))) ((Int.sign a.num)*((Int.sign b.num)*(Int.sign d.num)))) (iT h1) (jT h2)) (V:=.i6 (Int.sign a.num)) (Ref.int (by unfold gP;rw[if_pos h1,if_pos h2]))
 · exact rF K [(14,.i6 ((Int.sign b.num)*(Int.sign d.num))),(17,.i6 ((Int.sign a.num)*((Int.sign b.num)*(Int.sign d.num)))),(18,ff),(38,.i6 ((Int.sign a.num)*(jI (a*a) ((b*b)*d))))] (.c6 (wI ((Int.sign b.num)*(Int.sign d.num)) ((Int.sign b.num)*(Int.sign d.num))) (wI ((Int.sign a.num)*((Int.sign b.num)*(Int.sign d.num))) ((Int.sign a.num)*((Int.sign b.num)*(Int.sign d.num)))) (iF h1) (om (A+A+200<=LIM)) (om (B+B+200<=LIM)) (om ((B+B+2)+D+200<=LIM)) (.a2 (om ((A+A+2)+((B+B+2)+D+2)+200<=LIM)) (wI ((Int.sign a.num)*(jI (a*a) ((b*b)*d))) ((Int.sign a.num)*(jI (a*a) ((b*b)*d)))))) (V:=.i6 ((Int.sign a.num)*(jI (a*a) ((b*b)*d)))) (Ref.int (by unfold gP;rw[if_neg h1]))
def QW:KF
 | [.agg [.q a A,.q b B,.q d D]]=>some (.tup [.int .i64 (if Int.sign d.num<0 then 0 else gP a b d),.int .i64 (if Int.sign d.num<0 then 8 else 0)],[2*A+2*B+D+600<=LIM])
 | _=>none
theorem TD:bO 270 QW:=by
 refine cJ Tryz.f270 fun _ _ _ S w0 h ho=> ?_
 unfold QW at h;split at h <;> cases h;rename_i a A b B d D;have o1:=ho.one;have K:=(kn.cons QV).cons AT
 by_cases h1:(Int.sign d.num)<(0:Int)
 · refine rF K [(7,tt)] (.a1 (iT h1)) (V:=.tup [.i6 (0:Int),.i6 (8:Int)]) ?_
   simp only[if_pos h1];exact rr
 · refine rF K [(7,ff)] (.a2 (iF h1) o1) (V:=.tup [.i6 (gP a b d),.i6 (0:Int)]) ?_
   simp only[if_neg h1];exact rr
def QX:KF
 | [.agg [.q d D],.agg [.q a A,.q b B]]=>some (.bool (decide ((if Int.sign d.num<0 then 0 else gP a b d)=0)),[2*A+2*B+D+600<=LIM])
 | _=>none
theorem TE:bO 215 QX:=by
 refine cJ Tryz.f215 fun _ _ _ S w0 h ho=> ?_
 unfold QX at h;split at h <;> cases h;rename_i d D a A b B;have o1:=ho.one;have K:=kn.cons TD;exact rR K [] (.a1 o1)
def CU (a b d c e f:Rat):Int:=
 if gP (a-c) b d<Int.sign e.num*Int.sign f.num then-1 else if Int.sign e.num*Int.sign f.num<gP (a-c) b d then 1 else if gP (a-c) b d=0 then 0 else
   gP (a-c) b d*gP ((a-c)*(a-c)+b*b*d-e*e*f) ((a-c)*b+(a-c)*b) d
def QY:KF
 | [.agg [.q a A,.q b B,.q d D],.agg [.q c C,.q e E,.q f W]]=>some (.int .i64 (CU a b d c e f),[8*A+8*C+8*B+4*D+4*E+2*W+2000<=LIM])
 | _=>none
theorem TF:bO 220 QY:=by
 refine cJ Tryz.f220 fun _ _ _ S w0 h ho=> ?_
 unfold QY at h;split at h <;> cases h;rename_i a A b B d D c C e E f W;have o1:=ho.one;have L:=dH;have K:=((((kn.cons QV).cons AT).cons EZ).cons KL).cons Fb;have s1:=HJ (a-c) b d;have s2:=xI (oC e.num) (oC f.num);have s3:=xI s1 (HJ ((a-c)*(a-c)+b*b*d-e*e*f) ((a-c)*b+(a-c)*b) d);have v0:2*(A+C+2)+2*B+D+600<=LIM:=by omega
 have v1:A+C+200<=LIM:=by omega
 by_cases h1:(gP (a-c) b d)<((Int.sign e.num)*(Int.sign f.num))
 · exact rF K [(23,.i6 ((Int.sign e.num)*(Int.sign f.num))),(24,tt)] (.a4 v1 v0 (wI ((Int.sign e.num)*(Int.sign f.num)) ((Int.sign e.num)*(Int.sign f.num))) (iT h1)) (V:=.i6 (-1:Int)) (Ref.int (by unfold CU;rw[if_pos h1]))
 · by_cases h2:((Int.sign e.num)*(Int.sign f.num))<(gP (a-c) b d)
   · exact rF K [(23,.i6 ((Int.sign e.num)*(Int.sign f.num))),(24,ff),(28,tt)] (.a5 v1 v0 (wI ((Int.sign e.num)*(Int.sign f.num)) ((Int.sign e.num)*(Int.sign f.num))) (iF h1) (iT h2)) (V:=.i6 (1:Int)) (Ref.int (by unfold CU;rw[if_neg h1,if_pos h2]))
   · by_cases h3:(gP (a-c) b d)=(0:Int)
     · exact rF K [(23,.i6 ((Int.sign e.num)*(Int.sign f.num))),(24,ff),(28,ff),(32,tt)] (.a6 v1 v0 (wI ((Int.sign e.num)*(Int.sign f.num)) ((Int.sign e.num)*(Int.sign f.num))) (iF h1) (iF h2) (iT h3)) (V:=.i6 (0:Int)) (Ref.int (by unfold CU;rw[if_neg h1,if_neg h2,if_pos h3]))
     · exact rF K [(23,.i6 ((Int.sign e.num)*(Int.sign f.num))),(24,ff),(28,ff),(32,ff),(72,.i6 ((gP (a-c) b d)*(gP ((((a-c)*(a-c))+((b*b)*d))-((e*e)*f)) (((a-c)*b)+((a-c)*b)) d)))] (.c6 v1 v0 (wI ((Int.sign e.num)*(Int.sign f.num)) ((Int.sign e.num)*(Int.sign f.num))) (iF h1) (iF h2) (iF h3) (.c6 (om ((A+C+2)+B+200<=LIM)) (om ((A+C+2)+(A+C+2)+200<=LIM)) (om (B+B+200<=LIM)) (om ((B+B+2)+D+200<=LIM)) (om (((A+C+2)+(A+C+2)+2)+((B+B+2)+D+2)+200<=LIM)) (om (E+E+200<=LIM)) (.a5 (om ((E+E+2)+W+200<=LIM)) (om ((((A+C+2)+(A+C+2)+2)+((B+B+2)+D+2)+2)+((E+E+2)+W+2)+200<=LIM)) (om (((A+C+2)+B+2)+((A+C+2)+B+2)+200<=LIM)) (om (2*((((A+C+2)+(A+C+2)+2)+((B+B+2)+D+2)+2)+((E+E+2)+W+2)+2)+2*(((A+C+2)+B+2)+((A+C+2)+B+2)+2)+D+600<=LIM)) (wI ((gP (a-c) b d)*(gP ((((a-c)*(a-c))+((b*b)*d))-((e*e)*f)) (((a-c)*b)+((a-c)*b)) d)) ((gP (a-c) b d)*(gP ((((a-c)*(a-c))+((b*b)*d))-((e*e)*f)) (((a-c)*b)+((a-c)*b)) d)))))) (V:=.i6 ((gP (a-c) b d)*(gP ((((a-c)*(a-c))+((b*b)*d))-((e*e)*f)) (((a-c)*b)+((a-c)*b)) d))) (Ref.int (by unfold CU;rw[if_neg h1,if_neg h2,if_neg h3]))
def Ki (d f:Rat):Int:=if Int.sign d.num<0\/Int.sign f.num<0 then 8 else 0
def BX (a b d c e f:Rat):Int:=if Int.sign d.num<0\/Int.sign f.num<0 then 0 else CU a b d c e f
def QZ:KF
 | [.agg [.q a A,.q b B,.q d D],.agg [.q c C,.q e E,.q f W]]=>some (.tup [.int .i64 (BX a b d c e f),.int .i64 (Ki d f)],[8*A+8*C+8*B+4*D+4*E+2*W+2000<=LIM])
 | _=>none
theorem TG:bO 132 QZ:=by
 refine cJ Tryz.f132 fun _ _ _ S w0 h ho=> ?_
 unfold QZ at h;split at h <;> cases h;rename_i a A b B d D c C e E f W;have o1:=ho.one;have K:=(kn.cons TF).cons AT
 by_cases h1:(Int.sign d.num)<(0:Int)
 · refine rF K [(10,tt)] (.a1 (iT h1)) (V:=.tup [.i6 (0:Int),.i6 (8:Int)]) ?_
   simp only[BX,Ki,if_pos (Or.inl h1)];exact rr
 · by_cases h2:(Int.sign f.num)<(0:Int)
   · refine rF K [(10,ff),(15,tt)] (.a2 (iF h1) (iT h2)) (V:=.tup [.i6 (0:Int),.i6 (8:Int)]) ?_
     simp only[BX,Ki,if_pos (Or.inr h2)];exact rr
   · refine rF K [(10,ff),(15,ff)] (.a3 (iF h1) (iF h2) o1) (V:=.tup [.i6 (CU a b d c e f),.i6 (0:Int)]) ?_
     simp only[BX,Ki,if_neg (not_or.2 ⟨h1,h2⟩)];exact rr
def bE (lo hi:Rat) (t:Sd):Bool:=decide (0<=BX t.a t.b t.d lo 0 0/\BX t.a t.b t.d hi 0 0<=0)
def Ra:KF
 | [.agg [.str nm,.int .i64 pr,.q bx B1,.q bz B2,.q ma B3,.q ie B4,.q cx B5,.q cz B6,.q lo B7,.q hi B8,.list 6 SH],.agg [.q a A,.q b B,.q d D]]=>some (.bool (bE lo hi ⟨a,b,d⟩),[8*A+8*B7+8*B8+8*B+4*D+2000<=LIM])
 | _=>none
theorem TH:bO 218 Ra:=by
 refine cJ Tryz.f218 fun _ _ _ S w0 h ho=> ?_
 unfold Ra at h;split at h <;> cases h;rename_i nm pr bx B1 bz B2 ma B3 ie B4 cx B5 cz B6 lo B7 hi B8 SH a A b B d D;have o1:=ho.one;have L:=dH;have K:=kn.cons TG;have v0:8*A+8*B7+8*B+4*D+4*0+2*0+2000<=LIM:=by omega
 have v1:8*A+8*B8+8*B+4*D+4*0+2*0+2000<=LIM:=by omega
 by_cases h1:(0:Int)<=(BX a b d lo 0 0)
 · exact rF K [(27,tt)] (.a3 v0 v1 (iT h1)) (V:=.bool (decide ((BX a b d hi 0 0)<=(0:Int)))) (Ref.bool (by unfold bE;simp[h1]))
 · exact rF K [(27,ff)] (.a3 v0 v1 (iF h1)) (V:=.bool false) (Ref.bool (by unfold bE;simp[h1]))
def eU:=((((((((((((((((((kn.cons TH).cons MD).cons QE).cons TE).cons Kf).cons TC).cons Pf).cons Td).cons TA).cons QQ).cons HF).cons HE).cons QG).cons QC).cons Qz).cons AT).cons EZ).cons KL).cons Fb
structure BendD where
 a:Sd
 b:Sd
 w:Bool
 deriving Inhabited
def cR (S1 S2 S3 T:Nat) (y:BendD):List AV:=[.q y.a.a S1,.q y.a.b S2,.q y.a.d S3,.q y.b.a T,.q y.b.b T,.q y.b.d T,.bool y.w]
def HK (v x:PtD) (t:Sd):Vc:=bF ⟨⟨v.x,0⟩,⟨v.z,0⟩⟩ (aM t.d ⟨⟨x.x,0⟩,⟨x.z,0⟩⟩ ⟨t.a,t.b⟩)
def HL (w:Vc) (d:PtD) (f:Rat) (t:Sd):Nm:=aP ⟨f,0⟩ (aP (aY t.d w.x ⟨d.x,0⟩) (aY t.d w.z ⟨d.z,0⟩))
def HM (d:Rat) (b:Nm):Prop:=(if Int.sign d.num<0 then 0 else gP b.a b.b d)=0
instance (d:Rat) (b:Nm):Decidable (HM d b):=by unfold HM;infer_instance
def mU (d:Rat) (y:Nm):Sd:=if Int.sign d.num<0 then (⟨0,0,0⟩:Sd) else bS ⟨y.a,y.b,d⟩
def MG (w:Vc) (b:Nm) (d:PtD) (t:Sd):Sd:=mU t.d (dW t.d (gC (aY t.d w.x ⟨d.z,0⟩) (aY t.d w.z ⟨d.x,0⟩)) b)
def KU (u v:BodyD) (w:Vc) (b:Nm) (d:PtD) (t:Sd):Option BendD:=
 if HM t.d b then none else some ⟨MG w b d t,t,bE u.low u.high (MG w b d t)&&bE v.low v.high t⟩
def kS (a b:PtD):Rat:=a.x*b.x+a.z*b.z
def Az (a b:PtD):Rat:=a.x*b.z-a.z*b.x
def gQ (u v:BodyD) (x d:PtD) (t:Sd):Option BendD:=KU u v (HK v.at_ x t) (HL (HK v.at_ x t) d (kS d d) t) d t
def Si (v x d:PtD):Rat:=(kS d d-kS v v-kS x x)*((Int.cast 1:Rat)/(Int.cast 2:Rat))
def dE (v x d:PtD):List Sd:=eJ (Si v x d+kS v x) (Az v x+Az v x) (Si v x d-kS v x)
def AA (v x d:PtD):Int:=if Si v x d+kS v x=0/\Az v x+Az v x=0/\Si v x d-kS v x=0 then 10 else 0
def kR (u v:BodyD) (x d:PtD):List BendD×Bool:=
 if AA v.at_ x d=10 then ([],decide (kS x x=0/\0<kS v.at_ v.at_/\kS d d+kS v.at_ d=0))
 else if dE v.at_ x d≠ []/\kS d d=0 then ([],false)
 else ((dE v.at_ x d).filterMap (gQ u v x d),true)
theorem CV (a b c:Rat):(eJ a b c).length<=2:=by
 unfold eJ;split
 · split <;> simp
 · split
   · simp
   · split <;> simp
theorem xW {α β:Type} (f:α->Option β) (l:List α):(l.filterMap f).length<=l.length:=by
 induction l with
 | nil=>simp
 | cons a l ih=>
   rw[List.filterMap_cons]
   split <;> simp <;> omega
theorem xJ {α β:Type} [Inhabited α] (f:α->Option β) {l:List α} {i:Nat} (h:i<l.length):(l.take (i+1)).filterMap f=(l.take i).filterMap f++(f (l.getD i default)).toList:=by
 have e:l.take (i+1)=l.take i++ [l.getD i default]:=by
   rw[List.take_add_one,List.getElem?_eq_getElem h];simp[nG,h]
 rw[e,List.filterMap_append];generalize l.getD i default=y;cases hf:f y <;> simp[List.filterMap_cons,hf]
noncomputable abbrev AB:List Item:=[.code (aR [1,1,1,1,1,1,1,1,0,1,0,0] (aA Tryz.f122)),.inLoop (aR [1,1,1,1,1,1,1,1,0,1,0,0] (aA Tryz.f122)),.inBlock 0,.code (aR [1,1,1,1,1,1,1,1,1] (aA Tryz.f122))]
section
variable {S:Nat->Prop} {w0:World} {h:FrameD} {u v:BodyD} {us vs:List (List AV)} {x d:PtD} {H1 H2 H3 H4 B C X Z:Nat} {L:List Sd} {T FA W BE S1 S2 S3:Nat} {f:Rat}
abbrev HN (h:FrameD) (u v:BodyD) (us vs:List (List AV)) (x d:PtD) (H1 H2 H3 H4 B C X Z:Nat) (L:List Sd) (T FA:Nat) (f:Rat) (i:Nat) (o:AV):List AV:=slots 171 [(2,.cptr [.q h.at_.x H1,.q h.at_.z H2,.q h.c H3,.q h.s H4,.str u.name,.i6 u.par,.q u.at_.x 300,.q u.at_.z 300,.q u.ma 300,.q u.inr 300,.q u.c.x 300,.q u.c.z 300,.q u.low 300,.q u.high 300,.list 6 us,.str v.name,.i6 v.par,.q v.at_.x 300,.q v.at_.z 300,.q v.ma 300,.q v.inr 300,.q v.c.x 300,.q v.c.z 300,.q v.low 300,.q v.high 300,.list 6 vs,.q x.x B,.q x.z C] 0),(3,.cptr [.q d.x X,.q d.z Z] 0),(6,.cptr [.q v.at_.x 300,.q v.at_.z 300] 0),(7,.cptr [.q x.x B,.q x.z C] 0),(8,.cptr [.q f FA] 0),(15,o),(85,.list 9 (L.map (eL T))),(86,.i6 ((L.length:Nat):Int)),(87,.i6 ((i:Nat):Int))]
abbrev HO (S1 S2 S3 T:Nat) (A:List BendD):AV:=.tup [.list 19 (A.map (cR S1 S2 S3 T)),.bool true]
def mK (A:List BendD):AV:=if A= [] then .nil else .own 0 19 0 A.length
def rZ (S1 S2 S3 T:Nat) (A:List BendD):List (Option ABlk):=if A= [] then [] else [some ⟨110,19,true,A.map (cR S1 S2 S3 T),none⟩]
theorem HP (A:List BendD) (i:Nat) (hi:i=L.length):GF 122 S w0 (HO S1 S2 S3 T A) AB ⟨HN h u v us vs x d H1 H2 H3 H4 B C X Z L T FA f i (mK A),rZ S1 S2 S3 T A⟩:=by
 have hn:¬ (((i:Nat):Int)<((L.length:Nat):Int)):=by omega
 by_cases hA:A= []
 · subst hA
   refine rF eU [(88,ff)] (.a1 (iF hn)) (V:=.tup [.nil,.bool true]) (Ref.tup2 Ref.nilL rr rfl rfl rfl rfl)
 · have e1:mK A= .own 0 19 0 A.length:=if_neg hA
   have e2:rZ S1 S2 S3 T A= [some ⟨110,19,true,A.map (cR S1 S2 S3 T),none⟩]:=if_neg hA;rw[e1,e2];refine gN eU [4,5] [(88,ff)] (.a1 (iF hn)) (t:=[.code .ret]) (σ:=slots 171 [(4,.own 0 19 0 A.length),(5,.bool true)]) (h:=[some ⟨110,19,true,(A.map (cR S1 S2 S3 T)),none⟩]) ?_
   refine Good.freezeD (b:=⟨110,19,true,A.map (cR S1 S2 S3 T),none⟩) 0 (by rfl) (by rfl) (.oe (.a1 (show 0+A.length<=(A.map (cR S1 S2 S3 T)).length by simp))) .on ?_;exact gE [.list 19 (((A.map (cR S1 S2 S3 T)).drop 0).take A.length),.bool true] (Ref.eq (by rw[List.drop_zero,gO (by simp)];rfl))
abbrev lB (h:FrameD) (H1:Nat) (H2:Nat) (H3:Nat) (H4:Nat) (u:BodyD) (us:List (List AV)) (v:BodyD) (vs:List (List AV)) (x:PtD) (B:Nat) (C:Nat):List AV:=[.q h.at_.x H1,.q h.at_.z H2,.q h.c H3,.q h.s H4,.str u.name,.i6 u.par,.q u.at_.x 300,.q u.at_.z 300,.q u.ma 300,.q u.inr 300,.q u.c.x 300,.q u.c.z 300,.q u.low 300,.q u.high 300,.list 6 us,.str v.name,.i6 v.par,.q v.at_.x 300,.q v.at_.z 300,.q v.ma 300,.q v.inr 300,.q v.c.x 300,.q v.c.z 300,.q v.low 300,.q v.high 300,.list 6 vs,.q x.x B,.q x.z C]
abbrev qG (w:Vc) (W:Nat):List AV:=[.q w.x.a W,.q w.x.b W,.q w.z.a W,.q w.z.b W]
abbrev AC (u:BodyD) (s:Sd) (v:BodyD) (t:Sd):AV:=(.bool (bE u.low u.high ⟨s.a,s.b,s.d⟩&&bE v.low v.high ⟨t.a,t.b,t.d⟩))
abbrev HQ (A:List BendD) (S1:Nat) (S2:Nat) (S3:Nat) (T:Nat) (s:Sd) (t:Sd) (u:BodyD) (v:BodyD):ABlk:=⟨110,19,true,((A.map (cR S1 S2 S3 T))++ [[(AV.q s.a S1),(AV.q s.b S2),(AV.q s.d S3),(AV.q t.a T),(AV.q t.b T),(AV.q t.d T),(AV.bool (bE u.low u.high ⟨s.a,s.b,s.d⟩&&bE v.low v.high ⟨t.a,t.b,t.d⟩))]]),none⟩
abbrev AD (u:BodyD) (s:Sd):AV:=(.bool (bE u.low u.high ⟨s.a,s.b,s.d⟩))
set_option maxHeartbeats 2000000 in
theorem Kj (hf:¬ Int.sign f.num=0) (hfar:f=kS d d) (hLen:L.length<=2) (hFA:FA=2*X+2*Z+6) (hW:W=170*T+B+C+1804) (hBE:BE=FA+4*W+X+Z+2*T+24) (hS1:S1=2*(2*(4*W+X+Z+2*T+18)+6*BE+2*T+18)+T+5) (hS2:S2=(2*(4*W+X+Z+2*T+18)+6*BE+2*T+18)+T+3) (hS3:S3=2*T+3)
   (hL:8*S1+8*S2+4*S3+400*T+20000<=LIM):∀ (j i:Nat),i+j=L.length->∀ A:List BendD,A=(L.take i).filterMap (gQ u v x d)->
   GF 122 S w0 (HO S1 S2 S3 T (L.filterMap (gQ u v x d))) AB ⟨HN h u v us vs x d H1 H2 H3 H4 B C X Z L T FA f i (mK A),rZ S1 S2 S3 T A⟩:=by
 intro j
 induction j with
 | zero=>
   intro i hij A hA;have hi:i=L.length:=by omega
   have:A=L.filterMap (gQ u v x d):=by rw[hA,hi,gO (rl _)]
   rw[<- this];exact HP A i hi
 | succ j ih =>
   intro i hij A hA;have hi:((i:Nat):Int)<((L.length:Nat):Int):=by omega
   have ih:=fun i (h:i+j=L.length)=>ih i h
   obtain⟨t,ht⟩:∃ t,t=L.getD i default:=⟨_,rfl⟩;obtain⟨w,hw⟩:∃ w,w=HK v.at_ x t:=⟨_,rfl⟩;obtain⟨b,hb⟩:∃ b,b=HL w d f t:=⟨_,rfl⟩;obtain⟨s,hs⟩:∃ s,s=MG w b d t:=⟨_,rfl⟩
   have hcm:Ref (.cptr ((L.map (eL T)).getD i []) 0) (.cptr (eL T t) 0):=by
     rw[ht];exact Ref.cmap (f:=eL T) (by omega)
   have hnx:=xJ (gQ u v x d) (l:=L) (i:=i) (by omega);rw[<- ht] at hnx;have hbo:gQ u v x d t=KU u v w b d t:=by rw[hb,hw,hfar];rfl
   have hno:((if Int.sign t.d.num<0 then 0 else gP b.a b.b t.d)=0)->gQ u v x d t=none:=fun h=>by rw[hbo];exact if_pos h
   have hso:(¬ (if Int.sign t.d.num<0 then 0 else gP b.a b.b t.d)=0)->gQ u v x d t=some ⟨s,t,bE u.low u.high s&&bE v.low v.high t⟩:=fun h=>by rw[hbo,hs];exact if_neg h
   have hAl:A.length<=2:=by
     rw[hA]
     have:=xW (gQ u v x d) (L.take i);have:(L.take i).length<=L.length:=by simp;omega
     omega
   have v0:Ref (.agg [.q ((bF ⟨⟨v.at_.x,0⟩,⟨v.at_.z,0⟩⟩ ⟨⟨((aM t.d ⟨⟨x.x,0⟩,⟨x.z,0⟩⟩ ⟨t.a,t.b⟩).x.a),((aM t.d ⟨⟨x.x,0⟩,⟨x.z,0⟩⟩ ⟨t.a,t.b⟩).x.b)⟩,⟨((aM t.d ⟨⟨x.x,0⟩,⟨x.z,0⟩⟩ ⟨t.a,t.b⟩).z.a),((aM t.d ⟨⟨x.x,0⟩,⟨x.z,0⟩⟩ ⟨t.a,t.b⟩).z.b)⟩⟩).x.a) (300+(64*T+64*T+42*T+B+0+C+0+1500)+2),.q ((bF ⟨⟨v.at_.x,0⟩,⟨v.at_.z,0⟩⟩ ⟨⟨((aM t.d ⟨⟨x.x,0⟩,⟨x.z,0⟩⟩ ⟨t.a,t.b⟩).x.a),((aM t.d ⟨⟨x.x,0⟩,⟨x.z,0⟩⟩ ⟨t.a,t.b⟩).x.b)⟩,⟨((aM t.d ⟨⟨x.x,0⟩,⟨x.z,0⟩⟩ ⟨t.a,t.b⟩).z.a),((aM t.d ⟨⟨x.x,0⟩,⟨x.z,0⟩⟩ ⟨t.a,t.b⟩).z.b)⟩⟩).x.b) (0+(64*T+64*T+42*T+B+0+C+0+1500)+2),.q ((bF ⟨⟨v.at_.x,0⟩,⟨v.at_.z,0⟩⟩ ⟨⟨((aM t.d ⟨⟨x.x,0⟩,⟨x.z,0⟩⟩ ⟨t.a,t.b⟩).x.a),((aM t.d ⟨⟨x.x,0⟩,⟨x.z,0⟩⟩ ⟨t.a,t.b⟩).x.b)⟩,⟨((aM t.d ⟨⟨x.x,0⟩,⟨x.z,0⟩⟩ ⟨t.a,t.b⟩).z.a),((aM t.d ⟨⟨x.x,0⟩,⟨x.z,0⟩⟩ ⟨t.a,t.b⟩).z.b)⟩⟩).z.a) (300+(64*T+64*T+42*T+B+0+C+0+1500)+2),.q ((bF ⟨⟨v.at_.x,0⟩,⟨v.at_.z,0⟩⟩ ⟨⟨((aM t.d ⟨⟨x.x,0⟩,⟨x.z,0⟩⟩ ⟨t.a,t.b⟩).x.a),((aM t.d ⟨⟨x.x,0⟩,⟨x.z,0⟩⟩ ⟨t.a,t.b⟩).x.b)⟩,⟨((aM t.d ⟨⟨x.x,0⟩,⟨x.z,0⟩⟩ ⟨t.a,t.b⟩).z.a),((aM t.d ⟨⟨x.x,0⟩,⟨x.z,0⟩⟩ ⟨t.a,t.b⟩).z.b)⟩⟩).z.b) (0+(64*T+64*T+42*T+B+0+C+0+1500)+2)]) (.agg (qG w W)):=by rw[hw];exact Ref.agg (RefC.cons qe (RefC.cons qe (RefC.cons qe qe)))
   have v1:Ref (.agg [.q (((if Int.sign t.d.num<0 then (⟨0,0,0⟩:Sd) else bS ⟨((dW t.d ⟨(((aY t.d ⟨w.x.a,w.x.b⟩ ⟨d.z,0⟩).a)-((aY t.d ⟨w.z.a,w.z.b⟩ ⟨d.x,0⟩).a)),(((aY t.d ⟨w.x.a,w.x.b⟩ ⟨d.z,0⟩).b)-((aY t.d ⟨w.z.a,w.z.b⟩ ⟨d.x,0⟩).b))⟩ ⟨b.a,b.b⟩).a),((dW t.d ⟨(((aY t.d ⟨w.x.a,w.x.b⟩ ⟨d.z,0⟩).a)-((aY t.d ⟨w.z.a,w.z.b⟩ ⟨d.x,0⟩).a)),(((aY t.d ⟨w.x.a,w.x.b⟩ ⟨d.z,0⟩).b)-((aY t.d ⟨w.z.a,w.z.b⟩ ⟨d.x,0⟩).b))⟩ ⟨b.a,b.b⟩).b),t.d⟩)).a) ((((W+W+Z+0+T+8)+(W+W+X+0+T+8)+2)+((W+W+Z+0+T+8)+(W+W+X+0+T+8)+2)+3*BE+3*BE+2*T+18)+(((W+W+Z+0+T+8)+(W+W+X+0+T+8)+2)+((W+W+Z+0+T+8)+(W+W+X+0+T+8)+2)+3*BE+3*BE+2*T+18)+T+5),.q (((if Int.sign t.d.num<0 then (⟨0,0,0⟩:Sd) else bS ⟨((dW t.d ⟨(((aY t.d ⟨w.x.a,w.x.b⟩ ⟨d.z,0⟩).a)-((aY t.d ⟨w.z.a,w.z.b⟩ ⟨d.x,0⟩).a)),(((aY t.d ⟨w.x.a,w.x.b⟩ ⟨d.z,0⟩).b)-((aY t.d ⟨w.z.a,w.z.b⟩ ⟨d.x,0⟩).b))⟩ ⟨b.a,b.b⟩).a),((dW t.d ⟨(((aY t.d ⟨w.x.a,w.x.b⟩ ⟨d.z,0⟩).a)-((aY t.d ⟨w.z.a,w.z.b⟩ ⟨d.x,0⟩).a)),(((aY t.d ⟨w.x.a,w.x.b⟩ ⟨d.z,0⟩).b)-((aY t.d ⟨w.z.a,w.z.b⟩ ⟨d.x,0⟩).b))⟩ ⟨b.a,b.b⟩).b),t.d⟩)).b) ((((W+W+Z+0+T+8)+(W+W+X+0+T+8)+2)+((W+W+Z+0+T+8)+(W+W+X+0+T+8)+2)+3*BE+3*BE+2*T+18)+T+3),.q (((if Int.sign t.d.num<0 then (⟨0,0,0⟩:Sd) else bS ⟨((dW t.d ⟨(((aY t.d ⟨w.x.a,w.x.b⟩ ⟨d.z,0⟩).a)-((aY t.d ⟨w.z.a,w.z.b⟩ ⟨d.x,0⟩).a)),(((aY t.d ⟨w.x.a,w.x.b⟩ ⟨d.z,0⟩).b)-((aY t.d ⟨w.z.a,w.z.b⟩ ⟨d.x,0⟩).b))⟩ ⟨b.a,b.b⟩).a),((dW t.d ⟨(((aY t.d ⟨w.x.a,w.x.b⟩ ⟨d.z,0⟩).a)-((aY t.d ⟨w.z.a,w.z.b⟩ ⟨d.x,0⟩).a)),(((aY t.d ⟨w.x.a,w.x.b⟩ ⟨d.z,0⟩).b)-((aY t.d ⟨w.z.a,w.z.b⟩ ⟨d.x,0⟩).b))⟩ ⟨b.a,b.b⟩).b),t.d⟩)).d) (2*T+3)]) (.agg [.q s.a S1,.q s.b S2,.q s.d S3]):=by rw[hs];exact Ref.agg (RefC.cons qe (RefC.cons qe qe))
   have v2:Ref (.agg [.q (f+(((aY t.d ⟨w.x.a,w.x.b⟩ ⟨d.x,0⟩).a)+((aY t.d ⟨w.z.a,w.z.b⟩ ⟨d.z,0⟩).a))) (FA+((W+W+X+0+T+8)+(W+W+Z+0+T+8)+2)+2),.q (0+(((aY t.d ⟨w.x.a,w.x.b⟩ ⟨d.x,0⟩).b)+((aY t.d ⟨w.z.a,w.z.b⟩ ⟨d.z,0⟩).b))) (0+((W+W+X+0+T+8)+(W+W+Z+0+T+8)+2)+2)]) (.agg [.q b.a BE,.q b.b BE]):=by rw[hb];exact Ref.agg (RefC.cons qe qe)
   have v3:300+0+300+0+(64*T+64*T+42*T+B+0+C+0+1500)+(64*T+64*T+42*T+B+0+C+0+1500)+(64*T+64*T+42*T+B+0+C+0+1500)+(64*T+64*T+42*T+B+0+C+0+1500)+T+600<=LIM:=by omega
   have v4:(((W+W+Z+0+T+8)+(W+W+X+0+T+8)+2)+((W+W+Z+0+T+8)+(W+W+X+0+T+8)+2)+3*BE+3*BE+2*T+18)+(((W+W+Z+0+T+8)+(W+W+X+0+T+8)+2)+((W+W+Z+0+T+8)+(W+W+X+0+T+8)+2)+3*BE+3*BE+2*T+18)+3*T+600<=LIM:=by omega
   have v5:FA+0+((W+W+X+0+T+8)+(W+W+Z+0+T+8)+2)+((W+W+X+0+T+8)+(W+W+Z+0+T+8)+2)+T+400<=LIM:=by omega
   have v6:(W+W+X+0+T+8)+(W+W+X+0+T+8)+(W+W+Z+0+T+8)+(W+W+Z+0+T+8)+T+400<=LIM:=by omega
   have v7:((W+W+Z+0+T+8)+(W+W+X+0+T+8)+2)+((W+W+Z+0+T+8)+(W+W+X+0+T+8)+2)+3*BE+3*BE+2*T+400<=LIM:=by omega
   have v8:128*T+128*T+90*T+2*B+2*0+2*C+2*0+8000<=LIM:=by omega
   have v9:(W+W+Z+0+T+8)+(W+W+Z+0+T+8)+(W+W+X+0+T+8)+(W+W+X+0+T+8)+T+400<=LIM:=by omega
   have v10:(i:Int)<((L.map (eL T)).length:Int):=by rw[bM];omega
   have v11:W+W+X+0+T+400<=LIM:=by omega
   have v12:W+W+Z+0+T+400<=LIM:=by omega
   have v13:2*BE+2*BE+T+600<=LIM:=by omega
   have v14:8*S1+8*300+8*300+8*S2+4*S3+2000<=LIM:=by omega
   have v15:8*T+8*300+8*300+8*T+4*T+2000<=LIM:=by omega
   by_cases hA0:A= []
   · subst hA0
     show Good Tryz.prog 122 S No w0 _ AB ⟨HN h u v us vs x d H1 H2 H3 H4 B C X Z L T FA f i .nil,[]⟩
     by_cases c1:((i:Nat):Int)<((L.length:Nat):Int)
     · by_cases c2:(Int.sign f.num)=(0:Int)
       · exact absurd c2 hf
       · by_cases c3:(if Int.sign t.d.num<0 then 0 else gP b.a b.b t.d)=0
         · exact gR eU none [2,3,4,5,6,7,8,15,85,86,87] [] [(88,tt),(89,.cptr (eL T t) 0),(93,ff),(110,.agg (qG w W)),(130,.agg [.q b.a BE,.q b.b BE]),(133,tt),(169,.i6 ((i+1:Nat):Int))] (.c6 (iT c1) hcm (nn i) v10 (iF c2) v8 (.c6 v0 v3 v11 v12 v6 v2 (.a4 v5 (iT c3) v13 (wI ((i:Int)+(1:Int)) ((i+1:Nat):Int) (by first | omega | decide | (unfold big;omega)))))) (ih (i+1) (by omega) [] (by rw[hnx,hno c3, <- hA];rfl))
         · rcases Bool.eq_false_or_eq_true (bE u.low u.high ⟨s.a,s.b,s.d⟩) with c4 | c4
           · refine gR eU none [2,3,4,5,6,7,8,15,85,86,87] [26] [(88,tt),(89,.cptr (eL T t) 0),(93,ff),(110,.agg (qG w W)),(130,.agg [.q b.a BE,.q b.b BE]),(133,ff),(152,.agg [.q s.a S1,.q s.b S2,.q s.d S3]),(160,tt),(165,.bool (bE u.low u.high ⟨s.a,s.b,s.d⟩&&bE v.low v.high ⟨t.a,t.b,t.d⟩)),(169,.i6 ((i+1:Nat):Int))] (.c6 (iT c1) hcm (nn i) v10 (iF c2) v8 (.c6 v0 v3 v11 v12 v6 v2 (.c6 v5 (iF c3) v13 v12 v11 v9 (.c6 v7 v1 v4 v14 (show Ref (AD u s) (.bool true) from Ref.bool c4) v15 (.a6 (show Ref (.bool (bE v.low v.high ⟨t.a,t.b,t.d⟩)) (AC u s v t) from Ref.bool (by rw[c4];simp)) r1 (dc (0<1)) (om (1*344<=140737488355328)) (dc (1<=big)) (wI ((i:Int)+(1:Int)) ((i+1:Nat):Int) (by first | omega | decide | (unfold big;omega)))))))) (t:=AB) (σ:=slots 171 [(2,.cptr (lB h H1 H2 H3 H4 u us v vs x B C) 0),(3,.cptr [.q d.x X,.q d.z Z] 0),(6,.cptr [.q v.at_.x 300,.q v.at_.z 300] 0),(7,.cptr [.q x.x B,.q x.z C] 0),(8,.cptr [.q f FA] 0),(15,.own 0 19 0 1),(85,.list 9 (L.map (eL T))),(86,.i6 (L.length:Int)),(87,.i6 ((i+1:Nat):Int))]) (h:=[some ⟨110,19,true,[[.q s.a S1,.q s.b S2,.q s.d S3,.q t.a T,.q t.b T,.q t.d T,.bool (bE u.low u.high ⟨s.a,s.b,s.d⟩&&bE v.low v.high ⟨t.a,t.b,t.d⟩)]],none⟩]) ?_
             have hA2:([]:List BendD)++ [⟨s,t,bE u.low u.high s&&bE v.low v.high t⟩]=(L.take (i+1)).filterMap (gQ u v x d):=by rw[hnx,hso c3, <- hA];rfl
             have:=ih (i+1) (by omega) _ hA2;exact this
           · refine gR eU none [2,3,4,5,6,7,8,15,85,86,87] [26] [(88,tt),(89,.cptr (eL T t) 0),(93,ff),(110,.agg (qG w W)),(130,.agg [.q b.a BE,.q b.b BE]),(133,ff),(152,.agg [.q s.a S1,.q s.b S2,.q s.d S3]),(160,ff),(165,.bool (bE u.low u.high ⟨s.a,s.b,s.d⟩&&bE v.low v.high ⟨t.a,t.b,t.d⟩)),(169,.i6 ((i+1:Nat):Int))] (.c6 (iT c1) hcm (nn i) v10 (iF c2) v8 (.c6 v0 v3 v11 v12 v6 v2 (.c6 v5 (iF c3) v13 v12 v11 v9 (.c6 v7 v1 v4 v14 (show Ref (AD u s) (.bool false) from Ref.bool c4) (show Ref (.bool false) (AC u s v t) from Ref.bool (by rw[c4];simp)) (.a5 r1 (dc (0<1)) (om (1*344<=140737488355328)) (dc (1<=big)) (wI ((i:Int)+(1:Int)) ((i+1:Nat):Int) (by first | omega | decide | (unfold big;omega)))))))) (t:=AB) (σ:=slots 171 [(2,.cptr (lB h H1 H2 H3 H4 u us v vs x B C) 0),(3,.cptr [.q d.x X,.q d.z Z] 0),(6,.cptr [.q v.at_.x 300,.q v.at_.z 300] 0),(7,.cptr [.q x.x B,.q x.z C] 0),(8,.cptr [.q f FA] 0),(15,.own 0 19 0 1),(85,.list 9 (L.map (eL T))),(86,.i6 (L.length:Int)),(87,.i6 ((i+1:Nat):Int))]) (h:=[some ⟨110,19,true,[[.q s.a S1,.q s.b S2,.q s.d S3,.q t.a T,.q t.b T,.q t.d T,.bool (bE u.low u.high ⟨s.a,s.b,s.d⟩&&bE v.low v.high ⟨t.a,t.b,t.d⟩)]],none⟩]) ?_
             have hA2:([]:List BendD)++ [⟨s,t,bE u.low u.high s&&bE v.low v.high t⟩]=(L.take (i+1)).filterMap (gQ u v x d):=by rw[hnx,hso c3, <- hA];rfl
             have:=ih (i+1) (by omega) _ hA2;exact this
     · exact absurd hi c1
   · have e1 :mK A= .own 0 19 0 A.length:=if_neg hA0
     have e2:rZ S1 S2 S3 T A= [some ⟨110,19,true,A.map (cR S1 S2 S3 T),none⟩]:=if_neg hA0;rw[e1,e2]
     by_cases c1:((i:Nat):Int)<((L.length:Nat):Int)
     · by_cases c2:(Int.sign f.num)=(0:Int)
       · exact absurd c2 hf
       · by_cases c3:(if Int.sign t.d.num<0 then 0 else gP b.a b.b t.d)=0
         · refine gR eU none [2,3,4,5,6,7,8,15,85,86,87] [0] [(88,tt),(89,.cptr (eL T t) 0),(93,ff),(110,.agg (qG w W)),(130,.agg [.q b.a BE,.q b.b BE]),(133,tt),(169,.i6 ((i+1:Nat):Int))] (.c6 (iT c1) hcm (nn i) v10 (iF c2) v8 (.c6 v0 v3 v11 v12 v6 v2 (.a4 v5 (iT c3) v13 (wI ((i:Int)+(1:Int)) ((i+1:Nat):Int) (by first | omega | decide | (unfold big;omega)))))) (t:=AB) (σ:=slots 171 [(2,.cptr (lB h H1 H2 H3 H4 u us v vs x B C) 0),(3,.cptr [.q d.x X,.q d.z Z] 0),(6,.cptr [.q v.at_.x 300,.q v.at_.z 300] 0),(7,.cptr [.q x.x B,.q x.z C] 0),(8,.cptr [.q f FA] 0),(15,.own 0 19 0 A.length),(85,.list 9 (L.map (eL T))),(86,.i6 (L.length:Int)),(87,.i6 ((i+1:Nat):Int))]) (h:=[some ⟨110,19,true,(A.map (cR S1 S2 S3 T)),none⟩]) ?_
           have:=ih (i+1) (by omega) A (by rw[hnx,hno c3];simp[hA]);rw[e1,e2] at this;exact this
         · have v16:A.length=(A.map (cR S1 S2 S3 T)).length:=by simp
           have v17:(A.length+1)*344<=140737488355328:=by omega
           have v18:A.length+1<=big:=by(unfold big;omega)
           rcases Bool.eq_false_or_eq_true (bE u.low u.high ⟨s.a,s.b,s.d⟩) with c4 | c4
           · refine gR eU none [2,3,4,5,6,7,8,15,85,86,87] [27] [(88,tt),(89,.cptr (eL T t) 0),(93,ff),(110,.agg (qG w W)),(130,.agg [.q b.a BE,.q b.b BE]),(133,ff),(152,.agg [.q s.a S1,.q s.b S2,.q s.d S3]),(160,tt),(165,.bool (bE u.low u.high ⟨s.a,s.b,s.d⟩&&bE v.low v.high ⟨t.a,t.b,t.d⟩)),(169,.i6 ((i+1:Nat):Int))] (.c6 (iT c1) hcm (nn i) v10 (iF c2) v8 (.c6 v0 v3 v11 v12 v6 v2 (.c6 v5 (iF c3) v13 v12 v11 v9 (.c6 v7 v1 v4 v14 (show Ref (AD u s) (.bool true) from Ref.bool c4) v15 (.a6 (show Ref (.bool (bE v.low v.high ⟨t.a,t.b,t.d⟩)) (AC u s v t) from Ref.bool (by rw[c4];simp)) r1 v16 v17 v18 (wI ((i:Int)+(1:Int)) ((i+1:Nat):Int) (by first | omega | decide | (unfold big;omega)))))))) (t:=AB) (σ:=slots 171 [(2,.cptr (lB h H1 H2 H3 H4 u us v vs x B C) 0),(3,.cptr [.q d.x X,.q d.z Z] 0),(6,.cptr [.q v.at_.x 300,.q v.at_.z 300] 0),(7,.cptr [.q x.x B,.q x.z C] 0),(8,.cptr [.q f FA] 0),(15,.own 0 19 0 (A.length+1)),(85,.list 9 (L.map (eL T))),(86,.i6 (L.length:Int)),(87,.i6 ((i+1:Nat):Int))]) (h:=[some (HQ A S1 S2 S3 T s t u v)]) ?_
             have hA2:A++ [⟨s,t,bE u.low u.high s&&bE v.low v.high t⟩]=(L.take (i+1)).filterMap (gQ u v x d):=by rw[hnx,hso c3, <- hA];rfl
             have:=ih (i+1) (by omega) _ hA2;have e3:mK (A++ [⟨s,t,bE u.low u.high s&&bE v.low v.high t⟩])= .own 0 19 0 (A.length+1):=by unfold mK;rw[if_neg (by simp)];simp
             have e4:rZ S1 S2 S3 T (A++ [⟨s,t,bE u.low u.high s&&bE v.low v.high t⟩])= [some ⟨110,19,true,A.map (cR S1 S2 S3 T)++ [cR S1 S2 S3 T ⟨s,t,bE u.low u.high s&&bE v.low v.high t⟩],none⟩]:=by unfold rZ;rw[if_neg (by simp)];simp
             rw[e3,e4] at this;exact this
           · refine gR eU none [2,3,4,5,6,7,8,15,85,86,87] [27] [(88,tt),(89,.cptr (eL T t) 0),(93,ff),(110,.agg (qG w W)),(130,.agg [.q b.a BE,.q b.b BE]),(133,ff),(152,.agg [.q s.a S1,.q s.b S2,.q s.d S3]),(160,ff),(165,.bool (bE u.low u.high ⟨s.a,s.b,s.d⟩&&bE v.low v.high ⟨t.a,t.b,t.d⟩)),(169,.i6 ((i+1:Nat):Int))] (.c6 (iT c1) hcm (nn i) v10 (iF c2) v8 (.c6 v0 v3 v11 v12 v6 v2 (.c6 v5 (iF c3) v13 v12 v11 v9 (.c6 v7 v1 v4 v14 (show Ref (AD u s) (.bool false) from Ref.bool c4) (show Ref (.bool false) (AC u s v t) from Ref.bool (by rw[c4];simp)) (.a5 r1 v16 v17 v18 (wI ((i:Int)+(1:Int)) ((i+1:Nat):Int) (by first | omega | decide | (unfold big;omega)))))))) (t:=AB) (σ:=slots 171 [(2,.cptr (lB h H1 H2 H3 H4 u us v vs x B C) 0),(3,.cptr [.q d.x X,.q d.z Z] 0),(6,.cptr [.q v.at_.x 300,.q v.at_.z 300] 0),(7,.cptr [.q x.x B,.q x.z C] 0),(8,.cptr [.q f FA] 0),(15,.own 0 19 0 (A.length+1)),(85,.list 9 (L.map (eL T))),(86,.i6 (L.length:Int)),(87,.i6 ((i+1:Nat):Int))]) (h:=[some (HQ A S1 S2 S3 T s t u v)]) ?_
             have hA2:A++ [⟨s,t,bE u.low u.high s&&bE v.low v.high t⟩]=(L.take (i+1)).filterMap (gQ u v x d):=by rw[hnx,hso c3, <- hA];rfl
             have:=ih (i+1) (by omega) _ hA2;have e3:mK (A++ [⟨s,t,bE u.low u.high s&&bE v.low v.high t⟩])= .own 0 19 0 (A.length+1):=by unfold mK;rw[if_neg (by simp)];simp
             have e4:rZ S1 S2 S3 T (A++ [⟨s,t,bE u.low u.high s&&bE v.low v.high t⟩])= [some ⟨110,19,true,A.map (cR S1 S2 S3 T)++ [cR S1 S2 S3 T ⟨s,t,bE u.low u.high s&&bE v.low v.high t⟩],none⟩]:=by unfold rZ;rw[if_neg (by simp)];simp
             rw[e3,e4] at this;exact this
     · exact absurd hi c1
end
def xK (ulo uhi vlo vhi:Rat) (vat x d:PtD):List BendD×Bool:=kR { (default:BodyD) with low:=ulo,high:=uhi } { (default:BodyD) with low:=vlo,high:=vhi,at_:=vat } x d
def bT (B C X Z:Nat):Nat:=14*X+14*Z+29*B+29*C+18500
def bW (B C X Z:Nat):Nat:=170*bT B C X Z+B+C+1804
def Sj (B C X Z:Nat):Nat:=(2*X+2*Z+6)+4*bW B C X Z+X+Z+2*bT B C X Z+24
def Rb (B C X Z:Nat):Nat:=2*(4*bW B C X Z+X+Z+2*bT B C X Z+18)+6*Sj B C X Z+2*bT B C X Z+18
def DM (B C X Z:Nat):Nat:=2*Rb B C X Z+bT B C X Z+5
def DN (B C X Z:Nat):Nat:=Rb B C X Z+bT B C X Z+3
def DO (B C X Z:Nat):Nat:=2*bT B C X Z+3
def Rc:KF
 | [.agg [.q hx H1,.q hz H2,.q hc H3,.q hs H4,.str un,.int .i64 up,.q ux 300,.q uz 300,.q uma 300,.q uin 300,.q ucx 300,.q ucz 300,.q ulo 300,.q uhi 300,.list 6 us,.str vn,.int .i64 vp,.q vx 300,.q vz 300,.q vma 300,.q vin 300,.q vcx 300,.q vcz 300,.q vlo 300,.q vhi 300,.list 6 vs,.q xx B,.q xz C],.agg [.q dx X,.q dz Z]]=>some (.tup [.list 19 ((xK ulo uhi vlo vhi ⟨vx,vz⟩ ⟨xx,xz⟩ ⟨dx,dz⟩).1.map (cR (DM B C X Z) (DN B C X Z) (DO B C X Z) (bT B C X Z))),.bool (xK ulo uhi vlo vhi ⟨vx,vz⟩ ⟨xx,xz⟩ ⟨dx,dz⟩).2],[8*DM B C X Z+8*DN B C X Z+4*DO B C X Z+400*bT B C X Z+20000<=LIM])
 | _=>none
abbrev AE (v:BodyD) (x:PtD) (d:PtD) (B:Nat) (C:Nat) (X:Nat) (Z:Nat):List AV:=[.list 9 ((dE v.at_ x d).map (eL (bT B C X Z))),.i6 (AA v.at_ x d)]
abbrev AF (d:PtD) (X:Nat) (Z:Nat):List AV:=[.q (d.x*d.x+d.z*d.z) (X+Z+X+Z+6)]
theorem TJ:bO 122 Rc:=fun args r ob h ho=>by
 unfold Rc at h
 split at h
 · rename_i hx H1 hz H2 hc H3 hs H4 un up ux uz uma uin ucx ucz ulo uhi us vn vp vx vz vma vin vcx vcz vlo vhi vs xx B xz C dx X dz Z
   cases h;have o1:8*DM B C X Z+8*DN B C X Z+4*DO B C X Z+400*bT B C X Z+20000<=LIM:=ho _ (by simp);clear ho;obtain⟨h,hh⟩:∃ h:FrameD,h=⟨⟨hx,hz⟩,hc,hs⟩:=⟨_,rfl⟩;obtain⟨u,hu⟩:∃ u:BodyD,u=⟨un,up,⟨ux,uz⟩,⟨ucx,ucz⟩,uma,uin,ulo,uhi,[]⟩:=⟨_,rfl⟩;obtain⟨v,hv⟩:∃ v:BodyD,v=⟨vn,vp,⟨vx,vz⟩,⟨vcx,vcz⟩,vma,vin,vlo,vhi,[]⟩:=⟨_,rfl⟩;obtain⟨x,hx'⟩:∃ x:PtD,x=⟨xx,xz⟩:=⟨_,rfl⟩;obtain⟨d,hd⟩:∃ d:PtD,d=⟨dx,dz⟩:=⟨_,rfl⟩;have hres:xK ulo uhi vlo vhi ⟨vx,vz⟩ ⟨xx,xz⟩ ⟨dx,dz⟩=kR u v x d:=by rw[hu,hv,hx',hd];rfl
   rw[hres];refine af Tryz.f122 fun S w0=> ?_
   refine Good.weak 171 [(0,.agg (lB h H1 H2 H3 H4 u us v vs x B C)),(1,.agg [.q d.x X,.q d.z Z])] (by kernel_rfl) (.cons (Ref.eq (by rw[hh,hu,hv,hx'];rfl)) (.cons (Ref.eq (by rw[hd];rfl)) .nil)) ?_;have hT:bT B C X Z=14*X+14*Z+29*B+29*C+18500:=rfl;have hW:bW B C X Z=170*bT B C X Z+B+C+1804:=rfl;have hBE:Sj B C X Z=(2*X+2*Z+6)+4*bW B C X Z+X+Z+2*bT B C X Z+24:=rfl;have hDV:Rb B C X Z=2*(4*bW B C X Z+X+Z+2*bT B C X Z+18)+6*Sj B C X Z+2*bT B C X Z+18:=rfl;have h1:DM B C X Z=2*Rb B C X Z+bT B C X Z+5:=rfl;have h2:DN B C X Z=Rb B C X Z+bT B C X Z+3:=rfl;have h3:DO B C X Z=2*bT B C X Z+3:=rfl;have hroots:Ref (AV.tup [(AV.list 9 ((eJ (((((d.x*d.x+d.z*d.z)-(v.at_.x*v.at_.x+v.at_.z*v.at_.z))-(x.x*x.x+x.z*x.z))*((Int.cast 1:Rat)/(Int.cast 2:Rat)))+(v.at_.x*x.x+v.at_.z*x.z)) ((v.at_.x*x.z-v.at_.z*x.x)+(v.at_.x*x.z-v.at_.z*x.x)) (((((d.x*d.x+d.z*d.z)-(v.at_.x*v.at_.x+v.at_.z*v.at_.z))-(x.x*x.x+x.z*x.z))*((Int.cast 1:Rat)/(Int.cast 2:Rat)))-(v.at_.x*x.x+v.at_.z*x.z))).map (eL (5*(((((X+Z+X+Z+6)+(300+300+300+300+6)+2)+(B+C+B+C+6)+2)+64+2)+(300+300+B+C+6)+2)+4*((300+300+B+C+6)+(300+300+B+C+6)+2)+2*(((((X+Z+X+Z+6)+(300+300+300+300+6)+2)+(B+C+B+C+6)+2)+64+2)+(300+300+B+C+6)+2)+300)))),(AV.int .i64 (if (((((d.x*d.x+d.z*d.z)-(v.at_.x*v.at_.x+v.at_.z*v.at_.z))-(x.x*x.x+x.z*x.z))*((Int.cast 1:Rat)/(Int.cast 2:Rat)))+(v.at_.x*x.x+v.at_.z*x.z))=0/\((v.at_.x*x.z-v.at_.z*x.x)+(v.at_.x*x.z-v.at_.z*x.x))=0/\(((((d.x*d.x+d.z*d.z)-(v.at_.x*v.at_.x+v.at_.z*v.at_.z))-(x.x*x.x+x.z*x.z))*((Int.cast 1:Rat)/(Int.cast 2:Rat)))-(v.at_.x*x.x+v.at_.z*x.z))=0 then 10 else 0))]) (AV.tup [(AV.list 9 ((dE v.at_ x d).map (eL (bT B C X Z)))),(AV.int .i64 (AA v.at_ x d))]):=Ref.tup2 (Ref.listM (dE v.at_ x d) fun y _=>RefC.cons (RefC.q_le (by omega)) (RefC.cons (RefC.q_le (by omega)) (RefC.q_le (by omega)))) (Ref.int rfl) rfl rfl rfl rfl
   have v0:20*(((((X+Z+X+Z+6)+(300+300+300+300+6)+2)+(B+C+B+C+6)+2)+64+2)+(300+300+B+C+6)+2)+20*((300+300+B+C+6)+(300+300+B+C+6)+2)+10*(((((X+Z+X+Z+6)+(300+300+300+300+6)+2)+(B+C+B+C+6)+2)+64+2)+(300+300+B+C+6)+2)+3000<=LIM:=by omega
   have v1:((((X+Z+X+Z+6)+(300+300+300+300+6)+2)+(B+C+B+C+6)+2)+64+2)+(300+300+B+C+6)+200<=LIM:=by omega
   have v2:(((X+Z+X+Z+6)+(300+300+300+300+6)+2)+(B+C+B+C+6)+2)+64+200<=LIM:=by omega
   have v3:((X+Z+X+Z+6)+(300+300+300+300+6)+2)+(B+C+B+C+6)+200<=LIM:=by omega
   have v4:300+300+B+C+300<=LIM:=by omega
   have v5:300+300+300+300+300<=LIM:=by omega
   have v6:B+C+B+C+300<=LIM:=by omega
   have v7:(X+Z+X+Z+6)+(300+300+300+300+6)+200<=LIM:=by omega
   have v8:(300+300+B+C+6)+(300+300+B+C+6)+200<=LIM:=by omega
   have v9:X+Z+X+Z+300<=LIM:=by omega
   by_cases c1:AA v.at_ x d=10
   · have e:kR u v x d=([],decide (kS x x=0/\0<kS v.at_ v.at_/\kS d d+kS v.at_ d=0)):=if_pos c1
     rw[e]
     by_cases c2:(Int.sign (x.x*x.x+x.z*x.z).num)=(0:Int)
     · have k2:kS x x=0:=gG.1 c2
       by_cases c3:(0:Int)<(Int.sign (v.at_.x*v.at_.x+v.at_.z*v.at_.z).num)
       · have k3:0<kS v.at_ v.at_:=GQ.1 c3
         refine rF eU [(48,.tup (AE v x d B C X Z)),(62,tt),(68,tt),(76,tt)] (.c6 v9 v5 v7 v6 v3 v2 (.c6 v4 v4 v1 v8 v1 v0 (.c6 hroots (iT c1) v6 (iT c2) v5 (iT c3) (.a2 (om (300+300+X+Z+300<=LIM)) (om ((X+Z+X+Z+6)+(300+300+X+Z+6)+200<=LIM)))))) (V:=.tup [.nil,.bool (decide ((Int.sign ((d.x*d.x+d.z*d.z)+(v.at_.x*d.x+v.at_.z*d.z)).num)=(0:Int)))]) (Ref.tup2 Ref.nilL (Ref.bool ?_) rfl rfl rfl rfl)
         rw[decide_eq_decide,gG];exact⟨fun h=>⟨k2,k3,h⟩,fun h=>h.2.2⟩
       · have k3:¬ 0<kS v.at_ v.at_:=fun h=>c3 (GQ.2 h)
         refine rF eU [(48,.tup (AE v x d B C X Z)),(62,tt),(68,tt),(76,ff)] (.c6 v9 v5 v7 v6 v3 v2 (.c6 v4 v4 v1 v8 v1 v0 (.a6 hroots (iT c1) v6 (iT c2) v5 (iF c3)))) (V:=.tup [.nil,.bool false]) (Ref.tup2 Ref.nilL (Ref.bool (by simp[k3])) rfl rfl rfl rfl)
     · have k2:¬ kS x x=0:=fun h=>c2 (gG.2 h)
       refine rF eU [(48,.tup (AE v x d B C X Z)),(62,tt),(68,ff)] (.c6 v9 v5 v7 v6 v3 v2 (.c6 v4 v4 v1 v8 v1 v0 (.a4 hroots (iT c1) v6 (iF c2)))) (V:=.tup [.nil,.bool false]) (Ref.tup2 Ref.nilL (Ref.bool (by simp[k2])) rfl rfl rfl rfl)
   · refine gR eU none [2,3,4,5,6,7,8,15,85,86,87] [0,1,2,3,5] [(48,.tup (AE v x d B C X Z)),(62,ff)] (.c6 v9 v5 v7 v6 v3 v2 (.c6 v4 v4 v1 v8 v1 v0 (.a2 hroots (iF c1)))) (t:=AB) (σ:=slots 171 [(2,.ptr 0 72 0 0),(3,.ptr 1 6 0 0),(4,.nil),(5,.bool false),(6,.ptr 2 6 0 0),(7,.ptr 3 6 0 0),(8,.ptr 4 3 0 0),(15,.nil),(85,(.list 9 ((dE v.at_ x d).map (eL (bT B C X Z))))),(86,(.i6 (((dE v.at_ x d).map (eL (bT B C X Z))).length:Int))),(87,.i6 (0:Int))]) (h:=[some ⟨267,72,false,[(lB h H1 H2 H3 H4 u us v vs x B C)],none⟩,some ⟨58,6,false,[[.q d.x X,.q d.z Z]],none⟩,some ⟨58,6,false,[[.q v.at_.x 300,.q v.at_.z 300]],none⟩,some ⟨58,6,false,[[.q x.x B,.q x.z C]],none⟩,some ⟨56,3,false,[(AF d X Z)],none⟩]) ?_
     have hlen:((dE v.at_ x d).map (eL (bT B C X Z))).length=(dE v.at_ x d).length:=bM ..;rw[hlen];refine Good.freezeD (b:=⟨267,72,false,[(lB h H1 H2 H3 H4 u us v vs x B C)],none⟩) 0 (by rfl) (by rfl) (.oe (.a1 (dc (0<1)))) .on ?_;refine Good.freezeD (b:=⟨58,6,false,[[.q d.x X,.q d.z Z]],none⟩) 1 (by rfl) (by rfl) (.oe (.a1 (dc (0<1)))) .on ?_;refine Good.freezeD (b:=⟨58,6,false,[[.q v.at_.x 300,.q v.at_.z 300]],none⟩) 2 (by rfl) (by rfl) (.oe (.a1 (dc (0<1)))) .on ?_;refine Good.freezeD (b:=⟨58,6,false,[[.q x.x B,.q x.z C]],none⟩) 3 (by rfl) (by rfl) (.oe (.a1 (dc (0<1)))) .on ?_;refine Good.freezeD (b:=⟨56,3,false,[(AF d X Z)],none⟩) 4 (by rfl) (by rfl) (.oe (.a1 (dc (0<1)))) .on ?_;refine Good.tidy [] (by decide) (σ':=slots 171 [(2,.cptr (lB h H1 H2 H3 H4 u us v vs x B C) 0),(3,.cptr [.q d.x X,.q d.z Z] 0),(6,.cptr [.q v.at_.x 300,.q v.at_.z 300] 0),(7,.cptr [.q x.x B,.q x.z C] 0),(8,.cptr (AF d X Z) 0),(4,.nil),(5,.bool false),(15,.nil),(85,.list 9 ((dE v.at_ x d).map (eL (bT B C X Z)))),(86,.i6 (((dE v.at_ x d).length:Nat):Int)),(87,.i6 0)]) (h':=[]) (by kernel_rfl) (by kernel_rfl) ?_
     refine Good.pk 171 [(2,.cptr (lB h H1 H2 H3 H4 u us v vs x B C) 0),(3,.cptr [.q d.x X,.q d.z Z] 0),(6,.cptr [.q v.at_.x 300,.q v.at_.z 300] 0),(7,.cptr [.q x.x B,.q x.z C] 0),(8,.cptr (AF d X Z) 0),(15,.nil),(85,.list 9 ((dE v.at_ x d).map (eL (bT B C X Z)))),(86,.i6 (((dE v.at_ x d).length:Nat):Int)),(87,.i6 0)] ?_;have e1:mK []= .nil:=if_pos rfl;have e2:rZ (DM B C X Z) (DN B C X Z) (DO B C X Z) (bT B C X Z) []= []:=if_pos rfl
     by_cases c2:Int.sign (d.x*d.x+d.z*d.z).num=0
     · by_cases c3:dE v.at_ x d= []
       · have e:kR u v x d=((dE v.at_ x d).filterMap (gQ u v x d),true):=by unfold kR;rw[if_neg c1,if_neg (fun h=>h.1 c3)]
         rw[e,c3]
         have:=HP (S:=S) (w0:=w0) (h:=h) (u:=u) (v:=v) (us:=us) (vs:=vs) (x:=x) (d:=d) (H1:=H1) (H2:=H2) (H3:=H3) (H4:=H4) (B:=B) (C:=C) (X:=X) (Z:=Z) (L:=[]) (T:=bT B C X Z) (FA:=X+Z+X+Z+6) (S1:=DM B C X Z) (S2:=DN B C X Z) (S3:=DO B C X Z) (f:=d.x*d.x+d.z*d.z) [] 0 rfl;rw[e1,e2] at this;exact this
       · have e:kR u v x d=([],false):=by unfold kR;rw[if_neg c1,if_pos ⟨c3,gG.1 c2⟩]
         rw[e];have hpos:0<(dE v.at_ x d).length:=List.length_pos_iff.2 c3;refine rF eU [(88,tt),(89,.cptr [.q ((dE v.at_ x d).getD 0 default).a (bT B C X Z),.q ((dE v.at_ x d).getD 0 default).b (bT B C X Z),.q ((dE v.at_ x d).getD 0 default).d (bT B C X Z)] 0),(93,tt)] (.a5 (iT (om ((0:Int)<((((dE v.at_ x d).length):Nat):Int)))) (show Ref (.cptr (((dE v.at_ x d).map (eL (bT B C X Z))).getD 0 []) 0) (.cptr [.q ((dE v.at_ x d).getD 0 default).a (bT B C X Z),.q ((dE v.at_ x d).getD 0 default).b (bT B C X Z),.q ((dE v.at_ x d).getD 0 default).d (bT B C X Z)] 0) from Ref.cmap (f:=eL (bT B C X Z)) hpos) (nn 0) (show(0:Int)<(((dE v.at_ x d).map (eL (bT B C X Z))).length:Int) by rw[bM];omega) (iT c2)) (V:=.tup [.nil,.bool false]) (Ref.tup2 Ref.nilL rr rfl rfl rfl rfl)
     · have e:kR u v x d=((dE v.at_ x d).filterMap (gQ u v x d),true):=by unfold kR;rw[if_neg c1,if_neg (fun h=>c2 (gG.2 h.2))]
       rw[e]
       have:=Kj (S:=S) (w0:=w0) (h:=h) (u:=u) (v:=v) (us:=us) (vs:=vs) (x:=x) (d:=d) (H1:=H1) (H2:=H2) (H3:=H3) (H4:=H4) (B:=B) (C:=C) (X:=X) (Z:=Z) (L:=dE v.at_ x d) (T:=bT B C X Z) (FA:=X+Z+X+Z+6) (S1:=DM B C X Z) (S2:=DN B C X Z) (S3:=DO B C X Z) (f:=d.x*d.x+d.z*d.z) (W:=bW B C X Z) (BE:=Sj B C X Z) c2 rfl (CV _ _ _) (by omega) (by omega) (by omega) (by omega) (by omega) (by omega) (by omega) (dE v.at_ x d).length 0 (by omega) [] rfl;rw[e1,e2] at this;exact this
 · cases h
end Go.Av
namespace Go.Av
theorem Nm.ext' {x y:Nm} (h:x.a=y.a) (k:x.b=y.b):x=y:=by cases x;cases y;simp_all
def fld (d:Rat):Prop:=0<=d/\(d=0\/∀ x:Rat,x*x≠d)
def nok (s:Sd):Prop:=(s.b=0/\s.d=0)\/(s.b≠0/\0<s.d/\(∀ x,x*x≠s.d)/\s.d.den=1)
theorem nok.fld {s:Sd} (h:nok s):fld s.d:=by
 rcases h with ⟨_,h⟩ | ⟨_,h,h1,_⟩
 · exact⟨by rw[h];exact Rat.le_refl,.inl h⟩
 · exact⟨Rat.le_of_lt h,.inr h1⟩
theorem cH {x:Rat}:(Int.sign x.num=0↔x=0)/\(Int.sign x.num<0↔x<0):=by
 refine⟨by rw[Int.sign_eq_zero_iff_zero,Rat.num_eq_zero], ?_⟩;rw[<- Rat.not_le, <- Rat.num_nonneg];rcases Int.lt_trichotomy x.num 0 with h | h | h
 · rw[Int.sign_eq_neg_one_of_neg h];omega
 · rw[h];decide
 · rw[Int.sign_eq_one_of_pos h];omega
def rtl (d:Rat) (y:Nm):Prop:=d=0->y.b=0
theorem nok.rtl {t:Sd} (h:nok t):rtl t.d ⟨t.a,t.b⟩:=fun e=>by
 rcases h with ⟨h,_⟩ | ⟨_,h,_⟩
 · exact h
 · rw[e] at h;exact absurd h (by decide)
def aF (s:Sd):Nm:=⟨s.a,if s.d=0 then 0 else s.b⟩
def aC (y:BendD):Rat:=if y.a.d=0 then y.b.d else y.a.d
def cM (h:FrameD) (v x:PtD) (y:BendD):Vc:=
 bF (bQ (aC y) (aM (aC y) (bF ⟨⟨v.x,0⟩,⟨v.z,0⟩⟩ (aM (aC y) ⟨⟨x.x,0⟩,⟨x.z,0⟩⟩ (aF y.b))) (aF y.a)) ⟨h.c,0⟩ ⟨h.s,0⟩) ⟨⟨h.at_.x,0⟩,⟨h.at_.z,0⟩⟩
end Go.Av
namespace Go.Av
open Go.Proofs Go.RowKit
def Rd:KF
 | [.agg [.rq x d B]]=>some (.agg [.rq x d B,.rq 0 0 0],[])
 | _=>none
theorem MH:bO 140 Rd:=by
 refine cJ Tryz.f140 fun _ _ _ S w0 h ho=> ?_
 unfold Rd at h;split at h <;> cases h;rename_i x d B;exact rR .nil [] .nil
def Re:KF
 | [.agg [.rq x d B,.rq z e C]]=>some (.agg [.rq x d B,.rq 0 0 0,.rq z e C,.rq 0 0 0],[])
 | _=>none
theorem TL:bO 136 Re:=by
 refine cJ Tryz.f136 fun _ _ _ S w0 h ho=> ?_
 unfold Re at h;split at h <;> cases h;rename_i x d B z e C;have K:=kn.cons MH;exact rR K [] .nil
def Rf:KF
 | [.agg [.rq d dd D],.agg [.rq x1 xd X1,.rq x2 xe X2],.agg [.rq y1 yd Y1,.rq y2 ye Y2]]=>some (.agg [.rq (aP ⟨x1,x2⟩ ⟨y1,y2⟩).a (aP ⟨x1,x2⟩ ⟨y1,y2⟩).a.den (max X1 64+max Y1 64+1),.rq (aP ⟨x1,x2⟩ ⟨y1,y2⟩).b (aP ⟨x1,x2⟩ ⟨y1,y2⟩).b.den (max X2 64+max Y2 64+1)],[2*(max X1 64+max X2 64+max Y1 64+max Y2 64)+1000<=LIM])
 | _=>none
theorem MI:bO 139 Rf:=by
 refine cJ Tryz.f139 fun _ _ _ S w0 h ho=> ?_
 unfold Rf at h;split at h <;> cases h;rename_i d dd D x1 xd X1 x2 xe X2 y1 yd Y1 y2 ye Y2;have o1:=ho.one;have L:=dH;have K:=kn.cons BT;exact rF K [] (.a2 (show max X1 64+max Y1 64+max X1 64+max Y1 64+500<=LIM by first | assumption | omega | rfl) (show max X2 64+max Y2 64+max X2 64+max Y2 64+500<=LIM by first | assumption | omega | rfl)) (V:=.agg [.rq (x1+y1) ((x1+y1).den) (max X1 64+max Y1 64+1),.rq (x2+y2) ((x2+y2).den) (max X2 64+max Y2 64+1)]) (Ref.agg (RefC.cons (RefC.rq_e (by first | rfl | grind) (by omega)) (RefC.rq_e (by first | rfl | grind) (by omega))))
def Rg:KF
 | [.agg [.rq d dd D],.agg [.rq x1 xd X1,.rq x2 xe X2],.agg [.rq y1 yd Y1,.rq y2 ye Y2]]=>some (.agg [.rq (gC ⟨x1,x2⟩ ⟨y1,y2⟩).a (gC ⟨x1,x2⟩ ⟨y1,y2⟩).a.den (max X1 64+max Y1 64+1),.rq (gC ⟨x1,x2⟩ ⟨y1,y2⟩).b (gC ⟨x1,x2⟩ ⟨y1,y2⟩).b.den (max X2 64+max Y2 64+1)],[2*(max X1 64+max X2 64+max Y1 64+max Y2 64)+1000<=LIM])
 | _=>none
theorem Rh:bO 224 Rg:=by
 refine cJ Tryz.f224 fun _ _ _ S w0 h ho=> ?_
 unfold Rg at h;split at h <;> cases h;rename_i d dd D x1 xd X1 x2 xe X2 y1 yd Y1 y2 ye Y2;have o1:=ho.one;have L:=dH;have K:=kn.cons Hv;exact rF K [] (.a2 (show max X1 64+max Y1 64+max X1 64+max Y1 64+500<=LIM by first | assumption | omega | rfl) (show max X2 64+max Y2 64+max X2 64+max Y2 64+500<=LIM by first | assumption | omega | rfl)) (V:=.agg [.rq (x1-y1) ((x1-y1).den) (max X1 64+max Y1 64+1),.rq (x2-y2) ((x2-y2).den) (max X2 64+max Y2 64+1)]) (Ref.agg (RefC.cons (RefC.rq_e (by first | rfl | grind) (by omega)) (RefC.rq_e (by first | rfl | grind) (by omega))))
def Ri:KF
 | [.agg [.rq d dd D],.agg [.rq x1 xd X1,.rq x2 xe X2],.agg [.rq y1 yd Y1,.rq y2 ye Y2]]=>some (.agg [.rq (aY d ⟨x1,x2⟩ ⟨y1,y2⟩).a (aY d ⟨x1,x2⟩ ⟨y1,y2⟩).a.den (max X1 64+max X2 64+max Y1 64+max Y2 64+max D 64+1),.rq (aY d ⟨x1,x2⟩ ⟨y1,y2⟩).b (aY d ⟨x1,x2⟩ ⟨y1,y2⟩).b.den (max X1 64+max X2 64+max Y1 64+max Y2 64+max D 64+1)],[4*(max X1 64+max X2 64+max Y1 64+max Y2 64+max D 64)+2000<=LIM])
 | _=>none
theorem MJ:bO 225 Ri:=by
 refine cJ Tryz.f225 fun _ _ _ S w0 h ho=> ?_
 unfold Ri at h;split at h <;> cases h;rename_i d dd D x1 xd X1 x2 xe X2 y1 yd Y1 y2 ye Y2;have o1:=ho.one;have L:=dH;have K:=(kn.cons BT).cons CF;refine rF K [] (.c6 (show max X1 64+max Y1 64+(max X1 64+max Y1 64)+300<=LIM by first | assumption | omega | rfl) (show max X2 64+max Y2 64+(max X2 64+max Y2 64)+300<=LIM by first | assumption | omega | rfl) (show max D 64+max (max X2 64+max Y2 64) 64+(max D 64+max (max X2 64+max Y2 64) 64)+300<=LIM by first | assumption | omega | rfl) (show max (max X1 64+max Y1 64) 64+max (max D 64+max (max X2 64+max Y2 64) 64) 64+max (max X1 64+max Y1 64) 64+max (max D 64+max (max X2 64+max Y2 64) 64) 64+500<=LIM by first | assumption | omega | rfl) (show max X1 64+max Y2 64+(max X1 64+max Y2 64)+300<=LIM by first | assumption | omega | rfl) (show max X2 64+max Y1 64+(max X2 64+max Y1 64)+300<=LIM by first | assumption | omega | rfl) (.a1 (show max (max X1 64+max Y2 64) 64+max (max X2 64+max Y1 64) 64+max (max X1 64+max Y2 64) 64+max (max X2 64+max Y1 64) 64+500<=LIM by first | assumption | omega | rfl))) (V:=.agg [.rq ((x1*y1)+(d*(x2*y2))) (((x1*y1)+(d*(x2*y2))).den) (max (max X1 64+max Y1 64) 64+max (max D 64+max (max X2 64+max Y2 64) 64) 64+1),.rq ((x1*y2)+(x2*y1)) (((x1*y2)+(x2*y1)).den) (max (max X1 64+max Y2 64) 64+max (max X2 64+max Y1 64) 64+1)]) ?_
 unfold aY;exact Ref.agg (RefC.cons (RefC.rq_e (by first | rfl | grind) (by omega)) (RefC.rq_e (by first | rfl | grind) (by omega)))
def Rj:KF
 | [.agg [.rq d dd D],.agg [.rq c1 cd C1,.rq c2 ce C2,.rq s1 sd S1,.rq s2 se S2],.agg [.rq x1 xd X1,.rq x2 xe X2,.rq z1 zd Z1,.rq z2 ze Z2]]=>some (.agg [.rq ((bQ d ⟨⟨x1,x2⟩,⟨z1,z2⟩⟩ ⟨c1,c2⟩ ⟨s1,s2⟩).x).a ((bQ d ⟨⟨x1,x2⟩,⟨z1,z2⟩⟩ ⟨c1,c2⟩ ⟨s1,s2⟩).x).a.den (max C1 64+max C2 64+max S1 64+max S2 64+max X1 64+max X2 64+max Z1 64+max Z2 64+2*max D 64+3),.rq ((bQ d ⟨⟨x1,x2⟩,⟨z1,z2⟩⟩ ⟨c1,c2⟩ ⟨s1,s2⟩).x).b ((bQ d ⟨⟨x1,x2⟩,⟨z1,z2⟩⟩ ⟨c1,c2⟩ ⟨s1,s2⟩).x).b.den (max C1 64+max C2 64+max S1 64+max S2 64+max X1 64+max X2 64+max Z1 64+max Z2 64+2*max D 64+3),.rq ((bQ d ⟨⟨x1,x2⟩,⟨z1,z2⟩⟩ ⟨c1,c2⟩ ⟨s1,s2⟩).z).a ((bQ d ⟨⟨x1,x2⟩,⟨z1,z2⟩⟩ ⟨c1,c2⟩ ⟨s1,s2⟩).z).a.den (max C1 64+max C2 64+max S1 64+max S2 64+max X1 64+max X2 64+max Z1 64+max Z2 64+2*max D 64+3),.rq ((bQ d ⟨⟨x1,x2⟩,⟨z1,z2⟩⟩ ⟨c1,c2⟩ ⟨s1,s2⟩).z).b ((bQ d ⟨⟨x1,x2⟩,⟨z1,z2⟩⟩ ⟨c1,c2⟩ ⟨s1,s2⟩).z).b.den (max C1 64+max C2 64+max S1 64+max S2 64+max X1 64+max X2 64+max Z1 64+max Z2 64+2*max D 64+3)],[8*(max C1 64+max C2 64+max S1 64+max S2 64+max X1 64+max X2 64+max Z1 64+max Z2 64+2*max D 64+3)+9000<=LIM])
 | _=>none
theorem TM:bO 137 Rj:=by
 refine cJ Tryz.f137 fun _ _ _ S w0 h ho=> ?_
 unfold Rj at h;split at h <;> cases h;rename_i d dd D c1 cd C1 c2 ce C2 s1 sd S1 s2 se S2 x1 xd X1 x2 xe X2 z1 zd Z1 z2 ze Z2;have o1:=ho.one;have L:=dH;have K:=((kn.cons MI).cons Rh).cons MJ;refine rF K [] (.a6 (show 4*(max C1 64+max C2 64+max X1 64+max X2 64+max D 64)+2000<=LIM by first | assumption | rfl | (have kC1:=Nat.le_max_right C1 64;have kC2:=Nat.le_max_right C2 64;have kS1:=Nat.le_max_right S1 64;have kS2:=Nat.le_max_right S2 64;have kX1:=Nat.le_max_right X1 64;have kX2:=Nat.le_max_right X2 64;have kZ1:=Nat.le_max_right Z1 64;have kZ2:=Nat.le_max_right Z2 64;have kD:=Nat.le_max_right D 64;generalize max C1 64=gC1 at*;generalize max C2 64=gC2 at*;generalize max S1 64=gS1 at*;generalize max S2 64=gS2 at*;generalize max X1 64=gX1 at*;generalize max X2 64=gX2 at*;generalize max Z1 64=gZ1 at*;generalize max Z2 64=gZ2 at*;generalize max D 64=gD at*;omega)) (show 4*(max S1 64+max S2 64+max Z1 64+max Z2 64+max D 64)+2000<=LIM by first | assumption | rfl | (have kC1:=Nat.le_max_right C1 64;have kC2:=Nat.le_max_right C2 64;have kS1:=Nat.le_max_right S1 64;have kS2:=Nat.le_max_right S2 64;have kX1:=Nat.le_max_right X1 64;have kX2:=Nat.le_max_right X2 64;have kZ1:=Nat.le_max_right Z1 64;have kZ2:=Nat.le_max_right Z2 64;have kD:=Nat.le_max_right D 64;generalize max C1 64=gC1 at*;generalize max C2 64=gC2 at*;generalize max S1 64=gS1 at*;generalize max S2 64=gS2 at*;generalize max X1 64=gX1 at*;generalize max X2 64=gX2 at*;generalize max Z1 64=gZ1 at*;generalize max Z2 64=gZ2 at*;generalize max D 64=gD at*;omega)) (show 2*(max (max C1 64+max C2 64+max X1 64+max X2 64+max D 64+1) 64+max (max C1 64+max C2 64+max X1 64+max X2 64+max D 64+1) 64+max (max S1 64+max S2 64+max Z1 64+max Z2 64+max D 64+1) 64+max (max S1 64+max S2 64+max Z1 64+max Z2 64+max D 64+1) 64)+1000<=LIM by first | assumption | rfl | (have kC1:=Nat.le_max_right C1 64;have kC2:=Nat.le_max_right C2 64;have kS1:=Nat.le_max_right S1 64;have kS2:=Nat.le_max_right S2 64;have kX1:=Nat.le_max_right X1 64;have kX2:=Nat.le_max_right X2 64;have kZ1:=Nat.le_max_right Z1 64;have kZ2:=Nat.le_max_right Z2 64;have kD:=Nat.le_max_right D 64;generalize max C1 64=gC1 at*;generalize max C2 64=gC2 at*;generalize max S1 64=gS1 at*;generalize max S2 64=gS2 at*;generalize max X1 64=gX1 at*;generalize max X2 64=gX2 at*;generalize max Z1 64=gZ1 at*;generalize max Z2 64=gZ2 at*;generalize max D 64=gD at*;omega)) (show 4*(max S1 64+max S2 64+max X1 64+max X2 64+max D 64)+2000<=LIM by first | assumption | rfl | (have kC1:=Nat.le_max_right C1 64;have kC2:=Nat.le_max_right C2 64;have kS1:=Nat.le_max_right S1 64;have kS2:=Nat.le_max_right S2 64;have kX1:=Nat.le_max_right X1 64;have kX2:=Nat.le_max_right X2 64;have kZ1:=Nat.le_max_right Z1 64;have kZ2:=Nat.le_max_right Z2 64;have kD:=Nat.le_max_right D 64;generalize max C1 64=gC1 at*;generalize max C2 64=gC2 at*;generalize max S1 64=gS1 at*;generalize max S2 64=gS2 at*;generalize max X1 64=gX1 at*;generalize max X2 64=gX2 at*;generalize max Z1 64=gZ1 at*;generalize max Z2 64=gZ2 at*;generalize max D 64=gD at*;omega)) (show 4*(max C1 64+max C2 64+max Z1 64+max Z2 64+max D 64)+2000<=LIM by first | assumption | rfl | (have kC1:=Nat.le_max_right C1 64;have kC2:=Nat.le_max_right C2 64;have kS1:=Nat.le_max_right S1 64;have kS2:=Nat.le_max_right S2 64;have kX1:=Nat.le_max_right X1 64;have kX2:=Nat.le_max_right X2 64;have kZ1:=Nat.le_max_right Z1 64;have kZ2:=Nat.le_max_right Z2 64;have kD:=Nat.le_max_right D 64;generalize max C1 64=gC1 at*;generalize max C2 64=gC2 at*;generalize max S1 64=gS1 at*;generalize max S2 64=gS2 at*;generalize max X1 64=gX1 at*;generalize max X2 64=gX2 at*;generalize max Z1 64=gZ1 at*;generalize max Z2 64=gZ2 at*;generalize max D 64=gD at*;omega)) (show 2*(max (max S1 64+max S2 64+max X1 64+max X2 64+max D 64+1) 64+max (max S1 64+max S2 64+max X1 64+max X2 64+max D 64+1) 64+max (max C1 64+max C2 64+max Z1 64+max Z2 64+max D 64+1) 64+max (max C1 64+max C2 64+max Z1 64+max Z2 64+max D 64+1) 64)+1000<=LIM by first | assumption | rfl | (have kC1:=Nat.le_max_right C1 64;have kC2:=Nat.le_max_right C2 64;have kS1:=Nat.le_max_right S1 64;have kS2:=Nat.le_max_right S2 64;have kX1:=Nat.le_max_right X1 64;have kX2:=Nat.le_max_right X2 64;have kZ1:=Nat.le_max_right Z1 64;have kZ2:=Nat.le_max_right Z2 64;have kD:=Nat.le_max_right D 64;generalize max C1 64=gC1 at*;generalize max C2 64=gC2 at*;generalize max S1 64=gS1 at*;generalize max S2 64=gS2 at*;generalize max X1 64=gX1 at*;generalize max X2 64=gX2 at*;generalize max Z1 64=gZ1 at*;generalize max Z2 64=gZ2 at*;generalize max D 64=gD at*;omega))) (V:=.agg [.rq ((gC ⟨((aY d ⟨c1,c2⟩ ⟨x1,x2⟩).a),((aY d ⟨c1,c2⟩ ⟨x1,x2⟩).b)⟩ ⟨((aY d ⟨s1,s2⟩ ⟨z1,z2⟩).a),((aY d ⟨s1,s2⟩ ⟨z1,z2⟩).b)⟩).a) ((gC ⟨((aY d ⟨c1,c2⟩ ⟨x1,x2⟩).a),((aY d ⟨c1,c2⟩ ⟨x1,x2⟩).b)⟩ ⟨((aY d ⟨s1,s2⟩ ⟨z1,z2⟩).a),((aY d ⟨s1,s2⟩ ⟨z1,z2⟩).b)⟩).a.den) (max (max C1 64+max C2 64+max X1 64+max X2 64+max D 64+1) 64+max (max S1 64+max S2 64+max Z1 64+max Z2 64+max D 64+1) 64+1),.rq ((gC ⟨((aY d ⟨c1,c2⟩ ⟨x1,x2⟩).a),((aY d ⟨c1,c2⟩ ⟨x1,x2⟩).b)⟩ ⟨((aY d ⟨s1,s2⟩ ⟨z1,z2⟩).a),((aY d ⟨s1,s2⟩ ⟨z1,z2⟩).b)⟩).b) ((gC ⟨((aY d ⟨c1,c2⟩ ⟨x1,x2⟩).a),((aY d ⟨c1,c2⟩ ⟨x1,x2⟩).b)⟩ ⟨((aY d ⟨s1,s2⟩ ⟨z1,z2⟩).a),((aY d ⟨s1,s2⟩ ⟨z1,z2⟩).b)⟩).b.den) (max (max C1 64+max C2 64+max X1 64+max X2 64+max D 64+1) 64+max (max S1 64+max S2 64+max Z1 64+max Z2 64+max D 64+1) 64+1),.rq ((aP ⟨((aY d ⟨s1,s2⟩ ⟨x1,x2⟩).a),((aY d ⟨s1,s2⟩ ⟨x1,x2⟩).b)⟩ ⟨((aY d ⟨c1,c2⟩ ⟨z1,z2⟩).a),((aY d ⟨c1,c2⟩ ⟨z1,z2⟩).b)⟩).a) ((aP ⟨((aY d ⟨s1,s2⟩ ⟨x1,x2⟩).a),((aY d ⟨s1,s2⟩ ⟨x1,x2⟩).b)⟩ ⟨((aY d ⟨c1,c2⟩ ⟨z1,z2⟩).a),((aY d ⟨c1,c2⟩ ⟨z1,z2⟩).b)⟩).a.den) (max (max S1 64+max S2 64+max X1 64+max X2 64+max D 64+1) 64+max (max C1 64+max C2 64+max Z1 64+max Z2 64+max D 64+1) 64+1),.rq ((aP ⟨((aY d ⟨s1,s2⟩ ⟨x1,x2⟩).a),((aY d ⟨s1,s2⟩ ⟨x1,x2⟩).b)⟩ ⟨((aY d ⟨c1,c2⟩ ⟨z1,z2⟩).a),((aY d ⟨c1,c2⟩ ⟨z1,z2⟩).b)⟩).b) ((aP ⟨((aY d ⟨s1,s2⟩ ⟨x1,x2⟩).a),((aY d ⟨s1,s2⟩ ⟨x1,x2⟩).b)⟩ ⟨((aY d ⟨c1,c2⟩ ⟨z1,z2⟩).a),((aY d ⟨c1,c2⟩ ⟨z1,z2⟩).b)⟩).b.den) (max (max S1 64+max S2 64+max X1 64+max X2 64+max D 64+1) 64+max (max C1 64+max C2 64+max Z1 64+max Z2 64+max D 64+1) 64+1)]) ?_
 have hw:∀ {a b:Nat},a<=b->a<=b:=fun h=>h
 exact Ref.agg (RefC.cons (RefC.rq_e rfl (by(have kC1:=Nat.le_max_right C1 64;have kC2:=Nat.le_max_right C2 64;have kS1:=Nat.le_max_right S1 64;have kS2:=Nat.le_max_right S2 64;have kX1:=Nat.le_max_right X1 64;have kX2:=Nat.le_max_right X2 64;have kZ1:=Nat.le_max_right Z1 64;have kZ2:=Nat.le_max_right Z2 64;have kD:=Nat.le_max_right D 64;generalize max C1 64=gC1 at*;generalize max C2 64=gC2 at*;generalize max S1 64=gS1 at*;generalize max S2 64=gS2 at*;generalize max X1 64=gX1 at*;generalize max X2 64=gX2 at*;generalize max Z1 64=gZ1 at*;generalize max Z2 64=gZ2 at*;generalize max D 64=gD at*;omega))) (RefC.cons (RefC.rq_e rfl (by(have kC1:=Nat.le_max_right C1 64;have kC2:=Nat.le_max_right C2 64;have kS1:=Nat.le_max_right S1 64;have kS2:=Nat.le_max_right S2 64;have kX1:=Nat.le_max_right X1 64;have kX2:=Nat.le_max_right X2 64;have kZ1:=Nat.le_max_right Z1 64;have kZ2:=Nat.le_max_right Z2 64;have kD:=Nat.le_max_right D 64;generalize max C1 64=gC1 at*;generalize max C2 64=gC2 at*;generalize max S1 64=gS1 at*;generalize max S2 64=gS2 at*;generalize max X1 64=gX1 at*;generalize max X2 64=gX2 at*;generalize max Z1 64=gZ1 at*;generalize max Z2 64=gZ2 at*;generalize max D 64=gD at*;omega))) (RefC.cons (RefC.rq_e rfl (by(have kC1:=Nat.le_max_right C1 64;have kC2:=Nat.le_max_right C2 64;have kS1:=Nat.le_max_right S1 64;have kS2:=Nat.le_max_right S2 64;have kX1:=Nat.le_max_right X1 64;have kX2:=Nat.le_max_right X2 64;have kZ1:=Nat.le_max_right Z1 64;have kZ2:=Nat.le_max_right Z2 64;have kD:=Nat.le_max_right D 64;generalize max C1 64=gC1 at*;generalize max C2 64=gC2 at*;generalize max S1 64=gS1 at*;generalize max S2 64=gS2 at*;generalize max X1 64=gX1 at*;generalize max X2 64=gX2 at*;generalize max Z1 64=gZ1 at*;generalize max Z2 64=gZ2 at*;generalize max D 64=gD at*;omega))) (RefC.rq_e rfl (by(have kC1:=Nat.le_max_right C1 64;have kC2:=Nat.le_max_right C2 64;have kS1:=Nat.le_max_right S1 64;have kS2:=Nat.le_max_right S2 64;have kX1:=Nat.le_max_right X1 64;have kX2:=Nat.le_max_right X2 64;have kZ1:=Nat.le_max_right Z1 64;have kZ2:=Nat.le_max_right Z2 64;have kD:=Nat.le_max_right D 64;generalize max C1 64=gC1 at*;generalize max C2 64=gC2 at*;generalize max S1 64=gS1 at*;generalize max S2 64=gS2 at*;generalize max X1 64=gX1 at*;generalize max X2 64=gX2 at*;generalize max Z1 64=gZ1 at*;generalize max Z2 64=gZ2 at*;generalize max D 64=gD at*;omega))))))
def Rk:KF
 | [.agg [.rq d dd D],.agg [.rq x1 xd X1,.rq x2 xe X2],.agg [.rq y1 yd Y1,.rq y2 ye Y2]]=>some (.agg [.rq (dW d ⟨x1,x2⟩ ⟨y1,y2⟩).a (dW d ⟨x1,x2⟩ ⟨y1,y2⟩).a.den (max X1 64+max X2 64+3*max Y1 64+3*max Y2 64+2*max D 64+2),.rq (dW d ⟨x1,x2⟩ ⟨y1,y2⟩).b (dW d ⟨x1,x2⟩ ⟨y1,y2⟩).b.den (max X1 64+max X2 64+3*max Y1 64+3*max Y2 64+2*max D 64+2)],[y1*y1-d*(y2*y2)≠0,16*(max X1 64+max X2 64+3*max Y1 64+3*max Y2 64+2*max D 64+2)+9000<=LIM])
 | _=>none
theorem TN:bO 226 Rk:=by
 refine cJ Tryz.f226 fun _ _ _ S w0 h ho=> ?_
 unfold Rk at h;split at h <;> cases h;rename_i d dd D x1 xd X1 x2 xe X2 y1 yd Y1 y2 ye Y2;obtain⟨o1,o2⟩:=ho.e2;have L:=dH;have K:=((((kn.cons Mu).cons MJ).cons Qe).cons Hv).cons CF;have v0:max (max X1 64+max X2 64+max Y1 64+max (max Y2 64) 64+max D 64+1) 64+max (max (max Y1 64+max Y1 64) 64+max (max D 64+max (max Y2 64+max Y2 64) 64) 64+1) 64+max (max X1 64+max X2 64+max Y1 64+max (max Y2 64) 64+max D 64+1) 64+max (max (max Y1 64+max Y1 64) 64+max (max D 64+max (max Y2 64+max Y2 64) 64) 64+1) 64+500<=LIM:=by first | assumption | omega | rfl
 refine rF K [] (.c6 (show max Y1 64+max Y1 64+(max Y1 64+max Y1 64)+300<=LIM by first | assumption | omega | rfl) (show max Y2 64+max Y2 64+(max Y2 64+max Y2 64)+300<=LIM by first | assumption | omega | rfl) (show max D 64+max (max Y2 64+max Y2 64) 64+(max D 64+max (max Y2 64+max Y2 64) 64)+300<=LIM by first | assumption | omega | rfl) (show max (max Y1 64+max Y1 64) 64+max (max D 64+max (max Y2 64+max Y2 64) 64) 64+max (max Y1 64+max Y1 64) 64+max (max D 64+max (max Y2 64+max Y2 64) 64) 64+500<=LIM by first | assumption | omega | rfl) (show 4*(max X1 64+max X2 64+max Y1 64+max (max Y2 64) 64+max D 64)+2000<=LIM by first | assumption | omega | rfl) o1 (.a3 v0 o1 v0)) (V:=.agg [.rq (((aY d ⟨x1,x2⟩ ⟨y1,(-y2)⟩).a)/((y1*y1)-(d*(y2*y2)))) ((((aY d ⟨x1,x2⟩ ⟨y1,(-y2)⟩).a)/((y1*y1)-(d*(y2*y2)))).den) (max (max X1 64+max X2 64+max Y1 64+max (max Y2 64) 64+max D 64+1) 64+max (max (max Y1 64+max Y1 64) 64+max (max D 64+max (max Y2 64+max Y2 64) 64) 64+1) 64),.rq (((aY d ⟨x1,x2⟩ ⟨y1,(-y2)⟩).b)/((y1*y1)-(d*(y2*y2)))) ((((aY d ⟨x1,x2⟩ ⟨y1,(-y2)⟩).b)/((y1*y1)-(d*(y2*y2)))).den) (max (max X1 64+max X2 64+max Y1 64+max (max Y2 64) 64+max D 64+1) 64+max (max (max Y1 64+max Y1 64) 64+max (max D 64+max (max Y2 64+max Y2 64) 64) 64+1) 64)]) ?_
 have e0:(aY d ⟨y1,y2⟩ (ET ⟨y1,y2⟩)).a=y1*y1-d*(y2*y2):=by unfold aY ET;grind
 unfold dW;rw[e0];exact Ref.agg (RefC.cons (RefC.rq_e rfl (by omega)) (RefC.rq_e rfl (by omega)))
def MK (d:Rat) (y:Nm):Rat:=y.a*y.a-d*(y.b*y.b)
def Rl:KF
 | [.agg [.rq d dd D],.agg [.rq t1 td T1,.rq t2 te T2]]=>some (.agg [.rq (dW d (gC eG (aY d ⟨t1,t2⟩ ⟨t1,t2⟩)) (aP eG (aY d ⟨t1,t2⟩ ⟨t1,t2⟩))).a (dW d (gC eG (aY d ⟨t1,t2⟩ ⟨t1,t2⟩)) (aP eG (aY d ⟨t1,t2⟩ ⟨t1,t2⟩))).a.den (16*max T1 64+16*max T2 64+16*max D 64+900),.rq (dW d (gC eG (aY d ⟨t1,t2⟩ ⟨t1,t2⟩)) (aP eG (aY d ⟨t1,t2⟩ ⟨t1,t2⟩))).b (dW d (gC eG (aY d ⟨t1,t2⟩ ⟨t1,t2⟩)) (aP eG (aY d ⟨t1,t2⟩ ⟨t1,t2⟩))).b.den (16*max T1 64+16*max T2 64+16*max D 64+900),.rq (dW d (aP ⟨t1,t2⟩ ⟨t1,t2⟩) (aP eG (aY d ⟨t1,t2⟩ ⟨t1,t2⟩))).a (dW d (aP ⟨t1,t2⟩ ⟨t1,t2⟩) (aP eG (aY d ⟨t1,t2⟩ ⟨t1,t2⟩))).a.den (16*max T1 64+16*max T2 64+16*max D 64+900),.rq (dW d (aP ⟨t1,t2⟩ ⟨t1,t2⟩) (aP eG (aY d ⟨t1,t2⟩ ⟨t1,t2⟩))).b (dW d (aP ⟨t1,t2⟩ ⟨t1,t2⟩) (aP eG (aY d ⟨t1,t2⟩ ⟨t1,t2⟩))).b.den (16*max T1 64+16*max T2 64+16*max D 64+900)],[MK d (aP eG (aY d ⟨t1,t2⟩ ⟨t1,t2⟩))≠0,100*(16*max T1 64+16*max T2 64+16*max D 64+900)+90000<=LIM])
 | _=>none
theorem TO:bO 138 Rl:=by
 refine cJ Tryz.f138 fun _ _ _ S w0 h ho=> ?_
 unfold Rl at h;split at h <;> cases h;rename_i d dd D t1 td T1 t2 te T2;obtain⟨o1,o2⟩:=ho.e2;have L:=dH;have K:=(((((kn.cons TN).cons Rh).cons MI).cons MH).cons Qc).cons MJ;have v0:((aP ⟨(Int.cast 1:Rat),0⟩ ⟨((aY d ⟨t1,t2⟩ ⟨t1,t2⟩).a),((aY d ⟨t1,t2⟩ ⟨t1,t2⟩).b)⟩).a)*((aP ⟨(Int.cast 1:Rat),0⟩ ⟨((aY d ⟨t1,t2⟩ ⟨t1,t2⟩).a),((aY d ⟨t1,t2⟩ ⟨t1,t2⟩).b)⟩).a)-d*(((aP ⟨(Int.cast 1:Rat),0⟩ ⟨((aY d ⟨t1,t2⟩ ⟨t1,t2⟩).a),((aY d ⟨t1,t2⟩ ⟨t1,t2⟩).b)⟩).b)*((aP ⟨(Int.cast 1:Rat),0⟩ ⟨((aY d ⟨t1,t2⟩ ⟨t1,t2⟩).a),((aY d ⟨t1,t2⟩ ⟨t1,t2⟩).b)⟩).b))≠0:=by first | assumption | rfl | exact o1 | decide | (have kT1:=Nat.le_max_right T1 64;have kT2:=Nat.le_max_right T2 64;have kD:=Nat.le_max_right D 64;generalize max T1 64=gT1 at*;generalize max T2 64=gT2 at*;generalize max D 64=gD at*;omega)
 have v1:2*(max 64 64+max 0 64+max (max T1 64+max T2 64+max T1 64+max T2 64+max D 64+1) 64+max (max T1 64+max T2 64+max T1 64+max T2 64+max D 64+1) 64)+1000<=LIM:=by first | assumption | rfl | exact o1 | decide | (have kT1:=Nat.le_max_right T1 64;have kT2:=Nat.le_max_right T2 64;have kD:=Nat.le_max_right D 64;generalize max T1 64=gT1 at*;generalize max T2 64=gT2 at*;generalize max D 64=gD at*;omega)
 have v2:(-9223372036854775808:Int)<=1:=by decide
 have v3:1<=(9223372036854775807:Int):=by decide
 exact rF K [] (.c6 (show 4*(max T1 64+max T2 64+max T1 64+max T2 64+max D 64)+2000<=LIM by first | assumption | rfl | exact o1 | decide | (have kT1:=Nat.le_max_right T1 64;have kT2:=Nat.le_max_right T2 64;have kD:=Nat.le_max_right D 64;generalize max T1 64=gT1 at*;generalize max T2 64=gT2 at*;generalize max D 64=gD at*;omega)) v2 v3 v1 v2 v3 (.a6 v1 v0 (show 16*(max (max 64 64+max (max T1 64+max T2 64+max T1 64+max T2 64+max D 64+1) 64+1) 64+max (max 0 64+max (max T1 64+max T2 64+max T1 64+max T2 64+max D 64+1) 64+1) 64+3*max (max 64 64+max (max T1 64+max T2 64+max T1 64+max T2 64+max D 64+1) 64+1) 64+3*max (max 0 64+max (max T1 64+max T2 64+max T1 64+max T2 64+max D 64+1) 64+1) 64+2*max D 64+2)+9000<=LIM by first | assumption | rfl | exact o1 | decide | (have kT1:=Nat.le_max_right T1 64;have kT2:=Nat.le_max_right T2 64;have kD:=Nat.le_max_right D 64;generalize max T1 64=gT1 at*;generalize max T2 64=gT2 at*;generalize max D 64=gD at*;omega)) (show 2*(max T1 64+max T2 64+max T1 64+max T2 64)+1000<=LIM by first | assumption | rfl | exact o1 | decide | (have kT1:=Nat.le_max_right T1 64;have kT2:=Nat.le_max_right T2 64;have kD:=Nat.le_max_right D 64;generalize max T1 64=gT1 at*;generalize max T2 64=gT2 at*;generalize max D 64=gD at*;omega)) v0 (show 16*(max (max T1 64+max T1 64+1) 64+max (max T2 64+max T2 64+1) 64+3*max (max 64 64+max (max T1 64+max T2 64+max T1 64+max T2 64+max D 64+1) 64+1) 64+3*max (max 0 64+max (max T1 64+max T2 64+max T1 64+max T2 64+max D 64+1) 64+1) 64+2*max D 64+2)+9000<=LIM by first | assumption | rfl | exact o1 | decide | (have kT1:=Nat.le_max_right T1 64;have kT2:=Nat.le_max_right T2 64;have kD:=Nat.le_max_right D 64;generalize max T1 64=gT1 at*;generalize max T2 64=gT2 at*;generalize max D 64=gD at*;omega)))) (V:=.agg [.rq ((dW d ⟨((gC ⟨(Int.cast 1:Rat),0⟩ ⟨((aY d ⟨t1,t2⟩ ⟨t1,t2⟩).a),((aY d ⟨t1,t2⟩ ⟨t1,t2⟩).b)⟩).a),((gC ⟨(Int.cast 1:Rat),0⟩ ⟨((aY d ⟨t1,t2⟩ ⟨t1,t2⟩).a),((aY d ⟨t1,t2⟩ ⟨t1,t2⟩).b)⟩).b)⟩ ⟨((aP ⟨(Int.cast 1:Rat),0⟩ ⟨((aY d ⟨t1,t2⟩ ⟨t1,t2⟩).a),((aY d ⟨t1,t2⟩ ⟨t1,t2⟩).b)⟩).a),((aP ⟨(Int.cast 1:Rat),0⟩ ⟨((aY d ⟨t1,t2⟩ ⟨t1,t2⟩).a),((aY d ⟨t1,t2⟩ ⟨t1,t2⟩).b)⟩).b)⟩).a) ((dW d ⟨((gC ⟨(Int.cast 1:Rat),0⟩ ⟨((aY d ⟨t1,t2⟩ ⟨t1,t2⟩).a),((aY d ⟨t1,t2⟩ ⟨t1,t2⟩).b)⟩).a),((gC ⟨(Int.cast 1:Rat),0⟩ ⟨((aY d ⟨t1,t2⟩ ⟨t1,t2⟩).a),((aY d ⟨t1,t2⟩ ⟨t1,t2⟩).b)⟩).b)⟩ ⟨((aP ⟨(Int.cast 1:Rat),0⟩ ⟨((aY d ⟨t1,t2⟩ ⟨t1,t2⟩).a),((aY d ⟨t1,t2⟩ ⟨t1,t2⟩).b)⟩).a),((aP ⟨(Int.cast 1:Rat),0⟩ ⟨((aY d ⟨t1,t2⟩ ⟨t1,t2⟩).a),((aY d ⟨t1,t2⟩ ⟨t1,t2⟩).b)⟩).b)⟩).a.den) (max (max 64 64+max (max T1 64+max T2 64+max T1 64+max T2 64+max D 64+1) 64+1) 64+max (max 0 64+max (max T1 64+max T2 64+max T1 64+max T2 64+max D 64+1) 64+1) 64+3*max (max 64 64+max (max T1 64+max T2 64+max T1 64+max T2 64+max D 64+1) 64+1) 64+3*max (max 0 64+max (max T1 64+max T2 64+max T1 64+max T2 64+max D 64+1) 64+1) 64+2*max D 64+2),.rq ((dW d ⟨((gC ⟨(Int.cast 1:Rat),0⟩ ⟨((aY d ⟨t1,t2⟩ ⟨t1,t2⟩).a),((aY d ⟨t1,t2⟩ ⟨t1,t2⟩).b)⟩).a),((gC ⟨(Int.cast 1:Rat),0⟩ ⟨((aY d ⟨t1,t2⟩ ⟨t1,t2⟩).a),((aY d ⟨t1,t2⟩ ⟨t1,t2⟩).b)⟩).b)⟩ ⟨((aP ⟨(Int.cast 1:Rat),0⟩ ⟨((aY d ⟨t1,t2⟩ ⟨t1,t2⟩).a),((aY d ⟨t1,t2⟩ ⟨t1,t2⟩).b)⟩).a),((aP ⟨(Int.cast 1:Rat),0⟩ ⟨((aY d ⟨t1,t2⟩ ⟨t1,t2⟩).a),((aY d ⟨t1,t2⟩ ⟨t1,t2⟩).b)⟩).b)⟩).b) ((dW d ⟨((gC ⟨(Int.cast 1:Rat),0⟩ ⟨((aY d ⟨t1,t2⟩ ⟨t1,t2⟩).a),((aY d ⟨t1,t2⟩ ⟨t1,t2⟩).b)⟩).a),((gC ⟨(Int.cast 1:Rat),0⟩ ⟨((aY d ⟨t1,t2⟩ ⟨t1,t2⟩).a),((aY d ⟨t1,t2⟩ ⟨t1,t2⟩).b)⟩).b)⟩ ⟨((aP ⟨(Int.cast 1:Rat),0⟩ ⟨((aY d ⟨t1,t2⟩ ⟨t1,t2⟩).a),((aY d ⟨t1,t2⟩ ⟨t1,t2⟩).b)⟩).a),((aP ⟨(Int.cast 1:Rat),0⟩ ⟨((aY d ⟨t1,t2⟩ ⟨t1,t2⟩).a),((aY d ⟨t1,t2⟩ ⟨t1,t2⟩).b)⟩).b)⟩).b.den) (max (max 64 64+max (max T1 64+max T2 64+max T1 64+max T2 64+max D 64+1) 64+1) 64+max (max 0 64+max (max T1 64+max T2 64+max T1 64+max T2 64+max D 64+1) 64+1) 64+3*max (max 64 64+max (max T1 64+max T2 64+max T1 64+max T2 64+max D 64+1) 64+1) 64+3*max (max 0 64+max (max T1 64+max T2 64+max T1 64+max T2 64+max D 64+1) 64+1) 64+2*max D 64+2),.rq ((dW d ⟨((aP ⟨t1,t2⟩ ⟨t1,t2⟩).a),((aP ⟨t1,t2⟩ ⟨t1,t2⟩).b)⟩ ⟨((aP ⟨(Int.cast 1:Rat),0⟩ ⟨((aY d ⟨t1,t2⟩ ⟨t1,t2⟩).a),((aY d ⟨t1,t2⟩ ⟨t1,t2⟩).b)⟩).a),((aP ⟨(Int.cast 1:Rat),0⟩ ⟨((aY d ⟨t1,t2⟩ ⟨t1,t2⟩).a),((aY d ⟨t1,t2⟩ ⟨t1,t2⟩).b)⟩).b)⟩).a) ((dW d ⟨((aP ⟨t1,t2⟩ ⟨t1,t2⟩).a),((aP ⟨t1,t2⟩ ⟨t1,t2⟩).b)⟩ ⟨((aP ⟨(Int.cast 1:Rat),0⟩ ⟨((aY d ⟨t1,t2⟩ ⟨t1,t2⟩).a),((aY d ⟨t1,t2⟩ ⟨t1,t2⟩).b)⟩).a),((aP ⟨(Int.cast 1:Rat),0⟩ ⟨((aY d ⟨t1,t2⟩ ⟨t1,t2⟩).a),((aY d ⟨t1,t2⟩ ⟨t1,t2⟩).b)⟩).b)⟩).a.den) (max (max T1 64+max T1 64+1) 64+max (max T2 64+max T2 64+1) 64+3*max (max 64 64+max (max T1 64+max T2 64+max T1 64+max T2 64+max D 64+1) 64+1) 64+3*max (max 0 64+max (max T1 64+max T2 64+max T1 64+max T2 64+max D 64+1) 64+1) 64+2*max D 64+2),.rq ((dW d ⟨((aP ⟨t1,t2⟩ ⟨t1,t2⟩).a),((aP ⟨t1,t2⟩ ⟨t1,t2⟩).b)⟩ ⟨((aP ⟨(Int.cast 1:Rat),0⟩ ⟨((aY d ⟨t1,t2⟩ ⟨t1,t2⟩).a),((aY d ⟨t1,t2⟩ ⟨t1,t2⟩).b)⟩).a),((aP ⟨(Int.cast 1:Rat),0⟩ ⟨((aY d ⟨t1,t2⟩ ⟨t1,t2⟩).a),((aY d ⟨t1,t2⟩ ⟨t1,t2⟩).b)⟩).b)⟩).b) ((dW d ⟨((aP ⟨t1,t2⟩ ⟨t1,t2⟩).a),((aP ⟨t1,t2⟩ ⟨t1,t2⟩).b)⟩ ⟨((aP ⟨(Int.cast 1:Rat),0⟩ ⟨((aY d ⟨t1,t2⟩ ⟨t1,t2⟩).a),((aY d ⟨t1,t2⟩ ⟨t1,t2⟩).b)⟩).a),((aP ⟨(Int.cast 1:Rat),0⟩ ⟨((aY d ⟨t1,t2⟩ ⟨t1,t2⟩).a),((aY d ⟨t1,t2⟩ ⟨t1,t2⟩).b)⟩).b)⟩).b.den) (max (max T1 64+max T1 64+1) 64+max (max T2 64+max T2 64+1) 64+3*max (max 64 64+max (max T1 64+max T2 64+max T1 64+max T2 64+max D 64+1) 64+1) 64+3*max (max 0 64+max (max T1 64+max T2 64+max T1 64+max T2 64+max D 64+1) 64+1) 64+2*max D 64+2)]) (Ref.agg (RefC.cons (RefC.rq_e rfl (by(have kT1:=Nat.le_max_right T1 64;have kT2:=Nat.le_max_right T2 64;have kD:=Nat.le_max_right D 64;generalize max T1 64=gT1 at*;generalize max T2 64=gT2 at*;generalize max D 64=gD at*;omega))) (RefC.cons (RefC.rq_e rfl (by(have kT1:=Nat.le_max_right T1 64;have kT2:=Nat.le_max_right T2 64;have kD:=Nat.le_max_right D 64;generalize max T1 64=gT1 at*;generalize max T2 64=gT2 at*;generalize max D 64=gD at*;omega))) (RefC.cons (RefC.rq_e rfl (by(have kT1:=Nat.le_max_right T1 64;have kT2:=Nat.le_max_right T2 64;have kD:=Nat.le_max_right D 64;generalize max T1 64=gT1 at*;generalize max T2 64=gT2 at*;generalize max D 64=gD at*;omega))) (RefC.rq_e rfl (by(have kT1:=Nat.le_max_right T1 64;have kT2:=Nat.le_max_right T2 64;have kD:=Nat.le_max_right D 64;generalize max T1 64=gT1 at*;generalize max T2 64=gT2 at*;generalize max D 64=gD at*;omega)))))))
def Rm:KF
 | [.agg [.rz n B],.agg [.rz m C]]=>some (.int .i64 (fJ n m),[])
 | _=>none
theorem Kk:bO 133 Rm:=by
 refine cJ Tryz.f133 fun _ _ _ S w0 h ho=> ?_
 unfold Rm at h;split at h <;> cases h;rename_i n B m C;have K:=kn.cons LL;rcases Bool.eq_false_or_eq_true (!((decide (n<0))==(decide (m<0)))) with h1 | h1
 · have v1:Ref (.bool (!((decide (n<0))==(decide (m<0))))) (.bool true):=Ref.bool h1
   by_cases h2:n<0
   · refine rF K [(9,tt),(11,tt)] (.a2 v1 (iT h2)) (V:=.i6 (-1:Int)) ?_
     refine Ref.eq (congrArg (AV.int .i64) ?_);unfold fJ
     try unfold fL
     by_cases hm:m<0 <;> simp[h2,hm] at h1 <;> (split <;> (try split) <;> (try split) <;> (try split) <;> omega)
   · refine rF K [(9,tt),(11,ff)] (.a2 v1 (iF h2)) (V:=.i6 (1:Int)) ?_
     refine Ref.eq (congrArg (AV.int .i64) ?_);unfold fJ
     try unfold fL
     by_cases hm:m<0 <;> simp[h2,hm] at h1 <;> (split <;> (try split) <;> (try split) <;> (try split) <;> omega)
 · have v0:Ref (.bool (!((decide (n<0))==(decide (m<0))))) (.bool false):=Ref.bool h1
   by_cases h2:n<0
   · refine rF K [(9,ff),(13,tt)] (.a2 v0 (iT h2)) (V:=.i6 (fL m.natAbs n.natAbs)) ?_
     refine Ref.eq (congrArg (AV.int .i64) ?_);unfold fJ
     try unfold fL
     by_cases hm:m<0 <;> simp[h2,hm] at h1 <;> (split <;> (try split) <;> (try split) <;> (try split) <;> omega)
   · refine rF K [(9,ff),(13,ff)] (.a2 v0 (iF h2)) (V:=.i6 (fL n.natAbs m.natAbs)) ?_
     refine Ref.eq (congrArg (AV.int .i64) ?_);unfold fJ
     try unfold fL
     by_cases hm:m<0 <;> simp[h2,hm] at h1 <;> (split <;> (try split) <;> (try split) <;> (try split) <;> omega)
def Rn:KF
 | [.agg [.rz n B],.agg [.rz m C]]=>some (.agg [.rz (n-m) (max B C+1)],[max B C+100<=LIM])
 | _=>none
theorem TP:bO 330 Rn:=by
 refine cJ Tryz.f330 fun _ _ _ S w0 h ho=> ?_
 unfold Rn at h;split at h <;> cases h;rename_i n B m C;have o1:=ho.one;have K:=(kn.cons Mw).cons LS;refine rF K [] (.a1 o1) (V:=.agg [.rz (n+(-m)) (max B C+1)]) ?_
 rw[Int.sub_eq_add_neg];exact rr
def Ro:KF
 | [.agg [.bool false,.dig n B],.agg [.rz m C]]=>some (.tup [.agg [.rz ((n/Int.natAbs m:Nat):Int) B],.agg [.rz ((n % Int.natAbs m:Nat):Int) C]],[(m:Int)≠0,B+C+300<=LIM])
 | _=>none
theorem TQ:bO 331 Ro:=by
 refine cJ Tryz.f331 fun _ _ _ S w0 h ho=> ?_
 unfold Ro at h;split at h <;> cases h;rename_i n B m C;obtain⟨o1,o2⟩:=ho.e2;have L:=dH;have K:=(((kn.cons LO).cons Qh).cons Gq).cons LQ;exact rR K [] (.a2 (om (0<m.natAbs)) o2)
def sA:=(((((kn.cons TQ).cons TP).cons Mw).cons CC).cons CE).cons Kk
theorem BY {n m:Int}:0<fJ n m↔m<n:=by unfold fJ;split <;> (try split) <;> omega
theorem DP {n m:Int}:fJ n m<=0↔n<=m:=by unfold fJ;split <;> (try split) <;> omega
theorem lR {n m:Int}:fJ n m=0↔n=m:=by unfold fJ;split <;> (try split) <;> omega
noncomputable abbrev TR:List Item:=[.code (aR [1,1,0,0,0] (aA Tryz.f304)),.inLoop (aR [1,1,0,0,0] (aA Tryz.f304)),.inBlock 0,.code (aR [1,1,1] (aA Tryz.f304))]
abbrev TS (n B E l h:Nat):List (Option ABlk):=[some ⟨64,2,false,[[.rz ((n:Nat):Int) B]],none⟩,some ⟨64,2,false,[[.bool false,.nil]],none⟩,some ⟨64,2,false,[[.rz ((l:Nat):Int) E]],none⟩,some ⟨64,2,false,[[.rz ((h:Nat):Int) E]],none⟩]
section
variable {S:Nat->Prop} {w0:World} {n B E:Nat}
theorem Kl (hL:E+E+1000<=LIM):∀ (k l h:Nat),h<=l+k->l<h->l*l<=n->n<h*h->h<2^E->
   GF 304 S w0 (.agg [.rz ((cN n:Nat):Int) E]) TR ⟨slots 34 [(1,.ptr 0 2 0 0),(2,.ptr 1 2 0 0),(3,.ptr 2 2 0 0),(4,.ptr 3 2 0 0)],TS n B E l h⟩:=by
 intro k
 induction k with
 | zero=>intro l h h1 h2;omega
 | succ k ih=>
   intro l h h1 h2 h3 h4 h5;have m0:max E E+100<=LIM:=by omega
   have v0:(-9223372036854775808:Int)<=1:=by decide
   have v1:1<=(9223372036854775807:Int):=by decide
   by_cases c:l+1<h
   · obtain⟨m,hm⟩:∃ m,m=(l+h)/2:=⟨_,rfl⟩
     have b1:l<m:=by omega
     have b2:m<h:=by omega
     have c1:(0:Int)<fJ (((h:Nat):Int)-((l:Nat):Int)) 1:=BY.2 (by omega);have r1:Ref (AV.agg [.rz (((l:Nat):Int)+((h:Nat):Int)) (max E E+1)]) (.agg [.bool false,.dig (l+h) (E+1)]):=Ref.agg ((RefC.rz_eq (y:=((l+h:Nat):Int)) (C:=E+1) (by omega) (by omega)).trans (RefC.rzopn.trans (RefC.eq (by rw[Int.natAbs_natCast,show decide (((l+h:Nat):Int)<0)=false from decide_eq_false (by omega)]))))
     have r2:Ref (AV.tup [.agg [.rz (((l+h)/Int.natAbs 2:Nat):Int) (E+1)],.agg [.rz (((l+h) % Int.natAbs 2:Nat):Int) 64]]) (.tup [.agg [.rz ((m:Nat):Int) E],.agg [.rz (((l+h) % 2:Nat):Int) 64]]):=
       Ref.tup2 (Ref.agg ((RefC.rz_eq (y:=((m:Nat):Int)) (by rw[hm];rfl) (rl _)).trans (RefC.rzB (by rw[Int.natAbs_natCast];omega)))) rr rfl rfl rfl rfl
     have v2:(-9223372036854775808:Int)<=2:=by decide
     have v3:2<=(9223372036854775807:Int):=by decide
     by_cases c2:m*m<=n
     · exact gR sA none [1,2,3,4] [0,1,2,3] [(16,tt),(20,.agg [.bool false,.dig (l+h) (E+1)]),(22,.tup [.agg [.rz (m:Int) E],.agg [.rz ((((l+h) % 2):Nat):Int) 64]]),(30,tt)] (.c6 m0 v0 v1 (iT c1) r1 m0 (.c6 v2 v3 r2 (dc ((2:Int)≠0)) (om ((E+1)+64+300<=LIM)) (om (E+E+128<=LIM)) (.a1 (show Ref (.bool (decide ((fJ ((m:Int)*(m:Int)) (n:Int))<=(0:Int)))) (.bool true) from Ref.bool (decide_eq_true (DP.2 (by rw[<- Int.natCast_mul];exact Int.ofNat_le.2 c2))))))) (ih m h (by omega) b2 c2 h4 h5)
     · exact gR sA none [1,2,3,4] [0,1,2,3] [(16,tt),(20,.agg [.bool false,.dig (l+h) (E+1)]),(22,.tup [.agg [.rz (m:Int) E],.agg [.rz ((((l+h) % 2):Nat):Int) 64]]),(30,ff)] (.c6 m0 v0 v1 (iT c1) r1 m0 (.c6 v2 v3 r2 (dc ((2:Int)≠0)) (om ((E+1)+64+300<=LIM)) (om (E+E+128<=LIM)) (.a1 (show Ref (.bool (decide ((fJ ((m:Int)*(m:Int)) (n:Int))<=(0:Int)))) (.bool false) from Ref.bool (decide_eq_false (fun q=>c2 (by have:=DP.1 q;rw[<- Int.natCast_mul] at this;exact Int.ofNat_le.1 this))))))) (ih l m (by omega) b1 h3 (by omega) (by omega))
   · have e:h=l+1:=by omega
     subst e;have hr:l=cN n:=xH h3 h4;refine gR sA none [1,2,3,4] [0,1,2,3] [(16,ff)] (.a4 m0 v0 v1 (show Ref (.bool (decide ((0:Int)<(fJ ((((l+1):Nat):Int)-(l:Int)) 1)))) (.bool false) from Ref.bool (decide_eq_false (fun q=>by have:=BY.1 q;omega)))) (t:=[.code .ret]) (σ:=slots 34 [(1,.ptr 0 2 0 0),(2,.ptr 1 2 0 0),(3,.ptr 2 2 0 0),(4,.ptr 3 2 0 0)]) (h:=[some ⟨64,2,false,[[.rz (n:Int) B]],none⟩,some ⟨64,2,false,[[.rz (l:Int) E]],none⟩,some ⟨64,2,false,[[.rz (l:Int) E]],none⟩,some ⟨64,2,false,[[.rz (((l+1):Nat):Int) E]],none⟩]) ?_
     rw[<- hr];exact gE [.agg [.rz ((l:Nat):Int) E]] rr
end
def Rp:KF
 | [.agg [.rz n B]]=>some (.agg [.rz ((cN n.toNat:Nat):Int) (max B 64+1)],[0<=n,2*max B 64+2000<=LIM])
 | _=>none
theorem TU:bO 304 Rp:=by
 refine cJ Tryz.f304 fun _ _ _ S w0 h ho=> ?_
 unfold Rp at h;split at h <;> cases h;rename_i n B;obtain⟨o1,o2⟩:=ho.e2;clear ho;obtain⟨n,rfl⟩:=Int.eq_ofNat_of_zero_le o1;rw[Int.toNat_natCast];refine Good.rzlt (n:=((n:Nat):Int)) (B:=B) (cs:=[]) 0 rfl fun hn=> ?_
 rw[Int.natAbs_natCast] at hn
 have hE:n+1<2^(max B 64+1):=by
   have h1:2^B<=2^(max B 64):=Nat.pow_le_pow_right (by decide) (by omega);have h2:2^64<=2^(max B 64):=Nat.pow_le_pow_right (by decide) (by omega);rw[Nat.pow_succ];omega
 exact gR sA none [1,2,3,4] [0,1,4,5] [(7,.agg [.rz 0 (max B 64+1)]),(10,.agg [.rz ((n+1:Nat):Int) (max B 64+1)])] (.a5 (show Ref (.agg [.bool false,AV.nil]) (.agg [.rz 0 (max B 64+1)]) from Ref.agg RefC.rz0) (dc ((-9223372036854775808:Int)<=1)) (dc (1<=(9223372036854775807:Int))) (show Ref (.agg [.rz ((n:Int)+1) (max B 64+1)]) (.agg [.rz ((n+1:Nat):Int) (max B 64+1)]) from Ref.agg (RefC.rz_eq (by omega) (rl _))) (om (max B 64+100<=LIM))) (Kl (n:=n) (B:=B) (E:=max B 64+1) (by omega) (n+1) 0 (n+1) (by omega) (by omega) (by omega) (by rw[Nat.mul_add,Nat.add_mul];omega) hE)
def ML:KF
 | [.agg [.rq x d B]]=>some (.tup [.agg [.rq (tG x) (tG x).den (max B 64+70)],.bool (mV x)],[0<=x.num,4*max B 64+5000<=LIM])
 | _=>none
theorem TV:bO 273 ML:=by
 refine cJ Tryz.f273 fun _ _ _ S w0 h ho=> ?_
 unfold ML at h;split at h <;> cases h;rename_i x d B;obtain⟨o1,o2⟩:=ho.e2;have L:=dH;have K:=((((kn.cons Kk).cons CE).cons Gr).cons tO).cons TU;have hq:=zJ x.den_pos;have e1:((x.den:Int)).toNat=x.den:=Int.toNat_natCast _;have hq2:((cN ((x.den:Int)).toNat:Nat):Int)≠0:=by rw[e1];omega
 have hN:x.num.toNat=x.num.natAbs:=by omega
 have hA:((x.num.natAbs:Nat):Int)=x.num:=by omega
 have eV:((((cN x.num.toNat:Nat):Int):Rat)/(((cN ((x.den:Int)).toNat:Nat):Int):Rat))=tG x:=by rw[hN,e1];unfold tG;rw[Rat.mkRat_eq_div];rfl
 have v0:max (max B 64+1) (max (max B 64) 64+1)+max (max B 64+1) (max (max B 64) 64+1)+300<=LIM:=by first | assumption | omega
 have v1:(max B 64+1)+(max B 64+1)+128<=LIM:=by first | assumption | omega
 have v2:2*max (max B 64) 64+2000<=LIM:=by first | assumption | omega
 have v3:2*max B 64+2000<=LIM:=by first | assumption | omega
 have v4:0<=(x.den:Int):=by first | assumption | omega
 by_cases h1:(fJ (((cN x.num.toNat:Nat):Int)*((cN x.num.toNat:Nat):Int)) x.num)=(0:Int)
 · refine rF K [(22,tt)] (.c6 o1 v3 v4 v2 hq2 v0 (.a3 v1 (iT h1) (show(max (max B 64) 64+1)+(max (max B 64) 64+1)+128<=LIM by first | assumption | omega))) (V:=.tup [.agg [.rq ((Int.cast (cN x.num.toNat:Int):Rat)/(Int.cast (cN (x.den:Int).toNat:Int):Rat)) (((Int.cast (cN x.num.toNat:Int):Rat)/(Int.cast (cN (x.den:Int).toNat:Int):Rat)).den) (max (max B 64+1) (max (max B 64) 64+1))],.bool (decide ((fJ (((cN (x.den:Int).toNat:Nat):Int)*(cN (x.den:Int).toNat:Int)) (x.den:Int))=(0:Int)))]) ?_
   have c1:=lR.1 h1;refine Ref.tup2 (Ref.agg (RefC.rq_e eV (by omega))) (Ref.eq (congrArg AV.bool ?_)) rfl rfl rfl rfl;unfold mV;rw[e1];rw[hN] at c1;refine decide_eq_decide.2 ⟨fun h=> ?_,fun h=> ?_⟩
   · have c2:=lR.1 h
     exact⟨by rw[<- hA, <- Int.natCast_mul] at c1;exact Int.ofNat.inj c1,by rw[<- Int.natCast_mul] at c2;exact Int.ofNat.inj c2⟩
   · refine lR.2 ?_
     rw[<- Int.natCast_mul,h.2]
 · refine rF K [(22,ff)] (.c6 o1 v3 v4 v2 hq2 v0 (.a2 v1 (iF h1))) (V:=.tup [.agg [.rq ((Int.cast (cN x.num.toNat:Int):Rat)/(Int.cast (cN (x.den:Int).toNat:Int):Rat)) (((Int.cast (cN x.num.toNat:Int):Rat)/(Int.cast (cN (x.den:Int).toNat:Int):Rat)).den) (max (max B 64+1) (max (max B 64) 64+1))],.bool false]) ?_
   refine Ref.tup2 (Ref.agg (RefC.rq_e eV (by omega))) (Ref.eq (congrArg AV.bool ?_)) rfl rfl rfl rfl
   symm
   unfold mV;refine decide_eq_false fun h=>h1 (lR.2 ?_)
   rw[hN, <- Int.natCast_mul,h.1,hA]
def MM:KF
 | [.agg [.rz n B]]=>some (.agg [.rq (Int.cast n:Rat) 1 (max B 64)],[])
 | _=>none
theorem TW:bO 274 MM:=by
 refine cJ Tryz.f274 fun _ _ _ S w0 h ho=> ?_
 unfold MM at h;split at h <;> cases h;rename_i n B;have K:=kn.cons CC;exact rF K [] (.a2 (dc ((-9223372036854775808:Int)<=1)) (dc (1<=(9223372036854775807:Int)))) (V:=.agg [.rz n B,.rz 1 64]) (Ref.agg (RefC.rq_mk (by simp) rfl (.inl (by simp)) (by omega) (by omega)))
theorem Rq (n:Int):fJ n 0=Int.sign n:=by
 unfold fJ
 split
 · exact(Int.sign_eq_neg_one_of_neg (by omega)).symm
 · split
   · exact(Int.sign_eq_one_of_pos (by omega)).symm
   · rw[show n=0 by omega];rfl
def TY:KF
 | [.agg [.rq x d B]]=>some (.int .i64 (Int.sign x.num),[])
 | _=>none
theorem Ua:bO 45 TY:=by
 refine cJ Tryz.f45 fun _ _ _ S w0 h ho=> ?_
 unfold TY at h;split at h <;> cases h;rename_i x d B;have K:=kn.cons Kk;exact rF K [(5,.agg [.rz 0 0])] (.a1 (show Ref (.agg [.bool false,AV.nil]) (.agg [.rz 0 0]) from Ref.agg RefC.rz0)) (V:=.i6 (fJ x.num 0)) (Ref.eq (congrArg (AV.int .i64) (Rq x.num)))
def Rr:KT:=.of [(273,ML),(45,TY),(107,LV),(167,Mx),(135,Gu),(274,MM),(176,Mt),(134,LU)] []
theorem oD:KOK Tryz.prog Rr:=((((((((KOK.nil.cons CE).cons Mu).cons TW).cons tO).cons BT).cons CF).cons Ua).cons TV)
theorem MN {a b d:Rat} (h:mV d=true):bS ⟨a,b,d⟩=⟨a+b*tG d,0,0⟩:=by
  unfold bS
  split
  · rename_i hb;simp only at hb;subst hb;rw[Rat.zero_mul,Rat.add_zero]
  · first | rfl | rw[if_pos h]
theorem MO {a b d:Rat} (h:b=0):bS ⟨a,b,d⟩=⟨a,0,0⟩:=if_pos h
theorem Km {a b d:Rat} (h:mV d=false) (hb:b≠0):bS ⟨a,b,d⟩=⟨a,b/((d.den:Int):Rat),(d.num:Rat)*((d.den:Int):Rat)⟩:=by
  unfold bS;rw[if_neg hb,if_neg (by rw[h];decide)]
theorem RefC.rqI {n:Int} {y:Rat} {B C:Nat} {cs:List AV} (h:(Int.cast n:Rat)=y) (k:B≤C):RefC (.rq (Int.cast n:Rat) 1 B::cs) (.rq y y.den C::cs):=by
  subst h
  have e:(Int.cast n:Rat).den=1:=rfl
  rw[e];exact RefC.rq_le k
theorem MP {d:Rat} (h:mV d=false):(d.num:Rat)*((d.den:Int):Rat)≠0:=fun e=>by
  rcases Rat.mul_eq_zero.1 e with e | e
  · have:d.num=0:=Rat.intCast_eq_zero_iff.1 e
    rw[show d=0 from Rat.num_eq_zero.1 this] at h
    exact absurd h (by decide)
  · have:=Rat.intCast_eq_zero_iff.1 e;have:=d.den_pos;omega
def Rt:List AV → Option (AV×List Prop)
  | [.agg [.rq a ad A,.rq b be B,.rq d dd D]]=>some (.agg [.rq (bS ⟨a,b,d⟩).a (if (bS ⟨a,b,d⟩).d=0 then (bS ⟨a,b,d⟩).a.den else ad) (max A 64+2*max B 64+3*max D 64+80),.rq (bS ⟨a,b,d⟩).b (if (bS ⟨a,b,d⟩).d=0 then 0 else (bS ⟨a,b,d⟩).b.den) (max A 64+2*max B 64+3*max D 64+80),.rq (bS ⟨a,b,d⟩).d (if (bS ⟨a,b,d⟩).d=0 then 0 else (bS ⟨a,b,d⟩).d.den) (max A 64+2*max B 64+3*max D 64+80)],[0≤d.num,16*(max A 64+2*max B 64+3*max D 64+80)+9000≤LIM])
  | _=>none
theorem HR {S0 C0:Nat → Prop} {w0:World} {Post:Value → World → Prop} (a:Rat) (ad A:Nat) (b:Rat) (be B:Nat) (d:Rat) (dd D:Nat) (h1:(mV d)=true) (h2:(!(mV d))=true) (o:(0≤d.num)∧(4*max D 64+5000≤LIM)∧(max B 64+max 0 64+(max B 64+max 0 64)+300≤LIM)∧(max A 64+max (max B 64+max 0 64) 64+max A 64+max (max B 64+max 0 64) 64+500≤LIM))
    (hg:Good Tryz.prog 227 S0 C0 w0 Post [.code .ret,.code (aR [1,1,1] (aA Tryz.f227))] ⟨slots 49 [(2,(AV.ptr 1 12 0 0))],[some ⟨121,12,false,[[(AV.rq a ad A),(AV.rq b be B),(AV.rq d dd D)]],none⟩,some ⟨121,12,false,[[(AV.rq (a+(b*0)) ((a+(b*0)).den) (max A 64+max (max B 64+max 0 64) 64+1)),(AV.rq 0 0 0),(AV.rq 0 0 0)]],none⟩,none,some ⟨66,4,false,[[(AV.rq 0 0 0)]],none⟩,none,none,none]⟩):
    Good Tryz.prog 227 S0 C0 w0 Post [.code (aR [] (aA Tryz.f227))] ⟨slots 49 [(0,(AV.agg [(AV.rq a ad A),(AV.rq b be B),(AV.rq d dd D)]))],[]⟩:=
  go mixed aX oD 20 none [2] [(13,(AV.bool true)),(20,(AV.bool true))] (ob:=[0≤d.num,4*max D 64+5000≤LIM,Ref (AV.bool (mV d)) (.bool true),Ref (AV.bool (!(mV d))) (.bool true),max B 64+max 0 64+(max B 64+max 0 64)+300≤LIM,max A 64+max (max B 64+max 0 64) 64+max A 64+max (max B 64+max 0 64) 64+500≤LIM]) (by kernel_rfl)
    (.cons (o.1) (.cons (o.2.1) (.cons (Ref.bool h1) (.cons (Ref.bool h2) (.cons (o.2.2.1) (.cons (o.2.2.2) (AllP.nil))))))) hg
theorem HS {S0 C0:Nat → Prop} {w0:World} {Post:Value → World → Prop} (a:Rat) (ad A:Nat) (b:Rat) (be B:Nat) (d:Rat) (dd D:Nat) (h1:(mV d)=true) (h2:(!(mV d))=false) (o:(0≤d.num)∧(4*max D 64+5000≤LIM)∧(max B 64+max (max D 64+70) 64+(max B 64+max (max D 64+70) 64)+300≤LIM)∧(max A 64+max (max B 64+max (max D 64+70) 64) 64+max A 64+max (max B 64+max (max D 64+70) 64) 64+500≤LIM))
    (hg:Good Tryz.prog 227 S0 C0 w0 Post [.code .ret,.code (aR [1,1,1] (aA Tryz.f227))] ⟨slots 49 [(2,(AV.ptr 1 12 0 0))],[some ⟨121,12,false,[[(AV.rq a ad A),(AV.rq b be B),(AV.rq d dd D)]],none⟩,some ⟨121,12,false,[[(AV.rq (a+(b*(tG d))) ((a+(b*(tG d))).den) (max A 64+max (max B 64+max (max D 64+70) 64) 64+1)),(AV.rq 0 0 0),(AV.rq 0 0 0)]],none⟩,none,some ⟨66,4,false,[[(AV.rq (tG d) ((tG d).den) (max D 64+70))]],none⟩,none,none,none]⟩):
    Good Tryz.prog 227 S0 C0 w0 Post [.code (aR [] (aA Tryz.f227))] ⟨slots 49 [(0,(AV.agg [(AV.rq a ad A),(AV.rq b be B),(AV.rq d dd D)]))],[]⟩:=
  go mixed aX oD 20 none [2] [(13,(AV.bool true)),(20,(AV.bool false))] (ob:=[0≤d.num,4*max D 64+5000≤LIM,Ref (AV.bool (mV d)) (.bool true),Ref (AV.bool (!(mV d))) (.bool false),max B 64+max (max D 64+70) 64+(max B 64+max (max D 64+70) 64)+300≤LIM,max A 64+max (max B 64+max (max D 64+70) 64) 64+max A 64+max (max B 64+max (max D 64+70) 64) 64+500≤LIM]) (by kernel_rfl)
    (.cons (o.1) (.cons (o.2.1) (.cons (Ref.bool h1) (.cons (Ref.bool h2) (.cons (o.2.2.1) (.cons (o.2.2.2) (AllP.nil))))))) hg
theorem HT {S0 C0:Nat → Prop} {w0:World} {Post:Value → World → Prop} (a:Rat) (ad A:Nat) (b:Rat) (be B:Nat) (d:Rat) (dd D:Nat) (h1:(mV d)=false) (h2:(Int.sign b.num)=(0:Int)) (h3:(!(mV d))=true) (o:(0≤d.num)∧(4*max D 64+5000≤LIM)∧(max B 64+max 0 64+(max B 64+max 0 64)+300≤LIM)∧(max A 64+max (max B 64+max 0 64) 64+max A 64+max (max B 64+max 0 64) 64+500≤LIM))
    (hg:Good Tryz.prog 227 S0 C0 w0 Post [.code .ret,.code (aR [1,1,1] (aA Tryz.f227))] ⟨slots 49 [(2,(AV.ptr 1 12 0 0))],[some ⟨121,12,false,[[(AV.rq a ad A),(AV.rq b be B),(AV.rq d dd D)]],none⟩,some ⟨121,12,false,[[(AV.rq (a+(b*0)) ((a+(b*0)).den) (max A 64+max (max B 64+max 0 64) 64+1)),(AV.rq 0 0 0),(AV.rq 0 0 0)]],none⟩,none,some ⟨66,4,false,[[(AV.rq 0 0 0)]],none⟩,none,none,none]⟩):
    Good Tryz.prog 227 S0 C0 w0 Post [.code (aR [] (aA Tryz.f227))] ⟨slots 49 [(0,(AV.agg [(AV.rq a ad A),(AV.rq b be B),(AV.rq d dd D)]))],[]⟩:=
  go mixed aX oD 20 none [2] [(13,(AV.bool false)),(18,(AV.bool true)),(20,(AV.bool true))] (ob:=[0≤d.num,4*max D 64+5000≤LIM,Ref (AV.bool (mV d)) (.bool false),Ref (AV.bool (decide ((Int.sign b.num)=(0:Int)))) (.bool true),Ref (AV.bool (!(mV d))) (.bool true),max B 64+max 0 64+(max B 64+max 0 64)+300≤LIM,max A 64+max (max B 64+max 0 64) 64+max A 64+max (max B 64+max 0 64) 64+500≤LIM]) (by kernel_rfl)
    (.cons (o.1) (.cons (o.2.1) (.cons (Ref.bool h1) (.cons (Ref.bool (decide_eq_true h2)) (.cons (Ref.bool h3) (.cons (o.2.2.1) (.cons (o.2.2.2) (AllP.nil)))))))) hg
theorem HU {S0 C0:Nat → Prop} {w0:World} {Post:Value → World → Prop} (a:Rat) (ad A:Nat) (b:Rat) (be B:Nat) (d:Rat) (dd D:Nat) (h1:(mV d)=false) (h2:(Int.sign b.num)=(0:Int)) (h3:(!(mV d))=false) (o:(0≤d.num)∧(4*max D 64+5000≤LIM)∧(max B 64+max (max D 64+70) 64+(max B 64+max (max D 64+70) 64)+300≤LIM)∧(max A 64+max (max B 64+max (max D 64+70) 64) 64+max A 64+max (max B 64+max (max D 64+70) 64) 64+500≤LIM))
    (hg:Good Tryz.prog 227 S0 C0 w0 Post [.code .ret,.code (aR [1,1,1] (aA Tryz.f227))] ⟨slots 49 [(2,(AV.ptr 1 12 0 0))],[some ⟨121,12,false,[[(AV.rq a ad A),(AV.rq b be B),(AV.rq d dd D)]],none⟩,some ⟨121,12,false,[[(AV.rq (a+(b*(tG d))) ((a+(b*(tG d))).den) (max A 64+max (max B 64+max (max D 64+70) 64) 64+1)),(AV.rq 0 0 0),(AV.rq 0 0 0)]],none⟩,none,some ⟨66,4,false,[[(AV.rq (tG d) ((tG d).den) (max D 64+70))]],none⟩,none,none,none]⟩):
    Good Tryz.prog 227 S0 C0 w0 Post [.code (aR [] (aA Tryz.f227))] ⟨slots 49 [(0,(AV.agg [(AV.rq a ad A),(AV.rq b be B),(AV.rq d dd D)]))],[]⟩:=
  go mixed aX oD 20 none [2] [(13,(AV.bool false)),(18,(AV.bool true)),(20,(AV.bool false))] (ob:=[0≤d.num,4*max D 64+5000≤LIM,Ref (AV.bool (mV d)) (.bool false),Ref (AV.bool (decide ((Int.sign b.num)=(0:Int)))) (.bool true),Ref (AV.bool (!(mV d))) (.bool false),max B 64+max (max D 64+70) 64+(max B 64+max (max D 64+70) 64)+300≤LIM,max A 64+max (max B 64+max (max D 64+70) 64) 64+max A 64+max (max B 64+max (max D 64+70) 64) 64+500≤LIM]) (by kernel_rfl)
    (.cons (o.1) (.cons (o.2.1) (.cons (Ref.bool h1) (.cons (Ref.bool (decide_eq_true h2)) (.cons (Ref.bool h3) (.cons (o.2.2.1) (.cons (o.2.2.2) (AllP.nil)))))))) hg
theorem HV {S0 C0:Nat → Prop} {w0:World} {Post:Value → World → Prop} (a:Rat) (ad A:Nat) (b:Rat) (be B:Nat) (d:Rat) (dd D:Nat) (h1:(mV d)=false) (h2:¬ ((Int.sign b.num)=(0:Int))) (o:(0≤d.num)∧(4*max D 64+5000≤LIM)∧((Int.cast (d.den:Int):Rat)≠0)∧(max B 64+max (max (max D 64) 64) 64+max B 64+max (max (max D 64) 64) 64+500≤LIM)∧(D+(max D 64)+128≤LIM))
    (hg:Good Tryz.prog 227 S0 C0 w0 Post [.code .ret] ⟨slots 49 [(2,(AV.ptr 1 12 0 0))],[some ⟨121,12,false,[[(AV.rq a ad A),(AV.rq b be B),(AV.rq d dd D)]],none⟩,some ⟨121,12,false,[[(AV.rq a ad A),(AV.rq (b/(Int.cast (d.den:Int):Rat)) ((b/(Int.cast (d.den:Int):Rat)).den) (max B 64+max (max (max D 64) 64) 64)),(AV.rq (Int.cast (d.num*(d.den:Int)):Rat) 1 (max (D+(max D 64)) 64))]],none⟩,none,some ⟨66,4,false,[[(AV.rq (tG d) ((tG d).den) (max D 64+70))]],none⟩,none,none,none,some ⟨66,4,false,[[(AV.rq (Int.cast (d.den:Int):Rat) 1 (max (max D 64) 64))]],none⟩,none,none,none,none]⟩):
    Good Tryz.prog 227 S0 C0 w0 Post [.code (aR [] (aA Tryz.f227))] ⟨slots 49 [(0,(AV.agg [(AV.rq a ad A),(AV.rq b be B),(AV.rq d dd D)]))],[]⟩:=
  go mixed aX oD 18 none [2] [(13,(AV.bool false)),(18,(AV.bool false))] (ob:=[0≤d.num,4*max D 64+5000≤LIM,Ref (AV.bool (mV d)) (.bool false),Ref (AV.bool (decide ((Int.sign b.num)=(0:Int)))) (.bool false),(Int.cast (d.den:Int):Rat)≠0,max B 64+max (max (max D 64) 64) 64+max B 64+max (max (max D 64) 64) 64+500≤LIM,D+(max D 64)+128≤LIM]) (by kernel_rfl)
    (.cons (o.1) (.cons (o.2.1) (.cons (Ref.bool h1) (.cons (Ref.bool (decide_eq_false h2)) (.cons (o.2.2.1) (.cons (o.2.2.2.1) (.cons (o.2.2.2.2) (AllP.nil)))))))) hg
theorem Ub   (args:List AV) (r:AV) (ob:List Prop) (h:Rt args=some (r,ob)) (ho:AllP ob):qL Tryz.prog 227 args r:=by
  unfold Rt at h
  split at h
  · rename_i a ad A b be B d dd D
    injection h with h;simp only[Prod.mk.injEq] at h
    obtain⟨rfl,rfl⟩:=h
    have o1:0≤d.num:=ho _ (by simp)
    have o2:16*(max A 64+2*max B 64+3*max D 64+80)+9000≤LIM:=ho _ (by simp)
    refine tZ (fn:=Tryz.f227) (c:=aA Tryz.f227) (by kernel_rfl) (by kernel_rfl) (by kernel_rfl) fun S w0=> ?_
    have e:kY [.agg [.rq a ad A,.rq b be B,.rq d dd D]] Tryz.f227.ntmps=⟨slots 49 [(0,(AV.agg [(AV.rq a ad A),(AV.rq b be B),(AV.rq d dd D)]))],[]⟩:=by kernel_rfl
    rw[e];clear e
    rcases Bool.eq_false_or_eq_true (mV d) with h1 | h1
    · rcases Bool.eq_false_or_eq_true (!(mV d)) with h2 | h2
      · refine HR a ad A b be B d dd D h1 h2 ⟨by first | assumption | omega | rfl | exact fun e=>by have:=Rat.intCast_eq_zero_iff.1 e;have:=d.den_pos;omega,by first | assumption | omega | rfl | exact fun e=>by have:=Rat.intCast_eq_zero_iff.1 e;have:=d.den_pos;omega,by first | assumption | omega | rfl | exact fun e=>by have:=Rat.intCast_eq_zero_iff.1 e;have:=d.den_pos;omega,by first | assumption | omega | rfl | exact fun e=>by have:=Rat.intCast_eq_zero_iff.1 e;have:=d.den_pos;omega⟩ (fF aX (fn:=Tryz.f227) (by kernel_rfl) (.inr ⟨_,rfl⟩) (Vs:=[(AV.agg [(AV.rq (a+(b*0)) ((a+(b*0)).den) (max A 64+max (max B 64+max 0 64) 64+1)),(AV.rq 0 0 0),(AV.rq 0 0 0)])]) (by kernel_rfl) (by rfl) (by rfl) ?_)
        show Ref (AV.agg [(AV.rq (a+(b*0)) ((a+(b*0)).den) (max A 64+max (max B 64+max 0 64) 64+1)),(AV.rq 0 0 0),(AV.rq 0 0 0)]) (.agg [.rq (bS ⟨a,b,d⟩).a (if (bS ⟨a,b,d⟩).d=0 then (bS ⟨a,b,d⟩).a.den else ad) (max A 64+2*max B 64+3*max D 64+80),.rq (bS ⟨a,b,d⟩).b (if (bS ⟨a,b,d⟩).d=0 then 0 else (bS ⟨a,b,d⟩).b.den) (max A 64+2*max B 64+3*max D 64+80),.rq (bS ⟨a,b,d⟩).d (if (bS ⟨a,b,d⟩).d=0 then 0 else (bS ⟨a,b,d⟩).d.den) (max A 64+2*max B 64+3*max D 64+80)])
        rw[h1] at h2;exact absurd h2 (by decide)
      · refine HS a ad A b be B d dd D h1 h2 ⟨by first | assumption | omega | rfl | exact fun e=>by have:=Rat.intCast_eq_zero_iff.1 e;have:=d.den_pos;omega,by first | assumption | omega | rfl | exact fun e=>by have:=Rat.intCast_eq_zero_iff.1 e;have:=d.den_pos;omega,by first | assumption | omega | rfl | exact fun e=>by have:=Rat.intCast_eq_zero_iff.1 e;have:=d.den_pos;omega,by first | assumption | omega | rfl | exact fun e=>by have:=Rat.intCast_eq_zero_iff.1 e;have:=d.den_pos;omega⟩ (fF aX (fn:=Tryz.f227) (by kernel_rfl) (.inr ⟨_,rfl⟩) (Vs:=[(AV.agg [(AV.rq (a+(b*(tG d))) ((a+(b*(tG d))).den) (max A 64+max (max B 64+max (max D 64+70) 64) 64+1)),(AV.rq 0 0 0),(AV.rq 0 0 0)])]) (by kernel_rfl) (by rfl) (by rfl) ?_)
        show Ref (AV.agg [(AV.rq (a+(b*(tG d))) ((a+(b*(tG d))).den) (max A 64+max (max B 64+max (max D 64+70) 64) 64+1)),(AV.rq 0 0 0),(AV.rq 0 0 0)]) (.agg [.rq (bS ⟨a,b,d⟩).a (if (bS ⟨a,b,d⟩).d=0 then (bS ⟨a,b,d⟩).a.den else ad) (max A 64+2*max B 64+3*max D 64+80),.rq (bS ⟨a,b,d⟩).b (if (bS ⟨a,b,d⟩).d=0 then 0 else (bS ⟨a,b,d⟩).b.den) (max A 64+2*max B 64+3*max D 64+80),.rq (bS ⟨a,b,d⟩).d (if (bS ⟨a,b,d⟩).d=0 then 0 else (bS ⟨a,b,d⟩).d.den) (max A 64+2*max B 64+3*max D 64+80)])
        rw[MN h1]
        exact Ref.agg (RefC.cons (RefC.rq_e rfl (by omega)) (RefC.cons (RefC.rq_le (by omega)) (RefC.rq_le (by omega))))
    · by_cases h2:(Int.sign b.num)=(0:Int)
      · rcases Bool.eq_false_or_eq_true (!(mV d)) with h3 | h3
        · refine HT a ad A b be B d dd D h1 h2 h3 ⟨by first | assumption | omega | rfl | exact fun e=>by have:=Rat.intCast_eq_zero_iff.1 e;have:=d.den_pos;omega,by first | assumption | omega | rfl | exact fun e=>by have:=Rat.intCast_eq_zero_iff.1 e;have:=d.den_pos;omega,by first | assumption | omega | rfl | exact fun e=>by have:=Rat.intCast_eq_zero_iff.1 e;have:=d.den_pos;omega,by first | assumption | omega | rfl | exact fun e=>by have:=Rat.intCast_eq_zero_iff.1 e;have:=d.den_pos;omega⟩ (fF aX (fn:=Tryz.f227) (by kernel_rfl) (.inr ⟨_,rfl⟩) (Vs:=[(AV.agg [(AV.rq (a+(b*0)) ((a+(b*0)).den) (max A 64+max (max B 64+max 0 64) 64+1)),(AV.rq 0 0 0),(AV.rq 0 0 0)])]) (by kernel_rfl) (by rfl) (by rfl) ?_)
          show Ref (AV.agg [(AV.rq (a+(b*0)) ((a+(b*0)).den) (max A 64+max (max B 64+max 0 64) 64+1)),(AV.rq 0 0 0),(AV.rq 0 0 0)]) (.agg [.rq (bS ⟨a,b,d⟩).a (if (bS ⟨a,b,d⟩).d=0 then (bS ⟨a,b,d⟩).a.den else ad) (max A 64+2*max B 64+3*max D 64+80),.rq (bS ⟨a,b,d⟩).b (if (bS ⟨a,b,d⟩).d=0 then 0 else (bS ⟨a,b,d⟩).b.den) (max A 64+2*max B 64+3*max D 64+80),.rq (bS ⟨a,b,d⟩).d (if (bS ⟨a,b,d⟩).d=0 then 0 else (bS ⟨a,b,d⟩).d.den) (max A 64+2*max B 64+3*max D 64+80)])
          rw[MO (gG.1 h2)]
          exact Ref.agg (RefC.cons (RefC.rq_e (by rw[gG.1 h2];grind) (by omega)) (RefC.cons (RefC.rq_le (by omega)) (RefC.rq_le (by omega))))
        · refine HU a ad A b be B d dd D h1 h2 h3 ⟨by first | assumption | omega | rfl | exact fun e=>by have:=Rat.intCast_eq_zero_iff.1 e;have:=d.den_pos;omega,by first | assumption | omega | rfl | exact fun e=>by have:=Rat.intCast_eq_zero_iff.1 e;have:=d.den_pos;omega,by first | assumption | omega | rfl | exact fun e=>by have:=Rat.intCast_eq_zero_iff.1 e;have:=d.den_pos;omega,by first | assumption | omega | rfl | exact fun e=>by have:=Rat.intCast_eq_zero_iff.1 e;have:=d.den_pos;omega⟩ (fF aX (fn:=Tryz.f227) (by kernel_rfl) (.inr ⟨_,rfl⟩) (Vs:=[(AV.agg [(AV.rq (a+(b*(tG d))) ((a+(b*(tG d))).den) (max A 64+max (max B 64+max (max D 64+70) 64) 64+1)),(AV.rq 0 0 0),(AV.rq 0 0 0)])]) (by kernel_rfl) (by rfl) (by rfl) ?_)
          show Ref (AV.agg [(AV.rq (a+(b*(tG d))) ((a+(b*(tG d))).den) (max A 64+max (max B 64+max (max D 64+70) 64) 64+1)),(AV.rq 0 0 0),(AV.rq 0 0 0)]) (.agg [.rq (bS ⟨a,b,d⟩).a (if (bS ⟨a,b,d⟩).d=0 then (bS ⟨a,b,d⟩).a.den else ad) (max A 64+2*max B 64+3*max D 64+80),.rq (bS ⟨a,b,d⟩).b (if (bS ⟨a,b,d⟩).d=0 then 0 else (bS ⟨a,b,d⟩).b.den) (max A 64+2*max B 64+3*max D 64+80),.rq (bS ⟨a,b,d⟩).d (if (bS ⟨a,b,d⟩).d=0 then 0 else (bS ⟨a,b,d⟩).d.den) (max A 64+2*max B 64+3*max D 64+80)])
          rw[h1] at h3;exact absurd h3 (by decide)
      · refine HV a ad A b be B d dd D h1 h2 ⟨by first | assumption | omega | rfl | exact fun e=>by have:=Rat.intCast_eq_zero_iff.1 e;have:=d.den_pos;omega,by first | assumption | omega | rfl | exact fun e=>by have:=Rat.intCast_eq_zero_iff.1 e;have:=d.den_pos;omega,by first | assumption | omega | rfl | exact fun e=>by have:=Rat.intCast_eq_zero_iff.1 e;have:=d.den_pos;omega,by first | assumption | omega | rfl | exact fun e=>by have:=Rat.intCast_eq_zero_iff.1 e;have:=d.den_pos;omega,by first | assumption | omega | rfl | exact fun e=>by have:=Rat.intCast_eq_zero_iff.1 e;have:=d.den_pos;omega⟩ (fF aX (fn:=Tryz.f227) (by kernel_rfl) (.inr ⟨_,rfl⟩) (Vs:=[(AV.agg [(AV.rq a ad A),(AV.rq (b/(Int.cast (d.den:Int):Rat)) ((b/(Int.cast (d.den:Int):Rat)).den) (max B 64+max (max (max D 64) 64) 64)),(AV.rq (Int.cast (d.num*(d.den:Int)):Rat) 1 (max (D+(max D 64)) 64))])]) (by kernel_rfl) (by rfl) (by rfl) ?_)
        show Ref (AV.agg [(AV.rq a ad A),(AV.rq (b/(Int.cast (d.den:Int):Rat)) ((b/(Int.cast (d.den:Int):Rat)).den) (max B 64+max (max (max D 64) 64) 64)),(AV.rq (Int.cast (d.num*(d.den:Int)):Rat) 1 (max (D+(max D 64)) 64))]) (.agg [.rq (bS ⟨a,b,d⟩).a (if (bS ⟨a,b,d⟩).d=0 then (bS ⟨a,b,d⟩).a.den else ad) (max A 64+2*max B 64+3*max D 64+80),.rq (bS ⟨a,b,d⟩).b (if (bS ⟨a,b,d⟩).d=0 then 0 else (bS ⟨a,b,d⟩).b.den) (max A 64+2*max B 64+3*max D 64+80),.rq (bS ⟨a,b,d⟩).d (if (bS ⟨a,b,d⟩).d=0 then 0 else (bS ⟨a,b,d⟩).d.den) (max A 64+2*max B 64+3*max D 64+80)])
        rw[Km h1 (fun e=>h2 (gG.2 e))]
        simp only[if_neg (MP h1)]
        exact Ref.agg (RefC.cons (RefC.rq_le (by omega)) (RefC.cons (RefC.rq_e rfl (by omega)) (RefC.rqI (by rw[Rat.intCast_mul]) (by omega))))
  · cases h
def Ru:KF
 | [.agg [.rq d dd D],.agg [.rq a ad A,.rq b be B]]=>some (.agg [.rq (bS ⟨a,b,d⟩).a (if (bS ⟨a,b,d⟩).d=0 then (bS ⟨a,b,d⟩).a.den else ad) (max A 64+2*max B 64+3*max D 64+80),.rq (bS ⟨a,b,d⟩).b (if (bS ⟨a,b,d⟩).d=0 then 0 else (bS ⟨a,b,d⟩).b.den) (max A 64+2*max B 64+3*max D 64+80),.rq (bS ⟨a,b,d⟩).d (if (bS ⟨a,b,d⟩).d=0 then 0 else (bS ⟨a,b,d⟩).d.den) (max A 64+2*max B 64+3*max D 64+80)],[0<=d.num,16*(max A 64+2*max B 64+3*max D 64+80)+9000<=LIM])
 | _=>none
theorem Uc:bO 141 Ru:=by
 refine cJ Tryz.f141 fun _ _ _ S w0 h ho=> ?_
 unfold Ru at h;split at h <;> cases h;rename_i d dd D a ad A b be B;obtain⟨o1,o2⟩:=ho.e2;have K:=kn.cons Ub;exact rR K [] (.a2 o1 o2)
def sB:=((((((((kn.cons Uc).cons MH).cons MI).cons TO).cons TM).cons TL).cons UT).cons Vx).cons Ua
noncomputable abbrev BZ:List Item:=[.code (aR [1,1,1,1,1,1,1,1,1,1,0] (aA Tryz.f48)),.code (aR [1,1,1,1,1,1,1,1,1,1,1] (aA Tryz.f48))]
def xX (n:Nm) (d:Rat):AV:=.agg [.rq (bS ⟨n.a,n.b,d⟩).a (if (bS ⟨n.a,n.b,d⟩).d=0 then (bS ⟨n.a,n.b,d⟩).a.den else n.a.den) 3942209,.rq (bS ⟨n.a,n.b,d⟩).b (if (bS ⟨n.a,n.b,d⟩).d=0 then 0 else (bS ⟨n.a,n.b,d⟩).b.den) 3942209,.rq (bS ⟨n.a,n.b,d⟩).d (if (bS ⟨n.a,n.b,d⟩).d=0 then 0 else (bS ⟨n.a,n.b,d⟩).d.den) 3942209]
theorem Rv {d:Rat} (h:0<=d) (t:Nm):MK d (aP eG (aY d t t))≠0:=by
 obtain⟨a,b⟩:=t;have hu:0<=a*a:=DG a;have hw:0<=d*b*b:=by rw[Rat.mul_assoc];exact Rat.mul_nonneg h (DG b)
 intro e
 have e2:(1+a*a-d*b*b)*(1+a*a-d*b*b)+4*(d*b*b)=0:=by
   rw[<- e];simp only[MK,aP,eG,aY];grind
 have h1:=DG (1+a*a-d*b*b);have w0:d*b*b=0:=by grind
 rw[w0] at e2;have h2:(1+a*a)*(1+a*a)=0:=by grind
 have h3:(1+a*a)=0:=by rcases Rat.mul_eq_zero.1 h2 with h | h <;> exact h
 grind
theorem RefC.rqz {x y:Rat} {d B C:Nat} (h:y=x) (k:B<=C):RefC [.rq x d B] [.rq y d C]:=by subst h;exact RefC.rq_le k
theorem zK (x y:Nm):aP x y=aP y x:=by unfold aP;rw[Rat.add_comm x.a,Rat.add_comm x.b]
theorem AG {S:Nat->Prop} {w0:World} {XB XS XT XD XF:List (List AV)} {x:PtD} {f h:FrameD} {sd td:Nat} {v w:BodyD} {y:BendD} (hX:Ref (.cptr (XB.getD v.par.toNat []) 0) (.cptr (aK 300 w) 0)) (h0:0<=v.par) (h1:v.par<((XB.length:Nat):Int)) (hh:h=⟨mJ f w.at_,f.c,f.s⟩) (hd:0<=aC y):
   GF 48 S w0 (.tup [xX (cM h v.at_ x y).x (aC y),xX (cM h v.at_ x y).z (aC y)]) BZ ⟨slots 149 [(5,.ptr 0 5 0 0),(8,.ptr 1 8 0 0),(10,.ptr 2 12 0 0),(11,.ptr 3 12 0 0),(12,.i6 v.par),(14,.ptr 4 16 0 0),(15,.ptr 5 4 0 0),(16,.ptr 6 8 0 0),(17,.ptr 7 8 0 0),(18,.ptr 8 16 0 0)],[some ⟨48,5,false,[[(.list 34 XB),(.list 22 XS),(.list 22 XT),(.list 17 XD),(.list 6 XF)]],none⟩,some ⟨68,8,false,[[(.rq x.x x.x.den 300),(.rq x.z x.z.den 300)]],none⟩,some ⟨121,12,false,[[(.rq 0 0 0),(.rq 0 0 0),(.rq 0 0 0)]],none⟩,some ⟨121,12,false,[[(.rq 0 0 0),(.rq 0 0 0),(.rq 0 0 0)]],none⟩,some ⟨179,16,false,[[(.rq f.at_.x f.at_.x.den 19961),(.rq f.at_.z f.at_.z.den 19961),(.rq f.c f.c.den 9981),(.rq f.s f.s.den 9981)]],none⟩,some ⟨293,4,false,[[(.rq (aC y) ((aC y).den) 300)]],none⟩,some ⟨295,8,false,[[(.rq ((aF y.a).a) ((aF y.a).a.den) 300),(.rq ((aF y.a).b) sd 300)]],none⟩,some ⟨295,8,false,[[(.rq ((aF y.b).a) ((aF y.b).a.den) 300),(.rq ((aF y.b).b) td 300)]],none⟩,some ⟨297,16,false,[[(.rq v.at_.x v.at_.x.den 300),(.rq 0 0 0),(.rq v.at_.z v.at_.z.den 300),(.rq 0 0 0)]],none⟩]⟩:=by
 have c1:∃ r1:Vc,r1=⟨dW (aC y) (gC eG (aY (aC y) (aF y.b) (aF y.b))) (aP eG (aY (aC y) (aF y.b) (aF y.b))),dW (aC y) (aP (aF y.b) (aF y.b)) (aP eG (aY (aC y) (aF y.b) (aF y.b)))⟩:=⟨_,rfl⟩;obtain⟨r1,hr1⟩:=c1;have c2:∃ r2:Vc,r2=⟨dW (aC y) (gC eG (aY (aC y) (aF y.a) (aF y.a))) (aP eG (aY (aC y) (aF y.a) (aF y.a))),dW (aC y) (aP (aF y.a) (aF y.a)) (aP eG (aY (aC y) (aF y.a) (aF y.a)))⟩:=⟨_,rfl⟩;obtain⟨r2,hr2⟩:=c2;have b1:∃ q1:Vc,q1=bQ (aC y) ⟨⟨x.x,0⟩,⟨x.z,0⟩⟩ r1.x r1.z:=⟨_,rfl⟩;obtain⟨q1,hq1⟩:=b1;have b2:∃ q2:Vc,q2=bQ (aC y) ⟨aP q1.x ⟨v.at_.x,0⟩,aP q1.z ⟨v.at_.z,0⟩⟩ r2.x r2.z:=⟨_,rfl⟩;obtain⟨q2,hq2⟩:=b2;have b3:∃ q3:Vc,q3=bQ (aC y) q2 ⟨f.c,0⟩ ⟨f.s,0⟩:=⟨_,rfl⟩;obtain⟨q3,hq3⟩:=b3;have b4:∃ o:PtD,o=mJ f w.at_:=⟨_,rfl⟩;obtain⟨o,ho⟩:=b4
 have hV:cM h v.at_ x y=bF q3 ⟨⟨o.x,0⟩,⟨o.z,0⟩⟩:=by
   rw[ho,hq3,hq2,hq1,hr1,hr2,hh];unfold cM bF aM;rw[zK ⟨v.at_.x,0⟩,zK ⟨v.at_.z,0⟩]
 have n1:=Rv hd (aF y.b);have n2:=Rv hd (aF y.a);have hn:=Rat.num_nonneg.2 hd;have hl:LIM=17592186044416:=rfl;rw[hV];have v0:100*(16*max 300 64+16*max 300 64+16*max 300 64+900)+90000<=LIM:=by decide
 have v1:16*(max 1313743 64+2*max 1313743 64+3*max 300 64+80)+9000<=LIM:=by decide
 have v2:2*(max 1273217 64+max 1273217 64+max 40525 64+max 0 64)+1000<=LIM:=by decide
 have v3:2*(max 62531 64+max 62531 64+max 300 64+max 0 64)+1000<=LIM:=by decide
 refine gR sB none [10,11] [2,3] [(90,.agg [.rq r1.x.a r1.x.a.den 15300,.rq r1.x.b r1.x.b.den 15300,.rq r1.z.a r1.z.a.den 15300,.rq r1.z.b r1.z.b.den 15300]),(93,.agg [.rq q1.x.a q1.x.a.den 62531,.rq q1.x.b q1.x.b.den 62531,.rq q1.z.a q1.z.a.den 62531,.rq q1.z.b q1.z.b.den 62531]),(97,.agg [.rq r2.x.a r2.x.a.den 15300,.rq r2.x.b r2.x.b.den 15300,.rq r2.z.a r2.z.a.den 15300,.rq r2.z.b r2.z.b.den 15300]),(103,.agg [.rq (aP q1.x ⟨v.at_.x,0⟩).a (aP q1.x ⟨v.at_.x,0⟩).a.den 62832,.rq (aP q1.x ⟨v.at_.x,0⟩).b (aP q1.x ⟨v.at_.x,0⟩).b.den 62832]),(109,.agg [.rq (aP q1.z ⟨v.at_.z,0⟩).a (aP q1.z ⟨v.at_.z,0⟩).a.den 62832,.rq (aP q1.z ⟨v.at_.z,0⟩).b (aP q1.z ⟨v.at_.z,0⟩).b.den 62832]),(111,.agg [.rq q2.x.a q2.x.a.den 313131,.rq q2.x.b q2.x.b.den 313131,.rq q2.z.a q2.z.a.den 313131,.rq q2.z.b q2.z.b.den 313131]),(123,.agg [.rq q3.x.a q3.x.a.den 1273217,.rq q3.x.b q3.x.b.den 1273217,.rq q3.z.a q3.z.a.den 1273217,.rq q3.z.b q3.z.b.den 1273217]),(128,.cptr (aK 300 w) 0),(131,.agg (iK 40525 o)),(139,.agg [.rq (aP q3.x ⟨o.x,0⟩).a (aP q3.x ⟨o.x,0⟩).a.den 1313743,.rq (aP q3.x ⟨o.x,0⟩).b (aP q3.x ⟨o.x,0⟩).b.den 1313743]),(147,.agg [.rq (aP q3.z ⟨o.z,0⟩).a (aP q3.z ⟨o.z,0⟩).a.den 1313743,.rq (aP q3.z ⟨o.z,0⟩).b (aP q3.z ⟨o.z,0⟩).b.den 1313743])] (.c6 (show Ref (.agg [.rq ((dW (aC y) (gC eG (aY (aC y) ⟨(aF y.b).a,(aF y.b).b⟩ ⟨(aF y.b).a,(aF y.b).b⟩)) (aP eG (aY (aC y) ⟨(aF y.b).a,(aF y.b).b⟩ ⟨(aF y.b).a,(aF y.b).b⟩))).a) ((dW (aC y) (gC eG (aY (aC y) ⟨(aF y.b).a,(aF y.b).b⟩ ⟨(aF y.b).a,(aF y.b).b⟩)) (aP eG (aY (aC y) ⟨(aF y.b).a,(aF y.b).b⟩ ⟨(aF y.b).a,(aF y.b).b⟩))).a.den) (16*max 300 64+16*max 300 64+16*max 300 64+900),.rq ((dW (aC y) (gC eG (aY (aC y) ⟨(aF y.b).a,(aF y.b).b⟩ ⟨(aF y.b).a,(aF y.b).b⟩)) (aP eG (aY (aC y) ⟨(aF y.b).a,(aF y.b).b⟩ ⟨(aF y.b).a,(aF y.b).b⟩))).b) ((dW (aC y) (gC eG (aY (aC y) ⟨(aF y.b).a,(aF y.b).b⟩ ⟨(aF y.b).a,(aF y.b).b⟩)) (aP eG (aY (aC y) ⟨(aF y.b).a,(aF y.b).b⟩ ⟨(aF y.b).a,(aF y.b).b⟩))).b.den) (16*max 300 64+16*max 300 64+16*max 300 64+900),.rq ((dW (aC y) (aP ⟨(aF y.b).a,(aF y.b).b⟩ ⟨(aF y.b).a,(aF y.b).b⟩) (aP eG (aY (aC y) ⟨(aF y.b).a,(aF y.b).b⟩ ⟨(aF y.b).a,(aF y.b).b⟩))).a) ((dW (aC y) (aP ⟨(aF y.b).a,(aF y.b).b⟩ ⟨(aF y.b).a,(aF y.b).b⟩) (aP eG (aY (aC y) ⟨(aF y.b).a,(aF y.b).b⟩ ⟨(aF y.b).a,(aF y.b).b⟩))).a.den) (16*max 300 64+16*max 300 64+16*max 300 64+900),.rq ((dW (aC y) (aP ⟨(aF y.b).a,(aF y.b).b⟩ ⟨(aF y.b).a,(aF y.b).b⟩) (aP eG (aY (aC y) ⟨(aF y.b).a,(aF y.b).b⟩ ⟨(aF y.b).a,(aF y.b).b⟩))).b) ((dW (aC y) (aP ⟨(aF y.b).a,(aF y.b).b⟩ ⟨(aF y.b).a,(aF y.b).b⟩) (aP eG (aY (aC y) ⟨(aF y.b).a,(aF y.b).b⟩ ⟨(aF y.b).a,(aF y.b).b⟩))).b.den) (16*max 300 64+16*max 300 64+16*max 300 64+900)]) (.agg [.rq r1.x.a r1.x.a.den 15300,.rq r1.x.b r1.x.b.den 15300,.rq r1.z.a r1.z.a.den 15300,.rq r1.z.b r1.z.b.den 15300]) from ?_) n1 v0 (show Ref (.agg [.rq (((bQ (aC y) ⟨⟨x.x,0⟩,⟨x.z,0⟩⟩ ⟨r1.x.a,r1.x.b⟩ ⟨r1.z.a,r1.z.b⟩).x).a) (((bQ (aC y) ⟨⟨x.x,0⟩,⟨x.z,0⟩⟩ ⟨r1.x.a,r1.x.b⟩ ⟨r1.z.a,r1.z.b⟩).x).a.den) (max 15300 64+max 15300 64+max 15300 64+max 15300 64+max 300 64+max 0 64+max 300 64+max 0 64+2*max 300 64+3),.rq (((bQ (aC y) ⟨⟨x.x,0⟩,⟨x.z,0⟩⟩ ⟨r1.x.a,r1.x.b⟩ ⟨r1.z.a,r1.z.b⟩).x).b) (((bQ (aC y) ⟨⟨x.x,0⟩,⟨x.z,0⟩⟩ ⟨r1.x.a,r1.x.b⟩ ⟨r1.z.a,r1.z.b⟩).x).b.den) (max 15300 64+max 15300 64+max 15300 64+max 15300 64+max 300 64+max 0 64+max 300 64+max 0 64+2*max 300 64+3),.rq (((bQ (aC y) ⟨⟨x.x,0⟩,⟨x.z,0⟩⟩ ⟨r1.x.a,r1.x.b⟩ ⟨r1.z.a,r1.z.b⟩).z).a) (((bQ (aC y) ⟨⟨x.x,0⟩,⟨x.z,0⟩⟩ ⟨r1.x.a,r1.x.b⟩ ⟨r1.z.a,r1.z.b⟩).z).a.den) (max 15300 64+max 15300 64+max 15300 64+max 15300 64+max 300 64+max 0 64+max 300 64+max 0 64+2*max 300 64+3),.rq (((bQ (aC y) ⟨⟨x.x,0⟩,⟨x.z,0⟩⟩ ⟨r1.x.a,r1.x.b⟩ ⟨r1.z.a,r1.z.b⟩).z).b) (((bQ (aC y) ⟨⟨x.x,0⟩,⟨x.z,0⟩⟩ ⟨r1.x.a,r1.x.b⟩ ⟨r1.z.a,r1.z.b⟩).z).b.den) (max 15300 64+max 15300 64+max 15300 64+max 15300 64+max 300 64+max 0 64+max 300 64+max 0 64+2*max 300 64+3)]) (.agg [.rq q1.x.a q1.x.a.den 62531,.rq q1.x.b q1.x.b.den 62531,.rq q1.z.a q1.z.a.den 62531,.rq q1.z.b q1.z.b.den 62531]) from ?_) (dc (8*(max 15300 64+max 15300 64+max 15300 64+max 15300 64+max 300 64+max 0 64+max 300 64+max 0 64+2*max 300 64+3)+9000<=LIM)) (show Ref (.agg [.rq ((dW (aC y) (gC eG (aY (aC y) ⟨(aF y.a).a,(aF y.a).b⟩ ⟨(aF y.a).a,(aF y.a).b⟩)) (aP eG (aY (aC y) ⟨(aF y.a).a,(aF y.a).b⟩ ⟨(aF y.a).a,(aF y.a).b⟩))).a) ((dW (aC y) (gC eG (aY (aC y) ⟨(aF y.a).a,(aF y.a).b⟩ ⟨(aF y.a).a,(aF y.a).b⟩)) (aP eG (aY (aC y) ⟨(aF y.a).a,(aF y.a).b⟩ ⟨(aF y.a).a,(aF y.a).b⟩))).a.den) (16*max 300 64+16*max 300 64+16*max 300 64+900),.rq ((dW (aC y) (gC eG (aY (aC y) ⟨(aF y.a).a,(aF y.a).b⟩ ⟨(aF y.a).a,(aF y.a).b⟩)) (aP eG (aY (aC y) ⟨(aF y.a).a,(aF y.a).b⟩ ⟨(aF y.a).a,(aF y.a).b⟩))).b) ((dW (aC y) (gC eG (aY (aC y) ⟨(aF y.a).a,(aF y.a).b⟩ ⟨(aF y.a).a,(aF y.a).b⟩)) (aP eG (aY (aC y) ⟨(aF y.a).a,(aF y.a).b⟩ ⟨(aF y.a).a,(aF y.a).b⟩))).b.den) (16*max 300 64+16*max 300 64+16*max 300 64+900),.rq ((dW (aC y) (aP ⟨(aF y.a).a,(aF y.a).b⟩ ⟨(aF y.a).a,(aF y.a).b⟩) (aP eG (aY (aC y) ⟨(aF y.a).a,(aF y.a).b⟩ ⟨(aF y.a).a,(aF y.a).b⟩))).a) ((dW (aC y) (aP ⟨(aF y.a).a,(aF y.a).b⟩ ⟨(aF y.a).a,(aF y.a).b⟩) (aP eG (aY (aC y) ⟨(aF y.a).a,(aF y.a).b⟩ ⟨(aF y.a).a,(aF y.a).b⟩))).a.den) (16*max 300 64+16*max 300 64+16*max 300 64+900),.rq ((dW (aC y) (aP ⟨(aF y.a).a,(aF y.a).b⟩ ⟨(aF y.a).a,(aF y.a).b⟩) (aP eG (aY (aC y) ⟨(aF y.a).a,(aF y.a).b⟩ ⟨(aF y.a).a,(aF y.a).b⟩))).b) ((dW (aC y) (aP ⟨(aF y.a).a,(aF y.a).b⟩ ⟨(aF y.a).a,(aF y.a).b⟩) (aP eG (aY (aC y) ⟨(aF y.a).a,(aF y.a).b⟩ ⟨(aF y.a).a,(aF y.a).b⟩))).b.den) (16*max 300 64+16*max 300 64+16*max 300 64+900)]) (.agg [.rq r2.x.a r2.x.a.den 15300,.rq r2.x.b r2.x.b.den 15300,.rq r2.z.a r2.z.a.den 15300,.rq r2.z.b r2.z.b.den 15300]) from ?_) (.c6 n2 v0 (show Ref (.agg [.rq ((aP ⟨q1.x.a,q1.x.b⟩ ⟨v.at_.x,0⟩).a) ((aP ⟨q1.x.a,q1.x.b⟩ ⟨v.at_.x,0⟩).a.den) (max 62531 64+max 300 64+1),.rq ((aP ⟨q1.x.a,q1.x.b⟩ ⟨v.at_.x,0⟩).b) ((aP ⟨q1.x.a,q1.x.b⟩ ⟨v.at_.x,0⟩).b.den) (max 62531 64+max 0 64+1)]) (.agg [.rq (aP q1.x ⟨v.at_.x,0⟩).a (aP q1.x ⟨v.at_.x,0⟩).a.den 62832,.rq (aP q1.x ⟨v.at_.x,0⟩).b (aP q1.x ⟨v.at_.x,0⟩).b.den 62832]) from ?_) v3 (show Ref (.agg [.rq ((aP ⟨q1.z.a,q1.z.b⟩ ⟨v.at_.z,0⟩).a) ((aP ⟨q1.z.a,q1.z.b⟩ ⟨v.at_.z,0⟩).a.den) (max 62531 64+max 300 64+1),.rq ((aP ⟨q1.z.a,q1.z.b⟩ ⟨v.at_.z,0⟩).b) ((aP ⟨q1.z.a,q1.z.b⟩ ⟨v.at_.z,0⟩).b.den) (max 62531 64+max 0 64+1)]) (.agg [.rq (aP q1.z ⟨v.at_.z,0⟩).a (aP q1.z ⟨v.at_.z,0⟩).a.den 62832,.rq (aP q1.z ⟨v.at_.z,0⟩).b (aP q1.z ⟨v.at_.z,0⟩).b.den 62832]) from ?_) v3 (.c6 (show Ref (.agg [.rq (((bQ (aC y) ⟨⟨(aP q1.x ⟨v.at_.x,0⟩).a,(aP q1.x ⟨v.at_.x,0⟩).b⟩,⟨(aP q1.z ⟨v.at_.z,0⟩).a,(aP q1.z ⟨v.at_.z,0⟩).b⟩⟩ ⟨r2.x.a,r2.x.b⟩ ⟨r2.z.a,r2.z.b⟩).x).a) (((bQ (aC y) ⟨⟨(aP q1.x ⟨v.at_.x,0⟩).a,(aP q1.x ⟨v.at_.x,0⟩).b⟩,⟨(aP q1.z ⟨v.at_.z,0⟩).a,(aP q1.z ⟨v.at_.z,0⟩).b⟩⟩ ⟨r2.x.a,r2.x.b⟩ ⟨r2.z.a,r2.z.b⟩).x).a.den) (max 15300 64+max 15300 64+max 15300 64+max 15300 64+max 62832 64+max 62832 64+max 62832 64+max 62832 64+2*max 300 64+3),.rq (((bQ (aC y) ⟨⟨(aP q1.x ⟨v.at_.x,0⟩).a,(aP q1.x ⟨v.at_.x,0⟩).b⟩,⟨(aP q1.z ⟨v.at_.z,0⟩).a,(aP q1.z ⟨v.at_.z,0⟩).b⟩⟩ ⟨r2.x.a,r2.x.b⟩ ⟨r2.z.a,r2.z.b⟩).x).b) (((bQ (aC y) ⟨⟨(aP q1.x ⟨v.at_.x,0⟩).a,(aP q1.x ⟨v.at_.x,0⟩).b⟩,⟨(aP q1.z ⟨v.at_.z,0⟩).a,(aP q1.z ⟨v.at_.z,0⟩).b⟩⟩ ⟨r2.x.a,r2.x.b⟩ ⟨r2.z.a,r2.z.b⟩).x).b.den) (max 15300 64+max 15300 64+max 15300 64+max 15300 64+max 62832 64+max 62832 64+max 62832 64+max 62832 64+2*max 300 64+3),.rq (((bQ (aC y) ⟨⟨(aP q1.x ⟨v.at_.x,0⟩).a,(aP q1.x ⟨v.at_.x,0⟩).b⟩,⟨(aP q1.z ⟨v.at_.z,0⟩).a,(aP q1.z ⟨v.at_.z,0⟩).b⟩⟩ ⟨r2.x.a,r2.x.b⟩ ⟨r2.z.a,r2.z.b⟩).z).a) (((bQ (aC y) ⟨⟨(aP q1.x ⟨v.at_.x,0⟩).a,(aP q1.x ⟨v.at_.x,0⟩).b⟩,⟨(aP q1.z ⟨v.at_.z,0⟩).a,(aP q1.z ⟨v.at_.z,0⟩).b⟩⟩ ⟨r2.x.a,r2.x.b⟩ ⟨r2.z.a,r2.z.b⟩).z).a.den) (max 15300 64+max 15300 64+max 15300 64+max 15300 64+max 62832 64+max 62832 64+max 62832 64+max 62832 64+2*max 300 64+3),.rq (((bQ (aC y) ⟨⟨(aP q1.x ⟨v.at_.x,0⟩).a,(aP q1.x ⟨v.at_.x,0⟩).b⟩,⟨(aP q1.z ⟨v.at_.z,0⟩).a,(aP q1.z ⟨v.at_.z,0⟩).b⟩⟩ ⟨r2.x.a,r2.x.b⟩ ⟨r2.z.a,r2.z.b⟩).z).b) (((bQ (aC y) ⟨⟨(aP q1.x ⟨v.at_.x,0⟩).a,(aP q1.x ⟨v.at_.x,0⟩).b⟩,⟨(aP q1.z ⟨v.at_.z,0⟩).a,(aP q1.z ⟨v.at_.z,0⟩).b⟩⟩ ⟨r2.x.a,r2.x.b⟩ ⟨r2.z.a,r2.z.b⟩).z).b.den) (max 15300 64+max 15300 64+max 15300 64+max 15300 64+max 62832 64+max 62832 64+max 62832 64+max 62832 64+2*max 300 64+3)]) (.agg [.rq q2.x.a q2.x.a.den 313131,.rq q2.x.b q2.x.b.den 313131,.rq q2.z.a q2.z.a.den 313131,.rq q2.z.b q2.z.b.den 313131]) from ?_) (dc (8*(max 15300 64+max 15300 64+max 15300 64+max 15300 64+max 62832 64+max 62832 64+max 62832 64+max 62832 64+2*max 300 64+3)+9000<=LIM)) (show Ref (.agg [.rq (((bQ (aC y) ⟨⟨q2.x.a,q2.x.b⟩,⟨q2.z.a,q2.z.b⟩⟩ ⟨f.c,0⟩ ⟨f.s,0⟩).x).a) (((bQ (aC y) ⟨⟨q2.x.a,q2.x.b⟩,⟨q2.z.a,q2.z.b⟩⟩ ⟨f.c,0⟩ ⟨f.s,0⟩).x).a.den) (max 9981 64+max 0 64+max 9981 64+max 0 64+max 313131 64+max 313131 64+max 313131 64+max 313131 64+2*max 300 64+3),.rq (((bQ (aC y) ⟨⟨q2.x.a,q2.x.b⟩,⟨q2.z.a,q2.z.b⟩⟩ ⟨f.c,0⟩ ⟨f.s,0⟩).x).b) (((bQ (aC y) ⟨⟨q2.x.a,q2.x.b⟩,⟨q2.z.a,q2.z.b⟩⟩ ⟨f.c,0⟩ ⟨f.s,0⟩).x).b.den) (max 9981 64+max 0 64+max 9981 64+max 0 64+max 313131 64+max 313131 64+max 313131 64+max 313131 64+2*max 300 64+3),.rq (((bQ (aC y) ⟨⟨q2.x.a,q2.x.b⟩,⟨q2.z.a,q2.z.b⟩⟩ ⟨f.c,0⟩ ⟨f.s,0⟩).z).a) (((bQ (aC y) ⟨⟨q2.x.a,q2.x.b⟩,⟨q2.z.a,q2.z.b⟩⟩ ⟨f.c,0⟩ ⟨f.s,0⟩).z).a.den) (max 9981 64+max 0 64+max 9981 64+max 0 64+max 313131 64+max 313131 64+max 313131 64+max 313131 64+2*max 300 64+3),.rq (((bQ (aC y) ⟨⟨q2.x.a,q2.x.b⟩,⟨q2.z.a,q2.z.b⟩⟩ ⟨f.c,0⟩ ⟨f.s,0⟩).z).b) (((bQ (aC y) ⟨⟨q2.x.a,q2.x.b⟩,⟨q2.z.a,q2.z.b⟩⟩ ⟨f.c,0⟩ ⟨f.s,0⟩).z).b.den) (max 9981 64+max 0 64+max 9981 64+max 0 64+max 313131 64+max 313131 64+max 313131 64+max 313131 64+2*max 300 64+3)]) (.agg [.rq q3.x.a q3.x.a.den 1273217,.rq q3.x.b q3.x.b.den 1273217,.rq q3.z.a q3.z.a.den 1273217,.rq q3.z.b q3.z.b.den 1273217]) from ?_) (dc (8*(max 9981 64+max 0 64+max 9981 64+max 0 64+max 313131 64+max 313131 64+max 313131 64+max 313131 64+2*max 300 64+3)+9000<=LIM)) hX h0 (.c6 h1 (show Ref (.agg [.rq (f.at_.x+(f.c*w.at_.x-f.s*w.at_.z)) ((f.at_.x+(f.c*w.at_.x-f.s*w.at_.z)).den) (max 19961 64+max 300 64+max 300 64+max 9981 64+max 9981 64+1+1),.rq (f.at_.z+(f.s*w.at_.x+f.c*w.at_.z)) ((f.at_.z+(f.s*w.at_.x+f.c*w.at_.z)).den) (max 19961 64+max 300 64+max 300 64+max 9981 64+max 9981 64+1+1)]) (.agg (iK 40525 o)) from ?_) (rfl:f.at_.x.den=f.at_.x.den) (rfl:f.at_.z.den=f.at_.z.den) (rfl:f.c.den=f.c.den) (rfl:f.s.den=f.s.den) (.c6 (rfl:w.at_.x.den=w.at_.x.den) (rfl:w.at_.z.den=w.at_.z.den) (dc (8*max 300 64+8*max 300 64+8*max 9981 64+8*max 9981 64+8*max 19961 64+8*max 19961 64+2000<=LIM)) (show Ref (.agg [.rq ((aP ⟨q3.x.a,q3.x.b⟩ ⟨o.x,0⟩).a) ((aP ⟨q3.x.a,q3.x.b⟩ ⟨o.x,0⟩).a.den) (max 1273217 64+max 40525 64+1),.rq ((aP ⟨q3.x.a,q3.x.b⟩ ⟨o.x,0⟩).b) ((aP ⟨q3.x.a,q3.x.b⟩ ⟨o.x,0⟩).b.den) (max 1273217 64+max 0 64+1)]) (.agg [.rq (aP q3.x ⟨o.x,0⟩).a (aP q3.x ⟨o.x,0⟩).a.den 1313743,.rq (aP q3.x ⟨o.x,0⟩).b (aP q3.x ⟨o.x,0⟩).b.den 1313743]) from ?_) v2 hn (.a5 v1 (show Ref (.agg [.rq ((aP ⟨q3.z.a,q3.z.b⟩ ⟨o.z,0⟩).a) ((aP ⟨q3.z.a,q3.z.b⟩ ⟨o.z,0⟩).a.den) (max 1273217 64+max 40525 64+1),.rq ((aP ⟨q3.z.a,q3.z.b⟩ ⟨o.z,0⟩).b) ((aP ⟨q3.z.a,q3.z.b⟩ ⟨o.z,0⟩).b.den) (max 1273217 64+max 0 64+1)]) (.agg [.rq (aP q3.z ⟨o.z,0⟩).a (aP q3.z ⟨o.z,0⟩).a.den 1313743,.rq (aP q3.z ⟨o.z,0⟩).b (aP q3.z ⟨o.z,0⟩).b.den 1313743]) from ?_) v2 hn v1)))))) (t:=[.code .ret]) (σ:=slots 149 [(10,.ptr 0 12 0 0),(11,.ptr 1 12 0 0)]) (h:=[some ⟨121,12,false,[[.rq ((bS ⟨(aP q3.x ⟨o.x,0⟩).a,(aP q3.x ⟨o.x,0⟩).b,(aC y)⟩).a) (if (bS ⟨(aP q3.x ⟨o.x,0⟩).a,(aP q3.x ⟨o.x,0⟩).b,(aC y)⟩).d=0 then (bS ⟨(aP q3.x ⟨o.x,0⟩).a,(aP q3.x ⟨o.x,0⟩).b,(aC y)⟩).a.den else (aP q3.x ⟨o.x,0⟩).a.den) (max 1313743 64+2*max 1313743 64+3*max 300 64+80),.rq ((bS ⟨(aP q3.x ⟨o.x,0⟩).a,(aP q3.x ⟨o.x,0⟩).b,(aC y)⟩).b) (if (bS ⟨(aP q3.x ⟨o.x,0⟩).a,(aP q3.x ⟨o.x,0⟩).b,(aC y)⟩).d=0 then 0 else (bS ⟨(aP q3.x ⟨o.x,0⟩).a,(aP q3.x ⟨o.x,0⟩).b,(aC y)⟩).b.den) (max 1313743 64+2*max 1313743 64+3*max 300 64+80),.rq ((bS ⟨(aP q3.x ⟨o.x,0⟩).a,(aP q3.x ⟨o.x,0⟩).b,(aC y)⟩).d) (if (bS ⟨(aP q3.x ⟨o.x,0⟩).a,(aP q3.x ⟨o.x,0⟩).b,(aC y)⟩).d=0 then 0 else (bS ⟨(aP q3.x ⟨o.x,0⟩).a,(aP q3.x ⟨o.x,0⟩).b,(aC y)⟩).d.den) (max 1313743 64+2*max 1313743 64+3*max 300 64+80)]],none⟩,some ⟨121,12,false,[[.rq ((bS ⟨(aP q3.z ⟨o.z,0⟩).a,(aP q3.z ⟨o.z,0⟩).b,(aC y)⟩).a) (if (bS ⟨(aP q3.z ⟨o.z,0⟩).a,(aP q3.z ⟨o.z,0⟩).b,(aC y)⟩).d=0 then (bS ⟨(aP q3.z ⟨o.z,0⟩).a,(aP q3.z ⟨o.z,0⟩).b,(aC y)⟩).a.den else (aP q3.z ⟨o.z,0⟩).a.den) (max 1313743 64+2*max 1313743 64+3*max 300 64+80),.rq ((bS ⟨(aP q3.z ⟨o.z,0⟩).a,(aP q3.z ⟨o.z,0⟩).b,(aC y)⟩).b) (if (bS ⟨(aP q3.z ⟨o.z,0⟩).a,(aP q3.z ⟨o.z,0⟩).b,(aC y)⟩).d=0 then 0 else (bS ⟨(aP q3.z ⟨o.z,0⟩).a,(aP q3.z ⟨o.z,0⟩).b,(aC y)⟩).b.den) (max 1313743 64+2*max 1313743 64+3*max 300 64+80),.rq ((bS ⟨(aP q3.z ⟨o.z,0⟩).a,(aP q3.z ⟨o.z,0⟩).b,(aC y)⟩).d) (if (bS ⟨(aP q3.z ⟨o.z,0⟩).a,(aP q3.z ⟨o.z,0⟩).b,(aC y)⟩).d=0 then 0 else (bS ⟨(aP q3.z ⟨o.z,0⟩).a,(aP q3.z ⟨o.z,0⟩).b,(aC y)⟩).d.den) (max 1313743 64+2*max 1313743 64+3*max 300 64+80)]],none⟩]) ?_
 · rw[hr1];exact Ref.agg ((RefC.cons (RefC.rq_le (by decide)) (RefC.cons (RefC.rq_le (by decide)) (RefC.cons (RefC.rq_le (by decide)) (RefC.rq_le (by decide))))))
 · rw[hq1];exact Ref.agg ((RefC.cons (RefC.rq_le (by decide)) (RefC.cons (RefC.rq_le (by decide)) (RefC.cons (RefC.rq_le (by decide)) (RefC.rq_le (by decide))))))
 · rw[hr2];exact Ref.agg ((RefC.cons (RefC.rq_le (by decide)) (RefC.cons (RefC.rq_le (by decide)) (RefC.cons (RefC.rq_le (by decide)) (RefC.rq_le (by decide))))))
 · exact Ref.agg ((RefC.cons (RefC.rq_le (by decide)) (RefC.rq_le (by decide))))
 · exact Ref.agg ((RefC.cons (RefC.rq_le (by decide)) (RefC.rq_le (by decide))))
 · rw[hq2];exact Ref.agg ((RefC.cons (RefC.rq_le (by decide)) (RefC.cons (RefC.rq_le (by decide)) (RefC.cons (RefC.rq_le (by decide)) (RefC.rq_le (by decide))))))
 · rw[hq3];exact Ref.agg ((RefC.cons (RefC.rq_le (by decide)) (RefC.cons (RefC.rq_le (by decide)) (RefC.cons (RefC.rq_le (by decide)) (RefC.rq_le (by decide))))))
 · rw[ho];exact Ref.agg ((RefC.cons (RefC.rq_le (by decide)) (RefC.rq_le (by decide))))
 · exact Ref.agg ((RefC.cons (RefC.rq_le (by decide)) (RefC.rq_le (by decide))))
 · exact Ref.agg ((RefC.cons (RefC.rq_le (by decide)) (RefC.rq_le (by decide))))
 refine gE [.agg [.rq (bS ⟨(aP q3.x ⟨o.x,0⟩).a,(aP q3.x ⟨o.x,0⟩).b,(aC y)⟩).a (if (bS ⟨(aP q3.x ⟨o.x,0⟩).a,(aP q3.x ⟨o.x,0⟩).b,(aC y)⟩).d=0 then (bS ⟨(aP q3.x ⟨o.x,0⟩).a,(aP q3.x ⟨o.x,0⟩).b,(aC y)⟩).a.den else (aP q3.x ⟨o.x,0⟩).a.den) (max 1313743 64+2*max 1313743 64+3*max 300 64+80),.rq (bS ⟨(aP q3.x ⟨o.x,0⟩).a,(aP q3.x ⟨o.x,0⟩).b,(aC y)⟩).b (if (bS ⟨(aP q3.x ⟨o.x,0⟩).a,(aP q3.x ⟨o.x,0⟩).b,(aC y)⟩).d=0 then 0 else (bS ⟨(aP q3.x ⟨o.x,0⟩).a,(aP q3.x ⟨o.x,0⟩).b,(aC y)⟩).b.den) (max 1313743 64+2*max 1313743 64+3*max 300 64+80),.rq (bS ⟨(aP q3.x ⟨o.x,0⟩).a,(aP q3.x ⟨o.x,0⟩).b,(aC y)⟩).d (if (bS ⟨(aP q3.x ⟨o.x,0⟩).a,(aP q3.x ⟨o.x,0⟩).b,(aC y)⟩).d=0 then 0 else (bS ⟨(aP q3.x ⟨o.x,0⟩).a,(aP q3.x ⟨o.x,0⟩).b,(aC y)⟩).d.den) (max 1313743 64+2*max 1313743 64+3*max 300 64+80)],.agg [.rq (bS ⟨(aP q3.z ⟨o.z,0⟩).a,(aP q3.z ⟨o.z,0⟩).b,(aC y)⟩).a (if (bS ⟨(aP q3.z ⟨o.z,0⟩).a,(aP q3.z ⟨o.z,0⟩).b,(aC y)⟩).d=0 then (bS ⟨(aP q3.z ⟨o.z,0⟩).a,(aP q3.z ⟨o.z,0⟩).b,(aC y)⟩).a.den else (aP q3.z ⟨o.z,0⟩).a.den) (max 1313743 64+2*max 1313743 64+3*max 300 64+80),.rq (bS ⟨(aP q3.z ⟨o.z,0⟩).a,(aP q3.z ⟨o.z,0⟩).b,(aC y)⟩).b (if (bS ⟨(aP q3.z ⟨o.z,0⟩).a,(aP q3.z ⟨o.z,0⟩).b,(aC y)⟩).d=0 then 0 else (bS ⟨(aP q3.z ⟨o.z,0⟩).a,(aP q3.z ⟨o.z,0⟩).b,(aC y)⟩).b.den) (max 1313743 64+2*max 1313743 64+3*max 300 64+80),.rq (bS ⟨(aP q3.z ⟨o.z,0⟩).a,(aP q3.z ⟨o.z,0⟩).b,(aC y)⟩).d (if (bS ⟨(aP q3.z ⟨o.z,0⟩).a,(aP q3.z ⟨o.z,0⟩).b,(aC y)⟩).d=0 then 0 else (bS ⟨(aP q3.z ⟨o.z,0⟩).a,(aP q3.z ⟨o.z,0⟩).b,(aC y)⟩).d.den) (max 1313743 64+2*max 1313743 64+3*max 300 64+80)]] ?_
 exact Ref.tup2 (Ref.agg (RefC.cons (RefC.rq_le (by decide)) (RefC.cons (RefC.rq_le (by decide)) (RefC.rq_le (by decide))))) (Ref.agg (RefC.cons (RefC.rq_le (by decide)) (RefC.cons (RefC.rq_le (by decide)) (RefC.rq_le (by decide))))) rfl rfl rfl rfl
def UX:KF
 | [.agg [.list 34 XB,.list 22 XS,.list 22 XT,.list 17 XD,.list 6 XF],.agg [.rq ax d1 jb,.rq az d2 A2,.rq tu d3 A3,.list 4 J],.int .i64 b,.agg [.rq px d X,.rq pz e Z],.agg [.rq a1 e1 U1,.rq a2 e2 U2,.rq a3 e3 U3,.rq b1 e4 U4,.rq b2 e5 U5,.rq b3 e6 U6,.bool bw]]=>some (.tup [xX (cM (iS (mR XB) ⟨⟨ax,az⟩,tu,J.map dO⟩ b) (jS (mR XB) b).at_ ⟨px,pz⟩ ⟨⟨a1,a2,a3⟩,⟨b1,b2,b3⟩,bw⟩).x (aC ⟨⟨a1,a2,a3⟩,⟨b1,b2,b3⟩,bw⟩),xX (cM (iS (mR XB) ⟨⟨ax,az⟩,tu,J.map dO⟩ b) (jS (mR XB) b).at_ ⟨px,pz⟩ ⟨⟨a1,a2,a3⟩,⟨b1,b2,b3⟩,bw⟩).z (aC ⟨⟨a1,a2,a3⟩,⟨b1,b2,b3⟩,bw⟩)],[XB=(XB.map tD).map (aK 300),d1=ax.den,d2=az.den,d3=tu.den,A2=jb,A3=jb,J=(J.map dO).map (cU jb),jb=300,Cj jb (mR XB) ⟨⟨ax,az⟩,tu,J.map dO⟩,(mR XB).tree,0<XB.length,XB.length<=8,J.length+1=XB.length,d=px.den,e=pz.den,X=300,Z=300,0<=b,b<((XB.length:Nat):Int),0<=(jS (mR XB) b).par,(jS (mR XB) b).par<((XB.length:Nat):Int),0<=(nZ (mR XB) b).par,(nZ (mR XB) b).par<((XB.length:Nat):Int),0<=a3,0<=b3,e1=a1.den,e2=a2.den,e3=a3.den,e4=b1.den,e5=b2.den,e6=b3.den,U1=300,U2=300,U3=300,U4=300,U5=300,U6=300])
 | _=>none
theorem Vy:bO 48 UX:=fun args r ob h ho=>by
 unfold UX at h
 split at h
 · rename_i XB XS XT XD XF ax d1 jb az d2 A2 tu d3 A3 J b px d X pz e Z a1 e1 U1 a2 e2 U2 a3 e3 U3 b1 e4 U4 b2 e5 U5 b3 e6 U6 bw
   cases h;have o1:XB=(XB.map tD).map (aK 300):=ho _ (by simp);have o2:d1=ax.den:=ho _ (by simp);have o3:d2=az.den:=ho _ (by simp);have o4:d3=tu.den:=ho _ (by simp);have o5:A2=jb:=ho _ (by simp);have o6:A3=jb:=ho _ (by simp);have o7:J=(J.map dO).map (cU jb):=ho _ (by simp);have o8:jb=300:=ho _ (by simp);have o9:Cj jb (mR XB) ⟨⟨ax,az⟩,tu,J.map dO⟩:=ho _ (by simp);have o10:(mR XB).tree:=ho _ (by simp);have o11:0<XB.length:=ho _ (by simp);have o12:XB.length<=8:=ho _ (by simp);have o13:J.length+1=XB.length:=ho _ (by simp);have o14:d=px.den:=ho _ (by simp);have o15:e=pz.den:=ho _ (by simp);have o16:X=300:=ho _ (by simp);have o17:Z=300:=ho _ (by simp);have o18:0<=b:=ho _ (by simp);have o19:b<((XB.length:Nat):Int):=ho _ (by simp);have o20:0<=(jS (mR XB) b).par:=ho _ (by simp);have o21:(jS (mR XB) b).par<((XB.length:Nat):Int):=ho _ (by simp);have o22:0<=(nZ (mR XB) b).par:=ho _ (by simp);have o23:(nZ (mR XB) b).par<((XB.length:Nat):Int):=ho _ (by simp);have o24:0<=a3:=ho _ (by simp);have o25:0<=b3:=ho _ (by simp);have o26:e1=a1.den:=ho _ (by simp);have o27:e2=a2.den:=ho _ (by simp);have o28:e3=a3.den:=ho _ (by simp);have o29:e4=b1.den:=ho _ (by simp);have o30:e5=b2.den:=ho _ (by simp);have o31:e6=b3.den:=ho _ (by simp);have o32:U1=300:=ho _ (by simp)
   have o33:U2=300:=ho _ (by simp);have o34:U3=300:=ho _ (by simp);have o35:U4=300:=ho _ (by simp);have o36:U5=300:=ho _ (by simp);have o37:U6=300:=ho _ (by simp);clear ho;subst o2;subst o3;subst o4;subst o5;subst o6;subst o8;subst o14;subst o15;subst o16;subst o17;subst o26;subst o27;subst o28;subst o29;subst o30;subst o31;subst o32;subst o33;subst o34;subst o35;subst o36;subst o37;have q9:=o9;have q10:=o10;obtain⟨m,hm⟩:∃ m,m=mR XB:=⟨_,rfl⟩;obtain⟨p,hp⟩:∃ p:PoseD,p=⟨⟨ax,az⟩,tu,J.map dO⟩:=⟨_,rfl⟩;obtain⟨y,hy⟩:∃ y:BendD,y=⟨⟨a1,a2,a3⟩,⟨b1,b2,b3⟩,bw⟩:=⟨_,rfl⟩;have hb:XB.map tD=m.bodies:=by rw[hm];rfl
   have hl:XB.length=m.bodies.length:=by rw[<- hb];simp
   have ka:0<=y.a.d:=by rw[hy];exact o24
   have kb:0<=y.b.d:=by rw[hy];exact o25
   rw[<- hm] at o9 o10 o20 o21 o22 o23 ⊢;rw[<- hp] at o9 ⊢;rw[<- hy];refine af Tryz.f48 fun S w0=> ?_
   have ent:kY [.agg [.list 34 XB,.list 22 XS,.list 22 XT,.list 17 XD,.list 6 XF],.agg [.rq ax ax.den 300,.rq az az.den 300,.rq tu tu.den 300,.list 4 J],.i6 b,.agg [.rq px px.den 300,.rq pz pz.den 300],.agg [.rq a1 a1.den 300,.rq a2 a2.den 300,.rq a3 a3.den 300,.rq b1 b1.den 300,.rq b2 b2.den 300,.rq b3 b3.den 300,.bool bw]] Tryz.f48.ntmps=⟨slots 149 [(0,.agg [.list 34 XB,.list 22 XS,.list 22 XT,.list 17 XD,.list 6 XF]),(1,.agg [.rq ax ax.den 300,.rq az az.den 300,.rq tu tu.den 300,.list 4 J]),(2,.i6 b),(3,.agg [.rq px px.den 300,.rq pz pz.den 300]),(4,.agg [.rq y.a.a y.a.a.den 300,.rq y.a.b y.a.b.den 300,.rq y.a.d y.a.d.den 300,.rq y.b.a y.b.a.den 300,.rq y.b.b y.b.b.den 300,.rq y.b.d y.b.d.den 300,.bool y.w])],[]⟩:=by subst hy;kernel_rfl
   rw[ent];clear ent;obtain⟨v,hv⟩:∃ v,v=jS m b:=⟨_,rfl⟩;obtain⟨u,hu⟩:∃ u,u=nZ m b:=⟨_,rfl⟩;rw[<- hv] at o20 o21 ⊢;rw[<- hu] at o22 o23
   have gB:∀ i:Nat,i<XB.length->XB.getD i []=aK 300 (m.bodies.getD i default):=fun i hi=>by
     rw[<- hb]
     conv=>lhs;rw[o1]
     rw[nG,nG,List.getElem?_map,List.getElem?_eq_getElem (by rw[bM];exact hi)];rfl
   have g1:Ref (.cptr (XB.getD b.toNat []) 0) (.cptr (aK 300 v) 0):=Ref.eq (by rw[gB b.toNat (by omega),hv];rfl);have g2:Ref (.cptr (XB.getD v.par.toNat []) 0) (.cptr (aK 300 u) 0):=Ref.eq (by rw[gB v.par.toNat (by omega),hu,hv];rfl);have g3:Ref (.cptr (((List.range m.bodies.length).map (pM 300 m p)).getD u.par.toNat []) 0) (.cptr (BU (rz 300 u.par.toNat) (fr m p u.par.toNat)) 0):=Ref.eq (by rw[nG,List.getElem?_map,List.getElem?_range (by omega)];rfl);have hz:rz 300 u.par.toNat<=SZ 300:=rz_le (by omega);have hS:SZ 300=9980:=rfl;have rl:((List.range m.bodies.length).map (pM 300 m p)).length=m.bodies.length:=by simp
   have g4:u.par<((((List.range m.bodies.length).map (pM 300 m p)).length:Nat):Int):=by rw[rl];omega
   have g5:Ref (AV.list 16 ((List.range XB.length).map (pM 300 (mR XB) (⟨⟨ax,az⟩,tu,J.map dO⟩:PoseD)))) (.list 16 ((List.range m.bodies.length).map (pM 300 m p))):=Ref.eq (by rw[hl,hm,hp]);have hF:iS m p b=⟨mJ (fr m p u.par.toNat) u.at_,(fr m p u.par.toNat).c,(fr m p u.par.toNat).s⟩:=by rw[hu];rfl
   rw[hF];have v0:300<=100000:=by omega
   by_cases k1:y.a.d=0
   · have e1:aC y=y.b.d:=if_pos k1
     have hF0:0<=aC y:=by rw[e1];exact kb
     have h1:Int.sign y.a.d.num=0:=cH.1.2 k1;have nA:(aF y.a).b=0:=if_pos k1
     by_cases k2:y.b.d=0
     · have h2:Int.sign y.b.d.num=0:=cH.1.2 k2
       have nB:(aF y.b).b=0:=if_pos k2;refine gR sB (some 13) [5,8,10,11,12,14,15,16,17,18] [0,2,4,5,7,8,10,11,15] [(24,.cptr (aK 300 v) 0),(29,.list 16 ((List.range m.bodies.length).map (pM 300 m p))),(34,.cptr (aK 300 u) 0),(37,.cptr [.rq (fr m p u.par.toNat).at_.x (fr m p u.par.toNat).at_.x.den (2*(rz 300 u.par.toNat)+1),.rq (fr m p u.par.toNat).at_.z (fr m p u.par.toNat).at_.z.den (2*(rz 300 u.par.toNat)+1),.rq (fr m p u.par.toNat).c (fr m p u.par.toNat).c.den ((rz 300 u.par.toNat)+1),.rq (fr m p u.par.toNat).s (fr m p u.par.toNat).s.den ((rz 300 u.par.toNat)+1)] 0),(47,tt),(70,tt),(77,tt),(83,.cptr (aK 300 v) 0)] (.c6 g1 o18 o19 g5 o1 (rfl:(⟨⟨ax,az⟩,tu,J.map dO⟩:PoseD).at_.x.den=(⟨⟨ax,az⟩,tu,J.map dO⟩:PoseD).at_.x.den) (.c6 (rfl:(⟨⟨ax,az⟩,tu,J.map dO⟩:PoseD).at_.z.den=(⟨⟨ax,az⟩,tu,J.map dO⟩:PoseD).at_.z.den) (rfl:(⟨⟨ax,az⟩,tu,J.map dO⟩:PoseD).turn.den=(⟨⟨ax,az⟩,tu,J.map dO⟩:PoseD).turn.den) (rfl:300=300) (rfl:300=300) o7 v0 (.c6 q9 q10 o11 o12 o13 g2 (.c6 o20 o21 g3 o22 g4 (iT h1) (.a5 (iT h1) (iT h2) g1 o18 o19))))) (t:=BZ) (σ:=slots 149 [(5,.ptr 0 5 0 0),(8,.ptr 1 8 0 0),(10,.ptr 2 12 0 0),(11,.ptr 3 12 0 0),(12,.i6 v.par),(14,.ptr 4 16 0 0),(15,.ptr 5 4 0 0),(16,.ptr 6 8 0 0),(17,.ptr 7 8 0 0),(18,.ptr 8 16 0 0)]) (h:=[some ⟨48,5,false,[[.list 34 XB,.list 22 XS,.list 22 XT,.list 17 XD,.list 6 XF]],none⟩,some ⟨68,8,false,[(iK 300 (⟨px,pz⟩:PtD))],none⟩,some ⟨121,12,false,[[.rq 0 0 0,.rq 0 0 0,.rq 0 0 0]],none⟩,some ⟨121,12,false,[[.rq 0 0 0,.rq 0 0 0,.rq 0 0 0]],none⟩,some ⟨179,16,false,[[.rq (fr m p u.par.toNat).at_.x (fr m p u.par.toNat).at_.x.den (2*(rz 300 u.par.toNat)+1),.rq (fr m p u.par.toNat).at_.z (fr m p u.par.toNat).at_.z.den (2*(rz 300 u.par.toNat)+1),.rq (fr m p u.par.toNat).c (fr m p u.par.toNat).c.den ((rz 300 u.par.toNat)+1),.rq (fr m p u.par.toNat).s (fr m p u.par.toNat).s.den ((rz 300 u.par.toNat)+1)]],none⟩,some ⟨293,4,false,[[.rq y.b.d y.b.d.den 300]],none⟩,some ⟨295,8,false,[[.rq y.a.a y.a.a.den 300,.rq 0 0 0]],none⟩,some ⟨295,8,false,[[.rq y.b.a y.b.a.den 300,.rq 0 0 0]],none⟩,some ⟨297,16,false,[[.rq v.at_.x v.at_.x.den 300,.rq 0 0 0,.rq v.at_.z v.at_.z.den 300,.rq 0 0 0]],none⟩]) ?_
       refine Good.weakB (b:=⟨179,16,false,[BU (rz 300 u.par.toNat) (fr m p u.par.toNat)],none⟩) (el':=[.rq (fr m p u.par.toNat).at_.x (fr m p u.par.toNat).at_.x.den 19961,.rq (fr m p u.par.toNat).at_.z (fr m p u.par.toNat).at_.z.den 19961,.rq (fr m p u.par.toNat).c (fr m p u.par.toNat).c.den 9981,.rq (fr m p u.par.toNat).s (fr m p u.par.toNat).s.den 9981]) 4 0 (by rfl) (by rfl) (RefC.cons (RefC.rq_le (by omega)) (RefC.cons (RefC.rq_le (by omega)) (RefC.cons (RefC.rq_le (by omega)) (RefC.rq_le (by omega))))) ?_;refine Good.weakB (b:=⟨293,4,false,[[.rq y.b.d y.b.d.den 300]],none⟩) (el':=[.rq (aC y) (aC y).den 300]) 5 0 (by rfl) (by rfl) (RefC.rq_e e1.symm (by decide)) ?_;refine Good.weakB (b:=⟨295,8,false,[[.rq y.a.a y.a.a.den 300,.rq 0 0 0]],none⟩) (el':=[.rq (aF y.a).a (aF y.a).a.den 300,.rq (aF y.a).b 0 300]) 6 0 (by rfl) (by rfl) (RefC.cons (RefC.rq_le (by decide)) (RefC.rqz nA (by decide))) ?_;refine Good.weakB (b:=⟨295,8,false,[[.rq y.b.a y.b.a.den 300,.rq 0 0 0]],none⟩) (el':=[.rq (aF y.b).a (aF y.b).a.den 300,.rq (aF y.b).b 0 300]) 7 0 (by rfl) (by rfl) (RefC.cons (RefC.rq_le (by decide)) (RefC.rqz nB (by decide))) ?_;exact AG (XB:=XB) (XS:=XS) (XT:=XT) (XD:=XD) (XF:=XF) (x:=(⟨px,pz⟩:PtD)) (f:=fr m p u.par.toNat) (sd:=0) (td:=0) (v:=v) (w:=u) (y:=y) g2 o20 o21 rfl hF0
     · have h2:¬ Int.sign y.b.d.num=0:=fun e=>k2 (cH.1.1 e)
       have nB:(aF y.b).b=y.b.b:=if_neg k2;refine gR sB (some 13) [5,8,10,11,12,14,15,16,17,18] [0,2,4,5,7,8,10,11,15] [(24,.cptr (aK 300 v) 0),(29,.list 16 ((List.range m.bodies.length).map (pM 300 m p))),(34,.cptr (aK 300 u) 0),(37,.cptr [.rq (fr m p u.par.toNat).at_.x (fr m p u.par.toNat).at_.x.den (2*(rz 300 u.par.toNat)+1),.rq (fr m p u.par.toNat).at_.z (fr m p u.par.toNat).at_.z.den (2*(rz 300 u.par.toNat)+1),.rq (fr m p u.par.toNat).c (fr m p u.par.toNat).c.den ((rz 300 u.par.toNat)+1),.rq (fr m p u.par.toNat).s (fr m p u.par.toNat).s.den ((rz 300 u.par.toNat)+1)] 0),(47,tt),(70,tt),(77,ff),(83,.cptr (aK 300 v) 0)] (.c6 g1 o18 o19 g5 o1 (rfl:(⟨⟨ax,az⟩,tu,J.map dO⟩:PoseD).at_.x.den=(⟨⟨ax,az⟩,tu,J.map dO⟩:PoseD).at_.x.den) (.c6 (rfl:(⟨⟨ax,az⟩,tu,J.map dO⟩:PoseD).at_.z.den=(⟨⟨ax,az⟩,tu,J.map dO⟩:PoseD).at_.z.den) (rfl:(⟨⟨ax,az⟩,tu,J.map dO⟩:PoseD).turn.den=(⟨⟨ax,az⟩,tu,J.map dO⟩:PoseD).turn.den) (rfl:300=300) (rfl:300=300) o7 v0 (.c6 q9 q10 o11 o12 o13 g2 (.c6 o20 o21 g3 o22 g4 (iT h1) (.a5 (iT h1) (iF h2) g1 o18 o19))))) (t:=BZ) (σ:=slots 149 [(5,.ptr 0 5 0 0),(8,.ptr 1 8 0 0),(10,.ptr 2 12 0 0),(11,.ptr 3 12 0 0),(12,.i6 v.par),(14,.ptr 4 16 0 0),(15,.ptr 5 4 0 0),(16,.ptr 6 8 0 0),(17,.ptr 7 8 0 0),(18,.ptr 8 16 0 0)]) (h:=[some ⟨48,5,false,[[.list 34 XB,.list 22 XS,.list 22 XT,.list 17 XD,.list 6 XF]],none⟩,some ⟨68,8,false,[(iK 300 (⟨px,pz⟩:PtD))],none⟩,some ⟨121,12,false,[[.rq 0 0 0,.rq 0 0 0,.rq 0 0 0]],none⟩,some ⟨121,12,false,[[.rq 0 0 0,.rq 0 0 0,.rq 0 0 0]],none⟩,some ⟨179,16,false,[[.rq (fr m p u.par.toNat).at_.x (fr m p u.par.toNat).at_.x.den (2*(rz 300 u.par.toNat)+1),.rq (fr m p u.par.toNat).at_.z (fr m p u.par.toNat).at_.z.den (2*(rz 300 u.par.toNat)+1),.rq (fr m p u.par.toNat).c (fr m p u.par.toNat).c.den ((rz 300 u.par.toNat)+1),.rq (fr m p u.par.toNat).s (fr m p u.par.toNat).s.den ((rz 300 u.par.toNat)+1)]],none⟩,some ⟨293,4,false,[[.rq y.b.d y.b.d.den 300]],none⟩,some ⟨295,8,false,[[.rq y.a.a y.a.a.den 300,.rq 0 0 0]],none⟩,some ⟨295,8,false,[[.rq y.b.a y.b.a.den 300,.rq y.b.b y.b.b.den 300]],none⟩,some ⟨297,16,false,[[.rq v.at_.x v.at_.x.den 300,.rq 0 0 0,.rq v.at_.z v.at_.z.den 300,.rq 0 0 0]],none⟩]) ?_
       refine Good.weakB (b:=⟨179,16,false,[BU (rz 300 u.par.toNat) (fr m p u.par.toNat)],none⟩) (el':=[.rq (fr m p u.par.toNat).at_.x (fr m p u.par.toNat).at_.x.den 19961,.rq (fr m p u.par.toNat).at_.z (fr m p u.par.toNat).at_.z.den 19961,.rq (fr m p u.par.toNat).c (fr m p u.par.toNat).c.den 9981,.rq (fr m p u.par.toNat).s (fr m p u.par.toNat).s.den 9981]) 4 0 (by rfl) (by rfl) (RefC.cons (RefC.rq_le (by omega)) (RefC.cons (RefC.rq_le (by omega)) (RefC.cons (RefC.rq_le (by omega)) (RefC.rq_le (by omega))))) ?_;refine Good.weakB (b:=⟨293,4,false,[[.rq y.b.d y.b.d.den 300]],none⟩) (el':=[.rq (aC y) (aC y).den 300]) 5 0 (by rfl) (by rfl) (RefC.rq_e e1.symm (by decide)) ?_;refine Good.weakB (b:=⟨295,8,false,[[.rq y.a.a y.a.a.den 300,.rq 0 0 0]],none⟩) (el':=[.rq (aF y.a).a (aF y.a).a.den 300,.rq (aF y.a).b 0 300]) 6 0 (by rfl) (by rfl) (RefC.cons (RefC.rq_le (by decide)) (RefC.rqz nA (by decide))) ?_;refine Good.weakB (b:=⟨295,8,false,[[.rq y.b.a y.b.a.den 300,.rq y.b.b y.b.b.den 300]],none⟩) (el':=[.rq (aF y.b).a (aF y.b).a.den 300,.rq (aF y.b).b y.b.b.den 300]) 7 0 (by rfl) (by rfl) (RefC.cons (RefC.rq_le (by decide)) (RefC.rqz nB (by decide))) ?_;exact AG (XB:=XB) (XS:=XS) (XT:=XT) (XD:=XD) (XF:=XF) (x:=(⟨px,pz⟩:PtD)) (f:=fr m p u.par.toNat) (sd:=0) (td:=y.b.b.den) (v:=v) (w:=u) (y:=y) g2 o20 o21 rfl hF0
   · have e1:aC y=y.a.d:=if_neg k1
     have hF0:0<=aC y:=by rw[e1];exact ka
     have h1:¬ Int.sign y.a.d.num=0:=fun e=>k1 (cH.1.1 e)
     have nA:(aF y.a).b=y.a.b:=if_neg k1
     by_cases k2:y.b.d=0
     · have h2:Int.sign y.b.d.num=0:=cH.1.2 k2
       have nB:(aF y.b).b=0:=if_pos k2;refine gR sB (some 13) [5,8,10,11,12,14,15,16,17,18] [0,2,4,5,7,8,10,11,15] [(24,.cptr (aK 300 v) 0),(29,.list 16 ((List.range m.bodies.length).map (pM 300 m p))),(34,.cptr (aK 300 u) 0),(37,.cptr [.rq (fr m p u.par.toNat).at_.x (fr m p u.par.toNat).at_.x.den (2*(rz 300 u.par.toNat)+1),.rq (fr m p u.par.toNat).at_.z (fr m p u.par.toNat).at_.z.den (2*(rz 300 u.par.toNat)+1),.rq (fr m p u.par.toNat).c (fr m p u.par.toNat).c.den ((rz 300 u.par.toNat)+1),.rq (fr m p u.par.toNat).s (fr m p u.par.toNat).s.den ((rz 300 u.par.toNat)+1)] 0),(47,ff),(70,ff),(77,tt),(83,.cptr (aK 300 v) 0)] (.c6 g1 o18 o19 g5 o1 (rfl:(⟨⟨ax,az⟩,tu,J.map dO⟩:PoseD).at_.x.den=(⟨⟨ax,az⟩,tu,J.map dO⟩:PoseD).at_.x.den) (.c6 (rfl:(⟨⟨ax,az⟩,tu,J.map dO⟩:PoseD).at_.z.den=(⟨⟨ax,az⟩,tu,J.map dO⟩:PoseD).at_.z.den) (rfl:(⟨⟨ax,az⟩,tu,J.map dO⟩:PoseD).turn.den=(⟨⟨ax,az⟩,tu,J.map dO⟩:PoseD).turn.den) (rfl:300=300) (rfl:300=300) o7 v0 (.c6 q9 q10 o11 o12 o13 g2 (.c6 o20 o21 g3 o22 g4 (iF h1) (.a5 (iF h1) (iT h2) g1 o18 o19))))) (t:=BZ) (σ:=slots 149 [(5,.ptr 0 5 0 0),(8,.ptr 1 8 0 0),(10,.ptr 2 12 0 0),(11,.ptr 3 12 0 0),(12,.i6 v.par),(14,.ptr 4 16 0 0),(15,.ptr 5 4 0 0),(16,.ptr 6 8 0 0),(17,.ptr 7 8 0 0),(18,.ptr 8 16 0 0)]) (h:=[some ⟨48,5,false,[[.list 34 XB,.list 22 XS,.list 22 XT,.list 17 XD,.list 6 XF]],none⟩,some ⟨68,8,false,[(iK 300 (⟨px,pz⟩:PtD))],none⟩,some ⟨121,12,false,[[.rq 0 0 0,.rq 0 0 0,.rq 0 0 0]],none⟩,some ⟨121,12,false,[[.rq 0 0 0,.rq 0 0 0,.rq 0 0 0]],none⟩,some ⟨179,16,false,[[.rq (fr m p u.par.toNat).at_.x (fr m p u.par.toNat).at_.x.den (2*(rz 300 u.par.toNat)+1),.rq (fr m p u.par.toNat).at_.z (fr m p u.par.toNat).at_.z.den (2*(rz 300 u.par.toNat)+1),.rq (fr m p u.par.toNat).c (fr m p u.par.toNat).c.den ((rz 300 u.par.toNat)+1),.rq (fr m p u.par.toNat).s (fr m p u.par.toNat).s.den ((rz 300 u.par.toNat)+1)]],none⟩,some ⟨293,4,false,[[.rq y.a.d y.a.d.den 300]],none⟩,some ⟨295,8,false,[[.rq y.a.a y.a.a.den 300,.rq y.a.b y.a.b.den 300]],none⟩,some ⟨295,8,false,[[.rq y.b.a y.b.a.den 300,.rq 0 0 0]],none⟩,some ⟨297,16,false,[[.rq v.at_.x v.at_.x.den 300,.rq 0 0 0,.rq v.at_.z v.at_.z.den 300,.rq 0 0 0]],none⟩]) ?_
       refine Good.weakB (b:=⟨179,16,false,[BU (rz 300 u.par.toNat) (fr m p u.par.toNat)],none⟩) (el':=[.rq (fr m p u.par.toNat).at_.x (fr m p u.par.toNat).at_.x.den 19961,.rq (fr m p u.par.toNat).at_.z (fr m p u.par.toNat).at_.z.den 19961,.rq (fr m p u.par.toNat).c (fr m p u.par.toNat).c.den 9981,.rq (fr m p u.par.toNat).s (fr m p u.par.toNat).s.den 9981]) 4 0 (by rfl) (by rfl) (RefC.cons (RefC.rq_le (by omega)) (RefC.cons (RefC.rq_le (by omega)) (RefC.cons (RefC.rq_le (by omega)) (RefC.rq_le (by omega))))) ?_;refine Good.weakB (b:=⟨293,4,false,[[.rq y.a.d y.a.d.den 300]],none⟩) (el':=[.rq (aC y) (aC y).den 300]) 5 0 (by rfl) (by rfl) (RefC.rq_e e1.symm (by decide)) ?_;refine Good.weakB (b:=⟨295,8,false,[[.rq y.a.a y.a.a.den 300,.rq y.a.b y.a.b.den 300]],none⟩) (el':=[.rq (aF y.a).a (aF y.a).a.den 300,.rq (aF y.a).b y.a.b.den 300]) 6 0 (by rfl) (by rfl) (RefC.cons (RefC.rq_le (by decide)) (RefC.rqz nA (by decide))) ?_;refine Good.weakB (b:=⟨295,8,false,[[.rq y.b.a y.b.a.den 300,.rq 0 0 0]],none⟩) (el':=[.rq (aF y.b).a (aF y.b).a.den 300,.rq (aF y.b).b 0 300]) 7 0 (by rfl) (by rfl) (RefC.cons (RefC.rq_le (by decide)) (RefC.rqz nB (by decide))) ?_;exact AG (XB:=XB) (XS:=XS) (XT:=XT) (XD:=XD) (XF:=XF) (x:=(⟨px,pz⟩:PtD)) (f:=fr m p u.par.toNat) (sd:=y.a.b.den) (td:=0) (v:=v) (w:=u) (y:=y) g2 o20 o21 rfl hF0
     · have h2:¬ Int.sign y.b.d.num=0:=fun e=>k2 (cH.1.1 e)
       have nB:(aF y.b).b=y.b.b:=if_neg k2;refine gR sB (some 13) [5,8,10,11,12,14,15,16,17,18] [0,2,4,5,7,8,10,11,15] [(24,.cptr (aK 300 v) 0),(29,.list 16 ((List.range m.bodies.length).map (pM 300 m p))),(34,.cptr (aK 300 u) 0),(37,.cptr [.rq (fr m p u.par.toNat).at_.x (fr m p u.par.toNat).at_.x.den (2*(rz 300 u.par.toNat)+1),.rq (fr m p u.par.toNat).at_.z (fr m p u.par.toNat).at_.z.den (2*(rz 300 u.par.toNat)+1),.rq (fr m p u.par.toNat).c (fr m p u.par.toNat).c.den ((rz 300 u.par.toNat)+1),.rq (fr m p u.par.toNat).s (fr m p u.par.toNat).s.den ((rz 300 u.par.toNat)+1)] 0),(47,ff),(70,ff),(77,ff),(83,.cptr (aK 300 v) 0)] (.c6 g1 o18 o19 g5 o1 (rfl:(⟨⟨ax,az⟩,tu,J.map dO⟩:PoseD).at_.x.den=(⟨⟨ax,az⟩,tu,J.map dO⟩:PoseD).at_.x.den) (.c6 (rfl:(⟨⟨ax,az⟩,tu,J.map dO⟩:PoseD).at_.z.den=(⟨⟨ax,az⟩,tu,J.map dO⟩:PoseD).at_.z.den) (rfl:(⟨⟨ax,az⟩,tu,J.map dO⟩:PoseD).turn.den=(⟨⟨ax,az⟩,tu,J.map dO⟩:PoseD).turn.den) (rfl:300=300) (rfl:300=300) o7 v0 (.c6 q9 q10 o11 o12 o13 g2 (.c6 o20 o21 g3 o22 g4 (iF h1) (.a5 (iF h1) (iF h2) g1 o18 o19))))) (t:=BZ) (σ:=slots 149 [(5,.ptr 0 5 0 0),(8,.ptr 1 8 0 0),(10,.ptr 2 12 0 0),(11,.ptr 3 12 0 0),(12,.i6 v.par),(14,.ptr 4 16 0 0),(15,.ptr 5 4 0 0),(16,.ptr 6 8 0 0),(17,.ptr 7 8 0 0),(18,.ptr 8 16 0 0)]) (h:=[some ⟨48,5,false,[[.list 34 XB,.list 22 XS,.list 22 XT,.list 17 XD,.list 6 XF]],none⟩,some ⟨68,8,false,[(iK 300 (⟨px,pz⟩:PtD))],none⟩,some ⟨121,12,false,[[.rq 0 0 0,.rq 0 0 0,.rq 0 0 0]],none⟩,some ⟨121,12,false,[[.rq 0 0 0,.rq 0 0 0,.rq 0 0 0]],none⟩,some ⟨179,16,false,[[.rq (fr m p u.par.toNat).at_.x (fr m p u.par.toNat).at_.x.den (2*(rz 300 u.par.toNat)+1),.rq (fr m p u.par.toNat).at_.z (fr m p u.par.toNat).at_.z.den (2*(rz 300 u.par.toNat)+1),.rq (fr m p u.par.toNat).c (fr m p u.par.toNat).c.den ((rz 300 u.par.toNat)+1),.rq (fr m p u.par.toNat).s (fr m p u.par.toNat).s.den ((rz 300 u.par.toNat)+1)]],none⟩,some ⟨293,4,false,[[.rq y.a.d y.a.d.den 300]],none⟩,some ⟨295,8,false,[[.rq y.a.a y.a.a.den 300,.rq y.a.b y.a.b.den 300]],none⟩,some ⟨295,8,false,[[.rq y.b.a y.b.a.den 300,.rq y.b.b y.b.b.den 300]],none⟩,some ⟨297,16,false,[[.rq v.at_.x v.at_.x.den 300,.rq 0 0 0,.rq v.at_.z v.at_.z.den 300,.rq 0 0 0]],none⟩]) ?_
       refine Good.weakB (b:=⟨179,16,false,[BU (rz 300 u.par.toNat) (fr m p u.par.toNat)],none⟩) (el':=[.rq (fr m p u.par.toNat).at_.x (fr m p u.par.toNat).at_.x.den 19961,.rq (fr m p u.par.toNat).at_.z (fr m p u.par.toNat).at_.z.den 19961,.rq (fr m p u.par.toNat).c (fr m p u.par.toNat).c.den 9981,.rq (fr m p u.par.toNat).s (fr m p u.par.toNat).s.den 9981]) 4 0 (by rfl) (by rfl) (RefC.cons (RefC.rq_le (by omega)) (RefC.cons (RefC.rq_le (by omega)) (RefC.cons (RefC.rq_le (by omega)) (RefC.rq_le (by omega))))) ?_;refine Good.weakB (b:=⟨293,4,false,[[.rq y.a.d y.a.d.den 300]],none⟩) (el':=[.rq (aC y) (aC y).den 300]) 5 0 (by rfl) (by rfl) (RefC.rq_e e1.symm (by decide)) ?_;refine Good.weakB (b:=⟨295,8,false,[[.rq y.a.a y.a.a.den 300,.rq y.a.b y.a.b.den 300]],none⟩) (el':=[.rq (aF y.a).a (aF y.a).a.den 300,.rq (aF y.a).b y.a.b.den 300]) 6 0 (by rfl) (by rfl) (RefC.cons (RefC.rq_le (by decide)) (RefC.rqz nA (by decide))) ?_;refine Good.weakB (b:=⟨295,8,false,[[.rq y.b.a y.b.a.den 300,.rq y.b.b y.b.b.den 300]],none⟩) (el':=[.rq (aF y.b).a (aF y.b).a.den 300,.rq (aF y.b).b y.b.b.den 300]) 7 0 (by rfl) (by rfl) (RefC.cons (RefC.rq_le (by decide)) (RefC.rqz nB (by decide))) ?_;exact AG (XB:=XB) (XS:=XS) (XT:=XT) (XD:=XD) (XF:=XF) (x:=(⟨px,pz⟩:PtD)) (f:=fr m p u.par.toNat) (sd:=y.a.b.den) (td:=y.b.b.den) (v:=v) (w:=u) (y:=y) g2 o20 o21 rfl hF0
 · cases h
def Rw:KF
 | [.agg [.q c C,.q s E]]=>some (.agg [.q c C,.q (-s) E],[])
 | _=>none
theorem Ud:bO 123 Rw:=by
 refine cJ Tryz.f123 fun _ _ _ S w0 h ho=> ?_
 unfold Rw at h;split at h <;> cases h;rename_i c C s E;have K:=kn.cons OP;exact rR K [] .nil
def jN (h:FrameD) (to:PtD):PtD:=⟨h.c*(to.x-h.at_.x)-(-h.s)*(to.z-h.at_.z),(-h.s)*(to.x-h.at_.x)+h.c*(to.z-h.at_.z)⟩
def MQ (m:MachD) (p:PoseD) (b:Int) (x to:PtD):List BendD×Bool:=kR (nZ m b) (jS m b) x (jN (iS m p b) to)
def pN (m:MachD) (p:PoseD) (b:Int) (x to:PtD):Int:=if dP m p.joints.length b=0 then (if (MQ m p b x to).2=true then 0 else 10) else dP m p.joints.length b
def xL (m:MachD) (p:PoseD) (b:Int) (x to:PtD):List BendD:=if pN m p b x to=0 then (MQ m p b x to).1 else []
def lX (jb TX TZ:Nat):Nat:=(TX+(4*SZ jb+608)+2)+(TZ+(4*SZ jb+608)+2)+SZ jb+SZ jb+6
theorem DQ {jb:Nat} {m:MachD} {p:PoseD} {b:Int} {px pz:Rat} {B C:Nat} {h:FrameD} {u v:BodyD} (hh:h=iS m p b) (hu:u=nZ m b) (hv:v=jS m b) (e:dP m p.joints.length b=0):Ref (.tup [xF jb (aG (aE 300 m)) ⟨⟨p.at_.x,p.at_.z⟩,p.turn,(p.joints.map (dU jb)).map gX⟩ b ⟨px,pz⟩ B C,.i6 (dP (aG (aE 300 m)) (p.joints.map (dU jb)).length b)]) (.tup [.agg (DL jb h u v ⟨px,pz⟩ B C),.i6 0]):=by
 subst hh;subst hu;subst hv;exact Ref.eq (by rw[aW,jK,bM,show xF jb m ⟨⟨p.at_.x,p.at_.z⟩,p.turn,p.joints⟩ b ⟨px,pz⟩ B C= .agg (DL jb (iS m p b) (nZ m b) (jS m b) ⟨px,pz⟩ B C) from if_pos e,e])
theorem DR {jb:Nat} {m:MachD} {p:PoseD} {b:Int} {px pz:Rat} {B C:Nat} (e:¬ dP m p.joints.length b=0):Ref (.tup [xF jb (aG (aE 300 m)) ⟨⟨p.at_.x,p.at_.z⟩,p.turn,(p.joints.map (dU jb)).map gX⟩ b ⟨px,pz⟩ B C,.i6 (dP (aG (aE 300 m)) (p.joints.map (dU jb)).length b)]) (.tup [.agg CT,.i6 (dP m p.joints.length b)]):=
 Ref.eq (by rw[aW,jK,bM,show xF jb m ⟨⟨p.at_.x,p.at_.z⟩,p.turn,p.joints⟩ b ⟨px,pz⟩ B C= .agg CT from if_neg e])
def UY:KF
 | [.agg M,.agg [.q ax jb,.q az A2,.q tu A3,.list 3 J],.int .i64 b,.agg [.q px B,.q pz C],.agg [.q tx TX,.q tz TZ]]=>some (.tup [.list 19 ((xL (aG M) ⟨⟨ax,az⟩,tu,J.map gX⟩ b ⟨px,pz⟩ ⟨tx,tz⟩).map (cR (DM B C (lX jb TX TZ) (lX jb TX TZ)) (DN B C (lX jb TX TZ) (lX jb TX TZ)) (DO B C (lX jb TX TZ) (lX jb TX TZ)) (bT B C (lX jb TX TZ) (lX jb TX TZ)))),.int .i64 (pN (aG M) ⟨⟨ax,az⟩,tu,J.map gX⟩ b ⟨px,pz⟩ ⟨tx,tz⟩)],[M=aE 300 (aG M),(aG M).small,(aG M).bodies.length<=8,A2<=jb,A3<=jb,jb<=100000,Ref (.list 3 J) (.list 3 ((J.map gX).map (dU jb))),J.length<=4611686018427387904,8*DM B C (lX jb TX TZ) (lX jb TX TZ)+8*DN B C (lX jb TX TZ) (lX jb TX TZ)+4*DO B C (lX jb TX TZ) (lX jb TX TZ)+400*bT B C (lX jb TX TZ) (lX jb TX TZ)+20000<=LIM,TX+TZ+20*SZ jb+20000<=LIM])
 | _=>none
abbrev HW (h:FrameD) (jb:Nat) (u:BodyD) (v:BodyD) (px:Rat) (B:Nat) (pz:Rat) (C:Nat):List AV:=[.agg [.q h.at_.x (4*SZ jb+608),.q h.at_.z (4*SZ jb+608),.q h.c (SZ jb),.q h.s (SZ jb),.str u.name,.i6 u.par,.q u.at_.x 300,.q u.at_.z 300,.q u.ma 300,.q u.inr 300,.q u.c.x 300,.q u.c.z 300,.q u.low 300,.q u.high 300,.list 6 (u.shape.map (dV 300)),.str v.name,.i6 v.par,.q v.at_.x 300,.q v.at_.z 300,.q v.ma 300,.q v.inr 300,.q v.c.x 300,.q v.c.z 300,.q v.low 300,.q v.high 300,.list 6 (v.shape.map (dV 300)),.q px B,.q pz C],.i6 (0:Int)]
abbrev KV:List AV:=[.q 0 0,.q 0 0,.q 0 0,.q 0 0,.str (ByteArray.mk #[]),.i6 (0:Int),.q 0 0,.q 0 0,.q 0 0,.q 0 0,.q 0 0,.q 0 0,.q 0 0,.q 0 0,AV.nil,.str (ByteArray.mk #[]),.i6 (0:Int),.q 0 0,.q 0 0,.q 0 0,.q 0 0,.q 0 0,.q 0 0,.q 0 0,.q 0 0,AV.nil,.q 0 0,.q 0 0]
abbrev HX (y:List BendD×Bool) (B:Nat) (C:Nat) (jb:Nat) (TX:Nat) (TZ:Nat):List AV:=[.list 19 (y.1.map (cR (DM B C (lX jb TX TZ) (lX jb TX TZ)) (DN B C (lX jb TX TZ) (lX jb TX TZ)) (DO B C (lX jb TX TZ) (lX jb TX TZ)) (bT B C (lX jb TX TZ) (lX jb TX TZ)))),.bool y.2]
abbrev KW (jb:Nat) (m:MachD) (p:PoseD) (b:Int) (px:Rat) (pz:Rat) (B:Nat) (C:Nat):AV:=(.tup [(xF jb (aG (aE 300 m)) ⟨⟨p.at_.x,p.at_.z⟩,p.turn,(p.joints.map (dU jb)).map gX⟩ b ⟨px,pz⟩ B C),.i6 (dP (aG (aE 300 m)) (p.joints.map (dU jb)).length b)])
theorem Vz:bO 40 UY:=by
 refine cJ Tryz.f40 fun _ _ _ S w0 h ho=> ?_
 unfold UY at h;split at h <;> cases h;rename_i M ax jb az A2 tu A3 J b px B pz C tx TX tz TZ;obtain⟨o1,o2,o3,o4,o5,o6,o7,o8,o9,o10⟩:=ho.e10;have K:=(((((kn.cons TJ).cons Te).cons Ud).cons UD).cons Qr).cons ER;generalize hm:aG M=m at*;subst o1;clear hm;obtain⟨p,hp⟩:∃ p:PoseD,p=⟨⟨ax,az⟩,tu,J.map gX⟩:=⟨_,rfl⟩;have hpj:p.joints.length=J.length:=by rw[hp];simp
 rw[<- hp]
 try rw[<- hpj]
 refine Good.weak 45 [(0,.agg (aE 300 m)),(1,.agg (bB jb p)),(2,.i6 b),(3,.agg [.q px B,.q pz C]),(4,.agg [.q tx TX,.q tz TZ])] (by kernel_rfl) (.r (.cons (by rw[hp];exact Ref.pose o4 o5 o7) (.r (.r (.r .nil))))) ?_;clear hp;have s1:aE 300 m=aE 300 (aG (aE 300 m)):=by rw[aW]
 have s2:(aG (aE 300 m)).small:=by rw[aW];exact o2
 have s3:(aG (aE 300 m)).bodies.length<=8:=by rw[aW];exact o3
 have s4:Ref (.list 3 (p.joints.map (dU jb))) (.list 3 (((p.joints.map (dU jb)).map gX).map (dU jb))):=Ref.eq (by rw[jK]);have s5:(p.joints.map (dU jb)).length<=4611686018427387904:=by rw[bM,hpj];exact o8
 have s7:SZ jb<=153753600:=by unfold SZ;omega
 have s8:LIM=17592186044416:=rfl;obtain⟨h,hh⟩:∃ h,h=iS m p b:=⟨_,rfl⟩;obtain⟨u,hu⟩:∃ u,u=nZ m b:=⟨_,rfl⟩;obtain⟨v,hv⟩:∃ v,v=jS m b:=⟨_,rfl⟩;obtain⟨y,hy⟩:∃ y,y=kR u v ⟨px,pz⟩ (jN h ⟨tx,tz⟩):=⟨_,rfl⟩;have hS:MQ m p b ⟨px,pz⟩ ⟨tx,tz⟩=y:=by rw[hy,hh,hu,hv];rfl
 have hX:lX jb TX TZ=(TX+(4*SZ jb+608)+2)+(TZ+(4*SZ jb+608)+2)+SZ jb+SZ jb+6:=rfl
 by_cases h1:(dP m p.joints.length b)=(0:Int)
 · have v0:Ref (KW jb m p b px pz B C) (.tup (HW h jb u v px B pz C)):=by exact DQ hh hu hv h1
   have v1:Ref (.tup [.list 19 ((xK u.low u.high v.low v.high ⟨v.at_.x,v.at_.z⟩ ⟨px,pz⟩ ⟨((jN h ⟨tx,tz⟩).x),((jN h ⟨tx,tz⟩).z)⟩).1.map (cR (DM B C (lX jb TX TZ) (lX jb TX TZ)) (DN B C (lX jb TX TZ) (lX jb TX TZ)) (DO B C (lX jb TX TZ) (lX jb TX TZ)) (bT B C (lX jb TX TZ) (lX jb TX TZ)))),.bool ((xK u.low u.high v.low v.high ⟨v.at_.x,v.at_.z⟩ ⟨px,pz⟩ ⟨((jN h ⟨tx,tz⟩).x),((jN h ⟨tx,tz⟩).z)⟩).2)]) (.tup (HX y B C jb TX TZ)):=by exact Ref.eq (by rw[hy];rfl)
   have v2:Ref (.agg [.q (h.c*(tx-h.at_.x)-(-h.s)*(tz-h.at_.z)) ((TX+(4*SZ jb+608)+2)+(TZ+(4*SZ jb+608)+2)+(SZ jb)+(SZ jb)+6),.q ((-h.s)*(tx-h.at_.x)+h.c*(tz-h.at_.z)) ((TX+(4*SZ jb+608)+2)+(TZ+(4*SZ jb+608)+2)+(SZ jb)+(SZ jb)+6)]) (.agg [.q ((jN h ⟨tx,tz⟩).x) (lX jb TX TZ),.q ((jN h ⟨tx,tz⟩).z) (lX jb TX TZ)]):=Ref.agg (RefC.cons qe qe);have v3:(TX+(4*SZ jb+608)+2)+(TZ+(4*SZ jb+608)+2)+(SZ jb)+(SZ jb)+300<=LIM:=by omega
   have v4:TX+TZ+(4*SZ jb+608)+(4*SZ jb+608)+300<=LIM:=by omega
   rcases Bool.eq_false_or_eq_true (!y.2) with h2 | h2
   · refine rF K [(16,.tup (HW h jb u v px B pz C)),(38,.agg [.q ((jN h ⟨tx,tz⟩).x) (lX jb TX TZ),.q ((jN h ⟨tx,tz⟩).z) (lX jb TX TZ)]),(27,.tup (HX y B C jb TX TZ)),(43,tt)] (.c6 s1 s2 s3 (rl jb) (rl jb) o6 (.c6 s4 s5 v0 v4 v2 v3 (.a3 o9 v1 (show Ref (.bool (!y.2)) (.bool true) from Ref.bool h2)))) (V:=.tup [AV.nil,.i6 (10:Int)]) ?_
     have e:pN m p b ⟨px,pz⟩ ⟨tx,tz⟩=10:=by unfold pN;rw[if_pos h1,hS,if_neg (by simpa using h2)]
     rw[show xL m p b ⟨px,pz⟩ ⟨tx,tz⟩= [] from if_neg (by rw[e];decide),e];exact Ref.tup2 Ref.nilL rr rfl rfl rfl rfl
   · refine rF K [(16,.tup (HW h jb u v px B pz C)),(38,.agg [.q ((jN h ⟨tx,tz⟩).x) (lX jb TX TZ),.q ((jN h ⟨tx,tz⟩).z) (lX jb TX TZ)]),(27,.tup (HX y B C jb TX TZ)),(43,ff)] (.c6 s1 s2 s3 (rl jb) (rl jb) o6 (.c6 s4 s5 v0 v4 v2 v3 (.a3 o9 v1 (show Ref (.bool (!y.2)) (.bool false) from Ref.bool h2)))) (V:=.tup [.list 19 (y.1.map (cR (DM B C (lX jb TX TZ) (lX jb TX TZ)) (DN B C (lX jb TX TZ) (lX jb TX TZ)) (DO B C (lX jb TX TZ) (lX jb TX TZ)) (bT B C (lX jb TX TZ) (lX jb TX TZ)))),.i6 (0:Int)]) ?_
     have e:pN m p b ⟨px,pz⟩ ⟨tx,tz⟩=0:=by unfold pN;rw[if_pos h1,hS,if_pos (by simpa using h2)]
     rw[show xL m p b ⟨px,pz⟩ ⟨tx,tz⟩=y.1 from by unfold xL;rw[if_pos e,hS],e];exact rr
 · refine rF K [(16,.tup [.agg (KV),.i6 (dP m p.joints.length b)]),(25,tt)] (.c6 s1 s2 s3 (rl jb) (rl jb) o6 (.a4 s4 s5 (show Ref (KW jb m p b px pz B C) (.tup [.agg (KV),.i6 (dP m p.joints.length b)]) by exact DR h1) (jT h1))) (V:=.tup [AV.nil,.i6 (dP m p.joints.length b)]) ?_
   have e:pN m p b ⟨px,pz⟩ ⟨tx,tz⟩=dP m p.joints.length b:=by unfold pN;rw[if_neg h1]
   rw[show xL m p b ⟨px,pz⟩ ⟨tx,tz⟩= [] from if_neg (by rw[e];exact h1),e];exact Ref.tup2 Ref.nilL rr rfl rfl rfl rfl
def Rx:KF
 | [.agg [.q a A,.q b B,.q d D]]=>some (.agg [.q a A,.q (if d=0 then 0 else b) B],[])
 | _=>none
theorem Ue:bO 127 Rx:=by
 refine cJ Tryz.f127 fun _ _ _ S w0 h ho=> ?_
 unfold Rx at h;split at h <;> cases h;rename_i a A b B d D;have K:=(kn.cons HF).cons AT
 by_cases h1:(Int.sign d.num)=(0:Int)
 · refine rF K [(6,tt)] (.a1 (iT h1)) (V:=.agg [.q a A,.q 0 0]) ?_
   rw[if_pos (by simpa[Int.sign_eq_zero_iff_zero] using h1)];exact Ref.agg (RefC.cons qe qe)
 · refine rF K [(6,ff)] (.a1 (iF h1)) (V:=.agg [.q a A,.q b B]) ?_
   rw[if_neg (by simpa[Int.sign_eq_zero_iff_zero] using h1)];exact rr
def gH:=(((((((((((kn.cons QQ).cons HF).cons Qx).cons Qz).cons HE).cons QG).cons Ue).cons QC).cons EI).cons AT).cons Qr).cons ER
noncomputable abbrev xM:List Item:=[.code (aR [1,1,1,1,1,1,0] (aA Tryz.f41)),.code (aR [1,1,1,1,1,1,1] (aA Tryz.f41))]
noncomputable abbrev AH:List Item:=[.code .ret,.code (aR [1,1,1,1,1,1] (aA Tryz.f41))]
def fD (m:MachD) (n:Nat) (b:Int) (y:BendD):Int:=if dP m n b=0 then (if y.a.d<0\/y.b.d<0\/(y.b.d≠0/\aC y≠y.b.d) then 2 else 0) else dP m n b
def dL (m:MachD) (p:PoseD) (b:Int) (x:PtD) (y:BendD):Sd×Sd:=if fD m p.joints.length b y=0 then (mU (aC y) (cM (iS m p b) (jS m b).at_ x y).x,mU (aC y) (cM (iS m p b) (jS m b).at_ x y).z) else (⟨0,0,0⟩,⟨0,0,0⟩)
theorem sC {m:MachD} {n:Nat} {b:Int} {y:BendD} (hw:dP m n b=0) (k1:¬ y.a.d<0) (k2:¬ y.b.d<0) (k3:y.b.d=0\/aC y=y.b.d):fD m n b y=0:=by
 rw[fD,if_pos hw,if_neg (by rintro(h | h | ⟨h1,h2⟩);exact k1 h;exact k2 h;exact k3.elim h1 h2)]
theorem Ca {m:MachD} {p:PoseD} {b e:Int} {x:PtD} {y:BendD} (he:fD m p.joints.length b y=e) (h0:e≠0):Ref (AV.tup [.agg [.q 0 0,.q 0 0,.q 0 0],.agg [.q 0 0,.q 0 0,.q 0 0],.i6 e]) (.tup [.agg [.q (dL m p b x y).1.a 2251385,.q (dL m p b x y).1.b 2251385,.q (dL m p b x y).1.d 2251385],.agg [.q (dL m p b x y).2.a 2251385,.q (dL m p b x y).2.b 2251385,.q (dL m p b x y).2.d 2251385],.i6 (fD m p.joints.length b y)]):=by
 have e1:dL m p b x y=(⟨0,0,0⟩,⟨0,0,0⟩):=if_neg (by rw[he];exact h0);rw[e1,he];exact Ref.tup3 (Ref.agg (RefC.cons (RefC.q_eq rfl (Nat.zero_le _)) (RefC.cons (RefC.q_eq rfl (Nat.zero_le _)) (RefC.q_eq rfl (Nat.zero_le _))))) (Ref.agg (RefC.cons (RefC.q_eq rfl (Nat.zero_le _)) (RefC.cons (RefC.q_eq rfl (Nat.zero_le _)) (RefC.q_eq rfl (Nat.zero_le _))))) rr rfl rfl rfl rfl rfl rfl
theorem uT {S:Nat->Prop} {w0:World} {m:MachD} {p:PoseD} {b:Int} {px pz:Rat} {y:BendD} {h:FrameD} {u v:BodyD} (hh:h=iS m p b) (hv:v=jS m b) (hE:fD m p.joints.length b y=0):
   GF 41 S w0 (.tup [.agg [.q (dL m p b ⟨px,pz⟩ y).1.a 2251385,.q (dL m p b ⟨px,pz⟩ y).1.b 2251385,.q (dL m p b ⟨px,pz⟩ y).1.d 2251385],.agg [.q (dL m p b ⟨px,pz⟩ y).2.a 2251385,.q (dL m p b ⟨px,pz⟩ y).2.b 2251385,.q (dL m p b ⟨px,pz⟩ y).2.d 2251385],.i6 (fD m p.joints.length b y)]) xM ⟨slots 121 [(9,.ptr 0 19 0 0),(10,.ptr 1 9 0 0),(11,.ptr 2 9 0 0),(12,.i6 0),(13,.ptr 3 72 0 0),(14,.ptr 4 3 0 0)],[some ⟨110,19,false,[[(.q y.a.a 300),(.q y.a.b 300),(.q y.a.d 300),(.q y.b.a 300),(.q y.b.b 300),(.q y.b.d 300),(.bool y.w)]],none⟩,some ⟨106,9,false,[[(.q 0 0),(.q 0 0),(.q 0 0)]],none⟩,some ⟨106,9,false,[[(.q 0 0),(.q 0 0),(.q 0 0)]],none⟩,some ⟨267,72,false,[[(.q h.at_.x (4*SZ 300+608)),(.q h.at_.z (4*SZ 300+608)),(.q h.c (SZ 300)),(.q h.s (SZ 300)),(.str u.name),(.i6 u.par),(.q u.at_.x 300),(.q u.at_.z 300),(.q u.ma 300),(.q u.inr 300),(.q u.c.x 300),(.q u.c.z 300),(.q u.low 300),(.q u.high 300),(.list 6 (u.shape.map (dV 300))),(.str v.name),(.i6 v.par),(.q v.at_.x 300),(.q v.at_.z 300),(.q v.ma 300),(.q v.inr 300),(.q v.c.x 300),(.q v.c.z 300),(.q v.low 300),(.q v.high 300),(.list 6 (v.shape.map (dV 300))),(.q px 300),(.q pz 300)]],none⟩,some ⟨274,3,false,[[(.q (aC y) 300)]],none⟩]⟩:=by
 have v0:1125540+1125540+3*300+600<=LIM:=by decide
 refine gR gH none [10,11,12] [1,2] [(86,.agg [.q (bF ⟨⟨v.at_.x,0⟩,⟨v.at_.z,0⟩⟩ (aM (aC y) ⟨⟨px,0⟩,⟨pz,0⟩⟩ (aF y.b))).x.a 53402,.q (bF ⟨⟨v.at_.x,0⟩,⟨v.at_.z,0⟩⟩ (aM (aC y) ⟨⟨px,0⟩,⟨pz,0⟩⟩ (aF y.b))).x.b 53402,.q (bF ⟨⟨v.at_.x,0⟩,⟨v.at_.z,0⟩⟩ (aM (aC y) ⟨⟨px,0⟩,⟨pz,0⟩⟩ (aF y.b))).z.a 53402,.q (bF ⟨⟨v.at_.x,0⟩,⟨v.at_.z,0⟩⟩ (aM (aC y) ⟨⟨px,0⟩,⟨pz,0⟩⟩ (aF y.b))).z.b 53402]),(93,.agg [.q (aM (aC y) (bF ⟨⟨v.at_.x,0⟩,⟨v.at_.z,0⟩⟩ (aM (aC y) ⟨⟨px,0⟩,⟨pz,0⟩⟩ (aF y.b))) (aF y.a)).x.a 266108,.q (aM (aC y) (bF ⟨⟨v.at_.x,0⟩,⟨v.at_.z,0⟩⟩ (aM (aC y) ⟨⟨px,0⟩,⟨pz,0⟩⟩ (aF y.b))) (aF y.a)).x.b 266108,.q (aM (aC y) (bF ⟨⟨v.at_.x,0⟩,⟨v.at_.z,0⟩⟩ (aM (aC y) ⟨⟨px,0⟩,⟨pz,0⟩⟩ (aF y.b))) (aF y.a)).z.a 266108,.q (aM (aC y) (bF ⟨⟨v.at_.x,0⟩,⟨v.at_.z,0⟩⟩ (aM (aC y) ⟨⟨px,0⟩,⟨pz,0⟩⟩ (aF y.b))) (aF y.a)).z.b 266108]),(112,.agg [.q (cM h v.at_ ⟨px,pz⟩ y).x.a 1125540,.q (cM h v.at_ ⟨px,pz⟩ y).x.b 1125540,.q (cM h v.at_ ⟨px,pz⟩ y).z.a 1125540,.q (cM h v.at_ ⟨px,pz⟩ y).z.b 1125540])] (.c6 (dc (128*300+128*300+90*300+2*300+2*0+2*300+2*0+8000<=LIM)) (show Ref (.agg [.q ((bF ⟨⟨v.at_.x,0⟩,⟨v.at_.z,0⟩⟩ ⟨⟨((aM (aC y) ⟨⟨px,0⟩,⟨pz,0⟩⟩ ⟨y.b.a,(if y.b.d=0 then 0 else y.b.b)⟩).x.a),((aM (aC y) ⟨⟨px,0⟩,⟨pz,0⟩⟩ ⟨y.b.a,(if y.b.d=0 then 0 else y.b.b)⟩).x.b)⟩,⟨((aM (aC y) ⟨⟨px,0⟩,⟨pz,0⟩⟩ ⟨y.b.a,(if y.b.d=0 then 0 else y.b.b)⟩).z.a),((aM (aC y) ⟨⟨px,0⟩,⟨pz,0⟩⟩ ⟨y.b.a,(if y.b.d=0 then 0 else y.b.b)⟩).z.b)⟩⟩).x.a) (300+(64*300+64*300+42*300+300+0+300+0+1500)+2),.q ((bF ⟨⟨v.at_.x,0⟩,⟨v.at_.z,0⟩⟩ ⟨⟨((aM (aC y) ⟨⟨px,0⟩,⟨pz,0⟩⟩ ⟨y.b.a,(if y.b.d=0 then 0 else y.b.b)⟩).x.a),((aM (aC y) ⟨⟨px,0⟩,⟨pz,0⟩⟩ ⟨y.b.a,(if y.b.d=0 then 0 else y.b.b)⟩).x.b)⟩,⟨((aM (aC y) ⟨⟨px,0⟩,⟨pz,0⟩⟩ ⟨y.b.a,(if y.b.d=0 then 0 else y.b.b)⟩).z.a),((aM (aC y) ⟨⟨px,0⟩,⟨pz,0⟩⟩ ⟨y.b.a,(if y.b.d=0 then 0 else y.b.b)⟩).z.b)⟩⟩).x.b) (0+(64*300+64*300+42*300+300+0+300+0+1500)+2),.q ((bF ⟨⟨v.at_.x,0⟩,⟨v.at_.z,0⟩⟩ ⟨⟨((aM (aC y) ⟨⟨px,0⟩,⟨pz,0⟩⟩ ⟨y.b.a,(if y.b.d=0 then 0 else y.b.b)⟩).x.a),((aM (aC y) ⟨⟨px,0⟩,⟨pz,0⟩⟩ ⟨y.b.a,(if y.b.d=0 then 0 else y.b.b)⟩).x.b)⟩,⟨((aM (aC y) ⟨⟨px,0⟩,⟨pz,0⟩⟩ ⟨y.b.a,(if y.b.d=0 then 0 else y.b.b)⟩).z.a),((aM (aC y) ⟨⟨px,0⟩,⟨pz,0⟩⟩ ⟨y.b.a,(if y.b.d=0 then 0 else y.b.b)⟩).z.b)⟩⟩).z.a) (300+(64*300+64*300+42*300+300+0+300+0+1500)+2),.q ((bF ⟨⟨v.at_.x,0⟩,⟨v.at_.z,0⟩⟩ ⟨⟨((aM (aC y) ⟨⟨px,0⟩,⟨pz,0⟩⟩ ⟨y.b.a,(if y.b.d=0 then 0 else y.b.b)⟩).x.a),((aM (aC y) ⟨⟨px,0⟩,⟨pz,0⟩⟩ ⟨y.b.a,(if y.b.d=0 then 0 else y.b.b)⟩).x.b)⟩,⟨((aM (aC y) ⟨⟨px,0⟩,⟨pz,0⟩⟩ ⟨y.b.a,(if y.b.d=0 then 0 else y.b.b)⟩).z.a),((aM (aC y) ⟨⟨px,0⟩,⟨pz,0⟩⟩ ⟨y.b.a,(if y.b.d=0 then 0 else y.b.b)⟩).z.b)⟩⟩).z.b) (0+(64*300+64*300+42*300+300+0+300+0+1500)+2)]) (.agg [.q (bF ⟨⟨v.at_.x,0⟩,⟨v.at_.z,0⟩⟩ (aM (aC y) ⟨⟨px,0⟩,⟨pz,0⟩⟩ (aF y.b))).x.a 53402,.q (bF ⟨⟨v.at_.x,0⟩,⟨v.at_.z,0⟩⟩ (aM (aC y) ⟨⟨px,0⟩,⟨pz,0⟩⟩ (aF y.b))).x.b 53402,.q (bF ⟨⟨v.at_.x,0⟩,⟨v.at_.z,0⟩⟩ (aM (aC y) ⟨⟨px,0⟩,⟨pz,0⟩⟩ (aF y.b))).z.a 53402,.q (bF ⟨⟨v.at_.x,0⟩,⟨v.at_.z,0⟩⟩ (aM (aC y) ⟨⟨px,0⟩,⟨pz,0⟩⟩ (aF y.b))).z.b 53402]) from ?_) (dc (300+0+300+0+(64*300+64*300+42*300+300+0+300+0+1500)+(64*300+64*300+42*300+300+0+300+0+1500)+(64*300+64*300+42*300+300+0+300+0+1500)+(64*300+64*300+42*300+300+0+300+0+1500)+300+600<=LIM)) (show Ref (.agg [.q ((aM (aC y) ⟨⟨(bF ⟨⟨v.at_.x,0⟩,⟨v.at_.z,0⟩⟩ (aM (aC y) ⟨⟨px,0⟩,⟨pz,0⟩⟩ (aF y.b))).x.a,(bF ⟨⟨v.at_.x,0⟩,⟨v.at_.z,0⟩⟩ (aM (aC y) ⟨⟨px,0⟩,⟨pz,0⟩⟩ (aF y.b))).x.b⟩,⟨(bF ⟨⟨v.at_.x,0⟩,⟨v.at_.z,0⟩⟩ (aM (aC y) ⟨⟨px,0⟩,⟨pz,0⟩⟩ (aF y.b))).z.a,(bF ⟨⟨v.at_.x,0⟩,⟨v.at_.z,0⟩⟩ (aM (aC y) ⟨⟨px,0⟩,⟨pz,0⟩⟩ (aF y.b))).z.b⟩⟩ ⟨y.a.a,(if y.a.d=0 then 0 else y.a.b)⟩).x.a) (64*300+64*300+42*300+53402+53402+53402+53402+1500),.q ((aM (aC y) ⟨⟨(bF ⟨⟨v.at_.x,0⟩,⟨v.at_.z,0⟩⟩ (aM (aC y) ⟨⟨px,0⟩,⟨pz,0⟩⟩ (aF y.b))).x.a,(bF ⟨⟨v.at_.x,0⟩,⟨v.at_.z,0⟩⟩ (aM (aC y) ⟨⟨px,0⟩,⟨pz,0⟩⟩ (aF y.b))).x.b⟩,⟨(bF ⟨⟨v.at_.x,0⟩,⟨v.at_.z,0⟩⟩ (aM (aC y) ⟨⟨px,0⟩,⟨pz,0⟩⟩ (aF y.b))).z.a,(bF ⟨⟨v.at_.x,0⟩,⟨v.at_.z,0⟩⟩ (aM (aC y) ⟨⟨px,0⟩,⟨pz,0⟩⟩ (aF y.b))).z.b⟩⟩ ⟨y.a.a,(if y.a.d=0 then 0 else y.a.b)⟩).x.b) (64*300+64*300+42*300+53402+53402+53402+53402+1500),.q ((aM (aC y) ⟨⟨(bF ⟨⟨v.at_.x,0⟩,⟨v.at_.z,0⟩⟩ (aM (aC y) ⟨⟨px,0⟩,⟨pz,0⟩⟩ (aF y.b))).x.a,(bF ⟨⟨v.at_.x,0⟩,⟨v.at_.z,0⟩⟩ (aM (aC y) ⟨⟨px,0⟩,⟨pz,0⟩⟩ (aF y.b))).x.b⟩,⟨(bF ⟨⟨v.at_.x,0⟩,⟨v.at_.z,0⟩⟩ (aM (aC y) ⟨⟨px,0⟩,⟨pz,0⟩⟩ (aF y.b))).z.a,(bF ⟨⟨v.at_.x,0⟩,⟨v.at_.z,0⟩⟩ (aM (aC y) ⟨⟨px,0⟩,⟨pz,0⟩⟩ (aF y.b))).z.b⟩⟩ ⟨y.a.a,(if y.a.d=0 then 0 else y.a.b)⟩).z.a) (64*300+64*300+42*300+53402+53402+53402+53402+1500),.q ((aM (aC y) ⟨⟨(bF ⟨⟨v.at_.x,0⟩,⟨v.at_.z,0⟩⟩ (aM (aC y) ⟨⟨px,0⟩,⟨pz,0⟩⟩ (aF y.b))).x.a,(bF ⟨⟨v.at_.x,0⟩,⟨v.at_.z,0⟩⟩ (aM (aC y) ⟨⟨px,0⟩,⟨pz,0⟩⟩ (aF y.b))).x.b⟩,⟨(bF ⟨⟨v.at_.x,0⟩,⟨v.at_.z,0⟩⟩ (aM (aC y) ⟨⟨px,0⟩,⟨pz,0⟩⟩ (aF y.b))).z.a,(bF ⟨⟨v.at_.x,0⟩,⟨v.at_.z,0⟩⟩ (aM (aC y) ⟨⟨px,0⟩,⟨pz,0⟩⟩ (aF y.b))).z.b⟩⟩ ⟨y.a.a,(if y.a.d=0 then 0 else y.a.b)⟩).z.b) (64*300+64*300+42*300+53402+53402+53402+53402+1500)]) (.agg [.q (aM (aC y) (bF ⟨⟨v.at_.x,0⟩,⟨v.at_.z,0⟩⟩ (aM (aC y) ⟨⟨px,0⟩,⟨pz,0⟩⟩ (aF y.b))) (aF y.a)).x.a 266108,.q (aM (aC y) (bF ⟨⟨v.at_.x,0⟩,⟨v.at_.z,0⟩⟩ (aM (aC y) ⟨⟨px,0⟩,⟨pz,0⟩⟩ (aF y.b))) (aF y.a)).x.b 266108,.q (aM (aC y) (bF ⟨⟨v.at_.x,0⟩,⟨v.at_.z,0⟩⟩ (aM (aC y) ⟨⟨px,0⟩,⟨pz,0⟩⟩ (aF y.b))) (aF y.a)).z.a 266108,.q (aM (aC y) (bF ⟨⟨v.at_.x,0⟩,⟨v.at_.z,0⟩⟩ (aM (aC y) ⟨⟨px,0⟩,⟨pz,0⟩⟩ (aF y.b))) (aF y.a)).z.b 266108]) from ?_) (dc (128*300+128*300+90*300+2*53402+2*53402+2*53402+2*53402+8000<=LIM)) (dc (2*(SZ 300)+2*0+2*(SZ 300)+2*0+2*266108+2*266108+2*266108+2*266108+5*300+1000<=LIM)) (.a4 (show Ref (.agg [.q ((bF ⟨⟨((bQ (aC y) ⟨⟨(aM (aC y) (bF ⟨⟨v.at_.x,0⟩,⟨v.at_.z,0⟩⟩ (aM (aC y) ⟨⟨px,0⟩,⟨pz,0⟩⟩ (aF y.b))) (aF y.a)).x.a,(aM (aC y) (bF ⟨⟨v.at_.x,0⟩,⟨v.at_.z,0⟩⟩ (aM (aC y) ⟨⟨px,0⟩,⟨pz,0⟩⟩ (aF y.b))) (aF y.a)).x.b⟩,⟨(aM (aC y) (bF ⟨⟨v.at_.x,0⟩,⟨v.at_.z,0⟩⟩ (aM (aC y) ⟨⟨px,0⟩,⟨pz,0⟩⟩ (aF y.b))) (aF y.a)).z.a,(aM (aC y) (bF ⟨⟨v.at_.x,0⟩,⟨v.at_.z,0⟩⟩ (aM (aC y) ⟨⟨px,0⟩,⟨pz,0⟩⟩ (aF y.b))) (aF y.a)).z.b⟩⟩ ⟨h.c,0⟩ ⟨h.s,0⟩).x.a),((bQ (aC y) ⟨⟨(aM (aC y) (bF ⟨⟨v.at_.x,0⟩,⟨v.at_.z,0⟩⟩ (aM (aC y) ⟨⟨px,0⟩,⟨pz,0⟩⟩ (aF y.b))) (aF y.a)).x.a,(aM (aC y) (bF ⟨⟨v.at_.x,0⟩,⟨v.at_.z,0⟩⟩ (aM (aC y) ⟨⟨px,0⟩,⟨pz,0⟩⟩ (aF y.b))) (aF y.a)).x.b⟩,⟨(aM (aC y) (bF ⟨⟨v.at_.x,0⟩,⟨v.at_.z,0⟩⟩ (aM (aC y) ⟨⟨px,0⟩,⟨pz,0⟩⟩ (aF y.b))) (aF y.a)).z.a,(aM (aC y) (bF ⟨⟨v.at_.x,0⟩,⟨v.at_.z,0⟩⟩ (aM (aC y) ⟨⟨px,0⟩,⟨pz,0⟩⟩ (aF y.b))) (aF y.a)).z.b⟩⟩ ⟨h.c,0⟩ ⟨h.s,0⟩).x.b)⟩,⟨((bQ (aC y) ⟨⟨(aM (aC y) (bF ⟨⟨v.at_.x,0⟩,⟨v.at_.z,0⟩⟩ (aM (aC y) ⟨⟨px,0⟩,⟨pz,0⟩⟩ (aF y.b))) (aF y.a)).x.a,(aM (aC y) (bF ⟨⟨v.at_.x,0⟩,⟨v.at_.z,0⟩⟩ (aM (aC y) ⟨⟨px,0⟩,⟨pz,0⟩⟩ (aF y.b))) (aF y.a)).x.b⟩,⟨(aM (aC y) (bF ⟨⟨v.at_.x,0⟩,⟨v.at_.z,0⟩⟩ (aM (aC y) ⟨⟨px,0⟩,⟨pz,0⟩⟩ (aF y.b))) (aF y.a)).z.a,(aM (aC y) (bF ⟨⟨v.at_.x,0⟩,⟨v.at_.z,0⟩⟩ (aM (aC y) ⟨⟨px,0⟩,⟨pz,0⟩⟩ (aF y.b))) (aF y.a)).z.b⟩⟩ ⟨h.c,0⟩ ⟨h.s,0⟩).z.a),((bQ (aC y) ⟨⟨(aM (aC y) (bF ⟨⟨v.at_.x,0⟩,⟨v.at_.z,0⟩⟩ (aM (aC y) ⟨⟨px,0⟩,⟨pz,0⟩⟩ (aF y.b))) (aF y.a)).x.a,(aM (aC y) (bF ⟨⟨v.at_.x,0⟩,⟨v.at_.z,0⟩⟩ (aM (aC y) ⟨⟨px,0⟩,⟨pz,0⟩⟩ (aF y.b))) (aF y.a)).x.b⟩,⟨(aM (aC y) (bF ⟨⟨v.at_.x,0⟩,⟨v.at_.z,0⟩⟩ (aM (aC y) ⟨⟨px,0⟩,⟨pz,0⟩⟩ (aF y.b))) (aF y.a)).z.a,(aM (aC y) (bF ⟨⟨v.at_.x,0⟩,⟨v.at_.z,0⟩⟩ (aM (aC y) ⟨⟨px,0⟩,⟨pz,0⟩⟩ (aF y.b))) (aF y.a)).z.b⟩⟩ ⟨h.c,0⟩ ⟨h.s,0⟩).z.b)⟩⟩ ⟨⟨h.at_.x,0⟩,⟨h.at_.z,0⟩⟩).x.a) (((SZ 300)+0+(SZ 300)+0+266108+266108+266108+266108+2*300+18)+(4*SZ 300+608)+2),.q ((bF ⟨⟨((bQ (aC y) ⟨⟨(aM (aC y) (bF ⟨⟨v.at_.x,0⟩,⟨v.at_.z,0⟩⟩ (aM (aC y) ⟨⟨px,0⟩,⟨pz,0⟩⟩ (aF y.b))) (aF y.a)).x.a,(aM (aC y) (bF ⟨⟨v.at_.x,0⟩,⟨v.at_.z,0⟩⟩ (aM (aC y) ⟨⟨px,0⟩,⟨pz,0⟩⟩ (aF y.b))) (aF y.a)).x.b⟩,⟨(aM (aC y) (bF ⟨⟨v.at_.x,0⟩,⟨v.at_.z,0⟩⟩ (aM (aC y) ⟨⟨px,0⟩,⟨pz,0⟩⟩ (aF y.b))) (aF y.a)).z.a,(aM (aC y) (bF ⟨⟨v.at_.x,0⟩,⟨v.at_.z,0⟩⟩ (aM (aC y) ⟨⟨px,0⟩,⟨pz,0⟩⟩ (aF y.b))) (aF y.a)).z.b⟩⟩ ⟨h.c,0⟩ ⟨h.s,0⟩).x.a),((bQ (aC y) ⟨⟨(aM (aC y) (bF ⟨⟨v.at_.x,0⟩,⟨v.at_.z,0⟩⟩ (aM (aC y) ⟨⟨px,0⟩,⟨pz,0⟩⟩ (aF y.b))) (aF y.a)).x.a,(aM (aC y) (bF ⟨⟨v.at_.x,0⟩,⟨v.at_.z,0⟩⟩ (aM (aC y) ⟨⟨px,0⟩,⟨pz,0⟩⟩ (aF y.b))) (aF y.a)).x.b⟩,⟨(aM (aC y) (bF ⟨⟨v.at_.x,0⟩,⟨v.at_.z,0⟩⟩ (aM (aC y) ⟨⟨px,0⟩,⟨pz,0⟩⟩ (aF y.b))) (aF y.a)).z.a,(aM (aC y) (bF ⟨⟨v.at_.x,0⟩,⟨v.at_.z,0⟩⟩ (aM (aC y) ⟨⟨px,0⟩,⟨pz,0⟩⟩ (aF y.b))) (aF y.a)).z.b⟩⟩ ⟨h.c,0⟩ ⟨h.s,0⟩).x.b)⟩,⟨((bQ (aC y) ⟨⟨(aM (aC y) (bF ⟨⟨v.at_.x,0⟩,⟨v.at_.z,0⟩⟩ (aM (aC y) ⟨⟨px,0⟩,⟨pz,0⟩⟩ (aF y.b))) (aF y.a)).x.a,(aM (aC y) (bF ⟨⟨v.at_.x,0⟩,⟨v.at_.z,0⟩⟩ (aM (aC y) ⟨⟨px,0⟩,⟨pz,0⟩⟩ (aF y.b))) (aF y.a)).x.b⟩,⟨(aM (aC y) (bF ⟨⟨v.at_.x,0⟩,⟨v.at_.z,0⟩⟩ (aM (aC y) ⟨⟨px,0⟩,⟨pz,0⟩⟩ (aF y.b))) (aF y.a)).z.a,(aM (aC y) (bF ⟨⟨v.at_.x,0⟩,⟨v.at_.z,0⟩⟩ (aM (aC y) ⟨⟨px,0⟩,⟨pz,0⟩⟩ (aF y.b))) (aF y.a)).z.b⟩⟩ ⟨h.c,0⟩ ⟨h.s,0⟩).z.a),((bQ (aC y) ⟨⟨(aM (aC y) (bF ⟨⟨v.at_.x,0⟩,⟨v.at_.z,0⟩⟩ (aM (aC y) ⟨⟨px,0⟩,⟨pz,0⟩⟩ (aF y.b))) (aF y.a)).x.a,(aM (aC y) (bF ⟨⟨v.at_.x,0⟩,⟨v.at_.z,0⟩⟩ (aM (aC y) ⟨⟨px,0⟩,⟨pz,0⟩⟩ (aF y.b))) (aF y.a)).x.b⟩,⟨(aM (aC y) (bF ⟨⟨v.at_.x,0⟩,⟨v.at_.z,0⟩⟩ (aM (aC y) ⟨⟨px,0⟩,⟨pz,0⟩⟩ (aF y.b))) (aF y.a)).z.a,(aM (aC y) (bF ⟨⟨v.at_.x,0⟩,⟨v.at_.z,0⟩⟩ (aM (aC y) ⟨⟨px,0⟩,⟨pz,0⟩⟩ (aF y.b))) (aF y.a)).z.b⟩⟩ ⟨h.c,0⟩ ⟨h.s,0⟩).z.b)⟩⟩ ⟨⟨h.at_.x,0⟩,⟨h.at_.z,0⟩⟩).x.b) (((SZ 300)+0+(SZ 300)+0+266108+266108+266108+266108+2*300+18)+0+2),.q ((bF ⟨⟨((bQ (aC y) ⟨⟨(aM (aC y) (bF ⟨⟨v.at_.x,0⟩,⟨v.at_.z,0⟩⟩ (aM (aC y) ⟨⟨px,0⟩,⟨pz,0⟩⟩ (aF y.b))) (aF y.a)).x.a,(aM (aC y) (bF ⟨⟨v.at_.x,0⟩,⟨v.at_.z,0⟩⟩ (aM (aC y) ⟨⟨px,0⟩,⟨pz,0⟩⟩ (aF y.b))) (aF y.a)).x.b⟩,⟨(aM (aC y) (bF ⟨⟨v.at_.x,0⟩,⟨v.at_.z,0⟩⟩ (aM (aC y) ⟨⟨px,0⟩,⟨pz,0⟩⟩ (aF y.b))) (aF y.a)).z.a,(aM (aC y) (bF ⟨⟨v.at_.x,0⟩,⟨v.at_.z,0⟩⟩ (aM (aC y) ⟨⟨px,0⟩,⟨pz,0⟩⟩ (aF y.b))) (aF y.a)).z.b⟩⟩ ⟨h.c,0⟩ ⟨h.s,0⟩).x.a),((bQ (aC y) ⟨⟨(aM (aC y) (bF ⟨⟨v.at_.x,0⟩,⟨v.at_.z,0⟩⟩ (aM (aC y) ⟨⟨px,0⟩,⟨pz,0⟩⟩ (aF y.b))) (aF y.a)).x.a,(aM (aC y) (bF ⟨⟨v.at_.x,0⟩,⟨v.at_.z,0⟩⟩ (aM (aC y) ⟨⟨px,0⟩,⟨pz,0⟩⟩ (aF y.b))) (aF y.a)).x.b⟩,⟨(aM (aC y) (bF ⟨⟨v.at_.x,0⟩,⟨v.at_.z,0⟩⟩ (aM (aC y) ⟨⟨px,0⟩,⟨pz,0⟩⟩ (aF y.b))) (aF y.a)).z.a,(aM (aC y) (bF ⟨⟨v.at_.x,0⟩,⟨v.at_.z,0⟩⟩ (aM (aC y) ⟨⟨px,0⟩,⟨pz,0⟩⟩ (aF y.b))) (aF y.a)).z.b⟩⟩ ⟨h.c,0⟩ ⟨h.s,0⟩).x.b)⟩,⟨((bQ (aC y) ⟨⟨(aM (aC y) (bF ⟨⟨v.at_.x,0⟩,⟨v.at_.z,0⟩⟩ (aM (aC y) ⟨⟨px,0⟩,⟨pz,0⟩⟩ (aF y.b))) (aF y.a)).x.a,(aM (aC y) (bF ⟨⟨v.at_.x,0⟩,⟨v.at_.z,0⟩⟩ (aM (aC y) ⟨⟨px,0⟩,⟨pz,0⟩⟩ (aF y.b))) (aF y.a)).x.b⟩,⟨(aM (aC y) (bF ⟨⟨v.at_.x,0⟩,⟨v.at_.z,0⟩⟩ (aM (aC y) ⟨⟨px,0⟩,⟨pz,0⟩⟩ (aF y.b))) (aF y.a)).z.a,(aM (aC y) (bF ⟨⟨v.at_.x,0⟩,⟨v.at_.z,0⟩⟩ (aM (aC y) ⟨⟨px,0⟩,⟨pz,0⟩⟩ (aF y.b))) (aF y.a)).z.b⟩⟩ ⟨h.c,0⟩ ⟨h.s,0⟩).z.a),((bQ (aC y) ⟨⟨(aM (aC y) (bF ⟨⟨v.at_.x,0⟩,⟨v.at_.z,0⟩⟩ (aM (aC y) ⟨⟨px,0⟩,⟨pz,0⟩⟩ (aF y.b))) (aF y.a)).x.a,(aM (aC y) (bF ⟨⟨v.at_.x,0⟩,⟨v.at_.z,0⟩⟩ (aM (aC y) ⟨⟨px,0⟩,⟨pz,0⟩⟩ (aF y.b))) (aF y.a)).x.b⟩,⟨(aM (aC y) (bF ⟨⟨v.at_.x,0⟩,⟨v.at_.z,0⟩⟩ (aM (aC y) ⟨⟨px,0⟩,⟨pz,0⟩⟩ (aF y.b))) (aF y.a)).z.a,(aM (aC y) (bF ⟨⟨v.at_.x,0⟩,⟨v.at_.z,0⟩⟩ (aM (aC y) ⟨⟨px,0⟩,⟨pz,0⟩⟩ (aF y.b))) (aF y.a)).z.b⟩⟩ ⟨h.c,0⟩ ⟨h.s,0⟩).z.b)⟩⟩ ⟨⟨h.at_.x,0⟩,⟨h.at_.z,0⟩⟩).z.a) (((SZ 300)+0+(SZ 300)+0+266108+266108+266108+266108+2*300+18)+(4*SZ 300+608)+2),.q ((bF ⟨⟨((bQ (aC y) ⟨⟨(aM (aC y) (bF ⟨⟨v.at_.x,0⟩,⟨v.at_.z,0⟩⟩ (aM (aC y) ⟨⟨px,0⟩,⟨pz,0⟩⟩ (aF y.b))) (aF y.a)).x.a,(aM (aC y) (bF ⟨⟨v.at_.x,0⟩,⟨v.at_.z,0⟩⟩ (aM (aC y) ⟨⟨px,0⟩,⟨pz,0⟩⟩ (aF y.b))) (aF y.a)).x.b⟩,⟨(aM (aC y) (bF ⟨⟨v.at_.x,0⟩,⟨v.at_.z,0⟩⟩ (aM (aC y) ⟨⟨px,0⟩,⟨pz,0⟩⟩ (aF y.b))) (aF y.a)).z.a,(aM (aC y) (bF ⟨⟨v.at_.x,0⟩,⟨v.at_.z,0⟩⟩ (aM (aC y) ⟨⟨px,0⟩,⟨pz,0⟩⟩ (aF y.b))) (aF y.a)).z.b⟩⟩ ⟨h.c,0⟩ ⟨h.s,0⟩).x.a),((bQ (aC y) ⟨⟨(aM (aC y) (bF ⟨⟨v.at_.x,0⟩,⟨v.at_.z,0⟩⟩ (aM (aC y) ⟨⟨px,0⟩,⟨pz,0⟩⟩ (aF y.b))) (aF y.a)).x.a,(aM (aC y) (bF ⟨⟨v.at_.x,0⟩,⟨v.at_.z,0⟩⟩ (aM (aC y) ⟨⟨px,0⟩,⟨pz,0⟩⟩ (aF y.b))) (aF y.a)).x.b⟩,⟨(aM (aC y) (bF ⟨⟨v.at_.x,0⟩,⟨v.at_.z,0⟩⟩ (aM (aC y) ⟨⟨px,0⟩,⟨pz,0⟩⟩ (aF y.b))) (aF y.a)).z.a,(aM (aC y) (bF ⟨⟨v.at_.x,0⟩,⟨v.at_.z,0⟩⟩ (aM (aC y) ⟨⟨px,0⟩,⟨pz,0⟩⟩ (aF y.b))) (aF y.a)).z.b⟩⟩ ⟨h.c,0⟩ ⟨h.s,0⟩).x.b)⟩,⟨((bQ (aC y) ⟨⟨(aM (aC y) (bF ⟨⟨v.at_.x,0⟩,⟨v.at_.z,0⟩⟩ (aM (aC y) ⟨⟨px,0⟩,⟨pz,0⟩⟩ (aF y.b))) (aF y.a)).x.a,(aM (aC y) (bF ⟨⟨v.at_.x,0⟩,⟨v.at_.z,0⟩⟩ (aM (aC y) ⟨⟨px,0⟩,⟨pz,0⟩⟩ (aF y.b))) (aF y.a)).x.b⟩,⟨(aM (aC y) (bF ⟨⟨v.at_.x,0⟩,⟨v.at_.z,0⟩⟩ (aM (aC y) ⟨⟨px,0⟩,⟨pz,0⟩⟩ (aF y.b))) (aF y.a)).z.a,(aM (aC y) (bF ⟨⟨v.at_.x,0⟩,⟨v.at_.z,0⟩⟩ (aM (aC y) ⟨⟨px,0⟩,⟨pz,0⟩⟩ (aF y.b))) (aF y.a)).z.b⟩⟩ ⟨h.c,0⟩ ⟨h.s,0⟩).z.a),((bQ (aC y) ⟨⟨(aM (aC y) (bF ⟨⟨v.at_.x,0⟩,⟨v.at_.z,0⟩⟩ (aM (aC y) ⟨⟨px,0⟩,⟨pz,0⟩⟩ (aF y.b))) (aF y.a)).x.a,(aM (aC y) (bF ⟨⟨v.at_.x,0⟩,⟨v.at_.z,0⟩⟩ (aM (aC y) ⟨⟨px,0⟩,⟨pz,0⟩⟩ (aF y.b))) (aF y.a)).x.b⟩,⟨(aM (aC y) (bF ⟨⟨v.at_.x,0⟩,⟨v.at_.z,0⟩⟩ (aM (aC y) ⟨⟨px,0⟩,⟨pz,0⟩⟩ (aF y.b))) (aF y.a)).z.a,(aM (aC y) (bF ⟨⟨v.at_.x,0⟩,⟨v.at_.z,0⟩⟩ (aM (aC y) ⟨⟨px,0⟩,⟨pz,0⟩⟩ (aF y.b))) (aF y.a)).z.b⟩⟩ ⟨h.c,0⟩ ⟨h.s,0⟩).z.b)⟩⟩ ⟨⟨h.at_.x,0⟩,⟨h.at_.z,0⟩⟩).z.b) (((SZ 300)+0+(SZ 300)+0+266108+266108+266108+266108+2*300+18)+0+2)]) (.agg [.q (cM h v.at_ ⟨px,pz⟩ y).x.a 1125540,.q (cM h v.at_ ⟨px,pz⟩ y).x.b 1125540,.q (cM h v.at_ ⟨px,pz⟩ y).z.a 1125540,.q (cM h v.at_ ⟨px,pz⟩ y).z.b 1125540]) from ?_) (dc (((SZ 300)+0+(SZ 300)+0+266108+266108+266108+266108+2*300+18)+((SZ 300)+0+(SZ 300)+0+266108+266108+266108+266108+2*300+18)+((SZ 300)+0+(SZ 300)+0+266108+266108+266108+266108+2*300+18)+((SZ 300)+0+(SZ 300)+0+266108+266108+266108+266108+2*300+18)+(4*SZ 300+608)+0+(4*SZ 300+608)+0+300+600<=LIM)) v0 v0)) (t:=[.code .ret]) (σ:=slots 121 [(10,.ptr 0 9 0 0),(11,.ptr 1 9 0 0),(12,.i6 (0:Int))]) (h:=[some ⟨106,9,false,[[.q (((if Int.sign (aC y).num<0 then (⟨0,0,0⟩:Sd) else bS ⟨(cM h v.at_ ⟨px,pz⟩ y).x.a,(cM h v.at_ ⟨px,pz⟩ y).x.b,(aC y)⟩)).a) (1125540+1125540+300+5),.q (((if Int.sign (aC y).num<0 then (⟨0,0,0⟩:Sd) else bS ⟨(cM h v.at_ ⟨px,pz⟩ y).x.a,(cM h v.at_ ⟨px,pz⟩ y).x.b,(aC y)⟩)).b) (1125540+300+3),.q (((if Int.sign (aC y).num<0 then (⟨0,0,0⟩:Sd) else bS ⟨(cM h v.at_ ⟨px,pz⟩ y).x.a,(cM h v.at_ ⟨px,pz⟩ y).x.b,(aC y)⟩)).d) (2*300+3)]],none⟩,some ⟨106,9,false,[[.q (((if Int.sign (aC y).num<0 then (⟨0,0,0⟩:Sd) else bS ⟨(cM h v.at_ ⟨px,pz⟩ y).z.a,(cM h v.at_ ⟨px,pz⟩ y).z.b,(aC y)⟩)).a) (1125540+1125540+300+5),.q (((if Int.sign (aC y).num<0 then (⟨0,0,0⟩:Sd) else bS ⟨(cM h v.at_ ⟨px,pz⟩ y).z.a,(cM h v.at_ ⟨px,pz⟩ y).z.b,(aC y)⟩)).b) (1125540+300+3),.q (((if Int.sign (aC y).num<0 then (⟨0,0,0⟩:Sd) else bS ⟨(cM h v.at_ ⟨px,pz⟩ y).z.a,(cM h v.at_ ⟨px,pz⟩ y).z.b,(aC y)⟩)).d) (2*300+3)]],none⟩]) ?_
 · exact Ref.agg (RefC.cons (RefC.q_eq rfl (by decide)) (RefC.cons (RefC.q_eq rfl (by decide)) (RefC.cons (RefC.q_eq rfl (by decide)) (RefC.q_eq rfl (by decide)))))
 · exact Ref.agg (RefC.cons (RefC.q_eq rfl (by decide)) (RefC.cons (RefC.q_eq rfl (by decide)) (RefC.cons (RefC.q_eq rfl (by decide)) (RefC.q_eq rfl (by decide)))))
 · exact Ref.agg (RefC.cons (RefC.q_eq rfl (by decide)) (RefC.cons (RefC.q_eq rfl (by decide)) (RefC.cons (RefC.q_eq rfl (by decide)) (RefC.q_eq rfl (by decide)))))
 refine gE [.agg [.q (mU (aC y) (cM h v.at_ ⟨px,pz⟩ y).x).a 2251385,.q (mU (aC y) (cM h v.at_ ⟨px,pz⟩ y).x).b 1125843,.q (mU (aC y) (cM h v.at_ ⟨px,pz⟩ y).x).d 603],.agg [.q (mU (aC y) (cM h v.at_ ⟨px,pz⟩ y).z).a 2251385,.q (mU (aC y) (cM h v.at_ ⟨px,pz⟩ y).z).b 1125843,.q (mU (aC y) (cM h v.at_ ⟨px,pz⟩ y).z).d 603],.i6 0] ?_;have e1:dL m p b ⟨px,pz⟩ y=(mU (aC y) (cM h v.at_ ⟨px,pz⟩ y).x,mU (aC y) (cM h v.at_ ⟨px,pz⟩ y).z):=by rw[hh,hv];exact if_pos hE
 rw[e1,hE];exact Ref.tup3 (Ref.agg (RefC.cons (RefC.q_eq rfl (by decide)) (RefC.cons (RefC.q_eq rfl (by decide)) (RefC.q_eq rfl (by decide))))) (Ref.agg (RefC.cons (RefC.q_eq rfl (by decide)) (RefC.cons (RefC.q_eq rfl (by decide)) (RefC.q_eq rfl (by decide))))) rr rfl rfl rfl rfl rfl rfl
def Ry:KF
 | [.agg M,.agg [.q ax jb,.q az A2,.q tu A3,.list 3 J],.int .i64 b,.agg [.q px B,.q pz C],.agg [.q a1 A1,.q a2 A2b,.q a3 A3b,.q b1 B1,.q b2 B2,.q b3 B3,.bool bw]]=>some (.tup [.agg [.q (dL (aG M) ⟨⟨ax,az⟩,tu,J.map gX⟩ b ⟨px,pz⟩ ⟨⟨a1,a2,a3⟩,⟨b1,b2,b3⟩,bw⟩).1.a 2251385,.q (dL (aG M) ⟨⟨ax,az⟩,tu,J.map gX⟩ b ⟨px,pz⟩ ⟨⟨a1,a2,a3⟩,⟨b1,b2,b3⟩,bw⟩).1.b 2251385,.q (dL (aG M) ⟨⟨ax,az⟩,tu,J.map gX⟩ b ⟨px,pz⟩ ⟨⟨a1,a2,a3⟩,⟨b1,b2,b3⟩,bw⟩).1.d 2251385],.agg [.q (dL (aG M) ⟨⟨ax,az⟩,tu,J.map gX⟩ b ⟨px,pz⟩ ⟨⟨a1,a2,a3⟩,⟨b1,b2,b3⟩,bw⟩).2.a 2251385,.q (dL (aG M) ⟨⟨ax,az⟩,tu,J.map gX⟩ b ⟨px,pz⟩ ⟨⟨a1,a2,a3⟩,⟨b1,b2,b3⟩,bw⟩).2.b 2251385,.q (dL (aG M) ⟨⟨ax,az⟩,tu,J.map gX⟩ b ⟨px,pz⟩ ⟨⟨a1,a2,a3⟩,⟨b1,b2,b3⟩,bw⟩).2.d 2251385],.int .i64 (fD (aG M) J.length b ⟨⟨a1,a2,a3⟩,⟨b1,b2,b3⟩,bw⟩)],[M=aE 300 (aG M),(aG M).small,(aG M).bodies.length<=8,A2<=jb,A3<=jb,jb<=100000,Ref (.list 3 J) (.list 3 ((J.map gX).map (dU jb))),J.length<=4611686018427387904,jb=300,B=300,C=300,A1=300,A2b=300,A3b=300,B1=300,B2=300,B3=300])
 | _=>none
theorem Uf   (args:List AV) (r:AV) (ob:List Prop) (h:Ry args=some (r,ob)) (ho:AllP ob):qL Tryz.prog 41 args r:=by
 unfold Ry at h
 split at h
 · rename_i M ax jb az A2 tu A3 J b px B pz C a1 A1 a2 A2b a3 A3b b1 B1 b2 B2 b3 B3 bw
   cases h;have o1:M=aE 300 (aG M):=ho _ (by simp);have o2:(aG M).small:=ho _ (by simp);have o3:(aG M).bodies.length<=8:=ho _ (by simp);have o4:A2<=jb:=ho _ (by simp);have o5:A3<=jb:=ho _ (by simp);have o6:jb<=100000:=ho _ (by simp);have o7:Ref (.list 3 J) (.list 3 ((J.map gX).map (dU jb))):=ho _ (by simp);have o8:J.length<=4611686018427387904:=ho _ (by simp);have o9:jb=300:=ho _ (by simp);have o10:B=300:=ho _ (by simp);have o11:C=300:=ho _ (by simp);have o12:A1=300:=ho _ (by simp);have o13:A2b=300:=ho _ (by simp);have o14:A3b=300:=ho _ (by simp);have o15:B1=300:=ho _ (by simp);have o16:B2=300:=ho _ (by simp);have o17:B3=300:=ho _ (by simp);clear ho;subst o9;subst o10;subst o11;subst o12;subst o13;subst o14;subst o15;subst o16;subst o17;refine af Tryz.f41 fun S w0=> ?_
   obtain⟨y,hy⟩:∃ y:BendD,y=⟨⟨a1,a2,a3⟩,⟨b1,b2,b3⟩,bw⟩:=⟨_,rfl⟩;have e:kY [.agg M,.agg [.q ax 300,.q az A2,.q tu A3,.list 3 J],.i6 b,.agg [.q px 300,.q pz 300],.agg [.q a1 300,.q a2 300,.q a3 300,.q b1 300,.q b2 300,.q b3 300,.bool bw]] Tryz.f41.ntmps=⟨slots 121 [(0,.agg M),(1,.agg [.q ax 300,.q az A2,.q tu A3,.list 3 J]),(2,.i6 b),(3,.agg [.q px 300,.q pz 300]),(4,.agg (cR 300 300 300 300 y))],[]⟩:=by subst hy;kernel_rfl
   rw[e];clear e;rw[<- hy];clear hy;generalize hm:aG M=m at*;subst o1;clear hm;obtain⟨p,hp⟩:∃ p:PoseD,p=⟨⟨ax,az⟩,tu,J.map gX⟩:=⟨_,rfl⟩;have hpj:p.joints.length=J.length:=by rw[hp];simp
   rw[<- hp]
   try rw[<- hpj]
   refine Good.weak 121 [(0,.agg (aE 300 m)),(1,.agg (bB 300 p)),(2,.i6 b),(3,.agg [.q px 300,.q pz 300]),(4,.agg (cR 300 300 300 300 y))] (by kernel_rfl) (.r (.cons (by rw[hp];exact Ref.pose o4 o5 o7) (.r (.r (.r .nil))))) ?_;clear hp;have s1:aE 300 m=aE 300 (aG (aE 300 m)):=by rw[aW]
   have s2:(aG (aE 300 m)).small:=by rw[aW];exact o2
   have s3:(aG (aE 300 m)).bodies.length<=8:=by rw[aW];exact o3
   have s4:Ref (.list 3 (p.joints.map (dU 300))) (.list 3 (((p.joints.map (dU 300)).map gX).map (dU 300))):=Ref.eq (by rw[jK]);have s5:(p.joints.map (dU 300)).length<=4611686018427387904:=by rw[bM,hpj];exact o8
   have s7:SZ 300<=153753600:=by unfold SZ;omega
   have s8:LIM=17592186044416:=rfl;obtain⟨h,hh⟩:∃ h,h=iS m p b:=⟨_,rfl⟩;obtain⟨u,hu⟩:∃ u,u=nZ m b:=⟨_,rfl⟩;obtain⟨v,hv⟩:∃ v,v=jS m b:=⟨_,rfl⟩;have v0:300<=100000:=by omega
   by_cases hw:dP m p.joints.length b=0
   · have rL :=DQ (jb:=300) (px:=px) (pz:=pz) (B:=300) (C:=300) hh hu hv hw
     have two0:(2:Int)≠0:=by decide
     have F0:y.a.d=0->aC y=y.b.d:=fun e=>if_pos e
     have F1:¬ y.a.d=0->aC y=y.a.d:=fun e=>if_neg e
     have v1:300+300+200<=LIM:=by omega
     by_cases k0:y.a.d=0
     · have h1:Int.sign y.a.d.num=0:=cH.1.2 k0
       have k1:¬ y.a.d<0:=by rw[k0];exact Rat.lt_irrefl
       have h2:¬ Int.sign y.a.d.num<0:=fun e=>k1 (cH.2.1 e)
       by_cases k2:y.b.d<0
       · have h3:=cH.2.2 k2
         refine gR gH (some 9) [9,10,11,12,13,14] [3,4,5,7,8] [(21,.tup [.agg [.q h.at_.x (4*SZ 300+608),.q h.at_.z (4*SZ 300+608),.q h.c (SZ 300),.q h.s (SZ 300),.str u.name,.i6 u.par,.q u.at_.x 300,.q u.at_.z 300,.q u.ma 300,.q u.inr 300,.q u.c.x 300,.q u.c.z 300,.q u.low 300,.q u.high 300,.list 6 (u.shape.map (dV 300)),.str v.name,.i6 v.par,.q v.at_.x 300,.q v.at_.z 300,.q v.ma 300,.q v.inr 300,.q v.c.x 300,.q v.c.z 300,.q v.low 300,.q v.high 300,.list 6 (v.shape.map (dV 300)),.q px 300,.q pz 300],.i6 (0:Int)]),(37,tt),(47,ff),(54,tt)] (.c6 rL s1 s2 s3 (rl 300) (rl 300) (.a6 v0 s4 s5 (iT h1) (iF h2) (iT h3))) (t:=AH) (σ:=slots 121 [(9,.ptr 0 19 0 0),(10,.ptr 1 9 0 0),(11,.ptr 2 9 0 0),(12,.i6 (2:Int)),(13,.ptr 3 72 0 0),(14,.ptr 4 3 0 0)]) (h:=[some ⟨110,19,false,[(cR 300 300 300 300 y)],none⟩,some ⟨106,9,false,[[.q 0 0,.q 0 0,.q 0 0]],none⟩,some ⟨106,9,false,[[.q 0 0,.q 0 0,.q 0 0]],none⟩,some ⟨267,72,false,[[.q h.at_.x (4*SZ 300+608),.q h.at_.z (4*SZ 300+608),.q h.c (SZ 300),.q h.s (SZ 300),.str u.name,.i6 u.par,.q u.at_.x 300,.q u.at_.z 300,.q u.ma 300,.q u.inr 300,.q u.c.x 300,.q u.c.z 300,.q u.low 300,.q u.high 300,.list 6 (u.shape.map (dV 300)),.str v.name,.i6 v.par,.q v.at_.x 300,.q v.at_.z 300,.q v.ma 300,.q v.inr 300,.q v.c.x 300,.q v.c.z 300,.q v.low 300,.q v.high 300,.list 6 (v.shape.map (dV 300)),.q px 300,.q pz 300]],none⟩,some ⟨274,3,false,[[.q y.b.d 300]],none⟩]) ?_
         have e2:fD m p.joints.length b y=2:=by rw[fD,if_pos hw,if_pos (.inr (.inl k2))]
         exact gE [.agg [.q 0 0,.q 0 0,.q 0 0],.agg [.q 0 0,.q 0 0,.q 0 0],.i6 2] (Ca e2 two0)
       · have h3:¬ Int.sign y.b.d.num<0:=fun e=>k2 (cH.2.1 e)
         by_cases k3:y.b.d=0
         · have h4:=cH.1.2 k3
           have eE:=sC (n:=p.joints.length) hw k1 k2 (.inl k3);refine gR gH (some 9) [9,10,11,12,13,14] [3,4,5,7,8] [(21,.tup [.agg [.q h.at_.x (4*SZ 300+608),.q h.at_.z (4*SZ 300+608),.q h.c (SZ 300),.q h.s (SZ 300),.str u.name,.i6 u.par,.q u.at_.x 300,.q u.at_.z 300,.q u.ma 300,.q u.inr 300,.q u.c.x 300,.q u.c.z 300,.q u.low 300,.q u.high 300,.list 6 (u.shape.map (dV 300)),.str v.name,.i6 v.par,.q v.at_.x 300,.q v.at_.z 300,.q v.ma 300,.q v.inr 300,.q v.c.x 300,.q v.c.z 300,.q v.low 300,.q v.high 300,.list 6 (v.shape.map (dV 300)),.q px 300,.q pz 300],.i6 (0:Int)]),(37,tt),(47,ff),(54,ff),(60,ff)] (.c6 rL s1 s2 s3 (rl 300) (rl 300) (.c6 v0 s4 s5 (iT h1) (iF h2) (iF h3) (.a1 (jF h4)))) (t:=xM) (σ:=slots 121 [(9,.ptr 0 19 0 0),(10,.ptr 1 9 0 0),(11,.ptr 2 9 0 0),(12,.i6 (0:Int)),(13,.ptr 3 72 0 0),(14,.ptr 4 3 0 0)]) (h:=[some ⟨110,19,false,[(cR 300 300 300 300 y)],none⟩,some ⟨106,9,false,[[.q 0 0,.q 0 0,.q 0 0]],none⟩,some ⟨106,9,false,[[.q 0 0,.q 0 0,.q 0 0]],none⟩,some ⟨267,72,false,[[.q h.at_.x (4*SZ 300+608),.q h.at_.z (4*SZ 300+608),.q h.c (SZ 300),.q h.s (SZ 300),.str u.name,.i6 u.par,.q u.at_.x 300,.q u.at_.z 300,.q u.ma 300,.q u.inr 300,.q u.c.x 300,.q u.c.z 300,.q u.low 300,.q u.high 300,.list 6 (u.shape.map (dV 300)),.str v.name,.i6 v.par,.q v.at_.x 300,.q v.at_.z 300,.q v.ma 300,.q v.inr 300,.q v.c.x 300,.q v.c.z 300,.q v.low 300,.q v.high 300,.list 6 (v.shape.map (dV 300)),.q px 300,.q pz 300]],none⟩,some ⟨274,3,false,[[.q y.b.d 300]],none⟩]) ?_
           refine Good.weakB (b:=⟨274,3,false,[[.q y.b.d 300]],none⟩) (el':=[.q (aC y) 300]) 4 0 (by rfl) (by rfl) (RefC.q_eq (F0 k0).symm (rl _)) ?_;exact uT (m:=m) (p:=p) (b:=b) (px:=px) (pz:=pz) (y:=y) (h:=h) (u:=u) (v:=v) hh hv eE
         · have h4:¬ Int.sign y.b.d.num=0:=fun e=>k3 (cH.1.1 e)
           have h5:jI y.b.d y.b.d=0:=fW.2 rfl;have eE:=sC (n:=p.joints.length) hw k1 k2 (.inr (F0 k0));refine gR gH (some 9) [9,10,11,12,13,14] [3,4,5,7,8] [(21,.tup [.agg [.q h.at_.x (4*SZ 300+608),.q h.at_.z (4*SZ 300+608),.q h.c (SZ 300),.q h.s (SZ 300),.str u.name,.i6 u.par,.q u.at_.x 300,.q u.at_.z 300,.q u.ma 300,.q u.inr 300,.q u.c.x 300,.q u.c.z 300,.q u.low 300,.q u.high 300,.list 6 (u.shape.map (dV 300)),.str v.name,.i6 v.par,.q v.at_.x 300,.q v.at_.z 300,.q v.ma 300,.q v.inr 300,.q v.c.x 300,.q v.c.z 300,.q v.low 300,.q v.high 300,.list 6 (v.shape.map (dV 300)),.q px 300,.q pz 300],.i6 (0:Int)]),(37,tt),(47,ff),(54,ff),(60,tt),(69,ff)] (.c6 rL s1 s2 s3 (rl 300) (rl 300) (.c6 v0 s4 s5 (iT h1) (iF h2) (iF h3) (.a3 (jT h4) v1 (jF h5)))) (t:=xM) (σ:=slots 121 [(9,.ptr 0 19 0 0),(10,.ptr 1 9 0 0),(11,.ptr 2 9 0 0),(12,.i6 (0:Int)),(13,.ptr 3 72 0 0),(14,.ptr 4 3 0 0)]) (h:=[some ⟨110,19,false,[(cR 300 300 300 300 y)],none⟩,some ⟨106,9,false,[[.q 0 0,.q 0 0,.q 0 0]],none⟩,some ⟨106,9,false,[[.q 0 0,.q 0 0,.q 0 0]],none⟩,some ⟨267,72,false,[[.q h.at_.x (4*SZ 300+608),.q h.at_.z (4*SZ 300+608),.q h.c (SZ 300),.q h.s (SZ 300),.str u.name,.i6 u.par,.q u.at_.x 300,.q u.at_.z 300,.q u.ma 300,.q u.inr 300,.q u.c.x 300,.q u.c.z 300,.q u.low 300,.q u.high 300,.list 6 (u.shape.map (dV 300)),.str v.name,.i6 v.par,.q v.at_.x 300,.q v.at_.z 300,.q v.ma 300,.q v.inr 300,.q v.c.x 300,.q v.c.z 300,.q v.low 300,.q v.high 300,.list 6 (v.shape.map (dV 300)),.q px 300,.q pz 300]],none⟩,some ⟨274,3,false,[[.q y.b.d 300]],none⟩]) ?_
           refine Good.weakB (b:=⟨274,3,false,[[.q y.b.d 300]],none⟩) (el':=[.q (aC y) 300]) 4 0 (by rfl) (by rfl) (RefC.q_eq (F0 k0).symm (rl _)) ?_;exact uT (m:=m) (p:=p) (b:=b) (px:=px) (pz:=pz) (y:=y) (h:=h) (u:=u) (v:=v) hh hv eE
     · have h1 :¬ Int.sign y.a.d.num=0:=fun e=>k0 (cH.1.1 e)
       by_cases k1:y.a.d<0
       · have h2:=cH.2.2 k1
         refine gR gH (some 9) [9,10,11,12,13,14] [3,4,5,7,8] [(21,.tup [.agg [.q h.at_.x (4*SZ 300+608),.q h.at_.z (4*SZ 300+608),.q h.c (SZ 300),.q h.s (SZ 300),.str u.name,.i6 u.par,.q u.at_.x 300,.q u.at_.z 300,.q u.ma 300,.q u.inr 300,.q u.c.x 300,.q u.c.z 300,.q u.low 300,.q u.high 300,.list 6 (u.shape.map (dV 300)),.str v.name,.i6 v.par,.q v.at_.x 300,.q v.at_.z 300,.q v.ma 300,.q v.inr 300,.q v.c.x 300,.q v.c.z 300,.q v.low 300,.q v.high 300,.list 6 (v.shape.map (dV 300)),.q px 300,.q pz 300],.i6 (0:Int)]),(37,ff),(47,tt)] (.c6 rL s1 s2 s3 (rl 300) (rl 300) (.a5 v0 s4 s5 (iF h1) (iT h2))) (t:=AH) (σ:=slots 121 [(9,.ptr 0 19 0 0),(10,.ptr 1 9 0 0),(11,.ptr 2 9 0 0),(12,.i6 (2:Int)),(13,.ptr 3 72 0 0),(14,.ptr 4 3 0 0)]) (h:=[some ⟨110,19,false,[(cR 300 300 300 300 y)],none⟩,some ⟨106,9,false,[[.q 0 0,.q 0 0,.q 0 0]],none⟩,some ⟨106,9,false,[[.q 0 0,.q 0 0,.q 0 0]],none⟩,some ⟨267,72,false,[[.q h.at_.x (4*SZ 300+608),.q h.at_.z (4*SZ 300+608),.q h.c (SZ 300),.q h.s (SZ 300),.str u.name,.i6 u.par,.q u.at_.x 300,.q u.at_.z 300,.q u.ma 300,.q u.inr 300,.q u.c.x 300,.q u.c.z 300,.q u.low 300,.q u.high 300,.list 6 (u.shape.map (dV 300)),.str v.name,.i6 v.par,.q v.at_.x 300,.q v.at_.z 300,.q v.ma 300,.q v.inr 300,.q v.c.x 300,.q v.c.z 300,.q v.low 300,.q v.high 300,.list 6 (v.shape.map (dV 300)),.q px 300,.q pz 300]],none⟩,some ⟨274,3,false,[[.q y.a.d 300]],none⟩]) ?_
         have e2:fD m p.joints.length b y=2:=by rw[fD,if_pos hw,if_pos (.inl k1)]
         exact gE [.agg [.q 0 0,.q 0 0,.q 0 0],.agg [.q 0 0,.q 0 0,.q 0 0],.i6 2] (Ca e2 two0)
       · have h2:¬ Int.sign y.a.d.num<0:=fun e=>k1 (cH.2.1 e)
         by_cases k2:y.b.d<0
         · have h3:=cH.2.2 k2
           refine gR gH (some 9) [9,10,11,12,13,14] [3,4,5,7,8] [(21,.tup [.agg [.q h.at_.x (4*SZ 300+608),.q h.at_.z (4*SZ 300+608),.q h.c (SZ 300),.q h.s (SZ 300),.str u.name,.i6 u.par,.q u.at_.x 300,.q u.at_.z 300,.q u.ma 300,.q u.inr 300,.q u.c.x 300,.q u.c.z 300,.q u.low 300,.q u.high 300,.list 6 (u.shape.map (dV 300)),.str v.name,.i6 v.par,.q v.at_.x 300,.q v.at_.z 300,.q v.ma 300,.q v.inr 300,.q v.c.x 300,.q v.c.z 300,.q v.low 300,.q v.high 300,.list 6 (v.shape.map (dV 300)),.q px 300,.q pz 300],.i6 (0:Int)]),(37,ff),(47,ff),(54,tt)] (.c6 rL s1 s2 s3 (rl 300) (rl 300) (.a6 v0 s4 s5 (iF h1) (iF h2) (iT h3))) (t:=AH) (σ:=slots 121 [(9,.ptr 0 19 0 0),(10,.ptr 1 9 0 0),(11,.ptr 2 9 0 0),(12,.i6 (2:Int)),(13,.ptr 3 72 0 0),(14,.ptr 4 3 0 0)]) (h:=[some ⟨110,19,false,[(cR 300 300 300 300 y)],none⟩,some ⟨106,9,false,[[.q 0 0,.q 0 0,.q 0 0]],none⟩,some ⟨106,9,false,[[.q 0 0,.q 0 0,.q 0 0]],none⟩,some ⟨267,72,false,[[.q h.at_.x (4*SZ 300+608),.q h.at_.z (4*SZ 300+608),.q h.c (SZ 300),.q h.s (SZ 300),.str u.name,.i6 u.par,.q u.at_.x 300,.q u.at_.z 300,.q u.ma 300,.q u.inr 300,.q u.c.x 300,.q u.c.z 300,.q u.low 300,.q u.high 300,.list 6 (u.shape.map (dV 300)),.str v.name,.i6 v.par,.q v.at_.x 300,.q v.at_.z 300,.q v.ma 300,.q v.inr 300,.q v.c.x 300,.q v.c.z 300,.q v.low 300,.q v.high 300,.list 6 (v.shape.map (dV 300)),.q px 300,.q pz 300]],none⟩,some ⟨274,3,false,[[.q y.a.d 300]],none⟩]) ?_
           have e2:fD m p.joints.length b y=2:=by rw[fD,if_pos hw,if_pos (.inr (.inl k2))]
           exact gE [.agg [.q 0 0,.q 0 0,.q 0 0],.agg [.q 0 0,.q 0 0,.q 0 0],.i6 2] (Ca e2 two0)
         · have h3:¬ Int.sign y.b.d.num<0:=fun e=>k2 (cH.2.1 e)
           by_cases k3:y.b.d=0
           · have h4:=cH.1.2 k3
             have eE:=sC (n:=p.joints.length) hw k1 k2 (.inl k3);refine gR gH (some 9) [9,10,11,12,13,14] [3,4,5,7,8] [(21,.tup [.agg [.q h.at_.x (4*SZ 300+608),.q h.at_.z (4*SZ 300+608),.q h.c (SZ 300),.q h.s (SZ 300),.str u.name,.i6 u.par,.q u.at_.x 300,.q u.at_.z 300,.q u.ma 300,.q u.inr 300,.q u.c.x 300,.q u.c.z 300,.q u.low 300,.q u.high 300,.list 6 (u.shape.map (dV 300)),.str v.name,.i6 v.par,.q v.at_.x 300,.q v.at_.z 300,.q v.ma 300,.q v.inr 300,.q v.c.x 300,.q v.c.z 300,.q v.low 300,.q v.high 300,.list 6 (v.shape.map (dV 300)),.q px 300,.q pz 300],.i6 (0:Int)]),(37,ff),(47,ff),(54,ff),(60,ff)] (.c6 rL s1 s2 s3 (rl 300) (rl 300) (.c6 v0 s4 s5 (iF h1) (iF h2) (iF h3) (.a1 (jF h4)))) (t:=xM) (σ:=slots 121 [(9,.ptr 0 19 0 0),(10,.ptr 1 9 0 0),(11,.ptr 2 9 0 0),(12,.i6 (0:Int)),(13,.ptr 3 72 0 0),(14,.ptr 4 3 0 0)]) (h:=[some ⟨110,19,false,[(cR 300 300 300 300 y)],none⟩,some ⟨106,9,false,[[.q 0 0,.q 0 0,.q 0 0]],none⟩,some ⟨106,9,false,[[.q 0 0,.q 0 0,.q 0 0]],none⟩,some ⟨267,72,false,[[.q h.at_.x (4*SZ 300+608),.q h.at_.z (4*SZ 300+608),.q h.c (SZ 300),.q h.s (SZ 300),.str u.name,.i6 u.par,.q u.at_.x 300,.q u.at_.z 300,.q u.ma 300,.q u.inr 300,.q u.c.x 300,.q u.c.z 300,.q u.low 300,.q u.high 300,.list 6 (u.shape.map (dV 300)),.str v.name,.i6 v.par,.q v.at_.x 300,.q v.at_.z 300,.q v.ma 300,.q v.inr 300,.q v.c.x 300,.q v.c.z 300,.q v.low 300,.q v.high 300,.list 6 (v.shape.map (dV 300)),.q px 300,.q pz 300]],none⟩,some ⟨274,3,false,[[.q y.a.d 300]],none⟩]) ?_
             refine Good.weakB (b:=⟨274,3,false,[[.q y.a.d 300]],none⟩) (el':=[.q (aC y) 300]) 4 0 (by rfl) (by rfl) (RefC.q_eq (F1 k0).symm (rl _)) ?_;exact uT (m:=m) (p:=p) (b:=b) (px:=px) (pz:=pz) (y:=y) (h:=h) (u:=u) (v:=v) hh hv eE
           · have h4:¬ Int.sign y.b.d.num=0:=fun e=>k3 (cH.1.1 e)
             by_cases k5:y.a.d=y.b.d
             · have h5:jI y.a.d y.b.d=0:=fW.2 k5
               have eE:=sC (n:=p.joints.length) hw k1 k2 (.inr ((F1 k0).trans k5));refine gR gH (some 9) [9,10,11,12,13,14] [3,4,5,7,8] [(21,.tup [.agg [.q h.at_.x (4*SZ 300+608),.q h.at_.z (4*SZ 300+608),.q h.c (SZ 300),.q h.s (SZ 300),.str u.name,.i6 u.par,.q u.at_.x 300,.q u.at_.z 300,.q u.ma 300,.q u.inr 300,.q u.c.x 300,.q u.c.z 300,.q u.low 300,.q u.high 300,.list 6 (u.shape.map (dV 300)),.str v.name,.i6 v.par,.q v.at_.x 300,.q v.at_.z 300,.q v.ma 300,.q v.inr 300,.q v.c.x 300,.q v.c.z 300,.q v.low 300,.q v.high 300,.list 6 (v.shape.map (dV 300)),.q px 300,.q pz 300],.i6 (0:Int)]),(37,ff),(47,ff),(54,ff),(60,tt),(69,ff)] (.c6 rL s1 s2 s3 (rl 300) (rl 300) (.c6 v0 s4 s5 (iF h1) (iF h2) (iF h3) (.a3 (jT h4) v1 (jF h5)))) (t:=xM) (σ:=slots 121 [(9,.ptr 0 19 0 0),(10,.ptr 1 9 0 0),(11,.ptr 2 9 0 0),(12,.i6 (0:Int)),(13,.ptr 3 72 0 0),(14,.ptr 4 3 0 0)]) (h:=[some ⟨110,19,false,[(cR 300 300 300 300 y)],none⟩,some ⟨106,9,false,[[.q 0 0,.q 0 0,.q 0 0]],none⟩,some ⟨106,9,false,[[.q 0 0,.q 0 0,.q 0 0]],none⟩,some ⟨267,72,false,[[.q h.at_.x (4*SZ 300+608),.q h.at_.z (4*SZ 300+608),.q h.c (SZ 300),.q h.s (SZ 300),.str u.name,.i6 u.par,.q u.at_.x 300,.q u.at_.z 300,.q u.ma 300,.q u.inr 300,.q u.c.x 300,.q u.c.z 300,.q u.low 300,.q u.high 300,.list 6 (u.shape.map (dV 300)),.str v.name,.i6 v.par,.q v.at_.x 300,.q v.at_.z 300,.q v.ma 300,.q v.inr 300,.q v.c.x 300,.q v.c.z 300,.q v.low 300,.q v.high 300,.list 6 (v.shape.map (dV 300)),.q px 300,.q pz 300]],none⟩,some ⟨274,3,false,[[.q y.a.d 300]],none⟩]) ?_
               refine Good.weakB (b:=⟨274,3,false,[[.q y.a.d 300]],none⟩) (el':=[.q (aC y) 300]) 4 0 (by rfl) (by rfl) (RefC.q_eq (F1 k0).symm (rl _)) ?_;exact uT (m:=m) (p:=p) (b:=b) (px:=px) (pz:=pz) (y:=y) (h:=h) (u:=u) (v:=v) hh hv eE
             · have h5:¬ jI y.a.d y.b.d=0:=fun e=>k5 (fW.1 e)
               refine gR gH (some 9) [9,10,11,12,13,14] [3,4,5,7,8] [(21,.tup [.agg [.q h.at_.x (4*SZ 300+608),.q h.at_.z (4*SZ 300+608),.q h.c (SZ 300),.q h.s (SZ 300),.str u.name,.i6 u.par,.q u.at_.x 300,.q u.at_.z 300,.q u.ma 300,.q u.inr 300,.q u.c.x 300,.q u.c.z 300,.q u.low 300,.q u.high 300,.list 6 (u.shape.map (dV 300)),.str v.name,.i6 v.par,.q v.at_.x 300,.q v.at_.z 300,.q v.ma 300,.q v.inr 300,.q v.c.x 300,.q v.c.z 300,.q v.low 300,.q v.high 300,.list 6 (v.shape.map (dV 300)),.q px 300,.q pz 300],.i6 (0:Int)]),(37,ff),(47,ff),(54,ff),(60,tt),(69,tt)] (.c6 rL s1 s2 s3 (rl 300) (rl 300) (.c6 v0 s4 s5 (iF h1) (iF h2) (iF h3) (.a3 (jT h4) v1 (jT h5)))) (t:=AH) (σ:=slots 121 [(9,.ptr 0 19 0 0),(10,.ptr 1 9 0 0),(11,.ptr 2 9 0 0),(12,.i6 (2:Int)),(13,.ptr 3 72 0 0),(14,.ptr 4 3 0 0)]) (h:=[some ⟨110,19,false,[(cR 300 300 300 300 y)],none⟩,some ⟨106,9,false,[[.q 0 0,.q 0 0,.q 0 0]],none⟩,some ⟨106,9,false,[[.q 0 0,.q 0 0,.q 0 0]],none⟩,some ⟨267,72,false,[[.q h.at_.x (4*SZ 300+608),.q h.at_.z (4*SZ 300+608),.q h.c (SZ 300),.q h.s (SZ 300),.str u.name,.i6 u.par,.q u.at_.x 300,.q u.at_.z 300,.q u.ma 300,.q u.inr 300,.q u.c.x 300,.q u.c.z 300,.q u.low 300,.q u.high 300,.list 6 (u.shape.map (dV 300)),.str v.name,.i6 v.par,.q v.at_.x 300,.q v.at_.z 300,.q v.ma 300,.q v.inr 300,.q v.c.x 300,.q v.c.z 300,.q v.low 300,.q v.high 300,.list 6 (v.shape.map (dV 300)),.q px 300,.q pz 300]],none⟩,some ⟨274,3,false,[[.q y.a.d 300]],none⟩]) ?_
               have e2:fD m p.joints.length b y=2:=by rw[fD,if_pos hw,if_pos (.inr (.inr ⟨k3,by rw[F1 k0];exact k5⟩))]
               exact gE [.agg [.q 0 0,.q 0 0,.q 0 0],.agg [.q 0 0,.q 0 0,.q 0 0],.i6 2] (Ca e2 two0)
   · have rL:=DR (jb:=300) (p:=p) (px:=px) (pz:=pz) (B:=300) (C:=300) hw
     have eE:fD m p.joints.length b y=dP m p.joints.length b:=if_neg hw;refine rF gH [(21,.tup [.agg [.q 0 0,.q 0 0,.q 0 0,.q 0 0,.str (ByteArray.mk #[]),.i6 (0:Int),.q 0 0,.q 0 0,.q 0 0,.q 0 0,.q 0 0,.q 0 0,.q 0 0,.q 0 0,AV.nil,.str (ByteArray.mk #[]),.i6 (0:Int),.q 0 0,.q 0 0,.q 0 0,.q 0 0,.q 0 0,.q 0 0,.q 0 0,.q 0 0,AV.nil,.q 0 0,.q 0 0],.i6 (dP m p.joints.length b)]),(25,tt)] (.c6 rL s1 s2 s3 (rl 300) (rl 300) (.a4 v0 s4 s5 (jT hw))) (V:=.tup [.agg [.q 0 0,.q 0 0,.q 0 0],.agg [.q 0 0,.q 0 0,.q 0 0],.i6 (dP m p.joints.length b)]) (Ca eE hw)
 · cases h
def xN:=kn.cons Fb
def oE (l:List BodyD):Nat->Rat
 | 0=>0
 | i+1=>oE l i+(l.getD i default).ma
def Rz:KF
 | [.cptr [.str mn,.list 27 XB,.list 17 XS,.list 17 XT,.list 13 XD,.list 5 XF,.list 12 XR] 0]=>some (.agg [.q (oE (XB.map reBody) XB.length) (302*XB.length)],[XB=(XB.map reBody).map (aH 300),XB.length<=1000])
 | _=>none
noncomputable abbrev MR:List Item:=[.code (aR [1,1,0,1,0,0] (aA Tryz.f242)),.inLoop (aR [1,1,0,1,0,0] (aA Tryz.f242)),.inBlock 0,.code (aR [1,1,1] (aA Tryz.f242))]
theorem Kn {S:Nat->Prop} {w0:World} {L:List BodyD} (hL:L.length<=1000):
   GF 242 S w0 (.agg [.q (oE L L.length) (302*L.length)]) MR ⟨slots 22 [(2,.ptr 0 3 0 0),(3,.ptr 1 3 0 0),(10,.list 27 (L.map (aH 300))),(11,.i6 ((L.length:Nat):Int)),(12,.i6 ((0:Nat):Int))],[some ⟨56,3,false,[[.q 0 0]],none⟩,some ⟨56,3,false,[[.q (oE L 0) (302*0)]],none⟩]⟩:=by
 refine pW (G:=fun i=>GF 242 S w0 (.agg [.q (oE L L.length) (302*L.length)]) MR ⟨slots 22 [(2,.ptr 0 3 0 0),(3,.ptr 1 3 0 0),(10,.list 27 (L.map (aH 300))),(11,.i6 ((L.length:Nat):Int)),(12,.i6 ((i:Nat):Int))],[some ⟨56,3,false,[[.q 0 0]],none⟩,some ⟨56,3,false,[[.q (oE L i) (302*i)]],none⟩]⟩) L.length ?_ ?_
 · exact rR xN [(13,ff)] (.a1 (iF (om (¬ ((L.length:Int)<(L.length:Int))))))
 · intro i hi ih
   exact gR xN none [2,3,10,11,12] [0,1] [(13,tt),(14,.cptr (aH 300 (L.getD i default)) 0),(20,.i6 ((i+1:Nat):Int))] (.a6 (iT (om ((i:Int)<(L.length:Int)))) (show Ref (.cptr ((L.map (aH 300)).getD i []) 0) (.cptr (aH 300 (L.getD i default)) 0) from Ref.cmap (f:=aH 300) hi) (nn i) (show(i:Int)<((L.map (aH 300)).length:Int) by rw[bM];omega) (show(302*i)+300+200<=LIM by unfold LIM;omega) (wI ((i:Int)+(1:Int)) ((i+1:Nat):Int))) ih
theorem Ug:bO 242 Rz:=fun args r ob h ho=>by
 unfold Rz at h
 split at h
 · rename_i mn XB XS XT XD XF XR
   cases h;have o1:XB=(XB.map reBody).map (aH 300):=ho _ (by simp);have o2:XB.length<=1000:=ho _ (by simp);clear ho;obtain⟨L,hL⟩:∃ L,L=XB.map reBody:=⟨_,rfl⟩;have hl:XB.length=L.length:=by rw[hL];simp
   rw[<- hL] at o1 ⊢;rw[hl] at o2 ⊢;subst o1;clear hL;refine af Tryz.f242 fun S w0=> ?_
   refine gN xN [0,2,3,10,11,12] [] .nil (t:=MR) (σ:=slots 22 [(0,.cptr [.str mn,.list 27 (L.map (aH 300)),.list 17 XS,.list 17 XT,.list 13 XD,.list 5 XF,.list 12 XR] 0),(2,.ptr 0 3 0 0),(3,.ptr 1 3 0 0),(10,.list 27 (L.map (aH 300))),(11,(.i6 ((L.map (aH 300)).length:Int))),(12,.i6 (0:Int))]) (h:=[some ⟨56,3,false,[[.q 0 0]],none⟩,some ⟨56,3,false,[[.q 0 0]],none⟩]) ?_
   rw[bM];refine Good.pk 22 [(2,.ptr 0 3 0 0),(3,.ptr 1 3 0 0),(10,.list 27 (L.map (aH 300))),(11,.i6 ((L.length:Nat):Int)),(12,.i6 ((0:Nat):Int))] ?_;exact Kn o2
 · cases h
def mL (l:List BodyD) (b:Int):Rat:=(l.getD b.toNat default).ma/oE l l.length
def RA:KF
 | [.cptr [.str mn,.list 27 XB,.list 17 XS,.list 17 XT,.list 13 XD,.list 5 XF,.list 12 XR] 0,.int .i64 b]=>some (.agg [.q (mL (XB.map reBody) b) (302*XB.length+304)],[XB=(XB.map reBody).map (aH 300),XB.length<=1000,0<=b,b<((XB.length:Nat):Int)])
 | _=>none
theorem Uh:bO 170 RA:=by
 refine cJ Tryz.f170 fun _ _ _ S w0 h ho=> ?_
 unfold RA at h;split at h <;> cases h;rename_i mn XB XS XT XD XF XR b;obtain⟨o1,o2,o3,o4⟩:=ho.e4;have L:=dH;have K:=(kn.cons Ug).cons UW;obtain⟨L,hL⟩:∃ L,L=XB.map reBody:=⟨_,rfl⟩;have hl:XB.length=L.length:=by rw[hL];simp
 rw[<- hL] at o1 ⊢;rw[hl] at o2 o4 ⊢;subst o1;clear hL hl ho;obtain⟨v,hv⟩:∃ v,v=L.getD b.toNat default:=⟨_,rfl⟩;have hlm:(L.map (aH 300)).length=L.length:=bM ..;exact rF K [(14,.cptr (aH 300 v) 0),(18,.agg [.q (oE L L.length) (302*L.length)])] (.c6 (show Ref (.cptr ((L.map (aH 300)).getD b.toNat []) 0) (.cptr (aH 300 v) 0) by rw[hv];exact Ref.cmap (f:=aH 300) (by omega)) o3 (show b<((L.map (aH 300)).length:Int) by rw[hlm];omega) (show Ref (.agg [.q (oE ((L.map (aH 300)).map reBody) (L.map (aH 300)).length) (302*(L.map (aH 300)).length)]) (.agg [.q (oE L L.length) (302*L.length)]) from Ref.eq (by rw[iO,bM])) (show(L.map (aH 300))=((L.map (aH 300)).map reBody).map (aH 300) by rw[iO]) (show(L.map (aH 300)).length<=1000 by rw[hlm];omega) (.a1 (show 300+(302*L.length)+200<=LIM by unfold LIM;omega))) (V:=.agg [.q (v.ma/(oE L L.length)) (300+(302*L.length)+2)]) (Ref.q1 (by unfold mL;rw[hv]) (by omega))
def UZ:KF
 | [.agg [.q px B,.q pz D],.agg [.q k C]]=>some (.agg [.q (px*k) (B+C+2),.q (pz*k) (D+C+2)],[B+D+C+300<=LIM])
 | _=>none
theorem VA:bO 62 UZ:=by
 refine cJ Tryz.f62 fun _ _ _ S w0 h ho=> ?_
 unfold UZ at h;split at h <;> cases h;rename_i px B pz D k C;have o1:=ho.one;have L:=dH;have K:=kn.cons EZ;exact rR K [] (.a2 (om (B+C+200<=LIM)) (om (D+C+200<=LIM)))
def uU:=((((kn.cons Uh).cons JK).cons ER).cons VA).cons UM
end Go.Av
