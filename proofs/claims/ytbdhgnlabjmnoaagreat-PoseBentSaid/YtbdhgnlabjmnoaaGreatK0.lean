/- PoseBent: a part of its proof. No condition. -/
import Derived.Below
import Derived.Calls
import Derived.Orders
import Derived.Laws.CopyRow
import Derived.Laws.Rows
import Derived.Laws.Cells
import Derived.Deep.Draws
import Derived.KernelRfl
import Derived.WalkKit
import Derived.Great.BuildSlice
import Derived.Laws.Tables
import Derived.Laws.Append
import Derived.Test.YtbdhgnlabjmnoaaGreatProg
set_option linter.all false
set_option maxRecDepth 100000
set_option autoImplicit true
set_option relaxedAutoImplicit true
namespace Go.Av
open Go.RowKit
inductive AV where
 | any
 | int (k:IntKind) (n:Int)
 | bool (b:Bool)
 | str (s:ByteArray)
 | nil
 | list (e:Nat) (xs:List (List AV))
 | nat (n B:Nat)
 | dig (n B:Nat)
 | z (n:Int) (B:Nat)
 | rz (n:Int) (B:Nat)
 | q (x:Rat) (B:Nat)
 | rq (x:Rat) (d B:Nat)
 | own (l e b n:Nat)
 | ptr (l e i o:Nat)
 | cptr (cs:List AV) (o:Nat)
 | agg (cs:List AV)
 | tup (vs:List AV)
 | fn (f:Nat) (caps:List AV)
 | fnm (f:Nat) (ag:Bool) (cs:List AV)
 | lit (v:Value)
 deriving Inhabited
def wd:AV->Nat
 | .z _ _ | .rz _ _=>2
 | .q _ _=>3
 | .rq _ _ _=>4
 | _=>1
def tU:List AV->Nat
 | []=>0
 | c::cs=>wd c+tU cs
def aJ (b:Nat):List Nat->Nat
 | []=>0
 | d::ds=>d+b*aJ b ds
def Dig (b:Nat) (xs:List Nat):Prop:=(∀ x∈xs,x<b)/\xs.getLast?≠some 0
def aI (xs:List Nat):List (List AV):=xs.map fun(d:Nat)=>[.int .u32 (d:Int)]
def aO (xs:List Nat):List (List AV):=xs.map fun(d:Nat)=>[.int .i64 (d:Int)]
def Seg (w:World) (a:Addr) (vs:List Value):Prop:=∀ j v,vs[j]? =some v->w.cell? (a.add j)=some v
def big:Nat:=9223372036854775807
def b32:Nat:=4294967296
def b10k:Nat:=10000
section
variable (ρ:Nat->Nat) (S:Nat->Prop) (w:World)
inductive RelCs:(Nat->Prop)->List AV->List Value->Prop
 | done {D}:RelCs D [] []
 | any {D v cs vs}:v.oneCell'=true->RelCs D cs vs->RelCs D (.any::cs) (v::vs)
 | int {D k i cs vs}:RelCs D cs vs->RelCs D (.int k i::cs) (.int k i::vs)
 | bool {D b cs vs}:RelCs D cs vs->RelCs D (.bool b::cs) (.bool b::vs)
 | str {D s cs vs}:RelCs D cs vs->RelCs D (.str s::cs) (.string s::vs)
 | nil {D cs vs}:RelCs D cs vs->RelCs D (.nil::cs) (.slice none 0 0::vs)
 | lit {D v cs vs}:v.oneCell'=true->RelCs D cs vs->RelCs D (.lit v::cs) (v::vs)
 | list {D e xs A cap cs vs} (f:Nat->List Value):xs.length<=cap->cap<=big->(∀ i,i<xs.length->(f i).length=e)->
     (∀ i el,xs[i]? =some el->RelCs (fun _=>False) el (f i))->
     (0<xs.length->∃ ad,A=some ad/\ad.block<w.heap.size/\¬ S ad.block/\∀ i,i<xs.length->Seg w (ad.add (i*e)) (f i))->
     RelCs D cs vs->RelCs D (.list e xs::cs) (.slice A xs.length cap::vs)
 | own {D l e b m A cap cs vs}:D l->m<=cap->cap<=big->
     (0<cap->A=some ⟨ρ l,b*e,none⟩/\∃ arr ty,w.heap[ρ l]? =some (.cells arr ty (0,0))/\(b+cap)*e<=arr.size)->
     RelCs D cs vs->RelCs D (.own l e b m::cs) (.slice A m cap::vs)
 | ptr {D l e i o cs vs}:D l->RelCs D cs vs->RelCs D (.ptr l e i o::cs) (.pointer (some ⟨ρ l,i*e+o,none⟩)::vs)
 | cptr {D cs0 vs0 a o cs vs}:RelCs (fun _=>False) cs0 vs0->a.block<w.heap.size->¬ S a.block->Seg w a vs0->RelCs D cs vs->
     RelCs D (.cptr cs0 o::cs) (.pointer (some (a.add o))::vs)
 | fn {D f caps cvs cs vs}:RelCs D caps cvs->RelCs D cs vs->RelCs D (.fn f caps::cs) (.func (.func f) #[] cvs.toArray::vs)
 | fnm {D f ag cs0 vs0 cs vs}:RelCs D cs0 vs0->RelCs D cs vs->RelCs D (.fnm f ag cs0::cs) (.func (.func f) #[if ag then .agg vs0.toArray else vs0.headD undef] #[]::vs)
 | nat {D n B v cs vs} (xs:List Nat):Dig b32 xs->aJ b32 xs=n->n<2^B->RelCs D (.list 1 (aI xs)::cs) (v::vs)->RelCs D (.nat n B::cs) (v::vs)
 | dig {D n B v cs vs} (xs:List Nat):Dig b10k xs->aJ b10k xs=n->n<2^B->RelCs D (.list 1 (aO xs)::cs) (v::vs)->RelCs D (.dig n B::cs) (v::vs)
 | z {D n B cs vs}:RelCs D (.bool (decide (n<0)):: .nat n.natAbs B::cs) vs->RelCs D (.z n B::cs) vs
 | rz {D n B cs vs}:RelCs D (.bool (decide (n<0)):: .dig n.natAbs B::cs) vs->RelCs D (.rz n B::cs) vs
 | q {D x B cs vs}:RelCs D (.z x.num B:: .nat (x.den-1) B::cs) vs->RelCs D (.q x B::cs) vs
 | rq {D x cs vs} {d B:Nat}:(d=x.den\/d=0/\x.den=1)->RelCs D (.rz x.num B:: .rz (d:Int) B::cs) vs->RelCs D (.rq x d B::cs) vs
end
structure Keep (ρ:Nat->Nat) (S:Nat->Prop) (w:World) (D:Nat->Prop) (ρ':Nat->Nat) (S':Nat->Prop) (w':World):Prop where
 size:w.heap.size<=w'.heap.size
 ids:∀ l,D l->ρ' l=ρ l/\∀ arr ty,w.heap[ρ l]? =some (.cells arr ty (0,0))->∃ arr' ty',w'.heap[ρ l]? =some (.cells arr' ty' (0,0))/\arr.size<=arr'.size
 cells:∀ k,k<w.heap.size->¬ S k->¬ S' k/\w'.heap[k]? =w.heap[k]?
theorem jU (a:Addr) (n:Nat):(a.add n).block=a.block:=by unfold Addr.add;split <;> rfl
theorem Seg.keep (h:Seg w a vs) (hk:w'.heap[a.block]? =w.heap[a.block]?):Seg w' a vs:=by
 intro j v hv;have h1:=h j v hv;have hb:(a.add j).block=a.block:=by unfold Addr.add;split <;> rfl
 rw[<- h1];unfold World.cell?;rw[hb,hk]
theorem RelCs.keep
   (h:RelCs ρ S w D cs vs):∀ (D':Nat->Prop),(∀ l,D l->D' l)->Keep ρ S w D ρ' S' w'->RelCs ρ' S' w' D' cs vs:=by
 induction h with
 | done=>intro D' hd hk;exact .done
 | any h1 _ ih=>intro D' hd hk;exact .any h1 (ih D' hd hk)
 | int _ ih=>intro D' hd hk;exact .int (ih D' hd hk)
 | bool _ ih=>intro D' hd hk;exact .bool (ih D' hd hk)
 | str _ ih=>intro D' hd hk;exact .str (ih D' hd hk)
 | nil _ ih=>intro D' hd hk;exact .nil (ih D' hd hk)
 | lit h1 _ ih=>intro D' hd hk;exact .lit h1 (ih D' hd hk)
 | list f h1 h2 h3 _ h5 _ ih4 ih=>
   intro D' hd hk;refine .list f h1 h2 h3 (fun i el hel=>ih4 i el hel _ (fun _ h=>h) ⟨hk.size,fun l h=>h.elim,hk.cells⟩) (fun hp=> ?_) (ih D' hd hk);obtain⟨ad,e,hb,hs,hseg⟩:=h5 hp;obtain⟨hs',hw'⟩:=hk.cells _ hb hs;refine⟨ad,e,Nat.lt_of_lt_of_le hb hk.size,hs',fun i hi=>(hseg i hi).keep ?_⟩;rw[jU];exact hw'
 | own hD h1 h2 h3 _ ih=>
   intro D' hd hk;obtain⟨hr,ha⟩:=hk.ids _ hD;refine .own (hd _ hD) h1 h2 (fun hp=> ?_) (ih D' hd hk);obtain⟨hA,arr,ty,hw,hsz⟩:=h3 hp;obtain⟨arr',ty',hw',hsz'⟩:=ha arr ty hw;exact⟨by rw[hr];exact hA,arr',ty',by rw[hr];exact hw',Nat.le_trans hsz hsz'⟩
 | ptr hD _ ih=>
   intro D' hd hk;obtain⟨hr,_⟩:=hk.ids _ hD;rw[<- hr];exact .ptr (hd _ hD) (ih D' hd hk)
 | cptr _ hb hs hseg _ ih0 ih=>
   intro D' hd hk;obtain⟨hs',hw'⟩:=hk.cells _ hb hs;exact .cptr (ih0 _ (fun _ h=>h) ⟨hk.size,fun l h=>h.elim,hk.cells⟩) (Nat.lt_of_lt_of_le hb hk.size) hs' (hseg.keep hw') (ih D' hd hk)
 | fn _ _ ih0 ih=>intro D' hd hk;exact .fn (ih0 D' hd hk) (ih D' hd hk)
 | fnm _ _ ih0 ih=>intro D' hd hk;exact .fnm (ih0 D' hd hk) (ih D' hd hk)
 | nat xs h1 h2 h3 _ ih=>intro D' hd hk;exact .nat xs h1 h2 h3 (ih D' hd hk)
 | dig xs h1 h2 h3 _ ih=>intro D' hd hk;exact .dig xs h1 h2 h3 (ih D' hd hk)
 | z _ ih=>intro D' hd hk;exact .z (ih D' hd hk)
 | rz _ ih=>intro D' hd hk;exact .rz (ih D' hd hk)
 | q _ ih=>intro D' hd hk;exact .q (ih D' hd hk)
 | rq h1 _ ih=>intro D' hd hk;exact .rq h1 (ih D' hd hk)
theorem RelCs.wds_eq (h:RelCs ρ S w D cs vs):vs.length=tU cs:=by
 induction h with
 | done=>rfl
 | _=>simp_all [tU,wd] <;> omega
theorem RelCs.one (h:RelCs ρ S w D cs vs):∀ v∈vs,v.oneCell'=true:=by
 induction h with
 | done=>simp
 | z _ ih=>exact ih
 | rz _ ih=>exact ih
 | q _ ih=>exact ih
 | rq _ _ ih=>exact ih
 | nat _ _ _ _ _ ih=>exact ih
 | dig _ _ _ _ _ ih=>exact ih
 | any h1 _ ih=>exact List.forall_mem_cons.2 ⟨h1,ih⟩
 | lit h1 _ ih=>exact List.forall_mem_cons.2 ⟨h1,ih⟩
 | int _ ih=>exact List.forall_mem_cons.2 ⟨rfl,ih⟩
 | bool _ ih=>exact List.forall_mem_cons.2 ⟨rfl,ih⟩
 | str _ ih=>exact List.forall_mem_cons.2 ⟨rfl,ih⟩
 | nil _ ih=>exact List.forall_mem_cons.2 ⟨rfl,ih⟩
 | list _ _ _ _ _ _ _ _ ih=>exact List.forall_mem_cons.2 ⟨rfl,ih⟩
 | own _ _ _ _ _ ih=>exact List.forall_mem_cons.2 ⟨rfl,ih⟩
 | ptr _ _ ih=>exact List.forall_mem_cons.2 ⟨rfl,ih⟩
 | cptr _ _ _ _ _ _ ih=>exact List.forall_mem_cons.2 ⟨rfl,ih⟩
 | fn _ _ _ ih=>exact List.forall_mem_cons.2 ⟨rfl,ih⟩
 | fnm _ _ _ ih=>exact List.forall_mem_cons.2 ⟨rfl,ih⟩
theorem RelCs.app (h:RelCs ρ S w D a us) (h2:RelCs ρ S w D b vs):
   RelCs ρ S w D (a++b) (us++vs):=by
 generalize hD:D=D0 at h
 induction h with
 | done=>exact hD▸h2
 | any h1 _ ih=>exact .any h1 (ih hD)
 | int _ ih=>exact .int (ih hD)
 | bool _ ih=>exact .bool (ih hD)
 | str _ ih=>exact .str (ih hD)
 | nil _ ih=>exact .nil (ih hD)
 | lit h1 _ ih=>exact .lit h1 (ih hD)
 | list f h1 h2 h3 h4 h5 _ _ ih=>exact .list f h1 h2 h3 h4 h5 (ih hD)
 | own hD' h1 h2 h3 _ ih=>exact .own hD' h1 h2 h3 (ih hD)
 | ptr hD' _ ih=>exact .ptr hD' (ih hD)
 | cptr h0 hb hs hseg _ _ ih=>exact .cptr h0 hb hs hseg (ih hD)
 | fn h0 _ _ ih=>exact .fn h0 (ih hD)
 | fnm h0 _ _ ih=>exact .fnm h0 (ih hD)
 | nat xs h1 h2 h3 _ ih=>exact .nat xs h1 h2 h3 (ih hD)
 | dig xs h1 h2 h3 _ ih=>exact .dig xs h1 h2 h3 (ih hD)
 | z _ ih=>exact .z (ih hD)
 | rz _ ih=>exact .rz (ih hD)
 | q _ ih=>exact .q (ih hD)
 | rq h1 _ ih=>exact .rq h1 (ih hD)
theorem RelCs.cut1 (h:RelCs ρ S w D (c::cs) vs):
   RelCs ρ S w D [c] (vs.take (wd c))/\RelCs ρ S w D cs (vs.drop (wd c)):=by
 have key : ∀ {D : Nat->Prop} {l:List AV} {vs:List Value},RelCs ρ S w D l vs->∀ c cs,l=c::cs->RelCs ρ S w D [c] (vs.take (wd c))/\RelCs ρ S w D cs (vs.drop (wd c)):=by
   intro D l vs h
   induction h with
   | done=>intro c cs e;cases e
   | any h1 h2 ih=>intro c cs e;cases e;exact⟨.any h1 .done,h2⟩
   | int h2 ih=>intro c cs e;cases e;exact⟨.int .done,h2⟩
   | bool h2 ih=>intro c cs e;cases e;exact⟨.bool .done,h2⟩
   | str h2 ih=>intro c cs e;cases e;exact⟨.str .done,h2⟩
   | nil h2 ih=>intro c cs e;cases e;exact⟨.nil .done,h2⟩
   | lit h1 h2 ih=>intro c cs e;cases e;exact⟨.lit h1 .done,h2⟩
   | list f h1 h2 h3 h4 h5 h6 _ ih=>intro c cs e;cases e;exact⟨.list f h1 h2 h3 h4 h5 .done,h6⟩
   | own hD' h1 h2 h3 h6 ih=>intro c cs e;cases e;exact⟨.own hD' h1 h2 h3 .done,h6⟩
   | ptr hD' h6 ih=>intro c cs e;cases e;exact⟨.ptr hD' .done,h6⟩
   | cptr h0 hb hs hseg h6 _ ih=>intro c cs e;cases e;exact⟨.cptr h0 hb hs hseg .done,h6⟩
   | fn h0 h6 _ ih=>intro c cs e;cases e;exact⟨.fn h0 .done,h6⟩
   | fnm h0 h6 _ ih=>intro c cs e;cases e;exact⟨.fnm h0 .done,h6⟩
   | nat xs h1 h2 h3 h6 ih=>
     intro c cs e;cases e
     have:=ih _ _ rfl;exact⟨.nat xs h1 h2 h3 this.1,this.2⟩
   | dig xs h1 h2 h3 h6 ih=>
     intro c cs e;cases e
     have:=ih _ _ rfl;exact⟨.dig xs h1 h2 h3 this.1,this.2⟩
   | z h6 ih=>
     intro c cs e;cases e;obtain⟨a1,a2⟩:=ih _ _ rfl;cases h6 with
     | bool h7=>
       cases h7 with
       | nat xs h1 h2 h3 h8=>
         cases h8 with
         | list f g1 g2 g3 g4 g5 g6=>exact⟨.z (.bool (.nat xs h1 h2 h3 (.list f g1 g2 g3 g4 g5 .done))),g6⟩
   | rz h6 ih=>
     intro c cs e;cases e;cases h6 with
     | bool h7=>
       cases h7 with
       | dig xs h1 h2 h3 h8=>
         cases h8 with
         | list f g1 g2 g3 g4 g5 g6=>exact⟨.rz (.bool (.dig xs h1 h2 h3 (.list f g1 g2 g3 g4 g5 .done))),g6⟩
   | q h6 ih =>
     intro c cs e;cases e;cases h6 with
     | z h6=>
       cases h6 with
       | bool h7=>
         cases h7 with
         | nat xs h1 h2 h3 h8=>
           cases h8 with
           | list f g1 g2 g3 g4 g5 g6=>
             cases g6 with
             | nat xs' h1' h2' h3' h8'=>
               cases h8' with
               | list f' g1' g2' g3' g4' g5' g6'=>exact⟨.q (.z (.bool (.nat xs h1 h2 h3 (.list f g1 g2 g3 g4 g5 (.nat xs' h1' h2' h3' (.list f' g1' g2' g3' g4' g5' .done)))))),g6'⟩
   | rq hd h6 ih =>
     intro c cs e;cases e;cases h6 with
     | rz h6 =>
       cases h6 with
       | bool h7 =>
         cases h7 with
         | dig xs h1 h2 h3 h8=>
           cases h8 with
           | list f g1 g2 g3 g4 g5 g6=>
             cases g6 with
             | rz g6=>
               cases g6 with
               | bool g6=>
                 cases g6 with
                 | dig xs' h1' h2' h3' h8'=>
                   cases h8' with
                   | list f' g1' g2' g3' g4' g5' g6'=>exact⟨.rq hd (.rz (.bool (.dig xs h1 h2 h3 (.list f g1 g2 g3 g4 g5 (.rz (.bool (.dig xs' h1' h2' h3' (.list f' g1' g2' g3' g4' g5' .done)))))))),g6'⟩
 exact key h c cs rfl
structure ABlk where
 ty:Nat
 e:Nat
 closed:Bool
 elems:List (List AV)
 pin:Option Nat
 deriving Inhabited
structure St where
 σ:List AV
 h:List (Option ABlk)
def No:Nat->Prop:=fun _=>False
section
variable (ρ:Nat->Nat) (S:Nat->Prop) (w:World) (D:Nat->Prop)
def RelV0 (c:AV) (v:Value):Prop:=
 match c with
 | .any=>True
 | .agg cs=>∃ vs:List Value,v= .agg vs.toArray/\RelCs ρ S w D cs vs
 | c=>RelCs ρ S w D [c] [v]
def RelVs:List AV->List Value->Prop
 | [],[]=>True
 | c::cs,v::vs=>RelV0 ρ S w D c v/\RelVs cs vs
 | _,_=>False
def RelV (c:AV) (v:Value):Prop:=
 match c with
 | .tup xs=>∃ vs:List Value,v= .tuple vs.toArray/\RelVs ρ S w D xs vs
 | c=>RelV0 ρ S w D c v
def RelB (l:Nat) (b:ABlk):Prop:=
 ∃ arr:Array Value,w.heap[ρ l]? =some (.cells arr b.ty (0,0))/\b.elems.length*b.e<=arr.size/\
   (∀ i el,b.elems[i]? =some el->RelCs ρ S w (if b.closed then No else D) el ((arr.toList.drop (i*b.e)).take b.e))
end
def Sof (S0:Nat->Prop) (ρ:Nat->Nat) (h:List (Option ABlk)):Nat->Prop:=fun k=>S0 k\/∃ l b,h[l]? =some (some b)/\ρ l=k
structure Chg (C0:Nat->Prop) (w0 w:World):Prop where
 os:w.os=w0.os
 tape:w.tape=w0.tape
 output:w.output=w0.output
 size:w0.heap.size<=w.heap.size
 block:∀ k,k<w0.heap.size->¬ C0 k->w.heap[k]? =w0.heap[k]?
 row:∀ (k:Nat) (arr:Array Value) (ty:TypeId),w0.heap[k]? =some (.cells arr ty (0,0))->∃ arr' ty',w.heap[k]? =some (.cells arr' ty' (0,0))/\arr.size<=arr'.size
theorem fT {w:World} {k:Nat} {o:Obj} (h:w.heap[k]? =some o):k<w.heap.size:=(Array.getElem?_eq_some_iff.1 h).1
theorem Chg.refl (C0:Nat->Prop) (w:World):Chg C0 w w:=⟨rfl,rfl,rfl,Nat.le_refl _,fun _ _ _=>rfl,fun k arr ty h=>⟨arr,ty,h,Nat.le_refl _⟩⟩
theorem Chg.trans {C0 C1:Nat->Prop} {a b c:World} (h:Chg C0 a b) (k:Chg C1 b c) (hC:∀ i,i<a.heap.size->C1 i->C0 i):Chg C0 a c:=
 ⟨k.os.trans h.os,k.tape.trans h.tape,k.output.trans h.output,Nat.le_trans h.size k.size,
   fun i hi hn=>(k.block i (Nat.lt_of_lt_of_le hi h.size) (fun hc=>hn (hC i hi hc))).trans (h.block i hi hn),
   fun i arr ty hi=>by
     obtain⟨arr1,ty1,h1,s1⟩:=h.row i arr ty hi;obtain⟨arr2,ty2,h2,s2⟩:=k.row i arr1 ty1 h1
     exact⟨arr2,ty2,h2,Nat.le_trans s1 s2⟩⟩
theorem Chg.ofNo {a b:World} (h1:b.os=a.os) (h2:b.tape=a.tape) (h3:b.output=a.output) (h4:a.heap.size<=b.heap.size) (h5:∀ k,k<a.heap.size->b.heap[k]? =a.heap[k]?):Chg No a b:=
 ⟨h1,h2,h3,h4,fun k hk _=>h5 k hk,fun k arr ty h=>⟨arr,ty,by rw[h5 k (fT h)];exact h,Nat.le_refl _⟩⟩
theorem Chg.below (h:Chg No w0 w):Below w0.heap.size w0 w:=⟨h.os,h.tape,h.output,h.size,fun k hk=>h.block k hk (fun h=>h)⟩
def DY (S0 C0:Nat->Prop) (w0:World) (b:ABlk) (k:Nat):Prop:=(C0 k\/w0.heap.size<=k)/\¬ S0 k/\∀ i,b.pin=some i->k=i
structure Rel (S0 C0:Nat->Prop) (w0:World) (ρ:Nat->Nat) (D:Nat->Prop) (st:St) (a:Act) (w:World):Prop where
 defers:a.defers= []
 len:a.tmps.size=st.σ.length
 tmps:∀ t v,a.tmps[t]? =some v->RelV ρ (Sof S0 ρ st.h) w D (st.σ.getD t .any) v
 heap:∀ l b,st.h[l]? =some (some b)->D l/\RelB ρ (Sof S0 ρ st.h) w D l b
 inj:∀ l l' b b',st.h[l]? =some (some b)->st.h[l']? =some (some b')->ρ l=ρ l'->l=l'
 lt:∀ k,S0 k->k<w.heap.size
 dlt:∀ l,D l->l<st.h.length
 chg:Chg C0 w0 w
 mine:∀ l b,st.h[l]? =some (some b)->DY S0 C0 w0 b (ρ l)
theorem RelV0.keep {ρ:Nat->Nat} {S:Nat->Prop} {w:World} {ρ':Nat->Nat} {S':Nat->Prop} {w':World} {D D':Nat->Prop} {c:AV} {v:Value}
   (h:RelV0 ρ S w D c v) (hd:∀ l,D l->D' l) (hk:Keep ρ S w D ρ' S' w'):RelV0 ρ' S' w' D' c v:=by
 unfold RelV0 at*
 split at h
 · trivial
 · obtain⟨vs,e,h⟩:=h;exact⟨vs,e,h.keep D' hd hk⟩
 · exact h.keep D' hd hk
theorem RelVs.keep {ρ:Nat->Nat} {S:Nat->Prop} {w:World} {ρ':Nat->Nat} {S':Nat->Prop} {w':World} {D D':Nat->Prop}:
   ∀ {cs:List AV} {vs:List Value},RelVs ρ S w D cs vs->(∀ l,D l->D' l)->Keep ρ S w D ρ' S' w'->RelVs ρ' S' w' D' cs vs
 | [],[],_,_,_=>trivial
 | _::_,_::_,h,hd,hk=>⟨h.1.keep hd hk,RelVs.keep h.2 hd hk⟩
 | [],_::_,h,_,_=>h.elim
 | _::_,[],h,_,_=>h.elim
theorem RelV.keep {ρ:Nat->Nat} {S:Nat->Prop} {w:World} {ρ':Nat->Nat} {S':Nat->Prop} {w':World} {D D':Nat->Prop} {c:AV} {v:Value}
   (h:RelV ρ S w D c v) (hd:∀ l,D l->D' l) (hk:Keep ρ S w D ρ' S' w'):RelV ρ' S' w' D' c v:=by
 unfold RelV at*
 split at h
 · obtain⟨vs,e,h⟩:=h;exact⟨vs,e,h.keep hd hk⟩
 · exact h.keep hd hk
theorem RelB.keep {ρ:Nat->Nat} {S:Nat->Prop} {w:World} {ρ':Nat->Nat} {S':Nat->Prop} {w':World} {D D':Nat->Prop} {l:Nat} {b:ABlk}
   (h:RelB ρ S w D l b) (hd:∀ l,D l->D' l) (hk:Keep ρ S w D ρ' S' w') (hr:ρ' l=ρ l) (hw:w'.heap[ρ l]? =w.heap[ρ l]?):RelB ρ' S' w' D' l b:=by
 obtain⟨arr,h1,h2,h3⟩:=h;refine⟨arr,by rw[hr,hw];exact h1,h2,fun i el hel=> ?_⟩;have h4:=h3 i el hel;cases hc:b.closed with
 | true=>rw[hc] at h4;exact h4.keep _ (fun _ h=>h) ⟨hk.size,fun l h=>h.elim,hk.cells⟩
 | false=>rw[hc] at h4;exact h4.keep _ hd hk
theorem bN {w:World} {k:Nat} {o:Obj} (h:w.heap[k]? =some o):k<w.heap.size:=(Array.getElem?_eq_some_iff.1 h).1
section
variable {S0 C0:Nat->Prop} {w0:World} {ρ:Nat->Nat} {D:Nat->Prop} {st:St} {a:Act} {w:World}
theorem Rel.Slt (R:Rel S0 C0 w0 ρ D st a w) {k:Nat} (h:Sof S0 ρ st.h k):k<w.heap.size:=by
 rcases h with h | ⟨l,b,hb,rfl⟩
 · exact R.lt k h
 · obtain⟨_,arr,h1,_⟩:=R.heap l b hb
   exact bN h1
theorem gZ {α:Type} (l:List α) (i j:Nat) (x d:α):(l.set i x).getD j d=if i=j/\i<l.length then x else l.getD j d:=by
 simp only[List.getD_eq_getElem?_getD,List.getElem?_set]
 split
 · rename_i h;subst h
   by_cases hl:i<l.length
   · simp[hl]
   · simp[hl]
 · rename_i h;simp[h]
def put (σ:List AV):Option Nat->AV->List AV
 | some d,v=>σ.set d v
 | none,_=>σ
theorem Rel.step (R:Rel S0 C0 w0 ρ D st a w) {ρ':Nat->Nat} {D':Nat->Prop} {h':List (Option ABlk)} {w':World} {dst:Option Nat} {V:AV} {v:Value}
   (hk:Keep ρ (Sof S0 ρ st.h) w D ρ' (Sof S0 ρ' h') w') (hd:∀ l,D l->D' l)
   (hv:RelV ρ' (Sof S0 ρ' h') w' D' V v)
   (hh:∀ l b,h'[l]? =some (some b)->D' l/\RelB ρ' (Sof S0 ρ' h') w' D' l b)
   (hi:∀ l l' b b',h'[l]? =some (some b)->h'[l']? =some (some b')->ρ' l=ρ' l'->l=l')
   (hdl:∀ l,D' l->l<h'.length) (hc:Chg C0 w0 w') (hm:∀ l b,h'[l]? =some (some b)->DY S0 C0 w0 b (ρ' l)):
   Rel S0 C0 w0 ρ' D' { σ:=put st.σ dst V,h:=h' } (a.put dst v) w' where
 defers:=by cases dst <;> exact R.defers
 len:=by cases dst <;> simp[put,Act.put,R.len]
 tmps:=by
   intro t u hu;cases dst with
   | none=>exact(R.tmps t u hu).keep hd hk
   | some d=>
     simp only[put,Act.put] at hu ⊢;rw[gZ]
     by_cases e:d=t
     · subst e
       have hlt:d<(a.tmps.setIfInBounds d v).size:=(Array.getElem?_eq_some_iff.1 hu).1;simp at hlt;rw[if_pos ⟨rfl,by rw[<- R.len];exact hlt⟩];simp[Array.getElem?_setIfInBounds,hlt] at hu;subst hu;exact hv
     · rw[if_neg (fun h=>e h.1)]
       simp[Array.getElem?_setIfInBounds,e] at hu;exact(R.tmps t u hu).keep hd hk
 heap:=hh
 inj:=hi
 lt:=fun k h=>Nat.lt_of_lt_of_le (R.lt k h) hk.size
 dlt:=hdl
 chg:=hc
 mine:=hm
theorem Keep.refl (ρ:Nat->Nat) (S:Nat->Prop) (w:World) (D:Nat->Prop):Keep ρ S w D ρ S w:=⟨Nat.le_refl _,fun _ _=>⟨rfl,fun arr ty h=>⟨arr,ty,h,Nat.le_refl _⟩⟩,fun _ _ h=>⟨h,rfl⟩⟩
theorem Rel.val (R:Rel S0 C0 w0 ρ D st a w) (hv:RelV ρ (Sof S0 ρ st.h) w D V v):
   Rel S0 C0 w0 ρ D { σ:=put st.σ dst V,h:=st.h } (a.put dst v) w:=
 R.step (Keep.refl ..) (fun _ h=>h) hv R.heap R.inj R.dlt R.chg R.mine
def bV (ρ:Nat->Nat) (l k:Nat):Nat->Nat:=fun i=>if i=l then k else ρ i
def lE (D:Nat->Prop) (l:Nat):Nat->Prop:=fun i=>D i\/i=l
theorem Rel.new (R:Rel S0 C0 w0 ρ D st a w) {l:Nat} (hl:st.h[l]? =some none) (hD:¬ D l) {b:ABlk} (hpin:b.pin=none) {arr:Array Value} {dst:Option Nat} {V:AV} {v:Value}
   (hsz:b.elems.length*b.e<=arr.size)
   (hel:∀ ρ' S' w',Keep ρ (Sof S0 ρ st.h) w D ρ' S' w'->∀ i el,b.elems[i]? =some el->RelCs ρ' S' w' (if b.closed then No else lE D l) el ((arr.toList.drop (i*b.e)).take b.e))
   (hv:∀ ρ' S' w',Keep ρ (Sof S0 ρ st.h) w D ρ' S' w'->ρ' l=w.heap.size->w'.heap[w.heap.size]? =some (.cells arr b.ty (0,0))->RelV ρ' S' w' (lE D l) V v):
   Rel S0 C0 w0 (bV ρ l w.heap.size) (lE D l) { σ:=put st.σ dst V,h:=st.h.set l (some b) } (a.put dst v) (w.alloc (.cells arr b.ty (0,0))):=by
 have hnew:(w.alloc (.cells arr b.ty (0,0))).heap[w.heap.size]? =some (.cells arr b.ty (0,0)):=heap_alloc_new w _;have hold:∀ k,k<w.heap.size->(w.alloc (.cells arr b.ty (0,0))).heap[k]? =w.heap[k]? :=fun k hk=>Below.heap_alloc w _ k hk
 have hne:∀ i,D i->i≠l:=fun i hi e=>hD (e▸hi)
 have hlt:l<st.h.length:=(List.getElem?_eq_some_iff.1 hl).1
 have hset:∀ i c,(st.h.set l (some b))[i]? =some (some c)->(i=l/\c=b)\/(i≠l/\st.h[i]? =some (some c)):=by
   intro i c hc;rw[List.getElem?_set] at hc
   split at hc
   · rename_i e;subst e;simp[hlt] at hc;exact .inl ⟨rfl,hc.symm⟩
   · rename_i e;exact .inr ⟨fun h=>e h.symm,hc⟩
 have hk:Keep ρ (Sof S0 ρ st.h) w D (bV ρ l w.heap.size) (Sof S0 (bV ρ l w.heap.size) (st.h.set l (some b))) (w.alloc (.cells arr b.ty (0,0))):=by
   refine⟨by simp,fun i hi=> ?_,fun k hk hs=>⟨?_,hold k hk⟩⟩
   · refine⟨by simp[bV,hne i hi],fun arr' ty h=>⟨arr',ty, ?_,Nat.le_refl _⟩⟩
     rw[hold _ (bN h)];exact h
   · rintro(h | ⟨i,c,hc,e⟩)
     · exact hs (.inl h)
     · rcases hset i c hc with ⟨rfl,rfl⟩ | ⟨hi,hc⟩
       · simp[bV] at e;omega
       · simp[bV,hi] at e;exact hs (.inr ⟨i,c,hc,e⟩)
 refine R.step hk (fun i h=>.inl h) (hv _ _ _ hk (by simp[bV]) hnew) ?_ ?_ ?_ ?_ ?_
 · intro i c hc
   rcases hset i c hc with ⟨rfl,rfl⟩ | ⟨hi,hc⟩
   · refine⟨.inr rfl,arr,by simp only[bV,if_true];exact hnew,hsz,hel _ _ _ hk⟩
   · obtain⟨hDi,hB⟩:=R.heap i c hc
     obtain⟨arr',h1,_⟩:=hB;exact⟨.inl hDi,RelB.keep ⟨arr',h1,‹_›⟩ (fun _ h=>.inl h) hk (by simp[bV,hi]) (hold _ (bN h1))⟩
 · intro i j c d hc hd' e
   rcases hset i c hc with ⟨rfl,rfl⟩ | ⟨hi,hc2⟩ <;> rcases hset j d hd' with ⟨rfl,rfl⟩ | ⟨hj,hd2⟩
   · rfl
   · obtain⟨_,arr',h1,_⟩:=R.heap j d hd2
     have:=bN h1;simp[bV,hj] at e;omega
   · obtain⟨_,arr',h1,_⟩:=R.heap i c hc2
     have:=bN h1;simp[bV,hi] at e;omega
   · simp[bV,hi,hj] at e;exact R.inj i j c d hc2 hd2 e
 · intro i hi
   rcases hi with hi | rfl
   · simpa using R.dlt i hi
   · simpa using hlt
 · exact R.chg.trans (Chg.ofNo rfl rfl rfl (by simp) fun k hk=>hold k hk) (C1:=No) (fun _ _ h=>h.elim)
 · intro i c hc
   rcases hset i c hc with ⟨rfl,rfl⟩ | ⟨hi,hc⟩
   · refine⟨.inr (by simpa[bV] using R.chg.size),fun h=> ?_,fun i hi=>by rw[hpin] at hi;cases hi⟩
     have:=R.lt _ h;simp[bV] at this
   · simpa[bV,hi] using R.mine i c hc
theorem Rel.write (R:Rel S0 C0 w0 ρ D st a w) {l:Nat} {b b':ABlk} (hl:st.h[l]? =some (some b)) {arr arr':Array Value} {w':World} {dst:Option Nat} {V:AV} {v:Value}
   (harr:w.heap[ρ l]? =some (.cells arr b.ty (0,0))) (hty:b'.ty=b.ty/\b'.pin=b.pin)
   (hw:w'={ w with heap:=w.heap.set! (ρ l) (.cells arr' b.ty (0,0)) }) (hsz:arr.size=arr'.size) (hsz':b'.elems.length*b'.e<=arr'.size)
   (hel:Keep ρ (Sof S0 ρ st.h) w D ρ (Sof S0 ρ st.h) w'->∀ i el,b'.elems[i]? =some el->RelCs ρ (Sof S0 ρ st.h) w' (if b'.closed then No else D) el ((arr'.toList.drop (i*b'.e)).take b'.e))
   (hv:Keep ρ (Sof S0 ρ st.h) w D ρ (Sof S0 ρ st.h) w'->RelV ρ (Sof S0 ρ st.h) w' D V v):
   Rel S0 C0 w0 ρ D { σ:=put st.σ dst V,h:=st.h.set l (some b') } (a.put dst v) w':=by
 have hlt:l<st.h.length:=(List.getElem?_eq_some_iff.1 hl).1;have hklt:=bN harr;have hnew:w'.heap[ρ l]? =some (.cells arr' b.ty (0,0)):=by subst hw;simp[Array.getElem?_setIfInBounds,hklt]
 have hold:∀ k,k≠ρ l->w'.heap[k]? =w.heap[k]? :=by intro k hk;subst hw;simp[Array.getElem?_setIfInBounds,Ne.symm hk]
 have hsize:w'.heap.size=w.heap.size:=by subst hw;simp
 have hset:∀ i c,(st.h.set l (some b'))[i]? =some (some c)->(i=l/\c=b')\/(i≠l/\st.h[i]? =some (some c)):=by
   intro i c hc;rw[List.getElem?_set] at hc
   split at hc
   · rename_i e;subst e;simp[hlt] at hc;exact .inl ⟨rfl,hc.symm⟩
   · rename_i e;exact .inr ⟨fun h=>e h.symm,hc⟩
 have hS:∀ k,Sof S0 ρ (st.h.set l (some b')) k↔Sof S0 ρ st.h k:=by
   intro k;constructor
   · rintro(h | ⟨i,c,hc,e⟩)
     · exact .inl h
     · rcases hset i c hc with ⟨rfl,rfl⟩ | ⟨_,hc⟩
       · exact .inr ⟨i,b,hl,e⟩
       · exact .inr ⟨i,c,hc,e⟩
   · rintro(h | ⟨i,c,hc,e⟩)
     · exact .inl h
     · by_cases hi:l=i
       · subst hi;exact .inr ⟨l,b',by simp[hlt],e⟩
       · exact .inr ⟨i,c,by rw[List.getElem?_set_ne hi];exact hc,e⟩
 have hS':Sof S0 ρ (st.h.set l (some b'))=Sof S0 ρ st.h:=funext fun k=>propext (hS k)
 have hk:Keep ρ (Sof S0 ρ st.h) w D ρ (Sof S0 ρ st.h) w':=by
   refine⟨Nat.le_of_eq hsize.symm,fun i hi=>⟨rfl,fun arr0 ty h=> ?_⟩,fun k hk hs=>⟨hs,hold k (fun e=>hs (.inr ⟨l,b,hl,e.symm⟩))⟩⟩
   by_cases e:ρ i=ρ l
   · rw[e] at h ⊢
     rw[harr] at h;injection h with h;injection h with h1 h2;subst h1;exact⟨arr',b.ty,hnew,Nat.le_of_eq hsz⟩
   · exact⟨arr0,ty,by rw[hold _ e];exact h,Nat.le_refl _⟩
 refine R.step (by rw[hS'];exact hk) (fun _ h=>h) (by rw[hS'];exact hv hk) ?_ ?_ (by simpa using R.dlt) ?_ ?_
 · intro i c hc
   rw[hS'];rcases hset i c hc with ⟨rfl,rfl⟩ | ⟨hi,hc⟩
   · exact⟨(R.heap i b hl).1,arr',by rw[hty.1];exact hnew,hsz',hel hk⟩
   · obtain⟨hDi,hB⟩:=R.heap i c hc
     exact⟨hDi,hB.keep (fun _ h=>h) hk rfl (hold _ (fun e=>hi (R.inj i l c b hc hl e)))⟩
 · intro i j c d hc hd' e
   rcases hset i c hc with ⟨rfl,rfl⟩ | ⟨hi,hc2⟩ <;> rcases hset j d hd' with ⟨rfl,rfl⟩ | ⟨hj,hd2⟩
   · rfl
   · exact R.inj _ _ _ _ hl hd2 e
   · exact R.inj _ _ _ _ hc2 hl e
   · exact R.inj _ _ _ _ hc2 hd2 e
 · refine R.chg.trans (C1:=fun k=>k=ρ l) ⟨by rw[hw],by rw[hw],by rw[hw],by rw[hsize];exact Nat.le_refl _,fun k hk hC=>hold k hC,fun k arr0 ty h=> ?_⟩ ?_
   · by_cases e:k=ρ l
     · subst e
       rw[harr] at h;injection h with h;injection h with h1 h2;subst h1;exact⟨arr',b.ty,hnew,Nat.le_of_eq hsz⟩
     · exact⟨arr0,ty,by rw[hold _ e];exact h,Nat.le_refl _⟩
   · rintro i hi rfl
     rcases(R.mine l b hl).1 with h | h
     · exact h
     · omega
 · intro i c hc
   rcases hset i c hc with ⟨rfl,rfl⟩ | ⟨hi,hc⟩
   · have:=R.mine _ _ hl
     exact⟨this.1,this.2.1,by rw[hty.2];exact this.2.2⟩
   · exact R.mine i c hc
end
def Lj:AV->List AV
 | .q x B=>[.z x.num B,.nat (x.den-1) B]
 | .z n B=>[.bool (decide (n<0)),.nat n.natAbs B]
 | .rq x d B=>[.rz x.num B,.rz (d:Int) B]
 | .rz n B=>[.bool (decide (n<0)),.dig n.natAbs B]
 | c=>[c]
def qJ:Nat->Nat->List AV->Option (List AV)
 | _,0,cs=>some cs
 | 0,_,_=>none
 | _+1,_,[]=>none
 | f+1,n,c::cs=>if wd c<=n then qJ f (n-wd c) cs else qJ f n (Lj c++cs)
def qK:Nat->Nat->List AV->Option (List AV)
 | _,0,_=>some []
 | 0,_,_=>none
 | _+1,_,[]=>none
 | f+1,n,c::cs=>if wd c<=n then (qK f (n-wd c) cs).map (c::·) else qK f n (Lj c++cs)
def kA:Nat:=2000
def AU (off s:Nat) (cs:List AV):Option (List AV):=(qJ kA off cs).bind (qK kA s)
def Iw (off s:Nat) (cs new:List AV):Option (List AV):=
 match qK kA off cs,qJ kA (off+s) cs with
 | some a,some b=>some (a++new++b)
 | _,_=>none
section
theorem RelCs.opn (h:RelCs ρ S w D (c::cs) vs):RelCs ρ S w D (Lj c++cs) vs:=by
 cases c <;> first | exact h | (cases h;assumption)
theorem oG:∀ (f n:Nat) (cs cs':List AV) (vs:List Value),RelCs ρ S w D cs vs->qJ f n cs=some cs'->RelCs ρ S w D cs' (vs.drop n)/\n<=vs.length
 | _,0,cs,cs',vs,h,e=>by
   have:cs=cs':=by cases ‹Nat› <;> simpa[qJ] using e
   subst this;exact⟨h,Nat.zero_le _⟩
 | 0,n+1,_,_,_,_,e=>by simp[qJ] at e
 | f+1,n+1,[],_,_,_,e=>by simp[qJ] at e
 | f +1,n+1,c::cs,cs',vs,h,e=>by
   simp only[qJ] at e
   split at e
   · rename_i hw
     obtain⟨h1,h2⟩:=h.cut1;obtain⟨h3,h4⟩:=oG f _ cs cs' _ h2 e;rw[List.drop_drop,Nat.add_sub_cancel' hw] at h3
     have:=h.wds_eq;simp[tU] at this h4;exact⟨h3,by omega⟩
   · exact oG f _ _ cs' _ h.opn e
theorem oH:∀ (f n:Nat) (cs cs':List AV) (vs:List Value),RelCs ρ S w D cs vs->qK f n cs=some cs'->RelCs ρ S w D cs' (vs.take n)/\n<=vs.length
 | _,0,cs,cs',vs,h,e=>by
   have: []=cs':=by cases ‹Nat› <;> simpa[qK] using e
   subst this;exact⟨by simpa using RelCs.done,Nat.zero_le _⟩
 | 0,n+1,_,_,_,_,e=>by simp[qK] at e
 | f+1,n+1,[],_,_,_,e=>by simp[qK] at e
 | f + 1,n+1,c::cs,cs',vs,h,e=>by
   simp only[qK] at e
   split at e
   · rename_i hw
     obtain⟨h1,h2⟩:=h.cut1;obtain⟨cs2,e2,rfl⟩:=Option.map_eq_some_iff.1 e;obtain⟨h3,h4⟩:=oH f _ cs cs2 _ h2 e2
     have hv:vs.take (n+1)=vs.take (wd c)++(vs.drop (wd c)).take (n+1-wd c):=by
       rw[<- List.take_add,Nat.add_sub_cancel' hw]
     have:=h.wds_eq;simp[tU] at this h4;exact⟨by rw[hv];exact h1.app h3,by omega⟩
   · exact oH f _ _ cs' _ h.opn e
theorem uY (h:RelCs ρ S w D cs vs) (e:AU off s cs=some cs'):
   RelCs ρ S w D cs' ((vs.drop off).take s)/\off+s<=vs.length:=by
 unfold AU at e;obtain⟨c1,e1,e2⟩:=Option.bind_eq_some_iff.1 e;obtain⟨h1,l1⟩:=oG _ _ _ _ _ h e1;obtain⟨h2,l2⟩:=oH _ _ _ _ _ h1 e2;simp at l2;exact⟨h2,by omega⟩
theorem AW (h:RelCs ρ S w D cs vs) (hn:RelCs ρ S w D new us) (e:Iw off s cs new=some cs') (hl:us.length=s):
   RelCs ρ S w D cs' (vs.take off++us++vs.drop (off+s))/\off+s<=vs.length:=by
 unfold Iw at e
 split at e
 · rename_i a b e1 e2
   injection e with e;subst e;obtain⟨h1,l1⟩:=oH _ _ _ _ _ h e1;obtain⟨h2,l2⟩:=oG _ _ _ _ _ h e2;exact⟨(h1.app hn).app h2,l2⟩
 · cases e
end
inductive TK where
 | struct (fs:List (Nat×Nat×Nat))
 | slice (e:Nat)
 | array (n e:Nat)
 | int (k:IntKind)
 | bool
 | string
 | ptr (e:Nat)
 | other
 deriving Inhabited
structure TI where
 sz:Nat
 bytes:Nat
 zero:List AV
 k:TK
def NF:TK->Bool | .struct _ | .array _ _=>true | _=>false
def Sl:TypeDesc->Bool | .struct _ | .array _ _=>true | _=>false
def TI.agg (i:TI):Bool:=NF i.k
abbrev TT:=Nat->Option TI
def TKOK (P:Program):TK->TypeDesc->Prop
 | .struct fs,.struct fields=>fields.toList.map (fun f=>(f.offset,((P.info? f.type).map (·.size)).getD 0,f.type))=fs/\∀ f∈fields.toList,((P.info? f.type).map (·.size)).isSome
 | .slice e,.slice e'=>e=e'
 | .array n e,.array n' e'=>n=n'/\e=e'
 | .int k,.int k'=>k=k'
 | .bool,.bool=>True
 | .string,.string=>True
 | .ptr e,.pointer e'=>e=e'
 | .other,.struct _=>False
 | .other,.array _ _=>False
 | .other,_=>True
 | _,_=>False
structure TIOK (P:Program) (t:Nat) (i:TI):Prop where
 ex:∃ info d,P.info? t=some info/\P.underlying t=some d/\info.size=i.sz/\info.bytes=i.bytes/\TKOK P i.k d/\
   ∃ z,info.zero=some z/\∀ ρ S w D,RelCs ρ S w D i.zero z.cells.toList
 one:i.agg=true\/i.sz=1
 zw:tU i.zero=i.sz
def lT (P:Program) (T:TT):Prop:=∀ t i,T t=some i->TIOK P t i
section
theorem TKOK.agg (h:TKOK P k d):Sl d=NF k:=by
 cases k <;> cases d <;> first | rfl | exact h.elim
theorem TIOK.agg_run (h:TIOK P t i) (w:World):(isAgg t).run P w= .ok i.agg w:=by
 obtain⟨info,d,h1,h2,h3,h4,h5,_⟩:=h.ex;unfold TI.agg;rw[<- h5.agg];simp only[isAgg,Sem.run_bind,run_underlying h2,Result.andThen_ok];cases d <;> rfl
theorem TIOK.size_run {P:Program} {t:Nat} {i:TI} (h:TIOK P t i) (w:World):(sizeOf t).run P w= .ok i.sz w:=by
 obtain⟨info,d,h1,h2,h3,_⟩:=h.ex;have:(program).run P w= .ok P w:=rfl;simp[sizeOf,typeInfo,this,h1,h3]
theorem TIOK.under (h:TIOK P t i):∃ d,P.underlying t=some d/\TKOK P i.k d:=by
 obtain⟨info,d,h1,h2,h3,h4,h5,_⟩:=h.ex;exact⟨d,h2,h5⟩
end
def KA (i:TI) (vs:List Value):Value:=if i.agg then .agg vs.toArray else vs.headD undef
def Iv (i:TI) (cs:List AV):Option AV:=
 if i.agg then some (.agg cs) else match cs with
   | [c]=>if wd c=1 then some c else none
   | _=>none
def pO:AV->Option (List AV)
 | .agg cs=>some cs
 | .tup _=>none
 | .any=>none
 | c=>some [c]
section
theorem bA (h:RelCs ρ S w D [c] [v]):RelV ρ S w D c v:=by
 cases c <;> first | exact h | trivial | (cases h)
theorem kB (h:RelV ρ S w D c v) (e:pO c=some cs):RelCs ρ S w D cs v.cells.toList:=by
 have key:∀ {c:AV},RelCs ρ S w D [c] [v]->RelCs ρ S w D [c] v.cells.toList:=by
   intro c h'
   have:=h'.one v (by simp);have hc:v.cells.toList= [v]:=by cases v <;> first | rfl | simp[Value.oneCell'] at this
   rw[hc];exact h'
 cases c <;> simp only[pO] at e <;> cases e <;> first
   | exact key h
   | (obtain⟨vs,rfl,h⟩:=h;exact h)
theorem zN (h:RelCs ρ S w D cs vs) (e:Iv i cs=some V):RelV ρ S w D V (KA i vs):=by
 unfold Iv at e;unfold KA
 split at e
 · rename_i ha
   injection e with e;subst e;rw[if_pos ha];exact⟨vs,rfl,h⟩
 · rename_i ha
   rw[if_neg ha]
   split at e
   · split at e
     · rename_i c hs
       injection e with e;subst e;have hl:=h.wds_eq;simp only[tU,hs] at hl
       match vs,hl,h with
       | [v],_,h=>exact bA h
     · cases e
   · cases e
end
theorem Seg.of_row (h:w.heap[g]? =some (.cells arr ty fr)) (off n:Nat):
   Seg w ⟨g,off,none⟩ ((arr.toList.drop off).take n):=by
 intro j v hv;rw[List.getElem?_take] at hv
 split at hv
 · rw[List.getElem?_drop] at hv
   have:((⟨g,off,none⟩:Addr).add j)=⟨g,off+j,none⟩:=by unfold Addr.add;split <;> simp_all
   rw[this];simp only[World.cell?,h];simpa using hv
 · cases hv
theorem Seg.cut (h:Seg w a vs) (off n:Nat):Seg w (a.add off) ((vs.drop off).take n):=by
 intro j v hv;rw[List.getElem?_take] at hv
 split at hv
 · rw[List.getElem?_drop] at hv
   have:=h _ _ hv
   have e:(a.add off).add j=a.add (off+j):=by
     unfold Addr.add
     by_cases h1:off=0 <;> by_cases h2:j=0 <;> simp[h1,h2,Nat.add_assoc]
   rw[e];exact this
 · cases hv
theorem lU (h:TIOK P t i) (hs:Seg w a vs) (hl:vs.length=i.sz) (h1:i.agg=true\/i.sz=1):
   (loadVar t a).run P w= .ok (KA i vs) w:=by
 unfold loadVar KA;simp only[Sem.run_bind,h.agg_run,Result.andThen_ok];cases ha:i.agg with
 | true=>
   simp only[if_true,Sem.run_bind,h.size_run,Result.andThen_ok];rw[<- hl,run_loadCells_list (w:=w) (P:=P) a vs hs];rfl
 | false=>
   have hz:i.sz=1:=h1.resolve_left (by simp[ha]);rw[hz] at hl
   match vs,hl with
   | [v],_=>
     have:=hs 0 v rfl;simp[Addr.add] at this;simp[run_load,this]
theorem oI {w:World} {g:Nat} {arr arr':Array Value} {ty:TypeId} {fr:Nat×Nat} (h:w.heap[g]? =some (.cells arr ty fr)):
   w.setRow g arr'={ w with heap:=w.heap.set! g (.cells arr' ty fr) }:=by
 unfold World.setRow
 congr 1
 apply Array.ext_getElem?;intro k;have hlt:=bN h
 by_cases e:g=k
 · subst e
   rw[Array.getElem?_modify,if_pos rfl,h];simp[hlt]
 · simp[Array.getElem?_modify,Array.getElem?_setIfInBounds,e]
theorem pH {P:Program} {t:Nat} {i:TI} (h:TIOK P t i) {w:World} {g off:Nat} {arr:Array Value} {ty:TypeId} (hg:w.heap[g]? =some (.cells arr ty (0,0)))
   {v:Value} (hl:v.cells.size=i.sz) (h1:∀ u∈v.cells.toList,u.oneCell'=true) (hle:off+i.sz<=arr.size):
   (storeVar t ⟨g,off,none⟩ v).run P w= .ok () { w with heap:=w.heap.set! g (.cells (arr.toList.take off++v.cells.toList++arr.toList.drop (off+i.sz)).toArray ty (0,0)) }:=by
 unfold storeVar;simp only[Sem.run_bind,h.size_run,Result.andThen_ok,hl,ne_eq,not_true_eq_false,if_false,Sem.run_pure]
 have:=run_storeCells_at (P:=P) g off ty v.cells.toList 0 arr w hg (by simpa[hl] using hle) h1;rw[this,oI hg];simp[hl]
def sE:Value->AV
 | .int k n=>.int k n
 | .bool b=>.bool b
 | .string s=>.str s
 | .slice none 0 0=>.nil
 | v=>.lit v
def KB:Value->AV
 | .agg cs=>if cs.all (·.oneCell') then .agg (cs.toList.map sE) else .any
 | .tuple _=>.any
 | v=>sE v
def bI (σ:List AV):Operand->AV
 | .tmp t=>σ.getD t .any
 | .const v=>KB v
 | .func f=>.fn f []
 | .global _=>.any
section
theorem uZ (h:v.oneCell'=true) (hr:RelCs ρ S w D cs vs):RelCs ρ S w D (sE v::cs) (v::vs):=by
 unfold sE
 split
 · exact .int hr
 · exact .bool hr
 · exact .str hr
 · exact .nil hr
 · exact .lit h hr
theorem DZ (v:Value):RelV ρ S w D (KB v) v:=by
 have key:v.oneCell'=true->RelV ρ S w D (sE v) v:=fun h=>bA (uZ h .done)
 cases v <;> first
   | exact key rfl
   | trivial
   | skip
 rename_i cs;show RelV ρ S w D (if cs.all (·.oneCell') then .agg (cs.toList.map sE) else .any) _
 by_cases h:cs.all (·.oneCell')=true
 · rw[if_pos h]
   refine⟨cs.toList,rfl, ?_⟩;have h2:∀ v∈cs.toList,v.oneCell'=true:=fun v hv=>by simpa using Array.all_eq_true_iff_forall_mem.1 h v (by simpa using hv)
   revert h2
   generalize cs.toList=l;intro h2
   induction l with
   | nil=>exact .done
   | cons v l ih=>exact uZ (h2 v (by simp)) (ih fun u hu=>h2 u (by simp[hu]))
 · rw[if_neg h];trivial
end
theorem Rel.eval (R:Rel S0 C0 w0 ρ D st a w) (x:Operand):
   RelV ρ (Sof S0 ρ st.h) w D (bI st.σ x) (a.eval x):=by
 cases x with
 | tmp t=>
   simp only[bI,Act.eval]
   by_cases h:t<a.tmps.size
   · have:=R.tmps t (a.tmps[t]) (by simp[h])
     simpa[Array.getD,h] using this
   · have h2:¬ t<st.σ.length:=by rw[<- R.len];exact h
     simp[List.getD_eq_getElem?_getD,List.getElem?_eq_none (Nat.le_of_not_lt h2)]
     trivial
 | const v=>exact DZ v
 | global g=>trivial
 | func f=>exact bA (.fn (cvs:=[]) .done .done)
def vA (b:Nat):Nat->Nat->List Nat
 | 0,_=>[]
 | f+1,n=>if n=0 then [] else n % b::vA b f (n/b)
def aD (b n:Nat):List Nat:=vA b n n
def Ck (op:BinOp):AV->AV->Option (AV×List Prop)
 | .int k a,.int k' b=>
   match op with
   | .shl=>some (.int k (k.wrap (a*2^(min b.toNat k.bits))),[0<=b])
   | .shr=>some (.int k (a.fdiv (2^(min b.toNat k.bits))),[0<=b])
   | .quo=>if k=k' then some (.int k (k.wrap (a.tdiv b)),[b≠0]) else none
   | .rem=>if k=k' then some (.int k (a.tmod b),[b≠0]) else none
   | .add=>if k=k' then some (.int k (k.wrap (a+b)),[]) else none
   | .sub=>if k=k' then some (.int k (k.wrap (a-b)),[]) else none
   | .mul=>if k=k' then some (.int k (k.wrap (a*b)),[]) else none
   | .and=>if k=k' then some (.int k (k.wrap (BitVec.ofInt k.bits a&&& BitVec.ofInt k.bits b).toNat),[]) else none
   | .or=>if k=k' then some (.int k (k.wrap (BitVec.ofInt k.bits a||| BitVec.ofInt k.bits b).toNat),[]) else none
   | .xor=>if k=k' then some (.int k (k.wrap (BitVec.ofInt k.bits a^^^BitVec.ofInt k.bits b).toNat),[]) else none
   | .andNot=>none
   | .eql=>if k=k' then some (.bool (decide (a=b)),[]) else none
   | .neq=>if k=k' then some (.bool (!decide (a=b)),[]) else none
   | .lss=>if k=k' then some (.bool (decide (a<b)),[]) else none
   | .leq=>if k=k' then some (.bool (decide (a<=b)),[]) else none
   | .gtr=>if k=k' then some (.bool (decide (b<a)),[]) else none
   | .geq=>if k=k' then some (.bool (decide (b<=a)),[]) else none
 | .str a,.str b=>
   match op with
   | .add=>some (.str (a++b),[a.size+b.size<=big])
   | .eql=>some (.bool (a.toList==b.toList),[])
   | .neq=>some (.bool (!(a.toList==b.toList)),[])
   | _=>none
 | .bool a,.bool b=>
   match op with
   | .eql=>some (.bool (a==b),[])
   | .neq=>some (.bool (!(a==b)),[])
   | _=>none
 | _,_=>none
def AllP (l:List Prop):Prop:=∀ p∈l,p
theorem AllP.app (h:AllP (a++b)):AllP a/\AllP b:=⟨fun p hp=>h p (by simp[hp]),fun p hp=>h p (by simp[hp])⟩
section
theorem RelV.int_inv (h:RelV ρ S w D (.int k n) v):v= .int k n:=by
 have h':RelCs ρ S w D [.int k n] [v]:=h;cases h';rfl
theorem RelV.bool_inv (h:RelV ρ S w D (.bool b) v):v= .bool b:=by
 have h':RelCs ρ S w D [.bool b] [v]:=h;cases h';rfl
theorem RelV.str_inv (h:RelV ρ S w D (.str s) v):v= .string s:=by
 have h':RelCs ρ S w D [.str s] [v]:=h;cases h';rfl
theorem RelV.lit_inv (h:RelV ρ S w D (.lit u) v):v=u:=by
 have h':RelCs ρ S w D [.lit u] [v]:=h;cases h';rfl
theorem RelV.nil_inv (h:RelV ρ S w D .nil v):v= .slice none 0 0:=by
 have h':RelCs ρ S w D [.nil] [v]:=h;cases h';rfl
theorem RelV.mk_int:RelV ρ S w D (.int k n) (.int k n):=bA (.int .done)
theorem RelV.mk_bool:RelV ρ S w D (.bool b) (.bool b):=bA (.bool .done)
theorem RelV.mk_str:RelV ρ S w D (.str s) (.string s):=bA (.str .done)
end
theorem vB (hd:P.underlying t=some .bool) (a b:Bool) (w:World):(Op.equal t (.bool a) (.bool b)).run P w= .ok (a==b) w:=by
 have key:∀ d,(Op.equalIn (d+1) t (.bool a) (.bool b)).run P w= .ok (a==b) w:=fun d=>by
   simp only[Op.equalIn,Sem.run_bind,run_underlying hd,Result.andThen_ok,Sem.run_pure]
 exact key 9999
theorem Ix
   (ht:∃ d,P.underlying t=some d/\(∀ a b,X= .bool a->Y= .bool b->d= .bool))
   (hx:RelV ρ S w D X u) (hy:RelV ρ S w D Y v) (e:Ck op X Y=some (V,ob)) (ho:AllP ob):
   ∃ r,(do eqGuard op t x y u v;binOp op t u v:Sem Value).run P w= .ok r w/\RelV ρ S w D V r:=by
 obtain⟨d,hd,hdb⟩:=ht;cases X <;> cases Y <;> first | (cases e) | skip
 · -- ints
   rename_i k a k' b;obtain rfl:=hx.int_inv;obtain rfl:=hy.int_inv
   have hg:(eqGuard op t x y (.int k a) (.int k' b)).run P w= .ok () w:=by
     unfold eqGuard;cases op <;> rfl
   cases op <;> simp only[Ck] at e <;> (try split at e) <;> first | (cases e) | skip
   all_goals
     (try rename_i hk;subst hk)
     simp only[Sem.run_bind,hg,Result.andThen_ok];refine⟨_, ?_,bA (by first | exact .int .done | exact .bool .done)⟩;simp[binOp,Op.shift,Op.intArith,Op.intDiv,Op.intBits,Op.intCmp]
   all_goals first
     | rfl
     | (have:=ho _ (List.mem_singleton.2 rfl);simp[show ¬ b<0 from by omega];done)
     | (have:=ho _ (List.mem_singleton.2 rfl);simp[this];done)
     | (simp[BEq.beq];done)
     | skip
 · rename_i a b
   obtain rfl:=hx.bool_inv;obtain rfl:=hy.bool_inv
   have hg:(eqGuard op t x y (.bool a) (.bool b)).run P w= .ok () w:=by
     unfold eqGuard;cases op <;> rfl
   have hdd:=hdb a b rfl rfl;subst hdd;cases op <;> simp only[Ck] at e <;> first | (cases e) | skip
   all_goals
     simp only[Sem.run_bind,hg,Result.andThen_ok];refine⟨_, ?_,bA (.bool .done)⟩;simp only[binOp,Sem.run_bind,vB hd,Result.andThen_ok,Sem.run_pure]
 · rename_i a b
   obtain rfl:=hx.str_inv;obtain rfl:=hy.str_inv
   have hg:(eqGuard op t x y (.string a) (.string b)).run P w= .ok () w:=by
     unfold eqGuard;cases op <;> rfl
   cases op <;> simp only[Ck] at e <;> first | (cases e) | skip
   all_goals
     simp only[Sem.run_bind,hg,Result.andThen_ok];refine⟨_, ?_,bA (by first | exact .str .done | exact .bool .done)⟩;simp[binOp,Op.stringOp]
   have:=ho _ (List.mem_singleton.2 rfl);unfold big at this;omega
inductive Eff where
 | keep
 | new (b:ABlk)
 | set (l:Nat) (b:ABlk)
 | app (l:Option Nat) (b:ABlk)
 | wr (l:Nat) (x y:Option ABlk)
structure Out where
 v:AV
 e:Eff
 ob:List Prop
def val (v:AV) (ob:List Prop:=[]):Option Out:=some ⟨v,.keep,ob⟩
def gM (e:Eff) (nid:Nat) (h:List (Option ABlk)):List (Option ABlk):=
 match e with
 | .keep=>h
 | .new b=>h.set nid (some b)
 | .set l b=>h.set l (some b)
 | .app (some l) b=>(h.set l none).set nid (some b)
 | .app none b=>h.set nid (some b)
 | .wr l x y=>(h.set l x).set nid y
def cQ:AV->Bool
 | .tup _=>false
 | _=>true
def refId:AV->Option Nat
 | .ptr l _ _ _=>some l
 | .own l _ _ _=>some l
 | _=>none
def noRef0:AV->Bool
 | .own _ _ _ _ | .ptr _ _ _ _ | .fn _ _ | .fnm _ _ _ | .agg _ | .tup _=>false
 | _=>true
def noRef:AV->Bool
 | .fn _ caps=>caps.all noRef0
 | .fnm _ _ cs=>cs.all noRef0
 | c=>noRef0 c
def eC:AV->Bool
 | .agg cs=>cs.all noRef
 | .any=>true
 | c=>noRef c
section
theorem RelCs.noRef0 (h:RelCs ρ S w D cs vs):cs.all Av.noRef0=true->∀ ρ',RelCs ρ' S w No cs vs:=by
 induction h with
 | done=>intro _ ρ';exact .done
 | any h1 _ ih=>intro hn ρ';simp at hn;exact .any h1 (ih (by simpa using hn.2) ρ')
 | int _ ih=>intro hn ρ';simp at hn;exact .int (ih (by simpa using hn.2) ρ')
 | bool _ ih=>intro hn ρ';simp at hn;exact .bool (ih (by simpa using hn.2) ρ')
 | str _ ih=>intro hn ρ';simp at hn;exact .str (ih (by simpa using hn.2) ρ')
 | nil _ ih=>intro hn ρ';simp at hn;exact .nil (ih (by simpa using hn.2) ρ')
 | lit h1 _ ih=>intro hn ρ';simp at hn;exact .lit h1 (ih (by simpa using hn.2) ρ')
 | list f h1 h2 h3 h4 h5 _ _ ih=>
   intro hn ρ';simp at hn;exact .list f h1 h2 h3 (fun i el hel=>(h4 i el hel).keep _ (fun _ h=>h) ⟨Nat.le_refl _,fun l h=>h.elim,fun k _ hs=>⟨hs,rfl⟩⟩) h5 (ih (by simpa using hn.2) ρ')
 | own _ _ _ _ _ ih=>intro hn;simp[Av.noRef0] at hn
 | ptr _ _ ih=>intro hn;simp[Av.noRef0] at hn
 | cptr h0 hb hs hseg _ _ ih=>
   intro hn ρ';simp at hn;exact .cptr (h0.keep _ (fun _ h=>h) ⟨Nat.le_refl _,fun l h=>h.elim,fun k _ hs=>⟨hs,rfl⟩⟩) hb hs hseg (ih (by simpa using hn.2) ρ')
 | fn _ _ _ ih=>intro hn;simp[Av.noRef0] at hn
 | fnm _ _ _ ih=>intro hn;simp[Av.noRef0] at hn
 | nat xs h1 h2 h3 _ ih=>intro hn ρ';simp at hn;exact .nat xs h1 h2 h3 (ih (by simpa[Av.noRef0] using hn.2) ρ')
 | dig xs h1 h2 h3 _ ih=>intro hn ρ';simp at hn;exact .dig xs h1 h2 h3 (ih (by simpa[Av.noRef0] using hn.2) ρ')
 | z _ ih=>intro hn ρ';simp at hn;exact .z (ih (by simpa[Av.noRef0] using hn.2) ρ')
 | rz _ ih=>intro hn ρ';simp at hn;exact .rz (ih (by simpa[Av.noRef0] using hn.2) ρ')
 | q _ ih=>intro hn ρ';simp at hn;exact .q (ih (by simpa[Av.noRef0] using hn.2) ρ')
 | rq h1 _ ih=>intro hn ρ';simp at hn;exact .rq h1 (ih (by simpa[Av.noRef0] using hn.2) ρ')
theorem RelCs.noRef (h:RelCs ρ S w D cs vs):cs.all Av.noRef=true->∀ ρ',RelCs ρ' S w No cs vs:=by
 induction h with
 | done=>intro _ ρ';exact .done
 | any h1 _ ih=>intro hn ρ';simp at hn;exact .any h1 (ih (by simpa using hn.2) ρ')
 | int _ ih=>intro hn ρ';simp at hn;exact .int (ih (by simpa using hn.2) ρ')
 | bool _ ih=>intro hn ρ';simp at hn;exact .bool (ih (by simpa using hn.2) ρ')
 | str _ ih=>intro hn ρ';simp at hn;exact .str (ih (by simpa using hn.2) ρ')
 | nil _ ih=>intro hn ρ';simp at hn;exact .nil (ih (by simpa using hn.2) ρ')
 | lit h1 _ ih=>intro hn ρ';simp at hn;exact .lit h1 (ih (by simpa using hn.2) ρ')
 | list f h1 h2 h3 h4 h5 _ _ ih=>
   intro hn ρ';simp at hn;exact .list f h1 h2 h3 (fun i el hel=>(h4 i el hel).keep _ (fun _ h=>h) ⟨Nat.le_refl _,fun l h=>h.elim,fun k _ hs=>⟨hs,rfl⟩⟩) h5 (ih (by simpa using hn.2) ρ')
 | own _ _ _ _ _ ih=>intro hn;simp[Av.noRef,Av.noRef0] at hn
 | ptr _ _ ih=>intro hn;simp[Av.noRef,Av.noRef0] at hn
 | cptr h0 hb hs hseg _ _ ih=>
   intro hn ρ';simp at hn;exact .cptr (h0.keep _ (fun _ h=>h) ⟨Nat.le_refl _,fun l h=>h.elim,fun k _ hs=>⟨hs,rfl⟩⟩) hb hs hseg (ih (by simpa using hn.2) ρ')
 | fn h0 _ ih0 ih=>intro hn ρ';simp[Av.noRef] at hn;exact .fn (h0.noRef0 (by simpa using hn.1) ρ') (ih (by simpa[Av.noRef] using hn.2) ρ')
 | fnm h0 _ ih0 ih=>intro hn ρ';simp[Av.noRef] at hn;exact .fnm (h0.noRef0 (by simpa using hn.1) ρ') (ih (by simpa[Av.noRef] using hn.2) ρ')
 | nat xs h1 h2 h3 _ ih=>intro hn ρ';simp at hn;exact .nat xs h1 h2 h3 (ih (by simpa[Av.noRef,Av.noRef0] using hn.2) ρ')
 | dig xs h1 h2 h3 _ ih=>intro hn ρ';simp at hn;exact .dig xs h1 h2 h3 (ih (by simpa[Av.noRef,Av.noRef0] using hn.2) ρ')
 | z _ ih=>intro hn ρ';simp at hn;exact .z (ih (by simpa[Av.noRef,Av.noRef0] using hn.2) ρ')
 | rz _ ih=>intro hn ρ';simp at hn;exact .rz (ih (by simpa[Av.noRef,Av.noRef0] using hn.2) ρ')
 | q _ ih=>intro hn ρ';simp at hn;exact .q (ih (by simpa[Av.noRef,Av.noRef0] using hn.2) ρ')
 | rq h1 _ ih=>intro hn ρ';simp at hn;exact .rq h1 (ih (by simpa[Av.noRef,Av.noRef0] using hn.2) ρ')
theorem RelV0.noRef (h:RelV ρ S w D c v) (hn:eC c=true) (ρ':Nat->Nat):RelV0 ρ' S w No c v:=by
 cases c
 case any=>trivial
 case agg cs=>obtain⟨vs,e,h⟩:=h;exact⟨vs,e,h.noRef hn ρ'⟩
 case tup=>simp[eC,Av.noRef,Av.noRef0] at hn
 all_goals
   have h':RelCs ρ S w D [_] [v]:=h;exact h'.noRef (by simpa[eC] using hn) ρ'
end
def ρ0:Nat->Nat:=fun _=>0
def oJ (P:Program) (f:FuncId):Prop:=∃ fn,P.funcs[f]? =some fn/\(fn.name== "runtime.NumGoroutine")=false/\fn.body.isNone=false
def qL (P:Program) (f:FuncId) (args:List AV) (r:AV):Prop:=
 oJ P f/\∀ (S:Nat->Prop) (w:World) (vals:List Value),(∀ k,S k->k<w.heap.size)->RelVs ρ0 S w No args vals->
   Calls P f vals.toArray w fun e w'=>∃ v,e= .returned v/\RelV ρ0 S w' No r v/\Chg No w w'
mutual
def eH (φ:Nat->Option Nat):AV->AV
 | .own l e b n=>match φ l with
   | some j=>.own j e b n
   | none=>.any
 | .ptr l e i o=>match φ l with
   | some j=>.ptr j e i o
   | none=>.any
 | .fn f caps=>.fn f (qM φ caps)
 | .fnm f ag cs=>.fnm f ag (qM φ cs)
 | .agg cs=>.agg (qM φ cs)
 | .tup vs=>.tup (qM φ vs)
 | c=>c
def qM (φ:Nat->Option Nat):List AV->List AV
 | []=>[]
 | c::cs=>eH φ c::qM φ cs
end
def jB (φ:Nat->Option Nat) (b:ABlk):ABlk:={ b with elems:=if b.closed then b.elems else b.elems.map (qM φ) }
def qN (P:Program) (f:FuncId) (args:List AV) (h:List ABlk) (r:AV) (h2:List (Option ABlk)):Prop:=
 oJ P f/\h.length<=h2.length/\∀ (S:Nat->Prop) (w:World) (ρ:Nat->Nat) (vals:List Value),(∀ k,S k->k<w.heap.size)->
   (∀ l b,h[l]? =some b->RelB ρ (Sof S ρ (h.map some)) w (· <h.length) l b/\¬ S (ρ l))->(∀ l l',l<h.length->l'<h.length->ρ l=ρ l'->l=l')->
   RelVs ρ (Sof S ρ (h.map some)) w (· <h.length) args vals->
   Calls P f vals.toArray w fun e w'=>∃ v ρ',e= .returned v/\(∀ l,l<h.length->ρ' l=ρ l)/\RelV ρ' (Sof S ρ' h2) w' (· <h2.length) r v/\
     (∀ l b,h2[l]? =some (some b)->RelB ρ' (Sof S ρ' h2) w' (· <h2.length) l b/\(l<h.length\/w.heap.size<=ρ' l)/\¬ S (ρ' l))/\
     (∀ l l' b b',h2[l]? =some (some b)->h2[l']? =some (some b')->ρ' l=ρ' l'->l=l')/\Chg (fun k=>∃ l,l<h.length/\k=ρ l) w w'
structure KT where
 s:FuncId->List AV->Option (AV×List Prop)
 h:FuncId->List AV->List ABlk->Option (AV×List (Option ABlk)×List Prop)
structure KOK (P:Program) (K:KT):Prop where
 s:∀ f args r ob,K.s f args=some (r,ob)->AllP ob->qL P f args r
 h:∀ f args (h:List ABlk) r h2 ob,K.h f args h=some (r,h2,ob)->AllP ob->qN P f args h r h2
def vC:List AV->List (Option ABlk)->Option (Nat×ABlk)
 | a ::aS,v::vs=>match refId a with
   | some l=>match v with
     | some b=>if (aS.filterMap refId).all (· ==l) then some (l,b) else none
     | none=>none
   | none=>vC aS vs
 | _,_=>none
def only (l:Nat):Nat->Option Nat:=fun k=>if k=l then some 0 else none
def back (l n:Nat):Nat->Option Nat:=fun k=>match k with
 | 0=>some l
 | 1=>some n
 | _=>none
def AR (l:Nat) (b:ABlk):AV->AV
 | .own k e m n=>if k=l/\e=b.e then .list e ((b.elems.drop m).take n) else .own k e m n
 | .ptr k e i o=>if k=l/\e=b.e then .cptr (b.elems.getD i []) o else .ptr k e i o
 | c=>c
def xY (l:Nat) (b:ABlk):AV->List Prop
 | .own k e m n=>if k=l/\e=b.e then [m+n<=b.elems.length] else []
 | .ptr k e i o=>if k=l/\e=b.e then [i<b.elems.length] else []
 | _=>[]
def lV (l:Nat) (b:ABlk):List AV->List Prop
 | []=>[]
 | V::σ=>xY l b V++lV l b σ
def mO (K:KT) (f:FuncId) (args:List AV) (vw:List (Option ABlk)) (nid:Nat):Option Out:=
 if args.all cQ then
 match vC args vw with
 | some (l,b)=>match K.h f (args.map (eH (only l))) [jB (only l) { b with pin:=none }] with
   | some (r,[x],ob)=>some ⟨eH (back l nid) r,.wr l (x.map fun c=>{ jB (back l nid) c with pin:=b.pin }) none,ob⟩
   | some (r,[x,some y],ob)=>some ⟨eH (back l nid) r,.wr l (x.map fun c=>{ jB (back l nid) c with pin:=b.pin }) (some { jB (back l nid) y with pin:=none }),ob⟩
   | _ =>if (b.closed||b.elems.all (·.all noRef))&&(args.map (AR l b)).all eC then
       match K.s f (args.map (AR l b)) with
       | some (r,ob)=>some ⟨r,.wr l none none,lV l b args++ob⟩
       | none=>none
     else none
 | none=>if args.all eC then
     match K.h f args [] with
     | some (r,[some y],ob)=>some ⟨eH (only' nid) r,.new { jB (only' nid) y with pin:=none },ob⟩
     | _=>none
   else none
 else none
where only' (n:Nat):Nat->Option Nat:=fun k=>if k=0 then some n else none
def xZ (fs:Nat->Option (Nat×Nat)) (cs:List AV):List (Nat×AV)->Option (List AV)
 | []=>some cs
 | (i, v)::rest=>
   match fs i,pO v with
   | some (off,sz),some c=>
     if tU c=sz then
       match Iw off sz cs c with
       | some cs'=>xZ fs cs' rest
       | none=>none
     else none
   | _,_=>none
def AX (sz:Nat) (es:List (List AV)):List (Nat×AV)->Option (List (List AV))
 | []=>some es
 | (i,v)::rest=>
   match pO v with
   | some c=>if tU c=sz/\i<es.length then AX sz (es.set i c) rest else none
   | none=>none
def mP:AV->Bool
 | .agg _ | .tup _ | .any=>false
 | c=>wd c==1
def Fc:List AV->Bool
 | [c]=>mP c
 | _=>false
def yA (e:Nat):AV->Option ABlk->Option (List (List AV)×List Prop)
 | .own _ e' b n,some blk=>if e'=e/\blk.e=e/\b=0/\(blk.closed||blk.elems.all (·.all noRef))=true then some (blk.elems,[n=blk.elems.length]) else none
 | .list e' ys,_=>if e'=e then some (ys,[]) else none
 | .nil,_=>some ([],[])
 | _,_=>none
def vD (n:Int) (lo hi mx:Option AV):Option (Nat×Nat×List Prop):=
 match lo,hi,mx with
 | none,none,none=>some (0,n.toNat,[])
 | some (.int _ l),none,none=>some (l.toNat,n.toNat,[0<=l,l<=n])
 | none,some (.int _ h),none=>some (0,h.toNat,[0<=h,h<=n])
 | some (.int _ l),some (.int _ h),none=>some (l.toNat,h.toNat,[0<=h,h<=n,0<=l,l<=h])
 | none,some (.int _ h),some (.int _ m)=>some (0,h.toNat,[0<=m,m<=n,0<=h,h<=m])
 | some (.int _ l),some (.int _ h),some (.int _ m)=>some (l.toNat,h.toNat,[0<=m,m<=n,0<=h,h<=m,0<=l,l<=h])
 | _,_,_=>none
def vE (args:List AV) (lo hi mx:Bool):Option (AV×Option AV×Option AV×Option AV):=
 match lo,hi,mx,args with
 | false,false,false,[x]=>some (x,none,none,none)
 | true,false,false,[x,l]=>some (x,some l,none,none)
 | false,true,false,[x,h]=>some (x,none,some h,none)
 | true,true,false,[x,l,h]=>some (x,some l,some h,none)
 | false,true,true,[x,h,m]=>some (x,none,some h,some m)
 | true,true,true,[x,l,h,m]=>some (x,some l,some h,some m)
 | _,_,_,_=>none
def Ea (op:BinOp) (ob:List Prop) (y:AV):Option Out:=
 match op,y with
 | .eql,.nil=>val (.bool false) ob
 | .neq,.nil=>val (.bool true) ob
 | _,_=>none
def fK  (T : TT) (K:KT) (o:Op) (args:List AV) (vw:List (Option ABlk)) (nid:Nat):Option Out:=
 match o with
 | .move _ | .assign _=>match args with
   | [x]=>val x
   | _=>none
 | .pick _ _ _=>match args with
   | [.bool true,x,_]=>val x
   | [.bool false,_,y]=>val y
   | _=>none
 | .alloc el=>match T el with
   | some i=>some ⟨.ptr nid i.sz 0 0,.new ⟨el,i.sz,false,[i.zero],none⟩,[]⟩
   | none=>none
 | .box el _=>match args with
   | [x]=>match pO x with
     | some cs=>some ⟨.ptr nid (tU cs) 0 0,.new ⟨el,tU cs,false,[cs],none⟩,[]⟩
     | none=>none
   | _=>none
 | .build t parts=>match T t with
   | some i=>match i.k with
     | .struct fs=>match xZ (fun j=>(fs[j]?).map fun f=>(f.1,f.2.1)) i.zero ((parts.toList.map (·.1)).zip args) with
       | some cs=>val (.agg cs)
       | none=>none
     | .array _ el=>match T el with
       | some ie=>match xZ (fun j=>some (j*ie.sz,ie.sz)) i.zero ((parts.toList.map (·.1)).zip args) with
         | some cs=>val (.agg cs)
         | none=>none
       | none=>none
     | _=>none
   | none=>none
 | .load t _ =>match T t with
   | some ti =>match args,vw with
     | [.ptr _ e i o],[some b]=>
       if b.e=e then
         if b.closed&&o==0&&ti.sz==e then val (if ti.agg then .agg (b.elems.getD i []) else (b.elems.getD i []).headD .any) [i<b.elems.length]
         else match b.elems[i]? with
           | some el=>match AU o ti.sz el with
             | some cs=>match Iv ti cs with
               | some v=>val v
               | none=>none
             | none=>none
           | none=>none
       else none
     | [.cptr cs o],_=>match AU o ti.sz cs with
       | some cs=>match Iv ti cs with
         | some v=>val v
         | none=>none
       | none=>none
     | _,_=>none
   | none=>none
 | .store t _ _=>match T t with
   | some ti =>match args,vw with
     | [.ptr l e i o,x],some b::_=>match pO x with
       | some cs=>
         if b.e=e/\tU cs=ti.sz then
           if b.closed then
             if o=0/\ti.sz=e/\cs.all noRef then some ⟨.any,.set l { b with elems:=b.elems.set i cs },[i<b.elems.length]⟩ else none
           else match b.elems[i]? with
             | some el=>match Iw o ti.sz el cs with
               | some el'=>some ⟨.any,.set l { b with elems:=b.elems.set i el' },[]⟩
               | none=>none
             | none=>none
         else none
       | none=>none
     | _,_=>none
   | none=>none
 | .nilCheck _=>match args with
   | [.ptr l e i o]=>val (.ptr l e i o)
   | [.cptr cs o]=>val (.cptr cs o)
   | [.fn f caps]=>val (.fn f caps)
   | [.fnm f ag cs]=>val (.fnm f ag cs)
   | _=>none
 | .fieldAddr s _ f=>match T s with
   | some i=>match i.k with
     | .struct fs=>match fs[f]? with
       | some (off,sz,_)=>
         if sz=0 then none else match args with
         | [.ptr l e i o]=>val (.ptr l e i (o+off))
         | [.cptr cs o]=>val (.cptr cs (o+off))
         | _=>none
       | none=>none
     | _=>none
   | none=>none
 | .field s _ f=>match T s with
   | some i => match i.k with
     | .struct fs=>match fs[f]? with
       | some (off,sz,ft)=>match T ft,args with
         | some ti,[.agg cs]=>
           if sz=ti.sz then
             match AU off ti.sz cs with
             | some c=>match Iv ti c with
               | some v=>val v
               | none=>none
             | none=>none
           else none
         | _,_=>none
       | none=>none
     | _=>none
   | none=>none
 | .extract _ ix=>match args with
   | [.tup vs]=>match vs[ix]? with
     | some v=>val v
     | none=>none
   | _=>none
 | .binOp op xt _ _ _=>match T xt,args with
   | some i,[x,y]=>
     match x,i.k with
     | .bool _,.bool=>(Ck op x y).map fun r=>⟨r.1,.keep,r.2⟩
     | .bool _,_=>none
     | .list _ xs,.slice _=>Ea op [0<xs.length] y
     | .own _ _ _ n,.slice _=>Ea op [0<n] y
     | .nil,.slice _=>match op,y with
       | .eql,.nil=>val (.bool true)
       | .neq,.nil=>val (.bool false)
       | _,_=>none
     | _,_=>(Ck op x y).map fun r=>⟨r.1,.keep,r.2⟩
   | _,_=>none
 | .unOp op _ _=>match op,args with
   | .not,[.bool b]=>val (.bool !b)
   | .neg,[.int k n]=>val (.int k (k.wrap (0-n)))
   | .xor,[.int k n]=>val (.int k (k.wrap (BitVec.ofInt k.bits (if k.signed then-1 else k.max)^^^BitVec.ofInt k.bits n).toNat))
   | _,_=>none
 | .convert src dst _=>match T src,T dst,args with
   | some _,some i,[.int _ n]=>match i.k with
     | .int k=>val (.int k (k.wrap n))
     | _=>none
   | _,_,_=>none
 | .indexAddr t _ _=>match T t with
   | some i=>match i.k with
     | .slice el=>match T el with
       | some ie=>match args with
         | [.list e xs,.int _ j]=>if ie.sz=e then val (.cptr (xs.getD j.toNat []) 0) [0<=j,j<xs.length] else none
         | [.own l e b n,.int _ j]=>if ie.sz=e then val (.ptr l e (b+j.toNat) 0) [0<=j,j<n] else none
         | _=>none
       | none=>none
     | .array n el=>match T el with
       | some ie=>match args with
         | [.ptr l e i o,.int _ j]=>if 2<=n then val (.ptr l e i (o+j.toNat*ie.sz)) [0<=j,j<n] else none
         | _=>none
       | none=>none
     | _=>none
   | none=>none
 | .makeFunc fn first captured=>match fn with
   | .func f=>
     if first.size=0 then (if args.all mP then val (.fn f args) else none)
     else if captured.size=0 then
       match args with
       | [.agg cs]=>val (.fnm f true cs)
       | [c]=>if mP c then val (.fnm f false [c]) else none
       | _=>none
     else none
   | _=>none
 | .buildSlice t len parts=>match T t with
   | some i=>match i.k with
     | .slice el=>match T el with
       | some ie=>
         if len=0 then (if parts.size=0/\0<ie.sz then some ⟨.own nid ie.sz 0 0,.new ⟨el,ie.sz,true,[],none⟩,[]⟩ else none)
         else if 0<ie.sz/\len*ie.sz<=16777216 then
           match AX ie.sz (List.replicate len ie.zero) ((parts.toList.map (·.1)).zip args) with
           | some es=>some ⟨.own nid ie.sz 0 len,.new ⟨el,ie.sz,false,es,none⟩,[]⟩
           | none=>none
         else none
       | none=>none
     | _=>none
   | none=>none
 | .makeSlice t _ _=>match T t with
   | some i=>match i.k with
     | .slice el=>match T el with
       | some ie=>match args with
         | [.int _ n,.int _ c]=>
           if ie.zero.all noRef/\0<ie.sz then
             some ⟨.own nid ie.sz 0 n.toNat,.new ⟨el,ie.sz,true,List.replicate n.toNat ie.zero,none⟩,[c=n,0<=n,ie.bytes*n<=281474976710656,n<=big]⟩
           else none
         | _=>none
       | none=>none
     | _=>none
   | none=>none
 | .slice t _ lo hi mx=>match T t,vE args lo.isSome hi.isSome mx.isSome with
   | some i,some (x,l,h,m)=>match i.k,x with
     | .string,.str s=>match vD s.size l h m with
       | some (a,b,ob)=>if mx.isSome then none else val (.str (s.extract a b)) ob
       | none=>none
     | .slice el,.list e xs=>match T el,vD xs.length l h m with
       | some ie,some (a,b,ob)=>if ie.sz=e then val (.list e ((xs.take b).drop a)) ob else none
       | _,_=>none
     | .slice el,.own k e b n=>match T el,vD n l h m with
       | some ie,some (a,c,ob)=>if ie.sz=e then val (.own k e (b+a) (c-a)) ob else none
       | _,_=>none
     | _,_=>none
   | _,_=>none
 | .index t _ _=>match T t with
   | some i=>match i.k,args with
     | .string,[.str s,.int _ j]=>val (.int .u8 (((s.data.toList.getD j.toNat 0).toNat:Nat):Int)) [0<=j,j<s.size]
     | _,_=>none
   | none=>none
 | .call c =>match c.callee with
   | .builtin .append=>match c.argTypes.toList,args,vw with
     | [t1, t2], [s, x],[vs,vx]=>match T t1,T t2 with
       | some i1,some i2=>match i1.k,i2.k with
         | .slice el,.slice _=>match T el with
           | some ie =>match yA ie.sz x vx with
             | some (ys,ob)=>
               if 0<ie.sz then
                 match s,vs with
                 | .nil,_=>some ⟨.own nid ie.sz 0 ys.length,.app none ⟨el,ie.sz,true,ys,none⟩,ob++ [0<ys.length,ys.length*ie.bytes<=140737488355328,ys.length<=big]⟩
                 | .own l e b n,some blk=>
                   if e=ie.sz/\blk.e=ie.sz/\blk.ty=el/\b=0/\(blk.closed||blk.elems.all (·.all noRef))=true then
                     some ⟨.own nid ie.sz 0 (n+ys.length),.app (some l) ⟨el,ie.sz,true,blk.elems++ys,none⟩,ob++ [n=blk.elems.length,(n+ys.length)*ie.bytes<=140737488355328,n+ys.length<=big]⟩
                   else none
                 | _,_=>none
               else none
             | none=>none
           | none=>none
         | _,_=>none
       | _,_=>none
     | _,_,_=>none
   | .builtin .copy=>match c.argTypes.toList,args,vw with
     | [t1, t2], [d,x],[vd,vx]=>match T t1 with
       | some i1 =>match i1.k with
         | .slice el=>match T el with
           | some ie=>match yA ie.sz x vx,d,vd with
             | some (ys,ob),.own l e b n,some blk=>
               if e=ie.sz/\blk.e=ie.sz/\blk.closed=true/\refId x≠some l then
                 some ⟨.int .i64 (min ys.length n:Nat),.set l { blk with elems:=blk.elems.take b++ys.take (min ys.length n)++blk.elems.drop (b+min ys.length n) },ob++ [b+n<=blk.elems.length]⟩
               else none
             | _,_,_=>none
           | none=>none
         | _=>none
       | none=>none
     | _,_,_=>none
   | .builtin .len=>match args,(c.argTypes[0]?).bind T with
     | [.str s],some i=>match i.k with
       | .string=>val (.int .i64 s.size)
       | _=>none
     | [.list _ xs],some i=>match i.k with
       | .slice _=>val (.int .i64 xs.length)
       | _=>none
     | [.own _ _ _ n],some i=>match i.k with
       | .slice _=>val (.int .i64 n)
       | _=>none
     | [.nil],some i=>match i.k with
       | .slice _=>val (.int .i64 0)
       | _=>none
     | _,_=>none
   | .value _=>match args with
     | .fn f caps::rest=>match (if (rest++caps).all eC&&caps.all mP then K.s f (rest++caps) else none) with
       | some r=>some ⟨r.1,.keep,r.2⟩
       | none=>match caps with
         | []=>mO K f rest (vw.drop 1) nid
         | _=>none
     | .fnm f ag cs::rest=>
       let recv:=if ag then .agg cs else cs.headD .any
       if (recv::rest).all eC&&(ag||Fc cs) then (K.s f (recv::rest)).map fun r=>⟨r.1,.keep,r.2⟩ else none
     | _=>none
   | _=>none
 | _=>none
def Ref (V V':AV):Prop:=∀ ρ S w D v,RelV ρ S w D V v->RelV ρ S w D V' v
theorem Ref.rfl' {V:AV}:Ref V V:=fun _ _ _ _ _ h=>h
theorem Ref.any {V:AV}:Ref V .any:=fun _ _ _ _ _ _=>trivial
theorem Ref.trans {a b c:AV} (h:Ref a b) (k:Ref b c):Ref a c:=fun ρ S w D v hv=>k ρ S w D v (h ρ S w D v hv)
def Fd:Eff->Bool
 | .new _ | .app _ _ | .wr _ _ _=>true
 | _=>false
def jV (P:Program) (S0 C0:Nat->Prop) (w0:World) (ρ:Nat->Nat) (D:Nat->Prop) (st:St) (a:Act) (w:World) (Q:Exit->Act->World->Prop) (o:Oper) (nid:Nat) (out:Out):Prop:=
 o.wp P a w (fun a' w'=>∃ v ρ' D',a'=a.put o.dst v/\(∀ V',Ref out.v V'->Rel S0 C0 w0 ρ' D' ⟨put st.σ o.dst V',gM out.e nid st.h⟩ a' w')/\∀ l,D' l->D l\/l=nid/\Fd out.e=true) Q
section
variable {P:Program} {S0 C0:Nat->Prop} {w0:World} {ρ:Nat->Nat} {D:Nat->Prop} {st:St} {a:Act} {w:World} {Q:Exit->Act->World->Prop} {o:Oper} {nid:Nat}
theorem bL (R:Rel S0 C0 w0 ρ D st a w) {V:AV} {v:Value} {ob:List Prop} (hr:(execOp a.eval o).run P w= .ok (.value v) w) (hv:RelV ρ (Sof S0 ρ st.h) w D V v):
   jV P S0 C0 w0 ρ D st a w Q o nid ⟨V,.keep,ob⟩:=by
 unfold jV Oper.wp;rw[hr,Oper.upon_value];exact⟨v,ρ,D,rfl,fun V' hV=>R.val (hV _ _ _ _ _ hv),fun l h=>.inl h⟩
theorem qO (R:Rel S0 C0 w0 ρ D st a w) (hn:st.h[nid]? =some none) (hD:¬ D nid) {b:ABlk} (hpin:b.pin=none) {arr:Array Value} {V:AV} {v:Value} {ob:List Prop}
   (hr:(execOp a.eval o).run P w= .ok (.value v) (w.alloc (.cells arr b.ty (0,0))))
   (hsz:b.elems.length*b.e<=arr.size)
   (hel:∀ ρ' S' w',Keep ρ (Sof S0 ρ st.h) w D ρ' S' w'->∀ i el,b.elems[i]? =some el->RelCs ρ' S' w' (if b.closed then No else lE D nid) el ((arr.toList.drop (i*b.e)).take b.e))
   (hv:∀ ρ' S' w',ρ' nid=w.heap.size->w'.heap[w.heap.size]? =some (.cells arr b.ty (0,0))->RelV ρ' S' w' (lE D nid) V v):
   jV P S0 C0 w0 ρ D st a w Q o nid ⟨V,.new b,ob⟩:=by
 unfold jV Oper.wp;rw[hr,Oper.upon_value];exact⟨v,_,_,rfl,fun V' hV=>R.new hn hD hpin hsz hel (fun ρ' S' w' _ h1 h2=>hV _ _ _ _ _ (hv ρ' S' w' h1 h2)),fun l h=>h.imp id (fun e=>⟨e,rfl⟩)⟩
theorem lW {l e i off:Nat} {v:Value} (h:RelV ρ (Sof S0 ρ st.h) w D (.ptr l e i off) v):v= .pointer (some ⟨ρ l,i*e+off,none⟩)/\D l:=by
 have h':RelCs ρ (Sof S0 ρ st.h) w D [.ptr l e i off] [v]:=h;cases h' with
 | ptr hD _=>exact⟨rfl,hD⟩
theorem vF {cs:List AV} {off:Nat} {v:Value} {S:Nat->Prop} (h:RelV ρ S w D (.cptr cs off) v):∃ vs a,v= .pointer (some (a.add off))/\RelCs ρ S w No cs vs/\a.block<w.heap.size/\¬ S a.block/\Seg w a vs:=by
 have h':RelCs ρ S w D [.cptr cs off] [v]:=h;cases h' with
 | cptr h0 hb hs hseg _=>exact⟨_,_,rfl,h0,hb,hs,hseg⟩
theorem pP {t:Nat} {ad:Addr}:(Instr.loadAt t (.pointer (some ad)))=loadVar t ad:=rfl
theorem tH {t:Nat} {ad:Addr} {v:Value}:(Instr.storeAt t (.pointer (some ad)) v)=storeVar t ad v:=rfl
theorem Cl {i:TI} {cs:List AV} {V:AV} (e:Iv i cs=some V) (h:tU cs=i.sz):i.agg=true\/i.sz=1:=by
 unfold Iv at e
 split at e
 · rename_i h;exact .inl h
 · split at e
   · split at e
     · rename_i hw;right;simp[tU,hw] at h;exact h.symm
     · cases e
   · cases e
theorem AY {T:TT} {t:Nat} {ti:TI} (hi:TIOK P t ti) {l i off:Nat} {b:ABlk} {el cs:List AV} {V:AV} (hB:RelB ρ (Sof S0 ρ st.h) w D l b)
   (hel:b.elems[i]? =some el) (hc:AU off ti.sz el=some cs) (hm:Iv ti cs=some V):
   ∃ v,(loadVar t ⟨ρ l,i*b.e+off,none⟩).run P w= .ok v w/\RelV ρ (Sof S0 ρ st.h) w D V v:=by
 obtain⟨arr,h1,h2,h3⟩:=hB;have h4:=h3 i el hel
 have h5:RelCs ρ (Sof S0 ρ st.h) w D el ((arr.toList.drop (i*b.e)).take b.e):=by
   cases hcl:b.closed with
   | true=>rw[hcl] at h4;exact h4.keep _ (fun _ h=>h.elim) ⟨Nat.le_refl _,fun l h=>h.elim,fun k _ hs=>⟨hs,rfl⟩⟩
   | false=>rw[hcl] at h4;exact h4
 obtain⟨h6,h7⟩:=uY h5 hc;have hseg:=Seg.of_row h1 (i*b.e) b.e;have hseg2:=hseg.cut off ti.sz;have ha:(⟨ρ l,i*b.e,none⟩:Addr).add off=⟨ρ l,i*b.e+off,none⟩:=by unfold Addr.add;split <;> simp_all
 rw[ha] at hseg2
 have hl:(((arr.toList.drop (i*b.e)).take b.e).drop off |>.take ti.sz).length=ti.sz:=by
   rw[List.length_take,List.length_drop];omega
 have hwd:tU cs=ti.sz:=by rw[<- h6.wds_eq];exact hl
 exact⟨_,lU hi hseg2 hl (Cl hm hwd),zN h6 hm⟩
theorem Eb {t:Nat} {ti:TI} (hi:TIOK P t ti) {l i:Nat} {b:ABlk} (hB:RelB ρ (Sof S0 ρ st.h) w D l b) (hcl:b.closed=true) (he:ti.sz=b.e)
   (hlt:i<b.elems.length) (h1:ti.agg=true\/ti.sz=1):
   ∃ v,(loadVar t ⟨ρ l,i*b.e+0,none⟩).run P w= .ok v w/\RelV ρ (Sof S0 ρ st.h) w D (if ti.agg then .agg (b.elems.getD i []) else (b.elems.getD i []).headD .any) v:=by
 obtain⟨arr,g1,g2,g3⟩:=hB;have hel:b.elems[i]? =some (b.elems.getD i []):=by simp[List.getD_eq_getElem?_getD,hlt]
 have h4:=g3 i _ hel;rw[hcl] at h4;have h5:RelCs ρ (Sof S0 ρ st.h) w D (b.elems.getD i []) ((arr.toList.drop (i*b.e)).take b.e):=h4.keep _ (fun _ h=>h.elim) ⟨Nat.le_refl _,fun l h=>h.elim,fun k _ hs=>⟨hs,rfl⟩⟩;have hseg:=Seg.of_row g1 (i*b.e) b.e;have hle:(i+1)*b.e<=arr.size:=Nat.le_trans (Nat.mul_le_mul_right _ hlt) g2
 have hl:((arr.toList.drop (i*b.e)).take b.e).length=ti.sz:=by
   rw[List.length_take,List.length_drop,Array.length_toList,he];rw[Nat.add_mul] at hle;omega
 refine⟨_,lU hi (a:=⟨ρ l,i*b.e+0,none⟩) hseg hl h1, ?_⟩;unfold KA;cases ha:ti.agg with
 | true=>exact⟨_,rfl,h5⟩
 | false=>
   have hz:ti.sz=1:=h1.resolve_left (by simp[ha]);rw[hz] at hl
   revert h5 hl
   generalize (arr.toList.drop (i*b.e)).take b.e=vs;generalize b.elems.getD i []=el;intro h5 hl;have hw:=h5.wds_eq
   match vs,hl with
   | [v],_=>
     match el,h5,hw with
     | [c],h5,_=>exact bA h5
     | [],h5,hw=>simp[tU] at hw
     | c::d::cs,h5,hw=>
       have:∀ c:AV,1<=wd c:=fun c=>by cases c <;> simp[wd]
       have h1:=this c;have h2:=this d;simp[tU] at hw;omega
theorem Ec {t:Nat} {ti:TI} (hi:TIOK P t ti) {S:Nat->Prop} {cs0 cs:List AV} {vs:List Value} {ad:Addr} {off:Nat} {V:AV} (h0:RelCs ρ S w No cs0 vs) (hseg:Seg w ad vs)
   (hc:AU off ti.sz cs0=some cs) (hm:Iv ti cs=some V):
   ∃ v,(loadVar t (ad.add off)).run P w= .ok v w/\RelV ρ S w D V v:=by
 have h5:RelCs ρ S w D cs0 vs:=h0.keep _ (fun _ h=>h.elim) ⟨Nat.le_refl _,fun l h=>h.elim,fun k _ hs=>⟨hs,rfl⟩⟩;obtain⟨h6,h7⟩:=uY h5 hc;have hseg2:=hseg.cut off ti.sz
 have hl:((vs.drop off).take ti.sz).length=ti.sz:=by
   rw[List.length_take,List.length_drop];omega
 have hwd:tU cs=ti.sz:=by rw[<- h6.wds_eq];exact hl
 exact⟨_,lU hi hseg2 hl (Cl hm hwd),zN h6 hm⟩
end
section
variable {P:Program} {S0 C0:Nat->Prop} {w0:World} {ρ:Nat->Nat} {D:Nat->Prop} {st:St} {a:Act} {w:World} {Q:Exit->Act->World->Prop} {o:Oper} {nid:Nat} {T:TT} {K:KT} {out:Out}
theorem RelV0.of_chunks (h:RelV ρ S w D c v) (e:pO c=some cs):tU cs=v.cells.size:=by
 have:=(kB h e).wds_eq;simpa using this.symm
theorem mX (h:TIOK P t i):∃ z,(∀ w,(zeroValue t).run P w= .ok z w)/\z.cells.size=i.sz/\∀ ρ S w D,RelCs ρ S w D i.zero z.cells.toList:=by
 obtain⟨info,d,h1,h2,h3,h4,h5,z,hz,hr⟩:=h.ex;refine⟨z,fun w=> ?_, ?_,hr⟩
 · have:(program).run P w= .ok P w:=rfl
   simp[zeroValue,typeInfo,this,h1,hz]
 · have:=(hr (fun _=>0) No default No).wds_eq
   rw[h.zw] at this;simpa using this
theorem Fe (hT:lT P T) (R:Rel S0 C0 w0 ρ D st a w) (hn:st.h[nid]? =some none) (hD:¬ D nid) (hop:o.op= .alloc el)
   (he:fK T K (.alloc el) args vw nid=some out):jV P S0 C0 w0 ρ D st a w Q o nid out:=by
 simp only[fK] at he
 split at he
 · rename_i i hi
   injection he with he;subst he;obtain⟨z,hz,hsz,hr⟩:=mX (hT _ _ hi);refine qO R hn hD rfl (arr:=z.cells) ?_ (by simp[hsz]) ?_ (fun ρ' S' w' h1 h2=> ?_) (v:=.pointer (some ⟨w.heap.size,0,none⟩))
   · rw[execOp,hop]
     simp only[Instr.alloc,newVar,newRow,newObj,Sem.run_bind,hz,Result.andThen_ok,Sem.run_pure];rfl
   · intro ρ' S' w' hk j c hj
     cases j with
     | zero=>
       simp at hj;subst hj;simp only[Nat.zero_mul,List.drop_zero,Bool.false_eq_true,if_false];rw[List.take_of_length_le (by simp[hsz])];exact hr _ _ _ _
     | succ j=>simp at hj
   · have:=bA (ρ:=ρ') (S:=S') (w:=w') (RelCs.ptr (D:=lE D nid) (l:=nid) (e:=i.sz) (i:=0) (o:=0) (.inr rfl) .done)
     simpa[h1] using this
 · cases he
theorem Lk (hT:lT P T) (R:Rel S0 C0 w0 ρ D st a w) (hn:st.h[nid]? =some none) (hD:¬ D nid) (hop:o.op= .box el x)
   (he:fK T K (.box el x) [bI st.σ x] vw nid=some out):jV P S0 C0 w0 ρ D st a w Q o nid out:=by
 simp only[fK] at he
 split at he
 · rename_i cs hcs
   injection he with he;subst he;have hx:=R.eval x;have hc:=kB hx hcs;have hw:=RelV0.of_chunks hx hcs;refine qO R hn hD rfl (arr:=(a.eval x).cells) ?_ (by simp[hw]) ?_ (fun ρ' S' w' h1 h2=> ?_) (v:=.pointer (some ⟨w.heap.size,0,none⟩))
   · rw[execOp,hop]
     simp only[Instr.box,newVar,newRow,newObj,Sem.run_bind,Result.andThen_ok,Sem.run_pure];rfl
   · intro ρ' S' w' hk j c hj
     cases j with
     | zero=>
       simp at hj;subst hj;simp only[Nat.zero_mul,List.drop_zero,Bool.false_eq_true,if_false];rw[List.take_of_length_le (by simp[hw])];exact hc.keep _ (fun _ h=>.inl h) hk
     | succ j=>simp at hj
   · have:=bA (ρ:=ρ') (S:=S') (w:=w') (RelCs.ptr (D:=lE D nid) (l:=nid) (e:=tU cs) (i:=0) (o:=0) (.inr rfl) .done)
     simpa[h1] using this
 · cases he
theorem Db (R:Rel S0 C0 w0 ρ D st a w) (hop:o.op= .move x\/o.op= .assign x):jV P S0 C0 w0 ρ D st a w Q o nid ⟨bI st.σ x,.keep,[]⟩:=
 bL R (v:=a.eval x) (by rcases hop with hop | hop <;> rw[execOp,hop] <;> rfl) (R.eval x)
theorem Iy (R:Rel S0 C0 w0 ρ D st a w) (hop:o.op= .pick c x y)
   (he:fK T K (.pick c x y) [bI st.σ c,bI st.σ x,bI st.σ y] vw nid=some out):jV P S0 C0 w0 ρ D st a w Q o nid out:=by
 have hc:=R.eval c;simp only[fK] at he
 split at he
 · rename_i hargs
   injection hargs with h1 h2;injection h2 with h2 h3;injection h3 with h3 _;injection he with he;subst he;subst h2;rw[h1] at hc;refine bL R (v:=a.eval x) ?_ (R.eval x);rw[execOp,hop];simp only[hc.bool_inv,asBool];rfl
 · rename_i hargs
   injection hargs with h1 h2;injection h2 with h2 h3;injection h3 with h3 _;injection he with he;subst he;subst h3;rw[h1] at hc;refine bL R (v:=a.eval y) ?_ (R.eval y);rw[execOp,hop];simp only[hc.bool_inv,asBool];rfl
 · cases he
theorem Cm (R:Rel S0 C0 w0 ρ D st a w) (hop:o.op= .extract x ix)
   (he:fK T K (.extract x ix) [bI st.σ x] vw nid=some out):jV P S0 C0 w0 ρ D st a w Q o nid out:=by
 have hx:=R.eval x;simp only[fK] at he
 split at he
 · rename_i vs hargs
   injection hargs with h1 _;rw[h1] at hx;obtain⟨us,hu,hr⟩:=hx
   split at he
   · rename_i V hV
     injection he with he;subst he
     have key:∀ (vs:List AV) (us:List Value) (ix:Nat) (V:AV),RelVs ρ (Sof S0 ρ st.h) w D vs us->vs[ix]? =some V->∃ u,us[ix]? =some u/\RelV0 ρ (Sof S0 ρ st.h) w D V u:=by
       intro vs
       induction vs with
       | nil=>intro us ix V _ h;simp at h
       | cons c vs ih=>
         intro us ix V hr h;cases us with
         | nil=>exact hr.elim
         | cons u us=>
           cases ix with
           | zero=>simp at h;subst h;exact⟨u,rfl,hr.1⟩
           | succ ix=>exact ih us ix V hr.2 (by simpa using h)
     obtain⟨u,hu2,hr2⟩:=key vs us ix V hr hV;refine bL R (v:=u) ?_ ?_
     · rw[execOp,hop]
       simp[hu,Instr.extract,hu2]
     · cases V <;> first | exact hr2 | (have h':RelCs _ _ _ _ [_] [_]:=hr2;cases h')
   · cases he
 · cases he
theorem AZ (R:Rel S0 C0 w0 ρ D st a w) (hop:o.op= .nilCheck x)
   (he:fK T K (.nilCheck x) [bI st.σ x] vw nid=some out):jV P S0 C0 w0 ρ D st a w Q o nid out:=by
 have hx:=R.eval x;simp only[fK] at he
 split at he
 · rename_i l e i off hargs
   injection hargs with h1 _;injection he with he;subst he;rw[h1] at hx;have hv:=(lW hx).1;refine bL R (v:=a.eval x) ?_ hx;rw[execOp,hop];simp only[hv];rfl
 · rename_i cs off hargs
   injection hargs with h1 _;injection he with he;subst he;rw[h1] at hx;obtain⟨vs,ad,hv,_⟩:=vF hx;refine bL R (v:=a.eval x) ?_ hx;rw[execOp,hop];simp only[hv];rfl
 · rename_i f caps hargs
   injection hargs with h1 _;injection he with he;subst he;rw[h1] at hx;have h':RelCs ρ (Sof S0 ρ st.h) w D [.fn f caps] [a.eval x]:=hx
   have hv:∃ cvs:List Value,a.eval x= .func (.func f) #[] cvs.toArray:=by
     generalize a.eval x=v at h';cases h' with
     | fn _ _=>exact⟨_,rfl⟩
   obtain⟨cvs,hv⟩:=hv;refine bL R (v:=a.eval x) ?_ hx;rw[execOp,hop];simp only[hv];rfl
 · rename_i f ag cs hargs
   injection hargs with h1 _;injection he with he;subst he;rw[h1] at hx;have h':RelCs ρ (Sof S0 ρ st.h) w D [.fnm f ag cs] [a.eval x]:=hx
   have hv:∃ r,a.eval x= .func (.func f) #[r] #[]:=by
     generalize a.eval x=v at h';cases h' with
     | fnm _ _=>exact⟨_,rfl⟩
   obtain⟨r,hv⟩:=hv;refine bL R (v:=a.eval x) ?_ hx;rw[execOp,hop];simp only[hv];rfl
 · cases he
theorem pQ {t:Nat} {i:TI} (h:TIOK P t i) {fs:List (Nat×Nat×Nat)} (hk:i.k= .struct fs):
   ∃ fields:Array Field,P.underlying t=some (.struct fields)/\fields.toList.map (fun f=>(f.offset,((P.info? f.type).map (·.size)).getD 0,f.type))=fs/\∀ f∈fields.toList,((P.info? f.type).map (·.size)).isSome:=by
 obtain⟨d,hd,hk'⟩:=h.under;rw[hk] at hk';cases d <;> first | exact hk'.elim | skip;exact⟨_,hd,hk'⟩
theorem eR (h:TIOK P t i) (hk:i.k= .slice e):P.underlying t=some (.slice e):=by
 obtain⟨d,hd,hk'⟩:=h.under;rw[hk] at hk';cases d <;> first | exact hk'.elim | skip;rw[hd];congr 2;exact hk'.symm
theorem yB (h:TIOK P t i) (hk:i.k= .array n e):P.underlying t=some (.array n e):=by
 obtain⟨d,hd,hk'⟩:=h.under;rw[hk] at hk';cases d <;> first | exact hk'.elim | skip;rw[hd,hk'.1,hk'.2]
theorem Ba {fields:Array Field} {fs:List (Nat×Nat×Nat)} (h2:fields.toList.map (fun f=>(f.offset,((P.info? f.type).map (·.size)).getD 0,f.type))=fs)
   (h3:∀ f∈fields.toList,((P.info? f.type).map (·.size)).isSome) {f off sz ft:Nat} (hf:fs[f]? =some (off,sz,ft)):
   ∃ fd:Field,fields[f]? =some fd/\fd.offset=off/\fd.type=ft/\∀ w,(sizeOf fd.type).run P w= .ok sz w:=by
 subst h2;rw[List.getElem?_map] at hf;obtain⟨fd,h4,h5⟩:=Option.map_eq_some_iff.1 hf;simp only[Prod.mk.injEq] at h5;obtain⟨h5,h6,h7⟩:=h5;have hm:=h3 fd (List.mem_of_getElem? h4);obtain⟨n,hn⟩:=Option.isSome_iff_exists.1 hm;rw[hn] at h6;obtain⟨info,hi,hs⟩:=Option.map_eq_some_iff.1 hn;refine⟨fd,by simpa using h4,h5,h7,fun w=> ?_⟩;have:(program).run P w= .ok P w:=rfl;simp at h6;simp[sizeOf,typeInfo,this,hi,hs,h6]
theorem mY {b o n:Nat}:(⟨b,o,none⟩:Addr).add n=⟨b,o+n,none⟩:=by unfold Addr.add;split <;> simp_all
theorem sF (a:Addr) (n m:Nat):(a.add n).add m=a.add (n+m):=by
 unfold Addr.add
 by_cases h1:n=0 <;> by_cases h2:m=0 <;> simp[h1,h2,Nat.add_assoc]
theorem zO (hT:lT P T) (R:Rel S0 C0 w0 ρ D st a w) {s f:Nat} {x:Operand} (hop:o.op= .fieldAddr s x f) {vw:List (Option ABlk)}
   (he:fK T K (.fieldAddr s x f) [bI st.σ x] vw nid=some out):jV P S0 C0 w0 ρ D st a w Q o nid out:=by
 have hx:=R.eval x;simp only[fK] at he
 split at he
 · rename_i i hi
   split at he
   · rename_i fs hk
     split at he
     · rename_i off sz ft hf
       split at he
       · cases he
       · rename_i hsz
         obtain⟨fields,h1,h2,h3⟩:=pQ (hT _ _ hi) hk;obtain⟨fd,g1,g2,g3,g4⟩:=Ba h2 h3 hf
         split at he
         · rename_i l e j o' hargs
           injection hargs with hargs _;injection he with he;subst he;rw[hargs] at hx;obtain⟨hv,hD⟩:=lW hx;refine bL R (v:=.pointer (some ⟨ρ l,j*e+o'+off,none⟩)) ?_ ?_
           · rw[execOp,hop]
             simp[hv,Instr.fieldAt,Instr.sureAddr,fieldPlace,run_underlying h1,g1,g4,hsz,g2,mY]
           · rw[Nat.add_assoc];exact bA (.ptr hD .done)
         · rename_i cs o' hargs
           injection hargs with hargs _;injection he with he;subst he;rw[hargs] at hx;obtain⟨vs,ad,hv,k1,k2,k3,k4⟩:=vF hx;refine bL R (v:=.pointer (some (ad.add (o'+off)))) ?_ ?_
           · rw[execOp,hop]
             simp[hv,Instr.fieldAt,Instr.sureAddr,fieldPlace,run_underlying h1,g1,g4,hsz,g2,sF]
           · exact bA (.cptr k1 k2 k3 k4 .done)
         · cases he
     · cases he
   · cases he
 · cases he
theorem Iz (hT:lT P T) (R:Rel S0 C0 w0 ρ D st a w) (hop:o.op= .load t x)
   (he:fK T K (.load t x) [bI st.σ x] [(refId (bI st.σ x)).bind fun l=>(st.h[l]?).join] nid=some out) (ho:AllP out.ob):jV P S0 C0 w0 ρ D st a w Q o nid out:=by
 have hx:=R.eval x;simp only[fK] at he
 split at he
 · rename_i ti hi
   have ht:=hT _ _ hi
   split at he
   · rename_i l e i off b hargs hvw
     injection hargs with hargs _;rw[hargs] at hx hvw;obtain⟨hv,hD⟩:=lW hx;injection hvw with hvw _
     have hb:st.h[l]? =some (some b):=by
       simp only[refId,Option.bind_some] at hvw;cases h:st.h[l]? with
       | none=>simp[h] at hvw
       | some y=>simp[h] at hvw;rw[hvw]
     obtain⟨_,hB⟩:=R.heap l b hb
     split at he
     · rename_i hbe
       split at he
       · rename_i hc
         injection he with he;subst he;simp only[Bool.and_eq_true,beq_iff_eq] at hc;obtain⟨⟨hcl,ho'⟩,hsz⟩:=hc;have hlt:i<b.elems.length:=ho _ (List.mem_singleton.2 rfl);obtain⟨v,h1,h2⟩:=Eb (P:=P) ht hB hcl (by rw[hsz,hbe]) hlt ht.one;refine bL R (v:=v) ?_ h2;rw[execOp,hop];simp only[hv,pP];subst ho';rw[<- hbe];simp only[Sem.run_bind,h1,Result.andThen_ok,Sem.run_pure]
       · split at he
         · rename_i el hel
           split at he
           · rename_i cs hcs
             split at he
             · rename_i V hV
               injection he with he;subst he;obtain⟨v,h1,h2⟩:=AY (P:=P) (T:=T) ht hB hel hcs hV;refine bL R (v:=v) ?_ h2;rw[execOp,hop];simp only[hv,pP];rw[<- hbe];simp[h1]
             · cases he
           · cases he
         · cases he
     · cases he
   · rename_i cs0 off hargs
     injection hargs with hargs _;rw[hargs] at hx;obtain⟨vs,ad,hv,k1,k2,k3,k4⟩:=vF hx
     split at he
     · rename_i cs hcs
       split at he
       · rename_i V hV
         injection he with he;subst he;obtain⟨v,h1,h2⟩:=Ec (P:=P) (D:=D) ht k1 k4 hcs hV;refine bL R (v:=v) ?_ h2;rw[execOp,hop];simp only[hv,pP];simp[h1]
       · cases he
     · cases he
   · cases he
 · cases he
end
section
theorem Dc (R:Rel S0 C0 w0 ρ D st a w) (hl:st.h[l]? =some (some b))
   (hr:(execOp a.eval o).run P w= .ok .skip { w with heap:=w.heap.set! (ρ l) (.cells arr' b.ty (0,0)) })
   (harr:w.heap[ρ l]? =some (.cells arr b.ty (0,0))) (hty:b'.ty=b.ty/\b'.pin=b.pin) (hsz:arr.size=arr'.size) (hsz':b'.elems.length*b'.e<=arr'.size)
   (hel:∀ w',Keep ρ (Sof S0 ρ st.h) w D ρ (Sof S0 ρ st.h) w'->∀ i el,b'.elems[i]? =some el->RelCs ρ (Sof S0 ρ st.h) w' (if b'.closed then No else D) el ((arr'.toList.drop (i*b'.e)).take b'.e)):
   jV P S0 C0 w0 ρ D st a w Q o nid ⟨.any,.set l b',ob⟩:=by
 unfold jV Oper.wp;rw[hr,Oper.upon_skip];exact⟨undef,ρ,D,rfl,fun V' hV=>R.write hl harr hty rfl hsz hsz' (hel _) (fun _=>hV _ _ _ _ _ trivial),fun l h=>.inl h⟩
theorem pI {α:Type} (xs ys:List α) (k e i:Nat) (hy:ys.length=e) (hk:(k+1)*e<=xs.length):
   ((xs.take (k*e)++ys++xs.drop (k*e+e)).drop (i*e)).take e=if i=k then ys else (xs.drop (i*e)).take e:=by
 have hke:k*e+e<=xs.length:=by rw[Nat.add_mul] at hk;omega
 rcases Nat.lt_trichotomy i k with h | h | h
 · rw[if_neg (by omega)]
   have hie:(i+1)*e<=k*e:=Nat.mul_le_mul_right _ h;rw[Nat.add_mul] at hie;rw[List.append_assoc,List.drop_append_of_le_length (by rw[List.length_take];omega),List.take_append_of_le_length (by rw[List.length_drop,List.length_take];omega),List.drop_take,List.take_take]
   congr 1;omega
 · subst h
   rw[if_pos rfl];rw[List.append_assoc,List.drop_append,List.drop_of_length_le (by rw[List.length_take];omega),List.nil_append,List.length_take,Nat.min_eq_left (by omega),Nat.sub_self,List.drop_zero,List.take_append_of_le_length (by omega)];exact List.take_of_length_le (by omega)
 · rw[if_neg (by omega)]
   have hie:(k+1)*e<=i*e:=Nat.mul_le_mul_right _ h;rw[Nat.add_mul] at hie;rw[List.drop_append,List.drop_of_length_le (by rw[List.length_append,List.length_take];omega),List.nil_append,List.length_append,List.length_take,List.drop_drop]
   congr 2;omega
theorem Ll {α:Type} (xs us:List α) (k e off s:Nat) (hu:us.length=s) (hos:off+s<=e) (hk:(k+1)*e<=xs.length):
   xs.take (k*e+off)++us++xs.drop (k*e+off+s)=
     xs.take (k*e)++(((xs.drop (k*e)).take e).take off++us++((xs.drop (k*e)).take e).drop (off+s))++xs.drop (k*e+e):=by
 have hke:k*e+e<=xs.length:=by rw[Nat.add_mul] at hk;omega
 have h1:xs.take (k*e+off)=xs.take (k*e)++((xs.drop (k*e)).take e).take off:=by
   rw[List.take_take,Nat.min_eq_left (by omega), <- List.take_add]
 have h2:xs.drop (k*e+off+s)=((xs.drop (k*e)).take e).drop (off+s)++xs.drop (k*e+e):=by
   rw[List.drop_take,List.drop_drop]
   have h3:xs.drop (k*e+off+s)=(xs.drop (k*e+(off+s))).take (e-(off+s))++(xs.drop (k*e+(off+s))).drop (e-(off+s)):=by
     rw[List.take_append_drop,Nat.add_assoc]
   rw[h3,List.drop_drop]
   congr 2
   omega
 rw[h1,h2];simp only[List.append_assoc]
theorem Ff       (hT:lT P T) (R:Rel S0 C0 w0 ρ D st a w) (hop:o.op= .store t x y)
   (he:fK T K (.store t x y) [bI st.σ x,bI st.σ y] [(refId (bI st.σ x)).bind fun l=>(st.h[l]?).join,vy] nid=some out) (ho:AllP out.ob):jV P S0 C0 w0 ρ D st a w Q o nid out:=by
 have hx:=R.eval x;have hy:=R.eval y;simp only[fK] at he
 split at he
 · rename_i ti hi
   have ht:=hT _ _ hi
   split at he
   · rename_i l e i off y' b vy' hargs hvw
     injection hargs with h1 h2;injection h2 with h2 _;subst h2;rw[h1] at hx hvw;obtain⟨hv,hD⟩:=lW hx;injection hvw with hvw _
     have hb:st.h[l]? =some (some b):=by
       simp only[refId,Option.bind_some] at hvw;cases h:st.h[l]? with
       | none=>simp[h] at hvw
       | some z=>simp[h] at hvw;rw[hvw]
     obtain⟨_,hB⟩:=R.heap l b hb;obtain⟨arr,g1,g2,g3⟩:=hB
     split at he
     · rename_i cs hcs
       have hcr:=kB hy hcs;have hcw:=RelV0.of_chunks hy hcs
       split at he
       · rename_i hcond
         obtain⟨hbe,hws⟩:=hcond;subst hbe;have hlen:(a.eval y).cells.size=ti.sz:=by rw[<- hcw];exact hws
         have run:∀ (hle:i*b.e+off+ti.sz<=arr.size),(execOp a.eval o).run P w= .ok .skip { w with heap:=w.heap.set! (ρ l) (.cells (arr.toList.take (i*b.e+off)++(a.eval y).cells.toList++arr.toList.drop (i*b.e+off+ti.sz)).toArray b.ty (0,0)) }:=by
           intro hle;rw[execOp,hop];simp only[hv,tH];simp only[Sem.run_bind,pH ht g1 hlen hcr.one hle,Result.andThen_ok,Sem.run_pure]
         have hsame:∀ (hle:i*b.e+off+ti.sz<=arr.size),arr.size=(arr.toList.take (i*b.e+off)++(a.eval y).cells.toList++arr.toList.drop (i*b.e+off+ti.sz)).toArray.size:=by
           intro hle;simp only[List.size_toArray,List.length_append,List.length_take,List.length_drop,Array.length_toList,hlen];omega
         have elems:∀ (el el':List AV),b.elems[i]? =some el->(∀ w',Keep ρ (Sof S0 ρ st.h) w D ρ (Sof S0 ρ st.h) w'->RelCs ρ (Sof S0 ρ st.h) w' (if b.closed then No else D) el' (((arr.toList.drop (i*b.e)).take b.e).take off++(a.eval y).cells.toList++((arr.toList.drop (i*b.e)).take b.e).drop (off+ti.sz)))->
             off+ti.sz<=b.e->i*b.e+off+ti.sz<=arr.size/\∀ w',Keep ρ (Sof S0 ρ st.h) w D ρ (Sof S0 ρ st.h) w'->∀ j c,(b.elems.set i el')[j]? =some c->
               RelCs ρ (Sof S0 ρ st.h) w' (if b.closed then No else D) c (((arr.toList.take (i*b.e+off)++(a.eval y).cells.toList++arr.toList.drop (i*b.e+off+ti.sz)).toArray.toList.drop (j*b.e)).take b.e):=by
           intro el el' hel hnew hoff;have hlt:i<b.elems.length:=(List.getElem?_eq_some_iff.1 hel).1
           have hie:(i+1)*b.e<=arr.toList.length:=by
             rw[Array.length_toList];exact Nat.le_trans (Nat.mul_le_mul_right _ hlt) g2
           have hie':=hie;rw[Nat.add_mul,Array.length_toList] at hie';refine⟨by omega,fun w' hk j c hj=> ?_⟩;rw[List.toList_toArray,Ll arr.toList (a.eval y).cells.toList i b.e off ti.sz (by simpa using hlen) hoff hie,pI _ _ i b.e j (by simp[hlen];omega) hie];rw[List.getElem?_set] at hj
           split at hj
           · rename_i hij
             subst hij;rw[if_pos (show i=i from rfl)];simp[hlt] at hj;subst hj;exact hnew w' hk
           · rename_i hij
             rw[if_neg (show ¬ (j=i) from fun h=>hij h.symm)];have h4:=g3 j c hj;cases hcl:b.closed with
             | true=>rw[hcl] at h4;exact h4.keep _ (fun _ h=>h) ⟨hk.size,fun l h=>h.elim,hk.cells⟩
             | false=>rw[hcl] at h4;exact h4.keep _ (fun _ h=>h) hk
         split at he
         · rename_i hcl
           split at he
           · rename_i hc2
             obtain⟨ho0,hse,hnr⟩:=hc2;injection he with he;subst he;have hlt:i<b.elems.length:=ho _ (List.mem_singleton.2 rfl);subst ho0
             obtain⟨hle,hel⟩:=elems (b.elems.getD i []) cs (by simp[List.getD_eq_getElem?_getD,hlt]) (fun w' hk=>by
               simp only[List.take_zero,List.nil_append,Nat.zero_add];rw[List.drop_of_length_le (by rw[List.length_take,hse];omega),List.append_nil,if_pos hcl]
               exact(hcr.noRef hnr ρ).keep _ (fun _ h=>h) ⟨hk.size,fun l h=>h.elim,hk.cells⟩) (by omega)
             exact Dc R hb (run hle) g1 ⟨rfl,rfl⟩ (hsame hle) (by rw[<- hsame hle];simpa using g2) hel
           · cases he
         · rename_i hcl
           split at he
           · rename_i el hel0
             split at he
             · rename_i el' hrep
               injection he with he;subst he;have h4:=g3 i el hel0;rw[if_neg hcl] at h4;obtain⟨h5,h6⟩:=AW h4 hcr hrep (by simpa using hlen);rw[List.length_take] at h6
               obtain⟨hle,hel⟩:=elems el el' hel0 (fun w' hk=>by
                 rw[if_neg hcl]
                 exact h5.keep _ (fun _ h=>h) hk) (by omega)
               exact Dc R hb (run hle) g1 ⟨rfl,rfl⟩ (hsame hle) (by rw[<- hsame hle];simpa using g2) hel
             · cases he
           · cases he
       · cases he
     · cases he
   · cases he
 · cases he
end
section
variable {P:Program} {S0 C0:Nat->Prop} {w0:World} {ρ:Nat->Nat} {D:Nat->Prop} {st:St} {a:Act} {w:World} {Q:Exit->Act->World->Prop} {o:Oper} {nid:Nat} {T:TT} {K:KT} {out:Out}
theorem pJ {P:Program} {op:BinOp} {xt yt:Nat} {x y:Operand} {el:Nat} (hd:P.underlying xt=some (.slice el)) {ad:Addr} {n cap:Nat} {w:World} {r:Bool} (hop:op= .eql/\r=false\/op= .neq/\r=true):
   (do eqGuard op xt x y (.slice (some ad) n cap) (.slice none 0 0);binOp op xt (.slice (some ad) n cap) (.slice none 0 0):Sem Value).run P w= .ok (.bool r) w:=by
 have key:(Op.equal xt (.slice (some ad) n cap) (.slice none 0 0)).run P w= .ok false w:=by
   have:∀ d,(Op.equalIn (d+1) xt (.slice (some ad) n cap) (.slice none 0 0)).run P w= .ok false w:=fun d=>by
     simp only[Op.equalIn,Sem.run_bind,run_underlying hd,Result.andThen_ok,Sem.run_pure]
   exact this 9999
 rcases hop with ⟨rfl,rfl⟩ | ⟨rfl,rfl⟩ <;>
   simp[binOp,eqGuard,Sem.run_bind,key,Result.andThen_ok,Sem.run_pure]
theorem tI {P:Program} {op:BinOp} {xt yt:Nat} {x y:Operand} {el:Nat} (hd:P.underlying xt=some (.slice el)) {w:World} {r:Bool} (hop:op= .eql/\r=true\/op= .neq/\r=false):
   (do eqGuard op xt x y (.slice none 0 0) (.slice none 0 0);binOp op xt (.slice none 0 0) (.slice none 0 0):Sem Value).run P w= .ok (.bool r) w:=by
 have key:(Op.equal xt (.slice none 0 0) (.slice none 0 0)).run P w= .ok true w:=by
   have:∀ d,(Op.equalIn (d+1) xt (.slice none 0 0) (.slice none 0 0)).run P w= .ok true w:=fun d=>by
     simp only[Op.equalIn,Sem.run_bind,run_underlying hd,Result.andThen_ok,Sem.run_pure];rfl
   exact this 9999
 rcases hop with ⟨rfl,rfl⟩ | ⟨rfl,rfl⟩ <;>
   simp[binOp,eqGuard,Sem.run_bind,key,Result.andThen_ok,Sem.run_pure]
theorem NG (R:Rel S0 C0 w0 ρ D st a w) (hop:o.op= .unOp op t x)
   (he:fK T K (.unOp op t x) [bI st.σ x] vw nid=some out):jV P S0 C0 w0 ρ D st a w Q o nid out:=by
 have hx:=R.eval x;simp only[fK] at he
 split at he
 · rename_i b hargs
   injection hargs with h1 _;injection he with he;subst he;rw[h1] at hx;refine bL R (v:=.bool !b) ?_ .mk_bool;rw[execOp,hop];simp[hx.bool_inv,Op.unary]
 · rename_i k n hargs
   injection hargs with h1 _;injection he with he;subst he;rw[h1] at hx;refine bL R (v:=.int k (k.wrap (0-n))) ?_ .mk_int;rw[execOp,hop];simp[hx.int_inv,Op.unary,Op.intArith]
 · rename_i k n hargs
   injection hargs with h1 _;injection he with he;subst he;rw[h1] at hx;refine bL R (v:=.int k (k.wrap (BitVec.ofInt k.bits (if k.signed then-1 else k.max)^^^BitVec.ofInt k.bits n).toNat)) ?_ .mk_int;rw[execOp,hop];simp[hx.int_inv,Op.unary,Op.intBits]
 · cases he
theorem Cn (hT:lT P T) (R:Rel S0 C0 w0 ρ D st a w) (hop:o.op= .convert s t x)
   (he:fK T K (.convert s t x) [bI st.σ x] vw nid=some out):jV P S0 C0 w0 ρ D st a w Q o nid out:=by
 have hx:=R.eval x;simp only[fK] at he
 split at he
 · rename_i is_ i kk n hs hi hargs
   injection hargs with h1 _
   split at he
   · rename_i k hk
     injection he with he;subst he;rw[h1] at hx;obtain⟨d,hd,hkd⟩:=(hT _ _ hi).under;obtain⟨ds,hds,_⟩:=(hT _ _ hs).under;rw[hk] at hkd;have:d= .int k:=by cases d <;> first | exact hkd.elim | (congr 1;exact hkd.symm)
     subst this;refine bL R (v:=.int k (k.wrap n)) ?_ .mk_int;rw[execOp,hop];simp[hx.int_inv,convert,run_underlying hd,run_underlying hds,Conv.intToInt]
   · cases he
 · cases he
theorem Fg       (hT:lT P T) (R:Rel S0 C0 w0 ρ D st a w) (hop:o.op= .field s x f)
   (he:fK T K (.field s x f) [bI st.σ x] vw nid=some out):jV P S0 C0 w0 ρ D st a w Q o nid out:=by
 have hx:=R.eval x;simp only[fK] at he
 split at he
 · rename_i i hi
   split at he
   · rename_i fs hk
     split at he
     · rename_i off sz ft hf
       split at he
       · rename_i ti cs hti hargs
         injection hargs with h1 _
         split at he
         · rename_i hsz
           split at he
           · rename_i c hc
             split at he
             · rename_i V hV
               injection he with he;subst he;rw[h1] at hx;obtain⟨vs,hv,hr⟩:=hx;obtain⟨fields,k1,k2,k3⟩:=pQ (hT _ _ hi) hk;obtain⟨fd,g1,g2,g3,g4⟩:=Ba k2 k3 hf;obtain⟨h6,h7⟩:=uY hr hc;have ht:=hT _ _ hti;have hl:((vs.drop off).take ti.sz).length=ti.sz:=by rw[List.length_take,List.length_drop];omega
               have hone:=Cl hV (by rw[<- h6.wds_eq];exact hl);refine bL R (v:=KA ti ((vs.drop off).take ti.sz)) ?_ (zN h6 hV);rw[execOp,hop];simp only[hv,Instr.field,Sem.run_bind,run_underlying k1,Result.andThen_ok,g1,asAgg,part,g3,ht.agg_run,g2,Sem.run_pure];cases ha:ti.agg with
               | true=>
                 simp only[if_true,Sem.run_bind,ht.size_run,Result.andThen_ok,Sem.run_pure,KA,ha]
                 congr 4
                 apply Array.ext';simp[List.take_drop,Nat.add_comm]
               | false=>
                 have hz:ti.sz=1:=hone.resolve_left (by simp[ha]);rw[hz] at h7;have hlt:off<vs.length:=by omega
                 simp only[Bool.false_eq_true,if_false,List.getElem?_toArray,List.getElem?_eq_getElem hlt,Sem.run_pure,Result.andThen_ok,KA,ha,hz];have hd:vs.drop off=vs[off]::vs.drop (off+1):=List.drop_eq_getElem_cons hlt;rw[hd];rfl
             · cases he
           · cases he
         · cases he
       · cases he
     · cases he
   · cases he
 · cases he
theorem kC {S:Nat->Prop} {e:Nat} {xs:List (List AV)} {v:Value} (h:RelV ρ S w D (.list e xs) v):∃ (A:Option Addr) (cap:Nat) (f:Nat->List Value),v= .slice A xs.length cap/\xs.length<=cap/\cap<=big/\
   (∀ i,i<xs.length->(f i).length=e)/\(∀ i el,xs[i]? =some el->RelCs ρ S w No el (f i))/\
   (0<xs.length->∃ ad,A=some ad/\ad.block<w.heap.size/\¬ S ad.block/\∀ i,i<xs.length->Seg w (ad.add (i*e)) (f i)):=by
 have h':RelCs ρ S w D [.list e xs] [v]:=h;cases h' with
 | list f h1 h2 h3 h4 h5 _=>exact⟨_,_,f,rfl,h1,h2,h3,h4,h5⟩
theorem lY {S:Nat->Prop} {l e b n:Nat} {v:Value} (h:RelV ρ S w D (.own l e b n) v):∃ A cap,v= .slice A n cap/\D l/\n<=cap/\cap<=big/\
   (0<cap->A=some ⟨ρ l,b*e,none⟩/\∃ arr ty,w.heap[ρ l]? =some (.cells arr ty (0,0))/\(b+cap)*e<=arr.size):=by
 have h':RelCs ρ S w D [.own l e b n] [v]:=h;cases h' with
 | own hD h1 h2 h3 _=>exact⟨_,_,rfl,hD,h1,h2,h3⟩
theorem zP (hT:lT P T) (R:Rel S0 C0 w0 ρ D st a w) (hop:o.op= .indexAddr t x y)
   (he:fK T K (.indexAddr t x y) [bI st.σ x,bI st.σ y] vw nid=some out) (ho:AllP out.ob):jV P S0 C0 w0 ρ D st a w Q o nid out:=by
 have hx:=R.eval x;have hy:=R.eval y;simp only[fK] at he
 split at he
 · rename_i i hi
   split at he
   · rename_i el hk
     have hu:=eR (hT _ _ hi) hk
     split at he
     · rename_i ie hie
       have hte:=hT _ _ hie
       split at he
       · rename_i e xs kk j hargs
         injection hargs with h1 h2;injection h2 with h2 _
         split at he
         · rename_i hsz
           injection he with he;subst he;have hj0:0<=j:=ho _ (by simp);have hj1:j<xs.length:=ho _ (by simp);rw[h1] at hx;rw[h2] at hy;obtain⟨A,cap,f,hv,g1,g2,g3,g4,g5⟩:=kC hx;have hlt:j.toNat<xs.length:=by omega
           obtain⟨ad,rfl,k1,k2,k3⟩:=g5 (by omega);refine bL R (v:=.pointer (some (ad.add (j.toNat*e)))) ?_ ?_
           · rw[execOp,hop]
             simp[hv,hy.int_inv,Instr.indexAt,asIntOf,run_underlying hu,hj0,hj1,hte.size_run,hsz]
           · have hh:=RelCs.cptr (ρ:=ρ) (S:=Sof S0 ρ st.h) (w:=w) (D:=D) (cs:=[]) (vs:=[]) (o:=0) (a:=ad.add (j.toNat*e)) (g4 j.toNat (xs.getD j.toNat []) (by simp[List.getD_eq_getElem?_getD,hlt])) (by rw[jU];exact k1) (by rw[jU];exact k2) (k3 j.toNat hlt) .done
             have e0:(ad.add (j.toNat*e)).add 0=ad.add (j.toNat*e):=by simp[Addr.add]
             rw[e0] at hh;exact bA hh
         · cases he
       · rename_i l e b n kk j hargs
         injection hargs with h1 h2;injection h2 with h2 _
         split at he
         · rename_i hsz
           injection he with he;subst he;have hj0:0<=j:=ho _ (by simp);have hj1:j<n:=ho _ (by simp);rw[h1] at hx;rw[h2] at hy;obtain⟨A,cap,hv,hD,g1,g2,g3⟩:=lY hx;obtain⟨rfl,_⟩:=g3 (by omega);refine bL R (v:=.pointer (some ⟨ρ l,(b+j.toNat)*e+0,none⟩)) ?_ (bA (.ptr hD .done));rw[execOp,hop];simp[hv,hy.int_inv,Instr.indexAt,asIntOf,run_underlying hu,hj0,hj1,hte.size_run,hsz,mY,Nat.add_mul]
         · cases he
       · cases he
     · cases he
   · rename_i n el hk
     have hu:=yB (hT _ _ hi) hk
     split at he
     · rename_i ie hie
       have hte:=hT _ _ hie
       split at he
       · rename_i l e i0 off kk j hargs
         injection hargs with h1 h2;injection h2 with h2 _
         split at he
         · rename_i hn2
           injection he with he;subst he;have hj0:0<=j:=ho _ (by simp);have hj1:j<n:=ho _ (by simp);rw[h1] at hx;rw[h2] at hy;obtain⟨hv,hD⟩:=lW hx;refine bL R (v:=.pointer (some ⟨ρ l,i0*e+(off+j.toNat*ie.sz),none⟩)) ?_ (bA (.ptr hD .done));rw[execOp,hop];simp[hv,hy.int_inv,Instr.indexAt,asIntOf,Instr.sureAddr,run_underlying hu,hj0,hj1,hte.size_run,mY,Nat.add_assoc]
         · cases he
       · cases he
     · cases he
   · cases he
 · cases he
theorem Lm (hT:lT P T) (R:Rel S0 C0 w0 ρ D st a w) (hop:o.op= .call c) (hc:c.callee= .builtin .len) (hargs:c.args= #[x])
   (he:fK T K (.call c) [bI st.σ x] vw nid=some out):jV P S0 C0 w0 ρ D st a w Q o nid out:=by
 have hx:=R.eval x;simp only[fK,hc] at he
 have run:∀ (n:Int) (t:Nat),c.argTypes[0]? =some t->(Builtin.len_ c.argTypes o.type #[a.eval x]).run P w= .ok (.int .i64 n) w->(execOp a.eval o).run P w= .ok (.value (.int .i64 n)) w:=by
   intro n t _ h;rw[execOp,hop];simp only[resolve,hc,hargs,Sem.run_bind,Sem.run_pure,Result.andThen_ok,invoke,builtin];have:(#[x].map a.eval)= #[a.eval x]:=by simp
   rw[this];simp only[h,Result.andThen_ok]
 split at he
 · rename_i s i hi hh
   injection hi with hi _;obtain⟨t,ht,hti⟩:=Option.bind_eq_some_iff.1 hh
   split at he
   · rename_i hk
     injection he with he;subst he;rw[hi] at hx;obtain⟨d,hd,hkd⟩:=(hT _ _ hti).under;rw[hk] at hkd;have:d= .string:=by cases d <;> first | exact hkd.elim | rfl
     subst this;refine bL R (run _ t ht ?_) .mk_int;simp[Builtin.len_,ht,hx.str_inv,run_underlying hd,goInt]
   · cases he
 · rename_i e xs i hi hh
   injection hi with hi _;obtain⟨t,ht,hti⟩:=Option.bind_eq_some_iff.1 hh
   split at he
   · rename_i el hk
     injection he with he;subst he;rw[hi] at hx;have hu:=eR (hT _ _ hti) hk;obtain⟨A,cap,f,hv,_⟩:=kC hx;refine bL R (run _ t ht ?_) .mk_int;simp[Builtin.len_,ht,hv,run_underlying hu,goInt]
   · cases he
 · rename_i l e b n i hi hh
   injection hi with hi _;obtain⟨t,ht,hti⟩:=Option.bind_eq_some_iff.1 hh
   split at he
   · rename_i el hk
     injection he with he;subst he;rw[hi] at hx;have hu:=eR (hT _ _ hti) hk;obtain⟨A,cap,hv,_⟩:=lY hx;refine bL R (run _ t ht ?_) .mk_int;simp[Builtin.len_,ht,hv,run_underlying hu,goInt]
   · cases he
 · rename_i i hi hh
   injection hi with hi _;obtain⟨t,ht,hti⟩:=Option.bind_eq_some_iff.1 hh
   split at he
   · rename_i el hk
     injection he with he;subst he;rw[hi] at hx;have hu:=eR (hT _ _ hti) hk;refine bL R (run _ t ht ?_) .mk_int;simp[Builtin.len_,ht,hx.nil_inv,run_underlying hu,goInt]
   · cases he
 · cases he
end
section
variable {P:Program} {S0 C0:Nat->Prop} {w0:World} {ρ:Nat->Nat} {D:Nat->Prop} {st:St} {a:Act} {w:World} {Q:Exit->Act->World->Prop} {o:Oper} {nid:Nat} {T:TT} {K:KT} {out:Out}
theorem Ln (hT:lT P T) (R:Rel S0 C0 w0 ρ D st a w) {op:BinOp} {xt yt:Nat} {x y:Operand} (hop:o.op= .binOp op xt x y yt) {vw:List (Option ABlk)}
   (he:fK T K (.binOp op xt x y yt) [bI st.σ x,bI st.σ y] vw nid=some out) (ho:AllP out.ob):jV P S0 C0 w0 ρ D st a w Q o nid out:=by
 have hx:=R.eval x;have hy:=R.eval y;simp only[fK] at he
 split at he
 · rename_i i x' y' hi hargs
   injection hargs with h1 h2;injection h2 with h2 _;obtain⟨d,hd,hk⟩:=(hT _ _ hi).under
   have main:∀ (hb:∀ c e,bI st.σ x= .bool c->bI st.σ y= .bool e->d= .bool),(Ck op (bI st.σ x) (bI st.σ y)).map (fun r=>(⟨r.1,.keep,r.2⟩:Out))=some out->jV P S0 C0 w0 ρ D st a w Q o nid out:=by
     intro hb hm;obtain⟨⟨V,ob⟩,hm2,rfl⟩:=Option.map_eq_some_iff.1 hm;obtain⟨r,hr,hv⟩:=Ix (P:=P) (t:=xt) (x:=x) (y:=y) ⟨d,hd,hb⟩ hx hy hm2 ho;refine bL R (v:=r) ?_ hv;rw[execOp,hop];simp only[Sem.run_bind] at hr ⊢;rw[hr];rfl
   have nilcase:∀ {el:Nat} {Y:AV} {p:Prop},i.k= .slice el->bI st.σ y=Y->Ea op [p] Y=some out->(p->∃ ad m cap,a.eval x= .slice (some ad) m cap)->jV P S0 C0 w0 ρ D st a w Q o nid out:=by
     intro el Y p hib hY he2 hpos
     have hd':d= .slice el:=by
       rw[hib] at hk;cases d <;> first | exact hk.elim | skip;exact congrArg _ hk.symm
     subst hd';unfold Ea at he2
     split at he2
     · injection he2 with he2;subst he2
       rw[hY] at hy;obtain⟨ad,m,cap,hxv⟩:=hpos (ho _ (List.mem_singleton.2 rfl));refine bL R (v:=.bool false) ?_ .mk_bool;rw[execOp,hop];simp only[hxv,hy.nil_inv];have hr:=pJ (ad:=ad) (n:=m) (cap:=cap) (w:=w) (op:=.eql) (x:=x) (y:=y) (yt:=yt) (r:=false) hd (.inl ⟨rfl,rfl⟩);simp only[Sem.run_bind] at hr ⊢;rw[hr];rfl
     · injection he2 with he2;subst he2
       rw[hY] at hy;obtain⟨ad,m,cap,hxv⟩:=hpos (ho _ (List.mem_singleton.2 rfl));refine bL R (v:=.bool true) ?_ .mk_bool;rw[execOp,hop];simp only[hxv,hy.nil_inv];have hr:=pJ (ad:=ad) (n:=m) (cap:=cap) (w:=w) (op:=.neq) (x:=x) (y:=y) (yt:=yt) (r:=true) hd (.inr ⟨rfl,rfl⟩);simp only[Sem.run_bind] at hr ⊢;rw[hr];rfl
     · cases he2
   split at he
   · rename_i c hxb hib
     subst h2;refine main (fun _ _ _ _=> ?_) (by rw[h1];exact he);rw[hib] at hk;cases d <;> first | rfl | exact hk.elim
   · cases he
   · rename_i tk e xs k hib
     have hpos:∀ p,p=(0<xs.length)->p->∃ ad cap,a.eval x= .slice (some ad) xs.length cap:=fun p hp hq=>by
       rw[h1] at hx;obtain⟨A,cap,f,hv,g1,g2,g3,g4,g5⟩:=kC hx;obtain⟨ad,hA,_⟩:=g5 (hp▸hq);exact⟨ad,cap,by rw[hv,hA]⟩
     exact nilcase hib h2 he (fun h=>by obtain⟨ad,cap,e⟩:=hpos _ rfl h;exact⟨ad,_,cap,e⟩)
   · rename_i tk l e b n k hib
     have hpos:0<n->∃ ad m cap,a.eval x= .slice (some ad) m cap:=fun hq=>by
       rw[h1] at hx;obtain⟨A,cap,hv,_,g1,g2,g3⟩:=lY hx;obtain⟨hA,_⟩:=g3 (by omega);exact⟨_,n,cap,by rw[hv,hA]⟩
     exact nilcase hib h2 he hpos
   · rename_i tk k hib
     have hd':d= .slice k:=by
       rw[hib] at hk;cases d <;> first | exact hk.elim | skip;exact congrArg _ hk.symm
     subst hd';rw[h1] at hx;have hxv:=hx.nil_inv
     split at he
     · rename_i hy2
       injection he with he;subst he;rw[h2] at hy;refine bL R (v:=.bool true) ?_ .mk_bool;rw[execOp,hop];simp only[hxv,hy.nil_inv];have hr:=tI (w:=w) (op:=.eql) (x:=x) (y:=y) (yt:=yt) (r:=true) hd (.inl ⟨rfl,rfl⟩);simp only[Sem.run_bind] at hr ⊢;rw[hr];rfl
     · rename_i hy2
       injection he with he;subst he;rw[h2] at hy;refine bL R (v:=.bool false) ?_ .mk_bool;rw[execOp,hop];simp only[hxv,hy.nil_inv];have hr:=tI (w:=w) (op:=.neq) (x:=x) (y:=y) (yt:=yt) (r:=false) hd (.inr ⟨rfl,rfl⟩);simp only[Sem.run_bind] at hr ⊢;rw[hr];rfl
     · cases he
   · rename_i hne hneA _ _ _
     subst h1;subst h2;exact main (fun c e h _=>(hne c h).elim) he
 · cases he
end
section
variable {P:Program} {S0 C0:Nat->Prop} {w0:World} {ρ:Nat->Nat} {D:Nat->Prop} {st:St} {a:Act} {w:World} {Q:Exit->Act->World->Prop} {o:Oper} {nid:Nat} {T:TT} {K:KT} {out:Out}
theorem vG {α β:Type} {f:α->Option β} {g:α->β}:∀ (l:List α),(∀ x∈l,f x=some (g x))->l.mapM f=some (l.map g)
 | [],_=>rfl
 | a::l,h=>by simp[List.mapM_cons,h a (by simp),vG l (fun x hx=>h x (by simp[hx]))]
theorem vH:∀ (vs:List Value) (off k:Nat) (cells:Array Value),off+k+vs.length<=cells.size->
   ((vs.zipIdx k).foldl (fun(cs:Array Value) p=>cs.setIfInBounds (off+p.2) p.1) cells).toList=cells.toList.take (off+k)++vs++cells.toList.drop (off+k+vs.length)
 | [],off,k,cells,_=>by simp
 | v ::vs,off,k,cells,h=>by
   simp only[List.zipIdx_cons,List.foldl_cons];simp only[List.length_cons] at h;rw[vH vs off (k+1) _ (by simp;omega)];have hlt:off+k<cells.toList.length:=by simp;omega
   rw[Array.toList_setIfInBounds,List.take_set,List.drop_set,List.length_cons]
   have h1:cells.toList.take (off+(k+1))=cells.toList.take (off+k)++ [cells.toList[off+k]]:=by
     rw[<- Nat.add_assoc,List.take_succ_eq_append_getElem hlt]
   have h2:((cells.toList.take (off+(k+1))).set (off+k) v)=cells.toList.take (off+k)++ [v]:=by
     rw[h1,List.set_append,if_neg (by rw[List.length_take];omega)]
     congr 1
     have:off+k-(List.take (off+k) cells.toList).length=0:=by rw[List.length_take];omega
     rw[this];rfl
   rw[h2,if_pos (by omega)];rw[show off+(k+1)+vs.length=off+k+(vs.length+1) from by omega];simp
def IA (ρ:Nat->Nat) (S:Nat->Prop) (w:World) (D:Nat->Prop):List (Nat×AV)->List (Nat×Value)->Prop
 | [],[]=>True
 | (i,c)::ps,(j,v)::qs=>i=j/\RelV ρ S w D c v/\IA ρ S w D ps qs
 | _,_=>False
theorem vI {S:Nat->Prop} (place:Nat->Option (Nat×Nat)):∀ (ps:List (Nat×AV)) (qs:List (Nat×Value)) (cs cs':List AV) (cells:Array Value),IA ρ S w D ps qs->
   RelCs ρ S w D cs cells.toList->xZ place cs ps=some cs'->∃ cells',Instr.fill place cells qs=some cells'/\RelCs ρ S w D cs' cells'.toList
 | [],[],cs,cs',cells,_,hr,e=>by
   simp only[xZ] at e;injection e with e;subst e;exact⟨cells,rfl,hr⟩
 | (i, c)::ps,(j,v)::qs,cs,cs',cells,hp,hr,e=>by
   obtain⟨rfl,hv,hp⟩:=hp;simp only[xZ] at e
   split at e
   · rename_i off sz c' hpl hch
     split at e
     · rename_i hw
       split at e
       · rename_i cs2 hrep
         have hcr:=kB hv hch;have hcw:=RelV0.of_chunks (S:=S) hv hch;have hl:v.cells.toList.length=sz:=by simp[<- hcw,hw]
         obtain⟨h1,h2⟩:=AW hr hcr hrep hl;simp only[Array.length_toList] at h2 hl;have hfold:=vH v.cells.toList off 0 cells (by simp[hl];omega)
         have harr:(v.cells.zipIdx.foldl (fun cs x=>cs.setIfInBounds (off+x.2) x.1) cells).toList=cells.toList.take off++v.cells.toList++cells.toList.drop (off+sz):=by
           rw[<- Array.foldl_toList,Array.toList_zipIdx,hfold];simp[hl]
         obtain⟨cells',h3,h4⟩:=vI place ps qs cs2 cs' _ hp (by rw[harr];exact h1) e;refine⟨cells', ?_,h4⟩;simp only[Instr.fill,hpl];rw[if_neg (by simp[hl];omega)];exact h3
       · cases e
     · cases e
   · cases e
 | [],_::_,_,_,_,h,_,_=>h.elim
 | _::_,[],_,_,_,h,_,_=>h.elim
theorem pR (R:Rel S0 C0 w0 ρ D st a w):∀ (parts:List (Nat×Operand)),IA ρ (Sof S0 ρ st.h) w D ((parts.map (·.1)).zip ((parts.map (·.2)).map (bI st.σ))) (parts.map fun p=>(p.1,a.eval p.2))
 | []=>trivial
 | p::ps=>⟨rfl,R.eval p.2,pR R ps⟩
theorem Fh (hT:lT P T) (R:Rel S0 C0 w0 ρ D st a w) {t:Nat} {parts:Array (Nat×Operand)} (hop:o.op= .build t parts) {vw:List (Option ABlk)}
   (he:fK T K (.build t parts) ((parts.toList.map (·.2)).map (bI st.σ)) vw nid=some out):jV P S0 C0 w0 ρ D st a w Q o nid out:=by
 have hp:=pR R parts.toList
 have fin:∀ (cells:Array Value) (cs:List AV),P.built t ((parts.map fun(i,x)=>(i,a.eval x)).toList)=some cells->RelCs ρ (Sof S0 ρ st.h) w D cs cells.toList->jV P S0 C0 w0 ρ D st a w Q o nid ⟨.agg cs,.keep,[]⟩:=by
   intro cells cs hb hr;refine bL R (v:=.agg cells) ?_ ⟨cells.toList,by simp,hr⟩;rw[execOp,hop];simp only[Sem.run_bind,run_build w t _ cells hb,Result.andThen_ok,Sem.run_pure]
 have hparts:(parts.map fun(i,x)=>(i,a.eval x)).toList=parts.toList.map fun p=>(p.1,a.eval p.2):=by simp
 simp only[fK] at he
 split at he
 · rename_i i hi
   obtain⟨info,d,h1,h2,h3,h4,h5,z,hz,hr⟩:=(hT _ _ hi).ex
   split at he
   · rename_i fs hk
     obtain⟨fields,k1,k2,k3⟩:=pQ (hT _ _ hi) hk
     split at he
     · rename_i cs hcs
       injection he with he;subst he
       have hplaces:fields.toList.mapM (fun f=>(P.info? f.type).map fun i=>(f.offset,i.size))=some (fields.toList.map fun f=>(f.offset,((P.info? f.type).map (·.size)).getD 0)):=by
         apply vG;intro f hf;obtain⟨n,hn⟩:=Option.isSome_iff_exists.1 (k3 f hf);obtain⟨inf,hi2,hs2⟩:=Option.map_eq_some_iff.1 hn;simp[hi2]
       have hplace:(fun(j:Nat)=>(fs[j]?).map fun(f:Nat×Nat×Nat)=>(f.1,f.2.1))=((fields.toList.map fun f=>(f.offset,((P.info? f.type).map (·.size)).getD 0)).toArray[·]?):=by
         funext j
         subst k2;simp only[List.getElem?_toArray,List.getElem?_map];cases fields.toList[j]? <;> rfl
       rw[hplace] at hcs;obtain⟨cells,g1,g2⟩:=vI _ _ _ _ _ z.cells hp (hr _ _ _ _) hcs;refine fin cells cs ?_ g2;rw[hparts];rw[h2] at k1;injection k1 with k1;subst k1;simp only[Program.built,h1,h2,hz,hplaces];exact g1
     · cases he
   · rename_i n el hk
     have hu:=yB (hT _ _ hi) hk
     split at he
     · rename_i ie hie
       split at he
       · rename_i cs hcs
         injection he with he;subst he;obtain⟨infoe,de,e1,e2,e3,_⟩:=(hT _ _ hie).ex;obtain⟨cells,g1,g2⟩:=vI _ _ _ _ _ z.cells hp (hr _ _ _ _) hcs;refine fin cells cs ?_ g2;rw[hparts];simp only[Program.built,h1,hu,hz,e1,e3];exact g1
       · cases he
     · cases he
   · cases he
 · cases he
theorem yC (h:RelV ρ S w D c v) (h1:mP c=true):RelCs ρ S w D [c] [v]:=by
 cases c <;> first | exact h | (simp[mP] at h1)
theorem Bb (R:Rel S0 C0 w0 ρ D st a w):∀ (xs:List Operand),(xs.map (bI st.σ)).all mP=true->RelCs ρ (Sof S0 ρ st.h) w D (xs.map (bI st.σ)) (xs.map a.eval)
 | [],_=>.done
 | x::xs,h=>by
   simp only[List.map_cons,List.all_cons,Bool.and_eq_true] at h
   have:=(yC (R.eval x) h.1).app (Bb R xs h.2);simpa using this
theorem Bc (R:Rel S0 C0 w0 ρ D st a w) (hop:o.op= .makeFunc fn first captured)
   (he:fK T K (.makeFunc fn first captured) ((first++captured).toList.map (bI st.σ)) vw nid=some out):jV P S0 C0 w0 ρ D st a w Q o nid out:=by
 simp only[fK] at he
 split at he
 · rename_i f
   split at he
   · rename_i hf
     have hf0:first= #[]:=Array.eq_empty_of_size_eq_zero hf;subst hf0
     split at he
     · rename_i ha
       injection he with he;subst he;simp only[Array.empty_append] at ha;have hr:=Bb R _ ha;refine bL R (v:=.func (.func f) #[] (captured.toList.map a.eval).toArray) ?_ ?_
       · rw[execOp,hop]
         have:captured.map a.eval=(captured.toList.map a.eval).toArray:=by apply Array.ext';simp
         simp[Instr.makeFunc,this]
       · simp only[Array.empty_append]
         exact bA (.fn hr .done)
     · cases he
   · split at he
     · rename_i hc
       have hc0:captured= #[]:=Array.eq_empty_of_size_eq_zero hc;subst hc0;simp only[Array.append_empty] at he
       have hlen:∀ (l:List Operand) (c:AV),l.map (bI st.σ)= [c]->∃ x,l= [x]/\bI st.σ x=c:=by
         intro l c h
         match l,h with
         | [x],h=>exact⟨x,rfl,by simpa using h⟩
       have hfirst:∀ x,first.toList= [x]->first= #[x]:=by
         intro x h
         have:=congrArg List.toArray h;simpa using this
       split at he
       · rename_i cs hargs
         injection he with he;subst he;obtain⟨x,hx1,hx2⟩:=hlen _ _ hargs;have hx:=R.eval x;rw[hx2] at hx;obtain⟨vs,hv,hr⟩:=hx;refine bL R (v:=.func (.func f) #[.agg vs.toArray] #[]) ?_ ?_
         · rw[execOp,hop,hfirst x hx1]
           simp[Instr.makeFunc,hv]
         · exact bA (RelCs.fnm (ag:=true) hr .done)
       · rename_i _ c hargs _
         split at he
         · rename_i h1
           injection he with he;subst he;obtain⟨x,hx1,hx2⟩:=hlen first.toList _ (by assumption);have hx:=R.eval x;rw[hx2] at hx;refine bL R (v:=.func (.func f) #[a.eval x] #[]) ?_ ?_
           · rw[execOp,hop,hfirst x hx1]
             simp[Instr.makeFunc]
           · exact bA (RelCs.fnm (ag:=false) (yC hx h1) .done)
         · cases he
       · cases he
     · cases he
 · cases he
end
theorem RelV.to0 (h:RelV ρ S w D V v) (hn:cQ V=true):RelV0 ρ S w D V v:=by
 cases V <;> first | exact h | (simp[cQ] at hn)
theorem RelV.of0 (h:RelV0 ρ S w D V v):RelV ρ S w D V v:=by
 cases V <;> first | exact h | (have h':RelCs _ _ _ _ [_] [_]:=h;cases h')
theorem jW (φ:Nat->Option Nat):∀ cs,qM φ cs=cs.map (eH φ)
 | []=>by simp[qM]
 | c::cs=>by simp[qM,jW φ cs]
section
theorem RelCs.ren (h:RelCs ρ S w D cs vs):∀ (D':Nat->Prop),(∀ j l,φ l=some j->D l->ρ' j=ρ l/\D' j)->RelCs ρ' S w D' (cs.map (eH φ)) vs:=by
 have hk:Keep ρ S w No ρ' S w:=⟨Nat.le_refl _,fun l h=>h.elim,fun k _ hs=>⟨hs,rfl⟩⟩
 induction h with
 | done=>intro D' hm;exact .done
 | any h1 _ ih=>intro D' hm;simp only[List.map_cons,eH];exact .any h1 (ih D' hm)
 | int _ ih=>intro D' hm;simp only[List.map_cons,eH];exact .int (ih D' hm)
 | bool _ ih=>intro D' hm;simp only[List.map_cons,eH];exact .bool (ih D' hm)
 | str _ ih=>intro D' hm;simp only[List.map_cons,eH];exact .str (ih D' hm)
 | nil _ ih=>intro D' hm;simp only[List.map_cons,eH];exact .nil (ih D' hm)
 | lit h1 _ ih=>intro D' hm;simp only[List.map_cons,eH];exact .lit h1 (ih D' hm)
 | list f h1 h2 h3 h4 h5 _ _ ih=>
   intro D' hm;simp only[List.map_cons,eH];exact .list f h1 h2 h3 (fun i el hel=>(h4 i el hel).keep _ (fun _ h=>h) hk) h5 (ih D' hm)
 | @own D l e b n A cap cs vs hD h1 h2 h3 h6 ih=>
   intro D' hm;simp only[List.map_cons,eH];cases hi:φ l with
   | none=>exact .any rfl (ih D' hm)
   | some j=>
     obtain⟨hr,hd⟩:=hm _ _ hi hD;refine .own hd h1 h2 (fun hp=> ?_) (ih D' hm);rw[hr];exact h3 hp
 | @ptr D l e i o cs vs hD h6 ih=>
   intro D' hm;simp only[List.map_cons,eH];cases hi:φ l with
   | none=>exact .any rfl (ih D' hm)
   | some j=>
     obtain⟨hr,hd⟩:=hm _ _ hi hD
     have:=RelCs.ptr (ρ:=ρ') (S:=S) (w:=w) (e:=e) (i:=i) (o:=o) hd (ih D' hm);rw[hr] at this;exact this
 | cptr h0 hb hs hseg _ _ ih=>
   intro D' hm;simp only[List.map_cons,eH];exact .cptr (h0.keep _ (fun _ h=>h) hk) hb hs hseg (ih D' hm)
 | fn h0 _ ih0 ih=>intro D' hm;simp only[List.map_cons,eH,jW];exact .fn (ih0 D' hm) (ih D' hm)
 | fnm h0 _ ih0 ih=>intro D' hm;simp only[List.map_cons,eH,jW];exact .fnm (ih0 D' hm) (ih D' hm)
 | nat xs h1 h2 h3 _ ih=>intro D' hm;have:=ih D' hm;simp only[List.map_cons,eH] at this ⊢;exact .nat xs h1 h2 h3 this
 | dig xs h1 h2 h3 _ ih=>intro D' hm;have:=ih D' hm;simp only[List.map_cons,eH] at this ⊢;exact .dig xs h1 h2 h3 this
 | z _ ih=>intro D' hm;have:=ih D' hm;simp only[List.map_cons,eH] at this ⊢;exact .z this
 | rz _ ih=>intro D' hm;have:=ih D' hm;simp only[List.map_cons,eH] at this ⊢;exact .rz this
 | q _ ih=>intro D' hm;have:=ih D' hm;simp only[List.map_cons,eH] at this ⊢;exact .q this
 | rq h1 _ ih=>intro D' hm;have:=ih D' hm;simp only[List.map_cons,eH] at this ⊢;exact .rq h1 this
theorem RelV0.ren (hm:∀ j l,φ l=some j->D l->ρ' j=ρ l/\D' j) (hn:cQ V=true) (h:RelV0 ρ S w D V v):RelV0 ρ' S w D' (eH φ V) v:=by
 have one:∀ c,RelCs ρ S w D [c] [v]->RelCs ρ' S w D' [eH φ c] [v]:=fun c h=>by simpa using h.ren D' hm
 cases V
 case any=>simp only[eH];trivial
 case agg cs=>obtain⟨vs,e,h⟩:=h;simp only[eH];exact⟨vs,e,by rw[jW];exact h.ren D' hm⟩
 case tup=>simp[cQ] at hn
 case own l e b n=>
   have:=one _ h;simp only[eH] at this ⊢
   split
   · rename_i j hj;rw[hj] at this;exact this
   · trivial
 case ptr l e b n=>
   have:=one _ h;simp only[eH] at this ⊢
   split
   · rename_i j hj;rw[hj] at this;exact this
   · trivial
 all_goals
   have:=one _ h;simp only[eH] at this ⊢;exact this
theorem RelV.ren (hm:∀ j l,φ l=some j->D l->ρ' j=ρ l/\D' j) (h:RelV ρ S w D V v):RelV ρ' S w D' (eH φ V) v:=by
 by_cases hn:cQ V=true
 · have h0:=RelV0.ren hm hn (h.to0 hn)
   exact RelV.of0 h0
 · cases V <;> simp[cQ] at hn
   rename_i us;obtain⟨vs,e,h⟩:=h;simp only[eH];refine⟨vs,e, ?_⟩;rw[jW];clear hn e
   induction us generalizing vs with
   | nil=>cases vs <;> first | trivial | exact h.elim
   | cons u us ih=>
     cases vs with
     | nil=>exact h.elim
     | cons v vs=>
       refine⟨?_,ih vs h.2⟩
       have:=h.1
       by_cases hu:cQ u=true
       · exact RelV0.ren hm hu this
       · cases u <;> simp[cQ] at hu
         have h':RelCs _ _ _ _ [_] [_]:=this;cases h'
theorem RelVs.ren (hm:∀ j l,φ l=some j->D l->ρ' j=ρ l/\D' j):∀ {Vs:List AV} {vs:List Value},RelVs ρ S w D Vs vs->RelVs ρ' S w D' (Vs.map (eH φ)) vs
 | [],[],_=>trivial
 | V ::Vs,v::vs,h=>by
   refine⟨?_,RelVs.ren hm h.2⟩
   by_cases hu:cQ V=true
   · exact RelV0.ren hm hu h.1
   · have:=h.1
     cases V <;> simp[cQ] at hu;have h':RelCs _ _ _ _ [_] [_]:=this;cases h'
 | [],_::_,h=>h.elim
 | _::_,[],h=>h.elim
theorem RelB.ren (hm:∀ j l,φ l=some j->D l->ρ' j=ρ l/\D' j) (hl:ρ' j=ρ l) (h:RelB ρ S w D l b):RelB ρ' S w D' j (jB φ b):=by
 obtain⟨arr,g1,g2,g3⟩:=h;unfold jB;refine⟨arr,by rw[hl];exact g1, ?_,fun i el hel=> ?_⟩
 · simp only;split <;> simpa using g2
 · simp only at hel ⊢
   cases hc:b.closed with
   | true=>
     rw[hc] at hel
     have:=g3 i el hel;rw[hc] at this;exact this.keep _ (fun _ h=>h) ⟨Nat.le_refl _,fun l h=>h.elim,fun k _ hs=>⟨hs,rfl⟩⟩
   | false=>
     rw[hc] at hel;simp only[Bool.false_eq_true,if_false,List.getElem?_map] at hel ⊢;obtain⟨el0,he,rfl⟩:=Option.map_eq_some_iff.1 hel
     have:=g3 i el0 he;rw[hc] at this;rw[jW];exact this.ren _ hm
end
section
variable {P:Program} {S0 C0:Nat->Prop} {w0:World} {ρ:Nat->Nat} {D:Nat->Prop} {st:St} {a:Act} {w:World} {Q:Exit->Act->World->Prop} {o:Oper} {nid:Nat} {T:TT} {K:KT} {out:Out}
theorem Bd (z:Array Value) (sz n i:Nat) (hz:z.size=sz) (hs:0<sz) (hi:i<n):
   ((((Array.range (n*sz)).map (z[· % z.size]!)).toList.drop (i*sz)).take sz)=z.toList:=by
 have hle:(i+1)*sz<=n*sz:=Nat.mul_le_mul_right _ hi;rw[Nat.add_mul] at hle;apply List.ext_getElem
 · simp[hz];omega
 · intro j h1 h2
   simp only[List.getElem_take,List.getElem_drop,Array.getElem_toList,Array.getElem_map,Array.getElem_range];have hj:j<sz:=by simp at h2;omega
   have:(i*sz+j) % z.size=j:=by
     rw[hz,Nat.add_comm,Nat.add_mul_mod_self_right];exact Nat.mod_eq_of_lt hj
   rw[this,getElem!_pos z j (by omega)]
theorem zQ (hT:lT P T) (R:Rel S0 C0 w0 ρ D st a w) (hn:st.h[nid]? =some none) (hD:¬ D nid) (hop:o.op= .makeSlice t x y)
   (he:fK T K (.makeSlice t x y) [bI st.σ x,bI st.σ y] vw nid=some out) (ho:AllP out.ob):jV P S0 C0 w0 ρ D st a w Q o nid out:=by
 have hx:=R.eval x;have hy:=R.eval y;simp only[fK] at he
 split at he
 · rename_i i hi
   split at he
   · rename_i el hk
     have hu:=eR (hT _ _ hi) hk
     split at he
     · rename_i ie hie
       have hte:=hT _ _ hie
       split at he
       · rename_i k1 n k2 c hargs
         injection hargs with h1 h2;injection h2 with h2 _
         split at he
         · rename_i hc
           obtain⟨hnr,hpos⟩:=hc;injection he with he;subst he;have e1:c=n:=ho _ (by simp);have e2:0<=n:=ho _ (by simp);have e3:(ie.bytes:Int)*n<=281474976710656:=ho _ (by simp);have e4:n<=(big:Int):=ho _ (by simp);subst e1;rw[h1] at hx;rw[h2] at hy;obtain⟨z,hz,hzs,hzr⟩:=mX hte;obtain⟨info,de,g1,g2,g3,g4,_⟩:=hte.ex;obtain⟨m,rfl⟩:=Int.eq_ofNat_of_zero_le e2;simp only[Int.toNat_natCast];unfold big at e4
           have hw:IntKind.i64.wrap (m:Int)=m:=by
             unfold IntKind.wrap;have hb:IntKind.i64.bits=64:=rfl;have hsg:IntKind.i64.signed=true:=rfl;simp only[hb,hsg];rw[Int.emod_eq_of_lt (by omega) (by omega)];rw[if_neg (by simp;omega)]
           have hti:(typeInfo el).run P w= .ok info w:=by
             have:(program).run P w= .ok P w:=rfl;simp[typeInfo,this,g1]
           refine qO R hn hD rfl (arr:=(Array.range (m*ie.sz)).map (z.cells[· % z.cells.size]!)) (v:=.slice (some ⟨w.heap.size,0,none⟩) m m) ?_ (by simp) ?_ ?_
           · rw[execOp,hop]
             have hnot:¬ ((m:Int)<0):=by omega
             have hbig:¬ ((info.bytes:Int)*m>2^48):=by rw[g4];omega
             simp only[hx.int_inv,hy.int_inv,Instr.makeSlice,Sem.run_bind,run_underlying hu,Result.andThen_ok,asInt,asIntOf,Sem.run_pure,hti,hw];rw[if_neg (by simp;omega)];simp only[Sem.run_bind,run_askRoom,Result.andThen_ok,hte.size_run,Int.toNat_natCast,newRow,newObj]
             by_cases hm0:m*ie.sz=0
             · simp only[hm0,if_true,Sem.run_pure,Result.andThen_ok]
               have:(Array.range 0).map (fun x=>z.cells[x % z.cells.size]!)=(Array.range 0).map (fun x=>(#[]:Array Value)[x % (#[]:Array Value).size]!):=by simp
               rw[this];rfl
             · simp only[hm0,if_false,Sem.run_bind,hz,Sem.run_pure,Result.andThen_ok]
               rfl
           · intro ρ' S' w' hk' j c hj
             rw[List.getElem?_replicate] at hj
             split at hj
             · rename_i hjm
               injection hj with hj;subst hj;rw[Bd z.cells ie.sz m j hzs hpos hjm];exact hzr _ _ _ _
             · cases hj
           · intro ρ' S' w' h1 h2
             refine bA (.own (.inr rfl) (Nat.le_refl _) (by unfold big;omega) (fun _=>⟨by simp[h1],_,_,by rw[h1];exact h2,by simp⟩) .done)
         · cases he
       · cases he
     · cases he
   · cases he
 · cases he
def IB (ρ:Nat->Nat) (S:Nat->Prop) (w:World) (D:Nat->Prop) (sz:Nat) (es:List (List AV)) (cells:Array Value):Prop:=
 cells.size=es.length*sz/\∀ i el,es[i]? =some el->RelCs ρ S w D el ((cells.toList.drop (i*sz)).take sz)
theorem yD:∀ (ps:List (Nat×AV)) (qs:List (Nat×Value)) (es es':List (List AV)) (cells:Array Value),IA ρ S w D ps qs->
   IB ρ S w D sz es cells->AX sz es ps=some es'->∃ cells',Instr.fill (fun i=>some (i*sz,sz)) cells qs=some cells'/\IB ρ S w D sz es' cells'/\es'.length=es.length
 | [],[],es,es',cells,_,hr,e=>by
   simp only[AX] at e;injection e with e;subst e;exact⟨cells,rfl,hr,rfl⟩
 | (i, c)::ps,(j,v)::qs,es,es',cells,hp,hr,e=>by
   obtain⟨rfl,hv,hp⟩:=hp;simp only[AX] at e
   split at e
   · rename_i c' hch
     split at e
     · rename_i hc
       obtain⟨hw,hi⟩:=hc;have hcr:=kB hv hch;have hcw:=RelV0.of_chunks (S:=S) hv hch;have hl:v.cells.toList.length=sz:=by simp[<- hcw,hw]
       have hle:(i+1)*sz<=es.length*sz:=Nat.mul_le_mul_right _ hi;have hle2:=hle;rw[Nat.add_mul] at hle2;have hfold:=vH v.cells.toList (i*sz) 0 cells (by rw[hl,hr.1];omega)
       have harr:(v.cells.zipIdx.foldl (fun cs x=>cs.setIfInBounds (i*sz+x.2) x.1) cells).toList=cells.toList.take (i*sz)++v.cells.toList++cells.toList.drop (i*sz+sz):=by
         rw[<- Array.foldl_toList,Array.toList_zipIdx,hfold];simp only[Nat.add_zero,hl]
       have hsize:(v.cells.zipIdx.foldl (fun cs x=>cs.setIfInBounds (i*sz+x.2) x.1) cells).size=cells.size:=by
         rw[<- Array.length_toList,harr];have hl':v.cells.toList.length=sz:=hl;have hcs:cells.toList.length=es.length*sz:=by rw[Array.length_toList];exact hr.1
         rw[List.length_append,List.length_append,List.length_take,List.length_drop,hl',hcs,hr.1];omega
       have hE:IB ρ S w D sz (es.set i c') (v.cells.zipIdx.foldl (fun cs x=>cs.setIfInBounds (i*sz+x.2) x.1) cells):=by
         refine⟨by rw[hsize,hr.1];simp,fun k el hk=> ?_⟩;rw[harr,pI _ _ i sz k hl (by rw[Array.length_toList,hr.1];exact hle)];rw[List.getElem?_set] at hk
         split at hk
         · rename_i hik
           subst hik;rw[if_pos rfl];simp[hi] at hk;subst hk;exact hcr
         · rename_i hik
           rw[if_neg (fun h=>hik h.symm)];exact hr.2 k el hk
       obtain⟨cells',h3,h4,h5⟩:=yD ps qs _ es' _ hp hE e;refine⟨cells', ?_,h4,by simpa using h5⟩
       have hcond:(decide (v.cells.size≠sz)||decide (i*sz+v.cells.size>cells.size))=false:=by
         simp only[Array.length_toList] at hl;rw[hl,hr.1];simp;omega
       simp only[Instr.fill,hcond];exact h3
     · cases e
   · cases e
 | [],_::_,_,_,_,h,_,_=>h.elim
 | _::_,[],_,_,_,h,_,_=>h.elim
theorem xT (hT:lT P T) (R:Rel S0 C0 w0 ρ D st a w) (hn:st.h[nid]? =some none) (hD:¬ D nid) (hop:o.op= .buildSlice t len parts)
   (he:fK T K (.buildSlice t len parts) ((parts.toList.map (·.2)).map (bI st.σ)) vw nid=some out):jV P S0 C0 w0 ρ D st a w Q o nid out:=by
 have hp:=pR R parts.toList;simp only[fK] at he
 split at he
 · rename_i i hi
   split at he
   · rename_i el hk
     have hu:=eR (hT _ _ hi) hk
     split at he
     · rename_i ie hie
       have hte:=hT _ _ hie;obtain⟨z,hz,hzs,hzr⟩:=mX hte
       split at he
       · rename_i hl0
         split at he
         · rename_i hps
           injection he with he;subst he;subst hl0;have hp0:parts= #[]:=Array.eq_empty_of_size_eq_zero hps.1;subst hp0;refine qO R hn hD rfl (arr:= #[]) (v:=.slice (some ⟨w.heap.size,0,none⟩) 0 0) ?_ (by simp) (fun ρ' S' w' _ i el h=>by simp at h) ?_
           · rw[execOp,hop]
             simp[Instr.buildSlice,run_underlying hu,hte.size_run,newRow,newObj,Instr.fill];have e0:(Array.range 0).map (fun(_:Nat)=>(default:Value))= #[]:=by simp
             rw[e0];rfl
           · intro ρ' S' w' h1 h2
             exact bA (.own (.inr rfl) (Nat.le_refl _) (by unfold big;omega) (fun h=>absurd h (by omega)) .done)
         · cases he
       · rename_i hl0
         split at he
         · rename_i hsz
           obtain⟨hpos,hsmall⟩:=hsz
           split at he
           · rename_i es hes
             injection he with he;subst he;obtain⟨info,de,g1,g2,g3,g4,g5,z',gz,gr⟩:=hte.ex
             have hzz:z'=z:=by
               have h1:=hz w;have:(program).run P w= .ok P w:=rfl;simp[zeroValue,typeInfo,this,g1,gz] at h1;exact h1
             subst hzz
             have hE0:IB ρ (Sof S0 ρ st.h) w D ie.sz (List.replicate len ie.zero) ((Array.range (len*ie.sz)).map (z'.cells[· % z'.cells.size]!)):=by
               refine⟨by simp,fun j c hj=> ?_⟩;rw[List.getElem?_replicate] at hj
               split at hj
               · rename_i hjm
                 injection hj with hj;subst hj;rw[Bd z'.cells ie.sz len j hzs hpos hjm];exact hzr _ _ _ _
               · cases hj
             obtain⟨cells,h3,h4,h5⟩:=yD _ _ _ _ _ hp hE0 hes;have hparts:(parts.map fun(i,x)=>(i,a.eval x)).toList=parts.toList.map fun p=>(p.1,a.eval p.2):=by simp
             have hlen:len*ie.sz≠0:=by
               have:0<len*ie.sz:=Nat.mul_pos (by omega) hpos;omega
             simp at h5;refine qO R hn hD rfl (arr:=cells) (v:=.slice (some ⟨w.heap.size,0,none⟩) len len) ?_ (Nat.le_of_eq h4.1.symm) ?_ ?_
             · rw[execOp,hop]
               have:=run_buildSlice (P:=P) w t el len (parts.map fun(i,x)=>(i,a.eval x)) cells info z' hu g1 gz (by rw[g3];omega) (by rw[g3];exact hlen) (by rw[hparts,g3];exact h3);simp only[Sem.run_bind,this,Result.andThen_ok,Sem.run_pure]
             · intro ρ' S' w' hk' j c hj
               exact(h4.2 j c hj).keep _ (fun _ h=>.inl h) hk'
             · intro ρ' S' w' h1 h2
               refine bA (.own (.inr rfl) (Nat.le_refl _) ?_ (fun _=>⟨by simp[h1],_,_,by rw[h1];exact h2,by simp[h4.1,h5]⟩) .done);have:len<=len*ie.sz:=Nat.le_mul_of_pos_right _ hpos;unfold big;omega
           · cases he
         · cases he
     · cases he
   · cases he
 · cases he
theorem qP (R:Rel S0 C0 w0 ρ D st a w):∀ (xs:List Operand),(xs.map (bI st.σ)).all eC=true->RelVs ρ0 (Sof S0 ρ st.h) w No (xs.map (bI st.σ)) (xs.map a.eval)
 | [],_=>trivial
 | x::xs,h=>by
   simp only[List.map_cons,List.all_cons,Bool.and_eq_true] at h;exact⟨RelV0.noRef (R.eval x) h.1 ρ0,qP R xs h.2⟩
theorem RelVs.app:∀ {aS bs:List AV} {us vs:List Value},RelVs ρ S w D aS us->RelVs ρ S w D bs vs->RelVs ρ S w D (aS++bs) (us++vs)
 | [],_,[],_,_,h=>h
 | _::_,_,_::_,_,h,k=>⟨h.1,RelVs.app h.2 k⟩
 | [],_,_::_,_,h,_=>h.elim
 | _::_,_,[],_,h,_=>h.elim
theorem oK (hb:oJ P f) (args:Array Value) (w:World):(callFunc f args).run P w= .ok (.enter f args) w:=by
 obtain⟨fn,h1,h2,h3⟩:=hb;have:(program).run P w= .ok P w:=rfl;simp only[callFunc,Sem.run_bind,this,Result.andThen_ok,h1,h2,h3,Bool.false_eq_true,if_false,Sem.run_pure]
theorem vJ (R:Rel S0 C0 w0 ρ D st a w) (hA:qL P f aS r)
   (hr:(execOp a.eval o).run P w= .ok (.enter f vals.toArray) w) (hv:RelVs ρ0 (Sof S0 ρ st.h) w No aS vals):jV P S0 C0 w0 ρ D st a w Q o nid ⟨r,.keep,ob⟩:=by
 unfold jV Oper.wp;rw[hr,Oper.upon_enter];refine(hA.2 (Sof S0 ρ st.h) w vals (fun k=>R.Slt) hv).mono ?_;rintro e w' ⟨v,rfl,hrel,hchg⟩;have hb:=hchg.below
 have hk:Keep ρ (Sof S0 ρ st.h) w D ρ (Sof S0 ρ st.h) w':=
   ⟨hchg.size,fun l hl=>⟨rfl,fun arr ty h=>⟨arr,ty,by rw[hb.block _ (bN h)];exact h,Nat.le_refl _⟩⟩,fun k hk hs=>⟨hs,hb.block k hk⟩⟩
 refine⟨v,ρ,D,rfl,fun V' hV=> ?_,fun l h=>.inl h⟩;refine R.step hk (fun _ h=>h) (hV _ _ _ _ _ ?_) ?_ R.inj R.dlt (R.chg.trans hchg (fun _ _ h=>h.elim)) R.mine
 · exact hrel.keep (fun _ h=>h.elim) ⟨Nat.le_refl _,fun l h=>h.elim,fun k _ hs=>⟨hs,rfl⟩⟩
 · intro l b hlb
   obtain⟨hDl,hB⟩:=R.heap l b hlb;obtain⟨arr,h1,h2⟩:=hB;exact⟨hDl,RelB.keep ⟨arr,h1,h2⟩ (fun _ h=>h) hk rfl (hb.block _ (bN h1))⟩
end
section
variable {P:Program} {S0 C0:Nat->Prop} {w0:World} {ρ:Nat->Nat} {D:Nat->Prop} {st:St} {a:Act} {w:World} {Q:Exit->Act->World->Prop} {o:Oper} {nid:Nat} {T:TT} {K:KT} {out:Out}
theorem Rel.app (R:Rel S0 C0 w0 ρ D st a w) {nid k:Nat} {l:Option Nat} (hn:st.h[nid]? =some none) (hD:¬ D nid) {b':ABlk} {arr':Array Value} {w':World} {dst:Option Nat} {V:AV} {v:Value}
   (hl:∀ i,l=some i->∃ b,st.h[i]? =some (some b)) (hk':w'.heap[k]? =some (.cells arr' b'.ty (0,0)))
   (hkk:(∃ i,l=some i/\k=ρ i)\/w.heap.size<=k)
   (hold:∀ j,j<w.heap.size->(∀ i,l=some i->j≠ρ i)->w'.heap[j]? =w.heap[j]?)
   (hblk:∀ i,l=some i->∀ arr ty,w.heap[ρ i]? =some (.cells arr ty (0,0))->∃ arr2 ty2,w'.heap[ρ i]? =some (.cells arr2 ty2 (0,0))/\arr.size<=arr2.size)
   (hos:w'.os=w.os) (htape:w'.tape=w.tape) (hout:w'.output=w.output) (hsize:w.heap.size<=w'.heap.size)
   (hsz:b'.elems.length*b'.e<=arr'.size) (hcl:b'.closed=true/\b'.pin=none)
   (hel:∀ ρ' S' w2,Keep ρ (Sof S0 ρ st.h) w D ρ' S' w2->∀ i el,b'.elems[i]? =some el->RelCs ρ' S' w2 No el ((arr'.toList.drop (i*b'.e)).take b'.e))
   (hv:∀ ρ' S',ρ' nid=k->RelV ρ' S' w' (lE D nid) V v):
   Rel S0 C0 w0 (bV ρ nid k) (lE D nid) { σ:=put st.σ dst V,h:=gM (.app l b') nid st.h } (a.put dst v) w':=by
 have hne:∀ i,D i->i≠nid:=fun i hi e=>hD (e▸hi)
 have hlt:nid<st.h.length:=(List.getElem?_eq_some_iff.1 hn).1
 have hset:∀ (i:Nat) (c:ABlk),(gM (.app l b') nid st.h)[i]? =some (some c)->(i=nid/\c=b')\/(i≠nid/\l≠some i/\st.h[i]? =some (some c)):=by
   intro i c hc;cases l with
   | none=>
     simp only[gM] at hc;rw[List.getElem?_set] at hc
     split at hc
     · rename_i e;subst e;simp[hlt] at hc;exact .inl ⟨rfl,hc.symm⟩
     · rename_i e;exact .inr ⟨fun h=>e h.symm,by simp,hc⟩
   | some m=>
     simp only[gM] at hc;rw[List.getElem?_set] at hc
     split at hc
     · rename_i e;subst e;simp[hlt] at hc;exact .inl ⟨rfl,hc.symm⟩
     · rename_i e
       rw[List.getElem?_set] at hc
       split at hc
       · rename_i e2;subst e2;split at hc <;> cases hc
       · rename_i e2;exact .inr ⟨fun h=>e h.symm,fun h=>e2 (by injection h),hc⟩
 have hlen:(gM (.app l b') nid st.h).length=st.h.length:=by cases l <;> simp[gM]
 have hkp:Keep ρ (Sof S0 ρ st.h) w D (bV ρ nid k) (Sof S0 (bV ρ nid k) (gM (.app l b') nid st.h)) w':=by
   refine⟨hsize,fun i hi=>⟨by simp[bV,hne i hi],fun arr ty h=> ?_⟩,fun j hj hs=>⟨?_,hold j hj (fun i hi e=> ?_)⟩⟩
   · by_cases hli:∃ m,l=some m/\ρ i=ρ m
     · obtain⟨m,hm,e⟩:=hli
       rw[e] at h ⊢;exact hblk m hm arr ty h
     · refine⟨arr,ty, ?_,Nat.le_refl _⟩
       rw[hold _ (bN h) (fun m hm e=>hli ⟨m,hm,e⟩)];exact h
   · rintro(h | ⟨i,c,hc,e⟩)
     · exact hs (.inl h)
     · rcases hset i c hc with ⟨rfl,rfl⟩ | ⟨hi,_,hc⟩
       · simp[bV] at e
         rcases hkk with ⟨m,hm,hkm⟩ | hkk
         · obtain⟨b,hb⟩:=hl m hm
           exact hs (.inr ⟨m,b,hb,by rw[<- hkm,e]⟩)
         · omega
       · simp[bV,hi] at e;exact hs (.inr ⟨i,c,hc,e⟩)
   · obtain⟨b,hb⟩:=hl i hi
     exact hs (.inr ⟨i,b,hb,e.symm⟩)
 refine R.step hkp (fun i h=>.inl h) (hv _ _ (by simp[bV])) ?_ ?_ ?_ ?_ ?_
 · intro i c hc
   rcases hset i c hc with ⟨rfl,rfl⟩ | ⟨hi,hli,hc⟩
   · refine⟨.inr rfl,arr',by simp only[bV,if_true];exact hk',hsz,fun j el hj=> ?_⟩
     rw[hcl.1];exact hel _ _ _ hkp j el hj
   · obtain⟨hDi,hB⟩:=R.heap i c hc
     obtain⟨arr,h1,h2⟩:=hB;refine⟨.inl hDi,RelB.keep ⟨arr,h1,h2⟩ (fun _ h=>.inl h) hkp (by simp[bV,hi]) (hold _ (bN h1) (fun m hm e=> ?_))⟩;obtain⟨b,hb⟩:=hl m hm
     have:=R.inj i m c b hc hb e;exact hli (by rw[this];exact hm)
 · intro i j c d hc hd e
   rcases hset i c hc with ⟨rfl,rfl⟩ | ⟨hi,hli,hc2⟩ <;> rcases hset j d hd with ⟨rfl,rfl⟩ | ⟨hj,hlj,hd2⟩
   · rfl
   · exfalso
     simp[bV,hj] at e;rcases hkk with ⟨m,hm,hkm⟩ | hkk
     · obtain⟨b,hb⟩:=hl m hm
       have:=R.inj m j b d hb hd2 (by rw[<- hkm,e]);exact hlj (by rw[<- this];exact hm)
     · obtain⟨_,arr,h1,_⟩:=R.heap j d hd2
       have:=bN h1;omega
   · exfalso
     simp[bV,hi] at e;rcases hkk with ⟨m,hm,hkm⟩ | hkk
     · obtain⟨b,hb⟩:=hl m hm
       have:=R.inj m i b c hb hc2 (by rw[<- hkm,e]);exact hli (by rw[<- this];exact hm)
     · obtain⟨_,arr,h1,_⟩:=R.heap i c hc2
       have:=bN h1;omega
   · simp[bV,hi,hj] at e;exact R.inj i j c d hc2 hd2 e
 · intro i hi
   rw[hlen];rcases hi with hi | rfl
   · exact R.dlt i hi
   · exact hlt
 · refine R.chg.trans (C1:=fun j=>∃ i,l=some i/\j=ρ i) ⟨hos,htape,hout,hsize,fun j hj hc=>hold j hj (fun i hi e=>hc ⟨i,hi,e⟩),fun j arr ty h=> ?_⟩ ?_
   · by_cases hli:∃ m,l=some m/\j=ρ m
     · obtain⟨m,hm,e⟩:=hli
       subst e;exact hblk m hm arr ty h
     · exact⟨arr,ty,by rw[hold _ (fT h) (fun m hm e=>hli ⟨m,hm,e⟩)];exact h,Nat.le_refl _⟩
   rintro j hj ⟨i,hi,rfl⟩;obtain⟨b,hb⟩:=hl i hi;rcases(R.mine i b hb).1 with h | h
   · exact h
   · omega
 · intro i c hc
   rcases hset i c hc with ⟨rfl,rfl⟩ | ⟨hi,_,hc⟩
   · simp only[bV,if_true]
     rcases hkk with ⟨m,hm,rfl⟩ | hkk
     · obtain⟨b,hb⟩:=hl m hm
       have:=R.mine m b hb;exact⟨this.1,this.2.1,fun i hi=>by rw[hcl.2] at hi;cases hi⟩
     · exact⟨.inr (Nat.le_trans R.chg.size hkk),fun h=>by have:=R.lt _ h;omega,fun i hi=>by rw[hcl.2] at hi;cases hi⟩
   · simpa[bV,hi] using R.mine i c hc
theorem Fi {e':Nat} {xs:List (List AV)} {v:Value} (hx:RelV ρ (Sof S0 ρ st.h) w D (.list e' xs) v):
   ∃ A cap cells,v= .slice A xs.length cap/\xs.length<=big/\cells.length=xs.length*e'/\(∀ u∈cells,u.oneCell'=true)/\
     (∀ i el,xs[i]? =some el->RelCs ρ (Sof S0 ρ st.h) w No el ((cells.drop (i*e')).take e'))/\
     (A=none->xs.length*e'=0)/\(∀ ad,A=some ad->Seg w ad cells):=by
 obtain⟨A,cap,f,hv,g1,g2,g3,g4,g5⟩:=kC hx
 have hfl:∀ (n:Nat),n<=xs.length->((List.range n).flatMap f).length=n*e':=by
   intro n
   induction n with
   | zero=>simp
   | succ n ih=>
     intro hn;rw[List.range_succ,List.flatMap_append,List.length_append,ih (by omega)];simp[g3 n (by omega),Nat.add_mul]
 have hseg:∀ (n i:Nat),n<=xs.length->i<n->((((List.range n).flatMap f).drop (i*e')).take e')=f i:=by
   intro n
   induction n with
   | zero=>intro i _ h;omega
   | succ n ih=>
     intro i hn hi;rw[List.range_succ,List.flatMap_append];have hl:=hfl n (by omega)
     by_cases hin:i<n
     · have hle:(i+1)*e'<=n*e':=Nat.mul_le_mul_right _ hin
       rw[Nat.add_mul] at hle;rw[List.drop_append_of_le_length (by omega),List.take_append_of_le_length (by rw[List.length_drop];omega)];exact ih i (by omega) hin
     · have:i=n:=by omega
       subst this;rw[List.drop_append,List.drop_of_length_le (by omega),List.nil_append,hl,Nat.sub_self,List.drop_zero];simp only[List.flatMap_cons,List.flatMap_nil,List.append_nil];exact List.take_of_length_le (by rw[g3 i (by omega)];omega)
 refine⟨A,cap,(List.range xs.length).flatMap f,hv,by omega,hfl _ (Nat.le_refl _), ?_, ?_, ?_, ?_⟩
 · intro u hu
   obtain⟨i,hi,hu⟩:=List.mem_flatMap.1 hu;have hi:i<xs.length:=by simpa using hi
   exact(g4 i xs[i] (by simp[hi])).one u hu
 · intro i el hel
   have hi:=(List.getElem?_eq_some_iff.1 hel).1;rw[hseg _ i (Nat.le_refl _) hi];exact g4 i el hel
 · intro hA
   by_cases h0:0<xs.length
   · obtain⟨ad,e,_⟩:=g5 h0
     rw[hA] at e;cases e
   · have:xs.length=0:=by omega
     simp[this]
 · intro ad hA j u hj
   have hjl:=(List.getElem?_eq_some_iff.1 hj).1;rw[hfl _ (Nat.le_refl _)] at hjl
   have h0:0<xs.length:=by
     rcases Nat.eq_zero_or_pos xs.length with h | h
     · rw[h] at hjl;omega
     · exact h
   have he0:0<e':=by
     rcases Nat.eq_zero_or_pos e' with h | h
     · rw[h] at hjl;omega
     · exact h
   obtain⟨ad',e,_,_,hs⟩:=g5 h0;rw[hA] at e;injection e with e;subst e;have hdiv:j/e'<xs.length:=by rw[Nat.div_lt_iff_lt_mul he0];exact hjl
   have hmod:=Nat.mod_lt j he0;have hjj:j=j/e'*e'+j % e':=by rw[Nat.mul_comm];exact(Nat.div_add_mod j e').symm
   have h1:=hseg xs.length (j/e') (Nat.le_refl _) hdiv
   have h2:(f (j/e'))[j % e']? =some u:=by
     rw[<- h1,List.getElem?_take,if_pos hmod,List.getElem?_drop, <- hjj];exact hj
   have:=hs (j/e') hdiv (j % e') u h2;rw[sF, <- hjj] at this;exact this
theorem oL (R:Rel S0 C0 w0 ρ D st a w) {e:Nat} {x:AV} {v:Value} {vb:Option ABlk} (hvb:∀ l b,refId x=some l->vb=some b->st.h[l]? =some (some b)) (hx:RelV ρ (Sof S0 ρ st.h) w D x v)
   {ys:List (List AV)} {ob:List Prop} (he:yA e x vb=some (ys,ob)) (ho:AllP ob):
   ∃ A cap cells,v= .slice A ys.length cap/\ys.length<=big/\cells.length=ys.length*e/\(∀ u∈cells,u.oneCell'=true)/\
     (∀ i el,ys[i]? =some el->RelCs ρ (Sof S0 ρ st.h) w No el ((cells.drop (i*e)).take e))/\
     (A=none->ys.length*e=0)/\(∀ ad,A=some ad->Seg w ad cells):=by
 cases x <;> try (cases vb <;> simp[yA] at he;done)
 · -- nil
   have he:some ([],[])=some (ys,ob):=by cases vb <;> exact he
   injection he with he;simp only[Prod.mk.injEq] at he;obtain⟨rfl,rfl⟩:=he;exact⟨none,0,[],hx.nil_inv,by simp[big],by simp,by simp,by simp,by simp,by simp⟩
 · -- list
   rename_i e' xs;have he:(if e'=e then some (xs,([]:List Prop)) else none)=some (ys,ob):=by cases vb <;> exact he
   split at he
   · rename_i hee
     injection he with he;simp only[Prod.mk.injEq] at he;obtain⟨rfl,rfl⟩:=he;subst hee;exact Fi hx
   · cases he
 · -- own
   rename_i l e' b n;cases vb with
   | none=>simp[yA] at he
   | some blk=>
     simp only[yA] at he
     split at he
     · rename_i hc
       obtain⟨rfl,hbe,rfl,hcl⟩:=hc;injection he with he;simp only[Prod.mk.injEq] at he;obtain⟨rfl,rfl⟩:=he;have hb:=hvb l blk rfl rfl;obtain⟨A,cap,hv,hDl,g1,g2,g3⟩:=lY hx;have hnl:n=blk.elems.length:=ho _ (by simp);obtain⟨_,arr,k1,k2,k3⟩:=R.heap l blk hb;rw[hbe] at k2 k3
       have hrel:∀ i el,blk.elems[i]? =some el->RelCs ρ (Sof S0 ρ st.h) w No el ((arr.toList.drop (i*e')).take e'):=by
         intro i el hel
         have:=k3 i el hel
         by_cases hcc:blk.closed=true
         · rw[if_pos hcc] at this;exact this
         · rw[if_neg hcc] at this
           have hall:blk.elems.all (·.all noRef)=true:=by simpa[hcc] using hcl
           have hm:=List.all_eq_true.1 hall el (List.mem_of_getElem? hel);exact this.noRef hm ρ
       refine⟨A,cap,arr.toList.take (blk.elems.length*e'),by rw[hv,hnl],by omega,by rw[List.length_take,Array.length_toList];omega, ?_, ?_, ?_, ?_⟩
       · intro u hu
         obtain⟨j,hj⟩:=List.mem_iff_getElem?.1 hu;have hjl:=(List.getElem?_eq_some_iff.1 hj).1;rw[List.length_take] at hjl
         have he0:0<e':=by
           rcases Nat.eq_zero_or_pos e' with h | h
           · rw[h] at hjl;omega
           · exact h
         have hdiv:j/e'<blk.elems.length:=by rw[Nat.div_lt_iff_lt_mul he0];omega
         have hmod:=Nat.mod_lt j he0;have hjj:j=j/e'*e'+j % e':=by rw[Nat.mul_comm];exact(Nat.div_add_mod j e').symm
         refine(hrel (j/e') blk.elems[j/e'] (by simp[hdiv])).one u ?_;refine List.mem_iff_getElem?.2 ⟨j % e', ?_⟩;rw[List.getElem?_take,if_pos hmod,List.getElem?_drop, <- hjj];rw[List.getElem?_take] at hj
         split at hj
         · exact hj
         · cases hj
       · intro i el hel
         have hi:=(List.getElem?_eq_some_iff.1 hel).1;have hle:(i+1)*e'<=blk.elems.length*e':=Nat.mul_le_mul_right _ hi;rw[Nat.add_mul] at hle;rw[List.drop_take,List.take_take,Nat.min_eq_left (by omega)];exact hrel i el hel
       · intro hA
         by_cases h0:0<cap
         · obtain⟨e,_⟩:=g3 h0
           rw[hA] at e;cases e
         · have:blk.elems.length=0:=by omega
           simp[this]
       · intro ad hA j u hj
         have hjl:=(List.getElem?_eq_some_iff.1 hj).1;rw[List.length_take] at hjl
         have h0:0<cap:=by
           rcases Nat.eq_zero_or_pos cap with h | h
           · have:blk.elems.length=0:=by omega
             rw[this] at hjl;omega
           · exact h
         obtain⟨e,_⟩:=g3 h0;rw[hA] at e;injection e with e;subst e
         have:=Seg.of_row k1 0 (blk.elems.length*e') j u (by simpa using hj);simpa using this
     · cases he
theorem sG {sz m cap:Nat} {A:Option Addr} {cells:List Value} (hl:cells.length=m*sz) (h0:A=none->m*sz=0) (hs:∀ ad,A=some ad->Seg w ad cells):
   (Builtin.firstCells sz m (.slice A m cap)).run P w= .ok cells.toArray w:=by
 cases A with
 | none=>
   have:cells= []:=List.eq_nil_of_length_eq_zero (by rw[hl,h0 rfl]);subst this;rfl
 | some ad=>
   show(loadCells ad (m*sz)).run P w=_;rw[<- hl];exact run_loadCells_list (w:=w) (P:=P) ad cells (hs ad rfl)
theorem vK (z:Array Value) (n:Nat):(Builtin.zeroCells z n).size=n*z.size:=by simp[Builtin.zeroCells]
theorem tV {t1 t2 ty el el2:Nat} {ie:TI} (hu1:P.underlying t1=some (.slice el)) (hu2:P.underlying t2=some (.slice el2)) (hte:TIOK P el ie) {A A2:Option Addr} {n cap m c2:Nat} {old eT:List Value}
   (hold:(Builtin.firstCells ie.sz n (.slice A n cap)).run P w.drew= .ok old.toArray w.drew) (hnews:(Builtin.firstCells ie.sz m (.slice A2 m c2)).run P w.drew= .ok eT.toArray w.drew)
   (hgrow:¬ n+m<=cap) (hb:(n+m)*ie.bytes<=140737488355328) (hbig:n+m<=big):
   ∃ newCap rest,n+m<=newCap/\newCap<=big/\rest.size=(newCap-(n+m))*ie.sz/\
     (Builtin.append_ #[t1,t2] ty #[.slice A n cap,.slice A2 m c2]).run P w= .ok (.slice (some ⟨w.heap.size,0,none⟩) (n+m) newCap) (w.drew.alloc (.cells (old.toArray++(eT.toArray++rest)) el)):=by
 obtain⟨z,hz,hzs,hzr⟩:=mX hte;obtain⟨info,d,g1,g2,g3,g4,_⟩:=hte.ex
 have hti:∀ w,(typeInfo el).run P w= .ok info w:=by
   intro w;have:(program).run P w= .ok P w:=rfl;simp[typeInfo,this,g1]
 have hpick:=nextslicecap_le (old:=cap) (need:=n+m) (by omega)
 have hpick2:¬ (Builtin.nextslicecap (n+m) cap*info.bytes>2^48):=by
   rw[g4]
   have:=Nat.mul_le_mul_right ie.bytes hpick;rw[Nat.mul_assoc] at this;omega
 unfold big at hbig;have hmax:(IntKind.i64.max:Int)=9223372036854775807:=by decide
 refine⟨(Question.appendCap (n+m) cap el).cut (w.tape w.drawn (.appendCap (n+m) cap el)),Builtin.zeroCells z.cells ((Question.appendCap (n+m) cap el).cut (w.tape w.drawn (.appendCap (n+m) cap el))-(n+m)), ?_, ?_, ?_, ?_⟩
 · simp[Question.cut]
 · unfold big
   simp only[Question.cut]
   have:=Nat.mod_lt (w.tape w.drawn (.appendCap (n+m) cap el)) (show 0<2^63-(n+m) by omega);omega
 · rw[vK,hzs]
 · have hold':(Builtin.firstCells ie.sz n (.slice A n cap)).run P { w with drawn:=w.drawn+1 }= .ok old.toArray { w with drawn:=w.drawn+1 }:=hold
   have hnews':(Builtin.firstCells ie.sz m (.slice A2 m c2)).run P { w with drawn:=w.drawn+1 }= .ok eT.toArray { w with drawn:=w.drawn+1 }:=hnews
   have hch:(choose (.appendCap (n+m) cap el)).run P w= .ok ((Question.appendCap (n+m) cap el).cut (w.tape w.drawn (.appendCap (n+m) cap el))) { w with drawn:=w.drawn+1 }:=by
     simp[run_choose,Question.forced]
   have hno:¬ (IntKind.i64.max<((n:Int)+(m:Int))):=by rw[hmax];omega
   have hpick3:¬ (2^48<Builtin.nextslicecap (n+m) cap*info.bytes):=hpick2;simp only[choose] at hch;simp[Builtin.append_,run_underlying hu1,run_underlying hu2,hte.size_run,Builtin.lenOf,hgrow,hti,hno,newRow,newObj];rw[if_neg (by rintro⟨h,_⟩;omega),if_neg (by simpa using hpick3)];have hf:(Question.appendCap (n+m) cap el).forced=false:=rfl;simp only[hf,Bool.false_eq_true,if_false,hold,hnews,hz,Result.andThen_ok];rfl
theorem mZ {t1 t2 ty el el2:Nat} {ie:TI} (hu1:P.underlying t1=some (.slice el)) (hu2:P.underlying t2=some (.slice el2)) (hte:TIOK P el ie) {A A2:Option Addr} {n cap m c2:Nat} {eT:List Value} {w':World}
   (hnews:(Builtin.firstCells ie.sz m (.slice A2 m c2)).run P w= .ok eT.toArray w) (hfit:n+m<=cap)
   (hst:(match A with | some a=>storeCells (a.add (n*ie.sz)) eT | none=>pure ():Sem Unit).run P w= .ok () w'):
   (Builtin.append_ #[t1,t2] ty #[.slice A n cap,.slice A2 m c2]).run P w= .ok (.slice A (n+m) cap) w':=by
 cases A with
 | none=>
   injection hst with _ hst;subst hst;simp[Builtin.append_,run_underlying hu1,run_underlying hu2,hte.size_run,Builtin.lenOf,hfit,hnews]
 | some a=>
   simp only at hst;simp[Builtin.append_,run_underlying hu1,run_underlying hu2,hte.size_run,Builtin.lenOf,hfit,hnews,hst]
theorem KC {c:Call} {x y:Operand} (h:c.args= #[x,y]):c.args.map a.eval= #[a.eval x,a.eval y]:=by rw[h];simp
theorem Ed (hT:lT P T) (R:Rel S0 C0 w0 ρ D st a w) (hn:st.h[nid]? =some none) (hD:¬ D nid) {c:Call} (hop:o.op= .call c) (hc:c.callee= .builtin .append) {x y:Operand} (hargs:c.args= #[x,y])
   (he:fK T K (.call c) [bI st.σ x,bI st.σ y] [(refId (bI st.σ x)).bind fun l=>(st.h[l]?).join,(refId (bI st.σ y)).bind fun l=>(st.h[l]?).join] nid=some out) (ho:AllP out.ob):jV P S0 C0 w0 ρ D st a w Q o nid out:=by
 have hx:=R.eval x;have hy:=R.eval y
 have hview:∀ (z:AV) (l:Nat) (b:ABlk),refId z=some l->((refId z).bind fun l=>(st.h[l]?).join)=some b->st.h[l]? =some (some b):=by
   intro z l b h1 h2;rw[h1] at h2;simp only[Option.bind_some] at h2;cases e:st.h[l]? with
   | none=>simp[e] at h2
   | some q=>simp[e] at h2;rw[h2]
 simp only[fK,hc] at he
 split at he
 · rename_i t1 t2 s0 x0 vs vx htys hargs' hvw'
   injection hargs' with e1 e2;injection e2 with e2 _;injection hvw' with e3 e4;injection e4 with e4 _;subst e1;subst e2;subst e3;subst e4;have hty:c.argTypes= #[t1,t2]:=by have:=congrArg List.toArray htys;simpa using this
   split at he
   · rename_i i1 i2 hi1 hi2
     split at he
     · rename_i el el2 hk1 hk2
       have hu1:=eR (hT _ _ hi1) hk1;have hu2:=eR (hT _ _ hi2) hk2
       split at he
       · rename_i ie hie
         have hte:=hT _ _ hie
         split at he
         · rename_i ys ob hsrc
           split at he
           · rename_i hpos
             have run:∀ (v:Value) (w':World),(Builtin.append_ #[t1,t2] o.type #[a.eval x,a.eval y]).run P w= .ok v w'->(execOp a.eval o).run P w= .ok (.value v) w':=by
               intro v w' h;rw[execOp,hop];simp only[resolve,hc,Sem.run_bind,Sem.run_pure,Result.andThen_ok,invoke,builtin,KC hargs,hty,h]
             have grow:∀ (A:Option Addr) (n cap:Nat) (old:List Value) (olds:List (List AV)) (l:Option Nat) (obx:List Prop),a.eval x= .slice A n cap->AllP ob->olds.length=n->old.length=n*ie.sz->
                 (A=none->n*ie.sz=0)->(∀ ad,A=some ad->Seg w ad old)->(∀ i,l=some i->∃ b,st.h[i]? =some (some b))->
                 (∀ i el,olds[i]? =some el->RelCs ρ (Sof S0 ρ st.h) w No el ((old.drop (i*ie.sz)).take ie.sz))->¬ n+ys.length<=cap->(n+ys.length)*ie.bytes<=140737488355328->n+ys.length<=big->
                 jV P S0 C0 w0 ρ D st a w Q o nid ⟨.own nid ie.sz 0 (n+ys.length),.app l ⟨el,ie.sz,true,olds++ys,none⟩,obx⟩:=by
               intro A n cap old olds l obx hv hob holdl hol hA hseg hl hrel hgrow hb hbig;obtain⟨A2,c2,eT,hv2,n1,n2,n3,n4,n5,n6⟩:=oL R (hview _) hy hsrc hob;have f1:=sG (P:=P) (w:=w.drew) (sz:=ie.sz) (m:=n) (cap:=cap) (A:=A) hol hA (fun ad e=>hseg ad e);have f2:=sG (P:=P) (w:=w.drew) (sz:=ie.sz) (m:=ys.length) (cap:=c2) (A:=A2) n2 n5 (fun ad e=>n6 ad e);obtain⟨newCap,rest,m1,m2,m3,hr⟩:=tV (P:=P) (w:=w) (ty:=o.type) hu1 hu2 hte f1 f2 hgrow hb hbig;rw[<- hv, <- hv2] at hr;unfold jV Oper.wp;rw[run _ _ hr,Oper.upon_value];have hnew:(w.drew.alloc (.cells (old.toArray++(eT.toArray++rest)) el)).heap[w.heap.size]? =some (.cells (old.toArray++(eT.toArray++rest)) el (0,0)):=heap_alloc_new w.drew _;have hold:∀ k,k<w.heap.size->(w.drew.alloc (.cells (old.toArray++(eT.toArray++rest)) el)).heap[k]? =w.heap[k]? :=fun k hk=>Below.heap_alloc w.drew _ k hk
               have hszA:(old.toArray++(eT.toArray++rest)).size=newCap*ie.sz:=by
                 simp only[Array.size_append,List.size_toArray,hol,n2,m3];rw[<- Nat.add_mul, <- Nat.add_mul]
                 congr 1;omega
               have hel:∀ i el,(olds++ys)[i]? =some el->RelCs ρ (Sof S0 ρ st.h) w No el (((old.toArray++(eT.toArray++rest)).toList.drop (i*ie.sz)).take ie.sz):=by
                 intro i el' hi;simp only[Array.toList_append]
                 by_cases hin:i<n
                 · rw[List.getElem?_append_left (by omega)] at hi
                   have hle:(i+1)*ie.sz<=n*ie.sz:=Nat.mul_le_mul_right _ hin;rw[Nat.add_mul] at hle;rw[List.drop_append_of_le_length (by simp[hol];omega),List.take_append_of_le_length (by simp[hol];omega)];exact hrel i el' hi
                 · rw[List.getElem?_append_right (by omega),holdl] at hi
                   have hi2:=(List.getElem?_eq_some_iff.1 hi).1;have hle:(i-n+1)*ie.sz<=ys.length*ie.sz:=Nat.mul_le_mul_right _ hi2;rw[Nat.add_mul] at hle;have hge:n*ie.sz<=i*ie.sz:=Nat.mul_le_mul_right _ (by omega);have hd:i*ie.sz-n*ie.sz=(i-n)*ie.sz:=by rw[Nat.sub_mul]
                   rw[List.drop_append,List.drop_of_length_le (by simp[hol];omega),List.nil_append];simp only[hol,hd];rw[List.drop_append_of_le_length (by simp[n2];omega),List.take_append_of_le_length (by simp[n2];omega)];exact n4 (i-n) el' hi
               refine⟨_,bV ρ nid w.heap.size,lE D nid,rfl,fun V' hV=> ?_,fun l h=>h.imp id fun e=>⟨e,rfl⟩⟩
               refine R.app hn hD hl hnew (.inr (Nat.le_refl _)) (fun j hj _=>hold j hj) (fun i _ arr ty h=>⟨arr,ty,by rw[hold _ (bN h)];exact h,Nat.le_refl _⟩) rfl rfl rfl (by show w.heap.size<=(w.heap.push _).size;simp) ?_ ⟨rfl,rfl⟩
                 (fun ρ' S' w2 hk i el' hi=>(hel i el' hi).keep _ (fun _ h=>h) ⟨hk.size,fun l h=>h.elim,hk.cells⟩) ?_
               · rw[hszA,List.length_append,holdl]
                 exact Nat.mul_le_mul_right _ m1
               · intro ρ' S' hρ
                 refine hV _ _ _ _ _ (bA (.own (.inr rfl) m1 m2 (fun _=>⟨by simp[hρ],_,el,by rw[hρ];exact hnew,by rw[hszA];simp⟩) .done))
             split at he
             · -- nil
               rename_i hs0;injection he with he;subst he;obtain⟨o1,o2⟩:=AllP.app ho;have q1:0<ys.length:=o2 _ (by simp);have q2:ys.length*ie.bytes<=140737488355328:=o2 _ (by simp);have q3:ys.length<=big:=o2 _ (by simp);rw[hs0] at hx
               have:=grow none 0 0 [] [] none (ob++ [0<ys.length,ys.length*ie.bytes<=140737488355328,ys.length<=big]) hx.nil_inv o1 rfl (by simp) (by simp) (by simp) (by simp) (by simp) (by omega) (by simpa using q2) (by simpa using q3);simpa using this
             · rename_i l e b n blk hs0 hvs
               split at he
               · rename_i hcond
                 obtain⟨rfl,hbe,hbt,rfl,hcl⟩:=hcond;injection he with he;subst he;obtain⟨o1,o2⟩:=AllP.app ho;have q1:n=blk.elems.length:=o2 _ (by simp);have q2:(n+ys.length)*ie.bytes<=140737488355328:=o2 _ (by simp);have q3:n+ys.length<=big:=o2 _ (by simp);have hb:=hview _ l blk (by rw[hs0];rfl) hvs
                 obtain⟨A,cap,old,hv,p1,p2,p3,p4,p5,p6⟩:=oL R (e:=ie.sz) (x:=bI st.σ x) (vb:=some blk) (fun l' b' h1 h2=>by injection h2 with h2;subst h2;rw[hs0] at h1;injection h1 with h1;subst h1;exact hb) hx
                   (ys:=blk.elems) (ob:=[n=blk.elems.length]) (by rw[hs0];exact if_pos ⟨rfl,hbe,rfl,hcl⟩) (fun p hp=>by simp at hp;rw[hp];exact q1)
                 rw[<- q1] at hv p2 p5
                 by_cases hfit:n+ys.length<=cap
                 · -- in place
                   obtain⟨A2,c2,eT,hv2,n1,n2,n3,n4,n5,n6⟩:=oL R (hview _) hy hsrc o1;obtain⟨_,arr,k1,k2,k3⟩:=R.heap l blk hb;rw[hs0] at hx;obtain⟨A',cap',hv',hDl,g1,g2,g3⟩:=lY hx;rw[hv] at hv';injection hv' with hA _ hcap;subst hA;subst hcap;have f2:=sG (P:=P) (w:=w) (sz:=ie.sz) (m:=ys.length) (cap:=c2) (A:=A2) n2 n5 n6;rw[hbe] at k2
                   by_cases h0:0<cap
                   · obtain⟨hA,arr2,ty2,r1,r2⟩:=g3 h0
                     rw[k1] at r1;injection r1 with r1;injection r1 with r1 r1';subst r1;subst r1';simp only[Nat.zero_add] at r2
                     have hle:n*ie.sz+ys.length*ie.sz<=arr.size:=by
                       rw[<- Nat.add_mul];exact Nat.le_trans (Nat.mul_le_mul_right _ hfit) r2
                     have hstore:=run_storeCells_at (P:=P) (ρ l) (n*ie.sz) blk.ty eT 0 arr w k1 (by rw[n2];omega) n3;rw[oI k1] at hstore;simp only[Nat.add_zero,n2] at hstore;have hr:=mZ (P:=P) (w:=w) (ty:=o.type) (A:=A) (n:=n) (cap:=cap) hu1 hu2 hte f2 hfit (by rw[hA];simp only[mY,Nat.zero_mul,Nat.zero_add];exact hstore);rw[<- hv, <- hv2] at hr;unfold jV Oper.wp;rw[run _ _ hr,Oper.upon_value];have hklt:=bN k1
                     have hszA:(arr.toList.take (n*ie.sz)++eT++arr.toList.drop (n*ie.sz+ys.length*ie.sz)).toArray.size=arr.size:=by
                       simp only[List.size_toArray,List.length_append,List.length_take,List.length_drop,Array.length_toList,n2];omega
                     generalize hnw:(arr.toList.take (n*ie.sz)++eT++arr.toList.drop (n*ie.sz+ys.length*ie.sz))=cells at hszA
                     have hel:∀ i el',(blk.elems++ys)[i]? =some el'->RelCs ρ (Sof S0 ρ st.h) w No el' ((cells.drop (i*ie.sz)).take ie.sz):=by
                       intro i el' hi;subst hnw
                       by_cases hin:i<n
                       · rw[List.getElem?_append_left (by omega)] at hi
                         have hle2:(i+1)*ie.sz<=n*ie.sz:=Nat.mul_le_mul_right _ hin;rw[Nat.add_mul] at hle2;rw[List.append_assoc,List.drop_append_of_le_length (by rw[List.length_take,Array.length_toList];omega),List.take_append_of_le_length (by rw[List.length_drop,List.length_take,Array.length_toList];omega),List.drop_take,List.take_take,Nat.min_eq_left (by omega)]
                         have:=k3 i el' hi;rw[hbe] at this
                         by_cases hcc:blk.closed=true
                         · rw[if_pos hcc] at this;exact this
                         · rw[if_neg hcc] at this
                           have hall:blk.elems.all (·.all noRef)=true:=by simpa[hcc] using hcl
                           exact this.noRef (List.all_eq_true.1 hall el' (List.mem_of_getElem? hi)) ρ
                       · rw[List.getElem?_append_right (by omega), <- q1] at hi
                         have hi2:=(List.getElem?_eq_some_iff.1 hi).1;have hle2:(i-n+1)*ie.sz<=ys.length*ie.sz:=Nat.mul_le_mul_right _ hi2;rw[Nat.add_mul] at hle2;have hge:n*ie.sz<=i*ie.sz:=Nat.mul_le_mul_right _ (by omega);have hd:i*ie.sz-n*ie.sz=(i-n)*ie.sz:=by rw[Nat.sub_mul]
                         rw[List.append_assoc,List.drop_append,List.drop_of_length_le (by rw[List.length_take,Array.length_toList];omega),List.nil_append,List.length_take,Array.length_toList,Nat.min_eq_left (by omega),hd,
                           List.drop_append_of_le_length (by omega),List.take_append_of_le_length (by rw[List.length_drop];omega)]
                         exact n4 (i-n) el' hi
                     have hnew:({ w with heap:=w.heap.set! (ρ l) (.cells cells.toArray blk.ty (0,0)) }:World).heap[ρ l]? =some (.cells cells.toArray blk.ty (0,0)):=by simp[Array.getElem?_setIfInBounds,hklt]
                     refine⟨_,bV ρ nid (ρ l),lE D nid,rfl,fun V' hV=> ?_,fun l h=>h.imp id fun e=>⟨e,rfl⟩⟩;refine R.app (l:=some l) (b':=⟨el,ie.sz,true,blk.elems++ys,none⟩) (arr':=cells.toArray) hn hD (fun i hi=>by injection hi with hi;subst hi;exact⟨blk,hb⟩) (by rw[hnew,hbt]) (.inl ⟨l,rfl,rfl⟩) ?_ ?_ rfl rfl rfl (by simp) ?_ ⟨rfl,rfl⟩ ?_ ?_
                     · intro j hj hne
                       have:=hne l rfl;simp[Array.getElem?_setIfInBounds,Ne.symm this]
                     · intro i hi arr0 ty0 h
                       injection hi with hi;subst hi;rw[k1] at h;injection h with h;injection h with h h';subst h;exact⟨_,_,hnew,by rw[hszA];exact Nat.le_refl _⟩
                     · rw[hszA,List.length_append, <- q1]
                       exact Nat.le_trans (Nat.mul_le_mul_right _ hfit) r2
                     · intro ρ' S' w2 hk i el' hi
                       exact(hel i el' hi).keep _ (fun _ h=>h) ⟨hk.size,fun l h=>h.elim,hk.cells⟩
                     · intro ρ' S' hρ
                       refine hV _ _ _ _ _ (bA ?_);rw[hA];exact .own (.inr rfl) hfit g2 (fun _=>⟨by simp[hρ],_,_,by rw[hρ];exact hnew,by rw[hszA];simpa using r2⟩) .done
                   · -- no capacity: nothing is appended
                     have hc0:cap=0:=by omega
                     have hn0:n=0:=by omega
                     have hy0:ys.length=0:=by omega
                     have hnil:eT= []:=List.eq_nil_of_length_eq_zero (by rw[n2,hy0];simp);have hysn:ys= []:=List.eq_nil_of_length_eq_zero hy0;have hr:=mZ (P:=P) (w:=w) (w':=w) (ty:=o.type) (A:=A) (n:=n) (cap:=cap) hu1 hu2 hte f2 hfit (by subst hnil;cases A <;> rfl);rw[<- hv, <- hv2] at hr;unfold jV Oper.wp;rw[run _ _ hr,Oper.upon_value];refine⟨_,bV ρ nid (ρ l),lE D nid,rfl,fun V' hV=> ?_,fun l h=>h.imp id fun e=>⟨e,rfl⟩⟩;refine R.app (l:=some l) (b':=⟨el,ie.sz,true,blk.elems++ys,none⟩) (arr':=arr) hn hD (fun i hi=>by injection hi with hi;subst hi;exact⟨blk,hb⟩) (by rw[k1,hbt]) (.inl ⟨l,rfl,rfl⟩) (fun j hj _=>rfl) ?_ rfl rfl rfl (Nat.le_refl _) ?_ ⟨rfl,rfl⟩ ?_ ?_
                     · intro i hi arr0 ty0 h
                       exact⟨arr0,ty0,h,Nat.le_refl _⟩
                     · rw[List.length_append,hy0,Nat.add_zero];exact k2
                     · intro ρ' S' w2 hk i el' hi
                       have:blk.elems= []:=List.eq_nil_of_length_eq_zero (by omega);rw[this,hysn] at hi;simp at hi
                     · intro ρ' S' hρ
                       refine hV _ _ _ _ _ (bA ?_);exact .own (.inr rfl) hfit g2 (fun h=>absurd h h0) .done
                 · exact grow A n cap old blk.elems (some l) _ hv o1 q1.symm p2 p5 p6 (fun i hi=>by injection hi with hi;subst hi;exact⟨blk,hb⟩) p4 hfit q2 q3
               · cases he
             · cases he
           · cases he
         · cases he
       · cases he
     · cases he
   · cases he
 · cases he
end
section
variable {P:Program} {S0 C0:Nat->Prop} {w0:World} {ρ:Nat->Nat} {D:Nat->Prop} {st:St} {a:Act} {w:World} {Q:Exit->Act->World->Prop} {o:Oper} {nid:Nat} {T:TT} {K:KT} {out:Out}
def Us (A:Option Addr) (vs:List Value):Sem Unit:=
 match A with
 | some a=>storeCells a vs
 | none=>pure ()
theorem IC (hT:lT P T) (R:Rel S0 C0 w0 ρ D st a w) (hop:o.op= .call c) (hc:c.callee= .builtin .copy) (hargs:c.args= #[x,y])
   (he:fK T K (.call c) [bI st.σ x,bI st.σ y] [(refId (bI st.σ x)).bind fun l=>(st.h[l]?).join,(refId (bI st.σ y)).bind fun l=>(st.h[l]?).join] nid=some out) (ho:AllP out.ob):jV P S0 C0 w0 ρ D st a w Q o nid out:=by
 have hx:=R.eval x;have hy:=R.eval y
 have hview:∀ (z:AV) (l:Nat) (b:ABlk),refId z=some l->((refId z).bind fun l=>(st.h[l]?).join)=some b->st.h[l]? =some (some b):=by
   intro z l b h1 h2;rw[h1] at h2;simp only[Option.bind_some] at h2;cases e:st.h[l]? with
   | none=>simp[e] at h2
   | some q=>simp[e] at h2;rw[h2]
 simp only[fK,hc] at he
 split at he
 · rename_i t1 t2 s0 x0 vs vx htys hargs' hvw'
   injection hargs' with e1 e2;injection e2 with e2 _;injection hvw' with e3 e4;injection e4 with e4 _;subst e1;subst e2;subst e3;subst e4;have hty:c.argTypes= #[t1,t2]:=by have:=congrArg List.toArray htys;simpa using this
   split at he
   · rename_i i1 hi1
     split at he
     · rename_i el hk1
       have hu1:=eR (hT _ _ hi1) hk1
       split at he
       · rename_i ie hie
         have hte:=hT _ _ hie
         split at he
         · rename_i ys ob l e b n blk hsrc hs0 hvs
           split at he
           · rename_i hcond
             obtain⟨rfl,hbe,hcl,hne⟩:=hcond;injection he with he;subst he;obtain⟨o1,o2⟩:=AllP.app ho;have q1:b+n<=blk.elems.length:=o2 _ (by simp);have hb:=hview _ l blk (by rw[hs0];rfl) hvs;obtain⟨A2,c2,eT,hv2,n1,n2,n3,n4,n5,n6⟩:=oL R (hview _) hy hsrc o1;obtain⟨_,arr,k1,k2,k3⟩:=R.heap l blk hb;rw[hs0] at hx;obtain⟨A,cap,hv,hDl,g1,g2,g3⟩:=lY hx;rw[hbe] at k2 k3;generalize hm:min ys.length n=m at*;have hm1:m<=ys.length:=by omega
             have hm2:m<=n:=by omega
             have hmul1:m*ie.sz<=ys.length*ie.sz:=Nat.mul_le_mul_right _ hm1;have hmul2:(b+m)*ie.sz<=arr.size:=Nat.le_trans (Nat.mul_le_mul_right _ (by omega)) k2;rw[Nat.add_mul] at hmul2
             have f2:(Builtin.firstCells ie.sz m (.slice A2 ys.length c2)).run P w= .ok (eT.take (m*ie.sz)).toArray w:=by
               cases A2 with
               | none=>
                 have h0:=n5 rfl;have:eT= []:=List.eq_nil_of_length_eq_zero (by rw[n2,h0]);subst this;simp[Builtin.firstCells]
               | some ad=>
                 show(loadCells ad (m*ie.sz)).run P w=_;have hl:(eT.take (m*ie.sz)).length=m*ie.sz:=by rw[List.length_take,n2];omega
                 have:=run_loadCells_list (w:=w) (P:=P) ad (eT.take (m*ie.sz)) (fun j v hj=>n6 ad rfl j v (by
                   rw[List.getElem?_take] at hj
                   split at hj
                   · exact hj
                   · cases hj))
                 rw[hl] at this;exact this
             have htl:(eT.take (m*ie.sz)).length=m*ie.sz:=by rw[List.length_take,n2];omega
             have hone:∀ v∈eT.take (m*ie.sz),v.oneCell'=true:=fun v hv=>n3 v (List.mem_of_mem_take hv)
             generalize hnw:(arr.toList.take (b*ie.sz)++eT.take (m*ie.sz)++arr.toList.drop (b*ie.sz+m*ie.sz))=cells
             have hszA:cells.toArray.size=arr.size:=by
               rw[<- hnw];simp only[List.size_toArray,List.length_append,List.length_take,List.length_drop,Array.length_toList,n2];omega
             have hst:(Us A (eT.take (m*ie.sz))).run P w= .ok () { w with heap:=w.heap.set! (ρ l) (.cells cells.toArray blk.ty (0,0)) }:=by
               by_cases h0:0<cap
               · obtain⟨hA,_⟩:=g3 h0
                 rw[hA]
                 have:=run_storeCells_at (P:=P) (ρ l) (b*ie.sz) blk.ty (eT.take (m*ie.sz)) 0 arr w k1 (by rw[htl];omega) hone;rw[oI k1] at this;simp only[Nat.add_zero,htl,hnw] at this;exact this
               · have hm0:m=0:=by omega
                 subst hm0
                 have hcells:cells.toArray=arr:=by
                   rw[<- hnw];simp
                 have hsame:({ w with heap:=w.heap.set! (ρ l) (.cells cells.toArray blk.ty (0,0)) }:World)=w:=by
                   rw[hcells, <- oI (arr':=arr) k1,setRow_self w (ρ l) arr blk.ty (0,0) k1]
                 rw[hsame];cases A with
                 | none=>rfl
                 | some ad=>simp[Us,storeCells]
             have hr:(execOp a.eval o).run P w= .ok (.value (.int .i64 (m:Nat))) { w with heap:=w.heap.set! (ρ l) (.cells cells.toArray blk.ty (0,0)) }:=by
               rw[execOp,hop];simp only[resolve,hc,Sem.run_bind,Sem.run_pure,Result.andThen_ok,invoke,builtin,KC hargs,hty];have hmin:Nat.min ys.length n=m:=hm;cases A with
               | none=>
                 have hst:(Result.ok () w:Result Unit)=_:=hst;injection hst with _ hst;simp[Builtin.copy_,run_underlying hu1,hte.size_run,Builtin.lenOf,hv,hv2,hmin,f2,goInt];exact hst
               | some ad=>
                 have hst:(storeCells ad (eT.take (m*ie.sz))).run P w=_:=hst;simp[Builtin.copy_,run_underlying hu1,hte.size_run,Builtin.lenOf,hv,hv2,hmin,f2,hst,goInt]
             unfold jV Oper.wp;rw[hr,Oper.upon_value];refine⟨_,ρ,D,rfl,fun V' hV=> ?_,fun l h=>.inl h⟩;refine R.write hb k1 ⟨rfl,rfl⟩ rfl (by rw[hszA]) ?_ ?_ (fun _=>hV _ _ _ _ _ .mk_int)
             · rw[hszA]
               simp only[List.length_append,List.length_take,List.length_drop,hbe];refine Nat.le_trans (Nat.mul_le_mul_right _ ?_) k2;omega
             · intro hk i el' hi
               simp only[hcl,if_true];simp only at hi
               have key:RelCs ρ (Sof S0 ρ st.h) w No el' ((cells.drop (i*ie.sz)).take ie.sz):=by
                 rw[<- hnw]
                 by_cases h1:i<b
                 · rw[List.append_assoc,List.getElem?_append_left (by rw[List.length_take];omega),List.getElem?_take,if_pos h1] at hi
                   have hle2:(i+1)*ie.sz<=b*ie.sz:=Nat.mul_le_mul_right _ h1;rw[Nat.add_mul] at hle2;rw[List.append_assoc,List.drop_append_of_le_length (by rw[List.length_take,Array.length_toList];omega),List.take_append_of_le_length (by rw[List.length_drop,List.length_take,Array.length_toList];omega),List.drop_take,List.take_take,Nat.min_eq_left (by omega)]
                   have:=k3 i el' hi;rw[if_pos hcl] at this;exact this
                 · by_cases h2:i<b+m
                   · rw[List.append_assoc,List.getElem?_append_right (by rw[List.length_take];omega),List.getElem?_append_left (by rw[List.length_take,List.length_take];omega),List.length_take,Nat.min_eq_left (by omega),List.getElem?_take,if_pos (by omega)] at hi
                     have hle2:(i-b+1)*ie.sz<=m*ie.sz:=Nat.mul_le_mul_right _ (by omega);rw[Nat.add_mul] at hle2;have hge:b*ie.sz<=i*ie.sz:=Nat.mul_le_mul_right _ (by omega);have hd:i*ie.sz-b*ie.sz=(i-b)*ie.sz:=by rw[Nat.sub_mul]
                     rw[List.append_assoc,List.drop_append,List.drop_of_length_le (by rw[List.length_take,Array.length_toList];omega),List.nil_append,List.length_take,Array.length_toList,Nat.min_eq_left (by omega),hd,
                       List.drop_append_of_le_length (by rw[htl];omega),List.take_append_of_le_length (by rw[List.length_drop,htl];omega),List.drop_take,List.take_take,Nat.min_eq_left (by omega)]
                     exact n4 (i-b) el' hi
                   · rw[List.getElem?_append_right (by simp only[List.length_append,List.length_take];omega)] at hi
                     simp only[List.length_append,List.length_take,List.getElem?_drop] at hi;have hidx:b+m+(i-(min b blk.elems.length+min m ys.length))=i:=by omega
                     rw[hidx] at hi;have hge:(b+m)*ie.sz<=i*ie.sz:=Nat.mul_le_mul_right _ (by omega);rw[Nat.add_mul] at hge;rw[List.drop_append,List.drop_of_length_le (by simp only[List.length_append,List.length_take,Array.length_toList,n2];omega),List.nil_append,List.length_append,htl,List.length_take,Array.length_toList,Nat.min_eq_left (by omega),List.drop_drop]
                     have:=k3 i el' hi;rw[if_pos hcl] at this;rw[show b*ie.sz+m*ie.sz+(i*ie.sz-(b*ie.sz+m*ie.sz))=i*ie.sz from by omega];exact this
               rw[hbe];exact key.keep _ (fun _ h=>h) ⟨hk.size,fun l h=>h.elim,hk.cells⟩
           · cases he
         · cases he
       · cases he
     · cases he
   · cases he
 · cases he
theorem fU {k:IntKind} {i:Int} {y:Nat} {code:BoundsCode} (h0:0<=i) (h1:i<=y):(Instr.sliceBound (.int k i) y code).run P w= .ok i.toNat w:=by
 simp[Instr.sliceBound,asIntOf,h0,h1]
theorem pS {isSlice:Bool} {n cap:Nat} (hnc:n<=cap) {lo hi mx:Option AV} {vlo vhi vmx:Option Value} {S:Nat->Prop}
   (hlo:∀ V,lo=some V->∃ v,vlo=some v/\RelV ρ S w D V v) (hlo':lo=none->vlo=none)
   (hhi:∀ V,hi=some V->∃ v,vhi=some v/\RelV ρ S w D V v) (hhi':hi=none->vhi=none)
   (hmx:∀ V,mx=some V->∃ v,vmx=some v/\RelV ρ S w D V v) (hmx':mx=none->vmx=none)
   {l h:Nat} {ob:List Prop} (he:vD n lo hi mx=some (l,h,ob)) (ho:AllP ob):
   l<=h/\h<=n/\∃ m,h<=m/\m<=cap/\(Instr.sliceBounds isSlice n cap vlo vhi vmx).run P w= .ok (l,h,m) w:=by
 unfold vD at he
 split at he
 · injection he with he;simp only[Prod.mk.injEq] at he
   obtain⟨rfl,rfl,rfl⟩:=he;rw[hlo' rfl,hhi' rfl,hmx' rfl];refine⟨by simp,by simp,cap,by simpa using hnc,Nat.le_refl _, ?_⟩;simp[Instr.sliceBounds]
 · rename_i k lv
   injection he with he;simp only[Prod.mk.injEq] at he;obtain⟨rfl,rfl,rfl⟩:=he;have c1:0<=lv:=ho _ (by simp);have c2:lv<=n:=ho _ (by simp);obtain⟨v,hv,hr⟩:=hlo _ rfl;rw[hv,hr.int_inv,hhi' rfl,hmx' rfl];refine⟨by simp;omega,by simp,cap,by simpa using hnc,Nat.le_refl _, ?_⟩;simp[Instr.sliceBounds,fU c1 c2]
 · rename_i k hv'
   injection he with he;simp only[Prod.mk.injEq] at he;obtain⟨rfl,rfl,rfl⟩:=he;have c1:0<=hv':=ho _ (by simp);have c2:hv'<=n:=ho _ (by simp);obtain⟨v,hv,hr⟩:=hhi _ rfl;rw[hlo' rfl,hv,hr.int_inv,hmx' rfl];refine⟨by simp,by omega,cap,by omega,Nat.le_refl _, ?_⟩;have c3:hv'<=(cap:Int):=by omega
   simp[Instr.sliceBounds,fU c1 c3]
 · rename_i k lv k2 hv'
   injection he with he;simp only[Prod.mk.injEq] at he;obtain⟨rfl,rfl,rfl⟩:=he;have c1:0<=hv':=ho _ (by simp);have c2:hv'<=n:=ho _ (by simp);have c3:0<=lv:=ho _ (by simp);have c4:lv<=hv':=ho _ (by simp);obtain⟨v,hv,hr⟩:=hhi _ rfl;obtain⟨u,hu,hr2⟩:=hlo _ rfl;rw[hu,hr2.int_inv,hv,hr.int_inv,hmx' rfl];refine⟨by omega,by omega,cap,by omega,Nat.le_refl _, ?_⟩;have c5:hv'<=(cap:Int):=by omega
   have c6:lv<=((hv'.toNat:Nat):Int):=by omega
   simp[Instr.sliceBounds,fU c1 c5,fU c3 c6]
 · rename_i k hv' k2 mv
   injection he with he;simp only[Prod.mk.injEq] at he;obtain⟨rfl,rfl,rfl⟩:=he;have c1:0<=mv:=ho _ (by simp);have c2:mv<=n:=ho _ (by simp);have c3:0<=hv':=ho _ (by simp);have c4:hv'<=mv:=ho _ (by simp);obtain⟨v,hv,hr⟩:=hhi _ rfl;obtain⟨u,hu,hr2⟩:=hmx _ rfl;rw[hlo' rfl,hv,hr.int_inv,hu,hr2.int_inv];refine⟨by omega,by omega,mv.toNat,by omega,by omega, ?_⟩;have c5:mv<=(cap:Int):=by omega
   have c6:hv'<=((mv.toNat:Nat):Int):=by omega
   simp[Instr.sliceBounds,fU c1 c5,fU c3 c6]
 · rename_i k lv k2 hv' k3 mv
   injection he with he;simp only[Prod.mk.injEq] at he;obtain⟨rfl,rfl,rfl⟩:=he;have c1:0<=mv:=ho _ (by simp);have c2:mv<=n:=ho _ (by simp);have c3:0<=hv':=ho _ (by simp);have c4:hv'<=mv:=ho _ (by simp);have c7:0<=lv:=ho _ (by simp);have c8:lv<=hv':=ho _ (by simp);obtain⟨v,hv,hr⟩:=hhi _ rfl;obtain⟨u,hu,hr2⟩:=hmx _ rfl;obtain⟨t,ht,hr3⟩:=hlo _ rfl;rw[ht,hr3.int_inv,hv,hr.int_inv,hu,hr2.int_inv];refine⟨by omega,by omega,mv.toNat,by omega,by omega, ?_⟩;have c5:mv<=(cap:Int):=by omega
   have c6:hv'<=((mv.toNat:Nat):Int):=by omega
   have c9:lv<=((hv'.toNat:Nat):Int):=by omega
   simp[Instr.sliceBounds,fU c1 c5,fU c3 c6,fU c7 c9]
 · cases he
theorem zR {x:Operand} {lo hi mx:Option Operand} {X:AV} {L H M:Option AV} {σ:List AV}
   (he:vE ((#[x]++lo.toArray++hi.toArray++mx.toArray).toList.map (bI σ)) lo.isSome hi.isSome mx.isSome=some (X,L,H,M)):
   X=bI σ x/\L=lo.map (bI σ)/\H=hi.map (bI σ)/\M=mx.map (bI σ):=by
 cases lo <;> cases hi <;> cases mx <;> simp[vE] at he <;> (obtain⟨rfl,rfl,rfl,rfl⟩:=he;exact⟨rfl,rfl,rfl,rfl⟩)
theorem Fj (hT:lT P T) (R:Rel S0 C0 w0 ρ D st a w) (hop:o.op= .slice t x lo hi mx)
   (he:fK T K (.slice t x lo hi mx) ((#[x]++lo.toArray++hi.toArray++mx.toArray).toList.map (bI st.σ)) vw nid=some out) (ho:AllP out.ob):jV P S0 C0 w0 ρ D st a w Q o nid out:=by
 have hx:=R.eval x
 have opt:∀ (p:Option Operand),(∀ V,p.map (bI st.σ)=some V->∃ v,p.map a.eval=some v/\RelV ρ (Sof S0 ρ st.h) w D V v)/\(p.map (bI st.σ)=none->p.map a.eval=none):=by
   intro p;cases p with
   | none=>exact⟨fun V h=>(by cases h),fun _=>rfl⟩
   | some y=>exact⟨fun V h=>(by injection h with h;subst h;exact⟨_,rfl,R.eval y⟩),fun h=>(by cases h)⟩
 simp only[fK] at he
 split at he
 · rename_i i X L H M hti hb
   obtain⟨rfl,rfl,rfl,rfl⟩:=zR hb
   split at he
   · -- a string
     rename_i s hk hs
     split at he
     · rename_i l h ob hbd
       split at he
       · cases he
       · rename_i hmx
         injection he with he;subst he;rw[hs] at hx;obtain⟨d,hd,hkd⟩:=(hT _ _ hti).under;rw[hk] at hkd;have:d= .string:=by cases d <;> first | exact hkd.elim | rfl
         subst this;have hmn:mx=none:=by cases mx <;> first | rfl | simp at hmx
         subst hmn;obtain⟨b1,b2,m,b3,b4,hr⟩:=pS (P:=P) (w:=w) (isSlice:=false) (Nat.le_refl s.size) (opt lo).1 (opt lo).2 (opt hi).1 (opt hi).2 (opt none).1 (opt none).2 hbd ho;refine bL R (v:=.string (s.extract l h)) ?_ .mk_str;rw[execOp,hop];simp only[Option.map_none] at hr;simp[Instr.sliceAt,Instr.slice,run_underlying hd,hx.str_inv,hr]
     · cases he
   · rename_i el e xs hk hs
     split at he
     · rename_i ie l h ob hie hbd
       split at he
       · rename_i hsz
         injection he with he;subst he;have hte:=hT _ _ hie;have hu:=eR (hT _ _ hti) hk;rw[hs] at hx;obtain⟨A,cap,f,hv,g1,g2,g3,g4,g5⟩:=kC hx;obtain⟨b1,b2,m,b3,b4,hr⟩:=pS (P:=P) (w:=w) (isSlice:=true) g1 (opt lo).1 (opt lo).2 (opt hi).1 (opt hi).2 (opt mx).1 (opt mx).2 hbd ho;have hlen:((xs.take h).drop l).length=h-l:=by rw[List.length_drop,List.length_take];omega
         refine bL R (v:=.slice (if m=l then A else A.map (·.add (l*ie.sz))) (h-l) (m-l)) ?_ ?_
         · rw[execOp,hop]
           simp[Instr.sliceAt,Instr.slice,run_underlying hu,hv,hr,hte.size_run]
         · rw[<- hlen]
           refine bA (.list (fun i=>f (l+i)) (by rw[hlen];omega) (by omega) (fun i hi=>g3 _ (by rw[hlen] at hi;omega)) (fun i el' hel=> ?_) (fun hp=> ?_) .done)
           · refine g4 (l+i) el' ?_
             rw[List.getElem?_drop,List.getElem?_take] at hel
             split at hel
             · exact hel
             · cases hel
           · rw[hlen] at hp
             obtain⟨ad,rfl,k1,k2,k3⟩:=g5 (by omega);rw[if_neg (by omega)];refine⟨ad.add (l*ie.sz),rfl,by rw[jU];exact k1,by rw[jU];exact k2,fun i hi=> ?_⟩;rw[hlen] at hi
             have:=k3 (l+i) (by omega);rw[sF,hsz, <- Nat.add_mul];exact this
       · cases he
     · cases he
   · rename_i el k e b n hk hs
     split at he
     · rename_i ie l h ob hie hbd
       split at he
       · rename_i hsz
         injection he with he;subst he;have hte:=hT _ _ hie;have hu:=eR (hT _ _ hti) hk;rw[hs] at hx;obtain⟨A,cap,hv,hDl,g1,g2,g3⟩:=lY hx;obtain⟨b1,b2,m,b3,b4,hr⟩:=pS (P:=P) (w:=w) (isSlice:=true) g1 (opt lo).1 (opt lo).2 (opt hi).1 (opt hi).2 (opt mx).1 (opt mx).2 hbd ho;refine bL R (v:=.slice (if m=l then A else A.map (·.add (l*ie.sz))) (h-l) (m-l)) ?_ ?_
         · rw[execOp,hop]
           simp[Instr.sliceAt,Instr.slice,run_underlying hu,hv,hr,hte.size_run]
         · refine bA (.own hDl (by omega) (by omega) (fun hp=> ?_) .done)
           obtain⟨rfl,arr,ty,k1,k2⟩:=g3 (by omega);rw[if_neg (by omega)];refine⟨by simp[mY,hsz,Nat.add_mul],arr,ty,k1,Nat.le_trans (Nat.mul_le_mul_right _ (by omega)) k2⟩
       · cases he
     · cases he
   · cases he
 · cases he
theorem Fk (hT:lT P T) (R:Rel S0 C0 w0 ρ D st a w) (hop:o.op= .index t x y)
   (he:fK T K (.index t x y) [bI st.σ x,bI st.σ y] vw nid=some out) (ho:AllP out.ob):jV P S0 C0 w0 ρ D st a w Q o nid out:=by
 have hx:=R.eval x;have hy:=R.eval y;simp only[fK] at he
 split at he
 · rename_i i hi
   split at he
   · rename_i s k j hk hargs
     injection hargs with h1 h2;injection h2 with h2 _;injection he with he;subst he;have c1:0<=j:=ho _ (by simp);have c2:j<s.size:=ho _ (by simp);rw[h1] at hx;rw[h2] at hy;obtain⟨d,hd,hkd⟩:=(hT _ _ hi).under;rw[hk] at hkd;have:d= .string:=by cases d <;> first | exact hkd.elim | rfl
     subst this;have hlt:j.toNat<s.size:=by omega
     have hlt2:j.toNat<s.data.toList.length:=by rw[Array.length_toList];exact hlt
     refine bL R (v:=.int .u8 (((s.data.toList.getD j.toNat 0).toNat:Nat):Int)) ?_ .mk_int;rw[execOp,hop]
     have hb:s[j.toNat]? =some (s.data.toList.getD j.toNat 0):=by
       rw[List.getD_eq_getElem?_getD,List.getElem?_eq_getElem hlt2];simp[hlt];rfl
     simp[Instr.index,hx.str_inv,hy.int_inv,asIntOf,run_underlying hd,c1,hb]
   · cases he
 · cases he
end
section
variable {S0 C0:Nat->Prop} {w0:World}
theorem qQ (hB:RelB ρ S w D l b) (hc:(b.closed||b.elems.all (·.all noRef))=true) (hS:∀ k,S' k->S k) (hl:¬ S' (ρ l))
   (ho:AllP (xY l b V)) (h:RelV ρ S w D V v):RelV ρ S' w D (AR l b V) v:=by
 have hk:∀ D',Keep ρ S w D' ρ S' w:=fun D'=>⟨Nat.le_refl _,fun _ _=>⟨rfl,fun arr ty h=>⟨arr,ty,h,Nat.le_refl _⟩⟩,fun k _ hs=>⟨fun h=>hs (hS k h),rfl⟩⟩
 obtain⟨arr,h1,h2,h3⟩:=hB
 have hel:∀ i el,b.elems[i]? =some el->RelCs ρ S' w No el ((arr.toList.drop (i*b.e)).take b.e):=by
   intro i el hel;have h4:=h3 i el hel;cases hcl:b.closed with
   | true=>rw[hcl] at h4;exact h4.keep _ (fun _ h=>h) (hk _)
   | false=>
     rw[hcl] at h4 hc;simp only[Bool.false_or] at hc;exact(h4.noRef (List.all_eq_true.1 hc el (List.mem_of_getElem? hel)) ρ).keep _ (fun _ h=>h) (hk _)
 have hlen:∀ i,i<b.elems.length->((arr.toList.drop (i*b.e)).take b.e).length=b.e:=by
   intro i hi;have hle:(i+1)*b.e<=arr.size:=Nat.le_trans (Nat.mul_le_mul_right _ hi) h2;rw[Nat.add_mul] at hle;rw[List.length_take,List.length_drop,Array.length_toList];omega
 have base:RelV ρ S' w D V v:=h.keep (fun _ h=>h) (hk D);cases V
 case own k e m n=>
   simp only[AR]
   split
   · rename_i hcond
     obtain⟨rfl,rfl⟩:=hcond;have hmn:m+n<=b.elems.length:=ho _ (by simp[xY]);have h':RelCs ρ S w D [.own k b.e m n] [v]:=h;cases h' with
     | @own _ _ _ _ _ A cap _ _ hD g1 g2 g3 _=>
       have hn:((b.elems.drop m).take n).length=n:=by rw[List.length_take,List.length_drop];omega
       have key:RelCs ρ S' w D [.list b.e ((b.elems.drop m).take n)] [.slice A ((b.elems.drop m).take n).length cap]:=by
         refine .list (fun i=>(arr.toList.drop ((m+i)*b.e)).take b.e) (by rw[hn];exact g1) g2 (fun i hi=>hlen _ (by rw[hn] at hi;omega)) (fun i el he=> ?_) (fun hp=> ?_) .done
         · rw[List.getElem?_take] at he
           split at he
           · rw[List.getElem?_drop] at he
             exact hel _ _ he
           · cases he
         · rw[hn] at hp
           obtain⟨hA,_⟩:=g3 (by omega);refine⟨_,hA,bN h1,hl,fun i hi=> ?_⟩;have hs:=Seg.of_row h1 ((m+i)*b.e) b.e
           have ha:(⟨ρ k,m*b.e,none⟩:Addr).add (i*b.e)=⟨ρ k,(m+i)*b.e,none⟩:=by
             unfold Addr.add
             split
             · rename_i e;rw[Nat.add_mul,e,Nat.add_zero]
             · simp only[Nat.add_mul]
           rw[ha];exact hs
       rw[hn] at key;exact key
   · exact base
 case ptr k e i o=>
   simp only[AR]
   split
   · rename_i hcond
     obtain⟨rfl,rfl⟩:=hcond;have hi:i<b.elems.length:=ho _ (by simp[xY]);have h':RelCs ρ S w D [.ptr k b.e i o] [v]:=h;cases h' with
     | ptr hD _=>
       have he:b.elems[i]? =some (b.elems.getD i []):=by simp[List.getD_eq_getElem?_getD,hi]
       have hs:=Seg.of_row h1 (i*b.e) b.e;have ha:(⟨ρ k,i*b.e+o,none⟩:Addr)=(⟨ρ k,i*b.e,none⟩:Addr).add o:=by unfold Addr.add;split <;> simp_all
       have key:RelCs ρ S' w D [.cptr (b.elems.getD i []) o] [.pointer (some ((⟨ρ k,i*b.e,none⟩:Addr).add o))]:=.cptr (hel i _ he) (bN h1) hl hs .done;rw[<- ha] at key;exact key
   · exact base
 all_goals exact base
theorem Rel.freeze (R:Rel S0 C0 w0 ρ D ⟨σ,h⟩ a w) (hl:h[l]? =some (some b)):
   Rel S0 C0 w0 ρ D ⟨σ,h.set l none⟩ a w/\¬ Sof S0 ρ (h.set l none) (ρ l)/\∀ k,Sof S0 ρ (h.set l none) k->Sof S0 ρ h k:=by
 have hset:∀ i c,(h.set l none)[i]? =some (some c)->i≠l/\h[i]? =some (some c):=by
   intro i c hc;rw[List.getElem?_set] at hc
   split at hc
   · split at hc <;> cases hc
   · rename_i e;exact⟨fun h=>e h.symm,hc⟩
 have hS:∀ k,Sof S0 ρ (h.set l none) k->Sof S0 ρ h k:=by
   rintro k (h | ⟨i,c,hc,e⟩)
   · exact .inl h
   · exact .inr ⟨i,c,(hset i c hc).2,e⟩
 have hnl:¬ Sof S0 ρ (h.set l none) (ρ l):=by
   rintro(h | ⟨i,c,hc,e⟩)
   · exact(R.mine l b hl).2.1 h
   · obtain⟨hi,hc⟩:=hset i c hc
     exact hi (R.inj i l c b hc hl e)
 have hk:∀ D',Keep ρ (Sof S0 ρ h) w D' ρ (Sof S0 ρ (h.set l none)) w:=fun D'=>⟨Nat.le_refl _,fun _ _=>⟨rfl,fun arr ty h=>⟨arr,ty,h,Nat.le_refl _⟩⟩,fun k _ hs=>⟨fun h=>hs (hS k h),rfl⟩⟩
 refine⟨{
   defers:=R.defers
   len:=R.len
   tmps:=fun t v hv=>(R.tmps t v hv).keep (fun _ h=>h) (hk D)
   heap:=fun i c hc=>by
     obtain⟨hi,hc⟩:=hset i c hc;exact⟨(R.heap i c hc).1,(R.heap i c hc).2.keep (fun _ h=>h) (hk D) rfl rfl⟩
   inj:=fun i j c d hc hd e=>R.inj i j c d (hset i c hc).2 (hset j d hd).2 e
   lt:=R.lt
   dlt:=fun i hi=>by simpa using R.dlt i hi
   chg:=R.chg
   mine:=fun i c hc=>R.mine i c (hset i c hc).2 },hnl,hS⟩
end
section
variable {P:Program} {S0 C0:Nat->Prop} {w0:World} {ρ:Nat->Nat} {D:Nat->Prop} {st:St} {a:Act} {w:World} {Q:Exit->Act->World->Prop} {o:Oper} {nid:Nat} {K:KT}
def AS (h:List (Option ABlk)) (ol:Option Nat) (x:Option ABlk) (nid:Nat) (y:Option ABlk):List (Option ABlk):=
 match ol with
 | some l=>(h.set l x).set nid y
 | none=>h.set nid y
theorem Co:(AS h ol x nid y).length=h.length:=by cases ol <;> simp[AS]
theorem lZ (hc:(AS h ol x nid y)[i]? =some (some c)):
   (i=nid/\y=some c)\/(i≠nid/\ol=some i/\x=some c)\/(i≠nid/\ol≠some i/\h[i]? =some (some c)):=by
 cases ol with
 | none=>
   simp only[AS] at hc;rw[List.getElem?_set] at hc
   split at hc
   · rename_i e;split at hc
     · injection hc with hc;exact .inl ⟨e.symm,hc⟩
     · cases hc
   · rename_i e;exact .inr (.inr ⟨fun h=>e h.symm,by simp,hc⟩)
 | some l=>
   simp only[AS] at hc;rw[List.getElem?_set] at hc
   split at hc
   · rename_i e;split at hc
     · injection hc with hc;exact .inl ⟨e.symm,hc⟩
     · cases hc
   · rename_i e
     rw[List.getElem?_set] at hc
     split at hc
     · rename_i e2;split at hc
       · injection hc with hc;exact .inr (.inl ⟨fun h=>e h.symm,by rw[e2],hc⟩)
       · cases hc
     · rename_i e2;exact .inr (.inr ⟨fun h=>e h.symm,fun h=>e2 (by injection h),hc⟩)
theorem Rel.wr (R:Rel S0 C0 w0 ρ D st a w) (hn:st.h[nid]? =some none) (hD:¬ D nid)
   (hl:∀ l,ol=some l->∃ b,st.h[l]? =some (some b)/\∀ c,x=some c->c.pin=b.pin) (hy:∀ c,y=some c->w.heap.size<=k/\c.pin=none)
   (hchg:Chg (fun k=>∃ l,ol=some l/\k=ρ l) w w')
   (hv:RelV (bV ρ nid k) (Sof S0 (bV ρ nid k) (AS st.h ol x nid y)) w' (lE D nid) V v)
   (hx:∀ l c,ol=some l->x=some c->RelB (bV ρ nid k) (Sof S0 (bV ρ nid k) (AS st.h ol x nid y)) w' (lE D nid) l c)
   (hY:∀ c,y=some c->RelB (bV ρ nid k) (Sof S0 (bV ρ nid k) (AS st.h ol x nid y)) w' (lE D nid) nid c):
   Rel S0 C0 w0 (bV ρ nid k) (lE D nid) { σ:=put st.σ dst V,h:=AS st.h ol x nid y } (a.put dst v) w':=by
 have hne:∀ i,D i->i≠nid:=fun i hi e=>hD (e▸hi)
 have hlt:nid<st.h.length:=(List.getElem?_eq_some_iff.1 hn).1
 have hol:∀ l,ol=some l->D l/\Sof S0 ρ st.h (ρ l)/\ρ l<w.heap.size:=by
   intro l h;obtain⟨b,hb,_⟩:=hl l h;have hs:Sof S0 ρ st.h (ρ l):=.inr ⟨l,b,hb,rfl⟩;exact⟨(R.heap l b hb).1,hs,R.Slt hs⟩
 have hk:Keep ρ (Sof S0 ρ st.h) w D (bV ρ nid k) (Sof S0 (bV ρ nid k) (AS st.h ol x nid y)) w':=by
   refine⟨hchg.size,fun i hi=>⟨by simp[bV,hne i hi],fun arr ty h=>hchg.row _ arr ty h⟩,fun j hj hs=>⟨?_,hchg.block j hj ?_⟩⟩
   · rintro(h | ⟨i,c,hc,e⟩)
     · exact hs (.inl h)
     · rcases lZ hc with ⟨rfl,hq⟩ | ⟨hi,ho,hq⟩ | ⟨hi,ho,hq⟩
       · simp[bV] at e;have:=(hy c hq).1;omega
       · simp[bV,hi] at e;exact hs (e▸(hol i ho).2.1)
       · simp[bV,hi] at e;exact hs (.inr ⟨i,c,hq,e⟩)
   · rintro⟨l,ho,rfl⟩;exact hs (hol l ho).2.1
 refine R.step hk (fun i h=>.inl h) hv ?_ ?_ ?_ ?_ ?_
 · intro i c hc
   rcases lZ hc with ⟨rfl,hq⟩ | ⟨hi,ho,hq⟩ | ⟨hi,ho,hq⟩
   · exact⟨.inr rfl,hY c hq⟩
   · exact⟨.inl (hol i ho).1,hx i c ho hq⟩
   · obtain⟨hDi,hB⟩:=R.heap i c hq
     obtain⟨arr,h1,h2⟩:=hB;refine⟨.inl hDi,RelB.keep ⟨arr,h1,h2⟩ (fun _ h=>.inl h) hk (by simp[bV,hi]) (hchg.block _ (bN h1) ?_)⟩;rintro⟨l,hol',e⟩;obtain⟨b,hb,_⟩:=hl l hol';exact ho (by rw[hol',R.inj i l c b hq hb e])
 · intro i j c d hc hd e
   have lo:∀ i c,st.h[i]? =some (some c)->ρ i<w.heap.size:=fun i c h=>R.Slt (.inr ⟨i,c,h,rfl⟩)
   rcases lZ hc with ⟨rfl,hq⟩ | ⟨hi,ho,hq⟩ | ⟨hi,ho,hq⟩ <;> rcases lZ hd with ⟨rfl,hr⟩ | ⟨hj,ho',hr⟩ | ⟨hj,ho',hr⟩
   · rfl
   · simp[bV,hj] at e;have:=(hy c hq).1;have:=(hol j ho').2.2;omega
   · simp[bV,hj] at e;have:=(hy c hq).1;have:=lo j d hr;omega
   · simp[bV,hi] at e;have:=(hy d hr).1;have:=(hol i ho).2.2;omega
   · rw[ho] at ho';injection ho'
   · simp[bV,hi,hj] at e
     obtain⟨b,hb,_⟩:=hl i ho;exact R.inj i j b d hb hr e
   · simp[bV,hi] at e;have:=(hy d hr).1;have:=lo i c hq;omega
   · simp[bV,hi,hj] at e
     obtain⟨b,hb,_⟩:=hl j ho';exact R.inj i j c b hq hb e
   · simp[bV,hi,hj] at e;exact R.inj i j c d hq hr e
 · intro i hi
   rw[Co];rcases hi with hi | rfl
   · exact R.dlt i hi
   · exact hlt
 · refine R.chg.trans hchg ?_
   rintro j hj ⟨l,ho,rfl⟩;obtain⟨b,hb,_⟩:=hl l ho;rcases(R.mine l b hb).1 with h | h
   · exact h
   · omega
 · intro i c hc
   rcases lZ hc with ⟨rfl,hq⟩ | ⟨hi,ho,hq⟩ | ⟨hi,ho,hq⟩
   · obtain⟨h1,h2⟩:=hy c hq
     have hs:=R.chg.size;refine⟨.inr (by simp[bV];omega),fun h=> ?_,fun i hi=>by rw[h2] at hi;cases hi⟩
     have:=R.lt _ h;simp[bV] at this;omega
   · obtain⟨b,hb,hp⟩:=hl i ho
     have:=R.mine i b hb;simp only[bV,if_neg hi];exact⟨this.1,this.2.1,by rw[hp c hq];exact this.2.2⟩
   · simpa[bV,hi] using R.mine i c hq
theorem Fl (R:Rel S0 C0 w0 ρ D st a w) (hn:st.h[nid]? =some none) (hD:¬ D nid)
   (hl:st.h[l]? =some (some b)) (h2e:h2= [x]/\y=none\/∃ c,y=some c/\h2= [x,y])
   (hA:qN P f (aS.map (eH (only l))) [jB (only l) { b with pin:=none }] r h2)
   (hr:(execOp a.eval o).run P w= .ok (.enter f vals.toArray) w) (hv:RelVs ρ (Sof S0 ρ st.h) w D aS vals):
   jV P S0 C0 w0 ρ D st a w Q o nid ⟨eH (back l nid) r,.wr l (x.map fun c=>{ jB (back l nid) c with pin:=b.pin }) (y.map fun c=>{ jB (back l nid) c with pin:=none }),ob⟩:=by
 obtain⟨hDl,hB⟩:=R.heap l b hl;have hmine:=R.mine l b hl;have hsl:Sof S0 ρ st.h (ρ l):=.inr ⟨l,b,hl,rfl⟩;have hlw:=R.Slt hsl;have hlt:l<st.h.length:=(List.getElem?_eq_some_iff.1 hl).1;have hnlt:nid<st.h.length:=(List.getElem?_eq_some_iff.1 hn).1;have hne:l≠nid:=fun e=>hD (e▸hDl)
 unfold jV Oper.wp;rw[hr,Oper.upon_enter]
 let Sc:Nat->Prop:=fun k=>Sof S0 ρ st.h k/\k≠ρ l
 have hSc:Sof Sc (fun _=>ρ l) ([jB (only l) { b with pin:=none }].map some)=Sof S0 ρ st.h:=by
   funext k
   apply propext;constructor
   · rintro(h | ⟨i,c,hc,e⟩)
     · exact h.1
     · exact e▸hsl
   · intro h
     by_cases e:k=ρ l
     · exact .inr ⟨0,_,rfl,e.symm⟩
     · exact .inl ⟨h,e⟩
 have hm:∀ j k,only l k=some j->D k->(fun _=>ρ l) j=ρ k/\j< [jB (only l) { b with pin:=none }].length:=by
   intro j k h hd;simp only[only] at h
   split at h
   · rename_i e;injection h with h;subst h;subst e;exact⟨rfl,by simp⟩
   · cases h
 refine(hA.2.2 Sc w (fun _=>ρ l) vals (fun k hk=>R.Slt hk.1) ?_ ?_ ?_).mono ?_
 · intro i c hc
   match i,hc with
   | 0,hc=>
     injection hc with hc;subst hc;rw[hSc];exact⟨RelB.ren (b:={ b with pin:=none }) hm rfl hB,fun h=>h.2 rfl⟩
 · intro i j hi hj _
   simp at hi hj;omega
 · rw[hSc];exact RelVs.ren hm hv
 · rintro e w' ⟨v,ρ',rfl,hρ,hrel,hblk,hinj,hchg⟩
   have hρ0:ρ' 0=ρ l:=hρ 0 (by simp)
   have hchg':Chg (fun k=>∃ i,some l=some i/\k=ρ i) w w':=by
     have:(fun k=>∃ i,i< [jB (only l) { b with pin:=none }].length/\k=(fun _=>ρ l) i)=fun k=>∃ i,some l=some i/\k=ρ i:=by
       funext k;apply propext
       constructor
       · rintro⟨i,_,e⟩;exact⟨l,rfl,e⟩
       · rintro⟨i,e,h⟩;injection e with e;subst e;exact⟨0,by simp,h⟩
     rw[this] at hchg;exact hchg
   have hgy:∀ c,y=some c->h2= [x,some c]/\w.heap.size<=ρ' 1:=by
     intro c hc;rcases h2e with ⟨_,h⟩ | ⟨c',h,h'⟩
     · rw[h] at hc;cases hc
     · rw[hc] at h'
       refine⟨h', ?_⟩
       have:=(hblk 1 c (by rw[h'];rfl)).2.1;simpa using this
   have hgx:∀ c,x=some c->h2[0]? =some (some c):=by
     intro c hc;rcases h2e with ⟨h,_⟩ | ⟨c',h,h'⟩
     · rw[h,hc];rfl
     · rw[h',hc];rfl
   have hS : Sof Sc ρ' h2=Sof S0 (bV ρ nid (ρ' 1)) (AS st.h (some l) (x.map fun c=>{ jB (back l nid) c with pin:=b.pin }) nid (y.map fun c=>{ jB (back l nid) c with pin:=none })):=by
     funext k
     apply propext;constructor
     · rintro(⟨h | ⟨i,c,hc,e⟩,hk⟩ | ⟨i,c,hc,e⟩)
       · exact .inl h
       · have hi:i≠l:=by rintro rfl;exact hk e.symm
         have hin:i≠nid:=by rintro rfl;rw[hn] at hc;cases hc
         refine .inr ⟨i,c, ?_,by simpa[bV,hin] using e⟩;simp only[AS];rw[List.getElem?_set_ne (Ne.symm hin),List.getElem?_set_ne (Ne.symm hi)];exact hc
       · rcases h2e with ⟨h,hy⟩ | ⟨c',hy,h⟩
         · rw[h] at hc
           match i,hc with
           | 0,hc=>
             simp at hc;refine .inr ⟨l,{ jB (back l nid) c with pin:=b.pin }, ?_,by simp[bV,hne, <- hρ0,e]⟩;simp only[AS,hc];rw[List.getElem?_set_ne (Ne.symm hne),List.getElem?_set_self hlt];rfl
         · rw[h] at hc
           match i,hc with
           | 0,hc=>
             simp at hc;refine .inr ⟨l,{ jB (back l nid) c with pin:=b.pin }, ?_,by simp[bV,hne, <- hρ0,e]⟩;simp only[AS,hc];rw[List.getElem?_set_ne (Ne.symm hne),List.getElem?_set_self hlt];rfl
           | 1,hc=>
             simp at hc;refine .inr ⟨nid,{ jB (back l nid) c with pin:=none }, ?_,by simp[bV,e]⟩;simp only[AS,hc];rw[List.getElem?_set_self (by simpa using hnlt)];rfl
     · rintro(h | ⟨i,c,hc,e⟩)
       · exact .inl ⟨.inl h,fun e=>hmine.2.1 (e▸h)⟩
       · rcases lZ hc with ⟨rfl,hq⟩ | ⟨hi,ho,hq⟩ | ⟨hi,ho,hq⟩
         · obtain⟨c',hc',_⟩:=Option.map_eq_some_iff.1 hq
           obtain⟨h,_⟩:=hgy c' hc';exact .inr ⟨1,c',by rw[h];rfl,by simpa[bV] using e⟩
         · injection ho with ho;subst ho
           obtain⟨c',hc',_⟩:=Option.map_eq_some_iff.1 hq;exact .inr ⟨0,c',hgx c' hc',by rw[hρ0];simpa[bV,hi] using e⟩
         · simp[bV,hi] at e
           refine .inl ⟨.inr ⟨i,c,hq,e⟩,fun h=>ho ?_⟩;rw[R.inj i l c b hq hl (e.trans h)]
   have hmb:∀ j k,back l nid k=some j->(· <h2.length) k->bV ρ nid (ρ' 1) j=ρ' k/\lE D nid j:=by
     intro j k h hk
     match k,h with
     | 0,h=>
       injection h with h;subst h;exact⟨by simp[bV,hne,hρ0],.inl hDl⟩
     | 1,h=>
       injection h with h;subst h;exact⟨by simp[bV],.inr rfl⟩
   refine⟨v,bV ρ nid (ρ' 1),lE D nid,rfl,fun V' hV=> ?_,fun i h=>h.imp id fun e=>⟨e,rfl⟩⟩;have hm1:eH (back l nid) r=eH (back l nid) r:=rfl;refine R.wr (ol:=some l) (x:=x.map fun c=>{ jB (back l nid) c with pin:=b.pin }) (y:=y.map fun c=>{ jB (back l nid) c with pin:=none }) (k:=ρ' 1) hn hD ?_ ?_ hchg' ?_ ?_ ?_
   · intro i hi
     injection hi with hi;subst hi;refine⟨b,hl,fun c hc=> ?_⟩;obtain⟨c',_,rfl⟩:=Option.map_eq_some_iff.1 hc;rfl
   · intro c hc
     obtain⟨c',hc',rfl⟩:=Option.map_eq_some_iff.1 hc;exact⟨(hgy c' hc').2,rfl⟩
   · rw[<- hS]
     refine hV _ _ _ _ _ ?_;exact RelV.ren hmb hrel
   · intro i c hi hc
     injection hi with hi;subst hi;obtain⟨c',hc',rfl⟩:=Option.map_eq_some_iff.1 hc;rw[<- hS];exact RelB.ren hmb (l:=0) (by simp[bV,hne,hρ0]) (hblk 0 c' (hgx c' hc')).1
   · intro c hc
     obtain⟨c',hc',rfl⟩:=Option.map_eq_some_iff.1 hc;rw[<- hS];exact RelB.ren hmb (l:=1) (by simp[bV]) (hblk 1 c' (by rw[(hgy c' hc').1];rfl)).1
theorem Lo (R:Rel S0 C0 w0 ρ D st a w) (hn:st.h[nid]? =some none) (hD:¬ D nid)
   (hA:qN P f aS [] r [some y]) (hr:(execOp a.eval o).run P w= .ok (.enter f vals.toArray) w) (hv:RelVs ρ0 (Sof S0 ρ st.h) w No aS vals):
   jV P S0 C0 w0 ρ D st a w Q o nid ⟨eH (mO.only' nid) r,.new { jB (mO.only' nid) y with pin:=none },ob⟩:=by
 have hnlt:nid<st.h.length:=(List.getElem?_eq_some_iff.1 hn).1;unfold jV Oper.wp;rw[hr,Oper.upon_enter]
 have hS0:Sof (Sof S0 ρ st.h) ρ0 (([]:List ABlk).map some)=Sof S0 ρ st.h:=by
   funext k;apply propext;unfold Sof;simp
 refine(hA.2.2 (Sof S0 ρ st.h) w ρ0 vals (fun k hk=>R.Slt hk) (fun l b h=>by simp at h) (fun l l' h=>by simp at h) ?_).mono ?_
 · rw[hS0];exact hv.keep (fun _ h=>h.elim) ⟨Nat.le_refl _,fun l h=>h.elim,fun k _ hs=>⟨hs,rfl⟩⟩
 · rintro e w' ⟨v,ρ',rfl,hρ,hrel,hblk,hinj,hchg⟩
   have hchg':Chg (fun k=>∃ i,(none:Option Nat)=some i/\k=ρ i) w w':=by
     have:(fun k=>∃ i,i<([]:List ABlk).length/\k=ρ0 i)=fun k=>∃ i,(none:Option Nat)=some i/\k=ρ i:=by
       funext k;apply propext
       constructor
       · rintro⟨i,h,e⟩;simp at h
       · rintro⟨i,h,e⟩;cases h
     rw[this] at hchg;exact hchg
   have hk0:w.heap.size<=ρ' 0:=by
     have:=(hblk 0 y rfl).2.1;simpa using this
   have hS :Sof (Sof S0 ρ st.h) ρ' [some y]=Sof S0 (bV ρ nid (ρ' 0)) (AS st.h none none nid (some { jB (mO.only' nid) y with pin:=none })):=by
     funext k
     apply propext;constructor
     · rintro((h | ⟨i,c,hc,e⟩) | ⟨i,c,hc,e⟩)
       · exact .inl h
       · have hin:i≠nid:=by rintro rfl;rw[hn] at hc;cases hc
         refine .inr ⟨i,c, ?_,by simpa[bV,hin] using e⟩;simp only[AS];rw[List.getElem?_set_ne (Ne.symm hin)];exact hc
       · match i,hc with
         | 0,hc=>
           refine .inr ⟨nid,{ jB (mO.only' nid) y with pin:=none }, ?_,by simp[bV,e]⟩;simp only[AS];rw[List.getElem?_set_self hnlt]
     · rintro(h | ⟨i,c,hc,e⟩)
       · exact .inl (.inl h)
       · rcases lZ hc with ⟨rfl,hq⟩ | ⟨hi,ho,hq⟩ | ⟨hi,ho,hq⟩
         · exact .inr ⟨0,y,rfl,by simpa[bV] using e⟩
         · cases ho
         · simp[bV,hi] at e
           exact .inl (.inr ⟨i,c,hq,e⟩)
   have hmb:∀ j k,mO.only' nid k=some j->(· < [some y].length) k->bV ρ nid (ρ' 0) j=ρ' k/\lE D nid j:=by
     intro j k h hk;simp only[mO.only'] at h
     split at h
     · rename_i e;injection h with h;subst h;subst e;exact⟨by simp[bV],.inr rfl⟩
     · cases h
   refine⟨v,bV ρ nid (ρ' 0),lE D nid,rfl,fun V' hV=> ?_,fun i h=>h.imp id fun e=>⟨e,rfl⟩⟩;refine R.wr (ol:=none) (x:=none) (y:=some { jB (mO.only' nid) y with pin:=none }) (k:=ρ' 0) hn hD ?_ ?_ hchg' ?_ ?_ ?_
   · intro i hi;cases hi
   · intro c hc
     injection hc with hc;subst hc;exact⟨hk0,rfl⟩
   · rw[<- hS]
     refine hV _ _ _ _ _ ?_;exact RelV.ren hmb hrel
   · intro i c hi hc;cases hi
   · intro c hc
     injection hc with hc;subst hc;rw[<- hS];exact RelB.ren hmb (l:=0) (by simp[bV]) (hblk 0 y rfl).1
theorem ID (R:Rel S0 C0 w0 ρ D st a w) (hn:st.h[nid]? =some none) (hD:¬ D nid) (hl:st.h[l]? =some (some b))
   (hc:(b.closed||b.elems.all (·.all noRef))=true) (hnr:(aS.map (AR l b)).all eC=true) (ho:AllP (lV l b aS)) (hA:qL P f (aS.map (AR l b)) r)
   (hr:(execOp a.eval o).run P w= .ok (.enter f vals.toArray) w) (hv:RelVs ρ (Sof S0 ρ st.h) w D aS vals):jV P S0 C0 w0 ρ D st a w Q o nid ⟨r,.wr l none none,ob⟩:=by
 obtain⟨R',hnl,hS⟩:=R.freeze hl;have hne:l≠nid:=by rintro rfl;rw[hn] at hl;cases hl
 have hB:=(R.heap l b hl).2
 have hv':RelVs ρ0 (Sof S0 ρ (st.h.set l none)) w No (aS.map (AR l b)) vals:=by
   clear hA hr
   induction aS generalizing vals with
   | nil=>cases vals <;> first | trivial | exact hv.elim
   | cons c aS ih=>
     cases vals with
     | nil=>exact hv.elim
     | cons u vals=>
       simp only[List.map_cons,List.all_cons,Bool.and_eq_true] at hnr;obtain⟨o1,o2⟩:=AllP.app ho;exact⟨RelV0.noRef (qQ hB hc hS hnl o1 (RelV.of0 hv.1)) hnr.1 ρ0,ih hnr.2 o2 hv.2⟩
 have hd:=vJ (Q:=Q) (o:=o) (nid:=nid) (ob:=ob) R' hA hr hv';unfold jV at hd ⊢;refine Oper.wp_mono ?_ hd;rintro a' w' ⟨v,ρ',D',rfl,h1,h2⟩;refine⟨v,ρ',D',rfl,fun V' hV=> ?_,fun i hi=>(h2 i hi).imp id fun e=>⟨e.1,rfl⟩⟩
 have e:gM (.wr l none none) nid st.h=st.h.set l none:=by
   simp only[gM];apply List.ext_getElem?;intro i
   by_cases hi:nid=i
   · subst hi
     rw[List.getElem?_set_self (by simpa using (List.getElem?_eq_some_iff.1 hn).1),List.getElem?_set_ne hne,hn]
   · rw[List.getElem?_set_ne hi]
 have:=h1 V' hV;simp only[e];exact this
theorem Ee (hK:KOK P K) (R:Rel S0 C0 w0 ρ D st a w) (hn:st.h[nid]? =some none) (hD:¬ D nid)
   (hvw:∀ l b,vC aS vw=some (l,b)->st.h[l]? =some (some b)) (he:mO K f aS vw nid=some out) (ho:AllP out.ob)
   (hr:oJ P f->(execOp a.eval o).run P w= .ok (.enter f vals.toArray) w) (hvf:aS.all cQ=true->RelVs ρ (Sof S0 ρ st.h) w D aS vals):jV P S0 C0 w0 ρ D st a w Q o nid out:=by
 unfold mO at he
 split at he
 · rename_i ht
   have hv:=hvf ht;clear hvf
   split at he
   · rename_i l b hone
     have hl:=hvw l b hone
     split at he
     · rename_i r x ob hk
       injection he with he;subst he;have hA:=hK.h _ _ _ _ _ _ hk ho;exact Fl R hn hD hl (y:=none) (.inl ⟨rfl,rfl⟩) hA (hr hA.1) hv
     · rename_i r x y ob hk
       injection he with he;subst he;have hA:=hK.h _ _ _ _ _ _ hk ho;exact Fl R hn hD hl (y:=some y) (.inr ⟨y,rfl,rfl⟩) hA (hr hA.1) hv
     · split at he
       · rename_i hc
         rw[Bool.and_eq_true] at hc
         split at he
         · rename_i r ob hk
           injection he with he;subst he;obtain⟨o1,o2⟩:=AllP.app ho;have hA:=hK.s _ _ _ _ hk o2;exact ID R hn hD hl hc.1 hc.2 o1 hA (hr hA.1) hv
         · cases he
       · cases he
   · rename_i hone
     split at he
     · rename_i hnr
       split at he
       · rename_i r y ob hk
         injection he with he;subst he;have hA:=hK.h _ _ _ _ _ _ hk ho;refine Lo R hn hD hA (hr hA.1) ?_;clear hk hA hvw hr ht hone
         induction aS generalizing vals with
         | nil=>cases vals <;> first | trivial | exact hv.elim
         | cons c aS ih=>
           cases vals with
           | nil=>exact hv.elim
           | cons u vals=>
             simp only[List.all_cons,Bool.and_eq_true] at hnr;exact⟨RelV0.noRef (RelV.of0 hv.1) hnr.1 ρ0,ih hv.2 hnr.2⟩
       · cases he
     · cases he
 · cases he
end
section
theorem IE (hK:KOK P K) (R:Rel S0 C0 w0 ρ D st a w) (hop:o.op= .call c) (hc:c.callee= .value g)
   (hn:st.h[nid]? =some none) (hD:¬ D nid) (hvw:∀ l b,vC (c.args.toList.map (bI st.σ)) (vw.drop 1)=some (l,b)->st.h[l]? =some (some b)) (he:fK T K (.call c) (bI st.σ g::c.args.toList.map (bI st.σ)) vw nid=some out) (ho:AllP out.ob):jV P S0 C0 w0 ρ D st a w Q o nid out:=by
 have hg:=R.eval g;simp only[fK,hc] at he;have hmap:c.args.map a.eval=(c.args.toList.map a.eval).toArray:=by apply Array.ext';simp
 split at he
 · rename_i f caps rest hargs
   injection hargs with h1 h2
   split at he
   · rename_i rr hk
     obtain⟨r,ob⟩:=rr;injection he with he;subst he
     have hnr:((rest++caps).all eC&&caps.all mP)=true:=by
       by_cases h:((rest++caps).all eC&&caps.all mP)=true
       · exact h
       · rw[if_neg h] at hk;cases hk
     rw[if_pos hnr] at hk;rw[h1] at hg;have h':RelCs ρ (Sof S0 ρ st.h) w D [.fn f caps] [a.eval g]:=hg
     have hv:∃ cvs:List Value,a.eval g= .func (.func f) #[] cvs.toArray/\RelCs ρ (Sof S0 ρ st.h) w D caps cvs:=by
       generalize a.eval g=v at h';cases h' with
       | fn h _=>exact⟨_,rfl,h⟩
     obtain⟨cvs,hv,hcv⟩:=hv;have hA:=hK.s _ _ _ _ hk ho;subst h2;rw[Bool.and_eq_true,List.all_append,Bool.and_eq_true] at hnr;obtain⟨hnr,hones⟩:=hnr
     have hcaps:RelVs ρ0 (Sof S0 ρ st.h) w No caps cvs:=by
       have hn2:=hnr.2;clear hA hk ho h1 hg h' hv hnr
       revert hcv
       generalize hDD:D=DD;intro hcv
       induction caps generalizing cvs with
       | nil=>cases hcv;trivial
       | cons c cs ih=>
         simp only[List.all_cons,Bool.and_eq_true] at hn2 hones;obtain⟨g1,g2⟩:=hcv.cut1
         have hw:wd c=1:=by
           have:=hones.1;cases c <;> simp_all [mP,wd]
         rw[hw] at g1 g2
         match cvs,g1,g2 with
         | [],g1,_=>exact absurd g1.wds_eq (by simp[tU,hw])
         | v::vs,g1,g2=>
           exact⟨RelV0.noRef (bA g1) hn2.1 ρ0,ih vs hones.2 hn2.2 g2⟩
     refine vJ R hA (vals:=c.args.toList.map a.eval++cvs) ?_ ((qP R _ hnr.1).app hcaps);rw[execOp,hop];simp only[resolve,hc,hv,Deferred.ofValue,Sem.run_bind,Sem.run_pure,Result.andThen_ok,invoke];rw[oK hA.1]
     congr 2
     rw[hmap];simp
   · split at he
     · rw[h1] at hg
       have h':RelCs ρ (Sof S0 ρ st.h) w D [.fn f []] [a.eval g]:=hg
       have hv:a.eval g= .func (.func f) #[] #[]:=by
         generalize a.eval g=v at h';cases h' with
         | fn h _=>cases h;rfl
       subst h2;refine Ee hK R hn hD hvw he ho (vals:=c.args.toList.map a.eval) (fun hb=> ?_) ?_
       · rw[execOp,hop]
         simp only[resolve,hc,hv,Deferred.ofValue,Sem.run_bind,Sem.run_pure,Result.andThen_ok,invoke];rw[oK hb]
         congr 2
         rw[hmap];simp
       · clear hvw he ho hmap hc hop
         generalize c.args.toList=xs
         induction xs with
         | nil=>intro _;trivial
         | cons x xs ih=>
           intro ht;simp only[List.map_cons,List.all_cons,Bool.and_eq_true] at ht;exact⟨(R.eval x).to0 ht.1,ih ht.2⟩
     · cases he
 · rename_i f ag cs rest hargs
   injection hargs with h1 h2;have he2:(if (((if ag then AV.agg cs else cs.headD .any)::rest).all eC&&(ag||Fc cs))=true then (K.s f ((if ag then AV.agg cs else cs.headD .any)::rest)).map fun r=>(⟨r.1,.keep,r.2⟩:Out) else none)=some out:=he;clear he
   by_cases hnr:(((if ag then AV.agg cs else cs.headD .any)::rest).all eC&&(ag||Fc cs))=true
   · rw[if_pos hnr] at he2
     obtain⟨⟨r,ob⟩,hk,rfl⟩:=Option.map_eq_some_iff.1 he2;rw[h1] at hg;have h':RelCs ρ (Sof S0 ρ st.h) w D [.fnm f ag cs] [a.eval g]:=hg
     have hv:∃ cvs:List Value,a.eval g= .func (.func f) #[if ag then .agg cvs.toArray else cvs.headD undef] #[]/\RelCs ρ (Sof S0 ρ st.h) w D cs cvs:=by
       generalize a.eval g=v at h';cases h' with
       | fnm h _=>exact⟨_,rfl,h⟩
     obtain⟨cvs,hv,hcv⟩:=hv;have hA:=hK.s _ _ _ _ hk ho;subst h2;rw[Bool.and_eq_true,List.all_cons,Bool.and_eq_true] at hnr;obtain⟨hnr,hag⟩:=hnr
     have hrecv:RelV ρ (Sof S0 ρ st.h) w D (if ag then .agg cs else cs.headD .any) (if ag then .agg cvs.toArray else cvs.headD undef):=by
       cases ag with
       | true=>exact⟨cvs,rfl,hcv⟩
       | false=>
         simp only[Bool.false_or] at hag
         match cs,hag,hcv with
         | [c],hag,hcv=>
           have hw:wd c=1:=by
             have:mP c=true:=hag;cases c <;> simp_all [mP,wd]
           have hl:=hcv.wds_eq;simp[tU,hw] at hl
           match cvs,hl,hcv with
           | [v],_,hcv=>exact bA hcv
     refine vJ R hA (vals:=(if ag then .agg cvs.toArray else cvs.headD undef)::c.args.toList.map a.eval) ?_ ⟨RelV0.noRef hrecv hnr.1 ρ0,qP R _ hnr.2⟩;rw[execOp,hop];simp only[resolve,hc,hv,Deferred.ofValue,Sem.run_bind,Sem.run_pure,Result.andThen_ok,invoke];rw[oK hA.1]
     congr 2
     rw[hmap];simp
   · rw[if_neg hnr] at he2;cases he2
 · cases he
end
def fA:Op->Bool
 | .alloc _ | .box _ _ | .buildSlice _ _ _ | .makeSlice _ _ _=>true
 | .call c=>match c.callee with
   | .builtin .append=>true
   | .value _=>true
   | _=>false
 | _=>false
def jC (h:List (Option ABlk)) (args:List AV):List (Option ABlk):=args.map fun c=>(refId c).bind fun l=>(h[l]?).join
theorem nC:∀ {aS:List AV},vC aS (jC h aS)=some (l,b)->h[l]? =some (some b)
 | [],e=>by simp[vC] at e
 | c ::aS,e=>by
   simp only[jC,List.map_cons] at e;simp only[vC] at e
   split at e
   · rename_i k hk
     split at e
     · rename_i b' hb
       split at e
       · injection e with e;simp only[Prod.mk.injEq] at e
         obtain⟨rfl,rfl⟩:=e;rw[hk] at hb;simp only[Option.bind_some] at hb;cases hh:h[k]? with
         | none=>simp[hh] at hb
         | some y=>simp[hh] at hb;rw[hb]
       · cases e
     · cases e
   · exact nC e
section
theorem Lp (hT:lT P T) (hK:KOK P K) (R:Rel S0 C0 w0 ρ D st a w) (hn:fA o.op=true->st.h[nid]? =some none/\¬ D nid)
   (he:fK T K o.op (o.op.operands.toList.map (bI st.σ)) (jC st.h (o.op.operands.toList.map (bI st.σ))) nid=some out) (ho:AllP out.ob):
   jV P S0 C0 w0 ρ D st a w Q o nid out:=by
 cases hop:o.op <;> rw[hop] at he hn
 case move x=>
   simp only[Op.operands,List.map_cons,List.map_nil,jC,fK,val] at he;injection he with he;subst he;exact Db R (.inl hop)
 case assign x=>
   simp only[Op.operands,List.map_cons,List.map_nil,jC,fK,val] at he;injection he with he;subst he;exact Db R (.inr hop)
 case pick c x y=>exact Iy R hop he
 case alloc el=>exact Fe hT R (hn rfl).1 (hn rfl).2 hop he
 case box el x=>exact Lk hT R (hn rfl).1 (hn rfl).2 hop he
 case build t ps=>exact Fh hT R hop (by simpa[Op.operands] using he)
 case buildSlice t n ps=>exact xT hT R (hn rfl).1 (hn rfl).2 hop (by simpa[Op.operands] using he)
 case load t x=>exact Iz hT R hop he ho
 case store t x y=>exact Ff hT R hop he ho
 case nilCheck x=>exact AZ R hop he
 case binOp op xt x y yt=>exact Ln hT R hop he ho
 case unOp op t x=>exact NG R hop he
 case convert s t x=>exact Cn hT R hop he
 case makeFunc fn f c=>exact Bc R hop he
 case makeSlice t x y=>exact zQ hT R (hn rfl).1 (hn rfl).2 hop he ho
 case fieldAddr s x f=>exact zO hT R hop he
 case field s x f=>exact Fg hT R hop he
 case indexAddr t x y=>exact zP hT R hop he ho
 case extract x ix=>exact Cm R hop he
 case slice t x lo hi mx=>exact Fj hT R hop he ho
 case index t x y=>exact Fk hT R hop he ho
 case call c=>
   cases hc:c.callee with
   | value g=>
     have hn':=hn (by simp[fA,hc]);have e0:(Op.call c).operands.toList=g::c.args.toList:=by simp[Op.operands,Call.operands,hc]
     rw[e0] at he;exact IE (T:=T) hK R hop hc (vw:=jC st.h ((g::c.args.toList).map (bI st.σ))) hn'.1 hn'.2 (fun l b h=>nC h) he ho
   | invoke r m=>simp[fK,hc] at he
   | builtin b=>
     have e0:(Op.call c).operands.toList=c.args.toList:=by simp[Op.operands,Call.operands,hc]
     have two:∀ (v1 v2:AV),c.args.toList.map (bI st.σ)= [v1,v2]->∃ x y,c.args= #[x,y]:=by
       intro v1 v2 h
       match hca:c.args.toList,h with
       | [x,y],_=>exact⟨x,y,by have:=congrArg List.toArray hca;simpa using this⟩
     cases b <;> simp only[fK,hc] at he <;> first | (cases he;done) | skip
     · -- append
       have hargs:∃ x y,c.args= #[x,y]:=by
         rw[e0] at he
         split at he
         · exact two _ _ ‹_›
         · cases he
       obtain⟨x,y,hx⟩:=hargs;have e1:(Op.call c).operands.toList= [x,y]:=by simp[Op.operands,Call.operands,hc,hx]
       rw[e1] at he;have hn':=hn (by simp[fA,hc]);exact Ed (K:=K) hT R hn'.1 hn'.2 hop hc hx (by simp only[fK,hc];exact he) ho
     · -- copy
       have hargs:∃ x y,c.args= #[x,y]:=by
         rw[e0] at he
         split at he
         · exact two _ _ ‹_›
         · cases he
       obtain⟨x,y,hx⟩:=hargs;have e1:(Op.call c).operands.toList= [x,y]:=by simp[Op.operands,Call.operands,hc,hx]
       rw[e1] at he;exact IC (K:=K) hT R hop hc hx (by simp only[fK,hc];exact he) ho
     · -- len
       have hargs:∃ x,c.args= #[x]:=by
         have:(Op.call c).operands.toList=c.args.toList:=by simp[Op.operands,Call.operands,hc]
         rw[this] at he
         match hca:c.args.toList,he with
         | [x],_=>exact⟨x,by have:=congrArg List.toArray hca;simpa using this⟩
         | [],he=>simp at he
         | x::y::l,he=>simp at he
       obtain⟨x,hx⟩:=hargs;have e1:(Op.call c).operands.toList= [x]:=by simp[Op.operands,Call.operands,hc,hx]
       rw[e1] at he;exact Lm (K:=K) hT R hop hc hx (vw:=jC st.h [bI st.σ x]) (by simp only[fK,hc];exact he)
 all_goals (simp[fK] at he)
end
structure AOp where
 o:Oper
 ov:Option AV
 nid:Nat
structure Rec where
 i:Nat
 x:AOp
 ft:List Nat
 ws:List Nat
 ob:List Prop
def pK (ops:Array Oper) (σ:List AV) (o:Oper):Option Bool:=
 match o.guard with
 | none=>some true
 | some (j,want)=>match (ops[j]?).bind (·.dst) with
   | some d=>match σ.getD d .any with
     | .bool b=>some (b==want)
     | .tup _=>some false
     | _=>none
   | none=>none
def sH (e:Eff) (nid:Nat):List Nat:=
 match e with
 | .keep=>[]
 | .new _=>[nid]
 | .set l _=>[l]
 | .app (some l) _=>[l,nid]
 | .app none _=>[nid]
 | .wr l _ _=>[l,nid]
def mA (ov:Option AV) (out:Out):AV×List Prop:=
 match ov with
 | some V=>(V,Ref out.v V::out.ob)
 | none=>(out.v,out.ob)
theorem Ef (h:AllP (mA ov out).2):Ref out.v (mA ov out).1/\AllP out.ob:=by
 cases ov with
 | some V=>exact⟨h _ (by simp[mA]),fun p hp=>h p (by simp[mA,hp])⟩
 | none=>exact⟨Ref.rfl',h⟩
def kE (σ:List AV) (o:Oper):List AV:=o.op.operands.toList.map (bI σ)
def mQ (T:TT) (K:KT) (x:AOp) (st:St):Option Out:=fK T K x.o.op (kE st.σ x.o) (jC st.h (kE st.σ x.o)) x.nid
def NH (o:Op) (args:List AV):List Nat:=
 match o with
 | .move _=>[]
 | _=>args.filterMap refId
def dQ (T:TT) (K:KT) (ops:Array Oper) (i:Nat) (x:AOp) (st:St):Option (St×Rec):=
 match pK ops st.σ x.o with
 | some true=>
   match mQ T K x st with
   | some out=>some (⟨put st.σ x.o.dst (mA x.ov out).1,gM out.e x.nid st.h⟩,⟨i,x,NH x.o.op (kE st.σ x.o),sH out.e x.nid,(mA x.ov out).2⟩)
   | none=>none
 | some false=>some (⟨put st.σ x.o.dst (.tup []),st.h⟩,⟨i,x,[],[],[]⟩)
 | none=>none
def jD (T:TT) (K:KT) (ops:Array Oper):List (Nat×AOp)->St->Option (St×List Rec)
 | [],st=>some (st,[])
 | (i,x)::xs,st=>match dQ T K ops i x st with
   | some (st1,r)=>match jD T K ops xs st1 with
     | some (st2,rs)=>some (st2,r::rs)
     | none=>none
   | none=>none
structure Pend (D:Nat->Prop) (h:List (Option ABlk)) (xs:List (Nat×AOp)):Prop where
 free:∀ p∈xs,fA p.2.o.op=true->h[p.2.nid]? =some none/\¬ D p.2.nid
 apart:xs.Pairwise fun p q=>fA p.2.o.op=true->fA q.2.o.op=true->p.2.nid≠q.2.nid
section
theorem Be (R:Rel S0 C0 w0 ρ D st a w) (h:pK ops st.σ o=some b):
   Region.wanted o (yielded ops a.tmps)=b:=by
 unfold pK at h;unfold Region.wanted
 split at h
 · rename_i hg;rw[hg];injection h
 · rename_i j want hg
   rw[hg]
   split at h
   · rename_i d hd
     split at h
     · rename_i c hc
       injection h with h;subst h
       have hlt:d<st.σ.length:=by
         rcases Nat.lt_or_ge d st.σ.length with h | h
         · exact h
         · rw[List.getD_eq_getElem?_getD,List.getElem?_eq_none h] at hc;cases hc
       have hlt2:d<a.tmps.size:=by rw[R.len];exact hlt
       have hv:=R.tmps d a.tmps[d] (by simp[hlt2]);rw[hc] at hv;have hv:=hv.bool_inv;simp only[yielded,hd,Option.bind_some];simp[hlt2,hv]
     · rename_i c hc
       injection h with h;subst h
       have hlt:d<st.σ.length:=by
         rcases Nat.lt_or_ge d st.σ.length with h | h
         · exact h
         · rw[List.getD_eq_getElem?_getD,List.getElem?_eq_none h] at hc;cases hc
       have hlt2:d<a.tmps.size:=by rw[R.len];exact hlt
       have hv:=R.tmps d a.tmps[d] (by simp[hlt2]);rw[hc] at hv;obtain⟨vs,hv,_⟩:=hv;simp only[yielded,hd,Option.bind_some];simp[hlt2,hv]
     · cases h
   · cases h
theorem Dd (he:fK T K o args vw nid=some out) (hb:Fd out.e=true):fA o=true:=by
 cases o <;> first | rfl | skip
 case call c=>
   simp only[fA];cases hc:c.callee with
   | builtin b=>
     cases b <;> first | rfl | skip
     all_goals
       exfalso;simp only[fK,hc,val] at he
       repeat' split at he
       all_goals first
         | (cases he;done)
         | (injection he with he;subst he;cases hb;done)
   | value f=>rfl
   | invoke r m=>simp[fK,hc] at he
 all_goals
   simp only[fK,val,Ea] at he
   repeat' split at he
   all_goals first
     | (cases he;done)
     | (injection he with he;subst he;cases hb)
     | (obtain⟨r,_,he⟩:=Option.map_eq_some_iff.1 he;subst he;cases hb)
theorem yE (hc:refId c=some l) (hv:jC h (c::args)=some b::r):h[l]? =some (some b):=by
 simp only[jC,List.map_cons,hc,Option.bind_some] at hv;injection hv with hv _;cases e:h[l]? with
 | none=>simp[e] at hv
 | some y=>simp[e] at hv;rw[hv]
def sI:Eff->List Nat
 | .set l _=>[l]
 | .app (some l) _=>[l]
 | .wr l _ _=>[l]
 | _=>[]
theorem Cp (he:mO K f aS (jC h aS) nid=some out) (hb:l∈sI out.e):∃ b0,h[l]? =some (some b0):=by
 unfold mO at he
 split at he
 · split at he
   · rename_i k b hone
     have:=nC hone
     split at he
     · injection he with he;subst he;simp[sI] at hb;subst hb;exact⟨b,this⟩
     · injection he with he;subst he;simp[sI] at hb;subst hb;exact⟨b,this⟩
     · split at he
       · split at he
         · injection he with he;subst he;simp[sI] at hb;subst hb;exact⟨b,this⟩
         · cases he
       · cases he
   · split at he
     · split at he
       · injection he with he;subst he;simp[sI] at hb
       · cases he
     · cases he
 · cases he
theorem IF (he:fK T K o args (jC h args) nid=some out) (hb:l∈sI out.e):
   ∃ b0,h[l]? =some (some b0):=by
 cases o <;> try (
   exfalso;simp only[fK,val,Ea] at he
   repeat' split at he
   all_goals first
     | (cases he;done)
     | (injection he with he;subst he;cases hb;done)
     | (obtain⟨r,_,he⟩:=Option.map_eq_some_iff.1 he;subst he;cases hb;done)
   done)
 case store t x y=>
   simp only[fK] at he
   split at he
   · split at he
     · rename_i l' e i off y' b0 r hvw
       have:=yE (c:=.ptr l' e i off) rfl hvw
       split at he
       · split at he
         · split at he
           · split at he
             · injection he with he;subst he;simp[sI] at hb;subst hb;exact⟨b0,this⟩
             · cases he
           · split at he
             · split at he
               · injection he with he;subst he;simp[sI] at hb;subst hb;exact⟨b0,this⟩
               · cases he
             · cases he
         · cases he
       · cases he
     · cases he
   · cases he
 case call c=>
   cases hc:c.callee with
   | value f=>
     simp only[fK,hc] at he
     split at he
     · rename_i f' caps rest
       split at he
       · injection he with he;subst he;cases hb
       · split at he
         · exact Cp he hb
         · cases he
     · repeat' split at he
       all_goals first
         | (cases he;done)
         | (obtain⟨r,_,he⟩:=Option.map_eq_some_iff.1 he;subst he;cases hb;done)
     · cases he
   | invoke r m=>simp[fK,hc] at he
   | builtin b=>
     cases b <;> try (
       exfalso;simp only[fK,hc,val] at he
       repeat' split at he
       all_goals first
         | (cases he;done)
         | (injection he with he;subst he;cases hb;done)
       done)
     all_goals
       simp only[fK,hc] at he
       repeat' split at he
       all_goals first
         | (cases he;done)
         | (injection he with he;subst he;cases hb;done)
         | skip
       injection he with he;subst he;simp only[sI,List.mem_singleton] at hb;subst hb;exact⟨_,yE (c:=.own l _ _ _) rfl (by assumption)⟩
theorem qR (hT:lT P T) (hK:KOK P K) (R:Rel S0 C0 w0 ρ D st a w)
   (hi:ops[i]? =some x.o) (hf:fA x.o.op=true->st.h[x.nid]? =some none/\¬ D x.nid) (he:dQ T K ops i x st=some (st1,r)) (ho:AllP r.ob):
   wpOp P ops Q i (fun a' w'=>∃ ρ' D',Rel S0 C0 w0 ρ' D' st1 a' w'/\∀ l,D' l->D l\/l=x.nid/\fA x.o.op=true) a w:=by
 unfold dQ at he;unfold wpOp;rw[hi];simp only
 split at he
 · rename_i hw
   rw[Be R hw];simp only[if_true]
   split at he
   · rename_i out hout
     injection he with he;simp only[Prod.mk.injEq] at he;obtain⟨rfl,rfl⟩:=he;obtain⟨hV,hob⟩:=Ef ho;refine .inl (Oper.wp_mono ?_ (Lp hT hK R hf hout hob (Q:=Q)));rintro a' w' ⟨v,ρ',D',rfl,h1,h2⟩;exact⟨ρ',D',h1 _ hV,fun l hl=>(h2 l hl).imp id fun⟨e,hb⟩=>⟨e,Dd hout hb⟩⟩
   · cases he
 · rename_i hw
   rw[Be R hw];injection he with he;simp only[Prod.mk.injEq] at he;obtain⟨rfl,rfl⟩:=he;exact⟨ρ,D,R.val ⟨[],rfl,trivial⟩,fun l h=>.inl h⟩
 · cases he
theorem Pend.tail (hp:Pend D st.h ((i,x)::xs)) (he:dQ T K ops i x st=some (st1,r))
   (hD:∀ l,D' l->D l\/l=x.nid/\fA x.o.op=true):Pend D' st1.h xs:=by
 refine⟨fun p hpx hnew=> ?_,(List.pairwise_cons.1 hp.apart).2⟩;obtain⟨h1,h2⟩:=hp.free p (List.mem_cons_of_mem _ hpx) hnew;have hne:fA x.o.op=true->x.nid≠p.2.nid:=fun h=>(List.pairwise_cons.1 hp.apart).1 p hpx h hnew
 refine⟨?_,fun h=> ?_⟩
 · have keep:∀ out:Out,mQ T K x st=some out->(gM out.e x.nid st.h)[p.2.nid]? =some none:=by
     intro out hout
     have se:∀ l,l∈sI out.e->l≠p.2.nid:=by
       rintro l hl rfl;obtain⟨b0,hb0⟩:=IF hout hl;rw[hb0] at h1;cases h1
     have hn:Fd out.e=true->x.nid≠p.2.nid:=fun h=>hne (Dd hout h)
     cases hE:out.e with
     | keep=>exact h1
     | new b=>simp only[gM];rw[List.getElem?_set_ne (hn (by rw[hE];rfl))];exact h1
     | set l b=>simp only[gM];rw[List.getElem?_set_ne (se l (by rw[hE];simp[sI]))];exact h1
     | app ol b=>
       cases ol with
       | none=>simp only[gM];rw[List.getElem?_set_ne (hn (by rw[hE];rfl))];exact h1
       | some l=>simp only[gM];rw[List.getElem?_set_ne (hn (by rw[hE];rfl)),List.getElem?_set_ne (se l (by rw[hE];simp[sI]))];exact h1
     | wr l x y=>simp only[gM];rw[List.getElem?_set_ne (hn (by rw[hE];rfl)),List.getElem?_set_ne (se l (by rw[hE];simp[sI]))];exact h1
   unfold dQ at he
   split at he
   · split at he
     · rename_i out hout
       injection he with he;simp only[Prod.mk.injEq] at he;obtain⟨rfl,rfl⟩:=he;exact keep out hout
     · cases he
   · injection he with he;simp only[Prod.mk.injEq] at he;obtain⟨rfl,rfl⟩:=he;exact h1
   · cases he
 · rcases hD _ h with h | ⟨h,hn⟩
   · exact h2 h
   · exact hne hn h.symm
theorem Bf (hT:lT P T) (hK:KOK P K):∀ (xs:List (Nat×AOp)) (ρ:Nat->Nat) (D:Nat->Prop) (st st':St) (a:Act) (w:World) (rs:List Rec),Rel S0 C0 w0 ρ D st a w->
   Pend D st.h xs->(∀ p∈xs,ops[p.1]? =some p.2.o)->jD T K ops xs st=some (st',rs)->(∀ r∈rs,AllP r.ob)->
   (∀ ρ' D' a' w',Rel S0 C0 w0 ρ' D' st' a' w'->Q .normal a' w')->wpOps P ops Q (xs.map (·.1)) a w
 | [],ρ,D,st,st',a,w,rs,R,_,_,he,_,hQ=>by
   simp only[jD] at he;injection he with he;simp only[Prod.mk.injEq] at he;obtain⟨rfl,rfl⟩:=he;exact hQ _ _ _ _ R
 | (i, x)::xs,ρ,D,st,st',a,w,rs,R,hp,ho,he,hob,hQ=>by
   simp only[jD] at he
   split at he
   · rename_i st1 r h1
     split at he
     · rename_i st2 rs2 h2
       injection he with he;simp only[Prod.mk.injEq] at he;obtain⟨rfl,rfl⟩:=he;simp only[List.map_cons];rw[wpOps_cons];refine wpOp_mono ?_ (qR hT hK R (ho (i,x) (by simp)) (hp.free (i,x) (by simp)) h1 (hob r (by simp)));rintro a' w' ⟨ρ',D',R',hD'⟩;exact Bf hT hK xs ρ' D' st1 st2 a' w' rs2 R' (hp.tail h1 hD') (fun p hp=>ho p (by simp[hp])) h2 (fun r hr=>hob r (by simp[hr])) hQ
     · cases he
   · cases he
end
def zS (o:Oper):List Nat:=o.op.operands.toList.filterMap fun | .tmp t=>some t | _=>none
def oM (ops:Array Oper) (o:Oper):Option Nat:=
 match o.guard with
 | some (j,_)=>(ops[j]?).bind (·.dst)
 | none=>none
def IG (d:Option Nat) (l:List Nat):Bool:=
 match d with
 | some d=>l.any (· ==d)
 | none=>false
def Fm (a b:Option Nat):Bool:=
 match a,b with
 | some a,some b=>a==b
 | _,_=>false
def Bg (a b:List Nat):Bool:=a.any fun x=>b.any (· ==x)
def yF (ops:Array Oper) (r s:Rec):Bool:=
 !IG r.x.o.dst (zS s.x.o)&& !Fm r.x.o.dst (oM ops s.x.o)&& !IG s.x.o.dst (zS r.x.o)&& !Fm s.x.o.dst (oM ops r.x.o)&& !Fm r.x.o.dst s.x.o.dst&&
   !Bg r.ws s.ft&& !Bg s.ws r.ft&& !Bg r.ws s.ws
theorem vL (h:IG d l=false):∀ t,d=some t->t ∉ l:=by
 rintro t rfl ht;simp only[IG] at h;have:l.any (· ==t)=true:=List.any_eq_true.2 ⟨t,ht,by simp⟩;rw[h] at this;cases this
theorem nD (h:Bg a b=false):∀ t,t∈a->t ∉ b:=by
 intro t ha hb;have:Bg a b=true:=List.any_eq_true.2 ⟨t,ha,List.any_eq_true.2 ⟨t,hb,by simp⟩⟩;rw[h] at this;cases this
theorem pT (h:Fm a b=false):∀ t,a=some t->b≠some t:=by
 rintro t rfl rfl;simp[Fm] at h
theorem qS (h:dst≠some t):(put σ dst V).getD t .any=σ.getD t .any:=by
 cases dst with
 | none=>rfl
 | some d=>
   simp only[put];rw[gZ,if_neg (fun e=>h (by rw[e.1]))]
theorem iL (h:∀ t,dst=some t->t ∉ zS o):kE (put σ dst V) o=kE σ o:=by
 unfold kE;apply List.map_congr_left;intro x hx;cases x with
 | tmp t=>
   simp only[bI];refine qS fun e=>h t e ?_
   unfold zS;exact List.mem_filterMap.2 ⟨_,hx,rfl⟩
 | _=>rfl
theorem jX (h:∀ t,dst=some t->oM ops o≠some t):pK ops (put σ dst V) o=pK ops σ o:=by
 unfold pK;unfold oM at h
 split
 · rfl
 · rename_i j want hg
   rw[hg] at h;simp only at h
   split
   · rename_i d hd
     rw[qS (fun e=>h d e hd)]
   · rfl
theorem Eg (hw:∀ l,l∈sH e nid->l ∉ args.filterMap refId):jC (gM e nid h) args=jC h args:=by
 unfold jC;apply List.map_congr_left;intro c hc;cases hr:refId c with
 | none=>rfl
 | some l=>
   have hl:l∈args.filterMap refId:=List.mem_filterMap.2 ⟨c,hc,hr⟩;simp only[Option.bind_some];cases e with
   | keep=>rfl
   | new b=>
     have:nid≠l:=fun e=>hw nid (by simp[sH]) (e▸hl)
     simp only[gM];rw[List.getElem?_set_ne this]
   | set k b=>
     have:k≠l:=fun e=>hw k (by simp[sH]) (e▸hl)
     simp only[gM];rw[List.getElem?_set_ne this]
   | app o b=>
     cases o with
     | none=>
       have:nid≠l:=fun e=>hw nid (by simp[sH]) (e▸hl)
       simp only[gM];rw[List.getElem?_set_ne this]
     | some k=>
       have h1:nid≠l:=fun e=>hw nid (by simp[sH]) (e▸hl)
       have h2:k≠l:=fun e=>hw k (by simp[sH]) (e▸hl)
       simp only[gM];rw[List.getElem?_set_ne h1,List.getElem?_set_ne h2]
   | wr k x y=>
     have h1:nid≠l:=fun e=>hw nid (by simp[sH]) (e▸hl)
     have h2:k≠l:=fun e=>hw k (by simp[sH]) (e▸hl)
     simp only[gM];rw[List.getElem?_set_ne h1,List.getElem?_set_ne h2]
theorem qT (h:∀ t,d=some t->e≠some t):put (put σ d V) e U=put (put σ e U) d V:=by
 cases d <;> cases e <;> first | rfl | skip;rename_i a b;simp only[put];exact List.set_comm _ _ (fun e=>h a rfl (by rw[e]))
def NI (e:Eff) (n:Nat):List (Nat×Option ABlk):=
 match e with
 | .keep=>[]
 | .new b=>[(n,some b)]
 | .set l b=>[(l,some b)]
 | .app (some l) b=>[(l,none),(n,some b)]
 | .app none b=>[(n,some b)]
 | .wr l x y=>[(l,x),(n,y)]
def hG (h:List (Option ABlk)) (xs:List (Nat×Option ABlk)):List (Option ABlk):=xs.foldl (fun h p=>h.set p.1 p.2) h
theorem Eh:gM e n h=hG h (NI e n):=by
 cases e with
 | app o b=>cases o <;> rfl
 | _=>rfl
theorem yG:(NI e n).map (·.1)=sH e n:=by
 cases e with
 | app o b=>cases o <;> rfl
 | _=>rfl
theorem Cq (hx:∀ p∈xs,p.1≠k):hG (h.set k b) xs=(hG h xs).set k b:=by
 induction xs generalizing h with
 | nil=>rfl
 | cons p xs ih=>
   simp only[hG,List.foldl_cons];rw[List.set_comm _ _ (fun e=>hx p (by simp) e.symm)];exact ih fun q hq=>hx q (by simp[hq])
theorem Bh (hx:∀ p∈xs,∀ q∈ys,p.1≠q.1):hG (hG h xs) ys=hG (hG h ys) xs:=by
 induction xs generalizing h with
 | nil=>rfl
 | cons p xs ih=>
   have h1:hG h (p::xs)=hG (h.set p.1 p.2) xs:=rfl;have h2:hG (hG h ys) (p::xs)=hG ((hG h ys).set p.1 p.2) xs:=rfl;rw[h1,h2,ih (fun a ha=>hx a (by simp[ha])),Cq (xs:=ys) (fun q hq=>(hx p (by simp) q hq).symm)]
theorem Fn (hw:∀ l,l∈sH e n->l ∉ sH f m):gM f m (gM e n h)=gM e n (gM f m h):=by
 simp only[Eh];refine Bh fun p hp q hq e=>hw p.1 ?_ ?_
 · rw[<- yG];exact List.mem_map.2 ⟨p,hp,rfl⟩
 · rw[<- yG];exact List.mem_map.2 ⟨q,hq,e.symm⟩
theorem yH {T:TT} {K:KT} {o:Op} {args:List AV} {h:List (Option ABlk)} {e:Eff} {nid n:Nat} (hw:∀ l,l∈sH e nid->l ∉ NH o args):fK T K o args (jC (gM e nid h) args) n=fK T K o args (jC h args) n:=by
 cases o
 case move=>rfl
 all_goals rw[Eg hw]
section
theorem comm (h1:dQ T K ops i x st=some (st1,r)) (h2:dQ T K ops j y st1=some (st2,s)) (hi:yF ops r s=true):
   ∃ st1',dQ T K ops j y st=some (st1',s)/\dQ T K ops i x st1'=some (st2,r):=by
 have hx:r.x=x:=by
   unfold dQ at h1
   split at h1
   · split at h1
     · injection h1 with h1;simp only[Prod.mk.injEq] at h1;rw[<- h1.2]
     · cases h1
   · injection h1 with h1;simp only[Prod.mk.injEq] at h1;rw[<- h1.2]
   · cases h1
 have hy:s.x=y:=by
   unfold dQ at h2
   split at h2
   · split at h2
     · injection h2 with h2;simp only[Prod.mk.injEq] at h2;rw[<- h2.2]
     · cases h2
   · injection h2 with h2;simp only[Prod.mk.injEq] at h2;rw[<- h2.2]
   · cases h2
 simp only[yF,Bool.and_eq_true,Bool.not_eq_true',hx,hy] at hi;obtain⟨⟨⟨⟨⟨⟨⟨a1,a2⟩,a3⟩,a4⟩,a5⟩,a6⟩,a7⟩,a8⟩:=hi;have b1:=vL a1;have b2:=pT a2;have b3:=vL a3;have b4:=pT a4;have b5:=pT a5;have b5':∀ t,y.o.dst=some t->x.o.dst≠some t:=fun t e e'=>b5 t e' e
 have b6:=nD a6;have b7:=nD a7;have b8:=nD a8;unfold dQ at h1 h2
 split at h1
 · rename_i hwx
   split at h1
   · rename_i ox hox
     injection h1 with h1;simp only[Prod.mk.injEq] at h1;obtain⟨rfl,rfl⟩:=h1;simp only at b6 b7 b8;rw[jX b2] at h2
     split at h2
     · rename_i hwy
       split at h2
       · rename_i oy hoy
         injection h2 with h2;simp only[Prod.mk.injEq] at h2;obtain⟨rfl,rfl⟩:=h2;simp only at b6 b7 b8;unfold mQ at hox hoy;simp only[iL b1] at hoy b6 b7;rw[yH b6] at hoy;refine⟨⟨put st.σ y.o.dst (mA y.ov oy).1,gM oy.e y.nid st.h⟩, ?_, ?_⟩
         · unfold dQ mQ
           rw[hwy];simp only[hoy,iL b1]
         · unfold dQ mQ
           simp only[jX b4,hwx,iL b3,yH b7,hox];rw[qT b5,Fn b8]
       · cases h2
     · rename_i hwy
       injection h2 with h2;simp only[Prod.mk.injEq] at h2;obtain⟨rfl,rfl⟩:=h2;unfold mQ at hox;refine⟨⟨put st.σ y.o.dst (.tup []),st.h⟩, ?_, ?_⟩
       · unfold dQ
         rw[hwy]
       · unfold dQ mQ
         simp only[jX b4,hwx,iL b3,hox];rw[qT b5]
     · cases h2
   · cases h1
 · rename_i hwx
   injection h1 with h1;simp only[Prod.mk.injEq] at h1;obtain⟨rfl,rfl⟩:=h1;rw[jX b2] at h2
   split at h2
   · rename_i hwy
     split at h2
     · rename_i oy hoy
       injection h2 with h2;simp only[Prod.mk.injEq] at h2;obtain⟨rfl,rfl⟩:=h2;unfold mQ at hoy;simp only[iL b1] at hoy;refine⟨⟨put st.σ y.o.dst (mA y.ov oy).1,gM oy.e y.nid st.h⟩, ?_, ?_⟩
       · unfold dQ mQ
         rw[hwy];simp only[hoy,iL b1]
       · unfold dQ
         simp only[jX b4,hwx];rw[qT b5]
     · cases h2
   · rename_i hwy
     injection h2 with h2;simp only[Prod.mk.injEq] at h2;obtain⟨rfl,rfl⟩:=h2;refine⟨⟨put st.σ y.o.dst (.tup []),st.h⟩, ?_, ?_⟩
     · unfold dQ
       rw[hwy]
     · unfold dQ
       simp only[jX b4,hwx];rw[qT b5]
   · cases h2
 · cases h1
theorem eS:jD T K ops ((i,x)::xs) st=some (st',rs)↔∃ st1 r rs1,dQ T K ops i x st=some (st1,r)/\jD T K ops xs st1=some (st',rs1)/\rs=r::rs1:=by
 simp only[jD];constructor
 · intro h
   split at h
   · rename_i st1 r h1
     split at h
     · rename_i st2 rs1 h2
       injection h with h;simp only[Prod.mk.injEq] at h;obtain⟨rfl,rfl⟩:=h;exact⟨st1,r,rs1,h1,h2,rfl⟩
     · cases h
   · cases h
 · rintro⟨st1,r,rs1,h1,h2,rfl⟩
   rw[h1];simp only;rw[h2]
theorem Fo:∀ (pre:List (Nat×AOp)) (i:Nat) (x:AOp) (post:List (Nat×AOp)) (st st':St) (rs:List Rec),jD T K ops (pre++(i,x)::post) st=some (st',rs)->
   ∃ rp r rq,rs=rp++r::rq/\rp.length=pre.length/\((∀ q∈rp,yF ops q r=true)->jD T K ops ((i,x)::(pre++post)) st=some (st',r::(rp++rq)))
 | [],i,x,post,st,st',rs,h=>by
   obtain⟨st1,r,rs1,h1,h2,rfl⟩:=eS.1 h;exact⟨[],r,rs1,rfl,rfl,fun _=>h⟩
 | (k,p)::pre,i,x,post,st,st',rs,h=>by
   obtain⟨st1,rk,rs1,h1,h2,rfl⟩:=eS.1 h;obtain⟨rp,r,rq,rfl,hl,hf⟩:=Fo pre i x post st1 st' rs1 h2;refine⟨rk::rp,r,rq,rfl,by simp[hl],fun hind=> ?_⟩;have h3:=hf fun q hq=>hind q (by simp[hq])
   obtain⟨st2,r',rs2,h4,h5,h6⟩:=eS.1 h3;injection h6 with h6 h7;subst h6;subst h7;obtain⟨st1',g1,g2⟩:=comm h1 h4 (hind rk (by simp));exact eS.2 ⟨st1',r,_,g1,eS.2 ⟨st2,rk,_,g2,h5,rfl⟩,rfl⟩
end
def vM (acc:List Nat) (o:Oper):Nat:=o.after.toList.foldl (fun s e=>if Region.binds .any e then s||| (2^e.on||| acc.getD e.on 0) else s) 0
def sJ:List Nat->List Oper->List Nat
 | acc,[]=>acc
 | acc,o::os=>sJ (acc++ [vM acc o]) os
def fV:Nat->List Oper->Bool
 | _,[]=>true
 | i,o::os=>o.after.toList.all (fun e=> !Region.binds .any e||decide (e.on<i))&&fV (i+1) os
def sK (ops:Array Oper) (bf:List Nat) (r s:Rec):Bool:=(bf.getD s.i 0).testBit r.i||yF ops r s
def oN (ops:Array Oper) (bf:List Nat):List Rec->Bool
 | []=>true
 | r::rs=>rs.all (sK ops bf r)&&oN ops bf rs
theorem Bi (f:Edge->Nat) (p:Edge->Bool):∀ (l:List Edge) (s j:Nat),(l.foldl (fun s e=>if p e then s||| f e else s) s).testBit j=(s.testBit j||l.any fun e=>p e&&(f e).testBit j)
 | [],s,j=>by simp
 | e::l,s,j=>by
   simp only[List.foldl_cons,List.any_cons];rw[Bi f p l];cases p e <;> simp[Nat.testBit_or,Bool.or_assoc]
theorem vN:∀ (os:List Oper) (acc:List Nat) (i:Nat),i<acc.length->(sJ acc os).getD i 0=acc.getD i 0
 | [],acc,i,h=>rfl
 | o::os,acc,i,h=>by
   simp only[sJ];rw[vN os _ i (by simp;omega)];simp[List.getD_eq_getElem?_getD,List.getElem?_append_left h]
theorem oO:∀ (os:List Oper) (acc:List Nat) (k:Nat) (o:Oper),os[k]? =some o->fV acc.length os=true->∀ j,((sJ acc os).getD (acc.length+k) 0).testBit j=true->
   ∃ e∈o.after.toList,Region.binds .any e=true/\e.on<acc.length+k/\(e.on=j\/((sJ acc os).getD e.on 0).testBit j=true)
 | [],_,_,_,h,_,_,_=>by simp at h
 | o0::os,acc,0,o,h,hE,j,hj=>by
   simp at h;subst h;simp only[fV,Bool.and_eq_true] at hE;simp only[sJ] at hj ⊢;rw[Nat.add_zero,vN os _ _ (by simp)] at hj;have e1:(acc++ [vM acc o0]).getD acc.length 0=vM acc o0:=by simp[List.getD_eq_getElem?_getD]
   rw[e1] at hj;unfold vM at hj;rw[Bi (fun e=>2^e.on||| acc.getD e.on 0)] at hj;simp only[Nat.zero_testBit,Bool.false_or,List.any_eq_true,Bool.and_eq_true,Nat.testBit_or,Bool.or_eq_true] at hj;obtain⟨e,he,hb,ht⟩:=hj
   have hlt:e.on<acc.length:=by
     have:=List.all_eq_true.1 hE.1 e he;rw[hb] at this;simpa using this
   refine⟨e,he,hb,by omega, ?_⟩;rcases ht with ht | ht
   · rw[Nat.testBit_two_pow] at ht
     exact .inl (by simpa using ht)
   · right
     rw[vN os _ _ (by simp;omega)];have:(acc++ [vM acc o0]).getD e.on 0=acc.getD e.on 0:=by simp[List.getD_eq_getElem?_getD,List.getElem?_append_left hlt]
     rw[this];exact ht
 | o0::os,acc,k+1,o,h,hE,j,hj=>by
   simp only[fV,Bool.and_eq_true] at hE;simp only[sJ] at hj ⊢;have hlen:(acc++ [vM acc o0]).length=acc.length+1:=by simp
   have:=oO os (acc++ [vM acc o0]) k o (by simpa using h) (by rw[hlen];exact hE.2) j (by rw[hlen];rw[show acc.length+1+k=acc.length+(k+1) from by omega];exact hj);rw[hlen] at this;obtain⟨e,h1,h2,h3,h4⟩:=this;exact⟨e,h1,h2,by omega,h4⟩
theorem jQ:∀ (os:List Oper) (i k:Nat) (o:Oper),fV i os=true->os[k]? =some o->∀ e∈o.after.toList,Region.binds .any e=true->e.on<i+k
 | [],_,_,_,_,h,_,_,_=>by simp at h
 | o0::os,i,0,o,hE,h,e,he,hb=>by
   simp at h;subst h;simp only[fV,Bool.and_eq_true] at hE
   have:=List.all_eq_true.1 hE.1 e he;rw[hb] at this;simpa using this
 | o0::os,i,k+1,o,hE,h,e,he,hb=>by
   simp only[fV,Bool.and_eq_true] at hE
   have:=jQ os (i+1) k o hE.2 (by simpa using h) e he hb;omega
section
variable {P:Program} {S0 C0:Nat->Prop} {w0:World} {T:TT} {K:KT} {ops:Array Oper} {Q:Exit->Act->World->Prop}
def Cr (ops:Array Oper) (listed:Array Bool):Prop:=∀ k o,ops[k]? =some o->listed.getD k false=true->∀ e∈o.after.toList,Region.binds .any e=true->listed.getD e.on false=true
theorem vO (hE:fV 0 ops.toList=true) {listed:Array Bool} (hc:Cr ops listed):∀ (k:Nat),listed.getD k false=true->∀ o,ops[k]? =some o->∀ j,((sJ [] ops.toList).getD k 0).testBit j=true->listed.getD j false=true:=by
 intro k
 induction k using Nat.strongRecOn with
 | _ k ih=>
   intro hl o ho j hj;obtain⟨e,h1,h2,h3,h4⟩:=oO ops.toList [] k o (by simpa using ho) hE j (by simpa using hj);simp at h3;have hel:=hc k o ho hl e h1 h2;rcases h4 with rfl | h4
   · exact hel
   · have hlt:e.on<ops.size:=by
       have:=(Array.getElem?_eq_some_iff.1 ho).1;omega
     exact ih e.on h3 hel ops[e.on] (by simp[hlt]) j h4
structure InvD (P:Program) (S0 C0:Nat->Prop) (w0:World) (T:TT) (K:KT) (ops:Array Oper) (listed:Array Bool) (xs:List (Nat×AOp)) (rs:List Rec) (st st':St) (a:Act) (w:World) (ρ:Nat->Nat) (D:Nat->Prop):Prop where
 rel:Rel S0 C0 w0 ρ D st a w
 run:jD T K ops xs st=some (st',rs)
 obs:∀ r∈rs,AllP r.ob
 pend:Pend D st.h xs
 size:listed.size=ops.size
 mem:∀ i,i<ops.size->(listed.getD i false=false↔∃ x,(i,x)∈xs)
 sorted:xs.Pairwise fun p q=>p.1<q.1
 ops_:∀ p∈xs,ops[p.1]? =some p.2.o
 closed:Cr ops listed
 pairs:rs.Pairwise fun r s=>sK ops (sJ [] ops.toList) r s=true
theorem vP:∀ {xs:List (Nat×AOp)} {st st':St} {rs:List Rec},jD T K ops xs st=some (st',rs)->rs.map (·.i)=xs.map (·.1)
 | [],st,st',rs,h=>by simp only[jD] at h;injection h with h;simp only[Prod.mk.injEq] at h;rw[<- h.2];rfl
 | (i, x)::xs,st,st',rs,h=>by
   obtain⟨st1,r,rs1,h1,h2,rfl⟩:=eS.1 h
   have:r.i=i:=by
     unfold dQ at h1
     split at h1
     · split at h1
       · injection h1 with h1;simp only[Prod.mk.injEq] at h1;rw[<- h1.2]
       · cases h1
     · injection h1 with h1;simp only[Prod.mk.injEq] at h1;rw[<- h1.2]
     · cases h1
   simp[this,vP h2]
theorem jY {listed:Array Bool} {i:Nat}:i∈Region.ready .any ops listed↔i<ops.size/\listed.getD i true=false/\∃ o,ops[i]? =some o/\∀ e∈o.after.toList,Region.binds .any e=true->listed.getD e.on false=true:=by
 unfold Region.ready;rw[List.mem_filter,List.mem_range];constructor
 · rintro⟨h1,h2⟩
   simp only[Bool.and_eq_true,Bool.not_eq_true'] at h2;obtain⟨h2,h3⟩:=h2;refine⟨h1,h2,ops[i],by simp[h1],fun e he hb=> ?_⟩;have:ops[i]? =some ops[i]:=by simp[h1]
   rw[this] at h3;simp only[Option.map_some,Option.getD_some] at h3
   have:=(Array.all_eq_true_iff_forall_mem.1 h3) e (by simpa using he);rw[hb] at this;simpa using this
 · rintro⟨h1,h2,o,h3,h4⟩
   refine⟨h1, ?_⟩;simp only[Bool.and_eq_true,Bool.not_eq_true'];refine⟨h2, ?_⟩;rw[h3];simp only[Option.map_some,Option.getD_some];refine Array.all_eq_true_iff_forall_mem.2 fun e he=> ?_
   cases hb:Region.binds .any e with
   | false=>simp
   | true=>simpa using h4 e (by simpa using he) hb
theorem cO (l:Array Bool) (i k:Nat) (v d:Bool):(l.setIfInBounds i v).getD k d=if i=k/\i<l.size then v else l.getD k d:=by
 by_cases hk:k<l.size
 · by_cases h:i=k
   · subst h;simp[Array.getD,hk]
   · simp[Array.getD,hk,h,Array.getElem_setIfInBounds]
 · by_cases h:i=k
   · subst h;simp[Array.getD,hk]
   · simp[Array.getD,hk,h]
theorem oP {l:Array Bool} {i:Nat} (h:i<l.size):l.getD i true=l.getD i false:=by simp[Array.getD,h]
theorem Ei (hT:lT P T) (hK:KOK P K) (hE:fV 0 ops.toList=true) {st':St} (hQ:∀ ρ' D' a' w',Rel S0 C0 w0 ρ' D' st' a' w'->Q .normal a' w'):
   ∀ (kA:Nat) (listed:Array Bool) (xs:List (Nat×AOp)) (rs:List Rec) (st:St) (a:Act) (w:World) (ρ:Nat->Nat) (D:Nat->Prop),xs.length<=kA->
     InvD P S0 C0 w0 T K ops listed xs rs st st' a w ρ D->wpAny P .any ops Q kA listed a w:=by
 have done : ∀ (listed:Array Bool) (xs:List (Nat×AOp)) (rs:List Rec) (st:St) (a:Act) (w:World) (ρ:Nat->Nat) (D:Nat->Prop),InvD P S0 C0 w0 T K ops listed xs rs st st' a w ρ D->
     (Region.ready .any ops listed= []->xs= [])/\(xs= []->Region.ready .any ops listed= []/\Q .normal a w):=by
   intro listed xs rs st a w ρ D I;constructor
   · intro hr
     cases xs with
     | nil=>rfl
     | cons p xs=>
       exfalso;obtain⟨i,x⟩:=p;have ho:=I.ops_ (i,x) (by simp);have hlt:=(Array.getElem?_eq_some_iff.1 ho).1;have hun:=(I.mem i hlt).2 ⟨x,by simp⟩
       have:i∈Region.ready .any ops listed:=by
         rw[jY];refine⟨hlt,by rw[oP (by rw[I.size];exact hlt)];exact hun,x.o,ho,fun e he hb=> ?_⟩;have hle:=jQ ops.toList 0 i x.o hE (by simpa using ho) e he hb;simp at hle;cases hq:listed.getD e.on false with
         | true=>rfl
         | false=>
           exfalso;obtain⟨y,hy⟩:=(I.mem e.on (by omega)).1 hq;rcases List.mem_cons.1 hy with h | h
           · injection h with h _;omega
           · have:=(List.pairwise_cons.1 I.sorted).1 _ h
             simp at this;omega
       rw[hr] at this;cases this
   · intro hx
     subst hx;have hrun:=I.run;simp only[jD] at hrun;injection hrun with hrun;simp only[Prod.mk.injEq] at hrun;refine⟨?_,hQ _ _ _ _ (by rw[<- hrun.1];exact I.rel)⟩;cases hr:Region.ready .any ops listed with
     | nil=>rfl
     | cons i l=>
       exfalso;have hi:i∈Region.ready .any ops listed:=by rw[hr];simp
       obtain⟨h1,h2,_⟩:=jY.1 hi;rw[oP (by rw[I.size];exact h1)] at h2;obtain⟨x,hx⟩:=(I.mem i h1).1 h2;simp at hx
 intro kA
 induction kA with
 | zero=>
   intro listed xs rs st a w ρ D hl I;exact((done _ _ _ _ _ _ _ _ I).2 (by cases xs with | nil=>rfl | cons _ _=>simp at hl))
 | succ kA   ih=>
   intro listed xs rs st a w ρ D hl I;refine⟨fun hr=>((done _ _ _ _ _ _ _ _ I).2 ((done _ _ _ _ _ _ _ _ I).1 hr)).2,fun i hi=> ?_⟩;obtain⟨hlt,hun,o,ho,hed⟩:=jY.1 hi;rw[oP (by rw[I.size];exact hlt)] at hun;obtain⟨x,hx⟩:=(I.mem i hlt).1 hun;obtain⟨pre,post,rfl⟩:=List.append_of_mem hx
   have hox:x.o=o:=by
     have:=I.ops_ (i,x) hx;rw[ho] at this;injection this with this;exact this.symm
   obtain⟨rp,r,rq,hrs,hlen,hfront⟩:=Fo pre i x post st st' rs I.run;have hidx:=vP I.run;rw[hrs] at hidx;simp only[List.map_append,List.map_cons] at hidx;have hsplit:=List.append_inj hidx (by simp[hlen]);have hri:r.i=i:=by have:=hsplit.2;simp at this;exact this.1
   have hpairs:=I.pairs;rw[hrs] at hpairs
   have hind:∀ q∈rp,yF ops q r=true:=by
     intro q hq;have hp:=(List.pairwise_append.1 hpairs).2.2 q hq r (by simp);unfold sK at hp;rw[Bool.or_eq_true] at hp;rcases hp with hp | hp
     · exfalso
       rw[hri] at hp;have hqi:q.i∈pre.map (·.1):=by rw[<- hsplit.1];exact List.mem_map.2 ⟨q,hq,rfl⟩
       obtain⟨p,hp1,hp2⟩:=List.mem_map.1 hqi;have hpo:=I.ops_ p (by simp[hp1]);have hplt:=(Array.getElem?_eq_some_iff.1 hpo).1;have hqun:=(I.mem p.1 hplt).2 ⟨p.2,by simp[hp1]⟩;obtain⟨e,h1,h2,h3,h4⟩:=oO ops.toList [] i o (by simpa using ho) hE q.i (by simpa using hp);have hel:=hed e h1 h2
       have hql:listed.getD q.i false=true:=by
         rcases h4 with h4 | h4
         · rw[<- h4];exact hel
         · simp at h3
           exact vO hE I.closed e.on hel ops[e.on] (by simp[show e.on<ops.size from by omega]) q.i h4
       rw[hp2] at hqun;rw[hqun] at hql;cases hql
     · exact hp
   have hrun2:=hfront hind;obtain⟨st1,r',rs1,g1,g2,g3⟩:=eS.1 hrun2;injection g3 with g3 g4;subst g3;subst g4
   have hmemx:∀ p,p∈pre++post->p∈pre++(i,x)::post:=fun p hp=>by
     rcases List.mem_append.1 hp with h | h
     · simp[h]
     · simp[h]
   have hpend2:Pend D st.h ((i,x)::(pre++post)):=by
     refine⟨fun p hp=>I.pend.free p ?_, ?_⟩
     · rcases List.mem_cons.1 hp with rfl | hp
       · exact hx
       · exact hmemx p hp
     · have hap:=I.pend.apart
       rw[List.pairwise_append] at hap;obtain⟨k1,k2,k3⟩:=hap;rw[List.pairwise_cons] at k2;refine List.pairwise_cons.2 ⟨fun q hq hx hn=> ?_,List.pairwise_append.2 ⟨k1,k2.2,fun p hp q hq=>k3 p hp q (by simp[hq])⟩⟩;rcases List.mem_append.1 hq with h | h
       · exact fun e=>k3 q h (i,x) (by simp) hn hx e.symm
       · exact k2.1 q h hx hn
   refine wpOp_mono ?_ (qR hT hK I.rel (I.ops_ (i,x) hx) (hpend2.free (i,x) (by simp)) g1 (I.obs r (by rw[hrs];simp)));rintro a' w' ⟨ρ',D',R',hD'⟩
   have hneq:∀ p,p∈pre++post->p.1≠i:=by
     intro p hp e;have hs:=I.sorted;rw[List.pairwise_append,List.pairwise_cons] at hs;rcases List.mem_append.1 hp with h | h
     · have:=hs.2.2 p h (i,x) (by simp)
       simp at this;omega
     · have:=hs.2.1.1 p h
       simp at this;omega
   refine ih (listed.setIfInBounds i true) (pre++post) (rp++rq) st1 a' w' ρ' D' (by simp at hl ⊢;omega) ?_
   exact {
     rel:=R'
     run:=g2
     obs:=fun q hq=>I.obs q (by rw[hrs];rcases List.mem_append.1 hq with h | h <;> simp[h])
     pend:=hpend2.tail g1 hD'
     size:=by simpa using I.size
     mem :=by
       intro k hk
       by_cases hki:i=k
       · subst hki
         constructor
         · intro h
           simp[cO,I.size,hlt] at h
         · rintro⟨y,hy⟩
           exact absurd rfl (hneq (i,y) hy)
       · have e1:(listed.setIfInBounds i true).getD k false=listed.getD k false:=by
           simp[cO,hki]
         rw[e1,I.mem k hk];constructor
         · rintro⟨y,hy⟩
           refine⟨y, ?_⟩;rcases List.mem_append.1 hy with h | h
           · simp[h]
           · rcases List.mem_cons.1 h with h | h
             · injection h with h _;exact absurd h.symm hki
             · simp[h]
         · rintro⟨y,hy⟩
           exact⟨y,hmemx _ hy⟩
     sorted:=by
       have hs:=I.sorted;rw[List.pairwise_append,List.pairwise_cons] at hs;exact List.pairwise_append.2 ⟨hs.1,hs.2.1.2,fun p hp q hq=>hs.2.2 p hp q (by simp[hq])⟩
     ops_:=fun p hp=>I.ops_ p (hmemx p hp)
     closed:=by
       intro k ok hk hl2 e he hb
       by_cases hki:i=k
       · subst hki
         rw[ho] at hk;injection hk with hk;subst hk
         have:=hed e he hb
         by_cases h:i=e.on
         · subst h;simp[cO,I.size,hlt]
         · simpa[cO,h] using this
       · have e1:(listed.setIfInBounds i true).getD k false=listed.getD k false:=by
           simp[cO,hki]
         rw[e1] at hl2
         have:=I.closed k ok hk hl2 e he hb
         by_cases h:i=e.on
         · subst h;simp[cO,I.size,hlt]
         · simpa[cO,h] using this
     pairs:=by
       rw[List.pairwise_append,List.pairwise_cons] at hpairs
       exact List.pairwise_append.2 ⟨hpairs.1,hpairs.2.1.2,fun p hp q hq=>hpairs.2.2 p hp q (by simp[hq])⟩ }
end
abbrev mW:=List (Nat×AV)
def Lq (o:Oper):mW->Option AV
 | (s,V)::_=>if o.dst==some s then some V else none
 | []=>none
def zT (o:Oper):mW->mW
 | (s,V)::r=>if o.dst==some s then r else (s,V)::r
 | []=>[]
def eF:Nat->List Oper->mW->Nat->List (Nat×AOp)
 | _,[],_,_=>[]
 | i,o::os,ov,n=>(i,⟨o,Lq o ov,n⟩)::eF (i+1) os (zT o ov) (if fA o.op then n+1 else n)
def Cs:List Oper->mW->mW
 | [],ov=>ov
 | o::os,ov=>Cs os (zT o ov)
def eT:List Oper->Nat
 | []=>0
 | o::os=>(if fA o.op then 1 else 0)+eT os
def De:List Rec->List Prop
 | []=>[]
 | r::rs=>r.ob++De rs
def zU (T:TT) (K:KT) (ops:Array Oper) (draw:Bool) (ov:mW) (st:St):Option (St×List Prop×mW):=
 match jD T K ops (eF 0 ops.toList ov st.h.length) ⟨st.σ,st.h++List.replicate (eT ops.toList) none⟩ with
 | some (st',rs)=>
   if draw then (if fV 0 ops.toList&&oN ops (sJ [] ops.toList) rs then some (st',De rs,Cs ops.toList ov) else none)
   else some (st',De rs,Cs ops.toList ov)
 | none=>none
theorem oQ:∀ (os:List Oper) (i:Nat) (ov:mW) (n:Nat),∀ p∈eF i os ov n,∃ k,p.1=i+k/\os[k]? =some p.2.o
 | [],_,_,_,p,h=>by simp[eF] at h
 | o ::os,i,ov,n,p,h=>by
   simp only[eF] at h;rcases List.mem_cons.1 h with rfl | h
   · exact⟨0,rfl,rfl⟩
   · obtain⟨k,h1,h2⟩:=oQ os _ _ _ p h
     exact⟨k+1,by omega,by simpa using h2⟩
theorem sL:∀ (os:List Oper) (i:Nat) (ov:mW) (n:Nat) (k:Nat),k<os.length->∃ x,(i+k,x)∈eF i os ov n
 | o::os,i,ov,n,0,_=>⟨_,by simp only[eF];exact List.mem_cons_self⟩
 | o::os,i,ov,n,k+1,h=>by
   obtain⟨x,hx⟩:=sL os (i+1) (zT o ov) (if fA o.op then n+1 else n) k (by simpa using h);exact⟨x,by simp only[eF];rw[show i+(k+1)=i+1+k from by omega];exact List.mem_cons_of_mem _ hx⟩
theorem jR:∀ (os:List Oper) (i:Nat) (ov:mW) (n:Nat),(eF i os ov n).Pairwise fun p q=>p.1<q.1
 | [],_,_,_=>by simp[eF]
 | o::os,i,ov,n=>by
   simp only[eF];refine List.pairwise_cons.2 ⟨fun q hq=> ?_,jR os _ _ _⟩;obtain⟨k,h,_⟩:=oQ os _ _ _ q hq;simp;omega
theorem sM:∀ (os:List Oper) (i:Nat) (ov:mW) (n:Nat),(∀ p∈eF i os ov n,fA p.2.o.op=true->n<=p.2.nid/\p.2.nid<n+eT os)/\
   (eF i os ov n).Pairwise fun p q=>fA p.2.o.op=true->fA q.2.o.op=true->p.2.nid≠q.2.nid
 | [],_,_,_=>by simp[eF]
 | o ::os,i,ov,n=>by
   obtain⟨h1,h2⟩:=sM os (i+1) (zT o ov) (if fA o.op then n+1 else n);simp only[eF,eT];refine⟨fun p hp hn=> ?_,List.pairwise_cons.2 ⟨fun q hq hx hn=> ?_,h2⟩⟩
   · rcases List.mem_cons.1 hp with rfl | hp
     · simp at hn;simp[hn];omega
     · have:=h1 p hp hn
       split at this <;> simp_all <;> omega
   · have:=h1 q hq hn
     simp at hx;simp[hx] at this;simp;omega
theorem hH:∀ (os:List Oper) (i:Nat) (ov:mW) (n:Nat),(eF i os ov n).length=os.length
 | [],_,_,_=>rfl
 | o::os,i,ov,n=>by simp[eF,hH os]
theorem oR:∀ (os:List Oper) (i:Nat) (ov:mW) (n:Nat),(eF i os ov n).map (·.1)=List.range' i os.length
 | [],_,_,_=>rfl
 | o::os,i,ov,n=>by simp[eF,oR os,List.range'_succ]
theorem sN:∀ (rs:List Rec),AllP (De rs)->∀ r∈rs,AllP r.ob
 | [],_,r,h=>by simp at h
 | q::rs,h,r,hr=>by
   obtain⟨h1,h2⟩:=AllP.app h;rcases List.mem_cons.1 hr with rfl | hr
   · exact h1
   · exact sN rs h2 r hr
theorem mB:∀ {rs:List Rec},oN ops bf rs=true->rs.Pairwise fun r s=>sK ops bf r s=true
 | [],_=>List.Pairwise.nil
 | r::rs,h=>by
   simp only[oN,Bool.and_eq_true] at h;exact List.pairwise_cons.2 ⟨fun s hs=>List.all_eq_true.1 h.1 s hs,mB h.2⟩
section
variable {P:Program} {S0 C0:Nat->Prop} {w0:World} {ρ:Nat->Nat} {D:Nat->Prop} {st:St} {a:Act} {w:World} {T:TT} {K:KT}
theorem Rel.more (R:Rel S0 C0 w0 ρ D st a w) (m:Nat):Rel S0 C0 w0 ρ D ⟨st.σ,st.h++List.replicate m none⟩ a w:=by
 have hget:∀ (l:Nat) (b:ABlk),(st.h++List.replicate m none)[l]? =some (some b)->st.h[l]? =some (some b):=by
   intro l b h;rcases Nat.lt_or_ge l st.h.length with hl | hl
   · rwa [List.getElem?_append_left hl] at h
   · rw[List.getElem?_append_right hl,List.getElem?_replicate] at h
     split at h <;> cases h
 have hget2:∀ (l:Nat) (b:ABlk),st.h[l]? =some (some b)->(st.h++List.replicate m none)[l]? =some (some b):=by
   intro l b h;rw[List.getElem?_append_left (List.getElem?_eq_some_iff.1 h).1];exact h
 have hS:Sof S0 ρ (st.h++List.replicate m none)=Sof S0 ρ st.h:=by
   funext k
   apply propext;unfold Sof;constructor
   · rintro(h | ⟨l,b,h,e⟩)
     · exact .inl h
     · exact .inr ⟨l,b,hget l b h,e⟩
   · rintro(h | ⟨l,b,h,e⟩)
     · exact .inl h
     · exact .inr ⟨l,b,hget2 l b h,e⟩
 exact {
   defers:=R.defers
   len:=R.len
   tmps:=by simp only[hS];exact R.tmps
   heap:=by simp only[hS];exact fun l b h=>R.heap l b (hget l b h)
   inj:=fun l l' b b' h h' e=>R.inj l l' b b' (hget l b h) (hget l' b' h') e
   lt:=R.lt
   dlt:=fun l h=>by have:=R.dlt l h;simp;omega
   chg:=R.chg
   mine:=fun l b h=>R.mine l b (hget l b h) }
theorem Rel.draw (R:Rel S0 C0 w0 ρ D st a w):Rel S0 C0 w0 ρ D st a { w with drawn:=w.drawn+1 }:=by
 have hk:Keep ρ (Sof S0 ρ st.h) w D ρ (Sof S0 ρ st.h) { w with drawn:=w.drawn+1 }:=⟨Nat.le_refl _,fun _ _=>⟨rfl,fun arr ty h=>⟨arr,ty,h,Nat.le_refl _⟩⟩,fun _ _ h=>⟨h,rfl⟩⟩
 exact {
   defers:=R.defers
   len:=R.len
   tmps:=fun t v h=>(R.tmps t v h).keep (fun _ h=>h) hk
   heap:=fun l b h=>⟨(R.heap l b h).1,(R.heap l b h).2.keep (fun _ h=>h) hk rfl rfl⟩
   inj:=R.inj
   lt:=R.lt
   dlt:=R.dlt
   chg:=⟨R.chg.os,R.chg.tape,R.chg.output,R.chg.size,R.chg.block,R.chg.row⟩
   mine:=R.mine }
theorem Ej (hm:P.follows .mixedOrders=true) (hT:lT P T) (hK:KOK P K) (R:Rel S0 C0 w0 ρ D st a w) {id:Nat} {ops:Array Oper} {draw:Bool} {ov ov':mW} {st':St} {ob:List Prop}
   (he:zU T K ops draw ov st=some (st',ob,ov')) (ho:AllP ob):
   (Code.region id ops draw).wp P (fun e a' w'=>e= .normal/\∃ ρ' D',Rel S0 C0 w0 ρ' D' st' a' w') a w:=by
 unfold zU at he
 split at he
 · rename_i st2 rs hrun
   have R1:=R.more (eT ops.toList);obtain⟨hnid,hap⟩:=sM ops.toList 0 ov st.h.length
   have hpend:Pend D (st.h++List.replicate (eT ops.toList) none) (eF 0 ops.toList ov st.h.length):=by
     refine⟨fun p hp hn=> ?_,hap⟩;obtain⟨h1,h2⟩:=hnid p hp hn;refine⟨?_,fun h=> ?_⟩
     · rw[List.getElem?_append_right h1,List.getElem?_replicate,if_pos (by omega)]
     · have:=R.dlt _ h;omega
   have hops:∀ p∈eF 0 ops.toList ov st.h.length,ops[p.1]? =some p.2.o:=by
     intro p hp;obtain⟨k,h1,h2⟩:=oQ _ _ _ _ p hp;rw[h1,Nat.zero_add];simpa using h2
   have hfin:∀ ρ' D' a' w',Rel S0 C0 w0 ρ' D' st2 a' w'->(fun e a' w'=>e=Exit.normal/\∃ ρ' D',Rel S0 C0 w0 ρ' D' st2 a' w') .normal a' w':=fun ρ' D' a' w' h=>⟨rfl,ρ',D',h⟩
   cases draw with
   | false=>
     simp only[Bool.false_eq_true,if_false] at he;injection he with he;simp only[Prod.mk.injEq] at he;obtain⟨rfl,rfl,rfl⟩:=he;refine wp_region ?_
     have:=Bf (P:=P) (ops:=ops) (Q:=fun e a' w'=>e=Exit.normal/\∃ ρ' D',Rel S0 C0 w0 ρ' D' st2 a' w') hT hK _ ρ D _ _ a w rs R1 hpend hops hrun (sN rs ho) hfin;rw[oR] at this;rw[List.range_eq_range'];simpa using this
   | true=>
     simp only[if_true] at he
     split at he
     · rename_i hc
       rw[Bool.and_eq_true] at hc;injection he with he;simp only[Prod.mk.injEq] at he;obtain⟨rfl,rfl,rfl⟩:=he;refine wp_region_any hm ?_;refine Ei (P:=P) hT hK hc.1 hfin ops.size _ (eF 0 ops.toList ov st.h.length) rs ⟨st.σ,st.h++List.replicate (eT ops.toList) none⟩ a _ ρ D (by rw[hH];simp) ?_
       exact {
         rel:=R1.draw
         run:=hrun
         obs:=sN rs ho
         pend:=hpend
         size:=by simp
         mem:=fun i hi=>⟨fun _=>by have:=sL ops.toList 0 ov st.h.length i (by simpa using hi);simpa using this,fun _=>by simp[Array.getD,hi]⟩
         sorted:=jR _ _ _ _
         ops_:=hops
         closed:=fun k o hk hl=>by
           have:=(Array.getElem?_eq_some_iff.1 hk).1;simp[Array.getD,this] at hl
         pairs:=mB hc.2 }
     · cases he
 · cases he
end
def Fp (T:TT) (K:KT):List Item->St->mW->Option (List Item×St×List Prop×mW)
 | .code .skip::k,st,ov=>some (k,st,[],ov)
 | .code (.seq x y)::k,st,ov=>some (.code x:: .code y::k,st,[],ov)
 | .code (.cond c x y)::k,st,ov=>match bI st.σ c with
   | .bool true=>some (.code x::k,st,[],ov)
   | .bool false=>some (.code y::k,st,[],ov)
   | _=>none
 | .code (.block id c)::k,st,ov=>some (.code c:: .inBlock id::k,st,[],ov)
 | .inBlock _::k,st,ov=>some (k,st,[],ov)
 | .code (.loop c)::k,st,ov=>some (.code c:: .inLoop c::k,st,[],ov)
 | .inLoop c::k,st,ov=>some (.code c:: .inLoop c::k,st,[],ov)
 | .code (.exit id)::k,st,ov=>match exitTo id k with
   | some k'=>some (k',st,[],ov)
   | none=>none
 | .code (.region _ ops draw)::k,st,ov=>match zU T K ops draw ov st with
   | some (st',ob,ov')=>some (k,st',ob,ov')
   | none=>none
 | _,_,_=>none
def Lr:List Item->Bool
 | .code (.loop _)::_=>true
 | .inLoop _::_=>true
 | _=>false
def NJ (stop:Option Nat):List Item->Bool
 | []=>true
 | .code .ret::_=>true
 | .code (.region id _ _)::_=>stop==some id
 | _=>false
def xU (T:TT) (K:KT) (stop:Option Nat):Nat->List Item->St->mW->Option (List Item×St×List Prop)
 | 0,_,_,_=>none
 | f + 1,todo,st,ov=>match Fp T K todo st ov with
   | some (t1,st1,ob,ov1)=>
     if Lr todo||NJ stop t1 then (match ov1 with
       | []=>some (t1,st1,ob)
       | _=>none)
     else match xU T K stop f t1 st1 ov1 with
       | some (t2,st2,ob2)=>some (t2,st2,ob++ob2)
       | none=>none
   | none=>none
def Good (P:Program) (f:FuncId) (S0 C0:Nat->Prop) (w0:World) (Post:Value->World->Prop) (todo:List Item) (st:St):Prop:=
 ∀ ρ D a w,Rel S0 C0 w0 ρ D st a w->∀ (b:Frame) cs,b.fn=f->b.kind= .normal->
   ∃ v w' fr,Post v w'/\Steps P (lone (b.at a todo) cs w) (lone fr cs w')/\fr.fn=f/\fr.leaving P w' (.returned v)
section
variable {P:Program} {f:FuncId} {S0 C0:Nat->Prop} {w0:World} {Post:Value->World->Prop} {T:TT} {K:KT}
theorem Good.pre (h:Good P f S0 C0 w0 Post todo' st)
   (hs:∀ (b:Frame) (a:Act) cs w ρ D,Rel S0 C0 w0 ρ D st a w->step P (lone (b.at a todo) cs w)= .next (lone (b.at a todo') cs w)):Good P f S0 C0 w0 Post todo st:=by
 intro ρ D a w R b cs hb hk;obtain⟨v,w',fr,h1,h2,h3⟩:=h ρ D a w R b cs hb hk;exact⟨v,w',fr,h1,.head (hs b a cs w ρ D R) h2,h3⟩
theorem Bj (hm:P.follows .mixedOrders=true) (hT:lT P T) (hK:KOK P K) {todo t1:List Item} {st st1:St} {ov ov1:mW} {ob:List Prop} (he:Fp T K todo st ov=some (t1,st1,ob,ov1)) (ho:AllP ob)
   (h:Good P f S0 C0 w0 Post t1 st1):Good P f S0 C0 w0 Post todo st:=by
 unfold Fp at he
 split at he
 · injection he with he;simp only[Prod.mk.injEq] at he;obtain⟨rfl,rfl,_⟩:=he
   exact h.pre fun b a cs w ρ D R=>step_skip
 · injection he with he;simp only[Prod.mk.injEq] at he;obtain⟨rfl,rfl,_⟩:=he
   exact h.pre fun b a cs w ρ D R=>step_seq
 · split at he
   · rename_i hc
     injection he with he;simp only[Prod.mk.injEq] at he;obtain⟨rfl,rfl,_⟩:=he;refine h.pre fun b a cs w ρ D R=> ?_
     have:=R.eval (S0:=S0) (C0:=C0) ‹Operand›;rw[hc] at this;exact step_cond this.bool_inv
   · rename_i hc
     injection he with he;simp only[Prod.mk.injEq] at he;obtain⟨rfl,rfl,_⟩:=he;refine h.pre fun b a cs w ρ D R=> ?_
     have:=R.eval (S0:=S0) (C0:=C0) ‹Operand›;rw[hc] at this;exact step_cond this.bool_inv
   · cases he
 · injection he with he;simp only[Prod.mk.injEq] at he;obtain⟨rfl,rfl,_⟩:=he
   exact h.pre fun b a cs w ρ D R=>step_block
 · injection he with he;simp only[Prod.mk.injEq] at he;obtain⟨rfl,rfl,_⟩:=he
   exact h.pre fun b a cs w ρ D R=>step_inBlock
 · injection he with he;simp only[Prod.mk.injEq] at he;obtain⟨rfl,rfl,_⟩:=he
   exact h.pre fun b a cs w ρ D R=>step_loop
 · injection he with he;simp only[Prod.mk.injEq] at he;obtain⟨rfl,rfl,_⟩:=he
   exact h.pre fun b a cs w ρ D R=>step_inLoop
 · split at he
   · rename_i k' hx
     injection he with he;simp only[Prod.mk.injEq] at he;obtain⟨rfl,rfl,_⟩:=he;exact h.pre fun b a cs w ρ D R=>step_exit hx
   · cases he
 · split at he
   · rename_i st' ob' ov' hr
     injection he with he;simp only[Prod.mk.injEq] at he;obtain⟨rfl,rfl,rfl,rfl⟩:=he;intro ρ D a w R b cs hb hk;obtain⟨e,a',w',⟨rfl,ρ',D',R'⟩,harr⟩:=Ej hm hT hK R hr ho b _ cs;obtain⟨v,w2,fr,h1,h2,h3⟩:=h ρ' D' a' w' R' b cs hb hk;exact⟨v,w2,fr,h1,Steps.trans harr h2,h3⟩
   · cases he
 · cases he
theorem tY (hm:P.follows .mixedOrders=true) (hT:lT P T) (hK:KOK P K):∀ (n:Nat) {todo t1:List Item} {st st1:St} {ov:mW} {ob:List Prop},xU T K stop n todo st ov=some (t1,st1,ob)->AllP ob->
   Good P f S0 C0 w0 Post t1 st1->Good P f S0 C0 w0 Post todo st
 | 0,_,_,_,_,_,_,he,_,_=>by simp[xU] at he
 | n + 1,todo,t1,st,st1,ov,ob,he,ho,h=>by
   simp only[xU] at he
   split at he
   · rename_i t2 st2 ob2 ov2 hs
     split at he
     · split at he
       · injection he with he;simp only[Prod.mk.injEq] at he;obtain⟨rfl,rfl,rfl⟩:=he
         exact Bj hm hT hK hs ho h
       · cases he
     · split at he
       · rename_i t3 st3 ob3 hr
         injection he with he;simp only[Prod.mk.injEq] at he;obtain⟨rfl,rfl,rfl⟩:=he;obtain⟨o1,o2⟩:=ho.app;exact Bj hm hT hK hs o1 (tY hm hT hK n hr o2 h)
       · cases he
   · cases he
def Df (T:TT) (st:St):ResultVar->Option AV
 | .tmp t=>some (st.σ.getD t .any)
 | .cell p t=>match T t,st.σ.getD p .any with
   | some ti,.ptr l e i o=>match st.h[l]? with
     | some (some b)=>if b.e=e then (match b.elems[i]? with
       | some el=>match AU o ti.sz el with
         | some cs=>Iv ti cs
         | none=>none
       | none=>none) else none
     | _=>none
   | _,_=>none
def zV (T:TT) (st:St):List ResultVar->Option (List AV)
 | []=>some []
 | r::rs=>match Df T st r,zV T st rs with
   | some v,some vs=>some (v::vs)
   | _,_=>none
def mC:List AV->AV
 | [v]=>v
 | vs=>.tup vs
theorem Ek (hT:lT P T) (R:Rel S0 C0 w0 ρ D st a w) (he:Df T st r=some V):
   ∃ v,(match r with | .tmp t=>pure (a.tmps.getD t undef) | .cell p t=>do loadVar t (<- asAddr (a.tmps.getD p undef)):Sem Value).run P w= .ok v w/\RelV ρ (Sof S0 ρ st.h) w D V v:=by
 cases r with
 | tmp t=>
   simp only[Df] at he;injection he with he;subst he;exact⟨a.tmps.getD t undef,rfl,R.eval (.tmp t)⟩
 | cell p t=>
   simp only[Df] at he
   split at he
   · rename_i ti l e i o hi hp
     split at he
     · rename_i b hb
       split at he
       · rename_i hbe
         split at he
         · rename_i el hel
           split at he
           · rename_i cs hcs
             have hx:RelV ρ (Sof S0 ρ st.h) w D (.ptr l e i o) (a.tmps.getD p undef):=by rw[<- hp];exact R.eval (.tmp p)
             obtain⟨hv,hD⟩:=lW hx;obtain⟨v,h1,h2⟩:=AY (P:=P) (T:=T) (hT _ _ hi) (R.heap l b hb).2 hel hcs he;refine⟨v, ?_,h2⟩;simp only[hv,asAddr,Sem.run_bind,Sem.run_pure,Result.andThen_ok];rw[<- hbe];exact h1
           · cases he
         · cases he
       · cases he
     · cases he
   · cases he
theorem Bk (hT:lT P T) (R:Rel S0 C0 w0 ρ D st a w):∀ (rs:List ResultVar) (Vs:List AV),zV T st rs=some Vs->
   ∃ vs:List Value,(rs.mapM (fun | .tmp t=>pure (a.tmps.getD t undef) | .cell p t=>do loadVar t (<- asAddr (a.tmps.getD p undef)):ResultVar->Sem Value)).run P w= .ok vs w/\vs.length=Vs.length/\
     ∀ (i:Nat) (V:AV) (v:Value),Vs[i]? =some V->vs[i]? =some v->RelV ρ (Sof S0 ρ st.h) w D V v
 | [],Vs,he=>by
   simp only[zV] at he;injection he with he;subst he;exact⟨[],rfl,rfl,fun i V v h=>by simp at h⟩
 | r ::rs,Vs,he=>by
   simp only[zV] at he
   split at he
   · rename_i V Vs' h1 h2
     injection he with he;subst he;obtain⟨v,g1,g2⟩:=Ek hT R h1;obtain⟨vs,g3,g4,g5⟩:=Bk hT R rs Vs' h2;refine⟨v::vs, ?_,by simp[g4],fun i V' v' hV hv=> ?_⟩
     · rw[List.mapM_cons]
       simp only[Sem.run_bind];cases r <;> simp only[Sem.run_bind] at g1 g3 ⊢ <;> rw[g1] <;> simp only[Result.andThen_ok,g3,Sem.run_pure]
     · cases i with
       | zero=>simp at hV hv;subst hV;subst hv;exact g2
       | succ i=>exact g5 i V' v' (by simpa using hV) (by simpa using hv)
   · cases he
theorem Bl:∀ (Vs:List AV) (vs:List Value),vs.length=Vs.length->(∀ (i:Nat) (V:AV) (v:Value),Vs[i]? =some V->vs[i]? =some v->RelV ρ S w D V v)->
   Vs.all cQ=true->RelVs ρ S w D Vs vs
 | [],[],_,_,_=>trivial
 | V::Vs,v::vs,hl,h,hn=>by
   simp only[List.all_cons,Bool.and_eq_true] at hn;exact⟨(h 0 V v rfl rfl).to0 hn.1,Bl Vs vs (by simpa using hl) (fun i V' v' h1 h2=>h (i+1) V' v' (by simpa using h1) (by simpa using h2)) hn.2⟩
 | [],_::_,h,_,_=>by simp at h
 | _::_,[],h,_,_=>by simp at h
def yI (V:AV):Bool:=
 match V with
 | .tup vs=>vs.all eC&&vs.all cQ
 | v=>eC v
theorem sO (h:RelV ρ S w D V v) (ho:yI V=true) (hS:∀ k,S' k->S k):RelV ρ0 S' w No V v:=by
 have hk:∀ ρ',Keep ρ' S w No ρ' S' w:=fun ρ'=>⟨Nat.le_refl _,fun l h=>h.elim,fun k _ hs=>⟨fun h=>hs (hS k h),rfl⟩⟩
 cases V
 case tup vs=>
   obtain⟨us,hv,hr⟩:=h;simp only[yI,Bool.and_eq_true] at ho;refine⟨us,hv, ?_⟩
   have key:∀ (vs:List AV) (us:List Value),vs.all eC=true->vs.all cQ=true->RelVs ρ S w D vs us->RelVs ρ0 S' w No vs us:=by
     intro vs
     induction vs with
     | nil=>intro us _ _ h;cases us <;> first | trivial | exact h.elim
     | cons c vs ih=>
       intro us h1 h2 h;cases us with
       | nil=>exact h.elim
       | cons u us=>
         simp only[List.all_cons,Bool.and_eq_true] at h1 h2;exact⟨(RelV0.noRef (RelV.of0 h.1) h1.1 ρ0).keep (fun _ h=>h) (hk ρ0),ih us h1.2 h2.2 h.2⟩
   exact key vs us ho.1 ho.2 hr
 all_goals
   exact RelV.of0 ((RelV0.noRef h ho ρ0).keep (fun _ h=>h) (hk ρ0))
theorem qU (hT:lT P T) (hf:P.funcs[f]? =some fn) (htodo:todo= []\/∃ k,todo= .code .ret::k) (he:zV T st fn.results.toList=some Vs)
   (hn:Vs.length=1\/Vs.all cQ=true) (hpost:∀ ρ D a w v,Rel S0 C0 w0 ρ D st a w->RelV ρ (Sof S0 ρ st.h) w D (mC Vs) v->Post v w):Good P f S0 C0 w0 Post todo st:=by
 intro ρ D a w R b cs hb hk;obtain⟨vs,h1,h2,h3⟩:=Bk hT R fn.results.toList Vs he
 have hres:∃ v,(results fn a.tmps).run P w= .ok v w/\RelV ρ (Sof S0 ρ st.h) w D (mC Vs) v:=by
   have hm:(fn.results.mapM (fun | .tmp t=>pure (a.tmps.getD t undef) | .cell p t=>do loadVar t (<- asAddr (a.tmps.getD p undef)):ResultVar->Sem Value)).run P w= .ok vs.toArray w:=by
     rw[Array.mapM_eq_mapM_toList]
     have:∀ (x:Sem (List Value)),(x.run P w= .ok vs w)->(List.toArray<$>x).run P w= .ok vs.toArray w:=by
       intro x hx;have e:(List.toArray<$>x)=x.bind (fun l=>Pure.pure l.toArray):=rfl;rw[e]
       have:=Sem.run_bind' P x (fun l=>(Pure.pure l.toArray:Sem (Array Value))) w;rw[this,hx];rfl
     exact this _ h1
   have e:(results fn a.tmps).run P w= .ok (if h:vs.toArray.size=1 then vs.toArray[0] else .tuple vs.toArray) w:=by
     unfold results;rw[Sem.run_bind];exact(congrArg (fun r=>Result.andThen r _) hm).trans rfl
   refine⟨_,e, ?_⟩
   match Vs,vs,h2,h3,hn with
   | [V],[v],_,h3,_=>exact h3 0 V v rfl rfl
   | [],[],_,h3,hn=>exact⟨[],by simp,trivial⟩
   | V::V'::Vs,v::v'::vs,h2,h3,hn=>
     have hne:¬ (v::v'::vs).toArray.size=1:=by simp
     rw[dif_neg hne];refine⟨v::v'::vs,rfl,Bl _ _ h2 h3 (hn.resolve_left (by simp))⟩
 obtain⟨v,hr,hv⟩:=hres;have hP:=hpost ρ D a w v R hv
 have leave:∀ todo,({ b.at a todo with mode:=.returning }:Frame).leaving P w (.returned v):=by
   intro todo;refine⟨rfl,R.defers,hk,fn, ?_,hr⟩;show P.funcs[b.fn]? =some fn;rw[hb];exact hf
 rcases htodo with rfl | ⟨k,rfl⟩
 · exact⟨v,w,_,hP,.one step_end,hb,leave _⟩
 · exact⟨v,w,_,hP,.one step_ret,hb,leave _⟩
def eN (S:Nat->Prop) (w0:World) (r:AV):Value->World->Prop:=fun v w'=>RelV ρ0 S w' No r v/\Chg No w0 w'
theorem fF (hT:lT P T) (hf:P.funcs[f]? =some fn) (htodo:todo= []\/∃ k,todo= .code .ret::k) (he:zV T st fn.results.toList=some Vs)
   (hn:(Vs.length==1||Vs.all cQ)=true) (ho:yI (mC Vs)=true) (href:Ref (mC Vs) r):Good P f S0 No w0 (eN S0 w0 r) todo st:=by
 refine qU hT hf htodo he (by simpa using hn) fun ρ D a w v R hv=>⟨?_,R.chg⟩
 exact href _ _ _ _ _ (sO hv ho (fun k h=>.inl h))
def kY (args:List AV) (n:Nat):St:=⟨args++List.replicate (n-args.length) .any,[]⟩
theorem tZ (hf:P.funcs[f]? =some fn) (hb:fn.body=some c) (hname:(fn.name== "runtime.NumGoroutine")=false)
   (h:∀ (S:Nat->Prop) (w0:World),Good P f S No w0 (eN S w0 r) [.code c] (kY args fn.ntmps)):qL P f args r:=by
 refine⟨⟨fn,hf,hname,by rw[hb];rfl⟩,fun S w vals hS hargs cs=> ?_⟩
 let b:Frame:={ (default:Frame) with fn:=f,kind:=.normal }
 have hlen:∀ (aS:List AV) (vs:List Value),RelVs ρ0 S w No aS vs->vs.length=aS.length:=by
   intro aS
   induction aS with
   | nil=>intro vs h;cases vs <;> first | rfl | exact h.elim
   | cons c aS ih=>
     intro vs h;cases vs with
     | nil=>exact h.elim
     | cons v vs=>simp[ih vs h.2]
 have hget:∀ (aS:List AV) (vs:List Value),RelVs ρ0 S w No aS vs->∀ (i:Nat) (v:Value),vs[i]? =some v->RelV ρ0 S w No (aS.getD i .any) v:=by
   intro aS
   induction aS with
   | nil=>intro vs h i v hv;cases vs <;> first | exact h.elim | simp at hv
   | cons c aS ih=>
     intro vs h i v hv;cases vs with
     | nil=>exact h.elim
     | cons u vs=>
       cases i with
       | zero=>simp at hv;subst hv;exact RelV.of0 h.1
       | succ i=>exact ih vs h.2 i v (by simpa using hv)
 have hSof:Sof S ρ0 []=S:=by
   funext k;apply propext;unfold Sof;simp
 have R:Rel S No w ρ0 No (kY args fn.ntmps) { tmps:=vals.toArray++Array.replicate (fn.ntmps-vals.toArray.size) undef,defers:=[] } w:={
   defers:=rfl
   len:=by simp[kY,hlen _ _ hargs]
   tmps:=by
     intro t v hv;simp only[kY,hSof];rcases Nat.lt_or_ge t vals.length with h | h
     · rw[Array.getElem?_append_left (by simpa using h)] at hv
       have h2:t<args.length:=by rw[<- hlen _ _ hargs];exact h
       have:=hget _ _ hargs t v (by simpa using hv);simpa[List.getD_eq_getElem?_getD,List.getElem?_append_left h2] using this
     · have h2:args.length<=t:=by rw[<- hlen _ _ hargs];exact h
       have:(args++List.replicate (fn.ntmps-args.length) AV.any).getD t .any= .any:=by
         simp only[List.getD_eq_getElem?_getD,List.getElem?_append_right h2,List.getElem?_replicate]
         split <;> rfl
       rw[this];trivial
   heap:=fun l b h=>by simp[kY] at h
   inj:=fun l l' b b' h=>by simp[kY] at h
   lt:=hS
   dlt:=fun l h=>h.elim
   chg:=Chg.refl _ _
   mine:=fun l b h=>by simp[kY] at h }
 obtain⟨v,w',fr,hP,hsteps,hfn,hleave⟩:=h S w ρ0 No _ w R b cs rfl rfl
 have henter:Frame.enter P f vals.toArray .normal=b.at { tmps:=vals.toArray++Array.replicate (fn.ntmps-vals.toArray.size) undef,defers:=[] } [.code c]:=by
   simp[Frame.enter,Frame.at,hf,hb,b]
 exact⟨.returned v,w',fr,⟨v,rfl,hP.1,hP.2⟩,by rw[henter];exact hsteps,hfn,hleave⟩
end
def Ls:AV->List Value->Option (List Value)
 | .q x _,.bool false:: .slice none 0 0:: .slice none 0 0::vs=>if x=0 then some vs else none
 | .z n _,.bool false:: .slice none 0 0::vs=>if n=0 then some vs else none
 | .rq x d _,.bool false:: .slice none 0 0:: .bool false:: .slice none 0 0::vs=>if x=0/\d=0 then some vs else none
 | .rz n _,.bool false:: .slice none 0 0::vs=>if n=0 then some vs else none
 | .nat n _,.slice none 0 0::vs=>if n=0 then some vs else none
 | .dig n _,.slice none 0 0::vs=>if n=0 then some vs else none
 | .nil,.slice none 0 0::vs=>some vs
 | .int k n,.int k' n'::vs=>if k=k'/\n=n' then some vs else none
 | .bool b,.bool b'::vs=>if b=b' then some vs else none
 | .str s,.string s'::vs=>if s.data.toList=s'.data.toList then some vs else none
 | .lit (.pointer none),.pointer none::vs=>some vs
 | .lit .nilFunc,.nilFunc::vs=>some vs
 | .lit .nilIface,.nilIface::vs=>some vs
 | .lit (.map none),.map none::vs=>some vs
 | _,_=>none
def NK:List AV->List Value->Bool
 | [],[]=>true
 | c::cs,vs=>match Ls c vs with
   | some us=>NK cs us
   | none=>false
 | [],_::_=>false
section
theorem Bm (h:RelCs ρ S w D cs vs):RelCs ρ S w D (.list e []::cs) (.slice none 0 0::vs):=
 .list (xs:=[]) (fun _=>[]) (by simp) (by simp[big]) (by simp) (by simp) (by simp) h
theorem uA (h:RelCs ρ S w D cs vs):RelCs ρ S w D (.nat 0 B::cs) (.slice none 0 0::vs):=
 .nat [] ⟨by simp,by simp⟩ rfl (Nat.pow_pos (by omega)) (Bm h)
theorem uB (h:RelCs ρ S w D cs vs):RelCs ρ S w D (.dig 0 B::cs) (.slice none 0 0::vs):=
 .dig [] ⟨by simp,by simp⟩ rfl (Nat.pow_pos (by omega)) (Bm h)
theorem Fq (e:Ls c vs=some us) (h:RelCs ρ S w D cs us):RelCs ρ S w D (c::cs) vs:=by
 unfold Ls at e
 split at e
 · split at e
   · rename_i h0;injection e with e;subst e;subst h0;exact .q (.z (.bool (uA (uA h))))
   · cases e
 · split at e
   · rename_i h0;injection e with e;subst e;subst h0;exact .z (.bool (uA h))
   · cases e
 · split at e
   · rename_i h0;injection e with e;subst e;obtain⟨rfl,rfl⟩:=h0
     exact .rq (.inr ⟨rfl,rfl⟩) (.rz (.bool (uB (.rz (.bool (uB h))))))
   · cases e
 · split at e
   · rename_i h0;injection e with e;subst e;subst h0;exact .rz (.bool (uB h))
   · cases e
 · split at e
   · rename_i h0;injection e with e;subst e;subst h0;exact uA h
   · cases e
 · split at e
   · rename_i h0;injection e with e;subst e;subst h0;exact uB h
   · cases e
 · injection e with e;subst e;exact .nil h
 · split at e
   · rename_i h0;injection e with e;subst e;obtain⟨rfl,rfl⟩:=h0;exact .int h
   · cases e
 · split at e
   · rename_i h0;injection e with e;subst e;subst h0;exact .bool h
   · cases e
 · split at e
   · rename_i s s' vs' h0
     injection e with e;subst e
     have:s=s':=by
       cases s;cases s';simp only at h0
       congr 1
       exact Array.ext' h0
     subst this;exact .str h
   · cases e
 · injection e with e;subst e;exact .lit rfl h
 · injection e with e;subst e;exact .lit rfl h
 · injection e with e;subst e;exact .lit rfl h
 · injection e with e;subst e;exact .lit rfl h
 · cases e
theorem Dg:∀ {cs:List AV} {vs:List Value},NK cs vs=true->RelCs ρ S w D cs vs
 | [],[],_=>.done
 | c ::cs,vs,h=>by
   simp only[NK] at h
   split at h
   · rename_i us hu
     exact Fq hu (Dg h)
   · cases h
 | [],_::_,h=>by simp[NK] at h
end
def Lt (P:Program):TK->TypeDesc->Bool
 | .struct fs,.struct fields=>decide (fields.toList.map (fun f=>(f.offset,((P.info? f.type).map (·.size)).getD 0,f.type))=fs)&&fields.toList.all fun f=>((P.info? f.type).map (·.size)).isSome
 | .slice e,.slice e'=>e==e'
 | .array n e,.array n' e'=>n==n'&&e==e'
 | .int k,.int k'=>decide (k=k')
 | .bool,.bool=>true
 | .string,.string=>true
 | .ptr e,.pointer e'=>e==e'
 | .other,.struct _=>false
 | .other,.array _ _=>false
 | .other,_=>true
 | _,_=>false
def IH (P:Program) (t:Nat) (i:TI):Bool:=
 match P.info? t,P.underlying t with
 | some info,some d=>info.size==i.sz&&info.bytes==i.bytes&&Lt P i.k d&&(match info.zero with | some z=>NK i.zero z.cells.toList | none=>false)&&(i.agg||i.sz==1)&&tU i.zero==i.sz
 | _,_=>false
theorem II (h:Lt P k d=true):TKOK P k d:=by
 cases k <;> cases d <;> simp only[Lt] at h <;> first
   | trivial
   | (exfalso;revert h;simp;done)
   | (simpa[TKOK] using h)
   | skip
 rw[Bool.and_eq_true,decide_eq_true_eq] at h;exact⟨h.1,fun f hf=>List.all_eq_true.1 h.2 f hf⟩
theorem IJ (h:IH P t i=true):TIOK P t i:=by
 unfold IH at h
 split at h
 · rename_i info d h1 h2
   simp only[Bool.and_eq_true,beq_iff_eq,Bool.or_eq_true] at h;obtain⟨⟨⟨⟨⟨a1,a2⟩,a3⟩,a4⟩,a5⟩,a6⟩:=h;refine⟨⟨info,d,h1,h2,a1,a2,II a3, ?_⟩,a5,a6⟩
   split at a4
   · rename_i z hz
     exact⟨z,hz,fun ρ S w D=>Dg a4⟩
   · cases a4
 · cases h
def IK (l:List (Nat×TI)) (t:Nat):Option TI:=
 match l with
 | []=>none
 | (k,i)::r=>if k==t then some i else IK r t
theorem IL (h:l.all (fun p=>IH P p.1 p.2)=true):lT P (IK l):=by
 induction l with
 | nil=>intro t i e;cases e
 | cons p l ih=>
   obtain⟨k,j⟩:=p;simp only[List.all_cons,Bool.and_eq_true] at h;intro t i e;simp only[IK] at e
   split at e
   · rename_i hk
     injection e with e;subst e;have:k=t:=by simpa using hk
     subst this;exact IJ h.1
   · exact ih h.2 t i e
end Go.Av
namespace Go.Av
open Go.Proofs
def Ut:List (Nat×TI):=[
 (56,⟨3,56,[.q 0 0],.struct [(0,2,54),(2,1,52)]⟩),
 (3,⟨1,8,[.int .i64 0],.int .i64⟩),
 (58,⟨6,112,[.q 0 0,.q 0 0],.struct [(0,3,56),(3,3,56)]⟩),
 (66,⟨4,64,[.rq 0 0 0],.struct [(0,2,64),(2,2,64)]⟩),
 (41,⟨6,136,[.str ⟨#[]⟩,.nil,.nil,.nil,.nil,.nil],.struct [(0,1,9),(1,1,35),(2,1,36),(3,1,37),(4,1,38),(5,1,39)]⟩),
 (59,⟨1,24,[.nil],.slice 56⟩),
 (61,⟨10,192,[.q 0 0,.q 0 0,.q 0 0,.nil],.struct [(0,6,58),(6,3,56),(9,1,59)]⟩),
 (68,⟨8,128,[.rq 0 0 0,.rq 0 0 0],.struct [(0,4,66),(4,4,66)]⟩),
 (64,⟨2,32,[.bool false,.nil],.struct [(0,1,4),(1,1,62)]⟩),
 (62,⟨1,24,[.nil],.slice 3⟩),
 (52,⟨1,24,[.nat 0 0],.slice 362⟩),
 (2,⟨1,8,[.int .i64 0],.int .i64⟩),
 (4,⟨1,1,[.bool false],.bool⟩),
 (75,⟨1,8,[.int .i64 0],.int .i64⟩),
 (106,⟨9,168,[.q 0 0,.q 0 0,.q 0 0],.struct [(0,3,56),(3,3,56),(6,3,56)]⟩),
 (276,⟨6,112,[.q 0 0,.q 0 0],.struct [(0,3,56),(3,3,56)]⟩),
 (112,⟨1,24,[.nil],.slice 58⟩),
 (295,⟨8,128,[.rq 0 0 0,.rq 0 0 0],.struct [(0,4,66),(4,4,66)]⟩),
 (362,⟨1,4,[.int .u32 0],.int .u32⟩),
 (35,⟨1,24,[.nil],.slice 114⟩),
 (48,⟨5,120,[.nil,.nil,.nil,.nil,.nil],.struct [(0,1,42),(1,1,43),(2,1,44),(3,1,45),(4,1,46)]⟩),
 (138,⟨1,24,[.nil],.slice 68⟩),
 (114,⟨27,496,[.str ⟨#[]⟩,.int .i64 0,.q 0 0,.q 0 0,.q 0 0,.q 0 0,.q 0 0,.q 0 0,.q 0 0,.q 0 0,.nil],.struct [(0,1,9),(1,1,3),(2,6,58),(8,3,56),(11,3,56),(14,6,58),(20,3,56),(23,3,56),(26,1,112)]⟩),
 (54,⟨2,32,[.z 0 0],.struct [(0,1,4),(1,1,52)]⟩),
 (474,⟨9,184,[.int .i64 0,.nil,.nil,.nil,.nil,.nil,.q 0 0],.struct [(0,1,3),(1,1,62),(2,1,62),(3,1,88),(4,1,59),(5,1,59),(6,3,56)]⟩),
 (162,⟨17,312,[.bool false,.q 0 0,.q 0 0,.q 0 0,.q 0 0,.q 0 0,.nil],.struct [(0,1,4),(1,6,58),(7,6,58),(13,3,56),(16,1,59)]⟩),
 (274,⟨3,56,[.q 0 0],.struct [(0,3,56)]⟩),
 (27,⟨5,120,[.nil,.nil,.nil,.nil,.nil],.struct [(0,1,22),(1,1,23),(2,1,23),(3,1,24),(4,1,25)]⟩),
 (361,⟨1,8,[.int .u64 0],.int .u64⟩),
 (147,⟨12,152,[.bool false,.q 0 0,.q 0 0,.bool false,.bool false,.int .i64 0,.int .i64 0,.int .i64 0],.struct [(0,1,4),(1,3,56),(4,3,56),(7,1,4),(8,1,4),(9,1,75),(10,1,75),(11,1,75)]⟩),
 (71,⟨13,216,[.rq 0 0 0,.rq 0 0 0,.rq 0 0 0,.nil],.struct [(0,8,68),(8,4,66),(12,1,69)]⟩),
 (29,⟨3,24,[.int .i64 0,.int .i64 0,.int .u8 0],.struct [(0,1,2),(1,1,2),(2,1,5)]⟩),
 (9,⟨1,16,[.str ⟨#[]⟩],.string⟩),
 (149,⟨1,24,[.nil],.slice 58⟩),
 (42,⟨1,24,[.nil],.slice 184⟩),
 (293,⟨4,64,[.rq 0 0 0],.struct [(0,4,66)]⟩),
 (31,⟨6,48,[.int .i64 0,.int .i64 0,.int .u8 0,.int .i64 0,.int .i64 0,.int .u8 0],.struct [(0,3,29),(3,3,29)]⟩),
 (278,⟨12,224,[.q 0 0,.q 0 0,.q 0 0,.q 0 0],.struct [(0,6,276),(6,6,276)]⟩),
 (121,⟨12,192,[.rq 0 0 0,.rq 0 0 0,.rq 0 0 0],.struct [(0,4,66),(4,4,66),(8,4,66)]⟩),
 (88,⟨1,24,[.nil],.slice 59⟩),
 (387,⟨2,32,[.int .i64 0,.nil],.struct [(0,1,3),(1,1,385)]⟩),
 (34,⟨10,96,[.int .i64 0,.int .i64 0,.int .u8 0,.int .i64 0,.int .i64 0,.int .u8 0,.int .i64 0,.int .i64 0,.int .u8 0,.nil],.struct [(0,6,31),(6,3,29),(9,1,32)]⟩),
 (98,⟨6,112,[.q 0 0,.q 0 0],.struct [(0,3,56),(3,3,56)]⟩),
 (175,⟨12,224,[.q 0 0,.q 0 0,.q 0 0,.q 0 0],.struct [(0,6,58),(6,6,98)]⟩),
 (385,⟨1,24,[.nil],.slice 391⟩),
 (467,⟨1,8,[.lit (.pointer none)],.ptr 474⟩),
 (179,⟨16,256,[.rq 0 0 0,.rq 0 0 0,.rq 0 0 0,.rq 0 0 0],.struct [(0,8,68),(8,8,177)]⟩),
 (5,⟨1,1,[.int .u8 0],.int .u8⟩),
 (313,⟨18,336,[.q 0 0,.q 0 0,.q 0 0,.q 0 0,.q 0 0,.q 0 0],.struct [(0,6,58),(6,6,58),(12,3,56),(15,3,56)]⟩),
 (89,⟨1,24,[.nil],.slice 59⟩),
 (110,⟨19,344,[.q 0 0,.q 0 0,.q 0 0,.q 0 0,.q 0 0,.q 0 0,.bool false],.struct [(0,9,106),(9,9,106),(18,1,4)]⟩),
 (409,⟨7,136,[.int .u8 0,.q 0 0,.nil,.nil,.nil],.struct [(0,1,5),(1,3,56),(4,1,59),(5,1,59),(6,1,59)]⟩),
 (39,⟨1,24,[.nil],.slice 245⟩),
 (297,⟨16,256,[.rq 0 0 0,.rq 0 0 0,.rq 0 0 0,.rq 0 0 0],.struct [(0,8,295),(8,8,295)]⟩),
 (37,⟨1,24,[.nil],.slice 233⟩),
 (32,⟨1,24,[.nil],.slice 29⟩),
 (177,⟨8,128,[.rq 0 0 0,.rq 0 0 0],.struct [(0,4,66),(4,4,66)]⟩),
 (264,⟨7,160,[.str ⟨#[]⟩,.nil,.nil,.nil,.nil,.nil,.nil],.struct [(0,6,41),(6,1,168)]⟩),
 (38,⟨1,24,[.nil],.slice 239⟩),
 (168,⟨1,24,[.nil],.slice 175⟩),
 (69,⟨1,24,[.nil],.slice 66⟩),
 (142,⟨1,24,[.nil],.slice 112⟩),
 (267,⟨72,1328,[.q 0 0,.q 0 0,.q 0 0,.q 0 0,.str ⟨#[]⟩,.int .i64 0,.q 0 0,.q 0 0,.q 0 0,.q 0 0,.q 0 0,.q 0 0,.q 0 0,.q 0 0,.nil,.str ⟨#[]⟩,.int .i64 0,.q 0 0,.q 0 0,.q 0 0,.q 0 0,.q 0 0,.q 0 0,.q 0 0,.q 0 0,.nil,.q 0 0,.q 0 0],.struct [(0,12,175),(12,27,114),(39,27,114),(66,6,58)]⟩),
 (314,⟨1,24,[.nil],.slice 313⟩),
 (172,⟨1,24,[.nil],.slice 179⟩),
 (36,⟨1,24,[.nil],.slice 229⟩),
 (102,⟨1,24,[.nil],.slice 110⟩),
 (137,⟨1,24,[.nil],.slice 31⟩),
 (81,⟨1,8,[.int .u64 0],.int .u64⟩),
 (391,⟨4,80,[.nil,.q 0 0],.struct [(0,1,59),(1,3,56)]⟩),
 (123,⟨25,392,[.rq 0 0 0,.rq 0 0 0,.rq 0 0 0,.rq 0 0 0,.rq 0 0 0,.rq 0 0 0,.bool false],.struct [(0,12,121),(12,12,121),(24,1,4)]⟩),
 (259,⟨1,8,[.lit (.pointer none)],.ptr 264⟩),
 (245,⟨5,88,[.int .i64 0,.nil,.q 0 0],.struct [(0,1,3),(1,1,112),(2,3,56)]⟩),
 (184,⟨34,544,[.int .i64 0,.rq 0 0 0,.rq 0 0 0,.rq 0 0 0,.rq 0 0 0,.rq 0 0 0,.rq 0 0 0,.rq 0 0 0,.rq 0 0 0,.nil],.struct [(0,1,3),(1,8,68),(9,4,66),(13,4,66),(17,8,68),(25,4,66),(29,4,66),(33,1,138)]⟩),
 (227,⟨17,136,[.int .i64 0,.int .i64 0,.int .i64 0,.int .i64 0,.int .u8 0,.int .i64 0,.int .i64 0,.int .u8 0,.int .i64 0,.int .i64 0,.int .u8 0,.int .i64 0,.int .i64 0,.int .u8 0,.int .i64 0,.int .i64 0,.int .u8 0],.struct [(0,1,3),(1,1,3),(2,6,31),(8,6,31),(14,3,29)]⟩),
 (233,⟨17,296,[.int .i64 0,.int .i64 0,.q 0 0,.q 0 0,.q 0 0,.q 0 0,.q 0 0],.struct [(0,1,3),(1,1,3),(2,6,58),(8,6,58),(14,3,56)]⟩),
 (46,⟨1,24,[.nil],.slice 186⟩),
 (205,⟨1,24,[.nil],.slice 209⟩),
 (239,⟨13,232,[.int .i64 0,.q 0 0,.q 0 0,.q 0 0,.q 0 0],.struct [(0,1,3),(1,3,56),(4,3,56),(7,3,56),(10,3,56)]⟩),
 (134,⟨1,24,[.nil],.slice 69⟩),
 (22,⟨1,24,[.nil],.slice 224⟩),
 (224,⟨26,224,[.int .i64 0,.int .i64 0,.int .i64 0,.int .u8 0,.int .i64 0,.int .i64 0,.int .u8 0,.int .i64 0,.int .i64 0,.int .u8 0,.int .i64 0,.int .i64 0,.int .u8 0,.int .i64 0,.int .i64 0,.int .u8 0,.int .i64 0,.int .i64 0,.int .u8 0,.int .i64 0,.int .i64 0,.int .u8 0,.int .i64 0,.int .i64 0,.int .u8 0,.nil],.struct [(0,1,3),(1,6,31),(7,6,31),(13,3,29),(16,3,29),(19,3,29),(22,3,29),(25,1,137)]⟩),
 (301,⟨16,256,[.rq 0 0 0,.rq 0 0 0,.rq 0 0 0,.rq 0 0 0],.struct [(0,8,295),(8,8,295)]⟩),
 (23,⟨1,24,[.nil],.slice 227⟩),
 (397,⟨1,24,[.nil],.slice 398⟩),
 (25,⟨1,24,[.nil],.slice 243⟩),
 (119,⟨18,144,[.int .i64 0,.int .i64 0,.int .u8 0,.int .i64 0,.int .i64 0,.int .u8 0,.int .i64 0,.int .i64 0,.int .u8 0,.int .i64 0,.int .i64 0,.int .u8 0,.int .i64 0,.int .i64 0,.int .u8 0,.int .i64 0,.int .i64 0,.int .u8 0],.struct [(0,3,29),(3,3,29),(6,3,29),(9,3,29),(12,3,29),(15,3,29)]⟩),
 (235,⟨22,336,[.int .i64 0,.int .i64 0,.rq 0 0 0,.rq 0 0 0,.rq 0 0 0,.rq 0 0 0,.rq 0 0 0],.struct [(0,1,3),(1,1,3),(2,8,68),(10,8,68),(18,4,66)]⟩),
 (414,⟨1,24,[.nil],.slice 5⟩),
 (44,⟨1,24,[.nil],.slice 235⟩),
 (229,⟨17,296,[.int .i64 0,.int .i64 0,.q 0 0,.q 0 0,.q 0 0,.q 0 0,.q 0 0],.struct [(0,1,3),(1,1,3),(2,6,58),(8,6,58),(14,3,56)]⟩),
 (237,⟨13,104,[.int .i64 0,.int .i64 0,.int .i64 0,.int .u8 0,.int .i64 0,.int .i64 0,.int .u8 0,.int .i64 0,.int .i64 0,.int .u8 0,.int .i64 0,.int .i64 0,.int .u8 0],.struct [(0,1,3),(1,3,29),(4,3,29),(7,3,29),(10,3,29)]⟩),
 (209,⟨2,16,[.int .i64 0,.int .i64 0],.array 2 3⟩),
 (243,⟨5,56,[.int .i64 0,.nil,.int .i64 0,.int .i64 0,.int .u8 0],.struct [(0,1,3),(1,1,137),(2,3,29)]⟩),
 (158,⟨17,152,[.bool false,.int .i64 0,.int .i64 0,.int .u8 0,.int .i64 0,.int .i64 0,.int .u8 0,.int .i64 0,.int .i64 0,.int .u8 0,.int .i64 0,.int .i64 0,.int .u8 0,.int .i64 0,.int .i64 0,.int .u8 0,.nil],.struct [(0,1,4),(1,6,31),(7,6,31),(13,3,29),(16,1,32)]⟩),
 (24,⟨1,24,[.nil],.slice 237⟩),
 (43,⟨1,24,[.nil],.slice 231⟩),
 (45,⟨1,24,[.nil],.slice 241⟩),
 (186,⟨6,96,[.int .i64 0,.nil,.rq 0 0 0],.struct [(0,1,3),(1,1,138),(2,4,66)]⟩),
 (334,⟨8,128,[.rq 0 0 0,.rq 0 0 0],.array 2 66⟩),
 (335,⟨16,256,[.rq 0 0 0,.rq 0 0 0,.rq 0 0 0,.rq 0 0 0],.array 2 68⟩),
 (352,⟨1,8,[.lit .nilFunc],.other⟩),
 (366,⟨1,8,[.lit (.map none)],.other⟩),
 (372,⟨1,24,[.nil],.slice 106⟩),
 (461,⟨1,8,[.lit .nilFunc],.other⟩),
 (92,⟨1,8,[.lit .nilFunc],.other⟩),
 (367,⟨1,8,[.lit .nilFunc],.other⟩),
 (418,⟨1,24,[.nil],.slice 75⟩),
 (462,⟨1,8,[.lit .nilFunc],.other⟩),
 (283,⟨1,8,[.lit .nilFunc],.other⟩),
 (337,⟨1,8,[.lit .nilFunc],.other⟩),
 (465,⟨1,8,[.lit .nilFunc],.other⟩),
 (153,⟨1,8,[.lit .nilFunc],.other⟩),
 (329,⟨1,8,[.lit .nilFunc],.other⟩),
 (420,⟨1,8,[.lit .nilFunc],.other⟩),
 (423,⟨1,8,[.lit .nilFunc],.other⟩),
 (440,⟨1,8,[.lit .nilFunc],.other⟩),
 (446,⟨1,8,[.lit .nilFunc],.other⟩),
 (472,⟨1,8,[.lit .nilFunc],.other⟩),
 (231,⟨22,336,[.int .i64 0,.int .i64 0,.rq 0 0 0,.rq 0 0 0,.rq 0 0 0,.rq 0 0 0,.rq 0 0 0],.struct [(0,1,3),(1,1,3),(2,8,68),(10,8,68),(18,4,66)]⟩),
 (241,⟨17,264,[.int .i64 0,.rq 0 0 0,.rq 0 0 0,.rq 0 0 0,.rq 0 0 0],.struct [(0,1,3),(1,4,66),(5,4,66),(9,4,66),(13,4,66)]⟩),
 (398,⟨1,8,[.lit (.pointer none)],.ptr 58⟩),
 (407,⟨1,8,[.lit .nilFunc],.other⟩)
]
theorem Lu:Ut.all (fun p=>IH Tryz.prog p.1 p.2)=true:=by kernel_rfl
def NB:TT:=IK Ut
theorem aX:lT Tryz.prog NB:=IL Lu
theorem mixed:Tryz.prog.follows .mixedOrders=true:=by kernel_rfl
end Go.Av
namespace Go.Av
open Go.RowKit
theorem AllP.nil:AllP []:=fun p h=>by simp at h
theorem AllP.cons (h:p) (k:AllP l):AllP (p::l):=fun q hq=>by
 rcases List.mem_cons.1 hq with rfl | hq
 · exact h
 · exact k q hq
def slots (n:Nat) (xs:List (Nat×AV)):List AV:=xs.foldl (fun σ p=>σ.set p.1 p.2) (List.replicate n .any)
theorem mD (n:Nat) (xs:List (Nat×AV)):(slots n xs).length=n:=by
 unfold slots
 have:∀ (xs:List (Nat×AV)) (σ:List AV),(xs.foldl (fun σ p=>σ.set p.1 p.2) σ).length=σ.length:=by
   intro xs
   induction xs with
   | nil=>intro σ;rfl
   | cons p xs ih=>intro σ;simp[ih]
 simp[this]
def Fr (σ:List AV):List (Nat×AV)->List Prop
 | []=>[]
 | p::xs=>Ref (σ.getD p.1 .any) p.2::Fr σ xs
theorem yJ (h:AllP (Fr σ xs)) (t:Nat):Ref (σ.getD t .any) ((slots n xs).getD t .any):=by
 unfold slots
 have:∀ (xs:List (Nat×AV)) (τ:List AV),AllP (Fr σ xs)->(∀ t,Ref (σ.getD t .any) (τ.getD t .any))->∀ t,Ref (σ.getD t .any) ((xs.foldl (fun σ p=>σ.set p.1 p.2) τ).getD t .any):=by
   intro xs
   induction xs with
   | nil=>intro τ _ h;exact h
   | cons p xs ih=>
     intro τ ho h;refine ih _ (fun q hq=>ho q (List.mem_cons_of_mem _ hq)) fun t=> ?_
     rw[gZ]
     split
     · rename_i e;rw[<- e.1];exact ho _ (by simp[Fr])
     · exact h t
 refine this xs _ h (fun t=> ?_) t;simp only[List.getD_eq_getElem?_getD,List.getElem?_replicate]
 split <;> exact Ref.any
section
theorem Good.map (h:Good P f S0 C0 w0 Post todo st')
   (hr:∀ ρ D a w,Rel S0 C0 w0 ρ D st a w->∃ ρ' D',Rel S0 C0 w0 ρ' D' st' a w):Good P f S0 C0 w0 Post todo st:=by
 intro ρ D a w R b cs hb hk;obtain⟨ρ',D',R'⟩:=hr ρ D a w R;exact h ρ' D' a w R' b cs hb hk
theorem Rel.slots (R:Rel S0 C0 w0 ρ D st a w) (hl:σ'.length=st.σ.length) (h:∀ t,Ref (st.σ.getD t .any) (σ'.getD t .any)):
   Rel S0 C0 w0 ρ D ⟨σ',st.h⟩ a w:={ R with
 len:=by rw[R.len,hl]
 tmps:=fun t v hv=>h t _ _ _ _ _ (R.tmps t v hv) }
theorem Good.weak (n:Nat) (xs:List (Nat×AV)) (hn:σ.length=n) (ho:AllP (Fr σ xs)) (hg:Good P f S0 C0 w0 Post todo ⟨Av.slots n xs,h⟩):
   Good P f S0 C0 w0 Post todo ⟨σ,h⟩:=
 hg.map fun ρ D a w R=>⟨ρ,D,R.slots (by rw[mD];exact hn.symm) (yJ ho)⟩
end
end Go.Av
