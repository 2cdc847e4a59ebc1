import GoSem.Core.Value
import Derived.Below
import Derived.Laws.IdiomCopy
import Derived.Laws.Cells
import Derived.WalkKit
import Derived.Laws.Cover3
import Derived.Laws.Tables
import Derived.Great.BuildSlice
import Derived.Laws.MakeOwn
import Derived.Laws.AppendOwn
import Derived.Laws.BytesArg
import Derived.Laws.IdiomStrings
import Derived.Laws.Strings
import Derived.ChangeKeysEq
import Derived.Laws.StructEq
import Derived.WideKeyRuns
import Derived.Orders
import Derived.ProofKit
import Derived.OpenShut
import Derived.ChangeArms
import Derived.ChangeStays
import Derived.ChangeBears
namespace Go.Tq
inductive PV where
 |dead
 |bool (x:Bool)
 |int (k:IntKind) (n:Int)
 |str (x:ByteArray)
 |sl (sz:Nat) (nl:Bool) (es:List (List PV))
 deriving Inhabited
abbrev Steps:=List (Nat×Nat)
end Go.Tq
namespace Go.Tq
open Go.RowKit
structure Node where
 blk:Nat
 off:Nat
 cap:Nat
 sz:Nat
 deriving Inhabited
abbrev Lay:=Steps→Node
def Node.base(n:Node):Addr:=⟨n.blk,n.off,none⟩
def p5(n:Node):PV→Value→Prop
 |.dead,_=>True
 |.bool x,v=>v= .bool x
 |.int k x,v=>v= .int k x
 |.str x,v=>v= .string x
 |.sl _ true es,v=>v= .slice none 0 0∧es=[]
 |.sl _ false es,v=>v= .slice (some n.base) es.length n.cap
def Shp(w w':World):Prop:=∀(b:Nat)(c:Array Value)(e:TypeId)(fz:Nat×Nat),w.heap[b]?=some (Obj.cells c e fz)→∃c':Array Value,w'.heap[b]?=some (Obj.cells c' e fz)∧c'.size=c.size
theorem jq{w:World}{a:Addr}{u:Value}(h:w.cell? a=some u):∃(c:Array Value)(e:TypeId)(fz:Nat×Nat),w.heap[a.block]?=some (Obj.cells c e fz)∧a.spot=none∧c[a.off]?=some u:=by
 unfold World.cell? at h;split at h
 ·rename_i c e fz hb;refine⟨c,e,fz,hb,?_⟩;split at h
  ·simp at h
  ·rename_i hs;exact⟨by simpa using hs,h⟩
 ·simp at h
theorem lP{w:World}{a:Addr}{c:Array Value}{e:TypeId}{fz:Nat×Nat}(h:w.heap[a.block]?=some (.cells c e fz))(hs:a.spot=none):w.cell? a=c[a.off]?:=by unfold World.cell?;simp[h,hs]
theorem Shp.frozen{w w':World}(h:Shp w w'){a:Addr}{c:Array Value}{e:TypeId}{fz:Nat×Nat}(hb:w.heap[a.block]?=some (.cells c e fz)):w'.frozen? a=w.frozen? a:=by obtain⟨c',h1,_⟩:=h _ _ _ _ hb;unfold World.frozen?;rw[hb,h1]
def PV.flat:PV→Bool
 |.sl _ nl _=>nl
 |_=>true
end Go.Tq
namespace Go.Tq
open Go.RowKit
structure Place where
 s:Nat
 c:Nat
 q:Steps
 deriving DecidableEq
inductive Cell where
 |dead
 |p (x:PV)
 |ro (x:PV)
 |lnk (pl:Place) (sz lo len:Nat)
 |ptr (pl:Place)
 |nilp
 |rptr (cs:List PV)
 |fn (f:Nat) (caps:List (List PV))
 deriving Inhabited
inductive Shape where
 |one
 |agg
 |box
 |tup (l:List (Nat×Option Nat))
 |gone
 deriving DecidableEq
structure Slot where
 sh:Shape
 cs:List Cell
 hc:Bool:=false
abbrev State:=List (Nat×Slot)
structure Env where
 B:Nat→Nat×Nat
 A:Nat→Nat→Lay
structure MN where
 w:Addr→Prop
 n:Addr→Prop
instance:CoeFun MN (fun _=>Addr→Prop):=⟨MN.w⟩
end Go.Tq
namespace Go.Tq
open Go.RowKit
inductive Opd where
 |t (s:Nat)
 |k (x:PV)
 |nilp
 deriving Inhabited
end Go.Tq
namespace Go.Tq
open Go.RowKit
end Go.Tq
namespace Go.Tq
open Go.RowKit
def cB(P:Program)(t:TypeId):Option Nat:=(P.info? t).map (·.size)
def cq(P:Program)(t:TypeId):Option Bool:=match P.underlying t with
 |some (.struct _)=>some true
 |some (.array _ _)=>some true
 |some _=>some false
 |none=>none
theorem gA{P:Program}{t:TypeId}{b:Bool}(h:cq P t=some b)(w:World):(isAgg t).run P w= .ok b w:=by
 unfold cq at h;cases hu:P.underlying t with
 |none=>simp[hu]at h
 |some d=>simp only[isAgg,Sem.run_bind,run_underlying hu,Result.andThen];cases d<;>simp_all
theorem run_sizeOf{P:Program}{t:TypeId}{n:Nat}(h:cB P t=some n)(w:World):(sizeOf t).run P w= .ok n w:=by
 unfold cB at h;cases hi:P.info? t with
 |none=>simp[hi]at h
 |some i=>simp[hi]at h;simp[sizeOf,typeInfo,hi,h]
def nu(op:BinOp):PV→PV→Option PV
 |.int k a,.int k' b=>match op with
  |.shl=>if 0≤b then some (.int k (k.wrap (a*2 ^ (min b.toNat k.bits))))else none
  |.shr=>if 0≤b then some (.int k (a.fdiv (2 ^ (min b.toNat k.bits))))else none
  |_=>if k=k' then match op with
   |.add=>some (.int k (k.wrap (a+b)))
   |.sub=>some (.int k (k.wrap (a-b)))
   |.mul=>some (.int k (k.wrap (a*b)))
   |.quo=>if b=0 then none else some (.int k (k.wrap (a.tdiv b)))
   |.rem=>if b=0 then none else some (.int k (a.tmod b))
   |.eql=>some (.bool (decide (a=b)))
   |.neq=>some (.bool (!decide (a=b)))
   |.lss=>some (.bool (decide (a<b)))
   |.leq=>some (.bool (decide (a≤b)))
   |.gtr=>some (.bool (decide (b<a)))
   |.geq=>some (.bool (decide (b≤a)))
   |.and=>some (.int k (k.wrap (BitVec.ofInt k.bits a&&& BitVec.ofInt k.bits b).toNat))
   |.or=>some (.int k (k.wrap (BitVec.ofInt k.bits a|||BitVec.ofInt k.bits b).toNat))
   |.xor=>some (.int k (k.wrap (BitVec.ofInt k.bits a ^^^ BitVec.ofInt k.bits b).toNat))
   |_=>none
   else none
 |.str a,.str b=>match op with
  |.add=>if a.size+b.size≤9223372036854775807 then some (.str (a++b))else none
  |.eql=>some (.bool (a.toList==b.toList))
  |.neq=>some (.bool (!(a.toList==b.toList)))
  |.lss=>some (.bool (Op.bytesLess a.toList b.toList))
  |.leq=>some (.bool (Op.bytesLess a.toList b.toList||a.toList==b.toList))
  |.gtr=>some (.bool (!(Op.bytesLess a.toList b.toList||a.toList==b.toList)))
  |.geq=>some (.bool (!Op.bytesLess a.toList b.toList))
  |_=>none
 |_,_=>none
def aBa(op:UnOp):PV→Option PV
 |.int k n=>match op with
  |.neg=>some (.int k (k.wrap (0-n)))
  |_=>none
 |.bool b=>match op with
  |.not=>some (.bool !b)
  |_=>none
 |_=>none
inductive FOp where
 |mov (x:Opd)
 |pick (c a b:Opd)
 |load (n:Option Nat) (x:Opd)
 |nilCheck (x:Opd)
 |bin (op:BinOp) (x y:Opd)
 |binB (neg:Bool) (x y:Opd)
 |cmpNil (neg:Bool) (x:Opd)
 |un (op:UnOp) (x:Opd)
 |conv (k:IntKind) (x:Opd)
 |fieldAddr (x:Opd) (off:Nat)
 |idxAddr (x i:Opd) (sz:Nat)
 |index (x i:Opd)
 |lenS (x:Opd)
 |len (x:Opd)
 |sliceS (x:Opd) (lo hi:Option Opd)
 |sliceL (x:Opd) (lo hi:Option Opd) (sz:Nat)
def isBuiltin(b:Builtin)(op:Op):Option (List Operand×List TypeId):=match op with
 |.call c=>match c.callee with
  |.builtin b'=>if b=b' then some (c.args.toList,c.argTypes.toList)else none
  |_=>none
 |_=>none
theorem bp{b:Builtin}{op:Op}{as:List Operand}{ts:List TypeId}(h:isBuiltin b op=some (as,ts)):op= .call ⟨.builtin b,as.toArray,ts.toArray⟩:=by
 unfold isBuiltin at h;split at h
 ·rename_i c;obtain⟨cal,ar,at'⟩:=c;simp only at h;split at h
  ·rename_i b' _;split at h
   ·rename_i hb;cases h;subst hb;rfl
   ·simp at h
  ·simp at h
 ·simp at h
end Go.Tq
namespace Go.Tq
open Go.RowKit
end Go.Tq
namespace Go.Tq
open Go.RowKit
section
variable{P:Program}{a:Act}{o:Oper}{w w0:World}{M:MN}{σ:State}{E:Env}
def pvV:PV→Value
 |.bool x=>.bool x
 |.int k n=>.int k n
 |.str s=>.string s
 |_=>.slice none 0 0
theorem jD{op:BinOp}{p q r:PV}{t:TypeId}(hb:nu op p q=some r){x y:Operand}{u v:Value}{n:Node}(hu:p5 n p u)(hv:p5 n q v):((do eqGuard op t x y u v;binOp op t u v:Sem Value)).run P w= .ok (pvV r) w∧p5 n r (pvV r)∧r.flat=true:=by
 cases p<;>cases q<;>simp only[nu,reduceCtorEq]at hb
 case int.int k x' k' y'=>
  simp only[p5]at hu hv;subst hu;subst hv;cases op<;>simp only[]at hb
  case shl=>
   split at hb
   ·rename_i h0;cases hb;exact⟨by simp[go_sem,Op.shift,show¬y'<0 by omega,pvV],rfl,rfl⟩
   ·simp at hb
  case shr=>
   split at hb
   ·rename_i h0;cases hb;exact⟨by simp[go_sem,Op.shift,show¬y'<0 by omega,pvV],rfl,rfl⟩
   ·simp at hb
  case eql=>
   split at hb
   ·rename_i hk;subst hk;cases hb;exact⟨by simp[go_sem,pvV];rfl,rfl,rfl⟩
   ·simp at hb
  case neq=>
   split at hb
   ·rename_i hk;subst hk;cases hb;exact⟨by simp[go_sem,pvV];rfl,rfl,rfl⟩
   ·simp at hb
  case andNot=>simp at hb
  case quo=>
   split at hb
   ·rename_i hk;subst hk;split at hb
    ·simp at hb
    ·rename_i h0;cases hb;exact⟨by simp[go_sem,pvV,h0],rfl,rfl⟩
   ·simp at hb
  case rem=>
   split at hb
   ·rename_i hk;subst hk;split at hb
    ·simp at hb
    ·rename_i h0;cases hb;exact⟨by simp[go_sem,pvV,h0],rfl,rfl⟩
   ·simp at hb
  case and=>
   split at hb
   ·rename_i hk;subst hk;cases hb;exact⟨by simp[binOp,Op.intBits,pvV,eqGuard_and],rfl,rfl⟩
   ·simp at hb
  case or=>
   split at hb
   ·rename_i hk;subst hk;cases hb;exact⟨by simp[binOp,Op.intBits,pvV,eqGuard_or],rfl,rfl⟩
   ·simp at hb
  case xor=>
   split at hb
   ·rename_i hk;subst hk;cases hb;exact⟨by simp[binOp,Op.intBits,pvV,eqGuard_xor],rfl,rfl⟩
   ·simp at hb
  all_goals
   split at hb
   ·rename_i hk;subst hk;cases hb;exact⟨by simp[go_sem,pvV],rfl,rfl⟩
   ·simp at hb
 case str.str s s'=>
  simp only[p5]at hu hv;subst hu;subst hv;have hg:eqGuard op t x y (.string s) (.string s')=pure ():=by simp only[eqGuard_at_string]
  cases op<;>simp only[reduceCtorEq]at hb
  case add=>
   split at hb
   ·rename_i hle;cases hb;exact⟨by simp[hg,binOp,run_string_add_sum w s s' hle,pvV],rfl,rfl⟩
   ·simp at hb
  all_goals
   cases hb;exact⟨by simp[hg,binOp,Op.stringOp,pvV],rfl,rfl⟩
end
end Go.Tq
namespace Go.Tq
open Go.RowKit
end Go.Tq
namespace Go.Tq
open Go.RowKit
theorem uq(w:World)(a:Addr)(u:Value):Shp w (w.setCell a u):=by
 intro b c e fz hb;simp only[World.setCell,Array.getElem?_modify,hb,Option.map_some];by_cases h:a.block=b
 ·simp only[h,if_true];refine⟨_,rfl,?_⟩;split<;>simp
 ·simp only[h,if_false];exact⟨c,rfl,rfl⟩
theorem oN{w:World}{a b:Addr}{u:Value}(h:b≠a){v:Value}(hv:w.cell? b=some v):(w.setCell a u).cell? b=some v:=by
 obtain⟨c,e,fz,h1,h2,h3⟩:=jq hv;by_cases hb:a.block=b.block
 ·have:(w.setCell a u).heap[b.block]?=some (Obj.cells (if a.spot.isSome then c else c.setIfInBounds a.off u) e fz):=by simp[World.setCell,Array.getElem?_modify,h1,hb]
  rw[lP this h2];split
  ·exact h3
  ·rename_i hs;have hoff:a.off≠b.off:=by intro e2;apply h;cases a;cases b;simp_all
   rw[Array.getElem?_setIfInBounds,if_neg hoff];exact h3
 ·have:(w.setCell a u).heap[b.block]?=some (Obj.cells c e fz):=by simp[World.setCell,Array.getElem?_modify,h1,hb]
  rw[lP this h2];exact h3
section
variable{w w0:World}{M:MN}{σ:State}{E:Env}{ts:Array Value}
end
end Go.Tq
namespace Go.Tq
open Go.RowKit
section
variable{w w0:World}{M:MN}{σ:State}{E:Env}{ts:Array Value}
end
end Go.Tq
namespace Go.Tq
open Go.RowKit
section
variable{w w0:World}{M:MN}{σ:State}{E:Env}{ts:Array Value}
end
end Go.Tq
namespace Go.Tq
open Go.RowKit
section
variable{w w0:World}{M:MN}{σ:State}{E:Env}{ts:Array Value}
end
end Go.Tq
namespace Go.Tq
open Go.RowKit
def cS(b:Nat):Nat→List Value→World→World
 |_,[],w=>w
 |o,v::t,w=>cS b (o+1) t (w.setCell ⟨b,o,none⟩ v)
theorem iC{P:Program}(b o:Nat)(vs:List Value):∀(i:Nat)(w:World),(∀j,j<vs.length→∃u,w.cell? ⟨b,o+i+j,none⟩=some u)→(∀j,j<vs.length→w.frozen? ⟨b,o+i+j,none⟩=false)→(∀v,v∈vs→v.oneCell'=true)→(storeCells ⟨b,o,none⟩ vs i).run P w= .ok () (cS b (o+i) vs w):=by
 induction vs with
 |nil=>intro i w _ _ _;simp[storeCells,cS]
 |cons v t ih=>
  intro i w hc hf h1;obtain⟨u0,hu0⟩:=hc 0 (by simp);have hf0:=hf 0 (by simp);simp only[Nat.add_zero]at hu0 hf0;have hst:(store ((⟨b,o,none⟩:Addr).add i) v).run P w= .ok () (w.setCell ⟨b,o+i,none⟩ v):=by rw[Addr.add_lit,run_store P w _ v _ (h1 v (by simp)),hu0];simp[hf0]
  simp only[storeCells,Sem.run_bind,hst,Result.andThen];rw[ih (i+1) _ (fun j hj=>?_) (fun j hj=>?_) (fun v hv=>h1 v (by simp[hv]))]
  ·rfl
  ·obtain⟨u,hu⟩:=hc (j+1) (by simpa using hj);rw[show o+i+(j+1)=o+(i+1)+j by omega]at hu;refine⟨u,oN (fun e=>?_) hu⟩;simp only[Addr.mk.injEq,true_and,and_true]at e;omega
  ·have:=hf (j+1) (by simpa using hj);rw[show o+i+(j+1)=o+(i+1)+j by omega]at this;obtain⟨u,hu⟩:=hc (j+1) (by simpa using hj);rw[show o+i+(j+1)=o+(i+1)+j by omega]at hu;obtain⟨c,e,fz,g1, -, -⟩:=jq hu;rw[(uq w _ v).frozen g1];exact this
end Go.Tq
namespace Go.Tq
open Go.RowKit
section
variable{P:Program}{a:Act}{o:Oper}{w w0:World}{M:MN}{σ:State}{E:Env}{ts:Array Value}
end
end Go.Tq
namespace Go.Tq
open Go.RowKit
theorem qA(vs:List Value):∀(k off:Nat)(cells:Array Value),off+k+vs.length≤cells.size→((vs.zipIdx k).foldl (fun cs(p:Value×Nat)=>cs.setIfInBounds (off+p.2) p.1) cells).size=cells.size∧
  ∀j:Nat,((vs.zipIdx k).foldl (fun cs(p:Value×Nat)=>cs.setIfInBounds (off+p.2) p.1) cells)[j]?=if off+k≤j∧j<off+k+vs.length then vs[j-(off+k)]? else cells[j]?:=by
 induction vs with
 |nil=>intro k off cells _;refine⟨rfl,fun j=>?_⟩;rw[if_neg (by simp only[List.length_nil];omega)];rfl
 |cons v t ih=>
  intro k off cells h;simp only[List.length_cons]at h;simp only[List.zipIdx_cons,List.foldl_cons];obtain⟨h1,h2⟩:=ih (k+1) off (cells.setIfInBounds (off+k) v) (by simp;omega);refine⟨by rw[h1];simp,fun j=>?_⟩;rw[h2 j];simp only[List.length_cons];by_cases hj:off+(k+1)≤j∧j<off+(k+1)+t.length
  ·rw[if_pos hj,if_pos (by omega)];have e:j-(off+k)=(j-(off+(k+1)))+1:=by omega
   rw[e,List.getElem?_cons_succ]
  ·rw[if_neg hj,Array.getElem?_setIfInBounds];by_cases hjk:off+k=j
   ·have h3:off+k<cells.size:=by omega
    subst hjk;simp[h3]
   ·rw[if_neg hjk,if_neg (by omega)]
theorem nT{place:Nat→Option (Nat×Nat)}{cells:Array Value}{i:Nat}{v:Value}{rest:List (Nat×Value)}{off size:Nat}(hp:place i=some (off,size))(hs:v.cells.size=size)(hb:off+size≤cells.size)
  :∃cells':Array Value,cells'.size=cells.size∧(∀j:Nat,cells'[j]?=if off≤j∧j<off+size then v.cells[j-off]? else cells[j]?)∧Instr.fill place cells ((i,v)::rest)=Instr.fill place cells' rest:=by
 obtain⟨h1,h2⟩:=qA v.cells.toList 0 off cells (by simp;omega);have e:v.cells.zipIdx.foldl (fun cs(x:Value×Nat)=>match x with| (c,j)=>cs.setIfInBounds (off+j) c) cells=(v.cells.toList.zipIdx 0).foldl (fun cs(p:Value×Nat)=>cs.setIfInBounds (off+p.2) p.1) cells:=by rw[←Array.foldl_toList];simp
 refine⟨(v.cells.toList.zipIdx 0).foldl (fun cs(p:Value×Nat)=>cs.setIfInBounds (off+p.2) p.1) cells,h1,fun j=>?_,?_⟩
 ·rw[h2 j];simp only[Nat.add_zero,Array.length_toList,hs];split
  ·simp
  ·rfl
 ·simp only[Instr.fill,hp];rw[if_neg (by simp[hs];omega),e]
structure Part where
 off:Nat
 size:Nat
 x:Opd
 mv:Bool
section
variable{P:Program}{a:Act}{o:Oper}{w w0:World}{M:MN}{σ:State}{E:Env}{ts:Array Value}
def gl(P:Program)(t:TypeId):Option (List (Nat×Nat)):=match P.underlying t with
 |some (.struct fields)=>fields.toList.mapM (fun f=>(P.info? f.type).map fun i=>(f.offset,i.size))
 |_=>none
end
end Go.Tq
namespace Go.Tq
open Go.RowKit
section
variable{P:Program}{a:Act}{o:Oper}{w w0:World}{M:MN}{σ:State}{E:Env}{ts:Array Value}
end
end Go.Tq
namespace Go.Tq
open Go.RowKit
section
variable{P:Program}{w w0:World}{M:MN}
end
end Go.Tq
namespace Go.Tq
open Go.RowKit
section
variable{P:Program}{a:Act}{o:Oper}{w w0:World}{M:MN}{σ:State}{E:Env}{ts:Array Value}
end
end Go.Tq
namespace Go.Tq
open Go.RowKit
section
variable{P:Program}{a:Act}{o:Oper}{w w0:World}{M:MN}{σ:State}{E:Env}{ts:Array Value}
theorem nB{t ty e:TypeId}{i:TypeInfo}(ht:P.underlying t=some (.slice e))(hi:P.info? e=some i){b o sLen sCap n:Nat}{vy:Value}{news:List Value}(hlen:(Builtin.lenOf vy).run P w= .ok n w)(hf:(Builtin.firstCells i.size n vy).run P w= .ok news.toArray w)(hroom:sLen+n≤sCap)(hc:∀j,j<news.length→∃u,w.cell? ⟨b,o+sLen*i.size+j,none⟩=some u)(hz:∀j,j<news.length→w.frozen? ⟨b,o+sLen*i.size+j,none⟩=false)(h1:∀v,v∈news→v.oneCell'=true):(Builtin.append_ #[t,t] ty #[.slice (some ⟨b,o,none⟩) sLen sCap,vy]).run P w= .ok (.slice (some ⟨b,o,none⟩) (sLen+n) sCap) (cS b (o+sLen*i.size) news w):=by have hst:=iC (P:=P) b (o+sLen*i.size) news 0 w (by simpa using hc) (by simpa using hz) h1;simp only[Nat.add_zero]at hst;simp[Builtin.append_,run_underlying ht,sizeOf,typeInfo,hi,hlen,hroom,hf,Addr.add_lit,hst]
theorem mz{t ty e:TypeId}{i:TypeInfo}{z:Value}(ht:P.underlying t=some (.slice e))(hi:P.info? e=some i)(hz:i.zero=some z){base:Option Addr}{sLen sCap n:Nat}{vy:Value}{olds news:List Value}(hlen:(Builtin.lenOf vy).run P w= .ok n w)(hf:(Builtin.firstCells i.size n vy).run P w.drew= .ok news.toArray w.drew)(hfo:(Builtin.firstCells i.size sLen (.slice base sLen sCap)).run P w.drew= .ok olds.toArray w.drew)(hg:sCap<sLen+n)(h63:sLen+n≤9223372036854775807)(hfit:Builtin.nextslicecap (sLen+n) sCap*i.bytes≤281474976710656):(Builtin.append_ #[t,t] ty #[.slice base sLen sCap,vy]).run P w=
   .ok (.slice (some ⟨w.heap.size,0,none⟩) (sLen+n) (grownCap w (sLen+n) sCap e))
    (w.drew.alloc (.cells (olds.toArray++news.toArray++Builtin.zeroCells z.cells (grownCap w (sLen+n) sCap e-(sLen+n))) e)):=by
 have hn:¬(sLen+n≤sCap):=by omega
 have h63':¬(9223372036854775807< ((sLen:Int)+(n:Int))):=by omega
 have h48':¬(281474976710656<Builtin.nextslicecap (sLen+n) sCap*i.bytes):=by omega
 simp[Builtin.append_,run_underlying ht,sizeOf,typeInfo,zeroValue,hi,hz,hlen,hn,h63',h48',Question.forced,hf,hfo,newRow,grownCap];congr 2;apply Array.ext';simp[List.append_assoc]
theorem er{b of sz n:Nat}{ad:Option Addr}{cs:List Value}{len cap:Nat}(hl:cs.length=n*sz)(had:cs.length≠0→ad=some ⟨b,of,none⟩)(h:∀(j:Nat) v,cs[j]?=some v→w.cell? ⟨b,of+j,none⟩=some v):∀w1:World,w1.heap=w.heap→(Builtin.firstCells sz n (.slice ad len cap)).run P w1= .ok cs.toArray w1:=by
 intro w1 hh;have hc:∀{x:Addr}{u:Value},w.cell? x=some u→w1.cell? x=some u:=by intro x u hx;unfold World.cell? at hx ⊢;rw[hh];exact hx
 cases ad with
 |none=>
  have h0:cs=[]:=by
   rcases Nat.eq_zero_or_pos cs.length with e|e
   ·exact List.length_eq_zero_iff.1 e
   ·have:=had (by omega);simp at this
  subst h0;simp[Builtin.firstCells]
 |some ad=>
  by_cases h0:cs.length=0
  ·have:cs=[]:=List.length_eq_zero_iff.1 h0;subst this;have hz:n*sz=0:=by simpa using hl.symm
   simp[Builtin.firstCells,hz,loadCells,loadCellsFrom]
  ·have:=had h0;cases this;exact run_firstCells_some w1 sz n ⟨b,of,none⟩ len cap cs hl (fun j v hj=>by rw[Addr.add_lit];exact hc (h j v hj))
end
end Go.Tq
namespace Go.Tq
open Go.RowKit
section
variable{P:Program}{a:Act}{o:Oper}{w w0:World}{M:MN}{σ:State}{E:Env}{ts:Array Value}
end
end Go.Tq
namespace Go.Cq
open Go.RowKit
structure Nd where
 blk:Nat
 off:Nat
 cap:Nat
 sz:Nat
 deriving Inhabited
inductive Tr(α:Type) where
 |lf
 |nd (v:Option α) (l r:Tr α)
namespace Tr
variable{α:Type}
def get:Tr α→Nat→Option α
 |lf,_=>none
 |nd v l r,k=>cond (Nat.beq k 0) v (cond (Nat.beq (k % 2) 0) (l.get (k / 2)) (r.get (k / 2)))
def aAp(o:Option α):Nat→Nat→Tr α
 |0,_=>lf
 |f+1,k=>cond (Nat.beq k 0) (nd o lf lf) (cond (Nat.beq (k % 2) 0) (nd none (aAp o f (k / 2)) lf) (nd none lf (aAp o f (k / 2))))
def set:Tr α→Nat→Option α→Tr α
 |lf,k,o=>aAp o (k+1) k
 |nd v l r,k,o=>cond (Nat.beq k 0) (nd o l r) (cond (Nat.beq (k % 2) 0) (nd v (l.set (k / 2) o) r) (nd v l (r.set (k / 2) o)))
theorem aAE(k:Nat):(lf:Tr α).get k=none:=rfl
theorem oX{k j:Nat}(h1:k / 2=j / 2)(h2:k % 2=j % 2):k=j:=by omega
theorem aAW(o:Option α)(f k j:Nat)(hf:k<f):(aAp o f k).get j=if j=k then o else none:=by
 induction f generalizing k j with
 |zero=>omega
 |succ f ih=>
  simp only[aAp];cases hk:Nat.beq k 0 with
  |true=>
   have hk0:=Nat.eq_of_beq_eq_true hk;subst hk0;simp only[cond_true,get];cases hj:Nat.beq j 0 with
   |true=>have:=Nat.eq_of_beq_eq_true hj;subst this;simp
   |false=>have:=Nat.ne_of_beq_eq_false hj;simp[this]
  |false=>
   have hk0:=Nat.ne_of_beq_eq_false hk;simp only[cond_false];have hlt:k / 2<f:=by omega
   cases hm:Nat.beq (k % 2) 0 with
   |true=>
    have hm0:=Nat.eq_of_beq_eq_true hm;simp only[cond_true,get];cases hj:Nat.beq j 0 with
    |true=>have:=Nat.eq_of_beq_eq_true hj;subst this;simp;omega
    |false=>
     simp only[cond_false];cases hjm:Nat.beq (j % 2) 0 with
     |true=>
      have:=Nat.eq_of_beq_eq_true hjm;simp only[cond_true,ih _ _ hlt];by_cases e:j / 2=k / 2
      ·have:j=k:=oX e (by omega);simp[this]
      ·have:j≠k:=fun e'=>e (by rw[e'])
       simp[e,this]
     |false=>
      have:=Nat.ne_of_beq_eq_false hjm;have:j≠k:=fun e'=>by subst e';omega
      simp[this]
   |false=>
    have hm0:=Nat.ne_of_beq_eq_false hm;simp only[cond_false,get];cases hj:Nat.beq j 0 with
    |true=>have:=Nat.eq_of_beq_eq_true hj;subst this;simp;omega
    |false=>
     simp only[cond_false];cases hjm:Nat.beq (j % 2) 0 with
     |false=>
      have:=Nat.ne_of_beq_eq_false hjm;simp only[cond_false,ih _ _ hlt];by_cases e:j / 2=k / 2
      ·have:j=k:=oX e (by omega);simp[this]
      ·have:j≠k:=fun e'=>e (by rw[e'])
       simp[e,this]
     |true=>
      have:=Nat.eq_of_beq_eq_true hjm;have:j≠k:=fun e'=>by subst e';omega
      simp[this]
theorem aQ(t:Tr α)(k j:Nat)(o:Option α):(t.set k o).get j=if j=k then o else t.get j:=by
 induction t generalizing k j with
 |lf=>rw[set,aAW o _ _ _ (Nat.lt_succ_self k),aAE]
 |nd v l r ihl ihr=>
  simp only[set];cases hk:Nat.beq k 0 with
  |true=>
   have hk0:=Nat.eq_of_beq_eq_true hk;subst hk0;simp only[cond_true,get];cases hj:Nat.beq j 0 with
   |true=>have:=Nat.eq_of_beq_eq_true hj;subst this;simp
   |false=>have:=Nat.ne_of_beq_eq_false hj;simp[this]
  |false=>
   have hk0:=Nat.ne_of_beq_eq_false hk;simp only[cond_false];cases hm:Nat.beq (k % 2) 0 with
   |true=>
    have hm0:=Nat.eq_of_beq_eq_true hm;simp only[cond_true,get];cases hj:Nat.beq j 0 with
    |true=>have:=Nat.eq_of_beq_eq_true hj;subst this;simp;omega
    |false=>
     simp only[cond_false];cases hjm:Nat.beq (j % 2) 0 with
     |true=>
      have:=Nat.eq_of_beq_eq_true hjm;simp only[cond_true,ihl];by_cases e:j / 2=k / 2
      ·have:j=k:=oX e (by omega);simp[this]
      ·have:j≠k:=fun e'=>e (by rw[e'])
       simp[e,this]
     |false=>
      have:=Nat.ne_of_beq_eq_false hjm;have:j≠k:=fun e'=>by subst e';omega
      simp[this]
   |false=>
    have hm0:=Nat.ne_of_beq_eq_false hm;simp only[cond_false,get];cases hj:Nat.beq j 0 with
    |true=>have:=Nat.eq_of_beq_eq_true hj;subst this;simp;omega
    |false=>
     simp only[cond_false];cases hjm:Nat.beq (j % 2) 0 with
     |false=>
      have:=Nat.ne_of_beq_eq_false hjm;simp only[cond_false,ihr];by_cases e:j / 2=k / 2
      ·have:j=k:=oX e (by omega);simp[this]
      ·have:j≠k:=fun e'=>e (by rw[e'])
       simp[e,this]
     |true=>
      have:=Nat.eq_of_beq_eq_true hjm;have:j≠k:=fun e'=>by subst e';omega
      simp[this]
def wB(t:Tr α):Nat→List α→Tr α
 |_,[]=>t
 |k,x::l=>(t.set k (some x)).wB (k+1) l
theorem mV(t:Tr α)(k j:Nat)(l:List α):(t.wB k l).get j=if k≤j∧j<k+l.length then l[j-k]? else t.get j:=by
 induction l generalizing t k with
 |nil=>
  have:¬(k≤j∧j<k+0):=by omega
  simp only[wB,List.length_nil,this,if_false]
 |cons x l ih=>
  simp only[wB,ih,aQ,List.length_cons];by_cases h1:k+1≤j∧j<k+1+l.length
  ·rw[if_pos h1,if_pos (by omega)];have:j-k=(j-(k+1))+1:=by omega
   rw[this,List.getElem?_cons_succ]
  ·rw[if_neg h1];by_cases h2:j=k
   ·subst h2;simp
   ·rw[if_neg h2,if_neg (by omega)]
end Tr
inductive CV where
 |bool (b:Bool)
 |int (k:IntKind) (n:Int)
 |str (l:List UInt8)
 |nilp
 |ptr (id off:Nat)
 |nils (z:Nat)
 |sl (id i len:Nat) (lim:Option Nat)
 |fn (f:FuncId) (caps:List (Nat×Nat))
 |nilf
 |mp (id:Nat)
 |nilm
 deriving Inhabited,DecidableEq
def addrOf(A:Nat→Nd)(id off:Nat):Addr:=⟨(A id).blk,(A id).off+off,none⟩
def aw(A:Nat→Nd)(U:Nat→Prop):CV→Value→Prop
 |.bool b,v=>v= .bool b
 |.int k n,v=>v= .int k n
 |.str l,v=>v= .string ⟨l.toArray⟩
 |.nilp,v=>v= .pointer none
 |.ptr id off,v=>U id∧v= .pointer (some (addrOf A id off))
 |.nils _,v=>v= .slice none 0 0
 |.sl id i len lim,v=>U id∧∃ad cap,v= .slice (some ad) len cap∧cap=lim.getD ((A id).cap-i)∧i+cap≤(A id).cap∧len≤cap∧(cap≠0→ad=⟨(A id).blk,(A id).off+i*(A id).sz,none⟩)
 |.fn f caps,v=>(∀p,p∈caps→U p.1)∧v= .func (.func f) #[] (caps.map fun p=>Value.pointer (some (addrOf A p.1 p.2))).toArray
 |.nilf,v=>v= .nilFunc
 |.mp id,v=>U id∧v= .map (some (A id).blk)
 |.nilm,v=>v= .map none
def Ext(A A':Nat→Nd)(U:Nat→Prop):Prop:=∀id,U id→A' id=A id
theorem Ext.refl(A:Nat→Nd)(U:Nat→Prop):Ext A A U:=fun _ _=>rfl
theorem Ext.trans{A A' A'':Nat→Nd}{U U':Nat→Prop}(h:Ext A A' U)(h':Ext A' A'' U')(hle:∀id,U id→U' id):Ext A A'' U:=fun id hid=>(h' id (hle id hid)).trans (h id hid)
theorem jJ{A A':Nat→Nd}{U U':Nat→Prop}(he:Ext A A' U)(hle:∀id,U id→U' id){c:CV}{v:Value}(h:aw A U c v):aw A' U' c v:=by
 cases c with
 |ptr id off=>obtain⟨h1,h2⟩:=h;exact⟨hle _ h1,by rw[h2];simp[addrOf,he id h1]⟩
 |sl id i len lim=>obtain⟨h1,off,cap,h2,h3,h4,h5,h6⟩:=h;exact⟨hle _ h1,off,cap,h2,by rw[he id h1];exact h3,by rw[he id h1];exact h4,h5,by rw[he id h1];exact h6⟩
 |fn f caps=>
  obtain⟨h1,h2⟩:=h;refine⟨fun p hp=>hle _ (h1 p hp),?_⟩;rw[h2];congr 2;refine List.map_congr_left fun p hp=>?_
  simp[addrOf,he p.1 (h1 p hp)]
 |mp id=>obtain⟨h1,h2⟩:=h;exact⟨hle _ h1,by rw[h2,he id h1]⟩
 |_=>exact h
inductive V1 where
 |one (c:CV)
 |agg (cs:List CV)
 deriving Inhabited,DecidableEq
inductive CVal where
 |v (x:V1)
 |tup (l:List V1)
 |gone
 deriving Inhabited,DecidableEq
def eA(A:Nat→Nd)(U:Nat→Prop):V1→Value→Prop
 |.one c,v=>aw A U c v
 |.agg cs,v=>∃us:Array Value,v= .agg us∧us.size=cs.length∧∀(j:Nat) c,cs[j]?=some c→∃u,us[j]?=some u∧aw A U c u
def eO(A:Nat→Nd)(U:Nat→Prop):CVal→Value→Prop
 |.v x,v=>eA A U x v
 |.gone,_=>True
 |.tup l,v=>∃us:Array Value,v= .tuple us∧us.size=l.length∧∀(j:Nat) x,l[j]?=some x→∃u,us[j]?=some u∧eA A U x u
theorem kS{A A':Nat→Nd}{U U':Nat→Prop}(he:Ext A A' U)(hle:∀id,U id→U' id){c:V1}{v:Value}(h:eA A U c v):eA A' U' c v:=by
 cases c with
 |one c=>exact jJ he hle h
 |agg cs=>obtain⟨us,h1,h2,h3⟩:=h;exact⟨us,h1,h2,fun j c hj=>let⟨u,h4,h5⟩:=h3 j c hj;⟨u,h4,jJ he hle h5⟩⟩
theorem zF{A A':Nat→Nd}{U U':Nat→Prop}(he:Ext A A' U)(hle:∀id,U id→U' id){c:CVal}{v:Value}(h:eO A U c v):eO A' U' c v:=by
 cases c with
 |v x=>exact kS he hle h
 |gone=>trivial
 |tup l=>obtain⟨us,h1,h2,h3⟩:=h;exact⟨us,h1,h2,fun j c hj=>let⟨u,h4,h5⟩:=h3 j c hj;⟨u,h4,kS he hle h5⟩⟩
inductive MO where
 |map (es:List (V1×V1×Nat)) (clock:Nat)
 |iter (m:Nat) (since:Nat) (seen:List Nat) (last:Nat)
 deriving Inhabited,DecidableEq
def MOk(A:Nat→Nd)(U:Nat→Prop):MO→Obj→Prop
 |.map es clock,o=>∃ys:Array MapEntry,o= .map ys clock∧ys.size=es.length∧∀(j:Nat) e,es[j]?=some e→∃y,ys[j]?=some y∧eA A U e.1 y.key∧eA A U e.2.1 y.val∧y.born=e.2.2
 |.iter m since seen last,o=>U m∧o= .mapIter (some (A m).blk) since seen.toArray last
theorem MOk.ext{A A':Nat→Nd}{U U':Nat→Prop}(he:Ext A A' U)(hle:∀id,U id→U' id){x:MO}{o:Obj}(h:MOk A U x o):MOk A' U' x o:=by
 cases x with
 |map es clock=>obtain⟨ys,h1,h2,h3⟩:=h;exact⟨ys,h1,h2,fun j e hj=>let⟨y,h4,h5,h6,h7⟩:=h3 j e hj;⟨y,h4,kS he hle h5,kS he hle h6,h7⟩⟩
 |iter m since seen last=>obtain⟨h1,h2⟩:=h;exact⟨hle _ h1,by rw[h2,he m h1]⟩
theorem MOk.lA{A:Nat→Nd}{U:Nat→Prop}{x:MO}{o:Obj}(h:MOk A U x o){c:Array Value}{e:TypeId}{f:Nat×Nat}:o≠ .cells c e f:=by
 cases x with
 |map es clock=>obtain⟨ys,h1, -⟩:=h;rw[h1];simp
 |iter m since seen last=>rw[h.2];simp
structure Blk where
 sz:Nat
 n:Nat
 tight:Bool
 zs:List CV
 cs:Tr CV
def Blk.get(b:Blk)(o:Nat):Option CV:=cond (Nat.blt o b.n) (match b.cs.get o with
 |some c=>some c
 |none=>b.zs[o % b.sz]?) none
structure Heap where
 b:Tr Blk
 m:Tr MO
def Heap.get(h:Heap)(id:Nat):Option Blk:=h.b.get id
def Heap.set(h:Heap)(id:Nat)(o:Option Blk):Heap:=⟨h.b.set id o,h.m⟩
def Heap.getM(h:Heap)(id:Nat):Option MO:=h.m.get id
def Heap.cE(h:Heap)(id:Nat)(o:Option MO):Heap:=⟨h.b,h.m.set id o⟩
theorem Heap.aQ(h:Heap)(k j:Nat)(o:Option Blk):(h.set k o).get j=if j=k then o else h.get j:=Tr.aQ _ _ _ _
theorem Heap.il(h:Heap)(k j:Nat)(o:Option Blk):(h.set k o).getM j=h.getM j:=rfl
theorem Heap.bI(h:Heap)(k j:Nat)(o:Option MO):(h.cE k o).getM j=if j=k then o else h.getM j:=Tr.aQ _ _ _ _
structure BlkOk(A:Nat→Nd)(U:Nat→Prop)(m:Nd)(b:Blk)(c:Array Value):Prop where
 fits:m.off+m.cap*m.sz≤c.size
 sz:b.sz=m.sz
 known:b.n≤m.cap*m.sz
 tight:b.tight=true→b.n=m.cap*m.sz
 cell:∀o x,b.get o=some x→∃v,c[m.off+o]?=some v∧aw A U x v
def Blk.ro(b:Blk):Bool:=!b.tight&&!b.zs.isEmpty
def aCA(fr:Nat×Nat)(n:Nat):Prop:=fr=(0,0)∨n≤fr.1
structure Sim(A:Nat→Nd)(h:Heap)(U K:Nat→Prop)(w0 w:World):Prop where
 os:w.os=w0.os
 tape:w.tape=w0.tape
 output:w.output=w0.output
 size:w0.heap.size≤w.heap.size
 old:∀b,b<w0.heap.size→¬K b→w.heap[b]?=w0.heap[b]?
 live:∀id b,h.get id=some b→U id∧(b.ro=false→w0.heap.size≤(A id).blk∨K (A id).blk)∧∃c e fr,w.heap[(A id).blk]?=some (.cells c e fr)∧(b.ro=false→aCA fr c.size)∧BlkOk A U (A id) b c
 inj:∀id id' b b',h.get id=some b→h.get id'=some b'→(A id).blk=(A id').blk→id=id'∨b.ro=true∧b'.ro=true
 maps:∀id x,h.getM id=some x→U id∧(w0.heap.size≤(A id).blk∨K (A id).blk)∧(A id).off=0∧∃o,w.heap[(A id).blk]?=some o∧MOk A U x o
 minj:∀id id' x x',h.getM id=some x→h.getM id'=some x'→(A id).blk=(A id').blk→id=id'
 vw:U 0∧(A 0).cap≤w0.heap.size∧∀id b,h.get id=some b→(b.ro=true↔(A id).blk< (A 0).cap)
theorem BlkOk.ext{A A':Nat→Nd}{U U':Nat→Prop}(he:Ext A A' U)(hle:∀id,U id→U' id){n:Nd}{b:Blk}{c:Array Value}(h:BlkOk A U n b c):BlkOk A' U' n b c:=⟨h.fits,h.sz,h.known,h.tight,fun o x hx=>let⟨v,h1,h2⟩:=h.cell o x hx;⟨v,h1,jJ he hle h2⟩⟩
abbrev Ts:=List (Nat×CVal)
def look:Ts→Nat→Option CVal
 | [],_=>none
 | (k,x)::l,t=>cond (Nat.beq k t) (some x) (look l t)
def cx(A:Nat→Nd)(U:Nat→Prop)(ts:Ts)(tmps:Array Value):Prop:=∀t x,look ts t=some x→t<tmps.size∧eO A U x (tmps.getD t undef)
theorem cx.ext{A A':Nat→Nd}{U U':Nat→Prop}(he:Ext A A' U)(hle:∀id,U id→U' id){ts:Ts}{tmps:Array Value}(h:cx A U ts tmps):cx A' U' ts tmps:=fun t x hx=>⟨(h t x hx).1,zF he hle (h t x hx).2⟩
theorem cx.put{A:Nat→Nd}{U:Nat→Prop}{ts:Ts}{tmps:Array Value}(h:cx A U ts tmps){d:Nat}(hd:d<tmps.size){x:CVal}{v:Value}(hx:eO A U x v):cx A U ((d,x)::ts) (tmps.setIfInBounds d v):=by
 intro t y hy;simp only[look]at hy;cases hb:Nat.beq d t with
 |true=>have:=Nat.eq_of_beq_eq_true hb;subst this;simp only[hb,cond_true,Option.some.injEq]at hy;subst hy;exact⟨by simpa using hd,by simpa [Array.getD,hd]using hx⟩
 |false=>
  have hne:=Nat.ne_of_beq_eq_false hb;simp only[hb,cond_false]at hy;obtain⟨h1,h2⟩:=h t y hy;refine⟨by simpa using h1,?_⟩;have:(tmps.setIfInBounds d v).getD t undef=tmps.getD t undef:=by simp only[Array.getD_eq_getD_getElem?,Array.getElem?_setIfInBounds_ne hne]
  rw[this];exact h2
def prune(av:List Nat)(ts:Ts):Ts:=av.filterMap fun k=>(look ts k).map fun x=>(k,x)
theorem pf{av:List Nat}{ts:Ts}{t:Nat}{x:CVal}(h:look (prune av ts) t=some x):look ts t=some x:=by
 induction av with
 |nil=>simp[prune,look]at h
 |cons k l ih=>
  simp only[prune,List.filterMap_cons]at h;cases hk:look ts k with
  |none=>simp only[hk,Option.map_none]at h;exact ih h
  |some y=>
   simp only[hk,Option.map_some,look]at h;cases hb:Nat.beq k t with
   |true=>have:=Nat.eq_of_beq_eq_true hb;subst this;simp only[hb,cond_true]at h;rw[hk];exact h
   |false=>simp only[hb,cond_false]at h;exact ih h
theorem cx.prune{A:Nat→Nd}{U:Nat→Prop}{ts:Ts}{tmps:Array Value}(h:cx A U ts tmps)(av:List Nat):cx A U (prune av ts) tmps:=fun t x hx=>h t x (pf hx)
end Go.Cq
namespace Go.Cq
open Go.RowKit
open Go.Tq (PV p5 pvV nu aBa cB cq gA run_sizeOf jD isBuiltin bp)
inductive Opd where
 |t (s:Nat)
 |k (c:CV)
 deriving Inhabited
def evO(ts:Ts):Opd→Option V1
 |.t s=>match look ts s with
  |some (.v x)=>some x
  |_=>none
 |.k c=>some (.one c)
def ev1(ts:Ts)(x:Opd):Option CV:=match evO ts x with
 |some (.one c)=>some c
 |_=>none
def aX:Opd→Operand→Bool
 |.t s,.tmp t=>s==t
 |.k (.int k n),.const (.int k' n')=>decide (k=k')&&n==n'
 |.k (.bool b),.const (.bool b')=>b==b'
 |.k (.str l),.const (.string s)=>decide (l=s.data.toList)
 |.k (.nils _),.const (.slice none 0 0)=>true
 |.k .nilp,.const (.pointer none)=>true
 |.k .nilf,.const .nilFunc=>true
 |.k (.fn f []),.func g=>f==g
 |_,_=>false
section
variable{P:Program}{a:Act}{o:Oper}{w w0:World}{A:Nat→Nd}{U:Nat→Prop}{ts:Ts}{h:Heap}
theorem cX(hts:cx A U ts a.tmps){x:Opd}{y:Operand}(ho:aX x y=true){r:V1}(hr:evO ts x=some r):eA A U r (a.eval y):=by
 unfold aX at ho;split at ho
 case h_1 s t=>
  simp only[beq_iff_eq]at ho;subst ho;simp only[evO]at hr;split at hr
  ·rename_i x hx;cases hr;exact(hts _ _ hx).2
  ·simp at hr
 case h_9=>simp at ho
 all_goals simp only[evO,Option.some.injEq]at hr;subst hr
 case h_2=>simp only[Bool.and_eq_true,decide_eq_true_eq,beq_iff_eq]at ho;obtain⟨rfl,rfl⟩:=ho;rfl
 case h_3=>simp only[beq_iff_eq]at ho;subst ho;rfl
 case h_4 l s=>simp only[decide_eq_true_eq]at ho;subst ho;simp[eA,aw,Act.eval]
 case h_5=>rfl
 case h_6=>rfl
 case h_7=>rfl
 case h_8=>simp only[beq_iff_eq]at ho;subst ho;exact⟨by simp,rfl⟩
theorem aU(hts:cx A U ts a.tmps){x:Opd}{y:Operand}(ho:aX x y=true){c:CV}(hr:ev1 ts x=some c):aw A U c (a.eval y):=by
 unfold ev1 at hr;split at hr
 ·rename_i c' he;cases hr;exact cX hts ho he
 ·simp at hr
def sR:PV→Option CV
 |.bool b=>some (.bool b)
 |.int k n=>some (.int k n)
 |_=>none
def pQ(op:BinOp):CV→CV→Option CV
 |.int k m,.int k' n=>(nu op (.int k m) (.int k' n)).bind sR
 |.str l,.str m=>match op with
  |.add=>if l.length+m.length≤9223372036854775807 then some (.str (l++m))else none
  |.eql=>some (.bool (l==m))
  |.neq=>some (.bool (!(l==m)))
  |.lss=>some (.bool (Op.bytesLess l m))
  |.leq=>some (.bool (Op.bytesLess l m||l==m))
  |.gtr=>some (.bool (!(Op.bytesLess l m||l==m)))
  |.geq=>some (.bool (!Op.bytesLess l m))
  |_=>none
 |_,_=>none
theorem aAP{p:PV}{c:CV}(h:sR p=some c):aw A U c (pvV p):=by
 unfold sR at h;split at h
 ·cases h;rfl
 ·cases h;rfl
 ·simp at h
theorem yX{op:BinOp}{p q r:CV}{t:TypeId}(hb:pQ op p q=some r){x y:Operand}{u v:Value}(hu:aw A U p u)(hv:aw A U q v):
  ∃z,((do eqGuard op t x y u v;binOp op t u v:Sem Value)).run P w= .ok z w∧aw A U r z:=by
 unfold pQ at hb;split at hb
 ·rename_i k m k' n;simp only[Option.bind_eq_some_iff]at hb;obtain⟨s,h1,h2⟩:=hb;obtain⟨g1, -, -⟩:=jD (P:=P) (w:=w) (t:=t) (x:=x) (y:=y) (n:=⟨0,0,0,0⟩) h1 hu hv;exact⟨_,g1,aAP h2⟩
 ·rename_i l m;simp only[aw]at hu hv;subst hu;subst hv;cases op<;>simp only[reduceCtorEq]at hb
  case add=>
   split at hb
   ·rename_i hle;cases hb;obtain⟨g1, -, -⟩:=jD (P:=P) (w:=w) (t:=t) (x:=x) (y:=y) (n:=⟨0,0,0,0⟩) (op:=.add) (p:=.str ⟨l.toArray⟩) (q:=.str ⟨m.toArray⟩) (r:=.str (⟨l.toArray⟩++⟨m.toArray⟩))
     (by simp only[nu];rw[if_pos];simpa [ByteArray.size]using hle) rfl rfl
    refine⟨_,g1,?_⟩;simp only[aw,pvV,Value.string.injEq];apply ByteArray.ext;simp
   ·simp at hb
  all_goals
   cases hb;refine⟨_,(jD (P:=P) (w:=w) (t:=t) (x:=x) (y:=y) (n:=⟨0,0,0,0⟩) (p:=.str ⟨l.toArray⟩) (q:=.str ⟨m.toArray⟩) (by rfl) rfl rfl).1,?_⟩;simp only[pvV,ByteArray.toList_mk];rfl
 ·simp at hb
end
inductive FOp where
 |mov (x:Opd)
 |pick (c a b:Opd)
 |load (n:Option Nat) (x:Opd)
 |nilCheck (x:Opd)
 |bin (op:BinOp) (x y:Opd)
 |binB (neg:Bool) (x y:Opd)
 |cmpNil (neg:Bool) (x:Opd)
 |un (op:UnOp) (x:Opd)
 |conv (k:IntKind) (x:Opd)
 |fieldAddr (x:Opd) (off:Nat)
 |idxAddr (x i:Opd) (sz:Nat)
 |index (x i:Opd)
 |lenS (x:Opd)
 |len (x:Opd)
 |sliceS (x:Opd) (lo hi:Option Opd)
 |sliceL (x:Opd) (lo hi:Option Opd) (sz:Nat)
def fP(ts:Ts)(x:Opd):Option Int:=match ev1 ts x with
 |some (.int _ n)=>some n
 |_=>none
def dH(ts:Ts)(x:Option Opd)(dflt lim:Nat):Option Nat:=match x with
 |none=>some dflt
 |some y=>match fP ts y with
  |some n=>if 0≤n∧n≤lim then some n.toNat else none
  |none=>none
def aDj(op:UnOp)(x:CV):Option CV:=match x with
 |.int k n=>(aBa op (.int k n)).bind sR
 |.bool b=>(aBa op (.bool b)).bind sR
 |_=>none
def Blk.iz(b:Blk):Nat→Nat→Option (List CV)
 |_,0=>some []
 |o,n+1=>match b.get o with
  |some c=>(b.iz (o+1) n).map (c:: ·)
  |none=>none
def FOp.ev(h:Heap)(ts:Ts):FOp→Option V1
 |.mov x=>evO ts x
 |.pick c a b=>match ev1 ts c with
  |some (.bool true)=>evO ts a
  |some (.bool false)=>evO ts b
  |_=>none
 |.load n x=>match ev1 ts x with
  |some (.ptr id off)=>match h.get id with
   |some b=>match n with
    |none=>(b.get off).map .one
    |some n=>(b.iz off n).map .agg
   |none=>none
  |_=>none
 |.nilCheck x=>match ev1 ts x with
  |some (.ptr id off)=>some (.one (.ptr id off))
  |_=>none
 |.bin op x y=>match ev1 ts x,ev1 ts y with
  |some a,some b=>(pQ op a b).map .one
  |_,_=>none
 |.binB neg x y=>match ev1 ts x,ev1 ts y with
  |some (.bool a),some (.bool b)=>some (.one (.bool (if neg then !(a==b)else a==b)))
  |_,_=>none
 |.cmpNil neg x=>match ev1 ts x with
  |some (.nils _)=>some (.one (.bool (!neg)))
  |some (.sl _ _ _ _)=>some (.one (.bool neg))
  |_=>none
 |.un op x=>match ev1 ts x with
  |some a=>(aDj op a).map .one
  |_=>none
 |.conv k x=>match ev1 ts x with
  |some (.int _ n)=>some (.one (.int k (k.wrap n)))
  |_=>none
 |.fieldAddr x off=>match ev1 ts x with
  |some (.ptr id o)=>some (.one (.ptr id (o+off)))
  |_=>none
 |.idxAddr x i sz=>match ev1 ts x,fP ts i,h with
  |some (.sl id i0 ln _),some n,h=>match h.get id with
   |some b=>if 0≤n∧n<ln∧b.sz=sz then some (.one (.ptr id ((i0+n.toNat)*sz)))else none
   |none=>none
  |_,_,_=>none
 |.index x i=>match ev1 ts x,fP ts i with
  |some (.str s),some n=>if 0≤n then(s[n.toNat]?).map fun b=>.one (.int .u8 b.toNat)else none
  |_,_=>none
 |.lenS x=>match ev1 ts x with
  |some (.str s)=>some (.one (.int .i64 s.length))
  |_=>none
 |.len x=>match ev1 ts x with
  |some (.nils _)=>some (.one (.int .i64 0))
  |some (.sl _ _ ln _)=>some (.one (.int .i64 ln))
  |_=>none
 |.sliceS x lo hi=>match ev1 ts x with
  |some (.str s)=>match dH ts hi s.length s.length with
   |some h=>(dH ts lo 0 h).map fun l=>.one (.str ((s.drop l).take (h-l)))
   |none=>none
  |_=>none
 |.sliceL x lo hi sz=>match ev1 ts x with
  |some (.sl id i0 ln lim)=>match h.get id with
   |some b=>if b.sz=sz then match dH ts hi ln ln with
    |some h=>(dH ts lo 0 h).map fun l=>.one (.sl id (i0+l) (h-l) (lim.map (· -l)))
    |none=>none
    else none
   |none=>none
  |some (.nils z)=>match dH ts hi 0 0 with
   |some h=>(dH ts lo 0 h).map fun _=>.one (.nils z)
   |none=>none
  |_=>none
def fZ:Option Opd→Option Operand→Bool
 |none,none=>true
 |some x,some o=>aX x o
 |_,_=>false
def FOp.ok(P:Program)(f:FOp)(op:Op):Bool:=match f with
 |.mov x=>match op with
  |.move o=>aX x o
  |.assign o=>aX x o
  |_=>false
 |.pick c a b=>match op with
  |.pick c' a' b'=>aX c c'&&aX a a'&&aX b b'
  |_=>false
 |.load none x=>match op with
  |.load t o=>aX x o&&cq P t==some false
  |_=>false
 |.load (some n) x=>match op with
  |.load t o=>aX x o&&cq P t==some true&&cB P t==some n&&n != 0
  |_=>false
 |.nilCheck x=>match op with
  |.nilCheck o=>aX x o
  |_=>false
 |.bin op1 x y=>match op with
  |.binOp op' _ a b _=>op1==op'&&aX x a&&aX y b
  |_=>false
 |.binB neg x y=>match op with
  |.binOp op t a b _=>(op==if neg then .neq else .eql)&&aX x a&&aX y b&&(match P.underlying t with|some .bool=>true|_=>false)
  |_=>false
 |.cmpNil neg x=>match op with
  |.binOp op t a (.const (.slice none 0 0)) _=>aX x a&&(op==if neg then .neq else .eql)&&(match P.underlying t with|some (.slice _)=>true|_=>false)
  |_=>false
 |.un op1 x=>match op with
  |.unOp op' _ a=>op1==op'&&aX x a
  |_=>false
 |.conv k x=>match op with
  |.convert src dst a=>aX x a&&(match P.underlying dst with|some (.int k')=>k==k'|_=>false)&&(P.underlying src).isSome
  |_=>false
 |.fieldAddr x off=>match op with
  |.fieldAddr t a f=>aX x a&&(match P.underlying t with
   |some (.struct fs)=>(match fs[f]? with|some fd=>fd.offset==off&&(match cB P fd.type with|some z=>z != 0|none=>false)|none=>false)
   |_=>false)
  |_=>false
 |.idxAddr x i sz=>match op with
  |.indexAddr t a b=>aX x a&&aX i b&&(match P.underlying t with|some (.slice e)=>cB P e==some sz|_=>false)
  |_=>false
 |.index x i=>match op with
  |.index t a b=>aX x a&&aX i b&&(match P.underlying t with|some .string=>true|_=>false)
  |_=>false
 |.lenS x=>match isBuiltin .len op with
  |some ([a],[t])=>aX x a&&(match P.underlying t with|some .string=>true|_=>false)
  |_=>false
 |.len x=>match isBuiltin .len op with
  |some ([a],[t])=>aX x a&&(match P.underlying t with|some (.slice _)=>true|_=>false)
  |_=>false
 |.sliceS x lo hi=>match op with
  |.slice t a l h none=>aX x a&&fZ lo l&&fZ hi h&&(match P.underlying t with|some .string=>true|_=>false)
  |_=>false
 |.sliceL x lo hi sz=>match op with
  |.slice t a l h none=>aX x a&&fZ lo l&&fZ hi h&&(match P.underlying t with|some (.slice e)=>cB P e==some sz|_=>false)
  |_=>false
end Go.Cq
namespace Go.Cq
open Go.RowKit
open Go.Tq (PV p5 pvV nu aBa cB cq gA jD isBuiltin bp)
def mZ(P:Program)(a:Act)(o:Oper)(w:World)(A:Nat→Nd)(U:Nat→Prop)(r:V1):Prop:=∃v,(execOp a.eval o).run P w= .ok (.value v) w∧eA A U r v
section
variable{P:Program}{a:Act}{o:Oper}{w w0:World}{A:Nat→Nd}{U K:Nat→Prop}{ts:Ts}{h:Heap}
theorem cZ(hts:cx A U ts a.tmps){x:Opd}{y:Operand}(ho:aX x y=true){n:Int}(hx:fP ts x=some n):∃k,a.eval y= .int k n:=by
 unfold fP at hx;split at hx
 ·rename_i k n' he;cases hx;exact⟨k,aU hts ho he⟩
 ·simp at hx
theorem Blk.pz{b:Blk}:∀{n o:Nat}{l:List CV},b.iz o n=some l→l.length=n∧∀(j:Nat) c,l[j]?=some c→b.get (o+j)=some c:=by
 intro n;induction n with
 |zero=>intro o l h;simp only[Blk.iz,Option.some.injEq]at h;subst h;exact⟨rfl,by simp⟩
 |succ n ih=>
  intro o l h;simp only[Blk.iz]at h;split at h
  ·rename_i c hc;simp only[Option.map_eq_some_iff]at h;obtain⟨l',h1,rfl⟩:=h;obtain⟨g1,g2⟩:=ih h1;refine⟨by simp[g1],fun j c' hj=>?_⟩;cases j with
   |zero=>cases hj;exact hc
   |succ j=>simp only[List.getElem?_cons_succ]at hj;have:=g2 j c' hj;rwa[show o+1+j=o+(j+1) by omega]at this
  ·simp at h
theorem Sim.cell(hs:Sim A h U K w0 w){id off:Nat}{b:Blk}(hb:h.get id=some b){c:CV}(hc:b.get off=some c):∃v,w.cell? (addrOf A id off)=some v∧aw A U c v:=by obtain⟨-, -,cs,e,fr,h1, -,h2⟩:=hs.live id b hb;obtain⟨v,h3,h4⟩:=h2.cell off c hc;exact⟨v,by simp[World.cell?,addrOf,h1,h3],h4⟩
theorem rq(hts:cx A U ts a.tmps){x:Opd}{y:Operand}(hop:o.op= .move y∨o.op= .assign y)(ho:aX x y=true){r:V1}(hr:evO ts x=some r):mZ P a o w A U r:=by
 have hrun:(execOp a.eval o).run P w= .ok (.value (a.eval y)) w:=by rcases hop with e|e<;>simp[execOp,e]
 exact⟨_,hrun,cX hts ho hr⟩
theorem qK(id off j:Nat):(addrOf A id off).add j=addrOf A id (off+j):=by simp[addrOf,Addr.add_lit,Nat.add_assoc]
theorem o6(l:List UInt8):(ByteArray.mk l.toArray).size=l.length:=by show l.toArray.size=_;simp
theorem aDM(l:List UInt8)(n:Nat):(ByteArray.mk l.toArray)[n]?=l[n]?:=by
 by_cases h:n<l.length
 ·rw[ByteArray.getElem?_lt' _ _ (by rw[o6];exact h),List.getElem?_eq_getElem h];rfl
 ·rw[ByteArray.getElem?_ge' _ _ (by rw[o6];exact h),List.getElem?_eq_none (by omega)]
theorem wW(l:List UInt8)(n m:Nat):(ByteArray.mk l.toArray).extract n m=ByteArray.mk ((l.drop n).take (m-n)).toArray:=by apply ByteArray.ext;simp[ByteArray.data_extract,List.extract_eq_take_drop]
theorem mP{x:Option Opd}{d lim n:Nat}(h:dH ts x d lim=some n):(x=none∧n=d)∨∃y,∃p:Int,x=some y∧fP ts y=some p∧0≤p∧p≤lim∧n=p.toNat:=by
 cases x with
 |none=>simp only[dH,Option.some.injEq]at h;exact .inl ⟨rfl,h.symm⟩
 |some x=>
  simp only[dH]at h;split at h
  ·rename_i p hp;split at h
   ·rename_i hb;simp only[Option.some.injEq]at h;exact .inr ⟨x,p,rfl,hp,hb.1,hb.2,h.symm⟩
   ·simp at h
  ·simp at h
theorem j9(hts:cx A U ts a.tmps){lo hi:Option Opd}{l' h':Option Operand}(hlo:fZ lo l'=true)(hhi:fZ hi h'=true){isS:Bool}{ln lim cap n m:Nat}(hln:ln≤lim)(hcap:lim≤cap)(hm:dH ts hi ln lim=some m)(hn:dH ts lo 0 m=some n):(Instr.sliceBounds isS ln cap (l'.map a.eval) (h'.map a.eval) none).run P w= .ok (n,m,cap) w∧n≤m∧m≤lim:=by
 have e1:(match h'.map a.eval,(none:Option Value)with
   |some v,some _=>Instr.sliceBound v cap .slice3B
   |some v,none=>Instr.sliceBound v cap (if isS then .sliceAcap else .sliceAlen)
   |none,none=>pure ln
   |none,some _=>stuck "Slice: max without high" :Sem Nat).run P w= .ok m w∧m≤lim:=by
  rcases mP hm with⟨rfl,rfl⟩| ⟨y,p,rfl,hp,h0,h1,rfl⟩
  ·cases h' with
   |some z=>simp[fZ]at hhi
   |none=>exact⟨rfl,hln⟩
  ·cases h' with
   |none=>simp[fZ]at hhi
   |some z=>
    obtain⟨k,hk⟩:=cZ hts hhi hp;have hb':0≤p∧p≤(cap:Int):=by omega
    exact⟨by simp[Instr.sliceBound,hk,asIntOf,hb'],by omega⟩
 have e2:(match l'.map a.eval with
   |some v=>Instr.sliceBound v m .sliceB
   |none=>pure 0:Sem Nat).run P w= .ok n w∧n≤m:=by
  rcases mP hn with⟨rfl,rfl⟩| ⟨y,p,rfl,hp,h0,h1,rfl⟩
  ·cases l' with
   |some z=>simp[fZ]at hlo
   |none=>exact⟨rfl,Nat.zero_le _⟩
  ·cases l' with
   |none=>simp[fZ]at hlo
   |some z=>obtain⟨k,hk⟩:=cZ hts hlo hp;exact⟨by simp[Instr.sliceBound,hk,asIntOf,h0,h1],by omega⟩
 obtain⟨e1,e1'⟩:=e1;obtain⟨e2,e2'⟩:=e2;refine⟨?_,e2',e1'⟩;cases h'<;>cases l'<;>simp only[Option.map_none,Option.map_some,Sem.run_pure,Result.ok.injEq,and_true]at e1 e2<;>simp[Instr.sliceBounds,e1,e2]
theorem FOp.sound(hs:Sim A h U K w0 w)(hts:cx A U ts a.tmps){f:FOp}(hok:f.ok P o.op=true){r:V1}(hr:f.ev h ts=some r):mZ P a o w A U r:=by
 unfold FOp.ok at hok;split at hok
 case h_1=>
  split at hok
  ·rename_i e;exact rq hts (.inl e) hok hr
  ·rename_i e;exact rq hts (.inr e) hok hr
  ·simp at hok
 case h_2 c x z=>
  split at hok
  ·rename_i c' x' z' e;simp only[Bool.and_eq_true]at hok;simp only[FOp.ev]at hr;split at hr
   ·rename_i he;have hc:a.eval c'= .bool true:=aU hts hok.1.1 he;exact⟨a.eval x',by simp[execOp,e,hc,asBool],cX hts hok.1.2 hr⟩
   ·rename_i he;have hc:a.eval c'= .bool false:=aU hts hok.1.1 he;exact⟨a.eval z',by simp[execOp,e,hc,asBool],cX hts hok.2 hr⟩
   ·simp at hr
  ·simp at hok
 case h_3 x=>
  split at hok
  ·rename_i t y e;simp only[Bool.and_eq_true,beq_iff_eq]at hok;obtain⟨h1,h2⟩:=hok;simp only[FOp.ev]at hr;split at hr
   ·rename_i id off he;have hp:=aU hts h1 he;split at hr
    ·rename_i b hb;simp only[Option.map_eq_some_iff]at hr;obtain⟨c,hc,rfl⟩:=hr;obtain⟨v,g1,g2⟩:=hs.cell hb hc;exact⟨v,by simp[execOp,e,hp.2,Instr.loadAt,Instr.sureAddr,loadVar,Tq.gA h2,g1],g2⟩
    ·simp at hr
   ·simp at hr
  ·simp at hok
 case h_4 n x=>
  split at hok
  ·rename_i t y e;simp only[Bool.and_eq_true,beq_iff_eq,bne_iff_ne]at hok;obtain⟨⟨⟨h1,h2⟩,h3⟩,h4⟩:=hok;simp only[FOp.ev]at hr;split at hr
   ·rename_i id off he;have hp:=aU hts h1 he;split at hr
    ·rename_i b hb;simp only[Option.map_eq_some_iff]at hr;obtain⟨l,hl,rfl⟩:=hr;obtain⟨g1,g2⟩:=Blk.pz hl;have key:∃us:List Value,us.length=n∧∀(j:Nat) c,l[j]?=some c→∃u,us[j]?=some u∧w.cell? (addrOf A id (off+j))=some u∧aw A U c u:=by
      have hex:∀(j:Nat),j<l.length→∃u,∀c,l[j]?=some c→w.cell? (addrOf A id (off+j))=some u∧aw A U c u:=by intro j hj;obtain⟨u,g3,g4⟩:=hs.cell hb (g2 j _ (List.getElem?_eq_getElem hj));refine⟨u,fun c hc=>?_⟩;rw[List.getElem?_eq_getElem hj]at hc;cases hc;exact⟨g3,g4⟩
      refine⟨(List.range l.length).map fun j=>if hj:j<l.length then(hex j hj).choose else default,by simp[g1],fun j c hj=>?_⟩;have hlt:=(List.getElem?_eq_some_iff.1 hj).1;have h7:=(hex j hlt).choose_spec c hj;exact⟨(hex j hlt).choose,by simp[hlt],h7⟩
     obtain⟨us,g3,g4⟩:=key;have h5:∀(j:Nat) u,us[j]?=some u→w.cell? ((addrOf A id off).add j)=some u:=by intro j u hj;have hlt:=(List.getElem?_eq_some_iff.1 hj).1;obtain⟨u',g5,g6, -⟩:=g4 j _ (List.getElem?_eq_getElem (show j<l.length by omega));rw[hj]at g5;cases g5;rw[qK];exact g6
     have hld:=run_loadCells_list (P:=P) w (addrOf A id off) us h5;rw[g3]at hld;refine⟨.agg us.toArray,by simp[execOp,e,hp.2,Instr.loadAt,Instr.sureAddr,loadVar,Tq.gA h2,Tq.run_sizeOf h3,hld],us.toArray,rfl,by simp[g3,g1],fun j c hj=>?_⟩;obtain⟨u,g5, -,g6⟩:=g4 j c hj;exact⟨u,by simpa using g5,g6⟩
    ·simp at hr
   ·simp at hr
  ·simp at hok
 case h_5 x=>
  split at hok
  ·rename_i y e;simp only[FOp.ev]at hr;split at hr
   ·rename_i id off he;cases hr;have hp:=aU hts hok he;exact⟨a.eval y,by simp[execOp,e,hp.2],hp⟩
   ·simp at hr
  ·simp at hok
 case h_6 op x z=>
  split at hok
  ·rename_i op' t y y' t' e;simp only[Bool.and_eq_true,beq_iff_eq]at hok;obtain⟨⟨h1,h2⟩,h3⟩:=hok;subst h1;simp only[FOp.ev]at hr;split at hr
   ·rename_i p q he1 he2;simp only[Option.map_eq_some_iff]at hr;obtain⟨r',hb,rfl⟩:=hr;obtain⟨v,g1,g2⟩:=yX (P:=P) (w:=w) (t:=t) (x:=y) (y:=y') hb (aU hts h2 he1) (aU hts h3 he2);refine⟨v,?_,g2⟩;simp only[execOp,e];rw[Sem.run_bind,g1];rfl
   ·simp at hr
  ·simp at hok
 case h_7 neg x z=>
  split at hok
  ·rename_i op' t y y' t' e;simp only[Bool.and_eq_true,beq_iff_eq]at hok;obtain⟨⟨⟨h1,h2⟩,h3⟩,h4⟩:=hok;split at h4
   ·rename_i hu;simp only[FOp.ev]at hr;split at hr
    ·rename_i p q he1 he2;cases hr;have g1:=aU hts h2 he1;have g2:=aU hts h3 he2;simp only[aw]at g1 g2;refine⟨.bool (if neg then !(p==q)else p==q),?_,rfl⟩;cases neg<;>subst h1<;>simp[execOp,e,g1,g2,eqGuard_at_bool,run_eql_bool w t p q hu,run_neq_bool w t p q hu]
    ·simp at hr
   ·simp at h4
  ·simp at hok
 case h_8 neg x=>
  split at hok
  ·rename_i op' t y t' e;simp only[Bool.and_eq_true,beq_iff_eq]at hok;obtain⟨⟨h1,h2⟩,h4⟩:=hok;split at h4
   ·rename_i e2 hu;have key:∀ad l c,a.eval y= .slice ad l c→(execOp a.eval o).run P w= .ok (.value (.bool (if neg then !ad.isNone else ad.isNone))) w:=by intro ad l c hv;have hc:a.eval (.const (.slice none 0 0))= .slice none 0 0:=rfl;cases neg<;>subst h2<;>simp[execOp,e,hv,hc,eqGuard_at_slice,binOp,run_equal_slice_nil w t e2 ad l c hu]
    simp only[FOp.ev]at hr;split at hr
    ·rename_i he;cases hr;refine⟨_,key _ _ _ (aU hts h1 he),?_⟩;cases neg<;>rfl
    ·rename_i id i ln lim he;cases hr;obtain⟨-,off,cap,g1, -⟩:=aU hts h1 he;refine⟨_,key _ _ _ g1,?_⟩;cases neg<;>rfl
    ·simp at hr
   ·simp at h4
  ·simp at hok
 case h_9 op x=>
  split at hok
  ·rename_i op' t y e;simp only[Bool.and_eq_true,beq_iff_eq]at hok;obtain⟨h1,h2⟩:=hok;subst h1;simp only[FOp.ev]at hr;split at hr
   ·rename_i p he;simp only[Option.map_eq_some_iff]at hr;obtain⟨q,hq,rfl⟩:=hr;have hv:=aU hts h2 he;cases p<;>simp only[aDj,reduceCtorEq,aBa,Option.bind_eq_some_iff]at hq
    ·cases op<;>simp only[reduceCtorEq,Option.some.injEq,false_and,exists_false]at hq;obtain⟨s,rfl,hq⟩:=hq;simp only[sR,Option.some.injEq]at hq;subst hq;simp only[aw]at hv;exact⟨_,by simp only[execOp,e,hv,Op.unary];rfl,rfl⟩
    ·cases op<;>simp only[reduceCtorEq,Option.some.injEq,false_and,exists_false]at hq;obtain⟨s,rfl,hq⟩:=hq;simp only[sR,Option.some.injEq]at hq;subst hq;simp only[aw]at hv;exact⟨_,by simp only[execOp,e,hv,Op.unary,Op.intArith];rfl,rfl⟩
   ·simp at hr
  ·simp at hok
 case h_10 k x=>
  split at hok
  ·rename_i src dst y e;simp only[Bool.and_eq_true]at hok;obtain⟨⟨h1,h2⟩,h3⟩:=hok;split at h2
   ·rename_i k' hu;simp only[beq_iff_eq]at h2;subst h2;simp only[FOp.ev]at hr;split at hr
    ·rename_i k2 n he;cases hr;have hv:=aU hts h1 he;simp only[aw]at hv;obtain⟨d,hd'⟩:=Option.isSome_iff_exists.1 h3;exact⟨_,by simp[execOp,e,hv,convert,run_underlying hu,run_underlying hd',Conv.intToInt],rfl⟩
    ·simp at hr
   ·simp at h2
  ·simp at hok
 case h_11 x off=>
  split at hok
  ·rename_i t y f e;simp only[Bool.and_eq_true]at hok;obtain⟨h1,h2⟩:=hok;split at h2
   ·rename_i fs hu;split at h2
    ·rename_i fd hf;simp only[Bool.and_eq_true,beq_iff_eq]at h2;obtain⟨h3,h4⟩:=h2;split at h4
     ·rename_i z hz;simp only[bne_iff_ne]at h4;simp only[FOp.ev]at hr;split at hr
      ·rename_i id o' he;cases hr;have hp:=aU hts h1 he;refine⟨.pointer (some (addrOf A id (o'+off))),?_,hp.1,rfl⟩;simp[execOp,e,hp.2,Instr.fieldAt,run_underlying hu,hf,Instr.sureAddr,fieldPlace,Tq.run_sizeOf hz,h4,h3,qK]
      ·simp at hr
     ·simp at h4
    ·simp at h2
   ·simp at h2
  ·simp at hok
 case h_12 x i sz=>
  split at hok
  ·rename_i t y y' e;simp only[Bool.and_eq_true]at hok;obtain⟨⟨h1,h2⟩,h3⟩:=hok;split at h3
   ·rename_i e2 hu;simp only[beq_iff_eq]at h3;simp only[FOp.ev]at hr;split at hr
    ·rename_i id i0 ln lim n he hi;split at hr
     ·rename_i b hb;split at hr
      ·rename_i hc;obtain⟨h5,h6,h7⟩:=hc;cases hr;obtain⟨g0,off,cap,g1,g2,g3,g4,g5⟩:=aU hts h1 he;obtain⟨k,hk⟩:=cZ hts h2 hi;obtain⟨-, -,cs,el,fr, -, -,hbk⟩:=hs.live id b hb;have hsz:(A id).sz=sz:=hbk.sz.symm.trans h7;refine⟨.pointer (some (addrOf A id ((i0+n.toNat)*sz))),?_,g0,rfl⟩;have hof:=g5 (by omega);subst hof;rw[hsz]at g1;have e3:(⟨(A id).blk,(A id).off+i0*sz,none⟩:Addr).add (n.toNat*sz)=addrOf A id ((i0+n.toNat)*sz):=by simp only[Addr.add_lit,addrOf,Nat.add_mul];congr 1;omega
       simp[execOp,e,g1,hk,Instr.indexAt,asIntOf,run_underlying hu,h5,h6,Tq.run_sizeOf h3,e3]
      ·simp at hr
     ·simp at hr
    ·simp at hr
   ·simp at h3
  ·simp at hok
 case h_13 x i=>
  split at hok
  ·rename_i t y y' e;simp only[Bool.and_eq_true]at hok;obtain⟨⟨h1,h2⟩,h3⟩:=hok;split at h3
   ·rename_i hu;simp only[FOp.ev]at hr;split at hr
    ·rename_i s n he hi;split at hr
     ·rename_i h0;simp only[Option.map_eq_some_iff]at hr;obtain⟨b,hb,rfl⟩:=hr;have hv:=aU hts h1 he;simp only[aw]at hv;obtain⟨k,hk⟩:=cZ hts h2 hi;have hb':(ByteArray.mk s.toArray)[n.toNat]?=some b:=by rw[aDM];exact hb
      exact⟨.int .u8 b.toNat,by simp[execOp,e,hv,hk,Instr.index,asIntOf,run_underlying hu,h0,hb'],rfl⟩
     ·simp at hr
    ·simp at hr
   ·simp at h3
  ·simp at hok
 case h_14 x=>
  split at hok
  ·rename_i y t e;simp only[Bool.and_eq_true]at hok;obtain⟨h1,h3⟩:=hok;split at h3
   ·rename_i hu;have e':=bp e;simp only[FOp.ev]at hr;split at hr
    ·rename_i s he;cases hr;have hv:=aU hts h1 he;simp only[aw]at hv;exact⟨.int .i64 s.length,by simp[execOp,e',hv,resolve,invoke,builtin,Builtin.len_,run_underlying hu,goInt,o6],rfl⟩
    ·simp at hr
   ·simp at h3
  ·simp at hok
 case h_15 x=>
  split at hok
  ·rename_i y t e;simp only[Bool.and_eq_true]at hok;obtain⟨h1,h3⟩:=hok;split at h3
   ·rename_i e2 hu;have e':=bp e;have key:∀ad l c,a.eval y= .slice ad l c→(execOp a.eval o).run P w= .ok (.value (.int .i64 l)) w:=by intro ad l c hv;simp[execOp,e',hv,resolve,invoke,builtin,Builtin.len_,run_underlying hu,goInt]
    simp only[FOp.ev]at hr;split at hr
    ·rename_i he;cases hr;exact⟨_,key _ _ _ (aU hts h1 he),rfl⟩
    ·rename_i id i ln lim he;cases hr;obtain⟨-,off,cap,g1, -⟩:=aU hts h1 he;exact⟨_,key _ _ _ g1,rfl⟩
    ·simp at hr
   ·simp at h3
  ·simp at hok
 case h_16 x lo hi=>
  split at hok
  ·rename_i t y l' h' e;simp only[Bool.and_eq_true]at hok;obtain⟨⟨⟨h1,h2⟩,h3⟩,h4⟩:=hok;split at h4
   ·rename_i hu;simp only[FOp.ev]at hr;split at hr
    ·rename_i s he;split at hr
     ·rename_i m hm;simp only[Option.map_eq_some_iff]at hr;obtain⟨n,hn,rfl⟩:=hr;have hv:=aU hts h1 he;simp only[aw]at hv;obtain⟨g1,g2,g3⟩:=j9 (P:=P) (w:=w) (isS:=false) hts h2 h3 (Nat.le_refl _) (Nat.le_refl _) hm hn;refine⟨.string ((ByteArray.mk s.toArray).extract n m),by simp[execOp,e,hv,Instr.sliceAt,Instr.slice,run_underlying hu,o6,g1],?_⟩;rw[wW];rfl
     ·simp at hr
    ·simp at hr
   ·simp at h4
  ·simp at hok
 case h_17 x lo hi sz=>
  split at hok
  ·rename_i t y l' h' e;simp only[Bool.and_eq_true]at hok;obtain⟨⟨⟨h1,h2⟩,h3⟩,h4⟩:=hok;split at h4
   ·rename_i e2 hu;simp only[beq_iff_eq]at h4;have key:∀ad ln cap n m,a.eval y= .slice ad ln cap→(Instr.sliceBounds true ln cap (l'.map a.eval) (h'.map a.eval) none).run P w= .ok (n,m,cap) w→
      (execOp a.eval o).run P w= .ok (.value (.slice (if cap=n then ad else ad.map (·.add (n*sz))) (m-n) (cap-n))) w:=by
     intro ad ln cap n m hv hb;simp[execOp,e,hv,Instr.sliceAt,Instr.slice,run_underlying hu,hb,Tq.run_sizeOf h4]
    simp only[FOp.ev]at hr;split at hr
    ·rename_i id i0 ln lim he;split at hr
     ·rename_i b hb;split at hr
      ·rename_i hsz;split at hr
       ·rename_i m hm;simp only[Option.map_eq_some_iff]at hr;obtain⟨n,hn,rfl⟩:=hr;obtain⟨g0,off,cap,g1,g2,g3,g4,g5⟩:=aU hts h1 he;obtain⟨-, -,cs,el,fr, -, -,hbk⟩:=hs.live id b hb;have hz:(A id).sz=sz:=hbk.sz.symm.trans hsz;obtain⟨b1,b2,b3⟩:=j9 (P:=P) (w:=w) (isS:=true) hts h2 h3 (Nat.le_refl _) g4 hm hn;refine⟨_,key _ _ _ _ _ g1 b1,g0,?_⟩;have hcap:cap-n=(Option.map (fun x=>x-n) lim).getD ((A id).cap-(i0+n)):=by
         cases lim with
         |none=>simp only[Option.getD_none,Option.map_none]at g2 ⊢;omega
         |some c=>simp only[Option.getD_some,Option.map_some]at g2 ⊢;omega
        by_cases hc:cap=n
        ·rw[if_pos hc];exact⟨off,cap-n,rfl,hcap,by omega,by omega,fun hne=>by omega⟩
        ·rw[if_neg hc];refine⟨_,cap-n,rfl,hcap,by omega,by omega,fun _=>?_⟩;rw[g5 (by omega)];simp only[Addr.add_lit,hz,Nat.add_mul];congr 1;omega
       ·simp at hr
      ·simp at hr
     ·simp at hr
    ·rename_i he;split at hr
     ·rename_i m hm;simp only[Option.map_eq_some_iff]at hr;obtain⟨n,hn,rfl⟩:=hr;have hv:=aU hts h1 he;simp only[aw]at hv;obtain⟨b1,b2,b3⟩:=j9 (P:=P) (w:=w) (isS:=true) hts h2 h3 (Nat.le_refl 0) (Nat.le_refl 0) hm hn;have hm0:m=0:=by omega
      have hn0:n=0:=by omega
      subst hm0;subst hn0;exact⟨_,key _ _ _ _ _ hv b1,rfl⟩
     ·simp at hr
    ·simp at hr
   ·simp at h4
  ·simp at hok
end
end Go.Cq
namespace Go.Cq
open Go.RowKit
open Go.Tq (cB cq gl)
section
variable{P:Program}{a:Act}{o:Oper}{w w0:World}{A:Nat→Nd}{U K:Nat→Prop}{ts:Ts}{h:Heap}
theorem Sim.lt(hs:Sim A h U K w0 w){id:Nat}{b:Blk}(hb:h.get id=some b):(A id).blk<w.heap.size:=by obtain⟨-, -,c,e,fr,h1, -⟩:=hs.live id b hb;exact(Array.getElem?_eq_some_iff.1 h1).1
theorem Sim.sub(hs:Sim A h U K w0 w){h':Heap}{U':Nat→Prop}(hh:∀id b,h'.get id=some b→h.get id=some b)(hU:∀id,U id→U' id)(hm:∀id x,h'.getM id=some x→h.getM id=some x:=by exact fun _ _ h=>h):Sim A h' U' K w0 w where
 os:=hs.os
 tape:=hs.tape
 output:=hs.output
 size:=hs.size
 old:=hs.old
 live id b hb:=by obtain⟨h1,h2,c,e,fr,h3,h3',h4⟩:=hs.live id b (hh id b hb);exact⟨hU id h1,h2,c,e,fr,h3,h3',h4.ext (Ext.refl A U) hU⟩
 inj id id' b b' hb hb':=hs.inj id id' b b' (hh id b hb) (hh id' b' hb')
 maps id x hx:=by obtain⟨h1,h2,h3,o,h4,h5⟩:=hs.maps id x (hm id x hx);exact⟨hU id h1,h2,h3,o,h4,h5.ext (Ext.refl A U) hU⟩
 minj id id' x x' hx hx':=hs.minj id id' x x' (hm id x hx) (hm id' x' hx')
 vw:=⟨hU 0 hs.vw.1,hs.vw.2.1,fun id b hb=>hs.vw.2.2 id b (hh id b hb)⟩
def Nat.upd{α:Type}(A:Nat→α)(i:Nat)(x:α):Nat→α:=fun j=>if j=i then x else A j
theorem oS{A:Nat→Nd}{U:Nat→Prop}{i:Nat}(hi:¬U i)(x:Nd):Ext A (Nat.upd A i x) U:=fun j hj=>by unfold Nat.upd;rw[if_neg];intro e;subst e;exact hi hj
theorem cw(A:Nat→Nd)(i:Nat)(x:Nd):Nat.upd A i x i=x:=by simp[Nat.upd]
theorem Sim.alloc(hs:Sim A h U K w0 w){i:Nat}(hi:¬U i){b:Blk}{cap:Nat}{arr:Array Value}{e:TypeId}{fr:Nat×Nat}{w1:World}(hh:w1.heap=w.heap)(ho:w1.os=w.os)(ht:w1.tape=w.tape)(hu:w1.output=w.output)(hfit:cap*b.sz≤arr.size)(hn:b.n≤cap*b.sz)(htt:b.tight=true→b.n=cap*b.sz)(hc:∀o x,b.get o=some x→∃v,arr[o]?=some v∧aw A U x v)(hro:b.ro=false:=by first|rfl|simp[Blk.ro])(hfr:aCA fr arr.size:=by exact .inl rfl):
  Sim (Nat.upd A i ⟨w.heap.size,0,cap,b.sz⟩) (h.set i (some b)) (fun j=>U j∨j=i) K w0 (w1.alloc (.cells arr e fr))∧Ext A (Nat.upd A i ⟨w.heap.size,0,cap,b.sz⟩) U:=by
 have hext:=oS (A:=A) hi ⟨w.heap.size,0,cap,b.sz⟩;have hU:∀j,U j→U j∨j=i:=fun j hj=>.inl hj
 have hheap:(w1.alloc (.cells arr e fr)).heap=w.heap.push (.cells arr e fr):=by show w1.heap.push _=_;rw[hh]
 refine⟨⟨ho.trans hs.os,ht.trans hs.tape,hu.trans hs.output,?_,?_,?_,?_,?_,?_,.inl hs.vw.1,by rw[hext 0 hs.vw.1];exact hs.vw.2.1,fun id b' hb'=>?_⟩,hext⟩
 ·rw[hheap];simp only[Array.size_push];have:=hs.size;omega
 ·intro b' hb' hK;have:=hs.size;rw[hheap,Array.getElem?_push,if_neg (by omega)];exact hs.old b' hb' hK
 ·intro id b' hb';rw[Heap.aQ]at hb';split at hb'
  ·rename_i e1;subst e1;cases hb';rw[cw];refine⟨.inr rfl,fun _=>.inl hs.size,arr,e,fr,by rw[hheap];simp,fun _=>hfr,⟨by simpa using hfit,rfl,hn,htt,fun o x hx=>?_⟩⟩;obtain⟨v,h1,h2⟩:=hc o x hx;exact⟨v,by simpa using h1,jJ hext hU h2⟩
  ·rename_i hne;obtain⟨h1,h2,c,e',fr,h3,h3',h4⟩:=hs.live id b' hb';have e2:Nat.upd A i ⟨w.heap.size,0,cap,b.sz⟩ id=A id:=by simp[Nat.upd,hne]
   have hlt:=hs.lt hb';rw[e2];refine⟨.inl h1,h2,c,e',fr,?_,h3',h4.ext hext hU⟩;rw[hheap,Array.getElem?_push,if_neg (by omega)];exact h3
 ·intro id id' b1 b2 h1 h2 heq;rw[Heap.aQ]at h1 h2;by_cases e1:id=i
  ·by_cases e2:id'=i
   ·exact .inl (e1.trans e2.symm)
   ·rw[if_neg e2]at h2;have:=hs.lt h2;simp only[Nat.upd,e1,e2,if_true,if_false]at heq;omega
  ·rw[if_neg e1]at h1;by_cases e2:id'=i
   ·have:=hs.lt h1;simp only[Nat.upd,e1,e2,if_true,if_false]at heq;omega
   ·rw[if_neg e2]at h2;simp only[Nat.upd,e1,e2,if_false]at heq;exact hs.inj id id' b1 b2 h1 h2 heq
 ·intro id x hx;obtain⟨h1,h2,h3,o,h4,h5⟩:=hs.maps id x hx;have e2:Nat.upd A i ⟨w.heap.size,0,cap,b.sz⟩ id=A id:=hext id h1;have hlt:=(Array.getElem?_eq_some_iff.1 h4).1;rw[e2];refine⟨.inl h1,h2,h3,o,?_,h5.ext hext hU⟩;rw[hheap,Array.getElem?_push,if_neg (by omega)];exact h4
 ·intro id id' x x' hx hx' heq;rw[hext id (hs.maps id x hx).1,hext id' (hs.maps id' x' hx').1]at heq;exact hs.minj id id' x x' hx hx' heq
 ·rw[hext 0 hs.vw.1];rw[Heap.aQ]at hb';split at hb'
  ·rename_i e1;subst e1;cases hb';rw[cw,hro];have:=hs.vw.2.1;have:=hs.size;exact⟨fun h=>by simp at h,fun h=>by have h:w.heap.size< (A 0).cap:=h;omega⟩
  ·rw[hext id (hs.live id b' hb').1];exact hs.vw.2.2 id b' hb'
def Blk.put(b:Blk)(o:Nat)(l:List CV):Blk:={b with cs:=b.cs.wB o l}
theorem Blk.mM{b:Blk}{o:Nat}{l:List CV}(hle:o+l.length≤b.n)(j:Nat):(b.put o l).get j=if o≤j∧j<o+l.length then l[j-o]? else b.get j:=by
 unfold Blk.get Blk.put;simp only;rw[Tr.mV];by_cases hin:o≤j∧j<o+l.length
 ·rw[if_pos hin,if_pos hin];have hlt:Nat.blt j b.n=true:=by rw[Nat.blt_eq];omega
  have hl:j-o<l.length:=by omega
  rw[hlt,cond_true,List.getElem?_eq_getElem hl]
 ·rw[if_neg hin,if_neg hin]
theorem vO{c:CV}{v:Value}(hv:aw A U c v):v.oneCell'=true∧v.cells= #[v]:=by
 cases c with
 |ptr id off=>rw[hv.2];exact⟨rfl,rfl⟩
 |sl id i len lim=>obtain⟨-,off,cap,h1, -⟩:=hv;rw[h1];exact⟨rfl,rfl⟩
 |fn f caps=>rw[hv.2];exact⟨rfl,rfl⟩
 |mp id=>rw[hv.2];exact⟨rfl,rfl⟩
 |_=>simp only[aw]at hv;rw[hv];exact⟨rfl,rfl⟩
def V1.cells:V1→List CV
 |.one c=>[c]
 |.agg cs=>cs
theorem mi{r:V1}{v:Value}(hv:eA A U r v):v.cells.size=r.cells.length∧∀(j:Nat) c,r.cells[j]?=some c→∃u,v.cells[j]?=some u∧aw A U c u:=by
 cases r with
 |one c=>
  rw[(vO hv).2];refine⟨rfl,fun j c' hj=>?_⟩;cases j with
  |zero=>simp only[V1.cells,List.getElem?_cons_zero,Option.some.injEq]at hj;subst hj;exact⟨v,rfl,hv⟩
  |succ j=>simp[V1.cells]at hj
 |agg cs=>obtain⟨us,rfl,h2,h3⟩:=hv;exact⟨h2,h3⟩
theorem mq{b o:Nat}{c:Array Value}{e:TypeId}{fz:Nat×Nat}(hb:w.heap[b]?=some (.cells c e fz))(v:Value):(w.setCell ⟨b,o,none⟩ v).heap[b]?=some (.cells (c.setIfInBounds o v) e fz)∧(∀b',b'≠b→(w.setCell ⟨b,o,none⟩ v).heap[b']?=w.heap[b']?)∧(w.setCell ⟨b,o,none⟩ v).heap.size=w.heap.size:=by
 unfold World.setCell;refine⟨?_,fun b' hne=>?_,by simp⟩
 ·simp[Array.getElem?_modify,hb]
 ·simp[Array.getElem?_modify,Ne.symm hne]
theorem Sim.aEe(hs:Sim A h U K w0 w){id off:Nat}{b:Blk}(hb:h.get id=some b)(hro:b.ro=false)(hoff:off<b.n){c:CV}{v:Value}(hv:aw A U c v):Sim A (h.set id (some (b.put off [c]))) U K w0 (w.setCell (addrOf A id off) v):=by
 obtain⟨h1,h2,cs,e,fr,h3,h3',h4⟩:=hs.live id b hb;have h2:=h2 hro;have h3':=h3' hro;obtain⟨g1,g2,g3⟩:=mq (o:=(A id).off+off) h3 v;have hput:∀j,(b.put off [c]).get j=if j=off then some c else b.get j:=by
  intro j;rw[Blk.mM (by simp;omega)];by_cases e1:j=off
  ·subst e1;simp
  ·rw[if_neg e1,if_neg (by simp;omega)]
 have hin:(A id).off+off<cs.size:=by have:=h4.fits;have:=h4.known;omega
 refine⟨hs.os,hs.tape,hs.output,?_,?_,?_,?_,?_,hs.minj,hs.vw.1,hs.vw.2.1,fun id' b' hb'=>?_⟩
 ·show _≤(w.setCell ⟨(A id).blk,(A id).off+off,none⟩ v).heap.size;rw[g3];exact hs.size
 ·intro b' hb' hK;show(w.setCell ⟨(A id).blk,(A id).off+off,none⟩ v).heap[b']?=_;rw[g2 b' ?_]
  ·exact hs.old b' hb' hK
  ·intro e1;subst e1;rcases h2 with h2|h2
   ·omega
   ·exact hK h2
 ·intro id' b' hb';show _∧_∧∃c' e' fr',(w.setCell ⟨(A id).blk,(A id).off+off,none⟩ v).heap[(A id').blk]?=_∧_;rw[Heap.aQ]at hb';split at hb'
  ·rename_i e1;subst e1;cases hb';refine⟨h1,fun _=>h2,_,e,fr,g1,fun _=>by simpa using h3',⟨by simpa using h4.fits,h4.sz,h4.known,h4.tight,fun o x hx=>?_⟩⟩;rw[hput]at hx;split at hx
   ·rename_i e2;subst e2;cases hx;exact⟨v,by simp[hin],hv⟩
   ·rename_i e2;obtain⟨u,f1,f2⟩:=h4.cell o x hx;exact⟨u,by rw[Array.getElem?_setIfInBounds_ne (by omega)];exact f1,f2⟩
  ·rename_i e1;obtain⟨k1,k2,c',e',fr',k3,k3',k4⟩:=hs.live id' b' hb';refine⟨k1,k2,c',e',fr',?_,k3',k4⟩;rw[g2 _ (fun e2=>(hs.inj id' id b' b hb' hb e2).elim e1 fun h=>by rw[hro]at h;simp at h)];exact k3
 ·intro id1 id2 b1 b2 f1 f2 heq;have hb':∀i b',(h.set id (some (b.put off [c]))).get i=some b'→∃b'',h.get i=some b''∧b'.ro=b''.ro:=by
   intro i b' hi;rw[Heap.aQ]at hi;split at hi
   ·rename_i e1;subst e1;cases hi;exact⟨b,hb,rfl⟩
   ·exact⟨b',hi,rfl⟩
  obtain⟨b1',f1',q1⟩:=hb' id1 b1 f1;obtain⟨b2',f2',q2⟩:=hb' id2 b2 f2;rw[q1,q2];exact hs.inj id1 id2 b1' b2' f1' f2' heq
 ·intro id' x hx;obtain⟨k1,k2,k3,o,k4,k5⟩:=hs.maps id' x hx;refine⟨k1,k2,k3,o,?_,k5⟩;show(w.setCell ⟨(A id).blk,(A id).off+off,none⟩ v).heap[(A id').blk]?=_;rw[g2 _ (fun e2=>by rw[e2,h3]at k4;simp only[Option.some.injEq]at k4;exact k5.lA k4.symm)];exact k4
 ·rw[Heap.aQ]at hb';split at hb'
  ·rename_i e1;subst e1;cases hb';have h9:=hs.vw.2.2 _ _ hb;exact h9
  ·exact hs.vw.2.2 id' b' hb'
theorem Sim.congr(hs:Sim A h U K w0 w){h':Heap}(hh:∀id b',h'.get id=some b'→∃b,h.get id=some b∧b'.sz=b.sz∧b'.n=b.n∧b'.tight=b.tight∧(∀o,b'.get o=b.get o)∧b'.ro=b.ro)(hm:∀id x,h'.getM id=some x→h.getM id=some x:=by exact fun _ _ h=>h):Sim A h' U K w0 w where
 os:=hs.os
 tape:=hs.tape
 output:=hs.output
 size:=hs.size
 old:=hs.old
 live id b' hb':=by obtain⟨b,e1,e2,e3,e4,e5,e6⟩:=hh id b' hb';obtain⟨h1,h2,c,e,fr,h3,h3',h4⟩:=hs.live id b e1;rw[←e6]at h2 h3';exact⟨h1,h2,c,e,fr,h3,h3',⟨h4.fits,e2.trans h4.sz,by rw[e3];exact h4.known,fun ht=>by rw[e3];exact h4.tight (e4▸ht),fun o x hx=>h4.cell o x (by rw[←e5];exact hx)⟩⟩
 inj id id' b b' hb hb':=by obtain⟨b1,e1, -, -, -, -,q1⟩:=hh id b hb;obtain⟨b2,e2, -, -, -, -,q2⟩:=hh id' b' hb';rw[q1,q2];exact hs.inj id id' b1 b2 e1 e2
 maps id x hx:=hs.maps id x (hm id x hx)
 minj id id' x x' hx hx':=hs.minj id id' x x' (hm id x hx) (hm id' x' hx')
 vw:=⟨hs.vw.1,hs.vw.2.1,fun id b' hb'=>by obtain⟨b,e1,e2,e3,e4,e5,e6⟩:=hh id b' hb';rw[e6];exact hs.vw.2.2 id b e1⟩
theorem Sim.aCp{id:Nat}:∀{l:List CV}{vs:List Value}{off:Nat}{b:Blk}{h:Heap}{w:World},Sim A h U K w0 w→h.get id=some b→b.ro=false→off+l.length≤b.n→vs.length=l.length→(∀(j:Nat) c,l[j]?=some c→∃u,vs[j]?=some u∧aw A U c u)→
  Sim A (h.set id (some (b.put off l))) U K w0 (Tq.cS (A id).blk ((A id).off+off) vs w):=by
 intro l;induction l with
 |nil=>
  intro vs off b h w hs hb hro hle hlen hv;have:vs=[]:=List.length_eq_zero_iff.1 hlen;subst this;refine hs.congr fun i b' hb'=>?_
  rw[Heap.aQ]at hb';split at hb'
  ·rename_i e1;subst e1;cases hb';exact⟨b,hb,rfl,rfl,rfl,fun o=>rfl,rfl⟩
  ·exact⟨b',hb',rfl,rfl,rfl,fun o=>rfl,rfl⟩
 |cons c l ih=>
  intro vs off b h w hs hb hro hle hlen hv;cases vs with
  |nil=>simp at hlen
  |cons v vs=>
   obtain⟨u,hu1,hu2⟩:=hv 0 c rfl;cases hu1;simp only[List.length_cons]at hle hlen;have h1:=hs.aEe hb hro (off:=off) (by omega) hu2;have h2:=ih (vs:=vs) (off:=off+1) (b:=b.put off [c]) h1 (by rw[Heap.aQ,if_pos rfl]) hro (by show off+1+l.length≤b.n;omega) (by omega) (fun j c' hj=>by simpa using hv (j+1) c' (by simpa using hj));refine h2.congr fun i b' hb'=>?_
   rw[Heap.aQ]at hb';split at hb'
   ·rename_i e1;subst e1;cases hb';exact⟨(b.put off [c]).put (off+1) l,by rw[Heap.aQ,if_pos rfl],rfl,rfl,rfl,fun o=>rfl,rfl⟩
   ·rename_i e1;exact⟨b',by rw[Heap.aQ,if_neg e1,Heap.aQ,if_neg e1];exact hb',rfl,rfl,rfl,fun o=>rfl,rfl⟩
theorem zm{b o:Nat}{c:Array Value}{e:TypeId}{fr:Nat×Nat}(hb:w.heap[b]?=some (.cells c e fr))(hf:aCA fr c.size)(ho:o<c.size):w.frozen? ⟨b,o,none⟩=false:=by
 simp only[World.frozen?,hb];rcases hf with rfl|hf
 ·simp
 ·have:¬fr.1≤o:=by omega
  simp[this]
def j6(n:Nat)(x v:Opd)(h:Heap)(ts:Ts):Option Heap:=match ev1 ts x,evO ts v with
 |some (.ptr id off),some r=>match h.get id with
  |some b=>if r.cells.length=n∧off+n≤b.n∧b.ro=false then some (h.set id (some (b.put off r.cells)))else none
  |none=>none
 |_,_=>none
theorem mG(hs:Sim A h U K w0 w){id off:Nat}{b:Blk}(hb:h.get id=some b)(hro:b.ro=false){l:List CV}{vs:List Value}(hle:off+l.length≤b.n)(hlen:vs.length=l.length)(hv:∀(j:Nat) c,l[j]?=some c→∃u,vs[j]?=some u∧aw A U c u):(storeCells (addrOf A id off) vs 0).run P w= .ok () (Tq.cS (A id).blk ((A id).off+off) vs w):=by
 obtain⟨h1,h2,cs,e,fr,h3,h3',h4⟩:=hs.live id b hb;have h3':=h3' hro;have hin:∀j,j<vs.length→(A id).off+off+j<cs.size:=fun j hj=>by have:=h4.fits;have:=h4.known;omega
 have:=Tq.iC (P:=P) (A id).blk ((A id).off+off) vs 0 w (fun j hj=>⟨_,by
   simp only[World.cell?,h3,Nat.add_zero,Option.isSome_none,Bool.false_eq_true,if_false];exact Array.getElem?_eq_getElem (hin j hj)⟩) (fun j hj=>by
   exact zm h3 h3' (by have:=hin j hj;simpa using this)) (fun v hv'=>by
   obtain⟨j,hj⟩:=List.mem_iff_getElem?.1 hv';have hlt:=(List.getElem?_eq_some_iff.1 hj).1;obtain⟨u,f1,f2⟩:=hv j _ (List.getElem?_eq_getElem (show j<l.length by omega));rw[hj]at f1;cases f1;exact(vO f2).1)
 rw[Nat.add_zero]at this;exact this
theorem tP(hs:Sim A h U K w0 w)(hts:cx A U ts a.tmps){n:Nat}{x v:Opd}{t:TypeId}{yx yv:Operand}(hop:o.op= .store t yx yv)(hox:aX x yx=true)(hov:aX v yv=true)(hsz:cB P t=some n){h':Heap}(hr:j6 n x v h ts=some h'):
  ∃w',(execOp a.eval o).run P w= .ok .skip w'∧Sim A h' U K w0 w':=by
 unfold j6 at hr;split at hr
 ·rename_i id off r hx hv;split at hr
  ·rename_i b hb;split at hr
   ·rename_i hc;cases hr;have hp:=aU hts hox hx;obtain⟨c1,c2⟩:=mi (cX hts hov hv);have hvs:∀(j:Nat) c,r.cells[j]?=some c→∃u,(a.eval yv).cells.toList[j]?=some u∧aw A U c u:=fun j c hj=>by simpa using c2 j c hj
    have hst:=mG (P:=P) hs hb hc.2.2 (off:=off) (l:=r.cells) (vs:=(a.eval yv).cells.toList) (by omega) (by simpa using c1) hvs;refine⟨_,?_,hs.aCp hb hc.2.2 (by omega) (by simpa using c1) hvs⟩;have hst':(Instr.storeAt t (a.eval yx) (a.eval yv)).run P w= .ok () (Tq.cS (A id).blk ((A id).off+off) (a.eval yv).cells.toList w):=by
     have hne:¬(a.eval yv).cells.size≠n:=by rw[c1,hc.1];simp
     rw[hp.2];simp only[Instr.storeAt,Instr.sureAddr,pure_bind,storeVar,Sem.run_bind,Tq.run_sizeOf hsz,Result.andThen];rw[if_neg hne];exact hst
    simp only[execOp,hop];rw[Sem.run_bind,hst'];rfl
   ·simp at hr
  ·simp at hr
 ·simp at hr
end
end Go.Cq
namespace Go.Cq
open Go.RowKit
open Go.Tq (cB cq gl nT)
def okZ:CV→Value→Bool
 |.bool x,.bool y=>x==y
 |.int k x,.int k' y=>k==k'&&x==y
 |.str l,.string s=>decide (l=s.data.toList)
 |.nils _,.slice none 0 0=>true
 |.nilp,.pointer none=>true
 |.nilf,.nilFunc=>true
 |_,_=>false
def qC:List CV→List Value→Bool
 | [],[]=>true
 |c::t,v::t'=>okZ c v&&qC t t'
 |_,_=>false
def jr(P:Program)(t:TypeId)(cs:List CV):Bool:=match(P.info? t).bind (·.zero)with
 |some v=>qC cs v.cells.toList
 |none=>false
structure Part where
 off:Nat
 size:Nat
 x:Opd
def fA(places:Nat→Option (Nat×Nat)):List Part→List (Nat×Operand)→Bool
 | [],[]=>true
 |p::t,(i,o)::t'=>places i==some (p.off,p.size)&&aX p.x o&&fA places t t'
 |_,_=>false
def gk(cs:List CV)(off:Nat)(ns:List CV):List CV:=cs.take off++(ns++cs.drop (off+ns.length))
def kJ(ts:Ts):List Part→List CV→Option (List CV)
 | [],cs=>some cs
 |p::rest,cs=>match evO ts p.x with
  |some r=>if r.cells.length=p.size∧p.off+p.size≤cs.length then kJ ts rest (gk cs p.off r.cells)else none
  |none=>none
def lI(ts:Ts):List Part→Blk→Option Blk
 | [],b=>some b
 |p::rest,b=>match evO ts p.x with
  |some r=>if r.cells.length=p.size∧p.off+p.size≤b.n then lI ts rest (b.put p.off r.cells)else none
  |none=>none
def cd(sz:Nat)(l:List CV):Blk:=⟨sz,l.length,false,[],Tr.lf.wB 0 l⟩
theorem nQ{sz o:Nat}{l:List CV}{x:CV}(h:(cd sz l).get o=some x):l[o]?=some x:=by
 unfold cd Blk.get at h;simp only at h;cases hb:Nat.blt o l.length with
 |true=>rw[hb]at h;rw[Nat.blt_eq]at hb;simp only[cond_true,Tr.mV,Nat.zero_le,true_and,Nat.zero_add,hb,if_true,Nat.sub_zero]at h;rw[List.getElem?_eq_getElem hb]at h ⊢;simpa using h
 |false=>rw[hb]at h;simp at h
inductive NOp where
 |alloc (zs:List CV)
 |box (x:Opd)
 |lit (zs:List CV) (len:Nat) (ps:List Part)
 |mk (zs:List CV) (bytes:Nat) (x y:Opd)
 |sb (x:Opd)
def NOp.ev(ts:Ts)(i:Nat):NOp→Option (Blk×CV)
 |.alloc zs=>some (⟨zs.length,zs.length,true,zs,.lf⟩,.ptr i 0)
 |.box x=>match evO ts x with
  |some r=>some (⟨r.cells.length,r.cells.length,true,r.cells,.lf⟩,.ptr i 0)
  |none=>none
 |.lit zs len ps=>(lI ts ps ⟨zs.length,len*zs.length,true,zs,.lf⟩).map fun b=>(b,.sl i 0 len none)
 |.mk zs bytes x y=>match fP ts x,fP ts y with
  |some n,some c=>if 0≤n∧n≤c∧(bytes:Int)*c≤281474976710656∧c≤9223372036854775807 then some (⟨zs.length,c.toNat*zs.length,true,zs,.lf⟩,.sl i 0 n.toNat none)else none
  |_,_=>none
 |.sb x=>match ev1 ts x with
  |some (.str l)=>some (cd 1 (l.map fun b=>.int .u8 (b.toNat:Int)),.sl i 0 l.length none)
  |_=>none
def NOp.ok(P:Program)(f:NOp)(op:Op):Bool:=match f with
 |.alloc zs=>match op with
  |.alloc t=>jr P t zs
  |_=>false
 |.box x=>match op with
  |.box _ y=>aX x y
  |_=>false
 |.lit zs len ps=>match op with
  |.buildSlice t n qs=>len==n&&decide (len*zs.length≤16777216)&&fA (fun i=>some (i*zs.length,zs.length)) ps qs.toList&&(match P.underlying t with|some (.slice e)=>jr P e zs&&cB P e==some zs.length|_=>false)
  |_=>false
 |.mk zs bytes x y=>match op with
  |.makeSlice t x' y'=>aX x x'&&aX y y'&&(match P.underlying t with|some (.slice e)=>jr P e zs&&cB P e==some zs.length&&(P.info? e).map (·.bytes)==some bytes|_=>false)
  |_=>false
 |.sb x=>match op with
  |.convert src dst y=>aX x y&&(match P.underlying src,P.underlying dst with
   |some .string,some (.slice e)=>(match P.underlying e with|some (.int .u8)=>true|_=>false)
   |_,_=>false)
  |_=>false
section
variable{P:Program}{a:Act}{o:Oper}{w w0:World}{A:Nat→Nd}{U K:Nat→Prop}{ts:Ts}{h:Heap}
theorem my{c:CV}{v:Value}(h:okZ c v=true):aw A U c v:=by
 unfold okZ at h;split at h
 ·simp only[beq_iff_eq]at h;subst h;rfl
 ·simp only[Bool.and_eq_true,beq_iff_eq]at h;obtain⟨rfl,rfl⟩:=h;rfl
 ·simp only[decide_eq_true_eq]at h;subst h;simp[aw]
 ·rfl
 ·rfl
 ·rfl
 ·simp at h
theorem kM{cs:List CV}{vs:List Value}(h:qC cs vs=true):cs.length=vs.length∧∀(j:Nat) c,cs[j]?=some c→∃u,vs[j]?=some u∧okZ c u=true:=by
 induction cs generalizing vs with
 |nil=>
  cases vs with
  |nil=>exact⟨rfl,by simp⟩
  |cons v t=>simp[qC]at h
 |cons c t ih=>
  cases vs with
  |nil=>simp[qC]at h
  |cons v t'=>
   simp only[qC,Bool.and_eq_true]at h;obtain⟨h1,h2⟩:=ih h.2;refine⟨by simp[h1],fun j c' hj=>?_⟩;cases j with
   |zero=>cases hj;exact⟨v,rfl,h.1⟩
   |succ j=>simp only[List.getElem?_cons_succ]at hj ⊢;exact h2 j c' hj
theorem gj{t:TypeId}{cs:List CV}(h:jr P t cs=true):∃z,(∀w,(zeroValue t).run P w= .ok z w)∧qC cs z.cells.toList=true∧∃i,P.info? t=some i∧i.zero=some z:=by
 unfold jr at h;split at h
 ·rename_i v hv;cases hi:P.info? t with
  |none=>simp[hi]at hv
  |some i=>simp only[hi,Option.bind_some]at hv;exact⟨v,fun w=>by simp[zeroValue,typeInfo,hi,hv],h,i,rfl,hv⟩
 ·simp at h
theorem oP{cs ns:List CV}{off:Nat}(h:off+ns.length≤cs.length):(gk cs off ns).length=cs.length:=by simp[gk];omega
theorem sP{cs ns:List CV}{off:Nat}(h:off+ns.length≤cs.length)(j:Nat):(gk cs off ns)[j]?=if off≤j∧j<off+ns.length then ns[j-off]? else cs[j]?:=by
 unfold gk;rw[List.getElem?_append];have hl:(cs.take off).length=off:=by simp;omega
 rw[hl];by_cases h1:j<off
 ·rw[if_pos h1,if_neg (by omega),List.getElem?_take,if_pos h1]
 ·rw[if_neg h1,List.getElem?_append];by_cases h2:j-off<ns.length
  ·rw[if_pos h2,if_pos (by omega)]
  ·rw[if_neg h2,if_neg (by omega),List.getElem?_drop];congr 1;omega
def za(A:Nat→Nd)(U:Nat→Prop)(cs:List CV)(arr:Array Value):Prop:=arr.size=cs.length∧∀(j:Nat) c,cs[j]?=some c→∃u,arr[j]?=some u∧aw A U c u
theorem uY(hts:cx A U ts a.tmps){places:Nat→Option (Nat×Nat)}:∀{tp:List Part}{ps:List (Nat×Operand)}{cs cs':List CV}{arr:Array Value},fA places tp ps=true→za A U cs arr→
  kJ ts tp cs=some cs'→∃arr',Instr.fill places arr (ps.map fun p=>(p.1,a.eval p.2))=some arr'∧za A U cs' arr':=by
 intro tp;induction tp with
 |nil=>
  intro ps cs cs' arr hok hr hf;cases ps with
  |nil=>simp only[kJ,Option.some.injEq]at hf;subst hf;exact⟨arr,rfl,hr⟩
  |cons p t=>simp[fA]at hok
 |cons p t ih=>
  intro ps cs cs' arr hok hr hf;cases ps with
  |nil=>simp[fA]at hok
  |cons q t'=>
   obtain⟨i,y⟩:=q;simp only[fA,Bool.and_eq_true,beq_iff_eq]at hok;obtain⟨⟨hp,ho⟩,hok'⟩:=hok;simp only[kJ]at hf;split at hf
   ·rename_i r hx;split at hf
    ·rename_i hc;obtain⟨k2,k3⟩:=hc;obtain⟨c1,c2⟩:=mi (cX hts ho hx);obtain⟨cells',f1,f2,f3⟩:=nT (rest:=t'.map fun p=>(p.1,a.eval p.2)) (cells:=arr) (v:=a.eval y) hp (by omega) (by rw[hr.1];omega);simp only[List.map_cons];rw[f3];refine ih hok' ⟨?_,fun j c hj=>?_⟩ hf
     ·rw[f1,hr.1,oP (by omega)]
     ·rw[sP (by omega)]at hj;rw[f2];rw[k2]at hj;split at hj
      ·rename_i hin;rw[if_pos hin];exact c2 _ c hj
      ·rename_i hin;rw[if_neg hin];exact hr.2 j c hj
    ·simp at hf
   ·simp at hf
theorem o7{cs:List CV}{z:Value}(h:qC cs z.cells.toList=true):za A U cs z.cells:=by obtain⟨h3,h4⟩:=kM h;refine⟨by simpa using h3.symm,fun j c hj=>?_⟩;obtain⟨u,f1,f2⟩:=h4 j c hj;exact⟨u,by simpa using f1,my f2⟩
def o5(P:Program)(t:TypeId):Option (Nat→Option (Nat×Nat)):=match P.underlying t with
 |some (.array _ e)=>(P.info? e).map fun ie=>fun i=>some (i*ie.size,ie.size)
 |_=>(gl P t).map fun pl=>(pl.toArray[·]?)
theorem aB4{t:TypeId}{zs:List CV}{pl:Nat→Option (Nat×Nat)}(hz:jr P t zs=true)(hp:o5 P t=some pl):∃z:Value,qC zs z.cells.toList=true∧∀parts,P.built t parts=Instr.fill pl z.cells parts:=by
 obtain⟨z, -,h2,i,h3,h4⟩:=gj hz;refine⟨z,h2,fun parts=>?_⟩;unfold o5 at hp;unfold Program.built;cases hu:P.underlying t with
 |none=>simp[hu,gl]at hp
 |some d=>
  cases d
  case array n e=>simp only[hu,Option.map_eq_some_iff]at hp;obtain⟨ie,k1,rfl⟩:=hp;simp only[h3,h4,k1]
  case struct fs=>simp only[hu,Option.map_eq_some_iff,gl]at hp;obtain⟨l,k1,rfl⟩:=hp;simp only[h3,h4,k1]
  all_goals simp[hu,gl]at hp
theorem tq(hts:cx A U ts a.tmps){t:TypeId}{ps:Array (Nat×Operand)}{zs:List CV}{pl:Nat→Option (Nat×Nat)}{tp:List Part}(hop:o.op= .build t ps)(hz:jr P t zs=true)(hp:o5 P t=some pl)(hok:fA pl tp ps.toList=true){cs:List CV}(hf:kJ ts tp zs=some cs):mZ P a o w A U (.agg cs):=by
 obtain⟨z,h1,h2⟩:=aB4 hz hp;obtain⟨arr,f1,hr⟩:=uY hts hok (o7 h1) hf;have hrun:(execOp a.eval o).run P w= .ok (.value (.agg arr)) w:=by have hb:=run_build (P:=P) w t (ps.map fun(i,x)=>(i,a.eval x)) arr (by rw[h2,←f1];congr 1;simp);simp only[execOp,hop];rw[Sem.run_bind,hb];rfl
 exact⟨.agg arr,hrun,arr,rfl,hr.1,hr.2⟩
def BOk(A:Nat→Nd)(U:Nat→Prop)(b:Blk)(arr:Array Value):Prop:=arr.size=b.n∧∀o x,b.get o=some x→∃u,arr[o]?=some u∧aw A U x u
theorem uA(hts:cx A U ts a.tmps){places:Nat→Option (Nat×Nat)}:∀{tp:List Part}{ps:List (Nat×Operand)}{b b':Blk}{arr:Array Value},fA places tp ps=true→BOk A U b arr→
  lI ts tp b=some b'→(b'.n=b.n∧b'.sz=b.sz∧b'.tight=b.tight)∧∃arr',Instr.fill places arr (ps.map fun p=>(p.1,a.eval p.2))=some arr'∧BOk A U b' arr':=by
 intro tp;induction tp with
 |nil=>
  intro ps b b' arr hok hr hf;cases ps with
  |nil=>simp only[lI,Option.some.injEq]at hf;subst hf;exact⟨⟨rfl,rfl,rfl⟩,arr,rfl,hr⟩
  |cons p t=>simp[fA]at hok
 |cons p t ih=>
  intro ps b b' arr hok hr hf;cases ps with
  |nil=>simp[fA]at hok
  |cons q t'=>
   obtain⟨i,y⟩:=q;simp only[fA,Bool.and_eq_true,beq_iff_eq]at hok;obtain⟨⟨hp,ho⟩,hok'⟩:=hok;simp only[lI]at hf;split at hf
   ·rename_i r hx;split at hf
    ·rename_i hc;obtain⟨k2,k3⟩:=hc;obtain⟨c1,c2⟩:=mi (cX hts ho hx);obtain⟨cells',f1,f2,f3⟩:=nT (rest:=t'.map fun p=>(p.1,a.eval p.2)) (cells:=arr) (v:=a.eval y) hp (by omega) (by rw[hr.1];omega);simp only[List.map_cons];rw[f3];refine ih (b:=b.put p.off r.cells) hok' ⟨by rw[f1,hr.1];rfl,fun j c hj=>?_⟩ hf;rw[Blk.mM (by omega)]at hj;rw[f2];rw[k2]at hj;split at hj
     ·rename_i hin;rw[if_pos hin];exact c2 _ c hj
     ·rename_i hin;rw[if_neg hin];exact hr.2 j c hj
    ·simp at hf
   ·simp at hf
theorem aDZ{zs:List CV}{n o:Nat}{x:CV}{t:Bool}(h:(Blk.mk zs.length n t zs .lf).get o=some x):o<n∧zs[o % zs.length]?=some x:=by
 unfold Blk.get at h;simp only[Tr.aAE]at h;cases hb:Nat.blt o n with
 |true=>rw[hb]at h;exact⟨by rwa[Nat.blt_eq]at hb,h⟩
 |false=>rw[hb]at h;simp at h
theorem qo{zs:List CV}{z:Value}{n:Nat}{t:Bool}(h:qC zs z.cells.toList=true):BOk A U ⟨zs.length,n,t,zs,.lf⟩ ((Array.range n).map (z.cells[· % z.cells.size]!)):=by
 obtain⟨h3,h4⟩:=kM h;have hsz:z.cells.size=zs.length:=by simpa using h3.symm
 refine⟨by simp,fun o x hx=>?_⟩;obtain⟨hlt,hx⟩:=aDZ hx;obtain⟨u,f1,f2⟩:=h4 _ x hx;refine⟨u,?_,my f2⟩;have hm:o % z.cells.size<z.cells.size:=by rw[hsz];exact(List.getElem?_eq_some_iff.1 hx).1
 rw[←hsz]at f1;simp only[Array.getElem?_toList]at f1;simp only[Array.getElem?_map,Array.getElem?_range,hlt,if_true,Option.map_some];rw[getElem!_pos z.cells _ hm];rw[Array.getElem?_eq_getElem hm]at f1;exact f1
def aAg(P:Program)(a:Act)(o:Oper)(w w0:World)(A:Nat→Nd)(h:Heap)(U K:Nat→Prop)(i:Nat)(b:Blk)(c:CV):Prop:=∃v w' A',(execOp a.eval o).run P w= .ok (.value v) w'∧Sim A' (h.set i (some b)) (fun j=>U j∨j=i) K w0 w'∧Ext A A' U∧aw A' (fun j=>U j∨j=i) c v
theorem wo(A:Nat→Nd)(U:Nat→Prop)(i n cap sz:Nat):aw (Nat.upd A i ⟨n,0,cap,sz⟩) (fun j=>U j∨j=i) (.ptr i 0) (.pointer (some ⟨n,0,none⟩)):=⟨.inr rfl,by simp[addrOf,cw]⟩
theorem sT(A:Nat→Nd)(U:Nat→Prop)(i n sz:Nat){len cap:Nat}(hle:len≤cap):aw (Nat.upd A i ⟨n,0,cap,sz⟩) (fun j=>U j∨j=i) (.sl i 0 len none) (.slice (some ⟨n,0,none⟩) len cap):=⟨.inr rfl,_,cap,rfl,by rw[cw];simp,by rw[cw];simp,hle,fun _=>by rw[cw];simp⟩
theorem NOp.sound(hs:Sim A h U K w0 w)(hts:cx A U ts a.tmps){i:Nat}(hi:¬U i){f:NOp}(hok:f.ok P o.op=true){b:Blk}{c:CV}(hr:f.ev ts i=some (b,c)):aAg P a o w w0 A h U K i b c:=by
 cases f with
 |alloc zs=>
  simp only[NOp.ok]at hok;split at hok
  ·rename_i t e;simp only[NOp.ev,Option.some.injEq,Prod.mk.injEq]at hr;obtain⟨rfl,rfl⟩:=hr;obtain⟨z,h1,h2, -⟩:=gj hok;obtain⟨r1,r2⟩:=o7 (A:=A) (U:=U) h2;obtain⟨g1,g2⟩:=hs.alloc (cap:=1) (b:=⟨zs.length,zs.length,true,zs,.lf⟩) (arr:=z.cells) (e:=t) (w1:=w) hi rfl rfl rfl rfl (by simp only;omega) (by simp only;omega) (fun _=>by simp only;omega) (fun o x hx=>by obtain⟨hlt,hx⟩:=aDZ hx;rw[Nat.mod_eq_of_lt hlt]at hx;exact r2 o x hx);exact⟨.pointer (some ⟨w.heap.size,0,none⟩),_,_,by simp[execOp,e,Instr.alloc,h1,newVar,newRow],g1,g2,wo _ _ _ _ _ _⟩
  ·simp at hok
 |box x=>
  simp only[NOp.ok]at hok;split at hok
  ·rename_i t y e;simp only[NOp.ev]at hr;split at hr
   ·rename_i r hx;cases hr;obtain⟨r1,r2⟩:=mi (cX hts hok hx);obtain⟨g1,g2⟩:=hs.alloc (cap:=1) (b:=⟨r.cells.length,r.cells.length,true,r.cells,.lf⟩) (arr:=(a.eval y).cells) (e:=t) (w1:=w) hi rfl rfl rfl rfl (by simp only;omega) (by simp only;omega) (fun _=>by simp only;omega) (fun o x hx=>by obtain⟨hlt,hx⟩:=aDZ hx;rw[Nat.mod_eq_of_lt hlt]at hx;exact r2 o x hx);exact⟨.pointer (some ⟨w.heap.size,0,none⟩),_,_,by simp[execOp,e,Instr.box,newVar,newRow],g1,g2,wo _ _ _ _ _ _⟩
   ·simp at hr
  ·simp at hok
 |lit zs len ps=>
  simp only[NOp.ok]at hok;split at hok
  ·rename_i t n qs e;simp only[Bool.and_eq_true,beq_iff_eq,decide_eq_true_eq]at hok;obtain⟨⟨⟨h1,h2⟩,h3⟩,h4⟩:=hok;subst h1;split at h4
   ·rename_i el hu;simp only[Bool.and_eq_true,beq_iff_eq]at h4;obtain⟨h5,h6⟩:=h4;simp only[NOp.ev,Option.map_eq_some_iff,Prod.mk.injEq]at hr;obtain⟨b',hf,rfl,rfl⟩:=hr;obtain⟨z, -,z2,ie,z3,z4⟩:=gj h5;have hsz:ie.size=zs.length:=by unfold cB at h6;simpa [z3]using h6
    obtain⟨⟨k1,k2,k3⟩,arr,f1,hr1,hr2⟩:=uA hts h3 (qo (n:=len*zs.length) (t:=true) z2) hf;simp only at k1 k2 k3;have hrun:(execOp a.eval o).run P w= .ok (.value (.slice (some ⟨w.heap.size,0,none⟩) len len)) (w.alloc (.cells arr el)):=by
     by_cases h0:len*zs.length=0
     ·have h0':len*ie.size=0:=by rw[hsz];exact h0
      have f1':Instr.fill (fun i=>some (i*ie.size,ie.size)) #[] (qs.toList.map fun p=>(p.1,a.eval p.2))=some arr:=by rw[hsz,←f1,h0];simp[Array.range_zero']
      have hb:(Instr.buildSlice t len (qs.map fun(i,x)=>(i,a.eval x))).run P w= .ok (.slice (some ⟨w.heap.size,0,none⟩) len len) (w.alloc (.cells arr el)):=by simp only[Instr.buildSlice,Sem.run_bind,run_underlying hu,Result.andThen,Tq.run_sizeOf (show cB P el=some ie.size by rw[hsz];exact h6),h0'];simp[Array.range_zero',f1',newRow]
      simp only[execOp,e];rw[Sem.run_bind,hb];rfl
     ·have hb:=run_buildSlice (P:=P) w t el len (qs.map fun(i,x)=>(i,a.eval x)) arr ie z hu z3 z4 (by rw[hsz];omega) (by rw[hsz];exact h0) (by rw[hsz,←f1];congr 1;simp);simp only[execOp,e];rw[Sem.run_bind,hb];rfl
    obtain⟨g1,g2⟩:=hs.alloc (cap:=len) (b:=b') (arr:=arr) (e:=el) (w1:=w) hi rfl rfl rfl rfl (by rw[k2,hr1,k1];exact Nat.le_refl _) (by rw[k1,k2];exact Nat.le_refl _) (fun _=>by rw[k1,k2]) hr2 (by simp[Blk.ro,k3]);exact⟨_,_,_,hrun,g1,g2,sT _ _ _ _ _ (Nat.le_refl _)⟩
   ·simp at h4
  ·simp at hok
 |mk zs bytes x y=>
  simp only[NOp.ok]at hok;split at hok
  ·rename_i t x' y' e;simp only[Bool.and_eq_true]at hok;obtain⟨⟨h1,h2⟩,h4⟩:=hok;split at h4
   ·rename_i el hu;simp only[Bool.and_eq_true,beq_iff_eq]at h4;obtain⟨⟨h5,h6⟩,h7⟩:=h4;simp only[NOp.ev]at hr;split at hr
    ·rename_i n c hn hc;split at hr
     ·rename_i hb;obtain⟨b1,b2,b3,b4⟩:=hb;cases hr;obtain⟨k1,e1⟩:=cZ hts h1 hn;obtain⟨k2,e2⟩:=cZ hts h2 hc;obtain⟨z, -,z2,ie,z3,z4⟩:=gj h5;have hsz:ie.size=zs.length:=by unfold cB at h6;simpa [z3]using h6
      have hby:ie.bytes=bytes:=by simpa [z3]using h7
      have hrun:=run_make (P:=P) w t el ie z hu z3 z4 k1 k2 n c b1 b2 (by rw[hby];exact b3) b4;obtain⟨r1,r2⟩:=qo (A:=A) (U:=U) (n:=c.toNat*zs.length) (t:=true) z2;obtain⟨g1,g2⟩:=hs.alloc (cap:=c.toNat) (b:=⟨zs.length,c.toNat*zs.length,true,zs,.lf⟩) (arr:=madeCells z.cells (c.toNat*ie.size)) (e:=el) (w1:=w) hi rfl rfl rfl rfl (by rw[size_madeCells,hsz];exact Nat.le_refl _) (Nat.le_refl _) (fun _=>rfl) (by rw[hsz];exact r2);refine⟨_,_,_,?_,g1,g2,sT _ _ _ _ _ (by omega)⟩;simp only[execOp,e,e1,e2];rw[Sem.run_bind,hrun];rfl
     ·simp at hr
    ·simp at hr
   ·simp at h4
  ·simp at hok
 |sb x=>
  simp only[NOp.ok]at hok;split at hok
  ·rename_i src dst y e;simp only[Bool.and_eq_true]at hok;obtain⟨h1,h4⟩:=hok;split at h4
   ·rename_i el hu1 hu2;split at h4
    ·rename_i hu3;simp only[NOp.ev]at hr;split at hr
     ·rename_i l hx;cases hr;have e1:a.eval y= .string ⟨l.toArray⟩:=aU hts h1 hx;have hrun:=run_bytes_of_string (P:=P) w src dst el ⟨l.toArray⟩ hu1 hu2 hu3;have hsize:(⟨l.toArray⟩:ByteArray).size=l.length:=by simp[ByteArray.size]
      have hcap:=grownCap_ge w l.length 0 el;rw[hsize]at hrun;have hbs:(bytesRow ⟨l.toArray⟩ (grownCap w l.length 0 el)).size=grownCap w l.length 0 el:=by simp[bytesRow,hsize];omega
      obtain⟨g1,g2⟩:=hs.alloc (cap:=grownCap w l.length 0 el) (b:=cd 1 (l.map fun b=>.int .u8 (b.toNat:Int))) (arr:=bytesRow ⟨l.toArray⟩ (grownCap w l.length 0 el)) (e:=el) (w1:=w.drew) (fr:=((bytesRow ⟨l.toArray⟩ (grownCap w l.length 0 el)).size,(bytesRow ⟨l.toArray⟩ (grownCap w l.length 0 el)).size+1)) hi rfl rfl rfl rfl
       (by rw[hbs];exact Nat.le_of_eq (Nat.mul_one _)) (by simp only[cd,List.length_map,Nat.mul_one];exact hcap) (fun h=>by simp[cd]at h) (fun o x hx=>by have hx:=nQ hx;rw[List.getElem?_map,Option.map_eq_some_iff]at hx;obtain⟨b,hb,rfl⟩:=hx;have hlt:=(List.getElem?_eq_some_iff.1 hb).1;refine⟨.int .u8 (b.toNat:Int),?_,rfl⟩;rw[bytesRow,Array.getElem?_append_left (by simpa using hlt)];simp[hb]) (by simp[Blk.ro,cd]) (.inr (Nat.le_refl _))
      refine⟨_,_,_,?_,g1,g2,sT _ _ _ _ _ hcap⟩;simp only[execOp,e,e1];rw[Sem.run_bind,hrun];rfl
     ·simp at hr
    ·simp at h4
   ·simp at h4
  ·simp at hok
end
end Go.Cq
namespace Go.Cq
open Go.RowKit
open Go.Tq (cB cq nB mz er)
def f9(h:Heap)(ts:Ts)(sz:Nat)(y:Opd):Option (List CV×Nat):=match ev1 ts y with
 |some (.nils _)=>some ([],0)
 |some (.sl id i ln _)=>match h.get id with
  |some b=>if b.sz=sz then(b.iz (i*sz) (ln*sz)).map fun l=>(l,ln)else none
  |none=>none
 |_=>none
def dM(sz bytes:Nat)(x y:Opd)(i:Nat)(h:Heap)(ts:Ts):Option (Heap×CV):=match f9 h ts sz y with
 |some (l,n)=>match ev1 ts x with
  |some (.nils z)=>if n=0 then some (h,.nils z)else if n*bytes≤140737488355328∧n≤140737488355328 then some (h.set i (some (cd sz l)),.sl i 0 n none)else none
  |some (.sl id j ln lim)=>match h.get id with
   |some b=>if b.sz=sz∧sz≠0∧(ln+n)*bytes≤140737488355328∧ln+n≤140737488355328∧b.ro=false then match b.iz (j*sz) (ln*sz)with
     |some l0=>match lim with
      |none=>if(j+ln+n)*sz≤b.n then some (h.set id (some (b.put ((j+ln)*sz) l)),.sl id j (ln+n) none)
       else if b.tight then some (h.set i (some (cd sz (l0++l))),.sl i 0 (ln+n) none)
       else if ln+n=0 then none else some ((h.set id none).set i (some (cd sz (l0++l))),.sl i 0 (ln+n) none)
      |some c=>if c<ln+n then some (h.set i (some (cd sz (l0++l))),.sl i 0 (ln+n) none)
       else if(j+ln+n)*sz≤b.n then some (h.set id (some (b.put ((j+ln)*sz) l)),.sl id j (ln+n) (some c))else none
     |none=>none
    else none
   |none=>none
  |_=>none
 |none=>none
section
variable{P:Program}{a:Act}{o:Oper}{w w0:World}{A:Nat→Nd}{U K:Nat→Prop}{ts:Ts}{h:Heap}
theorem Sim.line(hs:Sim A h U K w0 w){id off n:Nat}{b:Blk}(hb:h.get id=some b){l:List CV}(hl:b.iz off n=some l):l.length=n∧∃us:List Value,us.length=n∧(∀(j:Nat) u,us[j]?=some u→w.cell? ⟨(A id).blk,(A id).off+off+j,none⟩=some u∧∃c,l[j]?=some c∧aw A U c u):=by
 obtain⟨g1,g2⟩:=Blk.pz hl;refine⟨g1,?_⟩;have hex:∀(j:Nat),j<l.length→∃u,w.cell? ⟨(A id).blk,(A id).off+off+j,none⟩=some u∧∃c,l[j]?=some c∧aw A U c u:=by intro j hj;obtain⟨u,g3,g4⟩:=hs.cell hb (g2 j _ (List.getElem?_eq_getElem hj));refine⟨u,?_,_,List.getElem?_eq_getElem hj,g4⟩;rw[Nat.add_assoc];exact g3
 refine⟨(List.range l.length).map fun j=>if hj:j<l.length then(hex j hj).choose else default,by simp[g1],fun j u hj=>?_⟩;have hlt:j<l.length:=by have:=(List.getElem?_eq_some_iff.1 hj).1;simpa using this
 rw[List.getElem?_map,List.getElem?_range hlt]at hj;simp only[Option.map_some,hlt,dif_pos,Option.some.injEq]at hj;subst hj;exact(hex j hlt).choose_spec
structure YOk(P:Program)(w:World)(A:Nat→Nd)(U:Nat→Prop)(sz n:Nat)(l:List CV)(vy:Value)(news:List Value):Prop where
 llen:l.length=n*sz
 nlen:news.length=n*sz
 val:∀(j:Nat) u,news[j]?=some u→∃c,l[j]?=some c∧aw A U c u
 len:∀w1,(Builtin.lenOf vy).run P w1= .ok n w1
 cells:∀w1:World,w1.heap=w.heap→(Builtin.firstCells sz n vy).run P w1= .ok news.toArray w1
theorem YOk.one{sz n:Nat}{l:List CV}{vy:Value}{news:List Value}(h:YOk P w A U sz n l vy news):∀v:Value,v∈news→v.oneCell'=true:=by intro v hv;obtain⟨j,hj⟩:=List.mem_iff_getElem?.1 hv;obtain⟨c, -,h2⟩:=h.val j v hj;exact(vO h2).1
theorem xc(hs:Sim A h U K w0 w)(hts:cx A U ts a.tmps){sz n:Nat}(_hsz:sz≠0){y:Opd}{yo:Operand}(ho:aX y yo=true){l:List CV}(hy:f9 h ts sz y=some (l,n)):∃news,YOk P w A U sz n l (a.eval yo) news:=by
 unfold f9 at hy;split at hy
 ·rename_i he;cases hy;have hv:a.eval yo= .slice none 0 0:=aU hts ho he;exact⟨[],by simp,by simp,by simp,fun w1=>by simp[hv,Builtin.lenOf],fun w1 _=>by simp[hv,Builtin.firstCells]⟩
 ·rename_i id i ln lim he;split at hy
  ·rename_i b hb;split at hy
   ·rename_i hbs;simp only[Option.map_eq_some_iff,Prod.mk.injEq]at hy;obtain⟨l',hl,rfl,rfl⟩:=hy;obtain⟨-,off,cap,g1,g2,g3,g4,g5⟩:=aU hts ho he;obtain⟨-, -,cs,e,fr, -, -,hbk⟩:=hs.live id b hb;have hz:(A id).sz=sz:=hbk.sz.symm.trans hbs;obtain⟨m1,us,m2,m3⟩:=hs.line hb hl;refine⟨us,m1,m2,fun j u hj=>(m3 j u hj).2,fun w1=>by simp[g1,Builtin.lenOf],fun w1 hw=>?_⟩;rw[g1];refine er (w:=w) (b:=(A id).blk) (of:=(A id).off+i*sz) m2 (fun hne=>?_) (fun j v hj=>(m3 j v hj).1) w1 hw;have:ln≠0:=by intro e0;subst e0;simp at m2;exact hne (by simp[m2])
    rw[g5 (by omega),hz]
   ·simp at hy
  ·simp at hy
 ·simp at hy
theorem qU{b:Nat}{e:TypeId}{fz:Nat×Nat}:∀{vs:List Value}{o:Nat}{w:World}{c:Array Value},w.heap[b]?=some (.cells c e fz)→o+vs.length≤c.size→(∃c':Array Value,(Tq.cS b o vs w).heap[b]?=some (.cells c' e fz)∧c'.size=c.size∧∀j,c'[j]?=if o≤j∧j<o+vs.length then vs[j-o]? else c[j]?)∧(∀b',b'≠b→(Tq.cS b o vs w).heap[b']?=w.heap[b']?)∧(Tq.cS b o vs w).heap.size=w.heap.size∧(Tq.cS b o vs w).os=w.os∧(Tq.cS b o vs w).tape=w.tape∧(Tq.cS b o vs w).output=w.output:=by
 intro vs;induction vs with
 |nil=>intro o w c hb hle;refine⟨⟨c,hb,rfl,fun j=>?_⟩,fun _ _=>rfl,rfl,rfl,rfl,rfl⟩;rw[if_neg (by simp only[List.length_nil];omega)]
 |cons v t ih=>
  intro o w c hb hle;simp only[List.length_cons]at hle;obtain⟨g1,g2,g3⟩:=mq (o:=o) hb v;obtain⟨⟨c',k1,k2,k3⟩,k4,k5,k6,k7,k8⟩:=ih (o:=o+1) g1 (by simp;omega);refine⟨⟨c',k1,by rw[k2];simp,fun j=>?_⟩,fun b' hne=>(k4 b' hne).trans (g2 b' hne),k5.trans g3,k6,k7,k8⟩;rw[k3 j];simp only[List.length_cons];by_cases hj:o+1≤j∧j<o+1+t.length
  ·rw[if_pos hj,if_pos (by omega)];have e:j-o=(j-(o+1))+1:=by omega
   rw[e,List.getElem?_cons_succ]
  ·rw[if_neg hj,Array.getElem?_setIfInBounds];by_cases hjk:o=j
   ·have h3:o<c.size:=by omega
    subst hjk;simp[h3]
   ·rw[if_neg hjk,if_neg (by omega)]
theorem Sim.aED(hs:Sim A h U K w0 w){id i:Nat}(hi:¬U i){b b':Blk}(hb:h.get id=some b)(hro:b.ro=false)(hro':b'.ro=false){w':World}{c':Array Value}{e:TypeId}{nd:Nd}(hblk:nd.blk=(A id).blk){fr:Nat×Nat}(hfr:aCA fr c'.size)(hh:w'.heap[(A id).blk]?=some (.cells c' e fr))(ho:∀j,j≠(A id).blk→w'.heap[j]?=w.heap[j]?)(hz:w'.heap.size=w.heap.size)(h1:w'.os=w.os)(h2:w'.tape=w.tape)(h3:w'.output=w.output)(hok:BlkOk A U nd b' c'):Sim (Nat.upd A i nd) ((h.set id none).set i (some b')) (fun j=>U j∨j=i) K w0 w'∧Ext A (Nat.upd A i nd) U:=by
 have hext:=oS (A:=A) hi nd;have hU:∀j,U j→U j∨j=i:=fun j hj=>.inl hj
 obtain⟨k1,k2,c0,e0,fr0,k3, -,k4⟩:=hs.live id b hb;have k2:=k2 hro;have hinj:∀{id1 b1},h.get id1=some b1→(A id1).blk=(A id).blk→id1=id:=fun h1 e=>(hs.inj _ id _ b h1 hb e).elim (fun h=>h) fun h=>by rw[hro]at h;simp at h
 refine⟨⟨h1.trans hs.os,h2.trans hs.tape,h3.trans hs.output,by rw[hz];exact hs.size,?_,?_,?_,?_,?_,.inl hs.vw.1,by rw[hext 0 hs.vw.1];exact hs.vw.2.1,fun id1 b1 hb1=>?_⟩,hext⟩
 ·intro b1 hb1 hK;rw[ho b1 ?_]
  ·exact hs.old b1 hb1 hK
  ·intro e1;subst e1;rcases k2 with k2|k2
   ·omega
   ·exact hK k2
 ·intro id1 b1 hb1;rw[Heap.aQ]at hb1;split at hb1
  ·rename_i e1;subst e1;cases hb1;rw[cw,hblk];exact⟨.inr rfl,fun _=>k2,c',e,fr,hh,fun _=>hfr,hok.ext hext hU⟩
  ·rename_i e1;rw[Heap.aQ]at hb1;split at hb1
   ·simp at hb1
   ·rename_i e2;obtain⟨g1,g2,c1,e1',fr1,g3,g3',g4⟩:=hs.live id1 b1 hb1;have e3:Nat.upd A i nd id1=A id1:=by simp[Nat.upd,e1]
    rw[e3];refine⟨.inl g1,g2,c1,e1',fr1,?_,g3',g4.ext hext hU⟩;rw[ho _ (fun e4=>e2 (hinj hb1 e4))];exact g3
 ·intro id1 id2 b1 b2 f1 f2 heq;rw[Heap.aQ]at f1 f2;have one:∀{j:Nat}{bj:Blk},j≠i→(h.set id none).get j=some bj→j≠id∧h.get j=some bj:=by
   intro j bj hj hg;rw[Heap.aQ]at hg;split at hg
   ·simp at hg
   ·rename_i e1;exact⟨e1,hg⟩
  by_cases e1:id1=i
  ·by_cases e2:id2=i
   ·exact .inl (e1.trans e2.symm)
   ·rw[if_neg e2]at f2;obtain⟨g1,g2⟩:=one e2 f2;simp only[Nat.upd,e1,e2,if_true,if_false,hblk]at heq;exact(g1 (hinj g2 heq.symm)).elim
  ·rw[if_neg e1]at f1;obtain⟨g1,g2⟩:=one e1 f1;by_cases e2:id2=i
   ·simp only[Nat.upd,e1,e2,if_true,if_false,hblk]at heq;exact(g1 (hinj g2 heq)).elim
   ·rw[if_neg e2]at f2;obtain⟨g3,g4⟩:=one e2 f2;simp only[Nat.upd,e1,e2,if_false]at heq;exact hs.inj id1 id2 b1 b2 g2 g4 heq
 ·intro id1 x hx;obtain⟨g1,g2,g3,o,g4,g5⟩:=hs.maps id1 x hx;rw[hext id1 g1];refine⟨.inl g1,g2,g3,o,?_,g5.ext hext hU⟩;rw[ho _ (fun e4=>by rw[e4,k3]at g4;simp only[Option.some.injEq]at g4;exact g5.lA g4.symm)];exact g4
 ·intro id1 id2 x1 x2 f1 f2 heq;rw[hext id1 (hs.maps id1 x1 f1).1,hext id2 (hs.maps id2 x2 f2).1]at heq;exact hs.minj id1 id2 x1 x2 f1 f2 heq
 ·rw[hext 0 hs.vw.1];rw[Heap.aQ]at hb1;split at hb1
  ·rename_i e1;subst e1;cases hb1;rw[cw,hblk];have:=hs.vw.2.2 id b hb;rw[hro]at this;rw[hro'];exact this
  ·rename_i e1;rw[Heap.aQ]at hb1;split at hb1
   ·simp at hb1
   ·rw[hext id1 (hs.live id1 b1 hb1).1];exact hs.vw.2.2 id1 b1 hb1
def tE(P:Program)(a:Act)(o:Oper)(w w0:World)(A:Nat→Nd)(U K:Nat→Prop)(i:Nat)(h':Heap)(c:CV):Prop:=∃v w' A',(execOp a.eval o).run P w= .ok (.value v) w'∧Sim A' h' (fun j=>U j∨j=i) K w0 w'∧Ext A A' U∧aw A' (fun j=>U j∨j=i) c v
theorem tb(hs:Sim A h U K w0 w){i:Nat}(hi:¬U i){t e:TypeId}{ie:TypeInfo}{z:Value}{sz bytes:Nat}{yx yy:Operand}(hop:o.op= .call ⟨.builtin .append, #[yx,yy], #[t,t]⟩)(ht:P.underlying t=some (.slice e))(hie:P.info? e=some ie)(hz:ie.zero=some z)(hzs:z.cells.size=sz)(hsz:ie.size=sz)(hby:ie.bytes=bytes){base:Option Addr}{ln cap n:Nat}(hvx:a.eval yx= .slice base ln cap){l l0:List CV}{news olds:List Value}(hy:YOk P w A U sz n l (a.eval yy) news)(ol:olds.length=ln*sz)(ol0:l0.length=ln*sz)(ov:∀(j:Nat) u,olds[j]?=some u→∃c,l0[j]?=some c∧aw A U c u)(oc:(Builtin.firstCells sz ln (.slice base ln cap)).run P w.drew= .ok olds.toArray w.drew)(hg:cap<ln+n)(hb1:(ln+n)*bytes≤140737488355328)(hb2:ln+n≤140737488355328):tE P a o w w0 A U K i (h.set i (some (cd sz (l0++l)))) (.sl i 0 (ln+n) none):=by
 have hexec:∀{v:Value}{w':World},(Builtin.append_ #[t,t] o.type #[a.eval yx,a.eval yy]).run P w= .ok v w'→(execOp a.eval o).run P w= .ok (.value v) w':=by intro v w' hr;simp[execOp,hop,resolve,invoke,builtin,hr]
 have hrun:=mz (P:=P) (w:=w) (t:=t) (ty:=o.type) ht hie hz (base:=base) (sLen:=ln) (sCap:=cap) (n:=n) (vy:=a.eval yy) (olds:=olds) (news:=news) (hy.len w) (by rw[hsz];exact hy.cells w.drew rfl) (by rw[hsz];exact oc) hg (by omega) (growslice_fits (by omega) (by rw[hby];exact hb1));rw[←hvx]at hrun;have hcap:=grownCap_ge w (ln+n) cap e;have hsum:ln*sz+n*sz=(ln+n)*sz:=(Nat.add_mul ln n sz).symm;have hle:(ln+n)*sz≤grownCap w (ln+n) cap e*sz:=Nat.mul_le_mul_right _ hcap;obtain⟨g1,g2⟩:=hs.alloc (cap:=grownCap w (ln+n) cap e) (b:=cd sz (l0++l)) (arr:=olds.toArray++news.toArray++Builtin.zeroCells z.cells (grownCap w (ln+n) cap e-(ln+n))) (e:=e) (w1:=w.drew) hi rfl rfl rfl rfl (by
   rw[Array.size_append,Array.size_append,List.size_toArray,List.size_toArray,size_zeroCells,ol,hy.nlen,hzs,hsum,←Nat.add_mul];exact Nat.mul_le_mul_right _ (by omega)) (by
   show(l0++l).length≤_;rw[List.length_append,ol0,hy.llen,hsum];exact hle) (fun ht=>by simp[cd]at ht) (fun o' x hx=>by
   have hx:=nQ hx;rw[List.getElem?_append]at hx;split at hx
   ·rename_i hlt;rw[ol0]at hlt;have hlt':o'<olds.length:=by omega
    obtain⟨c,f1,f2⟩:=ov o' _ (List.getElem?_eq_getElem hlt');rw[hx]at f1;cases f1;refine⟨_,?_,f2⟩;rw[Array.getElem?_append_left (by simp;omega),Array.getElem?_append_left (by simpa using hlt')];simp
   ·rename_i hge;rw[ol0]at hge hx;have hlt2:o'-ln*sz<l.length:=(List.getElem?_eq_some_iff.1 hx).1;rw[hy.llen,←hy.nlen]at hlt2;obtain⟨c,f1,f2⟩:=hy.val (o'-ln*sz) _ (List.getElem?_eq_getElem hlt2);rw[hx]at f1;cases f1;refine⟨_,?_,f2⟩;rw[Array.getElem?_append_left (by simp;omega),Array.getElem?_append_right (by simp;omega)];simp[ol])
 exact⟨_,_,_,hexec hrun,g1,g2,sT _ _ _ _ _ hcap⟩
theorem zK(hs:Sim A h U K w0 w)(hts:cx A U ts a.tmps){i:Nat}(hi:¬U i){t e:TypeId}{zs:List CV}{bytes:Nat}{x y:Opd}{yx yy:Operand}(hop:o.op= .call ⟨.builtin .append, #[yx,yy], #[t,t]⟩)(hox:aX x yx=true)(hoy:aX y yy=true)(ht:P.underlying t=some (.slice e))(hz:jr P e zs=true)(hsz:cB P e=some zs.length)(hz0:zs.length≠0)(hby:(P.info? e).map (·.bytes)=some bytes){h':Heap}{c:CV}(hr:dM zs.length bytes x y i h ts=some (h',c)):tE P a o w w0 A U K i h' c:=by
 obtain⟨z, -,z2,ie,z3,z4⟩:=gj hz;have hs':ie.size=zs.length:=by unfold cB at hsz;simpa [z3]using hsz
 have hby':ie.bytes=bytes:=by simpa [z3]using hby
 have hzs:z.cells.size=zs.length:=by simpa using(kM z2).1.symm
 have hexec:∀{v:Value}{w':World},(Builtin.append_ #[t,t] o.type #[a.eval yx,a.eval yy]).run P w= .ok v w'→(execOp a.eval o).run P w= .ok (.value v) w':=by intro v w' hr;simp[execOp,hop,resolve,invoke,builtin,hr]
 have hU:∀j,U j→U j∨j=i:=fun j hj=>.inl hj
 unfold dM at hr;split at hr
 ·rename_i l n hy;obtain⟨news,hyok⟩:=xc (P:=P) hs hts hz0 hoy hy;split at hr
  ·rename_i hx;have hvx:a.eval yx= .slice none 0 0:=aU hts hox hx;split at hr
   ·rename_i hn;subst hn;cases hr;have hnl:news=[]:=List.length_eq_zero_iff.1 (by simpa using hyok.nlen);have hlen:=hyok.len w;have hc:=hyok.cells w rfl;rw[hnl]at hc;refine⟨.slice none 0 0,w,A,hexec ?_,hs.sub (fun _ _ hb=>hb) hU,Ext.refl A U,rfl⟩;rw[hvx];rw[←hs']at hc;simp[Builtin.append_,run_underlying ht,sizeOf,typeInfo,z3,hlen,hc]
   ·rename_i hn;split at hr
    ·rename_i hb;cases hr;have:=tb (l0:=[]) (olds:=[]) hs hi hop ht z3 z4 hzs hs' hby' hvx hyok (by simp) (by simp) (by simp) (by simp[Builtin.firstCells]) (by omega) (by simpa using hb.1) (by simpa using hb.2);simpa using this
    ·simp at hr
  ·rename_i id j ln lim hx;obtain⟨hid,off,cap,g1,g2,g3,g4,g5⟩:=aU hts hox hx;split at hr
   ·rename_i b hb;obtain⟨k1,k2,cs,el,fr,k3,k3',k4⟩:=hs.live id b hb;split at hr
    ·rename_i hc;obtain⟨c1, -,c3,c4,hro⟩:=hc;have k3':=k3' hro;have hAsz:(A id).sz=zs.length:=k4.sz.symm.trans c1;split at hr
     ·rename_i l0 hl0;obtain⟨m1,olds,m2,m3⟩:=hs.line hb hl0;have ocells:(Builtin.firstCells zs.length ln (.slice (some off) ln cap)).run P w.drew= .ok olds.toArray w.drew:=by
       refine er (w:=w) (b:=(A id).blk) (of:=(A id).off+j*zs.length) m2 (fun hne=>?_) (fun q v hj=>(m3 q v hj).1) w.drew rfl;have:ln≠0:=by intro e0;subst e0;simp at m2;exact hne (by simp[m2])
       rw[g5 (by omega),hAsz]
      have grow:cap<ln+n→tE P a o w w0 A U K i (h.set i (some (cd zs.length (l0++l)))) (.sl i 0 (ln+n) none):=fun hlt=>tb (l0:=l0) (olds:=olds) hs hi hop ht z3 z4 hzs hs' hby' g1 hyok m2 m1 (fun q u hq=>(m3 q u hq).2) ocells hlt c3 c4
      have hsumm:∀p q:Nat,(p+q)*zs.length=p*zs.length+q*zs.length:=fun p q=>Nat.add_mul p q _
      have room_run:ln+n≤cap→(Builtin.append_ #[t,t] o.type #[a.eval yx,a.eval yy]).run P w= .ok (.slice (some off) (ln+n) cap) (Tq.cS (A id).blk ((A id).off+j*zs.length+ln*zs.length) news w):=by
       intro hroom;by_cases hc0:cap=0
       ·subst hc0;obtain rfl:n=0:=by omega
        obtain rfl:ln=0:=by omega
        have hnl:news=[]:=List.length_eq_zero_iff.1 (by simpa using hyok.nlen);have hlen:=hyok.len w;have hc:=hyok.cells w rfl;rw[hnl,←hs']at hc;rw[hnl,g1];simp[Builtin.append_,run_underlying ht,sizeOf,typeInfo,z3,hlen,hc,storeCells,Tq.cS]
       have hoff:=g5 hc0;rw[hAsz]at hoff;subst hoff;have hin:∀q,q<news.length→(A id).off+j*zs.length+ln*zs.length+q<cs.size:=by intro q hq;rw[hyok.nlen]at hq;have h3:(j+(ln+n))*zs.length≤(A id).cap*zs.length:=Nat.mul_le_mul_right _ (by omega);rw[hsumm,hsumm]at h3;have:=k4.fits;rw[hAsz]at this;omega
       have hrun:=nB (P:=P) (w:=w) (t:=t) (ty:=o.type) (e:=e) (i:=ie) ht z3 (b:=(A id).blk) (o:=(A id).off+j*zs.length) (sLen:=ln) (sCap:=cap) (n:=n) (vy:=a.eval yy) (news:=news) (hyok.len w) (by rw[hs'];exact hyok.cells w rfl) hroom (fun q hq=>⟨_,by
         rw[hs'];simp only[World.cell?,k3,Option.isSome_none,Bool.false_eq_true,if_false];exact Array.getElem?_eq_getElem (hin q hq)⟩) (fun q hq=>by
         rw[hs'];exact zm k3 k3' (hin q hq)) hyok.one
       rw[hs',←g1]at hrun;exact hrun
      have inplace:ln+n≤cap→(j+ln+n)*zs.length≤b.n→∀lim',lim'=lim→tE P a o w w0 A U K i (h.set id (some (b.put ((j+ln)*zs.length) l))) (.sl id j (ln+n) lim'):=by
       rintro hroom hin _ rfl;have r1:=room_run hroom;have hvals:∀(q:Nat) c,l[q]?=some c→∃u,news[q]?=some u∧aw A U c u:=by
        intro q c hq;have hlt:q<news.length:=by rw[hyok.nlen,←hyok.llen];exact(List.getElem?_eq_some_iff.1 hq).1
        obtain⟨c',f1,f2⟩:=hyok.val q _ (List.getElem?_eq_getElem hlt);rw[hq]at f1;cases f1;exact⟨_,List.getElem?_eq_getElem hlt,f2⟩
       have hset:=hs.aCp hb hro (off:=(j+ln)*zs.length) (l:=l) (vs:=news) (by rw[hyok.llen,←Nat.add_mul];exact hin) (by rw[hyok.nlen,hyok.llen]) hvals;have hw:Tq.cS (A id).blk ((A id).off+j*zs.length+ln*zs.length) news w=Tq.cS (A id).blk ((A id).off+(j+ln)*zs.length) news w:=by rw[hsumm,Nat.add_assoc]
       rw[←hw]at hset;exact⟨_,_,A,hexec r1,hset.sub (fun _ _ hb=>hb) hU,Ext.refl A U,.inl hid,off,cap,rfl,g2,g3,hroom,g5⟩
      split at hr
      ·split at hr
       ·rename_i hin;cases hr;have hk:=k4.known;rw[hAsz]at hk;have hle:j+ln+n≤(A id).cap:=Nat.le_of_mul_le_mul_right (Nat.le_trans hin hk) (by omega);simp only[Option.getD_none]at g2;exact inplace (by omega) hin none rfl
       ·rename_i hout;simp only[Option.getD_none]at g2;split at hr
        ·rename_i htt;cases hr;have hk:=k4.tight htt;rw[hAsz]at hk;refine grow ?_;rw[hk]at hout;have:¬(j+ln+n≤(A id).cap):=fun hle=>hout (Nat.mul_le_mul_right _ hle)
         omega
        ·split at hr
         ·simp at hr
         rename_i hne0;cases hr;by_cases hroom:ln+n≤cap
         ·have r1:=room_run hroom;have hn0:cap≠0:=by omega
          have hoff:=g5 hn0;have hfit:(A id).off+j*zs.length+ln*zs.length+news.length≤cs.size:=by rw[hyok.nlen];have h3:(j+(ln+n))*zs.length≤(A id).cap*zs.length:=Nat.mul_le_mul_right _ (by omega);rw[hsumm,hsumm]at h3;have:=k4.fits;rw[hAsz]at this;omega
          rw[hAsz]at hoff;rw[hoff]at r1;obtain⟨⟨c',q1,q2,q3⟩,q4,q5,q6,q7,q8⟩:=qU (vs:=news) (o:=(A id).off+j*zs.length+ln*zs.length) k3 hfit;obtain⟨s1,s2⟩:=hs.aED hi hb hro rfl (b':=cd zs.length (l0++l)) (nd:=⟨(A id).blk,(A id).off+j*zs.length,cap,zs.length⟩) rfl (by rw[q2];exact k3') q1 q4 q5 q6 q7 q8 ⟨by
            show(A id).off+j*zs.length+cap*zs.length≤c'.size;have h3:(j+cap)*zs.length≤(A id).cap*zs.length:=Nat.mul_le_mul_right _ (by omega);rw[hsumm]at h3;have:=k4.fits;rw[hAsz]at this;omega,rfl,by
            show(l0++l).length≤cap*zs.length;rw[List.length_append,m1,hyok.llen,←hsumm];exact Nat.mul_le_mul_right _ hroom,fun htt=>by simp[cd]at htt,fun o' x hx=>by
            have hx:=nQ hx;show∃v,c'[(A id).off+j*zs.length+o']?=some v∧_;rw[q3];rw[List.getElem?_append]at hx;split at hx
            ·rename_i hlt;rw[m1]at hlt;rw[if_neg (by omega)];obtain⟨f1,c2,f2,f3⟩:=m3 o' _ (List.getElem?_eq_getElem (show o'<olds.length by omega));rw[hx]at f2;cases f2;refine⟨_,?_,f3⟩;simpa [World.cell?,k3]using f1
            ·rename_i hge;rw[m1]at hge hx;have hlt2:o'-ln*zs.length<l.length:=(List.getElem?_eq_some_iff.1 hx).1;rw[hyok.llen,←hyok.nlen]at hlt2;obtain⟨c2,f1,f2⟩:=hyok.val (o'-ln*zs.length) _ (List.getElem?_eq_getElem hlt2);rw[hx]at f1;cases f1;rw[if_pos (by omega)];refine⟨_,?_,f2⟩;rw[show(A id).off+j*zs.length+o'-((A id).off+j*zs.length+ln*zs.length)=o'-ln*zs.length by omega];exact List.getElem?_eq_getElem hlt2⟩
          exact⟨_,_,_,hexec r1,s1,s2,.inr rfl,_,cap,rfl,by rw[cw];simp,by rw[cw];simp,hroom,fun _=>by rw[cw];simp⟩
         ·have:=grow (by omega);obtain⟨v,w',A',e1,e2,e3,e4⟩:=this;refine⟨v,w',A',e1,e2.sub (fun q b' hq=>?_) (fun _ hj=>hj),e3,e4⟩;rw[Heap.aQ]at hq ⊢;split at hq
          ·rename_i e5;rw[if_pos e5];exact hq
          ·rename_i e5;rw[if_neg e5];rw[Heap.aQ]at hq;split at hq
           ·simp at hq
           ·exact hq
      ·rename_i c0;simp only[Option.getD_some]at g2;subst g2;split at hr
       ·rename_i hlt;cases hr;exact grow hlt
       ·rename_i hge;split at hr
        ·rename_i hin;cases hr;exact inplace (by omega) hin (some cap) rfl
        ·simp at hr
     ·simp at hr
    ·simp at hr
   ·simp at hr
  ·simp at hr
 ·simp at hr
end
end Go.Cq
namespace Go.Cq
open Go.RowKit
open Go.Tq (cB cq er)
def sq(sz:Nat)(x y:Opd)(h:Heap)(ts:Ts):Option (Heap×CV):=match ev1 ts x,ev1 ts y with
 |some (.sl id i dln _),some (.sl id2 j sln _)=>match h.get id,h.get id2 with
  |some b,some b2=>if b.sz=sz∧b2.sz=sz∧Nat.min sln dln≠0∧(i+Nat.min sln dln)*sz≤b.n∧b.ro=false then match b2.iz (j*sz) (Nat.min sln dln*sz)with
    |some l=>some (h.set id (some (b.put (i*sz) l)),.int .i64 (Nat.min sln dln))
    |none=>none
   else none
  |_,_=>none
 |_,_=>none
section
variable{P:Program}{a:Act}{o:Oper}{w w0:World}{A:Nat→Nd}{U K:Nat→Prop}{ts:Ts}{h:Heap}
theorem wG(hs:Sim A h U K w0 w)(hts:cx A U ts a.tmps){t e:TypeId}{sz:Nat}{x y:Opd}{yx yy:Operand}(hop:o.op= .call ⟨.builtin .copy, #[yx,yy], #[t,t]⟩)(hox:aX x yx=true)(hoy:aX y yy=true)(ht:P.underlying t=some (.slice e))(hsz:cB P e=some sz){h':Heap}{c:CV}(hr:sq sz x y h ts=some (h',c)):∃v w',(execOp a.eval o).run P w= .ok (.value v) w'∧Sim A h' U K w0 w'∧aw A U c v:=by
 unfold sq at hr;split at hr
 ·rename_i id i dln lim id2 j sln lim2 hx hy;split at hr
  ·rename_i b b2 hb hb2;split at hr
   ·rename_i hc;obtain⟨c1,c2,c3,c4,hro⟩:=hc;split at hr
    ·rename_i l hl;cases hr;obtain⟨-,off,cap,g1,g2,g3,g4,g5⟩:=aU hts hox hx;obtain⟨-,off2,cap2,k1,k2,k3,k4,k5⟩:=aU hts hoy hy;obtain⟨-, -,_,_,_, -, -,q1⟩:=hs.live id b hb;obtain⟨-, -,_,_,_, -, -,q2⟩:=hs.live id2 b2 hb2;have z1:(A id).sz=sz:=q1.sz.symm.trans c1;have z2:(A id2).sz=sz:=q2.sz.symm.trans c2;have hn1:Nat.min sln dln≤sln:=Nat.min_le_left _ _;have hn2:Nat.min sln dln≤dln:=Nat.min_le_right _ _;have e1:=g5 (by omega);have e2:=k5 (by omega);rw[z1]at e1;rw[z2]at e2;subst e1;subst e2;obtain⟨m1,us,m2,m3⟩:=hs.line hb2 hl;have hcells:(Builtin.firstCells sz (Nat.min sln dln) (.slice (some ⟨(A id2).blk,(A id2).off+j*sz,none⟩) sln cap2)).run P w= .ok us.toArray w:=er (w:=w) (b:=(A id2).blk) (of:=(A id2).off+j*sz) m2 (fun _=>rfl) (fun q v hq=>(m3 q v hq).1) w rfl;have hvals:∀(q:Nat) cc,l[q]?=some cc→∃u,us[q]?=some u∧aw A U cc u:=by
      intro q cc hq;have hlt:q<us.length:=by rw[m2,←m1];exact(List.getElem?_eq_some_iff.1 hq).1
      obtain⟨-,cc',f1,f2⟩:=m3 q _ (List.getElem?_eq_getElem hlt);rw[hq]at f1;cases f1;exact⟨_,List.getElem?_eq_getElem hlt,f2⟩
     have hle:i*sz+l.length≤b.n:=by rw[m1,←Nat.add_mul];exact c4
     have hst:=mG (P:=P) hs hb hro (off:=i*sz) (l:=l) (vs:=us) hle (by omega) hvals;have hset:=hs.aCp hb hro (off:=i*sz) (l:=l) (vs:=us) hle (by omega) hvals;refine⟨.int .i64 (Nat.min sln dln),_,?_,hset,rfl⟩;unfold addrOf at hst;have hcp:(Builtin.copy_ #[t,t] o.type #[a.eval yx,a.eval yy]).run P w= .ok (.int .i64 (Nat.min sln dln)) (Tq.cS (A id).blk ((A id).off+i*sz) us w):=by rw[g1,k1];simp[Builtin.copy_,run_underlying ht,Tq.run_sizeOf hsz,Builtin.lenOf,goInt]at hcells hst ⊢;simp[hcells,hst]
     simp[execOp,hop,resolve,invoke,builtin,hcp]
    ·simp at hr
   ·simp at hr
  ·simp at hr
 ·simp at hr
end
end Go.Cq
namespace Go.Cq
open Go.RowKit
open Go.Tq (cB cq)
def jZ:List CV→Option (List UInt8)
 | []=>some []
 |.int .u8 n::l=>if 0≤n∧n<256 then(jZ l).map (UInt8.ofNat n.toNat:: ·)else none
 |_=>none
def b2s(x:Opd)(h:Heap)(ts:Ts):Option CV:=match ev1 ts x with
 |some (.nils _)=>some (.str [])
 |some (.sl id i ln _)=>match h.get id with
  |some b=>if b.sz=1 then match b.iz i ln with
    |some l=>(jZ l).map .str
    |none=>none
   else none
  |none=>none
 |_=>none
theorem tO:∀{l:List CV}{bs:List UInt8},jZ l=some bs→bs.length=l.length∧∀j(hj:j<bs.length),l[j]?=some (.int .u8 (bs[j].toNat:Int)):=by
 intro l;induction l with
 |nil=>intro bs h;simp only[jZ,Option.some.injEq]at h;subst h;exact⟨rfl,by simp⟩
 |cons c l ih=>
  intro bs h;unfold jZ at h;split at h
  ·rename_i heq;simp at heq
  ·rename_i n l' heq;simp only[List.cons.injEq]at heq;obtain⟨rfl,rfl⟩:=heq;split at h
   ·rename_i hn;simp only[Option.map_eq_some_iff]at h;obtain⟨bs',h1,rfl⟩:=h;obtain⟨g1,g2⟩:=ih h1;refine⟨by simp[g1],fun j hj=>?_⟩;cases j with
    |zero=>simp only[List.getElem?_cons_zero,List.getElem_cons_zero,Option.some.injEq,CV.int.injEq,true_and];rw[UInt8.toNat_ofNat'];omega
    |succ j=>simpa using g2 j (by simpa using hj)
   ·simp at h
  ·simp at h
section
variable{P:Program}{a:Act}{o:Oper}{w w0:World}{A:Nat→Nd}{U K:Nat→Prop}{ts:Ts}{h:Heap}
theorem yH(hs:Sim A h U K w0 w)(hts:cx A U ts a.tmps){src dst e:TypeId}{x:Opd}{y:Operand}(hop:o.op= .convert src dst y)(ho:aX x y=true)(h1:P.underlying src=some (.slice e))(h2:P.underlying e=some (.int .u8))(h3:P.underlying dst=some .string){c:CV}(hr:b2s x h ts=some c):mZ P a o w A U (.one c):=by
 unfold b2s at hr;split at hr
 ·rename_i z hx;cases hr;have e:=aU hts ho hx;simp only[aw]at e;refine⟨.string ⟨#[]⟩,?_,rfl⟩;simp[execOp,hop,e,convert,run_underlying h1,run_underlying h2,run_underlying h3];simp[Conv.bytesToString];rfl
 ·rename_i id i ln lim hx;split at hr
  ·rename_i b hb;split at hr
   ·rename_i hsz;split at hr
    ·rename_i l hl;simp only[Option.map_eq_some_iff]at hr;obtain⟨bs,hbs,rfl⟩:=hr;obtain⟨-,off,cap,g1,g2,g3,g4,g5⟩:=aU hts ho hx;obtain⟨-, -,_,_,_, -, -,q1⟩:=hs.live id b hb;have z1:(A id).sz=1:=q1.sz.symm.trans hsz;obtain⟨m1,m2⟩:=tO hbs;obtain⟨n1,n2⟩:=Blk.pz hl;have hln:bs.length=ln:=by omega
     subst hln;have hrun:=run_convert_bytes_back (P:=P) w src dst e off cap bs h1 h2 h3 (fun j hj=>by obtain⟨v,f1,f2⟩:=hs.cell hb (n2 j _ (m2 j hj));have hoff:=g5 (by omega);rw[z1,Nat.mul_one]at hoff;subst hoff;simp only[aw]at f2;subst f2;rw[Addr.add_lit,Nat.add_assoc];exact f1);exact⟨_,by simp[execOp,hop,g1,hrun],rfl⟩
    ·simp at hr
   ·simp at hr
  ·simp at hr
 ·simp at hr
end
end Go.Cq
namespace Go.Cq
open Go.RowKit
open Go.Tq (cB cq isBuiltin bp)
inductive LK where
 |b|i (k:IntKind)|s
 deriving DecidableEq
def qV:LK→CV→CV→Option Bool
 |.i q,.int k a,.int k' b=>if k=q∧k'=q then some (a==b)else none
 |.b,.bool a,.bool b=>some (a==b)
 |.s,.str a,.str b=>some (a==b)
 |_,_,_=>none
def bJ:List LK→List CV→List CV→Option Bool
 | [],[],[]=>some true
 |q::ks,a::l,b::m=>match qV q a b,bJ ks l m with
  |some x,some y=>some (x&&y)
  |_,_=>none
 |_,_,_=>none
def kx(rec:TypeId→Option (List LK)):List Field→Nat→Option (List LK)
 | [],_=>some []
 |f::fs,off=>if f.name≠ "_" ∧f.offset=off then match rec f.type with
   |some m=>if m.length≠0 then(kx rec fs (off+m.length)).map (m++ ·)else none
   |none=>none
  else none
def eY(m:List LK):Nat→List LK
 |0=>[]
 |n+1=>m++eY m n
def cF(P:Program):Nat→TypeId→Option (List LK)
 |0,_=>none
 |d+1,t=>match P.underlying t with
  |some .bool=>some [.b]
  |some (.int k)=>some [.i k]
  |some .string=>some [.s]
  |some (.struct fs)=>if P.stoodInHeld t=false then match kx (cF P d) fs.toList 0 with
    |some n=>if cB P t=some n.length then some n else none
    |none=>none
   else none
  |some (.array n e)=>match cF P d e with
   |some m=>if m.length≠0∧cB P e=some m.length∧cB P t=some (n*m.length)then some (eY m n)else none
   |none=>none
  |_=>none
section
variable{P:Program}{a:Act}{o:Oper}{w w0:World}{A:Nat→Nd}{U K:Nat→Prop}{ts:Ts}{h:Heap}
def cA(agg:Bool)(l:List Value):Value:=if agg then .agg l.toArray else l.headD undef
def lu(A:Nat→Nd)(U:Nat→Prop)(cs:List CV)(l:List Value):Prop:=l.length=cs.length∧∀(j:Nat) c,cs[j]?=some c→∃u,l[j]?=some u∧aw A U c u
theorem lu.cut{cs:List CV}{l:List Value}(h:lu A U cs l)(off n:Nat):lu A U ((cs.drop off).take n) ((l.drop off).take n):=by
 obtain⟨h1,h2⟩:=h;refine⟨by simp[h1],fun j c hj=>?_⟩;simp only[List.getElem?_take,List.getElem?_drop]at hj ⊢;split at hj
 ·rename_i hlt;rw[if_pos hlt];exact h2 _ c hj
 ·simp at hj
theorem gG{ks:List LK}{x y:List CV}{r:Bool}(h:bJ ks x y=some r):x.length=ks.length∧y.length=ks.length:=by
 induction ks generalizing x y r with
 |nil=>
  unfold bJ at h;split at h
  ·simp
  ·rename_i e;simp at e
  ·simp at h
 |cons q ks ih=>
  unfold bJ at h;split at h
  ·rename_i e;simp at e
  ·rename_i q' ks' a l b m e;simp only[List.cons.injEq]at e;obtain⟨rfl,rfl⟩:=e;split at h
   ·rename_i h1 h2;have:=ih h2;simp[this.1,this.2]
   ·simp at h
  ·simp at h
theorem kR{ks ks':List LK}{x y:List CV}{r:Bool}(h:bJ (ks++ks') x y=some r):∃r1 r2,bJ ks (x.take ks.length) (y.take ks.length)=some r1∧bJ ks' (x.drop ks.length) (y.drop ks.length)=some r2∧r=(r1&&r2):=by
 induction ks generalizing x y r with
 |nil=>exact⟨true,r,by simp[bJ],by simpa using h,by simp⟩
 |cons q ks ih=>
  match x,y with
  | [],_=>simp[bJ]at h
  |_::_,[]=>simp[bJ]at h
  |a::l,b::m=>
   simp only[List.cons_append,bJ]at h;split at h
   ·rename_i p s h1 h2;simp only[Option.some.injEq]at h;obtain⟨r1,r2,h3,h4,h5⟩:=ih h2;exact⟨p&&r1,r2,by simp[bJ,h1,h3],by simpa using h4,by rw[←h,h5,Bool.and_assoc]⟩
   ·simp at h
theorem ke{d:Nat}{t:TypeId}{ks:List LK}(h:cF P d t=some ks):∃b,cq P t=some b∧(b=false→ks.length=1)∧(b=true→cB P t=some ks.length):=by
 cases d with
 |zero=>simp[cF]at h
 |succ d=>
  simp only[cF]at h;split at h
  ·rename_i hu;simp only[Option.some.injEq]at h;exact⟨false,by simp[cq,hu],fun _=>by rw[←h];rfl,by simp⟩
  ·rename_i hu;simp only[Option.some.injEq]at h;exact⟨false,by simp[cq,hu],fun _=>by rw[←h];rfl,by simp⟩
  ·rename_i hu;simp only[Option.some.injEq]at h;exact⟨false,by simp[cq,hu],fun _=>by rw[←h];rfl,by simp⟩
  ·rename_i fs hu;split at h
   ·split at h
    ·split at h
     ·rename_i hs;cases h;exact⟨true,by simp[cq,hu],by simp,fun _=>hs⟩
     ·simp at h
    ·simp at h
   ·simp at h
  ·rename_i k e hu;split at h
   ·rename_i m hm;split at h
    ·rename_i hs;cases h;have:∀n,(eY m n).length=n*m.length:=by
      intro n;induction n with
      |zero=>simp[eY]
      |succ n ih=>simp[eY,ih,Nat.add_mul,Nat.add_comm]
     exact⟨true,by simp[cq,hu],by simp,fun _=>by rw[this];exact hs.2.2⟩
    ·simp at h
   ·simp at h
  ·simp at h
theorem fV{d:Nat}{t:TypeId}{ks:List LK}{off:Nat}(h:cF P d t=some ks){xs:Array Value}(hn:off+ks.length≤xs.size)(w:World):∃b,cq P t=some b∧(part t xs off).run P w= .ok (cA b ((xs.toList.drop off).take ks.length)) w:=by
 obtain⟨b,h1,h2,h3⟩:=ke h;refine⟨b,h1,?_⟩;unfold part;rw[Sem.run_bind,Tq.gA h1];simp only[Result.andThen];cases b with
 |true=>simp only[if_true,Sem.run_bind,Tq.run_sizeOf (h3 rfl) w,Result.andThen,Sem.run_pure,cA];congr 2;apply Array.ext';simp[Array.toList_extract,List.extract_eq_take_drop]
 |false=>
  have:=h2 rfl;rw[this];have hlt:off<xs.size:=by omega
  simp only[Bool.false_eq_true,if_false,cA,Array.getElem?_eq_getElem hlt,Sem.run_pure];congr 1;rw[List.headD_eq_head?_getD,List.head?_eq_getElem?,List.getElem?_take,if_pos (by omega),List.getElem?_drop];simp[hlt]
theorem mh{q:LK}{xs ys:List Value}{cs ds:List CV}{r:Bool}(hx:lu A U cs xs)(hy:lu A U ds ys)(hr:bJ [q] cs ds=some r):∃x y c c',xs=[x]∧ys=[y]∧aw A U c x∧aw A U c' y∧qV q c c'=some r:=by
 obtain⟨l1,l2⟩:=gG hr
 match cs,ds,l1,l2 with
 | [c],[c'],_,_=>
  obtain⟨hx1,hx2⟩:=hx;obtain⟨hy1,hy2⟩:=hy;obtain⟨u,h3,h4⟩:=hx2 0 c rfl;obtain⟨v,h5,h6⟩:=hy2 0 c' rfl
  match xs,ys,hx1,hy1 with
  | [x],[y],_,_=>
   simp only[List.getElem?_cons_zero,Option.some.injEq]at h3 h5;subst h3;subst h5;refine⟨_,_,c,c',rfl,rfl,h4,h6,?_⟩;simp only[bJ]at hr;split at hr
   ·rename_i h7 h8;simp only[Option.some.injEq]at h8 hr;subst h8;rw[h7,←hr];simp
   ·simp at hr
theorem wJ{d e:Nat}(ih:∀(t:TypeId)(ks:List LK)(w:World),cF P d t=some ks→∀(xs ys:List Value)(cs ds:List CV)(r b:Bool),lu A U cs xs→lu A U ds ys→bJ ks cs ds=some r→cq P t=some b→(Op.equalIn (d+e) t (cA b xs) (cA b ys)).run P w= .ok r w){xs ys:Array Value}{cs ds:List CV}(hx:lu A U cs xs.toList)(hy:lu A U ds ys.toList)(w:World):
  ∀{fs:List Field}{off:Nat}{ks:List LK}{r:Bool},kx (cF P d) fs off=some ks→bJ ks (cs.drop off) (ds.drop off)=some r→(Op.eqFields (d+e) xs ys fs).run P w= .ok r w:=by
 intro fs;induction fs with
 |nil=>
  intro off ks r h hr;simp only[kx,Option.some.injEq]at h;subst h;have:r=true:=by
   unfold bJ at hr;split at hr
   ·simpa using hr.symm
   ·simp_all
   ·simp at hr
  subst this;simp[Op.eqFields]
 |cons f fs ihf=>
  intro off ks r h hr;simp only[kx]at h;split at h
  ·rename_i hf;obtain⟨f1,f2⟩:=hf;split at h
   ·rename_i m hm;split at h
    case isFalse=>simp at h
    rename_i hm0;simp only[Option.map_eq_some_iff]at h;obtain⟨ks',h1,rfl⟩:=h;obtain⟨r1,r2,h2,h3,h4⟩:=kR hr;obtain⟨l1,l2⟩:=gG h2;have lx:off+m.length≤xs.size:=by have h5:=hx.1;simp only[List.length_take,List.length_drop,Array.length_toList]at l1 h5;omega
    have ly:off+m.length≤ys.size:=by have h5:=hy.1;simp only[List.length_take,List.length_drop,Array.length_toList]at l2 h5;omega
    obtain⟨b,q1,q2⟩:=fV hm lx w;obtain⟨b',q1',q3⟩:=fV hm ly w;rw[q1]at q1';cases q1';have q4:=ih f.type m w hm _ _ _ _ r1 b (hx.cut off m.length) (hy.cut off m.length) h2 q1;simp only[List.drop_drop]at h3;have q5:=ihf h1 h3;subst f2;simp only[Op.eqFields,f1,ne_eq,not_false_eq_true,if_true,Sem.run_bind,q2,q3,q4,Result.andThen];cases r1
    ·simp[h4]
    ·simpa [h4]using q5
   ·simp at h
  ·simp at h
theorem ji(e:Nat):∀(d:Nat)(t:TypeId)(ks:List LK)(w:World),cF P d t=some ks→∀(xs ys:List Value)(cs ds:List CV)(r b:Bool),lu A U cs xs→lu A U ds ys→bJ ks cs ds=some r→cq P t=some b→(Op.equalIn (d+e) t (cA b xs) (cA b ys)).run P w= .ok r w:=by
 intro d;induction d with
 |zero=>intro t n w h;simp[cF]at h
 |succ d ih=>
  intro t ks w h xs ys cs ds r b hx hy hr hb;rw[show d+1+e=(d+e)+1 by omega];simp only[cF]at h;split at h
  ·rename_i hu;cases h;obtain⟨x,y,c,c',rfl,rfl,hcx,hcy,hs⟩:=mh hx hy hr;have:b=false:=by simpa [cq,hu]using hb.symm
   subst this;cases c<;>cases c'<;>simp only[qV,reduceCtorEq]at hs;simp only[aw]at hcx hcy;subst hcx;subst hcy;cases hs;simp[cA,Op.equalIn,run_underlying hu]
  ·rename_i k hu;cases h;obtain⟨x,y,c,c',rfl,rfl,hcx,hcy,hs⟩:=mh hx hy hr;have:b=false:=by simpa [cq,hu]using hb.symm
   subst this;cases c<;>cases c'<;>simp only[qV,reduceCtorEq]at hs;split at hs
   ·rename_i hk;obtain⟨rfl,rfl⟩:=hk;simp only[aw]at hcx hcy;subst hcx;subst hcy;cases hs;simp[cA,Op.equalIn,run_underlying hu]
   ·simp at hs
  ·rename_i hu;cases h;obtain⟨x,y,c,c',rfl,rfl,hcx,hcy,hs⟩:=mh hx hy hr;have:b=false:=by simpa [cq,hu]using hb.symm
   subst this;cases c<;>cases c'<;>simp only[qV,reduceCtorEq]at hs;rename_i p q;simp only[aw]at hcx hcy;subst hcx;subst hcy;cases hs;simp only[cA,Op.equalIn,Sem.run_bind,run_underlying hu,Result.andThen,List.headD_cons,Bool.false_eq_true,if_false,Sem.run_pure];congr 1;have:((⟨p.toArray⟩:ByteArray)==⟨q.toArray⟩)=(p==q):=by rw[beq_toListBytes];simp[ByteArray.toList_eq]
   exact this
  ·rename_i fs hu;have:b=true:=by simpa [cq,hu]using hb.symm
   subst this;split at h
   case isFalse=>simp at h
   rename_i hst;split at h
   case h_2=>simp at h
   rename_i n hn;split at h
   case isFalse=>simp at h
   cases h;have hfs:P.fieldsOf t=fs:=by simp[Program.fieldsOf,hu]
   have hrun:=wJ (e:=e) (xs:=xs.toArray) (ys:=ys.toArray) (fun t ks w h=>ih t ks w h) (by simpa using hx) (by simpa using hy) w hn (by simpa using hr);rw[←hfs]at hrun;rw[←hrun];exact run_equalIn_struct w (d+e) t _ _ (by rw[hfs];exact hu) hst
  ·rename_i n el hu;have:b=true:=by simpa [cq,hu]using hb.symm
   subst this;split at h
   case h_2=>simp at h
   rename_i m hm;split at h
   case isFalse=>simp at h
   rename_i hsz;cases h;obtain⟨i,hi,his⟩:∃i,P.info? el=some i∧i.size=m.length:=by have:=hsz.2.1;unfold Tq.cB at this;simpa [Option.map_eq_some_iff]using this
   have hco:P.cellsOf el=m.length:=by simp[Program.cellsOf,hi,his]
   have main:∀(k j:Nat)(r:Bool),bJ (eY m k) (cs.drop (j*m.length)) (ds.drop (j*m.length))=some r→(Op.eqItems (d+e) el m.length xs.toArray ys.toArray (List.range' j k)).run P w= .ok r w:=by
    intro k;induction k with
    |zero=>
     intro j r hr;have:r=true:=by
      simp only[eY]at hr;unfold bJ at hr;split at hr
      ·simpa using hr.symm
      ·simp_all
      ·simp at hr
     subst this;simp[Op.eqItems]
    |succ k ihk=>
     intro j r hr;simp only[eY]at hr;obtain⟨r1,r2,h2,h3,h4⟩:=kR hr;obtain⟨l1,l2⟩:=gG h2;have hm0:=hsz.1
     ·have lx:j*m.length+m.length≤xs.toArray.size:=by have h5:=hx.1;simp only[List.length_take,List.length_drop,List.size_toArray]at l1 h5 ⊢;omega
      have ly:j*m.length+m.length≤ys.toArray.size:=by have h5:=hy.1;simp only[List.length_take,List.length_drop,List.size_toArray]at l2 h5 ⊢;omega
      obtain⟨b,q1,q2⟩:=fV hm lx w;obtain⟨b',q1',q3⟩:=fV hm ly w;rw[q1]at q1';cases q1';have q4:=ih el m w hm _ _ _ _ r1 b (hx.cut (j*m.length) m.length) (hy.cut (j*m.length) m.length) h2 q1;simp only[List.drop_drop]at h3;rw[←Nat.succ_mul]at h3;have q5:=ihk (j+1) r2 h3;simp only[List.range'_succ,Op.eqItems,Sem.run_bind,q2,q3,q4,Result.andThen];cases r1
      ·simp[h4]
      ·simpa [h4]using q5
   have:=main n 0 r (by simpa using hr);rw[←List.range_eq_range']at this;rw[←this,←hco];exact run_equalIn_array w (d+e) xs.toArray ys.toArray hu hi
  ·simp at h
def iT(ts:Ts)(x:Opd):Option (List CV):=match evO ts x with
 |some (.agg cs)=>some cs
 |_=>none
theorem kC(hts:cx A U ts a.tmps){x:Opd}{y:Operand}(ho:aX x y=true){cs:List CV}(hr:iT ts x=some cs):∃us:List Value,a.eval y=cA true us∧lu A U cs us:=by
 unfold iT at hr;split at hr
 ·rename_i cs' he;cases hr;obtain⟨us,h1,h2,h3⟩:=cX hts ho he;exact⟨us.toList,by simpa [cA]using h1,by simpa using h2,by simpa using h3⟩
 ·simp at hr
theorem yQ(hts:cx A U ts a.tmps){t t2:TypeId}{neg:Bool}{x y:Opd}{yx yy:Operand}(hop:o.op= .binOp (if neg then .neq else .eql) t yx yy t2)(hx:aX x yx=true)(hy:aX y yy=true){ks:List LK}(hk:cF P 50 t=some ks)(ha:cq P t=some true)(hg:P.eqGuardType P.depth t=false){cs ds:List CV}(h1:iT ts x=some cs)(h2:iT ts y=some ds){r:Bool}(hr:bJ ks cs ds=some r):
  mZ P a o w A U (.one (.bool (if neg then !r else r))):=by
 obtain⟨xs,e1,c1⟩:=kC hts hx h1;obtain⟨ys,e2,c2⟩:=kC hts hy h2;have hrun:(Op.equal t (cA true xs) (cA true ys)).run P w= .ok r w:=ji (P:=P) 9950 50 t ks w hk xs ys cs ds r true c1 c2 hr ha;simp only[cA,if_true]at e1 e2 hrun;refine⟨.bool (if neg then !r else r),?_,rfl⟩;cases neg
 ·simp only[Bool.false_eq_true,if_false]at hop ⊢;simp[execOp,hop,e1,e2,eqGuard,hg,binOp,hrun,run_program]
 ·simp only[if_true]at hop ⊢;simp[execOp,hop,e1,e2,eqGuard,hg,binOp,hrun,run_program]
def v7(mx:Bool):CV→CV→Option CV
 |.int k a,.int k' b=>if k=k' then some (.int k (if mx then(if b>a then b else a)else(if b<a then b else a)))else none
 |_,_=>none
theorem aAM(hts:cx A U ts a.tmps){mx:Bool}{x y:Opd}{yx yy:Operand}{tys:List TypeId}(hop:isBuiltin (if mx then .max else .min) o.op=some ([yx,yy],tys))(hx:aX x yx=true)(hy:aX y yy=true){p q r:CV}(h1:ev1 ts x=some p)(h2:ev1 ts y=some q)(hr:v7 mx p q=some r):mZ P a o w A U (.one r):=by
 have e1:=aU hts hx h1;have e2:=aU hts hy h2;have hop':=bp hop;unfold v7 at hr;split at hr
 ·rename_i k m k' n;split at hr
  ·rename_i hk;subst hk;cases hr;simp only[aw]at e1 e2;refine⟨_,?_,rfl⟩;cases mx
   ·simp only[Bool.false_eq_true,if_false]at hop' ⊢;simp[execOp,hop',resolve,invoke,builtin,Builtin.min_,Builtin.min2,e1,e2]
   ·simp only[if_true]at hop' ⊢;simp[execOp,hop',resolve,invoke,builtin,Builtin.max_,Builtin.max2,e1,e2]
  ·simp at hr
 ·simp at hr
def rO(n:Option Nat)(off:Nat)(cs:List CV):Option V1:=match n with
 |none=>(cs[off]?).map .one
 |some n=>if off+n≤cs.length then some (.agg ((cs.drop off).take n))else none
theorem y9(hts:cx A U ts a.tmps){t:TypeId}{x:Opd}{y:Operand}{f:Nat}(hop:o.op= .field t y f)(hx:aX x y=true){fs:Array Field}(ht:P.underlying t=some (.struct fs)){fd:Field}(hf:fs[f]?=some fd){n:Option Nat}(hn:(match n with|none=>cq P fd.type=some false|some n=>cq P fd.type=some true∧cB P fd.type=some n)){cs:List CV}(h1:iT ts x=some cs){r:V1}(hr:rO n fd.offset cs=some r):mZ P a o w A U r:=by
 obtain⟨xs,e1,c1⟩:=kC hts hx h1;simp only[cA,if_true]at e1;cases n with
 |none=>simp only[rO,Option.map_eq_some_iff]at hr;obtain⟨c,h2,rfl⟩:=hr;obtain⟨u,h3,h4⟩:=c1.2 _ c h2;refine⟨u,?_,h4⟩;simp[execOp,hop,Instr.field,run_underlying ht,hf,e1,asAgg,part,Tq.gA hn,h3]
 |some n=>
  simp only[rO]at hr;split at hr
  ·rename_i hle;cases hr;have c2:=c1.cut fd.offset n;refine⟨.agg (xs.toArray.extract fd.offset (fd.offset+n)),?_,xs.toArray.extract fd.offset (fd.offset+n),rfl,?_,fun j c hj=>?_⟩
   ·simp[execOp,hop,Instr.field,run_underlying ht,hf,e1,asAgg,part,Tq.gA hn.1,Tq.run_sizeOf hn.2]
   ·have:=c1.1;simp only[Array.size_extract,List.size_toArray,List.length_take,List.length_drop];omega
   ·obtain⟨u,h3,h4⟩:=c2.2 j c hj;refine⟨u,?_,h4⟩;have:(xs.toArray.extract fd.offset (fd.offset+n))[j]?=((xs.drop fd.offset).take n)[j]?:=by rw[←Array.getElem?_toList,Array.toList_extract,List.extract_eq_take_drop];simp
    rw[this];exact h3
  ·simp at hr
end
end Go.Cq
namespace Go.Cq
open Go.RowKit
open Go.Tq (cB cq isBuiltin bp)
def V1.isAgg:V1→Bool
 |.one _=>false
 |.agg _=>true
theorem bytes_beq(a b:List UInt8):((⟨a.toArray⟩:ByteArray)==⟨b.toArray⟩)=(a==b):=by show(a.toArray==b.toArray)=(a==b);simp
def fS(ks:List LK)(b:Bool)(k:V1):List (V1×V1×Nat)→Nat→Option (Option Nat)
 | [],_=>some none
 |e::es,i=>if e.1.isAgg=b then match bJ ks k.cells e.1.cells with
   |some true=>some (some i)
   |some false=>fS ks b k es (i+1)
   |none=>none
  else none
section
variable{P:Program}{a:Act}{o:Oper}{w w0:World}{A:Nat→Nd}{U K:Nat→Prop}{ts:Ts}{h:Heap}
theorem fF{k:V1}{v:Value}(h:eA A U k v):∃us:List Value,v=cA k.isAgg us∧lu A U k.cells us:=by
 cases k with
 |one c=>exact⟨[v],rfl,rfl,fun j c' hj=>by
   cases j with
   |zero=>simp only[V1.cells,List.getElem?_cons_zero,Option.some.injEq]at hj;subst hj;exact⟨v,rfl,h⟩
   |succ j=>simp[V1.cells]at hj⟩
 |agg cs=>obtain⟨us,rfl,h2,h3⟩:=h;exact⟨us.toList,by simp[cA,V1.isAgg],by simpa [V1.cells]using h2,by simpa [V1.cells]using h3⟩
theorem lp(em:Bool)(e:Nat):∀(d:Nat)(t:TypeId)(ks:List LK)(w:World),cF P d t=some ks→∀(xs:List Value)(b:Bool),ks.length≤xs.length→cq P t=some b→(Instr.checkKey em (d+e) t (cA b xs)).run P w= .ok () w:=by
 intro d;induction d with
 |zero=>intro t ks w h;simp[cF]at h
 |succ d ih=>
  intro t ks w h xs b hle hb;rw[show d+1+e=(d+e)+1 by omega];have plain:∀{dsc:TypeDesc},P.underlying t=some dsc→(dsc= .bool∨(∃q,dsc= .int q)∨dsc= .string)→(Instr.checkKey em (d+e+1) t (cA b xs)).run P w= .ok () w:=by
   intro dsc hu hd;rcases hd with rfl| ⟨q,rfl⟩|rfl<;>
   ·unfold Instr.checkKey;simp only[Sem.run_bind,run_underlying hu,Result.andThen_ok];rfl
  simp only[cF]at h;split at h
  ·rename_i hu;exact plain hu (.inl rfl)
  ·rename_i k hu;exact plain hu (.inr (.inl ⟨k,rfl⟩))
  ·rename_i hu;exact plain hu (.inr (.inr rfl))
  ·rename_i fs hu;split at h
   ·split at h
    ·rename_i n hn;split at h
     ·simp only[Option.some.injEq]at h;subst h;have:b=true:=by simpa [cq,hu]using hb.symm
      subst this;simp only[cA,if_true];rw[Instr.checkKey];simp only[Sem.run_bind,run_underlying hu,Result.andThen_ok];rw[←Array.forIn_toList];obtain⟨off,hoff⟩:∃off:Nat,off=0:=⟨0,rfl⟩;rw[←hoff]at hn;have hl:off+n.length≤xs.length:=by omega
      rename_i hps;clear hoff hle hps;generalize fs.toList=L at hn;induction L generalizing off n with
      |nil=>simp
      |cons f L ihL=>
       simp only[kx]at hn;split at hn
       ·rename_i hf;split at hn
        ·rename_i m1 hm1;split at hn
         ·simp only[Option.map_eq_some_iff]at hn;obtain⟨m2,hm2,rfl⟩:=hn;simp only[List.length_append]at hl;obtain⟨b1,p1,p2⟩:=fV hm1 (off:=off) (xs:=xs.toArray) (by simp;omega) w;have p3:=ih f.type m1 w hm1 ((xs.drop off).take m1.length) b1 (by simp;omega) p1;simp only[List.forIn_cons,Sem.run_bind,hf.1,hf.2,ne_eq,not_false_eq_true,if_true,p2,Result.andThen_ok,p3,Sem.run_pure];exact ihL _ _ (by omega) hm2
         ·simp at hn
        ·simp at hn
       ·simp at hn
     ·simp at h
    ·simp at h
   ·simp at h
  ·rename_i n el hu;split at h
   ·rename_i m hm;split at h
    ·rename_i hs;simp only[Option.some.injEq]at h;subst h;have:b=true:=by simpa [cq,hu]using hb.symm
     subst this;have hlen:∀n,(eY m n).length=n*m.length:=by
      intro n;induction n with
      |zero=>simp[eY]
      |succ n ih=>simp[eY,ih,Nat.add_mul,Nat.add_comm]
     rw[hlen]at hle;simp only[cA,if_true];rw[Instr.checkKey];simp only[Sem.run_bind,run_underlying hu,Result.andThen_ok];simp only[Std.Legacy.Range.forIn_eq_forIn_range',Std.Legacy.Range.size,Nat.sub_zero,Nat.add_one_sub_one,Nat.div_one];obtain⟨i,hi⟩:∃i:Nat,i=0:=⟨0,rfl⟩;obtain⟨k,hk⟩:∃k:Nat,k=n:=⟨n,rfl⟩;have hik:i+k≤n:=by omega
     rw[←hi,←hk];clear hi hk;induction k generalizing i with
     |zero=>simp
     |succ k ihk=>
      have hb:i*m.length+m.length≤xs.length:=by have:(i+1)*m.length≤n*m.length:=Nat.mul_le_mul_right _ (by omega);rw[Nat.add_mul,Nat.one_mul]at this;omega
      obtain⟨b1,p1,p2⟩:=fV hm (off:=i*m.length) (xs:=xs.toArray) (by simpa using hb) w;have p3:=ih el m w hm ((xs.drop (i*m.length)).take m.length) b1 (by simp;omega) p1;simp only[List.range'_succ,List.forIn_cons,Sem.run_bind,Tq.run_sizeOf hs.2.1 w,Result.andThen_ok,p2,p3,Sem.run_pure];exact ihk (i+1) (by omega)
    ·simp at h
   ·simp at h
  ·simp at h
def ju(A:Nat→Nd)(U:Nat→Prop)(es:List (V1×V1×Nat))(ys:List MapEntry):Prop:=ys.length=es.length∧∀(j:Nat) e,es[j]?=some e→∃y,ys[j]?=some y∧eA A U e.1 y.key∧eA A U e.2.1 y.val∧y.born=e.2.2
theorem ju.tail{e:V1×V1×Nat}{es:List (V1×V1×Nat)}{y:MapEntry}{ys:List MapEntry}(h:ju A U (e::es) (y::ys)):ju A U es ys:=⟨by simpa using h.1,fun j e' hj=>by simpa using h.2 (j+1) e' (by simpa using hj)⟩
def mb(ys:List MapEntry)(i:Nat)(r:Option Nat)(q:Option (Nat×Value)):Prop:=match r with
 |none=>q=none
 |some j=>i≤j∧∃y,ys[j-i]?=some y∧q=some (j,y.val)
theorem mb.cons{ys:List MapEntry}{y:MapEntry}{i:Nat}{r:Option Nat}{q:Option (Nat×Value)}(h:mb ys (i+1) r q):mb (y::ys) i r q:=by
 cases r with
 |none=>exact h
 |some j=>obtain⟨h1,y',h2,h3⟩:=h;refine⟨by omega,y',?_,h3⟩;rw[show j-i=(j-(i+1))+1 by omega,List.getElem?_cons_succ];exact h2
theorem nX{t:TypeId}{ks:List LK}(hk:cF P 50 t=some ks){b:Bool}(ha:cq P t=some b){k:V1}{x:Value}(hx:eA A U k x)(hkb:k.isAgg=b)(w:World):
  ∀(es:List (V1×V1×Nat))(ys:List MapEntry)(i:Nat)(r:Option Nat),ju A U es ys→fS ks b k es i=some r→∃q,(Instr.findAsking t x ys i).run P w= .ok q w∧mb ys i r q:=by
 intro es;induction es with
 |nil=>intro ys i r he hr;have:ys=[]:=List.length_eq_zero_iff.1 (by simpa using he.1);subst this;simp only[fS,Option.some.injEq]at hr;subst hr;exact⟨none,by simp[Instr.findAsking],rfl⟩
 |cons e es ih=>
  intro ys i r he hr;cases ys with
  |nil=>have:=he.1;simp at this
  |cons y ys=>
   obtain⟨y',h1,h2, -, -⟩:=he.2 0 e rfl;cases h1;simp only[fS]at hr;split at hr
   ·rename_i hb;obtain⟨us,rfl,c1⟩:=fF hx;obtain⟨vs,e2,c2⟩:=fF h2;have run:∀s,bJ ks k.cells e.1.cells=some s→(Op.equal t (cA k.isAgg us) y.key).run P w= .ok s w:=by intro s hs;rw[e2,hb,hkb];exact ji (P:=P) 9950 50 t ks w hk us vs _ _ s b c1 c2 hs ha
    split at hr
    ·rename_i hs;cases hr;exact⟨some (i,y.val),by simp[Instr.findAsking,run true hs],Nat.le_refl _,y,by simp,rfl⟩
    ·rename_i hs;obtain⟨q,q1,q2⟩:=ih ys (i+1) r he.tail hr;exact⟨q,by simp[Instr.findAsking,run false hs,q1],q2.cons⟩
    ·simp at hr
   ·simp at hr
theorem qO{dsc:TypeDesc}{q0:LK}(hd:(dsc= .bool∧q0= .b)∨(∃q,dsc= .int q∧q0= .i q)∨(dsc= .string∧q0= .s)){k:V1}{x:Value}(hx:eA A U k x)(hkb:k.isAgg=false):
  ∀(es:List (V1×V1×Nat))(ys:List MapEntry)(i:Nat)(r:Option Nat),ju A U es ys→fS [q0] false k es i=some r→∃q,Instr.findNow dsc x ys i=some q∧mb ys i r q:=by
 intro es;induction es with
 |nil=>intro ys i r he hr;have:ys=[]:=List.length_eq_zero_iff.1 (by simpa using he.1);subst this;simp only[fS,Option.some.injEq]at hr;subst hr;exact⟨none,rfl,rfl⟩
 |cons e es ih=>
  intro ys i r he hr;cases ys with
  |nil=>have:=he.1;simp at this
  |cons y ys=>
   obtain⟨y',h1,h2, -, -⟩:=he.2 0 e rfl;cases h1;simp only[fS]at hr;split at hr
   ·rename_i hb;obtain⟨us,e1,c1⟩:=fF hx;obtain⟨vs,e2,c2⟩:=fF h2;have run:∀s,bJ [q0] k.cells e.1.cells=some s→Instr.sameNow dsc x y.key=some s:=by
     intro s hs;obtain⟨u,v,c,c',rfl,rfl,m1,m2,m3⟩:=mh c1 c2 hs;rw[e1,e2,hkb,hb];simp only[cA,Bool.false_eq_true,if_false,List.headD_cons];cases c<;>cases c'<;>simp only[qV,reduceCtorEq]at m3
     all_goals first| (exfalso;revert m3;cases q0<;>simp;done)|skip
     all_goals simp only[aw]at m1 m2;subst m1;subst m2
     all_goals rcases hd with⟨rfl,rfl⟩| ⟨q,rfl,rfl⟩| ⟨rfl,rfl⟩
     all_goals simp only[reduceCtorEq]at m3
     all_goals first
      | (cases m3;simp[Instr.sameNow];done)
      | (cases m3;simp only[Instr.sameNow,Option.some.injEq];exact bytes_beq _ _)
      | (
        split at m3
        ·rename_i hq;obtain⟨rfl,rfl⟩:=hq;cases m3;simp[Instr.sameNow]
        ·simp at m3)
    split at hr
    ·rename_i hs;cases hr;exact⟨some (i,y.val),by simp[Instr.findNow,run true hs],Nat.le_refl _,y,by simp,rfl⟩
    ·rename_i hs;obtain⟨q,q1,q2⟩:=ih ys (i+1) r he.tail hr;exact⟨q,by simp[Instr.findNow,run false hs,q1],q2.cons⟩
    ·simp at hr
   ·simp at hr
theorem qX{t:TypeId}{ks:List LK}(hk:cF P 50 t=some ks){b:Bool}(ha:cq P t=some b){k:V1}{x:Value}(hx:eA A U k x)(hkb:k.isAgg=b)(w:World){es:List (V1×V1×Nat)}{ys:List MapEntry}{r:Option Nat}(he:ju A U es ys)(hr:fS ks b k es 0=some r):∃q,(Instr.findKey t x ys).run P w= .ok q w∧mb ys 0 r q:=by
 have hk':=hk;obtain⟨d,hd⟩:∃d:Nat,50=d+1:=⟨49,rfl⟩;rw[hd]at hk;simp only[cF]at hk;have now:∀{dsc:TypeDesc}{q0:LK},P.underlying t=some dsc→ks=[q0]→((dsc= .bool∧q0= .b)∨(∃q,dsc= .int q∧q0= .i q)∨(dsc= .string∧q0= .s))→b=false→∃q,(Instr.findKey t x ys).run P w= .ok q w∧mb ys 0 r q:=by intro dsc q0 hu e1 hd hb;subst e1;subst hb;obtain⟨q,q1,q2⟩:=qO hd hx hkb es ys 0 r he hr;exact⟨q,by simp[Instr.findKey,run_underlying hu,q1],q2⟩
 have wide:(match P.underlying t with|some (.array _ _)|some (.struct _)=>true|_=>false)=true→∃q,(Instr.findKey t x ys).run P w= .ok q w∧mb ys 0 r q:=by intro hw;obtain⟨q,q1,q2⟩:=nX hk' ha hx hkb w es ys 0 r he hr;exact⟨q,by rw[run_findKey_eq w hw];exact q1,q2⟩
 split at hk
 ·rename_i hu;simp only[Option.some.injEq]at hk;exact now hu hk.symm (.inl ⟨rfl,rfl⟩) (by simpa [cq,hu]using ha.symm)
 ·rename_i q hu;simp only[Option.some.injEq]at hk;exact now hu hk.symm (.inr (.inl ⟨q,rfl,rfl⟩)) (by simpa [cq,hu]using ha.symm)
 ·rename_i hu;simp only[Option.some.injEq]at hk;exact now hu hk.symm (.inr (.inr ⟨rfl,rfl⟩)) (by simpa [cq,hu]using ha.symm)
 ·rename_i fs hu;exact wide (by rw[hu])
 ·rename_i n e hu;exact wide (by rw[hu])
 ·simp at hk
end
end Go.Cq
namespace Go.Cq
open Go.RowKit
open Go.Tq (cB cq)
def aEQ(z:V1)(v:Value):Bool:=match z,v with
 |.agg cs,.agg us=>qC cs us.toList
 |.one c,v=>okZ c v
 |_,_=>false
def nV(P:Program)(t:TypeId)(z:V1):Bool:=match(P.info? t).bind (·.zero)with
 |some v=>aEQ z v
 |none=>false
def iQ(ks:List LK)(b:Bool)(k:V1):Bool:=decide (k.isAgg=b∧ks.length=k.cells.length)
def kb(ks:List LK)(b:Bool)(z:V1)(x k:Opd)(h:Heap)(ts:Ts):Option (V1×Bool):=match ev1 ts x,evO ts k with
 |some .nilm,some kk=>if iQ ks b kk then some (z,false)else none
 |some (.mp id),some kk=>match h.getM id with
  |some (.map es _)=>if iQ ks b kk then match fS ks b kk es 0 with
    |some (some i)=>match es[i]? with
     |some e=>some (e.2.1,true)
     |none=>none
    |some none=>some (z,false)
    |none=>none
   else none
  |_=>none
 |_,_=>none
def de(f:V1×V1×Nat→V1×V1×Nat):List (V1×V1×Nat)→Nat→List (V1×V1×Nat)
 | [],_=>[]
 |e::es,0=>f e::es
 |e::es,i+1=>e::de f es i
def nL(ks:List LK)(b:Bool)(x k v:Opd)(h:Heap)(ts:Ts):Option Heap:=match ev1 ts x,evO ts k,evO ts v with
 |some (.mp id),some kk,some vv=>match h.getM id with
  |some (.map es clock)=>if iQ ks b kk then match fS ks b kk es 0 with
    |some (some i)=>some (h.cE id (some (.map (de (fun e=>(kk,vv,e.2.2)) es i) clock)))
    |some none=>some (h.cE id (some (.map (es++[(kk,vv,clock)]) (clock+1))))
    |none=>none
   else none
  |_=>none
 |_,_,_=>none
def mB(ks:List LK)(b:Bool)(z:V1)(x k:Opd)(h:Heap)(ts:Ts):Option (Heap×V1×Nat):=match ev1 ts x,evO ts k with
 |some (.mp id),some kk=>match h.getM id with
  |some (.map es clock)=>if iQ ks b kk then match fS ks b kk es 0 with
    |some (some i)=>match es[i]? with
     |some e=>some (h.cE id (some (.map (de (fun e=>(kk,e.2.1,e.2.2)) es i) clock)),e.2.1,e.2.2)
     |none=>none
    |some none=>some (h.cE id (some (.map (es++[(kk,z,clock)]) (clock+1))),z,clock)
    |none=>none
   else none
  |_=>none
 |_,_=>none
def eG(n:Int):List (V1×V1×Nat)→Nat→Option Nat
 | [],_=>none
 |e::es,i=>if(e.2.2:Int)==n then some i else eG n es (i+1)
def pP(x s v:Opd)(h:Heap)(ts:Ts):Option Heap:=match ev1 ts x,fP ts s,evO ts v with
 |some (.mp id),some n,some vv=>match h.getM id with
  |some (.map es clock)=>match eG n es 0 with
   |some i=>some (h.cE id (some (.map (de (fun e=>(e.1,vv,e.2.2)) es i) clock)))
   |none=>none
  |_=>none
 |_,_,_=>none
def kj(x:Opd)(h:Heap)(ts:Ts):Option MO:=match ev1 ts x with
 |some (.mp id)=>match h.getM id with
  |some (.map _ clock)=>some (.iter id clock [] clock)
  |_=>none
 |_=>none
def jW(x:Opd)(h:Heap)(ts:Ts):Option (V1×V1):=match ev1 ts x with
 |some (.ptr id 0)=>match h.getM id with
  |some (.iter m _ seen stepped)=>match h.getM m,seen.getLast? with
   |some (.map es clock),some st=>if clock=stepped then(es.find? (fun e=>e.2.2==st)).map fun e=>(e.1,e.2.1)else none
   |_,_=>none
  |_=>none
 |_=>none
def lz(x:Opd)(h:Heap)(ts:Ts):Option (List (CVal×Heap)):=match ev1 ts x with
 |some (.ptr id 0)=>match h.getM id with
  |some (.iter m since seen last)=>match h.getM m with
   |some (.map es clock)=>if es.all (fun e=>decide (e.2.2<since)&&decide (e.2.2<last))then match es.filter (fun e=>!seen.contains e.2.2)with
     | []=>some [(.tup [.one (.bool false)],h)]
     |e::l=>some ((e::l).map fun e=>(.tup [.one (.bool true),e.1,e.2.1],h.cE id (some (.iter m since (seen++[e.2.2]) clock))))
    else none
   |_=>none
  |_=>none
 |_=>none
section
variable{P:Program}{a:Act}{o:Oper}{w w0:World}{A:Nat→Nd}{U K:Nat→Prop}{ts:Ts}{h:Heap}
theorem qM{t:TypeId}{z:V1}(h:nV P t z=true):∃v,(∀w,(zeroValue t).run P w= .ok v w)∧∀A U,eA A U z v:=by
 unfold nV at h;split at h
 ·rename_i v hv;cases hi:P.info? t with
  |none=>simp[hi]at hv
  |some i=>
   simp only[hi,Option.bind_some]at hv;refine⟨v,fun w=>by simp[zeroValue,typeInfo,hi,hv],fun A U=>?_⟩;unfold aEQ at h;split at h
   ·rename_i cs us;obtain⟨h1,h2⟩:=kM h;exact⟨us,rfl,by simpa using h1.symm,fun j c hj=>by obtain⟨u,h3,h4⟩:=h2 j c hj;exact⟨u,by simpa using h3,my h4⟩⟩
   ·exact my h
   ·simp at h
 ·simp at h
theorem Sim.newObj(hs:Sim A h U K w0 w){i:Nat}(hi:¬U i){x:MO}{o:Obj}(hx:MOk A U x o)(hf:h.get i=none):
  Sim (Nat.upd A i ⟨w.heap.size,0,0,0⟩) (h.cE i (some x)) (fun j=>U j∨j=i) K w0 {w with heap:=w.heap.push o}∧Ext A (Nat.upd A i ⟨w.heap.size,0,0,0⟩) U:=by
 have hext:=oS (A:=A) hi ⟨w.heap.size,0,0,0⟩;have hU:∀j,U j→U j∨j=i:=fun j hj=>.inl hj
 have old:∀{j:Nat}{q:Obj},w.heap[j]?=some q→(w.heap.push o)[j]?=some q:=by intro j q hq;have:=(Array.getElem?_eq_some_iff.1 hq).1;rw[Array.getElem?_push,if_neg (by omega)];exact hq
 refine⟨⟨hs.os,hs.tape,hs.output,?_,?_,?_,?_,?_,?_,.inl hs.vw.1,by rw[hext 0 hs.vw.1];exact hs.vw.2.1,fun id b hb=>by rw[hext 0 hs.vw.1,hext id (hs.live id b hb).1];exact hs.vw.2.2 id b hb⟩,hext⟩
 ·show _≤(w.heap.push o).size;simp only[Array.size_push];have:=hs.size;omega
 ·intro b' hb' hK;show(w.heap.push o)[b']?=_;have:=hs.size;rw[Array.getElem?_push,if_neg (by omega)];exact hs.old b' hb' hK
 ·intro id b' hb';obtain⟨h1,h2,c,e',fr,h3,h3',h4⟩:=hs.live id b' hb';rw[hext id h1];exact⟨.inl h1,h2,c,e',fr,old h3,h3',h4.ext hext hU⟩
 ·intro id id' b1 b2 h1 h2 heq;have u1:=(hs.live id b1 h1).1;have u2:=(hs.live id' b2 h2).1;rw[hext id u1,hext id' u2]at heq;exact hs.inj id id' b1 b2 h1 h2 heq
 ·intro id y hy;rw[Heap.bI]at hy;split at hy
  ·rename_i e1;subst e1;cases hy;rw[cw];exact⟨.inr rfl,.inl hs.size,rfl,o,by simp,hx.ext hext hU⟩
  ·obtain⟨h1,h2,h3,q,h4,h5⟩:=hs.maps id y hy;rw[hext id h1];exact⟨.inl h1,h2,h3,q,old h4,h5.ext hext hU⟩
 ·intro id id' y y' hy hy' heq;rw[Heap.bI]at hy hy';have lt:∀{j:Nat}{y:MO},h.getM j=some y→(A j).blk<w.heap.size:=fun hj=>by obtain⟨-, -, -,q,h4, -⟩:=hs.maps _ _ hj;exact(Array.getElem?_eq_some_iff.1 h4).1
  by_cases e1:id=i
  ·by_cases e2:id'=i
   ·rw[e1,e2]
   ·rw[if_neg e2]at hy';have:=lt hy';simp only[Nat.upd,e1,e2,if_true,if_false]at heq;omega
  ·rw[if_neg e1]at hy;by_cases e2:id'=i
   ·have:=lt hy;simp only[Nat.upd,e1,e2,if_true,if_false]at heq;omega
   ·rw[if_neg e2]at hy';simp only[Nat.upd,e1,e2,if_false]at heq;exact hs.minj id id' y y' hy hy' heq
theorem Sim.setObj(hs:Sim A h U K w0 w){id:Nat}{x x':MO}(hx:h.getM id=some x){o':Obj}(ho:MOk A U x' o'):Sim A (h.cE id (some x')) U K w0 {w with heap:=w.heap.setIfInBounds (A id).blk o'}:=by
 obtain⟨k1,k2,k3,q,k4,k5⟩:=hs.maps id x hx;have hlt:=(Array.getElem?_eq_some_iff.1 k4).1;have other:∀{j:Nat},j≠(A id).blk→(w.heap.setIfInBounds (A id).blk o')[j]?=w.heap[j]?:=fun hne=>by rw[Array.getElem?_setIfInBounds_ne (Ne.symm hne)]
 refine⟨hs.os,hs.tape,hs.output,by simpa using hs.size,?_,?_,hs.inj,?_,?_,hs.vw⟩
 ·intro b hb hK;show(w.heap.setIfInBounds (A id).blk o')[b]?=_;rw[other ?_]
  ·exact hs.old b hb hK
  ·rintro rfl;rcases k2 with k2|k2
   ·omega
   ·exact hK k2
 ·intro j b hb;obtain⟨h1,h2,c,e,fr,h3,h3',h4⟩:=hs.live j b hb;refine⟨h1,h2,c,e,fr,?_,h3',h4⟩;show(w.heap.setIfInBounds (A id).blk o')[(A j).blk]?=_;rw[other (fun e1=>by rw[e1,k4]at h3;simp only[Option.some.injEq]at h3;exact k5.lA h3)];exact h3
 ·intro j y hy;show _∧_∧_∧∃o,(w.heap.setIfInBounds (A id).blk o')[(A j).blk]?=some o∧_;rw[Heap.bI]at hy;split at hy
  ·rename_i e1;subst e1;cases hy;exact⟨k1,k2,k3,o',by simp[hlt],ho⟩
  ·rename_i e1;obtain⟨h1,h2,h3,p,h4,h5⟩:=hs.maps j y hy;refine⟨h1,h2,h3,p,?_,h5⟩;rw[other (fun e2=>e1 (hs.minj j id y x hy hx e2))];exact h4
 ·intro j j' y y' hy hy' heq;have ex:∀{j:Nat}{y:MO},(h.cE id (some x')).getM j=some y→∃y',h.getM j=some y':=by
   intro j y hj;rw[Heap.bI]at hj;split at hj
   ·rename_i e1;subst e1;exact⟨_,hx⟩
   ·exact⟨_,hj⟩
  obtain⟨z,hz⟩:=ex hy;obtain⟨z',hz'⟩:=ex hy';exact hs.minj j j' z z' hz hz' heq
theorem Sim.drew(hs:Sim A h U K w0 w)(n:Nat):Sim A h U K w0 {w with drawn:=n}:=⟨hs.os,hs.tape,hs.output,hs.size,hs.old,hs.live,hs.inj,hs.maps,hs.minj,hs.vw⟩
theorem vz(f:V1×V1×Nat→V1×V1×Nat):∀(es:List (V1×V1×Nat))(i j:Nat),(de f es i)[j]?=if j=i then(es[j]?).map f else es[j]?:=by
 intro es;induction es with
 |nil=>intro i j;simp[de]
 |cons e es ih=>
  intro i j;cases i with
  |zero=>cases j<;>simp[de]
  |succ i=>cases j<;>simp[de,ih]
theorem ve(f:V1×V1×Nat→V1×V1×Nat):∀(es:List (V1×V1×Nat))(i:Nat),(de f es i).length=es.length:=by
 intro es;induction es with
 |nil=>intro i;rfl
 |cons e es ih=>intro i;cases i<;>simp[de,ih]
theorem nS{es:List (V1×V1×Nat)}{ys:Array MapEntry}(he:ju A U es ys.toList){i:Nat}{f:V1×V1×Nat→V1×V1×Nat}{g:MapEntry→MapEntry}(hfg:∀e y,es[i]?=some e→ys[i]?=some y→eA A U (f e).1 (g y).key∧eA A U (f e).2.1 (g y).val∧(g y).born=(f e).2.2):ju A U (de f es i) (ys.modify i g).toList:=by
 refine⟨by rw[ve];simpa using he.1,fun j e hj=>?_⟩;rw[vz]at hj;rw[Array.getElem?_toList,Array.getElem?_modify];by_cases e1:j=i
 ·subst e1;rw[if_pos rfl,Option.map_eq_some_iff]at hj;obtain⟨e0,h0,rfl⟩:=hj;obtain⟨y,h1, -⟩:=he.2 j e0 h0;have h1':ys[j]?=some y:=by simpa using h1
  obtain⟨g1,g2,g3⟩:=hfg e0 y h0 h1';exact⟨g y,by simp[h1'],g1,g2,g3⟩
 ·rw[if_neg e1]at hj;obtain⟨y,h1,h2⟩:=he.2 j e hj;exact⟨y,by rw[if_neg (Ne.symm e1)];simpa using h1,h2⟩
theorem xN{es:List (V1×V1×Nat)}{ys:Array MapEntry}(he:ju A U es ys.toList){e:V1×V1×Nat}{y:MapEntry}(h1:eA A U e.1 y.key)(h2:eA A U e.2.1 y.val)(h3:y.born=e.2.2):ju A U (es++[e]) (ys.push y).toList:=by
 have hl:ys.toList.length=es.length:=he.1;refine⟨by simpa using he.1,fun j e' hj=>?_⟩;rw[List.getElem?_append]at hj;split at hj
 ·rename_i hlt;obtain⟨y',g1,g2⟩:=he.2 j e' hj;refine⟨y',?_,g2⟩;have:j<ys.size:=by simpa using(show j<ys.toList.length by omega)
  rw[Array.toList_push,List.getElem?_append_left (by simpa using this)];exact g1
 ·rename_i hge;have hj0:j-es.length=0:=by
   rcases Nat.eq_zero_or_pos (j-es.length)with h|h
   ·exact h
   ·rw[List.getElem?_eq_none (by simp;omega)]at hj;simp at hj
  rw[hj0]at hj;cases hj;refine⟨y,?_,h1,h2,h3⟩;rw[Array.toList_push,List.getElem?_append_right (by omega),show j-ys.toList.length=0 by omega];rfl
theorem MOk.uu{es:List (V1×V1×Nat)}{ys:Array MapEntry}{clock:Nat}(he:ju A U es ys.toList):MOk A U (.map es clock) (.map ys clock):=⟨ys,rfl,by simpa using he.1,fun j e hj=>let⟨y,h1,h2⟩:=he.2 j e hj;⟨y,by simpa using h1,h2⟩⟩
theorem MOk.es{es:List (V1×V1×Nat)}{clock:Nat}{o:Obj}(h:MOk A U (.map es clock) o):∃ys:Array MapEntry,o= .map ys clock∧ju A U es ys.toList:=by obtain⟨ys,h1,h2,h3⟩:=h;exact⟨ys,h1,by simpa using h2,fun j e hj=>let⟨y,h4,h5⟩:=h3 j e hj;⟨y,by simpa using h4,h5⟩⟩
theorem aBn{q:LK}{c c':CV}(h:qV q c c'=some true){u v:Value}(hu:aw A U c u)(hv:aw A U c' v)(n:Nat):Instr.sameBits n v u=true:=by
 cases c<;>cases c'<;>simp only[qV,reduceCtorEq]at h
 all_goals first| (exfalso;revert h;cases q<;>simp;done)|skip
 all_goals cases q<;>simp only[reduceCtorEq]at h
 all_goals simp only[aw]at hu hv;subst hu;subst hv
 ·simp only[Option.some.injEq,beq_iff_eq]at h;subst h;cases n<;>simp[Instr.sameBits]
 ·split at h
  ·rename_i hk;obtain⟨rfl,rfl⟩:=hk;simp only[Option.some.injEq,beq_iff_eq]at h;subst h;cases n<;>simp[Instr.sameBits]
  ·simp at h
 ·simp only[Option.some.injEq,beq_iff_eq]at h;subst h;cases n<;>simp[Instr.sameBits,bytes_beq]
theorem vX:∀{ks:List LK}{c d:List CV},bJ ks c d=some true→∀{us vs:List Value},lu A U c us→lu A U d vs→∀(n:Nat) p,p∈vs.zip us→Instr.sameBits n p.1 p.2=true:=by
 intro ks;induction ks with
 |nil=>intro c d h us vs hu hv n p hp;obtain⟨l1,l2⟩:=gG h;have:us=[]:=List.length_eq_zero_iff.1 (by rw[hu.1,l1];rfl);subst this;simp at hp
 |cons q ks ih=>
  intro c d h us vs hu hv n p hp;cases c with
  |nil=>simp[bJ]at h
  |cons c cs=>cases d with
   |nil=>simp[bJ]at h
   |cons d ds=>
    simp only[bJ]at h;split at h
    ·rename_i r1 r2 h1 h2;simp only[Option.some.injEq,Bool.and_eq_true]at h;obtain⟨rfl,rfl⟩:=h;cases us with
     |nil=>have:=hu.1;simp at this
     |cons u us=>cases vs with
      |nil=>have:=hv.1;simp at this
      |cons v vs=>
       simp only[List.zip_cons_cons,List.mem_cons]at hp;rcases hp with rfl|hp
       ·obtain⟨u',e1,e2⟩:=hu.2 0 c rfl;obtain⟨v',e3,e4⟩:=hv.2 0 d rfl;simp only[List.getElem?_cons_zero,Option.some.injEq]at e1 e3;subst e1;subst e3;exact aBn h1 e2 e4 n
       ·exact ih h2 ⟨by simpa using hu.1,fun j c' hj=>by simpa using hu.2 (j+1) c' (by simpa using hj)⟩ ⟨by simpa using hv.1,fun j c' hj=>by simpa using hv.2 (j+1) c' (by simpa using hj)⟩ n p hp
    ·simp at h
theorem ra{ks:List LK}{k e:V1}{x y:Value}{b:Bool}(hx:eA A U k x)(hy:eA A U e y)(h1:k.isAgg=b)(h2:e.isAgg=b)(hlen:b=false→ks.length=1)(h:bJ ks k.cells e.cells=some true)(w:World):(Instr.keyThatStays y x).run P w= .ok x w:=by
 obtain⟨us,e1,c1⟩:=fF hx;obtain⟨vs,e2,c2⟩:=fF hy;have hz:=vX h c1 c2;obtain⟨l1,l2⟩:=gG h;have hs:Instr.sameBits 10000 y x=true:=by
  rw[e1,e2,h1,h2];cases b with
  |true=>simp only[cA,if_true];show Instr.sameBits (9999+1) (.agg vs.toArray) (.agg us.toArray)=true;simp only[Instr.sameBits,Bool.and_eq_true,beq_iff_eq,List.all_eq_true];refine⟨by simp[c1.1,c2.1,l1,l2],fun p hp=>hz 9999 p (by simpa using hp)⟩
  |false=>
   have hl:=hlen rfl;have q1:us.length=1:=by rw[c1.1,l1,hl]
   have q2:vs.length=1:=by rw[c2.1,l2,hl]
   match us,vs,q1,q2 with
   | [u],[v],_,_=>simp only[cA,Bool.false_eq_true,if_false,List.headD_cons];exact hz 10000 (v,u) (by simp)
 simp[Instr.keyThatStays,hs]
theorem pB{ks:List LK}{b:Bool}{k:V1}:∀{es:List (V1×V1×Nat)}{i0 i:Nat},fS ks b k es i0=some (some i)→i0≤i∧∃e,es[i-i0]?=some e∧e.1.isAgg=b∧bJ ks k.cells e.1.cells=some true:=by
 intro es;induction es with
 |nil=>intro i0 i h;simp[fS]at h
 |cons e es ih=>
  intro i0 i h;simp only[fS]at h;split at h
  ·rename_i hb;split at h
   ·rename_i hs;cases h;exact⟨Nat.le_refl _,e,by simp,hb,hs⟩
   ·obtain⟨h1,e',h2,h3⟩:=ih h;refine⟨by omega,e',?_,h3⟩;rw[show i-i0=(i-(i0+1))+1 by omega,List.getElem?_cons_succ];exact h2
   ·simp at h
  ·simp at h
theorem gn{kt:TypeId}{ks:List LK}(hk:cF P 50 kt=some ks){b:Bool}(ha:cq P kt=some b){k:V1}{x:Value}(hx:eA A U k x)(hf:iQ ks b k=true){es:List (V1×V1×Nat)}{ys:List MapEntry}(he:ju A U es ys){r:Option Nat}(hr:fS ks b k es 0=some r):(∀em w,(Instr.checkKey em 10000 kt x).run P w= .ok () w)∧∀w,∃q,(Instr.findKey kt x ys).run P w= .ok q w∧mb ys 0 r q:=by simp only[iQ,decide_eq_true_eq]at hf;refine⟨fun em w=>?_,fun w=>qX hk ha hx hf.1 w he hr⟩;obtain⟨us,rfl,c1⟩:=fF hx;rw[hf.1];exact lp em 9950 50 kt ks w hk us b (by rw[c1.1,hf.2];omega) ha
theorem kF(hts:cx A U ts a.tmps)(hs:Sim A h U K w0 w){x:Opd}{y:Operand}(ho:aX x y=true){id:Nat}(hx:ev1 ts x=some (.mp id)){es:List (V1×V1×Nat)}{clock:Nat}(hm:h.getM id=some (.map es clock)):
  a.eval y= .map (some (A id).blk)∧∃ys:Array MapEntry,ju A U es ys.toList∧w.heap[(A id).blk]?=some (.map ys clock):=by
 obtain⟨-, -, -,o,h4,h5⟩:=hs.maps id _ hm;obtain⟨ys,rfl,he⟩:=h5.es;exact⟨(aU hts ho hx).2,ys,he,h4⟩
theorem gP{id:Nat}{ys:Array MapEntry}{clock:Nat}(h:w.heap[id]?=some (.map ys clock)):(getObj id).run P w= .ok (.map ys clock) w∧∀o,(setObj id o).run P w= .ok () {w with heap:=w.heap.setIfInBounds id o}:=⟨by simp[getObj,Sem.run,h],fun o=>by simp[setObj,Sem.run,h]⟩
theorem wQ(hs:Sim A h U K w0 w)(hts:cx A U ts a.tmps){mt kt el:TypeId}{ks:List LK}{b ok:Bool}{z:V1}{x k:Opd}{yx yk:Operand}(hop:o.op= .lookup mt yx yk ok)(hx:aX x yx=true)(hk:aX k yk=true)(ht:P.underlying mt=some (.map kt el))(hsh:cF P 50 kt=some ks)(ha:cq P kt=some b)(hz:nV P el z=true){r:V1}{f:Bool}(hr:kb ks b z x k h ts=some (r,f)):
  ∃v,(execOp a.eval o).run P w= .ok (.value v) w∧eO A U (if ok then .tup [r,.one (.bool f)]else .v r) v:=by
 obtain⟨zv,z1,z2⟩:=qM hz;have fin:∀{v:Value},eA A U r v→eO A U (if ok then .tup [r,.one (.bool f)]else .v r) (if ok then .tuple #[v,.bool f]else v):=by
  intro v hv;cases ok with
  |false=>exact hv
  |true=>exact⟨#[v,.bool f],rfl,rfl,fun j y hj=>by
    match j with
    |0=>cases hj;exact⟨v,rfl,hv⟩
    |1=>simp only[List.getElem?_cons_succ,List.getElem?_cons_zero,Option.some.injEq]at hj;subst hj;exact⟨_,rfl,rfl⟩
    |j+2=>simp at hj⟩
 unfold kb at hr;split at hr
 ·rename_i kk h1 h2;split at hr
  ·rename_i hf;cases hr;have hkv:=cX hts hk h2;have hxv:a.eval yx= .map none:=aU hts hx h1;obtain⟨c1,c2⟩:=gn (P:=P) (es:=[]) (ys:=[]) (r:=none) hsh ha hkv hf ⟨rfl,by simp⟩ rfl;obtain⟨q,q1,rfl⟩:=c2 w;refine⟨_,?_,fin (z2 A U)⟩;simp[execOp,hop,Instr.lookup,run_underlying ht,hxv,c1,q1,z1]
  ·simp at hr
 ·rename_i id kk h1 h2;split at hr
  ·rename_i es clock hm;split at hr
   ·rename_i hf;have hkv:=cX hts hk h2;obtain⟨hxv,ys,he,hw⟩:=kF (a:=a) hts hs hx h1 hm;obtain⟨g1, -⟩:=gP (P:=P) hw;split at hr
    ·rename_i i hfi;split at hr
     ·rename_i e hei;cases hr;obtain⟨c1,c2⟩:=gn (P:=P) hsh ha hkv hf he hfi;obtain⟨q,q1, -,y,q2,rfl⟩:=c2 w;obtain⟨y',e1, -,e2, -⟩:=he.2 i e hei;rw[Nat.sub_zero]at q2;rw[q2]at e1;cases e1;refine⟨_,?_,fin e2⟩;simp[execOp,hop,Instr.lookup,run_underlying ht,hxv,g1,c1,q1]
     ·simp at hr
    ·rename_i hfi;cases hr;obtain⟨c1,c2⟩:=gn (P:=P) hsh ha hkv hf he hfi;obtain⟨q,q1,rfl⟩:=c2 w;refine⟨_,?_,fin (z2 A U)⟩;simp[execOp,hop,Instr.lookup,run_underlying ht,hxv,g1,c1,q1,z1]
    ·simp at hr
   ·simp at hr
  ·simp at hr
 ·simp at hr
theorem pj(hs:Sim A h U K w0 w)(hts:cx A U ts a.tmps){mt kt el:TypeId}{ks:List LK}{b:Bool}{x k v:Opd}{yx yk yv:Operand}(hop:o.op= .mapUpdate mt yx yk yv∨o.op= .insert mt yx yk yv)(hx:aX x yx=true)(hk:aX k yk=true)(hv:aX v yv=true)(ht:P.underlying mt=some (.map kt el))(hsh:cF P 50 kt=some ks)(ha:cq P kt=some b){h':Heap}(hr:nL ks b x k v h ts=some h'):
  ∃w',(execOp a.eval o).run P w= .ok .skip w'∧Sim A h' U K w0 w':=by
 have hexec:∀{w'},(Instr.mapUpdate mt (a.eval yx) (a.eval yk) (a.eval yv)).run P w= .ok () w'→(execOp a.eval o).run P w= .ok .skip w':=by intro w' hm;rcases hop with hop|hop<;>simp[execOp,hop,hm]
 have hlen:b=false→ks.length=1:=by obtain⟨b',e1,e2, -⟩:=ke hsh;rw[ha]at e1;cases e1;exact e2
 unfold nL at hr;split at hr
 ·rename_i id kk vv h1 h2 h3;split at hr
  ·rename_i es clock hm;split at hr
   ·rename_i hf;have hkv:=cX hts hk h2;have hvv:=cX hts hv h3;obtain⟨hxv,ys,he,hw⟩:=kF (a:=a) hts hs hx h1 hm;obtain⟨g1,g2⟩:=gP (P:=P) hw;have hfb:kk.isAgg=b:=by simp only[iQ,decide_eq_true_eq]at hf;exact hf.1
    split at hr
    ·rename_i i hfi;cases hr;obtain⟨c1,c2⟩:=gn (P:=P) hsh ha hkv hf he hfi;obtain⟨q,q1, -,y,q2,rfl⟩:=c2 w;obtain⟨-,e,e1,e2,e3⟩:=pB hfi;rw[Nat.sub_zero]at q2 e1;obtain⟨y',e4,e5, -,e6⟩:=he.2 i e e1;rw[q2]at e4;cases e4;have q3:ys[i]?=some y:=by simpa using q2
     have hst:=ra (P:=P) hkv e5 hfb e2 hlen e3 w;refine⟨_,hexec (w':={w with heap:=w.heap.setIfInBounds (A id).blk (.map (ys.modify i fun e=>{e with key:=a.eval yk,val:=a.eval yv}) clock)}) ?_,hs.setObj hm (MOk.uu (nS he ?_))⟩
     ·simp[Instr.mapUpdate,run_underlying ht,hxv,g1,c1,q1,q3,hst,g2]
     ·intro e' y' h4 h5;rw[e1]at h4;cases h4;rw[q3]at h5;cases h5;exact⟨hkv,hvv,e6⟩
    ·rename_i hfi;cases hr;obtain⟨c1,c2⟩:=gn (P:=P) hsh ha hkv hf he hfi;obtain⟨q,q1,rfl⟩:=c2 w;refine⟨_,hexec (w':={w with heap:=w.heap.setIfInBounds (A id).blk (.map (ys.push {key:=a.eval yk,val:=a.eval yv,born:=clock}) (clock+1))}) ?_,hs.setObj hm (MOk.uu (xN he hkv hvv rfl))⟩;simp[Instr.mapUpdate,run_underlying ht,hxv,g1,c1,q1,g2]
    ·simp at hr
   ·simp at hr
  ·simp at hr
 ·simp at hr
theorem vQ(hs:Sim A h U K w0 w)(hts:cx A U ts a.tmps){mt kt el:TypeId}{ks:List LK}{b:Bool}{z:V1}{x k:Opd}{yx yk:Operand}(hop:o.op= .mapEntry mt yx yk)(hx:aX x yx=true)(hk:aX k yk=true)(ht:P.underlying mt=some (.map kt el))(hsh:cF P 50 kt=some ks)(ha:cq P kt=some b)(hz:nV P el z=true){h':Heap}{r:V1}{n:Nat}(hr:mB ks b z x k h ts=some (h',r,n)):
  ∃v w',(execOp a.eval o).run P w= .ok (.value v) w'∧Sim A h' U K w0 w'∧eO A U (.tup [r,.one (.int .i64 n)]) v:=by
 have hlen:b=false→ks.length=1:=by obtain⟨b',e1,e2, -⟩:=ke hsh;rw[ha]at e1;simp only[Option.some.injEq]at e1;subst e1;exact e2
 have fin:∀{v:Value},eA A U r v→eO A U (.tup [r,.one (.int .i64 n)]) (.tuple #[v,goInt n]):=by
  intro v hv;exact⟨#[v,goInt n],rfl,rfl,fun j y hj=>by
    match j with
    |0=>simp only[List.getElem?_cons_zero,Option.some.injEq]at hj;subst hj;exact⟨v,rfl,hv⟩
    |1=>simp only[List.getElem?_cons_succ,List.getElem?_cons_zero,Option.some.injEq]at hj;subst hj;exact⟨_,rfl,rfl⟩
    |j+2=>simp at hj⟩
 obtain⟨zv,z1,z2⟩:=qM hz;unfold mB at hr;split at hr
 ·rename_i id kk h1 h2;split at hr
  ·rename_i es clock hm;split at hr
   ·rename_i hf;have hkv:=cX hts hk h2;obtain⟨hxv,ys,he,hw⟩:=kF (a:=a) hts hs hx h1 hm;obtain⟨g1,g2⟩:=gP (P:=P) hw;have hfb:kk.isAgg=b:=by simp only[iQ,decide_eq_true_eq]at hf;exact hf.1
    split at hr
    ·rename_i i hfi;split at hr
     ·rename_i e hei;simp only[Option.some.injEq,Prod.mk.injEq]at hr;obtain⟨rfl,rfl,rfl⟩:=hr;obtain⟨c1,c2⟩:=gn (P:=P) hsh ha hkv hf he hfi;obtain⟨q,q1, -,y,q2,rfl⟩:=c2 w;obtain⟨-,e',e1,e2,e3⟩:=pB hfi;rw[Nat.sub_zero]at q2 e1;rw[hei]at e1;simp only[Option.some.injEq]at e1;subst e1;obtain⟨y',e4,e5,e7,e6⟩:=he.2 i e hei;rw[q2]at e4;simp only[Option.some.injEq]at e4;subst e4;have q3:ys[i]?=some y:=by simpa using q2
      have hst:=ra (P:=P) hkv e5 hfb e2 hlen e3 w;refine⟨.tuple #[y.val,goInt e.2.2],{w with heap:=w.heap.setIfInBounds (A id).blk (.map (ys.modify i fun e=>{e with key:=a.eval yk}) clock)},?_,hs.setObj hm (MOk.uu (nS he ?_)),fin e7⟩
      ·simp[execOp,hop,Instr.mapEntry,run_underlying ht,hxv,g1,c1,q1,q3,hst,g2,e6]
      ·intro e' y' h4 h5;rw[hei]at h4;simp only[Option.some.injEq]at h4;subst h4;rw[q3]at h5;simp only[Option.some.injEq]at h5;subst h5;exact⟨hkv,e7,e6⟩
     ·simp at hr
    ·rename_i hfi;simp only[Option.some.injEq,Prod.mk.injEq]at hr;obtain⟨rfl,rfl,rfl⟩:=hr;obtain⟨c1,c2⟩:=gn (P:=P) hsh ha hkv hf he hfi;obtain⟨q,q1,rfl⟩:=c2 w;refine⟨.tuple #[zv,goInt clock],{w with heap:=w.heap.setIfInBounds (A id).blk (.map (ys.push {key:=a.eval yk,val:=zv,born:=clock}) (clock+1))},?_,hs.setObj hm (MOk.uu (xN he hkv (z2 A U) rfl)),fin (z2 A U)⟩;simp[execOp,hop,Instr.mapEntry,run_underlying ht,hxv,g1,c1,q1,z1,g2]
    ·simp at hr
   ·simp at hr
  ·simp at hr
 ·simp at hr
theorem uR{n:Int}:∀{es:List (V1×V1×Nat)}{ys:List MapEntry}{i i':Nat},ju A U es ys→eG n es i'=some i→i'≤i∧ys.findIdx? (fun e=>(e.born:Int)==n)=some (i-i')∧∃e,es[i-i']?=some e:=by
 intro es;induction es with
 |nil=>intro ys i i' _ h;simp[eG]at h
 |cons e es ih=>
  intro ys i i' he h;cases ys with
  |nil=>have:=he.1;simp at this
  |cons y ys=>
   obtain⟨y',h1, -, -,h2⟩:=he.2 0 e rfl;cases h1;simp only[eG]at h;split at h
   ·rename_i hb;cases h;refine⟨Nat.le_refl _,?_,e,by simp⟩;rw[List.findIdx?_cons,h2,hb];simp
   ·rename_i hb;obtain⟨k1,k2,e',k3⟩:=ih he.tail h;refine⟨by omega,?_,e',?_⟩
    ·rw[List.findIdx?_cons,h2];simp only[hb,Bool.false_eq_true,if_false,k2,Option.map_some,Option.some.injEq];omega
    ·rw[show i-i'=(i-(i'+1))+1 by omega,List.getElem?_cons_succ];exact k3
theorem zN(hs:Sim A h U K w0 w)(hts:cx A U ts a.tmps){mt:TypeId}{x s v:Opd}{yx ys' yv:Operand}(hop:o.op= .entryStore mt yx ys' yv)(hx:aX x yx=true)(hk:aX s ys'=true)(hv:aX v yv=true){h':Heap}(hr:pP x s v h ts=some h'):
  ∃w',(execOp a.eval o).run P w= .ok .skip w'∧Sim A h' U K w0 w':=by
 unfold pP at hr;split at hr
 ·rename_i id n vv h1 h2 h3;split at hr
  ·rename_i es clock hm;split at hr
   ·rename_i i hfi;cases hr;have hvv:=cX hts hv h3;obtain⟨hxv,ys,he,hw⟩:=kF (a:=a) hts hs hx h1 hm;obtain⟨g1,g2⟩:=gP (P:=P) hw;obtain⟨-,k1,e,k2⟩:=uR he hfi;rw[Nat.sub_zero]at k1 k2;have hsv:∃q,a.eval ys'= .int q n:=by
     unfold fP at h2;split at h2
     ·rename_i q m hm';cases h2;exact⟨q,aU hts hk hm'⟩
     ·simp at h2
    obtain⟨q,hsv⟩:=hsv;have k3:ys.findIdx? (fun e=>(e.born:Int)==n)=some i:=by rw[←k1];cases ys;simp
    refine⟨{w with heap:=w.heap.setIfInBounds (A id).blk (.map (ys.modify i fun e=>{e with val:=a.eval yv}) clock)},?_,hs.setObj hm (MOk.uu (nS he ?_))⟩
    ·simp[execOp,hop,Instr.entryStore,hxv,g1,hsv,asInt,asIntOf,k3,g2]
    ·intro e' y' h4 h5;obtain⟨y,e4,e5, -,e6⟩:=he.2 i e' h4;have q3:ys[i]?=some y:=by simpa using e4
     rw[q3]at h5;cases h5;exact⟨e5,hvv,e6⟩
   ·simp at hr
  ·simp at hr
 ·simp at hr
theorem yT(hs:Sim A h U K w0 w){i:Nat}(hi:¬U i)(hf:h.get i=none){mt:TypeId}(hop:o.op= .makeMap mt none):
  ∃v w' A',(execOp a.eval o).run P w= .ok (.value v) w'∧Sim A' (h.cE i (some (.map [] 0))) (fun j=>U j∨j=i) K w0 w'∧Ext A A' U∧aw A' (fun j=>U j∨j=i) (.mp i) v:=by
 obtain⟨g1,g2⟩:=hs.newObj hi (x:=.map [] 0) (o:=.map #[] 0) ⟨#[],rfl,rfl,by simp⟩ hf;refine⟨.map (some w.heap.size),_,_,?_,g1,g2,.inr rfl,by rw[cw]⟩;simp[execOp,hop,Instr.makeMap]
theorem th(hs:Sim A h U K w0 w)(hts:cx A U ts a.tmps){i:Nat}(hi:¬U i)(hf:h.get i=none){mt kt el:TypeId}{x:Opd}{yx:Operand}(hop:o.op= .range mt yx)(hx:aX x yx=true)(ht:P.underlying mt=some (.map kt el)){q:MO}(hr:kj x h ts=some q):
  ∃v w' A',(execOp a.eval o).run P w= .ok (.value v) w'∧Sim A' (h.cE i (some q)) (fun j=>U j∨j=i) K w0 w'∧Ext A A' U∧aw A' (fun j=>U j∨j=i) (.ptr i 0) v:=by
 unfold kj at hr;split at hr
 ·rename_i id h1;split at hr
  ·rename_i es clock hm;cases hr;obtain⟨hxv,ys,he,hw⟩:=kF (a:=a) hts hs hx h1 hm;obtain⟨g1,g2⟩:=hs.newObj hi (x:=.iter id clock [] clock) (o:=.mapIter (some (A id).blk) clock #[] clock) ⟨(hs.maps id _ hm).1,rfl⟩ hf;refine⟨.pointer (some ⟨w.heap.size,0,none⟩),_,_,?_,g1,g2,.inr rfl,by simp[addrOf,cw]⟩;simp[execOp,hop,Instr.range,run_underlying ht,hxv,(gP (P:=P) hw).1]
  ·simp at hr
 ·simp at hr
theorem pZ(hts:cx A U ts a.tmps)(hs:Sim A h U K w0 w){x:Opd}{y:Operand}(ho:aX x y=true){id:Nat}(hx:ev1 ts x=some (.ptr id 0)){m since last:Nat}{seen:List Nat}(hm:h.getM id=some (.iter m since seen last)):
  a.eval y= .pointer (some ⟨(A id).blk,0,none⟩)∧w.heap[(A id).blk]?=some (.mapIter (some (A m).blk) since seen.toArray last):=by
 obtain⟨-, -,h3,o,h4, -,rfl⟩:=hs.maps id _ hm;refine⟨?_,h4⟩;rw[(aU hts ho hx).2];simp[addrOf,h3]
theorem find_born{st:Nat}:∀{es:List (V1×V1×Nat)}{ys:List MapEntry}{e:V1×V1×Nat},ju A U es ys→es.find? (fun e=>e.2.2==st)=some e→∃y,ys.find? (fun y=>y.born==st)=some y∧eA A U e.1 y.key∧eA A U e.2.1 y.val:=by
 intro es;induction es with
 |nil=>intro ys e _ h;simp at h
 |cons e0 es ih=>
  intro ys e he h;cases ys with
  |nil=>have:=he.1;simp at this
  |cons y ys=>
   obtain⟨y',h1,h2,h3,h4⟩:=he.2 0 e0 rfl;cases h1;rw[List.find?_cons]at h;rw[List.find?_cons,h4];split at h
   ·rename_i hb;cases h;exact⟨y,rfl,h2,h3⟩
   ·rename_i hb;obtain⟨z,k1,k2⟩:=ih he.tail h;exact⟨z,k1,k2⟩
theorem vB(hs:Sim A h U K w0 w)(hts:cx A U ts a.tmps){x:Opd}{yx:Operand}(hop:o.op= .entry yx)(hx:aX x yx=true){p q:V1}(hr:jW x h ts=some (p,q)):
  ∃v,(execOp a.eval o).run P w= .ok (.value v) w∧eO A U (.tup [p,q]) v:=by
 unfold jW at hr;split at hr
 ·rename_i id h1;split at hr
  ·rename_i m since seen stepped hm;split at hr
   ·rename_i es clock st hmm hst;split at hr
    ·rename_i hc;subst hc;simp only[Option.map_eq_some_iff,Prod.mk.injEq]at hr;obtain⟨e,he,rfl,rfl⟩:=hr;obtain⟨hxv,hw⟩:=pZ (a:=a) hts hs hx h1 hm;obtain⟨-, -, -,o',k4,k5⟩:=hs.maps m _ hmm;obtain⟨ys,rfl,hes⟩:=k5.es;obtain⟨y,y1,y2,y3⟩:=find_born hes he;have y1':ys.find? (fun y=>y.born==st)=some y:=by rw[←y1];cases ys;simp
     have hb:seen.toArray.back?=some st:=by simpa using hst
     have g1:(getObj (A id).blk).run P w= .ok (.mapIter (some (A m).blk) since seen.toArray clock) w:=by simp[getObj,Sem.run,hw]
     refine⟨.tuple #[y.key,y.val],?_, #[y.key,y.val],rfl,rfl,fun j z hj=>?_⟩
     ·simp[execOp,hop,Instr.entry,hxv,g1,hb,(gP (P:=P) k4).1,y1']
     ·match j with
      |0=>cases hj;exact⟨_,rfl,y2⟩
      |1=>simp only[List.getElem?_cons_succ,List.getElem?_cons_zero,Option.some.injEq]at hj;subst hj;exact⟨_,rfl,y3⟩
      |j+2=>simp at hj
    ·simp at hr
   ·simp at hr
  ·simp at hr
 ·simp at hr
theorem zR(p:Nat→Bool):∀{es:List (V1×V1×Nat)}{ys:List MapEntry},ju A U es ys→ju A U (es.filter fun e=>p e.2.2) (ys.filter fun y=>p y.born):=by
 intro es;induction es with
 |nil=>intro ys he;have:ys=[]:=List.length_eq_zero_iff.1 (by simpa using he.1);subst this;exact he
 |cons e es ih=>
  intro ys he;cases ys with
  |nil=>have:=he.1;simp at this
  |cons y ys=>
   obtain⟨y',h1,h2,h3,h4⟩:=he.2 0 e rfl;cases h1;have:=ih he.tail;simp only[List.filter_cons,h4];split
   ·refine⟨by simpa using this.1,fun j e' hj=>?_⟩;cases j with
    |zero=>cases hj;exact⟨y,rfl,h2,h3,h4⟩
    |succ j=>simpa using this.2 j e' (by simpa using hj)
   ·exact this
theorem vt(hs:Sim A h U K w0 w)(hts:cx A U ts a.tmps){x:Opd}{yx:Operand}(hop:o.op= .next yx false)(hx:aX x yx=true){l:List (CVal×Heap)}(hr:lz x h ts=some l):
  ∃r h',(r,h')∈l∧∃v w',(execOp a.eval o).run P w= .ok (.value v) w'∧Sim A h' U K w0 w'∧eO A U r v:=by
 unfold lz at hr;split at hr
 ·rename_i id h1;split at hr
  ·rename_i m since seen last hm;split at hr
   ·rename_i es clock hmm;split at hr
    ·rename_i hall;obtain⟨hxv,hw⟩:=pZ (a:=a) hts hs hx h1 hm;obtain⟨u1, -, -,o',k4,k5⟩:=hs.maps m _ hmm;obtain⟨ys,rfl,hes⟩:=k5.es;have g1:(getObj (A id).blk).run P w= .ok (.mapIter (some (A m).blk) since seen.toArray last) w:=by simp[getObj,Sem.run,hw]
     have g2:∀w1:World,w1.heap=w.heap→∀o,(setObj (A id).blk o).run P w1= .ok () {w1 with heap:=w1.heap.setIfInBounds (A id).blk o}:=fun w1 e o=>by simp[setObj,Sem.run,e,hw]
     rw[List.all_eq_true]at hall;have hborn:∀y,y∈ys.toList→y.born<since∧y.born<last:=by
      intro y hy;obtain⟨j,hj⟩:=List.mem_iff_getElem?.1 hy;have hlt:j<es.length:=by rw[←hes.1];exact(List.getElem?_eq_some_iff.1 hj).1
      obtain⟨y',e1, -, -,e2⟩:=hes.2 j _ (List.getElem?_eq_getElem hlt);rw[hj]at e1;cases e1;have:=hall _ (List.getElem_mem hlt);simp only[Bool.and_eq_true,decide_eq_true_eq]at this;rw[e2];exact this
     have hun:(!seen.toArray.isEmpty&&!ys.isEmpty&&ys.all (fun y=>decide (y.born≥last)))=false:=by
      cases hyl:ys.toList with
      |nil=>
           have:ys= #[]:=by simpa using hyl
           subst this;simp
      |cons y t=>
       have hmem:y∈ys.toList:=by rw[hyl];simp
       have:=(hborn y hmem).2;have hf:ys.all (fun y=>decide (y.born≥last))=false:=by rw[Bool.eq_false_iff];intro hc;rw[Array.all_eq_true_iff_forall_mem]at hc;have:=hc y (Array.mem_toList_iff.1 hmem);simp only[decide_eq_true_eq]at this;omega
       rw[hf];simp
     have hleft:=zR (fun n=>!seen.contains n) hes;have hold:(ys.filter fun e=>!seen.toArray.contains e.born).filter (fun e=>decide (e.born<since))=ys.filter fun e=>!seen.toArray.contains e.born:=by rw[Array.filter_eq_self];intro y hy;have:=(Array.mem_filter.1 hy).1;simp only[decide_eq_true_eq];exact(hborn y (Array.mem_toList_iff.2 this)).1
     have hnew:(ys.filter fun e=>!seen.toArray.contains e.born).filter (fun e=>decide (e.born≥since))= #[]:=by rw[Array.filter_eq_empty_iff];intro y hy;have:=(Array.mem_filter.1 hy).1;simp only[decide_eq_true_eq];have:=(hborn y (Array.mem_toList_iff.2 this)).1;omega
     have htl:(ys.filter fun e=>!seen.toArray.contains e.born).toList=ys.toList.filter fun y=>!seen.contains y.born:=by rw[Array.toList_filter];congr 1;funext y;simp
     generalize hL:(ys.filter fun e=>!seen.toArray.contains e.born)=left at hold hnew htl;rw[←htl]at hleft;split at hr
     ·rename_i he0;cases hr;rw[he0]at hleft;have:left= #[]:=by simpa using hleft.1
      subst this;refine⟨.tup [.one (.bool false)],h,by simp,.tuple #[.bool false],w,?_,hs, #[.bool false],rfl,rfl,fun j z hj=>?_⟩
      ·simp only[execOp,hop,hxv,Instr.next,g1,Sem.run_bind,Result.andThen_ok,(gP (P:=P) k4).1,hun,Bool.false_eq_true,if_false,hL,hold,hnew];simp[Question.forced]
      ·match j with
       |0=>cases hj;exact⟨_,rfl,rfl⟩
       |j+1=>simp at hj
     ·rename_i e l' hel;cases hr;rw[hel]at hleft;have hsz:left.size=l'.length+1:=by have:=hleft.1;simpa using this
      have hne:left.isEmpty=false:=by rw[Array.isEmpty_eq_false_iff];intro hc;rw[hc]at hsz;simp at hsz
      have pick:∀i,i<left.size→∀w1:World,w1=w∨w1={w with drawn:=w.drawn+1}→∃e0,e0∈e::l'∧∃v,eO A U (.tup [.one (.bool true),e0.1,e0.2.1]) v∧
        ((
         match(left.map some)[i]? with
         |some (some y)=>do setObj (A id).blk (.mapIter (some (A m).blk) since (seen.toArray.push y.born) clock);pure (.tuple #[.bool true,y.key,y.val])
         |some none=>pure (.tuple #[.bool false])
         |none=>stuck "Next: no such candidate" :Sem Value)).run P w1= .ok v {w1 with heap:=w1.heap.setIfInBounds (A id).blk (.mapIter (some (A m).blk) since (seen++[e0.2.2]).toArray clock)}:=by
       intro i hi w1 hw1;have hwh:w1.heap=w.heap:=by rcases hw1 with rfl|rfl<;>rfl
       have hlt:i< (e::l').length:=by rw[List.length_cons];omega
       obtain⟨y,y1,y2,y3,y4⟩:=hleft.2 i ((e::l')[i]'hlt) (List.getElem?_eq_getElem hlt);refine⟨(e::l')[i]'hlt,List.getElem_mem hlt,.tuple #[.bool true,y.key,y.val],⟨#[.bool true,y.key,y.val],rfl,rfl,fun j z hj=>?_⟩,?_⟩
       ·match j with
        |0=>cases hj;exact⟨_,rfl,rfl⟩
        |1=>simp only[List.getElem?_cons_succ,List.getElem?_cons_zero,Option.some.injEq]at hj;subst hj;exact⟨_,rfl,y2⟩
        |2=>simp only[List.getElem?_cons_succ,List.getElem?_cons_zero,Option.some.injEq]at hj;subst hj;exact⟨_,rfl,y3⟩
        |j+3=>simp at hj
       ·have hy:left[i]?=some y:=by simpa using y1
        have:(left.map some)[i]?=some (some y):=by simp[hy]
        rw[this];simp only[Sem.run_bind,g2 w1 hwh,Result.andThen_ok,Sem.run_pure,y4];congr 4;simp
      have fin:∀{e0:V1×V1×Nat},Sim A (h.cE id (some (.iter m since (seen++[e0.2.2]) clock))) U K w0 {w with heap:=w.heap.setIfInBounds (A id).blk (.mapIter (some (A m).blk) since (seen++[e0.2.2]).toArray clock)}:=hs.setObj hm ⟨u1,rfl⟩;have hrun:∀w1 i,(if(Question.mapNext left.size).forced then(Result.ok 0 w:Result Nat)else .ok ((Question.mapNext left.size).cut (w.tape w.drawn (.mapNext left.size))) {w with drawn:=w.drawn+1})= .ok i w1→i<left.size∧(w1=w∨w1={w with drawn:=w.drawn+1}):=by
       intro w1 i hi;split at hi
       ·simp only[Result.ok.injEq]at hi;exact⟨by omega,.inl hi.2.symm⟩
       ·simp only[Result.ok.injEq]at hi;obtain⟨e1,e2⟩:=hi;refine⟨?_,.inr e2.symm⟩;rw[←e1];exact Nat.mod_lt _ (by omega)
      obtain⟨w1,i,hi⟩:∃w1 i,(if(Question.mapNext left.size).forced then(Result.ok 0 w:Result Nat)else .ok ((Question.mapNext left.size).cut (w.tape w.drawn (.mapNext left.size))) {w with drawn:=w.drawn+1})= .ok i w1:=by
       split
       ·exact⟨_,_,rfl⟩
       ·exact⟨_,_,rfl⟩
      obtain⟨hi1,hi2⟩:=hrun w1 i hi;obtain⟨e0,m1,v,m2,m3⟩:=pick i hi1 w1 hi2;refine⟨_,_,List.mem_map.2 ⟨e0,m1,rfl⟩,v,{w1 with heap:=w1.heap.setIfInBounds (A id).blk (.mapIter (some (A m).blk) since (seen++[e0.2.2]).toArray clock)},?_,?_,m2⟩
      ·have hcand:((if left.isEmpty then #[none]else #[])++(left++ #[]).map some:Array (Option MapEntry))=left.map some:=by rw[hne];simp
       simp only[execOp,hop,hxv,Instr.next,g1,Sem.run_bind,Result.andThen_ok,(gP (P:=P) k4).1,hun,Bool.false_eq_true,if_false,hL,hold,hnew,hcand,run_choose,Array.size_map,hi];exact congrArg (fun r:Result Value=>r.andThen fun v w'=>Sem.run P (pure (Next.value v)) w') m3
      ·rcases hi2 with rfl|rfl
       ·exact fin
       ·exact(fin (e0:=e0)).drew (w.drawn+1)
    ·simp at hr
   ·simp at hr
  ·simp at hr
 ·simp at hr
def sJ(b:Blk)(i0:Nat)(lim:Option Nat):Nat:=match lim with
 |none=>b.n / b.sz-i0
 |some c=>Nat.min c (b.n / b.sz-i0)
def zb(x:Opd)(lo hi:Option Opd)(sz:Nat)(h:Heap)(ts:Ts):Option CV:=match ev1 ts x with
 |some (.sl id i0 ln lim)=>match h.get id with
  |some b=>if b.sz=sz∧sz≠0∧ln≤sJ b i0 lim then match dH ts hi ln (sJ b i0 lim)with
    |some h=>match dH ts lo 0 h with
     |some l=>some (.sl id (i0+l) (h-l) (lim.map (· -l)))
     |none=>none
    |none=>none
   else none
  |none=>none
 |_=>none
def ua(x l h m:Opd)(hp:Heap)(ts:Ts)(sz:Nat):Option CV:=match ev1 ts x,fP ts l,fP ts h,fP ts m with
 |some (.sl id i0 ln _),some lo,some hi,some mx=>match hp.get id with
  |some b=>if b.sz=sz∧0≤lo∧lo≤hi∧hi≤mx∧mx≤ln then some (.sl id (i0+lo.toNat) (hi.toNat-lo.toNat) (some (mx.toNat-lo.toNat)))else none
  |none=>none
 |some (.nils z),some 0,some 0,some 0=>some (.nils z)
 |_,_,_,_=>none
def rep(zs:List CV):Nat→List CV
 |0=>[]
 |n+1=>zs++rep zs n
def xI(zs:List CV)(x:Opd)(h:Heap)(ts:Ts):Option Heap:=match ev1 ts x with
 |some (.nils _)=>some h
 |some (.sl id i0 ln _)=>if ln=0 then some h else match h.get id with
  |some b=>if b.sz=zs.length∧(i0+ln)*zs.length≤b.n∧b.ro=false then some (h.set id (some (b.put (i0*zs.length) (rep zs ln))))else none
  |none=>none
 |_=>none
theorem yN{b:Blk}{i0:Nat}{lim:Option Nat}{nd:Nd}{c:Array Value}(hb:BlkOk A U nd b c)(hsz:b.sz≠0){cap:Nat}(hc:cap=lim.getD (nd.cap-i0)):sJ b i0 lim≤cap:=by
 have h1:=hb.known;rw[←hb.sz]at h1;have h2:b.n / b.sz≤nd.cap:=by have:=Nat.div_le_div_right (c:=b.sz) h1;rwa[Nat.mul_div_cancel _ (by omega)]at this
 unfold sJ;cases lim with
 |none=>simp only[Option.getD_none]at hc;simp only;omega
 |some k=>simp only[Option.getD_some]at hc;subst hc;exact Nat.min_le_left _ _
theorem aAx(hs:Sim A h U K w0 w)(hts:cx A U ts a.tmps){t e:TypeId}{sz:Nat}{x:Opd}{lo hi:Option Opd}{y:Operand}{l' h':Option Operand}(hop:o.op= .slice t y l' h' none)(hx:aX x y=true)(hlo:fZ lo l'=true)(hhi:fZ hi h'=true)(hu:P.underlying t=some (.slice e))(hz:cB P e=some sz){r:CV}(hr:zb x lo hi sz h ts=some r):∃v,(execOp a.eval o).run P w= .ok (.value v) w∧aw A U r v:=by
 unfold zb at hr;split at hr
 ·rename_i id i0 ln lim he;split at hr
  ·rename_i b hb;split at hr
   ·rename_i hc;obtain⟨c1,c2,c3⟩:=hc;split at hr
    ·rename_i m hm;split at hr
     ·rename_i n hn;cases hr;obtain⟨g0,off,cap,g1,g2,g3,g4,g5⟩:=aU hts hx he;obtain⟨-, -,cs,el,fr, -, -,hbk⟩:=hs.live id b hb;have hzz:(A id).sz=sz:=hbk.sz.symm.trans c1;have hk:=yN hbk (by omega) g2;obtain⟨b1,b2,b3⟩:=j9 (P:=P) (w:=w) (isS:=true) hts hlo hhi c3 hk hm hn;have hrun:(execOp a.eval o).run P w= .ok (.value (.slice (if cap=n then some off else(some off).map (·.add (n*sz))) (m-n) (cap-n))) w:=by simp[execOp,hop,g1,Instr.sliceAt,Instr.slice,run_underlying hu,b1,Tq.run_sizeOf hz]
      have hcap:cap-n=(Option.map (fun x=>x-n) lim).getD ((A id).cap-(i0+n)):=by
       cases lim with
       |none=>simp only[Option.getD_none,Option.map_none]at g2 ⊢;omega
       |some c=>simp only[Option.getD_some,Option.map_some]at g2 ⊢;omega
      refine⟨_,hrun,g0,?_⟩;by_cases hcn:cap=n
      ·rw[if_pos hcn];exact⟨off,cap-n,rfl,hcap,by omega,by omega,fun hne=>by omega⟩
      ·rw[if_neg hcn];refine⟨_,cap-n,rfl,hcap,by omega,by omega,fun _=>?_⟩;rw[g5 (by omega)];simp only[Addr.add_lit,hzz,Nat.add_mul];congr 1;omega
     ·simp at hr
    ·simp at hr
   ·simp at hr
  ·simp at hr
 ·simp at hr
theorem xY(hs:Sim A h U K w0 w)(hts:cx A U ts a.tmps){t e:TypeId}{sz:Nat}{x l m n:Opd}{y yl ym yn:Operand}(hop:o.op= .slice t y (some yl) (some ym) (some yn))(hx:aX x y=true)(hl:aX l yl=true)(hm:aX m ym=true)(hn:aX n yn=true)(hu:P.underlying t=some (.slice e))(hz:cB P e=some sz){r:CV}(hr:ua x l m n h ts sz=some r):∃v,(execOp a.eval o).run P w= .ok (.value v) w∧aw A U r v:=by
 have key:∀ad ln cap(p q s:Nat),a.eval y= .slice ad ln cap→(∃k,a.eval yl= .int k p)→(∃k,a.eval ym= .int k q)→(∃k,a.eval yn= .int k s)→p≤q→q≤s→s≤cap→
   (execOp a.eval o).run P w= .ok (.value (.slice (if s=p then ad else ad.map (·.add (p*sz))) (q-p) (s-p))) w:=by
  rintro ad ln cap p q s hv ⟨k1,e1⟩ ⟨k2,e2⟩ ⟨k3,e3⟩ h1 h2 h3;simp[execOp,hop,hv,e1,e2,e3,Instr.sliceAt,Instr.slice,Instr.sliceBounds,Instr.sliceBound,asIntOf,run_underlying hu,Tq.run_sizeOf hz,h1,h2,h3]
 unfold ua at hr;split at hr
 ·rename_i id i0 ln lim lo hi mx he e1 e2 e3;split at hr
  ·rename_i b hb;split at hr
   ·rename_i hc;obtain⟨c1,c2,c3,c4,c5⟩:=hc;cases hr;obtain⟨g0,off,cap,g1,g2,g3,g4,g5⟩:=aU hts hx he;obtain⟨-, -,cs,el,fr, -, -,hbk⟩:=hs.live id b hb;have hzz:(A id).sz=sz:=hbk.sz.symm.trans c1;obtain⟨k1,q1⟩:=cZ hts hl e1;obtain⟨k2,q2⟩:=cZ hts hm e2;obtain⟨k3,q3⟩:=cZ hts hn e3;have hrun:=key _ _ _ lo.toNat hi.toNat mx.toNat g1 ⟨k1,by rw[q1];congr 1;omega⟩ ⟨k2,by rw[q2];congr 1;omega⟩ ⟨k3,by rw[q3];congr 1;omega⟩ (by omega) (by omega) (by omega);refine⟨_,hrun,g0,?_⟩;by_cases hcn:mx.toNat=lo.toNat
    ·rw[if_pos hcn];exact⟨off,mx.toNat-lo.toNat,rfl,rfl,by omega,by omega,fun hne=>by omega⟩
    ·rw[if_neg hcn];refine⟨_,mx.toNat-lo.toNat,rfl,rfl,by omega,by omega,fun _=>?_⟩;rw[g5 (by omega)];simp only[Addr.add_lit,hzz,Nat.add_mul];congr 1;omega
   ·simp at hr
  ·simp at hr
 ·rename_i z he e1 e2 e3;cases hr;have hv:=aU hts hx he;simp only[aw]at hv;obtain⟨k1,q1⟩:=cZ hts hl e1;obtain⟨k2,q2⟩:=cZ hts hm e2;obtain⟨k3,q3⟩:=cZ hts hn e3;have hrun:=key none 0 0 0 0 0 hv ⟨k1,q1⟩ ⟨k2,q2⟩ ⟨k3,q3⟩ (Nat.le_refl _) (Nat.le_refl _) (Nat.le_refl _);exact⟨_,hrun,by simp[aw]⟩
 ·simp at hr
theorem lZ(zs:List CV)(n:Nat):(rep zs n).length=n*zs.length:=by
 induction n with
 |zero=>simp[rep]
 |succ n ih=>simp[rep,ih,Nat.add_mul,Nat.add_comm]
theorem aCP{zs:List CV}:∀{n j:Nat}{c:CV},(rep zs n)[j]?=some c→zs[j % zs.length]?=some c:=by
 intro n;induction n with
 |zero=>intro j c h;simp[rep]at h
 |succ n ih=>
  intro j c h;simp only[rep]at h;rw[List.getElem?_append]at h;split at h
  ·rename_i hlt;rw[Nat.mod_eq_of_lt hlt];exact h
  ·rename_i hge;have:=ih h;rwa[show j % zs.length=(j-zs.length) % zs.length from Nat.mod_eq_sub_mod (by omega)]
theorem xv(hs:Sim A h U K w0 w)(hts:cx A U ts a.tmps){t e:TypeId}{zs:List CV}{x:Opd}{y:Operand}(hop:o.op= .call ⟨.builtin .clear, #[y], #[t]⟩)(hx:aX x y=true)(hu:P.underlying t=some (.slice e))(hz:jr P e zs=true)(hz0:zs.length≠0){h':Heap}(hr:xI zs x h ts=some h'):∃w',(execOp a.eval o).run P w= .ok (.value (.tuple #[])) w'∧Sim A h' U K w0 w':=by
 unfold xI at hr;split at hr
 ·rename_i z he;cases hr;have hv:=aU hts hx he;simp only[aw]at hv;exact⟨w,by simp[execOp,hop,resolve,invoke,builtin,Builtin.clear_,run_underlying hu,hv],hs⟩
 ·rename_i id i0 ln lim he;obtain⟨g0,off,cap,g1,g2,g3,g4,g5⟩:=aU hts hx he;split at hr
  ·rename_i hln;cases hr;subst hln;exact⟨w,by simp[execOp,hop,resolve,invoke,builtin,Builtin.clear_,run_underlying hu,g1],hs⟩
  ·rename_i hln;split at hr
   ·rename_i b hb;split at hr
    ·rename_i hc;obtain⟨c1,c2,hro⟩:=hc;cases hr;obtain⟨-, -,cs,el,fr, -, -,hbk⟩:=hs.live id b hb;have hzz:(A id).sz=zs.length:=hbk.sz.symm.trans c1;have e1:=g5 (by omega);rw[hzz]at e1;subst e1;obtain⟨z,z1,z2, -⟩:=gj hz;obtain⟨y1,y2⟩:=kM z2;have hzs:z.cells.size=zs.length:=by rw[←Array.length_toList,←y1]
     have hsize:(Builtin.zeroCells z.cells ln).toList.length=(rep zs ln).length:=by simp[Builtin.zeroCells,lZ,hzs]
     have hvals:∀(j:Nat) c,(rep zs ln)[j]?=some c→∃u,(Builtin.zeroCells z.cells ln).toList[j]?=some u∧aw A U c u:=by
      intro j c hj;have hlt:j<ln*zs.length:=by rw[←lZ];exact(List.getElem?_eq_some_iff.1 hj).1
      obtain⟨u,u1,u2⟩:=y2 _ _ (aCP hj);refine⟨u,?_,my u2⟩;have hm:j % zs.length<z.cells.size:=by rw[hzs];exact Nat.mod_lt _ (by omega)
      have u1':z.cells[j % zs.length]?=some u:=by simpa using u1
      simp only[Builtin.zeroCells,Array.toList_map,Array.toList_range,List.getElem?_map,hzs];rw[List.getElem?_range hlt];simp only[Option.map_some,Option.some.injEq];rw[getElem!_def,u1']
     have hle:i0*zs.length+(rep zs ln).length≤b.n:=by rw[lZ,←Nat.add_mul];exact c2
     have hst:=mG (P:=P) hs hb hro (off:=i0*zs.length) hle hsize hvals;have hset:=hs.aCp hb hro (off:=i0*zs.length) hle hsize hvals;refine⟨_,?_,hset⟩;unfold addrOf at hst;have hcl:(Builtin.clear_ #[t] o.type #[a.eval y]).run P w= .ok (.tuple #[]) (Tq.cS (A id).blk ((A id).off+i0*zs.length) (Builtin.zeroCells z.cells ln).toList w):=by
      rw[g1];cases ln with
      |zero=>exact(hln rfl).elim
      |succ ln=>simp[Builtin.clear_,run_underlying hu,z1,hst]
     simp[execOp,hop,resolve,invoke,builtin,hcl]
    ·simp at hr
   ·simp at hr
 ·simp at hr
end
inductive MOp where
 |mk
 |look (ok:Bool) (ks:List LK) (b:Bool) (z:V1) (x k:Opd)
 |set (ks:List LK) (b:Bool) (x k v:Opd)
 |ent (ks:List LK) (b:Bool) (z:V1) (x k:Opd)
 |est (x s v:Opd)
 |rng (x:Opd)
 |ety (x:Opd)
 |rs (x:Opd) (lo hi:Option Opd) (sz:Nat)
 |sl3 (x l h m:Opd) (sz:Nat)
 |clr (zs:List CV) (x:Opd)
def MOp.ev(i:Nat)(h:Heap)(ts:Ts):MOp→Option (CVal×Heap)
 |.mk=>some (.v (.one (.mp i)),h.cE i (some (.map [] 0)))
 |.look ok ks b z x k=>match kb ks b z x k h ts with
  |some (r,f)=>some (if ok then .tup [r,.one (.bool f)]else .v r,h)
  |none=>none
 |.set ks b x k v=>match nL ks b x k v h ts with
  |some h'=>some (.gone,h')
  |none=>none
 |.ent ks b z x k=>match mB ks b z x k h ts with
  |some (h',r,n)=>some (.tup [r,.one (.int .i64 n)],h')
  |none=>none
 |.est x s v=>match pP x s v h ts with
  |some h'=>some (.gone,h')
  |none=>none
 |.rng x=>match kj x h ts with
  |some q=>some (.v (.one (.ptr i 0)),h.cE i (some q))
  |none=>none
 |.ety x=>match jW x h ts with
  |some (p,q)=>some (.tup [p,q],h)
  |none=>none
 |.rs x lo hi sz=>match zb x lo hi sz h ts with
  |some r=>some (.v (.one r),h)
  |none=>none
 |.sl3 x l m n sz=>match ua x l m n h ts sz with
  |some r=>some (.v (.one r),h)
  |none=>none
 |.clr zs x=>match xI zs x h ts with
  |some h'=>some (.tup [],h')
  |none=>none
def qv(P:Program)(mt:TypeId)(ks:List LK)(b:Bool)(z:Option V1):Bool:=match P.underlying mt with
 |some (.map kt el)=>decide (cF P 50 kt=some ks)&&cq P kt==some b&&(match z with|some z=>nV P el z|none=>true)
 |_=>false
def MOp.ok(P:Program)(f:MOp)(op:Op):Bool:=match f with
 |.mk=>match op with
  |.makeMap _ none=>true
  |_=>false
 |.look ok ks b z x k=>match op with
  |.lookup mt x' k' ok'=>ok==ok'&&aX x x'&&aX k k'&&qv P mt ks b (some z)
  |_=>false
 |.set ks b x k v=>match op with
  |.mapUpdate mt x' k' v'=>aX x x'&&aX k k'&&aX v v'&&qv P mt ks b none
  |.insert mt x' k' v'=>aX x x'&&aX k k'&&aX v v'&&qv P mt ks b none
  |_=>false
 |.ent ks b z x k=>match op with
  |.mapEntry mt x' k'=>aX x x'&&aX k k'&&qv P mt ks b (some z)
  |_=>false
 |.est x s v=>match op with
  |.entryStore _ x' s' v'=>aX x x'&&aX s s'&&aX v v'
  |_=>false
 |.rng x=>match op with
  |.range mt x'=>aX x x'&&(match P.underlying mt with|some (.map _ _)=>true|_=>false)
  |_=>false
 |.ety x=>match op with
  |.entry x'=>aX x x'
  |_=>false
 |.rs x lo hi sz=>match op with
  |.slice t a l h none=>aX x a&&fZ lo l&&fZ hi h&&(match P.underlying t with|some (.slice e)=>cB P e==some sz|_=>false)
  |_=>false
 |.sl3 x l m n sz=>match op with
  |.slice t a (some l') (some m') (some n')=>aX x a&&aX l l'&&aX m m'&&aX n n'&&(match P.underlying t with|some (.slice e)=>cB P e==some sz|_=>false)
  |_=>false
 |.clr zs x=>match Tq.isBuiltin .clear op with
  |some ([y],[t])=>aX x y&&zs.length != 0&&(match P.underlying t with|some (.slice e)=>jr P e zs|_=>false)
  |_=>false
section
variable{P:Program}{a:Act}{o:Oper}{w w0:World}{A:Nat→Nd}{U K:Nat→Prop}{ts:Ts}{h:Heap}
theorem iS{mt:TypeId}{ks:List LK}{b:Bool}{z:Option V1}(h:qv P mt ks b z=true):∃kt el,P.underlying mt=some (.map kt el)∧cF P 50 kt=some ks∧cq P kt=some b∧∀y,z=some y→nV P el y=true:=by
 unfold qv at h;split at h
 ·rename_i kt el hu;simp only[Bool.and_eq_true,decide_eq_true_eq,beq_iff_eq]at h;refine⟨kt,el,hu,h.1.1,h.1.2,fun y hy=>?_⟩;subst hy;exact h.2
 ·simp at h
theorem MOp.sound(hs:Sim A h U K w0 w)(hts:cx A U ts a.tmps){i:Nat}(hi:¬U i){f:MOp}(hok:f.ok P o.op=true){r:CVal}{h':Heap}(hr:f.ev i h ts=some (r,h')):
  ∃v w' A' U',((execOp a.eval o).run P w= .ok (.value v) w'∧eO A' U' r v∨(execOp a.eval o).run P w= .ok .skip w'∧r= .gone)∧Sim A' h' U' K w0 w'∧Ext A A' U∧(∀id,U id→U' id)∧(∀id,U' id→U id∨id=i):=by
 have hf:h.get i=none:=by
  cases hg:h.get i with
  |none=>rfl
  |some b=>exact absurd (hs.live i b hg).1 hi
 have same:∀{v w'},(execOp a.eval o).run P w= .ok (.value v) w'→Sim A h' U K w0 w'→eO A U r v→
   ∃v w' A' U',((execOp a.eval o).run P w= .ok (.value v) w'∧eO A' U' r v∨(execOp a.eval o).run P w= .ok .skip w'∧r= .gone)∧Sim A' h' U' K w0 w'∧Ext A A' U∧(∀id,U id→U' id)∧(∀id,U' id→U id∨id=i):=
  fun h1 h2 h3=>⟨_,_,A,U,.inl ⟨h1,h3⟩,h2,Ext.refl A U,fun _ h=>h,fun _ h=>.inl h⟩
 have skip:∀{w'},(execOp a.eval o).run P w= .ok .skip w'→r= .gone→Sim A h' U K w0 w'→
   ∃v w' A' U',((execOp a.eval o).run P w= .ok (.value v) w'∧eO A' U' r v∨(execOp a.eval o).run P w= .ok .skip w'∧r= .gone)∧Sim A' h' U' K w0 w'∧Ext A A' U∧(∀id,U id→U' id)∧(∀id,U' id→U id∨id=i):=
  fun h1 h2 h3=>⟨undef,_,A,U,.inr ⟨h1,h2⟩,h3,Ext.refl A U,fun _ h=>h,fun _ h=>.inl h⟩
 cases f with
 |mk=>
  simp only[MOp.ok]at hok;split at hok
  ·rename_i mt hop;simp only[MOp.ev,Option.some.injEq,Prod.mk.injEq]at hr;obtain⟨rfl,rfl⟩:=hr;obtain⟨v,w',A',g1,g2,g3,g4⟩:=yT (P:=P) hs hi hf hop;exact⟨v,w',A',fun j=>U j∨j=i,.inl ⟨g1,g4⟩,g2,g3,fun _ h=>.inl h,fun _ h=>h⟩
  ·simp at hok
 |look ok ks b z x k=>
  simp only[MOp.ok]at hok;split at hok
  ·rename_i mt x' k' ok' hop;simp only[Bool.and_eq_true,beq_iff_eq]at hok;obtain⟨⟨⟨rfl,h1⟩,h2⟩,h3⟩:=hok;obtain⟨kt,el,k1,k2,k3,k4⟩:=iS h3;simp only[MOp.ev]at hr;split at hr
   ·rename_i r' f' hl;cases hr;obtain⟨v,g1,g2⟩:=wQ hs hts hop h1 h2 k1 k2 k3 (k4 _ rfl) hl;exact same g1 hs g2
   ·simp at hr
  ·simp at hok
 |set ks b x k v=>
  simp only[MOp.ev]at hr;split at hr
  ·rename_i h1 hl;cases hr;simp only[MOp.ok]at hok;split at hok
   ·rename_i mt x' k' v' hop;simp only[Bool.and_eq_true]at hok;obtain⟨⟨⟨h1,h2⟩,h3⟩,h4⟩:=hok;obtain⟨kt,el,k1,k2,k3,k4⟩:=iS h4;obtain⟨w',g1,g2⟩:=pj hs hts (.inl hop) h1 h2 h3 k1 k2 k3 hl;exact skip g1 rfl g2
   ·rename_i mt x' k' v' hop;simp only[Bool.and_eq_true]at hok;obtain⟨⟨⟨h1,h2⟩,h3⟩,h4⟩:=hok;obtain⟨kt,el,k1,k2,k3,k4⟩:=iS h4;obtain⟨w',g1,g2⟩:=pj hs hts (.inr hop) h1 h2 h3 k1 k2 k3 hl;exact skip g1 rfl g2
   ·simp at hok
  ·simp at hr
 |ent ks b z x k=>
  simp only[MOp.ok]at hok;split at hok
  ·rename_i mt x' k' hop;simp only[Bool.and_eq_true]at hok;obtain⟨⟨h1,h2⟩,h3⟩:=hok;obtain⟨kt,el,k1,k2,k3,k4⟩:=iS h3;simp only[MOp.ev]at hr;split at hr
   ·rename_i h1' r' n hl;cases hr;obtain⟨v,w',g1,g2,g3⟩:=vQ hs hts hop h1 h2 k1 k2 k3 (k4 _ rfl) hl;exact same g1 g2 g3
   ·simp at hr
  ·simp at hok
 |est x s v=>
  simp only[MOp.ok]at hok;split at hok
  ·rename_i mt x' k' v' hop;simp only[Bool.and_eq_true]at hok;obtain⟨⟨h1,h2⟩,h3⟩:=hok;simp only[MOp.ev]at hr;split at hr
   ·rename_i h1' hl;cases hr;obtain⟨w',g1,g2⟩:=zN (P:=P) hs hts hop h1 h2 h3 hl;exact skip g1 rfl g2
   ·simp at hr
  ·simp at hok
 |rng x=>
  simp only[MOp.ok]at hok;split at hok
  ·rename_i mt x' hop;simp only[Bool.and_eq_true]at hok;obtain⟨h1,h2⟩:=hok;split at h2
   ·rename_i kt el hu;simp only[MOp.ev]at hr;split at hr
    ·rename_i q hl;cases hr;obtain⟨v,w',A',g1,g2,g3,g4⟩:=th hs hts hi hf hop h1 hu hl;exact⟨v,w',A',fun j=>U j∨j=i,.inl ⟨g1,g4⟩,g2,g3,fun _ h=>.inl h,fun _ h=>h⟩
    ·simp at hr
   ·simp at h2
  ·simp at hok
 |ety x=>
  simp only[MOp.ok]at hok;split at hok
  ·rename_i x' hop;simp only[MOp.ev]at hr;split at hr
   ·rename_i p q hl;cases hr;obtain⟨v,g1,g2⟩:=vB (P:=P) hs hts hop hok hl;exact same g1 hs g2
   ·simp at hr
  ·simp at hok
 |rs x lo hi sz=>
  simp only[MOp.ok]at hok;split at hok
  ·rename_i t y l' h2 hop;simp only[Bool.and_eq_true]at hok;obtain⟨⟨⟨k1,k2⟩,k3⟩,k4⟩:=hok;split at k4
   ·rename_i e hu;simp only[beq_iff_eq]at k4;simp only[MOp.ev]at hr;split at hr
    ·rename_i r' hl;cases hr;obtain⟨v,g1,g2⟩:=aAx (P:=P) hs hts hop k1 k2 k3 hu k4 hl;exact same g1 hs g2
    ·simp at hr
   ·simp at k4
  ·simp at hok
 |sl3 x l m n sz=>
  simp only[MOp.ok]at hok;split at hok
  ·rename_i t y l' m' n' hop;simp only[Bool.and_eq_true]at hok;obtain⟨⟨⟨⟨k1,k2⟩,k3⟩,k4⟩,k5⟩:=hok;split at k5
   ·rename_i e hu;simp only[beq_iff_eq]at k5;simp only[MOp.ev]at hr;split at hr
    ·rename_i r' hl;cases hr;obtain⟨v,g1,g2⟩:=xY (P:=P) hs hts hop k1 k2 k3 k4 hu k5 hl;exact same g1 hs g2
    ·simp at hr
   ·simp at k5
  ·simp at hok
 |clr zs x=>
  simp only[MOp.ok]at hok;split at hok
  ·rename_i y t hop;simp only[Bool.and_eq_true,bne_iff_ne]at hok;obtain⟨⟨k1,k2⟩,k3⟩:=hok;split at k3
   ·rename_i e hu;simp only[MOp.ev]at hr;split at hr
    ·rename_i h2 hl;cases hr;obtain⟨w',g1,g2⟩:=xv (P:=P) hs hts (Tq.bp hop) k1 hu k3 k2 hl;exact same g1 g2 ⟨#[],rfl,rfl,by simp⟩
    ·simp at hr
   ·simp at k3
  ·simp at hok
end
end Go.Cq
namespace Go.Cq
open Go.RowKit
open Go.Tq (cB cq gl isBuiltin bp)
def Liv(A:Nat→Nd)(h:Heap):Nat→Prop:=fun b=>(∃id blk,h.get id=some blk∧blk.ro=false∧(A id).blk=b)∨∃id x,h.getM id=some x∧(A id).blk=b
section
variable{P:Program}{a:Act}{o:Oper}{w w0:World}{A:Nat→Nd}{U K:Nat→Prop}{ts:Ts}{h:Heap}
theorem Sim.start(hs:Sim A h U K w0 w):Sim A h U (Liv A h) w w where
 os:=rfl
 tape:=rfl
 output:=rfl
 size:=Nat.le_refl _
 old _ _ _:=rfl
 live id b hb:=let⟨h1,_,h3⟩:=hs.live id b hb;⟨h1,fun hro=>.inr (.inl ⟨id,b,hb,hro,rfl⟩),h3⟩
 inj:=hs.inj
 maps id x hx:=let⟨h1,_,h3⟩:=hs.maps id x hx;⟨h1,.inr (.inr ⟨id,x,hx,rfl⟩),h3⟩
 minj:=hs.minj
 vw:=⟨hs.vw.1,Nat.le_trans hs.vw.2.1 hs.size,hs.vw.2.2⟩
theorem Sim.aAo(hs:Sim A h U K w0 w){b:Nat}(h2:w.heap.size≤b∨Liv A h b):w0.heap.size≤b∨K b:=by
 rcases h2 with h2| ⟨id',b',h4,hro,h5⟩| ⟨id',x',h4,h5⟩
 ·exact .inl (Nat.le_trans hs.size h2)
 ·obtain⟨-,h6, -⟩:=hs.live id' b' h4;rw[h5]at h6;exact h6 hro
 ·obtain⟨-,h6, -⟩:=hs.maps id' x' h4;rw[h5]at h6;exact h6
theorem Sim.back(hs:Sim A h U K w0 w){A':Nat→Nd}{h':Heap}{U':Nat→Prop}{w':World}(hc:Sim A' h' U' (Liv A h) w w')(hext:Ext A A' U):Sim A' h' U' K w0 w' where
 os:=hc.os.trans hs.os
 tape:=hc.tape.trans hs.tape
 output:=hc.output.trans hs.output
 size:=Nat.le_trans hs.size hc.size
 old b hb hK:=by
  rw[hc.old b (Nat.lt_of_lt_of_le hb hs.size) ?_]
  ·exact hs.old b hb hK
  ·rintro(⟨id,blk,h1,hro,h2⟩| ⟨id,x,h1,h2⟩)
   ·obtain⟨-,h3, -⟩:=hs.live id blk h1;rw[h2]at h3;have h3:=h3 hro;rcases h3 with h3|h3
    ·omega
    ·exact hK h3
   ·obtain⟨-,h3, -⟩:=hs.maps id x h1;rw[h2]at h3;rcases h3 with h3|h3
    ·omega
    ·exact hK h3
 live id b hb:=by obtain⟨h1,h2,h3⟩:=hc.live id b hb;exact⟨h1,fun hro=>hs.aAo (h2 hro),h3⟩
 inj:=hc.inj
 maps id x hx:=by obtain⟨h1,h2,h3⟩:=hc.maps id x hx;exact⟨h1,hs.aAo h2,h3⟩
 minj:=hc.minj
 vw:=⟨hc.vw.1,by rw[hext 0 hs.vw.1];exact hs.vw.2.1,hc.vw.2.2⟩
structure Post(new:Nat→Prop)(A:Nat→Nd)(h:Heap)(U:Nat→Prop)(w:World)(A':Nat→Nd)(h':Heap)(U':Nat→Prop)(w':World):Prop where
 sim:Sim A' h' U' (Liv A h) w w'
 ext:Ext A A' U
 sub:∀id,U id→U' id
 new:∀id,U' id→U id∨new id
def Callee(P:Program)(f:FuncId):Prop:=∃fn,P.funcs[f]?=some fn∧(fn.name== "runtime.NumGoroutine")=false∧fn.body.isNone=false
def FOk(P:Program)(f:FuncId)(args:List V1)(h:Heap)(c:Nat)(r:CVal)(h':Heap)(c':Nat):Prop:=
 Callee P f∧c≤c'∧∀A U w(vs:Array Value),Sim A h U (Liv A h) w w→(∀id,c≤id→¬U id)→vs.size=args.length→(∀(j:Nat) x,args[j]?=some x→∃v,vs[j]?=some v∧eA A U x v)→
  Calls P f vs w fun e w'=>∃v A' U',e= .returned v∧Post (fun id=>c≤id∧id<c') A h U w A' h' U' w'∧eO A' U' r v
abbrev cN:=FuncId→List V1→Heap→Nat→Option (CVal×Heap×Nat)
def gW(P:Program)(cl:cN):Prop:=∀f args h c r h' c',cl f args h c=some (r,h',c')→FOk P f args h c r h' c'
inductive COp where
 |fl (x:FOp)
 |build (zs:List CV) (ps:List Part)
 |nw (x:NOp)
 |store (n:Nat) (x v:Opd)
 |app (zs:List CV) (bytes:Nat) (x y:Opd)
 |call (f:FuncId) (args:List Opd)
 |callv (x:Opd) (args:List Opd)
 |ext (t j:Nat)
 |mkf (f:FuncId) (caps:List Opd)
 |cp (t:Nat)
 |cpy (sz:Nat) (x y:Opd)
 |bs (x:Opd)
 |eqA (neg:Bool) (ks:List LK) (x y:Opd)
 |mm (mx:Bool) (x y:Opd)
 |fld (x:Opd) (off:Nat) (n:Option Nat)
 |mop (x:MOp)
 |bad
def iA(ts:Ts):List Opd→Option (List V1)
 | []=>some []
 |x::l=>match evO ts x with
  |some r=>match iA ts l with
   |some rs=>some (r::rs)
   |none=>none
  |none=>none
def i5(ts:Ts):List Opd→Option (List (Nat×Nat))
 | []=>some []
 |x::l=>match ev1 ts x with
  |some (.ptr id off)=>match i5 ts l with
   |some rs=>some ((id,off)::rs)
   |none=>none
  |_=>none
def COp.ev(cl:cN)(i c:Nat)(h:Heap)(ts:Ts):COp→Option (CVal×Heap×Nat)
 |.fl x=>match x.ev h ts with
  |some r=>some (.v r,h,c)
  |none=>none
 |.build zs ps=>match kJ ts ps zs with
  |some cs=>some (.v (.agg cs),h,c)
  |none=>none
 |.nw x=>match x.ev ts i with
  |some (b,r)=>some (.v (.one r),h.set i (some b),c)
  |none=>none
 |.store n x v=>match j6 n x v h ts with
  |some h'=>some (.gone,h',c)
  |none=>none
 |.app zs bytes x y=>match dM zs.length bytes x y i h ts with
  |some (h',r)=>some (.v (.one r),h',c)
  |none=>none
 |.call f args=>match iA ts args with
  |some l=>cl f l h c
  |none=>none
 |.callv x args=>match ev1 ts x,iA ts args with
  |some (.fn f caps),some l=>cl f (l++caps.map fun p=>.one (.ptr p.1 p.2)) h c
  |_,_=>none
 |.ext t j=>match look ts t with
  |some (.tup l)=>match l[j]? with
   |some r=>some (.v r,h,c)
   |none=>none
  |_=>none
 |.mkf f caps=>match i5 ts caps with
  |some l=>some (.v (.one (.fn f l)),h,c)
  |none=>none
 |.cp t=>match look ts t with
  |some x=>some (x,h,c)
  |none=>none
 |.cpy sz x y=>match sq sz x y h ts with
  |some (h',r)=>some (.v (.one r),h',c)
  |none=>none
 |.bs x=>match b2s x h ts with
  |some r=>some (.v (.one r),h,c)
  |none=>none
 |.eqA neg ks x y=>match iT ts x,iT ts y with
  |some p,some q=>match bJ ks p q with
   |some r=>some (.v (.one (.bool (if neg then !r else r))),h,c)
   |none=>none
  |_,_=>none
 |.mm mx x y=>match ev1 ts x,ev1 ts y with
  |some p,some q=>match v7 mx p q with
   |some r=>some (.v (.one r),h,c)
   |none=>none
  |_,_=>none
 |.fld x off n=>match iT ts x with
  |some cs=>match rO n off cs with
   |some r=>some (.v r,h,c)
   |none=>none
  |none=>none
 |.mop x=>match x.ev i h ts with
  |some (r,h')=>some (r,h',c)
  |none=>none
 |.bad=>none
def gS:List Opd→List Operand→Bool
 | [],[]=>true
 |x::l,y::l'=>aX x y&&gS l l'
 |_,_=>false
def COp.ok(P:Program)(f:COp)(op:Op):Bool:=match f with
 |.fl x=>x.ok P op
 |.build zs ps=>match op with
  |.build t qs=>jr P t zs&&(match o5 P t with|some pl=>fA pl ps qs.toList|none=>false)
  |_=>false
 |.nw x=>x.ok P op
 |.store n x v=>match op with
  |.store t x' v'=>aX x x'&&aX v v'&&cB P t==some n
  |_=>false
 |.app zs bytes x y=>match isBuiltin .append op with
  |some ([x',y'],[t,t'])=>t==t'&&aX x x'&&aX y y'&&zs.length != 0&&(match P.underlying t with|some (.slice e)=>jr P e zs&&cB P e==some zs.length&&(P.info? e).map (·.bytes)==some bytes|_=>false)
  |_=>false
 |.call f args=>match op with
  |.call c=>(match c.callee with|.value (.func g)=>f==g|_=>false)&&gS args c.args.toList
  |_=>false
 |.callv x args=>match op with
  |.call c=>(match c.callee with|.value y=>aX x y|_=>false)&&gS args c.args.toList
  |_=>false
 |.ext t j=>match op with
  |.extract (.tmp t') j'=>t==t'&&j==j'
  |_=>false
 |.mkf f caps=>match op with
  |.makeFunc (.func g) first cs=>f==g&&first.isEmpty&&gS caps cs.toList
  |_=>false
 |.cp t=>match op with
  |.move (.tmp t')=>t==t'
  |.assign (.tmp t')=>t==t'
  |_=>false
 |.bs x=>match op with
  |.convert src dst y=>aX x y&&(match P.underlying src,P.underlying dst with
   |some (.slice e),some .string=>(match P.underlying e with|some (.int .u8)=>true|_=>false)
   |_,_=>false)
  |_=>false
 |.eqA neg ks x y=>match op with
  |.binOp op' t x' y' _=>op'==(if neg then .neq else .eql)&&aX x x'&&aX y y'&&decide (cF P 50 t=some ks)&&cq P t==some true&&!P.eqGuardType P.depth t
  |_=>false
 |.mm mx x y=>match isBuiltin (if mx then .max else .min) op with
  |some ([x',y'],_)=>aX x x'&&aX y y'
  |_=>false
 |.fld x off n=>match op with
  |.field t y f=>aX x y&&(match P.underlying t with
   |some (.struct fs)=>(match fs[f]? with
    |some fd=>fd.offset==off&&(match n with
     |none=>cq P fd.type==some false
     |some n=>cq P fd.type==some true&&cB P fd.type==some n)
    |none=>false)
   |_=>false)
  |_=>false
 |.mop x=>x.ok P op
 |.bad=>true
 |.cpy sz x y=>match isBuiltin .copy op with
  |some ([x',y'],[t,t'])=>t==t'&&aX x x'&&aX y y'&&(match P.underlying t with|some (.slice e)=>cB P e==some sz|_=>false)
  |_=>false
theorem nA(hts:cx A U ts a.tmps):∀{xs:List Opd}{ys:List Operand}{l:List V1},gS xs ys=true→iA ts xs=some l→(ys.map a.eval).length=l.length∧∀(j:Nat) x,l[j]?=some x→∃v,(ys.map a.eval)[j]?=some v∧eA A U x v:=by
 intro xs;induction xs with
 |nil=>
  intro ys l ho he;cases ys with
  |nil=>simp only[iA,Option.some.injEq]at he;subst he;exact⟨rfl,by simp⟩
  |cons y t=>simp[gS]at ho
 |cons x t ih=>
  intro ys l ho he;cases ys with
  |nil=>simp[gS]at ho
  |cons y t'=>
   simp only[gS,Bool.and_eq_true]at ho;simp only[iA]at he;split at he
   ·rename_i r hr;split at he
    ·rename_i rs hrs;cases he;obtain⟨g1,g2⟩:=ih ho.2 hrs;refine⟨by simpa using g1,fun j x' hj=>?_⟩;cases j with
     |zero=>cases hj;exact⟨_,rfl,cX hts ho.1 hr⟩
     |succ j=>simpa using g2 j x' (by simpa using hj)
    ·simp at he
   ·simp at he
theorem sN(hts:cx A U ts a.tmps):∀{xs:List Opd}{ys:List Operand}{l:List (Nat×Nat)},gS xs ys=true→i5 ts xs=some l→(∀p,p∈l→U p.1)∧ys.map a.eval=l.map fun p=>Value.pointer (some (addrOf A p.1 p.2)):=by
 intro xs;induction xs with
 |nil=>
  intro ys l ho he;cases ys with
  |nil=>simp only[i5,Option.some.injEq]at he;subst he;exact⟨by simp,rfl⟩
  |cons y t=>simp[gS]at ho
 |cons x t ih=>
  intro ys l ho he;cases ys with
  |nil=>simp[gS]at ho
  |cons y t'=>
   simp only[gS,Bool.and_eq_true]at ho;simp only[i5]at he;split at he
   ·rename_i id off hr;split at he
    ·rename_i rs hrs;cases he;obtain⟨g1,g2⟩:=ih ho.2 hrs;have hp:=aU hts ho.1 hr;refine⟨fun p hp'=>?_,by simp[g2,hp.2]⟩;rcases List.mem_cons.1 hp' with rfl|hp'
     ·exact hp.1
     ·exact g1 p hp'
    ·simp at he
   ·simp at he
theorem jl{f:FuncId}(hc:Callee P f)(args:Array Value)(w:World):(callFunc f args).run P w= .ok (.enter f args) w:=by
 obtain⟨fn,h1,h2,h3⟩:=hc;have e1:¬(fn.name= "runtime.NumGoroutine"):=by simpa using h2
 have e2:¬(fn.body=none):=by intro e;rw[e]at h3;simp at h3
 simp[callFunc,h1,e1,e2]
theorem COp.sound {cl : cN} (hcl : gW P cl) (hs : Sim A h U (Liv A h) w w) (hts : cx A U ts a.tmps) {i c : Nat} (hi : ¬ U i) (hc : ∀ id, c ≤ id → ¬ U id) {f : COp} (hok : f.ok P o.op = true) {r : CVal} {h' : Heap} {c' : Nat} (hr : f.ev cl i c h ts = some (r, h', c')) {next : Act → World → Prop} {Q : Exit → Act → World → Prop} (hn : ∀ v w' A' U', Post (fun id => id = i ∨ c ≤ id ∧ id < c') A h U w A' h' U' w' → eO A' U' r v → next (a.put o.dst v) w') : c ≤ c' ∧ Oper.wp P o a w next Q := by
 have flat : ∀ {x : V1}, mZ P a o w A U x → h' = h → r = .v x → Oper.wp P o a w next Q := by rintro x ⟨v, g1, g2⟩ rfl rfl; unfold Oper.wp; rw [g1]; exact hn v w A U ⟨hs, Ext.refl A U, fun _ hj => hj, fun _ hj => .inl hj⟩ g2
 cases f with
 | fl x =>
  simp only [COp.ev] at hr; split at hr
  ·rename_i r' hx; simp only [Option.some.injEq, Prod.mk.injEq] at hr; obtain ⟨rfl, rfl, rfl⟩ := hr; exact ⟨Nat.le_refl _, flat (FOp.sound hs hts hok hx) rfl rfl⟩
  ·simp at hr
 | build zs ps =>
  simp only [COp.ev] at hr; split at hr
  ·rename_i cs hx; simp only [Option.some.injEq, Prod.mk.injEq] at hr; obtain ⟨rfl, rfl, rfl⟩ := hr; simp only [COp.ok] at hok; split at hok
   ·rename_i t qs e; simp only [Bool.and_eq_true] at hok; obtain ⟨h1, h2⟩ := hok; split at h2
    ·rename_i pl hp; exact ⟨Nat.le_refl _, flat (tq hts e h1 hp h2 hx) rfl rfl⟩
    ·simp at h2
   ·simp at hok
  ·simp at hr
 | nw x =>
  simp only [COp.ev] at hr; split at hr
  ·rename_i b cv hx; simp only [Option.some.injEq, Prod.mk.injEq] at hr; obtain ⟨rfl, rfl, rfl⟩ := hr; obtain ⟨v, w', A', g1, g2, g3, g4⟩ := NOp.sound (a := a) (o := o) hs hts hi hok hx; refine ⟨Nat.le_refl _, ?_⟩; unfold Oper.wp; rw [g1]; exact hn v w' A' _ ⟨g2, g3, fun _ hj => .inl hj, fun _ hj => hj.elim .inl fun e => .inr (.inl e)⟩ g4
  ·simp at hr
 | store n x v =>
  simp only [COp.ev] at hr; split at hr
  ·rename_i h1 hx; simp only [Option.some.injEq, Prod.mk.injEq] at hr; obtain ⟨rfl, rfl, rfl⟩ := hr; simp only [COp.ok] at hok; split at hok
   ·rename_i t x' v' e; simp only [Bool.and_eq_true, beq_iff_eq] at hok; obtain ⟨w', g1, g2⟩ := tP (P := P) (o := o) hs hts e hok.1.1 hok.1.2 hok.2 hx; refine ⟨Nat.le_refl _, ?_⟩; unfold Oper.wp; rw [g1]; exact hn undef w' A U ⟨g2, Ext.refl A U, fun _ hj => hj, fun _ hj => .inl hj⟩ trivial
   ·simp at hok
  ·simp at hr
 | app zs bytes x y =>
  simp only [COp.ev] at hr; split at hr
  ·rename_i h1 cv hx; simp only [Option.some.injEq, Prod.mk.injEq] at hr; obtain ⟨rfl, rfl, rfl⟩ := hr; simp only [COp.ok] at hok; split at hok
   ·rename_i x' y' t t' e; simp only [Bool.and_eq_true, beq_iff_eq, bne_iff_ne] at hok; obtain ⟨⟨⟨⟨k1, k2⟩, k3⟩, k4⟩, k5⟩ := hok; subst k1; split at k5
    ·rename_i el hu; simp only [Bool.and_eq_true, beq_iff_eq] at k5; obtain ⟨v, w', A', g1, g2, g3, g4⟩ := zK (o := o) hs hts hi (bp e) k2 k3 hu k5.1.1 k5.1.2 k4 k5.2 hx; refine ⟨Nat.le_refl _, ?_⟩; unfold Oper.wp; rw [g1]; exact hn v w' A' _ ⟨g2, g3, fun _ hj => .inl hj, fun _ hj => hj.elim .inl fun e => .inr (.inl e)⟩ g4
    ·simp at k5
   ·simp at hok
  ·simp at hr
 | call g args =>
  simp only [COp.ev] at hr; split at hr
  ·rename_i l hl; obtain ⟨k1, k2, k3⟩ := hcl _ _ _ _ _ _ _ hr; refine ⟨k2, ?_⟩; simp only [COp.ok] at hok; split at hok
   ·rename_i cc e; simp only [Bool.and_eq_true] at hok; obtain ⟨h1, h2⟩ := hok; split at h1
    ·rename_i g' hg; simp only [beq_iff_eq] at h1; subst h1; obtain ⟨m1, m2⟩ := nA hts h2 hl; have hrun : (execOp a.eval o).run P w = .ok (.enter g (cc.args.map a.eval)) w := by simp only [execOp, e]; simp [resolve, hg, Act.eval, Deferred.ofValue, invoke, jl k1]
     unfold Oper.wp; rw [hrun, Oper.upon_enter]; refine (k3 A U w (cc.args.map a.eval) hs hc (by simpa using m1) (fun j x hj => by simpa using m2 j x hj)).mono ?_; rintro e' w' ⟨v, A', U', rfl, p1, p2⟩; exact hn v w' A' U' ⟨p1.sim, p1.ext, p1.sub, fun id hid => (p1.new id hid).elim .inl fun e => .inr (.inr e)⟩ p2
    ·simp at h1
   ·simp at hok
  ·simp at hr
 | callv x args =>
  simp only [COp.ev] at hr; split at hr
  ·rename_i g caps l hx hl; obtain ⟨k1, k2, k3⟩ := hcl _ _ _ _ _ _ _ hr; refine ⟨k2, ?_⟩; simp only [COp.ok] at hok; split at hok
   ·rename_i cc e; simp only [Bool.and_eq_true] at hok; obtain ⟨h1, h2⟩ := hok; split at h1
    ·rename_i y hy; obtain ⟨q1, q2⟩ := aU hts h1 hx; obtain ⟨m1, m2⟩ := nA hts h2 hl; have hrun : (execOp a.eval o).run P w = .ok (.enter g (cc.args.map a.eval ++ (caps.map fun p => Value.pointer (some (addrOf A p.1 p.2))).toArray)) w := by simp only [execOp, e]; simp [resolve, hy, q2, Deferred.ofValue, invoke, jl k1]
     unfold Oper.wp; rw [hrun, Oper.upon_enter]; have m1' : cc.args.size = l.length := by simpa using m1
     refine (k3 A U w _ hs hc (by simp [m1']) (fun j z hj => ?_)).mono ?_
     ·rw [List.getElem?_append] at hj; split at hj
      ·rename_i hlt; obtain ⟨v, f1, f2⟩ := m2 j z hj; exact ⟨v, by rw [Array.getElem?_append_left (by simpa [m1'] using hlt)]; simpa using f1, f2⟩
      ·rename_i hge; simp only [List.getElem?_map, Option.map_eq_some_iff] at hj; obtain ⟨p, hp, rfl⟩ := hj; exact ⟨_, by rw [Array.getElem?_append_right (by simp [m1']; omega)]; simp [m1', hp], q1 p (List.mem_of_getElem? hp), rfl⟩
     ·rintro e' w' ⟨v, A', U', rfl, p1, p2⟩; exact hn v w' A' U' ⟨p1.sim, p1.ext, p1.sub, fun id hid => (p1.new id hid).elim .inl fun e => .inr (.inr e)⟩ p2
    ·simp at h1
   ·simp at hok
  ·simp at hr
 | ext t j =>
  simp only [COp.ev] at hr; split at hr
  ·rename_i l hl; split at hr
   ·rename_i r' hj; simp only [Option.some.injEq, Prod.mk.injEq] at hr; obtain ⟨rfl, rfl, rfl⟩ := hr; simp only [COp.ok] at hok; split at hok
    ·rename_i t' j' e; simp only [Bool.and_eq_true, beq_iff_eq] at hok; obtain ⟨rfl, rfl⟩ := hok; obtain ⟨us, g1, g2, g3⟩ := (hts _ _ hl).2; obtain ⟨u, g4, g5⟩ := g3 _ _ hj; refine ⟨Nat.le_refl _, flat ⟨u, ?_, g5⟩ rfl rfl⟩; simp [execOp, e, Act.eval, g1, Instr.extract, g4]
    ·simp at hok
   ·simp at hr
  ·simp at hr
 | mkf g caps =>
  simp only [COp.ev] at hr; split at hr
  ·rename_i l hl; simp only [Option.some.injEq, Prod.mk.injEq] at hr; obtain ⟨rfl, rfl, rfl⟩ := hr; simp only [COp.ok] at hok; split at hok
   ·rename_i g' first cs e; simp only [Bool.and_eq_true, beq_iff_eq] at hok; obtain ⟨⟨rfl, h1⟩, h2⟩ := hok; have hf : first = #[] := by simpa using h1
    subst hf; obtain ⟨m1, m2⟩ := sN hts h2 hl; have hv : eA A U (.one (.fn g l)) (.func (.func g) #[] (cs.map a.eval)) := by refine ⟨m1, ?_⟩; congr 1; apply Array.ext'; simpa using m2
    exact ⟨Nat.le_refl _, flat ⟨_, by simp [execOp, e, Instr.makeFunc], hv⟩ rfl rfl⟩
   ·simp at hok
  ·simp at hr
 | cp t =>
  simp only [COp.ev] at hr; split at hr
  ·rename_i x hx; simp only [Option.some.injEq, Prod.mk.injEq] at hr; obtain ⟨rfl, rfl, rfl⟩ := hr; have fin : (execOp a.eval o).run P w = .ok (.value (a.eval (.tmp t))) w → Oper.wp P o a w next Q := by intro hrun; unfold Oper.wp; rw [hrun]; exact hn _ w A U ⟨hs, Ext.refl A U, fun _ hj => hj, fun _ hj => .inl hj⟩ (hts _ _ hx).2
   refine ⟨Nat.le_refl _, fin ?_⟩; simp only [COp.ok] at hok; split at hok
   ·rename_i t' e; simp only [beq_iff_eq] at hok; subst hok; simp [execOp, e]
   ·rename_i t' e; simp only [beq_iff_eq] at hok; subst hok; simp [execOp, e]
   ·simp at hok
  ·simp at hr
 | cpy sz x y =>
  simp only [COp.ev] at hr; split at hr
  ·rename_i h1 cv hx; simp only [Option.some.injEq, Prod.mk.injEq] at hr; obtain ⟨rfl, rfl, rfl⟩ := hr; simp only [COp.ok] at hok; split at hok
   ·rename_i x' y' t t' e; simp only [Bool.and_eq_true, beq_iff_eq] at hok; obtain ⟨⟨⟨k1, k2⟩, k3⟩, k5⟩ := hok; subst k1; split at k5
    ·rename_i el hu; simp only [beq_iff_eq] at k5; obtain ⟨v, w', g1, g2, g3⟩ := wG (o := o) hs hts (bp e) k2 k3 hu k5 hx; refine ⟨Nat.le_refl _, ?_⟩; unfold Oper.wp; rw [g1]; exact hn v w' A U ⟨g2, Ext.refl A U, fun _ hj => hj, fun _ hj => .inl hj⟩ g3
    ·simp at k5
   ·simp at hok
  ·simp at hr
 | bs x =>
  simp only [COp.ev] at hr; split at hr
  ·rename_i cv hx; simp only [Option.some.injEq, Prod.mk.injEq] at hr; obtain ⟨rfl, rfl, rfl⟩ := hr; simp only [COp.ok] at hok; split at hok
   ·rename_i src dst y e; simp only [Bool.and_eq_true] at hok; obtain ⟨k1, k2⟩ := hok; split at k2
    ·rename_i el hu1 hu2; split at k2
     ·rename_i hu3; exact ⟨Nat.le_refl _, flat (yH hs hts e k1 hu1 hu3 hu2 hx) rfl rfl⟩
     ·simp at k2
    ·simp at k2
   ·simp at hok
  ·simp at hr
 | eqA neg ks x y =>
  simp only [COp.ev] at hr; split at hr
  ·rename_i p q h1 h2; split at hr
   ·rename_i b hb; simp only [Option.some.injEq, Prod.mk.injEq] at hr; obtain ⟨rfl, rfl, rfl⟩ := hr; simp only [COp.ok] at hok; split at hok
    ·rename_i op' t x' y' t2 e; simp only [Bool.and_eq_true, beq_iff_eq, decide_eq_true_eq, Bool.not_eq_true'] at hok; obtain ⟨⟨⟨⟨⟨k1, k2⟩, k3⟩, k4⟩, k5⟩, k6⟩ := hok; exact ⟨Nat.le_refl _, flat (yQ hts (by rw [e, k1]) k2 k3 k4 k5 k6 h1 h2 hb) rfl rfl⟩
    ·simp at hok
   ·simp at hr
  ·simp at hr
 | mm mx x y =>
  simp only [COp.ev] at hr; split at hr
  ·rename_i p q h1 h2; split at hr
   ·rename_i b hb; simp only [Option.some.injEq, Prod.mk.injEq] at hr; obtain ⟨rfl, rfl, rfl⟩ := hr; simp only [COp.ok] at hok; split at hok
    ·rename_i x' y' tys e; simp only [Bool.and_eq_true] at hok; exact ⟨Nat.le_refl _, flat (aAM hts e hok.1 hok.2 h1 h2 hb) rfl rfl⟩
    ·simp at hok
   ·simp at hr
  ·simp at hr
 | fld x off n =>
  simp only [COp.ev] at hr; split at hr
  ·rename_i cs h1; split at hr
   ·rename_i b hb; simp only [Option.some.injEq, Prod.mk.injEq] at hr; obtain ⟨rfl, rfl, rfl⟩ := hr; simp only [COp.ok] at hok; split at hok
    ·rename_i t y f e; simp only [Bool.and_eq_true] at hok; obtain ⟨k1, k2⟩ := hok; split at k2
     ·rename_i fs hu; split at k2
      ·rename_i fd hf; simp only [Bool.and_eq_true, beq_iff_eq] at k2; obtain ⟨rfl, k3⟩ := k2; refine ⟨Nat.le_refl _, flat (y9 hts e k1 hu hf (n := n) ?_ h1 hb) rfl rfl⟩; cases n with
       | none => simpa using k3
       | some n => simpa using k3
      ·simp at k2
     ·simp at k2
    ·simp at hok
   ·simp at hr
  ·simp at hr
 | mop x =>
  simp only [COp.ev] at hr; split at hr
  ·rename_i r' h1 hx; simp only [Option.some.injEq, Prod.mk.injEq] at hr; obtain ⟨rfl, rfl, rfl⟩ := hr; obtain ⟨v, w', A', U', g1, g2, g3, g4, g5⟩ := MOp.sound (P := P) (o := o) hs hts hi hok hx; refine ⟨Nat.le_refl _, ?_⟩; have hp : Post (fun id => id = i ∨ c ≤ id ∧ id < c) A h U w A' h1 U' w' := ⟨g2, g3, g4, fun id hid => (g5 id hid).elim .inl fun e => .inr (.inl e)⟩; unfold Oper.wp; rcases g1 with ⟨g1, k1⟩ | ⟨g1, rfl⟩
   ·rw [g1]; exact hn v w' A' U' hp k1
   ·rw [g1]; exact hn undef w' A' U' hp trivial
  ·simp at hr
 | bad => simp [COp.ev] at hr
end
end Go.Cq

