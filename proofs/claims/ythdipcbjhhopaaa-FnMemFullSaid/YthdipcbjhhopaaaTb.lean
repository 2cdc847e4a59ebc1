import Derived.Test.YthdipcbjhhopaaaTa
namespace Go.Cq
open Go.RowKit
structure CI where
 g:Option (Nat×Bool)
 d:Option Nat
 op:COp
structure St where
 ts:Ts
 h:Heap
 c:Nat
def bH(ts:Ts):Option (Nat×Bool)→Option Bool
 |none=>some true
 |some (t,want)=>match look ts t with
  |some (.v (.one (.bool b)))=>some (b==want)
  |some (.tup [])=>some false
  |_=>none
def cO(d:Option Nat)(r:CVal)(ts:Ts):Ts:=match d with
 |some d=>(d,r)::ts
 |none=>ts
def fo(cl:cN)(i c:Nat)(ci:CI)(ts:Ts)(h:Heap):Option St:=match bH ts ci.g with
 |some true=>match ci.op.ev cl i c h ts with
  |some (r,h',c')=>some ⟨cO ci.d r ts,h',c'⟩
  |none=>none
 |some false=>some ⟨cO ci.d (.tup []) ts,h,c⟩
 |none=>none
def okI(P:Program)(nt:Nat)(ops:Array Oper)(ci:CI)(o:Oper):Bool:=
 o.dst==ci.d&&(match ci.d with|some d=>decide (d<nt)|none=>true)&&ci.op.ok P o.op&&
 (match ci.g,o.guard with
  |none,none=>true
  |some (t,want),some (j,want')=>want==want'&&((ops[j]?).bind (·.dst))==some t
  |_,_=>false)
def gY(cl:cN):List CI→St→Option St
 | [],s=>some s
 |ci::l,s=>match fo cl s.c (s.c+1) ci s.ts s.h with
  |some s'=>gY cl l s'
  |none=>none
def okL(P:Program)(nt:Nat)(ops:Array Oper):List CI→List Oper→Bool
 | [],[]=>true
 |ci::l,o::l'=>okI P nt ops ci o&&okL P nt ops l l'
 |_,_=>false
def Inv(nt:Nat)(K:Nat→Prop)(w0:World)(A0:Nat→Nd)(U0:Nat→Prop)(c0:Nat)(s:St)(a:Act)(w:World):Prop:=∃A U,Sim A s.h U K w0 w∧cx A U s.ts a.tmps∧a.tmps.size=nt∧a.defers=[]∧(∀id,s.c≤id→¬U id)∧Ext A0 A U0∧(∀id,U0 id→U id)∧(∀id,U id→U0 id∨c0≤id∧id<s.c)∧c0≤s.c
section
variable{P:Program}{nt:Nat}{K:Nat→Prop}{w0:World}{A0:Nat→Nd}{U0:Nat→Prop}{c0:Nat}{cl:cN}{ops:Array Oper}
theorem vp{A:Nat→Nd}{U:Nat→Prop}{ts:Ts}{tmps:Array Value}(hts:cx A U ts tmps){j t:Nat}{want b:Bool}(hj:((ops[j]?).bind (·.dst))=some t)(hw:bH ts (some (t,want))=some b):(yielded ops tmps j==some want)=b:=by
 simp only[bH]at hw;have hget:∀{x:CVal},look ts t=some x→∃v,tmps[t]?=some v∧eO A U x v:=by intro x hx;obtain⟨h1,h2⟩:=hts t x hx;refine⟨tmps[t],Array.getElem?_eq_getElem h1,?_⟩;simpa [Array.getD,h1]using h2
 unfold yielded;rw[hj];simp only[Option.bind_some];split at hw
 ·rename_i b' hx;obtain⟨v,h1,h2⟩:=hget hx;simp only[eO,eA,aw]at h2;subst h2;simp only[Option.some.injEq]at hw;rw[h1];simpa using hw
 ·rename_i hx;obtain⟨v,h1,us,h2, -, -⟩:=hget hx;subst h2;simp only[Option.some.injEq]at hw;rw[h1];simpa using hw
 ·simp at hw
theorem rJ{ci:CI}{o:Oper}(h:okI P nt ops ci o=true):o.dst=ci.d∧(∀d,ci.d=some d→d<nt)∧ci.op.ok P o.op=true∧(ci.g=none∧o.guard=none∨∃t want j,ci.g=some (t,want)∧o.guard=some (j,want)∧((ops[j]?).bind (·.dst))=some t):=by
 unfold okI at h;simp only[Bool.and_eq_true,beq_iff_eq]at h;obtain⟨⟨⟨h1,h2⟩,h3⟩,h4⟩:=h;refine⟨h1,fun d hd=>by rw[hd]at h2;simpa using h2,h3,?_⟩;split at h4
 ·rename_i e1 e2;exact .inl ⟨e1,e2⟩
 ·rename_i t want j want' e1 e2;simp only[Bool.and_eq_true,beq_iff_eq]at h4;obtain⟨rfl,h5⟩:=h4;exact .inr ⟨t,want,j,e1,e2,h5⟩
 ·simp at h4
theorem km{A:Nat→Nd}{U:Nat→Prop}{ts:Ts}{tmps:Array Value}(hts:cx A U ts tmps){ci:CI}{o:Oper}(h:ci.g=none∧o.guard=none∨∃t want j,ci.g=some (t,want)∧o.guard=some (j,want)∧((ops[j]?).bind (·.dst))=some t){b:Bool}(hw:bH ts ci.g=some b):Region.wanted o (yielded ops tmps)=b:=by
 unfold Region.wanted;rcases h with⟨h1,h2⟩| ⟨t,want,j,h1,h2,h3⟩
 ·rw[h1]at hw;simp only[bH,Option.some.injEq]at hw;rw[h2];exact hw
 ·rw[h1]at hw;rw[h2];exact vp hts h3 hw
theorem en(a:Act)(d:Option Nat)(v:Value):(a.put d v).tmps.size=a.tmps.size∧(a.put d v).defers=a.defers:=by cases d<;>simp[Act.put]
theorem kX{A:Nat→Nd}{U:Nat→Prop}{ts:Ts}{a:Act}(hts:cx A U ts a.tmps){d:Option Nat}(hd:∀t,d=some t→t<a.tmps.size){r:CVal}{v:Value}(hv:eO A U r v):cx A U (cO d r ts) (a.put d v).tmps:=by
 cases d with
 |none=>exact hts
 |some d=>exact hts.put (hd d rfl) hv
theorem um(A:Nat→Nd)(U:Nat→Prop):eO A U (.tup []) undef:=⟨#[],rfl,rfl,by simp⟩
theorem tS(hcl:gW P cl){k:Nat}{o:Oper}(ho:ops[k]?=some o){ci:CI}(hok:okI P nt ops ci o=true){s s':St}{a:Act}{w:World}(hs:Inv nt K w0 A0 U0 c0 s a w)(hr:fo cl s.c (s.c+1) ci s.ts s.h=some s'){rest:List Nat}{Q:Exit→Act→World→Prop}(hn:∀a' w',Inv nt K w0 A0 U0 c0 s' a' w'→wpOps P ops Q rest a' w'):wpOps P ops Q (k::rest) a w:=by
 obtain⟨A,U,s1,s2,s3,s4,s5,s6,s7,s8,s9⟩:=hs;obtain⟨o1,o2,o3,o4⟩:=rJ hok;simp only[wpOps,ho];unfold fo at hr;split at hr
 ·rename_i hw;rw[km s2 o4 hw];simp only[if_true];split at hr
  ·rename_i r h' c' he;cases hr;refine .inl (COp.sound (a:=a) (o:=o) hcl s1.start s2 (s5 _ (Nat.le_refl _)) (fun id hid=>s5 id (by omega)) o3 he ?_).2;intro v w' A' U' hp hv;have hc':=(COp.sound (a:=a) (o:=o) (next:=fun _ _=>True) (Q:=Q) hcl s1.start s2 (s5 _ (Nat.le_refl _)) (fun id hid=>s5 id (by omega)) o3 he (fun _ _ _ _ _ _=>trivial)).1;refine hn _ _ ⟨A',U',s1.back hp.sim hp.ext,?_,by rw[(en _ _ _).1];exact s3,by rw[(en _ _ _).2];exact s4,?_,s6.trans (fun id hid=>hp.ext id (s7 id hid)) (fun _ h=>h),fun id hid=>hp.sub id (s7 id hid),?_,by show c0≤c';omega⟩
   ·rw[o1];exact kX (s2.ext hp.ext hp.sub) (fun t ht=>by rw[s3];exact o2 t ht) hv
   ·intro id hid hU;rcases hp.new id hU with h1|h1|h1
    ·exact s5 id (by have:c'≤id:=hid;omega) h1
    ·have:c'≤id:=hid;omega
    ·have:c'≤id:=hid;omega
   ·intro id hU;show U0 id∨c0≤id∧id<c';rcases hp.new id hU with h1|h1|h1
    ·rcases s8 id h1 with h2|h2
     ·exact .inl h2
     ·exact .inr ⟨h2.1,by omega⟩
    ·exact .inr ⟨by omega,by omega⟩
    ·exact .inr ⟨by omega,h1.2⟩
  ·simp at hr
 ·rename_i hw;rw[km s2 o4 hw];simp only[Bool.false_eq_true,if_false];cases hr;refine hn _ _ ⟨A,U,s1,?_,by rw[(en _ _ _).1];exact s3,by rw[(en _ _ _).2];exact s4,fun id hid=>s5 id (by have:s.c+1≤id:=hid;omega),s6,s7,fun id hU=>?_,by show c0≤s.c+1;omega⟩
  ·rw[o1];exact kX s2 (fun t ht=>by rw[s3];exact o2 t ht) (um A U)
  ·show U0 id∨c0≤id∧id<s.c+1;rcases s8 id hU with h2|h2
   ·exact .inl h2
   ·exact .inr ⟨h2.1,by omega⟩
 ·simp at hr
theorem pA(hcl:gW P cl){Q:Exit→Act→World→Prop}:∀{l:List CI}{os:List Oper}{k:Nat}{s s':St}{a:Act}{w:World},ops.toList.drop k=os→okL P nt ops l os=true→Inv nt K w0 A0 U0 c0 s a w→gY cl l s=some s'→(∀a' w',Inv nt K w0 A0 U0 c0 s' a' w'→Q .normal a' w')→wpOps P ops Q (List.range' k os.length) a w:=by
 intro l;induction l with
 |nil=>
  intro os k s s' a w hd hok hs hr hn;cases os with
  |nil=>simp only[gY,Option.some.injEq]at hr;subst hr;exact hn a w hs
  |cons o t=>simp[okL]at hok
 |cons ci l ih=>
  intro os k s s' a w hd hok hs hr hn;cases os with
  |nil=>simp[okL]at hok
  |cons o t=>
   simp only[okL,Bool.and_eq_true]at hok;simp only[gY]at hr;split at hr
   ·rename_i s1 h1;have ho:ops[k]?=some o:=by
     have:(ops.toList.drop k)[0]?=some o:=by rw[hd];rfl
     simpa using this
    simp only[List.length_cons,List.range'_succ];refine tS hcl ho hok.1 hs h1 fun a' w' hs'=>ih ?_ hok.2 hs' hr hn
    have:=congrArg List.tail hd;simpa [List.tail_drop]using this
   ·simp at hr
end
end Go.Cq
namespace Go.Cq
open Go.RowKit
def Opd.reads:Opd→List Nat
 |.t s=>[s]
 |.k _=>[]
def lh:Option Opd→List Nat
 |some x=>x.reads
 |none=>[]
def pK:List Part→List Nat
 | []=>[]
 |p::l=>p.x.reads++pK l
def nC:List Opd→List Nat
 | []=>[]
 |p::l=>p.reads++nC l
def FOp.reads:FOp→List Nat
 |.mov x=>x.reads
 |.pick c a b=>c.reads++(a.reads++b.reads)
 |.load _ x=>x.reads
 |.nilCheck x=>x.reads
 |.bin _ x y=>x.reads++y.reads
 |.binB _ x y=>x.reads++y.reads
 |.cmpNil _ x=>x.reads
 |.un _ x=>x.reads
 |.conv _ x=>x.reads
 |.fieldAddr x _=>x.reads
 |.idxAddr x i _=>x.reads++i.reads
 |.index x i=>x.reads++i.reads
 |.lenS x=>x.reads
 |.len x=>x.reads
 |.sliceS x lo hi=>x.reads++(lh lo++lh hi)
 |.sliceL x lo hi _=>x.reads++(lh lo++lh hi)
def NOp.reads:NOp→List Nat
 |.alloc _=>[]
 |.box x=>x.reads
 |.lit _ _ ps=>pK ps
 |.mk _ _ x y=>x.reads++y.reads
 |.sb x=>x.reads
def MOp.reads:MOp→List Nat
 |.mk=>[]
 |.look _ _ _ _ x k=>x.reads++k.reads
 |.set _ _ x k v=>x.reads++(k.reads++v.reads)
 |.ent _ _ _ x k=>x.reads++k.reads
 |.est x s v=>x.reads++(s.reads++v.reads)
 |.rng x=>x.reads
 |.ety x=>x.reads
 |.rs x lo hi _=>x.reads++(lh lo++lh hi)
 |.sl3 x l m n _=>x.reads++(l.reads++(m.reads++n.reads))
 |.clr _ x=>x.reads
def COp.reads:COp→List Nat
 |.fl x=>x.reads
 |.build _ ps=>pK ps
 |.nw x=>x.reads
 |.store _ x v=>x.reads++v.reads
 |.app _ _ x y=>x.reads++y.reads
 |.call _ args=>nC args
 |.callv x args=>x.reads++nC args
 |.ext t _=>[t]
 |.mkf _ caps=>nC caps
 |.cp t=>[t]
 |.cpy _ x y=>x.reads++y.reads
 |.bs x=>x.reads
 |.eqA _ _ x y=>x.reads++y.reads
 |.mm _ x y=>x.reads++y.reads
 |.fld x _ _=>x.reads
 |.mop x=>x.reads
 |.bad=>[]
inductive Kd where
 |pure|rd|new|eff
 deriving DecidableEq
def FOp.y7:FOp→Bool
 |.load ..=>true
 |.idxAddr ..=>true
 |.sliceL ..=>true
 |_=>false
def COp.kind:COp→Kd
 |.fl x=>cond x.y7 .rd .pure
 |.nw _=>.new
 |.store ..=>.eff
 |.app ..=>.eff
 |.call ..=>.eff
 |.callv ..=>.eff
 |.cpy ..=>.eff
 |.bs _=>.rd
 |.mop x=>(match x with|.look ..=>.rd|.ety _=>.rd|.rs ..=>.rd|.sl3 ..=>.rd|_=>.eff)
 |_=>.pure
section
variable{ts ts':Ts}{h:Heap}
def cD(l:List Nat)(ts ts':Ts):Prop:=∀t,t∈l→look ts' t=look ts t
theorem cD.left{a b:List Nat}(h:cD (a++b) ts ts'):cD a ts ts':=fun t ht=>h t (List.mem_append_left _ ht)
theorem cD.right{a b:List Nat}(h:cD (a++b) ts ts'):cD b ts ts':=fun t ht=>h t (List.mem_append_right _ ht)
theorem eT{x:Opd}(h:cD x.reads ts ts'):evO ts' x=evO ts x:=by
 cases x with
 |t s=>simp only[evO,h s (by simp[Opd.reads])]
 |k c=>rfl
theorem ba{x:Opd}(h:cD x.reads ts ts'):ev1 ts' x=ev1 ts x:=by simp only[ev1,eT h]
theorem f0{x:Opd}(h:cD x.reads ts ts'):fP ts' x=fP ts x:=by simp only[fP,ba h]
theorem fx{x:Option Opd}{a b:Nat}(h:cD (lh x) ts ts'):dH ts' x a b=dH ts x a b:=by
 cases x with
 |none=>rfl
 |some y=>simp only[dH,f0 (x:=y) h]
theorem aA0{ps:List Part}(h:cD (pK ps) ts ts'):∀{cs:List CV},kJ ts' ps cs=kJ ts ps cs:=by
 induction ps with
 |nil=>intro cs;rfl
 |cons p l ih=>intro cs;simp only[kJ,eT (x:=p.x) h.left,ih h.right]
theorem aBO{ps:List Part}(h:cD (pK ps) ts ts'):∀{b:Blk},lI ts' ps b=lI ts ps b:=by
 induction ps with
 |nil=>intro b;rfl
 |cons p l ih=>intro b;simp only[lI,eT (x:=p.x) h.left,ih h.right]
theorem rQ{xs:List Opd}(h:cD (nC xs) ts ts'):iA ts' xs=iA ts xs:=by
 induction xs with
 |nil=>rfl
 |cons x l ih=>simp only[iA,eT (x:=x) h.left,ih h.right]
theorem xz{xs:List Opd}(h:cD (nC xs) ts ts'):i5 ts' xs=i5 ts xs:=by
 induction xs with
 |nil=>rfl
 |cons x l ih=>simp only[i5,ba (x:=x) h.left,ih h.right]
theorem FOp.ft{f:FOp}(hr:cD f.reads ts ts'):f.ev h ts'=f.ev h ts:=by
 cases f with
 |mov x=>exact eT hr
 |pick c a b=>simp only[FOp.ev,ba (x:=c) hr.left,eT (x:=a) hr.right.left,eT (x:=b) hr.right.right]
 |load n x=>simp only[FOp.ev,ba (x:=x) hr]
 |nilCheck x=>simp only[FOp.ev,ba (x:=x) hr]
 |bin op x y=>simp only[FOp.ev,ba (x:=x) hr.left,ba (x:=y) hr.right]
 |binB op x y=>simp only[FOp.ev,ba (x:=x) hr.left,ba (x:=y) hr.right]
 |cmpNil n x=>simp only[FOp.ev,ba (x:=x) hr]
 |un op x=>simp only[FOp.ev,ba (x:=x) hr]
 |conv k x=>simp only[FOp.ev,ba (x:=x) hr]
 |fieldAddr x o=>simp only[FOp.ev,ba (x:=x) hr]
 |idxAddr x i s=>simp only[FOp.ev,ba (x:=x) hr.left,f0 (x:=i) hr.right]
 |index x i=>simp only[FOp.ev,ba (x:=x) hr.left,f0 (x:=i) hr.right]
 |lenS x=>simp only[FOp.ev,ba (x:=x) hr]
 |len x=>simp only[FOp.ev,ba (x:=x) hr]
 |sliceS x lo hi=>simp only[FOp.ev,ba (x:=x) hr.left,fx (x:=lo) hr.right.left,fx (x:=hi) hr.right.right]
 |sliceL x lo hi s=>simp only[FOp.ev,ba (x:=x) hr.left,fx (x:=lo) hr.right.left,fx (x:=hi) hr.right.right]
theorem NOp.ft{f:NOp}{i:Nat}(hr:cD f.reads ts ts'):f.ev ts' i=f.ev ts i:=by
 cases f with
 |alloc zs=>rfl
 |box x=>simp only[NOp.ev,eT (x:=x) hr]
 |lit zs n ps=>simp only[NOp.ev,aBO (ps:=ps) hr]
 |mk zs b x y=>simp only[NOp.ev,f0 (x:=x) hr.left,f0 (x:=y) hr.right]
 |sb x=>simp only[NOp.ev,ba (x:=x) hr]
theorem MOp.ft{f:MOp}{i:Nat}(hr:cD f.reads ts ts'):f.ev i h ts'=f.ev i h ts:=by
 cases f with
 |mk=>rfl
 |look ok ks b z x k=>simp only[MOp.ev,kb,ba (x:=x) hr.left,eT (x:=k) hr.right]
 |set ks b x k v=>simp only[MOp.ev,nL,ba (x:=x) hr.left,eT (x:=k) hr.right.left,eT (x:=v) hr.right.right]
 |ent ks b z x k=>simp only[MOp.ev,mB,ba (x:=x) hr.left,eT (x:=k) hr.right]
 |est x s v=>simp only[MOp.ev,pP,ba (x:=x) hr.left,f0 (x:=s) hr.right.left,eT (x:=v) hr.right.right]
 |rng x=>simp only[MOp.ev,kj,ba (x:=x) hr]
 |ety x=>simp only[MOp.ev,jW,ba (x:=x) hr]
 |rs x lo hi s=>simp only[MOp.ev,zb,ba (x:=x) hr.left,fx (x:=lo) hr.right.left,fx (x:=hi) hr.right.right]
 |sl3 x l m n s=>simp only[MOp.ev,ua,ba (x:=x) hr.left,f0 (x:=l) hr.right.left,f0 (x:=m) hr.right.right.left,f0 (x:=n) hr.right.right.right]
 |clr zs x=>simp only[MOp.ev,xI,ba (x:=x) hr]
theorem COp.ft{f:COp}{cl:cN}{i c:Nat}(hr:cD f.reads ts ts'):f.ev cl i c h ts'=f.ev cl i c h ts:=by
 cases f with
 |fl x=>simp only[COp.ev,FOp.ft (f:=x) hr]
 |build zs ps=>simp only[COp.ev,aA0 (ps:=ps) hr]
 |nw x=>simp only[COp.ev,NOp.ft (f:=x) hr]
 |store n x v=>simp only[COp.ev,j6,ba (x:=x) hr.left,eT (x:=v) hr.right]
 |app zs b x y=>simp only[COp.ev,dM,f9,ba (x:=x) hr.left,ba (x:=y) hr.right]
 |call g args=>simp only[COp.ev,rQ (xs:=args) hr]
 |callv x args=>simp only[COp.ev,ba (x:=x) hr.left,rQ (xs:=args) hr.right]
 |ext t j=>simp only[COp.ev,hr t (by simp[COp.reads])]
 |mkf g caps=>simp only[COp.ev,xz (xs:=caps) hr]
 |cp t=>simp only[COp.ev,hr t (by simp[COp.reads])]
 |cpy s x y=>simp only[COp.ev,sq,ba (x:=x) hr.left,ba (x:=y) hr.right]
 |bs x=>simp only[COp.ev,b2s,ba (x:=x) hr]
 |eqA n ks x y=>simp only[COp.ev,iT,eT (x:=x) hr.left,eT (x:=y) hr.right]
 |mm m x y=>simp only[COp.ev,ba (x:=x) hr.left,ba (x:=y) hr.right]
 |fld x o n=>simp only[COp.ev,iT,eT (x:=x) hr]
 |mop x=>simp only[COp.ev,MOp.ft (f:=x) hr]
 |bad=>rfl
theorem FOp.ky{f:FOp}(hf:f.y7=false)(h h':Heap):f.ev h' ts=f.ev h ts:=by cases f<;>first|rfl|simp[FOp.y7]at hf
theorem COp.ky{f:COp}(hk:f.kind= .pure){cl:cN}{i c:Nat}{r:CVal}{h1:Heap}{c1:Nat}(he:f.ev cl i c h ts=some (r,h1,c1)):h1=h∧c1=c∧∀i2 c2 h2,f.ev cl i2 c2 h2 ts=some (r,h2,c2):=by
 cases f with
 |fl x=>
  have hf:x.y7=false:=by
   simp only[COp.kind]at hk;cases hx:x.y7 with
   |true=>simp[hx]at hk
   |false=>rfl
  simp only[COp.ev]at he ⊢;split at he
  ·rename_i r' hx;cases he;exact⟨rfl,rfl,fun i2 c2 h2=>by rw[FOp.ky hf h h2,hx]⟩
  ·simp at he
 |build zs ps=>
  simp only[COp.ev]at he ⊢;split at he
  ·rename_i r' hx;cases he;exact⟨rfl,rfl,fun i2 c2 h2=>by first|rfl| (rw[hx])⟩
  ·simp at he
 |ext t j=>
  simp only[COp.ev]at he ⊢;split at he
  ·rename_i l hl;split at he
   ·rename_i r' hx;cases he;exact⟨rfl,rfl,fun i2 c2 h2=>by first|rfl| (rw[hl];simp only[hx])⟩
   ·simp at he
  ·simp at he
 |mkf g caps=>
  simp only[COp.ev]at he ⊢;split at he
  ·rename_i r' hx;cases he;exact⟨rfl,rfl,fun i2 c2 h2=>by first|rfl| (rw[hx])⟩
  ·simp at he
 |cp t=>
  simp only[COp.ev]at he ⊢;split at he
  ·rename_i r' hx;cases he;exact⟨rfl,rfl,fun i2 c2 h2=>by first|rfl| (rw[hx])⟩
  ·simp at he
 |eqA n ks x y=>
  simp only[COp.ev]at he ⊢;split at he
  ·rename_i p q h1 h2;split at he
   ·rename_i r' hx;cases he;exact⟨rfl,rfl,fun i2 c2 h2=>by simp only[*]⟩
   ·simp at he
  ·simp at he
 |mm m x y=>
  simp only[COp.ev]at he ⊢;split at he
  ·rename_i p q h1 h2;split at he
   ·rename_i r' hx;cases he;exact⟨rfl,rfl,fun i2 c2 h2=>by simp only[*]⟩
   ·simp at he
  ·simp at he
 |fld x o n=>
  simp only[COp.ev]at he ⊢;split at he
  ·rename_i p h1;split at he
   ·rename_i r' hx;cases he;exact⟨rfl,rfl,fun i2 c2 h2=>by simp only[*]⟩
   ·simp at he
  ·simp at he
 |bad=>simp[COp.ev]at he
 |mop x=>cases x<;>simp[COp.kind]at hk
 |_=>simp[COp.kind]at hk
theorem COp.wz{f:COp}(hk:f.kind= .rd){cl:cN}{i c:Nat}{r:CVal}{h1:Heap}{c1:Nat}(he:f.ev cl i c h ts=some (r,h1,c1)):h1=h∧c1=c∧∀i2 c2,f.ev cl i2 c2 h ts=some (r,h,c2):=by
 cases f with
 |fl x=>
  simp only[COp.ev]at he ⊢;split at he
  ·rename_i r' hx;cases he;exact⟨rfl,rfl,fun i2 c2=>by first|rw[hx]|rfl⟩
  ·simp at he
 |bs x=>
  simp only[COp.ev]at he ⊢;split at he
  ·rename_i r' hx;cases he;exact⟨rfl,rfl,fun i2 c2=>by first|rw[hx]|rfl⟩
  ·simp at he
 |mop x=>cases x with
  |look ok ks b z x k=>
   simp only[COp.ev,MOp.ev]at he ⊢;cases hl:kb ks b z x k h ts with
   |none=>simp[hl]at he
   |some q=>simp only[hl,Option.some.injEq,Prod.mk.injEq]at he ⊢;obtain⟨rfl,rfl,rfl⟩:=he;exact⟨rfl,rfl,fun i2 c2=>by simp⟩
  |ety x=>
   simp only[COp.ev,MOp.ev]at he ⊢;cases hl:jW x h ts with
   |none=>simp[hl]at he
   |some q=>simp only[hl,Option.some.injEq,Prod.mk.injEq]at he ⊢;obtain⟨rfl,rfl,rfl⟩:=he;exact⟨rfl,rfl,fun i2 c2=>by simp⟩
  |rs x lo hi s=>
   simp only[COp.ev,MOp.ev]at he ⊢;cases hl:zb x lo hi s h ts with
   |none=>simp[hl]at he
   |some q=>simp only[hl,Option.some.injEq,Prod.mk.injEq]at he ⊢;obtain⟨rfl,rfl,rfl⟩:=he;exact⟨rfl,rfl,fun i2 c2=>by simp⟩
  |sl3 x l m n s=>
   simp only[COp.ev,MOp.ev]at he ⊢;cases hl:ua x l m n h ts s with
   |none=>simp[hl]at he
   |some q=>simp only[hl,Option.some.injEq,Prod.mk.injEq]at he ⊢;obtain⟨rfl,rfl,rfl⟩:=he;exact⟨rfl,rfl,fun i2 c2=>by simp⟩
  |_=>simp[COp.kind]at hk
 |_=>simp[COp.kind]at hk
theorem e8{g:Option (Nat×Bool)}(h:∀t b,g=some (t,b)→look ts' t=look ts t):bH ts' g=bH ts g:=by
 cases g with
 |none=>rfl
 |some p=>obtain⟨t,b⟩:=p;simp only[bH,h t b rfl]
end
end Go.Cq
namespace Go.Cq
open Go.RowKit
structure RI where
 k:Nat
 ci:CI
 anc:Nat
 fl:List Nat
 rs:List Nat
structure DS where
 ts:Ts
 h:Heap
 F:List (Nat×Blk)
 c:Nat
def bQ:List (Nat×Blk)→Nat→Option Blk
 | [],_=>none
 | (k,x)::l,t=>cond (Nat.beq k t) (some x) (bQ l t)
def bm(base:Nat)(F:List (Nat×Blk)):List Nat→Heap→Heap
 | [],h=>h
 |k::l,h=>match bQ F (base+k)with
  |some b=>(bm base F l h).set (base+k) (some b)
  |none=>bm base F l h
def cy:List (Nat×Blk)→Heap→Heap
 | [],h=>h
 | (k,b)::l,h=>(cy l h).set k (some b)
def dA:List RI→Nat→Option RI
 | [],_=>none
 |x::l,k=>cond (Nat.beq x.k k) (some x) (dA l k)
def eF(base:Nat)(fl:List Nat):List (Nat×Blk)→List (Nat×Blk)
 | []=>[]
 |p::l=>cond (fl.any fun k=>Nat.beq (base+k) p.1) (eF base fl l) (p::eF base fl l)
def az(cl:cN)(base:Nat)(FL:List Nat)(x:RI)(s:DS):Option DS:=match bH s.ts x.ci.g with
 |some false=>some {s with ts:=cO x.ci.d (.tup []) s.ts}
 |some true=>match x.ci.op.kind with
  |.new=>match x.ci.op with
   |.nw y=>match y.ev s.ts (base+x.k)with
    |some (b,r)=>some {s with ts:=cO x.ci.d (.v (.one r)) s.ts,F:=(base+x.k,b)::s.F}
    |none=>none
   |_=>none
  |.eff=>match x.ci.op.ev cl (base+x.k) s.c (bm base s.F x.fl s.h) s.ts with
   |some (r,h',c')=>if FL.all (fun k=>Nat.testBit x.anc k||(h'.get (base+k)).isNone)then some ⟨cO x.ci.d r s.ts,h',eF base x.fl s.F,c'⟩else none
   |none=>none
  |_=>match x.ci.op.ev cl (base+x.k) s.c (bm base s.F x.fl s.h) s.ts with
   |some (r,_,_)=>some {s with ts:=cO x.ci.d r s.ts}
   |none=>none
 |none=>none
def jb(cl:cN)(base:Nat)(s:DS)(x:RI):Bool:=match bH s.ts x.ci.g with
 |some false=>true
 |some true=>match x.ci.op.ev cl (base+x.k) s.c (bm base s.F x.fl s.h) s.ts with
  |some (r,_,_)=>match x.ci.d with
   |some d=>(match look s.ts d with|some r'=>decide (r=r')|none=>false)
   |none=>true
  |none=>false
 |none=>false
def iP(cl:cN)(base:Nat)(tab:List RI)(s:DS):List Nat→Bool
 | []=>true
 |j::l=>(match dA tab j with|some y=>jb cl base s y|none=>false)&&iP cl base tab s l
def bT(cl:cN)(base:Nat)(FL:List Nat)(tab:List RI):List RI→DS→Option DS
 | [],s=>some s
 |x::l,s=>match az cl base FL x s with
  |some s'=>if iP cl base tab s' x.rs then bT cl base FL tab l s' else none
  |none=>none
def bB(ci:CI):List Nat:=match ci.g with
 |some (t,_)=>t::ci.op.reads
 |none=>ci.op.reads
def kW(d:Option Nat)(l:List Nat):Bool:=match d with
 |some d=>!l.any (Nat.beq d)
 |none=>true
def kZ(d e:Option Nat):Bool:=match d,e with
 |some d,some e=>!Nat.beq d e
 |_,_=>true
def RI.kd(x:RI):Kd:=x.ci.op.kind
def indep(x y:RI):Bool:=
 kW x.ci.d (bB y.ci)&&kW y.ci.d (bB x.ci)&&kZ x.ci.d y.ci.d&&!y.fl.any (Nat.beq x.k)&&!x.fl.any (Nat.beq y.k)&&
 (match x.kd,y.kd with
  |.eff,.eff=>false
  |.eff,.rd=>false
  |.rd,.eff=>y.rs.any (Nat.beq x.k)
  |_,_=>true)
def leaves(x y:RI):Bool:=kW y.ci.d (bB x.ci)&&kZ y.ci.d x.ci.d&&!x.fl.any (Nat.beq y.k)
def w6(tab:List RI)(RS:List Nat)(x y:RI):Bool:=
 !Nat.beq x.k y.k&&(Nat.testBit y.anc x.k||indep x y)&&
 (!RS.any (Nat.beq x.k)||leaves x y)&&
 x.rs.all fun j=>match dA tab j with|some z=>leaves z y|none=>false
def mR(tab:List RI)(RS:List Nat):List RI→Bool
 | []=>true
 |x::l=>l.all (w6 tab RS x)&&mR tab RS l
def og(tab:List RI):List Edge→Nat
 | []=>0
 |e::l=>cond (Region.binds .any e) (Nat.lor (Nat.lor (2 ^ e.on) (match dA tab e.on with|some y=>y.anc|none=>0)) (og tab l)) (og tab l)
def aAX(P:Program)(nt:Nat)(ops:Array Oper)(FL:List Nat)(tab:List RI)(x:RI):Bool:=match ops[x.k]? with
 |some o=>(match x.kd with
   |.eff=>FL.all fun k=>!Nat.testBit x.anc k||x.fl.any (Nat.beq k)
   |.new=>FL.any (Nat.beq x.k)&&x.rs.isEmpty
   |.rd=>x.rs.isEmpty&&kW x.ci.d (bB x.ci)&&!x.fl.any (Nat.beq x.k)
   |.pure=>x.rs.isEmpty)&&okI P nt ops x.ci o&&Nat.beq x.anc (og tab o.after.toList)&&o.after.toList.all (fun e=>!Region.binds .any e||Nat.blt e.on x.k)
 |none=>false
def aBu(ops:Array Oper)(done:List Nat):List RI→Bool
 | []=>true
 |x::l=>(match ops[x.k]? with
  |some o=>o.after.toList.all fun e=>!Region.binds .any e||done.any (Nat.beq e.on)
  |none=>false)&&aBu ops (x.k::done) l
def dok(P:Program)(nt:Nat)(ops:Array Oper)(n:Nat)(FL:List Nat)(l:List RI):Bool:=Nat.beq n ops.size&&(List.range n).all (fun k=>(dA l k).isSome)&&l.all (aAX P nt ops FL l)&&mR l (l.flatMap (·.rs)) l&&aBu ops [] l
theorem dg{k id:Nat}{x:Blk}{l:List (Nat×Blk)}:bQ ((k,x)::l) id=if k=id then some x else bQ l id:=by
 simp only[bQ];cases hb:Nat.beq k id with
 |true=>have:=Nat.eq_of_beq_eq_true hb;simp[this]
 |false=>have:=Nat.ne_of_beq_eq_false hb;simp[this]
theorem dL{F:List (Nat×Blk)}{h:Heap}(id:Nat):(cy F h).getM id=h.getM id:=by
 induction F with
 |nil=>rfl
 |cons p l ih=>simp only[cy,Heap.il];exact ih
theorem eK{base:Nat}{F:List (Nat×Blk)}{fl:List Nat}{h:Heap}(id:Nat):(bm base F fl h).getM id=h.getM id:=by
 induction fl with
 |nil=>rfl
 |cons k l ih=>
  simp only[bm];split
  ·rw[Heap.il];exact ih
  ·exact ih
theorem dN{F:List (Nat×Blk)}{h:Heap}(id:Nat):(cy F h).get id=match bQ F id with|some b=>some b|none=>h.get id:=by
 induction F with
 |nil=>rfl
 |cons p l ih=>
  obtain⟨k,b⟩:=p;simp only[cy,Heap.aQ,dg];by_cases e:id=k
  ·simp[e]
  ·have:¬k=id:=fun e'=>e e'.symm
   simp only[e,this,if_false];exact ih
theorem pI{base:Nat}{F:List (Nat×Blk)}{fl:List Nat}{h:Heap}{id:Nat}{b:Blk}(hg:(bm base F fl h).get id=some b):(bQ F id=some b∧∃k,k∈fl∧id=base+k)∨h.get id=some b:=by
 induction fl with
 |nil=>exact .inr hg
 |cons k l ih=>
  simp only[bm]at hg;split at hg
  ·rename_i b' hb;rw[Heap.aQ]at hg;split at hg
   ·rename_i e;cases hg;subst e;exact .inl ⟨hb,k,by simp,rfl⟩
   ·rcases ih hg with⟨h1,k',h2,h3⟩|h1
    ·exact .inl ⟨h1,k',by simp[h2],h3⟩
    ·exact .inr h1
  ·rcases ih hg with⟨h1,k',h2,h3⟩|h1
   ·exact .inl ⟨h1,k',by simp[h2],h3⟩
   ·exact .inr h1
theorem oY{base:Nat}{F F':List (Nat×Blk)}{fl:List Nat}{h:Heap}(hF:∀k,k∈fl→bQ F' (base+k)=bQ F (base+k)):bm base F' fl h=bm base F fl h:=by
 induction fl with
 |nil=>rfl
 |cons k l ih=>simp only[bm,hF k (by simp),ih fun k hk=>hF k (by simp[hk])]
theorem gv{base:Nat}{fl:List Nat}{F:List (Nat×Blk)}(id:Nat):bQ (eF base fl F) id=if∃k,k∈fl∧base+k=id then none else bQ F id:=by
 induction F with
 |nil=>simp[eF,bQ]
 |cons p l ih=>
  obtain⟨k,b⟩:=p;simp only[eF];cases hc:(fl.any fun k'=>Nat.beq (base+k') k)with
  |true=>
   simp only[cond_true,ih,dg];rw[List.any_eq_true]at hc;obtain⟨k',h1,h2⟩:=hc;have h2:=Nat.eq_of_beq_eq_true h2;by_cases e:k=id
   ·rw[if_pos ⟨k',h1,h2.trans e⟩,if_pos ⟨k',h1,h2.trans e⟩]
   ·simp[e]
  |false=>
   simp only[cond_false,dg,ih];by_cases e:k=id
   ·subst e;have:¬∃k',k'∈fl∧base+k'=k:=by rintro⟨k',h1,h2⟩;have:(fl.any fun k'=>Nat.beq (base+k') k)=true:=List.any_eq_true.2 ⟨k',h1,by simpa using h2⟩;rw[this]at hc;simp at hc
    simp[this]
   ·simp[e]
theorem qY{base:Nat}{fl:List Nat}{F:List (Nat×Blk)}{p:Nat×Blk}(h:p∈eF base fl F):p∈F:=by
 induction F with
 |nil=>simp[eF]at h
 |cons q l ih=>
  simp only[eF]at h;cases hc:(fl.any fun k=>Nat.beq (base+k) q.1)with
  |true=>rw[hc]at h;simp only[cond_true]at h;exact List.mem_cons_of_mem _ (ih h)
  |false=>
   rw[hc]at h;simp only[cond_false,List.mem_cons]at h;rcases h with rfl|h
   ·simp
   ·exact List.mem_cons_of_mem _ (ih h)
theorem xj{base:Nat}{fl:List Nat}{F:List (Nat×Blk)}{p:Nat×Blk}(h:p∈eF base fl F):∀k,k∈fl→base+k≠p.1:=by
 induction F with
 |nil=>simp[eF]at h
 |cons q l ih=>
  simp only[eF]at h;cases hc:(fl.any fun k=>Nat.beq (base+k) q.1)with
  |true=>rw[hc]at h;simp only[cond_true]at h;exact ih h
  |false=>
   rw[hc]at h;simp only[cond_false,List.mem_cons]at h;rcases h with rfl|h
   ·intro k hk e;have:(fl.any fun k=>Nat.beq (base+k) p.1)=true:=List.any_eq_true.2 ⟨k,hk,by simpa using e⟩;rw[this]at hc;simp at hc
   ·exact ih h
theorem rW{F:List (Nat×Blk)}{id:Nat}{b:Blk}(h:bQ F id=some b):(id,b)∈F:=by
 induction F with
 |nil=>simp[bQ]at h
 |cons p l ih=>
  obtain⟨k,x⟩:=p;rw[dg]at h;split at h
  ·rename_i e;cases h;subst e;simp
  ·exact List.mem_cons_of_mem _ (ih h)
theorem ja{l:List RI}{k:Nat}{x:RI}(h:dA l k=some x):x∈l∧x.k=k:=by
 induction l with
 |nil=>simp[dA]at h
 |cons y l ih=>
  simp only[dA]at h;cases hb:Nat.beq y.k k with
  |true=>rw[hb]at h;simp only[cond_true,Option.some.injEq]at h;subst h;exact⟨by simp,Nat.eq_of_beq_eq_true hb⟩
  |false=>rw[hb]at h;simp only[cond_false]at h;exact⟨List.mem_cons_of_mem _ (ih h).1,(ih h).2⟩
theorem bP{d:Option Nat}{r:CVal}{ts:Ts}(t:Nat):look (cO d r ts) t=if d=some t then some r else look ts t:=by
 cases d with
 |none=>simp[cO]
 |some d=>
  simp only[cO,look];cases hb:Nat.beq d t with
  |true=>have:=Nat.eq_of_beq_eq_true hb;simp[this]
  |false=>have:=Nat.ne_of_beq_eq_false hb;simp[this]
theorem gO{d:Option Nat}{l:List Nat}(h:kW d l=true){t:Nat}(ht:t∈l):d≠some t:=by intro e;subst e;simp only[kW,Bool.not_eq_true',List.any_eq_false]at h;exact h t ht (by simp)
theorem kh{d e:Option Nat}(h:kZ d e=true){t:Nat}(hd:d=some t):e≠some t:=by intro he;subst hd;subst he;simp[kZ]at h
theorem gz{l:List Nat}{k:Nat}(h:(!l.any (Nat.beq k))=true):k∉l:=by intro hk;simp only[Bool.not_eq_true',List.any_eq_false]at h;exact h k hk (by simp)
end Go.Cq
namespace Go.Cq
open Go.RowKit
variable{cl:cN}{base:Nat}{FL:List Nat}{tab:List RI}
structure Plus(d:Option Nat)(r:CVal)(fb:Option (Nat×Blk))(s u:DS):Prop where
 ts:∀t,look u.ts t=if d=some t then some r else look s.ts t
 h:u.h=s.h
 c:u.c=s.c
 F:∀id,bQ u.F id=match fb with|some (k,b)=>if k=id then some b else bQ s.F id|none=>bQ s.F id
abbrev Eqv:=Plus none .gone none
theorem Eqv.of{s u:DS}(h1:∀t,look u.ts t=look s.ts t)(h2:u.h=s.h)(h3:u.c=s.c)(h4:∀id,bQ u.F id=bQ s.F id):Eqv s u:=⟨fun t=>by simp[h1],h2,h3,h4⟩
theorem Eqv.refl(s:DS):Eqv s s:=Eqv.of (fun _=>rfl) rfl rfl (fun _=>rfl)
theorem Eqv.trans{s u v:DS}(h:Eqv s u)(k:Eqv u v):Eqv s v:=Eqv.of (fun t=>by rw[k.ts,if_neg (by simp),h.ts,if_neg (by simp)]) (k.h.trans h.h) (k.c.trans h.c) (fun id=>(k.F id).trans (h.F id))
structure Apart(base:Nat)(d:Option Nat)(fb:Option (Nat×Blk))(x:RI):Prop where
 rd:∀t,t∈bB x.ci→d≠some t
 wr:∀t,x.ci.d=some t→d≠some t
 fl:∀k b,fb=some (k,b)→∀j,j∈x.fl→base+j≠k
theorem eo{ci:CI}{t:Nat}(h:t∈ci.op.reads):t∈bB ci:=by unfold bB;split<;>simp[h]
theorem iR{ci:CI}{t:Nat}{b:Bool}(h:ci.g=some (t,b)):t∈bB ci:=by simp[bB,h]
section
variable{d:Option Nat}{r:CVal}{fb:Option (Nat×Blk)}{s u:DS}{x:RI}
theorem Plus.wanted(hp:Plus d r fb s u)(ha:∀t,t∈bB x.ci→d≠some t):bH u.ts x.ci.g=bH s.ts x.ci.g:=e8 fun t b hg=>by rw[hp.ts,if_neg (ha t (iR hg))]
theorem Plus.aDI(hp:Plus d r fb s u)(ha:∀t,t∈bB x.ci→d≠some t):cD x.ci.op.reads s.ts u.ts:=fun t ht=>by rw[hp.ts,if_neg (ha t (eo ht))]
theorem Plus.bm(hp:Plus d r fb s u)(ha:∀k b,fb=some (k,b)→∀j,j∈x.fl→base+j≠k):bm base u.F x.fl u.h=bm base s.F x.fl s.h:=by
 rw[hp.h];refine oY fun j hj=>?_
 rw[hp.F];cases fb with
 |none=>rfl
 |some p=>obtain⟨k,b⟩:=p;exact if_neg (fun e=>ha k b rfl j hj e.symm)
theorem Plus.put(hp:Plus d r fb s u){e:Option Nat}(ha:∀t,e=some t→d≠some t)(v:CVal)(t:Nat):look (cO e v u.ts) t=if d=some t then some r else look (cO e v s.ts) t:=by
 rw[bP,bP,hp.ts];by_cases h1:e=some t
 ·simp[h1,ha t h1]
 ·simp[h1]
theorem w5(hp:Plus d r fb s u)(ha:Apart base d fb x)(ho:∀k b,fb=some (k,b)→base+x.k≠k){s1:DS}(hs:az cl base FL x s=some s1):∃u1,az cl base FL x u=some u1∧Plus d r fb s1 u1:=by
 have hag:=hp.aDI ha.rd;have hfa:=hp.bm (base:=base) (x:=x) fun k b e=>ha.fl k b e
 unfold az at hs ⊢;rw[hp.wanted ha.rd];split at hs
 ·cases hs;exact⟨_,rfl,hp.put ha.wr _,hp.h,hp.c,hp.F⟩
 ·split at hs
  ·rename_i hkd;split at hs
   ·rename_i y hy;have hr:cD y.reads s.ts u.ts:=by rw[hy]at hag;exact hag
    split at hs
    ·rename_i b cv he;cases hs;simp only[NOp.ft hr,he];refine⟨_,rfl,hp.put ha.wr _,hp.h,hp.c,fun id=>?_⟩;simp only[dg,hp.F];cases fb with
     |none=>rfl
     |some p=>
      obtain⟨k,b'⟩:=p;have:=ho k b' rfl;simp only;by_cases h1:base+x.k=id
      ·by_cases h2:k=id
       ·exact absurd (h1.trans h2.symm) this
       ·simp[h1,h2]
      ·simp[h1]
    ·simp at hs
   ·simp at hs
  ·rw[COp.ft hag,hfa,hp.c];split at hs
   ·rename_i rr h' c' he;split at hs
    ·rename_i hcl;cases hs;rw[if_pos hcl];refine⟨_,rfl,hp.put ha.wr _,rfl,rfl,fun id=>?_⟩;simp only[gv,hp.F];cases fb with
     |none=>rfl
     |some p=>
      obtain⟨k,b'⟩:=p;have:=ha.fl k b' rfl;simp only;by_cases h1:∃j,j∈x.fl∧base+j=id
      ·obtain⟨j,hj,e⟩:=h1;have:¬k=id:=fun e'=>this j hj (e.trans e'.symm)
       simp[this,show∃j,j∈x.fl∧base+j=id from⟨j,hj,e⟩]
      ·simp[h1]
    ·simp at hs
   ·simp at hs
  ·rw[COp.ft hag,hfa,hp.c];split at hs
   ·cases hs;exact⟨_,rfl,hp.put ha.wr _,hp.h,rfl,hp.F⟩
   ·simp at hs
 ·simp at hs
theorem rV(hp:Plus d r fb s u)(ha:Apart base d fb x):jb cl base u x=jb cl base s x:=by
 unfold jb;rw[hp.wanted ha.rd,COp.ft (hp.aDI ha.rd),hp.bm (base:=base) (x:=x) fun k b e=>ha.fl k b e,hp.c];cases hd:x.ci.d with
 |none=>rfl
 |some t=>
  have:look u.ts t=look s.ts t:=by rw[hp.ts,if_neg (ha.wr t hd)]
  simp only[this]
theorem vc(hp:Plus d r fb s u):∀{l:List Nat},(∀j,j∈l→∀z,dA tab j=some z→Apart base d fb z)→iP cl base tab u l=iP cl base tab s l:=by
 intro l;induction l with
 |nil=>intro _;rfl
 |cons j l ih=>
  intro ha;simp only[iP];rw[ih fun j' hj'=>ha j' (by simp[hj'])];cases hz:dA tab j with
  |none=>rfl
  |some z=>simp only[rV hp (ha j (by simp) z hz)]
theorem lU:∀{l:List RI}{s u s1:DS},Plus d r fb s u→(∀x,x∈l→Apart base d fb x∧(∀k b,fb=some (k,b)→base+x.k≠k)∧∀j,j∈x.rs→∀z,dA tab j=some z→Apart base d fb z)→
  bT cl base FL tab l s=some s1→∃u1,bT cl base FL tab l u=some u1∧Plus d r fb s1 u1:=by
 intro l;induction l with
 |nil=>intro s u s1 hp _ hs;simp only[bT,Option.some.injEq]at hs ⊢;subst hs;exact⟨u,rfl,hp⟩
 |cons x l ih=>
  intro s u s1 hp ha hs;simp only[bT]at hs ⊢;split at hs
  ·rename_i s2 h2;split at hs
   ·rename_i hre;obtain⟨u2,g1,g2⟩:=w5 hp (ha x (by simp)).1 (ha x (by simp)).2.1 h2;rw[g1];simp only;rw[vc g2 (ha x (by simp)).2.2,if_pos hre];exact ih g2 (fun y hy=>ha y (by simp[hy])) hs
   ·simp at hs
  ·simp at hs
theorem Apart.nil(x:RI):Apart base none none x:=⟨fun _ _=>by simp,fun _ _=>by simp,fun _ _ h=>by simp at h⟩
theorem nW{l:List RI}{s u s1:DS}(h:Eqv s u)(hs:bT cl base FL tab l s=some s1):∃u1,bT cl base FL tab l u=some u1∧Eqv s1 u1:=lU h (fun x _=>⟨Apart.nil x,fun _ _ e=>by simp at e,fun _ _ z _=>Apart.nil z⟩) hs
theorem uo{s1:DS}(hs:az cl base FL x s=some s1){t:Nat}(ht:x.ci.d≠some t):look s1.ts t=look s.ts t:=by
 unfold az at hs;split at hs
 ·cases hs;rw[bP,if_neg ht]
 ·split at hs
  ·split at hs
   ·split at hs
    ·cases hs;rw[bP,if_neg ht]
    ·simp at hs
   ·simp at hs
  ·split at hs
   ·split at hs
    ·cases hs;rw[bP,if_neg ht]
    ·simp at hs
   ·simp at hs
  ·split at hs
   ·cases hs;rw[bP,if_neg ht]
   ·simp at hs
 ·simp at hs
theorem pY:∀{l:List RI}{s s1:DS},bT cl base FL tab l s=some s1→∀{t:Nat},(∀z,z∈l→z.ci.d≠some t)→look s1.ts t=look s.ts t:=by
 intro l;induction l with
 |nil=>intro s s1 hs t _;simp only[bT,Option.some.injEq]at hs;subst hs;rfl
 |cons x l ih=>
  intro s s1 hs t ht;simp only[bT]at hs;split at hs
  ·rename_i s2 h2;split at hs
   ·rw[ih hs fun z hz=>ht z (by simp[hz]),uo h2 (ht x (by simp))]
   ·simp at hs
  ·simp at hs
theorem oA{s1:DS}(hk:x.kd≠ .eff)(hs:az cl base FL x s=some s1):s1.h=s.h∧s1.c=s.c∧∀id,base+x.k≠id→bQ s1.F id=bQ s.F id:=by
 unfold az at hs;split at hs
 ·cases hs;exact⟨rfl,rfl,fun _ _=>rfl⟩
 ·split at hs
  ·split at hs
   ·split at hs
    ·cases hs;exact⟨rfl,rfl,fun id hid=>by rw[dg,if_neg hid]⟩
    ·simp at hs
   ·simp at hs
  ·rename_i hkd;exact absurd hkd hk
  ·split at hs
   ·cases hs;exact⟨rfl,rfl,fun _ _=>rfl⟩
   ·simp at hs
 ·simp at hs
theorem kH:∀{l:List RI}{s s1:DS},(∀z,z∈l→z.kd≠ .eff)→bT cl base FL tab l s=some s1→s1.h=s.h∧s1.c=s.c∧∀id,(∀z,z∈l→base+z.k≠id)→bQ s1.F id=bQ s.F id:=by
 intro l;induction l with
 |nil=>intro s s1 _ hs;simp only[bT,Option.some.injEq]at hs;subst hs;exact⟨rfl,rfl,fun _ _=>rfl⟩
 |cons x l ih=>
  intro s s1 hk hs;simp only[bT]at hs;split at hs
  ·rename_i s2 h2;split at hs
   ·obtain⟨g1,g2,g3⟩:=ih (fun z hz=>hk z (by simp[hz])) hs;obtain⟨k1,k2,k3⟩:=oA (hk x (by simp)) h2;exact⟨g1.trans k1,g2.trans k2,fun id hid=>(g3 id fun z hz=>hid z (by simp[hz])).trans (k3 id (hid x (by simp)))⟩
   ·simp at hs
  ·simp at hs
end
structure Leaves(base:Nat)(x y:RI):Prop where
 rd:∀t,t∈bB x.ci→y.ci.d≠some t
 wr:∀t,x.ci.d=some t→y.ci.d≠some t
 fl:∀j,j∈x.fl→j≠y.k
theorem r9{x y:RI}(h:leaves x y=true):Leaves base x y:=by unfold leaves at h;simp only[Bool.and_eq_true]at h;refine⟨fun t ht=>gO h.1.1 ht,fun t ht e=>?_,fun j hj e=>gz h.2 (e▸hj)⟩;exact kh h.1.2 e ht
structure Indep(base:Nat)(x y:RI):Prop where
 yx:∀t,t∈bB y.ci→x.ci.d≠some t
 xy:∀t,t∈bB x.ci→y.ci.d≠some t
 dd:∀t,x.ci.d=some t→y.ci.d≠some t
 yf:∀j,j∈y.fl→j≠x.k
 xf:∀j,j∈x.fl→j≠y.k
 e1:y.kd= .eff∨y.kd= .rd→x.kd≠ .eff
 e2:x.kd= .rd→y.kd= .eff→x.k∈y.rs
theorem aAn{x y:RI}(h:indep x y=true):Indep base x y:=by
 unfold indep at h;simp only[Bool.and_eq_true]at h;obtain⟨⟨⟨⟨⟨h1,h2⟩,h3⟩,h4⟩,h5⟩,h6⟩:=h;refine⟨fun t ht=>gO h1 ht,fun t ht=>gO h2 ht,fun t ht=>kh h3 ht,fun j hj e=>gz h4 (e▸hj),fun j hj e=>gz h5 (e▸hj),?_,?_⟩
 ·rintro(e|e) e'<;>simp[e,e']at h6
 ·intro e e';simp only[e,e']at h6;obtain⟨j,hj,hb⟩:=List.any_eq_true.1 h6;have:=Nat.eq_of_beq_eq_true hb;rw[this];exact hj
structure PairOk(base:Nat)(tab:List RI)(RS:List Nat)(x y:RI):Prop where
 ne:x.k≠y.k
 ord:Nat.testBit y.anc x.k=true∨Indep base x y
 re:x.k∈RS→Leaves base x y
 rs:∀j,j∈x.rs→∀z,dA tab j=some z→Leaves base z y
theorem xu{RS:List Nat}{x y:RI}(h:w6 tab RS x y=true):PairOk base tab RS x y:=by
 unfold w6 at h;simp only[Bool.and_eq_true,Bool.or_eq_true]at h;obtain⟨⟨⟨h1,h2⟩,h3⟩,h4⟩:=h;refine⟨fun e=>by rw[e]at h1;simp at h1,h2.imp id aAn,fun hx=>?_,fun j hj z hz=>?_⟩
 ·rcases h3 with h3|h3
  ·exact absurd hx (gz h3)
  ·exact r9 h3
 ·rw[List.all_eq_true]at h4;have:=h4 j hj;rw[hz]at this;exact r9 this
theorem tr{RS:List Nat}:∀{l:List RI},mR tab RS l=true→l.Pairwise (PairOk base tab RS):=by
 intro l;induction l with
 |nil=>intro _;exact .nil
 |cons x l ih=>intro h;simp only[mR,Bool.and_eq_true,List.all_eq_true]at h;exact .cons (fun y hy=>xu (h.1 y hy)) (ih h.2)
end Go.Cq
namespace Go.Cq
open Go.RowKit
variable{cl:cN}{base:Nat}{FL:List Nat}{tab:List RI}{RS:List Nat}
theorem te{i:RI}{s s1:DS}(hk:i.kd≠ .eff)(hs:az cl base FL i s=some s1):∃r fb,Plus i.ci.d r fb s s1∧(∀k b,fb=some (k,b)→k=base+i.k)∧
  ∀u:DS,u.h=s.h→cD (bB i.ci) s.ts u.ts→(∀j,j∈i.fl→bQ u.F (base+j)=bQ s.F (base+j))→u.c=s.c→∃u1,az cl base FL i u=some u1∧Plus i.ci.d r fb u u1:=by
 have plus:∀(v:DS)(r:CVal),Plus i.ci.d r none v {v with ts:=cO i.ci.d r v.ts}:=fun v r=>⟨fun t=>bP t,rfl,rfl,fun _=>rfl⟩
 have plus2:∀(v:DS)(r:CVal)(b:Blk),Plus i.ci.d r (some (base+i.k,b)) v {v with ts:=cO i.ci.d r v.ts,F:=(base+i.k,b)::v.F}:=fun v r b=>⟨fun t=>bP t,rfl,rfl,fun id=>dg⟩
 have hw:∀u:DS,cD (bB i.ci) s.ts u.ts→bH u.ts i.ci.g=bH s.ts i.ci.g:=fun u hu=>e8 fun t b hg=>hu t (iR hg)
 unfold az at hs;split at hs
 ·rename_i hwf;cases hs;refine⟨_,none,plus s _,by simp,fun u h1 h2 h3 h4=>⟨_,?_,plus u _⟩⟩;unfold az;rw[hw u h2,hwf]
 ·rename_i hwt;split at hs
  ·rename_i hkd;split at hs
   ·rename_i y hy;split at hs
    ·rename_i b cv he;cases hs;refine⟨_,_,plus2 s _ b,fun k b' e=>by simp only[Option.some.injEq,Prod.mk.injEq]at e;exact e.1.symm,fun u h1 h2 h3 h4=>⟨_,?_,plus2 u _ b⟩⟩;have hr:cD y.reads s.ts u.ts:=fun t ht=>h2 t (eo (by rw[hy];exact ht))
     unfold az;rw[hw u h2,hwt];simp only[hkd];simp only[hy,NOp.ft hr,he]
    ·simp at hs
   ·simp at hs
  ·rename_i hkd;exact absurd hkd hk
  ·rename_i hk1 hk2;split at hs
   ·rename_i rr h' c' he;cases hs;refine⟨_,none,plus s _,by simp,fun u h1 h2 h3 h4=>⟨_,?_,plus u _⟩⟩;have hr:cD i.ci.op.reads s.ts u.ts:=fun t ht=>h2 t (eo ht)
    have hf:bm base u.F i.fl u.h=bm base s.F i.fl s.h:=by rw[h1];exact oY h3
    unfold az;rw[hw u h2,hwt];rw[COp.ft hr,hf,h4,he];cases hkk:i.ci.op.kind with
    |new=>exact(hk1 hkk).elim
    |eff=>exact(hk2 hkk).elim
    |pure=>rfl
    |rd=>rfl
   ·simp at hs
 ·simp at hs
theorem jd{i:RI}{s s1:DS}(hk:i.kd= .pure∨i.kd= .new)(hs:az cl base FL i s=some s1):∃r fb,Plus i.ci.d r fb s s1∧(∀k b,fb=some (k,b)→k=base+i.k)∧
  ∀u:DS,cD (bB i.ci) s.ts u.ts→∃u1,az cl base FL i u=some u1∧Plus i.ci.d r fb u u1:=by
 have plus:∀(v:DS)(r:CVal),Plus i.ci.d r none v {v with ts:=cO i.ci.d r v.ts}:=fun v r=>⟨fun t=>bP t,rfl,rfl,fun _=>rfl⟩
 have plus2:∀(v:DS)(r:CVal)(b:Blk),Plus i.ci.d r (some (base+i.k,b)) v {v with ts:=cO i.ci.d r v.ts,F:=(base+i.k,b)::v.F}:=fun v r b=>⟨fun t=>bP t,rfl,rfl,fun id=>dg⟩
 have hw:∀u:DS,cD (bB i.ci) s.ts u.ts→bH u.ts i.ci.g=bH s.ts i.ci.g:=fun u hu=>e8 fun t b hg=>hu t (iR hg)
 unfold az at hs;split at hs
 ·rename_i hwf;cases hs;refine⟨_,none,plus s _,by simp,fun u h2=>⟨_,?_,plus u _⟩⟩;unfold az;rw[hw u h2,hwf]
 ·rename_i hwt;split at hs
  ·rename_i hkd;split at hs
   ·rename_i y hy;split at hs
    ·rename_i b cv he;cases hs;refine⟨_,_,plus2 s _ b,fun k b' e=>by simp only[Option.some.injEq,Prod.mk.injEq]at e;exact e.1.symm,fun u h2=>⟨_,?_,plus2 u _ b⟩⟩;have hr:cD y.reads s.ts u.ts:=fun t ht=>h2 t (eo (by rw[hy];exact ht))
     unfold az;rw[hw u h2,hwt];simp only[hkd];simp only[hy,NOp.ft hr,he]
    ·simp at hs
   ·simp at hs
  ·rename_i hkd;rcases hk with hk|hk
   ·exact absurd (hk.symm.trans hkd) (by simp)
   ·exact absurd (hk.symm.trans hkd) (by simp)
  ·rename_i hk1 hk2;split at hs
   ·rename_i rr h' c' he;cases hs;refine⟨_,none,plus s _,by simp,fun u h2=>⟨_,?_,plus u _⟩⟩;have hr:cD i.ci.op.reads s.ts u.ts:=fun t ht=>h2 t (eo ht)
    have hkp:i.ci.op.kind= .pure:=by
     rcases hk with hk|hk
     ·exact hk
     ·exact absurd hk hk1
    unfold az;rw[hw u h2,hwt];simp only[hkp];rw[COp.ft hr,(COp.ky hkp he).2.2]
   ·simp at hs
 ·simp at hs
theorem ga{l1 l2:List RI}:∀{s s':DS},bT cl base FL tab (l1++l2) s=some s'→∃s1,bT cl base FL tab l1 s=some s1∧bT cl base FL tab l2 s1=some s':=by
 induction l1 with
 |nil=>intro s s' h;exact⟨s,rfl,h⟩
 |cons x l ih=>
  intro s s' h;simp only[List.cons_append,bT]at h ⊢;split at h
  ·split at h
   ·rename_i h1 h2;rw[if_pos h2];exact ih h
   ·simp at h
  ·simp at h
theorem mC{l1 l2:List RI}:∀{s s1 s':DS},bT cl base FL tab l1 s=some s1→bT cl base FL tab l2 s1=some s'→bT cl base FL tab (l1++l2) s=some s':=by
 induction l1 with
 |nil=>intro s s1 s' h k;simp only[bT,Option.some.injEq]at h;subst h;exact k
 |cons x l ih=>
  intro s s1 s' h k;simp only[List.cons_append,bT]at h ⊢;split at h
  ·split at h
   ·rename_i h1 h2;rw[if_pos h2];exact ih h k
   ·simp at h
  ·simp at h
theorem vI{l1 l2:List RI}{i:RI}{s s':DS}(hk:i.kd≠ .eff)(hin:∀x,x∈l1→x.k≠i.k∧Indep base x i∧∀j,j∈x.rs→∀z,dA tab j=some z→Leaves base z i)(hs:bT cl base FL tab (l1++i::l2) s=some s'):∃s1 s'',az cl base FL i s=some s1∧bT cl base FL tab (l1++l2) s1=some s''∧Eqv s' s'':=by
 obtain⟨se,h1,h2⟩:=ga hs;simp only[bT]at h2;split at h2
 case h_2=>simp at h2
 rename_i si hi;split at h2
 case isFalse=>simp at h2
 have hag:cD (bB i.ci) s.ts se.ts:=fun t ht=>pY h1 fun z hz=>(hin z hz).2.1.yx t ht
 have hag':cD (bB i.ci) se.ts s.ts:=fun t ht=>(hag t ht).symm
 have main:∃r fb,Plus i.ci.d r fb se si∧(∀k b,fb=some (k,b)→k=base+i.k)∧∃u1,az cl base FL i s=some u1∧Plus i.ci.d r fb s u1:=by
  rcases hkd:i.kd with _|_|_|_
  ·obtain⟨r,fb,g1,g2,g3⟩:=jd (.inl hkd) hi;exact⟨r,fb,g1,g2,g3 s hag'⟩
  ·obtain⟨r,fb,g1,g2,g3⟩:=te hk hi;obtain⟨q1,q2,q3⟩:=kH (fun z hz=>(hin z hz).2.1.e1 (.inr hkd)) h1;exact⟨r,fb,g1,g2,g3 s q1.symm hag' (fun j hj=>(q3 (base+j) fun z hz e=>(hin z hz).2.1.yf j hj (by omega)).symm) q2.symm⟩
  ·obtain⟨r,fb,g1,g2,g3⟩:=jd (.inr hkd) hi;exact⟨r,fb,g1,g2,g3 s hag'⟩
  ·exact absurd hkd hk
 obtain⟨r,fb,g1,g2,u1,g3,g4⟩:=main;obtain⟨ue,k1,k2⟩:=lU (l:=l1) g4 (fun x hx=>by
  obtain⟨a0,a1,a2⟩:=hin x hx;refine⟨⟨a1.xy,fun t ht=>a1.dd t ht,fun k b e j hj e'=>?_⟩,fun k b e e'=>?_,fun j hj z hz=>?_⟩
  ·have:=g2 k b e;exact a1.xf j hj (by omega)
  ·have:=g2 k b e;omega
  ·have hl:=a2 j hj z hz;refine⟨hl.rd,hl.wr,fun k b e j' hj' e'=>?_⟩;have:=g2 k b e;exact hl.fl j' hj' (by omega)) h1
 have he:Eqv si ue:=Eqv.of (fun t=>(k2.ts t).trans (g1.ts t).symm) (k2.h.trans g1.h.symm) (k2.c.trans g1.c.symm) (fun id=>(k2.F id).trans (g1.F id).symm);obtain⟨s'',m1,m2⟩:=nW he h2;exact⟨u1,s'',g3,mC k1 m1,m2⟩
structure PlusE(base:Nat)(i:RI)(r:CVal)(h:Heap)(c:Nat)(s u:DS):Prop where
 ts:∀t,look u.ts t=if i.ci.d=some t then some r else look s.ts t
 h:u.h=h
 c:u.c=c
 F:∀id,bQ u.F id=if∃k,k∈i.fl∧base+k=id then none else bQ s.F id
theorem PlusE.eqv{i:RI}{r:CVal}{h:Heap}{c:Nat}{s u v:DS}(hu:PlusE base i r h c s u)(hv:PlusE base i r h c s v):Eqv u v:=Eqv.of (fun t=>(hv.ts t).trans (hu.ts t).symm) (hv.h.trans hu.h.symm) (hv.c.trans hu.c.symm) (fun id=>(hv.F id).trans (hu.F id).symm)
theorem jF{i:RI}{s s1:DS}(hk:i.kd= .eff)(hs:az cl base FL i s=some s1):(∃r h c,PlusE base i r h c s s1∧∀u:DS,u.h=s.h→cD (bB i.ci) s.ts u.ts→(∀j,j∈i.fl→bQ u.F (base+j)=bQ s.F (base+j))→u.c=s.c→∃u1,az cl base FL i u=some u1∧PlusE base i r h c u u1)∨(∃r,Plus i.ci.d r none s s1∧∀u:DS,cD (bB i.ci) s.ts u.ts→∃u1,az cl base FL i u=some u1∧Plus i.ci.d r none u u1):=by
 have hw:∀u:DS,cD (bB i.ci) s.ts u.ts→bH u.ts i.ci.g=bH s.ts i.ci.g:=fun u hu=>e8 fun t b hg=>hu t (iR hg)
 have hk':i.ci.op.kind= .eff:=hk;unfold az at hs;split at hs
 ·rename_i hwf;cases hs;refine .inr ⟨_,⟨fun t=>bP t,rfl,rfl,fun _=>rfl⟩,fun u h2=>⟨{u with ts:=cO i.ci.d (.tup []) u.ts},?_,⟨fun t=>bP t,rfl,rfl,fun _=>rfl⟩⟩⟩;unfold az;rw[hw u h2,hwf]
 ·rename_i hwt;simp only[hk']at hs;split at hs
  ·rename_i rr h' c' he;split at hs
   ·rename_i hcl;cases hs;refine .inl ⟨rr,h',c',⟨fun t=>bP t,rfl,rfl,fun id=>gv id⟩,fun u h1 h2 h3 h4=>⟨⟨cO i.ci.d rr u.ts,h',eF base i.fl u.F,c'⟩,?_,⟨fun t=>bP t,rfl,rfl,fun id=>gv id⟩⟩⟩;have hr:cD i.ci.op.reads s.ts u.ts:=fun t ht=>h2 t (eo ht)
    have hf:bm base u.F i.fl u.h=bm base s.F i.fl s.h:=by rw[h1];exact oY h3
    unfold az;rw[hw u h2,hwt];simp only[hk'];rw[COp.ft hr,hf,h4,he];simp only;rw[if_pos hcl]
   ·simp at hs
  ·simp at hs
 ·simp at hs
theorem aCm{x:RI}{s u s1:DS}(hkd:x.kd= .rd)(hre:jb cl base u x=true)(ht:cD (bB x.ci) s.ts u.ts)(hs:az cl base FL x s=some s1)(hd:∀t,x.ci.d=some t→look u.ts t=look s1.ts t){v:DS}(hv:cD (bB x.ci) s.ts v.ts)(hvh:v.h=u.h)(hvF:∀j,j∈x.fl→bQ v.F (base+j)=bQ u.F (base+j)):∃r,Plus x.ci.d r none s s1∧∃v1,az cl base FL x v=some v1∧Plus x.ci.d r none v v1:=by
 have hkd':x.ci.op.kind= .rd:=hkd;have hw:∀u:DS,cD (bB x.ci) s.ts u.ts→bH u.ts x.ci.g=bH s.ts x.ci.g:=fun u hu=>e8 fun t b hg=>hu t (iR hg)
 unfold jb at hre;rw[hw u ht]at hre;unfold az at hs;split at hs
 ·rename_i hwf;cases hs;refine⟨_,⟨fun t=>bP t,rfl,rfl,fun _=>rfl⟩,{v with ts:=cO x.ci.d (.tup []) v.ts},?_,⟨fun t=>bP t,rfl,rfl,fun _=>rfl⟩⟩;unfold az;rw[hw v hv,hwf]
 ·rename_i hwt;rw[hwt]at hre;simp only[hkd']at hs hre;split at hs
  ·rename_i r h1 c1 he;cases hs;split at hre
   ·rename_i r' h2 c2 he';have hr:cD x.ci.op.reads u.ts v.ts:=fun t ht'=>(hv t (eo ht')).trans (ht t (eo ht')).symm
    have hf:bm base v.F x.fl v.h=bm base u.F x.fl u.h:=by rw[hvh];exact oY hvF
    have hev:∃h3 c3,x.ci.op.ev cl (base+x.k) v.c (bm base v.F x.fl v.h) v.ts=some (r',h3,c3):=by rw[COp.ft hr,hf];exact⟨_,_,(COp.wz hkd' he').2.2 _ _⟩
    obtain⟨h3,c3,hev⟩:=hev;have hstep:az cl base FL x v=some {v with ts:=cO x.ci.d r' v.ts}:=by unfold az;rw[hw v hv,hwt];simp only[hkd',hev]
    have hrr:cO x.ci.d r s.ts=cO x.ci.d r' s.ts:=by
     cases hxd:x.ci.d with
     |none=>rfl
     |some t=>rw[hxd]at hre;simp only at hre;have hl:=hd t hxd;simp only[hxd,cO,look,Nat.beq_refl,cond_true]at hl;rw[hl]at hre;simp only[decide_eq_true_eq]at hre;rw[hre]
    refine⟨r',?_,_,hstep,⟨fun t=>bP t,rfl,rfl,fun _=>rfl⟩⟩;rw[hrr];exact⟨fun t=>bP t,rfl,rfl,fun _=>rfl⟩
   ·simp at hre
  ·simp at hs
 ·simp at hs
theorem aE6{i:RI}{r:CVal}{h':Heap}{c':Nat}{si:DS}:∀{l1:List RI}{s u se:DS},PlusE base i r h' c' s u→PlusE base i r h' c' se si→l1.Pairwise (PairOk base tab RS)→(∀x,x∈l1→x.kd≠ .eff∧x.rs=[]∧x.k≠i.k∧Indep base x i∧(x.kd= .rd→x.k∈RS∧jb cl base si x=true∧(∀t,t∈bB x.ci→x.ci.d≠some t)∧x.k∉x.fl))→
  bT cl base FL tab l1 s=some se→∃ue,bT cl base FL tab l1 u=some ue∧PlusE base i r h' c' se ue:=by
 intro l1;induction l1 with
 |nil=>intro s u se hp hq _ _ hs;simp only[bT,Option.some.injEq]at hs ⊢;subst hs;exact⟨u,rfl,hp⟩
 |cons x l ih=>
  intro s u se hp hq hpw hx hs;obtain⟨hkd,hrs,hne,hin,hre⟩:=hx x (by simp);obtain⟨hp1,hp2⟩:=List.pairwise_cons.1 hpw;simp only[bT,hrs,iP,if_true]at hs ⊢;split at hs
  case h_2=>simp at hs
  rename_i s1 h1;have hag:cD (bB x.ci) s.ts u.ts:=fun t ht=>by rw[hp.ts,if_neg (hin.xy t ht)]
  have hFu:∀j,j∈x.fl→bQ u.F (base+j)=if∃k,k∈i.fl∧base+k=base+j then none else bQ s.F (base+j):=fun j _=>hp.F _
  have main:∃rx fb,Plus x.ci.d rx fb s s1∧(∀k b,fb=some (k,b)→k=base+x.k)∧∃u1,az cl base FL x u=some u1∧Plus x.ci.d rx fb u u1:=by
   rcases hkx:x.kd with _|_|_|_
   ·obtain⟨rx,fb,g1,g2,g3⟩:=jd (.inl hkx) h1;exact⟨rx,fb,g1,g2,g3 u hag⟩
   ·obtain⟨hR,hok,hs1,hs2⟩:=hre hkx;have hts:∀t,(∀z,z∈l→z.ci.d≠some t)→i.ci.d≠some t→look si.ts t=look s1.ts t:=fun t h2 h3=>by rw[hq.ts,if_neg h3];exact pY hs h2
    have hq1:=oA (by rw[hkx];simp) h1;obtain⟨rx,g1,v1,g2,g3⟩:=aCm (s:=s) (u:=si) (v:=u) hkx hok (fun t ht=>by
      rw[hts t (fun z hz=>((hp1 z hz).re hR).rd t ht) (hin.xy t ht),uo h1 (hs1 t ht)]) h1
     (fun t ht=>hts t (fun z hz=>((hp1 z hz).re hR).wr t ht) (hin.dd t ht)) hag (hp.h.trans hq.h.symm) (fun j hj=>by
      rw[hp.F,hq.F];obtain⟨-, -,q3⟩:=kH (fun z hz=>(hx z (by simp[hz])).1) hs;have:bQ se.F (base+j)=bQ s1.F (base+j):=q3 _ fun z hz e=>((hp1 z hz).re hR).fl j hj (by omega)
      rw[this];rw[hq1.2.2 _ fun e=>hs2 (by
                      have:x.k=j:=by omega
                      rw[this];exact hj)])
    exact⟨rx,none,g1,by simp,v1,g2,g3⟩
   ·obtain⟨rx,fb,g1,g2,g3⟩:=jd (.inr hkx) h1;exact⟨rx,fb,g1,g2,g3 u hag⟩
   ·exact absurd hkx hkd
  obtain⟨rx,fb,g1,g2,u1,g3,g4⟩:=main;rw[g3];refine ih (s:=s1) (u:=u1) ⟨fun t=>?_,g4.h.trans hp.h,g4.c.trans hp.c,fun id=>?_⟩ hq hp2 (fun y hy=>hx y (by simp[hy])) hs
  ·rw[g4.ts,g1.ts,hp.ts];by_cases e1:x.ci.d=some t
   ·simp[e1,hin.dd t e1]
   ·simp[e1]
  ·rw[g4.F,g1.F,hp.F];cases fb with
   |none=>rfl
   |some p=>
    obtain⟨k,b⟩:=p;have hkk:=g2 k b rfl;simp only;by_cases e1:k=id
    ·have:¬∃k',k'∈i.fl∧base+k'=id:=by rintro⟨k',h2,h3⟩;exact hin.yf k' h2 (by omega)
     simp[e1,this]
    ·simp[e1]
theorem xa{l1 l2:List RI}{i:RI}{s s':DS}(hk:i.kd= .eff)(hpw:l1.Pairwise (PairOk base tab RS))(hall:∀x,x∈l1→x.kd≠ .eff∧x.rs=[]∧x.k≠i.k∧Indep base x i∧(x.kd= .rd→dA tab x.k=some x∧x.k∈RS∧(∀t,t∈bB x.ci→x.ci.d≠some t)∧x.k∉x.fl))(hs:bT cl base FL tab (l1++i::l2) s=some s'):∃s1 s'',az cl base FL i s=some s1∧bT cl base FL tab (l1++l2) s1=some s''∧Eqv s' s'':=by
 obtain⟨se,h1,h2⟩:=ga hs;simp only[bT]at h2;split at h2
 case h_2=>simp at h2
 rename_i si hi;split at h2
 case isFalse=>simp at h2
 rename_i hre;have hag:cD (bB i.ci) se.ts s.ts:=fun t ht=>(pY h1 fun z hz=>(hall z hz).2.2.2.1.yx t ht).symm
 obtain⟨q1,q2,q3⟩:=kH (fun z hz=>(hall z hz).1) h1;rcases jF hk hi with⟨r,h',c',g1,g2⟩| ⟨r,g1,g2⟩
 ·obtain⟨u1,g3,g4⟩:=g2 s q1.symm hag (fun j hj=>(q3 (base+j) fun z hz e=>(hall z hz).2.2.2.1.yf j hj (by omega)).symm) q2.symm;have hre':∀j,j∈i.rs→∀z,dA tab j=some z→jb cl base si z=true:=by
   have:∀l:List Nat,iP cl base tab si l=true→∀j,j∈l→∀z,dA tab j=some z→jb cl base si z=true:=by
    intro l;induction l with
    |nil=>intro _ j hj;simp at hj
    |cons a l ih=>
     intro h j hj z hz;simp only[iP,Bool.and_eq_true]at h;rcases List.mem_cons.1 hj with rfl|hj
     ·rw[hz]at h;exact h.1
     ·exact ih h.2 j hj z hz
   exact this i.rs hre
  obtain⟨ue,k1,k2⟩:=aE6 (RS:=RS) g4 g1 hpw (fun x hx=>by obtain⟨a1,a2,a3,a4,a5⟩:=hall x hx;refine⟨a1,a2,a3,a4,fun hrd=>?_⟩;obtain⟨b1,b2,b3,b4⟩:=a5 hrd;exact⟨b2,hre' x.k (a4.e2 hrd hk) x b1,b3,b4⟩) h1;obtain⟨s'',m1,m2⟩:=nW (g1.eqv k2) h2;exact⟨u1,s'',g3,mC k1 m1,m2⟩
 ·obtain⟨u1,g3,g4⟩:=g2 s hag;obtain⟨ue,k1,k2⟩:=lU (l:=l1) g4 (fun x hx=>by obtain⟨a1,a2,a3,a4,a5⟩:=hall x hx;refine⟨⟨a4.xy,fun t ht=>a4.dd t ht,fun k b e=>by simp at e⟩,fun k b e=>by simp at e,fun j hj=>?_⟩;rw[a2]at hj;simp at hj) h1;have he:Eqv si ue:=Eqv.of (fun t=>(k2.ts t).trans (g1.ts t).symm) (k2.h.trans g1.h.symm) (k2.c.trans g1.c.symm) (fun id=>(k2.F id).trans (g1.F id).symm);obtain⟨s'',m1,m2⟩:=nW he h2;exact⟨u1,s'',g3,mC k1 m1,m2⟩
end Go.Cq
namespace Go.Cq
open Go.RowKit
section
variable{P:Program}{nt:Nat}{K:Nat→Prop}{w0:World}{A0:Nat→Nd}{U0:Nat→Prop}{c0:Nat}{cl:cN}{ops:Array Oper}
variable{base:Nat}{FL:List Nat}{tab:List RI}{RS:List Nat}
theorem Sim.aEP{A:Nat→Nd}{h hk:Heap}{U:Nat→Prop}{w w':World}(hs:Sim A h U K w0 w)(hsub:∀id b,hk.get id=some b→h.get id=some b)(hsm:∀id,hk.getM id=h.getM id){new:Nat→Prop}{A':Nat→Nd}{h':Heap}{U':Nat→Prop}(hp:Post new A hk U w A' h' U' w'){H:Heap}(hH:∀id b,H.get id=some b→h'.get id=some b∨h.get id=some b∧hk.get id=none)(hHm:∀id,H.getM id=h'.getM id):Sim A' H U' K w0 w':=by
 have hb:=(hs.sub hsub (fun _ h=>h) fun id x hx=>(hsm id).symm.trans hx).back hp.sim hp.ext;have hout:∀{id b},h.get id=some b→hk.get id=none→(A id).blk<w.heap.size∧¬Liv A hk (A id).blk∧A' id=A id:=by
  intro id b h1 h2;refine⟨hs.lt h1,?_,hp.ext id (hs.live id b h1).1⟩;rintro(⟨id2,b2,h3,hro,h4⟩| ⟨id2,x2,h3,h4⟩)
  ·have:=(hs.inj id2 id b2 b (hsub _ _ h3) h1 h4).elim (fun h=>h) fun h=>by rw[hro]at h;simp at h
   subst this;rw[h3]at h2;simp at h2
  ·rw[hsm]at h3;obtain⟨-, -, -,o,k4,k5⟩:=hs.maps id2 x2 h3;obtain⟨-, -,c,e,fr,k6, -⟩:=hs.live id b h1;rw[h4,k6]at k4;simp only[Option.some.injEq]at k4;exact k5.lA k4.symm
 have hin:∀{id b},h'.get id=some b→b.ro=false→w.heap.size≤(A' id).blk∨Liv A hk (A' id).blk:=fun h1=>(hp.sim.live _ _ h1).2.1
 have hvw:∀{id b},H.get id=some b→(b.ro=true↔(A' id).blk< (A' 0).cap):=fun{id b} h1=>by
  rcases hH id b h1 with h2| ⟨h2,h3⟩
  ·exact hb.vw.2.2 id b h2
  ·rw[(hout h2 h3).2.2,hp.ext 0 hs.vw.1];exact hs.vw.2.2 id b h2
 have side:∀{id id':Nat}{b b':Blk},(b.ro=true↔(A' id).blk< (A' 0).cap)→(b'.ro=true↔(A' id').blk< (A' 0).cap)→(A' id).blk=(A' id').blk→(b.ro=false→False)→id=id'∨b.ro=true∧b'.ro=true:=fun{id id' b b'} h1 h2 he h3=>by
  have:b.ro=true:=by cases hb:b.ro with
   |true=>rfl
   |false=>exact(h3 hb).elim
  exact .inr ⟨this,h2.2 (he▸h1.1 this)⟩
 refine⟨hb.os,hb.tape,hb.output,hb.size,hb.old,fun id b h1=>?_,fun id id' b b' h1 h2 he=>?_,fun id x hx=>hb.maps id x ((hHm id).symm.trans hx),fun id id' x x' hx hx'=>hb.minj id id' x x' ((hHm id).symm.trans hx) ((hHm id').symm.trans hx'),hb.vw.1,hb.vw.2.1,fun id b h1=>hvw h1⟩
 ·rcases hH id b h1 with h2| ⟨h2,h3⟩
  ·exact hb.live id b h2
  ·obtain⟨k1,k2,c,e,fr,k3,k3',k4⟩:=hs.live id b h2;obtain⟨m1,m2,m3⟩:=hout h2 h3;rw[m3];refine⟨hp.sub id k1,k2,c,e,fr,?_,k3',k4.ext hp.ext hp.sub⟩;rw[hp.sim.old _ m1 m2];exact k3
 ·rcases hH id b h1 with h3| ⟨h3,h4⟩
  ·rcases hH id' b' h2 with h5| ⟨h5,h6⟩
   ·exact hb.inj id id' b b' h3 h5 he
   ·obtain⟨m1,m2,m3⟩:=hout h5 h6;refine side (hvw h1) (hvw h2) he fun hro=>?_
    rcases hin h3 hro with h7|h7
    ·rw[he,m3]at h7;omega
    ·rw[he,m3]at h7;exact absurd h7 m2
  ·obtain⟨m1,m2,m3⟩:=hout h3 h4;rcases hH id' b' h2 with h5| ⟨h5,h6⟩
   ·refine(side (hvw h2) (hvw h1) he.symm fun hro=>?_).elim (fun h=>.inl h.symm) fun h=>.inr h.symm
    rcases hin h5 hro with h7|h7
    ·rw[←he,m3]at h7;omega
    ·rw[←he,m3]at h7;exact absurd h7 m2
   ·obtain⟨-, -,n3⟩:=hout h5 h6;rw[m3,n3]at he;exact hs.inj id id' b b' h3 h5 he
structure DInv(nt:Nat)(K:Nat→Prop)(w0:World)(A0:Nat→Nd)(U0:Nat→Prop)(c0 base n:Nat)(FL:List Nat)(pend:Nat→Prop)(s:DS)(a:Act)(w:World):Prop where
 st:∃A U,Sim A (cy s.F s.h) U K w0 w∧cx A U s.ts a.tmps∧(∀id,s.c≤id→¬U id)∧(∀k,pend k→¬U (base+k))∧Ext A0 A U0∧(∀id,U0 id→U id)∧(∀id,U id→U0 id∨c0≤id∧id<s.c)
 pn:∀k,pend k→k<n
 tm:a.tmps.size=nt
 df:a.defers=[]
 lo:c0≤base
 hi:base+n≤s.c
 F:∀p,p∈s.F→∃k,k∈FL∧p.1=base+k
 H:∀p,p∈s.F→s.h.get p.1=none
theorem pM{F:List (Nat×Blk)}{h:Heap}(hF:∀p,p∈F→h.get p.1=none){fl:List Nat}{id:Nat}{b:Blk}(hg:(bm base F fl h).get id=some b):(cy F h).get id=some b:=by
 rw[dN];rcases pI hg with⟨h1, -⟩|h1
 ·rw[h1]
 ·cases hl:bQ F id with
  |none=>exact h1
  |some b'=>rw[hF _ (rW hl)]at h1;simp at h1
theorem td(hcl:gW P cl){n:Nat}{pend:Nat→Prop}{x:RI}{o:Oper}(ho:ops[x.k]?=some o)(hok:okI P nt ops x.ci o=true)(hxn:x.k<n)(hpx:pend x.k)(heff:x.kd= .eff→∀k,k∈FL→Nat.testBit x.anc k=true→k∈x.fl)(hnew:x.kd= .new→x.k∈FL){s s':DS}{a:Act}{w:World}(hs:DInv nt K w0 A0 U0 c0 base n FL pend s a w)(hr:az cl base FL x s=some s'){Kn:Act→World→Prop}{Q:Exit→Act→World→Prop}(hn:∀a' w',DInv nt K w0 A0 U0 c0 base n FL (fun k=>pend k∧k≠x.k) s' a' w'→Kn a' w'):wpOp P ops Q x.k Kn a w:=by
 obtain⟨⟨A,U,s1,s2,s5,s5',s6,s7,s8⟩,sn,s3,s4,slo,shi,sF,sH⟩:=hs;obtain⟨o1,o2,o3,o4⟩:=rJ hok;unfold wpOp;simp only[ho];unfold az at hr;split at hr
 ·rename_i hw;rw[km s2 o4 hw];simp only[Bool.false_eq_true,if_false];cases hr;refine hn _ _ ⟨⟨A,U,s1,?_,s5,fun k hk=>s5' k hk.1,s6,s7,s8⟩,fun k hk=>sn k hk.1,by rw[(en _ _ _).1];exact s3,by rw[(en _ _ _).2];exact s4,slo,shi,sF,sH⟩;rw[o1];exact kX s2 (fun t ht=>by rw[s3];exact o2 t ht) (um A U)
 ·rename_i hw;rw[km s2 o4 hw];simp only[if_true];refine .inl ?_;have hiu:¬U (base+x.k):=s5' _ hpx;have gen:∀{hk h':Heap}{r:CVal}{c':Nat}{F':List (Nat×Blk)},(∀id b,hk.get id=some b→(cy s.F s.h).get id=some b)→(∀id,hk.getM id=(cy s.F s.h).getM id)→x.ci.op.ev cl (base+x.k) s.c hk s.ts=some (r,h',c')→
    ∀H:DS,H.ts=cO x.ci.d r s.ts→H.c=c'→(∀id b,(cy H.F H.h).get id=some b→h'.get id=some b∨(cy s.F s.h).get id=some b∧hk.get id=none)→(∀id,(cy H.F H.h).getM id=h'.getM id)→
    (∀p,p∈H.F→∃k,k∈FL∧p.1=base+k)→(∀p,p∈H.F→H.h.get p.1=none)→(∀a' w',DInv nt K w0 A0 U0 c0 base n FL (fun k=>pend k∧k≠x.k) H a' w'→Kn a' w')→Oper.wp P o a w Kn Q:=by
   intro hk h' r c' F' hsub hsm he H e1 e2 e3 e3m e4 e5 hn;have hst:Sim A hk U (Liv A hk) w w:=(s1.sub hsub (fun _ h=>h) fun id y hy=>(hsm id).symm.trans hy).start;have hcc:=fun id(hid:s.c≤id)=>s5 id hid
   have hle:=(COp.sound (a:=a) (o:=o) (next:=fun _ _=>True) (Q:=Q) hcl hst s2 hiu hcc o3 he (fun _ _ _ _ _ _=>trivial)).1;refine(COp.sound (a:=a) (o:=o) hcl hst s2 hiu hcc o3 he ?_).2;intro v w' A' U' hp hv;refine hn _ _ ⟨⟨A',U',s1.aEP hsub hsm hp e3 e3m,?_,?_,?_,s6.trans (fun id hid=>hp.ext id (s7 id hid)) (fun _ h=>h),fun id hid=>hp.sub id (s7 id hid),?_⟩,fun k hk=>sn k hk.1,by rw[(en _ _ _).1];exact s3,by rw[(en _ _ _).2];exact s4,slo,by omega,e4,e5⟩
   ·rw[o1,e1];exact kX (s2.ext hp.ext hp.sub) (fun t ht=>by rw[s3];exact o2 t ht) hv
   ·intro id hid hU;rcases hp.new id hU with h1|h1|h1
    ·exact s5 id (by omega) h1
    ·omega
    ·omega
   ·intro k hk hU;have hkn:=hk.2;rcases hp.new _ hU with h1|h1|h1
    ·exact s5' k hk.1 h1
    ·omega
    ·have:=sn k hk.1;omega
   ·intro id hU;rcases hp.new id hU with h1|h1|h1
    ·rcases s8 id h1 with h2|h2
     ·exact .inl h2
     ·exact .inr ⟨h2.1,by omega⟩
    ·exact .inr ⟨by omega,by omega⟩
    ·exact .inr ⟨by omega,by omega⟩
  split at hr
  ·rename_i hkd;split at hr
   ·rename_i y hy;split at hr
    ·rename_i b cv he;cases hr;refine gen (F':=[]) (hk:=cy s.F s.h) (h':=(cy s.F s.h).set (base+x.k) (some b)) (fun _ _ h=>h) (fun _=>rfl) (by rw[hy];simp only[COp.ev,he]) {s with ts:=cO x.ci.d (.v (.one cv)) s.ts,F:=(base+x.k,b)::s.F} rfl rfl (fun id b' h=>.inl h) (fun _=>rfl) (fun p hp=>?_) (fun p hp=>?_) hn
     ·rcases List.mem_cons.1 hp with rfl|hp
      ·exact⟨x.k,hnew hkd,rfl⟩
      ·exact sF p hp
     ·rcases List.mem_cons.1 hp with rfl|hp
      ·show s.h.get (base+x.k)=none;cases hg:s.h.get (base+x.k)with
       |none=>rfl
       |some b0=>
        have:∃b1,(cy s.F s.h).get (base+x.k)=some b1:=by
         rw[dN];cases bQ s.F (base+x.k)with
         |none=>exact⟨_,hg⟩
         |some b1=>exact⟨_,rfl⟩
        obtain⟨b1,h1⟩:=this;exact absurd (s1.live _ _ h1).1 hiu
      ·exact sH p hp
    ·simp at hr
   ·simp at hr
  ·rename_i hkd;split at hr
   ·rename_i r h' c' he;split at hr
    ·rename_i hall;cases hr;refine gen (F':=[]) (fun _ _ h=>pM sH h) (fun _=>by simp only[dL,eK]) he _ rfl rfl (fun id b h=>?_) (fun _=>by simp only[dL]) (fun p hp=>sF p (qY hp)) (fun p hp=>?_) hn
     ·rw[dN]at h;cases hl:bQ (eF base x.fl s.F) id with
      |none=>rw[hl]at h;exact .inl h
      |some b1=>
       rw[hl]at h;cases h;have hl2:=hl;rw[gv]at hl;split at hl
       ·simp at hl
       ·rename_i hno;refine .inr ⟨by rw[dN,hl],?_⟩;cases hg:(bm base s.F x.fl s.h).get id with
        |none=>rfl
        |some b2=>
         rcases pI hg with⟨-,k,hk,e⟩|h1
         ·exact absurd ⟨k,hk,e.symm⟩ hno
         ·rw[sH _ (rW hl)]at h1;simp at h1
     ·obtain⟨k,hk,e⟩:=sF p (qY hp);rw[List.all_eq_true]at hall;have:=hall k hk;rw[Bool.or_eq_true]at this;rcases this with h1|h1
      ·exact absurd e.symm (xj hp k (heff hkd k hk h1))
      ·rw[e];simpa using h1
    ·simp at hr
   ·simp at hr
  ·rename_i hk1 hk2;split at hr
   ·rename_i r h1 c1 he;cases hr;have hq:h1=bm base s.F x.fl s.h∧c1=s.c:=by
     cases hkk:x.ci.op.kind with
     |new=>exact(hk1 hkk).elim
     |eff=>exact(hk2 hkk).elim
     |pure=>exact⟨(COp.ky hkk he).1,(COp.ky hkk he).2.1⟩
     |rd=>exact⟨(COp.wz hkk he).1,(COp.wz hkk he).2.1⟩
    obtain⟨rfl,rfl⟩:=hq;refine gen (F':=[]) (fun _ _ h=>pM sH h) (fun _=>by simp only[dL,eK]) he {s with ts:=cO x.ci.d r s.ts} rfl rfl (fun id b h=>?_) (fun _=>by simp only[dL,eK]) sF sH hn;cases hg:(bm base s.F x.fl s.h).get id with
    |none=>exact .inr ⟨h,rfl⟩
    |some b2=>have:=pM sH hg;rw[this]at h;cases h;exact .inl rfl
   ·simp at hr
 ·simp at hr
theorem testBit_or{a b i:Nat}(h:Nat.testBit (Nat.lor a b) i=true):Nat.testBit a i=true∨Nat.testBit b i=true:=by have:Nat.testBit (a|||b) i=true:=h;rw[Nat.testBit_or,Bool.or_eq_true]at this;exact this
theorem yW{i:Nat}:∀{l:List Edge},Nat.testBit (og tab l) i=true→∃e,e∈l∧Region.binds .any e=true∧(i=e.on∨∃y,dA tab e.on=some y∧Nat.testBit y.anc i=true):=by
 intro l;induction l with
 |nil=>intro h;simp[og]at h
 |cons e l ih=>
  intro h;simp only[og]at h;cases hb:Region.binds .any e with
  |false=>rw[hb]at h;obtain⟨e',h1,h2⟩:=ih h;exact⟨e',by simp[h1],h2⟩
  |true=>
   rw[hb]at h;simp only[cond_true]at h;rcases testBit_or h with h1|h1
   ·rcases testBit_or h1 with h2|h2
    ·refine⟨e,by simp,hb,.inl ?_⟩;rw[Nat.testBit_two_pow]at h2;simpa using(of_decide_eq_true h2).symm
    ·refine⟨e,by simp,hb,.inr ?_⟩;split at h2
     ·rename_i y hy;exact⟨y,hy,h2⟩
     ·simp at h2
   ·obtain⟨e',h1,h2⟩:=ih h1;exact⟨e',by simp[h1],h2⟩
structure OneOk(P:Program)(nt:Nat)(ops:Array Oper)(FL:List Nat)(tab:List RI)(x:RI)(o:Oper):Prop where
 get:ops[x.k]?=some o
 ok:okI P nt ops x.ci o=true
 anc:x.anc=og tab o.after.toList
 lt:∀e,e∈o.after.toList→Region.binds .any e=true→e.on<x.k
 eff:x.kd= .eff→∀k,k∈FL→Nat.testBit x.anc k=true→k∈x.fl
 new:x.kd= .new→x.k∈FL
 rs:x.kd≠ .eff→x.rs=[]
 rd:x.kd= .rd→(∀t,t∈bB x.ci→x.ci.d≠some t)∧x.k∉x.fl
theorem aAV{x:RI}(h:aAX P nt ops FL tab x=true):∃o,OneOk P nt ops FL tab x o:=by
 unfold aAX at h;split at h
 case h_2=>simp at h
 rename_i o ho;simp only[Bool.and_eq_true]at h;obtain⟨⟨⟨h1,h2⟩,h3⟩,h4⟩:=h;refine⟨o,ho,h2,Nat.eq_of_beq_eq_true h3,fun e he hb=>?_,fun hk k hk1 hk2=>?_,fun hk=>?_,fun hk=>?_,fun hk=>?_⟩
 ·rw[List.all_eq_true]at h4;have:=h4 e he;rw[hb]at this;simpa [Nat.blt_eq]using this
 ·rw[hk]at h1;simp only[List.all_eq_true]at h1;have:=h1 k hk1;rw[hk2]at this;simp only[Bool.not_true,Bool.false_or]at this;obtain⟨j,hj,hb⟩:=List.any_eq_true.1 this;rw[Nat.eq_of_beq_eq_true hb];exact hj
 ·rw[hk]at h1;simp only[Bool.and_eq_true]at h1;obtain⟨j,hj,hb⟩:=List.any_eq_true.1 h1.1;rw[Nat.eq_of_beq_eq_true hb];exact hj
 ·cases hkk:x.kd with
  |eff=>exact absurd hkk hk
  |new=>rw[hkk]at h1;simp only[Bool.and_eq_true,List.isEmpty_iff]at h1;exact h1.2
  |rd=>rw[hkk]at h1;simp only[Bool.and_eq_true,List.isEmpty_iff]at h1;exact h1.1.1
  |pure=>rw[hkk]at h1;simpa using h1
 ·rw[hk]at h1;simp only[Bool.and_eq_true]at h1;exact⟨fun t ht=>gO h1.1.2 ht,gz h1.2⟩
def aBZ(ops:Array Oper)(D:Nat→Prop):Prop:=∀k o,ops[k]?=some o→D k→∀e,e∈o.after.toList→Region.binds .any e=true→D e.on
theorem zg(hone:∀x,x∈tab→∃o,OneOk P nt ops FL tab x o){D:Nat→Prop}(hcl:aBZ ops D):∀(m:Nat){x:RI}{o:Oper},x.k<m→OneOk P nt ops FL tab x o→(∀e,e∈o.after.toList→Region.binds .any e=true→D e.on)→∀i,Nat.testBit x.anc i=true→D i:=by
 intro m;induction m with
 |zero=>intro x o h;omega
 |succ m ih=>
  intro x o hx ho hd i hi;rw[ho.anc]at hi;obtain⟨e,h1,h2,h3⟩:=yW hi;rcases h3 with rfl| ⟨y,hy,h4⟩
  ·exact hd e h1 h2
  ·obtain⟨m1,m2⟩:=ja hy;obtain⟨o',ho'⟩:=hone y m1;have hlt:=ho.lt e h1 h2;exact ih (by omega) ho' (fun e' he' hb'=>hcl y.k o' ho'.get (by rw[m2];exact hd e h1 h2) e' he' hb') i h4
inductive Topo(ops:Array Oper):(Nat→Prop)→List RI→Prop where
 |nil {D}:Topo ops D []
 |cons {D x l o} (ho:ops[x.k]?=some o) (h:∀e,e∈o.after.toList→Region.binds .any e=true→D e.on) (t:Topo ops (fun i=>D i∨i=x.k) l):Topo ops D (x::l)
theorem Topo.mono{D D':Nat→Prop}{l:List RI}(h:Topo ops D l)(hD:∀i,D i→D' i):Topo ops D' l:=by
 induction h generalizing D' with
 |nil=>exact .nil
 |cons ho h t ih=>exact .cons ho (fun e he hb=>hD _ (h e he hb)) (ih fun i hi=>hi.imp (hD i) id)
theorem Topo.remove{D:Nat→Prop}{l1 l2:List RI}{i:RI}(h:Topo ops D (l1++i::l2)):Topo ops (fun j=>D j∨j=i.k) (l1++l2):=by
 induction l1 generalizing D with
 |nil=>cases h with|cons ho h t=>exact t
 |cons x l ih=>
  cases h with
  |cons ho h t=>exact .cons ho (fun e he hb=>.inl (h e he hb)) ((ih t).mono fun j hj=>by rcases hj with(hj|hj)|hj<;>simp[hj])
theorem aCN:∀{l:List RI}{done:List Nat},aBu ops done l=true→Topo ops (· ∈done) l:=by
 intro l;induction l with
 |nil=>intro done _;exact .nil
 |cons x l ih=>
  intro done h;simp only[aBu,Bool.and_eq_true]at h;split at h
  case h_2=>simp at h
  rename_i o ho;refine .cons ho (fun e he hb=>?_) ((ih h.2).mono fun i hi=>?_)
  ·have:=List.all_eq_true.1 h.1 e he;rw[hb]at this;simp only[Bool.not_true,Bool.false_or]at this;obtain⟨j,hj,hb⟩:=List.any_eq_true.1 this;rw[Nat.eq_of_beq_eq_true hb];exact hj
  ·rcases List.mem_cons.1 hi with rfl|hi
   ·exact .inr rfl
   ·exact .inl hi
theorem yg(hcl:gW P cl){n:Nat}(hn:n=ops.size)(hone:∀x,x∈tab→∃o,OneOk P nt ops FL tab x o){sf:DS}{Q:Exit→Act→World→Prop}(hQ:∀se a w,Eqv sf se→DInv nt K w0 A0 U0 c0 base n FL (fun _=>False) se a w→Q .normal a w):
  ∀(m:Nat)(l:List RI)(listed:Array Bool)(s s':DS)(a:Act)(w:World),l.length=m→listed.size=n→
   (∀x,x∈l→x∈tab∧dA tab x.k=some x∧listed.getD x.k true=false)→(∀k,k<n→listed.getD k true=false→∃x,x∈l∧x.k=k)→
   (∀x,x∈l→x.kd= .rd→∀y,y∈l→y.kd= .eff→x.k∈y.rs→x.k∈RS)→
   l.Pairwise (PairOk base tab RS)→Topo ops (fun i=>listed.getD i false=true) l→aBZ ops (fun i=>listed.getD i false=true)→
   DInv nt K w0 A0 U0 c0 base n FL (fun k=>∃x,x∈l∧x.k=k) s a w→bT cl base FL tab l s=some s'→Eqv sf s'→wpAny P .any ops Q m listed a w:=by
 intro m;induction m with
 |zero=>
  intro l listed s s' a w hlen hsz hl1 hl2 hRS hpw htopo hclosed hs hr he;have hl:l=[]:=List.length_eq_zero_iff.1 hlen;subst hl;simp only[bT,Option.some.injEq]at hr;subst hr;refine⟨?_,hQ _ _ _ he ?_⟩
  ·rw[List.eq_nil_iff_forall_not_mem];intro k hk;obtain⟨h1,o,h2, -⟩:=mem_ready.1 hk;have hlt:k<n:=by rw[hn];exact(Array.getElem?_eq_some_iff.1 h2).1
   obtain⟨x,hx, -⟩:=hl2 k hlt h1;simp at hx
  ·obtain⟨A,U,s1,s2,s5,s5',rest⟩:=hs.st;exact⟨⟨A,U,s1,s2,s5,fun k h=>h.elim,rest⟩,fun k h=>h.elim,hs.tm,hs.df,hs.lo,hs.hi,hs.F,hs.H⟩
 |succ m ih=>
  intro l listed s s' a w hlen hsz hl1 hl2 hRS hpw htopo hclosed hs hr he;have hget:∀k,k<n→listed.getD k true=listed.getD k false:=fun k hk=>by
   have:k<listed.size:=by omega
   simp[Array.getD,this]
  refine⟨fun hnil=>?_,fun k hk=>?_⟩
  ·
   cases l with
   |nil=>simp at hlen
   |cons x l=>
    obtain⟨h1,h1',h2⟩:=hl1 x (by simp);cases htopo with
    |cons ho h t=>have:x.k∈Region.ready .any ops listed:=mem_ready.2 ⟨h2,_,ho,fun e he hb=>h e (by simpa using he) hb⟩;rw[hnil]at this;simp at this
  ·obtain⟨h1,o,h2,h3⟩:=mem_ready.1 hk;have hkn:k<n:=by rw[hn];exact(Array.getElem?_eq_some_iff.1 h2).1
   obtain⟨i,hi,rfl⟩:=hl2 k hkn h1;obtain⟨hit, -, -⟩:=hl1 i hi;obtain⟨o',oo⟩:=hone i hit;have:o'=o:=by have:=oo.get;rw[h2]at this;simpa using this.symm
   subst this;have hdone:∀e,e∈o'.after.toList→Region.binds .any e=true→listed.getD e.on false=true:=fun e he hb=>h3 e (by simpa using he) hb
   have hanc:=zg hone hclosed (i.k+1) (Nat.lt_succ_self _) oo hdone;obtain⟨l1,l2,rfl⟩:=List.append_of_mem hi;have hpw':=List.pairwise_append.1 hpw;have hpi:∀x,x∈l1→PairOk base tab RS x i:=fun x hx=>hpw'.2.2 x hx i (by simp)
   have hin:∀x,x∈l1→Indep base x i:=fun x hx=>by
    rcases(hpi x hx).ord with h|h
    ·have h5:=hanc x.k h;have h6:=(hl1 x (by simp[hx])).2.2;have hxn:x.k<n:=hs.pn _ ⟨x,by simp[hx],rfl⟩;rw[hget _ hxn,h5]at h6;simp at h6
    ·exact h
   have hfront:∃s1 s'',az cl base FL i s=some s1∧bT cl base FL tab (l1++l2) s1=some s''∧Eqv s' s'':=by
    by_cases hkd:i.kd= .eff
    ·refine xa (RS:=RS) hkd hpw'.1 (fun x hx=>?_) hr;have hx1:=(hin x hx).e1 (.inl hkd);obtain⟨ox,oox⟩:=hone x (hl1 x (by simp[hx])).1;refine⟨hx1,oox.rs hx1,(hpi x hx).ne,hin x hx,fun hrd=>⟨(hl1 x (by simp[hx])).2.1,?_,(oox.rd hrd).1,(oox.rd hrd).2⟩⟩;exact hRS x (by simp[hx]) hrd i (by simp) hkd ((hin x hx).e2 hrd hkd)
    ·exact vI hkd (fun x hx=>⟨(hpi x hx).ne,hin x hx,(hpi x hx).rs⟩) hr
   obtain⟨s1,s'',f1,f2,f3⟩:=hfront;have hne2:∀y,y∈l1++l2→y.k≠i.k:=fun y hy=>by
    rcases List.mem_append.1 hy with hy|hy
    ·exact(hpi y hy).ne
    ·exact fun e=>(List.pairwise_cons.1 hpw'.2.1).1 y hy |>.ne e.symm
   refine td hcl h2 oo.ok hkn ⟨i,by simp,rfl⟩ oo.eff oo.new hs f1 fun a' w' hs'=>?_
   refine ih (l1++l2) _ s1 s'' a' w' (by simp at hlen ⊢;omega) (by simpa using hsz) (fun x hx=>?_) (fun j hj hjl=>?_) (fun x hx hk1 y hy hk2 hxy=>?_) ?_ ?_ ?_ ?_ f2 (he.trans f3)
   ·have hx':x∈l1++i::l2:=by rcases List.mem_append.1 hx with h|h<;>simp[h]
    refine⟨(hl1 x hx').1,(hl1 x hx').2.1,?_⟩;rw[getD_set_ne true (hne2 x hx).symm];exact(hl1 x hx').2.2
   ·by_cases hji:i.k=j
    ·subst hji;exfalso;have:i.k<listed.size:=by omega
     simp[Array.getD,this]at hjl
    ·rw[getD_set_ne true hji]at hjl;obtain⟨x,hx,rfl⟩:=hl2 j hj hjl;refine⟨x,?_,rfl⟩;rcases List.mem_append.1 hx with h|h
     ·simp[h]
     ·rcases List.mem_cons.1 h with rfl|h
      ·exact absurd rfl hji
      ·simp[h]
   ·exact hRS x (by rcases List.mem_append.1 hx with h|h<;>simp[h]) hk1 y (by rcases List.mem_append.1 hy with h|h<;>simp[h]) hk2 hxy
   ·exact hpw.sublist (List.Sublist.append (List.Sublist.refl l1) (List.sublist_cons_self i l2))
   ·refine htopo.remove.mono fun j hj=>?_
    rcases hj with hj|rfl
    ·exact getD_set_true hj
    ·have:i.k<listed.size:=by omega
     simp[Array.getD,this]
   ·intro k o2 ho2 hD e he hb;by_cases hki:i.k=k
    ·subst hki;have:o2=o':=by rw[h2]at ho2;simpa using ho2.symm
     subst this;exact getD_set_true (hdone e he hb)
    ·rw[getD_set_ne false hki]at hD;exact getD_set_true (hclosed k o2 ho2 hD e he hb)
   ·obtain⟨A,U,q1,q2,q5,q5',rest⟩:=hs'.st;have hpend:∀k,(∃x,x∈l1++l2∧x.k=k)→(∃x,x∈l1++i::l2∧x.k=k)∧k≠i.k:=by rintro k ⟨x,hx,rfl⟩;exact⟨⟨x,by rcases List.mem_append.1 hx with h|h<;>simp[h],rfl⟩,hne2 x hx⟩
    exact⟨⟨A,U,q1,q2,q5,fun k hk=>q5' k (hpend k hk),rest⟩,fun k hk=>hs'.pn k (hpend k hk),hs'.tm,hs'.df,hs'.lo,hs'.hi,hs'.F,hs'.H⟩
theorem wL(hm:P.follows .mixedOrders=true)(hcl:gW P cl){n:Nat}{l:List RI}(hd:dok P nt ops n FL l=true){s:St}{s':DS}{a:Act}{w:World}{id:Nat}{Q:Exit→Act→World→Prop}(hs:Inv nt K w0 A0 U0 c0 s a w)(hr:bT cl s.c FL l l ⟨s.ts,s.h,[],s.c+n⟩=some s')(hn:∀a' w',Inv nt K w0 A0 U0 c0 ⟨s'.ts,cy s'.F s'.h,s'.c⟩ a' w'→Q .normal a' w'):(Code.region id ops true).wp P Q a w:=by
 unfold dok at hd;simp only[Bool.and_eq_true]at hd;obtain⟨⟨⟨⟨d1,d2⟩,d3⟩,d4⟩,d5⟩:=hd;have hn':=Nat.eq_of_beq_eq_true d1;have hone:∀x,x∈l→∃o,OneOk P nt ops FL l x o:=fun x hx=>aAV (List.all_eq_true.1 d3 x hx)
 have hpw:=tr (base:=s.c) d4;have hfind:∀x,x∈l→dA l x.k=some x:=by
  have:∀(l:List RI),l.Pairwise (fun x y=>x.k≠y.k)→∀x,x∈l→dA l x.k=some x:=by
   intro l;induction l with
   |nil=>intro _ x hx;simp at hx
   |cons y l ih=>
    intro hp x hx;obtain⟨p1,p2⟩:=List.pairwise_cons.1 hp;simp only[dA];rcases List.mem_cons.1 hx with rfl|hx
    ·simp
    ·have hne:=p1 x hx;cases hb:Nat.beq y.k x.k with
     |true=>exact absurd (Nat.eq_of_beq_eq_true hb) hne
     |false=>exact ih p2 x hx
  exact this l (hpw.imp fun h=>h.ne)
 refine wp_region_any hm ?_;obtain⟨A,U,s1,s2,s3,s4,s5,s6,s7,s8,s9⟩:=hs;refine yg (base:=s.c) (nt:=nt) (K:=K) (w0:=w0) (A0:=A0) (U0:=U0) (c0:=c0) (FL:=FL) (tab:=l) (RS:=l.flatMap (·.rs)) (sf:=s') hcl rfl hone ?_ ops.size l (Array.replicate ops.size false) ⟨s.ts,s.h,[],s.c+n⟩ s' _ _ ?_ (by simp) ?_ ?_ ?_ hpw ((aCN d5).mono fun i hi=>by simp at hi) ?_ ?_ hr (Eqv.refl s')
 ·intro se a w he hi;obtain⟨A,U,q1,q2,q5, -,q6,q7,q8⟩:=hi.st;refine hn _ _ ⟨A,U,q1.sub (fun id b hb=>?_) (fun _ h=>h) (fun id x hx=>?_),fun t x hx=>q2 t x ?_,hi.tm,hi.df,fun id hid=>q5 id (by rw[he.c];exact hid),q6,q7,fun id hid=>?_,?_⟩
  ·simp only[dN]at hb ⊢;rw[he.F,he.h];exact hb
  ·simp only[dL]at hx ⊢;rw[he.h];exact hx
  ·rw[he.ts,if_neg (by simp)];exact hx
  ·have:=q8 id hid;rw[he.c]at this;exact this
  ·have h1:=hi.lo;have h2:=hi.hi;rw[he.c]at h2;show c0≤s'.c;omega
 ·
  have h1:l.map (·.k)|>.Nodup:=by rw[List.nodup_iff_pairwise_ne,List.pairwise_map];exact hpw.imp fun h=>h.ne
  have h2:∀k,k∈l.map (·.k)↔k∈List.range ops.size:=by
   intro k;rw[List.mem_map,List.mem_range];constructor
   ·rintro⟨x,hx,rfl⟩;obtain⟨o,oo⟩:=hone x hx;exact(Array.getElem?_eq_some_iff.1 oo.get).1
   ·intro hk;have:=List.all_eq_true.1 d2 k (List.mem_range.2 (by omega));obtain⟨x,hx⟩:=Option.isSome_iff_exists.1 this;exact⟨x,(ja hx).1,(ja hx).2⟩
  have h3:=(List.perm_ext_iff_of_nodup h1 List.nodup_range).2 h2;have:=h3.length_eq;simpa using this
 ·intro x hx;refine⟨hx,hfind x hx,?_⟩;obtain⟨o,oo⟩:=hone x hx;have:=(Array.getElem?_eq_some_iff.1 oo.get).1;simp[Array.getD,this]
 ·intro k hk _;have:=List.all_eq_true.1 d2 k (List.mem_range.2 (by omega));obtain⟨x,hx⟩:=Option.isSome_iff_exists.1 this;exact⟨x,ja hx⟩
 ·intro x hx _ y hy _ hxy;exact List.mem_flatMap.2 ⟨y,hy,hxy⟩
 ·intro k o ho hD;have hlt:=(Array.getElem?_eq_some_iff.1 ho).1;simp[Array.getD,hlt]at hD
 ·refine⟨⟨A,U,⟨s1.os,s1.tape,s1.output,s1.size,s1.old,s1.live,s1.inj,s1.maps,s1.minj,s1.vw⟩,s2,fun id hid=>s5 id (by have:s.c+n≤id:=hid;omega),fun k _=>s5 _ (by omega),s6,s7,fun id hU=>?_⟩,?_,s3,s4,s9,?_,by simp,by simp⟩
  ·rcases s8 id hU with h|h
   ·exact .inl h
   ·exact .inr ⟨h.1,by show id<s.c+n;omega⟩
  ·rintro k ⟨x,hx,rfl⟩;obtain⟨o,oo⟩:=hone x hx;exact(Array.getElem?_eq_some_iff.1 oo.get).1
  ·show s.c+ops.size≤s.c+n;omega
end
end Go.Cq
namespace Go.Cq
open Go.RowKit
open Go.Tq (cB cq)
inductive CC where
 |skip
 |reg (l:List CI) (av:Option (List Nat))
 |draw (n:Nat) (FL:List Nat) (l:List RI) (av:Option (List Nat))
 |seq (a b:CC)
 |cond (x:Opd) (a b:CC)
 |blk (id:Nat) (a:CC)
 |loop (a:CC)
 |exit (id:Nat)
 |ret
inductive X where
 |nrm
 |ex (id:Nat)
 |ret
def X.lX:X→Exit
 |.nrm=>.normal
 |.ex id=>.exit id
 |.ret=>.ret
def St.av(s:St):Option (List Nat)→St
 |some k=>{s with ts:=prune k s.ts}
 |none=>s
def okC(P:Program)(nt:Nat):Code→CC→Bool
 |.skip,.skip=>true
 |.region _ ops false,.reg l _=>okL P nt ops l ops.toList
 |.region _ ops true,.draw n FL l _=>dok P nt ops n FL l
 |.seq a b,.seq a' b'=>okC P nt a a'&&okC P nt b b'
 |.cond x a b,.cond x' a' b'=>aX x' x&&okC P nt a a'&&okC P nt b b'
 |.block id a,.blk id' a'=>id==id'&&okC P nt a a'
 |.loop a,.loop a'=>okC P nt a a'
 |.exit id,.exit id'=>id==id'
 |.ret,.ret=>true
 |_,_=>false
section
variable{P:Program}{nt:Nat}{K:Nat→Prop}{w0:World}{A0:Nat→Nd}{U0:Nat→Prop}{c0:Nat}{cl:cN}{ops:Array Oper}
def jQ(P:Program)(c:Code)(Q:Exit→Act→World→Prop)(a:Act)(w:World):Prop:=∀(b:Frame)(k:List Item)(cs:List Frame),∃e a' w',Q e a' w'∧Arrives P (lone (b.at a (.code c:: .inLoop c::k)) cs w) b k cs e a' w'
theorem tj{c:Code}{Q:Exit→Act→World→Prop}{a:Act}{w:World}(h:jQ P c Q a w):(Code.loop c).wp P Q a w:=by intro b k cs;obtain⟨e,a',w',q,r⟩:=h b k cs;exact⟨e,a',w',q,.of_steps (.one step_loop) r⟩
theorem pW{c:Code}{Q:Exit→Act→World→Prop}{a:Act}{w:World}(h:c.wp P (Exit.then (jQ P c Q) Q) a w):jQ P c Q a w:=by
 intro b k cs;obtain⟨e,a₁,w₁,hq,harr⟩:=h b (.inLoop c::k) cs;cases e with
 |normal=>obtain⟨e₂,a₂,w₂,hq₂,harr₂⟩:=hq b k cs;exact⟨e₂,a₂,w₂,hq₂,.of_steps (Steps.trans harr (.one step_inLoop)) harr₂⟩
 |exit id=>exact⟨_,a₁,w₁,hq,.pass (x:=.inLoop c) rfl (fun _ _=>.inl (by simp)) harr⟩
 |goto l=>exact⟨_,a₁,w₁,hq,.pass (x:=.inLoop c) rfl (fun _ _=>.inl (by simp)) harr⟩
 |ret=>exact⟨_,a₁,w₁,hq,.pass (x:=.inLoop c) rfl (fun _ _=>.inl (by simp)) harr⟩
 |panic ch=>exact⟨_,a₁,w₁,hq,.pass (x:=.inLoop c) rfl (fun _ _=>.inl (by simp)) harr⟩
 |outgrown=>exact⟨_,a₁,w₁,hq,.pass (x:=.inLoop c) rfl (fun _ _=>.inl (by simp)) harr⟩
def CW(P:Program)(c:Code)(Q:Exit→Act→World→Prop)(a:Act)(w:World):Prop:=match c with
 |.loop b=>jQ P b Q a w
 |c=>c.wp P Q a w
theorem CW.wp{c:Code}{Q:Exit→Act→World→Prop}{a:Act}{w:World}(h:CW P c Q a w):c.wp P Q a w:=by cases c<;>first|exact h|exact tj h
theorem Inv.av{s:St}{a:Act}{w:World}(h:Inv nt K w0 A0 U0 c0 s a w)(k:Option (List Nat)):Inv nt K w0 A0 U0 c0 (s.av k) a w:=by
 cases k with
 |none=>exact h
 |some k=>obtain⟨A,U,s1,s2,rest⟩:=h;exact⟨A,U,s1,s2.prune k,rest⟩
end
end Go.Cq
namespace Go.Cq
open Go.RowKit
open Go.Tq (cB cq)
inductive RR where
 |t (t:Nat)
 |c (t:Nat) (n:Option Nat)
structure CFn where
 nt:Nat
 code:CC
 res:List RR
def mT(h:Heap)(ts:Ts):List RR→Option (List V1)
 | []=>some []
 |.t t::l=>match look ts t with
  |some (.v x)=>match mT h ts l with
   |some r=>some (x::r)
   |none=>none
  |_=>none
 |.c t n::l=>match FOp.ev h ts (.load n (.t t))with
  |some x=>match mT h ts l with
   |some r=>some (x::r)
   |none=>none
  |none=>none
def pack:List V1→CVal
 | [x]=>.v x
 |l=>.tup l
def init(args:List V1):Nat→Ts
 |j=>match args with
  | []=>[]
  |x::l=>(j,.v x)::init l (j+1)
def jO(P:Program):List ResultVar→List RR→Bool
 | [],[]=>true
 |.tmp t::l,.t t'::l'=>t==t'&&jO P l l'
 |.cell t ty::l,.c t' n::l'=>t==t'&&(match n with
  |none=>cq P ty==some false
  |some n=>cq P ty==some true&&cB P ty==some n&&n != 0)&&jO P l l'
 |_,_=>false
def bS(P:Program)(F:Func)(fn:CFn):Bool:=F.ntmps==fn.nt&&jO P F.results.toList fn.res&&(F.name != "runtime.NumGoroutine")&&(match F.body with|some c=>okC P fn.nt c fn.code|none=>false)
section
variable{P:Program}{A:Nat→Nd}{U K:Nat→Prop}{w w0:World}{h:Heap}
theorem rX{args:List V1}:∀{j t:Nat}{x:CVal},look (init args j) t=some x→j≤t∧∃y,args[t-j]?=some y∧x= .v y:=by
 induction args with
 |nil=>intro j t x hx;simp[init,look]at hx
 |cons y l ih=>
  intro j t x hx;simp only[init,look]at hx;cases hb:Nat.beq j t with
  |true=>have:=Nat.eq_of_beq_eq_true hb;subst this;simp only[hb,cond_true,Option.some.injEq]at hx;exact⟨Nat.le_refl _,y,by simp,hx.symm⟩
  |false=>
   have hne:=Nat.ne_of_beq_eq_false hb;simp only[hb,cond_false]at hx;obtain⟨h1,z,h2,h3⟩:=ih hx;refine⟨by omega,z,?_,h3⟩;have:t-j=(t-(j+1))+1:=by omega
   rw[this,List.getElem?_cons_succ];exact h2
def nM(tmps:Array Value):ResultVar→Sem Value
 |.tmp t=>pure (tmps.getD t undef)
 |.cell a t=>do loadVar t (←asAddr (tmps.getD a undef))
theorem zO(hs:Sim A h U K w0 w){ts:Ts}{tmps:Array Value}(hts:cx A U ts tmps):∀{rs:List ResultVar}{l:List RR}{vs:List V1},jO P rs l=true→mT h ts l=some vs→
  ∃us:List Value,(rs.mapM (nM tmps)).run P w= .ok us w∧us.length=vs.length∧∀(j:Nat) x,vs[j]?=some x→∃u,us[j]?=some u∧eA A U x u:=by
 intro rs;induction rs with
 |nil=>
  intro l vs hok hr;cases l with
  |nil=>simp only[mT,Option.some.injEq]at hr;subst hr;exact⟨[],by simp,rfl,by simp⟩
  |cons x t=>simp[jO]at hok
 |cons r rs ih=>
  intro l vs hok hr;have fin:∀{x:V1}{l':List RR}{v:Value},(nM tmps r).run P w= .ok v w→eA A U x v→jO P rs l'=true→(match mT h ts l' with|some r=>some (x::r)|none=>none)=some vs→
    ∃us:List Value,((r::rs).mapM (nM tmps)).run P w= .ok us w∧us.length=vs.length∧∀(j:Nat) x,vs[j]?=some x→∃u,us[j]?=some u∧eA A U x u:=by
   intro x l' v hv hx hok' hm;split at hm
   ·rename_i r' hr';cases hm;obtain⟨us,g1,g2,g3⟩:=ih hok' hr';refine⟨v::us,?_,by simp[g2],fun j y hj=>?_⟩
    ·rw[List.mapM_cons,Sem.run_bind,hv];simp only[Result.andThen];rw[Sem.run_bind,g1];rfl
    ·cases j with
     |zero=>cases hj;exact⟨v,rfl,hx⟩
     |succ j=>simpa using g3 j y (by simpa using hj)
   ·simp at hm
  cases l with
  |nil=>cases r<;>simp[jO]at hok
  |cons y l'=>
   cases r with
   |tmp t=>cases y with
    |c t' n=>simp[jO]at hok
    |t t'=>
     simp only[jO,Bool.and_eq_true,beq_iff_eq]at hok;obtain⟨rfl,hok⟩:=hok;simp only[mT]at hr;split at hr
     ·rename_i x hx;exact fin rfl (hts _ _ hx).2 hok hr
     ·simp at hr
   |cell t ty=>cases y with
    |t t'=>simp[jO]at hok
    |c t' n=>
     simp only[jO,Bool.and_eq_true,beq_iff_eq]at hok;obtain⟨⟨rfl,h1⟩,hok⟩:=hok;simp only[mT]at hr;split at hr
     ·rename_i x hx;let o:Oper:={(default:Oper)with op:=.load ty (.tmp t)};have hg:mZ P ⟨tmps,[]⟩ o w A U x:=by
       refine FOp.sound (a:=⟨tmps,[]⟩) (o:=o) hs hts (f:=.load n (.t t)) ?_ hx;cases n with
       |none=>simp only[FOp.ok,o,aX,beq_self_eq_true,Bool.true_and];exact h1
       |some n=>simp only[FOp.ok,o,aX,beq_self_eq_true,Bool.true_and];exact h1
      obtain⟨v,g1,g2⟩:=hg;refine fin (v:=v) ?_ g2 hok hr;simp only[FOp.ev]at hx;split at hx
      ·rename_i id off he;have hp:=aU (a:=⟨tmps,[]⟩) hts (y:=.tmp t) (by simp[aX]) he;have hp2:tmps.getD t undef= .pointer (some (addrOf A id off)):=hp.2;have e1:(Act.eval ⟨tmps,[]⟩ (.tmp t))= .pointer (some (addrOf A id off)):=hp2;simp only[execOp,o]at g1;rw[Sem.run_bind]at g1;rw[e1]at g1;simp only[Instr.loadAt,Instr.sureAddr,pure_bind]at g1;simp only[nM,hp2,asAddr,pure_bind];cases hl:(loadVar ty (addrOf A id off)).run P w with
       |ok v' w'=>rw[hl]at g1;simp[Result.andThen]at g1;rw[g1.1,g1.2]
       |halt e w'=>rw[hl]at g1;simp[Result.andThen]at g1
      ·simp at hx
     ·simp at hr
theorem oI(hs:Sim A h U K w0 w){ts:Ts}{tmps:Array Value}(hts:cx A U ts tmps){F:Func}{l:List RR}{vs:List V1}(hok:jO P F.results.toList l=true)(hr:mT h ts l=some vs):
  ∃v,(results F tmps).run P w= .ok v w∧eO A U (pack vs) v:=by
 obtain⟨us,g1,g2,g3⟩:=zO (P:=P) hs hts hok hr;have e:results F tmps=(do let vs ←F.results.toList.mapM (nM tmps);pure (if h:vs.toArray.size=1 then vs.toArray[0]else .tuple vs.toArray)):=by
  unfold results;refine Eq.trans (b:=(do let vs ←F.results.mapM (nM tmps);pure (if h:vs.size=1 then vs[0]else .tuple vs))) ?_ ?_
  ·congr 1
  ·rw[Array.mapM_eq_mapM_toList,bind_map_left]
 rw[e,Sem.run_bind,g1];simp only[Result.andThen,Sem.run_pure]
 match vs,us,g2,g3 with
 | [x],[u],_,g3=>refine⟨u,by simp,?_⟩;obtain⟨u',h1,h2⟩:=g3 0 x rfl;cases h1;exact h2
 | [],[],_,_=>exact⟨.tuple #[],by simp, #[],rfl,rfl,by simp⟩
 |x::y::l,u::v::m,g2,g3=>refine⟨.tuple (u::v::m).toArray,by simp,(u::v::m).toArray,rfl,by simpa using g2,fun j z hj=>?_⟩;obtain⟨u',h1,h2⟩:=g3 j z hj;exact⟨u',by simpa using h1,h2⟩
end
end Go.Cq
namespace Go.Cq.D
inductive PV where
 |sc (v:CV)
 |sl (sz:Nat) (es:List (List PV))
 |ro (sz:Nat) (es:List (List PV))
 deriving Inhabited
inductive DC where
 |sc (v:CV)
 |own (sz:Nat) (es:List (List PV))
 |ro (b:Bool) (sz:Nat) (es:List (List PV))
 |sl (g lo len:Nat)
 |ptr (g i k:Nat)
 |rp (b:Bool) (sz:Nat) (es:List (List PV)) (i k:Nat)
 |fn (f:FuncId) (caps:List (Nat×Nat×Nat))
 |gone
 deriving Inhabited
inductive DV where
 |one (c:DC)
 |agg (cs:List DC)
 deriving Inhabited
inductive DT where
 |v (x:DV)
 |tup (l:List DV)
 |gone
 deriving Inhabited
inductive DB where
 |arr (sz:Nat) (es:List (List PV)) (ov:List (Nat×Nat×DC))
 |box (cs:List DC)
 deriving Inhabited
abbrev DTs:=List (Nat×DT)
abbrev DH:=List (Nat×DB)
def an:DTs→Nat→Option DT
 | [],_=>none
 | (k,x)::l,t=>cond (Nat.beq k t) (some x) (an l t)
def aG:DH→Nat→Option DB
 | [],_=>none
 | (k,x)::l,t=>cond (Nat.beq k t) (some x) (aG l t)
def cj(g:Nat)(x:DB):DH→DH
 | []=>[(g,x)]
 | (k,y)::l=>cond (Nat.beq k g) ((k,x)::l) ((k,y)::cj g x l)
def eM(g:Nat):DH→DH
 | []=>[]
 | (k,y)::l=>cond (Nat.beq k g) (eM g l) ((k,y)::eM g l)
inductive Loc where
 |t (s j k:Nat)
 |h (g i k:Nat)
 deriving DecidableEq
def PV.dc:PV→DC
 |.sc v=>.sc v
 |.sl sz es=>.own sz es
 |.ro sz es=>.ro false sz es
def ab:List (Nat×Nat×DC)→Nat→Nat→Option DC
 | [],_,_=>none
 | (i0,k0,x)::l,i,k=>cond (Nat.beq k0 k) (if i0=i then some x else ab l i k) (ab l i k)
def DV.cell:DV→Nat→Option DC
 |.one c,k=>if k=0 then some c else none
 |.agg cs,k=>cs[k]?
def DT.cell:DT→Nat→Nat→Option DC
 |.v x,j,k=>if j=0 then x.cell k else none
 |.tup l,j,k=>(l[j]?).bind (·.cell k)
 |.gone,_,_=>none
def DB.cell:DB→Nat→Nat→Option DC
 |.arr _ es ov,i,k=>match(es[i]?).bind (·[k]?)with
  |some p=>match ab ov i k with
   |some x=>some x
   |none=>some p.dc
  |none=>none
 |.box cs,i,k=>if i=0 then cs[k]? else none
def aa(ts:DTs)(H:DH):Loc→Option DC
 |.t s j k=>(an ts s).bind (·.cell j k)
 |.h g i k=>(aG H g).bind (·.cell i k)
def fE:V1→Nat→Option CV
 |.one c,k=>if k=0 then some c else none
 |.agg cs,k=>cs[k]?
def fC:CVal→Nat→Nat→Option CV
 |.v x,j,k=>if j=0 then fE x k else none
 |.tup l,j,k=>(l[j]?).bind (fE · k)
 |.gone,_,_=>none
abbrev Nm:=Nat→Option (Nat×Nat×Nat)
def bW(ts:Ts)(h:Heap)(I:Nm):Loc→Option CV
 |.t s j k=>(look ts s).bind (fC · j k)
 |.h g i k=>match I g with
  |some (id,base,sz)=>(h.get id).bind (·.get ((base+i)*sz+k))
  |none=>none
def nR:CV→Bool
 |.bool _=>true
 |.int _ _=>true
 |.str _=>true
 |.nilp=>true
 |.nilf=>true
 |.mp _=>true
 |.ptr _ _=>true
 |.sl _ _ _ _=>true
 |.nils _=>true
 |_=>false
structure RowR{α:Type}(h:Heap)(id base sz:Nat)(es:List (List α))(cf:Nat→Nat→CV):Prop where
 blk:∃b,h.get id=some b∧b.sz=sz∧(base+es.length)*sz≤b.n∧∀(i:Nat)(row:List α)(k:Nat)(p:α),es[i]?=some row→row[k]?=some p→b.get ((base+i)*sz+k)=some (cf i k)
 ne:sz≠0
 len:∀(i:Nat)(row:List α),es[i]?=some row→row.length=sz
inductive RoR(h:Heap)(N:Nat→Prop):PV→CV→Prop where
 |sc {v} (hv:nR v=true):RoR h N (.sc v) v
 |nil {sz z}:RoR h N (.sl sz []) (.nils z)
 |sl {sz es id base lim cf} (hN:N id) (hr:RowR h id base sz es cf) (hc:∀(i:Nat)(row:List PV)(k:Nat)(p:PV),es[i]?=some row→row[k]?=some p→RoR h N p (cf i k)):RoR h N (.sl sz es) (.sl id base es.length lim)
 |ro {sz es c} (hr:RoR h N (.sl sz es) c):RoR h N (.ro sz es) c
inductive OwR(h:Heap)(N:Bool→Nat→Prop):PV→CV→(Nat→Prop)→Prop where
 |sc {v F} (hv:nR v=true):OwR h N (.sc v) v F
 |ro {sz es c F} (hr:RoR h (N false) (.sl sz es) c):OwR h N (.ro sz es) c F
 |nil {sz z F}:OwR h N (.sl sz []) (.nils z) F
 |sl {sz es id base cf F} {φ:Nat→Nat→Nat→Prop} (hF:F id) (hr:RowR h id base sz es cf) (hc:∀(i:Nat)(row:List PV)(k:Nat)(p:PV),es[i]?=some row→row[k]?=some p→OwR h N p (cf i k) (φ i k))
   (hs:∀i k x,φ i k x→F x∧x≠id) (hd:∀i k i' k' x,φ i k x→φ i' k' x→i=i'∧k=k'):OwR h N (.sl sz es) (.sl id base es.length none) F
def SlR(I:Nm)(g n lo len:Nat)(c:CV):Prop:=lo+len≤n∧match I g with
 |some (id,base,_)=>c= .sl id (base+lo) len none
 |none=>∃z,c= .nils z
def PtR(I:Nm)(g i k:Nat)(p:Nat×Nat):Prop:=∃id base sz,I g=some (id,base,sz)∧p=(id,(base+i)*sz+k)
def bG(h:Heap)(N:Bool→Nat→Prop)(I:Nm)(H:DH):DC→CV→(Nat→Prop)→Prop
 |.sc v,c,_=>nR v=true∧c=v
 |.own sz es,c,F=>OwR h N (.sl sz es) c F
 |.ro b sz es,c,_=>RoR h (N b) (.sl sz es) c
 |.sl g lo len,c,_=>∀sz es ov,aG H g=some (.arr sz es ov)→SlR I g es.length lo len c
 |.ptr g i k,c,_=>(aG H g).isSome=true→∃p,PtR I g i k p∧c= .ptr p.1 p.2
 |.rp b sz es i k,c,_=>∃id base cf,N b id∧RowR h id base sz es cf∧(∀(i:Nat)(row:List PV)(k:Nat)(p:PV),es[i]?=some row→row[k]?=some p→RoR h (N b) p (cf i k))∧c= .ptr id ((base+i)*sz+k)
 |.fn f caps,c,_=>∃cs,c= .fn f cs∧cs.length=caps.length∧∀(j:Nat) q,caps[j]?=some q→(aG H q.1).isSome=true→∃p,cs[j]?=some p∧PtR I q.1 q.2.1 q.2.2 p
 |.gone,_,_=>True
def fj:DV→V1→Prop
 |.one _,.one _=>True
 |.agg cs,.agg ds=>ds.length=cs.length
 |_,_=>False
def tSh:DT→CVal→Prop
 |.v x,.v y=>fj x y
 |.tup l,.tup m=>m.length=l.length∧∀(j:Nat) x y,l[j]?=some x→m[j]?=some y→fj x y
 |.gone,_=>True
 |_,_=>False
def eZ(h:Heap)(I:Nm)(g:Nat):DB→Prop
 |.box cs=>∃id b,I g=some (id,0,0)∧h.get id=some b∧cs.length≤b.n
 |.arr sz es _=>(I g=none∧es=[])∨∃id base b,I g=some (id,base,sz)∧h.get id=some b∧b.sz=sz∧sz≠0∧(base+es.length)*sz≤b.n∧∀(i:Nat)(row:List PV),es[i]?=some row→row.length=sz
def DC.tags:DC→List Nat
 |.sl g _ _=>[g]
 |.ptr g _ _=>[g]
 |.fn _ caps=>caps.map (·.1)
 |_=>[]
structure R(hl:Option Loc)(N:Bool→Nat→Prop)(I:Nm)(Fp:Loc→Nat→Prop)(ts:DTs)(H:DH)(n:Nat)(cts:Ts)(h:Heap)(U:Nat→Prop):Prop where
 tsh:∀t x,an ts t=some x→∃y,look cts t=some y∧tSh x y
 bsh:∀g db,aG H g=some db→eZ h I g db
 cell:∀ℓ x,hl≠some ℓ→aa ts H ℓ=some x→∃v,bW cts h I ℓ=some v∧bG h N I H x v (Fp ℓ)
 tags:∀ℓ x g,aa ts H ℓ=some x→g∈x.tags→g<n
 htag:∀g db,aG H g=some db→g<n
 inj:∀g g' db db' id b s b' s',aG H g=some db→aG H g'=some db'→I g=some (id,b,s)→I g'=some (id,b',s')→g=g'
 sepT:∀ℓ g db id b s,Fp ℓ id→aG H g=some db→I g=some (id,b,s)→False
 sepF:∀ℓ ℓ' id,Fp ℓ id→Fp ℓ' id→ℓ=ℓ'
 roT:∀g db id b s,N true id→aG H g=some db→I g=some (id,b,s)→False
 roF:∀ℓ id,N true id→Fp ℓ id→False
 hb:∀id b,h.get id=some b→U id
 lt:∀id,N true id∨(∃ℓ,Fp ℓ id)→U id
 le:∀id,N false id→N true id
 ro:∀id b,h.get id=some b→b.ro=true→N true id∧¬N false id
def aV(I:Nm)(Fp:Loc→Nat→Prop)(H:DH)(id:Nat):Prop:=(∃ℓ,Fp ℓ id)∨∃g db b s,aG H g=some db∧I g=some (id,b,s)
theorem R.vu{hl:Option Loc}{N:Bool→Nat→Prop}{I:Nm}{Fp:Loc→Nat→Prop}{ts:DTs}{H:DH}{n:Nat}{cts:Ts}{h:Heap}{U:Nat→Prop}(hr:R hl N I Fp ts H n cts h U){g:Nat}{db:DB}{id b0 s:Nat}(hg:aG H g=some db)(hI:I g=some (id,b0,s)){b:Blk}(hb:h.get id=some b):b.ro=false:=by
 cases hro:b.ro with
 |false=>rfl
 |true=>exact(hr.roT g db id b0 s (hr.ro id b hb hro).1 hg hI).elim
theorem ax(H:DH)(g g':Nat)(x:DB):aG (cj g x H) g'=if g'=g then some x else aG H g':=by
 induction H with
 |nil=>
  simp only[cj,aG];cases hb:Nat.beq g g' with
  |true=>have:=Nat.eq_of_beq_eq_true hb;simp[this]
  |false=>have:=Nat.ne_of_beq_eq_false hb;simp[Ne.symm this]
 |cons p l ih=>
  obtain⟨k,y⟩:=p;simp only[cj];cases hk:Nat.beq k g with
  |true=>
   have:=Nat.eq_of_beq_eq_true hk;subst this;simp only[cond_true,aG];cases hb:Nat.beq k g' with
   |true=>have:=Nat.eq_of_beq_eq_true hb;simp[this]
   |false=>have:=Nat.ne_of_beq_eq_false hb;simp[Ne.symm this]
  |false=>
   have hne:=Nat.ne_of_beq_eq_false hk;simp only[cond_false,aG,ih];cases hb:Nat.beq k g' with
   |true=>have:=Nat.eq_of_beq_eq_true hb;subst this;simp[hne]
   |false=>simp
theorem dF(H:DH)(g g':Nat):aG (eM g H) g'=if g'=g then none else aG H g':=by
 induction H with
 |nil=>simp[eM,aG]
 |cons p l ih=>
  obtain⟨k,y⟩:=p;simp only[eM];cases hk:Nat.beq k g with
  |true=>
   have:=Nat.eq_of_beq_eq_true hk;subst this;simp only[cond_true,ih,aG];cases hb:Nat.beq k g' with
   |true=>have:=Nat.eq_of_beq_eq_true hb;simp[this]
   |false=>simp
  |false=>
   have hne:=Nat.ne_of_beq_eq_false hk;simp only[cond_false,aG,ih];cases hb:Nat.beq k g' with
   |true=>have:=Nat.eq_of_beq_eq_true hb;subst this;simp[hne]
   |false=>simp
theorem aW(H:DH)(g g':Nat)(x:DB):aG ((g,x)::H) g'=if g'=g then some x else aG H g':=by
 simp only[aG];cases hb:Nat.beq g g' with
 |true=>have:=Nat.eq_of_beq_eq_true hb;simp[this]
 |false=>have:=Nat.ne_of_beq_eq_false hb;simp[Ne.symm this]
theorem bK(ts:DTs)(t s:Nat)(x:DT):an ((t,x)::ts) s=if s=t then some x else an ts s:=by
 simp only[an];cases hb:Nat.beq t s with
 |true=>have:=Nat.eq_of_beq_eq_true hb;simp[this]
 |false=>have:=Nat.ne_of_beq_eq_false hb;simp[Ne.symm this]
theorem bc(ts:Ts)(t s:Nat)(x:CVal):look ((t,x)::ts) s=if s=t then some x else look ts s:=by
 simp only[look];cases hb:Nat.beq t s with
 |true=>have:=Nat.eq_of_beq_eq_true hb;simp[this]
 |false=>have:=Nat.ne_of_beq_eq_false hb;simp[Ne.symm this]
theorem RowR.local{α:Type}{h h':Heap}{id base sz:Nat}{es:List (List α)}{cf:Nat→Nat→CV}(hr:RowR h id base sz es cf)(he:h'.get id=h.get id):RowR h' id base sz es cf:=⟨by obtain⟨b,h1,h2⟩:=hr.blk;exact⟨b,by rw[he];exact h1,h2⟩,hr.ne,hr.len⟩
theorem RoR.local{h h':Heap}{N N':Nat→Prop}(he:∀id,N id→h'.get id=h.get id∧N' id){p:PV}{c:CV}(hr:RoR h N p c):RoR h' N' p c:=by
 induction hr with
 |sc hv=>exact .sc hv
 |nil=>exact .nil
 |sl hN hr hc ih=>exact .sl (he _ hN).2 (hr.local (he _ hN).1) ih
 |ro h ih=>exact .ro ih
theorem OwR.local{h h':Heap}{N N':Bool→Nat→Prop}(hn:∀id,N false id→h'.get id=h.get id∧N' false id){p:PV}{c:CV}{F:Nat→Prop}(hr:OwR h N p c F):∀{F':Nat→Prop},(∀id,F id→h'.get id=h.get id∧F' id)→OwR h' N' p c F':=by
 induction hr with
 |sc hv=>intro F' _;exact .sc hv
 |ro h=>intro F' _;exact .ro (h.local hn)
 |nil=>intro F' _;exact .nil
 |sl hF hr hc hs hd ih=>intro F' he;exact .sl (he _ hF).2 (hr.local (he _ hF).1) (fun i row k p h1 h2=>ih i row k p h1 h2 fun id hid=>⟨(he id (hs _ _ _ hid).1).1,hid⟩) (fun i k x hx=>⟨(he x (hs _ _ _ hx).1).2,(hs _ _ _ hx).2⟩) hd
theorem bG.mono{h h':Heap}{N N':Bool→Nat→Prop}{I I':Nm}{H H':DH}{x:DC}{v:CV}{F F':Nat→Prop}(hc:bG h N I H x v F)(hn:∀b id,N b id→h'.get id=h.get id∧N' b id)(hf:∀id,F id→h'.get id=h.get id∧F' id)(ha:∀g sz es ov,g∈x.tags→aG H' g=some (.arr sz es ov)→I' g=I g∧∃es' ov',aG H g=some (.arr sz es' ov')∧es'.length≤es.length)(hp:∀g,g∈x.tags→(aG H' g).isSome=true→(aG H g).isSome=true∧I' g=I g):bG h' N' I' H' x v F':=by
 cases x with
 |sc v=>exact hc
 |own sz es=>exact OwR.local (hn false) hc hf
 |ro b sz es=>exact RoR.local (hn b) hc
 |sl g lo len=>intro sz es ov hg;obtain⟨h1,es',ov',h2,h3⟩:=ha g sz es ov (by simp[DC.tags]) hg;obtain⟨k1,k2⟩:=hc sz es' ov' h2;exact⟨by omega,by rw[h1];exact k2⟩
 |ptr g i k=>intro hg;obtain⟨h1,h2⟩:=hp g (by simp[DC.tags]) hg;obtain⟨p,⟨id,base,sz,h3,h4⟩,h5⟩:=hc h1;exact⟨p,⟨id,base,sz,by rw[h2];exact h3,h4⟩,h5⟩
 |rp b sz es i k=>obtain⟨id,base,cf,h1,h2,h3,h4⟩:=hc;exact⟨id,base,cf,(hn b _ h1).2,h2.local (hn b _ h1).1,fun i row k p e1 e2=>(h3 i row k p e1 e2).local (hn b),h4⟩
 |fn f caps=>obtain⟨cs,h1,h2,h3⟩:=hc;refine⟨cs,h1,h2,fun j q hj hg=>?_⟩;have hm:q.1∈(DC.fn f caps).tags:=List.mem_map.2 ⟨q,List.mem_of_getElem? hj,rfl⟩;obtain⟨k1,k2⟩:=hp q.1 hm hg;obtain⟨p,h4,id,base,sz,h5,h6⟩:=h3 j q hj k1;exact⟨p,h4,id,base,sz,by rw[k2];exact h5,h6⟩
 |gone=>trivial
end Go.Cq.D
namespace Go.Cq.D
def DV.fc:DV→Nat→DC→DV
 |.one c,k,x=>.one (if k=0 then x else c)
 |.agg cs,k,x=>.agg (cs.set k x)
def DT.fc:DT→Nat→Nat→DC→DT
 |.v y,j,k,x=>.v (if j=0 then y.fc k x else y)
 |.tup l,j,k,x=>.tup (l.modify j (·.fc k x))
 |.gone,_,_,_=>.gone
def DB.fc:DB→Nat→Nat→DC→DB
 |.arr sz es ov,i,k,x=>.arr sz es ((i,k,x)::ov)
 |.box cs,i,k,x=>if i=0 then .box (cs.set k x)else .box cs
def fh(ts:DTs)(H:DH):Loc→DC→DTs×DH
 |.t s j k,x=>match an ts s with
  |some y=>((s,y.fc j k x)::ts,H)
  |none=>(ts,H)
 |.h g i k,x=>match aG H g with
  |some db=>(ts,cj g (db.fc i k x) H)
  |none=>(ts,H)
theorem DV.fT{y:DV}{k:Nat}{x0 x:DC}(h:y.cell k=some x0)(k':Nat):(y.fc k x).cell k'=if k'=k then some x else y.cell k':=by
 cases y with
 |one c=>
  simp only[DV.cell]at h;split at h
  ·rename_i e;subst e;simp only[DV.fc,if_true,DV.cell];split<;>simp_all
  ·simp at h
 |agg cs=>
  simp only[DV.cell]at h;have hlt:=(List.getElem?_eq_some_iff.1 h).1;simp only[DV.fc,DV.cell,List.getElem?_set];by_cases e:k=k'
  ·subst e;simp[hlt]
  ·simp[e,Ne.symm e]
theorem DT.fT{y:DT}{j k:Nat}{x0 x:DC}(h:y.cell j k=some x0)(j' k':Nat):(y.fc j k x).cell j' k'=if j'=j∧k'=k then some x else y.cell j' k':=by
 cases y with
 |v y=>
  simp only[DT.cell]at h;split at h
  ·rename_i e;subst e;simp only[DT.fc,if_true,DT.cell];by_cases e1:j'=0
   ·simp[e1,DV.fT h]
   ·simp[e1]
  ·simp at h
 |tup l=>
  simp only[DT.cell]at h;cases hl:l[j]? with
  |none=>simp[hl]at h
  |some y=>
   simp only[hl,Option.bind_some]at h;simp only[DT.fc,DT.cell,List.getElem?_modify];by_cases e1:j=j'
   ·subst e1;simp[hl,DV.fT h]
   ·simp[e1,Ne.symm e1]
 |gone=>simp[DT.cell]at h
theorem DB.fT{y:DB}{i k:Nat}{x0 x:DC}(h:y.cell i k=some x0)(i' k':Nat):(y.fc i k x).cell i' k'=if i'=i∧k'=k then some x else y.cell i' k':=by
 cases y with
 |arr sz es ov=>
  simp only[DB.cell]at h;split at h
  case h_2=>simp at h
  rename_i p hp;simp only[DB.fc,DB.cell,ab];by_cases e:i'=i∧k'=k
  ·obtain⟨rfl,rfl⟩:=e;simp[hp]
  ·rw[if_neg e];have:(cond (Nat.beq k k') (if i=i' then some x else ab ov i' k') (ab ov i' k'))=ab ov i' k':=by
    cases hb:Nat.beq k k' with
    |true=>
     have:=Nat.eq_of_beq_eq_true hb;have:¬i=i':=fun e'=>e ⟨e'.symm,this.symm⟩
     simp[this]
    |false=>rfl
   rw[this]
 |box cs=>
  simp only[DB.cell]at h;split at h
  ·rename_i e;subst e;have hlt:=(List.getElem?_eq_some_iff.1 h).1;simp only[DB.fc,if_true,DB.cell,List.getElem?_set];by_cases e1:i'=0
   ·by_cases e2:k=k'
    ·subst e2;simp[e1,hlt]
    ·simp[e1,e2,Ne.symm e2]
   ·simp[e1]
  ·simp at h
theorem kz{ts:DTs}{H:DH}{ℓ:Loc}{x0 x:DC}(h:aa ts H ℓ=some x0)(ℓ':Loc):aa (fh ts H ℓ x).1 (fh ts H ℓ x).2 ℓ'=if ℓ'=ℓ then some x else aa ts H ℓ':=by
 cases ℓ with
 |t s j k=>
  simp only[aa]at h;cases hl:an ts s with
  |none=>simp[hl]at h
  |some y=>
   simp only[hl,Option.bind_some]at h;simp only[fh,hl];cases ℓ' with
   |t s' j' k'=>
    simp only[aa,bK,Loc.t.injEq];by_cases e:s'=s
    ·subst e;simp[hl,DT.fT h]
    ·simp[e]
   |h g i k=>simp[aa]
 |h g i k=>
  simp only[aa]at h;cases hl:aG H g with
  |none=>simp[hl]at h
  |some y=>
   simp only[hl,Option.bind_some]at h;simp only[fh,hl];cases ℓ' with
   |t s' j' k'=>simp[aa]
   |h g' i' k'=>
    simp only[aa,ax,Loc.h.injEq];by_cases e:g'=g
    ·subst e;simp[hl,DB.fT h]
    ·simp[e]
def au:DB→DB→Prop
 |.arr sz es _,.arr sz' es' _=>sz'=sz∧es'.length=es.length∧∀i:Nat,(es'[i]?).map List.length=(es[i]?).map List.length
 |.box cs,.box cs'=>cs'.length=cs.length
 |_,_=>False
theorem au.refl(x:DB):au x x:=by cases x<;>simp[au]
theorem au.trans{x y z:DB}(h:au x y)(k:au y z):au x z:=by
 cases x<;>cases y<;>cases z<;>simp only[au]at h k ⊢
 ·exact⟨k.1.trans h.1,k.2.1.trans h.2.1,fun i=>(k.2.2 i).trans (h.2.2 i)⟩
 ·exact k.trans h
theorem DB.yL(y:DB)(i k:Nat)(x:DC):au y (y.fc i k x):=by
 cases y with
 |arr sz es ov=>simp[DB.fc,au]
 |box cs=>simp only[DB.fc];split<;>simp[au]
theorem eZ.same{h:Heap}{I:Nm}{g:Nat}{x y:DB}(hs:au x y)(hb:eZ h I g x):eZ h I g y:=by
 cases x with
 |arr sz es ov=>
  cases y with
  |box cs=>simp[au]at hs
  |arr sz' es' ov'=>
   obtain⟨rfl,h2,h3⟩:=hs;rcases hb with⟨h4,h5⟩| ⟨id,base,b,h4,h5,h6,h7,h8,h9⟩
   ·refine .inl ⟨h4,?_⟩;subst h5;exact List.length_eq_zero_iff.1 h2
   ·refine .inr ⟨id,base,b,h4,h5,h6,h7,by rw[h2];exact h8,fun i row hr=>?_⟩;have:=h3 i;rw[hr]at this;cases he:es[i]? with
    |none=>simp[he]at this
    |some row'=>simp only[he,Option.map_some,Option.some.injEq]at this;rw[this];exact h9 i row' he
 |box cs=>
  cases y with
  |arr sz' es' ov'=>simp[au]at hs
  |box cs'=>obtain⟨id,b,h4,h5,h6⟩:=hb;simp only[au]at hs;exact⟨id,b,h4,h5,by omega⟩
theorem DV.oQ{y:DV}{k:Nat}{x:DC}{v:V1}(h:fj y v):fj (y.fc k x) v:=by cases y<;>cases v<;>simp_all[fj,DV.fc]
theorem DT.oQ{y:DT}{j k:Nat}{x:DC}{v:CVal}(h:tSh y v):tSh (y.fc j k x) v:=by
 cases y with
 |v y=>
  cases v<;>simp only[tSh,DT.fc]at h ⊢;split
  ·exact DV.oQ h
  ·exact h
 |tup l=>
  cases v<;>simp only[tSh,DT.fc]at h ⊢;obtain⟨h1,h2⟩:=h;refine⟨by simpa using h1,fun j' a b ha hb=>?_⟩;rw[List.getElem?_modify]at ha;split at ha
  ·rename_i e;subst e;simp only[Option.map_eq_map,Option.map_eq_some_iff]at ha;obtain⟨a',h3,rfl⟩:=ha;exact DV.oQ (h2 j a' b h3 hb)
  ·simp only[Option.map_eq_map,Option.map_id']at ha;exact h2 j' a b ha hb
 |gone=>trivial
theorem lg{ts:DTs}{H:DH}{ℓ:Loc}{x:DC}{t:Nat}{y:DT}(h:an (fh ts H ℓ x).1 t=some y):∃y0,an ts t=some y0∧∀v,tSh y0 v→tSh y v:=by
 cases ℓ with
 |t s j k=>
  simp only[fh]at h;split at h
  ·rename_i y0 hy;simp only[bK]at h;split at h
   ·rename_i e;subst e;cases h;exact⟨y0,hy,fun v hv=>DT.oQ hv⟩
   ·exact⟨y,h,fun _ h=>h⟩
  ·exact⟨y,h,fun _ h=>h⟩
 |h g i k=>simp only[fh]at h;split at h<;>exact⟨y,h,fun _ h=>h⟩
theorem yB{ts:DTs}{H:DH}{ℓ:Loc}{x:DC}{g:Nat}:match aG (fh ts H ℓ x).2 g with
  |some y=>∃y0,aG H g=some y0∧au y0 y
  |none=>aG H g=none:=by
 cases ℓ with
 |t s j k=>
  have:(fh ts H (.t s j k) x).2=H:=by simp only[fh];split<;>rfl
  rw[this];cases hg:aG H g with
  |none=>rfl
  |some y=>exact⟨y,rfl,au.refl y⟩
 |h g' i k=>
  simp only[fh];cases hl:aG H g' with
  |none=>
   simp only;cases hg:aG H g with
   |none=>rfl
   |some y=>exact⟨y,rfl,au.refl y⟩
  |some db=>
   simp only[ax];by_cases e:g=g'
   ·subst e;simp only[if_true];exact⟨db,hl,DB.yL db i k x⟩
   ·simp only[e,if_false];cases hg:aG H g with
    |none=>rfl
    |some y=>exact⟨y,rfl,au.refl y⟩
theorem b7{ts:DTs}{H:DH}{ℓ:Loc}{x:DC}{g:Nat}{y:DB}(h:aG (fh ts H ℓ x).2 g=some y):∃y0,aG H g=some y0∧au y0 y:=by have:=yB (ts:=ts) (H:=H) (ℓ:=ℓ) (x:=x) (g:=g);rw[h]at this;exact this
theorem bG.same{h:Heap}{N:Bool→Nat→Prop}{I:Nm}{H H':DH}{x:DC}{v:CV}{F:Nat→Prop}(hc:bG h N I H x v F)(hH:∀g y,aG H' g=some y→∃y0,aG H g=some y0∧au y0 y):bG h N I H' x v F:=by
 refine hc.mono (fun _ id hid=>⟨rfl,hid⟩) (fun id hid=>⟨rfl,hid⟩) (fun g sz es ov _ hg=>?_) (fun g _ hg=>?_)
 ·obtain⟨y0,h1,h2⟩:=hH g _ hg;cases y0 with
  |arr sz' es' ov'=>exact⟨rfl,es',ov',by rw[h1,h2.1],by rw[h2.2.1];exact Nat.le_refl _⟩
  |box cs=>simp[au]at h2
 ·obtain⟨y,hy⟩:=Option.isSome_iff_exists.1 hg;obtain⟨y0,h1, -⟩:=hH g _ hy;exact⟨by rw[h1];rfl,rfl⟩
def upd{α:Type}(f:Nat→α)(i:Nat)(x:α):Nat→α:=fun j=>if j=i then x else f j
structure Free(N:Bool→Nat→Prop)(I:Nm)(Fp:Loc→Nat→Prop)(H:DH)(U:Nat→Prop)(id:Nat):Prop where
 f:∀ℓ,¬Fp ℓ id
 t:∀g db b s,aG H g=some db→I g≠some (id,b,s)
 n:¬N true id
 lt:U id
section
variable{hl:Option Loc}{N:Bool→Nat→Prop}{I:Nm}{Fp:Loc→Nat→Prop}{ts:DTs}{H:DH}{n:Nat}{cts:Ts}{h:Heap}{U:Nat→Prop}
theorem R.fh{ℓ:Loc}(hr:R hl N I Fp ts H n cts h U)(hhl:hl=none∨hl=some ℓ){x0 x:DC}(hg:aa ts H ℓ=some x0){F:Nat→Prop}(hF:∀id,F id→Fp ℓ id)(hx:∃v,bW cts h I ℓ=some v∧bG h N I H x v F)(ht:∀g,g∈x.tags→g<n):
  R none N I (fun ℓ'=>if ℓ'=ℓ then F else Fp ℓ') (D.fh ts H ℓ x).1 (D.fh ts H ℓ x).2 n cts h U:=by
 have hFF:∀ℓ' id,(if ℓ'=ℓ then F else Fp ℓ') id→Fp ℓ' id:=fun ℓ' id hid=>by
  split at hid
  ·rename_i e;rw[e];exact hF id hid
  ·exact hid
 refine⟨fun t y hy=>?_,fun g db hgd=>?_,fun ℓ' y _ hy=>?_,fun ℓ' y g hy hgt=>?_,fun g db hgd=>?_,fun g g' db db' id b s b' s' h1 h2=>?_,fun ℓ' g db id b s h1 h2=>?_,fun ℓ' ℓ2 id h1 h2=>hr.sepF _ _ _ (hFF _ _ h1) (hFF _ _ h2),fun g db id b s h1 h2=>?_,fun ℓ' id h1 h2=>hr.roF _ _ h1 (hFF _ _ h2),hr.hb,fun id hid=>hr.lt id (hid.imp (fun h=>h) fun⟨ℓ',h1⟩=>⟨ℓ',hFF _ _ h1⟩),hr.le,hr.ro⟩
 ·obtain⟨y0,h1,h2⟩:=lg hy;obtain⟨v,h3,h4⟩:=hr.tsh t y0 h1;exact⟨v,h3,h2 v h4⟩
 ·obtain⟨y0,h1,h2⟩:=b7 hgd;exact(hr.bsh g y0 h1).same h2
 ·rw[kz hg]at hy;split at hy
  ·rename_i e;subst e;cases hy;obtain⟨v,h1,h2⟩:=hx;refine⟨v,h1,?_⟩;simp only[if_true];exact h2.same fun g y hy=>b7 hy
  ·rename_i e;obtain⟨v,h1,h2⟩:=hr.cell _ y (by rcases hhl with h|h<;>rw[h]<;>simp;exact fun e'=>e e'.symm) hy;refine⟨v,h1,?_⟩;simp only[e,if_false];exact h2.same fun g y hy=>b7 hy
 ·rw[kz hg]at hy;split at hy
  ·cases hy;exact ht g hgt
  ·exact hr.tags ℓ' y g hy hgt
 ·obtain⟨y0,h1,h2⟩:=b7 hgd;exact hr.htag g y0 h1
 ·obtain⟨y0,k1, -⟩:=b7 h1;obtain⟨y1,k2, -⟩:=b7 h2;exact hr.inj g g' y0 y1 id b s b' s' k1 k2
 ·obtain⟨y0,k1, -⟩:=b7 h2;exact hr.sepT ℓ' g y0 id b s (hFF _ _ h1) k1
 ·obtain⟨y0,k1, -⟩:=b7 h2;exact hr.roT g y0 id b s h1 k1
theorem R.open{ℓ:Loc}(hr:R none N I Fp ts H n cts h U){x0:DC}(hg:aa ts H ℓ=some x0):
  R (some ℓ) N I (fun ℓ'=>if ℓ'=ℓ then fun _=>False else Fp ℓ') ts H n cts h U∧∃v,bW cts h I ℓ=some v∧bG h N I H x0 v (Fp ℓ)∧∀id,Fp ℓ id→Free N I (fun ℓ'=>if ℓ'=ℓ then fun _=>False else Fp ℓ') H U id:=by
 have hFF:∀ℓ' id,(if ℓ'=ℓ then fun _=>False else Fp ℓ') id→Fp ℓ' id:=fun ℓ' id hid=>by
  split at hid
  ·exact hid.elim
  ·exact hid
 obtain⟨v,h1,h2⟩:=hr.cell ℓ x0 (by simp) hg;refine⟨⟨hr.tsh,hr.bsh,fun ℓ' y hne hy=>?_,hr.tags,hr.htag,hr.inj,fun ℓ' g db id b s h1 h2=>hr.sepT ℓ' g db id b s (hFF _ _ h1) h2,fun ℓ' ℓ2 id h1 h2=>hr.sepF _ _ _ (hFF _ _ h1) (hFF _ _ h2),hr.roT,fun ℓ' id h1 h2=>hr.roF _ _ h1 (hFF _ _ h2),hr.hb,fun id hid=>hr.lt id (hid.imp (fun h=>h) fun⟨ℓ',h1⟩=>⟨ℓ',hFF _ _ h1⟩),hr.le,hr.ro⟩,v,h1,h2,fun id hid=>⟨fun ℓ' h3=>?_,fun g db b s h3 h4=>hr.sepT ℓ g db id b s hid h3 h4,fun h3=>hr.roF ℓ id h3 hid,hr.lt id (.inr ⟨ℓ,hid⟩)⟩⟩
 ·have:ℓ'≠ℓ:=fun e=>hne (by rw[e])
  obtain⟨v,h1,h2⟩:=hr.cell ℓ' y (by simp) hy;exact⟨v,h1,by simpa [this]using h2⟩
 ·split at h3
  ·exact h3
  ·rename_i e;exact e (hr.sepF _ _ _ h3 hid)
theorem R.nN(hr:R hl N I Fp ts H n cts h U){nm:Option (Nat×Nat×Nat)}{db:DB}{φ:Nat→Nat→Nat→Prop}(hsh:eZ h (upd I n nm) n db)(hid:∀id b s,nm=some (id,b,s)→Free N I Fp H U id)(hφ:∀i k id,φ i k id→Free N I Fp H U id∧∀b s,nm≠some (id,b,s))(hφd:∀i k i' k' id,φ i k id→φ i' k' id→i=i'∧k=k')(hcell:∀i k x,db.cell i k=some x→∃v,bW cts h (upd I n nm) (.h n i k)=some v∧bG h N (upd I n nm) ((n,db)::H) x v (φ i k))(htg:∀i k x g,db.cell i k=some x→g∈x.tags→g<n+1):
  R hl N (upd I n nm) (fun ℓ=>match ℓ with|.h g i k=>if g=n then φ i k else Fp ℓ|ℓ=>Fp ℓ) ts ((n,db)::H) (n+1) cts h U:=by
 have hI:∀g,g<n→upd I n nm g=I g:=fun g hg=>by simp only[upd];rw[if_neg (by omega)]
 have hI':∀g db,aG H g=some db→upd I n nm g=I g:=fun g db h1=>hI g (hr.htag g db h1)
 have hgH:∀g,g<n→aG ((n,db)::H) g=aG H g:=fun g hg=>by rw[aW,if_neg (by omega)]
 have hcc:∀ℓ,(∀i k,ℓ≠ .h n i k)→aa ts ((n,db)::H) ℓ=aa ts H ℓ:=fun ℓ hne=>by
  cases ℓ with
  |t s j k=>rfl
  |h g i k=>simp only[aa,aW];rw[if_neg (fun e=>hne i k (by rw[e]))]
 have hown:∀ℓ,(∃i k,ℓ= .h n i k∧(match ℓ with|.h g i k=>if g=n then φ i k else Fp ℓ|ℓ=>Fp ℓ)=φ i k)∨(∀i k,ℓ≠ .h n i k)∧(match ℓ with|.h g i k=>if g=n then φ i k else Fp ℓ|ℓ=>Fp ℓ)=Fp ℓ:=fun ℓ=>by
  cases ℓ with
  |t s j k=>exact .inr ⟨fun _ _=>by simp,rfl⟩
  |h g i k=>
   by_cases e:g=n
   ·subst e;exact .inl ⟨i,k,rfl,by simp⟩
   ·exact .inr ⟨fun i k e'=>e (by simpa using(Loc.h.inj e').1),by simp[e]⟩
 refine⟨hr.tsh,fun g d hg=>?_,fun ℓ x hne hx=>?_,fun ℓ x g hx hgt=>?_,fun g d hg=>?_,fun g g' d d' id b s b' s' h1 h2 h3 h4=>?_,fun ℓ g d id b s h1 h2 h3=>?_,fun ℓ ℓ' id h1 h2=>?_,fun g d id b s h1 h2 h3=>?_,fun ℓ id h1 h2=>?_,hr.hb,fun id hid'=>?_,hr.le,hr.ro⟩
 ·rw[aW]at hg;split at hg
  ·rename_i e;subst e;cases hg;exact hsh
  ·have:=hr.bsh g d hg;have e:=hI' g d hg;cases d with
   |box cs=>simp only[eZ]at this ⊢;rw[e];exact this
   |arr sz es ov=>simp only[eZ]at this ⊢;rw[e];exact this
 ·rcases hown ℓ with⟨i,k,rfl,e⟩| ⟨h1,e⟩
  ·rw[e];simp only[aa,aW,if_true,Option.bind_some]at hx;exact hcell i k x hx
  ·rw[e];rw[hcc ℓ h1]at hx;obtain⟨v,h2,h3⟩:=hr.cell ℓ x hne hx;refine⟨v,?_,h3.mono (fun _ id hid=>⟨rfl,hid⟩) (fun id hid=>⟨rfl,hid⟩) (fun g sz es ov hg h4=>?_) (fun g hg h4=>?_)⟩
   ·cases ℓ with
    |t s j k=>exact h2
    |h g i k=>
     simp only[aa]at hx;cases hgg:aG H g with
     |none=>simp[hgg]at hx
     |some d=>simp only[bW,hI' g d hgg];exact h2
   ·have hlt:=hr.tags ℓ x g hx hg;rw[hgH g hlt]at h4;exact⟨hI g hlt,es,ov,h4,Nat.le_refl _⟩
   ·have hlt:=hr.tags ℓ x g hx hg;rw[hgH g hlt]at h4;exact⟨h4,hI g hlt⟩
 ·rcases hown ℓ with⟨i,k,rfl,e⟩| ⟨h1,e⟩
  ·simp only[aa,aW,if_true,Option.bind_some]at hx;exact htg i k x g hx hgt
  ·rw[hcc ℓ h1]at hx;exact Nat.lt_succ_of_lt (hr.tags ℓ x g hx hgt)
 ·rw[aW]at hg;split at hg
  ·omega
  ·exact Nat.lt_succ_of_lt (hr.htag g d hg)
 ·rw[aW]at h1 h2;split at h1
  ·rename_i e;subst e;split at h2
   ·rename_i e';exact e'.symm
   ·rw[hI' g' d' h2]at h4;simp only[upd,if_true]at h3;exact absurd h4 ((hid id b s h3).t g' d' b' s' h2)
  ·split at h2
   ·rename_i e';subst e';rw[hI' g d h1]at h3;simp only[upd,if_true]at h4;exact absurd h3 ((hid id b' s' h4).t g d b s h1)
   ·rw[hI' g d h1]at h3;rw[hI' g' d' h2]at h4;exact hr.inj g g' d d' id b s b' s' h1 h2 h3 h4
 ·rw[aW]at h2;rcases hown ℓ with⟨i,k,rfl,e⟩| ⟨h5,e⟩
  ·rw[e]at h1;split at h2
   ·rename_i e';subst e';simp only[upd,if_true]at h3;exact(hφ i k id h1).2 b s h3
   ·rw[hI' g d h2]at h3;exact(hφ i k id h1).1.t g d b s h2 h3
  ·rw[e]at h1;split at h2
   ·rename_i e';subst e';simp only[upd,if_true]at h3;exact(hid id b s h3).f ℓ h1
   ·rw[hI' g d h2]at h3;exact hr.sepT ℓ g d id b s h1 h2 h3
 ·rcases hown ℓ with⟨i,k,rfl,e⟩| ⟨h5,e⟩
  ·rw[e]at h1;rcases hown ℓ' with⟨i',k',rfl,e'⟩| ⟨h6,e'⟩
   ·rw[e']at h2;obtain⟨rfl,rfl⟩:=hφd i k i' k' id h1 h2;rfl
   ·rw[e']at h2;exact absurd h2 ((hφ i k id h1).1.f ℓ')
  ·rw[e]at h1;rcases hown ℓ' with⟨i',k',rfl,e'⟩| ⟨h6,e'⟩
   ·rw[e']at h2;exact absurd h1 ((hφ i' k' id h2).1.f ℓ)
   ·rw[e']at h2;exact hr.sepF ℓ ℓ' id h1 h2
 ·rw[aW]at h2;split at h2
  ·rename_i e';subst e';simp only[upd,if_true]at h3;exact(hid id b s h3).n h1
  ·rw[hI' g d h2]at h3;exact hr.roT g d id b s h1 h2 h3
 ·rcases hown ℓ with⟨i,k,rfl,e⟩| ⟨h5,e⟩
  ·rw[e]at h2;exact(hφ i k id h2).1.n h1
  ·rw[e]at h2;exact hr.roF ℓ id h1 h2
 ·rcases hid' with h1| ⟨ℓ,h1⟩
  ·exact hr.lt id (.inl h1)
  ·rcases hown ℓ with⟨i,k,rfl,e⟩| ⟨h5,e⟩
   ·rw[e]at h1;exact(hφ i k id h1).1.lt
   ·rw[e]at h1;exact hr.lt id (.inr ⟨ℓ,h1⟩)
def exp(ts:DTs)(H:DH)(n:Nat)(ℓ:Loc):DTs×DH×Nat:=match aa ts H ℓ with
 |some (.own sz es)=>let p:=D.fh ts ((n,.arr sz es [])::H) ℓ (.sl n 0 es.length);(p.1,p.2,n+1)
 |_=>(ts,H,n)
theorem R.exp(hr:R none N I Fp ts H n cts h U)(ℓ:Loc):∃I' Fp',R none N I' Fp' (exp ts H n ℓ).1 (exp ts H n ℓ).2.1 (exp ts H n ℓ).2.2 cts h U∧(∀g,g<n→I' g=I g)∧(∀id,aV I' Fp' (exp ts H n ℓ).2.1 id→aV I Fp H id)∧∀g db,g<n→aG (exp ts H n ℓ).2.1 g=some db→∃db0,aG H g=some db0∧au db0 db:=by
 unfold D.exp;split
 case h_2=>exact⟨I,Fp,hr,fun _ _=>rfl,fun _ h=>h,fun g db _ hg=>⟨db,hg,au.refl db⟩⟩
 rename_i sz es hg;obtain⟨h1,v,h2,h3,h4⟩:=hr.open hg;have hne:∀i k,ℓ≠ .h n i k:=fun i k e=>by
  subst e;simp only[aa]at hg;cases hgg:aG H n with
  |none=>simp[hgg]at hg
  |some d=>have:=hr.htag n d hgg;omega
 have hcellC:∀nm,bW cts h (upd I n nm) ℓ=bW cts h I ℓ:=fun nm=>by
  cases ℓ with
  |t s j k=>rfl
  |h g i k=>
   have:g≠n:=fun e=>hne i k (by rw[e])
   simp[bW,upd,this]
 have hget:∀db,aa ts ((n,db)::H) ℓ=some (.own sz es):=fun db=>by
  cases ℓ with
  |t s j k=>exact hg
  |h g i k=>
   have:g≠n:=fun e=>hne i k (by rw[e])
   simp only[aa,aW,this,if_false];exact hg
 have fin:∀{nm:Option (Nat×Nat×Nat)}{φ:Nat→Nat→Nat→Prop},R (some ℓ) N (upd I n nm) (fun ℓ'=>match ℓ' with|.h g i k=>if g=n then φ i k else(if ℓ'=ℓ then fun _=>False else Fp ℓ')|ℓ'=>(if ℓ'=ℓ then fun _=>False else Fp ℓ')) ts ((n,.arr sz es [])::H) (n+1) cts h U→
   SlR (upd I n nm) n es.length 0 es.length v→(∀id b s,nm=some (id,b,s)→Fp ℓ id)→(∀i k id,φ i k id→Fp ℓ id)→
   ∃I' Fp',R none N I' Fp' (D.fh ts ((n,.arr sz es [])::H) ℓ (.sl n 0 es.length)).1 (D.fh ts ((n,.arr sz es [])::H) ℓ (.sl n 0 es.length)).2 (n+1) cts h U∧(∀g,g<n→I' g=I g)∧(∀id,aV I' Fp' (D.fh ts ((n,.arr sz es [])::H) ℓ (.sl n 0 es.length)).2 id→aV I Fp H id)∧∀g db,g<n→aG (D.fh ts ((n,.arr sz es [])::H) ℓ (.sl n 0 es.length)).2 g=some db→∃db0,aG H g=some db0∧au db0 db:=by
  intro nm φ hR hsl hn1 hn2;refine⟨_,_,hR.fh (.inr rfl) (hget _) (F:=fun _=>False) (fun _ h=>h.elim) ⟨v,(hcellC nm).trans h2,fun sz' es' ov' hg'=>?_⟩ (by simp[DC.tags]),fun g hgn=>by simp only[upd];rw[if_neg (by omega)],?_,fun g db hgn hgd=>by obtain⟨y0,k1,k2⟩:=b7 hgd;rw[aW,if_neg (by omega)]at k1;exact⟨y0,k1,k2⟩⟩
  ·simp only[aW,if_true,Option.some.injEq,DB.arr.injEq]at hg';obtain⟨rfl,rfl,rfl⟩:=hg';exact hsl
  ·rintro id (⟨ℓ',h5⟩| ⟨g,db,b,s,h5,h6⟩)
   ·split at h5
    ·exact h5.elim
    ·cases ℓ' with
     |t s j k=>
      simp only at h5;first
       |exact .inl ⟨_,h5⟩
       | (
         split at h5
         ·exact h5.elim
         ·exact .inl ⟨_,h5⟩)
     |h g i k=>
      simp only at h5;split at h5
      ·exact .inl ⟨ℓ,hn2 _ _ _ h5⟩
      ·first
        |exact .inl ⟨_,h5⟩
        | (
          split at h5
          ·exact h5.elim
          ·exact .inl ⟨_,h5⟩)
   ·obtain⟨y0,k1, -⟩:=b7 h5;rw[aW]at k1;split at k1
    ·rename_i e;subst e;simp only[upd,if_true]at h6;exact .inl ⟨ℓ,hn1 id b s h6⟩
    ·rename_i e;simp only[upd,e,if_false]at h6;exact .inr ⟨g,y0,b,s,k1,h6⟩
 have hcellA:∀i k x,(DB.arr sz es []).cell i k=some x→∃row p,es[i]?=some row∧row[k]?=some p∧x=p.dc:=fun i k x hx=>by
  simp only[DB.cell,ab]at hx;split at hx
  ·rename_i p hp;simp only[Option.bind_eq_some_iff]at hp;obtain⟨row,e1,e2⟩:=hp;simp only[Option.some.injEq]at hx;exact⟨row,p,e1,e2,hx.symm⟩
  ·simp at hx
 have hdtags:∀p:PV,p.dc.tags=[]:=fun p=>by cases p<;>rfl
 generalize hF0:Fp ℓ=F0 at h3 h4;cases h3 with
 | @nil sz z F=>
  refine fin (nm:=none) (φ:=fun _ _ _=>False) (h1.nN (.inl ⟨by simp[upd],rfl⟩) (by simp) (by simp) (by simp) (fun i k x hx=>?_) (fun i k x g hx=>?_)) ⟨by simp,by simp only[upd,if_true];exact⟨z,rfl⟩⟩ (by simp) (by simp)
  ·obtain⟨row,p,e1, -⟩:=hcellA i k x hx;simp at e1
  ·obtain⟨row,p,e1, -⟩:=hcellA i k x hx;simp at e1
 | @sl sz es id base cf F φ hF hrow hc hs hd=>
  obtain⟨b,r1,r2,r3,r4⟩:=hrow.blk;refine fin (nm:=some (id,base,sz)) (φ:=φ) (h1.nN (.inr ⟨id,base,b,by simp[upd],r1,r2,hrow.ne,r3,hrow.len⟩) (fun id' b' s' e=>?_) (fun i k id' hid'=>⟨h4 id' (hs i k id' hid').1,fun b' s' e=>?_⟩) hd (fun i k x hx=>?_) (fun i k x g hx hgt=>?_)) ⟨by simp,by simp[upd]⟩ (fun id' b' s' e=>?_) (fun i k id' h=>by rw[hF0];exact(hs i k id' h).1)
  ·simp only[Option.some.injEq,Prod.mk.injEq]at e;rw[←e.1];exact h4 id hF
  ·simp only[Option.some.injEq,Prod.mk.injEq]at e;exact(hs i k id' hid').2 e.1.symm
  ·obtain⟨row,p,e1,e2,rfl⟩:=hcellA i k x hx;refine⟨cf i k,?_,?_⟩
   ·simp only[bW,upd,if_true,r1,Option.bind_some];exact r4 i row k p e1 e2
   ·have:=hc i row k p e1 e2;cases p with
    |sc v=>cases this with|sc hv=>exact⟨hv,rfl⟩
    |sl sz' es'=>exact this
    |ro sz' es'=>cases this with|ro hr=>exact hr
  ·obtain⟨row,p,e1,e2,rfl⟩:=hcellA i k x hx;rw[hdtags]at hgt;simp at hgt
  ·simp only[Option.some.injEq,Prod.mk.injEq]at e;rw[←e.1,hF0];exact hF
end
end Go.Cq.D
namespace Go.Cq.D
def DC.plain:DC→Bool
 |.own _ _=>false
 |_=>true
def DV.plain:DV→Bool
 |.one c=>c.plain
 |.agg cs=>cs.all DC.plain
def DT.plain:DT→Bool
 |.v x=>x.plain
 |.tup l=>l.all DV.plain
 |.gone=>true
def nY:CV→Option DC
 |.nils z=>some (.own z [])
 |.fn f []=>some (.fn f [])
 |c=>if nR c then some (.sc c)else none
def evD(ts:DTs):Opd→Option DV
 |.t s=>match an ts s with
  |some (.v x)=>if x.plain then some x else none
  |_=>none
 |.k c=>(nY c).map .one
def cC(ts:DTs)(x:Opd):Option DC:=match evD ts x with
 |some (.one c)=>some c
 |_=>none
def evS(ts:DTs)(x:Opd):Option CV:=match cC ts x with
 |some (.sc v)=>some v
 |_=>none
def eC(ts:DTs)(x:Opd):Option Int:=match evS ts x with
 |some (.int _ n)=>some n
 |_=>none
def cR(ts:DTs)(x:Option Opd)(dflt lim:Nat):Option Nat:=match x with
 |none=>some dflt
 |some y=>match eC ts y with
  |some n=>if 0≤n∧n≤lim then some n.toNat else none
  |none=>none
def v1R(h:Heap)(N:Bool→Nat→Prop)(I:Nm)(H:DH)(x:DV)(y:V1):Prop:=fj x y∧∀k c,x.cell k=some c→∃v,fE y k=some v∧bG h N I H c v (fun _=>False)
def tR(h:Heap)(N:Bool→Nat→Prop)(I:Nm)(H:DH)(x:DT)(y:CVal):Prop:=tSh x y∧∀j k c,x.cell j k=some c→∃v,fC y j k=some v∧bG h N I H c v (fun _=>False)
theorem v1R.t{h:Heap}{N:Bool→Nat→Prop}{I:Nm}{H:DH}{x:DV}{y:V1}(hv:v1R h N I H x y):tR h N I H (.v x) (.v y):=by
 refine⟨hv.1,fun j k c hc=>?_⟩;simp only[DT.cell]at hc;split at hc
 ·rename_i e;obtain⟨v,h1,h2⟩:=hv.2 k c hc;exact⟨v,by simp[fC,e,h1],h2⟩
 ·simp at hc
theorem bG.plain{h:Heap}{N:Bool→Nat→Prop}{I:Nm}{H:DH}{x:DC}{v:CV}{F F':Nat→Prop}(hp:x.plain=true)(hc:bG h N I H x v F):bG h N I H x v F':=by cases x<;>first|exact hc|simp[DC.plain]at hp
theorem bw{h:Heap}{N:Bool→Nat→Prop}{I:Nm}{H:DH}{c:DC}{v:CV}(hc:bG h N I H c v (fun _=>False)):v1R h N I H (.one c) (.one v):=by
 refine⟨trivial,fun k x hx=>?_⟩;simp only[DV.cell]at hx;split at hx
 ·rename_i e;cases hx;exact⟨v,by simp[fE,e],hc⟩
 ·simp at hx
theorem cQ{h:Heap}{N:Bool→Nat→Prop}{I:Nm}{H:DH}{v:CV}(hv:nR v=true):v1R h N I H (.one (.sc v)) (.one v):=bw ⟨hv,rfl⟩
theorem v1R.one{h:Heap}{N:Bool→Nat→Prop}{I:Nm}{H:DH}{c:DC}{y:V1}(hv:v1R h N I H (.one c) y):∃v,y= .one v∧bG h N I H c v (fun _=>False):=by
 obtain⟨h1,h2⟩:=hv;cases y with
 |agg cs=>simp[fj]at h1
 |one v=>obtain⟨v',h3,h4⟩:=h2 0 c (by simp[DV.cell]);simp only[fE,if_true,Option.some.injEq]at h3;subst h3;exact⟨v,rfl,h4⟩
section
variable{hl:Option Loc}{N:Bool→Nat→Prop}{I:Nm}{Fp:Loc→Nat→Prop}{ts:DTs}{H:DH}{n:Nat}{cts:Ts}{h:Heap}{U:Nat→Prop}
theorem sA{k:CV}{x:DC}(hk:nY k=some x):bG h N I H x k (fun _=>False):=by
 unfold nY at hk;split at hk
 ·cases hk;exact .nil
 ·cases hk;exact⟨[],rfl,rfl,by simp⟩
 ·split at hk
  ·rename_i hs;cases hk;exact⟨hs,rfl⟩
  ·simp at hk
theorem gX(hr:R none N I Fp ts H n cts h U){x:Opd}{y:DV}(hx:evD ts x=some y):∃v,evO cts x=some v∧v1R h N I H y v:=by
 cases x with
 |t s=>
  simp only[evD]at hx;split at hx
  ·rename_i z hz;split at hx
   ·rename_i hp;simp only[Option.some.injEq]at hx;subst hx;obtain⟨y,h1,h2⟩:=hr.tsh s _ hz;cases y with
    |v y=>
     refine⟨y,by simp only[evO,h1],h2,fun k x hk=>?_⟩;obtain⟨v,h3,h4⟩:=hr.cell (.t s 0 k) x (by simp) (by simp[aa,hz,DT.cell,hk]);simp only[bW,h1,Option.bind_some,fC,if_true]at h3;refine⟨v,h3,h4.plain ?_⟩;cases z with
     |one c'=>simp only[DV.cell]at hk;split at hk<;>simp_all[DV.plain]
     |agg cs=>simp only[DV.cell]at hk;simp only[DV.plain,List.all_eq_true]at hp;exact hp x (List.mem_of_getElem? hk)
    |tup l=>simp[tSh]at h2
    |gone=>simp[tSh]at h2
   ·simp at hx
  ·simp at hx
 |k k0=>simp only[evD,Option.map_eq_some_iff]at hx;obtain⟨x,h1,rfl⟩:=hx;exact⟨.one k0,rfl,bw (sA h1)⟩
theorem bg(hr:R none N I Fp ts H n cts h U){x:Opd}{y:DC}(hx:cC ts x=some y):∃v,ev1 cts x=some v∧bG h N I H y v (fun _=>False):=by
 unfold cC at hx;split at hx
 ·rename_i y' h1;cases hx;obtain⟨v,h2,h3⟩:=gX hr h1;obtain⟨w,rfl,h4⟩:=h3.one;exact⟨w,by simp only[ev1,h2],h4⟩
 ·simp at hx
theorem eX(hr:R none N I Fp ts H n cts h U){x:Opd}{y:CV}(hx:evS ts x=some y):ev1 cts x=some y∧nR y=true:=by
 unfold evS at hx;split at hx
 ·rename_i y' h1;cases hx;obtain⟨v,h2,h3,rfl⟩:=bg hr h1;exact⟨h2,h3⟩
 ·simp at hx
theorem fM(hr:R none N I Fp ts H n cts h U){x:Opd}{y:Int}(hx:eC ts x=some y):fP cts x=some y:=by
 unfold eC at hx;split at hx
 ·rename_i k m h1;cases hx;simp only[fP,(eX hr h1).1]
 ·simp at hx
theorem dJ(hr:R none N I Fp ts H n cts h U){x:Option Opd}{a b m:Nat}(hx:cR ts x a b=some m):dH cts x a b=some m:=by
 cases x with
 |none=>exact hx
 |some y=>
  simp only[cR]at hx;split at hx
  ·rename_i k h1;simp only[dH,fM hr h1];exact hx
  ·simp at hx
end
def ak(b:Bool)(es:List (List PV))(i k:Nat):Nat→Option (List DC)
 |0=>some []
 |n+1=>match(es[i]?).bind (·[k]?),ak b es i (k+1) n with
  |some p,some l=>some ((match p with|.sc v=>DC.sc v|.sl sz es=>.ro b sz es|.ro sz es=>.ro b sz es)::l)
  |_,_=>none
def fq(H:DH)(g i k:Nat):Nat→Option (List DC)
 |0=>some []
 |n+1=>match aa [] H (.h g i k),fq H g i (k+1) n with
  |some x,some l=>if x.plain then some (x::l)else none
  |_,_=>none
def dfl(ts:DTs)(H:DH):FOp→Option DV
 |.mov x=>evD ts x
 |.pick c a b=>match evS ts c with
  |some (.bool true)=>evD ts a
  |some (.bool false)=>evD ts b
  |_=>none
 |.load n x=>match cC ts x with
  |some (.ptr g i k)=>match n with
   |none=>match fq H g i k 1 with
    |some [y]=>some (.one y)
    |_=>none
   |some n=>if n=0 then none else(fq H g i k n).map .agg
  |some (.rp b _ es i k)=>match n with
   |none=>match ak b es i k 1 with
    |some [y]=>some (.one y)
    |_=>none
   |some n=>if n=0 then none else(ak b es i k n).map .agg
  |_=>none
 |.nilCheck x=>match cC ts x with
  |some (.ptr g i k)=>if(aG H g).isSome then some (.one (.ptr g i k))else none
  |some (.rp b sz es i k)=>some (.one (.rp b sz es i k))
  |_=>none
 |.bin op x y=>match evS ts x,evS ts y with
  |some a,some b=>match pQ op a b with
   |some r=>if nR r then some (.one (.sc r))else none
   |none=>none
  |_,_=>none
 |.binB neg x y=>match evS ts x,evS ts y with
  |some (.bool a),some (.bool b)=>some (.one (.sc (.bool (if neg then !(a==b)else a==b))))
  |_,_=>none
 |.cmpNil _ _=>none
 |.un op x=>match evS ts x with
  |some a=>match aDj op a with
   |some r=>if nR r then some (.one (.sc r))else none
   |none=>none
  |_=>none
 |.conv k x=>match evS ts x with
  |some (.int _ n)=>some (.one (.sc (.int k (k.wrap n))))
  |_=>none
 |.fieldAddr x off=>match cC ts x with
  |some (.ptr g i k)=>if(aG H g).isSome then some (.one (.ptr g i (k+off)))else none
  |some (.rp b sz es i k)=>some (.one (.rp b sz es i (k+off)))
  |_=>none
 |.idxAddr x i sz=>match cC ts x,eC ts i with
  |some (.sl g lo len),some n=>match aG H g with
   |some (.arr sz' _es _)=>if 0≤n∧n<len∧sz'=sz then some (.one (.ptr g (lo+n.toNat) 0))else none
   |_=>none
  |some (.ro b sz' es),some n=>if 0≤n∧n<es.length∧sz'=sz then some (.one (.rp b sz es n.toNat 0))else none
  |_,_=>none
 |.index x i=>match evS ts x,eC ts i with
  |some (.str s),some n=>if 0≤n then(s[n.toNat]?).map fun b=>.one (.sc (.int .u8 b.toNat))else none
  |_,_=>none
 |.lenS x=>match evS ts x with
  |some (.str s)=>some (.one (.sc (.int .i64 s.length)))
  |_=>none
 |.len x=>match cC ts x with
  |some (.sl g _ len)=>match aG H g with
   |some (.arr _ _ _)=>some (.one (.sc (.int .i64 len)))
   |_=>none
  |some (.ro _ _ es)=>some (.one (.sc (.int .i64 es.length)))
  |some (.own _ [])=>some (.one (.sc (.int .i64 0)))
  |_=>none
 |.sliceS x lo hi=>match evS ts x with
  |some (.str s)=>match cR ts hi s.length s.length with
   |some h=>(cR ts lo 0 h).map fun l=>.one (.sc (.str ((s.drop l).take (h-l))))
   |none=>none
  |_=>none
 |.sliceL x lo hi sz=>match cC ts x with
  |some (.sl g i0 ln)=>match aG H g with
   |some (.arr sz' _ _)=>if sz'=sz then match cR ts hi ln ln with
     |some h=>match cR ts lo 0 h with
      |some l=>if l≤h then some (.one (.sl g (i0+l) (h-l)))else none
      |none=>none
     |none=>none
    else none
   |_=>none
  |some (.ro b sz' es)=>if sz'=sz then match cR ts hi es.length es.length with
    |some h=>match cR ts lo 0 h with
     |some l=>if l≤h then some (.one (.ro b sz ((es.drop l).take (h-l))))else none
     |none=>none
    |none=>none
   else none
  |_=>none
end Go.Cq.D
namespace Go.Cq.D
section
variable{hl:Option Loc}{N:Bool→Nat→Prop}{I:Nm}{Fp:Loc→Nat→Prop}{ts:DTs}{H:DH}{n:Nat}{cts:Ts}{h:Heap}{U:Nat→Prop}
theorem RowR.cut{α:Type}{h:Heap}{id base sz:Nat}{es:List (List α)}{cf:Nat→Nat→CV}(hr:RowR h id base sz es cf)(l m:Nat)(hlm:l≤es.length):RowR h id (base+l) sz ((es.drop l).take m) (fun i k=>cf (l+i) k):=by
 obtain⟨b,h1,h2,h3,h4⟩:=hr.blk;refine⟨⟨b,h1,h2,?_,fun i row k p e1 e2=>?_⟩,hr.ne,fun i row e1=>?_⟩
 ·refine Nat.le_trans (Nat.mul_le_mul_right _ ?_) h3;simp only[List.length_take,List.length_drop];omega
 ·simp only[List.getElem?_take,List.getElem?_drop]at e1;split at e1
  ·rw[Nat.add_assoc];exact h4 (l+i) row k p e1 e2
  ·simp at e1
 ·simp only[List.getElem?_take,List.getElem?_drop]at e1;split at e1
  ·exact hr.len _ row e1
  ·simp at e1
theorem RoR.len{N:Nat→Prop}{p:CV}{sz:Nat}{es:List (List PV)}(hr:RoR h N (.sl sz es) p):(∃z,p= .nils z∧es=[])∨∃id base lim cf,p= .sl id base es.length lim∧N id∧RowR h id base sz es cf∧∀(i:Nat)(row:List PV)(k:Nat)(q:PV),es[i]?=some row→row[k]?=some q→RoR h N q (cf i k):=by
 cases hr with
 |nil=>exact .inl ⟨_,rfl,rfl⟩
 |sl hN hrow hc=>exact .inr ⟨_,_,_,_,rfl,hN,hrow,hc⟩
theorem R.zh(hr:R none N I Fp ts H n cts h U){g i k:Nat}{x:DC}(hx:aa ts H (.h g i k)=some x){p:Nat×Nat}(hp:PtR I g i k p):∃b v,h.get p.1=some b∧b.get p.2=some v∧bG h N I H x v (Fp (.h g i k)):=by obtain⟨v,h1,h2⟩:=hr.cell (.h g i k) x (by simp) hx;obtain⟨id,base,sz,h3,rfl⟩:=hp;simp only[bW,h3,Option.bind_eq_some_iff]at h1;obtain⟨b,h4,h5⟩:=h1;exact⟨b,v,h4,h5,h2⟩
theorem aA4(hr:R none N I Fp ts H n cts h U){g i:Nat}{id base sz:Nat}(hI:I g=some (id,base,sz)){b:Blk}(hb:h.get id=some b):∀{m k:Nat}{l:List DC},fq H g i k m=some l→∃vs,b.iz ((base+i)*sz+k) m=some vs∧vs.length=l.length∧∀(j:Nat) x,l[j]?=some x→∃v,vs[j]?=some v∧bG h N I H x v (fun _=>False):=by
 intro m;induction m with
 |zero=>intro k l hl;simp only[fq,Option.some.injEq]at hl;subst hl;exact⟨[],rfl,rfl,by simp⟩
 |succ m ih=>
  intro k l hl;simp only[fq]at hl;split at hl
  case h_2=>simp at hl
  rename_i x l' h1 h2;split at hl
  case isFalse=>simp at hl
  rename_i hp;cases hl;obtain⟨b',v,h3,h4,h5⟩:=hr.zh (show aa ts H (.h g i k)=some x from h1) ⟨id,base,sz,hI,rfl⟩;rw[hb]at h3;cases h3;obtain⟨vs,h6,h7,h8⟩:=ih h2;refine⟨v::vs,?_,by simp[h7],fun j y hj=>?_⟩
  ·simp only[Blk.iz,h4];rw[Nat.add_assoc,h6];rfl
  ·cases j with
   |zero=>cases hj;exact⟨v,rfl,h5.plain hp⟩
   |succ j=>simpa using h8 j y (by simpa using hj)
theorem qw{bb:Bool}{es:List (List PV)}{i sz base:Nat}{cf:Nat→Nat→CV}{b:Blk}(hg:∀(i:Nat)(row:List PV)(k:Nat)(p:PV),es[i]?=some row→row[k]?=some p→b.get ((base+i)*sz+k)=some (cf i k))(hc:∀(i:Nat)(row:List PV)(k:Nat)(p:PV),es[i]?=some row→row[k]?=some p→RoR h (N bb) p (cf i k)):
  ∀{m k:Nat}{l:List DC},ak bb es i k m=some l→∃vs,b.iz ((base+i)*sz+k) m=some vs∧vs.length=l.length∧∀(j:Nat) x,l[j]?=some x→∃v,vs[j]?=some v∧bG h N I H x v (fun _=>False):=by
 intro m;induction m with
 |zero=>intro k l hl;simp only[ak,Option.some.injEq]at hl;subst hl;exact⟨[],rfl,rfl,by simp⟩
 |succ m ih=>
  intro k l hl;simp only[ak]at hl;split at hl
  case h_2=>simp at hl
  rename_i p l' h1 h2;cases hl;simp only[Option.bind_eq_some_iff]at h1;obtain⟨row,e1,e2⟩:=h1;obtain⟨vs,h6,h7,h8⟩:=ih h2;refine⟨cf i k::vs,?_,by simp[h7],fun j y hj=>?_⟩
  ·simp only[Blk.iz,hg i row k p e1 e2];rw[Nat.add_assoc,h6];rfl
  ·cases j with
   |zero=>
    cases hj;refine⟨_,rfl,?_⟩;have:=hc i row k p e1 e2;cases p with
    |sc v=>cases this with|sc hv=>exact⟨hv,rfl⟩
    |sl sz' es'=>exact this
    |ro sz' es'=>cases this with|ro h=>exact h
   |succ j=>simpa using h8 j y (by simpa using hj)
theorem oZ{l:List DC}{vs:List CV}(hl:vs.length=l.length)(hc:∀(j:Nat) x,l[j]?=some x→∃v,vs[j]?=some v∧bG h N I H x v (fun _=>False)):v1R h N I H (.agg l) (.agg vs):=⟨hl,fun k x hx=>hc k x hx⟩
theorem aAB{l:List DC}{y:DC}{b:Blk}{o:Nat}{vs:List CV}(h1:b.iz o 1=some vs)(h2:vs.length=l.length)(hl:l=[y])(h3:∀(j:Nat) x,l[j]?=some x→∃v,vs[j]?=some v∧bG h N I H x v (fun _=>False)):∃v,b.get o=some v∧bG h N I H y v (fun _=>False):=by
 subst hl;obtain⟨v,h4,h5⟩:=h3 0 y rfl;refine⟨v,?_,h5⟩;simp only[Blk.iz]at h1;split at h1
 ·rename_i x hx;simp only[Option.map_some,Option.some.injEq]at h1;subst h1;simp only[List.getElem?_cons_zero,Option.some.injEq]at h4;rw[hx,h4]
 ·simp at h1
theorem R.tZ(hr:R none N I Fp ts H n cts h U){g:Nat}(hg:(aG H g).isSome=true){id base sz:Nat}(hI:I g=some (id,base,sz)):∃b,h.get id=some b:=by
 obtain⟨db,hdb⟩:=Option.isSome_iff_exists.1 hg;have:=hr.bsh g db hdb;cases db with
 |box cs=>obtain⟨id',b,h1,h2, -⟩:=this;rw[hI]at h1;simp only[Option.some.injEq,Prod.mk.injEq]at h1;rw[h1.1];exact⟨b,h2⟩
 |arr sz' es ov=>
  rcases this with⟨h1, -⟩| ⟨id',base',b,h1,h2, -⟩
  ·rw[hI]at h1;simp at h1
  ·rw[hI]at h1;simp only[Option.some.injEq,Prod.mk.injEq]at h1;rw[h1.1];exact⟨b,h2⟩
theorem wP{g i k m:Nat}{l:List DC}(hm:m≠0)(hl:fq H g i k m=some l):(aG H g).isSome=true:=by
 cases m with
 |zero=>exact absurd rfl hm
 |succ m=>
  simp only[fq]at hl;split at hl
  ·rename_i x l' h1 h2;simp only[aa]at h1;cases hg:aG H g with
   |none=>simp[hg]at h1
   |some d=>rfl
  ·simp at hl
theorem z9(hr:R none N I Fp ts H n cts h U){f:FOp}{r:DV}(hf:dfl ts H f=some r):∃y,f.ev h cts=some y∧v1R h N I H r y:=by
 cases f with
 |mov x=>exact gX hr hf
 |pick a x y=>
  simp only[dfl]at hf;split at hf
  ·rename_i h1;obtain⟨v,h2,h3⟩:=gX hr hf;exact⟨v,by simp only[FOp.ev,(eX hr h1).1,h2],h3⟩
  ·rename_i h1;obtain⟨v,h2,h3⟩:=gX hr hf;exact⟨v,by simp only[FOp.ev,(eX hr h1).1,h2],h3⟩
  ·simp at hf
 |load m x=>
  simp only[dfl]at hf;split at hf
  ·rename_i g i k h1;obtain⟨v,h2,h3⟩:=bg hr h1;have fin:∀{m:Nat}{l:List DC},m≠0→fq H g i k m=some l→∃id off b vs,v= .ptr id off∧h.get id=some b∧b.iz off m=some vs∧vs.length=l.length∧∀(j:Nat) x,l[j]?=some x→∃v,vs[j]?=some v∧bG h N I H x v (fun _=>False):=by intro m l hm hl;have hlive:=wP hm hl;obtain⟨p,⟨id,base,sz,h4,rfl⟩,rfl⟩:=h3 hlive;obtain⟨b,hb⟩:=hr.tZ hlive h4;obtain⟨vs,k1,k2,k3⟩:=aA4 hr h4 hb hl;exact⟨_,_,b,vs,rfl,hb,k1,k2,k3⟩
   cases m with
   |none=>
    simp only at hf;split at hf
    ·rename_i y hl;cases hf;obtain⟨id,off,b,vs,rfl,k1,k2,k3,k4⟩:=fin (by simp) hl;obtain⟨w,k5,k6⟩:=aAB k2 k3 rfl k4;exact⟨.one w,by simp only[FOp.ev,h2,k1,k5,Option.map_some],bw k6⟩
    ·simp at hf
   |some m=>
    simp only at hf;split at hf
    ·simp at hf
    ·rename_i hm;simp only[Option.map_eq_some_iff]at hf;obtain⟨l,hl,rfl⟩:=hf;obtain⟨id,off,b,vs,rfl,k1,k2,k3,k4⟩:=fin hm hl;exact⟨.agg vs,by simp only[FOp.ev,h2,k1,k2,Option.map_some],oZ k3 k4⟩
  ·rename_i bb sz es i k h1;obtain⟨v,h2,id,base,cf,h3,h4,h5,rfl⟩:=bg hr h1;obtain⟨b,g1,g2,g3,g4⟩:=h4.blk;cases m with
   |none=>
    simp only at hf;split at hf
    ·rename_i y hl;cases hf;obtain⟨vs,k2,k3,k4⟩:=qw (I:=I) (H:=H) g4 h5 hl;obtain⟨w,k5,k6⟩:=aAB k2 k3 rfl k4;exact⟨.one w,by simp only[FOp.ev,h2,g1,k5,Option.map_some],bw k6⟩
    ·simp at hf
   |some m=>
    simp only at hf;split at hf
    ·simp at hf
    ·rename_i hm;simp only[Option.map_eq_some_iff]at hf;obtain⟨l,hl,rfl⟩:=hf;obtain⟨vs,k2,k3,k4⟩:=qw (I:=I) (H:=H) g4 h5 hl;exact⟨.agg vs,by simp only[FOp.ev,h2,g1,k2,Option.map_some],oZ k3 k4⟩
  ·simp at hf
 |nilCheck x=>
  simp only[dfl]at hf;split at hf
  ·rename_i g i k h1;split at hf
   ·rename_i hlive;cases hf;obtain⟨v,h2,h3⟩:=bg hr h1;obtain⟨p,h4,rfl⟩:=h3 hlive;exact⟨.one (.ptr p.1 p.2),by simp only[FOp.ev,h2],bw h3⟩
   ·simp at hf
  ·rename_i bb sz es i k h1;cases hf;obtain⟨v,h2,h3⟩:=bg hr h1;have h3':=h3;obtain⟨id,base,cf, -, -, -,rfl⟩:=h3;exact⟨_,by simp only[FOp.ev,h2],bw h3'⟩
  ·simp at hf
 |bin op x y=>
  simp only[dfl]at hf;split at hf
  ·rename_i a b h1 h2;split at hf
   ·rename_i r' h3;split at hf
    ·rename_i h4;cases hf;exact⟨.one r',by simp only[FOp.ev,(eX hr h1).1,(eX hr h2).1,h3,Option.map_some],cQ h4⟩
    ·simp at hf
   ·simp at hf
  ·simp at hf
 |binB neg x y=>
  simp only[dfl]at hf;split at hf
  ·rename_i a b h1 h2;cases hf;exact⟨_,by simp only[FOp.ev,(eX hr h1).1,(eX hr h2).1],cQ rfl⟩
  ·simp at hf
 |cmpNil neg x=>simp[dfl]at hf
 |un op x=>
  simp only[dfl]at hf;split at hf
  ·rename_i a h1;split at hf
   ·rename_i r' h3;split at hf
    ·rename_i h4;cases hf;exact⟨.one r',by simp only[FOp.ev,(eX hr h1).1,h3,Option.map_some],cQ h4⟩
    ·simp at hf
   ·simp at hf
  ·simp at hf
 |conv k x=>
  simp only[dfl]at hf;split at hf
  ·rename_i k' m h1;cases hf;exact⟨_,by simp only[FOp.ev,(eX hr h1).1],cQ rfl⟩
  ·simp at hf
 |fieldAddr x off=>
  simp only[dfl]at hf;split at hf
  ·rename_i g i k h1;split at hf
   ·rename_i hlive;cases hf;obtain⟨v,h2,h3⟩:=bg hr h1;obtain⟨p,⟨id,base,sz,h5,rfl⟩,rfl⟩:=h3 hlive;refine⟨.one (.ptr id ((base+i)*sz+k+off)),by simp only[FOp.ev,h2],bw fun _=>⟨(id,(base+i)*sz+(k+off)),⟨id,base,sz,h5,rfl⟩,?_⟩⟩;simp only[Nat.add_assoc]
   ·simp at hf
  ·rename_i bb sz es i k h1;cases hf;obtain⟨v,h2,id,base,cf,g1,g2,g3,rfl⟩:=bg hr h1;exact⟨.one (.ptr id ((base+i)*sz+k+off)),by simp only[FOp.ev,h2],bw ⟨id,base,cf,g1,g2,g3,by simp only[Nat.add_assoc]⟩⟩
  ·simp at hf
 |idxAddr x i sz=>
  simp only[dfl]at hf;split at hf
  ·rename_i g lo len m h1 h2;split at hf
   ·rename_i sz' es ov h3;split at hf
    ·rename_i hc;obtain⟨c1,c2,rfl⟩:=hc;cases hf;obtain⟨v,h4,h5⟩:=bg hr h1;obtain⟨k1,k2⟩:=h5 _ _ _ h3;rcases hr.bsh g _ h3 with⟨e1,e2⟩| ⟨id,base,b,e1,e2,e3,e4,e5,e6⟩
     ·subst e2;simp at k1;omega
     ·rw[e1]at k2;simp only at k2;subst k2;refine⟨_,by simp only[FOp.ev,h4,fM hr h2,e2];rw[if_pos ⟨c1,c2,e3⟩],bw fun _=>⟨_,⟨id,base,sz',e1,rfl⟩,?_⟩⟩;simp only[Nat.add_zero,Nat.add_assoc]
    ·simp at hf
   ·simp at hf
  ·rename_i bb sz' es m h1 h2;split at hf
   ·rename_i hc;obtain⟨c1,c2,rfl⟩:=hc;cases hf;obtain⟨v,h4,h5⟩:=bg hr h1;rcases h5.len with⟨z, -,rfl⟩| ⟨id,base,lim,cf,rfl,k1,k2,k3⟩
    ·simp at c2;omega
    ·obtain⟨b,g1,g2,g3,g4⟩:=k2.blk;refine⟨_,by simp only[FOp.ev,h4,fM hr h2,g1];rw[if_pos ⟨c1,c2,g2⟩],bw ⟨id,base,cf,k1,k2,k3,by simp⟩⟩
   ·simp at hf
  ·simp at hf
 |index x i=>
  simp only[dfl]at hf;split at hf
  ·rename_i s m h1 h2;split at hf
   ·rename_i h0;simp only[Option.map_eq_some_iff]at hf;obtain⟨b,h3,rfl⟩:=hf;exact⟨_,by simp only[FOp.ev,(eX hr h1).1,fM hr h2];rw[if_pos h0,h3];rfl,cQ rfl⟩
   ·simp at hf
  ·simp at hf
 |lenS x=>
  simp only[dfl]at hf;split at hf
  ·rename_i s h1;cases hf;exact⟨_,by simp only[FOp.ev,(eX hr h1).1],cQ rfl⟩
  ·simp at hf
 |len x=>
  simp only[dfl]at hf;split at hf
  ·rename_i g lo len h1;split at hf
   ·rename_i sz' es ov h3;cases hf;obtain⟨v,h4,h5⟩:=bg hr h1;obtain⟨k1,k2⟩:=h5 _ _ _ h3;rcases hr.bsh g _ h3 with⟨e1,e2⟩| ⟨id,base,b,e1, -⟩
    ·rw[e1]at k2;obtain⟨z,rfl⟩:=k2;subst e2;have:len=0:=by simp at k1;omega
     subst this;exact⟨_,by simp only[FOp.ev,h4];rfl,cQ rfl⟩
    ·rw[e1]at k2;simp only at k2;subst k2;exact⟨_,by simp only[FOp.ev,h4],cQ rfl⟩
   ·simp at hf
  ·rename_i bb sz' es h1;cases hf;obtain⟨v,h4,h5⟩:=bg hr h1;rcases h5.len with⟨z,rfl,rfl⟩| ⟨id,base,lim,cf,rfl, -⟩
   ·exact⟨_,by simp only[FOp.ev,h4];rfl,cQ rfl⟩
   ·exact⟨_,by simp only[FOp.ev,h4],cQ rfl⟩
  ·rename_i sz' h1;cases hf;obtain⟨v,h4,h5⟩:=bg hr h1;cases h5 with
   |nil=>exact⟨_,by simp only[FOp.ev,h4],cQ rfl⟩
   |sl=>exact⟨_,by simp only[FOp.ev,h4];rfl,cQ rfl⟩
  ·simp at hf
 |sliceS x lo hi=>
  simp only[dfl]at hf;split at hf
  ·rename_i s h1;split at hf
   ·rename_i m h2;simp only[Option.map_eq_some_iff]at hf;obtain⟨l,h3,rfl⟩:=hf;exact⟨_,by simp only[FOp.ev,(eX hr h1).1,dJ hr h2,dJ hr h3,Option.map_some],cQ rfl⟩
   ·simp at hf
  ·simp at hf
 |sliceL x lo hi sz=>
  simp only[dfl]at hf;split at hf
  ·rename_i g i0 ln h1;split at hf
   ·rename_i sz' es ov h3;split at hf
    case isFalse=>simp at hf
    rename_i hsz;subst hsz;split at hf
    case h_2=>simp at hf
    rename_i m h4;split at hf
    case h_2=>simp at hf
    rename_i l h5;split at hf
    case isFalse=>simp at hf
    rename_i hle;cases hf;obtain⟨v,h6,h7⟩:=bg hr h1;obtain⟨k1,k2⟩:=h7 _ _ _ h3;have hm:m≤ln:=by
     cases hi with
     |none=>simp only[cR,Option.some.injEq]at h4;omega
     |some y=>
      simp only[cR]at h4;split at h4
      ·split at h4
       ·simp only[Option.some.injEq]at h4;omega
       ·simp at h4
      ·simp at h4
    rcases hr.bsh g _ h3 with⟨e1,e2⟩| ⟨id,base,b,e1,e2,e3, -⟩
    ·rw[e1]at k2;obtain⟨z,rfl⟩:=k2;subst e2;have:ln=0:=by simp at k1;omega
     subst this;refine⟨.one (.nils z),by simp only[FOp.ev,h6,dJ hr h4,dJ hr h5,Option.map_some],bw fun sz2 es2 ov2 hg2=>?_⟩;rw[h3]at hg2;simp only[Option.some.injEq,DB.arr.injEq]at hg2;obtain⟨rfl,rfl,rfl⟩:=hg2;simp only[List.length_nil]at k1;exact⟨by simp;omega,by rw[e1];exact⟨z,rfl⟩⟩
    ·rw[e1]at k2;simp only at k2;subst k2;refine⟨.one (.sl id (base+i0+l) (m-l) none),by simp only[FOp.ev,h6,e2];rw[if_pos e3];simp only[dJ hr h4,dJ hr h5,Option.map_some,Option.map_none],bw fun sz2 es2 ov2 hg2=>?_⟩;rw[h3]at hg2;simp only[Option.some.injEq,DB.arr.injEq]at hg2;obtain⟨rfl,rfl,rfl⟩:=hg2;exact⟨by omega,by rw[e1];simp[Nat.add_assoc]⟩
   ·simp at hf
  ·rename_i bb sz' es h1;split at hf
   case isFalse=>simp at hf
   rename_i hsz;subst hsz;split at hf
   case h_2=>simp at hf
   rename_i m h4;split at hf
   case h_2=>simp at hf
   rename_i l h5;split at hf
   case isFalse=>simp at hf
   rename_i hle;cases hf;obtain⟨v,h6,h7⟩:=bg hr h1;have hm:m≤es.length:=by
    cases hi with
    |none=>simp only[cR,Option.some.injEq]at h4;omega
    |some y=>
     simp only[cR]at h4;split at h4
     ·split at h4
      ·simp only[Option.some.injEq]at h4;omega
      ·simp at h4
     ·simp at h4
   rcases h7.len with⟨z,rfl,rfl⟩| ⟨id,base,lim,cf,rfl,k1,k2,k3⟩
   ·refine⟨.one (.nils z),by simp only[FOp.ev,h6];simp only[List.length_nil]at h4;simp only[dJ hr h4,dJ hr h5,Option.map_some],bw ?_⟩;rw[show((([]:List (List PV)).drop l).take (m-l))=[] by simp];exact RoR.nil
   ·obtain⟨b,g1,g2,g3,g4⟩:=k2.blk;refine⟨.one (.sl id (base+l) (m-l) (lim.map (· -l))),by simp only[FOp.ev,h6,g1];rw[if_pos g2];simp only[dJ hr h4,dJ hr h5,Option.map_some],bw ?_⟩;have hl:((es.drop l).take (m-l)).length=m-l:=by simp only[List.length_take,List.length_drop];omega
    have:=RoR.sl (lim:=lim.map (· -l)) k1 (k2.cut l (m-l) (by omega)) (fun i row k p e1 e2=>by
     simp only[List.getElem?_take,List.getElem?_drop]at e1;split at e1
     ·exact k3 (l+i) row k p e1 e2
     ·simp at e1)
    rw[hl]at this;exact this
  ·simp at hf
end
end Go.Cq.D
namespace Go.Cq.D
section
variable{hl:Option Loc}{N:Bool→Nat→Prop}{I:Nm}{Fp:Loc→Nat→Prop}{ts:DTs}{H:DH}{n:Nat}{cts:Ts}{h:Heap}{U:Nat→Prop}
theorem R.sub(hr:R none N I Fp ts H n cts h U){ts':DTs}{H':DH}{cts':Ts}{Fp':Loc→Nat→Prop}(hts:∀t x,an ts' t=some x→∃y,look cts' t=some y∧tSh x y)(htc:∀s j k x,aa ts' H' (.t s j k)=some x→∃v,bW cts' h I (.t s j k)=some v∧bG h N I H' x v (Fp' (.t s j k)))(htt:∀s j k x g,aa ts' H' (.t s j k)=some x→g∈x.tags→g<n)(hH:∀g db,aG H' g=some db→aG H g=some db)(hF:∀ℓ id,Fp' ℓ id→Fp ℓ id)(hFh:∀g i k,(aG H' g).isSome=true→Fp' (.h g i k)=Fp (.h g i k)):R none N I Fp' ts' H' n cts' h U:=by
 have hsub:∀g y,aG H' g=some y→∃y0,aG H g=some y0∧au y0 y:=fun g y hy=>⟨y,hH g y hy,au.refl y⟩
 have hgc:∀g i k x,aa ts' H' (.h g i k)=some x→aa ts H (.h g i k)=some x∧(aG H' g).isSome=true:=fun g i k x hx=>by
  simp only[aa]at hx ⊢;cases hg:aG H' g with
  |none=>simp[hg]at hx
  |some d=>rw[hg]at hx;rw[hH g d hg];exact⟨hx,rfl⟩
 refine⟨hts,fun g db hg=>hr.bsh g db (hH g db hg),fun ℓ x _ hx=>?_,fun ℓ x g hx hg=>?_,fun g db hg=>hr.htag g db (hH g db hg),fun g g' db db' id b s b' s' h1 h2=>hr.inj g g' db db' id b s b' s' (hH g db h1) (hH g' db' h2),fun ℓ g db id b s h1 h2=>hr.sepT ℓ g db id b s (hF _ _ h1) (hH g db h2),fun ℓ ℓ' id h1 h2=>hr.sepF ℓ ℓ' id (hF _ _ h1) (hF _ _ h2),fun g db id b s h1 h2=>hr.roT g db id b s h1 (hH g db h2),fun ℓ id h1 h2=>hr.roF ℓ id h1 (hF _ _ h2),hr.hb,fun id hid=>hr.lt id (hid.imp (fun h=>h) fun⟨ℓ,h1⟩=>⟨ℓ,hF _ _ h1⟩),hr.le,hr.ro⟩
 ·cases ℓ with
  |t s j k=>exact htc s j k x hx
  |h g i k=>obtain⟨h1,h2⟩:=hgc g i k x hx;obtain⟨v,h3,h4⟩:=hr.cell _ x (by simp) h1;exact⟨v,h3,by rw[hFh g i k h2];exact h4.same hsub⟩
 ·cases ℓ with
  |t s j k=>exact htt s j k x g hx hg
  |h g' i k=>exact hr.tags _ x g (hgc g' i k x hx).1 hg
theorem R.put(hr:R none N I Fp ts H n cts h U){d:Nat}{x:DT}{y:CVal}(hx:tR h N I H x y)(ht:∀j k q g,x.cell j k=some q→g∈q.tags→g<n):
  R none N I (fun ℓ=>match ℓ with|.t s _ _=>if s=d then fun _=>False else Fp ℓ|ℓ=>Fp ℓ) ((d,x)::ts) H n ((d,y)::cts) h U:=by
 refine hr.sub (fun t z hz=>?_) (fun s j k z hz=>?_) (fun s j k z g hz hg=>?_) (fun _ _ h=>h) (fun ℓ id hid=>?_) (fun _ _ _ _=>rfl)
 ·rw[bK]at hz;rw[bc];by_cases e:t=d
  ·subst e;simp only[if_true,Option.some.injEq]at hz ⊢;subst hz;exact⟨y,rfl,hx.1⟩
  ·simp only[e,if_false]at hz ⊢;exact hr.tsh t z hz
 ·simp only[aa,bK]at hz;by_cases e:s=d
  ·subst e;simp only[if_true,Option.bind_some]at hz;obtain⟨v,h1,h2⟩:=hx.2 j k z hz;refine⟨v,by simp[bW,bc,h1],?_⟩;simp only[if_true];exact h2
  ·simp only[e,if_false]at hz;obtain⟨v,h1,h2⟩:=hr.cell (.t s j k) z (by simp) hz;refine⟨v,by simpa [bW,bc,e]using h1,?_⟩;simp only[e,if_false];exact h2
 ·simp only[aa,bK]at hz;by_cases e:s=d
  ·subst e;simp only[if_true,Option.bind_some]at hz;exact ht j k z g hz hg
  ·simp only[e,if_false]at hz;exact hr.tags (.t s j k) z g hz hg
 ·cases ℓ with
  |t s j k=>
   simp only at hid;split at hid
   ·exact hid.elim
   ·exact hid
  |h g i k=>exact hid
def i9(d:Option Nat)(x:DT)(ts:DTs):DTs:=match d with
 |some d=>(d,x)::ts
 |none=>ts
def br(av:List Nat)(ts:DTs):DTs:=av.filterMap fun k=>(an ts k).map fun x=>(k,x)
theorem gM{av:List Nat}{ts:DTs}{t:Nat}{x:DT}(h:an (br av ts) t=some x):an ts t=some x∧t∈av:=by
 induction av with
 |nil=>simp[br,an]at h
 |cons k l ih=>
  simp only[br,List.filterMap_cons]at h;cases hk:an ts k with
  |none=>simp only[hk,Option.map_none]at h;exact⟨(ih h).1,by simp[(ih h).2]⟩
  |some y=>
   simp only[hk,Option.map_some,bK]at h;by_cases e:t=k
   ·subst e;simp only[if_true,Option.some.injEq]at h;subst h;exact⟨hk,by simp⟩
   ·simp only[e,if_false]at h;exact⟨(ih h).1,by simp[(ih h).2]⟩
theorem kO{av:List Nat}{ts:Ts}{t:Nat}{x:CVal}(h:look ts t=some x)(ht:t∈av):look (prune av ts) t=some x:=by
 induction av with
 |nil=>simp at ht
 |cons k l ih=>
  simp only[prune,List.filterMap_cons];by_cases e:t=k
  ·subst e;simp only[h,Option.map_some,bc,if_true]
  ·have ht':t∈l:=by simpa [e]using ht
   cases hk:look ts k with
   |none=>simp only[Option.map_none];exact ih ht'
   |some y=>simp only[Option.map_some,bc,e,if_false];exact ih ht'
theorem R.prune(hr:R none N I Fp ts H n cts h U)(av keep':List Nat)(hk:∀t,t∈av→t∈keep'):R none N I Fp (br av ts) H n (prune keep' cts) h U:=by
 refine hr.sub (fun t z hz=>?_) (fun s j k z hz=>?_) (fun s j k z g hz hg=>?_) (fun _ _ h=>h) (fun _ _ h=>h) (fun _ _ _ _=>rfl)
 ·obtain⟨h1,h2⟩:=gM hz;obtain⟨y,h3,h4⟩:=hr.tsh t z h1;exact⟨y,kO h3 (hk t h2),h4⟩
 ·simp only[aa,Option.bind_eq_some_iff]at hz;obtain⟨y,h1,h2⟩:=hz;obtain⟨h3,h4⟩:=gM h1;obtain⟨v,h5,h6⟩:=hr.cell (.t s j k) z (by simp) (by simp[aa,h3,h2]);simp only[bW,Option.bind_eq_some_iff]at h5;obtain⟨w,h7,h8⟩:=h5;exact⟨v,by simp[bW,kO h7 (hk s h4),h8],h6⟩
 ·simp only[aa,Option.bind_eq_some_iff]at hz;obtain⟨y,h1,h2⟩:=hz;exact hr.tags (.t s j k) z g (by simp[aa,(gM h1).1,h2]) hg
theorem bG.del{H':DH}{x:DC}{v:CV}{F:Nat→Prop}(hc:bG h N I H x v F)(hH:∀g db,aG H' g=some db→aG H g=some db):bG h N I H' x v F:=hc.same fun g y hy=>⟨y,hH g y hy,au.refl y⟩
end
end Go.Cq.D
namespace Go.Cq.D
def wr1(i k:Nat)(x:DC):DB→Option DB
 |.box cs=>if i=0∧k<cs.length then some (.box (cs.set k x))else none
 |.arr sz es ov=>if i<es.length∧k<sz then(if ov.all (fun p=>!Nat.beq p.2.1 k)then match x with
   |.sc v=>some (.arr sz (es.modify i (·.set k (.sc v))) ov)
   |.own z []=>some (.arr sz (es.modify i (·.set k (.sl z []))) ov)
   |.ro false z l=>some (.arr sz (es.modify i (·.set k (.ro z l))) ov)
   |x=>some (.arr sz es ((i,k,x)::ov))
  else some (.arr sz es ((i,k,x)::ov)))else none
def wrN(i k:Nat):List DC→DB→Option DB
 | [],db=>some db
 |x::l,db=>match wr1 i k x db with
  |some db'=>wrN i (k+1) l db'
  |none=>none
theorem vo{ov:List (Nat×Nat×DC)}{k:Nat}(h:ov.all (fun p=>!Nat.beq p.2.1 k)=true)(i:Nat):ab ov i k=none:=by
 induction ov with
 |nil=>rfl
 |cons p l ih=>obtain⟨i0,k0,x⟩:=p;simp only[List.all_cons,Bool.and_eq_true,Bool.not_eq_true']at h;simp only[ab,h.1,cond_false];exact ih h.2
theorem wE{i k:Nat}{x:DC}{db db':DB}(hrow:∀sz es ov,db= .arr sz es ov→∀(i:Nat)(row:List PV),es[i]?=some row→row.length=sz)(h:wr1 i k x db=some db'):
  au db db'∧(∃x0,db.cell i k=some x0)∧∀i' k',db'.cell i' k'=if i'=i∧k'=k then some x else db.cell i' k':=by
 cases db with
 |box cs=>
  simp only[wr1]at h;split at h
  ·rename_i hc;obtain⟨rfl,hk⟩:=hc;cases h;have hg:(DB.box cs).cell 0 k=some cs[k]:=by simp[DB.cell,hk]
   refine⟨by simp[au],⟨_,hg⟩,fun i' k'=>?_⟩;have:=DB.fT (x:=x) hg i' k';simpa [DB.fc]using this
  ·simp at h
 |arr sz es ov=>
  simp only[wr1]at h;split at h
  case isFalse=>simp at h
  rename_i hc;obtain⟨hi,hk⟩:=hc;have hlen:(es[i]).length=sz:=hrow sz es ov rfl i _ (List.getElem?_eq_getElem hi);have hp:∃p,(es[i]?).bind (·[k]?)=some p:=⟨(es[i])[k],by simp[hi]⟩;obtain⟨p,hp⟩:=hp;have hx0:∃x0,(DB.arr sz es ov).cell i k=some x0:=by
   simp only[DB.cell,hp];cases ab ov i k with
   |none=>exact⟨_,rfl⟩
   |some y=>exact⟨_,rfl⟩
  have viaOv:au (.arr sz es ov) (.arr sz es ((i,k,x)::ov))∧(∃x0,(DB.arr sz es ov).cell i k=some x0)∧∀i' k',(DB.arr sz es ((i,k,x)::ov)).cell i' k'=if i'=i∧k'=k then some x else(DB.arr sz es ov).cell i' k':=by obtain⟨x0,hx0'⟩:=hx0;refine⟨by simp[au],⟨x0,hx0'⟩,fun i' k'=>?_⟩;have:=DB.fT (x:=x) hx0' i' k';simpa [DB.fc]using this
  have viaEs:∀q:PV,q.dc=x→ov.all (fun p=>!Nat.beq p.2.1 k)=true→au (.arr sz es ov) (.arr sz (es.modify i (·.set k q)) ov)∧(∃x0,(DB.arr sz es ov).cell i k=some x0)∧∀i' k',(DB.arr sz (es.modify i (·.set k q)) ov).cell i' k'=if i'=i∧k'=k then some x else(DB.arr sz es ov).cell i' k':=by
   intro q hq hov;refine⟨⟨rfl,by simp,fun j=>?_⟩,hx0,fun i' k'=>?_⟩
   ·rw[List.getElem?_modify];split
    ·cases es[j]?<;>simp
    ·simp
   ·simp only[DB.cell,List.getElem?_modify];by_cases e:i'=i∧k'=k
    ·obtain⟨rfl,rfl⟩:=e;simp[hi,hlen,hk,vo hov,hq]
    ·rw[if_neg e];by_cases e1:i=i'
     ·subst e1;have e2:¬k=k':=fun e2=>e ⟨rfl,e2.symm⟩
      simp[hi,List.getElem?_set_ne e2]
     ·simp[e1]
  split at h
  ·rename_i hov;split at h<;>simp only[Option.some.injEq]at h<;>subst h
   ·exact viaEs _ rfl hov
   ·exact viaEs _ rfl hov
   ·exact viaEs _ rfl hov
   ·exact viaOv
  ·cases h;exact viaOv
section
variable{hl:Option Loc}{N:Bool→Nat→Prop}{I:Nm}{Fp:Loc→Nat→Prop}{ts:DTs}{H:DH}{n:Nat}{cts:Ts}{h:Heap}{U:Nat→Prop}
theorem R.ext(hr:R hl N I Fp ts H n cts h U){H':DH}{h':Heap}(hH:∀g,aG H' g=aG H g)(hh:∀id,h'.get id=h.get id):R hl N I Fp ts H' n cts h' U:=by
 have hcc:∀ℓ,bW cts h' I ℓ=bW cts h I ℓ:=fun ℓ=>by
  cases ℓ with
  |t s j k=>rfl
  |h g i k=>simp only[bW,hh]
 have hgc:∀ℓ,aa ts H' ℓ=aa ts H ℓ:=fun ℓ=>by
  cases ℓ with
  |t s j k=>rfl
  |h g i k=>simp only[aa,hH]
 refine⟨hr.tsh,fun g db hg=>?_,fun ℓ x hne hx=>?_,fun ℓ x g hx=>hr.tags ℓ x g (by rw[←hgc];exact hx),fun g db hg=>hr.htag g db (by rw[←hH];exact hg),fun g g' db db' id b s b' s' h1 h2=>hr.inj g g' db db' id b s b' s' (by rw[←hH];exact h1) (by rw[←hH];exact h2),fun ℓ g db id b s h1 h2=>hr.sepT ℓ g db id b s h1 (by rw[←hH];exact h2),hr.sepF,fun g db id b s h1 h2=>hr.roT g db id b s h1 (by rw[←hH];exact h2),hr.roF,fun id b hb=>hr.hb id b (by rw[←hh];exact hb),hr.lt,hr.le,fun id b hb=>hr.ro id b (by rw[←hh];exact hb)⟩
 ·have:=hr.bsh g db (by rw[←hH];exact hg);cases db with
  |box cs=>simp only[eZ,hh]at this ⊢;exact this
  |arr sz es ov=>simp only[eZ,hh]at this ⊢;exact this
 ·obtain⟨v,h1,h2⟩:=hr.cell ℓ x hne (by rw[←hgc];exact hx);refine⟨v,by rw[hcc];exact h1,h2.mono (fun _ id hid=>⟨hh id,hid⟩) (fun id hid=>⟨hh id,hid⟩) (fun g sz es ov _ hg=>⟨rfl,es,ov,by rw[←hH];exact hg,Nat.le_refl _⟩) (fun g _ hg=>⟨by rw[←hH];exact hg,rfl⟩)⟩
theorem aCg{sz i k i' k':Nat}(hk:k<sz)(hk':k'<sz)(h:i*sz+k=i'*sz+k'):i=i'∧k=k':=by
 have hz:0<sz:=by omega
 have h1:(i*sz+k) / sz=(i'*sz+k') / sz:=by rw[h]
 rw[Nat.mul_comm i,Nat.mul_comm i',Nat.mul_add_div hz,Nat.mul_add_div hz,Nat.div_eq_of_lt hk,Nat.div_eq_of_lt hk']at h1;have:i=i':=by omega
 subst this;exact⟨rfl,by omega⟩
theorem R.aDm(hr:R none N I Fp ts H n cts h U){g i k:Nat}{db db':DB}(hg:aG H g=some db){x:DC}(hw:wr1 i k x db=some db'){id base sz:Nat}(hI:I g=some (id,base,sz)){b:Blk}(hb:h.get id=some b){v:CV}(hx:bG h N I H x v (fun _=>False))(ht:∀g',g'∈x.tags→g'<n):(base+i)*sz+k<b.n∧∃Fp',R none N I Fp' ts (cj g db' H) n cts (h.set id (some (b.put ((base+i)*sz+k) [v]))) U∧∀ℓ id',Fp' ℓ id'→Fp ℓ id':=by
 have hsh:=hr.bsh g db hg;have hrow:∀sz es ov,db= .arr sz es ov→∀(i:Nat)(row:List PV),es[i]?=some row→row.length=sz:=by
  rintro sz' es ov rfl i row hi;rcases hsh with⟨-,rfl⟩| ⟨_,_,_, -, -, -, -, -,h6⟩
  ·simp at hi
  ·exact h6 i row hi
 obtain⟨w1,⟨x0,w2⟩,w3⟩:=wE hrow hw;have hbound:∀i' k' y,db.cell i' k'=some y→(base+i')*sz+k'<b.n∧((base+i')*sz+k'=(base+i)*sz+k→i'=i∧k'=k):=by
  intro i' k' y hy;cases db with
  |box cs=>
   obtain⟨id',b',h1,h2,h3⟩:=hsh;rw[hI]at h1;cases h1;rw[hb]at h2;cases h2;simp only[DB.cell]at hy w2;split at hy
   ·rename_i e;split at w2
    ·rename_i e';have hlt:=(List.getElem?_eq_some_iff.1 hy).1;exact⟨by simp;omega,fun h=>⟨by omega,by simpa using h⟩⟩
    ·simp at w2
   ·simp at hy
  |arr sz' es ov=>
   rcases hsh with⟨h1, -⟩| ⟨id',base',b',h1,h2,h3,h4,h5,h6⟩
   ·rw[hI]at h1;simp at h1
   ·rw[hI]at h1;cases h1;rw[hb]at h2;cases h2;have cut:∀i k y,(DB.arr sz es ov).cell i k=some y→i<es.length∧k<sz:=by
     intro i k y hy;simp only[DB.cell]at hy;split at hy
     ·rename_i p hp;simp only[Option.bind_eq_some_iff]at hp;obtain⟨row,e1,e2⟩:=hp;exact⟨(List.getElem?_eq_some_iff.1 e1).1,by rw[←h6 i row e1];exact(List.getElem?_eq_some_iff.1 e2).1⟩
     ·simp at hy
    obtain⟨a1,a2⟩:=cut i' k' y hy;obtain⟨a3,a4⟩:=cut i k x0 w2;refine⟨Nat.lt_of_lt_of_le ?_ h5,fun h=>?_⟩
    ·have:(base+i'+1)*sz≤(base+es.length)*sz:=Nat.mul_le_mul_right _ (by omega);rw[Nat.add_mul,Nat.one_mul]at this;omega
    ·obtain⟨e1,e2⟩:=aCg a2 a4 h;exact⟨by omega,e2⟩
 have hlt:=(hbound i k x0 w2).1;refine⟨hlt,?_⟩;have hputn:(b.put ((base+i)*sz+k) [v]).n=b.n:=rfl;have hputs:(b.put ((base+i)*sz+k) [v]).sz=b.sz:=rfl;have hgetp:∀j,(b.put ((base+i)*sz+k) [v]).get j=if j=(base+i)*sz+k then some v else b.get j:=fun j=>by
  rw[Blk.mM (by simp;omega)];by_cases e:j=(base+i)*sz+k
  ·subst e;simp
  ·have:¬((base+i)*sz+k≤j∧j< (base+i)*sz+k+1):=by omega
   simp[e,this]
 have hNid:∀bb id',N bb id'→(h.set id (some (b.put ((base+i)*sz+k) [v]))).get id'=h.get id':=fun bb id' hid'=>by rw[Heap.aQ,if_neg];rintro rfl;exact hr.roT g db _ base sz (by cases bb;exact hr.le _ hid';exact hid') hg hI
 have hFid:∀ℓ id',Fp ℓ id'→(h.set id (some (b.put ((base+i)*sz+k) [v]))).get id'=h.get id':=fun ℓ id' hid'=>by rw[Heap.aQ,if_neg];rintro rfl;exact hr.sepT ℓ g db _ base sz hid' hg hI
 have hH':∀g' y,aG (cj g db' H) g'=some y→∃y0,aG H g'=some y0∧au y0 y:=fun g' y hy=>by
  rw[ax]at hy;split at hy
  ·rename_i e;subst e;cases hy;exact⟨db,hg,w1⟩
  ·exact⟨y,hy,au.refl y⟩
 have av:∀{y:DC}{u:CV}{F:Nat→Prop},bG h N I H y u F→(∀id',F id'→(h.set id (some (b.put ((base+i)*sz+k) [v]))).get id'=h.get id')→bG (h.set id (some (b.put ((base+i)*sz+k) [v]))) N I (cj g db' H) y u F:=fun hc hF=>(hc.mono (fun bb id' hid'=>⟨hNid bb id' hid',hid'⟩) (fun id' hid'=>⟨hF id' hid',hid'⟩) (fun g sz es ov _ hg=>⟨rfl,es,ov,hg,Nat.le_refl _⟩) (fun g _ hg=>⟨hg,rfl⟩)).same hH'
 refine⟨fun ℓ=>if ℓ= .h g i k then fun _=>False else Fp ℓ,⟨hr.tsh,fun g' d hd=>?_,fun ℓ y _ hy=>?_,fun ℓ y g' hy hgt=>?_,fun g' d hd=>?_,fun g1 g2 d1 d2 id' b1 s1 b2 s2 h1 h2=>?_,fun ℓ g' d id' b' s' h1 h2=>?_,fun ℓ ℓ' id' h1 h2=>?_,fun g' d id' b' s' h1 h2=>?_,fun ℓ id' h1 h2=>?_,fun id' b' hb'=>?_,fun id' hid'=>?_,hr.le,fun id' b' hb' hbr=>?_⟩,fun ℓ id' h1=>?_⟩
 ·have hsame:∀{g':Nat}{d:DB},eZ h I g' d→eZ (h.set id (some (b.put ((base+i)*sz+k) [v]))) I g' d:=by
   intro g' d hd;cases d with
   |box cs=>
    obtain⟨id',b',h1,h2,h3⟩:=hd;by_cases e:id'=id
    ·subst e;rw[hb]at h2;cases h2;exact⟨id',b.put ((base+i)*sz+k) [v],h1,by rw[Heap.aQ,if_pos rfl],h3⟩
    ·exact⟨id',b',h1,by rw[Heap.aQ,if_neg e];exact h2,h3⟩
   |arr sz' es ov=>
    rcases hd with hd| ⟨id',base',b',h1,h2,h3,h4,h5,h6⟩
    ·exact .inl hd
    ·by_cases e:id'=id
     ·subst e;rw[hb]at h2;cases h2;exact .inr ⟨id',base',b.put ((base+i)*sz+k) [v],h1,by rw[Heap.aQ,if_pos rfl],h3,h4,h5,h6⟩
     ·exact .inr ⟨id',base',b',h1,by rw[Heap.aQ,if_neg e];exact h2,h3,h4,h5,h6⟩
  rw[ax]at hd;split at hd
  ·rename_i e;subst e;cases hd;exact hsame (hsh.same w1)
  ·exact hsame (hr.bsh g' d hd)
 ·by_cases e:ℓ= .h g i k
  ·subst e;simp only[aa,ax,if_true,Option.bind_some,w3,and_self]at hy;cases hy;refine⟨v,?_,?_⟩
   ·simp only[bW,hI,Heap.aQ,if_true,Option.bind_some,hgetp]
   ·simp only[if_true];exact av hx fun _ h=>h.elim
  ·simp only[e,if_false];have hy':aa ts H ℓ=some y:=by
    cases ℓ with
    |t s j k=>exact hy
    |h g' i' k'=>
     simp only[aa,ax]at hy ⊢;split at hy
     ·rename_i e1;subst e1;have:¬(i'=i∧k'=k):=fun⟨e2,e3⟩=>e (by rw[e2,e3])
      simpa [hg,w3,this]using hy
     ·exact hy
   obtain⟨u,h1,h2⟩:=hr.cell ℓ y (by simp) hy';refine⟨u,?_,av h2 (hFid ℓ)⟩;cases ℓ with
   |t s j k=>exact h1
   |h g' i' k'=>
    simp only[bW]at h1 ⊢;cases hI':I g' with
    |none=>rw[hI']at h1;simp at h1
    |some p=>
     obtain⟨id',base',sz'⟩:=p;rw[hI']at h1;simp only[Heap.aQ]at h1 ⊢;by_cases e1:id'=id
     ·subst e1;simp only[if_true,Option.bind_some,hgetp];rw[hb]at h1;simp only[Option.bind_some]at h1;simp only[aa]at hy';cases hgg:aG H g' with
      |none=>simp[hgg]at hy'
      |some d=>
       have:=hr.inj g' g d db _ _ _ _ _ hgg hg hI' hI;subst this;rw[hI]at hI';simp only[Option.some.injEq,Prod.mk.injEq]at hI';obtain⟨-,rfl,rfl⟩:=hI';rw[hg]at hgg;cases hgg;simp only[hg,Option.bind_some]at hy';rw[if_neg]
       ·exact h1
       ·intro e2;obtain⟨e3,e4⟩:=(hbound i' k' y hy').2 e2;exact e (by rw[e3,e4])
     ·simp only[e1,if_false];exact h1
 ·by_cases e:ℓ= .h g i k
  ·subst e;simp only[aa,ax,if_true,Option.bind_some,w3,and_self,Option.some.injEq]at hy;subst hy;exact ht g' hgt
  ·refine hr.tags ℓ y g' ?_ hgt;cases ℓ with
   |t s j k=>exact hy
   |h g2 i' k'=>
    simp only[aa,ax]at hy ⊢;split at hy
    ·rename_i e1;subst e1;have:¬(i'=i∧k'=k):=fun⟨e2,e3⟩=>e (by rw[e2,e3])
     simpa [hg,w3,this]using hy
    ·exact hy
 ·obtain⟨y0,h1, -⟩:=hH' g' d hd;exact hr.htag g' y0 h1
 ·obtain⟨y0,k1, -⟩:=hH' g1 d1 h1;obtain⟨y1,k2, -⟩:=hH' g2 d2 h2;exact hr.inj g1 g2 y0 y1 id' b1 s1 b2 s2 k1 k2
 ·obtain⟨y0,k1, -⟩:=hH' g' d h2;split at h1
  ·exact h1.elim
  ·exact hr.sepT ℓ g' y0 id' b' s' h1 k1
 ·split at h1
  ·exact h1.elim
  ·split at h2
   ·exact h2.elim
   ·exact hr.sepF ℓ ℓ' id' h1 h2
 ·obtain⟨y0,k1, -⟩:=hH' g' d h2;exact hr.roT g' y0 id' b' s' h1 k1
 ·split at h2
  ·exact h2.elim
  ·exact hr.roF ℓ id' h1 h2
 ·rw[Heap.aQ]at hb';split at hb'
  ·rename_i e;subst e;exact hr.hb _ b hb
  ·exact hr.hb id' b' hb'
 ·rcases hid' with h1| ⟨ℓ,h1⟩
  ·exact hr.lt id' (.inl h1)
  ·split at h1
   ·exact h1.elim
   ·exact hr.lt id' (.inr ⟨ℓ,h1⟩)
 ·rw[Heap.aQ]at hb';split at hb'
  ·rename_i e;subst e;cases hb';exact hr.ro _ b hb hbr
  ·exact hr.ro id' b' hb' hbr
 ·simp only at h1;split at h1
  ·exact h1.elim
  ·exact h1
theorem R.aAh:∀{l:List DC}{vs:List CV}{k:Nat}{db db':DB}{Fp:Loc→Nat→Prop}{H:DH}{h:Heap}{b:Blk}{g i id base sz:Nat},R none N I Fp ts H n cts h U→aG H g=some db→wrN i k l db=some db'→I g=some (id,base,sz)→h.get id=some b→
  vs.length=l.length→(∀(j:Nat) x,l[j]?=some x→(∃v,vs[j]?=some v∧bG h N I H x v (fun _=>False))∧∀g',g'∈x.tags→g'<n)→
  (l≠[]→(base+i)*sz+k+l.length≤b.n)∧∃Fp',R none N I Fp' ts (cj g db' H) n cts (h.set id (some (b.put ((base+i)*sz+k) vs))) U∧∀ℓ id',Fp' ℓ id'→Fp ℓ id':=by
 intro l;induction l with
 |nil=>
  intro vs k db db' Fp H h b g i id base sz hr hg hw hI hb hlen _;have:vs=[]:=List.length_eq_zero_iff.1 hlen;subst this;simp only[wrN,Option.some.injEq]at hw;subst hw;refine⟨fun h=>absurd rfl h,Fp,hr.ext (fun g'=>?_) (fun id'=>?_),fun _ _ h=>h⟩
  ·rw[ax];split
   ·rename_i e;rw[e,hg]
   ·rfl
  ·rw[Heap.aQ];split
   ·rename_i e;rw[e,hb];rfl
   ·rfl
 |cons x l ih=>
  intro vs k db db' Fp H h b g i id base sz hr hg hw hI hb hlen hx;cases vs with
  |nil=>simp at hlen
  |cons v vs=>
   simp only[wrN]at hw;split at hw
   case h_2=>simp at hw
   rename_i db1 h1;obtain⟨⟨v',h2,h3⟩,h4⟩:=hx 0 x rfl;cases h2;obtain⟨hlt,Fp1,hr1,hs1⟩:=hr.aDm hg h1 hI hb h3 h4;have hH1:∀g' y,aG (cj g db1 H) g'=some y→∃y0,aG H g'=some y0∧au y0 y:=by
    have hrow:∀sz es ov,db= .arr sz es ov→∀(i:Nat)(row:List PV),es[i]?=some row→row.length=sz:=by
     rintro sz' es ov rfl i row hi;rcases hr.bsh g _ hg with⟨-,rfl⟩| ⟨_,_,_, -, -, -, -, -,h6⟩
     ·simp at hi
     ·exact h6 i row hi
    intro g' y hy;rw[ax]at hy;split at hy
    ·rename_i e;subst e;cases hy;exact⟨db,hg,(wE hrow h1).1⟩
    ·exact⟨y,hy,au.refl y⟩
   obtain⟨hle,Fp2,hr2,hs2⟩:=ih (vs:=vs) hr1 (by rw[ax,if_pos rfl]) hw hI (by rw[Heap.aQ,if_pos rfl]) (by simpa using hlen) (fun j y hj=>by obtain⟨⟨u,h5,h6⟩,h7⟩:=hx (j+1) y (by simpa using hj);refine⟨⟨u,by simpa using h5,?_⟩,h7⟩;refine(h6.mono (fun bb id' hid'=>⟨?_,hid'⟩) (fun _ h=>h.elim) (fun g sz es ov _ hg=>⟨rfl,es,ov,hg,Nat.le_refl _⟩) (fun g _ hg=>⟨hg,rfl⟩)).same hH1;rw[Heap.aQ,if_neg];rintro rfl;exact hr.roT g db _ base sz (by cases bb;exact hr.le _ hid';exact hid') hg hI);refine⟨fun _=>?_,Fp2,hr2.ext (fun g'=>?_) (fun id'=>?_),fun ℓ id' h=>hs1 _ _ (hs2 _ _ h)⟩
   ·cases l with
    |nil=>simp;omega
    |cons y l=>have:=hle (by simp);have e:(b.put ((base+i)*sz+k) [v]).n=b.n:=rfl;rw[e]at this;simp only[List.length_cons]at this ⊢;omega
   ·simp only[ax];split<;>rfl
   ·simp only[Heap.aQ];split
    ·rfl
    ·rfl
end
end Go.Cq.D
namespace Go.Cq.D
structure Grow(I:Nm)(Fp:Loc→Nat→Prop)(H:DH)(n:Nat)(U:Nat→Prop)(h:Heap)(I':Nm)(Fp':Loc→Nat→Prop)(H':DH)(n':Nat)(U':Nat→Prop)(h':Heap):Prop where
 nn:n≤n'
 cc:∀id,U id→U' id
 nm:∀g,g<n→I' g=I g
 own:∀id,aV I' Fp' H' id→aV I Fp H id∨¬U id∧U' id
 hp:∀id,U id→¬aV I Fp H id→h'.get id=h.get id
 sh:∀g db',g<n→aG H' g=some db'→∃db,aG H g=some db∧au db db'
 mp:∀id,h'.getM id=h.getM id
theorem Grow.refl(I:Nm)(Fp:Loc→Nat→Prop)(H:DH)(n:Nat)(U:Nat→Prop)(h:Heap):Grow I Fp H n U h I Fp H n U h:=⟨Nat.le_refl _,fun _ h=>h,fun _ _=>rfl,fun _ h=>.inl h,fun _ _ _=>rfl,fun _g db _ hg=>⟨db,hg,au.refl db⟩,fun _=>rfl⟩
theorem Grow.trans{I:Nm}{Fp:Loc→Nat→Prop}{H:DH}{n:Nat}{U:Nat→Prop}{h:Heap}{I':Nm}{Fp':Loc→Nat→Prop}{H':DH}{n':Nat}{U':Nat→Prop}{h':Heap}{I2:Nm}{Fp2:Loc→Nat→Prop}{H2:DH}{n2:Nat}{U2:Nat→Prop}{h2:Heap}(a:Grow I Fp H n U h I' Fp' H' n' U' h')(b:Grow I' Fp' H' n' U' h' I2 Fp2 H2 n2 U2 h2):Grow I Fp H n U h I2 Fp2 H2 n2 U2 h2:=by
 refine⟨Nat.le_trans a.nn b.nn,fun id hid=>b.cc id (a.cc id hid),fun g hg=>(b.nm g (Nat.lt_of_lt_of_le hg a.nn)).trans (a.nm g hg),fun id hid=>?_,fun id h1 h2=>?_,fun g db hg hd=>?_,fun id=>(b.mp id).trans (a.mp id)⟩
 ·rcases b.own id hid with h1|h1
  ·rcases a.own id h1 with h2|h2
   ·exact .inl h2
   ·exact .inr ⟨h2.1,b.cc id h2.2⟩
  ·exact .inr ⟨fun h=>h1.1 (a.cc id h),h1.2⟩
 ·rw[b.hp id (a.cc id h1) fun h3=>?_,a.hp id h1 h2];rcases a.own id h3 with h4|h4
  ·exact h2 h4
  ·exact h4.1 h1
 ·obtain⟨d1,k1,k2⟩:=b.sh g db (Nat.lt_of_lt_of_le hg a.nn) hd;obtain⟨d2,k3,k4⟩:=a.sh g d1 hg k1;exact⟨d2,k3,k4.trans k2⟩
section
variable{hl:Option Loc}{N:Bool→Nat→Prop}{I:Nm}{Fp:Loc→Nat→Prop}{ts:DTs}{H:DH}{n:Nat}{cts:Ts}{h:Heap}{U:Nat→Prop}
theorem R.aDr(hr:R hl N I Fp ts H n cts h U){i:Nat}{U':Nat→Prop}(hi:¬U i)(hU:∀id,U id→U' id)(hc:U' i)(b:Blk)(hro:b.ro=false):R hl N I Fp ts H n cts (h.set i (some b)) U':=by
 have hget:∀id,U id→(h.set i (some b)).get id=h.get id:=fun id hid=>by rw[Heap.aQ,if_neg (fun e:id=i=>hi (e▸hid))]
 have hN:∀bb id,N bb id→(h.set i (some b)).get id=h.get id:=fun bb id hid=>hget id (hr.lt id (.inl (by cases bb;exact hr.le _ hid;exact hid)))
 have hF:∀ℓ id,Fp ℓ id→(h.set i (some b)).get id=h.get id:=fun ℓ id hid=>hget id (hr.lt id (.inr ⟨ℓ,hid⟩))
 have hT:∀id b',h.get id=some b'→(h.set i (some b)).get id=some b':=fun id b' hid=>by rw[hget id (hr.hb id b' hid),hid]
 refine⟨hr.tsh,fun g db hg=>?_,fun ℓ x hne hx=>?_,hr.tags,hr.htag,hr.inj,hr.sepT,hr.sepF,hr.roT,hr.roF,fun id b' hb=>?_,fun id hid=>hU id (hr.lt id hid),hr.le,fun id b' hb hbr=>?_⟩
 ·have:=hr.bsh g db hg;cases db with
  |box cs=>obtain⟨id,b',h1,h2,h3⟩:=this;exact⟨id,b',h1,hT _ _ h2,h3⟩
  |arr sz es ov=>
   rcases this with h1| ⟨id,base,b',h1,h2,h3⟩
   ·exact .inl h1
   ·exact .inr ⟨id,base,b',h1,hT _ _ h2,h3⟩
 ·obtain⟨v,h1,h2⟩:=hr.cell ℓ x hne hx;refine⟨v,?_,h2.mono (fun bb id hid=>⟨hN bb id hid,hid⟩) (fun id hid=>⟨hF ℓ id hid,hid⟩) (fun g sz es ov _ hg=>⟨rfl,es,ov,hg,Nat.le_refl _⟩) (fun g _ hg=>⟨hg,rfl⟩)⟩;cases ℓ with
  |t s j k=>exact h1
  |h g i' k=>
   simp only[bW]at h1 ⊢;cases hI:I g with
   |none=>rw[hI]at h1;simp at h1
   |some p=>rw[hI]at h1;simp only at h1 ⊢;simp only[Option.bind_eq_some_iff]at h1;obtain⟨b',h3,h4⟩:=h1;rw[hT _ _ h3];exact h4
 ·rw[Heap.aQ]at hb;split at hb
  ·rename_i e;rw[e];exact hc
  ·exact hU id (hr.hb id b' hb)
 ·rw[Heap.aQ]at hb;split at hb
  ·cases hb;exact absurd (hbr.symm.trans hro) (by simp)
  ·exact hr.ro id b' hb hbr
theorem R.new(hr:R none N I Fp ts H n cts h U){i:Nat}{U':Nat→Prop}(hi:¬U i)(hU:∀id,U id→U' id)(hc:U' i){b:Blk}(hro:b.ro=false){db:DB}{sz:Nat}(hsh:eZ (h.set i (some b)) (upd I n (some (i,0,sz))) n db)(hcell:∀i' k x,db.cell i' k=some x→∃v,b.get (i'*sz+k)=some v∧bG h N I H x v (fun _=>False)∧∀g,g∈x.tags→g<n):
  ∃Fp',R none N (upd I n (some (i,0,sz))) Fp' ts ((n,db)::H) (n+1) cts (h.set i (some b)) U'∧Grow I Fp H n U h (upd I n (some (i,0,sz))) Fp' ((n,db)::H) (n+1) U' (h.set i (some b)):=by
 have hr1:=hr.aDr hi hU hc b hro;have hget:∀id,U id→(h.set i (some b)).get id=h.get id:=fun id hid=>by rw[Heap.aQ,if_neg (fun e:id=i=>hi (e▸hid))]
 have hfree:Free N I Fp H U' i:=⟨fun ℓ hid=>hi (hr.lt i (.inr ⟨ℓ,hid⟩)),fun g d b' s hg hI=>by
   have:=hr.bsh g d hg;have:∃b0,h.get i=some b0:=by
    cases d with
    |box cs=>obtain⟨id,b0,h1,h2, -⟩:=this;rw[hI]at h1;simp only[Option.some.injEq,Prod.mk.injEq]at h1;rw[h1.1];exact⟨b0,h2⟩
    |arr sz' es ov=>
     rcases this with⟨h1, -⟩| ⟨id,base,b0,h1,h2, -⟩
     ·rw[hI]at h1;simp at h1
     ·rw[hI]at h1;simp only[Option.some.injEq,Prod.mk.injEq]at h1;rw[h1.1];exact⟨b0,h2⟩
   obtain⟨b0,hb0⟩:=this;exact hi (hr.hb i b0 hb0),fun hid=>hi (hr.lt i (.inl hid)),hc⟩
 have hr2:=hr1.nN (nm:=some (i,0,sz)) (db:=db) (φ:=fun _ _ _=>False) hsh (fun id b' s e=>by simp only[Option.some.injEq,Prod.mk.injEq]at e;rw[←e.1];exact hfree) (fun _ _ _ h=>h.elim) (fun _ _ _ _ _ h=>h.elim) (fun i' k x hx=>by
  obtain⟨v,h1,h2,h3⟩:=hcell i' k x hx;refine⟨v,by simp only[bW,upd,if_true,Heap.aQ,Option.bind_some,Nat.zero_add];exact h1,?_⟩;have hlt:∀g,g∈x.tags→aG ((n,db)::H) g=aG H g∧upd I n (some (i,0,sz)) g=I g:=fun g hg=>by have:=h3 g hg;exact⟨by rw[aW,if_neg (by omega)],by simp only[upd];rw[if_neg (by omega)]⟩
  exact h2.mono (fun bb id hid=>⟨hget id (hr.lt id (.inl (by cases bb;exact hr.le _ hid;exact hid))),hid⟩) (fun id hid=>hid.elim) (fun g sz es ov hg h4=>by
   rw[(hlt g hg).1]at h4;exact⟨(hlt g hg).2,es,ov,h4,Nat.le_refl _⟩) (fun g hg h4=>by
   rw[(hlt g hg).1]at h4;exact⟨h4,(hlt g hg).2⟩)) (fun i' k x g hx hg=>by
  obtain⟨v,h1,h2,h3⟩:=hcell i' k x hx;have:=h3 g hg;omega)
 refine⟨_,hr2,Nat.le_succ n,hU,fun g hg=>by simp only[upd];rw[if_neg (by omega)],fun id hid=>?_,fun id hid _=>hget id hid,fun g d hg hd=>by rw[aW,if_neg (by omega)]at hd;exact⟨d,hd,au.refl d⟩,fun _=>rfl⟩;rcases hid with⟨ℓ,h1⟩| ⟨g,d,b',s,h1,h2⟩
 ·cases ℓ with
  |t s j k=>exact .inl (.inl ⟨_,h1⟩)
  |h g i' k=>
   simp only at h1;split at h1
   ·exact h1.elim
   ·exact .inl (.inl ⟨_,h1⟩)
 ·rw[aW]at h1;split at h1
  ·rename_i e;subst e;simp only[upd,if_true,Option.some.injEq,Prod.mk.injEq]at h2;rw[←h2.1];exact .inr ⟨hi,hc⟩
  ·rename_i e;simp only[upd,e,if_false]at h2;exact .inl (.inr ⟨g,d,b',s,h1,h2⟩)
theorem RowR.mk'{id base sz:Nat}{es:List (List PV)}{b:Blk}(h1:h.get id=some b)(h2:b.sz=sz)(h3:sz≠0)(h4:(base+es.length)*sz≤b.n)(h5:∀(i:Nat)(row:List PV),es[i]?=some row→row.length=sz)(h6:∀(i:Nat)(row:List PV)(k:Nat)(p:PV),es[i]?=some row→row[k]?=some p→∃v,b.get ((base+i)*sz+k)=some v):RowR h id base sz es (fun i k=>(b.get ((base+i)*sz+k)).getD .nilp):=⟨⟨b,h1,h2,h4,fun i row k p e1 e2=>by obtain⟨v,hv⟩:=h6 i row k p e1 e2;rw[hv];rfl⟩,h3,h5⟩
theorem R.tree(hr:R hl N I Fp ts H n cts h U){g sz:Nat}{es:List (List PV)}(hg:aG H g=some (.arr sz es []))(hhl:∀i k,hl≠some (.h g i k)){lo len:Nat}{v:CV}(hv:SlR I g es.length lo len v):
  ∃F,OwR h N (.sl sz ((es.drop lo).take len)) v F∧(∀id,F id→(∃b s,I g=some (id,b,s))∨∃i k,Fp (.h g i k) id):=by
 obtain⟨h1,h2⟩:=hv;have hcell:∀(i:Nat)(row:List PV)(k:Nat)(p:PV),es[i]?=some row→row[k]?=some p→∃v,bW cts h I (.h g i k)=some v∧bG h N I H p.dc v (Fp (.h g i k)):=by intro i row k p e1 e2;exact hr.cell (.h g i k) p.dc (hhl i k) (by simp[aa,hg,DB.cell,e1,e2,ab])
 rcases hr.bsh g _ hg with⟨e1,e2⟩| ⟨id,base,b,e1,e2,e3,e4,e5,e6⟩
 ·rw[e1]at h2;obtain⟨z,rfl⟩:=h2;subst e2;refine⟨fun _=>False,?_,fun _ h=>h.elim⟩;simpa using(OwR.nil:OwR h N (.sl sz []) (.nils z) (fun _=>False))
 ·rw[e1]at h2;simp only at h2;subst h2;have hl:((es.drop lo).take len).length=len:=by simp only[List.length_take,List.length_drop];omega
  have hrow:RowR h id base sz es (fun i k=>(b.get ((base+i)*sz+k)).getD .nilp):=RowR.mk' e2 e3 e4 e5 e6 fun i row k p f1 f2=>by obtain⟨v,f3, -⟩:=hcell i row k p f1 f2;simp only[bW,e1,e2,Option.bind_some]at f3;exact⟨v,f3⟩
  have hrow':=hrow.cut lo len (by omega);have:=OwR.sl (N:=N) (F:=fun x=>x=id∨∃i k,Fp (.h g i k) x) (φ:=fun i k=>Fp (.h g (lo+i) k)) (.inl rfl) hrow' (fun i row k p f1 f2=>by
   simp only[List.getElem?_take,List.getElem?_drop]at f1;split at f1
   ·obtain⟨v,f3,f4⟩:=hcell (lo+i) row k p f1 f2;simp only[bW,e1,e2,Option.bind_some]at f3;simp only[f3,Option.getD_some];cases p with
    |sc u=>obtain⟨f5,rfl⟩:=f4;exact .sc f5
    |sl sz' es'=>exact f4
    |ro sz' es'=>exact .ro f4
   ·simp at f1) (fun i k x hx=>⟨.inr ⟨_,_,hx⟩,fun e=>hr.sepT _ g _ x base sz hx hg (by rw[e];exact e1)⟩) (fun i k i' k' x h1 h2=>by
   have:=hr.sepF _ _ x h1 h2;simp only[Loc.h.injEq,true_and]at this;omega)
  rw[hl]at this;refine⟨_,this,fun x hx=>?_⟩;rcases hx with rfl| ⟨i,k,hx⟩
  ·exact .inl ⟨base,sz,e1⟩
  ·exact .inr ⟨i,k,hx⟩
end
end Go.Cq.D
namespace Go.Cq.D
section
variable{hl:Option Loc}{N:Bool→Nat→Prop}{I:Nm}{Fp:Loc→Nat→Prop}{ts:DTs}{H:DH}{n:Nat}{cts:Ts}{h:Heap}{U:Nat→Prop}
theorem R.tell{ℓ:Loc}(hr:R hl N I Fp ts H n cts h U)(hhl:hl=none∨hl=some ℓ){ts':DTs}{H':DH}{x:DC}(hL:∀t y,an ts' t=some y→∃y0,an ts t=some y0∧∀v,tSh y0 v→tSh y v)(hG:∀g y,aG H' g=some y→∃y0,aG H g=some y0∧au y0 y)(hC:∀ℓ' y,aa ts' H' ℓ'=some y→if ℓ'=ℓ then y=x else aa ts H ℓ'=some y){F:Nat→Prop}(hF:∀id,F id→(∀ℓ',ℓ'≠ℓ→¬Fp ℓ' id)∧(∀g db b s,aG H g=some db→I g≠some (id,b,s))∧¬N true id∧U id)(hx:∃v,bW cts h I ℓ=some v∧bG h N I H x v F)(ht:∀g,g∈x.tags→g<n):
  R none N I (fun ℓ'=>if ℓ'=ℓ then F else Fp ℓ') ts' H' n cts h U:=by
 refine⟨fun t y hy=>?_,fun g db hgd=>?_,fun ℓ' y _ hy=>?_,fun ℓ' y g hy hgt=>?_,fun g db hgd=>?_,fun g g' db db' id b s b' s' h1 h2=>?_,fun ℓ' g db id b s h1 h2=>?_,fun ℓ' ℓ2 id h1 h2=>?_,fun g db id b s h1 h2=>?_,fun ℓ' id h1 h2=>?_,hr.hb,fun id hid=>?_,hr.le,hr.ro⟩
 ·obtain⟨y0,h1,h2⟩:=hL t y hy;obtain⟨v,h3,h4⟩:=hr.tsh t y0 h1;exact⟨v,h3,h2 v h4⟩
 ·obtain⟨y0,h1,h2⟩:=hG g db hgd;exact(hr.bsh g y0 h1).same h2
 ·have:=hC ℓ' y hy;split at this
  ·rename_i e;subst e;subst this;obtain⟨v,h1,h2⟩:=hx;refine⟨v,h1,?_⟩;simp only[if_true];exact h2.same hG
  ·rename_i e;obtain⟨v,h1,h2⟩:=hr.cell _ y (by rcases hhl with h|h<;>rw[h]<;>simp;exact fun e'=>e e'.symm) this;refine⟨v,h1,?_⟩;simp only[e,if_false];exact h2.same hG
 ·have:=hC ℓ' y hy;split at this
  ·subst this;exact ht g hgt
  ·exact hr.tags ℓ' y g this hgt
 ·obtain⟨y0,h1,h2⟩:=hG g db hgd;exact hr.htag g y0 h1
 ·obtain⟨y0,k1, -⟩:=hG g db h1;obtain⟨y1,k2, -⟩:=hG g' db' h2;exact hr.inj g g' y0 y1 id b s b' s' k1 k2
 ·obtain⟨y0,k1, -⟩:=hG g db h2;split at h1
  ·exact(hF id h1).2.1 g y0 b s k1
  ·exact hr.sepT ℓ' g y0 id b s h1 k1
 ·split at h1
  ·rename_i e1;split at h2
   ·rename_i e2;rw[e1,e2]
   ·rename_i e2;exact absurd h2 ((hF id h1).1 ℓ2 e2)
  ·rename_i e1;split at h2
   ·exact absurd h1 ((hF id h2).1 ℓ' e1)
   ·exact hr.sepF _ _ _ h1 h2
 ·obtain⟨y0,k1, -⟩:=hG g db h2;exact hr.roT g y0 id b s h1 k1
 ·split at h2
  ·exact(hF id h2).2.2.1 h1
  ·exact hr.roF _ _ h1 h2
 ·rcases hid with h1| ⟨ℓ',h1⟩
  ·exact hr.lt id (.inl h1)
  ·split at h1
   ·exact(hF id h1).2.2.2
   ·exact hr.lt id (.inr ⟨ℓ',h1⟩)
theorem R.drop(hr:R hl N I Fp ts H n cts h U)(g:Nat):R hl N I (fun ℓ=>match ℓ with|.h g' _ _=>if g'=g then fun _=>False else Fp ℓ|ℓ=>Fp ℓ) ts (eM g H) n cts h U:=by
 have hd:∀g' db,aG (eM g H) g'=some db→aG H g'=some db∧g'≠g:=fun g' db hg=>by
  rw[dF]at hg;split at hg
  ·simp at hg
  ·rename_i e;exact⟨hg,e⟩
 have hgc:∀ℓ x,aa ts (eM g H) ℓ=some x→aa ts H ℓ=some x∧(match ℓ with|.h g' _ _=>if g'=g then fun _=>False else Fp ℓ|ℓ=>Fp ℓ)=Fp ℓ:=fun ℓ x hx=>by
  cases ℓ with
  |t s j k=>exact⟨hx,rfl⟩
  |h g' i k=>
   simp only[aa,dF]at hx ⊢;split at hx
   ·simp at hx
   ·rename_i e;exact⟨hx,by simp[e]⟩
 have hFF:∀ℓ id,(match ℓ with|.h g' _ _=>if g'=g then fun _=>False else Fp ℓ|ℓ=>Fp ℓ) id→Fp ℓ id:=fun ℓ id hid=>by
  cases ℓ with
  |t s j k=>exact hid
  |h g' i k=>
   simp only at hid;split at hid
   ·exact hid.elim
   ·exact hid
 refine⟨hr.tsh,fun g' db hg=>hr.bsh g' db (hd g' db hg).1,fun ℓ x hne hx=>?_,fun ℓ x g' hx hg=>hr.tags ℓ x g' (hgc ℓ x hx).1 hg,fun g' db hg=>hr.htag g' db (hd g' db hg).1,fun g1 g2 d1 d2 id b s b' s' h1 h2=>hr.inj g1 g2 d1 d2 id b s b' s' (hd _ _ h1).1 (hd _ _ h2).1,fun ℓ g' db id b s h1 h2=>hr.sepT ℓ g' db id b s (hFF _ _ h1) (hd _ _ h2).1,fun ℓ ℓ' id h1 h2=>hr.sepF ℓ ℓ' id (hFF _ _ h1) (hFF _ _ h2),fun g' db id b s h1 h2=>hr.roT g' db id b s h1 (hd _ _ h2).1,fun ℓ id h1 h2=>hr.roF ℓ id h1 (hFF _ _ h2),hr.hb,fun id hid=>hr.lt id (hid.imp (fun h=>h) fun⟨ℓ,h1⟩=>⟨ℓ,hFF _ _ h1⟩),hr.le,hr.ro⟩;obtain⟨k1,k2⟩:=hgc ℓ x hx;obtain⟨v,h1,h2⟩:=hr.cell ℓ x hne k1;refine⟨v,h1,?_⟩;rw[k2];exact h2.same fun g' y hy=>⟨y,(hd g' y hy).1,au.refl y⟩
end
def ag(i k:Nat):List (Nat×Nat×DC)→List (Nat×Nat×DC)
 | []=>[]
 |p::l=>cond (Nat.beq p.2.1 k) (if p.1=i then ag i k l else p::ag i k l) (p::ag i k l)
theorem tX(i k:Nat)(ov:List (Nat×Nat×DC))(i' k':Nat):ab (ag i k ov) i' k'=if i'=i∧k'=k then none else ab ov i' k':=by
 induction ov with
 |nil=>simp[ag,ab]
 |cons p l ih=>
  obtain⟨i0,k0,x⟩:=p;simp only[ag];cases hk:Nat.beq k0 k with
  |false=>
   have hne:=Nat.ne_of_beq_eq_false hk;simp only[cond_false,ab,ih];cases hk':Nat.beq k0 k' with
   |false=>rfl
   |true=>have e:=Nat.eq_of_beq_eq_true hk';subst e;simp[hne]
  |true=>
   have e:=Nat.eq_of_beq_eq_true hk;subst e;simp only[cond_true];by_cases e1:i0=i
   ·subst e1;simp only[if_true,ih,ab];by_cases e2:i'=i0∧k'=k0
    ·simp[e2]
    ·simp only[e2,if_false];cases hk':Nat.beq k0 k' with
     |false=>rfl
     |true=>
      have e3:=Nat.eq_of_beq_eq_true hk';subst e3;have:¬i0=i':=fun e=>e2 ⟨e.symm,rfl⟩
      simp[this]
   ·simp only[e1,if_false,ab,ih];cases hk':Nat.beq k0 k' with
    |false=>rfl
    |true=>
     have e3:=Nat.eq_of_beq_eq_true hk';subst e3;simp only[cond_true];by_cases e4:i0=i'
     ·subst e4;simp[e1]
     ·simp[e4]
def i7(ts:DTs)(H:DH)(sz:Nat)(es:List (List PV)):Loc→DTs×DH
 |.t s j k=>match an ts s with
  |some y=>((s,y.fc j k (.own sz es))::ts,H)
  |none=>(ts,H)
 |.h g i k=>match aG H g with
  |some (.box cs)=>(ts,cj g (if i=0 then .box (cs.set k (.own sz es))else .box cs) H)
  |some (.arr sz' l ov)=>(ts,cj g (.arr sz' (l.modify i (·.set k (.sl sz es))) (ag i k ov)) H)
  |none=>(ts,H)
theorem xo{ts:DTs}{H:DH}{sz:Nat}{es:List (List PV)}{ℓ:Loc}{x0:DC}(hg:aa ts H ℓ=some x0)(_hrow:∀g sz es ov,aG H g=some (.arr sz es ov)→∀(i:Nat)(row:List PV),es[i]?=some row→row.length=sz):(∀t y,an (i7 ts H sz es ℓ).1 t=some y→∃y0,an ts t=some y0∧∀v,tSh y0 v→tSh y v)∧(∀g y,aG (i7 ts H sz es ℓ).2 g=some y→∃y0,aG H g=some y0∧au y0 y)∧
  ∀ℓ' y,aa (i7 ts H sz es ℓ).1 (i7 ts H sz es ℓ).2 ℓ'=some y→if ℓ'=ℓ then y= .own sz es else aa ts H ℓ'=some y:=by
 cases ℓ with
 |t s j k=>
  have e:i7 ts H sz es (.t s j k)=D.fh ts H (.t s j k) (.own sz es):=rfl;rw[e];refine⟨fun t y hy=>lg hy,fun g y hy=>b7 hy,fun ℓ' y hy=>?_⟩;rw[kz hg]at hy;split
  ·rename_i e;rw[if_pos e]at hy;simpa using hy.symm
  ·rename_i e;rw[if_neg e]at hy;exact hy
 |h g i k=>
  simp only[aa]at hg;cases hgg:aG H g with
  |none=>simp[hgg]at hg
  |some db=>
   cases db with
   |box cs=>
    have e:i7 ts H sz es (.h g i k)=D.fh ts H (.h g i k) (.own sz es):=by simp only[i7,D.fh,hgg,DB.fc]
    rw[e];refine⟨fun t y hy=>lg hy,fun g y hy=>b7 hy,fun ℓ' y hy=>?_⟩;rw[kz (x0:=x0) (by simpa [aa]using hg)]at hy;split
    ·rename_i e;rw[if_pos e]at hy;simpa using hy.symm
    ·rename_i e;rw[if_neg e]at hy;exact hy
   |arr sz' l ov=>
    simp only[hgg,Option.bind_some]at hg;simp only[i7,hgg];have hsame:au (.arr sz' l ov) (.arr sz' (l.modify i (·.set k (.sl sz es))) (ag i k ov)):=by
     refine⟨rfl,by simp,fun j=>?_⟩;rw[List.getElem?_modify];split
     ·cases l[j]?<;>simp
     ·simp
    refine⟨fun t y hy=>⟨y,hy,fun _ h=>h⟩,fun g' y hy=>?_,fun ℓ' y hy=>?_⟩
    ·rw[ax]at hy;split at hy
     ·rename_i e;subst e;cases hy;exact⟨_,hgg,hsame⟩
     ·exact⟨y,hy,au.refl y⟩
    ·cases ℓ' with
     |t s' j' k'=>simpa [aa]using hy
     |h g' i' k'=>
      simp only[aa,ax]at hy ⊢;split at hy
      ·rename_i e;subst e;simp only[Option.bind_some,DB.cell,List.getElem?_modify,tX]at hy;simp only[Loc.h.injEq,true_and];split
       ·rename_i e;obtain⟨rfl,rfl⟩:=e;simp only[if_true,and_self]at hy;split at hy
        ·rename_i p hp;simp only[Option.bind_eq_some_iff,Option.map_eq_map,Option.map_eq_some_iff]at hp;obtain⟨row',⟨row,e1,rfl⟩,e2⟩:=hp;rw[List.getElem?_set]at e2;simp only[if_true]at e2;split at e2
         ·cases e2;simpa [PV.dc]using hy.symm
         ·simp at e2
        ·simp at hy
       ·rename_i e;simp only[e,if_false]at hy;simp only[hgg,Option.bind_some,DB.cell];by_cases e1:i=i'
        ·subst e1;have e2:¬k=k':=fun e2=>e ⟨rfl,e2.symm⟩
         cases hrw:l[i]? with
         |none=>simp[hrw]at hy
         |some row=>simpa [hrw,List.getElem?_set_ne e2]using hy
        ·simpa [e1]using hy
      ·rename_i e;have:¬(g'=g∧i'=i∧k'=k):=fun h=>e h.1
       simpa [this]using hy
section
variable{hl:Option Loc}{N:Bool→Nat→Prop}{I:Nm}{Fp:Loc→Nat→Prop}{ts:DTs}{H:DH}{n:Nat}{cts:Ts}{h:Heap}{U:Nat→Prop}
def Loc.aCs:Loc→Nat→Bool
 |.h g' _ _,g=>Nat.beq g' g
 |_,_=>false
def close(ts:DTs)(H:DH)(ℓ:Loc):DTs×DH:=match aa ts H ℓ with
 |some (.sl g lo len)=>match aG H g with
  |some (.arr sz es [])=>if ℓ.aCs g=false then i7 ts (eM g H) sz ((es.drop lo).take len) ℓ else(ts,H)
  |_=>(ts,H)
 |_=>(ts,H)
theorem R.close(hr:R none N I Fp ts H n cts h U)(ℓ:Loc):∃Fp',R none N I Fp' (close ts H ℓ).1 (close ts H ℓ).2 n cts h U∧Grow I Fp H n U h I Fp' (close ts H ℓ).2 n U h:=by
 have triv:∃Fp',R none N I Fp' (ts,H).1 (ts,H).2 n cts h U∧Grow I Fp H n U h I Fp' (ts,H).2 n U h:=⟨Fp,hr,Grow.refl ..⟩;unfold D.close;split
 case h_2=>exact triv
 rename_i g lo len hg;split
 case h_2=>exact triv
 rename_i sz es hgg;split
 case isFalse=>exact triv
 rename_i hne;obtain⟨h1,v,h2,h3,h4⟩:=hr.open hg;have hsl:=h3 _ _ _ hgg;obtain⟨F,t1,t2⟩:=hr.tree hgg (by simp) hsl;have hd:=h1.drop g;have hgd:aa ts (eM g H) ℓ=some (.sl g lo len):=by
  cases ℓ with
  |t s j k=>exact hg
  |h g' i k=>have hne:=Nat.ne_of_beq_eq_false hne;simp only[aa,dF,hne,if_false]at hg ⊢;exact hg
 have hrow:∀g' sz es ov,aG (eM g H) g'=some (.arr sz es ov)→∀(i:Nat)(row:List PV),es[i]?=some row→row.length=sz:=by
  intro g' sz' es' ov' hg' i row hi;rcases hd.bsh g' _ hg' with⟨-,rfl⟩| ⟨_,_,_, -, -, -, -, -,h6⟩
  ·simp at hi
  ·exact h6 i row hi
 obtain⟨p1,p2,p3⟩:=xo (sz:=sz) (es:=(es.drop lo).take len) hgd hrow;have hFown:∀id,F id→(∀ℓ',ℓ'≠ℓ→¬(match ℓ' with|.h g' _ _=>if g'=g then fun _=>False else(if ℓ'=ℓ then fun _=>False else Fp ℓ')|ℓ'=>(if ℓ'=ℓ then fun _=>False else Fp ℓ')) id)∧(∀g' db b s,aG (eM g H) g'=some db→I g'≠some (id,b,s))∧¬N true id∧U id:=by
  intro id hid;have hdel:∀g' db,aG (eM g H) g'=some db→aG H g'=some db∧g'≠g:=fun g' db hg'=>by
   rw[dF]at hg';split at hg'
   ·simp at hg'
   ·rename_i e;exact⟨hg',e⟩
  rcases t2 id hid with⟨b,s,e⟩| ⟨i,k,e⟩
  ·refine⟨fun ℓ' hl' hf=>?_,fun g' db b' s' hg' e'=>?_,fun hN=>hr.roT g _ id b s hN hgg e,?_⟩
   ·have:Fp ℓ' id:=by
     cases ℓ' with
     |t s' j' k'=>simpa [hl']using hf
     |h g' i' k'=>
      simp only[hl',if_false]at hf;split at hf
      ·exact hf.elim
      ·exact hf
    exact hr.sepT ℓ' g _ id b s this hgg e
   ·obtain⟨q1,q2⟩:=hdel g' db hg';exact q2 (hr.inj g' g db _ id b' s' b s q1 hgg e' e)
   ·rcases hr.bsh g _ hgg with⟨e1, -⟩| ⟨id',base,b0,e1,e2, -⟩
    ·rw[e1]at e;simp at e
    ·rw[e1]at e;simp only[Option.some.injEq,Prod.mk.injEq]at e;rw[←e.1];exact hr.hb _ _ e2
  ·refine⟨fun ℓ' hl' hf=>?_,fun g' db b' s' hg' e'=>hr.sepT _ g' db id b' s' e (hdel g' db hg').1 e',fun hN=>hr.roF _ id hN e,hr.lt id (.inr ⟨_,e⟩)⟩;cases ℓ' with
   |t s' j' k'=>simp only[hl',if_false]at hf;have:=hr.sepF _ _ id hf e;simp at this
   |h g' i' k'=>
    simp only[hl',if_false]at hf;split at hf
    ·exact hf.elim
    ·rename_i hgne;have:=hr.sepF _ _ id hf e;simp only[Loc.h.injEq]at this;exact hgne this.1
 refine⟨_,hd.tell (.inr rfl) (x:=.own sz ((es.drop lo).take len)) p1 p2 p3 hFown ⟨v,h2,t1⟩ (by simp[DC.tags]),Nat.le_refl _,fun _ h=>h,fun _ _=>rfl,fun id hid=>.inl ?_,fun _ _ _=>rfl,fun g' db _ hgd=>by
  obtain⟨y0,q1,q2⟩:=p2 g' db hgd;rw[dF]at q1;split at q1
  ·simp at q1
  ·exact⟨y0,q1,q2⟩,fun _=>rfl⟩
 rcases hid with⟨ℓ',e⟩| ⟨g',db,b,s,e1,e2⟩
 ·split at e
  ·rcases t2 id e with⟨b,s,e⟩| ⟨i,k,e⟩
   ·exact .inr ⟨g,_,b,s,hgg,e⟩
   ·exact .inl ⟨_,e⟩
  ·rename_i hne';cases ℓ' with
   |t s' j' k'=>simp only[hne',if_false]at e;exact .inl ⟨_,e⟩
   |h g' i' k'=>
    simp only at e;split at e
    ·exact e.elim
    ·exact .inl ⟨_,e⟩
 ·obtain⟨y0,q1, -⟩:=p2 g' db e1;rw[dF]at q1;split at q1
  ·simp at q1
  ·exact .inr ⟨g',y0,b,s,q1,e2⟩
end
end Go.Cq.D
namespace Go.Cq.D
section
variable{hl:Option Loc}{N:Bool→Nat→Prop}{I:Nm}{Fp:Loc→Nat→Prop}{ts:DTs}{H:DH}{n:Nat}{cts:Ts}{h:Heap}{U:Nat→Prop}
theorem R.heap(hr:R hl N I Fp ts H n cts h U){h':Heap}{U':Nat→Prop}(hc:∀id,U id→U' id)(hg:∀id,N true id∨aV I Fp H id→h'.get id=h.get id)(hb:∀id b,h'.get id=some b→U' id)(hv:∀id b,h'.get id=some b→b.ro=true→h.get id=some b):R hl N I Fp ts H n cts h' U':=by
 have hT:∀g db id b s,aG H g=some db→I g=some (id,b,s)→h'.get id=h.get id:=fun g db id b s h1 h2=>hg id (.inr (.inr ⟨g,db,b,s,h1,h2⟩))
 refine⟨hr.tsh,fun g db hgd=>?_,fun ℓ x hne hx=>?_,hr.tags,hr.htag,hr.inj,hr.sepT,hr.sepF,hr.roT,hr.roF,hb,fun id hid=>hc id (hr.lt id hid),hr.le,fun id b h1 h2=>hr.ro id b (hv id b h1 h2) h2⟩
 ·have:=hr.bsh g db hgd;cases db with
  |box cs=>obtain⟨id,b',h1,h2,h3⟩:=this;exact⟨id,b',h1,by rw[hT g _ _ _ _ hgd h1];exact h2,h3⟩
  |arr sz es ov=>
   rcases this with h1| ⟨id,base,b',h1,h2,h3⟩
   ·exact .inl h1
   ·exact .inr ⟨id,base,b',h1,by rw[hT g _ _ _ _ hgd h1];exact h2,h3⟩
 ·obtain⟨v,h1,h2⟩:=hr.cell ℓ x hne hx;refine⟨v,?_,h2.mono (fun bb id hid=>⟨hg id (.inl (by cases bb;exact hr.le _ hid;exact hid)),hid⟩) (fun id hid=>⟨hg id (.inr (.inl ⟨ℓ,hid⟩)),hid⟩) (fun g sz es ov _ hg=>⟨rfl,es,ov,hg,Nat.le_refl _⟩) (fun g _ hg=>⟨hg,rfl⟩)⟩;cases ℓ with
  |t s j k=>exact h1
  |h g i' k=>
   simp only[bW]at h1 ⊢;cases hI:I g with
   |none=>rw[hI]at h1;simp at h1
   |some p=>
    obtain⟨id,b,s⟩:=p;rw[hI]at h1;simp only at h1 ⊢;simp only[aa]at hx;cases hgg:aG H g with
    |none=>simp[hgg]at hx
    |some d=>rw[hT g d _ _ _ hgg hI];exact h1
theorem R.born(hr:R hl N I Fp ts H n cts h U){h':Heap}{U':Nat→Prop}(hc:∀id,U id→U' id)(hg:∀id,N true id∨aV I Fp H id→h'.get id=h.get id)(hb:∀id b,h'.get id=some b→U' id)(hv:∀id b,h'.get id=some b→b.ro=true→h.get id=some b){id base sz:Nat}{es:List (List PV)}{b:Blk}{φ:Nat→Nat→Nat→Prop}(hbl:h'.get id=some b)(hbs:b.sz=sz)(hsz:sz≠0)(hbn:(base+es.length)*sz≤b.n)(hrow:∀(i:Nat)(row:List PV),es[i]?=some row→row.length=sz)(hid:Free N I Fp H U' id)(hφ:∀i k x,φ i k x→Free N I Fp H U' x∧x≠id∧h'.get x=h.get x)(hφd:∀i k i' k' x,φ i k x→φ i' k' x→i=i'∧k=k')(hcell:∀(i:Nat)(row:List PV)(k:Nat)(p:PV),es[i]?=some row→row[k]?=some p→∃v,b.get ((base+i)*sz+k)=some v∧OwR h N p v (φ i k)):
  ∃Fp',R hl N (upd I n (some (id,base,sz))) Fp' ts ((n,.arr sz es [])::H) (n+1) cts h' U'∧∀x,aV (upd I n (some (id,base,sz))) Fp' ((n,.arr sz es [])::H) x→aV I Fp H x∨x=id∨∃i k,φ i k x:=by
 have hr1:=hr.heap hc hg hb hv;have hN:∀bb x,N bb x→h'.get x=h.get x:=fun bb x hx=>hg x (.inl (by cases bb;exact hr.le _ hx;exact hx))
 have hcellA:∀i k x,(DB.arr sz es []).cell i k=some x→∃row p,es[i]?=some row∧row[k]?=some p∧x=p.dc:=fun i k x hx=>by
  simp only[DB.cell,ab]at hx;split at hx
  ·rename_i p hp;simp only[Option.bind_eq_some_iff]at hp;obtain⟨row,e1,e2⟩:=hp;simp only[Option.some.injEq]at hx;exact⟨row,p,e1,e2,hx.symm⟩
  ·simp at hx
 have hr2:=hr1.nN (nm:=some (id,base,sz)) (db:=.arr sz es []) (φ:=φ) (.inr ⟨id,base,b,by simp[upd],hbl,hbs,hsz,hbn,hrow⟩) (fun id' b' s e=>by simp only[Option.some.injEq,Prod.mk.injEq]at e;rw[←e.1];exact hid)
  (fun i k x hx=>⟨(hφ i k x hx).1,fun b' s' e=>(hφ i k x hx).2.1 (by simp only[Option.some.injEq,Prod.mk.injEq]at e;exact e.1.symm)⟩) hφd (fun i k x hx=>by
   obtain⟨row,p,e1,e2,rfl⟩:=hcellA i k x hx;obtain⟨v,h1,h2⟩:=hcell i row k p e1 e2;refine⟨v,by simp only[bW,upd,if_true,hbl,Option.bind_some];exact h1,?_⟩;have h3:OwR h' N p v (φ i k):=h2.local (fun x hx=>⟨hN _ x hx,hx⟩) (fun x hx=>⟨(hφ i k x hx).2.2,hx⟩);cases p with
   |sc u=>cases h3 with|sc hv=>exact⟨hv,rfl⟩
   |sl sz' es'=>exact h3
   |ro sz' es'=>cases h3 with|ro hr=>exact hr) (fun i k x g hx hg=>by
   obtain⟨row,p,e1,e2,rfl⟩:=hcellA i k x hx;cases p<;>simp[PV.dc,DC.tags]at hg)
 refine⟨_,hr2,fun x hx=>?_⟩;rcases hx with⟨ℓ,h1⟩| ⟨g,d,b',s,h1,h2⟩
 ·cases ℓ with
  |t s j k=>exact .inl (.inl ⟨_,h1⟩)
  |h g i' k=>
   simp only at h1;split at h1
   ·exact .inr (.inr ⟨_,_,h1⟩)
   ·exact .inl (.inl ⟨_,h1⟩)
 ·rw[aW]at h1;split at h1
  ·rename_i e;subst e;simp only[upd,if_true,Option.some.injEq,Prod.mk.injEq]at h2;exact .inr (.inl h2.1.symm)
  ·rename_i e;simp only[upd,e,if_false]at h2;exact .inl (.inr ⟨g,d,b',s,h1,h2⟩)
end
theorem o0{b:Blk}:∀{m a:Nat},(∀o,o<m→∃v,b.get (a+o)=some v)→∃l,b.iz a m=some l∧l.length=m∧∀o,o<m→l[o]?=b.get (a+o):=by
 intro m;induction m with
 |zero=>intro a _;exact⟨[],rfl,rfl,fun o h=>by omega⟩
 |succ m ih=>
  intro a h;obtain⟨v,hv⟩:=h 0 (by omega);obtain⟨l,h1,h2,h3⟩:=ih (a:=a+1) fun o ho=>by rw[show a+1+o=a+(o+1) by omega];exact h (o+1) (by omega)
  refine⟨v::l,?_,by simp[h2],fun o ho=>?_⟩
  ·rw[Nat.add_zero]at hv;simp only[Blk.iz,hv,h1,Option.map_some]
  ·cases o with
   |zero=>simpa using hv.symm
   |succ o=>rw[List.getElem?_cons_succ,h3 o (by omega)];congr 1;omega
theorem iJ{sz o:Nat}{l:List CV}:(cd sz l).get o=l[o]?:=by
 unfold cd Blk.get;simp only;cases hb:Nat.blt o l.length with
 |true=>rw[Nat.blt_eq]at hb;simp only[cond_true,Tr.mV,Nat.zero_le,true_and,Nat.zero_add,hb,if_true,Nat.sub_zero];rw[List.getElem?_eq_getElem hb]
 |false=>
  have:¬o<l.length:=fun h=>by rw[←Nat.blt_eq]at h;rw[h]at hb;simp at hb
  simp only[cond_false];rw[List.getElem?_eq_none (by omega)]
theorem lL{sz bytes:Nat}{x y:Opd}{i:Nat}{h:Heap}{cts:Ts}{l:List CV}{m:Nat}(hy:f9 h cts sz y=some (l,m))(hlen:l.length=m*sz){id j ln:Nat}(hx:ev1 cts x=some (.sl id j ln none)){b:Blk}(hb:h.get id=some b)(hbs:b.sz=sz)(hsz:sz≠0)(hbn:(j+ln)*sz≤b.n)(hk:∀o,o<ln*sz→∃v,b.get (j*sz+o)=some v)(hsize:(ln+m)*bytes≤140737488355328∧ln+m≤140737488355328)(_hne:id≠i)(hro:b.ro=false):
  ∃h' id' j' b',dM sz bytes x y i h cts=some (h',.sl id' j' (ln+m) none)∧(id'=id∨id'=i)∧h'.get id'=some b'∧b'.sz=sz∧(j'+(ln+m))*sz≤b'.n∧(∀o,o<ln*sz→b'.get (j'*sz+o)=b.get (j*sz+o))∧(∀o,o<m*sz→b'.get ((j'+ln)*sz+o)=l[o]?)∧
   (∀x,x≠id→x≠i→h'.get x=h.get x)∧(∀x b,h'.get x=some b→x=i∨∃b',h.get x=some b')∧(∀x,h'.getM x=h.getM x)∧b'.ro=false∧∀x b,h'.get x=some b→b.ro=true→h.get x=some b:=by
 obtain⟨l0,g1,g2,g3⟩:=o0 hk;have fresh:∀h0:Heap,(∀x b,h0.get x=some b→h.get x=some b)→(∀x,x≠id→h0.get x=h.get x)→(∀x b,h0.get x=some b→∃b',h.get x=some b')→(∀x,h0.getM x=h.getM x)→∃h' id' j' b',some (h0.set i (some (cd sz (l0++l))),CV.sl i 0 (ln+m) none)=some (h',CV.sl id' j' (ln+m) none)∧(id'=id∨id'=i)∧h'.get id'=some b'∧b'.sz=sz∧(j'+(ln+m))*sz≤b'.n∧(∀o,o<ln*sz→b'.get (j'*sz+o)=b.get (j*sz+o))∧(∀o,o<m*sz→b'.get ((j'+ln)*sz+o)=l[o]?)∧
   (∀x,x≠id→x≠i→h'.get x=h.get x)∧(∀x b,h'.get x=some b→x=i∨∃b',h.get x=some b')∧(∀x,h'.getM x=h.getM x)∧b'.ro=false∧∀x b,h'.get x=some b→b.ro=true→h.get x=some b:=by
  intro h0 hhv hh0 hh1 hhm;refine⟨_,i,0,cd sz (l0++l),rfl,.inr rfl,by rw[Heap.aQ,if_pos rfl],rfl,?_,fun o ho=>?_,fun o ho=>?_,fun x hx1 hx2=>?_,fun x b' hx=>?_,hhm,rfl,fun x b' hx hxr=>?_⟩
  ·show(0+(ln+m))*sz≤(l0++l).length;rw[List.length_append,g2,hlen,Nat.zero_add,Nat.add_mul];exact Nat.le_refl _
  ·rw[iJ,Nat.zero_mul,Nat.zero_add,List.getElem?_append_left (by omega)];exact g3 o ho
  ·rw[iJ,Nat.zero_add,List.getElem?_append_right (by omega),g2];congr 1;omega
  ·rw[Heap.aQ,if_neg hx2];exact hh0 x hx1
  ·rw[Heap.aQ]at hx;split at hx
   ·rename_i e;exact .inl e
   ·exact .inr (hh1 x b' hx)
  ·rw[Heap.aQ]at hx;split at hx
   ·cases hx;simp[cd,Blk.ro]at hxr
   ·exact hhv x b' hx
 unfold dM;simp only[hy,hx,hb];rw[if_pos ⟨hbs,hsz,hsize.1,hsize.2,hro⟩,g1];simp only;split
 ·rename_i hin;have hle:(j+ln)*sz+l.length≤b.n:=by rw[hlen,←Nat.add_mul];exact hin
  refine⟨_,id,j,b.put ((j+ln)*sz) l,rfl,.inl rfl,by rw[Heap.aQ,if_pos rfl],hbs,by rw[←Nat.add_assoc];exact hin,fun o ho=>?_,fun o ho=>?_,fun x hx1 hx2=>by rw[Heap.aQ,if_neg hx1],fun x b' hx=>?_,fun _=>rfl,hro,fun x b' hx hxr=>?_⟩
  ·rw[Blk.mM hle,if_neg];rw[Nat.add_mul];omega
  ·rw[Blk.mM hle,if_pos (by rw[hlen];omega)];congr 1;omega
  ·rw[Heap.aQ]at hx;split at hx
   ·rename_i e;rw[e];exact .inr ⟨b,hb⟩
   ·exact .inr ⟨b',hx⟩
  ·rw[Heap.aQ]at hx;split at hx
   ·cases hx;exact absurd (hxr.symm.trans hro) (by simp)
   ·exact hx
 ·rename_i hout;split
  ·exact fresh h (fun _ _ h=>h) (fun _ _=>rfl) (fun x b' hx=>⟨b',hx⟩) fun _=>rfl
  ·split
   ·rename_i h0;exfalso;apply hout;rw[Nat.add_assoc,h0,Nat.add_zero];exact Nat.le_trans (Nat.mul_le_mul_right _ (Nat.le_add_right j ln)) hbn
   ·refine fresh (h.set id none) (fun x b' hx=>by
     rw[Heap.aQ]at hx;split at hx
     ·simp at hx
     ·exact hx) (fun x hx=>by rw[Heap.aQ,if_neg hx]) (fun x b' hx=>?_) fun _=>rfl
    rw[Heap.aQ]at hx;split at hx
    ·simp at hx
    ·exact⟨b',hx⟩
end Go.Cq.D
namespace Go.Cq.D
def DC.clean:DC→Bool
 |.sc _=>true
 |.own _ _=>true
 |.ro b _ _=>!b
 |.gone=>true
 |_=>false
theorem bG.clean{h:Heap}{N N':Bool→Nat→Prop}{I I':Nm}{H H':DH}{x:DC}{v:CV}{F F':Nat→Prop}(hc:bG h N I H x v F)(hx:x.clean=true)(hN:∀id,N false id→N' false id)(hF:∀id,F id→F' id):bG h N' I' H' x v F':=by
 cases x with
 |sc v=>exact hc
 |own sz es=>exact OwR.local (fun id hid=>⟨rfl,hN id hid⟩) hc (fun id hid=>⟨rfl,hF id hid⟩)
 |ro b sz es=>simp only[DC.clean,Bool.not_eq_true']at hx;subst hx;exact RoR.local (fun id hid=>⟨rfl,hN id hid⟩) hc
 |gone=>trivial
 |_=>simp[DC.clean]at hx
def DB.clean:DB→Bool
 |.box cs=>cs.all DC.clean
 |.arr _ _ []=>true
 |.arr _ _ (_::_)=>false
def nh:DB→DB→Prop
 |.box cs,.box cs0=>cs.length=cs0.length
 |.arr sz es _,.arr sz0 es0 _=>sz=sz0∧es.length=es0.length
 |_,_=>False
theorem PV.uF(p:PV):p.dc.clean=true:=by cases p<;>rfl
theorem DB.v8{db:DB}(h:db.clean=true){i k:Nat}{x:DC}(hx:db.cell i k=some x):x.clean=true:=by
 cases db with
 |box cs=>
  simp only[DB.cell]at hx;split at hx
  ·exact List.all_eq_true.1 h x (List.mem_of_getElem? hx)
  ·simp at hx
 |arr sz es ov=>
  cases ov with
  |cons a l=>simp[DB.clean]at h
  |nil=>
   simp only[DB.cell,ab]at hx;split at hx
   ·cases hx;exact PV.uF _
   ·simp at hx
def qE(f:Nat→Option Nat):DC→Option DC
 |.sl g lo len=>(f g).map fun t=>.sl t lo len
 |c=>cond c.clean (some c) none
def ta(f:Nat→Option Nat):List DC→Option (List DC)
 | []=>some []
 |c::l=>match qE f c,ta f l with
  |some x,some r=>some (x::r)
  |_,_=>none
def uC(f:Nat→Option Nat):List (Nat×Nat×DC)→Option (List (Nat×Nat×DC))
 | []=>some []
 | (i,k,c)::l=>match qE f c,uC f l with
  |some x,some r=>some ((i,k,x)::r)
  |_,_=>none
def eu(f:Nat→Option Nat)(db:DB):Option DB:=
 cond db.clean (some db) (match db with
  |.box cs=>(ta f cs).map .box
  |.arr sz es ov=>(uC f ov).map (.arr sz es))
theorem yJ{b:Bool}{c x:DC}(h:cond b (some c) none=some x):x=c∧b=true:=by cases b<;>simp_all
theorem p7{f:Nat→Option Nat}{c x:DC}(h:qE f c=some x):(x=c∧x.clean=true)∨∃g lo len t,c= .sl g lo len∧f g=some t∧x= .sl t lo len:=by
 cases c with
 |sl g lo len=>simp only[qE,Option.map_eq_some_iff]at h;obtain⟨t,h1,rfl⟩:=h;exact .inr ⟨g,lo,len,t,rfl,h1,rfl⟩
 |_=>simp only[qE]at h;obtain⟨e1,e2⟩:=yJ h;subst e1;exact .inl ⟨rfl,e2⟩
theorem nF{f:Nat→Option Nat}:∀{l r:List DC},ta f l=some r→r.length=l.length∧∀(k:Nat) x,r[k]?=some x→∃c,l[k]?=some c∧qE f c=some x:=by
 intro l;induction l with
 |nil=>intro r h;simp only[ta,Option.some.injEq]at h;subst h;exact⟨rfl,by simp⟩
 |cons c l ih=>
  intro r h;simp only[ta]at h;split at h
  ·rename_i x r' h1 h2;cases h;obtain⟨i1,i2⟩:=ih h2;refine⟨by simp[i1],fun k y hk=>?_⟩;cases k with
   |zero=>cases hk;exact⟨c,rfl,h1⟩
   |succ k=>simpa using i2 k y (by simpa using hk)
  ·simp at h
theorem yV{f:Nat→Option Nat}:∀{l r:List (Nat×Nat×DC)},uC f l=some r→∀i k,(ab l i k=none→ab r i k=none)∧∀c,ab l i k=some c→∃x,ab r i k=some x∧qE f c=some x:=by
 intro l;induction l with
 |nil=>intro r h i k;simp only[uC,Option.some.injEq]at h;subst h;exact⟨fun h=>h,fun c h=>by simp[ab]at h⟩
 |cons p l ih=>
  obtain⟨i',k',c⟩:=p;intro r h i k;simp only[uC]at h;split at h
  ·rename_i x r' h1 h2;cases h;obtain⟨i1,i2⟩:=ih h2 i k;simp only[ab];cases Nat.beq k' k with
   |false=>exact⟨i1,i2⟩
   |true=>
    simp only[cond_true];split
    ·exact⟨fun h=>by simp at h,fun c' h=>by cases h;exact⟨x,rfl,h1⟩⟩
    ·exact⟨i1,i2⟩
  ·simp at h
theorem jC{f:Nat→Option Nat}{db:DB}{sz:Nat}{es:List (List PV)}{ov:List (Nat×Nat×DC)}(h:eu f db=some (.arr sz es ov)):∃ov0,db= .arr sz es ov0:=by
 unfold eu at h;cases hc:db.clean with
 |true=>rw[hc]at h;simp only[cond_true,Option.some.injEq]at h;exact⟨ov,h⟩
 |false=>
  rw[hc]at h;cases db with
  |box cs=>simp only[cond_false,Option.map_eq_some_iff]at h;obtain⟨_,_,h⟩:=h;simp at h
  |arr sz' es' ov'=>simp only[cond_false,Option.map_eq_some_iff,DB.arr.injEq]at h;obtain⟨_,_,rfl,rfl,_⟩:=h;exact⟨ov',rfl⟩
theorem oy{f:Nat→Option Nat}{db db':DB}(h:eu f db=some db'){i k:Nat}{x:DC}(hx:db'.cell i k=some x):∃x0,db.cell i k=some x0∧((x=x0∧x.clean=true)∨∃g lo len t,x0= .sl g lo len∧f g=some t∧x= .sl t lo len):=by
 unfold eu at h;cases hc:db.clean with
 |true=>rw[hc]at h;simp only[cond_true,Option.some.injEq]at h;subst h;exact⟨x,hx,.inl ⟨rfl,DB.v8 hc hx⟩⟩
 |false=>
  rw[hc]at h;cases db with
  |box cs=>
   simp only[cond_false,Option.map_eq_some_iff]at h;obtain⟨r,h1,rfl⟩:=h;obtain⟨-,g2⟩:=nF h1;simp only[DB.cell]at hx ⊢;split at hx
   ·rename_i e;obtain⟨c,e1,e2⟩:=g2 k x hx;exact⟨c,by rw[if_pos e];exact e1,p7 e2⟩
   ·simp at hx
  |arr sz es ov=>
   simp only[cond_false,Option.map_eq_some_iff]at h;obtain⟨r,h1,rfl⟩:=h;obtain⟨g1,g2⟩:=yV h1 i k;simp only[DB.cell]at hx ⊢;split at hx
   ·rename_i p hp;cases ho:ab ov i k with
    |none=>rw[g1 ho]at hx;simp only[Option.some.injEq]at hx ⊢;subst hx;exact⟨_,rfl,.inl ⟨rfl,PV.uF p⟩⟩
    |some c=>obtain⟨y,e1,e2⟩:=g2 c ho;rw[e1]at hx;simp only[Option.some.injEq]at hx ⊢;subst hx;exact⟨c,rfl,p7 e2⟩
   ·simp at hx
theorem uG{f:Nat→Option Nat}{db db':DB}(h:eu f db=some db'){hp:Heap}{I:Nm}{g:Nat}(hb:eZ hp I g db):eZ hp I g db':=by
 cases db' with
 |arr sz es ov=>obtain⟨ov0,rfl⟩:=jC h;exact hb
 |box cs'=>
  unfold eu at h;cases hc:db.clean with
  |true=>rw[hc]at h;simp only[cond_true,Option.some.injEq]at h;subst h;exact hb
  |false=>
   rw[hc]at h;cases db with
   |arr sz es ov=>simp only[cond_false,Option.map_eq_some_iff]at h;obtain⟨_,_,h⟩:=h;simp at h
   |box cs=>simp only[cond_false,Option.map_eq_some_iff,DB.box.injEq]at h;obtain⟨r,h1,rfl⟩:=h;obtain⟨id,b,k1,k2,k3⟩:=hb;exact⟨id,b,k1,k2,by rw[(nF h1).1];exact k3⟩
theorem vZ{f:Nat→Option Nat}{db db':DB}(h:eu f db=some db'):au db db':=by
 cases db' with
 |arr sz es ov=>obtain⟨ov0,rfl⟩:=jC h;exact⟨rfl,rfl,fun _=>rfl⟩
 |box cs'=>
  unfold eu at h;cases hc:db.clean with
  |true=>rw[hc]at h;simp only[cond_true,Option.some.injEq]at h;subst h;exact au.refl _
  |false=>
   rw[hc]at h;cases db with
   |arr sz es ov=>simp only[cond_false,Option.map_eq_some_iff]at h;obtain⟨_,_,h⟩:=h;simp at h
   |box cs=>simp only[cond_false,Option.map_eq_some_iff,DB.box.injEq]at h;obtain⟨r,h1,rfl⟩:=h;exact(nF h1).1
theorem eZ.rows{h:Heap}{I:Nm}{g sz:Nat}{es:List (List PV)}{ov:List (Nat×Nat×DC)}(hb:eZ h I g (.arr sz es ov)):∀(i:Nat)(row:List PV),es[i]?=some row→row.length=sz:=by
 rcases hb with⟨-,rfl⟩| ⟨id,base,b, -, -, -, -, -,hr⟩
 ·simp
 ·exact hr
theorem nh.same{h h':Heap}{I I':Nm}{g g':Nat}{x y:DB}(hf:nh y x)(hx:eZ h I g x)(hy:eZ h' I' g' y):au x y:=by
 cases x with
 |box cs=>cases y with
  |box cs'=>exact hf
  |arr sz es ov=>exact hf.elim
 |arr sz es ov=>cases y with
  |box cs'=>exact hf.elim
  |arr sz' es' ov'=>
   obtain⟨rfl,hl⟩:=hf;refine⟨rfl,hl,fun i=>?_⟩;by_cases hi:i<es'.length
   ·have hi':i<es.length:=by omega
    rw[List.getElem?_eq_getElem hi,List.getElem?_eq_getElem hi',Option.map_some,Option.map_some,hx.rows i _ (List.getElem?_eq_getElem hi'),hy.rows i _ (List.getElem?_eq_getElem hi)]
   ·rw[List.getElem?_eq_none (by omega),List.getElem?_eq_none (by omega)]
theorem eZ.name{h:Heap}{I I':Nm}{g g':Nat}{x:DB}(hb:eZ h I g x)(he:I' g'=I g):eZ h I' g' x:=by
 cases x with
 |box cs=>obtain⟨id,b,h1,h2⟩:=hb;exact⟨id,b,by rw[he];exact h1,h2⟩
 |arr sz es ov=>
  rcases hb with⟨h1,h2⟩| ⟨id,base,b,h1,h2⟩
  ·exact .inl ⟨by rw[he];exact h1,h2⟩
  ·exact .inr ⟨id,base,b,by rw[he];exact h1,h2⟩
theorem DC.mK{x:DC}(hx:x.clean=true):x.tags=[]:=by cases x<;>simp_all[DC.clean,DC.tags]
def im(ρ:Nat→Option Nat):DC→DC
 |.sl t lo len=>match ρ t with
  |some g=>.sl g lo len
  |none=>.gone
 |c=>cond c.clean c .gone
def kV(ρ:Nat→Option Nat):DV→DV
 |.one c=>.one (im ρ c)
 |.agg cs=>.agg (cs.map (im ρ))
def g7(ρ:Nat→Option Nat):DT→DT
 |.v x=>.v (kV ρ x)
 |.tup l=>.tup (l.map (kV ρ))
 |.gone=>.gone
theorem oe{ρ:Nat→Option Nat}{x:DV}{k:Nat}:(kV ρ x).cell k=(x.cell k).map (im ρ):=by
 cases x with
 |one c=>simp only[kV,DV.cell];split<;>rfl
 |agg cs=>simp only[kV,DV.cell,List.getElem?_map]
theorem qJ{ρ:Nat→Option Nat}{x:DT}{j k:Nat}:(g7 ρ x).cell j k=(x.cell j k).map (im ρ):=by
 cases x with
 |v x=>
      simp only[g7,DT.cell];split
      ·exact oe
      ·rfl
 |tup l=>
  simp only[g7,DT.cell,List.getElem?_map];cases l[j]? with
  |none=>rfl
  |some y=>exact oe
 |gone=>rfl
theorem uk{ρ:Nat→Option Nat}{x:DV}{v:V1}(h:fj x v):fj (kV ρ x) v:=by cases x<;>cases v<;>simp_all[kV,fj]
theorem zk{ρ:Nat→Option Nat}{x:DT}{v:CVal}(h:tSh x v):tSh (g7 ρ x) v:=by
 cases x with
 |v x=>cases v with
  |v y=>exact uk h
  |_=>exact h
 |tup l=>cases v with
  |tup m=>refine⟨by rw[h.1];simp,fun j x y hx hy=>?_⟩;simp only[List.getElem?_map,Option.map_eq_some_iff]at hx;obtain⟨z,hz,rfl⟩:=hx;exact uk (h.2 j z y hz hy)
  |_=>exact h
 |gone=>trivial
theorem pb{ρ:Nat→Option Nat}(c:DC):(im ρ c=c∧c.clean=true)∨im ρ c= .gone∨∃t lo len g,c= .sl t lo len∧ρ t=some g∧im ρ c= .sl g lo len:=by
 cases c with
 |sl t lo len=>
  simp only[im];cases hr:ρ t with
  |none=>exact .inr (.inl rfl)
  |some g=>exact .inr (.inr ⟨t,lo,len,g,rfl,hr,rfl⟩)
 |ro b sz es=>cases b<;>simp[im,DC.clean]
 |_=>simp[im,DC.clean]
theorem nq{ρ:Nat→Option Nat}{c:DC}(h:c.clean=true):im ρ c=c:=by cases c<;>simp_all[im,DC.clean]
section
variable{N:Bool→Nat→Prop}{I:Nm}{Fp:Loc→Nat→Prop}{ts:DTs}{H:DH}{n:Nat}{cts:Ts}{h:Heap}{U:Nat→Prop}
theorem aV.lt{hl:Option Loc}(hr:R hl N I Fp ts H n cts h U){id:Nat}(ho:aV I Fp H id):U id:=by
 rcases ho with⟨ℓ,h1⟩| ⟨g,db,b,s,h1,h2⟩
 ·exact hr.lt id (.inr ⟨ℓ,h1⟩)
 ·have:=hr.bsh g db h1;cases db with
  |box cs=>obtain⟨id',b',k1,k2, -⟩:=this;rw[h2]at k1;simp only[Option.some.injEq,Prod.mk.injEq]at k1;rw[k1.1];exact hr.hb _ _ k2
  |arr sz es ov=>
   rcases this with⟨k1, -⟩| ⟨id',base,b',k1,k2, -⟩
   ·rw[h2]at k1;simp at k1
   ·rw[h2]at k1;simp only[Option.some.injEq,Prod.mk.injEq]at k1;rw[k1.1];exact hr.hb _ _ k2
def NG(N N':Bool→Nat→Prop)(own U U':Nat→Prop):Prop:=(∀b id,N b id→N' b id)∧(∀b id,N' b id→N b id∨own id∨¬U id∧U' id)∧∀id,N' true id→N true id∨N' false id
theorem NG.refl(N:Bool→Nat→Prop)(own U U':Nat→Prop):NG N N own U U':=⟨fun _ _ h=>h,fun _ _ h=>.inl h,fun _ h=>.inl h⟩
theorem R.aDb(hr:R none N I Fp ts H n cts h U){N2:Bool→Nat→Prop}{I2:Nm}{Fp2:Loc→Nat→Prop}{Hc:DH}{nc:Nat}{ρ:Nat→Option Nat}{κ:Nat→Prop}(hN:∀id,N2 false id→N false id)(hN':∀id,N true id→N2 true id)(hNf:∀id,N false id→N2 false id)(hNt:∀id,N2 true id→N true id∨aV I Fp H id∧¬aV I2 Fp2 Hc id)(hrest:∀id,aV I Fp H id→aV I2 Fp2 Hc id∨N2 true id)(hsub:∀id,aV I2 Fp2 Hc id→∃g,(κ g∨∃t,ρ t=some g)∧(aG H g).isSome=true∧((∃i k,Fp (.h g i k) id)∨∃b s,I g=some (id,b,s))){h':Heap}{U':Nat→Prop}{I3:Nm}{Fp3:Loc→Nat→Prop}{res:DT}{r:CVal}{H3:DH}{n3:Nat}{N3:Bool→Nat→Prop}(hng:NG N2 N3 (aV I2 Fp2 Hc) U U')(hp:R none N3 I3 Fp3 [(0,res)] H3 n3 [(0,r)] h' U')(hg:Grow I2 Fp2 Hc nc U h I3 Fp3 H3 n3 U' h')(hH3:∀t db,aG H3 t=some db→t<nc∧∃g db0,ρ t=some g∧aG H g=some db0∧nh db db0∧I2 t=I g∧¬κ g)(hρ:∀t t' g,ρ t=some g→ρ t'=some g→t=t')(hρn:∀t g,ρ t=some g→g<n){H':DH}(hH':∀g db,aG H' g=some db→(∃t db3,ρ t=some g∧aG H3 t=some db3∧eu ρ db3=some db)∨((∀t,ρ t≠some g)∧¬κ g∧aG H g=some db))(d:Nat):
  NG N (fun b id=>N b id∨N3 false id) (aV I Fp H) U U'∧∃Fp',R none (fun b id=>N b id∨N3 false id) I Fp' ((d,g7 ρ res)::ts) H' n ((d,r)::cts) h' U'∧Grow I Fp H n U h I Fp' H' n U' h':=by
 let own:Loc→Nat→Prop:=fun ℓ id=>match ℓ with
  |.t s j k=>if s=d then Fp3 (.t 0 j k) id else Fp (.t s j k) id
  |.h g i k=>(∃t,ρ t=some g∧Fp3 (.h t i k) id)∨((∀t,ρ t≠some g)∧¬κ g∧Fp (.h g i k) id)
 have rest:∀id,aV I Fp H id→¬aV I2 Fp2 Hc id→h'.get id=h.get id∧N2 true id:=fun id h1 h2=>⟨hg.hp id (h1.lt hr) h2,(hrest id h1).resolve_left h2⟩
 have restT:∀s j k id,Fp (.t s j k) id→¬aV I2 Fp2 Hc id:=fun s j k id h1 h2=>by
  obtain⟨g, -,h3,h4⟩:=hsub id h2;obtain⟨db,hdb⟩:=Option.isSome_iff_exists.1 h3;rcases h4 with⟨i',k',h5⟩| ⟨b,s',h5⟩
  ·have:=hr.sepF _ _ id h1 h5;simp at this
  ·exact hr.sepT _ g db id b s' h1 hdb h5
 have restH:∀g,(∀t,ρ t≠some g)→¬κ g→(∀i k id,Fp (.h g i k) id→¬aV I2 Fp2 Hc id)∧∀db id b s,aG H g=some db→I g=some (id,b,s)→¬aV I2 Fp2 Hc id:=fun g h0 h0'=>by
  refine⟨fun i k id h1 h2=>?_,fun db id b s hdb h1 h2=>?_⟩
  ·obtain⟨g',h3',h3,h4⟩:=hsub id h2;obtain⟨db,hdb⟩:=Option.isSome_iff_exists.1 h3;have hne:g'≠g:=fun e=>by
    subst e;rcases h3' with h| ⟨t,h⟩
    ·exact h0' h
    ·exact h0 t h
   rcases h4 with⟨i',k',h5⟩| ⟨b,s',h5⟩
   ·have:=hr.sepF _ _ id h1 h5;simp only[Loc.h.injEq]at this;exact hne this.1.symm
   ·exact hr.sepT _ g' db id b s' h1 hdb h5
  ·obtain⟨g',h3',h3,h4⟩:=hsub id h2;obtain⟨db',hdb'⟩:=Option.isSome_iff_exists.1 h3;have hne:g'≠g:=fun e=>by
    subst e;rcases h3' with h| ⟨t,h⟩
    ·exact h0' h
    ·exact h0 t h
   rcases h4 with⟨i',k',h5⟩| ⟨b',s',h5⟩
   ·exact hr.sepT _ g db id b s h5 hdb h1
   ·exact hne (hr.inj g' g db' db id b' s' b s hdb' hdb h5 h1)
 have new3:∀id,aV I3 Fp3 H3 id→(aV I Fp H id→aV I2 Fp2 Hc id)∧(N true id→False):=fun id h1=>by
  refine⟨fun h2=>?_,fun h2=>?_⟩
  ·rcases hg.own id h1 with h3|h3
   ·exact h3
   ·exact absurd (h2.lt hr) h3.1
  ·have h3:=hng.1 true id (hN' id h2);rcases h1 with⟨ℓ,h1⟩| ⟨g,db,b,s,h1,h4⟩
   ·exact hp.roF ℓ id h3 h1
   ·exact hp.roT g db id b s h3 h1 h4
 have hkeepN:∀b id,N b id→h'.get id=h.get id:=fun b id hid=>by
  have hid':N true id:=by cases b;exact hr.le id hid;exact hid
  refine hg.hp id (hr.lt id (.inl hid')) fun h1=>?_
  obtain⟨g, -,h3,h4⟩:=hsub id h1;obtain⟨db,hdb⟩:=Option.isSome_iff_exists.1 h3;rcases h4 with⟨i,k,h5⟩| ⟨b',s,h5⟩
  ·exact hr.roF _ id hid' h5
  ·exact hr.roT g db id b' s hid' hdb h5
 have hI3:∀t db,aG H3 t=some db→∃g db0,ρ t=some g∧aG H g=some db0∧au db0 db∧I3 t=I g∧¬κ g:=fun t db h1=>by obtain⟨h2,g,db0,h5,h6,h7,h8,h9⟩:=hH3 t db h1;exact⟨g,db0,h5,h6,h7.same (hr.bsh g db0 h6) (hp.bsh t db h1),by rw[hg.nm t h2];exact h8,h9⟩
 have hsame:∀g y,aG H' g=some y→∃y0,aG H g=some y0∧au y0 y:=fun g y hy=>by
  rcases hH' g y hy with⟨t,y3,h1,h2,h2'⟩| ⟨-, -,h1⟩
  ·obtain⟨g',db0,h3,h4,h5, -⟩:=hI3 t y3 h2;rw[h1]at h3;cases h3;exact⟨_,h4,h5.trans (vZ h2')⟩
  ·exact⟨y,h1,au.refl y⟩
 have av:∀{x:DC}{v:CV}{F:Nat→Prop},bG h N I H x v F→(∀id,F id→h'.get id=h.get id)→bG h' (fun b id=>N b id∨N3 false id) I H' x v F:=fun hc hF=>(hc.mono (fun b id hid=>⟨hkeepN b id hid,.inl hid⟩) (fun id hid=>⟨hF id hid,hid⟩) (fun g sz es ov _ hg=>⟨rfl,es,ov,hg,Nat.le_refl _⟩) (fun g _ hg=>⟨hg,rfl⟩)).same hsame
 have cellH:∀g i k x,aa ts H' (.h g i k)=some x→(∃t x3,ρ t=some g∧aa [(0,res)] H3 (.h t i k)=some x3∧((x=x3∧x.clean=true)∨∃t1 lo len g1,x3= .sl t1 lo len∧ρ t1=some g1∧x= .sl g1 lo len))∨((∀t,ρ t≠some g)∧¬κ g∧aa ts H (.h g i k)=some x):=fun g i k x hx=>by
  simp only[aa,Option.bind_eq_some_iff]at hx ⊢;obtain⟨db,h1,h2⟩:=hx;rcases hH' g db h1 with⟨t,db3,h3,h4,h4'⟩| ⟨h3,h4,h5⟩
  ·obtain⟨x3,h5,h6⟩:=oy h4' h2;exact .inl ⟨t,x3,h3,⟨db3,h4,h5⟩,h6⟩
  ·exact .inr ⟨h3,h4,db,h5,h2⟩
 have tagOld:∀g db id b s,aG H' g=some db→I g=some (id,b,s)→(∃t db3,ρ t=some g∧aG H3 t=some db3∧I3 t=some (id,b,s))∨((∀t,ρ t≠some g)∧¬κ g∧aG H g=some db):=fun g db id b s h1 h2=>by
  rcases hH' g db h1 with⟨t,db3,h3,h4, -⟩|h3
  ·obtain⟨g',db0,h5, -, -,h6, -⟩:=hI3 t db3 h4;rw[h3]at h5;cases h5;exact .inl ⟨t,db3,h3,h4,by rw[h6];exact h2⟩
  ·exact .inr h3
 have slBack:∀{t1 lo len g1:Nat}{v:CV}{F F':Nat→Prop},bG h' N3 I3 H3 (.sl t1 lo len) v F→ρ t1=some g1→bG h' (fun b id=>N b id∨N3 false id) I H' (.sl g1 lo len) v F':=by
  intro t1 lo len g1 v F F' h5 ht1 sz es ov hg1;rcases hH' g1 _ hg1 with⟨t2,db3,k1,k2,k3⟩| ⟨k1, -, -⟩
  ·have:=hρ t1 t2 g1 ht1 k1;subst this;obtain⟨ov0,rfl⟩:=jC k3;obtain⟨g',db0,h7, -, -,h8, -⟩:=hI3 t1 _ k2;rw[ht1]at h7;cases h7;have:=h5 sz es ov0 k2;unfold SlR at this ⊢;rw[←h8];exact this
  ·exact(k1 t1 ht1).elim
 have ownC:∀ℓ id,own ℓ id→(∃ℓ3,Fp3 ℓ3 id∧((∃j k,ℓ= .t d j k∧ℓ3= .t 0 j k)∨∃t g i k,ρ t=some g∧ℓ= .h g i k∧ℓ3= .h t i k))∨(Fp ℓ id∧¬aV I2 Fp2 Hc id):=fun ℓ id h1=>by
  cases ℓ with
  |t s j k=>
   simp only[own]at h1;split at h1
   ·rename_i e;subst e;exact .inl ⟨_,h1,.inl ⟨j,k,rfl,rfl⟩⟩
   ·exact .inr ⟨h1,restT s j k id h1⟩
  |h g i k=>
   simp only[own]at h1;rcases h1 with⟨t,h2,h3⟩| ⟨h2,h3,h4⟩
   ·exact .inl ⟨_,h3,.inr ⟨t,g,i,k,h2,rfl,rfl⟩⟩
   ·exact .inr ⟨h4,(restH g h2 h3).1 i k id h4⟩
 have old:∀id,aV I2 Fp2 Hc id→aV I Fp H id:=fun id h1=>by
  obtain⟨g, -,h3,h4⟩:=hsub id h1;obtain⟨db,hdb⟩:=Option.isSome_iff_exists.1 h3;rcases h4 with⟨i,k,h5⟩| ⟨b,s,h5⟩
  ·exact .inl ⟨_,h5⟩
  ·exact .inr ⟨g,db,b,s,hdb,h5⟩
 have frozen:∀id,N3 false id→N true id∨aV I2 Fp2 Hc id∨¬U id:=fun id h1=>by
  rcases hng.2.1 false id h1 with h2|h2|h2
  ·exact .inl (hr.le id (hN id h2))
  ·exact .inr (.inl h2)
  ·exact .inr (.inr h2.1)
 refine⟨⟨fun b id h=>.inl h,fun b id h=>?_,fun id h=>h.imp (fun h=>h) .inr⟩,own,⟨fun t x hx=>?_,fun g db hgd=>?_,fun ℓ x _ hx=>?_,fun ℓ x g hx hgt=>?_,fun g db hgd=>?_,fun g g' db db' id b s b' s' h1 h2 h3 h4=>?_,fun ℓ g db id b s h1 h2 h3=>?_,fun ℓ ℓ' id h1 h2=>?_,fun g db id b s h1 h2 h3=>?_,fun ℓ id h1 h2=>?_,hp.hb,fun id hid=>?_,fun id hid=>hid.imp (hr.le id) fun h=>h,fun id b hb hbr=>by
  obtain⟨k1,k2⟩:=hp.ro id b hb hbr;refine⟨?_,fun h=>k2 (h.elim (fun h=>hng.1 false id (hNf id h)) fun h=>h)⟩;rcases hng.2.2 id k1 with k3|k3
  ·rcases hNt id k3 with k4| ⟨k4,k5⟩
   ·exact .inl k4
   ·have e:=(rest id k4 k5).1;rw[hb]at e;exact .inl (hr.ro id b e.symm hbr).1
  ·exact absurd k3 k2⟩,⟨Nat.le_refl _,hg.cc,fun _ _=>rfl,fun id hid=>?_,fun id h1 h2=>?_,fun g db' _ h1=>hsame g db' h1,hg.mp⟩⟩
 ·rcases h with h|h
  ·exact .inl h
  ·rcases hng.2.1 false id h with h2|h2|h2
   ·have:=hN id h2;cases b with
    |false=>exact .inl this
    |true=>exact .inl (hr.le id this)
   ·exact .inr (.inl (old id h2))
   ·exact .inr (.inr h2)
 ·rw[bK]at hx;rw[bc];by_cases e:t=d
  ·subst e;simp only[if_true,Option.some.injEq]at hx ⊢;subst hx;obtain⟨y,h1,h2⟩:=hp.tsh 0 res (by simp[an]);simp only[look,Nat.beq_refl,cond_true,Option.some.injEq]at h1;subst h1;exact⟨r,rfl,zk h2⟩
  ·simp only[e,if_false]at hx ⊢;exact hr.tsh t x hx
 ·rcases hH' g db hgd with⟨t,db3,h1,h2,h2'⟩| ⟨h1,h2,h3⟩
  ·obtain⟨g',db0,h5, -, -,h6, -⟩:=hI3 t db3 h2;rw[h1]at h5;cases h5;exact uG h2' ((hp.bsh t _ h2).name h6.symm)
  ·have hid:∀id b s,I g=some (id,b,s)→h'.get id=h.get id:=fun id b s e=>(rest id (.inr ⟨g,db,b,s,h3,e⟩) ((restH g h1 h2).2 db id b s h3 e)).1
   have:=hr.bsh g db h3;cases db with
   |box cs=>obtain⟨id,b,k1,k2,k3⟩:=this;exact⟨id,b,k1,by rw[hid _ _ _ k1];exact k2,k3⟩
   |arr sz es ov=>
    rcases this with k0| ⟨id,base,b,k1,k2,k3⟩
    ·exact .inl k0
    ·exact .inr ⟨id,base,b,k1,by rw[hid _ _ _ k1];exact k2,k3⟩
 ·cases ℓ with
  |t s j k=>
   simp only[aa,bK]at hx;by_cases e:s=d
   ·subst e;simp only[if_true,Option.bind_some,qJ,Option.map_eq_some_iff]at hx;obtain⟨x3,hx,rfl⟩:=hx;obtain⟨v,h1,h2⟩:=hp.cell (.t 0 j k) x3 (by simp) (by simp[aa,an,hx]);refine⟨v,by simpa [bW,bc]using h1,?_⟩;rcases pb (ρ:=ρ) x3 with⟨e1,e2⟩|e1| ⟨t1,lo,len,g1,rfl,ht1,e1⟩
    ·rw[e1];refine h2.clean e2 (fun id hid=>.inr hid) fun id hid=>?_
     simp only[own,if_true];exact hid
    ·rw[e1];trivial
    ·rw[e1];exact slBack h2 ht1
   ·simp only[e,if_false]at hx;obtain⟨v,h1,h2⟩:=hr.cell (.t s j k) x (by simp) hx;refine⟨v,by simpa [bW,bc,e]using h1,?_⟩;have:own (.t s j k)=Fp (.t s j k):=by funext id;simp only[own,e,if_false]
    rw[this];exact av h2 fun id hid=>(rest id (.inl ⟨_,hid⟩) (restT s j k id hid)).1
  |h g i k=>
   rcases cellH g i k x hx with⟨t,x3,h1,h2,hsx⟩| ⟨h1,h2,h3⟩
   ·obtain⟨v,h4,h5⟩:=hp.cell (.h t i k) x3 (by simp) h2;have hI:I3 t=I g:=by simp only[aa,Option.bind_eq_some_iff]at h2;obtain⟨db,h6, -⟩:=h2;obtain⟨g',db0,h7, -, -,h8, -⟩:=hI3 t db h6;rw[h1]at h7;simp only[Option.some.injEq]at h7;rw[h7];exact h8
    refine⟨v,by simp only[bW]at h4 ⊢;rw[←hI];exact h4,?_⟩;rcases hsx with⟨rfl,hcl⟩| ⟨t1,lo,len,g1,rfl,ht1,rfl⟩
    ·exact h5.clean hcl (fun id hid=>.inr hid) fun id hid=>.inl ⟨t,h1,hid⟩
    ·exact slBack h5 ht1
   ·obtain⟨v,h4,h5⟩:=hr.cell (.h g i k) x (by simp) h3;have:own (.h g i k)=Fp (.h g i k):=by funext id;simp only[own,eq_iff_iff];exact⟨fun h=>by rcases h with⟨t,h6, -⟩| ⟨-, -,h6⟩;exact absurd h6 (h1 t);exact h6,fun h=>.inr ⟨h1,h2,h⟩⟩
    refine⟨v,?_,?_⟩
    ·simp only[bW]at h4 ⊢;cases hI:I g with
     |none=>rw[hI]at h4;simp at h4
     |some p=>obtain⟨id,b,s⟩:=p;rw[hI]at h4;simp only at h4 ⊢;simp only[aa,Option.bind_eq_some_iff]at h3;obtain⟨db,h6, -⟩:=h3;rw[(rest id (.inr ⟨g,db,b,s,h6,hI⟩) ((restH g h1 h2).2 db id b s h6 hI)).1];exact h4
    ·rw[this];exact av h5 fun id hid=>(rest id (.inl ⟨_,hid⟩) ((restH g h1 h2).1 i k id hid)).1
 ·cases ℓ with
  |t s j k=>
   simp only[aa,bK]at hx;by_cases e:s=d
   ·subst e;simp only[if_true,Option.bind_some]at hx;rw[qJ,Option.map_eq_some_iff]at hx;obtain⟨x3,hx,rfl⟩:=hx;rcases pb (ρ:=ρ) x3 with⟨e1,e2⟩|e1| ⟨t1,lo,len,g1,rfl,ht1,e1⟩
    ·rw[e1,DC.mK e2]at hgt;simp at hgt
    ·rw[e1]at hgt;simp[DC.tags]at hgt
    ·rw[e1]at hgt;simp only[DC.tags,List.mem_singleton]at hgt;subst hgt;exact hρn t1 _ ht1
   ·simp only[e,if_false]at hx;exact hr.tags (.t s j k) x g hx hgt
  |h g' i k=>
   rcases cellH g' i k x hx with⟨t,x3,h1,h2,hsx⟩| ⟨h1,h2,h3⟩
   ·rcases hsx with⟨rfl,hcl⟩| ⟨t1,lo,len,g1,rfl,ht1,rfl⟩
    ·rw[DC.mK hcl]at hgt;simp at hgt
    ·simp only[DC.tags,List.mem_singleton]at hgt;subst hgt;exact hρn t1 _ ht1
   ·exact hr.tags (.h g' i k) x g h3 hgt
 ·obtain⟨y0,h1, -⟩:=hsame g db hgd;exact hr.htag g y0 h1
 ·obtain⟨y0,k1, -⟩:=hsame g db h1;obtain⟨y1,k2, -⟩:=hsame g' db' h2;exact hr.inj g g' y0 y1 id b s b' s' k1 k2 h3 h4
 ·rcases ownC ℓ id h1 with⟨ℓ3,k1, -⟩| ⟨k1,k2⟩
  ·rcases tagOld g db id b s h2 h3 with⟨t,db3,k3,k4,k5⟩| ⟨k3,k4,k5⟩
   ·exact hp.sepT ℓ3 t db3 id b s k1 k4 k5
   ·have:=(new3 id (.inl ⟨ℓ3,k1⟩)).1 (.inr ⟨g,db,b,s,k5,h3⟩);exact(restH g k3 k4).2 db id b s k5 h3 this
  ·obtain⟨y0,k3, -⟩:=hsame g db h2;exact hr.sepT ℓ g y0 id b s k1 k3 h3
 ·rcases ownC ℓ id h1 with⟨ℓ3,k1,k2⟩| ⟨k1,k2⟩
  ·rcases ownC ℓ' id h2 with⟨ℓ3',k3,k4⟩| ⟨k3,k4⟩
   ·have e:=hp.sepF _ _ id k1 k3;subst e;rcases k2 with⟨j,k,rfl,rfl⟩| ⟨t,g,i,k,e1,rfl,rfl⟩
    ·rcases k4 with⟨j',k',rfl,e2⟩| ⟨t',g',i',k',e3,rfl,e2⟩
     ·simp only[Loc.t.injEq,true_and]at e2;rw[e2.1,e2.2]
     ·simp at e2
    ·rcases k4 with⟨j',k',rfl,e2⟩| ⟨t',g',i',k',e3,rfl,e2⟩
     ·simp at e2
     ·simp only[Loc.h.injEq]at e2;obtain⟨rfl,rfl,rfl⟩:=e2;rw[e1]at e3;simp only[Option.some.injEq]at e3;rw[e3]
   ·exact absurd ((new3 id (.inl ⟨ℓ3,k1⟩)).1 (.inl ⟨_,k3⟩)) k4
  ·rcases ownC ℓ' id h2 with⟨ℓ3',k3,k4⟩| ⟨k3,k4⟩
   ·exact absurd ((new3 id (.inl ⟨ℓ3',k3⟩)).1 (.inl ⟨_,k1⟩)) k2
   ·exact hr.sepF _ _ id k1 k3
 ·obtain⟨y0,k3, -⟩:=hsame g db h2;rcases h1 with h1|h1
  ·exact hr.roT g y0 id b s h1 k3 h3
  ·rcases tagOld g db id b s h2 h3 with⟨t,db3,e3,e4,e5⟩| ⟨e3,e4,e5⟩
   ·exact hp.roT t db3 id b s (hp.le id h1) e4 e5
   ·rcases frozen id h1 with f|f|f
    ·exact hr.roT g db id b s f e5 h3
    ·exact(restH g e3 e4).2 db id b s e5 h3 f
    ·exact f (aV.lt hr (.inr ⟨g,db,b,s,e5,h3⟩))
 ·rcases ownC ℓ id h2 with⟨ℓ3,k1, -⟩| ⟨k1,k2⟩
  ·rcases h1 with h1|h1
   ·exact(new3 id (.inl ⟨ℓ3,k1⟩)).2 h1
   ·exact hp.roF ℓ3 id (hp.le id h1) k1
  ·rcases h1 with h1|h1
   ·exact hr.roF ℓ id h1 k1
   ·rcases frozen id h1 with f|f|f
    ·exact hr.roF ℓ id f k1
    ·exact k2 f
    ·exact f (hr.lt id (.inr ⟨ℓ,k1⟩))
 ·rcases hid with(h1|h1)| ⟨ℓ,h1⟩
  ·exact hg.cc id (hr.lt id (.inl h1))
  ·exact hp.lt id (.inl (hp.le id h1))
  ·rcases ownC ℓ id h1 with⟨ℓ3,k1, -⟩| ⟨k1,k2⟩
   ·exact hp.lt id (.inr ⟨ℓ3,k1⟩)
   ·exact hg.cc id (hr.lt id (.inr ⟨ℓ,k1⟩))
 ·rcases hid with⟨ℓ,h1⟩| ⟨g,db,b,s,h1,h2⟩
  ·rcases ownC ℓ id h1 with⟨ℓ3,k1, -⟩| ⟨k1,k2⟩
   ·rcases hg.own id (.inl ⟨ℓ3,k1⟩)with h3|h3
    ·exact .inl (old id h3)
    ·exact .inr h3
   ·exact .inl (.inl ⟨ℓ,k1⟩)
  ·obtain⟨y0,k3, -⟩:=hsame g db h1;exact .inl (.inr ⟨g,y0,b,s,k3,h2⟩)
 ·refine hg.hp id h1 fun h3=>h2 ?_
  obtain⟨g, -,h4,h5⟩:=hsub id h3;obtain⟨db,hdb⟩:=Option.isSome_iff_exists.1 h4;rcases h5 with⟨i,k,h6⟩| ⟨b,s,h6⟩
  ·exact .inl ⟨_,h6⟩
  ·exact .inr ⟨g,db,b,s,hdb,h6⟩
end
end Go.Cq.D

