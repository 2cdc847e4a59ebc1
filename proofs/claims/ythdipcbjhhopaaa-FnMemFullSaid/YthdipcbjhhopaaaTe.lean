import Derived.Test.YthdipcbjhhopaaaTd
namespace Go.Qm
open Go.Cq Go.Cq.D Go.RowKit
def vH(l:List Area)(a:Area)(q:Nat):List Area:=l.take q++a::l.drop q
def eN(a:Area):List Area→Nat
 | []=>0
 |x::l=>if a.fr≤x.fr then 0 else eN a l+1
def pU(l:List Area)(a:Area):List Area:=vH l a (eN a l)
def mD(l:List Area)(a:Area):Option (List Area):=if ay l&&bL a then(if ay (pU l a)then some (pU l a)else none)else none
theorem xQ{a:Area}:∀{l:List Area},eN a l≤l.length:=by
 intro l;induction l with
 |nil=>exact Nat.le_refl 0
 |cons x l ih=>simp only[eN];split<;>simp;exact ih
theorem aCZ{a:Area}:∀{l:List Area}{i:Nat}(h:i<eN a l),(l[i]'(Nat.lt_of_lt_of_le h xQ)).fr<a.fr:=by
 intro l;induction l with
 |nil=>intro i h;simp[eN]at h
 |cons x l ih=>
  intro i h;have h':=h;simp only[eN]at h';split at h'
  ·omega
  ·cases i with
   |zero=>simp;omega
   |succ i=>simpa using ih (i:=i) (by omega)
theorem aCJ{a:Area}:∀{l:List Area}(h:eN a l<l.length),a.fr≤l[eN a l].fr:=by
 intro l;induction l with
 |nil=>intro h;simp at h
 |cons x l ih=>
  intro h;by_cases c:a.fr≤x.fr
  ·simp[eN,c]
  ·have:eN a (x::l)=eN a l+1:=by simp[eN,c]
   simp only[this,List.getElem_cons_succ];exact ih (by rw[this]at h;simpa using h)
theorem ug{l:List Area}{a:Area}{q:Nat}:(vH l a q).length=l.length+1:=by simp[vH];omega
end Go.Qm
namespace Go.Qm
open Go.Cq Go.Cq.D Go.RowKit
theorem aBf{ar:List Area}{kd pl:Int}{x:Slot}(h1:x.kd=kd)(h2:x.pl=pl):∀{l:List Slot}{i:Nat},x∈l→0< (gI ar kd pl i l).length:=by
 intro l;induction l with
 |nil=>intro i h;simp at h
 |cons y l ih=>
  intro i h;simp only[gI];rcases List.mem_cons.1 h with rfl|h
  ·rw[if_pos ⟨h1,h2⟩];simp
  ·have:=ih (i:=i+1) h;split
   ·simp
   ·exact this
theorem aCC{kd pl:Int}{x:Slot}(h1:x.kd=kd)(h2:x.pl=pl):∀{sp:List Space}{s:Space},s∈sp→x∈s.sl→0< (tel kd pl sp).length:=by
 intro sp;induction sp with
 |nil=>intro s h;simp at h
 |cons y l ih=>
  intro s h hx;simp only[tel,List.length_append];rcases List.mem_cons.1 h with rfl|h
  ·have:=aBf (ar:=s.ar) h1 h2 (i:=0) hx;omega
  ·have:=ih h hx;omega
theorem vJ{kd:Int}{sp:List Space}:∀{l:List Int}{i:Nat},cn kd sp i l=true→∀(k:Nat)(h:k<l.length),g8 kd sp (i+k) l[k]=true:=by
 intro l;induction l with
 |nil=>intro i _ k h;simp at h
 |cons n l ih=>
  intro i h k hk;simp only[cn,Bool.and_eq_true]at h;cases k with
  |zero=>exact h.1
  |succ k=>have:=ih h.2 k (by simpa using hk);rw[show i+(k+1)=i+1+k by omega];simpa using this
theorem oC:∀{ts:List Str}{ns:List Int},ed ts ns=true→∀(k:Nat)(h1:k<ts.length)(h2:k<ns.length),dw ts[k] ns[k]=true:=by
 intro ts;induction ts with
 |nil=>intro ns _ k h;simp at h
 |cons t ts ih=>
  intro ns h k h1 h2;cases ns with
  |nil=>simp at h2
  |cons n ns=>
   simp only[ed,Bool.and_eq_true]at h;cases k with
   |zero=>exact h.1
   |succ k=>simpa using ih h.2 k (by simpa using h1) (by simpa using h2)
theorem qR{ar:List Area}{x:Slot}:∀{l:List Slot}{i:Nat},cz ar i l=true→x∈l→∃j,dC ar j x=true:=by
 intro l;induction l with
 |nil=>intro i _ h;simp at h
 |cons y l ih=>
  intro i h hx;simp only[cz,Bool.and_eq_true]at h;rcases List.mem_cons.1 hx with rfl|hx
  ·exact⟨i,h.1⟩
  ·exact ih h.2 hx
theorem aBg{p:Pages}(h:bu p=true)(hl:p.rf.length=12):PgW p∧∀(k:Nat)(h1:k<p.tx.length)(h2:k<p.rf.length),p.rf[k]≠0→p.tx[k].length=4:=by
 simp only[bu,Bool.and_eq_true,decide_eq_true_eq]at h;have hg:=oC h.2;refine⟨⟨by omega,hl,fun x hx=>?_⟩,fun k h1 h2 h3=>?_⟩
 ·obtain⟨k,hk,rfl⟩:=List.getElem_of_mem hx;have:=hg k (by omega) hk;simp only[dw,inB,Bool.and_eq_true,decide_eq_true_eq]at this;omega
 ·have:=hg k h1 h2;simp only[dw,Bool.and_eq_true,decide_eq_true_eq,if_neg h3]at this;omega
theorem m0{m:Mem}(h:cY m=true):Wf m:=by
 simp only[cY,Bool.and_eq_true,decide_eq_true_eq]at h;obtain⟨⟨⟨⟨⟨⟨⟨⟨h1,h2⟩,h3⟩,h4⟩,h5⟩,h6⟩,h7⟩,h8⟩,h9⟩:=h;obtain⟨r1,r2⟩:=aBg h1 h3;obtain⟨s1,s2⟩:=aBg h2 h4;have sp:∀s,s∈m.sp→s.sl.length≤16∧∀x,x∈s.sl→(x.kd=0∨x.kd=1∨x.kd=2)∧gU x=true:=fun s hs=>by
  have:=List.all_eq_true.1 h7 s hs;simp only[Bool.and_eq_true]at this;obtain⟨k1,k2⟩:=this;unfold bo at k1;split at k1
  ·simp only[Bool.and_eq_true,decide_eq_true_eq]at k1;refine⟨by omega,fun x hx=>⟨?_,List.all_eq_true.1 k2 x hx⟩⟩;obtain⟨j,hj⟩:=qR k1.2.2 hx;unfold dC at hj;split at hj
   ·exact .inl ‹_›
   ·simp only[inB,Bool.and_eq_true,decide_eq_true_eq]at hj;omega
  ·simp only[Bool.and_eq_true,decide_eq_true_eq]at k1;refine⟨by omega,fun x hx=>?_⟩;rw[List.length_eq_zero_iff.1 k1.2]at hx;simp at hx
 have told:∀(kd:Int)(p:Pages),kd≠0→PgW p→(∀(k:Nat)(h1:k<p.tx.length)(h2:k<p.rf.length),p.rf[k]≠0→p.tx[k].length=4)→cn kd m.sp 0 p.rf=true→∀s,s∈m.sp→∀x,x∈s.sl→x.kd=kd→dn p x:=fun kd p hk0 w ht hr s hs x hx hk=>by
  have hp:=((sp s hs).2 x hx).2;obtain⟨k,e1,e2⟩:=so hp (by omega);have h2:k<p.rf.length:=by rw[w.rf];exact e2
  have h1:k<p.tx.length:=by rw[w.tx];exact e2
  have:=vJ hr k h2;simp only[g8,Nat.zero_add,Bool.and_eq_true,decide_eq_true_eq]at this;have hpos:=aCC hk (show x.pl=(k:Int)from e1) hs hx;have hn:p.rf[k]≠0:=by omega
  exact⟨k,e1,e2,by simpa [h2]using hn,by simpa [h1]using ht k h1 h2 hn⟩
 exact⟨r1,s1,h5,by simpa [inB]using h6,fun s hs=>(sp s hs).1,told 1 _ (by decide) r1 r2 h8,told 2 _ (by decide) s1 s2 h9,fun s hs x hx=>((sp s hs).2 x hx).1⟩
def cJ(sp sp':List Space):Prop:=sp'.length=sp.length∧∀(i:Nat)(h:i<sp.length)(h':i<sp'.length),sp'[i].lv=sp[i].lv∧sp'[i].ar=sp[i].ar∧sp'[i].sl.length=sp[i].sl.length
theorem cJ.refl{sp:List Space}:cJ sp sp:=⟨rfl,fun _ _ _=>⟨rfl,rfl,rfl⟩⟩
theorem cJ.trans{a b c:List Space}(h1:cJ a b)(h2:cJ b c):cJ a c:=by
 refine⟨h2.1.trans h1.1,fun i h h'=>?_⟩;have hb:i<b.length:=by rw[h1.1];exact h
 obtain⟨a1,a2,a3⟩:=h1.2 i h hb;obtain⟨b1,b2,b3⟩:=h2.2 i hb h';exact⟨b1.trans a1,b2.trans a2,b3.trans a3⟩
theorem alike.same{but:Int}{a b:List Space}(h:alike but a b):cJ a b:=⟨h.1,fun i h1 h2=>⟨(h.2 i h1 h2).1,(h.2 i h1 h2).2.1,(h.2 i h1 h2).2.2.1⟩⟩
theorem vk{kd pl:Int}{f:Slot→Slot}{sp:List Space}:cJ sp (aZ kd pl f sp):=⟨by simp[aZ],fun i h h'=>by simp[aZ]⟩
theorem eW{sp:List Space}{i j:Nat}{x:Slot}:cJ sp (aF sp i j x):=by refine⟨by simp[aF],fun q h h'=>?_⟩;simp only[aF,List.getElem_modify];split<;>simp
theorem dt{m m':Mem}(w:Wf m){i j:Nat}(h:bE m i j=some m'):cJ m.sp m'.sp:=by
 unfold bE at h;split at h
 ·cases h;exact eW
 ·simp only[Option.map_eq_some_iff]at h;obtain⟨m1,h1,h2⟩:=h;have ha:=(bq w h1).same;split at h2
  ·subst h2;exact ha.trans eW
  ·subst h2;exact(ha.trans vk).trans eW
theorem fy{m m':Mem}(w:Wf m){i j:Nat}(hi:i<m.sp.length)(hj:j<m.sp[i].sl.length)(h:bE m i j=some m'):∃(hi':i<m'.sp.length)(hj':j<m'.sp[i].sl.length),m'.sp[i].sl[j].kd=1:=by
 have hs:=dt w h;have hi':i<m'.sp.length:=by rw[hs.1];exact hi
 have hj':j<m'.sp[i].sl.length:=by rw[(hs.2 i hi hi').2.2];exact hj
 refine⟨hi',hj',?_⟩;have key:∀(sp:List Space)(x:Slot)(h1:i< (aF sp i j x).length)(h2:j< (aF sp i j x)[i].sl.length),(aF sp i j x)[i].sl[j]=x:=fun sp x h1 h2=>by simp[aF]
 unfold bE at h;split at h
 ·rename_i c;cases h;simp only[key];exact c
 ·simp only[Option.map_eq_some_iff]at h;obtain⟨m1,h1,h2⟩:=h;split at h2
  ·subst h2;simp only[key]
  ·subst h2;simp only[key]
end Go.Qm
namespace Go.Qm
open Go.Cq Go.Cq.D Go.RowKit
def bz(l:List Space):Nat:=aJ (l.map fun s=>if s.lv then 1 else 0)
def iH(l:List Space):Int:=if bz l<l.length then(bz l:Int)else-1
theorem yD{l:List Space}{i:Nat}(h:i<l.length)(h0:l[i].lv=false):bz l≤i:=kY (by simpa using h) (by simp[h0])
theorem kq{l:List Space}(h:bz l<l.length):l[bz l].lv=false:=by have:=me (l:=l.map fun s=>if s.lv then(1:Int)else 0) (by simpa [bz]using h);rw[List.getElem_map]at this;simpa [bz]using this
def gF(c:Prop) [Decidable c](p:Pages)(k:Nat):Pages:=if c then⟨p.tx,p.rf.set k (p.rf[k]?.getD 0+1)⟩else p
def arF(m:Mem)(i:Nat):List Area:=(m.sp[i]?.map (·.ar)).getD []
def shP(m:Mem)(i j:Nat):Bool:=jT (arF m i) (bA (arF m i) j)
def cL(m:Mem)(i:Nat):Nat→Mem×Bool
 |0=>(m,true)
 |j+1=>if(cL m i j).2&&(shP (cL m i j).1 i j&&decide ((aK (cL m i j).1 i j).kd=0))then(match bE (cL m i j).1 i j with
  |some m2=>(m2,true)
  |none=>((cL m i j).1,false))else cL m i j
def pX(m:Mem)(i j:Nat):Mem:=
 ⟨gF ((aK m i j).kd=1) m.ram (aK m i j).pl.toNat,gF ((aK m i j).kd=2) m.swp (aK m i j).pl.toNat,
  aF m.sp i j (if shP m i j then aK m i j else{aK m i j with ow:=false}),m.hd⟩
def jn(m:Mem)(i:Nat):Nat→Mem
 |0=>m
 |j+1=>pX (jn m i j) i j
def iM(m:Mem)(i:Nat):List Slot:=(m.sp[i]?.map (·.sl)).getD []
def iZ(m:Mem)(i to:Nat):Mem:={m with sp:=m.sp.set to ⟨true,arF m i,iM m i⟩}
def lQ(m:Mem)(i:Nat):Mem×Int:=
 if bz m.sp<m.sp.length then
  if(cL m i 16).2 then(iZ (jn (cL m i 16).1 i 16) i (bz m.sp),bz m.sp)else((cL m i 16).1, -1)
 else(m, -1)
theorem aAQ{m:Mem}(w:Wf m){i:Nat}(hi:i<m.sp.length):∀{j:Nat},j≤m.sp[i].sl.length→Wf (cL m i j).1∧cJ m.sp (cL m i j).1.sp:=by
 intro j;induction j with
 |zero=>exact fun _=>⟨w,cJ.refl⟩
 |succ j ih=>
  intro hj;obtain⟨w1,s1⟩:=ih (by omega);have hi1:i< (cL m i j).1.sp.length:=by rw[s1.1];exact hi
  have hj1:j< (cL m i j).1.sp[i].sl.length:=by rw[(s1.2 i hi hi1).2.2];omega
  simp only[cL];split
  ·cases hb:bE (cL m i j).1 i j with
   |none=>exact⟨w1,s1⟩
   |some m2=>exact⟨w1.jk hi1 hj1 hb,s1.trans (dt w1 hb)⟩
  ·exact⟨w1,s1⟩
theorem wO{m:Mem}{i j:Nat}(h:(cL m i j).2=false):∀k,cL m i (j+k)=cL m i j:=by
 intro k;induction k with
 |zero=>rfl
 |succ k ih=>rw[←Nat.add_assoc,cL,ih,h];rfl
structure Fk(m m':Mem)(i j:Nat):Prop where
 rt:m'.ram.tx=m.ram.tx
 rl:m'.ram.rf.length=m.ram.rf.length
 st:m'.swp.tx=m.swp.tx
 sl:m'.swp.rf.length=m.swp.rf.length
 sm:cJ m.sp m'.sp
 hd:m'.hd=m.hd
 at_:∀k,j≤k→aK m' i k=aK m i k
 rb:∀x,x∈m'.ram.rf→0≤x∧x≤1000+j
 sb:∀x,x∈m'.swp.rf→0≤x∧x≤1000+j
theorem uM{c:Prop} [Decidable c]{p:Pages}{k:Nat}:(gF c p k).tx=p.tx:=by unfold gF;split<;>rfl
theorem qh{c:Prop} [Decidable c]{p:Pages}{k:Nat}:(gF c p k).rf.length=p.rf.length:=by unfold gF;split<;>simp
theorem rY{c:Prop} [Decidable c]{p:Pages}{k:Int}{f:Nat}(hc:c)(e:k=f)(h:f<p.rf.length):gF c p k.toNat=⟨p.tx,p.rf.set f (p.rf[f]+1)⟩:=by subst e;simp[gF,hc,h]
theorem jH{c:Prop} [Decidable c]{p:Pages}{k:Nat}(hc:¬c):gF c p k=p:=if_neg hc
theorem ui{c:Prop} [Decidable c]{p:Pages}{k:Nat}{j:Nat}(h:∀x,x∈p.rf→0≤x∧x≤1000+(j:Int)):∀x,x∈(gF c p k).rf→0≤x∧x≤1000+((j+1:Nat):Int):=by
 intro x hx;have key:0≤p.rf[k]?.getD 0∧p.rf[k]?.getD 0≤1000+(j:Int):=by
  cases e:p.rf[k]? with
  |none=>simp;omega
  |some y=>simpa using h y (List.mem_of_getElem? e)
 unfold gF at hx;split at hx
 ·rcases List.mem_or_eq_of_mem_set hx with hx|rfl
  ·have:=h x hx;omega
  ·omega
 ·have:=h x hx;omega
theorem pS{m:Mem}{r s:Pages}{h:Int}{i j k:Nat}{x:Slot}(hk:k≠j):aK ⟨r,s,aF m.sp i j x,h⟩ i k=aK m i k:=by
 simp only[aK,aF,List.getElem?_modify,if_true];cases m.sp[i]? with
 |none=>rfl
 |some y=>simp[List.getElem?_set_ne (Ne.symm hk)]
theorem aAm{m:Mem}(h1:PgW m.ram)(h2:PgW m.swp){i:Nat}:∀{j:Nat},Fk m (jn m i j) i j:=by
 intro j;induction j with
 |zero=>exact⟨rfl,rfl,rfl,rfl,cJ.refl,rfl,fun _ _=>rfl,fun x hx=>by have:=h1.bd x hx;omega,fun x hx=>by have:=h2.bd x hx;omega⟩
 |succ j ih=>obtain⟨a1,a2,a3,a4,a5,a6,a7,a8,a9⟩:=ih;exact⟨uM.trans a1,qh.trans a2,uM.trans a3,qh.trans a4,a5.trans eW,a6,fun k hk=>(pS (by omega)).trans (a7 k (by omega)),ui a8,ui a9⟩
theorem vb{kd pl:Int}{f:Slot→Slot}{m:Mem}{r s:Pages}{h:Int}{i j:Nat}(hk:kd≠0):aK ⟨r,s,aZ kd pl f m.sp,h⟩ i j=if(aK m i j).kd=kd∧(aK m i j).pl=pl then f (aK m i j)else aK m i j:=by
 have h0:¬(dQ.kd=kd∧dQ.pl=pl):=fun c=>hk c.1.symm
 simp only[aK,aZ,List.getElem?_map];rcases Option.eq_none_or_eq_some (m.sp[i]?)with hs| ⟨y,hs⟩
 ·simp only[hs,Option.map_none,Option.bind_none,Option.getD_none];rw[if_neg h0]
 ·simp only[hs,Option.map_some,Option.bind_some,List.getElem?_map];rcases Option.eq_none_or_eq_some (y.sl[j]?)with ht| ⟨x,ht⟩
  ·simp only[ht,Option.map_none,Option.getD_none];rw[if_neg h0]
  ·simp only[ht,Option.map_some,Option.getD_some]
theorem wD{kd pl:Int}{f:Slot→Slot}{m:Mem}{r s:Pages}{h:Int}{i j:Nat}(hk:kd≠0)(hf:∀x:Slot,x.kd=kd→(f x).kd≠0):(aK ⟨r,s,aZ kd pl f m.sp,h⟩ i j).kd=0↔(aK m i j).kd=0:=by
 rw[vb hk];split
 ·rename_i c;have:=hf _ c.1;have:=c.1;omega
 ·exact Iff.rfl
theorem aC1{m m':Mem}{but:Int}(h:clk m but= .inl m'){i j:Nat}:(aK m' i j).kd=0↔(aK m i j).kd=0:=by
 unfold clk at h;split at h
 ·cases h;exact Iff.rfl
 ·split at h
  ·cases h;exact wD (m:=m) (by decide) fun x hx=>by simp only[dp];omega
  ·cases h
theorem aCK{m m':Mem}{but:Int}(h:clk m but= .inr m'){i j:Nat}:(aK m' i j).kd=0↔(aK m i j).kd=0:=by
 unfold clk at h;split at h
 ·cases h
 ·split at h
  ·cases h
  ·cases h;exact(wD (m:=dS (dD m) m.hd) (f:=bU 2 _) (by decide) fun x hx=>by simp[bU]).trans (wD (m:=m) (f:=dp) (by decide) fun x hx=>by simp only[dp];omega)
theorem aB3{but:Int}{i j:Nat}:∀{m:Mem},(aK (dY m but) i j).kd=0↔(aK m i j).kd=0:=by
 have main:∀(k:Nat)(m:Mem),mu m but=k→((aK (dY m but) i j).kd=0↔(aK m i j).kd=0):=by
  intro k;induction k using Nat.strongRecOn with
  |_ k ih=>
   intro m hk;cases hc:clk m but with
   |inl m'=>rw[gf hc];exact(ih _ (hk▸i6 hc) m' rfl).trans (aC1 hc)
   |inr m'=>rw[jP hc];exact aCK hc
 exact fun{m}=>main _ m rfl
theorem aAe{m m':Mem}{but:Int}(h:bF m but=some m'){i j:Nat}:(aK m' i j).kd=0↔(aK m i j).kd=0:=by
 unfold bF at h;split at h
 ·cases h;exact Iff.rfl
 ·split at h
  ·cases h;exact aB3
  ·cases h
theorem z8{a b:Mem}(h:cJ a.sp b.sp){i:Nat}(hi:i<a.sp.length):arF b i=a.sp[i].ar:=by
 have hb:i<b.sp.length:=by rw[h.1];exact hi
 simp[arF,hb,(h.2 i hi hb).2.1]
theorem aAR{m:Mem}{r s:Pages}{h:Int}{i j:Nat}{x:Slot}:iM ⟨r,s,aF m.sp i j x,h⟩ i=(iM m i).set j x:=by simp only[iM,aF,List.getElem?_modify,if_true];cases m.sp[i]?<;>simp
theorem wv{m:Mem}{i:Nat}(hi:i<m.sp.length):iM m i=m.sp[i].sl:=by simp[iM,hi]
end Go.Qm
namespace Go.Cq.D
open Go.RowKit
section
variable{P:Prg}{n0:Nat}{ts:DTs}{H:DH}{n:Nat}{K:DT→DTs→DH→Nat→List Nat→Prop}{Q:Kc}
theorem gq(es:List Loc)(ms:List M)(ρ:List Nat)(J:JN){ts1:DTs}{H1:DH}{n1:Nat}{f:FuncId}{args:List Opd}{das cas:List DV}{Hc:DH}{Post:DT→DH→Prop}(he:dU es ts H n=(ts1,H1,n1))(h1:dP ts1 args=some das)(h2:fQ H1 ρ ms das=some cas)(h3:du (fun g=>fO ρ g 0) H1 ρ 0=some Hc)(h4:(nodup ρ&&(nodup (given ms das)&&(b9 (given ms das) ρ&&(b9 (dR ms das) (given ms das)&&b9 (dR ms das) ρ))))=true)(hc:eh P.prog J f cas Hc ρ.length Post)(hJ:∀t p,J t=some p→∃g,ρ[t]?=some g∧P.J g=some p)(h:∀res H3,Post res H3→iI ρ.length H3=true∧∃H',bD (fun t=>ρ[t]?) H3 ρ 0 (fR (given ms das) H1)=some H'∧K (g7 (fun t=>ρ[t]?) res) ts1 H' n1 (given ms das++ρ))(hv:J.v=none∨J.v=P.J.v:=by first|exact .inl rfl|exact .inr rfl):OpP P (.call f args) ts H n K:=by simp only[Bool.and_eq_true]at h4;exact⟨aCU rfl es he (.inl ⟨[],das,h1,ms,ρ,cas,Hc,Post,J,h2,h3,h4.1,h4.2.1,h4.2.2.1,h4.2.2.2,⟨hc,hJ⟩,hv,h⟩)⟩
theorem aAf(ms:List M)(J:JN)(cs:List CV){f:FuncId}{args:List Opd}{das cas:List DV}(h1:dP ts args=some das)(h2:fQ H [] ms das=some cas)(h3:given ms das=[])(h4:dR ms das=[])(hc:eh P.prog J f cas [] 0 fun res H'=>∃t,res= .v (.one (.ptr t 0 0))∧aG H' t=some (.box (cs.map .sc)))(h:K (.v (.one (.ptr n 0 0))) ts ((n,.box (cs.map .sc))::H) (n+1) [])(hn:∀t,J t=none:=by intro;rfl)(hv:J.v=none∨J.v=P.J.v:=by first|exact .inl rfl|exact .inr rfl):OpP P (.call f args) ts H n K:=⟨lD (.inr ⟨das,h1,ms,cas,J,cs,h2,h3,h4,hc,hn,hv,h⟩)⟩
theorem jI(es:List Loc)(ms:List M)(ρ:List Nat)(J:JN){ts1:DTs}{H1:DH}{n1:Nat}{f:FuncId}{args:List Opd}{das cas:List DV}{Hc Hr H':DH}{r:DT}(he:dU es ts H n=(ts1,H1,n1))(h1:dP ts1 args=some das)(h2:fQ H1 ρ ms das=some cas)(h3:du (fun g=>fO ρ g 0) H1 ρ 0=some Hc)(h4:(nodup ρ&&(nodup (given ms das)&&(b9 (given ms das) ρ&&(b9 (dR ms das) (given ms das)&&b9 (dR ms das) ρ))))=true)(hc:eh P.prog J f cas Hc ρ.length fun x H'=>x=r∧H'=Hr)(hJ:∀t p,J t=some p→∃g,ρ[t]?=some g∧P.J g=some p)(h5:iI ρ.length Hr=true)(h6:bD (fun t=>ρ[t]?) Hr ρ 0 (fR (given ms das) H1)=some H')(h:fDT (g7 (fun t=>ρ[t]?) r) fun x=>fTs ts1 fun ts1=>fDH H' fun H'=>K x ts1 H' n1 (given ms das++ρ))(hv:J.v=none∨J.v=P.J.v:=by first|exact .inl rfl|exact .inr rfl):OpP P (.call f args) ts H n K:=by simp only[sj,kT,kI]at h;exact gq es ms ρ J he h1 h2 h3 h4 hc hJ (fun res H3 hp=>by obtain⟨rfl,rfl⟩:=hp;exact⟨h5,H',h6,h⟩) hv
theorem b8(ms:List M)(ρ:List Nat){f:FuncId}{args:List Opd}{das cas:List DV}{Hc Hr H':DH}{r:DT}(h1:dP ts args=some das)(h2:fQ H ρ ms das=some cas)(h3:du (fun g=>fO ρ g 0) H ρ 0=some Hc)(h4:(nodup ρ&&(nodup (given ms das)&&(b9 (given ms das) ρ&&(b9 (dR ms das) (given ms das)&&b9 (dR ms das) ρ))))=true)(hc:d6 P.prog f cas Hc ρ.length fun x H'=>x=r∧H'=Hr)(h5:iI ρ.length Hr=true)(h6:bD (fun t=>ρ[t]?) Hr ρ 0 (fR (given ms das) H)=some H')(h:fDT (g7 (fun t=>ρ[t]?) r) fun x=>fTs ts fun ts1=>fDH H' fun H'=>K x ts1 H' n (given ms das++ρ)):OpP P (.call f args) ts H n K:=jI [] ms ρ noJ rfl h1 h2 h3 h4 hc.toJ (fun t p e=>by simp[noJ]at e) h5 h6 h
theorem xk(ms:List M)(ρ:List Nat)(J:JN){f:FuncId}{x:Opd}{args:List Opd}{caps:List (Nat×Nat×Nat)}{das dcs cas:List DV}{Hc:DH}{Post:DT→DH→Prop}(h0:cC ts x=some (.fn f caps))(h1:dP ts args=some das)(hd:das++caps.map (fun q=>.one (.ptr q.1 q.2.1 q.2.2))=dcs)(h2:fQ H ρ ms dcs=some cas)(h3:du (fun g=>fO ρ g 0) H ρ 0=some Hc)(h4:(nodup ρ&&(nodup (given ms dcs)&&(b9 (given ms dcs) ρ&&(b9 (dR ms dcs) (given ms dcs)&&b9 (dR ms dcs) ρ))))=true)(hc:eh P.prog J f cas Hc ρ.length Post)(hJ:∀t p,J t=some p→∃g,ρ[t]?=some g∧P.J g=some p)(h:∀res H3,Post res H3→iI ρ.length H3=true∧∃H',bD (fun t=>ρ[t]?) H3 ρ 0 (fR (given ms dcs) H)=some H'∧K (g7 (fun t=>ρ[t]?) res) ts H' n (given ms dcs++ρ))(hv:J.v=none∨J.v=P.J.v:=by first|exact .inl rfl|exact .inr rfl):OpP P (.callv x args) ts H n K:=by subst hd;simp only[Bool.and_eq_true]at h4;exact⟨lD ⟨[],f,caps,das,h0,h1,ms,ρ,cas,Hc,Post,J,h2,h3,h4.1,h4.2.1,h4.2.2.1,h4.2.2.2,⟨hc,hJ⟩,hv,h⟩⟩
theorem gw(ms:List M)(ρ:List Nat)(J:JN){f:FuncId}{x:Opd}{args:List Opd}{caps:List (Nat×Nat×Nat)}{das dcs cas:List DV}{Hc Hr H':DH}{r:DT}(h0:cC ts x=some (.fn f caps))(h1:dP ts args=some das)(hd:das++caps.map (fun q=>.one (.ptr q.1 q.2.1 q.2.2))=dcs)(h2:fQ H ρ ms dcs=some cas)(h3:du (fun g=>fO ρ g 0) H ρ 0=some Hc)(h4:(nodup ρ&&(nodup (given ms dcs)&&(b9 (given ms dcs) ρ&&(b9 (dR ms dcs) (given ms dcs)&&b9 (dR ms dcs) ρ))))=true)(hc:eh P.prog J f cas Hc ρ.length fun x H'=>x=r∧H'=Hr)(hJ:∀t p,J t=some p→∃g,ρ[t]?=some g∧P.J g=some p)(h5:iI ρ.length Hr=true)(h6:bD (fun t=>ρ[t]?) Hr ρ 0 (fR (given ms dcs) H)=some H')(h:fDT (g7 (fun t=>ρ[t]?) r) fun x=>fTs ts fun ts1=>fDH H' fun H'=>K x ts1 H' n (given ms dcs++ρ))(hv:J.v=none∨J.v=P.J.v:=by first|exact .inl rfl|exact .inr rfl):OpP P (.callv x args) ts H n K:=by simp only[sj,kT,kI]at h;exact xk ms ρ J h0 h1 hd h2 h3 h4 hc hJ (fun res H3 hp=>by obtain⟨rfl,rfl⟩:=hp;exact⟨h5,H',h6,h⟩) hv
theorem aEZ{f:FOp}{r r':DV}(hf:dfl ts H f=some r)(ht:Told P.J H r r')(h:K (.v r') ts H n []):exec P (.fl f) ts H n K:=by
 cases f with
 |cmpNil neg x=>simp[dfl]at hf
 |_=>exact⟨r,r',.inl hf,ht,h⟩
theorem aBp{x i:Opd}{sz:Nat}{g len id base:Nat}{es:List (List PV)}{ov:List (Nat×Nat×DC)}{k:Nat}(hx:cC ts x=some (.sl g 0 len))(hg:aG H g=some (.arr sz es ov))(hi:eC ts i=some (k:Int))(h1:k<len)(hJ:P.J g=some (id,base,sz))(h:K (.v (.one (.sc (.ptr id ((base+k)*sz+0))))) ts H n []):OpP P (.fl (.idxAddr x i sz)) ts H n K:=by refine⟨aEZ (r:=.one (.ptr g k 0)) ?_ (.nm hJ (by rw[hg];rfl)) h⟩;simp only[dfl,hx,hi,hg];rw[if_pos ⟨by omega,by omega,by trivial⟩];simp
theorem gD{x:Opd}{g i sz id base off:Nat}(hx:cC ts x=some (.sc (.ptr id off)))(ho:(base+i)*sz+0=off)(hJ:P.J g=some (id,base,sz))(hg:(aG H g).isSome=true)(h:K (.v (.one (.ptr g i 0))) ts H n []):OpP P (.fl (.nilCheck x)) ts H n K:=by subst ho;exact⟨⟨.one (.sc (.ptr id ((base+i)*sz+0))),.one (.ptr g i 0),.inr (.nck hx),.bk hJ hg,h⟩⟩
end
end Go.Cq.D
namespace Go.Qm
open Go.Cq Go.Cq.D Go.RowKit
theorem aCM{m m':Mem}{f:Nat}(hn:0≤m.hd)(h:clk m f= .inr m'):m'.ram.rf[f]?=m.ram.rf[f]?:=by
 unfold clk at h;split at h
 ·cases h
 ·rename_i c;split at h
  ·cases h
  ·cases h;have:¬m.hd.toNat=f:=by omega
   simp[dk,aY,dS,dD,List.getElem?_set_ne this]
theorem aAS{f:Nat}:∀{m:Mem},Wf m→(dY m f).ram.rf[f]?=m.ram.rf[f]?:=by
 have main:∀(k:Nat)(m:Mem),mu m f=k→Wf m→(dY m f).ram.rf[f]?=m.ram.rf[f]?:=by
  intro k;induction k using Nat.strongRecOn with
  |_ k ih=>
   intro m hk h;cases hc:clk m f with
   |inl m'=>obtain⟨h1,h2, -⟩:=h.xh hc;rw[gf hc,ih _ (hk▸i6 hc) m' rfl h1,h2]
   |inr m'=>rw[jP hc];exact aCM h.hd.1 hc
 exact fun{m}=>main _ m rfl
theorem u6{m m':Mem}{f:Nat}(w:Wf m)(h:bF m f=some m'):m'.ram.rf[f]?=m.ram.rf[f]?:=by
 unfold bF at h;split at h
 ·cases h;rfl
 ·split at h
  ·cases h;exact aAS w
  ·cases h
theorem pJ{p:Pages}{f:Nat}(h:1<p.rf[f]?.getD 0):cI p f=⟨p.tx,p.rf.set f (p.rf[f]?.getD 0-1)⟩:=by simp only[cI,if_neg (show¬p.rf[f]?.getD 0=1 by omega)]
theorem Wf.aEG{m:Mem}(w:Wf m){f:Nat}(h2:1<m.ram.rf[f]?.getD 0):Wf {m with ram:=cI m.ram f}:=by
 have hf:f<m.ram.rf.length:=by
  rcases Nat.lt_or_ge f m.ram.rf.length with c|c
  ·exact c
  ·rw[List.getElem?_eq_none c]at h2;simp at h2
 have hr:m.ram.rf[f]?.getD 0=m.ram.rf[f]:=by simp[hf]
 have hb:=w.ram.get (k:=f);rw[pJ h2];refine⟨⟨w.ram.tx,by simp[w.ram.rf],fun x hx=>?_⟩,w.swp,w.sp,w.hd,w.sl,fun s hs x hx hk=>?_,w.at2,w.kd⟩
 ·rcases List.mem_or_eq_of_mem_set hx with hx|rfl
  ·exact w.ram.bd x hx
  ·omega
 ·obtain⟨k,e1,e2,e3,e4⟩:=w.at1 s hs x hx hk;refine⟨k,e1,e2,?_,e4⟩;by_cases c:f=k
  ·subst c;rw[List.getElem?_set_self hf];simp only[Option.getD_some];omega
  ·rw[List.getElem?_set_ne c];exact e3
theorem Wf.own{m m':Mem}(w:Wf m){i j:Nat}(hi:i<m.sp.length)(hj:j<m.sp[i].sl.length)(hk:(aK m i j).kd=1)(h:fB m i j=some m'):Wf m'∧cJ m.sp m'.sp∧(aK m' i j).kd=1:=by
 obtain⟨t1, -⟩:=w.slot hi hj;obtain⟨f,e1,e2,e3,e4⟩:=t1 hk;have key:∀{r s:Pages}{sp:List Space}{d:Int}{x:Slot}(hi:i<sp.length)(hj:j<sp[i].sl.length),aK ⟨r,s,aF sp i j x,d⟩ i j=x:=fun{r s sp d x} hi hj=>by have h1:j<sp[i].sl.length:=hj;simp[aK,aF,hi,h1]
 unfold fB at h;split at h
 ·rename_i c;simp only[Option.map_eq_some_iff]at h;obtain⟨m1,h1,rfl⟩:=h;rw[e1,Int.toNat_natCast]at c;rw[e1]at h1;obtain⟨w1,hf⟩:=w.bF h1;have ha:=bq w h1;obtain⟨hi1,hj1,ex,ey⟩:=eU ha hi hj (.inr e1);have hrf:=u6 w h1;obtain⟨g,q1,q2,q3,q4⟩:=(w1.slot hi1 hj1).1 (by rw[ey];exact hk);obtain rfl:g=f:=by rw[ey,e1]at q1;omega
  have hne:aJ m1.ram.rf≠g:=fun e=>by have:=eV (l:=m1.ram.rf) (by rw[w1.ram.rf];exact hf);rw[e,hrf]at this;omega
  have wt:=w1.take hf (t:=m1.ram.tx[g]?.getD []) (n:=1) (by decide);have hgt:1< (aY m1.ram (aJ m1.ram.rf) (m1.ram.tx[g]?.getD []) 1).rf[g]?.getD 0:=by simp only[aY,List.getElem?_set_ne hne];rw[hrf];exact c.2
  have wg:=wt.aEG (f:=g) hgt;simp only[e1,Int.toNat_natCast];refine⟨wg.set (y:={aK m i j with pl:=aJ m1.ram.rf,ow:=true}) (fun _=>?_) (fun e=>by simp only[hk]at e;omega) (.inr (.inl hk)),?_,?_⟩
  ·have hz:g<m1.ram.rf.length:=by rw[w1.ram.rf];exact e2
   have hF:aJ m1.ram.rf<m1.ram.rf.length:=by rw[w1.ram.rf];exact hf
   have hFt:aJ m1.ram.rf<m1.ram.tx.length:=by rw[w1.ram.tx];exact hf
   refine⟨aJ m1.ram.rf,rfl,hf,?_,?_⟩
   ·rw[pJ hgt];simp only[aY];rw[List.getElem?_set_ne (Ne.symm hne),List.getElem?_set_self hF];simp
   ·rw[pJ hgt];simp only[aY];rw[List.getElem?_set_self hFt];simpa using q4
  ·exact(ha.same).trans eW
  ·rw[key hi1 hj1];exact hk
 ·cases h;exact⟨w.set (fun _=>t1 hk) (fun e=>by simp only[hk]at e;omega) (.inr (.inl hk)),eW,by rw[key hi hj];exact hk⟩
end Go.Qm
namespace Go.Qm
open Go.Cq Go.Cq.D Go.RowKit
def hit(kd pl:Int)(x:Slot):Bool:=decide (x.kd=kd∧x.pl=pl)
def eR(kd pl:Int)(l:List Slot):Nat:=l.countP (hit kd pl)
def cnt(kd pl:Int):List Space→Nat
 | []=>0
 |s::l=>eR kd pl s.sl+cnt kd pl l
def one(b:Bool):Nat:=if b then 1 else 0
theorem zW{kd pl:Int}{y:Slot}:∀{l:List Slot}{j:Nat}(h:j<l.length),eR kd pl (l.set j y)+one (hit kd pl l[j])=eR kd pl l+one (hit kd pl y):=by
 intro l;induction l with
 |nil=>intro j h;simp at h
 |cons x l ih=>
  intro j h;cases j with
  |zero=>simp only[eR,List.set_cons_zero,List.countP_cons,List.getElem_cons_zero,one];omega
  |succ j=>have:=ih (j:=j) (by simpa using h);simp only[eR,List.set_cons_succ,List.countP_cons,List.getElem_cons_succ]at this ⊢;omega
theorem sV{kd pl:Int}{t:Space}:∀{sp:List Space}{i:Nat}(h:i<sp.length),cnt kd pl (sp.set i t)+eR kd pl sp[i].sl=cnt kd pl sp+eR kd pl t.sl:=by
 intro sp;induction sp with
 |nil=>intro i h;simp at h
 |cons s l ih=>
  intro i h;cases i with
  |zero=>simp only[List.set_cons_zero,cnt,List.getElem_cons_zero];omega
  |succ i=>have:=ih (i:=i) (by simpa using h);simp only[List.set_cons_succ,cnt,List.getElem_cons_succ]at this ⊢;omega
theorem mW{kd pl:Int}{y:Slot}{sp:List Space}{i j:Nat}(hi:i<sp.length)(hj:j<sp[i].sl.length):cnt kd pl (aF sp i j y)+one (hit kd pl sp[i].sl[j])=cnt kd pl sp+one (hit kd pl y):=by
 have e:aF sp i j y=sp.set i ⟨sp[i].lv,sp[i].ar,sp[i].sl.set j y⟩:=by rw[aF,i4 (List.getElem?_eq_getElem hi)]
 have h1:=sV (kd:=kd) (pl:=pl) (t:=⟨sp[i].lv,sp[i].ar,sp[i].sl.set j y⟩) hi;have h2:=zW (kd:=kd) (pl:=pl) (y:=y) hj;rw[e];simp only at h1;omega
theorem yY{kd pl a:Int}:∀{l:List Slot},eR kd pl (l.map fun x=>if x.kd=1∧x.pl=a then dp x else x)=eR kd pl l:=by
 intro l;rw[eR,eR,List.countP_map];refine List.countP_congr fun x _=>?_
 simp only[Function.comp];split<;>rfl
theorem tY{kd pl a:Int}:∀{sp:List Space},cnt kd pl (aZ 1 a dp sp)=cnt kd pl sp:=by
 intro sp;induction sp with
 |nil=>rfl
 |cons s l ih=>simp only[aZ,List.map_cons,cnt]at ih ⊢;rw[ih,yY]
theorem yO{k0 p0 k1 p1:Int}(hne:¬(k0=k1∧p0=p1)){kd pl:Int}:∀{l:List Slot},eR kd pl (l.map fun x=>if x.kd=k0∧x.pl=p0 then bU k1 p1 x else x)=if kd=k1∧pl=p1 then eR k1 p1 l+eR k0 p0 l else if kd=k0∧pl=p0 then 0 else eR kd pl l:=by
 intro l;induction l with
 |nil=>simp[eR]
 |cons x l ih=>
  simp only[eR,List.map_cons,List.countP_cons]at ih ⊢;rw[ih];simp only[hit,decide_eq_true_eq];have s1:(k1=kd∧p1=pl)↔(kd=k1∧pl=p1):=⟨fun h=>⟨h.1.symm,h.2.symm⟩,fun h=>⟨h.1.symm,h.2.symm⟩⟩;by_cases c0:x.kd=k0∧x.pl=p0
  ·rw[if_pos c0];simp only[bU,s1];obtain⟨rfl,rfl⟩:=c0;have s2:(x.kd=kd∧x.pl=pl)↔(kd=x.kd∧pl=x.pl):=⟨fun h=>⟨h.1.symm,h.2.symm⟩,fun h=>⟨h.1.symm,h.2.symm⟩⟩;simp only[s2,hne,if_false,and_self,if_true];by_cases c1:kd=k1∧pl=p1
   ·simp only[c1,and_self,if_true];omega
   ·simp only[c1,if_false];by_cases c2:kd=x.kd∧pl=x.pl
    ·simp only[c2,and_self,if_true]
    ·simp only[c2,if_false]
  ·rw[if_neg c0];by_cases c1:kd=k1∧pl=p1
   ·simp only[c1,and_self,if_true,c0,if_false];omega
   ·simp only[c1,if_false];by_cases c2:kd=k0∧pl=p0
    ·simp only[c2,and_self,if_true,c0,if_false]
    ·simp only[c2,if_false]
theorem mL{k0 p0 k1 p1:Int}(hne:¬(k0=k1∧p0=p1)){kd pl:Int}:∀{sp:List Space},cnt kd pl (aZ k0 p0 (bU k1 p1) sp)=if kd=k1∧pl=p1 then cnt k1 p1 sp+cnt k0 p0 sp else if kd=k0∧pl=p0 then 0 else cnt kd pl sp:=by
 intro sp;induction sp with
 |nil=>simp[cnt,aZ]
 |cons s l ih=>
  simp only[aZ,List.map_cons,cnt]at ih ⊢;rw[ih,yO hne];split
  ·omega
  ·split<;>omega
theorem sG{kd pl:Int}{x:Slot}{s:Space}:∀{sp:List Space},s∈sp→x∈s.sl→x.kd=kd→x.pl=pl→0<cnt kd pl sp:=by
 intro sp;induction sp with
 |nil=>intro h;simp at h
 |cons s' l ih=>
  intro h hx h1 h2;simp only[cnt];rcases List.mem_cons.1 h with rfl|h
  ·have:0<eR kd pl s.sl:=List.countP_pos_iff.2 ⟨x,hx,by simp[hit,h1,h2]⟩;omega
  ·have:=ih h hx h1 h2;omega
theorem aA8{kd pl:Int}{b:Nat}:∀{sp:List Space},(∀s,s∈sp→s.sl.length≤b)→cnt kd pl sp≤b*sp.length:=by
 intro sp;induction sp with
 |nil=>intro _;simp[cnt]
 |cons s l ih=>
  intro h;have h1:=ih fun t ht=>h t (List.mem_cons_of_mem _ ht)
  have h2:=h s (List.mem_cons_self ..);have h3:eR kd pl s.sl≤s.sl.length:=List.countP_le_length;simp only[cnt,List.length_cons,Nat.mul_add,Nat.mul_one];omega
structure Pl(p:Pages)(f:Nat→Nat):Prop where
 tx:p.tx.length=12
 rf:p.rf.length=12
 ct:∀k,k<12→p.rf[k]?.getD 0=(f k:Int)
 t4:∀k,k<12→f k≠0→(p.tx[k]?.getD []).length=4
theorem Pl.cg{p:Pages}{f g:Nat→Nat}(h:Pl p f)(e:∀k,k<12→g k=f k):Pl p g:=⟨h.tx,h.rf,fun k hk=>by rw[e k hk];exact h.ct k hk,fun k hk hg=>h.t4 k hk (by rw[←e k hk];exact hg)⟩
theorem Pl.take{p:Pages}{f g:Nat→Nat}(h:Pl p f){k:Nat}{t:Str}{n:Int}(hk:k<12)(e:∀j,j<12→j≠k→g j=f j)(hn:n=(g k:Int))(ht:g k≠0→t.length=4):Pl (aY p k t n) g:=by
 have hr:k<p.rf.length:=by rw[h.rf];exact hk
 have hx:k<p.tx.length:=by rw[h.tx];exact hk
 refine⟨by simp[aY,h.tx],by simp[aY,h.rf],fun j hj=>?_,fun j hj hg=>?_⟩
 ·by_cases c:j=k
  ·subst c;simp[aY,hr,hn]
  ·simp only[aY];rw[List.getElem?_set_ne (fun h=>c h.symm),e j hj c];exact h.ct j hj
 ·by_cases c:j=k
  ·subst c;simp[aY,hx,ht hg]
  ·simp only[aY];rw[List.getElem?_set_ne (fun h=>c h.symm)];exact h.t4 j hj (by rw[←e j hj c];exact hg)
theorem Pl.fX{p:Pages}{f g:Nat→Nat}(h:Pl p f){k:Nat}(hk:k<12)(e:∀j,j<12→j≠k→g j=f j)(hn:g k+1=f k):Pl (cI p k) g:=by
 have hr:k<p.rf.length:=by rw[h.rf];exact hk
 have hx:k<p.tx.length:=by rw[h.tx];exact hk
 have hc:=h.ct k hk;refine⟨by simp only[cI];split<;>simp[h.tx],by simp[cI,h.rf],fun j hj=>?_,fun j hj hg=>?_⟩
 ·by_cases c:j=k
  ·subst c;simp only[cI,List.getElem?_set_self hr,Option.getD_some];omega
  ·simp only[cI];rw[List.getElem?_set_ne (fun h=>c h.symm),e j hj c];exact h.ct j hj
 ·by_cases c:j=k
  ·subst c;simp only[cI];rw[if_neg (by omega)];exact h.t4 j hj (by omega)
  ·have:=h.t4 j hj (by rw[←e j hj c];exact hg);simp only[cI];split
   ·rw[List.getElem?_set_ne (fun h=>c h.symm)];exact this
   ·exact this
structure SpI(s:Space):Prop where
 lv:s.lv=true→ay s.ar=true∧s.sl.length=16
 dd:s.lv=false→s.ar=[]∧s.sl=[]
 sl:∀x,x∈s.sl→x.kd=0∨(x.kd=1∨x.kd=2)∧∃k:Nat,x.pl=k∧k<12
structure Inv(m:Mem):Prop where
 ram:Pl m.ram fun k=>cnt 1 k m.sp
 swp:Pl m.swp fun k=>cnt 2 k m.sp
 sp:m.sp.length=5
 hd:0≤m.hd∧m.hd≤11
 ss:∀s,s∈m.sp→SpI s
theorem SpI.l16{s:Space}(h:SpI s):s.sl.length≤16:=by
 cases e:s.lv with
 |true=>rw[(h.lv e).2];omega
 |false=>rw[(h.dd e).2];simp
theorem Pl.pgW{p:Pages}{f:Nat→Nat}(h:Pl p f)(hf:∀k,f k≤1000):PgW p:=by refine⟨h.tx,h.rf,fun x hx=>?_⟩;obtain⟨k,hk,rfl⟩:=List.getElem_of_mem hx;have:=h.ct k (by rw[←h.rf];exact hk);simp only[List.getElem?_eq_getElem hk,Option.getD_some]at this;have:=hf k;omega
theorem Inv.wf{m:Mem}(h:Inv m):Wf m:=by
 have hb:∀kd pl,cnt kd pl m.sp≤1000:=fun kd pl=>by
  have:=aA8 (kd:=kd) (pl:=pl) (sp:=m.sp) (b:=16) fun s hs=>(h.ss s hs).l16
  rw[h.sp]at this;omega
 have tell:∀{p:Pages}{kd:Int},Pl p (fun k=>cnt kd k m.sp)→∀s,s∈m.sp→∀x,x∈s.sl→kd≠0→x.kd=kd→dn p x:=fun{p kd} hp s hs x hx h0 hk=>by
  rcases(h.ss s hs).sl x hx with c| ⟨-,k,e,hk12⟩
  ·exact absurd (hk.symm.trans c) h0
  ·have hc:=sG hs hx hk e;have:=hp.ct k hk12;exact⟨k,e,hk12,by omega,hp.t4 k hk12 (by omega)⟩
 exact⟨h.ram.pgW fun k=>hb _ _,h.swp.pgW fun k=>hb _ _,h.sp,h.hd,fun s hs=>(h.ss s hs).l16,fun s hs x hx hk=>tell h.ram s hs x hx (by decide) hk,fun s hs x hx hk=>tell h.swp s hs x hx (by decide) hk,fun s hs x hx=>((h.ss s hs).sl x hx).imp (fun h=>h) fun h=>h.1⟩
theorem Inv.hand{m:Mem}(h:Inv m):Inv (dD m):=⟨h.ram,h.swp,h.sp,by have:=h.hd;simp only[dD];omega,h.ss⟩
theorem SpI.map{m:Mem}(h:∀s,s∈m.sp→SpI s){kd pl:Int}{f:Slot→Slot}(hf:∀x:Slot,x.kd=kd→x.pl=pl→(x.kd=0∨(x.kd=1∨x.kd=2)∧∃k:Nat,x.pl=k∧k<12)→(f x).kd=0∨((f x).kd=1∨(f x).kd=2)∧∃k:Nat,(f x).pl=k∧k<12):∀s,s∈aZ kd pl f m.sp→SpI s:=by
 intro s' hs';simp only[aZ,List.mem_map]at hs';obtain⟨s,hs,rfl⟩:=hs';have i:=h s hs;refine⟨fun e=>⟨(i.lv e).1,by simpa using(i.lv e).2⟩,fun e=>⟨(i.dd e).1,by simp[(i.dd e).2]⟩,fun x' hx'=>?_⟩;simp only[List.mem_map]at hx';obtain⟨x,hx,rfl⟩:=hx';split
 ·rename_i c;exact hf x c.1 c.2 (i.sl x hx)
 ·exact i.sl x hx
theorem Inv.calm{m:Mem}(h:Inv m)(pl:Int):Inv (dS m pl):=⟨h.ram.cg fun k _=>tY,h.swp.cg fun k _=>tY,by simp[dS,aZ,h.sp],h.hd,SpI.map h.ss fun x _ _ c=>c⟩
theorem Inv.wi{m:Mem}(h:Inv m){a:Nat}(ha:a<12)(hf:aJ m.swp.rf<12):Inv (dk m a):=by
 have hz:=eV (l:=m.swp.rf) (by rw[h.swp.rf];exact hf);have hc:=h.swp.ct _ hf;have hne:¬((1:Int)=2∧(a:Int)=(aJ m.swp.rf:Int)):=by omega
 have hr:=h.ram.ct a ha;have hE:∀p,aJ m.swp.rf=p→dk m a=⟨aY m.ram a [] 0,aY m.swp p (m.ram.tx[a]?.getD []) (m.ram.rf[a]?.getD 0),aZ 1 a (bU 2 p) m.sp,m.hd⟩:=fun p hp=>by rw[dk,hp]
 rw[hE _ rfl];clear hE;generalize aJ m.swp.rf=p at*;have e1:∀k:Nat,cnt 1 k (aZ 1 a (bU 2 p) m.sp)=if k=a then 0 else cnt 1 k m.sp:=fun k=>by
  rw[mL hne,if_neg (by omega)];by_cases c:k=a
  ·rw[if_pos ⟨rfl,by omega⟩,if_pos c]
  ·rw[if_neg (by omega),if_neg c]
 have e2:∀k:Nat,cnt 2 k (aZ 1 a (bU 2 p) m.sp)=if k=p then cnt 1 a m.sp else cnt 2 k m.sp:=fun k=>by
  rw[mL hne];by_cases c:k=p
  ·rw[if_pos ⟨rfl,by omega⟩,if_pos c];omega
  ·rw[if_neg (by omega),if_neg (by omega),if_neg c]
 refine⟨h.ram.take ha (fun j _ hj=>by simp only[e1,if_neg hj]) (by simp[e1]) (fun c=>absurd (by simp[e1]) c),h.swp.take hf (fun j _ hj=>by simp only[e2,if_neg hj]) (by simp[e2,hr]) (fun c=>?_),by simp[aZ,h.sp],h.hd,SpI.map h.ss fun x _ _ _=>.inr ⟨.inr rfl,p,rfl,hf⟩⟩;simp only[e2,if_true]at c;exact h.ram.t4 a ha c
theorem Inv.xh{m m':Mem}{but:Int}(h:Inv m)(hc:clk m but= .inl m'):Inv m':=by
 unfold clk at hc;split at hc
 ·simp only[Sum.inl.injEq]at hc;subst hc;exact h.hand
 ·split at hc
  ·simp only[Sum.inl.injEq]at hc;subst hc;exact h.hand.calm _
  ·simp at hc
theorem Inv.aD4{m m':Mem}{but:Int}(h:Inv m)(hf:aJ m.swp.rf<12)(hc:clk m but= .inr m'):Inv m':=by
 unfold clk at hc;split at hc
 ·simp at hc
 ·split at hc
  ·simp at hc
  ·simp only[Sum.inr.injEq]at hc;subst hc;exact(h.hand.calm _).wi (by have:=h.hd;omega) hf
theorem Inv.dY{but:Int}:∀{m:Mem},Inv m→aJ m.swp.rf<12→Inv (dY m but):=by
 have main:∀(k:Nat)(m:Mem),mu m but=k→Inv m→aJ m.swp.rf<12→Inv (Go.Qm.dY m but):=by
  intro k;induction k using Nat.strongRecOn with
  |_ k ih=>
   intro m hk h hf;cases hc:clk m but with
   |inl m'=>obtain⟨-, -,h3⟩:=h.wf.xh hc;rw[gf hc];exact ih _ (hk▸i6 hc) m' rfl (h.xh hc) (by rw[h3];exact hf)
   |inr m'=>rw[jP hc];exact h.aD4 hf hc
 exact fun{m}=>main _ m rfl
theorem Inv.bF{m m':Mem}{but:Int}(h:Inv m)(hr:bF m but=some m'):Inv m':=by
 unfold Go.Qm.bF at hr;split at hr
 ·cases hr;exact h
 ·split at hr
  ·rename_i c;cases hr;exact h.dY (by rw[h.swp.rf]at c;exact c)
  ·simp at hr
def slI(x:Slot):Prop:=x.kd=0∨(x.kd=1∨x.kd=2)∧∃k:Nat,x.pl=k∧k<12
theorem SpI.set{sp:List Space}(h:∀s,s∈sp→SpI s){i j:Nat}{y:Slot}(hy:slI y):∀s,s∈aF sp i j y→SpI s:=by
 intro s' hs';rw[aF]at hs';obtain⟨k,hk,rfl⟩:=List.getElem_of_mem hs';rw[List.length_modify]at hk;have i1:=h _ (List.getElem_mem hk);rw[List.getElem_modify];split
 ·refine⟨fun e=>⟨(i1.lv e).1,by simpa using(i1.lv e).2⟩,fun e=>⟨(i1.dd e).1,by simp[(i1.dd e).2]⟩,fun x hx=>?_⟩;rcases List.mem_or_eq_of_mem_set hx with hx|rfl
  ·exact i1.sl x hx
  ·exact hy
 ·exact i1
theorem pT{kd pl:Int}{y:Slot}{sp:List Space}{i j:Nat}(hi:i<sp.length)(hj:j<sp[i].sl.length)(h1:y.kd=sp[i].sl[j].kd)(h2:y.pl=sp[i].sl[j].pl):cnt kd pl (aF sp i j y)=cnt kd pl sp:=by
 have:=mW (kd:=kd) (pl:=pl) (y:=y) hi hj;have e:hit kd pl y=hit kd pl sp[i].sl[j]:=by simp[hit,h1,h2]
 rw[e]at this;omega
theorem Inv.same{m:Mem}(h:Inv m){i j:Nat}{y:Slot}(hi:i<m.sp.length)(hj:j<m.sp[i].sl.length)(h1:y.kd=m.sp[i].sl[j].kd)(h2:y.pl=m.sp[i].sl[j].pl):Inv {m with sp:=aF m.sp i j y}:=by refine⟨h.ram.cg fun k _=>pT hi hj h1 h2,h.swp.cg fun k _=>pT hi hj h1 h2,by simp[aF,h.sp],h.hd,SpI.set h.ss ?_⟩;have:=(h.ss _ (List.getElem_mem hi)).sl _ (List.getElem_mem hj);rw[slI,h1,h2];exact this
theorem Inv.jk{m m':Mem}(h:Inv m){i j:Nat}(hi:i<m.sp.length)(hj:j<m.sp[i].sl.length)(hr:bE m i j=some m'):Inv m':=by
 have ex:=bV hi hj;unfold bE at hr;split at hr
 ·rename_i c;cases hr;exact h.same hi hj (by rw[ex]) (by rw[ex])
 ·rename_i c;simp only[Option.map_eq_some_iff]at hr;obtain⟨m1,hm,hr⟩:=hr;have w:=h.bF hm;obtain⟨-,hf⟩:=h.wf.bF hm;have ha:=bq h.wf hm;have hi1:i<m1.sp.length:=by rw[ha.1];exact hi
  have hj1:j<m1.sp[i].sl.length:=by rw[(ha.2 i hi hi1).2.2.1];exact hj
  have ex1:=bV hi1 hj1;have hz:=eV (l:=m1.ram.rf) (by rw[w.ram.rf];exact hf);have hc:=w.ram.ct _ hf;have hc0:cnt 1 (aJ m1.ram.rf) m1.sp=0:=by rw[hz]at hc;omega
  split at hr
  ·rename_i c0;subst hr;generalize aJ m1.ram.rf=p at*;have z0:(aK m1 i j).kd=0:=(aAe hm).2 c0;rw[ex1]at z0;have key:=fun kd pl=>mW (kd:=kd) (pl:=pl) (y:=⟨1,p,true,true⟩) hi1 hj1
   have ho:∀kd pl:Int,kd≠0→one (hit kd pl m1.sp[i].sl[j])=0:=fun kd pl hk=>by simp[one,hit,z0,hk.symm]
   refine⟨w.ram.take hf (fun k _ hk=>?_) ?_ (fun _=>rfl),w.swp.cg fun k _=>?_,by simp[aF,w.sp],w.hd,SpI.set w.ss (.inr ⟨.inl rfl,p,rfl,hf⟩)⟩
   ·have:=key 1 k;rw[ho 1 k (by decide),show one (hit 1 k ⟨1,p,true,true⟩)=0 by simp[one,hit];omega]at this;exact this
   ·have:=key 1 p;rw[ho 1 p (by decide),show one (hit 1 p ⟨1,p,true,true⟩)=1 by simp[one,hit]]at this;show(1:Int)=(cnt 1 p (aF m1.sp i j ⟨1,p,true,true⟩):Int);omega
   ·have:=key 2 k;rw[ho 2 k (by decide),show one (hit 2 k ⟨1,p,true,true⟩)=0 by simp[one,hit]]at this;exact this
  ·rename_i c0;have hk2:(aK m i j).kd=2:=by have:=h.wf.kd _ (List.getElem_mem hi) _ (List.getElem_mem hj);rw[←ex]at this;omega
   obtain⟨f,e1,e2,e3,e4⟩:=w.wf.we ha hi hj hk2;obtain⟨_,_,es, -⟩:=eU ha hi hj (.inl (by omega));have hcf:=w.swp.ct f e2;rw[e1,Int.toNat_natCast]at hr;subst hr;generalize aJ m1.ram.rf=p at*;have hne:¬((2:Int)=1∧(f:Int)=(p:Int)):=by omega
   have k1:∀k:Nat,cnt 1 k (aZ 2 f (bU 1 p) m1.sp)=if k=p then cnt 2 f m1.sp else cnt 1 k m1.sp:=fun k=>by
    rw[mL hne];by_cases c:k=p
    ·rw[if_pos ⟨rfl,by omega⟩,if_pos c];omega
    ·rw[if_neg (by omega),if_neg (by omega),if_neg c]
   have k2:∀k:Nat,cnt 2 k (aZ 2 f (bU 1 p) m1.sp)=if k=f then 0 else cnt 2 k m1.sp:=fun k=>by
    rw[mL hne,if_neg (by omega)];by_cases c:k=f
    ·rw[if_pos ⟨rfl,by omega⟩,if_pos c]
    ·rw[if_neg (by omega),if_neg c]
   have w2:Inv ⟨aY m1.ram p (m1.swp.tx[f]?.getD []) (m1.swp.rf[f]?.getD 0),aY m1.swp f [] 0,aZ 2 f (bU 1 p) m1.sp,m1.hd⟩:=⟨w.ram.take hf (fun k _ hk=>by simp only[k1,if_neg hk]) (by simp[k1,hcf]) (fun _=>e4),w.swp.take e2 (fun k _ hk=>by simp only[k2,if_neg hk]) (by simp[k2]) (fun c=>absurd (by simp[k2]) c),by simp[aZ,w.sp],w.hd,SpI.map w.ss fun x _ _ _=>.inr ⟨.inl rfl,p,rfl,hf⟩⟩;have hi2:i< (aZ 2 f (bU 1 p) m1.sp).length:=by simp[aZ];exact hi1
   have hj2:j< (aZ 2 f (bU 1 p) m1.sp)[i].sl.length:=by simp[aZ];exact hj1
   have hs2:(aZ 2 f (bU 1 p) m1.sp)[i].sl[j]=bU 1 p (aK m i j):=by simp only[aZ,List.getElem_map,es,hk2,e1,and_self,if_true]
   exact w2.same (y:=⟨1,p,(aK m i j).ow,true⟩) hi2 hj2 (by rw[hs2];rfl) (by rw[hs2];rfl)
theorem iX{kd pl:Int}{x:Slot}(h:x.kd≠kd∨x.pl≠pl):one (hit kd pl x)=0:=by
 have:hit kd pl x=false:=by simp only[hit,decide_eq_false_iff_not];rintro⟨a,b⟩;exact h.elim (fun h=>h a) fun h=>h b
 rw[this];rfl
theorem tU{kd pl:Int}{x:Slot}(h1:x.kd=kd)(h2:x.pl=pl):one (hit kd pl x)=1:=by simp[one,hit,h1,h2]
theorem Inv.aE5{m:Mem}(h:Inv m){i j:Nat}(hi:i<m.sp.length)(hj:j<m.sp[i].sl.length):Inv (ik m i j):=by
 have e:(m.sp[i]?.bind fun s=>s.sl[j]?)=some m.sp[i].sl[j]:=by simp[hi,hj]
 have key:=fun kd pl=>mW (kd:=kd) (pl:=pl) (y:=dQ) hi hj
 have hx:=(h.ss _ (List.getElem_mem hi)).sl _ (List.getElem_mem hj);simp only[ik,e];generalize m.sp[i].sl[j]=x at*;have z:∀kd pl:Int,kd≠0→one (hit kd pl dQ)=0:=fun kd pl hk=>iX (.inl fun e=>hk e.symm)
 have hs:∀s,s∈aF m.sp i j dQ→SpI s:=SpI.set h.ss (.inl rfl);rcases hx with c| ⟨c|c,k,e1,e2⟩
 ·rw[if_neg (by omega),if_neg (by omega)];refine⟨h.ram.cg fun k _=>?_,h.swp.cg fun k _=>?_,by simp[aF,h.sp],h.hd,hs⟩
  ·have:=key 1 k;rw[z 1 k (by decide),iX (.inl (by omega))]at this;exact this
  ·have:=key 2 k;rw[z 2 k (by decide),iX (.inl (by omega))]at this;exact this
 ·rw[if_pos c,if_neg (by omega),e1,Int.toNat_natCast];refine⟨h.ram.fX e2 (fun q _ hq=>?_) ?_,h.swp.cg fun q _=>?_,by simp[aF,h.sp],h.hd,hs⟩
  ·have:=key 1 q;rw[z 1 q (by decide),iX (.inr (by omega))]at this;exact this
  ·have:=key 1 k;rw[z 1 k (by decide),tU c e1]at this;exact this
  ·have:=key 2 q;rw[z 2 q (by decide),iX (.inl (by omega))]at this;exact this
 ·rw[if_neg (by omega),if_pos c,e1,Int.toNat_natCast];refine⟨h.ram.cg fun q _=>?_,h.swp.fX e2 (fun q _ hq=>?_) ?_,by simp[aF,h.sp],h.hd,hs⟩
  ·have:=key 1 q;rw[z 1 q (by decide),iX (.inl (by omega))]at this;exact this
  ·have:=key 2 q;rw[z 2 q (by decide),iX (.inr (by omega))]at this;exact this
  ·have:=key 2 k;rw[z 2 k (by decide),tU c e1]at this;exact this
theorem aAk{kd pl:Int}{f:Space→Space}(hf:∀s,(f s).sl=s.sl):∀{sp:List Space}{i:Nat},cnt kd pl (sp.modify i f)=cnt kd pl sp:=by
 intro sp;induction sp with
 |nil=>intro i;simp
 |cons s l ih=>
  intro i;cases i with
  |zero=>simp[cnt,hf]
  |succ i=>simp[cnt,ih]
theorem Inv.c9{m:Mem}(h:Inv m){i:Nat}{l:List Area}(hi:i<m.sp.length)(hlv:m.sp[i].lv=true)(hl:ay l=true):Inv (c9 m i l):=by
 refine⟨h.ram.cg fun k _=>aAk (f:=fun s=>{s with ar:=l}) fun _=>rfl,h.swp.cg fun k _=>aAk (f:=fun s=>{s with ar:=l}) fun _=>rfl,by simp[Go.Qm.c9,h.sp],h.hd,fun s' hs'=>?_⟩;simp only[Go.Qm.c9]at hs';obtain⟨k,hk,rfl⟩:=List.getElem_of_mem hs';rw[List.length_modify]at hk;have i1:=h.ss _ (List.getElem_mem hk);rw[List.getElem_modify];split
 ·rename_i e;subst e;exact⟨fun e=>⟨hl,(i1.lv e).2⟩,fun e=>by simp only at e;rw[hlv]at e;simp at e,i1.sl⟩
 ·exact i1
theorem Inv.ls{m:Mem}(h:Inv m){i:Nat}(hi:i<m.sp.length)(hlv:m.sp[i].lv=true)(fr:Nat):LsOk m i fr 0:=by
 have w:=h.wf;have pg:∀{p:Pages}{f:Nat→Nat},Pl p f→(∀k,f k≤80)→PgOk p 0:=fun{p f} hp hf=>by refine⟨hp.tx,hp.rf,fun x hx=>?_⟩;obtain⟨k,hk,rfl⟩:=List.getElem_of_mem hx;have:=hp.ct k (by rw[←hp.rf];exact hk);simp only[List.getElem?_eq_getElem hk,Option.getD_some]at this;have:=hf k;omega
 have hb:∀kd pl,cnt kd pl m.sp≤80:=fun kd pl=>by
  have:=aA8 (kd:=kd) (pl:=pl) (sp:=m.sp) (b:=16) fun s hs=>(h.ss s hs).l16
  rw[h.sp]at this;exact this
 refine⟨pg h.ram fun k=>hb _ _,pg h.swp fun k=>hb _ _,hi,((h.ss _ (List.getElem_mem hi)).lv hlv).2,fun j hj _=>?_⟩;rcases(h.ss _ (List.getElem_mem hi)).sl _ (List.getElem_mem hj)with c| ⟨-,k,e,hk⟩
 ·simp[gU,c]
 ·simp only[gU,inB,Bool.or_eq_true,Bool.and_eq_true,decide_eq_true_eq];right;omega
theorem aCk{m:Mem}{i j:Nat}:cJ m.sp (ik m i j).sp:=by
 unfold ik;split
 ·exact cJ.refl
 ·exact eW
theorem Inv.cm{m:Mem}(h:Inv m){i fr:Nat}(hi:i<m.sp.length)(hlv:m.sp[i].lv=true):∀{t:Nat},fr+t≤16→Inv (cm m i fr t)∧cJ m.sp (cm m i fr t).sp:=by
 intro t;induction t with
 |zero=>intro _;exact⟨h,cJ.refl⟩
 |succ t ih=>
  intro ht;obtain⟨h1,s1⟩:=ih (by omega);have hi1:i< (Go.Qm.cm m i fr t).sp.length:=by rw[s1.1];exact hi
  have hl:=(s1.2 i hi hi1).2.2;have h16:=((h.ss _ (List.getElem_mem hi)).lv hlv).2;exact⟨h1.aE5 hi1 (by omega),s1.trans aCk⟩
theorem Inv.put{m:Mem}(h:Inv m){i:Nat}{t:Space}(hi:i<m.sp.length)(ht:SpI t)(h0:∀kd pl:Int,kd≠0→eR kd pl t.sl=eR kd pl m.sp[i].sl):Inv {m with sp:=m.sp.set i t}:=by
 have key:∀kd pl:Int,kd≠0→cnt kd pl (m.sp.set i t)=cnt kd pl m.sp:=fun kd pl hk=>by have:=sV (kd:=kd) (pl:=pl) (t:=t) hi;rw[h0 kd pl hk]at this;omega
 refine⟨h.ram.cg fun k _=>key 1 k (by decide),h.swp.cg fun k _=>key 2 k (by decide),by simp[h.sp],h.hd,fun s hs=>?_⟩;rcases List.mem_or_eq_of_mem_set hs with hs|rfl
 ·exact h.ss s hs
 ·exact ht
theorem rD{kd pl:Int}(hk:kd≠0){l:List Slot}(h:∀x,x∈l→x.kd=0):eR kd pl l=0:=by rw[eR,List.countP_eq_zero];intro x hx;simp only[hit,decide_eq_true_eq];rintro⟨a, -⟩;exact hk (a.symm.trans (h x hx))
theorem Pl.inc{p:Pages}{f g:Nat→Nat}(h:Pl p f){k:Nat}(hk:k<12)(e:∀j,j<12→j≠k→g j=f j)(hn:g k=f k+1)(h0:f k≠0):Pl ⟨p.tx,p.rf.set k (p.rf[k]?.getD 0+1)⟩ g:=by
 have hr:k<p.rf.length:=by rw[h.rf];exact hk
 have hc:=h.ct k hk;refine⟨h.tx,by simp[h.rf],fun j hj=>?_,fun j hj hg=>?_⟩
 ·by_cases c:j=k
  ·subst c;simp only[List.getElem?_set_self hr,Option.getD_some];omega
  ·simp only;rw[List.getElem?_set_ne (fun h=>c h.symm),e j hj c];exact h.ct j hj
 ·by_cases c:j=k
  ·subst c;exact h.t4 j hj h0
  ·exact h.t4 j hj (by rw[←e j hj c];exact hg)
structure FI(m:Mem)(i j:Nat):Prop where
 ram:Pl m.ram fun k=>cnt 1 k m.sp+eR 1 k ((iM m i).take j)
 swp:Pl m.swp fun k=>cnt 2 k m.sp+eR 2 k ((iM m i).take j)
 sp:m.sp.length=5
 hd:0≤m.hd∧m.hd≤11
 ss:∀s,s∈m.sp→SpI s
theorem Inv.fi{m:Mem}(h:Inv m)(i:Nat):FI m i 0:=⟨h.ram.cg fun k _=>by simp[eR],h.swp.cg fun k _=>by simp[eR],h.sp,h.hd,h.ss⟩
theorem FI.step{m:Mem}{i j:Nat}(h:FI m i j)(hi:i<m.sp.length)(hj:j<m.sp[i].sl.length):FI (pX m i j) i (j+1):=by
 have ex:=bV hi hj;have hx:=(h.ss _ (List.getElem_mem hi)).sl _ (List.getElem_mem hj);obtain⟨y,hy⟩:∃y,(if shP m i j then aK m i j else{aK m i j with ow:=false})=y:=⟨_,rfl⟩;have y1:y.kd=m.sp[i].sl[j].kd:=by rw[←hy,←ex];split<;>rfl
 have y2:y.pl=m.sp[i].sl[j].pl:=by rw[←hy,←ex];split<;>rfl
 have pos:∀kd pl:Int,m.sp[i].sl[j].kd=kd→m.sp[i].sl[j].pl=pl→0<cnt kd pl m.sp:=fun kd pl=>sG (List.getElem_mem hi) (List.getElem_mem hj)
 have hsame:∀kd pl,cnt kd pl (aF m.sp i j y)=cnt kd pl m.sp:=fun kd pl=>pT hi hj y1 y2
 have htk:∀kd pl,eR kd pl (((iM m i).set j y).take (j+1))=eR kd pl ((iM m i).take j)+one (hit kd pl y):=fun kd pl=>by
  have hl:j< ((iM m i).set j y).length:=by rw[List.length_set,wv hi];exact hj
  rw[List.take_succ_eq_append_getElem hl,List.take_set_of_le (Nat.le_refl j),List.getElem_set_self];simp only[eR,List.countP_append,List.countP_cons,List.countP_nil,one];omega
 have hss:∀s,s∈aF m.sp i j y→SpI s:=SpI.set h.ss (by rw[slI,y1,y2];exact hx);have hF:pX m i j=⟨gF (y.kd=1) m.ram y.pl.toNat,gF (y.kd=2) m.swp y.pl.toNat,aF m.sp i j y,m.hd⟩:=by unfold pX;rw[hy];simp only[ex,y1,y2]
 rw[hF];have hso:∀{r s:Pages},iM ⟨r,s,aF m.sp i j y,m.hd⟩ i=(iM m i).set j y:=aAR;rw[←y1,←y2]at hx;have nxt:∀{p:Pages}{kd:Int},Pl p (fun k=>cnt kd k m.sp+eR kd k ((iM m i).take j))→kd≠0→Pl (gF (y.kd=kd) p y.pl.toNat) fun k=>cnt kd k (aF m.sp i j y)+eR kd k (((iM m i).set j y).take (j+1)):=fun{p kd} hp h0=>by
  by_cases c:y.kd=kd
  ·rcases hx with c0| ⟨-,f,e1,e2⟩
   ·exact absurd (c.symm.trans c0) h0
   rw[gF,if_pos c,e1,Int.toNat_natCast];refine hp.inc e2 (fun q _ hq=>?_) ?_ ?_
   ·rw[hsame,htk,iX (.inr (by omega))];omega
   ·rw[hsame,htk,tU c e1];omega
   ·have:=pos kd f (by rw[←y1];exact c) (by rw[←y2];exact e1);omega
  ·rw[jH c];exact hp.cg fun k _=>by rw[hsame,htk,iX (.inl c)];omega
 exact⟨by simp only[hso];exact nxt h.ram (by decide),by simp only[hso];exact nxt h.swp (by decide),by simp[aF,h.sp],h.hd,hss⟩
theorem FI.steps{m:Mem}{i:Nat}(h:Inv m)(hi:i<m.sp.length):∀{j:Nat},j≤m.sp[i].sl.length→FI (jn m i j) i j∧cJ m.sp (jn m i j).sp:=by
 intro j;induction j with
 |zero=>intro _;exact⟨h.fi i,cJ.refl⟩
 |succ j ih=>
  intro hj;obtain⟨h1,s1⟩:=ih (by omega);have hi1:i< (jn m i j).sp.length:=by rw[s1.1];exact hi
  have hl:=(s1.2 i hi hi1).2.2;exact⟨h1.step hi1 (by omega),s1.trans eW⟩
theorem Inv.cL{m:Mem}(h:Inv m){i:Nat}(hi:i<m.sp.length):∀{j:Nat},j≤m.sp[i].sl.length→Inv (cL m i j).1∧cJ m.sp (cL m i j).1.sp:=by
 intro j;induction j with
 |zero=>intro _;exact⟨h,cJ.refl⟩
 |succ j ih=>
  intro hj;obtain⟨h1,s1⟩:=ih (by omega);have hi1:i< (Go.Qm.cL m i j).1.sp.length:=by rw[s1.1];exact hi
  have hl:=(s1.2 i hi hi1).2.2;simp only[Go.Qm.cL];split
  ·split
   ·rename_i m2 hm2;exact⟨h1.jk hi1 (by omega) hm2,s1.trans (dt h1.wf hm2)⟩
   ·exact⟨h1,s1⟩
  ·exact⟨h1,s1⟩
theorem Inv.lQ{m:Mem}(h:Inv m){i:Nat}(hi:i<m.sp.length)(hlv:m.sp[i].lv=true):0≤(lQ m i).2→Inv (lQ m i).1:=by
 have h16:=((h.ss _ (List.getElem_mem hi)).lv hlv).2;unfold Go.Qm.lQ;split
 ·rename_i c;split
  ·intro _;obtain⟨h1,s1⟩:=h.cL hi (j:=16) (by omega);generalize (Go.Qm.cL m i 16).1=m1 at h1 s1;have hi1:i<m1.sp.length:=by rw[s1.1];exact hi
   obtain⟨-, -,l1⟩:=s1.2 i hi hi1;obtain⟨h2,s2⟩:=FI.steps h1 hi1 (j:=16) (by omega);have hi2:i< (jn m1 i 16).sp.length:=by rw[s2.1];exact hi1
   have s3:=s1.trans s2;generalize jn m1 i 16=m2 at h2 s2 s3 hi2;have hz:bz m.sp<m2.sp.length:=by rw[s3.1];exact c
   obtain⟨v1, -,v3⟩:=s3.2 _ c hz;rw[kq c]at v1;generalize bz m.sp=Z at c hz v1 v3 ⊢;obtain⟨u1,u2,u3⟩:=s3.2 i hi hi2;have hd:=(h2.ss _ (List.getElem_mem hz)).dd v1;have hiS:=h2.ss _ (List.getElem_mem hi2);have hsl:iM m2 i=m2.sp[i].sl:=wv hi2;have har:arF m2 i=m2.sp[i].ar:=by simp[arF,hi2]
   have htk:(iM m2 i).take 16=m2.sp[i].sl:=by rw[hsl];exact List.take_of_length_le (by omega)
   have key:∀kd pl,cnt kd pl (m2.sp.set Z ⟨true,arF m2 i,iM m2 i⟩)=cnt kd pl m2.sp+eR kd pl ((iM m2 i).take 16):=fun kd pl=>by have:=sV (kd:=kd) (pl:=pl) (t:=⟨true,arF m2 i,iM m2 i⟩) hz;rw[hd.2]at this;simp only[eR,List.countP_nil]at this;rw[htk,eR];simp only[hsl]at this ⊢;omega
   refine⟨h2.ram.cg fun k _=>key 1 k,h2.swp.cg fun k _=>key 2 k,by simp[iZ,h2.sp],h2.hd,fun s hs=>?_⟩;rcases List.mem_or_eq_of_mem_set hs with hs|rfl
   ·exact h2.ss s hs
   ·exact⟨fun _=>⟨by rw[har];exact(hiS.lv (u1.trans hlv)).1,by show(iM m2 i).length=16;rw[hsl];omega⟩,fun e=>by simp at e,by rw[hsl];exact hiS.sl⟩
  ·intro e;simp at e
 ·intro e;simp at e
theorem Inv.own{m m':Mem}(h:Inv m){i j:Nat}(hi:i<m.sp.length)(hj:j<m.sp[i].sl.length)(hk:(aK m i j).kd=1)(hr:fB m i j=some m'):Inv m':=by
 have ex:=bV hi hj;obtain⟨f,e1,e2,e3,e4⟩:=(h.wf.slot hi hj).1 hk;unfold fB at hr;split at hr
 ·rename_i c;simp only[Option.map_eq_some_iff]at hr;obtain⟨m1,hm,hr⟩:=hr;have w:=h.bF hm;obtain⟨-,hf⟩:=h.wf.bF hm;have ha:=bq h.wf hm;obtain⟨hi1,hj1,es, -⟩:=eU ha hi hj (.inr rfl);have hz:=eV (l:=m1.ram.rf) (by rw[w.ram.rf];exact hf);have hc:=w.ram.ct _ hf;have hc0:cnt 1 (aJ m1.ram.rf) m1.sp=0:=by rw[hz]at hc;omega
  have hpos:0<cnt 1 f m1.sp:=sG (List.getElem_mem hi1) (List.getElem_mem hj1) (by rw[es];exact hk) (by rw[es];exact e1);rw[e1,Int.toNat_natCast]at hr;subst hr;generalize aJ m1.ram.rf=p at*;have hpf:¬p=f:=fun e=>by rw[e]at hc0;omega
  have key:=fun kd pl=>mW (kd:=kd) (pl:=pl) (y:=⟨(aK m i j).kd,p,true,(aK m i j).us⟩) hi1 hj1
  rw[es]at key;have t1:Pl (aY m1.ram p (m1.ram.tx[f]?.getD []) 1) fun k=>if k=p then 1 else cnt 1 k m1.sp:=w.ram.take hf (fun k _ hk=>if_neg hk) (by simp) fun _=>w.ram.t4 f e2 (by omega)
  refine⟨t1.fX e2 (fun k _ hkf=>?_) ?_,w.swp.cg fun k _=>?_,by simp[aF,w.sp],w.hd,SpI.set w.ss (.inr ⟨.inl hk,p,rfl,hf⟩)⟩
  ·have:=key 1 k;rw[iX (x:=aK m i j) (.inr (by omega))]at this;by_cases c2:k=p
   ·rw[if_pos c2];rw[tU (x:=⟨(aK m i j).kd,p,true,(aK m i j).us⟩) hk (by show(p:Int)=k;omega)]at this;subst c2;show cnt 1 k (aF m1.sp i j _)=1;omega
   ·rw[if_neg c2];rw[iX (x:=⟨(aK m i j).kd,p,true,(aK m i j).us⟩) (.inr (by show(p:Int)≠k;omega))]at this;exact this
  ·have:=key 1 f;rw[tU hk e1,iX (x:=⟨(aK m i j).kd,p,true,(aK m i j).us⟩) (.inr (by show(p:Int)≠f;omega))]at this;rw[if_neg (fun e=>hpf e.symm)];exact this
  ·have:=key 2 k;rw[iX (x:=aK m i j) (.inl (by omega)),iX (x:=⟨(aK m i j).kd,p,true,(aK m i j).us⟩) (.inl (by show(aK m i j).kd≠2;omega))]at this;exact this
 ·cases hr;exact h.same hi hj (by rw[ex]) (by rw[ex])
theorem Inv.text{m:Mem}(h:Inv m){k:Nat}{t:Str}(ht:t.length=(m.ram.tx[k]?.getD []).length):Inv {m with ram:=⟨m.ram.tx.set k t,m.ram.rf⟩}:=by
 refine⟨⟨by simp[h.ram.tx],h.ram.rf,h.ram.ct,fun j hj hg=>?_⟩,h.swp,h.sp,h.hd,h.ss⟩;have:=h.ram.t4 j hj hg;by_cases c:j=k
 ·subst c;have hx:j<m.ram.tx.length:=by rw[h.ram.tx];exact hj
  simp only[List.getElem?_set_self hx,Option.getD_some];omega
 ·simp only;rw[List.getElem?_set_ne (fun h=>c h.symm)];exact this
end Go.Qm
namespace Go.Cq.D
open Go.RowKit
def nZ:CV→CV
 |.sl id b l lim=>if 2000<l then .sl id (b+0) (2000-0) (lim.map (· -0))else .sl id b l lim
 |c=>c
theorem RoR.nZ{h:Heap}{N:Nat→Prop}{es:List (List PV)}{c:CV}(hr:RoR h N (.sl 1 es) c):RoR h N (.sl 1 (es.take 2000)) (nZ c):=by
 cases hr with
 |nil=>exact .nil
 |sl hN hrow hc=>
  rename_i id base lim cf;simp only[D.nZ];split
  ·rename_i hl;have e:(2000-0:Nat)=(es.take 2000).length:=by rw[List.length_take];omega
   rw[e];refine .sl hN (cf:=cf) ?_ fun i row k p h1 h2=>?_
   ·obtain⟨b,e1,e2,e3,e4⟩:=hrow.blk;refine⟨⟨b,e1,e2,?_,fun i row k p h1 h2=>?_⟩,hrow.ne,fun i row h1=>?_⟩
    ·rw[List.length_take];omega
    ·rw[List.getElem?_take]at h1;split at h1
     ·exact e4 i row k p h1 h2
     ·simp at h1
    ·rw[List.getElem?_take]at h1;split at h1
     ·exact hrow.len i row h1
     ·simp at h1
   ·rw[List.getElem?_take]at h1;split at h1
    ·exact hc i row k p h1 h2
    ·simp at h1
  ·rename_i hl;rw[List.take_of_length_le (by omega)];exact .sl hN hrow hc
def uE(es:List (List PV))(c:CV):Prop:=(es=[]∧∃z,c= .nils z)∨∃id base lim,c= .sl id base es.length lim
theorem aB9{P:Program}{g:FuncId}{b:Bool}{es:List (List PV)}{args:List DV}{H:DH}{n:Nat}{Post:DT→DH→Prop}(hc:∀c,uE es c→eh P ⟨fun _=>none,some (nZ c,es.take 2000)⟩ g (.one (.sc c)::args) H n Post):d6 P g (.one (.ro b 1 es)::args) H n Post:=by
 intro N I Fp cargs h c U hU hr hlen;obtain⟨v,h1,h2⟩:=hr.cell (.t 0 0 0) (.ro b 1 es) (by simp) rfl;have h2:RoR h (N true) (.sl 1 es) v:=by
  cases b with
  |true=>exact h2
  |false=>exact h2.local fun id hid=>⟨rfl,hr.le id hid⟩
 have hsc:nR v=true:=by rcases h2.len with⟨z,rfl, -⟩| ⟨id,base,lim,cf,rfl, -⟩<;>rfl
 refine hc v ?_ N I Fp cargs h c U ⟨fun g p e=>by simp at e,fun c' es' e=>?_⟩ hU ?_ hlen
 ·rcases h2.len with⟨z,e1,e2⟩| ⟨id,base,lim,cf,e1, -⟩
  ·exact .inl ⟨e2,z,e1⟩
  ·exact .inr ⟨id,base,lim,e1⟩
 ·cases e;exact h2.nZ
 ·have hl0:∀t x,an (fU (DV.one (.sc v)::args) 0) t=some x→(t=0∧x= .v (.one (.sc v)))∨(t≠0∧an (fU (DV.one (.ro b 1 es)::args) 0) t=some x):=fun t x hx=>by
   simp only[fU,bK]at hx ⊢;by_cases e:t=0
   ·rw[if_pos e]at hx;simp only[Option.some.injEq]at hx;exact .inl ⟨e,hx.symm⟩
   ·rw[if_neg e]at hx;rw[if_neg e];exact .inr ⟨e,hx⟩
  refine hr.sub (fun t x hx=>?_) (fun s j k x hx=>?_) (fun s j k x g hx hg=>?_) (fun _ _ h=>h) (fun _ _ h=>h) (fun _ _ _ _=>rfl)
  ·rcases hl0 t x hx with⟨rfl,rfl⟩| ⟨-,hx⟩
   ·obtain⟨y,e1,e2⟩:=hr.tsh 0 _ rfl;exact⟨y,e1,by cases y with|v z=>cases z<;>exact e2|_=>exact e2⟩
   ·exact hr.tsh t x hx
  ·simp only[aa,Option.bind_eq_some_iff]at hx;obtain⟨y,e1,e2⟩:=hx;rcases hl0 s y e1 with⟨rfl,rfl⟩| ⟨-,hy⟩
   ·simp only[DT.cell]at e2;split at e2
    ·rename_i ej;subst ej;simp only[DV.cell]at e2;split at e2
     ·rename_i ek;subst ek;cases e2;exact⟨v,h1,hsc,rfl⟩
     ·simp at e2
    ·simp at e2
   ·exact hr.cell (.t s j k) x (by simp) (by simp only[aa,hy,Option.bind_some];exact e2)
  ·simp only[aa,Option.bind_eq_some_iff]at hx;obtain⟨y,e1,e2⟩:=hx;rcases hl0 s y e1 with⟨rfl,rfl⟩| ⟨-,hy⟩
   ·simp only[DT.cell]at e2;split at e2
    ·simp only[DV.cell]at e2;split at e2
     ·cases e2;simp[DC.tags]at hg
     ·simp at e2
    ·simp at e2
   ·exact hr.tags (.t s j k) x g (by simp only[aa,hy,Option.bind_some];exact e2) hg
section
variable{P:Prg}{n0:Nat}{ts:DTs}{H:DH}{n:Nat}{K:DT→DTs→DH→Nat→List Nat→Prop}
theorem xU{f:FOp}{r r':DV}(hf:FlV P.J ts f r)(ht:Told P.J H r r')(h:K (.v r') ts H n []):exec P (.fl f) ts H n K:=by
 cases f with
 |cmpNil neg x=>cases hf
 |_=>exact⟨r,r',.inr hf,ht,h⟩
theorem ki{x:Opd}{a b l:Nat}{lim:Option Nat}(hx:cC ts x=some (.sc (.sl a b l lim)))(h:K (.v (.one (.sc (.int .i64 l)))) ts H n []):OpP P (.fl (.len x)) ts H n K:=⟨xU (.lenC hx) .same h⟩
theorem xL{x:Opd}{z:Nat}(hx:cC ts x=some (.sc (.nils z)))(h:K (.v (.one (.sc (.int .i64 0)))) ts H n []):OpP P (.fl (.len x)) ts H n K:=⟨xU (.lenN hx) .same h⟩
theorem sd{x i:Opd}{c:CV}{es:List (List PV)}{k:Nat}(hx:cC ts x=some (.sc c))(hi:eC ts i=some (k:Int))(hv:P.J.v=some (c,es))(hk:k<es.length)(h:K (.v (.one (.rp true 1 es k 0))) ts H n []):OpP P (.fl (.idxAddr x i 1)) ts H n K:=⟨xU (.idx hx hi hv hk) .same h⟩
theorem aC3{x y:Opd}{id b l:Nat}{lim:Option Nat}{m b' l':Nat}{lim':Option Nat}{es:List (List PV)}(hx:cC ts x=some (.sc (.sl id b l lim)))(hy:eC ts y=some (m:Int))(hv:P.J.v=some (.sl id b' l' lim',es))(hm:m≤l)(h:K (.v (.one (.sc (.sl id (b+0) (m-0) (lim.map (· -0)))))) ts H n []):OpP P (.fl (.sliceL x none (some y) 1)) ts H n K:=⟨xU (.cut hx hy hv hm) .same h⟩
theorem tI{x y:Opd}{k:IntKind}{a b:Int}(hx:evS ts x=some (.int k a))(hy:evS ts y=some (.int k b))(hb:b≠0)(h:K (.v (.one (.sc (.int k (a.tmod b))))) ts H n []):OpP P (.fl (.bin .rem x y)) ts H n K:=fp (by simp[dfl,hx,hy,pQ,Go.Tq.nu,hb,sR,nR]) h
theorem aAd{x y:Opd}{k:IntKind}{a b:Int}(hx:evS ts x=some (.int k a))(hy:evS ts y=some (.int k b))(hb:b≠0)(h:K (.v (.one (.sc (.int k (k.wrap (a.tdiv b)))))) ts H n []):OpP P (.fl (.bin .quo x y)) ts H n K:=fp (by simp[dfl,hx,hy,pQ,Go.Tq.nu,hb,sR,nR]) h
end
end Go.Cq.D
namespace Go.Cq.D
open Go.RowKit
def iY:DB→DB→Prop
 |.box cs,.box cs'=>cs'=cs
 |.arr sz es ov,.arr sz' es' ov'=>sz'=sz∧es'=es∧∀i k,ab ov' i k=ab ov i k
 |_,_=>False
def qy:Option DB→Option DB→Prop
 |some a,some b=>iY a b
 |none,none=>True
 |_,_=>False
def iN(H H':DH):Prop:=∀g,qy (aG H g) (aG H' g)
theorem iY.refl(x:DB):iY x x:=by cases x<;>simp[iY]
theorem iN.get{H H':DH}(h:iN H H'){g:Nat}{db':DB}(hg:aG H' g=some db'):∃db,aG H g=some db∧iY db db':=by
 have:=h g;rw[hg]at this;cases e:aG H g with
 |none=>rw[e]at this;exact this.elim
 |some db=>rw[e]at this;exact⟨db,rfl,this⟩
theorem iY.cell{a b:DB}(h:iY a b)(i k:Nat):b.cell i k=a.cell i k:=by
 cases a<;>cases b<;>simp only[iY]at h
 ·obtain⟨rfl,rfl,h⟩:=h;simp only[DB.cell,h]
 ·subst h;rfl
theorem iN.aa{H H':DH}(h:iN H H')(ts:DTs)(ℓ:Loc):aa ts H' ℓ=aa ts H ℓ:=by
 cases ℓ with
 |t s j k=>rfl
 |h g i k=>have:=h g;simp only[D.aa];cases e1:aG H g<;>cases e2:aG H' g<;>rw[e1,e2]at this<;>simp only[qy]at this;simp only[Option.bind_some];exact this.cell i k
theorem iN.some{H H':DH}(h:iN H H')(g:Nat):(aG H' g).isSome=(aG H g).isSome:=by have:=h g;cases e1:aG H g<;>cases e2:aG H' g<;>rw[e1,e2]at this<;>simp_all[qy]
section
variable{N:Bool→Nat→Prop}{I:Nm}{Fp:Loc→Nat→Prop}{ts:DTs}{H H':DH}{n:Nat}{cts:Ts}{h:Heap}{U:Nat→Prop}{hl:Option Loc}
theorem bG.perm(hp:iN H H'){x:DC}{v:CV}{F:Nat→Prop}(hx:bG h N I H' x v F):bG h N I H x v F:=by
 cases x with
 |sl g lo len=>
  intro sz es ov hg;have:=hp g;rw[hg]at this;cases e:aG H' g with
  |none=>rw[e]at this;exact this.elim
  |some db=>
   rw[e]at this;cases db with
   |box cs=>exact this.elim
   |arr sz' es' ov'=>obtain⟨rfl,rfl, -⟩:=this;exact hx _ _ _ e
 |ptr g i k=>exact fun hg=>hx (by rw[hp.some];exact hg)
 |fn f caps=>obtain⟨cs,h1,h2,h3⟩:=hx;exact⟨cs,h1,h2,fun j q hq hg=>h3 j q hq (by rw[hp.some];exact hg)⟩
 |sc v=>exact hx
 |own sz es=>exact hx
 |ro b sz es=>exact hx
 |rp b sz es i k=>exact hx
 |gone=>exact hx
theorem iN.symm(hp:iN H H'):iN H' H:=fun g=>by
 have:=hp g;cases e1:aG H g<;>cases e2:aG H' g<;>rw[e1,e2]at this<;>simp only[qy]at this ⊢;rename_i a b;cases a<;>cases b<;>simp only[iY]at this ⊢
 ·exact⟨this.1.symm,this.2.1.symm,fun i k=>(this.2.2 i k).symm⟩
 ·exact this.symm
theorem R.perm(hp:iN H H')(hr:R hl N I Fp ts H' n cts h U):R hl N I Fp ts H n cts h U:=by
 have hs:=hp.symm;refine⟨hr.tsh,fun g db hg=>?_,fun ℓ x hne hx=>?_,fun ℓ x g hx=>hr.tags ℓ x g (by rw[hp.aa];exact hx),fun g db hg=>?_,fun g g' db db' id b s b' s' h1 h2=>?_,fun ℓ g db id b s hf hg=>?_,hr.sepF,fun g db id b s hn hg=>?_,hr.roF,hr.hb,hr.lt,hr.le,hr.ro⟩
 ·obtain⟨db',h1,h2⟩:=hs.get hg;have:=hr.bsh g db' h1;cases db<;>cases db'<;>simp only[iY]at h2
  ·obtain⟨rfl,rfl, -⟩:=h2;exact this
  ·subst h2;exact this
 ·obtain⟨v,h1,h2⟩:=hr.cell ℓ x hne (by rw[hp.aa];exact hx);exact⟨v,h1,h2.perm hp⟩
 ·obtain⟨db',h1, -⟩:=hs.get hg;exact hr.htag g db' h1
 ·obtain⟨d1,e1, -⟩:=hs.get h1;obtain⟨d2,e2, -⟩:=hs.get h2;exact hr.inj g g' d1 d2 id b s b' s' e1 e2
 ·obtain⟨d1,e1, -⟩:=hs.get hg;exact hr.sepT ℓ g d1 id b s hf e1
 ·obtain⟨d1,e1, -⟩:=hs.get hg;exact hr.roT g d1 id b s hn e1
theorem aV.perm(hp:iN H H'){id:Nat}:aV I Fp H id↔aV I Fp H' id:=by
 constructor
 ·rintro(h| ⟨g,db,b,s,hg,hI⟩)
  ·exact .inl h
  ·obtain⟨d,e, -⟩:=hp.symm.get hg;exact .inr ⟨g,d,b,s,e,hI⟩
 ·rintro(h| ⟨g,db,b,s,hg,hI⟩)
  ·exact .inl h
  ·obtain⟨d,e, -⟩:=hp.get hg;exact .inr ⟨g,d,b,s,e,hI⟩
theorem au.perm{a b c:DB}(h:iY a b)(hs:au a c):au b c:=by
 cases a<;>cases b<;>simp only[iY]at h
 ·obtain⟨rfl,rfl, -⟩:=h;cases c<;>exact hs
 ·subst h;exact hs
theorem d6.perm{P:Program}{f:FuncId}{args:List DV}{Post:DT→DH→Prop}(hc:d6 P f args H n Post)(hp:iN H H'):d6 P f args H' n Post:=by
 intro N I Fp cargs h c U hU hr hl;obtain⟨r,h',c',h1,h2,N',I',Fp',res,H2,n',h3,h4,h5,h6⟩:=hc N I Fp cargs h c U hU (hr.perm hp) hl;have ho:aV I Fp H=aV I Fp H':=funext fun id=>propext (aV.perm hp)
 refine⟨r,h',c',h1,h2,N',I',Fp',res,H2,n',h3,ho▸h4,h5,⟨h6.nn,h6.cc,h6.nm,ho▸h6.own,ho▸h6.hp,fun g db' hg hd=>?_,h6.mp⟩⟩;obtain⟨db,e1,e2⟩:=h6.sh g db' hg hd;obtain⟨d2,e3,e4⟩:=hp.symm.get e1;refine⟨d2,e3,au.perm ?_ e2⟩;cases d2<;>cases db<;>simp only[iY]at e4 ⊢
 ·exact⟨e4.1.symm,e4.2.1.symm,fun i k=>(e4.2.2 i k).symm⟩
 ·exact e4.symm
end
end Go.Cq.D
namespace Go.Qm
open Go.Cq Go.Cq.D Go.RowKit
theorem pR{m:Mem}{but:Int}(h:bF m but=none):fD m.ram.rf=0∧fD m.swp.rf=0:=by
 unfold bF at h;split at h
 ·cases h
 ·rename_i c;split at h
  ·cases h
  ·rename_i d;have a:=jN (l:=m.ram.rf);have b:=jN (l:=m.swp.rf);omega
theorem w7{m:Mem}{i j:Nat}(h:bE m i j=none):fD m.ram.rf=0∧fD m.swp.rf=0:=by
 unfold bE at h;split at h
 ·cases h
 ·exact pR (by simpa using h)
theorem ze{m m1:Mem}(w:Wf m){i j:Nat}(hi:i<m.sp.length)(hj:j<m.sp[i].sl.length)(h1:bE m i j=some m1)(h2:fB m1 i j=none):fD m.ram.rf=0∧fD m.swp.rf=0:=by
 have w1:=w.jk hi hj h1;have s1:=dt w h1;have hi1:i<m1.sp.length:=by rw[s1.1];exact hi
 have hj1:j<m1.sp[i].sl.length:=by rw[(s1.2 i hi hi1).2.2];exact hj
 unfold fB at h2;split at h2
 ·rename_i c;have hn:=pR (m:=m1) (by simpa using h2);have ex:=bV hi hj;unfold bE at h1;split at h1
  ·cases h1;exact hn
  ·rename_i c1;simp only[Option.map_eq_some_iff]at h1;obtain⟨m2,hr,h1⟩:=h1;have key:∀{r s:Pages}{sp:List Space}{d:Int}{x:Slot},i<sp.length→(∀h:i<sp.length,j<sp[i].sl.length)→aK ⟨r,s,aF sp i j x,d⟩ i j=x:=fun{r s sp d x} hi hj=>by have h1:=hj hi;simp[aK,aF,hi,h1]
   have ha:=(bq w hr).same;have hi2:i<m2.sp.length:=by rw[ha.1];exact hi
   have hj2:j<m2.sp[i].sl.length:=by rw[(ha.2 i hi hi2).2.2];exact hj
   split at h1
   ·subst h1;rw[key hi2 fun _=>hj2]at c;simp at c
   ·rename_i c2;subst h1;obtain⟨w2, -⟩:=w.bF hr;rcases w.kd _ (List.getElem_mem hi) _ (List.getElem_mem hj)with e|e|e
    ·rw[ex]at c2;exact absurd e c2
    ·rw[ex]at c1;exact absurd e c1
    ·obtain⟨k,e1,e2, -, -⟩:=w.at2 _ (List.getElem_mem hi) _ (List.getElem_mem hj) e;have hp:(aK m i j).pl.toNat=k:=by rw[ex,e1];rfl
     have hk:k< (m2.swp.rf.set k 0).length:=by rw[List.length_set,w2.swp.rf];exact e2
     have hf:=kY hk (by simp);have hc:=(jN (l:=m2.swp.rf.set k 0)).2 (Nat.lt_of_le_of_lt hf hk);have h0:fD (m2.swp.rf.set k 0)=0:=by have:=hn.2;simp only[aY,hp]at this;exact this
     omega
 ·cases h2
structure PgO(p:Pages):Prop where
 tx:p.tx.length=12
 rf:p.rf.length=12
 ok:∀k,k<12→0≤p.rf[k]?.getD 0∧p.rf[k]?.getD 0≤99∧(p.tx[k]?.getD []).length=if p.rf[k]?.getD 0=0 then 0 else 4
theorem wC:∀{ts:List Str}{ns:List Int},ts.length=ns.length→(∀k,k<ns.length→0≤ns[k]?.getD 0∧ns[k]?.getD 0≤99∧(ts[k]?.getD []).length=if ns[k]?.getD 0=0 then 0 else 4)→ed ts ns=true:=by
 intro ts;induction ts with
 |nil=>intro ns _ _;cases ns<;>rfl
 |cons t ts ih=>
  intro ns hl h;cases ns with
  |nil=>rfl
  |cons n ns=>simp only[ed,Bool.and_eq_true];refine⟨?_,ih (by simpa using hl) fun k hk=>by simpa using h (k+1) (by simpa using hk)⟩;obtain⟨h1,h2,h3⟩:=h 0 (by simp);simp only[List.getElem?_cons_zero,Option.getD_some]at h1 h2 h3;simp only[dw,inB,Bool.and_eq_true,decide_eq_true_eq];refine⟨⟨h1,h2⟩,?_⟩;split at h3<;>simp_all
theorem PgO.aCx{p:Pages}(h:PgO p):bu p=true:=by simp only[bu,inB,Bool.and_eq_true,decide_eq_true_eq];exact⟨⟨h.tx.trans h.rf.symm,by rw[h.tx];decide,by rw[h.tx];decide⟩,wC (h.tx.trans h.rf.symm) fun k hk=>h.ok k (by rw[←h.rf];exact hk)⟩
theorem aB5{p:Pages}(h:bu p=true)(hl:p.rf.length=12):PgO p:=by
 simp only[bu,Bool.and_eq_true,decide_eq_true_eq]at h;have hg:=oC h.2;have ht:p.tx.length=12:=by omega
 refine⟨ht,hl,fun k hk=>?_⟩;have h1:k<p.tx.length:=by omega
 have h2:k<p.rf.length:=by omega
 have:=hg k h1 h2;simp only[dw,inB,Bool.and_eq_true,decide_eq_true_eq]at this;simp only[List.getElem?_eq_getElem h1,List.getElem?_eq_getElem h2,Option.getD_some];obtain⟨⟨a1,a2⟩,a3⟩:=this;refine⟨a1,a2,?_⟩;split at a3
 ·rename_i c;rw[if_pos c];omega
 ·rename_i c;rw[if_neg c];omega
structure MO(m:Mem):Prop where
 ram:PgO m.ram
 swp:PgO m.swp
theorem aBG{m:Mem}(h:cY m=true):MO m:=by simp only[cY,Bool.and_eq_true,decide_eq_true_eq]at h;obtain⟨⟨⟨⟨⟨⟨⟨⟨h1,h2⟩,h3⟩,h4⟩, -⟩, -⟩, -⟩, -⟩, -⟩:=h;exact⟨aB5 h1 h3,aB5 h2 h4⟩
end Go.Qm

