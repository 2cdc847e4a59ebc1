import Derived.Test.YthdipcbjhhopaaaTc
namespace Go.Cq.D
open Go.RowKit
abbrev Kc:=X→DTs→DH→Nat→Prop
def nf(n0:Nat)(k:Option (List Nat))(ts:DTs)(H:DH)(n:Nat)(Q:DTs→DH→Nat→Prop):Prop:=match k with
 |none=>Q ts H n
 |some k=>tidy n0 k ts H Q
def gH(P:Prg)(n0:Nat):CC→Kc→DTs→DH→Nat→Prop
 |.skip,Q,ts,H,n=>Q .nrm ts H n
 |.reg l k,Q,ts,H,n=>oO P l ts H n fun ts H n=>nf n0 k ts H n (Q .nrm)
 |.draw m FL l k,Q,ts,H,n=>aDL P m FL l ts H n fun ts H n=>nf n0 k ts H n (Q .nrm)
 |.seq a b,Q,ts,H,n=>gH P n0 a (fun x ts H n=>match x with
  |.nrm=>gH P n0 b Q ts H n
  |x=>Q x ts H n) ts H n
 |.cond y a b,Q,ts,H,n=>∃v,evS ts y=some (.bool v)∧(v=true→gH P n0 a Q ts H n)∧(v=false→gH P n0 b Q ts H n)
 |.blk id a,Q,ts,H,n=>gH P n0 a (fun x ts H n=>match x with
  |.ex j=>if j=id then Q .nrm ts H n else Q (.ex j) ts H n
  |x=>Q x ts H n) ts H n
 |.loop a,Q,ts,H,n=>∃(Inv:Nat→DTs→DH→Nat→Prop)(k:Nat),Inv k ts H n∧∀k ts H n,Inv k ts H n→gH P n0 a (fun x ts H n=>match x with
  |.nrm=>∃k',k'<k∧Inv k' ts H n
  |x=>Q x ts H n) ts H n
 |.exit id,Q,ts,H,n=>Q (.ex id) ts H n
 |.ret,Q,ts,H,n=>Q .ret ts H n
section
variable{P:Prg}{N:Bool→Nat→Prop}{I0:Nm}{Fp0:Loc→Nat→Prop}{H0:DH}{n0:Nat}{h0:Heap}{U0:Nat→Prop}{c0:Nat}
theorem qB{k:Option (List Nat)}{s:St}{ts:DTs}{H:DH}{n:Nat}{Q:DTs→DH→Nat→Prop}(hr:Rel N I0 Fp0 H0 n0 U0 h0 c0 s ts H n)(hx:nf n0 k ts H n Q):
  ∃ts' H' n',Q ts' H' n'∧Rel N I0 Fp0 H0 n0 U0 h0 c0 (s.av k) ts' H' n':=by
 cases k with
 |none=>exact⟨ts,H,n,hx,hr⟩
 |some k=>exact wj hr hx
theorem tc(hU:∀id,U0 id→id<c0)(hJ:Tie P N I0 Fp0 H0 n0 U0 h0):∀{cc:CC}{s:St}{ts:DTs}{H:DH}{n:Nat}{Q:Kc},Rel N I0 Fp0 H0 n0 U0 h0 c0 s ts H n→gH P n0 cc Q ts H n→
  ∃x s',ExC P cc s x s'∧∃ts' H' n',Q x ts' H' n'∧Rel N I0 Fp0 H0 n0 U0 h0 c0 s' ts' H' n':=by
 intro cc;induction cc with
 |skip=>intro s ts H n Q hr hx;exact⟨.nrm,s,.skip,ts,H,n,hx,hr⟩
 |reg l k=>intro s ts H n Q hr hx;obtain⟨cl,h1,s1,h2,ts1,H1,n1,h3,h4⟩:=xJ hU hJ hr hx;obtain⟨ts2,H2,n2,h5,h6⟩:=qB h4 h3;exact⟨.nrm,_,.reg h1 h2,ts2,H2,n2,h5,h6⟩
 |draw m FL l k=>intro s ts H n Q hr hx;obtain⟨cl,h1,s1,h2,ts1,H1,n1,h3,h4⟩:=aA1 hx N I0 Fp0 H0 U0 h0 c0 s hU hJ hr;obtain⟨ts2,H2,n2,h5,h6⟩:=qB h4 h3;exact⟨.nrm,_,.draw h1 h2,ts2,H2,n2,h5,h6⟩
 |seq a b iha ihb=>
  intro s ts H n Q hr hx;obtain⟨x,s1,h1,ts1,H1,n1,h2,h3⟩:=iha hr hx;cases x with
  |nrm=>obtain⟨x2,s2,k1,ts2,H2,n2,k2,k3⟩:=ihb h3 h2;exact⟨x2,s2,.seqN h1 k1,ts2,H2,n2,k2,k3⟩
  |ex j=>exact⟨_,s1,.oL h1 (by simp),ts1,H1,n1,h2,h3⟩
  |ret=>exact⟨_,s1,.oL h1 (by simp),ts1,H1,n1,h2,h3⟩
 |cond y a b iha ihb=>
  intro s ts H n Q hr hx;obtain⟨v,h1,h2,h3⟩:=hx;obtain⟨hc,N1,I,Fp,ng,r,g⟩:=id hr;have hy:=(eX r h1).1;cases v with
  |true=>obtain⟨x,s1,k1,k2⟩:=iha hr (h2 rfl);exact⟨x,s1,.condT hy k1,k2⟩
  |false=>obtain⟨x,s1,k1,k2⟩:=ihb hr (h3 rfl);exact⟨x,s1,.condF hy k1,k2⟩
 |blk id a ih=>
  intro s ts H n Q hr hx;obtain⟨x,s1,h1,ts1,H1,n1,h2,h3⟩:=ih hr hx;cases x with
  |nrm=>exact⟨.nrm,s1,.blkPass h1 (by simp),ts1,H1,n1,h2,h3⟩
  |ret=>exact⟨.ret,s1,.blkPass h1 (by simp),ts1,H1,n1,h2,h3⟩
  |ex j=>
   simp only at h2;split at h2
   ·rename_i e;subst e;exact⟨.nrm,s1,.blkHit h1,ts1,H1,n1,h2,h3⟩
   ·rename_i e;exact⟨.ex j,s1,.blkPass h1 (fun e'=>e (by injection e')),ts1,H1,n1,h2,h3⟩
 |loop a ih=>
  intro s ts H n Q hr hx;obtain⟨Inv,k,h1,h2⟩:=hx;have main:∀k s ts H n,Rel N I0 Fp0 H0 n0 U0 h0 c0 s ts H n→Inv k ts H n→∃x s',ExC P (.loop a) s x s'∧∃ts' H' n',Q x ts' H' n'∧Rel N I0 Fp0 H0 n0 U0 h0 c0 s' ts' H' n':=by
   intro k;induction k using Nat.strongRecOn with
   |_ k ihk=>
    intro s ts H n hr hi;obtain⟨x,s1,k1,ts1,H1,n1,k2,k3⟩:=ih hr (h2 k ts H n hi);cases x with
    |nrm=>obtain⟨k',hk,hi'⟩:=k2;obtain⟨x2,s2,j1,j2⟩:=ihk k' hk s1 ts1 H1 n1 k3 hi';exact⟨x2,s2,.loopN k1 j1,j2⟩
    |ex j=>exact⟨_,s1,.loopX k1 (by simp),ts1,H1,n1,k2,k3⟩
    |ret=>exact⟨_,s1,.loopX k1 (by simp),ts1,H1,n1,k2,k3⟩
  exact main k s ts H n hr h1
 |exit id=>intro s ts H n Q hr hx;exact⟨.ex id,s,.exit,ts,H,n,hx,hr⟩
 |ret=>intro s ts H n Q hr hx;exact⟨.ret,s,.ret,ts,H,n,hx,hr⟩
end
def jU(ts:DTs):List RR→List Loc
 | []=>[]
 |.t t::l=>cT ts [t]++jU ts l
 |.c t n::l=>d9 ts (.fl (.load n (.t t)))++jU ts l
def uQ(ts:DTs)(H:DH):List RR→Option (List DV)
 | []=>some []
 |.t t::l=>match evD ts (.t t),uQ ts H l with
  |some x,some m=>some (x::m)
  |_,_=>none
 |.c t n::l=>match dfl ts H (.load n (.t t)),uQ ts H l with
  |some x,some m=>some (x::m)
  |_,_=>none
def uh:List DV→DT
 | [x]=>.v x
 |l=>.tup l
def aCi(n0:Nat)(l:List RR)(ts:DTs)(H:DH)(n:Nat)(Post:DT→DH→Prop):Prop:=match dU (jU ts l) ts H n with
 | (ts1,H1,_)=>∃vs,uQ ts1 H1 l=some vs∧tidy n0 [0] [(0,uh vs)] H1 fun ts2 H2 _=>∃r,an ts2 0=some r∧Post r H2
def fnW(P:Prg)(fn:CFn)(args:List DV)(H:DH)(n:Nat)(Post:DT→DH→Prop):Prop:=args.length≤fn.nt∧gH P n fn.code (fun x ts H' n'=>(x= .nrm∨x= .ret)∧aCi n fn.res ts H' n' Post) (fU args 0) H n
section
variable{N:Bool→Nat→Prop}{I:Nm}{Fp:Loc→Nat→Prop}{ts:DTs}{H:DH}{n:Nat}{cts:Ts}{h:Heap}{U:Nat→Prop}
theorem aC6(hr:R none N I Fp ts H n cts h U):∀{l:List RR}{vs:List DV},uQ ts H l=some vs→∃us,mT h cts l=some us∧us.length=vs.length∧∀(j:Nat) x y,vs[j]?=some x→us[j]?=some y→v1R h N I H x y∧∀k q g,x.cell k=some q→g∈q.tags→g<n:=by
 intro l;induction l with
 |nil=>intro vs h;simp only[uQ,Option.some.injEq]at h;subst h;exact⟨[],rfl,rfl,by simp⟩
 |cons r l ih=>
  have fin:∀{x:DV}{m vs:List DV}{y:V1}{us:List V1},x::m=vs→us.length=m.length→v1R h N I H x y→(∀k q g,x.cell k=some q→g∈q.tags→g<n)→
    (∀(j:Nat) x y,m[j]?=some x→us[j]?=some y→v1R h N I H x y∧∀k q g,x.cell k=some q→g∈q.tags→g<n)→
    (y::us).length=vs.length∧∀(j:Nat) x z,vs[j]?=some x→(y::us)[j]?=some z→v1R h N I H x z∧∀k q g,x.cell k=some q→g∈q.tags→g<n:=by
   intro x m vs y us e h1 h2 h3 h4;subst e;refine⟨by simp[h1],fun j x' z hx hz=>?_⟩;cases j with
   |zero=>simp only[List.getElem?_cons_zero,Option.some.injEq]at hx hz;subst hx;subst hz;exact⟨h2,h3⟩
   |succ j=>exact h4 j x' z (by simpa using hx) (by simpa using hz)
  intro vs hv;cases r with
  |t t=>
   simp only[uQ]at hv;split at hv
   ·rename_i x m h1 h2;simp only[Option.some.injEq]at hv;obtain⟨y,k1,k2⟩:=gX hr h1;obtain⟨us,i1,i2,i3⟩:=ih h2;have k1':look cts t=some (.v y):=by simp only[evO]at k1;split at k1<;>simp_all
    exact⟨y::us,by simp only[mT,k1',i1],fin hv i2 k2 (e9 hr h1) i3⟩
   ·simp at hv
  |c t k=>
   simp only[uQ]at hv;split at hv
   ·rename_i x m h1 h2;simp only[Option.some.injEq]at hv;obtain⟨y,k1,k2⟩:=z9 hr h1;obtain⟨us,i1,i2,i3⟩:=ih h2;exact⟨y::us,by simp only[mT,k1,i1],fin hv i2 k2 (ux hr h1) i3⟩
   ·simp at hv
theorem aBD{vs:List DV}{us:List V1}(hl:us.length=vs.length)(hv:∀(j:Nat) x y,vs[j]?=some x→us[j]?=some y→v1R h N I H x y∧∀k q g,x.cell k=some q→g∈q.tags→g<n):
  tR h N I H (uh vs) (pack us)∧∀j k q g,(uh vs).cell j k=some q→g∈q.tags→g<n:=by
 have many:tR h N I H (.tup vs) (.tup us)∧∀j k q g,(DT.tup vs).cell j k=some q→g∈q.tags→g<n:=by
  have get:∀(j:Nat) x,vs[j]?=some x→∃y,us[j]?=some y∧v1R h N I H x y∧∀k q g,x.cell k=some q→g∈q.tags→g<n:=fun j x hx=>by
   have hlt:j<us.length:=by rw[hl];exact(List.getElem?_eq_some_iff.1 hx).1
   exact⟨us[j],List.getElem?_eq_getElem hlt,hv j x _ hx (List.getElem?_eq_getElem hlt)⟩
  refine⟨⟨⟨hl,fun j x y hx hy=>(hv j x y hx hy).1.1⟩,fun j k c hc=>?_⟩,fun j k q g hq hg=>?_⟩
  ·simp only[DT.cell,Option.bind_eq_some_iff]at hc;obtain⟨x,h1,h2⟩:=hc;obtain⟨y,h3,h4, -⟩:=get j x h1;obtain⟨v,h5,h6⟩:=h4.2 k c h2;exact⟨v,by simp only[fC,h3];exact h5,h6⟩
  ·simp only[DT.cell,Option.bind_eq_some_iff]at hq;obtain⟨x,h1,h2⟩:=hq;obtain⟨y,h3, -,h4⟩:=get j x h1;exact h4 k q g h2 hg
 match vs,us,hl,hv with
 | [x],[y],_,hv=>obtain⟨h1,h2⟩:=hv 0 x y rfl rfl;exact⟨h1.t,ck h2⟩
 | [],[],_,_=>exact many
 |x::x'::l,y::y'::m,_,_=>exact many
 | [x],[],hl,_=>simp at hl
 | [],[y],hl,_=>simp at hl
 | [x],y::y'::m,hl,_=>simp at hl
 |x::x'::l,[y],hl,_=>simp at hl
 |x::x'::l,[],hl,_=>simp at hl
 | [],y::y'::m,hl,_=>simp at hl
theorem R.one(hr:R none N I Fp ts H n cts h U){r:DT}(k:an ts 0=some r):R none N I Fp [(0,r)] H n cts h U:=by
 have key:∀t x,an [(0,r)] t=some x→an ts t=some x:=fun t x hx=>by
  rw[bK]at hx;split at hx
  ·rename_i e;subst e;cases hx;exact k
  ·simp[an]at hx
 have keyC:∀s j k x,aa [(0,r)] H (.t s j k)=some x→aa ts H (.t s j k)=some x:=fun s j k x hx=>by simp only[aa,Option.bind_eq_some_iff]at hx ⊢;obtain⟨y,h1,h2⟩:=hx;exact⟨y,key s y h1,h2⟩
 exact hr.sub (fun t x hx=>hr.tsh t x (key t x hx)) (fun s j k x hx=>hr.cell _ x (by simp) (keyC s j k x hx)) (fun s j k x g hx hg=>hr.tags _ x g (keyC s j k x hx) hg) (fun _ _ h=>h) (fun _ _ h=>h) (fun _ _ _ _=>rfl)
theorem oq{P:Program}(hm:P.follows .mixedOrders=true){g:FuncId}{F:Func}{fn:CFn}(hF:P.funcs[g]?=some F)(hok:bS P F fn=true){args:List DV}{Post:DT→DH→Prop}{J:JN}(hn:∀g p,J g=some p→g<n)(hw:fnW ⟨P,J⟩ fn args H n Post):eh P J g args H n Post:=by
 intro N I Fp cargs h c U hJ hU hr hlen;have hJ:Tie ⟨P,J⟩ N I Fp H n U h:=⟨hn,hJ,px hr⟩;obtain⟨hle,hw⟩:=hw;have hrel:Rel N I Fp H n U h c ⟨init cargs 0,h,c⟩ (fU args 0) H n:=by
  have e:(fun id=>U id∨c≤id∧id<c)=U:=funext fun id=>propext ⟨fun h=>h.elim (fun h=>h) fun⟨h1,h2⟩=>absurd h2 (Nat.not_lt.2 h1),.inl⟩
  refine⟨Nat.le_refl _,N,I,Fp,NG.refl ..,?_,?_⟩
  ·simp only[e];exact hr
  ·simp only[e];exact Grow.refl ..
 obtain⟨x,s,h1,ts1,H1,n1,⟨h2,h3⟩,hc,N1,I1,Fp1,ng1,r1,g1⟩:=tc hU hJ hrel hw;unfold aCi at h3;obtain⟨I2,Fp2,r2,g2⟩:=r1.dU (jU ts1 fn.res) r1;generalize dU (jU ts1 fn.res) ts1 H1 n1=p at h3 r2 g2;obtain⟨ts2,H2,n2⟩:=p;simp only at h3 r2 g2;obtain⟨vs,h4,h5⟩:=h3;obtain⟨us,h6,h7,h8⟩:=aC6 r2 h4;obtain⟨p1,p2⟩:=aBD h7 h8;have r3:=(r2.prune [] [] (by simp)).put (d:=0) p1 p2;have hrel2:Rel N I Fp H n U h c ⟨[(0,pack us)],s.h,s.c⟩ [(0,uh vs)] H2 n2:=by
  refine⟨hc,N1,I2,_,ng1,r3,(g1.trans g2).less (g1.trans g2).nn (fun ℓ id hid=>?_) (fun _ _ h=>h)⟩;cases ℓ with
  |t s j k=>
   simp only at hid;split at hid
   ·exact hid.elim
   ·exact hid
  |h g i k=>exact hid
 obtain⟨ts3,H3,n3,⟨r,k1,k2⟩, -,N3,I3,Fp3,ng4,r4,g4⟩:=wj hrel2 h5;have hmore:∀id,(U id∨c≤id∧id<s.c)→(U id∨c≤id∧id<s.c+1):=fun id h=>h.imp (fun h=>h) fun⟨h1,h2⟩=>⟨h1,by omega⟩
 have r5:R none N3 I3 Fp3 [(0,r)] H3 n3 [(0,pack us)] s.h (fun id=>U id∨c≤id∧id<s.c+1):=by have e:prune [0] [(0,pack us)]=[(0,pack us)]:=rfl;simp only[St.av,e]at r4;exact(r4.one k1).more hmore
 refine⟨pack us,s.h,s.c+1,by omega,aDo hm hF hok (by rw[hlen];exact hle) h1 h2 h6 hc (Nat.le_succ _),N3,I3,Fp3,r,H3,n3,k2,ng4.more hmore,r5,?_⟩;exact⟨g4.nn,fun id h=>hmore id (g4.cc id h),g4.nm,fun id hid=>(g4.own id hid).imp (fun h=>h) fun h=>⟨h.1,hmore id h.2⟩,g4.hp,g4.sh,g4.mp⟩
theorem aB1{P:Program}(hm:P.follows .mixedOrders=true){g:FuncId}{F:Func}{fn:CFn}(hF:P.funcs[g]?=some F)(hok:bS P F fn=true){args:List DV}{Post:DT→DH→Prop}(hw:fnW ⟨P,noJ⟩ fn args H n Post):d6 P g args H n Post:=fun N I Fp cargs h c U hU hr hlen=>oq hm hF hok (J:=noJ) (fun g p h=>by simp[noJ]at h) hw N I Fp cargs h c U ⟨fun g p h=>by simp[noJ]at h,fun c es h=>by simp[noJ]at h⟩ hU hr hlen
theorem aAO{P:Program}(hm:P.follows .mixedOrders=true){g:FuncId}{F:Func}{fn:CFn}(hF:P.funcs[g]?=some F)(hok:bS P F fn=true){args:List DV}{Post:DT→DH→Prop}(hw:∀J:Nm,(∀g p,J g=some p→g<n)→(∀g sz es ov,aG H g=some (.arr sz es ov)→es≠[]→∃id base,J g=some (id,base,sz))→fnW ⟨P,⟨J,none⟩⟩ fn args H n Post):d6 P g args H n Post:=by
 intro N I Fp cargs h c U hU hr hlen;refine oq hm hF hok (J:=⟨fun g=>if g<n then I g else none,none⟩) (fun g p e=>?_) (hw _ (fun g p e=>?_) fun g sz es ov hg hne=>?_) N I Fp cargs h c U ⟨fun g p e=>?_,fun c es e=>by simp at e⟩ hU hr hlen
 ·simp only at e;split at e
  ·assumption
  ·simp at e
 ·split at e
  ·assumption
  ·simp at e
 ·rcases hr.bsh g _ hg with⟨-,e⟩| ⟨id,base,b,e, -⟩
  ·exact absurd e hne
  ·exact⟨id,base,by simp only[hr.htag g _ hg,if_true];exact e⟩
 ·simp only at e;split at e
  ·exact e
  ·simp at e
end
end Go.Cq.D
namespace Go.Cq.D
open Go.RowKit
section
variable{P:Prg}{n0:Nat}{ts ts1:DTs}{H H1:DH}{n n1:Nat}{Q:Kc}{K:DT→DTs→DH→Nat→List Nat→Prop}{S:DTs→DH→Nat→Prop}
theorem aER{a b:CC}(h:gH P n0 a (fun x ts H n=>match x with|.nrm=>gH P n0 b Q ts H n|x=>Q x ts H n) ts H n):gH P n0 (.seq a b) Q ts H n:=h
theorem aEW{id:Nat}{a:CC}(h:gH P n0 a (fun x ts H n=>match x with|.ex j=>if j=id then Q .nrm ts H n else Q (.ex j) ts H n|x=>Q x ts H n) ts H n):gH P n0 (.blk id a) Q ts H n:=h
theorem aDf{ci:CI}{l:List CI}(hw:eE ts ci.g=some true)(he:dU (cT ts ci.op.reads++d9 ts ci.op) ts H n=(ts1,H1,n1))(h:exec P ci.op ts1 H1 n1 fun x ts' H' n' _=>oO P l (i9 ci.d x ts') H' n' S):oO P (ci::l) ts H n S:=by simp only[oO,oF,hw,he];exact h
theorem aD7{ci:CI}{l:List CI}(hw:eE ts ci.g=some false)(h:oO P l (i9 ci.d (.tup []) ts) H n S):oO P (ci::l) ts H n S:=by simp only[oO,oF,hw];exact h
theorem zL{f:FOp}{r:DV}(hf:dfl ts H f=some r)(h:K (.v r) ts H n []):exec P (.fl f) ts H n K:=by
 cases f with
 |cmpNil neg x=>simp[dfl]at hf
 |_=>exact⟨r,r,.inl hf,.same,h⟩
theorem aBU{k:List Nat}{ts1 ts2 ts3:DTs}{H1 H2 H3:DH}(h1:kN n0 (br k ts) H=(ts1,H1))(h2:kN n0 ts1 H1=(ts2,H2))(h3:br k ts2=ts3)(h4:lJ n0 ts2 H2=H3)(h5:Nat.max n0 (jV ts3 H3)=n1)(h:S ts3 H3 n1):nf n0 (some k) ts H n S:=by simp only[nf,tidy,h1,h2,h3,h4,h5];exact h
end
end Go.Cq.D
namespace Go.Cq.D
open Go.RowKit
section
variable{P:Prg}{n0:Nat}{ts:DTs}{H:DH}{n:Nat}
theorem pd{f:FuncId}{das:List DV}{K K':DT→DTs→DH→Nat→List Nat→Prop}(hK:∀x ts H n τ,K x ts H n τ→K' x ts H n τ)(h:uU P f das ts H n K):uU P f das ts H n K':=by obtain⟨ms,ρ,cas,Hc,Post,J,h1,h2,h3,h4,h5,h6,h7,h7v,h8⟩:=h;refine⟨ms,ρ,cas,Hc,Post,J,h1,h2,h3,h4,h5,h6,h7,h7v,fun res H3 hp=>?_⟩;obtain⟨k2,H',k3,k4⟩:=h8 res H3 hp;exact⟨k2,H',k3,hK _ _ _ _ _ k4⟩
theorem p9{op:COp}{K K':DT→DTs→DH→Nat→List Nat→Prop}(hK:∀x ts H n τ,K x ts H n τ→K' x ts H n τ)(h:d7 P op ts H n K):d7 P op ts H n K':=by
 cases op with
 |fl f=>cases f with
  |cmpNil neg x=>
   simp only[d7]at h ⊢;split at h
   ·exact⟨h.1,fun b hb=>hK _ _ _ _ _ (h.2 b hb)⟩
   ·exact fun b hb=>hK _ _ _ _ _ (h b hb)
   ·exact h
  |_=>obtain⟨r,r',h1,h0,h2⟩:=h;exact⟨r,r',h1,h0,hK _ _ _ _ _ h2⟩
 |build zs ps=>obtain⟨a,b,h1,h2,h3⟩:=h;exact⟨a,b,h1,h2,hK _ _ _ _ _ h3⟩
 |nw y=>cases y with
  |alloc zs=>obtain⟨a,h1,h3⟩:=h;exact⟨a,h1,hK _ _ _ _ _ h3⟩
  |box x=>obtain⟨a,h1,h3⟩:=h;exact⟨a,h1,hK _ _ _ _ _ h3⟩
  |lit zs len ps=>obtain⟨a,b,h1,h2,h3,h4⟩:=h;exact⟨a,b,h1,h2,h3,hK _ _ _ _ _ h4⟩
  |mk zs bytes x y=>obtain⟨a,b,c,h1,h2,h3,h4,h5,h6⟩:=h;exact⟨a,b,c,h1,h2,h3,h4,h5,hK _ _ _ _ _ h6⟩
  |sb x=>obtain⟨a,h1,h3⟩:=h;exact⟨a,h1,hK _ _ _ _ _ h3⟩
 |store m x v=>obtain⟨g,i,k,r,db,db',h1,h2,h3,h4,h5,h6,h7⟩:=h;exact⟨g,i,k,r,db,db',h1,h2,h3,h4,h5,h6,hK _ _ _ _ _ h7⟩
 |app zs bytes x y=>
  obtain⟨dx,dy,ys,gy,h1,h2,h3,h4,h5⟩:=h;refine⟨dx,dy,ys,gy,h1,h2,h3,h4,?_⟩;split at h5
  ·obtain⟨es,k1,k2,k3,k4,k5⟩:=h5;exact⟨es,k1,k2,k3,k4,hK _ _ _ _ _ k5⟩
  ·exact⟨h5.1,h5.2.1,hK _ _ _ _ _ h5.2.2⟩
  ·exact h5.elim
 |call f args=>
  rcases h with⟨gs,das,h1,h2⟩| ⟨das,h1,ms,cas,J,cs,h2,h3,h4,h5,h6,h7,h8⟩
  ·exact .inl ⟨gs,das,h1,pd hK h2⟩
  ·exact .inr ⟨das,h1,ms,cas,J,cs,h2,h3,h4,h5,h6,h7,hK _ _ _ _ _ h8⟩
 |callv x args=>obtain⟨gs,f,caps,das,h1,h2,h3⟩:=h;exact⟨gs,f,caps,das,h1,h2,pd hK h3⟩
 |ext t j=>obtain⟨l,r,h1,h2,h3,h4⟩:=h;exact⟨l,r,h1,h2,h3,hK _ _ _ _ _ h4⟩
 |mkf f caps=>obtain⟨l,h1,h2,h3⟩:=h;exact⟨l,h1,h2,hK _ _ _ _ _ h3⟩
 |cp t=>obtain⟨x,h1,h2,h3⟩:=h;exact⟨x,h1,h2,hK _ _ _ _ _ h3⟩
 |cpy sz x y=>exact h
 |bs x=>obtain⟨b,h1,h2⟩:=h;exact⟨b,h1,hK _ _ _ _ _ h2⟩
 |eqA neg ks x y=>obtain⟨a,b,c,d,e,h1,h2,h3,h4,h5,h6⟩:=h;exact⟨a,b,c,d,e,h1,h2,h3,h4,h5,hK _ _ _ _ _ h6⟩
 |mm mx x y=>obtain⟨a,b,r,h1,h2,h3,h4⟩:=h;exact⟨a,b,r,h1,h2,h3,hK _ _ _ _ _ h4⟩
 |fld x off m=>
  obtain⟨xs,h1,h2⟩:=h;cases m with
  |none=>obtain⟨c,k1,k2⟩:=h2;exact⟨xs,h1,c,k1,hK _ _ _ _ _ k2⟩
  |some m=>exact⟨xs,h1,h2.1,hK _ _ _ _ _ h2.2⟩
 |mop x=>exact h
 |bad=>exact h
theorem lB{op:COp}{K K':DT→DTs→DH→Nat→List Nat→Prop}(hK:∀x ts H n τ,K x ts H n τ→K' x ts H n τ)(h:exec P op ts H n K):exec P op ts H n K':=by
 unfold exec at h ⊢;split at h
 ·obtain⟨es,ks,ls,h⟩:=h;exact⟨es,ks,ls,p9 (fun x ts H n τ h=>hK _ _ _ _ _ h) h⟩
 ·exact p9 hK h
theorem lG(H:DH):ir H H=[]:=by
 unfold ir;rw[List.filter_eq_nil_iff];intro g hg;obtain⟨p,hp,rfl⟩:=List.mem_map.1 hg;have:∀{l:DH},p∈l→∃d,aG l p.1=some d:=by
  intro l;induction l with
  |nil=>intro h;simp at h
  |cons q l ih=>
   intro h;rw[show q=(q.1,q.2)from rfl,aW];split
   ·exact⟨_,rfl⟩
   ·rename_i e;rcases List.mem_cons.1 h with rfl|h
    ·exact absurd rfl e
    ·exact ih h
 obtain⟨d,hd⟩:=this hp;simp[hd]
theorem lD{op:COp}{K:DT→DTs→DH→Nat→List Nat→Prop}(h:d7 P op ts H n K):exec P op ts H n K:=by
 unfold exec;split
 ·refine⟨[],[],[],?_⟩;simp only[eD,dV,lG,List.nil_append];exact h
 ·exact h
theorem aCU{op:COp}{K:DT→DTs→DH→Nat→List Nat→Prop}(hp:w9 op=true)(es:List Loc){ts1:DTs}{H1:DH}{n1:Nat}(he:dU es ts H n=(ts1,H1,n1))(h:d7 P op ts1 H1 n1 K):exec P op ts H n K:=by unfold exec;rw[hp];refine⟨es,?_⟩;rw[he];refine⟨[],[],?_⟩;simp only[eD,dV,lG,List.nil_append];exact h
theorem wK{ci:CI}{S S':DTs→DH→Nat→Prop}(hS:∀ts H n,S ts H n→S' ts H n)(h:oF P ci ts H n S):oF P ci ts H n S':=by
 unfold oF at h ⊢;split at h
 ·exact hS _ _ _ h
 ·exact lB (fun x ts H n τ=>hS _ _ _) h
 ·exact h
theorem q9:∀{l:List CI}{ts:DTs}{H:DH}{n:Nat}{S S':DTs→DH→Nat→Prop},(∀ts H n,S ts H n→S' ts H n)→oO P l ts H n S→oO P l ts H n S':=by
 intro l;induction l with
 |nil=>intro ts H n S S' hS h;exact hS _ _ _ h
 |cons ci l ih=>intro ts H n S S' hS h;exact wK (fun ts H n=>ih hS) h
theorem lr{k:Option (List Nat)}{S S':DTs→DH→Nat→Prop}(hS:∀ts H n,S ts H n→S' ts H n)(h:nf n0 k ts H n S):nf n0 k ts H n S':=by
 cases k with
 |none=>exact hS _ _ _ h
 |some k=>exact hS _ _ _ h
theorem qL{m:Nat}{FL:List Nat}{tab:List RI}{T:List Nat}:∀{l:List RI}{a b c:List Nat}{ts:DTs}{H:DH}{n:Nat}{S S':DTs→DH→Nat→Prop},(∀ts H n,S ts H n→S' ts H n)→nv P m FL tab T l a b c ts H n S→nv P m FL tab T l a b c ts H n S':=by
 intro l;induction l with
 |nil=>intro a b c ts H n S S' hS h;exact hS _ _ _ h
 |cons x l ih=>
  intro a b c ts H n S S' hS h;obtain⟨h1,h2⟩:=h;refine⟨h1,?_⟩;split at h2
  ·exact⟨h2.1,ih hS h2.2⟩
  ·exact lB (fun x ts H n τ h=>⟨h.1,ih hS h.2⟩) h2
  ·exact h2
theorem jY:∀{cc:CC}{ts:DTs}{H:DH}{n:Nat}{Q Q':Kc},(∀x ts H n,Q x ts H n→Q' x ts H n)→gH P n0 cc Q ts H n→gH P n0 cc Q' ts H n:=by
 intro cc;induction cc with
 |skip=>intro ts H n Q Q' hQ h;exact hQ _ _ _ _ h
 |reg l k=>intro ts H n Q Q' hQ h;exact q9 (fun ts H n=>lr (hQ _)) h
 |draw m FL l k=>intro ts H n Q Q' hQ h;exact⟨h.1,qL (fun ts H n=>lr (hQ _)) h.2⟩
 |seq a b iha ihb=>
  intro ts H n Q Q' hQ h;refine iha (fun x ts H n h=>?_) h;cases x with
  |nrm=>exact ihb hQ h
  |ex j=>exact hQ _ _ _ _ h
  |ret=>exact hQ _ _ _ _ h
 |cond y a b iha ihb=>intro ts H n Q Q' hQ h;obtain⟨v,h1,h2,h3⟩:=h;exact⟨v,h1,fun e=>iha hQ (h2 e),fun e=>ihb hQ (h3 e)⟩
 |blk id a ih=>
  intro ts H n Q Q' hQ h;refine ih (fun x ts H n h=>?_) h;cases x with
  |nrm=>exact hQ _ _ _ _ h
  |ret=>exact hQ _ _ _ _ h
  |ex j=>
   simp only at h ⊢;split
   ·rename_i e;rw[if_pos e]at h;exact hQ _ _ _ _ h
   ·rename_i e;rw[if_neg e]at h;exact hQ _ _ _ _ h
 |loop a ih=>
  intro ts H n Q Q' hQ h;obtain⟨Inv,k,h1,h2⟩:=h;refine⟨Inv,k,h1,fun k ts H n hi=>ih (fun x ts H n h=>?_) (h2 k ts H n hi)⟩;cases x with
  |nrm=>exact h
  |ex j=>exact hQ _ _ _ _ h
  |ret=>exact hQ _ _ _ _ h
 |exit id=>intro ts H n Q Q' hQ h;exact hQ _ _ _ _ h
 |ret=>intro ts H n Q Q' hQ h;exact hQ _ _ _ _ h
end
end Go.Cq.D
namespace Go.Cq.D
open Go.RowKit
noncomputable def fN(n:Nat):(Nat→Prop)→Prop:=Nat.rec (motive:=fun _=>(Nat→Prop)→Prop) (fun k=>k 0) (fun _ ih k=>ih fun m'=>k (Nat.succ m')) n
theorem aCB(m:Nat)(k:Nat→Prop):fN (m+1) k=fN m fun m'=>k (m'+1):=rfl
def fCV(v:CV)(k:CV→Prop):Prop:=match v with
 |.bool b=>k (.bool b)
 |.int t n=>k (.int t n)
 |.str s=>k (.str s)
 |v=>k v
noncomputable def fDC(c:DC)(k:DC→Prop):Prop:=match c with
 |.sc v=>fCV v fun v=>k (.sc v)
 |.own sz es=>fN sz fun sz=>k (.own sz es)
 |.ro b sz es=>k (.ro b sz es)
 |.sl g lo len=>fN g fun g=>k (.sl g lo len)
 |.ptr g i j=>fN g fun g=>fN j fun j=>k (.ptr g i j)
 |c=>k c
noncomputable def fL(l:List DC):(List DC→Prop)→Prop:=List.rec (motive:=fun _=>(List DC→Prop)→Prop) (fun k=>k []) (fun c _ ih k=>fDC c fun c=>ih fun l=>k (c::l)) l
theorem aC9(c:DC)(l:List DC)(k:List DC→Prop):fL (c::l) k=fDC c fun c=>fL l fun l=>k (c::l):=rfl
noncomputable def fDV(x:DV)(k:DV→Prop):Prop:=match x with
 |.one c=>fDC c fun c=>k (.one c)
 |.agg cs=>fL cs fun cs=>k (.agg cs)
noncomputable def fLV(l:List DV):(List DV→Prop)→Prop:=List.rec (motive:=fun _=>(List DV→Prop)→Prop) (fun k=>k []) (fun c _ ih k=>fDV c fun c=>ih fun l=>k (c::l)) l
theorem aBb(c:DV)(l:List DV)(k:List DV→Prop):fLV (c::l) k=fDV c fun c=>fLV l fun l=>k (c::l):=rfl
noncomputable def fDT(x:DT)(k:DT→Prop):Prop:=match x with
 |.v x=>fDV x fun x=>k (.v x)
 |.tup l=>fLV l fun l=>k (.tup l)
 |.gone=>k .gone
noncomputable def fTs(l:DTs):(DTs→Prop)→Prop:=List.rec (motive:=fun _=>(DTs→Prop)→Prop) (fun k=>k []) (fun p _ ih k=>Prod.rec (motive:=fun _=>Prop) (fun t x=>fDT x fun x=>ih fun l=>k ((t,x)::l)) p) l
theorem zU(t:Nat)(x:DT)(l:DTs)(k:DTs→Prop):fTs ((t,x)::l) k=fDT x fun x=>fTs l fun l=>k ((t,x)::l):=rfl
noncomputable def fOv(l:List (Nat×Nat×DC)):(List (Nat×Nat×DC)→Prop)→Prop:=List.rec (motive:=fun _=>(List (Nat×Nat×DC)→Prop)→Prop) (fun k=>k []) (fun p _ ih k=>Prod.rec (motive:=fun _=>Prop) (fun i q=>Prod.rec (motive:=fun _=>Prop) (fun j x=>fDC x fun x=>ih fun l=>k ((i,j,x)::l)) q) p) l
theorem aAa(i j:Nat)(x:DC)(l:List (Nat×Nat×DC))(k:List (Nat×Nat×DC)→Prop):fOv ((i,j,x)::l) k=fDC x fun x=>fOv l fun l=>k ((i,j,x)::l):=rfl
noncomputable def fDB(d:DB)(k:DB→Prop):Prop:=match d with
 |.arr sz es ov=>fN sz fun sz=>fOv ov fun ov=>k (.arr sz es ov)
 |.box cs=>fL cs fun cs=>k (.box cs)
noncomputable def fDH(l:DH):(DH→Prop)→Prop:=List.rec (motive:=fun _=>(DH→Prop)→Prop) (fun k=>k []) (fun p _ ih k=>Prod.rec (motive:=fun _=>Prop) (fun g d=>fN g fun g=>fDB d fun d=>ih fun l=>k ((g,d)::l)) p) l
theorem aBE(g:Nat)(d:DB)(l:DH)(k:DH→Prop):fDH ((g,d)::l) k=fN g fun g=>fDB d fun d=>fDH l fun l=>k ((g,d)::l):=rfl
noncomputable def fRs(l:List (Loc×DC)):(List (Loc×DC)→Prop)→Prop:=List.rec (motive:=fun _=>(List (Loc×DC)→Prop)→Prop) (fun k=>k []) (fun p _ ih k=>Prod.rec (motive:=fun _=>Prop) (fun ℓ c=>fDC c fun c=>ih fun l=>k ((ℓ,c)::l)) p) l
theorem aA3(ℓ:Loc)(c:DC)(l:List (Loc×DC))(k:List (Loc×DC)→Prop):fRs ((ℓ,c)::l) k=fDC c fun c=>fRs l fun l=>k ((ℓ,c)::l):=rfl
theorem ny:∀(n:Nat)(k:Nat→Prop),fN n k=k n:=by
 intro n;induction n with
 |zero=>intro k;rfl
 |succ n ih=>intro k;simp only[aCB,ih]
theorem aDu(v:CV)(k:CV→Prop):fCV v k=k v:=by cases v<;>rfl
theorem sC(v:DC)(k:DC→Prop):fDC v k=k v:=by cases v<;>simp only[fDC,ny,aDu]
theorem aCu:∀(v:List DC)(k:List DC→Prop),fL v k=k v:=by
 intro v;induction v with
 |nil=>intro k;rfl
 |cons c l ih=>intro k;simp only[aC9,sC,ih]
theorem aBF(v:DV)(k:DV→Prop):fDV v k=k v:=by cases v<;>simp only[fDV,sC,aCu]
theorem aD9:∀(v:List DV)(k:List DV→Prop),fLV v k=k v:=by
 intro v;induction v with
 |nil=>intro k;rfl
 |cons c l ih=>intro k;simp only[aBb,aBF,ih]
theorem sj(v:DT)(k:DT→Prop):fDT v k=k v:=by cases v<;>simp only[fDT,aBF,aD9]
theorem kT:∀(v:DTs)(k:DTs→Prop),fTs v k=k v:=by
 intro v;induction v with
 |nil=>intro k;rfl
 |cons c l ih=>intro k;obtain⟨t,x⟩:=c;simp only[zU,sj,ih]
theorem aDi:∀(v:List (Nat×Nat×DC))(k:List (Nat×Nat×DC)→Prop),fOv v k=k v:=by
 intro v;induction v with
 |nil=>intro k;rfl
 |cons c l ih=>intro k;obtain⟨i,j,x⟩:=c;simp only[aAa,sC,ih]
theorem aDa(v:DB)(k:DB→Prop):fDB v k=k v:=by cases v<;>simp only[fDB,ny,aDi,aCu]
theorem kI:∀(v:DH)(k:DH→Prop),fDH v k=k v:=by
 intro v;induction v with
 |nil=>intro k;rfl
 |cons c l ih=>intro k;obtain⟨g,d⟩:=c;simp only[aBE,ny,aDa,ih]
theorem wZ:∀(v:List (Loc×DC))(k:List (Loc×DC)→Prop),fRs v k=k v:=by
 intro v;induction v with
 |nil=>intro k;rfl
 |cons c l ih=>intro k;obtain⟨g,d⟩:=c;simp only[aA3,sC,ih]
structure CondP(v:Bool)(A B:Prop):Prop where
 yes:v=true→A
 no:v=false→B
structure OpP(P:Prg)(op:COp)(ts:DTs)(H:DH)(n:Nat)(K:DT→DTs→DH→Nat→List Nat→Prop):Prop where
 ok:exec P op ts H n K
structure LoopP(P:Prg)(n0:Nat)(a:CC)(Q:Kc)(ts:DTs)(H:DH)(n:Nat):Prop where
 ok:gH P n0 (.loop a) Q ts H n
def wq(ts:DTs)(H:DH):FOp→Bool
 |.mov _=>true
 |.pick ..=>true
 |.nilCheck _=>true
 |.binB ..=>true
 |.un ..=>true
 |.conv ..=>true
 |.fieldAddr ..=>true
 |.lenS _=>true
 |.len _=>true
 |.bin op x _=>match evS ts x with
  |some (.str _)=>match op with
   |.add=>false
   |_=>true
  |_=>match op with
   |.quo|.rem|.shl|.shr=>false
   |_=>true
 |.load _ x=>match cC ts x with
  |some (.ptr g _ _)=>match aG H g with
   |some (.box _)=>true
   |_=>false
  |_=>false
 |_=>false
def jz(op:COp)(ts:DTs)(H:DH)(n:Nat):Option (DT×DH×Nat×List Nat):=match op with
 |.fl f=>cond (wq ts H f) (match dfl ts H f with
  |some r=>some (.v r,H,n,[])
  |none=>none) none
 |.cp t=>match an ts t with
  |some x=>cond x.plain (some (x,H,n,[])) none
  |none=>none
 |.build zs ps=>match iV zs with
  |some cs0=>match qe ts ps cs0 with
   |some cs=>some (.v (.agg cs),H,n,[])
   |none=>none
  |none=>none
 |.nw (.alloc zs)=>match iV zs with
  |some cs=>some (.v (.one (.ptr n 0 0)),(n,.box cs)::H,n+1,[])
  |none=>none
 |.nw (.box x)=>match evD ts x with
  |some r=>some (.v (.one (.ptr n 0 0)),(n,.box r.cells)::H,n+1,[])
  |none=>none
 |.ext t j=>match an ts t with
  |some (.tup l)=>match l[j]? with
   |some r=>cond r.plain (some (.v r,H,n,[])) none
   |none=>none
  |_=>none
 |.store m x v=>match cC ts x,evD ts v with
  |some (.ptr g i k),some r=>match aG H g with
   |some (.box cs)=>cond (Nat.beq r.cells.length m&&Nat.blt 0 m) (match wrN i k r.cells (.box cs)with
    |some db'=>some (.gone,cj g db' H,n,[g])
    |none=>none) none
   |_=>none
  |_,_=>none
 |_=>none
theorem aAG{P:Prg}{op:COp}{ts:DTs}{H:DH}{n:Nat}{x:DT}{H':DH}{n':Nat}{τ:List Nat}{K:DT→DTs→DH→Nat→List Nat→Prop}(h:jz op ts H n=some (x,H',n',τ))(hK:K x ts H' n' τ):exec P op ts H n K:=by
 cases op with
 |fl f=>
  simp only[jz]at h;cases hs:wq ts H f with
  |false=>rw[hs]at h;simp at h
  |true=>
   rw[hs]at h;simp only[cond_true]at h;split at h
   ·rename_i r hr;cases h;exact zL hr hK
   ·simp at h
 |cp t=>
  simp only[jz]at h;split at h
  ·rename_i y hy;cases hp:y.plain with
   |false=>rw[hp]at h;simp at h
   |true=>rw[hp]at h;simp only[cond_true,Option.some.injEq,Prod.mk.injEq]at h;obtain⟨rfl,rfl,rfl,rfl⟩:=h;exact⟨_,hy,hp,hK⟩
  ·simp at h
 |build zs ps=>
  simp only[jz]at h;split at h
  ·rename_i cs0 h0;split at h
   ·rename_i cs h1;cases h;exact⟨cs0,cs,h0,h1,hK⟩
   ·simp at h
  ·simp at h
 |nw y=>cases y with
  |alloc zs=>
   simp only[jz]at h;split at h
   ·rename_i cs h0;cases h;exact⟨cs,h0,hK⟩
   ·simp at h
  |box y=>
   simp only[jz]at h;split at h
   ·rename_i r h0;cases h;exact⟨r,h0,hK⟩
   ·simp at h
  |_=>simp[jz]at h
 |ext t j=>
  simp only[jz]at h;split at h
  ·rename_i l hl;split at h
   ·rename_i r hr;cases hp:r.plain with
    |false=>rw[hp]at h;simp at h
    |true=>rw[hp]at h;simp only[cond_true,Option.some.injEq,Prod.mk.injEq]at h;obtain⟨rfl,rfl,rfl,rfl⟩:=h;exact⟨l,r,hl,hr,hp,hK⟩
   ·simp at h
  ·simp at h
 |store m y v=>
  simp only[jz]at h;split at h
  ·rename_i g i k r h1 h2;split at h
   ·rename_i cs h3;cases hc:(Nat.beq r.cells.length m&&Nat.blt 0 m)with
    |false=>rw[hc]at h;simp at h
    |true=>
     rw[hc]at h;simp only[cond_true]at h;simp only[Bool.and_eq_true]at hc;split at h
     ·rename_i db' h4;cases h;have e1:=Nat.eq_of_beq_eq_true hc.1;have e2:0<m:=by simpa using hc.2
      exact⟨g,i,k,r,.box cs,db',h1,h2,e1,by omega,h3,h4,hK⟩
     ·simp at h
   ·simp at h
  ·simp at h
 |_=>simp[jz]at h
def aDN:COp→Bool
 |.store ..=>true
 |.nw _=>true
 |_=>false
noncomputable def opX(P:Prg)(op:COp)(ts:DTs)(H:DH)(n:Nat)(K:DT→DTs→DH→Nat→List Nat→Prop):Prop:=match jz op ts H n with
 |some (x,H',n',τ)=>fDT x fun x=>cond (aDN op) (fDH H' fun H'=>fN n' fun n'=>K x ts H' n' τ) (K x ts H' n' τ)
 |none=>OpP P op ts H n K
theorem aDc{P:Prg}{op:COp}{ts:DTs}{H:DH}{n:Nat}{K:DT→DTs→DH→Nat→List Nat→Prop}(h:opX P op ts H n K):exec P op ts H n K:=by
 unfold opX at h;split at h
 ·rename_i he;simp only[sj,kI,ny,Bool.cond_self]at h;exact aAG he h
 ·exact h.ok
noncomputable def tA(ts:DTs)(g:Option (Nat×Bool))(A B:Prop):Prop:=match g with
 |none=>A
 |some (t,want)=>match an ts t with
  |some (.v (.one (.sc (.bool b))))=>cond want (CondP b A B) (CondP b B A)
  |some (.tup [])=>B
  |_=>False
theorem qk{ts:DTs}{g:Option (Nat×Bool)}{A B:Prop}(h:tA ts g A B):(eE ts g=some true∧A)∨(eE ts g=some false∧B):=by
 unfold tA at h;split at h
 ·exact .inl ⟨rfl,h⟩
 ·rename_i t want;split at h
  ·rename_i b hb;cases want<;>cases b<;>simp only[cond_true,cond_false]at h
   ·exact .inl ⟨by simp[eE,hb],h.no rfl⟩
   ·exact .inr ⟨by simp[eE,hb],h.yes rfl⟩
   ·exact .inr ⟨by simp[eE,hb],h.no rfl⟩
   ·exact .inl ⟨by simp[eE,hb],h.yes rfl⟩
  ·rename_i hb;exact .inr ⟨by simp[eE,hb],h⟩
  ·exact h.elim
noncomputable def aCS(ih:DTs→DH→Nat→(DTs→DH→Nat→Prop)→Prop)(ℓ:Loc)(ts:DTs)(H:DH)(n:Nat)(k:DTs→DH→Nat→Prop):Prop:=match aa ts H ℓ with
  |some (.own sz es)=>match D.fh ts ((n,.arr sz es [])::H) ℓ (.sl n 0 es.length)with
   | (a,b)=>fTs a fun a=>fDH b fun b=>fN (n+1) fun n'=>ih a b n' k
  |_=>ih ts H n k
noncomputable def yj(l:List Loc):DTs→DH→Nat→(DTs→DH→Nat→Prop)→Prop:=List.rec (motive:=fun _=>DTs→DH→Nat→(DTs→DH→Nat→Prop)→Prop) (fun ts H n k=>k ts H n) (fun ℓ _ ih=>aCS ih ℓ) l
theorem rF(ℓ:Loc)(l:List Loc):yj (ℓ::l)=aCS (yj l) ℓ:=rfl
theorem sD:∀(l:List Loc)(ts:DTs)(H:DH)(n:Nat)(k:DTs→DH→Nat→Prop),yj l ts H n k=k (dU l ts H n).1 (dU l ts H n).2.1 (dU l ts H n).2.2:=by
 intro l;induction l with
 |nil=>intro ts H n k;rfl
 |cons ℓ l ih=>
  intro ts H n k;cases hq:aa ts H ℓ with
  |none=>simp only[rF,aCS,dU,D.exp,hq,ih]
  |some c=>cases c<;>simp only[rF,aCS,dU,D.exp,hq,kT,kI,ny,ih]
noncomputable def aEF(ts:DTs)(op:COp)(H:DH)(n:Nat)(k:DTs→DH→Nat→Prop):Prop:=yj (cT ts op.reads++d9 ts op) ts H n k
def aDK(ts:DTs)(H:DH):COp→Bool
 |.fl (.load _ x)=>match cC ts x with
  |some (.ptr g _ _)=>match aG H g with
   |some (.arr _ _ _)=>true
   |_=>false
  |_=>false
 |_=>false
structure LdP(P:Prg)(op:COp)(ts:DTs)(H:DH)(n:Nat)(K:DTs→DH→DT→DTs→DH→Nat→List Nat→Prop):Prop where
 ok:match dU (cT ts op.reads++d9 ts op) ts H n with
  | (ts1,H1,n1)=>exec P op ts1 H1 n1 (K ts1 H1)
noncomputable def xA(P:Prg)(op:COp)(ts:DTs)(H:DH)(n:Nat)(K:DTs→DH→DT→DTs→DH→Nat→List Nat→Prop):Prop:=cond (aDK ts H op) (LdP P op ts H n K) (aEF ts op H n fun ts1 H1 n1=>opX P op ts1 H1 n1 (K ts1 H1))
theorem tz{P:Prg}{op:COp}{ts ts1:DTs}{H H1:DH}{n n1:Nat}{K:DTs→DH→DT→DTs→DH→Nat→List Nat→Prop}(h:xA P op ts H n K)(he:dU (cT ts op.reads++d9 ts op) ts H n=(ts1,H1,n1)):exec P op ts1 H1 n1 (K ts1 H1):=by
 unfold xA at h;cases hb:aDK ts H op with
 |true=>rw[hb]at h;have:=(show LdP P op ts H n K from h).ok;rw[he]at this;exact this
 |false=>rw[hb]at h;simp only[cond_false,aEF]at h;rw[sD,he]at h;exact aDc h
def ub(d:Option Nat)(x:DT)(ts:DTs)(k:DTs→Prop):Prop:=match d with
 |some d=>k ((d,x)::ts)
 |none=>k ts
noncomputable def aDs(P:Prg)(ci:CI)(ih:DTs→DH→Nat→(DTs→DH→Nat→Prop)→Prop)(ts:DTs)(H:DH)(n:Nat)(S:DTs→DH→Nat→Prop):Prop:=tA ts ci.g
   (xA P ci.op ts H n fun _ _ x ts' H' n' _=>ub ci.d x ts' fun ts2=>ih ts2 H' n' S)
   (ub ci.d (.tup []) ts fun ts2=>ih ts2 H n S)
def aEb(ts:DTs)(H:DH)(n:Nat)(S:DTs→DH→Nat→Prop):Prop:=S ts H n
noncomputable def oL(P:Prg)(l:List CI):DTs→DH→Nat→(DTs→DH→Nat→Prop)→Prop:=List.rec (motive:=fun _=>DTs→DH→Nat→(DTs→DH→Nat→Prop)→Prop) aEb (fun ci _ ih=>aDs P ci ih) l
theorem yR(P:Prg)(ci:CI)(l:List CI):oL P (ci::l)=aDs P ci (oL P l):=rfl
noncomputable def fJ(l:List Nat):(List Nat→Prop)→Prop:=List.rec (motive:=fun _=>(List Nat→Prop)→Prop) (fun k=>k []) (fun a _ ih k=>ih fun l=>k (a::l)) l
theorem aC8(a:Nat)(l:List Nat)(k:List Nat→Prop):fJ (a::l) k=fJ l fun l=>k (a::l):=rfl
theorem aBV:∀(l:List Nat)(k:List Nat→Prop),fJ l k=k l:=by
 intro l;induction l with
 |nil=>intro k;rfl
 |cons a l ih=>intro k;simp only[aC8,ih]
noncomputable def aAz(P:Prg)(m:Nat)(FL:List Nat)(tab:List RI)(T:List Nat)(x:RI)(l:List RI)(ih:List Nat→List Nat→List Nat→DTs→DH→Nat→(DTs→DH→Nat→Prop)→Prop)(used u js:List Nat)(ts:DTs)(H:DH)(n:Nat)(S:DTs→DH→Nat→Prop):Prop:=
 cond (xE m FL T used u x) (tA ts x.ci.g
   (xA P x.ci.op ts H n fun ts1 H1 r ts' H' n' τ=>fJ (jo tab x ts1 H1 τ js) fun J=>cond (sI J x.rs) (fJ (qa l J) fun J'=>fJ (lO x u) fun u'=>ub x.ci.d r ts' fun ts2=>ih (x.k::used) u' J' ts2 H' n' S) False)
   (fJ (qQ x (jt tab x js)) fun J=>cond (sI J x.rs) (fJ (qa l J) fun J'=>ub x.ci.d (.tup []) ts fun ts2=>ih (x.k::used) u J' ts2 H n S) False)) False
def aEf(_ _ _:List Nat)(ts:DTs)(H:DH)(n:Nat)(S:DTs→DH→Nat→Prop):Prop:=S ts H n
noncomputable def pD(P:Prg)(m:Nat)(FL:List Nat)(tab:List RI)(T:List Nat)(l:List RI):List Nat→List Nat→List Nat→DTs→DH→Nat→(DTs→DH→Nat→Prop)→Prop:=List.rec (motive:=fun _=>List Nat→List Nat→List Nat→DTs→DH→Nat→(DTs→DH→Nat→Prop)→Prop) aEf (fun x l ih=>aAz P m FL tab T x l ih) l
theorem vU(P:Prg)(m:Nat)(FL:List Nat)(tab:List RI)(T:List Nat)(x:RI)(l:List RI):pD P m FL tab T (x::l)=aAz P m FL tab T x l (pD P m FL tab T l):=rfl
noncomputable def qH(n0:Nat)(ts:DTs)(H:DH)(k:DH→Prop):Prop:=fRs (jf ts++jj H) fun rs=>fDH (fR (iB n0 rs H) H) k
structure CloseP(ts:DTs)(H:DH)(ℓ:Loc)(K:DTs→DH→Prop):Prop where
 ok:K (close ts H ℓ).1 (close ts H ℓ).2
def aAY(H:DH):Loc→Bool
 |.h g _ _=>match aG H g with
  |some (.arr _ _ _)=>true
  |_=>false
 |_=>false
noncomputable def wS(ts:DTs)(H:DH)(ℓ:Loc)(K:DTs→DH→Prop):Prop:=cond (aAY H ℓ) (CloseP ts H ℓ K) (match close ts H ℓ with
 | (a,b)=>fTs a fun a=>fDH b fun b=>K a b)
theorem x4{ts:DTs}{H:DH}{ℓ:Loc}{K:DTs→DH→Prop}(h:wS ts H ℓ K):K (close ts H ℓ).1 (close ts H ℓ).2:=by
 unfold wS at h;cases hb:aAY H ℓ with
 |true=>rw[hb]at h;exact(show CloseP ts H ℓ K from h).ok
 |false=>rw[hb]at h;simp only[cond_false,kT,kI]at h;exact h
noncomputable def sQ(l:List Loc):DTs→DH→(DTs→DH→Prop)→Prop:=List.rec (motive:=fun _=>DTs→DH→(DTs→DH→Prop)→Prop) (fun ts H K=>K ts H) (fun ℓ _ ih ts H K=>wS ts H ℓ fun ts H=>ih ts H K) l
theorem vi:∀{l:List Loc}{ts:DTs}{H:DH}{K:DTs→DH→Prop},sQ l ts H K→K (dV l ts H).1 (dV l ts H).2:=by
 intro l;induction l with
 |nil=>intro ts H K h;exact h
 |cons ℓ l ih=>intro ts H K h;exact ih (x4 (K:=fun ts H=>sQ l ts H K) h)
noncomputable def tF(n0:Nat)(ts:DTs)(H:DH)(k:DTs→DH→Prop):Prop:=fRs (jf ts++jj H) fun rs=>sQ (gh n0 rs H) ts H k
theorem zA(n0:Nat)(ts:DTs)(H:DH)(k:DH→Prop):qH n0 ts H k=k (lJ n0 ts H):=by simp only[qH,wZ,kI,lJ]
theorem qu{n0:Nat}{ts:DTs}{H:DH}{k:DTs→DH→Prop}(h:tF n0 ts H k):k (aBJ n0 ts H).1 (aBJ n0 ts H).2:=by simp only[tF,wZ]at h;exact vi h
noncomputable def mxL(l:List Nat):Nat→(Nat→Prop)→Prop:=List.rec (motive:=fun _=>Nat→(Nat→Prop)→Prop) (fun a k=>k a) (fun x _ ih a k=>cond (Nat.blt a (x+1)) (fN (x+1) fun a=>ih a k) (ih a k)) l
theorem aBS(x:Nat)(l:List Nat)(a:Nat)(k:Nat→Prop):mxL (x::l) a k=cond (Nat.blt a (x+1)) (fN (x+1) fun a=>mxL l a k) (mxL l a k):=rfl
theorem aDn:∀(l:List Nat)(a:Nat)(k:Nat→Prop),mxL l a k=k (Nat.max a (oJ l)):=by
 intro l;induction l with
 |nil=>intro a k;show k a=_;rw[oJ,show Nat.max a 0=a from Nat.max_eq_left (Nat.zero_le a)]
 |cons x l ih=>
  intro a k;rw[aBS,ny,ih,ih,oJ];cases hb:Nat.blt a (x+1)with
  |true=>
   have h:a<x+1:=by simpa using hb
   rw[cond_true];congr 1;show max (x+1) (oJ l)=max a (max (x+1) (oJ l));omega
  |false=>
   have h:¬a<x+1:=fun h=>by rw[show a.blt (x+1)=true from by rw[Nat.blt_eq];exact h]at hb;simp at hb
   rw[cond_false];congr 1;show max a (oJ l)=max a (max (x+1) (oJ l));omega
noncomputable def lR(n0:Nat)(k:Option (List Nat))(ts:DTs)(H:DH)(n:Nat)(S:DTs→DH→Nat→Prop):Prop:=match k with
 |none=>S ts H n
 |some k=>match H with
  | []=>fTs (br k ts) fun ts0=>cond (Nat.ble (jV ts0 []) n0) (S ts0 [] n0) (fN (Nat.max n0 (jV ts0 [])) fun n'=>S ts0 [] n')
  |H=>fTs (br k ts) fun ts0=>qH n0 ts0 H fun H0=>tF n0 ts0 H0 fun ts1 H1=>qH n0 ts1 H1 fun H2=>tF n0 ts1 H2 fun ts2 H3=>fTs (br k ts2) fun ts3=>qH n0 ts2 H3 fun H4=>fRs (jf ts3++jj H4) fun rs=>mxL (H4.map (·.1)) n0 fun a=>mxL (rs.flatMap fun p=>p.2.tags) a fun n'=>fN n' fun n'=>S ts3 H4 n'
def aEY(c:Kc→DTs→DH→Nat→Prop)(Q:Kc)(x:X)(ts:DTs)(H:DH)(n:Nat):Prop:=match x with
 |.nrm=>c Q ts H n
 |x=>Q x ts H n
def aDw(id:Nat)(Q:Kc)(x:X)(ts:DTs)(H:DH)(n:Nat):Prop:=match x with
 |.ex j=>Q (cond (Nat.beq j id) .nrm (.ex j)) ts H n
 |x=>Q x ts H n
abbrev KcX:=Kc→DTs→DH→Nat→Prop
noncomputable def aEN(Q:Kc)(ts:DTs)(H:DH)(n:Nat):Prop:=Q .nrm ts H n
noncomputable def aEi(P:Prg)(n0:Nat)(l:List CI)(k:Option (List Nat))(Q:Kc)(ts:DTs)(H:DH)(n:Nat):Prop:=oL P l ts H n fun ts H n=>lR n0 k ts H n (Q .nrm)
noncomputable def aDz(P:Prg)(n0 m:Nat)(FL:List Nat)(l:List RI)(k:Option (List Nat))(Q:Kc)(ts:DTs)(H:DH)(n:Nat):Prop:=cond (ig l) (fJ (tOf FL l ts H) fun T=>pD P m FL l T l [] [] [] ts H n fun ts H n=>lR n0 k ts H n (Q .nrm)) False
noncomputable def aEm(a b:KcX)(Q:Kc)(ts:DTs)(H:DH)(n:Nat):Prop:=a (aEY b Q) ts H n
noncomputable def aAF(y:Opd)(a b:KcX)(Q:Kc)(ts:DTs)(H:DH)(n:Nat):Prop:=match evS ts y with
  |some (.bool v)=>CondP v (a Q ts H n) (b Q ts H n)
  |_=>False
noncomputable def aEp(id:Nat)(a:KcX)(Q:Kc)(ts:DTs)(H:DH)(n:Nat):Prop:=a (aDw id Q) ts H n
def aE2(P:Prg)(n0:Nat)(a:CC)(Q:Kc)(ts:DTs)(H:DH)(n:Nat):Prop:=LoopP P n0 a Q ts H n
def aEA(id:Nat)(Q:Kc)(ts:DTs)(H:DH)(n:Nat):Prop:=Q (.ex id) ts H n
def aEk(Q:Kc)(ts:DTs)(H:DH)(n:Nat):Prop:=Q .ret ts H n
noncomputable def po(P:Prg)(n0:Nat)(cc:CC):KcX:=CC.rec (motive:=fun _=>KcX) aEN (aEi P n0) (aDz P n0) (fun _ _ a b=>aEm a b) (fun y _ _ a b=>aAF y a b) (fun id _ a=>aEp id a) (fun a _=>aE2 P n0 a) aEA aEk cc
section
variable{P:Prg}{n0:Nat}
theorem wy:∀{l:List CI}{ts:DTs}{H:DH}{n:Nat}{S:DTs→DH→Nat→Prop},oL P l ts H n S→oO P l ts H n S:=by
 intro l;induction l with
 |nil=>intro ts H n S h;exact h
 |cons ci l ih=>
  intro ts H n S h;simp only[yR,aDs]at h;rcases qk h with⟨hw,h⟩| ⟨hw,h⟩
  ·generalize he:dU (cT ts ci.op.reads++d9 ts ci.op) ts H n=p;obtain⟨ts1,H1,n1⟩:=p;refine aDf hw he (lB (fun x ts' H' n' τ hk=>?_) (tz h he));unfold ub at hk;cases hd:ci.d<;>rw[hd]at hk<;>exact ih hk
  ·refine aD7 hw ?_;unfold ub at h;cases hd:ci.d<;>rw[hd]at h<;>exact ih h
theorem uf{m:Nat}{FL:List Nat}{tab:List RI}{T:List Nat}:∀{l:List RI}{a b c:List Nat}{ts:DTs}{H:DH}{n:Nat}{S:DTs→DH→Nat→Prop},pD P m FL tab T l a b c ts H n S→nv P m FL tab T l a b c ts H n S:=by
 intro l;induction l with
 |nil=>intro a b c ts H n S h;exact h
 |cons x l ih=>
  intro a b c ts H n S h;simp only[vU,aAz]at h;cases hp:xE m FL T a b x with
  |false=>rw[hp]at h;exact h.elim
  |true=>
   rw[hp]at h;simp only[cond_true]at h;refine⟨hp,?_⟩;rcases qk h with⟨hw,h⟩| ⟨hw,h⟩
   ·simp only[hw];generalize he:dU (cT ts x.ci.op.reads++d9 ts x.ci.op) ts H n=p;obtain⟨ts1,H1,n1⟩:=p;refine lB (fun r ts' H' n' τ hk=>?_) (tz h he);simp only[aBV]at hk;cases hj:sI (jo tab x ts1 H1 τ c) x.rs with
    |false=>rw[hj]at hk;exact hk.elim
    |true=>rw[hj]at hk;simp only[cond_true]at hk;refine⟨rfl,?_⟩;unfold ub at hk;cases hd:x.ci.d<;>rw[hd]at hk<;>exact ih hk
   ·simp only[hw];simp only[aBV]at h;cases hj:sI (qQ x (jt tab x c)) x.rs with
    |false=>rw[hj]at h;exact h.elim
    |true=>rw[hj]at h;simp only[cond_true]at h;refine⟨rfl,?_⟩;unfold ub at h;cases hd:x.ci.d<;>rw[hd]at h<;>exact ih h
theorem tL(k:List Nat)(ts:DTs):br k (br k ts)=br k ts:=by
 have key:∀t,t∈k→an (br k ts) t=an ts t:=fun t ht=>by
  cases h:an (br k ts) t with
  |some x=>exact(gM h).1.symm
  |none=>
   cases h2:an ts t with
   |none=>rfl
   |some x=>
    exfalso;have:∀l:List Nat,t∈l→an (br l ts) t≠none:=by
     intro l;induction l with
     |nil=>intro hm;simp at hm
     |cons j l ih=>
      intro hm;simp only[br,List.filterMap_cons];by_cases e:j=t
      ·subst e;simp[h2,bK]
      ·have hm':t∈l:=by
        rcases List.mem_cons.1 hm with h|h
        ·exact absurd h.symm e
        ·exact h
       cases hj:an ts j with
       |none=>exact ih hm'
       |some y=>
        simp only[Option.map_some];rw[bK];split
        ·simp
        ·exact ih hm'
    exact this k ht h
 have cg:∀(l:List Nat)(f g:Nat→Option (Nat×DT)),(∀k,k∈l→f k=g k)→l.filterMap f=l.filterMap g:=by
  intro l f g hfg;induction l with
  |nil=>rfl
  |cons k l ih=>rw[List.filterMap_cons,List.filterMap_cons,hfg k (by simp),ih fun k hk=>hfg k (by simp[hk])]
 exact cg k _ _ fun j hj=>by rw[key j hj]
theorem mY{k:Option (List Nat)}{ts:DTs}{H:DH}{n:Nat}{S:DTs→DH→Nat→Prop}(h:lR n0 k ts H n S):nf n0 k ts H n S:=by
 cases k with
 |none=>exact h
 |some k=>
  cases H with
  |nil=>
   simp only[lR,kT,ny]at h;have h':S (br k ts) [] (Nat.max n0 (jV (br k ts) [])):=by
    cases hb:Nat.ble (jV (br k ts) []) n0 with
    |true=>rw[hb]at h;have:Nat.max n0 (jV (br k ts) [])=n0:=Nat.max_eq_left (Nat.le_of_ble_eq_true hb);rw[this];exact h
    |false=>rw[hb]at h;exact h
   exact aBU (ts1:=br k ts) (ts2:=br k ts) (ts3:=br k ts) (H1:=[]) (H2:=[]) (H3:=[]) rfl rfl (tL k ts) rfl rfl h'
  |cons p l=>
   simp only[lR,kT,zA,ny,wZ,aDn]at h;have h:=qu h;have h:=qu h;have e:∀a b c:Nat,Nat.max (Nat.max a b) c=Nat.max a (Nat.max b c):=fun a b c=>by show max (max a b) c=max a (max b c);omega
   simp only[e]at h;exact aBU (ts1:=(kN n0 (br k ts) (p::l)).1) (H1:=(kN n0 (br k ts) (p::l)).2) rfl rfl rfl rfl rfl h
theorem oj:∀{cc:CC}{ts:DTs}{H:DH}{n:Nat}{Q:Kc},po P n0 cc Q ts H n→gH P n0 cc Q ts H n:=by
 intro cc;induction cc with
 |skip=>intro ts H n Q h;exact h
 |reg l k=>intro ts H n Q h;exact q9 (fun ts H n=>mY) (wy h)
 |draw m FL l k=>
  intro ts H n Q h;change cond (ig l) (fJ (tOf FL l ts H) fun T=>pD P m FL l T l [] [] [] ts H n fun ts H n=>lR n0 k ts H n (Q .nrm)) False at h;rw[aBV]at h;cases hk:ig l with
  |false=>rw[hk]at h;exact h.elim
  |true=>rw[hk]at h;exact⟨hk,qL (fun ts H n=>mY) (uf h)⟩
 |seq a b iha ihb=>
  intro ts H n Q h;refine aER (jY (fun x ts H n h=>?_) (iha (Q:=aEY (po P n0 b) Q) h));cases x with
  |nrm=>exact ihb h
  |ex j=>exact h
  |ret=>exact h
 |cond y a b iha ihb=>
  intro ts H n Q h;change aAF y (po P n0 a) (po P n0 b) Q ts H n at h;unfold aAF at h;split at h
  ·rename_i v hv;exact⟨v,hv,fun e=>iha (h.yes e),fun e=>ihb (h.no e)⟩
  ·exact h.elim
 |blk id a ih=>
  intro ts H n Q h;refine aEW (jY (fun x ts H n h=>?_) (ih (Q:=aDw id Q) h));cases x with
  |nrm=>exact h
  |ret=>exact h
  |ex j=>
   simp only[aDw]at h ⊢;by_cases e:j=id
   ·subst e;rw[Nat.beq_refl]at h;rw[if_pos rfl];exact h
   ·rw[if_neg e];cases hb:Nat.beq j id with
    |true=>exact absurd (Nat.eq_of_beq_eq_true hb) e
    |false=>rw[hb]at h;exact h
 |loop a ih=>intro ts H n Q h;exact h.ok
 |exit id=>intro ts H n Q h;exact h
 |ret=>intro ts H n Q h;exact h
end
noncomputable def aD3(n0:Nat)(l:List RR)(ts:DTs)(H:DH)(n:Nat)(Post:DT→DH→Prop):Prop:=yj (jU ts l) ts H n fun ts1 H1 _=>match uQ ts1 H1 l with
  |some vs=>lR n0 (some [0]) [(0,uh vs)] H1 0 fun ts2 H2 _=>match an ts2 0 with
   |some r=>Post r H2
   |none=>False
  |none=>False
theorem xR{n0:Nat}{l:List RR}{ts:DTs}{H:DH}{n:Nat}{Post:DT→DH→Prop}(h:aD3 n0 l ts H n Post):aCi n0 l ts H n Post:=by
 unfold aD3 at h;unfold aCi;rw[sD]at h;generalize dU (jU ts l) ts H n=p at h ⊢;obtain⟨ts1,H1,n1⟩:=p;simp only at h;split at h
 ·rename_i vs hvs;refine⟨vs,hvs,?_⟩;have:=lr (S':=fun ts2 H2 _=>∃r,an ts2 0=some r∧Post r H2) (fun ts2 H2 n2 h=>?_) (mY h)
  ·exact this
  ·split at h
   ·rename_i r hr;exact⟨r,hr,h⟩
   ·exact h.elim
 ·exact h.elim
noncomputable def aE8(n:Nat)(l:List RR)(Post:DT→DH→Prop)(x:X)(ts:DTs)(H:DH)(n':Nat):Prop:=match x with
 |.ex _=>False
 |_=>aD3 n l ts H n' Post
noncomputable def fnX(P:Prg)(fn:CFn)(args:List DV)(H:DH)(n:Nat)(Post:DT→DH→Prop):Prop:=cond (Nat.ble args.length fn.nt) (po P n fn.code (aE8 n fn.res Post) (fU args 0) H n) False
theorem aAq{P:Prg}{fn:CFn}{args:List DV}{H:DH}{n:Nat}{Post:DT→DH→Prop}(hw:fnX P fn args H n Post):fnW P fn args H n Post:=by
 unfold fnX at hw;cases hb:Nat.ble args.length fn.nt with
 |false=>rw[hb]at hw;exact hw.elim
 |true=>
  rw[hb]at hw;refine⟨Nat.le_of_ble_eq_true hb,jY (fun x ts H' n' h=>?_) (oj hw)⟩;cases x with
  |nrm=>exact⟨.inl rfl,xR h⟩
  |ret=>exact⟨.inr rfl,xR h⟩
  |ex j=>exact h.elim
theorem aS{P:Program}(hm:P.follows .mixedOrders=true){g:FuncId}{F:Func}{fn:CFn}(hF:P.funcs[g]?=some F)(hok:bS P F fn=true){args:List DV}{H:DH}{n:Nat}{Post:DT→DH→Prop}(hw:fnX ⟨P,noJ⟩ fn args H n Post):d6 P g args H n Post:=aB1 hm hF hok (aAq hw)
theorem dj{P:Program}(hm:P.follows .mixedOrders=true){g:FuncId}{F:Func}{fn:CFn}(hF:P.funcs[g]?=some F)(hok:bS P F fn=true){args:List DV}{H:DH}{n:Nat}{Post:DT→DH→Prop}{J:JN}(hn:∀g p,J g=some p→g<n)(hw:fnX ⟨P,J⟩ fn args H n Post):eh P J g args H n Post:=oq hm hF hok hn (aAq hw)
theorem qz{P:Program}(hm:P.follows .mixedOrders=true){g:FuncId}{F:Func}{fn:CFn}(hF:P.funcs[g]?=some F)(hok:bS P F fn=true){args:List DV}{H:DH}{n:Nat}{Post:DT→DH→Prop}(hw:∀J:Nm,(∀g p,J g=some p→g<n)→(∀g sz es ov,aG H g=some (.arr sz es ov)→es≠[]→∃id base,J g=some (id,base,sz))→fnX ⟨P,J⟩ fn args H n Post):d6 P g args H n Post:=aAO hm hF hok fun J h1 h2=>aAq (hw J h1 h2)
end Go.Cq.D
namespace Go.Cq.D
open Go.RowKit
def bC(P:Program)(f:FuncId)(args:List DV)(r:DT):Prop:=d6 P f args [] 0 fun x H'=>x=r∧H'=[]
def aDC(P:Program)(f:FuncId)(args:List DV)(b:List DC)(r:DT)(b':List DC):Prop:=d6 P f args [(0,.box b)] 1 fun x H'=>x=r∧H'=[(0,.box b')]
section
variable{P:Prg}{n0:Nat}{ts:DTs}{H:DH}{n:Nat}{K:DT→DTs→DH→Nat→List Nat→Prop}{Q:Kc}
theorem pw(ms:List M)(ρ:List Nat){f:FuncId}{args:List Opd}{das cas:List DV}{Hc:DH}{Post:DT→DH→Prop}(h1:dP ts args=some das)(h2:fQ H ρ ms das=some cas)(h3:du (fun g=>fO ρ g 0) H ρ 0=some Hc)(h4:(nodup ρ&&(nodup (given ms das)&&(b9 (given ms das) ρ&&(b9 (dR ms das) (given ms das)&&b9 (dR ms das) ρ))))=true)(hc:d6 P.prog f cas Hc ρ.length Post)(h:∀res H3,Post res H3→res.clean=true∧iI ρ.length H3=true∧∃H',bD (fun t=>ρ[t]?) H3 ρ 0 (fR (given ms das) H)=some H'∧K res ts H' n (given ms das++ρ)):OpP P (.call f args) ts H n K:=by simp only[Bool.and_eq_true]at h4;exact⟨lD (.inl ⟨[],das,h1,ms,ρ,cas,Hc,Post,noJ,h2,h3,h4.1,h4.2.1,h4.2.2.1,h4.2.2.2,⟨hc.toJ,fun t p e=>by simp[noJ]at e⟩,.inl rfl,fun res H3 hp=>by obtain⟨k1,k2,H',k3,k4⟩:=h res H3 hp;exact⟨k2,H',k3,by rw[nr k1];exact k4⟩⟩)⟩
theorem yK(ms:List M)(ρ:List Nat){f:FuncId}{x:Opd}{args:List Opd}{caps:List (Nat×Nat×Nat)}{das cas:List DV}{Hc:DH}{Post:DT→DH→Prop}(h0:cC ts x=some (.fn f caps))(h1:dP ts args=some das)(h2:fQ H ρ ms (das++caps.map fun q=>.one (.ptr q.1 q.2.1 q.2.2))=some cas)(h3:du (fun g=>fO ρ g 0) H ρ 0=some Hc)(h4:(nodup ρ&&(nodup (given ms (das++caps.map fun q=>.one (.ptr q.1 q.2.1 q.2.2)))&&(b9 (given ms (das++caps.map fun q=>.one (.ptr q.1 q.2.1 q.2.2))) ρ&&(b9 (dR ms (das++caps.map fun q=>.one (.ptr q.1 q.2.1 q.2.2))) (given ms (das++caps.map fun q=>.one (.ptr q.1 q.2.1 q.2.2)))&&b9 (dR ms (das++caps.map fun q=>.one (.ptr q.1 q.2.1 q.2.2))) ρ))))=true)(hc:d6 P.prog f cas Hc ρ.length Post)(h:∀res H3,Post res H3→res.clean=true∧iI ρ.length H3=true∧∃H',bD (fun t=>ρ[t]?) H3 ρ 0 (fR (given ms (das++caps.map fun q=>.one (.ptr q.1 q.2.1 q.2.2))) H)=some H'∧K res ts H' n (given ms (das++caps.map fun q=>.one (.ptr q.1 q.2.1 q.2.2))++ρ)):OpP P (.callv x args) ts H n K:=by simp only[Bool.and_eq_true]at h4;exact⟨lD ⟨[],f,caps,das,h0,h1,ms,ρ,cas,Hc,Post,noJ,h2,h3,h4.1,h4.2.1,h4.2.2.1,h4.2.2.2,⟨hc.toJ,fun t p e=>by simp[noJ]at e⟩,.inl rfl,fun res H3 hp=>by obtain⟨k1,k2,H',k3,k4⟩:=h res H3 hp;exact⟨k2,H',k3,by rw[nr k1];exact k4⟩⟩⟩
theorem aC(ms:List M){f:FuncId}{args:List Opd}{das cas:List DV}{r:DT}(h1:dP ts args=some das)(h2:fQ H [] ms das=some cas)(h4:(nodup (given ms das)&&b9 (dR ms das) (given ms das))=true)(hc:bC P.prog f cas r)(hr:r.clean=true)(h:K r ts (fR (given ms das) H) n (given ms das)):OpP P (.call f args) ts H n K:=by
 simp only[Bool.and_eq_true]at h4;refine pw ms [] h1 h2 rfl ?_ hc fun res H3 hp=>?_
 ·have:b9 (given ms das) []=true:=by simp[b9]
  have h9:b9 (dR ms das) []=true:=by simp[b9]
  simp[nodup,h4.1,h4.2,this,h9]
 ·obtain⟨rfl,rfl⟩:=hp;refine⟨hr,rfl,_,rfl,?_⟩;rw[List.append_nil];exact h
theorem aE{A B:Prop}(h:A):CondP true A B:=⟨fun _=>h,fun h=>by simp at h⟩
theorem aD{A B:Prop}(h:B):CondP false A B:=⟨fun h=>by simp at h,fun _=>h⟩
theorem fp{f:FOp}{r:DV}(hf:dfl ts H f=some r)(h:K (.v r) ts H n []):OpP P (.fl f) ts H n K:=⟨zL hf h⟩
theorem r8{neg:Bool}{x:Opd}{b:Bool}{sz:Nat}{es:List (List PV)}(hx:cC ts x=some (.ro b sz es))(h:∀v:Bool,(v=true→es=[])→K (.v (.one (.sc (.bool (if neg then !v else v))))) ts H n []):OpP P (.fl (.cmpNil neg x)) ts H n K:=⟨by simp only[exec,w9,d7,hx];exact h⟩
theorem bY{zs:List CV}{len:Nat}{ps:List Part}{row:List PV}{db:DB}(h1:ff zs=some row)(h2:Nat.blt 0 zs.length=true)(h3:mS ts zs.length ps (.arr zs.length (List.replicate len row) [])=some db)(h:K (.v (.one (.sl n 0 len))) ts ((n,db)::H) (n+1) []):OpP P (.nw (.lit zs len ps)) ts H n K:=
 ⟨⟨row,db,h1,by
          have:0<zs.length:=by simpa using h2
          omega,h3,h⟩⟩
theorem fK{zs:List CV}{bytes:Nat}{x y:Opd}{g lo len:Nat}{b:Bool}{sz:Nat}{es0 es:List (List PV)}(hx:cC ts x=some (.sl g lo len))(hy:cC ts y=some (.ro b sz es))(hsz:Nat.beq zs.length sz=true)(h0:Nat.blt 0 sz=true)(hs:∀row,row∈es→hO row)(hg:aG H g=some (.arr sz es0 []))(h1:(len+es.length)*bytes≤140737488355328)(h2:len+es.length≤140737488355328)(h:K (.v (.one (.sl n 0 (len+es.length)))) ts ((n,.arr sz ((es0.drop lo).take len++es) [])::eM g H) (n+1) [g]):OpP P (.app zs bytes x y) ts H n K:=by
 have e:=Nat.eq_of_beq_eq_true hsz;have e0:0<sz:=by simpa using h0
 refine⟨lD ⟨.sl g lo len,.ro b sz es,es,none,hx,hy,?_,by omega,?_⟩⟩
 ·rw[e];exact .yu hs
 ·rw[e];exact⟨es0,hg,by simp,h1,h2,h⟩
def aEK(next:DTs→DH→Nat→Prop)(Q:Kc)(x:X)(ts:DTs)(H:DH)(n:Nat):Prop:=match x with
 |.nrm=>next ts H n
 |x=>Q x ts H n
theorem ao{σ:Type}(T:σ→DTs)(Hh:σ→DH)(nn:σ→Nat)(ok:σ→Prop)(μ:σ→Nat){a:CC}(s0:σ)(h0:ok s0)(e1:ts=T s0)(e2:H=Hh s0)(e3:n=nn s0)(step:∀s,ok s→po P n0 a (aEK (fun ts H n=>∃s',μ s'<μ s∧ok s'∧ts=T s'∧H=Hh s'∧n=nn s') Q) (T s) (Hh s) (nn s)):LoopP P n0 a Q ts H n:=by
 refine⟨⟨fun k ts H n=>∃s,ok s∧μ s=k∧ts=T s∧H=Hh s∧n=nn s,μ s0,⟨s0,h0,rfl,e1,e2,e3⟩,?_⟩⟩;rintro k ts H n ⟨s,h1,rfl,rfl,rfl,rfl⟩;refine jY (fun x ts H n h=>?_) (oj (step s h1));cases x with
 |nrm=>obtain⟨s',k1,k2,k3⟩:=h;exact⟨μ s',k1,s',k2,rfl,k3⟩
 |ex j=>exact h
 |ret=>exact h
theorem aN{x i:Opd}{sz:Nat}{b:Bool}{es:List (List PV)}{k:Nat}(hx:cC ts x=some (.ro b sz es))(hi:eC ts i=some (k:Int))(h1:k<es.length)(h:K (.v (.one (.rp b sz es k 0))) ts H n []):OpP P (.fl (.idxAddr x i sz)) ts H n K:=by refine fp ?_ h;simp only[dfl,hx,hi];rw[if_pos ⟨by omega,by omega,by trivial⟩];simp
theorem xn{x i:Opd}{sz:Nat}{g lo len:Nat}{es:List (List PV)}{ov:List (Nat×Nat×DC)}{k:Nat}(hx:cC ts x=some (.sl g lo len))(hg:aG H g=some (.arr sz es ov))(hi:eC ts i=some (k:Int))(h1:k<len)(h:K (.v (.one (.ptr g (lo+k) 0))) ts H n []):OpP P (.fl (.idxAddr x i sz)) ts H n K:=by refine fp ?_ h;simp only[dfl,hx,hi,hg];rw[if_pos ⟨by omega,by omega,by trivial⟩];simp
theorem aH{x:Opd}{b:Bool}{sz:Nat}{es:List (List PV)}{i k:Nat}{m:Option Nat}{r:DV}(hx:cC ts x=some (.rp b sz es i k))(hr:(match m with
   |none=>match ak b es i k 1 with
    |some [y]=>some (DV.one y)
    |_=>none
   |some n=>if n=0 then none else(ak b es i k n).map .agg)=some r) (h:K (.v r) ts H n []):OpP P (.fl (.load m x)) ts H n K:=by
 refine fp ?_ h;simp only[dfl,hx];exact hr
theorem dW(ks:List Nat)(ls:List Loc)(m:Nat){zs:List CV}{bytes:Nat}{x y:Opd}{g lo len g2 lo2 jw sz:Nat}{es0 es2:List (List PV)}(hx:cC (dV ls (eD ks ts) H).1 x=some (.sl g lo len))(hy:cC (dV ls (eD ks ts) H).1 y=some (.sl g2 lo2 jw))(hsz:Nat.beq zs.length sz=true)(h0:Nat.blt 0 sz=true)(hg:aG (dV ls (eD ks ts) H).2 g=some (.arr sz es0 []))(hg2:aG (dV ls (eD ks ts) H).2 g2=some (.arr sz es2 []))(hne:Nat.beq g2 g=false)(hm:((es2.drop lo2).take jw).length=m)(h1:(len+m)*bytes≤140737488355328)(h2:len+m≤140737488355328)(h:fTs (dV ls (eD ks ts) H).1 fun ts1=>fDH ((n,.arr sz ((es0.drop lo).take len++(es2.drop lo2).take jw) [])::eM g2 (eM g (dV ls (eD ks ts) H).2)) fun H2=>K (.v (.one (.sl n 0 (len+m)))) ts1 H2 (n+1) (ir H (dV ls (eD ks ts) H).2++[g,g2])):OpP P (.app zs bytes x y) ts H n K:=by
 have e:=Nat.eq_of_beq_eq_true hsz;have e0:0<sz:=by simpa using h0
 subst hm;simp only[kT,kI]at h;refine⟨⟨[],ks,ls,?_⟩⟩;refine⟨.sl g lo len,.sl g2 lo2 jw,(es2.drop lo2).take jw,some g2,hx,hy,?_,by omega,?_⟩
 ·rw[e];exact .move hg2
 ·rw[e];exact⟨es0,hg,by simpa using Nat.ne_of_beq_eq_false hne,h1,h2,h⟩
end
end Go.Cq.D
namespace Go.Cq.D
open Go.RowKit
section
variable{P:Prg}{n0:Nat}{ts:DTs}{H:DH}{n:Nat}{K:DT→DTs→DH→Nat→List Nat→Prop}{Q:Kc}
theorem yF{g i sz:Nat}{es:List (List PV)}(hg:aG H g=some (.arr sz es [])){row:List PV}(hr:es[i]?=some row)(hs:hO row):∀(m k:Nat),k+m≤row.length→fq H g i k m=some (((row.drop k).take m).map PV.dc):=by
 intro m;induction m with
 |zero=>intro k _;simp[fq]
 |succ m ih=>
  intro k hk;have hlt:k<row.length:=by omega
  obtain⟨v,hv⟩:=hs row[k] (List.getElem_mem hlt);have h1:aa [] H (.h g i k)=some (.sc v):=by simp only[aa,hg,Option.bind_some,DB.cell,hr,ab,List.getElem?_eq_getElem hlt,hv,PV.dc]
  simp only[fq,h1,ih (k+1) (by omega)];rw[List.drop_eq_getElem_cons hlt,List.take_succ_cons,List.map_cons,hv];rfl
theorem aCb{i sz:Nat}{row':List PV}(hs:hO row'):∀{es:List (List PV)}{k:Nat}{l:List PV},row'.drop k=l→(∃row,es[i]?=some row∧row.length=row'.length∧∀j,j<k→row[j]?=row'[j]?)→row'.length=sz→wrN i k (l.map PV.dc) (.arr sz es [])=some (.arr sz (es.set i row') []):=by
 intro es k l;induction l generalizing es k with
 |nil=>
  intro hl ⟨row,h1,h2,h3⟩ hsz;have hk:row'.length≤k:=by have:=congrArg List.length hl;simp at this;omega
  have:row=row':=List.ext_getElem? fun j=>by
   by_cases hj:j<k
   ·exact h3 j hj
   ·rw[List.getElem?_eq_none (by omega),List.getElem?_eq_none (by omega)]
  subst this;obtain⟨hi,he⟩:=List.getElem?_eq_some_iff.1 h1;simp only[List.map_nil,wrN];rw[←he,List.set_getElem_self]
 |cons p l ih=>
  intro hl ⟨row,h1,h2,h3⟩ hsz;have hk:k<row'.length:=by
   rcases Nat.lt_or_ge k row'.length with h|h
   ·exact h
   ·rw[List.drop_eq_nil_of_le h]at hl;simp at hl
  rw[List.drop_eq_getElem_cons hk]at hl;simp only[List.cons.injEq]at hl;obtain⟨hp,hl⟩:=hl;obtain⟨v,hv⟩:=hs row'[k] (List.getElem_mem hk);obtain⟨hi,he⟩:=List.getElem?_eq_some_iff.1 h1;have hpv:p= .sc v:=by rw[←hp,hv]
  subst hpv;simp only[List.map_cons,PV.dc,wrN,wr1,List.all_nil,if_true];rw[if_pos ⟨hi,by omega⟩];simp only;rw[ih hl ⟨row.set k (.sc v),?_,by simpa using h2,fun j hj=>?_⟩ hsz]
  ·congr 2;refine List.ext_getElem? fun j=>?_
   simp only[List.getElem?_set,List.getElem?_modify,List.length_modify];by_cases e:i=j<;>simp[e]
  ·rw[List.getElem?_modify];simp[h1]
  ·rw[List.getElem?_set];by_cases e:k=j
   ·subst e;have:k<row.length:=by omega
    simp[this,List.getElem?_eq_getElem hk,hv]
   ·rw[if_neg e];exact h3 j (by omega)
theorem cG{x y:Opd}{g i m sz:Nat}{es:List (List PV)}{row':List PV}(hx:cC ts x=some (.ptr g i 0))(hy:evD ts y=some (.agg (row'.map PV.dc)))(hg:aG H g=some (.arr sz es []))(hi:i<es.length)(hrow:∀row,es[i]?=some row→row.length=sz)(hs:hO row')(hl:row'.length=sz)(hm:sz=m)(h0:Nat.blt 0 m=true)(h:K .gone ts (cj g (.arr sz (es.set i row') []) H) n [g]):OpP P (.store m x y) ts H n K:=by
 have hm0:m≠0:=by
             have:0<m:=by simpa using h0
             omega
 refine⟨⟨g,i,0,.agg (row'.map PV.dc),_,_,hx,hy,by simp[DV.cells,hl,hm],hm0,hg,?_,h⟩⟩;exact aCb hs (k:=0) (l:=row') rfl ⟨es[i],List.getElem?_eq_getElem hi,by rw[hrow _ (List.getElem?_eq_getElem hi),hl],fun j hj=>by omega⟩ hl
theorem aI{x y:Opd}{g i k sz:Nat}{es:List (List PV)}{v:CV}(hx:cC ts x=some (.ptr g i k))(hy:evD ts y=some (.one (.sc v)))(hg:aG H g=some (.arr sz es []))(hi:i<es.length)(hk:k<sz)(h:K .gone ts (cj g (.arr sz (es.modify i (·.set k (.sc v))) []) H) n [g]):OpP P (.store 1 x y) ts H n K:=by refine⟨⟨g,i,k,.one (.sc v),_,.arr sz (es.modify i (·.set k (.sc v))) [],hx,hy,rfl,by decide,hg,?_,h⟩⟩;simp only[DV.cells,wrN,wr1,List.all_nil,if_true];rw[if_pos ⟨hi,hk⟩]
theorem z5{f:FuncId}{caps:List Opd}{l:List (Nat×Nat×Nat)}(h1:g9 ts caps=some l)(h2:(l.all fun q=>(aG H q.1).isSome)=true)(h:K (.v (.one (.fn f l))) ts H n []):OpP P (.mkf f caps) ts H n K:=⟨⟨l,h1,fun q hq=>List.all_eq_true.1 h2 q hq,h⟩⟩
theorem map_set{α:Type}{f:α→List PV}{l:List α}{i:Nat}{a:α}:(l.map f).set i (f a)=(l.set i a).map f:=(List.map_set ..).symm
theorem aEV{x:Opd}{bs:List UInt8}(hx:evS ts x=some (.str bs))(h:K (.v (.one (.sl n 0 bs.length))) ts ((n,.arr 1 (bs.map dE) [])::H) (n+1) []):OpP P (.nw (.sb x)) ts H n K:=⟨⟨bs,hx,h⟩⟩
theorem rN{zs:List CV}{bytes m c:Nat}{x y:Opd}{row:List PV}(h1:ff zs=some row)(h2:Nat.blt 0 zs.length=true)(hx:eC ts x=some (m:Int))(hy:eC ts y=some (c:Int))(hmc:m≤c)(hb:bytes*c≤281474976710656)(hc:c≤9223372036854775807)(h:K (.v (.one (.sl n 0 m))) ts ((n,.arr zs.length (List.replicate m row) [])::H) (n+1) []):OpP P (.nw (.mk zs bytes x y)) ts H n K:=by
 have h0:zs.length≠0:=by
                have:0<zs.length:=by simpa using h2
                omega
 have hb':(bytes:Int)*(c:Int)≤281474976710656:=by
  have:((bytes*c:Nat):Int)≤281474976710656:=by omega
  simpa using this
 refine⟨⟨row,m,c,h1,h0,hx,hy,⟨by omega,by omega,hb',by omega⟩,?_⟩⟩;simpa using h
theorem aAr{x y:Opd}{l m:List UInt8}(hx:evS ts x=some (.str l))(hy:evS ts y=some (.str m))(hl:l.length+m.length≤9223372036854775807)(h:K (.v (.one (.sc (.str (l++m))))) ts H n []):OpP P (.fl (.bin .add x y)) ts H n K:=by refine fp (r:=.one (.sc (.str (l++m)))) ?_ h;simp only[dfl,hx,hy,pQ,if_pos hl];rfl
theorem aB{x i:Opd}{sz:Nat}{g len:Nat}{es:List (List PV)}{ov:List (Nat×Nat×DC)}{k:Nat}(hx:cC ts x=some (.sl g 0 len))(hg:aG H g=some (.arr sz es ov))(hi:eC ts i=some (k:Int))(h1:k<len)(h:K (.v (.one (.ptr g k 0))) ts H n []):OpP P (.fl (.idxAddr x i sz)) ts H n K:=xn hx hg hi h1 (by rw[Nat.zero_add];exact h)
theorem mw{x:Opd}{g lo len:Nat}{es:List (List PV)}{bs:List UInt8}(hx:cC ts x=some (.sl g lo len))(hg:aG H g=some (.arr 1 es []))(he:(es.drop lo).take len=bs.map dE)(h:K (.v (.one (.sc (.str bs)))) ts H n []):OpP P (.bs x) ts H n K:=⟨by simp only[exec,w9,d7,hx];exact⟨bs,⟨es,[],hg,he,rfl⟩,h⟩⟩
def vS(y:Int):UInt8:=UInt8.ofNat (IntKind.wrap .u8 y).toNat
theorem aEX(y:Int):IntKind.wrap .u8 y=y % 256:=by simp only[IntKind.wrap,IntKind.bits,IntKind.signed];simp
theorem qZ(y:Int):dE (vS y)=[.sc (.int .u8 (IntKind.wrap .u8 y))]:=by
 have h1:=aEX y;have:((vS y).toNat:Int)=IntKind.wrap .u8 y:=by unfold vS;simp only[UInt8.toNat_ofNat'];omega
 simp only[dE,this]
theorem aO{f:Nat→Option Nat}{H3 H:DH}{g t sz:Nat}{l:List Nat}{es es0:List (List PV)}{ov0:List (Nat×Nat×DC)}(h1:aG H3 t=some (.arr sz es []))(h2:aG H g=some (.arr sz es0 ov0))(h3:es.length=es0.length):bD f H3 (g::l) t H=bD f H3 l (t+1) (cj g (.arr sz es []) H):=by simp only[bD,h1,h2,h3,and_self,if_true];rfl
theorem vA{f:Nat→Option Nat}{H3 H:DH}{g t:Nat}{l:List Nat}{db db0 db':DB}(h1:aG H3 t=some db)(h2:aG H g=some db0)(h3:nh db db0)(h4:eu f db=some db'):bD f H3 (g::l) t H=bD f H3 l (t+1) (cj g db' H):=by
 cases db with
 |box cs=>cases db0 with
  |box cs0=>have h3:cs.length=cs0.length:=h3;simp only[bD,h1,h2,h4,h3,if_true]
  |arr sz es ov=>exact h3.elim
 |arr sz es ov=>cases db0 with
  |box cs0=>exact h3.elim
  |arr sz0 es0 ov0=>have h3:sz=sz0∧es.length=es0.length:=h3;simp only[bD,h1,h2,h4];rw[if_pos h3]
def jm(ts:DTs)(H:DH)(l:List Loc):Bool:=l.all fun ℓ=>match aa ts H ℓ with
 |some (.own _ _)=>false
 |_=>true
theorem lj:∀{l:List Loc}{ts:DTs}{H:DH}{n:Nat}(_:jm ts H l=true),dU l ts H n=(ts,H,n):=by
 intro l;induction l with
 |nil=>intro ts H n _;rfl
 |cons ℓ l ih=>
  intro ts H n h;simp only[jm,List.all_cons,Bool.and_eq_true]at h;have e:exp ts H n ℓ=(ts,H,n):=by
   unfold exp;split
   ·rename_i hg;simp[hg]at h
   ·rfl
  simp only[dU,e];exact ih (by simpa [jm]using h.2)
theorem tw:∀{a b:List Loc}{ts:DTs}{H:DH}{n:Nat},dU (a++b) ts H n=dU b (dU a ts H n).1 (dU a ts H n).2.1 (dU a ts H n).2.2:=by
 intro a;induction a with
 |nil=>intro b ts H n;rfl
 |cons ℓ a ih=>intro b ts H n;simp only[List.cons_append,dU];exact ih
section
variable{KL:DTs→DH→DT→DTs→DH→Nat→List Nat→Prop}
theorem sY{m:Option Nat}{x:Opd}{g i k:Nat}{ts1:DTs}{H1:DH}{n1:Nat}(hx:cC ts x=some (.ptr g i k))(hr:jm ts H (cT ts (COp.fl (.load m x)).reads)=true)(he:dU ((List.range (m.getD 1)).map fun j=>Loc.h g i (k+j)) ts H n=(ts1,H1,n1))(hv:exec P (.fl (.load m x)) ts1 H1 n1 (KL ts1 H1)):LdP P (.fl (.load m x)) ts H n KL:=by refine⟨?_⟩;rw[tw,lj hr];simp only[d9,hx,he];exact hv
theorem bR{x:Opd}{g i k:Nat}{db:DB}{c:DC}(hx:cC ts x=some (.ptr g i k))(hr:jm ts H (cT ts (COp.fl (.load none x)).reads)=true)(hg:aG H g=some db)(hc:db.cell i k=some c)(hp:c.plain=true)(h:KL ts H (.v (.one c)) ts H n []):LdP P (.fl (.load none x)) ts H n KL:=by
 have hgc:∀ts',aa ts' H (.h g i k)=some c:=fun ts'=>by simp only[aa,hg,Option.bind_some,hc]
 refine sY hx hr (lj (ts:=ts) (H:=H) (n:=n) ?_) (zL (r:=.one c) ?_ h)
 ·simp only[Option.getD_none,List.range_one,List.map_cons,List.map_nil,Nat.add_zero,jm,List.all_cons,List.all_nil,Bool.and_true,hgc];cases c<;>simp_all[DC.plain]
 ·simp only[dfl,hx,fq,hgc,hp,if_true]
theorem nD{x:Opd}{g i m sz:Nat}{es:List (List PV)}{row:List PV}(hx:cC ts x=some (.ptr g i 0))(hr:jm ts H (cT ts (COp.fl (.load (some m) x)).reads)=true)(hg:aG H g=some (.arr sz es []))(he:es[i]?=some row)(hs:hO row)(hm:row.length=m)(h0:Nat.blt 0 m=true)(h:KL ts H (.v (.agg (row.map PV.dc))) ts H n []):LdP P (.fl (.load (some m) x)) ts H n KL:=by
 have hm0:m≠0:=by
             have:0<m:=by simpa using h0
             omega
 refine sY hx hr (lj (ts:=ts) (H:=H) (n:=n) ?_) (zL (r:=.agg (row.map PV.dc)) ?_ h)
 ·simp only[jm,List.all_eq_true,List.mem_map,Option.getD_some,List.mem_range];rintro ℓ ⟨j,hj,rfl⟩;obtain⟨v,hv⟩:=hs row[j] (List.getElem_mem (by omega));have:aa ts H (.h g i (0+j))=some (.sc v):=by simp only[aa,hg,Option.bind_some,DB.cell,he,ab,Nat.zero_add,List.getElem?_eq_getElem (show j<row.length by omega),hv,PV.dc]
  rw[this]
 ·simp only[dfl,hx,hm0,if_false];rw[yF hg he hs m 0 (by omega)];simp[←hm]
theorem cK{x:Opd}{g i k sz':Nat}(len:Nat){es':List (List PV)}{sz:Nat}{es:List (List PV)}{ov:List (Nat×Nat×DC)}(hx:cC ts x=some (.ptr g i k))(hr:jm ts H (cT ts (COp.fl (.load none x)).reads)=true)(hg:aG H g=some (.arr sz es ov))(hc:(DB.arr sz es ov).cell i k=some (.own sz' es'))(hgn:Nat.beq n g=false)(hlen:es'.length=len)(h:KL ts (cj g (.arr sz es ((i,k,.sl n 0 len)::ov)) ((n,.arr sz' es' [])::H)) (.v (.one (.sl n 0 len))) ts (cj g (.arr sz es ((i,k,.sl n 0 len)::ov)) ((n,.arr sz' es' [])::H)) (n+1) []):LdP P (.fl (.load none x)) ts H n KL:=by
 subst hlen;have hne:¬g=n:=fun e=>Nat.ne_of_beq_eq_false hgn e.symm
 have hgc:aa ts H (.h g i k)=some (.own sz' es'):=by simp only[aa,hg,Option.bind_some,hc]
 refine sY hx hr (ts1:=ts) (n1:=n+1) (H1:=cj g (.arr sz es ((i,k,.sl n 0 es'.length)::ov)) ((n,.arr sz' es' [])::H)) ?_ (zL (r:=.one (.sl n 0 es'.length)) ?_ h)
 ·simp only[Option.getD_none,List.range_one,List.map_cons,List.map_nil,Nat.add_zero,dU,exp,hgc];simp only[fh,aW,if_neg hne,hg,DB.fc]
 ·have hgc2:aa [] (cj g (.arr sz es ((i,k,.sl n 0 es'.length)::ov)) ((n,.arr sz' es' [])::H)) (.h g i k)=some (.sl n 0 es'.length):=by
   simp only[aa,ax,if_true,Option.bind_some];simp only[DB.cell]at hc ⊢;cases hrow:(es[i]?).bind (·[k]?)with
   |none=>rw[hrow]at hc;simp at hc
   |some p=>simp[ab]
  simp only[dfl,hx,fq,hgc2];rfl
end
theorem aR{CK:DTs→DH→Prop}{g i k g' lo len sz sz':Nat}{es es' es2:List (List PV)}{ov ov2:List (Nat×Nat×DC)}(hg:aG H g=some (.arr sz es ov))(hc:(DB.arr sz es ov).cell i k=some (.sl g' lo len))(hg':aG H g'=some (.arr sz' es' []))(hne:Nat.beq g g'=false)(he:es.modify i (·.set k (.sl sz' ((es'.drop lo).take len)))=es2)(ho:ag i k ov=ov2)(h:CK ts (cj g (.arr sz es2 ov2) (eM g' H))):CloseP ts H (.h g i k) CK:=by
 have hne':=Nat.ne_of_beq_eq_false hne;have hgc:aa ts H (.h g i k)=some (.sl g' lo len):=by simp only[aa,hg,Option.bind_some,hc]
 refine⟨?_⟩;have e:close ts H (.h g i k)=(ts,cj g (.arr sz es2 ov2) (eM g' H)):=by unfold close;simp only[hgc,hg',Loc.aCs,hne,if_true,i7,dF,if_neg hne',hg,he,ho]
 rw[e];exact h
theorem ah{sz i k:Nat}{es:List (List PV)}{ov:List (Nat×Nat×DC)}{x:DC}{row:List PV}(hr:es[i]?=some row)(hk:k<row.length)(ho:ab ov i k=some x):(DB.arr sz es ov).cell i k=some x:=by simp only[DB.cell,hr,Option.bind_some,List.getElem?_eq_getElem hk,ho]
theorem aT{sz i k:Nat}{es:List (List PV)}{ov:List (Nat×Nat×DC)}{row:List PV}{p:PV}{c:DC}(hr:es[i]?=some row)(hk:row[k]?=some p)(hc:p.dc=c)(ho:ab ov i k=none):(DB.arr sz es ov).cell i k=some c:=by simp only[DB.cell,hr,Option.bind_some,hk,ho,hc]
theorem gd{es:List (List PV)}{i:Nat}{row:List PV}{f:List PV→List PV}(hr:es[i]?=some row):(es.modify i f)[i]?=some (f row):=by rw[List.getElem?_modify];simp[hr]
theorem ea{x y:Opd}{g i k m sz:Nat}{es:List (List PV)}{ov:List (Nat×Nat×DC)}{r:DV}{db':DB}(hx:cC ts x=some (.ptr g i k))(hy:evD ts y=some r)(hg:aG H g=some (.arr sz es ov))(hm:Nat.beq r.cells.length m=true)(h0:Nat.blt 0 m=true)(hw:wrN i k r.cells (.arr sz es ov)=some db')(h:K .gone ts (cj g db' H) n [g]):OpP P (.store m x y) ts H n K:=by
 have hm0:m≠0:=by
             have:0<m:=by simpa using h0
             omega
 exact⟨⟨g,i,k,r,_,db',hx,hy,Nat.eq_of_beq_eq_true hm,hm0,hg,hw,h⟩⟩
end
end Go.Cq.D
namespace Go.Cq
open Go.RowKit
open Go.Tq (cB cq)
inductive MC where
 |base (c:CC)
 |nxt (d t:Nat) (l:List CI) (av:Option (List Nat))
 |seq (a b:MC)
 |cond (x:Opd) (a b:MC)
 |blk (id:Nat) (a:MC)
 |loop (a:MC)
def okM(P:Program)(nt:Nat):Code→MC→Bool
 |.region _ ops false,.nxt d t l _=>match ops.toList with
  |o::os=>(match o.op with|.next (.tmp t') false=>t==t'|_=>false)&&o.dst==some d&&decide (d<nt)&&o.guard.isNone&&okL P nt ops l os
  | []=>false
 |.seq a b,.seq a' b'=>okM P nt a a'&&okM P nt b b'
 |.cond x a b,.cond x' a' b'=>aX x' x&&okM P nt a a'&&okM P nt b b'
 |.block id a,.blk id' a'=>id==id'&&okM P nt a a'
 |.loop a,.loop a'=>okM P nt a a'
 |c,.base b=>okC P nt c b
 |_,_=>false
section
variable{P:Program}{nt:Nat}{K:Nat→Prop}{w0:World}{A0:Nat→Nd}{U0:Nat→Prop}{c0:Nat}{cl:cN}{ops:Array Oper}
theorem xq{k:Nat}{o:Oper}(ho:ops[k]?=some o){d t:Nat}(hop:o.op= .next (.tmp t) false)(hd:o.dst=some d)(hdn:d<nt)(hg:o.guard=none){s:St}{a:Act}{w:World}(hs:Inv nt K w0 A0 U0 c0 s a w){outs:List (CVal×Heap)}(hr:lz (.t t) s.h s.ts=some outs){rest:List Nat}{Q:Exit→Act→World→Prop}(hn:∀q,q∈outs→∀a' w',Inv nt K w0 A0 U0 c0 ⟨(d,q.1)::s.ts,q.2,s.c+1⟩ a' w'→wpOps P ops Q rest a' w'):wpOps P ops Q (k::rest) a w:=by
 obtain⟨A,U,s1,s2,s3,s4,s5,s6,s7,s8,s9⟩:=hs;simp only[wpOps,ho];have hw:Region.wanted o (yielded ops a.tmps)=true:=by unfold Region.wanted;rw[hg]
 rw[hw];simp only[if_true];obtain⟨r,h',hm,v,w',e1,e2,e3⟩:=vt (P:=P) s1 s2 hop (x:=.t t) (by simp[aX]) hr;refine .inl ?_;unfold Oper.wp;rw[e1];refine hn _ hm _ _ ⟨A,U,e2,?_,by rw[(en _ _ _).1];exact s3,by rw[(en _ _ _).2];exact s4,fun id hid=>s5 id (by have:s.c+1≤id:=hid;omega),s6,s7,fun id hU=>?_,by show c0≤s.c+1;omega⟩
 ·rw[hd];exact kX (d:=some d) s2 (fun t ht=>by cases ht;rw[s3];exact hdn) e3
 ·show U0 id∨c0≤id∧id<s.c+1;rcases s8 id hU with h2|h2
  ·exact .inl h2
  ·exact .inr ⟨h2.1,by omega⟩
end
namespace Tr
variable{α:Type}
end Tr
structure MFn where
 nt:Nat
 code:MC
 res:List RR
def vF(P:Program)(F:Func)(fn:MFn):Bool:=F.ntmps==fn.nt&&jO P F.results.toList fn.res&&(F.name != "runtime.NumGoroutine")&&(match F.body with|some c=>okM P fn.nt c fn.code|none=>false)
section
variable{P:Program}{cl:cN}
theorem aAU{nt:Nat}{ntmps:Nat}(k1:ntmps=nt){args:List V1}(hle:args.length≤nt){h:Heap}{c:Nat}{A:Nat→Nd}{U:Nat→Prop}{w:World}{as:Array Value}(hs:Sim A h U (Liv A h) w w)(hc:∀id,c≤id→¬U id)(hsz:as.size=args.length)(has:∀(j:Nat) x,args[j]?=some x→∃v,as[j]?=some v∧eA A U x v):Inv nt (Liv A h) w A U c ⟨init args 0,h,c⟩ {tmps:=as++Array.replicate (ntmps-as.size) undef,defers:=[]} w:=by
 refine⟨A,U,hs,fun t y hy=>?_,?_,rfl,hc,Ext.refl A U,fun _ h=>h,fun id h=>.inl h,Nat.le_refl _⟩
 ·obtain⟨-,z,h1,rfl⟩:=rX hy;rw[Nat.sub_zero]at h1;have hlt:t<as.size:=by rw[hsz];exact(List.getElem?_eq_some_iff.1 h1).1
  obtain⟨v,f1,f2⟩:=has t z h1;refine⟨by simp;omega,?_⟩;have:(as++Array.replicate (ntmps-as.size) undef).getD t undef=v:=by rw[Array.getD_eq_getD_getElem?,Array.getElem?_append_left hlt,f1];rfl
  rw[this];exact f2
 ·simp only[Array.size_append,Array.size_replicate];rw[k1,hsz];omega
end
end Go.Cq
namespace Go.Cq.D
open Go.RowKit
inductive AllM(P:Program):MC→St→List (X×St)→Prop where
 |base {cc s x s' L} (h:ExC P cc s x s') (hm:(x,s')∈L):AllM P (.base cc) s L
 |nxt {d t l k s outs L} (ho:lz (.t t) s.h s.ts=some outs) (h:∀q,q∈outs→∃cl s',gW P cl∧gY cl l ⟨(d,q.1)::s.ts,q.2,s.c+1⟩=some s'∧(X.nrm,s'.av k)∈L):AllM P (.nxt d t l k) s L
 |seq {a b s L1 L} (h1:AllM P a s L1) (h2:∀s',(X.nrm,s')∈L1→AllM P b s' L) (h3:∀x s',(x,s')∈L1→x≠ .nrm→(x,s')∈L):AllM P (.seq a b) s L
 |condT {y a b s L} (hy:ev1 s.ts y=some (.bool true)) (h:AllM P a s L):AllM P (.cond y a b) s L
 |condF {y a b s L} (hy:ev1 s.ts y=some (.bool false)) (h:AllM P b s L):AllM P (.cond y a b) s L
 |blk {id a s L1 L} (h1:AllM P a s L1) (h2:∀s',(X.ex id,s')∈L1→(X.nrm,s')∈L) (h3:∀x s',(x,s')∈L1→x≠ .ex id→(x,s')∈L):AllM P (.blk id a) s L
 |loop {a s L1 L} (h1:AllM P a s L1) (h2:∀s',(X.nrm,s')∈L1→AllM P (.loop a) s' L) (h3:∀x s',(x,s')∈L1→x≠ .nrm→(x,s')∈L):AllM P (.loop a) s L
theorem AllM.mono{P:Program}{mc:MC}{s:St}{L L':List (X×St)}(h:AllM P mc s L)(hs:∀p,p∈L→p∈L'):AllM P mc s L':=by
 induction h generalizing L' with
 |base h hm=>exact .base h (hs _ hm)
 |nxt ho h=>exact .nxt ho fun q hq=>by obtain⟨cl,s',h1,h2,h3⟩:=h q hq;exact⟨cl,s',h1,h2,hs _ h3⟩
 |seq h1 h2 h3 ih1 ih2=>exact .seq h1 (fun s' hm=>ih2 s' hm hs) fun x s' hm hx=>hs _ (h3 x s' hm hx)
 |condT hy h ih=>exact .condT hy (ih hs)
 |condF hy h ih=>exact .condF hy (ih hs)
 |blk h1 h2 h3 ih=>exact .blk h1 (fun s' hm=>hs _ (h2 s' hm)) fun x s' hm hx=>hs _ (h3 x s' hm hx)
 |loop h1 h2 h3 ih1 ih2=>exact .loop h1 (fun s' hm=>ih2 s' hm hs) fun x s' hm hx=>hs _ (h3 x s' hm hx)
theorem vn{α β:Type}{p:α→List β→Prop}(hp:∀a L L',p a L→(∀x,x∈L→x∈L')→p a L')(Φ:β→Prop):∀(l:List α),(∀a,a∈l→∃L,p a L∧∀x,x∈L→Φ x)→∃L,(∀a,a∈l→p a L)∧∀x,x∈L→Φ x:=by
 intro l;induction l with
 |nil=>intro _;exact⟨[],by simp,by simp⟩
 |cons a l ih=>
  intro h;obtain⟨L1,h1,h2⟩:=h a List.mem_cons_self;obtain⟨L2,h3,h4⟩:=ih fun b hb=>h b (List.mem_cons_of_mem _ hb)
  refine⟨L1++L2,fun b hb=>?_,fun x hx=>?_⟩
  ·rcases List.mem_cons.1 hb with rfl|hb
   ·exact hp _ _ _ h1 fun x hx=>List.mem_append_left _ hx
   ·exact hp _ _ _ (h3 b hb) fun x hx=>List.mem_append_right _ hx
  ·rcases List.mem_append.1 hx with hx|hx
   ·exact h2 x hx
   ·exact h4 x hx
def AW(P:Program)(mc:MC)(Φ:X→St→Prop)(s:St):Prop:=∃L,AllM P mc s L∧∀p,p∈L→Φ p.1 p.2
section
variable{P:Program}{Φ:X→St→Prop}{s:St}
theorem AW.mono{mc:MC}{Φ':X→St→Prop}(h:AW P mc Φ s)(hs:∀x s',Φ x s'→Φ' x s'):AW P mc Φ' s:=by obtain⟨L,h1,h2⟩:=h;exact⟨L,h1,fun p hp=>hs _ _ (h2 p hp)⟩
theorem aCd{cc:CC}{x:X}{s':St}(h:ExC P cc s x s')(hp:Φ x s'):AW P (.base cc) Φ s:=⟨[(x,s')],.base h (by simp),by simpa using hp⟩
theorem aBR{d t:Nat}{l:List CI}{k:Option (List Nat)}{outs:List (CVal×Heap)}(ho:lz (.t t) s.h s.ts=some outs)(h:∀q,q∈outs→∃cl s',gW P cl∧gY cl l ⟨(d,q.1)::s.ts,q.2,s.c+1⟩=some s'∧Φ .nrm (s'.av k)):AW P (.nxt d t l k) Φ s:=by obtain⟨L,h1,h2⟩:=vn (p:=fun(q:CVal×Heap)(L:List (X×St))=>∃cl s',gW P cl∧gY cl l ⟨(d,q.1)::s.ts,q.2,s.c+1⟩=some s'∧(X.nrm,s'.av k)∈L) (fun a L L'⟨cl,s',k1,k2,k3⟩ hs=>⟨cl,s',k1,k2,hs _ k3⟩) (fun p=>Φ p.1 p.2) outs (fun q hq=>by obtain⟨cl,s',k1,k2,k3⟩:=h q hq;exact⟨[(X.nrm,s'.av k)],⟨cl,s',k1,k2,by simp⟩,by simpa using k3⟩);exact⟨L,.nxt ho h1,h2⟩
theorem aB0{L1:List (X×St)}{b:MC}(h2:∀p,p∈L1→(match p.1 with|.nrm=>AW P b Φ p.2|x=>Φ x p.2)):∃L,(∀s',(X.nrm,s')∈L1→AllM P b s' L)∧(∀x s',(x,s')∈L1→x≠ .nrm→(x,s')∈L)∧∀p,p∈L→Φ p.1 p.2:=by
 obtain⟨L,k1,k2⟩:=vn (p:=fun(q:X×St)(L:List (X×St))=>(q.1= .nrm→AllM P b q.2 L)∧(q.1≠ .nrm→q∈L)) (fun a L L'⟨e1,e2⟩ hs=>⟨fun e=>(e1 e).mono hs,fun e=>hs _ (e2 e)⟩) (fun p=>Φ p.1 p.2) L1 (fun q hq=>by
  have:=h2 q hq;obtain⟨x,s'⟩:=q;cases x with
  |nrm=>obtain⟨L,e1,e2⟩:=this;exact⟨L,⟨fun _=>e1,fun e=>absurd rfl e⟩,e2⟩
  |ex j=>exact⟨[(.ex j,s')],⟨fun e=>by simp at e,fun _=>by simp⟩,by simpa using this⟩
  |ret=>exact⟨[(.ret,s')],⟨fun e=>by simp at e,fun _=>by simp⟩,by simpa using this⟩)
 exact⟨L,fun s' hm=>(k1 _ hm).1 rfl,fun x s' hm hx=>(k1 _ hm).2 hx,k2⟩
theorem aD6{a b:MC}(h:AW P a (fun x s'=>match x with|.nrm=>AW P b Φ s'|x=>Φ x s') s):AW P (.seq a b) Φ s:=by obtain⟨L1,h1,h2⟩:=h;obtain⟨L,k1,k2,k3⟩:=aB0 h2;exact⟨L,.seq h1 k1 k2,k3⟩
theorem aDq{id:Nat}{a:MC}(h:AW P a (fun x s'=>(x= .ex id→Φ .nrm s')∧(x≠ .ex id→Φ x s')) s):AW P (.blk id a) Φ s:=by
 obtain⟨L1,h1,h2⟩:=h;obtain⟨L,k1,k2⟩:=vn (p:=fun(q:X×St)(L:List (X×St))=>(q.1= .ex id→(X.nrm,q.2)∈L)∧(q.1≠ .ex id→q∈L)) (fun a L L'⟨e1,e2⟩ hs=>⟨fun e=>hs _ (e1 e),fun e=>hs _ (e2 e)⟩) (fun p=>Φ p.1 p.2) L1 (fun q hq=>by
  have:=h2 q hq;by_cases e:q.1= .ex id
  ·exact⟨[(.nrm,q.2)],⟨fun _=>by simp,fun e'=>absurd e e'⟩,by simpa using this.1 e⟩
  ·exact⟨[q],⟨fun e'=>absurd e' e,fun _=>by simp⟩,by simpa using this.2 e⟩)
 exact⟨L,.blk h1 (fun s' hm=>(k1 _ hm).1 rfl) fun x s' hm hx=>(k1 _ hm).2 hx,k2⟩
theorem aCo{a:MC}(Inv:Nat→St→Prop)(hstep:∀k s,Inv k s→AW P a (fun x s'=>match x with|.nrm=>∃k',k'<k∧Inv k' s'|x=>Φ x s') s):∀(k:Nat)(s:St),Inv k s→AW P (.loop a) Φ s:=by
 intro k;induction k using Nat.strongRecOn with
 |_ k ih=>
  intro s hs;obtain⟨L1,h1,h2⟩:=hstep k s hs;obtain⟨L,k1,k2,k3⟩:=aB0 (P:=P) (Φ:=Φ) (b:=.loop a) (L1:=L1) (fun p hp=>by
   have:=h2 p hp;obtain⟨x,s'⟩:=p;cases x with
   |nrm=>obtain⟨k',e1,e2⟩:=this;exact ih k' e1 s' e2
   |ex j=>exact this
   |ret=>exact this)
  exact⟨L,.loop h1 k1 k2,k3⟩
end
section
variable{P:Program}{nt:Nat}{K:Nat→Prop}{w0:World}{A0:Nat→Nd}{U0:Nat→Prop}{c0:Nat}
theorem j8{c:Code}{mc:MC}(h:okM P nt c mc=true):match mc with
  |.base b=>okC P nt c b=true
  |.nxt d t l _=>∃id ops o os,c= .region id ops false∧ops.toList=o::os∧o.op= .next (.tmp t) false∧o.dst=some d∧d<nt∧o.guard=none∧okL P nt ops l os=true
  |.seq a b=>∃c1 c2,c= .seq c1 c2∧okM P nt c1 a=true∧okM P nt c2 b=true
  |.cond y a b=>∃x c1 c2,c= .cond x c1 c2∧aX y x=true∧okM P nt c1 a=true∧okM P nt c2 b=true
  |.blk id a=>∃c1,c= .block id c1∧okM P nt c1 a=true
  |.loop a=>∃c1,c= .loop c1∧okM P nt c1 a=true:=by
 unfold okM at h;split at h
 ·rename_i id ops d t l' k;split at h
  ·rename_i o os hops;simp only[Bool.and_eq_true,beq_iff_eq,decide_eq_true_eq]at h;obtain⟨⟨⟨⟨h1,h2⟩,h3⟩,h4⟩,h5⟩:=h;refine⟨_,_,o,os,rfl,hops,?_,h2,h3,by simpa using h4,h5⟩;split at h1
   ·rename_i t' e;simp only[beq_iff_eq]at h1;subst h1;exact e
   ·simp at h1
  ·simp at h
 ·simp only[Bool.and_eq_true]at h;exact⟨_,_,rfl,h.1,h.2⟩
 ·simp only[Bool.and_eq_true]at h;exact⟨_,_,_,rfl,h.1.1,h.1.2,h.2⟩
 ·simp only[Bool.and_eq_true,beq_iff_eq]at h;obtain⟨e,h'⟩:=h;subst e;exact⟨_,rfl,h'⟩
 ·exact⟨_,rfl,h⟩
 ·exact h
 ·simp at h
theorem AllM.sound(hm:P.follows .mixedOrders=true){mc:MC}{s:St}{L:List (X×St)}(hr:AllM P mc s L):∀{c:Code}{a:Act}{w:World}{Q:Exit→Act→World→Prop},okM P nt c mc=true→Inv nt K w0 A0 U0 c0 s a w→(∀p,p∈L→∀a' w',Inv nt K w0 A0 U0 c0 p.2 a' w'→Q p.1.lX a' w')→CW P c Q a w:=by
 induction hr with
 |base h hmem=>intro c a w Q hok hs hn;exact h.sound hm (j8 hok) hs fun a' w' hs'=>hn _ hmem a' w' hs'
 | @nxt d t l k s outs L ho h=>
  intro c a w Q hok hs hn;obtain⟨id,ops,o,os,rfl,hops,hop,h2,h3,h4,h5⟩:=j8 hok;refine wp_region ?_;have hsz:ops.size=os.length+1:=by rw[←Array.length_toList,hops];rfl
  have h0:ops[0]?=some o:=by rw[←Array.getElem?_toList,hops];rfl
  rw[List.range_eq_range',hsz,List.range'_succ];refine xq h0 hop h2 h3 h4 hs ho fun q hq a' w' hs'=>?_
  obtain⟨cl,s',hcl,m3,m4⟩:=h q hq;exact pA (k:=1) (os:=os) (Q:=Q) hcl (by rw[hops];rfl) h5 hs' m3 fun a2 w2 hs2=>hn _ m4 a2 w2 (hs2.av k)
 |seq h1 h2 h3 ih1 ih2=>
  intro c a w Q hok hs hn;obtain⟨c1,c2,rfl,k1,k2⟩:=j8 hok;refine wp_seq ?_;refine(ih1 k1 hs (Q:=Exit.then (c2.wp P Q) Q) fun p hp a' w' hs'=>?_).wp;obtain⟨x,s'⟩:=p;cases x with
  |nrm=>exact(ih2 s' hp k2 hs' hn).wp
  |ex id=>exact hn _ (h3 _ _ hp (by simp)) a' w' hs'
  |ret=>exact hn _ (h3 _ _ hp (by simp)) a' w' hs'
 |condT hy h ih=>intro c a w Q hok hs hn;obtain⟨x,c1,c2,rfl,k0,k1,k2⟩:=j8 hok;obtain⟨A,U,s1,s2, -⟩:=id hs;exact wp_cond_true (aU s2 k0 hy) (ih k1 hs hn).wp
 |condF hy h ih=>intro c a w Q hok hs hn;obtain⟨x,c1,c2,rfl,k0,k1,k2⟩:=j8 hok;obtain⟨A,U,s1,s2, -⟩:=id hs;exact wp_cond_false (aU s2 k0 hy) (ih k2 hs hn).wp
 | @blk id b s L1 L h1 h2 h3 ih=>
  intro c a w Q hok hs hn;obtain⟨c1,rfl,k1⟩:=j8 hok;refine wp_block ?_;refine(ih k1 hs (Q:=Exit.inBlock id Q) fun p hp a' w' hs'=>?_).wp;obtain⟨x,s'⟩:=p;cases x with
  |nrm=>exact hn _ (h3 _ _ hp (by simp)) a' w' hs'
  |ex j=>
   by_cases e:j=id
   ·subst e;simp only[X.lX,Exit.inBlock,if_true];exact hn _ (h2 _ hp) a' w' hs'
   ·simp only[X.lX,Exit.inBlock,e,if_false];exact hn _ (h3 _ _ hp (by simpa using e)) a' w' hs'
  |ret=>exact hn _ (h3 _ _ hp (by simp)) a' w' hs'
 | @loop b s L1 L h1 h2 h3 ih1 ih2=>
  intro c a w Q hok hs hn;obtain⟨c1,rfl,k1⟩:=j8 hok;refine pW ?_;refine(ih1 k1 hs (Q:=Exit.then (jQ P c1 Q) Q) fun p hp a' w' hs'=>?_).wp;obtain⟨x,s'⟩:=p;cases x with
  |nrm=>exact ih2 s' hp (c:=.loop c1) hok hs' hn
  |ex j=>exact hn _ (h3 _ _ hp (by simp)) a' w' hs'
  |ret=>exact hn _ (h3 _ _ hp (by simp)) a' w' hs'
theorem aE9(L:List (X×St)):∃m,∀p,p∈L→p.2.c≤m:=by
 induction L with
 |nil=>exact⟨0,by simp⟩
 |cons q L ih=>
  obtain⟨m,h⟩:=ih;refine⟨Nat.max m q.2.c,fun p hp=>?_⟩;rcases List.mem_cons.1 hp with rfl|hp
  ·exact Nat.le_max_right _ _
  ·exact Nat.le_trans (h p hp) (Nat.le_max_left _ _)
theorem aCG(hm:P.follows .mixedOrders=true){g:FuncId}{F:Func}{fn:MFn}(hF:P.funcs[g]?=some F)(hok:vF P F fn=true){args:List V1}(hle:args.length≤fn.nt){h:Heap}{c:Nat}{vs:List V1}(hA:AW P fn.code (fun x s=>(x= .nrm∨x= .ret)∧mT s.h s.ts fn.res=some vs∧(∀id b,h.get id=some b→s.h.get id=some b)∧∀id x,h.getM id=some x→s.h.getM id=some x) ⟨init args 0,h,c⟩):∃c',c<c'∧FOk P g args h c (pack vs) h c':=by
 obtain⟨L,h1,h2⟩:=hA;obtain⟨m,hmax⟩:=aE9 L;unfold vF at hok;simp only[Bool.and_eq_true,beq_iff_eq]at hok;obtain⟨⟨⟨k1,k2⟩,k3⟩,k4⟩:=hok;refine⟨m+c+1,by omega,?_⟩;split at k4
 ·rename_i code hcode;refine⟨⟨F,hF,by simpa using k3,by rw[hcode];rfl⟩,by omega,?_⟩;intro A U w as hs hc hsz has;refine calls_of_wp hF hcode (h1.sound hm k4 (aAU k1 hle hs hc hsz has) ?_).wp;rintro q hq a' w' ⟨A',U',s1,s2,s3,s4,s5,s6,s7,s8,s9⟩;obtain⟨e1,e2,e3,e4⟩:=h2 q hq;obtain⟨v,v1,v2⟩:=oI (P:=P) s1 s2 k2 e2;have hlt:=hmax q hq;have hfin:bodyPost P F (fun e w'=>∃v A' U',e= .returned v∧Post (fun id=>c≤id∧id<m+c+1) A h U w A' h U' w'∧eO A' U' (pack vs) v) .ret a' w':=⟨s4,v,v1,v,A',U',rfl,⟨s1.sub e3 (fun _ h=>h) e4,s6,s7,fun id hid=>(s8 id hid).imp_right fun hh=>⟨hh.1,by omega⟩⟩,v2⟩;rcases e1 with e1|e1<;>rw[e1]<;>exact hfin
 ·simp at k4
end
end Go.Cq.D
namespace Go.Qm
open Go.Cq Go.Cq.D Go.RowKit
abbrev Str:=List UInt8
structure Area where
 fr:Int
 mn:Int
 wr:Bool
 sh:Bool
 deriving DecidableEq
structure Slot where
 kd:Int
 pl:Int
 ow:Bool
 us:Bool
 deriving DecidableEq
structure Space where
 lv:Bool
 ar:List Area
 sl:List Slot
 deriving DecidableEq
structure Pages where
 tx:List Str
 rf:List Int
 deriving DecidableEq
structure Mem where
 ram:Pages
 swp:Pages
 sp:List Space
 hd:Int
 deriving DecidableEq
def eI(n:Int):PV:=.sc (.int .i64 n)
def eB(b:Bool):PV:=.sc (.bool b)
def eS(s:Str):PV:=.sc (.str s)
def rI(n:Int):List PV:=[eI n]
def rS(s:Str):List PV:=[eS s]
def rA(a:Area):List PV:=[eI a.fr,eI a.mn,eB a.wr,eB a.sh]
def rL(s:Slot):List PV:=[eI s.kd,eI s.pl,eB s.ow,eB s.us]
def rP(s:Space):List PV:=[eB s.lv,.sl 4 (s.ar.map rA),.sl 4 (s.sl.map rL)]
def dI(n:Int):DC:=.sc (.int .i64 n)
def dB(b:Bool):DC:=.sc (.bool b)
theorem xT(n:Int):hO (rI n):=by intro p hp;simp only[rI,List.mem_singleton]at hp;exact⟨_,hp⟩
theorem xP(s:Str):hO (rS s):=by intro p hp;simp only[rS,List.mem_singleton]at hp;exact⟨_,hp⟩
theorem sy(a:Area):hO (rA a):=by intro p hp;simp only[rA,List.mem_cons,List.not_mem_nil,or_false]at hp;rcases hp with rfl|rfl|rfl|rfl<;>exact⟨_,rfl⟩
theorem cu(a:Slot):hO (rL a):=by intro p hp;simp only[rL,List.mem_cons,List.not_mem_nil,or_false]at hp;rcases hp with rfl|rfl|rfl|rfl<;>exact⟨_,rfl⟩
theorem ij{α:Type}{f:α→List PV}(h:∀a,hO (f a))(l:List α):∀row,row∈l.map f→hO row:=by intro row hr;obtain⟨a, -,rfl⟩:=List.mem_map.1 hr;exact h a
@[simp] theorem ae{α β:Type}{f:α→β}{l:List α}:(l.map f).take l.length=l.map f:=by rw[←List.length_map (f:=f),List.take_length]
theorem wrap64{x:Int}(h1: -9223372036854775808≤x)(h2:x≤9223372036854775807):IntKind.wrap .i64 x=x:=by
 have e:IntKind.wrap .i64 x=if x % 18446744073709551616≥9223372036854775808 then x % 18446744073709551616-18446744073709551616 else x % 18446744073709551616:=by simp only[IntKind.wrap,IntKind.bits,IntKind.signed];simp
 rw[e];split<;>omega
def inB(n l h:Int):Bool:=decide (l≤n)&&decide (n≤h)
def dw(t:Str)(n:Int):Bool:=inB n 0 99&&decide ((t.length:Int)=if n=0 then 0 else 4)
def ed:List Str→List Int→Bool
 |t::ts,n::ns=>dw t n&&ed ts ns
 |_,_=>true
def bu(p:Pages):Bool:=decide (p.tx.length=p.rf.length)&&inB p.tx.length 1 12&&ed p.tx p.rf
def bL(a:Area):Bool:=inB a.fr 0 15&&inB a.mn 1 (16-a.fr)
def eb:Option Area→List Area→Bool
 |_,[]=>true
 |none,a::l=>bL a&&eb (some a) l
 |some p,a::l=>bL a&&decide (p.fr+p.mn≤a.fr)&&eb (some a) l
def ay(l:List Area):Bool:=eb none l&&decide (l.length≤6)
def gQ(page:Int):List Area→Int→Int
 | [],_=> -1
 |a::l,i=>if a.fr≤page∧page<a.fr+a.mn then i else gQ page l (i+1)
def bA(l:List Area)(page:Int):Int:=gQ page l 0
def dZ(l:List Area)(page:Int):Int:=if ay l then bA l page else-1
theorem sZ:∀{l:List Area}{p:Option Area},eb p l=true→∀a,a∈l→bL a=true:=by
 intro l;induction l with
 |nil=>intro p _ a ha;simp at ha
 |cons b l ih=>
  intro p h a ha;cases p<;>simp only[eb,Bool.and_eq_true]at h
  ·rcases List.mem_cons.1 ha with rfl|ha
   ·exact h.1
   ·exact ih h.2 a ha
  ·rcases List.mem_cons.1 ha with rfl|ha
   ·exact h.1.1
   ·exact ih h.2 a ha
theorem fW{l:List Area}(h:ay l=true):∀a,a∈l→bL a=true:=by simp only[ay,Bool.and_eq_true]at h;exact sZ h.1
theorem gB{a:Area}:bL a=true↔0≤a.fr∧a.fr≤15∧1≤a.mn∧a.mn≤16-a.fr:=by simp only[bL,inB,Bool.and_eq_true,decide_eq_true_eq];omega
def dr(l:List Area)(i:Nat):Bool:=eb (if i=0 then none else l[i-1]?) (l.drop i)
def kf(l:List Area)(i:Nat)(a:Area):Bool:=match l[i-1]? with
 |some p=>decide (p.fr+p.mn≤a.fr)
 |none=>true
theorem dX{l:List Area}{i:Nat}(h:i<l.length):dr l i=(bL l[i]&&(decide (i=0)||kf l i l[i])&&dr l (i+1)):=by
 unfold dr;rw[List.drop_eq_getElem_cons h,if_neg (Nat.succ_ne_zero i),Nat.add_sub_cancel,List.getElem?_eq_getElem h];by_cases e:i=0
 ·subst e;simp only[if_true,eb,decide_true,Bool.true_or,Bool.and_true]
 ·have h':i-1<l.length:=by omega
  rw[kf,if_neg e,List.getElem?_eq_getElem h',decide_eq_false e,Bool.false_or];rfl
theorem iW{l:List Area}{page:Int}{i:Nat}(h:i<l.length):gQ page (l.drop i) i=if l[i].fr≤page∧page<l[i].fr+l[i].mn then(i:Int)else gQ page (l.drop (i+1)) ((i+1:Nat):Int):=by rw[List.drop_eq_getElem_cons h,gQ];rfl
theorem x8{page:Int}:∀{l:List Area}{i:Int},0≤gQ page l i→0≤i→i≤gQ page l i∧gQ page l i<i+l.length:=by
 intro l;induction l with
 |nil=>intro i h;simp[gQ]at h
 |cons a l ih=>
  intro i h hi;simp only[gQ]at h ⊢;split
  ·simp;omega
  ·rename_i hc;rw[if_neg hc]at h;have:=ih h (by omega);simp only[List.length_cons];omega
theorem iv{l:List Area}{page:Int}(h:0≤bA l page):(bA l page).toNat<l.length:=by have:=x8 h (Int.le_refl 0);unfold bA at h ⊢;omega
def jT(l:List Area)(k:Int):Bool:=decide (0≤k)&&(l[k.toNat]?.map (·.sh)).getD false
def fe(l:List Space)(k:Int):Bool:=inB k 0 (l.length-1)&&(l[k.toNat]?.map (·.lv)).getD false
end Go.Qm
namespace Go.Qm
open Go.Cq Go.Cq.D Go.RowKit
def dQ:Slot:=⟨0,0,false,false⟩
def dC(ar:List Area)(i:Nat)(x:Slot):Bool:=if x.kd=0 then decide (x=dQ)else decide (0≤bA ar i)&&(inB x.kd 1 2&&!(jT ar (bA ar i)&&!x.ow))
def cz(ar:List Area):Nat→List Slot→Bool
 |_,[]=>true
 |i,x::l=>dC ar i x&&cz ar (i+1) l
def bo(s:Space):Bool:=if s.lv then ay s.ar&&(decide (s.sl.length=16)&&cz s.ar 0 s.sl)else decide (s.ar.length=0)&&decide (s.sl.length=0)
def gI(ar:List Area)(kd pl:Int):Nat→List Slot→List (Bool×Bool)
 |_,[]=>[]
 |i,x::l=>if x.kd=kd∧x.pl=pl then(x.ow,jT ar (bA ar i))::gI ar kd pl (i+1) l else gI ar kd pl (i+1) l
def tel(kd pl:Int):List Space→List (Bool×Bool)
 | []=>[]
 |s::l=>gI s.ar kd pl 0 s.sl++tel kd pl l
def alone(l:List (Bool×Bool)):Bool:=decide (l.length<2)||!(l.any (·.1))||!(l.any (!·.2))
def gU(x:Slot):Bool:=decide (x.kd=0)||inB x.pl 0 11
def g8(kd:Int)(sp:List Space)(pl:Nat)(n:Int):Bool:=decide (((tel kd pl sp).length:Int)=n)&&alone (tel kd pl sp)
def cn(kd:Int)(sp:List Space):Nat→List Int→Bool
 |_,[]=>true
 |i,n::l=>g8 kd sp i n&&cn kd sp (i+1) l
def cY(m:Mem):Bool:=
 bu m.ram&&bu m.swp&&decide (m.ram.rf.length=12)&&decide (m.swp.rf.length=12)&&decide (m.sp.length=5)&&inB m.hd 0 11&&
  (m.sp.all fun s=>bo s&&s.sl.all gU)&&cn 1 m.sp 0 m.ram.rf&&cn 2 m.sp 0 m.swp.rf
theorem ka{ar:List Area}{l:List Slot}{i:Nat}(h:i<l.length):cz ar i (l.drop i)=(dC ar i l[i]&&cz ar (i+1) (l.drop (i+1))):=by rw[List.drop_eq_getElem_cons h,cz]
theorem ry{ar:List Area}{kd pl:Int}{l:List Slot}{i:Nat}(h:i<l.length):gI ar kd pl i (l.drop i)=if l[i].kd=kd∧l[i].pl=pl then(l[i].ow,jT ar (bA ar i))::gI ar kd pl (i+1) (l.drop (i+1))else gI ar kd pl (i+1) (l.drop (i+1)):=by rw[List.drop_eq_getElem_cons h,gI]
theorem vD{kd pl:Int}{l:List Space}{i:Nat}(h:i<l.length):tel kd pl (l.drop i)=gI l[i].ar kd pl 0 l[i].sl++tel kd pl (l.drop (i+1)):=by rw[List.drop_eq_getElem_cons h,tel]
theorem k9{kd:Int}{sp:List Space}{l:List Int}{i:Nat}(h:i<l.length):cn kd sp i (l.drop i)=(g8 kd sp i l[i]&&cn kd sp (i+1) (l.drop (i+1))):=by rw[List.drop_eq_getElem_cons h,cn]
end Go.Qm
namespace Go.Qm
open Go.Cq Go.Cq.D Go.RowKit
def aEH:Area:=⟨0,0,false,false⟩
def kG(a:Area)(lo hi:Int):Option Area:=if min (a.fr+a.mn-1) hi<max a.fr lo then none else some ⟨max a.fr lo,min (a.fr+a.mn-1) hi-max a.fr lo+1,a.wr,a.sh⟩
def uc(a:Area)(fr to:Int):List Area:=(kG a 0 (fr-1)).toList++(kG a (to+1) 15).toList
def lE(l:List Area)(fr to:Int):List Area:=l.flatMap fun a=>uc a fr to
def cI(p:Pages)(k:Nat):Pages:=⟨if p.rf[k]?.getD 0=1 then p.tx.set k []else p.tx,p.rf.set k (p.rf[k]?.getD 0-1)⟩
def aF(sp:List Space)(i j:Nat)(x:Slot):List Space:=sp.modify i fun s=>{s with sl:=s.sl.set j x}
def ik(m:Mem)(i j:Nat):Mem:=
 match(m.sp[i]?.bind fun s=>s.sl[j]?)with
 |none=>m
 |some x=>⟨if x.kd=1 then cI m.ram x.pl.toNat else m.ram,if x.kd=2 then cI m.swp x.pl.toNat else m.swp,aF m.sp i j dQ,m.hd⟩
theorem i4{α:Type}{es:List α}{i:Nat}{row:α}{f:α→α}(h:es[i]?=some row):es.modify i f=es.set i (f row):=by
 refine List.ext_getElem? fun j=>?_
 rw[List.getElem?_modify,List.getElem?_set];by_cases e:i=j
 ·subst e;obtain⟨hi,e⟩:=List.getElem?_eq_some_iff.1 h;rw[h,if_pos rfl,if_pos hi];simp
 ·rw[if_neg e];cases es[j]?<;>simp[e]
end Go.Qm
namespace Go.Qm
open Go.Cq Go.Cq.D Go.RowKit
def cm(m:Mem)(i fr:Nat):Nat→Mem
 |0=>m
 |t+1=>ik (cm m i fr t) i (fr+t)
def c9(m:Mem)(i:Nat)(l:List Area):Mem:={m with sp:=m.sp.modify i fun s=>{s with ar:=l}}
structure PgOk(p:Pages)(t:Nat):Prop where
 tx:p.tx.length=12
 rf:p.rf.length=12
 bd:∀x,x∈p.rf→ -(t:Int)≤x∧x≤99
structure LsOk(m:Mem)(i fr t:Nat):Prop where
 ram:PgOk m.ram t
 swp:PgOk m.swp t
 hi:i<m.sp.length
 sl:m.sp[i].sl.length=16
 pl:∀j(h:j<m.sp[i].sl.length),fr+t≤j→gU m.sp[i].sl[j]=true
theorem PgOk.fX{p:Pages}{t:Nat}(h:PgOk p t)(k:Nat):PgOk (cI p k) (t+1):=by
 refine⟨?_,by simp[cI,h.rf],fun x hx=>?_⟩
 ·simp only[cI];split<;>simp[h.tx]
 ·simp only[cI]at hx;rcases List.mem_or_eq_of_mem_set hx with hx|hx
  ·have:=h.bd x hx;omega
  ·subst hx;cases e:p.rf[k]? with
   |none=>simp;omega
   |some y=>have:=h.bd y (List.mem_of_getElem? e);simp only[Option.getD_some];omega
theorem PgOk.more{p:Pages}{t:Nat}(h:PgOk p t):PgOk p (t+1):=⟨h.tx,h.rf,fun x hx=>by have:=h.bd x hx;omega⟩
theorem PgOk.at{p:Pages}{t k:Nat}(h:PgOk p t)(ht:t≤100)(hk:k<12):k<p.tx.length∧∃hk:k<p.rf.length, -1000≤p.rf[k]∧p.rf[k]≤1000:=by
 have hk':k<p.rf.length:=by rw[h.rf];exact hk
 have:=h.bd _ (List.getElem_mem hk');exact⟨by rw[h.tx];exact hk,hk',by omega,by omega⟩
theorem so{x:Slot}(h:gU x=true)(hk:x.kd≠0):∃k:Nat,x.pl=k∧k<12:=by simp only[gU,inB,Bool.or_eq_true,Bool.and_eq_true,decide_eq_true_eq]at h;exact⟨x.pl.toNat,by omega,by omega⟩
theorem LsOk.ok{m:Mem}{i fr t j:Nat}(h:LsOk m i fr t)(ht:t≤100)(hj:fr+t≤j)(hi:i<m.sp.length)(hj':j<m.sp[i].sl.length):(m.sp[i].sl[j].kd=1→∃k:Nat,m.sp[i].sl[j].pl=k∧k<m.ram.tx.length∧∃hk:k<m.ram.rf.length, -1000≤m.ram.rf[k]∧m.ram.rf[k]≤1000)∧(m.sp[i].sl[j].kd=2→∃k:Nat,m.sp[i].sl[j].pl=k∧k<m.swp.tx.length∧∃hk:k<m.swp.rf.length, -1000≤m.swp.rf[k]∧m.swp.rf[k]≤1000):=by
 have hp:=h.pl j hj' hj;refine⟨fun e=>?_,fun e=>?_⟩
 ·obtain⟨k,h1,h2⟩:=so hp (by omega);exact⟨k,h1,h.ram.at ht h2⟩
 ·obtain⟨k,h1,h2⟩:=so hp (by omega);exact⟨k,h1,h.swp.at ht h2⟩
theorem LsOk.step{m:Mem}{i fr t:Nat}(h:LsOk m i fr t)(hj:fr+t<16):LsOk (ik m i (fr+t)) i fr (t+1):=by
 have hi:=h.hi;have hj':fr+t<m.sp[i].sl.length:=by rw[h.sl];exact hj
 have hb:(m.sp[i]?.bind fun s=>s.sl[fr+t]?)=some m.sp[i].sl[fr+t]:=by simp[h.hi,hj']
 have e:(aF m.sp i (fr+t) dQ)[i]?=some {m.sp[i]with sl:=m.sp[i].sl.set (fr+t) dQ}:=by rw[aF,List.getElem?_modify];simp[h.hi]
 have hl:i< (aF m.sp i (fr+t) dQ).length:=by simp[aF,h.hi]
 have e':(aF m.sp i (fr+t) dQ)[i]={m.sp[i]with sl:=m.sp[i].sl.set (fr+t) dQ}:=by rw[List.getElem?_eq_getElem hl]at e;exact Option.some.inj e
 simp only[ik,hb];refine⟨?_,?_,hl,?_,fun j hjl hjt=>?_⟩
 ·simp only;split
  ·exact h.ram.fX _
  ·exact h.ram.more
 ·simp only;split
  ·exact h.swp.fX _
  ·exact h.swp.more
 ·simp only[e',List.length_set,h.sl]
 ·simp only[e',List.length_set]at hjl ⊢;rw[List.getElem_set_ne (by omega)];exact h.pl j hjl (by omega)
theorem rZ{m:Mem}{i fr:Nat}(h:LsOk m i fr 0):∀{t:Nat},fr+t≤16→LsOk (cm m i fr t) i fr t:=by
 intro t;induction t with
 |zero=>intro _;exact h
 |succ t ih=>intro ht;exact(ih (by omega)).step (by omega)
end Go.Qm
namespace Go.Cq.D
open Go.RowKit
abbrev Gh:=(Bool→Nat→Prop)→(Nat→Prop)→(Nat→Prop)→Heap→Prop
structure Stab(γ:Gh):Prop where
 st:∀{N:Bool→Nat→Prop}{U own:Nat→Prop}{h:Heap}{N':Bool→Nat→Prop}{U' own':Nat→Prop}{h':Heap},γ N U own h→(∀id,N true id→U id∧¬own id)→NG N N' own U U'→(∀id,own' id→own id∨¬U id∧U' id)→(∀id,U id→U' id)→(∀id,U id→¬own id→h'.get id=h.get id)→(∀id,h'.getM id=h.getM id)→γ N' U' own' h'
structure RG(U0:Nat→Prop)(h0:Heap)(c0:Nat)(s:St)(ts:DTs)(H:DH)(n:Nat)(γ:Gh):Prop where
 ex:∃N I Fp U,(∀id,U id→id<s.c)∧(∀id,U0 id→U id∧¬aV I Fp H id)∧c0≤s.c∧R none N I Fp ts H n s.ts s.h U∧(∀id,U0 id→s.h.get id=h0.get id)∧(∀id,id<c0→s.h.getM id=h0.getM id)∧γ N U (aV I Fp H) s.h
abbrev Kg:=X→DTs→DH→Nat→Gh→Prop
def gK(Q:Kg)(γ:Gh):Kc:=fun x ts H n=>Q x ts H n γ
section
variable{P:Program}{U0:Nat→Prop}{h0:Heap}{c0:Nat}
theorem RG.rel{N:Bool→Nat→Prop}{I:Nm}{Fp:Loc→Nat→Prop}{U:Nat→Prop}{s:St}{ts:DTs}{H:DH}{n:Nat}(hr:R none N I Fp ts H n s.ts s.h U):Rel N I Fp H 0 U s.h s.c s ts H n:=by
 have e:(fun id=>U id∨s.c≤id∧id<s.c)=U:=funext fun id=>propext ⟨fun h=>h.elim (fun h=>h) fun⟨h1,h2⟩=>absurd h2 (Nat.not_lt.2 h1),.inl⟩
 refine⟨Nat.le_refl _,N,I,Fp,NG.refl ..,?_,?_⟩
 ·simp only[e];exact hr
 ·simp only[e];exact⟨Nat.zero_le _,fun _ h=>h,fun _ _=>rfl,fun _ h=>.inl h,fun _ _ _=>rfl,fun g _ hg=>absurd hg (Nat.not_lt_zero _),fun _=>rfl⟩
theorem RG.after{N:Bool→Nat→Prop}{I:Nm}{Fp:Loc→Nat→Prop}{U:Nat→Prop}{s s':St}{H:DH}{γ:Gh}(hst:Stab γ)(h1:∀id,U id→id<s.c)(h2:∀id,U0 id→U id∧¬aV I Fp H id)(h3:c0≤s.c)(h5:∀id,U0 id→s.h.get id=h0.get id)(h6:∀id,id<c0→s.h.getM id=h0.getM id)(h7:γ N U (aV I Fp H) s.h)(h8:∀id,N true id→U id∧¬aV I Fp H id){ts':DTs}{H':DH}{n':Nat}(hr:Rel N I Fp H 0 U s.h s.c s' ts' H' n'):RG U0 h0 c0 s' ts' H' n' γ:=by
 obtain⟨hc,N',I',Fp',ng,r,g⟩:=hr;have hown:∀id,U id→aV I' Fp' H' id→aV I Fp H id:=fun id hu ho=>(g.own id ho).elim (fun h=>h) fun h=>absurd hu h.1
 refine⟨N',I',Fp',_,fun id hid=>?_,fun id hid=>⟨.inl (h2 id hid).1,fun ho=>(h2 id hid).2 (hown id (h2 id hid).1 ho)⟩,by omega,r,fun id hid=>?_,fun id hid=>(g.mp id).trans (h6 id hid),hst.st h7 h8 ng g.own g.cc g.hp g.mp⟩
 ·rcases hid with hid| ⟨-,hid⟩
  ·have:=h1 id hid;omega
  ·exact hid
 ·rw[g.hp id (h2 id hid).1 (h2 id hid).2];exact h5 id hid
structure WCP(P:Program)(U0:Nat→Prop)(h0:Heap)(c0:Nat)(cc:CC)(Q:Kg)(ts:DTs)(H:DH)(n:Nat)(γ:Gh):Prop where
 go:∀s,RG U0 h0 c0 s ts H n γ→∃x s',ExC P cc s x s'∧∃ts' H' n' γ',Q x ts' H' n' γ'∧RG U0 h0 c0 s' ts' H' n' γ'
structure WMP(P:Program)(U0:Nat→Prop)(h0:Heap)(c0:Nat)(mc:MC)(Q:Kg)(ts:DTs)(H:DH)(n:Nat)(γ:Gh):Prop where
 go:∀s,RG U0 h0 c0 s ts H n γ→AW P mc (fun x s'=>∃ts' H' n' γ',Q x ts' H' n' γ'∧RG U0 h0 c0 s' ts' H' n' γ') s
def aEd(P:Program)(U0:Nat→Prop)(h0:Heap)(c0:Nat)(b:CC)(Q:Kg):Kg:=fun x ts H n γ=>match x with
 |.nrm=>WCP P U0 h0 c0 b Q ts H n γ
 |x=>Q x ts H n γ
def aEL(P:Program)(U0:Nat→Prop)(h0:Heap)(c0:Nat)(b:MC)(Q:Kg):Kg:=fun x ts H n γ=>match x with
 |.nrm=>WMP P U0 h0 c0 b Q ts H n γ
 |x=>Q x ts H n γ
def aAy(id:Nat)(Q:Kg):Kg:=fun x ts H n γ=>match x with
 |.ex j=>cond (Nat.beq j id) (Q .nrm ts H n γ) (Q (.ex j) ts H n γ)
 |x=>Q x ts H n γ
def aDD(J:DTs→DH→Nat→Gh→Prop)(Q:Kg):Kg:=fun x ts H n γ=>match x with
 |.nrm=>J ts H n γ
 |x=>Q x ts H n γ
variable{ts:DTs}{H:DH}{n:Nat}{γ:Gh}{Q:Kg}
theorem bZ{cc:CC}(hst:Stab γ)(h:po ⟨P,noJ⟩ 0 cc (gK Q γ) ts H n):WCP P U0 h0 c0 cc Q ts H n γ:=by refine⟨fun s hs=>?_⟩;obtain⟨N,I,Fp,U,h1,h2,h3,h4,h5,h6,h7⟩:=hs.ex;obtain⟨x,s',k1,ts',H',n',k2,k3⟩:=tc h1 (Tie.none h4) (RG.rel h4) (oj h);exact⟨x,s',k1,ts',H',n',γ,k2,RG.after hst h1 h2 h3 h5 h6 h7 (px h4) k3⟩
theorem dG{a b:CC}(h:WCP P U0 h0 c0 a (aEd P U0 h0 c0 b Q) ts H n γ):WCP P U0 h0 c0 (.seq a b) Q ts H n γ:=by
 refine⟨fun s hs=>?_⟩;obtain⟨x,s1,k1,ts1,H1,n1,γ1,k2,k3⟩:=h.go s hs;cases x with
 |nrm=>obtain⟨x2,s2,j1,j2⟩:=WCP.go (by exact k2) s1 k3;exact⟨x2,s2,.seqN k1 j1,j2⟩
 |ex j=>exact⟨_,s1,.oL k1 (by simp),ts1,H1,n1,γ1,k2,k3⟩
 |ret=>exact⟨_,s1,.oL k1 (by simp),ts1,H1,n1,γ1,k2,k3⟩
theorem WCP.mono{cc:CC}{Q':Kg}(h:WCP P U0 h0 c0 cc Q ts H n γ)(hq:∀x ts H n γ,Q x ts H n γ→Q' x ts H n γ):WCP P U0 h0 c0 cc Q' ts H n γ:=by refine⟨fun s hs=>?_⟩;obtain⟨x,s1,k1,ts1,H1,n1,γ1,k2,k3⟩:=h.go s hs;exact⟨x,s1,k1,ts1,H1,n1,γ1,hq _ _ _ _ _ k2,k3⟩
def aEc(J:DTs→DH→Nat→Gh→Prop)(Q:Kg):Kg:=fun x ts H n γ=>match x with
 |.nrm=>J ts H n γ
 |x=>Q x ts H n γ
theorem xB(J:DTs→DH→Nat→Gh→Prop){a b:CC}(h1:WCP P U0 h0 c0 a (aEc J Q) ts H n γ)(h2:∀ts H n γ,J ts H n γ→WCP P U0 h0 c0 b Q ts H n γ):WCP P U0 h0 c0 (.seq a b) Q ts H n γ:=by
 refine dG (h1.mono fun x ts H n γ h=>?_);cases x with
 |nrm=>exact h2 _ _ _ _ h
 |ex j=>exact h
 |ret=>exact h
theorem kB{id:Nat}{a:CC}(h:WCP P U0 h0 c0 a (aAy id Q) ts H n γ):WCP P U0 h0 c0 (.blk id a) Q ts H n γ:=by
 refine⟨fun s hs=>?_⟩;obtain⟨x,s1,k1,ts1,H1,n1,γ1,k2,k3⟩:=h.go s hs;cases x with
 |nrm=>exact⟨.nrm,s1,.blkPass k1 (by simp),ts1,H1,n1,γ1,k2,k3⟩
 |ret=>exact⟨.ret,s1,.blkPass k1 (by simp),ts1,H1,n1,γ1,k2,k3⟩
 |ex j=>
  simp only[aAy]at k2;cases hb:Nat.beq j id with
  |true=>rw[hb]at k2;have:=Nat.eq_of_beq_eq_true hb;subst this;exact⟨.nrm,s1,.blkHit k1,ts1,H1,n1,γ1,k2,k3⟩
  |false=>rw[hb]at k2;have:=Nat.ne_of_beq_eq_false hb;exact⟨.ex j,s1,.blkPass k1 (fun e=>this (by injection e)),ts1,H1,n1,γ1,k2,k3⟩
theorem RG.ev{s:St}(hs:RG U0 h0 c0 s ts H n γ){y:Opd}{v:CV}(hy:evS ts y=some v):ev1 s.ts y=some v:=by obtain⟨N,I,Fp,U,h1,h2,h3,h4, -⟩:=hs.ex;exact(eX h4 hy).1
theorem aCa{y:Opd}{a b:CC}{v:Bool}(hy:evS ts y=some (.bool v))(ht:v=true→WCP P U0 h0 c0 a Q ts H n γ)(hf:v=false→WCP P U0 h0 c0 b Q ts H n γ):WCP P U0 h0 c0 (.cond y a b) Q ts H n γ:=by
 refine⟨fun s hs=>?_⟩;have he:=hs.ev hy;cases v with
 |true=>obtain⟨x,s1,k1,k2⟩:=(ht rfl).go s hs;exact⟨x,s1,.condT he k1,k2⟩
 |false=>obtain⟨x,s1,k1,k2⟩:=(hf rfl).go s hs;exact⟨x,s1,.condF he k1,k2⟩
theorem su{σ:Type}(T:σ→DTs)(Hh:σ→DH)(nn:σ→Nat)(gg:σ→Gh)(ok:σ→Prop)(μ:σ→Nat){a:CC}(s0:σ)(k0:ok s0)(e1:ts=T s0)(e2:H=Hh s0)(e3:n=nn s0)(e4:γ=gg s0)(step:∀s,ok s→WCP P U0 h0 c0 a (aDD (fun ts H n γ=>∃s',μ s'<μ s∧ok s'∧ts=T s'∧H=Hh s'∧n=nn s'∧γ=gg s') Q) (T s) (Hh s) (nn s) (gg s)):WCP P U0 h0 c0 (.loop a) Q ts H n γ:=by
 subst e1;subst e2;subst e3;subst e4;have main:∀(k:Nat)(q:σ),μ q=k→ok q→∀s,RG U0 h0 c0 s (T q) (Hh q) (nn q) (gg q)→∃x s',ExC P (.loop a) s x s'∧∃ts' H' n' γ',Q x ts' H' n' γ'∧RG U0 h0 c0 s' ts' H' n' γ':=by
  intro k;induction k using Nat.strongRecOn with
  |_ k ih=>
   intro q hq hok s hs;obtain⟨x,s1,k1,ts1,H1,n1,γ1,k2,k3⟩:=(step q hok).go s hs;cases x with
   |nrm=>obtain⟨q',j1,j2,rfl,rfl,rfl,rfl⟩:=k2;obtain⟨x2,s2,j3,j4⟩:=ih (μ q') (by omega) q' rfl j2 s1 k3;exact⟨x2,s2,.loopN k1 j3,j4⟩
   |ex j=>exact⟨_,s1,.loopX k1 (by simp),ts1,H1,n1,γ1,k2,k3⟩
   |ret=>exact⟨_,s1,.loopX k1 (by simp),ts1,H1,n1,γ1,k2,k3⟩
 exact⟨fun s hs=>main (μ s0) s0 rfl k0 s hs⟩
structure SGP(P:Program)(U0:Nat→Prop)(h0:Heap)(c0:Nat)(l:List CI)(Q:DTs→DH→Nat→Gh→Prop)(ts:DTs)(H:DH)(n:Nat)(γ:Gh):Prop where
 go:∀s,RG U0 h0 c0 s ts H n γ→∃s',gY iF l s=some s'∧∃ts' H' n' γ',Q ts' H' n' γ'∧RG U0 h0 c0 s' ts' H' n' γ'
theorem sX{Q:DTs→DH→Nat→Gh→Prop}(h:Q ts H n γ):SGP P U0 h0 c0 [] Q ts H n γ:=⟨fun s hs=>⟨s,rfl,ts,H,n,γ,h,hs⟩⟩
theorem nU{ci:CI}{l:List CI}{Q:DTs→DH→Nat→Gh→Prop}(h:∀s,RG U0 h0 c0 s ts H n γ→∃s1,fo iF s.c (s.c+1) ci s.ts s.h=some s1∧∃ts1 H1 n1 γ1,SGP P U0 h0 c0 l Q ts1 H1 n1 γ1∧RG U0 h0 c0 s1 ts1 H1 n1 γ1):SGP P U0 h0 c0 (ci::l) Q ts H n γ:=by refine⟨fun s hs=>?_⟩;obtain⟨s1,k1,ts1,H1,n1,γ1,k2,k3⟩:=h s hs;obtain⟨s2,j1,j2⟩:=k2.go s1 k3;exact⟨s2,by simp only[gY,k1];exact j1,j2⟩
theorem vC{cl:cN}:∀{l:List CI}{s:St},(l.all fun ci=>!ci.op.fH)=true→gY cl l s=gY iF l s:=by
 intro l;induction l with
 |nil=>intro s _;rfl
 |cons ci l ih=>
  intro s h;simp only[List.all_cons,Bool.and_eq_true,Bool.not_eq_true']at h;simp only[gY,fo,COp.ko h.1 cl iF];split
  ·exact ih h.2
  ·rfl
theorem ti{cl:cN}:∀{l1 l2:List CI}{s s1:St},gY cl l1 s=some s1→gY cl (l1++l2) s=gY cl l2 s1:=by
 intro l1;induction l1 with
 |nil=>intro l2 s s1 h;simp only[gY,Option.some.injEq]at h;subst h;rfl
 |cons ci l ih=>
  intro l2 s s1 h;simp only[gY,List.cons_append]at h ⊢;split at h
  ·exact ih h
  ·simp at h
theorem aDA(l1 l2:List CI){l:List CI}{Q:DTs→DH→Nat→Gh→Prop}(hl:l=l1++l2)(hc:(l1.all fun ci=>!ci.op.fH)=true)(hst:Stab γ)(h:oL ⟨P,noJ⟩ l1 ts H n fun ts' H' n'=>SGP P U0 h0 c0 l2 Q ts' H' n' γ):SGP P U0 h0 c0 l Q ts H n γ:=by subst hl;refine⟨fun s hs=>?_⟩;obtain⟨N,I,Fp,U,h1,h2,h3,h4,h5,h6,h7⟩:=hs.ex;obtain⟨cl, -,s1,k1,ts1,H1,n1,k2,k3⟩:=xJ h1 (Tie.none h4) (RG.rel h4) (wy h);rw[vC hc]at k1;obtain⟨s2,j1,j2⟩:=k2.go s1 (RG.after hst h1 h2 h3 h5 h6 h7 (px h4) k3);exact⟨s2,by rw[ti k1];exact j1,j2⟩
theorem r6(k:Nat){l:List CI}{Q:DTs→DH→Nat→Gh→Prop}(hst:Stab γ)(hc:((l.take k).all fun ci=>!ci.op.fH)=true)(h:oL ⟨P,noJ⟩ (l.take k) ts H n fun ts' H' n'=>SGP P U0 h0 c0 (l.drop k) Q ts' H' n' γ):SGP P U0 h0 c0 l Q ts H n γ:=aDA (l.take k) (l.drop k) (List.take_append_drop k l).symm hc hst h
theorem tK{s:St}{k:Option (List Nat)}{Q:DTs→DH→Nat→Prop}(hst:Stab γ)(hs:RG U0 h0 c0 s ts H n γ)(hx:lR 0 k ts H n Q):∃ts' H' n',Q ts' H' n'∧RG U0 h0 c0 (s.av k) ts' H' n' γ:=by obtain⟨N,I,Fp,U,h1,h2,h3,h4,h5,h6,h7⟩:=hs.ex;obtain⟨ts',H',n',k1,k2⟩:=qB (RG.rel h4) (mY hx);exact⟨ts',H',n',k1,RG.after hst h1 h2 h3 h5 h6 h7 (px h4) k2⟩
structure KGP(k:Option (List Nat))(Q:Kg)(ts:DTs)(H:DH)(n:Nat)(γ:Gh):Prop where
 st:Stab γ
 go:lR 0 k ts H n fun ts H n=>Q .nrm ts H n γ
theorem sW{l:List CI}{k:Option (List Nat)}(h:SGP P U0 h0 c0 l (KGP k Q) ts H n γ):WCP P U0 h0 c0 (.reg l k) Q ts H n γ:=by refine⟨fun s hs=>?_⟩;obtain⟨s1,k1,ts1,H1,n1,γ1,k2,k3⟩:=h.go s hs;obtain⟨ts2,H2,n2,k4,k5⟩:=tK k2.st k3 k2.go;exact⟨.nrm,_,.reg (jc P) k1,ts2,H2,n2,γ1,k4,k5⟩
theorem iU{cc:CC}(h:WCP P U0 h0 c0 cc Q ts H n γ):WMP P U0 h0 c0 (.base cc) Q ts H n γ:=by refine⟨fun s hs=>?_⟩;obtain⟨x,s1,k1,k2⟩:=h.go s hs;exact aCd k1 k2
theorem mI{a b:MC}(h:WMP P U0 h0 c0 a (aEL P U0 h0 c0 b Q) ts H n γ):WMP P U0 h0 c0 (.seq a b) Q ts H n γ:=by
 refine⟨fun s hs=>aD6 ((h.go s hs).mono fun x s' hx=>?_)⟩;obtain⟨ts1,H1,n1,γ1,k2,k3⟩:=hx;cases x with
 |nrm=>exact WMP.go (by exact k2) s' k3
 |ex j=>exact⟨ts1,H1,n1,γ1,k2,k3⟩
 |ret=>exact⟨ts1,H1,n1,γ1,k2,k3⟩
theorem aDT{id:Nat}{a:MC}(h:WMP P U0 h0 c0 a (aAy id Q) ts H n γ):WMP P U0 h0 c0 (.blk id a) Q ts H n γ:=by
 refine⟨fun s hs=>aDq ((h.go s hs).mono fun x s' hx=>?_)⟩;obtain⟨ts1,H1,n1,γ1,k2,k3⟩:=hx;refine⟨fun e=>?_,fun e=>?_⟩
 ·subst e;simp only[aAy,Nat.beq_refl]at k2;exact⟨ts1,H1,n1,γ1,k2,k3⟩
 ·refine⟨ts1,H1,n1,γ1,?_,k3⟩;cases x with
  |nrm=>exact k2
  |ret=>exact k2
  |ex j=>
   have hb:Nat.beq j id=false:=by
    cases hb:Nat.beq j id with
    |false=>rfl
    |true=>exact absurd (by rw[Nat.eq_of_beq_eq_true hb]) e
   simp only[aAy,hb]at k2;exact k2
theorem aBL{s:St}(av:List Nat)(hs:RG U0 h0 c0 s ts H n γ):RG U0 h0 c0 s (br av ts) H n γ:=by
 obtain⟨N,I,Fp,U,h1,h2,h3,h4,h5,h6,h7⟩:=hs.ex;have hsub:∀t x,an (br av ts) t=some x→an ts t=some x:=fun t x hx=>(gM hx).1
 have hsubC:∀t j k x,aa (br av ts) H (.t t j k)=some x→aa ts H (.t t j k)=some x:=fun t j k x hx=>by simp only[aa,Option.bind_eq_some_iff]at hx ⊢;obtain⟨y,e1,e2⟩:=hx;exact⟨y,hsub t y e1,e2⟩
 exact⟨N,I,Fp,U,h1,h2,h3,h4.sub (fun t x hx=>h4.tsh t x (hsub t x hx)) (fun t j k x hx=>h4.cell _ x (by simp) (hsubC t j k x hx)) (fun t j k x g hx hg=>h4.tags _ x g (hsubC t j k x hx) hg) (fun _ _ h=>h) (fun _ _ h=>h) (fun _ _ _ _=>rfl),h5,h6,h7⟩
theorem aCO{σ:Type}(T:σ→DTs)(Hh:σ→DH)(nn:σ→Nat)(gg:σ→Gh)(ok:σ→Prop)(μ:σ→Nat){a:MC}(s0:σ)(k0:ok s0)(e1:ts=T s0)(e2:H=Hh s0)(e3:n=nn s0)(e4:γ=gg s0)(step:∀s,ok s→WMP P U0 h0 c0 a (aDD (fun ts H n γ=>∃s' av,μ s'<μ s∧ok s'∧br av ts=T s'∧H=Hh s'∧n=nn s'∧γ=gg s') Q) (T s) (Hh s) (nn s) (gg s)):WMP P U0 h0 c0 (.loop a) Q ts H n γ:=by
 subst e1;subst e2;subst e3;subst e4;refine⟨fun s hs=>aCo (fun k s=>∃q,μ q=k∧ok q∧RG U0 h0 c0 s (T q) (Hh q) (nn q) (gg q)) (fun k s hk=>?_) (μ s0) s ⟨s0,rfl,k0,hs⟩⟩;obtain⟨q,rfl,hok,hq⟩:=hk;refine((step q hok).go s hq).mono fun x s' hx=>?_
 obtain⟨ts1,H1,n1,γ1,k2,k3⟩:=hx;cases x with
 |nrm=>obtain⟨q',av,j1,j2,j3,rfl,rfl,rfl⟩:=k2;exact⟨μ q',j1,q',rfl,j2,j3▸aBL av k3⟩
 |ex j=>exact⟨ts1,H1,n1,γ1,k2,k3⟩
 |ret=>exact⟨ts1,H1,n1,γ1,k2,k3⟩
end
end Go.Cq.D
namespace Go.Qm
open Go.Cq Go.Cq.D Go.RowKit
abbrev Tl:=List ((Int×Int)×List (Bool×Bool))
def iL(k:Int×Int):V1:=.agg [.int .i64 k.1,.int .i64 k.2]
def kLK:List LK:=[.i .i64,.i .i64]
def rT(p:Bool×Bool):List PV:=[eB p.1,eB p.2]
def jh(l:List (Bool×Bool)):List CV:=l.flatMap fun r=>[.bool r.1,.bool r.2]
def ib(k:Int×Int)(r:Bool×Bool):Tl→Tl
 | []=>[(k,[r])]
 | (k',l)::t=>if k'=k then(k',l++[r])::t else(k',l)::ib k r t
abbrev T3:=List ((Nat×Nat)×(Int×Int)×List (Bool×Bool))
def esT:T3→Nat→List (V1×V1×Nat)
 | [],_=>[]
 |q::L,j=>(iL q.2.1,.one (.sl q.1.1 q.1.2 q.2.2.length none),j)::esT L (j+1)
structure BlkT(b:Blk)(base:Nat)(l:List (Bool×Bool)):Prop where
 sz:b.sz=2
 fit:(base+l.length)*2≤b.n
 cl:∀o,o<l.length*2→b.get (base*2+o)=(jh l)[o]?
 ro:b.ro=false
def GT(c0 mid:Nat)(L:Tl):Gh:=fun N U own h=>U mid∧c0≤mid∧∃L3:T3,L3.map (·.2)=L∧(L3.map (·.1.1)).Nodup∧h.getM mid=some (.map (esT L3 0) L3.length)∧∀q,q∈L3→(∃b,h.get q.1.1=some b∧BlkT b q.1.2 q.2.2)∧U q.1.1∧¬own q.1.1∧¬N true q.1.1∧c0≤q.1.1
theorem cV(c0 mid:Nat)(L:Tl):Stab (GT c0 mid L):=by
 refine⟨fun{N U own h N' U' own' h'} hg _ ng ho hu hh hm=>?_⟩;obtain⟨h1,h2,L3,h3,h4,h5,h6⟩:=hg;refine⟨hu _ h1,h2,L3,h3,h4,by rw[hm];exact h5,fun q hq=>?_⟩;obtain⟨⟨b,k1,k2⟩,k3,k4,k5,k6⟩:=h6 q hq;refine⟨⟨b,by rw[hh _ k3 k4];exact k1,k2⟩,hu _ k3,fun h=>?_,fun h=>?_,k6⟩
 ·rcases ho _ h with h|h
  ·exact k4 h
  ·exact h.1 k3
 ·rcases ng.2.1 _ _ h with h|h|h
  ·exact k5 h
  ·exact k4 h
  ·exact h.1 k3
def jy(k:Int×Int):T3→Nat→Option Nat
 | [],_=>none
 |q::L,i=>if q.2.1=k then some i else jy k L (i+1)
theorem aEC(k k':Int×Int):bJ kLK (iL k).cells (iL k').cells=some (decide (k'=k)):=by obtain⟨a,b⟩:=k;obtain⟨a',b'⟩:=k';simp only[kLK,iL,V1.cells,bJ,qV,and_self,if_true,Bool.and_true,Option.some.injEq,Prod.mk.injEq];rw[Bool.eq_iff_iff];simp only[Bool.and_eq_true,beq_iff_eq,decide_eq_true_eq];constructor<;>(rintro⟨h1,h2⟩;exact⟨h1.symm,h2.symm⟩)
theorem qg(k:Int×Int):∀{L:T3}{j i:Nat},fS kLK true (iL k) (esT L j) i=some (jy k L i):=by
 intro L;induction L with
 |nil=>intro j i;rfl
 |cons q L ih=>
  intro j i;simp only[esT,fS,jy];rw[if_pos (by rfl),aEC];by_cases e:q.2.1=k
  ·simp[e]
  ·simp only[e,decide_false,if_false];exact ih
theorem kv{k:Int×Int}:∀{L:T3}{i j:Nat},jy k L i=some j→i≤j∧∃q,L[j-i]?=some q∧q.2.1=k:=by
 intro L;induction L with
 |nil=>intro i j h;simp[jy]at h
 |cons q L ih=>
  intro i j h;simp only[jy]at h;split at h
  ·rename_i e;cases h;exact⟨Nat.le_refl _,q,by simp,e⟩
  ·obtain⟨h1,q',h2,h3⟩:=ih h;refine⟨by omega,q',?_,h3⟩;rw[show j-i=(j-(i+1))+1 by omega,List.getElem?_cons_succ];exact h2
theorem wc:∀{L:T3}{j i:Nat}{q},L[i]?=some q→(esT L j)[i]?=some (iL q.2.1,.one (.sl q.1.1 q.1.2 q.2.2.length none),j+i):=by
 intro L;induction L with
 |nil=>intro j i q h;simp at h
 |cons p L ih=>
  intro j i q h;cases i with
  |zero=>cases h;rfl
  |succ i=>simp only[List.getElem?_cons_succ]at h;simp only[esT,List.getElem?_cons_succ,ih h];rw[show j+1+i=j+(i+1) by omega]
theorem wX:∀{L L':T3}{j:Nat},esT (L++L') j=esT L j++esT L' (j+L.length):=by
 intro L;induction L with
 |nil=>intro L' j;simp[esT]
 |cons p L ih=>intro L' j;simp only[esT,List.cons_append,ih,List.length_cons];rw[show j+1+L.length=j+(L.length+1) by omega]
theorem qW{f:V1×V1×Nat→V1×V1×Nat}:∀{es es':List (V1×V1×Nat)}{i:Nat},de f (es++es') (es.length+i)=es++de f es' i:=by
 intro es;induction es with
 |nil=>intro es' i;simp
 |cons e es ih=>intro es' i;rw[List.length_cons,show es.length+1+i=es.length+i+1 by omega];simp only[List.cons_append,de,ih]
theorem od{f:V1×V1×Nat→V1×V1×Nat}:∀{L:T3}{j i:Nat}{q q'},L[i]?=some q→f (iL q.2.1,.one (.sl q.1.1 q.1.2 q.2.2.length none),j+i)=(iL q'.2.1,.one (.sl q'.1.1 q'.1.2 q'.2.2.length none),j+i)→de f (esT L j) i=esT (L.set i q') j:=by
 intro L;induction L with
 |nil=>intro j i q q' h;simp at h
 |cons p L ih=>
  intro j i q q' h hf;cases i with
  |zero=>cases h;simp only[esT,de,List.set_cons_zero];rw[show j=j+0 from rfl,hf]
  |succ i=>simp only[List.getElem?_cons_succ]at h;simp only[esT,de,List.set_cons_succ];rw[ih (q':=q') h];rw[show j+1+i=j+(i+1) by omega];exact hf
theorem tB:∀{L:T3}{j i k:Nat},k<L.length→eG ((j+k:Nat):Int) (esT L j) i=some (i+k):=by
 intro L;induction L with
 |nil=>intro j i k h;simp at h
 |cons p L ih=>
  intro j i k h;simp only[esT,eG];cases k with
  |zero=>simp
  |succ k=>rw[if_neg (by simp;omega)];have:=ih (j:=j+1) (i:=i+1) (k:=k) (by simpa using h);rw[show j+1+k=j+(k+1) by omega]at this;rw[this];congr 1;omega
theorem oK{n:Int}:∀{es es':List (V1×V1×Nat)}{i:Nat},(∀e,e∈es→(e.2.2:Int)≠n)→eG n (es++es') i=eG n es' (i+es.length):=by
 intro es;induction es with
 |nil=>intro es' i _;rfl
 |cons e es ih=>intro es' i h;simp only[List.cons_append,eG];rw[if_neg (by simpa using h e (by simp)),ih fun x hx=>h x (by simp[hx]),List.length_cons,show i+1+es.length=i+(es.length+1) by omega]
theorem zo:∀{L:T3}{j:Nat}{e},e∈esT L j→e.2.2<j+L.length:=by
 intro L;induction L with
 |nil=>intro j e h;simp[esT]at h
 |cons p L ih=>
  intro j e h;simp only[esT,List.mem_cons]at h;rcases h with rfl|h
  ·simp
  ·have:=ih h;simp only[List.length_cons];omega
theorem xV{k:Int×Int}{r:Bool×Bool}:∀{L:T3}{i j:Nat}{q},jy k L i=some (i+j)→L[j]?=some q→∀p:Nat×Nat,ib k r (L.map (·.2))=(L.set j (p,q.2.1,q.2.2++[r]):T3).map (fun q=>q.2):=by
 intro L;induction L with
 |nil=>intro i j q h;simp[jy]at h
 |cons x L ih=>
  intro i j q h hq p;simp only[jy]at h;cases j with
  |zero=>
   cases hq;split at h
   ·rename_i e;simp[ib,e]
   ·have:=(kv h).1;omega
  |succ j=>
   simp only[List.getElem?_cons_succ]at hq;split at h
   ·simp at h
   ·rename_i e;simp only[List.map_cons,List.set_cons_succ,ib];rw[if_neg e,ih (i:=i+1) (by rw[h];congr 1;omega) hq p]
theorem zC{k:Int×Int}{r:Bool×Bool}:∀{L:T3}{i:Nat},jy k L i=none→∀p:Nat×Nat,ib k r (L.map (·.2))=(L++[(p,k,[r])]:T3).map (fun q=>q.2):=by
 intro L;induction L with
 |nil=>intro i _ p;rfl
 |cons x L ih=>
  intro i h p;simp only[jy]at h;split at h
  ·simp at h
  ·rename_i e;simp only[List.map_cons,List.cons_append,ib];rw[if_neg e,ih h p]
end Go.Qm
namespace Go.Qm
open Go.Cq Go.Cq.D Go.RowKit
def x9:RI:=⟨9,⟨none,some 158,.mop (.ent [.i .i64,.i .i64] true (.one (.nils 2)) (.t 148) (.t 149))⟩,511,[8],[]⟩
def x10:RI:=⟨10,⟨none,some 150,.ext 158 0⟩,1023,[8],[]⟩
def x11:RI:=⟨11,⟨none,some 159,.app [.bool false,.bool false] 2 (.t 150) (.t 157)⟩,2047,[8],[]⟩
def x12:RI:=⟨12,⟨none,some 160,.ext 158 1⟩,1023,[8],[]⟩
def x13:RI:=⟨13,⟨none,none,.mop (.est (.t 148) (.t 160) (.t 159))⟩,8191,[8],[]⟩
theorem kl{l:List (Bool×Bool)}:(jh l).length=l.length*2:=by
 induction l with
 |nil=>rfl
 |cons a l ih=>simp only[jh,List.flatMap_cons,List.length_append,List.length_cons,List.length_nil]at ih ⊢;omega
theorem sU{l:List (Bool×Bool)}{r:Bool×Bool}:jh (l++[r])=jh l++[.bool r.1,.bool r.2]:=by simp[jh]
theorem jF{cl:cN}{base:Nat}{FL:List Nat}{x:RI}{s:DS}{r:CVal}{h':Heap}{c':Nat}(hg:x.ci.g=none)(hk:x.ci.op.kind= .eff)(he:x.ci.op.ev cl (base+x.k) s.c (bm base s.F x.fl s.h) s.ts=some (r,h',c'))(hf:(FL.all fun k=>Nat.testBit x.anc k||(h'.get (base+k)).isNone)=true):
  az cl base FL x s=some ⟨cO x.ci.d r s.ts,h',eF base x.fl s.F,c'⟩:=by
 simp only[az,hg,bH,hk,he,hf,if_true]
theorem gx{cl:cN}{base:Nat}{FL:List Nat}{tab l:List RI}{x:RI}{s s1:DS}(h:az cl base FL x s=some s1)(hr:x.rs=[]):bT cl base FL tab (x::l) s=bT cl base FL tab l s1:=by simp only[bT,h,hr,iP,if_true]
theorem ga{cl:cN}{base:Nat}{FL:List Nat}{tab:List RI}:∀{l1 l2:List RI}{s s1:DS},bT cl base FL tab l1 s=some s1→bT cl base FL tab (l1++l2) s=bT cl base FL tab l2 s1:=by
 intro l1;induction l1 with
 |nil=>intro l2 s s1 h;simp only[bT,Option.some.injEq]at h;subst h;rfl
 |cons x l ih=>
  intro l2 s s1 h;simp only[bT,List.cons_append]at h ⊢;split at h
  ·split at h
   ·rename_i hr;rw[if_pos hr];exact ih h
   ·simp at h
  ·simp at h
theorem fg{ts:Ts}{t:Nat}{c:CV}(h:Cq.look ts t=some (.v (.one c))):ev1 ts (.t t)=some c:=by simp only[ev1,evO,h]
theorem pN{ts:Ts}{t:Nat}{x:V1}(h:Cq.look ts t=some (.v x)):evO ts (.t t)=some x:=by simp only[evO,h]
theorem uv{ts:Ts}{t:Nat}{k:IntKind}{n:Int}(h:Cq.look ts t=some (.v (.one (.int k n)))):fP ts (.t t)=some n:=by simp only[fP,fg h]
theorem u7{base:Nat}{h:Heap}:bm base [] [8] h=h:=rfl
theorem aCY{L3:T3}{q:(Nat×Nat)×(Int×Int)×List (Bool×Bool)}{j:Nat}(h:L3[j]?=some q):de (fun e=>(iL q.2.1,e.2.1,e.2.2)) (esT L3 0) j=esT L3 0:=by rw[od (q':=q) h rfl];congr 1;obtain⟨hj,rfl⟩:=List.getElem?_eq_some_iff.1 h;exact List.set_getElem_self hj
theorem zG{l:List Nat}(hn:l.Nodup){i j a:Nat}(hi:l[i]?=some a)(hj:l[j]?=some a):i=j:=by
 obtain⟨h1,e1⟩:=List.getElem?_eq_some_iff.1 hi;obtain⟨h2,e2⟩:=List.getElem?_eq_some_iff.1 hj;have hp:=List.pairwise_iff_getElem.1 hn;rcases Nat.lt_trichotomy i j with h|h|h
 ·exact absurd (e1.trans e2.symm) (hp i j h1 h2 h)
 ·exact h
 ·exact absurd (e2.trans e1.symm) (hp j i h2 h1 h)
theorem zI{l:List Nat}(hn:l.Nodup){i a:Nat}(ha:a∉l):(l.set i a).Nodup:=by
 refine List.pairwise_iff_getElem.2 fun x y hx hy hxy=>?_
 rw[List.length_set]at hx hy;rw[List.getElem_set,List.getElem_set];split
 ·split
  ·omega
  ·intro e;exact ha (e▸List.getElem_mem hy)
 ·split
  ·intro e;exact ha (e▸List.getElem_mem hx)
  ·exact List.pairwise_iff_getElem.1 hn x y hx hy hxy
structure Told(base:Nat)(h0:Heap)(hm:Heap)(mid:Nat)(L3 L3':T3)(h3:Heap):Prop where
 nd:(L3'.map (·.1.1)).Nodup
 mp:h3.getM mid=some (.map (esT L3' 0) L3'.length)
 bk:∀q,q∈L3'→(∃b,h3.get q.1.1=some b∧BlkT b q.1.2 q.2.2)∧(q.1.1=base+11∨∃q0,q0∈L3∧q0.1.1=q.1.1)
 ot:∀id,(∀q,q∈L3→q.1.1≠id)→id≠base+11→h3.get id=h0.get id
 om:∀id,id≠mid→h3.getM id=hm.getM id
 hb:∀id b,h3.get id=some b→id=base+11∨∃b',h0.get id=some b'
 vw:∀id b,h3.get id=some b→b.ro=true→h0.get id=some b
theorem ye{cl:cN}{base:Nat}{tab:List RI}{s:DS}{mid:Nat}{L3:T3}{k:Int×Int}{r:Bool×Bool}{lid lb:Nat}{bl:Blk}(h148:Cq.look s.ts 148=some (.v (.one (.mp mid))))(h149:Cq.look s.ts 149=some (.v (iL k)))(h157:Cq.look s.ts 157=some (.v (.one (.sl lid lb 1 none))))(hget:∀id,(bm base s.F [8] s.h).get id=(cy s.F s.h).get id)(hF:eF base [8] s.F=[])(hbl:(cy s.F s.h).get lid=some bl)(hbs:bl.sz=2)(hb0:bl.get (lb*2)=some (.bool r.1))(hb1:bl.get (lb*2+1)=some (.bool r.2))(hM:s.h.getM mid=some (.map (esT L3 0) L3.length))(hnd:(L3.map (·.1.1)).Nodup)(hb:∀q,q∈L3→∃b,(cy s.F s.h).get q.1.1=some b∧BlkT b q.1.2 q.2.2)(hfr:∀q,q∈L3→q.1.1≠base+11)(hsz:∀q,q∈L3→q.2.2.length≤1000000):
  ∃v158 v150 v159 v160 h3 L3',bT cl base [8] tab [x9,x10,x11,x12,x13] s=some ⟨(160,v160)::(159,v159)::(150,v150)::(158,v158)::s.ts,h3,[],s.c⟩∧L3'.map (·.2)=ib k r (L3.map (·.2))∧Told base (cy s.F s.h) s.h mid L3 L3' h3:=by
 have hMf:(bm base s.F [8] s.h).getM mid=some (.map (esT L3 0) L3.length):=by rw[Cq.eK];exact hM
 have hy:∀(hx:Heap)(ts:Ts),(∀id,hx.get id=(cy s.F s.h).get id)→Cq.look ts 157=some (.v (.one (.sl lid lb 1 none)))→f9 hx ts 2 (.t 157)=some ([.bool r.1,.bool r.2],1):=fun hx ts e1 e2=>by simp only[f9,fg e2,e1,hbl,hbs,if_true,Blk.iz,hb0,hb1];rfl
 have lk:∀{ts:Ts}{t d:Nat}{v:CVal},d≠t→Cq.look ((d,v)::ts) t=Cq.look ts t:=fun{ts t d v} hne=>by rw[bc,if_neg (Ne.symm hne)]
 have lk0:∀{ts:Ts}{d:Nat}{v:CVal},Cq.look ((d,v)::ts) d=some v:=fun{ts d v}=>by rw[bc,if_pos rfl]
 have fin:∀{e1:List (V1×V1×Nat)}{clock n1:Nat}{v:CV}{h2 h3:Heap}{c2:CV}{L3':T3},mB kLK true (.one (.nils 2)) (.t 148) (.t 149) (bm base s.F [8] s.h) s.ts=some ((bm base s.F [8] s.h).cE mid (some (.map e1 clock)),.one v,n1)→
   (∀ts,Cq.look ts 150=some (.v (.one v))→Cq.look ts 157=some (.v (.one (.sl lid lb 1 none)))→dM 2 2 (.t 150) (.t 157) (base+11) ((bm base s.F [8] s.h).cE mid (some (.map e1 clock))) ts=some (h2,c2))→
   (∀ts,Cq.look ts 148=some (.v (.one (.mp mid)))→Cq.look ts 160=some (.v (.one (.int .i64 n1)))→Cq.look ts 159=some (.v (.one c2))→pP (.t 148) (.t 160) (.t 159) h2 ts=some h3)→
   L3'.map (·.2)=ib k r (L3.map (·.2))→Told base (cy s.F s.h) s.h mid L3 L3' h3→
   ∃v158 v150 v159 v160 h3 L3',bT cl base [8] tab [x9,x10,x11,x12,x13] s=some ⟨(160,v160)::(159,v159)::(150,v150)::(158,v158)::s.ts,h3,[],s.c⟩∧L3'.map (·.2)=ib k r (L3.map (·.2))∧Told base (cy s.F s.h) s.h mid L3 L3' h3:=by
  intro e1 clock n1 v h2 h3 c2 L3' j1 j2 j3 j4 j5;refine⟨.tup [.one v,.one (.int .i64 n1)],.v (.one v),.v (.one c2),.v (.one (.int .i64 n1)),h3,L3',?_,j4,j5⟩;have s1:az cl base [8] x9 s=some ⟨(158,.tup [.one v,.one (.int .i64 n1)])::s.ts,(bm base s.F [8] s.h).cE mid (some (.map e1 clock)),[],s.c⟩:=by
   rw[jF (x:=x9) (r:=.tup [.one v,.one (.int .i64 n1)]) (h':=(bm base s.F [8] s.h).cE mid (some (.map e1 clock))) (c':=s.c) rfl rfl ?_ ?_]
   ·show some (DS.mk _ _ (eF base [8] s.F) _)=_;rw[hF];rfl
   ·show(match(MOp.ent kLK true (.one (.nils 2)) (.t 148) (.t 149)).ev (base+9) (bm base s.F [8] s.h) s.ts with|some (r,h')=>some (r,h',s.c)|none=>none)=_;simp only[MOp.ev,j1]
   ·simp only[List.all_cons,List.all_nil,Bool.and_true,Bool.or_eq_true];exact .inl (by decide)
  rw[gx s1 rfl];have s2:az cl base [8] x10 ⟨(158,.tup [.one v,.one (.int .i64 n1)])::s.ts,(bm base s.F [8] s.h).cE mid (some (.map e1 clock)),[],s.c⟩=some ⟨(150,.v (.one v))::(158,.tup [.one v,.one (.int .i64 n1)])::s.ts,(bm base s.F [8] s.h).cE mid (some (.map e1 clock)),[],s.c⟩:=rfl;rw[gx s2 rfl];have s3:az cl base [8] x11 ⟨(150,.v (.one v))::(158,.tup [.one v,.one (.int .i64 n1)])::s.ts,(bm base s.F [8] s.h).cE mid (some (.map e1 clock)),[],s.c⟩=some ⟨(159,.v (.one c2))::(150,.v (.one v))::(158,.tup [.one v,.one (.int .i64 n1)])::s.ts,h2,[],s.c⟩:=by
   rw[jF (x:=x11) (r:=.v (.one c2)) (h':=h2) (c':=s.c) rfl rfl ?_ ?_]
   ·rfl
   ·have:=j2 ((150,.v (.one v))::(158,.tup [.one v,.one (.int .i64 n1)])::s.ts) lk0 (by rw[lk (by decide),lk (by decide)];exact h157);show(match dM 2 2 (.t 150) (.t 157) (base+11) (bm base [] [8] ((bm base s.F [8] s.h).cE mid (some (.map e1 clock)))) _ with|some (h',r)=>some (CVal.v (.one r),h',s.c)|none=>none)=_;rw[u7,this]
   ·simp only[List.all_cons,List.all_nil,Bool.and_true,Bool.or_eq_true];exact .inl (by decide)
  rw[gx s3 rfl];have s4:az cl base [8] x12 ⟨(159,.v (.one c2))::(150,.v (.one v))::(158,.tup [.one v,.one (.int .i64 n1)])::s.ts,h2,[],s.c⟩=some ⟨(160,.v (.one (.int .i64 n1)))::(159,.v (.one c2))::(150,.v (.one v))::(158,.tup [.one v,.one (.int .i64 n1)])::s.ts,h2,[],s.c⟩:=rfl;rw[gx s4 rfl];have s5:az cl base [8] x13 ⟨(160,.v (.one (.int .i64 n1)))::(159,.v (.one c2))::(150,.v (.one v))::(158,.tup [.one v,.one (.int .i64 n1)])::s.ts,h2,[],s.c⟩=some ⟨(160,.v (.one (.int .i64 n1)))::(159,.v (.one c2))::(150,.v (.one v))::(158,.tup [.one v,.one (.int .i64 n1)])::s.ts,h3,[],s.c⟩:=by
   rw[jF (x:=x13) (r:=.gone) (h':=h3) (c':=s.c) rfl rfl ?_ ?_]
   ·rfl
   ·have:=j3 ((160,.v (.one (.int .i64 n1)))::(159,.v (.one c2))::(150,.v (.one v))::(158,.tup [.one v,.one (.int .i64 n1)])::s.ts) (by rw[lk (by decide),lk (by decide),lk (by decide),lk (by decide)];exact h148) lk0 (by rw[lk (by decide)];exact lk0);show(match(MOp.est (.t 148) (.t 160) (.t 159)).ev (base+13) (bm base [] [8] h2) _ with|some (r,h')=>some (r,h',s.c)|none=>none)=_;rw[u7];simp only[MOp.ev,this]
   ·simp only[List.all_cons,List.all_nil,Bool.and_true,Bool.or_eq_true];exact .inl (by decide)
  rw[gx s5 rfl];rfl
 have hev:mB kLK true (.one (.nils 2)) (.t 148) (.t 149) (bm base s.F [8] s.h) s.ts=match jy k L3 0 with
   |some i=>match(esT L3 0)[i]? with
    |some e=>some ((bm base s.F [8] s.h).cE mid (some (.map (de (fun e=>(iL k,e.2.1,e.2.2)) (esT L3 0) i) L3.length)),e.2.1,e.2.2)
    |none=>none
   |none=>some ((bm base s.F [8] s.h).cE mid (some (.map (esT L3 0++[(iL k,.one (.nils 2),L3.length)]) (L3.length+1))),.one (.nils 2),L3.length):=by
  simp only[mB,fg h148,pN h149,hMf];rw[if_pos (by rfl),qg];cases jy k L3 0<;>rfl
 cases hp:jy k L3 0 with
 |some j=>
  obtain⟨-,q,hq,hqk⟩:=kv hp;rw[Nat.sub_zero]at hq;have hqm:=List.mem_of_getElem? hq;have hjl:=(List.getElem?_eq_some_iff.1 hq).1;obtain⟨b,hb1',hb2⟩:=hb q hqm;have hle:=hsz q hqm;subst hqk;rw[hp]at hev;simp only[wc hq,Nat.zero_add,aCY hq]at hev;have hknown:∀o,o<q.2.2.length*2→∃v,b.get (q.1.2*2+o)=some v:=fun o ho=>⟨(jh q.2.2)[o]'(by rw[kl];exact ho),by rw[hb2.cl o ho];simp⟩
  obtain⟨h2,id',j',b',a1,a2,a3,a4,a5,a6,a7,a8,a9,amp,avr,avw⟩:=lL (sz:=2) (bytes:=2) (x:=.t 150) (y:=.t 157) (i:=base+11) (h:=(bm base s.F [8] s.h).cE mid (some (.map (esT L3 0) L3.length))) (cts:=(150,.v (.one (.sl q.1.1 q.1.2 q.2.2.length none)))::(157,.v (.one (.sl lid lb 1 none)))::[])
   (hy _ _ hget (by rw[lk (by decide)];exact lk0)) (m:=1) rfl (fg lk0) (b:=b) (by rw[←hb1'];exact hget _) hb2.sz (by decide) hb2.fit hknown ⟨by omega,by omega⟩ (hfr q hqm) hb2.ro
  have heq:∀ts:Ts,Cq.look ts 150=some (.v (.one (.sl q.1.1 q.1.2 q.2.2.length none)))→Cq.look ts 157=some (.v (.one (.sl lid lb 1 none)))→dM 2 2 (.t 150) (.t 157) (base+11) ((bm base s.F [8] s.h).cE mid (some (.map (esT L3 0) L3.length))) ts=some (h2,.sl id' j' (q.2.2.length+1) none):=fun ts e1 e2=>by rw[←a1];simp only[dM,hy ((bm base s.F [8] s.h).cE mid (some (.map (esT L3 0) L3.length))) ts hget e2,hy ((bm base s.F [8] s.h).cE mid (some (.map (esT L3 0) L3.length))) ((150,.v (.one (.sl q.1.1 q.1.2 q.2.2.length none)))::(157,.v (.one (.sl lid lb 1 none)))::[]) hget (by rw[lk (by decide)];exact lk0),fg e1,fg (lk0 (ts:=(157,.v (.one (.sl lid lb 1 none)))::[]) (d:=150))]
  have hM2:h2.getM mid=some (.map (esT L3 0) L3.length):=by rw[amp,Heap.bI,if_pos rfl]
  have hset:de (fun e=>(e.1,V1.one (.sl id' j' (q.2.2.length+1) none),e.2.2)) (esT L3 0) j=esT (L3.set j ((id',j'),q.2.1,q.2.2++[r])) 0:=od (q':=((id',j'),q.2.1,q.2.2++[r])) hq (by simp);refine fin (L3':=L3.set j ((id',j'),q.2.1,q.2.2++[r])) (h3:=h2.cE mid (some (.map (esT (L3.set j ((id',j'),q.2.1,q.2.2++[r])) 0) L3.length))) hev heq (fun ts e1 e2 e3=>?_) ?_ ⟨?_,?_,fun p hpm=>?_,fun id hid hne=>?_,fun id hne=>?_,fun id b0 hid=>?_,fun id b0 hid hbr=>?_⟩
  ·have hfb:=tB (L:=L3) (j:=0) (i:=0) (k:=j) hjl;rw[Nat.zero_add]at hfb;simp only[pP,fg e1,uv e2,pN e3,hM2,hfb,hset]
  ·rw[xV (i:=0) (by rw[hp,Nat.zero_add]) hq (id',j')]
  ·
   rw[List.map_set];rcases a2 with e|e
   ·rw[e];have:(L3.map (·.1.1)).set j q.1.1=L3.map (·.1.1):=by
     have h1:(L3.map (·.1.1))[j]?=some q.1.1:=by rw[List.getElem?_map,hq];rfl
     obtain⟨h2,h3⟩:=List.getElem?_eq_some_iff.1 h1;rw[←h3];exact List.set_getElem_self h2
    rw[this];exact hnd
   ·refine zI hnd fun hmem=>?_
    obtain⟨p,hp1,hp2⟩:=List.mem_map.1 hmem;exact hfr p hp1 (hp2.trans e)
  ·rw[Heap.bI,if_pos rfl,List.length_set]
  ·obtain⟨i,hi,rfl⟩:=List.getElem_of_mem hpm;rw[List.length_set]at hi;by_cases e:j=i
   ·subst e;rw[List.getElem_set_self];refine⟨⟨b',a3,a4,by rw[List.length_append];exact a5,fun o ho=>?_,avr⟩,?_⟩
    ·simp only[List.length_append,List.length_cons,List.length_nil]at ho;rw[sU];by_cases hlt:o<q.2.2.length*2
     ·rw[a6 o hlt,hb2.cl o hlt,List.getElem?_append_left (by rw[kl];exact hlt)]
     ·have:=a7 (o-q.2.2.length*2) (by omega);rw[List.getElem?_append_right (by rw[kl];omega),kl,←this];show b'.get (j'*2+o)=b'.get ((j'+q.2.2.length)*2+(o-q.2.2.length*2));congr 1;omega
    ·rcases a2 with e|e
     ·exact .inr ⟨q,hqm,e.symm⟩
     ·exact .inl e
   ·rw[List.getElem_set_ne e];have hne:L3[i].1.1≠q.1.1:=fun h=>e (zG hnd (i:=j) (j:=i) (a:=q.1.1) (by rw[List.getElem?_map,hq];simp) (by rw[List.getElem?_map,List.getElem?_eq_getElem hi];simp[h]))
    obtain⟨b2,k1,k2⟩:=hb _ (List.getElem_mem hi);refine⟨⟨b2,?_,k2⟩,.inr ⟨_,List.getElem_mem hi,rfl⟩⟩;rw[←k1];exact(a8 _ hne (hfr _ (List.getElem_mem hi))).trans (hget _)
  ·exact(a8 id (fun e=>hid q hqm e.symm) hne).trans (hget id)
  ·rw[Heap.bI,if_neg hne,amp,Heap.bI,if_neg hne,Cq.eK]
  ·rcases a9 id b0 hid with e| ⟨b1,e⟩
   ·exact .inl e
   ·exact .inr ⟨b1,(hget id).symm.trans e⟩
  ·exact(hget id).symm.trans (avw id b0 hid hbr)
 |none=>
  rw[hp]at hev;simp only at hev;have happ:∀ts:Ts,Cq.look ts 150=some (.v (.one (.nils 2)))→Cq.look ts 157=some (.v (.one (.sl lid lb 1 none)))→dM 2 2 (.t 150) (.t 157) (base+11) ((bm base s.F [8] s.h).cE mid (some (.map (esT L3 0++[(iL k,.one (.nils 2),L3.length)]) (L3.length+1)))) ts=
    some (((bm base s.F [8] s.h).cE mid (some (.map (esT L3 0++[(iL k,.one (.nils 2),L3.length)]) (L3.length+1)))).set (base+11) (some (cd 2 [.bool r.1,.bool r.2])),.sl (base+11) 0 1 none):=fun ts e1 e2=>by
   simp only[dM,hy ((bm base s.F [8] s.h).cE mid (some (.map (esT L3 0++[(iL k,.one (.nils 2),L3.length)]) (L3.length+1)))) ts hget e2,fg e1];rw[if_neg (by decide),if_pos (by decide)]
  have hes:esT (L3++[((base+11,0),k,[r])]) 0=esT L3 0++[(iL k,.one (.sl (base+11) 0 1 none),L3.length)]:=by rw[wX];simp[esT]
  refine fin (L3':=L3++[((base+11,0),k,[r])]) (h3:=(((bm base s.F [8] s.h).cE mid (some (.map (esT L3 0++[(iL k,.one (.nils 2),L3.length)]) (L3.length+1)))).set (base+11) (some (cd 2 [.bool r.1,.bool r.2]))).cE mid (some (.map (esT (L3++[((base+11,0),k,[r])]) 0) (L3.length+1)))) hev happ (fun ts e1 e2 e3=>?_) ?_ ⟨?_,?_,fun p hpm=>?_,fun id hid hne=>?_,fun id hne=>?_,fun id b0 hid=>?_,fun id b0 hid hbr=>?_⟩
  ·have hM2:(((bm base s.F [8] s.h).cE mid (some (.map (esT L3 0++[(iL k,.one (.nils 2),L3.length)]) (L3.length+1)))).set (base+11) (some (cd 2 [.bool r.1,.bool r.2]))).getM mid=some (.map (esT L3 0++[(iL k,.one (.nils 2),L3.length)]) (L3.length+1)):=by rw[Heap.il,Heap.bI,if_pos rfl]
   have hfb:eG ((L3.length:Nat):Int) (esT L3 0++[(iL k,.one (.nils 2),L3.length)]) 0=some ((esT L3 0).length+0):=by rw[oK fun e he=>by have:=zo he;omega];simp[eG]
   simp only[pP,fg e1,uv e2,pN e3,hM2,hfb,qW,de,hes]
  ·rw[zC hp (base+11,0)]
  ·rw[List.map_append,List.nodup_append];refine⟨hnd,by simp,fun a ha b hb e=>?_⟩;obtain⟨p,hp1,hp2⟩:=List.mem_map.1 ha;simp only[List.map_cons,List.map_nil,List.mem_singleton]at hb;exact hfr p hp1 (by rw[hp2,e,hb])
  ·rw[Heap.bI,if_pos rfl,List.length_append];rfl
  ·rcases List.mem_append.1 hpm with hpm|hpm
   ·obtain⟨b2,k1,k2⟩:=hb p hpm;refine⟨⟨b2,?_,k2⟩,.inr ⟨p,hpm,rfl⟩⟩;show Heap.get (Heap.set _ (base+11) _) _=_;rw[Heap.aQ,if_neg (hfr p hpm),←k1];exact hget _
   ·simp only[List.mem_singleton]at hpm;subst hpm;refine⟨⟨cd 2 [.bool r.1,.bool r.2],?_,rfl,by simp[cd],fun o ho=>?_,rfl⟩,.inl rfl⟩
    ·show Heap.get (Heap.set _ (base+11) _) _=_;rw[Heap.aQ,if_pos rfl]
    ·rw[Nat.zero_mul,Nat.zero_add,iJ];rfl
  ·show Heap.get (Heap.set _ (base+11) _) _=_;rw[Heap.aQ,if_neg hne];exact hget id
  ·rw[Heap.bI,if_neg hne,Heap.il,Heap.bI,if_neg hne,Cq.eK]
  ·have hid:Heap.get (Heap.set _ (base+11) _) _=_:=hid;rw[Heap.aQ]at hid;split at hid
   ·rename_i e;exact .inl e
   ·exact .inr ⟨b0,(hget id).symm.trans hid⟩
  ·have hid:Heap.get (Heap.set _ (base+11) _) _=_:=hid;rw[Heap.aQ]at hid;split at hid
   ·cases hid;simp[cd,Blk.ro]at hbr
   ·exact(hget id).symm.trans hid
end Go.Qm
namespace Go.Cq.D
open Go.RowKit Go.Qm
def T5:List RI:=[x9,x10,x11,x12,x13]
structure TellS(c0 mid:Nat)(L:Tl)(av:Option (List Nat))(Q:Kg)(ts:DTs)(H:DH)(n:Nat):Prop where
 ex:∃(k:Int×Int)(r:Bool×Bool)(g:Nat),an ts 148=some (.v (.one (.sc (.mp mid))))∧an ts 149=some (.v (.agg [.sc (.int .i64 k.1),.sc (.int .i64 k.2)]))∧an ts 157=some (.v (.one (.sl g 0 1)))∧aG H g=some (.arr 2 [rT r] [])∧
  (an ts 158=none∧an ts 150=none∧an ts 159=none∧an ts 160=none)∧lR 0 av ts H n fun ts H n=>Q .nrm ts H n (GT c0 mid (ib k r L))
section
variable{P:Program}{U0:Nat→Prop}{h0:Heap}{c0:Nat}{N:Bool→Nat→Prop}{I:Nm}{Fp:Loc→Nat→Prop}{ts:DTs}{H:DH}{n:Nat}{cts:Ts}{h:Heap}{U:Nat→Prop}
theorem j7(hr:R none N I Fp ts H n cts h U){t:Nat}{v:CV}(hl:an ts t=some (.v (.one (.sc v)))):Cq.look cts t=some (.v (.one v)):=by
 obtain⟨w,h1,h2,h3⟩:=hr.cell (.t t 0 0) (.sc v) (by simp) (by simp[aa,hl,DT.cell,DV.cell]);obtain⟨y,h4,h5⟩:=hr.tsh t _ hl;subst h3;cases y with
 |v y=>
  cases y with
  |one c=>simp only[bW,h4,Option.bind_some,fC,if_true,fE,Option.some.injEq]at h1;rw[h4,h1]
  |agg cs=>exact h5.elim
 |tup l=>exact h5.elim
 |gone=>exact h5.elim
theorem uJ(hr:R none N I Fp ts H n cts h U){t:Nat}{v1 v2:CV}(hl:an ts t=some (.v (.agg [.sc v1,.sc v2]))):Cq.look cts t=some (.v (.agg [v1,v2])):=by
 obtain⟨w1,h1,h2,h3⟩:=hr.cell (.t t 0 0) (.sc v1) (by simp) (by simp[aa,hl,DT.cell,DV.cell]);obtain⟨w2,k1,k2,k3⟩:=hr.cell (.t t 0 1) (.sc v2) (by simp) (by simp[aa,hl,DT.cell,DV.cell]);obtain⟨y,h4,h5⟩:=hr.tsh t _ hl;subst h3;subst k3;cases y with
 |v y=>
  cases y with
  |one c=>exact h5.elim
  |agg cs=>
   simp only[bW,h4,Option.bind_some,fC,if_true,fE]at h1 k1;have hlen:cs.length=2:=h5
   match cs,hlen with
   | [a,b],_=>simp only[List.getElem?_cons_zero,Option.some.injEq,List.getElem?_cons_succ]at h1 k1;rw[h4,h1,k1]
 |tup l=>exact h5.elim
 |gone=>exact h5.elim
theorem aCh(hr:R none N I Fp ts H n cts h U){t g len:Nat}{sz:Nat}{es:List (List PV)}(hl:an ts t=some (.v (.one (.sl g 0 len))))(hg:aG H g=some (.arr sz es []))(hne:es≠[]):
  ∃id base b,Cq.look cts t=some (.v (.one (.sl id base len none)))∧I g=some (id,base,sz)∧h.get id=some b∧b.sz=sz:=by
 obtain⟨w,h1,h2⟩:=hr.cell (.t t 0 0) (.sl g 0 len) (by simp) (by simp[aa,hl,DT.cell,DV.cell]);obtain⟨y,h4,h5⟩:=hr.tsh t _ hl;obtain⟨-,k2⟩:=h2 _ _ _ hg;rcases hr.bsh g _ hg with⟨-,e⟩| ⟨id,base,b,e1,e2,e3, -⟩
 ·exact absurd e hne
 ·rw[e1]at k2;simp only[Nat.add_zero]at k2;subst k2;cases y with
  |v y=>
   cases y with
   |one c=>simp only[bW,h4,Option.bind_some,fC,if_true,fE,Option.some.injEq]at h1;exact⟨id,base,b,by rw[h4,h1],e1,e2,e3⟩
   |agg cs=>exact h5.elim
  |tup l=>exact h5.elim
  |gone=>exact h5.elim
theorem zS{base:Nat}:∀{F:List (Nat×Blk)},(∀id b,bQ F id=some b→id=base+8)→eF base [8] F=[]:=by
 intro F;induction F with
 |nil=>intro _;rfl
 |cons p l ih=>
  obtain⟨k,b⟩:=p;intro h;have hk:=h k b (by simp[bQ]);simp only[eF,List.any_cons,List.any_nil,Bool.or_false];rw[hk,Nat.beq_refl,cond_true];refine ih fun id b' hb=>?_
  by_cases e:k=id
  ·rw[←e];exact hk
  ·refine h id b' ?_;have:Nat.beq k id=false:=by
    cases hb2:Nat.beq k id with
    |false=>rfl
    |true=>exact absurd (Nat.eq_of_beq_eq_true hb2) e
   simp only[bQ,this,cond_false];exact hb
theorem aCX(hU0:∀id,U0 id→id<c0){l1:List RI}{av:Option (List Nat)}{mid:Nat}{L:Tl}{Q:Kg}(hkeys:ig (l1++T5)=true)(hnew:(l1.all fun x=>match x.ci.op.kind with|.new=>Nat.beq x.k 8|_=>true)=true)(h11:(l1.all fun x=>!Nat.beq x.k 11)=true)(hL:∀p,p∈L→p.2.length≤1000000)(hx:pD ⟨P,noJ⟩ 14 [8] (l1++T5) [] l1 [] [] [] ts H n (TellS c0 mid L av Q)):WCP P U0 h0 c0 (.draw 14 [8] (l1++T5) av) Q ts H n (GT c0 mid L):=by
 refine⟨fun s hs=>?_⟩;obtain⟨N,I,Fp,U,h1,h2,h3,h4,h5,h6,h7⟩:=hs.ex;have hm0:MR N I Fp H 0 U s.h s.c s.c 14 (l1++T5) [] [] [] [] ⟨s.ts,s.h,[],s.c+14⟩ ts H n:=by
  have e:UM U s.c s.c 14 [] (s.c+14)=U:=by
   funext id;refine propext ⟨fun h=>?_,fun h=>.inl h⟩;rcases h with h|h| ⟨k,h, -⟩| ⟨h1,h2⟩
   ·exact h
   ·omega
   ·simp at h
   ·omega
  refine⟨Nat.le_refl _,Nat.le_refl _,⟨N,I,Fp,NG.refl ..,?_,?_⟩,fun id b hb=>by simp[bQ]at hb,by simp,by simp,by simp,by simp⟩
  ·rw[e];exact h4
  ·rw[e];exact⟨Nat.zero_le _,fun _ h=>h,fun _ _=>rfl,fun _ h=>.inl h,fun _ _ _=>rfl,fun g _ hg=>absurd hg (Nat.not_lt_zero _),fun _=>rfl⟩
 obtain⟨cl,k1,s',k2,ts',H',n',k3,used',u',js',hu,hus,hm⟩:=u9 h1 (Tie.none h4) hkeys (fun x h=>List.mem_append_left _ h) hm0 (uf hx);obtain⟨k,r,g,t148,t149,t157,tg,tn,tk⟩:=k3.ex;obtain⟨N',I',Fp',ng,r',g'⟩:=hm.rel;have hu8:∀k,k∈u'→k=8:=fun k hk=>by
  rcases hu k hk with h| ⟨x,h1,h2,h3⟩
  ·simp at h
  ·have:=List.all_eq_true.1 hnew x h1;rw[h3]at this;rw[←h2];exact Nat.eq_of_beq_eq_true this
 have hfk:∀id b,bQ s'.F id=some b→id=s.c+8:=fun id b hb=>by obtain⟨⟨k,h1,h2⟩, -⟩:=hm.fk id b hb;rw[h2,hu8 k h1]
 have hget:∀id,(bm s.c s'.F [8] s'.h).get id=(cy s'.F s'.h).get id:=kA fun id b hb=>⟨8,by simp,hfk id b hb⟩
 have hMfall:∀id,s'.h.getM id=s.h.getM id:=fun id=>by have:=g'.mp id;rw[D.dL]at this;exact this
 obtain⟨m1,m2,L3,m3,m4,m5,m6⟩:=h7;have c2:=hm.c2;have keepB:∀q,q∈L3→(∃b,(cy s'.F s'.h).get q.1.1=some b∧BlkT b q.1.2 q.2.2)∧¬aV I' Fp' H' q.1.1∧¬N' true q.1.1:=fun q hq=>by
  obtain⟨⟨b,b1,b2⟩,b3,b4,b5,b6⟩:=m6 q hq;refine⟨⟨b,by rw[g'.hp _ b3 b4];exact b1,b2⟩,fun h=>?_,fun h=>?_⟩
  ·rcases g'.own _ h with h|h
   ·exact b4 h
   ·exact h.1 b3
  ·rcases ng.2.1 _ _ h with h|h|h
   ·exact b5 h
   ·exact b4 h
   ·exact h.1 b3
 have hlit:=aCh r' t157 tg (by simp);obtain⟨lid,lb,bl,l1',l2',l3',l4'⟩:=hlit;have hcell:∀kk v,kk<2→(rT r)[kk]?=some (.sc v)→bl.get (lb*2+kk)=some v:=fun kk v hk hv=>by obtain⟨w,w1,w2,w3⟩:=r'.cell (.h g 0 kk) (.sc v) (by simp) (by simp[aa,tg,DB.cell,hv,ab,PV.dc]);subst w3;simp only[bW,l2',l3',Option.bind_some,Nat.add_zero]at w1;exact w1
 obtain⟨v158,v150,v159,v160,h3',L3',d1,d2,d3⟩:=ye (cl:=cl) (base:=s.c) (tab:=l1++T5) (s:=s') (mid:=mid) (L3:=L3) (k:=k) (r:=r) (j7 r' t148) (uJ r' t149) l1' hget (zS hfk) l3' l4' (hcell 0 _ (by decide) rfl) (hcell 1 _ (by decide) rfl)
  (by rw[hMfall];exact m5) m4 (fun q hq=>(keepB q hq).1) (fun q hq e=>by have:=h1 _ (m6 q hq).2.1;omega) (fun q hq=>hL q.2 (by rw[←m3];exact List.mem_map_of_mem hq))
 have hrun:bT cl s.c [8] (l1++T5) (l1++T5) ⟨s.ts,s.h,[],s.c+14⟩=some ⟨(160,v160)::(159,v159)::(150,v150)::(158,v158)::s'.ts,h3',[],s'.c⟩:=by rw[Go.Qm.ga k2];exact d1
 have hUM:∀id,UM U s.c s.c 14 used' s'.c id→U id∨s.c≤id∧id<s'.c:=fun id h=>by
  rcases h with h|h| ⟨k,h,e⟩| ⟨h1,h2⟩
  ·exact .inl h
  ·omega
  ·have:=hm.us k h;exact .inr ⟨by omega,by omega⟩
  ·exact .inr ⟨by omega,h2⟩
 have hlt:∀id,N' true id∨aV I' Fp' H' id→UM U s.c s.c 14 used' s'.c id:=fun id h=>h.elim (fun h=>r'.lt id (.inl h)) fun h=>h.lt r'
 have hne11:∀id,N' true id∨aV I' Fp' H' id→(∀q,q∈L3→q.1.1≠id):=fun id h q hq e=>by
  obtain⟨-,b1,b2⟩:=keepB q hq;rcases h with h|h
  ·exact b2 (e▸h)
  ·exact b1 (e▸h)
 have h11':11∉used':=fun h=>by
  rcases hus 11 h with h| ⟨x,x1,x2⟩
  ·simp at h
  ·have:=List.all_eq_true.1 h11 x x1;rw[x2]at this;simp at this
 have hnU:∀id,UM U s.c s.c 14 used' s'.c id→id≠s.c+11:=fun id h e=>by
  rcases h with h|h| ⟨k,h,e'⟩| ⟨h, -⟩
  ·have:=h1 id h;omega
  ·omega
  ·have:k=11:=by omega
   exact h11' (this▸h)
  ·omega
 have rh:R none N' I' Fp' ts' H' n' s'.ts h3' (fun id=>UM U s.c s.c 14 used' s'.c id∨id=s.c+11):=by
  refine r'.heap (fun id h=>.inl h) (fun id h=>?_) (fun id b h=>?_) d3.vw
  ·exact d3.ot id (hne11 id h) (hnU id (hlt id h))
  ·rcases d3.hb id b h with e| ⟨b',e⟩
   ·exact .inr e
   ·exact .inl (r'.hb id b' e)
 have hlk:∀t x,an ts' t=some x→look ((160,v160)::(159,v159)::(150,v150)::(158,v158)::s'.ts) t=look s'.ts t:=fun t x ht=>by
  have e1:t≠160:=fun e=>by rw[e,tn.2.2.2]at ht;simp at ht
  have e2:t≠159:=fun e=>by rw[e,tn.2.2.1]at ht;simp at ht
  have e3:t≠150:=fun e=>by rw[e,tn.2.1]at ht;simp at ht
  have e4:t≠158:=fun e=>by rw[e,tn.1]at ht;simp at ht
  rw[bc,if_neg e1,bc,if_neg e2,bc,if_neg e3,bc,if_neg e4]
 have rk:R none N' I' Fp' ts' H' n' ((160,v160)::(159,v159)::(150,v150)::(158,v158)::s'.ts) h3' (fun id=>UM U s.c s.c 14 used' s'.c id∨id=s.c+11):=by
  refine rh.sub (fun t x hx=>?_) (fun t j kk x hx=>?_) (fun t j kk x g hx hg=>rh.tags (.t t j kk) x g hx hg) (fun _ _ h=>h) (fun _ _ h=>h) (fun _ _ _ _=>rfl)
  ·obtain⟨y,y1,y2⟩:=rh.tsh t x hx;exact⟨y,by rw[hlk t x hx];exact y1,y2⟩
  ·obtain⟨w,w1,w2⟩:=rh.cell (.t t j kk) x (by simp) hx;simp only[aa,Option.bind_eq_some_iff]at hx;obtain⟨y,y1, -⟩:=hx;exact⟨w,by simp only[bW,hlk t y y1];exact w1,w2⟩
 have hrg:RG U0 h0 c0 ⟨(160,v160)::(159,v159)::(150,v150)::(158,v158)::s'.ts,h3',s'.c⟩ ts' H' n' (GT c0 mid (ib k r L)):=by
  refine⟨N',I',Fp',_,fun id hid=>?_,fun id hid=>⟨.inl (.inl (h2 id hid).1),fun ho=>?_⟩,by simp only;omega,rk,fun id hid=>?_,fun id hid=>?_,.inl (.inl m1),m2,L3',by rw[d2,m3],d3.nd,d3.mp,fun q hq=>?_⟩
  ·rcases hid with hid|hid
   ·rcases hUM id hid with h|h
    ·have:=h1 id h;simp only;omega
    ·exact h.2
   ·simp only;omega
  ·exact(g'.own id ho).elim (h2 id hid).2 fun h=>h.1 (h2 id hid).1
  ·have hlt0:=hU0 id hid;have:∀q,q∈L3→q.1.1≠id:=fun q hq e=>by have:=(m6 q hq).2.2.2.2;omega
   show h3'.get id=h0.get id;rw[d3.ot id this (by have:=h1 id (h2 id hid).1;omega),g'.hp id (h2 id hid).1 (h2 id hid).2];exact h5 id hid
  ·show h3'.getM id=h0.getM id;rw[d3.om id (by omega),hMfall];exact h6 id hid
  ·obtain⟨b1,b2⟩:=d3.bk q hq;refine⟨b1,?_⟩;rcases b2 with e| ⟨q0,e1,e2⟩
   ·refine⟨.inr e,fun ho=>hnU _ (hlt _ (.inr ho)) e,fun hn=>hnU _ (hlt _ (.inl hn)) e,by omega⟩
   ·obtain⟨-,b3,b4⟩:=keepB q0 e1;have:=m6 q0 e1;rw[←e2];exact⟨.inl (.inl this.2.1),b3,b4,this.2.2.2.2⟩
 obtain⟨ts2,H2,n2,e1,e2⟩:=tK (cV ..) hrg tk;exact⟨.nrm,_,.draw k1 hrun,ts2,H2,n2,_,e1,e2⟩
theorem zx(hU0:∀id,U0 id→id<c0){l:List RI}{av:Option (List Nat)}{mid:Nat}{L:Tl}{Q:Kg}(hl:l.take 9++T5=l)(hkeys:ig l=true)(hnew:((l.take 9).all fun x=>match x.ci.op.kind with|.new=>Nat.beq x.k 8|_=>true)=true)(h11:((l.take 9).all fun x=>!Nat.beq x.k 11)=true)(hL:∀p,p∈L→p.2.length≤1000000)(hx:pD ⟨P,noJ⟩ 14 [8] l [] (l.take 9) [] [] [] ts H n (TellS c0 mid L av Q)):WCP P U0 h0 c0 (.draw 14 [8] l av) Q ts H n (GT c0 mid L):=by
 rw[←hl]at hkeys hx ⊢;have e:(List.take 9 (List.take 9 l++T5))=List.take 9 l:=by rw[hl]
 rw[e]at hx;exact aCX hU0 hkeys hnew h11 hL hx
end
end Go.Cq.D
namespace Go.Cq.D
open Go.RowKit Go.Qm
def gT:Gh:=fun _ _ _ _=>True
theorem xS:Stab gT:=⟨fun _ _ _ _ _ _ _=>trivial⟩
def TF(N:Bool→Nat→Prop)(h:Heap)(mid:Nat)(L:Tl):Prop:=∃L3:T3,L3.map (·.2)=L∧h.getM mid=some (.map (esT L3 0) L3.length)∧∀q,q∈L3→N true q.1.1∧∃b,h.get q.1.1=some b∧BlkT b q.1.2 q.2.2
def esO:List (Int×Pages)→List (CV×CV)→Nat→List (V1×V1×Nat)
 |p::ps,c::cs,j=>(.one (.int .i64 p.1),.agg [c.1,c.2],j)::esO ps cs (j+1)
 |_,_,_=>[]
def RoP(h:Heap)(N:Nat→Prop)(p:Pages)(c:CV×CV):Prop:=RoR h N (.sl 1 (p.tx.map rS)) c.1∧RoR h N (.sl 1 (p.rf.map rI)) c.2
def OF (N : Bool → Nat → Prop) (h : Heap) (oid : Nat) (ps : List (Int × Pages)) : Prop := ∃ cs : List (CV × CV), cs.length = ps.length ∧ h.getM oid = some (.map (esO ps cs 0) ps.length) ∧ ∀ (j : Nat) p c, ps[j]? = some p → cs[j]? = some c → RoP h (N true) p.2 c
def G1(c0 mid oid:Nat)(L:Tl)(ps:List (Int×Pages)):Gh:=fun N U _ h=>(U mid∧U oid∧mid≠oid)∧(c0≤mid∧c0≤oid)∧TF N h mid L∧OF N h oid ps
def G2(c0 mid oid iid:Nat)(L:Tl)(ps:List (Int×Pages))(seen:List Nat):Gh:=fun N U own h=>G1 c0 mid oid L ps N U own h∧(U iid∧iid≠mid∧iid≠oid∧c0≤iid)∧h.getM iid=some (.iter oid ps.length seen ps.length)
theorem vW{N:Bool→Nat→Prop}{U own:Nat→Prop}{h h':Heap}(hN:∀id,N true id→U id∧¬own id)(hh:∀id,U id→¬own id→h'.get id=h.get id):∀id,N true id→h'.get id=h.get id:=fun id hid=>hh id (hN id hid).1 (hN id hid).2
theorem TF.av{N N':Bool→Nat→Prop}{h h':Heap}{mid:Nat}{L:Tl}(ht:TF N h mid L)(hN:∀id,N true id→N' true id)(hg:∀id,N true id→h'.get id=h.get id)(hm:h'.getM mid=h.getM mid):TF N' h' mid L:=by obtain⟨L3,h1,h2,h3⟩:=ht;refine⟨L3,h1,by rw[hm];exact h2,fun q hq=>?_⟩;obtain⟨k1,b,k2,k3⟩:=h3 q hq;exact⟨hN _ k1,b,by rw[hg _ k1];exact k2,k3⟩
theorem OF.av{N N':Bool→Nat→Prop}{h h':Heap}{oid:Nat}{ps:List (Int×Pages)}(ht:OF N h oid ps)(hN:∀id,N true id→N' true id)(hg:∀id,N true id→h'.get id=h.get id)(hm:h'.getM oid=h.getM oid):OF N' h' oid ps:=by obtain⟨cs,h1,h2,h3⟩:=ht;refine⟨cs,h1,by rw[hm];exact h2,fun j p c e1 e2=>?_⟩;obtain⟨k1,k2⟩:=h3 j p c e1 e2;exact⟨k1.local fun id hid=>⟨hg id hid,hN id hid⟩,k2.local fun id hid=>⟨hg id hid,hN id hid⟩⟩
theorem oV(c0 mid oid:Nat)(L:Tl)(ps:List (Int×Pages)):Stab (G1 c0 mid oid L ps):=by refine⟨fun{N U own h N' U' own' h'} hg hN ng ho hu hh hm=>?_⟩;obtain⟨⟨h1,h2,h3⟩,h4,h5,h6⟩:=hg;have hf:=vW hN hh;exact⟨⟨hu _ h1,hu _ h2,h3⟩,h4,h5.av (fun id=>ng.1 true id) hf (hm _),h6.av (fun id=>ng.1 true id) hf (hm _)⟩
theorem da(c0 mid oid iid:Nat)(L:Tl)(ps:List (Int×Pages))(seen:List Nat):Stab (G2 c0 mid oid iid L ps seen):=by refine⟨fun{N U own h N' U' own' h'} hg hN ng ho hu hh hm=>?_⟩;obtain⟨h1,⟨h2,h3⟩,h4⟩:=hg;exact⟨(oV c0 mid oid L ps).st h1 hN ng ho hu hh hm,⟨hu _ h2,h3⟩,by rw[hm];exact h4⟩
section
variable{P:Program}{U0:Nat→Prop}{h0:Heap}{c0:Nat}{N:Bool→Nat→Prop}{I:Nm}{Fp:Loc→Nat→Prop}{ts:DTs}{H:DH}{n:Nat}{U:Nat→Prop}{γ:Gh}{Q:DTs→DH→Nat→Gh→Prop}{l:List CI}
theorem mH{γ':Gh}{s:St}{h':Heap}{c':Nat}{d:Option Nat}{x:DT}{y:CVal}{U':Nat→Prop}(h2:∀id,U0 id→U id∧¬aV I Fp H id)(h3:c0≤s.c)(h4:R none N I Fp ts H n s.ts s.h U)(h5:∀id,U0 id→s.h.get id=h0.get id)(h6:∀id,id<c0→h'.getM id=h0.getM id)(hget:∀id,h'.get id=s.h.get id)(hc:s.c≤c')(hU:∀id,U id→U' id)(hU':∀id,U' id→id<c')(hx:tR s.h N I H x y)(ht:∀j k q g,x.cell j k=some q→g∈q.tags→g<n)(hγ:∀own':Nat→Prop,(∀id,own' id→aV I Fp H id)→γ' N U' own' h'):RG U0 h0 c0 ⟨cO d y s.ts,h',c'⟩ (i9 d x ts) H n γ':=by obtain⟨Fp',r1,hF⟩:=(h4.more hU).pr d hx ht;exact⟨N,I,Fp',U',hU',fun id hid=>⟨hU id (h2 id hid).1,fun ho=>(h2 id hid).2 (ho.less hF)⟩,Nat.le_trans h3 hc,r1.ext (fun _=>rfl) hget,fun id hid=>(hget id).trans (h5 id hid),h6,hγ _ fun id hid=>hid.less hF⟩
theorem aAs{s:St}{mid:Nat}{L:Tl}(hs:RG U0 h0 c0 s ts H n (GT c0 mid L)):∃N I Fp U,(∀id,U id→id<s.c)∧(∀id,U0 id→U id∧¬aV I Fp H id)∧c0≤s.c∧R none N I Fp ts H n s.ts s.h U∧(∀id,U0 id→s.h.get id=h0.get id)∧(∀id,id<c0→s.h.getM id=h0.getM id)∧
  U mid∧c0≤mid∧TF N s.h mid L:=by
 obtain⟨N,I,Fp,U,h1,h2,h3,h4,h5,h6,m1,m2,L3,m3,m4,m5,m6⟩:=hs.ex;let S:Nat→Prop:=fun id=>∃q,q∈L3∧q.1.1=id
 have hS:∀id,S id→U id∧¬aV I Fp H id:=fun id⟨q,hq,e⟩=>by obtain⟨-,k1,k2, -⟩:=m6 q hq;exact e▸⟨k1,k2⟩
 refine⟨fun b id=>N b id∨(b=true∧S id),I,Fp,U,h1,h2,h3,⟨h4.tsh,h4.bsh,fun ℓ x hne hx=>?_,h4.tags,h4.htag,h4.inj,h4.sepT,h4.sepF,fun g db id b s' hn hg hi=>?_,fun ℓ id hn hf=>?_,h4.hb,fun id hid=>?_,fun id hid=>?_,fun id b hb hbr=>⟨.inl (h4.ro id b hb hbr).1,fun h=>h.elim (h4.ro id b hb hbr).2 fun h=>by simp at h⟩⟩,h5,h6,m1,m2,L3,m3,m5,fun q hq=>?_⟩
 ·obtain⟨v,k1,k2⟩:=h4.cell ℓ x hne hx;exact⟨v,k1,k2.mono (fun b id hid=>⟨rfl,.inl hid⟩) (fun id hid=>⟨rfl,hid⟩) (fun g sz es ov _ hg=>⟨rfl,es,ov,hg,Nat.le_refl _⟩) (fun g _ hg=>⟨hg,rfl⟩)⟩
 ·rcases hn with hn| ⟨-,hn⟩
  ·exact h4.roT g db id b s' hn hg hi
  ·exact(hS id hn).2 (.inr ⟨g,db,b,s',hg,hi⟩)
 ·rcases hn with hn| ⟨-,hn⟩
  ·exact h4.roF ℓ id hn hf
  ·exact(hS id hn).2 (.inl ⟨ℓ,hf⟩)
 ·rcases hid with(hid| ⟨-,hid⟩)|hid
  ·exact h4.lt id (.inl hid)
  ·exact(hS id hid).1
  ·exact h4.lt id (.inr hid)
 ·rcases hid with hid| ⟨e, -⟩
  ·exact .inl (h4.le id hid)
  ·simp at e
 ·obtain⟨⟨b,k1,k2⟩, -⟩:=m6 q hq;exact⟨.inr ⟨rfl,q,hq,rfl⟩,b,k1,k2⟩
theorem aEJ{n:Nat}:∀j k q g,(DT.gone).cell j k=some q→g∈q.tags→g<n:=fun j k q g h=>by simp[DT.cell]at h
theorem aDV{d:Nat}(h:∀i,SGP P U0 h0 c0 l Q ((d,.v (.one (.sc (.mp i))))::ts) H n (GT c0 i [])):SGP P U0 h0 c0 (⟨none,some d,.mop .mk⟩::l) Q ts H n gT:=by
 refine nU fun s hs=>?_
 obtain⟨N,I,Fp,U,h1,h2,h3,h4,h5,h6, -⟩:=hs.ex;refine⟨⟨cO (some d) (.v (.one (.mp s.c))) s.ts,s.h.cE s.c (some (.map [] 0)),s.c+1⟩,rfl,_,_,_,_,h s.c,?_⟩;refine mH (d:=some d) (x:=.v (.one (.sc (.mp s.c)))) (U':=fun id=>U id∨id=s.c) h2 h3 h4 h5 (fun id hid=>?_) (fun _=>rfl) (Nat.le_succ _) (fun _ h=>.inl h) (fun id hid=>?_) (cQ rfl).t (ck (aj (by simp[DC.tags]))) fun own' _=>⟨.inr rfl,h3,[],rfl,List.nodup_nil,?_,by simp⟩
 ·rw[Heap.bI,if_neg (by omega)];exact h6 id hid
 ·rcases hid with hid|hid
  ·have:=h1 id hid;omega
  ·omega
 ·rw[Heap.bI,if_pos rfl];rfl
theorem aD1 {d mid : Nat} {L : Tl} (h : ∀ i, SGP P U0 h0 c0 l Q ((d, .v (.one (.sc (.mp i)))) :: ts) H n (G1 c0 mid i L [])) : SGP P U0 h0 c0 (⟨none, some d, .mop .mk⟩ :: l) Q ts H n (GT c0 mid L) := by
 refine nU fun s hs => ?_
 obtain ⟨N, I, Fp, U, h1, h2, h3, h4, h5, h6, m1, m2, m3⟩ := aAs hs; have := h1 mid m1; refine ⟨⟨cO (some d) (.v (.one (.mp s.c))) s.ts, s.h.cE s.c (some (.map [] 0)), s.c + 1⟩, rfl, _, _, _, _, h s.c, ?_⟩; refine mH (d := some d) (x := .v (.one (.sc (.mp s.c)))) (U' := fun id => U id ∨ id = s.c) h2 h3 h4 h5 (fun id hid => ?_) (fun _ => rfl) (Nat.le_succ _) (fun _ h => .inl h) (fun id hid => ?_) (cQ rfl).t (ck (aj (by simp [DC.tags]))) fun own' _ => ⟨⟨.inl m1, .inr rfl, by omega⟩, ⟨m2, h3⟩, m3.av (fun _ h => h) (fun _ _ => rfl) ?_, [], rfl, ?_, by simp⟩
 ·rw [Heap.bI, if_neg (by omega)]; exact h6 id hid
 ·rcases hid with hid | hid
  ·have := h1 id hid; omega
  ·omega
 ·rw [Heap.bI, if_neg (by omega)]
 ·rw [Heap.bI, if_pos rfl]; rfl
theorem yd{k:Int}:∀{ps:List (Int×Pages)}{cs:List (CV×CV)}{j i:Nat},(∀q,q∈ps→q.1≠k)→fS [.i .i64] false (.one (.int .i64 k)) (esO ps cs j) i=some none:=by
 intro ps;induction ps with
 |nil=>intro cs j i _;cases cs<;>rfl
 |cons p ps ih=>
  intro cs j i h;cases cs with
  |nil=>rfl
  |cons c cs=>
   simp only[esO,fS];rw[if_pos (by rfl)];have hne:¬k=p.1:=fun e=>h p (by simp) e.symm
   simp only[V1.cells,bJ,qV,and_self,if_true,Bool.and_true,beq_eq_false_iff_ne.2 hne];exact ih fun q hq=>h q (by simp[hq])
theorem vM{p:Int×Pages}{c:CV×CV}:∀{ps:List (Int×Pages)}{cs:List (CV×CV)}{j:Nat},cs.length=ps.length→esO (ps++[p]) (cs++[c]) j=esO ps cs j++[(.one (.int .i64 p.1),.agg [c.1,c.2],j+ps.length)]:=by
 intro ps;induction ps with
 |nil=>intro cs j h;rw[List.length_nil]at h;rw[List.length_eq_zero_iff.1 h];rfl
 |cons q ps ih=>
  intro cs j h;cases cs with
  |nil=>simp at h
  |cons c' cs=>simp only[List.cons_append,esO,ih (by simpa using h),List.length_cons];rw[show j+1+ps.length=j+(ps.length+1) by omega]
theorem zp{cts:Ts}{h:Heap}(hr:R none N I Fp ts H n cts h U){t:Nat}{b1 b2:Bool}{e1 e2:List (List PV)}(hl:an ts t=some (.v (.agg [.ro b1 1 e1,.ro b2 1 e2]))):∃c1 c2,look cts t=some (.v (.agg [c1,c2]))∧RoR h (N true) (.sl 1 e1) c1∧RoR h (N true) (.sl 1 e2) c2:=by
 obtain⟨w1,h1,h2⟩:=hr.cell (.t t 0 0) (.ro b1 1 e1) (by simp) (by simp[aa,hl,DT.cell,DV.cell]);obtain⟨w2,k1,k2⟩:=hr.cell (.t t 0 1) (.ro b2 1 e2) (by simp) (by simp[aa,hl,DT.cell,DV.cell]);obtain⟨y,h4,h5⟩:=hr.tsh t _ hl;have up:∀{b:Bool}{p:PV}{c:CV},RoR h (N b) p c→RoR h (N true) p c:=fun{b p c} hc=>hc.local fun id hid=>⟨rfl,by cases b;exact hr.le id hid;exact hid⟩
 cases y with
 |v y=>
  cases y with
  |one c=>exact h5.elim
  |agg cs=>
   simp only[bW,h4,Option.bind_some,fC,if_true,fE]at h1 k1;have hlen:cs.length=2:=h5
   match cs,hlen with
   | [a,b],_=>simp only[List.getElem?_cons_zero,Option.some.injEq,List.getElem?_cons_succ]at h1 k1;subst h1;subst k1;exact⟨a,b,h4,up h2,up k2⟩
 |tup l=>exact h5.elim
 |gone=>exact h5.elim
theorem oT{N:Nat→Prop}{h:Heap}{id:Nat}{o:Option MO}{p:PV}{c:CV}(hr:RoR h N p c):RoR (h.cE id o) N p c:=RoR.local (h:=h) (h':=h.cE id o) (fun id' hid=>⟨(show(h.cE id o).get id'=h.get id' from rfl),hid⟩) hr
theorem aAH{t tv mid oid:Nat}{L:Tl}{ps:List (Int×Pages)}{k:Int}{p:Pages}{b1 b2:Bool}(ht:an ts t=some (.v (.one (.sc (.mp oid)))))(hv:an ts tv=some (.v (.agg [.ro b1 1 (p.tx.map rS),.ro b2 1 (p.rf.map rI)])))(hk:∀q,q∈ps→q.1≠k)(h:SGP P U0 h0 c0 l Q ts H n (G1 c0 mid oid L (ps++[(k,p)]))):SGP P U0 h0 c0 (⟨none,none,.mop (.set [.i .i64] false (.t t) (.k (.int .i64 k)) (.t tv))⟩::l) Q ts H n (G1 c0 mid oid L ps):=by
 refine nU fun s hs=>?_
 obtain⟨N,I,Fp,U,h1,h2,h3,h4,h5,h6,⟨m1,m2,m3⟩,⟨m4,m5⟩,m6,cs,m7,m8,m9⟩:=hs.ex;obtain⟨c1,c2,e1,e2,e3⟩:=zp h4 hv;have e0:=j7 h4 ht;have hes:=vM (p:=(k,p)) (c:=(c1,c2)) (j:=0) m7;have hev:nL [.i .i64] false (.t t) (.k (.int .i64 k)) (.t tv) s.h s.ts=some (s.h.cE oid (some (.map (esO (ps++[(k,p)]) (cs++[(c1,c2)]) 0) (ps.length+1)))):=by have ek:evO s.ts (.k (.int .i64 k))=some (.one (.int .i64 k)):=rfl;simp only[nL,Qm.fg e0,Qm.pN e1,ek,m8];rw[if_pos (by rfl),yd hk,hes];simp only[Nat.zero_add]
 refine⟨⟨cO none .gone s.ts,s.h.cE oid (some (.map (esO (ps++[(k,p)]) (cs++[(c1,c2)]) 0) (ps.length+1))),s.c+1⟩,?_,_,_,_,_,h,?_⟩
 ·simp only[fo,bH,COp.ev,MOp.ev,hev]
 refine mH (d:=none) (x:=.gone) (U':=U) h2 h3 h4 h5 (fun id hid=>?_) (fun _=>rfl) (Nat.le_succ _) (fun _ h=>h) (fun id hid=>?_) ⟨trivial,by simp[DT.cell]⟩ aEJ fun own' _=>⟨⟨m1,m2,m3⟩,⟨m4,m5⟩,m6.av (fun _ h=>h) (fun _ _=>rfl) ?_,cs++[(c1,c2)],by simp[m7],?_,fun j q c q1 q2=>?_⟩
 ·rw[Heap.bI,if_neg (by omega)];exact h6 id hid
 ·have:=h1 id hid;show id<s.c+1;omega
 ·rw[Heap.bI,if_neg m3]
 ·rw[Heap.bI,if_pos rfl,List.length_append];rfl
 ·by_cases hj:j<ps.length
  ·rw[List.getElem?_append_left hj]at q1;rw[List.getElem?_append_left (by omega)]at q2;exact⟨oT (m9 j q c q1 q2).1,oT (m9 j q c q1 q2).2⟩
  ·rw[List.getElem?_append_right (by omega)]at q1;rw[List.getElem?_append_right (by omega),m7]at q2;cases hjj:j-ps.length with
   |zero=>rw[hjj]at q1 q2;simp only[List.getElem?_cons_zero,Option.some.injEq]at q1 q2;subst q1;subst q2;exact⟨oT e2,oT e3⟩
   |succ x=>rw[hjj]at q1;simp at q1
theorem aDy{t d mid oid:Nat}{L:Tl}{ps:List (Int×Pages)}(ht:an ts t=some (.v (.one (.sc (.mp oid)))))(h:∀i,SGP P U0 h0 c0 l Q ((d,.v (.one (.sc (.ptr i 0))))::ts) H n (G2 c0 mid oid i L ps [])):SGP P U0 h0 c0 (⟨none,some d,.mop (.rng (.t t))⟩::l) Q ts H n (G1 c0 mid oid L ps):=by
 refine nU fun s hs=>?_
 obtain⟨N,I,Fp,U,h1,h2,h3,h4,h5,h6,⟨m1,m2,m3⟩,⟨m4,m5⟩,m6,m7⟩:=hs.ex;have:=h1 mid m1;have:=h1 oid m2;have m7':=m7;obtain⟨cs,k1,k2,k3⟩:=m7';have hev:kj (.t t) s.h s.ts=some (.iter oid ps.length [] ps.length):=by simp only[kj,Qm.fg (j7 h4 ht),k2]
 refine⟨⟨cO (some d) (.v (.one (.ptr s.c 0))) s.ts,s.h.cE s.c (some (.iter oid ps.length [] ps.length)),s.c+1⟩,?_,_,_,_,_,h s.c,?_⟩
 ·simp only[fo,bH,COp.ev,MOp.ev,hev]
 refine mH (d:=some d) (x:=.v (.one (.sc (.ptr s.c 0)))) (U':=fun id=>U id∨id=s.c) h2 h3 h4 h5 (fun id hid=>?_) (fun _=>rfl) (Nat.le_succ _) (fun _ h=>.inl h) (fun id hid=>?_) (cQ rfl).t (ck (aj (by simp[DC.tags]))) fun own' _=>⟨⟨⟨.inl m1,.inl m2,m3⟩,⟨m4,m5⟩,m6.av (fun _ h=>h) (fun _ _=>rfl) ?_,m7.av (fun _ h=>h) (fun _ _=>rfl) ?_⟩,⟨.inr rfl,by omega,by omega,h3⟩,?_⟩
 ·rw[Heap.bI,if_neg (by omega)];exact h6 id hid
 ·rcases hid with hid|hid
  ·have:=h1 id hid;show id<s.c+1;omega
  ·show id<s.c+1;omega
 ·rw[Heap.bI,if_neg (by omega)]
 ·rw[Heap.bI,if_neg (by omega)]
 ·rw[Heap.bI,if_pos rfl]
theorem aCE:∀{ps:List (Int×Pages)}{cs:List (CV×CV)}{j i:Nat}{p c},ps[i]?=some p→cs[i]?=some c→(esO ps cs j)[i]?=some (.one (.int .i64 p.1),.agg [c.1,c.2],j+i):=by
 intro ps;induction ps with
 |nil=>intro cs j i p c h;simp at h
 |cons q ps ih=>
  intro cs j i p c h1 h2;cases cs with
  |nil=>simp at h2
  |cons d cs=>
   cases i with
   |zero=>simp only[List.getElem?_cons_zero,Option.some.injEq]at h1 h2;subst h1;subst h2;rfl
   |succ i=>simp only[List.getElem?_cons_succ]at h1 h2;simp only[esO,List.getElem?_cons_succ,ih h1 h2];rw[show j+1+i=j+(i+1) by omega]
theorem aBq:∀{ps:List (Int×Pages)}{cs:List (CV×CV)}{j:Nat}{e},cs.length=ps.length→e∈esO ps cs j→∃(i:Nat)(p:Int×Pages)(c:CV×CV),ps[i]?=some p∧cs[i]?=some c∧e=(.one (.int .i64 p.1),.agg [c.1,c.2],j+i):=by
 intro ps;induction ps with
 |nil=>intro cs j e hl h;cases cs<;>simp[esO]at h
 |cons q ps ih=>
  intro cs j e hl h;cases cs with
  |nil=>simp at hl
  |cons d cs=>
   simp only[esO,List.mem_cons]at h;rcases h with rfl|h
   ·exact⟨0,q,d,rfl,rfl,rfl⟩
   ·obtain⟨i,p,c,h1,h2,h3⟩:=ih (by simpa using hl) h;exact⟨i+1,p,c,by simpa using h1,by simpa using h2,by rw[h3,show j+1+i=j+(i+1) by omega]⟩
theorem zl:∀{ps:List (Int×Pages)}{cs:List (CV×CV)}{j i:Nat}{p c},ps[i]?=some p→cs[i]?=some c→(esO ps cs j).find? (fun e=>e.2.2==j+i)=some (.one (.int .i64 p.1),.agg [c.1,c.2],j+i):=by
 intro ps;induction ps with
 |nil=>intro cs j i p c h;simp at h
 |cons q ps ih=>
  intro cs j i p c h1 h2;cases cs with
  |nil=>simp at h2
  |cons d cs=>
   cases i with
   |zero=>simp only[List.getElem?_cons_zero,Option.some.injEq]at h1 h2;subst h1;subst h2;simp[esO]
   |succ i=>simp only[List.getElem?_cons_succ]at h1 h2;have:=ih (j:=j+1) h1 h2;rw[show j+1+i=j+(i+1) by omega]at this;simp only[esO,List.find?_cons];rw[show((j:Nat)==j+(i+1))=false by simp];exact this
theorem aDR{t d mid oid iid j:Nat}{L:Tl}{ps:List (Int×Pages)}{seen:List Nat}{p:Int×Pages}(ht:an ts t=some (.v (.one (.sc (.ptr iid 0)))))(hp:ps[j]?=some p)(h:SGP P U0 h0 c0 l Q ((d,.tup [.one (.sc (.int .i64 p.1)),.agg [.ro true 1 (p.2.tx.map rS),.ro true 1 (p.2.rf.map rI)]])::ts) H n (G2 c0 mid oid iid L ps (seen++[j]))):SGP P U0 h0 c0 (⟨none,some d,.mop (.ety (.t t))⟩::l) Q ts H n (G2 c0 mid oid iid L ps (seen++[j])):=by
 refine nU fun s hs=>?_
 obtain⟨N,I,Fp,U,h1,h2,h3,h4,h5,h6,⟨⟨m1,m2,m3⟩,⟨m4,m5⟩,m6,m7⟩,m8,m9⟩:=hs.ex;have m7':=m7;obtain⟨cs,k1,k2,k3⟩:=m7';have hj:=(List.getElem?_eq_some_iff.1 hp).1;obtain⟨c,hc⟩:∃c,cs[j]?=some c:=⟨cs[j],List.getElem?_eq_getElem (by omega)⟩;obtain⟨r1,r2⟩:=k3 j p c hp hc;have hfind:=zl (j:=0) hp hc;rw[Nat.zero_add]at hfind;have hev:jW (.t t) s.h s.ts=some (.one (.int .i64 p.1),.agg [c.1,c.2]):=by simp only[jW,Qm.fg (j7 h4 ht),m9,k2,List.getLast?_append,List.getLast?_singleton,Option.some_or,if_true,hfind,Option.map_some]
 refine⟨⟨cO (some d) (.tup [.one (.int .i64 p.1),.agg [c.1,c.2]]) s.ts,s.h,s.c+1⟩,?_,_,_,_,_,h,?_⟩
 ·simp only[fo,bH,COp.ev,MOp.ev,hev]
 refine mH (d:=some d) (x:=.tup [.one (.sc (.int .i64 p.1)),.agg [.ro true 1 (p.2.tx.map rS),.ro true 1 (p.2.rf.map rI)]]) (U':=U) h2 h3 h4 h5 h6 (fun _=>rfl) (Nat.le_succ _) (fun _ h=>h) (fun id hid=>?_) ⟨⟨rfl,fun i x y hx hy=>?_⟩,fun i k x hx=>?_⟩ (fun i k x g hx hg=>?_) fun own' _=>⟨⟨⟨m1,m2,m3⟩,⟨m4,m5⟩,m6,m7⟩,m8,m9⟩
 ·have:=h1 id hid;show id<s.c+1;omega
 ·match i with
  |0=>simp only[List.getElem?_cons_zero,Option.some.injEq]at hx hy;subst hx;subst hy;exact trivial
  |1=>simp only[List.getElem?_cons_zero,Option.some.injEq,List.getElem?_cons_succ]at hx hy;subst hx;subst hy;rfl
  |i+2=>simp at hx
 ·match i with
  |0=>
   match k with
   |0=>simp only[DT.cell,List.getElem?_cons_zero,Option.bind_some,DV.cell,if_true,Option.some.injEq]at hx;subst hx;exact⟨_,rfl,rfl,rfl⟩
   |k+1=>simp[DT.cell,DV.cell]at hx
  |1=>
   match k with
   |0=>simp only[DT.cell,List.getElem?_cons_zero,List.getElem?_cons_succ,Option.bind_some,DV.cell,Option.some.injEq]at hx;subst hx;exact⟨_,rfl,r1⟩
   |1=>simp only[DT.cell,List.getElem?_cons_zero,List.getElem?_cons_succ,Option.bind_some,DV.cell,Option.some.injEq]at hx;subst hx;exact⟨_,rfl,r2⟩
   |k+2=>simp[DT.cell,DV.cell]at hx
  |i+2=>simp[DT.cell]at hx
 ·exfalso
  match i with
  |0=>
   match k with
   |0=>simp only[DT.cell,List.getElem?_cons_zero,Option.bind_some,DV.cell,if_true,Option.some.injEq]at hx;subst hx;simp[DC.tags]at hg
   |k+1=>simp[DT.cell,DV.cell]at hx
  |1=>
   match k with
   |0=>simp only[DT.cell,List.getElem?_cons_zero,List.getElem?_cons_succ,Option.bind_some,DV.cell,Option.some.injEq]at hx;subst hx;simp[DC.tags]at hg
   |1=>simp only[DT.cell,List.getElem?_cons_zero,List.getElem?_cons_succ,Option.bind_some,DV.cell,Option.some.injEq]at hx;subst hx;simp[DC.tags]at hg
   |k+2=>simp[DT.cell,DV.cell]at hx
  |i+2=>simp[DT.cell]at hx
def dq(L:Tl)(k:Int×Int):List (Bool×Bool):=((L.find? fun p=>decide (p.1=k)).map (·.2)).getD []
theorem zE{k:Int×Int}:∀{L3:T3}{i:Nat},dq (L3.map (·.2)) k=match jy k L3 i with
  |some j=>((L3[j-i]?).map (·.2.2)).getD []
  |none=>[]:=by
 intro L3;induction L3 with
 |nil=>intro i;rfl
 |cons q L3 ih=>
  intro i;simp only[jy,dq,List.map_cons,List.find?_cons];by_cases e:q.2.1=k
  ·simp[e]
  ·simp only[e,decide_false,if_false];have:=ih (i:=i+1);simp only[dq]at this;rw[this];cases hp:jy k L3 (i+1)with
   |none=>rfl
   |some j=>have:=(kv hp).1;simp only;rw[show j-i=(j-(i+1))+1 by omega,List.getElem?_cons_succ]
theorem xW{l:List (Bool×Bool)}:∀{i:Nat}{r:Bool×Bool},l[i]?=some r→(jh l)[i*2]?=some (.bool r.1)∧(jh l)[i*2+1]?=some (.bool r.2):=by
 induction l with
 |nil=>intro i r h;simp at h
 |cons a l ih=>
  intro i r h;have e:jh (a::l)= .bool a.1:: .bool a.2::jh l:=by simp[jh]
  rw[e];cases i with
  |zero=>cases h;exact⟨rfl,rfl⟩
  |succ i=>simp only[List.getElem?_cons_succ]at h;obtain⟨h1,h2⟩:=ih h;rw[show(i+1)*2=i*2+1+1 by omega];simp only[List.getElem?_cons_succ];exact⟨h1,h2⟩
theorem BlkT.ro{N:Nat→Prop}{h:Heap}{id base:Nat}{b:Blk}{rows:List (Bool×Bool)}(hN:N id)(hb:h.get id=some b)(ht:BlkT b base rows):RoR h N (.sl 2 (rows.map rT)) (.sl id base rows.length none):=by
 have key:∀(i:Nat)(row:List PV)(k:Nat)(p:PV),(rows.map rT)[i]?=some row→row[k]?=some p→∃v,p= .sc (.bool v)∧b.get ((base+i)*2+k)=some (.bool v):=fun i row k p h1 h2=>by
  simp only[List.getElem?_map,Option.map_eq_some_iff]at h1;obtain⟨r,h3,rfl⟩:=h1;have hi:=(List.getElem?_eq_some_iff.1 h3).1;obtain⟨g1,g2⟩:=xW h3
  match k with
  |0=>simp only[rT,List.getElem?_cons_zero,Option.some.injEq]at h2;subst h2;exact⟨r.1,rfl,by rw[←g1,←ht.cl (i*2) (by omega)];congr 1;omega⟩
  |1=>simp only[rT,List.getElem?_cons_zero,List.getElem?_cons_succ,Option.some.injEq]at h2;subst h2;exact⟨r.2,rfl,by rw[←g2,←ht.cl (i*2+1) (by omega)];congr 1;omega⟩
  |k+2=>simp[rT]at h2
 have:=RoR.sl (h:=h) (N:=N) (sz:=2) (es:=rows.map rT) (id:=id) (base:=base) (lim:=none) (cf:=fun i k=>(b.get ((base+i)*2+k)).getD .nilp) hN
  ⟨⟨b,hb,ht.sz,by rw[List.length_map];exact ht.fit,fun i row k p h1 h2=>by obtain⟨v, -,e⟩:=key i row k p h1 h2;rw[e];rfl⟩,by decide,fun i row h1=>by
   simp only[List.getElem?_map,Option.map_eq_some_iff]at h1;obtain⟨r, -,rfl⟩:=h1;rfl⟩ (fun i row k p h1 h2=>by
   obtain⟨v,e1,e2⟩:=key i row k p h1 h2;rw[e1,e2];exact .sc rfl)
 rw[List.length_map]at this;exact this
theorem aBw{t tk d mid oid iid:Nat}{L:Tl}{ps:List (Int×Pages)}{seen:List Nat}{k:Int×Int}(ht:an ts t=some (.v (.one (.sc (.mp mid)))))(hk:an ts tk=some (.v (.agg [.sc (.int .i64 k.1),.sc (.int .i64 k.2)])))(h:SGP P U0 h0 c0 l Q ((d,.v (.one (.ro true 2 ((dq L k).map rT))))::ts) H n (G2 c0 mid oid iid L ps seen)):SGP P U0 h0 c0 (⟨none,some d,.mop (.look false [.i .i64,.i .i64] true (.one (.nils 2)) (.t t) (.t tk))⟩::l) Q ts H n (G2 c0 mid oid iid L ps seen):=by
 refine nU fun s hs=>?_
 obtain⟨N,I,Fp,U,h1,h2,h3,h4,h5,h6,⟨⟨m1,m2,m3⟩,⟨m4,m5⟩,m6,m7⟩,m8,m9⟩:=hs.ex;have m6':=m6;obtain⟨L3,k1,k2,k3⟩:=m6';have hres:∃v b,kb [.i .i64,.i .i64] true (.one (.nils 2)) (.t t) (.t tk) s.h s.ts=some (.one v,b)∧RoR s.h (N true) (.sl 2 ((dq L k).map rT)) v:=by
  have hkv:evO s.ts (.t tk)=some (iL k):=Qm.pN (uJ h4 hk);have hpos:=zE (k:=k) (L3:=L3) (i:=0);rw[k1]at hpos;rw[hpos];have e:kb [.i .i64,.i .i64] true (.one (.nils 2)) (.t t) (.t tk) s.h s.ts=match fS kLK true (iL k) (esT L3 0) 0 with
    |some (some i)=>match(esT L3 0)[i]? with
     |some e=>some (e.2.1,true)
     |none=>none
    |some none=>some (.one (.nils 2),false)
    |none=>none:=by
   simp only[kb,Qm.fg (j7 h4 ht),hkv,k2];rw[if_pos (by rfl)];rfl
  rw[e,qg];cases hp:jy k L3 0 with
  |none=>exact⟨.nils 2,false,rfl,RoR.nil⟩
  |some j=>obtain⟨-,q,hq, -⟩:=kv hp;rw[Nat.sub_zero]at hq;simp only[wc hq,Nat.sub_zero,hq,Option.map_some,Option.getD_some];obtain⟨n1,b,n2,n3⟩:=k3 q (List.mem_of_getElem? hq);exact⟨_,true,rfl,BlkT.ro n1 n2 n3⟩
 obtain⟨v,b,e1,e2⟩:=hres;refine⟨⟨cO (some d) (.v (.one v)) s.ts,s.h,s.c+1⟩,?_,_,_,_,_,h,?_⟩
 ·simp only[fo,bH,COp.ev,MOp.ev,e1];rfl
 refine mH (d:=some d) (x:=.v (.one (.ro true 2 ((dq L k).map rT)))) (U':=U) h2 h3 h4 h5 h6 (fun _=>rfl) (Nat.le_succ _) (fun _ h=>h) (fun id hid=>?_) (bw (c:=.ro true 2 ((dq L k).map rT)) e2).t (ck (aj (by simp[DC.tags]))) fun own' _=>⟨⟨⟨m1,m2,m3⟩,⟨m4,m5⟩,m6,m7⟩,m8,m9⟩
 have:=h1 id hid;show id<s.c+1;omega
theorem aD2{t d d2 mid oid iid:Nat}{L:Tl}{ps:List (Int×Pages)}{seen:List Nat}{av:Option (List Nat)}{Q:Kg}(ht:an ts t=some (.v (.one (.sc (.ptr iid 0)))))(_hne:Nat.beq d d2=false)(hend:(∀j,j<ps.length→j∈seen)→KGP av Q ((d2,.v (.one (.sc (.bool false))))::(d,.gone)::ts) H n (G2 c0 mid oid iid L ps seen))(hstep:∀j,j<ps.length→j∉seen→KGP av Q ((d2,.v (.one (.sc (.bool true))))::(d,.gone)::ts) H n (G2 c0 mid oid iid L ps (seen++[j]))):WMP P U0 h0 c0 (.nxt d t [⟨none,some d2,.ext d 0⟩] av) Q ts H n (G2 c0 mid oid iid L ps seen):=by
 refine⟨fun s hs=>?_⟩;obtain⟨N,I,Fp,U,h1,h2,h3,h4,h5,h6,⟨⟨m1,m2,m3⟩,⟨m4,m5⟩,m6,m7⟩,⟨m8,m8a,m8b,m8c⟩,m9⟩:=hs.ex;have m7':=m7;obtain⟨cs,k1,k2,k3⟩:=m7';have hlt:∀e,e∈esO ps cs 0→e.2.2<ps.length:=fun e he=>by obtain⟨i,p,c,e1,e2,rfl⟩:=aBq k1 he;have:=(List.getElem?_eq_some_iff.1 e1).1;simpa using this
 have hall:(esO ps cs 0).all (fun e=>decide (e.2.2<ps.length)&&decide (e.2.2<ps.length))=true:=by rw[List.all_eq_true];intro e he;simp[hlt e he]
 have after:∀(v:V1)(rest:List V1)(bb:Bool)(h':Heap)(seen':List Nat),v= .one (.bool bb)→(∀id,h'.get id=s.h.get id)→(∀id,id≠iid→h'.getM id=s.h.getM id)→h'.getM iid=some (.iter oid ps.length seen' ps.length)→
   KGP av Q ((d2,.v (.one (.sc (.bool bb))))::(d,.gone)::ts) H n (G2 c0 mid oid iid L ps seen')→∃cl s',gW P cl∧gY cl [⟨none,some d2,.ext d 0⟩] ⟨(d,.tup (v::rest))::s.ts,h',s.c+1⟩=some s'∧
    ∃ts' H' n' γ',Q .nrm ts' H' n' γ'∧RG U0 h0 c0 (s'.av av) ts' H' n' γ':=by
  intro v rest bb h' seen' hv e1 e2 e3 hk;subst hv;refine⟨iF,⟨(d2,.v (.one (.bool bb)))::(d,.tup (.one (.bool bb)::rest))::s.ts,h',s.c+1+1⟩,jc P,?_,?_⟩
  ·simp only[gY,fo,bH,COp.ev,bc,if_true,List.getElem?_cons_zero,cO]
  ·have r1:=(h4.put (d:=d) (x:=.gone) (y:=.tup (.one (.bool bb)::rest)) ⟨trivial,by simp[DT.cell]⟩ aEJ);have hs2:RG U0 h0 c0 ⟨cO (some d2) (.v (.one (.bool bb))) ((d,.tup (.one (.bool bb)::rest))::s.ts),h',s.c+1+1⟩ (i9 (some d2) (.v (.one (.sc (.bool bb)))) ((d,.gone)::ts)) H n (G2 c0 mid oid iid L ps seen'):=by
    refine mH (s:=⟨(d,.tup (.one (.bool bb)::rest))::s.ts,s.h,s.c⟩) (U':=U) (fun id hid=>⟨(h2 id hid).1,fun ho=>(h2 id hid).2 (ho.less fun ℓ id hid=>?_)⟩) h3 r1 h5 (fun id hid=>?_) e1 (show s.c≤s.c+1+1 by omega) (fun _ h=>h) (fun id hid=>?_) (cQ rfl).t (ck (aj (by simp[DC.tags]))) fun own' _=>⟨⟨⟨m1,m2,m3⟩,⟨m4,m5⟩,m6.av (fun _ h=>h) (fun id _=>e1 id) (e2 _ (Ne.symm m8a)),m7.av (fun _ h=>h) (fun id _=>e1 id) (e2 _ (Ne.symm m8b))⟩,⟨m8,m8a,m8b,m8c⟩,e3⟩
    ·cases ℓ with
     |t s' j k=>
      simp only at hid;split at hid
      ·exact hid.elim
      ·exact hid
     |h g i k=>exact hid
    ·rw[e2 id (by omega)];exact h6 id hid
    ·have:=h1 id hid;show id<s.c+1+1;omega
   obtain⟨ts2,H2,n2,q1,q2⟩:=tK hk.st hs2 hk.go;exact⟨ts2,H2,n2,_,q1,q2⟩
 have hdo:lz (.t t) s.h s.ts=match(esO ps cs 0).filter (fun e=>!seen.contains e.2.2)with
   | []=>some [(.tup [.one (.bool false)],s.h)]
   |e::l=>some ((e::l).map fun e=>(.tup [.one (.bool true),e.1,e.2.1],s.h.cE iid (some (.iter oid ps.length (seen++[e.2.2]) ps.length)))):=by
  simp only[lz,Qm.fg (j7 h4 ht),m9,k2,hall,if_true];rfl
 cases hfil:(esO ps cs 0).filter (fun e=>!seen.contains e.2.2)with
 |nil=>
  rw[hfil]at hdo;refine aBR hdo fun q hq=>?_
  simp only[List.mem_singleton]at hq;subst hq;refine after _ [] false s.h seen rfl (fun _=>rfl) (fun _ _=>rfl) m9 (hend fun j hj=>?_);have hp:=List.getElem?_eq_getElem hj;have hc:=List.getElem?_eq_getElem (show j<cs.length by omega);have hm:=List.mem_of_getElem? (aCE (j:=0) hp hc);have:=List.filter_eq_nil_iff.1 hfil _ hm;simpa using this
 |cons e l=>
  rw[hfil]at hdo;refine aBR hdo fun q hq=>?_
  obtain⟨e',he',rfl⟩:=List.mem_map.1 hq;have hmem:e'∈(esO ps cs 0).filter (fun e=>!seen.contains e.2.2):=by rw[hfil];exact he'
  obtain⟨hm1,hm2⟩:=List.mem_filter.1 hmem;have hj:=hlt e' hm1;refine after _ [e'.1,e'.2.1] true _ (seen++[e'.2.2]) rfl (fun _=>rfl) (fun id hne=>?_) ?_ (hstep e'.2.2 hj (by simpa using hm2))
  ·rw[Heap.bI,if_neg hne]
  ·rw[Heap.bI,if_pos rfl]
end
end Go.Cq.D
namespace Go.Cq.D
open Go.RowKit Go.Qm
def DC.yu:DC→Bool
 |.sc _=>true
 |.ro _ _ _=>true
 |_=>false
theorem aBQ{P:Program}(hm:P.follows .mixedOrders=true){g:FuncId}{F:Func}{fn:MFn}(hF:P.funcs[g]?=some F)(hok:vF P F fn=true){args:List DV}{r:Bool}(hle:args.length≤fn.nt)(hargs:(args.all fun x=>x.cells.all DC.yu)=true)(hres:fn.res=[.t 2])(hw:∀(U0:Nat→Prop)(h0:Heap)(c0:Nat),(∀id,U0 id→id<c0)→WMP P U0 h0 c0 fn.code (fun x ts _ _ _=>(x= .nrm∨x= .ret)∧an ts 2=some (.v (.one (.sc (.bool r))))) (fU args 0) [] 0 gT):bC P g args (.v (.one (.sc (.bool r)))):=by
 intro N I Fp cargs h c U hU hr hlen;have hcell:∀t j k x,aa (fU args 0) [] (.t t j k)=some x→x.yu=true:=fun t j k x hx=>by
  simp only[aa,Option.bind_eq_some_iff]at hx;obtain⟨y,h1,h2⟩:=hx;obtain⟨-,z,h3,rfl⟩:=gm h1;simp only[DT.cell]at h2;split at h2
  ·rw[DV.dh]at h2;exact List.all_eq_true.1 (List.all_eq_true.1 hargs z (List.mem_of_getElem? h3)) x (List.mem_of_getElem? h2)
  ·simp at h2
 have r0:R none N I (fun _ _=>False) (fU args 0) [] 0 (init cargs 0) h U:=by
  refine hr.sub hr.tsh (fun t j k x hx=>?_) (fun t j k x g hx hg=>hr.tags (.t t j k) x g hx hg) (fun _ _ h=>h) (fun _ _ h=>h.elim) (fun _ _ _ h=>by simp[aG]at h);obtain⟨v,h1,h2⟩:=hr.cell (.t t j k) x (by simp) hx;refine⟨v,h1,?_⟩;have:=hcell t j k x hx;cases x with
  |sc w=>exact h2
  |ro b sz es=>exact h2
  |_=>simp[DC.yu]at this
 have jm:∀id,¬aV I (fun _ _=>False) [] id:=fun id h=>by
  rcases h with⟨ℓ,h⟩| ⟨g,db,b,s,h, -⟩
  ·exact h
  ·simp[aG]at h
 have hfok:∃c',c<c'∧FOk P g cargs h c (.v (.one (.bool r))) h c':=by
  by_cases hmaps:∃id x,h.getM id=some x∧c≤id
  ·obtain⟨id,x,k1,k2⟩:=hmaps;unfold vF at hok;simp only[Bool.and_eq_true,beq_iff_eq]at hok;obtain⟨⟨⟨q1,q2⟩,q3⟩,q4⟩:=hok;split at q4
   ·rename_i code hcode;exact⟨c+1,by omega,⟨F,hF,by simpa using q3,by rw[hcode];rfl⟩,by omega,fun A U' w vs hs hc=>absurd (hs.maps id x k1).1 (hc id k2)⟩
   ·simp at q4
  ·have hrg:RG U h c ⟨init cargs 0,h,c⟩ (fU args 0) [] 0 gT:=⟨N,I,_,U,hU,fun id hid=>⟨hid,jm id⟩,Nat.le_refl _,r0,fun _ _=>rfl,fun _ _=>rfl,trivial⟩;have haw:=(hw U h c hU).go _ hrg;refine aCG hm hF hok (by rw[hlen];exact hle) (vs:=[.one (.bool r)]) (haw.mono fun x s hx=>?_);obtain⟨ts',H',n',γ',⟨k1,k2⟩,k3⟩:=hx;obtain⟨N',I',Fp',U',e1,e2,e3,e4,e5,e6, -⟩:=k3.ex;refine⟨k1,?_,fun id b hb=>by rw[e5 id (hr.hb id b hb)];exact hb,fun id x hx=>?_⟩
   ·rw[hres];simp only[mT,j7 e4 k2]
   ·have:id<c:=Nat.lt_of_not_le fun hle=>hmaps ⟨id,x,hx,hle⟩
    rw[e6 id this];exact hx
 obtain⟨c',hc',hfok⟩:=hfok;have r1:=((r0.prune [] [] (by simp)).put (d:=0) (x:=.v (.one (.sc (.bool r)))) (y:=.v (.one (.bool r))) (cQ rfl).t (ck (aj (by simp[DC.tags])))).more (U':=fun id=>U id∨c≤id∧id<c') fun _ h=>.inl h
 refine⟨_,h,c',hc',hfok,N,I,_,_,[],0,⟨rfl,rfl⟩,NG.refl ..,r1,?_⟩;refine⟨Nat.le_refl _,fun _ h=>.inl h,fun _ _=>rfl,fun id hid=>?_,fun _ _ _=>rfl,fun g db _ hg=>by simp[aG]at hg,fun _=>rfl⟩;exfalso;rcases hid with⟨ℓ,h⟩| ⟨g,db,b,s,h, -⟩
 ·cases ℓ with
  |t s j k=>simp only at h;split at h<;>exact h
  |h g i k=>exact h
 ·simp[aG]at h
end Go.Cq.D
namespace Go.Qm
open Go.Cq Go.Cq.D Go.RowKit
theorem yI{k k':Int×Int}{r:Bool×Bool}:∀{L:Tl},dq (ib k r L) k'=if k'=k then dq L k++[r]else dq L k':=by
 intro L;induction L with
 |nil=>
  simp only[ib,dq,List.find?_cons,List.find?_nil];by_cases e:k'=k
  ·subst e;simp
  ·simp[e,Ne.symm e]
 |cons p L ih=>
  obtain⟨q,l⟩:=p;simp only[ib];by_cases e1:q=k
  ·subst e1;rw[if_pos rfl];by_cases e:k'=q
   ·subst e;simp[dq]
   ·simp[dq,e,Ne.symm e]
  ·rw[if_neg e1];by_cases e2:q=k'
   ·subst e2;simp[dq,e1]
   ·have h1:dq ((q,l)::ib k r L) k'=dq (ib k r L) k':=by simp[dq,e2]
    have h2:dq ((q,l)::L) k'=dq L k':=by simp[dq,e2]
    have h3:dq ((q,l)::L) k=dq L k:=by simp[dq,e1]
    rw[h1,h2,h3,ih]
theorem aBP{k:Int×Int}{r:Bool×Bool}{n:Nat}:∀{L:Tl},(∀p,p∈L→p.2.length≤n)→∀p,p∈ib k r L→p.2.length≤n+1:=by
 intro L;induction L with
 |nil=>intro _ p hp;simp only[ib,List.mem_singleton]at hp;subst hp;simp
 |cons q L ih=>
  obtain⟨k',l⟩:=q;intro h p hp;simp only[ib]at hp;split at hp
  ·rcases List.mem_cons.1 hp with rfl|hp
   ·have:=h (k',l) (by simp);simp only[List.length_append,List.length_cons,List.length_nil]at this ⊢;omega
   ·have:=h p (by simp[hp]);omega
  ·rcases List.mem_cons.1 hp with rfl|hp
   ·have:=h (k',l) (by simp);omega
   ·exact ih (fun x hx=>h x (by simp[hx])) p hp
theorem nz{ar:List Area}{kd pl:Int}{x:Slot}:∀{l:List Slot}{i:Nat},gI ar kd pl i (l++[x])=gI ar kd pl i l++(if x.kd=kd∧x.pl=pl then [(x.ow,jT ar (bA ar ((i+l.length:Nat):Int)))]else []):=by
 intro l;induction l with
 |nil=>intro i;simp only[List.nil_append,gI,List.length_nil,Nat.add_zero]
 |cons y l ih=>intro i;simp only[List.cons_append,gI,ih,List.length_cons];rw[show i+1+l.length=i+(l.length+1) by omega];split<;>simp
theorem wA{kd pl:Int}{s:Space}:∀{l:List Space},tel kd pl (l++[s])=tel kd pl l++gI s.ar kd pl 0 s.sl:=by
 intro l;induction l with
 |nil=>simp[tel]
 |cons y l ih=>simp only[List.cons_append,tel,ih,List.append_assoc]
structure Tells(m:Mem)(L:Tl)(i j:Nat):Prop where
 eq:∀kd pl:Int,kd≠0→dq L (kd,pl)=tel kd pl (m.sp.take i)++(match m.sp[i]? with|some s=>gI s.ar kd pl 0 (s.sl.take j)|none=>[])
 len:∀p,p∈L→p.2.length≤16*i+j
theorem Tells.zero(m:Mem):Tells m [] 0 0:=by refine⟨fun kd pl _=>?_,fun p hp=>by simp at hp⟩;simp only[List.take_zero,tel,List.nil_append];cases m.sp[0]?<;>rfl
theorem Tells.skip{m:Mem}{L:Tl}{i j:Nat}(h:Tells m L i j)(hi:i<m.sp.length)(hj:j<m.sp[i].sl.length)(hk:m.sp[i].sl[j].kd=0):Tells m L i (j+1):=by refine⟨fun kd pl hkd=>?_,fun p hp=>by have:=h.len p hp;omega⟩;have:=h.eq kd pl hkd;rw[List.getElem?_eq_getElem hi]at this ⊢;simp only at this ⊢;rw[this,List.take_succ_eq_append_getElem hj,nz,if_neg (fun e=>hkd (e.1.symm.trans hk)),List.append_nil]
theorem Tells.add{m:Mem}{L:Tl}{i j:Nat}(h:Tells m L i j)(hi:i<m.sp.length)(hj:j<m.sp[i].sl.length):Tells m (ib (m.sp[i].sl[j].kd,m.sp[i].sl[j].pl) (m.sp[i].sl[j].ow,jT m.sp[i].ar (bA m.sp[i].ar (j:Int))) L) i (j+1):=by
 refine⟨fun kd pl hkd=>?_,fun p hp=>by have:=aBP h.len p hp;omega⟩;have:=h.eq kd pl hkd;rw[List.getElem?_eq_getElem hi]at this ⊢;simp only at this ⊢;rw[yI,List.take_succ_eq_append_getElem hj,nz];simp only[List.length_take,Nat.min_eq_left (Nat.le_of_lt hj),Nat.zero_add];by_cases e:m.sp[i].sl[j].kd=kd∧m.sp[i].sl[j].pl=pl
 ·obtain⟨e1,e2⟩:=e;subst e1;subst e2;rw[if_pos rfl,if_pos ⟨rfl,rfl⟩,this,List.append_assoc]
 ·rw[if_neg (fun e'=>e (by injection e' with a b;exact⟨a.symm,b.symm⟩)),if_neg e,List.append_nil,this]
theorem Tells.next{m:Mem}{L:Tl}{i j:Nat}(h:Tells m L i j)(hi:i<m.sp.length)(hj:m.sp[i].sl.length=j)(h16:j≤16):Tells m L (i+1) 0:=by refine⟨fun kd pl hkd=>?_,fun p hp=>by have:=h.len p hp;omega⟩;have:=h.eq kd pl hkd;rw[List.getElem?_eq_getElem hi]at this;simp only at this;rw[←hj,List.take_length]at this;rw[this,List.take_succ_eq_append_getElem hi,wA];cases m.sp[i+1]?<;>simp[gI]
theorem Tells.dead{m:Mem}{L:Tl}{i:Nat}(h:Tells m L i 0)(hi:i<m.sp.length)(hl:m.sp[i].sl.length=0):Tells m L (i+1) 0:=h.next hi hl (by omega)
theorem Tells.all{m:Mem}{L:Tl}{i:Nat}(h:Tells m L i 0)(hi:i=m.sp.length){kd pl:Int}(hkd:kd≠0):dq L (kd,pl)=tel kd pl m.sp:=by have:=h.eq kd pl hkd;subst hi;rw[List.take_length,List.getElem?_eq_none (Nat.le_refl _)]at this;simpa using this
def ez(l:List (Bool×Bool))(i j:Nat):Bool:=decide (i=j)||!((l[i]?.getD (false,false)).1&&!((l[i]?.getD (false,false)).2&&(l[j]?.getD (false,false)).2))
theorem aAZ{l:List (Bool×Bool)}(h:∀i j,i<l.length→j<l.length→ez l i j=true):alone l=true:=by
 unfold alone;by_cases h2:l.length<2
 ·simp[h2]
 ·simp only[h2,decide_false,Bool.false_or];by_cases ho:l.any (·.1)=true
  ·rw[ho,Bool.not_true,Bool.false_or];rw[Bool.not_eq_true',List.any_eq_false];intro y hy;obtain⟨x,hx,hx1⟩:=List.any_eq_true.1 ho;obtain⟨i,hi,rfl⟩:=List.getElem_of_mem hx;obtain⟨j,hj,rfl⟩:=List.getElem_of_mem hy;by_cases e:i=j
   ·subst e;obtain⟨j',hj',hne⟩:∃j',j'<l.length∧i≠j':=by
     by_cases e:i=0
     ·exact⟨1,by omega,by omega⟩
     ·exact⟨0,by omega,e⟩
    have:=h i j' hi hj';simp only[ez,hne,decide_false,Bool.false_or,List.getElem?_eq_getElem hi,List.getElem?_eq_getElem hj',Option.getD_some,hx1,Bool.true_and,Bool.not_not,Bool.and_eq_true]at this;simp[this.1]
   ·have:=h i j hi hj;simp only[ez,e,decide_false,Bool.false_or,List.getElem?_eq_getElem hi,List.getElem?_eq_getElem hj,Option.getD_some,hx1,Bool.true_and,Bool.not_not,Bool.and_eq_true]at this;simp[this.2]
  ·simp[ho]
theorem xd{l:List (Bool×Bool)}{i j:Nat}(hi:i<l.length)(hj:j<l.length)(h:ez l i j=false):alone l=false:=by
 simp only[ez,Bool.or_eq_false_iff,decide_eq_false_iff_not,List.getElem?_eq_getElem hi,List.getElem?_eq_getElem hj,Option.getD_some,Bool.not_eq_false',Bool.and_eq_true,Bool.not_eq_true',Bool.and_eq_false_iff]at h;obtain⟨h1,h2,h3⟩:=h;unfold alone;have hlen:¬l.length<2:=by omega
 have ho:l.any (·.1)=true:=List.any_eq_true.2 ⟨l[i],List.getElem_mem hi,h2⟩;have hs:l.any (!·.2)=true:=by
  rcases h3 with h3|h3
  ·exact List.any_eq_true.2 ⟨l[i],List.getElem_mem hi,by simp[h3]⟩
  ·exact List.any_eq_true.2 ⟨l[j],List.getElem_mem hj,by simp[h3]⟩
 simp[hlen,ho,hs]
theorem zr{ar:List Area}{x:Slot}:∀{l:List Slot}{i:Nat},x∈l→0< (gI ar x.kd x.pl i l).length:=by
 intro l;induction l with
 |nil=>intro i h;simp at h
 |cons y l ih=>
  intro i h;simp only[gI];rcases List.mem_cons.1 h with rfl|h
  ·rw[if_pos ⟨rfl,rfl⟩];simp
  ·have:=ih (i:=i+1) h;split
   ·simp
   ·exact this
theorem aBl{x:Slot}{s:Space}:∀{l:List Space},s∈l→x∈s.sl→0< (tel x.kd x.pl l).length:=by
 intro l;induction l with
 |nil=>intro h;simp at h
 |cons y l ih=>
  intro h hx;simp only[tel,List.length_append];rcases List.mem_cons.1 h with rfl|h
  ·have:=zr (ar:=s.ar) (i:=0) hx;omega
  ·have:=ih h hx;omega
theorem vj{kd:Int}{sp:List Space}:∀{l:List Int}{i:Nat},cn kd sp i l=true→∀(k:Nat) n,l[k]?=some n→g8 kd sp (i+k) n=true:=by
 intro l;induction l with
 |nil=>intro i _ k n h;simp at h
 |cons a l ih=>
  intro i h k n hk;simp only[cn,Bool.and_eq_true]at h;cases k with
  |zero=>cases hk;exact h.1
  |succ k=>rw[show i+(k+1)=i+1+k by omega];exact ih h.2 k n (by simpa using hk)
theorem aDP{m:Mem}(h:cY m=true){s:Space}(hs:s∈m.sp){x:Slot}(hx:x∈s.sl):(x.kd=1→inB x.pl 0 11=true∧0<m.ram.rf[x.pl.toNat]?.getD 0)∧(x.kd=2→inB x.pl 0 11=true∧0<m.swp.rf[x.pl.toNat]?.getD 0):=by
 simp only[cY,Bool.and_eq_true,decide_eq_true_eq]at h;obtain⟨⟨⟨⟨⟨⟨⟨⟨h1,h2⟩,h3⟩,h4⟩,h5⟩,h6⟩,h7⟩,h8⟩,h9⟩:=h;have hp:=List.all_eq_true.1 h7 s hs;simp only[Bool.and_eq_true]at hp;have hpl:=List.all_eq_true.1 hp.2 x hx;have key:∀{rf:List Int}{kd:Int},x.kd=kd→kd≠0→rf.length=12→cn kd m.sp 0 rf=true→inB x.pl 0 11=true∧0<rf[x.pl.toNat]?.getD 0:=by
  intro rf kd e hk hl hr;subst e;have hin:inB x.pl 0 11=true:=by simp only[gU,Bool.or_eq_true,decide_eq_true_eq]at hpl;exact hpl.resolve_left hk
  refine⟨hin,?_⟩;simp only[inB,Bool.and_eq_true,decide_eq_true_eq]at hin;have hlt:x.pl.toNat<rf.length:=by omega
  have:=vj hr x.pl.toNat _ (List.getElem?_eq_getElem hlt);simp only[g8,Bool.and_eq_true,decide_eq_true_eq,Nat.zero_add]at this;rw[List.getElem?_eq_getElem hlt,Option.getD_some,←this.1];have:=aBl hs hx;rw[show((x.pl.toNat:Nat):Int)=x.pl by omega];omega
 exact⟨fun e=>key e (by decide) h3 h8,fun e=>key e (by decide) h4 h9⟩
theorem qT{ar:List Area}:∀{l:List Slot}{i:Nat},cz ar i l=true→∀(j:Nat) x,l[j]?=some x→dC ar (i+j) x=true:=by
 intro l;induction l with
 |nil=>intro i _ j x h;simp at h
 |cons a l ih=>
  intro i h j x hj;simp only[cz,Bool.and_eq_true]at h;cases j with
  |zero=>cases hj;exact h.1
  |succ j=>rw[show i+(j+1)=i+1+j by omega];exact ih h.2 j x (by simpa using hj)
theorem sS{ar:List Area}:∀{l:List Slot}{i:Nat},(∀(j:Nat) x,l[j]?=some x→dC ar (i+j) x=true)→cz ar i l=true:=by
 intro l;induction l with
 |nil=>intro i _;rfl
 |cons a l ih=>intro i h;simp only[cz,Bool.and_eq_true];refine⟨by simpa using h 0 a rfl,ih fun j x hj=>?_⟩;have:=h (j+1) x (by simpa using hj);rwa[show i+(j+1)=i+1+j by omega]at this
theorem uP{m:Mem}(h:cY m=true){i:Nat}(hi:i<m.sp.length):bo m.sp[i]=true∧m.sp[i].sl.all gU=true:=by simp only[cY,Bool.and_eq_true,decide_eq_true_eq]at h;have hp:=List.all_eq_true.1 h.1.1.2 _ (List.getElem_mem hi);simp only[Bool.and_eq_true]at hp;exact hp
theorem wR{m:Mem}(h:cY m=true){i j:Nat}(hi:i<m.sp.length)(hj:j<m.sp[i].sl.length)(hlv:m.sp[i].lv=true):dC m.sp[i].ar j m.sp[i].sl[j]=true:=by have hs:=(uP h hi).1;rw[bo,if_pos hlv]at hs;simp only[Bool.and_eq_true]at hs;have:=qT hs.2.2 j _ (List.getElem?_eq_getElem hj);rwa[Nat.zero_add]at this
end Go.Qm
namespace Go.Cq.D
open Go.RowKit
inductive WV(W:World):PV→Value→Prop where
 |bool {b}:WV W (.sc (.bool b)) (.bool b)
 |int {k n}:WV W (.sc (.int k n)) (.int k n)
 |str {s:ByteArray}:WV W (.sc (.str s.data.toList)) (.string s)
 |nil {sz}:WV W (.sl sz []) (.slice none 0 0)
 |sl {sz:Nat} {es:List (List PV)} {ad:Addr} {cap:Nat} {vf:Nat→Nat→Value} (hsz:sz≠0) (hlen:es.length≤cap) (hrow:∀(i:Nat)(row:List PV),es[i]?=some row→row.length=sz) (hB:∃(B:Nat)(c:Array Value)(e:TypeId)(fr:Nat×Nat),W.heap[B]?=some (.cells c e fr))
   (fit:cap≠0→∃(blk off:Nat)(c:Array Value)(e:TypeId)(fr:Nat×Nat),ad=⟨blk,off,none⟩∧W.heap[blk]?=some (.cells c e fr)∧off+cap*sz≤c.size)
   (hv:∀(i:Nat)(row:List PV)(k:Nat)(p:PV),es[i]?=some row→row[k]?=some p→W.cell? (ad.add (i*sz+k))=some (vf i k))
   (hc:∀(i:Nat)(row:List PV)(k:Nat)(p:PV),es[i]?=some row→row[k]?=some p→WV W p (vf i k)):WV W (.sl sz es) (.slice (some ad) es.length cap)
structure VInv(W:World)(A:Nat→Nd)(h:Heap)(c:Nat):Prop where
 pos:0<c
 bd:(A 0).cap=W.heap.size
 blk:∀id b,h.get id=some b→id≠0∧id<c∧b.ro=true∧∃cs e fr,W.heap[(A id).blk]?=some (.cells cs e fr)∧BlkOk A (fun i=>i<c) (A id) b cs
 mp:∀id,h.getM id=none
def VN(c:Nat):Nat→Prop:=fun id=>id≠0∧id<c
def aDJ(W:World)(p:PV)(v:Value):Prop:=∀A h c,VInv W A h c→∃A' h' c' cv,VInv W A' h' c'∧c≤c'∧Ext A A' (fun i=>i<c)∧(∀id,id<c→h'.get id=h.get id)∧RoR h' (VN c') p cv∧aw A' (fun i=>i<c') cv v
section
variable{W:World}{A:Nat→Nd}{h:Heap}{c:Nat}
theorem RoR.up{h':Heap}{c':Nat}(hcc:c≤c')(hg:∀id,id<c→h'.get id=h.get id){p:PV}{cv:CV}(hr:RoR h (VN c) p cv):RoR h' (VN c') p cv:=hr.local fun id hid=>⟨hg id hid.2,hid.1,Nat.lt_of_lt_of_le hid.2 hcc⟩
theorem aBW{P:Nat→PV}{V:Nat→Value}:∀n,(∀j,j<n→aDJ W (P j) (V j))→∀A h c,VInv W A h c→∃A' h' c' cvs,VInv W A' h' c'∧c≤c'∧Ext A A' (fun i=>i<c)∧(∀id,id<c→h'.get id=h.get id)∧List.length cvs=n∧
  ∀j,j<n→∃cv,cvs[j]?=some cv∧RoR h' (VN c') (P j) cv∧aw A' (fun i=>i<c') cv (V j):=by
 intro n;induction n with
 |zero=>intro _ A h c hv;exact⟨A,h,c,[],hv,Nat.le_refl _,Ext.refl A _,fun _ _=>rfl,rfl,fun j hj=>by omega⟩
 |succ n ih=>
  intro hb A h c hv;obtain⟨A1,h1,c1,cvs,k1,k2,k3,k4,k5,k6⟩:=ih (fun j hj=>hb j (by omega)) A h c hv;obtain⟨A2,h2,c2,cv,m1,m2,m3,m4,m5,m6⟩:=hb n (by omega) A1 h1 c1 k1;refine⟨A2,h2,c2,cvs++[cv],m1,Nat.le_trans k2 m2,k3.trans m3 fun id hid=>Nat.lt_of_lt_of_le hid k2,fun id hid=>(m4 id (Nat.lt_of_lt_of_le hid k2)).trans (k4 id hid),by simp[k5],fun j hj=>?_⟩;by_cases e:j=n
  ·subst e;exact⟨cv,by rw[List.getElem?_append_right (by omega),k5];simp,m5,m6⟩
  ·obtain⟨cv',e1,e2,e3⟩:=k6 j (by omega);exact⟨cv',by rw[List.getElem?_append_left (by omega)];exact e1,e2.up m2 m4,jJ m3 (fun id hid=>Nat.lt_of_lt_of_le hid m2) e3⟩
theorem VInv.new(hv:VInv W A h c){b:Blk}{nd:Nd}(hro:b.ro=true){cs:Array Value}{e:TypeId}{fr:Nat×Nat}(hw:W.heap[nd.blk]?=some (.cells cs e fr))(hb:BlkOk A (fun i=>i<c) nd b cs):
  VInv W (Nat.upd A c nd) (h.set c (some b)) (c+1)∧Ext A (Nat.upd A c nd) (fun i=>i<c):=by
 have hext:Ext A (Nat.upd A c nd) (fun i=>i<c):=oS (U:=fun i=>i<c) (i:=c) (Nat.lt_irrefl c) nd;refine⟨⟨Nat.succ_pos _,by rw[hext 0 hv.pos];exact hv.bd,fun id b' hb'=>?_,hv.mp⟩,hext⟩;rw[Heap.aQ]at hb';split at hb'
 ·rename_i e1;subst e1;cases hb';rw[cw];exact⟨by have:=hv.pos;omega,Nat.lt_succ_self _,hro,cs,e,fr,hw,hb.ext hext fun i hi=>Nat.lt_succ_of_lt hi⟩
 ·obtain⟨k1,k2,k3,cs',e',fr',k4,k5⟩:=hv.blk id b' hb';rw[hext id k2];exact⟨k1,Nat.lt_succ_of_lt k2,k3,cs',e',fr',k4,k5.ext hext fun i hi=>Nat.lt_succ_of_lt hi⟩
def yc(sz:Nat)(l:List CV):Blk:=⟨sz,l.length,false,[.nilp],Tr.lf.wB 0 l⟩
theorem uB{sz o:Nat}{l:List CV}:(yc sz l).get o=l[o]?:=by
 unfold yc Blk.get;simp only;cases hb:Nat.blt o l.length with
 |true=>rw[Nat.blt_eq]at hb;simp only[cond_true,Tr.mV,Nat.zero_le,true_and,Nat.zero_add,hb,if_true,Nat.sub_zero];rw[List.getElem?_eq_getElem hb]
 |false=>
  have:¬o<l.length:=fun h=>by rw[←Nat.blt_eq]at h;rw[h]at hb;simp at hb
  simp only[cond_false];rw[List.getElem?_eq_none (by omega)]
theorem built{p:PV}{v:Value}(hw:WV W p v):aDJ W p v:=by
 induction hw with
 |bool=>intro A h c hv;exact⟨A,h,c,_,hv,Nat.le_refl _,Ext.refl A _,fun _ _=>rfl,.sc rfl,rfl⟩
 |int=>intro A h c hv;exact⟨A,h,c,_,hv,Nat.le_refl _,Ext.refl A _,fun _ _=>rfl,.sc rfl,rfl⟩
 |str=>intro A h c hv;exact⟨A,h,c,_,hv,Nat.le_refl _,Ext.refl A _,fun _ _=>rfl,.sc rfl,by simp[aw]⟩
 |nil=>intro A h c hv;exact⟨A,h,c,.nils 0,hv,Nat.le_refl _,Ext.refl A _,fun _ _=>rfl,.nil,rfl⟩
 | @sl sz es ad cap vf hsz hlen hrow hB fit hv hc ih=>
  intro A h c hinv;have hpos:∀j,j<es.length*sz→∃row p,es[j / sz]?=some row∧row[j % sz]?=some p:=fun j hj=>by obtain⟨p1,p2, -⟩:=jG hsz hj;have e1:=List.getElem?_eq_getElem p1;have e2:=hrow _ _ e1;exact⟨_,_,e1,List.getElem?_eq_getElem (by rw[e2];exact p2)⟩
  obtain⟨A1,h1,c1,cvs,k1,k2,k3,k4,k5,k6⟩:=aBW (W:=W) (P:=fun j=>((es[j / sz]?).bind (·[j % sz]?)).getD (.sc .nilp)) (V:=fun j=>vf (j / sz) (j % sz)) (es.length*sz) (fun j hj=>by obtain⟨row,p,e1,e2⟩:=hpos j hj;simp only[e1,Option.bind_some,e2,Option.getD_some];exact ih _ _ _ _ e1 e2) A h c hinv;obtain⟨nd,cs,e,fr,n1,n2,n3,n4,n5⟩:∃(nd:Nd)(cs:Array Value)(e:TypeId)(fr:Nat×Nat),W.heap[nd.blk]?=some (.cells cs e fr)∧nd.sz=sz∧nd.cap=cap∧nd.off+cap*sz≤cs.size∧(cap≠0→ad=⟨nd.blk,nd.off,none⟩):=by
   by_cases h0:cap=0
   ·obtain⟨B,cs,e,fr,q⟩:=hB;exact⟨⟨B,0,0,sz⟩,cs,e,fr,q,rfl,h0.symm,by rw[h0];simp,fun h=>absurd h0 h⟩
   ·obtain⟨blk,off,cs,e,fr,q1,q2,q3⟩:=fit h0;exact⟨⟨blk,off,cap,sz⟩,cs,e,fr,q2,rfl,rfl,q3,fun _=>q1⟩
  have hidx:∀{i k:Nat}{row:List PV}{p:PV},es[i]?=some row→row[k]?=some p→i*sz+k<es.length*sz∧(i*sz+k) / sz=i∧(i*sz+k) % sz=k:=by
   intro i k row p e1 e2;have a1:=(List.getElem?_eq_some_iff.1 e1).1;have a2:k<sz:=by rw[←hrow i row e1];exact(List.getElem?_eq_some_iff.1 e2).1
   have:(i+1)*sz≤es.length*sz:=Nat.mul_le_mul_right _ a1;rw[Nat.add_mul,Nat.one_mul]at this;refine⟨by omega,?_,?_⟩
   ·rw[Nat.add_comm,Nat.add_mul_div_right _ _ (by omega),Nat.div_eq_of_lt a2,Nat.zero_add]
   ·rw[Nat.add_comm,Nat.add_mul_mod_self_right,Nat.mod_eq_of_lt a2]
  have hok:BlkOk A1 (fun i=>i<c1) nd (yc sz cvs) cs:=by
   refine⟨by rw[n2,n3];exact n4,n2.symm,?_,fun h=>by simp[yc]at h,fun o x hx=>?_⟩
   ·show cvs.length≤_;rw[k5,n2,n3];exact Nat.mul_le_mul_right _ hlen
   ·rw[uB]at hx;have ho:o<es.length*sz:=by rw[←k5];exact(List.getElem?_eq_some_iff.1 hx).1
    obtain⟨cv,e1, -,e3⟩:=k6 o ho;rw[hx]at e1;cases e1;obtain⟨row,p,f1,f2⟩:=hpos o ho;have hcell:=hv _ _ _ _ f1 f2;obtain⟨-, -,p3⟩:=jG hsz ho;have hl0:es.length≠0:=fun h=>by rw[h]at ho;omega
    rw[p3,n5 (by omega),Addr.add_lit]at hcell;refine⟨_,?_,e3⟩;simpa [World.cell?,n1]using hcell
  obtain⟨m1,m2⟩:=k1.new (b:=yc sz cvs) (nd:=nd) rfl n1 hok;have hget:∀id,id<c1→(h1.set c1 (some (yc sz cvs))).get id=h1.get id:=fun id hid=>by rw[Heap.aQ,if_neg (by omega)]
  refine⟨_,_,c1+1,.sl c1 0 es.length (some cap),m1,by omega,k3.trans m2 fun id hid=>Nat.lt_of_lt_of_le hid k2,fun id hid=>(hget id (Nat.lt_of_lt_of_le hid k2)).trans (k4 id hid),?_,?_⟩
  ·refine .sl (cf:=fun i k=>(cvs[i*sz+k]?).getD .nilp) ⟨by have:=k1.pos;omega,Nat.lt_succ_self _⟩ ⟨⟨_,by rw[Heap.aQ,if_pos rfl],rfl,?_,fun i row k p e1 e2=>?_⟩,hsz,hrow⟩ (fun i row k p e1 e2=>?_)
   ·show(0+es.length)*sz≤cvs.length;rw[k5,Nat.zero_add];exact Nat.le_refl _
   ·obtain⟨q1, -, -⟩:=hidx e1 e2;rw[uB,Nat.zero_add];obtain⟨cv,f1, -⟩:=k6 _ q1;rw[f1];rfl
   ·obtain⟨q1,q2,q3⟩:=hidx e1 e2;obtain⟨cv,f1,f2, -⟩:=k6 _ q1;simp only[q2,q3,e1,Option.bind_some,e2,Option.getD_some]at f2;rw[f1,Option.getD_some];exact f2.up (Nat.le_succ _) hget
  ·refine⟨Nat.lt_succ_self _,ad,cap,rfl,rfl,?_,hlen,fun h0=>?_⟩
   ·rw[cw,n3,Nat.zero_add];exact Nat.le_refl _
   ·rw[cw,n5 h0,Nat.zero_mul,Nat.add_zero]
def pvC:DC→PV
 |.sc u=>.sc u
 |.ro _ sz es=>.sl sz es
 |_=>.sc .nilp
def oi:DC→Bool
 |.sc _=>true
 |.ro b _ _=>b
 |_=>false
def WDV(W:World):DV→Value→Prop
 |.one x,v=>oi x=true∧WV W (pvC x) v
 |.agg xs,v=>∃vs:Array Value,v= .agg vs∧vs.size=xs.length∧∀(j:Nat)(x:DC),xs[j]?=some x→oi x=true∧∃u,vs[j]?=some u∧WV W (pvC x) u
def wN(h:Heap)(c:Nat)(x:DV)(y:V1):Prop:=fj x y∧∀k q,x.cell k=some q→oi q=true∧∃cv,fE y k=some cv∧RoR h (VN c) (pvC q) cv
theorem wN.up{h':Heap}{c':Nat}(hcc:c≤c')(hg:∀id,id<c→h'.get id=h.get id){x:DV}{y:V1}(hr:wN h c x y):wN h' c' x y:=⟨hr.1,fun k q hq=>let⟨h1,cv,h2,h3⟩:=hr.2 k q hq;⟨h1,cv,h2,h3.up hcc hg⟩⟩
theorem aDv{x:DV}{v:Value}(hw:WDV W x v):∀A h c,VInv W A h c→∃A' h' c' y,VInv W A' h' c'∧c≤c'∧Ext A A' (fun i=>i<c)∧(∀id,id<c→h'.get id=h.get id)∧wN h' c' x y∧eA A' (fun i=>i<c') y v:=by
 intro A h c hv;cases x with
 |one x=>
  obtain⟨A1,h1,c1,cv,k1,k2,k3,k4,k5,k6⟩:=built hw.2 A h c hv;refine⟨A1,h1,c1,.one cv,k1,k2,k3,k4,⟨trivial,fun k q hq=>?_⟩,k6⟩;simp only[DV.cell]at hq;split at hq
  ·rename_i e;cases hq;exact⟨hw.1,cv,by simp[fE,e],k5⟩
  ·simp at hq
 |agg xs=>
  obtain⟨vs,rfl,hsz,hall⟩:=hw;obtain⟨A1,h1,c1,cvs,k1,k2,k3,k4,k5,k6⟩:=aBW (W:=W) (P:=fun j=>((xs[j]?).map pvC).getD (.sc .nilp)) (V:=fun j=>(vs[j]?).getD undef) xs.length (fun j hj=>by obtain⟨h1,u,h2,h3⟩:=hall j _ (List.getElem?_eq_getElem hj);simp only[List.getElem?_eq_getElem hj,Option.map_some,Option.getD_some,h2];exact built h3) A h c hv;refine⟨A1,h1,c1,.agg cvs,k1,k2,k3,k4,⟨k5,fun k q hq=>?_⟩,?_⟩
  ·have hq:xs[k]?=some q:=hq;have hlt:=(List.getElem?_eq_some_iff.1 hq).1;obtain⟨cv,e1,e2, -⟩:=k6 k hlt;simp only[hq,Option.map_some,Option.getD_some]at e2;exact⟨(hall k q hq).1,cv,e1,e2⟩
  ·refine⟨vs,rfl,by rw[hsz,k5],fun j cv hj=>?_⟩;have hlt:j<xs.length:=by rw[←k5];exact(List.getElem?_eq_some_iff.1 hj).1
   obtain⟨cv',e1, -,e3⟩:=k6 j hlt;rw[hj]at e1;cases e1;obtain⟨-,u,h2, -⟩:=hall j _ (List.getElem?_eq_getElem hlt);simp only[h2,Option.getD_some]at e3;exact⟨u,h2,e3⟩
theorem aDX:∀{das:List DV}{vs:List Value},das.length=vs.length→(∀(j:Nat) x v,das[j]?=some x→vs[j]?=some v→WDV W x v)→∀A h c,VInv W A h c→∃A' h' c' cargs,VInv W A' h' c'∧c≤c'∧Ext A A' (fun i=>i<c)∧(∀id,id<c→h'.get id=h.get id)∧
  List.length cargs=das.length∧∀(j:Nat) x v,das[j]?=some x→vs[j]?=some v→∃y,cargs[j]?=some y∧wN h' c' x y∧eA A' (fun i=>i<c') y v:=by
 intro das;induction das with
 |nil=>intro vs _ _ A h c hv;exact⟨A,h,c,[],hv,Nat.le_refl _,Ext.refl A _,fun _ _=>rfl,rfl,fun j x v hj=>by simp at hj⟩
 |cons x das ih=>
  intro vs hlen hall A h c hv;cases vs with
  |nil=>simp at hlen
  |cons v vs=>
   obtain⟨A1,h1,c1,y,k1,k2,k3,k4,k5,k6⟩:=aDv (hall 0 x v rfl rfl) A h c hv;obtain⟨A2,h2,c2,ys,m1,m2,m3,m4,m5,m6⟩:=ih (by simpa using hlen) (fun j x v h1 h2=>hall (j+1) x v (by simpa using h1) (by simpa using h2)) A1 h1 c1 k1;refine⟨A2,h2,c2,y::ys,m1,Nat.le_trans k2 m2,k3.trans m3 fun id hid=>Nat.lt_of_lt_of_le hid k2,fun id hid=>(m4 id (Nat.lt_of_lt_of_le hid k2)).trans (k4 id hid),by simp[m5],fun j x' v' e1 e2=>?_⟩;cases j with
   |zero=>simp only[List.getElem?_cons_zero,Option.some.injEq]at e1 e2;subst e1;subst e2;exact⟨y,rfl,k5.up m2 m4,kS m3 (fun id hid=>Nat.lt_of_lt_of_le hid m2) k6⟩
   |succ j=>exact m6 j x' v' (by simpa using e1) (by simpa using e2)
theorem VInv.sim(hv:VInv W A h c):Sim A h (fun i=>i<c) (Liv A h) W W where
 os:=rfl
 tape:=rfl
 output:=rfl
 size:=Nat.le_refl _
 old _ _ _:=rfl
 live id b hb:=by obtain⟨-,k2,k3,cs,e,fr,k4,k5⟩:=hv.blk id b hb;exact⟨k2,fun h=>by rw[k3]at h;simp at h,cs,e,fr,k4,fun h=>by rw[k3]at h;simp at h,k5⟩
 inj id id' b b' hb hb' _:=.inr ⟨(hv.blk id b hb).2.2.1,(hv.blk id' b' hb').2.2.1⟩
 maps id x hx:=by rw[hv.mp id]at hx;simp at hx
 minj id id' x x' hx:=by rw[hv.mp id]at hx;simp at hx
 vw:=⟨hv.pos,Nat.le_of_eq hv.bd,fun id b hb=>by obtain⟨-, -,k3,cs,e,fr,k4, -⟩:=hv.blk id b hb;rw[k3,hv.bd];exact⟨fun _=>(Array.getElem?_eq_some_iff.1 k4).1,fun _=>rfl⟩⟩
theorem VInv.aDO(hv:VInv W A h c)(i:Nat):¬Liv A h i:=by
 rintro(⟨id,b,hb,hro, -⟩| ⟨id,x,hx, -⟩)
 ·rw[(hv.blk id b hb).2.2.1]at hro;simp at hro
 ·rw[hv.mp id]at hx;simp at hx
theorem VInv.first(W:World):VInv W (fun _=>⟨0,0,W.heap.size,0⟩) ⟨.lf,.lf⟩ 1:=⟨Nat.one_pos,rfl,fun id b hb=>by simp[Heap.get,Tr.get]at hb,fun id=>by simp[Heap.getM,Tr.get]⟩
theorem VInv.rel(hv:VInv W A h c){das:List DV}{cargs:List V1}(_hlen:cargs.length=das.length)(ha:∀(j:Nat) x,das[j]?=some x→∃y,cargs[j]?=some y∧wN h c x y):
  R none (fun b id=>b=true∧VN c id) (fun _=>none) (fun _ _=>False) (fU das 0) [] 0 (init cargs 0) h (fun i=>i<c):=by
 have hcell:∀ℓ q,aa (fU das 0) [] ℓ=some q→oi q=true∧∃cv,bW (init cargs 0) h (fun _=>none) ℓ=some cv∧RoR h (VN c) (pvC q) cv:=fun ℓ q hq=>by
  cases ℓ with
  |h g i k=>simp[aa,aG]at hq
  |t s j k=>
   simp only[aa,Option.bind_eq_some_iff]at hq;obtain⟨x,h1,h2⟩:=hq;obtain⟨-,y,h3,rfl⟩:=gm h1;simp only[DT.cell]at h2;split at h2
   ·rename_i e;subst e;rw[Nat.sub_zero]at h3;obtain⟨z,h4, -,h6⟩:=ha s y h3;obtain⟨h7,cv,h8,h9⟩:=h6 k q h2;exact⟨h7,cv,by simp only[bW,kr (Nat.zero_le s),Nat.sub_zero,h4,Option.map_some,Option.bind_some,fC,if_true];exact h8,h9⟩
   ·simp at h2
 refine⟨fun t x hx=>?_,fun g db hg=>by simp[aG]at hg,fun ℓ q _ hq=>?_,fun ℓ q g hq hg=>?_,fun g db hg=>by simp[aG]at hg,fun g g' db db' id b s b' s' hg=>by simp[aG]at hg,fun ℓ g db id b s h=>h.elim,fun ℓ ℓ' id h=>h.elim,fun g db id b s _ hg=>by simp[aG]at hg,fun ℓ id _ h=>h,fun id b hb=>(hv.blk id b hb).2.1,fun id hid=>?_,fun id hid=>by simp at hid,fun id b hb _=>⟨⟨rfl,(hv.blk id b hb).1,(hv.blk id b hb).2.1⟩,fun h=>by simp at h⟩⟩
 ·obtain⟨-,y,h1,rfl⟩:=gm hx;rw[Nat.sub_zero]at h1;obtain⟨z,h2,h3, -⟩:=ha t y h1;exact⟨.v z,by rw[kr (Nat.zero_le t),Nat.sub_zero,h2];rfl,h3⟩
 ·obtain⟨h1,cv,h2,h3⟩:=hcell ℓ q hq;refine⟨cv,h2,?_⟩;have h3':RoR h (fun id=>true=true∧VN c id) (pvC q) cv:=h3.local fun id hid=>⟨rfl,rfl,hid⟩
  cases q with
  |sc u=>cases h3 with|sc hs=>exact⟨hs,rfl⟩
  |ro b sz es=>simp only[oi]at h1;subst h1;exact h3'
  |_=>simp[oi]at h1
 ·obtain⟨h1, -⟩:=hcell ℓ q hq;cases q<;>simp[oi,DC.tags]at h1 hg
 ·rcases hid with hid| ⟨ℓ,hid⟩
  ·exact hid.2.2
  ·exact hid.elim
end
structure Old(w w':World):Prop where
 os:w'.os=w.os
 output:w'.output=w.output
 size:w.heap.size≤w'.heap.size
 old:∀i:Nat,i<w.heap.size→w'.heap[i]?=w.heap[i]?
theorem bC.calls{P:Program}{f:FuncId}{das:List DV}(hc:bC P f das (.v (.one (.sc (.bool true))))){W:World}{vs:Array Value}(hlen:das.length=vs.size)(hw:∀(j:Nat) x v,das[j]?=some x→vs[j]?=some v→WDV W x v):
  Calls P f vs W fun e w'=>e= .returned (.bool true)∧Old W w':=by
 obtain⟨A,h,c,cargs,k1, -, -, -,k5,k6⟩:=aDX (W:=W) (das:=das) (vs:=vs.toList) (by simpa using hlen) (fun j x v h1 h2=>hw j x v h1 (by simpa using h2)) _ _ _ (VInv.first W);have ha:∀(j:Nat) x,das[j]?=some x→∃y v,cargs[j]?=some y∧vs[j]?=some v∧wN h c x y∧eA A (fun i=>i<c) y v:=fun j x hx=>by
  have hlt:j<vs.size:=by rw[←hlen];exact(List.getElem?_eq_some_iff.1 hx).1
  obtain⟨y,h1,h2,h3⟩:=k6 j x vs[j] hx (by simp[hlt]);exact⟨y,vs[j],h1,by simp[hlt],h2,h3⟩
 have hr:=k1.rel k5 fun j x hx=>let⟨y,_,h1,_,h3,_⟩:=ha j x hx;⟨y,h1,h3⟩
 obtain⟨r,h',c', -,⟨-, -,hfok⟩,N',I',Fp',res,H',n',⟨rfl, -⟩, -,r1, -⟩:=hc _ _ _ cargs h c _ (fun id hid=>hid) hr k5;have hres:r= .v (.one (.bool true)):=by
  obtain⟨y,e1,e2⟩:=r1.tsh 0 _ (by simp[an];rfl);simp only[look,Nat.beq_refl,cond_true,Option.some.injEq]at e1;subst e1;obtain⟨cv,e3,e4⟩:=r1.cell (.t 0 0 0) (.sc (.bool true)) (by simp) (by simp[aa,an,DT.cell,DV.cell]);cases r with
  |v y=>
   cases y with
   |one q=>simp only[bW,look,Nat.beq_refl,cond_true,Option.bind_some,fC,fE,if_true,Option.some.injEq]at e3;subst e3;rw[e4.2]
   |agg l=>simp[tSh,fj]at e2
  |tup l=>simp[tSh]at e2
  |gone=>simp[tSh]at e2
 subst hres;refine(hfok A _ W vs k1.sim (fun id hid h=>absurd h (Nat.not_lt.2 hid)) (by rw[k5,hlen]) fun j y hy=>?_).mono ?_
 ·have hlt:j<das.length:=by rw[←k5];exact(List.getElem?_eq_some_iff.1 hy).1
  obtain⟨y',v,e1,e2, -,e4⟩:=ha j _ (List.getElem?_eq_getElem hlt);rw[hy]at e1;cases e1;exact⟨v,e2,e4⟩
 ·rintro e w' ⟨v,A',U',rfl,hp,hv⟩;exact⟨by rw[show v= .bool true from hv],hp.sim.os,hp.sim.output,hp.sim.size,fun i hi=>hp.sim.old i hi (k1.aDO i)⟩
end Go.Cq.D
namespace Go.Cq.D
open Go.ChangeShapes Go.WideShapes Go.ChangeAt Go.RowKit
section
variable{H:Type}{enc:TypeId×Value→H}{P:Program}{W:World}{sp:Nat→Bool}{held:Bool}
theorem mN{a:Addr}{v:Value}(h:W.cell? a=some v):∃c e fr,W.heap[a.block]?=some (.cells c e fr)∧a.off<c.size:=by
 unfold World.cell? at h;split at h
 ·rename_i c e fr hc;split at h
  ·simp at h
  ·exact⟨c,e,fr,hc,(Array.getElem?_eq_some_iff.1 h).1⟩
 ·simp at h
theorem aCl(a:Addr)(n:Nat):(a.add n).block=a.block∧(a.add n).off=a.off+n:=by
 unfold Addr.add;split
 ·rename_i h;subst h;exact⟨rfl,rfl⟩
 ·exact⟨rfl,rfl⟩
theorem aDt{α:Type} [Inhabited α]{row:α→List PV}{good:α→Prop}{t e:TypeId}{sz:Nat}(ht:P.underlying t=some (.slice e))(hsz:P.cellsOf e=sz)(h0:sz≠0)(hE:∀n cs x,(∃(B:Nat)(c:Array Value)(e:TypeId)(fr:Nat×Nat),W.heap[B]?=some (.cells c e fr))→cs.length=sz→DataW.trod enc P W 0 (fun _=>true) held n e cs=some x→∃a,(row a).length=sz∧good a∧∀(k:Nat) p,(row a)[k]?=some p→∃v,cs[k]?=some v∧WV W p v){v:Value}{fuel:Nat}{x:DataW H×List MemPlace}(hB:∃(B:Nat)(c:Array Value)(e:TypeId)(fr:Nat×Nat),W.heap[B]?=some (.cells c e fr))(h:DataW.trod enc P W 0 (fun _=>true) held fuel t [v]=some x):∃l:List α,l.length≤maxLen∧(∀a,a∈l→good a)∧WV W (.sl sz (l.map row)) v:=by
 rcases DataW.trod_slice ht h with⟨h1, -⟩| ⟨a,len,cap,elems,rest,n, -,h1, -, -,h2,h3,h4,h5,h6, -⟩
 ·simp only[List.cons.injEq,and_true]at h1;subst h1;exact⟨[],Nat.zero_le _,by simp,.nil⟩
 ·simp only[List.cons.injEq,and_true]at h1;subst h1;obtain⟨h7,h8⟩:=h6 rfl;have rd:∀i,i<cap→∃cs x,cs.length=sz∧(∀k,k<sz→W.cell? (a.add (i*sz+k))=cs[k]?)∧DataW.trod enc P W 0 (fun _=>true) held n e cs=some x:=by
   intro i hi;have:∃y,(W.cells? 0 (a.add (i*P.cellsOf e)) (P.cellsOf e)).bind (DataW.trod enc P W 0 (fun _=>true) held n e)=some y:=by
    by_cases hl:i<len
    ·exact⟨_,(h5 i hl).trans (List.getElem?_eq_getElem (by omega))⟩
    ·have:=h8 (i-len) (by omega);rw[show len+(i-len)=i by omega]at this;exact⟨_,this.trans (List.getElem?_eq_getElem (by omega))⟩
   obtain⟨y,hy⟩:=this;rw[Option.bind_eq_some_iff]at hy;obtain⟨cs,hcs,hd⟩:=hy;obtain⟨-,k1,k2⟩:=World.cells?_some hcs;rw[hsz]at k1 k2;exact⟨cs,y,k1,fun k hk=>by rw[←Addr.add_add,←hsz];rw[hsz];exact k2 k hk,hd⟩
  have cellAt:∀i k,i<cap→k<sz→∃v,W.cell? (a.add (i*sz+k))=some v:=fun i k hi hk=>by obtain⟨cs,x,k1,k2, -⟩:=rd i hi;rw[k2 k hk];exact⟨_,List.getElem?_eq_getElem (by omega)⟩
  have hex:∀i,i<len→∃b,(row b).length=sz∧good b∧∀(k:Nat) p,(row b)[k]?=some p→∃v,W.cell? (a.add (i*sz+k))=some v∧WV W p v:=fun i hi=>by
   obtain⟨cs,x,k1,k2,k3⟩:=rd i (by omega);obtain⟨b,b1,b2,b3⟩:=hE n cs x hB k1 k3;refine⟨b,b1,b2,fun k p hp=>?_⟩;have hk:k<sz:=by rw[←b1];exact(List.getElem?_eq_some_iff.1 hp).1
   rw[k2 k hk];exact b3 k p hp
  let f:Nat→α:=fun i=>if hi:i<len then(hex i hi).choose else default
  have hf:∀i,i<len→(row (f i)).length=sz∧good (f i)∧∀(k:Nat) p,(row (f i))[k]?=some p→∃v,W.cell? (a.add (i*sz+k))=some v∧WV W p v:=fun i hi=>by simp only[f,hi,dif_pos];exact(hex i hi).choose_spec
  have hget:∀(i:Nat) r,(((List.range len).map f).map row)[i]?=some r→i<len∧r=row (f i):=fun i r hr=>by simp only[List.getElem?_map,Option.map_eq_some_iff]at hr;obtain⟨y,⟨j,hj,rfl⟩,rfl⟩:=hr;obtain⟨hlt,rfl⟩:=List.getElem?_eq_some_iff.1 hj;simp only[List.length_range]at hlt;simp only[List.getElem_range];exact⟨hlt,trivial⟩
  refine⟨(List.range len).map f,by simp;omega,fun b hb=>?_,?_⟩
  ·obtain⟨i,hi,rfl⟩:=List.mem_map.1 hb;exact(hf i (List.mem_range.1 hi)).2.1
  ·have hlen:(((List.range len).map f).map row).length=len:=by simp
   have key:WV W (.sl sz (((List.range len).map f).map row)) (.slice (some a) (((List.range len).map f).map row).length cap):=by
    refine .sl (vf:=fun i k=>(W.cell? (a.add (i*sz+k))).getD undef) h0 (by rw[hlen];exact h2) (fun i r hr=>?_) hB (fun hc=>?_) (fun i r k p hr hp=>?_) (fun i r k p hr hp=>?_)
    ·obtain⟨hi,rfl⟩:=hget i r hr;exact(hf i hi).1
    ·obtain⟨v0,e0⟩:=cellAt 0 0 (by omega) (by omega);have ha:a.add (0*sz+0)=a:=by simp[Addr.add]
     rw[ha]at e0;have hs:=World.cell?_spot e0;obtain⟨c,e',fr,q1, -⟩:=mN e0;obtain⟨v1,e1⟩:=cellAt (cap-1) (sz-1) (by omega) (by omega);obtain⟨c',e'',fr',q2,q3⟩:=mN e1;obtain⟨o1,o2⟩:=aCl a ((cap-1)*sz+(sz-1));rw[o1,q1]at q2;simp only[Option.some.injEq,Obj.cells.injEq]at q2;obtain⟨rfl, -, -⟩:=q2;rw[o2]at q3;refine⟨a.block,a.off,c,e',fr,by cases a;simp only at hs;subst hs;rfl,q1,?_⟩;have:cap*sz=(cap-1)*sz+sz:=by obtain⟨m,rfl⟩:=Nat.exists_eq_succ_of_ne_zero hc;simp[Nat.succ_mul]
     omega
    ·obtain⟨hi,rfl⟩:=hget i r hr;obtain⟨v,k1, -⟩:=(hf i hi).2.2 k p hp;rw[k1];rfl
    ·obtain⟨hi,rfl⟩:=hget i r hr;obtain⟨v,k1,k2⟩:=(hf i hi).2.2 k p hp;rw[k1];exact k2
   rw[hlen]at key;exact key
theorem hasB{t:TypeId}{base:Nat}{a:Addr}{len cap:Nat}(h:Cell.okWide P W .any base t (.slice (some a) len cap)):∃(B:Nat)(c:Array Value)(e:TypeId)(fr:Nat×Nat),W.heap[B]?=some (.cells c e fr):=by
 have key:∀e,Cell.ok P W .any base t (.slice (some a) len cap)→P.underlying t=some (.slice e)→∃(B:Nat)(c:Array Value)(e:TypeId)(fr:Nat×Nat),W.heap[B]?=some (.cells c e fr):=by
  intro e h hu;unfold Cell.ok at h;rw[hu]at h;obtain⟨-, -, -, -,row,cells,hs, -⟩:=h;unfold World.shape? at hs;split at hs
  ·rename_i c e' fr hc;exact⟨_,c,e',fr,hc⟩
  ·simp at hs
 cases hu:P.underlying t with
 |none=>simp[Cell.okWide,Cell.ok,hu]at h
 |some d=>
  cases d with
  |slice e=>exact key e (by simpa [Cell.okWide,hu]using h) hu
  |_=>simp[Cell.okWide,Cell.ok,hu]at h
theorem zu{W':World}(ho:Old W W'){T:TypeId→Prop}(K:Kids P T)(hsz:∀{t e:TypeId},T t→P.underlying t=some (.slice e)→0<P.cellsOf e){sp':Nat→Bool}{t:TypeId}{v:Value}{d:DataW H}{p:List MemPlace}(ht:T t)(h:DataW.Trod enc P W 0 (fun _=>true) true t v d p)(hlt:∀q∈p,q.block<W.heap.size)(hs:∀q∈p,sp' q.block=true):DataW.Trod enc P W' 0 sp' true t v d p:=by
 obtain⟨n,hn⟩:=h;refine⟨n,DataW.trod_stays K hsz (fun h=>by simp at h) ht hn (fun q hq=>?_) hs⟩;have hb:=ho.old _ (hlt q hq);cases q with
 |cell b off=>show W'.cell? ⟨b,off,none⟩=W.cell? ⟨b,off,none⟩;unfold World.cell?;rw[show W'.heap[(⟨b,off,none⟩:Addr).block]?=W.heap[(⟨b,off,none⟩:Addr).block]? from hb]
 |map b=>exact hb
theorem t5{W':World}(ho:Old W W'){T:TypeId→Prop}(K:Kids P T)(hsz:∀{t e:TypeId},T t→P.underlying t=some (.slice e)→0<P.cellsOf e){sp':Nat→Bool}:∀{ts:List TypeId}{vs:List Value}{ds:List (DataW H)}{p:List MemPlace},(∀t∈ts,T t)→
  DataW.TrodAll enc P W 0 (fun _=>true) true ts vs ds p→(∀q∈p,q.block<W.heap.size)→(∀q∈p,sp' q.block=true)→DataW.TrodAll enc P W' 0 sp' true ts vs ds p:=by
 intro ts;induction ts with
 |nil=>intro vs ds p _ h _ _;cases vs<;>cases ds<;>simp_all[DataW.TrodAll]
 |cons t ts ih=>
  intro vs ds p hT h hlt hs;cases vs with
  |nil=>simp[DataW.TrodAll]at h
  |cons v vs=>
   cases ds with
   |nil=>simp[DataW.TrodAll]at h
   |cons d ds=>obtain⟨p1,q1,h1,h2,rfl⟩:=h;exact⟨p1,q1,zu ho K hsz (hT t List.mem_cons_self) h1 (fun q hq=>hlt q (List.mem_append_left _ hq)) (fun q hq=>hs q (List.mem_append_left _ hq)),ih (fun t ht=>hT t (List.mem_cons_of_mem _ ht)) h2 (fun q hq=>hlt q (List.mem_append_right _ hq)) (fun q hq=>hs q (List.mem_append_right _ hq)),rfl⟩
theorem Old.kept{w w':World}(h:Old w w')(may:MemPlace→Prop):w.keptBut w' may:=by
 refine⟨h.os,h.output,fun i hi=>?_⟩;rw[h.old i hi];cases w.heap[i]? with
 |none=>rfl
 |some o=>cases o with
  |cells c t fr=>exact⟨rfl,rfl,rfl,fun _ _=>rfl⟩
  |map es clock=>exact .inr ⟨rfl,rfl⟩
  |_=>rfl
theorem Old.frozen{w w':World}(h:Old w w'){a:Addr}(ha:a.block<w.heap.size):w'.frozen? a=w.frozen? a:=by unfold World.frozen?;rw[h.old _ ha]
theorem uS{f:Func}{s:ChangeSpec}{apart fresh handsOn again:Bool}{W W':World}{args:Array Value}{v:Value}{ds gs:List (DataW H)}{before pa pv:List MemPlace}(hW:DataW.Whole enc P f.params.toList s.vars apart W args.toList ds gs before)(hres:∀(b:Nat)(sp:Nat→Bool)(hd:Bool),DataW.TrodAll enc P W' b sp hd f.resultTypes.toList (v.resultList f.resultTypes.size) (s.fn H (ds++gs)).results [])(hargs:∀sp:Nat→Bool,(∀p∈before,sp p.block=true)→DataW.TrodAll enc P W' 0 sp true f.params.toList args.toList (s.fn H (ds++gs)).args pa)(hvars:∀sp:Nat→Bool,(∀p∈before,sp p.block=true)→DataW.TrodVars enc P W' sp s.vars (s.fn H (ds++gs)).vars pv)(hps:before=pa++pv)(ho:Old W W')(hok:∀(j:Nat)(t:TypeId)(r:Value),f.resultTypes[j]?=some t→(v.resultList f.resultTypes.size)[j]?=some r→Value.okWide P W' .any 0 t r):
  s.post enc P f apart fresh handsOn again W args v W':=by
 have hold:∀p∈before,(fun b=>decide (b<W.heap.size)) p.block=true:=fun p hp=>by simpa using hW.lt p hp
 have hlt:∀p∈before,p.block<W.heap.size:=fun p hp=>hW.lt p hp
 refine⟨ds,gs,before,[],pa,pv,hW,hres _ _ _,hargs _ hold,hvars _ hold,World.keptBut_mono (fun p hp=>⟨hp,?_⟩) (ho.kept (· ∈before)),fun _=>?_⟩
 ·rw[hps,List.mem_append]at hp;exact Or.inr hp
 ·obtain⟨_,_,_,_,_,hz,hn⟩:=hW;refine⟨hok,_,_,([]++pa)++pv,⟨[]++pa,pv,trodAll_append (hargs _ (fun _ _=>rfl)) (hres _ _ _),hvars _ (fun _ _=>rfl),rfl,?_,?_⟩,?_⟩
  ·intro b off hp;have hm:MemPlace.cell b off∈before:=by rw[hps];simpa using hp
   rw[ho.frozen (hlt _ hm)];exact hz b off hm
  ·intro ha;have:=hn ha;rw[hps]at this;simpa using this
  ·intro p hp _;rw[hps];simpa using hp
end
end Go.Cq.D
namespace Go.Qm
open Go.Cq Go.Cq.D Go.RowKit
def aJ:List Int→Nat
 | []=>0
 |x::l=>if x=0 then 0 else aJ l+1
theorem me:∀{l:List Int}(h:aJ l<l.length),l[aJ l]=0:=by
 intro l;induction l with
 |nil=>intro h;simp at h
 |cons x l ih=>
  intro h;by_cases c:x=0
  ·simp[aJ,c]
  ·have e:aJ (x::l)=aJ l+1:=by simp[aJ,c]
   simp only[e,List.getElem_cons_succ];exact ih (by rw[e]at h;simpa using h)
theorem aA2:∀{l:List Int}{i:Nat}(h:i<l.length),i<aJ l→l[i]≠0:=by
 intro l;induction l with
 |nil=>intro i h;simp at h
 |cons x l ih=>
  intro i h h2;simp only[aJ]at h2;split at h2
  ·omega
  ·cases i with
   |zero=>simpa using ‹¬x=0›
   |succ i=>simpa using ih (by simpa using h) (by omega)
theorem kY{l:List Int}{i:Nat}(h:i<l.length)(h0:l[i]=0):aJ l≤i:=by
 rcases Nat.lt_or_ge i (aJ l)with c|c
 ·exact absurd h0 (aA2 h c)
 ·exact c
def aY(p:Pages)(k:Nat)(t:Str)(n:Int):Pages:=⟨p.tx.set k t,p.rf.set k n⟩
def aZ(kd pl:Int)(f:Slot→Slot)(sp:List Space):List Space:=sp.map fun s=>{s with sl:=s.sl.map fun x=>if x.kd=kd∧x.pl=pl then f x else x}
def dT(kd pl:Int)(sp:List Space):Bool:=sp.any fun s=>s.sl.any fun x=>decide (x.kd=kd∧x.pl=pl)&&x.us
def dp(x:Slot):Slot:={x with us:=false}
def bU(kd pl:Int)(x:Slot):Slot:={x with kd:=kd,pl:=pl}
def dk(m:Mem)(a:Nat):Mem:=⟨aY m.ram a [] 0,aY m.swp (aJ m.swp.rf) (m.ram.tx[a]?.getD []) (m.ram.rf[a]?.getD 0),aZ 1 a (bU 2 (aJ m.swp.rf)) m.sp,m.hd⟩
def dD(m:Mem):Mem:={m with hd:=(m.hd+1) % 12}
def dS(m:Mem)(pl:Int):Mem:={m with sp:=aZ 1 pl dp m.sp}
def clk(m:Mem)(but:Int):Mem ⊕ Mem:=
 if m.hd=but then .inl (dD m)
 else if dT 1 m.hd m.sp then .inl (dS (dD m) m.hd)
 else .inr (dk (dS (dD m) m.hd) m.hd.toNat)
def kE:List Slot→Nat
 | []=>0
 |x::l=>(if x.us then 1 else 0)+kE l
def lF:List Space→Nat
 | []=>0
 |s::l=>kE s.sl+lF l
def mu(m:Mem)(but:Int):Nat:=2*lF m.sp+if m.hd=but then 1 else 0
theorem zq{x:Slot}:(dp x).us=false:=rfl
theorem tT{kd pl:Int}:∀{l:List Slot},kE (l.map fun x=>if x.kd=kd∧x.pl=pl then dp x else x)≤kE l∧((l.any fun x=>decide (x.kd=kd∧x.pl=pl)&&x.us)=true→kE (l.map fun x=>if x.kd=kd∧x.pl=pl then dp x else x)<kE l):=by
 intro l;induction l with
 |nil=>simp[kE]
 |cons x l ih=>
  obtain⟨h1,h2⟩:=ih;simp only[List.map_cons,kE,List.any_cons,Bool.or_eq_true,Bool.and_eq_true,decide_eq_true_eq];by_cases c:x.kd=kd∧x.pl=pl
  ·simp only[c,and_self,if_true,zq];cases hu:x.us with
   |true=>simp only[if_true,Bool.false_eq_true,if_false];omega
   |false=>simp only[Bool.false_eq_true,if_false,Nat.zero_add,and_false,false_or];exact⟨h1,h2⟩
  ·simp only[c,if_false];refine⟨by omega,fun h=>?_⟩;rcases h with h|h
   ·exact absurd h.1 (by simp)
   ·have:=h2 h;omega
theorem wU{kd pl:Int}:∀{sp:List Space},lF (aZ kd pl dp sp)≤lF sp∧(dT kd pl sp=true→lF (aZ kd pl dp sp)<lF sp):=by
 intro sp;induction sp with
 |nil=>simp[lF,aZ,dT]
 |cons s l ih=>
  obtain⟨h1,h2⟩:=ih;obtain⟨k1,k2⟩:=tT (kd:=kd) (pl:=pl) (l:=s.sl);simp only[aZ,dT,List.map_cons,lF,List.any_cons,Bool.or_eq_true]at*;refine⟨by omega,fun h=>?_⟩;rcases h with h|h
  ·have:=k2 h;omega
  ·have:=h2 h;omega
theorem i6{m m':Mem}{but:Int}(h:clk m but= .inl m'):mu m' but<mu m but:=by
 unfold clk at h;split at h
 ·rename_i c;simp only[Sum.inl.injEq]at h;subst h;have:¬(m.hd+1) % 12=but:=by omega
  simp only[mu,dD,c,if_true];rw[c]at this;rw[if_neg this];omega
 ·rename_i c;split at h
  ·rename_i c2;simp only[Sum.inl.injEq]at h;subst h;have:=wU.2 c2;show 2*lF (aZ 1 m.hd dp m.sp)+(if(m.hd+1) % 12=but then 1 else 0)<2*lF m.sp+(if m.hd=but then 1 else 0);rw[if_neg c];split<;>omega
  ·simp at h
def dY(m:Mem)(but:Int):Mem:=match _h:clk m but with
 |.inl m'=>dY m' but
 |.inr m'=>m'
termination_by mu m but
decreasing_by exact i6 _h
theorem uV{m:Mem}{but:Int}:dY m but=match clk m but with
  |.inl m'=>dY m' but
  |.inr m'=>m':=by
 rw[dY];split<;>rename_i h<;>rw[h]
theorem gf{m m':Mem}{but:Int}(h:clk m but= .inl m'):dY m but=dY m' but:=by rw[uV,h]
theorem jP{m m':Mem}{but:Int}(h:clk m but= .inr m'):dY m but=m':=by rw[uV,h]
def bF(m:Mem)(but:Int):Option Mem:=if aJ m.ram.rf<m.ram.rf.length then some m else if aJ m.swp.rf<m.swp.rf.length then some (dY m but)else none
structure PgW(p:Pages):Prop where
 tx:p.tx.length=12
 rf:p.rf.length=12
 bd:∀x,x∈p.rf→0≤x∧x≤1000
def dn(p:Pages)(x:Slot):Prop:=∃k:Nat,x.pl=k∧k<12∧p.rf[k]?.getD 0≠0∧(p.tx[k]?.getD []).length=4
structure Wf(m:Mem):Prop where
 ram:PgW m.ram
 swp:PgW m.swp
 sp:m.sp.length=5
 hd:0≤m.hd∧m.hd≤11
 sl:∀s,s∈m.sp→s.sl.length≤16
 at1:∀s,s∈m.sp→∀x,x∈s.sl→x.kd=1→dn m.ram x
 at2:∀s,s∈m.sp→∀x,x∈s.sl→x.kd=2→dn m.swp x
 kd:∀s,s∈m.sp→∀x,x∈s.sl→x.kd=0∨x.kd=1∨x.kd=2
theorem d8{kd pl:Int}{f:Slot→Slot}{sp:List Space}{s':Space}(h:s'∈aZ kd pl f sp):∃s,s∈sp∧s'.sl.length=s.sl.length∧∀x',x'∈s'.sl→∃x,x∈s.sl∧x'=if x.kd=kd∧x.pl=pl then f x else x:=by simp only[aZ,List.mem_map]at h;obtain⟨s,hs,rfl⟩:=h;refine⟨s,hs,by simp,fun x' hx'=>?_⟩;simp only[List.mem_map]at hx';obtain⟨x,hx,rfl⟩:=hx';exact⟨x,hx,rfl⟩
theorem Wf.hand{m:Mem}(h:Wf m):Wf (dD m):=⟨h.ram,h.swp,h.sp,by have:=h.hd;simp only[dD];omega,h.sl,h.at1,h.at2,h.kd⟩
theorem Wf.calm{m:Mem}(h:Wf m)(pl:Int):Wf (dS m pl):=by
 have key:∀s',s'∈(dS m pl).sp→∃s,s∈m.sp∧s'.sl.length=s.sl.length∧∀x',x'∈s'.sl→∃x,x∈s.sl∧x'.kd=x.kd∧x'.pl=x.pl:=fun s' hs'=>by obtain⟨s,h1,h2,h3⟩:=d8 hs';refine⟨s,h1,h2,fun x' hx'=>?_⟩;obtain⟨x,h4,rfl⟩:=h3 x' hx';exact⟨x,h4,by split<;>rfl,by split<;>rfl⟩
 refine⟨h.ram,h.swp,by simp[dS,aZ,h.sp],h.hd,fun s' hs'=>?_,fun s' hs' x' hx' hk=>?_,fun s' hs' x' hx' hk=>?_,fun s' hs' x' hx'=>?_⟩
 ·obtain⟨s,h1,h2, -⟩:=key s' hs';rw[h2];exact h.sl s h1
 ·obtain⟨s,h1, -,h3⟩:=key s' hs';obtain⟨x,h4,h5,h6⟩:=h3 x' hx';obtain⟨k,e1,e2⟩:=h.at1 s h1 x h4 (by rw[←h5];exact hk);exact⟨k,by rw[h6];exact e1,e2⟩
 ·obtain⟨s,h1, -,h3⟩:=key s' hs';obtain⟨x,h4,h5,h6⟩:=h3 x' hx';obtain⟨k,e1,e2⟩:=h.at2 s h1 x h4 (by rw[←h5];exact hk);exact⟨k,by rw[h6];exact e1,e2⟩
 ·obtain⟨s,h1, -,h3⟩:=key s' hs';obtain⟨x,h4,h5, -⟩:=h3 x' hx';rw[h5];exact h.kd s h1 x h4
theorem PgW.take{p:Pages}(h:PgW p){k:Nat}{t:Str}{n:Int}(hn:0≤n∧n≤1000):PgW (aY p k t n):=by
 refine⟨by simp[aY,h.tx],by simp[aY,h.rf],fun x hx=>?_⟩;rcases List.mem_or_eq_of_mem_set hx with hx|rfl
 ·exact h.bd x hx
 ·exact hn
theorem dn.take{p:Pages}{x:Slot}(h:dn p x){k:Nat}{t:Str}{n:Int}(hk:x.pl≠k):dn (aY p k t n) x:=by
 obtain⟨j,e1,e2,e3,e4⟩:=h;have hne:k≠j:=fun e=>hk (by rw[e1,e])
 exact⟨j,e1,e2,by simpa [aY,List.getElem?_set_ne hne]using e3,by simpa [aY,List.getElem?_set_ne hne]using e4⟩
theorem dn.new{p:Pages}(h:PgW p){x:Slot}{k:Nat}{t:Str}{n:Int}(hk:k<12)(hx:x.pl=k)(ht:t.length=4)(hn:n≠0):dn (aY p k t n) x:=⟨k,hx,hk,by simp[aY,h.rf,hk,hn],by simp[aY,h.tx,hk,ht]⟩
theorem dn.ne{p:Pages}{x:Slot}(h:dn p x){k:Nat}(hk:p.rf[k]?.getD 0=0):x.pl≠k:=by
 obtain⟨j,e1,e2,e3, -⟩:=h;intro e;have:j=k:=by omega
 rw[this]at e3;exact e3 hk
theorem PgW.get{p:Pages}(h:PgW p){k:Nat}:0≤p.rf[k]?.getD 0∧p.rf[k]?.getD 0≤1000:=by
 cases e:p.rf[k]? with
 |none=>simp
 |some y=>simpa using h.bd y (List.mem_of_getElem? e)
theorem eV{l:List Int}(h:aJ l<l.length):l[aJ l]?.getD 0=0:=by rw[List.getElem?_eq_getElem h,me h];rfl
theorem Wf.wi{m:Mem}(h:Wf m){a:Nat}(ha:a<12)(hf:aJ m.swp.rf<12):Wf (dk m a)∧aJ (dk m a).ram.rf<12:=by
 have hz:m.swp.rf[aJ m.swp.rf]?.getD 0=0:=eV (by rw[h.swp.rf];exact hf);refine⟨⟨h.ram.take (by decide),h.swp.take h.ram.get,by simp[dk,aZ,h.sp],h.hd,fun s' hs'=>?_,fun s' hs' x' hx' hk=>?_,fun s' hs' x' hx' hk=>?_,fun s' hs' x' hx'=>?_⟩,?_⟩
 ·obtain⟨s,h1,h2, -⟩:=d8 hs';rw[h2];exact h.sl s h1
 ·obtain⟨s,h1, -,h3⟩:=d8 hs';obtain⟨x,h4,rfl⟩:=h3 x' hx';split at hk
  ·simp[bU]at hk
  ·rename_i c;rw[if_neg c];exact(h.at1 s h1 x h4 hk).take fun e=>c ⟨hk,e⟩
 ·obtain⟨s,h1, -,h3⟩:=d8 hs';obtain⟨x,h4,rfl⟩:=h3 x' hx';split at hk
  ·rename_i c;rw[if_pos c];obtain⟨k,e1,e2,e3,e4⟩:=h.at1 s h1 x h4 c.1;have:k=a:=by have:=c.2;omega
   subst this;exact dn.new h.swp hf rfl e4 e3
  ·rename_i c;rw[if_neg c];have ht:=h.at2 s h1 x h4 hk;exact ht.take (ht.ne hz)
 ·obtain⟨s,h1, -,h3⟩:=d8 hs';obtain⟨x,h4,rfl⟩:=h3 x' hx';split
  ·exact .inr (.inr rfl)
  ·exact h.kd s h1 x h4
 ·have:a< (dk m a).ram.rf.length:=by simp[dk,aY,h.ram.rf,ha]
  have:=kY this (by simp[dk,aY]);omega
theorem Wf.xh{m m':Mem}{but:Int}(h:Wf m)(hc:clk m but= .inl m'):Wf m'∧m'.ram=m.ram∧m'.swp=m.swp:=by
 unfold clk at hc;split at hc
 ·simp only[Sum.inl.injEq]at hc;subst hc;exact⟨h.hand,rfl,rfl⟩
 ·split at hc
  ·simp only[Sum.inl.injEq]at hc;subst hc;exact⟨h.hand.calm _,rfl,rfl⟩
  ·simp at hc
theorem Wf.aD4{m m':Mem}{but:Int}(h:Wf m)(hf:aJ m.swp.rf<12)(hc:clk m but= .inr m'):Wf m'∧aJ m'.ram.rf<12:=by
 unfold clk at hc;split at hc
 ·simp at hc
 ·split at hc
  ·simp at hc
  ·simp only[Sum.inr.injEq]at hc;subst hc;exact(h.hand.calm _).wi (by have:=h.hd;omega) hf
theorem Wf.dY{but:Int}:∀{m:Mem},Wf m→aJ m.swp.rf<12→Wf (dY m but)∧aJ (dY m but).ram.rf<12:=by
 have main:∀(k:Nat)(m:Mem),mu m but=k→Wf m→aJ m.swp.rf<12→Wf (Go.Qm.dY m but)∧aJ (Go.Qm.dY m but).ram.rf<12:=by
  intro k;induction k using Nat.strongRecOn with
  |_ k ih=>
   intro m hk h hf;cases hc:clk m but with
   |inl m'=>obtain⟨h1, -,h3⟩:=h.xh hc;rw[gf hc];exact ih _ (hk▸i6 hc) m' rfl h1 (by rw[h3];exact hf)
   |inr m'=>rw[jP hc];exact h.aD4 hf hc
 exact fun{m}=>main _ m rfl
theorem Wf.bF{m m':Mem}{but:Int}(h:Wf m)(hr:bF m but=some m'):Wf m'∧aJ m'.ram.rf<12:=by
 unfold Go.Qm.bF at hr;split at hr
 ·rename_i c;cases hr;exact⟨h,by rw[h.ram.rf]at c;exact c⟩
 ·split at hr
  ·rename_i c;cases hr;exact h.dY (by rw[h.swp.rf]at c;exact c)
  ·simp at hr
def alike(but:Int)(sp sp':List Space):Prop:=sp'.length=sp.length∧∀(i:Nat)(h:i<sp.length)(h':i<sp'.length),sp'[i].lv=sp[i].lv∧sp'[i].ar=sp[i].ar∧sp'[i].sl.length=sp[i].sl.length∧∀(j:Nat)(x:Slot),sp[i].sl[j]?=some x→(x.kd≠1∨x.pl=but)→sp'[i].sl[j]?=some x
theorem alike.refl{but:Int}{sp:List Space}:alike but sp sp:=⟨rfl,fun _ _ _=>⟨rfl,rfl,rfl,fun _ _ h _=>h⟩⟩
theorem alike.trans{but:Int}{a b c:List Space}(h1:alike but a b)(h2:alike but b c):alike but a c:=by
 refine⟨h2.1.trans h1.1,fun i h h'=>?_⟩;have hb:i<b.length:=by rw[h1.1];exact h
 obtain⟨a1,a2,a3,a4⟩:=h1.2 i h hb;obtain⟨b1,b2,b3,b4⟩:=h2.2 i hb h';exact⟨b1.trans a1,b2.trans a2,b3.trans a3,fun j x hx hk=>b4 j x (a4 j x hx hk) hk⟩
theorem nK{but pl:Int}{f:Slot→Slot}{sp:List Space}(hne:pl≠but):alike but sp (aZ 1 pl f sp):=by
 refine⟨by simp[aZ],fun i h h'=>?_⟩;simp only[aZ,List.getElem_map,List.length_map,List.getElem?_map,true_and];intro j x hx hk;rw[hx,Option.map_some,if_neg];rintro⟨c1,c2⟩;rcases hk with hk|hk
 ·exact hk c1
 ·exact hne (by rw[←c2,hk])
theorem vP{m m':Mem}{but:Int}(h:clk m but= .inl m'):alike but m.sp m'.sp:=by
 unfold clk at h;split at h
 ·simp only[Sum.inl.injEq]at h;subst h;exact alike.refl
 ·rename_i c;split at h
  ·simp only[Sum.inl.injEq]at h;subst h;exact nK c
  ·simp at h
theorem wY{m m':Mem}{but:Int}(hn:0≤m.hd)(h:clk m but= .inr m'):alike but m.sp m'.sp:=by
 unfold clk at h;split at h
 ·simp at h
 ·rename_i c;split at h
  ·simp at h
  ·simp only[Sum.inr.injEq]at h;subst h;refine(nK (f:=dp) c).trans ?_;simp only[dk,dS,dD,Int.toNat_of_nonneg hn];exact nK c
theorem t6{but:Int}:∀{m:Mem},Wf m→alike but m.sp (dY m but).sp:=by
 have main:∀(k:Nat)(m:Mem),mu m but=k→Wf m→alike but m.sp (dY m but).sp:=by
  intro k;induction k using Nat.strongRecOn with
  |_ k ih=>
   intro m hk h;cases hc:clk m but with
   |inl m'=>rw[gf hc];exact(vP hc).trans (ih _ (hk▸i6 hc) m' rfl (h.xh hc).1)
   |inr m'=>rw[jP hc];exact wY h.hd.1 hc
 exact fun{m}=>main _ m rfl
theorem bq{m m':Mem}{but:Int}(h:Wf m)(hr:bF m but=some m'):alike but m.sp m'.sp:=by
 unfold bF at hr;split at hr
 ·cases hr;exact alike.refl
 ·split at hr
  ·cases hr;exact t6 h
  ·simp at hr
def aK(m:Mem)(i j:Nat):Slot:=(m.sp[i]?.bind fun s=>s.sl[j]?).getD dQ
def jg:Str:=[0,0,0,0]
def bE(m:Mem)(i j:Nat):Option Mem:=
 if(aK m i j).kd=1 then some {m with sp:=aF m.sp i j {aK m i j with us:=true}}
 else(bF m (-1)).map fun m1=>
  if(aK m i j).kd=0 then{m1 with ram:=aY m1.ram (aJ m1.ram.rf) jg 1,sp:=aF m1.sp i j ⟨1,aJ m1.ram.rf,true,true⟩}
  else{m1 with
   ram:=aY m1.ram (aJ m1.ram.rf) (m1.swp.tx[(aK m i j).pl.toNat]?.getD []) (m1.swp.rf[(aK m i j).pl.toNat]?.getD 0)
   swp:=aY m1.swp (aK m i j).pl.toNat [] 0
   sp:=aF (aZ 2 (aK m i j).pl (bU 1 (aJ m1.ram.rf)) m1.sp) i j ⟨1,aJ m1.ram.rf,(aK m i j).ow,true⟩}
def fB(m:Mem)(i j:Nat):Option Mem:=
 if(aK m i j).ow=false∧1<m.ram.rf[(aK m i j).pl.toNat]?.getD 0 then(bF m (aK m i j).pl).map fun m1=>
  {m1 with
   ram:=cI (aY m1.ram (aJ m1.ram.rf) (m1.ram.tx[(aK m i j).pl.toNat]?.getD []) 1) (aK m i j).pl.toNat
   sp:=aF m1.sp i j {aK m i j with pl:=aJ m1.ram.rf,ow:=true}}
 else some {m with sp:=aF m.sp i j {aK m i j with ow:=true}}
theorem iO{sp:List Space}{i j:Nat}{y:Slot}{s':Space}(h:s'∈aF sp i j y):∃s,s∈sp∧s'.sl.length=s.sl.length∧∀x',x'∈s'.sl→x'∈s.sl∨x'=y:=by
 obtain⟨q,hq,rfl⟩:=List.getElem_of_mem h;simp only[aF,List.length_modify]at hq;refine⟨sp[q],List.getElem_mem hq,?_,fun x' hx'=>?_⟩
 ·simp only[aF,List.getElem_modify];split<;>simp
 ·simp only[aF,List.getElem_modify]at hx';split at hx'
  ·exact List.mem_or_eq_of_mem_set hx'
  ·exact .inl hx'
theorem Wf.set{m:Mem}(h:Wf m){i j:Nat}{y:Slot}(h1:y.kd=1→dn m.ram y)(h2:y.kd=2→dn m.swp y)(h3:y.kd=0∨y.kd=1∨y.kd=2):Wf {m with sp:=aF m.sp i j y}:=by
 refine⟨h.ram,h.swp,by simp[aF,h.sp],h.hd,fun s' hs'=>?_,fun s' hs' x hx hk=>?_,fun s' hs' x hx hk=>?_,fun s' hs' x hx=>?_⟩
 ·obtain⟨s,e1,e2, -⟩:=iO hs';rw[e2];exact h.sl s e1
 ·obtain⟨s,e1, -,e3⟩:=iO hs';rcases e3 x hx with e|rfl
  ·exact h.at1 s e1 x e hk
  ·exact h1 hk
 ·obtain⟨s,e1, -,e3⟩:=iO hs';rcases e3 x hx with e|rfl
  ·exact h.at2 s e1 x e hk
  ·exact h2 hk
 ·obtain⟨s,e1, -,e3⟩:=iO hs';rcases e3 x hx with e|rfl
  ·exact h.kd s e1 x e
  ·exact h3
theorem bV{m:Mem}{i j:Nat}(hi:i<m.sp.length)(hj:j<m.sp[i].sl.length):aK m i j=m.sp[i].sl[j]:=by simp[aK,hi,hj]
theorem Wf.slot{m:Mem}(h:Wf m){i j:Nat}(hi:i<m.sp.length)(hj:j<m.sp[i].sl.length):((aK m i j).kd=1→dn m.ram (aK m i j))∧((aK m i j).kd=2→dn m.swp (aK m i j)):=by rw[bV hi hj];exact⟨h.at1 _ (List.getElem_mem hi) _ (List.getElem_mem hj),h.at2 _ (List.getElem_mem hi) _ (List.getElem_mem hj)⟩
theorem Wf.take{m:Mem}(h:Wf m)(hf:aJ m.ram.rf<12){t:Str}{n:Int}(hn:0≤n∧n≤1000):Wf {m with ram:=aY m.ram (aJ m.ram.rf) t n}:=by have hz:m.ram.rf[aJ m.ram.rf]?.getD 0=0:=eV (by rw[h.ram.rf];exact hf);exact⟨h.ram.take hn,h.swp,h.sp,h.hd,h.sl,fun s hs x hx hk=>(h.at1 s hs x hx hk).take ((h.at1 s hs x hx hk).ne hz),h.at2,h.kd⟩
theorem eU{but:Int}{m m1:Mem}(ha:alike but m.sp m1.sp){i j:Nat}(hi:i<m.sp.length)(hj:j<m.sp[i].sl.length)(hk:(aK m i j).kd≠1∨(aK m i j).pl=but):∃(hi':i<m1.sp.length)(hj':j<m1.sp[i].sl.length),m1.sp[i].sl[j]=aK m i j∧aK m1 i j=aK m i j:=by
 have hi':i<m1.sp.length:=by rw[ha.1];exact hi
 obtain⟨-, -,a3,a4⟩:=ha.2 i hi hi';have e:=a4 j (aK m i j) (by rw[bV hi hj];exact List.getElem?_eq_getElem hj) hk;obtain⟨hj',e'⟩:=List.getElem?_eq_some_iff.1 e;exact⟨hi',hj',e',by rw[bV hi' hj',e']⟩
theorem Wf.we{but:Int}{m m1:Mem}(w:Wf m1)(ha:alike but m.sp m1.sp){i j:Nat}(hi:i<m.sp.length)(hj:j<m.sp[i].sl.length)(hk:(aK m i j).kd=2):dn m1.swp (aK m i j):=by obtain⟨hi',hj',e, -⟩:=eU ha hi hj (.inl (by omega));rw[←e];exact w.at2 _ (List.getElem_mem hi') _ (List.getElem_mem hj') (by rw[e];exact hk)
theorem Wf.jk{m m':Mem}(h:Wf m){i j:Nat}(hi:i<m.sp.length)(hj:j<m.sp[i].sl.length)(hr:bE m i j=some m'):Wf m':=by
 obtain⟨s1,s2⟩:=h.slot hi hj;unfold bE at hr;split at hr
 ·rename_i c;cases hr;exact h.set (fun _=>s1 c) (fun e=>by simp only at e;omega) (.inr (.inl c))
 ·rename_i c;simp only[Option.map_eq_some_iff]at hr;obtain⟨m1,hm,hr⟩:=hr;obtain⟨w,hf⟩:=h.bF hm;split at hr
  ·subst hr;exact(w.take hf (t:=jg) (n:=1) (by decide)).set (fun _=>dn.new w.ram hf rfl rfl (by decide)) (fun e=>by simp at e) (.inr (.inl rfl))
  ·rename_i c0;subst hr;have hk2:(aK m i j).kd=2:=by have:=h.kd _ (List.getElem_mem hi) _ (List.getElem_mem hj);rw[←bV hi hj]at this;omega
   obtain⟨f,e1,e2,e3,e4⟩:=w.we (bq h hm) hi hj hk2;have hz:m1.ram.rf[aJ m1.ram.rf]?.getD 0=0:=eV (by rw[w.ram.rf];exact hf);rw[e1,Int.toNat_natCast];have wt:Wf {m1 with ram:=aY m1.ram (aJ m1.ram.rf) (m1.swp.tx[f]?.getD []) (m1.swp.rf[f]?.getD 0),swp:=aY m1.swp f [] 0,sp:=aZ 2 f (bU 1 (aJ m1.ram.rf)) m1.sp}:=by
    refine⟨w.ram.take w.swp.get,w.swp.take (by decide),by simp[aZ,w.sp],w.hd,fun s' hs'=>?_,fun s' hs' x' hx' hk=>?_,fun s' hs' x' hx' hk=>?_,fun s' hs' x' hx'=>?_⟩
    ·obtain⟨s,h1,h2, -⟩:=d8 hs';rw[h2];exact w.sl s h1
    ·obtain⟨s,h1, -,h3⟩:=d8 hs';obtain⟨x,h4,rfl⟩:=h3 x' hx';split at hk
     ·rename_i c2;rw[if_pos c2];exact dn.new w.ram hf rfl e4 e3
     ·rename_i c2;rw[if_neg c2];have ht:=w.at1 s h1 x h4 hk;exact ht.take (ht.ne hz)
    ·obtain⟨s,h1, -,h3⟩:=d8 hs';obtain⟨x,h4,rfl⟩:=h3 x' hx';split at hk
     ·simp[bU]at hk
     ·rename_i c2;rw[if_neg c2];exact(w.at2 s h1 x h4 hk).take fun e=>c2 ⟨hk,e⟩
    ·obtain⟨s,h1, -,h3⟩:=d8 hs';obtain⟨x,h4,rfl⟩:=h3 x' hx';split
     ·exact .inr (.inl rfl)
     ·exact w.kd s h1 x h4
   exact wt.set (fun _=>dn.new w.ram hf rfl e4 e3) (fun e=>by simp at e) (.inr (.inl rfl))
end Go.Qm
namespace Go.Qm
open Go.Cq Go.Cq.D Go.RowKit
def dO(f:Slot→Slot)(sp:List Space)(i k:Nat):List Space:=sp.mapIdx fun i' s=>{s with sl:=s.sl.mapIdx fun j x=>if i'<i∨i'=i∧j<k then f x else x}
theorem dz{f:Slot→Slot}{sp:List Space}{i k:Nat}:(dO f sp i k).length=sp.length:=by simp[dO]
theorem fG{f:Slot→Slot}{sp:List Space}{i k q:Nat}(h:q<sp.length):(dO f sp i k)[q]'(by rw[dz];exact h)={sp[q]with sl:=sp[q].sl.mapIdx fun j x=>if q<i∨q=i∧j<k then f x else x}:=by simp[dO]
theorem zM{a b:Space}(h1:a.lv=b.lv)(h2:a.ar=b.ar)(h3:a.sl=b.sl):a=b:=by cases a;cases b;simp_all
theorem iG{f:Slot→Slot}{sp l:List Space}{i k:Nat}(hl:l.length=sp.length)(h:∀(q:Nat)(hq:q<sp.length)(hq':q<l.length),l[q].lv=sp[q].lv∧l[q].ar=sp[q].ar∧∀j,l[q].sl[j]?=(sp[q].sl[j]?).map fun x=>if q<i∨q=i∧j<k then f x else x):dO f sp i k=l:=by
 refine List.ext_getElem (by rw[dz,hl]) fun q h1 h2=>?_
 have hq:q<sp.length:=by rw[←hl];exact h2
 obtain⟨e1,e2,e3⟩:=h q hq h2;rw[fG hq];refine zM e1.symm e2.symm (List.ext_getElem? fun j=>?_);rw[e3,List.getElem?_mapIdx]
theorem ni{f:Slot→Slot}{sp:List Space}:dO f sp 0 0=sp:=iG rfl fun q hq _=>⟨rfl,rfl,fun j=>by simp⟩
theorem oh{f:Slot→Slot}{sp:List Space}{i:Nat}(hi:i<sp.length):dO f sp i sp[i].sl.length=dO f sp (i+1) 0:=by
 refine iG dz fun q hq hq'=>?_
 rw[fG hq];refine⟨rfl,rfl,fun j=>?_⟩;rw[List.getElem?_mapIdx];cases h:sp[q].sl[j]? with
 |none=>rfl
 |some x=>
  simp only[Option.map_some,Option.some.injEq];have hj:=(List.getElem?_eq_some_iff.1 h).1;by_cases c:q<i
  ·rw[if_pos (by omega),if_pos (by omega)]
  ·by_cases c2:q=i
   ·subst c2;rw[if_pos (by omega),if_pos (by omega)]
   ·rw[if_neg (by omega),if_neg (by omega)]
theorem pG{f:Slot→Slot}{sp:List Space}:dO f sp sp.length 0=sp.map fun s=>{s with sl:=s.sl.map f}:=by
 refine iG (by simp) fun q hq hq'=>?_
 simp only[List.getElem_map,true_and];intro j;rw[List.getElem?_map];congr 1;funext x;rw[if_pos (by omega)]
theorem qm{f:Slot→Slot}{sp:List Space}{i k:Nat}(hi:i<sp.length):((dO f sp i k)[i]'(by rw[dz];exact hi)).sl.length=sp[i].sl.length:=by rw[fG hi];simp
theorem xZ{f:Slot→Slot}{sp:List Space}{i k:Nat}(hi:i<sp.length)(hk:k<sp[i].sl.length):((dO f sp i k)[i]'(by rw[dz];exact hi)).sl[k]'(by rw[qm hi];exact hk)=sp[i].sl[k]:=by simp only[fG hi,List.getElem_mapIdx];rw[if_neg (by omega)]
theorem wT{f:Slot→Slot}{sp:List Space}{i k:Nat}(hi:i<sp.length)(hk:k<sp[i].sl.length):aF (dO f sp i k) i k (f sp[i].sl[k])=dO f sp i (k+1):=by
 refine(iG (by simp[aF,dz]) fun q hq hq'=>?_).symm;simp only[aF,List.getElem_modify];by_cases c:i=q
 ·subst c;simp only[if_true];rw[fG hi];refine⟨rfl,rfl,fun j=>?_⟩;simp only[List.getElem?_set,List.length_mapIdx,List.getElem?_mapIdx];by_cases c2:k=j
  ·subst c2;simp[hk]
  ·rw[if_neg c2];cases h:sp[i].sl[j]? with
   |none=>rfl
   |some x=>
    simp only[Option.map_some,Option.some.injEq];by_cases c3:j<k
    ·have c4:j<k+1:=by omega
     simp[c3,c4]
    ·have c4:¬j<k+1:=by omega
     simp[c3,c4]
 ·rw[if_neg c,fG hq];refine⟨rfl,rfl,fun j=>?_⟩;rw[List.getElem?_mapIdx];cases h:sp[q].sl[j]? with
  |none=>rfl
  |some x=>
   simp only[Option.map_some,Option.some.injEq];by_cases c3:q<i
   ·rw[if_pos (by omega),if_pos (by omega)]
   ·rw[if_neg (by omega),if_neg (by omega)]
theorem uW{f:Slot→Slot}{sp:List Space}{i k:Nat}(hi:i<sp.length)(hk:k<sp[i].sl.length)(hf:f sp[i].sl[k]=sp[i].sl[k]):dO f sp i k=dO f sp i (k+1):=by
 refine iG dz fun q hq hq'=>?_
 rw[fG hq];refine⟨rfl,rfl,fun j=>?_⟩;rw[List.getElem?_mapIdx];cases h:sp[q].sl[j]? with
 |none=>rfl
 |some x=>
  simp only[Option.map_some,Option.some.injEq];by_cases c3:q<i∨q=i∧j<k
  ·rw[if_pos (by omega),if_pos c3]
  ·rw[if_neg c3];by_cases c4:q=i∧j=k
   ·obtain⟨rfl,rfl⟩:=c4;rw[if_pos (by omega)];have:x=sp[q].sl[j]:=by rw[List.getElem?_eq_getElem hk]at h;exact(Option.some.inj h).symm
    rw[this,hf]
   ·rw[if_neg (by omega)]
def gJ(kd pl:Int)(sp:List Space)(i k:Nat):Bool:=(((sp[i]?.map (·.sl)).getD []).drop k).any (fun x=>decide (x.kd=kd∧x.pl=pl)&&x.us)||dT kd pl (sp.drop (i+1))
theorem sx{kd pl:Int}{sp:List Space}{i:Nat}(hi:i<sp.length):dT kd pl (sp.drop i)=gJ kd pl sp i 0:=by rw[List.drop_eq_getElem_cons hi,dT,List.any_cons];simp[gJ,dT,hi]
theorem sv{kd pl:Int}{sp:List Space}{i:Nat}(hi:i<sp.length):gJ kd pl sp i sp[i].sl.length=dT kd pl (sp.drop (i+1)):=by simp[gJ,hi]
theorem qP{kd pl:Int}{sp:List Space}{i k:Nat}(hi:i<sp.length)(hk:k<sp[i].sl.length):gJ kd pl sp i k=(decide (sp[i].sl[k].kd=kd∧sp[i].sl[k].pl=pl)&&sp[i].sl[k].us||gJ kd pl sp i (k+1)):=by simp only[gJ,List.getElem?_eq_getElem hi,Option.map_some,Option.getD_some];rw[List.drop_eq_getElem_cons hk,List.any_cons,Bool.or_assoc]
def fD:List Int→Nat
 | []=>0
 |x::l=>(if x=0 then 1 else 0)+fD l
theorem jN:∀{l:List Int},0<fD l↔aJ l<l.length:=by
 intro l;induction l with
 |nil=>simp[fD,aJ]
 |cons x l ih=>
  by_cases c:x=0
  ·simp[fD,aJ,c];omega
  ·simp only[fD,aJ,c,if_false,List.length_cons,Nat.zero_add];rw[ih];omega
theorem wb:∀{l:List Int},fD l≤l.length:=by
 intro l;induction l with
 |nil=>exact Nat.le_refl 0
 |cons x l ih=>simp only[fD,List.length_cons];split<;>omega
theorem qn{l:List Int}{i:Nat}(h:i<l.length):fD (l.take (i+1))=fD (l.take i)+if l[i]=0 then 1 else 0:=by
 rw[List.take_succ_eq_append_getElem h];have:∀(a:List Int)(x:Int),fD (a++[x])=fD a+if x=0 then 1 else 0:=by
  intro a x;induction a with
  |nil=>simp[fD]
  |cons y a ih=>simp only[List.cons_append,fD,ih];omega
 exact this _ _
end Go.Qm

