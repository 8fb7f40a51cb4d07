/- proof.Start on what Make returns, for queries that are not joins. -/
/- What Start makes of proofs; what Make returns; proofs in memory. -/
import Derived.Test.YtkdgffcfmgmemaaGreatDoorEz
import Derived.Test.YtkdgffcfmgmemaaGreatDoorPf2
import Derived.Test.YtkdgffcfmgmemaaGreatDoorEx29
set_option linter.unusedVariables false
set_option linter.unusedSimpArgs false
namespace Go.Proofs.YtkdgffcfmgmemaaGreatDoor
open Go.Proofs.Tryz
open Go Go.RowKit Gw
set_option maxRecDepth 100000
attribute [local irreducible] Gw.At Gw.Nx Gw.Ops
theorem Ra{P:Program}{env:Env}{d:Option Nat}{ty:TypeId}{pos:String}{af:Array Edge}{g:Option (Nat×Bool)}{x:Operand}{xT at_:TypeId}{ok:Bool}{v r:Value}(hx:∀a,ev a env x=v)(hr:∀w:World,(Instr.typeAssert v xT at_ ok).run P w= .ok r w):OpP P ⟨d,.typeAssert x xT at_ ok,ty,pos,af,g⟩ env [] r:=fun a w _=>by
 simp [execOp,hx a,hr w]
theorem pR(w:World):(Instr.typeAssert .nilIface 20 204 true).run Tryz.prog w= .ok (.tuple #[.nilIface,.bool false]) w:=by kernel_rfl
theorem WQ{u w:World}{H:Hp}{b:Nat}{o:Obj}(h:Has b o H)(hs:Sat u H w):w.heap[b]?=some o:=hs.get _ h.mem
theorem eF{rs:List AP}{q:QM}(hq:BP q)(h7:q.kd≠7):Hy q (Ci rs q.tb q.cl.toNat q.lo q.hi) []=Df rs q:=by
 rw [NS hq];unfold Df FE CZ;split
 · rfl
 · split
   · rfl
   · split
     · rfl
     · split
       · rfl
       · first
         |rfl
         |(split
           · rename_i h;exact absurd h h7
           · rfl)
theorem om{rs:List AP}(hs:BJ rs)(hn:rs.length≤2000)(hok:∀r∈rs,r.ok)(q:QM)(hq:BP q):Fu (EM rs q.tb.toNat q.cl.toNat q.lo q.hi)∧ED (EM rs q.tb.toNat q.cl.toNat q.lo q.hi)=Ci rs q.tb q.cl.toNat q.lo q.hi:=by
 obtain ⟨h1,h2,h3,_⟩:=id hq;refine ⟨KP hs hn hok q.tb.toNat q.cl.toNat (by omega) (by omega) q.lo q.hi h3.2.1,?_⟩;have h:=Q7 hs hn hok q.tb.toNat q.cl.toNat (by omega) (by omega) q.lo q.hi h3.2.1
 rwa [show((q.tb.toNat:Nat):Int)=q.tb by omega]at h
theorem iR{rs:List AP}{q:QM}(hq:BP q):(EM rs q.tb.toNat q.cl.toNat q.lo q.hi).tb=q.tb∧(EM rs q.tb.toNat q.cl.toNat q.lo q.hi).cl=q.cl∧(EM rs q.tb.toNat q.cl.toNat q.lo q.hi).lo=q.lo∧(EM rs q.tb.toNat q.cl.toNat q.lo q.hi).hi=q.hi:=by
 obtain ⟨h1,h2,_⟩:=id hq;exact ⟨show((q.tb.toNat:Nat):Int)=q.tb by omega,show((q.cl.toNat:Nat):Int)=q.cl by omega,rfl,rfl⟩
theorem Jt:Av Tryz.prog 70 #[.bool true] [] undef:=by
 refine Se func70 ntmps70 [0] ?_;intro u R;refine Zq<|Zg<|Zm Y<|Zv (Ca Y)<|Z0<|Zx ?_;refine Af Y (fun hb=>?_) (fun hb=>?_)
 ·
  cases hb
 refine AC ?_;refine Gz rfl results70 (by exact ⟨rfl,rfl⟩)
theorem nU(pk:Value):Nj Tryz.prog 69 #[pk] .returning .returning [] (fun H'=>H'=[]):=by
 refine VF (env1:=[(3,.bool false),(2,.nilIface),(8,.bool false),(7,.nilIface),(4,.tuple #[.nilIface,.bool false]),(6,.tuple #[.nilIface,.bool false]),(5,.nilIface),(0,pk)]) func69 rfl ntmps69 rfl results69 ?hrec_1 ?hwalk_1
 case hrec_1=>
  intro u R c cs Q hm hk;show fM _ _ [0,1,2,3,4,5,6] _ _ _ _ _
  have hcm:({c with mode:= .returning}:Frame)=c:=by cases c;simp only at hm;subst hm;rfl
  rw [hcm]at hk;refine Y1 rfl (by simp [recoverD,hm]) rfl ?_;refine OJ rfl (Ra Y pR) rfl ?_;refine OJ rfl (AJ Y) rfl ?_;refine OJ rfl (Cc Y rfl) rfl ?_;refine OJ rfl (Cc Y rfl) rfl ?_;refine OJ rfl (Ay Y) rfl ?_;refine OJ rfl (Ay Y) rfl ?_;intro a w hs;exact hk a w hs
 intro u R;refine Zb [0,2,3] ?_;refine Zq<|Zg<|Zm Y<|Zm Y ?_;refine Ai (t:=10) Y rfl (fun hb=>?_) (fun hb=>?_)
 ·
  cases hb
 refine A7 Y rfl<|A7 Y rfl<|A7 Y rfl<|Zv (AA Y Y)<|Z0<|Zx<|Di Y<|AC ?_;refine Gz rfl results69 (by rfl)
theorem oU(bk:Nat)(po:Value):Nj Tryz.prog 68 #[I5 bk,po] .returning .returning [[(bk,.cells #[.bool true] 4 (0,0))]] (fun H'=>H'=[[(bk,.cells #[.bool true] 4 (0,0))]]):=by
 refine X0 func68 rfl ntmps68 rfl ?_;intro u R;refine Zb [0,1] ?_;refine Zq<|Zg<|Zl isAgg4 Y ?_;refine Zv (Ca Y)<|Z0<|Zx ?_;refine Af Y (fun hb=>?_) (fun hb=>?_)
 ·
  cases hb
 refine AC ?_;refine Gz rfl results68 (by rfl)
structure RPZ where
 x:RP
 qr:Option Addr
 cr:Nat
 qp:Option Addr
 cp:Nat
 qt:Option Addr
 ct:Nat
def Gb(z:RPZ):List Value:=[I4 z.x.tb,I4 z.x.cl,I4 z.x.lo,I4 z.x.hi,I4 z.x.ct,I4 z.x.fi,.slice z.qr z.x.rows.length z.cr,.slice z.qp z.x.paths.length z.cp,.slice z.qt z.x.roots.length z.ct]
def RPZ.ok(M:List AR)(z:RPZ):Prop:=DV M (.slice z.qr z.x.rows.length z.cr) z.x.rows∧JZ M (.slice z.qp z.x.paths.length z.cp) z.x.paths∧Dn M (.slice z.qt z.x.roots.length z.ct) z.x.roots
theorem ol{M:List AR}{v:Value}{x:RP}(h:PP M v x):∃z:RPZ,z.x=x∧z.ok M∧v= .agg #[I4 z.x.tb,I4 z.x.cl,I4 z.x.lo,I4 z.x.hi,I4 z.x.ct,I4 z.x.fi,.slice z.qr z.x.rows.length z.cr,.slice z.qp z.x.paths.length z.cp,.slice z.qt z.x.roots.length z.ct]:=by
 obtain ⟨vr,vp,vt,rfl,h1,h2,h3⟩:=h;obtain ⟨qr,cr,rfl,h4⟩:=id h1;obtain ⟨qp,cp,rfl,h5⟩:=id h2;obtain ⟨qt,ct,rfl,h6⟩:=id h3;exact ⟨⟨x,qr,cr,qp,cp,qt,ct⟩,rfl,⟨h1,h2,h3⟩,rfl⟩
theorem RPZ.ok.mono{M M':List AR}{z:RPZ}(h:z.ok M)(hm:∀c∈M,c∈M'):z.ok M':=⟨h.1.mono hm,h.2.1.mono hm,h.2.2.mono hm⟩
theorem RPZ.ok.rp{M:List AR}{z:RPZ}(h:z.ok M):PP M (.agg #[I4 z.x.tb,I4 z.x.cl,I4 z.x.lo,I4 z.x.hi,I4 z.x.ct,I4 z.x.fi,.slice z.qr z.x.rows.length z.cr,.slice z.qp z.x.paths.length z.cp,.slice z.qt z.x.roots.length z.ct]) z.x:=⟨_,_,_,rfl,h⟩
def ZsU(M:List AR)(v:Value)(Z:List RPZ):Prop:=∃p cap,v= .slice p Z.length cap∧(Z.length≤maxLen∧Z.length≤cap)∧∀(i:Nat) (z:RPZ),Z[i]?=some z→z.ok M∧∃g off cur T zz,p=some ⟨g,off,none⟩∧(g,Obj.cells cur T zz)∈M∧off+i*9+9≤cur.size∧cur.extract (off+i*9) (off+i*9+9)=#[I4 z.x.tb,I4 z.x.cl,I4 z.x.lo,I4 z.x.hi,I4 z.x.ct,I4 z.x.fi,.slice z.qr z.x.rows.length z.cr,.slice z.qp z.x.paths.length z.cp,.slice z.qt z.x.roots.length z.ct]
def Gs(M:List AR)(v:Value)(L:List RP):Prop:=∃Z,ZsU M v Z∧Z.map RPZ.x=L
theorem ZsU.mono{M M':List AR}{v:Value}{Z:List RPZ}(h:ZsU M v Z)(hm:∀c∈M,c∈M'):ZsU M' v Z:=by
 obtain ⟨p,cap,e,hl,hg⟩:=h;refine ⟨p,cap,e,hl,fun i z hz=>?_⟩;obtain ⟨h2,g,off,cur,T,zz,h3,h4,h5⟩:=hg i z hz;exact ⟨h2.mono hm,g,off,cur,T,zz,h3,hm _ h4,h5⟩
theorem Gs.mono{M M':List AR}{v:Value}{L:List RP}(h:Gs M v L)(hm:∀c∈M,c∈M'):Gs M' v L:=by
 obtain ⟨Z,h1,h2⟩:=h;exact ⟨Z,h1.mono hm,h2⟩
theorem Yu{v:Value}{Z:List RPZ}{s MM:List AR}(h:BX 9 49 v Z.length (Z.flatMap Gb) s)(hn:Z.length≤maxLen)(hM:∀z∈Z,z.ok MM):ZsU (s++MM) v Z:=by
 obtain ⟨b,cap,rfl⟩:=h.form;refine ⟨b,cap,rfl,⟨hn,FD h⟩,fun i z hz=>⟨(hM z (tV hz)).mono (fun c hc=>tZ _ hc),?_⟩⟩;obtain ⟨g,cap',cur,zz,hv,rfl,hsz,hex⟩:=Ha h i (tH.1 hz).1;injection hv with hv1 hv2 hv3
 refine ⟨g,0,cur,49,zz,hv1,u6 _ (tq.2 rfl),by omega,?_⟩;rw [uL];apply vS.1;rw [hex];exact GN _ 9 (fun _=>rfl) Z i z hz
theorem iC{v:Value}{Z:List RPZ}{s MM:List AR}(h:BX 9 49 v Z.length (Z.flatMap Gb) s)(hn:Z.length≤maxLen)(hM:∀z∈Z,z.ok MM):Gs (s++MM) v (Z.map RPZ.x):=⟨Z,Yu h hn hM,rfl⟩
theorem Gs.form{M:List AR}{v:Value}{L:List RP}(h:Gs M v L):∃p cap,v= .slice p L.length cap∧L.length≤maxLen∧L.length≤cap:=by
 obtain ⟨Z,⟨p,cap,e,hl,_⟩,rfl⟩:=h;rw [tJ];exact ⟨p,cap,e,hl⟩
theorem Gs.at{M:List AR}{p:Option Addr}{n cap:Nat}{L:List RP}(h:Gs M (.slice p n cap) L){i:Nat}{x:RP}(hx:L[i]?=some x):∃z:RPZ,z.x=x∧z.ok M∧∃g off cur T zz,p=some ⟨g,off,none⟩∧(g,Obj.cells cur T zz)∈M∧off+i*9+9≤cur.size∧cur.extract (off+i*9) (off+i*9+9)=#[I4 z.x.tb,I4 z.x.cl,I4 z.x.lo,I4 z.x.hi,I4 z.x.ct,I4 z.x.fi,.slice z.qr z.x.rows.length z.cr,.slice z.qp z.x.paths.length z.cp,.slice z.qt z.x.roots.length z.ct]:=by
 obtain ⟨Z,⟨p',cap',e,_,hg⟩,rfl⟩:=h;injection e with e1 e2 e3
 subst e1;rw [uD]at hx;cases hz:Z[i]?with
 |none=>rw [hz]at hx;cases hx
 |some z=>
  rw [hz]at hx;injection hx with hx
  exact ⟨z,hx,hg i z hz⟩
theorem Gs.tail{M:List AR}{p:Option Addr}{n cap:Nat}{x:RP}{L:List RP}(h:Gs M (.slice p n cap) (x::L)):Gs M (.slice (ER p 1 cap 9) (n -1) (cap -1)) L:=by
 obtain ⟨Z,⟨p',cap',e,⟨hl,hlc⟩,hg⟩,hZ⟩:=h;injection e with e1 e2 e3
 subst e1 e2 e3
 match Z,hZ,hl,hlc,hg with
 |z::Z,hZ,hl,hlc,hg=>
  injection hZ with hZ1 hZ2
  rw [tY]at hl hlc;refine ⟨Z,⟨_,_,by rw [tY,vk],⟨by omega,by omega⟩,fun i y hy=>?_⟩,hZ2⟩;obtain ⟨h2,g,off,cur,T,zz,rfl,h4,h5,h6⟩:=hg (i+1) y (by simpa using hy);have hi:=(tH.1 hy).1
  refine ⟨h2,g,off+1*9,cur,T,zz,?_,h4,by omega,by rw [show off+1*9+i*9=off+(i+1)*9 by omega];exact h6⟩;unfold ER;rw [if_neg (by omega),vV,CJ]
def UK(q:QM)(r:AP):Int×Int×Int×Int:=(q.ot,0,Be r q.bq,Be r q.bq)
def VI(q:QM):Int×Int×Int×Int:=(q.tb,q.cl,q.lo,q.hi)
def RP.scan(x:RP):Int×Int×Int×Int:=(x.tb,x.cl,x.lo,x.hi)
noncomputable def NC(s:Int×Int×Int×Int):List RP→Option (List AP×List RP)
 |[]=>none
 |x::l=>if x.scan=s∧Fu x then some (ED x,l)else none
noncomputable def EX(q:QM):List AP→List RP→Option (List AP×List RP)
 |[],l=>some ([],l)
 |r::rs,l=>(NC (UK q r) l).bind fun a=>(EX q rs a.2).map fun b=>(a.1++b.1,b.2)
noncomputable def FY(q:QM)(L:List RP):Option CG:=
 if BP q then(NC (VI q) L).bind fun a=>if a.1.length≤100 then(if q.kd=7 then EX q a.1 a.2 else some ([],a.2)).bind fun b=>if b.2=[]then some (FE q a.1 b.1)else none else none else none
theorem QC{s:Int×Int×Int×Int}{L:List RP}{a:List AP×List RP}(h:NC s L=some a):∃x,L=x::a.2∧x.scan=s∧Fu x∧a.1=ED x:=by
 unfold NC at h;split at h
 · cases h
 · split at h
   · rename_i x l h9
     injection h with h
     subst h;exact ⟨x,rfl,h9.1,h9.2,rfl⟩
   · cases h
theorem Si{s:Int×Int×Int×Int}{x:RP}{l:List RP}(h1:x.scan=s)(h2:Fu x):NC s (x::l)=some (ED x,l):=if_pos ⟨h1,h2⟩
theorem Kj{q:QM}{r:AP}{rs:List AP}{l:List RP}{b:List AP×List RP}(h:EX q (r::rs) l=some b):∃a c,NC (UK q r) l=some a∧EX q rs a.2=some c∧b=(a.1++c.1,c.2):=by
 unfold EX at h;cases ha:NC (UK q r) l with
 |none=>rw [ha]at h;cases h
 |some a=>
  rw [ha,uy]at h;cases hc:EX q rs a.2 with
  |none=>rw [hc]at h;cases h
  |some c=>rw [hc]at h;injection h with h;exact ⟨a,c,rfl,hc,h.symm⟩
theorem NB{q:QM}:∀(rows:List AP) (i:Nat) (L:List RP) (b:List AP×List RP),i≤rows.length→EX q rows L=some b→∃o l',EX q (rows.take i) L=some (o,l')∧∃o2,EX q (rows.drop i) l'=some (o2,b.2)∧b.1=o++o2
 |rows,0,L,b,_,h=>⟨[],L,rfl,b.1,by rw [wO];exact h,rfl⟩
 |r::rows,i+1,L,b,hi,h=>by
  obtain ⟨a,c,h1,h2,rfl⟩:=Kj h;obtain ⟨o,l',h3,o2,h4,h5⟩:=NB rows i a.2 c (by simpa using hi) h2;refine ⟨a.1++o,l',?_,o2,by rw [List.drop_succ_cons];exact h4,by rw [h5,tO]⟩;rw [List.take_succ_cons];unfold EX;rw [h1,uy,h3];rfl
theorem Oi{q:QM}:∀(rows:List AP) (i:Nat) (r:AP) (L l':List RP) (o:List AP) (a:List AP×List RP),rows[i]?=some r→EX q (rows.take i) L=some (o,l')→NC (UK q r) l'=some a→EX q (rows.take (i+1)) L=some (o++a.1,a.2)
 |r9::rows,0,r,L,l',o,a,hr,h,ha=>by
  injection hr with hr
  subst hr;injection h with h
  injection h with h1 h2
  subst h1 h2;show EX q [r9] L=_
  unfold EX;rw [ha,uy];show some (a.1++[],a.2)=some ([]++a.1,a.2)
  rw [uR,vN]
 |r9::rows,i+1,r,L,l',o,a,hr,h,ha=>by
  rw [List.take_succ_cons]at h⊢;obtain ⟨a9,c9,h1,h2,h3⟩:=Kj h;injection h3 with h3 h4
  have:=Oi rows i r a9.2 c9.2 c9.1 a (by simpa using hr) h2 (by rw [←h4];exact ha);unfold EX;rw [h1,uy,this,h3,tO];rfl
theorem Ob{q:QM}{L:List RP}{r:CG}(h:FY q L=some r):∃x L2,L=x::L2∧BP q∧x.scan=VI q∧Fu x∧(ED x).length≤100∧((q.kd≠7∧L2=[]∧r=FE q (ED x) [])∨(q.kd=7∧∃o,EX q (ED x) L2=some (o,[])∧r=FE q (ED x) o)):=by
 unfold FY at h;split at h
 · rename_i hq
   cases ha:NC (VI q) L with
   |none=>rw [ha]at h;cases h
   |some a=>
    obtain ⟨x,h1,h2,h3,h4⟩:=QC ha;rw [ha,uy]at h;split at h
    · rename_i h5
      rw [h4]at h5 h;refine ⟨x,a.2,h1,hq,h2,h3,h5,?_⟩;split at h
      · rename_i h7
        cases hb:EX q (ED x) a.2 with
        |none=>rw [hb]at h;cases h
        |some b=>
         rw [hb,uy]at h;split at h
         · rename_i h8
           injection h with h
           exact .inr ⟨h7,b.1,by rw [←h8],h.symm⟩
         · cases h
      · rename_i h7
        rw [uy]at h;split at h
        · rename_i h8
          injection h with h
          exact .inl ⟨h7,h8,h.symm⟩
        · cases h
    · cases h
 · cases h
def Ec(rs:List AP)(q:QM):List RP:=EM rs q.tb.toNat q.cl.toNat q.lo q.hi::(if q.kd=7 then(CZ rs q).map fun r=>EM rs q.ot.toNat 0 (Be r q.bq) (Be r q.bq)else [])
theorem QB{rs:List AP}(hs:BJ rs)(hn:rs.length≤2000)(hok:∀r∈rs,r.ok){q:QM}(ho:0≤q.ot∧q.ot≤3):∀l:List AP,EX q l (l.map fun r=>EM rs q.ot.toNat 0 (Be r q.bq) (Be r q.bq))=some (l.flatMap fun r=>Ci rs q.ot 0 (Be r q.bq) (Be r q.bq),[])
 |[]=>rfl
 |r::l=>by
  have e:((q.ot.toNat:Nat):Int)=q.ot:=by omega
  have h1:=KP hs hn hok q.ot.toNat 0 (by omega) (by omega) (Be r q.bq) (Be r q.bq) (zX _);have h2:=Q7 hs hn hok q.ot.toNat 0 (by omega) (by omega) (Be r q.bq) (Be r q.bq) (zX _)
  have h3:=QB hs hn hok ho l;rw [e]at h2;unfold EX;rw [uo,Si (by show(((q.ot.toNat:Nat):Int),((0:Nat):Int),_,_)=(_,_,_,_);rw [e];rfl) h1,uy];simp only [h3,h2,vV,ui]
theorem eP{f:AP→Bool}{g:AP→List AP}{y:AP}(hf:∀a b,f a=true→f b=true→(∃r,a∈g r)→(∃r,b∈g r)→a=b):∀l:List AP,(∃r∈l,y∈g r)→f y=true→(l.flatMap g).find? f=some y:=fun l ⟨r,hr,hy⟩ h=>by
 cases hfi:(l.flatMap g).find? f with
 |none=>exact absurd h (by simpa using yc.1 hfi y (xK.2 ⟨r,hr,hy⟩))
 |some x=>
  have h1:=zM (p:=f) hfi;obtain ⟨r',_,hx⟩:=xK.1 (xZ hfi);rw [hf x y h1 h ⟨r',hx⟩ ⟨r,hy⟩]
theorem Fh{rs:List AP}(hs:BJ rs)(hn:rs.length≤2000)(hok:∀r∈rs,r.ok){q:QM}(hq:BP q)(hl:(CZ rs q).length≤100):FY q (Ec rs q)=some (Df rs q):=by
 have hk:=hq.2.2.2;have hc:=hq.2.1
 have ht:=hq.1;obtain ⟨h1,h2⟩:=om hs hn hok q hq;have h3:=iR (rs:=rs) hq
 have hsc:(EM rs q.tb.toNat q.cl.toNat q.lo q.hi).scan=VI q:=by unfold RP.scan VI;rw [h3.1,h3.2.1,h3.2.2.1,h3.2.2.2]
 unfold FY Ec;rw [if_pos hq,Si hsc h1,uy];simp only [h2];rw [show Ci rs q.tb q.cl.toNat q.lo q.hi=CZ rs q from rfl,if_pos hl];by_cases h7:q.kd=7
 · rw [if_pos h7,if_pos h7,QB hs hn hok (by omega),uy,if_pos rfl]
   unfold Df FE;simp only [if_neg (show¬q.kd=3 by omega),if_neg (show¬q.kd=4 by omega),if_neg (show¬q.kd=5 by omega),if_neg (show¬q.kd=6 by omega),if_pos h7];congr 2;unfold IM;have hin:∀k x,x∈Ci rs q.ot 0 k k↔x∈rs∧x.t=q.ot∧x.k=k:=fun k x=>by
    rw [(EO rs q.ot 0 k k).mem_iff,vW];unfold inR DR;rw [decide_eq_true_eq,if_pos rfl];constructor
    · rintro ⟨a,b,c,d⟩;exact ⟨a,b,by omega⟩
    · rintro ⟨a,b,c⟩;exact ⟨a,b,by omega,by omega⟩
   have hpq:∀r∈CZ rs q,IJ q ((CZ rs q).flatMap fun r=>Ci rs q.ot 0 (Be r q.bq) (Be r q.bq)) r=IJ q (I9 rs q.ot) r:=fun r hr=>by
    unfold IJ
    suffices e:DT q ((CZ rs q).flatMap fun r=>Ci rs q.ot 0 (Be r q.bq) (Be r q.bq)) (Be r q.bq)=DT q (I9 rs q.ot) (Be r q.bq) by rw [e]
    cases hp:DT q (I9 rs q.ot) (Be r q.bq)with
    |none=>
     unfold DT;refine yc.2 fun x hx h9=>?_;obtain ⟨r',_,hx⟩:=xK.1 hx;have h10:=(hin _ x).1 hx
     have h11:x.t=q.ot∧x.k=Be r q.bq:=by simpa using h9
     have:=(FK hs (q:=q) (Be r q.bq) x).2 ⟨h10.1,h11⟩;rw [hp]at this;cases this
    |some x=>
     have h9:=(FK hs (q:=q) (Be r q.bq) x).1 hp;unfold DT;refine eP (fun a b ha hb ⟨r1,h1⟩ ⟨r2,h2⟩=>?_) _ ⟨r,hr,(hin _ x).2 ⟨h9.1,h9.2⟩⟩ (decide_eq_true h9.2);have a1:=(hin _ a).1 h1
     have b1:=(hin _ b).1 h2;have a2:a.t=q.ot∧a.k=Be r q.bq:=by simpa using ha
     have b2:b.t=q.ot∧b.k=Be r q.bq:=by simpa using hb
     have a3:=(FK hs (q:=q) (Be r q.bq) a).2 ⟨a1.1,a2⟩;have b3:=(FK hs (q:=q) (Be r q.bq) b).2 ⟨b1.1,b2⟩
     rw [a3]at b3;injection b3
   have:∀l:List AP,(∀r∈l,IJ q ((CZ rs q).flatMap fun r=>Ci rs q.ot 0 (Be r q.bq) (Be r q.bq)) r=IJ q (I9 rs q.ot) r)→l.flatMap (IJ q ((CZ rs q).flatMap fun r=>Ci rs q.ot 0 (Be r q.bq) (Be r q.bq)))=l.flatMap (IJ q (I9 rs q.ot)):=fun l=>by
    induction l with
    |nil=>intro _;rfl
    |cons r l ih=>intro h;rw [ui,ui,h r (by simp),ih fun x hx=>h x (by simp [hx])]
   exact this _ hpq
 · rw [if_neg h7,if_neg h7,uy,if_pos rfl]
   rw [←eF hq h7,NS hq];rfl
end Go.Proofs.YtkdgffcfmgmemaaGreatDoor
