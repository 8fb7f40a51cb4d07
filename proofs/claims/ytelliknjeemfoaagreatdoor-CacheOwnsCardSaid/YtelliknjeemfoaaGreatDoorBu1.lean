/-
  The sort with a function lies in the program: laid at rows (printed by the kit, in plain words).
-/
import Derived.Test.YtelliknjeemfoaaGreatDoorMt2
set_option linter.unusedVariables false
set_option linter.unusedSimpArgs false
namespace Go.Proofs
open Go.Shelf
def Tryz.sortIv_ren:Go.Shelf.Ren:=⟨fun|6=>215|15=>106|14=>253|28=>168|29=>169|20=>292|21=>293|22=>294|23=>295|24=>296|25=>297|26=>298|27=>299|46=>316|47=>225|48=>226|49=>317|50=>318|57=>326|n=>n,fun|22=>268|24=>270|25=>322|3=>3|39=>203|0=>0|53=>288|55=>290|4=>4|46=>280|45=>279|50=>285|5=>5|9=>9|66=>331|70=>104|76=>371|77=>372|n=>n,fun|n=>n⟩
theorem Tryz.sortIv:Go.Proofs.SlLaysF0.n6 prog Tryz.sortIv_ren:={
 mixed:=by kernel_rfl
 f6:=⟨Tryz.f215.name,by decide,func215.trans (congrArg some AD)⟩
 f14:=⟨Tryz.f253.name,by decide,func253.trans (congrArg some AD)⟩
 f15:=func106.trans (congrArg some AD)
 f20:=⟨Tryz.f292.name,by decide,func292.trans (congrArg some AD)⟩
 f21:=⟨Tryz.f293.name,by decide,func293.trans (congrArg some AD)⟩
 f22:=⟨Tryz.f294.name,by decide,func294.trans (congrArg some AD)⟩
 f23:=⟨Tryz.f295.name,by decide,func295.trans (congrArg some AD)⟩
 f24:=⟨Tryz.f296.name,by decide,func296.trans (congrArg some AD)⟩
 f25:=⟨Tryz.f297.name,by decide,func297.trans (congrArg some AD)⟩
 f26:=⟨Tryz.f298.name,by decide,func298.trans (congrArg some AD)⟩
 f27:=⟨Tryz.f299.name,by decide,func299.trans (congrArg some AD)⟩
 f28:=func168.trans (congrArg some AD)
 f29:=func169.trans (congrArg some AD)
 f46:=⟨Tryz.f316.name,by decide,func316.trans (congrArg some AD)⟩
 f47:=func225.trans (congrArg some AD)
 f48:=func226.trans (congrArg some AD)
 f49:=⟨Tryz.f317.name,by decide,func317.trans (congrArg some AD)⟩
 f50:=⟨Tryz.f318.name,by decide,func318.trans (congrArg some AD)⟩
 f57:=⟨Tryz.f326.name,by decide,func326.trans (congrArg some AD)⟩
 t0:=ey
 a0:=isAgg0
 z0:=sizeOf0
 v0:=eA
 t3:=D3
 a3:=AE
 z3:=A6
 v3:=HX
 t4:=Mn
 a4:=GW
 z4:=FA
 v4:=Wr
 t5:=PA
 a5:=W4
 z5:=Lq
 v5:=To
 t9:=HO
 a9:=Kx
 z9:=HD
 v9:=Ks
 t22:=cV
 a22:=isAgg268
 z22:=sizeOf268
 v22:=zeroValue268
 t25:=underlying322
 a25:=isAgg322
 z25:=sizeOf322
 v25:=zeroValue322
 t39:=ZS
 a39:=isAgg203
 z39:=fS
 v39:=ir
 t45:=lf
 a45:=isAgg279
 z45:=sizeOf279
 v45:=mN
 t46:=lj
 a46:=isAgg280
 z46:=sizeOf280
 v46:=mS
 t50:=lR
 a50:=isAgg285
 z50:=sizeOf285
 v50:=mC
 t53:=W3
 a53:=K1
 z53:=HJ
 v53:=iu
 t55:=aE
 a55:=cD
 z55:=eE
 v55:=iv
 t66:=ln
 a66:=isAgg331
 z66:=sizeOf331
 v66:=mT
 t70:=lr
 a70:=isAgg104
 z70:=X2
 v70:=ar
 t76:=lx
 a76:=isAgg371
 z76:=sizeOf371
 v76:=mc
 t77:=lz
 a77:=isAgg372
 z77:=sizeOf372
 v77:=me}
end Go.Proofs
namespace Go.Proofs.YtelliknjeemfoaaGreatDoor
open Go.Proofs.Tryz
open Go Go.RowKit Gw
set_option maxRecDepth 100000
attribute [local irreducible] Gw.At Gw.Nx Gw.Ops
open Go.Sort Go.Shelf
theorem gT(a b:IvM)(W:A4):Calls prog 216 #[.agg #[I0 a.lo,I0 a.hi,I0 a.rc,I0 a.id],.agg #[I0 b.lo,I0 b.hi,I0 b.rc,I0 b.id]] W fun e B=>e= .returned (I0 (Lib.compareInt a.lo b.lo))/\∃q m,B=grow (W.drewN q) m:=by
 go_enter func216,ntmps216
 go_wp2
 all_goals (try simp only [H4]at*)
 all_goals go_ret
 all_goals refine ⟨?_,0,_,by rw [alloc_eq_grow,alloc_eq_grow,grow_grow];rfl⟩
 all_goals (simp [Lib.compareInt]<;>(try split)<;>(first|rfl|omega))
def CG(l:List IvM):List A2:=l.flatMap fun x=>[I0 x.lo,I0 x.hi,I0 x.rc,I0 x.id]
instance:Inhabited IvM:=⟨⟨0,0,0,0⟩⟩
def NE(x:IvM):List A2:=[I0 x.lo,I0 x.hi,I0 x.rc,I0 x.id]
def aT(a b:IvM):Int:=Lib.compareInt a.lo b.lo
theorem QY(l:List IvM):(CG l).length=l.length*4:=by
 induction l with
 |nil=>rfl
 |cons a l ih=>simp only [CG,IH,C2,EV]at ih⊢;rw [ih];simp;omega
theorem ltI(a b:IvM):ltOf aT a b=decide (a.lo<b.lo):=by
 unfold ltOf aT Lib.compareInt;apply decide_eq_decide.2;split<;>(try split)<;>omega
theorem yk:SWO (ltOf aT)where
 irrefl x:=by rw [ltI];simp
 trans x y z h1 h2:=by rw [ltI]at*;simp only [H4]at*;omega
 ntrans x y z h1 h2:=by rw [ltI]at*;simp only [PB]at*;omega
theorem bV(w:A2)(o:List IvM)(s:List A8)(hn:o.length<=1000000)(cO:BX 4 270 w o.length (CG o) s):
 BQ prog 215 #[w,.func (.func 216) #[] #[]] [s]
  (fun r H'=>r= .tuple #[]/\∃(s':List A8) (o':List IvM),o'.Perm o/\(o'.Pairwise fun a b=>a.lo<=b.lo)/\BX 4 270 w o'.length (CG o') s'/\H'=[s']):=by
 obtain ⟨ek,⟨rfl,h0,rfl⟩|⟨g,cap,cur,z,rfl,rfl,cu,af,J,d9,W⟩⟩:=cO
 · intro u R w0 Z
   have ho:o=[]:=OR h0;subst ho;have hN:=AnyF.slices_SortFunc_none Tryz.sortIv none 0 (.func (.func 216) #[] #[]) w0
   exact hN.mono (by
    rintro e w' ⟨rfl,rfl⟩;exact .inl ⟨_,_,V,⟨V,[],[],.refl _,.nil,Bi _ _,V⟩,Z⟩)
 · intro u R w0 Z
   have hb:=Z.get (g,.cells cur 270 z) B6;have hH:=TK (w:=w0) (g:=g) (cur:=cur) (e:=270) (z:=z) NE 4 (fun _=>rfl) o hb (by rw [J];omega) W d9
   have eg:∀(args:AM) (w:A4),(callFunc 216 args).run prog w= .ok (.enter 216 args) w:=enters_of func216 AD rfl;have O:CmpLays prog 216 #[] NE 4 aT g 0 o.toArray.size w0:=by
    intro m os dk gm x y;exact gT x y _
   have U:=AnyQ.slices_SortFunc Tryz.sortIv 4 isAgg270 RK NE (fun _=>rfl) (fun x v hv=>by simp [NE]at hv;rcases hv with rfl|rfl|rfl|rfl<;>rfl) aT yk 216 #[] g 0 cap o.toArray w0 eg O hH (Z.lt (p:=(g,.cells cur 270 z)) B6) LO;refine U.mono ?_;rintro e w' ⟨rfl,B,n,os,⟨ax,-,hpm⟩,hso,rfl⟩;have G:B.size=o.length:=by simpa using ax
   have hF:(flatK NE 4 B).toList=CG B.toList:=Nh NE 4 (fun _=>rfl) B.toList;have K:(flatK NE 4 B).size=o.length*4:=by rw [size_flatK,G]
   have I:B.toList.Perm o:=by
    have e1:B.extract 0 o.toArray.size=B:=by
     rw [show o.toArray.size=B.size by rw [G];simp];exact Array.extract_size
    rw [e1]at hpm;simpa using hpm
   have X:B.toList.length=o.length:=I.length_eq;refine .inl ⟨_,[[(g,.cells (putCells id 0 (flatK NE 4 B) cur) 270 z)]],V,⟨V,_,B.toList,I,?_,?_,V⟩,Z.sortedK NE B os⟩
   · rw [fx]
     intro i j hi hj bn;have h:=hso i j (C7 _) bn LO
     rw [ltI]at h;simp only [PB]at h;rw [getElem!_pos B i (by simpa using hi),getElem!_pos B j (by simpa using hj)]at h;simp only [Array.getElem_toList];omega
   · rw [X]
     refine ⟨by rw [QY,X],.inr ⟨g,cap,_,z,rfl,rfl,cu,af,by rw [MG];exact J,?_,by rw [MG];exact W⟩⟩;have h:=VF cur (flatK NE 4 B) (by rw [K,J];omega)
     rw [K,hF]at h;exact h
end Go.Proofs.YtelliknjeemfoaaGreatDoor
namespace Go.Proofs.YtelliknjeemfoaaGreatDoor
open Go.Proofs.Tryz
open Go Go.RowKit Gw
set_option maxRecDepth 100000
attribute [local irreducible] Gw.At Gw.Nx Gw.Ops
variable{l:List IvM}{i:Nat}{x:IvM}
theorem ZF(h:l[i]?=some x):(CG l)[i*4+1]?=some (I0 x.hi)/\(CG l)[i*4+2]?=some (I0 x.rc):=by
 induction l generalizing i with
 |nil=>simp at h
 |cons a l ih=>
  cases i with
  |zero=>simp at h;subst h;exact ⟨rfl,rfl⟩
  |succ i=>
   have m:l[i]?=some x:=by simpa using h
   rw [show(i+1)*4+1=i*4+1+4 by omega,show(i+1)*4+2=i*4+2+4 by omega];exact ih m
theorem ZE(h:l[i]?=some x)(r:Int):(CG l).set (i*4+2) (I0 r)=CG (l.set i {x with rc:=r}):=by
 induction l generalizing i with
 |nil=>simp at h
 |cons a l ih=>
  cases i with
  |zero=>simp at h;subst h;rfl
  |succ i=>
   have m:l[i]?=some x:=by simpa using h
   rw [show(i+1)*4+2=i*4+2+4 by omega];have:=ih m
   show _::_::_::_::(CG l).set (i*4+2) (I0 r)=_;rw [this];rfl
variable{cur:AM}{n:Nat}
theorem tX(B:cur.toList.take (n*4)=CG l)(h:l[i]?=some x):cur[i*4+1]?=some (I0 x.hi)/\cur[i*4+2]?=some (I0 x.rc):=by
 obtain ⟨m,h2⟩:=ZF h;rw [<-B,HU]at m h2;constructor
 · by_cases hc:i*4+1<n*4
   · rw [B0 hc]at m;simpa using m
   · rw [As hc]at m;cases m
 · by_cases hc:i*4+2<n*4
   · rw [B0 hc]at h2;simpa using h2
   · rw [As hc]at h2;cases h2
theorem tV(m:cur.toList.take (n*4)=CG l)(h:l[i]?=some x)(r:Int):(cur.setIfInBounds (i*4+2) (I0 r)).toList.take (n*4)=CG (l.set i {x with rc:=r}):=by
 rw [jz,List.take_set,m,ZE h]
theorem iV{g m:Nat}{z:Nat×Nat}(hn:l.length=n)(K:cur.toList.take (n*4)=CG l)(J:n<=m)(B:m<=maxLen)(G:cur.size=m*4)(I:Gc z cur.size):BX 4 270 (I2 g n m) l.length (CG l) [(g,.cells cur 270 z)]:=by
 subst hn;exact ⟨QY l,.inr ⟨g,m,cur,z,V,V,J,B,G,K,I⟩⟩
def Nb(x:IvM):Int×Int×Int:=(x.lo,x.hi,x.id)
def oF(l:List IvM)(i:Nat):Prop:=∀(j k:Nat) (x y:IvM),j<=k->k<i->l[j]?=some x->l[k]?=some y->x.hi<=y.rc
theorem Uw{r:Int}(h:oF l i)(hx:l[i]?=some x)(O:x.hi<=r)(K:∀y,0<i->l[i -1]?=some y->y.rc<=r):oF (l.set i {x with rc:=r}) (i+1):=by
 have I:=(C6.1 hx).1;intro j k a b J W m G;rw [Vc]at m G;rcases Ft k i with hki|hki
 · rw [As A0]at m G
   exact h j k a b J hki m G
 · obtain rfl:k=i:=by omega
   rw [B0 rfl,B0 I]at G;injection G with G
   subst G;by_cases B:k=j;· rw [B0 B,B0 I]at m;injection m with m;subst m;exact O
   · rw [As B]at m
     obtain ⟨y,hy⟩:∃y,l[k -1]?=some y:=⟨_,BE A0⟩;have U:=h j (k -1) a y A0 A0 m hy
     have h2:=K y A0 hy;show a.hi<=r
     omega
theorem TB{r:Int}(hx:l[i]?=some x):(l.set i {x with rc:=r}).map Nb=l.map Nb:=by
 apply O2;intro k;rw [FF,FF,Vc];by_cases m:i=k
 · subst m
   rw [B0 rfl,B0 (C6.1 hx).1,hx];rfl
 · rw [As m]
theorem eP(w:A2)(o:List IvM)(s:List A8)(hn:o.length<=1000000)(cO:BX 4 270 w o.length (CG o) s):BQ prog 152 #[w] [s] (fun r H'=>r=w/\∃(s':List A8) (l o':List IvM),o'.Perm o/\(o'.Pairwise fun a b=>a.lo<=b.lo)/\l.map Nb=o'.map Nb/\oF l l.length/\BX 4 270 w l.length (CG l) s'/\H'=[s']):=by
 have p8:=mL;obtain ⟨pw,cw,rfl⟩:=cO.form;refine Se func152 ntmps152 [0] ?_;intro u R;refine A3<|AH Y<|AN Y<|Zc [_,_] Y call215 Y V (bV _ o s hn cO) ?_;rintro _ _ ⟨_,⟨rfl,s1,o1,bn,l8,l5,rfl⟩,rfl⟩;have kv:=bn.length_eq
 refine A5<|B7 Y<|Zv (AR cV Y)<|Zm Y<|A5<|AP<|Zb [8,0,7] ?_;refine Ay (e0:=[(8,_)]) (fun m e H=>∃(i:Nat) (l:List IvM) (s2:List A8),m=o.length -i/\((i<=o.length/\l.length=o.length)/\l.map Nb=o1.map Nb/\oF l i/\BX 4 270 (.slice pw o.length cw) l.length (CG l) s2)/\e=[(8,I0 (i:Int))]/\H=[s2]) (by exact ⟨0,o1,s1,V,⟨⟨C7 _,kv⟩,V,fun j k x y _ h=>absurd h (gi k),l5⟩,V,V⟩) Wp ?_;rintro _ _ _ ⟨i,l,s2,rfl,⟨⟨o9,j3⟩,W,K,cu⟩,rfl,rfl⟩;refine A3<|Zv (Ar Y Y)<|A5<|Zq<|Ap Y (fun j5=>?_) (fun j5=>?_);·
  refine B4<|Zq<|AP<|AN Y<|AH Y<|Zq ?_;rcases cu with⟨o8,⟨ek,h0,rfl⟩|⟨g,cap,cur,z,ek,rfl,ow,Z,af,d9,ax⟩⟩
  · omega
  injection ek with e1 e2 e3
  subst e1 e3;obtain ⟨x,hx⟩:∃x,l[i]?=some x:=⟨_,BE A0⟩;have gq:=tX d9 hx
  refine Zg<|Zm Y<|Zm Y<|Zm Y<|Zm Y<|Ba (AZ cV RK Y Y A0)<|Zv (Ai (off:=1) ao rfl rfl A6 Y)<|Zl AE Y (hv:=by exact (by rw [DP];exact gq.1)) ?_;refine Ba (AZ cV RK Y Y A0)<|Zv (Ai (off:=2) ao V rfl A6 Y)<|Xe (Zs A6 Y Y V (hi:=by omega) (hz:=by exact ax)) ?_;refine Z0<|Zn [0,3,7,8] ?_;refine Zx<|Zq ?_;obtain ⟨U,G⟩:∃U,U=cur.setIfInBounds (0+i*4+2) (I0 x.hi):=⟨_,rfl⟩;rw [<-G];have B:U.toList.take (l.length*4)=CG (l.set i {x with rc:=x.hi}):=by rw [G,DP];exact tV d9 hx x.hi
  have I:U.size=cw*4:=by rw [G,US];exact af
  have J:Gc z U.size:=by rw [I,<-af];exact ax
  have X:(l.set i {x with rc:=x.hi})[i]?=some {x with rc:=x.hi}:=by rw [Vc,B0 rfl,B0 A0]
  have gy:=tX B X;refine Zg<|Zm Y<|Zv (Df (n:=0) Y Y)<|A5<|Ap Y (fun gm=>?_) (fun gm=>?_);·
   obtain ⟨y,hy⟩:∃y,l[i -1]?=some y:=⟨_,BE A0⟩;have l9:(l.set i {x with rc:=x.hi})[i -1]?=some y:=by rw [Vc,As A0];exact hy
   have ic:=tX B l9;refine Aw (n:=17) (0::0::0::0::12::28::60::0::0::256::896::1920::3968::8188::16383::32767::65535::[]) 65536 AD AD rfl<|A1 0 rfl (AQ Y)<|A1 1 rfl (AQ Y)<|A1 2 rfl (AQ Y)<|A1 3 rfl (AQ Y)<|A1 4 rfl (AZ cV RK Y Y A0)<|A1 5 rfl (Ai (off:=2) ao rfl rfl A6 Y)<|Bk 6 rfl AE Y (hv:=by exact (by rw [DP];exact gy.2)) ?_;refine A1 7 V (AQ Y)<|A1 8 V (AQ Y) ?_
   (refine FB (D':=1023) 9 (CQ (n:=1) Y Y ?_ ?_) ?_;(focus (omega));(focus (omega)))
   refine A1 10 rfl (AZ cV RK Y Y A0)<|A1 11 rfl (Ai (off:=2) ao rfl rfl A6 Y)<|Bk 12 rfl AE Y (hv:=by exact (by rw [DP];exact ic.2)) ?_;refine A1 13 V (Pq Y Y)<|A1 14 V (AZ cV RK Y Y A0)<|A1 15 V (Ai (off:=2) ao V rfl A6 Y)<|Zz (l:=[16])<|C0 [false,false] [] V rfl (Zs A6 Y Y V (hi:=by omega) (hz:=by exact J)) ?_ (fun _ _ h=>h.elim) Am;rintro _ _ ⟨rfl,rfl⟩;refine CA<|Ao<|Zn [0,7,8] ?_;refine A9<|Zx<|E6 Y Y Y<|DM (e:=[(8,_)]) (h:=by exact ⟨i+1,(l.set i {x with rc:=x.hi}).set i {x with rc:=max x.hi y.rc},[(g,.cells (U.setIfInBounds (0+i*4+2) (I0 (max x.hi y.rc))) 270 z)],rfl,⟨⟨by omega,by simp;omega⟩,by rw [TB X,TB hx];exact W,by rw [List.set_set];exact Uw K hx A0 (fun y2 _ O=>by rw [hy]at O;injection O with O;rw [<-O];omega),iV LO (by rw [DP,e2];exact tV B X _) A0 Z (by rw [US];exact I) (by rw [US];exact J)⟩,rfl,rfl⟩)
  refine AC<|A9<|Zx<|E6 Y Y Y<|DM (e:=[(8,_)]) (h:=by exact ⟨i+1,l.set i {x with rc:=x.hi},[(g,.cells U 270 z)],rfl,⟨⟨by omega,by simp;omega⟩,by rw [TB hx];exact W,Uw K hx A0 (fun y2 h0=>absurd h0 A0),iV LO (by rw [e2];exact B) A0 Z I J⟩,rfl,rfl⟩)
 obtain rfl:i=o.length:=by omega
 refine BB<|Zt<|Zt<|AV<|Zx<|AN Y<|Ax Y<|AX V results152 Y (by exact ⟨V,s2,l,o1,bn,l8,W,j3▸K,cu,V⟩)
theorem vK(v:Int):∀{l:List IvM},(l.Pairwise fun a b=>a.lo<=b.lo)->l.takeWhile (fun x=>decide (x.lo<=v))=l.filter fun x=>decide (x.lo<=v)
 |[],_=>rfl
 |a::l,h=>by
  obtain ⟨B,h2⟩:=S4.1 h;by_cases m:a.lo<=v;· rw [tM (by simpa using m),List.filter_cons_of_pos (by simpa using m),vK v h2]
  · rw [tP (by simpa using m),kO (by simpa using m)]
    exact (my.2 fun b G=>by have:=B b G;simp;omega).symm
theorem Ul(v:Int):∀{q:List IvM},(q.Pairwise fun a b=>b.hi<=a.rc)->(∀a∈q,a.hi<=a.rc)->(q.takeWhile fun x=>decide (v<=x.rc)).filter (fun x=>decide (v<=x.hi))=q.filter fun x=>decide (v<=x.hi)
 |[],_,_=>rfl
 |a::q,h,hs=>by
  obtain ⟨G,h2⟩:=S4.1 h;by_cases B:v<=a.rc;· rw [tM (by simpa using B),dr,dr,Ul v h2 fun b m=>hs b (G3 _ m)]
  · rw [tP (by simpa using B)]
    refine (my.2 fun b m=>?_).symm;rcases Dg.1 m with rfl|m
    · have:=hs b B6;simp;omega
    · have:=G b m;simp;omega
theorem nR{v:Int}(W:l.Pairwise fun a b=>a.lo<=b.lo)(J:oF l l.length)(i:Int):i∈Ih v l↔∃x∈l,x.lo<=v/\v<=x.hi/\x.id=i:=by
 have U:l.Pairwise fun a b=>a.hi<=b.rc:=fx.2 fun j k m I O=>J j k _ _ A0 I (BE m) (BE I);have K:∀a∈l,a.hi<=a.rc:=fun a G=>by
  obtain ⟨j,m,rfl⟩:=List.mem_iff_getElem.1 G;exact J j j _ _ (CT _) m (BE m) (BE m)
 unfold Ih;rw [vK v W,Ul v (List.pairwise_reverse.2 (U.sublist Z1)) fun a G=>K a (GP.1 (gS.1 G)).1];simp only [CM,GP,gS,H4];constructor;· rintro ⟨x,⟨⟨hx,B⟩,h2⟩,rfl⟩;exact ⟨x,hx,B,h2,rfl⟩
 · rintro ⟨x,hx,B,h2,rfl⟩;exact ⟨x,⟨⟨hx,B⟩,h2⟩,rfl⟩
variable{o:List IvM}
theorem Z6(m:l.map Nb=o.map Nb){a b i:Int}:(∃x∈l,x.lo=a/\x.hi=b/\x.id=i)↔∃x∈o,x.lo=a/\x.hi=b/\x.id=i:=by
 have h:∀{l:List IvM},(∃x∈l,x.lo=a/\x.hi=b/\x.id=i)↔(a,b,i)∈l.map Nb:=fun{l}=>by
  simp only [CM,Nb,lA]
 rw [h,h,m]
theorem Z7(m:l.map Nb=o.map Nb)(B:o.Pairwise fun a b=>a.lo<=b.lo):l.Pairwise fun a b=>a.lo<=b.lo:=by
 have h:∀{l:List IvM},(l.Pairwise fun a b=>a.lo<=b.lo)↔(l.map Nb).Pairwise fun a b=>a.1<=b.1:=fun{l}=>by
  rw [W7];rfl
 rw [h,m];exact h.1 B
def Qr(x:Int×QM):IvM:=⟨x.2.lo,x.2.hi,0,x.1⟩
def plQ(x:Int×QM):Int×Int:=(x.2.tb,x.2.cl)
def Eh(vs:List (Int×QM))(k:Int×Int):List IvM:=(vs.filter fun x=>decide (plQ x=k)).map Qr
def FP(vs:List (Int×QM))(t:Int):List Int:=(vs.filter fun x=>decide (x.2.kd=7/\x.2.ot=t)).map (·.1)
theorem TD(vs:List (Int×QM))(x:Int×QM)(k:Int×Int):Eh (vs++[x]) k=if k=plQ x then Eh vs (plQ x)++[Qr x]else Eh vs k:=by
 unfold Eh;rw [Kd,CN];by_cases h:k=plQ x;· subst h;simp
 · rw [As h,kO (by simpa using fun e=>h e.symm)];simp
theorem Nc(vs:List (Int×QM))(x:Int×QM)(t:Int):FP (vs++[x]) t=if x.2.kd=7/\t=x.2.ot then FP vs x.2.ot++[x.1]else FP vs t:=by
 unfold FP;rw [Kd,CN];by_cases h:x.2.kd=7/\t=x.2.ot;· obtain ⟨m,rfl⟩:=h;simp [m]
 · rw [As h,kO (by simpa using fun e1 e2=>h ⟨e1,e2.symm⟩)];simp
theorem ZH(a b:List IvM):CG (a++b)=CG a++CG b:=by unfold CG;rw [S0]
abbrev vX(vs:List (Int×QM))(lm:List ((Int×Int)×A2))(M:List A8):Prop:=U9 4 270 lm (fun k=>(Eh vs k).length) (fun k=>CG (Eh vs k)) M
abbrev ay(vs:List (Int×QM))(lm:List (Int×A2))(M:List A8):Prop:=U9 1 3 lm (fun t=>(FP vs t).length) (fun t=>(FP vs t).map fun i=>Value.int .i64 i) M
variable{vs:List (Int×QM)}{M:List A8}
theorem nG{lm:List ((Int×Int)×A2)}(U:(lm.map (·.1)).Nodup)(h:vX vs lm M)(x:Int×QM):
 ∃s M',BX 4 270 ((EL (plQ x) lm).getD (.slice none 0 0)) (Eh vs (plQ x)).length (CG (Eh vs (plQ x))) s/\M.Perm (s++M')/\∀(G:A2) (B:List A8) (m:List ((Int×Int)×A2)),(m.map (·.1)).Nodup->(∀p,p∈m↔p=(plQ x,G)\/(p∈lm/\p.1≠plQ x))->
  BX 4 270 G (Eh vs (plQ x)++[Qr x]).length (CG (Eh vs (plQ x)++[Qr x])) B->vX (vs++[x]) m (B++M'):=by
 obtain ⟨s,M',J,h2,K⟩:=Q5 U h (plQ x);refine ⟨s,M',J,h2,fun G B m I W X=>?_⟩;have O:=K G B _ _ m I W X
 have e1:(fun k=>(Eh (vs++[x]) k).length)=fun k=>if k=plQ x then(Eh vs (plQ x)++[Qr x]).length else(Eh vs k).length:=funext fun k=>by
  rw [TD];split<;>rfl
 have e2:(fun k=>CG (Eh (vs++[x]) k))=fun k=>if k=plQ x then CG (Eh vs (plQ x)++[Qr x])else CG (Eh vs k):=funext fun k=>by
  rw [TD];split<;>rfl
 unfold vX;rw [e1,e2];exact O
variable{lm:List (Int×A2)}
theorem nD(W:(lm.map (·.1)).Nodup)(h:ay vs lm M)(x:Int×QM)(J:x.2.kd=7):
 ∃s M',BX 1 3 ((EL x.2.ot lm).getD (.slice none 0 0)) (FP vs x.2.ot).length ((FP vs x.2.ot).map fun i=>Value.int .i64 i) s/\M.Perm (s++M')/\∀(G:A2) (B:List A8) (m:List (Int×A2)),(m.map (·.1)).Nodup->(∀p,p∈m↔p=(x.2.ot,G)\/(p∈lm/\p.1≠x.2.ot))->
  BX 1 3 G (FP vs x.2.ot++[x.1]).length ((FP vs x.2.ot++[x.1]).map fun i=>Value.int .i64 i) B->ay (vs++[x]) m (B++M'):=by
 obtain ⟨s,M',K,h2,O⟩:=Q5 W h x.2.ot;refine ⟨s,M',K,h2,fun G B m I X Z=>?_⟩;have U:=O G B _ _ m I X Z
 have e1:(fun k=>(FP (vs++[x]) k).length)=fun k=>if k=x.2.ot then(FP vs x.2.ot++[x.1]).length else(FP vs k).length:=funext fun k=>by
  rw [Nc];simp only [J,cF];split<;>rfl
 have e2:(fun k=>(FP (vs++[x]) k).map fun i=>Value.int .i64 i)=fun k=>if k=x.2.ot then(FP vs x.2.ot++[x.1]).map fun i=>Value.int .i64 i else(FP vs k).map fun i=>Value.int .i64 i:=funext fun k=>by
  rw [Nc];simp only [J,cF];split<;>rfl
 unfold ay;rw [e1,e2];exact U
theorem nE(h:ay vs lm M)(x:Int×QM)(m:x.2.kd≠7):ay (vs++[x]) lm M:=by
 have e:FP (vs++[x])=FP vs:=funext fun t=>by rw [Nc,As (fun h=>m h.1)]
 unfold ay;rw [e];exact h
theorem jv(q:QM)(B:BG q):BQ prog 133 #[.agg q.A89] [] (fun r H'=>r= .tuple #[I0 q.tb,I0 q.cl,I0 q.lo,I0 q.hi]/\H'=[]):=by
 refine Se func133 ntmps133 [0] ?_;intro u R;refine A3<|Ze (Bx #[_,_,_,_,_,_,_])<|AF fun G=>Za Y<|Za Y<|Za Y<|D2 Y<|A3<|Zo Wh (AA (cs:=q.A89) FG D4 Y Wn (Au V))<|Xr [_] Y call28 Y V (JR q)<|Zv (Cz Y)<|A5<|AY Y (fun m=>?_) (fun m=>?_);·
  exfalso;simp [B]at m
 refine B4<|Zq<|Aw (n:=12) (0::1::0::4::0::16::0::64::3::271::831::2047::[]) 0 AD AD V<|A1 0 V (AB (off:=1) DB V rfl A6 Y)<|Bk 1 V AE Y<|A1 2 V (AB (off:=2) DB V rfl A6 Y)<|Bk 3 V AE Y<|A1 4 V (AB (off:=3) DB V rfl A6 Y)<|Bk 5 V AE Y<|A1 6 V (AB (off:=4) DB V rfl A6 Y)<|Bk 7 V AE Y<|A1 8 V (BI Y)<|A1 9 V (BI Y)<|A1 10 V (BI Y)<|A1 11 V (BI Y)<|Ao<|Zn [2,3,4,5] ?_;refine Zx<|AJ<|iw V results133 Y Y Y Y (by exact ⟨V,V⟩)
def au(lm:List (Int×A2))(js:List Nat)(vs:List (Int×QM)):Prop:=vs.length=js.length/\∀x,x∈vs↔∃j∈js,lm[j]?=some (x.1,(.agg #[I0 x.2.kd,I0 x.2.tb,I0 x.2.cl,I0 x.2.lo,I0 x.2.hi,I0 x.2.bq,I0 x.2.ot]:A2))
variable{js:List Nat}{j:Nat}
theorem bX(h:au lm js vs){x:Int×QM}(m:lm[j]?=some (x.1,(.agg #[I0 x.2.kd,I0 x.2.tb,I0 x.2.cl,I0 x.2.lo,I0 x.2.hi,I0 x.2.bq,I0 x.2.ot]:A2))):au lm (js++[j]) (vs++[x]):=by
 refine ⟨by rw [C2,C2,h.1];rfl,fun y=>?_⟩;rw [CI,h.2];constructor
 · rintro (⟨i,hi,hy⟩|hy)
   · exact ⟨i,Fc _ hi,hy⟩
   · rw [CH.1 hy];exact ⟨j,by simp,m⟩
 · rintro ⟨i,hi,hy⟩
   rcases CI.1 hi with hi|hi
   · exact .inl ⟨i,hi,hy⟩
   · rw [CH.1 hi,m]at hy
     injection hy with hy
     refine .inr (CH.2 ?_);obtain ⟨a,q⟩:=x;obtain ⟨b,r⟩:=y;obtain ⟨B,q2,G,I,J,K,O⟩:=q;obtain ⟨U,W,X,Z,r5,r6,r7⟩:=r;simp at hy;simp [hy]
theorem TE(vs:List (Int×QM))(k:Int×Int):(Eh vs k).length<=vs.length:=by unfold Eh;rw [Bm];exact RW _ _
def Qm(o l:List IvM):Prop:=∃o':List IvM,o'.Perm o/\(o'.Pairwise fun a b=>a.lo<=b.lo)/\l.map Nb=o'.map Nb/\oF l l.length
variable{lmA:List ((Int×Int)×A2)}{pn:(Int×Int)×A2}
theorem lT(G:(lmA.map (·.1)).Nodup)(m:lmA[j]?=some pn)(p:(Int×Int)×A2):p∈lmA↔p=(pn.1,pn.2)\/(p∈lmA/\p.1≠pn.1):=by
 constructor
 · intro B
   by_cases h:p.1=pn.1
   · obtain ⟨i,hi⟩:=HK B
     obtain rfl:=Ko G hi m h;rw [m]at hi;injection hi with hi;exact .inl hi.symm
   · exact .inr ⟨B,h⟩
 · rintro (rfl|⟨h,_⟩)
   · exact E7 m
   · exact h
variable{ks:List Nat}
theorem bW{I G:List ((Int×Int)×A2)}(K:(lmA.map (·.1)).Nodup)(B:lmA[j]?=some pn)(J:¬j∈ks)(W:∀p,p∈I↔∃k∈ks,lmA[k]?=some p)(U:∀p,p∈G↔p=(pn.1,pn.2)\/(p∈I/\p.1≠pn.1))(p:(Int×Int)×A2):p∈G↔∃k∈ks++[j],lmA[k]?=some p:=by
 rw [U,W];constructor
 · rintro (rfl|⟨⟨k,K,m⟩,hne⟩)
   · exact ⟨j,by simp,B⟩
   · exact ⟨k,Fc _ K,m⟩
 · rintro ⟨k,O,m⟩
   rcases CI.1 O with hk1|hk1
   · refine .inr ⟨⟨k,hk1,m⟩,fun X=>J ?_⟩
     obtain rfl:=Ko K m B X;exact hk1
   · rw [CH.1 hk1,B]at m;injection m with m;exact .inl m.symm
variable{g:Int×Int->List IvM}
theorem gI(O:(lmA.map (·.1)).Nodup)(B:lmA[j]?=some pn)(G:¬j∈ks){f:Int×Int->List IvM}{l2:List IvM}(J:∀i p,lmA[i]?=some p->if i∈ks then Qm (f p.1) (g p.1)else g p.1=f p.1)(h2:Qm (g pn.1) l2):
 ∀i p,lmA[i]?=some p->if i∈ks++[j]then Qm (f p.1) ((fun k=>if k=pn.1 then l2 else g k) p.1)else(fun k=>if k=pn.1 then l2 else g k) p.1=f p.1:=by
 intro i p hi;have h:=J i p hi
 by_cases m:i=j
 · subst m
   rw [B]at hi;injection hi with hi;subst hi
   rw [As G]at h;rw [B0 B6];simp only [J1];rw [<-h];exact h2
 · have I:p.1≠pn.1:=fun K=>m (Ko O hi B K)
   simp only [As I,CI,CH,m,Sf];exact h
theorem yJ{lm:List ((Int×Int)×A2)}{l2:List IvM}{m:Int×Int}(h:U9 4 270 lm (fun x=>if x=m then l2.length else(g x).length) (fun x=>if x=m then CG l2 else CG (g x)) M):U9 4 270 lm (fun k=>((fun k=>if k=m then l2 else g k) k).length) (fun k=>CG ((fun k=>if k=m then l2 else g k) k)) M:=by
 have e1:(fun k=>((fun k=>if k=m then l2 else g k) k).length)=fun x=>if x=m then l2.length else(g x).length:=funext fun k=>by
  show(if k=m then l2 else g k).length=_;split<;>rfl
 have e2:(fun k=>CG ((fun k=>if k=m then l2 else g k) k))=fun x=>if x=m then CG l2 else CG (g x):=funext fun k=>by
  show CG (if k=m then l2 else g k)=_;split<;>rfl
 rw [e1,e2];exact h
theorem ZO(vs:List (Int×QM))(t:Int):(FP vs t).length<=vs.length:=by unfold FP;rw [Bm];exact RW _ _
def IW(c:Chg)(i:Nat):List AU:=(if 1<=i/\c.had=true then [⟨c.t,c.k,c.o⟩]else [])++(if 2<=i/\c.has=true then [⟨c.t,c.k,c.n⟩]else [])
def FI(c:Chg):List AU:=IW c 2
theorem q8(c:Chg)(i:Nat)(h:i<2):∃(fi:Nat) (rv:AU) (vb:Bool),(#[.func (.func 214) #[] #[],.func (.func 122) #[] #[]]:AM)[i]?=some (.func (.func fi) #[] #[])/\(∀(args:AM) (w:A4),(callFunc fi args).run prog w= .ok (.enter fi args) w)/\
 Az prog fi #[.agg c.A87] [] (.tuple #[.agg rv.A88,.bool vb])/\(vb=true->IW c (i+1)=IW c i++[rv]/\∃m,FI c=IW c i++rv::m)/\(vb=false->IW c (i+1)=IW c i):=by
 rcases (by omega:i=0\/i=1)with rfl|rfl
 · refine ⟨_,_,c.had,rfl,call214,Uv c,fun hv=>?_,fun hv=>?_⟩
   · unfold FI IW ER;simp [hv]
   · unfold IW;simp [hv]
 · refine ⟨_,_,c.has,rfl,call122,OM c,fun hv=>?_,fun hv=>?_⟩
   · unfold FI IW ER;simp [hv]
   · unfold IW;simp [hv]
theorem gM(c:Chg):BQ prog 154 #[.agg c.A87] [] (fun r H'=>∃b,r= .func (.func 217) #[] #[I1 b]/\H'=[[(b,.cells c.A87 59 (0,0))]]):=by
 refine Se func154 ntmps154 [0] ?_;intro u R;refine A3<|Ze (FN Y (cs:=c.A87) AD)<|AF fun b=>AH Y<|A3<|Zv (Bg (vs:=[]) (us:=[_]) Y Y)<|Ax Y<|AX V results154 Y (by exact ⟨_,V,V⟩)
theorem gN(c:Chg)(b:Nat):FC prog 217 #[I1 b] [[(b,.cells c.A87 59 (0,0))]] (fun _=>True) (fun x:AU=>#[.agg x.A88]) (FI c):=by
 intro l J hA hy s I;refine Se func217 ntmps217 [0,1] ?_;intro u R;refine A3<|Ze (Ah (vs:=[_,_]) (cs:=[_,_]) underlying323 sizeOf152 zeroValue152 Y V rfl V rfl V)<|AF fun bf=>Zv (AR underlying323 Y)<|Zm Y<|A5<|AP<|Zb [9,0,1,7,8] ?_;refine Ay (e0:=[(9,_)]) (fun m e H=>∃(i:Nat) (s:List A8),m=2 -i/\(i<=2/\J (IW c i) s)/\e=[(9,I0 (i:Int))]/\H=[s]) (by exact ⟨0,s,V,⟨by decide,I⟩,V,V⟩) Wp ?_;rintro _ _ _ ⟨i,s,rfl,⟨hi,I⟩,rfl,rfl⟩;refine A3<|Zv (Ar Y Y)<|A5<|Zq<|Ap Y (fun Z=>?_) (fun Z=>?_);·
  obtain ⟨fi,rv,vb,W,X,af,K,O⟩:=q8 c i A0;refine B4<|Zq<|AP<|A3<|Ba (Bd underlying323 sizeOf152 Y Y A0)<|Zl isAgg152 Y (hv:=by exact W) ?_;refine AH Y<|AN Y<|Zo Wh (Pa #[_,_,_,_,_,_,_,_,_,_] HG Cd Y) ?_;refine Xr [_] Y (X) Y V (af) ?_;refine Zm Y<|Zd Y V<|Zd Y V<|Ze (Al G1 #[_,_,_,_,_])<|AF fun br=>Xe (Xw B3 _) ?_;refine B1 Y<|Zn [0,1,5,6,7,8,9] ?_;refine Zx<|AN Y<|Zm Y<|Ab (t:=20) Y V (fun G=>?_) (fun G=>?_);·
   obtain ⟨hu,bn,B⟩:=K G;have ax:=hy _ _ _ s B I
   refine Zf Y Y<|DY Y Wh (Pa #[_,_,_,_,_] DE B3 Y) V rfl ?_;refine Ze (GX (vs:=[_]) Y Y (ax) Wp) ?_;rintro _ _ ⟨_,⟨s',rfl,rfl,U⟩,rfl⟩;refine Yg (Bh Y)<|BT Y Y<|A5<|AY Y (fun hb=>by cases hb)<|fun hb=>AC<|A9<|Zx<|E6 Y Y Y<|DM (e:=[(9,_)]) (h:=by exact ⟨i+1,s',rfl,⟨by omega,by rw [hu];exact U⟩,rfl,rfl⟩)
  have hu:=O G;refine AG<|AG<|BW Y Y<|A5<|DW Y<|AC<|A9<|Zx<|E6 Y Y Y<|DM (e:=[(9,_)]) (h:=by exact ⟨i+1,s,rfl,⟨by omega,by rw [hu];exact I⟩,rfl,rfl⟩)
 obtain rfl:i=2:=by omega
 refine BB<|Zt<|Zt<|AV<|D6 V results217 (by exact ⟨s,V,I⟩)
theorem SL:Fw prog 267 K2 KD:=Fw.ofLaw (deep_law (m:=3) (by decide) (by kernel_rfl) (by kernel_rfl) (by kernel_rfl)) (by
 rintro ⟨a,b⟩ ⟨I,J⟩;have G:Tryz.prog.types.size+1=(Tryz.prog.types.size -1)+1+1:=by
  have:0<Tryz.prog.types.size:=IF AD;omega
 have hc:Tryz.prog.cellsOf 3=1:=by kernel_rfl
 have B:Tryz.prog.cellsOf 267=2:=by kernel_rfl
 have U:Tryz.prog.keyType 267=true:=by kernel_rfl
 have O:(K2 (a,b)).formed prog 267=true:=by
  unfold Value.formed K2;rw [j1];simp [B]
 unfold keyOf;rw [j1];simp only [U,O,Bool.and_self,J1];obtain ⟨d,K⟩:∃d,Tryz.prog.types.size+1=d+1+1:=⟨_,G⟩;rw [K];unfold Program.keyLits;rw [j1];have W:=Oh prog d a D3 I
 have X:=Oh prog d b D3 J;simp [K2,Value.cells,hc,B,W,X]) vV
def vW(M:List A8)(v:A2)(l:List Int):Prop:=∃p cap,v= .slice p l.length cap/\(l.length<=maxLen/\l.length<=cap)/\∀(i:Nat) (x:Int),l[i]?=some x->∃g off cur T zz,p=some ⟨g,off,none⟩/\(g,Obj.cells cur T zz)∈M/\cur[off+i]?=some (I0 x)
variable{v:A2}
theorem vW.mono{M':List A8}{l:List Int}(h:vW M v l)(J:∀c∈M,c∈M'):vW M' v l:=by
 obtain ⟨p,cap,e,I,G⟩:=h;refine ⟨p,cap,e,I,fun i x hx=>?_⟩;obtain ⟨g,off,cur,T,zz,m,h2,B⟩:=G i x hx;exact ⟨g,off,cur,T,zz,m,J _ h2,B⟩
structure PH(sc:Int->Int->List IvM)(jn:Int->List Int)(lp:Nat)(ML:List A8):Prop where
 ex:∃ms ess cks lms mj esj ckj lmj,(lp,Obj.cells #[.map (some ms),.map (some mj)] 265 (0,0))∈ML/\(ms,Obj.map ess cks)∈ML/\Ck K2 ess cks lms/\(∀p∈lms,KD p.1)/\(mj,Obj.map esj ckj)∈ML/\Ck (fun n:Int=>Value.int .i64 n) esj ckj lmj/\
  (∀a b,U6 ML ((EL (a,b) lms).getD (.slice none 0 0)) (sc a b))/\(∀t,vW ML ((EL t lmj).getD (.slice none 0 0)) (jn t))
 asc:∀a b,(sc a b).Pairwise fun x y=>x.lo<=y.lo
 len:∀a b,(sc a b).length<=1000000
def IJ(sc:Int->Int->List IvM)(t:Int)(r:AU)(n:Nat):List Int:=(List.range n).flatMap fun col=>Ih (Dk r col) (sc t (col:Int))
def NA(sc:Int->Int->List IvM)(jn:Int->List Int)(c:Chg):List Int:=((FI c).flatMap fun r=>IJ sc c.t r 4)++jn c.t
theorem Rk(sc:Int->Int->List IvM)(t:Int)(r:AU)(n:Nat):IJ sc t r (n+1)=IJ sc t r n++Ih (Dk r n) (sc t (n:Int)):=by
 unfold IJ;rw [kx,S0];simp
theorem pQ(sc:Int->Int->List IvM)(t:Int)(r:AU)(h:n<4):∃m,IJ sc t r 4=IJ sc t r n++Ih (Dk r n) (sc t (n:Int))++m:=by
 rcases (by omega:n=0\/n=1\/n=2\/n=3)with rfl|rfl|rfl|rfl<;>simp only [Rk,DG]<;>first|exact ⟨_,rfl⟩|(refine ⟨[],?_⟩;simp)
variable{sc:Int->Int->List IvM}{jn:Int->List Int}{c:Chg}
theorem eU{pre B:List AU}{x:AU}(h:FI c=pre++x::B)(hn:n<4){G m:List Int}{id:Int}(h2:Ih (Dk x n) (sc c.t (n:Int))=G++id::m):
 ∃I,NA sc jn c=((pre.flatMap fun r=>IJ sc c.t r 4)++IJ sc c.t x n++G)++id::I:=by
 obtain ⟨K,J⟩:=pQ sc c.t x hn;unfold NA;rw [h,S0,IH,J,h2];exact ⟨m++K++(B.flatMap fun r=>IJ sc c.t r 4)++jn c.t,by simp⟩
theorem XR(v:A2)(x:Int)(B:v.oneCell'=true):BQ prog 155 #[v,I0 x] [] (fun r H'=>∃bl m,r= .func (.func 218) #[] #[I1 bl,I1 m]/\H'=[[(bl,.cells #[v] 271 (0,0))],[(m,.cells #[I0 x] 3 (0,0))]]):=by
 refine Se func155 ntmps155 [0,1] ?_;intro u R;refine A3<|Ze (FN Y (cs:=#[v]) (by cases v<;>first|rfl|simp [Value.oneCell']at B))<|AF fun bl=>Ze (Bx #[_])<|AF fun m=>AH Y<|A3<|Zv (Bg (vs:=[]) (us:=[_,_]) Y Y)<|Ax Y<|AX V results155 Y (by exact ⟨bl,m,V,V⟩)
theorem lK(lp:Nat)(c:Chg):BQ prog 101 #[I1 lp,.agg c.A87] [] (fun r H'=>∃bl m,r= .func (.func 153) #[] #[I1 m,I1 bl]/\H'=[[(bl,.cells #[I1 lp] 164 (0,0))],[(m,.cells c.A87 59 (0,0))]]):=by
 refine Se func101 ntmps101 [0,1] ?_;intro u R;refine A3<|Ze (Bx #[_])<|AF fun bl=>Ze (FN Y (cs:=c.A87) AD)<|AF fun m=>AH Y<|A3<|Zv (Bg (vs:=[]) (us:=[_,_]) Y Y)<|Ax Y<|AX V results101 Y (by exact ⟨bl,m,V,V⟩)
variable{lp:Nat}{ML:List A8}
theorem lL(hL:PH sc jn lp ML)(c:Chg)(ow:∀r∈FI c,∀n:Nat,n<4->-1000000000000<=Dk r n/\Dk r n<=1000000000000)(p8:-9223372036854775808<=c.t/\c.t<=9223372036854775807)(ve:(jn c.t).length<=1000000)(bc bl:Nat):FC prog 153 #[I1 bc,I1 bl] [[(bc,.cells c.A87 59 (0,0))],[(bl,.cells #[I1 lp] 164 (0,0))]] (fun s=>∀x∈ML,x∈s) (fun i:Int=>#[I0 i]) (NA sc jn c):=by
 have vw:=mL;obtain ⟨ms,sM,sD,wz,mj,sJ,sw,wo,ax,qo,gm,pz,ql,ek,af,pg⟩:=hL.ex;intro ly J hA hy s B;refine Ct func153 V ntmps153 V ?_;intro u R;refine Zb [0,1,2] ?_;refine A3<|Ze (Bx #[_])<|AF fun by_=>A5<|Zq<|A3<|Zo Wh (Pa #[_,_,_,_,_,_,_,_,_,_] HG Cd Y) ?_;refine Zc [_] Y call154 Y V (gM c) ?_;rintro _ _ ⟨_,⟨br,rfl,rfl⟩,rfl⟩;refine A5<|AP<|Zb [1,2,3,10] ?_;refine PE (H0:=_) (R:=_) (I:=(fun(pre:List AU) H=>∃s,J (pre.flatMap fun r=>IJ sc c.t r 4) s/\H=[[(bc,.cells c.A87 59 (0,0))],[(bl,.cells #[I1 lp] 164 (0,0))],[(by_,.cells #[.func (.yield ly) #[] #[]] 108 (0,0))],s])) (E:=fun x e Hn=>∃bw,e=[(4,I1 bw),(11,.agg x.A88)]/\Hn=[[(bw,.cells x.A88 61 (0,0))]]) V Y call217 (gN c br) (fun _ _ _ _ _=>trivial) Y V Wp (⟨s,B,V⟩) ?ha_2 ?hbd_2 ?hk_2
 case ha_2=>
  intro _ x _ _;refine Zg<|Ze (Al G1 #[_,_,_,_,_])<|AF fun b2=>Xe (Xw B3 _) ?_;refine Z0<|Lh (e:=[(4,_),(11,_)]) (Hn:=[[(_,_)]]) ?_;exact ⟨_,V,V⟩
 case hbd_2=>
  intro l pre x l5 u e9 l8 H1 R1 r9 K hI U;obtain ⟨bw,rfl,rfl⟩:=U;obtain ⟨s,B,rfl⟩:=hI;have j5:=K
  refine AP<|AN Y<|A5<|AP<|Zb [12,1,2,3,4] ?_;refine Ay (e0:=[(12,_)]) (fun m e H=>∃(n:Nat) (s:List A8),m=4 -n/\(n<=4/\J ((pre.flatMap fun r=>IJ sc c.t r 4)++IJ sc c.t x n) s)/\e=[(12,I0 (n:Int))]/\H=[s]) (by exact ⟨0,s,rfl,⟨by decide,by rw [show IJ sc c.t x 0=[] from rfl,DQ];exact B⟩,rfl,rfl⟩) Wp ?_;rintro _ _ _ ⟨n,s,rfl,⟨vz,B⟩,rfl,rfl⟩;refine A3<|Zv (Ar (n:=4) Y Y)<|A5<|Zq<|Ap Y (fun qa=>?_) (fun qa=>?_);·
   have j3:=hA _ s B;have cu:=j3 _ ax
   have gq:=j3 _ qo;obtain ⟨pv,cv,gy,_,_⟩:=af c.t (n:Int);have qz:x∈FI c:=by rw [K];simp
   have qy:=ow x qz n A0;have pq:KD (c.t,(n:Int)):=⟨Uf p8,Uf A0⟩
   have cO:n<4:=by omega
   refine B4<|Zq<|AP<|AN Y<|D2 Y<|Aw (n:=13) (0::1::3::7::0::16::0::112::255::0::0::1536::4095::[]) 6144 AD AD V<|Bk 0 V isAgg164 Y ?_;refine A1 1 V (Aq Y V)<|A1 2 V (AB (off:=0) iS V rfl sizeOf262 Y)<|CS (D':=15) 3 V rfl V (Eg Wo (cu)) (BL isAgg262 Y B2) ?_;refine A1 4 V (AB (off:=0) CC V rfl A6 Y)<|Bk 5 V AE Y ?_;refine A1 6 V (AQ Y)<|A1 7 V (BM (vs:=[(0,_),(1,_)]) (cs:=#[_,_]) Y (Aa (pl:=#[(0,1),(1,1)]) ml j1 (fun _=>by kernel_rfl) V))<|CS (D':=511) 8 V rfl V (Eg Wo (gq)) (De SL underlying262 zeroValue271 gm pz (pq) (gy) Y Y) ?_;refine GB 9 V Wh (AA (cs:=#[_,_,_,_,_]) DE B3 Y B9 B2) ?_;refine A1 10 V (AQ Y)<|Zz (l:=[11])<|C0 [false,true,true,true,true] [(8,(_,_)),(5,(_,_)),(3,(_,_)),(0,(_,_))] V rfl (Zu [_,_] Y UP Y V (OL x n A0)) ?_ (fun _ _ h=>h.elim) Am;rintro _ _ ⟨rfl,rfl⟩;refine ⟨Fs (by simp [*]) (Zk (Fs (by simp [*]) (Zk (Ac)))),?_⟩;refine Zz (l:=[12])<|C0 [false,false,false,false] [] V rfl (Zw [_,_] Y call155 Y V (XR (.slice pv (sc c.t (n:Int)).length cv) (Dk x n) V)) ?_ Bz Am;rintro _ _ ⟨_,⟨l9,o8,rfl,rfl⟩,rfl⟩;refine CA<|Ao<|Zn [1,2,3,4,12,27] ?_;refine Zx<|AP<|Zb [1,2,3,4,12,27] ?_;refine iA (H0:=_) (R:=_) (I:=(fun(O:List Int) H=>∃s,J ((pre.flatMap fun r=>IJ sc c.t r 4)++IJ sc c.t x n++O) s/\H=[[(by_,.cells #[.func (.yield ly) #[] #[]] 108 (0,0))],s])) (E:=fun x e Hn=>e=[(6,I0 x),(28,I0 x)]/\Hn=[]) rfl Wh Y call218 (XT (gy▸af c.t (n:Int)) (hL.len _ _) (hL.asc _ _) (Dk x n) qy l9 o8) (by rintro O _ c9 ⟨s,h1,rfl⟩;intro q hq;have:=hA _ s h1 q hq;simp [this]) Y rfl Wp (⟨s,by simpa using B,rfl⟩) ?ha_7 ?hbd_7 ?hk_7
   case ha_7=>
    intro _ x _ _;refine Zg<|B1 Y<|Lh (e:=[(6,_),(28,_)]) (Hn:=[]) ?_;exact ⟨V,V⟩
   case hbd_7=>
    intro l pre x l5 u e9 l8 H1 R1 r9 K hI U;obtain ⟨rfl,rfl⟩:=U;obtain ⟨s,B,rfl⟩:=hI;obtain ⟨sj,qw⟩:=eU (jn:=jn) j5 cO K;have Z:=hy _ _ _ s qw B
    refine AP<|A3<|Zl isAgg108 Y ?_;refine Zm Y<|Ze (GX (vs:=[_]) Y Y (Z) Wp) ?_;rintro _ _ ⟨_,⟨s',rfl,rfl,X⟩,rfl⟩;refine Zv (Bh Y)<|A5<|AY Y (fun hb=>by cases hb)<|fun hb=>AC<|A9<|Fq rfl (by exact ⟨s',by rw [<-DG];exact X,rfl⟩)
   intro H2 W;obtain ⟨s,B,rfl⟩:=W;refine Zn [1,2,3,4,12] ?_;refine A9<|A9<|Zx<|E6 Y Y Y<|DM (e:=[(12,_)]) (h:=by exact ⟨n+1,s,rfl,⟨by omega,by rw [Rk,<-DG];exact B⟩,rfl,rfl⟩)
  obtain rfl:n=4:=by omega
  refine BB<|Zt<|Zt<|AV<|A9<|Fq rfl (by exact ⟨s,by rw [S0,pP];exact B,rfl⟩)
 intro D1 H2 W;obtain ⟨s,B,rfl⟩:=W;refine Zn [1,2,3] ?_;refine A9<|Zx<|Zq ?_;have ic:=hA _ s B
 have bn:=ic _ ax;have d9:=ic _ ql
 obtain ⟨pj,cj,qx,⟨vo,sO⟩,p9⟩:=pg c.t;refine Aw (n:=9) (0::1::3::7::0::16::63::127::0::[]) 0 AD AD V<|Bk 0 V isAgg164 Y ?_;refine A1 1 V (Aq Y V)<|A1 2 V (AB (off:=1) iS V rfl sizeOf263 Y)<|CS (D':=15) 3 V rfl V (Eg Wo (bn)) (BL isAgg263 Y B2) ?_;refine A1 4 V (AB (off:=0) CC V rfl A6 Y)<|Bk 5 V AE Y ?_;refine CS (D':=127) 6 V rfl V (Eg Wo (d9)) (De (Cc D3 (D:=fun _=>True)) underlying263 zeroValue39 ek (fun _ _=>trivial) (trivial) (qx) Y Y) ?_;refine A1 7 V (AR DS Y)<|A1 8 V (AQ Y)<|Ao<|Zx<|AP<|Zb [42,3,40,41] ?_;refine Ay (e0:=[(42,_)]) (fun m e H=>∃(k:Nat) (s:List A8),m=(jn c.t).length -k/\(k<=(jn c.t).length/\J ((FI c).flatMap (fun r=>IJ sc c.t r 4)++(jn c.t).take k) s)/\e=[(42,I0 (k:Int))]/\H=[s]) (by exact ⟨0,s,V,⟨C7 _,by simpa using B⟩,V,V⟩) Wp ?_;rintro _ _ _ ⟨k,s,rfl,⟨hk,B⟩,rfl,rfl⟩;refine A3<|Zv (Ar Y Y)<|A5<|Zq<|Ap Y (fun q9=>?_) (fun q9=>?_);·
  obtain ⟨kv,G⟩:∃x,(jn c.t)[k]?=some x:=⟨_,BE A0⟩;obtain ⟨g,off,cur,T,zz,rfl,qj,o9⟩:=p9 k kv G;have qb:=hA _ s B _ qj
  have Z:=hy _ _ _ s (show NA sc jn c=((FI c).flatMap (fun r=>IJ sc c.t r 4)++(jn c.t).take k)++kv::(jn c.t).drop (k+1) by unfold NA;rw [DG,<-OC G]) B;refine B4<|Zq<|AP<|A3<|Ba (Bu DS A6 Y Y PC)<|CO (Gn Wo (qb)) (BL AE Y o9) rfl rfl ?_;refine AH Y<|A3<|Zl isAgg108 Y ?_;refine Zm Y<|Ze (GX (vs:=[_]) Y Y (Z) Wp) ?_;rintro _ _ ⟨_,⟨s',rfl,rfl,X⟩,rfl⟩;refine Zv (Bh Y)<|A5<|AY Y (fun hb=>by cases hb)<|fun hb=>AC<|A9<|Zx<|E6 Y Y Y<|DM (e:=[(42,_)]) (h:=by exact ⟨k+1,s',rfl,⟨by omega,by rw [Bq G,<-DG];exact X⟩,rfl,rfl⟩)
 obtain rfl:k=(jn c.t).length:=by omega
 rw [HI]at B;refine BB<|Zt<|Zt<|AV<|Gv V (rN results153) Wo (by exact ⟨s,V,B⟩)
theorem ZG(h:l[i]?=some x):((CG l).drop (i*4)).take 4=[I0 x.lo,I0 x.hi,I0 x.rc,I0 x.id]:=by
 induction l generalizing i with
 |nil=>simp at h
 |cons a l ih=>
  cases i with
  |zero=>simp at h;subst h;rfl
  |succ i=>
   have m:l[i]?=some x:=by simpa using h
   rw [show(i+1)*4=i*4+4 by omega];exact ih m
theorem ZC{s:List A8}(h:BX 4 270 v l.length (CG l) s)(O:∀c∈s,c∈M):U6 M v l:=by
 rcases h with⟨_,⟨rfl,h0,_⟩|⟨g,cap,cur,z,rfl,rfl,B,I,J,G,K⟩⟩
 · have m:=OR h0
   subst m;exact ⟨none,0,V,⟨C7 _,CT _⟩,fun i x hx=>by simp at hx⟩
 · refine ⟨_,cap,rfl,⟨by omega,B⟩,fun i x hx=>?_⟩
   have hi:=(C6.1 hx).1;refine ⟨g,0,cur,_,z,V,O _ (CH.2 V),by omega,?_⟩;have m:=ZG hx
   rw [<-G,gn,WD]at m;apply HW.1;rw [Array.toList_extract,tU,DP,show i*4+4 -i*4=4 by omega];rw [show min 4 (l.length*4 -i*4)=4 by omega]at m;exact m
theorem ZN{l:List Int}{s:List A8}(h:BX 1 3 v l.length (l.map fun i=>Value.int .i64 i) s)(O:∀c∈s,c∈M):vW M v l:=by
 rcases h with⟨_,⟨rfl,h0,_⟩|⟨g,cap,cur,z,rfl,rfl,B,I,J,G,K⟩⟩
 · have m:=OR h0
   subst m;exact ⟨none,0,V,⟨C7 _,CT _⟩,fun i x hx=>by simp at hx⟩
 · refine ⟨_,cap,rfl,⟨by omega,B⟩,fun i x hx=>?_⟩
   have hi:=(C6.1 hx).1;refine ⟨g,0,cur,_,z,V,O _ (CH.2 V),?_⟩;have m:(l.map fun i=>Value.int .i64 i)[i]?=some (I0 x):=by rw [FF,hx];rfl
   rw [<-G,HU,B0 A0]at m;simpa using m
structure JI(qs:List (Int×QM))(sc:Int->Int->List IvM)(jn:Int->List Int):Prop where
 scan:∀a b v i,i∈Ih v (sc a b)↔∃x∈qs,x.1=i/\plQ x=(a,b)/\x.2.lo<=v/\v<=x.2.hi
 join:∀t i,i∈jn t↔∃x∈qs,x.1=i/\x.2.kd=7/\x.2.ot=t
 small:∀t,(jn t).length<=1000000
theorem ts{x y:Int×QM}(h:(x.1,(.agg #[I0 x.2.kd,I0 x.2.tb,I0 x.2.cl,I0 x.2.lo,I0 x.2.hi,I0 x.2.bq,I0 x.2.ot]:A2))=(y.1,(.agg #[I0 y.2.kd,I0 y.2.tb,I0 y.2.cl,I0 y.2.lo,I0 y.2.hi,I0 y.2.bq,I0 y.2.ot]:A2))):x=y:=by
 obtain ⟨a,q⟩:=x;obtain ⟨b,r⟩:=y;obtain ⟨m,q2,B,G,I,J,K⟩:=q;obtain ⟨O,U,W,X,Z,r6,r7⟩:=r;simp at h;simp [h]
variable{qs:List (Int×QM)}{es:Array MapEntry}{ck:Nat}
theorem pM(m:El qs es ck lm)(I:au lm js vs)(J:(DJ lm js).Perm lm)(x:Int×QM):x∈vs↔x∈qs:=by
 rw [I.2];constructor
 · rintro ⟨j,_,G⟩
   obtain ⟨y,hy,B⟩:=(m.mem _).1 (E7 G);rw [ts B];exact hy
 · intro hx
   have h:=J.mem_iff.2 ((m.mem _).2 ⟨x,hx,rfl⟩);obtain ⟨j,G,B⟩:=cN.1 h;exact ⟨j,G,B⟩
theorem lQ{κ:Type} [DecidableEq κ]{l m:List (κ×A2)}(J:(l.map (·.1)).Nodup)(K:(m.map (·.1)).Nodup)(h:∀p,p∈l↔p∈m)(k:κ):EL k l=EL k m:=by
 by_cases G:∃v,(k,v)∈l
 · obtain ⟨v,hv⟩:=G
   rw [Cw J hv,Cw K ((h _).1 hv)]
 · rw [DN (l:=l) fun p I B=>G ⟨p.2,by rw [<-B];exact I⟩,DN (l:=m) fun p I B=>G ⟨p.2,by rw [<-B];exact (h p).2 I⟩]
theorem nM(h:Qm o l)(v i:Int):i∈Ih v l↔∃x∈o,x.lo<=v/\v<=x.hi/\x.id=i:=by
 obtain ⟨o',B,O,m,K⟩:=h;rw [nR (Z7 m O) K];constructor
 · rintro ⟨x,hx,I,h2,J⟩
   obtain ⟨y,hy,e1,e2,G⟩:=(Z6 (a:=x.lo) (b:=x.hi) (i:=x.id) m).1 ⟨x,hx,rfl,rfl,rfl⟩;exact ⟨y,B.mem_iff.1 hy,by omega,by omega,by omega⟩
 · rintro ⟨x,hx,I,h2,J⟩
   obtain ⟨y,hy,e1,e2,G⟩:=(Z6 (a:=x.lo) (b:=x.hi) (i:=x.id) m).2 ⟨x,B.mem_iff.2 hx,rfl,rfl,rfl⟩;exact ⟨y,hy,by omega,by omega,by omega⟩
theorem nN(h:Qm o l):l.length=o.length:=by
 obtain ⟨o',G,J,B,I⟩:=h;have m:=congrArg List.length B
 rw [Bm,Bm]at m;rw [m];exact G.length_eq
theorem eu(l8:El qs es ck lm)(o9:js.length<=1000000)(X:au lm js vs)(gy:(DJ lm js).Perm lm)
 {ek:List A8}(cu:(lmA.map (·.1)).Nodup)(j3:vX vs lmA ek){O:Array MapEntry}{J:Nat}{Z:List (Int×A2)}{MJ:List A8}(l5:Ck (fun n:Int=>Value.int .i64 n) O J Z)(j5:ay vs Z MJ)
 {U:Array MapEntry}{K:Nat}{m:List ((Int×Int)×A2)}{MS:List A8}(cO:Ck K2 U K m)(gm:∀p∈lmA,KD p.1)(gq:∀p,p∈m↔∃k∈ks,lmA[k]?=some p)
 (af:U9 4 270 lmA (fun k=>(g k).length) (fun k=>CG (g k)) MS)(kv:∀j p,lmA[j]?=some p->if j∈ks then Qm (Eh vs p.1) (g p.1)else g p.1=Eh vs p.1)(ic:(DJ lmA ks).Perm lmA)
 {mz mj:Nat}(h1:(lp,Obj.cells #[.map (some mz),.map (some mj)] 265 (0,0))∈ML)(h2:(mz,Obj.map U K)∈ML)(h3:(mj,Obj.map O J)∈ML)(h4:∀c∈MS,c∈ML)(h5:∀c∈MJ,c∈ML):
 PH (fun a b=>g (a,b)) (FP vs) lp ML/\JI qs (fun a b=>g (a,b)) (FP vs):=by
 have hv:=pM l8 X gy;have bn:∀j p,lmA[j]?=some p->j∈ks:=fun j p hj=>by
  obtain ⟨i,hi,he⟩:=cN.1 (ic.mem_iff.2 (E7 hj));obtain rfl:=Ko cu he hj rfl;exact hi
 have hS:∀p,p∈m↔p∈lmA:=fun p=>by
  rw [gq];constructor;· rintro ⟨k,_,hk⟩;exact E7 hk
  · intro B
    obtain ⟨i,hi⟩:=HK B;exact ⟨i,bn i p hi,hi⟩
 have ax:∀k,EL k m=EL k lmA:=lQ cO.keys cu hS;have hD:∀k,Qm (Eh vs k) (g k):=fun k=>by
  by_cases hk:∃v,(k,v)∈lmA
  · obtain ⟨v,o8⟩:=hk
    obtain ⟨i,hi⟩:=HK o8;have h:=kv i _ hi
    rw [B0 (bn i _ hi)]at h;exact h
  · have hn:EL k lmA=none:=DN fun p B he=>hk ⟨p.2,by rw [<-he];exact B⟩
    obtain ⟨s,W,_⟩:=af.row k;obtain ⟨s',d9,_⟩:=j3.row k;rw [hn]at W d9;have e1:(g k).length=0:=by
     rcases W with⟨_,⟨_,h,_⟩|⟨g9,cap,cur,z,h,_⟩⟩
     · exact h
     · simp at h
    have e2:(Eh vs k).length=0:=by
     rcases d9 with⟨_,⟨_,h,_⟩|⟨g9,cap,cur,z,h,_⟩⟩
     · exact h
     · simp at h
    rw [OR e1,OR e2];exact ⟨[],.refl _,.nil,V,fun j k x y _ h=>absurd h (gi k)⟩
 refine ⟨⟨⟨mz,U,K,m,mj,O,J,Z,h1,h2,cO,fun p B=>gm p ((hS p).1 B),h3,l5,fun a b=>?_,fun t=>?_⟩,fun a b=>?_,fun a b=>?_⟩,⟨fun a b v i=>?_,fun t i=>?_,fun t=>?_⟩⟩
 · obtain ⟨s,W,hs⟩:=af.row (a,b)
   rw [ax];exact ZC W fun c hc=>h4 c (hs c hc)
 · obtain ⟨s,W,hs⟩:=j5.row t
   exact ZN W fun c hc=>h5 c (hs c hc)
 · obtain ⟨o',B,l9,hk,W⟩:=hD (a,b)
   exact Z7 hk l9
 · have:=nN (hD (a,b))
   have:=TE vs (a,b);have:=X.1
   show(g (a,b)).length<=1000000;omega
 · rw [nM (hD (a,b))]
   unfold Eh;simp only [CM,GP,H4];constructor
   · rintro ⟨_,⟨x,⟨hx,B⟩,rfl⟩,G,I,a3⟩
     exact ⟨x,(hv x).1 hx,a3,B,G,I⟩
   · rintro ⟨x,hx,a3,B,G,I⟩
     exact ⟨_,⟨x,⟨(hv x).2 hx,B⟩,V⟩,G,I,a3⟩
 · unfold FP
   simp only [CM,GP,H4];constructor
   · rintro ⟨x,⟨hx,G,I⟩,rfl⟩
     exact ⟨x,(hv x).1 hx,V,G,I⟩
   · rintro ⟨x,hx,rfl,G,I⟩
     exact ⟨x,⟨(hv x).2 hx,G,I⟩,V⟩
 · have:=ZO vs t
   have:=X.1;omega
variable{mp ip:Nat}
theorem lV(W:El qs es ck lm)(hq:∀x∈qs,BG x.2)(hl:qs.length<=500):BQ prog 100 #[I1 ip] [[(ip,.cells #[.map (some mp),.pointer none] 166 (0,0))],[(mp,.map es ck)]] (fun r H'=>∃lp ML sc jn,r=I1 lp/\PH sc jn lp ML/\JI qs sc jn/\H'=[[(ip,.cells #[.map (some mp),I1 lp] 166 (0,0))],[(mp,.map es ck)],ML]):=by
 have hml:=mL;have hll:=W.len
 refine Se func100 ntmps100 [0] ?_;intro u R;refine A3<|AH Y<|B7 Y<|Zp Y V<|Zh 1 SJ V rfl cX Y<|Zl isAgg164 Y ?_;refine Zv (Jl underlying164 Y Y)<|A5<|AY Y (fun hb=>by cases hb)<|fun hb=>AC<|CD<|Ze (DK)<|AF fun ma=>AH Y<|A3<|Ze (DK)<|AF fun mz=>Ze (DK)<|AF fun mj=>Zv (BM (vs:=[(0,_),(1,_)]) (cs:=#[_,_]) Y (Aa (pl:=#[(0,1),(1,1)]) zeroValue265 iS (fun _=>by kernel_rfl) V))<|Ze (Bx #[_,_])<|AF fun lp=>B1 Y<|Zn [0,3,4] ?_;refine Zx<|B7 Y<|Zp Y V<|Zh 0 SJ V rfl eJ Y<|Zl eL Y ?_;refine Ze (NI eo Y Wh)<|AF fun ib=>A5<|AP<|Bc<|Bc<|Bc<|Zb [0,3,4,32] ?_;refine Ay (e0:=[]) (fun m e H=>∃(js:List Nat) (seen:Array Nat) (vs:List (Int×QM)) (Z:Array MapEntry) (U:Nat) (lmA:List ((Int×Int)×A2)) (J:Array MapEntry) (G:Nat) (kv:List (Int×A2)) (X MJ MK:List A8),m=lm.length -js.length/\(Ii es js seen/\au lm js vs/\Ck K2 Z U lmA/\(∀p∈lmA,KD p.1)/\vX vs lmA X/\Ck (fun n:Int=>Value.int .i64 n) J G kv/\ay vs kv (MJ++MK))/\e=[]/\H=[[(ib,.mapIter (some mp) ck seen ck)],[(ma,.map Z U)],[(mj,.map J G)],X,MJ,MK]) (by exact ⟨[],#[],[],#[],0,[],#[],0,[],[],[],[],V,⟨KE _,⟨V,fun x=>by simp⟩,EX _,fun p hp=>by simp at hp,aC _ _,EX _,aC _ _⟩,V,V⟩) Wp ?_;rintro _ _ _ ⟨js,seen,vs,Z,U,lmA,J,G,kv,X,MJ,MK,rfl,⟨gq,j5,B,d9,p9,ek,pg⟩,rfl,rfl⟩;have zu:=F8 es.size js gq.nodup gq.lt
 rw [W.map.size]at zu;refine A3<|Ze (PN W.map gq Y Wo Wh) ?_;rintro _ _ qb;rcases qb with⟨af,rfl,rfl⟩|⟨jn,pn,seen2,hpn,hjn,hi2,rfl,rfl⟩
 ·
  have zl:=af;have l9:=gq
  refine Zd Y V<|A5<|Zq<|AY Y (fun hb=>by cases hb)<|fun hb=>BB<|Zt<|Zt<|AV<|Zx<|B7 Y<|Ze (NI underlying261 Y Wh)<|AF fun ic=>A5<|AP<|Bc<|Zb [0,4,79] ?_;refine Ay (e0:=[]) (fun m e H=>∃(ks:List Nat) (seen:Array Nat) (g:Int×Int->List IvM) (K:Array MapEntry) (I:Nat) (l5:List ((Int×Int)×A2)) (X MB:List A8),m=lmA.length -ks.length/\(Ii Z ks seen/\Ck K2 K I l5/\(∀p,p∈l5↔∃k∈ks,lmA[k]?=some p)/\U9 4 270 lmA (fun k=>(g k).length) (fun k=>CG (g k)) (X++MB)/\(∀j p,lmA[j]?=some p->if j∈ks then Qm (Eh vs p.1) (g p.1)else g p.1=Eh vs p.1))/\e=[]/\H=[[(ic,.mapIter (some ma) U seen U)],[(mz,.map K I)],X,MB]) (by exact ⟨[],#[],Eh vs,#[],0,[],X,[],rfl,⟨KE _,EX _,fun p=>by simp,by rw [DQ];exact p9,fun j p _=>by simp⟩,rfl,rfl⟩) Wp ?_;rintro _ _ _ ⟨ks,seen,g,K,I,l5,X,MB,rfl,⟨cO,ve,p8,sj,pq⟩,rfl,rfl⟩;have Gw:=F8 Z.size ks cO.nodup cO.lt
  rw [B.size]at Gw;refine A3<|Ze (PN B cO Y Wo Wh) ?_;rintro _ _ qb;rcases qb with⟨af,rfl,rfl⟩|⟨jn,pn,seen2,hpn,hjn,hi2,rfl,rfl⟩
  ·
   refine Zd Y V<|A5<|Zq<|AY Y (fun hb=>by cases hb)<|fun hb=>BB<|Zt<|Zt<|AV<|Zx<|Zq<|CK (s1:=[(lp,Obj.cells #[.map (some mz),.map (some mj)] 265 (0,0))]) (s2:=[(mz,Obj.map K I)]) Wo Wo ?_;refine CK (s1:=([(lp,Obj.cells #[.map (some mz),.map (some mj)] 265 (0,0))]++[(mz,Obj.map K I)])) (s2:=[(mj,Obj.map J G)]) Wo Wo ?_;refine CK (s1:=(([(lp,Obj.cells #[.map (some mz),.map (some mj)] 265 (0,0))]++[(mz,Obj.map K I)])++[(mj,Obj.map J G)])) (s2:=X) Wo Wo ?_;refine CK (s1:=((([(lp,Obj.cells #[.map (some mz),.map (some mj)] 265 (0,0))]++[(mz,Obj.map K I)])++[(mj,Obj.map J G)])++X)) (s2:=MB) Wo Wo ?_;refine CK (s1:=(((([(lp,Obj.cells #[.map (some mz),.map (some mj)] 265 (0,0))]++[(mz,Obj.map K I)])++[(mj,Obj.map J G)])++X)++MB)) (s2:=MJ) Wo Wo ?_;refine CK (s1:=((((([(lp,Obj.cells #[.map (some mz),.map (some mj)] 265 (0,0))]++[(mz,Obj.map K I)])++[(mj,Obj.map J G)])++X)++MB)++MJ)) (s2:=MK) Wo Wo ?_;refine Zg<|Zm Y<|Zm Y<|Zp Y V<|Zh 1 SJ V rfl cX Y<|Xe (Zs cX Y Y V) ?_;refine A5<|AN Y<|Ax Y<|AX V results100 Y (by
    have FT:=F8 es.size js l9.nodup l9.lt;rw [W.map.size]at FT;obtain ⟨zf,zi⟩:=eu W A0 j5 zl B.keys p9 ek pg ve d9 p8 sj pq af (lp:=lp) (mz:=mz) (mj:=mj) (ML:=(((((([(lp,Obj.cells #[.map (some mz),.map (some mj)] 265 (0,0))]++[(mz,Obj.map K I)])++[(mj,Obj.map J G)])++X)++MB)++MJ)++MK)) B6 B6 B6 (fun c hc=>by simp only [CI]at hc⊢;rcases hc with hc|hc<;>simp [hc]) (fun c hc=>by simp only [CI]at hc⊢;rcases hc with hc|hc<;>simp [hc]);exact ⟨lp,_,_,_,V,zf,zi,V⟩)
  refine Zd Y V<|A5<|Zq<|AY Y (fun hb=>?_) (fun hb=>?_);·
   have sM:=F8 Z.size (ks++[jn]) hi2.nodup hi2.lt;rw [B.size,C2,G0]at sM;have LD:(ks++[jn]).length=ks.length+1:=by rw [C2];rfl
   refine B4<|AP<|A3<|CO (cs:=[(ic,.mapIter (some ma) U seen2 U),(ma,.map Z U)]) B6 (J8 B hi2 hpn Y) V rfl ?_;refine Zd Y V<|Zd Y V<|Ze (Al ml #[_,_])<|AF fun kb=>Xe (Xw sizeOf267 #[I0 pn.1.1,I0 pn.1.2]) ?_;refine B1 Y<|Zx ?_;have zm:g pn.1=Eh vs pn.1:=by have h:=pq jn pn hpn;rwa [As hjn]at h
   have zq:(g pn.1).length<=1000000:=by rw [zm];have:=TE vs pn.1;have:=j5.1;omega
   have Gl:∀p∈l5,KD p.1:=fun p hp=>by
    obtain ⟨k,_,hk⟩:=(p8 p).1 hp;exact d9 p (E7 hk)
   have Hf:KD pn.1:=d9 pn (E7 hpn);obtain ⟨sA,cu,O,ax,gm⟩:=Q5 B.keys sj pn.1;rw [Cw B.keys (E7 hpn)]at O;refine CK (s1:=X) (s2:=MB) Wo Wo ?_;refine Tu (M:=X++MB) Wo ax ?_;refine Aw (n:=8) (0::1::3::7::0::0::32::127::[]) 192 AD AD V<|A1 0 V (AQ Y)<|A1 1 V (Aq Y V)<|A1 2 V (AB (off:=0) iS V rfl sizeOf262 Y)<|Bk 3 V isAgg262 Y ?_;refine GB 4 V Wh (AA (cs:=#[_,_]) isAgg267 sizeOf267 Y Wn (Au V)) ?_;refine A1 5 V (AQ Y)<|Zz (l:=[6])<|C0 [true,true] [(4,(_,_)),(3,(_,_))] V rfl (Zw [_] Y call152 Y V (eP _ (g pn.1) sA zq O)) ?_ Bz Am;rintro _ _ ⟨_,⟨rfl,s2,l2,o2,MP,P5,HZ,x9,MS,rfl⟩,rfl⟩;refine CA<|Yw 7 255 V (FD SL underlying262 ve Gl (Hf) Y Y Y Wo) ?_;rintro _ _ ⟨rfl,za,y9,P6,Mx,MC,rfl⟩;refine Ao<|Zn [0,4,79] ?_;refine A9<|HB (by exact ⟨ks++[jn],seen2,fun k=>if k=pn.1 then l2 else g k,za,y9,P6,s2,cu,V,⟨hi2,Mx,bW B.keys hpn hjn p8 MC,yJ (gm pn.2 s2 _ _ lmA B.keys (lT B.keys hpn) MS),gI B.keys hpn hjn pq ⟨o2,MP,P5,HZ,x9⟩⟩,V,V⟩)
  cases hb
 obtain ⟨x,hx,rfl⟩:=(W.mem pn).1 (E7 hpn);have qw:=hq x hx
 refine Zd Y V<|A5<|Zq<|AY Y (fun hb=>?_) (fun hb=>?_);·
  have sw:=F8 es.size (js++[jn]) hi2.nodup hi2.lt;rw [W.map.size,C2,G0]at sw;have LD:(js++[jn]).length=js.length+1:=by rw [C2];rfl
  have hvj:=j5.1;have Y2:=TE vs (plQ x)
  have Tp:=ZO vs x.2.ot;have ow:=bX j5 hpn
  refine B4<|AP<|A3<|CO (cs:=[(ib,.mapIter (some mp) ck seen2 ck),(mp,.map es ck)]) B6 (J8 W.map hi2 hpn Y) V rfl ?_;refine Zd Y V<|Zd Y V<|Ze (Al Q1 #[_,_,_,_,_,_,_])<|AF fun xb=>Za Y<|Xe (Xw D4 #[I0 x.2.kd,I0 x.2.tb,I0 x.2.cl,I0 x.2.lo,I0 x.2.hi,I0 x.2.bq,I0 x.2.ot]) ?_;refine A5<|A3<|Zo Wh (AA (cs:=#[_,_,_,_,_,_,_]) FG D4 Y Wn (Au V)) ?_;refine Zc [_] Y call133 Y V (jv x.2 qw) ?_;rintro _ _ ⟨_,⟨rfl,rfl⟩,rfl⟩;refine Zm Y<|Zd Y V<|Zd Y V<|Zd Y V<|Zd Y V<|Za Y<|Za Y<|Za Y<|B1 Y<|Zn [0,3,4,5,6,7,8,9,10,32] ?_;refine Zx<|AN Y<|Zm Y<|Zv (BM (vs:=[(0,_),(1,_)]) (cs:=#[_,_]) Y (Aa (pl:=#[(0,1),(1,1)]) ml j1 (fun _=>by kernel_rfl) V))<|Ze (Al ml #[_,_])<|AF fun pb=>Xe (BF sizeOf267 Y Y (by(simp [Value.oneCell',Value.cells];done)) Wu (by exact (rfl:_=(#[I0 x.2.tb,I0 x.2.cl]:AM))) Fm Wn (by exact BA _)) ?_;refine A5<|Zq ?_;obtain ⟨sA,cu,O,ax,gm⟩:=nG B.keys p9 x;obtain ⟨qo,Qd,wz⟩:=O.form;rw [wz]at O;have pz:KD (plQ x):=⟨Uf (by have:=qw.1;simp [plQ];omega),Uf (by have:=qw.2.1;simp [plQ];omega)⟩
  refine Tu (M:=X) Wo ax ?_;refine Zg<|Zm Y<|Zo Wh (AA (cs:=#[_,_]) isAgg267 sizeOf267 Y Wn (Au V)) ?_;refine Zm Y<|Zm Y<|Zm Y<|Zv (BM (vs:=[(0,_),(1,_),(3,_)]) (cs:=#[_,_,_,_]) Y (Aa (pl:=#[(0,1),(1,1),(2,1),(3,1)]) zeroValue270 ao (fun _=>by kernel_rfl) V))<|Ze (Ah (vs:=[_]) (cs:=[_,_,_,_]) cV RK zeroValue270 Y V rfl V rfl V)<|AF fun gb=>Ze (KP SL underlying261 zeroValue268 B d9 (pz) (wz) Y Y Wo) ?_;rintro _ _ ⟨Ta,T9,lm3,j3,st3,rfl,LP,zt,zk,vw,rfl⟩;refine Zd Y V<|Ze (BS (by_:=32) (sz:=4) cV (V:Tryz.prog.info? 270=some Tryz.t270) V rfl V rfl Y (O) Y (Dn 4 gb 1 1 270 (0,0) [I0 (Qr x).lo,I0 (Qr x).hi,I0 (Qr x).rc,I0 (Qr x).id] V) Wo Wo HQ A0 A0) ?_;rintro _ _ ⟨qy,o9,rfl⟩;have vo:=Bb o9 (n':=(Eh vs (plQ x)++[Qr x]).length) (xs':=CG (Eh vs (plQ x)++[Qr x])) (by rw [C2];rfl) (by rw [ZH];rfl)
  obtain ⟨Tm,Rl,rfl⟩:=o9.form;refine Zd Y V<|Ze (Ik LP zt zk Y Y Y Wo) ?_;rintro _ _ ⟨rfl,r9,qz,qx,q9,vz,rfl⟩;refine Z0<|Zn [0,3,4,5,6,32] ?_;refine Zx<|Zq ?_;have sD:∀p∈qx,KD p.1:=fun p hp=>by
   rcases (vz p).1 hp with rfl|⟨h,_⟩
   · exact pz
   · rcases (vw p).1 h with rfl|⟨h,_⟩
     · exact pz
     · exact d9 p h
  have l8:=gm _ _ _ q9.keys (fun p=>by rw [vz,vw];exact O6 _ _ _ _) vo;refine CK (s1:=qy) (s2:=cu) Wo Wo ?_;refine Zg<|Zh 0 DB V rfl A6 Y<|Zl AE Y ?_;refine Zv (CJ Y Y)<|A5<|Ap Y (fun h7=>?_) (fun h7=>?_);·
   obtain ⟨sJ,y5,bn,gy,ql⟩:=nD ek.keys pg x h7;obtain ⟨qj,Ps,wo⟩:=bn.form;rw [wo]at bn;refine CK (s1:=MJ) (s2:=MK) Wo Wo ?_;refine Tu (M:=MJ++MK) Wo gy ?_;refine Aw (n:=17) (0::1::3::7::0::16::0::64::192::448::0::1024::4032::0::8192::32704::65535::[]) 114688 AD AD V<|A1 0 V (AQ Y)<|A1 1 V (Aq Y V)<|A1 2 V (AB (off:=1) iS V rfl sizeOf263 Y)<|Bk 3 V isAgg263 Y ?_;refine A1 4 V (AB (off:=6) DB V rfl A6 Y)<|Bk 5 V AE Y ?_;refine A1 6 V (AQ Y)<|A1 7 V (Aq Y V)<|A1 8 V (AB (off:=1) iS V rfl sizeOf263 Y)<|Bk 9 V isAgg263 Y ?_;refine A1 10 V (AB (off:=6) DB V rfl A6 Y)<|Bk 11 V AE Y ?_;refine GB 12 V Wh (De (Cc D3 (D:=fun _=>True)) underlying263 zeroValue39 ek (fun _ _=>trivial) (trivial) (wo) Y Y) ?_;refine A1 13 V (AQ Y)<|Zz (l:=[14])<|C0 [true,true,true,true,true] [(12,(_,_)),(11,(_,_)),(9,(_,_)),(5,(_,_)),(3,(_,_))] V rfl (Ah (vs:=[_]) (cs:=[_]) DS A6 HX Y V rfl V rfl V) ?_ (fun _ _ h=>h.elim) Am;rintro _ _ ⟨gj,rfl,rfl⟩;refine CA<|Yz 15 32704 65535 [12,11,9,5,3] [false,false,false,true,true] [(5,(_,_)),(3,(_,_))] V Y V rfl V rfl (BS (by_:=8) (sz:=1) DS (V:Tryz.prog.info? 3=some Tryz.t3) V rfl V rfl Y (bn) Y (Dn 1 gj 1 1 3 (0,0) [I0 x.1] V) Wo Wo HQ A0 A0) ?_;rintro _ _ ⟨Pn,o8,rfl⟩;refine ⟨Zk (Zk (Ac)),?_⟩;have qa:=Bb o8 (n':=(FP vs x.2.ot++[x.1]).length) (xs':=(FP vs x.2.ot++[x.1]).map fun i=>Value.int .i64 i) (by rw [C2];rfl) (by rw [CN];rfl)
   obtain ⟨Tg,Qe,rfl⟩:=o8.form;refine Yw 16 131071 V (FD (Cc D3 (D:=fun _=>True)) underlying263 ek (fun _ _=>trivial) (trivial) Y Y Y Wo) ?_;rintro _ _ ⟨rfl,zb,yt,P7,sO,ME,rfl⟩;refine Ao<|Zn [0,3,4,32] ?_;refine A9<|HB (by exact ⟨js++[jn],seen2,vs++[x],r9,qz,qx,zb,yt,P7,qy++cu,Pn,y5,V,⟨hi2,ow,q9,sD,l8,sO,ql _ _ _ sO.keys ME qa⟩,V,V⟩)
  refine AC<|A9<|HB (by exact ⟨js++[jn],seen2,vs++[x],r9,qz,qx,J,G,kv,qy++cu,MJ,MK,V,⟨hi2,ow,q9,sD,l8,ek,nE pg x h7⟩,V,V⟩)
 cases hb
theorem lW:BQ prog 100 #[I1 ip] [[(ip,.cells #[.map (some mp),I1 lp] 166 (0,0))]] (fun r H'=>r=I1 lp/\H'=[[(ip,.cells #[.map (some mp),I1 lp] 166 (0,0))]]):=by
 refine Se func100 ntmps100 [0] ?_;intro u R;refine A3<|AH Y<|B7 Y<|Zp Y V<|Zh 1 SJ V rfl cX Y<|Zl isAgg164 Y<|Zv (N8 underlying164 Y Y)<|A5<|AY Y (fun m=>?_) (fun m=>?_);·
  refine AN Y<|Zp Y V<|Zh 1 SJ V rfl cX Y<|Zl isAgg164 Y<|Ax Y<|Zt<|AX V results100 Y (by exact ⟨V,V⟩)
 cases m
theorem Hz{r:AU}:r∈FI c↔(c.had=true/\r=⟨c.t,c.k,c.o⟩)\/(c.has=true/\r=⟨c.t,c.k,c.n⟩):=by
 unfold FI IW;rw [CI];cases c.had<;>cases c.has<;>simp
theorem NP(h:c.ok){r:AU}(G:r∈FI c):r.ok:=by
 obtain ⟨_,h2,_,_⟩:=h;rcases Hz.1 G with⟨m,rfl⟩|⟨m,rfl⟩
 · have e:c.before=⟨c.t,c.k,c.o⟩:=by unfold Chg.before;rw [B0 m]
   rw [e]at h2;exact cJ fun B=>h2 (.inl ⟨m,B⟩)
 · have e:c.after=⟨c.t,c.k,c.n⟩:=by unfold Chg.after;rw [B0 m]
   rw [e]at h2;exact cJ fun B=>h2 (.inr ⟨m,B⟩)
theorem bL(h:c.ok):∀r∈FI c,∀n:Nat,n<4->-1000000000000<=Dk r n/\Dk r n<=1000000000000:=fun r G n _=>by
 obtain ⟨⟨m,h2,B⟩,I,J⟩:=NP h G;simp only [inV]at m h2 B;unfold Dk;split;· omega
 · split
   · omega
   · split<;>omega
theorem bN(h:c.ok):0<=c.t/\c.t<=3:=by
 have h0:c.had=true\/c.has=true:=by
  obtain ⟨m,_⟩:=h;cases e1:c.had<;>cases e2:c.has<;>simp_all
 rcases h0 with h0|h0
 · exact (NP h (Hz.2 (.inl ⟨h0,rfl⟩))).2.1
 · exact (NP h (Hz.2 (.inr ⟨h0,rfl⟩))).2.1
theorem A10{q:QM}(h:Nt q c=true):∃r∈FI c,inQ q r=true:=by
 unfold Nt bfQ afQ Ia at h;rw [TO]at h;rcases h with h|h
 · split at h
   · rename_i h1
     rw [Gk]at h1;exact ⟨_,Hz.2 (.inl ⟨h1.1,V⟩),h1.2⟩
   · cases h
 · split at h
   · rename_i h1
     rw [Gk]at h1;exact ⟨_,Hz.2 (.inr ⟨h1.1,V⟩),h1.2⟩
   · cases h
theorem jf{q:QM}(B:BG q)(h:Cr q c=true):Nt q c=true\/(q.kd=7/\c.t=q.ot):=by
 have hn:Nt q c=false->UO q c=false/\mQ q (bfQ q c)=mQ q (afQ q c):=fun h=>by
  unfold Nt at h;unfold UO;rw [ke]at h;obtain ⟨m,h2⟩:=h;rw [m,h2];rw [Option.isSome_eq_false_iff,Option.isNone_iff_eq_none]at m h2;rw [m,h2];exact ⟨rfl,rfl⟩
 cases ha:Nt q c with
 |true=>exact .inl rfl
 |false=>
  obtain ⟨m,h2⟩:=hn ha;unfold Cr at h;rw [ha,m,h2]at h;obtain ⟨_,_,_,G⟩:=B;right;simp at h;exact ⟨by omega,h.2.2.2.2⟩
theorem sG(B:JI qs sc jn){i:Int}(h:i∈NA sc jn c):∃x∈qs,x.1=i:=by
 unfold NA at h;rcases CI.1 h with h|h
 · obtain ⟨r,_,h⟩:=T6.1 h
   obtain ⟨n,_,h⟩:=T6.1 h;obtain ⟨x,hx,m,_⟩:=(B.scan _ _ _ _).1 h;exact ⟨x,hx,m⟩
 · obtain ⟨x,hx,m,_⟩:=(B.join _ _).1 h
   exact ⟨x,hx,m⟩
theorem ux(m:El qs es ck lm){x y:Int×QM}(hx:x∈qs)(hy:y∈qs)(B:x.1=y.1):x=y:=by
 have G:∀{l:List (Int×QM)},(l.map (·.1)).Nodup->x∈l->y∈l->x=y:=fun{l}=>by
  induction l with
  |nil=>intro _ h;cases h
  |cons a l ih=>
   intro hn I h2;rw [F2,JT]at hn;rcases Dg.1 I with h3|h3
   · rcases Dg.1 h2 with h4|h4
     · rw [h3,h4]
     · exact absurd (by rw [<-h3,B];exact Ek h4) hn.1
   · rcases Dg.1 h2 with h4|h4
     · exact absurd (by rw [<-h4,<-B];exact Ek h3) hn.1
     · exact ih hn.2 h3 h4
 exact G m.ids hx hy
theorem eT(B:JI qs sc jn){x:Int×QM}(hx:x∈qs)(G:BG x.2)(h:Cr x.2 c=true):x.1∈NA sc jn c:=by
 unfold NA;rcases jf G h with h|⟨h7,m⟩
 · obtain ⟨r,I,hi⟩:=A10 h
   unfold inQ at hi;rw [H4]at hi;have hc:=G.2.1
   have hv:=LG r x.2.cl.toNat A0;rw [show((x.2.cl.toNat:Nat):Int)=x.2.cl by omega]at hv;have m:r.t=c.t:=by rcases Hz.1 I with⟨_,rfl⟩|⟨_,rfl⟩<;>rfl
   refine Fc _ (T6.2 ⟨r,I,T6.2 ⟨x.2.cl.toNat,My.2 A0,?_⟩⟩);refine (B.scan _ _ _ _).2 ⟨x,hx,V,?_,by omega,by omega⟩;unfold plQ;rw [show((x.2.cl.toNat:Nat):Int)=x.2.cl by omega,<-m,hi.1]
 · exact HC _ ((B.join _ _).2 ⟨x,hx,rfl,h7,m.symm⟩)
def WF(qs:List (Int×QM))(lv:A2)(ML:List A8):Prop:=(lv= .pointer none/\ML=[])\/∃lp sc jn,lv=I1 lp/\PH sc jn lp ML/\JI qs sc jn
theorem gK{P:Program}{f:FuncId}{args:AM}{H1 m:Hp}{Q:A2->Hp->Prop}(h:BQ P f args H1 Q)(e:m.flatten=H1.flatten):BQ P f args m Q:=fun u R w B=>h u R w (B.perm (by rw [HR,HR,e]))
theorem sU(B:El qs es ck lm)(J:∀x∈qs,BG x.2)(I:qs.length<=500){lv:A2}(G:WF qs lv ML):
 BQ prog 100 #[I1 ip] [[(ip,.cells #[.map (some mp),lv] 166 (0,0))],[(mp,.map es ck)],ML] (fun r H'=>∃lp m sc jn,r=I1 lp/\PH sc jn lp m/\JI qs sc jn/\H'=[[(ip,.cells #[.map (some mp),I1 lp] 166 (0,0))],[(mp,.map es ck)],m]):=by
 rcases G with⟨rfl,rfl⟩|⟨lp,sc,jn,rfl,h1,h2⟩
 · refine (gK (H1:=[[(ip,.cells #[.map (some mp),.pointer none] 166 (0,0))],[(mp,.map es ck)]]) (lV B J I) B6).mono ?_
   exact fun v H' h=>h
 · refine (gJ lW [[(mp,.map es ck)],ML]).mono ?_
   rintro v H' ⟨H1,⟨rfl,rfl⟩,rfl⟩;exact ⟨lp,ML,sc,jn,V,h1,h2,V⟩
structure I8(S:Int->Prop)(es:Array MapEntry)(ck:Nat)(lm:List (Int×A2)):Prop where
 map:Ck (fun n:Int=>Value.int .i64 n) es ck lm
 val:∀p∈lm,p.2= .bool true
 mem:∀i,i∈lm.map (·.1)↔S i
theorem fq:I8 (fun _=>False) #[] 0 []:=⟨EX _,fun p h=>by simp at h,fun i=>by simp⟩
variable{S:Int->Prop}
theorem I8.get(h:I8 S es ck lm)(i:Int) [Decidable (S i)]:(EL i lm).getD (.bool false)= .bool (decide (S i)):=by
 by_cases hi:S i
 · obtain ⟨p,m,rfl⟩:=CM.1 ((h.mem i).2 hi)
   rw [Cw h.map.keys m,h.val p m,DO hi];rfl
 · rw [DN fun p m B=>hi ((h.mem i).1 (CM.2 ⟨p,m,B⟩)),F0 hi];rfl
theorem I8.cong{T:Int->Prop}(h:I8 S es ck lm)(e:∀i,S i↔T i):I8 T es ck lm:=⟨h.map,h.val,fun i=>(h.mem i).trans (e i)⟩
theorem I8.put{J:Array MapEntry}{I:Nat}{G:List (Int×A2)}(h:I8 S es ck lm){i:Int}(U:Ck (fun n:Int=>Value.int .i64 n) J I G)(K:∀p,p∈G↔p=(i,.bool true)\/(p∈lm/\p.1≠i)):I8 (fun j=>S j\/j=i) J I G:=by
 refine ⟨U,fun p m=>?_,fun j=>?_⟩
 · rcases (K p).1 m with rfl|⟨h1,_⟩
   · rfl
   · exact h.val p h1
 · rw [<-h.mem]
   constructor
   · intro O
     obtain ⟨p,m,rfl⟩:=CM.1 O;rcases (K p).1 m with rfl|⟨h1,_⟩
     · exact .inr rfl
     · exact .inl (Ek h1)
   · intro O
     by_cases B:j=i
     · subst B;exact CM.2 ⟨_,(K _).2 (.inl rfl),rfl⟩
     · obtain ⟨p,m,rfl⟩:=CM.1 (O.resolve_right B)
       exact CM.2 ⟨p,(K p).2 (.inr ⟨m,B⟩),V⟩
theorem I8.len(h:I8 S es ck lm)(I:∀i,S i->∃x∈qs,x.1=i):lm.length<=qs.length:=by
 have G:∀{a b:List Int},a.Nodup->(∀x∈a,x∈b)->a.length<=b.length:=fun{a b}=>by
  induction a generalizing b with
  |nil=>intro _ _;exact C7 _
  |cons x a ih=>
   intro hn B;obtain ⟨hx,hn⟩:=JT.1 hn;have h2:=ih (b:=b.erase x) hn fun y hy=>by
    have m:y≠x:=fun e=>hx (e▸hy);exact (List.mem_erase_of_ne m).2 (B y (G3 _ hy))
   have K:=pB (B x (Fo ..));have O:=List.length_pos_of_mem (B x (Fo ..))
   rw [EV];omega
 have h2:=G (a:=lm.map (·.1)) (b:=qs.map (·.1)) h.map.keys fun i hi=>by
  obtain ⟨x,hx,J⟩:=I i ((h.mem i).1 hi);exact CM.2 ⟨x,hx,J⟩
 simpa using h2
def JJ(qs:List (Int×QM))(cs:List Chg)(i:Int):Prop:=∃x∈qs,x.1=i/\∃c∈cs,Cr x.2 c=true
end Go.Proofs.YtelliknjeemfoaaGreatDoor
namespace Go.Proofs.YtelliknjeemfoaaGreatDoor
open Go.Proofs.Tryz
open Go Go.RowKit Gw
set_option maxRecDepth 100000
attribute [local irreducible] Gw.At Gw.Nx Gw.Ops
open Go.Sort
theorem SY{κ:Type}{l:List (κ×A2)}{js:List Nat}(hn:js.Nodup)(G:∀j∈js,j<l.length):∃m,((DJ l js).map (·.1)++m).Perm (l.map (·.1)):=by
 have J:(js++(List.range l.length).filter fun j=>decide (j∉js)).Perm (List.range l.length):=(Sh (HN.2 ⟨hn,(kj).sublist Z1,fun a B b I=>by
  have:=(GP.1 I).2;simp only [H4]at this;intro h;subst h;exact this B⟩) kj).2 fun a=>by
  simp only [CI,GP,My,H4];constructor
  · rintro (h|h)
    · exact G a h
    · exact h.1
  · intro h
    by_cases B:a∈js
    · exact .inl B
    · exact .inr ⟨h,B⟩
 have h:=(J.filterMap (fun j=>l[j]?)).map (·.1);rw [fy,CN,show(List.range l.length).filterMap (fun j=>l[j]?)=DJ l (List.range l.length) from rfl,N7]at h;exact ⟨_,h⟩
def Mi{κ:Type}(l:List (κ×A2))(p:List κ):Prop:=∃rest,(p++rest).Perm (l.map (·.1))
theorem Mi.len{κ:Type}{l:List (κ×A2)}{p:List κ}{x:κ}(h:Mi l (p++[x])):p.length<l.length:=by
 obtain ⟨r,h⟩:=h;have:=h.length_eq
 simp at this;omega
theorem bU{v:A2}{zs:List Int}{s:List A8}(O:Row 3 v (zs.map (Value.int .i64)) s)(X:zs.length<=1000000):BQ prog 157 #[v] [s] (fun r H'=>∃(zs':List Int) (s':List A8),r= .tuple #[]/\zs'.Perm zs/\(zs'.Pairwise fun x y=>x<=y)/\Row 3 v (zs'.map (Value.int .i64)) s'/\H'=[s']):=fun u R w J=>by
 have m:=(q6 zs fun x y=>decide (x<=y)).length_eq;have G:(zs.mergeSort fun x y=>decide (x<=y)).Pairwise fun x y=>x<=y:=by
  have h:=List.pairwise_mergeSort (le:=fun x y:Int=>decide (x<=y)) (fun a b c W h2=>by simp only [H4]at*;omega) (fun a b=>by simp only [TO,H4];omega) zs;simpa only [H4]using h
 rcases O with⟨rfl,h0,rfl⟩|⟨g,cap,cur,z,rfl,rfl,hle,hcm,hcs,htk,hfr⟩
 · have hx:zs=[]:=by simpa using h0
   subst hx;refine (Tryz.slices_Sort_int_none none 0 w).mono ?_;rintro e U ⟨rfl,rfl⟩;exact .inl ⟨_,[[]],V,⟨[],[],V,.refl _,.nil,by simp [IB],V⟩,J⟩
 · rw [Bm]at hle htk⊢
   have B:Sat u ([(g,.cells cur 3 z)]::R) w:=by simpa using J
   have I:=B.get (g,.cells cur 3 z) B6;have K:=TL I A0 hfr htk
   refine (Tryz.slices_Sort_int g 0 cap zs w K (Hj.1 I).1 A0).mono ?_;rintro e U ⟨rfl,n,os,rfl⟩;refine .inl ⟨_,[[(g,.cells (putCells (Value.int .i64) 0 (zs.mergeSort fun x y=>decide (x<=y)).toArray cur) 3 z)]],V,⟨_,_,V,q6 _ _,G,?_,V⟩,by simpa using B.sorted (n:=n) _ os⟩;refine .inr ⟨g,cap,_,z,by rw [Bm,m],rfl,by rw [Bm,m];exact hle,hcm,by rw [MH];exact hcs,?_,by rw [MH];exact hfr⟩;rw [Bm];exact YL _ _ A0
theorem fI(mi:Nat):BQ prog 103 #[.map (some mi)] [] (fun r H'=>∃b,r= .func (.func 158) #[] #[I1 b]/\H'=[[(b,.cells #[.map (some mi)] 194 (0,0))]]):=by
 refine Se func103 ntmps103 [0] ?_;intro u R;refine A3<|Ze (Bx #[_])<|AF fun b=>AH Y<|A3<|Zv (Bg (vs:=[]) (us:=[_]) Y Y)<|Ax Y<|AX V results103 Y (by exact ⟨b,V,V⟩)
variable{es:Array MapEntry}{ck:Nat}{lm:List (Int×A2)}
theorem fJ(W:Ck (fun n:Int=>(Value.int .i64) n) es ck lm)(b mi:Nat):KL prog 158 #[I1 b] [[(b,.cells #[.map (some mi)] 194 (0,0))]] (fun _ s=>(mi,Obj.map es ck)∈s) (fun x:Int=>#[I0 x]) (Mi lm) (fun ys=>ys.Perm (lm.map (·.1))):=by
 intro l J X hy s G;refine Se func158 ntmps158 [0,1] ?_;intro u R;refine A3<|Zl isAgg194 Y<|Ze (LC underlying194 Y (Eg Wo (X _ s G)))<|AF fun ib=>A5<|AP<|Zb [0,5] ?_;refine Ay (e0:=[]) (fun m e H=>∃(js:List Nat) (seen:Array Nat) (s:List A8),m=lm.length -js.length/\(Ii es js seen/\J ((DJ lm js).map (·.1)) s)/\e=[]/\H=[[(ib,.mapIter (some mi) ck seen ck)],s]) (by exact ⟨[],#[],s,V,⟨KE _,G⟩,V,V⟩) Wp ?_;rintro _ _ _ ⟨js,seen,s,rfl,⟨K,G⟩,rfl,rfl⟩;have Z:=F8 es.size js K.nodup K.lt
 rw [W.size]at Z;refine A3<|Ze (NJ W K Y Wo (Eg Wo (X _ s G))) ?_;rintro _ _ ax;rcases ax with⟨I,rfl,rfl⟩|⟨jn,pn,seen2,hpn,hjn,hi2,rfl,rfl⟩
 ·
  refine Zd Y V<|A5<|Zq<|AY Y (fun B=>by cases B)<|fun B=>BB<|Zt<|Zt<|AV<|D6 V results158 (by exact ⟨_,s,I.map _,V,G⟩)
 refine Zd Y V<|A5<|Zq<|AY Y (fun B=>?_) (fun B=>?_);·
  have U:=F8 es.size (js++[jn]) hi2.nodup hi2.lt;rw [W.size,C2,G0]at U;have cO:(js++[jn]).length=js.length+1:=by rw [C2];rfl
  have bn:Mi lm ((DJ lm js).map (·.1)++[pn.1]):=by
   have h:=SY (l:=lm) hi2.nodup (fun j hj=>by rw [<-W.size];exact hi2.lt j hj);rw [G7 lm js hpn,CN]at h;exact h
  have cu:=hy ((DJ lm js).map (·.1)) pn.1 s bn G;refine B4<|AP<|Zq<|Zg ?_;have af:=X _ s G
  refine CO (cs:=[(ib,.mapIter (some mi) ck seen2 ck),(mi,.map es ck)]) (by simp [af]) (J8 W hi2 hpn Y) V rfl<|Zd Y V<|AH Y<|AN Y<|Zm Y<|Ze (GX (vs:=[_]) Y Y (cu) Wp) ?_;rintro _ _ ⟨_,⟨s',rfl,rfl,O⟩,rfl⟩;rw [show(DJ lm js).map (·.1)++[pn.1]=(DJ lm (js++[jn])).map (·.1) by rw [G7 lm js hpn,CN];rfl]at O;refine Zv (Bh Y)<|A5<|AY Y (fun B=>by cases B)<|fun B=>AC<|A9<|HB (by exact ⟨js++[jn],seen2,s',V,⟨hi2,O⟩,V,V⟩)
 cases B
variable{M:List A8}
theorem Qy(hm:Ck (fun n:Int=>(Value.int .i64) n) es ck lm)(hn:lm.length<=1000000)(b mi:Nat)(U:(mi,Obj.map es ck)∈M):BQ prog 222 #[.slice none 0 0,.func (.func 158) #[] #[I1 b]] [[(b,.cells #[.map (some mi)] 194 (0,0))],M] (fun r H'=>∃(zs:List Int) (s':List A8),zs.Perm (lm.map (·.1))/\Row 3 r (zs.map (Value.int .i64)) s'/\H'=[M,s']):=by
 have af:=mL;refine Ct func222 V ntmps222 V ?_;intro u R;refine Zb [0,1] ?_;refine A3<|Ze (Bx #[_])<|AF fun bs=>AH Y<|B7 Y<|A5<|AP<|Zb [2,6] ?_;refine Bc<|Iu (H0:=_) (R:=_) (I:=(fun(pre:List Int) H=>∃B s2,H=[[(bs,.cells #[B] 39 (0,0))],s2,M]/\Row 3 B (pre.map (Value.int .i64)) s2)) (E:=fun x e Hn=>e=[(5,I0 x),(7,I0 x)]/\Hn=[]) rfl Y call158 (fJ hm b mi) (fun pre H1 c d h=>by obtain ⟨B,s2,rfl,_⟩:=h;simp [U]) Y rfl Wp (⟨_,[],rfl,IB _⟩) ?ha_2 ?hbd_2 ?hk_2
 case ha_2=>
  intro _ x _ _;refine Zg<|B1 Y<|Lh (e:=[(5,_),(7,_)]) (Hn:=[]) ?_;exact ⟨V,V⟩
 case hbd_2=>
  intro l pre x u e9 X H1 R1 r9 W Z J;obtain ⟨rfl,rfl⟩:=J;obtain ⟨B,s2,rfl,G⟩:=Z;have ax:=W.len
  obtain ⟨gv,cv,rfl⟩:=G.form;refine AP<|Zg<|Zl db Y<|Zm Y<|Ze (Ah (vs:=[_]) (cs:=[_]) DS A6 HX Y V rfl V rfl V)<|AF fun b2=>Ze (FO (by_:=8) (news:=[_]) DS (V:Tryz.prog.info? 3=some Tryz.t3) V rfl V rfl Y G Y Wo Wh B2 V HQ An (by(simp only [Bm];omega)) (by(simp only [Bm];omega))) ?_;rintro _ _ ⟨sq,m,rfl⟩;obtain ⟨gq,cq,rfl⟩:=m.form;refine Xe (Zs eK Y Y rfl)<|Z0<|A9<|Fq rfl (by exact ⟨_,_,rfl,by rw [CN];exact m⟩)
 intro D1 ys H2 O K;obtain ⟨B,s2,rfl,G⟩:=K;refine Zn [2] ?_;refine A9<|CD<|Zl db Y<|Ax Y<|Gv V (dE results222 Y) Wo (by exact ⟨ys,s2,O,G,V⟩)
theorem UW(B:Ck (fun n:Int=>(Value.int .i64) n) es ck lm)(hn:lm.length<=1000000)(b mi:Nat)(m:(mi,Obj.map es ck)∈M):BQ prog 156 #[.func (.func 158) #[] #[I1 b]] [[(b,.cells #[.map (some mi)] 194 (0,0))],M] (fun r H'=>∃(zs:List Int) (s':List A8),zs.Perm (lm.map (·.1))/\Row 3 r (zs.map (Value.int .i64)) s'/\H'=[M,s']):=by
 refine Se func156 ntmps156 [0] ?_;intro u R;refine A3<|AH Y<|AN Y<|Zc [_,_] Y call222 Y V (Qy B hn b mi m) ?_;rintro _ _ ⟨_,⟨zs,s2,G,I,rfl⟩,rfl⟩;refine Ax Y<|AX V results156 Y (by exact ⟨zs,s2,G,I,V⟩)
theorem WW(U:Ck (fun n:Int=>(Value.int .i64) n) es ck lm)(hn:lm.length<=1000000)(b mi:Nat)(m:(mi,Obj.map es ck)∈M):BQ prog 102 #[.func (.func 158) #[] #[I1 b]] [[(b,.cells #[.map (some mi)] 194 (0,0))],M] (fun r H'=>∃(zs:List Int) (s':List A8),zs.Perm (lm.map (·.1))/\(zs.Pairwise fun x y=>x<=y)/\Row 3 r (zs.map (Value.int .i64)) s'/\H'=[M,s']):=by
 refine Se func102 ntmps102 [0] ?_;intro u R;refine A3<|AH Y<|AN Y<|Zc [_] Y call156 Y V (UW U hn b mi m) ?_;rintro _ _ ⟨_,⟨zs,s2,O,W,rfl⟩,rfl⟩;have J:=O.length_eq
 rw [Bm]at J;refine AH Y<|AN Y<|Zc [_] Y call157 Y V (bU W A0) ?_;rintro _ _ ⟨_,⟨K,X,rfl,B,I,G,rfl⟩,rfl⟩;refine A5<|AN Y<|Ax Y<|AX V results102 Y (by exact ⟨K,X,B.trans O,I,G,V⟩)
end Go.Proofs.YtelliknjeemfoaaGreatDoor
namespace Go.Proofs.YtelliknjeemfoaaGreatDoor
open Go.Proofs.Tryz
open Go Go.RowKit Gw
set_option maxRecDepth 100000
attribute [local irreducible] Gw.At Gw.Nx Gw.Ops
variable{qs:List (Int×QM)}{c:Chg}
theorem uD{sc:Int->Int->List IvM}{jn:Int->List Int}(I:JI qs sc jn)(J:∀x∈qs,BG x.2){cs:List Chg}{k:Nat}(hc:cs[k]?=some c)(i:Int):(JJ qs (cs.take k) i\/(i∈NA sc jn c/\JJ qs [c] i))↔JJ qs (cs.take (k+1)) i:=by
 rw [Bq hc];unfold JJ;constructor
 · rintro (⟨x,hx,G,d,m,B⟩|⟨_,x,hx,G,d,m,B⟩)
   · exact ⟨x,hx,G,d,Fc _ m,B⟩
   · exact ⟨x,hx,G,d,HC _ m,B⟩
 · rintro ⟨x,hx,G,d,m,B⟩
   rcases CI.1 m with m|m
   · exact .inl ⟨x,hx,G,d,m,B⟩
   · refine .inr ⟨?_,x,hx,G,d,m,B⟩
     rw [CH.1 m]at B;rw [<-G];exact eT I hx (J x hx) B
variable{es:Array MapEntry}{ck:Nat}{lm:List (Int×A2)}{y:Int×QM}
theorem jH(m:El qs es ck lm)(hy:y∈qs):JJ qs [c] y.1↔Cr y.2 c=true:=by
 constructor
 · rintro ⟨x,hx,I,d,G,B⟩
   rw [CH.1 G]at B;rwa [ux m hx hy I]at B
 · intro h;exact ⟨y,hy,rfl,c,by simp,h⟩
theorem mo(m:El qs es ck lm)(hy:y∈qs)(h:Cr y.2 c=true){S:Int->Prop}{pre:List Int}(i:Int):((S i\/(i∈pre/\JJ qs [c] i))\/i=y.1)↔(S i\/(i∈pre++[y.1]/\JJ qs [c] i)):=by
 rw [CI,CH];constructor
 · rintro ((h1|⟨h1,h2⟩)|rfl)
   · exact .inl h1
   · exact .inr ⟨.inl h1,h2⟩
   · exact .inr ⟨.inr rfl,(jH m hy).2 h⟩
 · rintro (h1|⟨h1|rfl,h2⟩)
   · exact .inl (.inl h1)
   · exact .inl (.inr ⟨h1,h2⟩)
   · exact .inr rfl
theorem uK(m:El qs es ck lm)(hy:y∈qs){S:Int->Prop}{pre:List Int}(h:Cr y.2 c=true->S y.1\/(y.1∈pre/\JJ qs [c] y.1))(i:Int):(S i\/(i∈pre/\JJ qs [c] i))↔(S i\/(i∈pre++[y.1]/\JJ qs [c] i)):=by
 rw [CI,CH];constructor
 · rintro (h1|⟨h1,h2⟩)
   · exact .inl h1
   · exact .inr ⟨.inl h1,h2⟩
 · rintro (h1|⟨h1|rfl,h2⟩)
   · exact .inl h1
   · exact .inr ⟨h1,h2⟩
   · exact h ((jH m hy).1 h2)
theorem eY{ip mp:Nat}(J:El qs es ck lm)(hq:∀x∈qs,BG x.2)(hl:qs.length<=500){lv:A2}{ML:List A8}(X:WF qs lv ML)(p:Int){MC:List A8}{qa:B8}{cap:Nat}{cs:List Chg}(hC:CE MC (.slice qa cs.length cap) cs)(qy:cs.length<=1000)(d9:∀c∈cs,c.ok):BQ prog 50 #[I1 ip,.agg #[I0 p,.slice qa cs.length cap]] [[(ip,.cells #[.map (some mp),lv] 166 (0,0))],[(mp,.map es ck)],ML,MC] (fun r H'=>∃(zs:List Int) (s':List A8) (lv':A2) (ML':List A8),(∀i,i∈zs↔JJ qs cs i)/\zs.Nodup/\(zs.Pairwise fun x y=>x<=y)/\Row 3 r (zs.map (Value.int .i64)) s'/\WF qs lv' ML'/\H'=[[(ip,.cells #[.map (some mp),lv'] 166 (0,0))],[(mp,.map es ck)],ML',MC,s']):=by
 have sD:=mL;obtain ⟨pc,q9,pg,qz,kv⟩:=id hC;injection pg with hv1 hv2 hv3
 subst hv1 hv3;have sw:=J.len
 refine Ct func50 V ntmps50 V ?_;intro u R;refine Zb [0,1] ?_;refine A3<|Ze (Bx #[_])<|AF fun bx=>Ze (Bx #[I0 p,.slice qa cs.length cap])<|AF fun br=>D2 Y<|A3<|Zl isAgg112 Y<|Zv (BZ underlying112 Y Y)<|A5<|AY Y (fun cO=>by cases cO)<|fun cO=>AC<|CD<|Ze (DK)<|AF fun mf=>Ze (Al zeroValue194 #[_])<|AF fun bf=>Xe (Zs sizeOf194 Y Y V)<|A5<|Zq<|A3<|Zh 1 GF V rfl KB Y<|Zl LL Y<|Zv (AR GO Y)<|Zm Y<|A5<|AP<|Zb [15,2,5,13,14] ?_;refine vJ (e0:=[(15,_)]) (H0:=_) (n:=_) (fun m e H=>∃(k:Nat) (lv:A2) (ML:List A8) (O:Array MapEntry) (K:Nat) (ax:List (Int×A2)),m=cs.length -k/\(k<=cs.length/\WF qs lv ML/\I8 (JJ qs (cs.take k)) O K ax)/\e=[(15,I0 (k:Int))]/\H=[[(ip,.cells #[.map (some mp),lv] 166 (0,0))],ML,[(mf,.map O K)]]) (by exact ⟨0,lv,ML,#[],0,[],V,⟨C7 _,X,fq.cong fun i=>by unfold JJ;simp⟩,V,V⟩) Wp ?_;rintro Ds _ _ _ ⟨k,lv,ML,O,K,ax,rfl,⟨hk,X,hF⟩,rfl,rfl⟩;refine A3<|Zv (Ar Y Y)<|A5<|Zq<|Ap Y (fun l9=>?_) (fun l9=>?_);·
  obtain ⟨c,hc⟩:∃c,cs[k]?=some c:=⟨_,BE A0⟩;have af:=d9 c (E7 hc)
  have sJ:=bN af;obtain ⟨g,off,cur,T,zz,rfl,o9,qj,ek⟩:=kv k c hc;refine B4<|Zq<|AP<|A3<|Ba (AZ GO Cd Y Y A0)<|CO (Gn Wo (o9)) (AA (cs:=c.A87) HG Cd Y A0 ek) V rfl<|Ze (Al OK #[_,_,_,_,_,_,_,_,_,_])<|AF fun bc=>Xe (Xw Cd c.A87)<|A5<|Zq<|Aw (n:=4) (0::1::0::7::[]) 10 AD AD V<|Bk 0 V isAgg112 Y<|GB 2 V Wh (AA (cs:=#[_,_,_,_,_,_,_,_,_,_]) HG Cd Y Wn (Au V))<|Zz (l:=[1])<|C0 [true,false] [(2,(_,_))] V rfl (Zw [_] Y call100 Y V (sU J hq hl X)) ?_ Bz Am;rintro _ _ ⟨_,⟨lp,cu,sc,jn,rfl,hL,hW,rfl⟩,rfl⟩;refine CA<|Zz (l:=[3])<|C0 [false] [] V rfl (Zw [_,_] Y call101 Y V (lK lp c)) ?_ Bz Am;rintro _ _ ⟨_,⟨bl,bn,rfl,rfl⟩,rfl⟩;refine CA<|Ao<|Zx<|AP<|Zb [2,5,7,13,14,15,22] ?_;refine PE (H0:=_) (R:=_) (I:=(fun(pre:List Int) H=>∃G B U,I8 (fun i=>JJ qs (cs.take k) i\/(i∈pre/\JJ qs [c] i)) G B U/\H=[[(ip,.cells #[.map (some mp),I1 lp] 166 (0,0))],[(mp,.map es ck)],cu,[(mf,.map G B)],[(bf,.cells #[.map (some mf)] 194 (0,0))],[(bx,.cells #[I1 ip] 112 (0,0))],[(bc,.cells c.A87 59 (0,0))]])) (E:=fun x e Hn=>e=[(8,I0 x),(23,I0 x)]/\Hn=[]) rfl Y call153 (lL hL c (bL af) A0 (hW.small c.t) bn bl) (by rintro pre _ c1 c2 ⟨qx,qw,sM,h9,rfl⟩;intro q p8;simp [p8]) Y rfl Wp (⟨O,K,ax,hF.cong fun i=>by simp,rfl⟩) ?ha_5 ?hbd_5 ?hk_5
  case ha_5=>
   intro _ x _ _;refine Zg<|B1 Y<|Lh (e:=[(8,_),(23,_)]) (Hn:=[]) ?_;exact ⟨V,V⟩
  case hbd_5=>
   intro l pre x ql u e9 qo H1 R1 r9 pq hI j3;obtain ⟨rfl,rfl⟩:=j3;obtain ⟨G,B,U,hG,rfl⟩:=hI;obtain ⟨y,hy,rfl⟩:=sG hW (c:=c) (i:=x) (by rw [pq];simp);have l8:=J.get hy
   have qb:Decidable (JJ qs (cs.take k) y.1\/(y.1∈pre/\JJ qs [c] y.1)):=Classical.propDecidable _;have l5:=hG.get y.1
   refine AP<|Zq<|Aw (n:=14) (0::0::3::7::15::31::63::127::255::31::1023::31::4095::8191::[]) 4096 AD AD V<|Bk 0 V isAgg194 Y<|A1 1 V (AQ Y)<|GB 2 V Wh (De (Cc D3 (D:=fun _=>True)) underlying194 Wr hG.map (fun _ _=>trivial) (trivial) (l5) Y Y)<|A1 3 V (Cz Y)<|A1 4 V (AQ Y)<|Dh (t:=28) Y (fun W=>?_) (fun W=>?_);focus
    rw [DO W];refine Fk 5 rfl Wh (BL isAgg112 Y B2)<|B5 6 rfl (Aq Y rfl)<|B5 7 rfl (AB (off:=0) SJ rfl rfl eJ Y)<|Fk 8 rfl Wh (BL eL Y B2)<|B5 9 rfl (AQ Y)<|Fk 10 rfl Wh (De (Cc D3 (D:=fun _=>True)) eo Q1 J.map (fun _ _=>trivial) (trivial) (by rw [l8];first|done|rfl) Y Y)<|Fk 11 rfl Wh (AA (cs:=c.A87) HG Cd Y Wn (Au rfl))<|Yw 12 8191 rfl (Zu [_,_] Y call98 Y rfl (KR y.2 c)) ?_;rintro _ _ ⟨rfl,rfl⟩;rw [DO (hq y hy),DO af,Wa,Wa];refine A1 13 V (AL Y Y)<|Ao<|Zn [5,8,37] ?_;refine Zx<|AY Y (fun Z=>?_) (fun Z=>?_);·
     have h9:=Z;refine Zg<|Zl isAgg194 Y<|Zm Y<|Ze (FD (Cc D3 (D:=fun _=>True)) underlying194 hG.map (fun _ _=>trivial) (trivial) Y Y Y Wo) ?_;rintro _ _ ⟨rfl,ic,gy,pz,o8,ow,rfl⟩;refine Z0<|A9<|Fq V (by exact ⟨ic,gy,pz,(hG.put o8 ow).cong (mo J hy h9),V⟩)
    focus
     have h9:Cr y.2 c=true->JJ qs (cs.take k) y.1\/(y.1∈pre/\JJ qs [c] y.1):=fun h=>by rw [Z]at h;cases h
   rotate_left
   focus
    rw [F0 W];have h9:Cr y.2 c=true->JJ qs (cs.take k) y.1\/(y.1∈pre/\JJ qs [c] y.1):=fun _=>Kf.1 W
    refine AW 5 V<|AW 6 V<|AW 7 V<|AW 8 V<|AW 9 V<|AW 10 V<|AW 11 V<|AW 12 V<|A1 13 V (AO Y Y)<|Ao<|Zn [5,8,37] ?_;refine Zx<|DW Y ?_
   all_goals
    refine AC<|A9<|Fq V (by exact ⟨G,B,U,hG.cong (uK J hy h9),V⟩)
  intro D1 H2 j5;obtain ⟨G,B,U,hG,rfl⟩:=j5;refine Zn [2,5,13,14,15] ?_;refine A9<|A9<|Zx<|E6 Y Y Y<|Zn [15,2,5,13,14] ?_;refine eO (Ds:=Ds) (e':=[(15,_)]) (by exact ⟨k+1,_,cu,G,B,U,V,⟨by omega,.inr ⟨lp,sc,jn,V,hL,hW⟩,hG.cong (uD hW hq hc)⟩,V,V⟩) Wo Wo
 obtain rfl:k=cs.length:=by omega
 rw [HI]at hF;refine BB<|Zt<|Zt<|AV<|Zx<|Zq ?_;have sj:=hF.len (qs:=qs) fun i h=>by
  obtain ⟨x,hx,he,_⟩:=h;exact ⟨x,hx,he⟩
 refine Zg<|Zl isAgg194 Y<|Zc [_] Y call103 Y V (fI mf) ?_;rintro _ _ ⟨_,⟨bk,rfl,rfl⟩,rfl⟩;refine Zc [_] Y call102 Y V (WW hF.map A0 bk mf (M:=[(mf,.map O K)]) B6) ?_;rintro _ _ ⟨_,⟨zs,s4,gm,gq,p9,rfl⟩,rfl⟩;refine Ax Y<|rZ (Ds:=Ds) rfl (dE results50 Y) Wo (by exact ⟨zs,s4,lv,ML,fun i=>by rw [gm.mem_iff,hF.mem],gm.nodup_iff.2 hF.map.keys,gq,p9,X,rfl⟩)
theorem Qw(b:Nat)(v:A2):BQ prog 73 #[I1 b] [[(b,.cells #[.pointer none,v] 95 (0,0))]] (fun r H'=>r= .tuple #[]/\H'=[[(b,.cells #[I1 b,v] 95 (0,0))]]):=by
 refine Se func73 ntmps73 [0] ?_;intro u R;refine AN Y<|Zp Y V<|Zh 0 Th V rfl sizeOf92 Y<|Zl isAgg92 Y<|Zv (DD ij Y Y)<|A5<|AY Y (fun m=>?_) (fun m=>?_);·
  refine Zg<|Zm Y<|Zm Y<|Zo Wh (Yc (c:=#[.pointer none,v]) ij underlying212 (V:Tryz.prog.info? 95=some Tryz.t95) An (Nat.zero_lt_succ 1) Y) ?_;refine KY (rJ (vs:=[_]) (e:=Extern.AbiNoEscape.same) func119 AD AD AD AD Y Y) V rfl<|Zo Wh (UL underlying212 ij (V:Tryz.prog.info? 95=some Tryz.t95) (show liesAt _ _ _ (2/_) 0 _ 1=true from by kernel_rfl) Y) ?_;refine Zp Y V<|Zh 0 Th V rfl sizeOf92 Y<|Xe (Zs sizeOf92 Y Y V)<|Z0<|D6 V results73 (by exact ⟨V,V⟩)
 cases m
theorem Lv(b:Nat)(v:A2):BQ prog 73 #[I1 b] [[(b,.cells #[I1 b,v] 95 (0,0))]] (fun r H'=>r= .tuple #[]/\H'=[[(b,.cells #[I1 b,v] 95 (0,0))]]):=by
 refine Se func73 ntmps73 [0] ?_;intro u R;refine AN Y<|Zp Y V<|Zh 0 Th V rfl sizeOf92 Y<|Zl isAgg92 Y<|Zv (BZ ij Y Y)<|A5<|AY Y (fun m=>by cases m)<|fun m=>AN Y<|Zp Y V<|Zh 0 Th V rfl sizeOf92 Y<|Zl isAgg92 Y<|Zm Y<|KY (Si ij (V:Tryz.prog.info? 95=some Tryz.t95) Y Y) V rfl ?_;refine A5<|DW Y<|AC<|D6 V results73 (by exact ⟨V,V⟩)
theorem Nz(b:Nat)(v:A2)(l x:List UInt8)(I:List A8)(m:Row 5 v (l.map u8v) I)(h0:0<x.length)(hb:l.length+x.length<=1099511627776):BQ prog 30 #[I1 b,.string (str x)] [[(b,.cells #[.pointer none,v] 95 (0,0))],I] (fun r H'=>∃J G O,Row 5 J ((l++x).map u8v) G/\r=O/\H'=[[(b,.cells #[I1 b,J] 95 (0,0))],G]):=by
 have K:=mL;obtain ⟨gv,X,rfl⟩:=m.form;refine Se func30 ntmps30 [0,1] ?_;intro u R;refine A3<|Za Y<|AH Y<|AN Y<|Zc [_] Y call73 Y V (Qw b _) ?_;rintro _ _ ⟨_,⟨rfl,rfl⟩,rfl⟩;refine A5<|AN Y<|Zm Y<|Zp Y V<|Zh 1 Th V rfl SP Y<|Zl Tr Y<|Zm Y<|Ze (O5 (by_:=1) Hv HO (V:Tryz.prog.info? 5=some Tryz.t5) V rfl V rfl Y m Y Wo A0 (by(rw [Bm];omega)) (by(rw [Bm];omega))) ?_;rintro _ _ ⟨U,B,rfl⟩;obtain ⟨Z,W,rfl⟩:=B.form;refine Zp Y V<|Zh 1 Th V rfl SP Y<|Xe (Zs SP Y Y V)<|Z0<|Zn [1] ?_;refine Zx<|AN Y<|Zv (Pt HO Y)<|Za Y<|Ax Y<|Di rfl results30 Y Y (by exact ⟨_,U,_,(by rw [CN];exact B),rfl,rfl⟩)
theorem PM(b:Nat)(v:A2)(l x:List UInt8)(I:List A8)(m:Row 5 v (l.map u8v) I)(h0:0<x.length)(hb:l.length+x.length<=1099511627776):BQ prog 30 #[I1 b,.string (str x)] [[(b,.cells #[I1 b,v] 95 (0,0))],I] (fun r H'=>∃J G O,Row 5 J ((l++x).map u8v) G/\r=O/\H'=[[(b,.cells #[I1 b,J] 95 (0,0))],G]):=by
 have K:=mL;obtain ⟨gv,X,rfl⟩:=m.form;refine Se func30 ntmps30 [0,1] ?_;intro u R;refine A3<|Za Y<|AH Y<|AN Y<|Zc [_] Y call73 Y V (Lv b _) ?_;rintro _ _ ⟨_,⟨rfl,rfl⟩,rfl⟩;refine A5<|AN Y<|Zm Y<|Zp Y V<|Zh 1 Th V rfl SP Y<|Zl Tr Y<|Zm Y<|Ze (O5 (by_:=1) Hv HO (V:Tryz.prog.info? 5=some Tryz.t5) V rfl V rfl Y m Y Wo A0 (by(rw [Bm];omega)) (by(rw [Bm];omega))) ?_;rintro _ _ ⟨U,B,rfl⟩;obtain ⟨Z,W,rfl⟩:=B.form;refine Zp Y V<|Zh 1 Th V rfl SP Y<|Xe (Zs SP Y Y V)<|Z0<|Zn [1] ?_;refine Zx<|AN Y<|Zv (Pt HO Y)<|Za Y<|Ax Y<|Di rfl results30 Y Y (by exact ⟨_,U,_,(by rw [CN];exact B),rfl,rfl⟩)
theorem Nr(b g cap:Nat)(p:A2)(l:List UInt8)(cur:AM)(z:Nat×Nat)(h0:0<l.length)(hc:cap≠0)(B:l.length<=9223372036854775807)(m:cur.toList.take l.length=l.map u8v):BQ prog 34 #[I1 b] [[(b,.cells #[p,I2 g l.length cap] 95 (0,0))],[(g,.cells cur 5 z)]] (fun r H'=>r= .string (str l)/\H'=[[(b,.cells #[p,I2 g l.length cap] 95 (0,0))]]):=by
 refine Se func34 ntmps34 [0] ?_;intro u R;refine A3<|D2 Y<|Aw (n:=12) (0::1::3::7::15::0::32::96::224::480::1023::2047::[]) 1040 AD AD V<|A1 0 V (AQ Y)<|A1 1 V (Aq Y V)<|A1 2 V (AB (off:=1) Th V rfl SP Y)<|Bk 3 V Tr Y<|A1 5 V (AQ Y)<|A1 6 V (Aq Y V)<|A1 7 V (AB (off:=1) Th V rfl SP Y)<|Bk 8 V Tr Y<|A1 9 V (AR Hv Y)<|Zz (l:=[4])<|C0 [true,false] [(8,(_,_))] V rfl (Xn Y hc) ?_ (fun _ _ h=>h.elim) Am;rintro _ _ ⟨rfl,rfl⟩;refine CA<|Yw 10 2047 V (RQ (l:=l) underlying153 AD Y Y (List.ne_nil_of_length_pos h0) B Wo m)<|F1<|A1 11 V (BI Y)<|Ao<|Zn [2] ?_;refine Zx<|AJ<|AX V results34 Y (by exact ⟨V,V⟩)
end Go.Proofs.YtelliknjeemfoaaGreatDoor
