/-
  The sort with a function lies in the program: laid at rows (printed by the kit, in plain words).
-/
import Derived.Test.YthhakdmlpngcmaaGreatDoorMt2
set_option linter.unusedVariables false
set_option linter.unusedSimpArgs false
namespace Go.Proofs
open Go.Shelf
def Tryz.sortIv_ren:Go.Shelf.Ren:=⟨fun|6=>211|15=>105|14=>248|28=>170|29=>171|20=>287|21=>288|22=>289|23=>290|24=>291|25=>292|26=>293|27=>294|46=>311|47=>221|48=>222|49=>312|50=>313|57=>321|n=>n,fun|22=>275|24=>277|25=>323|3=>3|39=>210|0=>0|53=>295|55=>297|4=>4|46=>287|45=>286|50=>292|5=>5|9=>9|66=>332|70=>114|76=>371|77=>372|n=>n,fun|n=>n⟩
theorem Tryz.sortIv:Go.Proofs.SlLaysF0.n6 prog Tryz.sortIv_ren:={
 mixed:=by kernel_rfl
 f6:=⟨Tryz.f211.name,by decide,func211.trans (congrArg some AF)⟩
 f14:=⟨Tryz.f248.name,by decide,func248.trans (congrArg some AF)⟩
 f15:=func105.trans (congrArg some AF)
 f20:=⟨Tryz.f287.name,by decide,func287.trans (congrArg some AF)⟩
 f21:=⟨Tryz.f288.name,by decide,func288.trans (congrArg some AF)⟩
 f22:=⟨Tryz.f289.name,by decide,func289.trans (congrArg some AF)⟩
 f23:=⟨Tryz.f290.name,by decide,func290.trans (congrArg some AF)⟩
 f24:=⟨Tryz.f291.name,by decide,func291.trans (congrArg some AF)⟩
 f25:=⟨Tryz.f292.name,by decide,func292.trans (congrArg some AF)⟩
 f26:=⟨Tryz.f293.name,by decide,func293.trans (congrArg some AF)⟩
 f27:=⟨Tryz.f294.name,by decide,func294.trans (congrArg some AF)⟩
 f28:=func170.trans (congrArg some AF)
 f29:=func171.trans (congrArg some AF)
 f46:=⟨Tryz.f311.name,by decide,func311.trans (congrArg some AF)⟩
 f47:=func221.trans (congrArg some AF)
 f48:=func222.trans (congrArg some AF)
 f49:=⟨Tryz.f312.name,by decide,func312.trans (congrArg some AF)⟩
 f50:=⟨Tryz.f313.name,by decide,func313.trans (congrArg some AF)⟩
 f57:=⟨Tryz.f321.name,by decide,func321.trans (congrArg some AF)⟩
 t0:=eC
 a0:=isAgg0
 z0:=sizeOf0
 v0:=eE
 t3:=D4
 a3:=AH
 z3:=AE
 v3:=HJ
 t4:=N6
 a4:=Fk
 z4:=DM
 v4:=W6
 t5:=Ly
 a5:=To
 z5:=It
 v5:=S7
 t9:=HA
 a9:=Hh
 z9:=Fm
 v9:=HS
 t22:=cC
 a22:=isAgg275
 z22:=sizeOf275
 v22:=zeroValue275
 t25:=underlying323
 a25:=isAgg323
 z25:=sizeOf323
 v25:=zeroValue323
 t39:=X2
 a39:=isAgg210
 z39:=eN
 v39:=fx
 t45:=ka
 a45:=isAgg286
 z45:=sizeOf286
 v45:=kl
 t46:=kc
 a46:=isAgg287
 z46:=sizeOf287
 v46:=kq
 t50:=kO
 a50:=isAgg292
 z50:=sizeOf292
 v50:=kj
 t53:=T6
 a53:=Hc
 z53:=Fo
 v53:=fy
 t55:=XS
 a55:=cG
 z55:=eJ
 v55:=fz
 t66:=ke
 a66:=isAgg332
 z66:=sizeOf332
 v66:=kx
 t70:=kf
 a70:=isAgg114
 z70:=W7
 v70:=Z2
 t76:=kh
 a76:=isAgg371
 z76:=sizeOf371
 v76:=l3
 t77:=ki
 a77:=isAgg372
 z77:=sizeOf372
 v77:=l4}
end Go.Proofs
namespace Go.Proofs.YthhakdmlpngcmaaGreatDoor
open Go.Proofs.Tryz
open Go Go.RowKit Gw
set_option maxRecDepth 100000
attribute [local irreducible] Gw.At Gw.Nx Gw.Ops
open Go.Sort Go.Shelf
theorem iA(a b:IvM)(W:AD):Calls prog 212 #[.agg #[I4 a.lo,I4 a.hi,I4 a.rc,I4 a.id],.agg #[I4 b.lo,I4 b.hi,I4 b.rc,I4 b.id]] W fun e B=>e= .returned (I4 (Lib.compareInt a.lo b.lo))/\∃q m,B=grow (W.drewN q) m:=by
 go_enter func212,ntmps212
 go_wp2
 all_goals (try simp only [GO]at*)
 all_goals go_ret
 all_goals refine ⟨?_,0,_,by rw [alloc_eq_grow,alloc_eq_grow,grow_grow];rfl⟩
 all_goals (simp [Lib.compareInt]<;>(try split)<;>(first|rfl|omega))
def CJ(l:List IvM):List A4:=l.flatMap fun x=>[I4 x.lo,I4 x.hi,I4 x.rc,I4 x.id]
instance:Inhabited IvM:=⟨⟨0,0,0,0⟩⟩
def NN(x:IvM):List A4:=[I4 x.lo,I4 x.hi,I4 x.rc,I4 x.id]
def au(a b:IvM):Int:=Lib.compareInt a.lo b.lo
theorem Ql(l:List IvM):(CJ l).length=l.length*4:=by
 induction l with
 |nil=>rfl
 |cons a l ih=>simp only [CJ,HW,Bm,E3]at ih⊢;rw [ih];simp;omega
theorem ltI(a b:IvM):ltOf au a b=decide (a.lo<b.lo):=by
 unfold ltOf au Lib.compareInt;apply decide_eq_decide.2;split<;>(try split)<;>omega
theorem wi:SWO (ltOf au)where
 irrefl x:=by rw [ltI];simp
 trans x y z h1 h2:=by rw [ltI]at*;simp only [GO]at*;omega
 ntrans x y z h1 h2:=by rw [ltI]at*;simp only [MD]at*;omega
theorem dI(w:A4)(o:List IvM)(s:List A9)(hn:o.length<=1000000)(cO:Bd 4 277 w o.length (CJ o) s):
 BR prog 211 #[w,.func (.func 212) #[] #[]] [s]
  (fun r H'=>r= .tuple #[]/\∃(s':List A9) (o':List IvM),o'.Perm o/\(o'.Pairwise fun a b=>a.lo<=b.lo)/\Bd 4 277 w o'.length (CJ o') s'/\H'=[s']):=by
 obtain ⟨dn,⟨rfl,h0,rfl⟩|⟨g,cap,cur,z,rfl,rfl,cu,af,J,d9,W⟩⟩:=cO
 · intro u R w0 Z
   have ho:o=[]:=Ln h0;subst ho;have hN:=AnyF.slices_SortFunc_none Tryz.sortIv none 0 (.func (.func 212) #[] #[]) w0
   exact hN.mono (by
    rintro e w' ⟨rfl,rfl⟩;exact .inl ⟨_,_,V,⟨V,[],[],.refl _,.nil,Bj _ _,V⟩,Z⟩)
 · intro u R w0 Z
   have hb:=Z.get (g,.cells cur 277 z) B4;have hH:=Td (w:=w0) (g:=g) (cur:=cur) (e:=277) (z:=z) NN 4 (fun _=>rfl) o hb (by rw [J];omega) W d9
   have eg:∀(args:AK) (w:AD),(callFunc 212 args).run prog w= .ok (.enter 212 args) w:=enters_of func212 AF rfl;have O:CmpLays prog 212 #[] NN 4 au g 0 o.toArray.size w0:=by
    intro m os dk ek x y;exact iA x y _
   have U:=AnyQ.slices_SortFunc Tryz.sortIv 4 isAgg277 Nd NN (fun _=>rfl) (fun x v hv=>by simp [NN]at hv;rcases hv with rfl|rfl|rfl|rfl<;>rfl) au wi 212 #[] g 0 cap o.toArray w0 eg O hH (Z.lt (p:=(g,.cells cur 277 z)) B4) Hi;refine U.mono ?_;rintro e w' ⟨rfl,B,n,os,⟨ax,-,hpm⟩,hso,rfl⟩;have G:B.size=o.length:=by simpa using ax
   have hF:(flatK NN 4 B).toList=CJ B.toList:=Ns NN 4 (fun _=>rfl) B.toList;have K:(flatK NN 4 B).size=o.length*4:=by rw [size_flatK,G]
   have I:B.toList.Perm o:=by
    have e1:B.extract 0 o.toArray.size=B:=by
     rw [show o.toArray.size=B.size by rw [G];simp];exact Array.extract_size
    rw [e1]at hpm;simpa using hpm
   have X:B.toList.length=o.length:=I.length_eq;refine .inl ⟨_,[[(g,.cells (putCells id 0 (flatK NN 4 B) cur) 277 z)]],V,⟨V,_,B.toList,I,?_,?_,V⟩,Z.sortedK NN B os⟩
   · rw [en]
     intro i j hi hj bn;have h:=hso i j (C7 _) bn Hi
     rw [ltI]at h;simp only [MD]at h;rw [getElem!_pos B i (by simpa using hi),getElem!_pos B j (by simpa using hj)]at h;simp only [Array.getElem_toList];omega
   · rw [X]
     refine ⟨by rw [Ql,X],.inr ⟨g,cap,_,z,rfl,rfl,cu,af,by rw [Mg];exact J,?_,by rw [Mg];exact W⟩⟩;have h:=VN cur (flatK NN 4 B) (by rw [K,J];omega)
     rw [K,hF]at h;exact h
end Go.Proofs.YthhakdmlpngcmaaGreatDoor
namespace Go.Proofs.YthhakdmlpngcmaaGreatDoor
open Go.Proofs.Tryz
open Go Go.RowKit Gw
set_option maxRecDepth 100000
attribute [local irreducible] Gw.At Gw.Nx Gw.Ops
variable{l:List IvM}{i:Nat}{x:IvM}
theorem ZT(h:l[i]?=some x):(CJ l)[i*4+1]?=some (I4 x.hi)/\(CJ l)[i*4+2]?=some (I4 x.rc):=by
 induction l generalizing i with
 |nil=>simp at h
 |cons a l ih=>
  cases i with
  |zero=>simp at h;subst h;exact ⟨rfl,rfl⟩
  |succ i=>
   have m:l[i]?=some x:=by simpa using h
   rw [show(i+1)*4+1=i*4+1+4 by omega,show(i+1)*4+2=i*4+2+4 by omega];exact ih m
theorem ZR(h:l[i]?=some x)(r:Int):(CJ l).set (i*4+2) (I4 r)=CJ (l.set i {x with rc:=r}):=by
 induction l generalizing i with
 |nil=>simp at h
 |cons a l ih=>
  cases i with
  |zero=>simp at h;subst h;rfl
  |succ i=>
   have m:l[i]?=some x:=by simpa using h
   rw [show(i+1)*4+2=i*4+2+4 by omega];have:=ih m
   show _::_::_::_::(CJ l).set (i*4+2) (I4 r)=_;rw [this];rfl
variable{cur:AK}{n:Nat}
theorem uG(B:cur.toList.take (n*4)=CJ l)(h:l[i]?=some x):cur[i*4+1]?=some (I4 x.hi)/\cur[i*4+2]?=some (I4 x.rc):=by
 obtain ⟨m,h2⟩:=ZT h;rw [<-B,HI]at m h2;constructor
 · by_cases hc:i*4+1<n*4
   · rw [Ax hc]at m;simpa using m
   · rw [As hc]at m;cases m
 · by_cases hc:i*4+2<n*4
   · rw [Ax hc]at h2;simpa using h2
   · rw [As hc]at h2;cases h2
theorem uF(m:cur.toList.take (n*4)=CJ l)(h:l[i]?=some x)(r:Int):(cur.setIfInBounds (i*4+2) (I4 r)).toList.take (n*4)=CJ (l.set i {x with rc:=r}):=by
 rw [iS,List.take_set,m,ZR h]
theorem jD{g m:Nat}{z:Nat×Nat}(O:l.length=n)(K:cur.toList.take (n*4)=CJ l)(J:n<=m)(B:m<=maxLen)(G:cur.size=m*4)(I:Ie z cur.size):Bd 4 277 (I6 g n m) l.length (CJ l) [(g,.cells cur 277 z)]:=by
 subst O;exact ⟨Ql l,.inr ⟨g,m,cur,z,V,V,J,B,G,K,I⟩⟩
def Nn(x:IvM):Int×Int×Int:=(x.lo,x.hi,x.id)
def pG(l:List IvM)(i:Nat):Prop:=∀(j k:Nat) (x y:IvM),j<=k->k<i->l[j]?=some x->l[k]?=some y->x.hi<=y.rc
theorem VE{r:Int}(h:pG l i)(W:l[i]?=some x)(U:x.hi<=r)(O:∀y,0<i->l[i -1]?=some y->y.rc<=r):pG (l.set i {x with rc:=r}) (i+1):=by
 have I:=(C4.1 W).1;intro j k a b J Z m G;rw [T0]at m G;rcases FF k i with hki|hki
 · rw [As A0]at m G
   exact h j k a b J hki m G
 · obtain rfl:k=i:=by omega
   rw [Ax rfl,Ax I]at G;injection G with G
   subst G;by_cases B:k=j;· rw [Ax B,Ax I]at m;injection m with m;subst m;exact U
   · rw [As B]at m
     obtain ⟨y,K⟩:∃y,l[k -1]?=some y:=⟨_,BT A0⟩;have X:=h j (k -1) a y A0 A0 m K
     have h2:=O y A0 K;show a.hi<=r
     omega
theorem TQ{r:Int}(B:l[i]?=some x):(l.set i {x with rc:=r}).map Nn=l.map Nn:=by
 apply Mb;intro k;rw [DP,DP,T0];by_cases m:i=k
 · subst m
   rw [Ax rfl,Ax (C4.1 B).1,B];rfl
 · rw [As m]
theorem fC(w:A4)(o:List IvM)(s:List A9)(hn:o.length<=1000000)(d9:Bd 4 277 w o.length (CJ o) s):BR prog 154 #[w] [s] (fun r H'=>r=w/\∃(s':List A9) (l o':List IvM),o'.Perm o/\(o'.Pairwise fun a b=>a.lo<=b.lo)/\l.map Nn=o'.map Nn/\pG l l.length/\Bd 4 277 w l.length (CJ l) s'/\H'=[s']):=by
 have p9:=mL;obtain ⟨pw,cw,rfl⟩:=d9.form;refine Se func154 ntmps154 [0] ?_;intro u R;refine A1<|A5 Y<|A1<|Zm Y<|Zc [_,_] Y call211 Y V (dI _ o s hn d9) ?_;rintro _ _ ⟨_,⟨rfl,s1,o1,cu,l8,l5,rfl⟩,rfl⟩;have kv:=cu.length_eq
 refine A6<|Zq<|A1<|Zm Y<|Zv (Ac cC Y)<|Zm Y<|A6<|AQ<|Zb [8,0,7] ?_;refine BI (e0:=[(8,_)]) (fun m e H=>∃(i:Nat) (l:List IvM) (s2:List A9),m=o.length -i/\((i<=o.length/\l.length=o.length)/\l.map Nn=o1.map Nn/\pG l i/\Bd 4 277 (.slice pw o.length cw) l.length (CJ l) s2)/\e=[(8,I4 (i:Int))]/\H=[s2]) (by exact ⟨0,o1,s1,V,⟨⟨C7 _,kv⟩,V,fun j k x y _ h=>absurd h (fW k),l5⟩,V,V⟩) Wp ?_;rintro _ _ _ ⟨i,l,s2,rfl,⟨⟨o9,j3⟩,W,K,cO⟩,rfl,rfl⟩;refine A1<|Zv (Ay Y Y)<|A6<|Zq<|Aw Y (fun j5=>?_) (fun j5=>?_);·
  refine AC<|Zx<|Zq<|AQ<|A1<|Zm Y<|A5 Y<|Zq ?_;rcases cO with⟨o8,⟨ek,h0,rfl⟩|⟨g,cap,cur,z,ek,rfl,p8,af,ax,dn,bn⟩⟩
  · omega
  injection ek with e1 e2 e3
  subst e1 e3;obtain ⟨x,Z⟩:∃x,l[i]?=some x:=⟨_,BT A0⟩;have gq:=uG dn Z
  refine Zg<|Zm Y<|Zm Y<|Zm Y<|Zm Y<|BU (Ae cC Nd Y Y A0)<|Zv (Ap (off:=1) Z1 rfl rfl AE Y)<|Zl AH Y (hv:=by exact (by rw [D3];exact gq.1)) ?_;refine BU (Ae cC Nd Y Y A0)<|Zv (Ap (off:=2) Z1 V rfl AE Y)<|Xe (Zs AE Y Y V (hi:=by omega) (hz:=by exact bn)) ?_;refine Z0<|Zn [0,3,7,8] ?_;refine Zx<|Zq ?_;obtain ⟨U,G⟩:∃U,U=cur.setIfInBounds (0+i*4+2) (I4 x.hi):=⟨_,rfl⟩;rw [<-G];have B:U.toList.take (l.length*4)=CJ (l.set i {x with rc:=x.hi}):=by rw [G,D3];exact uF dn Z x.hi
  have I:U.size=cw*4:=by rw [G,SU];exact ax
  have J:Ie z U.size:=by rw [I,<-ax];exact bn
  have X:(l.set i {x with rc:=x.hi})[i]?=some {x with rc:=x.hi}:=by rw [T0,Ax rfl,Ax A0]
  have gy:=uG B X;refine Zg<|Zm Y<|Zv (DR (n:=0) Y Y)<|A6<|Aw Y (fun gm=>?_) (fun gm=>?_);·
   obtain ⟨y,hy⟩:∃y,l[i -1]?=some y:=⟨_,BT A0⟩;have l9:(l.set i {x with rc:=x.hi})[i -1]?=some y:=by rw [T0,As A0];exact hy
   have ic:=uG B l9;refine BA (n:=17) (0::0::0::0::12::28::60::0::0::256::896::1920::3968::8188::16383::32767::65535::[]) 65536 AF AF rfl<|A3 0 rfl (AO Y)<|A3 1 rfl (AO Y)<|A3 2 rfl (AO Y)<|A3 3 rfl (AO Y)<|A3 4 rfl (Ae cC Nd Y Y A0)<|A3 5 rfl (Ap (off:=2) Z1 rfl rfl AE Y)<|BE 6 rfl AH Y (hv:=by exact (by rw [D3];exact gy.2)) ?_;refine A3 7 V (AO Y)<|A3 8 V (AO Y) ?_
   (refine Dn (D':=1023) 9 (CO (n:=1) Y Y ?_ ?_) ?_;(focus (omega));(focus (omega)))
   refine A3 10 rfl (Ae cC Nd Y Y A0)<|A3 11 rfl (Ap (off:=2) Z1 rfl rfl AE Y)<|BE 12 rfl AH Y (hv:=by exact (by rw [D3];exact ic.2)) ?_;refine A3 13 V (Q7 Y Y)<|A3 14 V (Ae cC Nd Y Y A0)<|A3 15 V (Ap (off:=2) Z1 V rfl AE Y)<|Zz (l:=[16])<|B7 [false,false] [] V rfl (Zs AE Y Y V (hi:=by omega) (hz:=by exact J)) ?_ (fun _ _ h=>h.elim) Aj;rintro _ _ ⟨rfl,rfl⟩;refine BW<|Ag<|Zn [0,7,8] ?_;refine A8<|Zx<|Zg<|Ya (n:=1) Y Y<|Zm Y<|Z0<|Zn [8,0,7] ?_;refine Aa (e':=[(8,_)]) (by exact ⟨i+1,(l.set i {x with rc:=x.hi}).set i {x with rc:=max x.hi y.rc},[(g,.cells (U.setIfInBounds (0+i*4+2) (I4 (max x.hi y.rc))) 277 z)],rfl,⟨⟨by omega,by simp;omega⟩,by rw [TQ X,TQ Z];exact W,by rw [List.set_set];exact VE K Z A0 (fun y2 _ O=>by rw [hy]at O;injection O with O;rw [<-O];omega),jD Hi (by rw [D3,e2];exact uF B X _) A0 af (by rw [SU];exact I) (by rw [SU];exact J)⟩,rfl,rfl⟩)
  refine AC<|A8<|Zx<|Zg<|Ya (n:=1) Y Y<|Zm Y<|Z0<|Zn [8,0,7] ?_;refine Aa (e':=[(8,_)]) (by exact ⟨i+1,l.set i {x with rc:=x.hi},[(g,.cells U 277 z)],rfl,⟨⟨by omega,by simp;omega⟩,by rw [TQ Z];exact W,VE K Z A0 (fun y2 h0=>absurd h0 A0),jD Hi (by rw [e2];exact B) A0 af I J⟩,rfl,rfl⟩)
 obtain rfl:i=o.length:=by omega
 refine BD<|Zt<|Zt<|AV<|Zx<|A1<|Zm Y<|A5 Y<|AJ<|AP V results154 Y (by exact ⟨V,s2,l,o1,cu,l8,W,j3▸K,cO,V⟩)
theorem vW(v:Int):∀{l:List IvM},(l.Pairwise fun a b=>a.lo<=b.lo)->l.takeWhile (fun x=>decide (x.lo<=v))=l.filter fun x=>decide (x.lo<=v)
 |[],_=>rfl
 |a::l,h=>by
  obtain ⟨B,h2⟩:=PC.1 h;by_cases m:a.lo<=v;· rw [qq (by simpa using m),List.filter_cons_of_pos (by simpa using m),vW v h2]
  · rw [qu (by simpa using m),lR (by simpa using m)]
    exact (lj.2 fun b G=>by have:=B b G;simp;omega).symm
theorem Uz(v:Int):∀{q:List IvM},(q.Pairwise fun a b=>b.hi<=a.rc)->(∀a∈q,a.hi<=a.rc)->(q.takeWhile fun x=>decide (v<=x.rc)).filter (fun x=>decide (v<=x.hi))=q.filter fun x=>decide (v<=x.hi)
 |[],_,_=>rfl
 |a::q,h,hs=>by
  obtain ⟨G,h2⟩:=PC.1 h;by_cases B:v<=a.rc;· rw [qq (by simpa using B),Wr,Wr,Uz v h2 fun b m=>hs b (E7 _ m)]
  · rw [qu (by simpa using B)]
    refine (lj.2 fun b m=>?_).symm;rcases DB.1 m with rfl|m
    · have:=hs b B4;simp;omega
    · have:=G b m;simp;omega
theorem oM{v:Int}(X:l.Pairwise fun a b=>a.lo<=b.lo)(K:pG l l.length)(i:Int):i∈Ip v l↔∃x∈l,x.lo<=v/\v<=x.hi/\x.id=i:=by
 have W:l.Pairwise fun a b=>a.hi<=b.rc:=en.2 fun j k m J U=>K j k _ _ A0 J (BT m) (BT J);have O:∀a∈l,a.hi<=a.rc:=fun a G=>by
  obtain ⟨j,m,rfl⟩:=List.mem_iff_getElem.1 G;exact K j j _ _ (CI _) m (BT m) (BT m)
 unfold Ip;rw [vW v X,Uz v (List.pairwise_reverse.2 (W.sublist Sp)) fun a G=>O a (Fc.1 (fR.1 G)).1];simp only [C6,Fc,fR,GO];constructor;· rintro ⟨x,⟨⟨I,B⟩,h2⟩,rfl⟩;exact ⟨x,I,B,h2,rfl⟩
 · rintro ⟨x,I,B,h2,rfl⟩;exact ⟨x,⟨⟨I,B⟩,h2⟩,rfl⟩
variable{o:List IvM}
theorem ZK(m:l.map Nn=o.map Nn){a b i:Int}:(∃x∈l,x.lo=a/\x.hi=b/\x.id=i)↔∃x∈o,x.lo=a/\x.hi=b/\x.id=i:=by
 have h:∀{l:List IvM},(∃x∈l,x.lo=a/\x.hi=b/\x.id=i)↔(a,b,i)∈l.map Nn:=fun{l}=>by
  simp only [C6,Nn,jt]
 rw [h,h,m]
theorem ZL(m:l.map Nn=o.map Nn)(B:o.Pairwise fun a b=>a.lo<=b.lo):l.Pairwise fun a b=>a.lo<=b.lo:=by
 have h:∀{l:List IvM},(l.Pairwise fun a b=>a.lo<=b.lo)↔(l.map Nn).Pairwise fun a b=>a.1<=b.1:=fun{l}=>by
  rw [US];rfl
 rw [h,m];exact h.1 B
def R5(x:Int×QM):IvM:=⟨x.2.lo,x.2.hi,0,x.1⟩
def plQ(x:Int×QM):Int×Int:=(x.2.tb,x.2.cl)
def Eh(vs:List (Int×QM))(k:Int×Int):List IvM:=(vs.filter fun x=>decide (plQ x=k)).map R5
def FQ(vs:List (Int×QM))(t:Int):List Int:=(vs.filter fun x=>decide (x.2.kd=7/\x.2.ot=t)).map (·.1)
theorem TS(vs:List (Int×QM))(x:Int×QM)(k:Int×Int):Eh (vs++[x]) k=if k=plQ x then Eh vs (plQ x)++[R5 x]else Eh vs k:=by
 unfold Eh;rw [Hj,C0];by_cases h:k=plQ x;· subst h;simp
 · rw [As h,lR (by simpa using fun e=>h e.symm)];simp
theorem Np(vs:List (Int×QM))(x:Int×QM)(t:Int):FQ (vs++[x]) t=if x.2.kd=7/\t=x.2.ot then FQ vs x.2.ot++[x.1]else FQ vs t:=by
 unfold FQ;rw [Hj,C0];by_cases h:x.2.kd=7/\t=x.2.ot;· obtain ⟨m,rfl⟩:=h;simp [m]
 · rw [As h,lR (by simpa using fun e1 e2=>h ⟨e1,e2.symm⟩)];simp
theorem ZV(a b:List IvM):CJ (a++b)=CJ a++CJ b:=by unfold CJ;rw [P2]
abbrev wI(vs:List (Int×QM))(lm:List ((Int×Int)×A4))(M:List A9):Prop:=UK 4 277 lm (fun k=>(Eh vs k).length) (fun k=>CJ (Eh vs k)) M
abbrev bP(vs:List (Int×QM))(lm:List (Int×A4))(M:List A9):Prop:=UK 1 3 lm (fun t=>(FQ vs t).length) (fun t=>(FQ vs t).map fun i=>Value.int .i64 i) M
variable{vs:List (Int×QM)}{M:List A9}
theorem nz{lm:List ((Int×Int)×A4)}(W:(lm.map (·.1)).Nodup)(h:wI vs lm M)(x:Int×QM):
 ∃s B,Bd 4 277 ((Dp (plQ x) lm).getD (.slice none 0 0)) (Eh vs (plQ x)).length (CJ (Eh vs (plQ x))) s/\M.Perm (s++B)/\∀(I:A4) (G:List A9) (m:List ((Int×Int)×A4)),(m.map (·.1)).Nodup->(∀p,p∈m↔p=(plQ x,I)\/(p∈lm/\p.1≠plQ x))->
  Bd 4 277 I (Eh vs (plQ x)++[R5 x]).length (CJ (Eh vs (plQ x)++[R5 x])) G->wI (vs++[x]) m (G++B):=by
 obtain ⟨s,B,K,h2,O⟩:=QJ W h (plQ x);refine ⟨s,B,K,h2,fun I G m J X Z=>?_⟩;have U:=O I G _ _ m J X Z
 have e1:(fun k=>(Eh (vs++[x]) k).length)=fun k=>if k=plQ x then(Eh vs (plQ x)++[R5 x]).length else(Eh vs k).length:=funext fun k=>by
  rw [TS];split<;>rfl
 have e2:(fun k=>CJ (Eh (vs++[x]) k))=fun k=>if k=plQ x then CJ (Eh vs (plQ x)++[R5 x])else CJ (Eh vs k):=funext fun k=>by
  rw [TS];split<;>rfl
 unfold wI;rw [e1,e2];exact U
variable{lm:List (Int×A4)}
theorem nu(X:(lm.map (·.1)).Nodup)(h:bP vs lm M)(x:Int×QM)(K:x.2.kd=7):
 ∃s B,Bd 1 3 ((Dp x.2.ot lm).getD (.slice none 0 0)) (FQ vs x.2.ot).length ((FQ vs x.2.ot).map fun i=>Value.int .i64 i) s/\M.Perm (s++B)/\∀(I:A4) (G:List A9) (m:List (Int×A4)),(m.map (·.1)).Nodup->(∀p,p∈m↔p=(x.2.ot,I)\/(p∈lm/\p.1≠x.2.ot))->
  Bd 1 3 I (FQ vs x.2.ot++[x.1]).length ((FQ vs x.2.ot++[x.1]).map fun i=>Value.int .i64 i) G->bP (vs++[x]) m (G++B):=by
 obtain ⟨s,B,O,h2,U⟩:=QJ X h x.2.ot;refine ⟨s,B,O,h2,fun I G m J Z hr=>?_⟩;have W:=U I G _ _ m J Z hr
 have e1:(fun k=>(FQ (vs++[x]) k).length)=fun k=>if k=x.2.ot then(FQ vs x.2.ot++[x.1]).length else(FQ vs k).length:=funext fun k=>by
  rw [Np];simp only [K,WD];split<;>rfl
 have e2:(fun k=>(FQ (vs++[x]) k).map fun i=>Value.int .i64 i)=fun k=>if k=x.2.ot then(FQ vs x.2.ot++[x.1]).map fun i=>Value.int .i64 i else(FQ vs k).map fun i=>Value.int .i64 i:=funext fun k=>by
  rw [Np];simp only [K,WD];split<;>rfl
 unfold bP;rw [e1,e2];exact W
theorem ny(h:bP vs lm M)(x:Int×QM)(m:x.2.kd≠7):bP (vs++[x]) lm M:=by
 have e:FQ (vs++[x])=FQ vs:=funext fun t=>by rw [Np,As (fun h=>m h.1)]
 unfold bP;rw [e];exact h
theorem kW(q:QM)(B:BK q):BR prog 147 #[.agg q.A72] [] (fun r H'=>r= .tuple #[I4 q.tb,I4 q.cl,I4 q.lo,I4 q.hi]/\H'=[]):=by
 refine Se func147 ntmps147 [0] ?_;intro u R;refine A1<|Ze (Bx #[_,_,_,_,_,_,_])<|AG fun G=>Za Y<|Za Y<|Za Y<|A5 Y<|Zq<|A1<|Zo Wh (AB (cs:=q.A72) F1 CM Y Wn (BN V))<|Xr [_] Y call29 Y V (Jd q)<|Zv (DD Y)<|A6<|AU Y (fun m=>?_) (fun m=>?_);·
  exfalso;simp [B]at m
 refine AC<|Zx<|Zq<|BA (n:=12) (0::1::0::4::0::16::0::64::3::271::831::2047::[]) 0 AF AF V<|A3 0 V (AA (off:=1) CN V rfl AE Y)<|BE 1 V AH Y<|A3 2 V (AA (off:=2) CN V rfl AE Y)<|BE 3 V AH Y<|A3 4 V (AA (off:=3) CN V rfl AE Y)<|BE 5 V AH Y<|A3 6 V (AA (off:=4) CN V rfl AE Y)<|BE 7 V AH Y<|A3 8 V (Aq Y)<|A3 9 V (Aq Y)<|A3 10 V (Aq Y)<|A3 11 V (Aq Y)<|Ag<|Zn [2,3,4,5] ?_;refine Zx<|AJ<|jM V results147 Y Y Y Y (by exact ⟨V,V⟩)
def bM(lm:List (Int×A4))(js:List Nat)(vs:List (Int×QM)):Prop:=vs.length=js.length/\∀x,x∈vs↔∃j∈js,lm[j]?=some (x.1,(.agg #[I4 x.2.kd,I4 x.2.tb,I4 x.2.cl,I4 x.2.lo,I4 x.2.hi,I4 x.2.bq,I4 x.2.ot]:A4))
variable{js:List Nat}{j:Nat}
theorem dK(h:bM lm js vs){x:Int×QM}(B:lm[j]?=some (x.1,(.agg #[I4 x.2.kd,I4 x.2.tb,I4 x.2.cl,I4 x.2.lo,I4 x.2.hi,I4 x.2.bq,I4 x.2.ot]:A4))):bM lm (js++[j]) (vs++[x]):=by
 refine ⟨by rw [Bm,Bm,h.1];rfl,fun y=>?_⟩;rw [C2,h.2];constructor
 · rintro (⟨i,hi,m⟩|m)
   · exact ⟨i,Ek _ hi,m⟩
   · rw [C5.1 m];exact ⟨j,by simp,B⟩
 · rintro ⟨i,hi,m⟩
   rcases C2.1 hi with hi|hi
   · exact .inl ⟨i,hi,m⟩
   · rw [C5.1 hi,B]at m
     injection m with m
     refine .inr (C5.2 ?_);obtain ⟨a,q⟩:=x;obtain ⟨b,r⟩:=y;obtain ⟨G,q2,I,J,K,O,U⟩:=q;obtain ⟨W,X,Z,r4,r5,r6,r7⟩:=r;simp at m;simp [m]
theorem TT(vs:List (Int×QM))(k:Int×Int):(Eh vs k).length<=vs.length:=by unfold Eh;rw [B6];exact Of _ _
def Qx(o l:List IvM):Prop:=∃o':List IvM,o'.Perm o/\(o'.Pairwise fun a b=>a.lo<=b.lo)/\l.map Nn=o'.map Nn/\pG l l.length
variable{lmA:List ((Int×Int)×A4)}{pn:(Int×Int)×A4}
theorem mO(G:(lmA.map (·.1)).Nodup)(m:lmA[j]?=some pn)(p:(Int×Int)×A4):p∈lmA↔p=(pn.1,pn.2)\/(p∈lmA/\p.1≠pn.1):=by
 constructor
 · intro B
   by_cases h:p.1=pn.1
   · obtain ⟨i,hi⟩:=HH B
     obtain rfl:=LQ G hi m h;rw [m]at hi;injection hi with hi;exact .inl hi.symm
   · exact .inr ⟨B,h⟩
 · rintro (rfl|⟨h,_⟩)
   · exact DQ m
   · exact h
variable{ks:List Nat}
theorem dJ{I G:List ((Int×Int)×A4)}(K:(lmA.map (·.1)).Nodup)(B:lmA[j]?=some pn)(J:¬j∈ks)(W:∀p,p∈I↔∃k∈ks,lmA[k]?=some p)(U:∀p,p∈G↔p=(pn.1,pn.2)\/(p∈I/\p.1≠pn.1))(p:(Int×Int)×A4):p∈G↔∃k∈ks++[j],lmA[k]?=some p:=by
 rw [U,W];constructor
 · rintro (rfl|⟨⟨k,K,m⟩,hne⟩)
   · exact ⟨j,by simp,B⟩
   · exact ⟨k,Ek _ K,m⟩
 · rintro ⟨k,O,m⟩
   rcases C2.1 O with hk1|hk1
   · refine .inr ⟨⟨k,hk1,m⟩,fun X=>J ?_⟩
     obtain rfl:=LQ K m B X;exact hk1
   · rw [C5.1 hk1,B]at m;injection m with m;exact .inl m.symm
variable{g:Int×Int->List IvM}
theorem gQ(O:(lmA.map (·.1)).Nodup)(B:lmA[j]?=some pn)(G:¬j∈ks){f:Int×Int->List IvM}{l2:List IvM}(J:∀i p,lmA[i]?=some p->if i∈ks then Qx (f p.1) (g p.1)else g p.1=f p.1)(h2:Qx (g pn.1) l2):
 ∀i p,lmA[i]?=some p->if i∈ks++[j]then Qx (f p.1) ((fun k=>if k=pn.1 then l2 else g k) p.1)else(fun k=>if k=pn.1 then l2 else g k) p.1=f p.1:=by
 intro i p hi;have h:=J i p hi
 by_cases m:i=j
 · subst m
   rw [B]at hi;injection hi with hi;subst hi
   rw [As G]at h;rw [Ax B4];simp only [Hv];rw [<-h];exact h2
 · have I:p.1≠pn.1:=fun K=>m (LQ O hi B K)
   simp only [As I,C2,C5,m,OR];exact h
theorem yM{lm:List ((Int×Int)×A4)}{l2:List IvM}{m:Int×Int}(h:UK 4 277 lm (fun x=>if x=m then l2.length else(g x).length) (fun x=>if x=m then CJ l2 else CJ (g x)) M):UK 4 277 lm (fun k=>((fun k=>if k=m then l2 else g k) k).length) (fun k=>CJ ((fun k=>if k=m then l2 else g k) k)) M:=by
 have e1:(fun k=>((fun k=>if k=m then l2 else g k) k).length)=fun x=>if x=m then l2.length else(g x).length:=funext fun k=>by
  show(if k=m then l2 else g k).length=_;split<;>rfl
 have e2:(fun k=>CJ ((fun k=>if k=m then l2 else g k) k))=fun x=>if x=m then CJ l2 else CJ (g x):=funext fun k=>by
  show CJ (if k=m then l2 else g k)=_;split<;>rfl
 rw [e1,e2];exact h
theorem aG(vs:List (Int×QM))(t:Int):(FQ vs t).length<=vs.length:=by unfold FQ;rw [B6];exact Of _ _
def Ig(c:Chg)(i:Nat):List AR:=(if 1<=i/\c.had=true then [⟨c.t,c.k,c.o⟩]else [])++(if 2<=i/\c.has=true then [⟨c.t,c.k,c.n⟩]else [])
def FK(c:Chg):List AR:=Ig c 2
theorem qU(c:Chg)(i:Nat)(h:i<2):∃(fi:Nat) (rv:AR) (vb:Bool),(#[.func (.func 210) #[] #[],.func (.func 109) #[] #[]]:AK)[i]?=some (.func (.func fi) #[] #[])/\(∀(args:AK) (w:AD),(callFunc fi args).run prog w= .ok (.enter fi args) w)/\
 BJ prog fi #[.agg c.A70] [] (.tuple #[.agg rv.A71,.bool vb])/\(vb=true->Ig c (i+1)=Ig c i++[rv]/\∃post,FK c=Ig c i++rv::post)/\(vb=false->Ig c (i+1)=Ig c i):=by
 rcases (by omega:i=0\/i=1)with rfl|rfl
 · refine ⟨_,_,c.had,rfl,call210,VD c,fun hv=>?_,fun hv=>?_⟩
   · unfold FK Ig EN;simp [hv]
   · unfold Ig;simp [hv]
 · refine ⟨_,_,c.has,rfl,call109,OW c,fun hv=>?_,fun hv=>?_⟩
   · unfold FK Ig EN;simp [hv]
   · unfold Ig;simp [hv]
theorem gW(c:Chg):BR prog 156 #[.agg c.A70] [] (fun r H'=>∃b,r= .func (.func 213) #[] #[I5 b]/\H'=[[(b,.cells c.A70 74 (0,0))]]):=by
 refine Se func156 ntmps156 [0] ?_;intro u R;refine A1<|Ze (F5 Y (cs:=c.A70) AF)<|AG fun b=>A5 Y<|A1<|Zv (Bg (vs:=[]) (us:=[_]) Y Y)<|A5 Y<|AJ<|AP V results156 Y (by exact ⟨_,V,V⟩)
theorem gX(c:Chg)(b:Nat):Ef prog 213 #[I5 b] [[(b,.cells c.A70 74 (0,0))]] (fun _=>True) (fun x:AR=>#[.agg x.A71]) (FK c):=by
 intro l J hA hy s I;refine Se func213 ntmps213 [0,1] ?_;intro u R;refine A1<|Ze (Ai (vs:=[_,_]) (cs:=[_,_]) underlying324 sizeOf152 zeroValue152 Y V rfl V rfl V)<|AG fun bf=>Zv (Ac underlying324 Y)<|Zm Y<|A6<|AQ<|Zb [9,0,1,7,8] ?_;refine BI (e0:=[(9,_)]) (fun m e H=>∃(i:Nat) (s:List A9),m=2 -i/\(i<=2/\J (Ig c i) s)/\e=[(9,I4 (i:Int))]/\H=[s]) (by exact ⟨0,s,V,⟨by decide,I⟩,V,V⟩) Wp ?_;rintro _ _ _ ⟨i,s,rfl,⟨hi,I⟩,rfl,rfl⟩;refine A1<|Zv (Ay Y Y)<|A6<|Zq<|Aw Y (fun Z=>?_) (fun Z=>?_);·
  obtain ⟨fi,rv,vb,W,X,af,K,O⟩:=qU c i A0;refine AC<|Zx<|Zq<|AQ<|A1<|BU (Be underlying324 sizeOf152 Y Y A0)<|Zl isAgg152 Y (hv:=by exact W) ?_;refine A5 Y<|A1<|Zm Y<|Zo Wh (Pa #[_,_,_,_,_,_,_,_,_,_] GF CC Y) ?_;refine Xr [_] Y (X) Y V (af) ?_;refine Zm Y<|Zd Y V<|Zd Y V<|Ze (Al F0 #[_,_,_,_,_])<|AG fun br=>Xe (Xw B3 _) ?_;refine AW Y<|Zn [0,1,5,6,7,8,9] ?_;refine Zx<|A1<|Zm Y<|Zm Y<|Ah (t:=20) Y V (fun G=>?_) (fun G=>?_);·
   obtain ⟨hu,post,B⟩:=K G;have ax:=hy _ _ _ s B I
   refine Zf Y Y<|Dw Y Wh (Pa #[_,_,_,_,_] D0 B3 Y) V rfl ?_;refine Ze (Fe (vs:=[_]) Y Y (ax) Wp) ?_;rintro _ _ ⟨_,⟨s',rfl,rfl,U⟩,rfl⟩;refine Yg (Bt Y)<|Zv (AX Y Y)<|A6<|AU Y (fun hb=>by cases hb)<|fun hb=>AC<|A8<|Zx<|Zg<|Ya (n:=1) Y Y<|Zm Y<|Z0<|Zn [9,0,1,7,8] ?_;refine Aa (e':=[(9,_)]) (by exact ⟨i+1,s',rfl,⟨by omega,by rw [hu];exact U⟩,rfl,rfl⟩)
  have hu:=O G;refine A7 Y V<|A7 Y V<|A7 Y V<|A7 Y V<|Zv (AL Y Y)<|A6<|D9 Y<|AC<|A8<|Zx<|Zg<|Ya (n:=1) Y Y<|Zm Y<|Z0<|Zn [9,0,1,7,8] ?_;refine Aa (e':=[(9,_)]) (by exact ⟨i+1,s,rfl,⟨by omega,by rw [hu];exact I⟩,rfl,rfl⟩)
 obtain rfl:i=2:=by omega
 refine BD<|Zt<|Zt<|AV<|Ce V results213 (by exact ⟨s,V,I⟩)
theorem Si:G5 prog 274 K2 KD:=G5.ofLaw (deep_law (m:=3) (by decide) (by kernel_rfl) (by kernel_rfl) (by kernel_rfl)) (by
 rintro ⟨a,b⟩ ⟨I,J⟩;have G:Tryz.prog.types.size+1=(Tryz.prog.types.size -1)+1+1:=by
  have:0<Tryz.prog.types.size:=HO AF;omega
 have hc:Tryz.prog.cellsOf 3=1:=by kernel_rfl
 have B:Tryz.prog.cellsOf 274=2:=by kernel_rfl
 have U:Tryz.prog.keyType 274=true:=by kernel_rfl
 have O:(K2 (a,b)).formed prog 274=true:=by
  unfold Value.formed K2;rw [k5];simp [B]
 unfold keyOf;rw [k5];simp only [U,O,Bool.and_self,Hv];obtain ⟨d,K⟩:∃d,Tryz.prog.types.size+1=d+1+1:=⟨_,G⟩;rw [K];unfold Program.keyLits;rw [k5];have W:=Oy prog d a D4 I
 have X:=Oy prog d b D4 J;simp [K2,Value.cells,hc,B,W,X]) wG
def wH(M:List A9)(v:A4)(l:List Int):Prop:=∃p cap,v= .slice p l.length cap/\(l.length<=maxLen/\l.length<=cap)/\∀(i:Nat) (x:Int),l[i]?=some x->∃g off cur T zz,p=some ⟨g,off,none⟩/\(g,Obj.cells cur T zz)∈M/\cur[off+i]?=some (I4 x)
variable{v:A4}
theorem wH.mono{m:List A9}{l:List Int}(h:wH M v l)(K:∀c∈M,c∈m):wH m v l:=by
 obtain ⟨p,cap,e,J,I⟩:=h;refine ⟨p,cap,e,J,fun i x O=>?_⟩;obtain ⟨g,off,cur,T,zz,B,h2,G⟩:=I i x O;exact ⟨g,off,cur,T,zz,B,K _ h2,G⟩
structure PS(sc:Int->Int->List IvM)(jn:Int->List Int)(lp:Nat)(ML:List A9):Prop where
 ex:∃ms ess cks lms mj esj ckj lmj,(lp,Obj.cells #[.map (some ms),.map (some mj)] 272 (0,0))∈ML/\(ms,Obj.map ess cks)∈ML/\Co K2 ess cks lms/\(∀p∈lms,KD p.1)/\(mj,Obj.map esj ckj)∈ML/\Co (fun n:Int=>Value.int .i64 n) esj ckj lmj/\
  (∀a b,UI ML ((Dp (a,b) lms).getD (.slice none 0 0)) (sc a b))/\(∀t,wH ML ((Dp t lmj).getD (.slice none 0 0)) (jn t))
 asc:∀a b,(sc a b).Pairwise fun x y=>x.lo<=y.lo
 len:∀a b,(sc a b).length<=1000000
def IQ(sc:Int->Int->List IvM)(t:Int)(r:AR)(n:Nat):List Int:=(List.range n).flatMap fun col=>Ip (Dh r col) (sc t (col:Int))
def NK(sc:Int->Int->List IvM)(jn:Int->List Int)(c:Chg):List Int:=((FK c).flatMap fun r=>IQ sc c.t r 4)++jn c.t
theorem Rw(sc:Int->Int->List IvM)(t:Int)(r:AR)(n:Nat):IQ sc t r (n+1)=IQ sc t r n++Ip (Dh r n) (sc t (n:Int)):=by
 unfold IQ;rw [j7,P2];simp
theorem qN(sc:Int->Int->List IvM)(t:Int)(r:AR)(h:n<4):∃post,IQ sc t r 4=IQ sc t r n++Ip (Dh r n) (sc t (n:Int))++post:=by
 rcases (by omega:n=0\/n=1\/n=2\/n=3)with rfl|rfl|rfl|rfl<;>simp only [Rw,CT]<;>first|exact ⟨_,rfl⟩|(refine ⟨[],?_⟩;simp)
variable{sc:Int->Int->List IvM}{jn:Int->List Int}{c:Chg}
theorem fF{pre post:List AR}{x:AR}(h:FK c=pre++x::post)(J:n<4){B m:List Int}{id:Int}(h2:Ip (Dh x n) (sc c.t (n:Int))=B++id::m):
 ∃G,NK sc jn c=((pre.flatMap fun r=>IQ sc c.t r 4)++IQ sc c.t x n++B)++id::G:=by
 obtain ⟨K,I⟩:=qN sc c.t x J;unfold NK;rw [h,P2,HW,I,h2];exact ⟨m++K++(post.flatMap fun r=>IQ sc c.t r 4)++jn c.t,by simp⟩
theorem XZ(v:A4)(x:Int)(B:v.oneCell'=true):BR prog 157 #[v,I4 x] [] (fun r H'=>∃bl m,r= .func (.func 214) #[] #[I5 bl,I5 m]/\H'=[[(bl,.cells #[v] 278 (0,0))],[(m,.cells #[I4 x] 3 (0,0))]]):=by
 refine Se func157 ntmps157 [0,1] ?_;intro u R;refine A1<|Ze (F5 Y (cs:=#[v]) (by cases v<;>first|rfl|simp [Value.oneCell']at B))<|AG fun bl=>Ze (Bx #[_])<|AG fun m=>A5 Y<|A1<|Zv (Bg (vs:=[]) (us:=[_,_]) Y Y)<|A5 Y<|AJ<|AP V results157 Y (by exact ⟨bl,m,V,V⟩)
theorem mG(lp:Nat)(c:Chg):BR prog 100 #[I5 lp,.agg c.A70] [] (fun r H'=>∃bl m,r= .func (.func 155) #[] #[I5 m,I5 bl]/\H'=[[(bl,.cells #[I5 lp] 163 (0,0))],[(m,.cells c.A70 74 (0,0))]]):=by
 refine Se func100 ntmps100 [0,1] ?_;intro u R;refine A1<|Ze (Bx #[_])<|AG fun bl=>Ze (F5 Y (cs:=c.A70) AF)<|AG fun m=>A5 Y<|A1<|Zv (Bg (vs:=[]) (us:=[_,_]) Y Y)<|A5 Y<|AJ<|AP V results100 Y (by exact ⟨bl,m,V,V⟩)
variable{lp:Nat}{ML:List A9}
theorem mH(hL:PS sc jn lp ML)(c:Chg)(o8:∀r∈FK c,∀n:Nat,n<4->-1000000000000<=Dh r n/\Dh r n<=1000000000000)(o9:-9223372036854775808<=c.t/\c.t<=9223372036854775807)(vo:(jn c.t).length<=1000000)(bc bl:Nat):Ef prog 155 #[I5 bc,I5 bl] [[(bc,.cells c.A70 74 (0,0))],[(bl,.cells #[I5 lp] 163 (0,0))]] (fun s=>∀x∈ML,x∈s) (fun i:Int=>#[I4 i]) (NK sc jn c):=by
 have vz:=mL;obtain ⟨ms,sO,sJ,y5,mj,sM,sw,wz,ax,ql,ek,pq,qj,dn,af,p9⟩:=hL.ex;intro ly J hA hy s B;refine DU func155 V ntmps155 V ?_;intro u R;refine Zb [0,1,2] ?_;refine A1<|Ze (Bx #[_])<|AG fun by_=>A6<|Zq<|A1<|Zo Wh (Pa #[_,_,_,_,_,_,_,_,_,_] GF CC Y) ?_;refine Zc [_] Y call156 Y V (gW c) ?_;rintro _ _ ⟨_,⟨br,rfl,rfl⟩,rfl⟩;refine A6<|AQ<|Zb [1,2,3,10] ?_;refine PR (H0:=_) (R:=_) (I:=(fun(pre:List AR) H=>∃s,J (pre.flatMap fun r=>IQ sc c.t r 4) s/\H=[[(bc,.cells c.A70 74 (0,0))],[(bl,.cells #[I5 lp] 163 (0,0))],[(by_,.cells #[.func (.yield ly) #[] #[]] 86 (0,0))],s])) (E:=fun x e Hn=>∃bw,e=[(4,I5 bw),(11,.agg x.A71)]/\Hn=[[(bw,.cells x.A71 80 (0,0))]]) V Y call213 (gX c br) (fun _ _ _ _ _=>trivial) Y V Wp (⟨s,B,V⟩) ?ha_2 ?hbd_2 ?hk_2
 case ha_2=>
  intro _ x _ _;refine Zg<|Ze (Al F0 #[_,_,_,_,_])<|AG fun b2=>Xe (Xw B3 _) ?_;refine Z0<|L6 (e:=[(4,_),(11,_)]) (Hn:=[[(_,_)]]) ?_;exact ⟨_,V,V⟩
 case hbd_2=>
  intro l pre x post u e9 kv H1 R1 r9 K hI U;obtain ⟨bw,rfl,rfl⟩:=U;obtain ⟨s,B,rfl⟩:=hI;have j3:=K
  refine AQ<|A1<|Zm Y<|A6<|AQ<|Zb [12,1,2,3,4] ?_;refine BI (e0:=[(12,_)]) (fun m e H=>∃(n:Nat) (s:List A9),m=4 -n/\(n<=4/\J ((pre.flatMap fun r=>IQ sc c.t r 4)++IQ sc c.t x n) s)/\e=[(12,I4 (n:Int))]/\H=[s]) (by exact ⟨0,s,rfl,⟨by decide,by rw [show IQ sc c.t x 0=[] from rfl,D2];exact B⟩,rfl,rfl⟩) Wp ?_;rintro _ _ _ ⟨n,s,rfl,⟨wo,B⟩,rfl,rfl⟩;refine A1<|Zv (Ay (n:=4) Y Y)<|A6<|Zq<|Aw Y (fun q9=>?_) (fun q9=>?_);·
   have ic:=hA _ s B;have cu:=ic _ ax
   have gm:=ic _ ql;obtain ⟨pv,cv,gq,_,_⟩:=af c.t (n:Int);have qz:x∈FK c:=by rw [K];simp
   have qx:=o8 x qz n A0;have pg:KD (c.t,(n:Int)):=⟨Us o9,Us A0⟩
   have cO:n<4:=by omega
   refine AC<|Zx<|Zq<|AQ<|A1<|Zm Y<|A5 Y<|Zq<|BA (n:=13) (0::1::3::7::0::16::0::112::255::0::0::1536::4095::[]) 6144 AF AF V<|BE 0 V isAgg163 Y ?_;refine A3 1 V (Ak Y V)<|A3 2 V (AA (off:=0) fp V rfl sizeOf269 Y)<|Cc (D':=15) 3 V rfl V (Dy Wo (cu)) (BF isAgg269 Y B0) ?_;refine A3 4 V (AA (off:=0) C3 V rfl AE Y)<|BE 5 V AH Y ?_;refine A3 6 V (AO Y)<|A3 7 V (BM (vs:=[(0,_),(1,_)]) (cs:=#[_,_]) Y (AY (pl:=#[(0,1),(1,1)]) lB k5 (fun _=>by kernel_rfl) V))<|Cc (D':=511) 8 V rfl V (Dy Wo (gm)) (De Si underlying269 zeroValue278 ek pq (pg) (gq) Y Y) ?_;refine FG 9 V Wh (AB (cs:=#[_,_,_,_,_]) D0 B3 Y B5 B0) ?_;refine A3 10 V (AO Y)<|Zz (l:=[11])<|B7 [false,true,true,true,true] [(8,(_,_)),(5,(_,_)),(3,(_,_)),(0,(_,_))] V rfl (Zu [_,_] Y SO Y V (OV x n A0)) ?_ (fun _ _ h=>h.elim) Aj;rintro _ _ ⟨rfl,rfl⟩;refine ⟨Ev (by simp [*]) (Zk (Ev (by simp [*]) (Zk (AZ)))),?_⟩;refine Zz (l:=[12])<|B7 [false,false,false,false] [] V rfl (Zw [_,_] Y call157 Y V (XZ (.slice pv (sc c.t (n:Int)).length cv) (Dh x n) V)) ?_ Bv Aj;rintro _ _ ⟨_,⟨l5,l8,rfl,rfl⟩,rfl⟩;refine BW<|Ag<|Zn [1,2,3,4,12,27] ?_;refine Zx<|AQ<|Zb [1,2,3,4,12,27] ?_;refine iK (H0:=_) (R:=_) (I:=(fun(O:List Int) H=>∃s,J ((pre.flatMap fun r=>IQ sc c.t r 4)++IQ sc c.t x n++O) s/\H=[[(by_,.cells #[.func (.yield ly) #[] #[]] 86 (0,0))],s])) (E:=fun x e Hn=>e=[(6,I4 x),(28,I4 x)]/\Hn=[]) rfl Wh Y call214 (Xa (gq▸af c.t (n:Int)) (hL.len _ _) (hL.asc _ _) (Dh x n) qx l5 l8) (by rintro O _ c9 ⟨s,h1,rfl⟩;intro q hq;have:=hA _ s h1 q hq;simp [this]) Y rfl Wp (⟨s,by simpa using B,rfl⟩) ?ha_7 ?hbd_7 ?hk_7
   case ha_7=>
    intro _ x _ _;refine Zg<|AW Y<|L6 (e:=[(6,_),(28,_)]) (Hn:=[]) ?_;exact ⟨V,V⟩
   case hbd_7=>
    intro l pre x post u e9 kv H1 R1 r9 K hI U;obtain ⟨rfl,rfl⟩:=U;obtain ⟨s,B,rfl⟩:=hI;obtain ⟨sj,qo⟩:=fF (jn:=jn) j3 cO K;have Z:=hy _ _ _ s qo B
    refine AQ<|A1<|Zl isAgg86 Y ?_;refine Zm Y<|Ze (Fe (vs:=[_]) Y Y (Z) Wp) ?_;rintro _ _ ⟨_,⟨s',rfl,rfl,X⟩,rfl⟩;refine Zv (Bt Y)<|A6<|AU Y (fun hb=>by cases hb)<|fun hb=>AC<|A8<|Eg rfl (by exact ⟨s',by rw [<-CT];exact X,rfl⟩)
   intro H2 W;obtain ⟨s,B,rfl⟩:=W;refine Zn [1,2,3,4,12] ?_;refine A8<|A8<|Zx<|Zg<|Ya (n:=1) Y Y<|Zm Y<|Z0<|Zn [12,1,2,3,4] ?_;refine Aa (e':=[(12,_)]) (by exact ⟨n+1,s,rfl,⟨by omega,by rw [Rw,<-CT];exact B⟩,rfl,rfl⟩)
  obtain rfl:n=4:=by omega
  refine BD<|Zt<|Zt<|AV<|A8<|Eg rfl (by exact ⟨s,by rw [P2,nn];exact B,rfl⟩)
 intro D1 H2 W;obtain ⟨s,B,rfl⟩:=W;refine Zn [1,2,3] ?_;refine A8<|Zx<|Zq ?_;have gy:=hA _ s B
 have bn:=gy _ ax;have d9:=gy _ qj
 obtain ⟨pj,cj,qw,⟨vw,ve⟩,p8⟩:=p9 c.t;refine BA (n:=9) (0::1::3::7::0::16::63::127::0::[]) 0 AF AF V<|BE 0 V isAgg163 Y ?_;refine A3 1 V (Ak Y V)<|A3 2 V (AA (off:=1) fp V rfl sizeOf270 Y)<|Cc (D':=15) 3 V rfl V (Dy Wo (bn)) (BF isAgg270 Y B0) ?_;refine A3 4 V (AA (off:=0) C3 V rfl AE Y)<|BE 5 V AH Y ?_;refine Cc (D':=127) 6 V rfl V (Dy Wo (d9)) (De (Cf D4 (D:=fun _=>True)) underlying270 zeroValue28 dn (fun _ _=>trivial) (trivial) (qw) Y Y) ?_;refine A3 7 V (Ac DE Y)<|A3 8 V (AO Y)<|Ag<|Zx<|AQ<|Zb [42,3,40,41] ?_;refine BI (e0:=[(42,_)]) (fun m e H=>∃(k:Nat) (s:List A9),m=(jn c.t).length -k/\(k<=(jn c.t).length/\J ((FK c).flatMap (fun r=>IQ sc c.t r 4)++(jn c.t).take k) s)/\e=[(42,I4 (k:Int))]/\H=[s]) (by exact ⟨0,s,V,⟨C7 _,by simpa using B⟩,V,V⟩) Wp ?_;rintro _ _ _ ⟨k,s,rfl,⟨hk,B⟩,rfl,rfl⟩;refine A1<|Zv (Ay Y Y)<|A6<|Zq<|Aw Y (fun pz=>?_) (fun pz=>?_);·
  obtain ⟨j5,G⟩:∃x,(jn c.t)[k]?=some x:=⟨_,BT A0⟩;obtain ⟨g,off,cur,T,zz,rfl,qb,l9⟩:=p8 k j5 G;have qa:=hA _ s B _ qb
  have Z:=hy _ _ _ s (show NK sc jn c=((FK c).flatMap (fun r=>IQ sc c.t r 4)++(jn c.t).take k)++j5::(jn c.t).drop (k+1) by unfold NK;rw [CT,<-KA G]) B;refine AC<|Zx<|Zq<|AQ<|A1<|BU (CG DE AE Y Y cn)<|CS (IX Wo (qa)) (BF AH Y l9) rfl rfl ?_;refine A5 Y<|A1<|Zl isAgg86 Y ?_;refine Zm Y<|Ze (Fe (vs:=[_]) Y Y (Z) Wp) ?_;rintro _ _ ⟨_,⟨s',rfl,rfl,X⟩,rfl⟩;refine Zv (Bt Y)<|A6<|AU Y (fun hb=>by cases hb)<|fun hb=>AC<|A8<|Zx<|Zg<|Ya (n:=1) Y Y<|Zm Y<|Z0<|Zn [42,3,40,41] ?_;refine Aa (e':=[(42,_)]) (by exact ⟨k+1,s',rfl,⟨by omega,by rw [Bn G,<-CT];exact X⟩,rfl,rfl⟩)
 obtain rfl:k=(jn c.t).length:=by omega
 rw [G3]at B;refine BD<|Zt<|Zt<|AV<|Fv V (nB results155) Wo (by exact ⟨s,V,B⟩)
theorem ZU(h:l[i]?=some x):((CJ l).drop (i*4)).take 4=[I4 x.lo,I4 x.hi,I4 x.rc,I4 x.id]:=by
 induction l generalizing i with
 |nil=>simp at h
 |cons a l ih=>
  cases i with
  |zero=>simp at h;subst h;rfl
  |succ i=>
   have m:l[i]?=some x:=by simpa using h
   rw [show(i+1)*4=i*4+4 by omega];exact ih m
theorem ZQ{s:List A9}(h:Bd 4 277 v l.length (CJ l) s)(U:∀c∈s,c∈M):UI M v l:=by
 rcases h with⟨_,⟨rfl,h0,_⟩|⟨g,cap,cur,z,rfl,rfl,G,J,K,I,O⟩⟩
 · have m:=Ln h0
   subst m;exact ⟨none,0,V,⟨C7 _,CI _⟩,fun i x B=>by simp at B⟩
 · refine ⟨_,cap,rfl,⟨by omega,G⟩,fun i x B=>?_⟩
   have hi:=(C4.1 B).1;refine ⟨g,0,cur,_,z,V,U _ (C5.2 V),by omega,?_⟩;have m:=ZU B
   rw [<-I,fX,V0]at m;apply I2.1;rw [Array.toList_extract,r3,D3,show i*4+4 -i*4=4 by omega];rw [show min 4 (l.length*4 -i*4)=4 by omega]at m;exact m
theorem aF{l:List Int}{s:List A9}(h:Bd 1 3 v l.length (l.map fun i=>Value.int .i64 i) s)(U:∀c∈s,c∈M):wH M v l:=by
 rcases h with⟨_,⟨rfl,h0,_⟩|⟨g,cap,cur,z,rfl,rfl,G,J,K,I,O⟩⟩
 · have m:=Ln h0
   subst m;exact ⟨none,0,V,⟨C7 _,CI _⟩,fun i x B=>by simp at B⟩
 · refine ⟨_,cap,rfl,⟨by omega,G⟩,fun i x B=>?_⟩
   have hi:=(C4.1 B).1;refine ⟨g,0,cur,_,z,V,U _ (C5.2 V),?_⟩;have m:(l.map fun i=>Value.int .i64 i)[i]?=some (I4 x):=by rw [DP,B];rfl
   rw [<-I,HI,Ax A0]at m;simpa using m
structure JR(qs:List (Int×QM))(sc:Int->Int->List IvM)(jn:Int->List Int):Prop where
 scan:∀a b v i,i∈Ip v (sc a b)↔∃x∈qs,x.1=i/\plQ x=(a,b)/\x.2.lo<=v/\v<=x.2.hi
 join:∀t i,i∈jn t↔∃x∈qs,x.1=i/\x.2.kd=7/\x.2.ot=t
 small:∀t,(jn t).length<=1000000
theorem ra{x y:Int×QM}(h:(x.1,(.agg #[I4 x.2.kd,I4 x.2.tb,I4 x.2.cl,I4 x.2.lo,I4 x.2.hi,I4 x.2.bq,I4 x.2.ot]:A4))=(y.1,(.agg #[I4 y.2.kd,I4 y.2.tb,I4 y.2.cl,I4 y.2.lo,I4 y.2.hi,I4 y.2.bq,I4 y.2.ot]:A4))):x=y:=by
 obtain ⟨a,q⟩:=x;obtain ⟨b,r⟩:=y;obtain ⟨m,q2,B,G,I,J,K⟩:=q;obtain ⟨O,U,W,X,Z,r6,r7⟩:=r;simp at h;simp [h]
variable{qs:List (Int×QM)}{es:Array MapEntry}{ck:Nat}
theorem qL(m:El qs es ck lm)(I:bM lm js vs)(J:(DW lm js).Perm lm)(x:Int×QM):x∈vs↔x∈qs:=by
 rw [I.2];constructor
 · rintro ⟨j,_,G⟩
   obtain ⟨y,O,B⟩:=(m.mem _).1 (DQ G);rw [ra B];exact O
 · intro K
   have h:=J.mem_iff.2 ((m.mem _).2 ⟨x,K,rfl⟩);obtain ⟨j,G,B⟩:=bj.1 h;exact ⟨j,G,B⟩
theorem mK{κ:Type} [DecidableEq κ]{l m:List (κ×A4)}(J:(l.map (·.1)).Nodup)(K:(m.map (·.1)).Nodup)(h:∀p,p∈l↔p∈m)(k:κ):Dp k l=Dp k m:=by
 by_cases G:∃v,(k,v)∈l
 · obtain ⟨v,hv⟩:=G
   rw [D7 J hv,D7 K ((h _).1 hv)]
 · rw [Da (l:=l) fun p I B=>G ⟨p.2,by rw [<-B];exact I⟩,Da (l:=m) fun p I B=>G ⟨p.2,by rw [<-B];exact (h p).2 I⟩]
theorem oH(h:Qx o l)(v i:Int):i∈Ip v l↔∃x∈o,x.lo<=v/\v<=x.hi/\x.id=i:=by
 obtain ⟨o',I,W,m,U⟩:=h;rw [oM (ZL m W) U];constructor
 · rintro ⟨x,B,K,h2,O⟩
   obtain ⟨y,G,e1,e2,J⟩:=(ZK (a:=x.lo) (b:=x.hi) (i:=x.id) m).1 ⟨x,B,rfl,rfl,rfl⟩;exact ⟨y,I.mem_iff.1 G,by omega,by omega,by omega⟩
 · rintro ⟨x,B,K,h2,O⟩
   obtain ⟨y,G,e1,e2,J⟩:=(ZK (a:=x.lo) (b:=x.hi) (i:=x.id) m).2 ⟨x,I.mem_iff.2 B,rfl,rfl,rfl⟩;exact ⟨y,G,by omega,by omega,by omega⟩
theorem oI(h:Qx o l):l.length=o.length:=by
 obtain ⟨o',G,J,B,I⟩:=h;have m:=congrArg List.length B
 rw [B6,B6]at m;rw [m];exact G.length_eq
theorem fK(l8:El qs es ck lm)(o9:js.length<=1000000)(X:bM lm js vs)(gy:(DW lm js).Perm lm)
 {ek:List A9}(cO:(lmA.map (·.1)).Nodup)(j3:wI vs lmA ek){O:Array MapEntry}{J:Nat}{af:List (Int×A4)}{MJ:List A9}(l5:Co (fun n:Int=>Value.int .i64 n) O J af)(j5:bP vs af MJ)
 {U:Array MapEntry}{K:Nat}{m:List ((Int×Int)×A4)}{MS:List A9}(d9:Co K2 U K m)(gm:∀p∈lmA,KD p.1)(gq:∀p,p∈m↔∃k∈ks,lmA[k]?=some p)
 (ax:UK 4 277 lmA (fun k=>(g k).length) (fun k=>CJ (g k)) MS)(kv:∀j p,lmA[j]?=some p->if j∈ks then Qx (Eh vs p.1) (g p.1)else g p.1=Eh vs p.1)(ic:(DW lmA ks).Perm lmA)
 {mz mj:Nat}(h1:(lp,Obj.cells #[.map (some mz),.map (some mj)] 272 (0,0))∈ML)(h2:(mz,Obj.map U K)∈ML)(h3:(mj,Obj.map O J)∈ML)(h4:∀c∈MS,c∈ML)(h5:∀c∈MJ,c∈ML):
 PS (fun a b=>g (a,b)) (FQ vs) lp ML/\JR qs (fun a b=>g (a,b)) (FQ vs):=by
 have hv:=qL l8 X gy;have cu:∀j p,lmA[j]?=some p->j∈ks:=fun j p hj=>by
  obtain ⟨i,hi,he⟩:=bj.1 (ic.mem_iff.2 (DQ hj));obtain rfl:=LQ cO he hj rfl;exact hi
 have hS:∀p,p∈m↔p∈lmA:=fun p=>by
  rw [gq];constructor;· rintro ⟨k,_,hk⟩;exact DQ hk
  · intro B
    obtain ⟨i,hi⟩:=HH B;exact ⟨i,cu i p hi,hi⟩
 have bn:∀k,Dp k m=Dp k lmA:=mK d9.keys cO hS;have hD:∀k,Qx (Eh vs k) (g k):=fun k=>by
  by_cases hk:∃v,(k,v)∈lmA
  · obtain ⟨v,o8⟩:=hk
    obtain ⟨i,hi⟩:=HH o8;have h:=kv i _ hi
    rw [Ax (cu i _ hi)]at h;exact h
  · have hn:Dp k lmA=none:=Da fun p B he=>hk ⟨p.2,by rw [<-he];exact B⟩
    obtain ⟨s,W,_⟩:=ax.row k;obtain ⟨s',dn,_⟩:=j3.row k;rw [hn]at W dn;have e1:(g k).length=0:=by
     rcases W with⟨_,⟨_,h,_⟩|⟨g9,cap,cur,z,h,_⟩⟩
     · exact h
     · simp at h
    have e2:(Eh vs k).length=0:=by
     rcases dn with⟨_,⟨_,h,_⟩|⟨g9,cap,cur,z,h,_⟩⟩
     · exact h
     · simp at h
    rw [Ln e1,Ln e2];exact ⟨[],.refl _,.nil,V,fun j k x y _ h=>absurd h (fW k)⟩
 refine ⟨⟨⟨mz,U,K,m,mj,O,J,af,h1,h2,d9,fun p B=>gm p ((hS p).1 B),h3,l5,fun a b=>?_,fun t=>?_⟩,fun a b=>?_,fun a b=>?_⟩,⟨fun a b v i=>?_,fun t i=>?_,fun t=>?_⟩⟩
 · obtain ⟨s,W,hs⟩:=ax.row (a,b)
   rw [bn];exact ZQ W fun c hc=>h4 c (hs c hc)
 · obtain ⟨s,W,hs⟩:=j5.row t
   exact aF W fun c hc=>h5 c (hs c hc)
 · obtain ⟨o',B,l9,hk,W⟩:=hD (a,b)
   exact ZL hk l9
 · have:=oI (hD (a,b))
   have:=TT vs (a,b);have:=X.1
   show(g (a,b)).length<=1000000;omega
 · rw [oH (hD (a,b))]
   unfold Eh;simp only [C6,Fc,GO];constructor
   · rintro ⟨_,⟨x,⟨Z,B⟩,rfl⟩,G,I,a3⟩
     exact ⟨x,(hv x).1 Z,a3,B,G,I⟩
   · rintro ⟨x,Z,a3,B,G,I⟩
     exact ⟨_,⟨x,⟨(hv x).2 Z,B⟩,V⟩,G,I,a3⟩
 · unfold FQ
   simp only [C6,Fc,GO];constructor
   · rintro ⟨x,⟨Z,G,I⟩,rfl⟩
     exact ⟨x,(hv x).1 Z,V,G,I⟩
   · rintro ⟨x,Z,rfl,G,I⟩
     exact ⟨x,⟨(hv x).2 Z,G,I⟩,V⟩
 · have:=aG vs t
   have:=X.1;omega
variable{mp ip:Nat}
theorem mR(W:El qs es ck lm)(hq:∀x∈qs,BK x.2)(hl:qs.length<=500):BR prog 99 #[I5 ip] [[(ip,.cells #[.map (some mp),.pointer none] 165 (0,0))],[(mp,.map es ck)]] (fun r H'=>∃lp ML sc jn,r=I5 lp/\PS sc jn lp ML/\JR qs sc jn/\H'=[[(ip,.cells #[.map (some mp),I5 lp] 165 (0,0))],[(mp,.map es ck)],ML]):=by
 have hml:=mL;have hll:=W.len
 refine Se func99 ntmps99 [0] ?_;intro u R;refine A1<|A5 Y<|Zq<|A1<|Zm Y<|Zp Y V<|Zh 1 R0 V rfl cF Y<|Zl isAgg163 Y ?_;refine Zv (NI underlying163 Y Y)<|A6<|AU Y (fun hb=>by cases hb)<|fun hb=>AC<|Zx<|A1<|Ze (DX)<|AG fun ma=>A5 Y<|A1<|Ze (DX)<|AG fun mz=>Ze (DX)<|AG fun mj=>Zv (BM (vs:=[(0,_),(1,_)]) (cs:=#[_,_]) Y (AY (pl:=#[(0,1),(1,1)]) zeroValue272 fp (fun _=>by kernel_rfl) V))<|Ze (Bx #[_,_])<|AG fun lp=>AW Y<|Zn [0,3,4] ?_;refine Zx<|Zq<|A1<|Zm Y<|Zp Y V<|Zh 0 R0 V rfl cW Y<|Zl cY Y ?_;refine Ze (NS du Y Wh)<|AG fun ib=>A6<|AQ<|Bc<|Bc<|Bc<|Zb [0,3,4,32] ?_;refine BI (e0:=[]) (fun m e H=>∃(js:List Nat) (seen:Array Nat) (vs:List (Int×QM)) (Z:Array MapEntry) (U:Nat) (lmA:List ((Int×Int)×A4)) (J:Array MapEntry) (G:Nat) (j5:List (Int×A4)) (X MJ MK:List A9),m=lm.length -js.length/\(Iq es js seen/\bM lm js vs/\Co K2 Z U lmA/\(∀p∈lmA,KD p.1)/\wI vs lmA X/\Co (fun n:Int=>Value.int .i64 n) J G j5/\bP vs j5 (MJ++MK))/\e=[]/\H=[[(ib,.mapIter (some mp) ck seen ck)],[(ma,.map Z U)],[(mj,.map J G)],X,MJ,MK]) (by exact ⟨[],#[],[],#[],0,[],#[],0,[],[],[],[],V,⟨KR _,⟨V,fun x=>by simp⟩,EX _,fun p hp=>by simp at hp,aU _ _,EX _,aU _ _⟩,V,V⟩) Wp ?_;rintro _ _ _ ⟨js,seen,vs,Z,U,lmA,J,G,j5,X,MJ,MK,rfl,⟨gm,gy,B,d9,p9,dn,pg⟩,rfl,rfl⟩;have Gl:=F9 es.size js gm.nodup gm.lt
 rw [W.map.size]at Gl;refine A1<|Ze (PX W.map gm Y Wo Wh) ?_;rintro _ _ qb;rcases qb with⟨af,rfl,rfl⟩|⟨jn,pn,seen2,hpn,hjn,hi2,rfl,rfl⟩
 ·
  have zu:=af;have l8:=gm
  refine Zd Y V<|A6<|Zq<|AU Y (fun hb=>by cases hb)<|fun hb=>BD<|Zt<|Zt<|AV<|Zx<|Zq<|A1<|Zm Y<|Ze (NS underlying268 Y Wh)<|AG fun ic=>A6<|AQ<|Bc<|Zb [0,4,79] ?_;refine BI (e0:=[]) (fun m e H=>∃(ks:List Nat) (seen:Array Nat) (g:Int×Int->List IvM) (K:Array MapEntry) (I:Nat) (kv:List ((Int×Int)×A4)) (X MB:List A9),m=lmA.length -ks.length/\(Iq Z ks seen/\Co K2 K I kv/\(∀p,p∈kv↔∃k∈ks,lmA[k]?=some p)/\UK 4 277 lmA (fun k=>(g k).length) (fun k=>CJ (g k)) (X++MB)/\(∀j p,lmA[j]?=some p->if j∈ks then Qx (Eh vs p.1) (g p.1)else g p.1=Eh vs p.1))/\e=[]/\H=[[(ic,.mapIter (some ma) U seen U)],[(mz,.map K I)],X,MB]) (by exact ⟨[],#[],Eh vs,#[],0,[],X,[],rfl,⟨KR _,EX _,fun p=>by simp,by rw [D2];exact p9,fun j p _=>by simp⟩,rfl,rfl⟩) Wp ?_;rintro _ _ _ ⟨ks,seen,g,K,I,kv,X,MB,rfl,⟨cO,vw,p8,sw,pq⟩,rfl,rfl⟩;have HZ:=F9 Z.size ks cO.nodup cO.lt
  rw [B.size]at HZ;refine A1<|Ze (PX B cO Y Wo Wh) ?_;rintro _ _ qb;rcases qb with⟨af,rfl,rfl⟩|⟨jn,pn,seen2,hpn,hjn,hi2,rfl,rfl⟩
  ·
   refine Zd Y V<|A6<|Zq<|AU Y (fun hb=>by cases hb)<|fun hb=>BD<|Zt<|Zt<|AV<|Zx<|Zq<|Cb (s1:=[(lp,Obj.cells #[.map (some mz),.map (some mj)] 272 (0,0))]) (s2:=[(mz,Obj.map K I)]) Wo Wo ?_;refine Cb (s1:=([(lp,Obj.cells #[.map (some mz),.map (some mj)] 272 (0,0))]++[(mz,Obj.map K I)])) (s2:=[(mj,Obj.map J G)]) Wo Wo ?_;refine Cb (s1:=(([(lp,Obj.cells #[.map (some mz),.map (some mj)] 272 (0,0))]++[(mz,Obj.map K I)])++[(mj,Obj.map J G)])) (s2:=X) Wo Wo ?_;refine Cb (s1:=((([(lp,Obj.cells #[.map (some mz),.map (some mj)] 272 (0,0))]++[(mz,Obj.map K I)])++[(mj,Obj.map J G)])++X)) (s2:=MB) Wo Wo ?_;refine Cb (s1:=(((([(lp,Obj.cells #[.map (some mz),.map (some mj)] 272 (0,0))]++[(mz,Obj.map K I)])++[(mj,Obj.map J G)])++X)++MB)) (s2:=MJ) Wo Wo ?_;refine Cb (s1:=((((([(lp,Obj.cells #[.map (some mz),.map (some mj)] 272 (0,0))]++[(mz,Obj.map K I)])++[(mj,Obj.map J G)])++X)++MB)++MJ)) (s2:=MK) Wo Wo ?_;refine Zg<|Zm Y<|Zm Y<|Zp Y V<|Zh 1 R0 V rfl cF Y<|Xe (Zs cF Y Y V) ?_;refine A6<|A1<|Zm Y<|A5 Y<|AJ<|AP V results99 Y (by
    have Gw:=F9 es.size js l8.nodup l8.lt;rw [W.map.size]at Gw;obtain ⟨zl,zm⟩:=fK W A0 gy zu B.keys p9 dn pg vw d9 p8 sw pq af (lp:=lp) (mz:=mz) (mj:=mj) (ML:=(((((([(lp,Obj.cells #[.map (some mz),.map (some mj)] 272 (0,0))]++[(mz,Obj.map K I)])++[(mj,Obj.map J G)])++X)++MB)++MJ)++MK)) B4 B4 B4 (fun c hc=>by simp only [C2]at hc⊢;rcases hc with hc|hc<;>simp [hc]) (fun c hc=>by simp only [C2]at hc⊢;rcases hc with hc|hc<;>simp [hc]);exact ⟨lp,_,_,_,V,zl,zm,V⟩)
  refine Zd Y V<|A6<|Zq<|AU Y (fun hb=>?_) (fun hb=>?_);·
   have ve:=F9 Z.size (ks++[jn]) hi2.nodup hi2.lt;rw [B.size,Bm,F2]at ve;have MC:(ks++[jn]).length=ks.length+1:=by rw [Bm];rfl
   refine AC<|Zx<|AQ<|A1<|CS (cs:=[(ic,.mapIter (some ma) U seen2 U),(ma,.map Z U)]) B4 (JG B hi2 hpn Y) V rfl ?_;refine Zd Y V<|Zd Y V<|Ze (Al lB #[_,_])<|AG fun kb=>Xe (Xw sizeOf274 #[I4 pn.1.1,I4 pn.1.2]) ?_;refine AW Y<|Zx ?_;have zy:g pn.1=Eh vs pn.1:=by have h:=pq jn pn hpn;rwa [As hjn]at h
   have Cn:(g pn.1).length<=1000000:=by rw [zy];have:=TT vs pn.1;have:=gy.1;omega
   have Hf:∀p∈kv,KD p.1:=fun p hp=>by
    obtain ⟨k,_,hk⟩:=(p8 p).1 hp;exact d9 p (DQ hk)
   have KS:KD pn.1:=d9 pn (DQ hpn);obtain ⟨sA,cu,O,ax,ek⟩:=QJ B.keys sw pn.1;rw [D7 B.keys (DQ hpn)]at O;refine Cb (s1:=X) (s2:=MB) Wo Wo ?_;refine UA (M:=X++MB) Wo ax ?_;refine BA (n:=8) (0::1::3::7::0::0::32::127::[]) 192 AF AF V<|A3 0 V (AO Y)<|A3 1 V (Ak Y V)<|A3 2 V (AA (off:=0) fp V rfl sizeOf269 Y)<|BE 3 V isAgg269 Y ?_;refine FG 4 V Wh (AB (cs:=#[_,_]) isAgg274 sizeOf274 Y Wn (BN V)) ?_;refine A3 5 V (AO Y)<|Zz (l:=[6])<|B7 [true,true] [(4,(_,_)),(3,(_,_))] V rfl (Zw [_] Y call154 Y V (fC _ (g pn.1) sA Cn O)) ?_ Bv Aj;rintro _ _ ⟨_,⟨rfl,s2,l2,o2,P6,Pn,Mx,yt,P7,rfl⟩,rfl⟩;refine BW<|Yw 7 255 V (FH Si underlying269 vw Hf (KS) Y Y Y Wo) ?_;rintro _ _ ⟨rfl,zi,zb,Ps,MP,MS,rfl⟩;refine Ag<|Zn [0,4,79] ?_;refine A8<|Zn [0,4,79] ?_;refine Aa (e':=[]) (by exact ⟨ks++[jn],seen2,fun k=>if k=pn.1 then l2 else g k,zi,zb,Ps,s2,cu,V,⟨hi2,MP,dJ B.keys hpn hjn p8 MS,yM (ek pn.2 s2 _ _ lmA B.keys (mO B.keys hpn) P7),gQ B.keys hpn hjn pq ⟨o2,P6,Pn,Mx,yt⟩⟩,V,V⟩)
  cases hb
 obtain ⟨x,hx,rfl⟩:=(W.mem pn).1 (DQ hpn);have qw:=hq x hx
 refine Zd Y V<|A6<|Zq<|AU Y (fun hb=>?_) (fun hb=>?_);·
  have sM:=F9 es.size (js++[jn]) hi2.nodup hi2.lt;rw [W.map.size,Bm,F2]at sM;have MC:(js++[jn]).length=js.length+1:=by rw [Bm];rfl
  have hvj:=gy.1;have hiv:=TT vs (plQ x)
  have Y2:=aG vs x.2.ot;have o9:=dK gy hpn
  refine AC<|Zx<|AQ<|A1<|CS (cs:=[(ib,.mapIter (some mp) ck seen2 ck),(mp,.map es ck)]) B4 (JG W.map hi2 hpn Y) V rfl ?_;refine Zd Y V<|Zd Y V<|Ze (Al Lz #[_,_,_,_,_,_,_])<|AG fun xb=>Za Y<|Xe (Xw CM #[I4 x.2.kd,I4 x.2.tb,I4 x.2.cl,I4 x.2.lo,I4 x.2.hi,I4 x.2.bq,I4 x.2.ot]) ?_;refine A6<|A1<|Zo Wh (AB (cs:=#[_,_,_,_,_,_,_]) F1 CM Y Wn (BN V)) ?_;refine Zc [_] Y call147 Y V (kW x.2 qw) ?_;rintro _ _ ⟨_,⟨rfl,rfl⟩,rfl⟩;refine Zm Y<|Zd Y V<|Zd Y V<|Zd Y V<|Zd Y V<|Za Y<|Za Y<|Za Y<|AW Y<|Zn [0,3,4,5,6,7,8,9,10,32] ?_;refine Zx<|A1<|Zm Y<|Zm Y<|Zv (BM (vs:=[(0,_),(1,_)]) (cs:=#[_,_]) Y (AY (pl:=#[(0,1),(1,1)]) lB k5 (fun _=>by kernel_rfl) V))<|Ze (Al lB #[_,_])<|AG fun pb=>Xe (BL sizeOf274 Y Y (by(simp [Value.oneCell',Value.cells];done)) Wu (by exact (rfl:_=(#[I4 x.2.tb,I4 x.2.cl]:AK))) FA Wn (by exact BC _)) ?_;refine A6<|Zq ?_;obtain ⟨sA,cu,O,ax,ek⟩:=nz B.keys p9 x;obtain ⟨qo,T9,y9⟩:=O.form;rw [y9]at O;have pz:KD (plQ x):=⟨Us (by have:=qw.1;simp [plQ];omega),Us (by have:=qw.2.1;simp [plQ];omega)⟩
  refine UA (M:=X) Wo ax ?_;refine Zg<|Zm Y<|Zo Wh (AB (cs:=#[_,_]) isAgg274 sizeOf274 Y Wn (BN V)) ?_;refine Zm Y<|Zm Y<|Zm Y<|Zv (BM (vs:=[(0,_),(1,_),(3,_)]) (cs:=#[_,_,_,_]) Y (AY (pl:=#[(0,1),(1,1),(2,1),(3,1)]) zeroValue277 Z1 (fun _=>by kernel_rfl) V))<|Ze (Ai (vs:=[_]) (cs:=[_,_,_,_]) cC Nd zeroValue277 Y V rfl V rfl V)<|AG fun gb=>Ze (Ki Si underlying268 zeroValue275 B d9 (pz) (y9) Y Y Wo) ?_;rintro _ _ ⟨Tm,Tg,lm3,j3,st3,rfl,ME,FT,zt,wo,rfl⟩;refine Zd Y V<|Ze (BV (by_:=32) (sz:=4) cC (V:Tryz.prog.info? 277=some Tryz.t277) V rfl V rfl Y (O) Y (Dl 4 gb 1 1 277 (0,0) [I4 (R5 x).lo,I4 (R5 x).hi,I4 (R5 x).rc,I4 (R5 x).id] V) Wo Wo Ft A0 A0) ?_;rintro _ _ ⟨qz,o8,rfl⟩;have vz:=BZ o8 (n':=(Eh vs (plQ x)++[R5 x]).length) (xs':=CJ (Eh vs (plQ x)++[R5 x])) (by rw [Bm];rfl) (by rw [ZV];rfl)
  obtain ⟨Ty,Tc,rfl⟩:=o8.form;refine Zd Y V<|Ze (Iu ME FT zt Y Y Y Wo) ?_;rintro _ _ ⟨rfl,sj,r9,qx,q9,wz,rfl⟩;refine Z0<|Zn [0,3,4,5,6,32] ?_;refine Zx<|Zq ?_;have sO:∀p∈qx,KD p.1:=fun p hp=>by
   rcases (wz p).1 hp with rfl|⟨h,_⟩
   · exact pz
   · rcases (wo p).1 h with rfl|⟨h,_⟩
     · exact pz
     · exact d9 p h
  have l5:=ek _ _ _ q9.keys (fun p=>by rw [wz,wo];exact OE _ _ _ _) vz;refine Cb (s1:=qz) (s2:=cu) Wo Wo ?_;refine Zg<|Zh 0 CN V rfl AE Y<|Zl AH Y ?_;refine Zv (CP Y Y)<|A6<|Aw Y (fun h7=>?_) (fun h7=>?_);·
   obtain ⟨sJ,za,bn,gq,ql⟩:=nu dn.keys pg x h7;obtain ⟨qj,Rl,y5⟩:=bn.form;rw [y5]at bn;refine Cb (s1:=MJ) (s2:=MK) Wo Wo ?_;refine UA (M:=MJ++MK) Wo gq ?_;refine BA (n:=17) (0::1::3::7::0::16::0::64::192::448::0::1024::4032::0::8192::32704::65535::[]) 114688 AF AF V<|A3 0 V (AO Y)<|A3 1 V (Ak Y V)<|A3 2 V (AA (off:=1) fp V rfl sizeOf270 Y)<|BE 3 V isAgg270 Y ?_;refine A3 4 V (AA (off:=6) CN V rfl AE Y)<|BE 5 V AH Y ?_;refine A3 6 V (AO Y)<|A3 7 V (Ak Y V)<|A3 8 V (AA (off:=1) fp V rfl sizeOf270 Y)<|BE 9 V isAgg270 Y ?_;refine A3 10 V (AA (off:=6) CN V rfl AE Y)<|BE 11 V AH Y ?_;refine FG 12 V Wh (De (Cf D4 (D:=fun _=>True)) underlying270 zeroValue28 dn (fun _ _=>trivial) (trivial) (y5) Y Y) ?_;refine A3 13 V (AO Y)<|Zz (l:=[14])<|B7 [true,true,true,true,true] [(12,(_,_)),(11,(_,_)),(9,(_,_)),(5,(_,_)),(3,(_,_))] V rfl (Ai (vs:=[_]) (cs:=[_]) DE AE HJ Y V rfl V rfl V) ?_ (fun _ _ h=>h.elim) Aj;rintro _ _ ⟨gj,rfl,rfl⟩;refine BW<|Yz 15 32704 65535 [12,11,9,5,3] [false,false,false,true,true] [(5,(_,_)),(3,(_,_))] V Y V rfl V rfl (BV (by_:=8) (sz:=1) DE (V:Tryz.prog.info? 3=some Tryz.t3) V rfl V rfl Y (bn) Y (Dl 1 gj 1 1 3 (0,0) [I4 x.1] V) Wo Wo Ft A0 A0) ?_;rintro _ _ ⟨Qe,l9,rfl⟩;refine ⟨Zk (Zk (AZ)),?_⟩;have qa:=BZ l9 (n':=(FQ vs x.2.ot++[x.1]).length) (xs':=(FQ vs x.2.ot++[x.1]).map fun i=>Value.int .i64 i) (by rw [Bm];rfl) (by rw [C0];rfl)
   obtain ⟨Tp,Ta,rfl⟩:=l9.form;refine Yw 16 131071 V (FH (Cf D4 (D:=fun _=>True)) underlying270 dn (fun _ _=>trivial) (trivial) Y Y Y Wo) ?_;rintro _ _ ⟨rfl,zk,zf,Qd,vo,P5,rfl⟩;refine Ag<|Zn [0,3,4,32] ?_;refine A8<|Zn [0,3,4,32] ?_;refine Aa (e':=[]) (by exact ⟨js++[jn],seen2,vs++[x],sj,r9,qx,zk,zf,Qd,qz++cu,Qe,za,V,⟨hi2,o9,q9,sO,l5,vo,ql _ _ _ vo.keys P5 qa⟩,V,V⟩)
  refine AC<|A8<|Zn [0,3,4,32] ?_;refine Aa (e':=[]) (by exact ⟨js++[jn],seen2,vs++[x],sj,r9,qx,J,G,j5,qz++cu,MJ,MK,V,⟨hi2,o9,q9,sO,l5,dn,ny pg x h7⟩,V,V⟩)
 cases hb
theorem mU:BR prog 99 #[I5 ip] [[(ip,.cells #[.map (some mp),I5 lp] 165 (0,0))]] (fun r H'=>r=I5 lp/\H'=[[(ip,.cells #[.map (some mp),I5 lp] 165 (0,0))]]):=by
 refine Se func99 ntmps99 [0] ?_;intro u R;refine A1<|A5 Y<|Zq<|A1<|Zm Y<|Zp Y V<|Zh 1 R0 V rfl cF Y<|Zl isAgg163 Y<|Zv (NH underlying163 Y Y)<|A6<|AU Y (fun m=>?_) (fun m=>?_);·
  refine A1<|Zm Y<|Zp Y V<|Zh 1 R0 V rfl cF Y<|Zl isAgg163 Y<|A5 Y<|AJ<|Zt<|AP V results99 Y (by exact ⟨V,V⟩)
 cases m
theorem I7{r:AR}:r∈FK c↔(c.had=true/\r=⟨c.t,c.k,c.o⟩)\/(c.has=true/\r=⟨c.t,c.k,c.n⟩):=by
 unfold FK Ig;rw [C2];cases c.had<;>cases c.has<;>simp
theorem NZ(h:c.ok){r:AR}(G:r∈FK c):r.ok:=by
 obtain ⟨_,h2,_,_⟩:=h;rcases I7.1 G with⟨m,rfl⟩|⟨m,rfl⟩
 · have e:c.before=⟨c.t,c.k,c.o⟩:=by unfold Chg.before;rw [Ax m]
   rw [e]at h2;exact aq fun B=>h2 (.inl ⟨m,B⟩)
 · have e:c.after=⟨c.t,c.k,c.n⟩:=by unfold Chg.after;rw [Ax m]
   rw [e]at h2;exact aq fun B=>h2 (.inr ⟨m,B⟩)
theorem cK(h:c.ok):∀r∈FK c,∀n:Nat,n<4->-1000000000000<=Dh r n/\Dh r n<=1000000000000:=fun r G n _=>by
 obtain ⟨⟨m,h2,B⟩,I,J⟩:=NZ h G;simp only [inV]at m h2 B;unfold Dh;split;· omega
 · split
   · omega
   · split<;>omega
theorem dA(h:c.ok):0<=c.t/\c.t<=3:=by
 have h0:c.had=true\/c.has=true:=by
  obtain ⟨m,_⟩:=h;cases e1:c.had<;>cases e2:c.has<;>simp_all
 rcases h0 with h0|h0
 · exact (NZ h (I7.2 (.inl ⟨h0,rfl⟩))).2.1
 · exact (NZ h (I7.2 (.inr ⟨h0,rfl⟩))).2.1
theorem yg{q:QM}(h:O1 q c=true):∃r∈FK c,inQ q r=true:=by
 unfold O1 bfQ afQ Hy at h;rw [S3]at h;rcases h with h|h
 · split at h
   · rename_i h1
     rw [G0]at h1;exact ⟨_,I7.2 (.inl ⟨h1.1,V⟩),h1.2⟩
   · cases h
 · split at h
   · rename_i h1
     rw [G0]at h1;exact ⟨_,I7.2 (.inr ⟨h1.1,V⟩),h1.2⟩
   · cases h
theorem kJ{q:QM}(G:BK q)(h:Ct q c=true):O1 q c=true\/(q.kd=7/\c.t=q.ot):=by
 have B:O1 q c=false->Uc q c=false/\mQ q (bfQ q c)=mQ q (afQ q c):=fun h=>by
  unfold O1 at h;unfold Uc;rw [ir]at h;obtain ⟨m,h2⟩:=h;rw [m,h2];rw [Option.isSome_eq_false_iff,Option.isNone_iff_eq_none]at m h2;rw [m,h2];exact ⟨rfl,rfl⟩
 cases ha:O1 q c with
 |true=>exact .inl rfl
 |false=>
  obtain ⟨m,h2⟩:=B ha;unfold Ct at h;rw [ha,m,h2]at h;obtain ⟨_,_,_,I⟩:=G;right;simp at h;exact ⟨by omega,h.2.2.2.2⟩
theorem tF(G:JR qs sc jn){i:Int}(h:i∈NK sc jn c):∃x∈qs,x.1=i:=by
 unfold NK at h;rcases C2.1 h with h|h
 · obtain ⟨r,_,h⟩:=S1.1 h
   obtain ⟨n,_,h⟩:=S1.1 h;obtain ⟨x,B,m,_⟩:=(G.scan _ _ _ _).1 h;exact ⟨x,B,m⟩
 · obtain ⟨x,B,m,_⟩:=(G.join _ _).1 h
   exact ⟨x,B,m⟩
theorem sY(B:El qs es ck lm){x y:Int×QM}(K:x∈qs)(O:y∈qs)(G:x.1=y.1):x=y:=by
 have I:∀{l:List (Int×QM)},(l.map (·.1)).Nodup->x∈l->y∈l->x=y:=fun{l}=>by
  induction l with
  |nil=>intro _ h;cases h
  |cons a l ih=>
   intro m J h2;rw [Dd,HK]at m;rcases DB.1 J with h3|h3
   · rcases DB.1 h2 with h4|h4
     · rw [h3,h4]
     · exact absurd (by rw [<-h3,G];exact DS h4) m.1
   · rcases DB.1 h2 with h4|h4
     · exact absurd (by rw [<-h4,<-G];exact DS h3) m.1
     · exact ih m.2 h3 h4
 exact I B.ids K O
theorem fE(B:JR qs sc jn){x:Int×QM}(J:x∈qs)(G:BK x.2)(h:Ct x.2 c=true):x.1∈NK sc jn c:=by
 unfold NK;rcases kJ G h with h|⟨h7,m⟩
 · obtain ⟨r,I,hi⟩:=yg h
   unfold inQ at hi;rw [GO]at hi;have hc:=G.2.1
   have hv:=Lf r x.2.cl.toNat A0;rw [show((x.2.cl.toNat:Nat):Int)=x.2.cl by omega]at hv;have m:r.t=c.t:=by rcases I7.1 I with⟨_,rfl⟩|⟨_,rfl⟩<;>rfl
   refine Ek _ (S1.2 ⟨r,I,S1.2 ⟨x.2.cl.toNat,Kd.2 A0,?_⟩⟩);refine (B.scan _ _ _ _).2 ⟨x,J,V,?_,by omega,by omega⟩;unfold plQ;rw [show((x.2.cl.toNat:Nat):Int)=x.2.cl by omega,<-m,hi.1]
 · exact G2 _ ((B.join _ _).2 ⟨x,J,rfl,h7,m.symm⟩)
def WQ(qs:List (Int×QM))(lv:A4)(ML:List A9):Prop:=(lv= .pointer none/\ML=[])\/∃lp sc jn,lv=I5 lp/\PS sc jn lp ML/\JR qs sc jn
theorem gU{P:Program}{f:FuncId}{args:AK}{H1 m:Hp}{Q:A4->Hp->Prop}(h:BR P f args H1 Q)(e:m.flatten=H1.flatten):BR P f args m Q:=fun u R w B=>h u R w (B.perm (by rw [HB,HB,e]))
theorem tT(B:El qs es ck lm)(J:∀x∈qs,BK x.2)(I:qs.length<=500){lv:A4}(G:WQ qs lv ML):
 BR prog 99 #[I5 ip] [[(ip,.cells #[.map (some mp),lv] 165 (0,0))],[(mp,.map es ck)],ML] (fun r H'=>∃lp m sc jn,r=I5 lp/\PS sc jn lp m/\JR qs sc jn/\H'=[[(ip,.cells #[.map (some mp),I5 lp] 165 (0,0))],[(mp,.map es ck)],m]):=by
 rcases G with⟨rfl,rfl⟩|⟨lp,sc,jn,rfl,h1,h2⟩
 · refine (gU (H1:=[[(ip,.cells #[.map (some mp),.pointer none] 165 (0,0))],[(mp,.map es ck)]]) (mR B J I) B4).mono ?_
   exact fun v H' h=>h
 · refine (gT mU [[(mp,.map es ck)],ML]).mono ?_
   rintro v H' ⟨H1,⟨rfl,rfl⟩,rfl⟩;exact ⟨lp,ML,sc,jn,V,h1,h2,V⟩
structure IA(S:Int->Prop)(es:Array MapEntry)(ck:Nat)(lm:List (Int×A4)):Prop where
 map:Co (fun n:Int=>Value.int .i64 n) es ck lm
 val:∀p∈lm,p.2= .bool true
 mem:∀i,i∈lm.map (·.1)↔S i
theorem gH:IA (fun _=>False) #[] 0 []:=⟨EX _,fun p h=>by simp at h,fun i=>by simp⟩
variable{S:Int->Prop}
theorem IA.get(h:IA S es ck lm)(i:Int) [Decidable (S i)]:(Dp i lm).getD (.bool false)= .bool (decide (S i)):=by
 by_cases hi:S i
 · obtain ⟨p,m,rfl⟩:=C6.1 ((h.mem i).2 hi)
   rw [D7 h.map.keys m,h.val p m,DG hi];rfl
 · rw [Da fun p m B=>hi ((h.mem i).1 (C6.2 ⟨p,m,B⟩)),Cl hi];rfl
theorem IA.cong{T:Int->Prop}(h:IA S es ck lm)(e:∀i,S i↔T i):IA T es ck lm:=⟨h.map,h.val,fun i=>(h.mem i).trans (e i)⟩
theorem IA.put{J:Array MapEntry}{I:Nat}{G:List (Int×A4)}(h:IA S es ck lm){i:Int}(U:Co (fun n:Int=>Value.int .i64 n) J I G)(K:∀p,p∈G↔p=(i,.bool true)\/(p∈lm/\p.1≠i)):IA (fun j=>S j\/j=i) J I G:=by
 refine ⟨U,fun p m=>?_,fun j=>?_⟩
 · rcases (K p).1 m with rfl|⟨h1,_⟩
   · rfl
   · exact h.val p h1
 · rw [<-h.mem]
   constructor
   · intro O
     obtain ⟨p,m,rfl⟩:=C6.1 O;rcases (K p).1 m with rfl|⟨h1,_⟩
     · exact .inr rfl
     · exact .inl (DS h1)
   · intro O
     by_cases B:j=i
     · subst B;exact C6.2 ⟨_,(K _).2 (.inl rfl),rfl⟩
     · obtain ⟨p,m,rfl⟩:=C6.1 (O.resolve_right B)
       exact C6.2 ⟨p,(K p).2 (.inr ⟨m,B⟩),V⟩
theorem IA.len(h:IA S es ck lm)(O:∀i,S i->∃x∈qs,x.1=i):lm.length<=qs.length:=by
 have K:∀{a b:List Int},a.Nodup->(∀x∈a,x∈b)->a.length<=b.length:=fun{a b}=>by
  induction a generalizing b with
  |nil=>intro _ _;exact C7 _
  |cons x a ih=>
   intro m G;obtain ⟨I,m⟩:=HK.1 m;have h2:=ih (b:=b.erase x) m fun y J=>by
    have B:y≠x:=fun e=>I (e▸J);exact (List.mem_erase_of_ne B).2 (G y (E7 _ J))
   have W:=nf (G x (E0 ..));have X:=List.length_pos_of_mem (G x (E0 ..))
   rw [E3];omega
 have h2:=K (a:=lm.map (·.1)) (b:=qs.map (·.1)) h.map.keys fun i hi=>by
  obtain ⟨x,I,U⟩:=O i ((h.mem i).1 hi);exact C6.2 ⟨x,I,U⟩
 simpa using h2
def JS(qs:List (Int×QM))(cs:List Chg)(i:Int):Prop:=∃x∈qs,x.1=i/\∃c∈cs,Ct x.2 c=true
end Go.Proofs.YthhakdmlpngcmaaGreatDoor
namespace Go.Proofs.YthhakdmlpngcmaaGreatDoor
open Go.Proofs.Tryz
open Go Go.RowKit Gw
set_option maxRecDepth 100000
attribute [local irreducible] Gw.At Gw.Nx Gw.Ops
open Go.Sort
theorem Sr{κ:Type}{l:List (κ×A4)}{js:List Nat}(J:js.Nodup)(G:∀j∈js,j<l.length):∃m,((DW l js).map (·.1)++m).Perm (l.map (·.1)):=by
 have K:(js++(List.range l.length).filter fun j=>decide (j∉js)).Perm (List.range l.length):=(OS (GW.2 ⟨J,(iz).sublist Sp,fun a B b I=>by
  have:=(Fc.1 I).2;simp only [GO]at this;intro h;subst h;exact this B⟩) iz).2 fun a=>by
  simp only [C2,Fc,Kd,GO];constructor
  · rintro (h|h)
    · exact G a h
    · exact h.1
  · intro h
    by_cases B:a∈js
    · exact .inl B
    · exact .inr ⟨h,B⟩
 have h:=(K.filterMap (fun j=>l[j]?)).map (·.1);rw [eo,C0,show(List.range l.length).filterMap (fun j=>l[j]?)=DW l (List.range l.length) from rfl,NG]at h;exact ⟨_,h⟩
def Mw{κ:Type}(l:List (κ×A4))(p:List κ):Prop:=∃rest,(p++rest).Perm (l.map (·.1))
theorem Mw.len{κ:Type}{l:List (κ×A4)}{p:List κ}{x:κ}(h:Mw l (p++[x])):p.length<l.length:=by
 obtain ⟨r,h⟩:=h;have:=h.length_eq
 simp at this;omega
theorem dH{v:A4}{zs:List Int}{s:List A9}(O:Row 3 v (zs.map (Value.int .i64)) s)(Z:zs.length<=1000000):BR prog 159 #[v] [s] (fun r H'=>∃(zs':List Int) (s':List A9),r= .tuple #[]/\zs'.Perm zs/\(zs'.Pairwise fun x y=>x<=y)/\Row 3 v (zs'.map (Value.int .i64)) s'/\H'=[s']):=fun u R w J=>by
 have m:=(oB zs fun x y=>decide (x<=y)).length_eq;have G:(zs.mergeSort fun x y=>decide (x<=y)).Pairwise fun x y=>x<=y:=by
  have h:=List.pairwise_mergeSort (le:=fun x y:Int=>decide (x<=y)) (fun a b c X h2=>by simp only [GO]at*;omega) (fun a b=>by simp only [S3,GO];omega) zs;simpa only [GO]using h
 rcases O with⟨rfl,h0,rfl⟩|⟨g,cap,cur,z,rfl,rfl,hle,hcm,hcs,htk,hfr⟩
 · have U:zs=[]:=by simpa using h0
   subst U;refine (Tryz.slices_Sort_int_none none 0 w).mono ?_;rintro e W ⟨rfl,rfl⟩;exact .inl ⟨_,[[]],V,⟨[],[],V,.refl _,.nil,by simp [Gs],V⟩,J⟩
 · rw [B6]at hle htk⊢
   have B:Sat u ([(g,.cells cur 3 z)]::R) w:=by simpa using J
   have I:=B.get (g,.cells cur 3 z) B4;have K:=Te I A0 hfr htk
   refine (Tryz.slices_Sort_int g 0 cap zs w K (HU.1 I).1 A0).mono ?_;rintro e W ⟨rfl,n,os,rfl⟩;refine .inl ⟨_,[[(g,.cells (putCells (Value.int .i64) 0 (zs.mergeSort fun x y=>decide (x<=y)).toArray cur) 3 z)]],V,⟨_,_,V,oB _ _,G,?_,V⟩,by simpa using B.sorted (n:=n) _ os⟩;refine .inr ⟨g,cap,_,z,by rw [B6,m],rfl,by rw [B6,m];exact hle,hcm,by rw [Mh];exact hcs,?_,by rw [Mh];exact hfr⟩;rw [B6];exact YX _ _ A0
theorem fV(mi:Nat):BR prog 102 #[.map (some mi)] [] (fun r H'=>∃b,r= .func (.func 160) #[] #[I5 b]/\H'=[[(b,.cells #[.map (some mi)] 201 (0,0))]]):=by
 refine Se func102 ntmps102 [0] ?_;intro u R;refine A1<|Ze (Bx #[_])<|AG fun b=>A5 Y<|A1<|Zv (Bg (vs:=[]) (us:=[_]) Y Y)<|A5 Y<|AJ<|AP V results102 Y (by exact ⟨b,V,V⟩)
variable{es:Array MapEntry}{ck:Nat}{lm:List (Int×A4)}
theorem fZ(W:Co (fun n:Int=>(Value.int .i64) n) es ck lm)(b mi:Nat):Kc prog 160 #[I5 b] [[(b,.cells #[.map (some mi)] 201 (0,0))]] (fun _ s=>(mi,Obj.map es ck)∈s) (fun x:Int=>#[I4 x]) (Mw lm) (fun ys=>ys.Perm (lm.map (·.1))):=by
 intro l J X hy s G;refine Se func160 ntmps160 [0,1] ?_;intro u R;refine A1<|Zl isAgg201 Y<|Ze (Le underlying201 Y (Dy Wo (X _ s G)))<|AG fun ib=>A6<|AQ<|Zb [0,5] ?_;refine BI (e0:=[]) (fun m e H=>∃(js:List Nat) (seen:Array Nat) (s:List A9),m=lm.length -js.length/\(Iq es js seen/\J ((DW lm js).map (·.1)) s)/\e=[]/\H=[[(ib,.mapIter (some mi) ck seen ck)],s]) (by exact ⟨[],#[],s,V,⟨KR _,G⟩,V,V⟩) Wp ?_;rintro _ _ _ ⟨js,seen,s,rfl,⟨K,G⟩,rfl,rfl⟩;have Z:=F9 es.size js K.nodup K.lt
 rw [W.size]at Z;refine A1<|Ze (NT W K Y Wo (Dy Wo (X _ s G))) ?_;rintro _ _ ax;rcases ax with⟨I,rfl,rfl⟩|⟨jn,pn,seen2,hpn,hjn,hi2,rfl,rfl⟩
 ·
  refine Zd Y V<|A6<|Zq<|AU Y (fun B=>by cases B)<|fun B=>BD<|Zt<|Zt<|AV<|Ce V results160 (by exact ⟨_,s,I.map _,V,G⟩)
 refine Zd Y V<|A6<|Zq<|AU Y (fun B=>?_) (fun B=>?_);·
  have U:=F9 es.size (js++[jn]) hi2.nodup hi2.lt;rw [W.size,Bm,F2]at U;have cO:(js++[jn]).length=js.length+1:=by rw [Bm];rfl
  have bn:Mw lm ((DW lm js).map (·.1)++[pn.1]):=by
   have h:=Sr (l:=lm) hi2.nodup (fun j hj=>by rw [<-W.size];exact hi2.lt j hj);rw [G9 lm js hpn,C0]at h;exact h
  have cu:=hy ((DW lm js).map (·.1)) pn.1 s bn G;refine AC<|Zx<|AQ<|Zq<|Zg ?_;have af:=X _ s G
  refine CS (cs:=[(ib,.mapIter (some mi) ck seen2 ck),(mi,.map es ck)]) (by simp [af]) (JG W hi2 hpn Y) V rfl<|Zd Y V<|A5 Y<|A1<|Zm Y<|Zm Y<|Ze (Fe (vs:=[_]) Y Y (cu) Wp) ?_;rintro _ _ ⟨_,⟨s',rfl,rfl,O⟩,rfl⟩;rw [show(DW lm js).map (·.1)++[pn.1]=(DW lm (js++[jn])).map (·.1) by rw [G9 lm js hpn,C0];rfl]at O;refine Zv (Bt Y)<|A6<|AU Y (fun B=>by cases B)<|fun B=>AC<|A8<|Zn [0,5] ?_;refine Aa (e':=[]) (by exact ⟨js++[jn],seen2,s',V,⟨hi2,O⟩,V,V⟩)
 cases B
variable{M:List A9}
theorem RD(hm:Co (fun n:Int=>(Value.int .i64) n) es ck lm)(hn:lm.length<=1000000)(b mi:Nat)(U:(mi,Obj.map es ck)∈M):BR prog 218 #[.slice none 0 0,.func (.func 160) #[] #[I5 b]] [[(b,.cells #[.map (some mi)] 201 (0,0))],M] (fun r H'=>∃(zs:List Int) (s':List A9),zs.Perm (lm.map (·.1))/\Row 3 r (zs.map (Value.int .i64)) s'/\H'=[M,s']):=by
 have af:=mL;refine DU func218 V ntmps218 V ?_;intro u R;refine Zb [0,1] ?_;refine A1<|Ze (Bx #[_])<|AG fun Z=>A5 Y<|Zq<|A1<|Zm Y<|A6<|AQ<|Zb [2,6] ?_;refine Bc<|J6 (H0:=_) (R:=_) (I:=(fun(pre:List Int) H=>∃B s2,H=[[(Z,.cells #[B] 28 (0,0))],s2,M]/\Row 3 B (pre.map (Value.int .i64)) s2)) (E:=fun x e Hn=>e=[(5,I4 x),(7,I4 x)]/\Hn=[]) rfl Y call160 (fZ hm b mi) (fun pre H1 c d h=>by obtain ⟨B,s2,rfl,_⟩:=h;simp [U]) Y rfl Wp (⟨_,[],rfl,Gs _⟩) ?ha_2 ?hbd_2 ?hk_2
 case ha_2=>
  intro _ x _ _;refine Zg<|AW Y<|L6 (e:=[(5,_),(7,_)]) (Hn:=[]) ?_;exact ⟨V,V⟩
 case hbd_2=>
  intro l pre x u e9 X H1 R1 r9 W hI J;obtain ⟨rfl,rfl⟩:=J;obtain ⟨B,s2,rfl,G⟩:=hI;have ax:=W.len
  obtain ⟨gv,cv,rfl⟩:=G.form;refine AQ<|Zg<|Zl W8 Y<|Zm Y<|Ze (Ai (vs:=[_]) (cs:=[_]) DE AE HJ Y V rfl V rfl V)<|AG fun b2=>Ze (Dj (by_:=8) (news:=[_]) DE (V:Tryz.prog.info? 3=some Tryz.t3) V rfl V rfl Y G Y Wo Wh B0 V Ft B1 (by(simp only [B6];omega)) (by(simp only [B6];omega))) ?_;rintro _ _ ⟨sq,m,rfl⟩;obtain ⟨gq,cq,rfl⟩:=m.form;refine Xe (Zs aE Y Y rfl)<|Z0<|A8<|Eg rfl (by exact ⟨_,_,rfl,by rw [C0];exact m⟩)
 intro D1 ys H2 O K;obtain ⟨B,s2,rfl,G⟩:=K;refine Zn [2] ?_;refine A8<|Zx<|A1<|Zl W8 Y<|A5 Y<|AJ<|Fv V (dU results218 Y) Wo (by exact ⟨ys,s2,O,G,V⟩)
theorem Ui(B:Co (fun n:Int=>(Value.int .i64) n) es ck lm)(G:lm.length<=1000000)(b mi:Nat)(m:(mi,Obj.map es ck)∈M):BR prog 158 #[.func (.func 160) #[] #[I5 b]] [[(b,.cells #[.map (some mi)] 201 (0,0))],M] (fun r H'=>∃(zs:List Int) (s':List A9),zs.Perm (lm.map (·.1))/\Row 3 r (zs.map (Value.int .i64)) s'/\H'=[M,s']):=by
 refine Se func158 ntmps158 [0] ?_;intro u R;refine A1<|A5 Y<|A1<|Zm Y<|Zc [_,_] Y call218 Y V (RD B G b mi m) ?_;rintro _ _ ⟨_,⟨zs,s2,I,J,rfl⟩,rfl⟩;refine A5 Y<|AJ<|AP V results158 Y (by exact ⟨zs,s2,I,J,V⟩)
theorem Wq(U:Co (fun n:Int=>(Value.int .i64) n) es ck lm)(W:lm.length<=1000000)(b mi:Nat)(m:(mi,Obj.map es ck)∈M):BR prog 101 #[.func (.func 160) #[] #[I5 b]] [[(b,.cells #[.map (some mi)] 201 (0,0))],M] (fun r H'=>∃(zs:List Int) (s':List A9),zs.Perm (lm.map (·.1))/\(zs.Pairwise fun x y=>x<=y)/\Row 3 r (zs.map (Value.int .i64)) s'/\H'=[M,s']):=by
 refine Se func101 ntmps101 [0] ?_;intro u R;refine A1<|A5 Y<|A1<|Zm Y<|Zc [_] Y call158 Y V (Ui U W b mi m) ?_;rintro _ _ ⟨_,⟨zs,s2,O,X,rfl⟩,rfl⟩;have J:=O.length_eq
 rw [B6]at J;refine A5 Y<|A1<|Zm Y<|Zc [_] Y call159 Y V (dH X A0) ?_;rintro _ _ ⟨_,⟨K,Z,rfl,B,I,G,rfl⟩,rfl⟩;refine A6<|A1<|Zm Y<|A5 Y<|AJ<|AP V results101 Y (by exact ⟨K,Z,B.trans O,I,G,V⟩)
end Go.Proofs.YthhakdmlpngcmaaGreatDoor
namespace Go.Proofs.YthhakdmlpngcmaaGreatDoor
open Go.Proofs.Tryz
open Go Go.RowKit Gw
set_option maxRecDepth 100000
attribute [local irreducible] Gw.At Gw.Nx Gw.Ops
variable{qs:List (Int×QM)}{c:Chg}
theorem uQ{sc:Int->Int->List IvM}{jn:Int->List Int}(J:JR qs sc jn)(K:∀x∈qs,BK x.2){cs:List Chg}{k:Nat}(hc:cs[k]?=some c)(i:Int):(JS qs (cs.take k) i\/(i∈NK sc jn c/\JS qs [c] i))↔JS qs (cs.take (k+1)) i:=by
 rw [Bn hc];unfold JS;constructor
 · rintro (⟨x,G,I,d,m,B⟩|⟨_,x,G,I,d,m,B⟩)
   · exact ⟨x,G,I,d,Ek _ m,B⟩
   · exact ⟨x,G,I,d,G2 _ m,B⟩
 · rintro ⟨x,G,I,d,m,B⟩
   rcases C2.1 m with m|m
   · exact .inl ⟨x,G,I,d,m,B⟩
   · refine .inr ⟨?_,x,G,I,d,m,B⟩
     rw [C5.1 m]at B;rw [<-I];exact fE J G (K x G) B
variable{es:Array MapEntry}{ck:Nat}{lm:List (Int×A4)}{y:Int×QM}
theorem jY(m:El qs es ck lm)(G:y∈qs):JS qs [c] y.1↔Ct y.2 c=true:=by
 constructor
 · rintro ⟨x,K,J,d,I,B⟩
   rw [C5.1 I]at B;rwa [sY m K G J]at B
 · intro h;exact ⟨y,G,rfl,c,by simp,h⟩
theorem nY(m:El qs es ck lm)(B:y∈qs)(h:Ct y.2 c=true){S:Int->Prop}{pre:List Int}(i:Int):((S i\/(i∈pre/\JS qs [c] i))\/i=y.1)↔(S i\/(i∈pre++[y.1]/\JS qs [c] i)):=by
 rw [C2,C5];constructor
 · rintro ((h1|⟨h1,h2⟩)|rfl)
   · exact .inl h1
   · exact .inr ⟨.inl h1,h2⟩
   · exact .inr ⟨.inr rfl,(jY m B).2 h⟩
 · rintro (h1|⟨h1|rfl,h2⟩)
   · exact .inl (.inl h1)
   · exact .inl (.inr ⟨h1,h2⟩)
   · exact .inr rfl
theorem aN(m:El qs es ck lm)(B:y∈qs){S:Int->Prop}{pre:List Int}(h:Ct y.2 c=true->S y.1\/(y.1∈pre/\JS qs [c] y.1))(i:Int):(S i\/(i∈pre/\JS qs [c] i))↔(S i\/(i∈pre++[y.1]/\JS qs [c] i)):=by
 rw [C2,C5];constructor
 · rintro (h1|⟨h1,h2⟩)
   · exact .inl h1
   · exact .inr ⟨.inl h1,h2⟩
 · rintro (h1|⟨h1|rfl,h2⟩)
   · exact .inl h1
   · exact .inr ⟨h1,h2⟩
   · exact h ((jY m B).1 h2)
theorem fH{ip mp:Nat}(J:El qs es ck lm)(hq:∀x∈qs,BK x.2)(hl:qs.length<=500){lv:A4}{ML:List A9}(X:WQ qs lv ML)(p:Int){MC:List A9}{qa:B8}{cap:Nat}{cs:List Chg}(hC:Cv MC (.slice qa cs.length cap) cs)(qz:cs.length<=1000)(dn:∀c∈cs,c.ok):BR prog 50 #[I5 ip,.agg #[I4 p,.slice qa cs.length cap]] [[(ip,.cells #[.map (some mp),lv] 165 (0,0))],[(mp,.map es ck)],ML,MC] (fun r H'=>∃(zs:List Int) (s':List A9) (lv':A4) (ML':List A9),(∀i,i∈zs↔JS qs cs i)/\zs.Nodup/\(zs.Pairwise fun x y=>x<=y)/\Row 3 r (zs.map (Value.int .i64)) s'/\WQ qs lv' ML'/\H'=[[(ip,.cells #[.map (some mp),lv'] 165 (0,0))],[(mp,.map es ck)],ML',MC,s']):=by
 have sM:=mL;obtain ⟨pc,qb,pq,sj,kv⟩:=id hC;injection pq with hv1 hv2 hv3
 subst hv1 hv3;have sJ:=J.len
 refine DU func50 V ntmps50 V ?_;intro u R;refine Zb [0,1] ?_;refine A1<|Ze (Bx #[_])<|AG fun bx=>Ze (Bx #[I4 p,.slice qa cs.length cap])<|AG fun br=>A5 Y<|Zq<|A1<|Zl isAgg90 Y<|Zv (Bh underlying90 Y Y)<|A6<|AU Y (fun d9=>by cases d9)<|fun d9=>AC<|Zx<|A1<|Ze (DX)<|AG fun mf=>Ze (Al zeroValue201 #[_])<|AG fun bf=>Xe (Zs sizeOf201 Y Y V)<|A6<|Zq<|A1<|Zh 1 HE V rfl MA Y<|Zl OK Y<|Zv (Ac Gk Y)<|Zm Y<|A6<|AQ<|Zb [15,2,5,13,14] ?_;refine vV (e0:=[(15,_)]) (H0:=_) (n:=_) (fun m e H=>∃(k:Nat) (lv:A4) (ML:List A9) (U:Array MapEntry) (O:Nat) (cu:List (Int×A4)),m=cs.length -k/\(k<=cs.length/\WQ qs lv ML/\IA (JS qs (cs.take k)) U O cu)/\e=[(15,I4 (k:Int))]/\H=[[(ip,.cells #[.map (some mp),lv] 165 (0,0))],ML,[(mf,.map U O)]]) (by exact ⟨0,lv,ML,#[],0,[],V,⟨C7 _,X,gH.cong fun i=>by unfold JS;simp⟩,V,V⟩) Wp ?_;rintro Ds _ _ _ ⟨k,lv,ML,U,O,cu,rfl,⟨hk,X,hF⟩,rfl,rfl⟩;refine A1<|Zv (Ay Y Y)<|A6<|Zq<|Aw Y (fun l9=>?_) (fun l9=>?_);·
  obtain ⟨c,hc⟩:∃c,cs[k]?=some c:=⟨_,BT A0⟩;have ax:=dn c (DQ hc)
  have sO:=dA ax;obtain ⟨g,off,cur,T,zz,rfl,o9,ql,ek⟩:=kv k c hc;refine AC<|Zx<|Zq<|AQ<|A1<|BU (Ae Gk CC Y Y A0)<|CS (IX Wo (o9)) (AB (cs:=c.A70) GF CC Y A0 ek) V rfl<|Ze (Al LS #[_,_,_,_,_,_,_,_,_,_])<|AG fun bc=>Xe (Xw CC c.A70)<|A6<|Zq<|BA (n:=4) (0::1::0::7::[]) 10 AF AF V<|BE 0 V isAgg90 Y<|FG 2 V Wh (AB (cs:=#[_,_,_,_,_,_,_,_,_,_]) GF CC Y Wn (BN V))<|Zz (l:=[1])<|B7 [true,false] [(2,(_,_))] V rfl (Zw [_] Y call99 Y V (tT J hq hl X)) ?_ Bv Aj;rintro _ _ ⟨_,⟨lp,cO,sc,jn,rfl,hL,hW,rfl⟩,rfl⟩;refine BW<|Zz (l:=[3])<|B7 [false] [] V rfl (Zw [_,_] Y call100 Y V (mG lp c)) ?_ Bv Aj;rintro _ _ ⟨_,⟨bl,bn,rfl,rfl⟩,rfl⟩;refine BW<|Ag<|Zx<|AQ<|Zb [2,5,7,13,14,15,22] ?_;refine PR (H0:=_) (R:=_) (I:=(fun(pre:List Int) H=>∃G B K,IA (fun i=>JS qs (cs.take k) i\/(i∈pre/\JS qs [c] i)) G B K/\H=[[(ip,.cells #[.map (some mp),I5 lp] 165 (0,0))],[(mp,.map es ck)],cO,[(mf,.map G B)],[(bf,.cells #[.map (some mf)] 201 (0,0))],[(bx,.cells #[I5 ip] 90 (0,0))],[(bc,.cells c.A70 74 (0,0))]])) (E:=fun x e Hn=>e=[(8,I4 x),(23,I4 x)]/\Hn=[]) rfl Y call155 (mH hL c (cK ax) A0 (hW.small c.t) bn bl) (by rintro pre _ c1 c2 ⟨qx,qw,ve,h9,rfl⟩;intro q p9;simp [p9]) Y rfl Wp (⟨U,O,cu,hF.cong fun i=>by simp,rfl⟩) ?ha_5 ?hbd_5 ?hk_5
  case ha_5=>
   intro _ x _ _;refine Zg<|AW Y<|L6 (e:=[(8,_),(23,_)]) (Hn:=[]) ?_;exact ⟨V,V⟩
  case hbd_5=>
   intro l pre x post u e9 qo H1 R1 r9 pz hI j3;obtain ⟨rfl,rfl⟩:=j3;obtain ⟨G,B,K,Z,rfl⟩:=hI;obtain ⟨y,hy,rfl⟩:=tF hW (c:=c) (i:=x) (by rw [pz];simp);have l8:=J.get hy
   have qj:Decidable (JS qs (cs.take k) y.1\/(y.1∈pre/\JS qs [c] y.1)):=Classical.propDecidable _;have l5:=Z.get y.1
   refine AQ<|Zq<|BA (n:=14) (0::0::3::7::15::31::63::127::255::31::1023::31::4095::8191::[]) 4096 AF AF V<|BE 0 V isAgg201 Y<|A3 1 V (AO Y)<|FG 2 V Wh (De (Cf D4 (D:=fun _=>True)) underlying201 W6 Z.map (fun _ _=>trivial) (trivial) (l5) Y Y)<|A3 3 V (DD Y)<|A3 4 V (AO Y)<|DF (t:=28) Y (fun W=>?_) (fun W=>?_);·
    rw [DG W];refine DO 5 rfl Wh (BF isAgg90 Y B0)<|An 6 rfl (Ak Y rfl)<|An 7 rfl (AA (off:=0) R0 rfl rfl cW Y)<|DO 8 rfl Wh (BF cY Y B0)<|An 9 rfl (AO Y)<|DO 10 rfl Wh (De (Cf D4 (D:=fun _=>True)) du Lz J.map (fun _ _=>trivial) (trivial) (by rw [l8];first|done|rfl) Y Y)<|DO 11 rfl Wh (AB (cs:=c.A70) GF CC Y Wn (BN rfl))<|Yw 12 8191 rfl (Zu [_,_] Y call96 Y rfl (Kj y.2 c)) ?_;rintro _ _ ⟨rfl,rfl⟩;rw [DG (hq y hy),DG ax,V1,V1];refine A3 13 V (AX Y Y)<|Ag<|Zn [5,8,37] ?_;refine Zx<|AU Y (fun af=>?_) (fun af=>?_);·
     have h9:=af;refine Zg<|Zl isAgg201 Y<|Zm Y<|Ze (FH (Cf D4 (D:=fun _=>True)) underlying201 Z.map (fun _ _=>trivial) (trivial) Y Y Y Wo) ?_;rintro _ _ ⟨rfl,ic,gy,q9,o8,p8,rfl⟩;refine Z0<|A8<|Eg V (by exact ⟨ic,gy,q9,(Z.put o8 p8).cong (nY J hy h9),V⟩)
    have h9:Ct y.2 c=true->JS qs (cs.take k) y.1\/(y.1∈pre/\JS qs [c] y.1):=fun h=>by rw [af]at h;cases h
    refine AC<|A8<|Eg V (by exact ⟨G,B,K,Z.cong (aN J hy h9),V⟩)
   rw [Cl W];have h9:Ct y.2 c=true->JS qs (cs.take k) y.1\/(y.1∈pre/\JS qs [c] y.1):=fun _=>I0.1 W
   refine AN 5 V<|AN 6 V<|AN 7 V<|AN 8 V<|AN 9 V<|AN 10 V<|AN 11 V<|AN 12 V<|A3 13 V (AL Y Y)<|Ag<|Zn [5,8,37] ?_;refine Zx<|D9 Y<|AC<|A8<|Eg V (by exact ⟨G,B,K,Z.cong (aN J hy h9),V⟩)
  intro D1 H2 j5;obtain ⟨G,B,K,Z,rfl⟩:=j5;refine Zn [2,5,13,14,15] ?_;refine A8<|A8<|Zx<|Zg<|Ya (n:=1) Y Y<|Zm Y<|Z0<|Zn [15,2,5,13,14] ?_;refine fB (Ds:=Ds) (e':=[(15,_)]) (by exact ⟨k+1,_,cO,G,B,K,V,⟨by omega,.inr ⟨lp,sc,jn,V,hL,hW⟩,Z.cong (uQ hW hq hc)⟩,V,V⟩) Wo Wo
 obtain rfl:k=cs.length:=by omega
 rw [G3]at hF;refine BD<|Zt<|Zt<|AV<|Zx<|Zq ?_;have sw:=hF.len (qs:=qs) fun i h=>by
  obtain ⟨x,hx,he,_⟩:=h;exact ⟨x,hx,he⟩
 refine Zg<|Zl isAgg201 Y<|Zc [_] Y call102 Y V (fV mf) ?_;rintro _ _ ⟨_,⟨bk,rfl,rfl⟩,rfl⟩;refine Zc [_] Y call101 Y V (Wq hF.map A0 bk mf (M:=[(mf,.map U O)]) B4) ?_;rintro _ _ ⟨_,⟨zs,s4,gm,gq,pg,rfl⟩,rfl⟩;refine A5 Y<|AJ<|sZ (Ds:=Ds) rfl (dU results50 Y) Wo (by exact ⟨zs,s4,lv,ML,fun i=>by rw [gm.mem_iff,hF.mem],gm.nodup_iff.2 hF.map.keys,gq,pg,X,rfl⟩)
theorem RA(b:Nat)(v:A4):BR prog 73 #[I5 b] [[(b,.cells #[.pointer none,v] 105 (0,0))]] (fun r H'=>r= .tuple #[]/\H'=[[(b,.cells #[I5 b,v] 105 (0,0))]]):=by
 refine Se func73 ntmps73 [0] ?_;intro u R;refine A1<|Zm Y<|Zp Y V<|Zh 0 S6 V rfl eM Y<|Zl isAgg102 Y<|Zv (IG fj Y Y)<|A6<|AU Y (fun m=>?_) (fun m=>?_);·
  refine Zg<|Zm Y<|Zm Y<|Zo Wh (Yu (c:=#[.pointer none,v]) fj underlying230 (V:Tryz.prog.info? 105=some Tryz.t105) B1 (Nat.zero_lt_succ 1) Y) ?_;refine Kw (sD (vs:=[_]) (e:=Extern.AbiNoEscape.same) func125 AF AF AF AF Y Y) V rfl<|Zo Wh (UZ underlying230 fj (V:Tryz.prog.info? 105=some Tryz.t105) (show liesAt _ _ _ (2/_) 0 _ 1=true from by kernel_rfl) Y) ?_;refine Zp Y V<|Zh 0 S6 V rfl eM Y<|Xe (Zs eM Y Y V)<|Z0<|Ce V results73 (by exact ⟨V,V⟩)
 cases m
theorem MU(b:Nat)(v:A4):BR prog 73 #[I5 b] [[(b,.cells #[I5 b,v] 105 (0,0))]] (fun r H'=>r= .tuple #[]/\H'=[[(b,.cells #[I5 b,v] 105 (0,0))]]):=by
 refine Se func73 ntmps73 [0] ?_;intro u R;refine A1<|Zm Y<|Zp Y V<|Zh 0 S6 V rfl eM Y<|Zl isAgg102 Y<|Zv (Bh fj Y Y)<|A6<|AU Y (fun m=>by cases m)<|fun m=>A1<|Zm Y<|Zp Y V<|Zh 0 S6 V rfl eM Y<|Zl isAgg102 Y<|Zm Y<|Kw (TB fj (V:Tryz.prog.info? 105=some Tryz.t105) Y Y) V rfl ?_;refine A6<|D9 Y<|AC<|Ce V results73 (by exact ⟨V,V⟩)
theorem O7(b:Nat)(v:A4)(l x:List UInt8)(I:List A9)(m:Row 5 v (l.map u8v) I)(h0:0<x.length)(hb:l.length+x.length<=1099511627776):BR prog 31 #[I5 b,.string (str x)] [[(b,.cells #[.pointer none,v] 105 (0,0))],I] (fun r H'=>∃J G O,Row 5 J ((l++x).map u8v) G/\r=O/\H'=[[(b,.cells #[I5 b,J] 105 (0,0))],G]):=by
 have K:=mL;obtain ⟨gv,X,rfl⟩:=m.form;refine Se func31 ntmps31 [0,1] ?_;intro u R;refine A1<|Za Y<|A5 Y<|A1<|Zm Y<|Zc [_] Y call73 Y V (RA b _) ?_;rintro _ _ ⟨_,⟨rfl,rfl⟩,rfl⟩;refine A6<|A1<|Zm Y<|Zm Y<|Zp Y V<|Zh 1 S6 V rfl NO Y<|Zl SD Y<|Zm Y<|Ze (OC (by_:=1) HL HA (V:Tryz.prog.info? 5=some Tryz.t5) V rfl V rfl Y m Y Wo A0 (by(rw [B6];omega)) (by(rw [B6];omega))) ?_;rintro _ _ ⟨U,B,rfl⟩;obtain ⟨Z,W,rfl⟩:=B.form;refine Zp Y V<|Zh 1 S6 V rfl NO Y<|Xe (Zs NO Y Y V)<|Z0<|Zn [1] ?_;refine Zx<|A1<|Zm Y<|Zv (Q8 HA Y)<|Za Y<|A5 Y<|AJ<|DJ rfl results31 Y Y (by exact ⟨_,U,_,(by rw [C0];exact B),rfl,rfl⟩)
theorem PV(b:Nat)(v:A4)(l x:List UInt8)(I:List A9)(m:Row 5 v (l.map u8v) I)(h0:0<x.length)(hb:l.length+x.length<=1099511627776):BR prog 31 #[I5 b,.string (str x)] [[(b,.cells #[I5 b,v] 105 (0,0))],I] (fun r H'=>∃J G O,Row 5 J ((l++x).map u8v) G/\r=O/\H'=[[(b,.cells #[I5 b,J] 105 (0,0))],G]):=by
 have K:=mL;obtain ⟨gv,X,rfl⟩:=m.form;refine Se func31 ntmps31 [0,1] ?_;intro u R;refine A1<|Za Y<|A5 Y<|A1<|Zm Y<|Zc [_] Y call73 Y V (MU b _) ?_;rintro _ _ ⟨_,⟨rfl,rfl⟩,rfl⟩;refine A6<|A1<|Zm Y<|Zm Y<|Zp Y V<|Zh 1 S6 V rfl NO Y<|Zl SD Y<|Zm Y<|Ze (OC (by_:=1) HL HA (V:Tryz.prog.info? 5=some Tryz.t5) V rfl V rfl Y m Y Wo A0 (by(rw [B6];omega)) (by(rw [B6];omega))) ?_;rintro _ _ ⟨U,B,rfl⟩;obtain ⟨Z,W,rfl⟩:=B.form;refine Zp Y V<|Zh 1 S6 V rfl NO Y<|Xe (Zs NO Y Y V)<|Z0<|Zn [1] ?_;refine Zx<|A1<|Zm Y<|Zv (Q8 HA Y)<|Za Y<|A5 Y<|AJ<|DJ rfl results31 Y Y (by exact ⟨_,U,_,(by rw [C0];exact B),rfl,rfl⟩)
theorem O0(b g cap:Nat)(p:A4)(l:List UInt8)(cur:AK)(z:Nat×Nat)(h0:0<l.length)(hc:cap≠0)(B:l.length<=9223372036854775807)(m:cur.toList.take l.length=l.map u8v):BR prog 35 #[I5 b] [[(b,.cells #[p,I6 g l.length cap] 105 (0,0))],[(g,.cells cur 5 z)]] (fun r H'=>r= .string (str l)/\H'=[[(b,.cells #[p,I6 g l.length cap] 105 (0,0))]]):=by
 refine Se func35 ntmps35 [0] ?_;intro u R;refine A1<|A5 Y<|Zq<|BA (n:=12) (0::1::3::7::15::0::32::96::224::480::1023::2047::[]) 1040 AF AF V<|A3 0 V (AO Y)<|A3 1 V (Ak Y V)<|A3 2 V (AA (off:=1) S6 V rfl NO Y)<|BE 3 V SD Y<|A3 5 V (AO Y)<|A3 6 V (Ak Y V)<|A3 7 V (AA (off:=1) S6 V rfl NO Y)<|BE 8 V SD Y<|A3 9 V (Ac HL Y)<|Zz (l:=[4])<|B7 [true,false] [(8,(_,_))] V rfl (Y1 Y hc) ?_ (fun _ _ h=>h.elim) Aj;rintro _ _ ⟨rfl,rfl⟩;refine BW<|Yw 10 2047 V (Rc (l:=l) underlying167 AF Y Y (List.ne_nil_of_length_pos h0) B Wo m)<|Cp<|A3 11 V (Aq Y)<|Ag<|Zn [2] ?_;refine Zx<|AJ<|AP V results35 Y (by exact ⟨V,V⟩)
end Go.Proofs.YthhakdmlpngcmaaGreatDoor
