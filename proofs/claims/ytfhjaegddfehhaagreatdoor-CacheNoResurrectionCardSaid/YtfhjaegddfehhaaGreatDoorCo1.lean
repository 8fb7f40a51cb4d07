/-
  The sort with a function lies in the program: laid at rows (printed by the kit, in plain words).
-/
import Derived.Test.YtfhjaegddfehhaaGreatDoorMt2
set_option linter.unusedVariables false
set_option linter.unusedSimpArgs false
namespace Go.Proofs
open Go.Shelf
def Tryz.sortIv_ren:Go.Shelf.Ren:=⟨fun|6=>211|15=>100|14=>249|28=>162|29=>163|20=>288|21=>289|22=>290|23=>291|24=>292|25=>293|26=>294|27=>295|46=>312|47=>221|48=>222|49=>313|50=>314|57=>322|n=>n,fun|22=>267|24=>269|25=>321|3=>3|39=>202|0=>0|53=>287|55=>289|4=>4|46=>279|45=>278|50=>284|5=>5|9=>9|66=>330|70=>96|76=>370|77=>371|n=>n,fun|n=>n⟩
theorem Tryz.sortIv:Go.Proofs.SlLaysF0.n6 prog Tryz.sortIv_ren:={
 mixed:=by kernel_rfl
 f6:=⟨Tryz.f211.name,by decide,func211.trans (congrArg some A6)⟩
 f14:=⟨Tryz.f249.name,by decide,func249.trans (congrArg some A6)⟩
 f15:=func100.trans (congrArg some A6)
 f20:=⟨Tryz.f288.name,by decide,func288.trans (congrArg some A6)⟩
 f21:=⟨Tryz.f289.name,by decide,func289.trans (congrArg some A6)⟩
 f22:=⟨Tryz.f290.name,by decide,func290.trans (congrArg some A6)⟩
 f23:=⟨Tryz.f291.name,by decide,func291.trans (congrArg some A6)⟩
 f24:=⟨Tryz.f292.name,by decide,func292.trans (congrArg some A6)⟩
 f25:=⟨Tryz.f293.name,by decide,func293.trans (congrArg some A6)⟩
 f26:=⟨Tryz.f294.name,by decide,func294.trans (congrArg some A6)⟩
 f27:=⟨Tryz.f295.name,by decide,func295.trans (congrArg some A6)⟩
 f28:=func162.trans (congrArg some A6)
 f29:=func163.trans (congrArg some A6)
 f46:=⟨Tryz.f312.name,by decide,func312.trans (congrArg some A6)⟩
 f47:=func221.trans (congrArg some A6)
 f48:=func222.trans (congrArg some A6)
 f49:=⟨Tryz.f313.name,by decide,func313.trans (congrArg some A6)⟩
 f50:=⟨Tryz.f314.name,by decide,func314.trans (congrArg some A6)⟩
 f57:=⟨Tryz.f322.name,by decide,func322.trans (congrArg some A6)⟩
 t0:=de
 a0:=isAgg0
 z0:=sizeOf0
 v0:=dj
 t3:=C5
 a3:=AD
 z3:=A4
 v3:=H4
 t4:=Lk
 a4:=DM
 z4:=CH
 v4:=T0
 t5:=Mb
 a5:=T7
 z5:=It
 v5:=S7
 t9:=GP
 a9:=HQ
 z9:=Fi
 v9:=HT
 t22:=aE
 a22:=isAgg267
 z22:=sizeOf267
 v22:=zeroValue267
 t25:=underlying321
 a25:=isAgg321
 z25:=sizeOf321
 v25:=zeroValue321
 t39:=W5
 a39:=isAgg202
 z39:=fm
 v39:=fX
 t45:=mN
 a45:=isAgg278
 z45:=sizeOf278
 v45:=mu
 t46:=mS
 a46:=isAgg279
 z46:=sizeOf279
 v46:=mw
 t50:=mC
 a50:=isAgg284
 z50:=sizeOf284
 v50:=mn
 t53:=Sp
 a53:=HW
 z53:=Fc
 v53:=fY
 t55:=W6
 a55:=ao
 z55:=dr
 v55:=ff
 t66:=mT
 a66:=isAgg330
 z66:=sizeOf330
 v66:=mx
 t70:=my
 a70:=isAgg96
 z70:=T5
 v70:=Wc
 t76:=mc
 a76:=isAgg370
 z76:=sizeOf370
 v76:=n4
 t77:=me
 a77:=isAgg371
 z77:=sizeOf371
 v77:=n5}
end Go.Proofs
namespace Go.Proofs.YtfhjaegddfehhaaGreatDoor
open Go.Proofs.Tryz
open Go Go.RowKit Gw
set_option maxRecDepth 100000
attribute [local irreducible] Gw.At Gw.Nx Gw.Ops
open Go.Sort Go.Shelf
theorem gV(a b:IvM)(W:World):Calls prog 212 #[.agg #[I4 a.lo,I4 a.hi,I4 a.rc,I4 a.id],.agg #[I4 b.lo,I4 b.hi,I4 b.rc,I4 b.id]] W fun e B=>e= .returned (I4 (Lib.compareInt a.lo b.lo))/\∃q m,B=grow (W.drewN q) m:=by
 go_enter func212,ntmps212
 go_wp2
 all_goals (try simp only [Fl]at*)
 all_goals go_ret
 all_goals refine ⟨?_,0,_,by rw [alloc_eq_grow,alloc_eq_grow,grow_grow];rfl⟩
 all_goals (simp [Lib.compareInt]<;>(try split)<;>(first|rfl|omega))
def CJ(l:List IvM):List Value:=l.flatMap fun x=>[I4 x.lo,I4 x.hi,I4 x.rc,I4 x.id]
instance:Inhabited IvM:=⟨⟨0,0,0,0⟩⟩
def NS(x:IvM):List Value:=[I4 x.lo,I4 x.hi,I4 x.rc,I4 x.id]
def ah(a b:IvM):Int:=Lib.compareInt a.lo b.lo
theorem Qn(l:List IvM):(CJ l).length=l.length*4:=by
 induction l with
 |nil=>rfl
 |cons a l ih=>simp only [CJ,HL,B7,DG]at ih⊢;rw [ih];simp;omega
theorem ltI(a b:IvM):ltOf ah a b=decide (a.lo<b.lo):=by
 unfold ltOf ah Lib.compareInt;apply decide_eq_decide.2;split<;>(try split)<;>omega
theorem vd:SWO (ltOf ah)where
 irrefl x:=by rw [ltI];simp
 trans x y z h1 h2:=by rw [ltI]at*;simp only [Fl]at*;omega
 ntrans x y z h1 h2:=by rw [ltI]at*;simp only [Mu]at*;omega
theorem dB(w:Value)(o:List IvM)(s:List AA)(hn:o.length<=1000000)(cu:Bc 4 269 w o.length (CJ o) s):
 Ba prog 211 #[w,.func (.func 212) #[] #[]] [s]
  (fun r H'=>r= .tuple #[]/\∃(s':List AA) (o':List IvM),o'.Perm o/\(o'.Pairwise fun a b=>a.lo<=b.lo)/\Bc 4 269 w o'.length (CJ o') s'/\H'=[s']):=by
 obtain ⟨d9,⟨rfl,h0,rfl⟩|⟨g,cap,cur,z,rfl,rfl,bn,af,J,cO,W⟩⟩:=cu
 · intro u R w0 Z
   have ho:o=[]:=Lw h0;subst ho;have hN:=AnyF.slices_SortFunc_none Tryz.sortIv none 0 (.func (.func 212) #[] #[]) w0
   exact hN.mono (by
    rintro e w' ⟨rfl,rfl⟩;exact .inl ⟨_,_,V,⟨V,[],[],.refl _,.nil,Bf _ _,V⟩,Z⟩)
 · intro u R w0 Z
   have hb:=Z.get (g,.cells cur 269 z) B0;have hH:=Te (w:=w0) (g:=g) (cur:=cur) (e:=269) (z:=z) NS 4 (fun _=>rfl) o hb (by rw [J];omega) W cO
   have eg:∀(args:Array Value) (w:World),(callFunc 212 args).run prog w= .ok (.enter 212 args) w:=enters_of func212 A6 rfl;have O:CmpLays prog 212 #[] NS 4 ah g 0 o.toArray.size w0:=by
    intro m os dk ek x y;exact gV x y _
   have U:=AnyQ.slices_SortFunc Tryz.sortIv 4 isAgg269 ON NS (fun _=>rfl) (fun x v hv=>by simp [NS]at hv;rcases hv with rfl|rfl|rfl|rfl<;>rfl) ah vd 212 #[] g 0 cap o.toArray w0 eg O hH (Z.lt (p:=(g,.cells cur 269 z)) B0) Hh;refine U.mono ?_;rintro e w' ⟨rfl,B,n,os,⟨ax,-,hpm⟩,hso,rfl⟩;have G:B.size=o.length:=by simpa using ax
   have hF:(flatK NS 4 B).toList=CJ B.toList:=Ny NS 4 (fun _=>rfl) B.toList;have K:(flatK NS 4 B).size=o.length*4:=by rw [size_flatK,G]
   have I:B.toList.Perm o:=by
    have e1:B.extract 0 o.toArray.size=B:=by
     rw [show o.toArray.size=B.size by rw [G];simp];exact Array.extract_size
    rw [e1]at hpm;simpa using hpm
   have X:B.toList.length=o.length:=I.length_eq;refine .inl ⟨_,[[(g,.cells (putCells id 0 (flatK NS 4 B) cur) 269 z)]],V,⟨V,_,B.toList,I,?_,?_,V⟩,Z.sortedK NS B os⟩
   · rw [eL]
     intro i j hi hj bg;have h:=hso i j (C0 _) bg Hh
     rw [ltI]at h;simp only [Mu]at h;rw [getElem!_pos B i (by simpa using hi),getElem!_pos B j (by simpa using hj)]at h;simp only [Array.getElem_toList];omega
   · rw [X]
     refine ⟨by rw [Qn,X],.inr ⟨g,cap,_,z,rfl,rfl,bn,af,by rw [Me];exact J,?_,by rw [Me];exact W⟩⟩;have h:=VN cur (flatK NS 4 B) (by rw [K,J];omega)
     rw [K,hF]at h;exact h
end Go.Proofs.YtfhjaegddfehhaaGreatDoor
namespace Go.Proofs.YtfhjaegddfehhaaGreatDoor
open Go.Proofs.Tryz
open Go Go.RowKit Gw
set_option maxRecDepth 100000
attribute [local irreducible] Gw.At Gw.Nx Gw.Ops
variable{l:List IvM}{i:Nat}{x:IvM}
theorem ZO(h:l[i]?=some x):(CJ l)[i*4+1]?=some (I4 x.hi)/\(CJ l)[i*4+2]?=some (I4 x.rc):=by
 induction l generalizing i with
 |nil=>simp at h
 |cons a l ih=>
  cases i with
  |zero=>simp at h;subst h;exact ⟨rfl,rfl⟩
  |succ i=>
   have m:l[i]?=some x:=by simpa using h
   rw [show(i+1)*4+1=i*4+1+4 by omega,show(i+1)*4+2=i*4+2+4 by omega];exact ih m
theorem ZN(h:l[i]?=some x)(r:Int):(CJ l).set (i*4+2) (I4 r)=CJ (l.set i {x with rc:=r}):=by
 induction l generalizing i with
 |nil=>simp at h
 |cons a l ih=>
  cases i with
  |zero=>simp at h;subst h;rfl
  |succ i=>
   have m:l[i]?=some x:=by simpa using h
   rw [show(i+1)*4+2=i*4+2+4 by omega];have:=ih m
   show _::_::_::_::(CJ l).set (i*4+2) (I4 r)=_;rw [this];rfl
variable{cur:Array Value}{n:Nat}
theorem tF(B:cur.toList.take (n*4)=CJ l)(h:l[i]?=some x):cur[i*4+1]?=some (I4 x.hi)/\cur[i*4+2]?=some (I4 x.rc):=by
 obtain ⟨m,h2⟩:=ZO h;rw [<-B,HC]at m h2;constructor
 · by_cases hc:i*4+1<n*4
   · rw [AM hc]at m;simpa using m
   · rw [AK hc]at m;cases m
 · by_cases hc:i*4+2<n*4
   · rw [AM hc]at h2;simpa using h2
   · rw [AK hc]at h2;cases h2
theorem tC(m:cur.toList.take (n*4)=CJ l)(h:l[i]?=some x)(r:Int):(cur.setIfInBounds (i*4+2) (I4 r)).toList.take (n*4)=CJ (l.set i {x with rc:=r}):=by
 rw [gS,List.take_set,m,ZN h]
theorem ig{g m:Nat}{z:Nat×Nat}(hn:l.length=n)(K:cur.toList.take (n*4)=CJ l)(J:n<=m)(B:m<=maxLen)(G:cur.size=m*4)(I:Ih z cur.size):Bc 4 269 (I6 g n m) l.length (CJ l) [(g,.cells cur 269 z)]:=by
 subst hn;exact ⟨Qn l,.inr ⟨g,m,cur,z,V,V,J,B,G,K,I⟩⟩
def Nt(x:IvM):Int×Int×Int:=(x.lo,x.hi,x.id)
def oD(l:List IvM)(i:Nat):Prop:=∀(j k:Nat) (x y:IvM),j<=k->k<i->l[j]?=some x->l[k]?=some y->x.hi<=y.rc
theorem VB{r:Int}(h:oD l i)(hx:l[i]?=some x)(O:x.hi<=r)(K:∀y,0<i->l[i -1]?=some y->y.rc<=r):oD (l.set i {x with rc:=r}) (i+1):=by
 have I:=(BE.1 hx).1;intro j k a b J W m G;rw [Sf]at m G;rcases E0 k i with hki|hki
 · rw [AK A1]at m G
   exact h j k a b J hki m G
 · obtain rfl:k=i:=by omega
   rw [AM rfl,AM I]at G;injection G with G
   subst G;by_cases B:k=j;· rw [AM B,AM I]at m;injection m with m;subst m;exact O
   · rw [AK B]at m
     obtain ⟨y,hy⟩:∃y,l[k -1]?=some y:=⟨_,B3 A1⟩;have U:=h j (k -1) a y A1 A1 m hy
     have h2:=K y A1 hy;show a.hi<=r
     omega
theorem TR{r:Int}(hx:l[i]?=some x):(l.set i {x with rc:=r}).map Nt=l.map Nt:=by
 apply MT;intro k;rw [DO,DO,Sf];by_cases m:i=k
 · subst m
   rw [AM rfl,AM (BE.1 hx).1,hx];rfl
 · rw [AK m]
theorem eZ(w:Value)(o:List IvM)(s:List AA)(hn:o.length<=1000000)(cu:Bc 4 269 w o.length (CJ o) s):Ba prog 146 #[w] [s] (fun r H'=>r=w/\∃(s':List AA) (l o':List IvM),o'.Perm o/\(o'.Pairwise fun a b=>a.lo<=b.lo)/\l.map Nt=o'.map Nt/\oD l l.length/\Bc 4 269 w l.length (CJ l) s'/\H'=[s']):=by
 have lw:=mL;obtain ⟨pw,cw,rfl⟩:=cu.form;refine Se func146 ntmps146 [0] ?_;intro u R;refine A0<|A3 Y<|A0<|Zm Y<|Zc [_,_] Y call211 Y V (dB _ o s hn cu) ?_;rintro _ _ ⟨_,⟨rfl,s1,o1,bg,j5,j3,rfl⟩,rfl⟩;have ic:=bg.length_eq
 refine A5<|Zq<|A0<|Zm Y<|Zv (AY aE Y)<|Zm Y<|A5<|AR<|Zb [8,0,7] ?_;refine BA (e0:=[(8,_)]) (fun m e H=>∃(i:Nat) (l:List IvM) (s2:List AA),m=o.length -i/\((i<=o.length/\l.length=o.length)/\l.map Nt=o1.map Nt/\oD l i/\Bc 4 269 (.slice pw o.length cw) l.length (CJ l) s2)/\e=[(8,I4 (i:Int))]/\H=[s2]) (by exact ⟨0,o1,s1,V,⟨⟨C0 _,ic⟩,V,fun j k x y _ h=>absurd h (cX k),j3⟩,V,V⟩) Wp ?_;rintro _ _ _ ⟨i,l,s2,rfl,⟨⟨l8,gB⟩,W,K,bn⟩,rfl,rfl⟩;refine A0<|Zv (Au Y Y)<|A5<|Zq<|Aq Y (fun gF=>?_) (fun gF=>?_);·
  refine AC<|Zx<|Zq<|AR<|A0<|Zm Y<|A3 Y<|Zq ?_;rcases bn with⟨l5,⟨d9,h0,rfl⟩|⟨g,cap,cur,z,d9,rfl,l9,Z,af,cO,ax⟩⟩
  · omega
  injection d9 with e1 e2 e3
  subst e1 e3;obtain ⟨x,hx⟩:∃x,l[i]?=some x:=⟨_,B3 A1⟩;have gm:=tF cO hx
  refine Zg<|Zm Y<|Zm Y<|Zm Y<|Zm Y<|Bb (Ac aE ON Y Y A1)<|Zv (Ar (off:=1) WD rfl rfl A4 Y)<|Zl AD Y (hv:=by exact (by rw [D0];exact gm.1)) ?_;refine Bb (Ac aE ON Y Y A1)<|Zv (Ar (off:=2) WD V rfl A4 Y)<|Xe (Zs A4 Y Y V (hi:=by omega) (hz:=by exact ax)) ?_;refine Z0<|Zn [0,3,7,8] ?_;refine Zx<|Zq ?_;obtain ⟨U,G⟩:∃U,U=cur.setIfInBounds (0+i*4+2) (I4 x.hi):=⟨_,rfl⟩;rw [<-G];have B:U.toList.take (l.length*4)=CJ (l.set i {x with rc:=x.hi}):=by rw [G,D0];exact tC cO hx x.hi
  have I:U.size=cw*4:=by rw [G,SO];exact af
  have J:Ih z U.size:=by rw [I,<-af];exact ax
  have X:(l.set i {x with rc:=x.hi})[i]?=some {x with rc:=x.hi}:=by rw [Sf,AM rfl,AM A1]
  have gq:=tF B X;refine Zg<|Zm Y<|Zv (DF (n:=0) Y Y)<|A5<|Aq Y (fun ek=>?_) (fun ek=>?_);·
   obtain ⟨y,hy⟩:∃y,l[i -1]?=some y:=⟨_,B3 A1⟩;have kv:(l.set i {x with rc:=x.hi})[i -1]?=some y:=by rw [Sf,AK A1];exact hy
   have gy:=tF B kv;refine Az (n:=17) (0::0::0::0::12::28::60::0::0::256::896::1920::3968::8188::16383::32767::65535::[]) 65536 A6 A6 rfl<|A2 0 rfl (AP Y)<|A2 1 rfl (AP Y)<|A2 2 rfl (AP Y)<|A2 3 rfl (AP Y)<|A2 4 rfl (Ac aE ON Y Y A1)<|A2 5 rfl (Ar (off:=2) WD rfl rfl A4 Y)<|B2 6 rfl AD Y (hv:=by exact (by rw [D0];exact gq.2)) ?_;refine A2 7 V (AP Y)<|A2 8 V (AP Y) ?_
   (refine Dr (D':=1023) 9 (CO (n:=1) Y Y ?_ ?_) ?_;(focus (omega));(focus (omega)))
   refine A2 10 rfl (Ac aE ON Y Y A1)<|A2 11 rfl (Ar (off:=2) WD rfl rfl A4 Y)<|B2 12 rfl AD Y (hv:=by exact (by rw [D0];exact gy.2)) ?_;refine A2 13 V (QB Y Y)<|A2 14 V (Ac aE ON Y Y A1)<|A2 15 V (Ar (off:=2) WD V rfl A4 Y)<|Zz (l:=[16])<|B1 [false,false] [] V rfl (Zs A4 Y Y V (hi:=by omega) (hz:=by exact J)) ?_ (fun _ _ h=>h.elim) Ai;rintro _ _ ⟨rfl,rfl⟩;refine B6<|Ag<|Zn [0,7,8] ?_;refine A8<|Zx<|Zg<|Ya (n:=1) Y Y<|Zm Y<|Z0<|Zn [8,0,7] ?_;refine Ab (e':=[(8,_)]) (by exact ⟨i+1,(l.set i {x with rc:=x.hi}).set i {x with rc:=max x.hi y.rc},[(g,.cells (U.setIfInBounds (0+i*4+2) (I4 (max x.hi y.rc))) 269 z)],rfl,⟨⟨by omega,by simp;omega⟩,by rw [TR X,TR hx];exact W,by rw [List.set_set];exact VB K hx A1 (fun y2 _ O=>by rw [hy]at O;injection O with O;rw [<-O];omega),ig Hh (by rw [D0,e2];exact tC B X _) A1 Z (by rw [SO];exact I) (by rw [SO];exact J)⟩,rfl,rfl⟩)
  refine AC<|A8<|Zx<|Zg<|Ya (n:=1) Y Y<|Zm Y<|Z0<|Zn [8,0,7] ?_;refine Ab (e':=[(8,_)]) (by exact ⟨i+1,l.set i {x with rc:=x.hi},[(g,.cells U 269 z)],rfl,⟨⟨by omega,by simp;omega⟩,by rw [TR hx];exact W,VB K hx A1 (fun y2 h0=>absurd h0 A1),ig Hh (by rw [e2];exact B) A1 Z I J⟩,rfl,rfl⟩)
 obtain rfl:i=o.length:=by omega
 refine Ay<|Zt<|Zt<|AU<|Zx<|A0<|Zm Y<|A3 Y<|AJ<|AO V results146 Y (by exact ⟨V,s2,l,o1,bg,j5,W,gB▸K,bn,V⟩)
theorem uy(v:Int):∀{l:List IvM},(l.Pairwise fun a b=>a.lo<=b.lo)->l.takeWhile (fun x=>decide (x.lo<=v))=l.filter fun x=>decide (x.lo<=v)
 |[],_=>rfl
 |a::l,h=>by
  obtain ⟨B,h2⟩:=PC.1 h;by_cases m:a.lo<=v;· rw [qq (by simpa using m),List.filter_cons_of_pos (by simpa using m),uy v h2]
  · rw [qu (by simpa using m),kf (by simpa using m)]
    exact (kh.2 fun b G=>by have:=B b G;simp;omega).symm
theorem Uw(v:Int):∀{q:List IvM},(q.Pairwise fun a b=>b.hi<=a.rc)->(∀a∈q,a.hi<=a.rc)->(q.takeWhile fun x=>decide (v<=x.rc)).filter (fun x=>decide (v<=x.hi))=q.filter fun x=>decide (v<=x.hi)
 |[],_,_=>rfl
 |a::q,h,hs=>by
  obtain ⟨G,h2⟩:=PC.1 h;by_cases B:v<=a.rc;· rw [qq (by simpa using B),cH,cH,Uw v h2 fun b m=>hs b (EV _ m)]
  · rw [qu (by simpa using B)]
    refine (kh.2 fun b m=>?_).symm;rcases D4.1 m with rfl|m
    · have:=hs b B0;simp;omega
    · have:=G b m;simp;omega
theorem nT{v:Int}(W:l.Pairwise fun a b=>a.lo<=b.lo)(J:oD l l.length)(i:Int):i∈Ir v l↔∃x∈l,x.lo<=v/\v<=x.hi/\x.id=i:=by
 have U:l.Pairwise fun a b=>a.hi<=b.rc:=eL.2 fun j k m I O=>J j k _ _ A1 I (B3 m) (B3 I);have K:∀a∈l,a.hi<=a.rc:=fun a G=>by
  obtain ⟨j,m,rfl⟩:=List.mem_iff_getElem.1 G;exact J j j _ _ (CM _) m (B3 m) (B3 m)
 unfold Ir;rw [uy v W,Uw v (List.pairwise_reverse.2 (U.sublist TX)) fun a G=>K a (FA.1 (ee.1 G)).1];simp only [Bm,FA,ee,Fl];constructor;· rintro ⟨x,⟨⟨hx,B⟩,h2⟩,rfl⟩;exact ⟨x,hx,B,h2,rfl⟩
 · rintro ⟨x,hx,B,h2,rfl⟩;exact ⟨x,⟨⟨hx,B⟩,h2⟩,rfl⟩
variable{o:List IvM}
theorem ZG(m:l.map Nt=o.map Nt){a b i:Int}:(∃x∈l,x.lo=a/\x.hi=b/\x.id=i)↔∃x∈o,x.lo=a/\x.hi=b/\x.id=i:=by
 have h:∀{l:List IvM},(∃x∈l,x.lo=a/\x.hi=b/\x.id=i)↔(a,b,i)∈l.map Nt:=fun{l}=>by
  simp only [Bm,Nt,j1]
 rw [h,h,m]
theorem ZH(m:l.map Nt=o.map Nt)(B:o.Pairwise fun a b=>a.lo<=b.lo):l.Pairwise fun a b=>a.lo<=b.lo:=by
 have h:∀{l:List IvM},(l.Pairwise fun a b=>a.lo<=b.lo)↔(l.map Nt).Pairwise fun a b=>a.1<=b.1:=fun{l}=>by
  rw [Th];rfl
 rw [h,m];exact h.1 B
def R7(x:Int×QM):IvM:=⟨x.2.lo,x.2.hi,0,x.1⟩
def plQ(x:Int×QM):Int×Int:=(x.2.tb,x.2.cl)
def Ef(vs:List (Int×QM))(k:Int×Int):List IvM:=(vs.filter fun x=>decide (plQ x=k)).map R7
def FP(vs:List (Int×QM))(t:Int):List Int:=(vs.filter fun x=>decide (x.2.kd=7/\x.2.ot=t)).map (·.1)
theorem TT(vs:List (Int×QM))(x:Int×QM)(k:Int×Int):Ef (vs++[x]) k=if k=plQ x then Ef vs (plQ x)++[R7 x]else Ef vs k:=by
 unfold Ef;rw [Hi,BW];by_cases h:k=plQ x;· subst h;simp
 · rw [AK h,kf (by simpa using fun e=>h e.symm)];simp
theorem Nu(vs:List (Int×QM))(x:Int×QM)(t:Int):FP (vs++[x]) t=if x.2.kd=7/\t=x.2.ot then FP vs x.2.ot++[x.1]else FP vs t:=by
 unfold FP;rw [Hi,BW];by_cases h:x.2.kd=7/\t=x.2.ot;· obtain ⟨m,rfl⟩:=h;simp [m]
 · rw [AK h,kf (by simpa using fun e1 e2=>h ⟨e1,e2.symm⟩)];simp
theorem ZQ(a b:List IvM):CJ (a++b)=CJ a++CJ b:=by unfold CJ;rw [N6]
abbrev vO(vs:List (Int×QM))(lm:List ((Int×Int)×Value))(M:List AA):Prop:=UK 4 269 lm (fun k=>(Ef vs k).length) (fun k=>CJ (Ef vs k)) M
abbrev bG(vs:List (Int×QM))(lm:List (Int×Value))(M:List AA):Prop:=UK 1 3 lm (fun t=>(FP vs t).length) (fun t=>(FP vs t).map fun i=>Value.int .i64 i) M
variable{vs:List (Int×QM)}{M:List AA}
theorem nI{lm:List ((Int×Int)×Value)}(W:(lm.map (·.1)).Nodup)(h:vO vs lm M)(x:Int×QM):
 ∃s B,Bc 4 269 ((EI (plQ x) lm).getD (.slice none 0 0)) (Ef vs (plQ x)).length (CJ (Ef vs (plQ x))) s/\M.Perm (s++B)/\∀(I:Value) (G:List AA) (m:List ((Int×Int)×Value)),(m.map (·.1)).Nodup->(∀p,p∈m↔p=(plQ x,I)\/(p∈lm/\p.1≠plQ x))->
  Bc 4 269 I (Ef vs (plQ x)++[R7 x]).length (CJ (Ef vs (plQ x)++[R7 x])) G->vO (vs++[x]) m (G++B):=by
 obtain ⟨s,B,K,h2,O⟩:=QL W h (plQ x);refine ⟨s,B,K,h2,fun I G m J X Z=>?_⟩;have U:=O I G _ _ m J X Z
 have e1:(fun k=>(Ef (vs++[x]) k).length)=fun k=>if k=plQ x then(Ef vs (plQ x)++[R7 x]).length else(Ef vs k).length:=funext fun k=>by
  rw [TT];split<;>rfl
 have e2:(fun k=>CJ (Ef (vs++[x]) k))=fun k=>if k=plQ x then CJ (Ef vs (plQ x)++[R7 x])else CJ (Ef vs k):=funext fun k=>by
  rw [TT];split<;>rfl
 unfold vO;rw [e1,e2];exact U
variable{lm:List (Int×Value)}
theorem nG(X:(lm.map (·.1)).Nodup)(h:bG vs lm M)(x:Int×QM)(K:x.2.kd=7):
 ∃s B,Bc 1 3 ((EI x.2.ot lm).getD (.slice none 0 0)) (FP vs x.2.ot).length ((FP vs x.2.ot).map fun i=>Value.int .i64 i) s/\M.Perm (s++B)/\∀(I:Value) (G:List AA) (m:List (Int×Value)),(m.map (·.1)).Nodup->(∀p,p∈m↔p=(x.2.ot,I)\/(p∈lm/\p.1≠x.2.ot))->
  Bc 1 3 I (FP vs x.2.ot++[x.1]).length ((FP vs x.2.ot++[x.1]).map fun i=>Value.int .i64 i) G->bG (vs++[x]) m (G++B):=by
 obtain ⟨s,B,O,h2,U⟩:=QL X h x.2.ot;refine ⟨s,B,O,h2,fun I G m J Z hr=>?_⟩;have W:=U I G _ _ m J Z hr
 have e1:(fun k=>(FP (vs++[x]) k).length)=fun k=>if k=x.2.ot then(FP vs x.2.ot++[x.1]).length else(FP vs k).length:=funext fun k=>by
  rw [Nu];simp only [K,V2];split<;>rfl
 have e2:(fun k=>(FP (vs++[x]) k).map fun i=>Value.int .i64 i)=fun k=>if k=x.2.ot then(FP vs x.2.ot++[x.1]).map fun i=>Value.int .i64 i else(FP vs k).map fun i=>Value.int .i64 i:=funext fun k=>by
  rw [Nu];simp only [K,V2];split<;>rfl
 unfold bG;rw [e1,e2];exact W
theorem nH(h:bG vs lm M)(x:Int×QM)(m:x.2.kd≠7):bG (vs++[x]) lm M:=by
 have e:FP (vs++[x])=FP vs:=funext fun t=>by rw [Nu,AK (fun h=>m h.1)]
 unfold bG;rw [e];exact h
theorem kF(q:QM)(B:BJ q):Ba prog 137 #[.agg q.A59] [] (fun r H'=>r= .tuple #[I4 q.tb,I4 q.cl,I4 q.lo,I4 q.hi]/\H'=[]):=by
 refine Se func137 ntmps137 [0] ?_;intro u R;refine A0<|Ze (Bx #[_,_,_,_,_,_,_])<|AE fun G=>Za Y<|Za Y<|Za Y<|A3 Y<|Zq<|A0<|Zo Wh (A9 (cs:=q.A59) Dd C7 Y Wn (BK V))<|Xr [_] Y call22 Y V (Jd q)<|Zv (D7 Y)<|A5<|AX Y (fun m=>?_) (fun m=>?_);·
  exfalso;simp [B]at m
 refine AC<|Zx<|Zq<|Az (n:=12) (0::1::0::4::0::16::0::64::3::271::831::2047::[]) 0 A6 A6 V<|A2 0 V (AB (off:=1) CC V rfl A4 Y)<|B2 1 V AD Y<|A2 2 V (AB (off:=2) CC V rfl A4 Y)<|B2 3 V AD Y<|A2 4 V (AB (off:=3) CC V rfl A4 Y)<|B2 5 V AD Y<|A2 6 V (AB (off:=4) CC V rfl A4 Y)<|B2 7 V AD Y<|A2 8 V (Av Y)<|A2 9 V (Av Y)<|A2 10 V (Av Y)<|A2 11 V (Av Y)<|Ag<|Zn [2,3,4,5] ?_;refine Zx<|AJ<|jC V results137 Y Y Y Y (by exact ⟨V,V⟩)
def bE(lm:List (Int×Value))(js:List Nat)(vs:List (Int×QM)):Prop:=vs.length=js.length/\∀x,x∈vs↔∃j∈js,lm[j]?=some (x.1,(.agg #[I4 x.2.kd,I4 x.2.tb,I4 x.2.cl,I4 x.2.lo,I4 x.2.hi,I4 x.2.bq,I4 x.2.ot]:Value))
variable{js:List Nat}{j:Nat}
theorem dD(h:bE lm js vs){x:Int×QM}(m:lm[j]?=some (x.1,(.agg #[I4 x.2.kd,I4 x.2.tb,I4 x.2.cl,I4 x.2.lo,I4 x.2.hi,I4 x.2.bq,I4 x.2.ot]:Value))):bE lm (js++[j]) (vs++[x]):=by
 refine ⟨by rw [B7,B7,h.1];rfl,fun y=>?_⟩;rw [B9,h.2];constructor
 · rintro (⟨i,hi,hy⟩|hy)
   · exact ⟨i,Dg _ hi,hy⟩
   · rw [BT.1 hy];exact ⟨j,by simp,m⟩
 · rintro ⟨i,hi,hy⟩
   rcases B9.1 hi with hi|hi
   · exact .inl ⟨i,hi,hy⟩
   · rw [BT.1 hi,m]at hy
     injection hy with hy
     refine .inr (BT.2 ?_);obtain ⟨a,q⟩:=x;obtain ⟨b,r⟩:=y;obtain ⟨B,q2,G,I,J,K,O⟩:=q;obtain ⟨U,W,X,Z,r5,r6,r7⟩:=r;simp at hy;simp [hy]
theorem TU(vs:List (Int×QM))(k:Int×Int):(Ef vs k).length<=vs.length:=by unfold Ef;rw [B4];exact On _ _
def Qz(o l:List IvM):Prop:=∃o':List IvM,o'.Perm o/\(o'.Pairwise fun a b=>a.lo<=b.lo)/\l.map Nt=o'.map Nt/\oD l l.length
variable{lmA:List ((Int×Int)×Value)}{pn:(Int×Int)×Value}
theorem lV(G:(lmA.map (·.1)).Nodup)(m:lmA[j]?=some pn)(p:(Int×Int)×Value):p∈lmA↔p=(pn.1,pn.2)\/(p∈lmA/\p.1≠pn.1):=by
 constructor
 · intro B
   by_cases h:p.1=pn.1
   · obtain ⟨i,hi⟩:=GW B
     obtain rfl:=L8 G hi m h;rw [m]at hi;injection hi with hi;exact .inl hi.symm
   · exact .inr ⟨B,h⟩
 · rintro (rfl|⟨h,_⟩)
   · exact DE m
   · exact h
variable{ks:List Nat}
theorem dC{I G:List ((Int×Int)×Value)}(K:(lmA.map (·.1)).Nodup)(B:lmA[j]?=some pn)(J:¬j∈ks)(W:∀p,p∈I↔∃k∈ks,lmA[k]?=some p)(U:∀p,p∈G↔p=(pn.1,pn.2)\/(p∈I/\p.1≠pn.1))(p:(Int×Int)×Value):p∈G↔∃k∈ks++[j],lmA[k]?=some p:=by
 rw [U,W];constructor
 · rintro (rfl|⟨⟨k,K,m⟩,hne⟩)
   · exact ⟨j,by simp,B⟩
   · exact ⟨k,Dg _ K,m⟩
 · rintro ⟨k,O,m⟩
   rcases B9.1 O with hk1|hk1
   · refine .inr ⟨⟨k,hk1,m⟩,fun X=>J ?_⟩
     obtain rfl:=L8 K m B X;exact hk1
   · rw [BT.1 hk1,B]at m;injection m with m;exact .inl m.symm
variable{g:Int×Int->List IvM}
theorem gJ(O:(lmA.map (·.1)).Nodup)(B:lmA[j]?=some pn)(G:¬j∈ks){f:Int×Int->List IvM}{l2:List IvM}(J:∀i p,lmA[i]?=some p->if i∈ks then Qz (f p.1) (g p.1)else g p.1=f p.1)(h2:Qz (g pn.1) l2):
 ∀i p,lmA[i]?=some p->if i∈ks++[j]then Qz (f p.1) ((fun k=>if k=pn.1 then l2 else g k) p.1)else(fun k=>if k=pn.1 then l2 else g k) p.1=f p.1:=by
 intro i p hi;have h:=J i p hi
 by_cases m:i=j
 · subst m
   rw [B]at hi;injection hi with hi;subst hi
   rw [AK G]at h;rw [AM B0];simp only [HR];rw [<-h];exact h2
 · have I:p.1≠pn.1:=fun K=>m (L8 O hi B K)
   simp only [AK I,B9,BT,m,RC];exact h
theorem xw{lm:List ((Int×Int)×Value)}{l2:List IvM}{m:Int×Int}(h:UK 4 269 lm (fun x=>if x=m then l2.length else(g x).length) (fun x=>if x=m then CJ l2 else CJ (g x)) M):UK 4 269 lm (fun k=>((fun k=>if k=m then l2 else g k) k).length) (fun k=>CJ ((fun k=>if k=m then l2 else g k) k)) M:=by
 have e1:(fun k=>((fun k=>if k=m then l2 else g k) k).length)=fun x=>if x=m then l2.length else(g x).length:=funext fun k=>by
  show(if k=m then l2 else g k).length=_;split<;>rfl
 have e2:(fun k=>CJ ((fun k=>if k=m then l2 else g k) k))=fun x=>if x=m then CJ l2 else CJ (g x):=funext fun k=>by
  show CJ (if k=m then l2 else g k)=_;split<;>rfl
 rw [e1,e2];exact h
theorem ZX(vs:List (Int×QM))(t:Int):(FP vs t).length<=vs.length:=by unfold FP;rw [B4];exact On _ _
def Ii(c:Chg)(i:Nat):List AV:=(if 1<=i/\c.had=true then [⟨c.t,c.k,c.o⟩]else [])++(if 2<=i/\c.has=true then [⟨c.t,c.k,c.n⟩]else [])
def FL(c:Chg):List AV:=Ii c 2
theorem pQ(c:Chg)(i:Nat)(h:i<2):∃(fi:Nat) (rv:AV) (vb:Bool),(#[.func (.func 210) #[] #[],.func (.func 126) #[] #[]]:Array Value)[i]?=some (.func (.func fi) #[] #[])/\(∀(args:Array Value) (w:World),(callFunc fi args).run prog w= .ok (.enter fi args) w)/\
 BH prog fi #[.agg c.A57] [] (.tuple #[.agg rv.A58,.bool vb])/\(vb=true->Ii c (i+1)=Ii c i++[rv]/\∃m,FL c=Ii c i++rv::m)/\(vb=false->Ii c (i+1)=Ii c i):=by
 rcases (by omega:i=0\/i=1)with rfl|rfl
 · refine ⟨_,_,c.had,rfl,call210,VA c,fun hv=>?_,fun hv=>?_⟩
   · unfold FL Ii EM;simp [hv]
   · unfold Ii;simp [hv]
 · refine ⟨_,_,c.has,rfl,call126,Ob c,fun hv=>?_,fun hv=>?_⟩
   · unfold FL Ii EM;simp [hv]
   · unfold Ii;simp [hv]
theorem gN(c:Chg):Ba prog 148 #[.agg c.A57] [] (fun r H'=>∃b,r= .func (.func 213) #[] #[I5 b]/\H'=[[(b,.cells c.A57 62 (0,0))]]):=by
 refine Se func148 ntmps148 [0] ?_;intro u R;refine A0<|Ze (Eu Y (cs:=c.A57) A6)<|AE fun b=>A3 Y<|A0<|Zv (Bg (vs:=[]) (us:=[_]) Y Y)<|A3 Y<|AJ<|AO V results148 Y (by exact ⟨_,V,V⟩)
theorem gP(c:Chg)(b:Nat):FC prog 213 #[I5 b] [[(b,.cells c.A57 62 (0,0))]] (fun _=>True) (fun x:AV=>#[.agg x.A58]) (FL c):=by
 intro l J hA hy s I;refine Se func213 ntmps213 [0,1] ?_;intro u R;refine A0<|Ze (Ah (vs:=[_,_]) (cs:=[_,_]) underlying322 sizeOf148 zeroValue148 Y V rfl V rfl V)<|AE fun bf=>Zv (AY underlying322 Y)<|Zm Y<|A5<|AR<|Zb [9,0,1,7,8] ?_;refine BA (e0:=[(9,_)]) (fun m e H=>∃(i:Nat) (s:List AA),m=2 -i/\(i<=2/\J (Ii c i) s)/\e=[(9,I4 (i:Int))]/\H=[s]) (by exact ⟨0,s,V,⟨by decide,I⟩,V,V⟩) Wp ?_;rintro _ _ _ ⟨i,s,rfl,⟨hi,I⟩,rfl,rfl⟩;refine A0<|Zv (Au Y Y)<|A5<|Zq<|Aq Y (fun Z=>?_) (fun Z=>?_);·
  obtain ⟨fi,rv,vb,W,X,af,K,O⟩:=pQ c i A1;refine AC<|Zx<|Zq<|AR<|A0<|Bb (BV underlying322 sizeOf148 Y Y A1)<|Zl isAgg148 Y (hv:=by exact W) ?_;refine A3 Y<|A0<|Zm Y<|Zo Wh (Pa #[_,_,_,_,_,_,_,_,_,_] Fk C1 Y) ?_;refine Xr [_] Y (X) Y V (af) ?_;refine Zm Y<|Zd Y V<|Zd Y V<|Ze (Al DS #[_,_,_,_,_])<|AE fun br=>Xe (Xw AW _) ?_;refine AG Y<|Zn [0,1,5,6,7,8,9] ?_;refine Zx<|A0<|Zm Y<|Zm Y<|Af (t:=20) Y V (fun G=>?_) (fun G=>?_);·
   obtain ⟨hu,bg,B⟩:=K G;have ax:=hy _ _ _ s B I
   refine Zf Y Y<|Dx Y Wh (Pa #[_,_,_,_,_] CI AW Y) V rfl ?_;refine Ze (GZ (vs:=[_]) Y Y (ax) Wp) ?_;rintro _ _ ⟨_,⟨s',rfl,rfl,U⟩,rfl⟩;refine Yg (Br Y)<|Zv (AQ Y Y)<|A5<|AX Y (fun hb=>by cases hb)<|fun hb=>AC<|A8<|Zx<|Zg<|Ya (n:=1) Y Y<|Zm Y<|Z0<|Zn [9,0,1,7,8] ?_;refine Ab (e':=[(9,_)]) (by exact ⟨i+1,s',rfl,⟨by omega,by rw [hu];exact U⟩,rfl,rfl⟩)
  have hu:=O G;refine A7 Y V<|A7 Y V<|A7 Y V<|A7 Y V<|Zv (AL Y Y)<|A5<|DI Y<|AC<|A8<|Zx<|Zg<|Ya (n:=1) Y Y<|Zm Y<|Z0<|Zn [9,0,1,7,8] ?_;refine Ab (e':=[(9,_)]) (by exact ⟨i+1,s,rfl,⟨by omega,by rw [hu];exact I⟩,rfl,rfl⟩)
 obtain rfl:i=2:=by omega
 refine Ay<|Zt<|Zt<|AU<|Cw V results213 (by exact ⟨s,V,I⟩)
theorem Sl:Fv prog 266 K2 KD:=Fv.ofLaw (deep_law (m:=3) (by decide) (by kernel_rfl) (by kernel_rfl) (by kernel_rfl)) (by
 rintro ⟨a,b⟩ ⟨I,J⟩;have G:Tryz.prog.types.size+1=(Tryz.prog.types.size -1)+1+1:=by
  have:0<Tryz.prog.types.size:=Hb A6;omega
 have hc:Tryz.prog.cellsOf 3=1:=by kernel_rfl
 have B:Tryz.prog.cellsOf 266=2:=by kernel_rfl
 have U:Tryz.prog.keyType 266=true:=by kernel_rfl
 have O:(K2 (a,b)).formed prog 266=true:=by
  unfold Value.formed K2;rw [jt];simp [B]
 unfold keyOf;rw [jt];simp only [U,O,Bool.and_self,HR];obtain ⟨d,K⟩:∃d,Tryz.prog.types.size+1=d+1+1:=⟨_,G⟩;rw [K];unfold Program.keyLits;rw [jt];have W:=P8 prog d a C5 I
 have X:=P8 prog d b C5 J;simp [K2,Value.cells,hc,B,W,X]) vL
def vM(M:List AA)(v:Value)(l:List Int):Prop:=∃p cap,v= .slice p l.length cap/\(l.length<=maxLen/\l.length<=cap)/\∀(i:Nat) (x:Int),l[i]?=some x->∃g off cur T zz,p=some ⟨g,off,none⟩/\(g,Obj.cells cur T zz)∈M/\cur[off+i]?=some (I4 x)
variable{v:Value}
theorem vM.mono{m:List AA}{l:List Int}(h:vM M v l)(K:∀c∈M,c∈m):vM m v l:=by
 obtain ⟨p,cap,e,J,I⟩:=h;refine ⟨p,cap,e,J,fun i x hx=>?_⟩;obtain ⟨g,off,cur,T,zz,B,h2,G⟩:=I i x hx;exact ⟨g,off,cur,T,zz,B,K _ h2,G⟩
structure PX(sc:Int->Int->List IvM)(jn:Int->List Int)(lp:Nat)(ML:List AA):Prop where
 ex:∃ms ess cks lms mj esj ckj lmj,(lp,Obj.cells #[.map (some ms),.map (some mj)] 264 (0,0))∈ML/\(ms,Obj.map ess cks)∈ML/\Co K2 ess cks lms/\(∀p∈lms,KD p.1)/\(mj,Obj.map esj ckj)∈ML/\Co (fun n:Int=>Value.int .i64 n) esj ckj lmj/\
  (∀a b,UH ML ((EI (a,b) lms).getD (.slice none 0 0)) (sc a b))/\(∀t,vM ML ((EI t lmj).getD (.slice none 0 0)) (jn t))
 asc:∀a b,(sc a b).Pairwise fun x y=>x.lo<=y.lo
 len:∀a b,(sc a b).length<=1000000
def IV(sc:Int->Int->List IvM)(t:Int)(r:AV)(n:Nat):List Int:=(List.range n).flatMap fun col=>Ir (Di r col) (sc t (col:Int))
def NN(sc:Int->Int->List IvM)(jn:Int->List Int)(c:Chg):List Int:=((FL c).flatMap fun r=>IV sc c.t r 4)++jn c.t
theorem Rz(sc:Int->Int->List IvM)(t:Int)(r:AV)(n:Nat):IV sc t r (n+1)=IV sc t r n++Ir (Di r n) (sc t (n:Int)):=by
 unfold IV;rw [ir,N6];simp
theorem pF(sc:Int->Int->List IvM)(t:Int)(r:AV)(h:n<4):∃m,IV sc t r 4=IV sc t r n++Ir (Di r n) (sc t (n:Int))++m:=by
 rcases (by omega:n=0\/n=1\/n=2\/n=3)with rfl|rfl|rfl|rfl<;>simp only [Rz,Cd]<;>first|exact ⟨_,rfl⟩|(refine ⟨[],?_⟩;simp)
variable{sc:Int->Int->List IvM}{jn:Int->List Int}{c:Chg}
theorem eu{pre B:List AV}{x:AV}(h:FL c=pre++x::B)(hn:n<4){G m:List Int}{id:Int}(h2:Ir (Di x n) (sc c.t (n:Int))=G++id::m):
 ∃I,NN sc jn c=((pre.flatMap fun r=>IV sc c.t r 4)++IV sc c.t x n++G)++id::I:=by
 obtain ⟨K,J⟩:=pF sc c.t x hn;unfold NN;rw [h,N6,HL,J,h2];exact ⟨m++K++(B.flatMap fun r=>IV sc c.t r 4)++jn c.t,by simp⟩
theorem Xd(v:Value)(x:Int)(B:v.oneCell'=true):Ba prog 149 #[v,I4 x] [] (fun r H'=>∃bl m,r= .func (.func 214) #[] #[I5 bl,I5 m]/\H'=[[(bl,.cells #[v] 270 (0,0))],[(m,.cells #[I4 x] 3 (0,0))]]):=by
 refine Se func149 ntmps149 [0,1] ?_;intro u R;refine A0<|Ze (Eu Y (cs:=#[v]) (by cases v<;>first|rfl|simp [Value.oneCell']at B))<|AE fun bl=>Ze (Bx #[_])<|AE fun m=>A3 Y<|A0<|Zv (Bg (vs:=[]) (us:=[_,_]) Y Y)<|A3 Y<|AJ<|AO V results149 Y (by exact ⟨bl,m,V,V⟩)
theorem lM(lp:Nat)(c:Chg):Ba prog 95 #[I5 lp,.agg c.A57] [] (fun r H'=>∃bl m,r= .func (.func 147) #[] #[I5 m,I5 bl]/\H'=[[(bl,.cells #[I5 lp] 161 (0,0))],[(m,.cells c.A57 62 (0,0))]]):=by
 refine Se func95 ntmps95 [0,1] ?_;intro u R;refine A0<|Ze (Bx #[_])<|AE fun bl=>Ze (Eu Y (cs:=c.A57) A6)<|AE fun m=>A3 Y<|A0<|Zv (Bg (vs:=[]) (us:=[_,_]) Y Y)<|A3 Y<|AJ<|AO V results95 Y (by exact ⟨bl,m,V,V⟩)
variable{lp:Nat}{ML:List AA}
theorem lN(hL:PX sc jn lp ML)(c:Chg)(l9:∀r∈FL c,∀n:Nat,n<4->-1000000000000<=Di r n/\Di r n<=1000000000000)(lw:-9223372036854775808<=c.t/\c.t<=9223372036854775807)(sJ:(jn c.t).length<=1000000)(bc bl:Nat):FC prog 147 #[I5 bc,I5 bl] [[(bc,.cells c.A57 62 (0,0))],[(bl,.cells #[I5 lp] 161 (0,0))]] (fun s=>∀x∈ML,x∈s) (fun i:Int=>#[I4 i]) (NN sc jn c):=by
 have sO:=mL;obtain ⟨ms,sw,qz,vw,mj,sj,qy,vo,ax,qb,ek,p9,qa,d9,af,o9⟩:=hL.ex;intro ly J hA hy s B;refine DL func147 V ntmps147 V ?_;intro u R;refine Zb [0,1,2] ?_;refine A0<|Ze (Bx #[_])<|AE fun by_=>A5<|Zq<|A0<|Zo Wh (Pa #[_,_,_,_,_,_,_,_,_,_] Fk C1 Y) ?_;refine Zc [_] Y call148 Y V (gN c) ?_;rintro _ _ ⟨_,⟨br,rfl,rfl⟩,rfl⟩;refine A5<|AR<|Zb [1,2,3,10] ?_;refine PV (H0:=_) (R:=_) (I:=(fun(pre:List AV) H=>∃s,J (pre.flatMap fun r=>IV sc c.t r 4) s/\H=[[(bc,.cells c.A57 62 (0,0))],[(bl,.cells #[I5 lp] 161 (0,0))],[(by_,.cells #[.func (.yield ly) #[] #[]] 100 (0,0))],s])) (E:=fun x e Hn=>∃bw,e=[(4,I5 bw),(11,.agg x.A58)]/\Hn=[[(bw,.cells x.A58 71 (0,0))]]) V Y call213 (gP c br) (fun _ _ _ _ _=>trivial) Y V Wp (⟨s,B,V⟩) ?ha_2 ?hbd_2 ?hk_2
 case ha_2=>
  intro _ x _ _;refine Zg<|Ze (Al DS #[_,_,_,_,_])<|AE fun b2=>Xe (Xw AW _) ?_;refine Z0<|Lv (e:=[(4,_),(11,_)]) (Hn:=[[(_,_)]]) ?_;exact ⟨_,V,V⟩
 case hbd_2=>
  intro l pre x j3 u e9 j5 H1 R1 r9 K hI U;obtain ⟨bw,rfl,rfl⟩:=U;obtain ⟨s,B,rfl⟩:=hI;have gF:=K
  refine AR<|A0<|Zm Y<|A5<|AR<|Zb [12,1,2,3,4] ?_;refine BA (e0:=[(12,_)]) (fun m e H=>∃(n:Nat) (s:List AA),m=4 -n/\(n<=4/\J ((pre.flatMap fun r=>IV sc c.t r 4)++IV sc c.t x n) s)/\e=[(12,I4 (n:Int))]/\H=[s]) (by exact ⟨0,s,rfl,⟨by decide,by rw [show IV sc c.t x 0=[] from rfl,DB];exact B⟩,rfl,rfl⟩) Wp ?_;rintro _ _ _ ⟨n,s,rfl,⟨ve,B⟩,rfl,rfl⟩;refine A0<|Zv (Au (n:=4) Y Y)<|A5<|Zq<|Aq Y (fun pq=>?_) (fun pq=>?_);·
   have gB:=hA _ s B;have bn:=gB _ ax
   have gm:=gB _ qb;obtain ⟨pv,cv,gq,_,_⟩:=af c.t (n:Int);have qw:x∈FL c:=by rw [K];simp
   have qo:=l9 x qw n A1;have p8:KD (c.t,(n:Int)):=⟨Uq lw,Uq A1⟩
   have cu:n<4:=by omega
   refine AC<|Zx<|Zq<|AR<|A0<|Zm Y<|A3 Y<|Zq<|Az (n:=13) (0::1::3::7::0::16::0::112::255::0::0::1536::4095::[]) 6144 A6 A6 V<|B2 0 V isAgg161 Y ?_;refine A2 1 V (Ap Y V)<|A2 2 V (AB (off:=0) fN V rfl sizeOf261 Y)<|CQ (D':=15) 3 V rfl V (Ee Wo (bn)) (BP isAgg261 Y AN) ?_;refine A2 4 V (AB (off:=0) B8 V rfl A4 Y)<|B2 5 V AD Y ?_;refine A2 6 V (AP Y)<|A2 7 V (BM (vs:=[(0,_),(1,_)]) (cs:=#[_,_]) Y (AZ (pl:=#[(0,1),(1,1)]) k9 jt (fun _=>by kernel_rfl) V))<|CQ (D':=511) 8 V rfl V (Ee Wo (gm)) (De Sl underlying261 zeroValue270 ek p9 (p8) (gq) Y Y) ?_;refine E7 9 V Wh (A9 (cs:=#[_,_,_,_,_]) CI AW Y As AN) ?_;refine A2 10 V (AP Y)<|Zz (l:=[11])<|B1 [false,true,true,true,true] [(8,(_,_)),(5,(_,_)),(3,(_,_)),(0,(_,_))] V rfl (Zu [_,_] Y SD Y V (Oa x n A1)) ?_ (fun _ _ h=>h.elim) Ai;rintro _ _ ⟨rfl,rfl⟩;refine ⟨FK (by simp [*]) (Zk (FK (by simp [*]) (Zk (Aa)))),?_⟩;refine Zz (l:=[12])<|B1 [false,false,false,false] [] V rfl (Zw [_,_] Y call149 Y V (Xd (.slice pv (sc c.t (n:Int)).length cv) (Di x n) V)) ?_ Bv Ai;rintro _ _ ⟨_,⟨kv,l5,rfl,rfl⟩,rfl⟩;refine B6<|Ag<|Zn [1,2,3,4,12,27] ?_;refine Zx<|AR<|Zb [1,2,3,4,12,27] ?_;refine iD (H0:=_) (R:=_) (I:=(fun(O:List Int) H=>∃s,J ((pre.flatMap fun r=>IV sc c.t r 4)++IV sc c.t x n++O) s/\H=[[(by_,.cells #[.func (.yield ly) #[] #[]] 100 (0,0))],s])) (E:=fun x e Hn=>e=[(6,I4 x),(28,I4 x)]/\Hn=[]) rfl Wh Y call214 (Xf (gq▸af c.t (n:Int)) (hL.len _ _) (hL.asc _ _) (Di x n) qo kv l5) (by rintro O _ c9 ⟨s,h1,rfl⟩;intro q hq;have:=hA _ s h1 q hq;simp [this]) Y rfl Wp (⟨s,by simpa using B,rfl⟩) ?ha_7 ?hbd_7 ?hk_7
   case ha_7=>
    intro _ x _ _;refine Zg<|AG Y<|Lv (e:=[(6,_),(28,_)]) (Hn:=[]) ?_;exact ⟨V,V⟩
   case hbd_7=>
    intro l pre x j3 u e9 j5 H1 R1 r9 K hI U;obtain ⟨rfl,rfl⟩:=U;obtain ⟨s,B,rfl⟩:=hI;obtain ⟨qx,qj⟩:=eu (jn:=jn) gF cu K;have Z:=hy _ _ _ s qj B
    refine AR<|A0<|Zl isAgg100 Y ?_;refine Zm Y<|Ze (GZ (vs:=[_]) Y Y (Z) Wp) ?_;rintro _ _ ⟨_,⟨s',rfl,rfl,X⟩,rfl⟩;refine Zv (Br Y)<|A5<|AX Y (fun hb=>by cases hb)<|fun hb=>AC<|A8<|F7 rfl (by exact ⟨s',by rw [<-Cd];exact X,rfl⟩)
   intro H2 W;obtain ⟨s,B,rfl⟩:=W;refine Zn [1,2,3,4,12] ?_;refine A8<|A8<|Zx<|Zg<|Ya (n:=1) Y Y<|Zm Y<|Z0<|Zn [12,1,2,3,4] ?_;refine Ab (e':=[(12,_)]) (by exact ⟨n+1,s,rfl,⟨by omega,by rw [Rz,<-Cd];exact B⟩,rfl,rfl⟩)
  obtain rfl:n=4:=by omega
  refine Ay<|Zt<|Zt<|AU<|A8<|F7 rfl (by exact ⟨s,by rw [N6,nh];exact B,rfl⟩)
 intro D1 H2 W;obtain ⟨s,B,rfl⟩:=W;refine Zn [1,2,3] ?_;refine A8<|Zx<|Zq ?_;have gy:=hA _ s B
 have bg:=gy _ ax;have cO:=gy _ qa
 obtain ⟨pj,cj,ql,⟨sM,sF⟩,o8⟩:=o9 c.t;refine Az (n:=9) (0::1::3::7::0::16::63::127::0::[]) 0 A6 A6 V<|B2 0 V isAgg161 Y ?_;refine A2 1 V (Ap Y V)<|A2 2 V (AB (off:=1) fN V rfl sizeOf262 Y)<|CQ (D':=15) 3 V rfl V (Ee Wo (bg)) (BP isAgg262 Y AN) ?_;refine A2 4 V (AB (off:=0) B8 V rfl A4 Y)<|B2 5 V AD Y ?_;refine CQ (D':=127) 6 V rfl V (Ee Wo (cO)) (De (Cc C5 (D:=fun _=>True)) underlying262 zeroValue36 d9 (fun _ _=>trivial) (trivial) (ql) Y Y) ?_;refine A2 7 V (AY Cl Y)<|A2 8 V (AP Y)<|Ag<|Zx<|AR<|Zb [42,3,40,41] ?_;refine BA (e0:=[(42,_)]) (fun m e H=>∃(k:Nat) (s:List AA),m=(jn c.t).length -k/\(k<=(jn c.t).length/\J ((FL c).flatMap (fun r=>IV sc c.t r 4)++(jn c.t).take k) s)/\e=[(42,I4 (k:Int))]/\H=[s]) (by exact ⟨0,s,V,⟨C0 _,by simpa using B⟩,V,V⟩) Wp ?_;rintro _ _ _ ⟨k,s,rfl,⟨hk,B⟩,rfl,rfl⟩;refine A0<|Zv (Au Y Y)<|A5<|Zq<|Aq Y (fun pg=>?_) (fun pg=>?_);·
  obtain ⟨ic,G⟩:∃x,(jn c.t)[k]?=some x:=⟨_,B3 A1⟩;obtain ⟨g,off,cur,T,zz,rfl,q9,l8⟩:=o8 k ic G;have pz:=hA _ s B _ q9
  have Z:=hy _ _ _ s (show NN sc jn c=((FL c).flatMap (fun r=>IV sc c.t r 4)++(jn c.t).take k)++ic::(jn c.t).drop (k+1) by unfold NN;rw [Cd,<-OT G]) B;refine AC<|Zx<|Zq<|AR<|A0<|Bb (CB Cl A4 Y Y X2)<|CS (I1 Wo (pz)) (BP AD Y l8) rfl rfl ?_;refine A3 Y<|A0<|Zl isAgg100 Y ?_;refine Zm Y<|Ze (GZ (vs:=[_]) Y Y (Z) Wp) ?_;rintro _ _ ⟨_,⟨s',rfl,rfl,X⟩,rfl⟩;refine Zv (Br Y)<|A5<|AX Y (fun hb=>by cases hb)<|fun hb=>AC<|A8<|Zx<|Zg<|Ya (n:=1) Y Y<|Zm Y<|Z0<|Zn [42,3,40,41] ?_;refine Ab (e':=[(42,_)]) (by exact ⟨k+1,s',rfl,⟨by omega,by rw [Bi G,<-Cd];exact X⟩,rfl,rfl⟩)
 obtain rfl:k=(jn c.t).length:=by omega
 rw [GB]at B;refine Ay<|Zt<|Zt<|AU<|GN V (zQ results147) Wo (by exact ⟨s,V,B⟩)
theorem ZP(h:l[i]?=some x):((CJ l).drop (i*4)).take 4=[I4 x.lo,I4 x.hi,I4 x.rc,I4 x.id]:=by
 induction l generalizing i with
 |nil=>simp at h
 |cons a l ih=>
  cases i with
  |zero=>simp at h;subst h;rfl
  |succ i=>
   have m:l[i]?=some x:=by simpa using h
   rw [show(i+1)*4=i*4+4 by omega];exact ih m
theorem ZM{s:List AA}(h:Bc 4 269 v l.length (CJ l) s)(O:∀c∈s,c∈M):UH M v l:=by
 rcases h with⟨_,⟨rfl,h0,_⟩|⟨g,cap,cur,z,rfl,rfl,B,I,J,G,K⟩⟩
 · have m:=Lw h0
   subst m;exact ⟨none,0,V,⟨C0 _,CM _⟩,fun i x hx=>by simp at hx⟩
 · refine ⟨_,cap,rfl,⟨by omega,B⟩,fun i x hx=>?_⟩
   have hi:=(BE.1 hx).1;refine ⟨g,0,cur,_,z,V,O _ (BT.2 V),by omega,?_⟩;have m:=ZP hx
   rw [<-G,eh,To]at m;apply HD.1;rw [Array.toList_extract,r8,D0,show i*4+4 -i*4=4 by omega];rw [show min 4 (l.length*4 -i*4)=4 by omega]at m;exact m
theorem ZW{l:List Int}{s:List AA}(h:Bc 1 3 v l.length (l.map fun i=>Value.int .i64 i) s)(O:∀c∈s,c∈M):vM M v l:=by
 rcases h with⟨_,⟨rfl,h0,_⟩|⟨g,cap,cur,z,rfl,rfl,B,I,J,G,K⟩⟩
 · have m:=Lw h0
   subst m;exact ⟨none,0,V,⟨C0 _,CM _⟩,fun i x hx=>by simp at hx⟩
 · refine ⟨_,cap,rfl,⟨by omega,B⟩,fun i x hx=>?_⟩
   have hi:=(BE.1 hx).1;refine ⟨g,0,cur,_,z,V,O _ (BT.2 V),?_⟩;have m:(l.map fun i=>Value.int .i64 i)[i]?=some (I4 x):=by rw [DO,hx];rfl
   rw [<-G,HC,AM A1]at m;simpa using m
structure JR(qs:List (Int×QM))(sc:Int->Int->List IvM)(jn:Int->List Int):Prop where
 scan:∀a b v i,i∈Ir v (sc a b)↔∃x∈qs,x.1=i/\plQ x=(a,b)/\x.2.lo<=v/\v<=x.2.hi
 join:∀t i,i∈jn t↔∃x∈qs,x.1=i/\x.2.kd=7/\x.2.ot=t
 small:∀t,(jn t).length<=1000000
theorem zU{x y:Int×QM}(h:(x.1,(.agg #[I4 x.2.kd,I4 x.2.tb,I4 x.2.cl,I4 x.2.lo,I4 x.2.hi,I4 x.2.bq,I4 x.2.ot]:Value))=(y.1,(.agg #[I4 y.2.kd,I4 y.2.tb,I4 y.2.cl,I4 y.2.lo,I4 y.2.hi,I4 y.2.bq,I4 y.2.ot]:Value))):x=y:=by
 obtain ⟨a,q⟩:=x;obtain ⟨b,r⟩:=y;obtain ⟨m,q2,B,G,I,J,K⟩:=q;obtain ⟨O,U,W,X,Z,r6,r7⟩:=r;simp at h;simp [h]
variable{qs:List (Int×QM)}{es:Array MapEntry}{ck:Nat}
theorem oz(m:Ei qs es ck lm)(I:bE lm js vs)(J:(DR lm js).Perm lm)(x:Int×QM):x∈vs↔x∈qs:=by
 rw [I.2];constructor
 · rintro ⟨j,_,G⟩
   obtain ⟨y,hy,B⟩:=(m.mem _).1 (DE G);rw [zU B];exact hy
 · intro hx
   have h:=J.mem_iff.2 ((m.mem _).2 ⟨x,hx,rfl⟩);obtain ⟨j,G,B⟩:=Z2.1 h;exact ⟨j,G,B⟩
theorem lT{κ:Type} [DecidableEq κ]{l m:List (κ×Value)}(J:(l.map (·.1)).Nodup)(K:(m.map (·.1)).Nodup)(h:∀p,p∈l↔p∈m)(k:κ):EI k l=EI k m:=by
 by_cases G:∃v,(k,v)∈l
 · obtain ⟨v,hv⟩:=G
   rw [Cy J hv,Cy K ((h _).1 hv)]
 · rw [DW (l:=l) fun p I B=>G ⟨p.2,by rw [<-B];exact I⟩,DW (l:=m) fun p I B=>G ⟨p.2,by rw [<-B];exact (h p).2 I⟩]
theorem nO(h:Qz o l)(v i:Int):i∈Ir v l↔∃x∈o,x.lo<=v/\v<=x.hi/\x.id=i:=by
 obtain ⟨o',B,O,m,K⟩:=h;rw [nT (ZH m O) K];constructor
 · rintro ⟨x,hx,I,h2,J⟩
   obtain ⟨y,hy,e1,e2,G⟩:=(ZG (a:=x.lo) (b:=x.hi) (i:=x.id) m).1 ⟨x,hx,rfl,rfl,rfl⟩;exact ⟨y,B.mem_iff.1 hy,by omega,by omega,by omega⟩
 · rintro ⟨x,hx,I,h2,J⟩
   obtain ⟨y,hy,e1,e2,G⟩:=(ZG (a:=x.lo) (b:=x.hi) (i:=x.id) m).2 ⟨x,B.mem_iff.2 hx,rfl,rfl,rfl⟩;exact ⟨y,hy,by omega,by omega,by omega⟩
theorem nP(h:Qz o l):l.length=o.length:=by
 obtain ⟨o',G,J,B,I⟩:=h;have m:=congrArg List.length B
 rw [B4,B4]at m;rw [m];exact G.length_eq
theorem fE(j5:Ei qs es ck lm)(l8:js.length<=1000000)(X:bE lm js vs)(gq:(DR lm js).Perm lm)
 {d9:List AA}(bn:(lmA.map (·.1)).Nodup)(gB:vO vs lmA d9){O:Array MapEntry}{J:Nat}{Z:List (Int×Value)}{MJ:List AA}(j3:Co (fun n:Int=>Value.int .i64 n) O J Z)(gF:bG vs Z MJ)
 {U:Array MapEntry}{K:Nat}{m:List ((Int×Int)×Value)}{MS:List AA}(cu:Co K2 U K m)(ek:∀p∈lmA,KD p.1)(gm:∀p,p∈m↔∃k∈ks,lmA[k]?=some p)
 (af:UK 4 269 lmA (fun k=>(g k).length) (fun k=>CJ (g k)) MS)(ic:∀j p,lmA[j]?=some p->if j∈ks then Qz (Ef vs p.1) (g p.1)else g p.1=Ef vs p.1)(gy:(DR lmA ks).Perm lmA)
 {mz mj:Nat}(h1:(lp,Obj.cells #[.map (some mz),.map (some mj)] 264 (0,0))∈ML)(h2:(mz,Obj.map U K)∈ML)(h3:(mj,Obj.map O J)∈ML)(h4:∀c∈MS,c∈ML)(h5:∀c∈MJ,c∈ML):
 PX (fun a b=>g (a,b)) (FP vs) lp ML/\JR qs (fun a b=>g (a,b)) (FP vs):=by
 have hv:=oz j5 X gq;have bg:∀j p,lmA[j]?=some p->j∈ks:=fun j p hj=>by
  obtain ⟨i,hi,he⟩:=Z2.1 (gy.mem_iff.2 (DE hj));obtain rfl:=L8 bn he hj rfl;exact hi
 have hS:∀p,p∈m↔p∈lmA:=fun p=>by
  rw [gm];constructor;· rintro ⟨k,_,hk⟩;exact DE hk
  · intro B
    obtain ⟨i,hi⟩:=GW B;exact ⟨i,bg i p hi,hi⟩
 have ax:∀k,EI k m=EI k lmA:=lT cu.keys bn hS;have hD:∀k,Qz (Ef vs k) (g k):=fun k=>by
  by_cases hk:∃v,(k,v)∈lmA
  · obtain ⟨v,l5⟩:=hk
    obtain ⟨i,hi⟩:=GW l5;have h:=ic i _ hi
    rw [AM (bg i _ hi)]at h;exact h
  · have hn:EI k lmA=none:=DW fun p B he=>hk ⟨p.2,by rw [<-he];exact B⟩
    obtain ⟨s,W,_⟩:=af.row k;obtain ⟨s',cO,_⟩:=gB.row k;rw [hn]at W cO;have e1:(g k).length=0:=by
     rcases W with⟨_,⟨_,h,_⟩|⟨g9,cap,cur,z,h,_⟩⟩
     · exact h
     · simp at h
    have e2:(Ef vs k).length=0:=by
     rcases cO with⟨_,⟨_,h,_⟩|⟨g9,cap,cur,z,h,_⟩⟩
     · exact h
     · simp at h
    rw [Lw e1,Lw e2];exact ⟨[],.refl _,.nil,V,fun j k x y _ h=>absurd h (cX k)⟩
 refine ⟨⟨⟨mz,U,K,m,mj,O,J,Z,h1,h2,cu,fun p B=>ek p ((hS p).1 B),h3,j3,fun a b=>?_,fun t=>?_⟩,fun a b=>?_,fun a b=>?_⟩,⟨fun a b v i=>?_,fun t i=>?_,fun t=>?_⟩⟩
 · obtain ⟨s,W,hs⟩:=af.row (a,b)
   rw [ax];exact ZM W fun c hc=>h4 c (hs c hc)
 · obtain ⟨s,W,hs⟩:=gF.row t
   exact ZW W fun c hc=>h5 c (hs c hc)
 · obtain ⟨o',B,kv,hk,W⟩:=hD (a,b)
   exact ZH hk kv
 · have:=nP (hD (a,b))
   have:=TU vs (a,b);have:=X.1
   show(g (a,b)).length<=1000000;omega
 · rw [nO (hD (a,b))]
   unfold Ef;simp only [Bm,FA,Fl];constructor
   · rintro ⟨_,⟨x,⟨hx,B⟩,rfl⟩,G,I,a3⟩
     exact ⟨x,(hv x).1 hx,a3,B,G,I⟩
   · rintro ⟨x,hx,a3,B,G,I⟩
     exact ⟨_,⟨x,⟨(hv x).2 hx,B⟩,V⟩,G,I,a3⟩
 · unfold FP
   simp only [Bm,FA,Fl];constructor
   · rintro ⟨x,⟨hx,G,I⟩,rfl⟩
     exact ⟨x,(hv x).1 hx,V,G,I⟩
   · rintro ⟨x,hx,rfl,G,I⟩
     exact ⟨x,⟨(hv x).2 hx,G,I⟩,V⟩
 · have:=ZX vs t
   have:=X.1;omega
variable{mp ip:Nat}
theorem lX(W:Ei qs es ck lm)(hq:∀x∈qs,BJ x.2)(hl:qs.length<=500):Ba prog 94 #[I5 ip] [[(ip,.cells #[.map (some mp),.pointer none] 163 (0,0))],[(mp,.map es ck)]] (fun r H'=>∃lp ML sc jn,r=I5 lp/\PX sc jn lp ML/\JR qs sc jn/\H'=[[(ip,.cells #[.map (some mp),I5 lp] 163 (0,0))],[(mp,.map es ck)],ML]):=by
 have Tp:=mL;have Tm:=W.len
 refine Se func94 ntmps94 [0] ?_;intro u R;refine A0<|A3 Y<|Zq<|A0<|Zm Y<|Zp Y V<|Zh 1 Q1 V rfl an Y<|Zl isAgg161 Y ?_;refine Zv (NL underlying161 Y Y)<|A5<|AX Y (fun hb=>by cases hb)<|fun hb=>AC<|Zx<|A0<|Ze (DT)<|AE fun ma=>A3 Y<|A0<|Ze (DT)<|AE fun mz=>Ze (DT)<|AE fun mj=>Zv (BM (vs:=[(0,_),(1,_)]) (cs:=#[_,_]) Y (AZ (pl:=#[(0,1),(1,1)]) zeroValue264 fN (fun _=>by kernel_rfl) V))<|Ze (Bx #[_,_])<|AE fun lp=>AG Y<|Zn [0,3,4] ?_;refine Zx<|Zq<|A0<|Zm Y<|Zp Y V<|Zh 0 Q1 V rfl du Y<|Zl cS Y ?_;refine Ze (NW db Y Wh)<|AE fun ib=>A5<|AR<|BU<|BU<|BU<|Zb [0,3,4,32] ?_;refine BA (e0:=[]) (fun m e H=>∃(js:List Nat) (seen:Array Nat) (vs:List (Int×QM)) (Z:Array MapEntry) (U:Nat) (lmA:List ((Int×Int)×Value)) (J:Array MapEntry) (G:Nat) (gB:List (Int×Value)) (X MJ MK:List AA),m=lm.length -js.length/\(Iu es js seen/\bE lm js vs/\Co K2 Z U lmA/\(∀p∈lmA,KD p.1)/\vO vs lmA X/\Co (fun n:Int=>Value.int .i64 n) J G gB/\bG vs gB (MJ++MK))/\e=[]/\H=[[(ib,.mapIter (some mp) ck seen ck)],[(ma,.map Z U)],[(mj,.map J G)],X,MJ,MK]) (by exact ⟨[],#[],[],#[],0,[],#[],0,[],[],[],[],V,⟨KL _,⟨V,fun x=>by simp⟩,EU _,fun p hp=>by simp at hp,aN _ _,EU _,aN _ _⟩,V,V⟩) Wp ?_;rintro _ _ _ ⟨js,seen,vs,Z,U,lmA,J,G,gB,X,MJ,MK,rfl,⟨gm,gy,B,cO,o8,d9,o9⟩,rfl,rfl⟩;have zq:=F8 es.size js gm.nodup gm.lt
 rw [W.map.size]at zq;refine A0<|Ze (Pe W.map gm Y Wo Wh) ?_;rintro _ _ pz;rcases pz with⟨af,rfl,rfl⟩|⟨jn,pn,seen2,hpn,hjn,hi2,rfl,rfl⟩
 ·
  have zi:=af;have kv:=gm
  refine Zd Y V<|A5<|Zq<|AX Y (fun hb=>by cases hb)<|fun hb=>Ay<|Zt<|Zt<|AU<|Zx<|Zq<|A0<|Zm Y<|Ze (NW underlying260 Y Wh)<|AE fun ic=>A5<|AR<|BU<|Zb [0,4,79] ?_;refine BA (e0:=[]) (fun m e H=>∃(ks:List Nat) (seen:Array Nat) (g:Int×Int->List IvM) (K:Array MapEntry) (I:Nat) (gF:List ((Int×Int)×Value)) (X MB:List AA),m=lmA.length -ks.length/\(Iu Z ks seen/\Co K2 K I gF/\(∀p,p∈gF↔∃k∈ks,lmA[k]?=some p)/\UK 4 269 lmA (fun k=>(g k).length) (fun k=>CJ (g k)) (X++MB)/\(∀j p,lmA[j]?=some p->if j∈ks then Qz (Ef vs p.1) (g p.1)else g p.1=Ef vs p.1))/\e=[]/\H=[[(ic,.mapIter (some ma) U seen U)],[(mz,.map K I)],X,MB]) (by exact ⟨[],#[],Ef vs,#[],0,[],X,[],rfl,⟨KL _,EU _,fun p=>by simp,by rw [DB];exact o8,fun j p _=>by simp⟩,rfl,rfl⟩) Wp ?_;rintro _ _ _ ⟨ks,seen,g,K,I,gF,X,MB,rfl,⟨cu,sF,lw,qy,p8⟩,rfl,rfl⟩;have zF:=F8 Z.size ks cu.nodup cu.lt
  rw [B.size]at zF;refine A0<|Ze (Pe B cu Y Wo Wh) ?_;rintro _ _ pz;rcases pz with⟨af,rfl,rfl⟩|⟨jn,pn,seen2,hpn,hjn,hi2,rfl,rfl⟩
  ·
   refine Zd Y V<|A5<|Zq<|AX Y (fun hb=>by cases hb)<|fun hb=>Ay<|Zt<|Zt<|AU<|Zx<|Zq<|CK (s1:=[(lp,Obj.cells #[.map (some mz),.map (some mj)] 264 (0,0))]) (s2:=[(mz,Obj.map K I)]) Wo Wo ?_;refine CK (s1:=([(lp,Obj.cells #[.map (some mz),.map (some mj)] 264 (0,0))]++[(mz,Obj.map K I)])) (s2:=[(mj,Obj.map J G)]) Wo Wo ?_;refine CK (s1:=(([(lp,Obj.cells #[.map (some mz),.map (some mj)] 264 (0,0))]++[(mz,Obj.map K I)])++[(mj,Obj.map J G)])) (s2:=X) Wo Wo ?_;refine CK (s1:=((([(lp,Obj.cells #[.map (some mz),.map (some mj)] 264 (0,0))]++[(mz,Obj.map K I)])++[(mj,Obj.map J G)])++X)) (s2:=MB) Wo Wo ?_;refine CK (s1:=(((([(lp,Obj.cells #[.map (some mz),.map (some mj)] 264 (0,0))]++[(mz,Obj.map K I)])++[(mj,Obj.map J G)])++X)++MB)) (s2:=MJ) Wo Wo ?_;refine CK (s1:=((((([(lp,Obj.cells #[.map (some mz),.map (some mj)] 264 (0,0))]++[(mz,Obj.map K I)])++[(mj,Obj.map J G)])++X)++MB)++MJ)) (s2:=MK) Wo Wo ?_;refine Zg<|Zm Y<|Zm Y<|Zp Y V<|Zh 1 Q1 V rfl an Y<|Xe (Zs an Y Y V) ?_;refine A5<|A0<|Zm Y<|A3 Y<|AJ<|AO V results94 Y (by
    have zt:=F8 es.size js kv.nodup kv.lt;rw [W.map.size]at zt;obtain ⟨za,zb⟩:=fE W A1 gy zi B.keys o8 d9 o9 sF cO lw qy p8 af (lp:=lp) (mz:=mz) (mj:=mj) (ML:=(((((([(lp,Obj.cells #[.map (some mz),.map (some mj)] 264 (0,0))]++[(mz,Obj.map K I)])++[(mj,Obj.map J G)])++X)++MB)++MJ)++MK)) B0 B0 B0 (fun c hc=>by simp only [B9]at hc⊢;rcases hc with hc|hc<;>simp [hc]) (fun c hc=>by simp only [B9]at hc⊢;rcases hc with hc|hc<;>simp [hc]);exact ⟨lp,_,_,_,V,za,zb,V⟩)
  refine Zd Y V<|A5<|Zq<|AX Y (fun hb=>?_) (fun hb=>?_);·
   have sj:=F8 Z.size (ks++[jn]) hi2.nodup hi2.lt;rw [B.size,B7,E3]at sj;have Gw:(ks++[jn]).length=ks.length+1:=by rw [B7];rfl
   refine AC<|Zx<|AR<|A0<|CS (cs:=[(ic,.mapIter (some ma) U seen2 U),(ma,.map Z U)]) B0 (JG B hi2 hpn Y) V rfl ?_;refine Zd Y V<|Zd Y V<|Ze (Al k9 #[_,_])<|AE fun kb=>Xe (Xw sizeOf266 #[I4 pn.1.1,I4 pn.1.2]) ?_;refine AG Y<|Zx ?_;have zk:g pn.1=Ef vs pn.1:=by have h:=p8 jn pn hpn;rwa [AK hjn]at h
   have zl:(g pn.1).length<=1000000:=by rw [zk];have:=TU vs pn.1;have:=gy.1;omega
   have zu:∀p∈gF,KD p.1:=fun p hp=>by
    obtain ⟨k,_,hk⟩:=(lw p).1 hp;exact cO p (DE hk)
   have FT:KD pn.1:=cO pn (DE hpn);obtain ⟨sA,bn,O,ax,ek⟩:=QL B.keys qy pn.1;rw [Cy B.keys (DE hpn)]at O;refine CK (s1:=X) (s2:=MB) Wo Wo ?_;refine U8 (M:=X++MB) Wo ax ?_;refine Az (n:=8) (0::1::3::7::0::0::32::127::[]) 192 A6 A6 V<|A2 0 V (AP Y)<|A2 1 V (Ap Y V)<|A2 2 V (AB (off:=0) fN V rfl sizeOf261 Y)<|B2 3 V isAgg261 Y ?_;refine E7 4 V Wh (A9 (cs:=#[_,_]) isAgg266 sizeOf266 Y Wn (BK V)) ?_;refine A2 5 V (AP Y)<|Zz (l:=[6])<|B1 [true,true] [(4,(_,_)),(3,(_,_))] V rfl (Zw [_] Y call146 Y V (eZ _ (g pn.1) sA zl O)) ?_ Bv Ai;rintro _ _ ⟨_,⟨rfl,s2,l2,o2,Mx,ME,Gl,vz,MC,rfl⟩,rfl⟩;refine B6<|Yw 7 255 V (FE Sl underlying261 sF zu (FT) Y Y Y Wo) ?_;rintro _ _ ⟨rfl,y9,wz,MP,HZ,LD,rfl⟩;refine Ag<|Zn [0,4,79] ?_;refine A8<|Zn [0,4,79] ?_;refine Ab (e':=[]) (by exact ⟨ks++[jn],seen2,fun k=>if k=pn.1 then l2 else g k,y9,wz,MP,s2,bn,V,⟨hi2,HZ,dC B.keys hpn hjn lw LD,xw (ek pn.2 s2 _ _ lmA B.keys (lV B.keys hpn) MC),gJ B.keys hpn hjn p8 ⟨o2,Mx,ME,Gl,vz⟩⟩,V,V⟩)
  cases hb
 obtain ⟨x,hx,rfl⟩:=(W.mem pn).1 (DE hpn);have qa:=hq x hx
 refine Zd Y V<|A5<|Zq<|AX Y (fun hb=>?_) (fun hb=>?_);·
  have qz:=F8 es.size (js++[jn]) hi2.nodup hi2.lt;rw [W.map.size,B7,E3]at qz;have Gw:(js++[jn]).length=js.length+1:=by rw [B7];rfl
  have Y2:=gy.1;have Tg:=TU vs (plQ x)
  have Ta:=ZX vs x.2.ot;have l9:=dD gy hpn
  refine AC<|Zx<|AR<|A0<|CS (cs:=[(ib,.mapIter (some mp) ck seen2 ck),(mp,.map es ck)]) B0 (JG W.map hi2 hpn Y) V rfl ?_;refine Zd Y V<|Zd Y V<|Ze (Al Mn #[_,_,_,_,_,_,_])<|AE fun xb=>Za Y<|Xe (Xw C7 #[I4 x.2.kd,I4 x.2.tb,I4 x.2.cl,I4 x.2.lo,I4 x.2.hi,I4 x.2.bq,I4 x.2.ot]) ?_;refine A5<|A0<|Zo Wh (A9 (cs:=#[_,_,_,_,_,_,_]) Dd C7 Y Wn (BK V)) ?_;refine Zc [_] Y call137 Y V (kF x.2 qa) ?_;rintro _ _ ⟨_,⟨rfl,rfl⟩,rfl⟩;refine Zm Y<|Zd Y V<|Zd Y V<|Zd Y V<|Zd Y V<|Za Y<|Za Y<|Za Y<|AG Y<|Zn [0,3,4,5,6,7,8,9,10,32] ?_;refine Zx<|A0<|Zm Y<|Zm Y<|Zv (BM (vs:=[(0,_),(1,_)]) (cs:=#[_,_]) Y (AZ (pl:=#[(0,1),(1,1)]) k9 jt (fun _=>by kernel_rfl) V))<|Ze (Al k9 #[_,_])<|AE fun pb=>Xe (BL sizeOf266 Y Y (by(simp [Value.oneCell',Value.cells];done)) Wu (by exact (rfl:_=(#[I4 x.2.tb,I4 x.2.cl]:Array Value))) E6 Wn (by exact BB _)) ?_;refine A5<|Zq ?_;obtain ⟨sA,bn,O,ax,ek⟩:=nI B.keys o8 x;obtain ⟨qo,P7,vw⟩:=O.form;rw [vw]at O;have p9:KD (plQ x):=⟨Uq (by have:=qa.1;simp [plQ];omega),Uq (by have:=qa.2.1;simp [plQ];omega)⟩
  refine U8 (M:=X) Wo ax ?_;refine Zg<|Zm Y<|Zo Wh (A9 (cs:=#[_,_]) isAgg266 sizeOf266 Y Wn (BK V)) ?_;refine Zm Y<|Zm Y<|Zm Y<|Zv (BM (vs:=[(0,_),(1,_),(3,_)]) (cs:=#[_,_,_,_]) Y (AZ (pl:=#[(0,1),(1,1),(2,1),(3,1)]) zeroValue269 WD (fun _=>by kernel_rfl) V))<|Ze (Ah (vs:=[_]) (cs:=[_,_,_,_]) aE ON zeroValue269 Y V rfl V rfl V)<|AE fun gb=>Ze (KX Sl underlying260 zeroValue267 B cO (p9) (vw) Y Y Wo) ?_;rintro _ _ ⟨Qe,Qd,lm3,j3,st3,rfl,Hf,zm,zf,sO,rfl⟩;refine Zd Y V<|Ze (BR (by_:=32) (sz:=4) aE (V:Tryz.prog.info? 269=some Tryz.t269) V rfl V rfl Y (O) Y (D8 4 gb 1 1 269 (0,0) [I4 (R7 x).lo,I4 (R7 x).hi,I4 (R7 x).rc,I4 (R7 x).id] V) Wo Wo Fm A1 A1) ?_;rintro _ _ ⟨ql,l8,rfl⟩;have sM:=BS l8 (n':=(Ef vs (plQ x)++[R7 x]).length) (xs':=CJ (Ef vs (plQ x)++[R7 x])) (by rw [B7];rfl) (by rw [ZQ];rfl)
  obtain ⟨T9,Ps,rfl⟩:=l8.form;refine Zd Y V<|Ze (Iy Hf zm zf Y Y Y Wo) ?_;rintro _ _ ⟨rfl,qx,qw,qb,pg,ve,rfl⟩;refine Z0<|Zn [0,3,4,5,6,32] ?_;refine Zx<|Zq ?_;have r9:∀p∈qb,KD p.1:=fun p hp=>by
   rcases (ve p).1 hp with rfl|⟨h,_⟩
   · exact p9
   · rcases (sO p).1 h with rfl|⟨h,_⟩
     · exact p9
     · exact cO p h
  have j5:=ek _ _ _ pg.keys (fun p=>by rw [ve,sO];exact OL _ _ _ _) sM;refine CK (s1:=ql) (s2:=bn) Wo Wo ?_;refine Zg<|Zh 0 CC V rfl A4 Y<|Zl AD Y ?_;refine Zv (CP Y Y)<|A5<|Aq Y (fun h7=>?_) (fun h7=>?_);·
   obtain ⟨sJ,wo,bg,gq,q9⟩:=nG d9.keys o9 x h7;obtain ⟨qj,P6,vo⟩:=bg.form;rw [vo]at bg;refine CK (s1:=MJ) (s2:=MK) Wo Wo ?_;refine U8 (M:=MJ++MK) Wo gq ?_;refine Az (n:=17) (0::1::3::7::0::16::0::64::192::448::0::1024::4032::0::8192::32704::65535::[]) 114688 A6 A6 V<|A2 0 V (AP Y)<|A2 1 V (Ap Y V)<|A2 2 V (AB (off:=1) fN V rfl sizeOf262 Y)<|B2 3 V isAgg262 Y ?_;refine A2 4 V (AB (off:=6) CC V rfl A4 Y)<|B2 5 V AD Y ?_;refine A2 6 V (AP Y)<|A2 7 V (Ap Y V)<|A2 8 V (AB (off:=1) fN V rfl sizeOf262 Y)<|B2 9 V isAgg262 Y ?_;refine A2 10 V (AB (off:=6) CC V rfl A4 Y)<|B2 11 V AD Y ?_;refine E7 12 V Wh (De (Cc C5 (D:=fun _=>True)) underlying262 zeroValue36 d9 (fun _ _=>trivial) (trivial) (vo) Y Y) ?_;refine A2 13 V (AP Y)<|Zz (l:=[14])<|B1 [true,true,true,true,true] [(12,(_,_)),(11,(_,_)),(9,(_,_)),(5,(_,_)),(3,(_,_))] V rfl (Ah (vs:=[_]) (cs:=[_]) Cl A4 H4 Y V rfl V rfl V) ?_ (fun _ _ h=>h.elim) Ai;rintro _ _ ⟨gj,rfl,rfl⟩;refine B6<|Yz 15 32704 65535 [12,11,9,5,3] [false,false,false,true,true] [(5,(_,_)),(3,(_,_))] V Y V rfl V rfl (BR (by_:=8) (sz:=1) Cl (V:Tryz.prog.info? 3=some Tryz.t3) V rfl V rfl Y (bg) Y (D8 1 gj 1 1 3 (0,0) [I4 x.1] V) Wo Wo Fm A1 A1) ?_;rintro _ _ ⟨P5,l5,rfl⟩;refine ⟨Zk (Zk (Aa)),?_⟩;have pq:=BS l5 (n':=(FP vs x.2.ot++[x.1]).length) (xs':=(FP vs x.2.ot++[x.1]).map fun i=>Value.int .i64 i) (by rw [B7];rfl) (by rw [BW];rfl)
   obtain ⟨Rl,Pn,rfl⟩:=l5.form;refine Yw 16 131071 V (FE (Cc C5 (D:=fun _=>True)) underlying262 d9 (fun _ _=>trivial) (trivial) Y Y Y Wo) ?_;rintro _ _ ⟨rfl,yt,y5,MS,sw,LP,rfl⟩;refine Ag<|Zn [0,3,4,32] ?_;refine A8<|Zn [0,3,4,32] ?_;refine Ab (e':=[]) (by exact ⟨js++[jn],seen2,vs++[x],qx,qw,qb,yt,y5,MS,ql++bn,P5,wo,V,⟨hi2,l9,pg,r9,j5,sw,q9 _ _ _ sw.keys LP pq⟩,V,V⟩)
  refine AC<|A8<|Zn [0,3,4,32] ?_;refine Ab (e':=[]) (by exact ⟨js++[jn],seen2,vs++[x],qx,qw,qb,J,G,gB,ql++bn,MJ,MK,V,⟨hi2,l9,pg,r9,j5,d9,nH o9 x h7⟩,V,V⟩)
 cases hb
theorem lY:Ba prog 94 #[I5 ip] [[(ip,.cells #[.map (some mp),I5 lp] 163 (0,0))]] (fun r H'=>r=I5 lp/\H'=[[(ip,.cells #[.map (some mp),I5 lp] 163 (0,0))]]):=by
 refine Se func94 ntmps94 [0] ?_;intro u R;refine A0<|A3 Y<|Zq<|A0<|Zm Y<|Zp Y V<|Zh 1 Q1 V rfl an Y<|Zl isAgg161 Y<|Zv (NK underlying161 Y Y)<|A5<|AX Y (fun m=>?_) (fun m=>?_);·
  refine A0<|Zm Y<|Zp Y V<|Zh 1 Q1 V rfl an Y<|Zl isAgg161 Y<|A3 Y<|AJ<|Zt<|AO V results94 Y (by exact ⟨V,V⟩)
 cases m
theorem I8{r:AV}:r∈FL c↔(c.had=true/\r=⟨c.t,c.k,c.o⟩)\/(c.has=true/\r=⟨c.t,c.k,c.n⟩):=by
 unfold FL Ii;rw [B9];cases c.had<;>cases c.has<;>simp
theorem Nf(h:c.ok){r:AV}(G:r∈FL c):r.ok:=by
 obtain ⟨_,h2,_,_⟩:=h;rcases I8.1 G with⟨m,rfl⟩|⟨m,rfl⟩
 · have e:c.before=⟨c.t,c.k,c.o⟩:=by unfold Chg.before;rw [AM m]
   rw [e]at h2;exact cA fun B=>h2 (.inl ⟨m,B⟩)
 · have e:c.after=⟨c.t,c.k,c.n⟩:=by unfold Chg.after;rw [AM m]
   rw [e]at h2;exact cA fun B=>h2 (.inr ⟨m,B⟩)
theorem bT(h:c.ok):∀r∈FL c,∀n:Nat,n<4->-1000000000000<=Di r n/\Di r n<=1000000000000:=fun r G n _=>by
 obtain ⟨⟨m,h2,B⟩,I,J⟩:=Nf h G;simp only [inV]at m h2 B;unfold Di;split;· omega
 · split
   · omega
   · split<;>omega
theorem bV(h:c.ok):0<=c.t/\c.t<=3:=by
 have h0:c.had=true\/c.has=true:=by
  obtain ⟨m,_⟩:=h;cases e1:c.had<;>cases e2:c.has<;>simp_all
 rcases h0 with h0|h0
 · exact (Nf h (I8.2 (.inl ⟨h0,rfl⟩))).2.1
 · exact (Nf h (I8.2 (.inr ⟨h0,rfl⟩))).2.1
theorem yJ{q:QM}(h:O9 q c=true):∃r∈FL c,inQ q r=true:=by
 unfold O9 bfQ afQ Hy at h;rw [S2]at h;rcases h with h|h
 · split at h
   · rename_i h1
     rw [F2]at h1;exact ⟨_,I8.2 (.inl ⟨h1.1,V⟩),h1.2⟩
   · cases h
 · split at h
   · rename_i h1
     rw [F2]at h1;exact ⟨_,I8.2 (.inr ⟨h1.1,V⟩),h1.2⟩
   · cases h
theorem jm{q:QM}(B:BJ q)(h:Cq q c=true):O9 q c=true\/(q.kd=7/\c.t=q.ot):=by
 have hn:O9 q c=false->Ub q c=false/\mQ q (bfQ q c)=mQ q (afQ q c):=fun h=>by
  unfold O9 at h;unfold Ub;rw [hQ]at h;obtain ⟨m,h2⟩:=h;rw [m,h2];rw [Option.isSome_eq_false_iff,Option.isNone_iff_eq_none]at m h2;rw [m,h2];exact ⟨rfl,rfl⟩
 cases ha:O9 q c with
 |true=>exact .inl rfl
 |false=>
  obtain ⟨m,h2⟩:=hn ha;unfold Cq at h;rw [ha,m,h2]at h;obtain ⟨_,_,_,G⟩:=B;right;simp at h;exact ⟨by omega,h.2.2.2.2⟩
theorem rV(B:JR qs sc jn){i:Int}(h:i∈NN sc jn c):∃x∈qs,x.1=i:=by
 unfold NN at h;rcases B9.1 h with h|h
 · obtain ⟨r,_,h⟩:=S0.1 h
   obtain ⟨n,_,h⟩:=S0.1 h;obtain ⟨x,hx,m,_⟩:=(B.scan _ _ _ _).1 h;exact ⟨x,hx,m⟩
 · obtain ⟨x,hx,m,_⟩:=(B.join _ _).1 h
   exact ⟨x,hx,m⟩
theorem zy(m:Ei qs es ck lm){x y:Int×QM}(hx:x∈qs)(hy:y∈qs)(B:x.1=y.1):x=y:=by
 have G:∀{l:List (Int×QM)},(l.map (·.1)).Nodup->x∈l->y∈l->x=y:=fun{l}=>by
  induction l with
  |nil=>intro _ h;cases h
  |cons a l ih=>
   intro hn I h2;rw [DQ,Hj]at hn;rcases D4.1 I with h3|h3
   · rcases D4.1 h2 with h4|h4
     · rw [h3,h4]
     · exact absurd (by rw [<-h3,B];exact DP h4) hn.1
   · rcases D4.1 h2 with h4|h4
     · exact absurd (by rw [<-h4,<-B];exact DP h3) hn.1
     · exact ih hn.2 h3 h4
 exact G m.ids hx hy
theorem ed(B:JR qs sc jn){x:Int×QM}(hx:x∈qs)(G:BJ x.2)(h:Cq x.2 c=true):x.1∈NN sc jn c:=by
 unfold NN;rcases jm G h with h|⟨h7,m⟩
 · obtain ⟨r,I,hi⟩:=yJ h
   unfold inQ at hi;rw [Fl]at hi;have hc:=G.2.1
   have hv:=LW r x.2.cl.toNat A1;rw [show((x.2.cl.toNat:Nat):Int)=x.2.cl by omega]at hv;have m:r.t=c.t:=by rcases I8.1 I with⟨_,rfl⟩|⟨_,rfl⟩<;>rfl
   refine Dg _ (S0.2 ⟨r,I,S0.2 ⟨x.2.cl.toNat,Kd.2 A1,?_⟩⟩);refine (B.scan _ _ _ _).2 ⟨x,hx,V,?_,by omega,by omega⟩;unfold plQ;rw [show((x.2.cl.toNat:Nat):Int)=x.2.cl by omega,<-m,hi.1]
 · exact G2 _ ((B.join _ _).2 ⟨x,hx,rfl,h7,m.symm⟩)
def WQ(qs:List (Int×QM))(lv:Value)(ML:List AA):Prop:=(lv= .pointer none/\ML=[])\/∃lp sc jn,lv=I5 lp/\PX sc jn lp ML/\JR qs sc jn
theorem gL{P:Program}{f:FuncId}{args:Array Value}{H1 m:Hp}{Q:Value->Hp->Prop}(h:Ba P f args H1 Q)(e:m.flatten=H1.flatten):Ba P f args m Q:=fun u R w B=>h u R w (B.perm (by rw [Ge,Ge,e]))
theorem rz(B:Ei qs es ck lm)(J:∀x∈qs,BJ x.2)(I:qs.length<=500){lv:Value}(G:WQ qs lv ML):
 Ba prog 94 #[I5 ip] [[(ip,.cells #[.map (some mp),lv] 163 (0,0))],[(mp,.map es ck)],ML] (fun r H'=>∃lp m sc jn,r=I5 lp/\PX sc jn lp m/\JR qs sc jn/\H'=[[(ip,.cells #[.map (some mp),I5 lp] 163 (0,0))],[(mp,.map es ck)],m]):=by
 rcases G with⟨rfl,rfl⟩|⟨lp,sc,jn,rfl,h1,h2⟩
 · refine (gL (H1:=[[(ip,.cells #[.map (some mp),.pointer none] 163 (0,0))],[(mp,.map es ck)]]) (lX B J I) B0).mono ?_
   exact fun v H' h=>h
 · refine (gK lY [[(mp,.map es ck)],ML]).mono ?_
   rintro v H' ⟨H1,⟨rfl,rfl⟩,rfl⟩;exact ⟨lp,ML,sc,jn,V,h1,h2,V⟩
structure IE(S:Int->Prop)(es:Array MapEntry)(ck:Nat)(lm:List (Int×Value)):Prop where
 map:Co (fun n:Int=>Value.int .i64 n) es ck lm
 val:∀p∈lm,p.2= .bool true
 mem:∀i,i∈lm.map (·.1)↔S i
theorem fw:IE (fun _=>False) #[] 0 []:=⟨EU _,fun p h=>by simp at h,fun i=>by simp⟩
variable{S:Int->Prop}
theorem IE.get(h:IE S es ck lm)(i:Int) [Decidable (S i)]:(EI i lm).getD (.bool false)= .bool (decide (S i)):=by
 by_cases hi:S i
 · obtain ⟨p,m,rfl⟩:=Bm.1 ((h.mem i).2 hi)
   rw [Cy h.map.keys m,h.val p m,Cp hi];rfl
 · rw [DW fun p m B=>hi ((h.mem i).1 (Bm.2 ⟨p,m,B⟩)),CN hi];rfl
theorem IE.cong{T:Int->Prop}(h:IE S es ck lm)(e:∀i,S i↔T i):IE T es ck lm:=⟨h.map,h.val,fun i=>(h.mem i).trans (e i)⟩
theorem IE.put{J:Array MapEntry}{I:Nat}{G:List (Int×Value)}(h:IE S es ck lm){i:Int}(U:Co (fun n:Int=>Value.int .i64 n) J I G)(K:∀p,p∈G↔p=(i,.bool true)\/(p∈lm/\p.1≠i)):IE (fun j=>S j\/j=i) J I G:=by
 refine ⟨U,fun p m=>?_,fun j=>?_⟩
 · rcases (K p).1 m with rfl|⟨h1,_⟩
   · rfl
   · exact h.val p h1
 · rw [<-h.mem]
   constructor
   · intro O
     obtain ⟨p,m,rfl⟩:=Bm.1 O;rcases (K p).1 m with rfl|⟨h1,_⟩
     · exact .inr rfl
     · exact .inl (DP h1)
   · intro O
     by_cases B:j=i
     · subst B;exact Bm.2 ⟨_,(K _).2 (.inl rfl),rfl⟩
     · obtain ⟨p,m,rfl⟩:=Bm.1 (O.resolve_right B)
       exact Bm.2 ⟨p,(K p).2 (.inr ⟨m,B⟩),V⟩
theorem IE.len(h:IE S es ck lm)(I:∀i,S i->∃x∈qs,x.1=i):lm.length<=qs.length:=by
 have G:∀{a b:List Int},a.Nodup->(∀x∈a,x∈b)->a.length<=b.length:=fun{a b}=>by
  induction a generalizing b with
  |nil=>intro _ _;exact C0 _
  |cons x a ih=>
   intro hn B;obtain ⟨hx,hn⟩:=Hj.1 hn;have h2:=ih (b:=b.erase x) hn fun y hy=>by
    have m:y≠x:=fun e=>hx (e▸hy);exact (List.mem_erase_of_ne m).2 (B y (EV _ hy))
   have K:=na (B x (E4 ..));have O:=List.length_pos_of_mem (B x (E4 ..))
   rw [DG];omega
 have h2:=G (a:=lm.map (·.1)) (b:=qs.map (·.1)) h.map.keys fun i hi=>by
  obtain ⟨x,hx,J⟩:=I i ((h.mem i).1 hi);exact Bm.2 ⟨x,hx,J⟩
 simpa using h2
def JS(qs:List (Int×QM))(cs:List Chg)(i:Int):Prop:=∃x∈qs,x.1=i/\∃c∈cs,Cq x.2 c=true
end Go.Proofs.YtfhjaegddfehhaaGreatDoor
namespace Go.Proofs.YtfhjaegddfehhaaGreatDoor
open Go.Proofs.Tryz
open Go Go.RowKit Gw
set_option maxRecDepth 100000
attribute [local irreducible] Gw.At Gw.Nx Gw.Ops
open Go.Sort
theorem Sw{κ:Type}{l:List (κ×Value)}{js:List Nat}(hn:js.Nodup)(G:∀j∈js,j<l.length):∃m,((DR l js).map (·.1)++m).Perm (l.map (·.1)):=by
 have J:(js++(List.range l.length).filter fun j=>decide (j∉js)).Perm (List.range l.length):=(RE (H3.2 ⟨hn,(iS).sublist TX,fun a B b I=>by
  have:=(FA.1 I).2;simp only [Fl]at this;intro h;subst h;exact this B⟩) iS).2 fun a=>by
  simp only [B9,FA,Kd,Fl];constructor
  · rintro (h|h)
    · exact G a h
    · exact h.1
  · intro h
    by_cases B:a∈js
    · exact .inl B
    · exact .inr ⟨h,B⟩
 have h:=(J.filterMap (fun j=>l[j]?)).map (·.1);rw [eN,BW,show(List.range l.length).filterMap (fun j=>l[j]?)=DR l (List.range l.length) from rfl,NJ]at h;exact ⟨_,h⟩
def Mw{κ:Type}(l:List (κ×Value))(p:List κ):Prop:=∃rest,(p++rest).Perm (l.map (·.1))
theorem Mw.len{κ:Type}{l:List (κ×Value)}{p:List κ}{x:κ}(h:Mw l (p++[x])):p.length<l.length:=by
 obtain ⟨r,h⟩:=h;have:=h.length_eq
 simp at this;omega
theorem dA{v:Value}{zs:List Int}{s:List AA}(O:Row 3 v (zs.map (Value.int .i64)) s)(X:zs.length<=1000000):Ba prog 151 #[v] [s] (fun r H'=>∃(zs':List Int) (s':List AA),r= .tuple #[]/\zs'.Perm zs/\(zs'.Pairwise fun x y=>x<=y)/\Row 3 v (zs'.map (Value.int .i64)) s'/\H'=[s']):=fun u R w J=>by
 have m:=(oB zs fun x y=>decide (x<=y)).length_eq;have G:(zs.mergeSort fun x y=>decide (x<=y)).Pairwise fun x y=>x<=y:=by
  have h:=List.pairwise_mergeSort (le:=fun x y:Int=>decide (x<=y)) (fun a b c W h2=>by simp only [Fl]at*;omega) (fun a b=>by simp only [S2,Fl];omega) zs;simpa only [Fl]using h
 rcases O with⟨rfl,h0,rfl⟩|⟨g,cap,cur,z,rfl,rfl,hle,hcm,hcs,htk,hfr⟩
 · have hx:zs=[]:=by simpa using h0
   subst hx;refine (Tryz.slices_Sort_int_none none 0 w).mono ?_;rintro e U ⟨rfl,rfl⟩;exact .inl ⟨_,[[]],V,⟨[],[],V,.refl _,.nil,by simp [Fz],V⟩,J⟩
 · rw [B4]at hle htk⊢
   have B:Sat u ([(g,.cells cur 3 z)]::R) w:=by simpa using J
   have I:=B.get (g,.cells cur 3 z) B0;have K:=Tf I A1 hfr htk
   refine (Tryz.slices_Sort_int g 0 cap zs w K (HS.1 I).1 A1).mono ?_;rintro e U ⟨rfl,n,os,rfl⟩;refine .inl ⟨_,[[(g,.cells (putCells (Value.int .i64) 0 (zs.mergeSort fun x y=>decide (x<=y)).toArray cur) 3 z)]],V,⟨_,_,V,oB _ _,G,?_,V⟩,by simpa using B.sorted (n:=n) _ os⟩;refine .inr ⟨g,cap,_,z,by rw [B4,m],rfl,by rw [B4,m];exact hle,hcm,by rw [Mf];exact hcs,?_,by rw [Mf];exact hfr⟩;rw [B4];exact YX _ _ A1
theorem fO(mi:Nat):Ba prog 97 #[.map (some mi)] [] (fun r H'=>∃b,r= .func (.func 152) #[] #[I5 b]/\H'=[[(b,.cells #[.map (some mi)] 193 (0,0))]]):=by
 refine Se func97 ntmps97 [0] ?_;intro u R;refine A0<|Ze (Bx #[_])<|AE fun b=>A3 Y<|A0<|Zv (Bg (vs:=[]) (us:=[_]) Y Y)<|A3 Y<|AJ<|AO V results97 Y (by exact ⟨b,V,V⟩)
variable{es:Array MapEntry}{ck:Nat}{lm:List (Int×Value)}
theorem fP(W:Co (fun n:Int=>(Value.int .i64) n) es ck lm)(b mi:Nat):KT prog 152 #[I5 b] [[(b,.cells #[.map (some mi)] 193 (0,0))]] (fun _ s=>(mi,Obj.map es ck)∈s) (fun x:Int=>#[I4 x]) (Mw lm) (fun ys=>ys.Perm (lm.map (·.1))):=by
 intro l J X hy s G;refine Se func152 ntmps152 [0,1] ?_;intro u R;refine A0<|Zl isAgg193 Y<|Ze (LU underlying193 Y (Ee Wo (X _ s G)))<|AE fun ib=>A5<|AR<|Zb [0,5] ?_;refine BA (e0:=[]) (fun m e H=>∃(js:List Nat) (seen:Array Nat) (s:List AA),m=lm.length -js.length/\(Iu es js seen/\J ((DR lm js).map (·.1)) s)/\e=[]/\H=[[(ib,.mapIter (some mi) ck seen ck)],s]) (by exact ⟨[],#[],s,V,⟨KL _,G⟩,V,V⟩) Wp ?_;rintro _ _ _ ⟨js,seen,s,rfl,⟨K,G⟩,rfl,rfl⟩;have Z:=F8 es.size js K.nodup K.lt
 rw [W.size]at Z;refine A0<|Ze (NY W K Y Wo (Ee Wo (X _ s G))) ?_;rintro _ _ ax;rcases ax with⟨I,rfl,rfl⟩|⟨jn,pn,seen2,hpn,hjn,hi2,rfl,rfl⟩
 ·
  refine Zd Y V<|A5<|Zq<|AX Y (fun B=>by cases B)<|fun B=>Ay<|Zt<|Zt<|AU<|Cw V results152 (by exact ⟨_,s,I.map _,V,G⟩)
 refine Zd Y V<|A5<|Zq<|AX Y (fun B=>?_) (fun B=>?_);·
  have U:=F8 es.size (js++[jn]) hi2.nodup hi2.lt;rw [W.size,B7,E3]at U;have cu:(js++[jn]).length=js.length+1:=by rw [B7];rfl
  have bg:Mw lm ((DR lm js).map (·.1)++[pn.1]):=by
   have h:=Sw (l:=lm) hi2.nodup (fun j hj=>by rw [<-W.size];exact hi2.lt j hj);rw [G5 lm js hpn,BW]at h;exact h
  have bn:=hy ((DR lm js).map (·.1)) pn.1 s bg G;refine AC<|Zx<|AR<|Zq<|Zg ?_;have af:=X _ s G
  refine CS (cs:=[(ib,.mapIter (some mi) ck seen2 ck),(mi,.map es ck)]) (by simp [af]) (JG W hi2 hpn Y) V rfl<|Zd Y V<|A3 Y<|A0<|Zm Y<|Zm Y<|Ze (GZ (vs:=[_]) Y Y (bn) Wp) ?_;rintro _ _ ⟨_,⟨s',rfl,rfl,O⟩,rfl⟩;rw [show(DR lm js).map (·.1)++[pn.1]=(DR lm (js++[jn])).map (·.1) by rw [G5 lm js hpn,BW];rfl]at O;refine Zv (Br Y)<|A5<|AX Y (fun B=>by cases B)<|fun B=>AC<|A8<|Zn [0,5] ?_;refine Ab (e':=[]) (by exact ⟨js++[jn],seen2,s',V,⟨hi2,O⟩,V,V⟩)
 cases B
variable{M:List AA}
theorem RG(hm:Co (fun n:Int=>(Value.int .i64) n) es ck lm)(hn:lm.length<=1000000)(b mi:Nat)(U:(mi,Obj.map es ck)∈M):Ba prog 218 #[.slice none 0 0,.func (.func 152) #[] #[I5 b]] [[(b,.cells #[.map (some mi)] 193 (0,0))],M] (fun r H'=>∃(zs:List Int) (s':List AA),zs.Perm (lm.map (·.1))/\Row 3 r (zs.map (Value.int .i64)) s'/\H'=[M,s']):=by
 have af:=mL;refine DL func218 V ntmps218 V ?_;intro u R;refine Zb [0,1] ?_;refine A0<|Ze (Bx #[_])<|AE fun bs=>A3 Y<|Zq<|A0<|Zm Y<|A5<|AR<|Zb [2,6] ?_;refine BU<|J6 (H0:=_) (R:=_) (I:=(fun(pre:List Int) H=>∃B s2,H=[[(bs,.cells #[B] 36 (0,0))],s2,M]/\Row 3 B (pre.map (Value.int .i64)) s2)) (E:=fun x e Hn=>e=[(5,I4 x),(7,I4 x)]/\Hn=[]) rfl Y call152 (fP hm b mi) (fun pre H1 c d h=>by obtain ⟨B,s2,rfl,_⟩:=h;simp [U]) Y rfl Wp (⟨_,[],rfl,Fz _⟩) ?ha_2 ?hbd_2 ?hk_2
 case ha_2=>
  intro _ x _ _;refine Zg<|AG Y<|Lv (e:=[(5,_),(7,_)]) (Hn:=[]) ?_;exact ⟨V,V⟩
 case hbd_2=>
  intro l pre x u e9 X H1 R1 r9 W Z J;obtain ⟨rfl,rfl⟩:=J;obtain ⟨B,s2,rfl,G⟩:=Z;have ax:=W.len
  obtain ⟨gv,cv,rfl⟩:=G.form;refine AR<|Zg<|Zl ar Y<|Zm Y<|Ze (Ah (vs:=[_]) (cs:=[_]) Cl A4 H4 Y V rfl V rfl V)<|AE fun b2=>Ze (ET (by_:=8) (news:=[_]) Cl (V:Tryz.prog.info? 3=some Tryz.t3) V rfl V rfl Y G Y Wo Wh AN V Fm AH (by(simp only [B4];omega)) (by(simp only [B4];omega))) ?_;rintro _ _ ⟨sq,m,rfl⟩;obtain ⟨gq,cq,rfl⟩:=m.form;refine Xe (Zs cQ Y Y rfl)<|Z0<|A8<|F7 rfl (by exact ⟨_,_,rfl,by rw [BW];exact m⟩)
 intro D1 ys H2 O K;obtain ⟨B,s2,rfl,G⟩:=K;refine Zn [2] ?_;refine A8<|Zx<|A0<|Zl ar Y<|A3 Y<|AJ<|GN V (dM results218 Y) Wo (by exact ⟨ys,s2,O,G,V⟩)
theorem Ug(B:Co (fun n:Int=>(Value.int .i64) n) es ck lm)(hn:lm.length<=1000000)(b mi:Nat)(m:(mi,Obj.map es ck)∈M):Ba prog 150 #[.func (.func 152) #[] #[I5 b]] [[(b,.cells #[.map (some mi)] 193 (0,0))],M] (fun r H'=>∃(zs:List Int) (s':List AA),zs.Perm (lm.map (·.1))/\Row 3 r (zs.map (Value.int .i64)) s'/\H'=[M,s']):=by
 refine Se func150 ntmps150 [0] ?_;intro u R;refine A0<|A3 Y<|A0<|Zm Y<|Zc [_,_] Y call218 Y V (RG B hn b mi m) ?_;rintro _ _ ⟨_,⟨zs,s2,G,I,rfl⟩,rfl⟩;refine A3 Y<|AJ<|AO V results150 Y (by exact ⟨zs,s2,G,I,V⟩)
theorem Wq(U:Co (fun n:Int=>(Value.int .i64) n) es ck lm)(hn:lm.length<=1000000)(b mi:Nat)(m:(mi,Obj.map es ck)∈M):Ba prog 96 #[.func (.func 152) #[] #[I5 b]] [[(b,.cells #[.map (some mi)] 193 (0,0))],M] (fun r H'=>∃(zs:List Int) (s':List AA),zs.Perm (lm.map (·.1))/\(zs.Pairwise fun x y=>x<=y)/\Row 3 r (zs.map (Value.int .i64)) s'/\H'=[M,s']):=by
 refine Se func96 ntmps96 [0] ?_;intro u R;refine A0<|A3 Y<|A0<|Zm Y<|Zc [_] Y call150 Y V (Ug U hn b mi m) ?_;rintro _ _ ⟨_,⟨zs,s2,O,W,rfl⟩,rfl⟩;have J:=O.length_eq
 rw [B4]at J;refine A3 Y<|A0<|Zm Y<|Zc [_] Y call151 Y V (dA W A1) ?_;rintro _ _ ⟨_,⟨K,X,rfl,B,I,G,rfl⟩,rfl⟩;refine A5<|A0<|Zm Y<|A3 Y<|AJ<|AO V results96 Y (by exact ⟨K,X,B.trans O,I,G,V⟩)
end Go.Proofs.YtfhjaegddfehhaaGreatDoor
