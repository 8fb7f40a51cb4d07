/- Pairs of rows in memory; slices.Clone, IndexFunc, DeleteFunc, Insert at pairs. -/
/- predicate.without, inserted at pairs. -/
/- The pairs of a join: plain words, the closures. -/
/- effect.join. -/
/- effect.join. -/
/- predicate.patchJoin. -/
/- The patches of least and greatest values; the patch of a kind. -/
/- predicate.Patch, Apply. -/
import Derived.Test.YteaiajghbkenoaaGreatDoorEz
import Derived.Test.YteaiajghbkenoaaGreatDoorPr3
import Derived.Test.YteaiajghbkenoaaGreatDoorEx5
set_option linter.unusedVariables false
set_option linter.unusedSimpArgs false
namespace Go.Proofs.YteaiajghbkenoaaGreatDoor
open Go.Proofs.Tryz
open Go Go.RowKit Gw
set_option maxRecDepth 100000
attribute [local irreducible] Gw.At Gw.Nx Gw.Ops
structure BS where
 l:AQ
 r:AQ
deriving DecidableEq
def Ah(ps:List BS):List Value:=ps.flatMap fun p=>[I4 p.l.t,I4 p.l.k,I4 p.l.v.a,I4 p.l.v.b,I4 p.l.v.c,I4 p.r.t,I4 p.r.k,I4 p.r.v.a,I4 p.r.v.b,I4 p.r.v.c]
theorem Cu(a b:List BS):Ah (a++b)=Ah a++Ah b:=by unfold Ah;rw [AE2]
theorem Ay:∀(rs:List BS),(Ah rs).length=rs.length*10
 |[]=>rfl
 |r::rs=>by
  have:=Ay rs;unfold Ah at*;rw [AB2,zG,this,ze];simp;omega
theorem FN(rs:List BS)(k:Nat):(Ah rs).take (k*10)=Ah (rs.take k):=by
 rcases AB1 rs.length k with h|h
 · rw [AB6 (by rw [Ay];omega),AB6 Ao7]
 · have e:Ah rs=Ah (rs.take k)++Ah (rs.drop k):=by rw [<-Cu,AB4]
   rw [e,AC3 (by rw [Ay,zN];omega)]
theorem L9(rs:List BS)(k:Nat):(Ah rs).drop (k*10)=Ah (rs.drop k):=by
 rcases AB1 rs.length k with h|h
 · rw [AF1 (by rw [Ay];omega),AF1 Ao7];rfl
 · have e:Ah rs=Ah (rs.take k)++Ah (rs.drop k):=by rw [<-Cu,AB4]
   rw [e,AJ7 (by rw [Ay,zN];omega)]
theorem EP(rs:List BS):∀u∈Ah rs,u.oneCell'=true:=by
 intro u hu;unfold Ah at hu;obtain ⟨r,_,h⟩:=AF8.1 hu;simp only [za,AH2,An6]at h;rcases h with rfl|rfl|rfl|rfl|rfl|rfl|rfl|rfl|rfl|rfl<;>rfl
def TL(M:List A8)(v:Value)(rs:List BS):Prop:=∃p cap,v= .slice p rs.length cap/\(rs.length<=maxLen/\rs.length<=cap)/\∀(i:Nat) (x:BS),rs[i]?=some x->∃g off cur T zz,p=some ⟨g,off,none⟩/\(g,Obj.cells cur T zz)∈M/\off+i*10+10<=cur.size/\cur.extract (off+i*10) (off+i*10+10)=#[I4 x.l.t,I4 x.l.k,I4 x.l.v.a,I4 x.l.v.b,I4 x.l.v.c,I4 x.r.t,I4 x.r.k,I4 x.r.v.a,I4 x.r.v.b,I4 x.r.v.c]
variable{v:Value}{rs:List BS}{s:List A8}
theorem N7{e:TypeId}(h:BZ 10 e v rs.length (Ah rs) s)(hn:rs.length<=maxLen):TL s v rs:=by
 obtain ⟨b,cap,rfl⟩:=h.form;refine ⟨b,cap,V,⟨hn,Ew h⟩,fun i x hx=>?_⟩;obtain ⟨g,cap',cur,z,hv,rfl,hsz,hex⟩:=L8 h i (zF.1 hx).1;injection hv with hv1 hv2 hv3
 refine ⟨g,0,cur,e,z,hv1,by simp,by omega,?_⟩;unfold Ah at hex;rw [KP _ 10 (fun _=>rfl) rs i x hx]at hex;rw [zo];exact AB8.1 hex
variable{k:Nat}
theorem R7{r:BS}(h:rs[k]?=some r):Ah rs=Ah (rs.take k)++(Ah [r]++Ah (rs.drop (k+1))):=by
 rw [<-Cu,<-Cu];congr 1;obtain ⟨hk,rfl⟩:=zF.1 h;rw [AC2,<-AD0 hk,AB4]
theorem IV{r:BS}(h:rs[k]?=some r)(j:Nat)(hj:j<10):(Ah rs)[k*10+j]?=(Ah [r])[j]?:=by
 have hk:=(zF.1 h).1;have e:(Ah (rs.take k)).length=k*10:=by rw [Ay,zN];omega
 rw [R7 h,AC1 Ao7,AE6 (by rw [e,Ay];simp;omega),e,Nat.add_sub_cancel_left]
variable{n:Nat}
theorem VW{M:List A8}{p:Option Addr}{cap:Nat}(h:TL M (.slice p n cap) rs):F5 M p (Ah rs):=by
 obtain ⟨p',cap',e,hl,hg⟩:=h;injection e with e1 e2 e3
 subst e1;intro j u hj;have hjl:=(zF.1 hj).1
 rw [Ay]at hjl;obtain ⟨x,hx⟩:∃x,rs[j/10]?=some x:=⟨_,zD Ao7⟩;obtain ⟨g,off,cur,T,zz,rfl,hm,hsz,hex⟩:=hg (j/10) x hx;refine ⟨g,off,cur,T,zz,V,hm,?_⟩;have h1:=OZ hex hsz (j%10) Ao7
 have h2:=IV hx (j%10) Ao7;rw [show j/10*10+j%10=j by omega,hj]at h2;rw [show off+j=off+j/10*10+j%10 by omega,h1,h2,<-AA3];rfl
theorem Ve{M:List A8}(hv:TL M v rs)(hb:rs.length<=1000000000000):BR Tryz.prog 297 #[v] [M] (fun r H'=>∃sr,BZ 10 310 r rs.length (Ah rs) sr/\H'=[sr,M]):=by
 have hml:=mL;obtain ⟨p,cap,rfl,⟨hl,hlc⟩,hg⟩:=id hv;have hcm:F5 M p (Ah rs):=VW hv
 refine Se func297 ntmps297 [0] ?_;intro u R;refine Zq<|Zg<|Za Y<|Z0<|Zx<|Zq<|Zq<|Zg<|Zm Y<|Zv (DX AV5 Y Y)<|Z0<|Zx<|AR Y (fun hp=>?_) (fun hp=>?_)
 ·
  have hp0:p=none:=by cases p with
   |none=>rfl
   |some x=>cases hp
  have h0:rs=[]:=by
   cases rs with
   |nil=>rfl
   |cons x l=>obtain ⟨g,off,cur,T,zz,e9,_⟩:=hg 0 x rfl;rw [hp0]at e9;cases e9
  refine Zq<|BV<|Zg<|Za Y<|Z0<|Zx<|AC<|Zt<|AL rfl results297 Y (by exact ⟨[],by rw [h0];exact Bf 10 _,rfl⟩)
 refine AJ<|Zx<|Zq<|Zg<|Ze (Dw AV5 AX7) ?_;rintro _ _ ⟨g1,rfl,rfl⟩;refine Zm Y<|Ze (Gi (by_:=80) (sz:=10) AV5 (V:Tryz.prog.info? 310=some Tryz.t310) V rfl V rfl Y (Im 10 310 g1 0 [] V Ao9) Y (hcm) (by exact Ay _) Ao9 Wo Wo (by exact EP _) Ao7 Ao7) ?_;rintro _ _ ⟨sa1,hra1,rfl⟩;replace hra1:=BO hra1 (zo _) (AD8 _);refine Za Y<|Z0<|Zx<|AC<|AL V results297 Y (by exact ⟨_,hra1,V⟩)
def GV(pd:BS->Bool)(rows:List BS):Int:=(rows.findIdx? pd).elim (-1) fun i=>(i:Int)
variable{rows:List BS}{i:Nat}{x:BS}
theorem jR{pd:BS->Bool}(h:∀(j:Nat) (y:BS),j<i->rows[j]?=some y->pd y=false)(hx:rows[i]?=some x)(hp:pd x=true):GV pd rows=(i:Int):=by
 obtain ⟨hi,rfl⟩:=zF.1 hx;unfold GV;rw [AC5.2 ⟨hi,hp,fun j hj=>by simp [h j _ hj (zD Ao7)]⟩];rfl
theorem jS{pd:BS->Bool}(h:∀(j:Nat) (y:BS),j<rows.length->rows[j]?=some y->pd y=false):GV pd rows=-1:=by
 unfold GV;rw [AH4.2 fun y hy=>by
  obtain ⟨j,hj⟩:=AA1 hy;exact h j y (zF.1 hj).1 hj]
 rfl
theorem Sc(pd:BS->Bool)(rows:List BS):(GV pd rows=-1/\∀y∈rows,pd y=false)\/∃(i:Nat) (x:BS),GV pd rows=(i:Int)/\rows[i]?=some x/\pd x=true/\∀(j:Nat) (y:BS),j<i->rows[j]?=some y->pd y=false:=by
 unfold GV;cases h:rows.findIdx? pd with
 |none=>exact .inl ⟨rfl,AH4.1 h⟩
 |some i=>
  obtain ⟨h1,h2,h3⟩:=AC5.1 h;refine .inr ⟨i,_,V,zD h1,h2,fun j y hj hy=>?_⟩;obtain ⟨h4,rfl⟩:=zF.1 hy;simpa using h3 j hj
theorem iI(hk:k<rs.length)(x:BS):(Ah rs).take (k*10)++Ah [x]++(Ah rs).drop (k*10+(Ah [x]).length)=Ah (rs.set k x):=by
 rw [show k*10+(Ah [x]).length=(k+1)*10 by rw [Ay];simp;omega,FN,L9,<-Cu,<-Cu,AJ0,Am7 hk];simp
variable{cur:Array Value}
theorem Uu(hin:CE cur 0 (Ah rs))(hx:rs[k]?=some x):k*10+10<=cur.size/\cur.extract (0+k*10) (0+k*10+10)=(Ah [x]).toArray:=by
 have hk:=(zF.1 hx).1;have hs:k*10+10<=cur.size:=by
  have h4:=IV hx 9 Ao9;have h5:=hin.get (k*10+9) _ (h4.trans Ap1)
  have:=(zw.1 h5).1;omega
 refine ⟨hs,?_⟩;apply AB8.1;apply AD5;intro j;rw [AA3,AK6];split
 · rename_i hj
   have hj5:j<10:=by omega
   have h1:=IV hx j hj5;obtain ⟨u,hu⟩:∃u,(Ah [x])[j]?=some u:=⟨_,zD (by rw [Ay];simpa using hj5)⟩;rw [hu]at h1;have h2:=hin.get _ _ h1
   rw [zo]at h2;rw [zo,h2];exact hu.symm
 · rw [AC7]
   show(Ah [x]).length<=j;rw [Ay];simp only [zU];omega
theorem KQ{j:Nat}(f:BS->Bool)(hx:rows[j]?=some x):(rows.take (j+1)).filter f=(rows.take j).filter f++(if f x then [x]else []):=by
 rw [Bc hx,AB3];congr 1;rw [AM3,AR3]
theorem Ld{f:BS->Bool}(h:∀(j:Nat) (y:BS),rows[j]?=some y->f y=true):rows.filter f=rows:=AN8.2 fun y hy=>by
 obtain ⟨j,hj⟩:=AA1 hy;exact h j y hj
variable{B A:List A8}
theorem La(hv:TL A v rows)(fid:Nat)(us:List Value)(pd:BS->Bool)(hcf:∀(args:Array Value) (w:World),(callFunc fid args).run Tryz.prog w= .ok (.enter fid args) w)(hf:∀x:BS,BJ Tryz.prog fid (.agg #[I4 x.l.t,I4 x.l.k,I4 x.l.v.a,I4 x.l.v.b,I4 x.l.v.c,I4 x.r.t,I4 x.r.k,I4 x.r.v.a,I4 x.r.v.b,I4 x.r.v.c]::us).toArray [B] (.bool (pd x))):BJ Tryz.prog 261 #[v,.func (.func fid) #[] us.toArray] [A,B] (I4 (GV pd rows)):=by
 have hml:=mL;obtain ⟨p,cap,rfl,⟨hl,hlc⟩,hg⟩:=id hv;refine Se func261 ntmps261 [0,1] ?_;intro u R;refine Zq<|Zg<|Za Y<|Z0<|Zx<|Zq<|Zq<|Zg<|Zm Y<|Zv (Aa AV5 Y)<|Zm Y<|Z0<|Zx<|AO<|Zb [8,0,1,7] ?_;refine BI (e0:=[(8,_)]) (fun m e H=>∃(i:Nat),m=rows.length -i/\(i<=rows.length/\∀(j:Nat) (y:BS),j<i->rows[j]?=some y->pd y=false)/\e=[(8,I4 (i:Int))]/\H=[]) (by exact ⟨0,V,⟨zT _,fun j y h=>by omega⟩,V,V⟩) Wp ?_;rintro _ _ _ ⟨i,rfl,⟨hi,hno⟩,rfl,rfl⟩;refine Zq<|Zg<|Zv (Au Y Y)<|Z0<|Zx<|Zq<|Aw Y (fun hlt=>?_) (fun hlt=>?_)
 ·
  obtain ⟨x,hx⟩:∃x,rows[i]?=some x:=⟨_,zD hlt⟩;obtain ⟨g,off,cur,T,zz,rfl,hm9,hsz9,hex9⟩:=hg i x hx;refine AJ<|Zx<|Zq<|AO<|Zq<|Zg<|Zm Y<|Za Y<|Z0<|Zx<|Zq<|Zg<|Zm Y<|Zm Y<|Zm Y<|Bq (Ai AV5 AX7 Y Y Ao7)<|CW (cs:=[(g,.cells cur T zz)]) (by simp [hm9]) (AA (cs:=#[I4 x.l.t,I4 x.l.k,I4 x.l.v.a,I4 x.l.v.b,I4 x.l.v.c,I4 x.r.t,I4 x.r.k,I4 x.r.v.a,I4 x.r.v.b,I4 x.r.v.c]) isAgg310 AX7 Y Ao7 hex9) V rfl ?_;refine Xr [_] Y (hcf) Y V (hf x) ?_;refine Z0<|Zx<|AR Y (fun hpx=>?_) (fun hpx=>?_)
  ·
   refine Zq<|Zg<|Zm Y<|Za Y<|Z0<|Zx<|AC<|Ab<|Zt<|Zt<|Ab<|Zt<|AL V results261 Y (by exact ⟨congrArg (Value.int .i64) (jR hno hx hpx).symm,V⟩)
  refine AJ<|A9<|Zx<|Zg<|Ya (n:=1) Y Y<|Zm Y<|Z0<|Zn [8,0,1,7] ?_;refine Ad (e':=[(8,_)]) (by exact ⟨i+1,rfl,⟨by omega,fun j y h1 h2=>by rcases AB1 j i with h9|h9;exact hno j y h9 h2;obtain rfl:j=i:=Ao7;rw [hx]at h2;injection h2 with h2;subst h2;exact hpx⟩,rfl,rfl⟩)
 have ei:i=rows.length:=by omega
 subst ei;refine BG<|Zt<|Zt<|AX<|Zx<|Zq<|Zg<|Za Y<|Z0<|Zx<|AC<|AL V results261 Y (by exact ⟨congrArg (Value.int .i64) (jS hno).symm,V⟩)
set_option maxHeartbeats 1000000 in
theorem WF(hrow:BZ 10 310 v rows.length (Ah rows) s)(hn:rows.length<=1000000000)(fid:Nat)(us:List Value)(pd:BS->Bool)(hcf:∀(args:Array Value) (w:World),(callFunc fid args).run Tryz.prog w= .ok (.enter fid args) w)(hf:∀x:BS,BJ Tryz.prog fid (.agg #[I4 x.l.t,I4 x.l.k,I4 x.l.v.a,I4 x.l.v.b,I4 x.l.v.c,I4 x.r.t,I4 x.r.k,I4 x.r.v.a,I4 x.r.v.b,I4 x.r.v.c]::us).toArray [B] (.bool (pd x))):BR Tryz.prog 296 #[v,.func (.func fid) #[] us.toArray] [s,B] (fun r H'=>∃s',BZ 10 310 r (rows.filter fun x=>!pd x).length (Ah (rows.filter fun x=>!pd x)) s'/\H'=[s',B]):=by
 have hml:=mL;obtain ⟨p,cap,rfl⟩:=hrow.form;have hU:=N7 hrow Ao7
 refine Se func296 ntmps296 [0,1] ?_;intro u R;refine Zq<|Zg<|Za Y<|Z0<|Zx<|Zq<|Zg<|Zm Y<|Zm Y<|Xr [_,_] Y call261 Y V (La hU fid us pd hcf hf) ?_;rcases Sc pd rows with⟨e9,hall⟩|⟨k,x0,e9,hx0,hp0,hno⟩
 ·
  rw [e9];refine Za Y<|Z0<|Zx<|Zq<|Zq<|Zg<|Zm Y<|Zv (CL Y Y)<|Z0<|Zx<|Aw Y (fun h1=>?_) (fun h1=>?_)
  ·
   refine Zq<|Zg<|Zm Y<|Za Y<|Z0<|Zx<|AC<|Zt<|AL rfl results296 Y (by exact ⟨_,BO hrow (congrArg List.length (Ld fun j y hy=>by rw [hall y (zP hy)];rfl).symm) (congrArg Ah (Ld fun j y hy=>by rw [hall y (zP hy)];rfl).symm),rfl⟩)
  exact absurd V h1
 rw [e9];have hk0:=(zF.1 hx0).1
 obtain ⟨g,cap9,cur,z,hv9,rfl,hle9,hin9⟩:=Ee hrow Ao7;injection hv9 with hv1 hv2 hv3
 subst hv1 hv3;refine Za Y<|Z0<|Zx<|Zq<|Zq<|Zg<|Zm Y<|Zv (CL Y Y)<|Z0<|Zx<|Aw Y (fun h2=>?_) (fun h2=>?_)
 ·
  exfalso;omega
 refine AJ<|Zx<|Zq<|Zq<|Zg<|Zm Y<|Ya (n:=1) Y Y<|Za Y<|Z0<|Zx<|AO<|Zb [5,6,0,1] ?_;refine BI (e0:=[(5,_),(6,_)]) (fun m e H=>∃(i j:Nat) (W:List BS) (cur:Array Value),m=rows.length -j/\((i<j/\j<=rows.length)/\W.length=rows.length/\BZ 10 310 (I6 g rows.length cap) rows.length (Ah W) [(g,.cells cur 310 z)]/\W.take i=(rows.take j).filter (fun x=>!pd x)/\∀t,j<=t->W[t]?=rows[t]?)/\e=[(5,I4 (i:Int)),(6,I4 (j:Int))]/\H=[[(g,.cells cur 310 z)]]) (by exact ⟨k,k+1,rows,cur,rfl,⟨⟨by omega,by omega⟩,rfl,hrow,by rw [KQ _ hx0,hp0];simp only [AK8,AD4,An2,zV];exact (Ld (fun j y hy=>by rw [AA7]at hy;split at hy;rw [hno j y Ap7 hy];rfl;cases hy)).symm,fun t _=>rfl⟩,rfl,rfl⟩) Wp ?_;rintro _ _ _ ⟨i,j,W,cur,rfl,⟨hij,hWl,hrW,hWt,hWr⟩,rfl,rfl⟩;obtain ⟨hinW,hcsW,hleW,hcmW,hfrW⟩:=JI hrW;refine Zq<|Zq<|Zg<|Zm Y<|Zm Y<|Zv (Aa AV5 Y)<|Zv (Au Y Y)<|Z0<|Zx<|Aw Y (fun hlt=>?_) (fun hlt=>?_)
 ·
  obtain ⟨x,hx⟩:∃x,rows[j]?=some x:=⟨_,zD hlt⟩;obtain ⟨hsz9,hex9⟩:=Uu hinW ((hWr j (zh _)).trans hx);refine AJ<|Zx<|Zq<|AO<|Zq<|Zg<|Zm Y<|Zm Y<|Bq (Ai AV5 AX7 Y Y Ao7)<|Zo Wh (AA (cs:=#[I4 x.l.t,I4 x.l.k,I4 x.l.v.a,I4 x.l.v.b,I4 x.l.v.c,I4 x.r.t,I4 x.r.k,I4 x.r.v.a,I4 x.r.v.b,I4 x.r.v.c]) isAgg310 AX7 Y Ao7 hex9) ?_;refine Ze (Al Ag9 #[_,_,_,_,_,_,_,_,_,_]) ?_;rintro _ _ ⟨bx,rfl,rfl⟩;refine Xe (Xw AX7 #[I4 x.l.t,I4 x.l.k,I4 x.l.v.a,I4 x.l.v.b,I4 x.l.v.c,I4 x.r.t,I4 x.r.k,I4 x.r.v.a,I4 x.r.v.b,I4 x.r.v.c]) ?_;refine Z0<|Zx<|Zq<|Zg<|Zm Y<|Zo Wh (AA (cs:=#[_,_,_,_,_,_,_,_,_,_]) isAgg310 AX7 Y (by(simp;done)) Ap1) ?_;refine Xr [_] Y (hcf) Y V (hf x) ?_;refine Zv (Br Y)<|Z0<|Zn [0,1,5,6,7,29] ?_;refine Zx<|AR Y (fun hpx=>?_) (fun hpx=>?_)
  ·
   have hpx:pd x=false:=by simpa using hpx
   have hrW2:=BO (xs':=Ah (W.set i x)) (Dy (i:=0+i*10) (ys:=Ah [x]) hrW (by rw [Ay,Ay,zU];omega)) rfl (by rw [zo];exact iI Ao7 x);refine Zq<|Zg<|Zm Y<|Zm Y<|Zo Wh (AA (cs:=#[_,_,_,_,_,_,_,_,_,_]) isAgg310 AX7 Y (by(simp;done)) Ap1) ?_;refine Bq (Ai AV5 AX7 Y Y Ao7)<|Xe (BK AX7 Y Y Ap9 Wu (by exact (rfl:_=Dp cur (0+i*10) (Ah [x]))) Ap3 Ao7 (by exact hfrW)) ?_;refine Z0<|Zx<|Zg<|Zm Y<|Ya (n:=1) Y Y<|Za Y<|Z0<|A9<|Zx<|Zg<|Zm Y<|Ya (n:=1) Y Y<|Za Y<|Z0<|Zn [5,6,0,1] ?_;refine Ad (e':=[(5,_),(6,_)]) (by exact ⟨i+1,j+1,W.set i x,_,rfl,⟨by omega,by rw [AL3];exact hWl,hrW2,by rw [X9 Ao7,hWt,KQ _ hx];simp [hpx],fun t ht=>by rw [List.getElem?_set_ne Ao7];exact hWr t Ao7⟩,rfl,rfl⟩)
  have hpx:pd x=true:=by simpa using hpx
  refine AJ<|A9<|Zx<|Zg<|Zm Y<|Ya (n:=1) Y Y<|Za Y<|Z0<|Zn [5,6,0,1] ?_;refine Ad (e':=[(5,_),(6,_)]) (by exact ⟨i,j+1,W,cur,rfl,⟨by omega,hWl,hrW,by rw [hWt,KQ _ hx];simp [hpx],fun t ht=>hWr t Ao7⟩,rfl,rfl⟩)
 have ej:j=rows.length:=by omega
 subst ej;rw [AA4]at hWt;have hil:(rows.filter fun x=>!pd x).length=i:=by rw [<-hWt,zN];omega
 refine BG<|Zt<|Zt<|AX<|Zx<|Zq<|Zg<|Zm Y<|Zm Y<|Bq (CR AV5 AX7 Y Y Ao7)<|Ze (Nj AV5 (V:Tryz.prog.info? 310=some Tryz.t310) V rfl (by simp [Value.cells,Value.oneCell']) Y Ao7 hcsW hfrW Wo) ?_;rintro _ _ rfl;have hrW3:=UJ (Dy (i:=i*10) (ys:=(Builtin.zeroCells (Value.agg #[I4 0,I4 0,I4 0,I4 0,I4 0,I4 0,I4 0,I4 0,I4 0,I4 0]).cells (rows.length -i)).toList) hrW (by rw [AE7,size_zeroCells,Ay];show i*10+(rows.length -i)*10<=_;omega)) i Ao7
 refine Z0<|Zx<|Zq<|Zg<|Zm Y<|Zm Y<|Bq (CK AV5 AX7 Y Y Ao7)<|Za Y<|Z0<|Zx<|AC<|AL V results296 Y (by
  refine ⟨_,BO hrW3 hil.symm ?_,V⟩;rw [zM,AC3 (by rw [zN,Ay];omega),FN,hWt])
theorem jO{A Y D:List Value}(hA:A.length=(n+1)*10)(hi:i<=n)(hY:Y.length=10)(hD:D.length=(n -i)*10):(A.take (0+i*10)++Y++A.drop (0+i*10+Y.length)).take (0+(i+1)*10)++D++(A.take (0+i*10)++Y++A.drop (0+i*10+Y.length)).drop (0+(i+1)*10+D.length)=A.take (i*10)++Y++D:=by
 rw [zo,zo,AC3 (by rw [zG,zN];omega),AF1 (by simp only [zG,zN,zO];omega),zV]
theorem bY{A Y D:List Value}(hA:A.length=(n+1)*10)(hi:i<=n)(hY:Y.length=10)(hD:D.length=(n -i)*10):(A.take (0+(i+1)*10)++D++A.drop (0+(i+1)*10+D.length)).take (0+i*10)++Y++(A.take (0+(i+1)*10)++D++A.drop (0+(i+1)*10+D.length)).drop (0+i*10+Y.length)=A.take (i*10)++Y++D:=by
 rw [zo,zo,AF1 (l:=A) Ao7,zV,AE3 (by rw [zN];omega),AJ5,AG8 Ao7,AJ7 (by rw [zN];omega)]
theorem UG(rows:List BS)(i:Nat)(y:BS):(Ah rows).take (i*10)++Ah [y]++Ah (rows.drop i)=Ah (rows.take i++[y]++rows.drop i):=by
 rw [FN,Cu,Cu]
theorem QF{c:Array Value}(h:CE c 0 (Ah rows))(i:Nat)(hi:i<=rows.length):CE c (0+i*10) (Ah (rows.drop i)):=by
 have h1:=IZ h (i*10) ((rows.length -i)*10) (by rw [Ay];omega);rw [L9,AB6 (by rw [Ay,zO];omega)]at h1;exact h1
theorem Yp{c:Array Value}(h:CE c 0 (Ah rows))(i:Nat)(hi:i<=rows.length):CE c 0 (Ah (rows.take i)):=by
 have h1:=IZ h 0 (i*10) (by rw [Ay];omega);rw [AI5,FN]at h1;exact h1
theorem Sa(rows:List BS)(i:Nat)(hi:i<=rows.length)(y:BS):(rows.take i++[y]++rows.drop i).length=rows.length+1:=by
 simp only [zG,zN,zO,zU];omega
set_option maxHeartbeats 1000000 in
theorem Vx(hrow:BZ 10 310 v rows.length (Ah rows) s)(hn:rows.length<=1000000000)(i:Nat)(hi:i<=rows.length)(y:BS)(g2:Nat):BR Tryz.prog 298 #[v,I4 (i:Int),I6 g2 1 1] [s,[(g2,.cells #[I4 y.l.t,I4 y.l.k,I4 y.l.v.a,I4 y.l.v.b,I4 y.l.v.c,I4 y.r.t,I4 y.r.k,I4 y.r.v.a,I4 y.r.v.b,I4 y.r.v.c] 310 (0,0))]] (fun r H'=>∃s' s2,BZ 10 310 r (rows.take i++[y]++rows.drop i).length (Ah (rows.take i++[y]++rows.drop i)) s'/\H'=[s',s2,[(g2,.cells #[I4 y.l.t,I4 y.l.k,I4 y.l.v.a,I4 y.l.v.b,I4 y.l.v.c,I4 y.r.t,I4 y.r.k,I4 y.r.v.a,I4 y.r.v.b,I4 y.r.v.c] 310 (0,0))]]):=by
 have hml:=mL;obtain ⟨p,cap,rfl⟩:=hrow.form;have hle:=Ew hrow
 refine Se func298 ntmps298 [0,1,2] ?_;intro u R;refine Zq<|Zg<|Za Y<|Z0<|Zx<|Zq<|BV<|Zg<|Zm Y<|Zm Y<|Bq (CR AV5 AX7 Y Y Ao7)<|Z0<|Zx<|Zq<|Zg<|Zm Y<|Zv (Aa AV5 Y)<|Za Y<|Z0<|Zx<|Zq<|Zq<|Zg<|Zm Y<|Zv (DL (n:=0) Y Y)<|Z0<|Zx<|Aw Y (fun h0=>?_) (fun h0=>?_)
 ·
  cases h0
 refine AJ<|Zx<|Zq<|Zg<|Zm Y<|Zv (Aa AV5 Y)<|Za Y<|Z0<|Zx<|Zq<|Zq<|Zg<|Zm Y<|Zm Y<|Zv (DL Y Y)<|Z0<|Zn [0,1,2,7,8,22] ?_;refine Zx<|Aw Y (fun hin=>?_) (fun hin=>?_)
 ·
  refine Zq<|Zg<|Zm Y<|Zm Y<|Ze (Bl (by_:=80) (sz:=10) AV5 (V:Tryz.prog.info? 310=some Tryz.t310) V rfl V rfl Y (hrow) Y (DD 10 g2 1 1 310 (0,0) (Ah [y]) V) Wo Wo (by exact EP _) Ao7 Ao7) ?_;rintro _ _ ⟨sw5,hrw5,rfl⟩;obtain ⟨gw5,cw5,rfl⟩:=hrw5.form;refine Za Y<|Z0<|Zx<|AC<|Zt<|AL V results298 Y (by
   have hin:i=rows.length:=by omega
   subst hin;exact ⟨_,[],BO hrw5 (Sa rows _ (zh _) y).symm (by rw [AA4,AN5,zV,Cu]),rfl⟩)
 obtain ⟨g,cap9,cur,z,hv9,rfl,hle9,hin9⟩:=Ee hrow Ao7;injection hv9 with hv1 hv2 hv3
 subst hv1 hv3;obtain ⟨_,hcs,_,hcm,hfr⟩:=JI hrow;refine AJ<|Zx<|Zq<|Zq<|Zg<|Zm Y<|Zm Y<|Ya Y Y<|Zm Y<|Zv (Q8 AV5 Y)<|Zv (Df Y Y)<|Z0<|Zx<|Aw Y (fun hg=>?_) (fun hg=>?_)
 ·
  refine Zq<|Zg<|Zm Y<|Zm Y<|Bq (CK AV5 AX7 Y Y Ao7)<|Zm Y<|Zm Y<|Ya Y Y<|Zm Y<|Yb Y Y ?_;refine Ze (Ka (by_:=80) (sz:=10) (xs:=Ah (rows.take i)) AV5 AV3 (rfl:Tryz.prog.info? 310=some Tryz.t310) rfl rfl rfl rfl Y Y Wh (Yp hin9 i hi) (by rw [Ay,zN];omega) Ao7 Ao9 Ao7 Ao7 Ao7) ?_;rintro _ _ ⟨s9,hr9,rfl⟩;rw [show i+(rows.length+1 -i)=rows.length+1 by omega]at hr9;have hAl:=hr9.1
  obtain ⟨g3,cap3,cur3,z3,rfl,rfl,hle3,hin3⟩:=Ee hr9 Ao7;obtain ⟨_,hcs3,_,hcm3,hfr3⟩:=JI hr9;refine Za Y<|Z0<|Zn [0,1,2,7,9] ?_;refine Zx<|Zq<|Zg<|Zm Y<|Zm Y ?_
  (refine Bq (Bh AV5 AX7 Y Y ?_ ?_) ?_;(focus (omega));(focus (omega)))
  refine Zm Y<|Xe (JC (cs:=Ah [y]) AV5 AX7 Y Y Wh Wo ((rfl:CE (#[I4 y.l.t,I4 y.l.k,I4 y.l.v.a,I4 y.l.v.b,I4 y.l.v.c,I4 y.r.t,I4 y.r.k,I4 y.r.v.a,I4 y.r.v.b,I4 y.r.v.c]:Array Value) 0 (Ah [y]))) (by rw [Ay,zU];omega) (by rw [Ay,zU];omega) (hfr3) (EP _)) ?_;refine Z0<|Zx<|Zq<|Az (n:=9) (0::0::0::6::15::0::0::96::255::[]) 256 Ao8 Ao8 V<|An9 0 V (AP Y)<|An9 1 V (AP Y)<|An9 2 V (AP Y)<|An9 3 V (Ei Y Y Ao7) ?_
  (refine Ev (D':=31) 4 (Bh AV5 AX7 Y Y ?_ ?_) ?_;(focus (omega));(focus (omega)))
  refine An9 5 V (AP Y)<|An9 6 V (AP Y) ?_
  (refine Ev (D':=255) 7 (Bh AV5 AX7 Y Y ?_ ?_) ?_;(focus (omega));(focus (omega)))
  refine Yw 8 511 rfl (JC (cs:=Ah (rows.drop i)) AV5 AX7 Y Y Wh Wo (QF hin9 i hi) (by rw [Ay,zO];omega) (by rw [Ay,zO,Fp (by rw [Ay,zU];omega)];omega) (by rw [Fp (by rw [Ay,zU];omega)];exact hfr3) (EP _)) ?_;rintro _ _ ⟨rfl,rfl⟩;refine Ag<|Zn [9] ?_;refine Zx<|Zq<|Zg<|Zm Y<|Za Y<|Z0<|Zx<|AC<|Zt<|AL V results298 Y (by
   refine ⟨_,[(g,.cells cur 310 z)],BO (Dy (i:=0+(i+1)*10) (ys:=Ah (rows.drop i)) (Dy (i:=0+i*10) (ys:=Ah [y]) hr9 (by rw [hAl,Ay,zU];omega)) ?_) (Sa rows i hi y).symm ?_,rfl⟩
   · simp only [zG,zN,zO,hAl,Ay,zU];omega
   · rw [jO hAl hi (by rw [Ay];rfl) (by rw [Ay,zO]),AC3 (by rw [Ay,zN];omega),<-FN,UG])
 refine AJ<|Zx<|Zq ?_;obtain ⟨ys9,hyl9,hrM⟩:=UH hrow (rows.length+1) Ao7 Ao7;have hAl:=hrM.1
 refine Zg<|Zm Y<|Zm Y<|Zm Y<|Ya Y Y ?_;refine Bq (CK AV5 AX7 Y Y Ao7)<|Za Y<|Z0<|Zx<|Zq<|Zq<|vO (s1:=[(g2,_)]) (s2:=[(g,_)]) (a:=g2) (b:=g) Wo Wo (zI.2 V) (zI.2 V) (fun hne9=>?_);refine Zg<|Zm Y<|Zm Y<|Zm Y<|Zm Y<|Ya Y Y ?_
 (refine Bq (Bh AV5 AX7 Y Y ?_ ?_) ?_;(focus (omega));(focus (omega)))
 refine CW (cs:=[(g2,.cells #[I4 y.l.t,I4 y.l.k,I4 y.l.v.a,I4 y.l.v.b,I4 y.l.v.c,I4 y.r.t,I4 y.r.k,I4 y.r.v.a,I4 y.r.v.b,I4 y.r.v.c] 310 (0,0)),(g,.cells cur 310 z)]) Ap0 (Rw (tR:=4) func328 Ao8 Ao8 Ao8 Ao8 AV5 AX7 Y hne9 Ao7) V rfl ?_;refine Zv (Br Y)<|Z0<|Zn [0,1,2,7,8,68] ?_;refine Zx<|AR Y (fun hb9=>?_) (fun hb9=>?_)
 ·
  refine Zq<|Az (n:=9) (0::0::0::6::15::0::0::96::255::[]) 256 Ao8 Ao8 V<|An9 0 V (AP Y)<|An9 1 V (AP Y)<|An9 2 V (AP Y)<|An9 3 V (Ei Y Y Ao7) ?_
  (refine Ev (D':=31) 4 (Bh AV5 AX7 Y Y ?_ ?_) ?_;(focus (omega));(focus (omega)))
  refine An9 5 V (AP Y)<|An9 6 V (AP Y) ?_
  (refine Ev (D':=255) 7 (Bh AV5 AX7 Y Y ?_ ?_) ?_;(focus (omega));(focus (omega)))
  refine Yw 8 511 rfl (JC (cs:=Ah (rows.drop i)) AV5 AX7 Y Y Wh Wo (QF hin9 i hi) (by rw [Ay,zO];omega) (by rw [Ay,zO];omega) (hfr) (EP _)) ?_;rintro _ _ ⟨rfl,rfl⟩;refine Ag<|Zx<|Zq<|Zg<|Zm Y<|Zm Y ?_
  (refine Bq (Bh AV5 AX7 Y Y ?_ ?_) ?_;(focus (omega));(focus (omega)))
  refine Zm Y<|Xe (JC (cs:=Ah [y]) AV5 AX7 Y Y Wh Wo ((rfl:CE (#[I4 y.l.t,I4 y.l.k,I4 y.l.v.a,I4 y.l.v.b,I4 y.l.v.c,I4 y.r.t,I4 y.r.k,I4 y.r.v.a,I4 y.r.v.b,I4 y.r.v.c]:Array Value) 0 (Ah [y]))) (by rw [Ay,zU];omega) (by rw [Ay,zU,Fp (by rw [Ay,zO];omega)];omega) (by rw [Fp (by rw [Ay,zO];omega)];exact hfr) (EP _)) ?_;refine Z0<|Zn [0] ?_;refine Zx<|Zq<|Zg<|Zm Y<|Za Y<|Z0<|Zx<|AC<|Zt<|AL V results298 Y (by
   refine ⟨_,[],BO (Dy (i:=0+i*10) (ys:=Ah [y]) (Dy (i:=0+(i+1)*10) (ys:=Ah (rows.drop i)) hrM (by rw [hAl,Ay,zO];omega)) ?_) (Sa rows i hi y).symm ?_,rfl⟩
   · simp only [zG,zN,zO,Ay,hyl9,zU];omega
   · rw [bY hAl hi (by rw [Ay];rfl) (by rw [Ay,zO]),AE3 (by rw [Ay];omega),UG])
 cases hb9
def OT(pd:BS->Bool)(rows:List BS)(y:BS):List BS:=rows.take ((rows.findIdx? pd).getD rows.length)++[y]++rows.drop ((rows.findIdx? pd).getD rows.length)
theorem jP(pd:BS->Bool)(rows:List BS)(y:BS):(OT pd rows y).length=rows.length+1:=by
 unfold OT;simp only [zG,zN,zO,zU];omega
theorem oW(pd:BS->Bool)(rows:List BS):(GV pd rows<0/\(rows.findIdx? pd).getD rows.length=rows.length)\/∃i:Nat,i<=rows.length/\GV pd rows=(i:Int)/\(rows.findIdx? pd).getD rows.length=i:=by
 unfold GV;cases h:rows.findIdx? pd with
 |none=>exact .inl ⟨by simp,rfl⟩
 |some i=>
  obtain ⟨h1,_,_⟩:=AC5.1 h;exact .inr ⟨i,by omega,V,V⟩
theorem MW(hv:TL A v rows)(hn:rows.length<=1000000000)(fid:Nat)(us:List Value)(pd:BS->Bool)(hcf:∀(args:Array Value) (w:World),(callFunc fid args).run Tryz.prog w= .ok (.enter fid args) w)(hf:∀x:BS,BJ Tryz.prog fid (.agg #[I4 x.l.t,I4 x.l.k,I4 x.l.v.a,I4 x.l.v.b,I4 x.l.v.c,I4 x.r.t,I4 x.r.k,I4 x.r.v.a,I4 x.r.v.b,I4 x.r.v.c]::us).toArray [B] (.bool (pd x))):BR Tryz.prog 258 #[v,.func (.func fid) #[] us.toArray] [A,B] (fun r H'=>∃s,BZ 10 310 r (rows.filter fun x=>!pd x).length (Ah (rows.filter fun x=>!pd x)) s/\H'=[s,A,B]):=by
 obtain ⟨p,cap,rfl,_⟩:=id hv;refine Se func258 ntmps258 [0,1] ?_;intro u R;refine Zq<|Zg<|Za Y<|Z0<|Zx<|Zq<|Zg<|Zm Y<|Zc [_] Y call297 Y V (Ve hv Ao7) ?_;rintro _ _ ⟨_,⟨s1,h1,rfl⟩,rfl⟩;obtain ⟨g1,c1,rfl⟩:=h1.form;refine Zm Y<|Zc [_,_] Y call296 Y V (WF h1 hn fid us pd hcf hf) ?_;rintro _ _ ⟨_,⟨s2,h2,rfl⟩,rfl⟩;obtain ⟨g2,c2,rfl⟩:=h2.form;refine Za Y<|Z0<|Zx<|AC<|AL V results258 Y (by exact ⟨_,h2,V⟩)
theorem SY(hrow:BZ 10 310 v rows.length (Ah rows) s)(hn:rows.length<=1000000000)(y:BS)(fid:Nat)(us:List Value)(pd:BS->Bool)(hcf:∀(args:Array Value) (w:World),(callFunc fid args).run Tryz.prog w= .ok (.enter fid args) w)(hf:∀x:BS,BJ Tryz.prog fid (.agg #[I4 x.l.t,I4 x.l.k,I4 x.l.v.a,I4 x.l.v.b,I4 x.l.v.c,I4 x.r.t,I4 x.r.k,I4 x.r.v.a,I4 x.r.v.b,I4 x.r.v.c]::us).toArray [B] (.bool (pd x))):BR Tryz.prog 263 #[v,.agg #[I4 y.l.t,I4 y.l.k,I4 y.l.v.a,I4 y.l.v.b,I4 y.l.v.c,I4 y.r.t,I4 y.r.k,I4 y.r.v.a,I4 y.r.v.b,I4 y.r.v.c],.func (.func fid) #[] us.toArray] [s,B] (fun r H'=>∃s' s2,BZ 10 310 r (OT pd rows y).length (Ah (OT pd rows y)) s'/\H'=[s',s2,B]):=by
 have hml:=mL;obtain ⟨p,cap,rfl⟩:=hrow.form;have hU:=N7 hrow Ao7
 refine Se func263 ntmps263 [0,1,2] ?_;intro u R;refine Zq<|Zg<|Ze (Bx #[_,_,_,_,_,_,_,_,_,_]) ?_;rintro _ _ ⟨bx,rfl,rfl⟩;refine Za Y<|Z0<|Zx<|Zq<|Zg<|Zm Y<|Zm Y<|Xr [_,_] Y call261 Y V (La hU fid us pd hcf hf) ?_;obtain ⟨z9,hz9⟩:∃z,z=GV pd rows:=⟨_,rfl⟩;rw [<-hz9];have hcs9:=oW pd rows
 rw [<-hz9]at hcs9;refine Za Y<|Z0<|Zx<|Zb [7,0,4] ?_;refine Ea (e0:=[(7,_)]) (H0:=[]) (fun e H=>∃(i:Nat),(i<=rows.length/\(rows.findIdx? pd).getD rows.length=i)/\e=[(7,I4 (i:Int))]/\H=[]) Wp ?hx_1 ?hy_1
 case hx_1=>
  refine Zq<|Zg<|Zm Y<|Zv (Dq Y Y)<|Z0<|Zx<|Aw Y (fun hlt=>?_) (fun hlt=>?_)
  ·
   refine Zg<|Zm Y<|Zv (Aa AV5 Y)<|Za Y<|Z0<|Zn [7,0,4] ?_;refine Bi (e':=[(7,_)]) (by exact ⟨rows.length,⟨zh _,by rcases hcs9 with⟨_,h⟩|⟨i,h1,h2,h3⟩;exact h;omega⟩,rfl,rfl⟩)
  rcases hcs9 with⟨h9,_⟩|⟨i,h1,h2,h3⟩
  · exact absurd h9 hlt
  subst h2;refine AJ<|Zn [7,0,4] ?_;refine Bi (e':=[(7,_)]) (by exact ⟨i,⟨h1,h3⟩,V,V⟩)
 rintro _ _ ⟨i,⟨hi,hgi⟩,rfl,rfl⟩;refine Zq<|Zg<|Zm Y<|Zm Y<|Zo Wh (Pa #[_,_,_,_,_,_,_,_,_,_] isAgg310 AX7 Y) ?_;refine Ze (Af (vs:=[_]) (cs:=[_,_,_,_,_,_,_,_,_,_]) AV5 AX7 Ag9 Y V rfl V rfl V) ?_;rintro _ _ ⟨gy,rfl,rfl⟩;refine Zc [_,_,_] Y call298 Y V (Vx hrow hn i hi y gy) ?_;rintro _ _ ⟨_,⟨s3,s4,h3,rfl⟩,rfl⟩;obtain ⟨g3,c3,rfl⟩:=h3.form;refine Za Y<|Z0<|Zx<|AC<|AL rfl results263 Y (by exact ⟨_,s4,by unfold OT;rw [hgi];exact h3,rfl⟩)
def Gd(k:Int)(p:BS):Bool:=decide (p.r.k=k)
def Pb(k:Int)(p:BS):Bool:=decide (p.l.k=k)
def EZ(rows:List AQ):List BS:=(List.range (rows.length/2)).map fun k=>⟨rows.getD (2*k) AQ.zero,rows.getD (2*k+1) AQ.zero⟩
def D8(ps:List BS):List AQ:=ps.flatMap fun p=>[p.l,p.r]
def jnT(q:QM)(c:Chg)(ps:List BS):List BS×Bool:=
 if c.t=q.ot then
  (if c.has then(ps.map fun p=>if Gd c.k p then⟨p.l,⟨c.t,c.k,c.n⟩⟩else p,c.had)else(ps.filter fun p=>!Gd c.k p,c.had))
 else match afQ q c with
  |none=>(ps.filter fun p=>!Pb c.k p,true)
  |some y=>if GV (Gd (mQ q (afQ q c))) ps<0 then(ps.filter fun p=>!Pb c.k p,(bfQ q c).isSome&&decide (mQ q (bfQ q c)=mQ q (afQ q c)))
   else(OT (fun p=>Jz q y p.l) (ps.filter fun p=>!Pb c.k p) ⟨y,(ps.getD (GV (Gd (mQ q (afQ q c))) ps).toNat ⟨AQ.zero,AQ.zero⟩).r⟩,true)
def Cs(q:QM)(c:Chg)(r:Bw):Bw×Bool:=if q.tb=q.ot then(r,false)else(⟨D8 (jnT q c (EZ r.rows)).1,r.val,r.fnd⟩,(jnT q c (EZ r.rows)).2)
theorem Jo(rows:List AQ):(EZ rows).length=rows.length/2:=by unfold EZ;rw [zH,AJ4]
theorem mo{rows:List AQ}{x y:AQ}(hx:rows[2*k]?=some x)(hy:rows[2*k+1]?=some y):(EZ rows)[k]?=some ⟨x,y⟩:=by
 have h:=(zF.1 hy).1;unfold EZ;rw [zY,AH5 Ao7,AG6,AB5,AB5,hx,hy];rfl
theorem Ha:∀ps:List BS,(D8 ps).length=2*ps.length
 |[]=>rfl
 |p::ps=>by
  have:=Ha ps;unfold D8 at*;rw [AB2,zG,this,ze];simp;omega
variable{ps:List BS}{p:BS}
theorem RU(h:ps[k]?=some p):D8 (ps.take (k+1))=D8 (ps.take k)++[p.l,p.r]:=by
 unfold D8;rw [Bc h,AE2,AP3]
theorem fE(q:QM)(c:Chg)(ps:List BS):(jnT q c ps).1.length<=ps.length+1:=by
 have h1:=AD3 (fun p=>!Gd c.k p) ps;have h2:=AD3 (fun p=>!Pb c.k p) ps
 unfold jnT;split
 · split
   · simp only [zH];omega
   · simp only;omega
 · split
   · simp only;omega
   · split
     · simp only;omega
     · simp only [jP];omega
theorem uC(q:QM)(c:Chg)(p1 p2:Option Addr)(o n:Int)(be:Nat)(x:BS):BJ Tryz.prog 259 #[.agg #[I4 x.l.t,I4 x.l.k,I4 x.l.v.a,I4 x.l.v.b,I4 x.l.v.c,I4 x.r.t,I4 x.r.k,I4 x.r.v.a,I4 x.r.v.b,I4 x.r.v.c],I5 be] [[(be,.cells #[I4 q.kd,I4 q.tb,I4 q.cl,I4 q.lo,I4 q.hi,I4 q.bq,I4 q.ot,I4 c.t,I4 c.k,.bool c.had,I4 c.o.a,I4 c.o.b,I4 c.o.c,.bool c.has,I4 c.n.a,I4 c.n.b,I4 c.n.c,.pointer p1,.pointer p2,I4 o,I4 n] 167 (0,0))]] (.bool (Gd c.k x)):=by
 refine Se func259 ntmps259 [0,1] ?_;intro u R;refine Zq<|Zg<|Ze (Bx #[I4 x.l.t,I4 x.l.k,I4 x.l.v.a,I4 x.l.v.b,I4 x.l.v.c,I4 x.r.t,I4 x.r.k,I4 x.r.v.a,I4 x.r.v.b,I4 x.r.v.c]) ?_;rintro _ _ ⟨bx,rfl,rfl⟩;refine Za Y<|Z0<|Zx<|Zq<|Zg<|Zh 5 Ab4 V rfl AU5 Y<|Zv (Ar (off:=1) AX4 V rfl AU1 Y)<|Zl AU2 Y ?_;refine Zh 7 AU7 V rfl AW4 Y<|Zv (Ar (off:=1) AV4 V rfl AU1 Y)<|Zl AU2 Y ?_;refine Zv (CL Y Y)<|Za Y<|Z0<|Zx<|AC<|AL V results259 Y (by exact ⟨V,V⟩)
theorem uB(q:QM)(c:Chg)(p1 p2:Option Addr)(o n:Int)(be:Nat)(x:BS):BJ Tryz.prog 260 #[.agg #[I4 x.l.t,I4 x.l.k,I4 x.l.v.a,I4 x.l.v.b,I4 x.l.v.c,I4 x.r.t,I4 x.r.k,I4 x.r.v.a,I4 x.r.v.b,I4 x.r.v.c],I5 be] [[(be,.cells #[I4 q.kd,I4 q.tb,I4 q.cl,I4 q.lo,I4 q.hi,I4 q.bq,I4 q.ot,I4 c.t,I4 c.k,.bool c.had,I4 c.o.a,I4 c.o.b,I4 c.o.c,.bool c.has,I4 c.n.a,I4 c.n.b,I4 c.n.c,.pointer p1,.pointer p2,I4 o,I4 n] 167 (0,0))]] (.bool (Pb c.k x)):=by
 refine Se func260 ntmps260 [0,1] ?_;intro u R;refine Zq<|Zg<|Ze (Bx #[I4 x.l.t,I4 x.l.k,I4 x.l.v.a,I4 x.l.v.b,I4 x.l.v.c,I4 x.r.t,I4 x.r.k,I4 x.r.v.a,I4 x.r.v.b,I4 x.r.v.c]) ?_;rintro _ _ ⟨bx,rfl,rfl⟩;refine Za Y<|Z0<|Zx<|Zq<|Zg<|Zh 0 Ab4 V rfl AU5 Y<|Zv (Ar (off:=1) AX4 V rfl AU1 Y)<|Zl AU2 Y ?_;refine Zh 7 AU7 V rfl AW4 Y<|Zv (Ar (off:=1) AV4 V rfl AU1 Y)<|Zl AU2 Y ?_;refine Zv (CL Y Y)<|Za Y<|Z0<|Zx<|AC<|AL V results260 Y (by exact ⟨V,V⟩)
theorem uA(q:QM)(c:Chg)(p1 p2:Option Addr)(o n:Int)(be:Nat)(x:BS):BJ Tryz.prog 262 #[.agg #[I4 x.l.t,I4 x.l.k,I4 x.l.v.a,I4 x.l.v.b,I4 x.l.v.c,I4 x.r.t,I4 x.r.k,I4 x.r.v.a,I4 x.r.v.b,I4 x.r.v.c],I5 be] [[(be,.cells #[I4 q.kd,I4 q.tb,I4 q.cl,I4 q.lo,I4 q.hi,I4 q.bq,I4 q.ot,I4 c.t,I4 c.k,.bool c.had,I4 c.o.a,I4 c.o.b,I4 c.o.c,.bool c.has,I4 c.n.a,I4 c.n.b,I4 c.n.c,.pointer p1,.pointer p2,I4 o,I4 n] 167 (0,0))]] (.bool (Gd n x)):=by
 refine Se func262 ntmps262 [0,1] ?_;intro u R;refine Zq<|Zg<|Ze (Bx #[I4 x.l.t,I4 x.l.k,I4 x.l.v.a,I4 x.l.v.b,I4 x.l.v.c,I4 x.r.t,I4 x.r.k,I4 x.r.v.a,I4 x.r.v.b,I4 x.r.v.c]) ?_;rintro _ _ ⟨bx,rfl,rfl⟩;refine Za Y<|Z0<|Zx<|Zq<|Zg<|Zh 5 Ab4 V rfl AU5 Y<|Zv (Ar (off:=1) AX4 V rfl AU1 Y)<|Zl AU2 Y ?_;refine Zh 20 AU7 V rfl AU1 Y<|Zl AU2 Y ?_;refine Zv (CL Y Y)<|Za Y<|Z0<|Zx<|AC<|AL V results262 Y (by exact ⟨V,V⟩)
theorem u7(fid:Nat)(us:List Value)(pd:AQ->Bool)(hcf:∀(args:Array Value) (w:World),(callFunc fid args).run Tryz.prog w= .ok (.enter fid args) w)(hf:∀x:AQ,BJ Tryz.prog fid (.agg #[I4 x.t,I4 x.k,I4 x.v.a,I4 x.v.b,I4 x.v.c]::us).toArray [B] (.bool (pd x)))(bb:Nat)(x:BS):BJ Tryz.prog 264 #[.agg #[I4 x.l.t,I4 x.l.k,I4 x.l.v.a,I4 x.l.v.b,I4 x.l.v.c,I4 x.r.t,I4 x.r.k,I4 x.r.v.a,I4 x.r.v.b,I4 x.r.v.c],I5 bb] [[(bb,.cells #[.func (.func fid) #[] us.toArray] 265 (0,0))],B] (.bool (pd x.l)):=by
 refine Se func264 ntmps264 [0,1] ?_;intro u R;refine Zq<|Zg<|Ze (Bx #[I4 x.l.t,I4 x.l.k,I4 x.l.v.a,I4 x.l.v.b,I4 x.l.v.c,I4 x.r.t,I4 x.r.k,I4 x.r.v.a,I4 x.r.v.b,I4 x.r.v.c]) ?_;rintro _ _ ⟨bx,rfl,rfl⟩;refine Za Y<|Z0<|Zx<|Zq<|Zg<|Zl isAgg265 Y ?_;refine Zh 0 Ab4 V rfl AU5 Y<|Zo Wh (AA (cs:=#[I4 x.l.t,I4 x.l.k,I4 x.l.v.a,I4 x.l.v.b,I4 x.l.v.c]) AX3 AU5 Y (by(simp;done)) Ap1) ?_;refine Xr [_] Y (hcf) Y V (hf x.l) ?_;refine Za Y<|Z0<|Zx<|AC<|AL V results264 Y (by exact ⟨V,V⟩)
theorem iG(hp:ps[k]?=some p)(x:AQ):(Ah ps).take (0+k*10+5)++Ac [x]++(Ah ps).drop (0+k*10+5+(Ac [x]).length)=Ah (ps.set k ⟨p.l,x⟩):=by
 have hk:=(zF.1 hp).1;have e:(Ah (ps.take k)).length=k*10:=by rw [Ay,zN];omega
 have ep:Ah [p]=Ac [p.l]++Ac [p.r]:=rfl;have h5:∀r:AQ,(Ac [r]).length=5:=fun r=>rfl
 have e1:Ah ps=(Ah (ps.take k)++Ac [p.l])++(Ac [p.r]++Ah (ps.drop (k+1))):=by
  rw [R7 hp,ep];simp
 have e2:(Ah (ps.take k)++Ac [p.l]).length=0+k*10+5:=by rw [zG,e,h5];omega
 rw [e1,AC3 e2,h5,<-AL0,AJ7 e2,AJ7 (h5 p.r),AJ0,Am7 hk];have e3:Ah (ps.take k++⟨p.l,x⟩::ps.drop (k+1))=Ah (ps.take k)++(Ah [⟨p.l,x⟩]++Ah (ps.drop (k+1))):=by
  rw [<-Cu,<-Cu];rfl
 rw [e3,show Ah [⟨p.l,x⟩]=Ac [p.l]++Ac [x] from rfl];simp
theorem Pv(hin:CE cur 0 (Ah ps))(hp:ps[k]?=some p):cur[0+k*10+5+1]?=some (I4 p.r.k)/\0+k*10+5+5<=cur.size/\cur.extract (0+k*10+5) (0+k*10+5+5)=#[I4 p.r.t,I4 p.r.k,I4 p.r.v.a,I4 p.r.v.b,I4 p.r.v.c]:=by
 have hat:∀j u,j<10->(Ah [p])[j]?=some u->cur[k*10+j]?=some u:=fun j u hj hu=>by
  have:=hin.get (k*10+j) u ((IV hp j hj).trans hu);rwa [zo]at this
 have h6:=hat 6 _ Ao9 rfl;have h9:=hat 9 _ Ao9 rfl
 have hsz:k*10+9<cur.size:=(zw.1 h9).1;refine ⟨by rw [show 0+k*10+5+1=k*10+6 by omega];exact h6,by omega,?_⟩;apply AB8.1;apply AD5;intro j;rw [AA3,AK6];split
 · rename_i hj
   have hj5:j<5:=by omega
   obtain ⟨u,hu⟩:∃u,(Ac [p.r])[j]?=some u:=⟨_,zD (by rw [BB];simpa using hj5)⟩;have h2:=hat (5+j) u Ao7 (by
    rw [show Ah [p]=Ac [p.l]++Ac [p.r] from rfl,AC1 (by rw [BB];simp),BB];rw [show 5+j - [p.l].length*5=j by simp];exact hu)
   rw [show 0+k*10+5+j=k*10+(5+j) by omega,h2];exact hu.symm
 · rw [AC7]
   show(Ac [p.r]).length<=j;rw [BB];simp only [zU];omega
def NH(c:Chg)(ps:List BS)(i:Nat):List BS:=(ps.take i).map (fun p=>if Gd c.k p then⟨p.l,⟨c.t,c.k,c.n⟩⟩else p)++ps.drop i
theorem nk(c:Chg)(ps:List BS)(i:Nat)(hi:i<=ps.length):(NH c ps i).length=ps.length:=by
 unfold NH;simp only [zG,zH,zN,zO];omega
variable{c:Chg}
theorem Vm(hp:ps[i]?=some p):(NH c ps i)[i]?=some p:=by
 have hi:=(zF.1 hp).1;unfold NH;rw [AC1 (by rw [zH,zN];omega),zH,zN,AG8 Ao7,AL5,AE1,AH6,hp]
theorem Uj(hp:ps[i]?=some p):NH c ps (i+1)=(NH c ps i).set i (if Gd c.k p then⟨p.l,⟨c.t,c.k,c.n⟩⟩else p):=by
 have hi:=(zF.1 hp).1;have hl:((ps.take i).map (fun p=>if Gd c.k p then(⟨p.l,⟨c.t,c.k,c.n⟩⟩:BS)else p)).length=i:=by rw [zH,zN];omega
 unfold NH;rw [Bc hp,zK,AM9 (h:=by omega),hl,AL5];obtain ⟨_,rfl⟩:=zF.1 hp;rw [AD0 hi,List.set_cons_zero];simp
theorem lS(hp:ps[i]?=some p):ps.set i p=ps:=by
 obtain ⟨hi,rfl⟩:=zF.1 hp;exact List.set_getElem_self hi
theorem wP(fid:Nat)(us:List Value)(pd:AQ->Bool)(hcf:∀(args:Array Value) (w:World),(callFunc fid args).run Tryz.prog w= .ok (.enter fid args) w)(hf:∀x:AQ,BJ Tryz.prog fid (.agg #[I4 x.t,I4 x.k,I4 x.v.a,I4 x.v.b,I4 x.v.c]::us).toArray [B] (.bool (pd x)))(bb:Nat)(x:BS):BJ Tryz.prog 264 (.agg #[I4 x.l.t,I4 x.l.k,I4 x.l.v.a,I4 x.l.v.b,I4 x.l.v.c,I4 x.r.t,I4 x.r.k,I4 x.r.v.a,I4 x.r.v.b,I4 x.r.v.c]::([I5 bb]:List Value)).toArray [[(bb,.cells #[.func (.func fid) #[] us.toArray] 265 (0,0))]++B] (.bool (pd x.l)):=by
 refine GY (u7 fid us pd hcf hf bb x) Ap0 ?_;rintro r H' ⟨rfl,rfl⟩;exact ⟨_,⟨V,V⟩,by simp⟩
variable{q:QM}
theorem Vu{p1 p2:Option Addr}{be:Nat}{f:BS->Bool}{fn:Nat}(h:∀x,BJ Tryz.prog fn #[.agg #[I4 x.l.t,I4 x.l.k,I4 x.l.v.a,I4 x.l.v.b,I4 x.l.v.c,I4 x.r.t,I4 x.r.k,I4 x.r.v.a,I4 x.r.v.b,I4 x.r.v.c],I5 be] [[(be,.cells #[I4 q.kd,I4 q.tb,I4 q.cl,I4 q.lo,I4 q.hi,I4 q.bq,I4 q.ot,I4 c.t,I4 c.k,.bool c.had,I4 c.o.a,I4 c.o.b,I4 c.o.c,.bool c.has,I4 c.n.a,I4 c.n.b,I4 c.n.c,.pointer p1,.pointer p2,I4 (mQ q (bfQ q c)),I4 (mQ q (afQ q c))] 167 (0,0))]] (.bool (f x)))(x:BS):BJ Tryz.prog fn (.agg #[I4 x.l.t,I4 x.l.k,I4 x.l.v.a,I4 x.l.v.b,I4 x.l.v.c,I4 x.r.t,I4 x.r.k,I4 x.r.v.a,I4 x.r.v.b,I4 x.r.v.c]::([I5 be]:List Value)).toArray [[(be,.cells #[I4 q.kd,I4 q.tb,I4 q.cl,I4 q.lo,I4 q.hi,I4 q.bq,I4 q.ot,I4 c.t,I4 c.k,.bool c.had,I4 c.o.a,I4 c.o.b,I4 c.o.c,.bool c.has,I4 c.n.a,I4 c.n.b,I4 c.n.c,.pointer p1,.pointer p2,I4 (mQ q (bfQ q c)),I4 (mQ q (afQ q c))] 167 (0,0))]] (.bool (f x)):=h x
theorem uK(h:c.has=true):Dt c c.has c.n=⟨c.t,c.k,c.n⟩:=by unfold Dt;rw [Am7 h]
theorem nu(c:Chg)(ps:List BS):NH c ps ps.length=ps.map fun p=>if Gd c.k p then⟨p.l,⟨c.t,c.k,c.n⟩⟩else p:=by unfold NH;rw [AA4,AN5,zV]
variable{s2:List A8}
set_option maxHeartbeats 1000000 in
theorem bW(q:QM)(hcl:0<=q.cl/\q.cl<=3)(c:Chg)(p1 p2:Option Addr)(e1:p1.isSome=(bfQ q c).isSome)(h2:II p2 (afQ q c) s2){sl:List A8}(hl:BZ 10 310 v ps.length (Ah ps) sl)(hn:ps.length<=100000000):BR Tryz.prog 209 #[.agg #[I4 q.kd,I4 q.tb,I4 q.cl,I4 q.lo,I4 q.hi,I4 q.bq,I4 q.ot,I4 c.t,I4 c.k,.bool c.had,I4 c.o.a,I4 c.o.b,I4 c.o.c,.bool c.has,I4 c.n.a,I4 c.n.b,I4 c.n.c,.pointer p1,.pointer p2,I4 (mQ q (bfQ q c)),I4 (mQ q (afQ q c))],v] [sl,s2] (fun w H'=>∃v' s',w= .tuple #[v',.bool (jnT q c ps).2]/\BZ 10 310 v' (jnT q c ps).1.length (Ah (jnT q c ps).1) s'/\H'=[s']):=by
 have hml:=mL;obtain ⟨pl,capl,rfl⟩:=hl.form;have hU:=N7 hl Ao7
 have hfl:(ps.filter fun p=>!Pb c.k p).length<=ps.length:=AD3 _ _;refine Se func209 ntmps209 [0,1] ?_;intro u R;refine Zq<|Zg<|Ze (EX Y (cs:=#[I4 q.kd,I4 q.tb,I4 q.cl,I4 q.lo,I4 q.hi,I4 q.bq,I4 q.ot,I4 c.t,I4 c.k,.bool c.had,I4 c.o.a,I4 c.o.b,I4 c.o.c,.bool c.has,I4 c.n.a,I4 c.n.b,I4 c.n.c,.pointer p1,.pointer p2,I4 (mQ q (bfQ q c)),I4 (mQ q (afQ q c))]) (Fe q c p1 p2 (mQ q (bfQ q c)) (mQ q (afQ q c)))) ?_;rintro _ _ ⟨be,rfl,rfl⟩;refine Za Y<|Za Y<|Z0<|Zx<|Zq<|Zq<|Zg<|Zh 7 AU7 V rfl AW4 Y<|Zv (Ar (off:=0) AV4 V rfl AU1 Y)<|Zl AU2 Y ?_;refine Zh 0 AU7 V rfl AV8 Y<|Zv (Ar (off:=6) AU9 V rfl AU1 Y)<|Zl AU2 Y ?_;refine Zv (CL Y Y)<|Z0<|Zx<|Aw Y (fun hot=>?_) (fun hot=>?_)
 ·
  refine Zq<|Zg<|Zh 7 AU7 V rfl AW4 Y<|Zo Wh (AA (cs:=#[I4 c.t,I4 c.k,.bool c.had,I4 c.o.a,I4 c.o.b,I4 c.o.c,.bool c.has,I4 c.n.a,I4 c.n.b,I4 c.n.c]) Aa3 AW4 Y (by(simp;done)) Ap1) ?_;refine Xr [_] Y call142 Y V (O0 c) ?_;obtain ⟨y9,hy9⟩:∃y,y=Dt c c.has c.n:=⟨_,rfl⟩;rw [<-hy9];refine Zm Y<|Zd Y V<|Zd Y V<|Ze (Al AW7 #[_,_,_,_,_]) ?_;rintro _ _ ⟨by9,rfl,rfl⟩;refine Xe (Xw AU5 #[I4 y9.t,I4 y9.k,I4 y9.v.a,I4 y9.v.b,I4 y9.v.c]) ?_;refine Za Y<|Z0<|Zn [1,2,6,7] ?_;refine Zx<|Zq<|Zq<|Zg<|Zm Y<|Zv (Br Y)<|Z0<|Zx<|AR Y (fun hh=>?_) (fun hh=>?_)
  ·
   have hh9:c.has=false:=by simpa using hh
   refine Zq<|Az (n:=8) (0::0::3::0::8::24::7::127::[]) 4 Ao8 Ao8 V<|An9 0 V (AP Y)<|An9 1 V (Bb (vs:=[]) (us:=[_]) Y Y)<|An9 3 V (AB (off:=7) AU7 V rfl AW4 Y)<|An9 4 V (Ar (off:=2) AV4 V rfl AX8 Y)<|Ao0 5 V Ab8 Y ?_;refine Zz (l:=[2])<|Ao5 [true] [(5,(_,_))] V rfl (Zw [_,_] Y call258 Y V (MW (B:=[(be,.cells #[I4 q.kd,I4 q.tb,I4 q.cl,I4 q.lo,I4 q.hi,I4 q.bq,I4 q.ot,I4 c.t,I4 c.k,.bool c.had,I4 c.o.a,I4 c.o.b,I4 c.o.c,.bool c.has,I4 c.n.a,I4 c.n.b,I4 c.n.c,.pointer p1,.pointer p2,I4 (mQ q (bfQ q c)),I4 (mQ q (afQ q c))] 167 (0,0))]) hU Ao7 259 [I5 be] (Gd c.k) call259 (Vu fun x=>uC q c p1 p2 (mQ q (bfQ q c)) (mQ q (afQ q c)) be x))) ?hk_1 Bp ?hl_1
   case hk_1=>
    rintro _ _ ⟨_,⟨s9,h9,rfl⟩,rfl⟩;refine ⟨Zk (AV),?_⟩;obtain ⟨g9,c9,rfl⟩:=h9.form;refine An9 6 V (Aq Y)<|An9 7 V (Aq Y)<|Ag<|Zx<|AC<|Zt<|Zt<|Ci V Aj0 Y Y (by
     have e8:jnT q c ps=(ps.filter fun p=>!Gd c.k p,c.had):=by unfold jnT;rw [Am7 hot,Am6 (by rw [hh9];decide)]
     exact ⟨.slice g9 _ c9,s9,by rw [e8],by rw [e8];exact h9,rfl⟩)
   exact Ae
  have hh9:c.has=true:=by simpa using hh
  rw [uK hh9]at hy9;refine AJ<|Zx<|Zq<|Zq<|Zg<|Zm Y<|Zv (Aa AV5 Y)<|Zm Y<|Z0<|Zx<|AO<|Zb [35,1,2,6,34] ?_;refine BI (e0:=[(35,_)]) (fun m e H=>∃(i:Nat) (sk:List A8),m=ps.length -i/\(i<=ps.length/\BZ 10 310 (.slice pl ps.length capl) ps.length (Ah (NH c ps i)) sk)/\e=[(35,I4 (i:Int))]/\H=[sk]) (by exact ⟨0,sl,V,⟨zT _,hl⟩,V,V⟩) Wp ?_;rintro _ _ _ ⟨i,sk,rfl,⟨hi,hsk⟩,rfl,rfl⟩;refine Zq<|Zg<|Zv (Au Y Y)<|Z0<|Zx<|Zq<|Aw Y (fun hlt=>?_) (fun hlt=>?_)
  ·
   obtain ⟨p,hp⟩:∃p,ps[i]?=some p:=⟨_,zD hlt⟩;obtain ⟨g,cap9,cur,z,hv9,rfl,hle9,hin9⟩:=Ee hsk Ao7;injection hv9 with hv1 hv2 hv3
   subst hv1 hv3;obtain ⟨_,hcs9,_,hcm9,hfr9⟩:=JI hsk;obtain ⟨h6,hsz9,_⟩:=Pv hin9 (Vm hp);refine AJ<|Zx<|Zq<|AO<|Zq<|Zg<|Zm Y<|Za Y<|Z0<|Zx<|Zq<|Az (n:=10) (0::0::3::7::15::31::0::64::192::511::[]) 0 Ao8 Ao8 V<|An9 0 V (AP Y)<|An9 1 V (AP Y)<|An9 2 V (Ai AV5 AX7 Y Y Ao7)<|An9 3 V (Ar (off:=5) Ab4 V rfl AU5 Y)<|An9 4 V (Ar (off:=1) AX4 V rfl AU1 Y)<|Ao0 5 V AU2 Y (hv:=by exact h6) ?_;refine An9 6 V (AB (off:=7) AU7 V rfl AW4 Y)<|An9 7 V (Ar (off:=1) AV4 V rfl AU1 Y)<|Ao0 8 V AU2 Y ?_;refine An9 9 V (CL Y Y)<|Ag<|Zn [1,2,6,8,34,35,47] ?_;refine Zx<|Aw Y (fun hk=>?_) (fun hk=>?_)
   ·
    have e9:NH c ps (i+1)=(NH c ps i).set i ⟨p.l,y9⟩:=by rw [Uj hp,Am7 (by unfold Gd;simp [hk]),hy9]
    have hsk2:=BO (xs':=Ah (NH c ps (i+1))) (Dy (i:=0+i*10+5) (ys:=Ac [y9]) hsk (by rw [Ay,BB,zU,nk c ps i hi];omega)) rfl (by rw [e9];exact iG (Vm hp) y9);refine Zg<|Zm Y<|Zm Y<|Zo Wh (AA (cs:=#[I4 y9.t,I4 y9.k,I4 y9.v.a,I4 y9.v.b,I4 y9.v.c]) AX3 AU5 Y (by(simp;done)) Ap1) ?_;refine Bq (Ai AV5 AX7 Y Y Ao7)<|Zv (Ar (off:=5) Ab4 rfl rfl AU5 Y)<|Xe (BK AU5 Y Y Ap9 Wu (by exact (rfl:_=Dp cur (0+i*10+5) (Ac [y9]))) Ap3 Ao7 (by exact hfr9)) ?_;refine Z0<|A9<|Zx<|Zg<|Ya (n:=1) Y Y<|Zm Y<|Z0<|Zn [35,1,2,6,34] ?_;refine Ad (e':=[(35,_)]) (by exact ⟨i+1,_,V,⟨by omega,hsk2⟩,V,V⟩)
   have e9:NH c ps (i+1)=NH c ps i:=by rw [Uj hp,Am6 (by unfold Gd;simp [hk]),lS (Vm hp)]
   have hsk2:=hsk;rw [<-e9]at hsk2;refine AJ<|A9<|Zx<|Zg<|Ya (n:=1) Y Y<|Zm Y<|Z0<|Zn [35,1,2,6,34] ?_;refine Ad (e':=[(35,_)]) (by exact ⟨i+1,_,V,⟨by omega,hsk2⟩,V,V⟩)
  have ei:i=ps.length:=by omega
  subst ei;rw [nu]at hsk;refine BG<|Zt<|Zt<|AX<|Zx<|Zq<|Az (n:=6) (0::0::2::6::1::31::[]) 0 Ao8 Ao8 V<|An9 0 V (AP Y)<|An9 1 V (AB (off:=7) AU7 V rfl AW4 Y)<|An9 2 V (Ar (off:=2) AV4 V rfl AX8 Y)<|Ao0 3 V Ab8 Y ?_;refine An9 4 V (Aq Y)<|An9 5 V (Aq Y)<|Ag<|Zx<|AC<|Zt<|Ci V Aj0 Y Y (by
   have e8:jnT q c ps=(ps.map fun p=>if Gd c.k p then⟨p.l,⟨c.t,c.k,c.n⟩⟩else p,c.had):=by unfold jnT;rw [Am7 hot,Am7 hh9]
   exact ⟨.slice pl ps.length capl,sk,by rw [e8],by rw [e8];exact BO hsk (zH _).symm rfl,rfl⟩)
 refine AJ<|Zx<|Zq<|Zg<|Zm Y<|Zv (Bb (vs:=[]) (us:=[_]) Y Y)<|Zc [_,_] Y call258 Y V (MW (B:=[(be,.cells #[I4 q.kd,I4 q.tb,I4 q.cl,I4 q.lo,I4 q.hi,I4 q.bq,I4 q.ot,I4 c.t,I4 c.k,.bool c.had,I4 c.o.a,I4 c.o.b,I4 c.o.c,.bool c.has,I4 c.n.a,I4 c.n.b,I4 c.n.c,.pointer p1,.pointer p2,I4 (mQ q (bfQ q c)),I4 (mQ q (afQ q c))] 167 (0,0))]) hU Ao7 260 [I5 be] (Pb c.k) call260 (Vu fun x=>uB q c p1 p2 (mQ q (bfQ q c)) (mQ q (afQ q c)) be x)) ?_;rintro _ _ ⟨_,⟨s9,h9,rfl⟩,rfl⟩;obtain ⟨g9,c9,rfl⟩:=h9.form;refine Za Y<|Z0<|Zn [1,2,9] ?_;refine Zx<|Zq<|Zq<|Zg<|Zh 18 AU7 V rfl Aa4 Y<|Zl Ae0 Y ?_;refine Zv (NF Aa2 Y Y)<|Z0<|Zx<|AR Y (fun hp2=>?_) (fun hp2=>?_)
 ·
  have hy:afQ q c=none:=by have h8:=h2.some_;cases h7:afQ q c with|none=>rfl|some y=>(rw [h7]at h8;cases p2<;>simp at hp2 h8)
  refine Zq<|Zg<|Zm Y<|Za Y<|Za Y<|Z0<|Zx<|AC<|Zt<|Ci V Aj0 Y Y (by
   have e8:jnT q c ps=(ps.filter fun p=>!Pb c.k p,true):=by unfold jnT;rw [Am6 hot,hy]
   exact ⟨.slice g9 _ c9,s9,by rw [e8],by rw [e8];exact h9,rfl⟩)
 obtain ⟨y,hy⟩:∃y,afQ q c=some y:=AK2.1 (by rw [<-h2.some_];cases p2<;>simp at hp2⊢);rw [hy]at h2;obtain ⟨b2,rfl,rfl⟩:=h2;refine AJ<|Zx<|Zq<|Zg<|Zm Y<|Zv (Bb (vs:=[]) (us:=[_]) Y Y)<|Xr [_,_] Y call261 Y V (La (B:=[(be,.cells #[I4 q.kd,I4 q.tb,I4 q.cl,I4 q.lo,I4 q.hi,I4 q.bq,I4 q.ot,I4 c.t,I4 c.k,.bool c.had,I4 c.o.a,I4 c.o.b,I4 c.o.c,.bool c.has,I4 c.n.a,I4 c.n.b,I4 c.n.c,.pointer p1,I5 b2,I4 (mQ q (bfQ q c)),I4 (mQ q (afQ q c))] 167 (0,0))]) hU 262 [I5 be] (Gd (mQ q (afQ q c))) call262 (Vu fun x=>uA q c p1 (some ⟨b2,0,none⟩) (mQ q (bfQ q c)) (mQ q (afQ q c)) be x)) ?_;have hcs9:=Sc (Gd (mQ q (afQ q c))) ps
 obtain ⟨z9,hz9⟩:∃z,z=GV (Gd (mQ q (afQ q c))) ps:=⟨_,rfl⟩;rw [<-hz9]at hcs9⊢;refine Za Y<|Z0<|Zx<|Zq<|Zq<|Zg<|Zm Y<|Zv (Dq Y Y)<|Z0<|Zx<|Aw Y (fun hlt=>?_) (fun hlt=>?_)
 ·
  have e8:jnT q c ps=(ps.filter fun p=>!Pb c.k p,(bfQ q c).isSome&&decide (mQ q (bfQ q c)=mQ q (afQ q c))):=by unfold jnT;rw [Am6 hot];split;rename_i h7;rw [hy]at h7;cases h7;rw [Am7 (by rw [<-hz9];exact hlt)]
  refine Zq<|Az (n:=13) (0::0::2::6::14::30::62::30::158::510::1022::31::4095::[]) 0 Ao8 Ao8 V<|An9 0 V (AP Y)<|An9 1 V (AB (off:=17) AU7 V rfl Aa4 Y)<|Ao0 2 V Ae0 Y ?_;refine An9 3 V (ET Aa2 Y Y)<|An9 4 V (AP Y)<|Cf (t:=74) Y (fun h1=>?_) (fun h1=>?_)
  ·
   rw [h1];refine Ao2 5 V (AB (off:=19) AU7 V rfl AU1 Y)<|Ao3 6 V Wh (BX AU2 Y Ap1) ?_;refine Ao2 7 V (AB (off:=20) AU7 V rfl AU1 Y)<|Ao3 8 V Wh (BX AU2 Y Ap1) ?_;refine Ao2 9 V (CL Y Y)<|An9 10 V (AZ Y Y)<|An9 11 V (Aq Y)<|An9 12 V (Aq Y)<|Ag<|Zn [4,5] ?_;refine Zx<|AC<|Zt<|Ci rfl Aj0 Y Y (by exact ⟨.slice g9 _ c9,s9,by rw [e8,<-e1,h1];rfl,by rw [e8];exact h9,rfl⟩)
  rw [h1];refine Ao1 5 V<|Ao1 6 V<|Ao1 7 V<|Ao1 8 V<|Ao1 9 V<|An9 10 V (AU Y Y)<|An9 11 V (Aq Y)<|An9 12 V (Aq Y)<|Ag<|Zn [4,5] ?_;refine Zx<|AC<|Zt<|Ci rfl Aj0 Y Y (by exact ⟨.slice g9 _ c9,s9,by rw [e8,<-e1,h1];rfl,by rw [e8];exact h9,rfl⟩)
 rcases hcs9 with⟨h7,_⟩|⟨k,p,h7,hp,_,_⟩
 · exact absurd h7 Ao7
 subst h7;have e8:jnT q c ps=((OT (fun p=>Jz q y p.l) (ps.filter fun p=>!Pb c.k p) ⟨y,p.r⟩),true):=by
  unfold jnT;rw [Am6 hot];split
  · rename_i h7;rw [hy]at h7;cases h7
  · rename_i y0 h7;rw [hy]at h7;injection h7 with h7;subst h7;rw [<-hz9,Am6 Ao7,AH7,AB5,hp];rfl
 have hk:=(zF.1 hp).1;obtain ⟨g,cap9,cur,z,hv9,rfl,hle9,hin9⟩:=Ee hl Ao7;injection hv9 with hv1 hv2 hv3
 subst hv1 hv3;obtain ⟨_,hsz9,hex9⟩:=Pv hin9 hp;refine AJ<|Zx<|Zq<|Zg<|Zo Wh (AA Ak0 Af7 Y (by(simp;done)) (by exact BD V)) ?_;refine Zc [_] Y call207 Y V (QJ q hcl c p1 (mQ q (bfQ q c)) (mQ q (afQ q c)) y b2) ?_;rintro _ _ ⟨_,⟨b8,b9,rfl,rfl⟩,rfl⟩;refine Ze (Al zeroValue265 #[_]) ?_;rintro _ _ ⟨bb,rfl,rfl⟩;refine Xe (Zs sizeOf265 Y Y V (hc:=by exact (V:_=(#[.func (.func 257) #[] ([I5 b8,I5 b9]:List Value).toArray]:Array Value))) (hi:=by decide)) ?_;refine Z0<|Zn [1,2,9,10,11] ?_;refine Zx<|Zq<|C8 (s1:=[(bb,_)]) (s2:=_++_++[(b2,_)]) Wo Wo ?_;refine Az (n:=15) (0::0::2::6::14::0::0::96::224::480::1022::0::4095::8191::16383::[]) 4096 Ao8 Ao8 V<|An9 0 V (AP Y)<|An9 1 V (AB (off:=18) AU7 V rfl Aa4 Y)<|Ao0 2 V Ae0 Y ?_;refine An9 3 V (Am Y V)<|Cw (b:=b2) (x:= .cells #[I4 y.t,I4 y.k,I4 y.v.a,I4 y.v.b,I4 y.v.c] 83 (0,0)) (D':=31) 4 V rfl V Ap0 (Pa #[I4 y.t,I4 y.k,I4 y.v.a,I4 y.v.b,I4 y.v.c] AX3 AU5 Y) ?_;refine An9 5 V (AP Y)<|An9 6 V (AP Y)<|An9 7 V (Ai AV5 AX7 Y Y Ao7)<|An9 8 V (Ar (off:=5) Ab4 V rfl AU5 Y)<|Ao4 9 V Wh (AA (cs:=#[I4 p.r.t,I4 p.r.k,I4 p.r.v.a,I4 p.r.v.b,I4 p.r.v.c]) AX3 AU5 Y Ao7 (by exact hex9)) ?_;refine An9 10 V (BL (vs:=[(0,.agg #[I4 y.t,I4 y.k,I4 y.v.a,I4 y.v.b,I4 y.v.c]),(1,.agg #[I4 p.r.t,I4 p.r.k,I4 p.r.v.a,I4 p.r.v.b,I4 p.r.v.c])]) (cs:=#[I4 y.t,I4 y.k,I4 y.v.a,I4 y.v.b,I4 y.v.c,I4 p.r.t,I4 p.r.k,I4 p.r.v.a,I4 p.r.v.b,I4 p.r.v.c]) Y (AY (pl:=#[(0,5),(5,5)]) Ag9 Ab4 (fun _=>by kernel_rfl) Ao8))<|An9 11 V (Bb (vs:=[]) (us:=[_]) Y Y)<|Zz (l:=[12])<|Ao5 [false,false,false] [] V rfl (Zw [_,_,_] Y call263 Y V (SY h9 Ao7 ⟨y,p.r⟩ 264 [I5 bb] (fun p=>Jz q y p.l) call264 (fun x=>wP 257 ([I5 b8,I5 b9]:List Value) (Jz q y) call257 (fun x=>Yx q hcl c p1 (mQ q (bfQ q c)) (mQ q (afQ q c)) y b2 b8 b9 x) bb x))) ?hk_10 Bp ?hl_10
 case hk_10=>
  rintro _ _ ⟨_,⟨s5,s6,h5,rfl⟩,rfl⟩;refine ⟨AV,?_⟩;obtain ⟨g5,c5,rfl⟩:=h5.form;refine An9 13 V (Aq Y)<|An9 14 V (Aq Y)<|Ag<|Zn [4,5] ?_;refine Zx<|AC<|Ci rfl Aj0 Y Y (by exact ⟨.slice g5 _ c5,s5,by rw [e8],by rw [e8];exact h5,rfl⟩)
 exact Ae
theorem ai(q:QM)(c:Chg)(r:Bw):(Cs q c r).1.val=r.val:=by unfold Cs;split<;>rfl
theorem aj(q:QM)(c:Chg)(r:Bw):(Cs q c r).1.rows.length<=r.rows.length+2:=by
 unfold Cs;split
 · exact AM5 _ _
 · show(D8 _).length<=_
   have h:=fE q c (EZ r.rows);rw [Jo]at h;rw [Ha];omega
theorem fJ{rs:List AQ}{x:AQ}(hin:CE cur 0 (Ac rs))(hx:rs[k]?=some x):k*5+5<=cur.size/\cur.extract (0+k*5) (0+k*5+5)=#[I4 x.t,I4 x.k,I4 x.v.a,I4 x.v.b,I4 x.v.c]:=YU hin hx
theorem pM(hin:CE cur 0 (Ah rs))(hx:rs[k]?=some x):k*10+10<=cur.size/\cur.extract (0+k*10) (0+k*10+10)=#[I4 x.l.t,I4 x.l.k,I4 x.l.v.a,I4 x.l.v.b,I4 x.l.v.c,I4 x.r.t,I4 x.r.k,I4 x.r.v.a,I4 x.r.v.b,I4 x.r.v.c]:=Uu hin hx
variable{r:Bw}{rv:Value}
set_option maxHeartbeats 1000000 in
theorem aW(q:QM)(hcl:0<=q.cl/\q.cl<=3)(c:Chg)(p1 p2:Option Addr)(e1:p1.isSome=(bfQ q c).isSome)(h2:II p2 (afQ q c) s2){sr:List A8}(hr:BZ 5 83 rv r.rows.length (Ac r.rows) sr)(hn:r.rows.length<=100000000):BR Tryz.prog 138 #[.agg #[I4 q.kd,I4 q.tb,I4 q.cl,I4 q.lo,I4 q.hi,I4 q.bq,I4 q.ot,I4 c.t,I4 c.k,.bool c.had,I4 c.o.a,I4 c.o.b,I4 c.o.c,.bool c.has,I4 c.n.a,I4 c.n.b,I4 c.n.c,.pointer p1,.pointer p2,I4 (mQ q (bfQ q c)),I4 (mQ q (afQ q c))],.agg #[rv,I4 r.val,.bool r.fnd]] [sr,s2] (fun w H'=>∃rv' s',w= .tuple #[.agg #[rv',I4 (Cs q c r).1.val,.bool (Cs q c r).1.fnd],.bool (Cs q c r).2]/\BZ 5 83 rv' (Cs q c r).1.rows.length (Ac (Cs q c r).1.rows) s'/\H'=[s']):=by
 have hml:=mL;obtain ⟨pv,cv,rfl⟩:=hr.form;refine Se func138 ntmps138 [0,1] ?_;intro u R;refine Zq<|Zg<|Ze (EX Y (cs:=#[I4 q.kd,I4 q.tb,I4 q.cl,I4 q.lo,I4 q.hi,I4 q.bq,I4 q.ot,I4 c.t,I4 c.k,.bool c.had,I4 c.o.a,I4 c.o.b,I4 c.o.c,.bool c.has,I4 c.n.a,I4 c.n.b,I4 c.n.c,.pointer p1,.pointer p2,I4 (mQ q (bfQ q c)),I4 (mQ q (afQ q c))]) (Fe q c p1 p2 (mQ q (bfQ q c)) (mQ q (afQ q c)))) ?_;rintro _ _ ⟨be,rfl,rfl⟩;refine Ze (Bx #[.slice pv r.rows.length cv,I4 r.val,.bool r.fnd]) ?_;rintro _ _ ⟨br,rfl,rfl⟩;refine Ze (Al AW5 #[_,_,_]) ?_;rintro _ _ ⟨bo,rfl,rfl⟩;refine Za Y<|Z0<|Zx<|Zq<|Zq<|Zg<|Zh 0 AU7 V rfl AV8 Y<|Zv (Ar (off:=1) AU9 V rfl AU1 Y)<|Zl AU2 Y ?_;refine Zh 0 AU7 V rfl AV8 Y<|Zv (Ar (off:=6) AU9 V rfl AU1 Y)<|Zl AU2 Y ?_;refine Zv (CL Y Y)<|Z0<|Zx<|Aw Y (fun hto=>?_) (fun hto=>?_)
 ·
  refine Zq<|Zg<|Zo Wh (AA (cs:=#[_,_,_]) AV6 AU3 Y (by(simp;done)) Ap1) ?_;refine Xe (Xw AU3 _) ?_;refine Za Y<|Z0<|Zn [4,5] ?_;refine Zx<|AC<|Zt<|Bu V results138 Y Wh (Ap AV6 AU3 Wn (V)) Y (by
   have e8:Cs q c r=(r,false):=by unfold Cs;rw [Am7 hto]
   exact ⟨.slice pv r.rows.length cv,sr,by rw [e8];rfl,by rw [e8];exact hr,rfl⟩)
 refine AJ<|Zx<|Zq<|Zg<|Za Y<|Z0<|Zx<|Zq<|Zq<|BV<|Zg<|Za Y<|Z0<|Zn [2,3,4,6,7] ?_;refine Zx<|AO<|Zb [6,7,2,3,4] ?_;refine BI (e0:=[(6,_),(7,_)]) (fun m e H=>∃(k:Nat) (gk:Option Addr) (ck:Nat) (sk:List A8),m=r.rows.length -k/\(k<=r.rows.length/2/\BZ 10 310 (.slice gk k ck) k (Ah ((EZ r.rows).take k)) sk)/\e=[(6,.slice gk k ck),(7,I4 ((2*k:Nat):Int))]/\H=[sk]) (by exact ⟨0,none,0,[],V,⟨zT _,Bf 10 _⟩,V,V⟩) Wp ?_;rintro _ _ _ ⟨k,gk,ck,sk,rfl,⟨hk,hsk⟩,rfl,rfl⟩;refine Zq<|Zq<|BV<|Zg<|Zm Y<|Ya (n:=1) Y Y<|Zh 0 AU6 V rfl AW8 Y<|Zl Ab2 Y ?_;refine Zv (Aa AU4 Y)<|Zv (Au Y Y)<|Z0<|Zx<|Aw Y (fun hlt=>?_) (fun hlt=>?_)
 ·
  obtain ⟨x,hx⟩:∃x,r.rows[2*k]?=some x:=⟨_,zD Ao7⟩;obtain ⟨y,hy⟩:∃y,r.rows[2*k+1]?=some y:=⟨_,zD Ao7⟩;obtain ⟨g,cap9,cur,z,hv9,rfl,hle9,hin9⟩:=Ee hr Ao7;injection hv9 with hv1 hv2 hv3
  subst hv1 hv3;obtain ⟨hszx,hexx⟩:=fJ hin9 hx;obtain ⟨hszy,hexy⟩:=fJ hin9 hy;refine AJ<|Zx<|Zq<|AO<|Az (n:=16) (0::0::2::0::14::30::0::64::0::256::960::1984::4094::8190::16383::32767::[]) 24576 Ao8 Ao8 V<|An9 0 V (AP Y)<|An9 1 V (AB (off:=0) AU6 V rfl AW8 Y)<|Ao0 2 V Ab2 Y ?_;refine An9 3 V (AP Y)<|An9 4 V (Ai AU4 AU5 Y Y Ao7)<|Ao4 5 V Wh (AA (cs:=#[_,_,_,_,_]) AX3 AU5 Y Ao7 (by exact hexx)) ?_;refine An9 6 V (AB (off:=0) AU6 V rfl AW8 Y)<|Ao0 7 V Ab2 Y ?_;refine An9 8 V (AP Y)<|An9 9 V (Ei (n:=1) Y Y Ao7)<|An9 10 V (Ai AU4 AU5 Y Y Ao7)<|Ao4 11 V Wh (AA (cs:=#[_,_,_,_,_]) AX3 AU5 Y Ao7 (by exact hexy)) ?_;refine An9 12 V (BL (vs:=[(0,.agg #[I4 x.t,I4 x.k,I4 x.v.a,I4 x.v.b,I4 x.v.c]),(1,.agg #[I4 y.t,I4 y.k,I4 y.v.a,I4 y.v.b,I4 y.v.c])]) (cs:=#[I4 x.t,I4 x.k,I4 x.v.a,I4 x.v.b,I4 x.v.c,I4 y.t,I4 y.k,I4 y.v.a,I4 y.v.b,I4 y.v.c]) Y (AY (pl:=#[(0,5),(5,5)]) Ag9 Ab4 (fun _=>by kernel_rfl) Ao8))<|Yw 13 16383 V (Af (vs:=[_]) (cs:=[_,_,_,_,_,_,_,_,_,_]) AV5 AX7 Ag9 Y V rfl V rfl V) ?_;rintro _ _ ⟨gp,rfl,rfl⟩;refine Yw 14 32767 V (Bl (by_:=80) (sz:=10) AV5 (V:Tryz.prog.info? 310=some Tryz.t310) V rfl V rfl Y (hsk) Y (DD 10 gp 1 1 310 (0,0) (Ah [⟨x,y⟩]) V) Wo Wo (by exact EP _) Ao7 Ao7) ?_;rintro _ _ ⟨sw6,hrw6,rfl⟩;obtain ⟨gw6,cw6,rfl⟩:=hrw6.form;refine An9 15 V (Aq Y)<|Ag<|Zn [2,3,4,6,7] ?_;refine A9<|Zx<|BV<|Zg<|Zm Y<|Ya (n:=2) Y Y<|Za Y<|Z0<|Zn [6,7,2,3,4] ?_;refine Ad (e':=[(6,_),(7,_)]) (by exact ⟨k+1,gw6,cw6,sw6,rfl,⟨by omega,BO hrw6 rfl (by rw [Bc (mo hx hy),Cu])⟩,rfl,rfl⟩)
 have ek:k=(EZ r.rows).length:=by rw [Jo];omega
 have hskL:=BO hsk ek (by rw [ek,AA4]);refine BG<|Zt<|Zt<|AX<|Zx<|Zq<|Zg<|Zo Wh (AA Ak0 Af7 Y (by(simp;done)) (by exact BD V)) ?_;refine Zm Y<|Zc [_,_] Y call209 Y rfl (bW q hcl c p1 p2 e1 h2 hskL (by rw [Jo];omega)) ?_;rintro _ _ ⟨_,⟨lv,s5,rfl,h5,rfl⟩,rfl⟩;have e8:Cs q c r=(⟨D8 (jnT q c (EZ r.rows)).1,r.val,r.fnd⟩,(jnT q c (EZ r.rows)).2):=by unfold Cs;rw [Am6 hto]
 have hL9:=fE q c (EZ r.rows);rw [Jo]at hL9;obtain ⟨L,hL⟩:∃L,L=(jnT q c (EZ r.rows)).1:=⟨_,rfl⟩;rw [<-hL]at h5 e8 hL9;obtain ⟨g5,c5,rfl⟩:=h5.form;refine Zm Y<|Zd Y V<|Zd Y V<|Za Y<|Za Y<|Z0<|Zn [3,4,6,8] ?_;refine Zx<|Zq<|Zg<|Zh 0 AU6 V rfl AW8 Y<|Xe (Zs AW8 Y Y V (hc:=by exact (V:_=(#[.slice none 0 0,I4 r.val,.bool r.fnd]:Array Value))) (hi:=by(simp;done))) ?_;refine Z0<|Zx<|Zq<|Zq<|BV<|Zg<|Zm Y<|Zv (Aa AV5 Y)<|Zm Y<|Z0<|Zx<|AO<|Zb [51,3,4,8,49,50] ?_;refine BI (e0:=[(51,_)]) (fun m e H=>∃(k:Nat) (gk:Option Addr) (ck:Nat) (sk:List A8),m=L.length -k/\(k<=L.length/\BZ 5 83 (.slice gk (2*k) ck) (2*k) (Ac (D8 (L.take k))) sk)/\e=[(51,I4 (k:Int))]/\H=[[(br,.cells #[.slice gk (2*k) ck,I4 r.val,.bool r.fnd] 53 (0,0))],sk]) (by exact ⟨0,none,0,[],V,⟨zT _,Bf 5 _⟩,V,V⟩) Wp ?_;rintro _ _ _ ⟨k,gk,ck,sk,rfl,⟨hk,hsk⟩,rfl,rfl⟩;refine Zq<|BV<|Zg<|Zv (Au Y Y)<|Z0<|Zx<|Zq<|Aw Y (fun hlt=>?_) (fun hlt=>?_)
 ·
  obtain ⟨p,hp⟩:∃p,L[k]?=some p:=⟨_,zD hlt⟩;obtain ⟨g,cap9,cur,z,hv9,rfl,hle9,hin9⟩:=Ee h5 Ao7;injection hv9 with hv1 hv2 hv3
  subst hv1 hv3;obtain ⟨hszp,hexp⟩:=pM hin9 hp;refine AJ<|Zx<|Zq<|AO<|Zq<|BV<|Zg<|Bq (Ai AV5 AX7 Y Y Ao7)<|Zo Wh (AA (cs:=#[_,_,_,_,_,_,_,_,_,_]) isAgg310 AX7 Y Ao7 (by exact hexp)) ?_;refine Ze (Al Ag9 #[_,_,_,_,_,_,_,_,_,_]) ?_;rintro _ _ ⟨bp,rfl,rfl⟩;refine Xe (Xw AX7 #[I4 p.l.t,I4 p.l.k,I4 p.l.v.a,I4 p.l.v.b,I4 p.l.v.c,I4 p.r.t,I4 p.r.k,I4 p.r.v.a,I4 p.r.v.b,I4 p.r.v.c]) ?_;refine Z0<|Zx<|Zg<|Zh 0 AU6 V rfl AW8 Y<|Zl Ab2 Y ?_;refine Zh 0 Ab4 V rfl AU5 Y<|Zo Wh (AA (cs:=#[_,_,_,_,_]) AX3 AU5 Y (by(simp;done)) Ap1) ?_;refine Zh 5 Ab4 V rfl AU5 Y<|Zo Wh (AA (cs:=#[_,_,_,_,_]) AX3 AU5 Y (by(simp;done)) Ap1) ?_;refine Ze (Af (vs:=[_,_]) (cs:=[_,_,_,_,_,_,_,_,_,_]) AU4 AU5 AW7 Y V rfl V rfl V) ?_;rintro _ _ ⟨gq,rfl,rfl⟩;refine Ze (Bl (by_:=40) (sz:=5) AU4 (V:Tryz.prog.info? 83=some Tryz.t83) V rfl V rfl Y (hsk) Y (DD 5 gq 2 2 83 (0,0) (Ac [p.l,p.r]) V) Wo Wo (by exact EH _) Ao7 Ao7) ?_;rintro _ _ ⟨sw7,hrw7,rfl⟩;obtain ⟨gw7,cw7,rfl⟩:=hrw7.form;refine Zh 0 AU6 V rfl AW8 Y<|Xe (Zs AW8 Y Y V (hc:=by exact (V:_=(#[.slice gw7 (2*k+2) cw7,I4 r.val,.bool r.fnd]:Array Value))) (hi:=by(simp;done))) ?_;refine Z0<|Zn [3,4,8,49,50,51] ?_;refine A9<|Zx<|BV<|Zg<|Ya (n:=1) Y Y<|Zm Y<|Z0<|Zn [51,3,4,8,49,50] ?_;refine Ad (e':=[(51,_)]) (by exact ⟨k+1,gw7,cw7,sw7,rfl,⟨by omega,BO hrw7 rfl (by rw [RU hp,C9])⟩,rfl,rfl⟩)
 have ek:k=L.length:=by omega
 subst ek;rw [AA4]at hsk;refine BG<|Zt<|Zt<|AX<|Zx<|Zq<|Zg<|Zo Wh (AA (cs:=#[_,_,_]) AV6 AU3 Y (by(simp;done)) Ap1) ?_;refine Zm Y<|Xe (Xw AU3 _) ?_;refine Za Y<|Z0<|Zx<|AC<|Bu rfl results138 Y Wh (Ap AV6 AU3 Wn (rfl)) Y (by exact ⟨.slice gk (2*L.length) ck,sk,by rw [e8];rfl,by rw [e8];exact BO hsk (Ha L).symm rfl,rfl⟩)
def Bo(q:QM)(c:Chg)(r:Bw):Bw×Bool:=
 if q.kd=1\/q.kd=2 then(⟨Dc q c r.rows,r.val,r.fnd⟩,true)
 else if q.kd=3 then(⟨r.rows,if(afQ q c).isSome then r.val+1 else r.val -1,r.fnd⟩,true)
 else if q.kd=4 then(⟨r.rows,r.val+(mQ q (afQ q c) -mQ q (bfQ q c)),r.fnd⟩,true)
 else if q.kd=5 then G8 (fun a b=>decide (a<b)) (bfQ q c).isSome (afQ q c).isSome (mQ q (bfQ q c)) (mQ q (afQ q c)) r
 else if q.kd=6 then G8 (fun a b=>decide (b<a)) (bfQ q c).isSome (afQ q c).isSome (mQ q (bfQ q c)) (mQ q (afQ q c)) r
 else Cs q c r
theorem ah(q:QM)(c:Chg)(r:Bw):(Bo q c r).1.rows.length<=r.rows.length+2:=by
 have h:=TZ q c r.rows;unfold Bo;split
 · exact AK0 h (Nat.le_succ _)
 · split
   · exact AM5 _ _
   · split
     · exact AM5 _ _
     · split
       · rw [M9];exact AM5 _ _
       · split
         · rw [M9];exact AM5 _ _
         · exact aj q c r
set_option maxHeartbeats 1000000 in
theorem UW(q:QM)(c:Chg)(p1 p2:Option Addr)(o n:Int)(r:Bw)(pv:Option Addr)(kv cv b fid:Nat)(lt:Int->Int->Bool)(hcf:∀(args:Array Value) (w:World),(callFunc fid args).run Tryz.prog w= .ok (.enter fid args) w)(hlt:∀x y:Int,BJ Tryz.prog fid #[I4 x,I4 y] [] (.bool (lt x y))):BJ Tryz.prog 208 #[.agg #[I4 q.kd,I4 q.tb,I4 q.cl,I4 q.lo,I4 q.hi,I4 q.bq,I4 q.ot,I4 c.t,I4 c.k,.bool c.had,I4 c.o.a,I4 c.o.b,I4 c.o.c,.bool c.has,I4 c.n.a,I4 c.n.b,I4 c.n.c,.pointer p1,.pointer p2,I4 o,I4 n],.agg #[.slice pv kv cv,I4 r.val,.bool r.fnd],I5 b] [[(b,.cells #[.func (.func fid) #[] #[]] 73 (0,0))]] (.tuple #[.agg #[.slice pv kv cv,I4 (G8 lt p1.isSome p2.isSome o n r).1.val,.bool (G8 lt p1.isSome p2.isSome o n r).1.fnd],.bool (G8 lt p1.isSome p2.isSome o n r).2]):=by
 refine Se func208 ntmps208 [0,1,2] ?_;intro u R;refine Zq<|Zg<|Ze (EX Y (cs:=#[I4 q.kd,I4 q.tb,I4 q.cl,I4 q.lo,I4 q.hi,I4 q.bq,I4 q.ot,I4 c.t,I4 c.k,.bool c.had,I4 c.o.a,I4 c.o.b,I4 c.o.c,.bool c.has,I4 c.n.a,I4 c.n.b,I4 c.n.c,.pointer p1,.pointer p2,I4 o,I4 n]) (Fe q c p1 p2 o n)) ?_;rintro _ _ ⟨be,rfl,rfl⟩;refine Ze (Bx #[.slice pv kv cv,I4 r.val,.bool r.fnd]) ?_;rintro _ _ ⟨br,rfl,rfl⟩;refine Ze (Al AW5 #[_,_,_]) ?_;rintro _ _ ⟨b3,rfl,rfl⟩;refine Za Y<|Z0<|Zx<|Zq<|Zq<|Zg<|Zh 17 AU7 V rfl Aa4 Y<|Zl Ae0 Y ?_;refine Zv (ET Aa2 Y Y)<|Zm Y<|Aj (t:=11) Y V (fun h1=>?_) (fun h1=>?_)
 ·
  refine Yf 2 AU6 V rfl AX8 Y<|Yl Ab8 Y ?_;refine Yg (Br Y)<|Zf Y Y ?_;refine Aj (t:=15) Y V (fun h2=>?_) (fun h2=>?_)
  ·
   refine A7 Y V<|A7 Y V<|A7 Y V<|A7 Y V<|A7 Y V<|A7 Y V<|A7 Y V<|Yg (AZ Y Y)<|Zv (AZ Y Y)<|Z0<|Zn [2,3,4,5,24] ?_;refine Zx<|DV Y<|Zq<|Zg<|Zh 18 AU7 V rfl Aa4 Y<|Zl Ae0 Y ?_;refine Zv (ET Aa2 Y Y)<|Zm Y<|Aj (t:=28) Y V (fun h4=>?_) (fun h4=>?_)
   ·
    refine Yf 2 AU6 V rfl AX8 Y<|Yl Ab8 Y ?_;refine Zv (AZ Y Y)<|Zm Y<|Aj (t:=32) Y V (fun h5=>?_) (fun h5=>?_)
    ·
     refine Yl isAgg73 Y ?_;refine Yf 1 AU6 V rfl AU1 Y<|Yl AU2 Y ?_;refine Yf 20 AU7 V rfl AU1 Y<|Yl AU2 Y ?_;refine Xr [_,_] Y (hcf) Y V (hlt (r.val) (n)) ?_;refine Yg (Br Y)<|Zv (AZ Y Y)<|Za Y<|Z0<|Zn [3,4,5,7] ?_;refine Zx<|Zq<|Zg<|Zh 20 AU7 V rfl AU1 Y<|Zl AU2 Y ?_;refine Zh 1 AU6 V rfl AU1 Y<|Xe (Zs AU1 Y Y V (hi:=by(simp;done))) ?_;refine Z0<|Zx<|Zq<|Zg<|Zo Wh (AA (cs:=#[_,_,_]) AV6 AU3 Y (by(simp;done)) Ap1) ?_;refine Zm Y<|Xe (Xw AU3 _) ?_;refine Za Y<|Z0<|Zx<|AC<|Zt<|Bu V Ac7 Y Wh (Ap AV6 AU3 Wn (V)) Y (by
      refine ⟨?_,V⟩;unfold G8;simp_all<;>rfl)
    refine A7 Y V<|A7 Y V<|A7 Y V<|A7 Y V<|A7 Y V<|A7 Y V<|A7 Y V<|Zv (AU Y Y)<|Za Y<|Z0<|Zn [3,4,5,7] ?_;refine Zx<|Zq<|Zg<|Zh 20 AU7 V rfl AU1 Y<|Zl AU2 Y ?_;refine Zh 1 AU6 V rfl AU1 Y<|Xe (Zs AU1 Y Y V (hi:=by(simp;done))) ?_;refine Z0<|Zx<|Zq<|Zg<|Zo Wh (AA (cs:=#[_,_,_]) AV6 AU3 Y (by(simp;done)) Ap1) ?_;refine Zm Y<|Xe (Xw AU3 _) ?_;refine Za Y<|Z0<|Zx<|AC<|Zt<|Bu V Ac7 Y Wh (Ap AV6 AU3 Wn (V)) Y (by
     refine ⟨?_,V⟩;unfold G8;simp_all<;>rfl)
   refine A7 Y V<|A7 Y V<|Zv (AU Y Y)<|Zm Y<|A7 Y V<|A7 Y V<|A7 Y V<|A7 Y V<|A7 Y V<|A7 Y V<|A7 Y V<|Zv (AU Y Y)<|Za Y<|Z0<|Zn [3,4,5,7] ?_;refine Zx<|Zq<|Zg<|Zh 20 AU7 V rfl AU1 Y<|Zl AU2 Y ?_;refine Zh 1 AU6 V rfl AU1 Y<|Xe (Zs AU1 Y Y V (hi:=by(simp;done))) ?_;refine Z0<|Zx<|Zq<|Zg<|Zo Wh (AA (cs:=#[_,_,_]) AV6 AU3 Y (by(simp;done)) Ap1) ?_;refine Zm Y<|Xe (Xw AU3 _) ?_;refine Za Y<|Z0<|Zx<|AC<|Zt<|Bu V Ac7 Y Wh (Ap AV6 AU3 Wn (V)) Y (by
    refine ⟨?_,V⟩;unfold G8;simp_all<;>rfl)
  refine Yl isAgg73 Y ?_;refine Yf 1 AU6 V rfl AU1 Y<|Yl AU2 Y ?_;refine Yf 19 AU7 V rfl AU1 Y<|Yl AU2 Y ?_;refine Xr [_,_] Y (hcf) Y V (hlt (r.val) (o)) ?_;refine Yg (Br Y)<|Yg (AU Y Y)<|Zv (AZ Y Y)<|Z0<|Zn [2,3,4,5,24] ?_;refine Zx<|AR Y (fun h3=>?_) (fun h3=>?_)
  ·
   refine Zq<|Zg<|Zh 18 AU7 V rfl Aa4 Y<|Zl Ae0 Y ?_;refine Zv (ET Aa2 Y Y)<|Zm Y<|Aj (t:=28) Y V (fun h5=>?_) (fun h5=>?_)
   ·
    refine Yf 2 AU6 V rfl AX8 Y<|Yl Ab8 Y ?_;refine Zv (AZ Y Y)<|Zm Y<|Aj (t:=32) Y V (fun h5=>?_) (fun h5=>?_)
    ·
     refine Yl isAgg73 Y ?_;refine Yf 1 AU6 V rfl AU1 Y<|Yl AU2 Y ?_;refine Yf 20 AU7 V rfl AU1 Y<|Yl AU2 Y ?_;refine Xr [_,_] Y (hcf) Y V (hlt (r.val) (n)) ?_;refine Yg (Br Y)<|Zv (AZ Y Y)<|Za Y<|Z0<|Zn [3,4,5,7] ?_;refine Zx<|Zq<|Zg<|Zh 20 AU7 V rfl AU1 Y<|Zl AU2 Y ?_;refine Zh 1 AU6 V rfl AU1 Y<|Xe (Zs AU1 Y Y V (hi:=by(simp;done))) ?_;refine Z0<|Zx<|Zq<|Zg<|Zo Wh (AA (cs:=#[_,_,_]) AV6 AU3 Y (by(simp;done)) Ap1) ?_;refine Zm Y<|Xe (Xw AU3 _) ?_;refine Za Y<|Z0<|Zx<|AC<|Zt<|Bu V Ac7 Y Wh (Ap AV6 AU3 Wn (V)) Y (by
      refine ⟨?_,V⟩;unfold G8;simp_all<;>rfl)
    refine A7 Y V<|A7 Y V<|A7 Y V<|A7 Y V<|A7 Y V<|A7 Y V<|A7 Y V<|Zv (AU Y Y)<|Za Y<|Z0<|Zn [3,4,5,7] ?_;refine Zx<|Zq<|Zg<|Zh 20 AU7 V rfl AU1 Y<|Zl AU2 Y ?_;refine Zh 1 AU6 V rfl AU1 Y<|Xe (Zs AU1 Y Y V (hi:=by(simp;done))) ?_;refine Z0<|Zx<|Zq<|Zg<|Zo Wh (AA (cs:=#[_,_,_]) AV6 AU3 Y (by(simp;done)) Ap1) ?_;refine Zm Y<|Xe (Xw AU3 _) ?_;refine Za Y<|Z0<|Zx<|AC<|Zt<|Bu V Ac7 Y Wh (Ap AV6 AU3 Wn (V)) Y (by
     refine ⟨?_,V⟩;unfold G8;simp_all<;>rfl)
   refine A7 Y V<|A7 Y V<|Zv (AU Y Y)<|Zm Y<|A7 Y V<|A7 Y V<|A7 Y V<|A7 Y V<|A7 Y V<|A7 Y V<|A7 Y V<|Zv (AU Y Y)<|Za Y<|Z0<|Zn [3,4,5,7] ?_;refine Zx<|Zq<|Zg<|Zh 20 AU7 V rfl AU1 Y<|Zl AU2 Y ?_;refine Zh 1 AU6 V rfl AU1 Y<|Xe (Zs AU1 Y Y V (hi:=by(simp;done))) ?_;refine Z0<|Zx<|Zq<|Zg<|Zo Wh (AA (cs:=#[_,_,_]) AV6 AU3 Y (by(simp;done)) Ap1) ?_;refine Zm Y<|Xe (Xw AU3 _) ?_;refine Za Y<|Z0<|Zx<|AC<|Zt<|Bu V Ac7 Y Wh (Ap AV6 AU3 Wn (V)) Y (by
    refine ⟨?_,V⟩;unfold G8;simp_all<;>rfl)
  refine AJ<|Zx<|Zq<|Zq<|Zg<|Zh 18 AU7 V rfl Aa4 Y<|Zl Ae0 Y ?_;refine Zv (ET Aa2 Y Y)<|Z0<|Zx<|AR Y (fun h6=>?_) (fun h6=>?_)
  ·
   refine Zq<|Zq<|Zg<|Zh 2 AU6 V rfl AX8 Y<|Zl Ab8 Y ?_;refine Zv (Br Y)<|Zm Y<|Aj (t:=52) Y V (fun h7=>?_) (fun h7=>?_)
   ·
    refine A7 Y V<|A7 Y V<|A7 Y V<|A7 Y V<|A7 Y V<|A7 Y V<|Zv (AZ Y Y)<|Z0<|Zn [3,4,5,59] ?_;refine Zx<|DV Y<|Zg<|Zh 20 AU7 V rfl AU1 Y<|Zl AU2 Y ?_;refine Zh 1 AU6 V rfl AU1 Y<|Xe (Zs AU1 Y Y V (hi:=by(simp;done))) ?_;refine Z0<|Zx<|Zg<|Zh 2 AU6 V rfl AX8 Y<|Xe (Zs AX8 Y Y V (hi:=by(simp;done))) ?_;refine Z0<|Zx<|Zq<|Zg<|Zo Wh (AA (cs:=#[_,_,_]) AV6 AU3 Y (by(simp;done)) Ap1) ?_;refine Xe (Xw AU3 _) ?_;refine Za Y<|Z0<|Zx<|AC<|Bu V Ac7 Y Wh (Ap AV6 AU3 Wn (V)) Y (by
     refine ⟨?_,V⟩;unfold G8;simp_all<;>rfl)
   refine Yl isAgg73 Y ?_;refine Yf 20 AU7 V rfl AU1 Y<|Yl AU2 Y ?_;refine Yf 1 AU6 V rfl AU1 Y<|Yl AU2 Y ?_;refine Xr [_,_] Y (hcf) Y V (hlt (n) (r.val)) ?_;refine Zv (AU Y Y)<|Z0<|Zn [3,4,5,59] ?_;refine Zx<|AR Y (fun h8=>?_) (fun h8=>?_)
   ·
    refine Zg<|Zh 20 AU7 V rfl AU1 Y<|Zl AU2 Y ?_;refine Zh 1 AU6 V rfl AU1 Y<|Xe (Zs AU1 Y Y V (hi:=by(simp;done))) ?_;refine Z0<|Zx<|Zg<|Zh 2 AU6 V rfl AX8 Y<|Xe (Zs AX8 Y Y V (hi:=by(simp;done))) ?_;refine Z0<|Zx<|Zq<|Zg<|Zo Wh (AA (cs:=#[_,_,_]) AV6 AU3 Y (by(simp;done)) Ap1) ?_;refine Xe (Xw AU3 _) ?_;refine Za Y<|Z0<|Zx<|AC<|Bu V Ac7 Y Wh (Ap AV6 AU3 Wn (V)) Y (by
     refine ⟨?_,V⟩;unfold G8;simp_all<;>rfl)
   refine AJ<|Zx<|Zg<|Zh 2 AU6 V rfl AX8 Y<|Xe (Zs AX8 Y Y V (hi:=by(simp;done))) ?_;refine Z0<|Zx<|Zq<|Zg<|Zo Wh (AA (cs:=#[_,_,_]) AV6 AU3 Y (by(simp;done)) Ap1) ?_;refine Xe (Xw AU3 _) ?_;refine Za Y<|Z0<|Zx<|AC<|Bu V Ac7 Y Wh (Ap AV6 AU3 Wn (V)) Y (by
    refine ⟨?_,V⟩;unfold G8;simp_all<;>rfl)
  refine AJ<|Zx<|Zq<|Zg<|Zo Wh (AA (cs:=#[_,_,_]) AV6 AU3 Y (by(simp;done)) Ap1) ?_;refine Xe (Xw AU3 _) ?_;refine Za Y<|Z0<|Zx<|AC<|Bu V Ac7 Y Wh (Ap AV6 AU3 Wn (V)) Y (by
   refine ⟨?_,V⟩;unfold G8;simp_all<;>rfl)
 refine A7 Y V<|A7 Y V<|A7 Y V<|A7 Y V<|A7 Y V<|A7 Y V<|A7 Y V<|A7 Y V<|A7 Y V<|A7 Y V<|A7 Y V<|A7 Y V<|Zv (AU Y Y)<|Z0<|Zn [2,3,4,5,24] ?_;refine Zx<|Dv Y<|AJ<|Zx<|Zq<|Zq<|Zg<|Zh 18 AU7 V rfl Aa4 Y<|Zl Ae0 Y ?_;refine Zv (ET Aa2 Y Y)<|Z0<|Zx<|AR Y (fun h6=>?_) (fun h6=>?_)
 ·
  refine Zq<|Zq<|Zg<|Zh 2 AU6 V rfl AX8 Y<|Zl Ab8 Y ?_;refine Zv (Br Y)<|Zm Y<|Aj (t:=52) Y V (fun h7=>?_) (fun h7=>?_)
  ·
   refine A7 Y V<|A7 Y V<|A7 Y V<|A7 Y V<|A7 Y V<|A7 Y V<|Zv (AZ Y Y)<|Z0<|Zn [3,4,5,59] ?_;refine Zx<|DV Y<|Zg<|Zh 20 AU7 V rfl AU1 Y<|Zl AU2 Y ?_;refine Zh 1 AU6 V rfl AU1 Y<|Xe (Zs AU1 Y Y V (hi:=by(simp;done))) ?_;refine Z0<|Zx<|Zg<|Zh 2 AU6 V rfl AX8 Y<|Xe (Zs AX8 Y Y V (hi:=by(simp;done))) ?_;refine Z0<|Zx<|Zq<|Zg<|Zo Wh (AA (cs:=#[_,_,_]) AV6 AU3 Y (by(simp;done)) Ap1) ?_;refine Xe (Xw AU3 _) ?_;refine Za Y<|Z0<|Zx<|AC<|Bu V Ac7 Y Wh (Ap AV6 AU3 Wn (V)) Y (by
    refine ⟨?_,V⟩;unfold G8;simp_all<;>rfl)
  refine Yl isAgg73 Y ?_;refine Yf 20 AU7 V rfl AU1 Y<|Yl AU2 Y ?_;refine Yf 1 AU6 V rfl AU1 Y<|Yl AU2 Y ?_;refine Xr [_,_] Y (hcf) Y V (hlt (n) (r.val)) ?_;refine Zv (AU Y Y)<|Z0<|Zn [3,4,5,59] ?_;refine Zx<|AR Y (fun h8=>?_) (fun h8=>?_)
  ·
   refine Zg<|Zh 20 AU7 V rfl AU1 Y<|Zl AU2 Y ?_;refine Zh 1 AU6 V rfl AU1 Y<|Xe (Zs AU1 Y Y V (hi:=by(simp;done))) ?_;refine Z0<|Zx<|Zg<|Zh 2 AU6 V rfl AX8 Y<|Xe (Zs AX8 Y Y V (hi:=by(simp;done))) ?_;refine Z0<|Zx<|Zq<|Zg<|Zo Wh (AA (cs:=#[_,_,_]) AV6 AU3 Y (by(simp;done)) Ap1) ?_;refine Xe (Xw AU3 _) ?_;refine Za Y<|Z0<|Zx<|AC<|Bu V Ac7 Y Wh (Ap AV6 AU3 Wn (V)) Y (by
    refine ⟨?_,V⟩;unfold G8;simp_all<;>rfl)
  refine AJ<|Zx<|Zg<|Zh 2 AU6 V rfl AX8 Y<|Xe (Zs AX8 Y Y V (hi:=by(simp;done))) ?_;refine Z0<|Zx<|Zq<|Zg<|Zo Wh (AA (cs:=#[_,_,_]) AV6 AU3 Y (by(simp;done)) Ap1) ?_;refine Xe (Xw AU3 _) ?_;refine Za Y<|Z0<|Zx<|AC<|Bu V Ac7 Y Wh (Ap AV6 AU3 Wn (V)) Y (by
   refine ⟨?_,V⟩;unfold G8;simp_all<;>rfl)
 refine AJ<|Zx<|Zq<|Zg<|Zo Wh (AA (cs:=#[_,_,_]) AV6 AU3 Y (by(simp;done)) Ap1) ?_;refine Xe (Xw AU3 _) ?_;refine Za Y<|Z0<|Zx<|AC<|Bu V Ac7 Y Wh (Ap AV6 AU3 Wn (V)) Y (by
  refine ⟨?_,V⟩;unfold G8;simp_all<;>rfl)
theorem oG(x y:Int):BJ Tryz.prog 134 #[I4 x,I4 y] [] (.bool (decide (x<y))):=by
 refine Se func134 ntmps134 [0,1] ?_;intro u R;refine Zq<|Zg<|Za Y<|Z0<|Zx<|Zq<|Zg<|Zm Y<|Zm Y<|Zv (Dq Y Y)<|Za Y<|Z0<|Zx<|AC<|AL V results134 Y (by exact ⟨V,V⟩)
theorem oI(x y:Int):BJ Tryz.prog 136 #[I4 x,I4 y] [] (.bool (decide (y<x))):=by
 refine Se func136 ntmps136 [0,1] ?_;intro u R;refine Zq<|Zg<|Za Y<|Z0<|Zx<|Zq<|Zg<|Zm Y<|Zm Y<|Zv (FI Y Y)<|Za Y<|Z0<|Zx<|AC<|AL V results136 Y (by exact ⟨V,V⟩)
def G6(k:Int):Nat:=if k=1 then 127 else if k=2 then 127 else if k=3 then 129 else if k=4 then 131 else if k=5 then 208 else if k=6 then 208 else 138
def IC(b5 b6:Nat)(k:Int):List Value:=if k=5 then [I5 b5]else if k=6 then [I5 b6]else []
theorem Ul{lm:List (Int×Value)}{b5 b6:Nat}(h:∀p,p∈lm↔p∈LZ b5 b6)(hn:(lm.map (·.1)).Nodup){k:Int}(hk:1<=k/\k<=7):Dm k lm=some (.agg #[.func (.func (Gh k)) #[] #[],.func (.func (G6 k)) #[] (IC b5 b6 k).toArray]):=by
 obtain h9|h9|h9|h9|h9|h9|h9:k=1\/k=2\/k=3\/k=4\/k=5\/k=6\/k=7:=by omega
 all_goals subst h9
 all_goals exact Xt h hn (by simp [LZ,Gh,G6,IC])
theorem KG{k:Int}(hk:1<=k/\k<=7):∀(args:Array Value) (w:World),(callFunc (G6 k) args).run Tryz.prog w= .ok (.enter (G6 k) args) w:=by
 obtain h|h|h|h|h|h|h:k=1\/k=2\/k=3\/k=4\/k=5\/k=6\/k=7:=by omega
 all_goals (subst h;simp only [G6];first|exact call127|exact call129|exact call131|exact call208|exact call138)
theorem H8{P:Program}{f:FuncId}{args:Array Value}{H H1:Hp}{Q Q1:Value->Hp->Prop}(h:BR P f args H Q)(F:Hp)(hf:H1.flatten.Perm (H++F).flatten)(hq:∀v H',Q v H'->∃H2 E,Q1 v H2/\(H'.flatten++F.flatten).Perm (H2.flatten++E)):BR P f args H1 Q1:=fun u R w hs=>
 Calls.mono (h u (F++R) w (hs.perm (by rw [AA0,<-zM,AA0 (L₁:=H++F)];exact hf.append_right _))) fun e w' he=>by
  rcases he with⟨v,H',rfl,h1,h2⟩|⟨ch,H',rfl,h1,h2⟩
  · obtain ⟨H2,E,h3,h4⟩:=hq v H' h1
    refine .inl ⟨v,H2,V,h3,h2.sub ⟨E,?_⟩⟩;rw [AA0,AA0,AA0,<-zM];refine (h4.append_right _).trans ?_;rw [zM,zM];exact AB7.append_left _
  · exact h1.elim
def MIn(q:QM)(c:Chg):Prop:=(-1000000000<=mQ q (bfQ q c)/\mQ q (bfQ q c)<=1000000000)/\-1000000000<=mQ q (afQ q c)/\mQ q (afQ q c)<=1000000000
theorem vI{b:Bool}{x:AQ}(h:b=true->x.ok):-1000000000<=mQ q (Gx q b x)/\mQ q (Gx q b x)<=1000000000:=by
 unfold Gx;split
 · rename_i h9
   rw [zy]at h9;exact VM (h h9.1) q.bq
 · exact ⟨by show(-1000000000:Int)<=0;decide,by show(0:Int)<=1000000000;decide⟩
theorem nz(q:QM)(h:c.ok):MIn q c:=by
 obtain ⟨_,h2,_⟩:=h;refine ⟨vI fun hh=>?_,vI fun hh=>?_⟩
 · rw [TG hh]at h2
   exact AD7.1 fun h9=>h2 (.inl ⟨hh,h9⟩)
 · rw [Qm hh]at h2
   exact AD7.1 fun h9=>h2 (.inr ⟨hh,h9⟩)
theorem KM(q:QM)(c:Chg)(hq:BH q)(hm:MIn q c){p1 p2:Option Addr}{s1:List A8}(hp1:II p1 (bfQ q c) s1)(hp2:II p2 (afQ q c) s2)(b5 b6:Nat)(r:Bw)(pv:Option Addr)(cv:Nat)(sr:List A8)(hr:BZ 5 83 (.slice pv r.rows.length cv) r.rows.length (Ac r.rows) sr)(hn:r.rows.length<=100000000)(hv:-4000000000000000000<=r.val/\r.val<=4000000000000000000):
 BR Tryz.prog (G6 q.kd) (.agg #[I4 q.kd,I4 q.tb,I4 q.cl,I4 q.lo,I4 q.hi,I4 q.bq,I4 q.ot,I4 c.t,I4 c.k,.bool c.had,I4 c.o.a,I4 c.o.b,I4 c.o.c,.bool c.has,I4 c.n.a,I4 c.n.b,I4 c.n.c,.pointer p1,.pointer p2,I4 (mQ q (bfQ q c)),I4 (mQ q (afQ q c))]:: .agg #[.slice pv r.rows.length cv,I4 r.val,.bool r.fnd]::IC b5 b6 q.kd).toArray [sr,s2,[(b5,.cells #[.func (.func 134) #[] #[]] 73 (0,0))],[(b6,.cells #[.func (.func 136) #[] #[]] 73 (0,0))]] (fun w H'=>∃rv' s',w= .tuple #[.agg #[rv',I4 (Bo q c r).1.val,.bool (Bo q c r).1.fnd],.bool (Bo q c r).2]/\BZ 5 83 rv' (Bo q c r).1.rows.length (Ac (Bo q c r).1.rows) s'/\H'=[s']):=by
 have e1:=hp1.some_;have e2:=hp2.some_
 have hcl:=hq.2.1;have hk:q.kd=1\/q.kd=2\/q.kd=3\/q.kd=4\/q.kd=5\/q.kd=6\/q.kd=7:=by have:=hq.2.2.2;omega
 have rows1:(q.kd=1\/q.kd=2)->Bo q c r=(⟨Dc q c r.rows,r.val,r.fnd⟩,true):=fun h=>by unfold Bo;rw [Am7 h]
 have P1:=aQ q c p1 p2 (mQ q (bfQ q c)) (mQ q (afQ q c)) hcl hr hn hp2;have P7:=aW q hcl c p1 p2 e1 hp2 hr hn
 have P3:=XV q c p1 p2 (mQ q (bfQ q c)) (mQ q (afQ q c)) pv r.rows.length cv hv;have P4:=iF q c p1 p2 (mQ q (bfQ q c)) (mQ q (afQ q c)) pv r.rows.length cv hv hm
 have P5:=UW q c p1 p2 (mQ q (bfQ q c)) (mQ q (afQ q c)) r pv r.rows.length cv b5 134 (fun a b=>decide (a<b)) call134 oG;have P6:=UW q c p1 p2 (mQ q (bfQ q c)) (mQ q (afQ q c)) r pv r.rows.length cv b6 136 (fun a b=>decide (b<a)) call136 oI
 rw [e2]at P3;rw [e1,e2]at P5 P6;rcases hk with h|h|h|h|h|h|h
 · rw [show G6 q.kd=127 by rw [h];rfl,show IC b5 b6 q.kd=[] by rw [h];rfl,rows1 (.inl h)]
   refine H8 P1 [[(b5,.cells #[.func (.func 134) #[] #[]] 73 (0,0))],[(b6,.cells #[.func (.func 136) #[] #[]] 73 (0,0))]] Ap0 ?_;rintro w H' ⟨rv',s',rfl,h3,rfl⟩;exact ⟨[s'],_,⟨rv',s',V,h3,V⟩,by simp;exact .refl _⟩
 · rw [show G6 q.kd=127 by rw [h];rfl,show IC b5 b6 q.kd=[] by rw [h];rfl,rows1 (.inr h)]
   refine H8 P1 [[(b5,.cells #[.func (.func 134) #[] #[]] 73 (0,0))],[(b6,.cells #[.func (.func 136) #[] #[]] 73 (0,0))]] Ap0 ?_;rintro w H' ⟨rv',s',rfl,h3,rfl⟩;exact ⟨[s'],_,⟨rv',s',V,h3,V⟩,by simp;exact .refl _⟩
 · rw [show G6 q.kd=129 by rw [h];rfl,show IC b5 b6 q.kd=[] by rw [h];rfl,show Bo q c r=(⟨r.rows,if(afQ q c).isSome then r.val+1 else r.val -1,r.fnd⟩,true) by unfold Bo;rw [Am6 Ao7,Am7 h]]
   refine H8 P3 [sr,s2,[(b5,.cells #[.func (.func 134) #[] #[]] 73 (0,0))],[(b6,.cells #[.func (.func 136) #[] #[]] 73 (0,0))]] Ap0 ?_;rintro w H' ⟨rfl,rfl⟩;exact ⟨[sr],_,⟨_,sr,V,hr,V⟩,by simp;exact .refl _⟩
 · rw [show G6 q.kd=131 by rw [h];rfl,show IC b5 b6 q.kd=[] by rw [h];rfl,show Bo q c r=(⟨r.rows,r.val+(mQ q (afQ q c) -mQ q (bfQ q c)),r.fnd⟩,true) by unfold Bo;rw [Am6 Ao7,Am6 Ao7,Am7 h]]
   refine H8 P4 [sr,s2,[(b5,.cells #[.func (.func 134) #[] #[]] 73 (0,0))],[(b6,.cells #[.func (.func 136) #[] #[]] 73 (0,0))]] Ap0 ?_;rintro w H' ⟨rfl,rfl⟩;exact ⟨[sr],_,⟨_,sr,V,hr,V⟩,by simp;exact .refl _⟩
 · have e9:Bo q c r=G8 (fun a b=>decide (a<b)) (bfQ q c).isSome (afQ q c).isSome (mQ q (bfQ q c)) (mQ q (afQ q c)) r:=by unfold Bo;rw [Am6 Ao7,Am6 Ao7,Am6 Ao7,Am7 h]
   have e8:(Bo q c r).1.rows=r.rows:=by rw [e9,M9]
   rw [show G6 q.kd=208 by rw [h];rfl,show IC b5 b6 q.kd=[I5 b5] by rw [h];rfl];rw [<-e9]at P5;refine H8 P5 [sr,s2,[(b6,.cells #[.func (.func 136) #[] #[]] 73 (0,0))]] (by simp;rw [<-zM,<-zM];exact AF7) ?_;rintro w H' ⟨rfl,rfl⟩;exact ⟨[sr],[(b5,_)]++s2++_,⟨_,sr,rfl,by rw [e8];exact hr,rfl⟩,by simp;exact AF7.symm⟩
 · have e9:Bo q c r=G8 (fun a b=>decide (b<a)) (bfQ q c).isSome (afQ q c).isSome (mQ q (bfQ q c)) (mQ q (afQ q c)) r:=by unfold Bo;rw [Am6 Ao7,Am6 Ao7,Am6 Ao7,Am6 Ao7,Am7 h]
   have e8:(Bo q c r).1.rows=r.rows:=by rw [e9,M9]
   rw [show G6 q.kd=208 by rw [h];rfl,show IC b5 b6 q.kd=[I5 b6] by rw [h];rfl];rw [<-e9]at P6;refine H8 P6 [sr,s2,[(b5,.cells #[.func (.func 134) #[] #[]] 73 (0,0))]] (by simp;rw [<-zM,<-zM];exact ((List.Perm.swap _ _ []).append_left _).trans AF7) ?_;rintro w H' ⟨rfl,rfl⟩;exact ⟨[sr],[(b6,_)]++s2++_,⟨_,sr,rfl,by rw [e8];exact hr,rfl⟩,by simp;exact AF7.symm⟩
 · rw [show G6 q.kd=138 by rw [h];rfl,show IC b5 b6 q.kd=[] by rw [h];rfl,show Bo q c r=Cs q c r by unfold Bo;rw [Am6 Ao7,Am6 Ao7,Am6 Ao7,Am6 Ao7,Am6 Ao7]]
   refine H8 P7 [[(b5,.cells #[.func (.func 134) #[] #[]] 73 (0,0))],[(b6,.cells #[.func (.func 136) #[] #[]] 73 (0,0))]] Ap0 ?_;rintro w H' ⟨rv',s',rfl,h3,rfl⟩;exact ⟨[s'],_,⟨rv',s',V,h3,V⟩,by simp;exact .refl _⟩
def DI(q:QM)(c:Chg):Bool:=decide c.ok&&CU q c
def Co(q:QM)(c:Chg)(r:Bw):Bw×Bool:=if DI q c then(if(Bo q c r).2 then((Bo q c r).1,true)else(Bw.none,false))else(r,true)
def Gp(q:QM)(r:Bw):List Chg->Option Bw
 |[]=>some r
 |c::cs=>if(Co q c r).2 then Gp q (Co q c r).1 cs else none
theorem RQ(q:QM):∀(a:List Chg) (r:Bw) (b:List Chg),Gp q r (a++b)=(Gp q r a).bind fun r'=>Gp q r' b
 |[],_,_=>rfl
 |c::a,r,b=>by
  show(if(Co q c r).2 then Gp q (Co q c r).1 (a++b)else none)=(if(Co q c r).2 then Gp q (Co q c r).1 a else none).bind fun r'=>Gp q r' b;split
  · exact RQ q a _ b
  · rfl
def BQ(q:QM)(r:Bw)(cs:List Chg):Bw×Bool×Bool:=match Gp q r cs with
 |some r'=>(r',cs.any (DI q),true)
 |none=>(Bw.none,true,false)
theorem gM(q:QM)(c:Chg)(r:Bw):(Co q c r).1.rows.length<=r.rows.length+2:=by
 have h:=ah q c r;unfold Co;split
 · split
   · exact h
   · exact zT _
 · exact AM5 _ _
theorem ag(hm:MIn q c){B:Int}(h:-B<=r.val/\r.val<=B)(h0:0<=B):-(B+2000000000)<=(Bo q c r).1.val/\(Bo q c r).1.val<=B+2000000000:=by
 obtain ⟨⟨h1,h2⟩,h3,h4⟩:=hm;have hx:∀lt b a,-(B+2000000000)<=(G8 lt b a (mQ q (bfQ q c)) (mQ q (afQ q c)) r).1.val/\(G8 lt b a (mQ q (bfQ q c)) (mQ q (afQ q c)) r).1.val<=B+2000000000:=fun lt b a=>by
  unfold G8;split
  · constructor<;>(simp only;omega)
  · split
    · simp only
      split<;>(constructor<;>omega)
    · constructor<;>(simp only;omega)
 unfold Bo;split
 · constructor<;>(simp only;omega)
 · split
   · simp only
     split<;>(constructor<;>omega)
   · split
     · constructor<;>(simp only;omega)
     · split
       · exact hx _ _ _
       · split
         · exact hx _ _ _
         · rw [ai];constructor<;>omega
theorem gL{B:Int}(h:-B<=r.val/\r.val<=B)(h0:0<=B):-(B+2000000000)<=(Co q c r).1.val/\(Co q c r).1.val<=B+2000000000:=by
 unfold Co;split
 · rename_i h9
   unfold DI at h9;rw [zy]at h9;split
   · exact ag (nz q (An1 h9.1)) h h0
   · constructor<;>(simp only [Bw.none];omega)
 · constructor<;>(simp only;omega)
variable{cs:List Chg}
theorem Jg{rk:Bw}{x:Chg}(h:Gp q r (cs.take k)=some rk)(hx:cs[k]?=some x):Gp q r (cs.take (k+1))=if(Co q x rk).2 then some (Co q x rk).1 else none:=by
 rw [Bc hx,RQ,h];show Gp q rk [x]=_
 unfold Gp Gp;rfl
theorem PE(h:Gp q r (cs.take k)=none):Gp q r cs=none:=by
 rw [<-AB4 k cs,RQ,h];rfl
theorem V5{x:Chg}(f:Chg->Bool)(hx:cs[k]?=some x):(cs.take (k+1)).any f=((cs.take k).any f||f x):=by
 rw [Bc hx,List.any_append,AS7,AT3,AO1]
theorem VV{q:QM}:∀(cs:List Chg) (r r':Bw) (B:Int) (n:Nat),Gp q r cs=some r'->(-B<=r.val/\r.val<=B)->0<=B->r.rows.length<=n->(-(B+2000000000*(cs.length:Int))<=r'.val/\r'.val<=B+2000000000*(cs.length:Int))/\r'.rows.length<=n+2*cs.length
 |[],r,r',B,n,h,h1,h2,h3=>by
  unfold Gp at h;injection h with h
  subst h;simp only [AF4];exact ⟨⟨by omega,by omega⟩,h3⟩
 |c::cs,r,r',B,n,h,h1,h2,h3=>by
  unfold Gp at h;split at h
  · have h4:=gL (q:=q) (c:=c) h1 h2
    have h5:=gM q c r;have h6:=VV cs _ r' (B+2000000000) (n+2) h h4 Ao7 Ao7
    rw [ze];obtain ⟨⟨h7,h8⟩,h9⟩:=h6;refine ⟨⟨?_,?_⟩,by omega⟩<;>(push_cast;omega)
  · cases h
set_option maxHeartbeats 1000000 in
theorem Rm(q:QM)(hq:BH q)(c:Chg)(hr:Dh A rv r.rows)(hn:r.rows.length<=100000000)(hv:-4000000000000000000<=r.val/\r.val<=4000000000000000000):BR Tryz.prog 110 #[.agg #[I4 q.kd,I4 q.tb,I4 q.cl,I4 q.lo,I4 q.hi,I4 q.bq,I4 q.ot],.agg #[rv,I4 r.val,.bool r.fnd],.agg #[I4 c.t,I4 c.k,.bool c.had,I4 c.o.a,I4 c.o.b,I4 c.o.c,.bool c.has,I4 c.n.a,I4 c.n.b,I4 c.n.c]] [A] (fun w H'=>∃rv' s',w= .tuple #[.agg #[rv',I4 (Co q c r).1.val,.bool (Co q c r).1.fnd],.bool (Co q c r).2]/\BZ 5 83 rv' (Co q c r).1.rows.length (Ac (Co q c r).1.rows) s'/\H'=[s',A]):=by
 have hml:=mL;obtain ⟨pv,cv,rfl,_⟩:=id hr;refine Se func110 ntmps110 [0,1,2] ?_;intro u R;refine Zq<|Zg<|Ze (Bx #[I4 q.kd,I4 q.tb,I4 q.cl,I4 q.lo,I4 q.hi,I4 q.bq,I4 q.ot]) ?_;rintro _ _ ⟨bq,rfl,rfl⟩;refine Ze (Bx #[.slice pv r.rows.length cv,I4 r.val,.bool r.fnd]) ?_;rintro _ _ ⟨br,rfl,rfl⟩;refine Ze (Bx #[I4 c.t,I4 c.k,.bool c.had,I4 c.o.a,I4 c.o.b,I4 c.o.c,.bool c.has,I4 c.n.a,I4 c.n.b,I4 c.n.c]) ?_;rintro _ _ ⟨bc,rfl,rfl⟩;refine Ze (Al AW5 #[_,_,_]) ?_;rintro _ _ ⟨bo,rfl,rfl⟩;refine Za Y<|Z0<|Zx<|Zq<|Zg<|Zh 0 AU6 V rfl AW8 Y<|Zl Ab2 Y ?_;refine Zc [_] Y call109 Y V (GJ hr Ao7) ?_;rintro _ _ ⟨_,⟨s1,h1,rfl⟩,rfl⟩;obtain ⟨g1,c1,rfl⟩:=h1.form;refine Zh 0 AU6 V rfl AW8 Y<|Xe (Zs AW8 Y Y V (hi:=by(simp;done))) ?_;refine Z0<|Zx<|Zq<|Zq<|Zg<|Zo Wh (AA (cs:=#[_,_,_,_,_,_,_]) AX9 AV8 Y (by(simp;done)) Ap1) ?_;refine Zo Wh (AA (cs:=#[_,_,_,_,_,_,_,_,_,_]) Aa3 AW4 Y (by(simp;done)) Ap1) ?_;refine Xr [_,_] Y call22 Y V (K8 q c) ?_;rw [show(decide (BH q)&&(decide c.ok&&CU q c))=DI q c by rw [Am8 hq];rfl];refine Zv (Br Y)<|Z0<|Zn [3,4,5,6,17] ?_;refine Zx<|AR Y (fun ht=>?_) (fun ht=>?_)
 ·
  have ht9:DI q c=false:=by simpa using ht
  refine Zq<|Zg<|Zo Wh (AA (cs:=#[_,_,_]) AV6 AU3 Y (by(simp;done)) Ap1) ?_;refine Xe (Xw AU3 _) ?_;refine Za Y<|Z0<|Zx<|AC<|Zt<|Bu V results110 Y Wh (Ap AV6 AU3 Wn (V)) Y (by
   have e9:Co q c r=(r,true):=by unfold Co;rw [ht9];rfl
   exact ⟨.slice g1 r.rows.length c1,s1,by rw [e9];rfl,by rw [e9];exact h1,rfl⟩)
 have ht9:DI q c=true:=by simpa using ht
 have hco:c.ok:=by unfold DI at ht9;rw [zy]at ht9;exact An1 ht9.1
 refine AJ<|Zx<|Zb [3,4,5,6] ?_;refine Ea (e0:=[(3,_),(4,_),(5,_)]) (H0:=[s1]) (fun e H=>∃(b8:Nat) (g3:Option Addr) (c3:Nat) (s3:List A8),(BZ 5 83 (.slice g3 (Bo q c r).1.rows.length c3) (Bo q c r).1.rows.length (Ac (Bo q c r).1.rows) s3)/\e=[(8,I5 b8),(9,.bool (Bo q c r).2)]/\H=[[(b8,.cells #[.slice g3 (Bo q c r).1.rows.length c3,I4 (Bo q c r).1.val,.bool (Bo q c r).1.fnd] 53 (0,0))],s3]) Wp ?hx_2 ?hy_2
 case hx_2=>
  refine Az (n:=16) (0::0::2::7::15::0::0::97::0::511::1023::2047::2047::0::12287::32767::[]) 25217 Ao8 Ao8 V<|An9 1 V (AB (off:=0) AU9 V rfl AU1 Y)<|Ao0 2 V AU2 Y ?_;refine Ao4 5 V Wh (AA (cs:=#[_,_,_,_,_,_,_]) AX9 AV8 Y (by(simp;done)) Ap1) ?_;refine Ao4 6 V Wh (AA (cs:=#[_,_,_,_,_,_,_,_,_,_]) Aa3 AW4 Y (by(simp;done)) Ap1) ?_;refine Ao4 8 V Wh (AA (cs:=#[_,_,_]) AV6 AU3 Y (by(simp;done)) Ap1) ?_;refine Zz (l:=[0,13])<|Ao5 [true,true,true,true] [(8,(_,_)),(6,(_,_)),(5,(_,_)),(2,(_,_))] V rfl (Zw [] Y call68 Y V (NJ)) ?hk_3 Bp ?hl_3
  case hk_3=>
   rintro _ _ ⟨_,⟨mb,es,ck,lm,b5,b6,rfl,hm,hp,rfl⟩,rfl⟩;refine ⟨Zk (Zk (Zk (Zk (AV)))),?_⟩;have hget:=Ul hp hm.keys hq.kind
   refine Ao4 3 rfl Wh (DK Gz Ac4 Ad1 hm (fun _ _=>trivial) (trivial) ((by rw [hget];exact rfl:_=Value.agg #[.func (.func (Gh q.kd)) #[] #[],.func (.func (G6 q.kd)) #[] (IC b5 b6 q.kd).toArray])) Y Y) ?_;refine An9 4 V (Vi Ac3 V isAgg160 Y V)<|Zz (l:=[7,13])<|Ao5 [true,true,false,false,true] [(3,(_,_)),(8,(_,_)),(2,(_,_))] V rfl (Zw [_,_] Y call69 Y V (JR q hq.2.1 (by have:=hq.2.2.2;omega) c)) ?hk_4 Bp ?hl_4
   case hk_4=>
    rintro _ _ ⟨_,⟨p1,p2,s21,s22,rfl,hP1,hP2,rfl⟩,rfl⟩;refine ⟨Zk (Zk (Zk (AV))),?_⟩;refine Zz (l:=[9,13])<|Ao5 [false,false,false] [] V rfl (Zw [_,_] Y (KG hq.kind) Y V (KM q c hq (nz q hco) hP1 hP2 b5 b6 r g1 c1 s1 h1 hn hv)) ?hk_5 Bp ?hl_5
    case hk_5=>
     rintro _ _ ⟨_,⟨rv2,s3,rfl,h3,rfl⟩,rfl⟩;refine ⟨AV,?_⟩;obtain ⟨g3,c3,rfl⟩:=h3.form;refine An9 10 V (AP Y)<|An9 11 V (Bt Y V)<|An9 12 V (Bt Y V)<|Zz (l:=[13])<|Ao5 [] [] V rfl (Al AW5 #[_,_,_]) ?hk_6 (fun _ _ h=>h.elim) ?hl_6
     case hk_6=>
      rintro _ _ ⟨b8,rfl,rfl⟩;refine ⟨AV,?_⟩;refine Yw 14 32767 V (Xw AU3 #[.slice g3 (Bo q c r).1.rows.length c3,I4 (Bo q c r).1.val,.bool (Bo q c r).1.fnd]) ?_;rintro _ _ ⟨rfl,rfl⟩;refine An9 15 V (Aq Y)<|Ag<|Zn [8,9,6] ?_;refine Bi (e':=[(8,_),(9,_)]) (by exact ⟨b8,g3,c3,s3,h3,V,V⟩)
     exact Ae
    refine Ao5 [true,true,true] [(3,(_,_)),(8,(_,_)),(2,(_,_))] V rfl (Al AW5 #[_,_,_]) ?hk_9 (fun _ _ h=>h.elim) ?hl_9
    case hk_9=>
     rintro _ _ ⟨b8,rfl,rfl⟩;refine ⟨Zk (Zk (Zk (AV))),?_⟩;refine Zz (l:=[9])<|Ao5 [false,false,false] [] V rfl (Zw [_,_] Y (KG hq.kind) Y V (KM q c hq (nz q hco) hP1 hP2 b5 b6 r g1 c1 s1 h1 hn hv)) ?hk_10 Bp ?hl_10
     case hk_10=>
      rintro _ _ ⟨_,⟨rv2,s3,rfl,h3,rfl⟩,rfl⟩;refine ⟨AV,?_⟩;obtain ⟨g3,c3,rfl⟩:=h3.form;refine An9 10 V (AP Y)<|An9 11 V (Bt Y V)<|An9 12 V (Bt Y V)<|Zz (l:=[14])<|Ao5 [] [] V rfl (Xw AU3 #[.slice g3 (Bo q c r).1.rows.length c3,I4 (Bo q c r).1.val,.bool (Bo q c r).1.fnd]) ?hk_11 (fun _ _ h=>h.elim) ?hl_11
      case hk_11=>
       rintro _ _ ⟨rfl,rfl⟩;refine ⟨AV,?_⟩;refine An9 15 V (Aq Y)<|Ag<|Zn [8,9,6] ?_;refine Bi (e':=[(8,_),(9,_)]) (by exact ⟨b8,g3,c3,s3,h3,V,V⟩)
      exact Ae
     exact Ae
    exact Ae
   refine Ao5 [true,true,true,true,true] [(3,(_,_)),(8,(_,_)),(6,(_,_)),(5,(_,_)),(2,(_,_))] V rfl (Al AW5 #[_,_,_]) ?hk_13 (fun _ _ h=>h.elim) ?hl_13
   case hk_13=>
    rintro _ _ ⟨b8,rfl,rfl⟩;refine ⟨Zk (Zk (Zk (Zk (Zk (AV))))),?_⟩;refine Zz (l:=[7])<|Ao5 [true,true,false,false,true] [(3,(_,_)),(8,(_,_)),(2,(_,_))] V rfl (Zw [_,_] Y call69 Y V (JR q hq.2.1 (by have:=hq.2.2.2;omega) c)) ?hk_14 Bp ?hl_14
    case hk_14=>
     rintro _ _ ⟨_,⟨p1,p2,s21,s22,rfl,hP1,hP2,rfl⟩,rfl⟩;refine ⟨Zk (Zk (Zk (AV))),?_⟩;refine Zz (l:=[9])<|Ao5 [false,false,false] [] V rfl (Zw [_,_] Y (KG hq.kind) Y V (KM q c hq (nz q hco) hP1 hP2 b5 b6 r g1 c1 s1 h1 hn hv)) ?hk_15 Bp ?hl_15
     case hk_15=>
      rintro _ _ ⟨_,⟨rv2,s3,rfl,h3,rfl⟩,rfl⟩;refine ⟨AV,?_⟩;obtain ⟨g3,c3,rfl⟩:=h3.form;refine An9 10 V (AP Y)<|An9 11 V (Bt Y V)<|An9 12 V (Bt Y V)<|Zz (l:=[14])<|Ao5 [] [] V rfl (Xw AU3 #[.slice g3 (Bo q c r).1.rows.length c3,I4 (Bo q c r).1.val,.bool (Bo q c r).1.fnd]) ?hk_16 (fun _ _ h=>h.elim) ?hl_16
      case hk_16=>
       rintro _ _ ⟨rfl,rfl⟩;refine ⟨AV,?_⟩;refine An9 15 V (Aq Y)<|Ag<|Zn [8,9,6] ?_;refine Bi (e':=[(8,_),(9,_)]) (by exact ⟨b8,g3,c3,s3,h3,V,V⟩)
      exact Ae
     exact Ae
    exact Ae
   exact Ae
  refine Ao5 [true,true,true,true] [(8,(_,_)),(6,(_,_)),(5,(_,_)),(2,(_,_))] V rfl (Al AW5 #[_,_,_]) ?hk_18 (fun _ _ h=>h.elim) ?hl_18
  case hk_18=>
   rintro _ _ ⟨b8,rfl,rfl⟩;refine ⟨Zk (Zk (Zk (Zk (AV)))),?_⟩;refine Zz (l:=[0])<|Ao5 [true,true,true,true] [(8,(_,_)),(6,(_,_)),(5,(_,_)),(2,(_,_))] V rfl (Zw [] Y call68 Y V (NJ)) ?hk_19 Bp ?hl_19
   case hk_19=>
    rintro _ _ ⟨_,⟨mb,es,ck,lm,b5,b6,rfl,hm,hp,rfl⟩,rfl⟩;refine ⟨Zk (Zk (Zk (Zk (AV)))),?_⟩;have hget:=Ul hp hm.keys hq.kind
    refine Ao4 3 rfl Wh (DK Gz Ac4 Ad1 hm (fun _ _=>trivial) (trivial) ((by rw [hget];exact rfl:_=Value.agg #[.func (.func (Gh q.kd)) #[] #[],.func (.func (G6 q.kd)) #[] (IC b5 b6 q.kd).toArray])) Y Y) ?_;refine An9 4 V (Vi Ac3 V isAgg160 Y V)<|Zz (l:=[7])<|Ao5 [true,true,false,false,true] [(3,(_,_)),(8,(_,_)),(2,(_,_))] V rfl (Zw [_,_] Y call69 Y V (JR q hq.2.1 (by have:=hq.2.2.2;omega) c)) ?hk_20 Bp ?hl_20
    case hk_20=>
     rintro _ _ ⟨_,⟨p1,p2,s21,s22,rfl,hP1,hP2,rfl⟩,rfl⟩;refine ⟨Zk (Zk (Zk (AV))),?_⟩;refine Zz (l:=[9])<|Ao5 [false,false,false] [] V rfl (Zw [_,_] Y (KG hq.kind) Y V (KM q c hq (nz q hco) hP1 hP2 b5 b6 r g1 c1 s1 h1 hn hv)) ?hk_21 Bp ?hl_21
     case hk_21=>
      rintro _ _ ⟨_,⟨rv2,s3,rfl,h3,rfl⟩,rfl⟩;refine ⟨AV,?_⟩;obtain ⟨g3,c3,rfl⟩:=h3.form;refine An9 10 V (AP Y)<|An9 11 V (Bt Y V)<|An9 12 V (Bt Y V)<|Zz (l:=[14])<|Ao5 [] [] V rfl (Xw AU3 #[.slice g3 (Bo q c r).1.rows.length c3,I4 (Bo q c r).1.val,.bool (Bo q c r).1.fnd]) ?hk_22 (fun _ _ h=>h.elim) ?hl_22
      case hk_22=>
       rintro _ _ ⟨rfl,rfl⟩;refine ⟨AV,?_⟩;refine An9 15 V (Aq Y)<|Ag<|Zn [8,9,6] ?_;refine Bi (e':=[(8,_),(9,_)]) (by exact ⟨b8,g3,c3,s3,h3,V,V⟩)
      exact Ae
     exact Ae
    exact Ae
   exact Ae
  exact Ae
 rintro _ _ ⟨b8,g3,c3,s3,h3,rfl,rfl⟩;refine Zq<|Zq<|Zg<|Zm Y<|Zv (Br Y)<|Z0<|Zx<|AR Y (fun hk=>?_) (fun hk=>?_)
 ·
  have hk9:(Bo q c r).2=false:=by simpa using hk
  refine Zq<|BV<|Zg<|Zv (BL (vs:=[]) (cs:=#[_,_,_]) Y (AY (pl:=#[(0,1),(1,1),(2,1)]) AW5 AU6 (fun _=>by kernel_rfl) V))<|Xe (Xw AU3 _) ?_;refine Za Y<|Z0<|Zx<|AC<|Zt<|Bu V results110 Y Wh (Ap AV6 AU3 Wn (V)) Y (by
   have e9:Co q c r=(Bw.none,false):=by unfold Co;rw [ht9,Am7 rfl,hk9];rfl
   exact ⟨.slice none 0 0,[],by rw [e9];rfl,by rw [e9];exact Bf 5 _,rfl⟩)
 have hk9:(Bo q c r).2=true:=by simpa using hk
 refine AJ<|Zx<|Zq<|Zg<|Zo Wh (AA (cs:=#[_,_,_]) AV6 AU3 Y (by(simp;done)) Ap1) ?_;refine Xe (Xw AU3 _) ?_;refine Za Y<|Z0<|Zx<|AC<|Bu V results110 Y Wh (Ap AV6 AU3 Wn (V)) Y (by
  have e9:Co q c r=((Bo q c r).1,true):=by unfold Co;rw [ht9,Am7 rfl,hk9];rfl
  exact ⟨.slice g3 _ c3,s3,by rw [e9];rfl,by rw [e9];exact h3,rfl⟩)
set_option maxHeartbeats 1000000 in
theorem J5(q:QM)(hq:BH q)(p:Int)(qa:Option Addr)(cap:Nat)(cs:List Chg){MC:List A8}(hC:Ct MC (.slice qa cs.length cap) cs)(hcl:cs.length<=1000)(hr:Dh A rv r.rows)(hn:r.rows.length<=10000000)(hv:-2000000000000000000<=r.val/\r.val<=2000000000000000000):BR Tryz.prog 55 #[.agg #[I4 q.kd,I4 q.tb,I4 q.cl,I4 q.lo,I4 q.hi,I4 q.bq,I4 q.ot],.agg #[rv,I4 r.val,.bool r.fnd],.agg #[I4 p,.slice qa cs.length cap]] [A,MC] (fun w H'=>∃rv' s',w= .tuple #[.agg #[rv',I4 (BQ q r cs).1.val,.bool (BQ q r cs).1.fnd],.bool (BQ q r cs).2.1,.bool (BQ q r cs).2.2]/\BZ 5 83 rv' (BQ q r cs).1.rows.length (Ac (BQ q r cs).1.rows) s'/\H'=[s',A,MC]):=by
 have hml:=mL;obtain ⟨pv,cv,rfl,_⟩:=id hr;obtain ⟨pc,capc,hvc,hcm,hgc⟩:=id hC;injection hvc with hv1 hv2 hv3
 subst hv1 hv3;refine Se func55 ntmps55 [0,1,2] ?_;intro u R;refine Zq<|Zg<|Ze (Bx #[I4 q.kd,I4 q.tb,I4 q.cl,I4 q.lo,I4 q.hi,I4 q.bq,I4 q.ot]) ?_;rintro _ _ ⟨bq,rfl,rfl⟩;refine Ze (Bx #[.slice pv r.rows.length cv,I4 r.val,.bool r.fnd]) ?_;rintro _ _ ⟨br,rfl,rfl⟩;refine Ze (Bx #[I4 p,.slice qa cs.length cap]) ?_;rintro _ _ ⟨bc,rfl,rfl⟩;refine Ze (Al AW5 #[_,_,_]) ?_;rintro _ _ ⟨bo,rfl,rfl⟩;refine Za Y<|Za Y<|Z0<|Zx<|Zq<|Zg<|Za Y<|Z0<|Zx<|Zq<|Zg<|Zh 0 AU6 V rfl AW8 Y<|Zl Ab2 Y ?_;refine Zc [_] Y call109 Y V (GJ hr Ao7) ?_;rintro _ _ ⟨_,⟨s1,h1,rfl⟩,rfl⟩;obtain ⟨g1,c1,rfl⟩:=h1.form;refine Zh 0 AU6 V rfl AW8 Y<|Xe (Zs AW8 Y Y V (hi:=by(simp;done))) ?_;refine Z0<|Zx<|Zq<|Zq<|Zg<|Zh 1 AY1 V rfl Ai4 Y<|Zl isAgg48 Y ?_;refine Zv (Aa AZ0 Y)<|Zm Y<|Z0<|Zn [3,4,6,9,18,19,20] ?_;refine Zx<|AO<|Zb [9,20,3,4,6,18,19] ?_;refine BI (e0:=[(9,_),(20,_)]) (fun m e H=>∃(k:Nat) (rk:Bw) (gk:Option Addr) (ck:Nat) (sk:List A8),m=cs.length -k/\(k<=cs.length/\Gp q r (cs.take k)=some rk/\BZ 5 83 (.slice gk rk.rows.length ck) rk.rows.length (Ac rk.rows) sk)/\e=[(9,.bool ((cs.take k).any (DI q))),(20,I4 (k:Int))]/\H=[[(br,.cells #[.slice gk rk.rows.length ck,I4 rk.val,.bool rk.fnd] 53 (0,0))],sk]) (by exact ⟨0,r,g1,c1,s1,rfl,⟨zT _,by rw [AC9];rfl,h1⟩,rfl,rfl⟩) Wp ?_;rintro _ _ _ ⟨k,rk,gk,ck,sk,rfl,⟨hk,hrk,hsk⟩,rfl,rfl⟩;obtain ⟨hkv,hkn⟩:=VV (cs.take k) r rk 2000000000000000000 10000000 hrk hv Ao7 hn;have hkl:(cs.take k).length=k:=by rw [zN];omega
 rw [hkl]at hkv hkn;have hUk:=D7 hsk Ao7
 refine Zq<|Zg<|Zv (Au Y Y)<|Z0<|Zx<|Zq<|Aw Y (fun hlt=>?_) (fun hlt=>?_)
 ·
  obtain ⟨y,hy⟩:∃y,cs[k]?=some y:=⟨_,zD hlt⟩;obtain ⟨g2,off2,cur2,T2,zz2,rfl,hm2,hsz2,hex2⟩:=hgc k y hy;refine AJ<|Zx<|Zq<|AO<|Zq<|Zg<|Bq (Ai AZ0 AW4 Y Y Ao7)<|CW (cs:=[(g2,.cells cur2 T2 zz2)]) (by simp [hm2]) (AA (cs:=#[I4 y.t,I4 y.k,.bool y.had,I4 y.o.a,I4 y.o.b,I4 y.o.c,.bool y.has,I4 y.n.a,I4 y.n.b,I4 y.n.c]) Aa3 AW4 Y Ao7 hex2) V rfl ?_;refine Ze (Al Ab1 #[_,_,_,_,_,_,_,_,_,_]) ?_;rintro _ _ ⟨bx,rfl,rfl⟩;refine Xe (Xw AW4 #[I4 y.t,I4 y.k,.bool y.had,I4 y.o.a,I4 y.o.b,I4 y.o.c,.bool y.has,I4 y.n.a,I4 y.n.b,I4 y.n.c]) ?_;refine Z0<|Zx<|Zq<|Zg<|Zm Y<|Zm Y<|Aj (t:=25) Y V (fun h1t=>?_) (fun h1t=>?_)
  ·
   have e9:(cs.take (k+1)).any (DI q)=true:=by rw [V5 _ hy,h1t];rfl
   refine A7 Y V<|A7 Y V<|A7 Y V<|Zv (AZ Y Y)<|Za Y<|Z0<|Zx<|Zq<|Zg<|Za Y<|Z0<|Zn [3,4,6,9,11,18,19,20] ?_;refine Zx<|Zq<|Zg<|Zo Wh (AA (cs:=#[_,_,_,_,_,_,_]) AX9 AV8 Y (by(simp;done)) Ap1) ?_;refine Zo Wh (AA (cs:=#[_,_,_]) AV6 AU3 Y (by(simp;done)) Ap1) ?_;refine Zo Wh (AA (cs:=#[_,_,_,_,_,_,_,_,_,_]) Aa3 AW4 Y (by(simp;done)) Ap1) ?_;refine Zc [_,_,_] Y call110 Y V (Rm q hq y hUk Ao7 Ao7) ?_;rintro _ _ ⟨_,⟨rv3,s3,rfl,h3,rfl⟩,rfl⟩;obtain ⟨g3,c3,rfl⟩:=h3.form;refine Zm Y<|Zd Y rfl<|Zd Y rfl<|Xe (BK AU3 Y Y Ap9 Wu (by exact (rfl:_=(#[.slice g3 (Co q y rk).1.rows.length c3,I4 (Co q y rk).1.val,.bool (Co q y rk).1.fnd]:Array Value))) Ap3 (by(simp;done)) (by exact BF _)) ?_;refine Za Y<|Z0<|Zx<|Zq<|Zg<|Zm Y<|Zv (Br Y)<|Z0<|Zx<|AR Y (fun hok=>?_) (fun hok=>?_)
   ·
    have hk9:(Co q y rk).2=false:=by simpa using hok
    have e8:BQ q r cs=(Bw.none,true,false):=by unfold BQ;rw [PE (k:=k+1) (by rw [Jg hrk hy,hk9];rfl)]
    refine Zq<|BV<|Zg<|Zv (BL (vs:=[]) (cs:=#[_,_,_]) Y (AY (pl:=#[(0,1),(1,1),(2,1)]) AW5 AU6 (fun _=>by kernel_rfl) V))<|Xe (Xw AU3 _) ?_;refine Za Y<|Za Y<|Z0<|Zn [6,7,8] ?_;refine Zx<|AC<|Ab<|Zt<|Zt<|Ab<|Zt<|Gy rfl results55 Y Wh (Ap AV6 AU3 Wn (rfl)) Y Y (by exact ⟨.slice none 0 0,[],by rw [e8];rfl,by rw [e8];exact Bf 5 _,rfl⟩)
   have hk9:(Co q y rk).2=true:=by simpa using hok
   refine AJ<|A9<|Zx<|Zg<|Ya (n:=1) Y Y<|Zm Y<|Z0<|Zn [9,20,3,4,6,18,19] ?_;refine Ad (e':=[(9,_),(20,_)]) (by exact ⟨k+1,(Co q y rk).1,g3,c3,s3,rfl,⟨by omega,by rw [Jg hrk hy,Am7 hk9],h3⟩,by rw [e9],rfl⟩)
  have e9:(cs.take (k+1)).any (DI q)=DI q y:=by rw [V5 _ hy,h1t];rfl
  refine FJ Y Wh (AA (cs:=#[_,_,_,_,_,_,_]) AX9 AV8 Y (by(simp;done)) Ap1) V rfl ?_;refine FJ Y Wh (AA (cs:=#[_,_,_,_,_,_,_,_,_,_]) Aa3 AW4 Y (by(simp;done)) Ap1) V rfl ?_;refine Xr [_,_] Y call22 Y V (K8 q y) ?_;rw [show(decide (BH q)&&(decide y.ok&&CU q y))=DI q y by rw [Am8 hq];rfl];refine Zv (AU Y Y)<|Za Y<|Z0<|Zx<|Zq<|Zg<|Za Y<|Z0<|Zn [3,4,6,9,11,18,19,20] ?_;refine Zx<|Zq<|Zg<|Zo Wh (AA (cs:=#[_,_,_,_,_,_,_]) AX9 AV8 Y (by(simp;done)) Ap1) ?_;refine Zo Wh (AA (cs:=#[_,_,_]) AV6 AU3 Y (by(simp;done)) Ap1) ?_;refine Zo Wh (AA (cs:=#[_,_,_,_,_,_,_,_,_,_]) Aa3 AW4 Y (by(simp;done)) Ap1) ?_;refine Zc [_,_,_] Y call110 Y V (Rm q hq y hUk Ao7 Ao7) ?_;rintro _ _ ⟨_,⟨rv3,s3,rfl,h3,rfl⟩,rfl⟩;obtain ⟨g3,c3,rfl⟩:=h3.form;refine Zm Y<|Zd Y rfl<|Zd Y rfl<|Xe (BK AU3 Y Y Ap9 Wu (by exact (rfl:_=(#[.slice g3 (Co q y rk).1.rows.length c3,I4 (Co q y rk).1.val,.bool (Co q y rk).1.fnd]:Array Value))) Ap3 (by(simp;done)) (by exact BF _)) ?_;refine Za Y<|Z0<|Zx<|Zq<|Zg<|Zm Y<|Zv (Br Y)<|Z0<|Zx<|AR Y (fun hok=>?_) (fun hok=>?_)
  ·
   have hk9:(Co q y rk).2=false:=by simpa using hok
   have e8:BQ q r cs=(Bw.none,true,false):=by unfold BQ;rw [PE (k:=k+1) (by rw [Jg hrk hy,hk9];rfl)]
   refine Zq<|BV<|Zg<|Zv (BL (vs:=[]) (cs:=#[_,_,_]) Y (AY (pl:=#[(0,1),(1,1),(2,1)]) AW5 AU6 (fun _=>by kernel_rfl) V))<|Xe (Xw AU3 _) ?_;refine Za Y<|Za Y<|Z0<|Zn [6,7,8] ?_;refine Zx<|AC<|Ab<|Zt<|Zt<|Ab<|Zt<|Gy rfl results55 Y Wh (Ap AV6 AU3 Wn (rfl)) Y Y (by exact ⟨.slice none 0 0,[],by rw [e8];rfl,by rw [e8];exact Bf 5 _,rfl⟩)
  have hk9:(Co q y rk).2=true:=by simpa using hok
  refine AJ<|A9<|Zx<|Zg<|Ya (n:=1) Y Y<|Zm Y<|Z0<|Zn [9,20,3,4,6,18,19] ?_;refine Ad (e':=[(9,_),(20,_)]) (by exact ⟨k+1,(Co q y rk).1,g3,c3,s3,rfl,⟨by omega,by rw [Jg hrk hy,Am7 hk9],h3⟩,by rw [e9],rfl⟩)
 have ek:k=cs.length:=by omega
 subst ek;rw [AA4]at hrk⊢;have e8:BQ q r cs=(rk,cs.any (DI q),true):=by unfold BQ;rw [hrk]
 refine BG<|Zt<|Zt<|AX<|Zx<|Zq<|Zg<|Zo Wh (AA (cs:=#[_,_,_]) AV6 AU3 Y (by(simp;done)) Ap1) ?_;refine Zm Y<|Xe (Xw AU3 _) ?_;refine Za Y<|Za Y<|Z0<|Zx<|AC<|Gy rfl results55 Y Wh (Ap AV6 AU3 Wn (rfl)) Y Y (by exact ⟨.slice gk _ ck,sk,by rw [e8];rfl,by rw [e8];exact hsk,rfl⟩)
end Go.Proofs.YteaiajghbkenoaaGreatDoor
