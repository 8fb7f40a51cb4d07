/- Records in plain words: a log that can be applied. -/
import Derived.Test.YtelliknjeemfoaaGreatDoorLg9
import Derived.WalkSpells
import Derived.Shelf.SlSortCmp.NoneTotal
set_option linter.unusedVariables false
set_option linter.unusedSimpArgs false
namespace Go.Proofs.YtelliknjeemfoaaGreatDoor
open Go.Proofs.Tryz
open Go Go.RowKit Gw
set_option maxRecDepth 100000
attribute [local irreducible] Gw.At Gw.Nx Gw.Ops
structure BJ where
 p:Int
 q:B8
 cap:Nat
 cs:List Chg
def Dy(l:List BJ):List A2:=l.flatMap (fun r=>[I0 r.p,.slice r.q r.cs.length r.cap])
def EQ(M:List A8)(v:A2)(l:List BJ):Prop:=∃p cap,v= .slice p l.length cap/\(l.length<=maxLen/\l.length<=cap)/\∀(i:Nat) (r:BJ),l[i]?=some r->CE M (.slice r.q r.cs.length r.cap) r.cs/\∃g off cur T zz,p=some ⟨g,off,none⟩/\(g,Obj.cells cur T zz)∈M/\off+i*2+2<=cur.size/\cur.extract (off+i*2) (off+i*2+2)=#[I0 r.p,.slice r.q r.cs.length r.cap]
def BP(l:List BJ):List AU:=l.foldl (fun rs r=>DI rs r.cs) []
theorem Gh(l:List BJ)(r:BJ):BP (l++[r])=DI (BP l) r.cs:=by unfold BP;rw [cQ];rfl
def Ew(l:List BJ):Prop:=∀(i:Nat) (r:BJ),l[i]?=some r->KM (BP (l.take i)) (i:Int) r.p r.cs/\r.cs.length<=3
variable{rs:List AU}{cs:List Chg}
theorem iC{p rp:Int}(G:BN rs)(h:KM rs p rp cs):BN (DI rs cs)/\(DI rs cs).length<=2000:=by
 have m:=Ty h.ok.ord;obtain ⟨g,_⟩:=KG G m h.fit cs.length (CT _);have h2:=NY G m h.fit cs.length (CT _)
 rw [HI]at g h2;exact ⟨g,by have:=h.size;omega⟩
theorem Ew.rows{l:List BJ}(h:Ew l):∀i,i<=l.length->BN (BP (l.take i))/\(BP (l.take i)).length<=2000
 |0,_=>⟨List.Pairwise.nil,C7 _⟩
 |i+1,hi=>by
  obtain ⟨r,g⟩:∃r,l[i]?=some r:=⟨_,BE A0⟩;have m:=Ew.rows h i A0
  rw [S5,g];show BN (BP (l.take i++[r]))/\_
  rw [show(some r).toList=[r] from rfl,Gh];exact iC m.1 (h i r g).1
theorem Ew.all{l:List BJ}(h:Ew l):BN (BP l)/\(BP l).length<=2000:=by
 have:=h.rows l.length (CT _);rwa [HI]at this
theorem Ew.snoc{l:List BJ}(h:Ew l){r:BJ}(G:KM (BP l) (l.length:Int) r.p r.cs)(m:r.cs.length<=3):Ew (l++[r]):=by
 intro i x hx;rw [pt]at hx;split at hx
 · rename_i hi
   rw [de A0];exact h i x hx
 · rename_i hi
   have g:=(C6.1 hx).1;simp only [G0]at g;have e:i=l.length:=by omega
   subst e;rw [W1]at hx;injection hx with hx
   subst hx;rw [It rfl];exact ⟨G,m⟩
theorem FJ:∀(cs:List Chg),(Cj cs).length=cs.length*10
 |[]=>rfl
 |c::cs=>by
  have:=FJ cs;unfold Cj at*;rw [IH,C2,this,EV];simp;omega
theorem Iq(a b:List Chg):Cj (a++b)=Cj a++Cj b:=by unfold Cj;rw [S0]
theorem UY(cs:List Chg)(k:Nat):(Cj cs).take (k*10)=Cj (cs.take k):=by
 rcases Ft cs.length k with h|h
 · rw [LS (by rw [FJ];omega),LS A0]
 · have e:Cj cs=Cj (cs.take k)++Cj (cs.drop k):=by rw [<-Iq,MA]
   rw [e,It (by rw [FJ,Cl];omega)]
theorem UZ(cs:List Chg)(k:Nat):(Cj cs).drop (k*10)=Cj (cs.drop k):=by
 rcases Ft cs.length k with h|h
 · rw [Up (by rw [FJ];omega),Up A0];rfl
 · have e:Cj cs=Cj (cs.take k)++Cj (cs.drop k):=by rw [<-Iq,MA]
   rw [e,ZD (by rw [FJ,Cl];omega)]
theorem Kl(cs:List Chg):∀u∈Cj cs,u.oneCell'=true:=by
 intro u g;unfold Cj at g;obtain ⟨r,_,h⟩:=T6.1 g;simp only [Dg,T0,Sf]at h;rcases h with rfl|rfl|rfl|rfl|rfl|rfl|rfl|rfl|rfl|rfl<;>rfl
theorem uy{cur:AM}{j:Nat}{y:Chg}(h:Bv cur 0 (Cj cs))(hy:cs[j]?=some y):cur[j*10]?=some (I0 y.t)/\cur[j*10+1]?=some (I0 y.k):=by
 have m:=Io (fun c:Chg=>[I0 c.t,I0 c.k,.bool c.had,I0 c.o.a,I0 c.o.b,I0 c.o.c,.bool c.has,I0 c.n.a,I0 c.n.b,I0 c.n.c]) 10 (fun _=>rfl) cs j y hy;have e:∀q,((Cj cs).drop (j*10)).take 10=[I0 y.t,I0 y.k,.bool y.had,I0 y.o.a,I0 y.o.b,I0 y.o.c,.bool y.has,I0 y.n.a,I0 y.n.b,I0 y.n.c]->q<10->(Cj cs)[j*10+q]?=([I0 y.t,I0 y.k,.bool y.had,I0 y.o.a,I0 y.o.b,I0 y.o.c,.bool y.has,I0 y.n.a,I0 y.n.b,I0 y.n.c]:List A2)[q]?:=fun q G I=>by
  rw [<-G,HU,B0 I,S2]
 have a0:=h.get (j*10+0) _ ((e 0 m A0).trans rfl);have g:=h.get (j*10+1) _ ((e 1 m A0).trans rfl)
 rw [DP]at a0 g;exact ⟨a0,g⟩
variable{v:A2}
theorem Jd{M:List A8}(h:CE M v cs)(s:List A8):CE (M++s) v cs:=by
 obtain ⟨p,cap,hv,J,I⟩:=h;refine ⟨p,cap,hv,J,fun i c hc=>?_⟩;obtain ⟨g,off,cur,T,zz,m,h2,G⟩:=I i c hc;exact ⟨g,off,cur,T,zz,m,Fc _ h2,G⟩
theorem H6{M:List A8}(h:CE M v cs)(s:List A8):CE (s++M) v cs:=by
 obtain ⟨p,cap,hv,J,I⟩:=h;refine ⟨p,cap,hv,J,fun i c hc=>?_⟩;obtain ⟨g,off,cur,T,zz,m,h2,G⟩:=I i c hc;exact ⟨g,off,cur,T,zz,m,HC _ h2,G⟩
def WB(M:List A8)(v:A2)(xs:List (List Int)):Prop:=∃p cap,v= .slice p xs.length cap/\(xs.length<=maxLen/\xs.length<=cap)/\∀(i:Nat) (z:List Int),xs[i]?=some z->z.length=6/\(∀n∈z,-9223372036854775808<=n/\n<=9223372036854775807)/\∃g off cur T zz,p=some ⟨g,off,none⟩/\(g,Obj.cells cur T zz)∈M/\∀(j:Nat) (n:Int),z[j]?=some n->cur[off+i*6+j]?=some (I0 n)
theorem Jv{l:List BJ}{s I:List A8}(h:BX 2 26 v l.length (Dy l) s)(hn:l.length<=maxLen)(K:∀r∈l,CE I (.slice r.q r.cs.length r.cap) r.cs):EQ (s++I) v l:=by
 obtain ⟨b,cap,rfl⟩:=h.form;refine ⟨b,cap,V,⟨hn,Ez h⟩,fun i r G=>⟨H6 (K r (E7 G)) s,?_⟩⟩;obtain ⟨g,J,cur,z,hv,rfl,O,m⟩:=Ju h i (C6.1 G).1;injection hv with hv1 hv2 hv3
 refine ⟨g,0,cur,26,z,hv1,Fc _ (CH.2 V),by omega,?_⟩;rw [DP];apply HW.1;rw [m];exact Io _ 2 (fun _=>rfl) l i r G
theorem KU(a b:List BJ):Dy (a++b)=Dy a++Dy b:=by unfold Dy;rw [S0]
theorem tp:BQ prog 25 #[] [] (fun r H'=>∃g,r=I1 g/\H'=[[(g,.cells #[.slice none 0 0,I0 0] 83 (0,0))]]):=by
 refine Se func25 ntmps25 [] ?_;intro u R;refine A3<|AH Y<|A3<|Zv (BM (vs:=[]) (cs:=#[_,_]) Y (Aa (pl:=#[(0,1),(1,1)]) zeroValue83 N6 (fun _=>by kernel_rfl) V))<|Ze (Bx #[_,_])<|AF fun g=>Ax Y<|AX V results25 Y (by exact ⟨g,V,V⟩)
def K2(k:Int×Int):A2:= .agg #[I0 k.1,I0 k.2]
def KD(k:Int×Int):Prop:=(Lit.int .i64 k.1).wf=true/\(Lit.int .i64 k.2).wf=true
def Rv(r:AU):A2:= .agg r.A88
theorem vV:∀a b,K2 a=K2 b->a=b:=by
 rintro ⟨a,b⟩ ⟨c,d⟩ h;unfold K2 at h;simp only [Value.agg.injEq,rM,kq,Value.int.injEq,eM,cF]at h;rw [h.1,h.2]
theorem Oh(P:Program)(d:Nat)(a:Int){t:AK}(g:P.underlying t=some (.int .i64))(h:(Lit.int .i64 a).wf=true):P.keyLits (d+1) t [.int .i64 a]=some [.int .i64 a]:=by
 unfold Program.keyLits;rw [g];simp [h]
theorem uC:Fw prog 222 K2 KD:=Fw.ofLaw (deep_law (m:=3) (by decide) (by kernel_rfl) (by kernel_rfl) (by kernel_rfl)) (by
 rintro ⟨a,b⟩ ⟨I,J⟩;have G:Tryz.prog.types.size+1=(Tryz.prog.types.size -1)+1+1:=by
  have:0<Tryz.prog.types.size:=IF AD;omega
 have hc:Tryz.prog.cellsOf 3=1:=by kernel_rfl
 have g:Tryz.prog.cellsOf 222=2:=by kernel_rfl
 have U:Tryz.prog.keyType 222=true:=by kernel_rfl
 have O:(K2 (a,b)).formed prog 222=true:=by
  unfold Value.formed K2;rw [lP];simp [g]
 unfold keyOf;rw [lP];simp only [U,O,Bool.and_self,J1];obtain ⟨d,K⟩:∃d,Tryz.prog.types.size+1=d+1+1:=⟨_,G⟩;rw [K];unfold Program.keyLits;rw [lP];have X:=Oh prog d a D3 I
 have Z:=Oh prog d b D3 J;simp [K2,Value.cells,hc,g,X,Z]) vV
structure H8(l:List ((Int×Int)×A2))(rs:List AU):Prop where
 mem:∀p,p∈l↔∃r∈rs,p=((r.t,r.k),Rv r)
 kd:∀r∈rs,KD (r.t,r.k)
theorem sP:H8 [] []:=⟨fun p=>by simp,fun r h=>by cases h⟩
variable{l:List ((Int×Int)×A2)}
theorem H8.keys(h:H8 l rs):∀p∈l,KD p.1:=fun p g=>by
 obtain ⟨r,m,rfl⟩:=(h.mem p).1 g;exact h.kd r m
theorem YF{a b:AU}(h:Rv a=Rv b):a=b:=by
 obtain ⟨t,k,⟨x,y,z⟩⟩:=a;obtain ⟨m,g,⟨G,I,J⟩⟩:=b;unfold Rv at h;simp only [Value.agg.injEq,rM,kq,Value.int.injEq,eM,cF]at h;obtain ⟨rfl,rfl,rfl,rfl,rfl⟩:=h;rfl
theorem H8.len{es:Array MapEntry}{ck:Nat}(I:Ck K2 es ck l)(h:H8 l rs)(K:BN rs):l.length=rs.length:=by
 have G:l.Nodup:=by
  have:=I.keys;rw [cI,W7]at this;rw [cI];exact this.imp (fun g e=>g (by rw [e]))
 have h2:(rs.map (fun r=>((r.t,r.k),Rv r))).Nodup:=by
  rw [cI,W7];refine K.imp (fun{a b} hab e=>?_);have e2:=YF (Prod.mk.inj e).2
  subst e2;unfold AU.lt2 at hab;omega
 have J:l.Perm (rs.map (fun r=>((r.t,r.k),Rv r))):=by
  rw [Sh G h2];intro p;rw [h.mem p,CM];constructor;· rintro ⟨r,m,rfl⟩;exact ⟨r,m,rfl⟩
  · rintro ⟨r,m,rfl⟩;exact ⟨r,m,rfl⟩
 rw [J.length_eq,Bm]
theorem H8.get{es:Array MapEntry}{ck:Nat}(J:Ck K2 es ck l)(h:H8 l rs)(O:BN rs)(t k:Int):
 (EL (t,k) l).getD (Rv AU.zero)=Rv (Fu rs t k).1/\(EL (t,k) l).isSome=(Fu rs t k).2:=by
 cases hg:(Fu rs t k).2 with
 |true=>
  obtain ⟨r,m,hi,_,I⟩:=JD hg;have G:((t,k),Rv r)∈l:=(h.mem _).2 ⟨r,m,by rw [show t=r.t from hi.1.symm,show k=r.k from hi.2.symm]⟩
  rw [Cw J.keys G,I];exact ⟨V,V⟩
 |false=>
  have g:∀r∈rs,¬r.is t k:=fun r m hi=>by rw [KF O m hi]at hg;cases hg
  have hn:EL (t,k) l=none:=DN (fun p K e=>by
   obtain ⟨r,m,rfl⟩:=(h.mem p).1 K;injection e with e1 e2
   exact g r m ⟨e1,e2⟩)
  rw [hn,Q3 g];exact ⟨V,V⟩
variable{c:Chg}
theorem H8.put{J:List ((Int×Int)×A2)}(h:H8 l rs)(I:BN rs)(G:GR rs c)(K:c.has=true)(O:KD (c.t,c.k))(U:∀p,p∈J↔p=((c.t,c.k),Rv ⟨c.t,c.k,c.n⟩)\/(p∈l/\p.1≠(c.t,c.k))):H8 J (EO rs c):=by
 refine ⟨fun p=>?_,fun r m=>?_⟩
 · rw [U p]
   constructor
   · rintro (rfl|⟨g,h2⟩)
     · exact ⟨_,(G9 I G _).2 (.inr ⟨K,rfl⟩),rfl⟩
     · obtain ⟨r,m,rfl⟩:=(h.mem p).1 g
       exact ⟨r,(G9 I G _).2 (.inl ⟨m,fun hi=>h2 (by rw [show r.t=c.t from hi.1,show r.k=c.k from hi.2])⟩),rfl⟩
   · rintro ⟨r,m,rfl⟩
     rcases (G9 I G _).1 m with⟨g,h2⟩|⟨_,rfl⟩
     · exact .inr ⟨(h.mem _).2 ⟨r,g,rfl⟩,fun e=>h2 (by injection e with e1 e2;exact ⟨e1,e2⟩)⟩
     · exact .inl rfl
 · rcases (G9 I G _).1 m with⟨g,_⟩|⟨_,rfl⟩
   · exact h.kd r g
   · exact O
theorem H8.drop{K:List ((Int×Int)×A2)}(h:H8 l rs)(I:BN rs)(G:GR rs c)(J:c.has=false)(O:∀p,p∈K↔p∈l/\p.1≠(c.t,c.k)):H8 K (EO rs c):=by
 refine ⟨fun p=>?_,fun r m=>?_⟩
 · rw [O p]
   constructor
   · rintro ⟨g,h2⟩
     obtain ⟨r,m,rfl⟩:=(h.mem p).1 g;exact ⟨r,(G9 I G _).2 (.inl ⟨m,fun hi=>h2 (by rw [show r.t=c.t from hi.1,show r.k=c.k from hi.2])⟩),rfl⟩
   · rintro ⟨r,m,rfl⟩
     rcases (G9 I G _).1 m with⟨g,h2⟩|⟨h9,_⟩
     · exact ⟨(h.mem _).2 ⟨r,g,rfl⟩,fun e=>h2 (by injection e with e1 e2;exact ⟨e1,e2⟩)⟩
     · rw [J]at h9;cases h9
 · rcases (G9 I G _).1 m with⟨g,_⟩|⟨h9,_⟩
   · exact h.kd r g
   · rw [J]at h9;cases h9
theorem Uf{n:Int}(h:-9223372036854775808<=n/\n<=9223372036854775807):(Lit.int .i64 n).wf=true:=by
 simp [Lit.wf,IntKind.min,IntKind.max,IntKind.signed,IntKind.bits];omega
theorem uw(h:c.ok):KD (c.t,c.k):=by
 obtain ⟨g,h2,_,_⟩:=h;have m:(0<=c.t/\c.t<=3)/\(1<=c.k/\c.k<=1000000):=by
  cases hh:c.had with
  |true=>
   have:c.before.ok:=cJ (fun hn=>h2 (.inl ⟨hh,hn⟩));rw [PD hh]at this;exact this.2
  |false=>
   cases hs:c.has with
   |true=>
    have:c.after.ok:=cJ (fun hn=>h2 (.inr ⟨hs,hn⟩));rw [Kq hs]at this;exact this.2
   |false=>exact absurd (.inl ⟨by rw [hh];decide,by rw [hs];decide⟩) g
 exact ⟨Uf (by show _<=c.t/\c.t<=_;omega),Uf (by show _<=c.k/\c.k<=_;omega)⟩
theorem OM(c:Chg):Az prog 122 #[.agg c.A87] [] (.tuple #[.agg #[I0 (ER c c.has c.n).t,I0 (ER c c.has c.n).k,I0 (ER c c.has c.n).v.a,I0 (ER c c.has c.n).v.b,I0 (ER c c.has c.n).v.c],.bool c.has]):=by
 refine Se func122 ntmps122 [0] ?_;intro u R;refine A3<|Ze (Bx #[_,_,_,_,_,_,_,_,_,_])<|AF fun g=>Ze (Al G1 #[_,_,_,_,_])<|AF fun m=>AH Y<|A3<|Zo Wh (AA (cs:=#[_,_,_,_,_,_,_,_,_,_]) HG Cd Y B9 B2)<|Zh 6 CC V rfl FA Y<|Zl GW Y<|Zh 7 CC V rfl E0 Y<|Zo Wh (AA (cs:=#[_,_,_]) HS E0 Y B9 B2)<|Xr [_,_,_] Y call175 Y V (WY c c.has c.n)<|Zd Y V<|Zd Y V<|Xe (Xw B3 _)<|B1 Y<|Zn [2,3] ?_;refine Zx<|AJ<|CP V results122 Y Wh (Av DE B3 Wn (V)) Y (by exact ⟨V,V⟩)
theorem A22:BQ prog 77 #[] [] (fun r H'=>∃g mb,r=I1 g/\H'=[[(g,.cells #[.map (some mb),I0 0] 220 (0,0))],[(mb,.map #[] 0)]]):=by
 refine Se func77 ntmps77 [] ?_;intro u R;refine A3<|AH Y<|A3<|Ze (DK)<|AF fun mb=>Zv (BM (vs:=[(0,_)]) (cs:=#[_,_]) Y (Aa (pl:=#[(0,1),(1,1)]) zeroValue218 dt (fun _=>by kernel_rfl) V))<|Zv (BM (vs:=[(0,_)]) (cs:=#[_,_]) Y (Aa (pl:=#[(0,2)]) zeroValue220 du (fun _=>by kernel_rfl) V))<|Ze (Bx #[_,_])<|AF fun g=>Ax Y<|AX V results77 Y (by exact ⟨g,mb,V,V⟩)
theorem wT(sp mb:Nat)(p rp:Int)(es:Array MapEntry)(ck:Nat)(lm:List ((Int×Int)×A2))(rs:List AU)(M:List A8)(q:B8)(cap:Nat)(cs:List Chg)(hm:Ck K2 es ck lm)(hR:H8 lm rs)(hO:CE M (.slice q cs.length cap) cs)(hs:BN rs)(hn:rs.length<=2000)(hA:KM rs p rp cs):
 Az prog 121 #[I1 sp,.agg #[I0 rp,.slice q cs.length cap]] [[(sp,.cells #[.map (some mb),I0 p] 220 (0,0))],[(mb,.map es ck)],M] (.bool true):=by
 have kv:=mL;obtain ⟨p9,ic,e9,l5,hg⟩:=id hO;injection e9 with e91 e92 e93
 subst e91 e93;have J:=hA.ok
 have l8:=hA.pos;have j5:=J.len
 have l9:=J.pos;have j3:=Ty J.ord
 have ek:=hR.len hm hs;refine Se func121 ntmps121 [0,1] ?_;intro u R;refine A3<|Ze (Bx #[_,_])<|AF fun b1=>D2 Y<|Zq<|Aw (n:=14) (0::1::3::7::15::31::15::79::207::463::975::1999::4095::8191::[]) 2 AD AD V<|GB 0 V Wh (AA (cs:=#[_,_]) Hh Fi Y B9 B2)<|Yw 1 3 V (Zu [_] Y call45 Y V (M7 rp q cap cs M hO)) ?_;rintro _ _ ⟨rfl,rfl⟩;rw [DO J];refine A1 2 V (Bh Y)<|A1 3 V (AQ Y)<|Cb (t:=13) Y (fun h1=>?_) (fun h1=>?_);·
  rw [h1];cases h1
 rw [h1];refine B5 4 V (AB (off:=0) GF V rfl A6 Y)<|Fk 5 V Wh (BL AE Y B2)<|B5 6 V (AQ Y)<|B5 7 V (Aq Y V)<|B5 8 V (AB (off:=0) du V rfl eI Y)<|B5 9 V (Ai (off:=1) dt V rfl A6 Y)<|Fk 10 V Wh (BL AE Y B2)<|B5 11 V (JX Y Y (IntWalk.i64_in _ A0))<|B5 12 V (GK Y Y)<|A1 13 V (AO Y Y)<|Ao<|Zn [0,3,23] ?_;refine Zx<|Ap Y (fun h2=>?_) (fun h2=>?_);·
  exfalso;contradiction
 refine B4<|AN Y<|Zp Y V<|Zh 0 du V rfl eI Y<|Zv (Ai (off:=0) dt V rfl sizeOf216 Y)<|Zl isAgg216 Y<|Zo Wh (Pv j0 hm Y)<|D2 Y<|A3<|Zh 1 GF V rfl KB Y<|Zl LL Y<|Zv (AR GO Y)<|Zm Y<|A5<|AP<|Zb [5,33,0,31,32] ?_;refine Ay (e0:=[(5,_),(33,_)]) (fun m e H=>∃(i:Nat),m=cs.length -i/\(i<=cs.length)/\e=[(5,I0 (Gr rs (cs.take i))),(33,I0 (i:Int))]/\H=[]) (by exact ⟨0,rfl,C7 _,by rw [ek];rfl,rfl⟩) Wp ?_;rintro _ _ _ ⟨i,rfl,hi,rfl,rfl⟩;have gq:=OG rs cs i
 refine A3<|Zv (Ar Y Y)<|A5<|Zq<|Ap Y (fun ax=>?_) (fun ax=>?_);·
  obtain ⟨x,hx⟩:∃x,cs[i]?=some x:=⟨_,BE ax⟩;obtain ⟨g,off,cur,T,zz,rfl,gm,o8,cu⟩:=hg i x hx;have gy:=J.all i x hx
  have d9:=uw gy;obtain ⟨cO,Z⟩:=hA.fit x (E7 hx);have K:=hR.get hm hs x.t x.k
  obtain ⟨O,af⟩:∃O,O=Fu rs x.t x.k:=⟨_,rfl⟩;rw [<-af]at K cO Z;clear af;refine B4<|Zq<|AP<|A3<|Ba (AZ GO Cd Y Y A0)<|CO (cs:=[(g,.cells cur T zz)]) (by simp [gm]) (AA (cs:=x.A87) HG Cd Y A0 cu) V rfl<|Ze (Al OK #[_,_,_,_,_,_,_,_,_,_])<|AF fun cb=>Xe (Xw Cd x.A87)<|A5<|Zq<|Aw (n:=17) (0::1::3::7::15::0::32::0::128::480::1023::2047::4095::4095::0::24575::65535::[]) 49152 AD AD V<|A1 0 V (AQ Y)<|A1 1 V (Aq Y V)<|A1 2 V (AB (off:=0) du V rfl eI Y)<|A1 3 V (Ai (off:=0) dt V rfl sizeOf216 Y)<|Bk 4 V isAgg216 Y<|A1 5 V (AB (off:=0) CC V rfl A6 Y)<|Bk 6 V AE Y<|A1 7 V (AB (off:=1) CC V rfl A6 Y)<|Bk 8 V AE Y<|A1 9 V (BM (vs:=[(0,_),(1,_)]) (cs:=#[_,_]) Y (Aa (pl:=#[(0,1),(1,1)]) zeroValue222 lP (fun _=>by kernel_rfl) V))<|GB 10 V Wh (EN uC j0 G1 hm hR.keys (d9) (K) Y Y)<|A1 11 V (AQ Y)<|A1 12 V (CV Y V)<|A1 13 V (CV Y V)<|Zz (l:=[14])<|C0 [true,true,true,true] [(10,(_,_)),(8,(_,_)),(6,(_,_)),(4,(_,_))] V rfl (Al G1 #[_,_,_,_,_]) ?_ (fun _ _ h=>h.elim) Am;rintro _ _ ⟨ob,rfl,rfl⟩;refine CA<|Yw 15 65535 V (Xw B3 #[I0 O.1.t,I0 O.1.k,I0 O.1.v.a,I0 O.1.v.b,I0 O.1.v.c])<|F1<|A1 16 V (BI Y)<|Ao<|Zn [0,5,7,8,9,31,32,33] ?_;refine Zx<|B7 Y<|Zh 2 CC V rfl FA Y<|Zl GW Y<|Zv (J7 Mn Y Y)<|Zm Y<|Ae (t:=55) Y V (fun bn=>?_) (fun bn=>?_);·
   exfalso;contradiction
  refine Zf Y Y<|Zf Y Y<|Ab (t:=57) Y V (fun U=>?_) (fun U=>?_);focus
   refine Yf 2 H3 V rfl E0 Y<|DY Y Wh (AA (cs:=#[_,_,_]) HS E0 Y B9 B2) V rfl<|Yf 3 CC V rfl E0 Y<|DY Y Wh (AA (cs:=#[_,_,_]) HS E0 Y B9 B2) V rfl<|Yg (KW AD K0 D3 AE A6 Y Y) ?_;refine Yg (AL Y Y)<|BW Y Y<|Z0<|Zn [0,5,7,31,32,33,64] ?_;refine Zx<|Ap Y (fun X=>?_) (fun X=>?_);exfalso;exact X (Z U)
  rotate_left
  focus
   refine AG<|AG<|C5<|Yg (AO Y Y)<|BW Y Y<|Z0<|Zn [0,5,7,31,32,33,64] ?_;refine Zx<|DW Y ?_
  all_goals
   refine B4<|Zq<|A3<|Zh 2 CC V rfl FA Y<|Zl GW Y<|A5<|AY Y (fun I=>?_) (fun I=>?_);·
    refine Zg<|Zm Y<|Ba (Gu Y Y (IntWalk.i64_in _ A0))<|AH Y<|A3<|Zh 6 CC V rfl FA Y<|Zl GW Y<|A5<|AY Y (fun G=>?_) (fun G=>?_);·
     refine Zg<|Zm Y<|Yi Y Y<|B1 Y<|A9<|Zx<|E6 Y Y Y<|DM (e:=[(5,_),(33,_)]) (h:=by exact ⟨i+1,rfl,by omega,by rw [yu hx I G],rfl⟩)
    refine AC<|A9<|Zx<|E6 Y Y Y<|DM (e:=[(5,_),(33,_)]) (h:=by exact ⟨i+1,rfl,by omega,by rw [yw hx I G],rfl⟩)
   refine AC<|CD<|Zh 6 CC V rfl FA Y<|Zl GW Y<|A5<|AY Y (fun G=>?_) (fun G=>?_);·
    refine Zg<|Zm Y<|Yi Y Y<|B1 Y<|A9<|Zx<|E6 Y Y Y<|DM (e:=[(5,_),(33,_)]) (h:=by exact ⟨i+1,rfl,by omega,by rw [yx hx I G],rfl⟩)
   refine AC<|A9<|Zx<|E6 Y Y Y<|DM (e:=[(5,_),(33,_)]) (h:=by exact ⟨i+1,rfl,by omega,by rw [yz hx I G],rfl⟩)
 have ei:i=cs.length:=by omega
 subst ei;rw [HI]at gq⊢;refine BB<|Zt<|Zt<|AV<|Zx<|AN Y<|Zv (N9 Y Y)<|Ax Y<|AX rfl results121 Y (by exact ⟨by rw [DO hA.size],rfl⟩)
theorem pF(sp mb:Nat)(p rp:Int)(es:Array MapEntry)(ck:Nat)(lm:List ((Int×Int)×A2))(rs:List AU)(M:List A8)(q:B8)(cap:Nat)(cs:List Chg)(hm:Ck K2 es ck lm)(hR:H8 lm rs)(hO:CE M (.slice q cs.length cap) cs)(hs:BN rs)(hn:rs.length<=2000)(hA:KM rs p rp cs):
 BQ prog 78 #[I1 sp,.agg #[I0 rp,.slice q cs.length cap]] [[(sp,.cells #[.map (some mb),I0 p] 220 (0,0))],[(mb,.map es ck)],M] (fun r H'=>r=I0 0/\∃af X gq,Ck K2 af X gq/\H8 gq (DI rs cs)/\H'=[[(sp,.cells #[.map (some mb),I0 rp] 220 (0,0))],[(mb,.map af X)],M]):=by
 have o9:=mL;obtain ⟨p9,l9,e9,ow,hg⟩:=id hO;injection e9 with e91 e92 e93
 subst e91 e93;have I:=hA.ok
 have p8:=hA.pos;have o8:=I.len
 have pg:=I.pos;have cu:=Ty I.ord
 refine Se func78 ntmps78 [0,1] ?_;intro u R;refine A3<|Ze (Bx #[_,_])<|AF fun b1=>D2 Y<|AP<|AN Y<|Zv (BZ mA Y Y)<|AH Y<|AY Y (fun h1=>by cases h1)<|fun h1=>AN Y<|Zo Wh (AA (cs:=#[_,_]) Hh Fi Y B9 B2) ?_;refine Xr [_,_] Y call121 Y V (wT sp mb p rp es ck lm rs M q cap cs hm hR hO hs hn hA) ?_;refine Zv (Bh Y)<|AH Y<|AY Y (fun h2=>by cases h2)<|fun h2=>AC<|A9<|Zx<|Zq<|A3<|Zh 1 GF V rfl KB Y<|Zl LL Y ?_;refine Zv (AR GO Y)<|Zm Y<|Z0<|Zn [0,3,19,20,21] ?_;refine Zx<|AP<|Zb [21,0,3,19,20] ?_;refine Ay (e0:=[(21,_)]) (fun m e H=>∃(i:Nat) (es:Array MapEntry) (ck:Nat) (lm:List ((Int×Int)×A2)),m=cs.length -i/\(i<=cs.length/\Ck K2 es ck lm/\H8 lm (DI rs (cs.take i)))/\e=[(21,I0 (i:Int))]/\H=[[(mb,.map es ck)]]) (by exact ⟨0,es,ck,lm,rfl,⟨C7 _,hm,by rw [MT];exact hR⟩,rfl,rfl⟩) Wp ?_;rintro _ _ _ ⟨i,ic,gy,l8,rfl,⟨hi,O,G⟩,rfl,rfl⟩;refine A3<|Zv (Ar Y Y)<|A5<|Zq<|Ap Y (fun d9=>?_) (fun d9=>?_);·
  obtain ⟨x,hx⟩:∃x,cs[i]?=some x:=⟨_,BE d9⟩;obtain ⟨g,off,cur,T,zz,rfl,kv,pq,j3⟩:=hg i x hx;have l5:=I.all i x hx
  have K:=uw l5;obtain ⟨gm,j5⟩:=KG hs cu hA.fit i hi;have cO:=j5 i x (CT _) hx
  refine B4<|Zq<|AP<|A3<|Ba (AZ GO Cd Y Y A0)<|CO (cs:=[(g,.cells cur T zz)]) (by simp [kv]) (AA (cs:=x.A87) HG Cd Y A0 j3) V rfl ?_;refine Ze (Al OK #[_,_,_,_,_,_,_,_,_,_])<|AF fun cb=>Xe (Xw Cd x.A87) ?_;refine A5<|A3<|Zh 0 CC V rfl A6 Y<|Zl AE Y ?_;refine Zh 1 CC V rfl A6 Y<|Zl AE Y ?_;refine Zv (BM (vs:=[(0,_),(1,_)]) (cs:=#[_,_]) Y (Aa (pl:=#[(0,1),(1,1)]) zeroValue222 lP (fun _=>by kernel_rfl) V))<|Ze (Al zeroValue222 #[_,_])<|AF fun kb=>Xe (BF sizeOf222 Y Y (by(simp [Value.oneCell',Value.cells];done)) Wu (by exact (rfl:_=(#[I0 x.t,I0 x.k]:AM))) Fm An (by exact BA _)) ?_;refine A5<|A3<|Zo Wh (AA (cs:=#[_,_,_,_,_,_,_,_,_,_]) HG Cd Y B9 B2) ?_;refine Xr [_] Y call122 Y V (OM x) ?_;refine Zm Y<|Zd Y V<|Zd Y V<|Ze (Al G1 #[_,_,_,_,_])<|AF fun xb=>Xe (Xw B3 #[I0 (ER x x.has x.n).t,I0 (ER x x.has x.n).k,I0 (ER x x.has x.n).v.a,I0 (ER x x.has x.n).v.b,I0 (ER x x.has x.n).v.c]) ?_;refine B1 Y<|Zn [0,3,7,8,9,19,20,21] ?_;refine Zx<|AN Y<|A5<|AY Y (fun hh=>?_) (fun hh=>?_);focus
   rw [uE hh];refine Aw (n:=8) (0::1::3::7::15::0::0::127::[]) 128 AD AD V<|A1 0 V (AQ Y)<|A1 1 V (Aq Y V)<|A1 2 V (AB (off:=0) du V rfl eI Y)<|A1 3 V (Ai (off:=0) dt V rfl sizeOf216 Y)<|Bk 4 V isAgg216 Y ?_;refine GB 5 V Wh (AA (cs:=#[_,_]) isAgg222 sizeOf222 Y B9 B2) ?_;refine GB 6 V Wh (AA (cs:=#[_,_,_,_,_]) DE B3 Y B9 B2) ?_;refine Yw 7 255 V (FD uC j0 O G.keys (K) Y Y Y Wo) ?_;rintro _ _ ⟨rfl,ax,Z,J,ek,U,rfl⟩;have bn:H8 J (DI rs (cs.take (i+1))):=by rw [G6 rs cs i x hx];exact G.put gm cO hh K U
  rotate_left
  focus
   refine Aw (n:=7) (0::1::3::7::15::0::63::[]) 64 AD AD V<|A1 0 V (AQ Y)<|A1 1 V (Aq Y V)<|A1 2 V (AB (off:=0) du V rfl eI Y)<|A1 3 V (Ai (off:=0) dt V rfl sizeOf216 Y)<|Bk 4 V isAgg216 Y ?_;refine GB 5 V Wh (AA (cs:=#[_,_]) isAgg222 sizeOf222 Y B9 B2) ?_;refine Yw 6 127 V (LF uC j0 O G.keys (K) Y Y Wo) ?_;rintro _ _ ⟨rfl,ax,Z,J,ek,U,rfl⟩;have bn:H8 J (DI rs (cs.take (i+1))):=by rw [G6 rs cs i x hx];exact G.drop gm cO hh U
  all_goals
   refine Ao<|A9<|Zx<|E6 Y Y Y<|HB (by exact ⟨i+1,ax,Z,J,V,⟨by omega,ek,bn⟩,V,V⟩)
 have ei:i=cs.length:=by omega
 subst ei;rw [HI]at G;refine BB<|Zt<|Zt<|AV<|Zx<|AN Y<|Zh 0 GF V rfl A6 Y<|Zl AE Y ?_;refine Zp Y V<|Zh 0 du V rfl eI Y<|Zv (Ai (off:=1) dt V rfl A6 Y)<|Xe (Zs A6 Y Y V (hc:=by exact (V:_=(#[.map (some mb),I0 rp]:AM))) (hi:=by(simp;done))) ?_;refine A5<|A3<|Ax Y<|AX V results78 Y (by exact ⟨V,ic,gy,l8,O,G,V⟩)
theorem x5(q:B8)(cap:Nat)(l:List BJ)(M:List A8)(af:EQ M (.slice q l.length cap) l)(G:Ew l)(hl:l.length<=1000000)(k:Nat)(hk:k<=l.length):
 BQ prog 38 #[.slice q l.length cap,I0 (k:Int)] [M] (fun r H'=>∃J mb es ck lm,r= .tuple #[I1 J,I0 0]/\Ck K2 es ck lm/\H8 lm (BP (l.take k))/\H'=[[(J,.cells #[.map (some mb),I0 (k:Int)] 220 (0,0))],[(mb,.map es ck)],M]):=by
 have ic:=mL;obtain ⟨p9,gq,e9,⟨j3,gy⟩,hg⟩:=id af;injection e9 with e91 e92 e93
 subst e91 e93;refine Se func38 ntmps38 [0,1] ?_;intro u R;refine A3<|Za Y<|AH Y<|B7 Y<|Zv (Ar (n:=0) Y Y)<|Zm Y<|Ae (t:=11) Y V (fun h1=>?_) (fun h1=>?_);·
  exfalso;(cases h1;done)
 refine Zf Y Y<|Zf Y Y<|Yg (AR HA Y)<|Yg (Df Y Y)<|BW Y Y<|A5<|Ap Y (fun h2=>by omega)<|fun h2=>AC<|CD<|Zc [] Y call77 Y V (A22) ?_;rintro _ _ ⟨_,⟨J,mb,rfl,rfl⟩,rfl⟩;refine AH Y<|B7 Y<|Zm Y<|Ba (Bn HA Fi Y Y A0)<|Zv (AR HA Y)<|Zm Y<|Z0<|Zn [6,20,21,22] ?_;refine Zx<|AP<|Zb [22,6,20,21] ?_;refine Ay (e0:=[(22,_)]) (fun m e H=>∃(i:Nat) (es:Array MapEntry) (ck:Nat) (lm:List ((Int×Int)×A2)),m=k -i/\(i<=k/\Ck K2 es ck lm/\H8 lm (BP (l.take i)))/\e=[(22,I0 (i:Int))]/\H=[[(J,.cells #[.map (some mb),I0 (i:Int)] 220 (0,0))],[(mb,.map es ck)]]) (by exact ⟨0,#[],0,[],rfl,⟨C7 _,EX _,by rw [MT];exact sP⟩,rfl,rfl⟩) Wp ?_;rintro _ _ _ ⟨i,es,ck,lm,rfl,⟨hi,hm,hR⟩,rfl,rfl⟩;refine A3<|Zv (Ar Y Y)<|A5<|Zq<|Ap Y (fun cu=>?_) (fun cu=>?_);·
  obtain ⟨r,hr⟩:∃r,l[i]?=some r:=⟨_,BE A0⟩;obtain ⟨U,g,off,cur,T,zz,rfl,d9,j5,ax⟩:=hg i r hr;obtain ⟨hA,h3⟩:=G i r hr;have ek:=hA.pos
  obtain ⟨gm,bn⟩:=G.rows i A0;refine B4<|Zq<|AP<|A3<|Ba (AZ HA Fi Y Y A0)<|CO (cs:=[(g,.cells cur T zz)]) (by simp [d9]) (AA (cs:=#[_,_]) Hh Fi Y A0 ax) V rfl<|Ze (Al Tl #[_,_])<|AF fun rb=>Xe (Xw Fi #[I0 r.p,.slice r.q r.cs.length r.cap])<|A5<|AN Y<|Zo Wh (AA (cs:=#[_,_]) Hh Fi Y B9 B2)<|Zc [_,_] Y call78 Y V (pF J mb (i:Int) r.p es ck lm (BP (l.take i)) M r.q r.cap r.cs hm hR U gm bn hA) ?_;rintro _ _ ⟨_,⟨rfl,O,K,I,cO,X,rfl⟩,rfl⟩;have Z:H8 I (BP (l.take (i+1))):=by rw [S5,hr];show H8 I (BP (l.take i++[r]));rw [Gh];exact X
  rw [show r.p=((i+1:Nat):Int) by rw [ek];rfl];refine Zv (Dr (n:=0) Y Y)<|A5<|Ap Y (fun h4=>?_) (fun h4=>?_);·
   exfalso;exact h4 rfl
  refine AC<|A9<|Zx<|E6 Y Y Y<|HB (by exact ⟨i+1,O,K,I,V,⟨by omega,cO,Z⟩,V,V⟩)
 have ei:i=k:=by omega
 subst ei;refine BB<|Zt<|Zt<|AV<|Zx<|AN Y<|Za Y<|Ax Y<|Di V results38 Y Y (by exact ⟨J,mb,es,ck,lm,V,hm,hR,V⟩)
def Dk(r:AU)(c:Nat):Int:=if c=0 then r.k else if c=1 then r.v.a else if c=2 then r.v.b else r.v.c
def dN(c:Nat)(out:List AU)(v:Int):Nat:=(out.reverse.dropWhile (fun r=>decide (v<Dk r c))).length
def ZM(c:Nat)(out:List AU)(x:AU):List AU:=out.take (dN c out (Dk x c))++[x]++out.drop (dN c out (Dk x c))
def inR(t:Int)(c:Nat)(lo hi:Int)(r:AU):Bool:=decide (r.t=t/\lo<=Dk r c/\Dk r c<=hi)
def Dv(rs:List AU)(t:Int)(c:Nat)(lo hi:Int):List AU:=(rs.filter (inR t c lo hi)).foldl (ZM c) []
end Go.Proofs.YtelliknjeemfoaaGreatDoor
namespace Go.Proofs.YtelliknjeemfoaaGreatDoor
open Go.Proofs.Tryz
open Go Go.RowKit Gw
set_option maxRecDepth 100000
attribute [local irreducible] Gw.At Gw.Nx Gw.Ops
open Go.Sort
def Bj(r:AU)(c:Int):Int:=if c=0 then r.k else if c=1 then r.v.a else if c=2 then r.v.b else if c=3 then r.v.c else 0
set_option maxHeartbeats 1000000 in
theorem JN(r:AU)(c:Int)(hc:0<=c/\c<=3)(W:A4):Calls prog 128 #[.agg r.A88,I0 c] W fun e g=>e= .returned (I0 (Bj r c))/\∃(q:Nat) (o:Obj),g=grow (W.drewN q) #[o]:=by
 obtain ⟨t,k,⟨m,G,I⟩⟩:=r;rcases (by omega:c=0\/c=1\/c=2\/c=3)with rfl|rfl|rfl|rfl
 all_goals
  go_enter func128,ntmps128
  go_wp2
  go_ret
  exact ⟨rfl,0,_,by rw [alloc_eq_grow];rfl⟩
def orL(x y:Int):Int:=if x=0 then y else x
theorem rT(b:Nat)(x y:Int)(W:A4)(h0:W.cell? ⟨b,0,none⟩=some (I0 x))(I:W.cell? ⟨b,1,none⟩=some (I0 y)):Calls prog 184 #[I2 b 2 2] W fun e G=>e= .returned (I0 (orL x y))/\G=W:=by
 generalize hz:orL x y=z;have g:=Lib.hid hz
 clear hz
 go_enter func184,ntmps184
 go_wp2
 go_loop [5,8] (fun _ i=>∃(j:Nat),i=I0 j/\(j=0\/(j=1/\x=0)\/(j=2/\x=0/\y=0))) (fun _ i=>2 -(intOf i).toNat)
 case atStart=>exact ⟨0,rfl,.inl rfl⟩
 case round=>
  obtain ⟨j,rfl,m⟩:=hrel;rcases m with rfl|⟨rfl,hx⟩|⟨rfl,hx,hy⟩
  · by_cases hx:x=0
    · subst hx
      go_wp2
      go_round
      case rel=>exact ⟨1,by go_num,by simp⟩
      case measure=>simp [intOf]
    · go_wp2
      go_ret
      exact ⟨by rw [<-g.out];unfold orL;rw [As hx];rfl,rfl⟩
  · subst hx
    by_cases hy:y=0
    · subst hy
      go_wp2
      go_round
      case rel=>exact ⟨2,by go_num,by simp⟩
      case measure=>simp [intOf]
    · go_wp2
      go_ret
      exact ⟨by rw [<-g.out];unfold orL;rw [B0 rfl];rfl,rfl⟩
  · subst hx hy
    go_wp2
    go_ret
    exact ⟨by rw [<-g.out];rfl,rfl⟩
theorem Rm{u w:A4}{H:Hp}(h:Sat u H w)(q:Nat)(os:Array Obj):Sat u H (grow (w.drewN q) os):=by
 refine ⟨h.os,h.tape,h.output,h.nodup,fun p m=>?_⟩;have g:=h.lt m
 show(w.heap++os)[p.1]?=_;rw [ft g];exact h.get p m
theorem LG(r:AU)(c:Nat)(hc:c<=3):Bj r (c:Int)=Dk r c:=by
 rcases (by omega:c=0\/c=1\/c=2\/c=3)with rfl|rfl|rfl|rfl<;>rfl
theorem OL(r:AU)(c:Nat)(hc:c<=3):Az prog 128 #[.agg r.A88,I0 (c:Int)] [] (I0 (Dk r c)):=fun u R w g=>
 (JN r (c:Int) A0 w).mono (by
   rintro e m ⟨rfl,q,o,rfl⟩;exact .inl ⟨_,[],rfl,⟨by rw [LG r c hc],rfl⟩,Rm g q _⟩)
theorem qM(r:AU)(t:Int)(c:Nat)(lo hi:Int)(hc:c<=3)(g m G I:Nat):Az prog 135 #[.agg r.A88,I1 g,I1 m,I1 G,I1 I] [[(g,.cells #[I0 (c:Int)] 3 (0,0))],[(m,.cells #[I0 t] 3 (0,0))],[(G,.cells #[I0 lo] 3 (0,0))],[(I,.cells #[I0 hi] 3 (0,0))]] (.bool (inR t c lo hi r)):=by
 refine Se func135 ntmps135 [0,1,2,3,4] ?_;intro u R;refine A3<|Ze (Bx #[_,_,_,_,_])<|AF fun g=>AH Y<|A3<|Zo Wh (Pa #[_,_,_,_,_] DE B3 Y)<|Zl AE Y<|Xr [_,_] Y UP Y V (OL r c hc)<|AH Y<|A3<|Zh 0 H3 V rfl A6 Y<|Zl AE Y<|Zl AE Y<|Zv (CJ Y Y)<|Zm Y<|Ae (t:=15) Y V (fun J=>?_) (fun J=>?_);focus
  refine Zf Y Y<|Yl AE Y<|Yg (IL Y Y)<|BT Y Y<|Zm Y<|Ae (t:=20) Y V (fun h2=>?_) (fun h2=>?_);focus
   refine Zf Y Y<|Yl AE Y<|Yg (N9 Y Y)<|Zv (AL Y Y) ?_
  rotate_left
  refine AG<|C5<|BW Y Y<|B1 Y<|Zn [6] ?_;refine Zx<|AJ<|AX V results135 Y (by exact ⟨by unfold inR;(congr 1;simp;omega),V⟩)
 rotate_left
 focus
  refine AG<|C5<|BW Y Y<|Zm Y<|AG<|C5<|Zv (AO Y Y) ?_
 all_goals
  refine B1 Y<|Zn [6] ?_;refine Zx<|AJ<|AX V results135 Y (by exact ⟨by unfold inR;(simp_all;done),V⟩)
end Go.Proofs.YtelliknjeemfoaaGreatDoor
namespace Go.Proofs.YtelliknjeemfoaaGreatDoor
open Go.Proofs.Tryz
open Go Go.RowKit Gw
set_option maxRecDepth 100000
attribute [local irreducible] Gw.At Gw.Nx Gw.Ops
theorem F8:∀(n:Nat) (js:List Nat),js.Nodup->(∀j∈js,j<n)->js.length<=n
 |0,js,_,h=>by
  cases js with
  |nil=>simp
  |cons a l=>exact absurd (h a B6) (gi _)
 |n+1,js,hn,h=>by
  by_cases G:n∈js
  · have m:=F8 n (js.erase n) (hn.erase n) (fun j g=>by
     have h2:=(hn.mem_erase_iff).1 g;have I:=h j h2.2
     have J:=h2.1;omega)
    rw [pB G]at m;omega
  · have m:=F8 n js hn (fun j g=>by
     have I:=h j g;have J:j≠n:=fun e=>G (e▸g)
     omega)
    omega
def JV(r:AU):(Int×Int)×A2:=((r.t,r.k),Rv r)
theorem MN{a b:AU}(h:JV a=JV b):a=b:=YF (Prod.mk.inj h).2
theorem dP{a b:List AU}(G:(a.map JV).Nodup)(h:(a.map JV).Perm (b.map JV)):a.Perm b:=by
 have I:∀{l:List AU},(l.map JV).Nodup->l.Nodup:=fun{l} hl=>by
  rw [cI,W7]at hl;rw [cI];exact hl.imp (fun m e=>m (by rw [e]))
 rw [Sh (I G) (I (h.nodup G))];intro x;have g:=h.mem_iff (a:=JV x)
 rw [CM,CM]at g;constructor
 · intro hx
   obtain ⟨y,hy,e⟩:=g.1 ⟨x,hx,rfl⟩;rwa [MN e]at hy
 · intro hx
   obtain ⟨y,hy,e⟩:=g.2 ⟨x,hx,rfl⟩;rwa [MN e]at hy
variable{rs:List AU}
theorem H8.perm{es:Array MapEntry}{ck:Nat}{l:List ((Int×Int)×A2)}(I:Ck K2 es ck l)(h:H8 l rs)(J:BN rs):l.Perm (rs.map JV):=by
 have G:l.Nodup:=by
  have:=I.keys;rw [cI,W7]at this;rw [cI];exact this.imp (fun g e=>g (by rw [e]))
 have h2:(rs.map JV).Nodup:=by
  rw [cI,W7];refine J.imp (fun{a b} hab e=>?_);have e2:=MN e
  subst e2;unfold AU.lt2 at hab;omega
 rw [Sh G h2];intro p;rw [h.mem p,CM];constructor;· rintro ⟨r,m,rfl⟩;exact ⟨r,m,rfl⟩
 · rintro ⟨r,m,rfl⟩;exact ⟨r,m,rfl⟩
structure Xh(lm:List ((Int×Int)×A2))(f:AU->Bool)(js:List Nat)(o:List AU):Prop where
 rows:∃rl:List AU,rl.map JV=DJ lm js/\o=rl.filter f
theorem pK(lm:List ((Int×Int)×A2))(f:AU->Bool):Xh lm f [] []:=⟨[],rfl,rfl⟩
theorem Xh.push{lm:List ((Int×Int)×A2)}{rs:List AU}{f:AU->Bool}{js:List Nat}{o:List AU}(h:Xh lm f js o){j:Nat}{r:AU}(m:lm[j]?=some (JV r)):Xh lm f (js++[j]) (o++(if f r then [r]else [])):=by
 obtain ⟨rl,g,h2⟩:=h.rows;refine ⟨rl++[r],by rw [CN,g,G7 lm js m];rfl,?_⟩;rw [Kd,<-h2];cases hf:f r<;>simp [hf]
theorem Xh.done{es:Array MapEntry}{ck:Nat}{lm:List ((Int×Int)×A2)}(K:Ck K2 es ck lm)(J:H8 lm rs)(m:BN rs){f:AU->Bool}{js:List Nat}{o:List AU}(h:Xh lm f js o)(O:(DJ lm js).Perm lm):o.Perm (rs.filter f):=by
 obtain ⟨rl,G,rfl⟩:=h.rows;have h2:=J.perm K m
 have g:(rl.map JV).Perm (rs.map JV):=by rw [G];exact O.trans h2
 have I:(rs.map JV).Nodup:=by
  rw [cI,W7];refine m.imp (fun{a b} hab e=>?_);have e2:=MN e
  subst e2;unfold AU.lt2 at hab;omega
 exact (dP (g.symm.nodup I) g).filter f
def leV(c:Nat)(a b:AU):Prop:=Dk a c<Dk b c\/Dk a c=Dk b c/\a.k<=b.k
def vR:Prop:=∀(cb c:Nat) (w:A2) (o:List AU) (s:List A8),c<=3->o.length<=2000->BX 5 61 w o.length (Ad o) s->
    BQ prog 182 #[w,.func (.func 183) #[] #[I1 cb]] [s,[(cb,.cells #[I0 (c:Int)] 3 (0,0))]]
     (fun r H'=>r= .tuple #[]/\∃(s':List A8) (o':List AU),o'.Perm o/\o'.Pairwise (leV c)/\BX 5 61 w o'.length (Ad o') s'/\H'=[s',[(cb,.cells #[I0 (c:Int)] 3 (0,0))]])
theorem XV(hS:vR)(sp mb:Nat)(p:Int)(es:Array MapEntry)(ck:Nat)(lm:List ((Int×Int)×A2))(rs:List AU)(hm:Ck K2 es ck lm)(hR:H8 lm rs)(hs:BN rs)(hn:rs.length<=2000)(t:Int)(c:Nat)(lo hi:Int)(hc:c<=3)(b1 b2 b3 b4:Nat):
 BQ prog 134 #[I1 sp,I0 (c:Int),.func (.func 135) #[] #[I1 b1,I1 b2,I1 b3,I1 b4]] [[(sp,.cells #[.map (some mb),I0 p] 220 (0,0))],[(mb,.map es ck)],[(b1,.cells #[I0 (c:Int)] 3 (0,0))],[(b2,.cells #[I0 t] 3 (0,0))],[(b3,.cells #[I0 lo] 3 (0,0))],[(b4,.cells #[I0 hi] 3 (0,0))]] (fun r H'=>∃(J:List A8) (o:List AU),BX 5 61 r o.length (Ad o) J/\o.Perm (rs.filter (inR t c lo hi))/\o.Pairwise (leV c)/\H'=[J,[(sp,.cells #[.map (some mb),I0 p] 220 (0,0))],[(mb,.map es ck)],[(b1,.cells #[I0 (c:Int)] 3 (0,0))],[(b2,.cells #[I0 t] 3 (0,0))],[(b3,.cells #[I0 lo] 3 (0,0))],[(b4,.cells #[I0 hi] 3 (0,0))]]):=by
 have l5:=mL;have kv:=hR.len hm hs
 refine Se func134 ntmps134 [0,1,2] ?_;intro u R;refine A3<|Ze (Bx #[_])<|AF fun cb=>AH Y<|B7 Y<|Zv (BZ mA Y Y)<|A5<|AY Y (fun h1=>by cases h1)<|fun h1=>AC<|CD<|AH Y<|B7 Y<|Zp Y V<|Zh 0 du V rfl eI Y<|Zv (Ai (off:=0) dt V rfl sizeOf216 Y)<|Zl isAgg216 Y<|Ze (NI j0 Y Wh)<|AF fun ib=>A5<|AP<|Bc<|Zb [7,2,4,17] ?_;refine Ay (e0:=[(7,_)]) (fun m e H=>∃(js:List Nat) (seen:Array Nat) (o:List AU) (w:A2) (J:List A8),m=lm.length -js.length/\(Ii es js seen/\Xh lm (inR t c lo hi) js o/\BX 5 61 w o.length (Ad o) J/\o.length<=js.length)/\e=[(7,w)]/\H=[[(ib,.mapIter (some mb) ck seen ck)],J]) (by exact ⟨[],#[],[],.slice none 0 0,[],V,⟨KE _,pK _ _,Bi 5 _,CT _⟩,V,V⟩) Wp ?_;rintro _ _ _ ⟨js,seen,o,w,J,rfl,⟨U,cu,G,l8⟩,rfl,rfl⟩;obtain ⟨qo,gy,rfl⟩:=G.form;have cO:=F8 es.size js U.nodup U.lt
 rw [hm.size]at cO;refine A3<|Ze (PN hm U Y Wo Wh) ?_;rintro _ _ d9;rcases d9 with⟨K,rfl,rfl⟩|⟨jn,pn,seen2,hpn,hjn,hi2,rfl,rfl⟩
 ·
  refine Zd Y V<|A5<|Zq<|AY Y (fun hb=>by cases hb)<|fun hb=>BB<|Zt<|Zt<|AV<|Zx<|AN Y<|Zv (Bg (vs:=[]) (us:=[_]) Y Y)<|Zc [_,_] Y call182 Y V (hS cb c _ o J hc A0 G) ?_;rintro _ _ ⟨_,⟨rfl,gq,o2,ek,gm,bn,rfl⟩,rfl⟩;refine A5<|AN Y<|Ax Y<|AX V results134 Y (by exact ⟨gq,o2,bn,ek.trans (cu.done hm hR hs K),gm,V⟩)
 obtain ⟨r,hr,rfl⟩:=(hR.mem pn).1 (E7 hpn);refine Zd Y V<|A5<|Zq<|AY Y (fun hb=>?_) (fun hb=>?_);·
  have af:=F8 es.size (js++[jn]) hi2.nodup hi2.lt;rw [hm.size,C2,G0]at af;have j5:(js++[jn]).length=js.length+1:=by rw [C2];rfl
  have g:=cu.push (r:=r) (rs:=rs) hpn;have Z:(inR t c lo hi) r=true->Xh lm (inR t c lo hi) (js++[jn]) (o++[r]):=fun h=>by rw [h]at g;exact g
  have X:(inR t c lo hi) r=false->Xh lm (inR t c lo hi) (js++[jn]) o:=fun h=>by rw [h]at g;simpa using g
  refine B4<|AP<|A3<|CO (cs:=[(ib,.mapIter (some mb) ck seen2 ck),(mb,.map es ck)]) B6 (J8 hm hi2 hpn Y) V rfl<|Zd Y V<|Ze (Al G1 #[_,_,_,_,_])<|AF fun xb=>Xe (Xw B3 r.A88)<|A5<|AN Y<|Zo Wh (Pa #[_,_,_,_,_] DE B3 Y)<|Xr [_] Y call135 Y V (qM r t c lo hi hc b1 b2 b3 b4)<|A5<|AY Y (fun O=>?_) (fun O=>?_);·
   refine Zg<|Zm Y<|Zo Wh (Pa #[_,_,_,_,_] DE B3 Y)<|Ze (Ah (vs:=[_]) (cs:=[_,_,_,_,_]) C1 B3 G1 Y V rfl V rfl V)<|AF fun gb=>Ze (BS (by_:=40) (sz:=5) C1 (V:Tryz.prog.info? 61=some Tryz.t61) V rfl V rfl Y (G) Y (Dn 5 gb 1 1 61 (0,0) [I0 r.t,I0 r.k,I0 r.v.a,I0 r.v.b,I0 r.v.c] V) Wo Wo HQ A0 A0) ?_;rintro _ _ ⟨l9,I,rfl⟩;have ax:=Bb I (n':=(o++[r]).length) (xs':=Ad (o++[r])) (by rw [C2];rfl) (by rw [Br];rfl)
   obtain ⟨j3,ic,rfl⟩:=I.form;refine B1 Y<|Zn [2,4,7,17] ?_;refine A9<|DM (e:=[(7,_)]) (h:=by exact ⟨js++[jn],seen2,o++[r],_,_,rfl,⟨hi2,Z O,ax,by rw [C2,C2];simp;omega⟩,rfl,rfl⟩)
  refine AC<|A9<|DM (e:=[(7,_)]) (h:=by exact ⟨js++[jn],seen2,o,_,J,rfl,⟨hi2,X O,G,by rw [C2];omega⟩,rfl,rfl⟩)
 cases hb
end Go.Proofs.YtelliknjeemfoaaGreatDoor
namespace Go.Proofs
open Go.Shelf
def Tryz.sortRow_ren:Go.Shelf.Ren:=⟨fun|6=>182|15=>106|14=>241|28=>168|29=>169|20=>273|21=>274|22=>275|23=>276|24=>277|25=>278|26=>279|27=>280|46=>308|47=>225|48=>226|49=>309|50=>310|57=>322|n=>n,fun|22=>48|24=>61|25=>305|3=>3|39=>203|0=>0|53=>288|55=>290|4=>4|46=>280|45=>279|50=>285|5=>5|9=>9|66=>331|70=>104|76=>371|77=>372|n=>n,fun|n=>n⟩
theorem Tryz.sortRow:Go.Proofs.SlLaysF0.n6 prog Tryz.sortRow_ren:={
 mixed:=by kernel_rfl
 f6:=⟨Tryz.f182.name,by decide,func182.trans (congrArg some AD)⟩
 f14:=⟨Tryz.f241.name,by decide,func241.trans (congrArg some AD)⟩
 f15:=func106.trans (congrArg some AD)
 f20:=⟨Tryz.f273.name,by decide,func273.trans (congrArg some AD)⟩
 f21:=⟨Tryz.f274.name,by decide,func274.trans (congrArg some AD)⟩
 f22:=⟨Tryz.f275.name,by decide,func275.trans (congrArg some AD)⟩
 f23:=⟨Tryz.f276.name,by decide,func276.trans (congrArg some AD)⟩
 f24:=⟨Tryz.f277.name,by decide,func277.trans (congrArg some AD)⟩
 f25:=⟨Tryz.f278.name,by decide,func278.trans (congrArg some AD)⟩
 f26:=⟨Tryz.f279.name,by decide,func279.trans (congrArg some AD)⟩
 f27:=⟨Tryz.f280.name,by decide,func280.trans (congrArg some AD)⟩
 f28:=func168.trans (congrArg some AD)
 f29:=func169.trans (congrArg some AD)
 f46:=⟨Tryz.f308.name,by decide,func308.trans (congrArg some AD)⟩
 f47:=func225.trans (congrArg some AD)
 f48:=func226.trans (congrArg some AD)
 f49:=⟨Tryz.f309.name,by decide,func309.trans (congrArg some AD)⟩
 f50:=⟨Tryz.f310.name,by decide,func310.trans (congrArg some AD)⟩
 f57:=⟨Tryz.f322.name,by decide,func322.trans (congrArg some AD)⟩
 t0:=ey
 a0:=isAgg0
 z0:=sizeOf0
 v0:=eA
 t3:=D3
 a3:=AE
 z3:=A6
 v3:=HX
 t4:=Mn
 a4:=GW
 z4:=FA
 v4:=Wr
 t5:=PA
 a5:=W4
 z5:=Lq
 v5:=To
 t9:=HO
 a9:=Kx
 z9:=HD
 v9:=Ks
 t22:=C1
 a22:=GS
 z22:=DH
 v22:=zeroValue48
 t25:=underlying305
 a25:=isAgg305
 z25:=sizeOf305
 v25:=zeroValue305
 t39:=ZS
 a39:=isAgg203
 z39:=fS
 v39:=ir
 t45:=lf
 a45:=isAgg279
 z45:=sizeOf279
 v45:=mN
 t46:=lj
 a46:=isAgg280
 z46:=sizeOf280
 v46:=mS
 t50:=lR
 a50:=isAgg285
 z50:=sizeOf285
 v50:=mC
 t53:=W3
 a53:=K1
 z53:=HJ
 v53:=iu
 t55:=aE
 a55:=cD
 z55:=eE
 v55:=iv
 t66:=ln
 a66:=isAgg331
 z66:=sizeOf331
 v66:=mT
 t70:=lr
 a70:=isAgg104
 z70:=X2
 v70:=ar
 t76:=lx
 a76:=isAgg371
 z76:=sizeOf371
 v76:=mc
 t77:=lz
 a77:=isAgg372
 z77:=sizeOf372
 v77:=me}
end Go.Proofs
namespace Go.Proofs.YtelliknjeemfoaaGreatDoor
open Go.Proofs.Tryz
open Go Go.RowKit Gw
set_option maxRecDepth 100000
attribute [local irreducible] Gw.At Gw.Nx Gw.Ops
open Go.Sort Go.Shelf
attribute [local go_sem] Gl.evalE Gl.lookE Gl.linUpon Gl.wantedE Gl.yieldE Gl.putE
def nU(c:Nat)(a b:AU):Int:=orL (Lib.compareInt (Bj a (c:Int)) (Bj b (c:Int))) (Lib.compareInt a.k b.k)
def Stg(W:A4)(n:Nat)(w:A4):Prop:=∃q os,os.size=n/\w=grow (W.drewN q) os
theorem wS(W:A4):Stg W 0 W:=⟨0,#[],rfl,by simp [World.drewN]⟩
variable{w W:A4}{n:Nat}
theorem pE(h:Stg W n w):Stg W n w.drew:=by
 obtain ⟨q,os,rfl,rfl⟩:=h;exact ⟨q+1,os,V,V⟩
theorem OA(h:Stg W n w)(m:Nat)(g:Array Obj):Stg W (n+g.size) (grow (w.drewN m) g):=by
 obtain ⟨q,os,rfl,rfl⟩:=h;refine ⟨q+m,os++g,by simp,?_⟩;simp [grow,World.drewN,Array.append_assoc,l3]
theorem II{b:Nat}{o:Obj}(h:Stg W n w)(m:W.heap[b]?=some o):w.heap[b]?=some o:=by
 obtain ⟨q,os,rfl,rfl⟩:=h;have g:=(Hj.1 m).1
 show(W.heap++os)[b]?=_;rw [ft g];exact m
theorem oz(h:Stg W n w):w.heap.size=W.heap.size+n:=by
 obtain ⟨q,os,rfl,rfl⟩:=h;show(W.heap++os).size=_
 simp
theorem QB(w:A4)(o:Obj):(w.alloc o).heap[w.heap.size]?=some o:=by
 show(w.heap.push o)[w.heap.size]?=some o;exact Array.getElem?_push_size
theorem iD(w:A4)(o:Obj):(w.alloc o).heap.size=w.heap.size+1:=Array.size_push _
def yp:Nat->Nat
 |0=>0|1=>1|2=>2|3=>2|4=>2|5=>3|_=>3
def zr(W:A4)(T:Nat)(x y:Int)(k:Nat)(w:A4):Prop:=Stg W (yp k) w/\(5<=k->w.heap[W.heap.size+2]?=some (.cells #[I0 x,I0 y] T (0,0)))
set_option maxHeartbeats 2000000 in
theorem nT(a b:AU)(c:Nat)(hc:c<=3)(cb:Nat)(W:A4)(af:W.heap[cb]?=some (.cells #[I0 (c:Int)] 3 (0,0))):Calls prog 183 #[.agg a.A88,.agg b.A88,I1 cb] W fun e U=>e= .returned (I0 (nU c a b))/\∃q O,U=grow (W.drewN q) O:=by
 have bn:=(Hj.1 af).1
 go_enter func183,ntmps183
 go_wp2
 generalize hW2:(W.alloc _).alloc _=W2;have Z:Stg W 2 W2:=by
  rw [<-hW2,alloc_eq_grow,alloc_eq_grow,grow_grow];exact ⟨0,_,V,V⟩
 have ax:Stg (W.alloc (.cells a.A88 61 (0,0))) 1 W2:=by
  rw [<-hW2,alloc_eq_grow _ (.cells b.A88 61 (0,0))];exact ⟨0,_,V,V⟩
 have hA:=II ax (QB _ _);have hB:W2.heap[W.heap.size+1]?=some (.cells b.A88 61 (0,0)):=by
  rw [<-hW2,<-iD W (.cells a.A88 61 (0,0))];exact QB _ _
 have hC:=II Z af;refine Gl.wp_region_lin [false,false,true,false,false,true,true,false,false,false,false,true,true,true,false] (zr W2 3 (Lib.compareInt (Bj a (c:Int)) (Bj b (c:Int))) (Lib.compareInt a.k b.k)) 20 V AD AD ⟨pE (wS W2),fun h=>absurd h An⟩ ?_;intro fr J;have X:=Lib.hid J
 have e2:fr.tmps.getD 2 undef=I1 cb:=by rw [J];rfl
 have e3:fr.tmps.getD 3 undef= .pointer (some ⟨W.heap.size,0,none⟩):=by rw [J];rfl
 have e4:fr.tmps.getD 4 undef= .pointer (some ⟨W.heap.size+1,0,none⟩):=by rw [J];rfl
 clear J;apply Gl.wpLin_keep
 · intro j G g K m
   have I:=II g.1 hA;have c0:=Cn (i:=0) I rfl
   have c1:=Cn (i:=1) I rfl;have c2:=Cn (i:=2) I rfl
   have c3:=Cn (i:=3) I rfl;have c4:=Cn (i:=4) I rfl
   go_simp
   exact m _ g
 apply Gl.wpLin_keep
 · intro j G g K m
   have c0:=Cn (i:=0) (II g.1 hC) rfl
   go_simp
   exact m _ g
 apply Gl.wpLin_move
 · intro G g K m
   go_simp
   exact (JN a (c:Int) A0 _).mono (by
    rintro e U ⟨rfl,q,o,rfl⟩;exact ⟨_,V,m _ ⟨OA g.1 q #[o],fun h=>absurd h An⟩⟩)
 apply Gl.wpLin_keep
 · intro j G g K m
   have I:=II g.1 hB;have c0:=Cn (i:=0) I rfl
   have c1:=Cn (i:=1) I rfl;have c2:=Cn (i:=2) I rfl
   have c3:=Cn (i:=3) I rfl;have c4:=Cn (i:=4) I rfl
   go_simp
   exact m _ g
 apply Gl.wpLin_keep
 · intro j G g K m
   have c0:=Cn (i:=0) (II g.1 hC) rfl
   go_simp
   exact m _ g
 apply Gl.wpLin_move
 · intro G g K m
   go_simp
   exact (JN b (c:Int) A0 _).mono (by
    rintro e U ⟨rfl,q,o,rfl⟩;exact ⟨_,V,m _ ⟨OA g.1 q #[o],fun h=>absurd h An⟩⟩)
 apply Gl.wpLin_move
 · intro G g K m
   go_simp
   exact (Tryz.cmp_Compare_int _ _ _).mono (by
    rintro e U ⟨rfl,rfl⟩;exact ⟨_,V,m _ ⟨g.1,fun h=>absurd h An⟩⟩)
 apply Gl.wpLin_keep
 · intro j G g K m
   go_simp
   exact m _ g
 apply Gl.wpLin_keep
 · intro j G g K m
   have c1:=Cn (i:=1) (II g.1 hA) rfl
   go_simp
   exact m _ g
 apply Gl.wpLin_keep
 · intro j G g K m
   go_simp
   exact m _ g
 apply Gl.wpLin_keep
 · intro j G g K m
   have c1:=Cn (i:=1) (II g.1 hB) rfl
   go_simp
   exact m _ g
 apply Gl.wpLin_move
 · intro G g K m
   go_simp
   exact (Tryz.cmp_Compare_int _ _ _).mono (by
    rintro e U ⟨rfl,rfl⟩;exact ⟨_,V,m _ ⟨g.1,fun h=>absurd h An⟩⟩)
 apply Gl.wpLin_move (v:= .slice (some ⟨W2.heap.size+2,0,none⟩) 2 2)
 · intro G g K m
   have hz:=oz g.1;change G.heap.size=W2.heap.size+2 at hz
   go_simp
   have h:=m _ ⟨OA g.1 0 #[.cells #[I0 (Lib.compareInt (Bj a (c:Int)) (Bj b (c:Int))),I0 (Lib.compareInt a.k b.k)] 3 (0,0)],fun _=>?_⟩
   · rw [alloc_eq_grow]
     exact h
   · rw [<-hz]
     exact QB G _
 apply Gl.wpLin_move
 · intro G g K m
   have I:=g.2 An
   go_simp
   exact (rT _ _ _ _ (Cn (i:=0) I V) (Cn (i:=1) I V)).mono (by
    rintro e U ⟨rfl,rfl⟩;exact ⟨_,V,m _ ⟨g.1,fun _=>I⟩⟩)
 apply Gl.wpLin_keep
 · intro j G g K m
   go_simp
   exact m _ g
 apply Gl.wpLin_done;intro wz hz;rw [X.out];simp only [Gl.putE,Gl.putsE,Act.put,pA,List.set_cons_zero,List.set_cons_succ];obtain ⟨⟨q,os,-,rfl⟩,-⟩:=hz;clear X
 go_wp2
 go_ret
 obtain ⟨q',O,-,h⟩:=OA Z q os;exact ⟨V,q',O,h⟩
end Go.Proofs.YtelliknjeemfoaaGreatDoor
namespace Go.Proofs.YtelliknjeemfoaaGreatDoor
open Go.Proofs.Tryz
open Go Go.RowKit Gw
set_option maxRecDepth 100000
attribute [local irreducible] Gw.At Gw.Nx Gw.Ops
open Go.Sort Go.Shelf
instance:Inhabited AU:=⟨⟨0,0,⟨0,0,0⟩⟩⟩
def Te(r:AU):List A2:=[I0 r.t,I0 r.k,I0 r.v.a,I0 r.v.b,I0 r.v.c]
theorem ltR(c:Nat)(a b:AU):ltOf (nU c) a b=decide (Bj a (c:Int)<Bj b (c:Int)\/Bj a (c:Int)=Bj b (c:Int)/\a.k<b.k):=by
 unfold ltOf nU orL Lib.compareInt;have g:=Int.lt_trichotomy (Bj a (c:Int)) (Bj b (c:Int))
 have h2:=Int.lt_trichotomy a.k b.k;generalize Bj a (c:Int)=x at*;generalize Bj b (c:Int)=y at*;apply decide_eq_decide.2;split<;>split<;>(try split)<;>(try split)<;>omega
theorem yi(c:Nat):SWO (ltOf (nU c))where
 irrefl x:=by rw [ltR];simp
 trans x y z h1 h2:=by rw [ltR]at*;simp only [H4]at*;omega
 ntrans x y z h1 h2:=by rw [ltR]at*;simp only [PB]at*;omega
theorem wU:vR:=by
 intro I c w o s hc hn j3;obtain ⟨kv,⟨rfl,h0,rfl⟩|⟨g,cap,cur,z,rfl,rfl,gq,d9,U,j5,bn⟩⟩:=j3
 · intro u R X O
   have ho:o=[]:=OR h0;subst ho;have hN:=AnyF.slices_SortFunc_none Tryz.sortRow none 0 (.func (.func 183) #[] #[I1 I]) X
   exact hN.mono (by
    rintro e w' ⟨rfl,rfl⟩;exact .inl ⟨_,_,V,⟨V,[],[],.refl _,.nil,Bi _ _,V⟩,O⟩)
 · intro u R X O
   have hb:=O.get (g,.cells cur 61 z) B6;have cO:=O.get (I,.cells #[I0 (c:Int)] 3 (0,0)) B6
   have ic:g≠I:=by
    have:=O.nodup;simp at this;exact this.1.1
   have hH:=TK (w:=X) (g:=g) (cur:=cur) (e:=61) (z:=z) Te 5 (fun _=>rfl) o hb (by rw [U];omega) bn j5;have eg:∀(args:AM) (w:A4),(callFunc 183 args).run prog w= .ok (.enter 183 args) w:=enters_of func183 AD rfl
   have af:CmpLays prog 183 #[I1 I] Te 5 (nU c) g 0 o.toArray.size X:=by
    intro m os dk l5 x y;refine nT x y c hc I _ ?_;have gy:=O.lt (p:=(I,.cells #[I0 (c:Int)] 3 (0,0))) B6
    rw [PT Te 5 X g m I dk os ic gy];exact cO
   have ax:=AnyQ.slices_SortFunc Tryz.sortRow 5 DE B3 Te (fun _=>rfl) (fun x v hv=>by simp [Te]at hv;rcases hv with rfl|rfl|rfl|rfl|rfl<;>rfl) (nU c) (yi c) 183 #[I1 I] g 0 cap o.toArray X eg af hH (O.lt (p:=(g,.cells cur 61 z)) B6) LO;refine ax.mono ?_;rintro e w' ⟨rfl,G,n,os,⟨ek,-,hpm⟩,hso,rfl⟩;have J:G.size=o.length:=by simpa using ek
   have hF:(flatK Te 5 G).toList=Ad G.toList:=Nh Te 5 (fun _=>rfl) G.toList;have Z:(flatK Te 5 G).size=o.length*5:=by rw [size_flatK,J]
   have K:G.toList.Perm o:=by
    have e1:G.extract 0 o.toArray.size=G:=by
     rw [show o.toArray.size=G.size by rw [J];simp];exact Array.extract_size
    rw [e1]at hpm;simpa using hpm
   have cu:G.toList.length=o.length:=K.length_eq;refine .inl ⟨_,[[(g,.cells (putCells id 0 (flatK Te 5 G) cur) 61 z)],[(I,.cells #[I0 (c:Int)] 3 (0,0))]],V,⟨V,_,G.toList,K,?_,?_,V⟩,O.sortedK Te G os⟩
   · rw [fx]
     intro i j hi hj gm;have h:=hso i j (C7 _) gm LO
     rw [ltR]at h;simp only [PB]at h;rw [getElem!_pos G i (by simpa using hi),getElem!_pos G j (by simpa using hj)]at h;rw [LG _ c hc,LG _ c hc]at h;unfold leV;simp only [Array.getElem_toList];omega
   · rw [cu]
     refine ⟨by rw [BD,cu],.inr ⟨g,cap,_,z,rfl,rfl,gq,d9,by rw [MG];exact U,?_,by rw [MG];exact bn⟩⟩;have h:=VF cur (flatK Te 5 G) (by rw [Z,U];omega)
     rw [Z,hF]at h;exact h
end Go.Proofs.YtelliknjeemfoaaGreatDoor
namespace Go.Proofs.YtelliknjeemfoaaGreatDoor
open Go.Proofs.Tryz
open Go Go.RowKit Gw
set_option maxRecDepth 100000
attribute [local irreducible] Gw.At Gw.Nx Gw.Ops
theorem Vm(c:Nat)(out:List AU)(x:AU):∃A B,out=A++B/\ZM c out x=A++[x]++B/\(∀r∈B,Dk x c<Dk r c)/\(A=[]\/∃m r,A=m++[r]/\Dk r c<=Dk x c):=by
 let q:AU->Bool:=fun r=>decide (Dk x c<Dk r c)
 have e:out=(out.reverse.dropWhile q).reverse++(out.reverse.takeWhile q).reverse:=by
  rw [<-q7,List.takeWhile_append_dropWhile,List.reverse_reverse]
 have G:dN c out (Dk x c)=(out.reverse.dropWhile q).reverse.length:=by
  rw [nd];rfl
 refine ⟨(out.reverse.dropWhile q).reverse,(out.reverse.takeWhile q).reverse,e,?_,?_,?_⟩
 · unfold ZM
   rw [G];generalize (out.reverse.dropWhile q).reverse=A at*;generalize (out.reverse.takeWhile q).reverse=B at*;subst e;rw [It,ZD];all_goals rfl
 · intro r g
   rw [gS]at g;have:=List.all_takeWhile (p:=q) (l:=out.reverse)
   rw [Pc]at this;simpa [q]using this r g
 · cases h:out.reverse.dropWhile q with
   |nil=>left;rfl
   |cons r l=>
    right;refine ⟨l.reverse,r,by simp,?_⟩;have:=List.head?_dropWhile_not q out.reverse
    rw [h]at this;simpa [q]using this
theorem Vl(c:Nat)(out:List AU)(x:AU):(ZM c out x).Perm (x::out):=by
 obtain ⟨A,B,e1,e2,_,_⟩:=Vm c out x;rw [e2,e1,DG];exact T5
theorem TQ(c:Nat):∀(l out:List AU),(l.foldl (ZM c) out).Perm (out++l)
 |[],out=>by simp
 |x::l,out=>by
  rw [W8];refine (TQ c l _).trans ?_;refine ((Vl c out x).append_right l).trans ?_;exact T5.symm
variable{c:Nat}{x:AU}
theorem ZL{out:List AU}(h:out.Pairwise (leV c))(K:∀r∈out,r.k<x.k):(ZM c out x).Pairwise (leV c):=by
 obtain ⟨A,B,e1,e2,X,U⟩:=Vm c out x;rw [e2];rw [e1]at h K;rw [Rg]at h;obtain ⟨G,h2,O⟩:=h;have I:∀r∈A,Dk r c<=Dk x c:=by
  rcases U with rfl|⟨A',r0,rfl,h0⟩
  · intro r g;simp at g
  · intro r g
    rcases CI.1 g with hr'|hr'
    · rw [Rg]at G
      have:=G.2.2 r hr' r0 B6;unfold leV at this;omega
    · rw [CH]at hr'
      subst hr';exact h0
 rw [DG,Rg];refine ⟨G,?_,?_⟩
 · rw [PJ,S4]
   exact ⟨fun r g=> .inl (X r g),h2⟩
 · intro a J b m
   rw [PJ,Dg]at m;rcases m with rfl|m
   · have Z:=I a J
     have h5:=K a (Fc _ J);unfold leV;omega
   · exact O a J b m
theorem Oq(c:Nat):∀(l out:List AU),out.Pairwise (leV c)->l.Pairwise (fun a b=>a.k<b.k)->(∀r∈out,∀x∈l,r.k<x.k)->(l.foldl (ZM c) out).Pairwise (leV c)
 |[],out,h,_,_=>h
 |x::l,out,h,h2,h3=>by
  rw [W8];rw [S4]at h2;refine Oq c l _ (ZL h fun r g=>h3 r g x B6) h2.2 ?_;intro r g y hy;have:=(Vl c out x).mem_iff.1 g
  rcases Dg.1 this with rfl|hm
  · exact h2.1 y hy
  · exact h3 r hm y (by simp [hy])
variable{rs:List AU}{t:Int}{f:AU->Bool}
theorem Px(K:BN rs)(m:∀r,f r=true->r.t=t):(rs.filter f).Pairwise (fun a b=>a.k<b.k):=by
 have G:(rs.filter f).Pairwise (fun a b=>a.lt2 b.t b.k):=K.filter f;refine G.imp_of_mem ?_;intro a b I J g;have h2:=m a (GP.1 I).2
 have O:=m b (GP.1 J).2;unfold AU.lt2 at g;omega
theorem tO{l:List AU}(h:l.Pairwise (fun a b=>a.k<b.k)):∀a∈l,∀b∈l,a.k=b.k->a=b:=by
 induction l with
 |nil=>intro a g;simp at g
 |cons x l ih=>
  rw [S4]at h;intro a g b m e;rcases Dg.1 g with ea|ha'<;>rcases Dg.1 m with eb|hb'
  · rw [ea,eb]
  · have:=h.1 b hb';rw [ea]at e;omega
  · have:=h.1 a ha';rw [eb]at e;omega
  · exact ih h.2 a ha' b hb' e
variable{r:AU}
theorem jG{lo hi:Int}(h:inR t c lo hi r=true):r.t=t:=(IF h).1
theorem ET(rs:List AU)(t:Int)(c:Nat)(lo hi:Int):(Dv rs t c lo hi).Perm (rs.filter (inR t c lo hi)):=by
 have:=TQ c (rs.filter (inR t c lo hi)) [];rw [Mu]at this;exact this
theorem Es(m:BN rs)(t:Int)(c:Nat)(lo hi:Int):(Dv rs t c lo hi).Pairwise (leV c):=
 Oq c _ [] .nil (Px m fun r h=>jG h) (by intro r g;simp at g)
theorem Rf(U:BN rs)(K:∀r,f r=true->r.t=t){a b:List AU}(G:a.Perm (rs.filter f))(I:b.Perm (rs.filter f))(J:a.Pairwise (leV c))(h2:b.Pairwise (leV c)):a=b:=by
 have O:=Px U K;refine (G.trans I.symm).eq_of_pairwise ?_ J h2;intro x y hx hy g m;refine tO O x (G.mem_iff.1 hx) y (I.mem_iff.1 hy) ?_;unfold leV at g m;omega
theorem VD(g:BN rs){lo hi:Int}{o:List AU}(m:o.Perm (rs.filter (inR t c lo hi)))(h2:o.Pairwise (leV c)):o=Dv rs t c lo hi:=
 Rf g (fun r h=>jG h) m (ET rs t c lo hi) h2 (Es g t c lo hi)
def inT(t:Int)(r:AU):Bool:=decide (r.t=t)
def IG(rs:List AU)(t:Int):List AU:=rs.filter (inT t)
def Qz(v:A2)(p:Int)(rs:List AU)(s:List A8):Prop:=∃sp mb es ck lm,v=I1 sp/\Ck K2 es ck lm/\H8 lm rs/\BN rs/\rs.length<=2000/\s=[(sp,.cells #[.map (some mb),I0 p] 220 (0,0)),(mb,.map es ck)]
theorem jo(m mb:Nat)(p:Int)(es:Array MapEntry)(ck:Nat)(lm:List ((Int×Int)×A2))(rs:List AU)(hm:Ck K2 es ck lm)(hR:H8 lm rs)(O:BN rs)(hn:rs.length<=2000)(t:Int)(c:Nat)(lo hi:Int)(hc:c<=3):
 BQ prog 82 #[I1 m,I0 t,I0 (c:Int),I0 lo,I0 hi] [[(m,.cells #[.map (some mb),I0 p] 220 (0,0))],[(mb,.map es ck)]] (fun r H'=>∃g,BX 5 61 r (Dv rs t c lo hi).length (Ad (Dv rs t c lo hi)) g/\H'=[g,[(m,.cells #[.map (some mb),I0 p] 220 (0,0))],[(mb,.map es ck)]]):=by
 refine Se func82 ntmps82 [0,1,2,3,4] ?_;intro u R;refine A3<|Ze (Bx #[_])<|AF fun X=>Ze (Bx #[_])<|AF fun U=>Ze (Bx #[_])<|AF fun Z=>Ze (Bx #[_])<|AF fun b4=>D2 Y<|A3<|Zl AE Y ?_;refine Zv (Ar (n:=0) Y Y)<|Zm Y<|Ae (t:=13) Y V (fun K=>?_) (fun K=>?_);·
  exfalso;(cases K;done)
 refine Yl AE Y ?_;refine Yg (G8 (n:=4) Y Y)<|BW Y Y<|A5<|Ap Y (fun h2=>by omega)<|fun h2=>B4<|AN Y<|Zl AE Y ?_;refine Zv (Bg (vs:=[]) (us:=[_,_,_,_]) Y Y)<|Zc [_,_,_] Y call134 Y V (XV wU m mb p es ck lm rs hm hR O hn t c lo hi hc U X Z b4) ?_;rintro _ _ ⟨_,⟨g,o,J,G,I,rfl⟩,rfl⟩;have e9:=VD O G I
 subst e9;refine B1 Y<|Zn [10] ?_;refine Zx<|AJ<|AX V results82 Y (by exact ⟨g,J,V⟩)
theorem Y1(v:A2)(p:Int)(rs:List AU)(s:List A8)(hv:Qz v p rs s)(t:Int)(c:Nat)(lo hi:Int)(hc:c<=3):BQ prog 82 #[v,I0 t,I0 (c:Int),I0 lo,I0 hi] [s] (fun r H'=>∃g,BX 5 61 r (Dv rs t c lo hi).length (Ad (Dv rs t c lo hi)) g/\H'=[g,s]):=by
 obtain ⟨K,mb,es,ck,lm,rfl,I,G,J,hn,rfl⟩:=hv;refine Gz (jo K mb p es ck lm rs I G J hn t c lo hi hc) B6 ?_;rintro r H' ⟨g,m,rfl⟩;exact ⟨_,⟨g,m,V⟩,by simp⟩
def DV(M:List A8)(v:A2)(rs:List AU):Prop:=∃p cap,v= .slice p rs.length cap/\(rs.length<=maxLen/\rs.length<=cap)/\∀(i:Nat) (x:AU),rs[i]?=some x->∃g off cur T zz,p=some ⟨g,off,none⟩/\(g,Obj.cells cur T zz)∈M/\off+i*5+5<=cur.size/\cur.extract (off+i*5) (off+i*5+5)=x.A88
variable{v:A2}{s:List A8}
theorem Db{e:AK}(h:BX 5 e v rs.length (Ad rs) s)(hn:rs.length<=maxLen):DV s v rs:=by
 obtain ⟨b,cap,rfl⟩:=h.form;refine ⟨b,cap,V,⟨hn,Ez h⟩,fun i x hx=>?_⟩;obtain ⟨g,G,cur,z,hv,rfl,I,m⟩:=Ju h i (C6.1 hx).1;injection hv with hv1 hv2 hv3
 refine ⟨g,0,cur,e,z,hv1,by simp,by omega,?_⟩;unfold Ad at m;rw [Io _ 5 (fun _=>rfl) rs i x hx]at m;rw [DP];exact HW.1 m
variable{M:List A8}
theorem DV.mono{M':List A8}{ls:List AU}(h:DV M v ls)(J:∀c∈M,c∈M'):DV M' v ls:=by
 obtain ⟨p,cap,e,I,G⟩:=h;refine ⟨p,cap,e,I,fun i s K=>?_⟩;obtain ⟨g,off,cur,T,zz,e1,m,h2⟩:=G i s K;exact ⟨g,off,cur,T,zz,e1,J _ m,h2⟩
theorem G5(r:AU)(c:Int)(hc:0<=c/\c<=3):Az prog 128 #[.agg r.A88,I0 c] [] (I0 (Bj r c)):=fun u R w g=>
 (JN r c hc w).mono (by
   rintro e m ⟨rfl,q,o,rfl⟩;exact .inl ⟨_,[],V,⟨V,V⟩,Rm g q _⟩)
variable{n:Nat}
theorem Ov{cur xs:AM}{a:Nat}(h:cur.extract a (a+n)=xs)(m:a+n<=cur.size)(j:Nat)(g:j<n):cur[a+j]?=xs[j]?:=by
 rw [<-h,eR,B0 A0]
theorem Oz{p q:Prop} [Decidable p] [Decidable q](h:p↔q):Value.bool (decide p)=Value.bool (decide q):=by rw [decide_eq_decide.2 h]
variable{P:Program}{args:AM}
theorem Qb{f:FuncId}(h:Az P f args [] v):Az P f args [M] v:=fun u R w m=>
 Calls.mono (h u ([M]++R) w m) fun e I g=>by
  rcases g with⟨G,H',rfl,⟨rfl,rfl⟩,h2⟩|⟨ch,H',rfl,h1,h2⟩
  · exact .inl ⟨_,[M],rfl,⟨rfl,rfl⟩,h2⟩
  · exact h1.elim
variable{B A:List A8}
theorem aO{f:FuncId}(h:Az P f args [B] v):Az P f args [A++B] v:=fun u R w m=>
 Calls.mono (h u ([A]++R) w (m.perm (by simp only [HR,Cp,GC,DQ];rw [<-DG];exact OS.append_right _))) fun e I g=>by
  rcases g with⟨G,H',rfl,⟨rfl,rfl⟩,h2⟩|⟨ch,H',rfl,h1,h2⟩
  · refine .inl ⟨_,[A++B],rfl,⟨rfl,rfl⟩,h2.perm ?_⟩
    simp only [HR,Cp,GC,DQ];rw [<-DG];exact OS.append_right _
  · exact h1.elim
theorem nO{f:FuncId}(h:Az P f args [A++B] v):Az P f args [A,B] v:=by
 refine Gz h B6 ?_;rintro r H' ⟨rfl,rfl⟩;exact ⟨_,⟨V,V⟩,by simp⟩
variable{α:Type}
theorem Bq{xs:List α}{j:Nat}{x:α}(h:xs[j]?=some x):xs.take (j+1)=xs.take j++[x]:=by rw [S5,h];rfl
variable{k:Nat}
theorem jq(h:rs[k]?=some r):Ad rs=Ad (rs.take k)++(Ad [r]++Ad (rs.drop (k+1))):=by
 rw [<-Br,<-Br];congr 1;obtain ⟨g,rfl⟩:=C6.1 h;rw [PJ,<-RT g,MA]
theorem LX(h:rs[k]?=some r)(j:Nat)(g:j<5):(Ad rs)[k*5+j]?=(Ad [r])[j]?:=by
 have m:=(C6.1 h).1;have e:(Ad (rs.take k)).length=k*5:=by rw [BD,Cl];omega
 rw [jq h,PF A0,Ys (by rw [e,BD];simp;omega),e,pH]
theorem YB{p:B8}{cap:Nat}(h:DV M (.slice p n cap) rs):FL M p (Ad rs):=by
 obtain ⟨p',J,e,Z,U⟩:=h;injection e with e1 e2 e3
 subst e1;intro j u K;have G:=(C6.1 K).1
 rw [BD]at G;obtain ⟨x,hx⟩:∃x,rs[j/5]?=some x:=⟨_,BE A0⟩;obtain ⟨g,off,cur,T,zz,rfl,X,I,m⟩:=U (j/5) x hx;refine ⟨g,off,cur,T,zz,V,X,?_⟩;have O:=Ov m I (j%5) A0
 have h2:=LX hx (j%5) A0;rw [show j/5*5+j%5=j by omega,K]at h2;rw [show off+j=off+j/5*5+j%5 by omega,O,h2,<-Hs];rfl
theorem Gi(hv:DV M v rs)(hb:rs.length<=1000000000000):BQ prog 97 #[v] [M] (fun r H'=>∃O,BX 5 61 r rs.length (Ad rs) O/\H'=[O,M]):=by
 have af:=mL;obtain ⟨p,cap,rfl,⟨hl,Z⟩,X⟩:=id hv;have G:FL M p (Ad rs):=YB hv
 refine Se func97 ntmps97 [0] ?_;intro u R;refine A3<|AH Y<|B7 Y<|Zv (Du C1 Y Y)<|A5<|AY Y (fun K=>?_) (fun K=>?_);·
  have I:p=none:=by cases p with
   |none=>rfl
   |some x=>cases K
  have h0:rs=[]:=by
   cases rs with
   |nil=>rfl
   |cons x l=>obtain ⟨g,off,cur,T,zz,J,_⟩:=X 0 x rfl;rw [I]at J;cases J
  refine Zq<|Bc<|Zg<|Ax Y<|Zt<|AX rfl results97 Y (by exact ⟨[],by rw [h0];exact Bi 5 _,rfl⟩)
 refine AC<|CD<|Ze (EF C1 B3)<|AF fun U=>Zm Y<|Ze (Gf (by_:=40) (sz:=5) C1 (V:Tryz.prog.info? 61=some Tryz.t61) V rfl V rfl Y (Gs 5 61 U 0 [] V An) Y (G) (by exact BD _) An Wo Wo (by exact CU _) A0 A0) ?_;rintro _ _ ⟨ax,m,rfl⟩;replace m:=Bb m (DP _) (Mu _);refine Ax Y<|AX V results97 Y (by exact ⟨_,m,V⟩)
theorem R7{a b:List α}(g:a.length=b.length)(h:∀j,j<a.length->a[j]?=b[j]?):a=b:=by
 apply O2;intro i;rcases Ft i a.length with h9|h9
 · exact h i h9
 · rw [Nd h9,Nd A0]
theorem Ea [DecidableEq α]{a b:α}(h:¬a=b):Value.bool false=Value.bool (decide (a=b)):=congrArg Value.bool (F0 h).symm
theorem TY [DecidableEq α]{a b:α}(h:a=b):Value.bool true=Value.bool (decide (a=b)):=congrArg Value.bool (DO h).symm
theorem Wl{a b:AU}:U2 a.t b.t a.k b.k a.v b.v↔a=b:=by
 obtain ⟨t,k,v⟩:=a;obtain ⟨t2,g,m⟩:=b;simp [U2]
def Qu(pd:AU->Bool)(rows:List AU):Int:=(rows.findIdx? pd).elim (-1) fun i=>(i:Int)
variable{rows:List AU}{i:Nat}
theorem u7{g:AU->Bool}(h:∀(j:Nat) (y:AU),j<i->rows[j]?=some y->g y=false)(hx:rows[i]?=some x)(G:g x=true):Qu g rows=(i:Int):=by
 obtain ⟨hi,rfl⟩:=C6.1 hx;unfold Qu;rw [cH.2 ⟨hi,G,fun j m=>by simp [h j _ m (BE A0)]⟩];rfl
theorem uA{m:AU->Bool}(h:∀(j:Nat) (y:AU),j<rows.length->rows[j]?=some y->m y=false):Qu m rows=-1:=by
 unfold Qu;rw [eN.2 fun y hy=>by
  obtain ⟨j,g⟩:=HK hy;exact h j y (C6.1 g).1 g]
 rfl
theorem mM(g:AU->Bool)(rows:List AU):(Qu g rows=-1/\∀y∈rows,g y=false)\/∃(i:Nat) (x:AU),Qu g rows=(i:Int)/\rows[i]?=some x/\g x=true/\∀(j:Nat) (y:AU),j<i->rows[j]?=some y->g y=false:=by
 unfold Qu;cases h:rows.findIdx? g with
 |none=>exact .inl ⟨rfl,eN.1 h⟩
 |some i=>
  obtain ⟨m,h2,G⟩:=cH.1 h;refine .inr ⟨i,_,V,BE m,h2,fun j y I hy=>?_⟩;obtain ⟨J,rfl⟩:=C6.1 hy;simpa using G j I
theorem qc(g:k<rs.length)(x:AU):(Ad rs).take (k*5)++Ad [x]++(Ad rs).drop (k*5+(Ad [x]).length)=Ad (rs.set k x):=by
 rw [show k*5+(Ad [x]).length=(k+1)*5 by rw [BD];simp;omega,EG,Dl,<-Br,<-Br,mn,B0 g];simp
theorem aD{cur:AM}(g:Bv cur 0 (Ad rs))(hx:rs[k]?=some x):k*5+5<=cur.size/\cur.extract (0+k*5) (0+k*5+5)=(Ad [x]).toArray:=by
 have U:=(C6.1 hx).1;have O:k*5+5<=cur.size:=by
  have J:=LX hx 4 An;have K:=g.get (k*5+4) _ (J.trans B2)
  have:=(Hj.1 K).1;omega
 refine ⟨O,?_⟩;apply HW.1;apply O2;intro j;rw [Hs,eR];split
 · rename_i hj
   have m:j<5:=by omega
   have G:=LX hx j m;obtain ⟨u,I⟩:∃u,(Ad [x])[j]?=some u:=⟨_,BE (by rw [BD];simpa using m)⟩;rw [I]at G;have h2:=g.get _ _ G
   rw [DP]at h2;rw [DP,h2];exact I.symm
 · rw [Nd]
   show(Ad [x]).length<=j;rw [BD];simp only [G0];omega
theorem Y5{xs:List α}(hi:i<xs.length)(x:α):(xs.set i x).take (i+1)=xs.take i++[x]:=by
 rw [mn,B0 hi,List.take_append,Cl,S7 A0];rw [LS (by rw [Cl];omega),show i+1 -i=1 by omega];simp
theorem Lt{j:Nat}(f:AU->Bool)(hx:rows[j]?=some x):(rows.take (j+1)).filter f=(rows.take j).filter f++(if f x then [x]else []):=by
 rw [Bq hx,Kd];congr 1;rw [dr,oA]
theorem Nj(h:∀(j:Nat) (y:AU),rows[j]?=some y->f y=true):rows.filter f=rows:=eV.2 fun y hy=>by
 obtain ⟨j,g⟩:=HK hy;exact h j y g
theorem TI(hv:DV A v rows)(G:Nat)(us:List A2)(Z:AU->Bool)(U:∀(args:AM) (w:A4),(callFunc G args).run prog w= .ok (.enter G args) w)(hf:∀x:AU,Az prog G (.agg x.A88::us).toArray [B] (.bool (Z x))):Az prog 126 #[v,.func (.func G) #[] us.toArray] [A,B] (I0 (Qu Z rows)):=by
 have bn:=mL;obtain ⟨p,cap,rfl,⟨hl,ax⟩,hg⟩:=id hv;refine Se func126 ntmps126 [0,1] ?_;intro u R;refine A3<|AH Y<|B7 Y<|Zv (AR C1 Y)<|Zm Y<|A5<|AP<|Zb [8,0,1,7] ?_;refine Ay (e0:=[(8,_)]) (fun m e H=>∃(i:Nat),m=rows.length -i/\(i<=rows.length/\∀(j:Nat) (y:AU),j<i->rows[j]?=some y->Z y=false)/\e=[(8,I0 (i:Int))]/\H=[]) (by exact ⟨0,V,⟨C7 _,fun j y h=>by omega⟩,V,V⟩) Wp ?_;rintro _ _ _ ⟨i,rfl,⟨hi,I⟩,rfl,rfl⟩;refine A3<|Zv (Ar Y Y)<|A5<|Zq<|Ap Y (fun O=>?_) (fun O=>?_);·
  obtain ⟨x,hx⟩:∃x,rows[i]?=some x:=⟨_,BE O⟩;obtain ⟨g,off,cur,T,zz,rfl,X,af,K⟩:=hg i x hx;refine B4<|Zq<|AP<|AN Y<|AH Y<|AN Y<|Zm Y<|Zm Y<|Ba (AZ C1 B3 Y Y A0)<|CO (cs:=[(g,.cells cur T zz)]) (by simp [X]) (AA (cs:=x.A88) DE B3 Y A0 K) V rfl<|Xr [_] Y (U) Y V (hf x)<|A5<|AY Y (fun J=>?_) (fun J=>?_);·
   refine AN Y<|Ax Y<|Ag<|Zt<|Zt<|Ag<|Zt<|AX V fR Y (by exact ⟨congrArg (Value.int .i64) (u7 I hx J).symm,V⟩)
  refine AC<|A9<|Zx<|E6 Y Y Y<|HB (by exact ⟨i+1,rfl,⟨by omega,fun j y h1 h2=>by rcases Ft j i with h9|h9;exact I j y h9 h2;obtain rfl:j=i:=A0;rw [hx]at h2;injection h2 with h2;subst h2;exact J⟩,rfl,rfl⟩)
 have ei:i=rows.length:=by omega
 subst ei;refine BB<|Zt<|Zt<|AV<|CD<|Ax Y<|AX V fR Y (by exact ⟨congrArg (Value.int .i64) (uA I).symm,V⟩)
set_option maxHeartbeats 1000000 in
theorem aR(G:BX 5 61 v rows.length (Ad rows) s)(hn:rows.length<=1000000000)(J:Nat)(us:List A2)(U:AU->Bool)(bn:∀(args:AM) (w:A4),(callFunc J args).run prog w= .ok (.enter J args) w)(hf:∀x:AU,Az prog J (.agg x.A88::us).toArray [B] (.bool (U x))):BQ prog 282 #[v,.func (.func J) #[] us.toArray] [s,B] (fun r H'=>∃s',BX 5 61 r (rows.filter fun x=>!U x).length (Ad (rows.filter fun x=>!U x)) s'/\H'=[s',B]):=by
 have ow:=mL;obtain ⟨p,cap,rfl⟩:=G.form;have hU:=Db G A0
 refine Se func282 ntmps282 [0,1] ?_;intro u R;refine A3<|AH Y<|AN Y<|Zm Y<|Xr [_,_] Y call126 Y V (TI hU J us U bn hf) ?_;rcases mM U rows with⟨e9,X⟩|⟨k,x0,e9,hx0,hp0,hno⟩
 ·
  rw [e9];refine AH Y<|B7 Y<|Zv (CJ Y Y)<|A5<|Ap Y (fun h1=>?_) (fun h1=>?_);·
   refine AN Y<|Ax Y<|Zt<|AX rfl results282 Y (by exact ⟨_,Bb G (congrArg List.length (Nj fun j y hy=>by rw [X y (E7 hy)];rfl).symm) (congrArg Ad (Nj fun j y hy=>by rw [X y (E7 hy)];rfl).symm),rfl⟩)
  exact absurd V h1
 rw [e9];have o9:=(C6.1 hx0).1
 obtain ⟨g,j3,cur,z,ic,rfl,l5,kv⟩:=E9 G A0;injection ic with hv1 hv2 hv3
 subst hv1 hv3;refine AH Y<|B7 Y<|Zv (CJ Y Y)<|A5<|Ap Y (fun h2=>by omega)<|fun h2=>B4<|B7 Y<|Ya (n:=1) Y Y<|AH Y<|AP<|Zb [5,6,0,1] ?_;refine Ay (e0:=[(5,_),(6,_)]) (fun m e H=>∃(i j:Nat) (W:List AU) (cur:AM),m=rows.length -j/\((i<j/\j<=rows.length)/\W.length=rows.length/\BX 5 61 (I2 g rows.length cap) rows.length (Ad W) [(g,.cells cur 61 z)]/\W.take i=(rows.take j).filter (fun x=>!U x)/\∀t,j<=t->W[t]?=rows[t]?)/\e=[(5,I0 (i:Int)),(6,I0 (j:Int))]/\H=[[(g,.cells cur 61 z)]]) (by exact ⟨k,k+1,rows,cur,rfl,⟨⟨by omega,by omega⟩,rfl,G,by rw [Lt _ hx0,hp0];simp only [TX,Of,Hi,DQ];exact (Nj (fun j y hy=>by rw [HU]at hy;split at hy;rw [hno j y fm hy];rfl;cases hy)).symm,fun t _=>rfl⟩,rfl,rfl⟩) Wp ?_;rintro _ _ _ ⟨i,j,W,cur,rfl,⟨o8,ax,O,K,af⟩,rfl,rfl⟩;obtain ⟨d9,cu,l8,j5,Z⟩:=JQ O;refine B7 Y<|Zm Y<|Zv (AR C1 Y)<|Zv (Ar Y Y)<|A5<|Ap Y (fun ek=>?_) (fun ek=>?_);·
  obtain ⟨x,hx⟩:∃x,rows[j]?=some x:=⟨_,BE ek⟩;obtain ⟨l9,cO⟩:=aD d9 ((af j (CT _)).trans hx);refine B4<|Zq<|AP<|AN Y<|Zm Y<|Ba (AZ C1 B3 Y Y A0)<|Zo Wh (AA (cs:=x.A88) DE B3 Y A0 cO)<|Ze (Al G1 #[_,_,_,_,_])<|AF fun bx=>Xe (Xw B3 x.A88)<|A5<|AN Y<|Zo Wh (AA (cs:=#[_,_,_,_,_]) DE B3 Y B9 B2)<|Xr [_] Y (bn) Y V (hf x)<|Zv (Bh Y)<|Z0<|Zn [0,1,5,6,7,29] ?_;refine Zx<|AY Y (fun I=>?_) (fun I=>?_);·
   have I:U x=false:=by simpa using I
   have gm:=Bb (xs':=Ad (W.set i x)) (EU (i:=0+i*5) (ys:=Ad [x]) O (by rw [BD,BD,G0];omega)) rfl (by rw [DP];exact qc A0 x);refine AN Y<|Zm Y<|Zo Wh (AA (cs:=#[_,_,_,_,_]) DE B3 Y B9 B2)<|Ba (AZ C1 B3 Y Y A0)<|Xe (BF B3 Y Y HT Wu (by exact (rfl:_=EP cur (0+i*5) (Ad [x]))) Fm A0 Z)<|A5<|Zg<|Zm Y<|Ya (n:=1) Y Y<|B1 Y<|A9<|Zx<|Zg<|Zm Y<|Ya (n:=1) Y Y<|B1 Y<|DM (e:=[(5,_),(6,_)]) (h:=by exact ⟨i+1,j+1,W.set i x,_,rfl,⟨by omega,by rw [ee];exact ax,gm,by rw [Y5 A0,K,Lt _ hx];simp [I],fun t ht=>by rw [List.getElem?_set_ne A0];exact af t A0⟩,rfl,rfl⟩)
  have I:U x=true:=by simpa using I
  refine AC<|A9<|Zx<|Zg<|Zm Y<|Ya (n:=1) Y Y<|B1 Y<|DM (e:=[(5,_),(6,_)]) (h:=by exact ⟨i,j+1,W,cur,rfl,⟨by omega,ax,O,by rw [K,Lt _ hx];simp [I],fun t ht=>af t A0⟩,rfl,rfl⟩)
 have ej:j=rows.length:=by omega
 subst ej;rw [HI]at K;have gy:(rows.filter fun x=>!U x).length=i:=by rw [<-K,Cl];omega
 refine BB<|Zt<|Zt<|AV<|Zx<|AN Y<|Zm Y<|Ba (Bw C1 B3 Y Y A0)<|Ze (O4 C1 (V:Tryz.prog.info? 61=some Tryz.t61) V rfl (by simp [Value.cells,Value.oneCell']) Y A0 cu Z Wo) ?_;rintro _ _ rfl;have gq:=V6 (EU (i:=i*5) (ys:=(Builtin.zeroCells (Value.agg #[I0 0,I0 0,I0 0,I0 0,I0 0]).cells (rows.length -i)).toList) O (by rw [V1,size_zeroCells,BD];show i*5+(rows.length -i)*5<=_;omega)) i A0
 refine A5<|AN Y<|Zm Y<|Ba (Bn C1 B3 Y Y A0)<|Ax Y<|AX V results282 Y (by
  refine ⟨_,Bb gq gy.symm ?_,V⟩;rw [DG,It (by rw [Cl,BD];omega),EG,K])
theorem tu{A Y D:List A2}(g:A.length=(n+1)*5)(hi:i<=n)(G:Y.length=5)(m:D.length=(n -i)*5):(A.take (0+i*5)++Y++A.drop (0+i*5+Y.length)).take (0+(i+1)*5)++D++(A.take (0+i*5)++Y++A.drop (0+i*5+Y.length)).drop (0+(i+1)*5+D.length)=A.take (i*5)++Y++D:=by
 rw [DP,DP,It (by rw [C2,Cl];omega),Up (by simp only [C2,Cl,D0];omega),DQ]
theorem mG{A Y D:List A2}(g:A.length=(n+1)*5)(hi:i<=n)(G:Y.length=5)(m:D.length=(n -i)*5):(A.take (0+(i+1)*5)++D++A.drop (0+(i+1)*5+D.length)).take (0+i*5)++Y++(A.take (0+(i+1)*5)++D++A.drop (0+(i+1)*5+D.length)).drop (0+i*5+Y.length)=A.take (i*5)++Y++D:=by
 rw [DP,DP,Up (l:=A) A0,DQ,de (by rw [Cl];omega),WD,S7 A0,ZD (by rw [Cl];omega)]
theorem YA(rows:List AU)(i:Nat)(y:AU):(Ad rows).take (i*5)++Ad [y]++Ad (rows.drop i)=Ad (rows.take i++[y]++rows.drop i):=by
 rw [EG,Br,Br]
theorem Tn{c:AM}(h:Bv c 0 (Ad rows))(i:Nat)(hi:i<=rows.length):Bv c (0+i*5) (Ad (rows.drop i)):=by
 have g:=Ir h (i*5) ((rows.length -i)*5) (by rw [BD];omega);rw [Dl,LS (by rw [BD,D0];omega)]at g;exact g
theorem gW{c:AM}(h:Bv c 0 (Ad rows))(i:Nat)(hi:i<=rows.length):Bv c 0 (Ad (rows.take i)):=by
 have g:=Ir h 0 (i*5) (by rw [BD];omega);rw [S8,EG]at g;exact g
theorem XL(rows:List AU)(i:Nat)(hi:i<=rows.length)(y:AU):(rows.take i++[y]++rows.drop i).length=rows.length+1:=by
 simp only [C2,Cl,D0,G0];omega
set_option maxHeartbeats 1000000 in
theorem ZJ(m:BX 5 61 v rows.length (Ad rows) s)(hn:rows.length<=1000000000)(i:Nat)(hi:i<=rows.length)(y:AU)(U:Nat):BQ prog 283 #[v,I0 (i:Int),I2 U 1 1] [s,[(U,.cells y.A88 61 (0,0))]] (fun r H'=>∃s' s2,BX 5 61 r (rows.take i++[y]++rows.drop i).length (Ad (rows.take i++[y]++rows.drop i)) s'/\H'=[s',s2,[(U,.cells y.A88 61 (0,0))]]):=by
 have o9:=mL;obtain ⟨p,cap,rfl⟩:=m.form;have o8:=Ez m
 refine Se func283 ntmps283 [0,1,2] ?_;intro u R;refine A3<|D2 Y<|Bc<|Zg<|Zm Y<|Zm Y<|Ba (Bw C1 B3 Y Y A0)<|A5<|AN Y<|Zv (AR C1 Y)<|AH Y<|B7 Y<|Zv (Bl (n:=0) Y Y)<|A5<|Ap Y (fun h0=>by cases h0)<|fun h0=>B4<|AN Y<|Zv (AR C1 Y)<|AH Y<|B7 Y<|Zm Y<|Zv (Bl Y Y)<|Z0<|Zn [0,1,2,7,8,22] ?_;refine Zx<|Ap Y (fun X=>?_) (fun X=>?_);·
  refine AN Y<|Zm Y<|Ze (BS (by_:=40) (sz:=5) C1 (V:Tryz.prog.info? 61=some Tryz.t61) V rfl V rfl Y (m) Y (Dn 5 U 1 1 61 (0,0) (Ad [y]) V) Wo Wo (by exact CU _) A0 A0) ?_;rintro _ _ ⟨ow,O,rfl⟩;obtain ⟨l5,kv,rfl⟩:=O.form;refine Ax Y<|Zt<|AX V results283 Y (by
   have X:i=rows.length:=by omega
   subst X;exact ⟨_,[],Bb O (XL rows _ (CT _) y).symm (by rw [HI,kl,DQ,Br]),rfl⟩)
 obtain ⟨g,ek,cur,z,cO,rfl,j5,I⟩:=E9 m A0;injection cO with hv1 hv2 hv3
 subst hv1 hv3;obtain ⟨_,l9,_,l8,af⟩:=JQ m;refine B4<|B7 Y<|Zm Y<|Ya Y Y<|Zm Y<|Zv (QT C1 Y)<|Zv (Df Y Y)<|A5<|Ap Y (fun hg=>?_) (fun hg=>?_);·
  refine AN Y<|Zm Y<|Ba (Bn C1 B3 Y Y A0)<|Zm Y<|Zm Y<|Ya Y Y<|Zm Y<|Yb Y Y ?_;refine Ze (Ku (by_:=40) (sz:=5) (xs:=Ad (rows.take i)) C1 D3 (rfl:Tryz.prog.info? 61=some Tryz.t61) rfl rfl rfl rfl Y Y Wh (gW I i hi) (by rw [BD,Cl];omega) A0 An A0 A0 A0) ?_;rintro _ _ ⟨s9,J,rfl⟩;rw [show i+(rows.length+1 -i)=rows.length+1 by omega]at J;have G:=J.1
  obtain ⟨g3,d9,gm,z3,rfl,rfl,j3,ic⟩:=E9 J A0;obtain ⟨_,gy,_,gq,K⟩:=JQ J;refine B1 Y<|Zn [0,1,2,7,9] ?_;refine Zx<|AN Y<|Zm Y ?_
  (refine Ba (Bo C1 B3 Y Y ?_ ?_) ?_;(focus (omega));(focus (omega)))
  refine Zm Y<|Xe (JM (cs:=Ad [y]) C1 B3 Y Y Wh Wo ((rfl:Bv (y.A88:AM) 0 (Ad [y]))) (by rw [BD,G0];omega) (by rw [BD,G0];omega) (K) (CU _)) ?_;refine A5<|Zq<|Aw (n:=9) (0::0::0::6::15::0::0::96::255::[]) 256 AD AD V<|A1 0 V (AQ Y)<|A1 1 V (AQ Y)<|A1 2 V (AQ Y)<|A1 3 V (EW Y Y A0) ?_
  (refine FB (D':=31) 4 (Bo C1 B3 Y Y ?_ ?_) ?_;(focus (omega));(focus (omega)))
  refine A1 5 V (AQ Y)<|A1 6 V (AQ Y) ?_
  (refine FB (D':=255) 7 (Bo C1 B3 Y Y ?_ ?_) ?_;(focus (omega));(focus (omega)))
  refine Yw 8 511 rfl (JM (cs:=Ad (rows.drop i)) C1 B3 Y Y Wh Wo (Tn I i hi) (by rw [BD,D0];omega) (by rw [BD,D0,GN (by rw [BD,G0];omega)];omega) (by rw [GN (by rw [BD,G0];omega)];exact K) (CU _))<|F1<|Ao<|Zn [9] ?_;refine Zx<|AN Y<|Ax Y<|Zt<|AX V results283 Y (by
   refine ⟨_,[(g,.cells cur 61 z)],Bb (EU (i:=0+(i+1)*5) (ys:=Ad (rows.drop i)) (EU (i:=0+i*5) (ys:=Ad [y]) J (by rw [G,BD,G0];omega)) ?_) (XL rows i hi y).symm ?_,rfl⟩;· simp only [C2,Cl,D0,G,BD,G0];omega
   · rw [tu G hi (by rw [BD];rfl) (by rw [BD,D0]),It (by rw [BD,Cl];omega),<-EG,YA])
 refine B4<|Zq ?_;obtain ⟨p8,cu,bn⟩:=V5 m (rows.length+1) A0 A0;have G:=bn.1
 refine Zg<|Zm Y<|Zm Y<|Zm Y<|Ya Y Y ?_;refine Ba (Bn C1 B3 Y Y A0)<|D2 Y<|Zq<|zR (s1:=[(U,_)]) (s2:=[(g,_)]) (a:=U) (b:=g) Wo Wo (CH.2 V) (CH.2 V) (fun ax=>?_);refine Zg<|Zm Y<|Zm Y<|Zm Y<|Zm Y<|Ya Y Y ?_
 (refine Ba (Bo C1 B3 Y Y ?_ ?_) ?_;(focus (omega));(focus (omega)))
 refine CO (cs:=[(U,.cells y.A88 61 (0,0)),(g,.cells cur 61 z)]) B6 (Sg (tR:=4) func311 AD AD AD AD C1 B3 Y ax A0) V rfl ?_;refine Zv (Bh Y)<|Z0<|Zn [0,1,2,7,8,68] ?_;refine Zx<|AY Y (fun Z=>?_) (fun Z=>?_);·
  refine Zq<|Aw (n:=9) (0::0::0::6::15::0::0::96::255::[]) 256 AD AD V<|A1 0 V (AQ Y)<|A1 1 V (AQ Y)<|A1 2 V (AQ Y)<|A1 3 V (EW Y Y A0) ?_
  (refine FB (D':=31) 4 (Bo C1 B3 Y Y ?_ ?_) ?_;(focus (omega));(focus (omega)))
  refine A1 5 V (AQ Y)<|A1 6 V (AQ Y) ?_
  (refine FB (D':=255) 7 (Bo C1 B3 Y Y ?_ ?_) ?_;(focus (omega));(focus (omega)))
  refine Yw 8 511 rfl (JM (cs:=Ad (rows.drop i)) C1 B3 Y Y Wh Wo (Tn I i hi) (by rw [BD,D0];omega) (by rw [BD,D0];omega) (af) (CU _))<|F1<|Ao<|Zx<|AN Y<|Zm Y ?_
  (refine Ba (Bo C1 B3 Y Y ?_ ?_) ?_;(focus (omega));(focus (omega)))
  refine Zm Y<|Xe (JM (cs:=Ad [y]) C1 B3 Y Y Wh Wo ((rfl:Bv (y.A88:AM) 0 (Ad [y]))) (by rw [BD,G0];omega) (by rw [BD,G0,GN (by rw [BD,D0];omega)];omega) (by rw [GN (by rw [BD,D0];omega)];exact af) (CU _)) ?_;refine Z0<|Zn [0] ?_;refine Zx<|AN Y<|Ax Y<|Zt<|AX V results283 Y (by
   refine ⟨_,[],Bb (EU (i:=0+i*5) (ys:=Ad [y]) (EU (i:=0+(i+1)*5) (ys:=Ad (rows.drop i)) bn (by rw [G,BD,D0];omega)) ?_) (XL rows i hi y).symm ?_,rfl⟩;· simp only [C2,Cl,D0,BD,cu,G0];omega
   · rw [mG G hi (by rw [BD];rfl) (by rw [BD,D0]),de (by rw [BD];omega),YA])
 cases Z
structure QM where
 kd:Int
 tb:Int
 cl:Int
 lo:Int
 hi:Int
 bq:Int
 ot:Int
deriving DecidableEq
abbrev QM.HH(q:QM)(c:Chg)(x y:Option Go.Addr)(o n:Int):Array Go.Value:=#[I0 q.kd,I0 q.tb,I0 q.cl,I0 q.lo,I0 q.hi,I0 q.bq,I0 q.ot,I0 c.t,I0 c.k,.bool c.had,I0 c.o.a,I0 c.o.b,I0 c.o.c,.bool c.has,I0 c.n.a,I0 c.n.b,I0 c.n.c,.pointer x,.pointer y,I0 o,I0 n]
abbrev QM.A89(c:QM):Array Go.Value:=#[I0 c.kd,I0 c.tb,I0 c.cl,I0 c.lo,I0 c.hi,I0 c.bq,I0 c.ot]
structure C8 where
 rows:List AU
 val:Int
 fnd:Bool
deriving DecidableEq
def inQ(q:QM)(r:AU):Bool:=decide (r.t=q.tb/\q.lo<=Bj r q.cl/\Bj r q.cl<=q.hi)
def BG(q:QM):Prop:=(0<=q.tb/\q.tb<=3)/\(0<=q.cl/\q.cl<=3)/\(-1000000000<=q.lo/\q.lo<=q.hi/\q.hi<=1000000000)/\
 ((q.kd=1/\q.cl=0/\q.lo=q.hi/\(1<=q.lo/\q.lo<=1000000)/\q.bq=0/\q.ot=0)\/((q.kd=2\/q.kd=3)/\q.bq=0/\q.ot=0)\/
  ((q.kd=4\/q.kd=5\/q.kd=6)/\(1<=q.bq/\q.bq<=3)/\q.ot=0)\/(q.kd=7/\(1<=q.bq/\q.bq<=3)/\(0<=q.ot/\q.ot<=3)))
instance(q:QM):Decidable (BG q):=by unfold BG;infer_instance
def C8.none:C8:=⟨[],0,false⟩
def LK(ms:List Int):Int:=ms.foldl (·+·) 0
def EZ(lt:Int->Int->Bool)(ms:List Int):C8:=ms.foldl (fun r n=>⟨r.rows,if !r.fnd||lt n r.val then n else r.val,true⟩) C8.none
def Dc(q:QM)(others:List AU)(k:Int):Option AU:=others.find? (fun x=>decide (x.t=q.ot/\x.k=k))
def Ie(q:QM)(others:List AU)(r:AU):List AU:=match Dc q others (Bj r q.bq)with
 |some x=>[r,x]
 |none=>[]
def Ig(q:QM)(rows others:List AU):List AU:=rows.flatMap (Ie q others)
def Cu(q:QM)(rows:List AU):List Int:=rows.map fun r=>Bj r q.bq
def FQ(q:QM)(rows others:List AU):C8:=
 if q.kd=3 then⟨[],rows.length,false⟩else if q.kd=4 then⟨[],LK (Cu q rows),false⟩
 else if q.kd=5 then EZ (fun a b=>decide (a<b)) (Cu q rows)else if q.kd=6 then EZ (fun a b=>decide (b<a)) (Cu q rows)
 else if q.kd=7 then⟨Ig q rows others,0,false⟩else⟨rows,0,false⟩
def CR(rs:List AU)(q:QM):List AU:=Dv rs q.tb q.cl.toNat q.lo q.hi
def Cf(rs:List AU)(q:QM):C8:=FQ q (CR rs q) (IG rs q.ot)
def lH(c:Chg):List AU:=if c.had then [⟨c.t,c.k,c.o⟩]else []
def Ia(q:QM)(b:Bool)(r:AU):Option AU:=if b&&inQ q r then some r else none
def bfQ(q:QM)(c:Chg):Option AU:=Ia q c.had ⟨c.t,c.k,c.o⟩
def afQ(q:QM)(c:Chg):Option AU:=Ia q c.has ⟨c.t,c.k,c.n⟩
def mQ(q:QM):Option AU->Int
 |some r=>Bj r q.bq
 |none=>0
def Nt(q:QM)(c:Chg):Bool:=(bfQ q c).isSome||(afQ q c).isSome
def UO(q:QM)(c:Chg):Bool:=(bfQ q c).isSome !=(afQ q c).isSome
def Cr(q:QM)(c:Chg):Bool:=
 if q.kd=1\/q.kd=2 then Nt q c else if q.kd=3 then UO q c else if q.kd=4 then decide (mQ q (bfQ q c)≠mQ q (afQ q c))
 else if q.kd=5\/q.kd=6 then UO q c||decide (mQ q (bfQ q c)≠mQ q (afQ q c))else Nt q c||decide (c.t=q.ot)
theorem Pj{c:Chg}(J:GR rs c):∃A B,rs=A++lH c++B/\EO rs c=A++NV c++B:=by
 refine ⟨rs.take (EB rs c.t c.k),(rs.drop (EB rs c.t c.k)).drop (if c.had then 1 else 0),?_,V⟩;unfold lH;cases hh:c.had with
 |false=>simp
 |true=>
  have m:(Fu rs c.t c.k).2=true:=by rw [J.1,hh]
  obtain ⟨r,X,hi,O,U⟩:=JD m;have hv:=J.2 m
  rw [U]at hv;have e:r=⟨c.t,c.k,c.o⟩:=by
   obtain ⟨t,k,v⟩:=r;obtain ⟨G,I⟩:=hi;simp only at G I hv;subst G I hv;rfl
  rw [e]at O;obtain ⟨K,g⟩:=C6.1 O;simp only [J1,DG];conv=>lhs;rw [<-MA (EB rs c.t c.k) rs,RT K,g]
  rw [PJ,RT K];rfl
variable{q:QM}
theorem zM(h:BG q)(r:AU):inR q.tb q.cl.toNat q.lo q.hi r=inQ q r:=by
 have hc:=h.2.1;have:=LG r q.cl.toNat A0
 rw [show((q.cl.toNat:Nat):Int)=q.cl by omega]at this;unfold inR inQ;rw [this]
theorem QH(h:BG q)(rs:List AU):CR rs q=(rs.filter (inQ q)).foldl (ZM q.cl.toNat) []:=by
 unfold CR Dv;rw [kh fun r _=>zM h r]
theorem Hm(h:BG q)(rs:List AU):(CR rs q).Perm (rs.filter (inQ q)):=by
 have:=ET rs q.tb q.cl.toNat q.lo q.hi;rwa [kh fun r _=>zM h r]at this
theorem Su(q:QM)(c:Chg):(lH c).filter (inQ q)=(bfQ q c).toList:=by
 unfold lH bfQ Ia;cases c.had with
 |false=>rfl
 |true=>simp only [J1,Wa,dr,oA];split<;>rfl
theorem Sv(q:QM)(c:Chg):(NV c).filter (inQ q)=(afQ q c).toList:=by
 unfold NV afQ Ia;cases c.has with
 |false=>rfl
 |true=>simp only [J1,Wa,dr,oA];split<;>rfl
def Jh:List Int->Int
 |[]=>0
 |x::l=>x+Jh l
theorem Md(l:List Int):∀a,l.foldl (·+·) a=a+Jh l:=by
 induction l with
 |nil=>intro a;simp [Jh]
 |cons x l ih=>intro a;rw [W8,ih];simp only [Jh];omega
theorem Xy(a b:List Int):Jh (a++b)=Jh a+Jh b:=by
 induction a with
 |nil=>simp [Jh]
 |cons x a ih=>simp only [S6,Jh,ih];omega
theorem M6{a b:List Int}(h:a.Perm b):Jh a=Jh b:=by
 induction h with
 |nil=>rfl
 |cons x _ ih=>simp only [Jh,ih]
 |swap x y l=>simp only [Jh];omega
 |trans _ _ ih1 ih2=>exact ih1.trans ih2
theorem yK(lt:Int->Int->Bool)(I:∀a b c,lt b a=false->lt c b=false->lt c a=false)(G:∀a,lt a a=false)(g:∀a b,lt a b=true->lt b a=false)(l:List Int):∀(m:Int),∃x,(x=m\/x∈l)/\lt m x=false/\(∀y∈l,lt y x=false)/\l.foldl (fun(r:C8) n=>(⟨r.rows,if !r.fnd||lt n r.val then n else r.val,true⟩:C8)) ⟨[],m,true⟩=⟨[],x,true⟩:=by
 induction l with
 |nil=>intro m;exact ⟨m,.inl rfl,G m,by simp,rfl⟩
 |cons z l ih=>
  intro m;rw [W8];cases hz:lt z m with
  |true=>
   obtain ⟨x,J,h2,K,O⟩:=ih z;simp only [TX,oR,hz,J1];refine ⟨x,.inr (by rcases J with h|h;rw [h];simp;exact G3 _ h),I x z m h2 (g z m hz),fun y hy=>?_,O⟩;rcases Dg.1 hy with rfl|hy
   · exact h2
   · exact K y hy
  |false=>
   obtain ⟨x,J,h2,K,O⟩:=ih m;simp only [TX,oR,hz,Of,Hi];refine ⟨x,by rcases J with h|h;exact .inl h;exact .inr (G3 _ h),h2,fun y hy=>?_,O⟩;rcases Dg.1 hy with rfl|hy
   · exact I x m y h2 hz
   · exact K y hy
theorem KH(lt:Int->Int->Bool)(G:∀a b c,lt b a=false->lt c b=false->lt c a=false)(m:∀a,lt a a=false)(g:∀a b,lt a b=true->lt b a=false)(z:Int)(l:List Int):∃x∈z::l,(∀y∈z::l,lt y x=false)/\EZ lt (z::l)=⟨[],x,true⟩:=by
 obtain ⟨x,I,h2,J,K⟩:=yK lt G m g l z;refine ⟨x,by rcases I with h|h;rw [h];simp;exact G3 _ h,fun y hy=>?_,?_⟩
 · rcases Dg.1 hy with rfl|hy
   · exact h2
   · exact J y hy
 · unfold EZ
   rw [W8];exact K
theorem Ow(lt:Int->Int->Bool)(I:∀a b c,lt b a=false->lt c b=false->lt c a=false)(m:∀a,lt a a=false)(g:∀a b,lt a b=true->lt b a=false)(J:∀a b,lt a b=false->lt b a=false->a=b){l G:List Int}(h:∀y,y∈l↔y∈G):EZ lt l=EZ lt G:=by
 match l,G,h with
 |[],[],_=>rfl
 |[],y::G,h=>have:=(h y).2 B6;cases this
 |y::l,[],h=>have:=(h y).1 B6;cases this
 |y::l,y'::G,h=>
  obtain ⟨x,O,U,X⟩:=KH lt I m g y l;obtain ⟨K,Z,b2,b3⟩:=KH lt I m g y' G;rw [X,b3,J x K (b2 x ((h x).1 O)) (U K ((h K).2 Z))]
theorem iN{c:Chg}(g:GR rs c)(h:c.t≠t):IG (EO rs c) t=IG rs t:=by
 obtain ⟨A,B,e1,e2⟩:=Pj g;have z1:(lH c).filter (inT t)=[]:=by
  unfold lH;split;· simp [inT,h]
  · rfl
 have z2:(NV c).filter (inT t)=[]:=by
  unfold NV;split;· simp [inT,h]
  · rfl
 unfold IG;rw [e2];conv=>rhs;rw [e1]
 simp only [Kd,z1,z2,DQ]
theorem RV{o:Option AU}(h:o.isSome=false):o.toList=[]:=by
 cases o with
 |none=>rfl
 |some x=>cases h
theorem uY{c:Chg}(I:BG q)(Z:GR rs c)(h:Cr q c=false):Cf (EO rs c) q=Cf rs q:=by
 obtain ⟨A,B,e1,e2⟩:=Pj Z;have U:rs.filter (inQ q)=A.filter (inQ q)++(bfQ q c).toList++B.filter (inQ q):=by
  conv=>lhs;rw [e1]
  rw [Kd,Kd,Su]
 have X:(EO rs c).filter (inQ q)=A.filter (inQ q)++(afQ q c).toList++B.filter (inQ q):=by
  rw [e2,Kd,Kd,Sv]
 have J:=Hm I rs;have K:=Hm I (EO rs c)
 rw [U]at J;rw [X]at K;have same:(bfQ q c).isSome=false->(afQ q c).isSome=false->CR (EO rs c) q=CR rs q:=fun h1 h2=>by
  rw [QH I,QH I,U,X,RV h1,RV h2]
 unfold Cr at h;unfold Cf FQ;split at h
 · rename_i hk
   unfold Nt at h;rw [ke]at h;rw [same h.1 h.2,As A0,As A0,As A0,As A0,As A0,As A0,As A0,As A0,As A0,As A0]
 · split at h
   · rename_i hk
     rw [B0 hk,B0 hk];have hl:(CR (EO rs c) q).length=(CR rs q).length:=by
      rw [J.length_eq,K.length_eq];simp only [C2];unfold UO at h;cases hb:bfQ q c<;>cases g:afQ q c<;>simp [hb,g]at h⊢
     rw [hl]
   · split at h
     · rename_i hk3 hk
       rw [As hk3,As hk3,B0 hk,B0 hk];have hs:LK (Cu q (CR (EO rs c) q))=LK (Cu q (CR rs q)):=by
        unfold LK Cu;rw [Md,Md,M6 (J.map _),M6 (K.map _)];simp only [CN,Xy];have O:=cE h
        have key:∀o:Option AU,Jh (o.toList.map fun r=>Bj r q.bq)=mQ q o:=fun o=>by
         cases o with
         |none=>rfl
         |some x=>simp [Jh,mQ]
        rw [key,key];omega
       rw [hs]
     · split at h
       · rename_i hk3 hk4 hk
         rw [ke]at h;have O:=cE h.2
         have G:=h.1;have m:∀y,y∈Cu q (CR (EO rs c) q)↔y∈Cu q (CR rs q):=fun y=>by
          unfold Cu;rw [(J.map _).mem_iff,(K.map _).mem_iff];unfold UO at G;cases hb:bfQ q c<;>cases g:afQ q c<;>simp [hb,g]at G⊢
          simp [hb,g,mQ]at O;rw [O]
         rw [As hk3,As hk3,As hk4,As hk4];rcases hk with hk|hk
         · rw [B0 hk,B0 hk]
           exact Ow _ (by intro a b c;simp;omega) (by intro a;simp) (by intro a b;simp;omega) (by intro a b;simp;omega) m
         · rw [As (show¬q.kd=5 by omega),As (show¬q.kd=5 by omega),B0 hk,B0 hk]
           exact Ow _ (by intro a b c;simp;omega) (by intro a;simp) (by intro a b;simp;omega) (by intro a b;simp;omega) m
       · rw [ke]at h
         have g:=h.1;unfold Nt at g;rw [ke]at g;rw [same g.1 g.2,iN Z (cE h.2)]
end Go.Proofs.YtelliknjeemfoaaGreatDoor
