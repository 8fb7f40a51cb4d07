/- Records in plain words: a log that can be applied. -/
import Derived.Test.YthhakdmlpngcmaaGreatDoorLg9
import Derived.WalkSpells
import Derived.Shelf.SlSortCmp.NoneTotal
set_option linter.unusedVariables false
set_option linter.unusedSimpArgs false
namespace Go.Proofs.YthhakdmlpngcmaaGreatDoor
open Go.Proofs.Tryz
open Go Go.RowKit Gw
set_option maxRecDepth 100000
attribute [local irreducible] Gw.At Gw.Nx Gw.Ops
structure BQ where
 p:Int
 q:B8
 cap:Nat
 cs:List Chg
def Du(l:List BQ):List A4:=l.flatMap (fun r=>[I4 r.p,.slice r.q r.cs.length r.cap])
def Ec(M:List A9)(v:A4)(l:List BQ):Prop:=∃p cap,v= .slice p l.length cap/\(l.length<=maxLen/\l.length<=cap)/\∀(i:Nat) (r:BQ),l[i]?=some r->Cv M (.slice r.q r.cs.length r.cap) r.cs/\∃g off cur T zz,p=some ⟨g,off,none⟩/\(g,Obj.cells cur T zz)∈M/\off+i*2+2<=cur.size/\cur.extract (off+i*2) (off+i*2+2)=#[I4 r.p,.slice r.q r.cs.length r.cap]
def Bb(l:List BQ):List AR:=l.foldl (fun rs r=>DV rs r.cs) []
theorem Gg(l:List BQ)(r:BQ):Bb (l++[r])=DV (Bb l) r.cs:=by unfold Bb;rw [bm];rfl
def FC(l:List BQ):Prop:=∀(i:Nat) (r:BQ),l[i]?=some r->Ke (Bb (l.take i)) (i:Int) r.p r.cs/\r.cs.length<=3
variable{rs:List AR}{cs:List Chg}
theorem iM{p rp:Int}(G:BP rs)(h:Ke rs p rp cs):BP (DV rs cs)/\(DV rs cs).length<=2000:=by
 have m:=UC h.ok.ord;obtain ⟨g,_⟩:=KV G m h.fit cs.length (CI _);have h2:=Nj G m h.fit cs.length (CI _)
 rw [G3]at g h2;exact ⟨g,by have:=h.size;omega⟩
theorem FC.rows{l:List BQ}(h:FC l):∀i,i<=l.length->BP (Bb (l.take i))/\(Bb (l.take i)).length<=2000
 |0,_=>⟨List.Pairwise.nil,C7 _⟩
 |i+1,hi=>by
  obtain ⟨r,g⟩:∃r,l[i]?=some r:=⟨_,BT A0⟩;have m:=FC.rows h i A0
  rw [PF,g];show BP (Bb (l.take i++[r]))/\_
  rw [show(some r).toList=[r] from rfl,Gg];exact iM m.1 (h i r g).1
theorem FC.all{l:List BQ}(h:FC l):BP (Bb l)/\(Bb l).length<=2000:=by
 have:=h.rows l.length (CI _);rwa [G3]at this
theorem FC.snoc{l:List BQ}(h:FC l){r:BQ}(I:Ke (Bb l) (l.length:Int) r.p r.cs)(G:r.cs.length<=3):FC (l++[r]):=by
 intro i x g;rw [nw]at g;split at g
 · rename_i hi
   rw [cJ A0];exact h i x g
 · rename_i hi
   have m:=(C4.1 g).1;simp only [F2]at m;have e:i=l.length:=by omega
   subst e;rw [T5]at g;injection g with g
   subst g;rw [HX rfl];exact ⟨I,G⟩
theorem GD:∀(cs:List Chg),(Cm cs).length=cs.length*10
 |[]=>rfl
 |c::cs=>by
  have:=GD cs;unfold Cm at*;rw [HW,Bm,this,E3];simp;omega
theorem J4(a b:List Chg):Cm (a++b)=Cm a++Cm b:=by unfold Cm;rw [P2]
theorem Uk(cs:List Chg)(k:Nat):(Cm cs).take (k*10)=Cm (cs.take k):=by
 rcases FF cs.length k with h|h
 · rw [Hx (by rw [GD];omega),Hx A0]
 · have e:Cm cs=Cm (cs.take k)++Cm (cs.drop k):=by rw [<-J4,J0]
   rw [e,HX (by rw [GD,CD];omega)]
theorem Ul(cs:List Chg)(k:Nat):(Cm cs).drop (k*10)=Cm (cs.drop k):=by
 rcases FF cs.length k with h|h
 · rw [SZ (by rw [GD];omega),SZ A0];rfl
 · have e:Cm cs=Cm (cs.take k)++Cm (cs.drop k):=by rw [<-J4,J0]
   rw [e,X1 (by rw [GD,CD];omega)]
theorem PO(cs:List Chg):∀u∈Cm cs,u.oneCell'=true:=by
 intro u g;unfold Cm at g;obtain ⟨r,_,h⟩:=S1.1 g;simp only [DB,Pc,OR]at h;rcases h with rfl|rfl|rfl|rfl|rfl|rfl|rfl|rfl|rfl|rfl<;>rfl
theorem vN{cur:AK}{j:Nat}{y:Chg}(h:Bz cur 0 (Cm cs))(J:cs[j]?=some y):cur[j*10]?=some (I4 y.t)/\cur[j*10+1]?=some (I4 y.k):=by
 have m:=J2 (fun c:Chg=>[I4 c.t,I4 c.k,.bool c.had,I4 c.o.a,I4 c.o.b,I4 c.o.c,.bool c.has,I4 c.n.a,I4 c.n.b,I4 c.n.c]) 10 (fun _=>rfl) cs j y J;have e:∀q,((Cm cs).drop (j*10)).take 10=[I4 y.t,I4 y.k,.bool y.had,I4 y.o.a,I4 y.o.b,I4 y.o.c,.bool y.has,I4 y.n.a,I4 y.n.b,I4 y.n.c]->q<10->(Cm cs)[j*10+q]?=([I4 y.t,I4 y.k,.bool y.had,I4 y.o.a,I4 y.o.b,I4 y.o.c,.bool y.has,I4 y.n.a,I4 y.n.b,I4 y.n.c]:List A4)[q]?:=fun q G I=>by
  rw [<-G,HI,Ax I,RW]
 have a0:=h.get (j*10+0) _ ((e 0 m A0).trans rfl);have g:=h.get (j*10+1) _ ((e 1 m A0).trans rfl)
 rw [D3]at a0 g;exact ⟨a0,g⟩
variable{v:A4}
theorem Jm{M:List A9}(h:Cv M v cs)(s:List A9):Cv (M++s) v cs:=by
 obtain ⟨p,cap,hv,J,I⟩:=h;refine ⟨p,cap,hv,J,fun i c hc=>?_⟩;obtain ⟨g,off,cur,T,zz,m,h2,G⟩:=I i c hc;exact ⟨g,off,cur,T,zz,m,Ek _ h2,G⟩
theorem Gy{M:List A9}(h:Cv M v cs)(s:List A9):Cv (s++M) v cs:=by
 obtain ⟨p,cap,hv,J,I⟩:=h;refine ⟨p,cap,hv,J,fun i c hc=>?_⟩;obtain ⟨g,off,cur,T,zz,m,h2,G⟩:=I i c hc;exact ⟨g,off,cur,T,zz,m,G2 _ h2,G⟩
def WN(M:List A9)(v:A4)(xs:List (List Int)):Prop:=∃p cap,v= .slice p xs.length cap/\(xs.length<=maxLen/\xs.length<=cap)/\∀(i:Nat) (z:List Int),xs[i]?=some z->z.length=6/\(∀n∈z,-9223372036854775808<=n/\n<=9223372036854775807)/\∃g off cur T zz,p=some ⟨g,off,none⟩/\(g,Obj.cells cur T zz)∈M/\∀(j:Nat) (n:Int),z[j]?=some n->cur[off+i*6+j]?=some (I4 n)
theorem KF{l:List BQ}{s I:List A9}(h:Bd 2 57 v l.length (Du l) s)(O:l.length<=maxLen)(K:∀r∈l,Cv I (.slice r.q r.cs.length r.cap) r.cs):Ec (s++I) v l:=by
 obtain ⟨b,cap,rfl⟩:=h.form;refine ⟨b,cap,V,⟨O,Ez h⟩,fun i r G=>⟨Gy (K r (DQ G)) s,?_⟩⟩;obtain ⟨g,J,cur,z,hv,rfl,U,m⟩:=KE h i (C4.1 G).1;injection hv with hv1 hv2 hv3
 refine ⟨g,0,cur,57,z,hv1,Ek _ (C5.2 V),by omega,?_⟩;rw [D3];apply I2.1;rw [m];exact J2 _ 2 (fun _=>rfl) l i r G
theorem Kn(a b:List BQ):Du (a++b)=Du a++Du b:=by unfold Du;rw [P2]
theorem rS:BR prog 23 #[] [] (fun r H'=>∃g,r=I5 g/\H'=[[(g,.cells #[.slice none 0 0,I4 0] 84 (0,0))]]):=by
 refine Se func23 ntmps23 [] ?_;intro u R;refine A1<|A5 Y<|A1<|Zv (BM (vs:=[]) (cs:=#[_,_]) Y (AY (pl:=#[(0,1),(1,1)]) zeroValue84 IH (fun _=>by kernel_rfl) V))<|Ze (Bx #[_,_])<|AG fun g=>A5 Y<|AJ<|AP V results23 Y (by exact ⟨g,V,V⟩)
def K2(k:Int×Int):A4:= .agg #[I4 k.1,I4 k.2]
def KD(k:Int×Int):Prop:=(Lit.int .i64 k.1).wf=true/\(Lit.int .i64 k.2).wf=true
def SH(r:AR):A4:= .agg r.A71
theorem wG:∀a b,K2 a=K2 b->a=b:=by
 rintro ⟨a,b⟩ ⟨c,d⟩ h;unfold K2 at h;simp only [Value.agg.injEq,oy,mm,Value.int.injEq,ef,WD]at h;rw [h.1,h.2]
theorem Oy(P:Program)(d:Nat)(a:Int){t:AM}(g:P.underlying t=some (.int .i64))(h:(Lit.int .i64 a).wf=true):P.keyLits (d+1) t [.int .i64 a]=some [.int .i64 a]:=by
 unfold Program.keyLits;rw [g];simp [h]
theorem uP:G5 prog 217 K2 KD:=G5.ofLaw (deep_law (m:=3) (by decide) (by kernel_rfl) (by kernel_rfl) (by kernel_rfl)) (by
 rintro ⟨a,b⟩ ⟨I,J⟩;have G:Tryz.prog.types.size+1=(Tryz.prog.types.size -1)+1+1:=by
  have:0<Tryz.prog.types.size:=HO AF;omega
 have hc:Tryz.prog.cellsOf 3=1:=by kernel_rfl
 have g:Tryz.prog.cellsOf 217=2:=by kernel_rfl
 have U:Tryz.prog.keyType 217=true:=by kernel_rfl
 have O:(K2 (a,b)).formed prog 217=true:=by
  unfold Value.formed K2;rw [jx];simp [g]
 unfold keyOf;rw [jx];simp only [U,O,Bool.and_self,Hv];obtain ⟨d,K⟩:∃d,Tryz.prog.types.size+1=d+1+1:=⟨_,G⟩;rw [K];unfold Program.keyLits;rw [jx];have X:=Oy prog d a D4 I
 have Z:=Oy prog d b D4 J;simp [K2,Value.cells,hc,g,X,Z]) wG
structure H7(l:List ((Int×Int)×A4))(rs:List AR):Prop where
 mem:∀p,p∈l↔∃r∈rs,p=((r.t,r.k),SH r)
 kd:∀r∈rs,KD (r.t,r.k)
theorem tN:H7 [] []:=⟨fun p=>by simp,fun r h=>by cases h⟩
variable{l:List ((Int×Int)×A4)}
theorem H7.keys(h:H7 l rs):∀p∈l,KD p.1:=fun p g=>by
 obtain ⟨r,m,rfl⟩:=(h.mem p).1 g;exact h.kd r m
theorem YQ{a b:AR}(h:SH a=SH b):a=b:=by
 obtain ⟨t,k,⟨x,y,z⟩⟩:=a;obtain ⟨m,g,⟨G,I,J⟩⟩:=b;unfold SH at h;simp only [Value.agg.injEq,oy,mm,Value.int.injEq,ef,WD]at h;obtain ⟨rfl,rfl,rfl,rfl,rfl⟩:=h;rfl
theorem H7.len{es:Array MapEntry}{ck:Nat}(I:Co K2 es ck l)(h:H7 l rs)(K:BP rs):l.length=rs.length:=by
 have G:l.Nodup:=by
  have:=I.keys;rw [ao,US]at this;rw [ao];exact this.imp (fun g e=>g (by rw [e]))
 have h2:(rs.map (fun r=>((r.t,r.k),SH r))).Nodup:=by
  rw [ao,US];refine K.imp (fun{a b} hab e=>?_);have e2:=YQ (Prod.mk.inj e).2
  subst e2;unfold AR.lt2 at hab;omega
 have J:l.Perm (rs.map (fun r=>((r.t,r.k),SH r))):=by
  rw [OS G h2];intro p;rw [h.mem p,C6];constructor;· rintro ⟨r,m,rfl⟩;exact ⟨r,m,rfl⟩
  · rintro ⟨r,m,rfl⟩;exact ⟨r,m,rfl⟩
 rw [J.length_eq,B6]
theorem H7.get{es:Array MapEntry}{ck:Nat}(J:Co K2 es ck l)(h:H7 l rs)(U:BP rs)(t k:Int):
 (Dp (t,k) l).getD (SH AR.zero)=SH (Fy rs t k).1/\(Dp (t,k) l).isSome=(Fy rs t k).2:=by
 cases hg:(Fy rs t k).2 with
 |true=>
  obtain ⟨r,m,hi,_,I⟩:=JM hg;have G:((t,k),SH r)∈l:=(h.mem _).2 ⟨r,m,by rw [show t=r.t from hi.1.symm,show k=r.k from hi.2.symm]⟩
  rw [D7 J.keys G,I];exact ⟨V,V⟩
 |false=>
  have g:∀r∈rs,¬r.is t k:=fun r m hi=>by rw [KU U m hi]at hg;cases hg
  have K:Dp (t,k) l=none:=Da (fun p O e=>by
   obtain ⟨r,m,rfl⟩:=(h.mem p).1 O;injection e with e1 e2
   exact g r m ⟨e1,e2⟩)
  rw [K,QH g];exact ⟨V,V⟩
variable{c:Chg}
theorem H7.put{J:List ((Int×Int)×A4)}(h:H7 l rs)(I:BP rs)(G:GX rs c)(K:c.has=true)(O:KD (c.t,c.k))(U:∀p,p∈J↔p=((c.t,c.k),SH ⟨c.t,c.k,c.n⟩)\/(p∈l/\p.1≠(c.t,c.k))):H7 J (EL rs c):=by
 refine ⟨fun p=>?_,fun r m=>?_⟩
 · rw [U p]
   constructor
   · rintro (rfl|⟨g,h2⟩)
     · exact ⟨_,(GA I G _).2 (.inr ⟨K,rfl⟩),rfl⟩
     · obtain ⟨r,m,rfl⟩:=(h.mem p).1 g
       exact ⟨r,(GA I G _).2 (.inl ⟨m,fun hi=>h2 (by rw [show r.t=c.t from hi.1,show r.k=c.k from hi.2])⟩),rfl⟩
   · rintro ⟨r,m,rfl⟩
     rcases (GA I G _).1 m with⟨g,h2⟩|⟨_,rfl⟩
     · exact .inr ⟨(h.mem _).2 ⟨r,g,rfl⟩,fun e=>h2 (by injection e with e1 e2;exact ⟨e1,e2⟩)⟩
     · exact .inl rfl
 · rcases (GA I G _).1 m with⟨g,_⟩|⟨_,rfl⟩
   · exact h.kd r g
   · exact O
theorem H7.drop{K:List ((Int×Int)×A4)}(h:H7 l rs)(I:BP rs)(G:GX rs c)(J:c.has=false)(O:∀p,p∈K↔p∈l/\p.1≠(c.t,c.k)):H7 K (EL rs c):=by
 refine ⟨fun p=>?_,fun r m=>?_⟩
 · rw [O p]
   constructor
   · rintro ⟨g,h2⟩
     obtain ⟨r,m,rfl⟩:=(h.mem p).1 g;exact ⟨r,(GA I G _).2 (.inl ⟨m,fun hi=>h2 (by rw [show r.t=c.t from hi.1,show r.k=c.k from hi.2])⟩),rfl⟩
   · rintro ⟨r,m,rfl⟩
     rcases (GA I G _).1 m with⟨g,h2⟩|⟨h9,_⟩
     · exact ⟨(h.mem _).2 ⟨r,g,rfl⟩,fun e=>h2 (by injection e with e1 e2;exact ⟨e1,e2⟩)⟩
     · rw [J]at h9;cases h9
 · rcases (GA I G _).1 m with⟨g,_⟩|⟨h9,_⟩
   · exact h.kd r g
   · rw [J]at h9;cases h9
theorem Us{n:Int}(h:-9223372036854775808<=n/\n<=9223372036854775807):(Lit.int .i64 n).wf=true:=by
 simp [Lit.wf,IntKind.min,IntKind.max,IntKind.signed,IntKind.bits];omega
theorem vM(h:c.ok):KD (c.t,c.k):=by
 obtain ⟨m,h2,_,_⟩:=h;have G:(0<=c.t/\c.t<=3)/\(1<=c.k/\c.k<=1000000):=by
  cases hh:c.had with
  |true=>
   have:c.before.ok:=aq (fun g=>h2 (.inl ⟨hh,g⟩));rw [PP hh]at this;exact this.2
  |false=>
   cases hs:c.has with
   |true=>
    have:c.after.ok:=aq (fun g=>h2 (.inr ⟨hs,g⟩));rw [LU hs]at this;exact this.2
   |false=>exact absurd (.inl ⟨by rw [hh];decide,by rw [hs];decide⟩) m
 exact ⟨Us (by show _<=c.t/\c.t<=_;omega),Us (by show _<=c.k/\c.k<=_;omega)⟩
theorem OW(c:Chg):BJ prog 109 #[.agg c.A70] [] (.tuple #[.agg #[I4 (EN c c.has c.n).t,I4 (EN c c.has c.n).k,I4 (EN c c.has c.n).v.a,I4 (EN c c.has c.n).v.b,I4 (EN c c.has c.n).v.c],.bool c.has]):=by
 refine Se func109 ntmps109 [0] ?_;intro u R;refine A1<|Ze (Bx #[_,_,_,_,_,_,_,_,_,_])<|AG fun g=>Ze (Al F0 #[_,_,_,_,_])<|AG fun m=>A5 Y<|A1<|Zo Wh (AB (cs:=#[_,_,_,_,_,_,_,_,_,_]) GF CC Y B5 B0)<|Zh 6 C3 V rfl DM Y<|Zl Fk Y<|Zh 7 C3 V rfl Dg Y<|Zo Wh (AB (cs:=#[_,_,_]) HN Dg Y B5 B0)<|Xr [_,_,_] Y call173 Y V (Wv c c.has c.n)<|Zd Y V<|Zd Y V<|Xe (Xw B3 _)<|AW Y<|Zn [2,3] ?_;refine Zx<|AJ<|CL V results109 Y Wh (Au D0 B3 Wn (V)) Y (by exact ⟨V,V⟩)
theorem zh:BR prog 57 #[] [] (fun r H'=>∃g mb,r=I5 g/\H'=[[(g,.cells #[.map (some mb),I4 0] 215 (0,0))],[(mb,.map #[] 0)]]):=by
 refine Se func57 ntmps57 [] ?_;intro u R;refine A1<|A5 Y<|A1<|Ze (DX)<|AG fun mb=>Zv (BM (vs:=[(0,_)]) (cs:=#[_,_]) Y (AY (pl:=#[(0,1),(1,1)]) zeroValue213 cQ (fun _=>by kernel_rfl) V))<|Zv (BM (vs:=[(0,_)]) (cs:=#[_,_]) Y (AY (pl:=#[(0,2)]) zeroValue215 cS (fun _=>by kernel_rfl) V))<|Ze (Bx #[_,_])<|AG fun g=>A5 Y<|AJ<|AP V results57 Y (by exact ⟨g,mb,V,V⟩)
theorem x9(sp mb:Nat)(p rp:Int)(es:Array MapEntry)(ck:Nat)(lm:List ((Int×Int)×A4))(rs:List AR)(M:List A9)(q:B8)(cap:Nat)(cs:List Chg)(hm:Co K2 es ck lm)(hR:H7 lm rs)(hO:Cv M (.slice q cs.length cap) cs)(hs:BP rs)(hn:rs.length<=2000)(hA:Ke rs p rp cs):
 BJ prog 108 #[I5 sp,.agg #[I4 rp,.slice q cs.length cap]] [[(sp,.cells #[.map (some mb),I4 p] 215 (0,0))],[(mb,.map es ck)],M] (.bool true):=by
 have kv:=mL;obtain ⟨p9,ic,e9,l5,hg⟩:=id hO;injection e9 with e91 e92 e93
 subst e91 e93;have J:=hA.ok
 have l8:=hA.pos;have j5:=J.len
 have l9:=J.pos;have j3:=UC J.ord
 have ek:=hR.len hm hs;refine Se func108 ntmps108 [0,1] ?_;intro u R;refine A1<|Ze (Bx #[_,_])<|AG fun b1=>A5 Y<|Zq<|Zq<|BA (n:=14) (0::1::3::7::15::31::15::79::207::463::975::1999::4095::8191::[]) 2 AF AF V<|FG 0 V Wh (AB (cs:=#[_,_]) Iv GC Y B5 B0)<|Yw 1 3 V (Zu [_] Y call44 Y V (Ph rp q cap cs M hO)) ?_;rintro _ _ ⟨rfl,rfl⟩;rw [DG J];refine A3 2 V (Bt Y)<|A3 3 V (AO Y)<|CU (t:=13) Y (fun h1=>?_) (fun h1=>?_);·
  rw [h1];cases h1
 rw [h1];refine An 4 V (AA (off:=0) HE V rfl AE Y)<|DO 5 V Wh (BF AH Y B0)<|An 6 V (AO Y)<|An 7 V (Ak Y V)<|An 8 V (AA (off:=0) cS V rfl eK Y)<|An 9 V (Ap (off:=1) cQ V rfl AE Y)<|DO 10 V Wh (BF AH Y B0)<|An 11 V (Gm Y Y (IntWalk.i64_in _ A0))<|An 12 V (Im Y Y)<|A3 13 V (AL Y Y)<|Ag<|Zn [0,3,23] ?_;refine Zx<|Aw Y (fun h2=>?_) (fun h2=>?_);·
  exfalso;contradiction
 refine AC<|Zx<|A1<|Zm Y<|Zp Y V<|Zh 0 cS V rfl eK Y<|Zv (Ap (off:=0) cQ V rfl sizeOf211 Y)<|Zl isAgg211 Y<|Zo Wh (Q9 jz hm Y)<|A5 Y<|Zq<|A1<|Zh 1 HE V rfl MA Y<|Zl OK Y<|Zv (Ac Gk Y)<|Zm Y<|A6<|AQ<|Zb [5,33,0,31,32] ?_;refine BI (e0:=[(5,_),(33,_)]) (fun m e H=>∃(i:Nat),m=cs.length -i/\(i<=cs.length)/\e=[(5,I4 (Gr rs (cs.take i))),(33,I4 (i:Int))]/\H=[]) (by exact ⟨0,rfl,C7 _,by rw [ek];rfl,rfl⟩) Wp ?_;rintro _ _ _ ⟨i,rfl,hi,rfl,rfl⟩;have gq:=OP rs cs i
 refine A1<|Zv (Ay Y Y)<|A6<|Zq<|Aw Y (fun bn=>?_) (fun bn=>?_);·
  obtain ⟨x,K⟩:∃x,cs[i]?=some x:=⟨_,BT bn⟩;obtain ⟨g,off,cur,T,zz,rfl,gm,o8,cO⟩:=hg i x K;have gy:=J.all i x K
  have dn:=vM gy;obtain ⟨d9,af⟩:=hA.fit x (DQ K);have O:=hR.get hm hs x.t x.k
  obtain ⟨U,ax⟩:∃U,U=Fy rs x.t x.k:=⟨_,rfl⟩;rw [<-ax]at O d9 af;clear ax;refine AC<|Zx<|Zq<|AQ<|A1<|BU (Ae Gk CC Y Y A0)<|CS (cs:=[(g,.cells cur T zz)]) (by simp [gm]) (AB (cs:=x.A70) GF CC Y A0 cO) V rfl<|Ze (Al LS #[_,_,_,_,_,_,_,_,_,_])<|AG fun cb=>Xe (Xw CC x.A70)<|A6<|Zq<|BA (n:=17) (0::1::3::7::15::0::32::0::128::480::1023::2047::4095::4095::0::24575::65535::[]) 49152 AF AF V<|A3 0 V (AO Y)<|A3 1 V (Ak Y V)<|A3 2 V (AA (off:=0) cS V rfl eK Y)<|A3 3 V (Ap (off:=0) cQ V rfl sizeOf211 Y)<|BE 4 V isAgg211 Y<|A3 5 V (AA (off:=0) C3 V rfl AE Y)<|BE 6 V AH Y<|A3 7 V (AA (off:=1) C3 V rfl AE Y)<|BE 8 V AH Y<|A3 9 V (BM (vs:=[(0,_),(1,_)]) (cs:=#[_,_]) Y (AY (pl:=#[(0,1),(1,1)]) zeroValue217 jx (fun _=>by kernel_rfl) V))<|FG 10 V Wh (EU uP jz F0 hm hR.keys (dn) (O) Y Y)<|A3 11 V (AO Y)<|A3 12 V (CE Y V)<|A3 13 V (CE Y V)<|Zz (l:=[14])<|B7 [true,true,true,true] [(10,(_,_)),(8,(_,_)),(6,(_,_)),(4,(_,_))] V rfl (Al F0 #[_,_,_,_,_]) ?_ (fun _ _ h=>h.elim) Aj;rintro _ _ ⟨ob,rfl,rfl⟩;refine BW<|Yw 15 65535 V (Xw B3 #[I4 U.1.t,I4 U.1.k,I4 U.1.v.a,I4 U.1.v.b,I4 U.1.v.c])<|Cp<|A3 16 V (Aq Y)<|Ag<|Zn [0,5,7,8,9,31,32,33] ?_;refine Zx<|Zq<|A1<|Zm Y<|Zh 2 C3 V rfl DM Y<|Zl Fk Y<|Zv (JF N6 Y Y)<|Zm Y<|Ao (t:=55) Y V (fun cu=>?_) (fun cu=>?_);·
   exfalso;contradiction
  refine Zf Y Y<|Zf Y Y<|Ah (t:=57) Y V (fun X=>?_) (fun X=>?_);·
   refine Yf 2 G1 V rfl Dg Y<|Dw Y Wh (AB (cs:=#[_,_,_]) HN Dg Y B5 B0) V rfl<|Yf 3 C3 V rfl Dg Y<|Dw Y Wh (AB (cs:=#[_,_,_]) HN Dg Y B5 B0) V rfl<|Yg (Ku AF HM D4 AH AE Y Y) ?_;refine Yg (AX Y Y)<|Zv (AL Y Y)<|Z0<|Zn [0,5,7,31,32,33,64] ?_;refine Zx<|Aw Y (fun Z=>?_) (fun Z=>?_);·
    exfalso;exact Z (af X)
   refine AC<|Zx<|Zq<|A1<|Zh 2 C3 V rfl DM Y<|Zl Fk Y<|A6<|AU Y (fun I=>?_) (fun I=>?_);·
    refine Zg<|Zm Y<|BU (FP Y Y (IntWalk.i64_in _ A0))<|A5 Y<|A1<|Zh 6 C3 V rfl DM Y<|Zl Fk Y<|A6<|AU Y (fun G=>?_) (fun G=>?_);·
     refine Zg<|Zm Y<|Yi Y Y<|AW Y<|A8<|Zx<|Zg<|Ya (n:=1) Y Y<|Zm Y<|Z0<|Zn [5,33,0,31,32] ?_;refine Aa (e':=[(5,_),(33,_)]) (by exact ⟨i+1,rfl,by omega,by rw [ig K I G],rfl⟩)
    refine AC<|A8<|Zx<|Zg<|Ya (n:=1) Y Y<|Zm Y<|Z0<|Zn [5,33,0,31,32] ?_;refine Aa (e':=[(5,_),(33,_)]) (by exact ⟨i+1,rfl,by omega,by rw [ik K I G],rfl⟩)
   refine AC<|Zx<|A1<|Zh 6 C3 V rfl DM Y<|Zl Fk Y<|A6<|AU Y (fun G=>?_) (fun G=>?_);·
    refine Zg<|Zm Y<|Yi Y Y<|AW Y<|A8<|Zx<|Zg<|Ya (n:=1) Y Y<|Zm Y<|Z0<|Zn [5,33,0,31,32] ?_;refine Aa (e':=[(5,_),(33,_)]) (by exact ⟨i+1,rfl,by omega,by rw [il K I G],rfl⟩)
   refine AC<|A8<|Zx<|Zg<|Ya (n:=1) Y Y<|Zm Y<|Z0<|Zn [5,33,0,31,32] ?_;refine Aa (e':=[(5,_),(33,_)]) (by exact ⟨i+1,rfl,by omega,by rw [iw K I G],rfl⟩)
  refine A7 Y V<|A7 Y V<|A7 Y V<|A7 Y V<|A7 Y V<|Yg (AL Y Y)<|Zv (AL Y Y)<|Z0<|Zn [0,5,7,31,32,33,64] ?_;refine Zx<|D9 Y<|AC<|Zx<|Zq<|A1<|Zh 2 C3 V rfl DM Y<|Zl Fk Y<|A6<|AU Y (fun I=>?_) (fun I=>?_);·
   refine Zg<|Zm Y<|BU (FP Y Y (IntWalk.i64_in _ A0))<|A5 Y<|A1<|Zh 6 C3 V rfl DM Y<|Zl Fk Y<|A6<|AU Y (fun G=>?_) (fun G=>?_);·
    refine Zg<|Zm Y<|Yi Y Y<|AW Y<|A8<|Zx<|Zg<|Ya (n:=1) Y Y<|Zm Y<|Z0<|Zn [5,33,0,31,32] ?_;refine Aa (e':=[(5,_),(33,_)]) (by exact ⟨i+1,rfl,by omega,by rw [ig K I G],rfl⟩)
   refine AC<|A8<|Zx<|Zg<|Ya (n:=1) Y Y<|Zm Y<|Z0<|Zn [5,33,0,31,32] ?_;refine Aa (e':=[(5,_),(33,_)]) (by exact ⟨i+1,rfl,by omega,by rw [ik K I G],rfl⟩)
  refine AC<|Zx<|A1<|Zh 6 C3 V rfl DM Y<|Zl Fk Y<|A6<|AU Y (fun G=>?_) (fun G=>?_);·
   refine Zg<|Zm Y<|Yi Y Y<|AW Y<|A8<|Zx<|Zg<|Ya (n:=1) Y Y<|Zm Y<|Z0<|Zn [5,33,0,31,32] ?_;refine Aa (e':=[(5,_),(33,_)]) (by exact ⟨i+1,rfl,by omega,by rw [il K I G],rfl⟩)
  refine AC<|A8<|Zx<|Zg<|Ya (n:=1) Y Y<|Zm Y<|Z0<|Zn [5,33,0,31,32] ?_;refine Aa (e':=[(5,_),(33,_)]) (by exact ⟨i+1,rfl,by omega,by rw [iw K I G],rfl⟩)
 have ei:i=cs.length:=by omega
 subst ei;rw [G3]at gq⊢;refine BD<|Zt<|Zt<|AV<|Zx<|A1<|Zm Y<|Zv (NJ Y Y)<|A5 Y<|AJ<|AP rfl results108 Y (by exact ⟨by rw [DG hA.size],rfl⟩)
theorem qF(sp mb:Nat)(p rp:Int)(es:Array MapEntry)(ck:Nat)(lm:List ((Int×Int)×A4))(rs:List AR)(M:List A9)(q:B8)(cap:Nat)(cs:List Chg)(hm:Co K2 es ck lm)(hR:H7 lm rs)(hO:Cv M (.slice q cs.length cap) cs)(hs:BP rs)(hn:rs.length<=2000)(hA:Ke rs p rp cs):
 BR prog 58 #[I5 sp,.agg #[I4 rp,.slice q cs.length cap]] [[(sp,.cells #[.map (some mb),I4 p] 215 (0,0))],[(mb,.map es ck)],M] (fun r H'=>r=I4 0/\∃cu bn gm,Co K2 cu bn gm/\H7 gm (DV rs cs)/\H'=[[(sp,.cells #[.map (some mb),I4 rp] 215 (0,0))],[(mb,.map cu bn)],M]):=by
 have o8:=mL;obtain ⟨p9,l8,e9,o9,hg⟩:=id hO;injection e9 with e91 e92 e93
 subst e91 e93;have J:=hA.ok
 have p8:=hA.pos;have l9:=J.len
 have pg:=J.pos;have cO:=UC J.ord
 refine Se func58 ntmps58 [0,1] ?_;intro u R;refine A1<|Ze (Bx #[_,_])<|AG fun b1=>A5 Y<|Zq<|AQ<|A1<|Zm Y<|Zv (Bh lA Y Y)<|A5 Y<|AU Y (fun h1=>by cases h1)<|fun h1=>A1<|Zm Y<|Zo Wh (AB (cs:=#[_,_]) Iv GC Y B5 B0) ?_;refine Xr [_,_] Y call108 Y V (x9 sp mb p rp es ck lm rs M q cap cs hm hR hO hs hn hA) ?_;refine Zv (Bt Y)<|A5 Y<|AU Y (fun h2=>by cases h2)<|fun h2=>AC<|A8<|Zx<|Zq<|A1<|Zh 1 HE V rfl MA Y<|Zl OK Y ?_;refine Zv (Ac Gk Y)<|Zm Y<|Z0<|Zn [0,3,19,20,21] ?_;refine Zx<|AQ<|Zb [21,0,3,19,20] ?_;refine BI (e0:=[(21,_)]) (fun m e H=>∃(i:Nat) (es:Array MapEntry) (ck:Nat) (lm:List ((Int×Int)×A4)),m=cs.length -i/\(i<=cs.length/\Co K2 es ck lm/\H7 lm (DV rs (cs.take i)))/\e=[(21,I4 (i:Int))]/\H=[[(mb,.map es ck)]]) (by exact ⟨0,es,ck,lm,rfl,⟨C7 _,hm,by rw [IF];exact hR⟩,rfl,rfl⟩) Wp ?_;rintro _ _ _ ⟨i,gy,gq,l5,rfl,⟨hi,Z,G⟩,rfl,rfl⟩;refine A1<|Zv (Ay Y Y)<|A6<|Zq<|Aw Y (fun dn=>?_) (fun dn=>?_);·
  obtain ⟨x,hx⟩:∃x,cs[i]?=some x:=⟨_,BT dn⟩;obtain ⟨g,off,cur,T,zz,rfl,j5,pq,ic⟩:=hg i x hx;have kv:=J.all i x hx
  have X:=vM kv;obtain ⟨ek,j3⟩:=KV hs cO hA.fit i hi;have d9:=j3 i x (CI _) hx
  refine AC<|Zx<|Zq<|AQ<|A1<|BU (Ae Gk CC Y Y A0)<|CS (cs:=[(g,.cells cur T zz)]) (by simp [j5]) (AB (cs:=x.A70) GF CC Y A0 ic) V rfl ?_;refine Ze (Al LS #[_,_,_,_,_,_,_,_,_,_])<|AG fun cb=>Xe (Xw CC x.A70) ?_;refine A6<|A1<|Zh 0 C3 V rfl AE Y<|Zl AH Y ?_;refine Zh 1 C3 V rfl AE Y<|Zl AH Y ?_;refine Zv (BM (vs:=[(0,_),(1,_)]) (cs:=#[_,_]) Y (AY (pl:=#[(0,1),(1,1)]) zeroValue217 jx (fun _=>by kernel_rfl) V))<|Ze (Al zeroValue217 #[_,_])<|AG fun kb=>Xe (BL sizeOf217 Y Y (by(simp [Value.oneCell',Value.cells];done)) Wu (by exact (rfl:_=(#[I4 x.t,I4 x.k]:AK))) FA B1 (by exact BC _)) ?_;refine A6<|A1<|Zo Wh (AB (cs:=#[_,_,_,_,_,_,_,_,_,_]) GF CC Y B5 B0) ?_;refine Xr [_] Y call109 Y V (OW x) ?_;refine Zm Y<|Zd Y V<|Zd Y V<|Ze (Al F0 #[_,_,_,_,_])<|AG fun xb=>Xe (Xw B3 #[I4 (EN x x.has x.n).t,I4 (EN x x.has x.n).k,I4 (EN x x.has x.n).v.a,I4 (EN x x.has x.n).v.b,I4 (EN x x.has x.n).v.c]) ?_;refine AW Y<|Zn [0,3,7,8,9,19,20,21] ?_;refine Zx<|A1<|Zm Y<|A6<|AU Y (fun hh=>?_) (fun hh=>?_);·
   rw [uS hh];refine BA (n:=8) (0::1::3::7::15::0::0::127::[]) 128 AF AF V<|A3 0 V (AO Y)<|A3 1 V (Ak Y V)<|A3 2 V (AA (off:=0) cS V rfl eK Y)<|A3 3 V (Ap (off:=0) cQ V rfl sizeOf211 Y)<|BE 4 V isAgg211 Y ?_;refine FG 5 V Wh (AB (cs:=#[_,_]) isAgg217 sizeOf217 Y B5 B0) ?_;refine FG 6 V Wh (AB (cs:=#[_,_,_,_,_]) D0 B3 Y B5 B0) ?_;refine Yw 7 255 V (FH uP jz Z G.keys (X) Y Y Y Wo) ?_;rintro _ _ ⟨rfl,O,K,I,af,ax,rfl⟩;have U:H7 I (DV rs (cs.take (i+1))):=by rw [EP rs cs i x hx];exact G.put ek d9 hh X ax
   refine Ag<|A8<|Zx<|Zg<|Ya (n:=1) Y Y<|Zm Y<|Z0<|Zn [21,0,3,19,20] ?_;refine Aa (e':=[(21,_)]) (by exact ⟨i+1,O,K,I,V,⟨by omega,af,U⟩,V,V⟩)
  refine BA (n:=7) (0::1::3::7::15::0::63::[]) 64 AF AF V<|A3 0 V (AO Y)<|A3 1 V (Ak Y V)<|A3 2 V (AA (off:=0) cS V rfl eK Y)<|A3 3 V (Ap (off:=0) cQ V rfl sizeOf211 Y)<|BE 4 V isAgg211 Y ?_;refine FG 5 V Wh (AB (cs:=#[_,_]) isAgg217 sizeOf217 Y B5 B0) ?_;refine Yw 6 127 V (K6 uP jz Z G.keys (X) Y Y Wo) ?_;rintro _ _ ⟨rfl,O,K,I,af,ax,rfl⟩;have U:H7 I (DV rs (cs.take (i+1))):=by rw [EP rs cs i x hx];exact G.drop ek d9 hh ax
  refine Ag<|A8<|Zx<|Zg<|Ya (n:=1) Y Y<|Zm Y<|Z0<|Zn [21,0,3,19,20] ?_;refine Aa (e':=[(21,_)]) (by exact ⟨i+1,O,K,I,V,⟨by omega,af,U⟩,V,V⟩)
 have ei:i=cs.length:=by omega
 subst ei;rw [G3]at G;refine BD<|Zt<|Zt<|AV<|Zx<|A1<|Zm Y<|Zh 0 HE V rfl AE Y<|Zl AH Y ?_;refine Zp Y V<|Zh 0 cS V rfl eK Y<|Zv (Ap (off:=1) cQ V rfl AE Y)<|Xe (Zs AE Y Y V (hc:=by exact (V:_=(#[.map (some mb),I4 rp]:AK))) (hi:=by(simp;done))) ?_;refine A6<|A1<|A5 Y<|AJ<|AP V results58 Y (by exact ⟨V,gy,gq,l5,Z,G,V⟩)
theorem u5(q:B8)(cap:Nat)(l:List BQ)(M:List A9)(af:Ec M (.slice q l.length cap) l)(G:FC l)(hl:l.length<=1000000)(k:Nat)(hk:k<=l.length):
 BR prog 19 #[.slice q l.length cap,I4 (k:Int)] [M] (fun r H'=>∃J mb es ck lm,r= .tuple #[I5 J,I4 0]/\Co K2 es ck lm/\H7 lm (Bb (l.take k))/\H'=[[(J,.cells #[.map (some mb),I4 (k:Int)] 215 (0,0))],[(mb,.map es ck)],M]):=by
 have gy:=mL;obtain ⟨p9,gm,e9,⟨ic,gq⟩,hg⟩:=id af;injection e9 with e91 e92 e93
 subst e91 e93;refine Se func19 ntmps19 [0,1] ?_;intro u R;refine A1<|Za Y<|A5 Y<|Zq<|A1<|Zm Y<|Zv (Ay (n:=0) Y Y)<|Zm Y<|Ao (t:=11) Y V (fun h1=>?_) (fun h1=>?_);·
  exfalso;(cases h1;done)
 refine Zf Y Y<|Zf Y Y<|Yg (Ac HF Y)<|Yg (DR Y Y)<|Zv (AL Y Y)<|A6<|Aw Y (fun h2=>by omega)<|fun h2=>AC<|Zx<|A1<|Zc [] Y call57 Y V (zh) ?_;rintro _ _ ⟨_,⟨J,mb,rfl,rfl⟩,rfl⟩;refine A5 Y<|Zq<|A1<|Zm Y<|Zm Y<|BU (Bq HF GC Y Y A0)<|Zv (Ac HF Y)<|Zm Y<|Z0<|Zn [6,20,21,22] ?_;refine Zx<|AQ<|Zb [22,6,20,21] ?_;refine BI (e0:=[(22,_)]) (fun m e H=>∃(i:Nat) (es:Array MapEntry) (ck:Nat) (lm:List ((Int×Int)×A4)),m=k -i/\(i<=k/\Co K2 es ck lm/\H7 lm (Bb (l.take i)))/\e=[(22,I4 (i:Int))]/\H=[[(J,.cells #[.map (some mb),I4 (i:Int)] 215 (0,0))],[(mb,.map es ck)]]) (by exact ⟨0,#[],0,[],rfl,⟨C7 _,EX _,by rw [IF];exact tN⟩,rfl,rfl⟩) Wp ?_;rintro _ _ _ ⟨i,es,ck,lm,rfl,⟨hi,hm,hR⟩,rfl,rfl⟩;refine A1<|Zv (Ay Y Y)<|A6<|Zq<|Aw Y (fun cu=>?_) (fun cu=>?_);·
  obtain ⟨r,hr⟩:∃r,l[i]?=some r:=⟨_,BT A0⟩;obtain ⟨U,g,off,cur,T,zz,rfl,d9,j3,ax⟩:=hg i r hr;obtain ⟨hA,h3⟩:=G i r hr;have dn:=hA.pos
  obtain ⟨ek,bn⟩:=G.rows i A0;refine AC<|Zx<|Zq<|AQ<|A1<|BU (Ae HF GC Y Y A0)<|CS (cs:=[(g,.cells cur T zz)]) (by simp [d9]) (AB (cs:=#[_,_]) Iv GC Y A0 ax) V rfl<|Ze (Al TX #[_,_])<|AG fun rb=>Xe (Xw GC #[I4 r.p,.slice r.q r.cs.length r.cap])<|A6<|A1<|Zm Y<|Zo Wh (AB (cs:=#[_,_]) Iv GC Y B5 B0)<|Zc [_,_] Y call58 Y V (qF J mb (i:Int) r.p es ck lm (Bb (l.take i)) M r.q r.cap r.cs hm hR U ek bn hA) ?_;rintro _ _ ⟨_,⟨rfl,O,K,I,cO,X,rfl⟩,rfl⟩;have Z:H7 I (Bb (l.take (i+1))):=by rw [PF,hr];show H7 I (Bb (l.take i++[r]));rw [Gg];exact X
  rw [show r.p=((i+1:Nat):Int) by rw [dn];rfl];refine Zv (FY (n:=0) Y Y)<|A6<|Aw Y (fun h4=>?_) (fun h4=>?_);·
   exfalso;exact h4 rfl
  refine AC<|A8<|Zx<|Zg<|Ya (n:=1) Y Y<|Zm Y<|Z0<|Zn [22,6,20,21] ?_;refine Aa (e':=[(22,_)]) (by exact ⟨i+1,O,K,I,V,⟨by omega,cO,Z⟩,V,V⟩)
 have ei:i=k:=by omega
 subst ei;refine BD<|Zt<|Zt<|AV<|Zx<|A1<|Zm Y<|Za Y<|A5 Y<|AJ<|DJ V results19 Y Y (by exact ⟨J,mb,es,ck,lm,V,hm,hR,V⟩)
def Dh(r:AR)(c:Nat):Int:=if c=0 then r.k else if c=1 then r.v.a else if c=2 then r.v.b else r.v.c
def dw(c:Nat)(out:List AR)(v:Int):Nat:=(out.reverse.dropWhile (fun r=>decide (v<Dh r c))).length
def aC(c:Nat)(out:List AR)(x:AR):List AR:=out.take (dw c out (Dh x c))++[x]++out.drop (dw c out (Dh x c))
def inR(t:Int)(c:Nat)(lo hi:Int)(r:AR):Bool:=decide (r.t=t/\lo<=Dh r c/\Dh r c<=hi)
def Dr(rs:List AR)(t:Int)(c:Nat)(lo hi:Int):List AR:=(rs.filter (inR t c lo hi)).foldl (aC c) []
end Go.Proofs.YthhakdmlpngcmaaGreatDoor
namespace Go.Proofs.YthhakdmlpngcmaaGreatDoor
open Go.Proofs.Tryz
open Go Go.RowKit Gw
set_option maxRecDepth 100000
attribute [local irreducible] Gw.At Gw.Nx Gw.Ops
open Go.Sort
def Bl(r:AR)(c:Int):Int:=if c=0 then r.k else if c=1 then r.v.a else if c=2 then r.v.b else if c=3 then r.v.c else 0
set_option maxHeartbeats 1000000 in
theorem JY(r:AR)(c:Int)(hc:0<=c/\c<=3)(W:AD):Calls prog 121 #[.agg r.A71,I4 c] W fun e g=>e= .returned (I4 (Bl r c))/\∃(q:Nat) (o:Obj),g=grow (W.drewN q) #[o]:=by
 obtain ⟨t,k,⟨m,G,I⟩⟩:=r;rcases (by omega:c=0\/c=1\/c=2\/c=3)with rfl|rfl|rfl|rfl
 all_goals
  go_enter func121,ntmps121
  go_wp2
  go_ret
  exact ⟨rfl,0,_,by rw [alloc_eq_grow];rfl⟩
def orL(x y:Int):Int:=if x=0 then y else x
theorem sN(b:Nat)(x y:Int)(W:AD)(h0:W.cell? ⟨b,0,none⟩=some (I4 x))(K:W.cell? ⟨b,1,none⟩=some (I4 y)):Calls prog 177 #[I6 b 2 2] W fun e J=>e= .returned (I4 (orL x y))/\J=W:=by
 generalize hz:orL x y=z;have m:=Lib.hid hz
 clear hz
 go_enter func177,ntmps177
 go_wp2
 go_loop [5,8] (fun _ i=>∃(j:Nat),i=I4 j/\(j=0\/(j=1/\x=0)\/(j=2/\x=0/\y=0))) (fun _ i=>2 -(intOf i).toNat)
 case atStart=>exact ⟨0,rfl,.inl rfl⟩
 case round=>
  obtain ⟨j,rfl,I⟩:=hrel;rcases I with rfl|⟨rfl,g⟩|⟨rfl,g,G⟩
  · by_cases g:x=0
    · subst g
      go_wp2
      go_round
      case rel=>exact ⟨1,by go_num,by simp⟩
      case measure=>simp [intOf]
    · go_wp2
      go_ret
      exact ⟨by rw [<-m.out];unfold orL;rw [As g];rfl,rfl⟩
  · subst g
    by_cases G:y=0
    · subst G
      go_wp2
      go_round
      case rel=>exact ⟨2,by go_num,by simp⟩
      case measure=>simp [intOf]
    · go_wp2
      go_ret
      exact ⟨by rw [<-m.out];unfold orL;rw [Ax rfl];rfl,rfl⟩
  · subst g G
    go_wp2
    go_ret
    exact ⟨by rw [<-m.out];rfl,rfl⟩
theorem Rx{u w:AD}{H:Hp}(h:Sat u H w)(q:Nat)(os:Array Obj):Sat u H (grow (w.drewN q) os):=by
 refine ⟨h.os,h.tape,h.output,h.nodup,fun p m=>?_⟩;have g:=h.lt m
 show(w.heap++os)[p.1]?=_;rw [el g];exact h.get p m
theorem Lf(r:AR)(c:Nat)(hc:c<=3):Bl r (c:Int)=Dh r c:=by
 rcases (by omega:c=0\/c=1\/c=2\/c=3)with rfl|rfl|rfl|rfl<;>rfl
theorem OV(r:AR)(c:Nat)(hc:c<=3):BJ prog 121 #[.agg r.A71,I4 (c:Int)] [] (I4 (Dh r c)):=fun u R w g=>
 (JY r (c:Int) A0 w).mono (by
   rintro e m ⟨rfl,q,o,rfl⟩;exact .inl ⟨_,[],rfl,⟨by rw [Lf r c hc],rfl⟩,Rx g q _⟩)
theorem rA(r:AR)(t:Int)(c:Nat)(lo hi:Int)(hc:c<=3)(g m G I:Nat):BJ prog 120 #[.agg r.A71,I5 g,I5 m,I5 G,I5 I] [[(g,.cells #[I4 (c:Int)] 3 (0,0))],[(m,.cells #[I4 t] 3 (0,0))],[(G,.cells #[I4 lo] 3 (0,0))],[(I,.cells #[I4 hi] 3 (0,0))]] (.bool (inR t c lo hi r)):=by
 refine Se func120 ntmps120 [0,1,2,3,4] ?_;intro u R;refine A1<|Ze (Bx #[_,_,_,_,_])<|AG fun g=>A5 Y<|A1<|Zo Wh (Pa #[_,_,_,_,_] D0 B3 Y)<|Zl AH Y<|Xr [_,_] Y SO Y V (OV r c hc)<|A5 Y<|A1<|Zh 0 G1 V rfl AE Y<|Zl AH Y<|Zl AH Y<|Zv (CP Y Y)<|Zm Y<|Ao (t:=15) Y V (fun J=>?_) (fun J=>?_);·
  refine Zf Y Y<|Yl AH Y<|Yg (Gj Y Y)<|Zv (AX Y Y)<|Zm Y<|Ao (t:=20) Y V (fun h2=>?_) (fun h2=>?_);·
   refine Zf Y Y<|Yl AH Y<|Yg (NJ Y Y)<|Zv (AX Y Y)<|AW Y<|Zn [6] ?_;refine Zx<|AJ<|AP V results120 Y (by exact ⟨by unfold inR;(simp_all;done),V⟩)
  refine A7 Y V<|A7 Y V<|A7 Y V<|Zv (AL Y Y)<|AW Y<|Zn [6] ?_;refine Zx<|AJ<|AP V results120 Y (by exact ⟨by unfold inR;(congr 1;simp;omega),V⟩)
 refine A7 Y V<|A7 Y V<|A7 Y V<|Zv (AL Y Y)<|Zm Y<|A7 Y V<|A7 Y V<|A7 Y V<|Zv (AL Y Y)<|AW Y<|Zn [6] ?_;refine Zx<|AJ<|AP V results120 Y (by exact ⟨by unfold inR;(simp_all;done),V⟩)
end Go.Proofs.YthhakdmlpngcmaaGreatDoor
namespace Go.Proofs.YthhakdmlpngcmaaGreatDoor
open Go.Proofs.Tryz
open Go Go.RowKit Gw
set_option maxRecDepth 100000
attribute [local irreducible] Gw.At Gw.Nx Gw.Ops
theorem F9:∀(n:Nat) (js:List Nat),js.Nodup->(∀j∈js,j<n)->js.length<=n
 |0,js,_,h=>by
  cases js with
  |nil=>simp
  |cons a l=>exact absurd (h a B4) (fW _)
 |n+1,js,hn,h=>by
  by_cases G:n∈js
  · have m:=F9 n (js.erase n) (hn.erase n) (fun j g=>by
     have h2:=(hn.mem_erase_iff).1 g;have I:=h j h2.2
     have J:=h2.1;omega)
    rw [nf G]at m;omega
  · have m:=F9 n js hn (fun j g=>by
     have I:=h j g;have J:j≠n:=fun e=>G (e▸g)
     omega)
    omega
def Jg(r:AR):(Int×Int)×A4:=((r.t,r.k),SH r)
theorem Mi{a b:AR}(h:Jg a=Jg b):a=b:=YQ (Prod.mk.inj h).2
theorem dz{a b:List AR}(J:(a.map Jg).Nodup)(h:(a.map Jg).Perm (b.map Jg)):a.Perm b:=by
 have K:∀{l:List AR},(l.map Jg).Nodup->l.Nodup:=fun{l} hl=>by
  rw [ao,US]at hl;rw [ao];exact hl.imp (fun m e=>m (by rw [e]))
 rw [OS (K J) (K (h.nodup J))];intro x;have g:=h.mem_iff (a:=Jg x)
 rw [C6,C6]at g;constructor
 · intro G
   obtain ⟨y,I,e⟩:=g.1 ⟨x,G,rfl⟩;rwa [Mi e]at I
 · intro G
   obtain ⟨y,I,e⟩:=g.2 ⟨x,G,rfl⟩;rwa [Mi e]at I
variable{rs:List AR}
theorem H7.perm{es:Array MapEntry}{ck:Nat}{l:List ((Int×Int)×A4)}(I:Co K2 es ck l)(h:H7 l rs)(J:BP rs):l.Perm (rs.map Jg):=by
 have G:l.Nodup:=by
  have:=I.keys;rw [ao,US]at this;rw [ao];exact this.imp (fun g e=>g (by rw [e]))
 have h2:(rs.map Jg).Nodup:=by
  rw [ao,US];refine J.imp (fun{a b} hab e=>?_);have e2:=Mi e
  subst e2;unfold AR.lt2 at hab;omega
 rw [OS G h2];intro p;rw [h.mem p,C6];constructor;· rintro ⟨r,m,rfl⟩;exact ⟨r,m,rfl⟩
 · rintro ⟨r,m,rfl⟩;exact ⟨r,m,rfl⟩
structure Xp(lm:List ((Int×Int)×A4))(f:AR->Bool)(js:List Nat)(o:List AR):Prop where
 rows:∃rl:List AR,rl.map Jg=DW lm js/\o=rl.filter f
theorem qK(lm:List ((Int×Int)×A4))(f:AR->Bool):Xp lm f [] []:=⟨[],rfl,rfl⟩
theorem Xp.push{lm:List ((Int×Int)×A4)}{rs:List AR}{f:AR->Bool}{js:List Nat}{o:List AR}(h:Xp lm f js o){j:Nat}{r:AR}(m:lm[j]?=some (Jg r)):Xp lm f (js++[j]) (o++(if f r then [r]else [])):=by
 obtain ⟨rl,g,h2⟩:=h.rows;refine ⟨rl++[r],by rw [C0,g,G9 lm js m];rfl,?_⟩;rw [Hj,<-h2];cases hf:f r<;>simp [hf]
theorem Xp.done{es:Array MapEntry}{ck:Nat}{lm:List ((Int×Int)×A4)}(K:Co K2 es ck lm)(J:H7 lm rs)(m:BP rs){f:AR->Bool}{js:List Nat}{o:List AR}(h:Xp lm f js o)(O:(DW lm js).Perm lm):o.Perm (rs.filter f):=by
 obtain ⟨rl,G,rfl⟩:=h.rows;have h2:=J.perm K m
 have g:(rl.map Jg).Perm (rs.map Jg):=by rw [G];exact O.trans h2
 have I:(rs.map Jg).Nodup:=by
  rw [ao,US];refine m.imp (fun{a b} hab e=>?_);have e2:=Mi e
  subst e2;unfold AR.lt2 at hab;omega
 exact (dz (g.symm.nodup I) g).filter f
def leV(c:Nat)(a b:AR):Prop:=Dh a c<Dh b c\/Dh a c=Dh b c/\a.k<=b.k
def wC:Prop:=∀(cb c:Nat) (w:A4) (o:List AR) (s:List A9),c<=3->o.length<=2000->Bd 5 80 w o.length (Af o) s->
    BR prog 175 #[w,.func (.func 176) #[] #[I5 cb]] [s,[(cb,.cells #[I4 (c:Int)] 3 (0,0))]]
     (fun r H'=>r= .tuple #[]/\∃(s':List A9) (o':List AR),o'.Perm o/\o'.Pairwise (leV c)/\Bd 5 80 w o'.length (Af o') s'/\H'=[s',[(cb,.cells #[I4 (c:Int)] 3 (0,0))]])
theorem Xc(hS:wC)(sp mb:Nat)(p:Int)(es:Array MapEntry)(ck:Nat)(lm:List ((Int×Int)×A4))(rs:List AR)(hm:Co K2 es ck lm)(hR:H7 lm rs)(hs:BP rs)(hn:rs.length<=2000)(t:Int)(c:Nat)(lo hi:Int)(hc:c<=3)(b1 b2 b3 b4:Nat):
 BR prog 119 #[I5 sp,I4 (c:Int),.func (.func 120) #[] #[I5 b1,I5 b2,I5 b3,I5 b4]] [[(sp,.cells #[.map (some mb),I4 p] 215 (0,0))],[(mb,.map es ck)],[(b1,.cells #[I4 (c:Int)] 3 (0,0))],[(b2,.cells #[I4 t] 3 (0,0))],[(b3,.cells #[I4 lo] 3 (0,0))],[(b4,.cells #[I4 hi] 3 (0,0))]] (fun r H'=>∃(J:List A9) (o:List AR),Bd 5 80 r o.length (Af o) J/\o.Perm (rs.filter (inR t c lo hi))/\o.Pairwise (leV c)/\H'=[J,[(sp,.cells #[.map (some mb),I4 p] 215 (0,0))],[(mb,.map es ck)],[(b1,.cells #[I4 (c:Int)] 3 (0,0))],[(b2,.cells #[I4 t] 3 (0,0))],[(b3,.cells #[I4 lo] 3 (0,0))],[(b4,.cells #[I4 hi] 3 (0,0))]]):=by
 have kv:=mL;have j5:=hR.len hm hs
 refine Se func119 ntmps119 [0,1,2] ?_;intro u R;refine A1<|Ze (Bx #[_])<|AG fun cb=>A5 Y<|Zq<|A1<|Zm Y<|Zv (Bh lA Y Y)<|A6<|AU Y (fun h1=>by cases h1)<|fun h1=>AC<|Zx<|A1<|A5 Y<|Zq<|A1<|Zm Y<|Zp Y V<|Zh 0 cS V rfl eK Y<|Zv (Ap (off:=0) cQ V rfl sizeOf211 Y)<|Zl isAgg211 Y<|Ze (NS jz Y Wh)<|AG fun ib=>A6<|AQ<|Bc<|Zb [7,2,4,17] ?_;refine BI (e0:=[(7,_)]) (fun m e H=>∃(js:List Nat) (seen:Array Nat) (o:List AR) (w:A4) (J:List A9),m=lm.length -js.length/\(Iq es js seen/\Xp lm (inR t c lo hi) js o/\Bd 5 80 w o.length (Af o) J/\o.length<=js.length)/\e=[(7,w)]/\H=[[(ib,.mapIter (some mb) ck seen ck)],J]) (by exact ⟨[],#[],[],.slice none 0 0,[],V,⟨KR _,qK _ _,Bj 5 _,CI _⟩,V,V⟩) Wp ?_;rintro _ _ _ ⟨js,seen,o,w,J,rfl,⟨U,cu,G,l5⟩,rfl,rfl⟩;obtain ⟨qo,gq,rfl⟩:=G.form;have cO:=F9 es.size js U.nodup U.lt
 rw [hm.size]at cO;refine A1<|Ze (PX hm U Y Wo Wh) ?_;rintro _ _ d9;rcases d9 with⟨K,rfl,rfl⟩|⟨jn,pn,seen2,hpn,hjn,hi2,rfl,rfl⟩
 ·
  refine Zd Y V<|A6<|Zq<|AU Y (fun hb=>by cases hb)<|fun hb=>BD<|Zt<|Zt<|AV<|Zx<|A1<|Zm Y<|Zv (Bg (vs:=[]) (us:=[_]) Y Y)<|Zc [_,_] Y call175 Y V (hS cb c _ o J hc A0 G) ?_;rintro _ _ ⟨_,⟨rfl,gm,o2,dn,ek,bn,rfl⟩,rfl⟩;refine A6<|A1<|Zm Y<|A5 Y<|AJ<|AP V results119 Y (by exact ⟨gm,o2,bn,dn.trans (cu.done hm hR hs K),ek,V⟩)
 obtain ⟨r,hr,rfl⟩:=(hR.mem pn).1 (DQ hpn);refine Zd Y V<|A6<|Zq<|AU Y (fun hb=>?_) (fun hb=>?_);·
  have af:=F9 es.size (js++[jn]) hi2.nodup hi2.lt;rw [hm.size,Bm,F2]at af;have j3:(js++[jn]).length=js.length+1:=by rw [Bm];rfl
  have g:=cu.push (r:=r) (rs:=rs) hpn;have Z:(inR t c lo hi) r=true->Xp lm (inR t c lo hi) (js++[jn]) (o++[r]):=fun h=>by rw [h]at g;exact g
  have X:(inR t c lo hi) r=false->Xp lm (inR t c lo hi) (js++[jn]) o:=fun h=>by rw [h]at g;simpa using g
  refine AC<|Zx<|AQ<|A1<|CS (cs:=[(ib,.mapIter (some mb) ck seen2 ck),(mb,.map es ck)]) B4 (JG hm hi2 hpn Y) V rfl<|Zd Y V<|Ze (Al F0 #[_,_,_,_,_])<|AG fun xb=>Xe (Xw B3 r.A71)<|A6<|A1<|Zm Y<|Zo Wh (Pa #[_,_,_,_,_] D0 B3 Y)<|Xr [_] Y call120 Y V (rA r t c lo hi hc b1 b2 b3 b4)<|A6<|AU Y (fun O=>?_) (fun O=>?_);·
   refine Zg<|Zm Y<|Zo Wh (Pa #[_,_,_,_,_] D0 B3 Y)<|Ze (Ai (vs:=[_]) (cs:=[_,_,_,_,_]) C1 B3 F0 Y V rfl V rfl V)<|AG fun gb=>Ze (BV (by_:=40) (sz:=5) C1 (V:Tryz.prog.info? 80=some Tryz.t80) V rfl V rfl Y (G) Y (Dl 5 gb 1 1 80 (0,0) [I4 r.t,I4 r.k,I4 r.v.a,I4 r.v.b,I4 r.v.c] V) Wo Wo Ft A0 A0) ?_;rintro _ _ ⟨l8,I,rfl⟩;have ax:=BZ I (n':=(o++[r]).length) (xs':=Af (o++[r])) (by rw [Bm];rfl) (by rw [Bo];rfl)
   obtain ⟨ic,gy,rfl⟩:=I.form;refine AW Y<|Zn [2,4,7,17] ?_;refine A8<|Zn [7,2,4,17] ?_;refine Aa (e':=[(7,_)]) (by exact ⟨js++[jn],seen2,o++[r],_,_,rfl,⟨hi2,Z O,ax,by rw [Bm,Bm];simp;omega⟩,rfl,rfl⟩)
  refine AC<|A8<|Zn [7,2,4,17] ?_;refine Aa (e':=[(7,_)]) (by exact ⟨js++[jn],seen2,o,_,J,rfl,⟨hi2,X O,G,by rw [Bm];omega⟩,rfl,rfl⟩)
 cases hb
end Go.Proofs.YthhakdmlpngcmaaGreatDoor
namespace Go.Proofs
open Go.Shelf
def Tryz.sortRow_ren:Go.Shelf.Ren:=⟨fun|6=>175|15=>105|14=>226|28=>170|29=>171|20=>260|21=>261|22=>262|23=>263|24=>264|25=>265|26=>266|27=>267|46=>298|47=>221|48=>222|49=>299|50=>300|57=>315|n=>n,fun|22=>59|24=>80|25=>303|3=>3|39=>210|0=>0|53=>295|55=>297|4=>4|46=>287|45=>286|50=>292|5=>5|9=>9|66=>332|70=>114|76=>371|77=>372|n=>n,fun|n=>n⟩
theorem Tryz.sortRow:Go.Proofs.SlLaysF0.n6 prog Tryz.sortRow_ren:={
 mixed:=by kernel_rfl
 f6:=⟨Tryz.f175.name,by decide,func175.trans (congrArg some AF)⟩
 f14:=⟨Tryz.f226.name,by decide,func226.trans (congrArg some AF)⟩
 f15:=func105.trans (congrArg some AF)
 f20:=⟨Tryz.f260.name,by decide,func260.trans (congrArg some AF)⟩
 f21:=⟨Tryz.f261.name,by decide,func261.trans (congrArg some AF)⟩
 f22:=⟨Tryz.f262.name,by decide,func262.trans (congrArg some AF)⟩
 f23:=⟨Tryz.f263.name,by decide,func263.trans (congrArg some AF)⟩
 f24:=⟨Tryz.f264.name,by decide,func264.trans (congrArg some AF)⟩
 f25:=⟨Tryz.f265.name,by decide,func265.trans (congrArg some AF)⟩
 f26:=⟨Tryz.f266.name,by decide,func266.trans (congrArg some AF)⟩
 f27:=⟨Tryz.f267.name,by decide,func267.trans (congrArg some AF)⟩
 f28:=func170.trans (congrArg some AF)
 f29:=func171.trans (congrArg some AF)
 f46:=⟨Tryz.f298.name,by decide,func298.trans (congrArg some AF)⟩
 f47:=func221.trans (congrArg some AF)
 f48:=func222.trans (congrArg some AF)
 f49:=⟨Tryz.f299.name,by decide,func299.trans (congrArg some AF)⟩
 f50:=⟨Tryz.f300.name,by decide,func300.trans (congrArg some AF)⟩
 f57:=⟨Tryz.f315.name,by decide,func315.trans (congrArg some AF)⟩
 t0:=eC
 a0:=isAgg0
 z0:=sizeOf0
 v0:=eE
 t3:=D4
 a3:=AH
 z3:=AE
 v3:=HJ
 t4:=N6
 a4:=Fk
 z4:=DM
 v4:=W6
 t5:=Ly
 a5:=To
 z5:=It
 v5:=S7
 t9:=HA
 a9:=Hh
 z9:=Fm
 v9:=HS
 t22:=C1
 a22:=GP
 z22:=DA
 v22:=zeroValue59
 t25:=underlying303
 a25:=isAgg303
 z25:=sizeOf303
 v25:=zeroValue303
 t39:=X2
 a39:=isAgg210
 z39:=eN
 v39:=fx
 t45:=ka
 a45:=isAgg286
 z45:=sizeOf286
 v45:=kl
 t46:=kc
 a46:=isAgg287
 z46:=sizeOf287
 v46:=kq
 t50:=kO
 a50:=isAgg292
 z50:=sizeOf292
 v50:=kj
 t53:=T6
 a53:=Hc
 z53:=Fo
 v53:=fy
 t55:=XS
 a55:=cG
 z55:=eJ
 v55:=fz
 t66:=ke
 a66:=isAgg332
 z66:=sizeOf332
 v66:=kx
 t70:=kf
 a70:=isAgg114
 z70:=W7
 v70:=Z2
 t76:=kh
 a76:=isAgg371
 z76:=sizeOf371
 v76:=l3
 t77:=ki
 a77:=isAgg372
 z77:=sizeOf372
 v77:=l4}
end Go.Proofs
namespace Go.Proofs.YthhakdmlpngcmaaGreatDoor
open Go.Proofs.Tryz
open Go Go.RowKit Gw
set_option maxRecDepth 100000
attribute [local irreducible] Gw.At Gw.Nx Gw.Ops
open Go.Sort Go.Shelf
attribute [local go_sem] Gl.evalE Gl.lookE Gl.linUpon Gl.wantedE Gl.yieldE Gl.putE
def oP(c:Nat)(a b:AR):Int:=orL (Lib.compareInt (Bl a (c:Int)) (Bl b (c:Int))) (Lib.compareInt a.k b.k)
def Stg(W:AD)(n:Nat)(w:AD):Prop:=∃q os,os.size=n/\w=grow (W.drewN q) os
theorem x8(W:AD):Stg W 0 W:=⟨0,#[],rfl,by simp [World.drewN]⟩
variable{w W:AD}{n:Nat}
theorem qE(h:Stg W n w):Stg W n w.drew:=by
 obtain ⟨q,os,rfl,rfl⟩:=h;exact ⟨q+1,os,V,V⟩
theorem OJ(h:Stg W n w)(m:Nat)(g:Array Obj):Stg W (n+g.size) (grow (w.drewN m) g):=by
 obtain ⟨q,os,rfl,rfl⟩:=h;refine ⟨q+m,os++g,by simp,?_⟩;simp [grow,World.drewN,Array.append_assoc,fY]
theorem IP{b:Nat}{o:Obj}(h:Stg W n w)(m:W.heap[b]?=some o):w.heap[b]?=some o:=by
 obtain ⟨q,os,rfl,rfl⟩:=h;have g:=(HU.1 m).1
 show(W.heap++os)[b]?=_;rw [el g];exact m
theorem qD(h:Stg W n w):w.heap.size=W.heap.size+n:=by
 obtain ⟨q,os,rfl,rfl⟩:=h;show(W.heap++os).size=_
 simp
theorem QQ(w:AD)(o:Obj):(w.alloc o).heap[w.heap.size]?=some o:=by
 show(w.heap.push o)[w.heap.size]?=some o;exact Array.getElem?_push_size
theorem iN(w:AD)(o:Obj):(w.alloc o).heap.size=w.heap.size+1:=Array.size_push _
def wj:Nat->Nat
 |0=>0|1=>1|2=>2|3=>2|4=>2|5=>3|_=>3
def y6(W:AD)(T:Nat)(x y:Int)(k:Nat)(w:AD):Prop:=Stg W (wj k) w/\(5<=k->w.heap[W.heap.size+2]?=some (.cells #[I4 x,I4 y] T (0,0)))
set_option maxHeartbeats 2000000 in
theorem oO(a b:AR)(c:Nat)(hc:c<=3)(cb:Nat)(W:AD)(af:W.heap[cb]?=some (.cells #[I4 (c:Int)] 3 (0,0))):Calls prog 176 #[.agg a.A71,.agg b.A71,I5 cb] W fun e U=>e= .returned (I4 (oP c a b))/\∃q O,U=grow (W.drewN q) O:=by
 have bn:=(HU.1 af).1
 go_enter func176,ntmps176
 go_wp2
 generalize hW2:(W.alloc _).alloc _=W2;have Z:Stg W 2 W2:=by
  rw [<-hW2,alloc_eq_grow,alloc_eq_grow,grow_grow];exact ⟨0,_,V,V⟩
 have ax:Stg (W.alloc (.cells a.A71 80 (0,0))) 1 W2:=by
  rw [<-hW2,alloc_eq_grow _ (.cells b.A71 80 (0,0))];exact ⟨0,_,V,V⟩
 have hA:=IP ax (QQ _ _);have hB:W2.heap[W.heap.size+1]?=some (.cells b.A71 80 (0,0)):=by
  rw [<-hW2,<-iN W (.cells a.A71 80 (0,0))];exact QQ _ _
 have hC:=IP Z af;refine Gl.wp_region_lin [false,false,true,false,false,true,true,false,false,false,false,true,true,true,false] (y6 W2 3 (Lib.compareInt (Bl a (c:Int)) (Bl b (c:Int))) (Lib.compareInt a.k b.k)) 20 V AF AF ⟨qE (x8 W2),fun h=>absurd h B1⟩ ?_;intro fr J;have X:=Lib.hid J
 have e2:fr.tmps.getD 2 undef=I5 cb:=by rw [J];rfl
 have e3:fr.tmps.getD 3 undef= .pointer (some ⟨W.heap.size,0,none⟩):=by rw [J];rfl
 have e4:fr.tmps.getD 4 undef= .pointer (some ⟨W.heap.size+1,0,none⟩):=by rw [J];rfl
 clear J;apply Gl.wpLin_keep
 · intro j G g K m
   have I:=IP g.1 hA;have c0:=Cr (i:=0) I rfl
   have c1:=Cr (i:=1) I rfl;have c2:=Cr (i:=2) I rfl
   have c3:=Cr (i:=3) I rfl;have c4:=Cr (i:=4) I rfl
   go_simp
   exact m _ g
 apply Gl.wpLin_keep
 · intro j G g K m
   have c0:=Cr (i:=0) (IP g.1 hC) rfl
   go_simp
   exact m _ g
 apply Gl.wpLin_move
 · intro G g K m
   go_simp
   exact (JY a (c:Int) A0 _).mono (by
    rintro e U ⟨rfl,q,o,rfl⟩;exact ⟨_,V,m _ ⟨OJ g.1 q #[o],fun h=>absurd h B1⟩⟩)
 apply Gl.wpLin_keep
 · intro j G g K m
   have I:=IP g.1 hB;have c0:=Cr (i:=0) I rfl
   have c1:=Cr (i:=1) I rfl;have c2:=Cr (i:=2) I rfl
   have c3:=Cr (i:=3) I rfl;have c4:=Cr (i:=4) I rfl
   go_simp
   exact m _ g
 apply Gl.wpLin_keep
 · intro j G g K m
   have c0:=Cr (i:=0) (IP g.1 hC) rfl
   go_simp
   exact m _ g
 apply Gl.wpLin_move
 · intro G g K m
   go_simp
   exact (JY b (c:Int) A0 _).mono (by
    rintro e U ⟨rfl,q,o,rfl⟩;exact ⟨_,V,m _ ⟨OJ g.1 q #[o],fun h=>absurd h B1⟩⟩)
 apply Gl.wpLin_move
 · intro G g K m
   go_simp
   exact (Tryz.cmp_Compare_int _ _ _).mono (by
    rintro e U ⟨rfl,rfl⟩;exact ⟨_,V,m _ ⟨g.1,fun h=>absurd h B1⟩⟩)
 apply Gl.wpLin_keep
 · intro j G g K m
   go_simp
   exact m _ g
 apply Gl.wpLin_keep
 · intro j G g K m
   have c1:=Cr (i:=1) (IP g.1 hA) rfl
   go_simp
   exact m _ g
 apply Gl.wpLin_keep
 · intro j G g K m
   go_simp
   exact m _ g
 apply Gl.wpLin_keep
 · intro j G g K m
   have c1:=Cr (i:=1) (IP g.1 hB) rfl
   go_simp
   exact m _ g
 apply Gl.wpLin_move
 · intro G g K m
   go_simp
   exact (Tryz.cmp_Compare_int _ _ _).mono (by
    rintro e U ⟨rfl,rfl⟩;exact ⟨_,V,m _ ⟨g.1,fun h=>absurd h B1⟩⟩)
 apply Gl.wpLin_move (v:= .slice (some ⟨W2.heap.size+2,0,none⟩) 2 2)
 · intro G g K m
   have hz:=qD g.1;change G.heap.size=W2.heap.size+2 at hz
   go_simp
   have h:=m _ ⟨OJ g.1 0 #[.cells #[I4 (Lib.compareInt (Bl a (c:Int)) (Bl b (c:Int))),I4 (Lib.compareInt a.k b.k)] 3 (0,0)],fun _=>?_⟩
   · rw [alloc_eq_grow]
     exact h
   · rw [<-hz]
     exact QQ G _
 apply Gl.wpLin_move
 · intro G g K m
   have I:=g.2 B1
   go_simp
   exact (sN _ _ _ _ (Cr (i:=0) I V) (Cr (i:=1) I V)).mono (by
    rintro e U ⟨rfl,rfl⟩;exact ⟨_,V,m _ ⟨g.1,fun _=>I⟩⟩)
 apply Gl.wpLin_keep
 · intro j G g K m
   go_simp
   exact m _ g
 apply Gl.wpLin_done;intro wz hz;rw [X.out];simp only [Gl.putE,Gl.putsE,Act.put,nd,List.set_cons_zero,List.set_cons_succ];obtain ⟨⟨q,os,-,rfl⟩,-⟩:=hz;clear X
 go_wp2
 go_ret
 obtain ⟨q',O,-,h⟩:=OJ Z q os;exact ⟨V,q',O,h⟩
end Go.Proofs.YthhakdmlpngcmaaGreatDoor
namespace Go.Proofs.YthhakdmlpngcmaaGreatDoor
open Go.Proofs.Tryz
open Go Go.RowKit Gw
set_option maxRecDepth 100000
attribute [local irreducible] Gw.At Gw.Nx Gw.Ops
open Go.Sort Go.Shelf
instance:Inhabited AR:=⟨⟨0,0,⟨0,0,0⟩⟩⟩
def U2(r:AR):List A4:=[I4 r.t,I4 r.k,I4 r.v.a,I4 r.v.b,I4 r.v.c]
theorem ltR(c:Nat)(a b:AR):ltOf (oP c) a b=decide (Bl a (c:Int)<Bl b (c:Int)\/Bl a (c:Int)=Bl b (c:Int)/\a.k<b.k):=by
 unfold ltOf oP orL Lib.compareInt;have g:=Int.lt_trichotomy (Bl a (c:Int)) (Bl b (c:Int))
 have h2:=Int.lt_trichotomy a.k b.k;generalize Bl a (c:Int)=x at*;generalize Bl b (c:Int)=y at*;apply decide_eq_decide.2;split<;>split<;>(try split)<;>(try split)<;>omega
theorem wg(c:Nat):SWO (ltOf (oP c))where
 irrefl x:=by rw [ltR];simp
 trans x y z h1 h2:=by rw [ltR]at*;simp only [GO]at*;omega
 ntrans x y z h1 h2:=by rw [ltR]at*;simp only [MD]at*;omega
theorem xA:wC:=by
 intro I c w o s hc hn ic;obtain ⟨j5,⟨rfl,h0,rfl⟩|⟨g,cap,cur,z,rfl,rfl,gm,d9,U,j3,bn⟩⟩:=ic
 · intro u R X O
   have ho:o=[]:=Ln h0;subst ho;have hN:=AnyF.slices_SortFunc_none Tryz.sortRow none 0 (.func (.func 176) #[] #[I5 I]) X
   exact hN.mono (by
    rintro e w' ⟨rfl,rfl⟩;exact .inl ⟨_,_,V,⟨V,[],[],.refl _,.nil,Bj _ _,V⟩,O⟩)
 · intro u R X O
   have hb:=O.get (g,.cells cur 80 z) B4;have cO:=O.get (I,.cells #[I4 (c:Int)] 3 (0,0)) B4
   have gy:g≠I:=by
    have:=O.nodup;simp at this;exact this.1.1
   have hH:=Td (w:=X) (g:=g) (cur:=cur) (e:=80) (z:=z) U2 5 (fun _=>rfl) o hb (by rw [U];omega) bn j3;have eg:∀(args:AK) (w:AD),(callFunc 176 args).run prog w= .ok (.enter 176 args) w:=enters_of func176 AF rfl
   have af:CmpLays prog 176 #[I5 I] U2 5 (oP c) g 0 o.toArray.size X:=by
    intro m os dk kv x y;refine oO x y c hc I _ ?_;have gq:=O.lt (p:=(I,.cells #[I4 (c:Int)] 3 (0,0))) B4
    rw [Pe U2 5 X g m I dk os gy gq];exact cO
   have ax:=AnyQ.slices_SortFunc Tryz.sortRow 5 D0 B3 U2 (fun _=>rfl) (fun x v hv=>by simp [U2]at hv;rcases hv with rfl|rfl|rfl|rfl|rfl<;>rfl) (oP c) (wg c) 176 #[I5 I] g 0 cap o.toArray X eg af hH (O.lt (p:=(g,.cells cur 80 z)) B4) Hi;refine ax.mono ?_;rintro e w' ⟨rfl,G,n,os,⟨dn,-,hpm⟩,hso,rfl⟩;have J:G.size=o.length:=by simpa using dn
   have hF:(flatK U2 5 G).toList=Af G.toList:=Ns U2 5 (fun _=>rfl) G.toList;have Z:(flatK U2 5 G).size=o.length*5:=by rw [size_flatK,J]
   have K:G.toList.Perm o:=by
    have e1:G.extract 0 o.toArray.size=G:=by
     rw [show o.toArray.size=G.size by rw [J];simp];exact Array.extract_size
    rw [e1]at hpm;simpa using hpm
   have cu:G.toList.length=o.length:=K.length_eq;refine .inl ⟨_,[[(g,.cells (putCells id 0 (flatK U2 5 G) cur) 80 z)],[(I,.cells #[I4 (c:Int)] 3 (0,0))]],V,⟨V,_,G.toList,K,?_,?_,V⟩,O.sortedK U2 G os⟩
   · rw [en]
     intro i j hi hj ek;have h:=hso i j (C7 _) ek Hi
     rw [ltR]at h;simp only [MD]at h;rw [getElem!_pos G i (by simpa using hi),getElem!_pos G j (by simpa using hj)]at h;rw [Lf _ c hc,Lf _ c hc]at h;unfold leV;simp only [Array.getElem_toList];omega
   · rw [cu]
     refine ⟨by rw [BH,cu],.inr ⟨g,cap,_,z,rfl,rfl,gm,d9,by rw [Mg];exact U,?_,by rw [Mg];exact bn⟩⟩;have h:=VN cur (flatK U2 5 G) (by rw [Z,U];omega)
     rw [Z,hF]at h;exact h
end Go.Proofs.YthhakdmlpngcmaaGreatDoor
namespace Go.Proofs.YthhakdmlpngcmaaGreatDoor
open Go.Proofs.Tryz
open Go Go.RowKit Gw
set_option maxRecDepth 100000
attribute [local irreducible] Gw.At Gw.Nx Gw.Ops
theorem Vs(c:Nat)(out:List AR)(x:AR):∃A B,out=A++B/\aC c out x=A++[x]++B/\(∀r∈B,Dh x c<Dh r c)/\(A=[]\/∃m r,A=m++[r]/\Dh r c<=Dh x c):=by
 let q:AR->Bool:=fun r=>decide (Dh x c<Dh r c)
 have e:out=(out.reverse.dropWhile q).reverse++(out.reverse.takeWhile q).reverse:=by
  rw [<-mB,List.takeWhile_append_dropWhile,List.reverse_reverse]
 have G:dw c out (Dh x c)=(out.reverse.dropWhile q).reverse.length:=by
  rw [mA];rfl
 refine ⟨(out.reverse.dropWhile q).reverse,(out.reverse.takeWhile q).reverse,e,?_,?_,?_⟩
 · unfold aC
   rw [G];generalize (out.reverse.dropWhile q).reverse=A at*;generalize (out.reverse.takeWhile q).reverse=B at*;subst e;rw [HX,X1];all_goals rfl
 · intro r g
   rw [fR]at g;have:=List.all_takeWhile (p:=q) (l:=out.reverse)
   rw [Lq]at this;simpa [q]using this r g
 · cases h:out.reverse.dropWhile q with
   |nil=>left;rfl
   |cons r l=>
    right;refine ⟨l.reverse,r,by simp,?_⟩;have:=List.head?_dropWhile_not q out.reverse
    rw [h]at this;simpa [q]using this
theorem Vr(c:Nat)(out:List AR)(x:AR):(aC c out x).Perm (x::out):=by
 obtain ⟨A,B,e1,e2,_,_⟩:=Vs c out x;rw [e2,e1,CT];exact N1
theorem Tk(c:Nat):∀(l out:List AR),(l.foldl (aC c) out).Perm (out++l)
 |[],out=>by simp
 |x::l,out=>by
  rw [Up];refine (Tk c l _).trans ?_;refine ((Vr c out x).append_right l).trans ?_;exact N1.symm
variable{c:Nat}{x:AR}
theorem aB{out:List AR}(h:out.Pairwise (leV c))(K:∀r∈out,r.k<x.k):(aC c out x).Pairwise (leV c):=by
 obtain ⟨A,B,e1,e2,X,U⟩:=Vs c out x;rw [e2];rw [e1]at h K;rw [P0]at h;obtain ⟨G,h2,O⟩:=h;have I:∀r∈A,Dh r c<=Dh x c:=by
  rcases U with rfl|⟨A',r0,rfl,h0⟩
  · intro r g;simp at g
  · intro r g
    rcases C2.1 g with hr'|hr'
    · rw [P0]at G
      have:=G.2.2 r hr' r0 B4;unfold leV at this;omega
    · rw [C5]at hr'
      subst hr';exact h0
 rw [CT,P0];refine ⟨G,?_,?_⟩
 · rw [MY,PC]
   exact ⟨fun r g=> .inl (X r g),h2⟩
 · intro a J b m
   rw [MY,DB]at m;rcases m with rfl|m
   · have Z:=I a J
     have h5:=K a (Ek _ J);unfold leV;omega
   · exact O a J b m
theorem PG(c:Nat):∀(l out:List AR),out.Pairwise (leV c)->l.Pairwise (fun a b=>a.k<b.k)->(∀r∈out,∀x∈l,r.k<x.k)->(l.foldl (aC c) out).Pairwise (leV c)
 |[],out,h,_,_=>h
 |x::l,out,h,h2,h3=>by
  rw [Up];rw [PC]at h2;refine PG c l _ (aB h fun r g=>h3 r g x B4) h2.2 ?_;intro r g y m;have:=(Vr c out x).mem_iff.1 g
  rcases DB.1 this with rfl|hm
  · exact h2.1 y m
  · exact h3 r hm y (by simp [m])
variable{rs:List AR}{t:Int}{f:AR->Bool}
theorem QB(K:BP rs)(m:∀r,f r=true->r.t=t):(rs.filter f).Pairwise (fun a b=>a.k<b.k):=by
 have G:(rs.filter f).Pairwise (fun a b=>a.lt2 b.t b.k):=K.filter f;refine G.imp_of_mem ?_;intro a b I J g;have h2:=m a (Fc.1 I).2
 have O:=m b (Fc.1 J).2;unfold AR.lt2 at g;omega
theorem uD{l:List AR}(h:l.Pairwise (fun a b=>a.k<b.k)):∀a∈l,∀b∈l,a.k=b.k->a=b:=by
 induction l with
 |nil=>intro a g;simp at g
 |cons x l ih=>
  rw [PC]at h;intro a g b m e;rcases DB.1 g with ea|ha'<;>rcases DB.1 m with eb|hb'
  · rw [ea,eb]
  · have:=h.1 b hb';rw [ea]at e;omega
  · have:=h.1 a ha';rw [eb]at e;omega
  · exact ih h.2 a ha' b hb' e
variable{r:AR}
theorem jX{lo hi:Int}(h:inR t c lo hi r=true):r.t=t:=(HO h).1
theorem ES(rs:List AR)(t:Int)(c:Nat)(lo hi:Int):(Dr rs t c lo hi).Perm (rs.filter (inR t c lo hi)):=by
 have:=Tk c (rs.filter (inR t c lo hi)) [];rw [Kx]at this;exact this
theorem Es(m:BP rs)(t:Int)(c:Nat)(lo hi:Int):(Dr rs t c lo hi).Pairwise (leV c):=
 PG c _ [] .nil (QB m fun r h=>jX h) (by intro r g;simp at g)
theorem Rs(U:BP rs)(K:∀r,f r=true->r.t=t){a b:List AR}(G:a.Perm (rs.filter f))(I:b.Perm (rs.filter f))(J:a.Pairwise (leV c))(h2:b.Pairwise (leV c)):a=b:=by
 have O:=QB U K;refine (G.trans I.symm).eq_of_pairwise ?_ J h2;intro x y X Z g m;refine uD O x (G.mem_iff.1 X) y (I.mem_iff.1 Z) ?_;unfold leV at g m;omega
theorem VM(g:BP rs){lo hi:Int}{o:List AR}(m:o.Perm (rs.filter (inR t c lo hi)))(h2:o.Pairwise (leV c)):o=Dr rs t c lo hi:=
 Rs g (fun r h=>jX h) m (ES rs t c lo hi) h2 (Es g t c lo hi)
def inT(t:Int)(r:AR):Bool:=decide (r.t=t)
def IM(rs:List AR)(t:Int):List AR:=rs.filter (inT t)
def RF(v:A4)(p:Int)(rs:List AR)(s:List A9):Prop:=∃sp mb es ck lm,v=I5 sp/\Co K2 es ck lm/\H7 lm rs/\BP rs/\rs.length<=2000/\s=[(sp,.cells #[.map (some mb),I4 p] 215 (0,0)),(mb,.map es ck)]
theorem kS(m mb:Nat)(p:Int)(es:Array MapEntry)(ck:Nat)(lm:List ((Int×Int)×A4))(rs:List AR)(hm:Co K2 es ck lm)(hR:H7 lm rs)(O:BP rs)(hn:rs.length<=2000)(t:Int)(c:Nat)(lo hi:Int)(hc:c<=3):
 BR prog 60 #[I5 m,I4 t,I4 (c:Int),I4 lo,I4 hi] [[(m,.cells #[.map (some mb),I4 p] 215 (0,0))],[(mb,.map es ck)]] (fun r H'=>∃g,Bd 5 80 r (Dr rs t c lo hi).length (Af (Dr rs t c lo hi)) g/\H'=[g,[(m,.cells #[.map (some mb),I4 p] 215 (0,0))],[(mb,.map es ck)]]):=by
 refine Se func60 ntmps60 [0,1,2,3,4] ?_;intro u R;refine A1<|Ze (Bx #[_])<|AG fun X=>Ze (Bx #[_])<|AG fun U=>Ze (Bx #[_])<|AG fun Z=>Ze (Bx #[_])<|AG fun b4=>A5 Y<|Zq<|A1<|Zl AH Y ?_;refine Zv (Ay (n:=0) Y Y)<|Zm Y<|Ao (t:=13) Y V (fun K=>?_) (fun K=>?_);·
  exfalso;(cases K;done)
 refine Yl AH Y ?_;refine Yg (Gi (n:=4) Y Y)<|Zv (AL Y Y)<|A6<|Aw Y (fun h2=>by omega)<|fun h2=>AC<|Zx<|A1<|Zm Y<|Zl AH Y ?_;refine Zv (Bg (vs:=[]) (us:=[_,_,_,_]) Y Y)<|Zc [_,_,_] Y call119 Y V (Xc xA m mb p es ck lm rs hm hR O hn t c lo hi hc U X Z b4) ?_;rintro _ _ ⟨_,⟨g,o,J,G,I,rfl⟩,rfl⟩;have e9:=VM O G I
 subst e9;refine AW Y<|Zn [10] ?_;refine Zx<|AJ<|AP V results60 Y (by exact ⟨g,J,V⟩)
theorem YE(v:A4)(p:Int)(rs:List AR)(s:List A9)(hv:RF v p rs s)(t:Int)(c:Nat)(lo hi:Int)(hc:c<=3):BR prog 60 #[v,I4 t,I4 (c:Int),I4 lo,I4 hi] [s] (fun r H'=>∃g,Bd 5 80 r (Dr rs t c lo hi).length (Af (Dr rs t c lo hi)) g/\H'=[g,s]):=by
 obtain ⟨O,mb,es,ck,lm,rfl,I,G,K,J,rfl⟩:=hv;refine Gx (kS O mb p es ck lm rs I G K J t c lo hi hc) B4 ?_;rintro r H' ⟨g,m,rfl⟩;exact ⟨_,⟨g,m,V⟩,by simp⟩
def EB(M:List A9)(v:A4)(rs:List AR):Prop:=∃p cap,v= .slice p rs.length cap/\(rs.length<=maxLen/\rs.length<=cap)/\∀(i:Nat) (x:AR),rs[i]?=some x->∃g off cur T zz,p=some ⟨g,off,none⟩/\(g,Obj.cells cur T zz)∈M/\off+i*5+5<=cur.size/\cur.extract (off+i*5) (off+i*5+5)=x.A71
variable{v:A4}{s:List A9}
theorem DY{e:AM}(h:Bd 5 e v rs.length (Af rs) s)(J:rs.length<=maxLen):EB s v rs:=by
 obtain ⟨b,cap,rfl⟩:=h.form;refine ⟨b,cap,V,⟨J,Ez h⟩,fun i x I=>?_⟩;obtain ⟨g,G,cur,z,hv,rfl,K,m⟩:=KE h i (C4.1 I).1;injection hv with hv1 hv2 hv3
 refine ⟨g,0,cur,e,z,hv1,by simp,by omega,?_⟩;unfold Af at m;rw [J2 _ 5 (fun _=>rfl) rs i x I]at m;rw [D3];exact I2.1 m
variable{M:List A9}
theorem EB.mono{m:List A9}{ls:List AR}(h:EB M v ls)(K:∀c∈M,c∈m):EB m v ls:=by
 obtain ⟨p,cap,e,J,I⟩:=h;refine ⟨p,cap,e,J,fun i s O=>?_⟩;obtain ⟨g,off,cur,T,zz,e1,G,h2⟩:=I i s O;exact ⟨g,off,cur,T,zz,e1,K _ G,h2⟩
theorem G8(r:AR)(c:Int)(hc:0<=c/\c<=3):BJ prog 121 #[.agg r.A71,I4 c] [] (I4 (Bl r c)):=fun u R w g=>
 (JY r c hc w).mono (by
   rintro e m ⟨rfl,q,o,rfl⟩;exact .inl ⟨_,[],V,⟨V,V⟩,Rx g q _⟩)
variable{n:Nat}
theorem PI{cur xs:AK}{a:Nat}(h:cur.extract a (a+n)=xs)(m:a+n<=cur.size)(j:Nat)(g:j<n):cur[a+j]?=xs[j]?:=by
 rw [<-h,cL,Ax A0]
theorem U4{p q:Prop} [Decidable p] [Decidable q](h:p↔q):Value.bool (decide p)=Value.bool (decide q):=by rw [decide_eq_decide.2 h]
variable{P:Program}{args:AK}
theorem Qp{f:FuncId}(h:BJ P f args [] v):BJ P f args [M] v:=fun u R w m=>
 Calls.mono (h u ([M]++R) w m) fun e I g=>by
  rcases g with⟨G,H',rfl,⟨rfl,rfl⟩,h2⟩|⟨ch,H',rfl,h1,h2⟩
  · exact .inl ⟨_,[M],rfl,⟨rfl,rfl⟩,h2⟩
  · exact h1.elim
variable{B A:List A9}
theorem ag{f:FuncId}(h:BJ P f args [B] v):BJ P f args [A++B] v:=fun u R w m=>
 Calls.mono (h u ([A]++R) w (m.perm (by simp only [HB,CA,Fi,D2];rw [<-CT];exact LR.append_right _))) fun e I g=>by
  rcases g with⟨G,H',rfl,⟨rfl,rfl⟩,h2⟩|⟨ch,H',rfl,h1,h2⟩
  · refine .inl ⟨_,[A++B],rfl,⟨rfl,rfl⟩,h2.perm ?_⟩
    simp only [HB,CA,Fi,D2];rw [<-CT];exact LR.append_right _
  · exact h1.elim
theorem oJ{f:FuncId}(h:BJ P f args [A++B] v):BJ P f args [A,B] v:=by
 refine Gx h B4 ?_;rintro r H' ⟨rfl,rfl⟩;exact ⟨_,⟨V,V⟩,by simp⟩
theorem Bn{α:Type}{xs:List α}{j:Nat}{x:α}(h:xs[j]?=some x):xs.take (j+1)=xs.take j++[x]:=by rw [PF,h];rfl
variable{k:Nat}
theorem kT(h:rs[k]?=some r):Af rs=Af (rs.take k)++(Af [r]++Af (rs.drop (k+1))):=by
 rw [<-Bo,<-Bo];congr 1;obtain ⟨g,rfl⟩:=C4.1 h;rw [MY,<-RR g,J0]
theorem Lm(h:rs[k]?=some r)(j:Nat)(g:j<5):(Af rs)[k*5+j]?=(Af [r])[j]?:=by
 have m:=(C4.1 h).1;have e:(Af (rs.take k)).length=k*5:=by rw [BH,CD];omega
 rw [kT h,RM A0,Wa (by rw [e,BH];simp;omega),e,Nat.add_sub_cancel_left]
theorem YN{p:B8}{cap:Nat}(h:EB M (.slice p n cap) rs):FM M p (Af rs):=by
 obtain ⟨p',J,e,hl,X⟩:=h;injection e with e1 e2 e3
 subst e1;intro j u K;have G:=(C4.1 K).1
 rw [BH]at G;obtain ⟨x,O⟩:∃x,rs[j/5]?=some x:=⟨_,BT A0⟩;obtain ⟨g,off,cur,T,zz,rfl,Z,I,m⟩:=X (j/5) x O;refine ⟨g,off,cur,T,zz,V,Z,?_⟩;have U:=PI m I (j%5) A0
 have h2:=Lm O (j%5) A0;rw [show j/5*5+j%5=j by omega,K]at h2;rw [show off+j=off+j/5*5+j%5 by omega,U,h2,<-HQ];rfl
theorem Gh(hv:EB M v rs)(hb:rs.length<=1000000000000):BR prog 76 #[v] [M] (fun r H'=>∃O,Bd 5 80 r rs.length (Af rs) O/\H'=[O,M]):=by
 have af:=mL;obtain ⟨p,cap,rfl,⟨hl,Z⟩,X⟩:=id hv;have G:FM M p (Af rs):=YN hv
 refine Se func76 ntmps76 [0] ?_;intro u R;refine A1<|A5 Y<|Zq<|A1<|Zm Y<|Zv (Dq C1 Y Y)<|A6<|AU Y (fun K=>?_) (fun K=>?_);·
  have I:p=none:=by cases p with
   |none=>rfl
   |some x=>cases K
  have h0:rs=[]:=by
   cases rs with
   |nil=>rfl
   |cons x l=>obtain ⟨g,off,cur,T,zz,J,_⟩:=X 0 x rfl;rw [I]at J;cases J
  refine Zq<|Bc<|Zg<|A5 Y<|AJ<|Zt<|AP rfl results76 Y (by exact ⟨[],by rw [h0];exact Bj 5 _,rfl⟩)
 refine AC<|Zx<|A1<|Ze (EQ C1 B3)<|AG fun U=>Zm Y<|Ze (HY (by_:=40) (sz:=5) C1 (V:Tryz.prog.info? 80=some Tryz.t80) V rfl V rfl Y (IR 5 80 U 0 [] V B1) Y (G) (by exact BH _) B1 Wo Wo (by exact CV _) A0 A0) ?_;rintro _ _ ⟨ax,m,rfl⟩;replace m:=BZ m (D3 _) (Kx _);refine A5 Y<|AJ<|AP V results76 Y (by exact ⟨_,m,V⟩)
def R8(pd:AR->Bool)(rows:List AR):Int:=(rows.findIdx? pd).elim (-1) fun i=>(i:Int)
variable{rows:List AR}{i:Nat}
theorem uM{g:AR->Bool}(h:∀(j:Nat) (y:AR),j<i->rows[j]?=some y->g y=false)(I:rows[i]?=some x)(G:g x=true):R8 g rows=(i:Int):=by
 obtain ⟨hi,rfl⟩:=C4.1 I;unfold R8;rw [an.2 ⟨hi,G,fun j m=>by simp [h j _ m (BT A0)]⟩];rfl
theorem uN{m:AR->Bool}(h:∀(j:Nat) (y:AR),j<rows.length->rows[j]?=some y->m y=false):R8 m rows=-1:=by
 unfold R8;rw [da.2 fun y G=>by
  obtain ⟨j,g⟩:=HH G;exact h j y (C4.1 g).1 g]
 rfl
theorem nN(g:AR->Bool)(rows:List AR):(R8 g rows=-1/\∀y∈rows,g y=false)\/∃(i:Nat) (x:AR),R8 g rows=(i:Int)/\rows[i]?=some x/\g x=true/\∀(j:Nat) (y:AR),j<i->rows[j]?=some y->g y=false:=by
 unfold R8;cases h:rows.findIdx? g with
 |none=>exact .inl ⟨rfl,da.1 h⟩
 |some i=>
  obtain ⟨m,h2,G⟩:=an.1 h;refine .inr ⟨i,_,V,BT m,h2,fun j y I J=>?_⟩;obtain ⟨K,rfl⟩:=C4.1 J;simpa using G j I
theorem rT(g:k<rs.length)(x:AR):(Af rs).take (k*5)++Af [x]++(Af rs).drop (k*5+(Af [x]).length)=Af (rs.set k x):=by
 rw [show k*5+(Af [x]).length=(k+1)*5 by rw [BH];simp;omega,ED,Di,<-Bo,<-Bo,lO,Ax g];simp
theorem aV{cur:AK}(g:Bz cur 0 (Af rs))(G:rs[k]?=some x):k*5+5<=cur.size/\cur.extract (0+k*5) (0+k*5+5)=(Af [x]).toArray:=by
 have X:=(C4.1 G).1;have U:k*5+5<=cur.size:=by
  have K:=Lm G 4 B1;have O:=g.get (k*5+4) _ (K.trans B0)
  have:=(HU.1 O).1;omega
 refine ⟨U,?_⟩;apply I2.1;apply Mb;intro j;rw [HQ,cL];split
 · rename_i hj
   have m:j<5:=by omega
   have I:=Lm G j m;obtain ⟨u,J⟩:∃u,(Af [x])[j]?=some u:=⟨_,BT (by rw [BH];simpa using m)⟩;rw [J]at I;have h2:=g.get _ _ I
   rw [D3]at h2;rw [D3,h2];exact J.symm
 · rw [MT]
   show(Af [x]).length<=j;rw [BH];simp only [F2];omega
theorem YI{α:Type}{xs:List α}(hi:i<xs.length)(x:α):(xs.set i x).take (i+1)=xs.take i++[x]:=by
 rw [lO,Ax hi,List.take_append,CD,N3 A0];rw [Hx (by rw [CD];omega),show i+1 -i=1 by omega];simp
theorem MN{j:Nat}(f:AR->Bool)(g:rows[j]?=some x):(rows.take (j+1)).filter f=(rows.take j).filter f++(if f x then [x]else []):=by
 rw [Bn g,Hj];congr 1;rw [Wr,mn]
theorem Nu(h:∀(j:Nat) (y:AR),rows[j]?=some y->f y=true):rows.filter f=rows:=cN.2 fun y m=>by
 obtain ⟨j,g⟩:=HH m;exact h j y g
theorem TY(hv:EB A v rows)(G:Nat)(us:List A4)(pd:AR->Bool)(U:∀(args:AK) (w:AD),(callFunc G args).run prog w= .ok (.enter G args) w)(hf:∀x:AR,BJ prog G (.agg x.A71::us).toArray [B] (.bool (pd x))):BJ prog 141 #[v,.func (.func G) #[] us.toArray] [A,B] (I4 (R8 pd rows)):=by
 have bn:=mL;obtain ⟨p,cap,rfl,⟨hl,ax⟩,hg⟩:=id hv;refine Se func141 ntmps141 [0,1] ?_;intro u R;refine A1<|A5 Y<|Zq<|A1<|Zm Y<|Zv (Ac C1 Y)<|Zm Y<|A6<|AQ<|Zb [8,0,1,7] ?_;refine BI (e0:=[(8,_)]) (fun m e H=>∃(i:Nat),m=rows.length -i/\(i<=rows.length/\∀(j:Nat) (y:AR),j<i->rows[j]?=some y->pd y=false)/\e=[(8,I4 (i:Int))]/\H=[]) (by exact ⟨0,V,⟨C7 _,fun j y h=>by omega⟩,V,V⟩) Wp ?_;rintro _ _ _ ⟨i,rfl,⟨hi,I⟩,rfl,rfl⟩;refine A1<|Zv (Ay Y Y)<|A6<|Zq<|Aw Y (fun O=>?_) (fun O=>?_);·
  obtain ⟨x,Z⟩:∃x,rows[i]?=some x:=⟨_,BT O⟩;obtain ⟨g,off,cur,T,zz,rfl,X,af,K⟩:=hg i x Z;refine AC<|Zx<|Zq<|AQ<|A1<|Zm Y<|A5 Y<|A1<|Zm Y<|Zm Y<|Zm Y<|BU (Ae C1 B3 Y Y A0)<|CS (cs:=[(g,.cells cur T zz)]) (by simp [X]) (AB (cs:=x.A71) D0 B3 Y A0 K) V rfl<|Xr [_] Y (U) Y V (hf x)<|A6<|AU Y (fun J=>?_) (fun J=>?_);·
   refine A1<|Zm Y<|A5 Y<|AJ<|Ab<|Zt<|Zt<|Ab<|Zt<|AP V gS Y (by exact ⟨congrArg (Value.int .i64) (uM I Z J).symm,V⟩)
  refine AC<|A8<|Zx<|Zg<|Ya (n:=1) Y Y<|Zm Y<|Z0<|Zn [8,0,1,7] ?_;refine Aa (e':=[(8,_)]) (by exact ⟨i+1,rfl,⟨by omega,fun j y h1 h2=>by rcases FF j i with h9|h9;exact I j y h9 h2;obtain rfl:j=i:=A0;rw [Z]at h2;injection h2 with h2;subst h2;exact J⟩,rfl,rfl⟩)
 have ei:i=rows.length:=by omega
 subst ei;refine BD<|Zt<|Zt<|AV<|Zx<|A1<|A5 Y<|AJ<|AP V gS Y (by exact ⟨congrArg (Value.int .i64) (uN I).symm,V⟩)
set_option maxHeartbeats 1000000 in
theorem aj(G:Bd 5 80 v rows.length (Af rows) s)(hn:rows.length<=1000000000)(J:Nat)(us:List A4)(U:AR->Bool)(bn:∀(args:AK) (w:AD),(callFunc J args).run prog w= .ok (.enter J args) w)(hf:∀x:AR,BJ prog J (.agg x.A71::us).toArray [B] (.bool (U x))):BR prog 277 #[v,.func (.func J) #[] us.toArray] [s,B] (fun r H'=>∃s',Bd 5 80 r (rows.filter fun x=>!U x).length (Af (rows.filter fun x=>!U x)) s'/\H'=[s',B]):=by
 have o9:=mL;obtain ⟨p,cap,rfl⟩:=G.form;have hU:=DY G A0
 refine Se func277 ntmps277 [0,1] ?_;intro u R;refine A1<|A5 Y<|A1<|Zm Y<|Zm Y<|Xr [_,_] Y call141 Y V (TY hU J us U bn hf) ?_;rcases nN U rows with⟨e9,X⟩|⟨k,x0,e9,hx0,hp0,hno⟩
 ·
  rw [e9];refine A5 Y<|Zq<|A1<|Zm Y<|Zv (CP Y Y)<|A6<|Aw Y (fun h1=>?_) (fun h1=>?_);·
   refine A1<|Zm Y<|A5 Y<|AJ<|Zt<|AP rfl results277 Y (by exact ⟨_,BZ G (congrArg List.length (Nu fun j y hy=>by rw [X y (DQ hy)];rfl).symm) (congrArg Af (Nu fun j y hy=>by rw [X y (DQ hy)];rfl).symm),rfl⟩)
  exact absurd V h1
 rw [e9];have o8:=(C4.1 hx0).1
 obtain ⟨g,ic,cur,z,gy,rfl,kv,j5⟩:=E5 G A0;injection gy with hv1 hv2 hv3
 subst hv1 hv3;refine A5 Y<|Zq<|A1<|Zm Y<|Zv (CP Y Y)<|A6<|Aw Y (fun h2=>by omega)<|fun h2=>AC<|Zx<|Zq<|A1<|Zm Y<|Ya (n:=1) Y Y<|A5 Y<|AQ<|Zb [5,6,0,1] ?_;refine BI (e0:=[(5,_),(6,_)]) (fun m e H=>∃(i j:Nat) (W:List AR) (cur:AK),m=rows.length -j/\((i<j/\j<=rows.length)/\W.length=rows.length/\Bd 5 80 (I6 g rows.length cap) rows.length (Af W) [(g,.cells cur 80 z)]/\W.take i=(rows.take j).filter (fun x=>!U x)/\∀t,j<=t->W[t]?=rows[t]?)/\e=[(5,I4 (i:Int)),(6,I4 (j:Int))]/\H=[[(g,.cells cur 80 z)]]) (by exact ⟨k,k+1,rows,cur,rfl,⟨⟨by omega,by omega⟩,rfl,G,by rw [MN _ hx0,hp0];simp only [S4,N0,HT,D2];exact (Nu (fun j y hy=>by rw [HI]at hy;split at hy;rw [hno j y eh hy];rfl;cases hy)).symm,fun t _=>rfl⟩,rfl,rfl⟩) Wp ?_;rintro _ _ _ ⟨i,j,W,cur,rfl,⟨l9,ax,O,K,af⟩,rfl,rfl⟩;obtain ⟨d9,cu,l5,j3,Z⟩:=Jc O;refine Zq<|A1<|Zm Y<|Zm Y<|Zv (Ac C1 Y)<|Zv (Ay Y Y)<|A6<|Aw Y (fun dn=>?_) (fun dn=>?_);·
  obtain ⟨x,hx⟩:∃x,rows[j]?=some x:=⟨_,BT dn⟩;obtain ⟨l8,cO⟩:=aV d9 ((af j (CI _)).trans hx);refine AC<|Zx<|Zq<|AQ<|A1<|Zm Y<|Zm Y<|BU (Ae C1 B3 Y Y A0)<|Zo Wh (AB (cs:=x.A71) D0 B3 Y A0 cO)<|Ze (Al F0 #[_,_,_,_,_])<|AG fun bx=>Xe (Xw B3 x.A71)<|A6<|A1<|Zm Y<|Zo Wh (AB (cs:=#[_,_,_,_,_]) D0 B3 Y B5 B0)<|Xr [_] Y (bn) Y V (hf x)<|Zv (Bt Y)<|Z0<|Zn [0,1,5,6,7,29] ?_;refine Zx<|AU Y (fun I=>?_) (fun I=>?_);·
   have I:U x=false:=by simpa using I
   have ek:=BZ (xs':=Af (W.set i x)) (ET (i:=0+i*5) (ys:=Af [x]) O (by rw [BH,BH,F2];omega)) rfl (by rw [D3];exact rT A0 x);refine A1<|Zm Y<|Zm Y<|Zo Wh (AB (cs:=#[_,_,_,_,_]) D0 B3 Y B5 B0)<|BU (Ae C1 B3 Y Y A0)<|Xe (BL B3 Y Y Hb Wu (by exact (rfl:_=EM cur (0+i*5) (Af [x]))) FA A0 Z)<|A6<|Zg<|Zm Y<|Ya (n:=1) Y Y<|AW Y<|A8<|Zx<|Zg<|Zm Y<|Ya (n:=1) Y Y<|AW Y<|Zn [5,6,0,1] ?_;refine Aa (e':=[(5,_),(6,_)]) (by exact ⟨i+1,j+1,W.set i x,_,rfl,⟨by omega,by rw [dj];exact ax,ek,by rw [YI A0,K,MN _ hx];simp [I],fun t ht=>by rw [List.getElem?_set_ne A0];exact af t A0⟩,rfl,rfl⟩)
  have I:U x=true:=by simpa using I
  refine AC<|A8<|Zx<|Zg<|Zm Y<|Ya (n:=1) Y Y<|AW Y<|Zn [5,6,0,1] ?_;refine Aa (e':=[(5,_),(6,_)]) (by exact ⟨i,j+1,W,cur,rfl,⟨by omega,ax,O,by rw [K,MN _ hx];simp [I],fun t ht=>af t A0⟩,rfl,rfl⟩)
 have ej:j=rows.length:=by omega
 subst ej;rw [G3]at K;have gq:(rows.filter fun x=>!U x).length=i:=by rw [<-K,CD];omega
 refine BD<|Zt<|Zt<|AV<|Zx<|A1<|Zm Y<|Zm Y<|BU (C8 C1 B3 Y Y A0)<|Ze (OB C1 (V:Tryz.prog.info? 80=some Tryz.t80) V rfl (by simp [Value.cells,Value.oneCell']) Y A0 cu Z Wo) ?_;rintro _ _ rfl;have gm:=VJ (ET (i:=i*5) (ys:=(Builtin.zeroCells (Value.agg #[I4 0,I4 0,I4 0,I4 0,I4 0]).cells (rows.length -i)).toList) O (by rw [Sh,size_zeroCells,BH];show i*5+(rows.length -i)*5<=_;omega)) i A0
 refine A6<|A1<|Zm Y<|Zm Y<|BU (Bq C1 B3 Y Y A0)<|A5 Y<|AJ<|AP V results277 Y (by
  refine ⟨_,BZ gm gq.symm ?_,V⟩;rw [CT,HX (by rw [CD,BH];omega),ED,K])
theorem uK{A Y D:List A4}(g:A.length=(n+1)*5)(hi:i<=n)(G:Y.length=5)(m:D.length=(n -i)*5):(A.take (0+i*5)++Y++A.drop (0+i*5+Y.length)).take (0+(i+1)*5)++D++(A.take (0+i*5)++Y++A.drop (0+i*5+Y.length)).drop (0+(i+1)*5+D.length)=A.take (i*5)++Y++D:=by
 rw [D3,D3,HX (by rw [Bm,CD];omega),SZ (by simp only [Bm,CD,CH];omega),D2]
theorem nH{A Y D:List A4}(g:A.length=(n+1)*5)(hi:i<=n)(G:Y.length=5)(m:D.length=(n -i)*5):(A.take (0+(i+1)*5)++D++A.drop (0+(i+1)*5+D.length)).take (0+i*5)++Y++(A.take (0+(i+1)*5)++D++A.drop (0+(i+1)*5+D.length)).drop (0+i*5+Y.length)=A.take (i*5)++Y++D:=by
 rw [D3,D3,SZ (l:=A) A0,D2,cJ (by rw [CD];omega),V0,N3 A0,X1 (by rw [CD];omega)]
theorem YM(rows:List AR)(i:Nat)(y:AR):(Af rows).take (i*5)++Af [y]++Af (rows.drop i)=Af (rows.take i++[y]++rows.drop i):=by
 rw [ED,Bo,Bo]
theorem U7{c:AK}(h:Bz c 0 (Af rows))(i:Nat)(hi:i<=rows.length):Bz c (0+i*5) (Af (rows.drop i)):=by
 have g:=J5 h (i*5) ((rows.length -i)*5) (by rw [BH];omega);rw [Di,Hx (by rw [BH,CH];omega)]at g;exact g
theorem iE{c:AK}(h:Bz c 0 (Af rows))(i:Nat)(hi:i<=rows.length):Bz c 0 (Af (rows.take i)):=by
 have g:=J5 h 0 (i*5) (by rw [BH];omega);rw [Pr,ED]at g;exact g
theorem XR(rows:List AR)(i:Nat)(hi:i<=rows.length)(y:AR):(rows.take i++[y]++rows.drop i).length=rows.length+1:=by
 simp only [Bm,CD,CH,F2];omega
set_option maxHeartbeats 1000000 in
theorem ZZ(m:Bd 5 80 v rows.length (Af rows) s)(hn:rows.length<=1000000000)(i:Nat)(hi:i<=rows.length)(y:AR)(U:Nat):BR prog 278 #[v,I4 (i:Int),I6 U 1 1] [s,[(U,.cells y.A71 80 (0,0))]] (fun r H'=>∃s' s2,Bd 5 80 r (rows.take i++[y]++rows.drop i).length (Af (rows.take i++[y]++rows.drop i)) s'/\H'=[s',s2,[(U,.cells y.A71 80 (0,0))]]):=by
 have o8:=mL;obtain ⟨p,cap,rfl⟩:=m.form;have l9:=Ez m
 refine Se func278 ntmps278 [0,1,2] ?_;intro u R;refine A1<|A5 Y<|Zq<|Bc<|Zg<|Zm Y<|Zm Y<|BU (C8 C1 B3 Y Y A0)<|A6<|A1<|Zm Y<|Zv (Ac C1 Y)<|A5 Y<|Zq<|A1<|Zm Y<|Zv (Ci (n:=0) Y Y)<|A6<|Aw Y (fun h0=>by cases h0)<|fun h0=>AC<|Zx<|A1<|Zm Y<|Zv (Ac C1 Y)<|A5 Y<|Zq<|A1<|Zm Y<|Zm Y<|Zv (Ci Y Y)<|Z0<|Zn [0,1,2,7,8,22] ?_;refine Zx<|Aw Y (fun X=>?_) (fun X=>?_);·
  refine A1<|Zm Y<|Zm Y<|Ze (BV (by_:=40) (sz:=5) C1 (V:Tryz.prog.info? 80=some Tryz.t80) V rfl V rfl Y (m) Y (Dl 5 U 1 1 80 (0,0) (Af [y]) V) Wo Wo (by exact CV _) A0 A0) ?_;rintro _ _ ⟨o9,O,rfl⟩;obtain ⟨kv,j5,rfl⟩:=O.form;refine A5 Y<|AJ<|Zt<|AP V results278 Y (by
   have X:i=rows.length:=by omega
   subst X;exact ⟨_,[],BZ O (XR rows _ (CI _) y).symm (by rw [G3,j0,D2,Bo]),rfl⟩)
 obtain ⟨g,dn,cur,z,cO,rfl,j3,I⟩:=E5 m A0;injection cO with hv1 hv2 hv3
 subst hv1 hv3;obtain ⟨_,l8,_,l5,af⟩:=Jc m;refine AC<|Zx<|Zq<|A1<|Zm Y<|Zm Y<|Ya Y Y<|Zm Y<|Zv (Qh C1 Y)<|Zv (DR Y Y)<|A6<|Aw Y (fun hg=>?_) (fun hg=>?_);·
  refine A1<|Zm Y<|Zm Y<|BU (Bq C1 B3 Y Y A0)<|Zm Y<|Zm Y<|Ya Y Y<|Zm Y<|Yb Y Y ?_;refine Ze (LX (by_:=40) (sz:=5) (xs:=Af (rows.take i)) C1 D4 (rfl:Tryz.prog.info? 80=some Tryz.t80) rfl rfl rfl rfl Y Y Wh (iE I i hi) (by rw [BH,CD];omega) A0 B1 A0 A0 A0) ?_;rintro _ _ ⟨s9,J,rfl⟩;rw [show i+(rows.length+1 -i)=rows.length+1 by omega]at J;have G:=J.1
  obtain ⟨g3,d9,ek,z3,rfl,rfl,ic,gy⟩:=E5 J A0;obtain ⟨_,gq,_,gm,K⟩:=Jc J;refine AW Y<|Zn [0,1,2,7,9] ?_;refine Zx<|A1<|Zm Y<|Zm Y ?_
  (refine BU (Bp C1 B3 Y Y ?_ ?_) ?_;(focus (omega));(focus (omega)))
  refine Zm Y<|Xe (JV (cs:=Af [y]) C1 B3 Y Y Wh Wo ((rfl:Bz (y.A71:AK) 0 (Af [y]))) (by rw [BH,F2];omega) (by rw [BH,F2];omega) (K) (CV _)) ?_;refine A6<|Zq<|BA (n:=9) (0::0::0::6::15::0::0::96::255::[]) 256 AF AF V<|A3 0 V (AO Y)<|A3 1 V (AO Y)<|A3 2 V (AO Y)<|A3 3 V (EA Y Y A0) ?_
  (refine Dn (D':=31) 4 (Bp C1 B3 Y Y ?_ ?_) ?_;(focus (omega));(focus (omega)))
  refine A3 5 V (AO Y)<|A3 6 V (AO Y) ?_
  (refine Dn (D':=255) 7 (Bp C1 B3 Y Y ?_ ?_) ?_;(focus (omega));(focus (omega)))
  refine Yw 8 511 rfl (JV (cs:=Af (rows.drop i)) C1 B3 Y Y Wh Wo (U7 I i hi) (by rw [BH,CH];omega) (by rw [BH,CH,GR (by rw [BH,F2];omega)];omega) (by rw [GR (by rw [BH,F2];omega)];exact K) (CV _))<|Cp<|Ag<|Zn [9] ?_;refine Zx<|A1<|Zm Y<|A5 Y<|AJ<|Zt<|AP V results278 Y (by
   refine ⟨_,[(g,.cells cur 80 z)],BZ (ET (i:=0+(i+1)*5) (ys:=Af (rows.drop i)) (ET (i:=0+i*5) (ys:=Af [y]) J (by rw [G,BH,F2];omega)) ?_) (XR rows i hi y).symm ?_,rfl⟩;· simp only [Bm,CD,CH,G,BH,F2];omega
   · rw [uK G hi (by rw [BH];rfl) (by rw [BH,CH]),HX (by rw [BH,CD];omega),<-ED,YM])
 refine AC<|Zx<|Zq ?_;obtain ⟨p8,cu,bn⟩:=VI m (rows.length+1) A0 A0;have G:=bn.1
 refine Zg<|Zm Y<|Zm Y<|Zm Y<|Ya Y Y ?_;refine BU (Bq C1 B3 Y Y A0)<|A5 Y<|Zq<|Zq<|zN (s1:=[(U,_)]) (s2:=[(g,_)]) (a:=U) (b:=g) Wo Wo (C5.2 V) (C5.2 V) (fun ax=>?_);refine Zg<|Zm Y<|Zm Y<|Zm Y<|Zm Y<|Ya Y Y ?_
 (refine BU (Bp C1 B3 Y Y ?_ ?_) ?_;(focus (omega));(focus (omega)))
 refine CS (cs:=[(U,.cells y.A71 80 (0,0)),(g,.cells cur 80 z)]) B4 (TA (tR:=4) func306 AF AF AF AF C1 B3 Y ax A0) V rfl ?_;refine Zv (Bt Y)<|Z0<|Zn [0,1,2,7,8,68] ?_;refine Zx<|AU Y (fun Z=>?_) (fun Z=>?_);·
  refine Zq<|BA (n:=9) (0::0::0::6::15::0::0::96::255::[]) 256 AF AF V<|A3 0 V (AO Y)<|A3 1 V (AO Y)<|A3 2 V (AO Y)<|A3 3 V (EA Y Y A0) ?_
  (refine Dn (D':=31) 4 (Bp C1 B3 Y Y ?_ ?_) ?_;(focus (omega));(focus (omega)))
  refine A3 5 V (AO Y)<|A3 6 V (AO Y) ?_
  (refine Dn (D':=255) 7 (Bp C1 B3 Y Y ?_ ?_) ?_;(focus (omega));(focus (omega)))
  refine Yw 8 511 rfl (JV (cs:=Af (rows.drop i)) C1 B3 Y Y Wh Wo (U7 I i hi) (by rw [BH,CH];omega) (by rw [BH,CH];omega) (af) (CV _))<|Cp<|Ag<|Zx<|A1<|Zm Y<|Zm Y ?_
  (refine BU (Bp C1 B3 Y Y ?_ ?_) ?_;(focus (omega));(focus (omega)))
  refine Zm Y<|Xe (JV (cs:=Af [y]) C1 B3 Y Y Wh Wo ((rfl:Bz (y.A71:AK) 0 (Af [y]))) (by rw [BH,F2];omega) (by rw [BH,F2,GR (by rw [BH,CH];omega)];omega) (by rw [GR (by rw [BH,CH];omega)];exact af) (CV _)) ?_;refine Z0<|Zn [0] ?_;refine Zx<|A1<|Zm Y<|A5 Y<|AJ<|Zt<|AP V results278 Y (by
   refine ⟨_,[],BZ (ET (i:=0+i*5) (ys:=Af [y]) (ET (i:=0+(i+1)*5) (ys:=Af (rows.drop i)) bn (by rw [G,BH,CH];omega)) ?_) (XR rows i hi y).symm ?_,rfl⟩;· simp only [Bm,CD,CH,BH,cu,F2];omega
   · rw [nH G hi (by rw [BH];rfl) (by rw [BH,CH]),cJ (by rw [BH];omega),YM])
 cases Z
structure QM where
 kd:Int
 tb:Int
 cl:Int
 lo:Int
 hi:Int
 bq:Int
 ot:Int
deriving DecidableEq
abbrev QM.GS(q:QM)(c:Chg)(x y:Option Go.Addr)(o n:Int):Array Go.Value:=#[I4 q.kd,I4 q.tb,I4 q.cl,I4 q.lo,I4 q.hi,I4 q.bq,I4 q.ot,I4 c.t,I4 c.k,.bool c.had,I4 c.o.a,I4 c.o.b,I4 c.o.c,.bool c.has,I4 c.n.a,I4 c.n.b,I4 c.n.c,.pointer x,.pointer y,I4 o,I4 n]
abbrev QM.A72(c:QM):Array Go.Value:=#[I4 c.kd,I4 c.tb,I4 c.cl,I4 c.lo,I4 c.hi,I4 c.bq,I4 c.ot]
structure CB where
 rows:List AR
 val:Int
 fnd:Bool
deriving DecidableEq
def inQ(q:QM)(r:AR):Bool:=decide (r.t=q.tb/\q.lo<=Bl r q.cl/\Bl r q.cl<=q.hi)
def BK(q:QM):Prop:=(0<=q.tb/\q.tb<=3)/\(0<=q.cl/\q.cl<=3)/\(-1000000000<=q.lo/\q.lo<=q.hi/\q.hi<=1000000000)/\
 ((q.kd=1/\q.cl=0/\q.lo=q.hi/\(1<=q.lo/\q.lo<=1000000)/\q.bq=0/\q.ot=0)\/((q.kd=2\/q.kd=3)/\q.bq=0/\q.ot=0)\/
  ((q.kd=4\/q.kd=5\/q.kd=6)/\(1<=q.bq/\q.bq<=3)/\q.ot=0)\/(q.kd=7/\(1<=q.bq/\q.bq<=3)/\(0<=q.ot/\q.ot<=3)))
instance(q:QM):Decidable (BK q):=by unfold BK;infer_instance
def CB.none:CB:=⟨[],0,false⟩
def Lh(ms:List Int):Int:=ms.foldl (·+·) 0
def EY(lt:Int->Int->Bool)(ms:List Int):CB:=ms.foldl (fun r n=>⟨r.rows,if !r.fnd||lt n r.val then n else r.val,true⟩) CB.none
def Dc(q:QM)(others:List AR)(k:Int):Option AR:=others.find? (fun x=>decide (x.t=q.ot/\x.k=k))
def Il(q:QM)(others:List AR)(r:AR):List AR:=match Dc q others (Bl r q.bq)with
 |some x=>[r,x]
 |none=>[]
def Io(q:QM)(rows others:List AR):List AR:=rows.flatMap (Il q others)
def D5(q:QM)(rows:List AR):List Int:=rows.map fun r=>Bl r q.bq
def FR(q:QM)(rows others:List AR):CB:=
 if q.kd=3 then⟨[],rows.length,false⟩else if q.kd=4 then⟨[],Lh (D5 q rows),false⟩
 else if q.kd=5 then EY (fun a b=>decide (a<b)) (D5 q rows)else if q.kd=6 then EY (fun a b=>decide (b<a)) (D5 q rows)
 else if q.kd=7 then⟨Io q rows others,0,false⟩else⟨rows,0,false⟩
def CR(rs:List AR)(q:QM):List AR:=Dr rs q.tb q.cl.toNat q.lo q.hi
def Cs(rs:List AR)(q:QM):CB:=FR q (CR rs q) (IM rs q.ot)
def mD(c:Chg):List AR:=if c.had then [⟨c.t,c.k,c.o⟩]else []
def Hy(q:QM)(b:Bool)(r:AR):Option AR:=if b&&inQ q r then some r else none
def bfQ(q:QM)(c:Chg):Option AR:=Hy q c.had ⟨c.t,c.k,c.o⟩
def afQ(q:QM)(c:Chg):Option AR:=Hy q c.has ⟨c.t,c.k,c.n⟩
def mQ(q:QM):Option AR->Int
 |some r=>Bl r q.bq
 |none=>0
def O1(q:QM)(c:Chg):Bool:=(bfQ q c).isSome||(afQ q c).isSome
def Uc(q:QM)(c:Chg):Bool:=(bfQ q c).isSome !=(afQ q c).isSome
def Ct(q:QM)(c:Chg):Bool:=
 if q.kd=1\/q.kd=2 then O1 q c else if q.kd=3 then Uc q c else if q.kd=4 then decide (mQ q (bfQ q c)≠mQ q (afQ q c))
 else if q.kd=5\/q.kd=6 then Uc q c||decide (mQ q (bfQ q c)≠mQ q (afQ q c))else O1 q c||decide (c.t=q.ot)
theorem Pz{c:Chg}(J:GX rs c):∃A B,rs=A++mD c++B/\EL rs c=A++Nh c++B:=by
 refine ⟨rs.take (E8 rs c.t c.k),(rs.drop (E8 rs c.t c.k)).drop (if c.had then 1 else 0),?_,V⟩;unfold mD;cases hh:c.had with
 |false=>simp
 |true=>
  have m:(Fy rs c.t c.k).2=true:=by rw [J.1,hh]
  obtain ⟨r,X,hi,O,U⟩:=JM m;have hv:=J.2 m
  rw [U]at hv;have e:r=⟨c.t,c.k,c.o⟩:=by
   obtain ⟨t,k,v⟩:=r;obtain ⟨G,I⟩:=hi;simp only at G I hv;subst G I hv;rfl
  rw [e]at O;obtain ⟨K,g⟩:=C4.1 O;simp only [Hv,CT];conv=>lhs;rw [<-J0 (E8 rs c.t c.k) rs,RR K,g]
  rw [MY,RR K];rfl
variable{q:QM}
theorem zJ(h:BK q)(r:AR):inR q.tb q.cl.toNat q.lo q.hi r=inQ q r:=by
 have hc:=h.2.1;have:=Lf r q.cl.toNat A0
 rw [show((q.cl.toNat:Nat):Int)=q.cl by omega]at this;unfold inR inQ;rw [this]
theorem QU(h:BK q)(rs:List AR):CR rs q=(rs.filter (inQ q)).foldl (aC q.cl.toNat) []:=by
 unfold CR Dr;rw [dd fun r _=>zJ h r]
theorem Hl(h:BK q)(rs:List AR):(CR rs q).Perm (rs.filter (inQ q)):=by
 have:=ES rs q.tb q.cl.toNat q.lo q.hi;rwa [dd fun r _=>zJ h r]at this
theorem TH(q:QM)(c:Chg):(mD c).filter (inQ q)=(bfQ q c).toList:=by
 unfold mD bfQ Hy;cases c.had with
 |false=>rfl
 |true=>simp only [Hv,V1,Wr,mn];split<;>rfl
theorem TK(q:QM)(c:Chg):(Nh c).filter (inQ q)=(afQ q c).toList:=by
 unfold Nh afQ Hy;cases c.has with
 |false=>rfl
 |true=>simp only [Hv,V1,Wr,mn];split<;>rfl
def Jt:List Int->Int
 |[]=>0
 |x::l=>x+Jt l
theorem Ms(l:List Int):∀a,l.foldl (·+·) a=a+Jt l:=by
 induction l with
 |nil=>intro a;simp [Jt]
 |cons x l ih=>intro a;rw [Up,ih];simp only [Jt];omega
theorem YB(a b:List Int):Jt (a++b)=Jt a+Jt b:=by
 induction a with
 |nil=>simp [Jt]
 |cons x a ih=>simp only [PJ,Jt,ih];omega
theorem Mc{a b:List Int}(h:a.Perm b):Jt a=Jt b:=by
 induction h with
 |nil=>rfl
 |cons x _ ih=>simp only [Jt,ih]
 |swap x y l=>simp only [Jt];omega
 |trans _ _ ih1 ih2=>exact ih1.trans ih2
theorem yN(lt:Int->Int->Bool)(J:∀a b c,lt b a=false->lt c b=false->lt c a=false)(I:∀a,lt a a=false)(G:∀a b,lt a b=true->lt b a=false)(l:List Int):∀(m:Int),∃x,(x=m\/x∈l)/\lt m x=false/\(∀y∈l,lt y x=false)/\l.foldl (fun(r:CB) n=>(⟨r.rows,if !r.fnd||lt n r.val then n else r.val,true⟩:CB)) ⟨[],m,true⟩=⟨[],x,true⟩:=by
 induction l with
 |nil=>intro m;exact ⟨m,.inl rfl,I m,by simp,rfl⟩
 |cons z l ih=>
  intro m;rw [Up];cases hz:lt z m with
  |true=>
   obtain ⟨x,K,h2,O,U⟩:=ih z;simp only [S4,mx,hz,Hv];refine ⟨x,.inr (by rcases K with h|h;rw [h];simp;exact E7 _ h),J x z m h2 (G z m hz),fun y g=>?_,U⟩;rcases DB.1 g with rfl|g
   · exact h2
   · exact O y g
  |false=>
   obtain ⟨x,K,h2,O,U⟩:=ih m;simp only [S4,mx,hz,N0,HT];refine ⟨x,by rcases K with h|h;exact .inl h;exact .inr (E7 _ h),h2,fun y g=>?_,U⟩;rcases DB.1 g with rfl|g
   · exact J x m y h2 hz
   · exact O y g
theorem KW(lt:Int->Int->Bool)(G:∀a b c,lt b a=false->lt c b=false->lt c a=false)(m:∀a,lt a a=false)(g:∀a b,lt a b=true->lt b a=false)(z:Int)(l:List Int):∃x∈z::l,(∀y∈z::l,lt y x=false)/\EY lt (z::l)=⟨[],x,true⟩:=by
 obtain ⟨x,J,h2,K,O⟩:=yN lt G m g l z;refine ⟨x,by rcases J with h|h;rw [h];simp;exact E7 _ h,fun y I=>?_,?_⟩
 · rcases DB.1 I with rfl|I
   · exact h2
   · exact K y I
 · unfold EY
   rw [Up];exact O
theorem PK(lt:Int->Int->Bool)(I:∀a b c,lt b a=false->lt c b=false->lt c a=false)(m:∀a,lt a a=false)(g:∀a b,lt a b=true->lt b a=false)(J:∀a b,lt a b=false->lt b a=false->a=b){l G:List Int}(h:∀y,y∈l↔y∈G):EY lt l=EY lt G:=by
 match l,G,h with
 |[],[],_=>rfl
 |[],y::G,h=>have:=(h y).2 B4;cases this
 |y::l,[],h=>have:=(h y).1 B4;cases this
 |y::l,y'::G,h=>
  obtain ⟨x,O,U,X⟩:=KW lt I m g y l;obtain ⟨K,Z,b2,b3⟩:=KW lt I m g y' G;rw [X,b3,J x K (b2 x ((h x).1 O)) (U K ((h K).2 Z))]
theorem iZ{c:Chg}(g:GX rs c)(h:c.t≠t):IM (EL rs c) t=IM rs t:=by
 obtain ⟨A,B,e1,e2⟩:=Pz g;have z1:(mD c).filter (inT t)=[]:=by
  unfold mD;split;· simp [inT,h]
  · rfl
 have z2:(Nh c).filter (inT t)=[]:=by
  unfold Nh;split;· simp [inT,h]
  · rfl
 unfold IM;rw [e2];conv=>rhs;rw [e1]
 simp only [Hj,z1,z2,D2]
theorem Rh{o:Option AR}(h:o.isSome=false):o.toList=[]:=by
 cases o with
 |none=>rfl
 |some x=>cases h
theorem uw{c:Chg}(J:BK q)(hf:GX rs c)(h:Ct q c=false):Cs (EL rs c) q=Cs rs q:=by
 obtain ⟨A,B,e1,e2⟩:=Pz hf;have X:rs.filter (inQ q)=A.filter (inQ q)++(bfQ q c).toList++B.filter (inQ q):=by
  conv=>lhs;rw [e1]
  rw [Hj,Hj,TH]
 have Z:(EL rs c).filter (inQ q)=A.filter (inQ q)++(afQ q c).toList++B.filter (inQ q):=by
  rw [e2,Hj,Hj,TK]
 have K:=Hl J rs;have O:=Hl J (EL rs c)
 rw [X]at K;rw [Z]at O;have I:(bfQ q c).isSome=false->(afQ q c).isSome=false->CR (EL rs c) q=CR rs q:=fun h1 h2=>by
  rw [QU J,QU J,X,Z,Rh h1,Rh h2]
 unfold Ct at h;unfold Cs FR;split at h
 · rename_i hk
   unfold O1 at h;rw [ir]at h;rw [I h.1 h.2,As A0,As A0,As A0,As A0,As A0,As A0,As A0,As A0,As A0,As A0]
 · split at h
   · rename_i hk
     rw [Ax hk,Ax hk];have hl:(CR (EL rs c) q).length=(CR rs q).length:=by
      rw [K.length_eq,O.length_eq];simp only [Bm];unfold Uc at h;cases hb:bfQ q c<;>cases g:afQ q c<;>simp [hb,g]at h⊢
     rw [hl]
   · split at h
     · rename_i hk3 hk
       rw [As hk3,As hk3,Ax hk,Ax hk];have hs:Lh (D5 q (CR (EL rs c) q))=Lh (D5 q (CR rs q)):=by
        unfold Lh D5;rw [Ms,Ms,Mc (K.map _),Mc (O.map _)];simp only [C0,YB];have U:=ab h
        have key:∀o:Option AR,Jt (o.toList.map fun r=>Bl r q.bq)=mQ q o:=fun o=>by
         cases o with
         |none=>rfl
         |some x=>simp [Jt,mQ]
        rw [key,key];omega
       rw [hs]
     · split at h
       · rename_i hk3 hk4 hk
         rw [ir]at h;have U:=ab h.2
         have G:=h.1;have m:∀y,y∈D5 q (CR (EL rs c) q)↔y∈D5 q (CR rs q):=fun y=>by
          unfold D5;rw [(K.map _).mem_iff,(O.map _).mem_iff];unfold Uc at G;cases hb:bfQ q c<;>cases g:afQ q c<;>simp [hb,g]at G⊢
          simp [hb,g,mQ]at U;rw [U]
         rw [As hk3,As hk3,As hk4,As hk4];rcases hk with hk|hk
         · rw [Ax hk,Ax hk]
           exact PK _ (by intro a b c;simp;omega) (by intro a;simp) (by intro a b;simp;omega) (by intro a b;simp;omega) m
         · rw [As (show¬q.kd=5 by omega),As (show¬q.kd=5 by omega),Ax hk,Ax hk]
           exact PK _ (by intro a b c;simp;omega) (by intro a;simp) (by intro a b;simp;omega) (by intro a b;simp;omega) m
       · rw [ir]at h
         have g:=h.1;unfold O1 at g;rw [ir]at g;rw [I g.1 g.2,iZ hf (ab h.2)]
end Go.Proofs.YthhakdmlpngcmaaGreatDoor
