/- Records in plain words: a log that can be applied. -/
import Derived.Test.YtfhjaegddfehhaaGreatDoorLg9
import Derived.WalkSpells
import Derived.Shelf.SlSortCmp.NoneTotal
set_option linter.unusedVariables false
set_option linter.unusedSimpArgs false
namespace Go.Proofs.YtfhjaegddfehhaaGreatDoor
open Go.Proofs.Tryz
open Go Go.RowKit Gw
set_option maxRecDepth 100000
attribute [local irreducible] Gw.At Gw.Nx Gw.Ops
structure BN where
 p:Int
 q:Option Addr
 cap:Nat
 cs:List Chg
def Du(l:List BN):List Value:=l.flatMap (fun r=>[I4 r.p,.slice r.q r.cs.length r.cap])
def EZ(M:List AA)(v:Value)(l:List BN):Prop:=∃p cap,v= .slice p l.length cap/\(l.length<=maxLen/\l.length<=cap)/\∀(i:Nat) (r:BN),l[i]?=some r->Ck M (.slice r.q r.cs.length r.cap) r.cs/\∃g off cur T zz,p=some ⟨g,off,none⟩/\(g,Obj.cells cur T zz)∈M/\off+i*2+2<=cur.size/\cur.extract (off+i*2) (off+i*2+2)=#[I4 r.p,.slice r.q r.cs.length r.cap]
def BZ(l:List BN):List AV:=l.foldl (fun rs r=>DN rs r.cs) []
theorem Gi(l:List BN)(r:BN):BZ (l++[r])=DN (BZ l) r.cs:=by unfold BZ;rw [Z3];rfl
def FB(l:List BN):Prop:=∀(i:Nat) (r:BN),l[i]?=some r->KU (BZ (l.take i)) (i:Int) r.p r.cs/\r.cs.length<=3
variable{rs:List AV}{cs:List Chg}
theorem iF{p rp:Int}(G:BQ rs)(h:KU rs p rp cs):BQ (DN rs cs)/\(DN rs cs).length<=2000:=by
 have m:=UC h.ok.ord;obtain ⟨g,_⟩:=KN G m h.fit cs.length (CM _);have h2:=Nq G m h.fit cs.length (CM _)
 rw [GB]at g h2;exact ⟨g,by have:=h.size;omega⟩
theorem FB.rows{l:List BN}(h:FB l):∀i,i<=l.length->BQ (BZ (l.take i))/\(BZ (l.take i)).length<=2000
 |0,_=>⟨List.Pairwise.nil,C0 _⟩
 |i+1,hi=>by
  obtain ⟨r,g⟩:∃r,l[i]?=some r:=⟨_,B3 A1⟩;have m:=FB.rows h i A1
  rw [PF,g];show BQ (BZ (l.take i++[r]))/\_
  rw [show(some r).toList=[r] from rfl,Gi];exact iF m.1 (h i r g).1
theorem FB.all{l:List BN}(h:FB l):BQ (BZ l)/\(BZ l).length<=2000:=by
 have:=h.rows l.length (CM _);rwa [GB]at this
theorem FB.snoc{l:List BN}(h:FB l){r:BN}(G:KU (BZ l) (l.length:Int) r.p r.cs)(m:r.cs.length<=3):FB (l++[r]):=by
 intro i x hx;rw [nt]at hx;split at hx
 · rename_i hi
   rw [bm A1];exact h i x hx
 · rename_i hi
   have g:=(BE.1 hx).1;simp only [E3]at g;have e:i=l.length:=by omega
   subst e;rw [W4]at hx;injection hx with hx
   subst hx;rw [HM rfl];exact ⟨G,m⟩
theorem G9:∀(cs:List Chg),(Cj cs).length=cs.length*10
 |[]=>rfl
 |c::cs=>by
  have:=G9 cs;unfold Cj at*;rw [HL,B7,this,DG];simp;omega
theorem J4(a b:List Chg):Cj (a++b)=Cj a++Cj b:=by unfold Cj;rw [N6]
theorem Ui(cs:List Chg)(k:Nat):(Cj cs).take (k*10)=Cj (cs.take k):=by
 rcases E0 cs.length k with h|h
 · rw [I2 (by rw [G9];omega),I2 A1]
 · have e:Cj cs=Cj (cs.take k)++Cj (cs.drop k):=by rw [<-J4,Iv]
   rw [e,HM (by rw [G9,C3];omega)]
theorem Uj(cs:List Chg)(k:Nat):(Cj cs).drop (k*10)=Cj (cs.drop k):=by
 rcases E0 cs.length k with h|h
 · rw [SP (by rw [G9];omega),SP A1];rfl
 · have e:Cj cs=Cj (cs.take k)++Cj (cs.drop k):=by rw [<-J4,Iv]
   rw [e,W3 (by rw [G9,C3];omega)]
theorem PR(cs:List Chg):∀u∈Cj cs,u.oneCell'=true:=by
 intro u g;unfold Cj at g;obtain ⟨r,_,h⟩:=S0.1 g;simp only [D4,RW,RC]at h;rcases h with rfl|rfl|rfl|rfl|rfl|rfl|rfl|rfl|rfl|rfl<;>rfl
theorem ui{cur:Array Value}{j:Nat}{y:Chg}(h:C8 cur 0 (Cj cs))(hy:cs[j]?=some y):cur[j*10]?=some (I4 y.t)/\cur[j*10+1]?=some (I4 y.k):=by
 have m:=IM (fun c:Chg=>[I4 c.t,I4 c.k,.bool c.had,I4 c.o.a,I4 c.o.b,I4 c.o.c,.bool c.has,I4 c.n.a,I4 c.n.b,I4 c.n.c]) 10 (fun _=>rfl) cs j y hy;have e:∀q,((Cj cs).drop (j*10)).take 10=[I4 y.t,I4 y.k,.bool y.had,I4 y.o.a,I4 y.o.b,I4 y.o.c,.bool y.has,I4 y.n.a,I4 y.n.b,I4 y.n.c]->q<10->(Cj cs)[j*10+q]?=([I4 y.t,I4 y.k,.bool y.had,I4 y.o.a,I4 y.o.b,I4 y.o.c,.bool y.has,I4 y.n.a,I4 y.n.b,I4 y.n.c]:List Value)[q]?:=fun q G I=>by
  rw [<-G,HC,AM I,NO]
 have a0:=h.get (j*10+0) _ ((e 0 m A1).trans rfl);have g:=h.get (j*10+1) _ ((e 1 m A1).trans rfl)
 rw [D0]at a0 g;exact ⟨a0,g⟩
variable{v:Value}
theorem Jl{M:List AA}(h:Ck M v cs)(s:List AA):Ck (M++s) v cs:=by
 obtain ⟨p,cap,hv,J,I⟩:=h;refine ⟨p,cap,hv,J,fun i c hc=>?_⟩;obtain ⟨g,off,cur,T,zz,m,h2,G⟩:=I i c hc;exact ⟨g,off,cur,T,zz,m,Dg _ h2,G⟩
theorem H5{M:List AA}(h:Ck M v cs)(s:List AA):Ck (s++M) v cs:=by
 obtain ⟨p,cap,hv,J,I⟩:=h;refine ⟨p,cap,hv,J,fun i c hc=>?_⟩;obtain ⟨g,off,cur,T,zz,m,h2,G⟩:=I i c hc;exact ⟨g,off,cur,T,zz,m,G2 _ h2,G⟩
def WN(M:List AA)(v:Value)(xs:List (List Int)):Prop:=∃p cap,v= .slice p xs.length cap/\(xs.length<=maxLen/\xs.length<=cap)/\∀(i:Nat) (z:List Int),xs[i]?=some z->z.length=6/\(∀n∈z,-9223372036854775808<=n/\n<=9223372036854775807)/\∃g off cur T zz,p=some ⟨g,off,none⟩/\(g,Obj.cells cur T zz)∈M/\∀(j:Nat) (n:Int),z[j]?=some n->cur[off+i*6+j]?=some (I4 n)
theorem K6{l:List BN}{s I:List AA}(h:Bc 2 50 v l.length (Du l) s)(hn:l.length<=maxLen)(K:∀r∈l,Ck I (.slice r.q r.cs.length r.cap) r.cs):EZ (s++I) v l:=by
 obtain ⟨b,cap,rfl⟩:=h.form;refine ⟨b,cap,V,⟨hn,Ex h⟩,fun i r G=>⟨H5 (K r (DE G)) s,?_⟩⟩;obtain ⟨g,J,cur,z,hv,rfl,O,m⟩:=JE h i (BE.1 G).1;injection hv with hv1 hv2 hv3
 refine ⟨g,0,cur,50,z,hv1,Dg _ (BT.2 V),by omega,?_⟩;rw [D0];apply HD.1;rw [m];exact IM _ 2 (fun _=>rfl) l i r G
theorem Kc(a b:List BN):Du (a++b)=Du a++Du b:=by unfold Du;rw [N6]
theorem zS:Ba prog 19 #[] [] (fun r H'=>∃g,r=I5 g/\H'=[[(g,.cells #[.slice none 0 0,I4 0] 75 (0,0))]]):=by
 refine Se func19 ntmps19 [] ?_;intro u R;refine A0<|A3 Y<|A0<|Zv (BM (vs:=[]) (cs:=#[_,_]) Y (AZ (pl:=#[(0,1),(1,1)]) zeroValue75 IF (fun _=>by kernel_rfl) V))<|Ze (Bx #[_,_])<|AE fun g=>A3 Y<|AJ<|AO V results19 Y (by exact ⟨g,V,V⟩)
def K2(k:Int×Int):Value:= .agg #[I4 k.1,I4 k.2]
def KD(k:Int×Int):Prop:=(Lit.int .i64 k.1).wf=true/\(Lit.int .i64 k.2).wf=true
def SL(r:AV):Value:= .agg r.A58
theorem vL:∀a b,K2 a=K2 b->a=b:=by
 rintro ⟨a,b⟩ ⟨c,d⟩ h;unfold K2 at h;simp only [Value.agg.injEq,p5,lf,Value.int.injEq,eI,V2]at h;rw [h.1,h.2]
theorem P8(P:Program)(d:Nat)(a:Int){t:TypeId}(g:P.underlying t=some (.int .i64))(h:(Lit.int .i64 a).wf=true):P.keyLits (d+1) t [.int .i64 a]=some [.int .i64 a]:=by
 unfold Program.keyLits;rw [g];simp [h]
theorem tV:Fv prog 234 K2 KD:=Fv.ofLaw (deep_law (m:=3) (by decide) (by kernel_rfl) (by kernel_rfl) (by kernel_rfl)) (by
 rintro ⟨a,b⟩ ⟨I,J⟩;have G:Tryz.prog.types.size+1=(Tryz.prog.types.size -1)+1+1:=by
  have:0<Tryz.prog.types.size:=Hb A6;omega
 have hc:Tryz.prog.cellsOf 3=1:=by kernel_rfl
 have g:Tryz.prog.cellsOf 234=2:=by kernel_rfl
 have U:Tryz.prog.keyType 234=true:=by kernel_rfl
 have O:(K2 (a,b)).formed prog 234=true:=by
  unfold Value.formed K2;rw [j8];simp [g]
 unfold keyOf;rw [j8];simp only [U,O,Bool.and_self,HR];obtain ⟨d,K⟩:∃d,Tryz.prog.types.size+1=d+1+1:=⟨_,G⟩;rw [K];unfold Program.keyLits;rw [j8];have X:=P8 prog d a C5 I
 have Z:=P8 prog d b C5 J;simp [K2,Value.cells,hc,g,X,Z]) vL
structure H7(l:List ((Int×Int)×Value))(rs:List AV):Prop where
 mem:∀p,p∈l↔∃r∈rs,p=((r.t,r.k),SL r)
 kd:∀r∈rs,KD (r.t,r.k)
theorem rf:H7 [] []:=⟨fun p=>by simp,fun r h=>by cases h⟩
variable{l:List ((Int×Int)×Value)}
theorem H7.keys(h:H7 l rs):∀p∈l,KD p.1:=fun p g=>by
 obtain ⟨r,m,rfl⟩:=(h.mem p).1 g;exact h.kd r m
theorem YR{a b:AV}(h:SL a=SL b):a=b:=by
 obtain ⟨t,k,⟨x,y,z⟩⟩:=a;obtain ⟨m,g,⟨G,I,J⟩⟩:=b;unfold SL at h;simp only [Value.agg.injEq,p5,lf,Value.int.injEq,eI,V2]at h;obtain ⟨rfl,rfl,rfl,rfl,rfl⟩:=h;rfl
theorem H7.len{es:Array MapEntry}{ck:Nat}(I:Co K2 es ck l)(h:H7 l rs)(K:BQ rs):l.length=rs.length:=by
 have G:l.Nodup:=by
  have:=I.keys;rw [Xs,Th]at this;rw [Xs];exact this.imp (fun g e=>g (by rw [e]))
 have h2:(rs.map (fun r=>((r.t,r.k),SL r))).Nodup:=by
  rw [Xs,Th];refine K.imp (fun{a b} hab e=>?_);have e2:=YR (Prod.mk.inj e).2
  subst e2;unfold AV.lt2 at hab;omega
 have J:l.Perm (rs.map (fun r=>((r.t,r.k),SL r))):=by
  rw [RE G h2];intro p;rw [h.mem p,Bm];constructor;· rintro ⟨r,m,rfl⟩;exact ⟨r,m,rfl⟩
  · rintro ⟨r,m,rfl⟩;exact ⟨r,m,rfl⟩
 rw [J.length_eq,B4]
theorem H7.get{es:Array MapEntry}{ck:Nat}(J:Co K2 es ck l)(h:H7 l rs)(O:BQ rs)(t k:Int):
 (EI (t,k) l).getD (SL AV.zero)=SL (Fq rs t k).1/\(EI (t,k) l).isSome=(Fq rs t k).2:=by
 cases hg:(Fq rs t k).2 with
 |true=>
  obtain ⟨r,m,hi,_,I⟩:=JL hg;have G:((t,k),SL r)∈l:=(h.mem _).2 ⟨r,m,by rw [show t=r.t from hi.1.symm,show k=r.k from hi.2.symm]⟩
  rw [Cy J.keys G,I];exact ⟨V,V⟩
 |false=>
  have g:∀r∈rs,¬r.is t k:=fun r m hi=>by rw [KM O m hi]at hg;cases hg
  have hn:EI (t,k) l=none:=DW (fun p K e=>by
   obtain ⟨r,m,rfl⟩:=(h.mem p).1 K;injection e with e1 e2
   exact g r m ⟨e1,e2⟩)
  rw [hn,QJ g];exact ⟨V,V⟩
variable{c:Chg}
theorem H7.put{J:List ((Int×Int)×Value)}(h:H7 l rs)(I:BQ rs)(G:GR rs c)(K:c.has=true)(O:KD (c.t,c.k))(U:∀p,p∈J↔p=((c.t,c.k),SL ⟨c.t,c.k,c.n⟩)\/(p∈l/\p.1≠(c.t,c.k))):H7 J (EK rs c):=by
 refine ⟨fun p=>?_,fun r m=>?_⟩
 · rw [U p]
   constructor
   · rintro (rfl|⟨g,h2⟩)
     · exact ⟨_,(G7 I G _).2 (.inr ⟨K,rfl⟩),rfl⟩
     · obtain ⟨r,m,rfl⟩:=(h.mem p).1 g
       exact ⟨r,(G7 I G _).2 (.inl ⟨m,fun hi=>h2 (by rw [show r.t=c.t from hi.1,show r.k=c.k from hi.2])⟩),rfl⟩
   · rintro ⟨r,m,rfl⟩
     rcases (G7 I G _).1 m with⟨g,h2⟩|⟨_,rfl⟩
     · exact .inr ⟨(h.mem _).2 ⟨r,g,rfl⟩,fun e=>h2 (by injection e with e1 e2;exact ⟨e1,e2⟩)⟩
     · exact .inl rfl
 · rcases (G7 I G _).1 m with⟨g,_⟩|⟨_,rfl⟩
   · exact h.kd r g
   · exact O
theorem H7.drop{K:List ((Int×Int)×Value)}(h:H7 l rs)(I:BQ rs)(G:GR rs c)(J:c.has=false)(O:∀p,p∈K↔p∈l/\p.1≠(c.t,c.k)):H7 K (EK rs c):=by
 refine ⟨fun p=>?_,fun r m=>?_⟩
 · rw [O p]
   constructor
   · rintro ⟨g,h2⟩
     obtain ⟨r,m,rfl⟩:=(h.mem p).1 g;exact ⟨r,(G7 I G _).2 (.inl ⟨m,fun hi=>h2 (by rw [show r.t=c.t from hi.1,show r.k=c.k from hi.2])⟩),rfl⟩
   · rintro ⟨r,m,rfl⟩
     rcases (G7 I G _).1 m with⟨g,h2⟩|⟨h9,_⟩
     · exact ⟨(h.mem _).2 ⟨r,g,rfl⟩,fun e=>h2 (by injection e with e1 e2;exact ⟨e1,e2⟩)⟩
     · rw [J]at h9;cases h9
 · rcases (G7 I G _).1 m with⟨g,_⟩|⟨h9,_⟩
   · exact h.kd r g
   · rw [J]at h9;cases h9
theorem Uq{n:Int}(h:-9223372036854775808<=n/\n<=9223372036854775807):(Lit.int .i64 n).wf=true:=by
 simp [Lit.wf,IntKind.min,IntKind.max,IntKind.signed,IntKind.bits];omega
theorem uh(h:c.ok):KD (c.t,c.k):=by
 obtain ⟨g,h2,_,_⟩:=h;have m:(0<=c.t/\c.t<=3)/\(1<=c.k/\c.k<=1000000):=by
  cases hh:c.had with
  |true=>
   have:c.before.ok:=cA (fun hn=>h2 (.inl ⟨hh,hn⟩));rw [PU hh]at this;exact this.2
  |false=>
   cases hs:c.has with
   |true=>
    have:c.after.ok:=cA (fun hn=>h2 (.inr ⟨hs,hn⟩));rw [L9 hs]at this;exact this.2
   |false=>exact absurd (.inl ⟨by rw [hh];decide,by rw [hs];decide⟩) g
 exact ⟨Uq (by show _<=c.t/\c.t<=_;omega),Uq (by show _<=c.k/\c.k<=_;omega)⟩
theorem Ob(c:Chg):BH prog 126 #[.agg c.A57] [] (.tuple #[.agg #[I4 (EM c c.has c.n).t,I4 (EM c c.has c.n).k,I4 (EM c c.has c.n).v.a,I4 (EM c c.has c.n).v.b,I4 (EM c c.has c.n).v.c],.bool c.has]):=by
 refine Se func126 ntmps126 [0] ?_;intro u R;refine A0<|Ze (Bx #[_,_,_,_,_,_,_,_,_,_])<|AE fun g=>Ze (Al DS #[_,_,_,_,_])<|AE fun m=>A3 Y<|A0<|Zo Wh (A9 (cs:=#[_,_,_,_,_,_,_,_,_,_]) Fk C1 Y As AN)<|Zh 6 B8 V rfl CH Y<|Zl DM Y<|Zh 7 B8 V rfl D3 Y<|Zo Wh (A9 (cs:=#[_,_,_]) GS D3 Y As AN)<|Xr [_,_,_] Y call183 Y V (Wt c c.has c.n)<|Zd Y V<|Zd Y V<|Xe (Xw AW _)<|AG Y<|Zn [2,3] ?_;refine Zx<|AJ<|Bj V results126 Y Wh (Am CI AW Wn (V)) Y (by exact ⟨V,V⟩)
theorem zG:Ba prog 80 #[] [] (fun r H'=>∃g mb,r=I5 g/\H'=[[(g,.cells #[.map (some mb),I4 0] 232 (0,0))],[(mb,.map #[] 0)]]):=by
 refine Se func80 ntmps80 [] ?_;intro u R;refine A0<|A3 Y<|A0<|Ze (DT)<|AE fun mb=>Zv (BM (vs:=[(0,_)]) (cs:=#[_,_]) Y (AZ (pl:=#[(0,1),(1,1)]) zeroValue230 cI (fun _=>by kernel_rfl) V))<|Zv (BM (vs:=[(0,_)]) (cs:=#[_,_]) Y (AZ (pl:=#[(0,2)]) zeroValue232 cJ (fun _=>by kernel_rfl) V))<|Ze (Bx #[_,_])<|AE fun g=>A3 Y<|AJ<|AO V results80 Y (by exact ⟨g,mb,V,V⟩)
theorem wK(sp mb:Nat)(p rp:Int)(es:Array MapEntry)(ck:Nat)(lm:List ((Int×Int)×Value))(rs:List AV)(M:List AA)(q:Option Addr)(cap:Nat)(cs:List Chg)(hm:Co K2 es ck lm)(hR:H7 lm rs)(hO:Ck M (.slice q cs.length cap) cs)(hs:BQ rs)(hn:rs.length<=2000)(hA:KU rs p rp cs):
 BH prog 125 #[I5 sp,.agg #[I4 rp,.slice q cs.length cap]] [[(sp,.cells #[.map (some mb),I4 p] 232 (0,0))],[(mb,.map es ck)],M] (.bool true):=by
 have ic:=mL;obtain ⟨p9,gy,e9,j3,hg⟩:=id hO;injection e9 with e91 e92 e93
 subst e91 e93;have J:=hA.ok
 have j5:=hA.pos;have gF:=J.len
 have kv:=J.pos;have gB:=UC J.ord
 have d9:=hR.len hm hs;refine Se func125 ntmps125 [0,1] ?_;intro u R;refine A0<|Ze (Bx #[_,_])<|AE fun b1=>A3 Y<|Zq<|Zq<|Az (n:=14) (0::1::3::7::15::31::15::79::207::463::975::1999::4095::8191::[]) 2 A6 A6 V<|E7 0 V Wh (A9 (cs:=#[_,_]) HX F0 Y As AN)<|Yw 1 3 V (Zu [_] Y call39 Y V (Pp rp q cap cs M hO)) ?_;rintro _ _ ⟨rfl,rfl⟩;rw [Cp J];refine A2 2 V (Br Y)<|A2 3 V (AP Y)<|CU (t:=13) Y (fun h1=>?_) (fun h1=>?_);·
  rw [h1];cases h1
 rw [h1];refine An 4 V (AB (off:=0) G3 V rfl A4 Y)<|DH 5 V Wh (BP AD Y AN)<|An 6 V (AP Y)<|An 7 V (Ap Y V)<|An 8 V (AB (off:=0) cJ V rfl dt Y)<|An 9 V (Ar (off:=1) cI V rfl A4 Y)<|DH 10 V Wh (BP AD Y AN)<|An 11 V (He Y Y (IntWalk.i64_in _ A1))<|An 12 V (GG Y Y)<|A2 13 V (AL Y Y)<|Ag<|Zn [0,3,23] ?_;refine Zx<|Aq Y (fun h2=>?_) (fun h2=>?_);·
  exfalso;contradiction
 refine AC<|Zx<|A0<|Zm Y<|Zp Y V<|Zh 0 cJ V rfl dt Y<|Zv (Ar (off:=0) cI V rfl sizeOf228 Y)<|Zl isAgg228 Y<|Zo Wh (QD jj hm Y)<|A3 Y<|Zq<|A0<|Zh 1 G3 V rfl IH Y<|Zl LL Y<|Zv (AY G1 Y)<|Zm Y<|A5<|AR<|Zb [5,33,0,31,32] ?_;refine BA (e0:=[(5,_),(33,_)]) (fun m e H=>∃(i:Nat),m=cs.length -i/\(i<=cs.length)/\e=[(5,I4 (Gr rs (cs.take i))),(33,I4 (i:Int))]/\H=[]) (by exact ⟨0,rfl,C0 _,by rw [d9];rfl,rfl⟩) Wp ?_;rintro _ _ _ ⟨i,rfl,hi,rfl,rfl⟩;have gm:=OW rs cs i
 refine A0<|Zv (Au Y Y)<|A5<|Zq<|Aq Y (fun ax=>?_) (fun ax=>?_);·
  obtain ⟨x,hx⟩:∃x,cs[i]?=some x:=⟨_,B3 ax⟩;obtain ⟨g,off,cur,T,zz,rfl,ek,l5,bn⟩:=hg i x hx;have gq:=J.all i x hx
  have cO:=uh gq;obtain ⟨cu,Z⟩:=hA.fit x (DE hx);have K:=hR.get hm hs x.t x.k
  obtain ⟨O,af⟩:∃O,O=Fq rs x.t x.k:=⟨_,rfl⟩;rw [<-af]at K cu Z;clear af;refine AC<|Zx<|Zq<|AR<|A0<|Bb (Ac G1 C1 Y Y A1)<|CS (cs:=[(g,.cells cur T zz)]) (by simp [ek]) (A9 (cs:=x.A57) Fk C1 Y A1 bn) V rfl<|Ze (Al Ln #[_,_,_,_,_,_,_,_,_,_])<|AE fun cb=>Xe (Xw C1 x.A57)<|A5<|Zq<|Az (n:=17) (0::1::3::7::15::0::32::0::128::480::1023::2047::4095::4095::0::24575::65535::[]) 49152 A6 A6 V<|A2 0 V (AP Y)<|A2 1 V (Ap Y V)<|A2 2 V (AB (off:=0) cJ V rfl dt Y)<|A2 3 V (Ar (off:=0) cI V rfl sizeOf228 Y)<|B2 4 V isAgg228 Y<|A2 5 V (AB (off:=0) B8 V rfl A4 Y)<|B2 6 V AD Y<|A2 7 V (AB (off:=1) B8 V rfl A4 Y)<|B2 8 V AD Y<|A2 9 V (BM (vs:=[(0,_),(1,_)]) (cs:=#[_,_]) Y (AZ (pl:=#[(0,1),(1,1)]) zeroValue234 j8 (fun _=>by kernel_rfl) V))<|E7 10 V Wh (EB tV jj DS hm hR.keys (cO) (K) Y Y)<|A2 11 V (AP Y)<|A2 12 V (Bz Y V)<|A2 13 V (Bz Y V)<|Zz (l:=[14])<|B1 [true,true,true,true] [(10,(_,_)),(8,(_,_)),(6,(_,_)),(4,(_,_))] V rfl (Al DS #[_,_,_,_,_]) ?_ (fun _ _ h=>h.elim) Ai;rintro _ _ ⟨ob,rfl,rfl⟩;refine B6<|Yw 15 65535 V (Xw AW #[I4 O.1.t,I4 O.1.k,I4 O.1.v.a,I4 O.1.v.b,I4 O.1.v.c])<|CT<|A2 16 V (Av Y)<|Ag<|Zn [0,5,7,8,9,31,32,33] ?_;refine Zx<|Zq<|A0<|Zm Y<|Zh 2 B8 V rfl CH Y<|Zl DM Y<|Zv (Ki Lk Y Y)<|Zm Y<|Aj (t:=55) Y V (fun bg=>?_) (fun bg=>?_);·
   exfalso;contradiction
  refine Zf Y Y<|Zf Y Y<|Af (t:=57) Y V (fun U=>?_) (fun U=>?_);·
   refine Yf 2 FF V rfl D3 Y<|Dx Y Wh (A9 (cs:=#[_,_,_]) GS D3 Y As AN) V rfl<|Yf 3 B8 V rfl D3 Y<|Dx Y Wh (A9 (cs:=#[_,_,_]) GS D3 Y As AN) V rfl<|Yg (Kj A6 HP C5 AD A4 Y Y) ?_;refine Yg (AQ Y Y)<|Zv (AL Y Y)<|Z0<|Zn [0,5,7,31,32,33,64] ?_;refine Zx<|Aq Y (fun X=>?_) (fun X=>?_);·
    exfalso;exact X (Z U)
   refine AC<|Zx<|Zq<|A0<|Zh 2 B8 V rfl CH Y<|Zl DM Y<|A5<|AX Y (fun I=>?_) (fun I=>?_);·
    refine Zg<|Zm Y<|Bb (GL Y Y (IntWalk.i64_in _ A1))<|A3 Y<|A0<|Zh 6 B8 V rfl CH Y<|Zl DM Y<|A5<|AX Y (fun G=>?_) (fun G=>?_);·
     refine Zg<|Zm Y<|Yi Y Y<|AG Y<|A8<|Zx<|Zg<|Ya (n:=1) Y Y<|Zm Y<|Z0<|Zn [5,33,0,31,32] ?_;refine Ab (e':=[(5,_),(33,_)]) (by exact ⟨i+1,rfl,by omega,by rw [iP hx I G],rfl⟩)
    refine AC<|A8<|Zx<|Zg<|Ya (n:=1) Y Y<|Zm Y<|Z0<|Zn [5,33,0,31,32] ?_;refine Ab (e':=[(5,_),(33,_)]) (by exact ⟨i+1,rfl,by omega,by rw [iQ hx I G],rfl⟩)
   refine AC<|Zx<|A0<|Zh 6 B8 V rfl CH Y<|Zl DM Y<|A5<|AX Y (fun G=>?_) (fun G=>?_);·
    refine Zg<|Zm Y<|Yi Y Y<|AG Y<|A8<|Zx<|Zg<|Ya (n:=1) Y Y<|Zm Y<|Z0<|Zn [5,33,0,31,32] ?_;refine Ab (e':=[(5,_),(33,_)]) (by exact ⟨i+1,rfl,by omega,by rw [iR hx I G],rfl⟩)
   refine AC<|A8<|Zx<|Zg<|Ya (n:=1) Y Y<|Zm Y<|Z0<|Zn [5,33,0,31,32] ?_;refine Ab (e':=[(5,_),(33,_)]) (by exact ⟨i+1,rfl,by omega,by rw [iT hx I G],rfl⟩)
  refine A7 Y V<|A7 Y V<|A7 Y V<|A7 Y V<|A7 Y V<|Yg (AL Y Y)<|Zv (AL Y Y)<|Z0<|Zn [0,5,7,31,32,33,64] ?_;refine Zx<|DI Y<|AC<|Zx<|Zq<|A0<|Zh 2 B8 V rfl CH Y<|Zl DM Y<|A5<|AX Y (fun I=>?_) (fun I=>?_);·
   refine Zg<|Zm Y<|Bb (GL Y Y (IntWalk.i64_in _ A1))<|A3 Y<|A0<|Zh 6 B8 V rfl CH Y<|Zl DM Y<|A5<|AX Y (fun G=>?_) (fun G=>?_);·
    refine Zg<|Zm Y<|Yi Y Y<|AG Y<|A8<|Zx<|Zg<|Ya (n:=1) Y Y<|Zm Y<|Z0<|Zn [5,33,0,31,32] ?_;refine Ab (e':=[(5,_),(33,_)]) (by exact ⟨i+1,rfl,by omega,by rw [iP hx I G],rfl⟩)
   refine AC<|A8<|Zx<|Zg<|Ya (n:=1) Y Y<|Zm Y<|Z0<|Zn [5,33,0,31,32] ?_;refine Ab (e':=[(5,_),(33,_)]) (by exact ⟨i+1,rfl,by omega,by rw [iQ hx I G],rfl⟩)
  refine AC<|Zx<|A0<|Zh 6 B8 V rfl CH Y<|Zl DM Y<|A5<|AX Y (fun G=>?_) (fun G=>?_);·
   refine Zg<|Zm Y<|Yi Y Y<|AG Y<|A8<|Zx<|Zg<|Ya (n:=1) Y Y<|Zm Y<|Z0<|Zn [5,33,0,31,32] ?_;refine Ab (e':=[(5,_),(33,_)]) (by exact ⟨i+1,rfl,by omega,by rw [iR hx I G],rfl⟩)
  refine AC<|A8<|Zx<|Zg<|Ya (n:=1) Y Y<|Zm Y<|Z0<|Zn [5,33,0,31,32] ?_;refine Ab (e':=[(5,_),(33,_)]) (by exact ⟨i+1,rfl,by omega,by rw [iT hx I G],rfl⟩)
 have ei:i=cs.length:=by omega
 subst ei;rw [GB]at gm⊢;refine Ay<|Zt<|Zt<|AU<|Zx<|A0<|Zm Y<|Zv (NM Y Y)<|A3 Y<|AJ<|AO rfl results125 Y (by exact ⟨by rw [Cp hA.size],rfl⟩)
theorem om(sp mb:Nat)(p rp:Int)(es:Array MapEntry)(ck:Nat)(lm:List ((Int×Int)×Value))(rs:List AV)(M:List AA)(q:Option Addr)(cap:Nat)(cs:List Chg)(hm:Co K2 es ck lm)(hR:H7 lm rs)(hO:Ck M (.slice q cs.length cap) cs)(hs:BQ rs)(hn:rs.length<=2000)(hA:KU rs p rp cs):
 Ba prog 81 #[I5 sp,.agg #[I4 rp,.slice q cs.length cap]] [[(sp,.cells #[.map (some mb),I4 p] 232 (0,0))],[(mb,.map es ck)],M] (fun r H'=>r=I4 0/\∃bn bg gm,Co K2 bn bg gm/\H7 gm (DN rs cs)/\H'=[[(sp,.cells #[.map (some mb),I4 rp] 232 (0,0))],[(mb,.map bn bg)],M]):=by
 have l8:=mL;obtain ⟨p9,kv,e9,l9,hg⟩:=id hO;injection e9 with e91 e92 e93
 subst e91 e93;have J:=hA.ok
 have lw:=hA.pos;have l5:=J.len
 have o8:=J.pos;have cu:=UC J.ord
 refine Se func81 ntmps81 [0,1] ?_;intro u R;refine A0<|Ze (Bx #[_,_])<|AE fun b1=>A3 Y<|Zq<|AR<|A0<|Zm Y<|Zv (Be ml Y Y)<|A3 Y<|AX Y (fun h1=>by cases h1)<|fun h1=>A0<|Zm Y<|Zo Wh (A9 (cs:=#[_,_]) HX F0 Y As AN) ?_;refine Xr [_,_] Y call125 Y V (wK sp mb p rp es ck lm rs M q cap cs hm hR hO hs hn hA) ?_;refine Zv (Br Y)<|A3 Y<|AX Y (fun h2=>by cases h2)<|fun h2=>AC<|A8<|Zx<|Zq<|A0<|Zh 1 G3 V rfl IH Y<|Zl LL Y ?_;refine Zv (AY G1 Y)<|Zm Y<|Z0<|Zn [0,3,19,20,21] ?_;refine Zx<|AR<|Zb [21,0,3,19,20] ?_;refine BA (e0:=[(21,_)]) (fun m e H=>∃(i:Nat) (es:Array MapEntry) (ck:Nat) (lm:List ((Int×Int)×Value)),m=cs.length -i/\(i<=cs.length/\Co K2 es ck lm/\H7 lm (DN rs (cs.take i)))/\e=[(21,I4 (i:Int))]/\H=[[(mb,.map es ck)]]) (by exact ⟨0,es,ck,lm,rfl,⟨C0 _,hm,by rw [ID];exact hR⟩,rfl,rfl⟩) Wp ?_;rintro _ _ _ ⟨i,gy,gq,j5,rfl,⟨hi,Z,G⟩,rfl,rfl⟩;refine A0<|Zv (Au Y Y)<|A5<|Zq<|Aq Y (fun d9=>?_) (fun d9=>?_);·
  obtain ⟨x,hx⟩:∃x,cs[i]?=some x:=⟨_,B3 d9⟩;obtain ⟨g,off,cur,T,zz,rfl,ic,o9,gB⟩:=hg i x hx;have j3:=J.all i x hx
  have X:=uh j3;obtain ⟨ek,gF⟩:=KN hs cu hA.fit i hi;have cO:=gF i x (CM _) hx
  refine AC<|Zx<|Zq<|AR<|A0<|Bb (Ac G1 C1 Y Y A1)<|CS (cs:=[(g,.cells cur T zz)]) (by simp [ic]) (A9 (cs:=x.A57) Fk C1 Y A1 gB) V rfl ?_;refine Ze (Al Ln #[_,_,_,_,_,_,_,_,_,_])<|AE fun cb=>Xe (Xw C1 x.A57) ?_;refine A5<|A0<|Zh 0 B8 V rfl A4 Y<|Zl AD Y ?_;refine Zh 1 B8 V rfl A4 Y<|Zl AD Y ?_;refine Zv (BM (vs:=[(0,_),(1,_)]) (cs:=#[_,_]) Y (AZ (pl:=#[(0,1),(1,1)]) zeroValue234 j8 (fun _=>by kernel_rfl) V))<|Ze (Al zeroValue234 #[_,_])<|AE fun kb=>Xe (BL sizeOf234 Y Y (by(simp [Value.oneCell',Value.cells];done)) Wu (by exact (rfl:_=(#[I4 x.t,I4 x.k]:Array Value))) E6 AH (by exact BB _)) ?_;refine A5<|A0<|Zo Wh (A9 (cs:=#[_,_,_,_,_,_,_,_,_,_]) Fk C1 Y As AN) ?_;refine Xr [_] Y call126 Y V (Ob x) ?_;refine Zm Y<|Zd Y V<|Zd Y V<|Ze (Al DS #[_,_,_,_,_])<|AE fun xb=>Xe (Xw AW #[I4 (EM x x.has x.n).t,I4 (EM x x.has x.n).k,I4 (EM x x.has x.n).v.a,I4 (EM x x.has x.n).v.b,I4 (EM x x.has x.n).v.c]) ?_;refine AG Y<|Zn [0,3,7,8,9,19,20,21] ?_;refine Zx<|A0<|Zm Y<|A5<|AX Y (fun hh=>?_) (fun hh=>?_);·
   rw [tZ hh];refine Az (n:=8) (0::1::3::7::15::0::0::127::[]) 128 A6 A6 V<|A2 0 V (AP Y)<|A2 1 V (Ap Y V)<|A2 2 V (AB (off:=0) cJ V rfl dt Y)<|A2 3 V (Ar (off:=0) cI V rfl sizeOf228 Y)<|B2 4 V isAgg228 Y ?_;refine E7 5 V Wh (A9 (cs:=#[_,_]) isAgg234 sizeOf234 Y As AN) ?_;refine E7 6 V Wh (A9 (cs:=#[_,_,_,_,_]) CI AW Y As AN) ?_;refine Yw 7 255 V (FE tV jj Z G.keys (X) Y Y Y Wo) ?_;rintro _ _ ⟨rfl,O,K,I,af,ax,rfl⟩;have U:H7 I (DN rs (cs.take (i+1))):=by rw [EO rs cs i x hx];exact G.put ek cO hh X ax
   refine Ag<|A8<|Zx<|Zg<|Ya (n:=1) Y Y<|Zm Y<|Z0<|Zn [21,0,3,19,20] ?_;refine Ab (e':=[(21,_)]) (by exact ⟨i+1,O,K,I,V,⟨by omega,af,U⟩,V,V⟩)
  refine Az (n:=7) (0::1::3::7::15::0::63::[]) 64 A6 A6 V<|A2 0 V (AP Y)<|A2 1 V (Ap Y V)<|A2 2 V (AB (off:=0) cJ V rfl dt Y)<|A2 3 V (Ar (off:=0) cI V rfl sizeOf228 Y)<|B2 4 V isAgg228 Y ?_;refine E7 5 V Wh (A9 (cs:=#[_,_]) isAgg234 sizeOf234 Y As AN) ?_;refine Yw 6 127 V (LV tV jj Z G.keys (X) Y Y Wo) ?_;rintro _ _ ⟨rfl,O,K,I,af,ax,rfl⟩;have U:H7 I (DN rs (cs.take (i+1))):=by rw [EO rs cs i x hx];exact G.drop ek cO hh ax
  refine Ag<|A8<|Zx<|Zg<|Ya (n:=1) Y Y<|Zm Y<|Z0<|Zn [21,0,3,19,20] ?_;refine Ab (e':=[(21,_)]) (by exact ⟨i+1,O,K,I,V,⟨by omega,af,U⟩,V,V⟩)
 have ei:i=cs.length:=by omega
 subst ei;rw [GB]at G;refine Ay<|Zt<|Zt<|AU<|Zx<|A0<|Zm Y<|Zh 0 G3 V rfl A4 Y<|Zl AD Y ?_;refine Zp Y V<|Zh 0 cJ V rfl dt Y<|Zv (Ar (off:=1) cI V rfl A4 Y)<|Xe (Zs A4 Y Y V (hc:=by exact (V:_=(#[.map (some mb),I4 rp]:Array Value))) (hi:=by(simp;done))) ?_;refine A5<|A0<|A3 Y<|AJ<|AO V results81 Y (by exact ⟨V,gy,gq,j5,Z,G,V⟩)
theorem tG(q:Option Addr)(cap:Nat)(l:List BN)(M:List AA)(af:EZ M (.slice q l.length cap) l)(G:FB l)(hl:l.length<=1000000)(k:Nat)(hk:k<=l.length):
 Ba prog 37 #[.slice q l.length cap,I4 (k:Int)] [M] (fun r H'=>∃J mb es ck lm,r= .tuple #[I5 J,I4 0]/\Co K2 es ck lm/\H7 lm (BZ (l.take k))/\H'=[[(J,.cells #[.map (some mb),I4 (k:Int)] 232 (0,0))],[(mb,.map es ck)],M]):=by
 have gy:=mL;obtain ⟨p9,gm,e9,⟨gB,gq⟩,hg⟩:=id af;injection e9 with e91 e92 e93
 subst e91 e93;refine Se func37 ntmps37 [0,1] ?_;intro u R;refine A0<|Za Y<|A3 Y<|Zq<|A0<|Zm Y<|Zv (Au (n:=0) Y Y)<|Zm Y<|Aj (t:=11) Y V (fun h1=>?_) (fun h1=>?_);·
  exfalso;(cases h1;done)
 refine Zf Y Y<|Zf Y Y<|Yg (AY Fo Y)<|Yg (DF Y Y)<|Zv (AL Y Y)<|A5<|Aq Y (fun h2=>by omega)<|fun h2=>AC<|Zx<|A0<|Zc [] Y call80 Y V (zG) ?_;rintro _ _ ⟨_,⟨J,mb,rfl,rfl⟩,rfl⟩;refine A3 Y<|Zq<|A0<|Zm Y<|Zm Y<|Bb (Bq Fo F0 Y Y A1)<|Zv (AY Fo Y)<|Zm Y<|Z0<|Zn [6,20,21,22] ?_;refine Zx<|AR<|Zb [22,6,20,21] ?_;refine BA (e0:=[(22,_)]) (fun m e H=>∃(i:Nat) (es:Array MapEntry) (ck:Nat) (lm:List ((Int×Int)×Value)),m=k -i/\(i<=k/\Co K2 es ck lm/\H7 lm (BZ (l.take i)))/\e=[(22,I4 (i:Int))]/\H=[[(J,.cells #[.map (some mb),I4 (i:Int)] 232 (0,0))],[(mb,.map es ck)]]) (by exact ⟨0,#[],0,[],rfl,⟨C0 _,EU _,by rw [ID];exact rf⟩,rfl,rfl⟩) Wp ?_;rintro _ _ _ ⟨i,es,ck,lm,rfl,⟨hi,hm,hR⟩,rfl,rfl⟩;refine A0<|Zv (Au Y Y)<|A5<|Zq<|Aq Y (fun bn=>?_) (fun bn=>?_);·
  obtain ⟨r,hr⟩:∃r,l[i]?=some r:=⟨_,B3 A1⟩;obtain ⟨U,g,off,cur,T,zz,rfl,cO,gF,ax⟩:=hg i r hr;obtain ⟨hA,h3⟩:=G i r hr;have d9:=hA.pos
  obtain ⟨ek,bg⟩:=G.rows i A1;refine AC<|Zx<|Zq<|AR<|A0<|Bb (Ac Fo F0 Y Y A1)<|CS (cs:=[(g,.cells cur T zz)]) (by simp [cO]) (A9 (cs:=#[_,_]) HX F0 Y A1 ax) V rfl<|Ze (Al Sx #[_,_])<|AE fun rb=>Xe (Xw F0 #[I4 r.p,.slice r.q r.cs.length r.cap])<|A5<|A0<|Zm Y<|Zo Wh (A9 (cs:=#[_,_]) HX F0 Y As AN)<|Zc [_,_] Y call81 Y V (om J mb (i:Int) r.p es ck lm (BZ (l.take i)) M r.q r.cap r.cs hm hR U ek bg hA) ?_;rintro _ _ ⟨_,⟨rfl,O,K,I,cu,X,rfl⟩,rfl⟩;have Z:H7 I (BZ (l.take (i+1))):=by rw [PF,hr];show H7 I (BZ (l.take i++[r]));rw [Gi];exact X
  rw [show r.p=((i+1:Nat):Int) by rw [d9];rfl];refine Zv (Dp (n:=0) Y Y)<|A5<|Aq Y (fun h4=>?_) (fun h4=>?_);·
   exfalso;exact h4 rfl
  refine AC<|A8<|Zx<|Zg<|Ya (n:=1) Y Y<|Zm Y<|Z0<|Zn [22,6,20,21] ?_;refine Ab (e':=[(22,_)]) (by exact ⟨i+1,O,K,I,V,⟨by omega,cu,Z⟩,V,V⟩)
 have ei:i=k:=by omega
 subst ei;refine Ay<|Zt<|Zt<|AU<|Zx<|A0<|Zm Y<|Za Y<|A3 Y<|AJ<|Cv V results37 Y Y (by exact ⟨J,mb,es,ck,lm,V,hm,hR,V⟩)
def Di(r:AV)(c:Nat):Int:=if c=0 then r.k else if c=1 then r.v.a else if c=2 then r.v.b else r.v.c
def dW(c:Nat)(out:List AV)(v:Int):Nat:=(out.reverse.dropWhile (fun r=>decide (v<Di r c))).length
def ZV(c:Nat)(out:List AV)(x:AV):List AV:=out.take (dW c out (Di x c))++[x]++out.drop (dW c out (Di x c))
def inR(t:Int)(c:Nat)(lo hi:Int)(r:AV):Bool:=decide (r.t=t/\lo<=Di r c/\Di r c<=hi)
def Dt(rs:List AV)(t:Int)(c:Nat)(lo hi:Int):List AV:=(rs.filter (inR t c lo hi)).foldl (ZV c) []
end Go.Proofs.YtfhjaegddfehhaaGreatDoor
namespace Go.Proofs.YtfhjaegddfehhaaGreatDoor
open Go.Proofs.Tryz
open Go Go.RowKit Gw
set_option maxRecDepth 100000
attribute [local irreducible] Gw.At Gw.Nx Gw.Ops
open Go.Sort
def Bn(r:AV)(c:Int):Int:=if c=0 then r.k else if c=1 then r.v.a else if c=2 then r.v.b else if c=3 then r.v.c else 0
set_option maxHeartbeats 1000000 in
theorem JY(r:AV)(c:Int)(hc:0<=c/\c<=3)(W:World):Calls prog 132 #[.agg r.A58,I4 c] W fun e g=>e= .returned (I4 (Bn r c))/\∃(q:Nat) (o:Obj),g=grow (W.drewN q) #[o]:=by
 obtain ⟨t,k,⟨m,G,I⟩⟩:=r;rcases (by omega:c=0\/c=1\/c=2\/c=3)with rfl|rfl|rfl|rfl
 all_goals
  go_enter func132,ntmps132
  go_wp2
  go_ret
  exact ⟨rfl,0,_,by rw [alloc_eq_grow];rfl⟩
def orL(x y:Int):Int:=if x=0 then y else x
theorem rJ(b:Nat)(x y:Int)(W:World)(h0:W.cell? ⟨b,0,none⟩=some (I4 x))(I:W.cell? ⟨b,1,none⟩=some (I4 y)):Calls prog 192 #[I6 b 2 2] W fun e G=>e= .returned (I4 (orL x y))/\G=W:=by
 generalize hz:orL x y=z;have g:=Lib.hid hz
 clear hz
 go_enter func192,ntmps192
 go_wp2
 go_loop [5,8] (fun _ i=>∃(j:Nat),i=I4 j/\(j=0\/(j=1/\x=0)\/(j=2/\x=0/\y=0))) (fun _ i=>2 -(intOf i).toNat)
 case atStart=>exact ⟨0,rfl,.inl rfl⟩
 case round=>
  obtain ⟨j,rfl,m⟩:=hrel;rcases m with rfl|⟨rfl,hx⟩|⟨rfl,hx,hy⟩
  · by_cases hx:x=0
    · subst hx
      go_wp2
      go_round
      case rel=>exact ⟨1,by go_num,by simp⟩
      case measure=>simp [intOf]
    · go_wp2
      go_ret
      exact ⟨by rw [<-g.out];unfold orL;rw [AK hx];rfl,rfl⟩
  · subst hx
    by_cases hy:y=0
    · subst hy
      go_wp2
      go_round
      case rel=>exact ⟨2,by go_num,by simp⟩
      case measure=>simp [intOf]
    · go_wp2
      go_ret
      exact ⟨by rw [<-g.out];unfold orL;rw [AM rfl];rfl,rfl⟩
  · subst hx hy
    go_wp2
    go_ret
    exact ⟨by rw [<-g.out];rfl,rfl⟩
theorem S9{u w:World}{H:Hp}(h:Sat u H w)(q:Nat)(os:Array Obj):Sat u H (grow (w.drewN q) os):=by
 refine ⟨h.os,h.tape,h.output,h.nodup,fun p m=>?_⟩;have g:=h.lt m
 show(w.heap++os)[p.1]?=_;rw [eK g];exact h.get p m
theorem LW(r:AV)(c:Nat)(hc:c<=3):Bn r (c:Int)=Di r c:=by
 rcases (by omega:c=0\/c=1\/c=2\/c=3)with rfl|rfl|rfl|rfl<;>rfl
theorem Oa(r:AV)(c:Nat)(hc:c<=3):BH prog 132 #[.agg r.A58,I4 (c:Int)] [] (I4 (Di r c)):=fun u R w g=>
 (JY r (c:Int) A1 w).mono (by
   rintro e m ⟨rfl,q,o,rfl⟩;exact .inl ⟨_,[],rfl,⟨by rw [LW r c hc],rfl⟩,S9 g q _⟩)
theorem qF(r:AV)(t:Int)(c:Nat)(lo hi:Int)(hc:c<=3)(g m G I:Nat):BH prog 139 #[.agg r.A58,I5 g,I5 m,I5 G,I5 I] [[(g,.cells #[I4 (c:Int)] 3 (0,0))],[(m,.cells #[I4 t] 3 (0,0))],[(G,.cells #[I4 lo] 3 (0,0))],[(I,.cells #[I4 hi] 3 (0,0))]] (.bool (inR t c lo hi r)):=by
 refine Se func139 ntmps139 [0,1,2,3,4] ?_;intro u R;refine A0<|Ze (Bx #[_,_,_,_,_])<|AE fun g=>A3 Y<|A0<|Zo Wh (Pa #[_,_,_,_,_] CI AW Y)<|Zl AD Y<|Xr [_,_] Y SD Y V (Oa r c hc)<|A3 Y<|A0<|Zh 0 FF V rfl A4 Y<|Zl AD Y<|Zl AD Y<|Zv (CP Y Y)<|Zm Y<|Aj (t:=15) Y V (fun J=>?_) (fun J=>?_);·
  refine Zf Y Y<|Yl AD Y<|Yg (Ha Y Y)<|Zv (AQ Y Y)<|Zm Y<|Aj (t:=20) Y V (fun h2=>?_) (fun h2=>?_);·
   refine Zf Y Y<|Yl AD Y<|Yg (NM Y Y)<|Zv (AQ Y Y)<|AG Y<|Zn [6] ?_;refine Zx<|AJ<|AO V results139 Y (by exact ⟨by unfold inR;(simp_all;done),V⟩)
  refine A7 Y V<|A7 Y V<|A7 Y V<|Zv (AL Y Y)<|AG Y<|Zn [6] ?_;refine Zx<|AJ<|AO V results139 Y (by exact ⟨by unfold inR;(congr 1;simp;omega),V⟩)
 refine A7 Y V<|A7 Y V<|A7 Y V<|Zv (AL Y Y)<|Zm Y<|A7 Y V<|A7 Y V<|A7 Y V<|Zv (AL Y Y)<|AG Y<|Zn [6] ?_;refine Zx<|AJ<|AO V results139 Y (by exact ⟨by unfold inR;(simp_all;done),V⟩)
end Go.Proofs.YtfhjaegddfehhaaGreatDoor
namespace Go.Proofs.YtfhjaegddfehhaaGreatDoor
open Go.Proofs.Tryz
open Go Go.RowKit Gw
set_option maxRecDepth 100000
attribute [local irreducible] Gw.At Gw.Nx Gw.Ops
theorem F8:∀(n:Nat) (js:List Nat),js.Nodup->(∀j∈js,j<n)->js.length<=n
 |0,js,_,h=>by
  cases js with
  |nil=>simp
  |cons a l=>exact absurd (h a B0) (cX _)
 |n+1,js,hn,h=>by
  by_cases G:n∈js
  · have m:=F8 n (js.erase n) (hn.erase n) (fun j g=>by
     have h2:=(hn.mem_erase_iff).1 g;have I:=h j h2.2
     have J:=h2.1;omega)
    rw [na G]at m;omega
  · have m:=F8 n js hn (fun j g=>by
     have I:=h j g;have J:j≠n:=fun e=>G (e▸g)
     omega)
    omega
def Jg(r:AV):(Int×Int)×Value:=((r.t,r.k),SL r)
theorem Mh{a b:AV}(h:Jg a=Jg b):a=b:=YR (Prod.mk.inj h).2
theorem dY{a b:List AV}(G:(a.map Jg).Nodup)(h:(a.map Jg).Perm (b.map Jg)):a.Perm b:=by
 have I:∀{l:List AV},(l.map Jg).Nodup->l.Nodup:=fun{l} hl=>by
  rw [Xs,Th]at hl;rw [Xs];exact hl.imp (fun m e=>m (by rw [e]))
 rw [RE (I G) (I (h.nodup G))];intro x;have g:=h.mem_iff (a:=Jg x)
 rw [Bm,Bm]at g;constructor
 · intro hx
   obtain ⟨y,hy,e⟩:=g.1 ⟨x,hx,rfl⟩;rwa [Mh e]at hy
 · intro hx
   obtain ⟨y,hy,e⟩:=g.2 ⟨x,hx,rfl⟩;rwa [Mh e]at hy
variable{rs:List AV}
theorem H7.perm{es:Array MapEntry}{ck:Nat}{l:List ((Int×Int)×Value)}(I:Co K2 es ck l)(h:H7 l rs)(J:BQ rs):l.Perm (rs.map Jg):=by
 have G:l.Nodup:=by
  have:=I.keys;rw [Xs,Th]at this;rw [Xs];exact this.imp (fun g e=>g (by rw [e]))
 have h2:(rs.map Jg).Nodup:=by
  rw [Xs,Th];refine J.imp (fun{a b} hab e=>?_);have e2:=Mh e
  subst e2;unfold AV.lt2 at hab;omega
 rw [RE G h2];intro p;rw [h.mem p,Bm];constructor;· rintro ⟨r,m,rfl⟩;exact ⟨r,m,rfl⟩
 · rintro ⟨r,m,rfl⟩;exact ⟨r,m,rfl⟩
structure Xx(lm:List ((Int×Int)×Value))(f:AV->Bool)(js:List Nat)(o:List AV):Prop where
 rows:∃rl:List AV,rl.map Jg=DR lm js/\o=rl.filter f
theorem ow(lm:List ((Int×Int)×Value))(f:AV->Bool):Xx lm f [] []:=⟨[],rfl,rfl⟩
theorem Xx.push{lm:List ((Int×Int)×Value)}{rs:List AV}{f:AV->Bool}{js:List Nat}{o:List AV}(h:Xx lm f js o){j:Nat}{r:AV}(m:lm[j]?=some (Jg r)):Xx lm f (js++[j]) (o++(if f r then [r]else [])):=by
 obtain ⟨rl,g,h2⟩:=h.rows;refine ⟨rl++[r],by rw [BW,g,G5 lm js m];rfl,?_⟩;rw [Hi,<-h2];cases hf:f r<;>simp [hf]
theorem Xx.done{es:Array MapEntry}{ck:Nat}{lm:List ((Int×Int)×Value)}(K:Co K2 es ck lm)(J:H7 lm rs)(m:BQ rs){f:AV->Bool}{js:List Nat}{o:List AV}(h:Xx lm f js o)(O:(DR lm js).Perm lm):o.Perm (rs.filter f):=by
 obtain ⟨rl,G,rfl⟩:=h.rows;have h2:=J.perm K m
 have g:(rl.map Jg).Perm (rs.map Jg):=by rw [G];exact O.trans h2
 have I:(rs.map Jg).Nodup:=by
  rw [Xs,Th];refine m.imp (fun{a b} hab e=>?_);have e2:=Mh e
  subst e2;unfold AV.lt2 at hab;omega
 exact (dY (g.symm.nodup I) g).filter f
def leV(c:Nat)(a b:AV):Prop:=Di a c<Di b c\/Di a c=Di b c/\a.k<=b.k
def vH:Prop:=∀(cb c:Nat) (w:Value) (o:List AV) (s:List AA),c<=3->o.length<=2000->Bc 5 71 w o.length (Ae o) s->
    Ba prog 190 #[w,.func (.func 191) #[] #[I5 cb]] [s,[(cb,.cells #[I4 (c:Int)] 3 (0,0))]]
     (fun r H'=>r= .tuple #[]/\∃(s':List AA) (o':List AV),o'.Perm o/\o'.Pairwise (leV c)/\Bc 5 71 w o'.length (Ae o') s'/\H'=[s',[(cb,.cells #[I4 (c:Int)] 3 (0,0))]])
theorem Xh(hS:vH)(sp mb:Nat)(p:Int)(es:Array MapEntry)(ck:Nat)(lm:List ((Int×Int)×Value))(rs:List AV)(hm:Co K2 es ck lm)(hR:H7 lm rs)(hs:BQ rs)(hn:rs.length<=2000)(t:Int)(c:Nat)(lo hi:Int)(hc:c<=3)(b1 b2 b3 b4:Nat):
 Ba prog 138 #[I5 sp,I4 (c:Int),.func (.func 139) #[] #[I5 b1,I5 b2,I5 b3,I5 b4]] [[(sp,.cells #[.map (some mb),I4 p] 232 (0,0))],[(mb,.map es ck)],[(b1,.cells #[I4 (c:Int)] 3 (0,0))],[(b2,.cells #[I4 t] 3 (0,0))],[(b3,.cells #[I4 lo] 3 (0,0))],[(b4,.cells #[I4 hi] 3 (0,0))]] (fun r H'=>∃(J:List AA) (o:List AV),Bc 5 71 r o.length (Ae o) J/\o.Perm (rs.filter (inR t c lo hi))/\o.Pairwise (leV c)/\H'=[J,[(sp,.cells #[.map (some mb),I4 p] 232 (0,0))],[(mb,.map es ck)],[(b1,.cells #[I4 (c:Int)] 3 (0,0))],[(b2,.cells #[I4 t] 3 (0,0))],[(b3,.cells #[I4 lo] 3 (0,0))],[(b4,.cells #[I4 hi] 3 (0,0))]]):=by
 have j3:=mL;have ic:=hR.len hm hs
 refine Se func138 ntmps138 [0,1,2] ?_;intro u R;refine A0<|Ze (Bx #[_])<|AE fun cb=>A3 Y<|Zq<|A0<|Zm Y<|Zv (Be ml Y Y)<|A5<|AX Y (fun h1=>by cases h1)<|fun h1=>AC<|Zx<|A0<|A3 Y<|Zq<|A0<|Zm Y<|Zp Y V<|Zh 0 cJ V rfl dt Y<|Zv (Ar (off:=0) cI V rfl sizeOf228 Y)<|Zl isAgg228 Y<|Ze (NW jj Y Wh)<|AE fun ib=>A5<|AR<|BU<|Zb [7,2,4,17] ?_;refine BA (e0:=[(7,_)]) (fun m e H=>∃(js:List Nat) (seen:Array Nat) (o:List AV) (w:Value) (J:List AA),m=lm.length -js.length/\(Iu es js seen/\Xx lm (inR t c lo hi) js o/\Bc 5 71 w o.length (Ae o) J/\o.length<=js.length)/\e=[(7,w)]/\H=[[(ib,.mapIter (some mb) ck seen ck)],J]) (by exact ⟨[],#[],[],.slice none 0 0,[],V,⟨KL _,ow _ _,Bf 5 _,CM _⟩,V,V⟩) Wp ?_;rintro _ _ _ ⟨js,seen,o,w,J,rfl,⟨U,bn,G,j5⟩,rfl,rfl⟩;obtain ⟨qo,gq,rfl⟩:=G.form;have cu:=F8 es.size js U.nodup U.lt
 rw [hm.size]at cu;refine A0<|Ze (Pe hm U Y Wo Wh) ?_;rintro _ _ cO;rcases cO with⟨K,rfl,rfl⟩|⟨jn,pn,seen2,hpn,hjn,hi2,rfl,rfl⟩
 ·
  refine Zd Y V<|A5<|Zq<|AX Y (fun hb=>by cases hb)<|fun hb=>Ay<|Zt<|Zt<|AU<|Zx<|A0<|Zm Y<|Zv (Bg (vs:=[]) (us:=[_]) Y Y)<|Zc [_,_] Y call190 Y V (hS cb c _ o J hc A1 G) ?_;rintro _ _ ⟨_,⟨rfl,gm,o2,d9,ek,bg,rfl⟩,rfl⟩;refine A5<|A0<|Zm Y<|A3 Y<|AJ<|AO V results138 Y (by exact ⟨gm,o2,bg,d9.trans (bn.done hm hR hs K),ek,V⟩)
 obtain ⟨r,hr,rfl⟩:=(hR.mem pn).1 (DE hpn);refine Zd Y V<|A5<|Zq<|AX Y (fun hb=>?_) (fun hb=>?_);·
  have af:=F8 es.size (js++[jn]) hi2.nodup hi2.lt;rw [hm.size,B7,E3]at af;have gF:(js++[jn]).length=js.length+1:=by rw [B7];rfl
  have g:=bn.push (r:=r) (rs:=rs) hpn;have Z:(inR t c lo hi) r=true->Xx lm (inR t c lo hi) (js++[jn]) (o++[r]):=fun h=>by rw [h]at g;exact g
  have X:(inR t c lo hi) r=false->Xx lm (inR t c lo hi) (js++[jn]) o:=fun h=>by rw [h]at g;simpa using g
  refine AC<|Zx<|AR<|A0<|CS (cs:=[(ib,.mapIter (some mb) ck seen2 ck),(mb,.map es ck)]) B0 (JG hm hi2 hpn Y) V rfl<|Zd Y V<|Ze (Al DS #[_,_,_,_,_])<|AE fun xb=>Xe (Xw AW r.A58)<|A5<|A0<|Zm Y<|Zo Wh (Pa #[_,_,_,_,_] CI AW Y)<|Xr [_] Y call139 Y V (qF r t c lo hi hc b1 b2 b3 b4)<|A5<|AX Y (fun O=>?_) (fun O=>?_);·
   refine Zg<|Zm Y<|Zo Wh (Pa #[_,_,_,_,_] CI AW Y)<|Ze (Ah (vs:=[_]) (cs:=[_,_,_,_,_]) B5 AW DS Y V rfl V rfl V)<|AE fun gb=>Ze (BR (by_:=40) (sz:=5) B5 (V:Tryz.prog.info? 71=some Tryz.t71) V rfl V rfl Y (G) Y (D8 5 gb 1 1 71 (0,0) [I4 r.t,I4 r.k,I4 r.v.a,I4 r.v.b,I4 r.v.c] V) Wo Wo Fm A1 A1) ?_;rintro _ _ ⟨kv,I,rfl⟩;have ax:=BS I (n':=(o++[r]).length) (xs':=Ae (o++[r])) (by rw [B7];rfl) (by rw [Bh];rfl)
   obtain ⟨gB,gy,rfl⟩:=I.form;refine AG Y<|Zn [2,4,7,17] ?_;refine A8<|Zn [7,2,4,17] ?_;refine Ab (e':=[(7,_)]) (by exact ⟨js++[jn],seen2,o++[r],_,_,rfl,⟨hi2,Z O,ax,by rw [B7,B7];simp;omega⟩,rfl,rfl⟩)
  refine AC<|A8<|Zn [7,2,4,17] ?_;refine Ab (e':=[(7,_)]) (by exact ⟨js++[jn],seen2,o,_,J,rfl,⟨hi2,X O,G,by rw [B7];omega⟩,rfl,rfl⟩)
 cases hb
end Go.Proofs.YtfhjaegddfehhaaGreatDoor
namespace Go.Proofs
open Go.Shelf
def Tryz.sortRow_ren:Go.Shelf.Ren:=⟨fun|6=>190|15=>100|14=>241|28=>162|29=>163|20=>270|21=>271|22=>272|23=>273|24=>274|25=>275|26=>276|27=>277|46=>304|47=>221|48=>222|49=>305|50=>306|57=>318|n=>n,fun|22=>51|24=>71|25=>315|3=>3|39=>202|0=>0|53=>287|55=>289|4=>4|46=>279|45=>278|50=>284|5=>5|9=>9|66=>330|70=>96|76=>370|77=>371|n=>n,fun|n=>n⟩
theorem Tryz.sortRow:Go.Proofs.SlLaysF0.n6 prog Tryz.sortRow_ren:={
 mixed:=by kernel_rfl
 f6:=⟨Tryz.f190.name,by decide,func190.trans (congrArg some A6)⟩
 f14:=⟨Tryz.f241.name,by decide,func241.trans (congrArg some A6)⟩
 f15:=func100.trans (congrArg some A6)
 f20:=⟨Tryz.f270.name,by decide,func270.trans (congrArg some A6)⟩
 f21:=⟨Tryz.f271.name,by decide,func271.trans (congrArg some A6)⟩
 f22:=⟨Tryz.f272.name,by decide,func272.trans (congrArg some A6)⟩
 f23:=⟨Tryz.f273.name,by decide,func273.trans (congrArg some A6)⟩
 f24:=⟨Tryz.f274.name,by decide,func274.trans (congrArg some A6)⟩
 f25:=⟨Tryz.f275.name,by decide,func275.trans (congrArg some A6)⟩
 f26:=⟨Tryz.f276.name,by decide,func276.trans (congrArg some A6)⟩
 f27:=⟨Tryz.f277.name,by decide,func277.trans (congrArg some A6)⟩
 f28:=func162.trans (congrArg some A6)
 f29:=func163.trans (congrArg some A6)
 f46:=⟨Tryz.f304.name,by decide,func304.trans (congrArg some A6)⟩
 f47:=func221.trans (congrArg some A6)
 f48:=func222.trans (congrArg some A6)
 f49:=⟨Tryz.f305.name,by decide,func305.trans (congrArg some A6)⟩
 f50:=⟨Tryz.f306.name,by decide,func306.trans (congrArg some A6)⟩
 f57:=⟨Tryz.f318.name,by decide,func318.trans (congrArg some A6)⟩
 t0:=de
 a0:=isAgg0
 z0:=sizeOf0
 v0:=dj
 t3:=C5
 a3:=AD
 z3:=A4
 v3:=H4
 t4:=Lk
 a4:=DM
 z4:=CH
 v4:=T0
 t5:=Mb
 a5:=T7
 z5:=It
 v5:=S7
 t9:=GP
 a9:=HQ
 z9:=Fi
 v9:=HT
 t22:=B5
 a22:=F1
 z22:=C6
 v22:=zeroValue51
 t25:=underlying315
 a25:=isAgg315
 z25:=sizeOf315
 v25:=zeroValue315
 t39:=W5
 a39:=isAgg202
 z39:=fm
 v39:=fX
 t45:=mN
 a45:=isAgg278
 z45:=sizeOf278
 v45:=mu
 t46:=mS
 a46:=isAgg279
 z46:=sizeOf279
 v46:=mw
 t50:=mC
 a50:=isAgg284
 z50:=sizeOf284
 v50:=mn
 t53:=Sp
 a53:=HW
 z53:=Fc
 v53:=fY
 t55:=W6
 a55:=ao
 z55:=dr
 v55:=ff
 t66:=mT
 a66:=isAgg330
 z66:=sizeOf330
 v66:=mx
 t70:=my
 a70:=isAgg96
 z70:=T5
 v70:=Wc
 t76:=mc
 a76:=isAgg370
 z76:=sizeOf370
 v76:=n4
 t77:=me
 a77:=isAgg371
 z77:=sizeOf371
 v77:=n5}
end Go.Proofs
namespace Go.Proofs.YtfhjaegddfehhaaGreatDoor
open Go.Proofs.Tryz
open Go Go.RowKit Gw
set_option maxRecDepth 100000
attribute [local irreducible] Gw.At Gw.Nx Gw.Ops
open Go.Sort Go.Shelf
attribute [local go_sem] Gl.evalE Gl.lookE Gl.linUpon Gl.wantedE Gl.yieldE Gl.putE
def nW(c:Nat)(a b:AV):Int:=orL (Lib.compareInt (Bn a (c:Int)) (Bn b (c:Int))) (Lib.compareInt a.k b.k)
def Stg(W:World)(n:Nat)(w:World):Prop:=∃q os,os.size=n/\w=grow (W.drewN q) os
theorem wJ(W:World):Stg W 0 W:=⟨0,#[],rfl,by simp [World.drewN]⟩
variable{w W:World}{n:Nat}
theorem ol(h:Stg W n w):Stg W n w.drew:=by
 obtain ⟨q,os,rfl,rfl⟩:=h;exact ⟨q+1,os,V,V⟩
theorem OQ(h:Stg W n w)(m:Nat)(g:Array Obj):Stg W (n+g.size) (grow (w.drewN m) g):=by
 obtain ⟨q,os,rfl,rfl⟩:=h;refine ⟨q+m,os++g,by simp,?_⟩;simp [grow,World.drewN,Array.append_assoc,iu]
theorem IU{b:Nat}{o:Obj}(h:Stg W n w)(m:W.heap[b]?=some o):w.heap[b]?=some o:=by
 obtain ⟨q,os,rfl,rfl⟩:=h;have g:=(HS.1 m).1
 show(W.heap++os)[b]?=_;rw [eK g];exact m
theorem oh(h:Stg W n w):w.heap.size=W.heap.size+n:=by
 obtain ⟨q,os,rfl,rfl⟩:=h;show(W.heap++os).size=_
 simp
theorem QS(w:World)(o:Obj):(w.alloc o).heap[w.heap.size]?=some o:=by
 show(w.heap.push o)[w.heap.size]?=some o;exact Array.getElem?_push_size
theorem iG(w:World)(o:Obj):(w.alloc o).heap.size=w.heap.size+1:=Array.size_push _
def vh:Nat->Nat
 |0=>0|1=>1|2=>2|3=>2|4=>2|5=>3|_=>3
def wt(W:World)(T:Nat)(x y:Int)(k:Nat)(w:World):Prop:=Stg W (vh k) w/\(5<=k->w.heap[W.heap.size+2]?=some (.cells #[I4 x,I4 y] T (0,0)))
set_option maxHeartbeats 2000000 in
theorem nV(a b:AV)(c:Nat)(hc:c<=3)(cb:Nat)(W:World)(af:W.heap[cb]?=some (.cells #[I4 (c:Int)] 3 (0,0))):Calls prog 191 #[.agg a.A58,.agg b.A58,I5 cb] W fun e U=>e= .returned (I4 (nW c a b))/\∃q O,U=grow (W.drewN q) O:=by
 have bg:=(HS.1 af).1
 go_enter func191,ntmps191
 go_wp2
 generalize hW2:(W.alloc _).alloc _=W2;have Z:Stg W 2 W2:=by
  rw [<-hW2,alloc_eq_grow,alloc_eq_grow,grow_grow];exact ⟨0,_,V,V⟩
 have ax:Stg (W.alloc (.cells a.A58 71 (0,0))) 1 W2:=by
  rw [<-hW2,alloc_eq_grow _ (.cells b.A58 71 (0,0))];exact ⟨0,_,V,V⟩
 have hA:=IU ax (QS _ _);have hB:W2.heap[W.heap.size+1]?=some (.cells b.A58 71 (0,0)):=by
  rw [<-hW2,<-iG W (.cells a.A58 71 (0,0))];exact QS _ _
 have hC:=IU Z af;refine Gl.wp_region_lin [false,false,true,false,false,true,true,false,false,false,false,true,true,true,false] (wt W2 3 (Lib.compareInt (Bn a (c:Int)) (Bn b (c:Int))) (Lib.compareInt a.k b.k)) 20 V A6 A6 ⟨ol (wJ W2),fun h=>absurd h AH⟩ ?_;intro fr J;have X:=Lib.hid J
 have e2:fr.tmps.getD 2 undef=I5 cb:=by rw [J];rfl
 have e3:fr.tmps.getD 3 undef= .pointer (some ⟨W.heap.size,0,none⟩):=by rw [J];rfl
 have e4:fr.tmps.getD 4 undef= .pointer (some ⟨W.heap.size+1,0,none⟩):=by rw [J];rfl
 clear J;apply Gl.wpLin_keep
 · intro j G g K m
   have I:=IU g.1 hA;have c0:=Cn (i:=0) I rfl
   have c1:=Cn (i:=1) I rfl;have c2:=Cn (i:=2) I rfl
   have c3:=Cn (i:=3) I rfl;have c4:=Cn (i:=4) I rfl
   go_simp
   exact m _ g
 apply Gl.wpLin_keep
 · intro j G g K m
   have c0:=Cn (i:=0) (IU g.1 hC) rfl
   go_simp
   exact m _ g
 apply Gl.wpLin_move
 · intro G g K m
   go_simp
   exact (JY a (c:Int) A1 _).mono (by
    rintro e U ⟨rfl,q,o,rfl⟩;exact ⟨_,V,m _ ⟨OQ g.1 q #[o],fun h=>absurd h AH⟩⟩)
 apply Gl.wpLin_keep
 · intro j G g K m
   have I:=IU g.1 hB;have c0:=Cn (i:=0) I rfl
   have c1:=Cn (i:=1) I rfl;have c2:=Cn (i:=2) I rfl
   have c3:=Cn (i:=3) I rfl;have c4:=Cn (i:=4) I rfl
   go_simp
   exact m _ g
 apply Gl.wpLin_keep
 · intro j G g K m
   have c0:=Cn (i:=0) (IU g.1 hC) rfl
   go_simp
   exact m _ g
 apply Gl.wpLin_move
 · intro G g K m
   go_simp
   exact (JY b (c:Int) A1 _).mono (by
    rintro e U ⟨rfl,q,o,rfl⟩;exact ⟨_,V,m _ ⟨OQ g.1 q #[o],fun h=>absurd h AH⟩⟩)
 apply Gl.wpLin_move
 · intro G g K m
   go_simp
   exact (Tryz.cmp_Compare_int _ _ _).mono (by
    rintro e U ⟨rfl,rfl⟩;exact ⟨_,V,m _ ⟨g.1,fun h=>absurd h AH⟩⟩)
 apply Gl.wpLin_keep
 · intro j G g K m
   go_simp
   exact m _ g
 apply Gl.wpLin_keep
 · intro j G g K m
   have c1:=Cn (i:=1) (IU g.1 hA) rfl
   go_simp
   exact m _ g
 apply Gl.wpLin_keep
 · intro j G g K m
   go_simp
   exact m _ g
 apply Gl.wpLin_keep
 · intro j G g K m
   have c1:=Cn (i:=1) (IU g.1 hB) rfl
   go_simp
   exact m _ g
 apply Gl.wpLin_move
 · intro G g K m
   go_simp
   exact (Tryz.cmp_Compare_int _ _ _).mono (by
    rintro e U ⟨rfl,rfl⟩;exact ⟨_,V,m _ ⟨g.1,fun h=>absurd h AH⟩⟩)
 apply Gl.wpLin_move (v:= .slice (some ⟨W2.heap.size+2,0,none⟩) 2 2)
 · intro G g K m
   have hz:=oh g.1;change G.heap.size=W2.heap.size+2 at hz
   go_simp
   have h:=m _ ⟨OQ g.1 0 #[.cells #[I4 (Lib.compareInt (Bn a (c:Int)) (Bn b (c:Int))),I4 (Lib.compareInt a.k b.k)] 3 (0,0)],fun _=>?_⟩
   · rw [alloc_eq_grow]
     exact h
   · rw [<-hz]
     exact QS G _
 apply Gl.wpLin_move
 · intro G g K m
   have I:=g.2 AH
   go_simp
   exact (rJ _ _ _ _ (Cn (i:=0) I V) (Cn (i:=1) I V)).mono (by
    rintro e U ⟨rfl,rfl⟩;exact ⟨_,V,m _ ⟨g.1,fun _=>I⟩⟩)
 apply Gl.wpLin_keep
 · intro j G g K m
   go_simp
   exact m _ g
 apply Gl.wpLin_done;intro wz hz;rw [X.out];simp only [Gl.putE,Gl.putsE,Act.put,nF,List.set_cons_zero,List.set_cons_succ];obtain ⟨⟨q,os,-,rfl⟩,-⟩:=hz;clear X
 go_wp2
 go_ret
 obtain ⟨q',O,-,h⟩:=OQ Z q os;exact ⟨V,q',O,h⟩
end Go.Proofs.YtfhjaegddfehhaaGreatDoor
namespace Go.Proofs.YtfhjaegddfehhaaGreatDoor
open Go.Proofs.Tryz
open Go Go.RowKit Gw
set_option maxRecDepth 100000
attribute [local irreducible] Gw.At Gw.Nx Gw.Ops
open Go.Sort Go.Shelf
instance:Inhabited AV:=⟨⟨0,0,⟨0,0,0⟩⟩⟩
def U1(r:AV):List Value:=[I4 r.t,I4 r.k,I4 r.v.a,I4 r.v.b,I4 r.v.c]
theorem ltR(c:Nat)(a b:AV):ltOf (nW c) a b=decide (Bn a (c:Int)<Bn b (c:Int)\/Bn a (c:Int)=Bn b (c:Int)/\a.k<b.k):=by
 unfold ltOf nW orL Lib.compareInt;have g:=Int.lt_trichotomy (Bn a (c:Int)) (Bn b (c:Int))
 have h2:=Int.lt_trichotomy a.k b.k;generalize Bn a (c:Int)=x at*;generalize Bn b (c:Int)=y at*;apply decide_eq_decide.2;split<;>split<;>(try split)<;>(try split)<;>omega
theorem vA(c:Nat):SWO (ltOf (nW c))where
 irrefl x:=by rw [ltR];simp
 trans x y z h1 h2:=by rw [ltR]at*;simp only [Fl]at*;omega
 ntrans x y z h1 h2:=by rw [ltR]at*;simp only [Mu]at*;omega
theorem wL:vH:=by
 intro I c w o s hc hn gB;obtain ⟨ic,⟨rfl,h0,rfl⟩|⟨g,cap,cur,z,rfl,rfl,gm,cO,U,gF,bg⟩⟩:=gB
 · intro u R X O
   have ho:o=[]:=Lw h0;subst ho;have hN:=AnyF.slices_SortFunc_none Tryz.sortRow none 0 (.func (.func 191) #[] #[I5 I]) X
   exact hN.mono (by
    rintro e w' ⟨rfl,rfl⟩;exact .inl ⟨_,_,V,⟨V,[],[],.refl _,.nil,Bf _ _,V⟩,O⟩)
 · intro u R X O
   have hb:=O.get (g,.cells cur 71 z) B0;have cu:=O.get (I,.cells #[I4 (c:Int)] 3 (0,0)) B0
   have gy:g≠I:=by
    have:=O.nodup;simp at this;exact this.1.1
   have hH:=Te (w:=X) (g:=g) (cur:=cur) (e:=71) (z:=z) U1 5 (fun _=>rfl) o hb (by rw [U];omega) bg gF;have eg:∀(args:Array Value) (w:World),(callFunc 191 args).run prog w= .ok (.enter 191 args) w:=enters_of func191 A6 rfl
   have af:CmpLays prog 191 #[I5 I] U1 5 (nW c) g 0 o.toArray.size X:=by
    intro m os dk j3 x y;refine nV x y c hc I _ ?_;have gq:=O.lt (p:=(I,.cells #[I4 (c:Int)] 3 (0,0))) B0
    rw [Pk U1 5 X g m I dk os gy gq];exact cu
   have ax:=AnyQ.slices_SortFunc Tryz.sortRow 5 CI AW U1 (fun _=>rfl) (fun x v hv=>by simp [U1]at hv;rcases hv with rfl|rfl|rfl|rfl|rfl<;>rfl) (nW c) (vA c) 191 #[I5 I] g 0 cap o.toArray X eg af hH (O.lt (p:=(g,.cells cur 71 z)) B0) Hh;refine ax.mono ?_;rintro e w' ⟨rfl,G,n,os,⟨d9,-,hpm⟩,hso,rfl⟩;have J:G.size=o.length:=by simpa using d9
   have hF:(flatK U1 5 G).toList=Ae G.toList:=Ny U1 5 (fun _=>rfl) G.toList;have Z:(flatK U1 5 G).size=o.length*5:=by rw [size_flatK,J]
   have K:G.toList.Perm o:=by
    have e1:G.extract 0 o.toArray.size=G:=by
     rw [show o.toArray.size=G.size by rw [J];simp];exact Array.extract_size
    rw [e1]at hpm;simpa using hpm
   have bn:G.toList.length=o.length:=K.length_eq;refine .inl ⟨_,[[(g,.cells (putCells id 0 (flatK U1 5 G) cur) 71 z)],[(I,.cells #[I4 (c:Int)] 3 (0,0))]],V,⟨V,_,G.toList,K,?_,?_,V⟩,O.sortedK U1 G os⟩
   · rw [eL]
     intro i j hi hj ek;have h:=hso i j (C0 _) ek Hh
     rw [ltR]at h;simp only [Mu]at h;rw [getElem!_pos G i (by simpa using hi),getElem!_pos G j (by simpa using hj)]at h;rw [LW _ c hc,LW _ c hc]at h;unfold leV;simp only [Array.getElem_toList];omega
   · rw [bn]
     refine ⟨by rw [BF,bn],.inr ⟨g,cap,_,z,rfl,rfl,gm,cO,by rw [Me];exact U,?_,by rw [Me];exact bg⟩⟩;have h:=VN cur (flatK U1 5 G) (by rw [Z,U];omega)
     rw [Z,hF]at h;exact h
end Go.Proofs.YtfhjaegddfehhaaGreatDoor
namespace Go.Proofs.YtfhjaegddfehhaaGreatDoor
open Go.Proofs.Tryz
open Go Go.RowKit Gw
set_option maxRecDepth 100000
attribute [local irreducible] Gw.At Gw.Nx Gw.Ops
theorem Vt(c:Nat)(out:List AV)(x:AV):∃A B,out=A++B/\ZV c out x=A++[x]++B/\(∀r∈B,Di x c<Di r c)/\(A=[]\/∃m r,A=m++[r]/\Di r c<=Di x c):=by
 let q:AV->Bool:=fun r=>decide (Di x c<Di r c)
 have e:out=(out.reverse.dropWhile q).reverse++(out.reverse.takeWhile q).reverse:=by
  rw [<-oA,List.takeWhile_append_dropWhile,List.reverse_reverse]
 have G:dW c out (Di x c)=(out.reverse.dropWhile q).reverse.length:=by
  rw [kq];rfl
 refine ⟨(out.reverse.dropWhile q).reverse,(out.reverse.takeWhile q).reverse,e,?_,?_,?_⟩
 · unfold ZV
   rw [G];generalize (out.reverse.dropWhile q).reverse=A at*;generalize (out.reverse.takeWhile q).reverse=B at*;subst e;rw [HM,W3];all_goals rfl
 · intro r g
   rw [ee]at g;have:=List.all_takeWhile (p:=q) (l:=out.reverse)
   rw [N0]at this;simpa [q]using this r g
 · cases h:out.reverse.dropWhile q with
   |nil=>left;rfl
   |cons r l=>
    right;refine ⟨l.reverse,r,by simp,?_⟩;have:=List.head?_dropWhile_not q out.reverse
    rw [h]at this;simpa [q]using this
theorem Vs(c:Nat)(out:List AV)(x:AV):(ZV c out x).Perm (x::out):=by
 obtain ⟨A,B,e1,e2,_,_⟩:=Vt c out x;rw [e2,e1,Cd];exact Rg
theorem Tk(c:Nat):∀(l out:List AV),(l.foldl (ZV c) out).Perm (out++l)
 |[],out=>by simp
 |x::l,out=>by
  rw [Tl];refine (Tk c l _).trans ?_;refine ((Vs c out x).append_right l).trans ?_;exact Rg.symm
variable{c:Nat}{x:AV}
theorem ZU{out:List AV}(h:out.Pairwise (leV c))(K:∀r∈out,r.k<x.k):(ZV c out x).Pairwise (leV c):=by
 obtain ⟨A,B,e1,e2,X,U⟩:=Vt c out x;rw [e2];rw [e1]at h K;rw [P2]at h;obtain ⟨G,h2,O⟩:=h;have I:∀r∈A,Di r c<=Di x c:=by
  rcases U with rfl|⟨A',r0,rfl,h0⟩
  · intro r g;simp at g
  · intro r g
    rcases B9.1 g with hr'|hr'
    · rw [P2]at G
      have:=G.2.2 r hr' r0 B0;unfold leV at this;omega
    · rw [BT]at hr'
      subst hr';exact h0
 rw [Cd,P2];refine ⟨G,?_,?_⟩
 · rw [Mz,PC]
   exact ⟨fun r g=> .inl (X r g),h2⟩
 · intro a J b m
   rw [Mz,D4]at m;rcases m with rfl|m
   · have Z:=I a J
     have h5:=K a (Dg _ J);unfold leV;omega
   · exact O a J b m
theorem PK(c:Nat):∀(l out:List AV),out.Pairwise (leV c)->l.Pairwise (fun a b=>a.k<b.k)->(∀r∈out,∀x∈l,r.k<x.k)->(l.foldl (ZV c) out).Pairwise (leV c)
 |[],out,h,_,_=>h
 |x::l,out,h,h2,h3=>by
  rw [Tl];rw [PC]at h2;refine PK c l _ (ZU h fun r g=>h3 r g x B0) h2.2 ?_;intro r g y hy;have:=(Vs c out x).mem_iff.1 g
  rcases D4.1 this with rfl|hm
  · exact h2.1 y hy
  · exact h3 r hm y (by simp [hy])
variable{rs:List AV}{t:Int}{f:AV->Bool}
theorem QF(K:BQ rs)(m:∀r,f r=true->r.t=t):(rs.filter f).Pairwise (fun a b=>a.k<b.k):=by
 have G:(rs.filter f).Pairwise (fun a b=>a.lt2 b.t b.k):=K.filter f;refine G.imp_of_mem ?_;intro a b I J g;have h2:=m a (FA.1 I).2
 have O:=m b (FA.1 J).2;unfold AV.lt2 at g;omega
theorem sZ{l:List AV}(h:l.Pairwise (fun a b=>a.k<b.k)):∀a∈l,∀b∈l,a.k=b.k->a=b:=by
 induction l with
 |nil=>intro a g;simp at g
 |cons x l ih=>
  rw [PC]at h;intro a g b m e;rcases D4.1 g with ea|ha'<;>rcases D4.1 m with eb|hb'
  · rw [ea,eb]
  · have:=h.1 b hb';rw [ea]at e;omega
  · have:=h.1 a ha';rw [eb]at e;omega
  · exact ih h.2 a ha' b hb' e
variable{r:AV}
theorem jN{lo hi:Int}(h:inR t c lo hi r=true):r.t=t:=(Hb h).1
theorem ER(rs:List AV)(t:Int)(c:Nat)(lo hi:Int):(Dt rs t c lo hi).Perm (rs.filter (inR t c lo hi)):=by
 have:=Tk c (rs.filter (inR t c lo hi)) [];rw [LN]at this;exact this
theorem Eo(m:BQ rs)(t:Int)(c:Nat)(lo hi:Int):(Dt rs t c lo hi).Pairwise (leV c):=
 PK c _ [] .nil (QF m fun r h=>jN h) (by intro r g;simp at g)
theorem Rv(U:BQ rs)(K:∀r,f r=true->r.t=t){a b:List AV}(G:a.Perm (rs.filter f))(I:b.Perm (rs.filter f))(J:a.Pairwise (leV c))(h2:b.Pairwise (leV c)):a=b:=by
 have O:=QF U K;refine (G.trans I.symm).eq_of_pairwise ?_ J h2;intro x y hx hy g m;refine sZ O x (G.mem_iff.1 hx) y (I.mem_iff.1 hy) ?_;unfold leV at g m;omega
theorem VM(g:BQ rs){lo hi:Int}{o:List AV}(m:o.Perm (rs.filter (inR t c lo hi)))(h2:o.Pairwise (leV c)):o=Dt rs t c lo hi:=
 Rv g (fun r h=>jN h) m (ER rs t c lo hi) h2 (Eo g t c lo hi)
def inT(t:Int)(r:AV):Bool:=decide (r.t=t)
def IR(rs:List AV)(t:Int):List AV:=rs.filter (inT t)
def RH(v:Value)(p:Int)(rs:List AV)(s:List AA):Prop:=∃sp mb es ck lm,v=I5 sp/\Co K2 es ck lm/\H7 lm rs/\BQ rs/\rs.length<=2000/\s=[(sp,.cells #[.map (some mb),I4 p] 232 (0,0)),(mb,.map es ck)]
theorem kC(m mb:Nat)(p:Int)(es:Array MapEntry)(ck:Nat)(lm:List ((Int×Int)×Value))(rs:List AV)(hm:Co K2 es ck lm)(hR:H7 lm rs)(O:BQ rs)(hn:rs.length<=2000)(t:Int)(c:Nat)(lo hi:Int)(hc:c<=3):
 Ba prog 85 #[I5 m,I4 t,I4 (c:Int),I4 lo,I4 hi] [[(m,.cells #[.map (some mb),I4 p] 232 (0,0))],[(mb,.map es ck)]] (fun r H'=>∃g,Bc 5 71 r (Dt rs t c lo hi).length (Ae (Dt rs t c lo hi)) g/\H'=[g,[(m,.cells #[.map (some mb),I4 p] 232 (0,0))],[(mb,.map es ck)]]):=by
 refine Se func85 ntmps85 [0,1,2,3,4] ?_;intro u R;refine A0<|Ze (Bx #[_])<|AE fun X=>Ze (Bx #[_])<|AE fun U=>Ze (Bx #[_])<|AE fun Z=>Ze (Bx #[_])<|AE fun b4=>A3 Y<|Zq<|A0<|Zl AD Y ?_;refine Zv (Au (n:=0) Y Y)<|Zm Y<|Aj (t:=13) Y V (fun K=>?_) (fun K=>?_);·
  exfalso;(cases K;done)
 refine Yl AD Y ?_;refine Yg (G6 (n:=4) Y Y)<|Zv (AL Y Y)<|A5<|Aq Y (fun h2=>by omega)<|fun h2=>AC<|Zx<|A0<|Zm Y<|Zl AD Y ?_;refine Zv (Bg (vs:=[]) (us:=[_,_,_,_]) Y Y)<|Zc [_,_,_] Y call138 Y V (Xh wL m mb p es ck lm rs hm hR O hn t c lo hi hc U X Z b4) ?_;rintro _ _ ⟨_,⟨g,o,J,G,I,rfl⟩,rfl⟩;have e9:=VM O G I
 subst e9;refine AG Y<|Zn [10] ?_;refine Zx<|AJ<|AO V results85 Y (by exact ⟨g,J,V⟩)
theorem YD(v:Value)(p:Int)(rs:List AV)(s:List AA)(hv:RH v p rs s)(t:Int)(c:Nat)(lo hi:Int)(hc:c<=3):Ba prog 85 #[v,I4 t,I4 (c:Int),I4 lo,I4 hi] [s] (fun r H'=>∃g,Bc 5 71 r (Dt rs t c lo hi).length (Ae (Dt rs t c lo hi)) g/\H'=[g,s]):=by
 obtain ⟨K,mb,es,ck,lm,rfl,I,G,J,hn,rfl⟩:=hv;refine Gy (kC K mb p es ck lm rs I G J hn t c lo hi hc) B0 ?_;rintro r H' ⟨g,m,rfl⟩;exact ⟨_,⟨g,m,V⟩,by simp⟩
def Db(M:List AA)(v:Value)(rs:List AV):Prop:=∃p cap,v= .slice p rs.length cap/\(rs.length<=maxLen/\rs.length<=cap)/\∀(i:Nat) (x:AV),rs[i]?=some x->∃g off cur T zz,p=some ⟨g,off,none⟩/\(g,Obj.cells cur T zz)∈M/\off+i*5+5<=cur.size/\cur.extract (off+i*5) (off+i*5+5)=x.A58
variable{v:Value}{s:List AA}
theorem DU{e:TypeId}(h:Bc 5 e v rs.length (Ae rs) s)(hn:rs.length<=maxLen):Db s v rs:=by
 obtain ⟨b,cap,rfl⟩:=h.form;refine ⟨b,cap,V,⟨hn,Ex h⟩,fun i x hx=>?_⟩;obtain ⟨g,G,cur,z,hv,rfl,I,m⟩:=JE h i (BE.1 hx).1;injection hv with hv1 hv2 hv3
 refine ⟨g,0,cur,e,z,hv1,by simp,by omega,?_⟩;unfold Ae at m;rw [IM _ 5 (fun _=>rfl) rs i x hx]at m;rw [D0];exact HD.1 m
variable{M:List AA}
theorem Db.mono{m:List AA}{ls:List AV}(h:Db M v ls)(K:∀c∈M,c∈m):Db m v ls:=by
 obtain ⟨p,cap,e,J,I⟩:=h;refine ⟨p,cap,e,J,fun i s O=>?_⟩;obtain ⟨g,off,cur,T,zz,e1,G,h2⟩:=I i s O;exact ⟨g,off,cur,T,zz,e1,K _ G,h2⟩
theorem Fy(r:AV)(c:Int)(hc:0<=c/\c<=3):BH prog 132 #[.agg r.A58,I4 c] [] (I4 (Bn r c)):=fun u R w g=>
 (JY r c hc w).mono (by
   rintro e m ⟨rfl,q,o,rfl⟩;exact .inl ⟨_,[],V,⟨V,V⟩,S9 g q _⟩)
variable{n:Nat}
theorem PN{cur xs:Array Value}{a:Nat}(h:cur.extract a (a+n)=xs)(m:a+n<=cur.size)(j:Nat)(g:j<n):cur[a+j]?=xs[j]?:=by
 rw [<-h,eM,AM A1]
theorem PQ{p q:Prop} [Decidable p] [Decidable q](h:p↔q):Value.bool (decide p)=Value.bool (decide q):=by rw [decide_eq_decide.2 h]
variable{P:Program}{args:Array Value}
theorem Qq{f:FuncId}(h:BH P f args [] v):BH P f args [M] v:=fun u R w m=>
 Calls.mono (h u ([M]++R) w m) fun e I g=>by
  rcases g with⟨G,H',rfl,⟨rfl,rfl⟩,h2⟩|⟨ch,H',rfl,h1,h2⟩
  · exact .inl ⟨_,[M],rfl,⟨rfl,rfl⟩,h2⟩
  · exact h1.elim
variable{B A:List AA}
theorem aY{f:FuncId}(h:BH P f args [B] v):BH P f args [A++B] v:=fun u R w m=>
 Calls.mono (h u ([A]++R) w (m.perm (by simp only [Ge,CA,FG,DB];rw [<-Cd];exact Ly.append_right _))) fun e I g=>by
  rcases g with⟨G,H',rfl,⟨rfl,rfl⟩,h2⟩|⟨ch,H',rfl,h1,h2⟩
  · refine .inl ⟨_,[A++B],rfl,⟨rfl,rfl⟩,h2.perm ?_⟩
    simp only [Ge,CA,FG,DB];rw [<-Cd];exact Ly.append_right _
  · exact h1.elim
theorem nQ{f:FuncId}(h:BH P f args [A++B] v):BH P f args [A,B] v:=by
 refine Gy h B0 ?_;rintro r H' ⟨rfl,rfl⟩;exact ⟨_,⟨V,V⟩,by simp⟩
variable{α:Type}
theorem Bi{xs:List α}{j:Nat}{x:α}(h:xs[j]?=some x):xs.take (j+1)=xs.take j++[x]:=by rw [PF,h];rfl
variable{k:Nat}
theorem kD(h:rs[k]?=some r):Ae rs=Ae (rs.take k)++(Ae [r]++Ae (rs.drop (k+1))):=by
 rw [<-Bh,<-Bh];congr 1;obtain ⟨g,rfl⟩:=BE.1 h;rw [Mz,<-RK g,Iv]
theorem Lg(h:rs[k]?=some r)(j:Nat)(g:j<5):(Ae rs)[k*5+j]?=(Ae [r])[j]?:=by
 have m:=(BE.1 h).1;have e:(Ae (rs.take k)).length=k*5:=by rw [BF,C3];omega
 rw [kD h,SM A1,cC (by rw [e,BF];simp;omega),e,Nat.add_sub_cancel_left]
theorem YM{p:Option Addr}{cap:Nat}(h:Db M (.slice p n cap) rs):FN M p (Ae rs):=by
 obtain ⟨p',J,e,Z,U⟩:=h;injection e with e1 e2 e3
 subst e1;intro j u K;have G:=(BE.1 K).1
 rw [BF]at G;obtain ⟨x,hx⟩:∃x,rs[j/5]?=some x:=⟨_,B3 A1⟩;obtain ⟨g,off,cur,T,zz,rfl,X,I,m⟩:=U (j/5) x hx;refine ⟨g,off,cur,T,zz,V,X,?_⟩;have O:=PN m I (j%5) A1
 have h2:=Lg hx (j%5) A1;rw [show j/5*5+j%5=j by omega,K]at h2;rw [show off+j=off+j/5*5+j%5 by omega,O,h2,<-HH];rfl
theorem Gj(hv:Db M v rs)(hb:rs.length<=1000000000000):Ba prog 90 #[v] [M] (fun r H'=>∃O,Bc 5 71 r rs.length (Ae rs) O/\H'=[O,M]):=by
 have af:=mL;obtain ⟨p,cap,rfl,⟨hl,Z⟩,X⟩:=id hv;have G:FN M p (Ae rs):=YM hv
 refine Se func90 ntmps90 [0] ?_;intro u R;refine A0<|A3 Y<|Zq<|A0<|Zm Y<|Zv (Dq B5 Y Y)<|A5<|AX Y (fun K=>?_) (fun K=>?_);·
  have I:p=none:=by cases p with
   |none=>rfl
   |some x=>cases K
  have h0:rs=[]:=by
   cases rs with
   |nil=>rfl
   |cons x l=>obtain ⟨g,off,cur,T,zz,J,_⟩:=X 0 x rfl;rw [I]at J;cases J
  refine Zq<|BU<|Zg<|A3 Y<|AJ<|Zt<|AO rfl results90 Y (by exact ⟨[],by rw [h0];exact Bf 5 _,rfl⟩)
 refine AC<|Zx<|A0<|Ze (EP B5 AW)<|AE fun U=>Zm Y<|Ze (Hl (by_:=40) (sz:=5) B5 (V:Tryz.prog.info? 71=some Tryz.t71) V rfl V rfl Y (IW 5 71 U 0 [] V AH) Y (G) (by exact BF _) AH Wo Wo (by exact CV _) A1 A1) ?_;rintro _ _ ⟨ax,m,rfl⟩;replace m:=BS m (D0 _) (LN _);refine A3 Y<|AJ<|AO V results90 Y (by exact ⟨_,m,V⟩)
theorem RN{a b:List α}(g:a.length=b.length)(h:∀j,j<a.length->a[j]?=b[j]?):a=b:=by
 apply MT;intro i;rcases E0 i a.length with h9|h9
 · exact h i h9
 · rw [Lz h9,Lz A1]
theorem EX [DecidableEq α]{a b:α}(h:¬a=b):Value.bool false=Value.bool (decide (a=b)):=congrArg Value.bool (CN h).symm
theorem Tz [DecidableEq α]{a b:α}(h:a=b):Value.bool true=Value.bool (decide (a=b)):=congrArg Value.bool (Cp h).symm
theorem Wz{a b:AV}:UE a.t b.t a.k b.k a.v b.v↔a=b:=by
 obtain ⟨t,k,v⟩:=a;obtain ⟨t2,g,m⟩:=b;simp [UE]
def RA(pd:AV->Bool)(rows:List AV):Int:=(rows.findIdx? pd).elim (-1) fun i=>(i:Int)
variable{rows:List AV}{i:Nat}
theorem tO{g:AV->Bool}(h:∀(j:Nat) (y:AV),j<i->rows[j]?=some y->g y=false)(hx:rows[i]?=some x)(G:g x=true):RA g rows=(i:Int):=by
 obtain ⟨hi,rfl⟩:=BE.1 hx;unfold RA;rw [XS.2 ⟨hi,G,fun j m=>by simp [h j _ m (B3 A1)]⟩];rfl
theorem tQ{m:AV->Bool}(h:∀(j:Nat) (y:AV),j<rows.length->rows[j]?=some y->m y=false):RA m rows=-1:=by
 unfold RA;rw [cT.2 fun y hy=>by
  obtain ⟨j,g⟩:=GW hy;exact h j y (BE.1 g).1 g]
 rfl
theorem mR(g:AV->Bool)(rows:List AV):(RA g rows=-1/\∀y∈rows,g y=false)\/∃(i:Nat) (x:AV),RA g rows=(i:Int)/\rows[i]?=some x/\g x=true/\∀(j:Nat) (y:AV),j<i->rows[j]?=some y->g y=false:=by
 unfold RA;cases h:rows.findIdx? g with
 |none=>exact .inl ⟨rfl,cT.1 h⟩
 |some i=>
  obtain ⟨m,h2,G⟩:=XS.1 h;refine .inr ⟨i,_,V,B3 m,h2,fun j y I hy=>?_⟩;obtain ⟨J,rfl⟩:=BE.1 hy;simpa using G j I
theorem qR(g:k<rs.length)(x:AV):(Ae rs).take (k*5)++Ae [x]++(Ae rs).drop (k*5+(Ae [x]).length)=Ae (rs.set k x):=by
 rw [show k*5+(Ae [x]).length=(k+1)*5 by rw [BF];simp;omega,EE,Dj,<-Bh,<-Bh,kO,AM g];simp
theorem aO{cur:Array Value}(g:C8 cur 0 (Ae rs))(hx:rs[k]?=some x):k*5+5<=cur.size/\cur.extract (0+k*5) (0+k*5+5)=(Ae [x]).toArray:=by
 have U:=(BE.1 hx).1;have O:k*5+5<=cur.size:=by
  have J:=Lg hx 4 AH;have K:=g.get (k*5+4) _ (J.trans AN)
  have:=(HS.1 K).1;omega
 refine ⟨O,?_⟩;apply HD.1;apply MT;intro j;rw [HH,eM];split
 · rename_i hj
   have m:j<5:=by omega
   have G:=Lg hx j m;obtain ⟨u,I⟩:∃u,(Ae [x])[j]?=some u:=⟨_,B3 (by rw [BF];simpa using m)⟩;rw [I]at G;have h2:=g.get _ _ G
   rw [D0]at h2;rw [D0,h2];exact I.symm
 · rw [Lz]
   show(Ae [x]).length<=j;rw [BF];simp only [E3];omega
theorem YG{xs:List α}(hi:i<xs.length)(x:α):(xs.set i x).take (i+1)=xs.take i++[x]:=by
 rw [kO,AM hi,List.take_append,C3,Pc A1];rw [I2 (by rw [C3];omega),show i+1 -i=1 by omega];simp
theorem MF{j:Nat}(f:AV->Bool)(hx:rows[j]?=some x):(rows.take (j+1)).filter f=(rows.take j).filter f++(if f x then [x]else []):=by
 rw [Bi hx,Hi];congr 1;rw [cH,ln]
theorem O0(h:∀(j:Nat) (y:AV),rows[j]?=some y->f y=true):rows.filter f=rows:=kl.2 fun y hy=>by
 obtain ⟨j,g⟩:=GW hy;exact h j y g
theorem Tc(hv:Db A v rows)(G:Nat)(us:List Value)(Z:AV->Bool)(U:∀(args:Array Value) (w:World),(callFunc G args).run prog w= .ok (.enter G args) w)(hf:∀x:AV,BH prog G (.agg x.A58::us).toArray [B] (.bool (Z x))):BH prog 130 #[v,.func (.func G) #[] us.toArray] [A,B] (I4 (RA Z rows)):=by
 have bg:=mL;obtain ⟨p,cap,rfl,⟨hl,ax⟩,hg⟩:=id hv;refine Se func130 ntmps130 [0,1] ?_;intro u R;refine A0<|A3 Y<|Zq<|A0<|Zm Y<|Zv (AY B5 Y)<|Zm Y<|A5<|AR<|Zb [8,0,1,7] ?_;refine BA (e0:=[(8,_)]) (fun m e H=>∃(i:Nat),m=rows.length -i/\(i<=rows.length/\∀(j:Nat) (y:AV),j<i->rows[j]?=some y->Z y=false)/\e=[(8,I4 (i:Int))]/\H=[]) (by exact ⟨0,V,⟨C0 _,fun j y h=>by omega⟩,V,V⟩) Wp ?_;rintro _ _ _ ⟨i,rfl,⟨hi,I⟩,rfl,rfl⟩;refine A0<|Zv (Au Y Y)<|A5<|Zq<|Aq Y (fun O=>?_) (fun O=>?_);·
  obtain ⟨x,hx⟩:∃x,rows[i]?=some x:=⟨_,B3 O⟩;obtain ⟨g,off,cur,T,zz,rfl,X,af,K⟩:=hg i x hx;refine AC<|Zx<|Zq<|AR<|A0<|Zm Y<|A3 Y<|A0<|Zm Y<|Zm Y<|Zm Y<|Bb (Ac B5 AW Y Y A1)<|CS (cs:=[(g,.cells cur T zz)]) (by simp [X]) (A9 (cs:=x.A58) CI AW Y A1 K) V rfl<|Xr [_] Y (U) Y V (hf x)<|A5<|AX Y (fun J=>?_) (fun J=>?_);·
   refine A0<|Zm Y<|A3 Y<|AJ<|Ad<|Zt<|Zt<|Ad<|Zt<|AO V fj Y (by exact ⟨congrArg (Value.int .i64) (tO I hx J).symm,V⟩)
  refine AC<|A8<|Zx<|Zg<|Ya (n:=1) Y Y<|Zm Y<|Z0<|Zn [8,0,1,7] ?_;refine Ab (e':=[(8,_)]) (by exact ⟨i+1,rfl,⟨by omega,fun j y h1 h2=>by rcases E0 j i with h9|h9;exact I j y h9 h2;obtain rfl:j=i:=A1;rw [hx]at h2;injection h2 with h2;subst h2;exact J⟩,rfl,rfl⟩)
 have ei:i=rows.length:=by omega
 subst ei;refine Ay<|Zt<|Zt<|AU<|Zx<|A0<|A3 Y<|AJ<|AO V fj Y (by exact ⟨congrArg (Value.int .i64) (tQ I).symm,V⟩)
set_option maxHeartbeats 1000000 in
theorem ae(G:Bc 5 71 v rows.length (Ae rows) s)(hn:rows.length<=1000000000)(J:Nat)(us:List Value)(U:AV->Bool)(bg:∀(args:Array Value) (w:World),(callFunc J args).run prog w= .ok (.enter J args) w)(hf:∀x:AV,BH prog J (.agg x.A58::us).toArray [B] (.bool (U x))):Ba prog 278 #[v,.func (.func J) #[] us.toArray] [s,B] (fun r H'=>∃s',Bc 5 71 r (rows.filter fun x=>!U x).length (Ae (rows.filter fun x=>!U x)) s'/\H'=[s',B]):=by
 have l9:=mL;obtain ⟨p,cap,rfl⟩:=G.form;have hU:=DU G A1
 refine Se func278 ntmps278 [0,1] ?_;intro u R;refine A0<|A3 Y<|A0<|Zm Y<|Zm Y<|Xr [_,_] Y call130 Y V (Tc hU J us U bg hf) ?_;rcases mR U rows with⟨e9,X⟩|⟨k,x0,e9,hx0,hp0,hno⟩
 ·
  rw [e9];refine A3 Y<|Zq<|A0<|Zm Y<|Zv (CP Y Y)<|A5<|Aq Y (fun h1=>?_) (fun h1=>?_);·
   refine A0<|Zm Y<|A3 Y<|AJ<|Zt<|AO rfl results278 Y (by exact ⟨_,BS G (congrArg List.length (O0 fun j y hy=>by rw [X y (DE hy)];rfl).symm) (congrArg Ae (O0 fun j y hy=>by rw [X y (DE hy)];rfl).symm),rfl⟩)
  exact absurd V h1
 rw [e9];have l8:=(BE.1 hx0).1
 obtain ⟨g,gB,cur,z,gy,rfl,j3,ic⟩:=E8 G A1;injection gy with hv1 hv2 hv3
 subst hv1 hv3;refine A3 Y<|Zq<|A0<|Zm Y<|Zv (CP Y Y)<|A5<|Aq Y (fun h2=>by omega)<|fun h2=>AC<|Zx<|Zq<|A0<|Zm Y<|Ya (n:=1) Y Y<|A3 Y<|AR<|Zb [5,6,0,1] ?_;refine BA (e0:=[(5,_),(6,_)]) (fun m e H=>∃(i j:Nat) (W:List AV) (cur:Array Value),m=rows.length -j/\((i<j/\j<=rows.length)/\W.length=rows.length/\Bc 5 71 (I6 g rows.length cap) rows.length (Ae W) [(g,.cells cur 71 z)]/\W.take i=(rows.take j).filter (fun x=>!U x)/\∀t,j<=t->W[t]?=rows[t]?)/\e=[(5,I4 (i:Int)),(6,I4 (j:Int))]/\H=[[(g,.cells cur 71 z)]]) (by exact ⟨k,k+1,rows,cur,rfl,⟨⟨by omega,by omega⟩,rfl,G,by rw [MF _ hx0,hp0];simp only [S3,MA,HF,DB];exact (O0 (fun j y hy=>by rw [HC]at hy;split at hy;rw [hno j y eJ hy];rfl;cases hy)).symm,fun t _=>rfl⟩,rfl,rfl⟩) Wp ?_;rintro _ _ _ ⟨i,j,W,cur,rfl,⟨l5,ax,O,K,af⟩,rfl,rfl⟩;obtain ⟨cO,bn,j5,gF,Z⟩:=Jc O;refine Zq<|A0<|Zm Y<|Zm Y<|Zv (AY B5 Y)<|Zv (Au Y Y)<|A5<|Aq Y (fun d9=>?_) (fun d9=>?_);·
  obtain ⟨x,hx⟩:∃x,rows[j]?=some x:=⟨_,B3 d9⟩;obtain ⟨kv,cu⟩:=aO cO ((af j (CM _)).trans hx);refine AC<|Zx<|Zq<|AR<|A0<|Zm Y<|Zm Y<|Bb (Ac B5 AW Y Y A1)<|Zo Wh (A9 (cs:=x.A58) CI AW Y A1 cu)<|Ze (Al DS #[_,_,_,_,_])<|AE fun bx=>Xe (Xw AW x.A58)<|A5<|A0<|Zm Y<|Zo Wh (A9 (cs:=#[_,_,_,_,_]) CI AW Y As AN)<|Xr [_] Y (bg) Y V (hf x)<|Zv (Br Y)<|Z0<|Zn [0,1,5,6,7,29] ?_;refine Zx<|AX Y (fun I=>?_) (fun I=>?_);·
   have I:U x=false:=by simpa using I
   have ek:=BS (xs':=Ae (W.set i x)) (ES (i:=0+i*5) (ys:=Ae [x]) O (by rw [BF,BF,E3];omega)) rfl (by rw [D0];exact qR A1 x);refine A0<|Zm Y<|Zm Y<|Zo Wh (A9 (cs:=#[_,_,_,_,_]) CI AW Y As AN)<|Bb (Ac B5 AW Y Y A1)<|Xe (BL AW Y Y HK Wu (by exact (rfl:_=EL cur (0+i*5) (Ae [x]))) E6 A1 Z)<|A5<|Zg<|Zm Y<|Ya (n:=1) Y Y<|AG Y<|A8<|Zx<|Zg<|Zm Y<|Ya (n:=1) Y Y<|AG Y<|Zn [5,6,0,1] ?_;refine Ab (e':=[(5,_),(6,_)]) (by exact ⟨i+1,j+1,W.set i x,_,rfl,⟨by omega,by rw [cW];exact ax,ek,by rw [YG A1,K,MF _ hx];simp [I],fun t ht=>by rw [List.getElem?_set_ne A1];exact af t A1⟩,rfl,rfl⟩)
  have I:U x=true:=by simpa using I
  refine AC<|A8<|Zx<|Zg<|Zm Y<|Ya (n:=1) Y Y<|AG Y<|Zn [5,6,0,1] ?_;refine Ab (e':=[(5,_),(6,_)]) (by exact ⟨i,j+1,W,cur,rfl,⟨by omega,ax,O,by rw [K,MF _ hx];simp [I],fun t ht=>af t A1⟩,rfl,rfl⟩)
 have ej:j=rows.length:=by omega
 subst ej;rw [GB]at K;have gq:(rows.filter fun x=>!U x).length=i:=by rw [<-K,C3];omega
 refine Ay<|Zt<|Zt<|AU<|Zx<|A0<|Zm Y<|Zm Y<|Bb (C9 B5 AW Y Y A1)<|Ze (OH B5 (V:Tryz.prog.info? 71=some Tryz.t71) V rfl (by simp [Value.cells,Value.oneCell']) Y A1 bn Z Wo) ?_;rintro _ _ rfl;have gm:=VG (ES (i:=i*5) (ys:=(Builtin.zeroCells (Value.agg #[I4 0,I4 0,I4 0,I4 0,I4 0]).cells (rows.length -i)).toList) O (by rw [SU,size_zeroCells,BF];show i*5+(rows.length -i)*5<=_;omega)) i A1
 refine A5<|A0<|Zm Y<|Zm Y<|Bb (Bq B5 AW Y Y A1)<|A3 Y<|AJ<|AO V results278 Y (by
  refine ⟨_,BS gm gq.symm ?_,V⟩;rw [Cd,HM (by rw [C3,BF];omega),EE,K])
theorem tL{A Y D:List Value}(g:A.length=(n+1)*5)(hi:i<=n)(G:Y.length=5)(m:D.length=(n -i)*5):(A.take (0+i*5)++Y++A.drop (0+i*5+Y.length)).take (0+(i+1)*5)++D++(A.take (0+i*5)++Y++A.drop (0+i*5+Y.length)).drop (0+(i+1)*5+D.length)=A.take (i*5)++Y++D:=by
 rw [D0,D0,HM (by rw [B7,C3];omega),SP (by simp only [B7,C3,C2];omega),DB]
theorem mI{A Y D:List Value}(g:A.length=(n+1)*5)(hi:i<=n)(G:Y.length=5)(m:D.length=(n -i)*5):(A.take (0+(i+1)*5)++D++A.drop (0+(i+1)*5+D.length)).take (0+i*5)++Y++(A.take (0+(i+1)*5)++D++A.drop (0+(i+1)*5+D.length)).drop (0+i*5+Y.length)=A.take (i*5)++Y++D:=by
 rw [D0,D0,SP (l:=A) A1,DB,bm (by rw [C3];omega),To,Pc A1,W3 (by rw [C3];omega)]
theorem YL(rows:List AV)(i:Nat)(y:AV):(Ae rows).take (i*5)++Ae [y]++Ae (rows.drop i)=Ae (rows.take i++[y]++rows.drop i):=by
 rw [EE,Bh,Bh]
theorem U5{c:Array Value}(h:C8 c 0 (Ae rows))(i:Nat)(hi:i<=rows.length):C8 c (0+i*5) (Ae (rows.drop i)):=by
 have g:=J5 h (i*5) ((rows.length -i)*5) (by rw [BF];omega);rw [Dj,I2 (by rw [BF,C2];omega)]at g;exact g
theorem gZ{c:Array Value}(h:C8 c 0 (Ae rows))(i:Nat)(hi:i<=rows.length):C8 c 0 (Ae (rows.take i)):=by
 have g:=J5 h 0 (i*5) (by rw [BF];omega);rw [Pr,EE]at g;exact g
theorem XT(rows:List AV)(i:Nat)(hi:i<=rows.length)(y:AV):(rows.take i++[y]++rows.drop i).length=rows.length+1:=by
 simp only [B7,C3,C2,E3];omega
set_option maxHeartbeats 1000000 in
theorem ZR(m:Bc 5 71 v rows.length (Ae rows) s)(hn:rows.length<=1000000000)(i:Nat)(hi:i<=rows.length)(y:AV)(U:Nat):Ba prog 279 #[v,I4 (i:Int),I6 U 1 1] [s,[(U,.cells y.A58 71 (0,0))]] (fun r H'=>∃s' s2,Bc 5 71 r (rows.take i++[y]++rows.drop i).length (Ae (rows.take i++[y]++rows.drop i)) s'/\H'=[s',s2,[(U,.cells y.A58 71 (0,0))]]):=by
 have l8:=mL;obtain ⟨p,cap,rfl⟩:=m.form;have l5:=Ex m
 refine Se func279 ntmps279 [0,1,2] ?_;intro u R;refine A0<|A3 Y<|Zq<|BU<|Zg<|Zm Y<|Zm Y<|Bb (C9 B5 AW Y Y A1)<|A5<|A0<|Zm Y<|Zv (AY B5 Y)<|A3 Y<|Zq<|A0<|Zm Y<|Zv (Cb (n:=0) Y Y)<|A5<|Aq Y (fun h0=>by cases h0)<|fun h0=>AC<|Zx<|A0<|Zm Y<|Zv (AY B5 Y)<|A3 Y<|Zq<|A0<|Zm Y<|Zm Y<|Zv (Cb Y Y)<|Z0<|Zn [0,1,2,7,8,22] ?_;refine Zx<|Aq Y (fun X=>?_) (fun X=>?_);·
  refine A0<|Zm Y<|Zm Y<|Ze (BR (by_:=40) (sz:=5) B5 (V:Tryz.prog.info? 71=some Tryz.t71) V rfl V rfl Y (m) Y (D8 5 U 1 1 71 (0,0) (Ae [y]) V) Wo Wo (by exact CV _) A1 A1) ?_;rintro _ _ ⟨l9,O,rfl⟩;obtain ⟨j3,ic,rfl⟩:=O.form;refine A3 Y<|AJ<|Zt<|AO V results279 Y (by
   have X:i=rows.length:=by omega
   subst X;exact ⟨_,[],BS O (XT rows _ (CM _) y).symm (by rw [GB,ie,DB,Bh]),rfl⟩)
 obtain ⟨g,d9,cur,z,cu,rfl,gF,I⟩:=E8 m A1;injection cu with hv1 hv2 hv3
 subst hv1 hv3;obtain ⟨_,kv,_,j5,af⟩:=Jc m;refine AC<|Zx<|Zq<|A0<|Zm Y<|Zm Y<|Ya Y Y<|Zm Y<|Zv (Qj B5 Y)<|Zv (DF Y Y)<|A5<|Aq Y (fun hg=>?_) (fun hg=>?_);·
  refine A0<|Zm Y<|Zm Y<|Bb (Bq B5 AW Y Y A1)<|Zm Y<|Zm Y<|Ya Y Y<|Zm Y<|Yb Y Y ?_;refine Ze (LC (by_:=40) (sz:=5) (xs:=Ae (rows.take i)) B5 C5 (rfl:Tryz.prog.info? 71=some Tryz.t71) rfl rfl rfl rfl Y Y Wh (gZ I i hi) (by rw [BF,C3];omega) A1 AH A1 A1 A1) ?_;rintro _ _ ⟨s9,J,rfl⟩;rw [show i+(rows.length+1 -i)=rows.length+1 by omega]at J;have G:=J.1
  obtain ⟨g3,cO,ek,z3,rfl,rfl,gB,gy⟩:=E8 J A1;obtain ⟨_,gq,_,gm,K⟩:=Jc J;refine AG Y<|Zn [0,1,2,7,9] ?_;refine Zx<|A0<|Zm Y<|Zm Y ?_
  (refine Bb (Bo B5 AW Y Y ?_ ?_) ?_;(focus (omega));(focus (omega)))
  refine Zm Y<|Xe (JW (cs:=Ae [y]) B5 AW Y Y Wh Wo ((rfl:C8 (y.A58:Array Value) 0 (Ae [y]))) (by rw [BF,E3];omega) (by rw [BF,E3];omega) (K) (CV _)) ?_;refine A5<|Zq<|Az (n:=9) (0::0::0::6::15::0::0::96::255::[]) 256 A6 A6 V<|A2 0 V (AP Y)<|A2 1 V (AP Y)<|A2 2 V (AP Y)<|A2 3 V (EC Y Y A1) ?_
  (refine Dr (D':=31) 4 (Bo B5 AW Y Y ?_ ?_) ?_;(focus (omega));(focus (omega)))
  refine A2 5 V (AP Y)<|A2 6 V (AP Y) ?_
  (refine Dr (D':=255) 7 (Bo B5 AW Y Y ?_ ?_) ?_;(focus (omega));(focus (omega)))
  refine Yw 8 511 rfl (JW (cs:=Ae (rows.drop i)) B5 AW Y Y Wh Wo (U5 I i hi) (by rw [BF,C2];omega) (by rw [BF,C2,GM (by rw [BF,E3];omega)];omega) (by rw [GM (by rw [BF,E3];omega)];exact K) (CV _))<|CT<|Ag<|Zn [9] ?_;refine Zx<|A0<|Zm Y<|A3 Y<|AJ<|Zt<|AO V results279 Y (by
   refine ⟨_,[(g,.cells cur 71 z)],BS (ES (i:=0+(i+1)*5) (ys:=Ae (rows.drop i)) (ES (i:=0+i*5) (ys:=Ae [y]) J (by rw [G,BF,E3];omega)) ?_) (XT rows i hi y).symm ?_,rfl⟩;· simp only [B7,C3,C2,G,BF,E3];omega
   · rw [tL G hi (by rw [BF];rfl) (by rw [BF,C2]),HM (by rw [BF,C3];omega),<-EE,YL])
 refine AC<|Zx<|Zq ?_;obtain ⟨lw,bn,bg⟩:=VF m (rows.length+1) A1 A1;have G:=bg.1
 refine Zg<|Zm Y<|Zm Y<|Zm Y<|Ya Y Y ?_;refine Bb (Bq B5 AW Y Y A1)<|A3 Y<|Zq<|Zq<|ym (s1:=[(U,_)]) (s2:=[(g,_)]) (a:=U) (b:=g) Wo Wo (BT.2 V) (BT.2 V) (fun ax=>?_);refine Zg<|Zm Y<|Zm Y<|Zm Y<|Zm Y<|Ya Y Y ?_
 (refine Bb (Bo B5 AW Y Y ?_ ?_) ?_;(focus (omega));(focus (omega)))
 refine CS (cs:=[(U,.cells y.A58 71 (0,0)),(g,.cells cur 71 z)]) B0 (TC (tR:=4) func307 A6 A6 A6 A6 B5 AW Y ax A1) V rfl ?_;refine Zv (Br Y)<|Z0<|Zn [0,1,2,7,8,68] ?_;refine Zx<|AX Y (fun Z=>?_) (fun Z=>?_);·
  refine Zq<|Az (n:=9) (0::0::0::6::15::0::0::96::255::[]) 256 A6 A6 V<|A2 0 V (AP Y)<|A2 1 V (AP Y)<|A2 2 V (AP Y)<|A2 3 V (EC Y Y A1) ?_
  (refine Dr (D':=31) 4 (Bo B5 AW Y Y ?_ ?_) ?_;(focus (omega));(focus (omega)))
  refine A2 5 V (AP Y)<|A2 6 V (AP Y) ?_
  (refine Dr (D':=255) 7 (Bo B5 AW Y Y ?_ ?_) ?_;(focus (omega));(focus (omega)))
  refine Yw 8 511 rfl (JW (cs:=Ae (rows.drop i)) B5 AW Y Y Wh Wo (U5 I i hi) (by rw [BF,C2];omega) (by rw [BF,C2];omega) (af) (CV _))<|CT<|Ag<|Zx<|A0<|Zm Y<|Zm Y ?_
  (refine Bb (Bo B5 AW Y Y ?_ ?_) ?_;(focus (omega));(focus (omega)))
  refine Zm Y<|Xe (JW (cs:=Ae [y]) B5 AW Y Y Wh Wo ((rfl:C8 (y.A58:Array Value) 0 (Ae [y]))) (by rw [BF,E3];omega) (by rw [BF,E3,GM (by rw [BF,C2];omega)];omega) (by rw [GM (by rw [BF,C2];omega)];exact af) (CV _)) ?_;refine Z0<|Zn [0] ?_;refine Zx<|A0<|Zm Y<|A3 Y<|AJ<|Zt<|AO V results279 Y (by
   refine ⟨_,[],BS (ES (i:=0+i*5) (ys:=Ae [y]) (ES (i:=0+(i+1)*5) (ys:=Ae (rows.drop i)) bg (by rw [G,BF,C2];omega)) ?_) (XT rows i hi y).symm ?_,rfl⟩;· simp only [B7,C3,C2,BF,bn,E3];omega
   · rw [mI G hi (by rw [BF];rfl) (by rw [BF,C2]),bm (by rw [BF];omega),YL])
 cases Z
structure QM where
 kd:Int
 tb:Int
 cl:Int
 lo:Int
 hi:Int
 bq:Int
 ot:Int
deriving DecidableEq
abbrev QM.G4(q:QM)(c:Chg)(x y:Option Go.Addr)(o n:Int):Array Go.Value:=#[I4 q.kd,I4 q.tb,I4 q.cl,I4 q.lo,I4 q.hi,I4 q.bq,I4 q.ot,I4 c.t,I4 c.k,.bool c.had,I4 c.o.a,I4 c.o.b,I4 c.o.c,.bool c.has,I4 c.n.a,I4 c.n.b,I4 c.n.c,.pointer x,.pointer y,I4 o,I4 n]
abbrev QM.A59(c:QM):Array Go.Value:=#[I4 c.kd,I4 c.tb,I4 c.cl,I4 c.lo,I4 c.hi,I4 c.bq,I4 c.ot]
structure CE where
 rows:List AV
 val:Int
 fnd:Bool
deriving DecidableEq
def inQ(q:QM)(r:AV):Bool:=decide (r.t=q.tb/\q.lo<=Bn r q.cl/\Bn r q.cl<=q.hi)
def BJ(q:QM):Prop:=(0<=q.tb/\q.tb<=3)/\(0<=q.cl/\q.cl<=3)/\(-1000000000<=q.lo/\q.lo<=q.hi/\q.hi<=1000000000)/\
 ((q.kd=1/\q.cl=0/\q.lo=q.hi/\(1<=q.lo/\q.lo<=1000000)/\q.bq=0/\q.ot=0)\/((q.kd=2\/q.kd=3)/\q.bq=0/\q.ot=0)\/
  ((q.kd=4\/q.kd=5\/q.kd=6)/\(1<=q.bq/\q.bq<=3)/\q.ot=0)\/(q.kd=7/\(1<=q.bq/\q.bq<=3)/\(0<=q.ot/\q.ot<=3)))
instance(q:QM):Decidable (BJ q):=by unfold BJ;infer_instance
def CE.none:CE:=⟨[],0,false⟩
def LZ(ms:List Int):Int:=ms.foldl (·+·) 0
def EW(lt:Int->Int->Bool)(ms:List Int):CE:=ms.foldl (fun r n=>⟨r.rows,if !r.fnd||lt n r.val then n else r.val,true⟩) CE.none
def Dc(q:QM)(others:List AV)(k:Int):Option AV:=others.find? (fun x=>decide (x.t=q.ot/\x.k=k))
def Io(q:QM)(others:List AV)(r:AV):List AV:=match Dc q others (Bn r q.bq)with
 |some x=>[r,x]
 |none=>[]
def Ip(q:QM)(rows others:List AV):List AV:=rows.flatMap (Io q others)
def Ct(q:QM)(rows:List AV):List Int:=rows.map fun r=>Bn r q.bq
def FQ(q:QM)(rows others:List AV):CE:=
 if q.kd=3 then⟨[],rows.length,false⟩else if q.kd=4 then⟨[],LZ (Ct q rows),false⟩
 else if q.kd=5 then EW (fun a b=>decide (a<b)) (Ct q rows)else if q.kd=6 then EW (fun a b=>decide (b<a)) (Ct q rows)
 else if q.kd=7 then⟨Ip q rows others,0,false⟩else⟨rows,0,false⟩
def CR(rs:List AV)(q:QM):List AV:=Dt rs q.tb q.cl.toNat q.lo q.hi
def Cf(rs:List AV)(q:QM):CE:=FQ q (CR rs q) (IR rs q.ot)
def lK(c:Chg):List AV:=if c.had then [⟨c.t,c.k,c.o⟩]else []
def Hy(q:QM)(b:Bool)(r:AV):Option AV:=if b&&inQ q r then some r else none
def bfQ(q:QM)(c:Chg):Option AV:=Hy q c.had ⟨c.t,c.k,c.o⟩
def afQ(q:QM)(c:Chg):Option AV:=Hy q c.has ⟨c.t,c.k,c.n⟩
def mQ(q:QM):Option AV->Int
 |some r=>Bn r q.bq
 |none=>0
def O9(q:QM)(c:Chg):Bool:=(bfQ q c).isSome||(afQ q c).isSome
def Ub(q:QM)(c:Chg):Bool:=(bfQ q c).isSome !=(afQ q c).isSome
def Cq(q:QM)(c:Chg):Bool:=
 if q.kd=1\/q.kd=2 then O9 q c else if q.kd=3 then Ub q c else if q.kd=4 then decide (mQ q (bfQ q c)≠mQ q (afQ q c))
 else if q.kd=5\/q.kd=6 then Ub q c||decide (mQ q (bfQ q c)≠mQ q (afQ q c))else O9 q c||decide (c.t=q.ot)
theorem Q4{c:Chg}(J:GR rs c):∃A B,rs=A++lK c++B/\EK rs c=A++Nn c++B:=by
 refine ⟨rs.take (E9 rs c.t c.k),(rs.drop (E9 rs c.t c.k)).drop (if c.had then 1 else 0),?_,V⟩;unfold lK;cases hh:c.had with
 |false=>simp
 |true=>
  have m:(Fq rs c.t c.k).2=true:=by rw [J.1,hh]
  obtain ⟨r,X,hi,O,U⟩:=JL m;have hv:=J.2 m
  rw [U]at hv;have e:r=⟨c.t,c.k,c.o⟩:=by
   obtain ⟨t,k,v⟩:=r;obtain ⟨G,I⟩:=hi;simp only at G I hv;subst G I hv;rfl
  rw [e]at O;obtain ⟨K,g⟩:=BE.1 O;simp only [HR,Cd];conv=>lhs;rw [<-Iv (E9 rs c.t c.k) rs,RK K,g]
  rw [Mz,RK K];rfl
variable{q:QM}
theorem yg(h:BJ q)(r:AV):inR q.tb q.cl.toNat q.lo q.hi r=inQ q r:=by
 have hc:=h.2.1;have:=LW r q.cl.toNat A1
 rw [show((q.cl.toNat:Nat):Int)=q.cl by omega]at this;unfold inR inQ;rw [this]
theorem QV(h:BJ q)(rs:List AV):CR rs q=(rs.filter (inQ q)).foldl (ZV q.cl.toNat) []:=by
 unfold CR Dt;rw [i6 fun r _=>yg h r]
theorem Hq(h:BJ q)(rs:List AV):(CR rs q).Perm (rs.filter (inQ q)):=by
 have:=ER rs q.tb q.cl.toNat q.lo q.hi;rwa [i6 fun r _=>yg h r]at this
theorem TJ(q:QM)(c:Chg):(lK c).filter (inQ q)=(bfQ q c).toList:=by
 unfold lK bfQ Hy;cases c.had with
 |false=>rfl
 |true=>simp only [HR,Tr,cH,ln];split<;>rfl
theorem TK(q:QM)(c:Chg):(Nn c).filter (inQ q)=(afQ q c).toList:=by
 unfold Nn afQ Hy;cases c.has with
 |false=>rfl
 |true=>simp only [HR,Tr,cH,ln];split<;>rfl
def Jp:List Int->Int
 |[]=>0
 |x::l=>x+Jp l
theorem Mr(l:List Int):∀a,l.foldl (·+·) a=a+Jp l:=by
 induction l with
 |nil=>intro a;simp [Jp]
 |cons x l ih=>intro a;rw [Tl,ih];simp only [Jp];omega
theorem YA(a b:List Int):Jp (a++b)=Jp a+Jp b:=by
 induction a with
 |nil=>simp [Jp]
 |cons x a ih=>simp only [PJ,Jp,ih];omega
theorem MX{a b:List Int}(h:a.Perm b):Jp a=Jp b:=by
 induction h with
 |nil=>rfl
 |cons x _ ih=>simp only [Jp,ih]
 |swap x y l=>simp only [Jp];omega
 |trans _ _ ih1 ih2=>exact ih1.trans ih2
theorem xx(lt:Int->Int->Bool)(I:∀a b c,lt b a=false->lt c b=false->lt c a=false)(G:∀a,lt a a=false)(g:∀a b,lt a b=true->lt b a=false)(l:List Int):∀(m:Int),∃x,(x=m\/x∈l)/\lt m x=false/\(∀y∈l,lt y x=false)/\l.foldl (fun(r:CE) n=>(⟨r.rows,if !r.fnd||lt n r.val then n else r.val,true⟩:CE)) ⟨[],m,true⟩=⟨[],x,true⟩:=by
 induction l with
 |nil=>intro m;exact ⟨m,.inl rfl,G m,by simp,rfl⟩
 |cons z l ih=>
  intro m;rw [Tl];cases hz:lt z m with
  |true=>
   obtain ⟨x,J,h2,K,O⟩:=ih z;simp only [S3,lx,hz,HR];refine ⟨x,.inr (by rcases J with h|h;rw [h];simp;exact EV _ h),I x z m h2 (g z m hz),fun y hy=>?_,O⟩;rcases D4.1 hy with rfl|hy
   · exact h2
   · exact K y hy
  |false=>
   obtain ⟨x,J,h2,K,O⟩:=ih m;simp only [S3,lx,hz,MA,HF];refine ⟨x,by rcases J with h|h;exact .inl h;exact .inr (EV _ h),h2,fun y hy=>?_,O⟩;rcases D4.1 hy with rfl|hy
   · exact I x m y h2 hz
   · exact K y hy
theorem KO(lt:Int->Int->Bool)(G:∀a b c,lt b a=false->lt c b=false->lt c a=false)(m:∀a,lt a a=false)(g:∀a b,lt a b=true->lt b a=false)(z:Int)(l:List Int):∃x∈z::l,(∀y∈z::l,lt y x=false)/\EW lt (z::l)=⟨[],x,true⟩:=by
 obtain ⟨x,I,h2,J,K⟩:=xx lt G m g l z;refine ⟨x,by rcases I with h|h;rw [h];simp;exact EV _ h,fun y hy=>?_,?_⟩
 · rcases D4.1 hy with rfl|hy
   · exact h2
   · exact J y hy
 · unfold EW
   rw [Tl];exact K
theorem PO(lt:Int->Int->Bool)(I:∀a b c,lt b a=false->lt c b=false->lt c a=false)(m:∀a,lt a a=false)(g:∀a b,lt a b=true->lt b a=false)(J:∀a b,lt a b=false->lt b a=false->a=b){l G:List Int}(h:∀y,y∈l↔y∈G):EW lt l=EW lt G:=by
 match l,G,h with
 |[],[],_=>rfl
 |[],y::G,h=>have:=(h y).2 B0;cases this
 |y::l,[],h=>have:=(h y).1 B0;cases this
 |y::l,y'::G,h=>
  obtain ⟨x,O,U,X⟩:=KO lt I m g y l;obtain ⟨K,Z,b2,b3⟩:=KO lt I m g y' G;rw [X,b3,J x K (b2 x ((h x).1 O)) (U K ((h K).2 Z))]
theorem iO{c:Chg}(g:GR rs c)(h:c.t≠t):IR (EK rs c) t=IR rs t:=by
 obtain ⟨A,B,e1,e2⟩:=Q4 g;have z1:(lK c).filter (inT t)=[]:=by
  unfold lK;split;· simp [inT,h]
  · rfl
 have z2:(Nn c).filter (inT t)=[]:=by
  unfold Nn;split;· simp [inT,h]
  · rfl
 unfold IR;rw [e2];conv=>rhs;rw [e1]
 simp only [Hi,z1,z2,DB]
theorem Rm{o:Option AV}(h:o.isSome=false):o.toList=[]:=by
 cases o with
 |none=>rfl
 |some x=>cases h
theorem uO{c:Chg}(I:BJ q)(Z:GR rs c)(h:Cq q c=false):Cf (EK rs c) q=Cf rs q:=by
 obtain ⟨A,B,e1,e2⟩:=Q4 Z;have U:rs.filter (inQ q)=A.filter (inQ q)++(bfQ q c).toList++B.filter (inQ q):=by
  conv=>lhs;rw [e1]
  rw [Hi,Hi,TJ]
 have X:(EK rs c).filter (inQ q)=A.filter (inQ q)++(afQ q c).toList++B.filter (inQ q):=by
  rw [e2,Hi,Hi,TK]
 have J:=Hq I rs;have K:=Hq I (EK rs c)
 rw [U]at J;rw [X]at K;have same:(bfQ q c).isSome=false->(afQ q c).isSome=false->CR (EK rs c) q=CR rs q:=fun h1 h2=>by
  rw [QV I,QV I,U,X,Rm h1,Rm h2]
 unfold Cq at h;unfold Cf FQ;split at h
 · rename_i hk
   unfold O9 at h;rw [hQ]at h;rw [same h.1 h.2,AK A1,AK A1,AK A1,AK A1,AK A1,AK A1,AK A1,AK A1,AK A1,AK A1]
 · split at h
   · rename_i hk
     rw [AM hk,AM hk];have hl:(CR (EK rs c) q).length=(CR rs q).length:=by
      rw [J.length_eq,K.length_eq];simp only [B7];unfold Ub at h;cases hb:bfQ q c<;>cases g:afQ q c<;>simp [hb,g]at h⊢
     rw [hl]
   · split at h
     · rename_i hk3 hk
       rw [AK hk3,AK hk3,AM hk,AM hk];have hs:LZ (Ct q (CR (EK rs c) q))=LZ (Ct q (CR rs q)):=by
        unfold LZ Ct;rw [Mr,Mr,MX (J.map _),MX (K.map _)];simp only [BW,YA];have O:=aw h
        have key:∀o:Option AV,Jp (o.toList.map fun r=>Bn r q.bq)=mQ q o:=fun o=>by
         cases o with
         |none=>rfl
         |some x=>simp [Jp,mQ]
        rw [key,key];omega
       rw [hs]
     · split at h
       · rename_i hk3 hk4 hk
         rw [hQ]at h;have O:=aw h.2
         have G:=h.1;have m:∀y,y∈Ct q (CR (EK rs c) q)↔y∈Ct q (CR rs q):=fun y=>by
          unfold Ct;rw [(J.map _).mem_iff,(K.map _).mem_iff];unfold Ub at G;cases hb:bfQ q c<;>cases g:afQ q c<;>simp [hb,g]at G⊢
          simp [hb,g,mQ]at O;rw [O]
         rw [AK hk3,AK hk3,AK hk4,AK hk4];rcases hk with hk|hk
         · rw [AM hk,AM hk]
           exact PO _ (by intro a b c;simp;omega) (by intro a;simp) (by intro a b;simp;omega) (by intro a b;simp;omega) m
         · rw [AK (show¬q.kd=5 by omega),AK (show¬q.kd=5 by omega),AM hk,AM hk]
           exact PO _ (by intro a b c;simp;omega) (by intro a;simp) (by intro a b;simp;omega) (by intro a b;simp;omega) m
       · rw [hQ]at h
         have g:=h.1;unfold O9 at g;rw [hQ]at g;rw [same g.1 g.2,iO Z (aw h.2)]
end Go.Proofs.YtfhjaegddfehhaaGreatDoor
