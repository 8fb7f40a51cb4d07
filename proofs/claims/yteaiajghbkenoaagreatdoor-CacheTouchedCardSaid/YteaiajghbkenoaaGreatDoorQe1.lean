/- Records in plain words: a log that can be applied. -/
/- The keys of the store; a map that holds rows. -/
/- The store: New, Apply, At. -/
/- The store: At. -/
/- The value of a column: of the reference of layer 3, of the program. -/
/- The reference of layer 4: Range. -/
/- row.Value, to the world: what the comparator of the sort wants. -/
/- The store: the predicate of Range. -/
/- The store: chosen, over a contract of the sort. -/
/- The store: chosen, called by Range. -/
/-
  The sort with a function lies in the program: laid at rows (printed by the kit, in plain words).
-/
/- The comparator of chosen, to the world. -/
/- What the sort does with it. -/
/- The rows of a range, of a table: one list. -/
/- Rows in memory. -/
/- slices.IndexFunc, DeleteFunc, Insert at rows. -/
/- Queries: their results on a state, and which changes touch them. -/
import Derived.Test.YteaiajghbkenoaaGreatDoorEz
import Derived.Test.YteaiajghbkenoaaGreatDoorLg9
import Derived.Test.YteaiajghbkenoaaGreatDoorEx36
import Derived.WalkKit
import Derived.WalkSpells
import Derived.Sort.Grow
import Derived.Deep.Draws
import Derived.Lib.Hide
import Derived.LoopTactic
import Derived.Test.YteaiajghbkenoaaGreatDoorLg4
import Derived.Shelf.SlSortCmp.WholeK
import Derived.Test.YteaiajghbkenoaaGreatDoorProg
import Derived.Shelf.SlSortCmp.NoneTotal
set_option linter.unusedVariables false
set_option linter.unusedSimpArgs false
namespace Go.Proofs.YteaiajghbkenoaaGreatDoor
open Go.Proofs.Tryz
open Go Go.RowKit Gw
set_option maxRecDepth 100000
attribute [local irreducible] Gw.At Gw.Nx Gw.Ops
structure BU where
 p:Int
 q:Option Addr
 cap:Nat
 cs:List Chg
def Dp(l:List BU):List Value:=l.flatMap (fun r=>[I4 r.p,.slice r.q r.cs.length r.cap])
def EW(M:List A9)(v:Value)(l:List BU):Prop:=∃p cap,v= .slice p l.length cap/\(l.length<=maxLen/\l.length<=cap)/\∀(i:Nat) (r:BU),l[i]?=some r->Ck M (.slice r.q r.cs.length r.cap) r.cs/\∃g off cur T zz,p=some ⟨g,off,none⟩/\(g,Obj.cells cur T zz)∈M/\off+i*2+2<=cur.size/\cur.extract (off+i*2) (off+i*2+2)=#[I4 r.p,.slice r.q r.cs.length r.cap]
def Bd(l:List BU):List AU:=l.foldl (fun rs r=>DL rs r.cs) []
theorem Gc(l:List BU)(r:BU):Bd (l++[r])=DL (Bd l) r.cs:=by unfold Bd;rw [X2];rfl
def F5(l:List BU):Prop:=∀(i:Nat) (r:BU),l[i]?=some r->KN (Bd (l.take i)) (i:Int) r.p r.cs/\r.cs.length<=3
variable{rs:List AU}{cs:List Chg}
theorem gQ{p rp:Int}(G:BP rs)(h:KN rs p rp cs):BP (DL rs cs)/\(DL rs cs).length<=2000:=by
 have m:=U7 h.ok.ord;obtain ⟨g,_⟩:=KF G m h.fit cs.length (CT _);have h2:=Nc G m h.fit cs.length (CT _)
 rw [FF]at g h2;exact ⟨g,by have:=h.size;omega⟩
theorem F5.rows{l:List BU}(h:F5 l):∀i,i<=l.length->BP (Bd (l.take i))/\(Bd (l.take i)).length<=2000
 |0,_=>⟨List.Pairwise.nil,C0 _⟩
 |i+1,hi=>by
  obtain ⟨r,g⟩:∃r,l[i]?=some r:=⟨_,B4 A1⟩;have m:=F5.rows h i A1
  rw [P0,g];show BP (Bd (l.take i++[r]))/\_
  rw [show(some r).toList=[r] from rfl,Gc];exact gQ m.1 (h i r g).1
theorem F5.all{l:List BU}(h:F5 l):BP (Bd l)/\(Bd l).length<=2000:=by
 have:=h.rows l.length (CT _);rwa [FF]at this
theorem F5.snoc{l:List BU}(h:F5 l){r:BU}(I:KN (Bd l) (l.length:Int) r.p r.cs)(G:r.cs.length<=3):F5 (l++[r]):=by
 intro i x g;rw [mx]at g;split at g
 · rename_i hi
   rw [a6 A1];exact h i x g
 · rename_i hi
   have m:=(BE.1 g).1;simp only [E0]at m;have e:i=l.length:=by omega
   subst e;rw [W1]at g;injection g with g
   subst g;rw [HJ rfl];exact ⟨I,G⟩
theorem G5:∀(cs:List Chg),(Cg cs).length=cs.length*10
 |[]=>rfl
 |c::cs=>by
  have:=G5 cs;unfold Cg at*;rw [HH,B7,this,DE];simp;omega
theorem Iu(a b:List Chg):Cg (a++b)=Cg a++Cg b:=by unfold Cg;rw [OK]
theorem Ua(cs:List Chg)(k:Nat):(Cg cs).take (k*10)=Cg (cs.take k):=by
 rcases EV cs.length k with h|h
 · rw [Hi (by rw [G5];omega),Hi A1]
 · have e:Cg cs=Cg (cs.take k)++Cg (cs.drop k):=by rw [<-Iu,Hx]
   rw [e,HJ (by rw [G5,C2];omega)]
theorem Ub(cs:List Chg)(k:Nat):(Cg cs).drop (k*10)=Cg (cs.drop k):=by
 rcases EV cs.length k with h|h
 · rw [SO (by rw [G5];omega),SO A1];rfl
 · have e:Cg cs=Cg (cs.take k)++Cg (cs.drop k):=by rw [<-Iu,Hx]
   rw [e,W0 (by rw [G5,C2];omega)]
theorem PI(cs:List Chg):∀u∈Cg cs,u.oneCell'=true:=by
 intro u g;unfold Cg at g;obtain ⟨r,_,h⟩:=RT.1 g;simp only [D0,RM,SD]at h;rcases h with rfl|rfl|rfl|rfl|rfl|rfl|rfl|rfl|rfl|rfl<;>rfl
theorem uG{cur:Array Value}{j:Nat}{y:Chg}(h:Bz cur 0 (Cg cs))(J:cs[j]?=some y):cur[j*10]?=some (I4 y.t)/\cur[j*10+1]?=some (I4 y.k):=by
 have m:=Iq (fun c:Chg=>[I4 c.t,I4 c.k,.bool c.had,I4 c.o.a,I4 c.o.b,I4 c.o.c,.bool c.has,I4 c.n.a,I4 c.n.b,I4 c.n.c]) 10 (fun _=>rfl) cs j y J;have e:∀q,((Cg cs).drop (j*10)).take 10=[I4 y.t,I4 y.k,.bool y.had,I4 y.o.a,I4 y.o.b,I4 y.o.c,.bool y.has,I4 y.n.a,I4 y.n.b,I4 y.n.c]->q<10->(Cg cs)[j*10+q]?=([I4 y.t,I4 y.k,.bool y.had,I4 y.o.a,I4 y.o.b,I4 y.o.c,.bool y.has,I4 y.n.a,I4 y.n.b,I4 y.n.c]:List Value)[q]?:=fun q G I=>by
  rw [<-G,H3,AK I,OR]
 have a0:=h.get (j*10+0) _ ((e 0 m A1).trans rfl);have g:=h.get (j*10+1) _ ((e 1 m A1).trans rfl)
 rw [D2]at a0 g;exact ⟨a0,g⟩
variable{v:Value}
theorem Je{M:List A9}(h:Ck M v cs)(s:List A9):Ck (M++s) v cs:=by
 obtain ⟨p,cap,hv,J,I⟩:=h;refine ⟨p,cap,hv,J,fun i c hc=>?_⟩;obtain ⟨g,off,cur,T,zz,m,h2,G⟩:=I i c hc;exact ⟨g,off,cur,T,zz,m,DS _ h2,G⟩
theorem Gt{M:List A9}(h:Ck M v cs)(s:List A9):Ck (s++M) v cs:=by
 obtain ⟨p,cap,hv,J,I⟩:=h;refine ⟨p,cap,hv,J,fun i c hc=>?_⟩;obtain ⟨g,off,cur,T,zz,m,h2,G⟩:=I i c hc;exact ⟨g,off,cur,T,zz,m,G1 _ h2,G⟩
def WC(M:List A9)(v:Value)(xs:List (List Int)):Prop:=∃p cap,v= .slice p xs.length cap/\(xs.length<=maxLen/\xs.length<=cap)/\∀(i:Nat) (z:List Int),xs[i]?=some z->z.length=6/\(∀n∈z,-9223372036854775808<=n/\n<=9223372036854775807)/\∃g off cur T zz,p=some ⟨g,off,none⟩/\(g,Obj.cells cur T zz)∈M/\∀(j:Nat) (n:Int),z[j]?=some n->cur[off+i*6+j]?=some (I4 n)
theorem Jv{l:List BU}{s I:List A9}(h:Bc 2 50 v l.length (Dp l) s)(O:l.length<=maxLen)(K:∀r∈l,Ck I (.slice r.q r.cs.length r.cap) r.cs):EW (s++I) v l:=by
 obtain ⟨b,cap,rfl⟩:=h.form;refine ⟨b,cap,V,⟨O,Es h⟩,fun i r G=>⟨Gt (K r (DG G)) s,?_⟩⟩;obtain ⟨g,J,cur,z,hv,rfl,U,m⟩:=Ju h i (BE.1 G).1;injection hv with hv1 hv2 hv3
 refine ⟨g,0,cur,50,z,hv1,DS _ (BT.2 V),by omega,?_⟩;rw [D2];apply HI.1;rw [m];exact Iq _ 2 (fun _=>rfl) l i r G
theorem KU(a b:List BU):Dp (a++b)=Dp a++Dp b:=by unfold Dp;rw [OK]
theorem yh:Ba prog 31 #[] [] (fun r H'=>∃g,r=I5 g/\H'=[[(g,.cells #[.slice none 0 0,I4 0] 87 (0,0))]]):=by
 refine Se func31 ntmps31 [] ?_;intro u R;refine A0<|A3 Y<|A0<|Zv (BK (vs:=[]) (cs:=#[_,_]) Y (AY (pl:=#[(0,1),(1,1)]) zeroValue87 Hs (fun _=>by kernel_rfl) V))<|Ze (Bx #[_,_])<|AD fun g=>A3 Y<|AJ<|AO V results31 Y (by exact ⟨g,V,V⟩)
def K2(k:Int×Int):Value:= .agg #[I4 k.1,I4 k.2]
def KD(k:Int×Int):Prop:=(Lit.int .i64 k.1).wf=true/\(Lit.int .i64 k.2).wf=true
def SB(r:AU):Value:= .agg r.A16
theorem ui:∀a b,K2 a=K2 b->a=b:=by
 rintro ⟨a,b⟩ ⟨c,d⟩ h;unfold K2 at h;simp only [Value.agg.injEq,nt,kc,Value.int.injEq,fS,Wc]at h;rw [h.1,h.2]
theorem Oq(P:Program)(d:Nat)(a:Int){t:TypeId}(g:P.underlying t=some (.int .i64))(h:(Lit.int .i64 a).wf=true):P.keyLits (d+1) t [.int .i64 a]=some [.int .i64 a]:=by
 unfold Program.keyLits;rw [g];simp [h]
theorem sF:Fp prog 260 K2 KD:=Fp.ofLaw (deep_law (m:=3) (by decide) (by kernel_rfl) (by kernel_rfl) (by kernel_rfl)) (by
 rintro ⟨a,b⟩ ⟨I,J⟩;have G:Tryz.prog.types.size+1=(Tryz.prog.types.size -1)+1+1:=by
  have:0<Tryz.prog.types.size:=HP A6;omega
 have hc:Tryz.prog.cellsOf 3=1:=by kernel_rfl
 have g:Tryz.prog.cellsOf 260=2:=by kernel_rfl
 have U:Tryz.prog.keyType 260=true:=by kernel_rfl
 have O:(K2 (a,b)).formed prog 260=true:=by
  unfold Value.formed K2;rw [gx];simp [g]
 unfold keyOf;rw [gx];simp only [U,O,Bool.and_self,Hh];obtain ⟨d,K⟩:∃d,Tryz.prog.types.size+1=d+1+1:=⟨_,G⟩;rw [K];unfold Program.keyLits;rw [gx];have X:=Oq prog d a Cl I
 have Z:=Oq prog d b Cl J;simp [K2,Value.cells,hc,g,X,Z]) ui
structure Gv(l:List ((Int×Int)×Value))(rs:List AU):Prop where
 mem:∀p,p∈l↔∃r∈rs,p=((r.t,r.k),SB r)
 kd:∀r∈rs,KD (r.t,r.k)
theorem qy:Gv [] []:=⟨fun p=>by simp,fun r h=>by cases h⟩
variable{l:List ((Int×Int)×Value)}
theorem Gv.keys(h:Gv l rs):∀p∈l,KD p.1:=fun p g=>by
 obtain ⟨r,m,rfl⟩:=(h.mem p).1 g;exact h.kd r m
theorem YJ{a b:AU}(h:SB a=SB b):a=b:=by
 obtain ⟨t,k,⟨x,y,z⟩⟩:=a;obtain ⟨m,g,⟨G,I,J⟩⟩:=b;unfold SB at h;simp only [Value.agg.injEq,nt,kc,Value.int.injEq,fS,Wc]at h;obtain ⟨rfl,rfl,rfl,rfl,rfl⟩:=h;rfl
theorem Gv.len{es:Array MapEntry}{ck:Nat}(I:Cj K2 es ck l)(h:Gv l rs)(K:BP rs):l.length=rs.length:=by
 have G:l.Nodup:=by
  have:=I.keys;rw [Wg,T7]at this;rw [Wg];exact this.imp (fun g e=>g (by rw [e]))
 have h2:(rs.map (fun r=>((r.t,r.k),SB r))).Nodup:=by
  rw [Wg,T7];refine K.imp (fun{a b} hab e=>?_);have e2:=YJ (Prod.mk.inj e).2
  subst e2;unfold AU.lt2 at hab;omega
 have J:l.Perm (rs.map (fun r=>((r.t,r.k),SB r))):=by
  rw [NX G h2];intro p;rw [h.mem p,Bk];constructor
  · rintro ⟨r,m,rfl⟩;exact ⟨r,m,rfl⟩
  · rintro ⟨r,m,rfl⟩;exact ⟨r,m,rfl⟩
 rw [J.length_eq,B2]
theorem Gv.get{es:Array MapEntry}{ck:Nat}(J:Cj K2 es ck l)(h:Gv l rs)(U:BP rs)(t k:Int):
 (EF (t,k) l).getD (SB AU.zero)=SB (Fg rs t k).1/\(EF (t,k) l).isSome=(Fg rs t k).2:=by
 cases hg:(Fg rs t k).2 with
 |true=>
  obtain ⟨r,m,hi,_,I⟩:=JF hg;have G:((t,k),SB r)∈l:=(h.mem _).2 ⟨r,m,by rw [show t=r.t from hi.1.symm,show k=r.k from hi.2.symm]⟩
  rw [Cw J.keys G,I];exact ⟨V,V⟩
 |false=>
  have g:∀r∈rs,¬r.is t k:=fun r m hi=>by rw [KE U m hi]at hg;cases hg
  have K:EF (t,k) l=none:=DV (fun p O e=>by
   obtain ⟨r,m,rfl⟩:=(h.mem p).1 O;injection e with e1 e2
   exact g r m ⟨e1,e2⟩)
  rw [K,QB g];exact ⟨V,V⟩
variable{c:Chg}
theorem Gv.put{J:List ((Int×Int)×Value)}(h:Gv l rs)(I:BP rs)(G:GK rs c)(K:c.has=true)(O:KD (c.t,c.k))(U:∀p,p∈J↔p=((c.t,c.k),SB ⟨c.t,c.k,c.n⟩)\/(p∈l/\p.1≠(c.t,c.k))):Gv J (EH rs c):=by
 refine ⟨fun p=>?_,fun r m=>?_⟩
 · rw [U p]
   constructor
   · rintro (rfl|⟨g,h2⟩)
     · exact ⟨_,(Fy I G _).2 (.inr ⟨K,rfl⟩),rfl⟩
     · obtain ⟨r,m,rfl⟩:=(h.mem p).1 g
       exact ⟨r,(Fy I G _).2 (.inl ⟨m,fun hi=>h2 (by rw [show r.t=c.t from hi.1,show r.k=c.k from hi.2])⟩),rfl⟩
   · rintro ⟨r,m,rfl⟩
     rcases (Fy I G _).1 m with⟨g,h2⟩|⟨_,rfl⟩
     · exact .inr ⟨(h.mem _).2 ⟨r,g,rfl⟩,fun e=>h2 (by injection e with e1 e2;exact ⟨e1,e2⟩)⟩
     · exact .inl rfl
 · rcases (Fy I G _).1 m with⟨g,_⟩|⟨_,rfl⟩
   · exact h.kd r g
   · exact O
theorem Gv.drop{K:List ((Int×Int)×Value)}(h:Gv l rs)(I:BP rs)(G:GK rs c)(J:c.has=false)(O:∀p,p∈K↔p∈l/\p.1≠(c.t,c.k)):Gv K (EH rs c):=by
 refine ⟨fun p=>?_,fun r m=>?_⟩
 · rw [O p]
   constructor
   · rintro ⟨g,h2⟩
     obtain ⟨r,m,rfl⟩:=(h.mem p).1 g;exact ⟨r,(Fy I G _).2 (.inl ⟨m,fun hi=>h2 (by rw [show r.t=c.t from hi.1,show r.k=c.k from hi.2])⟩),rfl⟩
   · rintro ⟨r,m,rfl⟩
     rcases (Fy I G _).1 m with⟨g,h2⟩|⟨h9,_⟩
     · exact ⟨(h.mem _).2 ⟨r,g,rfl⟩,fun e=>h2 (by injection e with e1 e2;exact ⟨e1,e2⟩)⟩
     · rw [J]at h9;cases h9
 · rcases (Fy I G _).1 m with⟨g,_⟩|⟨h9,_⟩
   · exact h.kd r g
   · rw [J]at h9;cases h9
theorem Uh{n:Int}(h:-9223372036854775808<=n/\n<=9223372036854775807):(Lit.int .i64 n).wf=true:=by
 simp [Lit.wf,IntKind.min,IntKind.max,IntKind.signed,IntKind.bits];omega
theorem uF(h:c.ok):KD (c.t,c.k):=by
 obtain ⟨m,h2,_,_⟩:=h;have G:(0<=c.t/\c.t<=3)/\(1<=c.k/\c.k<=1000000):=by
  cases hh:c.had with
  |true=>
   have:c.before.ok:=a7 (fun g=>h2 (.inl ⟨hh,g⟩));rw [PK hh]at this;exact this.2
  |false=>
   cases hs:c.has with
   |true=>
    have:c.after.ok:=a7 (fun g=>h2 (.inr ⟨hs,g⟩));rw [Kr hs]at this;exact this.2
   |false=>exact absurd (.inl ⟨by rw [hh];decide,by rw [hs];decide⟩) m
 exact ⟨Uh (by show _<=c.t/\c.t<=_;omega),Uh (by show _<=c.k/\c.k<=_;omega)⟩
theorem OQ(c:Chg):BJ prog 142 #[.agg c.A15] [] (.tuple #[.agg #[I4 (EK c c.has c.n).t,I4 (EK c c.has c.n).k,I4 (EK c c.has c.n).v.a,I4 (EK c c.has c.n).v.b,I4 (EK c c.has c.n).v.c],.bool c.has]):=by
 refine Se func142 ntmps142 [0] ?_;intro u R;refine A0<|Ze (Bx #[_,_,_,_,_,_,_,_,_,_])<|AD fun g=>Ze (Al DP #[_,_,_,_,_])<|AD fun m=>A3 Y<|A0<|Zo Wh (AA (cs:=#[_,_,_,_,_,_,_,_,_,_]) Fk C1 Y As AM) ?_;refine Zh 6 B8 V rfl CD Y<|Zl E4 Y ?_;refine Zh 7 B8 V rfl DB Y<|Zo Wh (AA (cs:=#[_,_,_]) HB DB Y As AM) ?_;refine Xr [_,_,_] Y call202 Y V (WZ c c.has c.n) ?_;refine Zd Y V<|Zd Y V<|Xe (Xw AW _) ?_;refine AG Y<|Zn [2,3] ?_;refine Zx<|AJ<|Bn V results142 Y Wh (Ak CH AW Wn (V)) Y (by exact ⟨V,V⟩)
theorem yQ:Ba prog 100 #[] [] (fun r H'=>∃g mb,r=I5 g/\H'=[[(g,.cells #[.map (some mb),I4 0] 258 (0,0))],[(mb,.map #[] 0)]]):=by
 refine Se func100 ntmps100 [] ?_;intro u R;refine A0<|A3 Y<|A0<|Ze (DR)<|AD fun mb=>Zv (BK (vs:=[(0,_)]) (cs:=#[_,_]) Y (AY (pl:=#[(0,1),(1,1)]) zeroValue256 aw (fun _=>by kernel_rfl) V))<|Zv (BK (vs:=[(0,_)]) (cs:=#[_,_]) Y (AY (pl:=#[(0,2)]) zeroValue258 bj (fun _=>by kernel_rfl) V))<|Ze (Bx #[_,_])<|AD fun g=>A3 Y<|AJ<|AO V results100 Y (by exact ⟨g,mb,V,V⟩)
theorem vQ(sp mb:Nat)(p rp:Int)(es:Array MapEntry)(ck:Nat)(lm:List ((Int×Int)×Value))(rs:List AU)(M:List A9)(q:Option Addr)(cap:Nat)(cs:List Chg)(hm:Cj K2 es ck lm)(hR:Gv lm rs)(hO:Ck M (.slice q cs.length cap) cs)(hs:BP rs)(hn:rs.length<=2000)(hA:KN rs p rp cs):
 BJ prog 168 #[I5 sp,.agg #[I4 rp,.slice q cs.length cap]] [[(sp,.cells #[.map (some mb),I4 p] 258 (0,0))],[(mb,.map es ck)],M] (.bool true):=by
 have l5:=mL;obtain ⟨p9,j3,e9,l8,hg⟩:=id hO;injection e9 with e91 e92 e93
 subst e91 e93;have J:=hA.ok
 have l9:=hA.pos;have kv:=J.len
 have o8:=J.pos;have j5:=U7 J.ord
 have gm:=hR.len hm hs;refine Se func168 ntmps168 [0,1] ?_;intro u R;refine A0<|Ze (Bx #[_,_])<|AD fun b1=>A3 Y<|Zq<|Zq<|Az (n:=14) (0::1::3::7::15::31::15::79::207::463::975::1999::4095::8191::[]) 2 A6 A6 V<|E6 0 V Wh (AA (cs:=#[_,_]) Hc F2 Y As AM) ?_;refine Yw 1 3 V (Zu [_] Y call51 Y V (Pf rp q cap cs M hO)) ?_;rintro _ _ ⟨rfl,rfl⟩;rw [DA J];refine A2 2 V (Br Y)<|A2 3 V (AQ Y)<|Cf (t:=13) Y (fun h1=>?_) (fun h1=>?_)
 ·
  rw [h1];cases h1
 rw [h1];refine An 4 V (AB (off:=0) GF V rfl A5 Y)<|DQ 5 V Wh (BO AE Y AM) ?_;refine An 6 V (AQ Y)<|An 7 V (Ap Y V)<|An 8 V (AB (off:=0) bj V rfl da Y)<|An 9 V (Aq (off:=1) aw V rfl A5 Y)<|DQ 10 V Wh (BO AE Y AM) ?_
 (refine An 11 rfl (H6 Y Y (IntWalk.i64_in _ ?_)) ?_;(focus (omega)))
 refine An 12 V (Kw Y Y)<|A2 13 V (AL Y Y)<|Ai<|Zn [0,3,23] ?_;refine Zx<|Av Y (fun h2=>?_) (fun h2=>?_)
 ·
  exfalso;contradiction
 refine AC<|Zx<|A0<|Zm Y<|Zp Y V<|Zh 0 bj V rfl da Y<|Zv (Aq (off:=0) aw V rfl sizeOf254 Y)<|Zl isAgg254 Y ?_;refine Zo Wh (Q5 hQ hm Y) ?_;refine A3 Y<|Zq<|A0<|Zh 1 GF V rfl Ks Y<|Zl Lq Y ?_;refine Zv (Ab G3 Y)<|Zm Y<|A4<|AP<|Zb [5,33,0,31,32] ?_;refine BB (e0:=[(5,_),(33,_)]) (fun m e H=>∃(i:Nat),m=cs.length -i/\(i<=cs.length)/\e=[(5,I4 (Gm rs (cs.take i))),(33,I4 (i:Int))]/\H=[]) (by exact ⟨0,rfl,C0 _,by rw [gm];rfl,rfl⟩) Wp ?_;rintro _ _ _ ⟨i,rfl,hi,rfl,rfl⟩;have gy:=OJ rs cs i
 refine A0<|Zv (Au Y Y)<|A4<|Zq<|Av Y (fun bn=>?_) (fun bn=>?_)
 ·
  obtain ⟨x,K⟩:∃x,cs[i]?=some x:=⟨_,B4 bn⟩;obtain ⟨g,off,cur,T,zz,rfl,gq,o9,cO⟩:=hg i x K;have ic:=J.all i x K
  have ek:=uF ic;obtain ⟨d9,af⟩:=hA.fit x (DG K);have O:=hR.get hm hs x.t x.k
  obtain ⟨U,ax⟩:∃U,U=Fg rs x.t x.k:=⟨_,rfl⟩;rw [<-ax]at O d9 af;clear ax;refine AC<|Zx<|Zq<|AP<|A0<|BX (Ad G3 C1 Y Y A1)<|CO (cs:=[(g,.cells cur T zz)]) (by simp [gq]) (AA (cs:=x.A15) Fk C1 Y A1 cO) V rfl ?_;refine Ze (Al LI #[_,_,_,_,_,_,_,_,_,_])<|AD fun cb=>Xe (Xw C1 x.A15) ?_;refine A4<|Zq<|Az (n:=17) (0::1::3::7::15::0::32::0::128::480::1023::2047::4095::4095::0::24575::65535::[]) 49152 A6 A6 V<|A2 0 V (AQ Y)<|A2 1 V (Ap Y V)<|A2 2 V (AB (off:=0) bj V rfl da Y)<|A2 3 V (Aq (off:=0) aw V rfl sizeOf254 Y)<|B3 4 V isAgg254 Y ?_;refine A2 5 V (AB (off:=0) B8 V rfl A5 Y)<|B3 6 V AE Y ?_;refine A2 7 V (AB (off:=1) B8 V rfl A5 Y)<|B3 8 V AE Y ?_;refine A2 9 V (BK (vs:=[(0,_),(1,_)]) (cs:=#[_,_]) Y (AY (pl:=#[(0,1),(1,1)]) zeroValue260 gx (fun _=>by kernel_rfl) V))<|E6 10 V Wh (Dy sF hQ DP hm hR.keys (ek) (O) Y Y) ?_;refine A2 11 V (AQ Y)<|A2 12 V (Bw Y V)<|A2 13 V (Bw Y V)<|Zz (l:=[14])<|B1 [true,true,true,true] [(10,(_,_)),(8,(_,_)),(6,(_,_)),(4,(_,_))] V rfl (Al DP #[_,_,_,_,_]) ?_ (fun _ _ h=>h.elim) Ag;rintro _ _ ⟨ob,rfl,rfl⟩;refine B5<|Yw 15 65535 V (Xw AW #[I4 U.1.t,I4 U.1.k,I4 U.1.v.a,I4 U.1.v.b,I4 U.1.v.c])<|CM<|A2 16 V (Aw Y)<|Ai<|Zn [0,5,7,8,9,31,32,33] ?_;refine Zx<|Zq<|A0<|Zm Y<|Zh 2 B8 V rfl CD Y<|Zl E4 Y ?_;refine Zv (KX Pu Y Y)<|Zm Y<|Ao (t:=55) Y V (fun cu=>?_) (fun cu=>?_)
  ·
   exfalso;contradiction
  refine Zf Y Y<|Zf Y Y ?_;refine Af (t:=57) Y V (fun X=>?_) (fun X=>?_)
  ·
   refine Yf 2 Fi V rfl DB Y<|E5 Y Wh (AA (cs:=#[_,_,_]) HB DB Y As AM) V rfl ?_;refine Yf 3 B8 V rfl DB Y<|E5 Y Wh (AA (cs:=#[_,_,_]) HB DB Y As AM) V rfl ?_;refine Yg (KY A6 Hj Cl AE A5 Y Y) ?_;refine Yg (AX Y Y)<|Zv (AL Y Y)<|Z0<|Zn [0,5,7,31,32,33,64] ?_;refine Zx<|Av Y (fun Z=>?_) (fun Z=>?_)
   ·
    exfalso;exact Z (af X)
   refine AC<|Zx<|Zq<|A0<|Zh 2 B8 V rfl CD Y<|Zl E4 Y ?_;refine A4<|AV Y (fun I=>?_) (fun I=>?_)
   ·
    refine Zg<|Zm Y ?_
    (refine BX (GG Y Y (IntWalk.i64_in _ ?_)) ?_;(focus (omega)))
    refine A3 Y<|A0<|Zh 6 B8 V rfl CD Y<|Zl E4 Y ?_;refine A4<|AV Y (fun G=>?_) (fun G=>?_)
    ·
     refine Zg<|Zm Y<|Yi Y Y<|AG Y<|A8<|Zx<|Zg<|Ya (n:=1) Y Y<|Zm Y<|Z0<|Zn [5,33,0,31,32] ?_;refine Aa (e':=[(5,_),(33,_)]) (by exact ⟨i+1,rfl,by omega,by rw [iB K I G],rfl⟩)
    refine AC<|A8<|Zx<|Zg<|Ya (n:=1) Y Y<|Zm Y<|Z0<|Zn [5,33,0,31,32] ?_;refine Aa (e':=[(5,_),(33,_)]) (by exact ⟨i+1,rfl,by omega,by rw [iC K I G],rfl⟩)
   refine AC<|Zx<|A0<|Zh 6 B8 V rfl CD Y<|Zl E4 Y ?_;refine A4<|AV Y (fun G=>?_) (fun G=>?_)
   ·
    refine Zg<|Zm Y<|Yi Y Y<|AG Y<|A8<|Zx<|Zg<|Ya (n:=1) Y Y<|Zm Y<|Z0<|Zn [5,33,0,31,32] ?_;refine Aa (e':=[(5,_),(33,_)]) (by exact ⟨i+1,rfl,by omega,by rw [iD K I G],rfl⟩)
   refine AC<|A8<|Zx<|Zg<|Ya (n:=1) Y Y<|Zm Y<|Z0<|Zn [5,33,0,31,32] ?_;refine Aa (e':=[(5,_),(33,_)]) (by exact ⟨i+1,rfl,by omega,by rw [iE K I G],rfl⟩)
  repeat refine A7 Y rfl ?_
  refine Yg (AL Y Y)<|Zv (AL Y Y)<|Z0<|Zn [0,5,7,31,32,33,64] ?_;refine Zx<|D5 Y<|AC<|Zx<|Zq<|A0<|Zh 2 B8 V rfl CD Y<|Zl E4 Y ?_;refine A4<|AV Y (fun I=>?_) (fun I=>?_)
  ·
   refine Zg<|Zm Y ?_
   (refine BX (GG Y Y (IntWalk.i64_in _ ?_)) ?_;(focus (omega)))
   refine A3 Y<|A0<|Zh 6 B8 V rfl CD Y<|Zl E4 Y ?_;refine A4<|AV Y (fun G=>?_) (fun G=>?_)
   ·
    refine Zg<|Zm Y<|Yi Y Y<|AG Y<|A8<|Zx<|Zg<|Ya (n:=1) Y Y<|Zm Y<|Z0<|Zn [5,33,0,31,32] ?_;refine Aa (e':=[(5,_),(33,_)]) (by exact ⟨i+1,rfl,by omega,by rw [iB K I G],rfl⟩)
   refine AC<|A8<|Zx<|Zg<|Ya (n:=1) Y Y<|Zm Y<|Z0<|Zn [5,33,0,31,32] ?_;refine Aa (e':=[(5,_),(33,_)]) (by exact ⟨i+1,rfl,by omega,by rw [iC K I G],rfl⟩)
  refine AC<|Zx<|A0<|Zh 6 B8 V rfl CD Y<|Zl E4 Y ?_;refine A4<|AV Y (fun G=>?_) (fun G=>?_)
  ·
   refine Zg<|Zm Y<|Yi Y Y<|AG Y<|A8<|Zx<|Zg<|Ya (n:=1) Y Y<|Zm Y<|Z0<|Zn [5,33,0,31,32] ?_;refine Aa (e':=[(5,_),(33,_)]) (by exact ⟨i+1,rfl,by omega,by rw [iD K I G],rfl⟩)
  refine AC<|A8<|Zx<|Zg<|Ya (n:=1) Y Y<|Zm Y<|Z0<|Zn [5,33,0,31,32] ?_;refine Aa (e':=[(5,_),(33,_)]) (by exact ⟨i+1,rfl,by omega,by rw [iE K I G],rfl⟩)
 have ei:i=cs.length:=by omega
 subst ei;rw [FF]at gy⊢;refine Ay<|Zt<|Zt<|AR<|Zx<|A0<|Zm Y<|Zv (Le Y Y)<|A3 Y<|AJ<|AO rfl results168 Y (by exact ⟨by rw [DA hA.size],rfl⟩)
theorem oJ(sp mb:Nat)(p rp:Int)(es:Array MapEntry)(ck:Nat)(lm:List ((Int×Int)×Value))(rs:List AU)(M:List A9)(q:Option Addr)(cap:Nat)(cs:List Chg)(hm:Cj K2 es ck lm)(hR:Gv lm rs)(hO:Ck M (.slice q cs.length cap) cs)(hs:BP rs)(hn:rs.length<=2000)(hA:KN rs p rp cs):
 Ba prog 101 #[I5 sp,.agg #[I4 rp,.slice q cs.length cap]] [[(sp,.cells #[.map (some mb),I4 p] 258 (0,0))],[(mb,.map es ck)],M] (fun r H'=>r=I4 0/\∃cu bn gq,Cj K2 cu bn gq/\Gv gq (DL rs cs)/\H'=[[(sp,.cells #[.map (some mb),I4 rp] 258 (0,0))],[(mb,.map cu bn)],M]):=by
 have o9:=mL;obtain ⟨p9,l9,e9,p8,hg⟩:=id hO;injection e9 with e91 e92 e93
 subst e91 e93;have J:=hA.ok
 have pg:=hA.pos;have o8:=J.len
 have pq:=J.pos;have cO:=U7 J.ord
 refine Se func101 ntmps101 [0,1] ?_;intro u R;refine A0<|Ze (Bx #[_,_])<|AD fun b1=>A3 Y<|Zq<|AP<|A0<|Zm Y<|Zv (Be lE Y Y)<|A3 Y<|AV Y (fun h1=>by cases h1)<|fun h1=>A0<|Zm Y<|Zo Wh (AA (cs:=#[_,_]) Hc F2 Y As AM) ?_;refine Xr [_,_] Y call168 Y V (vQ sp mb p rp es ck lm rs M q cap cs hm hR hO hs hn hA) ?_;refine Zv (Br Y)<|A3 Y<|AV Y (fun h2=>by cases h2)<|fun h2=>AC<|A8<|Zx<|Zq<|A0<|Zh 1 GF V rfl Ks Y<|Zl Lq Y ?_;refine Zv (Ab G3 Y)<|Zm Y<|Z0<|Zn [0,3,19,20,21] ?_;refine Zx<|AP<|Zb [21,0,3,19,20] ?_;refine BB (e0:=[(21,_)]) (fun m e H=>∃(i:Nat) (es:Array MapEntry) (ck:Nat) (lm:List ((Int×Int)×Value)),m=cs.length -i/\(i<=cs.length/\Cj K2 es ck lm/\Gv lm (DL rs (cs.take i)))/\e=[(21,I4 (i:Int))]/\H=[[(mb,.map es ck)]]) (by exact ⟨0,es,ck,lm,rfl,⟨C0 _,hm,by rw [HX];exact hR⟩,rfl,rfl⟩) Wp ?_;rintro _ _ _ ⟨i,ic,gy,l8,rfl,⟨hi,Z,G⟩,rfl,rfl⟩;refine A0<|Zv (Au Y Y)<|A4<|Zq<|Av Y (fun ek=>?_) (fun ek=>?_)
 ·
  obtain ⟨x,hx⟩:∃x,cs[i]?=some x:=⟨_,B4 ek⟩;obtain ⟨g,off,cur,T,zz,rfl,kv,pz,j3⟩:=hg i x hx;have l5:=J.all i x hx
  have X:=uF l5;obtain ⟨gm,j5⟩:=KF hs cO hA.fit i hi;have d9:=j5 i x (CT _) hx
  refine AC<|Zx<|Zq<|AP<|A0<|BX (Ad G3 C1 Y Y A1)<|CO (cs:=[(g,.cells cur T zz)]) (by simp [kv]) (AA (cs:=x.A15) Fk C1 Y A1 j3) V rfl ?_;refine Ze (Al LI #[_,_,_,_,_,_,_,_,_,_])<|AD fun cb=>Xe (Xw C1 x.A15) ?_;refine A4<|A0<|Zh 0 B8 V rfl A5 Y<|Zl AE Y ?_;refine Zh 1 B8 V rfl A5 Y<|Zl AE Y ?_;refine Zv (BK (vs:=[(0,_),(1,_)]) (cs:=#[_,_]) Y (AY (pl:=#[(0,1),(1,1)]) zeroValue260 gx (fun _=>by kernel_rfl) V))<|Ze (Al zeroValue260 #[_,_])<|AD fun kb=>Xe (BM sizeOf260 Y Y (by(simp [Value.oneCell',Value.cells];done)) Wu (by exact (rfl:_=(#[I4 x.t,I4 x.k]:Array Value))) E7 AN (by exact BA _)) ?_;refine A4<|A0<|Zo Wh (AA (cs:=#[_,_,_,_,_,_,_,_,_,_]) Fk C1 Y As AM) ?_;refine Xr [_] Y call142 Y V (OQ x) ?_;refine Zm Y<|Zd Y V<|Zd Y V<|Ze (Al DP #[_,_,_,_,_])<|AD fun xb=>Xe (Xw AW #[I4 (EK x x.has x.n).t,I4 (EK x x.has x.n).k,I4 (EK x x.has x.n).v.a,I4 (EK x x.has x.n).v.b,I4 (EK x x.has x.n).v.c]) ?_;refine AG Y<|Zn [0,3,7,8,9,19,20,21] ?_;refine Zx<|A0<|Zm Y<|A4<|AV Y (fun hh=>?_) (fun hh=>?_)
  ·
   rw [sI hh];refine Az (n:=8) (0::1::3::7::15::0::0::127::[]) 128 A6 A6 V<|A2 0 V (AQ Y)<|A2 1 V (Ap Y V)<|A2 2 V (AB (off:=0) bj V rfl da Y)<|A2 3 V (Aq (off:=0) aw V rfl sizeOf254 Y)<|B3 4 V isAgg254 Y ?_;refine E6 5 V Wh (AA (cs:=#[_,_]) isAgg260 sizeOf260 Y As AM) ?_;refine E6 6 V Wh (AA (cs:=#[_,_,_,_,_]) CH AW Y As AM) ?_;refine Yw 7 255 V (F9 sF hQ Z G.keys (X) Y Y Y Wo) ?_;rintro _ _ ⟨rfl,O,K,I,af,ax,rfl⟩;have U:Gv I (DL rs (cs.take (i+1))):=by rw [EL rs cs i x hx];exact G.put gm d9 hh X ax
   refine Ai<|A8<|Zx<|Zg<|Ya (n:=1) Y Y<|Zm Y<|Z0<|Zn [21,0,3,19,20] ?_;refine Aa (e':=[(21,_)]) (by exact ⟨i+1,O,K,I,V,⟨by omega,af,U⟩,V,V⟩)
  refine Az (n:=7) (0::1::3::7::15::0::63::[]) 64 A6 A6 V<|A2 0 V (AQ Y)<|A2 1 V (Ap Y V)<|A2 2 V (AB (off:=0) bj V rfl da Y)<|A2 3 V (Aq (off:=0) aw V rfl sizeOf254 Y)<|B3 4 V isAgg254 Y ?_;refine E6 5 V Wh (AA (cs:=#[_,_]) isAgg260 sizeOf260 Y As AM) ?_;refine Yw 6 127 V (LF sF hQ Z G.keys (X) Y Y Wo) ?_;rintro _ _ ⟨rfl,O,K,I,af,ax,rfl⟩;have U:Gv I (DL rs (cs.take (i+1))):=by rw [EL rs cs i x hx];exact G.drop gm d9 hh ax
  refine Ai<|A8<|Zx<|Zg<|Ya (n:=1) Y Y<|Zm Y<|Z0<|Zn [21,0,3,19,20] ?_;refine Aa (e':=[(21,_)]) (by exact ⟨i+1,O,K,I,V,⟨by omega,af,U⟩,V,V⟩)
 have ei:i=cs.length:=by omega
 subst ei;rw [FF]at G;refine Ay<|Zt<|Zt<|AR<|Zx<|A0<|Zm Y<|Zh 0 GF V rfl A5 Y<|Zl AE Y ?_;refine Zp Y V<|Zh 0 bj V rfl da Y<|Zv (Aq (off:=1) aw V rfl A5 Y)<|Xe (Zs A5 Y Y V (hc:=by exact (V:_=(#[.map (some mb),I4 rp]:Array Value))) (hi:=by(simp;done))) ?_;refine A4<|A0<|A3 Y<|AJ<|AO V results101 Y (by exact ⟨V,ic,gy,l8,Z,G,V⟩)
theorem zw(q:Option Addr)(cap:Nat)(l:List BU)(M:List A9)(af:EW M (.slice q l.length cap) l)(G:F5 l)(hl:l.length<=1000000)(k:Nat)(hk:k<=l.length):
 Ba prog 49 #[.slice q l.length cap,I4 (k:Int)] [M] (fun r H'=>∃J mb es ck lm,r= .tuple #[I5 J,I4 0]/\Cj K2 es ck lm/\Gv lm (Bd (l.take k))/\H'=[[(J,.cells #[.map (some mb),I4 (k:Int)] 258 (0,0))],[(mb,.map es ck)],M]):=by
 have ic:=mL;obtain ⟨p9,gq,e9,⟨j3,gy⟩,hg⟩:=id af;injection e9 with e91 e92 e93
 subst e91 e93;refine Se func49 ntmps49 [0,1] ?_;intro u R;refine A0<|Za Y<|A3 Y<|Zq<|A0<|Zm Y<|Zv (Au (n:=0) Y Y)<|Zm Y<|Ao (t:=11) Y V (fun h1=>?_) (fun h1=>?_)
 ·
  exfalso;(cases h1;done)
 refine Zf Y Y<|Zf Y Y<|Yg (Ab GB Y)<|Yg (DF Y Y)<|Zv (AL Y Y)<|A4<|Av Y (fun h2=>by omega)<|fun h2=>AC<|Zx<|A0<|Zc [] Y call100 Y V (yQ) ?_;rintro _ _ ⟨_,⟨J,mb,rfl,rfl⟩,rfl⟩;refine A3 Y<|Zq<|A0<|Zm Y<|Zm Y<|BX (Bq GB F2 Y Y A1)<|Zv (Ab GB Y)<|Zm Y<|Z0<|Zn [6,20,21,22] ?_;refine Zx<|AP<|Zb [22,6,20,21] ?_;refine BB (e0:=[(22,_)]) (fun m e H=>∃(i:Nat) (es:Array MapEntry) (ck:Nat) (lm:List ((Int×Int)×Value)),m=k -i/\(i<=k/\Cj K2 es ck lm/\Gv lm (Bd (l.take i)))/\e=[(22,I4 (i:Int))]/\H=[[(J,.cells #[.map (some mb),I4 (i:Int)] 258 (0,0))],[(mb,.map es ck)]]) (by exact ⟨0,#[],0,[],rfl,⟨C0 _,ER _,by rw [HX];exact qy⟩,rfl,rfl⟩) Wp ?_;rintro _ _ _ ⟨i,es,ck,lm,rfl,⟨hi,hm,hR⟩,rfl,rfl⟩;refine A0<|Zv (Au Y Y)<|A4<|Zq<|Av Y (fun cu=>?_) (fun cu=>?_)
 ·
  obtain ⟨r,hr⟩:∃r,l[i]?=some r:=⟨_,B4 A1⟩;obtain ⟨U,g,off,cur,T,zz,rfl,d9,j5,ax⟩:=hg i r hr;obtain ⟨hA,h3⟩:=G i r hr;have ek:=hA.pos
  obtain ⟨gm,bn⟩:=G.rows i A1;refine AC<|Zx<|Zq<|AP<|A0<|BX (Ad GB F2 Y Y A1)<|CO (cs:=[(g,.cells cur T zz)]) (by simp [d9]) (AA (cs:=#[I4 r.p,.slice r.q r.cs.length r.cap]) Hc F2 Y A1 ax) V rfl ?_;refine Ze (Al Ss #[_,_])<|AD fun rb=>Xe (Xw F2 #[I4 r.p,.slice r.q r.cs.length r.cap]) ?_;refine A4<|A0<|Zm Y<|Zo Wh (AA (cs:=#[_,_]) Hc F2 Y As AM) ?_;refine Zc [_,_] Y call101 Y V (oJ J mb (i:Int) r.p es ck lm (Bd (l.take i)) M r.q r.cap r.cs hm hR U gm bn hA) ?_;rintro _ _ ⟨_,⟨rfl,O,K,I,cO,X,rfl⟩,rfl⟩;have Z:Gv I (Bd (l.take (i+1))):=by rw [P0,hr];show Gv I (Bd (l.take i++[r]));rw [Gc];exact X
  rw [show r.p=((i+1:Nat):Int) by rw [ek];rfl];refine Zv (FR (n:=0) Y Y)<|A4<|Av Y (fun h4=>?_) (fun h4=>?_)
  ·
   exfalso;exact h4 rfl
  refine AC<|A8<|Zx<|Zg<|Ya (n:=1) Y Y<|Zm Y<|Z0<|Zn [22,6,20,21] ?_;refine Aa (e':=[(22,_)]) (by exact ⟨i+1,O,K,I,V,⟨by omega,cO,Z⟩,V,V⟩)
 have ei:i=k:=by omega
 subst ei;refine Ay<|Zt<|Zt<|AR<|Zx<|A0<|Zm Y<|Za Y<|A3 Y<|AJ<|Cu V results49 Y Y (by exact ⟨J,mb,es,ck,lm,V,hm,hR,V⟩)
def Dc(r:AU)(c:Nat):Int:=if c=0 then r.k else if c=1 then r.v.a else if c=2 then r.v.b else r.v.c
def dO(c:Nat)(out:List AU)(v:Int):Nat:=(out.reverse.dropWhile (fun r=>decide (v<Dc r c))).length
def ZN(c:Nat)(out:List AU)(x:AU):List AU:=out.take (dO c out (Dc x c))++[x]++out.drop (dO c out (Dc x c))
def inR(t:Int)(c:Nat)(lo hi:Int)(r:AU):Bool:=decide (r.t=t/\lo<=Dc r c/\Dc r c<=hi)
def Dm(rs:List AU)(t:Int)(c:Nat)(lo hi:Int):List AU:=(rs.filter (inR t c lo hi)).foldl (ZN c) []
end Go.Proofs.YteaiajghbkenoaaGreatDoor
namespace Go.Proofs.YteaiajghbkenoaaGreatDoor
open Go.Proofs.Tryz
open Go Go.RowKit Gw
set_option maxRecDepth 100000
attribute [local irreducible] Gw.At Gw.Nx Gw.Ops
open Go.Sort
def Bl(r:AU)(c:Int):Int:=if c=0 then r.k else if c=1 then r.v.a else if c=2 then r.v.b else if c=3 then r.v.c else 0
set_option maxHeartbeats 1000000 in
theorem JQ(r:AU)(c:Int)(hc:0<=c/\c<=3)(W:World):Calls prog 140 #[.agg r.A16,I4 c] W fun e g=>e= .returned (I4 (Bl r c))/\∃(q:Nat) (o:Obj),g=grow (W.drewN q) #[o]:=by
 obtain ⟨t,k,⟨m,G,I⟩⟩:=r;rcases (by omega:c=0\/c=1\/c=2\/c=3)with rfl|rfl|rfl|rfl
 all_goals
  go_enter func140,ntmps140
  go_wp2
  go_ret
  exact ⟨rfl,0,_,by rw [alloc_eq_grow];rfl⟩
def orL(x y:Int):Int:=if x=0 then y else x
theorem qU(b:Nat)(x y:Int)(W:World)(h0:W.cell? ⟨b,0,none⟩=some (I4 x))(K:W.cell? ⟨b,1,none⟩=some (I4 y)):Calls prog 237 #[I6 b 2 2] W fun e J=>e= .returned (I4 (orL x y))/\J=W:=by
 generalize hz:orL x y=z;have m:=Lib.hid hz
 clear hz
 go_enter func237,ntmps237
 go_wp2
 go_loop [5,8] (fun _ i=>∃(j:Nat),i=I4 j/\(j=0\/(j=1/\x=0)\/(j=2/\x=0/\y=0))) (fun _ i=>2 -(intOf i).toNat)
 case atStart=>exact ⟨0,rfl,.inl rfl⟩
 case round=>
  obtain ⟨j,rfl,I⟩:=hrel;rcases I with rfl|⟨rfl,g⟩|⟨rfl,g,G⟩
  · by_cases g:x=0
    · subst g
      go_wp2
      go_round
      case rel=>exact ⟨1,by go_num,by simp⟩
      case measure=>simp [intOf]
    · go_wp2
      go_ret
      exact ⟨by rw [<-m.out];unfold orL;rw [AH g];rfl,rfl⟩
  · subst g
    by_cases G:y=0
    · subst G
      go_wp2
      go_round
      case rel=>exact ⟨2,by go_num,by simp⟩
      case measure=>simp [intOf]
    · go_wp2
      go_ret
      exact ⟨by rw [<-m.out];unfold orL;rw [AK rfl];rfl,rfl⟩
  · subst g G
    go_wp2
    go_ret
    exact ⟨by rw [<-m.out];rfl,rfl⟩
theorem Rt{u w:World}{H:Hp}(h:Sat u H w)(q:Nat)(os:Array Obj):Sat u H (grow (w.drewN q) os):=by
 refine ⟨h.os,h.tape,h.output,h.nodup,fun p m=>?_⟩;have g:=h.lt m
 show(w.heap++os)[p.1]?=_;rw [dp g];exact h.get p m
theorem LG(r:AU)(c:Nat)(hc:c<=3):Bl r (c:Int)=Dc r c:=by
 rcases (by omega:c=0\/c=1\/c=2\/c=3)with rfl|rfl|rfl|rfl<;>rfl
theorem OP(r:AU)(c:Nat)(hc:c<=3):BJ prog 140 #[.agg r.A16,I4 (c:Int)] [] (I4 (Dc r c)):=fun u R w g=>
 (JQ r (c:Int) A1 w).mono (by
   rintro e m ⟨rfl,q,o,rfl⟩;exact .inl ⟨_,[],rfl,⟨by rw [LG r c hc],rfl⟩,Rt g q _⟩)
theorem pJ(r:AU)(t:Int)(c:Nat)(lo hi:Int)(hc:c<=3)(g m G I:Nat):BJ prog 180 #[.agg r.A16,I5 g,I5 m,I5 G,I5 I] [[(g,.cells #[I4 (c:Int)] 3 (0,0))],[(m,.cells #[I4 t] 3 (0,0))],[(G,.cells #[I4 lo] 3 (0,0))],[(I,.cells #[I4 hi] 3 (0,0))]] (.bool (inR t c lo hi r)):=by
 refine Se func180 ntmps180 [0,1,2,3,4] ?_;intro u R;refine A0<|Ze (Bx #[_,_,_,_,_])<|AD fun g=>A3 Y<|A0<|Zo Wh (Pa #[_,_,_,_,_] CH AW Y) ?_;refine Zl AE Y ?_;refine Xr [_,_] Y S7 Y V (OP r c hc) ?_;refine A3 Y<|A0<|Zh 0 Fi V rfl A5 Y<|Zl AE Y ?_;refine Zl AE Y ?_;refine Zv (CP Y Y)<|Zm Y<|Ao (t:=15) Y V (fun J=>?_) (fun J=>?_)
 ·
  refine Zf Y Y<|Yl AE Y ?_;refine Yg (H5 Y Y)<|Zv (AX Y Y)<|Zm Y<|Ao (t:=20) Y V (fun h2=>?_) (fun h2=>?_)
  ·
   refine Zf Y Y<|Yl AE Y ?_;refine Yg (Le Y Y)<|Zv (AX Y Y)<|AG Y<|Zn [6] ?_;refine Zx<|AJ<|AO V results180 Y (by exact ⟨by unfold inR;(simp_all;done),V⟩)
  refine A7 Y V<|A7 Y V<|A7 Y V<|Zv (AL Y Y)<|AG Y<|Zn [6] ?_;refine Zx<|AJ<|AO V results180 Y (by exact ⟨by unfold inR;(congr 1;simp;omega),V⟩)
 repeat first|refine A7 Y rfl ?_|refine Zv (AL Y Y)<|Zm Y ?_
 refine Zv (AL Y Y)<|AG Y<|Zn [6] ?_;refine Zx<|AJ<|AO V results180 Y (by exact ⟨by unfold inR;(simp_all;done),V⟩)
end Go.Proofs.YteaiajghbkenoaaGreatDoor
namespace Go.Proofs.YteaiajghbkenoaaGreatDoor
open Go.Proofs.Tryz
open Go Go.RowKit Gw
set_option maxRecDepth 100000
attribute [local irreducible] Gw.At Gw.Nx Gw.Ops
theorem F3:∀(n:Nat) (js:List Nat),js.Nodup->(∀j∈js,j<n)->js.length<=n
 |0,js,_,h=>by
  cases js with
  |nil=>simp
  |cons a l=>exact absurd (h a B0) (eA _)
 |n+1,js,hn,h=>by
  by_cases G:n∈js
  · have m:=F3 n (js.erase n) (hn.erase n) (fun j g=>by
     have h2:=(hn.mem_erase_iff).1 g;have I:=h j h2.2
     have J:=h2.1;omega)
    rw [mN G]at m;omega
  · have m:=F3 n js hn (fun j g=>by
     have I:=h j g;have J:j≠n:=fun e=>G (e▸g)
     omega)
    omega
def JZ(r:AU):(Int×Int)×Value:=((r.t,r.k),SB r)
theorem MV{a b:AU}(h:JZ a=JZ b):a=b:=YJ (Prod.mk.inj h).2
theorem dQ{a b:List AU}(J:(a.map JZ).Nodup)(h:(a.map JZ).Perm (b.map JZ)):a.Perm b:=by
 have K:∀{l:List AU},(l.map JZ).Nodup->l.Nodup:=fun{l} hl=>by
  rw [Wg,T7]at hl;rw [Wg];exact hl.imp (fun m e=>m (by rw [e]))
 rw [NX (K J) (K (h.nodup J))];intro x;have g:=h.mem_iff (a:=JZ x)
 rw [Bk,Bk]at g;constructor
 · intro G
   obtain ⟨y,I,e⟩:=g.1 ⟨x,G,rfl⟩;rwa [MV e]at I
 · intro G
   obtain ⟨y,I,e⟩:=g.2 ⟨x,G,rfl⟩;rwa [MV e]at I
variable{rs:List AU}
theorem Gv.perm{es:Array MapEntry}{ck:Nat}{l:List ((Int×Int)×Value)}(I:Cj K2 es ck l)(h:Gv l rs)(J:BP rs):l.Perm (rs.map JZ):=by
 have G:l.Nodup:=by
  have:=I.keys;rw [Wg,T7]at this;rw [Wg];exact this.imp (fun g e=>g (by rw [e]))
 have h2:(rs.map JZ).Nodup:=by
  rw [Wg,T7];refine J.imp (fun{a b} hab e=>?_);have e2:=MV e
  subst e2;unfold AU.lt2 at hab;omega
 rw [NX G h2];intro p;rw [h.mem p,Bk];constructor
 · rintro ⟨r,m,rfl⟩;exact ⟨r,m,rfl⟩
 · rintro ⟨r,m,rfl⟩;exact ⟨r,m,rfl⟩
structure Xj(lm:List ((Int×Int)×Value))(f:AU->Bool)(js:List Nat)(o:List AU):Prop where
 rows:∃rl:List AU,rl.map JZ=DN lm js/\o=rl.filter f
theorem oN(lm:List ((Int×Int)×Value))(f:AU->Bool):Xj lm f [] []:=⟨[],rfl,rfl⟩
theorem Xj.push{lm:List ((Int×Int)×Value)}{rs:List AU}{f:AU->Bool}{js:List Nat}{o:List AU}(h:Xj lm f js o){j:Nat}{r:AU}(m:lm[j]?=some (JZ r)):Xj lm f (js++[j]) (o++(if f r then [r]else [])):=by
 obtain ⟨rl,g,h2⟩:=h.rows;refine ⟨rl++[r],by rw [BW,g,Fv lm js m];rfl,?_⟩;rw [HU,<-h2];cases hf:f r<;>simp [hf]
theorem Xj.done{es:Array MapEntry}{ck:Nat}{lm:List ((Int×Int)×Value)}(K:Cj K2 es ck lm)(J:Gv lm rs)(m:BP rs){f:AU->Bool}{js:List Nat}{o:List AU}(h:Xj lm f js o)(O:(DN lm js).Perm lm):o.Perm (rs.filter f):=by
 obtain ⟨rl,G,rfl⟩:=h.rows;have h2:=J.perm K m
 have g:(rl.map JZ).Perm (rs.map JZ):=by rw [G];exact O.trans h2
 have I:(rs.map JZ).Nodup:=by
  rw [Wg,T7];refine m.imp (fun{a b} hab e=>?_);have e2:=MV e
  subst e2;unfold AU.lt2 at hab;omega
 exact (dQ (g.symm.nodup I) g).filter f
def leV(c:Nat)(a b:AU):Prop:=Dc a c<Dc b c\/Dc a c=Dc b c/\a.k<=b.k
def uY:Prop:=∀(cb c:Nat) (w:Value) (o:List AU) (s:List A9),c<=3->o.length<=2000->Bc 5 83 w o.length (Ae o) s->
    Ba prog 235 #[w,.func (.func 236) #[] #[I5 cb]] [s,[(cb,.cells #[I4 (c:Int)] 3 (0,0))]]
     (fun r H'=>r= .tuple #[]/\∃(s':List A9) (o':List AU),o'.Perm o/\o'.Pairwise (leV c)/\Bc 5 83 w o'.length (Ae o') s'/\H'=[s',[(cb,.cells #[I4 (c:Int)] 3 (0,0))]])
theorem XU(hS:uY)(sp mb:Nat)(p:Int)(es:Array MapEntry)(ck:Nat)(lm:List ((Int×Int)×Value))(rs:List AU)(hm:Cj K2 es ck lm)(hR:Gv lm rs)(hs:BP rs)(hn:rs.length<=2000)(t:Int)(c:Nat)(lo hi:Int)(hc:c<=3)(b1 b2 b3 b4:Nat):
 Ba prog 179 #[I5 sp,I4 (c:Int),.func (.func 180) #[] #[I5 b1,I5 b2,I5 b3,I5 b4]] [[(sp,.cells #[.map (some mb),I4 p] 258 (0,0))],[(mb,.map es ck)],[(b1,.cells #[I4 (c:Int)] 3 (0,0))],[(b2,.cells #[I4 t] 3 (0,0))],[(b3,.cells #[I4 lo] 3 (0,0))],[(b4,.cells #[I4 hi] 3 (0,0))]] (fun r H'=>∃(J:List A9) (o:List AU),Bc 5 83 r o.length (Ae o) J/\o.Perm (rs.filter (inR t c lo hi))/\o.Pairwise (leV c)/\H'=[J,[(sp,.cells #[.map (some mb),I4 p] 258 (0,0))],[(mb,.map es ck)],[(b1,.cells #[I4 (c:Int)] 3 (0,0))],[(b2,.cells #[I4 t] 3 (0,0))],[(b3,.cells #[I4 lo] 3 (0,0))],[(b4,.cells #[I4 hi] 3 (0,0))]]):=by
 have l5:=mL;have kv:=hR.len hm hs
 refine Se func179 ntmps179 [0,1,2] ?_;intro u R;refine A0<|Ze (Bx #[_])<|AD fun cb=>A3 Y<|Zq<|A0<|Zm Y<|Zv (Be lE Y Y)<|A4<|AV Y (fun h1=>by cases h1)<|fun h1=>AC<|Zx<|A0<|A3 Y<|Zq<|A0<|Zm Y<|Zp Y V<|Zh 0 bj V rfl da Y<|Zv (Aq (off:=0) aw V rfl sizeOf254 Y)<|Zl isAgg254 Y ?_;refine Ze (NK hQ Y Wh)<|AD fun ib=>A4<|AP<|BV<|Zb [7,2,4,17] ?_;refine BB (e0:=[(7,_)]) (fun m e H=>∃(js:List Nat) (seen:Array Nat) (o:List AU) (w:Value) (J:List A9),m=lm.length -js.length/\(Ij es js seen/\Xj lm (inR t c lo hi) js o/\Bc 5 83 w o.length (Ae o) J/\o.length<=js.length)/\e=[(7,w)]/\H=[[(ib,.mapIter (some mb) ck seen ck)],J]) (by exact ⟨[],#[],[],.slice none 0 0,[],V,⟨KC _,oN _ _,Bf 5 _,CT _⟩,V,V⟩) Wp ?_;rintro _ _ _ ⟨js,seen,o,w,J,rfl,⟨U,cu,G,l8⟩,rfl,rfl⟩;obtain ⟨qo,gy,rfl⟩:=G.form;have cO:=F3 es.size js U.nodup U.lt
 rw [hm.size]at cO;refine A0<|Ze (PU hm U Y Wo Wh) ?_;rintro _ _ d9;rcases d9 with⟨K,rfl,rfl⟩|⟨jn,pn,seen2,hpn,hjn,hi2,rfl,rfl⟩
 ·
  refine Zd Y V<|A4<|Zq<|AV Y (fun hb=>by cases hb)<|fun hb=>Ay<|Zt<|Zt<|AR<|Zx<|A0<|Zm Y<|Zv (Bg (vs:=[]) (us:=[_]) Y Y)<|Zc [_,_] Y call235 Y V (hS cb c _ o J hc A1 G) ?_;rintro _ _ ⟨_,⟨rfl,gq,o2,ek,gm,bn,rfl⟩,rfl⟩;refine A4<|A0<|Zm Y<|A3 Y<|AJ<|AO V results179 Y (by exact ⟨gq,o2,bn,ek.trans (cu.done hm hR hs K),gm,V⟩)
 obtain ⟨r,hr,rfl⟩:=(hR.mem pn).1 (DG hpn);refine Zd Y V<|A4<|Zq<|AV Y (fun hb=>?_) (fun hb=>?_)
 ·
  have af:=F3 es.size (js++[jn]) hi2.nodup hi2.lt;rw [hm.size,B7,E0]at af;have j5:(js++[jn]).length=js.length+1:=by rw [B7];rfl
  have g:=cu.push (r:=r) (rs:=rs) hpn;have Z:(inR t c lo hi) r=true->Xj lm (inR t c lo hi) (js++[jn]) (o++[r]):=fun h=>by rw [h]at g;exact g
  have X:(inR t c lo hi) r=false->Xj lm (inR t c lo hi) (js++[jn]) o:=fun h=>by rw [h]at g;simpa using g
  refine AC<|Zx<|AP<|A0<|CO (cs:=[(ib,.mapIter (some mb) ck seen2 ck),(mb,.map es ck)]) B0 (JA hm hi2 hpn Y) V rfl ?_;refine Zd Y V<|Ze (Al DP #[_,_,_,_,_])<|AD fun xb=>Xe (Xw AW r.A16) ?_;refine A4<|A0<|Zm Y<|Zo Wh (Pa #[_,_,_,_,_] CH AW Y) ?_;refine Xr [_] Y call180 Y V (pJ r t c lo hi hc b1 b2 b3 b4) ?_;refine A4<|AV Y (fun O=>?_) (fun O=>?_)
  ·
   refine Zg<|Zm Y<|Zo Wh (Pa #[_,_,_,_,_] CH AW Y) ?_;refine Ze (Ah (vs:=[_]) (cs:=[_,_,_,_,_]) B6 AW DP Y V rfl V rfl V)<|AD fun gb=>Ze (BQ (by_:=40) (sz:=5) B6 (V:Tryz.prog.info? 83=some Tryz.t83) V rfl V rfl Y (G) Y (DJ 5 gb 1 1 83 (0,0) [I4 r.t,I4 r.k,I4 r.v.a,I4 r.v.b,I4 r.v.c] V) Wo Wo Fm A1 A1) ?_;rintro _ _ ⟨l9,I,rfl⟩;have ax:=BR I (n':=(o++[r]).length) (xs':=Ae (o++[r])) (by rw [B7];rfl) (by rw [Bi];rfl)
   obtain ⟨j3,ic,rfl⟩:=I.form;refine AG Y<|Zn [2,4,7,17] ?_;refine A8<|Zn [7,2,4,17] ?_;refine Aa (e':=[(7,_)]) (by exact ⟨js++[jn],seen2,o++[r],_,_,rfl,⟨hi2,Z O,ax,by rw [B7,B7];simp;omega⟩,rfl,rfl⟩)
  refine AC<|A8<|Zn [7,2,4,17] ?_;refine Aa (e':=[(7,_)]) (by exact ⟨js++[jn],seen2,o,_,J,rfl,⟨hi2,X O,G,by rw [B7];omega⟩,rfl,rfl⟩)
 cases hb
end Go.Proofs.YteaiajghbkenoaaGreatDoor
namespace Go.Proofs
open Go.Shelf
def Tryz.sortRow_ren:Go.Shelf.Ren:=⟨fun|6=>235|15=>117|14=>280|28=>199|29=>200|20=>308|21=>309|22=>310|23=>311|24=>312|25=>313|26=>314|27=>315|46=>335|47=>250|48=>251|49=>336|50=>337|57=>346|n=>n,fun|22=>51|24=>83|25=>336|3=>3|39=>222|0=>0|53=>300|55=>302|4=>4|46=>292|45=>291|50=>297|5=>5|9=>9|66=>348|70=>108|76=>385|77=>386|n=>n,fun|n=>n⟩
theorem Tryz.sortRow:Go.Proofs.SlLaysF0.n6 prog Tryz.sortRow_ren:={
 mixed:=by kernel_rfl
 f6:=⟨Tryz.f235.name,by decide,func235.trans (congrArg some A6)⟩
 f14:=⟨Tryz.f280.name,by decide,func280.trans (congrArg some A6)⟩
 f15:=func117.trans (congrArg some A6)
 f20:=⟨Tryz.f308.name,by decide,func308.trans (congrArg some A6)⟩
 f21:=⟨Tryz.f309.name,by decide,func309.trans (congrArg some A6)⟩
 f22:=⟨Tryz.f310.name,by decide,func310.trans (congrArg some A6)⟩
 f23:=⟨Tryz.f311.name,by decide,func311.trans (congrArg some A6)⟩
 f24:=⟨Tryz.f312.name,by decide,func312.trans (congrArg some A6)⟩
 f25:=⟨Tryz.f313.name,by decide,func313.trans (congrArg some A6)⟩
 f26:=⟨Tryz.f314.name,by decide,func314.trans (congrArg some A6)⟩
 f27:=⟨Tryz.f315.name,by decide,func315.trans (congrArg some A6)⟩
 f28:=func199.trans (congrArg some A6)
 f29:=func200.trans (congrArg some A6)
 f46:=⟨Tryz.f335.name,by decide,func335.trans (congrArg some A6)⟩
 f47:=func250.trans (congrArg some A6)
 f48:=func251.trans (congrArg some A6)
 f49:=⟨Tryz.f336.name,by decide,func336.trans (congrArg some A6)⟩
 f50:=⟨Tryz.f337.name,by decide,func337.trans (congrArg some A6)⟩
 f57:=⟨Tryz.f346.name,by decide,func346.trans (congrArg some A6)⟩
 t0:=cV
 a0:=isAgg0
 z0:=sizeOf0
 v0:=cX
 t3:=Cl
 a3:=AE
 z3:=A5
 v3:=Gk
 t4:=Pu
 a4:=E4
 z4:=CD
 v4:=Up
 t5:=Ln
 a5:=V0
 z5:=Hv
 v5:=S4
 t9:=GO
 a9:=HC
 z9:=F0
 v9:=HM
 t22:=B6
 a22:=Fl
 z22:=C5
 v22:=zeroValue51
 t25:=underlying336
 a25:=isAgg336
 z25:=sizeOf336
 v25:=zeroValue336
 t39:=W3
 a39:=isAgg222
 z39:=eo
 v39:=eW
 t45:=kq
 a45:=isAgg291
 z45:=sizeOf291
 v45:=lR
 t46:=kx
 a46:=isAgg292
 z46:=sizeOf292
 v46:=lf
 t50:=kn
 a50:=isAgg297
 z50:=sizeOf297
 v50:=lP
 t53:=Sp
 a53:=HO
 z53:=Fc
 v53:=ec
 t55:=W4
 a55:=Z3
 z55:=cy
 v55:=ee
 t66:=l3
 a66:=isAgg348
 z66:=sizeOf348
 v66:=lj
 t70:=l4
 a70:=isAgg108
 z70:=Sx
 v70:=W8
 t76:=lA
 a76:=isAgg385
 z76:=sizeOf385
 v76:=ln
 t77:=lB
 a77:=isAgg386
 z77:=sizeOf386
 v77:=lr}
end Go.Proofs
namespace Go.Proofs.YteaiajghbkenoaaGreatDoor
open Go.Proofs.Tryz
open Go Go.RowKit Gw
set_option maxRecDepth 100000
attribute [local irreducible] Gw.At Gw.Nx Gw.Ops
open Go.Sort Go.Shelf
attribute [local go_sem] Gl.evalE Gl.lookE Gl.linUpon Gl.wantedE Gl.yieldE Gl.putE
def nG(c:Nat)(a b:AU):Int:=orL (Lib.compareInt (Bl a (c:Int)) (Bl b (c:Int))) (Lib.compareInt a.k b.k)
def Stg(W:World)(n:Nat)(w:World):Prop:=∃q os,os.size=n/\w=grow (W.drewN q) os
theorem vP(W:World):Stg W 0 W:=⟨0,#[],rfl,by simp [World.drewN]⟩
variable{w W:World}{n:Nat}
theorem oI(h:Stg W n w):Stg W n w.drew:=by
 obtain ⟨q,os,rfl,rfl⟩:=h;exact ⟨q+1,os,V,V⟩
theorem OE(h:Stg W n w)(m:Nat)(g:Array Obj):Stg W (n+g.size) (grow (w.drewN m) g):=by
 obtain ⟨q,os,rfl,rfl⟩:=h;refine ⟨q+m,os++g,by simp,?_⟩;simp [grow,World.drewN,Array.append_assoc,gC]
theorem IE{b:Nat}{o:Obj}(h:Stg W n w)(m:W.heap[b]?=some o):w.heap[b]?=some o:=by
 obtain ⟨q,os,rfl,rfl⟩:=h;have g:=(HG.1 m).1
 show(W.heap++os)[b]?=_;rw [dp g];exact m
theorem oH(h:Stg W n w):w.heap.size=W.heap.size+n:=by
 obtain ⟨q,os,rfl,rfl⟩:=h;show(W.heap++os).size=_
 simp
theorem QJ(w:World)(o:Obj):(w.alloc o).heap[w.heap.size]?=some o:=by
 show(w.heap.push o)[w.heap.size]?=some o;exact Array.getElem?_push_size
theorem gT(w:World)(o:Obj):(w.alloc o).heap.size=w.heap.size+1:=Array.size_push _
def rn:Nat->Nat
 |0=>0|1=>1|2=>2|3=>2|4=>2|5=>3|_=>3
def tP(W:World)(T:Nat)(x y:Int)(k:Nat)(w:World):Prop:=Stg W (rn k) w/\(5<=k->w.heap[W.heap.size+2]?=some (.cells #[I4 x,I4 y] T (0,0)))
set_option maxHeartbeats 2000000 in
theorem nE(a b:AU)(c:Nat)(hc:c<=3)(cb:Nat)(W:World)(af:W.heap[cb]?=some (.cells #[I4 (c:Int)] 3 (0,0))):Calls prog 236 #[.agg a.A16,.agg b.A16,I5 cb] W fun e U=>e= .returned (I4 (nG c a b))/\∃q O,U=grow (W.drewN q) O:=by
 have bn:=(HG.1 af).1
 go_enter func236,ntmps236
 go_wp2
 generalize hW2:(W.alloc _).alloc _=W2;have Z:Stg W 2 W2:=by
  rw [<-hW2,alloc_eq_grow,alloc_eq_grow,grow_grow];exact ⟨0,_,V,V⟩
 have ax:Stg (W.alloc (.cells a.A16 83 (0,0))) 1 W2:=by
  rw [<-hW2,alloc_eq_grow _ (.cells b.A16 83 (0,0))];exact ⟨0,_,V,V⟩
 have hA:=IE ax (QJ _ _);have hB:W2.heap[W.heap.size+1]?=some (.cells b.A16 83 (0,0)):=by
  rw [<-hW2,<-gT W (.cells a.A16 83 (0,0))];exact QJ _ _
 have hC:=IE Z af;refine Gl.wp_region_lin [false,false,true,false,false,true,true,false,false,false,false,true,true,true,false] (tP W2 3 (Lib.compareInt (Bl a (c:Int)) (Bl b (c:Int))) (Lib.compareInt a.k b.k)) 20 V A6 A6 ⟨oI (vP W2),fun h=>absurd h AN⟩ ?_;intro fr J;have X:=Lib.hid J
 have e2:fr.tmps.getD 2 undef=I5 cb:=by rw [J];rfl
 have e3:fr.tmps.getD 3 undef= .pointer (some ⟨W.heap.size,0,none⟩):=by rw [J];rfl
 have e4:fr.tmps.getD 4 undef= .pointer (some ⟨W.heap.size+1,0,none⟩):=by rw [J];rfl
 clear J;apply Gl.wpLin_keep
 · intro j G g K m
   have I:=IE g.1 hA;have c0:=Ch (i:=0) I rfl
   have c1:=Ch (i:=1) I rfl;have c2:=Ch (i:=2) I rfl
   have c3:=Ch (i:=3) I rfl;have c4:=Ch (i:=4) I rfl
   go_simp
   exact m _ g
 apply Gl.wpLin_keep
 · intro j G g K m
   have c0:=Ch (i:=0) (IE g.1 hC) rfl
   go_simp
   exact m _ g
 apply Gl.wpLin_move
 · intro G g K m
   go_simp
   exact (JQ a (c:Int) A1 _).mono (by
    rintro e U ⟨rfl,q,o,rfl⟩;exact ⟨_,V,m _ ⟨OE g.1 q #[o],fun h=>absurd h AN⟩⟩)
 apply Gl.wpLin_keep
 · intro j G g K m
   have I:=IE g.1 hB;have c0:=Ch (i:=0) I rfl
   have c1:=Ch (i:=1) I rfl;have c2:=Ch (i:=2) I rfl
   have c3:=Ch (i:=3) I rfl;have c4:=Ch (i:=4) I rfl
   go_simp
   exact m _ g
 apply Gl.wpLin_keep
 · intro j G g K m
   have c0:=Ch (i:=0) (IE g.1 hC) rfl
   go_simp
   exact m _ g
 apply Gl.wpLin_move
 · intro G g K m
   go_simp
   exact (JQ b (c:Int) A1 _).mono (by
    rintro e U ⟨rfl,q,o,rfl⟩;exact ⟨_,V,m _ ⟨OE g.1 q #[o],fun h=>absurd h AN⟩⟩)
 apply Gl.wpLin_move
 · intro G g K m
   go_simp
   exact (Tryz.cmp_Compare_int _ _ _).mono (by
    rintro e U ⟨rfl,rfl⟩;exact ⟨_,V,m _ ⟨g.1,fun h=>absurd h AN⟩⟩)
 apply Gl.wpLin_keep
 · intro j G g K m
   go_simp
   exact m _ g
 apply Gl.wpLin_keep
 · intro j G g K m
   have c1:=Ch (i:=1) (IE g.1 hA) rfl
   go_simp
   exact m _ g
 apply Gl.wpLin_keep
 · intro j G g K m
   go_simp
   exact m _ g
 apply Gl.wpLin_keep
 · intro j G g K m
   have c1:=Ch (i:=1) (IE g.1 hB) rfl
   go_simp
   exact m _ g
 apply Gl.wpLin_move
 · intro G g K m
   go_simp
   exact (Tryz.cmp_Compare_int _ _ _).mono (by
    rintro e U ⟨rfl,rfl⟩;exact ⟨_,V,m _ ⟨g.1,fun h=>absurd h AN⟩⟩)
 apply Gl.wpLin_move (v:= .slice (some ⟨W2.heap.size+2,0,none⟩) 2 2)
 · intro G g K m
   have hz:=oH g.1;change G.heap.size=W2.heap.size+2 at hz
   go_simp
   have h:=m _ ⟨OE g.1 0 #[.cells #[I4 (Lib.compareInt (Bl a (c:Int)) (Bl b (c:Int))),I4 (Lib.compareInt a.k b.k)] 3 (0,0)],fun _=>?_⟩
   · rw [alloc_eq_grow]
     exact h
   · rw [<-hz]
     exact QJ G _
 apply Gl.wpLin_move
 · intro G g K m
   have I:=g.2 AN
   go_simp
   exact (qU _ _ _ _ (Ch (i:=0) I V) (Ch (i:=1) I V)).mono (by
    rintro e U ⟨rfl,rfl⟩;exact ⟨_,V,m _ ⟨g.1,fun _=>I⟩⟩)
 apply Gl.wpLin_keep
 · intro j G g K m
   go_simp
   exact m _ g
 apply Gl.wpLin_done;intro wz hz;rw [X.out];simp only [Gl.putE,Gl.putsE,Act.put,mC,List.set_cons_zero,List.set_cons_succ];obtain ⟨⟨q,os,-,rfl⟩,-⟩:=hz;clear X
 go_wp2
 go_ret
 obtain ⟨q',O,-,h⟩:=OE Z q os;exact ⟨V,q',O,h⟩
end Go.Proofs.YteaiajghbkenoaaGreatDoor
namespace Go.Proofs.YteaiajghbkenoaaGreatDoor
open Go.Proofs.Tryz
open Go Go.RowKit Gw
set_option maxRecDepth 100000
attribute [local irreducible] Gw.At Gw.Nx Gw.Ops
open Go.Sort Go.Shelf
instance:Inhabited AU:=⟨⟨0,0,⟨0,0,0⟩⟩⟩
def Tu(r:AU):List Value:=[I4 r.t,I4 r.k,I4 r.v.a,I4 r.v.b,I4 r.v.c]
theorem ltR(c:Nat)(a b:AU):ltOf (nG c) a b=decide (Bl a (c:Int)<Bl b (c:Int)\/Bl a (c:Int)=Bl b (c:Int)/\a.k<b.k):=by
 unfold ltOf nG orL Lib.compareInt;have g:=Int.lt_trichotomy (Bl a (c:Int)) (Bl b (c:Int))
 have h2:=Int.lt_trichotomy a.k b.k;generalize Bl a (c:Int)=x at*;generalize Bl b (c:Int)=y at*;apply decide_eq_decide.2;split<;>split<;>(try split)<;>(try split)<;>omega
theorem rj(c:Nat):SWO (ltOf (nG c))where
 irrefl x:=by rw [ltR];simp
 trans x y z h1 h2:=by rw [ltR]at*;simp only [G2]at*;omega
 ntrans x y z h1 h2:=by rw [ltR]at*;simp only [Mn]at*;omega
theorem vR:uY:=by
 intro I c w o s hc hn j3;obtain ⟨kv,⟨rfl,h0,rfl⟩|⟨g,cap,cur,z,rfl,rfl,gq,d9,U,j5,bn⟩⟩:=j3
 · intro u R X O
   have ho:o=[]:=LN h0;subst ho;have hN:=AnyF.slices_SortFunc_none Tryz.sortRow none 0 (.func (.func 236) #[] #[I5 I]) X
   exact hN.mono (by
    rintro e w' ⟨rfl,rfl⟩;exact .inl ⟨_,_,V,⟨V,[],[],.refl _,.nil,Bf _ _,V⟩,O⟩)
 · intro u R X O
   have hb:=O.get (g,.cells cur 83 z) B0;have cO:=O.get (I,.cells #[I4 (c:Int)] 3 (0,0)) B0
   have ic:g≠I:=by
    have:=O.nodup;simp at this;exact this.1.1
   have hH:=TS (w:=X) (g:=g) (cur:=cur) (e:=83) (z:=z) Tu 5 (fun _=>rfl) o hb (by rw [U];omega) bn j5;have eg:∀(args:Array Value) (w:World),(callFunc 236 args).run prog w= .ok (.enter 236 args) w:=enters_of func236 A6 rfl
   have af:CmpLays prog 236 #[I5 I] Tu 5 (nG c) g 0 o.toArray.size X:=by
    intro m os dk l5 x y;refine nE x y c hc I _ ?_;have gy:=O.lt (p:=(I,.cells #[I4 (c:Int)] 3 (0,0))) B0
    rw [Pb Tu 5 X g m I dk os ic gy];exact cO
   have ax:=AnyQ.slices_SortFunc Tryz.sortRow 5 CH AW Tu (fun _=>rfl) (fun x v hv=>by simp [Tu]at hv;rcases hv with rfl|rfl|rfl|rfl|rfl<;>rfl) (nG c) (rj c) 236 #[I5 I] g 0 cap o.toArray X eg af hH (O.lt (p:=(g,.cells cur 83 z)) B0) HQ;refine ax.mono ?_;rintro e w' ⟨rfl,G,n,os,⟨ek,-,hpm⟩,hso,rfl⟩;have J:G.size=o.length:=by simpa using ek
   have hF:(flatK Tu 5 G).toList=Ae G.toList:=Nl Tu 5 (fun _=>rfl) G.toList;have Z:(flatK Tu 5 G).size=o.length*5:=by rw [size_flatK,J]
   have K:G.toList.Perm o:=by
    have e1:G.extract 0 o.toArray.size=G:=by
     rw [show o.toArray.size=G.size by rw [J];simp];exact Array.extract_size
    rw [e1]at hpm;simpa using hpm
   have cu:G.toList.length=o.length:=K.length_eq;refine .inl ⟨_,[[(g,.cells (putCells id 0 (flatK Tu 5 G) cur) 83 z)],[(I,.cells #[I4 (c:Int)] 3 (0,0))]],V,⟨V,_,G.toList,K,?_,?_,V⟩,O.sortedK Tu G os⟩
   · rw [dq]
     intro i j hi hj gm;have h:=hso i j (C0 _) gm HQ
     rw [ltR]at h;simp only [Mn]at h;rw [getElem!_pos G i (by simpa using hi),getElem!_pos G j (by simpa using hj)]at h;rw [LG _ c hc,LG _ c hc]at h;unfold leV;simp only [Array.getElem_toList];omega
   · rw [cu]
     refine ⟨by rw [BF,cu],.inr ⟨g,cap,_,z,rfl,rfl,gq,d9,by rw [MO];exact U,?_,by rw [MO];exact bn⟩⟩;have h:=VF cur (flatK Tu 5 G) (by rw [Z,U];omega)
     rw [Z,hF]at h;exact h
end Go.Proofs.YteaiajghbkenoaaGreatDoor
namespace Go.Proofs.YteaiajghbkenoaaGreatDoor
open Go.Proofs.Tryz
open Go Go.RowKit Gw
set_option maxRecDepth 100000
attribute [local irreducible] Gw.At Gw.Nx Gw.Ops
theorem Vj(c:Nat)(out:List AU)(x:AU):∃A B,out=A++B/\ZN c out x=A++[x]++B/\(∀r∈B,Dc x c<Dc r c)/\(A=[]\/∃m r,A=m++[r]/\Dc r c<=Dc x c):=by
 let q:AU->Bool:=fun r=>decide (Dc x c<Dc r c)
 have e:out=(out.reverse.dropWhile q).reverse++(out.reverse.takeWhile q).reverse:=by
  rw [<-nF,List.takeWhile_append_dropWhile,List.reverse_reverse]
 have G:dO c out (Dc x c)=(out.reverse.dropWhile q).reverse.length:=by
  rw [ju];rfl
 refine ⟨(out.reverse.dropWhile q).reverse,(out.reverse.takeWhile q).reverse,e,?_,?_,?_⟩
 · unfold ZN
   rw [G];generalize (out.reverse.dropWhile q).reverse=A at*;generalize (out.reverse.takeWhile q).reverse=B at*;subst e;rw [HJ,W0];all_goals rfl
 · intro r g
   rw [e5]at g;have:=List.all_takeWhile (p:=q) (l:=out.reverse)
   rw [MA]at this;simpa [q]using this r g
 · cases h:out.reverse.dropWhile q with
   |nil=>left;rfl
   |cons r l=>
    right;refine ⟨l.reverse,r,by simp,?_⟩;have:=List.head?_dropWhile_not q out.reverse
    rw [h]at this;simpa [q]using this
theorem Vi(c:Nat)(out:List AU)(x:AU):(ZN c out x).Perm (x::out):=by
 obtain ⟨A,B,e1,e2,_,_⟩:=Vj c out x;rw [e2,e1,CA];exact RR
theorem TY(c:Nat):∀(l out:List AU),(l.foldl (ZN c) out).Perm (out++l)
 |[],out=>by simp
 |x::l,out=>by
  rw [TO];refine (TY c l _).trans ?_;refine ((Vi c out x).append_right l).trans ?_;exact RR.symm
variable{c:Nat}{x:AU}
theorem ZM{out:List AU}(h:out.Pairwise (leV c))(K:∀r∈out,r.k<x.k):(ZN c out x).Pairwise (leV c):=by
 obtain ⟨A,B,e1,e2,X,U⟩:=Vj c out x;rw [e2];rw [e1]at h K;rw [O2]at h;obtain ⟨G,h2,O⟩:=h;have I:∀r∈A,Dc r c<=Dc x c:=by
  rcases U with rfl|⟨A',r0,rfl,h0⟩
  · intro r g;simp at g
  · intro r g
    rcases B9.1 g with hr'|hr'
    · rw [O2]at G
      have:=G.2.2 r hr' r0 B0;unfold leV at this;omega
    · rw [BT]at hr'
      subst hr';exact h0
 rw [CA,O2];refine ⟨G,?_,?_⟩
 · rw [Ly,On]
   exact ⟨fun r g=> .inl (X r g),h2⟩
 · intro a J b m
   rw [Ly,D0]at m;rcases m with rfl|m
   · have Z:=I a J
     have h5:=K a (DS _ J);unfold leV;omega
   · exact O a J b m
theorem P9(c:Nat):∀(l out:List AU),out.Pairwise (leV c)->l.Pairwise (fun a b=>a.k<b.k)->(∀r∈out,∀x∈l,r.k<x.k)->(l.foldl (ZN c) out).Pairwise (leV c)
 |[],out,h,_,_=>h
 |x::l,out,h,h2,h3=>by
  rw [TO];rw [On]at h2;refine P9 c l _ (ZM h fun r g=>h3 r g x B0) h2.2 ?_;intro r g y m;have:=(Vi c out x).mem_iff.1 g
  rcases D0.1 this with rfl|hm
  · exact h2.1 y m
  · exact h3 r hm y (by simp [m])
variable{rs:List AU}{t:Int}{f:AU->Bool}
theorem Q7(K:BP rs)(m:∀r,f r=true->r.t=t):(rs.filter f).Pairwise (fun a b=>a.k<b.k):=by
 have G:(rs.filter f).Pairwise (fun a b=>a.lt2 b.t b.k):=K.filter f;refine G.imp_of_mem ?_;intro a b I J g;have h2:=m a (F1.1 I).2
 have O:=m b (F1.1 J).2;unfold AU.lt2 at g;omega
theorem rT{l:List AU}(h:l.Pairwise (fun a b=>a.k<b.k)):∀a∈l,∀b∈l,a.k=b.k->a=b:=by
 induction l with
 |nil=>intro a g;simp at g
 |cons x l ih=>
  rw [On]at h;intro a g b m e;rcases D0.1 g with ea|ha'<;>rcases D0.1 m with eb|hb'
  · rw [ea,eb]
  · have:=h.1 b hb';rw [ea]at e;omega
  · have:=h.1 a ha';rw [eb]at e;omega
  · exact ih h.2 a ha' b hb' e
variable{r:AU}
theorem j4{lo hi:Int}(h:inR t c lo hi r=true):r.t=t:=(HP h).1
theorem EO(rs:List AU)(t:Int)(c:Nat)(lo hi:Int):(Dm rs t c lo hi).Perm (rs.filter (inR t c lo hi)):=by
 have:=TY c (rs.filter (inR t c lo hi)) [];rw [KK]at this;exact this
theorem Ei(m:BP rs)(t:Int)(c:Nat)(lo hi:Int):(Dm rs t c lo hi).Pairwise (leV c):=
 P9 c _ [] .nil (Q7 m fun r h=>j4 h) (by intro r g;simp at g)
theorem Rn(U:BP rs)(K:∀r,f r=true->r.t=t){a b:List AU}(G:a.Perm (rs.filter f))(I:b.Perm (rs.filter f))(J:a.Pairwise (leV c))(h2:b.Pairwise (leV c)):a=b:=by
 have O:=Q7 U K;refine (G.trans I.symm).eq_of_pairwise ?_ J h2;intro x y X Z g m;refine rT O x (G.mem_iff.1 X) y (I.mem_iff.1 Z) ?_;unfold leV at g m;omega
theorem VE(g:BP rs){lo hi:Int}{o:List AU}(m:o.Perm (rs.filter (inR t c lo hi)))(h2:o.Pairwise (leV c)):o=Dm rs t c lo hi:=
 Rn g (fun r h=>j4 h) m (EO rs t c lo hi) h2 (Ei g t c lo hi)
def inT(t:Int)(r:AU):Bool:=decide (r.t=t)
def IC(rs:List AU)(t:Int):List AU:=rs.filter (inT t)
def RA(v:Value)(p:Int)(rs:List AU)(s:List A9):Prop:=∃sp mb es ck lm,v=I5 sp/\Cj K2 es ck lm/\Gv lm rs/\BP rs/\rs.length<=2000/\s=[(sp,.cells #[.map (some mb),I4 p] 258 (0,0)),(mb,.map es ck)]
theorem jd(m mb:Nat)(p:Int)(es:Array MapEntry)(ck:Nat)(lm:List ((Int×Int)×Value))(rs:List AU)(hm:Cj K2 es ck lm)(hR:Gv lm rs)(O:BP rs)(hn:rs.length<=2000)(t:Int)(c:Nat)(lo hi:Int)(hc:c<=3):
 Ba prog 105 #[I5 m,I4 t,I4 (c:Int),I4 lo,I4 hi] [[(m,.cells #[.map (some mb),I4 p] 258 (0,0))],[(mb,.map es ck)]] (fun r H'=>∃g,Bc 5 83 r (Dm rs t c lo hi).length (Ae (Dm rs t c lo hi)) g/\H'=[g,[(m,.cells #[.map (some mb),I4 p] 258 (0,0))],[(mb,.map es ck)]]):=by
 refine Se func105 ntmps105 [0,1,2,3,4] ?_;intro u R;refine A0<|Ze (Bx #[_])<|AD fun X=>Ze (Bx #[_])<|AD fun U=>Ze (Bx #[_])<|AD fun Z=>Ze (Bx #[_])<|AD fun b4=>A3 Y<|Zq<|A0<|Zl AE Y ?_;refine Zv (Au (n:=0) Y Y)<|Zm Y<|Ao (t:=13) Y V (fun K=>?_) (fun K=>?_)
 ·
  exfalso;(cases K;done)
 refine Yl AE Y ?_;refine Yg (Fw (n:=4) Y Y)<|Zv (AL Y Y)<|A4<|Av Y (fun h2=>by omega)<|fun h2=>AC<|Zx<|A0<|Zm Y<|Zl AE Y ?_;refine Zv (Bg (vs:=[]) (us:=[_,_,_,_]) Y Y)<|Zc [_,_,_] Y call179 Y V (XU vR m mb p es ck lm rs hm hR O hn t c lo hi hc U X Z b4) ?_;rintro _ _ ⟨_,⟨g,o,J,G,I,rfl⟩,rfl⟩;have e9:=VE O G I
 subst e9;refine AG Y<|Zn [10] ?_;refine Zx<|AJ<|AO V results105 Y (by exact ⟨g,J,V⟩)
theorem Y6(v:Value)(p:Int)(rs:List AU)(s:List A9)(hv:RA v p rs s)(t:Int)(c:Nat)(lo hi:Int)(hc:c<=3):Ba prog 105 #[v,I4 t,I4 (c:Int),I4 lo,I4 hi] [s] (fun r H'=>∃g,Bc 5 83 r (Dm rs t c lo hi).length (Ae (Dm rs t c lo hi)) g/\H'=[g,s]):=by
 obtain ⟨O,mb,es,ck,lm,rfl,I,G,K,J,rfl⟩:=hv;refine Gs (jd O mb p es ck lm rs I G K J t c lo hi hc) B0 ?_;rintro r H' ⟨g,m,rfl⟩;exact ⟨_,⟨g,m,V⟩,by simp⟩
def E8(M:List A9)(v:Value)(rs:List AU):Prop:=∃p cap,v= .slice p rs.length cap/\(rs.length<=maxLen/\rs.length<=cap)/\∀(i:Nat) (x:AU),rs[i]?=some x->∃g off cur T zz,p=some ⟨g,off,none⟩/\(g,Obj.cells cur T zz)∈M/\off+i*5+5<=cur.size/\cur.extract (off+i*5) (off+i*5+5)=x.A16
variable{v:Value}{s:List A9}
theorem DT{e:TypeId}(h:Bc 5 e v rs.length (Ae rs) s)(J:rs.length<=maxLen):E8 s v rs:=by
 obtain ⟨b,cap,rfl⟩:=h.form;refine ⟨b,cap,V,⟨J,Es h⟩,fun i x I=>?_⟩;obtain ⟨g,G,cur,z,hv,rfl,K,m⟩:=Ju h i (BE.1 I).1;injection hv with hv1 hv2 hv3
 refine ⟨g,0,cur,e,z,hv1,by simp,by omega,?_⟩;unfold Ae at m;rw [Iq _ 5 (fun _=>rfl) rs i x I]at m;rw [D2];exact HI.1 m
variable{M:List A9}
theorem E8.mono{m:List A9}{ls:List AU}(h:E8 M v ls)(K:∀c∈M,c∈m):E8 m v ls:=by
 obtain ⟨p,cap,e,J,I⟩:=h;refine ⟨p,cap,e,J,fun i s O=>?_⟩;obtain ⟨g,off,cur,T,zz,e1,G,h2⟩:=I i s O;exact ⟨g,off,cur,T,zz,e1,K _ G,h2⟩
theorem Fs(r:AU)(c:Int)(hc:0<=c/\c<=3):BJ prog 140 #[.agg r.A16,I4 c] [] (I4 (Bl r c)):=fun u R w g=>
 (JQ r c hc w).mono (by
   rintro e m ⟨rfl,q,o,rfl⟩;exact .inl ⟨_,[],V,⟨V,V⟩,Rt g q _⟩)
variable{n:Nat}
theorem PE{cur xs:Array Value}{a:Nat}(h:cur.extract a (a+n)=xs)(m:a+n<=cur.size)(j:Nat)(g:j<n):cur[a+j]?=xs[j]?:=by
 rw [<-h,ab,AK A1]
theorem Tw{p q:Prop} [Decidable p] [Decidable q](h:p↔q):Value.bool (decide p)=Value.bool (decide q):=by rw [decide_eq_decide.2 h]
variable{P:Program}{args:Array Value}
theorem Qm{f:FuncId}(h:BJ P f args [] v):BJ P f args [M] v:=fun u R w m=>
 Calls.mono (h u ([M]++R) w m) fun e I g=>by
  rcases g with⟨G,H',rfl,⟨rfl,rfl⟩,h2⟩|⟨ch,H',rfl,h1,h2⟩
  · exact .inl ⟨_,[M],rfl,⟨rfl,rfl⟩,h2⟩
  · exact h1.elim
variable{B A:List A9}
theorem aO{f:FuncId}(h:BJ P f args [B] v):BJ P f args [A++B] v:=fun u R w m=>
 Calls.mono (h u ([A]++R) w (m.perm (by simp only [GP,C4,FA,Cp];rw [<-CA];exact LO.append_right _))) fun e I g=>by
  rcases g with⟨G,H',rfl,⟨rfl,rfl⟩,h2⟩|⟨ch,H',rfl,h1,h2⟩
  · refine .inl ⟨_,[A++B],rfl,⟨rfl,rfl⟩,h2.perm ?_⟩
    simp only [GP,C4,FA,Cp];rw [<-CA];exact LO.append_right _
  · exact h1.elim
theorem mo{f:FuncId}(h:BJ P f args [A++B] v):BJ P f args [A,B] v:=by
 refine Gs h B0 ?_;rintro r H' ⟨rfl,rfl⟩;exact ⟨_,⟨V,V⟩,by simp⟩
theorem Bh{α:Type}{xs:List α}{j:Nat}{x:α}(h:xs[j]?=some x):xs.take (j+1)=xs.take j++[x]:=by rw [P0,h];rfl
variable{k:Nat}
theorem je(h:rs[k]?=some r):Ae rs=Ae (rs.take k)++(Ae [r]++Ae (rs.drop (k+1))):=by
 rw [<-Bi,<-Bi];congr 1;obtain ⟨g,rfl⟩:=BE.1 h;rw [Ly,<-R0 g,Hx]
theorem LV(h:rs[k]?=some r)(j:Nat)(g:j<5):(Ae rs)[k*5+j]?=(Ae [r])[j]?:=by
 have m:=(BE.1 h).1;have e:(Ae (rs.take k)).length=k*5:=by rw [BF,C2];omega
 rw [je h,SJ A1,a8 (by rw [e,BF];simp;omega),e,Nat.add_sub_cancel_left]
theorem YF{p:Option Addr}{cap:Nat}(h:E8 M (.slice p n cap) rs):FK M p (Ae rs):=by
 obtain ⟨p',J,e,hl,X⟩:=h;injection e with e1 e2 e3
 subst e1;intro j u K;have G:=(BE.1 K).1
 rw [BF]at G;obtain ⟨x,O⟩:∃x,rs[j/5]?=some x:=⟨_,B4 A1⟩;obtain ⟨g,off,cur,T,zz,rfl,Z,I,m⟩:=X (j/5) x O;refine ⟨g,off,cur,T,zz,V,Z,?_⟩;have U:=PE m I (j%5) A1
 have h2:=LV O (j%5) A1;rw [show j/5*5+j%5=j by omega,K]at h2;rw [show off+j=off+j/5*5+j%5 by omega,U,h2,<-HE];rfl
theorem Gd(hv:E8 M v rs)(hb:rs.length<=1000000000000):Ba prog 109 #[v] [M] (fun r H'=>∃O,Bc 5 83 r rs.length (Ae rs) O/\H'=[O,M]):=by
 have af:=mL;obtain ⟨p,cap,rfl,⟨hl,Z⟩,X⟩:=id hv;have G:FK M p (Ae rs):=YF hv
 refine Se func109 ntmps109 [0] ?_;intro u R;refine A0<|A3 Y<|Zq<|A0<|Zm Y<|Zv (Dk B6 Y Y)<|A4<|AV Y (fun K=>?_) (fun K=>?_)
 ·
  have I:p=none:=by cases p with
   |none=>rfl
   |some x=>cases K
  have h0:rs=[]:=by
   cases rs with
   |nil=>rfl
   |cons x l=>obtain ⟨g,off,cur,T,zz,J,_⟩:=X 0 x rfl;rw [I]at J;cases J
  refine Zq<|BV<|Zg<|A3 Y<|AJ<|Zt<|AO rfl results109 Y (by exact ⟨[],by rw [h0];exact Bf 5 _,rfl⟩)
 refine AC<|Zx<|A0<|Ze (EM B6 AW)<|AD fun U=>Zm Y<|Ze (H8 (by_:=40) (sz:=5) B6 (V:Tryz.prog.info? 83=some Tryz.t83) V rfl V rfl Y (II 5 83 U 0 [] V AN) Y (G) (by exact BF _) AN Wo Wo (by exact CR _) A1 A1) ?_;rintro _ _ ⟨ax,m,rfl⟩;replace m:=BR m (D2 _) (KK _);refine A3 Y<|AJ<|AO V results109 Y (by exact ⟨_,m,V⟩)
def R5(pd:AU->Bool)(rows:List AU):Int:=(rows.findIdx? pd).elim (-1) fun i=>(i:Int)
variable{rows:List AU}{i:Nat}
theorem ry{g:AU->Bool}(h:∀(j:Nat) (y:AU),j<i->rows[j]?=some y->g y=false)(I:rows[i]?=some x)(G:g x=true):R5 g rows=(i:Int):=by
 obtain ⟨hi,rfl⟩:=BE.1 I;unfold R5;rw [Wf.2 ⟨hi,G,fun j m=>by simp [h j _ m (B4 A1)]⟩];rfl
theorem rz{m:AU->Bool}(h:∀(j:Nat) (y:AU),j<rows.length->rows[j]?=some y->m y=false):R5 m rows=-1:=by
 unfold R5;rw [cI.2 fun y G=>by
  obtain ⟨j,g⟩:=GW G;exact h j y (BE.1 g).1 g]
 rfl
theorem lc(g:AU->Bool)(rows:List AU):(R5 g rows=-1/\∀y∈rows,g y=false)\/∃(i:Nat) (x:AU),R5 g rows=(i:Int)/\rows[i]?=some x/\g x=true/\∀(j:Nat) (y:AU),j<i->rows[j]?=some y->g y=false:=by
 unfold R5;cases h:rows.findIdx? g with
 |none=>exact .inl ⟨rfl,cI.1 h⟩
 |some i=>
  obtain ⟨m,h2,G⟩:=Wf.1 h;refine .inr ⟨i,_,V,B4 m,h2,fun j y I J=>?_⟩;obtain ⟨K,rfl⟩:=BE.1 J;simpa using G j I
theorem pu(g:k<rs.length)(x:AU):(Ae rs).take (k*5)++Ae [x]++(Ae rs).drop (k*5+(Ae [x]).length)=Ae (rs.set k x):=by
 rw [show k*5+(Ae [x]).length=(k+1)*5 by rw [BF];simp;omega,EA,De,<-Bi,<-Bi,ir,AK g];simp
theorem aH{cur:Array Value}(g:Bz cur 0 (Ae rs))(G:rs[k]?=some x):k*5+5<=cur.size/\cur.extract (0+k*5) (0+k*5+5)=(Ae [x]).toArray:=by
 have X:=(BE.1 G).1;have U:k*5+5<=cur.size:=by
  have K:=LV G 4 AN;have O:=g.get (k*5+4) _ (K.trans AM)
  have:=(HG.1 O).1;omega
 refine ⟨U,?_⟩;apply HI.1;apply Lz;intro j;rw [HE,ab];split
 · rename_i hj
   have m:j<5:=by omega
   have I:=LV G j m;obtain ⟨u,J⟩:∃u,(Ae [x])[j]?=some u:=⟨_,B4 (by rw [BF];simpa using m)⟩;rw [J]at I;have h2:=g.get _ _ I
   rw [D2]at h2;rw [D2,h2];exact J.symm
 · rw [Mp]
   show(Ae [x]).length<=j;rw [BF];simp only [E0];omega
theorem Y9{α:Type}{xs:List α}(hi:i<xs.length)(x:α):(xs.set i x).take (i+1)=xs.take i++[x]:=by
 rw [ir,AK hi,List.take_append,C2,PB A1];rw [Hi (by rw [C2];omega),show i+1 -i=1 by omega];simp
theorem Lx{j:Nat}(f:AU->Bool)(g:rows[j]?=some x):(rows.take (j+1)).filter f=(rows.take j).filter f++(if f x then [x]else []):=by
 rw [Bh g,HU];congr 1;rw [ar,kf]
theorem Np(h:∀(j:Nat) (y:AU),rows[j]?=some y->f y=true):rows.filter f=rows:=jt.2 fun y m=>by
 obtain ⟨j,g⟩:=GW m;exact h j y g
theorem TQ(hv:E8 A v rows)(G:Nat)(us:List Value)(pd:AU->Bool)(U:∀(args:Array Value) (w:World),(callFunc G args).run prog w= .ok (.enter G args) w)(hf:∀x:AU,BJ prog G (.agg x.A16::us).toArray [B] (.bool (pd x))):BJ prog 172 #[v,.func (.func G) #[] us.toArray] [A,B] (I4 (R5 pd rows)):=by
 have bn:=mL;obtain ⟨p,cap,rfl,⟨hl,ax⟩,hg⟩:=id hv;refine Se func172 ntmps172 [0,1] ?_;intro u R;refine A0<|A3 Y<|Zq<|A0<|Zm Y<|Zv (Ab B6 Y)<|Zm Y<|A4<|AP<|Zb [8,0,1,7] ?_;refine BB (e0:=[(8,_)]) (fun m e H=>∃(i:Nat),m=rows.length -i/\(i<=rows.length/\∀(j:Nat) (y:AU),j<i->rows[j]?=some y->pd y=false)/\e=[(8,I4 (i:Int))]/\H=[]) (by exact ⟨0,V,⟨C0 _,fun j y h=>by omega⟩,V,V⟩) Wp ?_;rintro _ _ _ ⟨i,rfl,⟨hi,I⟩,rfl,rfl⟩;refine A0<|Zv (Au Y Y)<|A4<|Zq<|Av Y (fun O=>?_) (fun O=>?_)
 ·
  obtain ⟨x,Z⟩:∃x,rows[i]?=some x:=⟨_,B4 O⟩;obtain ⟨g,off,cur,T,zz,rfl,X,af,K⟩:=hg i x Z;refine AC<|Zx<|Zq<|AP<|A0<|Zm Y<|A3 Y<|A0<|Zm Y<|Zm Y<|Zm Y<|BX (Ad B6 AW Y Y A1)<|CO (cs:=[(g,.cells cur T zz)]) (by simp [X]) (AA (cs:=x.A16) CH AW Y A1 K) V rfl ?_;refine Xr [_] Y (U) Y V (hf x) ?_;refine A4<|AV Y (fun J=>?_) (fun J=>?_)
  ·
   refine A0<|Zm Y<|A3 Y<|AJ<|Ac<|Zt<|Zt<|Ac<|Zt<|AO V el Y (by exact ⟨congrArg (Value.int .i64) (ry I Z J).symm,V⟩)
  refine AC<|A8<|Zx<|Zg<|Ya (n:=1) Y Y<|Zm Y<|Z0<|Zn [8,0,1,7] ?_;refine Aa (e':=[(8,_)]) (by exact ⟨i+1,rfl,⟨by omega,fun j y h1 h2=>by rcases EV j i with h9|h9;exact I j y h9 h2;obtain rfl:j=i:=A1;rw [Z]at h2;injection h2 with h2;subst h2;exact J⟩,rfl,rfl⟩)
 have ei:i=rows.length:=by omega
 subst ei;refine Ay<|Zt<|Zt<|AR<|Zx<|A0<|A3 Y<|AJ<|AO V el Y (by exact ⟨congrArg (Value.int .i64) (rz I).symm,V⟩)
set_option maxHeartbeats 1000000 in
theorem aR(G:Bc 5 83 v rows.length (Ae rows) s)(hn:rows.length<=1000000000)(J:Nat)(us:List Value)(U:AU->Bool)(bn:∀(args:Array Value) (w:World),(callFunc J args).run prog w= .ok (.enter J args) w)(hf:∀x:AU,BJ prog J (.agg x.A16::us).toArray [B] (.bool (U x))):Ba prog 255 #[v,.func (.func J) #[] us.toArray] [s,B] (fun r H'=>∃s',Bc 5 83 r (rows.filter fun x=>!U x).length (Ae (rows.filter fun x=>!U x)) s'/\H'=[s',B]):=by
 have p8:=mL;obtain ⟨p,cap,rfl⟩:=G.form;have hU:=DT G A1
 refine Se func255 ntmps255 [0,1] ?_;intro u R;refine A0<|A3 Y<|A0<|Zm Y<|Zm Y<|Xr [_,_] Y call172 Y V (TQ hU J us U bn hf) ?_;rcases lc U rows with⟨e9,X⟩|⟨k,x0,e9,hx0,hp0,hno⟩
 ·
  rw [e9];refine A3 Y<|Zq<|A0<|Zm Y<|Zv (CP Y Y)<|A4<|Av Y (fun h1=>?_) (fun h1=>?_)
  ·
   refine A0<|Zm Y<|A3 Y<|AJ<|Zt<|AO rfl results255 Y (by exact ⟨_,BR G (congrArg List.length (Np fun j y hy=>by rw [X y (DG hy)];rfl).symm) (congrArg Ae (Np fun j y hy=>by rw [X y (DG hy)];rfl).symm),rfl⟩)
  exact absurd V h1
 rw [e9];have o9:=(BE.1 hx0).1
 obtain ⟨g,j3,cur,z,ic,rfl,l5,kv⟩:=Dv G A1;injection ic with hv1 hv2 hv3
 subst hv1 hv3;refine A3 Y<|Zq<|A0<|Zm Y<|Zv (CP Y Y)<|A4<|Av Y (fun h2=>by omega)<|fun h2=>AC<|Zx<|Zq<|A0<|Zm Y<|Ya (n:=1) Y Y<|A3 Y<|AP<|Zb [5,6,0,1] ?_;refine BB (e0:=[(5,_),(6,_)]) (fun m e H=>∃(i j:Nat) (W:List AU) (cur:Array Value),m=rows.length -j/\((i<j/\j<=rows.length)/\W.length=rows.length/\Bc 5 83 (I6 g rows.length cap) rows.length (Ae W) [(g,.cells cur 83 z)]/\W.take i=(rows.take j).filter (fun x=>!U x)/\∀t,j<=t->W[t]?=rows[t]?)/\e=[(5,I4 (i:Int)),(6,I4 (j:Int))]/\H=[[(g,.cells cur 83 z)]]) (by exact ⟨k,k+1,rows,cur,rfl,⟨⟨by omega,by omega⟩,rfl,G,by rw [Lx _ hx0,hp0];simp only [S0,My,HN,Cp];exact (Np (fun j y hy=>by rw [H3]at hy;split at hy;rw [hno j y dj hy];rfl;cases hy)).symm,fun t _=>rfl⟩,rfl,rfl⟩) Wp ?_;rintro _ _ _ ⟨i,j,W,cur,rfl,⟨o8,ax,O,K,af⟩,rfl,rfl⟩;obtain ⟨d9,cu,l8,j5,Z⟩:=JV O;refine Zq<|A0<|Zm Y<|Zm Y<|Zv (Ab B6 Y)<|Zv (Au Y Y)<|A4<|Av Y (fun ek=>?_) (fun ek=>?_)
 ·
  obtain ⟨x,hx⟩:∃x,rows[j]?=some x:=⟨_,B4 ek⟩;obtain ⟨l9,cO⟩:=aH d9 ((af j (CT _)).trans hx);refine AC<|Zx<|Zq<|AP<|A0<|Zm Y<|Zm Y<|BX (Ad B6 AW Y Y A1)<|Zo Wh (AA (cs:=x.A16) CH AW Y A1 cO) ?_;refine Ze (Al DP #[_,_,_,_,_])<|AD fun bx=>Xe (Xw AW x.A16) ?_;refine A4<|A0<|Zm Y<|Zo Wh (AA (cs:=#[_,_,_,_,_]) CH AW Y As AM) ?_;refine Xr [_] Y (bn) Y V (hf x) ?_;refine Zv (Br Y)<|Z0<|Zn [0,1,5,6,7,29] ?_;refine Zx<|AV Y (fun I=>?_) (fun I=>?_)
  ·
   have I:U x=false:=by simpa using I
   have gm:=BR (xs':=Ae (W.set i x)) (EP (i:=0+i*5) (ys:=Ae [x]) O (by rw [BF,BF,E0];omega)) rfl (by rw [D2];exact pu A1 x);refine A0<|Zm Y<|Zm Y<|Zo Wh (AA (cs:=#[_,_,_,_,_]) CH AW Y As AM) ?_;refine BX (Ad B6 AW Y Y A1)<|Xe (BM AW Y Y HR Wu (by exact (rfl:_=EI cur (0+i*5) (Ae [x]))) E7 A1 (by exact Z)) ?_;refine A4<|Zg<|Zm Y<|Ya (n:=1) Y Y<|AG Y<|A8<|Zx<|Zg<|Zm Y<|Ya (n:=1) Y Y<|AG Y<|Zn [5,6,0,1] ?_;refine Aa (e':=[(5,_),(6,_)]) (by exact ⟨i+1,j+1,W.set i x,_,rfl,⟨by omega,by rw [cM];exact ax,gm,by rw [Y9 A1,K,Lx _ hx];simp [I],fun t ht=>by rw [List.getElem?_set_ne A1];exact af t A1⟩,rfl,rfl⟩)
  have I:U x=true:=by simpa using I
  refine AC<|A8<|Zx<|Zg<|Zm Y<|Ya (n:=1) Y Y<|AG Y<|Zn [5,6,0,1] ?_;refine Aa (e':=[(5,_),(6,_)]) (by exact ⟨i,j+1,W,cur,rfl,⟨by omega,ax,O,by rw [K,Lx _ hx];simp [I],fun t ht=>af t A1⟩,rfl,rfl⟩)
 have ej:j=rows.length:=by omega
 subst ej;rw [FF]at K;have gy:(rows.filter fun x=>!U x).length=i:=by rw [<-K,C2];omega
 refine Ay<|Zt<|Zt<|AR<|Zx<|A0<|Zm Y<|Zm Y<|BX (C8 B6 AW Y Y A1)<|Ze (O7 B6 (V:Tryz.prog.info? 83=some Tryz.t83) V rfl (by simp [Value.cells,Value.oneCell']) Y A1 cu Z Wo) ?_;rintro _ _ rfl;have gq:=V7 (EP (i:=i*5) (ys:=(Builtin.zeroCells (Value.agg #[I4 0,I4 0,I4 0,I4 0,I4 0]).cells (rows.length -i)).toList) O (by rw [SR,size_zeroCells,BF];show i*5+(rows.length -i)*5<=_;omega)) i A1
 refine A4<|A0<|Zm Y<|Zm Y<|BX (Bq B6 AW Y Y A1)<|A3 Y<|AJ<|AO V results255 Y (by
  refine ⟨_,BR gq gy.symm ?_,V⟩;rw [CA,HJ (by rw [C2,BF];omega),EA,K])
theorem rf{A Y D:List Value}(g:A.length=(n+1)*5)(hi:i<=n)(G:Y.length=5)(m:D.length=(n -i)*5):(A.take (0+i*5)++Y++A.drop (0+i*5+Y.length)).take (0+(i+1)*5)++D++(A.take (0+i*5)++Y++A.drop (0+i*5+Y.length)).drop (0+(i+1)*5+D.length)=A.take (i*5)++Y++D:=by
 rw [D2,D2,HJ (by rw [B7,C2];omega),SO (by simp only [B7,C2,C3];omega),Cp]
theorem lU{A Y D:List Value}(g:A.length=(n+1)*5)(hi:i<=n)(G:Y.length=5)(m:D.length=(n -i)*5):(A.take (0+(i+1)*5)++D++A.drop (0+(i+1)*5+D.length)).take (0+i*5)++Y++(A.take (0+(i+1)*5)++D++A.drop (0+(i+1)*5+D.length)).drop (0+i*5+Y.length)=A.take (i*5)++Y++D:=by
 rw [D2,D2,SO (l:=A) A1,Cp,a6 (by rw [C2];omega),TX,PB A1,W0 (by rw [C2];omega)]
theorem YE(rows:List AU)(i:Nat)(y:AU):(Ae rows).take (i*5)++Ae [y]++Ae (rows.drop i)=Ae (rows.take i++[y]++rows.drop i):=by
 rw [EA,Bi,Bi]
theorem U0{c:Array Value}(h:Bz c 0 (Ae rows))(i:Nat)(hi:i<=rows.length):Bz c (0+i*5) (Ae (rows.drop i)):=by
 have g:=Iw h (i*5) ((rows.length -i)*5) (by rw [BF];omega);rw [De,Hi (by rw [BF,C3];omega)]at g;exact g
theorem gI{c:Array Value}(h:Bz c 0 (Ae rows))(i:Nat)(hi:i<=rows.length):Bz c 0 (Ae (rows.take i)):=by
 have g:=Iw h 0 (i*5) (by rw [BF];omega);rw [PC,EA]at g;exact g
theorem XG(rows:List AU)(i:Nat)(hi:i<=rows.length)(y:AU):(rows.take i++[y]++rows.drop i).length=rows.length+1:=by
 simp only [B7,C2,C3,E0];omega
set_option maxHeartbeats 1000000 in
theorem ZK(m:Bc 5 83 v rows.length (Ae rows) s)(hn:rows.length<=1000000000)(i:Nat)(hi:i<=rows.length)(y:AU)(U:Nat):Ba prog 256 #[v,I4 (i:Int),I6 U 1 1] [s,[(U,.cells y.A16 83 (0,0))]] (fun r H'=>∃s' s2,Bc 5 83 r (rows.take i++[y]++rows.drop i).length (Ae (rows.take i++[y]++rows.drop i)) s'/\H'=[s',s2,[(U,.cells y.A16 83 (0,0))]]):=by
 have o9:=mL;obtain ⟨p,cap,rfl⟩:=m.form;have o8:=Es m
 refine Se func256 ntmps256 [0,1,2] ?_;intro u R;refine A0<|A3 Y<|Zq<|BV<|Zg<|Zm Y<|Zm Y<|BX (C8 B6 AW Y Y A1)<|A4<|A0<|Zm Y<|Zv (Ab B6 Y)<|A3 Y<|Zq<|A0<|Zm Y<|Zv (Cb (n:=0) Y Y)<|A4<|Av Y (fun h0=>by cases h0)<|fun h0=>AC<|Zx<|A0<|Zm Y<|Zv (Ab B6 Y)<|A3 Y<|Zq<|A0<|Zm Y<|Zm Y<|Zv (Cb Y Y)<|Z0<|Zn [0,1,2,7,8,22] ?_;refine Zx<|Av Y (fun X=>?_) (fun X=>?_)
 ·
  refine A0<|Zm Y<|Zm Y<|Ze (BQ (by_:=40) (sz:=5) B6 (V:Tryz.prog.info? 83=some Tryz.t83) V rfl V rfl Y (m) Y (DJ 5 U 1 1 83 (0,0) (Ae [y]) V) Wo Wo (by exact CR _) A1 A1) ?_;rintro _ _ ⟨p8,O,rfl⟩;obtain ⟨l5,kv,rfl⟩:=O.form;refine A3 Y<|AJ<|Zt<|AO V results256 Y (by
   have X:i=rows.length:=by omega
   subst X;exact ⟨_,[],BR O (XG rows _ (CT _) y).symm (by rw [FF,fz,Cp,Bi]),rfl⟩)
 obtain ⟨g,ek,cur,z,cO,rfl,j5,I⟩:=Dv m A1;injection cO with hv1 hv2 hv3
 subst hv1 hv3;obtain ⟨_,l9,_,l8,af⟩:=JV m;refine AC<|Zx<|Zq<|A0<|Zm Y<|Zm Y<|Ya Y Y<|Zm Y<|Zv (Qc B6 Y)<|Zv (DF Y Y)<|A4<|Av Y (fun hg=>?_) (fun hg=>?_)
 ·
  refine A0<|Zm Y<|Zm Y<|BX (Bq B6 AW Y Y A1)<|Zm Y<|Zm Y<|Ya Y Y<|Zm Y<|Yb Y Y ?_;refine Ze (Ku (by_:=40) (sz:=5) (xs:=Ae (rows.take i)) B6 Cl (rfl:Tryz.prog.info? 83=some Tryz.t83) rfl rfl rfl rfl Y Y Wh (gI I i hi) (by rw [BF,C2];omega) A1 AN A1 A1 A1) ?_;rintro _ _ ⟨s9,J,rfl⟩;rw [show i+(rows.length+1 -i)=rows.length+1 by omega]at J;have G:=J.1
  obtain ⟨g3,d9,gm,z3,rfl,rfl,j3,ic⟩:=Dv J A1;obtain ⟨_,gy,_,gq,K⟩:=JV J;refine AG Y<|Zn [0,1,2,7,9] ?_;refine Zx<|A0<|Zm Y<|Zm Y ?_
  (refine BX (Bo B6 AW Y Y ?_ ?_) ?_;(focus (omega));(focus (omega)))
  refine Zm Y<|Xe (JO (cs:=Ae [y]) B6 AW Y Y Wh Wo ((rfl:Bz (y.A16:Array Value) 0 (Ae [y]))) (by rw [BF,E0];omega) (by rw [BF,E0];omega) (K) (CR _)) ?_;refine A4<|Zq<|Az (n:=9) (0::0::0::6::15::0::0::96::255::[]) 256 A6 A6 V<|A2 0 V (AQ Y)<|A2 1 V (AQ Y)<|A2 2 V (AQ Y)<|A2 3 V (Dz Y Y A1) ?_
  (refine Dl (D':=31) 4 (Bo B6 AW Y Y ?_ ?_) ?_;(focus (omega));(focus (omega)))
  refine A2 5 V (AQ Y)<|A2 6 V (AQ Y) ?_
  (refine Dl (D':=255) 7 (Bo B6 AW Y Y ?_ ?_) ?_;(focus (omega));(focus (omega)))
  refine Yw 8 511 rfl (JO (cs:=Ae (rows.drop i)) B6 AW Y Y Wh Wo (U0 I i hi) (by rw [BF,C3];omega) (by rw [BF,C3,GH (by rw [BF,E0];omega)];omega) (by rw [GH (by rw [BF,E0];omega)];exact K) (CR _))<|CM<|Ai<|Zn [9] ?_;refine Zx<|A0<|Zm Y<|A3 Y<|AJ<|Zt<|AO V results256 Y (by
   refine ⟨_,[(g,.cells cur 83 z)],BR (EP (i:=0+(i+1)*5) (ys:=Ae (rows.drop i)) (EP (i:=0+i*5) (ys:=Ae [y]) J (by rw [G,BF,E0];omega)) ?_) (XG rows i hi y).symm ?_,rfl⟩
   · simp only [B7,C2,C3,G,BF,E0];omega
   · rw [rf G hi (by rw [BF];rfl) (by rw [BF,C3]),HJ (by rw [BF,C2];omega),<-EA,YE])
 refine AC<|Zx<|Zq ?_;obtain ⟨p9,cu,bn⟩:=V6 m (rows.length+1) A1 A1;have G:=bn.1
 refine Zg<|Zm Y<|Zm Y<|Zm Y<|Ya Y Y ?_;refine BX (Bq B6 AW Y Y A1)<|A3 Y<|Zq<|Zq<|yE (s1:=[(U,_)]) (s2:=[(g,_)]) (a:=U) (b:=g) Wo Wo (BT.2 V) (BT.2 V) (fun ax=>?_);refine Zg<|Zm Y<|Zm Y<|Zm Y<|Zm Y<|Ya Y Y ?_
 (refine BX (Bo B6 AW Y Y ?_ ?_) ?_;(focus (omega));(focus (omega)))
 refine CO (cs:=[(U,.cells y.A16 83 (0,0)),(g,.cells cur 83 z)]) B0 (Sr (tR:=4) func294 A6 A6 A6 A6 B6 AW Y ax A1) V rfl ?_;refine Zv (Br Y)<|Z0<|Zn [0,1,2,7,8,68] ?_;refine Zx<|AV Y (fun Z=>?_) (fun Z=>?_)
 ·
  refine Zq<|Az (n:=9) (0::0::0::6::15::0::0::96::255::[]) 256 A6 A6 V<|A2 0 V (AQ Y)<|A2 1 V (AQ Y)<|A2 2 V (AQ Y)<|A2 3 V (Dz Y Y A1) ?_
  (refine Dl (D':=31) 4 (Bo B6 AW Y Y ?_ ?_) ?_;(focus (omega));(focus (omega)))
  refine A2 5 V (AQ Y)<|A2 6 V (AQ Y) ?_
  (refine Dl (D':=255) 7 (Bo B6 AW Y Y ?_ ?_) ?_;(focus (omega));(focus (omega)))
  refine Yw 8 511 rfl (JO (cs:=Ae (rows.drop i)) B6 AW Y Y Wh Wo (U0 I i hi) (by rw [BF,C3];omega) (by rw [BF,C3];omega) (af) (CR _))<|CM<|Ai<|Zx<|A0<|Zm Y<|Zm Y ?_
  (refine BX (Bo B6 AW Y Y ?_ ?_) ?_;(focus (omega));(focus (omega)))
  refine Zm Y<|Xe (JO (cs:=Ae [y]) B6 AW Y Y Wh Wo ((rfl:Bz (y.A16:Array Value) 0 (Ae [y]))) (by rw [BF,E0];omega) (by rw [BF,E0,GH (by rw [BF,C3];omega)];omega) (by rw [GH (by rw [BF,C3];omega)];exact af) (CR _)) ?_;refine Z0<|Zn [0] ?_;refine Zx<|A0<|Zm Y<|A3 Y<|AJ<|Zt<|AO V results256 Y (by
   refine ⟨_,[],BR (EP (i:=0+i*5) (ys:=Ae [y]) (EP (i:=0+(i+1)*5) (ys:=Ae (rows.drop i)) bn (by rw [G,BF,C3];omega)) ?_) (XG rows i hi y).symm ?_,rfl⟩
   · simp only [B7,C2,C3,BF,cu,E0];omega
   · rw [lU G hi (by rw [BF];rfl) (by rw [BF,C3]),a6 (by rw [BF];omega),YE])
 cases Z
structure QM where
 kd:Int
 tb:Int
 cl:Int
 lo:Int
 hi:Int
 bq:Int
 ot:Int
deriving DecidableEq
abbrev QM.G0(q:QM)(c:Chg)(x y:Option Go.Addr)(o n:Int):Array Go.Value:=#[I4 q.kd,I4 q.tb,I4 q.cl,I4 q.lo,I4 q.hi,I4 q.bq,I4 q.ot,I4 c.t,I4 c.k,.bool c.had,I4 c.o.a,I4 c.o.b,I4 c.o.c,.bool c.has,I4 c.n.a,I4 c.n.b,I4 c.n.c,.pointer x,.pointer y,I4 o,I4 n]
abbrev QM.A17(c:QM):Array Go.Value:=#[I4 c.kd,I4 c.tb,I4 c.cl,I4 c.lo,I4 c.hi,I4 c.bq,I4 c.ot]
structure CF where
 rows:List AU
 val:Int
 fnd:Bool
deriving DecidableEq
def inQ(q:QM)(r:AU):Bool:=decide (r.t=q.tb/\q.lo<=Bl r q.cl/\Bl r q.cl<=q.hi)
def BI(q:QM):Prop:=(0<=q.tb/\q.tb<=3)/\(0<=q.cl/\q.cl<=3)/\(-1000000000<=q.lo/\q.lo<=q.hi/\q.hi<=1000000000)/\
 ((q.kd=1/\q.cl=0/\q.lo=q.hi/\(1<=q.lo/\q.lo<=1000000)/\q.bq=0/\q.ot=0)\/((q.kd=2\/q.kd=3)/\q.bq=0/\q.ot=0)\/
  ((q.kd=4\/q.kd=5\/q.kd=6)/\(1<=q.bq/\q.bq<=3)/\q.ot=0)\/(q.kd=7/\(1<=q.bq/\q.bq<=3)/\(0<=q.ot/\q.ot<=3)))
instance(q:QM):Decidable (BI q):=by unfold BI;infer_instance
def CF.none:CF:=⟨[],0,false⟩
def LK(ms:List Int):Int:=ms.foldl (·+·) 0
def ES(lt:Int->Int->Bool)(ms:List Int):CF:=ms.foldl (fun r n=>⟨r.rows,if !r.fnd||lt n r.val then n else r.val,true⟩) CF.none
def DZ(q:QM)(others:List AU)(k:Int):Option AU:=others.find? (fun x=>decide (x.t=q.ot/\x.k=k))
def Ie(q:QM)(others:List AU)(r:AU):List AU:=match DZ q others (Bl r q.bq)with
 |some x=>[r,x]
 |none=>[]
def Ig(q:QM)(rows others:List AU):List AU:=rows.flatMap (Ie q others)
def Cq(q:QM)(rows:List AU):List Int:=rows.map fun r=>Bl r q.bq
def FN(q:QM)(rows others:List AU):CF:=
 if q.kd=3 then⟨[],rows.length,false⟩else if q.kd=4 then⟨[],LK (Cq q rows),false⟩
 else if q.kd=5 then ES (fun a b=>decide (a<b)) (Cq q rows)else if q.kd=6 then ES (fun a b=>decide (b<a)) (Cq q rows)
 else if q.kd=7 then⟨Ig q rows others,0,false⟩else⟨rows,0,false⟩
def CQ(rs:List AU)(q:QM):List AU:=Dm rs q.tb q.cl.toNat q.lo q.hi
def Ci(rs:List AU)(q:QM):CF:=FN q (CQ rs q) (IC rs q.ot)
def kY(c:Chg):List AU:=if c.had then [⟨c.t,c.k,c.o⟩]else []
def Ho(q:QM)(b:Bool)(r:AU):Option AU:=if b&&inQ q r then some r else none
def bfQ(q:QM)(c:Chg):Option AU:=Ho q c.had ⟨c.t,c.k,c.o⟩
def afQ(q:QM)(c:Chg):Option AU:=Ho q c.has ⟨c.t,c.k,c.n⟩
def mQ(q:QM):Option AU->Int
 |some r=>Bl r q.bq
 |none=>0
def Ny(q:QM)(c:Chg):Bool:=(bfQ q c).isSome||(afQ q c).isSome
def UT(q:QM)(c:Chg):Bool:=(bfQ q c).isSome !=(afQ q c).isSome
def Ce(q:QM)(c:Chg):Bool:=
 if q.kd=1\/q.kd=2 then Ny q c else if q.kd=3 then UT q c else if q.kd=4 then decide (mQ q (bfQ q c)≠mQ q (afQ q c))
 else if q.kd=5\/q.kd=6 then UT q c||decide (mQ q (bfQ q c)≠mQ q (afQ q c))else Ny q c||decide (c.t=q.ot)
theorem Pt{c:Chg}(J:GK rs c):∃A B,rs=A++kY c++B/\EH rs c=A++Na c++B:=by
 refine ⟨rs.take (Dw rs c.t c.k),(rs.drop (Dw rs c.t c.k)).drop (if c.had then 1 else 0),?_,V⟩;unfold kY;cases hh:c.had with
 |false=>simp
 |true=>
  have m:(Fg rs c.t c.k).2=true:=by rw [J.1,hh]
  obtain ⟨r,X,hi,O,U⟩:=JF m;have hv:=J.2 m
  rw [U]at hv;have e:r=⟨c.t,c.k,c.o⟩:=by
   obtain ⟨t,k,v⟩:=r;obtain ⟨G,I⟩:=hi;simp only at G I hv;subst G I hv;rfl
  rw [e]at O;obtain ⟨K,g⟩:=BE.1 O;simp only [Hh,CA];conv=>lhs;rw [<-Hx (Dw rs c.t c.k) rs,R0 K,g]
  rw [Ly,R0 K];rfl
variable{q:QM}
theorem yA(h:BI q)(r:AU):inR q.tb q.cl.toNat q.lo q.hi r=inQ q r:=by
 have hc:=h.2.1;have:=LG r q.cl.toNat A1
 rw [show((q.cl.toNat:Nat):Int)=q.cl by omega]at this;unfold inR inQ;rw [this]
theorem QQ(h:BI q)(rs:List AU):CQ rs q=(rs.filter (inQ q)).foldl (ZN q.cl.toNat) []:=by
 unfold CQ Dm;rw [fm fun r _=>yA h r]
theorem HY(h:BI q)(rs:List AU):(CQ rs q).Perm (rs.filter (inQ q)):=by
 have:=EO rs q.tb q.cl.toNat q.lo q.hi;rwa [fm fun r _=>yA h r]at this
theorem TA(q:QM)(c:Chg):(kY c).filter (inQ q)=(bfQ q c).toList:=by
 unfold kY bfQ Ho;cases c.had with
 |false=>rfl
 |true=>simp only [Hh,Rg,ar,kf];split<;>rfl
theorem TC(q:QM)(c:Chg):(Na c).filter (inQ q)=(afQ q c).toList:=by
 unfold Na afQ Ho;cases c.has with
 |false=>rfl
 |true=>simp only [Hh,Rg,ar,kf];split<;>rfl
def Jj:List Int->Int
 |[]=>0
 |x::l=>x+Jj l
theorem Mf(l:List Int):∀a,l.foldl (·+·) a=a+Jj l:=by
 induction l with
 |nil=>intro a;simp [Jj]
 |cons x l ih=>intro a;rw [TO,ih];simp only [Jj];omega
theorem Y3(a b:List Int):Jj (a++b)=Jj a+Jj b:=by
 induction a with
 |nil=>simp [Jj]
 |cons x a ih=>simp only [P2,Jj,ih];omega
theorem MF{a b:List Int}(h:a.Perm b):Jj a=Jj b:=by
 induction h with
 |nil=>rfl
 |cons x _ ih=>simp only [Jj,ih]
 |swap x y l=>simp only [Jj];omega
 |trans _ _ ih1 ih2=>exact ih1.trans ih2
theorem xI(lt:Int->Int->Bool)(J:∀a b c,lt b a=false->lt c b=false->lt c a=false)(I:∀a,lt a a=false)(G:∀a b,lt a b=true->lt b a=false)(l:List Int):∀(m:Int),∃x,(x=m\/x∈l)/\lt m x=false/\(∀y∈l,lt y x=false)/\l.foldl (fun(r:CF) n=>(⟨r.rows,if !r.fnd||lt n r.val then n else r.val,true⟩:CF)) ⟨[],m,true⟩=⟨[],x,true⟩:=by
 induction l with
 |nil=>intro m;exact ⟨m,.inl rfl,I m,by simp,rfl⟩
 |cons z l ih=>
  intro m;rw [TO];cases hz:lt z m with
  |true=>
   obtain ⟨x,K,h2,O,U⟩:=ih z;simp only [S0,ki,hz,Hh];refine ⟨x,.inr (by rcases K with h|h;rw [h];simp;exact E3 _ h),J x z m h2 (G z m hz),fun y g=>?_,U⟩;rcases D0.1 g with rfl|g
   · exact h2
   · exact O y g
  |false=>
   obtain ⟨x,K,h2,O,U⟩:=ih m;simp only [S0,ki,hz,My,HN];refine ⟨x,by rcases K with h|h;exact .inl h;exact .inr (E3 _ h),h2,fun y g=>?_,U⟩;rcases D0.1 g with rfl|g
   · exact J x m y h2 hz
   · exact O y g
theorem KG(lt:Int->Int->Bool)(G:∀a b c,lt b a=false->lt c b=false->lt c a=false)(m:∀a,lt a a=false)(g:∀a b,lt a b=true->lt b a=false)(z:Int)(l:List Int):∃x∈z::l,(∀y∈z::l,lt y x=false)/\ES lt (z::l)=⟨[],x,true⟩:=by
 obtain ⟨x,J,h2,K,O⟩:=xI lt G m g l z;refine ⟨x,by rcases J with h|h;rw [h];simp;exact E3 _ h,fun y I=>?_,?_⟩
 · rcases D0.1 I with rfl|I
   · exact h2
   · exact K y I
 · unfold ES
   rw [TO];exact O
theorem PG(lt:Int->Int->Bool)(I:∀a b c,lt b a=false->lt c b=false->lt c a=false)(m:∀a,lt a a=false)(g:∀a b,lt a b=true->lt b a=false)(J:∀a b,lt a b=false->lt b a=false->a=b){l G:List Int}(h:∀y,y∈l↔y∈G):ES lt l=ES lt G:=by
 match l,G,h with
 |[],[],_=>rfl
 |[],y::G,h=>have:=(h y).2 B0;cases this
 |y::l,[],h=>have:=(h y).1 B0;cases this
 |y::l,y'::G,h=>
  obtain ⟨x,O,U,X⟩:=KG lt I m g y l;obtain ⟨K,Z,b2,b3⟩:=KG lt I m g y' G;rw [X,b3,J x K (b2 x ((h x).1 O)) (U K ((h K).2 Z))]
theorem iA{c:Chg}(g:GK rs c)(h:c.t≠t):IC (EH rs c) t=IC rs t:=by
 obtain ⟨A,B,e1,e2⟩:=Pt g;have z1:(kY c).filter (inT t)=[]:=by
  unfold kY;split
  · simp [inT,h]
  · rfl
 have z2:(Na c).filter (inT t)=[]:=by
  unfold Na;split
  · simp [inT,h]
  · rfl
 unfold IC;rw [e2];conv=>rhs;rw [e1]
 simp only [HU,z1,z2,Cp]
theorem Rb{o:Option AU}(h:o.isSome=false):o.toList=[]:=by
 cases o with
 |none=>rfl
 |some x=>cases h
theorem tV{c:Chg}(J:BI q)(hf:GK rs c)(h:Ce q c=false):Ci (EH rs c) q=Ci rs q:=by
 obtain ⟨A,B,e1,e2⟩:=Pt hf;have X:rs.filter (inQ q)=A.filter (inQ q)++(bfQ q c).toList++B.filter (inQ q):=by
  conv=>lhs;rw [e1]
  rw [HU,HU,TA]
 have Z:(EH rs c).filter (inQ q)=A.filter (inQ q)++(afQ q c).toList++B.filter (inQ q):=by
  rw [e2,HU,HU,TC]
 have K:=HY J rs;have O:=HY J (EH rs c)
 rw [X]at K;rw [Z]at O;have I:(bfQ q c).isSome=false->(afQ q c).isSome=false->CQ (EH rs c) q=CQ rs q:=fun h1 h2=>by
  rw [QQ J,QQ J,X,Z,Rb h1,Rb h2]
 unfold Ce at h;unfold Ci FN;split at h
 · rename_i hk
   unfold Ny at h;rw [fj]at h;rw [I h.1 h.2,AH A1,AH A1,AH A1,AH A1,AH A1,AH A1,AH A1,AH A1,AH A1,AH A1]
 · split at h
   · rename_i hk
     rw [AK hk,AK hk];have hl:(CQ (EH rs c) q).length=(CQ rs q).length:=by
      rw [K.length_eq,O.length_eq];simp only [B7];unfold UT at h;cases hb:bfQ q c<;>cases g:afQ q c<;>simp [hb,g]at h⊢
     rw [hl]
   · split at h
     · rename_i hk3 hk
       rw [AH hk3,AH hk3,AK hk,AK hk];have hs:LK (Cq q (CQ (EH rs c) q))=LK (Cq q (CQ rs q)):=by
        unfold LK Cq;rw [Mf,Mf,MF (K.map _),MF (O.map _)];simp only [BW,Y3];have U:=cH h
        have key:∀o:Option AU,Jj (o.toList.map fun r=>Bl r q.bq)=mQ q o:=fun o=>by
         cases o with
         |none=>rfl
         |some x=>simp [Jj,mQ]
        rw [key,key];omega
       rw [hs]
     · split at h
       · rename_i hk3 hk4 hk
         rw [fj]at h;have U:=cH h.2
         have G:=h.1;have m:∀y,y∈Cq q (CQ (EH rs c) q)↔y∈Cq q (CQ rs q):=fun y=>by
          unfold Cq;rw [(K.map _).mem_iff,(O.map _).mem_iff];unfold UT at G;cases hb:bfQ q c<;>cases g:afQ q c<;>simp [hb,g]at G⊢
          simp [hb,g,mQ]at U;rw [U]
         rw [AH hk3,AH hk3,AH hk4,AH hk4];rcases hk with hk|hk
         · rw [AK hk,AK hk]
           exact PG _ (by intro a b c;simp;omega) (by intro a;simp) (by intro a b;simp;omega) (by intro a b;simp;omega) m
         · rw [AH (show¬q.kd=5 by omega),AH (show¬q.kd=5 by omega),AK hk,AK hk]
           exact PG _ (by intro a b c;simp;omega) (by intro a;simp) (by intro a b;simp;omega) (by intro a b;simp;omega) m
       · rw [fj]at h
         have g:=h.1;unfold Ny at g;rw [fj]at g;rw [I g.1 g.2,iA hf (cH h.2)]
end Go.Proofs.YteaiajghbkenoaaGreatDoor
