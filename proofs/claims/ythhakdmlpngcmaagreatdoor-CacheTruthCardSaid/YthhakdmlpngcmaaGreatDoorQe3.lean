/- The store: At. -/
import Derived.Test.YthhakdmlpngcmaaGreatDoorKs2
import Derived.WalkSpells
import Derived.Shelf.SlSortCmp.NoneTotal
set_option linter.unusedVariables false
set_option linter.unusedSimpArgs false
namespace Go.Proofs.YthhakdmlpngcmaaGreatDoor
open Go.Proofs.Tryz
open Go Go.RowKit Gw
set_option maxRecDepth 100000
attribute [local irreducible] Gw.At Gw.Nx Gw.Ops
theorem wA(q:B8)(cap:Nat)(l:List BR)(M:List A9)(af:Ee M (.slice q l.length cap) l)(G:En l)(hl:l.length<=1000000)(k:Nat)(hk:k<=l.length):
 BS prog 19 #[.slice q l.length cap,I0 (k:Int)] [M] (fun r H'=>∃J mb es ck lm,r= .tuple #[I1 J,I0 0]/\Ck K2 es ck lm/\Gf lm (BQ (l.take k))/\H'=[[(J,.cells #[.map (some mb),I0 (k:Int)] 215 (0,0))],[(mb,.map es ck)],M]):=by
 have gy:=mL;obtain ⟨p9,gm,e9,⟨ic,gq⟩,hg⟩:=id af;injection e9 with e91 e92 e93
 subst e91 e93;refine Se func19 ntmps19 [0,1] ?_;intro u R;refine A1<|Za Y<|A5 Y<|Zq<|A1<|Zm Y<|Zv (Ay (n:=0) Y Y)<|Zm Y<|Ao (t:=11) Y V (fun h1=>?_) (fun h1=>?_);·
  exfalso;(cases h1;done)
 refine Zf Y Y<|Zf Y Y<|Yg (Ab HA Y)<|Yg (DN Y Y)<|Zv (AL Y Y)<|A6<|Av Y (fun h2=>by omega)<|fun h2=>AC<|Zx<|A1<|Zc [] Y call57 Y V (tB) ?_;rintro _ _ ⟨_,⟨J,mb,rfl,rfl⟩,rfl⟩;refine A5 Y<|Zq<|A1<|Zm Y<|Zm Y<|BZ (Bt HA G3 Y Y A0)<|Zv (Ab HA Y)<|Zm Y<|Z0<|Zn [6,20,21,22] ?_;refine Zx<|AR<|Zb [22,6,20,21] ?_;refine BF (e0:=[(22,_)]) (fun m e H=>∃(i:Nat) (es:Array MapEntry) (ck:Nat) (lm:List ((Int×Int)×A4)),m=k -i/\(i<=k/\Ck K2 es ck lm/\Gf lm (BQ (l.take i)))/\e=[(22,I0 (i:Int))]/\H=[[(J,.cells #[.map (some mb),I0 (i:Int)] 215 (0,0))],[(mb,.map es ck)]]) (by exact ⟨0,#[],0,[],rfl,⟨C7 _,EZ _,by rw [J0];exact uH⟩,rfl,rfl⟩) Wp ?_;rintro _ _ _ ⟨i,es,ck,lm,rfl,⟨hi,hm,hR⟩,rfl,rfl⟩;refine A1<|Zv (Ay Y Y)<|A6<|Zq<|Av Y (fun cu=>?_) (fun cu=>?_);·
  obtain ⟨r,hr⟩:∃r,l[i]?=some r:=⟨_,BT A0⟩;obtain ⟨U,g,off,cur,T,zz,rfl,d9,j3,ax⟩:=hg i r hr;obtain ⟨hA,h3⟩:=G i r hr;have dn:=hA.pos
  obtain ⟨ek,bn⟩:=G.rows i A0;refine AC<|Zx<|Zq<|AR<|A1<|BZ (Ad HA G3 Y Y A0)<|CS (cs:=[(g,.cells cur T zz)]) (by simp [d9]) (AB (cs:=#[_,_]) IH G3 Y A0 ax) V rfl<|Ze (Al Tl #[_,_])<|AG fun rb=>Xe (Xw G3 #[I0 r.p,.slice r.q r.cs.length r.cap])<|A6<|A1<|Zm Y<|Zo Wh (AB (cs:=#[_,_]) IH G3 Y B5 Ax)<|Zc [_,_] Y call58 Y V (qc J mb (i:Int) r.p es ck lm (BQ (l.take i)) M r.q r.cap r.cs hm hR U ek bn hA) ?_;rintro _ _ ⟨_,⟨rfl,O,K,I,cO,X,rfl⟩,rfl⟩;have Z:Gf I (BQ (l.take (i+1))):=by rw [NX,hr];show Gf I (BQ (l.take i++[r]));rw [Fq];exact X
  rw [show r.p=((i+1:Nat):Int) by rw [dn];rfl];refine Zv (EU (n:=0) Y Y)<|A6<|Av Y (fun h4=>?_) (fun h4=>?_);·
   exfalso;exact h4 rfl
  refine AC<|A8<|Zx<|Zg<|Ya (n:=1) Y Y<|Zm Y<|Z0<|Zn [22,6,20,21] ?_;refine Aa (e':=[(22,_)]) (by exact ⟨i+1,O,K,I,V,⟨by omega,cO,Z⟩,V,V⟩)
 have ei:i=k:=by omega
 subst ei;refine Az<|Zt<|Zt<|AV<|Zx<|A1<|Zm Y<|Za Y<|A5 Y<|AJ<|DF V results19 Y Y (by exact ⟨J,mb,es,ck,lm,V,hm,hR,V⟩)
def Dh(r:AU)(c:Nat):Int:=if c=0 then r.k else if c=1 then r.v.a else if c=2 then r.v.b else r.v.c
def ed(c:Nat)(out:List AU)(v:Int):Nat:=(out.reverse.dropWhile (fun r=>decide (v<Dh r c))).length
def aN(c:Nat)(out:List AU)(x:AU):List AU:=out.take (ed c out (Dh x c))++[x]++out.drop (ed c out (Dh x c))
def inR(t:Int)(c:Nat)(lo hi:Int)(r:AU):Bool:=decide (r.t=t/\lo<=Dh r c/\Dh r c<=hi)
def Dm(rs:List AU)(t:Int)(c:Nat)(lo hi:Int):List AU:=(rs.filter (inR t c lo hi)).foldl (aN c) []
end Go.Proofs.YthhakdmlpngcmaaGreatDoor
namespace Go.Proofs.YthhakdmlpngcmaaGreatDoor
open Go.Proofs.Tryz
open Go Go.RowKit Gw
set_option maxRecDepth 100000
attribute [local irreducible] Gw.At Gw.Nx Gw.Ops
open Go.Sort
def Bj(r:AU)(c:Int):Int:=if c=0 then r.k else if c=1 then r.v.a else if c=2 then r.v.b else if c=3 then r.v.c else 0
set_option maxHeartbeats 1000000 in
theorem JW(r:AU)(c:Int)(hc:0<=c/\c<=3)(W:AD):Calls prog 121 #[.agg r.A94,I0 c] W fun e g=>e= .returned (I0 (Bj r c))/\∃(q:Nat) (o:Obj),g=grow (W.drewN q) #[o]:=by
 obtain ⟨t,k,⟨m,G,I⟩⟩:=r;rcases (by omega:c=0\/c=1\/c=2\/c=3)with rfl|rfl|rfl|rfl
 all_goals
  go_enter func121,ntmps121
  go_wp2
  go_ret
  exact ⟨rfl,0,_,by rw [alloc_eq_grow];rfl⟩
def orL(x y:Int):Int:=if x=0 then y else x
theorem tX(b:Nat)(x y:Int)(W:AD)(h0:W.cell? ⟨b,0,none⟩=some (I0 x))(K:W.cell? ⟨b,1,none⟩=some (I0 y)):Calls prog 177 #[I2 b 2 2] W fun e J=>e= .returned (I0 (orL x y))/\J=W:=by
 generalize hz:orL x y=z;have m:=Lib.hid hz
 clear hz
 go_enter func177,ntmps177
 go_wp2
 go_loop [5,8] (fun _ i=>∃(j:Nat),i=I0 j/\(j=0\/(j=1/\x=0)\/(j=2/\x=0/\y=0))) (fun _ i=>2 -(intOf i).toNat)
 case atStart=>exact ⟨0,rfl,.inl rfl⟩
 case round=>
  obtain ⟨j,rfl,I⟩:=hrel;rcases I with rfl|⟨rfl,g⟩|⟨rfl,g,G⟩
  · by_cases g:x=0
    · subst g
      go_wp2
      go_round
      case rel=>exact ⟨1,by go_num,by simp⟩
      case measure=>simp [intOf]
    · go_wp2
      go_ret
      exact ⟨by rw [<-m.out];unfold orL;rw [An g];rfl,rfl⟩
  · subst g
    by_cases G:y=0
    · subst G
      go_wp2
      go_round
      case rel=>exact ⟨2,by go_num,by simp⟩
      case measure=>simp [intOf]
    · go_wp2
      go_ret
      exact ⟨by rw [<-m.out];unfold orL;rw [As rfl];rfl,rfl⟩
  · subst g G
    go_wp2
    go_ret
    exact ⟨by rw [<-m.out];rfl,rfl⟩
theorem SK{u w:AD}{H:Hp}(h:Sat u H w)(q:Nat)(os:Array Obj):Sat u H (grow (w.drewN q) os):=by
 refine ⟨h.os,h.tape,h.output,h.nodup,fun p m=>?_⟩;have g:=h.lt m
 show(w.heap++os)[p.1]?=_;rw [fR g];exact h.get p m
theorem Lc(r:AU)(c:Nat)(hc:c<=3):Bj r (c:Int)=Dh r c:=by
 rcases (by omega:c=0\/c=1\/c=2\/c=3)with rfl|rfl|rfl|rfl<;>rfl
theorem OZ(r:AU)(c:Nat)(hc:c<=3):BJ prog 121 #[.agg r.A94,I0 (c:Int)] [] (I0 (Dh r c)):=fun u R w g=>
 (JW r (c:Int) A0 w).mono (by
   rintro e m ⟨rfl,q,o,rfl⟩;exact .inl ⟨_,[],rfl,⟨by rw [Lc r c hc],rfl⟩,SK g q _⟩)
theorem rZ(r:AU)(t:Int)(c:Nat)(lo hi:Int)(hc:c<=3)(g m G I:Nat):BJ prog 120 #[.agg r.A94,I1 g,I1 m,I1 G,I1 I] [[(g,.cells #[I0 (c:Int)] 3 (0,0))],[(m,.cells #[I0 t] 3 (0,0))],[(G,.cells #[I0 lo] 3 (0,0))],[(I,.cells #[I0 hi] 3 (0,0))]] (.bool (inR t c lo hi r)):=by
 refine Se func120 ntmps120 [0,1,2,3,4] ?_;intro u R;refine A1<|Ze (Bx #[_,_,_,_,_])<|AG fun g=>A5 Y<|A1<|Zo Wh (Pa #[_,_,_,_,_] Cp B3 Y)<|Zl AH Y<|Xr [_,_] Y RM Y V (OZ r c hc)<|A5 Y<|A1<|Zh 0 Fo V rfl AE Y<|Zl AH Y<|Zl AH Y<|Zv (CO Y Y)<|Zm Y<|Ao (t:=15) Y V (fun J=>?_) (fun J=>?_);·
  refine Zf Y Y<|Yl AH Y<|Yg (GV Y Y)<|Zv (AX Y Y)<|Zm Y<|Ao (t:=20) Y V (fun h2=>?_) (fun h2=>?_);·
   refine Zf Y Y<|Yl AH Y<|Yg (KJ Y Y)<|Zv (AX Y Y)<|AW Y<|Zn [6] ?_;refine Zx<|AJ<|AP V results120 Y (by exact ⟨by unfold inR;(simp_all;done),V⟩)
  refine A7 Y V<|A7 Y V<|A7 Y V<|Zv (AL Y Y)<|AW Y<|Zn [6] ?_;refine Zx<|AJ<|AP V results120 Y (by exact ⟨by unfold inR;(congr 1;simp;omega),V⟩)
 refine A7 Y V<|A7 Y V<|A7 Y V<|Zv (AL Y Y)<|Zm Y<|A7 Y V<|A7 Y V<|A7 Y V<|Zv (AL Y Y)<|AW Y<|Zn [6] ?_;refine Zx<|AJ<|AP V results120 Y (by exact ⟨by unfold inR;(simp_all;done),V⟩)
end Go.Proofs.YthhakdmlpngcmaaGreatDoor
namespace Go.Proofs.YthhakdmlpngcmaaGreatDoor
open Go.Proofs.Tryz
open Go Go.RowKit Gw
set_option maxRecDepth 100000
attribute [local irreducible] Gw.At Gw.Nx Gw.Ops
theorem EY:∀(n:Nat) (js:List Nat),js.Nodup->(∀j∈js,j<n)->js.length<=n
 |0,js,_,h=>by
  cases js with
  |nil=>simp
  |cons a l=>exact absurd (h a B4) (fm _)
 |n+1,js,hn,h=>by
  by_cases G:n∈js
  · have m:=EY n (js.erase n) (hn.erase n) (fun j g=>by
     have h2:=(hn.mem_erase_iff).1 g;have I:=h j h2.2
     have J:=h2.1;omega)
    rw [nt G]at m;omega
  · have m:=EY n js hn (fun j g=>by
     have I:=h j g;have J:j≠n:=fun e=>G (e▸g)
     omega)
    omega
def Jd(r:AU):(Int×Int)×A4:=((r.t,r.k),Sc r)
theorem Mi{a b:AU}(h:Jd a=Jd b):a=b:=Yc (Prod.mk.inj h).2
theorem fA{a b:List AU}(J:(a.map Jd).Nodup)(h:(a.map Jd).Perm (b.map Jd)):a.Perm b:=by
 have K:∀{l:List AU},(l.map Jd).Nodup->l.Nodup:=fun{l} hl=>by
  rw [ar,V0]at hl;rw [ar];exact hl.imp (fun m e=>m (by rw [e]))
 rw [N6 (K J) (K (h.nodup J))];intro x;have g:=h.mem_iff (a:=Jd x)
 rw [C6,C6]at g;constructor
 · intro G
   obtain ⟨y,I,e⟩:=g.1 ⟨x,G,rfl⟩;rwa [Mi e]at I
 · intro G
   obtain ⟨y,I,e⟩:=g.2 ⟨x,G,rfl⟩;rwa [Mi e]at I
variable{rs:List AU}
theorem Gf.perm{es:Array MapEntry}{ck:Nat}{l:List ((Int×Int)×A4)}(I:Ck K2 es ck l)(h:Gf l rs)(J:BN rs):l.Perm (rs.map Jd):=by
 have G:l.Nodup:=by
  have:=I.keys;rw [ar,V0]at this;rw [ar];exact this.imp (fun g e=>g (by rw [e]))
 have h2:(rs.map Jd).Nodup:=by
  rw [ar,V0];refine J.imp (fun{a b} hab e=>?_);have e2:=Mi e
  subst e2;unfold AU.lt2 at hab;omega
 rw [N6 G h2];intro p;rw [h.mem p,C6];constructor;· rintro ⟨r,m,rfl⟩;exact ⟨r,m,rfl⟩
 · rintro ⟨r,m,rfl⟩;exact ⟨r,m,rfl⟩
structure RS(lm:List ((Int×Int)×A4))(f:AU->Bool)(js:List Nat)(o:List AU):Prop where
 rows:∃rl:List AU,rl.map Jd=DU lm js/\o=rl.filter f
theorem YS(lm:List ((Int×Int)×A4))(f:AU->Bool):RS lm f [] []:=⟨[],rfl,rfl⟩
theorem RS.push{lm:List ((Int×Int)×A4)}{rs:List AU}{f:AU->Bool}{js:List Nat}{o:List AU}(h:RS lm f js o){j:Nat}{r:AU}(m:lm[j]?=some (Jd r)):RS lm f (js++[j]) (o++(if f r then [r]else [])):=by
 obtain ⟨rl,g,h2⟩:=h.rows;refine ⟨rl++[r],by rw [C0,g,GH lm js m];rfl,?_⟩;rw [Hj,<-h2];cases hf:f r<;>simp [hf]
theorem RS.done{es:Array MapEntry}{ck:Nat}{lm:List ((Int×Int)×A4)}(K:Ck K2 es ck lm)(J:Gf lm rs)(m:BN rs){f:AU->Bool}{js:List Nat}{o:List AU}(h:RS lm f js o)(O:(DU lm js).Perm lm):o.Perm (rs.filter f):=by
 obtain ⟨rl,G,rfl⟩:=h.rows;have h2:=J.perm K m
 have g:(rl.map Jd).Perm (rs.map Jd):=by rw [G];exact O.trans h2
 have I:(rs.map Jd).Nodup:=by
  rw [ar,V0];refine m.imp (fun{a b} hab e=>?_);have e2:=Mi e
  subst e2;unfold AU.lt2 at hab;omega
 exact (fA (g.symm.nodup I) g).filter f
def leV(c:Nat)(a b:AU):Prop:=Dh a c<Dh b c\/Dh a c=Dh b c/\a.k<=b.k
def jB:Prop:=∀(cb c:Nat) (w:A4) (o:List AU) (s:List A9),c<=3->o.length<=2000->Bc 5 80 w o.length (Ae o) s->
    BS prog 175 #[w,.func (.func 176) #[] #[I1 cb]] [s,[(cb,.cells #[I0 (c:Int)] 3 (0,0))]]
     (fun r H'=>r= .tuple #[]/\∃(s':List A9) (o':List AU),o'.Perm o/\o'.Pairwise (leV c)/\Bc 5 80 w o'.length (Ae o') s'/\H'=[s',[(cb,.cells #[I0 (c:Int)] 3 (0,0))]])
theorem Xu(hS:jB)(sp mb:Nat)(p:Int)(es:Array MapEntry)(ck:Nat)(lm:List ((Int×Int)×A4))(rs:List AU)(hm:Ck K2 es ck lm)(hR:Gf lm rs)(hs:BN rs)(hn:rs.length<=2000)(t:Int)(c:Nat)(lo hi:Int)(hc:c<=3)(b1 b2 b3 b4:Nat):
 BS prog 119 #[I1 sp,I0 (c:Int),.func (.func 120) #[] #[I1 b1,I1 b2,I1 b3,I1 b4]] [[(sp,.cells #[.map (some mb),I0 p] 215 (0,0))],[(mb,.map es ck)],[(b1,.cells #[I0 (c:Int)] 3 (0,0))],[(b2,.cells #[I0 t] 3 (0,0))],[(b3,.cells #[I0 lo] 3 (0,0))],[(b4,.cells #[I0 hi] 3 (0,0))]] (fun r H'=>∃(J:List A9) (o:List AU),Bc 5 80 r o.length (Ae o) J/\o.Perm (rs.filter (inR t c lo hi))/\o.Pairwise (leV c)/\H'=[J,[(sp,.cells #[.map (some mb),I0 p] 215 (0,0))],[(mb,.map es ck)],[(b1,.cells #[I0 (c:Int)] 3 (0,0))],[(b2,.cells #[I0 t] 3 (0,0))],[(b3,.cells #[I0 lo] 3 (0,0))],[(b4,.cells #[I0 hi] 3 (0,0))]]):=by
 have kv:=mL;have j5:=hR.len hm hs
 refine Se func119 ntmps119 [0,1,2] ?_;intro u R;refine A1<|Ze (Bx #[_])<|AG fun cb=>A5 Y<|Zq<|A1<|Zm Y<|Zv (Bg i6 Y Y)<|A6<|AQ Y (fun h1=>by cases h1)<|fun h1=>AC<|Zx<|A1<|A5 Y<|Zq<|A1<|Zm Y<|Zp Y V<|Zh 0 cG V rfl cL Y<|Zv (Ap (off:=0) cF V rfl er Y)<|Zl isAgg211 Y<|Ze (Kc gC Y Wh)<|AG fun ib=>A6<|AR<|Be<|Zb [7,2,4,17] ?_;refine BF (e0:=[(7,_)]) (fun m e H=>∃(js:List Nat) (seen:Array Nat) (o:List AU) (w:A4) (J:List A9),m=lm.length -js.length/\(Ig es js seen/\RS lm (inR t c lo hi) js o/\Bc 5 80 w o.length (Ae o) J/\o.length<=js.length)/\e=[(7,w)]/\H=[[(ib,.mapIter (some mb) ck seen ck)],J]) (by exact ⟨[],#[],[],.slice none 0 0,[],V,⟨JC _,YS _ _,Bi 5 _,CT _⟩,V,V⟩) Wp ?_;rintro _ _ _ ⟨js,seen,o,w,J,rfl,⟨U,cu,G,l5⟩,rfl,rfl⟩;obtain ⟨qo,gq,rfl⟩:=G.form;have cO:=EY es.size js U.nodup U.lt
 rw [hm.size]at cO;refine A1<|Ze (MZ hm U Y Wo Wh) ?_;rintro _ _ d9;rcases d9 with⟨K,rfl,rfl⟩|⟨jn,pn,seen2,hpn,hjn,hi2,rfl,rfl⟩
 ·
  refine Zd Y V<|A6<|Zq<|AQ Y (fun hb=>by cases hb)<|fun hb=>Az<|Zt<|Zt<|AV<|Zx<|A1<|Zm Y<|Zv (Bf (vs:=[]) (us:=[_]) Y Y)<|Zc [_,_] Y call175 Y V (hS cb c _ o J hc A0 G) ?_;rintro _ _ ⟨_,⟨rfl,gm,o2,dn,ek,bn,rfl⟩,rfl⟩;refine A6<|A1<|Zm Y<|A5 Y<|AJ<|AP V results119 Y (by exact ⟨gm,o2,bn,dn.trans (cu.done hm hR hs K),ek,V⟩)
 obtain ⟨r,hr,rfl⟩:=(hR.mem pn).1 (DO hpn);refine Zd Y V<|A6<|Zq<|AQ Y (fun hb=>?_) (fun hb=>?_);·
  have af:=EY es.size (js++[jn]) hi2.nodup hi2.lt;rw [hm.size,BW,F2]at af;have j3:(js++[jn]).length=js.length+1:=by rw [BW];rfl
  have g:=cu.push (r:=r) (rs:=rs) hpn;have Z:(inR t c lo hi) r=true->RS lm (inR t c lo hi) (js++[jn]) (o++[r]):=fun h=>by rw [h]at g;exact g
  have X:(inR t c lo hi) r=false->RS lm (inR t c lo hi) (js++[jn]) o:=fun h=>by rw [h]at g;simpa using g
  refine AC<|Zx<|AR<|A1<|CS (cs:=[(ib,.mapIter (some mb) ck seen2 ck),(mb,.map es ck)]) B4 (I5 hm hi2 hpn Y) V rfl<|Zd Y V<|Ze (Al EV #[_,_,_,_,_])<|AG fun xb=>Xe (Xw B3 r.A94)<|A6<|A1<|Zm Y<|Zo Wh (Pa #[_,_,_,_,_] Cp B3 Y)<|Xr [_] Y call120 Y V (rZ r t c lo hi hc b1 b2 b3 b4)<|A6<|AQ Y (fun O=>?_) (fun O=>?_);·
   refine Zg<|Zm Y<|Zo Wh (Pa #[_,_,_,_,_] Cp B3 Y)<|Ze (Ai (vs:=[_]) (cs:=[_,_,_,_,_]) C1 B3 EV Y V rfl V rfl V)<|AG fun gb=>Ze (BV (by_:=40) (sz:=5) C1 (V:Tryz.prog.info? 80=some Tryz.t80) V rfl V rfl Y (G) Y (Db 5 gb 1 1 80 (0,0) [I0 r.t,I0 r.k,I0 r.v.a,I0 r.v.b,I0 r.v.c] V) Wo Wo G0 A0 A0) ?_;rintro _ _ ⟨l8,I,rfl⟩;have ax:=Ba I (n':=(o++[r]).length) (xs':=Ae (o++[r])) (by rw [BW];rfl) (by rw [Bo];rfl)
   obtain ⟨ic,gy,rfl⟩:=I.form;refine AW Y<|Zn [2,4,7,17] ?_;refine A8<|Zn [7,2,4,17] ?_;refine Aa (e':=[(7,_)]) (by exact ⟨js++[jn],seen2,o++[r],_,_,rfl,⟨hi2,Z O,ax,by rw [BW,BW];simp;omega⟩,rfl,rfl⟩)
  refine AC<|A8<|Zn [7,2,4,17] ?_;refine Aa (e':=[(7,_)]) (by exact ⟨js++[jn],seen2,o,_,J,rfl,⟨hi2,X O,G,by rw [BW];omega⟩,rfl,rfl⟩)
 cases hb
end Go.Proofs.YthhakdmlpngcmaaGreatDoor
namespace Go.Proofs
open Go.Shelf
def Tryz.sortRow_ren:Go.Shelf.Ren:=⟨fun|6=>175|15=>105|14=>226|28=>170|29=>171|20=>260|21=>261|22=>262|23=>263|24=>264|25=>265|26=>266|27=>267|46=>298|47=>221|48=>222|49=>299|50=>300|57=>315|n=>n,fun|22=>59|24=>80|25=>303|3=>3|39=>210|0=>0|53=>295|55=>297|4=>4|46=>287|45=>286|50=>292|5=>5|9=>9|66=>332|70=>114|76=>371|77=>372|n=>n,fun|n=>n⟩
theorem Tryz.sortRow:Go.Proofs.SlLaysF0.n6 prog Tryz.sortRow_ren:={
 mixed:=by kernel_rfl
 f6:=⟨Tryz.f175.name,by decide,func175.trans (congrArg some AF)⟩
 f14:=⟨Tryz.f226.name,by decide,func226.trans (congrArg some AF)⟩
 f15:=func105.trans (congrArg some AF)
 f20:=⟨Tryz.f260.name,by decide,func260.trans (congrArg some AF)⟩
 f21:=⟨Tryz.f261.name,by decide,func261.trans (congrArg some AF)⟩
 f22:=⟨Tryz.f262.name,by decide,func262.trans (congrArg some AF)⟩
 f23:=⟨Tryz.f263.name,by decide,func263.trans (congrArg some AF)⟩
 f24:=⟨Tryz.f264.name,by decide,func264.trans (congrArg some AF)⟩
 f25:=⟨Tryz.f265.name,by decide,func265.trans (congrArg some AF)⟩
 f26:=⟨Tryz.f266.name,by decide,func266.trans (congrArg some AF)⟩
 f27:=⟨Tryz.f267.name,by decide,func267.trans (congrArg some AF)⟩
 f28:=func170.trans (congrArg some AF)
 f29:=func171.trans (congrArg some AF)
 f46:=⟨Tryz.f298.name,by decide,func298.trans (congrArg some AF)⟩
 f47:=func221.trans (congrArg some AF)
 f48:=func222.trans (congrArg some AF)
 f49:=⟨Tryz.f299.name,by decide,func299.trans (congrArg some AF)⟩
 f50:=⟨Tryz.f300.name,by decide,func300.trans (congrArg some AF)⟩
 f57:=⟨Tryz.f315.name,by decide,func315.trans (congrArg some AF)⟩
 t0:=eR
 a0:=isAgg0
 z0:=sizeOf0
 v0:=cY
 t3:=DE
 a3:=AH
 z3:=AE
 v3:=HI
 t4:=Mn
 a4:=Fc
 z4:=DM
 v4:=W6
 t5:=Mb
 a5:=UP
 z5:=K0
 v5:=SO
 t9:=HG
 a9:=HO
 z9:=Fk
 v9:=HT
 t22:=C1
 a22:=GF
 z22:=D3
 v22:=zeroValue59
 t25:=underlying303
 a25:=isAgg303
 z25:=sizeOf303
 v25:=zeroValue303
 t39:=XS
 a39:=isAgg210
 z39:=eh
 v39:=gn
 t45:=kh
 a45:=isAgg286
 z45:=sizeOf286
 v45:=l3
 t46:=ki
 a46:=isAgg287
 z46:=sizeOf287
 v46:=l4
 t50:=kf
 a50:=isAgg292
 z50:=sizeOf292
 v50:=kx
 t53:=TO
 a53:=Hc
 z53:=G2
 v53:=gx
 t55:=Xs
 a55:=al
 z55:=cy
 v55:=hQ
 t66:=kj
 a66:=isAgg332
 z66:=sizeOf332
 v66:=lA
 t70:=kl
 a70:=isAgg114
 z70:=W7
 v70:=Z3
 t76:=kn
 a76:=isAgg371
 z76:=sizeOf371
 v76:=lB
 t77:=kq
 a77:=isAgg372
 z77:=sizeOf372
 v77:=lE}
end Go.Proofs
namespace Go.Proofs.YthhakdmlpngcmaaGreatDoor
open Go.Proofs.Tryz
open Go Go.RowKit Gw
set_option maxRecDepth 100000
attribute [local irreducible] Gw.At Gw.Nx Gw.Ops
open Go.Sort Go.Shelf
attribute [local go_sem] Gl.evalE Gl.lookE Gl.linUpon Gl.wantedE Gl.yieldE Gl.putE
def pF(c:Nat)(a b:AU):Int:=orL (Lib.compareInt (Bj a (c:Int)) (Bj b (c:Int))) (Lib.compareInt a.k b.k)
def Stg(W:AD)(n:Nat)(w:AD):Prop:=∃q os,os.size=n/\w=grow (W.drewN q) os
theorem xO(W:AD):Stg W 0 W:=⟨0,#[],rfl,by simp [World.drewN]⟩
variable{w W:AD}{n:Nat}
theorem qY(h:Stg W n w):Stg W n w.drew:=by
 obtain ⟨q,os,rfl,rfl⟩:=h;exact ⟨q+1,os,V,V⟩
theorem OP(h:Stg W n w)(m:Nat)(g:Array Obj):Stg W (n+g.size) (grow (w.drewN m) g):=by
 obtain ⟨q,os,rfl,rfl⟩:=h;refine ⟨q+m,os++g,by simp,?_⟩;simp [grow,World.drewN,Array.append_assoc,kB]
theorem IR{b:Nat}{o:Obj}(h:Stg W n w)(m:W.heap[b]?=some o):w.heap[b]?=some o:=by
 obtain ⟨q,os,rfl,rfl⟩:=h;have g:=(HU.1 m).1
 show(W.heap++os)[b]?=_;rw [fR g];exact m
theorem qX(h:Stg W n w):w.heap.size=W.heap.size+n:=by
 obtain ⟨q,os,rfl,rfl⟩:=h;show(W.heap++os).size=_
 simp
theorem QY(w:AD)(o:Obj):(w.alloc o).heap[w.heap.size]?=some o:=by
 show(w.heap.push o)[w.heap.size]?=some o;exact Array.getElem?_push_size
theorem jA(w:AD)(o:Obj):(w.alloc o).heap.size=w.heap.size+1:=Array.size_push _
def yb:Nat->Nat
 |0=>0|1=>1|2=>2|3=>2|4=>2|5=>3|_=>3
def zd(W:AD)(T:Nat)(x y:Int)(k:Nat)(w:AD):Prop:=Stg W (yb k) w/\(5<=k->w.heap[W.heap.size+2]?=some (.cells #[I0 x,I0 y] T (0,0)))
set_option maxHeartbeats 2000000 in
theorem pE(a b:AU)(c:Nat)(hc:c<=3)(cb:Nat)(W:AD)(af:W.heap[cb]?=some (.cells #[I0 (c:Int)] 3 (0,0))):Calls prog 176 #[.agg a.A94,.agg b.A94,I1 cb] W fun e U=>e= .returned (I0 (pF c a b))/\∃q O,U=grow (W.drewN q) O:=by
 have bn:=(HU.1 af).1
 go_enter func176,ntmps176
 go_wp2
 generalize hW2:(W.alloc _).alloc _=W2;have Z:Stg W 2 W2:=by
  rw [<-hW2,alloc_eq_grow,alloc_eq_grow,grow_grow];exact ⟨0,_,V,V⟩
 have ax:Stg (W.alloc (.cells a.A94 80 (0,0))) 1 W2:=by
  rw [<-hW2,alloc_eq_grow _ (.cells b.A94 80 (0,0))];exact ⟨0,_,V,V⟩
 have hA:=IR ax (QY _ _);have hB:W2.heap[W.heap.size+1]?=some (.cells b.A94 80 (0,0)):=by
  rw [<-hW2,<-jA W (.cells a.A94 80 (0,0))];exact QY _ _
 have hC:=IR Z af;refine Gl.wp_region_lin [false,false,true,false,false,true,true,false,false,false,false,true,true,true,false] (zd W2 3 (Lib.compareInt (Bj a (c:Int)) (Bj b (c:Int))) (Lib.compareInt a.k b.k)) 20 V AF AF ⟨qY (xO W2),fun h=>absurd h B0⟩ ?_;intro fr J;have X:=Lib.hid J
 have e2:fr.tmps.getD 2 undef=I1 cb:=by rw [J];rfl
 have e3:fr.tmps.getD 3 undef= .pointer (some ⟨W.heap.size,0,none⟩):=by rw [J];rfl
 have e4:fr.tmps.getD 4 undef= .pointer (some ⟨W.heap.size+1,0,none⟩):=by rw [J];rfl
 clear J;apply Gl.wpLin_keep
 · intro j G g K m
   have I:=IR g.1 hA;have c0:=Cs (i:=0) I rfl
   have c1:=Cs (i:=1) I rfl;have c2:=Cs (i:=2) I rfl
   have c3:=Cs (i:=3) I rfl;have c4:=Cs (i:=4) I rfl
   go_simp
   exact m _ g
 apply Gl.wpLin_keep
 · intro j G g K m
   have c0:=Cs (i:=0) (IR g.1 hC) rfl
   go_simp
   exact m _ g
 apply Gl.wpLin_move
 · intro G g K m
   go_simp
   exact (JW a (c:Int) A0 _).mono (by
    rintro e U ⟨rfl,q,o,rfl⟩;exact ⟨_,V,m _ ⟨OP g.1 q #[o],fun h=>absurd h B0⟩⟩)
 apply Gl.wpLin_keep
 · intro j G g K m
   have I:=IR g.1 hB;have c0:=Cs (i:=0) I rfl
   have c1:=Cs (i:=1) I rfl;have c2:=Cs (i:=2) I rfl
   have c3:=Cs (i:=3) I rfl;have c4:=Cs (i:=4) I rfl
   go_simp
   exact m _ g
 apply Gl.wpLin_keep
 · intro j G g K m
   have c0:=Cs (i:=0) (IR g.1 hC) rfl
   go_simp
   exact m _ g
 apply Gl.wpLin_move
 · intro G g K m
   go_simp
   exact (JW b (c:Int) A0 _).mono (by
    rintro e U ⟨rfl,q,o,rfl⟩;exact ⟨_,V,m _ ⟨OP g.1 q #[o],fun h=>absurd h B0⟩⟩)
 apply Gl.wpLin_move
 · intro G g K m
   go_simp
   exact (Tryz.cmp_Compare_int _ _ _).mono (by
    rintro e U ⟨rfl,rfl⟩;exact ⟨_,V,m _ ⟨g.1,fun h=>absurd h B0⟩⟩)
 apply Gl.wpLin_keep
 · intro j G g K m
   go_simp
   exact m _ g
 apply Gl.wpLin_keep
 · intro j G g K m
   have c1:=Cs (i:=1) (IR g.1 hA) rfl
   go_simp
   exact m _ g
 apply Gl.wpLin_keep
 · intro j G g K m
   go_simp
   exact m _ g
 apply Gl.wpLin_keep
 · intro j G g K m
   have c1:=Cs (i:=1) (IR g.1 hB) rfl
   go_simp
   exact m _ g
 apply Gl.wpLin_move
 · intro G g K m
   go_simp
   exact (Tryz.cmp_Compare_int _ _ _).mono (by
    rintro e U ⟨rfl,rfl⟩;exact ⟨_,V,m _ ⟨g.1,fun h=>absurd h B0⟩⟩)
 apply Gl.wpLin_move (v:= .slice (some ⟨W2.heap.size+2,0,none⟩) 2 2)
 · intro G g K m
   have hz:=qX g.1;change G.heap.size=W2.heap.size+2 at hz
   go_simp
   have h:=m _ ⟨OP g.1 0 #[.cells #[I0 (Lib.compareInt (Bj a (c:Int)) (Bj b (c:Int))),I0 (Lib.compareInt a.k b.k)] 3 (0,0)],fun _=>?_⟩
   · rw [alloc_eq_grow]
     exact h
   · rw [<-hz]
     exact QY G _
 apply Gl.wpLin_move
 · intro G g K m
   have I:=g.2 B0
   go_simp
   exact (tX _ _ _ _ (Cs (i:=0) I V) (Cs (i:=1) I V)).mono (by
    rintro e U ⟨rfl,rfl⟩;exact ⟨_,V,m _ ⟨g.1,fun _=>I⟩⟩)
 apply Gl.wpLin_keep
 · intro j G g K m
   go_simp
   exact m _ g
 apply Gl.wpLin_done;intro wz hz;rw [X.out];simp only [Gl.putE,Gl.putsE,Act.put,nr,List.set_cons_zero,List.set_cons_succ];obtain ⟨⟨q,os,-,rfl⟩,-⟩:=hz;clear X
 go_wp2
 go_ret
 obtain ⟨q',O,-,h⟩:=OP Z q os;exact ⟨V,q',O,h⟩
end Go.Proofs.YthhakdmlpngcmaaGreatDoor
namespace Go.Proofs.YthhakdmlpngcmaaGreatDoor
open Go.Proofs.Tryz
open Go Go.RowKit Gw
set_option maxRecDepth 100000
attribute [local irreducible] Gw.At Gw.Nx Gw.Ops
open Go.Sort Go.Shelf
instance:Inhabited AU:=⟨⟨0,0,⟨0,0,0⟩⟩⟩
def UC(r:AU):List A4:=[I0 r.t,I0 r.k,I0 r.v.a,I0 r.v.b,I0 r.v.c]
theorem ltR(c:Nat)(a b:AU):ltOf (pF c) a b=decide (Bj a (c:Int)<Bj b (c:Int)\/Bj a (c:Int)=Bj b (c:Int)/\a.k<b.k):=by
 unfold ltOf pF orL Lib.compareInt;have g:=Int.lt_trichotomy (Bj a (c:Int)) (Bj b (c:Int))
 have h2:=Int.lt_trichotomy a.k b.k;generalize Bj a (c:Int)=x at*;generalize Bj b (c:Int)=y at*;apply decide_eq_decide.2;split<;>split<;>(try split)<;>(try split)<;>omega
theorem yW(c:Nat):SWO (ltOf (pF c))where
 irrefl x:=by rw [ltR];simp
 trans x y z h1 h2:=by rw [ltR]at*;simp only [G4]at*;omega
 ntrans x y z h1 h2:=by rw [ltR]at*;simp only [Mu]at*;omega
theorem jU:jB:=by
 intro I c w o s hc hn ic;obtain ⟨j5,⟨rfl,h0,rfl⟩|⟨g,cap,cur,z,rfl,rfl,gm,d9,U,j3,bn⟩⟩:=ic
 · intro u R X O
   have ho:o=[]:=Lz h0;subst ho;have hN:=AnyF.slices_SortFunc_none Tryz.sortRow none 0 (.func (.func 176) #[] #[I1 I]) X
   exact hN.mono (by
    rintro e w' ⟨rfl,rfl⟩;exact .inl ⟨_,_,V,⟨V,[],[],.refl _,.nil,Bi _ _,V⟩,O⟩)
 · intro u R X O
   have hb:=O.get (g,.cells cur 80 z) B4;have cO:=O.get (I,.cells #[I0 (c:Int)] 3 (0,0)) B4
   have gy:g≠I:=by
    have:=O.nodup;simp at this;exact this.1.1
   have hH:=Tu (w:=X) (g:=g) (cur:=cur) (e:=80) (z:=z) UC 5 (fun _=>rfl) o hb (by rw [U];omega) bn j3;have eg:∀(args:AM) (w:AD),(callFunc 176 args).run prog w= .ok (.enter 176 args) w:=enters_of func176 AF rfl
   have af:CmpLays prog 176 #[I1 I] UC 5 (pF c) g 0 o.toArray.size X:=by
    intro m os dk kv x y;refine pE x y c hc I _ ?_;have gq:=O.lt (p:=(I,.cells #[I0 (c:Int)] 3 (0,0))) B4
    rw [Pm UC 5 X g m I dk os gy gq];exact cO
   have ax:=AnyQ.slices_SortFunc Tryz.sortRow 5 Cp B3 UC (fun _=>rfl) (fun x v hv=>by simp [UC]at hv;rcases hv with rfl|rfl|rfl|rfl|rfl<;>rfl) (pF c) (yW c) 176 #[I1 I] g 0 cap o.toArray X eg af hH (O.lt (p:=(g,.cells cur 80 z)) B4) It;refine ax.mono ?_;rintro e w' ⟨rfl,G,n,os,⟨dn,-,hpm⟩,hso,rfl⟩;have J:G.size=o.length:=by simpa using dn
   have hF:(flatK UC 5 G).toList=Ae G.toList:=Nw UC 5 (fun _=>rfl) G.toList;have Z:(flatK UC 5 G).size=o.length*5:=by rw [size_flatK,J]
   have K:G.toList.Perm o:=by
    have e1:G.extract 0 o.toArray.size=G:=by
     rw [show o.toArray.size=G.size by rw [J];simp];exact Array.extract_size
    rw [e1]at hpm;simpa using hpm
   have cu:G.toList.length=o.length:=K.length_eq;refine .inl ⟨_,[[(g,.cells (putCells id 0 (flatK UC 5 G) cur) 80 z)],[(I,.cells #[I0 (c:Int)] 3 (0,0))]],V,⟨V,_,G.toList,K,?_,?_,V⟩,O.sortedK UC G os⟩
   · rw [fS]
     intro i j hi hj ek;have h:=hso i j (C7 _) ek It
     rw [ltR]at h;simp only [Mu]at h;rw [getElem!_pos G i (by simpa using hi),getElem!_pos G j (by simpa using hj)]at h;rw [Lc _ c hc,Lc _ c hc]at h;unfold leV;simp only [Array.getElem_toList];omega
   · rw [cu]
     refine ⟨by rw [BH,cu],.inr ⟨g,cap,_,z,rfl,rfl,gm,d9,by rw [Mg];exact U,?_,by rw [Mg];exact bn⟩⟩;have h:=VZ cur (flatK UC 5 G) (by rw [Z,U];omega)
     rw [Z,hF]at h;exact h
end Go.Proofs.YthhakdmlpngcmaaGreatDoor
namespace Go.Proofs.YthhakdmlpngcmaaGreatDoor
open Go.Proofs.Tryz
open Go Go.RowKit Gw
set_option maxRecDepth 100000
attribute [local irreducible] Gw.At Gw.Nx Gw.Ops
theorem WF(c:Nat)(out:List AU)(x:AU):∃A B,out=A++B/\aN c out x=A++[x]++B/\(∀r∈B,Dh x c<Dh r c)/\(A=[]\/∃m r,A=m++[r]/\Dh r c<=Dh x c):=by
 let q:AU->Bool:=fun r=>decide (Dh x c<Dh r c)
 have e:out=(out.reverse.dropWhile q).reverse++(out.reverse.takeWhile q).reverse:=by
  rw [<-mN,List.takeWhile_append_dropWhile,List.reverse_reverse]
 have G:ed c out (Dh x c)=(out.reverse.dropWhile q).reverse.length:=by
  rw [mC];rfl
 refine ⟨(out.reverse.dropWhile q).reverse,(out.reverse.takeWhile q).reverse,e,?_,?_,?_⟩
 · unfold aN
   rw [G];generalize (out.reverse.dropWhile q).reverse=A at*;generalize (out.reverse.takeWhile q).reverse=B at*;subst e;rw [Hb,X1];all_goals rfl
 · intro r g
   rw [fh]at g;have:=List.all_takeWhile (p:=q) (l:=out.reverse)
   rw [MT]at this;simpa [q]using this r g
 · cases h:out.reverse.dropWhile q with
   |nil=>left;rfl
   |cons r l=>
    right;refine ⟨l.reverse,r,by simp,?_⟩;have:=List.head?_dropWhile_not q out.reverse
    rw [h]at this;simpa [q]using this
theorem WE(c:Nat)(out:List AU)(x:AU):(aN c out x).Perm (x::out):=by
 obtain ⟨A,B,e1,e2,_,_⟩:=WF c out x;rw [e2,e1,Cd];exact Nd
theorem U0(c:Nat):∀(l out:List AU),(l.foldl (aN c) out).Perm (out++l)
 |[],out=>by simp
 |x::l,out=>by
  rw [V1];refine (U0 c l _).trans ?_;refine ((WE c out x).append_right l).trans ?_;exact Nd.symm
variable{c:Nat}{x:AU}
theorem aM{out:List AU}(h:out.Pairwise (leV c))(K:∀r∈out,r.k<x.k):(aN c out x).Pairwise (leV c):=by
 obtain ⟨A,B,e1,e2,X,U⟩:=WF c out x;rw [e2];rw [e1]at h K;rw [PA]at h;obtain ⟨G,h2,O⟩:=h;have I:∀r∈A,Dh r c<=Dh x c:=by
  rcases U with rfl|⟨A',r0,rfl,h0⟩
  · intro r g;simp at g
  · intro r g
    rcases C2.1 g with hr'|hr'
    · rw [PA]at G
      have:=G.2.2 r hr' r0 B4;unfold leV at this;omega
    · rw [C5]at hr'
      subst hr';exact h0
 rw [Cd,PA];refine ⟨G,?_,?_⟩
 · rw [My,PJ]
   exact ⟨fun r g=> .inl (X r g),h2⟩
 · intro a J b m
   rw [My,DB]at m;rcases m with rfl|m
   · have Z:=I a J
     have h5:=K a (Ek _ J);unfold leV;omega
   · exact O a J b m
theorem PM(c:Nat):∀(l out:List AU),out.Pairwise (leV c)->l.Pairwise (fun a b=>a.k<b.k)->(∀r∈out,∀x∈l,r.k<x.k)->(l.foldl (aN c) out).Pairwise (leV c)
 |[],out,h,_,_=>h
 |x::l,out,h,h2,h3=>by
  rw [V1];rw [PJ]at h2;refine PM c l _ (aM h fun r g=>h3 r g x B4) h2.2 ?_;intro r g y m;have:=(WE c out x).mem_iff.1 g
  rcases DB.1 this with rfl|hm
  · exact h2.1 y m
  · exact h3 r hm y (by simp [m])
variable{rs:List AU}{t:Int}{f:AU->Bool}
theorem Mm(K:BN rs)(m:∀r,f r=true->r.t=t):(rs.filter f).Pairwise (fun a b=>a.k<b.k):=by
 have G:(rs.filter f).Pairwise (fun a b=>a.lt2 b.t b.k):=K.filter f;refine G.imp_of_mem ?_;intro a b I J g;have h2:=m a (FG.1 I).2
 have O:=m b (FG.1 J).2;unfold AU.lt2 at g;omega
theorem uV{l:List AU}(h:l.Pairwise (fun a b=>a.k<b.k)):∀a∈l,∀b∈l,a.k=b.k->a=b:=by
 induction l with
 |nil=>intro a g;simp at g
 |cons x l ih=>
  rw [PJ]at h;intro a g b m e;rcases DB.1 g with ea|ha'<;>rcases DB.1 m with eb|hb'
  · rw [ea,eb]
  · have:=h.1 b hb';rw [ea]at e;omega
  · have:=h.1 a ha';rw [eb]at e;omega
  · exact ih h.2 a ha' b hb' e
variable{r:AU}
theorem kD{lo hi:Int}(h:inR t c lo hi r=true):r.t=t:=(HN h).1
theorem ES(rs:List AU)(t:Int)(c:Nat)(lo hi:Int):(Dm rs t c lo hi).Perm (rs.filter (inR t c lo hi)):=by
 have:=U0 c (rs.filter (inR t c lo hi)) [];rw [LN]at this;exact this
theorem Ev(m:BN rs)(t:Int)(c:Nat)(lo hi:Int):(Dm rs t c lo hi).Pairwise (leV c):=
 PM c _ [] .nil (Mm m fun r h=>kD h) (by intro r g;simp at g)
theorem NY(U:BN rs)(K:∀r,f r=true->r.t=t){a b:List AU}(G:a.Perm (rs.filter f))(I:b.Perm (rs.filter f))(J:a.Pairwise (leV c))(h2:b.Pairwise (leV c)):a=b:=by
 have O:=Mm U K;refine (G.trans I.symm).eq_of_pairwise ?_ J h2;intro x y X Z g m;refine uV O x (G.mem_iff.1 X) y (I.mem_iff.1 Z) ?_;unfold leV at g m;omega
theorem VY(g:BN rs){lo hi:Int}{o:List AU}(m:o.Perm (rs.filter (inR t c lo hi)))(h2:o.Pairwise (leV c)):o=Dm rs t c lo hi:=
 NY g (fun r h=>kD h) m (ES rs t c lo hi) h2 (Ev g t c lo hi)
def inT(t:Int)(r:AU):Bool:=decide (r.t=t)
def Fj(rs:List AU)(t:Int):List AU:=rs.filter (inT t)
theorem xL(g:BN rs){o:List AU}(m:o.Perm (Fj rs t))(h2:o.Pairwise (leV 0)):o=Fj rs t:=by
 refine NY (f:=inT t) (t:=t) g (fun r h=>HN h) m (.refl _) h2 ?_;refine (Mm (t:=t) (f:=inT t) g (fun r h=>HN h)).imp ?_;intro a b h;unfold leV Dh;simp only [As];omega
theorem xU(r:AU)(t:Int)(g:Nat):BJ prog 122 #[.agg r.A94,I1 g] [[(g,.cells #[I0 t] 3 (0,0))]] (.bool (inT t r)):=by
 refine Se func122 ntmps122 [0,1] ?_;intro u R;refine A1<|Ze (Bx #[_,_,_,_,_])<|AG fun g=>A5 Y<|A1<|Zh 0 Fo V rfl AE Y<|Zl AH Y<|Zl AH Y<|Zv (CO Y Y)<|A5 Y<|AJ<|AP V results122 Y (by exact ⟨V,V⟩)
theorem bM(hS:jB)(sp mb:Nat)(p:Int)(es:Array MapEntry)(ck:Nat)(lm:List ((Int×Int)×A4))(rs:List AU)(hm:Ck K2 es ck lm)(hR:Gf lm rs)(hs:BN rs)(hn:rs.length<=2000)(t:Int)(c:Nat)(hc:c<=3)(b1:Nat):
 BS prog 119 #[I1 sp,I0 (c:Int),.func (.func 122) #[] #[I1 b1]] [[(sp,.cells #[.map (some mb),I0 p] 215 (0,0))],[(mb,.map es ck)],[(b1,.cells #[I0 t] 3 (0,0))]] (fun r H'=>∃(J:List A9) (o:List AU),Bc 5 80 r o.length (Ae o) J/\o.Perm (rs.filter (inT t))/\o.Pairwise (leV c)/\H'=[J,[(sp,.cells #[.map (some mb),I0 p] 215 (0,0))],[(mb,.map es ck)],[(b1,.cells #[I0 t] 3 (0,0))]]):=by
 have kv:=mL;have j5:=hR.len hm hs
 refine Se func119 ntmps119 [0,1,2] ?_;intro u R;refine A1<|Ze (Bx #[_])<|AG fun cb=>A5 Y<|Zq<|A1<|Zm Y<|Zv (Bg i6 Y Y)<|A6<|AQ Y (fun h1=>by cases h1)<|fun h1=>AC<|Zx<|A1<|A5 Y<|Zq<|A1<|Zm Y<|Zp Y V<|Zh 0 cG V rfl cL Y<|Zv (Ap (off:=0) cF V rfl er Y)<|Zl isAgg211 Y<|Ze (Kc gC Y Wh)<|AG fun ib=>A6<|AR<|Be<|Zb [7,2,4,17] ?_;refine BF (e0:=[(7,_)]) (fun m e H=>∃(js:List Nat) (seen:Array Nat) (o:List AU) (w:A4) (J:List A9),m=lm.length -js.length/\(Ig es js seen/\RS lm (inT t) js o/\Bc 5 80 w o.length (Ae o) J/\o.length<=js.length)/\e=[(7,w)]/\H=[[(ib,.mapIter (some mb) ck seen ck)],J]) (by exact ⟨[],#[],[],.slice none 0 0,[],V,⟨JC _,YS _ _,Bi 5 _,CT _⟩,V,V⟩) Wp ?_;rintro _ _ _ ⟨js,seen,o,w,J,rfl,⟨U,cu,G,l5⟩,rfl,rfl⟩;obtain ⟨qo,gq,rfl⟩:=G.form;have cO:=EY es.size js U.nodup U.lt
 rw [hm.size]at cO;refine A1<|Ze (MZ hm U Y Wo Wh) ?_;rintro _ _ d9;rcases d9 with⟨K,rfl,rfl⟩|⟨jn,pn,seen2,hpn,hjn,hi2,rfl,rfl⟩
 ·
  refine Zd Y V<|A6<|Zq<|AQ Y (fun hb=>by cases hb)<|fun hb=>Az<|Zt<|Zt<|AV<|Zx<|A1<|Zm Y<|Zv (Bf (vs:=[]) (us:=[_]) Y Y)<|Zc [_,_] Y call175 Y V (hS cb c _ o J hc A0 G) ?_;rintro _ _ ⟨_,⟨rfl,gm,o2,dn,ek,bn,rfl⟩,rfl⟩;refine A6<|A1<|Zm Y<|A5 Y<|AJ<|AP V results119 Y (by exact ⟨gm,o2,bn,dn.trans (cu.done hm hR hs K),ek,V⟩)
 obtain ⟨r,hr,rfl⟩:=(hR.mem pn).1 (DO hpn);refine Zd Y V<|A6<|Zq<|AQ Y (fun hb=>?_) (fun hb=>?_);·
  have af:=EY es.size (js++[jn]) hi2.nodup hi2.lt;rw [hm.size,BW,F2]at af;have j3:(js++[jn]).length=js.length+1:=by rw [BW];rfl
  have g:=cu.push (r:=r) (rs:=rs) hpn;have Z:(inT t) r=true->RS lm (inT t) (js++[jn]) (o++[r]):=fun h=>by rw [h]at g;exact g
  have X:(inT t) r=false->RS lm (inT t) (js++[jn]) o:=fun h=>by rw [h]at g;simpa using g
  refine AC<|Zx<|AR<|A1<|CS (cs:=[(ib,.mapIter (some mb) ck seen2 ck),(mb,.map es ck)]) B4 (I5 hm hi2 hpn Y) V rfl<|Zd Y V<|Ze (Al EV #[_,_,_,_,_])<|AG fun xb=>Xe (Xw B3 r.A94)<|A6<|A1<|Zm Y<|Zo Wh (Pa #[_,_,_,_,_] Cp B3 Y)<|Xr [_] Y call122 Y V (xU r t b1)<|A6<|AQ Y (fun O=>?_) (fun O=>?_);·
   refine Zg<|Zm Y<|Zo Wh (Pa #[_,_,_,_,_] Cp B3 Y)<|Ze (Ai (vs:=[_]) (cs:=[_,_,_,_,_]) C1 B3 EV Y V rfl V rfl V)<|AG fun gb=>Ze (BV (by_:=40) (sz:=5) C1 (V:Tryz.prog.info? 80=some Tryz.t80) V rfl V rfl Y (G) Y (Db 5 gb 1 1 80 (0,0) [I0 r.t,I0 r.k,I0 r.v.a,I0 r.v.b,I0 r.v.c] V) Wo Wo G0 A0 A0) ?_;rintro _ _ ⟨l8,I,rfl⟩;have ax:=Ba I (n':=(o++[r]).length) (xs':=Ae (o++[r])) (by rw [BW];rfl) (by rw [Bo];rfl)
   obtain ⟨ic,gy,rfl⟩:=I.form;refine AW Y<|Zn [2,4,7,17] ?_;refine A8<|Zn [7,2,4,17] ?_;refine Aa (e':=[(7,_)]) (by exact ⟨js++[jn],seen2,o++[r],_,_,rfl,⟨hi2,Z O,ax,by rw [BW,BW];simp;omega⟩,rfl,rfl⟩)
  refine AC<|A8<|Zn [7,2,4,17] ?_;refine Aa (e':=[(7,_)]) (by exact ⟨js++[jn],seen2,o,_,J,rfl,⟨hi2,X O,G,by rw [BW];omega⟩,rfl,rfl⟩)
 cases hb
def PY(v:A4)(p:Int)(rs:List AU)(s:List A9):Prop:=∃sp mb es ck lm,v=I1 sp/\Ck K2 es ck lm/\Gf lm rs/\BN rs/\rs.length<=2000/\s=[(sp,.cells #[.map (some mb),I0 p] 215 (0,0)),(mb,.map es ck)]
theorem lI(m mb:Nat)(p:Int)(es:Array MapEntry)(ck:Nat)(lm:List ((Int×Int)×A4))(rs:List AU)(hm:Ck K2 es ck lm)(hR:Gf lm rs)(O:BN rs)(hn:rs.length<=2000)(t:Int)(c:Nat)(lo hi:Int)(hc:c<=3):
 BS prog 60 #[I1 m,I0 t,I0 (c:Int),I0 lo,I0 hi] [[(m,.cells #[.map (some mb),I0 p] 215 (0,0))],[(mb,.map es ck)]] (fun r H'=>∃g,Bc 5 80 r (Dm rs t c lo hi).length (Ae (Dm rs t c lo hi)) g/\H'=[g,[(m,.cells #[.map (some mb),I0 p] 215 (0,0))],[(mb,.map es ck)]]):=by
 refine Se func60 ntmps60 [0,1,2,3,4] ?_;intro u R;refine A1<|Ze (Bx #[_])<|AG fun X=>Ze (Bx #[_])<|AG fun U=>Ze (Bx #[_])<|AG fun Z=>Ze (Bx #[_])<|AG fun b4=>A5 Y<|Zq<|A1<|Zl AH Y ?_;refine Zv (Ay (n:=0) Y Y)<|Zm Y<|Ao (t:=13) Y V (fun K=>?_) (fun K=>?_);·
  exfalso;(cases K;done)
 refine Yl AH Y ?_;refine Yg (Gn (n:=4) Y Y)<|Zv (AL Y Y)<|A6<|Av Y (fun h2=>by omega)<|fun h2=>AC<|Zx<|A1<|Zm Y<|Zl AH Y ?_;refine Zv (Bf (vs:=[]) (us:=[_,_,_,_]) Y Y)<|Zc [_,_,_] Y call119 Y V (Xu jU m mb p es ck lm rs hm hR O hn t c lo hi hc U X Z b4) ?_;rintro _ _ ⟨_,⟨g,o,J,G,I,rfl⟩,rfl⟩;have e9:=VY O G I
 subst e9;refine AW Y<|Zn [10] ?_;refine Zx<|AJ<|AP V results60 Y (by exact ⟨g,J,V⟩)
theorem YO(v:A4)(p:Int)(rs:List AU)(s:List A9)(hv:PY v p rs s)(t:Int)(c:Nat)(lo hi:Int)(hc:c<=3):BS prog 60 #[v,I0 t,I0 (c:Int),I0 lo,I0 hi] [s] (fun r H'=>∃g,Bc 5 80 r (Dm rs t c lo hi).length (Ae (Dm rs t c lo hi)) g/\H'=[g,s]):=by
 obtain ⟨O,mb,es,ck,lm,rfl,I,G,K,J,rfl⟩:=hv;refine Ga (lI O mb p es ck lm rs I G K J t c lo hi hc) B4 ?_;rintro r H' ⟨g,m,rfl⟩;exact ⟨_,⟨g,m,V⟩,by simp⟩
theorem qZ(m mb:Nat)(p:Int)(es:Array MapEntry)(ck:Nat)(lm:List ((Int×Int)×A4))(rs:List AU)(Z:Ck K2 es ck lm)(X:Gf lm rs)(K:BN rs)(hn:rs.length<=2000)(t:Int):
 BS prog 61 #[I1 m,I0 t] [[(m,.cells #[.map (some mb),I0 p] 215 (0,0))],[(mb,.map es ck)]] (fun r H'=>∃g,Bc 5 80 r (Fj rs t).length (Ae (Fj rs t)) g/\H'=[g,[(m,.cells #[.map (some mb),I0 p] 215 (0,0))],[(mb,.map es ck)]]):=by
 refine Se func61 ntmps61 [0,1] ?_;intro u R;refine A1<|Ze (Bx #[_])<|AG fun O=>A5 Y<|A1<|Zm Y<|Zv (Bf (vs:=[]) (us:=[_]) Y Y)<|Zc [_,_,_] Y call119 Y V (bM jU m mb p es ck lm rs Z X K hn t 0 A0 O) ?_;rintro _ _ ⟨_,⟨g,o,J,G,I,rfl⟩,rfl⟩;have U:o=Fj rs t:=xL K G I
 subst U;refine A5 Y<|AJ<|AP V results61 Y (by exact ⟨g,J,V⟩)
theorem xP(v:A4)(p:Int)(rs:List AU)(s:List A9)(hv:PY v p rs s)(t:Int):BS prog 61 #[v,I0 t] [s] (fun r H'=>∃g,Bc 5 80 r (Fj rs t).length (Ae (Fj rs t)) g/\H'=[g,s]):=by
 obtain ⟨O,mb,es,ck,lm,rfl,I,G,K,J,rfl⟩:=hv;refine Ga (qZ O mb p es ck lm rs I G K J t) B4 ?_;rintro r H' ⟨g,m,rfl⟩;exact ⟨_,⟨g,m,V⟩,by simp⟩
def Di(M:List A9)(v:A4)(rs:List AU):Prop:=∃p cap,v= .slice p rs.length cap/\(rs.length<=maxLen/\rs.length<=cap)/\∀(i:Nat) (x:AU),rs[i]?=some x->∃g off cur T zz,p=some ⟨g,off,none⟩/\(g,Obj.cells cur T zz)∈M/\off+i*5+5<=cur.size/\cur.extract (off+i*5) (off+i*5+5)=x.A94
variable{v:A4}{s:List A9}
theorem Cy{e:AK}(h:Bc 5 e v rs.length (Ae rs) s)(J:rs.length<=maxLen):Di s v rs:=by
 obtain ⟨b,cap,rfl⟩:=h.form;refine ⟨b,cap,V,⟨J,F5 h⟩,fun i x I=>?_⟩;obtain ⟨g,G,cur,z,hv,rfl,K,m⟩:=K8 h i (C4.1 I).1;injection hv with hv1 hv2 hv3
 refine ⟨g,0,cur,e,z,hv1,by simp,by omega,?_⟩;unfold Ae at m;rw [J3 _ 5 (fun _=>rfl) rs i x I]at m;rw [D4];exact HX.1 m
variable{M:List A9}
theorem Di.mono{m:List A9}{ls:List AU}(h:Di M v ls)(K:∀c∈M,c∈m):Di m v ls:=by
 obtain ⟨p,cap,e,J,I⟩:=h;refine ⟨p,cap,e,J,fun i s O=>?_⟩;obtain ⟨g,off,cur,T,zz,e1,G,h2⟩:=I i s O;exact ⟨g,off,cur,T,zz,e1,K _ G,h2⟩
theorem GD(r:AU)(c:Int)(hc:0<=c/\c<=3):BJ prog 121 #[.agg r.A94,I0 c] [] (I0 (Bj r c)):=fun u R w g=>
 (JW r c hc w).mono (by
   rintro e m ⟨rfl,q,o,rfl⟩;exact .inl ⟨_,[],V,⟨V,V⟩,SK g q _⟩)
variable{n:Nat}
theorem PO{cur xs:AM}{a:Nat}(h:cur.extract a (a+n)=xs)(m:a+n<=cur.size)(j:Nat)(g:j<n):cur[a+j]?=xs[j]?:=by
 rw [<-h,dq,As A0]
theorem UE{p q:Prop} [Decidable p] [Decidable q](h:p↔q):Value.bool (decide p)=Value.bool (decide q):=by rw [decide_eq_decide.2 h]
variable{P:Program}{args:AM}
theorem Qx{f:FuncId}(h:BJ P f args [] v):BJ P f args [M] v:=fun u R w m=>
 Calls.mono (h u ([M]++R) w m) fun e I g=>by
  rcases g with⟨G,H',rfl,⟨rfl,rfl⟩,h2⟩|⟨ch,H',rfl,h1,h2⟩
  · exact .inl ⟨_,[M],rfl,⟨rfl,rfl⟩,h2⟩
  · exact h1.elim
variable{B A:List A9}
theorem bG{f:FuncId}(h:BJ P f args [B] v):BJ P f args [A++B] v:=fun u R w m=>
 Calls.mono (h u ([A]++R) w (m.perm (by simp only [HC,CC,Fl,DA];rw [<-Cd];exact Lo.append_right _))) fun e I g=>by
  rcases g with⟨G,H',rfl,⟨rfl,rfl⟩,h2⟩|⟨ch,H',rfl,h1,h2⟩
  · refine .inl ⟨_,[A++B],rfl,⟨rfl,rfl⟩,h2.perm ?_⟩
    simp only [HC,CC,Fl,DA];rw [<-Cd];exact Lo.append_right _
  · exact h1.elim
theorem WR{f:FuncId}(h:BJ P f args [A++B] v):BJ P f args [A,B] v:=by
 refine Ga h B4 ?_;rintro r H' ⟨rfl,rfl⟩;exact ⟨_,⟨V,V⟩,by simp⟩
variable{α:Type}
theorem Bl{xs:List α}{j:Nat}{x:α}(h:xs[j]?=some x):xs.take (j+1)=xs.take j++[x]:=by rw [NX,h];rfl
variable{k:Nat}
theorem lJ(h:rs[k]?=some r):Ae rs=Ae (rs.take k)++(Ae [r]++Ae (rs.drop (k+1))):=by
 rw [<-Bo,<-Bo];congr 1;obtain ⟨g,rfl⟩:=C4.1 h;rw [My,<-RW g,K1]
theorem Li(h:rs[k]?=some r)(j:Nat)(g:j<5):(Ae rs)[k*5+j]?=(Ae [r])[j]?:=by
 have m:=(C4.1 h).1;have e:(Ae (rs.take k)).length=k*5:=by rw [BH,CD];omega
 rw [lJ h,RT A0,Wa (by rw [e,BH];simp;omega),e,Nat.add_sub_cancel_left]
theorem YX{p:B8}{cap:Nat}(h:Di M (.slice p n cap) rs):FP M p (Ae rs):=by
 obtain ⟨p',J,e,hl,X⟩:=h;injection e with e1 e2 e3
 subst e1;intro j u K;have G:=(C4.1 K).1
 rw [BH]at G;obtain ⟨x,O⟩:∃x,rs[j/5]?=some x:=⟨_,BT A0⟩;obtain ⟨g,off,cur,T,zz,rfl,Z,I,m⟩:=X (j/5) x O;refine ⟨g,off,cur,T,zz,V,Z,?_⟩;have U:=PO m I (j%5) A0
 have h2:=Li O (j%5) A0;rw [show j/5*5+j%5=j by omega,K]at h2;rw [show off+j=off+j/5*5+j%5 by omega,U,h2,<-HR];rfl
theorem Gm(hv:Di M v rs)(hb:rs.length<=1000000000000):BS prog 76 #[v] [M] (fun r H'=>∃O,Bc 5 80 r rs.length (Ae rs) O/\H'=[O,M]):=by
 have af:=mL;obtain ⟨p,cap,rfl,⟨hl,Z⟩,X⟩:=id hv;have G:FP M p (Ae rs):=YX hv
 refine Se func76 ntmps76 [0] ?_;intro u R;refine A1<|A5 Y<|Zq<|A1<|Zm Y<|Zv (Dr C1 Y Y)<|A6<|AQ Y (fun K=>?_) (fun K=>?_);·
  have I:p=none:=by cases p with
   |none=>rfl
   |some x=>cases K
  have h0:rs=[]:=by
   cases rs with
   |nil=>rfl
   |cons x l=>obtain ⟨g,off,cur,T,zz,J,_⟩:=X 0 x rfl;rw [I]at J;cases J
  refine Zq<|Be<|Zg<|A5 Y<|AJ<|Zt<|AP rfl results76 Y (by exact ⟨[],by rw [h0];exact Bi 5 _,rfl⟩)
 refine AC<|Zx<|A1<|Ze (EQ C1 B3)<|AG fun U=>Zm Y<|Ze (Hl (by_:=40) (sz:=5) C1 (V:Tryz.prog.info? 80=some Tryz.t80) V rfl V rfl Y (IV 5 80 U 0 [] V B0) Y (G) (by exact BH _) B0 Wo Wo (by exact CW _) A0 A0) ?_;rintro _ _ ⟨ax,m,rfl⟩;replace m:=Ba m (D4 _) (LN _);refine A5 Y<|AJ<|AP V results76 Y (by exact ⟨_,m,V⟩)
theorem yD{a b:List α}(g:a.length=b.length)(h:∀j,j<a.length->a[j]?=b[j]?):a=b:=by
 apply MD;intro i;rcases FA i a.length with h9|h9
 · exact h i h9
 · rw [Lq h9,Lq A0]
theorem bD [DecidableEq α]{a b:α}(h:¬a=b):Value.bool false=Value.bool (decide (a=b)):=congrArg Value.bool (Cl h).symm
theorem vN [DecidableEq α]{a b:α}(h:a=b):Value.bool true=Value.bool (decide (a=b)):=congrArg Value.bool (D2 h).symm
theorem rO{a b:AU}:UR a.t b.t a.k b.k a.v b.v↔a=b:=by
 obtain ⟨t,k,v⟩:=a;obtain ⟨t2,g,m⟩:=b;simp [UR]
def RJ(pd:AU->Bool)(rows:List AU):Int:=(rows.findIdx? pd).elim (-1) fun i=>(i:Int)
variable{rows:List AU}{i:Nat}
theorem uj{g:AU->Bool}(h:∀(j:Nat) (y:AU),j<i->rows[j]?=some y->g y=false)(I:rows[i]?=some x)(G:g x=true):RJ g rows=(i:Int):=by
 obtain ⟨hi,rfl⟩:=C4.1 I;unfold RJ;rw [aq.2 ⟨hi,G,fun j m=>by simp [h j _ m (BT A0)]⟩];rfl
theorem uk{m:AU->Bool}(h:∀(j:Nat) (y:AU),j<rows.length->rows[j]?=some y->m y=false):RJ m rows=-1:=by
 unfold RJ;rw [dp.2 fun y G=>by
  obtain ⟨j,g⟩:=HB G;exact h j y (C4.1 g).1 g]
 rfl
theorem nu(g:AU->Bool)(rows:List AU):(RJ g rows=-1/\∀y∈rows,g y=false)\/∃(i:Nat) (x:AU),RJ g rows=(i:Int)/\rows[i]?=some x/\g x=true/\∀(j:Nat) (y:AU),j<i->rows[j]?=some y->g y=false:=by
 unfold RJ;cases h:rows.findIdx? g with
 |none=>exact .inl ⟨rfl,dp.1 h⟩
 |some i=>
  obtain ⟨m,h2,G⟩:=aq.1 h;refine .inr ⟨i,_,V,BT m,h2,fun j y I J=>?_⟩;obtain ⟨K,rfl⟩:=C4.1 J;simpa using G j I
theorem sP(g:k<rs.length)(x:AU):(Ae rs).take (k*5)++Ae [x]++(Ae rs).drop (k*5+(Ae [x]).length)=Ae (rs.set k x):=by
 rw [show k*5+(Ae [x]).length=(k+1)*5 by rw [BH];simp;omega,EC,Dj,<-Bo,<-Bo,lR,As g];simp
theorem au{cur:AM}(g:Bw cur 0 (Ae rs))(G:rs[k]?=some x):k*5+5<=cur.size/\cur.extract (0+k*5) (0+k*5+5)=(Ae [x]).toArray:=by
 have X:=(C4.1 G).1;have U:k*5+5<=cur.size:=by
  have K:=Li G 4 B0;have O:=g.get (k*5+4) _ (K.trans Ax)
  have:=(HU.1 O).1;omega
 refine ⟨U,?_⟩;apply HX.1;apply MD;intro j;rw [HR,dq];split
 · rename_i hj
   have m:j<5:=by omega
   have I:=Li G j m;obtain ⟨u,J⟩:∃u,(Ae [x])[j]?=some u:=⟨_,BT (by rw [BH];simpa using m)⟩;rw [J]at I;have h2:=g.get _ _ I
   rw [D4]at h2;rw [D4,h2];exact J.symm
 · rw [Lq]
   show(Ae [x]).length<=j;rw [BH];simp only [F2];omega
theorem YR{xs:List α}(hi:i<xs.length)(x:α):(xs.set i x).take (i+1)=xs.take i++[x]:=by
 rw [lR,As hi,List.take_append,CD,Pu A0];rw [Hx (by rw [CD];omega),show i+1 -i=1 by omega];simp
theorem MG{j:Nat}(f:AU->Bool)(g:rows[j]?=some x):(rows.take (j+1)).filter f=(rows.take j).filter f++(if f x then [x]else []):=by
 rw [Bl g,Hj];congr 1;rw [Wr,mw]
theorem Nz(h:∀(j:Nat) (y:AU),rows[j]?=some y->f y=true):rows.filter f=rows:=cT.2 fun y m=>by
 obtain ⟨j,g⟩:=HB m;exact h j y g
theorem Tq(hv:Di A v rows)(G:Nat)(us:List A4)(pd:AU->Bool)(U:∀(args:AM) (w:AD),(callFunc G args).run prog w= .ok (.enter G args) w)(hf:∀x:AU,BJ prog G (.agg x.A94::us).toArray [B] (.bool (pd x))):BJ prog 141 #[v,.func (.func G) #[] us.toArray] [A,B] (I0 (RJ pd rows)):=by
 have bn:=mL;obtain ⟨p,cap,rfl,⟨hl,ax⟩,hg⟩:=id hv;refine Se func141 ntmps141 [0,1] ?_;intro u R;refine A1<|A5 Y<|Zq<|A1<|Zm Y<|Zv (Ab C1 Y)<|Zm Y<|A6<|AR<|Zb [8,0,1,7] ?_;refine BF (e0:=[(8,_)]) (fun m e H=>∃(i:Nat),m=rows.length -i/\(i<=rows.length/\∀(j:Nat) (y:AU),j<i->rows[j]?=some y->pd y=false)/\e=[(8,I0 (i:Int))]/\H=[]) (by exact ⟨0,V,⟨C7 _,fun j y h=>by omega⟩,V,V⟩) Wp ?_;rintro _ _ _ ⟨i,rfl,⟨hi,I⟩,rfl,rfl⟩;refine A1<|Zv (Ay Y Y)<|A6<|Zq<|Av Y (fun O=>?_) (fun O=>?_);·
  obtain ⟨x,Z⟩:∃x,rows[i]?=some x:=⟨_,BT O⟩;obtain ⟨g,off,cur,T,zz,rfl,X,af,K⟩:=hg i x Z;refine AC<|Zx<|Zq<|AR<|A1<|Zm Y<|A5 Y<|A1<|Zm Y<|Zm Y<|Zm Y<|BZ (Ad C1 B3 Y Y A0)<|CS (cs:=[(g,.cells cur T zz)]) (by simp [X]) (AB (cs:=x.A94) Cp B3 Y A0 K) V rfl<|Xr [_] Y (U) Y V (hf x)<|A6<|AQ Y (fun J=>?_) (fun J=>?_);·
   refine A1<|Zm Y<|A5 Y<|AJ<|Ac<|Zt<|Zt<|Ac<|Zt<|AP V ec Y (by exact ⟨congrArg (Value.int .i64) (uj I Z J).symm,V⟩)
  refine AC<|A8<|Zx<|Zg<|Ya (n:=1) Y Y<|Zm Y<|Z0<|Zn [8,0,1,7] ?_;refine Aa (e':=[(8,_)]) (by exact ⟨i+1,rfl,⟨by omega,fun j y h1 h2=>by rcases FA j i with h9|h9;exact I j y h9 h2;obtain rfl:j=i:=A0;rw [Z]at h2;injection h2 with h2;subst h2;exact J⟩,rfl,rfl⟩)
 have ei:i=rows.length:=by omega
 subst ei;refine Az<|Zt<|Zt<|AV<|Zx<|A1<|A5 Y<|AJ<|AP V ec Y (by exact ⟨congrArg (Value.int .i64) (uk I).symm,V⟩)
set_option maxHeartbeats 1000000 in
theorem bJ(G:Bc 5 80 v rows.length (Ae rows) s)(hn:rows.length<=1000000000)(J:Nat)(us:List A4)(U:AU->Bool)(bn:∀(args:AM) (w:AD),(callFunc J args).run prog w= .ok (.enter J args) w)(hf:∀x:AU,BJ prog J (.agg x.A94::us).toArray [B] (.bool (U x))):BS prog 277 #[v,.func (.func J) #[] us.toArray] [s,B] (fun r H'=>∃s',Bc 5 80 r (rows.filter fun x=>!U x).length (Ae (rows.filter fun x=>!U x)) s'/\H'=[s',B]):=by
 have o9:=mL;obtain ⟨p,cap,rfl⟩:=G.form;have hU:=Cy G A0
 refine Se func277 ntmps277 [0,1] ?_;intro u R;refine A1<|A5 Y<|A1<|Zm Y<|Zm Y<|Xr [_,_] Y call141 Y V (Tq hU J us U bn hf) ?_;rcases nu U rows with⟨e9,X⟩|⟨k,x0,e9,hx0,hp0,hno⟩
 ·
  rw [e9];refine A5 Y<|Zq<|A1<|Zm Y<|Zv (CO Y Y)<|A6<|Av Y (fun h1=>?_) (fun h1=>?_);·
   refine A1<|Zm Y<|A5 Y<|AJ<|Zt<|AP rfl results277 Y (by exact ⟨_,Ba G (congrArg List.length (Nz fun j y hy=>by rw [X y (DO hy)];rfl).symm) (congrArg Ae (Nz fun j y hy=>by rw [X y (DO hy)];rfl).symm),rfl⟩)
  exact absurd V h1
 rw [e9];have o8:=(C4.1 hx0).1
 obtain ⟨g,ic,cur,z,gy,rfl,kv,j5⟩:=E5 G A0;injection gy with hv1 hv2 hv3
 subst hv1 hv3;refine A5 Y<|Zq<|A1<|Zm Y<|Zv (CO Y Y)<|A6<|Av Y (fun h2=>by omega)<|fun h2=>AC<|Zx<|Zq<|A1<|Zm Y<|Ya (n:=1) Y Y<|A5 Y<|AR<|Zb [5,6,0,1] ?_;refine BF (e0:=[(5,_),(6,_)]) (fun m e H=>∃(i j:Nat) (W:List AU) (cur:AM),m=rows.length -j/\((i<j/\j<=rows.length)/\W.length=rows.length/\Bc 5 80 (I2 g rows.length cap) rows.length (Ae W) [(g,.cells cur 80 z)]/\W.take i=(rows.take j).filter (fun x=>!U x)/\∀t,j<=t->W[t]?=rows[t]?)/\e=[(5,I0 (i:Int)),(6,I0 (j:Int))]/\H=[[(g,.cells cur 80 z)]]) (by exact ⟨k,k+1,rows,cur,rfl,⟨⟨by omega,by omega⟩,rfl,G,by rw [MG _ hx0,hp0];simp only [S7,Mz,HP,DA];exact (Nz (fun j y hy=>by rw [HH]at hy;split at hy;rw [hno j y fN hy];rfl;cases hy)).symm,fun t _=>rfl⟩,rfl,rfl⟩) Wp ?_;rintro _ _ _ ⟨i,j,W,cur,rfl,⟨l9,ax,O,K,af⟩,rfl,rfl⟩;obtain ⟨d9,cu,l5,j3,Z⟩:=Ja O;refine Zq<|A1<|Zm Y<|Zm Y<|Zv (Ab C1 Y)<|Zv (Ay Y Y)<|A6<|Av Y (fun dn=>?_) (fun dn=>?_);·
  obtain ⟨x,hx⟩:∃x,rows[j]?=some x:=⟨_,BT dn⟩;obtain ⟨l8,cO⟩:=au d9 ((af j (CT _)).trans hx);refine AC<|Zx<|Zq<|AR<|A1<|Zm Y<|Zm Y<|BZ (Ad C1 B3 Y Y A0)<|Zo Wh (AB (cs:=x.A94) Cp B3 Y A0 cO)<|Ze (Al EV #[_,_,_,_,_])<|AG fun bx=>Xe (Xw B3 x.A94)<|A6<|A1<|Zm Y<|Zo Wh (AB (cs:=#[_,_,_,_,_]) Cp B3 Y B5 Ax)<|Xr [_] Y (bn) Y V (hf x)<|Zv (Br Y)<|Z0<|Zn [0,1,5,6,7,29] ?_;refine Zx<|AQ Y (fun I=>?_) (fun I=>?_);·
   have I:U x=false:=by simpa using I
   have ek:=Ba (xs':=Ae (W.set i x)) (ET (i:=0+i*5) (ys:=Ae [x]) O (by rw [BH,BH,F2];omega)) rfl (by rw [D4];exact sP A0 x);refine A1<|Zm Y<|Zm Y<|Zo Wh (AB (cs:=#[_,_,_,_,_]) Cp B3 Y B5 Ax)<|BZ (Ad C1 B3 Y Y A0)<|Xe (BL B3 Y Y Hi Wu (by exact (rfl:_=EM cur (0+i*5) (Ae [x]))) Fi A0 Z)<|A6<|Zg<|Zm Y<|Ya (n:=1) Y Y<|AW Y<|A8<|Zx<|Zg<|Zm Y<|Ya (n:=1) Y Y<|AW Y<|Zn [5,6,0,1] ?_;refine Aa (e':=[(5,_),(6,_)]) (by exact ⟨i+1,j+1,W.set i x,_,rfl,⟨by omega,by rw [eC];exact ax,ek,by rw [YR A0,K,MG _ hx];simp [I],fun t ht=>by rw [List.getElem?_set_ne A0];exact af t A0⟩,rfl,rfl⟩)
  have I:U x=true:=by simpa using I
  refine AC<|A8<|Zx<|Zg<|Zm Y<|Ya (n:=1) Y Y<|AW Y<|Zn [5,6,0,1] ?_;refine Aa (e':=[(5,_),(6,_)]) (by exact ⟨i,j+1,W,cur,rfl,⟨by omega,ax,O,by rw [K,MG _ hx];simp [I],fun t ht=>af t A0⟩,rfl,rfl⟩)
 have ej:j=rows.length:=by omega
 subst ej;rw [GC]at K;have gq:(rows.filter fun x=>!U x).length=i:=by rw [<-K,CD];omega
 refine Az<|Zt<|Zt<|AV<|Zx<|A1<|Zm Y<|Zm Y<|BZ (C8 C1 B3 Y Y A0)<|Ze (OE C1 (V:Tryz.prog.info? 80=some Tryz.t80) V rfl (by simp [Value.cells,Value.oneCell']) Y A0 cu Z Wo) ?_;rintro _ _ rfl;have gm:=VV (ET (i:=i*5) (ys:=(Builtin.zeroCells (Value.agg #[I0 0,I0 0,I0 0,I0 0,I0 0]).cells (rows.length -i)).toList) O (by rw [Sx,size_zeroCells,BH];show i*5+(rows.length -i)*5<=_;omega)) i A0
 refine A6<|A1<|Zm Y<|Zm Y<|BZ (Bt C1 B3 Y Y A0)<|A5 Y<|AJ<|AP V results277 Y (by
  refine ⟨_,Ba gm gq.symm ?_,V⟩;rw [Cd,Hb (by rw [CD,BH];omega),EC,K])
theorem uh{A Y D:List A4}(g:A.length=(n+1)*5)(hi:i<=n)(G:Y.length=5)(m:D.length=(n -i)*5):(A.take (0+i*5)++Y++A.drop (0+i*5+Y.length)).take (0+(i+1)*5)++D++(A.take (0+i*5)++Y++A.drop (0+i*5+Y.length)).drop (0+(i+1)*5+D.length)=A.take (i*5)++Y++D:=by
 rw [D4,D4,Hb (by rw [BW,CD];omega),Sp (by simp only [BW,CD,CH];omega),DA]
theorem nX{A Y D:List A4}(g:A.length=(n+1)*5)(hi:i<=n)(G:Y.length=5)(m:D.length=(n -i)*5):(A.take (0+(i+1)*5)++D++A.drop (0+(i+1)*5+D.length)).take (0+i*5)++Y++(A.take (0+(i+1)*5)++D++A.drop (0+(i+1)*5+D.length)).drop (0+i*5+Y.length)=A.take (i*5)++Y++D:=by
 rw [D4,D4,Sp (l:=A) A0,DA,cQ (by rw [CD];omega),V2,Pu A0,X1 (by rw [CD];omega)]
theorem YW(rows:List AU)(i:Nat)(y:AU):(Ae rows).take (i*5)++Ae [y]++Ae (rows.drop i)=Ae (rows.take i++[y]++rows.drop i):=by
 rw [EC,Bo,Bo]
theorem UH{c:AM}(h:Bw c 0 (Ae rows))(i:Nat)(hi:i<=rows.length):Bw c (0+i*5) (Ae (rows.drop i)):=by
 have g:=J6 h (i*5) ((rows.length -i)*5) (by rw [BH];omega);rw [Dj,Hx (by rw [BH,CH];omega)]at g;exact g
theorem iY{c:AM}(h:Bw c 0 (Ae rows))(i:Nat)(hi:i<=rows.length):Bw c 0 (Ae (rows.take i)):=by
 have g:=J6 h 0 (i*5) (by rw [BH];omega);rw [Q1,EC]at g;exact g
theorem Xg(rows:List AU)(i:Nat)(hi:i<=rows.length)(y:AU):(rows.take i++[y]++rows.drop i).length=rows.length+1:=by
 simp only [BW,CD,CH,F2];omega
set_option maxHeartbeats 1000000 in
theorem aK(m:Bc 5 80 v rows.length (Ae rows) s)(hn:rows.length<=1000000000)(i:Nat)(hi:i<=rows.length)(y:AU)(U:Nat):BS prog 278 #[v,I0 (i:Int),I2 U 1 1] [s,[(U,.cells y.A94 80 (0,0))]] (fun r H'=>∃s' s2,Bc 5 80 r (rows.take i++[y]++rows.drop i).length (Ae (rows.take i++[y]++rows.drop i)) s'/\H'=[s',s2,[(U,.cells y.A94 80 (0,0))]]):=by
 have o8:=mL;obtain ⟨p,cap,rfl⟩:=m.form;have l9:=F5 m
 refine Se func278 ntmps278 [0,1,2] ?_;intro u R;refine A1<|A5 Y<|Zq<|Be<|Zg<|Zm Y<|Zm Y<|BZ (C8 C1 B3 Y Y A0)<|A6<|A1<|Zm Y<|Zv (Ab C1 Y)<|A5 Y<|Zq<|A1<|Zm Y<|Zv (Cj (n:=0) Y Y)<|A6<|Av Y (fun h0=>by cases h0)<|fun h0=>AC<|Zx<|A1<|Zm Y<|Zv (Ab C1 Y)<|A5 Y<|Zq<|A1<|Zm Y<|Zm Y<|Zv (Cj Y Y)<|Z0<|Zn [0,1,2,7,8,22] ?_;refine Zx<|Av Y (fun X=>?_) (fun X=>?_);·
  refine A1<|Zm Y<|Zm Y<|Ze (BV (by_:=40) (sz:=5) C1 (V:Tryz.prog.info? 80=some Tryz.t80) V rfl V rfl Y (m) Y (Db 5 U 1 1 80 (0,0) (Ae [y]) V) Wo Wo (by exact CW _) A0 A0) ?_;rintro _ _ ⟨o9,O,rfl⟩;obtain ⟨kv,j5,rfl⟩:=O.form;refine A5 Y<|AJ<|Zt<|AP V results278 Y (by
   have X:i=rows.length:=by omega
   subst X;exact ⟨_,[],Ba O (Xg rows _ (CT _) y).symm (by rw [GC,k8,DA,Bo]),rfl⟩)
 obtain ⟨g,dn,cur,z,cO,rfl,j3,I⟩:=E5 m A0;injection cO with hv1 hv2 hv3
 subst hv1 hv3;obtain ⟨_,l8,_,l5,af⟩:=Ja m;refine AC<|Zx<|Zq<|A1<|Zm Y<|Zm Y<|Ya Y Y<|Zm Y<|Zv (Qq C1 Y)<|Zv (DN Y Y)<|A6<|Av Y (fun hg=>?_) (fun hg=>?_);·
  refine A1<|Zm Y<|Zm Y<|BZ (Bt C1 B3 Y Y A0)<|Zm Y<|Zm Y<|Ya Y Y<|Zm Y<|Yb Y Y ?_;refine Ze (LU (by_:=40) (sz:=5) (xs:=Ae (rows.take i)) C1 DE (rfl:Tryz.prog.info? 80=some Tryz.t80) rfl rfl rfl rfl Y Y Wh (iY I i hi) (by rw [BH,CD];omega) A0 B0 A0 A0 A0) ?_;rintro _ _ ⟨s9,J,rfl⟩;rw [show i+(rows.length+1 -i)=rows.length+1 by omega]at J;have G:=J.1
  obtain ⟨g3,d9,ek,z3,rfl,rfl,ic,gy⟩:=E5 J A0;obtain ⟨_,gq,_,gm,K⟩:=Ja J;refine AW Y<|Zn [0,1,2,7,9] ?_;refine Zx<|A1<|Zm Y<|Zm Y ?_
  (refine BZ (Bq C1 B3 Y Y ?_ ?_) ?_;(focus (omega));(focus (omega)))
  refine Zm Y<|Xe (JU (cs:=Ae [y]) C1 B3 Y Y Wh Wo ((rfl:Bw (y.A94:AM) 0 (Ae [y]))) (by rw [BH,F2];omega) (by rw [BH,F2];omega) (K) (CW _)) ?_;refine A6<|Zq<|Aw (n:=9) (0::0::0::6::15::0::0::96::255::[]) 256 AF AF V<|A3 0 V (AO Y)<|A3 1 V (AO Y)<|A3 2 V (AO Y)<|A3 3 V (Df Y Y A0) ?_
  (refine Dn (D':=31) 4 (Bq C1 B3 Y Y ?_ ?_) ?_;(focus (omega));(focus (omega)))
  refine A3 5 V (AO Y)<|A3 6 V (AO Y) ?_
  (refine Dn (D':=255) 7 (Bq C1 B3 Y Y ?_ ?_) ?_;(focus (omega));(focus (omega)))
  refine Yw 8 511 rfl (JU (cs:=Ae (rows.drop i)) C1 B3 Y Y Wh Wo (UH I i hi) (by rw [BH,CH];omega) (by rw [BH,CH,GX (by rw [BH,F2];omega)];omega) (by rw [GX (by rw [BH,F2];omega)];exact K) (CW _))<|D0<|Ag<|Zn [9] ?_;refine Zx<|A1<|Zm Y<|A5 Y<|AJ<|Zt<|AP V results278 Y (by
   refine ⟨_,[(g,.cells cur 80 z)],Ba (ET (i:=0+(i+1)*5) (ys:=Ae (rows.drop i)) (ET (i:=0+i*5) (ys:=Ae [y]) J (by rw [G,BH,F2];omega)) ?_) (Xg rows i hi y).symm ?_,rfl⟩;· simp only [BW,CD,CH,G,BH,F2];omega
   · rw [uh G hi (by rw [BH];rfl) (by rw [BH,CH]),Hb (by rw [BH,CD];omega),<-EC,YW])
 refine AC<|Zx<|Zq ?_;obtain ⟨p8,cu,bn⟩:=VU m (rows.length+1) A0 A0;have G:=bn.1
 refine Zg<|Zm Y<|Zm Y<|Zm Y<|Ya Y Y ?_;refine BZ (Bt C1 B3 Y Y A0)<|A5 Y<|Zq<|Zq<|pZ (s1:=[(U,_)]) (s2:=[(g,_)]) (a:=U) (b:=g) Wo Wo (C5.2 V) (C5.2 V) (fun ax=>?_);refine Zg<|Zm Y<|Zm Y<|Zm Y<|Zm Y<|Ya Y Y ?_
 (refine BZ (Bq C1 B3 Y Y ?_ ?_) ?_;(focus (omega));(focus (omega)))
 refine CS (cs:=[(U,.cells y.A94 80 (0,0)),(g,.cells cur 80 z)]) B4 (TK (tR:=4) func306 AF AF AF AF C1 B3 Y ax A0) V rfl ?_;refine Zv (Br Y)<|Z0<|Zn [0,1,2,7,8,68] ?_;refine Zx<|AQ Y (fun Z=>?_) (fun Z=>?_);·
  refine Zq<|Aw (n:=9) (0::0::0::6::15::0::0::96::255::[]) 256 AF AF V<|A3 0 V (AO Y)<|A3 1 V (AO Y)<|A3 2 V (AO Y)<|A3 3 V (Df Y Y A0) ?_
  (refine Dn (D':=31) 4 (Bq C1 B3 Y Y ?_ ?_) ?_;(focus (omega));(focus (omega)))
  refine A3 5 V (AO Y)<|A3 6 V (AO Y) ?_
  (refine Dn (D':=255) 7 (Bq C1 B3 Y Y ?_ ?_) ?_;(focus (omega));(focus (omega)))
  refine Yw 8 511 rfl (JU (cs:=Ae (rows.drop i)) C1 B3 Y Y Wh Wo (UH I i hi) (by rw [BH,CH];omega) (by rw [BH,CH];omega) (af) (CW _))<|D0<|Ag<|Zx<|A1<|Zm Y<|Zm Y ?_
  (refine BZ (Bq C1 B3 Y Y ?_ ?_) ?_;(focus (omega));(focus (omega)))
  refine Zm Y<|Xe (JU (cs:=Ae [y]) C1 B3 Y Y Wh Wo ((rfl:Bw (y.A94:AM) 0 (Ae [y]))) (by rw [BH,F2];omega) (by rw [BH,F2,GX (by rw [BH,CH];omega)];omega) (by rw [GX (by rw [BH,CH];omega)];exact af) (CW _)) ?_;refine Z0<|Zn [0] ?_;refine Zx<|A1<|Zm Y<|A5 Y<|AJ<|Zt<|AP V results278 Y (by
   refine ⟨_,[],Ba (ET (i:=0+i*5) (ys:=Ae [y]) (ET (i:=0+(i+1)*5) (ys:=Ae (rows.drop i)) bn (by rw [G,BH,CH];omega)) ?_) (Xg rows i hi y).symm ?_,rfl⟩;· simp only [BW,CD,CH,BH,cu,F2];omega
   · rw [nX G hi (by rw [BH];rfl) (by rw [BH,CH]),cQ (by rw [BH];omega),YW])
 cases Z
structure QM where
 kd:Int
 tb:Int
 cl:Int
 lo:Int
 hi:Int
 bq:Int
 ot:Int
deriving DecidableEq
abbrev QM.GW(q:QM)(c:Chg)(x y:Option Go.Addr)(o n:Int):Array Go.Value:=#[I0 q.kd,I0 q.tb,I0 q.cl,I0 q.lo,I0 q.hi,I0 q.bq,I0 q.ot,I0 c.t,I0 c.k,.bool c.had,I0 c.o.a,I0 c.o.b,I0 c.o.c,.bool c.has,I0 c.n.a,I0 c.n.b,I0 c.n.c,.pointer x,.pointer y,I0 o,I0 n]
abbrev QM.A95(c:QM):Array Go.Value:=#[I0 c.kd,I0 c.tb,I0 c.cl,I0 c.lo,I0 c.hi,I0 c.bq,I0 c.ot]
structure C9 where
 rows:List AU
 val:Int
 fnd:Bool
deriving DecidableEq
def inQ(q:QM)(r:AU):Bool:=decide (r.t=q.tb/\q.lo<=Bj r q.cl/\Bj r q.cl<=q.hi)
def BI(q:QM):Prop:=(0<=q.tb/\q.tb<=3)/\(0<=q.cl/\q.cl<=3)/\(-1000000000<=q.lo/\q.lo<=q.hi/\q.hi<=1000000000)/\
 ((q.kd=1/\q.cl=0/\q.lo=q.hi/\(1<=q.lo/\q.lo<=1000000)/\q.bq=0/\q.ot=0)\/((q.kd=2\/q.kd=3)/\q.bq=0/\q.ot=0)\/
  ((q.kd=4\/q.kd=5\/q.kd=6)/\(1<=q.bq/\q.bq<=3)/\q.ot=0)\/(q.kd=7/\(1<=q.bq/\q.bq<=3)/\(0<=q.ot/\q.ot<=3)))
instance(q:QM):Decidable (BI q):=by unfold BI;infer_instance
def C9.none:C9:=⟨[],0,false⟩
def Le(ms:List Int):Int:=ms.foldl (·+·) 0
def Ea(lt:Int->Int->Bool)(ms:List Int):C9:=ms.foldl (fun r n=>⟨r.rows,if !r.fnd||lt n r.val then n else r.val,true⟩) C9.none
def Dc(q:QM)(others:List AU)(k:Int):Option AU:=others.find? (fun x=>decide (x.t=q.ot/\x.k=k))
def Io(q:QM)(others:List AU)(r:AU):List AU:=match Dc q others (Bj r q.bq)with
 |some x=>[r,x]
 |none=>[]
def Ip(q:QM)(rows others:List AU):List AU:=rows.flatMap (Io q others)
def D5(q:QM)(rows:List AU):List Int:=rows.map fun r=>Bj r q.bq
def FW(q:QM)(rows others:List AU):C9:=
 if q.kd=3 then⟨[],rows.length,false⟩else if q.kd=4 then⟨[],Le (D5 q rows),false⟩
 else if q.kd=5 then Ea (fun a b=>decide (a<b)) (D5 q rows)else if q.kd=6 then Ea (fun a b=>decide (b<a)) (D5 q rows)
 else if q.kd=7 then⟨Ip q rows others,0,false⟩else⟨rows,0,false⟩
def CU(rs:List AU)(q:QM):List AU:=Dm rs q.tb q.cl.toNat q.lo q.hi
def CK(rs:List AU)(q:QM):C9:=FW q (CU rs q) (Fj rs q.ot)
def mh(c:Chg):List AU:=if c.had then [⟨c.t,c.k,c.o⟩]else []
def I6(q:QM)(b:Bool)(r:AU):Option AU:=if b&&inQ q r then some r else none
def bfQ(q:QM)(c:Chg):Option AU:=I6 q c.had ⟨c.t,c.k,c.o⟩
def afQ(q:QM)(c:Chg):Option AU:=I6 q c.has ⟨c.t,c.k,c.n⟩
def mQ(q:QM):Option AU->Int
 |some r=>Bj r q.bq
 |none=>0
def O6(q:QM)(c:Chg):Bool:=(bfQ q c).isSome||(afQ q c).isSome
def Um(q:QM)(c:Chg):Bool:=(bfQ q c).isSome !=(afQ q c).isSome
def Cn(q:QM)(c:Chg):Bool:=
 if q.kd=1\/q.kd=2 then O6 q c else if q.kd=3 then Um q c else if q.kd=4 then decide (mQ q (bfQ q c)≠mQ q (afQ q c))
 else if q.kd=5\/q.kd=6 then Um q c||decide (mQ q (bfQ q c)≠mQ q (afQ q c))else O6 q c||decide (c.t=q.ot)
theorem Q8{c:Chg}(J:GQ rs c):∃A B,rs=A++mh c++B/\EL rs c=A++Nl c++B:=by
 refine ⟨rs.take (E8 rs c.t c.k),(rs.drop (E8 rs c.t c.k)).drop (if c.had then 1 else 0),?_,V⟩;unfold mh;cases hh:c.had with
 |false=>simp
 |true=>
  have m:(Fz rs c.t c.k).2=true:=by rw [J.1,hh]
  obtain ⟨r,X,hi,O,U⟩:=JL m;have hv:=J.2 m
  rw [U]at hv;have e:r=⟨c.t,c.k,c.o⟩:=by
   obtain ⟨t,k,v⟩:=r;obtain ⟨G,I⟩:=hi;simp only at G I hv;subst G I hv;rfl
  rw [e]at O;obtain ⟨K,g⟩:=C4.1 O;simp only [Hh,Cd];conv=>lhs;rw [<-K1 (E8 rs c.t c.k) rs,RW K,g]
  rw [My,RW K];rfl
variable{q:QM}
theorem zo(h:BI q)(r:AU):inR q.tb q.cl.toNat q.lo q.hi r=inQ q r:=by
 have hc:=h.2.1;have:=Lc r q.cl.toNat A0
 rw [show((q.cl.toNat:Nat):Int)=q.cl by omega]at this;unfold inR inQ;rw [this]
theorem Qf(h:BI q)(rs:List AU):CU rs q=(rs.filter (inQ q)).foldl (aN q.cl.toNat) []:=by
 unfold CU Dm;rw [dv fun r _=>zo h r]
theorem Hr(h:BI q)(rs:List AU):(CU rs q).Perm (rs.filter (inQ q)):=by
 have:=ES rs q.tb q.cl.toNat q.lo q.hi;rwa [dv fun r _=>zo h r]at this
theorem TS(q:QM)(c:Chg):(mh c).filter (inQ q)=(bfQ q c).toList:=by
 unfold mh bfQ I6;cases c.had with
 |false=>rfl
 |true=>simp only [Hh,Vc,Wr,mw];split<;>rfl
theorem TU(q:QM)(c:Chg):(Nl c).filter (inQ q)=(afQ q c).toList:=by
 unfold Nl afQ I6;cases c.has with
 |false=>rfl
 |true=>simp only [Hh,Vc,Wr,mw];split<;>rfl
def Jq:List Int->Int
 |[]=>0
 |x::l=>x+Jq l
theorem Mv(l:List Int):∀a,l.foldl (·+·) a=a+Jq l:=by
 induction l with
 |nil=>intro a;simp [Jq]
 |cons x l ih=>intro a;rw [V1,ih];simp only [Jq];omega
theorem YL(a b:List Int):Jq (a++b)=Jq a+Jq b:=by
 induction a with
 |nil=>simp [Jq]
 |cons x a ih=>simp only [Pc,Jq,ih];omega
theorem Ma{a b:List Int}(h:a.Perm b):Jq a=Jq b:=by
 induction h with
 |nil=>rfl
 |cons x _ ih=>simp only [Jq,ih]
 |swap x y l=>simp only [Jq];omega
 |trans _ _ ih1 ih2=>exact ih1.trans ih2
theorem yo(lt:Int->Int->Bool)(J:∀a b c,lt b a=false->lt c b=false->lt c a=false)(I:∀a,lt a a=false)(G:∀a b,lt a b=true->lt b a=false)(l:List Int):∀(m:Int),∃x,(x=m\/x∈l)/\lt m x=false/\(∀y∈l,lt y x=false)/\l.foldl (fun(r:C9) n=>(⟨r.rows,if !r.fnd||lt n r.val then n else r.val,true⟩:C9)) ⟨[],m,true⟩=⟨[],x,true⟩:=by
 induction l with
 |nil=>intro m;exact ⟨m,.inl rfl,I m,by simp,rfl⟩
 |cons z l ih=>
  intro m;rw [V1];cases hz:lt z m with
  |true=>
   obtain ⟨x,K,h2,O,U⟩:=ih z;simp only [S7,n9,hz,Hh];refine ⟨x,.inr (by rcases K with h|h;rw [h];simp;exact E7 _ h),J x z m h2 (G z m hz),fun y g=>?_,U⟩;rcases DB.1 g with rfl|g
   · exact h2
   · exact O y g
  |false=>
   obtain ⟨x,K,h2,O,U⟩:=ih m;simp only [S7,n9,hz,Mz,HP];refine ⟨x,by rcases K with h|h;exact .inl h;exact .inr (E7 _ h),h2,fun y g=>?_,U⟩;rcases DB.1 g with rfl|g
   · exact J x m y h2 hz
   · exact O y g
theorem KR(lt:Int->Int->Bool)(G:∀a b c,lt b a=false->lt c b=false->lt c a=false)(m:∀a,lt a a=false)(g:∀a b,lt a b=true->lt b a=false)(z:Int)(l:List Int):∃x∈z::l,(∀y∈z::l,lt y x=false)/\Ea lt (z::l)=⟨[],x,true⟩:=by
 obtain ⟨x,J,h2,K,O⟩:=yo lt G m g l z;refine ⟨x,by rcases J with h|h;rw [h];simp;exact E7 _ h,fun y I=>?_,?_⟩
 · rcases DB.1 I with rfl|I
   · exact h2
   · exact K y I
 · unfold Ea
   rw [V1];exact O
theorem PP(lt:Int->Int->Bool)(I:∀a b c,lt b a=false->lt c b=false->lt c a=false)(m:∀a,lt a a=false)(g:∀a b,lt a b=true->lt b a=false)(J:∀a b,lt a b=false->lt b a=false->a=b){l G:List Int}(h:∀y,y∈l↔y∈G):Ea lt l=Ea lt G:=by
 match l,G,h with
 |[],[],_=>rfl
 |[],y::G,h=>have:=(h y).2 B4;cases this
 |y::l,[],h=>have:=(h y).1 B4;cases this
 |y::l,y'::G,h=>
  obtain ⟨x,O,U,X⟩:=KR lt I m g y l;obtain ⟨K,Z,b2,b3⟩:=KR lt I m g y' G;rw [X,b3,J x K (b2 x ((h x).1 O)) (U K ((h K).2 Z))]
theorem jM{c:Chg}(g:GQ rs c)(h:c.t≠t):Fj (EL rs c) t=Fj rs t:=by
 obtain ⟨A,B,e1,e2⟩:=Q8 g;have z1:(mh c).filter (inT t)=[]:=by
  unfold mh;split;· simp [inT,h]
  · rfl
 have z2:(Nl c).filter (inT t)=[]:=by
  unfold Nl;split;· simp [inT,h]
  · rfl
 unfold Fj;rw [e2];conv=>rhs;rw [e1]
 simp only [Hj,z1,z2,DA]
theorem Rv{o:Option AU}(h:o.isSome=false):o.toList=[]:=by
 cases o with
 |none=>rfl
 |some x=>cases h
theorem bB{c:Chg}(J:BI q)(hf:GQ rs c)(h:Cn q c=false):CK (EL rs c) q=CK rs q:=by
 obtain ⟨A,B,e1,e2⟩:=Q8 hf;have X:rs.filter (inQ q)=A.filter (inQ q)++(bfQ q c).toList++B.filter (inQ q):=by
  conv=>lhs;rw [e1]
  rw [Hj,Hj,TS]
 have Z:(EL rs c).filter (inQ q)=A.filter (inQ q)++(afQ q c).toList++B.filter (inQ q):=by
  rw [e2,Hj,Hj,TU]
 have K:=Hr J rs;have O:=Hr J (EL rs c)
 rw [X]at K;rw [Z]at O;have I:(bfQ q c).isSome=false->(afQ q c).isSome=false->CU (EL rs c) q=CU rs q:=fun h1 h2=>by
  rw [Qf J,Qf J,X,Z,Rv h1,Rv h2]
 unfold Cn at h;unfold CK FW;split at h
 · rename_i hk
   unfold O6 at h;rw [ju]at h;rw [I h.1 h.2,An A0,An A0,An A0,An A0,An A0,An A0,An A0,An A0,An A0,An A0]
 · split at h
   · rename_i hk
     rw [As hk,As hk];have hl:(CU (EL rs c) q).length=(CU rs q).length:=by
      rw [K.length_eq,O.length_eq];simp only [BW];unfold Um at h;cases hb:bfQ q c<;>cases g:afQ q c<;>simp [hb,g]at h⊢
     rw [hl]
   · split at h
     · rename_i hk3 hk
       rw [An hk3,An hk3,As hk,As hk];have hs:Le (D5 q (CU (EL rs c) q))=Le (D5 q (CU rs q)):=by
        unfold Le D5;rw [Mv,Mv,Ma (K.map _),Ma (O.map _)];simp only [C0,YL];have U:=an h
        have key:∀o:Option AU,Jq (o.toList.map fun r=>Bj r q.bq)=mQ q o:=fun o=>by
         cases o with
         |none=>rfl
         |some x=>simp [Jq,mQ]
        rw [key,key];omega
       rw [hs]
     · split at h
       · rename_i hk3 hk4 hk
         rw [ju]at h;have U:=an h.2
         have G:=h.1;have m:∀y,y∈D5 q (CU (EL rs c) q)↔y∈D5 q (CU rs q):=fun y=>by
          unfold D5;rw [(K.map _).mem_iff,(O.map _).mem_iff];unfold Um at G;cases hb:bfQ q c<;>cases g:afQ q c<;>simp [hb,g]at G⊢
          simp [hb,g,mQ]at U;rw [U]
         rw [An hk3,An hk3,An hk4,An hk4];rcases hk with hk|hk
         · rw [As hk,As hk]
           exact PP _ (by intro a b c;simp;omega) (by intro a;simp) (by intro a b;simp;omega) (by intro a b;simp;omega) m
         · rw [An (show¬q.kd=5 by omega),An (show¬q.kd=5 by omega),As hk,As hk]
           exact PP _ (by intro a b c;simp;omega) (by intro a;simp) (by intro a b;simp;omega) (by intro a b;simp;omega) m
       · rw [ju]at h
         have g:=h.1;unfold O6 at g;rw [ju]at g;rw [I g.1 g.2,jM hf (an h.2)]
theorem Qw{rs:List AU}{cs:List Chg}{q:QM}(I:BI q)(J:BN rs)(m:wV cs)(G:∀c∈cs,GQ rs c)(h:∀c∈cs,Cn q c=false):∀i,i<=cs.length->CK (DL rs (cs.take i)) q=CK rs q
 |0,_=>rfl
 |i+1,hi=>by
  obtain ⟨y,g⟩:∃y,cs[i]?=some y:=⟨_,BT A0⟩;rw [ED rs cs i y g,bB I ((JM J m G i A0).2 i y (CT _) g) (h y (DO g))];exact Qw I J m G h i A0
theorem bC{l:List BR}(g:En l){q:QM}(I:BI q)(b:Nat):∀c,b<=c->c<=l.length->(∀(i:Nat) (r:BR),b<=i->i<c->l[i]?=some r->∀x∈r.cs,Cn q x=false)->CK (BQ (l.take c)) q=CK (BQ (l.take b)) q
 |0,h1,_,_=>by obtain rfl:b=0:=by omega
               rfl
 |c+1,h1,h2,h=>by
  rcases FA b (c+1)with h3|h3
  · obtain ⟨r,m⟩:∃r,l[c]?=some r:=⟨_,BT A0⟩
    rw [NX,m,mc,Fq];obtain ⟨G,_⟩:=g c r m;have K:=(g.rows c A0).1
    have:=Qw I K (QX G.ok.ord) G.fit (h c r A0 A0 m) r.cs.length (CT _);rw [GC]at this;rw [this];exact bC g I b c A0 A0 fun i r J O=>h i r J A0
  · obtain rfl:b=c+1:=by omega
    rfl
def FH(q:QM):Prop:=(0<=q.tb/\q.tb<=3)/\(0<=q.cl/\q.cl<=3)/\(-1000000000<=q.lo/\q.lo<=q.hi/\q.hi<=1000000000)
instance(q:QM):Decidable (FH q):=by unfold FH;infer_instance
def Pd(q:QM):Prop:=1<=q.bq/\q.bq<=3
instance(q:QM):Decidable (Pd q):=by unfold Pd;infer_instance
theorem vq(h:q.kd=1):BI q↔FH q/\q.cl=0/\q.lo=q.hi/\(1<=q.lo/\q.lo<=1000000)/\q.bq=0/\q.ot=0:=by unfold BI FH;omega
theorem vn(h:q.kd=2\/q.kd=3):BI q↔FH q/\q.bq=0/\q.ot=0:=by unfold BI FH;omega
theorem vm(h:q.kd=4\/q.kd=5\/q.kd=6):BI q↔FH q/\Pd q/\q.ot=0:=by unfold BI FH Pd;omega
theorem vl(h:q.kd=7):BI q↔FH q/\(0<=q.ot/\q.ot<=3)/\Pd q:=by unfold BI FH Pd;omega
theorem WS(h:q.kd=1):decide (BI q)=decide (FH q/\q.cl=0/\q.lo=q.hi/\(1<=q.lo/\q.lo<=1000000)/\q.bq=0/\q.ot=0):=decide_eq_decide.2 (vq h)
theorem xT(h:q.kd=2\/q.kd=3):decide (BI q)=decide (FH q/\q.bq=0/\q.ot=0):=decide_eq_decide.2 (vn h)
theorem xF(h:q.kd=4\/q.kd=5\/q.kd=6):decide (BI q)=decide (FH q/\Pd q/\q.ot=0):=decide_eq_decide.2 (vm h)
theorem zw(h:q.kd=7):decide (BI q)=decide (FH q/\(0<=q.ot/\q.ot<=3)/\Pd q):=decide_eq_decide.2 (vl h)
theorem VB(h:¬q.kd=1)(J:¬q.kd=7)(m:¬q.kd=4)(G:¬q.kd=5)(I:¬q.kd=6)(h2:¬q.kd=2)(g:¬q.kd=3):¬BI q:=by unfold BI;omega
variable{b0:Bool}
theorem nj(h:q.kd=4\/q.kd=5\/q.kd=6)(g:b0=decide (FH q)):((b0&&decide (Pd q))&&decide (q.ot=0))=decide (BI q):=by
 rw [xF h,g];simp [Bool.and_assoc]
theorem ng(h:q.kd=2\/q.kd=3)(g:b0=decide (FH q)):((b0&&decide (q.bq=0))&&decide (q.ot=0))=decide (BI q):=by
 rw [xT h,g];simp [Bool.and_assoc]
theorem x6(h:q.kd=7)(g:b0=decide (FH q))(e0:b0=true):((decide (0<=q.ot/\q.ot<=3)&&decide (Pd q))&&decide ((0:Int)=0))=decide (BI q):=by
 have m:FH q:=HN (g.symm.trans e0);rw [zw h];simp [m]
theorem x7{x y:Bool}(h:q.kd=7)(g:b0=decide (FH q))(e0:b0=false):((false&&x)&&y)=decide (BI q):=by
 have m:¬FH q:=an (g.symm.trans e0);rw [zw h];simp [m]
variable{b:Bool}
theorem yp{z:Int}(g:((b&&decide (Pd q))&&decide (z=0))=decide (BI q))(e:b=true):((decide (1<=q.bq/\q.bq<=3)&&decide ((0:Int)=0))&&decide (z=0))=decide (BI q):=by
 rw [<-g,e,show decide (Pd q)=decide (1<=q.bq/\q.bq<=3) from decide_eq_decide.2 Iff.rfl];simp only [Vc,decide_true,Bool.and_true]
theorem yq{x y:Bool}{z:Int}(g:((b&&decide (Pd q))&&decide (z=0))=decide (BI q))(e:b=false):((false&&x)&&y)=decide (BI q):=by
 rw [<-g,e];simp
theorem KC(n lo hi:Int):BJ prog 68 #[I0 n,I0 lo,I0 hi] [] (.bool (decide (lo<=n/\n<=hi))):=by
 refine Se func68 ntmps68 [0,1,2] ?_;intro u R;refine A1<|A5 Y<|A1<|Zm Y<|Zm Y<|Zv (GV Y Y)<|Zm Y<|Ao (t:=10) Y V (fun g=>?_) (fun g=>?_);·
  refine Zf Y Y<|Zf Y Y<|Yg (KJ Y Y)<|Zv (AX Y Y)<|A5 Y<|AJ<|AP V results68 Y (by exact ⟨by simp [g],V⟩)
 refine A7 Y V<|A7 Y V<|A7 Y V<|Zv (AL Y Y)<|A5 Y<|AJ<|AP V results68 Y (by exact ⟨by simp [g],V⟩)
theorem Iy(q:QM):BJ prog 29 #[.agg q.A95] [] (.bool (decide (BI q))):=by
 refine Se func29 ntmps29 [0] ?_;intro u R;refine A1<|Ze (Bx #[_,_,_,_,_,_,_])<|AG fun U=>A5 Y<|Zb [1] ?_;refine Ch (e0:=[]) (H0:=[]) (fun e H=>∃(b0:Bool),(b0=decide (FH q))/\e=[(3,.bool b0)]/\H=[]) Wp ?hx_1 ?hy_1
 case hx_1=>
  refine Zg<|Zh 1 CI V rfl AE Y<|Zl AH Y ?_;refine Xr [_,_,_] Y call68 Y V (KC _ _ _) ?_;refine Zm Y<|Ao (t:=7) Y V (fun a1=>?_) (fun a1=>?_);·
   refine Yf 2 CI V rfl AE Y<|Yl AH Y ?_;refine Xr [_,_,_] Y call68 Y V (KC _ _ _) ?_;refine Zv (AX Y Y)<|Zm Y<|Ao (t:=12) Y V (fun a2=>?_) (fun a2=>?_);·
    refine Yf 3 CI V rfl AE Y<|Yl AH Y ?_;refine Yf 4 CI V rfl AE Y<|Yl AH Y ?_;refine Xr [_,_,_] Y call68 Y V (KC _ _ _) ?_;refine Zv (AX Y Y)<|Zm Y<|Ao (t:=19) Y V (fun a3=>?_) (fun a3=>?_);·
     refine Yf 4 CI V rfl AE Y<|Yl AH Y ?_;refine Yg (KJ Y Y)<|Zv (AX Y Y)<|AW Y<|Zn [3,1] ?_;refine BB (e':=[(3,_)]) (by exact ⟨_,by unfold FH;exact decide_eq_decide.2 A0,V,V⟩)
    refine A7 Y V<|A7 Y V<|A7 Y V<|Zv (AL Y Y)<|AW Y<|Zn [3,1] ?_;refine BB (e':=[(3,_)]) (by exact ⟨_,by unfold FH;exact (Cl A0).symm,V,V⟩)
   refine A7 Y V<|A7 Y V<|A7 Y V<|A7 Y V<|A7 Y V<|Zv (AL Y Y)<|Zm Y<|A7 Y V<|A7 Y V<|A7 Y V<|Zv (AL Y Y)<|AW Y<|Zn [3,1] ?_;refine BB (e':=[(3,_)]) (by exact ⟨_,by unfold FH;exact (Cl A0).symm,V,V⟩)
  refine A7 Y V<|A7 Y V<|A7 Y V<|Zv (AL Y Y)<|Zm Y<|A7 Y V<|A7 Y V<|A7 Y V<|A7 Y V<|A7 Y V<|Zv (AL Y Y)<|Zm Y<|A7 Y V<|A7 Y V<|A7 Y V<|Zv (AL Y Y)<|AW Y<|Zn [3,1] ?_;refine BB (e':=[(3,_)]) (by exact ⟨_,by unfold FH;exact (Cl A0).symm,V,V⟩)
 rintro _ _ ⟨b0,g,rfl,rfl⟩;refine Zq<|A1<|Zh 0 CI V rfl AE Y<|Zl AH Y ?_;refine A6<|AR<|Zb [3,25,1] ?_;refine Ch (e0:=[(3,_),(25,_)]) (H0:=[[(U,_)]]) (fun e H=>∃(b:Bool) (y z:Int),(((b&&decide (y=0))&&decide (z=0))=decide (BI q))/\e=[(3,.bool b)]/\H=[[(U,.cells #[I0 q.kd,I0 q.tb,I0 q.cl,I0 q.lo,I0 q.hi,I0 y,I0 z] 34 (0,0))]]) Wp ?hx_6 ?hy_6
 case hx_6=>
  refine AR<|Zb [3,25,1] ?_;refine Ch (e0:=[(3,_),(25,_)]) (H0:=[[(U,_)]]) (fun e H=>∃(b:Bool) (z:Int),(((b&&decide (Pd q))&&decide (z=0))=decide (BI q))/\e=[(3,.bool b)]/\H=[[(U,.cells #[I0 q.kd,I0 q.tb,I0 q.cl,I0 q.lo,I0 q.hi,I0 q.bq,I0 z] 34 (0,0))]]) Wp ?hx_7 ?hy_7
  case hx_7=>
   refine AR<|Zq<|AR<|Zq<|AR<|Zq<|Zq<|A1<|Zv (CO Y Y)<|A5 Y<|Av Y (fun G=>?_) (fun G=>?_);·
    refine Az<|Zt<|Zt<|AV<|Zx<|Zq<|A1<|Zm Y<|Zm Y<|Aj (t:=38) Y V (fun X=>?_) (fun X=>?_);·
     have K:FH q:=HN (g.symm.trans X);refine Yf 2 CI V rfl AE Y<|Yl AH Y ?_;refine Yg (CO Y Y)<|Zv (AX Y Y)<|Zm Y<|Ao (t:=43) Y V (fun c1=>?_) (fun c1=>?_);·
      refine Yf 3 CI V rfl AE Y<|Yl AH Y ?_;refine Yf 4 CI V rfl AE Y<|Yl AH Y ?_;refine Yg (CO Y Y)<|Zv (AX Y Y)<|Zm Y<|Ao (t:=50) Y V (fun c2=>?_) (fun c2=>?_);·
       refine Yf 3 CI V rfl AE Y<|Yl AH Y ?_;refine Xr [_,_,_] Y call68 Y V (KC _ _ _) ?_;refine Zv (AX Y Y)<|Zm Y<|Ao (t:=55) Y V (fun c3=>?_) (fun c3=>?_);·
        refine Yf 5 CI V rfl AE Y<|Yl AH Y ?_;refine Yg (CO Y Y)<|Zv (AX Y Y)<|Zm Y<|Ao (t:=60) Y V (fun c4=>?_) (fun c4=>?_);·
         refine Yf 6 CI V rfl AE Y<|Yl AH Y ?_;refine Yg (CO Y Y)<|Zv (AX Y Y)<|AW Y<|Zn [2] ?_;refine Zx<|AJ<|Zt<|Ac<|Zt<|Ac<|Zt<|Ac<|Zt<|Ac<|Zt<|AP rfl OR Y (by exact ⟨by rw [WS G];exact congrArg Value.bool (decide_eq_decide.2 ⟨fun h=>⟨K,by omega⟩,fun h=>by omega⟩),rfl⟩)
        refine A7 Y V<|A7 Y V<|A7 Y V<|Zv (AL Y Y)<|AW Y<|Zn [2] ?_;refine Zx<|AJ<|Zt<|Ac<|Zt<|Ac<|Zt<|Ac<|Zt<|Ac<|Zt<|AP rfl OR Y (by exact ⟨by rw [WS G];exact congrArg Value.bool (Cl (fun h=>by first|exact K h.1|omega)).symm,rfl⟩)
       refine A7 Y V<|A7 Y V<|A7 Y V<|Zv (AL Y Y)<|Zm Y<|A7 Y V<|A7 Y V<|A7 Y V<|Zv (AL Y Y)<|AW Y<|Zn [2] ?_;refine Zx<|AJ<|Zt<|Ac<|Zt<|Ac<|Zt<|Ac<|Zt<|Ac<|Zt<|AP rfl OR Y (by exact ⟨by rw [WS G];exact congrArg Value.bool (Cl (fun h=>by first|exact K h.1|omega)).symm,rfl⟩)
      refine A7 Y V<|A7 Y V<|A7 Y V<|Zv (AL Y Y)<|Zm Y<|A7 Y V<|A7 Y V<|A7 Y V<|Zv (AL Y Y)<|Zm Y<|A7 Y V<|A7 Y V<|A7 Y V<|Zv (AL Y Y)<|AW Y<|Zn [2] ?_;refine Zx<|AJ<|Zt<|Ac<|Zt<|Ac<|Zt<|Ac<|Zt<|Ac<|Zt<|AP rfl OR Y (by exact ⟨by rw [WS G];exact congrArg Value.bool (Cl (fun h=>by first|exact K h.1|omega)).symm,rfl⟩)
     refine A7 Y V<|A7 Y V<|A7 Y V<|A7 Y V<|A7 Y V<|Zv (AL Y Y)<|Zm Y<|A7 Y V<|A7 Y V<|A7 Y V<|Zv (AL Y Y)<|Zm Y<|A7 Y V<|A7 Y V<|A7 Y V<|Zv (AL Y Y)<|Zm Y<|A7 Y V<|A7 Y V<|A7 Y V<|Zv (AL Y Y)<|AW Y<|Zn [2] ?_;refine Zx<|AJ<|Zt<|Ac<|Zt<|Ac<|Zt<|Ac<|Zt<|Ac<|Zt<|AP rfl OR Y (by exact ⟨by rw [WS G];exact congrArg Value.bool (Cl (fun h=>by first|exact K h.1|omega)).symm,rfl⟩)
    have K:¬FH q:=an (g.symm.trans X);refine A7 Y V<|A7 Y V<|A7 Y V<|Zv (AL Y Y)<|Zm Y<|A7 Y V<|A7 Y V<|A7 Y V<|A7 Y V<|A7 Y V<|Zv (AL Y Y)<|Zm Y<|A7 Y V<|A7 Y V<|A7 Y V<|Zv (AL Y Y)<|Zm Y<|A7 Y V<|A7 Y V<|A7 Y V<|Zv (AL Y Y)<|Zm Y<|A7 Y V<|A7 Y V<|A7 Y V<|Zv (AL Y Y)<|AW Y<|Zn [2] ?_;refine Zx<|AJ<|Zt<|Ac<|Zt<|Ac<|Zt<|Ac<|Zt<|Ac<|Zt<|AP rfl OR Y (by exact ⟨by rw [WS G];exact congrArg Value.bool (Cl (fun h=>by first|exact K h.1|omega)).symm,rfl⟩)
   refine AC<|Zx<|Zq<|A1<|Zv (CO Y Y)<|A5 Y<|Av Y (fun J=>?_) (fun J=>?_);·
    refine Az<|Zt<|Zt<|Ar V<|Zt<|AV<|Zx<|A1<|Zm Y<|Zm Y<|Aj (t:=66) Y V (fun e0=>?_) (fun e0=>?_);·
     refine Yf 6 CI V rfl AE Y<|Yl AH Y ?_;refine Xr [_,_,_] Y call68 Y V (KC _ _ _) ?_;refine Zv (AX Y Y)<|A5 Y<|Zg<|Zh 6 CI V rfl AE Y<|Xe (Zs AE Y Y V) ?_;refine Z0<|Zn [1,3] ?_;refine A8<|Zn [3,1] ?_;refine BB (e':=[(3,_)]) (by exact ⟨_,_,x6 J g e0,V,V⟩)
    refine A7 Y V<|A7 Y V<|A7 Y V<|Zv (AL Y Y)<|A5 Y<|Zg<|Zh 6 CI V rfl AE Y<|Xe (Zs AE Y Y V) ?_;refine Z0<|Zn [1,3] ?_;refine A8<|Zn [3,1] ?_;refine BB (e':=[(3,_)]) (by exact ⟨_,0,x7 J g e0,V,V⟩)
   refine AC<|Zx<|Zq<|Zq<|A1<|Zv (CO Y Y)<|A5 Y<|Av Y (fun I=>?_) (fun I=>?_);·
    refine AC<|Zx<|Av Y (fun I=>?_) (fun I=>?_);·
     refine Az<|Zt<|Zt<|Ar V<|Zt<|Ar V<|Zt<|AV<|Zn [3,1] ?_;refine BB (e':=[(3,_)]) (by exact ⟨_,_,nj A0 g,V,V⟩)
    refine AC<|Zx<|Zq<|A1<|Zv (CO Y Y)<|A5 Y<|Av Y (fun m=>?_) (fun m=>?_);·
     refine AC<|Zx<|Av Y (fun m=>?_) (fun m=>?_);·
      refine Az<|Zt<|Ar V<|Zt<|Ar V<|Zt<|Ar V<|Zt<|AV<|Zn [3,1] ?_;refine BB (e':=[(3,_)]) (by exact ⟨_,_,_,ng A0 g,V,V⟩)
     refine AC<|Zx<|Az<|Ar V<|Zt<|Ar V<|Zt<|Ar V<|Zt<|Ar V<|Zt<|AV<|Zx<|A1<|A5 Y<|AJ<|AP V OR Y (by exact ⟨congrArg Value.bool (Cl (VB G J A0 A0 A0 A0 A0)).symm,V⟩)
    refine Zg<|Zv (CO Y Y)<|A5 Y<|Av Y (fun m=>?_) (fun m=>?_);·
     refine Az<|Zt<|Ar V<|Zt<|Ar V<|Zt<|Ar V<|Zt<|AV<|Zn [3,1] ?_;refine BB (e':=[(3,_)]) (by exact ⟨_,_,_,ng A0 g,V,V⟩)
    refine AC<|Zx<|Az<|Ar V<|Zt<|Ar V<|Zt<|Ar V<|Zt<|Ar V<|Zt<|AV<|Zx<|A1<|A5 Y<|AJ<|AP V OR Y (by exact ⟨congrArg Value.bool (Cl (VB G J A0 A0 A0 A0 A0)).symm,V⟩)
   refine A1<|Zv (CO Y Y)<|A5 Y<|Av Y (fun I=>?_) (fun I=>?_);·
    refine AC<|Zx<|Av Y (fun I=>?_) (fun I=>?_);·
     refine Az<|Zt<|Zt<|Ar V<|Zt<|Ar V<|Zt<|AV<|Zn [3,1] ?_;refine BB (e':=[(3,_)]) (by exact ⟨_,_,nj A0 g,V,V⟩)
    refine AC<|Zx<|Zq<|A1<|Zv (CO Y Y)<|A5 Y<|Av Y (fun m=>?_) (fun m=>?_);·
     refine AC<|Zx<|Av Y (fun m=>?_) (fun m=>?_);·
      refine Az<|Zt<|Ar V<|Zt<|Ar V<|Zt<|Ar V<|Zt<|AV<|Zn [3,1] ?_;refine BB (e':=[(3,_)]) (by exact ⟨_,_,_,ng A0 g,V,V⟩)
     refine AC<|Zx<|Az<|Ar V<|Zt<|Ar V<|Zt<|Ar V<|Zt<|Ar V<|Zt<|AV<|Zx<|A1<|A5 Y<|AJ<|AP V OR Y (by exact ⟨congrArg Value.bool (Cl (VB G J A0 A0 A0 A0 A0)).symm,V⟩)
    refine Zg<|Zv (CO Y Y)<|A5 Y<|Av Y (fun m=>?_) (fun m=>?_);·
     refine Az<|Zt<|Ar V<|Zt<|Ar V<|Zt<|Ar V<|Zt<|AV<|Zn [3,1] ?_;refine BB (e':=[(3,_)]) (by exact ⟨_,_,_,ng A0 g,V,V⟩)
    refine AC<|Zx<|Az<|Ar V<|Zt<|Ar V<|Zt<|Ar V<|Zt<|Ar V<|Zt<|AV<|Zx<|A1<|AW Y<|Zn [2] ?_;refine Zx<|AJ<|AP V OR Y (by exact ⟨congrArg Value.bool (Cl (VB G J A0 A0 A0 A0 A0)).symm,V⟩)
   refine Zg<|Zv (CO Y Y)<|A5 Y<|Av Y (fun I=>?_) (fun I=>?_);·
    refine Az<|Zt<|Zt<|Ar V<|Zt<|Ar V<|Zt<|AV<|Zn [3,1] ?_;refine BB (e':=[(3,_)]) (by exact ⟨_,_,nj A0 g,V,V⟩)
   refine AC<|Zx<|Zq<|A1<|Zv (CO Y Y)<|A5 Y<|Av Y (fun m=>?_) (fun m=>?_);·
    refine AC<|Zx<|Av Y (fun m=>?_) (fun m=>?_);·
     refine Az<|Zt<|Ar V<|Zt<|Ar V<|Zt<|Ar V<|Zt<|AV<|Zn [3,1] ?_;refine BB (e':=[(3,_)]) (by exact ⟨_,_,_,ng A0 g,V,V⟩)
    refine AC<|Zx<|Az<|Ar V<|Zt<|Ar V<|Zt<|Ar V<|Zt<|Ar V<|Zt<|AV<|Zx<|A1<|AW Y<|Zn [2] ?_;refine Zx<|AJ<|AP V OR Y (by exact ⟨congrArg Value.bool (Cl (VB G J A0 A0 A0 A0 A0)).symm,V⟩)
   refine Zg<|Zv (CO Y Y)<|AW Y<|Zn [1,3,34] ?_;refine Zx<|Av Y (fun m=>?_) (fun m=>?_);·
    refine Az<|Zt<|Ar V<|Zt<|Ar V<|Zt<|Ar V<|Zt<|AV<|Zn [3,1] ?_;refine BB (e':=[(3,_)]) (by exact ⟨_,_,_,ng A0 g,V,V⟩)
   refine AC<|Zx<|Az<|Ar V<|Zt<|Ar V<|Zt<|Ar V<|Zt<|Ar V<|Zt<|AV<|Zx<|A1<|A5 Y<|AJ<|AP V OR Y (by exact ⟨congrArg Value.bool (Cl (VB G J A0 A0 A0 A0 A0)).symm,V⟩)
  rintro _ _ ⟨b,z,O,rfl,rfl⟩;refine A1<|Zm Y<|Zm Y<|Aj (t:=73) Y V (fun Z=>?_) (fun Z=>?_);·
   refine Yf 5 CI V rfl AE Y<|Yl AH Y ?_;refine Xr [_,_,_] Y call68 Y V (KC _ _ _) ?_;refine Zv (AX Y Y)<|A5 Y<|Zg<|Zh 5 CI V rfl AE Y<|Xe (Zs AE Y Y V) ?_;refine Z0<|A8<|Zn [3,1] ?_;refine BB (e':=[(3,_)]) (by exact ⟨_,_,_,yp O Z,V,V⟩)
  refine A7 Y V<|A7 Y V<|A7 Y V<|Zv (AL Y Y)<|A5 Y<|Zg<|Zh 5 CI V rfl AE Y<|Xe (Zs AE Y Y V) ?_;refine Z0<|A8<|Zn [3,1] ?_;refine BB (e':=[(3,_)]) (by exact ⟨_,0,z,yq O Z,V,V⟩)
 rintro _ _ ⟨b,y,z,O,rfl,rfl⟩;refine Zq<|A1<|Zm Y<|Zm Y<|Aj (t:=80) Y V (fun g0=>?_) (fun g0=>?_);·
  refine Yf 5 CI V rfl AE Y<|Yl AH Y ?_;refine Yg (CO Y Y)<|Zv (AX Y Y)<|Zm Y<|Ao (t:=85) Y V (fun g1=>?_) (fun g1=>?_);·
   refine Yf 6 CI V rfl AE Y<|Yl AH Y ?_;refine Yg (CO Y Y)<|Zv (AX Y Y)<|A5 Y<|AJ<|Zt<|Ac<|Zt<|AP rfl OR Y (by exact ⟨by rw [<-O];simp [*],rfl⟩)
  refine A7 Y rfl<|A7 Y rfl<|A7 Y rfl<|Zv (AL Y Y)<|A5 Y<|AJ<|Zt<|Ac<|Zt<|AP rfl OR Y (by exact ⟨by rw [<-O];simp [*],rfl⟩)
 refine A7 Y rfl<|A7 Y rfl<|A7 Y rfl<|Zv (AL Y Y)<|Zm Y<|A7 Y rfl<|A7 Y rfl<|A7 Y rfl<|Zv (AL Y Y)<|A5 Y<|AJ<|Zt<|Ac<|Zt<|AP rfl OR Y (by exact ⟨by rw [<-O];simp [*],rfl⟩)
def Il(p:B8)(o:Option AU)(s:List A9):Prop:=match o with
 |none=>p=none/\s=[]
 |some r=>∃b,p=some ⟨b,0,none⟩/\s=[(b,.cells r.A94 80 (0,0))]
theorem Il.some_{p:B8}{o:Option AU}(h:Il p o s):p.isSome=o.isSome:=by
 cases o with
 |none=>rw [h.1];rfl
 |some r=>obtain ⟨b,rfl,_⟩:=h;rfl
theorem aS(q:QM)(c:Chg)(g:Bool)(v:V3):I6 q g (EO c g v)=I6 q g ⟨c.t,c.k,v⟩:=by
 cases g with
 |false=>rfl
 |true=>rfl
theorem XQ(h:b=false\/¬(r.t=q.tb/\q.lo<=Bj r q.cl/\Bj r q.cl<=q.hi)):I6 q b r=none:=by
 unfold I6 inQ;rcases h with h|h
 · rw [h];rfl
 · rw [Cl h,Bool.and_false];rfl
theorem xn(h:b=true)(h2:r.t=q.tb/\q.lo<=Bj r q.cl/\Bj r q.cl<=q.hi):I6 q b r=some r:=by
 unfold I6 inQ;rw [h,D2 h2];rfl
theorem I8:G7 prog 3 (fun k:Int=>I0 k) (fun _=>True):=Cf DE
theorem OX(q:QM)(I:0<=q.cl/\q.cl<=3)(G:0<=q.bq/\q.bq<=3)(bq:Nat)(r:AU)(b:Bool):BS prog 209 #[.agg r.A94,.bool b,I1 bq] [[(bq,.cells q.A95 34 (0,0))]] (fun v H'=>∃p s,v= .tuple #[.pointer p,I0 (mQ q (I6 q b r))]/\Il p (I6 q b r) s/\H'=[s,[(bq,.cells q.A95 34 (0,0))]]):=by
 refine Se func209 ntmps209 [0,1,2] ?_;intro u R;refine A1<|Ze (Bx #[_,_,_,_,_])<|AG fun J=>Za Y<|A5 Y<|A1<|Zo Wh (AB (cs:=#[_,_,_,_,_]) Cp B3 Y B5 Ax)<|Zh 2 CI V rfl AE Y<|Zl AH Y<|Xr [_,_] Y RM Y V (GD r q.cl I)<|A5 Y<|Zq<|A1<|Zm Y<|Zv (Br Y)<|Zm Y<|Aj (t:=14) Y V (fun m=>?_) (fun m=>?_);·
  refine A7 Y V<|A7 Y V<|A7 Y V<|A7 Y V<|A7 Y V<|Zv (AX Y Y)<|Zm Y<|A7 Y V<|A7 Y V<|A7 Y V<|A7 Y V<|Zv (AX Y Y)<|Zm Y<|A7 Y V<|A7 Y V<|A7 Y V<|A7 Y V<|Zv (AX Y Y)<|Z0<|Zn [2,3,32] ?_;refine Zx<|DR Y<|Zq<|Be<|Zg<|Za Y<|A5 Y<|AJ<|Zt<|DF V iu Y Y (by
   have g:I6 q b r=none:=XQ (by exact .inl (by simpa using m));exact ⟨none,[],by rw [g];rfl,by rw [g];exact ⟨rfl,rfl⟩,rfl⟩)
 refine Yf 0 Fo V rfl AE Y<|Yl AH Y<|Yf 1 CI V rfl AE Y<|Yl AH Y<|Yg (KI Y Y)<|Zv (AL Y Y)<|Zm Y<|Ao (t:=21) Y V (fun h2=>?_) (fun h2=>?_);·
  refine A7 Y V<|A7 Y V<|A7 Y V<|A7 Y V<|Zv (AX Y Y)<|Zm Y<|A7 Y V<|A7 Y V<|A7 Y V<|A7 Y V<|Zv (AX Y Y)<|Z0<|Zn [2,3,32] ?_;refine Zx<|DR Y<|Zq<|Be<|Zg<|Za Y<|A5 Y<|AJ<|Zt<|DF V iu Y Y (by
   have g:I6 q b r=none:=XQ (by exact .inr A0);exact ⟨none,[],by rw [g];rfl,by rw [g];exact ⟨rfl,rfl⟩,rfl⟩)
 refine Zf Y Y<|Yf 3 CI V rfl AE Y<|Yl AH Y<|Yg (EI Y Y)<|Zv (AL Y Y)<|Zm Y<|Ao (t:=27) Y V (fun K=>?_) (fun K=>?_);·
  refine A7 Y V<|A7 Y V<|A7 Y V<|A7 Y V<|Zv (AX Y Y)<|Z0<|Zn [2,3,32] ?_;refine Zx<|DR Y<|Zq<|Be<|Zg<|Za Y<|A5 Y<|AJ<|Zt<|DF V iu Y Y (by
   have g:I6 q b r=none:=XQ (by exact .inr A0);exact ⟨none,[],by rw [g];rfl,by rw [g];exact ⟨rfl,rfl⟩,rfl⟩)
 refine Zf Y Y<|Yf 4 CI V rfl AE Y<|Yl AH Y<|Yg (Ef Y Y)<|Zv (AL Y Y)<|Z0<|Zn [2,3,32] ?_;refine Zx<|Av Y (fun O=>?_) (fun O=>?_);·
  refine Zq<|Be<|Zg<|Za Y<|A5 Y<|AJ<|Zt<|DF V iu Y Y (by
   have g:I6 q b r=none:=XQ (by exact .inr A0);exact ⟨none,[],by rw [g];rfl,by rw [g];exact ⟨rfl,rfl⟩,rfl⟩)
 refine AC<|Zx<|A1<|Zo Wh (AB (cs:=#[_,_,_,_,_]) Cp B3 Y B5 Ax)<|Zh 5 CI V rfl AE Y<|Zl AH Y<|Xr [_,_] Y RM Y V (GD r q.bq G)<|Za Y<|A5 Y<|AJ<|DF V iu Y Y (by
  have g:I6 q b r=some r:=xn (by simpa using m) A0;exact ⟨_,_,by rw [g];rfl,by rw [g];exact ⟨J,rfl,rfl⟩,rfl⟩)
theorem VP(c:Chg):BJ prog 210 #[.agg c.A93] [] (.tuple #[.agg #[I0 (EO c c.had c.o).t,I0 (EO c c.had c.o).k,I0 (EO c c.had c.o).v.a,I0 (EO c c.had c.o).v.b,I0 (EO c c.had c.o).v.c],.bool c.had]):=by
 refine Se func210 ntmps210 [0] ?_;intro u R;refine A1<|Ze (Bx #[_,_,_,_,_,_,_,_,_,_])<|AG fun g=>Ze (Al EV #[_,_,_,_,_])<|AG fun m=>A5 Y<|A1<|Zo Wh (AB (cs:=#[_,_,_,_,_,_,_,_,_,_]) GP CA Y B5 Ax)<|Zh 2 C3 V rfl DM Y<|Zl Fc Y<|Zh 3 C3 V rfl E0 Y<|Zo Wh (AB (cs:=#[_,_,_]) HM E0 Y B5 Ax)<|Xr [_,_,_] Y call173 Y V (XA c c.had c.o)<|Zd Y V<|Zd Y V<|Xe (Xw B3 _)<|AW Y<|Zn [2,3] ?_;refine Zx<|AJ<|CP V results210 Y Wh (Au Cp B3 Wn (V)) Y (by exact ⟨V,V⟩)
set_option maxHeartbeats 1000000 in
theorem Ji(q:QM)(I:0<=q.cl/\q.cl<=3)(G:0<=q.bq/\q.bq<=3)(c:Chg):BS prog 152 #[.agg q.A95,.agg c.A93] [] (fun v H'=>∃J K s1 s2,v= .agg (q.GW c J K (mQ q (bfQ q c)) (mQ q (afQ q c)))/\Il J (bfQ q c) s1/\Il K (afQ q c) s2/\H'=[s1,s2]):=by
 refine Se func152 ntmps152 [0,1] ?_;intro u R;refine A1<|Ze (Bx #[_,_,_,_,_,_,_])<|AG fun bq=>Ze (Bx #[_,_,_,_,_,_,_,_,_,_])<|AG fun X=>Ze (FL zeroValue265 (cs:=#[I0 0,I0 0,I0 0,I0 0,I0 0,I0 0,I0 0,I0 0,I0 0,.bool false,I0 0,I0 0,I0 0,.bool false,I0 0,I0 0,I0 0,.pointer none,.pointer none,I0 0,I0 0]) AF)<|AG fun rb=>A6<|A1<|Zo Wh (AB (cs:=#[_,_,_,_,_,_,_]) F1 CM Y B5 Ax) ?_;refine Zo Wh (AB (cs:=#[_,_,_,_,_,_,_,_,_,_]) GP CA Y B5 Ax) ?_;refine Zv (BM (vs:=[(0,.agg q.A95),(1,.agg c.A93)]) (cs:=(q.GW c none none 0 0)) Y (AZ (pl:=#[(0,7),(7,10),(17,1),(18,1),(19,1),(20,1)]) zeroValue265 F0 (fun _=>by kernel_rfl) AF))<|Ze (FL zeroValue265 (cs:=#[I0 0,I0 0,I0 0,I0 0,I0 0,I0 0,I0 0,I0 0,I0 0,.bool false,I0 0,I0 0,I0 0,.bool false,I0 0,I0 0,I0 0,.pointer none,.pointer none,I0 0,I0 0]) AF)<|AG fun Z=>Xe (BL aE Y Y iz Wu (by exact EN rfl) Fi B0 (by exact BC _)) ?_;refine A6<|A1<|Zv (Bf (vs:=[]) (us:=[_]) Y Y)<|A5 Y<|A1<|Zm Y<|Zo Wh (AB (cs:=#[_,_,_,_,_,_,_,_,_,_]) GP CA Y B5 Ax) ?_;refine Xr [_] Y call210 Y V (VP c) ?_;refine Zd Y V<|Zd Y V<|Zc [_,_] Y call209 Y V (OX q I G bq (EO c c.had c.o) c.had) ?_;rintro _ _ ⟨_,⟨J,s1,rfl,g,rfl⟩,rfl⟩;have O:I6 q c.had (EO c c.had c.o)=bfQ q c:=aS q c c.had c.o
 rw [O]at g⊢;refine Zm Y<|Zd Y V<|Zd Y V<|Zh 17 F0 V rfl LR Y<|Xe (Zs LR Y Y V (hi:=by(simp;done))) ?_;refine Zh 19 F0 V rfl AE Y<|Xe (Zs AE Y Y V (hi:=by(simp;done))) ?_;refine Z0<|Zn [3,4,5,6] ?_;refine Zx<|A1<|Zm Y<|Zo Wh (AB (cs:=#[_,_,_,_,_,_,_,_,_,_]) GP CA Y B5 Ax) ?_;refine Xr [_] Y call109 Y V (Oa c) ?_;refine Zd Y V<|Zd Y V<|Zc [_,_] Y call209 Y V (OX q I G bq (EO c c.has c.n) c.has) ?_;rintro _ _ ⟨_,⟨K,s2,rfl,m,rfl⟩,rfl⟩;have U:I6 q c.has (EO c c.has c.n)=afQ q c:=aS q c c.has c.n
 rw [U]at m⊢;refine Zm Y<|Zd Y V<|Zd Y V<|Zh 18 F0 V rfl LR Y<|Xe (Zs LR Y Y V (hi:=by(simp;done))) ?_;refine Zh 20 F0 V rfl AE Y<|Xe (Zs AE Y Y V (hi:=by(simp;done))) ?_;refine Z0<|Zn [4,5] ?_;refine Zx<|A1<|Zo Wh (AB cN aE Y B5 (by exact BO V)) ?_;refine Xe (BL aE Y Y iz Wu (by exact EN rfl) Fi B0 (by exact BC _)) ?_;refine A6<|AJ<|D7 V results152 Y Wh (Au cN aE Wn (BO V)) (by exact ⟨J,K,s1,s2,V,g,m,V⟩)
theorem GK(q:QM)(c:Chg)(g m:B8)(o n:Int):(Value.agg (q.GW c g m o n)).cells=(q.GW c g m o n):=by simp [Value.cells]
theorem bZ(q:QM)(c:Chg)(g m:B8)(o n:Int):BJ prog 196 #[.agg (q.GW c g m o n)] [] (.bool (g.isSome||m.isSome)):=by
 refine Se func196 ntmps196 [0] ?_;intro u R;refine A1<|Ze (F8 Y (cs:=(q.GW c g m o n)) (GK q c g m o n))<|AG fun I=>A5 Y<|A1<|Zh 17 F0 V rfl LR Y<|Zl Of Y ?_;refine Zv (Fv W1 Y Y)<|Zm Y<|Aj (t:=6) Y V (fun G=>?_) (fun G=>?_);·
  refine A7 Y rfl<|A7 Y rfl<|A7 Y rfl<|Zv (AX Y Y)<|A5 Y<|AJ<|AP rfl results196 Y (by exact ⟨by first|rfl|simp [G],rfl⟩)
 refine Yf 18 F0 V rfl LR Y<|Yl Of Y ?_;refine Yg (Fv W1 Y Y)<|Zv (AL Y Y)<|A5 Y<|AJ<|AP rfl results196 Y (by exact ⟨by first|rfl|simp [G],rfl⟩)
theorem TR(q:QM)(c:Chg)(g m:B8)(o n:Int):BJ prog 198 #[.agg (q.GW c g m o n)] [] (.bool (g.isSome !=m.isSome)):=by
 refine Se func198 ntmps198 [0] ?_;intro u R;refine A1<|Ze (F8 Y (cs:=(q.GW c g m o n)) (GK q c g m o n))<|AG fun G=>A5 Y<|A1<|Zh 17 F0 V rfl LR Y<|Zl Of Y ?_;refine Zv (Nj W1 Y Y)<|Zh 18 F0 V rfl LR Y<|Zl Of Y ?_;refine Zv (Nj W1 Y Y)<|Zv (I4 Mn Y Y)<|A5 Y<|AJ<|AP V results198 Y (by exact ⟨by cases g<;>cases m<;>rfl,V⟩)
theorem yO(q:QM)(c:Chg)(g m:B8)(o n:Int):BJ prog 200 #[.agg (q.GW c g m o n)] [] (.bool (decide (o≠n))):=by
 refine Se func200 ntmps200 [0] ?_;intro u R;refine A1<|Ze (F8 Y (cs:=(q.GW c g m o n)) (GK q c g m o n))<|AG fun G=>A5 Y<|A1<|Zh 19 F0 rfl rfl AE Y<|Zl AH Y<|Zh 20 F0 rfl rfl AE Y<|Zl AH Y<|Zv (KI Y Y)<|A5 Y<|AJ<|AP rfl results200 Y (by exact ⟨by first|rfl|simp,rfl⟩)
theorem yN(q:QM)(c:Chg)(g m:B8)(o n:Int):BJ prog 202 #[.agg (q.GW c g m o n)] [] (.bool ((g.isSome !=m.isSome)||decide (o≠n))):=by
 refine Se func202 ntmps202 [0] ?_;intro u R;refine A1<|Ze (F8 Y (cs:=(q.GW c g m o n)) (GK q c g m o n))<|AG fun I=>A5 Y<|A1<|Zo Wh (AB cN aE Y B5 (BO V)) ?_;refine Xr [_] Y call198 Y V (TR q c g m o n) ?_;refine Zm Y<|Aj (t:=5) Y V (fun G=>?_) (fun G=>?_);·
  refine A7 Y V<|A7 Y V<|A7 Y V<|A7 Y V<|A7 Y V<|Zv (AX Y Y)<|A5 Y<|AJ<|AP V results202 Y (by exact ⟨by simp [G],V⟩)
 refine Yf 19 F0 V rfl AE Y<|Yl AH Y ?_;refine Yf 20 F0 V rfl AE Y<|Yl AH Y ?_;refine Yg (KI Y Y)<|Zv (AL Y Y)<|A5 Y<|AJ<|AP V results202 Y (by exact ⟨by simp [G],V⟩)
theorem yM(q:QM)(c:Chg)(g m:B8)(o n:Int):BJ prog 205 #[.agg (q.GW c g m o n)] [] (.bool ((g.isSome !=m.isSome)||decide (o≠n))):=by
 refine Se func205 ntmps205 [0] ?_;intro u R;refine A1<|Ze (F8 Y (cs:=(q.GW c g m o n)) (GK q c g m o n))<|AG fun I=>A5 Y<|A1<|Zo Wh (AB cN aE Y B5 (BO V)) ?_;refine Xr [_] Y call198 Y V (TR q c g m o n) ?_;refine Zm Y<|Aj (t:=5) Y V (fun G=>?_) (fun G=>?_);·
  refine A7 Y V<|A7 Y V<|A7 Y V<|A7 Y V<|A7 Y V<|Zv (AX Y Y)<|A5 Y<|AJ<|AP V results205 Y (by exact ⟨by simp [G],V⟩)
 refine Yf 19 F0 V rfl AE Y<|Yl AH Y ?_;refine Yf 20 F0 V rfl AE Y<|Yl AH Y ?_;refine Yg (KI Y Y)<|Zv (AL Y Y)<|A5 Y<|AJ<|AP V results205 Y (by exact ⟨by simp [G],V⟩)
theorem yL(q:QM)(c:Chg)(g m:B8)(o n:Int):BJ prog 207 #[.agg (q.GW c g m o n)] [] (.bool ((g.isSome||m.isSome)||decide (c.t=q.ot))):=by
 refine Se func207 ntmps207 [0] ?_;intro u R;refine A1<|Ze (F8 Y (cs:=(q.GW c g m o n)) (GK q c g m o n))<|AG fun I=>A5 Y<|A1<|Zo Wh (AB cN aE Y B5 (BO V))<|Xr [_] Y call196 Y V (bZ q c g m o n)<|Zm Y<|Aj (t:=5) Y V (fun G=>?_) (fun G=>?_);·
  refine A7 Y V<|A7 Y V<|A7 Y V<|A7 Y V<|A7 Y V<|A7 Y V<|A7 Y V<|Zv (AX Y Y)<|AW Y<|Zn [2] ?_;refine Zx<|AJ<|AP V results207 Y (by exact ⟨by simp [G],V⟩)
 refine Yf 7 F0 V rfl CA Y<|Yg (Ap (off:=0) C3 V rfl AE Y)<|Yl AH Y<|Yf 0 F0 V rfl CM Y<|Yg (Ap (off:=6) CI V rfl AE Y)<|Yl AH Y<|Yg (CO Y Y)<|Zv (AL Y Y)<|AW Y<|Zn [2] ?_;refine Zx<|AJ<|AP V results207 Y (by exact ⟨by simp [G],V⟩)
end Go.Proofs.YthhakdmlpngcmaaGreatDoor
