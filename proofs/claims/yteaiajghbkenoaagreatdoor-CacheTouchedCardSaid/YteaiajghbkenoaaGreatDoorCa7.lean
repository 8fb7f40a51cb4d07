/- The pool made; Put where there is room. -/
/- What a cache keeps; after, forget, remember. -/
/- A cache in memory; Drop, Keys, Position, Used, Touch. -/
/- Entry, Get. -/
/- prepared. -/
/- Put. -/
import Derived.Test.YteaiajghbkenoaaGreatDoorEz
import Derived.Test.YteaiajghbkenoaaGreatDoorMm2
import Derived.Test.YteaiajghbkenoaaGreatDoorEx5
import Derived.Test.YteaiajghbkenoaaGreatDoorEx36
import Derived.Test.YteaiajghbkenoaaGreatDoorCo1
import Derived.Test.YteaiajghbkenoaaGreatDoorPy5
set_option linter.unusedVariables false
set_option linter.unusedSimpArgs false
namespace Go.Proofs.YteaiajghbkenoaaGreatDoor
open Go.Proofs.Tryz
open Go Go.RowKit Gw
set_option maxRecDepth 100000
attribute [local irreducible] Gw.At Gw.Nx Gw.Ops
variable{r:Nat}
theorem dC{nx bf nx' bf':Nat->Value}{l:List Nat}(h:JJ nx bf r l)(B:∀a∈r::l,nx' a=nx a)(h2:∀a∈r::l,bf' a=bf a):JJ nx' bf' r l:=fun q m=>by
 have e1:q.1∈r::l:=by rw [<-J5 r l r];exact DM m
 have e2:q.2∈r::l:=by
  have g:q.2∈l++[r]:=by rw [<-K4 r l r];exact DM m
  rcases B9.1 g with g|g
  · exact E3 _ g
  · rw [BT.1 g];exact Dd ..
 rw [B _ e1,h2 _ e2];exact h q m
def Bj.more(z:Bj)(e:Bt):Bj:={z with E:=z.E++[e],nx:=DW z.nx e.b (.pointer none),bf:=DW z.bf e.b (.pointer none)}
theorem Bj.more_S(z:Bj)(e:Bt)(g:e.b∉z.S.map (·.1)):z.S++[(e.b,.cells #[.string e.key,I4 e.te,I4 e.sz,.pointer none,.pointer none] 178 (0,0))]=(z.more e).S:=by
 rw [z.keys]at g;have B:z.r≠e.b:=fun h=>g (h▸Dd ..)
 unfold Bj.more Bj.S;simp only [EZ _ _ B,BW,DO,I3,P2];congr 2
 · refine V1 fun x G=>?_
   have m:x.b≠e.b:=fun h=>g (h▸E3 _ (DM G));unfold Bt.ch;simp only [EZ _ _ m]
 · unfold Bt.ch
   simp only [Hz]
variable{z:Bj}{ns mb ck:Nat}{es:Array MapEntry}{lm:List (ByteArray×Value)}{su:List A9}
theorem YR{L:List Bt}(h:Di z ns L mb es ck lm su)(W:z.bl.Nodup)(e:Bt)(G:e.b∉z.S.map (·.1)):∃p,p∈(z.more e).bl/\(z.more e).bf z.r=pV p/\e∈(z.more e).E/\
 JJ (DW (DW (z.more e).nx e.b (pV z.r)) p (pV e.b)) (DW (DW (z.more e).bf e.b (pV p)) z.r (pV e.b)) z.r ((L++[e]).map (·.b)):=by
 rw [z.keys]at G;have m:∀a∈z.r::L.map (·.b),a∈z.bl:=fun a g=>by
  rcases D0.1 g with rfl|g
  · exact Dd ..
  · obtain ⟨x,I,rfl⟩:=Bk.1 g
    exact E3 _ (DM (h.sub x I))
 have B:∀a∈z.r::L.map (·.b),a≠e.b:=fun a g X=>G (X▸m a g);obtain ⟨p,J,h2,O⟩:=pE (x:=e.b) (h.nodup W) (fun I=>G (m _ I)) (dC (nx':=(z.more e).nx) (bf':=(z.more e).bf) h.ring (fun a g=>EZ _ _ (B a g)) (fun a g=>EZ _ _ (B a g)));refine ⟨p,?_,h2,G1 _ (BT.2 rfl),by rw [BW];exact O⟩;have U:=m p J
 unfold Bj.bl Bj.more at*;rcases D0.1 U with h5|h5
 · rw [h5];exact Dd ..
 · refine E3 _ ?_
   show p∈(z.E++[e]).map (·.b);rw [BW];exact DS _ h5
theorem Y0{l:List Int}{i:Nat}{x:Int}(h:l[i]?=some x):(l.take (i+1)).sum=(l.take i).sum+x:=by
 obtain ⟨hi,rfl⟩:=BE.1 h;rw [P0,B4 hi,nq];simp
theorem OD:∀{l:List Int},(∀x∈l,0<=x)->∀i,0<=(l.take i).sum/\(l.take i).sum<=l.sum
 |[],_,i=>by simp
 |x::l,h,0=>by
  have:=OD (fun y g=>h y (E3 _ g)) l.length;rw [FF]at this;have m:=h x (Dd ..)
  simp only [HX,List.sum_nil,gh];omega
 |x::l,h,i+1=>by
  have:=OD (fun y g=>h y (E3 _ g)) i;have m:=h x (Dd ..)
  simp only [jj,gh];omega
theorem dM(r:Nat)(cap:Int)(hc:1<=cap/\cap<=1000000)(a:Option Addr)(ns c mb g:Nat)(B:ns<=maxLen):Di ⟨r,[],fun _=>pV r,fun _=>pV r,cap,.slice a ns c,I6 g ns ns,.map (some mb),cap⟩ ns [] mb #[] 0 [] [(g,.cells (List.replicate ns (Value.int .i64 0)).toArray 3 (0,0))]:=by
 refine ⟨fun e h=>by simp at h,ow V rfl,V,ER _,fun p=>by simp,kh,?_,fun e h=>by simp at h,fun e h=>by simp at h,?_,?_,⟨a,c,V⟩,hc⟩
 · rw [show(List.range ns).map (fun k:Nat=>Value.int .i64 (FU [] (k:Int)))=List.replicate ns (Value.int .i64 0) from by
    rw [List.eq_replicate_iff];refine ⟨by simp,fun b m=>?_⟩;obtain ⟨k,_,rfl⟩:=Bk.1 m;rfl]
   exact JU _ g _ ns B0 B
 · show cap=cap -L8 []
   unfold L8;simp
 · show 0<=cap
   omega
theorem GJ{v:Value}{xs:List Int}{s:List A9}(J:Row 3 v (xs.map (Value.int .i64)) s)(hn:xs.length<=1000000):Ba prog 88 #[v] [s] (fun r H'=>∃g c s2,r= .slice g xs.length c/\Row 3 r (xs.map (Value.int .i64)) s2/\H'=[s2,s]):=by
 have af:=mL;obtain ⟨X,cv,hv⟩:=J.form;rw [B2]at hv;subst hv;refine Se func88 ntmps88 [0] ?_;intro u R;refine A0<|A3 Y<|Zq<|A0<|Zm Y<|Zv (Dk Cd Y Y)<|A4<|AV Y (fun W=>?_) (fun W=>?_)
 ·
  have O:X=none:=by cases X with
   |none=>rfl
   |some x=>cases W
  subst O;have h0:xs=[]:=by
   rcases J with⟨_,h,_⟩|⟨g,cap,cur,z,h,_⟩
   · simpa using h
   · cases h
  subst h0;refine Zq<|BV<|Zg<|A3 Y<|AJ<|Zt<|AO V results88 Y (by exact ⟨none,0,[],V,Fu _,V⟩)
 refine AC<|Zx<|A0<|Ze (EM Cd A5)<|AD fun Z=>Zm Y<|Ze (Gi (by_:=8) Cd (rfl:Tryz.prog.info? 3=some Tryz.t3) rfl rfl rfl rfl Y ((JU 3 Z [] 0 rfl AN)) Y (J) Wo Wo (by exact fun u hu=>by obtain ⟨x,_,rfl⟩:=Bk.1 hu;rfl) HQ HQ) ?_;rintro _ _ ⟨U,m,rfl⟩;rw [KK]at m;have B:=m
 obtain ⟨I,G,rfl⟩:=m.form;refine A3 Y<|AJ<|AO V results88 Y (by exact ⟨I,G,U,by simp,B,V⟩)
theorem ku{v:Value}{sh:List Int}{X:List A9}(G:Row 3 v (sh.map (Value.int .i64)) X)(cap:Int)(hc:1<=cap/\cap<=1000000)(hl:1<=sh.length/\sh.length<=8)(h0:∀x∈sh,0<=x)(Z:sh.sum<=cap):Ba prog 42 #[I4 cap,v] [X] (fun r H'=>∃z mb su,r= .tuple #[.pointer (some ⟨z.r,0,none⟩),I4 0]/\z.cap=cap/\Di z sh.length [] mb #[] 0 [] su/\H'=[z.S,[(mb,.map #[] 0)],su,X]):=by
 have bn:=mL;obtain ⟨pv,cv,hv⟩:=G.form;rw [B2]at hv;subst hv;refine Se func42 ntmps42 [0,1] ?_;intro u R;refine A0<|Za Y<|A3 Y<|Zq<|A0<|Zm Y<|Zv (Dq Y Y)<|Zm Y<|Ao (t:=12) Y V (fun g1=>by omega)<|fun g1=>Zf Y Y<|Yg (Ep Y Y)<|Zv (AL Y Y)<|Zm Y<|Ao (t:=16) Y V (fun g2=>by omega)<|fun g2=>Zf Y Y<|Yg (Ab Cd Y)<|Yg (Au (n:=1) Y Y)<|Zv (AL Y Y)<|Zm Y<|Ao (t:=21) Y V (fun g3=>by omega)<|fun g3=>Zf Y Y<|Yg (Ab Cd Y)<|Yg (DF (n:=8) Y Y)<|Zv (AL Y Y)<|Z0<|Zn [0,1,25] ?_;refine Zx<|Av Y (fun g4=>by omega)<|fun g4=>AC<|Zx<|A0<|Zm Y<|A3 Y<|Zq<|A0<|Zm Y<|Zv (Ab Cd Y)<|Zm Y<|A4<|AP<|Zb [6,29,0,1,27,28] ?_;refine BB (e0:=[(6,_),(29,_)]) (fun m e H=>∃(i:Nat),m=sh.length -i/\(i<=sh.length)/\e=[(6,I4 (cap -(sh.take i).sum)),(29,I4 (i:Int))]/\H=[]) (by exact ⟨0,V,C0 _,by simp,V⟩) Wp ?_;rintro _ _ _ ⟨i,rfl,hi,rfl,rfl⟩;refine A0<|Zv (Au Y Y)<|A4<|Zq<|Av Y (fun J=>?_) (fun J=>?_)
 ·
  obtain ⟨n,O⟩:∃n,sh[i]?=some n:=⟨_,B4 J⟩;obtain ⟨bs,cs,cur,zs,W,rfl,ax,af,I,_⟩:=Wj G (k:=i) (y0:=I4 n) (by rw [DH,O];rfl);injection W with e1 e2 e3
  subst e1 e3;have cu:=h0 n (DG O)
  have cO:=OD h0 i;have U:=OD h0 (i+1)
  rw [Y0 O]at U;refine AC<|Zx<|Zq<|AP<|A0<|BX (BS Cd A5 Y Y A1)<|Zl AE Y (hv:=by exact I) ?_;refine A3 Y<|Zq<|A0<|Zm Y<|Zv (Dq Y Y)<|Zm Y<|Ao (t:=35) Y V (fun g5=>by omega)<|fun g5=>Zf Y Y<|Zf Y Y<|Yg (Ep Y Y)<|Zv (AL Y Y)<|A4<|Av Y (fun g6=>by omega)<|fun g6=>AC<|Zx<|Zg<|Zm Y<|Zm Y ?_
  (refine BX (GG Y Y (IntWalk.i64_in _ ?_)) ?_;(focus (omega)))
  refine AG Y<|Zn [0,1,6,27,28,29] ?_;refine A8<|Zx<|Zg<|Ya (n:=1) Y Y<|Zm Y<|Z0<|Zn [6,29,0,1,27,28] ?_;refine Aa (e':=[(6,_),(29,_)]) (by exact ⟨i+1,rfl,by omega,by rw [Y0 O,Int.sub_sub],rfl⟩)
 refine Ay<|Zt<|Zt<|AR<|Zx<|Zb [0,1] ?_;refine D7 (e0:=[(0,_),(1,_)]) (H0:=[]) (fun e H=>∃(r mb g:Nat) (gc:Option Addr) (cc:Nat),(True)/\e=[(9,I5 r)]/\H=[[(r,.cells #[.string ⟨#[]⟩,I4 0,I4 0,.pointer none,.pointer none,I4 cap,.slice gc sh.length cc,I6 g sh.length sh.length,.map (some mb),I4 cap] 182 (0,0))],[(mb,.map #[] 0)],[(g,.cells (List.replicate sh.length (Value.int .i64 0)).toArray 3 (0,0))]]) Wp ?hx_3 ?hy_3
 case hx_3=>
  refine Az (n:=11) (0::0::2::0::8::24::0::0::255::511::1023::[]) 612 A6 A6 V<|A2 0 V (AQ Y)<|A2 1 V (AQ Y)<|A2 3 V (AQ Y)<|A2 4 V (Ab Cd Y)<|A2 7 V (AQ Y)<|Zz (l:=[2,5,6])<|B1 [] [] V rfl (Zw [_] Y call88 Y V (GJ G A1)) ?_ Bv ?_
  ·
   rintro _ _ ⟨_,⟨gc,cc,sc,rfl,B,rfl⟩,rfl⟩;refine B5<|Zz (l:=[5,6])<|B1 [] [] V rfl (GZ (by_:=8) Cd (V:Tryz.prog.info? 3=some Tryz.t3) V rfl V rfl Y Y ?_ ?_ ?_) ?hk_5 (fun _ _ h=>h.elim) ?hl_5
   (focus (omega))
   (focus (omega))
   (focus (omega))
   case hk_5=>
    rintro _ _ ⟨g,rfl,rfl⟩;refine B5<|Yw 6 255 V (DR)<|AD fun mb=>A2 8 V (BK (vs:=[(1,I4 cap),(2,.slice gc sh.length cc),(3,I6 g sh.length sh.length),(4,.map (some mb)),(5,I4 cap)]) (cs:=#[.string ⟨#[]⟩,I4 0,I4 0,.pointer none,.pointer none,I4 cap,.slice gc sh.length cc,I6 g sh.length sh.length,.map (some mb),I4 cap]) Y (AY (pl:=#[(0,5),(5,1),(6,1),(7,1),(8,1),(9,1)]) eh HK (fun _=>by kernel_rfl) A6))<|Yw 9 1023 V (Eo Y (cs:=#[.string ⟨#[]⟩,I4 0,I4 0,.pointer none,.pointer none,I4 cap,.slice gc sh.length cc,I6 g sh.length sh.length,.map (some mb),I4 cap]) A6)<|AD fun r=>A2 10 V (Aw Y)<|Ai<|Zn [9] ?_;refine BL (e':=[(9,_)]) (by exact ⟨r,mb,g,gc,cc,trivial,V,V⟩)
   refine B1 [] [] V rfl (DR) ?_ (fun _ _ h=>h.elim) Ag;rintro _ _ ⟨mb,rfl,rfl⟩;refine B5<|Zz (l:=[5])<|B1 [] [] V rfl (GZ (by_:=8) Cd (V:Tryz.prog.info? 3=some Tryz.t3) V rfl V rfl Y Y ?_ ?_ ?_) ?hk_10 (fun _ _ h=>h.elim) ?hl_10
   (focus (omega))
   (focus (omega))
   (focus (omega))
   case hk_10=>
    rintro _ _ ⟨g,rfl,rfl⟩;refine B5<|A2 8 V (BK (vs:=[(1,I4 cap),(2,.slice gc sh.length cc),(3,I6 g sh.length sh.length),(4,.map (some mb)),(5,I4 cap)]) (cs:=#[.string ⟨#[]⟩,I4 0,I4 0,.pointer none,.pointer none,I4 cap,.slice gc sh.length cc,I6 g sh.length sh.length,.map (some mb),I4 cap]) Y (AY (pl:=#[(0,5),(5,1),(6,1),(7,1),(8,1),(9,1)]) eh HK (fun _=>by kernel_rfl) A6))<|Yw 9 1023 V (Eo Y (cs:=#[.string ⟨#[]⟩,I4 0,I4 0,.pointer none,.pointer none,I4 cap,.slice gc sh.length cc,I6 g sh.length sh.length,.map (some mb),I4 cap]) A6)<|AD fun r=>A2 10 V (Aw Y)<|Ai<|Zn [9] ?_;refine BL (e':=[(9,_)]) (by exact ⟨r,mb,g,gc,cc,trivial,V,V⟩)
   exact Ag
  refine B1 [] [] V rfl (GZ (by_:=8) Cd (V:Tryz.prog.info? 3=some Tryz.t3) V rfl V rfl Y Y ?_ ?_ ?_) ?hk_13 (fun _ _ h=>h.elim) ?hl_13
  (focus (omega))
  (focus (omega))
  (focus (omega))
  case hk_13=>
   rintro _ _ ⟨g,rfl,rfl⟩;refine B5<|Zz (l:=[2,6])<|B1 [] [] V rfl (Zw [_] Y call88 Y V (GJ G A1)) ?_ Bv ?_
   ·
    rintro _ _ ⟨_,⟨gc,cc,sc,rfl,B,rfl⟩,rfl⟩;refine B5<|Yw 6 255 V (DR)<|AD fun mb=>A2 8 V (BK (vs:=[(1,I4 cap),(2,.slice gc sh.length cc),(3,I6 g sh.length sh.length),(4,.map (some mb)),(5,I4 cap)]) (cs:=#[.string ⟨#[]⟩,I4 0,I4 0,.pointer none,.pointer none,I4 cap,.slice gc sh.length cc,I6 g sh.length sh.length,.map (some mb),I4 cap]) Y (AY (pl:=#[(0,5),(5,1),(6,1),(7,1),(8,1),(9,1)]) eh HK (fun _=>by kernel_rfl) A6))<|Yw 9 1023 V (Eo Y (cs:=#[.string ⟨#[]⟩,I4 0,I4 0,.pointer none,.pointer none,I4 cap,.slice gc sh.length cc,I6 g sh.length sh.length,.map (some mb),I4 cap]) A6)<|AD fun r=>A2 10 V (Aw Y)<|Ai<|Zn [9] ?_;refine BL (e':=[(9,_)]) (by exact ⟨r,mb,g,gc,cc,trivial,V,V⟩)
   refine B1 [] [] V rfl (DR) ?_ (fun _ _ h=>h.elim) Ag;rintro _ _ ⟨mb,rfl,rfl⟩;refine B5<|Zz (l:=[2])<|B1 [] [] V rfl (Zw [_] Y call88 Y V (GJ G A1)) ?_ Bv Ag;rintro _ _ ⟨_,⟨gc,cc,sc,rfl,B,rfl⟩,rfl⟩;refine B5<|A2 8 V (BK (vs:=[(1,I4 cap),(2,.slice gc sh.length cc),(3,I6 g sh.length sh.length),(4,.map (some mb)),(5,I4 cap)]) (cs:=#[.string ⟨#[]⟩,I4 0,I4 0,.pointer none,.pointer none,I4 cap,.slice gc sh.length cc,I6 g sh.length sh.length,.map (some mb),I4 cap]) Y (AY (pl:=#[(0,5),(5,1),(6,1),(7,1),(8,1),(9,1)]) eh HK (fun _=>by kernel_rfl) A6))<|Yw 9 1023 V (Eo Y (cs:=#[.string ⟨#[]⟩,I4 0,I4 0,.pointer none,.pointer none,I4 cap,.slice gc sh.length cc,I6 g sh.length sh.length,.map (some mb),I4 cap]) A6)<|AD fun r=>A2 10 V (Aw Y)<|Ai<|Zn [9] ?_;refine BL (e':=[(9,_)]) (by exact ⟨r,mb,g,gc,cc,trivial,V,V⟩)
  refine B1 [] [] V rfl (DR) ?_ (fun _ _ h=>h.elim) Ag;rintro _ _ ⟨mb,rfl,rfl⟩;refine B5<|Zz (l:=[2,5])<|B1 [] [] V rfl (Zw [_] Y call88 Y V (GJ G A1)) ?_ Bv ?_
  ·
   rintro _ _ ⟨_,⟨gc,cc,sc,rfl,B,rfl⟩,rfl⟩;refine B5<|Zz (l:=[5])<|B1 [] [] V rfl (GZ (by_:=8) Cd (V:Tryz.prog.info? 3=some Tryz.t3) V rfl V rfl Y Y ?_ ?_ ?_) ?hk_24 (fun _ _ h=>h.elim) ?hl_24
   (focus (omega))
   (focus (omega))
   (focus (omega))
   case hk_24=>
    rintro _ _ ⟨g,rfl,rfl⟩;refine B5<|A2 8 V (BK (vs:=[(1,I4 cap),(2,.slice gc sh.length cc),(3,I6 g sh.length sh.length),(4,.map (some mb)),(5,I4 cap)]) (cs:=#[.string ⟨#[]⟩,I4 0,I4 0,.pointer none,.pointer none,I4 cap,.slice gc sh.length cc,I6 g sh.length sh.length,.map (some mb),I4 cap]) Y (AY (pl:=#[(0,5),(5,1),(6,1),(7,1),(8,1),(9,1)]) eh HK (fun _=>by kernel_rfl) A6))<|Yw 9 1023 V (Eo Y (cs:=#[.string ⟨#[]⟩,I4 0,I4 0,.pointer none,.pointer none,I4 cap,.slice gc sh.length cc,I6 g sh.length sh.length,.map (some mb),I4 cap]) A6)<|AD fun r=>A2 10 V (Aw Y)<|Ai<|Zn [9] ?_;refine BL (e':=[(9,_)]) (by exact ⟨r,mb,g,gc,cc,trivial,V,V⟩)
   exact Ag
  refine B1 [] [] V rfl (GZ (by_:=8) Cd (V:Tryz.prog.info? 3=some Tryz.t3) V rfl V rfl Y Y ?_ ?_ ?_) ?hk_27 (fun _ _ h=>h.elim) ?hl_27
  (focus (omega))
  (focus (omega))
  (focus (omega))
  case hk_27=>
   rintro _ _ ⟨g,rfl,rfl⟩;refine B5<|Zz (l:=[2])<|B1 [] [] V rfl (Zw [_] Y call88 Y V (GJ G A1)) ?_ Bv Ag;rintro _ _ ⟨_,⟨gc,cc,sc,rfl,B,rfl⟩,rfl⟩;refine B5<|A2 8 V (BK (vs:=[(1,I4 cap),(2,.slice gc sh.length cc),(3,I6 g sh.length sh.length),(4,.map (some mb)),(5,I4 cap)]) (cs:=#[.string ⟨#[]⟩,I4 0,I4 0,.pointer none,.pointer none,I4 cap,.slice gc sh.length cc,I6 g sh.length sh.length,.map (some mb),I4 cap]) Y (AY (pl:=#[(0,5),(5,1),(6,1),(7,1),(8,1),(9,1)]) eh HK (fun _=>by kernel_rfl) A6))<|Yw 9 1023 V (Eo Y (cs:=#[.string ⟨#[]⟩,I4 0,I4 0,.pointer none,.pointer none,I4 cap,.slice gc sh.length cc,I6 g sh.length sh.length,.map (some mb),I4 cap]) A6)<|AD fun r=>A2 10 V (Aw Y)<|Ai<|Zn [9] ?_;refine BL (e':=[(9,_)]) (by exact ⟨r,mb,g,gc,cc,trivial,V,V⟩)
  exact Ag
 rintro _ _ ⟨r,mb,g,gc,cc,_,rfl,rfl⟩;refine A0<|Zm Y<|Zp Y V<|Zh 0 HK V rfl sizeOf180 Y<|Zc [_] Y call89 Y V (gM r 182 (0,0) _ _ _ _ _ _ _ _ _ _) ?_;rintro _ _ ⟨_,⟨rfl,rfl⟩,rfl⟩;refine A4<|A0<|Zm Y<|Za Y<|A3 Y<|AJ<|Cu V results42 Y Y (by exact ⟨⟨r,[],fun _=>pV r,fun _=>pV r,cap,.slice gc sh.length cc,I6 g sh.length sh.length,.map (some mb),cap⟩,mb,_,V,V,dM r cap hc gc sh.length cc mb g A1,V⟩)
variable{k:Nat}{K:ByteArray}
theorem vZ{L:List Bt}(B:Di z ns L mb es ck lm su)(hd:z.bl.Nodup)(hk:k<ns){sz:Int}(l8:1<=sz)(l9:sz<=z.fr)(hK:∀e∈L,e.key≠K):Ba prog 45 #[.pointer (some ⟨z.r,0,none⟩),I4 (k:Int),.string K,I4 sz] [z.S,[(mb,.map es ck)],su] (fun v H'=>v= .tuple #[.slice none 0 0,.bool true]/\∃z' Z X p8 gq b,z'.r=z.r/\z'.cap=z.cap/\Di z' ns (L++[⟨b,K,(k:Int),sz⟩]) mb Z X p8 gq/\H'=[z'.S,[(mb,.map Z X)],gq]):=by
 obtain ⟨sha,q9,o8⟩:=B.sh;have hg:=B.none hK
 refine DK func45 V ntmps45 V ?_;intro u R;refine Zb [0,1,2,3] ?_;refine A0<|Ze (Bx #[_])<|AD fun bp=>Za Y<|A3 Y<|U4 ?_;refine Zq<|A0<|Zl IF Y ?_;refine Zv (Be lO Y Y)<|Zm Y<|Af (t:=20) Y V (fun gd=>by cases gd)<|fun gd=>Zf Y Y<|Yg (Au (n:=0) Y Y)<|Zv (AL Y Y)<|Zm Y<|Ao (t:=24) Y V (fun g2=>by omega)<|fun g2=>Zf Y Y<|Yl IF Y ?_;refine Yg (Ap Y V)<|Yf 6 HK V rfl dc Y<|Lh Y (Gf Wo (z.root)) (BO cG Y (by exact congrArg some o8)) V rfl ?_;refine Yg (Ab Cd Y)<|Yg (Fw Y Y)<|Zv (AL Y Y)<|Zm Y<|Ao (t:=33) Y V (fun g3=>by omega)<|fun g3=>Zf Y Y<|Yg (Dq Y Y)<|Zv (AL Y Y)<|Z0<|Zn [1,2,3,4,36] ?_;refine Zx<|Av Y (fun g4=>by omega)<|fun g4=>AC<|Zx<|A0<|A3 Y<|Zb [10,1,2,3,4] ?_;refine D7 (e0:=[(10,_)]) (H0:=[z.S,[(mb,.map es ck)],su]) (fun e H=>∃(z1:Bj) (J:Array MapEntry) (I:Nat) (gm:List (ByteArray×Value)) (W:List A9) (tv:Value),(((z1.r=z.r/\z1.cap=z.cap)/\sz<=z1.fr/\∀x∈L,x.key≠K)/\Di z1 ns (L) mb J I gm W)/\e=[(10,tv)]/\H=[z1.S,[(mb,.map J I)],W]) Wp ?hx_1 ?hy_1
 case hx_1=>
  refine A0<|Zl IF Y ?_;refine Zp Y V<|Zh 8 HK V rfl fR Y<|CO (Gf Wo (z.root)) (BO isAgg175 Y (by exact congrArg some B.mv)) V rfl ?_;refine Zm Y<|Zo Wh (Dy (Dn GO (D:=fun _=>True)) eS lz B.map (fun _ _=>trivial) (trivial) (⟨by rw [hg];first|done|rfl,by rw [hg];first|done|rfl⟩) Y Y) ?_;refine Zm Y<|Zd Y V<|Zd Y V<|Za Y<|A3 Y<|A0<|Zm Y<|A4<|AV Y (fun g7=>by cases g7)<|fun g7=>AC<|Zn [10,1,2,3,4] ?_;refine BL (e':=[(10,_)]) (by exact ⟨z,es,ck,lm,su,_,⟨⟨⟨V,V⟩,l9,hK⟩,B⟩,V,V⟩)
 rintro _ _ ⟨z1,J,I,gm,W,tv,⟨⟨⟨l5,cu⟩,ek,U⟩,g⟩,rfl,rfl⟩;rw [<-l5,<-cu];have pz:=g.use (k:Int)
 have pq:z1.fr<=1000000:=by have h1:=g.free;have h2:=g.cap;have h3:=NM g.sz 0;omega
 refine GM (s:=z1.S) Wo (fun cO=>?_);rw [Bj.keys]at cO;refine A0<|A3 Y<|Zq<|U6<|Zx<|Zq<|AP<|Zb [10,13,1,2,3,4] ?_;refine BB (e0:=[(10,_),(13,_)]) (fun m e H=>m=0/\(True)/\e=[(10,tv),(13,.slice none 0 0)]/\H=[]) (by exact ⟨V,trivial,V,V⟩) Wp ?_;rintro _ _ _ ⟨rfl,_,rfl,rfl⟩;refine Zq<|A0<|Zl IF Y ?_;refine Zp Y V<|Zh 9 HK V rfl A5 Y<|CO (Gf Wo (z1.root)) (BO AE Y AM) V rfl ?_;refine Zm Y<|Zv (Dq Y Y)<|A4<|Av Y (fun g5=>by omega)<|fun g5=>Ay<|Zt<|Zt<|AR<|Zx<|Zq<|A0<|Zl IF Y ?_;refine Zp Y V<|Zh 9 HK V rfl A5 Y<|CO (Gf Wo (z1.root)) (BO AE Y AM) V rfl ?_;refine Zm Y<|Zv (Dq Y Y)<|A4<|Av Y (fun g6=>by omega)<|fun g6=>AC<|Zx<|A0<|Zm Y<|Zm Y<|Zm Y<|Zv (BK (vs:=[(0,_),(1,_),(2,_)]) (cs:=#[_,_,_,_,_]) Y (AY (pl:=#[(0,1),(1,1),(2,1),(3,1),(4,1)]) zeroValue178 JT (fun _=>by kernel_rfl) V))<|Ze (Eo Y (cs:=#[.string K,I4 (k:Int),I4 sz,.pointer none,.pointer none]) A6)<|AD fun bn=>AG Y<|Zn [2,4,13,17] ?_;refine Zx<|Zq<|uO (b:=bn) (s:=z1.S) Wo Wo (fun ax=>?_);refine CK (s1:=z1.S) (s2:=[(bn,_)]) Wo Wo ?_;rw [show z1.S++[(bn,Obj.cells #[.string K,I4 (k:Int),I4 sz,.pointer none,.pointer none] 178 (0,0))]=(z1.more (⟨bn,K,(k:Int),sz⟩:Bt)).S from Bj.more_S z1 (⟨bn,K,(k:Int),sz⟩:Bt) ax];refine GM (s:=(z1.more (⟨bn,K,(k:Int),sz⟩:Bt)).S) Wo (fun O=>?_);rw [Bj.keys]at O;obtain ⟨p2,j5,af,d9,G⟩:=YR g cO (⟨bn,K,(k:Int),sz⟩:Bt) ax;refine Zg<|Zm Y<|Zl IF Y ?_;refine Zp Y V<|Zh 0 HK V rfl sizeOf180 Y<|Zh 0 eR V rfl fN Y<|Zc [_,_] Y call96 Y V (Qj (z1.more (⟨bn,K,(k:Int),sz⟩:Bt)) O d9 j5 af) ?_;rintro _ _ ⟨_,⟨rfl,rfl⟩,rfl⟩;refine A4<|A0<|Zl IF Y ?_
 refine Zp Y V<|Zh 8 HK V rfl fR Y<|CO (Gf Wo ((Bj.root ({(z1.more (⟨bn,K,(k:Int),sz⟩:Bt))with nx:=DW (DW (z1.more (⟨bn,K,(k:Int),sz⟩:Bt)).nx (⟨bn,K,(k:Int),sz⟩:Bt).b (pV (z1.more (⟨bn,K,(k:Int),sz⟩:Bt)).r)) p2 (pV (⟨bn,K,(k:Int),sz⟩:Bt).b),bf:=DW (DW (z1.more (⟨bn,K,(k:Int),sz⟩:Bt)).bf (⟨bn,K,(k:Int),sz⟩:Bt).b (pV p2)) (z1.more (⟨bn,K,(k:Int),sz⟩:Bt)).r (pV (⟨bn,K,(k:Int),sz⟩:Bt).b)}:Bj)))) (BO isAgg175 Y (by exact congrArg some g.mv)) V rfl ?_;refine Zm Y<|Zm Y<|Ze (F9 (Dn GO (D:=fun _=>True)) eS g.map (fun _ _=>trivial) (trivial) Y Y Y Wo) ?_;rintro _ _ ⟨rfl,ic,gy,p9,j3,kv,rfl⟩;refine Z0<|Zn [4,13,17] ?_;refine Zx<|A0<|Zl IF Y ?_;refine Zm Y<|Zc [_,_,_] Y call97 Y rfl (Ns ({(z1.more (⟨bn,K,(k:Int),sz⟩:Bt))with nx:=DW (DW (z1.more (⟨bn,K,(k:Int),sz⟩:Bt)).nx (⟨bn,K,(k:Int),sz⟩:Bt).b (pV (z1.more (⟨bn,K,(k:Int),sz⟩:Bt)).r)) p2 (pV (⟨bn,K,(k:Int),sz⟩:Bt).b),bf:=DW (DW (z1.more (⟨bn,K,(k:Int),sz⟩:Bt)).bf (⟨bn,K,(k:Int),sz⟩:Bt).b (pV p2)) (z1.more (⟨bn,K,(k:Int),sz⟩:Bt)).r (pV (⟨bn,K,(k:Int),sz⟩:Bt).b)}:Bj) O (e:=(⟨bn,K,(k:Int),sz⟩:Bt)) d9 (.inl rfl) g.used (k:=k) rfl (x:=FU (L) (k:Int)) (by rw [DH,Wr hk];rfl) A1 (by show 0<=sz/\sz<=_;omega) (by show _<=z1.fr/\z1.fr<=_;omega)) ?_;rintro _ _ ⟨_,⟨rfl,pg,o9,rfl⟩,rfl⟩;refine A4<|A0<|Zm Y<|Za Y<|A3 Y<|AJ<|Kb ?_;refine Ol V (pF results45 Y Y) (by exact ⟨V,({({(z1.more (⟨bn,K,(k:Int),sz⟩:Bt))with nx:=DW (DW (z1.more (⟨bn,K,(k:Int),sz⟩:Bt)).nx (⟨bn,K,(k:Int),sz⟩:Bt).b (pV (z1.more (⟨bn,K,(k:Int),sz⟩:Bt)).r)) p2 (pV (⟨bn,K,(k:Int),sz⟩:Bt).b),bf:=DW (DW (z1.more (⟨bn,K,(k:Int),sz⟩:Bt)).bf (⟨bn,K,(k:Int),sz⟩:Bt).b (pV p2)) (z1.more (⟨bn,K,(k:Int),sz⟩:Bt)).r (pV (⟨bn,K,(k:Int),sz⟩:Bt).b)}:Bj)with fr:=z1.fr -1*sz}:Bj),ic,gy,p9,pg,bn,V,V,SY g G U j3 kv V hk ⟨l8,ek⟩ o9,V⟩)
theorem vY{L1 L2:List Bt}{y:Bt}(B:Di z ns (L1++y::L2) mb es ck lm su)(hd:z.bl.Nodup)(hk:k<ns){sz:Int}(pg:1<=sz)(qx:sz<=z.fr+y.sz):Ba prog 45 #[.pointer (some ⟨z.r,0,none⟩),I4 (k:Int),.string y.key,I4 sz] [z.S,[(mb,.map es ck)],su] (fun v H'=>v= .tuple #[.slice none 0 0,.bool true]/\∃z' cu ax q9 j3 b,z'.r=z.r/\z'.cap=z.cap/\Di z' ns (L1++L2++[⟨b,y.key,(k:Int),sz⟩]) mb cu ax q9 j3/\H'=[z'.S,[(mb,.map cu ax)],j3]):=by
 obtain ⟨sha,r9,pq⟩:=B.sh;have hg:=B.get (e:=y) B0
 have l9:∀x∈L1++L2,x.key≠y.key:=fun x hx=>by
  have af:=B.keys;rw [BW,DO,Ge,HW]at af;rcases B9.1 hx with hx|hx
  · exact af.2.2 _ (DM hx) _ (Dd ..)
  · exact fun hh=>af.2.1.1 (hh▸DM hx)
 refine DK func45 V ntmps45 V ?_;intro u R;refine Zb [0,1,2,3] ?_;refine A0<|Ze (Bx #[_])<|AD fun bp=>Za Y<|A3 Y<|U4 ?_;refine Zq<|A0<|Zl IF Y ?_;refine Zv (Be lO Y Y)<|Zm Y<|Af (t:=20) Y V (fun gd=>by cases gd)<|fun gd=>Zf Y Y<|Yg (Au (n:=0) Y Y)<|Zv (AL Y Y)<|Zm Y<|Ao (t:=24) Y V (fun g2=>by omega)<|fun g2=>Zf Y Y<|Yl IF Y ?_;refine Yg (Ap Y V)<|Yf 6 HK V rfl dc Y<|Lh Y (Gf Wo (z.root)) (BO cG Y (by exact congrArg some pq)) V rfl ?_;refine Yg (Ab Cd Y)<|Yg (Fw Y Y)<|Zv (AL Y Y)<|Zm Y<|Ao (t:=33) Y V (fun g3=>by omega)<|fun g3=>Zf Y Y<|Yg (Dq Y Y)<|Zv (AL Y Y)<|Z0<|Zn [1,2,3,4,36] ?_;refine Zx<|Av Y (fun g4=>by omega)<|fun g4=>AC<|Zx<|A0<|A3 Y<|Zb [10,1,2,3,4] ?_;refine D7 (e0:=[(10,_)]) (H0:=[z.S,[(mb,.map es ck)],su]) (fun e H=>∃(z1:Bj) (I:Array MapEntry) (G:Nat) (U:List (ByteArray×Value)) (J:List A9) (tv:Value),(((z1.r=z.r/\z1.cap=z.cap)/\sz<=z1.fr/\∀x∈L1++L2,x.key≠y.key)/\Di z1 ns (L1++L2) mb I G U J)/\e=[(10,tv)]/\H=[z1.S,[(mb,.map I G)],J]) Wp ?hx_1 ?hy_1
 case hx_1=>
  refine A0<|Zl IF Y ?_;refine Zp Y V<|Zh 8 HK V rfl fR Y<|CO (Gf Wo (z.root)) (BO isAgg175 Y (by exact congrArg some B.mv)) V rfl ?_;refine Zm Y<|Zo Wh (Dy (Dn GO (D:=fun _=>True)) eS lz B.map (fun _ _=>trivial) (trivial) (⟨by rw [hg];first|done|rfl,by rw [hg];first|done|rfl⟩) Y Y) ?_;refine Zm Y<|Zd Y V<|Zd Y V<|Za Y<|A3 Y<|A0<|Zm Y<|A4<|AV Y (fun g7=>?_) (fun g7=>?_)
  ·
   refine A0<|Zl IF Y ?_;refine Zm Y<|Zc [_,_] Y call92 Y V (Uo B hd) ?_;rintro _ _ ⟨_,⟨rfl,z9,I,G,U,J,p9,l5,qw,W,rfl⟩,rfl⟩;refine Z0<|Zn [1,2,3,4,10,11] ?_;refine Zx<|BV<|Zg<|Zm Y<|Zm Y<|Ze (Ah (vs:=[_]) (cs:=[_]) underlying191 Hb lz Y V rfl V rfl V)<|AD fun b2=>Ze (EQ (by_:=8) (news:=[_]) underlying191 (V:Tryz.prog.info? 176=some Tryz.t176) V rfl V rfl Y (Fu 176) Y Wo Wh AM V Fm AN AN AN) ?_;rintro _ _ ⟨sj,ic,rfl⟩;obtain ⟨qo,ql,rfl⟩:=ic.form;refine AG Y<|Zn [10,1,2,3,4] ?_;refine BL (e':=[(10,_)]) (by exact ⟨z9,I,G,U,J,_,⟨⟨⟨p9,l5⟩,by have h1:=B.free;have h2:=W.free;rw [LH]at h1 h2;rw [Jq]at h1;omega,fun x hx=>l9 x hx⟩,W⟩,rfl,rfl⟩)
  cases g7
 rintro _ _ ⟨z1,I,G,U,J,tv,⟨⟨⟨p8,ek⟩,gy,Z⟩,g⟩,rfl,rfl⟩;rw [<-p8,<-ek];have qz:=g.use (k:Int)
 have qj:z1.fr<=1000000:=by have h1:=g.free;have h2:=g.cap;have h3:=NM g.sz 0;omega
 refine GM (s:=z1.S) Wo (fun gm=>?_);rw [Bj.keys]at gm;refine A0<|A3 Y<|Zq<|U6<|Zx<|Zq<|AP<|Zb [10,13,1,2,3,4] ?_;refine BB (e0:=[(10,_),(13,_)]) (fun m e H=>m=0/\(True)/\e=[(10,tv),(13,.slice none 0 0)]/\H=[]) (by exact ⟨V,trivial,V,V⟩) Wp ?_;rintro _ _ _ ⟨rfl,_,rfl,rfl⟩;refine Zq<|A0<|Zl IF Y ?_;refine Zp Y V<|Zh 9 HK V rfl A5 Y<|CO (Gf Wo (z1.root)) (BO AE Y AM) V rfl ?_;refine Zm Y<|Zv (Dq Y Y)<|A4<|Av Y (fun g5=>by omega)<|fun g5=>Ay<|Zt<|Zt<|AR<|Zx<|Zq<|A0<|Zl IF Y ?_;refine Zp Y V<|Zh 9 HK V rfl A5 Y<|CO (Gf Wo (z1.root)) (BO AE Y AM) V rfl ?_;refine Zm Y<|Zv (Dq Y Y)<|A4<|Av Y (fun g6=>by omega)<|fun g6=>AC<|Zx<|A0<|Zm Y<|Zm Y<|Zm Y<|Zv (BK (vs:=[(0,_),(1,_),(2,_)]) (cs:=#[_,_,_,_,_]) Y (AY (pl:=#[(0,1),(1,1),(2,1),(3,1),(4,1)]) zeroValue178 JT (fun _=>by kernel_rfl) V))<|Ze (Eo Y (cs:=#[.string y.key,I4 (k:Int),I4 sz,.pointer none,.pointer none]) A6)<|AD fun bn=>AG Y<|Zn [2,4,13,17] ?_;refine Zx<|Zq<|uO (b:=bn) (s:=z1.S) Wo Wo (fun d9=>?_);refine CK (s1:=z1.S) (s2:=[(bn,_)]) Wo Wo ?_;rw [show z1.S++[(bn,Obj.cells #[.string y.key,I4 (k:Int),I4 sz,.pointer none,.pointer none] 178 (0,0))]=(z1.more (⟨bn,y.key,(k:Int),sz⟩:Bt)).S from Bj.more_S z1 (⟨bn,y.key,(k:Int),sz⟩:Bt) d9];refine GM (s:=(z1.more (⟨bn,y.key,(k:Int),sz⟩:Bt)).S) Wo (fun X=>?_);rw [Bj.keys]at X;obtain ⟨p2,o8,cO,gq,O⟩:=YR g gm (⟨bn,y.key,(k:Int),sz⟩:Bt) d9;refine Zg<|Zm Y<|Zl IF Y ?_;refine Zp Y V<|Zh 0 HK V rfl sizeOf180 Y<|Zh 0 eR V rfl fN Y<|Zc [_,_] Y call96 Y V (Qj (z1.more (⟨bn,y.key,(k:Int),sz⟩:Bt)) X gq o8 cO) ?_;rintro _ _ ⟨_,⟨rfl,rfl⟩,rfl⟩;refine A4<|A0<|Zl IF Y ?_
 refine Zp Y V<|Zh 8 HK V rfl fR Y<|CO (Gf Wo ((Bj.root ({(z1.more (⟨bn,y.key,(k:Int),sz⟩:Bt))with nx:=DW (DW (z1.more (⟨bn,y.key,(k:Int),sz⟩:Bt)).nx (⟨bn,y.key,(k:Int),sz⟩:Bt).b (pV (z1.more (⟨bn,y.key,(k:Int),sz⟩:Bt)).r)) p2 (pV (⟨bn,y.key,(k:Int),sz⟩:Bt).b),bf:=DW (DW (z1.more (⟨bn,y.key,(k:Int),sz⟩:Bt)).bf (⟨bn,y.key,(k:Int),sz⟩:Bt).b (pV p2)) (z1.more (⟨bn,y.key,(k:Int),sz⟩:Bt)).r (pV (⟨bn,y.key,(k:Int),sz⟩:Bt).b)}:Bj)))) (BO isAgg175 Y (by exact congrArg some g.mv)) V rfl ?_;refine Zm Y<|Zm Y<|Ze (F9 (Dn GO (D:=fun _=>True)) eS g.map (fun _ _=>trivial) (trivial) Y Y Y Wo) ?_;rintro _ _ ⟨rfl,kv,j5,qa,l8,o9,rfl⟩;refine Z0<|Zn [4,13,17] ?_;refine Zx<|A0<|Zl IF Y ?_;refine Zm Y<|Zc [_,_,_] Y call97 Y rfl (Ns ({(z1.more (⟨bn,y.key,(k:Int),sz⟩:Bt))with nx:=DW (DW (z1.more (⟨bn,y.key,(k:Int),sz⟩:Bt)).nx (⟨bn,y.key,(k:Int),sz⟩:Bt).b (pV (z1.more (⟨bn,y.key,(k:Int),sz⟩:Bt)).r)) p2 (pV (⟨bn,y.key,(k:Int),sz⟩:Bt).b),bf:=DW (DW (z1.more (⟨bn,y.key,(k:Int),sz⟩:Bt)).bf (⟨bn,y.key,(k:Int),sz⟩:Bt).b (pV p2)) (z1.more (⟨bn,y.key,(k:Int),sz⟩:Bt)).r (pV (⟨bn,y.key,(k:Int),sz⟩:Bt).b)}:Bj) X (e:=(⟨bn,y.key,(k:Int),sz⟩:Bt)) gq (.inl rfl) g.used (k:=k) rfl (x:=FU (L1++L2) (k:Int)) (by rw [DH,Wr hk];rfl) A1 (by show 0<=sz/\sz<=_;omega) (by show _<=z1.fr/\z1.fr<=_;omega)) ?_;rintro _ _ ⟨_,⟨rfl,qb,pz,rfl⟩,rfl⟩;refine A4<|A0<|Zm Y<|Za Y<|A3 Y<|AJ<|Kb ?_;refine Ol V (pF results45 Y Y) (by exact ⟨V,({({(z1.more (⟨bn,y.key,(k:Int),sz⟩:Bt))with nx:=DW (DW (z1.more (⟨bn,y.key,(k:Int),sz⟩:Bt)).nx (⟨bn,y.key,(k:Int),sz⟩:Bt).b (pV (z1.more (⟨bn,y.key,(k:Int),sz⟩:Bt)).r)) p2 (pV (⟨bn,y.key,(k:Int),sz⟩:Bt).b),bf:=DW (DW (z1.more (⟨bn,y.key,(k:Int),sz⟩:Bt)).bf (⟨bn,y.key,(k:Int),sz⟩:Bt).b (pV p2)) (z1.more (⟨bn,y.key,(k:Int),sz⟩:Bt)).r (pV (⟨bn,y.key,(k:Int),sz⟩:Bt).b)}:Bj)with fr:=z1.fr -1*sz}:Bj),kv,j5,qa,qb,bn,V,V,SY g O Z l8 o9 V hk ⟨pg,gy⟩ pz,V⟩)
structure ItM where
 b:Nat
 id:Int
 q:QM
 tn:Int
 base:Int
 rq:Option Addr
 rc:Nat
 L:List RP
 res:CF
 wq:Option Addr
 wc:Nat
 since:Int
abbrev ItM.A19(c:ItM):Array Go.Value:=#[I4 c.q.kd,I4 c.q.tb,I4 c.q.cl,I4 c.q.lo,I4 c.q.hi,I4 c.q.bq,I4 c.q.ot,I4 c.tn,I4 c.base,.slice c.rq c.L.length c.rc,I4 c.id,.slice c.wq c.res.rows.length c.wc,I4 c.res.val,.bool c.res.fnd,I4 c.since]
def ItM.key(x:ItM):ByteArray:=str (Cr x.q)
def ItM.iq(x:ItM):Int×QM:=(x.id,x.q)
def ItM.obj(x:ItM):Obj:= .cells x.A19 126 (0,0)
def ItM.ch(x:ItM):A9:=(x.b,x.obj)
def DC(pos base:Int)(win:List BU):List BU:=win.drop (win.length -(pos -base).toNat)
structure ItM.ok(M MR:List A9)(pos:Int)(win:List BU)(x:ItM):Prop where
 q:BI x.q
 base:0<=x.base/\x.base<=10000
 tn:0<=x.tn/\x.tn<=1000000
 rp:Fj M (.slice x.rq x.L.length x.rc) x.L
 rl:x.L.length<=1000000
 fit:∀y∈x.L,y.fits
 rw:E8 MR (.slice x.wq x.res.rows.length x.wc) x.res.rows
 reach:(pos -x.base).toNat<=win.length
 run:∃r0,EX x.q x.L=some r0/\GD x.q x.base 0 (r0,x.base) (DC pos x.base win)=some (x.res,x.since)
variable{pos:Int}{x:ItM}
theorem ItM.ok.mono{M m MR g:List A9}{win:List BU}(h:x.ok M MR pos win)(B:∀c∈M,c∈m)(G:∀c∈MR,c∈g):x.ok m g pos win:=⟨h.q,h.base,h.tn,h.rp.mono B,h.rl,h.fit,h.rw.mono G,h.reach,h.run⟩
structure GQ(its:List ItM)(next:Int)(esQ:Array MapEntry)(ckQ:Nat)(lmQ:List (Int×Value))(lv:Value)(ML:List A9)(esI:Array MapEntry)(ckI:Nat)(lmI:List (ByteArray×Value))(esK:Array MapEntry)(ckK:Nat)(lmK:List (Int×Value))(SI:List A9):Prop where
 idx:Ed (its.map ItM.iq) esQ ckQ lmQ
 ist:WG (its.map ItM.iq) lv ML
 im:Cj (fun k:ByteArray=>Value.string k) esI ckI lmI
 imem:∀p,p∈lmI↔∃x∈its,p=(x.key,pV x.b)
 km:Cj (fun n:Int=>Value.int .i64 n) esK ckK lmK
 kmem:∀p,p∈lmK↔∃x∈its,p=(x.id,.string x.key)
 keys:(its.map ItM.key).Nodup
 ids:∀x∈its,1<=x.id/\x.id<=next
 nx:0<=next/\next<=1000000000
 len:its.length<=500
 q:∀x∈its,BI x.q
 sub:∀x∈its,x.ch∈SI
variable{its:List ItM}{next:Int}{esQ esI esK:Array MapEntry}{ckQ ckI ckK:Nat}{lmQ lmK:List (Int×Value)}{lv:Value}{ML SI:List A9}{lmI:List (ByteArray×Value)}
theorem GQ.get(h:GQ its next esQ ckQ lmQ lv ML esI ckI lmI esK ckK lmK SI)(g:x∈its):EF x.key lmI=some (pV x.b):=Cw h.im.keys ((h.imem _).2 ⟨x,g,rfl⟩)
theorem GQ.none{its:List ItM}{next:Int}{esQ:Array MapEntry}{ckQ:Nat}{lmQ:List (Int×Value)}{lv:Value}{ML:List A9}{esI:Array MapEntry}{ckI:Nat}{lmI:List (ByteArray×Value)}{esK:Array MapEntry}{ckK:Nat}{lmK:List (Int×Value)}{SI:List A9}(h:GQ its next esQ ckQ lmQ lv ML esI ckI lmI esK ckK lmK SI){K:ByteArray}(g:∀x∈its,x.key≠K):EF K lmI=none:=DV fun p m=>by
 obtain ⟨x,B,rfl⟩:=(h.imem p).1 m;exact g x B
theorem GQ.len_eq(h:GQ its next esQ ckQ lmQ lv ML esI ckI lmI esK ckK lmK SI):(lmI.map (·.1)).Perm (its.map ItM.key):=by
 refine (NX h.im.keys h.keys).2 fun a=>?_;constructor
 · intro g
   obtain ⟨p,B,rfl⟩:=Bk.1 g;obtain ⟨x,m,rfl⟩:=(h.imem p).1 B;exact DM m
 · intro g
   obtain ⟨x,m,rfl⟩:=Bk.1 g;exact Bk.2 ⟨_,(h.imem _).2 ⟨x,m,V⟩,V⟩
theorem XB(B:(its.map ItM.key).Nodup)(hi:((its.map ItM.iq).map (·.1)).Nodup){y:ItM}(g:x∈its)(m:y∈its):y.key≠x.key↔y.id≠x.id:=by
 rw [J0]at hi;constructor
 · intro h e;exact h (by rw [G9 hi g m e.symm])
 · intro h e;exact h (by rw [G9 B g m e.symm])
theorem wh(h:GQ its next esQ ckQ lmQ lv ML esI ckI lmI esK ckK lmK SI)(hx:x∈its)
 {Z:Array MapEntry}{U:Nat}{af:List (Int×Value)}(hq:Ed ((its.map ItM.iq).filter fun y=>y.1≠x.id) Z U af){W:Array MapEntry}{J:Nat}{B:List (ByteArray×Value)}(hm:Cj (fun k:ByteArray=>Value.string k) W J B)(hp:∀p,p∈B↔p∈lmI/\p.1≠x.key)
 {X:Array MapEntry}{O:Nat}{G:List (Int×Value)}(hk:Cj (fun n:Int=>Value.int .i64 n) X O G)(ax:∀p,p∈G↔p∈lmK/\p.1≠x.id):GQ (its.filter fun y=>y.key≠x.key) next Z U af (.pointer none) [] W J B X O G SI:=by
 have m:=h.idx.ids;have e1:(its.filter fun y=>y.key≠x.key).map ItM.iq=(its.map ItM.iq).filter fun y=>y.1≠x.id:=by
  rw [List.filter_map];congr 1;refine fm fun y g=>?_;exact decide_eq_decide.2 (XB h.keys m hx g)
 have I:∀y,y∈(its.filter fun y=>y.key≠x.key)↔y∈its/\y.key≠x.key:=fun y=>by rw [F1];simp
 refine ⟨by rw [e1];exact hq,.inl ⟨rfl,rfl⟩,hm,fun p=>?_,hk,fun p=>?_,h.keys.sublist (SU.map _),fun y g=>h.ids y ((I y).1 g).1,h.nx,N1 (Mu _ _) h.len,fun y g=>h.q y ((I y).1 g).1,fun y g=>h.sub y ((I y).1 g).1⟩
 · rw [hp,h.imem]
   constructor
   · rintro ⟨⟨y,g,rfl⟩,hn⟩;exact ⟨y,(I y).2 ⟨g,hn⟩,rfl⟩
   · rintro ⟨y,g,rfl⟩;exact ⟨⟨y,((I y).1 g).1,rfl⟩,((I y).1 g).2⟩
 · rw [ax,h.kmem]
   constructor
   · rintro ⟨⟨y,g,rfl⟩,hn⟩;exact ⟨y,(I y).2 ⟨g,(XB h.keys m hx g).2 hn⟩,rfl⟩
   · rintro ⟨y,g,rfl⟩;exact ⟨⟨y,((I y).1 g).1,rfl⟩,(XB h.keys m hx ((I y).1 g).1).1 ((I y).1 g).2⟩
theorem wm(h:GQ its next esQ ckQ lmQ lv ML esI ckI lmI esK ckK lmK SI)(hx:∀y∈its,y.key≠x.key)(af:x.id=next+1)(hn:next<1000000000)(hl:its.length<500)(hv:BI x.q)
 {W:Array MapEntry}{J:Nat}{X:List (Int×Value)}(hq:Ed (its.map ItM.iq++[(x.id,x.q)]) W J X){O:Array MapEntry}{G:Nat}{m:List (ByteArray×Value)}(hm:Cj (fun k:ByteArray=>Value.string k) O G m)(hp:∀p,p∈m↔p=(x.key,pV x.b)\/(p∈lmI/\p.1≠x.key))
 {U:Array MapEntry}{I:Nat}{B:List (Int×Value)}(hk:Cj (fun n:Int=>Value.int .i64 n) U I B)(Z:∀p,p∈B↔p=(x.id,.string x.key)\/(p∈lmK/\p.1≠x.id)):GQ (its++[x]) (next+1) W J X (.pointer none) [] O G m U I B (SI++[x.ch]):=by
 have ax:=h.nx;refine ⟨by rw [BW];exact hq,.inl ⟨rfl,rfl⟩,hm,fun p=>?_,hk,fun p=>?_,?_,fun y g=>?_,by omega,by rw [B7];simp;omega,fun y g=>?_,fun y g=>?_⟩
 · rw [hp,h.imem]
   constructor
   · rintro (rfl|⟨⟨y,g,rfl⟩,_⟩)
     · exact ⟨x,by simp,rfl⟩
     · exact ⟨y,DS _ g,rfl⟩
   · rintro ⟨y,g,rfl⟩
     rcases B9.1 g with g|g
     · exact .inr ⟨⟨y,g,rfl⟩,hx y g⟩
     · rw [BT.1 g];exact .inl rfl
 · rw [Z,h.kmem]
   constructor
   · rintro (rfl|⟨⟨y,g,rfl⟩,_⟩)
     · exact ⟨x,by simp,rfl⟩
     · exact ⟨y,DS _ g,rfl⟩
   · rintro ⟨y,g,rfl⟩
     rcases B9.1 g with g|g
     · have:=h.ids y g
       exact .inr ⟨⟨y,g,V⟩,by show y.id≠x.id;omega⟩
     · rw [BT.1 g];exact .inl rfl
 · rw [BW,Ge]
   refine ⟨h.keys,by simp,fun a ha b hb=>?_⟩;obtain ⟨y,g,rfl⟩:=Bk.1 ha;obtain rfl:=BT.1 hb;exact hx y g
 · rcases B9.1 g with g|g
   · have:=h.ids y g;omega
   · rw [BT.1 g];omega
 · rcases B9.1 g with g|g
   · exact h.q y g
   · rw [BT.1 g];exact hv
 · rcases B9.1 g with g|g
   · exact DS _ (h.sub y g)
   · rw [BT.1 g];simp
variable{mq:Nat}
theorem XE{B:Nat}{lm:List (Int×Value)}(G:Ed (its.map ItM.iq) es ck lm)(J:x∈its):Ba prog 98 #[I5 B,I4 x.id] [[(B,.cells #[.map (some mq),lv] 186 (0,0))],[(mq,.map es ck)]]
 (fun r H'=>∃m g I,r= .bool true/\Ed ((its.map ItM.iq).filter fun y=>y.1≠x.id) m g I/\H'=[[(B,.cells #[.map (some mq),.pointer none] 186 (0,0))],[(mq,.map m g)]]):=WJ G (x:=x.iq) (DM J)
variable{l:List BU}
theorem NS{M:List A9}{p:Option Addr}{cap a:Nat}(h:EW M (.slice p l.length cap) l)(X:a<=l.length):EW M (.slice (ET p a cap 2) (l.length -a) (cap -a)) (l.drop a):=by
 obtain ⟨p',G,e,⟨Z,O⟩,J⟩:=h;injection e with e1 e2 e3
 subst e1 e3;refine ⟨_,_,by rw [C3],⟨by rw [C3];omega,by rw [C3];omega⟩,fun i x B=>?_⟩;rw [OR]at B;have hi:=(BE.1 B).1
 obtain ⟨I,g,off,cur,T,zz,rfl,U,W,m⟩:=J (a+i) x B;have hc:ET (some ⟨g,off,none⟩) a cap 2=some ⟨g,off+a*2,none⟩:=by
  unfold ET;rw [AH A1,Mz,CU]
 rw [hc];exact ⟨I,g,_,cur,T,zz,rfl,U,by omega,by rw [show off+a*2+i*2=off+(a+i)*2 by omega];exact m⟩
theorem JE(n:Int):BJ prog 41 #[I4 n] [] (.bool (decide (0<=n/\n<=10000))):=by
 refine Se func41 ntmps41 [0] ?_;intro u R;refine A0<|A3 Y<|A0<|Zm Y<|Zv (H5 Y Y)<|Zm Y<|Ao (t:=5) Y V (fun g=>?_) (fun g=>?_)
 ·
  refine Zf Y Y<|Yg (Le Y Y)<|Zv (AX Y Y)<|A3 Y<|AJ<|AO V results41 Y (by exact ⟨congrArg Value.bool (by simp [g]),V⟩)
 refine A7 Y V<|A7 Y V<|Zv (AL Y Y)<|A3 Y<|AJ<|AO V results41 Y (by exact ⟨congrArg Value.bool (by simp [g]),V⟩)
variable{mk mi ip cp:Nat}
theorem Nz{wq:Option Addr}{wn wc:Nat}(J:0<=pos/\pos<=10000)(base:Int)(I:0<=base/\base<=10000)(O:wn<=wc/\wn<=1000000):BJ prog 59 #[I5 cp,I4 base] [[(cp,.cells #[I4 pos,.slice wq wn wc,I5 r,I5 ip,.map (some mi),.map (some mk),I4 next] 120 (0,0))]] (if(pos -base).toNat<=wn then .tuple #[.slice (ET wq (wn -(pos -base).toNat) wc 2) (pos -base).toNat (wc -(wn -(pos -base).toNat)),.bool true]else .tuple #[.slice none 0 0,.bool false]):=by
 have B:=mL;obtain ⟨n,G⟩:∃n:Nat,n=(pos -base).toNat:=⟨_,rfl⟩;have g:max (pos -base) 0=(n:Int):=by omega
 rw [<-G];refine Se func59 ntmps59 [0,1] ?_;intro u R;refine A0<|Za Y<|A3 Y<|A0<|Zm Y<|Zp Y V<|Zh 0 Ek V rfl A5 Y<|Zl AE Y ?_;refine Zm Y ?_
 (refine BX (GG Y Y (IntWalk.i64_in _ ?_)) ?_;(focus (omega)))
 refine Zv (Q3 Y Y)<|A3 Y<|Zq<|Zq ?_;rw [g];refine Zg<|Zm Y<|Zm Y<|Zp Y V<|Zh 1 Ek V rfl S5 Y<|Zl isAgg25 Y ?_;refine Zv (Ab GB Y)<|Zv (DF Y Y)<|Z0<|Zn [0,6,20] ?_;refine Zx<|Av Y (fun m=>?_) (fun m=>?_)
 ·
  refine A0<|Za Y<|A3 Y<|AJ<|Zt<|Cu rfl results59 Y Y (by exact ⟨by rw [AH A1],rfl⟩)
 refine AC<|Zx<|Zq<|Az (n:=14) (0::1::3::7::0::16::48::112::240::0::1008::2047::4095::8191::[]) 0 A6 A6 V<|A2 0 V (AQ Y)<|A2 1 V (Ap Y V)<|A2 2 V (AB (off:=1) Ek V rfl S5 Y)<|B3 3 V isAgg25 Y ?_;refine A2 4 V (AQ Y)<|A2 5 V (Ap Y V)<|A2 6 V (AB (off:=1) Ek V rfl S5 Y)<|B3 7 V isAgg25 Y ?_;refine A2 8 V (Ab GB Y)<|A2 9 V (AQ Y) ?_
 (refine Dl (D':=2047) 10 (CL Y Y ?_ ?_) ?_;(focus (omega));(focus (omega)))
 refine A2 11 V (C8 GB F2 Y Y A1)<|A2 12 V (Aw Y)<|A2 13 V (Aw Y)<|Ai<|Zn [4,5] ?_;refine Zx<|AJ<|Cu rfl results59 Y Y (by exact ⟨by rw [AK A1,show wn -(wn -n)=n by omega],rfl⟩)
variable{wv:Value}
theorem Vm(h:GQ its next esQ ckQ lmQ lv ML esI ckI lmI esK ckK lmK SI)(hx:x∈its):Ba prog 47 #[I5 cp,.string x.key] [[(cp,.cells #[I4 pos,wv,I5 r,I5 ip,.map (some mi),.map (some mk),I4 next] 120 (0,0))],[(ip,.cells #[.map (some mq),lv] 186 (0,0))],[(mq,.map esQ ckQ)],[(mi,.map esI ckI)],[(mk,.map esK ckK)],SI] (fun v H'=>v= .bool true/\∃J B bn G g af I m ax,GQ (its.filter fun y=>y.key≠x.key) next J B bn (.pointer none) [] G g af I m ax SI/\H'=[[(cp,.cells #[I4 pos,wv,I5 r,I5 ip,.map (some mi),.map (some mk),I4 next] 120 (0,0))],[(ip,.cells #[.map (some mq),.pointer none] 186 (0,0))],[(mq,.map J B)],[(mi,.map G g)],[(mk,.map I m)],SI]):=by
 have hg:=h.get hx;have X:(x.b,Obj.cells x.A19 126 (0,0))∈SI:=h.sub x hx
 have l5:x.iq∈its.map ItM.iq:=DM hx;refine Se func47 ntmps47 [0,1] ?_;intro u R;refine A0<|A3 Y<|A0<|Zm Y<|Zp Y V<|Zh 4 Ek V rfl Q2 Y<|Zl NO Y ?_;refine Zm Y<|Zo Wh (Dy (Dn GO (D:=fun _=>True)) Pc Tr h.im (fun _ _=>trivial) (trivial) (⟨by rw [hg];first|done|rfl,by rw [hg];first|done|rfl⟩) Y Y) ?_;refine Zm Y<|Zd Y V<|Zd Y V<|Za Y<|A3 Y<|Zq<|A0<|Zm Y<|Zv (Br Y)<|Z0<|Zn [0,1,5,17] ?_;refine Zx<|AV Y (fun W=>by cases W)<|fun W=>AC<|Zx<|Zq<|Az (n:=9) (0::1::3::7::0::16::48::112::255::[]) 256 A6 A6 V<|A2 0 V (AQ Y)<|A2 1 V (Ap Y V)<|A2 2 V (AB (off:=3) Ek V rfl sizeOf116 Y)<|B3 3 V isAgg116 Y ?_;refine A2 4 V (AQ Y)<|A2 5 V (Ap Y V)<|A2 6 V (AB (off:=10) HL V rfl A5 Y)<|DI (D':=255) 7 V rfl V (F8 Wo (X)) (BO AE Y AM) ?_;refine Zz (l:=[8])<|B1 [false,false] [] V rfl (Zw [_,_] Y call98 Y V (XE h.idx hx)) ?_ Bv Ag;rintro _ _ ⟨_,⟨U,O,cu,rfl,Z,rfl⟩,rfl⟩;refine B5<|Ai<|Zx<|Zq<|Az (n:=9) (0::1::3::7::0::16::48::112::255::[]) 256 A6 A6 V<|A2 0 V (AQ Y)<|A2 1 V (Ap Y V)<|A2 2 V (AB (off:=5) Ek V rfl sizeOf91 Y)<|B3 3 V isAgg91 Y ?_;refine A2 4 V (AQ Y)<|A2 5 V (Ap Y V)<|A2 6 V (AB (off:=10) HL V rfl A5 Y)<|DI (D':=255) 7 V rfl V (F8 Wo (X)) (BO AE Y AM) ?_;refine Yw 8 511 V (LF (CX Cl (D:=fun _=>True)) cT h.km (fun _ _=>trivial) (trivial) Y Y Wo) ?_;rintro _ _ ⟨rfl,ek,cO,j5,gq,ic,rfl⟩;refine Ai<|Zn [0,1] ?_;refine Zx<|A0<|Zm Y<|Zp Y V<|Zh 4 Ek V rfl Q2 Y<|Zl NO Y ?_;refine Zm Y<|Ze (LF (Dn GO (D:=fun _=>True)) Pc h.im (fun _ _=>trivial) (trivial) Y Y Wo) ?_;rintro _ _ ⟨rfl,gm,d9,kv,gy,j3,rfl⟩;refine A4<|A0<|A3 Y<|AJ<|AO V results47 Y (by exact ⟨V,U,O,cu,gm,d9,kv,ek,cO,j5,wh h hx Z gy j3 gq ic,V⟩)
theorem mK(h:GQ its next esQ ckQ lmQ lv ML esI ckI lmI esK ckK lmK SI)(B:∀y∈its,y.key≠K):BJ prog 47 #[I5 cp,.string K] [[(cp,.cells #[I4 pos,wv,I5 r,I5 ip,.map (some mi),.map (some mk),I4 next] 120 (0,0))],[(mi,.map esI ckI)]] (.bool false):=by
 have m:=h.none B;refine Se func47 ntmps47 [0,1] ?_;intro u R;refine A0<|A3 Y<|A0<|Zm Y<|Zp Y V<|Zh 4 Ek V rfl Q2 Y<|Zl NO Y ?_;refine Zm Y<|Zo Wh (Dy (Dn GO (D:=fun _=>True)) Pc Tr h.im (fun _ _=>trivial) (trivial) (⟨by rw [m];first|done|rfl,by rw [m];first|done|rfl⟩) Y Y) ?_;refine Zm Y<|Zd Y V<|Zd Y V<|Za Y<|A3 Y<|Zq<|A0<|Zm Y<|Zv (Br Y)<|Z0<|Zn [0,1,5,17] ?_;refine Zx<|AV Y (fun g=>?_) (fun g=>?_)
 ·
  refine A0<|A3 Y<|AJ<|Zt<|AO V results47 Y (by exact ⟨V,V⟩)
 cases g
theorem Mw(h:GQ its next esQ ckQ lmQ lv ML esI ckI lmI esK ckK lmK SI)(hx:∀y∈its,y.key≠x.key)(g:x.id=next+1)(hn:next<1000000000)(hl:its.length<500)(hv:BI x.q):Ba prog 48 #[I5 cp,.string x.key,.pointer (some ⟨x.b,0,none⟩)] [[(cp,.cells #[I4 pos,wv,I5 r,I5 ip,.map (some mi),.map (some mk),I4 next] 120 (0,0))],[(ip,.cells #[.map (some mq),lv] 186 (0,0))],[(mq,.map esQ ckQ)],[(mi,.map esI ckI)],[(mk,.map esK ckK)],[(x.b,.cells #[I4 x.q.kd,I4 x.q.tb,I4 x.q.cl,I4 x.q.lo,I4 x.q.hi,I4 x.q.bq,I4 x.q.ot,I4 x.tn,I4 x.base,.slice x.rq x.L.length x.rc,I4 0,.slice x.wq x.res.rows.length x.wc,I4 x.res.val,.bool x.res.fnd,I4 x.since] 126 (0,0))],SI] (fun v H'=>v=undef/\∃O G bn I m af J B ax,GQ (its++[x]) (next+1) O G bn (.pointer none) [] I m af J B ax (SI++[x.ch])/\H'=[[(cp,.cells #[I4 pos,wv,I5 r,I5 ip,.map (some mi),.map (some mk),I4 (next+1)] 120 (0,0))],[(ip,.cells #[.map (some mq),.pointer none] 186 (0,0))],[(mq,.map O G)],[(mi,.map I m)],[(mk,.map J B)],(SI++[x.ch])]):=by
 rw [<-g];have hg:=h.none hx
 have qw:=h.nx;have kv:EF x.id lmK=none:=DV fun p hp=>by
  obtain ⟨y,hy,rfl⟩:=(h.kmem p).1 hp;have:=h.ids y hy
  show y.id≠x.id;omega
 have ic:∀y∈its.map ItM.iq,y.1≠x.id:=fun y hy=>by
  obtain ⟨z,hz,rfl⟩:=Bk.1 hy;have:=h.ids z hz
  show z.id≠x.id;omega
 refine Se func48 ntmps48 [0,1,2] ?_;intro u R;refine A0<|Zm Y<|Zp Y V<|Zh 6 Ek V rfl A5 Y<|Zl AE Y ?_;refine Yi Y Y<|Zp Y V<|Zh 6 Ek V rfl A5 Y<|Xe (Zs A5 Y Y V) ?_;refine A4<|Zq ?_;rw [<-g];refine Zg<|Zm Y<|Zm Y<|Zp Y V<|Zh 6 Ek V rfl A5 Y<|Zl AE Y ?_;refine Zp Y V<|Zh 10 HL V rfl A5 Y<|Xe (Zs A5 Y Y V) ?_;refine Z0<|Zn [0,1,2] ?_;refine Zx<|Zq<|Az (n:=21) (0::1::3::7::0::0::32::96::224::0::512::1536::3584::0::0::8191::40959::114687::245759::507903::1048575::[]) 1474560 A6 A6 V<|A2 0 V (AQ Y)<|A2 1 V (Ap Y V)<|A2 2 V (AB (off:=4) Ek V rfl Q2 Y)<|B3 3 V NO Y ?_;refine A2 4 V (AQ Y)<|A2 5 V (AQ Y)<|A2 6 V (Ap Y V)<|A2 7 V (AB (off:=5) Ek V rfl sizeOf91 Y)<|B3 8 V isAgg91 Y ?_;refine A2 9 V (AQ Y)<|A2 10 V (Ap Y V)<|A2 11 V (AB (off:=10) HL V rfl A5 Y)<|B3 12 V AE Y ?_;refine A2 13 rfl (AQ Y)<|A2 14 rfl (AQ Y)<|Zz (l:=[15])<|B1 [false,false,false] [] rfl rfl (KQ (Dn GO (D:=fun _=>True)) Pc Tr h.im (fun _ _=>trivial) (trivial) (by rw [hg];first|done|rfl) Y Y Wo) ?_ (fun _ _ h=>h.elim) Ag;rintro _ _ ⟨ql,qb,qx,j3,r9,rfl,l9,l5,gq,p9,rfl⟩;refine B5<|A2 16 V (Bw Y V)<|Zz (l:=[17])<|B1 [] [] V rfl (Il l9 l5 gq Y Y Y Wo) ?_ (fun _ _ h=>h.elim) Ag;rintro _ _ ⟨rfl,ek,cO,q9,o8,pg,rfl⟩;refine B5<|Yw 18 524287 rfl (KQ (CX Cl (D:=fun _=>True)) cT HM h.km (fun _ _=>trivial) (trivial) (by rw [kv];first|done|rfl) Y Y Wo) ?_;rintro _ _ ⟨qo,qj,qz,j5,sj,rfl,o9,l8,gy,pq,rfl⟩;refine A2 19 V (Bw Y V)<|Zz (l:=[20])<|B1 [] [] V rfl (Il o9 l8 gy Y Y Y Wo) ?_ (fun _ _ h=>h.elim) Ag;rintro _ _ ⟨rfl,gm,d9,qa,p8,pz,rfl⟩;refine B5<|Ai<|Zn [0,2] ?_;refine Zx<|CK (s1:=SI) (s2:=[x.ch]) Wo Wo ?_;have X:(x.b,Obj.cells x.A19 126 (0,0))∈SI++[x.ch]:=G1 _ (BT.2 rfl)
 refine Az (n:=14) (0::1::3::7::0::16::48::112::0::256::768::1792::3840::8191::[]) 8192 A6 A6 V<|A2 0 V (AQ Y)<|A2 1 V (Ap Y V)<|A2 2 V (AB (off:=3) Ek V rfl sizeOf116 Y)<|B3 3 V isAgg116 Y ?_;refine A2 4 V (AQ Y)<|A2 5 V (Ap Y V)<|A2 6 V (AB (off:=10) HL V rfl A5 Y)<|DI (D':=255) 7 V rfl V (F8 Wo (X)) (BO AE Y AM) ?_;refine A2 8 V (AQ Y)<|A2 9 V (Ap Y V)<|A2 10 V (AB (off:=0) HL V rfl H4 Y)<|A2 11 V (Aq (off:=0) FG V rfl C7 Y)<|DI (D':=8191) 12 V rfl V (F8 Wo (X)) (AA (cs:=x.q.A17) Dg C7 Y Wn (by exact (by apply HI.1;rfl))) ?_;refine Zz (l:=[13])<|B1 [false,false,false] [] rfl rfl (Zw [_,_,_] Y call99 Y rfl (jP h.idx ic hv (by rw [B2];exact hl))) ?_ Bv Ag;rintro _ _ ⟨_,⟨W,U,cu,rfl,Z,rfl⟩,rfl⟩;refine B5<|Ai<|Cv rfl results48 (by exact ⟨rfl,W,U,cu,ek,cO,q9,gm,d9,qa,by rw [g];exact wm h hx g hn hl hv Z o8 (fun p=>by rw [pg,p9];exact OA _ _ _ _) p8 (fun p=>by rw [pz,pq];exact OA _ _ _ _),rfl⟩)
structure CZ where
 cp:Nat
 pos:Int
 wq:Option Addr
 wc:Nat
 win:List BU
 sW:List A9
 z:Bj
 ns:Nat
 PL:List Bt
 mb:Nat
 esP:Array MapEntry
 ckP:Nat
 lmP:List (ByteArray×Value)
 su:List A9
 ip:Nat
 mq:Nat
 mi:Nat
 mkb:Nat
 next:Int
 its:List ItM
 esQ:Array MapEntry
 ckQ:Nat
 lmQ:List (Int×Value)
 lv:Value
 ML:List A9
 esI:Array MapEntry
 ckI:Nat
 lmI:List (ByteArray×Value)
 esK:Array MapEntry
 ckK:Nat
 lmK:List (Int×Value)
 SI:List A9
 M:List A9
 MR:List A9
abbrev CZ.A20(c:CZ):Array Go.Value:=#[I4 c.pos,.slice c.wq c.win.length c.wc,.pointer (some ⟨c.z.r,0,none⟩),.pointer (some ⟨c.ip,0,none⟩),.map (some c.mi),.map (some c.mkb),I4 c.next]
structure CZ.okb(c:CZ):Prop where
 pos:0<=c.pos/\c.pos<=10000
 win:Bc 2 50 (.slice c.wq c.win.length c.wc) c.win.length (Dp c.win) c.sW
 wl:c.win.length<=64
 wp:∀(i:Nat) (r:BU),c.win[i]?=some r->r.p=c.pos -(c.win.length:Int)+1+(i:Int)/\Ck c.M (.slice r.q r.cs.length r.cap) r.cs/\EG r.p r.cs
 pool:Di c.z c.ns c.PL c.mb c.esP c.ckP c.lmP c.su
 pk:∀k,k∈c.PL.map (·.key)↔k∈c.its.map ItM.key
 its:GQ c.its c.next c.esQ c.ckQ c.lmQ c.lv c.ML c.esI c.ckI c.lmI c.esK c.ckK c.lmK c.SI
 tns:∀x∈c.its,x.tn<(c.ns:Int)
structure CZ.ok(c:CZ):Prop extends CZ.okb c where
 all:∀x∈c.its,x.ok c.M c.MR c.pos c.win
structure CZ.like(c d:CZ):Prop where
 cp:d.cp=c.cp
 pos:d.pos=c.pos
 win:d.win=c.win
 ns:d.ns=c.ns
 cap:d.z.cap=c.z.cap
variable{c:CZ}
theorem CZ.like.trans{a b:CZ}(h:a.like b)(k:b.like c):a.like c:=⟨k.cp.trans h.cp,k.pos.trans h.pos,k.win.trans h.win,k.ns.trans h.ns,k.cap.trans h.cap⟩
theorem gY(h:c.okb):EW (c.sW++c.M) (.slice c.wq c.win.length c.wc) c.win:=Jv h.win (by have:=h.wl;have g:maxLen=9223372036854775807:=rfl;omega) fun r m=>by
 obtain ⟨i,hi⟩:=GW m;exact (h.wp i r hi).2.1
theorem Ut{α:Type}{l:List α}{x:α}(h:x∈l):∃A B,l=A++x::B:=ao h
theorem VJ{PL:List Bt}(hk:∀k,k∈PL.map (·.key)↔k∈its.map ItM.key){O U:List Bt}{e:Bt}(Z:PL=O++e::U)(m:(PL.map (·.key)).Nodup)(X:e.key=K):∀k,k∈(O++U).map (·.key)↔k∈(its.filter fun y=>y.key≠K).map ItM.key:=by
 intro k;subst Z X;have W:=hk k
 rw [BW,DO,Ge,HW]at m;constructor
 · intro h
   rw [BW,B9]at h;have B:k≠e.key:=by
    rintro rfl;rcases h with h|h
    · exact m.2.2 _ h _ (Dd ..) rfl
    · exact m.2.1.1 h
   obtain ⟨y,G,rfl⟩:=Bk.1 (W.1 (by rw [BW,DO,B9,D0];rcases h with h|h;exact .inl h;exact .inr (.inr h)));exact Bk.2 ⟨y,F1.2 ⟨G,by simpa using B⟩,V⟩
 · intro h
   obtain ⟨y,G,rfl⟩:=Bk.1 h;obtain ⟨I,J⟩:=F1.1 G;have g:=W.2 (DM I)
   rw [BW,DO,B9,D0]at g;rw [BW,B9];rcases g with g|g|g
   · exact .inl g
   · simp [g]at J
   · exact .inr g
theorem XO(h:c.okb)(Z:x∈c.its):Ba prog 26 #[.pointer (some ⟨c.cp,0,none⟩),.string x.key] [[(c.cp,.cells #[I4 c.pos,.slice c.wq c.win.length c.wc,.pointer (some ⟨c.z.r,0,none⟩),.pointer (some ⟨c.ip,0,none⟩),.map (some c.mi),.map (some c.mkb),I4 c.next] 120 (0,0))],c.sW,c.z.S,[(c.mb,.map c.esP c.ckP)],c.su,[(c.ip,.cells #[.map (some c.mq),c.lv] 186 (0,0))],[(c.mq,.map c.esQ c.ckQ)],c.ML,[(c.mi,.map c.esI c.ckI)],[(c.mkb,.map c.esK c.ckK)],c.SI,c.M,c.MR] (fun v H'=>v= .bool true/\∃d:CZ,d.okb/\c.like d/\d.next=c.next/\(d.M=c.M/\d.MR=c.MR)/\d.SI=c.SI/\d.mi=c.mi/\d.its=(c.its.filter fun y=>y.key≠x.key)/\(∀e∈d.PL,e∈c.PL)/\H'=[[(d.cp,.cells #[I4 d.pos,.slice d.wq d.win.length d.wc,.pointer (some ⟨d.z.r,0,none⟩),.pointer (some ⟨d.ip,0,none⟩),.map (some d.mi),.map (some d.mkb),I4 d.next] 120 (0,0))],d.sW,d.z.S,[(d.mb,.map d.esP d.ckP)],d.su,[(d.ip,.cells #[.map (some d.mq),d.lv] 186 (0,0))],[(d.mq,.map d.esQ d.ckQ)],d.ML,[(d.mi,.map d.esI d.ckI)],[(d.mkb,.map d.esK d.ckK)],d.SI,d.M,d.MR]):=by
 obtain ⟨e,he,B⟩:=Bk.1 ((h.pk x.key).2 (DM Z));obtain ⟨L1,L2,m⟩:=Ut he;have g:=h.pool
 rw [m]at g;rw [<-B];refine Se func26 ntmps26 [0,1] ?_;intro u R;refine A0<|A3 Y<|Zq<|Zq<|BV<|GM (s:=c.z.S) Wo (fun X=>?_);rw [Bj.keys]at X;refine Zg<|Zm Y<|Zv (Be Pr Y Y)<|A4<|AV Y (fun G=>by cases G)<|fun G=>AC<|Zx<|A0<|Zm Y<|Zp Y V<|Zh 2 Ek V rfl sizeOf113 Y<|Zl IF Y ?_;refine Zm Y<|Zc [_,_] Y call71 Y V (jv g X) ?_;rintro _ _ ⟨_,⟨rfl,z2,es2,ck2,lm2,su2,U,O,af,J,rfl⟩,rfl⟩;refine A4<|A0<|Zm Y<|Zm Y ?_;rw [B];refine Zc [_,_] Y call47 Y V (Vm h.its Z) ?_;rintro _ _ ⟨_,⟨rfl,eq3,cq3,lq3,ei3,ci3,li3,ek3,ck3,lk3,I,rfl⟩,rfl⟩;refine AG Y<|Zn [4] ?_;refine Zx<|AJ<|AO V results26 Y (by
  refine ⟨rfl,({c with z:=z2,PL:=L1++L2,esP:=es2,ckP:=ck2,lmP:=lm2,su:=su2,its:=c.its.filter fun y=>y.key≠x.key,esQ:=eq3,ckQ:=cq3,lmQ:=lq3,lv:= .pointer none,ML:=[],esI:=ei3,ckI:=ci3,lmI:=li3,esK:=ek3,ckK:=ck3,lmK:=lk3}:CZ),⟨h.pos,h.win,h.wl,h.wp,J,VJ h.pk m h.pool.keys B,I,fun y W=>h.tns y (F1.1 W).1⟩,⟨rfl,rfl,rfl,rfl,O⟩,rfl,⟨rfl,rfl⟩,rfl,rfl,rfl,fun y W=>by rw [m];rcases B9.1 W with h9|h9<;>simp [h9],?_⟩;simp only [U];rfl)
theorem Nu(h:c.okb):Ba prog 19 #[.pointer (some ⟨c.cp,0,none⟩)] [[(c.cp,.cells c.A20 120 (0,0))],[(c.mi,.map c.esI c.ckI)]] (fun r H'=>∃(zs:List ByteArray) (s':List A9),zs.Perm (c.its.map ItM.key)/\(zs.Pairwise fun x y=>x.data.toList<=y.data.toList)/\Row 9 r (zs.map Value.string) s'/\H'=[[(c.cp,.cells c.A20 120 (0,0))],[(c.mi,.map c.esI c.ckI)],s']):=by
 have m:=h.its.len_eq;have I:=m.length_eq
 rw [B2,B2]at I;have U:=h.its.len
 refine Se func19 ntmps19 [0] ?_;intro u R;refine A0<|A3 Y<|Zq<|A0<|Zm Y<|Zv (Be Pr Y Y)<|A4<|AV Y (fun g=>by cases g)<|fun g=>AC<|Zx<|A0<|Zm Y<|Zp Y V<|Zh 4 Ek V rfl Q2 Y<|Zl NO Y ?_;refine Zc [_] Y call64 Y V (eu c.mi) ?_;rintro _ _ ⟨_,⟨O,rfl,rfl⟩,rfl⟩;refine Zc [_] Y call63 Y V (WW h.its.im A1 O c.mi (M:=[(c.mi,.map c.esI c.ckI)]) B0) ?_;rintro _ _ ⟨_,⟨zs,W,G,B,J,rfl⟩,rfl⟩;refine A3 Y<|AJ<|AO V results19 Y (by exact ⟨zs,W,G.trans m,B,J,V⟩)
theorem mr(c:CZ):BJ prog 29 #[.pointer (some ⟨c.cp,0,none⟩)] [[(c.cp,.cells c.A20 120 (0,0))]] (I4 c.pos):=by
 refine Se func29 ntmps29 [0] ?_;intro u R;refine A0<|A3 Y<|Zq<|A0<|Zm Y<|Zv (Be Pr Y Y)<|A4<|AV Y (fun g=>by cases g)<|fun g=>AC<|Zx<|A0<|Zm Y<|Zp Y V<|Zh 0 Ek V rfl A5 Y<|Zl AE Y ?_;refine A3 Y<|AJ<|AO V results29 Y (by exact ⟨V,V⟩)
theorem fe(h:c.okb)(B:k<c.ns):BJ prog 30 #[.pointer (some ⟨c.cp,0,none⟩),I4 (k:Int)] [[(c.cp,.cells c.A20 120 (0,0))],c.z.S,[(c.mb,.map c.esP c.ckP)],c.su] (I4 (FU c.PL (k:Int))):=by
 refine Se func30 ntmps30 [0,1] ?_;intro u R;refine A0<|A3 Y<|Zq<|Zq<|GM (s:=c.z.S) Wo (fun m=>?_);rw [Bj.keys]at m;refine Zg<|Zm Y<|Zv (Be Pr Y Y)<|A4<|AV Y (fun g=>by cases g)<|fun g=>AC<|Zx<|A0<|Zm Y<|Zp Y V<|Zh 2 Ek V rfl sizeOf113 Y<|Zl IF Y ?_;refine Zm Y<|Xr [_,_] Y call77 Y V (vK h.pool m B) ?_;refine A3 Y<|AJ<|AO V results30 Y (by exact ⟨V,V⟩)
def BU.pc(r:BU):Int×List Chg:=(r.p,r.cs)
theorem OT{q:QM}{base:Int}:∀{l l':List BU} {i:Nat} {st:CF×Int},l.map BU.pc=l'.map BU.pc->GD q base i st l=GD q base i st l'
 |[],[],_,_,_=>rfl
 |[],_::_,_,_,h=>by simp at h
 |_::_,[],_,_,h=>by simp at h
 |x::l,y::l',i,st,h=>by
  rw [DO,DO]at h;injection h with h1 h2
  injection h1 with h3 h4
  unfold GD;rw [h3,h4];split
  · exact OT h2
  · rfl
variable{base:Int}
theorem O5{win:List BU}(h:(pos -base).toNat<=win.length):(DC pos base win).length=(pos -base).toNat:=by
 unfold DC;rw [C3];omega
theorem PS(h:c.okb){r:BU}(g:r∈c.win):r.cs.length<=8:=by
 obtain ⟨i,hi⟩:=GW g;exact (h.wp i r hi).2.2.len.2
theorem xL{m:List BU}(g:l.map BU.pc=m.map BU.pc){n:Nat}(h:∀y∈m,y.cs.length<=n):∀y∈l,y.cs.length<=n:=fun y O=>by
 have B:y.pc∈m.map BU.pc:=by rw [<-g];exact DM O
 obtain ⟨w,J,I⟩:=Bk.1 B;have h2:=h w J
 have G:y.cs=w.cs:=(congrArg Prod.snd I).symm;rw [G];exact h2
theorem Tt(h:c.ok)(O:x∈c.its):Ba prog 21 #[.pointer (some ⟨c.cp,0,none⟩),.string x.key] [[(c.cp,.cells c.A20 120 (0,0))],[(c.mi,.map c.esI c.ckI)],c.SI,c.M] (fun r H'=>∃G B s,r= .tuple #[.agg #[I4 x.q.kd,I4 x.q.tb,I4 x.q.cl,I4 x.q.lo,I4 x.q.hi,I4 x.q.bq,I4 x.q.ot,I4 x.tn,I4 x.base,.slice G x.L.length B],.bool true]/\Fj s (.slice G x.L.length B) x.L/\H'=[[(c.cp,.cells c.A20 120 (0,0))],[(c.mi,.map c.esI c.ckI)],c.SI,c.M,s]):=by
 have W:=h.its.get O;have g:=h.all x O
 have J:(x.b,Obj.cells x.A19 126 (0,0))∈c.SI:=h.its.sub x O;refine Se func21 ntmps21 [0,1] ?_;intro u R;refine A0<|Ze (FC cW (cs:=#[I4 0,I4 0,I4 0,I4 0,I4 0,I4 0,I4 0,I4 0,I4 0,.slice none 0 0]) A6)<|AD fun Z=>A3 Y<|Zq<|A0<|Zm Y<|Zv (Be Pr Y Y)<|Zm Y<|Af (t:=8) Y V (fun U=>by cases U)<|fun U=>Zf Y Y<|Yg (Ap Y V)<|Yf 4 Ek V rfl Q2 Y<|Yl NO Y ?_;refine Zf Y Y<|E5 Y Wh (Dj (Dn GO (D:=fun _=>True)) Pc Tr h.its.im (fun _ _=>trivial) (trivial) (by rw [W];first|done|rfl) Y Y) rfl rfl ?_;refine Yg (Be underlying121 Y Y)<|Zv (AL Y Y)<|Z0<|Zn [0,1,4,16] ?_;refine Zx<|AV Y (fun m=>by cases m)<|fun m=>AC<|Zx<|A0<|Zm Y<|Zp Y V<|Zh 4 Ek V rfl Q2 Y<|Zl NO Y ?_;refine Zm Y<|Zo Wh (Dj (Dn GO (D:=fun _=>True)) Pc Tr h.its.im (fun _ _=>trivial) (trivial) (by rw [W];first|done|rfl) Y Y) ?_;refine Zp Y V<|Zh 0 HL V rfl H4 Y<|CO (Gf Wo (J)) (AA (cs:=#[I4 x.q.kd,I4 x.q.tb,I4 x.q.cl,I4 x.q.lo,I4 x.q.hi,I4 x.q.bq,I4 x.q.ot,I4 x.tn,I4 x.base,.slice x.rq x.L.length x.rc]) T0 H4 Y As (by exact (by apply HI.1;rfl))) V rfl ?_;refine Zc [_] Y call66 Y V (Qg x.q x.tn x.base g.rp g.rl g.fit) ?_;rintro _ _ ⟨_,⟨G,B,X,rfl,I,rfl⟩,rfl⟩;refine Xe (BM H4 Y Y HR Wu (by exact EJ rfl) E7 AN (by exact BA _)) ?_;refine A3 Y<|AJ<|Bn V results21 Y Wh (Ak T0 H4 Wn (BN V)) Y (by exact ⟨G,B,X,V,I,V⟩)
theorem sP(h:c.ok)(I:x∈c.its)(W:c.pos<x.base):BJ prog 17 #[.pointer (some ⟨c.cp,0,none⟩),.string x.key] [[(c.cp,.cells c.A20 120 (0,0))],[(c.mi,.map c.esI c.ckI)],c.SI,c.M] (.tuple #[.agg #[I4 0,I4 0,I4 0,I4 0,I4 0,I4 0,I4 0,.slice none 0 0,I4 0,.bool false,I4 0,I4 0,I4 0,.slice none 0 0,.slice none 0 0],.bool false]):=by
 refine Se func17 ntmps17 [0,1] ?_;intro u R;refine A0<|Ze (FC MT (cs:=#[I4 0,I4 0,I4 0,I4 0,I4 0,I4 0,I4 0,.slice none 0 0,I4 0,.bool false,I4 0,I4 0,I4 0,.slice none 0 0,.slice none 0 0]) A6)<|AD fun U=>A3 Y<|A0<|Zm Y<|Zm Y<|Zc [_,_] Y call21 Y V (Tt h I) ?_;rintro _ _ ⟨_,⟨J,B,X,rfl,G,rfl⟩,rfl⟩;refine Zm Y<|Zd Y V<|Zd Y V<|Ze (FC cW (cs:=#[I4 0,I4 0,I4 0,I4 0,I4 0,I4 0,I4 0,I4 0,I4 0,.slice none 0 0]) A6)<|AD fun O=>Xe (Xw H4 #[I4 x.q.kd,I4 x.q.tb,I4 x.q.cl,I4 x.q.lo,I4 x.q.hi,I4 x.q.bq,I4 x.q.ot,I4 x.tn,I4 x.base,.slice J x.L.length B]) ?_;refine A3 Y<|Zq<|Zq<|Az (n:=11) (0::1::3::7::15::7::39::103::231::511::1023::[]) 0 A6 A6 V<|A2 0 V (AQ Y)<|A2 1 V (Br Y)<|A2 2 V (AQ Y)<|Cf (t:=21) Y (fun g=>?_) (fun g=>?_)
 ·
  rw [g];cases g
 rw [g];refine An 3 V (AB (off:=8) FG V rfl A5 Y)<|DQ 4 V Wh (BO AE Y AM) ?_;refine An 5 V (AQ Y)<|An 6 V (Ap Y V)<|An 7 V (AB (off:=0) Ek V rfl A5 Y)<|DQ 8 V Wh (BO AE Y AM) ?_;refine An 9 V (Ep Y Y)<|A2 10 V (AL Y Y)<|Ai<|Zn [0,4,6,29] ?_;refine Zx<|Av Y (fun m=>?_) (fun m=>?_)
 ·
  refine A0<|Zv (BK (vs:=[]) (cs:=#[_,_,_,_,_,_,_,_,_,_,_,_,_,_,_]) Y (AY (pl:=#[(0,7),(7,3),(10,1),(11,1),(12,1),(13,1),(14,1)]) MT N3 (fun _=>by kernel_rfl) rfl))<|Xe (BM LL Y Y HR Wu (by exact EJ rfl) E7 Wn (by exact BA _)) ?_;refine A3 Y<|AJ<|Zt<|Bn V results17 Y Wh (Ak isAgg55 LL Wn (BN V)) Y (by exact ⟨V,V⟩)
 exfalso;omega
set_option maxHeartbeats 1000000 in
theorem xC(h:c.ok)(hx:x∈c.its)(hb:x.base<=c.pos):Ba prog 17 #[.pointer (some ⟨c.cp,0,none⟩),.string x.key] [[(c.cp,.cells c.A20 120 (0,0))],c.sW,[(c.mi,.map c.esI c.ckI)],c.SI,c.M] (fun w H'=>∃(z:Xp) (l:List BU) (s s2:List A9),z.a=⟨x.q,x.res,x.since,c.pos,x.base,x.L,l⟩/\l.map BU.pc=(DC c.pos x.base c.win).map BU.pc/\z.ok (s++s2)/\w= .tuple #[.agg z.A18,.bool true]/\H'=[[(c.cp,.cells c.A20 120 (0,0))],c.sW,[(c.mi,.map c.esI c.ckI)],c.SI,c.M,s,s2]):=by
 have ve:=mL;have G:=h.all x hx
 obtain ⟨r0,gy,J⟩:=G.run;have l8:=G.base
 have pq:=h.pos;have vo:=h.wl
 have q9:=Es h.win;have ic:=G.reach
 obtain ⟨wl,g⟩:∃wl,wl=(DC c.pos x.base c.win):=⟨_,rfl⟩;have O:wl.length=(c.pos -x.base).toNat:=by rw [g];exact O5 ic
 have j3:EW (c.sW++c.M) (.slice (ET c.wq (c.win.length -(c.pos -x.base).toNat) c.wc 2) (c.pos -x.base).toNat (c.wc -(c.win.length -(c.pos -x.base).toNat))) wl:=by
  have h1:=NS (a:=c.win.length -(c.pos -x.base).toNat) (gY h.tookb) A1;rw [g];rwa [show c.win.length -(c.win.length -(c.pos -x.base).toNat)=(c.pos -x.base).toNat by omega]at h1
 obtain ⟨cv,ek⟩:∃cv,cv=c.wc -(c.win.length -(c.pos -x.base).toNat):=⟨_,rfl⟩;obtain ⟨pv,gq⟩:∃pv,pv=ET c.wq (c.win.length -(c.pos -x.base).toNat) c.wc 2:=⟨_,rfl⟩;rw [<-ek,<-gq,<-O]at j3;obtain ⟨p8,qo,e8,⟨sO,sM⟩,l9⟩:=id j3;injection e8 with e81 e82 e83
 subst e81 e83;rw [<-g]at J⊢;refine Se func17 ntmps17 [0,1] ?_;intro u R;refine A0<|Ze (FC MT (cs:=#[I4 0,I4 0,I4 0,I4 0,I4 0,I4 0,I4 0,.slice none 0 0,I4 0,.bool false,I4 0,I4 0,I4 0,.slice none 0 0,.slice none 0 0]) A6)<|AD fun bo=>A3 Y<|A0<|Zm Y<|Zm Y<|Zc [_,_] Y call21 Y V (Tt h hx) ?_;rintro _ _ ⟨_,⟨pz,cz,se,rfl,j5,rfl⟩,rfl⟩;refine Zm Y<|Zd Y V<|Zd Y V<|Ze (FC cW (cs:=#[I4 0,I4 0,I4 0,I4 0,I4 0,I4 0,I4 0,I4 0,I4 0,.slice none 0 0]) A6)<|AD fun be=>Xe (Xw H4 #[I4 x.q.kd,I4 x.q.tb,I4 x.q.cl,I4 x.q.lo,I4 x.q.hi,I4 x.q.bq,I4 x.q.ot,I4 x.tn,I4 x.base,.slice pz x.L.length cz]) ?_;refine A3 Y<|Zq<|Zq<|Az (n:=11) (0::1::3::7::15::7::39::103::231::511::1023::[]) 0 A6 A6 V<|A2 0 V (AQ Y)<|A2 1 V (Br Y)<|A2 2 V (AQ Y)<|Cf (t:=21) Y (fun g1=>?_) (fun g1=>?_)
 ·
  rw [g1];cases g1
 rw [g1];refine An 3 V (AB (off:=8) FG V rfl A5 Y)<|DQ 4 V Wh (BO AE Y AM) ?_;refine An 5 V (AQ Y)<|An 6 V (Ap Y V)<|An 7 V (AB (off:=0) Ek V rfl A5 Y)<|DQ 8 V Wh (BO AE Y AM) ?_;refine An 9 V (Ep Y Y)<|A2 10 V (AL Y Y)<|Ai<|Zn [0,4,6,29] ?_;refine Zx<|Av Y (fun l5=>by omega)<|fun l5=>AC<|Zx<|A0<|Zm Y<|Zh 8 FG V rfl A5 Y<|Zl AE Y ?_;refine Xr [_,_] Y call59 Y V (Nz pq x.base l8 ⟨q9,by omega⟩) ?_;rw [AK ic,<-ek,<-gq,<-O];refine Zm Y<|Zd Y V<|Zd Y V<|Za Y<|A3 Y<|Zq<|CK (s1:=c.sW) (s2:=c.M) Wo Wo ?_;refine Zg<|Zm Y<|Zv (Ab GB Y)<|Ze (WO (by_:=32) (sz:=2) (l:=0) GB (V:Tryz.prog.info? 50=some Tryz.t50) V rfl V Y Y ?_ ?_ ?_) ?_
 (focus (omega))
 (focus (omega))
 (focus (omega))
 rintro _ _ ⟨gr,qw,rfl,X,rfl⟩;refine AG Y<|Zn [4,6,8,10] ?_;refine Zx<|Zq<|Zq<|BV<|Zg<|Zm Y<|Zv (Ab GB Y)<|Zm Y<|A4<|AP<|Zb [10,43,4,6,41,42] ?_;refine BB (e0:=[(10,_),(43,_)]) (fun m e H=>∃(k:Nat) (l:List BU) (vr:Value) (W MR:List A9),m=wl.length -k/\((k<=wl.length/\l.length=k)/\Bc 2 50 vr l.length (Dp l) W/\(∀r∈l,Ck MR (.slice r.q r.cs.length r.cap) r.cs)/\l.map BU.pc=(wl.take k).map BU.pc)/\e=[(10,vr),(43,I4 (k:Int))]/\H=[W,MR]) (by exact ⟨0,[],_,_,[],V,⟨⟨C0 _,V⟩,jl A1 X,fun r Z=>absurd Z B0,V⟩,V,V⟩) Wp ?_;rintro _ _ _ ⟨k,l,vr,W,MR,rfl,⟨⟨hk,o8⟩,hR,bn,B⟩,rfl,rfl⟩;refine A0<|Zv (Au Y Y)<|A4<|Zq<|Av Y (fun o9=>?_) (fun o9=>?_)
 ·
  obtain ⟨r,Z⟩:∃r,wl[k]?=some r:=⟨_,B4 A1⟩;obtain ⟨cO,g9,sj,qx,T9,vw,pg,p9,r9,gm⟩:=l9 k r Z;rw [pg];obtain ⟨gv,af,rfl⟩:=hR.form;have qz:=PS h.tookb (r:=r) (by rw [g]at Z;exact I0 (DG Z))
  refine AC<|Zx<|Zq<|AP<|A0<|BX (Ad GB F2 Y Y A1)<|CO (Gf Wo (p9)) (AA (cs:=#[I4 r.p,.slice r.q r.cs.length r.cap]) Hc F2 Y A1 (by exact gm)) V rfl ?_;refine Ze (Al Ss #[_,_])<|AD fun br=>Xe (Xw F2 #[I4 r.p,.slice r.q r.cs.length r.cap]) ?_;refine A4<|Zg<|Zm Y<|Zo Wh (AA (cs:=#[I4 r.p,.slice r.q r.cs.length r.cap]) Hc F2 Y As (by exact BN V)) ?_;refine Zc [_] Y call52 Y V (Qf r.p cO A1) ?_;rintro _ _ ⟨_,⟨q2,cap2,s2,rfl,cu,rfl⟩,rfl⟩;refine Ze (Ah (vs:=[_]) (cs:=[_,_]) GB F2 Ss Y V rfl V rfl V)<|AD fun gb=>Ze (BQ (by_:=32) (sz:=2) GB (V:Tryz.prog.info? 50=some Tryz.t50) V rfl V rfl Y (hR) Y (DJ 2 gb 1 1 50 (0,0) [I4 r.p,.slice q2 r.cs.length cap2] V) Wo Wo Fm A1 A1) ?_;rintro _ _ ⟨ql,I,rfl⟩;obtain ⟨sJ,sw,rfl⟩:=I.form;refine AG Y<|A8<|Zx<|CK (s1:=s2) (s2:=MR) Wo Wo ?_;refine Zg<|Ya (n:=1) Y Y<|Zm Y<|Z0<|Zn [10,43,4,6,41,42] ?_;refine Aa (e':=[(10,_),(43,_)]) (by
   exact ⟨k+1,l++[⟨r.p,q2,cap2,r.cs⟩],_,ql,s2++MR,rfl,⟨⟨by omega,by rw [B7,o8];rfl⟩,BR I (by rw [B7];rfl) (by rw [KU];rfl),fun y U=>by
    rcases B9.1 U with U|U
    · exact Gt (bn y U) s2
    · rw [BT.1 U];exact Je cu MR,by rw [BW,B,Bh Z,BW];rfl⟩,rfl,rfl⟩)
 obtain rfl:k=wl.length:=by omega
 rw [FF]at B;obtain ⟨gv,af,rfl⟩:=hR.form;refine Ay<|Zt<|Zt<|AR<|Zx<|Zq<|jJ (s1:=c.sW) (s2:=c.M) (by repeat(first|exact Uf.here _|apply Uf.there)) ?_;refine CK (s1:=se) (s2:=W) Wo Wo ?_;refine CK (s1:=(se++W)) (s2:=MR) Wo Wo ?_;have kv:EW ((se++W)++MR) (.slice gv l.length af) l:=La (Jv hR A1 bn) (fun q hq=>by rcases B9.1 hq with h9|h9<;>simp [h9])
 have d9:∀y∈l,y.cs.length<=1000:=xL B fun y U=>by
  have:=PS h.tookb (r:=y) (by rw [g]at U;exact I0 U);omega
 have ax:Jm x.q x.base x.L l=some ⟨x.q,x.res,x.since,c.pos,x.base,x.L,l⟩:=by
  rw [QI gy A1,OT B,J];show some (bB.mk x.q x.res x.since (x.base+(l.length:Int)) x.base x.L l)=_
  rw [show x.base+(l.length:Int)=c.pos by omega]
 refine Zg<|Zo Wh (AA (cs:=#[I4 x.q.kd,I4 x.q.tb,I4 x.q.cl,I4 x.q.lo,I4 x.q.hi,I4 x.q.bq,I4 x.q.ot,I4 x.tn,I4 x.base,.slice pz x.L.length cz]) T0 H4 Y As (by exact BN V)) ?_;refine Zm Y<|Zc [_,_] Y call60 Y V (xR x.q x.tn x.base A1 (j5.mono fun q hq=>by simp [hq]) G.rl gy kv d9) ?_;rintro _ _ ⟨_,⟨z,s9,b9,qa,rfl,rfl⟩,rfl⟩;obtain ⟨rfl,qb,qj⟩:b9=true/\z.a=⟨x.q,x.res,x.since,c.pos,x.base,x.L,l⟩/\z.ok (s9++((se++W)++MR)):=by
  rcases qa with⟨h1,h2,h3⟩|⟨_,h2⟩
  · rw [ax]at h2;injection h2 with h2;exact ⟨h1,h2.symm,h3⟩
  · rw [ax]at h2;cases h2
 refine Zd Y rfl<|Zd Y rfl<|Xe (BM LL Y Y HR Wu (by exact EJ rfl) E7 AN (by exact BA _)) ?_;refine A3 Y<|AJ<|Bn V results17 Y Wh (Ak isAgg55 LL Wn (BN V)) Y (by exact ⟨z,l,s9,(se++W)++MR,qb,B,qj,V,V⟩)
theorem zF(h:c.ok)(I:x∈c.its)(G:x.base<=c.pos):Ba prog 17 #[.pointer (some ⟨c.cp,0,none⟩),.string x.key] [[(c.cp,.cells c.A20 120 (0,0))],c.sW,[(c.mi,.map c.esI c.ckI)],c.SI,c.M] (fun w H'=>∃(z:Xp) (l:List BU) (s:List A9),z.a=⟨x.q,x.res,x.since,c.pos,x.base,x.L,l⟩/\l.map BU.pc=(DC c.pos x.base c.win).map BU.pc/\z.ok s/\w= .tuple #[.agg z.A18,.bool true]/\H'=[[(c.cp,.cells c.A20 120 (0,0))],c.sW,[(c.mi,.map c.esI c.ckI)],c.SI,c.M,s]):=by
 refine Gs (xC h I G) V ?_;rintro w H' ⟨z,l,s,s2,g,h2,m,B,rfl⟩;exact ⟨_,⟨z,l,s++s2,g,h2,m,B,V⟩,by simp⟩
variable{q:QM}{pg:Option Addr}{cg:Nat}{L:List RP}{ME:List A9}{r0:CF}
theorem w9(h:c.ok)(hq:BI q)(te base:Int)(hb:0<=base/\base<=10000)(hL:Fj ME (.slice pg L.length cg) L)(ax:L.length<=1000000)(af:∀x∈L,x.fits)(O:EX q L=some r0)(U:¬(c.pos -base).toNat<=c.win.length)(G:TypeId)(Z:Nat×Nat):Ba prog 44 #[.pointer (some ⟨c.cp,0,none⟩),.agg #[I4 q.kd,I4 q.tb,I4 q.cl,I4 q.lo,I4 q.hi,I4 q.bq,I4 q.ot,I4 te,I4 base,.slice pg L.length cg]] [[(c.cp,.cells c.A20 120 (0,0))],c.sW,c.M,ME,[(1,.cells (Lib.pow10Tab.map fun z=>Value.int .u64 z).toArray G Z)]] (fun w H'=>w= .tuple #[.string ⟨#[]⟩,.pointer none,.bool false]/\H'=[[(c.cp,.cells c.A20 120 (0,0))],c.sW,c.M,ME,[(1,.cells (Lib.pow10Tab.map fun z=>Value.int .u64 z).toArray G Z)]]):=by
 have bn:=mL;have J:=h.pos
 have cu:=h.wl;have W:=Es h.win
 refine Se func44 ntmps44 [0,1] ?_;intro u R;refine A0<|Ze (Bx #[I4 q.kd,I4 q.tb,I4 q.cl,I4 q.lo,I4 q.hi,I4 q.bq,I4 q.ot,I4 te,I4 base,.slice pg L.length cg])<|AD fun be=>Za Y<|Za Y<|A3 Y<|A0<|Zh 0 FG V rfl C7 Y<|Zo Wh (AA (cs:=q.A17) Dg C7 Y As (by exact (by apply HI.1;rfl))) ?_;refine Xr [_] Y call11 Y V (NV q hq G Z) ?_;refine Zm Y<|Zd Y V<|Zd Y V<|Za Y<|A3 Y<|Zq<|A0<|Zm Y<|Zv (FR (n:=0) Y Y)<|Zm Y<|Ao (t:=22) Y V (fun g1=>?_) (fun g1=>?_)
 ·
  exact absurd V g1
 refine Yf 8 FG V rfl A5 Y<|Yl AE Y ?_;refine Xr [_] Y call41 Y V (JE base) ?_;rw [DA hb];refine Yg (Br Y)<|Zv (AL Y Y)<|Z0<|Zn [0,3,7,27] ?_;refine Zx<|AV Y (fun m=>by cases m)<|fun m=>AC<|Zx<|A0<|Zm Y<|Zh 8 FG V rfl A5 Y<|Zl AE Y ?_;refine Xr [_,_] Y call59 Y V (Nz J base hb ⟨W,by omega⟩) ?_;rw [AH U];refine Zm Y<|Zd Y V<|Zd Y V<|Za Y<|A3 Y<|A0<|Zh 0 FG V rfl C7 Y<|Zo Wh (AA (cs:=#[_,_,_,_,_,_,_]) Dg C7 Y As (by exact (by apply HI.1;rfl))) ?_;refine Zh 9 FG V rfl Mb Y<|Zl S8 Y ?_;refine Zc [_,_] Y call90 Y V (WV hL q O) ?_;rintro _ _ ⟨_,⟨cO,sr,rfl,g,rfl⟩,rfl⟩;obtain ⟨X,I,rfl⟩:=g.form;refine Zm Y<|Zd Y V<|Zd Y V<|Ze (Al G4 #[_,_,_])<|AD fun bs=>Xe (Xw Ax #[.slice X r0.rows.length I,I4 r0.val,.bool r0.fnd]) ?_;refine AG Y<|Zn [3,7,9,10,11,12] ?_;refine Zx<|Zq<|A0<|Zm Y<|Zv (Br Y)<|Zm Y<|Af (t:=45) Y V (fun g2=>by cases g2)<|fun g2=>Zf Y Y<|Yg (Br Y)<|Zv (AL Y Y)<|A4<|AV Y (fun B=>?_) (fun B=>?_)
 ·
  refine A0<|Za Y<|Za Y<|A3 Y<|AJ<|Zt<|iW V results44 Y Y Y (by exact ⟨V,V⟩)
 cases B
set_option maxHeartbeats 1000000 in
theorem RF(h:c.ok)(hq:BI q)(te base:Int)(hb:0<=base/\base<=10000)(hL:Fj ME (.slice pg L.length cg) L)(cO:L.length<=1000000)(W:∀x∈L,x.fits)(Z:EX q L=some r0)(af:(c.pos -base).toNat<=c.win.length)(Tp:TypeId)(zp:Nat×Nat):Ba prog 44 #[.pointer (some ⟨c.cp,0,none⟩),.agg #[I4 q.kd,I4 q.tb,I4 q.cl,I4 q.lo,I4 q.hi,I4 q.bq,I4 q.ot,I4 te,I4 base,.slice pg L.length cg]] [[(c.cp,.cells c.A20 120 (0,0))],c.sW,c.M,ME,[(1,.cells (Lib.pow10Tab.map fun z=>Value.int .u64 z).toArray Tp zp)]] (fun w H'=>∃b rq rc wq wc s1 s2,w= .tuple #[.string (str (Cr q)),I5 b,.bool (BC q r0 base (DC c.pos base c.win)).2.2]/\Fj s1 (.slice rq L.length rc) L/\E8 s2 (.slice wq (BC q r0 base (DC c.pos base c.win)).1.rows.length wc) (BC q r0 base (DC c.pos base c.win)).1.rows/\H'=[[(c.cp,.cells c.A20 120 (0,0))],c.sW,c.M,ME,[(1,.cells (Lib.pow10Tab.map fun z=>Value.int .u64 z).toArray Tp zp)],[(b,.cells #[I4 q.kd,I4 q.tb,I4 q.cl,I4 q.lo,I4 q.hi,I4 q.bq,I4 q.ot,I4 te,I4 base,.slice rq L.length rc,I4 0,.slice wq (BC q r0 base (DC c.pos base c.win)).1.rows.length wc,I4 (BC q r0 base (DC c.pos base c.win)).1.val,.bool (BC q r0 base (DC c.pos base c.win)).1.fnd,I4 (BC q r0 base (DC c.pos base c.win)).2.1] 126 (0,0))],s1,s2]):=by
 have j3:=mL;have gm:=h.pos
 have kv:=h.wl;have gy:=Es h.win
 obtain ⟨wl,m⟩:∃wl,wl=DC c.pos base c.win:=⟨_,rfl⟩;have G:wl.length=(c.pos -base).toNat:=by rw [m];exact O5 af
 have ax:EW (c.sW++c.M) (.slice (ET c.wq (c.win.length -(c.pos -base).toNat) c.wc 2) (c.pos -base).toNat (c.wc -(c.win.length -(c.pos -base).toNat))) wl:=by
  have h1:=NS (a:=c.win.length -(c.pos -base).toNat) (gY h.tookb) A1;rw [m];rwa [show c.win.length -(c.win.length -(c.pos -base).toNat)=(c.pos -base).toNat by omega]at h1
 obtain ⟨cv,U⟩:∃cv,cv=c.wc -(c.win.length -(c.pos -base).toNat):=⟨_,rfl⟩;obtain ⟨pv,X⟩:∃pv,pv=ET c.wq (c.win.length -(c.pos -base).toNat) c.wc 2:=⟨_,rfl⟩;rw [<-U,<-X,<-G]at ax;rw [<-m];have O:∀y∈wl,y.cs.length<=1000:=fun y hy=>by
  have:=PS h.tookb (r:=y) (by rw [m]at hy;exact I0 hy);omega
 obtain ⟨_,j5,gq⟩:=LM Z;refine Se func44 ntmps44 [0,1] ?_;intro u R;refine A0<|Ze (Bx #[I4 q.kd,I4 q.tb,I4 q.cl,I4 q.lo,I4 q.hi,I4 q.bq,I4 q.ot,I4 te,I4 base,.slice pg L.length cg])<|AD fun be=>Za Y<|Za Y<|A3 Y<|A0<|Zh 0 FG V rfl C7 Y<|Zo Wh (AA (cs:=q.A17) Dg C7 Y As (by exact (by apply HI.1;rfl))) ?_;refine Xr [_] Y call11 Y V (NV q hq Tp zp) ?_;refine Zm Y<|Zd Y V<|Zd Y V<|Za Y<|A3 Y<|Zq<|A0<|Zm Y<|Zv (FR (n:=0) Y Y)<|Zm Y<|Ao (t:=22) Y V (fun g1=>?_) (fun g1=>?_)
 ·
  exact absurd V g1
 refine Yf 8 FG V rfl A5 Y<|Yl AE Y ?_;refine Xr [_] Y call41 Y V (JE base) ?_;rw [DA hb];refine Yg (Br Y)<|Zv (AL Y Y)<|Z0<|Zn [0,3,7,27] ?_;refine Zx<|AV Y (fun I=>by cases I)<|fun I=>AC<|Zx<|A0<|Zm Y<|Zh 8 FG V rfl A5 Y<|Zl AE Y ?_;refine Xr [_,_] Y call59 Y V (Nz gm base hb ⟨gy,by omega⟩) ?_;rw [AK af,<-U,<-X,<-G];refine Zm Y<|Zd Y V<|Zd Y V<|Za Y<|A3 Y<|A0<|Zh 0 FG V rfl C7 Y<|Zo Wh (AA (cs:=#[_,_,_,_,_,_,_]) Dg C7 Y As (by exact (by apply HI.1;rfl))) ?_;refine Zh 9 FG V rfl Mb Y<|Zl S8 Y ?_;refine Zc [_,_] Y call90 Y V (WV hL q Z) ?_;rintro _ _ ⟨_,⟨l5,sr,rfl,B,rfl⟩,rfl⟩;obtain ⟨ic,bn,rfl⟩:=B.form;refine Zm Y<|Zd Y V<|Zd Y V<|Ze (Al G4 #[_,_,_])<|AD fun bs=>Xe (Xw Ax #[.slice ic r0.rows.length bn,I4 r0.val,.bool r0.fnd]) ?_;refine AG Y<|Zn [3,7,9,10,11,12] ?_;refine Zx<|Zq<|A0<|Zm Y<|Zv (Br Y)<|Zm Y<|Af (t:=45) Y V (fun g2=>by cases g2)<|fun g2=>Zf Y Y<|Yg (Br Y)<|Zv (AL Y Y)<|A4<|AV Y (fun J=>by cases J)<|fun J=>AC<|Zx<|Zq ?_;have ek:=DT B A1
 refine CK (s1:=c.sW) (s2:=c.M) Wo Wo ?_;refine Zg<|Zh 0 FG V rfl C7 Y<|Zo Wh (AA (cs:=#[_,_,_,_,_,_,_]) Dg C7 Y As (by exact (by apply HI.1;rfl))) ?_;refine Zo Wh (AA (cs:=#[_,_,_]) Bm Ax Y As (by exact BN V)) ?_;refine Zh 8 FG V rfl A5 Y<|Zl AE Y ?_;refine Zm Y<|Zc [_,_,_,_] Y call91 Y V (QV q hq base A1 ax A1 O ek A1 gq) ?_;rintro _ _ ⟨_,⟨l8,s3,rfl,g,rfl⟩,rfl⟩;obtain ⟨wq,wc,rfl⟩:=g.form;have cu:=MH g
 refine Zm Y<|Zd Y rfl<|Zd Y rfl<|Zd Y rfl<|Xe (BM Ax Y Y HR Wu (by exact (rfl:_=(#[.slice wq (BC q r0 base wl).1.rows.length wc,I4 (BC q r0 base wl).1.val,.bool (BC q r0 base wl).1.fnd]:Array Value))) E7 As (by exact BA _)) ?_;refine Za Y<|AG Y<|Zn [3,7,11,12,13] ?_;refine Zx<|Zq<|jJ (s1:=c.sW) (s2:=c.M) (by repeat(first|exact Uf.here _|apply Uf.there)) ?_;refine Az (n:=11) (0::0::2::0::0::30::62::0::7::383::1023::[]) 68 A6 A6 V<|A2 0 V (AQ Y)<|E6 1 V Wh (AA (cs:=#[_,_,_,_,_,_,_,_,_,_]) T0 H4 Y As (by exact BN V)) ?_;refine E6 3 V Wh (AA (cs:=#[_,_,_]) Bm Ax Y As (by exact BN V)) ?_;refine A2 4 V (AQ Y)<|A2 7 V (AQ Y)<|Zz (l:=[2])<|B1 [true,false] [(3,(_,_))] V rfl (Zw [_] Y call66 Y V (Qg q te base hL cO W)) ?_ Bv Ag;rintro _ _ ⟨_,⟨rq,rc,s1,rfl,d9,rfl⟩,rfl⟩;refine B5<|A2 5 V (BK (vs:=[(0,.agg #[I4 q.kd,I4 q.tb,I4 q.cl,I4 q.lo,I4 q.hi,I4 q.bq,I4 q.ot,I4 te,I4 base,.slice rq L.length rc]),(2,.agg #[.slice wq (BC q r0 base wl).1.rows.length wc,I4 (BC q r0 base wl).1.val,.bool (BC q r0 base wl).1.fnd]),(3,I4 (BC q r0 base wl).2.1)]) (cs:=#[I4 q.kd,I4 q.tb,I4 q.cl,I4 q.lo,I4 q.hi,I4 q.bq,I4 q.ot,I4 te,I4 base,.slice rq L.length rc,I4 0,.slice wq (BC q r0 base wl).1.rows.length wc,I4 (BC q r0 base wl).1.val,.bool (BC q r0 base wl).1.fnd,I4 (BC q r0 base wl).2.1]) Y (AY (pl:=#[(0,10),(10,1),(11,3),(14,1)]) zeroValue126 HL (fun _=>by kernel_rfl) A6))<|A2 8 V (Aw Y)<|Zz (l:=[6])<|B1 [false] [] V rfl (Bx #[I4 q.kd,I4 q.tb,I4 q.cl,I4 q.lo,I4 q.hi,I4 q.bq,I4 q.ot,I4 te,I4 base,.slice rq L.length rc,I4 0,.slice wq (BC q r0 base wl).1.rows.length wc,I4 (BC q r0 base wl).1.val,.bool (BC q r0 base wl).1.fnd,I4 (BC q r0 base wl).2.1]) ?_ (fun _ _ h=>h.elim) Ag;rintro _ _ ⟨b,rfl,rfl⟩;refine B5<|A2 9 V (Aw Y)<|A2 10 V (Aw Y)<|Ai<|Zx<|AJ<|iW V results44 Y Y Y (by exact ⟨b,rq,rc,wq,wc,s1,s3,V,d9,DT g cu,V⟩)
theorem NR{r:CF}(h:(BC q r base l).2.2=true):GD q base 0 (r,base) l=some ((BC q r base l).1,(BC q r base l).2.1):=LZ h
theorem WL{c:CZ}(h:c.okb){m:List A9}(X:∀q∈c.M,q∈m):∀(i:Nat) (r:BU),c.win[i]?=some r->r.p=c.pos -(c.win.length:Int)+1+(i:Int)/\Ck m (.slice r.q r.cs.length r.cap) r.cs/\EG r.p r.cs:=fun i r Z=>by
 obtain ⟨J,⟨p,cap,e,W,U⟩,O⟩:=h.wp i r Z;refine ⟨J,⟨p,cap,e,W,fun j x hx=>?_⟩,O⟩;obtain ⟨g,off,cur,T,zz,B,G,I⟩:=U j x hx;exact ⟨g,off,cur,T,zz,B,X _ G,I⟩
theorem aD(h:∀y∈its,y.key≠K):(its.filter fun y=>y.key≠K)=its:=jt.2 fun y g=>by simpa using h y g
theorem qC{PL:List Bt}(m:∀k,k∈PL.map (·.key)↔k∈its.map ItM.key)(e:Bt)(x:ItM)(g:e.key=x.key):∀k,k∈(PL++[e]).map (·.key)↔k∈(its++[x]).map ItM.key:=by
 intro k;rw [BW,BW,B9,B9,m k,LR,LR,g]
def I9(b:Nat)(id:Int)(q:QM)(tn base:Int)(rq:Option Addr)(rc:Nat)(L:List RP)(R:CF×Int×Bool)(wq:Option Addr)(wc:Nat):ItM:=⟨b,id,q,tn,base,rq,rc,L,R.1,wq,wc,R.2.1⟩
theorem TD{b:Nat}{id:Int}(X:BI q){tn:Int}(Z:0<=tn/\tn<=1000000)(W:0<=base/\base<=10000){rq wq:Option Addr}{rc wc:Nat}(G:L.length<=1000000)(m:∀x∈L,x.fits)(I:EX q L=some r0)(J:(c.pos -base).toNat<=c.win.length)(B:(BC q r0 base (DC c.pos base c.win)).2.2=true){O g:List A9}
 (U:Fj O (.slice rq L.length rc) L)(h2:E8 g (.slice wq (BC q r0 base (DC c.pos base c.win)).1.rows.length wc) (BC q r0 base (DC c.pos base c.win)).1.rows):(I9 b id q tn base rq rc L (BC q r0 base (DC c.pos base c.win)) wq wc).ok O g c.pos c.win:=
 ⟨X,W,Z,U,G,m,h2,J,r0,I,NR B⟩
theorem Tq(p:Option Addr)(n c:Nat)(v f:Value)(hv:v.oneCell'=true/\v.cells=#[v])(B:f.oneCell'=true/\f.cells=#[f])(G:n<=1000000):BJ prog 46 #[.agg #[.slice p n c,v,f]] [] (I4 (1+(n:Int))):=by
 refine Se func46 ntmps46 [0] ?_;intro u R;refine A0<|Ze (Bx #[_,_,_])<|AD fun g=>A3 Y<|A0<|Zh 0 CC V rfl C5 Y<|Zl Fl Y ?_;refine Zv (Ab B6 Y)<|Ya (m:=1) Y Y<|A3 Y<|AJ<|AO V results46 Y (by exact ⟨V,V⟩)
theorem vk(h:c.ok)(hq:BI q)(hk:k<c.ns)(Z:k<=1000000)(base:Int)(X:0<=base/\base<=10000)(W:Fj ME (.slice pg L.length cg) L)(I:L.length<=1000000)(B:∀x∈L,x.fits)(J:EX q L=some r0)(O:¬(c.pos -base).toNat<=c.win.length)(G:TypeId)(U:Nat×Nat):Ba prog 14 #[.pointer (some ⟨c.cp,0,none⟩),.agg #[I4 q.kd,I4 q.tb,I4 q.cl,I4 q.lo,I4 q.hi,I4 q.bq,I4 q.ot,I4 (k:Int),I4 base,.slice pg L.length cg]] [[(c.cp,.cells c.A20 120 (0,0))],c.sW,c.M,ME,[(1,.cells (Lib.pow10Tab.map fun z=>Value.int .u64 z).toArray G U)]] (fun w H'=>w= .bool false/\H'=[[(c.cp,.cells c.A20 120 (0,0))],c.sW,c.M,ME,[(1,.cells (Lib.pow10Tab.map fun z=>Value.int .u64 z).toArray G U)]]):=by
 refine Se func14 ntmps14 [0,1] ?_;intro u R;refine A0<|Ze (Bx #[I4 q.kd,I4 q.tb,I4 q.cl,I4 q.lo,I4 q.hi,I4 q.bq,I4 q.ot,I4 (k:Int),I4 base,.slice pg L.length cg])<|AD fun be=>A3 Y<|Zq<|A0<|Zm Y<|Zv (Be Pr Y Y)<|A4<|AV Y (fun m=>by cases m)<|fun m=>AC<|Zx<|A0<|Zm Y<|Zo Wh (AA (cs:=#[I4 q.kd,I4 q.tb,I4 q.cl,I4 q.lo,I4 q.hi,I4 q.bq,I4 q.ot,I4 (k:Int),I4 base,.slice pg L.length cg]) T0 H4 Y Wn (by exact BN V)) ?_;refine Zc [_,_] Y call44 Y V (w9 h hq (k:Int) base X W I B J O G U) ?_;rintro _ _ ⟨_,⟨rfl,rfl⟩,rfl⟩;refine Zm Y<|Zd Y V<|Zd Y V<|Zd Y V<|Za Y<|Za Y<|AG Y<|Zn [0,3,5,6,7] ?_;refine Zx<|Zq<|A0<|Zm Y<|Zv (Br Y)<|A4<|AV Y (fun g=>?_) (fun g=>?_)
 ·
  refine A0<|A3 Y<|AJ<|Zt<|AO V results14 Y (by exact ⟨V,V⟩)
 cases g
theorem pU(h:c.ok)(hq:BI q)(hk:k<c.ns)(ax:k<=1000000)(base:Int)(hb:0<=base/\base<=10000)(X:Fj ME (.slice pg L.length cg) L)(J:L.length<=1000000)(B:∀x∈L,x.fits)(O:EX q L=some r0)(U:(c.pos -base).toNat<=c.win.length)(G:(BC q r0 base (DC c.pos base c.win)).2.2=false)(I:TypeId)(W:Nat×Nat):Ba prog 14 #[.pointer (some ⟨c.cp,0,none⟩),.agg #[I4 q.kd,I4 q.tb,I4 q.cl,I4 q.lo,I4 q.hi,I4 q.bq,I4 q.ot,I4 (k:Int),I4 base,.slice pg L.length cg]] [[(c.cp,.cells c.A20 120 (0,0))],c.sW,c.M,ME,[(1,.cells (Lib.pow10Tab.map fun z=>Value.int .u64 z).toArray I W)]] (fun w H'=>w= .bool false/\H'=[[(c.cp,.cells c.A20 120 (0,0))],c.sW,c.M,ME,[(1,.cells (Lib.pow10Tab.map fun z=>Value.int .u64 z).toArray I W)]]):=by
 refine Se func14 ntmps14 [0,1] ?_;intro u R;refine A0<|Ze (Bx #[I4 q.kd,I4 q.tb,I4 q.cl,I4 q.lo,I4 q.hi,I4 q.bq,I4 q.ot,I4 (k:Int),I4 base,.slice pg L.length cg])<|AD fun be=>A3 Y<|Zq<|A0<|Zm Y<|Zv (Be Pr Y Y)<|A4<|AV Y (fun m=>by cases m)<|fun m=>AC<|Zx<|A0<|Zm Y<|Zo Wh (AA (cs:=#[I4 q.kd,I4 q.tb,I4 q.cl,I4 q.lo,I4 q.hi,I4 q.bq,I4 q.ot,I4 (k:Int),I4 base,.slice pg L.length cg]) T0 H4 Y Wn (by exact BN V)) ?_;refine Zc [_,_] Y call44 Y V (RF h hq (k:Int) base hb X J B O U I W) ?_;rintro _ _ ⟨_,⟨b,rq,rc,wq,wc,s1,s2,rfl,Z,af,rfl⟩,rfl⟩;rw [G];refine Zm Y<|Zd Y V<|Zd Y V<|Zd Y V<|Za Y<|Za Y<|AG Y<|Zn [0,3,5,6,7] ?_;refine Zx<|Zq<|A0<|Zm Y<|Zv (Br Y)<|A4<|AV Y (fun g=>?_) (fun g=>?_)
 ·
  refine A0<|A3 Y<|AJ<|Zt<|AO V results14 Y (by exact ⟨V,V⟩)
 cases g
theorem pR(h:c.ok)(hq:BI q)(hk:k<c.ns)(cu:k<=1000000)(base:Int)(hb:0<=base/\base<=10000)(hL:Fj ME (.slice pg L.length cg) L)(O:L.length<=1000000)(B:∀x∈L,x.fits)(X:EX q L=some r0)(Z:(c.pos -base).toNat<=c.win.length)(G:(BC q r0 base (DC c.pos base c.win)).2.2=true)(hx:x∈c.its)(af:x.key=str (Cr q))(cO:base<=x.base)(J:TypeId)(zp:Nat×Nat):Ba prog 14 #[.pointer (some ⟨c.cp,0,none⟩),.agg #[I4 q.kd,I4 q.tb,I4 q.cl,I4 q.lo,I4 q.hi,I4 q.bq,I4 q.ot,I4 (k:Int),I4 base,.slice pg L.length cg]] [[(c.cp,.cells c.A20 120 (0,0))],c.sW,c.M,[(c.mi,.map c.esI c.ckI)],c.SI,ME,[(1,.cells (Lib.pow10Tab.map fun z=>Value.int .u64 z).toArray J zp)]] (fun w H'=>w= .bool true/\H'=[[(c.cp,.cells c.A20 120 (0,0))],c.sW,c.M,[(c.mi,.map c.esI c.ckI)],c.SI,ME,[(1,.cells (Lib.pow10Tab.map fun z=>Value.int .u64 z).toArray J zp)]]):=by
 have W:=h.its.get hx;rw [af]at W;have U:(x.b,Obj.cells x.A19 126 (0,0))∈c.SI:=h.its.sub x hx
 refine Se func14 ntmps14 [0,1] ?_;intro u R;refine A0<|Ze (Bx #[I4 q.kd,I4 q.tb,I4 q.cl,I4 q.lo,I4 q.hi,I4 q.bq,I4 q.ot,I4 (k:Int),I4 base,.slice pg L.length cg])<|AD fun be=>A3 Y<|Zq<|A0<|Zm Y<|Zv (Be Pr Y Y)<|A4<|AV Y (fun m=>by cases m)<|fun m=>AC<|Zx<|A0<|Zm Y<|Zo Wh (AA (cs:=#[I4 q.kd,I4 q.tb,I4 q.cl,I4 q.lo,I4 q.hi,I4 q.bq,I4 q.ot,I4 (k:Int),I4 base,.slice pg L.length cg]) T0 H4 Y Wn (by exact BN V)) ?_;refine Zc [_,_] Y call44 Y V (RF h hq (k:Int) base hb hL O B X Z J zp) ?_;rintro _ _ ⟨_,⟨b,rq,rc,wq,wc,s1,s2,rfl,ax,bn,rfl⟩,rfl⟩;rw [G];refine Zm Y<|Zd Y V<|Zd Y V<|Zd Y V<|Za Y<|Za Y<|AG Y<|Zn [0,3,5,6,7] ?_;refine Zx<|Zq<|A0<|Zm Y<|Zv (Br Y)<|A4<|AV Y (fun g=>by cases g)<|fun g=>AC<|Zx<|A0<|Zm Y<|Zp Y V<|Zh 4 Ek V rfl Q2 Y<|Zl NO Y ?_;refine Zm Y<|Zo Wh (Dy (Dn GO (D:=fun _=>True)) Pc Tr h.its.im (fun _ _=>trivial) (trivial) (⟨by rw [W];first|done|rfl,by rw [W];first|done|rfl⟩) Y Y) ?_;refine Zm Y<|Zd Y V<|Zd Y V<|Za Y<|AG Y<|Zn [0,3,5,6,8,9] ?_;refine Zx<|Zq<|AP<|Zq<|Az (n:=12) (0::1::3::7::15::31::63::3::131::511::1023::2047::[]) 0 A6 A6 V<|A2 0 V (AQ Y)<|A2 1 V (AQ Y)<|Cf (t:=36) Y (fun I=>?_) (fun I=>?_)
 ·
  rw [I];refine An 2 V (AQ Y)<|An 3 V (Ap Y V)<|An 4 V (AB (off:=0) HL V rfl H4 Y)<|An 5 V (AB (off:=8) FG V rfl A5 Y)<|Ot (D':=127) 6 Y V rfl V (F8 Wo (U)) (BO AE Y AM) ?_;refine An 7 V (AB (off:=8) FG V rfl A5 Y)<|DQ 8 V Wh (BO AE Y AM) ?_;refine An 9 V (H5 Y Y)<|A2 10 V (AX Y Y)<|A2 11 V (Aw Y)<|Ai<|Zx<|Av Y (fun h3=>?_) (fun h3=>?_)
  ·
   refine A0<|AG Y<|Zn [4] ?_;refine Zx<|AJ<|Ac<|Zt<|AO V results14 Y (by exact ⟨V,V⟩)
  exfalso;omega
 rw [I];cases I
set_option maxHeartbeats 1000000 in
theorem pQ(h:c.ok)(G:BI q)(hk:k<c.ns)(sj:k<=1000000)(base:Int)(hb:0<=base/\base<=10000)(hL:Fj ME (.slice pg L.length cg) L)(kv:L.length<=1000000)(cu:∀x∈L,x.fits)(gm:EX q L=some r0)(pz:(c.pos -base).toNat<=c.win.length)(I:(BC q r0 base (DC c.pos base c.win)).2.2=true)(qj:c.next<1000000000)(ax:∀y∈c.its,y.key≠str (Cr q))(o9:c.its.length<500)(gy:(1+((BC q r0 base (DC c.pos base c.win)).1.rows.length:Int))<=c.z.fr)(Tp:TypeId)(zp:Nat×Nat):Ba prog 14 #[.pointer (some ⟨c.cp,0,none⟩),.agg #[I4 q.kd,I4 q.tb,I4 q.cl,I4 q.lo,I4 q.hi,I4 q.bq,I4 q.ot,I4 (k:Int),I4 base,.slice pg L.length cg]] [[(c.cp,.cells #[I4 c.pos,.slice c.wq c.win.length c.wc,.pointer (some ⟨c.z.r,0,none⟩),.pointer (some ⟨c.ip,0,none⟩),.map (some c.mi),.map (some c.mkb),I4 c.next] 120 (0,0))],c.sW,c.z.S,[(c.mb,.map c.esP c.ckP)],c.su,[(c.ip,.cells #[.map (some c.mq),c.lv] 186 (0,0))],[(c.mq,.map c.esQ c.ckQ)],c.ML,[(c.mi,.map c.esI c.ckI)],[(c.mkb,.map c.esK c.ckK)],c.SI,c.M,c.MR,ME,[(1,.cells (Lib.pow10Tab.map fun z=>Value.int .u64 z).toArray Tp zp)]] (fun w H'=>w= .bool true/\∃(d:CZ) (b:Nat) (rq wq:Option Addr) (rc wc:Nat) (s:List A9),d.ok/\c.like d/\d.next=c.next+1/\d.M=s++c.M/\d.its=c.its++[(I9 b (c.next+1) q (k:Int) base rq rc L (BC q r0 base (DC c.pos base c.win)) wq wc)]/\(∀e∈d.PL,e∈c.PL\/e.sz=(1+((BC q r0 base (DC c.pos base c.win)).1.rows.length:Int)))/\H'=[[(d.cp,.cells #[I4 d.pos,.slice d.wq d.win.length d.wc,.pointer (some ⟨d.z.r,0,none⟩),.pointer (some ⟨d.ip,0,none⟩),.map (some d.mi),.map (some d.mkb),I4 d.next] 120 (0,0))],d.sW,d.z.S,[(d.mb,.map d.esP d.ckP)],d.su,[(d.ip,.cells #[.map (some d.mq),d.lv] 186 (0,0))],[(d.mq,.map d.esQ d.ckQ)],d.ML,[(d.mi,.map d.esI d.ckI)],[(d.mkb,.map d.esK d.ckK)],d.SI,d.M,d.MR,ME,[(1,.cells (Lib.pow10Tab.map fun z=>Value.int .u64 z).toArray Tp zp)]]):=by
 have hg:=h.its.none ax;have p8:=h.its.len_eq.length_eq
 rw [B2,B2]at p8;have qo:(BC q r0 base (DC c.pos base c.win)).1.rows.length<=1000000:=by
  obtain ⟨_,qw,qx⟩:=LM gm;have sJ:=h.wl
  have sw:(DC c.pos base c.win).length<=64:=by unfold DC;rw [C3];omega
  have h9:=OU _ 0 (r0,base) _ 1000000000000000000 200 (NR I) (fun y B=>by have:=PS h.tookb (r:=y) (I0 B);omega) qx AN qw;have r9:(BC q r0 base (DC c.pos base c.win)).1.rows.length<=_:=h9.2
  omega
 refine Se func14 ntmps14 [0,1] ?_;intro u R;refine A0<|Ze (Bx #[I4 q.kd,I4 q.tb,I4 q.cl,I4 q.lo,I4 q.hi,I4 q.bq,I4 q.ot,I4 (k:Int),I4 base,.slice pg L.length cg])<|AD fun be=>A3 Y<|Zq<|A0<|Zm Y<|Zv (Be Pr Y Y)<|A4<|AV Y (fun l9=>by cases l9)<|fun l9=>AC<|Zx<|A0<|Zm Y<|Zo Wh (AA (cs:=#[I4 q.kd,I4 q.tb,I4 q.cl,I4 q.lo,I4 q.hi,I4 q.bq,I4 q.ot,I4 (k:Int),I4 base,.slice pg L.length cg]) T0 H4 Y Wn (by exact BN V)) ?_;refine Zc [_,_] Y call44 Y V (RF h G (k:Int) base hb hL kv cu gm pz Tp zp) ?_;rintro _ _ ⟨_,⟨b,rq,rc,wq,wc,s1,s2,rfl,qa,qb,rfl⟩,rfl⟩;rw [I];refine Zm Y<|Zd Y V<|Zd Y V<|Zd Y V<|Za Y<|Za Y<|AG Y<|Zn [0,3,5,6,7] ?_;refine Zx<|Zq<|A0<|Zm Y<|Zv (Br Y)<|A4<|AV Y (fun l5=>by cases l5)<|fun l5=>AC<|Zx<|A0<|Zm Y<|Zp Y V<|Zh 4 Ek V rfl Q2 Y<|Zl NO Y ?_;refine Zm Y<|Zo Wh (Dy (Dn GO (D:=fun _=>True)) Pc Tr h.its.im (fun _ _=>trivial) (trivial) (⟨by rw [hg];first|done|rfl,by rw [hg];first|done|rfl⟩) Y Y) ?_;refine Zm Y<|Zd Y V<|Zd Y V<|Za Y<|AG Y<|Zn [0,3,5,6,8,9] ?_;refine Zx<|Zq<|AP<|Zq<|Az (n:=12) (0::1::3::7::15::31::63::3::131::511::1023::2047::[]) 0 A6 A6 V<|A2 0 V (AQ Y)<|A2 1 V (AQ Y)<|Cf (t:=36) Y (fun g1=>?_) (fun g1=>?_)
 ·
  rw [g1];cases g1
 rw [g1];refine AF 2 V<|AF 3 V<|AF 4 V<|AF 5 V<|AF 6 V<|AF 7 V<|AF 8 V<|AF 9 V<|A2 10 V (AL Y Y)<|A2 11 V (Aw Y)<|Ai<|Zx<|D5 Y<|A0<|Zm Y<|AG Y<|Zn [0,5,6,8,46] ?_;refine Zx<|AV Y (fun h4=>by cases h4)<|fun h4=>A0<|Zm Y<|Zp Y V<|Zh 4 Ek V rfl Q2 Y<|Zl NO Y ?_;refine Zo Wh (Q5 Pc h.its.im Y) ?_;refine Zv (Fw (n:=500) Y Y)<|A3 Y<|Av Y (fun h5=>by omega)<|fun h5=>AC<|A8<|Zx<|Zq<|GM (s:=c.z.S) Wo (fun hd=>?_);rw [Bj.keys]at hd;refine Az (n:=21) (0::1::3::7::0::16::48::112::240::0::0::1024::3072::7168::15360::32767::65535::131071::131071::262143::1048575::[]) 49152 A6 A6 V<|A2 0 V (AQ Y)<|A2 1 V (Ap Y V)<|A2 2 V (AB (off:=2) Ek V rfl sizeOf113 Y)<|B3 3 V IF Y ?_;refine A2 4 V (AQ Y)<|A2 5 V (Ap Y V)<|A2 6 V (AB (off:=0) HL V rfl H4 Y)<|A2 7 V (AB (off:=7) FG V rfl A5 Y)<|B3 8 V AE Y ?_;refine A2 9 V (AQ Y)<|A2 10 V (AQ Y)<|A2 11 V (Ap Y V)<|A2 12 V (AB (off:=11) HL V rfl Ax Y)<|E6 13 V Wh (AA (cs:=#[_,_,_]) Bm Ax Y As (by exact (by apply HI.1;rfl))) ?_;refine Yz 14 15360 32767 [13,8,3] [false,true,true] [(8,(_,_)),(3,(_,_))] V Y V rfl V rfl (Zu [_] Y call46 Y V (Tq wq (BC q r0 base (DC c.pos base c.win)).1.rows.length wc (I4 (BC q r0 base (DC c.pos base c.win)).1.val) (.bool (BC q r0 base (DC c.pos base c.win)).1.fnd) ⟨V,V⟩ ⟨V,V⟩ qo))<|CM<|B5<|Zz (l:=[15]) ?_;have p9:∀e∈c.PL,e.key≠str (Cr q):=fun e he hk=>by
  obtain ⟨y,B,qz⟩:=Bk.1 ((h.pk e.key).1 (DM he));exact ax y B (qz.trans hk)
 refine B1 [false,false] [] V rfl (Zw [_,_,_,_] Y call45 Y V (vZ h.pool hd hk A1 gy (K:=str (Cr q)) p9)) ?_ Bv Ag;rintro _ _ ⟨_,⟨rfl,z2,ep2,cp2,lp2,su2,bp,ql,d9,pq,rfl⟩,rfl⟩;refine B5<|A2 16 V (AQ Y)<|A2 17 V (Bw Y V)<|A2 18 V (Bw Y V)<|A2 19 V (Aw Y)<|A2 20 V (Aw Y)<|Ai<|Zn [0,5,6,10,11] ?_;refine Zx<|Zq<|A0<|Zm Y<|Zv (Br Y)<|A4<|AV Y (fun l8=>by cases l8)<|fun l8=>AC<|Zx<|Zq<|Zq<|BV<|Zg<|Zm Y<|Zm Y<|Ze (Ah (vs:=[_]) (cs:=[_]) CN F0 HM Y V rfl V rfl V)<|AD fun ga=>Ze (EQ (by_:=16) (news:=[_]) CN (V:Tryz.prog.info? 9=some Tryz.t9) V rfl V rfl Y (Fu 9) Y Wo Wh AM V Fm AN AN AN) ?_;rintro _ _ ⟨sq,q9,rfl⟩;obtain ⟨gq,cq,rfl⟩:=q9.form;rcases q9 with⟨_,h0,_⟩|⟨gq2,capq,curq,zq,hvq,rfl,hleq,hcmq,hcsq,htkq,hfrq⟩
 · cases h0
 injection hvq with hv1 hv2 hv3
 subst hv1 hv3;have o8:curq[0]?=some (.string (str (Cr q))):=by
  have h:=congrArg (fun l=>l[0]?) htkq;simpa using h
 refine Zv (Ab CN Y)<|Zm Y<|A4<|AP<|Zb [90,0,5,6,88,89] ?_;refine BB (e0:=[(90,_)]) (fun m e H=>∃(i:Nat) (bn:Value) (cO:List A9) (Z:Array MapEntry) (U:Nat) (j5:List (Int×Value)) (W:Array MapEntry) (J:Nat) (ic:List (ByteArray×Value)) (X:Array MapEntry) (O:Nat) (j3:List (Int×Value)),m=1 -i/\(i<=1/\GQ (if i=0 then c.its else c.its) c.next Z U j5 bn cO W J ic X O j3 c.SI)/\e=[(90,I4 (i:Int))]/\H=[[(c.ip,.cells #[.map (some c.mq),bn] 186 (0,0))],[(c.mq,.map Z U)],[(c.mi,.map W J)],[(c.mkb,.map X O)]]) (by exact ⟨0,c.lv,c.ML,c.esQ,c.ckQ,c.lmQ,c.esI,c.ckI,c.lmI,c.esK,c.ckK,c.lmK,V,⟨by decide,h.its⟩,V,V⟩) Wp ?_;rintro _ _ _ ⟨i,bn,cO,Z,U,j5,W,J,ic,X,O,j3,rfl,⟨hi,g⟩,rfl,rfl⟩;refine Zq<|BV<|Zg<|Zv (Au Y Y)<|A4<|Zq<|Av Y (fun af=>?_) (fun af=>?_)
 ·
  obtain rfl:i=0:=by simp at af;omega
  rw [AK rfl]at g;refine AC<|Zx<|Zq<|AP<|Zq<|BV<|Zg<|BX (BS CN F0 Y Y (by first|omega|decide|(simp;done)|(simp at af⊢;omega)))<|Zl HC Y (hv:=by exact o8) ?_;refine A3 Y<|Zg<|Zm Y<|Zm Y<|Xr [_,_] Y call47 Y V (mK g ax) ?_;refine Z0<|A8<|Zx<|BV<|Zg<|Ya (n:=1) Y Y<|Zm Y<|Z0<|Zn [90,0,5,6,88,89] ?_;refine Aa (e':=[(90,_)]) (by exact ⟨1,bn,cO,Z,U,j5,W,J,ic,X,O,j3,rfl,⟨by decide,by rw [AH AN];exact g⟩,rfl,rfl⟩)
 obtain rfl:i=1:=by simp at af;omega
 rw [AH AN]at g;refine Ay<|Zt<|Zt<|AR<|Zx<|A0<|Zm Y<|Zm Y<|Zm Y<|Zc [_,_,_] Y call48 Y V (Mw g (x:=(I9 b (c.next+1) q (k:Int) base rq rc L (BC q r0 base (DC c.pos base c.win)) wq wc)) ax V qj o9 G) ?_;rintro _ _ ⟨_,⟨rfl,eq5,cq5,lq5,ei5,ci5,li5,ek5,ck5,lk5,ek,rfl⟩,rfl⟩;refine A4<|Zq<|CK (s1:=s2) (s2:=c.MR) Wo Wo ?_;refine CK (s1:=s1) (s2:=c.M) Wo Wo ?_;refine Zg<|A3 Y<|AJ<|AO V results14 Y (by
  refine ⟨rfl,({c with z:=z2,PL:=c.PL++[⟨bp,str (Cr q),(k:Int),(1+((BC q r0 base (DC c.pos base c.win)).1.rows.length:Int))⟩],esP:=ep2,ckP:=cp2,lmP:=lp2,su:=su2,next:=c.next+1,its:=c.its++[(I9 b (c.next+1) q (k:Int) base rq rc L (BC q r0 base (DC c.pos base c.win)) wq wc)],esQ:=eq5,ckQ:=cq5,lmQ:=lq5,lv:= .pointer none,ML:=[],esI:=ei5,ckI:=ci5,lmI:=li5,esK:=ek5,ckK:=ck5,lmK:=lk5,SI:=c.SI++[(I9 b (c.next+1) q (k:Int) base rq rc L (BC q r0 base (DC c.pos base c.win)) wq wc).ch],M:=s1++c.M,MR:=s2++c.MR}:CZ),b,rq,wq,rc,wc,s1,⟨⟨h.pos,h.win,h.wl,WL h.tookb (fun q G=>by simp [G]),pq,qC h.pk _ _ rfl,ek,fun y B=>?_⟩,fun y B=>?_⟩,⟨rfl,rfl,rfl,rfl,d9⟩,rfl,rfl,rfl,fun e he=>(by rcases B9.1 he with h9|h9;exact .inl h9;exact .inr (by rw [BT.1 h9])),?_⟩
  · rcases B9.1 B with B|B
    · exact h.tns y B
    · rw [BT.1 B];show _<_;exact (by simp only [I9];omega)
  · rcases B9.1 B with B|B
    · exact (h.all y B).mono (fun q G=>by simp [G]) (fun q G=>by simp [G])
    · rw [BT.1 B];exact TD G ⟨by omega,by omega⟩ hb kv cu gm pz I (qa.mono fun q G=>by simp [G]) (qb.mono fun q G=>by simp [G])
  · simp only [ql];rfl)
set_option maxHeartbeats 1000000 in
theorem kE(h:c.ok)(G:BI q)(hk:k<c.ns)(zl:k<=1000000)(base:Int)(hb:0<=base/\base<=10000)(hL:Fj ME (.slice pg L.length cg) L)(l9:L.length<=1000000)(X:∀x∈L,x.fits)(j3:EX q L=some r0)(qb:(c.pos -base).toNat<=c.win.length)(J:(BC q r0 base (DC c.pos base c.win)).2.2=true)(vw:c.next<1000000000)(hx:x∈c.its)(U:x.key=str (Cr q))(zt:x.base<base)(y5:(1+((BC q r0 base (DC c.pos base c.win)).1.rows.length:Int))<=c.z.fr)(Tp:TypeId)(zp:Nat×Nat):Ba prog 14 #[.pointer (some ⟨c.cp,0,none⟩),.agg #[I4 q.kd,I4 q.tb,I4 q.cl,I4 q.lo,I4 q.hi,I4 q.bq,I4 q.ot,I4 (k:Int),I4 base,.slice pg L.length cg]] [[(c.cp,.cells #[I4 c.pos,.slice c.wq c.win.length c.wc,.pointer (some ⟨c.z.r,0,none⟩),.pointer (some ⟨c.ip,0,none⟩),.map (some c.mi),.map (some c.mkb),I4 c.next] 120 (0,0))],c.sW,c.z.S,[(c.mb,.map c.esP c.ckP)],c.su,[(c.ip,.cells #[.map (some c.mq),c.lv] 186 (0,0))],[(c.mq,.map c.esQ c.ckQ)],c.ML,[(c.mi,.map c.esI c.ckI)],[(c.mkb,.map c.esK c.ckK)],c.SI,c.M,c.MR,ME,[(1,.cells (Lib.pow10Tab.map fun z=>Value.int .u64 z).toArray Tp zp)]] (fun w H'=>w= .bool true/\∃(d:CZ) (b:Nat) (rq wq:Option Addr) (rc wc:Nat) (s:List A9),d.ok/\c.like d/\d.next=c.next+1/\d.M=s++c.M/\d.its=(c.its.filter fun y=>y.key≠str (Cr q))++[(I9 b (c.next+1) q x.tn base rq rc L (BC q r0 base (DC c.pos base c.win)) wq wc)]/\(∀e∈d.PL,e∈c.PL\/e.sz=(1+((BC q r0 base (DC c.pos base c.win)).1.rows.length:Int)))/\H'=[[(d.cp,.cells #[I4 d.pos,.slice d.wq d.win.length d.wc,.pointer (some ⟨d.z.r,0,none⟩),.pointer (some ⟨d.ip,0,none⟩),.map (some d.mi),.map (some d.mkb),I4 d.next] 120 (0,0))],d.sW,d.z.S,[(d.mb,.map d.esP d.ckP)],d.su,[(d.ip,.cells #[.map (some d.mq),d.lv] 186 (0,0))],[(d.mq,.map d.esQ d.ckQ)],d.ML,[(d.mi,.map d.esI d.ckI)],[(d.mkb,.map d.esK d.ckK)],d.SI,d.M,d.MR,ME,[(1,.cells (Lib.pow10Tab.map fun z=>Value.int .u64 z).toArray Tp zp)]]):=by
 have hg:=h.its.get hx;rw [U]at hg;have p9:(x.b,Obj.cells #[I4 x.q.kd,I4 x.q.tb,I4 x.q.cl,I4 x.q.lo,I4 x.q.hi,I4 x.q.bq,I4 x.q.ot,I4 x.tn,I4 x.base,.slice x.rq x.L.length x.rc,I4 x.id,.slice x.wq x.res.rows.length x.wc,I4 x.res.val,.bool x.res.fnd,I4 x.since] 126 (0,0))∈c.SI:=h.its.sub x hx
 have ql:=h.all x hx;have yt:=h.tns x hx
 obtain ⟨k2,vo⟩:∃k2:Nat,x.tn=(k2:Int):=⟨x.tn.toNat,by have:=ql.tn;omega⟩;obtain ⟨y,g,kv⟩:=Bk.1 ((h.pk x.key).2 (DM hx));obtain ⟨L1,L2,ek⟩:=Ut g;have I:=h.pool
 rw [ek]at I;rw [U]at kv;have zi:=h.pool.size g
 have q9:∀z∈(c.its.filter fun y=>y.key≠str (Cr q)),z.key≠str (Cr q):=fun z hz=>by simpa using(F1.1 hz).2
 have j5:(c.its.filter fun y=>y.key≠str (Cr q)).length<500:=by
  have h1:=h.its.len;have h2:(c.its.filter fun y=>y.key≠str (Cr q)).length<c.its.length:=by
   rcases EV (c.its.filter fun y=>y.key≠str (Cr q)).length c.its.length with h3|h3
   · exact h3
   · have h4:=SU.eq_of_length (Nat.le_antisymm (Mu (fun y=>decide (y.key≠str (Cr q))) c.its) h3)
     exact absurd U (q9 x (by rw [h4];exact hx))
  omega
 have wo:(BC q r0 base (DC c.pos base c.win)).1.rows.length<=1000000:=by
  obtain ⟨_,wz,y9⟩:=LM j3;have zn:=h.wl
  have zm:(DC c.pos base c.win).length<=64:=by unfold DC;rw [C3];omega
  have W:=OU _ 0 (r0,base) _ 1000000000000000000 200 (NR J) (fun y g=>by have:=PS h.tookb (r:=y) (I0 g);omega) y9 AN wz;have zk:(BC q r0 base (DC c.pos base c.win)).1.rows.length<=_:=W.2
  omega
 refine Se func14 ntmps14 [0,1] ?_;intro u R;refine A0<|Ze (Bx #[I4 q.kd,I4 q.tb,I4 q.cl,I4 q.lo,I4 q.hi,I4 q.bq,I4 q.ot,I4 (k:Int),I4 base,.slice pg L.length cg])<|AD fun be=>A3 Y<|Zq<|A0<|Zm Y<|Zv (Be Pr Y Y)<|A4<|AV Y (fun p8=>by cases p8)<|fun p8=>AC<|Zx<|A0<|Zm Y<|Zo Wh (AA (cs:=#[I4 q.kd,I4 q.tb,I4 q.cl,I4 q.lo,I4 q.hi,I4 q.bq,I4 q.ot,I4 (k:Int),I4 base,.slice pg L.length cg]) T0 H4 Y Wn (by exact BN V)) ?_;refine Zc [_,_] Y call44 Y V (RF h G (k:Int) base hb hL l9 X j3 qb Tp zp) ?_;rintro _ _ ⟨_,⟨b,rq,rc,wq,wc,s1,s2,rfl,sO,ve,rfl⟩,rfl⟩;rw [J];refine Zm Y<|Zd Y V<|Zd Y V<|Zd Y V<|Za Y<|Za Y<|AG Y<|Zn [0,3,5,6,7] ?_;refine Zx<|Zq<|A0<|Zm Y<|Zv (Br Y)<|A4<|AV Y (fun o8=>by cases o8)<|fun o8=>AC<|Zx<|A0<|Zm Y<|Zp Y V<|Zh 4 Ek V rfl Q2 Y<|Zl NO Y ?_;refine Zm Y<|Zo Wh (Dy (Dn GO (D:=fun _=>True)) Pc Tr h.its.im (fun _ _=>trivial) (trivial) (⟨by rw [hg];first|done|rfl,by rw [hg];first|done|rfl⟩) Y Y) ?_;refine Zm Y<|Zd Y V<|Zd Y V<|Za Y<|AG Y<|Zn [0,3,5,6,8,9] ?_;refine Zx<|Zq<|AP<|Zq<|Az (n:=12) (0::1::3::7::15::31::63::3::131::511::1023::2047::[]) 0 A6 A6 V<|A2 0 V (AQ Y)<|A2 1 V (AQ Y)<|Cf (t:=36) Y (fun g1=>?_) (fun g1=>?_)
 ·
  rw [g1];refine An 2 V (AQ Y)<|An 3 V (Ap Y V)<|An 4 V (AB (off:=0) HL V rfl H4 Y)<|An 5 V (AB (off:=8) FG V rfl A5 Y)<|Ot (D':=127) 6 Y V rfl V (F8 Wo (p9)) (BO AE Y AM) ?_;refine An 7 V (AB (off:=8) FG V rfl A5 Y)<|DQ 8 V Wh (BO AE Y AM) ?_;refine An 9 V (H5 Y Y)<|A2 10 V (AX Y Y)<|A2 11 V (Aw Y)<|Ai<|Zx<|Av Y (fun h3=>by omega)<|fun h3=>A0<|Zm Y<|AG Y<|Zn [0,5,6,8,46] ?_;refine Zx<|AV Y (fun h4=>?_) (fun h4=>?_)
  ·
   refine Zg<|Zm Y<|Zm Y<|Zp Y V<|Zh 0 HL V rfl H4 Y<|Zh 7 FG V rfl A5 Y<|CO (Gf Wo (p9)) (BO AE Y AM) V rfl ?_;refine Zp Y V<|Zh 0 HL V rfl H4 Y<|Zh 7 FG V rfl A5 Y<|Xe (Zs A5 Y Y V (hi:=by(simp;done))) ?_;refine Z0<|A8<|Zx<|Zq<|GM (s:=c.z.S) Wo (fun hd=>?_);rw [Bj.keys]at hd;refine Az (n:=21) (0::1::3::7::0::16::48::112::240::0::0::1024::3072::7168::15360::32767::65535::131071::131071::262143::1048575::[]) 49152 A6 A6 V<|A2 0 V (AQ Y)<|A2 1 V (Ap Y V)<|A2 2 V (AB (off:=2) Ek V rfl sizeOf113 Y)<|B3 3 V IF Y ?_;refine A2 4 V (AQ Y)<|A2 5 V (Ap Y V)<|A2 6 V (AB (off:=0) HL V rfl H4 Y)<|A2 7 V (AB (off:=7) FG V rfl A5 Y)<|B3 8 V AE Y ?_;refine A2 9 V (AQ Y)<|A2 10 V (AQ Y)<|A2 11 V (Ap Y V)<|A2 12 V (AB (off:=11) HL V rfl Ax Y)<|E6 13 V Wh (AA (cs:=#[_,_,_]) Bm Ax Y As (by exact (by apply HI.1;rfl))) ?_;refine Yz 14 15360 32767 [13,8,3] [false,true,true] [(8,(_,_)),(3,(_,_))] V Y V rfl V rfl (Zu [_] Y call46 Y V (Tq wq (BC q r0 base (DC c.pos base c.win)).1.rows.length wc (I4 (BC q r0 base (DC c.pos base c.win)).1.val) (.bool (BC q r0 base (DC c.pos base c.win)).1.fnd) ⟨V,V⟩ ⟨V,V⟩ wo))<|CM<|B5<|Zz (l:=[15]) ?_;have Z:=vY I hd (k:=k2) A1 (sz:=(1+((BC q r0 base (DC c.pos base c.win)).1.rows.length:Int))) A1 A1
   rw [<-vo,kv]at Z;refine B1 [false,false] [] V rfl (Zw [_,_,_,_] Y call45 Y V (Z)) ?_ Bv Ag;rintro _ _ ⟨_,⟨rfl,z2,ep2,cp2,lp2,su2,bp,vz,gm,qa,rfl⟩,rfl⟩;refine B5<|A2 16 V (AQ Y)<|A2 17 V (Bw Y V)<|A2 18 V (Bw Y V)<|A2 19 V (Aw Y)<|A2 20 V (Aw Y)<|Ai<|Zn [0,5,6,10,11] ?_;refine Zx<|Zq<|A0<|Zm Y<|Zv (Br Y)<|A4<|AV Y (fun o9=>by cases o9)<|fun o9=>AC<|Zx<|Zq<|Zq<|BV<|Zg<|Zm Y<|Zm Y<|Ze (Ah (vs:=[_]) (cs:=[_]) CN F0 HM Y V rfl V rfl V)<|AD fun ga=>Ze (EQ (by_:=16) (news:=[_]) CN (V:Tryz.prog.info? 9=some Tryz.t9) V rfl V rfl Y (Fu 9) Y Wo Wh AM V Fm AN AN AN) ?_;rintro _ _ ⟨sq,qj,rfl⟩;obtain ⟨gq,cq,rfl⟩:=qj.form;rcases qj with⟨_,h0,_⟩|⟨gq2,capq,curq,zq,hvq,rfl,hleq,hcmq,hcsq,htkq,hfrq⟩
   · cases h0
   injection hvq with hv1 hv2 hv3
   subst hv1 hv3;have pq:curq[0]?=some (.string (str (Cr q))):=by
    have h:=congrArg (fun l=>l[0]?) htkq;simpa using h
   refine Zv (Ab CN Y)<|Zm Y<|A4<|AP<|Zb [90,0,5,6,88,89] ?_;refine BB (e0:=[(90,_)]) (fun m e H=>∃(i:Nat) (l5:Value) (l8:List A9) (d9:Array MapEntry) (bn:Nat) (qx:List (Int×Value)) (cu:Array MapEntry) (af:Nat) (qo:List (ByteArray×Value)) (cO:Array MapEntry) (ax:Nat) (qw:List (Int×Value)),m=1 -i/\(i<=1/\GQ (if i=0 then c.its else(c.its.filter fun y=>y.key≠str (Cr q))) c.next d9 bn qx l5 l8 cu af qo cO ax qw c.SI)/\e=[(90,I4 (i:Int))]/\H=[[(c.ip,.cells #[.map (some c.mq),l5] 186 (0,0))],[(c.mq,.map d9 bn)],[(c.mi,.map cu af)],[(c.mkb,.map cO ax)]]) (by exact ⟨0,c.lv,c.ML,c.esQ,c.ckQ,c.lmQ,c.esI,c.ckI,c.lmI,c.esK,c.ckK,c.lmK,V,⟨by decide,h.its⟩,V,V⟩) Wp ?_;rintro _ _ _ ⟨i,l5,l8,d9,bn,qx,cu,af,qo,cO,ax,qw,rfl,⟨hi,B⟩,rfl,rfl⟩;refine Zq<|BV<|Zg<|Zv (Au Y Y)<|A4<|Zq<|Av Y (fun O=>?_) (fun O=>?_)
   ·
    obtain rfl:i=0:=by simp at O;omega
    rw [AK rfl]at B;refine AC<|Zx<|Zq<|AP<|Zq<|BV<|Zg<|BX (BS CN F0 Y Y (by first|omega|decide|(simp;done)|(simp at O⊢;omega)))<|Zl HC Y (hv:=by exact pq) ?_;refine A3 Y<|Zg<|Zm Y<|Zm Y ?_;have pz:=Vm (cp:=c.cp) (r:=c.z.r) (ip:=c.ip) (mi:=c.mi) (mk:=c.mkb) (mq:=c.mq) (pos:=c.pos) (wv:= .slice c.wq c.win.length c.wc) B hx
    rw [U]at pz;refine Zc [_,_] Y call47 Y V (pz) ?_;rintro _ _ ⟨_,⟨rfl,sM,sj,zf,sw,qz,za,sJ,r9,zb,ic,rfl⟩,rfl⟩;refine Z0<|A8<|Zx<|BV<|Zg<|Ya (n:=1) Y Y<|Zm Y<|Z0<|Zn [90,0,5,6,88,89] ?_;refine Aa (e':=[(90,_)]) (by exact ⟨1,_,[],sM,sj,zf,sw,qz,za,sJ,r9,zb,rfl,⟨by decide,by rw [AH AN];exact ic⟩,rfl,rfl⟩)
   obtain rfl:i=1:=by simp at O;omega
   rw [AH AN]at B;refine Ay<|Zt<|Zt<|AR<|Zx<|A0<|Zm Y<|Zm Y<|Zm Y<|Zc [_,_,_] Y call48 Y V (Mw B (x:=(I9 b (c.next+1) q x.tn base rq rc L (BC q r0 base (DC c.pos base c.win)) wq wc)) q9 V vw j5 G) ?_;rintro _ _ ⟨_,⟨rfl,eq5,cq5,lq5,ei5,ci5,li5,ek5,ck5,lk5,gy,rfl⟩,rfl⟩;refine A4<|Zq<|CK (s1:=s2) (s2:=c.MR) Wo Wo ?_;refine CK (s1:=s1) (s2:=c.M) Wo Wo ?_;refine Zg<|A3 Y<|AJ<|AO V results14 Y (by
    refine ⟨rfl,({c with z:=z2,PL:=L1++L2++[⟨bp,str (Cr q),x.tn,(1+((BC q r0 base (DC c.pos base c.win)).1.rows.length:Int))⟩],esP:=ep2,ckP:=cp2,lmP:=lp2,su:=su2,next:=c.next+1,its:=(c.its.filter fun y=>y.key≠str (Cr q))++[(I9 b (c.next+1) q x.tn base rq rc L (BC q r0 base (DC c.pos base c.win)) wq wc)],esQ:=eq5,ckQ:=cq5,lmQ:=lq5,lv:= .pointer none,ML:=[],esI:=ei5,ckI:=ci5,lmI:=li5,esK:=ek5,ckK:=ck5,lmK:=lk5,SI:=c.SI++[(I9 b (c.next+1) q x.tn base rq rc L (BC q r0 base (DC c.pos base c.win)) wq wc).ch],M:=s1++c.M,MR:=s2++c.MR}:CZ),b,rq,wq,rc,wc,s1,⟨⟨h.pos,h.win,h.wl,WL h.tookb (fun q G=>by simp [G]),qa,qC (VJ h.pk ek h.pool.keys kv) _ _ rfl,gy,fun y g=>?_⟩,fun y g=>?_⟩,⟨rfl,rfl,rfl,rfl,gm⟩,rfl,rfl,rfl,fun e he=>(by rcases B9.1 he with W|W;exact .inl (by rw [ek];rcases B9.1 W with W|W<;>simp [W]);exact .inr (by rw [BT.1 W])),?_⟩
    · rcases B9.1 g with g|g
      · exact h.tns y (F1.1 g).1
      · rw [BT.1 g];show _<_;exact yt
    · rcases B9.1 g with g|g
      · exact (h.all y (F1.1 g).1).mono (fun q G=>by simp [G]) (fun q G=>by simp [G])
      · rw [BT.1 g];exact TD G ql.tn hb l9 X j3 qb J (sO.mono fun q G=>by simp [G]) (ve.mono fun q G=>by simp [G])
    · simp only [vz];rfl)
  cases h4
 rw [g1];cases g1
end Go.Proofs.YteaiajghbkenoaaGreatDoor
