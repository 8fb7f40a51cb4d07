/- The pool made; Put where there is room. -/
import Derived.Test.YthhakdmlpngcmaaGreatDoorMm2
set_option linter.unusedVariables false
set_option linter.unusedSimpArgs false
namespace Go.Proofs.YthhakdmlpngcmaaGreatDoor
open Go.Proofs.Tryz
open Go Go.RowKit Gw
set_option maxRecDepth 100000
attribute [local irreducible] Gw.At Gw.Nx Gw.Ops
variable{r:Nat}
theorem eB{nx bf nx' bf':Nat->A4}{l:List Nat}(h:H8 nx bf r l)(B:∀a∈r::l,nx' a=nx a)(h2:∀a∈r::l,bf' a=bf a):H8 nx' bf' r l:=fun q m=>by
 have e1:q.1∈r::l:=by rw [<-Hz r l r];exact Dd m
 have e2:q.2∈r::l:=by
  have g:q.2∈l++[r]:=by rw [<-JB r l r];exact Dd m
  rcases C2.1 g with g|g
  · exact E7 _ g
  · rw [C5.1 g];exact E3 ..
 rw [B _ e1,h2 _ e2];exact h q m
def BX.more(z:BX)(e:Bh):BX:={z with E:=z.E++[e],nx:=Cr z.nx e.b (.pointer none),bf:=Cr z.bf e.b (.pointer none)}
theorem BX.more_S(z:BX)(e:Bh)(g:e.b∉z.S.map (·.1)):z.S++[(e.b,.cells #[.string e.key,I0 e.te,I0 e.sz,.pointer none,.pointer none] 157 (0,0))]=(z.more e).S:=by
 rw [z.keys]at g;have B:z.r≠e.b:=fun h=>g (h▸E3 ..)
 unfold BX.more BX.S;simp only [EP _ _ B,C0,Dg,J1,Pc];congr 2
 · refine Wc fun x G=>?_
   have m:x.b≠e.b:=fun h=>g (h▸E7 _ (Dd G));unfold Bh.ch;simp only [EP _ _ m]
 · unfold Bh.ch
   simp only [IJ]
theorem rz{z:BX}{ns:Nat}{L:List Bh}{mb:Nat}{es:Array MapEntry}{ck:Nat}{lm:List (Bm×A4)}{su:List A9}(h:CL z ns L mb es ck lm su)(U:z.bl.Nodup)(e:Bh)(G:e.b∉z.S.map (·.1)):∃p,p∈(z.more e).bl/\(z.more e).bf z.r=pV p/\e∈(z.more e).E/\
 H8 (Cr (Cr (z.more e).nx e.b (pV z.r)) p (pV e.b)) (Cr (Cr (z.more e).bf e.b (pV p)) z.r (pV e.b)) z.r ((L++[e]).map (·.b)):=by
 rw [z.keys]at G;have m:∀a∈z.r::L.map (·.b),a∈z.bl:=fun a g=>by
  rcases DB.1 g with rfl|g
  · exact E3 ..
  · obtain ⟨x,I,rfl⟩:=C6.1 g
    exact E7 _ (Dd (h.sub x I))
 have B:∀a∈z.r::L.map (·.b),a≠e.b:=fun a g W=>G (W▸m a g);obtain ⟨p,J,h2,K⟩:=rV (x:=e.b) (h.nodup U) (fun I=>G (m _ I)) (eB (nx':=(z.more e).nx) (bf':=(z.more e).bf) h.ring (fun a g=>EP _ _ (B a g)) (fun a g=>EP _ _ (B a g)));refine ⟨p,?_,h2,GB _ (C5.2 rfl),by rw [C0];exact K⟩;have O:=m p J
 unfold BX.bl BX.more at*;rcases DB.1 O with h5|h5
 · rw [h5];exact E3 ..
 · refine E7 _ ?_
   show p∈(z.E++[e]).map (·.b);rw [C0];exact Ek _ h5
theorem YI{l:List Int}{i:Nat}{x:Int}(h:l[i]?=some x):(l.take (i+1)).sum=(l.take i).sum+x:=by
 obtain ⟨hi,rfl⟩:=C4.1 h;rw [NX,BT hi,pH];simp
theorem OO:∀{l:List Int},(∀x∈l,0<=x)->∀i,0<=(l.take i).sum/\(l.take i).sum<=l.sum
 |[],_,i=>by simp
 |x::l,h,0=>by
  have:=OO (fun y g=>h y (E7 _ g)) l.length;rw [GC]at this;have m:=h x (E3 ..)
  simp only [J0,List.sum_nil,kO];omega
 |x::l,h,i+1=>by
  have:=OO (fun y g=>h y (E7 _ g)) i;have m:=h x (E3 ..)
  simp only [mB,kO];omega
theorem eY(r:Nat)(cap:Int)(hc:1<=cap/\cap<=1000000)(a:B8)(ns c mb g:Nat)(B:ns<=maxLen):CL ⟨r,[],fun _=>pV r,fun _=>pV r,cap,.slice a ns c,I2 g ns ns,.map (some mb),cap⟩ ns [] mb #[] 0 [] [(g,.cells (List.replicate ns (Value.int .i64 0)).toArray 3 (0,0))]:=by
 refine ⟨fun e h=>by simp at h,rU V rfl,V,EZ _,fun p=>by simp,mx,?_,fun e h=>by simp at h,fun e h=>by simp at h,?_,?_,⟨a,c,V⟩,hc⟩
 · rw [show(List.range ns).map (fun k:Nat=>Value.int .i64 (Du [] (k:Int)))=List.replicate ns (Value.int .i64 0) from by
    rw [List.eq_replicate_iff];refine ⟨by simp,fun b m=>?_⟩;obtain ⟨k,_,rfl⟩:=C6.1 m;rfl]
   exact JZ _ g _ ns B4 B
 · show cap=cap -FI []
   unfold FI;simp
 · show 0<=cap
   omega
theorem GY{v:A4}{xs:List Int}{s:List A9}(J:Row 3 v (xs.map (Value.int .i64)) s)(hn:xs.length<=1000000):BS prog 66 #[v] [s] (fun r H'=>∃g c s2,r= .slice g xs.length c/\Row 3 r (xs.map (Value.int .i64)) s2/\H'=[s2,s]):=by
 have Z:=mL;obtain ⟨W,cv,hv⟩:=J.form;rw [B6]at hv;subst hv;refine Se func66 ntmps66 [0] ?_;intro u R;refine A1<|A5 Y<|Zq<|A1<|Zm Y<|Zv (Dr DG Y Y)<|A6<|AQ Y (fun U=>?_) (fun U=>?_);·
  have K:W=none:=by cases W with
   |none=>rfl
   |some x=>cases U
  subst K;have h0:xs=[]:=by
   rcases J with⟨_,h,_⟩|⟨g,cap,cur,z,h,_⟩
   · simpa using h
   · cases h
  subst h0;refine Zq<|Be<|Zg<|A5 Y<|AJ<|Zt<|AP V results66 Y (by exact ⟨none,0,[],V,Gu _,V⟩)
 refine AC<|Zx<|A1<|Ze (EQ DG AE)<|AG fun X=>Zm Y<|Ze (Gr (by_:=8) DG (rfl:Tryz.prog.info? 3=some Tryz.t3) rfl rfl rfl rfl Y ((JZ 3 X [] 0 rfl B0)) Y (J) Wo Wo (by exact fun u hu=>by obtain ⟨x,_,rfl⟩:=C6.1 hu;rfl) It It) ?_;rintro _ _ ⟨O,m,rfl⟩;rw [LN]at m;have B:=m
 obtain ⟨I,G,rfl⟩:=m.form;refine A5 Y<|AJ<|AP V results66 Y (by exact ⟨I,G,O,by simp,B,V⟩)
theorem nE{v:A4}{sh:List Int}{W:List A9}(G:Row 3 v (sh.map (Value.int .i64)) W)(cap:Int)(hc:1<=cap/\cap<=1000000)(hl:1<=sh.length/\sh.length<=8)(h0:∀x∈sh,0<=x)(X:sh.sum<=cap):BS prog 27 #[I0 cap,v] [W] (fun r H'=>∃z mb su sc,r= .tuple #[.pointer (some ⟨z.r,0,none⟩),I0 0]/\(z.cap=cap/\Jo sc z.sh sh)/\CL z sh.length [] mb #[] 0 [] su/\H'=[z.S,[(mb,.map #[] 0)],su,sc,W]):=by
 have bn:=mL;obtain ⟨pv,cv,hv⟩:=G.form;rw [B6]at hv;subst hv;refine Se func27 ntmps27 [0,1] ?_;intro u R;refine A1<|Za Y<|A5 Y<|Zq<|A1<|Zm Y<|Zv (EI Y Y)<|Zm Y<|Ao (t:=12) Y V (fun Z=>by omega)<|fun Z=>Zf Y Y<|Yg (Ef Y Y)<|Zv (AL Y Y)<|Zm Y<|Ao (t:=16) Y V (fun g2=>by omega)<|fun g2=>Zf Y Y<|Yg (Ab DG Y)<|Yg (Ay (n:=1) Y Y)<|Zv (AL Y Y)<|Zm Y<|Ao (t:=21) Y V (fun g3=>by omega)<|fun g3=>Zf Y Y<|Yg (Ab DG Y)<|Yg (DN (n:=8) Y Y)<|Zv (AL Y Y)<|Z0<|Zn [0,1,25] ?_;refine Zx<|Av Y (fun g4=>by omega)<|fun g4=>AC<|Zx<|A1<|Zm Y<|A5 Y<|Zq<|A1<|Zm Y<|Zv (Ab DG Y)<|Zm Y<|A6<|AR<|Zb [6,29,0,1,27,28] ?_;refine BF (e0:=[(6,_),(29,_)]) (fun m e H=>∃(i:Nat),m=sh.length -i/\(i<=sh.length)/\e=[(6,I0 (cap -(sh.take i).sum)),(29,I0 (i:Int))]/\H=[]) (by exact ⟨0,V,C7 _,by simp,V⟩) Wp ?_;rintro _ _ _ ⟨i,rfl,hi,rfl,rfl⟩;refine A1<|Zv (Ay Y Y)<|A6<|Zq<|Av Y (fun J=>?_) (fun J=>?_);·
  obtain ⟨n,K⟩:∃n,sh[i]?=some n:=⟨_,BT J⟩;obtain ⟨bs,cs,cur,zs,U,rfl,ax,af,I,_⟩:=Og G (k:=i) (y0:=I0 n) (by rw [DQ,K];rfl);injection U with e1 e2 e3
  subst e1 e3;have cu:=h0 n (DO K)
  have cO:=OO h0 i;have O:=OO h0 (i+1)
  rw [YI K]at O;refine AC<|Zx<|Zq<|AR<|A1<|BZ (BU DG AE Y Y A0)<|Zl AH Y (hv:=by exact I) ?_;refine A5 Y<|Zq<|A1<|Zm Y<|Zv (EI Y Y)<|Zm Y<|Ao (t:=35) Y V (fun g5=>by omega)<|fun g5=>Zf Y Y<|Zf Y Y<|Yg (Ef Y Y)<|Zv (AL Y Y)<|A6<|Av Y (fun g6=>by omega)<|fun g6=>AC<|Zx<|Zg<|Zm Y<|Zm Y ?_
  (refine BZ (FU Y Y (IntWalk.i64_in _ ?_)) ?_;(focus (omega)))
  refine AW Y<|Zn [0,1,6,27,28,29] ?_;refine A8<|Zx<|Zg<|Ya (n:=1) Y Y<|Zm Y<|Z0<|Zn [6,29,0,1,27,28] ?_;refine Aa (e':=[(6,_),(29,_)]) (by exact ⟨i+1,rfl,by omega,by rw [YI K,Int.sub_sub],rfl⟩)
 refine Az<|Zt<|Zt<|AV<|Zx<|Zb [0,1] ?_;refine Ch (e0:=[(0,_),(1,_)]) (H0:=[]) (fun e H=>∃(r mb g:Nat) (gc:B8) (cc:Nat) (sc:List A9),(Row 3 (.slice gc sh.length cc) (sh.map (Value.int .i64)) sc)/\e=[(9,I1 r)]/\H=[[(r,.cells #[.string ⟨#[]⟩,I0 0,I0 0,.pointer none,.pointer none,I0 cap,.slice gc sh.length cc,I2 g sh.length sh.length,.map (some mb),I0 cap] 161 (0,0))],[(mb,.map #[] 0)],[(g,.cells (List.replicate sh.length (Value.int .i64 0)).toArray 3 (0,0))],sc]) Wp ?hx_3 ?hy_3
 case hx_3=>
  refine Aw (n:=11) (0::0::2::0::8::24::0::0::255::511::1023::[]) 612 AF AF V<|A3 0 V (AO Y)<|A3 1 V (AO Y)<|A3 3 V (AO Y)<|A3 4 V (Ab DG Y)<|A3 7 V (AO Y)<|Zz (l:=[2,5,6])<|B7 [] [] V rfl (Zw [_] Y call66 Y V (GY G A0)) ?_ Bp ?_;·
   rintro _ _ ⟨_,⟨gc,cc,sc,rfl,B,rfl⟩,rfl⟩;refine Bk<|Zz (l:=[5,6])<|B7 [] [] V rfl (Gh (by_:=8) DG (V:Tryz.prog.info? 3=some Tryz.t3) V rfl V rfl Y Y ?_ ?_ ?_) ?hk_5 (fun _ _ h=>h.elim) ?hl_5
   (focus (omega))
   (focus (omega))
   (focus (omega))
   case hk_5=>
    rintro _ _ ⟨g,rfl,rfl⟩;refine Bk<|Yw 6 255 V (DV)<|AG fun mb=>A3 8 V (BM (vs:=[(1,I0 cap),(2,.slice gc sh.length cc),(3,I2 g sh.length sh.length),(4,.map (some mb)),(5,I0 cap)]) (cs:=#[.string ⟨#[]⟩,I0 0,I0 0,.pointer none,.pointer none,I0 cap,.slice gc sh.length cc,I2 g sh.length sh.length,.map (some mb),I0 cap]) Y (AZ (pl:=#[(0,5),(5,1),(6,1),(7,1),(8,1),(9,1)]) eV HS (fun _=>by kernel_rfl) AF))<|Yw 9 1023 V (F8 Y (cs:=#[.string ⟨#[]⟩,I0 0,I0 0,.pointer none,.pointer none,I0 cap,.slice gc sh.length cc,I2 g sh.length sh.length,.map (some mb),I0 cap]) AF)<|AG fun r=>A3 10 V (Aq Y)<|Ag<|Zn [9] ?_;refine BB (e':=[(9,_)]) (by exact ⟨r,mb,g,gc,cc,sc,B,V,V⟩)
   refine B7 [] [] V rfl (DV) ?_ (fun _ _ h=>h.elim) Ah;rintro _ _ ⟨mb,rfl,rfl⟩;refine Bk<|Zz (l:=[5])<|B7 [] [] V rfl (Gh (by_:=8) DG (V:Tryz.prog.info? 3=some Tryz.t3) V rfl V rfl Y Y ?_ ?_ ?_) ?hk_10 (fun _ _ h=>h.elim) ?hl_10
   (focus (omega))
   (focus (omega))
   (focus (omega))
   case hk_10=>
    rintro _ _ ⟨g,rfl,rfl⟩;refine Bk<|A3 8 V (BM (vs:=[(1,I0 cap),(2,.slice gc sh.length cc),(3,I2 g sh.length sh.length),(4,.map (some mb)),(5,I0 cap)]) (cs:=#[.string ⟨#[]⟩,I0 0,I0 0,.pointer none,.pointer none,I0 cap,.slice gc sh.length cc,I2 g sh.length sh.length,.map (some mb),I0 cap]) Y (AZ (pl:=#[(0,5),(5,1),(6,1),(7,1),(8,1),(9,1)]) eV HS (fun _=>by kernel_rfl) AF))<|Yw 9 1023 V (F8 Y (cs:=#[.string ⟨#[]⟩,I0 0,I0 0,.pointer none,.pointer none,I0 cap,.slice gc sh.length cc,I2 g sh.length sh.length,.map (some mb),I0 cap]) AF)<|AG fun r=>A3 10 V (Aq Y)<|Ag<|Zn [9] ?_;refine BB (e':=[(9,_)]) (by exact ⟨r,mb,g,gc,cc,sc,B,V,V⟩)
   exact Ah
  refine B7 [] [] V rfl (Gh (by_:=8) DG (V:Tryz.prog.info? 3=some Tryz.t3) V rfl V rfl Y Y ?_ ?_ ?_) ?hk_13 (fun _ _ h=>h.elim) ?hl_13
  (focus (omega))
  (focus (omega))
  (focus (omega))
  case hk_13=>
   rintro _ _ ⟨g,rfl,rfl⟩;refine Bk<|Zz (l:=[2,6])<|B7 [] [] V rfl (Zw [_] Y call66 Y V (GY G A0)) ?_ Bp ?_;·
    rintro _ _ ⟨_,⟨gc,cc,sc,rfl,B,rfl⟩,rfl⟩;refine Bk<|Yw 6 255 V (DV)<|AG fun mb=>A3 8 V (BM (vs:=[(1,I0 cap),(2,.slice gc sh.length cc),(3,I2 g sh.length sh.length),(4,.map (some mb)),(5,I0 cap)]) (cs:=#[.string ⟨#[]⟩,I0 0,I0 0,.pointer none,.pointer none,I0 cap,.slice gc sh.length cc,I2 g sh.length sh.length,.map (some mb),I0 cap]) Y (AZ (pl:=#[(0,5),(5,1),(6,1),(7,1),(8,1),(9,1)]) eV HS (fun _=>by kernel_rfl) AF))<|Yw 9 1023 V (F8 Y (cs:=#[.string ⟨#[]⟩,I0 0,I0 0,.pointer none,.pointer none,I0 cap,.slice gc sh.length cc,I2 g sh.length sh.length,.map (some mb),I0 cap]) AF)<|AG fun r=>A3 10 V (Aq Y)<|Ag<|Zn [9] ?_;refine BB (e':=[(9,_)]) (by exact ⟨r,mb,g,gc,cc,sc,B,V,V⟩)
   refine B7 [] [] V rfl (DV) ?_ (fun _ _ h=>h.elim) Ah;rintro _ _ ⟨mb,rfl,rfl⟩;refine Bk<|Zz (l:=[2])<|B7 [] [] V rfl (Zw [_] Y call66 Y V (GY G A0)) ?_ Bp Ah;rintro _ _ ⟨_,⟨gc,cc,sc,rfl,B,rfl⟩,rfl⟩;refine Bk<|A3 8 V (BM (vs:=[(1,I0 cap),(2,.slice gc sh.length cc),(3,I2 g sh.length sh.length),(4,.map (some mb)),(5,I0 cap)]) (cs:=#[.string ⟨#[]⟩,I0 0,I0 0,.pointer none,.pointer none,I0 cap,.slice gc sh.length cc,I2 g sh.length sh.length,.map (some mb),I0 cap]) Y (AZ (pl:=#[(0,5),(5,1),(6,1),(7,1),(8,1),(9,1)]) eV HS (fun _=>by kernel_rfl) AF))<|Yw 9 1023 V (F8 Y (cs:=#[.string ⟨#[]⟩,I0 0,I0 0,.pointer none,.pointer none,I0 cap,.slice gc sh.length cc,I2 g sh.length sh.length,.map (some mb),I0 cap]) AF)<|AG fun r=>A3 10 V (Aq Y)<|Ag<|Zn [9] ?_;refine BB (e':=[(9,_)]) (by exact ⟨r,mb,g,gc,cc,sc,B,V,V⟩)
  refine B7 [] [] V rfl (DV) ?_ (fun _ _ h=>h.elim) Ah;rintro _ _ ⟨mb,rfl,rfl⟩;refine Bk<|Zz (l:=[2,5])<|B7 [] [] V rfl (Zw [_] Y call66 Y V (GY G A0)) ?_ Bp ?_;·
   rintro _ _ ⟨_,⟨gc,cc,sc,rfl,B,rfl⟩,rfl⟩;refine Bk<|Zz (l:=[5])<|B7 [] [] V rfl (Gh (by_:=8) DG (V:Tryz.prog.info? 3=some Tryz.t3) V rfl V rfl Y Y ?_ ?_ ?_) ?hk_24 (fun _ _ h=>h.elim) ?hl_24
   (focus (omega))
   (focus (omega))
   (focus (omega))
   case hk_24=>
    rintro _ _ ⟨g,rfl,rfl⟩;refine Bk<|A3 8 V (BM (vs:=[(1,I0 cap),(2,.slice gc sh.length cc),(3,I2 g sh.length sh.length),(4,.map (some mb)),(5,I0 cap)]) (cs:=#[.string ⟨#[]⟩,I0 0,I0 0,.pointer none,.pointer none,I0 cap,.slice gc sh.length cc,I2 g sh.length sh.length,.map (some mb),I0 cap]) Y (AZ (pl:=#[(0,5),(5,1),(6,1),(7,1),(8,1),(9,1)]) eV HS (fun _=>by kernel_rfl) AF))<|Yw 9 1023 V (F8 Y (cs:=#[.string ⟨#[]⟩,I0 0,I0 0,.pointer none,.pointer none,I0 cap,.slice gc sh.length cc,I2 g sh.length sh.length,.map (some mb),I0 cap]) AF)<|AG fun r=>A3 10 V (Aq Y)<|Ag<|Zn [9] ?_;refine BB (e':=[(9,_)]) (by exact ⟨r,mb,g,gc,cc,sc,B,V,V⟩)
   exact Ah
  refine B7 [] [] V rfl (Gh (by_:=8) DG (V:Tryz.prog.info? 3=some Tryz.t3) V rfl V rfl Y Y ?_ ?_ ?_) ?hk_27 (fun _ _ h=>h.elim) ?hl_27
  (focus (omega))
  (focus (omega))
  (focus (omega))
  case hk_27=>
   rintro _ _ ⟨g,rfl,rfl⟩;refine Bk<|Zz (l:=[2])<|B7 [] [] V rfl (Zw [_] Y call66 Y V (GY G A0)) ?_ Bp Ah;rintro _ _ ⟨_,⟨gc,cc,sc,rfl,B,rfl⟩,rfl⟩;refine Bk<|A3 8 V (BM (vs:=[(1,I0 cap),(2,.slice gc sh.length cc),(3,I2 g sh.length sh.length),(4,.map (some mb)),(5,I0 cap)]) (cs:=#[.string ⟨#[]⟩,I0 0,I0 0,.pointer none,.pointer none,I0 cap,.slice gc sh.length cc,I2 g sh.length sh.length,.map (some mb),I0 cap]) Y (AZ (pl:=#[(0,5),(5,1),(6,1),(7,1),(8,1),(9,1)]) eV HS (fun _=>by kernel_rfl) AF))<|Yw 9 1023 V (F8 Y (cs:=#[.string ⟨#[]⟩,I0 0,I0 0,.pointer none,.pointer none,I0 cap,.slice gc sh.length cc,I2 g sh.length sh.length,.map (some mb),I0 cap]) AF)<|AG fun r=>A3 10 V (Aq Y)<|Ag<|Zn [9] ?_;refine BB (e':=[(9,_)]) (by exact ⟨r,mb,g,gc,cc,sc,B,V,V⟩)
  exact Ah
 rintro _ _ ⟨r,mb,g,gc,cc,sc,B,rfl,rfl⟩;refine A1<|Zm Y<|Zp Y V<|Zh 0 HS V rfl sizeOf159 Y<|Zc [_] Y call67 Y V (ik r 161 (0,0) _ _ _ _ _ _ _ _ _ _) ?_;rintro _ _ ⟨_,⟨rfl,rfl⟩,rfl⟩;refine A6<|A1<|Zm Y<|Za Y<|A5 Y<|AJ<|DF V results27 Y Y (by exact ⟨⟨r,[],fun _=>pV r,fun _=>pV r,cap,.slice gc sh.length cc,I2 g sh.length sh.length,.map (some mb),cap⟩,mb,_,sc,V,⟨V,mr B⟩,eY r cap hc gc sh.length cc mb g A0,V⟩)
structure ItM where
 b:Nat
 id:Int
 q:QM
 tn:Int
 base:Int
 rq:B8
 rc:Nat
 L:List RP
 res:C9
 wq:B8
 wc:Nat
 since:Int
abbrev ItM.A97(c:ItM):Array Go.Value:=#[I0 c.q.kd,I0 c.q.tb,I0 c.q.cl,I0 c.q.lo,I0 c.q.hi,I0 c.q.bq,I0 c.q.ot,I0 c.tn,I0 c.base,.slice c.rq c.L.length c.rc,I0 c.id,.slice c.wq c.res.rows.length c.wc,I0 c.res.val,.bool c.res.fnd,I0 c.since]
def ItM.key(x:ItM):Bm:=str (Bn x.q)
def ItM.iq(x:ItM):Int×QM:=(x.id,x.q)
def ItM.obj(x:ItM):Obj:= .cells x.A97 121 (0,0)
def ItM.ch(x:ItM):A9:=(x.b,x.obj)
def Ct(pos base:Int)(win:List BR):List BR:=win.drop (win.length -(pos -base).toNat)
structure ItM.ok(M MR:List A9)(pos:Int)(win:List BR)(x:ItM):Prop where
 q:BI x.q
 base:0<=x.base/\x.base<=10000
 tn:0<=x.tn/\x.tn<=1000000
 rp:G6 M (.slice x.rq x.L.length x.rc) x.L
 rl:x.L.length<=1000000
 fit:∀y∈x.L,y.fits
 rw:Di MR (.slice x.wq x.res.rows.length x.wc) x.res.rows
 reach:(pos -x.base).toNat<=win.length
 run:∃r0,Es x.q x.L=some r0/\GU x.q x.base 0 (r0,x.base) (Ct pos x.base win)=some (x.res,x.since)
variable{pos:Int}{x:ItM}
theorem ItM.ok.mono{M m MR g:List A9}{win:List BR}(h:x.ok M MR pos win)(B:∀c∈M,c∈m)(G:∀c∈MR,c∈g):x.ok m g pos win:=⟨h.q,h.base,h.tn,h.rp.mono B,h.rl,h.fit,h.rw.mono G,h.reach,h.run⟩
structure GN(its:List ItM)(next:Int)(esQ:Array MapEntry)(ckQ:Nat)(lmQ:List (Int×A4))(lv:A4)(ML:List A9)(esI:Array MapEntry)(ckI:Nat)(lmI:List (Bm×A4))(esK:Array MapEntry)(ckK:Nat)(lmK:List (Int×A4))(SI:List A9):Prop where
 idx:Eo (its.map ItM.iq) esQ ckQ lmQ
 ist:Wj (its.map ItM.iq) lv ML
 im:Ck (fun k:Bm=>Value.string k) esI ckI lmI
 imem:∀p,p∈lmI↔∃x∈its,p=(x.key,pV x.b)
 km:Ck (fun n:Int=>Value.int .i64 n) esK ckK lmK
 kmem:∀p,p∈lmK↔∃x∈its,p=(x.id,.string x.key)
 keys:(its.map ItM.key).Nodup
 ids:∀x∈its,1<=x.id/\x.id<=next
 nx:0<=next/\next<=1000000000
 len:its.length<=500
 q:∀x∈its,BI x.q
 sub:∀x∈its,x.ch∈SI
variable{its:List ItM}{next:Int}{esQ esI esK:Array MapEntry}{ckQ ckI ckK:Nat}{lmQ lmK:List (Int×A4)}{lv:A4}{ML SI:List A9}{lmI:List (Bm×A4)}
theorem GN.get(h:GN its next esQ ckQ lmQ lv ML esI ckI lmI esK ckK lmK SI)(g:x∈its):Dq x.key lmI=some (pV x.b):=D8 h.im.keys ((h.imem _).2 ⟨x,g,rfl⟩)
theorem GN.none{its:List ItM}{next:Int}{esQ:Array MapEntry}{ckQ:Nat}{lmQ:List (Int×A4)}{lv:A4}{ML:List A9}{esI:Array MapEntry}{ckI:Nat}{lmI:List (Bm×A4)}{esK:Array MapEntry}{ckK:Nat}{lmK:List (Int×A4)}{SI:List A9}(h:GN its next esQ ckQ lmQ lv ML esI ckI lmI esK ckK lmK SI){K:Bm}(g:∀x∈its,x.key≠K):Dq K lmI=none:=DX fun p m=>by
 obtain ⟨x,B,rfl⟩:=(h.imem p).1 m;exact g x B
theorem GN.len_eq(h:GN its next esQ ckQ lmQ lv ML esI ckI lmI esK ckK lmK SI):(lmI.map (·.1)).Perm (its.map ItM.key):=by
 refine (N6 h.im.keys h.keys).2 fun a=>?_;constructor
 · intro g
   obtain ⟨p,B,rfl⟩:=C6.1 g;obtain ⟨x,m,rfl⟩:=(h.imem p).1 B;exact Dd m
 · intro g
   obtain ⟨x,m,rfl⟩:=C6.1 g;exact C6.2 ⟨_,(h.imem _).2 ⟨x,m,V⟩,V⟩
theorem Xa(B:(its.map ItM.key).Nodup)(hi:((its.map ItM.iq).map (·.1)).Nodup){y:ItM}(g:x∈its)(m:y∈its):y.key≠x.key↔y.id≠x.id:=by
 rw [KK]at hi;constructor;· intro h e;exact h (by rw [Gd hi g m e.symm])
 · intro h e;exact h (by rw [Gd B g m e.symm])
theorem yU(h:GN its next esQ ckQ lmQ lv ML esI ckI lmI esK ckK lmK SI)(hx:x∈its)
 {X:Array MapEntry}{O:Nat}{Z:List (Int×A4)}(hq:Eo ((its.map ItM.iq).filter fun y=>y.1≠x.id) X O Z){U:Array MapEntry}{J:Nat}{B:List (Bm×A4)}(hm:Ck (fun k:Bm=>Value.string k) U J B)(hp:∀p,p∈B↔p∈lmI/\p.1≠x.key)
 {W:Array MapEntry}{K:Nat}{G:List (Int×A4)}(hk:Ck (fun n:Int=>Value.int .i64 n) W K G)(af:∀p,p∈G↔p∈lmK/\p.1≠x.id):GN (its.filter fun y=>y.key≠x.key) next X O Z (.pointer none) [] U J B W K G SI:=by
 have m:=h.idx.ids;have e1:(its.filter fun y=>y.key≠x.key).map ItM.iq=(its.map ItM.iq).filter fun y=>y.1≠x.id:=by
  rw [List.filter_map];congr 1;refine dv fun y g=>?_;exact decide_eq_decide.2 (Xa h.keys m hx g)
 have I:∀y,y∈(its.filter fun y=>y.key≠x.key)↔y∈its/\y.key≠x.key:=fun y=>by rw [FG];simp
 refine ⟨by rw [e1];exact hq,.inl ⟨rfl,rfl⟩,hm,fun p=>?_,hk,fun p=>?_,h.keys.sublist (S0.map _),fun y g=>h.ids y ((I y).1 g).1,h.nx,R0 (NO _ _) h.len,fun y g=>h.q y ((I y).1 g).1,fun y g=>h.sub y ((I y).1 g).1⟩
 · rw [hp,h.imem]
   constructor;· rintro ⟨⟨y,g,rfl⟩,hn⟩;exact ⟨y,(I y).2 ⟨g,hn⟩,rfl⟩
   · rintro ⟨y,g,rfl⟩;exact ⟨⟨y,((I y).1 g).1,rfl⟩,((I y).1 g).2⟩
 · rw [af,h.kmem]
   constructor;· rintro ⟨⟨y,g,rfl⟩,hn⟩;exact ⟨y,(I y).2 ⟨g,(Xa h.keys m hx g).2 hn⟩,rfl⟩
   · rintro ⟨y,g,rfl⟩;exact ⟨⟨y,((I y).1 g).1,rfl⟩,(Xa h.keys m hx ((I y).1 g).1).1 ((I y).1 g).2⟩
theorem yV(h:GN its next esQ ckQ lmQ lv ML esI ckI lmI esK ckK lmK SI)(Z:∀y∈its,y.key≠x.key)(af:x.id=next+1)(hn:next<1000000000)(hl:its.length<500)(hv:BI x.q)
 {U:Array MapEntry}{J:Nat}{W:List (Int×A4)}(hq:Eo (its.map ItM.iq++[(x.id,x.q)]) U J W){K:Array MapEntry}{G:Nat}{m:List (Bm×A4)}(hm:Ck (fun k:Bm=>Value.string k) K G m)(hp:∀p,p∈m↔p=(x.key,pV x.b)\/(p∈lmI/\p.1≠x.key))
 {O:Array MapEntry}{I:Nat}{B:List (Int×A4)}(hk:Ck (fun n:Int=>Value.int .i64 n) O I B)(X:∀p,p∈B↔p=(x.id,.string x.key)\/(p∈lmK/\p.1≠x.id)):GN (its++[x]) (next+1) U J W (.pointer none) [] K G m O I B (SI++[x.ch]):=by
 have ax:=h.nx;refine ⟨by rw [C0];exact hq,.inl ⟨rfl,rfl⟩,hm,fun p=>?_,hk,fun p=>?_,?_,fun y g=>?_,by omega,by rw [BW];simp;omega,fun y g=>?_,fun y g=>?_⟩
 · rw [hp,h.imem]
   constructor
   · rintro (rfl|⟨⟨y,g,rfl⟩,_⟩)
     · exact ⟨x,by simp,rfl⟩
     · exact ⟨y,Ek _ g,rfl⟩
   · rintro ⟨y,g,rfl⟩
     rcases C2.1 g with g|g
     · exact .inr ⟨⟨y,g,rfl⟩,Z y g⟩
     · rw [C5.1 g];exact .inl rfl
 · rw [X,h.kmem]
   constructor
   · rintro (rfl|⟨⟨y,g,rfl⟩,_⟩)
     · exact ⟨x,by simp,rfl⟩
     · exact ⟨y,Ek _ g,rfl⟩
   · rintro ⟨y,g,rfl⟩
     rcases C2.1 g with g|g
     · have:=h.ids y g
       exact .inr ⟨⟨y,g,V⟩,by show y.id≠x.id;omega⟩
     · rw [C5.1 g];exact .inl rfl
 · rw [C0,Ge]
   refine ⟨h.keys,by simp,fun a ha b hb=>?_⟩;obtain ⟨y,g,rfl⟩:=C6.1 ha;obtain rfl:=C5.1 hb;exact Z y g
 · rcases C2.1 g with g|g
   · have:=h.ids y g;omega
   · rw [C5.1 g];omega
 · rcases C2.1 g with g|g
   · exact h.q y g
   · rw [C5.1 g];exact hv
 · rcases C2.1 g with g|g
   · exact Ek _ (h.sub y g)
   · rw [C5.1 g];simp
variable{mq:Nat}
theorem Xd{B:Nat}{es:Array MapEntry}{ck:Nat}{lm:List (Int×A4)}(G:Eo (its.map ItM.iq) es ck lm)(J:x∈its):BS prog 87 #[I1 B,I0 x.id] [[(B,.cells #[.map (some mq),lv] 165 (0,0))],[(mq,.map es ck)]]
 (fun r H'=>∃m g I,r= .bool true/\Eo ((its.map ItM.iq).filter fun y=>y.1≠x.id) m g I/\H'=[[(B,.cells #[.map (some mq),.pointer none] 165 (0,0))],[(mq,.map m g)]]):=Wq G (x:=x.iq) (Dd J)
theorem Nc{M:List A9}{p:B8}{cap a:Nat}{l:List BR}(h:Ee M (.slice p l.length cap) l)(W:a<=l.length):Ee M (.slice (Ec p a cap 2) (l.length -a) (cap -a)) (l.drop a):=by
 obtain ⟨Z,G,e,⟨X,K⟩,J⟩:=h;injection e with e1 e2 e3
 subst e1 e3;refine ⟨_,_,by rw [CH],⟨by rw [CH];omega,by rw [CH];omega⟩,fun i x B=>?_⟩;rw [S1]at B;have hi:=(C4.1 B).1
 obtain ⟨I,g,off,cur,T,zz,rfl,O,U,m⟩:=J (a+i) x B;have hc:Ec (some ⟨g,off,none⟩) a cap 2=some ⟨g,off+a*2,none⟩:=by
  unfold Ec;rw [An A0,O2,Ca]
 rw [hc];exact ⟨I,g,_,cur,T,zz,rfl,O,by omega,by rw [show off+a*2+i*2=off+(a+i)*2 by omega];exact m⟩
theorem JJ(n:Int):BJ prog 26 #[I0 n] [] (.bool (decide (0<=n/\n<=10000))):=by
 refine Se func26 ntmps26 [0] ?_;intro u R;refine A1<|A5 Y<|A1<|Zm Y<|Zv (GV Y Y)<|Zm Y<|Ao (t:=5) Y V (fun g=>?_) (fun g=>?_);·
  refine Zf Y Y<|Yg (KJ Y Y)<|Zv (AX Y Y)<|A5 Y<|AJ<|AP V results26 Y (by exact ⟨congrArg Value.bool (by simp [g]),V⟩)
 refine A7 Y V<|A7 Y V<|Zv (AL Y Y)<|A5 Y<|AJ<|AP V results26 Y (by exact ⟨congrArg Value.bool (by simp [g]),V⟩)
variable{mk mi ip cp:Nat}
theorem O7{wq:B8}{wn wc:Nat}(J:0<=pos/\pos<=10000)(base:Int)(I:0<=base/\base<=10000)(K:wn<=wc/\wn<=1000000):BJ prog 55 #[I1 cp,I0 base] [[(cp,.cells #[I0 pos,.slice wq wn wc,I1 r,I1 ip,.map (some mi),.map (some mk),I0 next] 95 (0,0))]] (if(pos -base).toNat<=wn then .tuple #[.slice (Ec wq (wn -(pos -base).toNat) wc 2) (pos -base).toNat (wc -(wn -(pos -base).toNat)),.bool true]else .tuple #[.slice none 0 0,.bool false]):=by
 have B:=mL;obtain ⟨n,G⟩:∃n:Nat,n=(pos -base).toNat:=⟨_,rfl⟩;have g:max (pos -base) 0=(n:Int):=by omega
 rw [<-G];refine Se func55 ntmps55 [0,1] ?_;intro u R;refine A1<|Za Y<|A5 Y<|A1<|Zm Y<|Zp Y V<|Zh 0 Ft V rfl AE Y<|Zl AH Y ?_;refine Zm Y ?_
 (refine BZ (FU Y Y (IntWalk.i64_in _ ?_)) ?_;(focus (omega)))
 refine Zv (QE Y Y)<|A5 Y<|Zq<|Zq ?_;rw [g];refine Zg<|Zm Y<|Zm Y<|Zp Y V<|Zh 1 Ft V rfl SZ Y<|Zl isAgg25 Y ?_;refine Zv (Ab HA Y)<|Zv (DN Y Y)<|Z0<|Zn [0,6,20] ?_;refine Zx<|Av Y (fun m=>?_) (fun m=>?_);·
  refine A1<|Za Y<|A5 Y<|AJ<|Zt<|DF rfl results55 Y Y (by exact ⟨by rw [An A0],rfl⟩)
 refine AC<|Zx<|Zq<|Aw (n:=14) (0::1::3::7::0::16::48::112::240::0::1008::2047::4095::8191::[]) 0 AF AF V<|A3 0 V (AO Y)<|A3 1 V (Ak Y V)<|A3 2 V (AA (off:=1) Ft V rfl SZ Y)<|BE 3 V isAgg25 Y ?_;refine A3 4 V (AO Y)<|A3 5 V (Ak Y V)<|A3 6 V (AA (off:=1) Ft V rfl SZ Y)<|BE 7 V isAgg25 Y ?_;refine A3 8 V (Ab HA Y)<|A3 9 V (AO Y) ?_
 (refine Dn (D':=2047) 10 (CQ Y Y ?_ ?_) ?_;(focus (omega));(focus (omega)))
 refine A3 11 V (C8 HA G3 Y Y A0)<|A3 12 V (Aq Y)<|A3 13 V (Aq Y)<|Ag<|Zn [4,5] ?_;refine Zx<|AJ<|DF rfl results55 Y Y (by exact ⟨by rw [As A0,show wn -(wn -n)=n by omega],rfl⟩)
variable{wv:A4}
theorem WI(h:GN its next esQ ckQ lmQ lv ML esI ckI lmI esK ckK lmK SI)(Z:x∈its):BS prog 41 #[I1 cp,.string x.key] [[(cp,.cells #[I0 pos,wv,I1 r,I1 ip,.map (some mi),.map (some mk),I0 next] 95 (0,0))],[(ip,.cells #[.map (some mq),lv] 165 (0,0))],[(mq,.map esQ ckQ)],[(mi,.map esI ckI)],[(mk,.map esK ckK)],SI] (fun v H'=>v= .bool true/\∃J B bn G g af I m ax,GN (its.filter fun y=>y.key≠x.key) next J B bn (.pointer none) [] G g af I m ax SI/\H'=[[(cp,.cells #[I0 pos,wv,I1 r,I1 ip,.map (some mi),.map (some mk),I0 next] 95 (0,0))],[(ip,.cells #[.map (some mq),.pointer none] 165 (0,0))],[(mq,.map J B)],[(mi,.map G g)],[(mk,.map I m)],SI]):=by
 have hg:=h.get Z;have W:(x.b,Obj.cells x.A97 121 (0,0))∈SI:=h.sub x Z
 have kv:x.iq∈its.map ItM.iq:=Dd Z;refine Se func41 ntmps41 [0,1] ?_;intro u R;refine A1<|A5 Y<|A1<|Zm Y<|Zp Y rfl<|Zh 4 Ft rfl rfl Sf Y<|Zl RK Y<|Zm Y<|Zo Wh (EW (EG HG (D:=fun _=>True)) SJ a8 h.im (fun _ _=>trivial) (trivial) (⟨by rw [hg];first|done|rfl,by rw [hg];first|done|rfl⟩) Y Y)<|Zm Y<|Zd Y rfl<|Zd Y rfl<|Za Y<|A5 Y<|Zq<|A1<|Zm Y<|Zv (Br Y)<|Z0<|Zn [0,1,5,17] ?_;refine Zx<|AQ Y (fun U=>by cases U)<|fun U=>AC<|Zx<|Zq<|Aw (n:=9) (0::1::3::7::0::16::48::112::255::[]) 256 AF AF V<|A3 0 V (AO Y)<|A3 1 V (Ak Y V)<|A3 2 V (AA (off:=3) Ft V rfl sizeOf90 Y)<|BE 3 V isAgg90 Y<|A3 4 V (AO Y)<|A3 5 V (Ak Y V)<|A3 6 V (AA (off:=10) Hv V rfl AE Y)<|CV (D':=255) 7 V rfl V (Dy Wo (W)) (BD AH Y Ax) ?_;refine Zz (l:=[8])<|B7 [false,false] [] V rfl (Zw [_,_] Y call87 Y V (Xd h.idx Z)) ?_ Bp Ah;rintro _ _ ⟨_,⟨O,K,cu,rfl,X,rfl⟩,rfl⟩;refine Bk<|Ag<|Zx<|Zq<|Aw (n:=9) (0::1::3::7::0::16::48::112::255::[]) 256 AF AF V<|A3 0 V (AO Y)<|A3 1 V (Ak Y V)<|A3 2 V (AA (off:=5) Ft V rfl sizeOf93 Y)<|BE 3 V isAgg93 Y<|A3 4 V (AO Y)<|A3 5 V (Ak Y V)<|A3 6 V (AA (off:=10) Hv V rfl AE Y)<|CV (D':=255) 7 V rfl V (Dy Wo (W)) (BD AH Y Ax) ?_;refine Yw 8 511 V (K3 (Cf DE (D:=fun _=>True)) eM h.km (fun _ _=>trivial) (trivial) Y Y Wo) ?_;rintro _ _ ⟨rfl,dn,cO,j3,gm,gy,rfl⟩;refine Ag<|Zn [0,1] ?_;refine Zx<|A1<|Zm Y<|Zp Y V<|Zh 4 Ft V rfl Sf Y<|Zl RK Y<|Zm Y<|Ze (K3 (EG HG (D:=fun _=>True)) SJ h.im (fun _ _=>trivial) (trivial) Y Y Wo) ?_;rintro _ _ ⟨rfl,ek,d9,j5,gq,ic,rfl⟩;refine A6<|A1<|A5 Y<|AJ<|AP V results41 Y (by exact ⟨V,O,K,cu,ek,d9,j5,dn,cO,j3,yU h Z X gq ic gm gy,V⟩)
theorem oJ(h:GN its next esQ ckQ lmQ lv ML esI ckI lmI esK ckK lmK SI){K:Bm}(B:∀y∈its,y.key≠K):BJ prog 41 #[I1 cp,.string K] [[(cp,.cells #[I0 pos,wv,I1 r,I1 ip,.map (some mi),.map (some mk),I0 next] 95 (0,0))],[(mi,.map esI ckI)]] (.bool false):=by
 have m:=h.none B;refine Se func41 ntmps41 [0,1] ?_;intro u R;refine A1<|A5 Y<|A1<|Zm Y<|Zp Y rfl<|Zh 4 Ft rfl rfl Sf Y<|Zl RK Y<|Zm Y<|Zo Wh (EW (EG HG (D:=fun _=>True)) SJ a8 h.im (fun _ _=>trivial) (trivial) (⟨by rw [m];first|done|rfl,by rw [m];first|done|rfl⟩) Y Y)<|Zm Y<|Zd Y rfl<|Zd Y rfl<|Za Y<|A5 Y<|Zq<|A1<|Zm Y<|Zv (Br Y)<|Z0<|Zn [0,1,5,17] ?_;refine Zx<|AQ Y (fun g=>?_) (fun g=>?_);·
  refine A1<|A5 Y<|AJ<|Zt<|AP V results41 Y (by exact ⟨V,V⟩)
 cases g
theorem Uc(h:GN its next esQ ckQ lmQ lv ML esI ckI lmI esK ckK lmK SI)(hx:∀y∈its,y.key≠x.key)(g:x.id=next+1)(hn:next<1000000000)(hl:its.length<500)(hv:BI x.q):BS prog 42 #[I1 cp,.string x.key,.pointer (some ⟨x.b,0,none⟩)] [[(cp,.cells #[I0 pos,wv,I1 r,I1 ip,.map (some mi),.map (some mk),I0 next] 95 (0,0))],[(ip,.cells #[.map (some mq),lv] 165 (0,0))],[(mq,.map esQ ckQ)],[(mi,.map esI ckI)],[(mk,.map esK ckK)],[(x.b,.cells #[I0 x.q.kd,I0 x.q.tb,I0 x.q.cl,I0 x.q.lo,I0 x.q.hi,I0 x.q.bq,I0 x.q.ot,I0 x.tn,I0 x.base,.slice x.rq x.L.length x.rc,I0 0,.slice x.wq x.res.rows.length x.wc,I0 x.res.val,.bool x.res.fnd,I0 x.since] 121 (0,0))],SI] (fun v H'=>v=undef/\∃K G ax I m Z J B af,GN (its++[x]) (next+1) K G ax (.pointer none) [] I m Z J B af (SI++[x.ch])/\H'=[[(cp,.cells #[I0 pos,wv,I1 r,I1 ip,.map (some mi),.map (some mk),I0 (next+1)] 95 (0,0))],[(ip,.cells #[.map (some mq),.pointer none] 165 (0,0))],[(mq,.map K G)],[(mi,.map I m)],[(mk,.map J B)],(SI++[x.ch])]):=by
 rw [<-g];have hg:=h.none hx
 have ql:=h.nx;have gy:Dq x.id lmK=none:=DX fun p hp=>by
  obtain ⟨y,hy,rfl⟩:=(h.kmem p).1 hp;have:=h.ids y hy
  show y.id≠x.id;omega
 have gq:∀y∈its.map ItM.iq,y.1≠x.id:=fun y hy=>by
  obtain ⟨z,hz,rfl⟩:=C6.1 hy;have:=h.ids z hz
  show z.id≠x.id;omega
 refine Se func42 ntmps42 [0,1,2] ?_;intro u R;refine A1<|Zm Y<|Zp Y V<|Zh 6 Ft V rfl AE Y<|Zl AH Y ?_;refine Yi Y Y<|Zp Y V<|Zh 6 Ft V rfl AE Y<|Xe (Zs AE Y Y V) ?_;refine A6<|Zq ?_;rw [<-g];refine Zg<|Zm Y<|Zm Y<|Zp Y V<|Zh 6 Ft V rfl AE Y<|Zl AH Y ?_;refine Zp Y V<|Zh 10 Hv V rfl AE Y<|Xe (Zs AE Y Y V) ?_;refine Z0<|Zn [0,1,2] ?_;refine Zx<|Zq<|Aw (n:=21) (0::1::3::7::0::0::32::96::224::0::512::1536::3584::0::0::8191::40959::114687::245759::507903::1048575::[]) 1474560 AF AF V<|A3 0 V (AO Y)<|A3 1 V (Ak Y V)<|A3 2 V (AA (off:=4) Ft V rfl Sf Y)<|BE 3 V RK Y ?_;refine A3 4 V (AO Y)<|A3 5 V (AO Y)<|A3 6 V (Ak Y V)<|A3 7 V (AA (off:=5) Ft V rfl sizeOf93 Y)<|BE 8 V isAgg93 Y ?_;refine A3 9 V (AO Y)<|A3 10 V (Ak Y V)<|A3 11 V (AA (off:=10) Hv V rfl AE Y)<|BE 12 V AH Y ?_;refine A3 13 rfl (AO Y)<|A3 14 rfl (AO Y)<|Zz (l:=[15])<|B7 [false,false,false] [] rfl rfl (Ke (EG HG (D:=fun _=>True)) SJ a8 h.im (fun _ _=>trivial) (trivial) (by rw [hg];first|done|rfl) Y Y Wo) ?_ (fun _ _ h=>h.elim) Ah;rintro _ _ ⟨qb,q9,qo,j3,qx,rfl,l5,ic,ek,o9,rfl⟩;refine Bk<|A3 16 V (CE Y V)<|Zz (l:=[17])<|B7 [] [] V rfl (Iu l5 ic ek Y Y Y Wo) ?_ (fun _ _ h=>h.elim) Ah;rintro _ _ ⟨rfl,d9,cu,pq,l8,p8,rfl⟩;refine Bk<|Yw 18 524287 rfl (Ke (Cf DE (D:=fun _=>True)) eM HT h.km (fun _ _=>trivial) (trivial) (by rw [gy];first|done|rfl) Y Y Wo) ?_;rintro _ _ ⟨qj,qa,qw,j5,qz,rfl,l9,kv,gm,p9,rfl⟩;refine A3 19 V (CE Y V)<|Zz (l:=[20])<|B7 [] [] V rfl (Iu l9 kv gm Y Y Y Wo) ?_ (fun _ _ h=>h.elim) Ah;rintro _ _ ⟨rfl,dn,cO,pz,o8,pg,rfl⟩;refine Bk<|Ag<|Zn [0,2] ?_;refine Zx<|Cb (s1:=SI) (s2:=[x.ch]) Wo Wo ?_;have W:(x.b,Obj.cells x.A97 121 (0,0))∈SI++[x.ch]:=GB _ (C5.2 rfl)
 refine Aw (n:=14) (0::1::3::7::0::16::48::112::0::256::768::1792::3840::8191::[]) 8192 AF AF V<|A3 0 V (AO Y)<|A3 1 V (Ak Y V)<|A3 2 V (AA (off:=3) Ft V rfl sizeOf90 Y)<|BE 3 V isAgg90 Y ?_;refine A3 4 V (AO Y)<|A3 5 V (Ak Y V)<|A3 6 V (AA (off:=10) Hv V rfl AE Y)<|CV (D':=255) 7 V rfl V (Dy Wo (W)) (BD AH Y Ax) ?_;refine A3 8 V (AO Y)<|A3 9 V (Ak Y V)<|A3 10 V (AA (off:=0) Hv V rfl HL Y)<|A3 11 V (Ap (off:=0) G1 V rfl CM Y)<|CV (D':=8191) 12 V rfl V (Dy Wo (W)) (AB (cs:=x.q.A95) F1 CM Y Wn (by exact (by apply HX.1;rfl))) ?_;refine Zz (l:=[13])<|B7 [false,false,false] [] rfl rfl (Zw [_,_,_] Y call88 Y rfl (kX h.idx gq hv (by rw [B6];exact hl))) ?_ Bp Ah;rintro _ _ ⟨_,⟨U,O,bn,rfl,X,rfl⟩,rfl⟩;refine Bk<|Ag<|Cc rfl results42 (by exact ⟨rfl,U,O,bn,d9,cu,pq,dn,cO,pz,by rw [g];exact yV h hx g hn hl hv X l8 (fun p=>by rw [p8,o9];exact OI _ _ _ _) o8 (fun p=>by rw [pg,p9];exact OI _ _ _ _),rfl⟩)
structure CZ where
 cp:Nat
 pos:Int
 wq:B8
 wc:Nat
 win:List BR
 sW:List A9
 z:BX
 ns:Nat
 PL:List Bh
 mb:Nat
 esP:Array MapEntry
 ckP:Nat
 lmP:List (Bm×A4)
 su:List A9
 ip:Nat
 mq:Nat
 mi:Nat
 mkb:Nat
 next:Int
 its:List ItM
 esQ:Array MapEntry
 ckQ:Nat
 lmQ:List (Int×A4)
 lv:A4
 ML:List A9
 esI:Array MapEntry
 ckI:Nat
 lmI:List (Bm×A4)
 esK:Array MapEntry
 ckK:Nat
 lmK:List (Int×A4)
 SI:List A9
 M:List A9
 MR:List A9
abbrev CZ.A98(c:CZ):Array Go.Value:=#[I0 c.pos,.slice c.wq c.win.length c.wc,.pointer (some ⟨c.z.r,0,none⟩),.pointer (some ⟨c.ip,0,none⟩),.map (some c.mi),.map (some c.mkb),I0 c.next]
structure CZ.okb(c:CZ):Prop where
 pos:0<=c.pos/\c.pos<=10000
 win:Bc 2 57 (.slice c.wq c.win.length c.wc) c.win.length (Dv c.win) c.sW
 wl:c.win.length<=64
 wp:∀(i:Nat) (r:BR),c.win[i]?=some r->r.p=c.pos -(c.win.length:Int)+1+(i:Int)/\Cv c.M (.slice r.q r.cs.length r.cap) r.cs/\EK r.p r.cs
 pool:CL c.z c.ns c.PL c.mb c.esP c.ckP c.lmP c.su
 pk:∀k,k∈c.PL.map (·.key)↔k∈c.its.map ItM.key
 its:GN c.its c.next c.esQ c.ckQ c.lmQ c.lv c.ML c.esI c.ckI c.lmI c.esK c.ckK c.lmK c.SI
 tns:∀x∈c.its,x.tn<(c.ns:Int)
structure CZ.ok(c:CZ):Prop extends CZ.okb c where
 all:∀x∈c.its,x.ok c.M c.MR c.pos c.win
structure CZ.like(c d:CZ):Prop where
 cp:d.cp=c.cp
 pos:d.pos=c.pos
 win:d.win=c.win
 ns:d.ns=c.ns
 sc:d.z.cs=c.z.cs
variable{c:CZ}
theorem CZ.like.trans{a b:CZ}(h:a.like b)(k:b.like c):a.like c:=⟨k.cp.trans h.cp,k.pos.trans h.pos,k.win.trans h.win,k.ns.trans h.ns,k.sc.trans h.sc⟩
theorem CZ.like.cap{d:CZ}(h:c.like d):d.z.cap=c.z.cap:=congrArg Prod.fst h.sc
theorem jJ(h:c.okb):Ee (c.sW++c.M) (.slice c.wq c.win.length c.wc) c.win:=K9 h.win (by have:=h.wl;have g:maxLen=9223372036854775807:=rfl;omega) fun r m=>by
 obtain ⟨i,hi⟩:=HB m;exact (h.wp i r hi).2.1
theorem lK{α:Type}{l:List α}{x:α}(h:x∈l):∃A B,l=A++x::B:=Wf h
theorem mG{PL:List Bh}{K:Bm}(hk:∀k,k∈PL.map (·.key)↔k∈its.map ItM.key){O U:List Bh}{e:Bh}(Z:PL=O++e::U)(m:(PL.map (·.key)).Nodup)(X:e.key=K):∀k,k∈(O++U).map (·.key)↔k∈(its.filter fun y=>y.key≠K).map ItM.key:=by
 intro k;subst Z X;have W:=hk k
 rw [C0,Dg,Ge,HJ]at m;constructor
 · intro h
   rw [C0,C2]at h;have B:k≠e.key:=by
    rintro rfl;rcases h with h|h
    · exact m.2.2 _ h _ (E3 ..) rfl
    · exact m.2.1.1 h
   obtain ⟨y,G,rfl⟩:=C6.1 (W.1 (by rw [C0,Dg,C2,DB];rcases h with h|h;exact .inl h;exact .inr (.inr h)));exact C6.2 ⟨y,FG.2 ⟨G,by simpa using B⟩,V⟩
 · intro h
   obtain ⟨y,G,rfl⟩:=C6.1 h;obtain ⟨I,J⟩:=FG.1 G;have g:=W.2 (Dd I)
   rw [C0,Dg,C2,DB]at g;rw [C0,C2];rcases g with g|g|g
   · exact .inl g
   · simp [g]at J
   · exact .inr g
theorem Xn(h:c.okb)(X:x∈c.its):BS prog 49 #[.pointer (some ⟨c.cp,0,none⟩),.string x.key] [[(c.cp,.cells #[I0 c.pos,.slice c.wq c.win.length c.wc,.pointer (some ⟨c.z.r,0,none⟩),.pointer (some ⟨c.ip,0,none⟩),.map (some c.mi),.map (some c.mkb),I0 c.next] 95 (0,0))],c.sW,c.z.S,[(c.mb,.map c.esP c.ckP)],c.su,[(c.ip,.cells #[.map (some c.mq),c.lv] 165 (0,0))],[(c.mq,.map c.esQ c.ckQ)],c.ML,[(c.mi,.map c.esI c.ckI)],[(c.mkb,.map c.esK c.ckK)],c.SI,c.M,c.MR] (fun v H'=>v= .bool true/\∃d:CZ,d.okb/\c.like d/\d.next=c.next/\(d.M=c.M/\d.MR=c.MR)/\d.SI=c.SI/\d.mi=c.mi/\d.its=(c.its.filter fun y=>y.key≠x.key)/\(∀e∈d.PL,e∈c.PL)/\H'=[[(d.cp,.cells #[I0 d.pos,.slice d.wq d.win.length d.wc,.pointer (some ⟨d.z.r,0,none⟩),.pointer (some ⟨d.ip,0,none⟩),.map (some d.mi),.map (some d.mkb),I0 d.next] 95 (0,0))],d.sW,d.z.S,[(d.mb,.map d.esP d.ckP)],d.su,[(d.ip,.cells #[.map (some d.mq),d.lv] 165 (0,0))],[(d.mq,.map d.esQ d.ckQ)],d.ML,[(d.mi,.map d.esI d.ckI)],[(d.mkb,.map d.esK d.ckK)],d.SI,d.M,d.MR]):=by
 obtain ⟨e,he,B⟩:=C6.1 ((h.pk x.key).2 (Dd X));obtain ⟨L1,L2,m⟩:=lK he;have g:=h.pool
 rw [m]at g;rw [<-B];refine Se func49 ntmps49 [0,1] ?_;intro u R;refine A1<|A5 Y<|Zq<|Zq<|Be<|H7 (s:=c.z.S) Wo (fun W=>?_);rw [BX.keys]at W;refine Zg<|Zm Y<|Zv (Bg SM Y Y)<|A6<|AQ Y (fun G=>by cases G)<|fun G=>AC<|Zx<|A1<|Zm Y<|Zp Y V<|Zh 2 Ft V rfl sizeOf87 Y<|Zl Lk Y<|Zm Y<|Zc [_,_] Y call98 Y V (lZ g W) ?_;rintro _ _ ⟨_,⟨rfl,z2,es2,ck2,lm2,su2,O,K,Z,J,rfl⟩,rfl⟩;refine A6<|A1<|Zm Y<|Zm Y ?_;rw [B];refine Zc [_,_] Y call41 Y V (WI h.its X) ?_;rintro _ _ ⟨_,⟨rfl,eq3,cq3,lq3,ei3,ci3,li3,ek3,ck3,lk3,I,rfl⟩,rfl⟩;refine AW Y<|Zn [4] ?_;refine Zx<|AJ<|AP V results49 Y (by
  refine ⟨rfl,({c with z:=z2,PL:=L1++L2,esP:=es2,ckP:=ck2,lmP:=lm2,su:=su2,its:=c.its.filter fun y=>y.key≠x.key,esQ:=eq3,ckQ:=cq3,lmQ:=lq3,lv:= .pointer none,ML:=[],esI:=ei3,ckI:=ci3,lmI:=li3,esK:=ek3,ckK:=ck3,lmK:=lk3}:CZ),⟨h.pos,h.win,h.wl,h.wp,J,mG h.pk m h.pool.keys B,I,fun y U=>h.tns y (FG.1 U).1⟩,⟨rfl,rfl,rfl,rfl,K⟩,rfl,⟨rfl,rfl⟩,rfl,rfl,rfl,fun y U=>by rw [m];rcases C2.1 U with h9|h9<;>simp [h9],?_⟩;simp only [O];rfl)
theorem O3(h:c.okb):BS prog 17 #[.pointer (some ⟨c.cp,0,none⟩)] [[(c.cp,.cells c.A98 95 (0,0))],[(c.mi,.map c.esI c.ckI)]] (fun r H'=>∃(zs:List Bm) (s':List A9),zs.Perm (c.its.map ItM.key)/\(zs.Pairwise fun x y=>x.data.toList<=y.data.toList)/\Row 9 r (zs.map Value.string) s'/\H'=[[(c.cp,.cells c.A98 95 (0,0))],[(c.mi,.map c.esI c.ckI)],s']):=by
 have m:=h.its.len_eq;have I:=m.length_eq
 rw [B6,B6]at I;have O:=h.its.len
 refine Se func17 ntmps17 [0] ?_;intro u R;refine A1<|A5 Y<|Zq<|A1<|Zm Y<|Zv (Bg SM Y Y)<|A6<|AQ Y (fun g=>by cases g)<|fun g=>AC<|Zx<|A1<|Zm Y<|Zp Y V<|Zh 4 Ft V rfl Sf Y<|Zl RK Y<|Zc [_] Y call54 Y V (gN c.mi) ?_;rintro _ _ ⟨_,⟨K,rfl,rfl⟩,rfl⟩;refine Zc [_] Y call53 Y V (X6 h.its.im A0 K c.mi (M:=[(c.mi,.map c.esI c.ckI)]) B4) ?_;rintro _ _ ⟨_,⟨zs,U,G,B,J,rfl⟩,rfl⟩;refine A5 Y<|AJ<|AP V results17 Y (by exact ⟨zs,U,G.trans m,B,J,V⟩)
theorem oq(c:CZ):BJ prog 15 #[.pointer (some ⟨c.cp,0,none⟩)] [[(c.cp,.cells c.A98 95 (0,0))]] (I0 c.pos):=by
 refine Se func15 ntmps15 [0] ?_;intro u R;refine A1<|A5 Y<|Zq<|A1<|Zm Y<|Zv (Bg SM Y Y)<|A6<|AQ Y (fun g=>by cases g)<|fun g=>AC<|Zx<|A1<|Zm Y<|Zp Y V<|Zh 0 Ft V rfl AE Y<|Zl AH Y<|A5 Y<|AJ<|AP V results15 Y (by exact ⟨V,V⟩)
theorem iN(h:c.okb){k:Nat}(B:k<c.ns):BJ prog 12 #[.pointer (some ⟨c.cp,0,none⟩),I0 (k:Int)] [[(c.cp,.cells c.A98 95 (0,0))],c.z.S,[(c.mb,.map c.esP c.ckP)],c.su] (I0 (Du c.PL (k:Int))):=by
 refine Se func12 ntmps12 [0,1] ?_;intro u R;refine A1<|A5 Y<|Zq<|Zq<|H7 (s:=c.z.S) Wo (fun m=>?_);rw [BX.keys]at m;refine Zg<|Zm Y<|Zv (Bg SM Y Y)<|A6<|AQ Y (fun g=>by cases g)<|fun g=>AC<|Zx<|A1<|Zm Y<|Zp Y V<|Zh 2 Ft V rfl sizeOf87 Y<|Zl Lk Y<|Zm Y<|Xr [_,_] Y call37 Y V (xH h.pool m B)<|A5 Y<|AJ<|AP V results12 Y (by exact ⟨V,V⟩)
def BR.pc(r:BR):Int×List Chg:=(r.p,r.cs)
theorem Oc{q:QM}{base:Int}:∀{l l':List BR} {i:Nat} {st:C9×Int},l.map BR.pc=l'.map BR.pc->GU q base i st l=GU q base i st l'
 |[],[],_,_,_=>rfl
 |[],_::_,_,_,h=>by simp at h
 |_::_,[],_,_,h=>by simp at h
 |x::l,y::l',i,st,h=>by
  rw [Dg,Dg]at h;injection h with h1 h2
  injection h1 with h3 h4
  unfold GU;rw [h3,h4];split;· exact Oc h2
  · rfl
theorem OC{base:Int}{win:List BR}(h:(pos -base).toNat<=win.length):(Ct pos base win).length=(pos -base).toNat:=by
 unfold Ct;rw [CH];omega
theorem Rp(h:c.okb){r:BR}(g:r∈c.win):r.cs.length<=8:=by
 obtain ⟨i,hi⟩:=HB g;exact (h.wp i r hi).2.2.len.2
theorem yw{l m:List BR}(g:l.map BR.pc=m.map BR.pc){n:Nat}(h:∀y∈m,y.cs.length<=n):∀y∈l,y.cs.length<=n:=fun y K=>by
 have B:y.pc∈m.map BR.pc:=by rw [<-g];exact Dd K
 obtain ⟨w,J,I⟩:=C6.1 B;have h2:=h w J
 have G:y.cs=w.cs:=(congrArg Prod.snd I).symm;rw [G];exact h2
theorem UB(h:c.ok)(K:x∈c.its):BS prog 11 #[.pointer (some ⟨c.cp,0,none⟩),.string x.key] [[(c.cp,.cells c.A98 95 (0,0))],[(c.mi,.map c.esI c.ckI)],c.SI,c.M] (fun r H'=>∃G B s,r= .tuple #[.agg #[I0 x.q.kd,I0 x.q.tb,I0 x.q.cl,I0 x.q.lo,I0 x.q.hi,I0 x.q.bq,I0 x.q.ot,I0 x.tn,I0 x.base,.slice G x.L.length B],.bool true]/\G6 s (.slice G x.L.length B) x.L/\H'=[[(c.cp,.cells c.A98 95 (0,0))],[(c.mi,.map c.esI c.ckI)],c.SI,c.M,s]):=by
 have U:=h.its.get K;have g:=h.all x K
 have J:(x.b,Obj.cells x.A97 121 (0,0))∈c.SI:=h.its.sub x K;refine Se func11 ntmps11 [0,1] ?_;intro u R;refine A1<|Ze (FL cX (cs:=#[I0 0,I0 0,I0 0,I0 0,I0 0,I0 0,I0 0,I0 0,I0 0,.slice none 0 0]) AF)<|AG fun X=>A5 Y<|Zq<|A1<|Zm Y<|Zv (Bg SM Y Y)<|Zm Y<|Aj (t:=8) Y V (fun O=>by cases O)<|fun O=>Zf Y Y<|Yg (Ak Y V)<|Yf 4 Ft V rfl Sf Y<|Yl RK Y ?_;refine Zf Y Y<|Dt Y Wh (Dp (EG HG (D:=fun _=>True)) SJ a8 h.its.im (fun _ _=>trivial) (trivial) (by rw [U];first|done|rfl) Y Y) rfl rfl ?_;refine Yg (Bg underlying118 Y Y)<|Zv (AL Y Y)<|Z0<|Zn [0,1,4,16] ?_;refine Zx<|AQ Y (fun m=>by cases m)<|fun m=>AC<|Zx<|A1<|Zm Y<|Zp Y V<|Zh 4 Ft V rfl Sf Y<|Zl RK Y ?_;refine Zm Y<|Zo Wh (Dp (EG HG (D:=fun _=>True)) SJ a8 h.its.im (fun _ _=>trivial) (trivial) (by rw [U];first|done|rfl) Y Y) ?_;refine Zp Y V<|Zh 0 Hv V rfl HL Y<|CS (IZ Wo (J)) (AB (cs:=#[I0 x.q.kd,I0 x.q.tb,I0 x.q.cl,I0 x.q.lo,I0 x.q.hi,I0 x.q.bq,I0 x.q.ot,I0 x.tn,I0 x.base,.slice x.rq x.L.length x.rc]) Tr HL Y B5 (by exact (by apply HX.1;rfl))) V rfl ?_;refine Zc [_] Y call36 Y V (Qs x.q x.tn x.base g.rp g.rl g.fit) ?_;rintro _ _ ⟨_,⟨G,B,W,rfl,I,rfl⟩,rfl⟩;refine Xe (BL HL Y Y Hi Wu (by exact EN rfl) Fi B0 (by exact BC _)) ?_;refine A5 Y<|AJ<|CP V results11 Y Wh (Au Tr HL Wn (BO V)) Y (by exact ⟨G,B,W,V,I,V⟩)
theorem uw(h:c.ok)(I:x∈c.its)(U:c.pos<x.base):BJ prog 18 #[.pointer (some ⟨c.cp,0,none⟩),.string x.key] [[(c.cp,.cells c.A98 95 (0,0))],[(c.mi,.map c.esI c.ckI)],c.SI,c.M] (.tuple #[.agg #[I0 0,I0 0,I0 0,I0 0,I0 0,I0 0,I0 0,.slice none 0 0,I0 0,.bool false,I0 0,I0 0,I0 0,.slice none 0 0,.slice none 0 0],.bool false]):=by
 refine Se func18 ntmps18 [0,1] ?_;intro u R;refine A1<|Ze (FL Ly (cs:=#[I0 0,I0 0,I0 0,I0 0,I0 0,I0 0,I0 0,.slice none 0 0,I0 0,.bool false,I0 0,I0 0,I0 0,.slice none 0 0,.slice none 0 0]) AF)<|AG fun O=>A5 Y<|A1<|Zm Y<|Zm Y<|Zc [_,_] Y call11 Y V (UB h I) ?_;rintro _ _ ⟨_,⟨J,B,W,rfl,G,rfl⟩,rfl⟩;refine Zm Y<|Zd Y V<|Zd Y V<|Ze (FL cX (cs:=#[I0 0,I0 0,I0 0,I0 0,I0 0,I0 0,I0 0,I0 0,I0 0,.slice none 0 0]) AF)<|AG fun K=>Xe (Xw HL #[I0 x.q.kd,I0 x.q.tb,I0 x.q.cl,I0 x.q.lo,I0 x.q.hi,I0 x.q.bq,I0 x.q.ot,I0 x.tn,I0 x.base,.slice J x.L.length B])<|A5 Y<|Zq<|Zq<|Aw (n:=11) (0::1::3::7::15::7::39::103::231::511::1023::[]) 0 AF AF V<|A3 0 V (AO Y)<|A3 1 V (Br Y)<|A3 2 V (AO Y)<|Ce (t:=21) Y (fun g=>?_) (fun g=>?_);·
  rw [g];cases g
 rw [g];refine B1 3 V (AA (off:=8) G1 V rfl AE Y)<|DP 4 V Wh (BD AH Y Ax)<|B1 5 V (AO Y)<|B1 6 V (Ak Y V)<|B1 7 V (AA (off:=0) Ft V rfl AE Y)<|DP 8 V Wh (BD AH Y Ax)<|B1 9 V (Ef Y Y)<|A3 10 V (AL Y Y)<|Ag<|Zn [0,4,6,29] ?_;refine Zx<|Av Y (fun m=>?_) (fun m=>?_);·
  refine A1<|Zv (BM (vs:=[]) (cs:=#[_,_,_,_,_,_,_,_,_,_,_,_,_,_,_]) Y (AZ (pl:=#[(0,7),(7,3),(10,1),(11,1),(12,1),(13,1),(14,1)]) Ly ID (fun _=>by kernel_rfl) rfl))<|Xe (BL LL Y Y Hi Wu (EN rfl) Fi Wn (by exact BC _))<|A5 Y<|AJ<|Zt<|CP rfl results18 Y Wh (Au isAgg63 LL Wn (BO rfl)) Y na
 exfalso;omega
set_option maxHeartbeats 1000000 in
theorem yj(h:c.ok)(hx:x∈c.its)(hb:x.base<=c.pos):BS prog 18 #[.pointer (some ⟨c.cp,0,none⟩),.string x.key] [[(c.cp,.cells c.A98 95 (0,0))],c.sW,[(c.mi,.map c.esI c.ckI)],c.SI,c.M] (fun w H'=>∃(z:V5) (l:List BR) (s s2:List A9),z.a=⟨x.q,x.res,x.since,c.pos,x.base,x.L,l⟩/\l.map BR.pc=(Ct c.pos x.base c.win).map BR.pc/\z.ok (s++s2)/\w= .tuple #[.agg z.A96,.bool true]/\H'=[[(c.cp,.cells c.A98 95 (0,0))],c.sW,[(c.mi,.map c.esI c.ckI)],c.SI,c.M,s,s2]):=by
 have sM:=mL;have G:=h.all x hx
 obtain ⟨r0,gm,J⟩:=G.run;have kv:=G.base
 have p9:=h.pos;have sO:=h.wl
 have pg:=F5 h.win;have gq:=G.reach
 obtain ⟨wl,g⟩:∃wl,wl=(Ct c.pos x.base c.win):=⟨_,rfl⟩;have K:wl.length=(c.pos -x.base).toNat:=by rw [g];exact OC gq
 have gy:Ee (c.sW++c.M) (.slice (Ec c.wq (c.win.length -(c.pos -x.base).toNat) c.wc 2) (c.pos -x.base).toNat (c.wc -(c.win.length -(c.pos -x.base).toNat))) wl:=by
  have h1:=Nc (a:=c.win.length -(c.pos -x.base).toNat) (jJ h.tookb) A0;rw [g];rwa [show c.win.length -(c.win.length -(c.pos -x.base).toNat)=(c.pos -x.base).toNat by omega]at h1
 obtain ⟨cv,d9⟩:∃cv,cv=c.wc -(c.win.length -(c.pos -x.base).toNat):=⟨_,rfl⟩;obtain ⟨pv,ek⟩:∃pv,pv=Ec c.wq (c.win.length -(c.pos -x.base).toNat) c.wc 2:=⟨_,rfl⟩;rw [<-d9,<-ek,<-K]at gy;obtain ⟨p8,qj,e8,⟨sJ,sw⟩,l5⟩:=id gy;injection e8 with e81 e82 e83
 subst e81 e83;rw [<-g]at J⊢;refine Se func18 ntmps18 [0,1] ?_;intro u R;refine A1<|Ze (FL Ly (cs:=#[I0 0,I0 0,I0 0,I0 0,I0 0,I0 0,I0 0,.slice none 0 0,I0 0,.bool false,I0 0,I0 0,I0 0,.slice none 0 0,.slice none 0 0]) AF)<|AG fun bo=>A5 Y<|A1<|Zm Y<|Zm Y<|Zc [_,_] Y call11 Y V (UB h hx) ?_;rintro _ _ ⟨_,⟨pz,cz,se,rfl,ic,rfl⟩,rfl⟩;refine Zm Y<|Zd Y V<|Zd Y V<|Ze (FL cX (cs:=#[I0 0,I0 0,I0 0,I0 0,I0 0,I0 0,I0 0,I0 0,I0 0,.slice none 0 0]) AF)<|AG fun be=>Xe (Xw HL #[I0 x.q.kd,I0 x.q.tb,I0 x.q.cl,I0 x.q.lo,I0 x.q.hi,I0 x.q.bq,I0 x.q.ot,I0 x.tn,I0 x.base,.slice pz x.L.length cz]) ?_;refine A5 Y<|Zq<|Zq<|Aw (n:=11) (0::1::3::7::15::7::39::103::231::511::1023::[]) 0 AF AF V<|A3 0 V (AO Y)<|A3 1 V (Br Y)<|A3 2 V (AO Y)<|Ce (t:=21) Y (fun g1=>?_) (fun g1=>?_);·
  rw [g1];cases g1
 rw [g1];refine B1 3 V (AA (off:=8) G1 V rfl AE Y)<|DP 4 V Wh (BD AH Y Ax) ?_;refine B1 5 V (AO Y)<|B1 6 V (Ak Y V)<|B1 7 V (AA (off:=0) Ft V rfl AE Y)<|DP 8 V Wh (BD AH Y Ax) ?_;refine B1 9 V (Ef Y Y)<|A3 10 V (AL Y Y)<|Ag<|Zn [0,4,6,29] ?_;refine Zx<|Av Y (fun j5=>by omega)<|fun j5=>AC<|Zx<|A1<|Zm Y<|Zh 8 G1 V rfl AE Y<|Zl AH Y ?_;refine Xr [_,_] Y call55 Y V (O7 p9 x.base kv ⟨pg,by omega⟩) ?_;rw [As gq,<-d9,<-ek,<-K];refine Zm Y<|Zd Y V<|Zd Y V<|Za Y<|A5 Y<|Zq<|Cb (s1:=c.sW) (s2:=c.M) Wo Wo ?_;refine Zg<|Zm Y<|Zv (Ab HA Y)<|Ze (Ww (by_:=32) (sz:=2) (l:=0) HA (V:Tryz.prog.info? 57=some Tryz.t57) V rfl V Y Y ?_ ?_ ?_) ?_
 (focus (omega))
 (focus (omega))
 (focus (omega))
 rintro _ _ ⟨gr,ql,rfl,W,rfl⟩;refine AW Y<|Zn [4,6,8,10] ?_;refine Zx<|Zq<|Zq<|Be<|Zg<|Zm Y<|Zv (Ab HA Y)<|Zm Y<|A6<|AR<|Zb [10,43,4,6,41,42] ?_;refine BF (e0:=[(10,_),(43,_)]) (fun m e H=>∃(k:Nat) (l:List BR) (vr:A4) (U MR:List A9),m=wl.length -k/\((k<=wl.length/\l.length=k)/\Bc 2 57 vr l.length (Dv l) U/\(∀r∈l,Cv MR (.slice r.q r.cs.length r.cap) r.cs)/\l.map BR.pc=(wl.take k).map BR.pc)/\e=[(10,vr),(43,I0 (k:Int))]/\H=[U,MR]) (by exact ⟨0,[],_,_,[],V,⟨⟨C7 _,V⟩,lT A0 W,fun r X=>absurd X B4,V⟩,V,V⟩) Wp ?_;rintro _ _ _ ⟨k,l,vr,U,MR,rfl,⟨⟨hk,l8⟩,hR,ax,B⟩,rfl,rfl⟩;refine A1<|Zv (Ay Y Y)<|A6<|Zq<|Av Y (fun l9=>?_) (fun l9=>?_);·
  obtain ⟨r,X⟩:∃r,wl[k]?=some r:=⟨_,BT A0⟩;obtain ⟨cu,g9,qz,qo,T9,ve,o9,o8,qx,dn⟩:=l5 k r X;rw [o9];obtain ⟨gv,Z,rfl⟩:=hR.form;have qw:=Rp h.tookb (r:=r) (by rw [g]at X;exact Kf (DO X))
  refine AC<|Zx<|Zq<|AR<|A1<|BZ (Ad HA G3 Y Y A0)<|CS (IZ Wo (o8)) (AB (cs:=#[I0 r.p,.slice r.q r.cs.length r.cap]) IH G3 Y A0 (by exact dn)) V rfl ?_;refine Ze (Al Tl #[_,_])<|AG fun br=>Xe (Xw G3 #[I0 r.p,.slice r.q r.cs.length r.cap]) ?_;refine A6<|Zg<|Zm Y<|Zo Wh (AB (cs:=#[I0 r.p,.slice r.q r.cs.length r.cap]) IH G3 Y B5 (by exact BO V)) ?_;refine Zc [_] Y call45 Y V (Qr r.p cu A0) ?_;rintro _ _ ⟨_,⟨q2,cap2,s2,rfl,bn,rfl⟩,rfl⟩;refine Ze (Ai (vs:=[_]) (cs:=[_,_]) HA G3 Tl Y V rfl V rfl V)<|AG fun gb=>Ze (BV (by_:=32) (sz:=2) HA (V:Tryz.prog.info? 57=some Tryz.t57) V rfl V rfl Y (hR) Y (Db 2 gb 1 1 57 (0,0) [I0 r.p,.slice q2 r.cs.length cap2] V) Wo Wo G0 A0 A0) ?_;rintro _ _ ⟨qb,I,rfl⟩;obtain ⟨sj,r9,rfl⟩:=I.form;refine AW Y<|A8<|Zx<|Cb (s1:=s2) (s2:=MR) Wo Wo ?_;refine Zg<|Ya (n:=1) Y Y<|Zm Y<|Z0<|Zn [10,43,4,6,41,42] ?_;refine Aa (e':=[(10,_),(43,_)]) (by
   exact ⟨k+1,l++[⟨r.p,q2,cap2,r.cs⟩],_,qb,s2++MR,rfl,⟨⟨by omega,by rw [BW,l8];rfl⟩,Ba I (by rw [BW];rfl) (by rw [Kk];rfl),fun y O=>by
    rcases C2.1 O with O|O
    · exact H5 (ax y O) s2
    · rw [C5.1 O];exact Jj bn MR,by rw [C0,B,Bl X,C0];rfl⟩,rfl,rfl⟩)
 obtain rfl:k=wl.length:=by omega
 rw [GC]at B;obtain ⟨gv,Z,rfl⟩:=hR.form;refine Az<|Zt<|Zt<|AV<|Zx<|Zq<|kQ (s1:=c.sW) (s2:=c.M) (by repeat(first|exact V4.here _|apply V4.there)) ?_;refine Cb (s1:=se) (s2:=U) Wo Wo ?_;refine Cb (s1:=(se++U)) (s2:=MR) Wo Wo ?_;have j3:Ee ((se++U)++MR) (.slice gv l.length Z) l:=Lp (K9 hR A0 ax) (fun q hq=>by rcases C2.1 hq with h9|h9<;>simp [h9])
 have cO:∀y∈l,y.cs.length<=1000:=yw B fun y O=>by
  have:=Rp h.tookb (r:=y) (by rw [g]at O;exact Kf O);omega
 have af:Jy x.q x.base x.L l=some ⟨x.q,x.res,x.since,c.pos,x.base,x.L,l⟩:=by
  rw [QW gm A0,Oc B,J];show some (dB.mk x.q x.res x.since (x.base+(l.length:Int)) x.base x.L l)=_
  rw [show x.base+(l.length:Int)=c.pos by omega]
 refine Zg<|Zo Wh (AB (cs:=#[I0 x.q.kd,I0 x.q.tb,I0 x.q.cl,I0 x.q.lo,I0 x.q.hi,I0 x.q.bq,I0 x.q.ot,I0 x.tn,I0 x.base,.slice pz x.L.length cz]) Tr HL Y B5 (by exact BO V)) ?_;refine Zm Y<|Zc [_,_] Y call56 Y V (zB x.q x.tn x.base A0 (ic.mono fun q hq=>by simp [hq]) G.rl gm j3 cO) ?_;rintro _ _ ⟨_,⟨z,s9,b9,pq,rfl,rfl⟩,rfl⟩;obtain ⟨rfl,q9,qa⟩:b9=true/\z.a=⟨x.q,x.res,x.since,c.pos,x.base,x.L,l⟩/\z.ok (s9++((se++U)++MR)):=by
  rcases pq with⟨h1,h2,h3⟩|⟨_,h2⟩
  · rw [af]at h2;injection h2 with h2;exact ⟨h1,h2.symm,h3⟩
  · rw [af]at h2;cases h2
 refine Zd Y rfl<|Zd Y rfl<|Xe (BL LL Y Y Hi Wu (by exact EN rfl) Fi B0 (by exact BC _)) ?_;refine A5 Y<|AJ<|CP V results18 Y Wh (Au isAgg63 LL Wn (BO V)) Y (by exact ⟨z,l,s9,(se++U)++MR,q9,B,qa,V,V⟩)
theorem ua(h:c.ok)(I:x∈c.its)(G:x.base<=c.pos):BS prog 18 #[.pointer (some ⟨c.cp,0,none⟩),.string x.key] [[(c.cp,.cells c.A98 95 (0,0))],c.sW,[(c.mi,.map c.esI c.ckI)],c.SI,c.M] (fun w H'=>∃(z:V5) (l:List BR) (s:List A9),z.a=⟨x.q,x.res,x.since,c.pos,x.base,x.L,l⟩/\l.map BR.pc=(Ct c.pos x.base c.win).map BR.pc/\z.ok s/\w= .tuple #[.agg z.A96,.bool true]/\H'=[[(c.cp,.cells c.A98 95 (0,0))],c.sW,[(c.mi,.map c.esI c.ckI)],c.SI,c.M,s]):=by
 refine Ga (yj h I G) V ?_;rintro w H' ⟨z,l,s,s2,g,h2,m,B,rfl⟩;exact ⟨_,⟨z,l,s++s2,g,h2,m,B,V⟩,by simp⟩
end Go.Proofs.YthhakdmlpngcmaaGreatDoor
