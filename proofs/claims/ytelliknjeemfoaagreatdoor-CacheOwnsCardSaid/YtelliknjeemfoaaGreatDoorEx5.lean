/- Walking by chunks: copy, append, slices of arrays, bytes out of a string. No function of the program is named. -/
import Derived.Test.YtelliknjeemfoaaGreatDoorEx4
import Derived.Sort.OwnSortedInts
import Derived.Lib.SlicesCompact
set_option linter.unusedVariables false
set_option linter.unusedSimpArgs false
namespace Gw
open Go Go.RowKit
section
variable{P:Program}{env:Env}{d:Option Nat}{ty:AK}{pos:String}{af:Array Edge}{g:Option (Nat×Bool)}
section
variable{t e:AK}{n:Nat}{x lo hi:Operand}{b o l h s:Nat}{lk hk:IntKind}
theorem IY(B:P.underlying t=some (.array n e))(m:∀w:A4,(Go.sizeOf e).run P w= .ok s w)(hx:∀a,ev a env x= .pointer (some ⟨b,o,none⟩)):
 OpP P ⟨d,.slice t x none none none,ty,pos,af,g⟩ env [] (.slice (some ⟨b,o,none⟩) n n):=fun a w _=>by
 simp [KN,hx a,Instr.sliceAt,run_underlying B,Instr.sureAddr,Instr.sliceBounds,m,Addr.add]
theorem Pm(I:P.underlying t=some (.array n e))(G:∀w:A4,(Go.sizeOf e).run P w= .ok s w)(hx:∀a,ev a env x= .pointer (some ⟨b,o,none⟩))(B:∀a,ev a env lo= .int lk (l:Int))(J:l<n):
 OpP P ⟨d,.slice t x (some lo) none none,ty,pos,af,g⟩ env [] (.slice (some ⟨b,o+l*s,none⟩) (n -l) (n -l)):=fun a w _=>by
 have h2:l<=n:=by omega
 have m:¬n=l:=by omega
 simp [KN,hx a,B a,Instr.sliceAt,run_underlying I,Instr.sureAddr,Instr.sliceBounds,Instr.sliceBound,asIntOf,G,h2,m,CW]
theorem Sd(I:P.underlying t=some (.array n e))(G:∀w:A4,(Go.sizeOf e).run P w= .ok s w)(hx:∀a,ev a env x= .pointer (some ⟨b,o,none⟩))(B:∀a,ev a env hi= .int hk (h:Int))(m:h<=n):
 OpP P ⟨d,.slice t x none (some hi) none,ty,pos,af,g⟩ env [] (.slice (some ⟨b,o,none⟩) h n):=fun a w _=>by
 simp [KN,hx a,B a,Instr.sliceAt,run_underlying I,Instr.sureAddr,Instr.sliceBounds,Instr.sliceBound,asIntOf,G,m,Addr.add]
end
theorem Sc{t e:AK}{x lo hi m:Operand}{b o n cap l h s:Nat}{lk hk mk:IntKind}(U:P.underlying t=some (.slice e))(O:∀w:A4,(Go.sizeOf e).run P w= .ok s w)(hx:∀a,ev a env x= .slice (some ⟨b,o,none⟩) n cap)(J:∀a,ev a env lo= .int lk (l:Int))(I:∀a,ev a env hi= .int hk (h:Int))(K:∀a,ev a env m= .int mk (h:Int))(W:l<h)(h2:h<=cap):
 OpP P ⟨d,.slice t x (some lo) (some hi) (some m),ty,pos,af,g⟩ env [] (.slice (some ⟨b,o+l*s,none⟩) (h -l) (h -l)):=fun a w _=>by
 have B:l<=h:=by omega
 have G:¬h=l:=by omega
 simp [KN,hx a,J a,I a,K a,Instr.sliceAt,Instr.slice,run_underlying U,Instr.sliceBounds,Instr.sliceBound,asIntOf,h2,B,G,O,CW]
variable{u:A4}{H H' R:Hp}
def Bv(c:AM)(o:Nat)(cs:List A2):Prop:=(c.toList.drop o).take cs.length=cs
theorem Bv.get{c:AM}{o:Nat}{cs:List A2}(h:Bv c o cs)(j:Nat)(v:A2)(G:cs[j]?=some v):c[o+j]?=some v:=by
 have m:j<cs.length:=(C6.1 G).1;have B:((c.toList.drop o).take cs.length)[j]?=cs[j]?:=by rw [h]
 rw [HU,B0 m,S2,Hs,G]at B;exact B
theorem H7{w:A4}{b o:Nat}{c:AM}{T:AK}{z:Nat×Nat}{cs:List A2}(m:w.heap[b]?=some (.cells c T z))(h:Bv c o cs):∀j v,cs[j]?=some v->w.cell? ((⟨b,o,none⟩:Addr).add j)=some v:=fun j v B=>by
 rw [CW];exact Cn m (h.get j v B)
theorem A18{x y:Operand}{X sT e:AK}{b o n cap W o' n' B:Nat}{c c' c1:AM}{T T1:AK}{z z1:Nat×Nat}{cs:List A2}
 (hu:P.underlying X=some (.slice e))(hs:∀w:A4,(Go.sizeOf e).run P w= .ok 1 w)(hx:∀a,ev a env x= .slice (some ⟨b,o,none⟩) n cap)(hy:∀a,ev a env y= .slice (some ⟨W,o',none⟩) n' B)
 (J:Has W (.cells c1 T1 z1) H)(U:Upd b (.cells c T z) (.cells c' T z) H H')(ax:Bv c1 o' cs)(hn:cs.length=min n' n)(hc:EP c o cs=c')(G:o+cs.length<=c.size)(hz:Gc z c.size)(h1:∀v∈cs,v.oneCell'=true):
 OpW P u ⟨d,.call ⟨.builtin .copy,#[x,y],#[X,sT]⟩,ty,pos,af,g⟩ env H (fun v H1=>v=I0 ((min n' n:Nat):Int)/\H1=H') (fun _ _=>False):=fun a w m K Kp hK _=>by
 have hb:=m.get _ U.has.mem;have Z:=m.get _ J.mem
 have hl:=run_loadCells_list (P:=P) w ⟨W,o',none⟩ cs (H7 Z ax);rw [hn]at hl;have O:=Ci (P:=P) b o T z cs 0 c w hb hz (by simpa using G) h1
 simp only [Pu]at O;have I:Nat.min n' n=min n' n:=rfl
 have:(execOp (ev a env) ⟨d,.call ⟨.builtin .copy,#[x,y],#[X,sT]⟩,ty,pos,af,g⟩).run P w= .ok (.value (I0 ((min n' n:Nat):Int))) (w.setRow b (EP c o cs)):=by
  simp [E8,resolve,invoke,builtin,hx a,hy a,Builtin.copy_,run_underlying hu,Builtin.lenOf,Builtin.firstCells,hs,I,hl,O,EP,goInt]
 rw [this];exact hK _ _ _ ⟨rfl,rfl⟩ (m.upd U rfl rfl rfl (by rw [setRow_heap w b c _ T z hb,hc]) fun k hk=>setRow_other w b k _ hk)
theorem ng(bs:List UInt8):∀v∈bs.map u8v,v.oneCell'=true:=by
 intro v hv;obtain ⟨x,_,rfl⟩:=CM.1 hv;rfl
def Row(e:AK)(v:A2)(xs:List A2)(s:List A8):Prop:=
 (v= .slice none 0 0/\xs=[]/\s=[])\/
 ∃g cap cur z,v=I2 g xs.length cap/\s=[(g,.cells cur e z)]/\xs.length<=cap/\cap<=maxLen/\cur.size=cap/\cur.toList.take xs.length=xs/\Gc z cur.size
theorem IB(e:AK):Row e (.slice none 0 0) [] []:= .inl ⟨rfl,rfl,rfl⟩
theorem M9(e:AK)(g:Nat)(xs:List A2)(n:Nat)(hn:xs.length=n)(h:n<=maxLen):Row e (I2 g n n) xs [(g,.cells xs.toArray e (0,0))]:=by
 subst hn;exact .inr ⟨g,xs.length,xs.toArray,(0,0),V,V,CT _,h,by simp,by simp,BA _⟩
theorem Row.form{e:AK}{v:A2}{xs:List A2}{s:List A8}(h:Row e v xs s):∃b cap,v= .slice b xs.length cap:=by
 rcases h with⟨rfl,rfl,rfl⟩|⟨g,cap,cur,z,rfl,_⟩
 · exact ⟨none,0,rfl⟩
 · exact ⟨some ⟨g,0,none⟩,cap,rfl⟩
theorem Row.some{e:AK}{v:A2}{xs:List A2}{s:List A8}(h:Row e v xs s)(hn:0<xs.length):∃g cap cur z,v=I2 g xs.length cap/\s=[(g,.cells cur e z)]/\xs.length<=cap/\cap<=maxLen/\cur.size=cap/\cur.toList.take xs.length=xs/\Gc z cur.size:=by
 rcases h with⟨_,rfl,_⟩|h
 · cases hn
 · exact h
theorem FO{x y:Operand}{t e:AK}{i:TypeInfo}{z:A2}{by_:Nat}{v:A2}{xs:List A2}{s:List A8}{b o m c:Nat}{c1:AM}{T1:AK}{z1:Nat×Nat}{news:List A2}
 (ht:P.underlying t=some (.slice e))(hi:P.info? e=some i)(U:i.size=1)(ek:i.bytes=by_)(l8:i.zero=some z)(o8:z.oneCell'=true)
 (hx:∀a,ev a env x=v)(gy:Row e v xs s)(hy:∀a,ev a env y= .slice (some ⟨b,o,none⟩) m c)(gm:One s H R)(j5:Has b (.cells c1 T1 z1) R)(ax:Bv c1 o news)(O:news.length=m)(h1:∀u∈news,u.oneCell'=true)
 (hm:0<m)(W:xs.length+m<=maxLen)(hb:(xs.length+m)*by_<=140737488355328):
 OpW P u ⟨d,.call ⟨.builtin .append,#[x,y],#[t,t]⟩,ty,pos,af,g⟩ env H (fun v' H1=>∃s',Row e v' (xs++news) s'/\H1=s'::R) (fun _ _=>False):=fun a w j3 K Kp hK _=>by
 have cO:Sat u (s::R) w:=j3.perm (by simpa using gm.perm);have ic:Sat u R w:=cO.sub ⟨s,by simp only [Cp];exact OS⟩
 have d9:=ic.get _ j5.mem;have bn:=H7 d9 ax
 have l5:z.cells=#[z]:=by cases z<;>first|rfl|simp [Value.oneCell']at o8
 have Z:news.length=m*i.size:=by rw [U];omega
 have o9:maxLen=9223372036854775807:=rfl;have B:∀{v':A2} {w':A4},(Builtin.append_ #[t,t] ty #[v,.slice (some ⟨b,o,none⟩) m c]).run P w= .ok v' w'->(execOp (ev a env) ⟨d,.call ⟨.builtin .append,#[x,y],#[t,t]⟩,ty,pos,af,g⟩).run P w= .ok (.value v') w':=fun h=>by
  simp only [E8,resolve,invoke,builtin,Sx,F2,MY,hx a,hy a,Sem.run_bind,Sem.run_pure,Result.andThen_ok,h]
 have G:∀(n cap:Nat) (cells:AM) (w1:A4),w1={w with drawn:=n,heap:=w.heap.push (.cells cells e)}->Sat u ([(w.heap.size,.cells cells e (0,0))]::R) w1:=fun n cap cells w1 h=>by
  subst h;exact (ic.drawn n).alloc _
 rcases gy with⟨rfl,rfl,rfl⟩|⟨gb,cap,cur,zz,rfl,rfl,hle,hcm,hcs,htk,hfr⟩
 · have hr:=run_append_nil (P:=P) w t ty e i z ht hi l8 ⟨b,o,none⟩ m c news Z bn hm (by simp only [Mp,DP]at W;omega) (by rw [ek];simp only [Mp,DP]at hb;omega)
   rw [B hr];have X:=grownCap_ge w m 0 e
   have I:grownCap w m 0 e<=maxLen:=grownCap_le_maxLen w m 0 e (by simpa using W);refine hK _ _ _ ⟨[(w.heap.size,.cells (news.toArray++Builtin.zeroCells z.cells (grownCap w m 0 e -m)) e (0,0))],.inr ⟨w.heap.size,grownCap w m 0 e,_,(0,0),?_,rfl,?_,I,?_,?_,BA _⟩,rfl⟩ (G _ 0 _ _ rfl);· simp [O]
   · simpa [O]using X
   · simp [size_zeroCells,l5,O];omega
   · simp [O]
 · have hg:=cO.get (gb,.cells cur e zz) (by simp)
   by_cases J:xs.length+m<=cap
   · have hf:=run_firstCells_some (P:=P) w i.size m ⟨b,o,none⟩ m c news Z bn
     rw [U]at hf;have kv:=Ci (P:=P) gb xs.length e zz news 0 cur w hg hfr (by rw [O,hcs];omega) h1
     simp only [Pu]at kv;have hr:(Builtin.append_ #[t,t] ty #[I2 gb xs.length cap,.slice (some ⟨b,o,none⟩) m c]).run P w= .ok (I2 gb (xs.length+m) cap) (w.setRow gb (EP cur xs.length news)):=by
      simp [Builtin.append_,run_underlying ht,Go.sizeOf,typeInfo,hi,U,Builtin.lenOf,J,hf,CW,kv,EP]
     rw [B hr];have gq:(EP cur xs.length news).size=cap:=by
      unfold EP;simp;omega
     refine hK _ _ _ ⟨[(gb,.cells (EP cur xs.length news) e zz)],.inr ⟨gb,cap,_,zz,by simp [O],rfl,by simpa [O]using J,hcm,gq,?_,by rw [gq,<-hcs];exact hfr⟩,rfl⟩
      (cO.upd (.here _) rfl rfl rfl (setRow_heap w gb cur _ e zz hg) fun k hk=>setRow_other w gb k _ hk)
     unfold EP;rw [htk];simp only [DG];rw [<-DG];exact It B6
   · have cu:∀j v,xs[j]?=some v->w.cell? ((⟨gb,0,none⟩:Addr).add j)=some v:=fun j v hj=>by
      rw [CW];refine Cn hg ?_;have l9:j<xs.length:=(C6.1 hj).1
      have:(cur.toList.take xs.length)[j]?=some v:=by rw [htk];exact hj
      rw [HU,B0 l9]at this;simpa using this
     have hr:=run_append_grow (P:=P) w t ty e i z ht hi l8 ⟨gb,0,none⟩ xs.length cap xs (by rw [U];omega) cu ⟨b,o,none⟩ m c news Z bn A0 A0 (growslice_fits A0 (by rw [ek];exact hb));rw [B hr];have X:=grownCap_ge w (xs.length+m) cap e
     have I:grownCap w (xs.length+m) cap e<=maxLen:=grownCap_le_maxLen w (xs.length+m) cap e W;refine hK _ _ _ ⟨[(w.heap.size,.cells (xs.toArray++news.toArray++Builtin.zeroCells z.cells (grownCap w (xs.length+m) cap e -(xs.length+m))) e (0,0))],.inr ⟨w.heap.size,grownCap w (xs.length+m) cap e,_,(0,0),?_,V,?_,I,?_,?_,BA _⟩,V⟩ (G _ 0 _ _ V);· simp [O]
     · simpa [O]using X
     · simp [size_zeroCells,l5,O];omega
     · simp only [dp]
       exact It B6
theorem wJ{s t e:AK}{x:Operand}{str:C4}(hs:P.underlying s=some .string)(ht:P.underlying t=some (.slice e))(he:P.underlying e=some (.int .u8))(hx:∀a,ev a env x= .string str)(hm:str.size<=maxLen):
 OpW P u ⟨d,.convert s t x,ty,pos,af,g⟩ env H (fun v' H1=>∃X,Row e v' (str.data.toList.map u8v) X/\H1=X::H) (fun _ _=>False):=fun a w O K Kp hK _=>by
 have U:str.size<=grownCap w str.size 0 e:=grownCap_ge w str.size 0 e;have I:grownCap w str.size 0 e<=maxLen:=grownCap_le_maxLen w str.size 0 e hm
 have B:(str.data.toList.map u8v).length=str.size:=by rw [Bm];rfl
 obtain ⟨cells,m⟩:∃cells:AM,cells=str.data.map (fun b=>Value.int .u8 b.toNat)++Array.replicate (grownCap w str.size 0 e -str.size) (.int .u8 0):=⟨_,rfl⟩;have G:cells.size=grownCap w str.size 0 e:=by
  have:str.data.size=str.size:=rfl;rw [m];simp [this];omega
 have J:(execOp (ev a env) ⟨d,.convert s t x,ty,pos,af,g⟩).run P w= .ok (.value (.slice (some ⟨w.heap.size,0,none⟩) str.size (grownCap w str.size 0 e))) (World.freeze {w with drawn:=w.drawn+1,heap:=w.heap.push (.cells cells e)} ⟨w.heap.size,cells.size,none⟩ 1):=by
  have W:(({w with drawn:=w.drawn+1,heap:=w.heap.push (.cells cells e)}:A4).shape? w.heap.size)=some (e,cells.size):=by
   simp [World.shape?]
  simp only [Jp,hx a,convert,Sem.run_bind,run_underlying hs,run_underlying ht,run_underlying he,Result.andThen_ok,Conv.stringToBytes,choose,Sem.run,Question.forced,newRow,newObj,Sem.run_pure,Of,Hi];rw [show Question.cut (.appendCap str.size 0 e) (w.tape w.drawn (.appendCap str.size 0 e))=grownCap w str.size 0 e from rfl,<-m];simp [markStringish,W]
 rw [J];refine hK _ _ _ ⟨[(w.heap.size,.cells cells e (cells.size,cells.size+1))],.inr ⟨w.heap.size,grownCap w str.size 0 e,cells,(cells.size,cells.size+1),by rw [B],rfl,by rw [B];exact U,I,G,?_,ZV _ _ (CT _) _⟩,rfl⟩ ?_
 · rw [B,m]
   have:str.data.size=str.size:=rfl;simp [u8v,nm,List.take_append,this]
 · have Z:Sat u ([(w.heap.size,.cells cells e (0,0))]::H) {w with drawn:=w.drawn+1,heap:=w.heap.push (.cells cells e)}:=(O.drawn (w.drawn+1)).alloc _
   refine Z.upd (.here _) ?_ ?_ ?_ ?_ fun k hk=>?_;· simp [World.freeze]
   · simp [World.freeze]
   · simp [World.freeze]
   · simp only [World.freeze,Nat.one_ne_zero,Hi]
     rw [V0,B0 rfl];simp
   · simp [World.freeze,V0,en hk]
end
theorem Bc{P:Program}{cx:Cx}{c:Code}{Q:Exit->Act->A4->Prop}{env:Env}{H:Hp}(h:At P cx c Q env ([]::H)):At P cx c Q env H:=Xf (H':=[]::H) rfl h
def BX(sz:Nat)(e:AK)(v:A2)(k:Nat)(xs:List A2)(s:List A8):Prop:=
 xs.length=k*sz/\((v= .slice none 0 0/\k=0/\s=[])\/
 ∃g cap cur z,v=I2 g k cap/\s=[(g,.cells cur e z)]/\k<=cap/\cap<=maxLen/\cur.size=cap*sz/\cur.toList.take (k*sz)=xs/\Gc z cur.size)
theorem Bi(sz:Nat)(e:AK):BX sz e (.slice none 0 0) 0 [] []:=⟨by simp,.inl ⟨rfl,rfl,rfl⟩⟩
theorem BX.form{sz:Nat}{e:AK}{v:A2}{k:Nat}{xs:List A2}{s:List A8}(h:BX sz e v k xs s):∃b cap,v= .slice b k cap:=by
 rcases h with⟨_,⟨rfl,rfl,rfl⟩|⟨g,cap,cur,z,rfl,_⟩⟩
 · exact ⟨none,0,rfl⟩
 · exact ⟨some ⟨g,0,none⟩,cap,rfl⟩
theorem BX.cut{sz:Nat}{e:AK}{b:B8}{n cap k:Nat}{xs:List A2}{s:List A8}(h:BX sz e (.slice b n cap) k xs s):BX sz e (.slice b 0 cap) 0 [] s:=by
 rcases h with⟨_,⟨m,rfl,rfl⟩|⟨g,J,cur,z,m,rfl,K,B,G,O,I⟩⟩
 · simp only [Value.slice.injEq]at m
   obtain ⟨rfl,rfl,rfl⟩:=m;exact Bi sz e
 · simp only [Value.slice.injEq]at m
   obtain ⟨rfl,rfl,rfl⟩:=m;exact ⟨by simp,.inr ⟨g,cap,cur,z,V,V,C7 _,B,G,by simp,I⟩⟩
theorem UB{P:Program}{e:AK}{i:TypeInfo}{z:A2}(hi:P.info? e=some i)(m:i.zero=some z)(w:A4):(zeroValue e).run P w= .ok z w:=by
 simp [zeroValue,typeInfo,hi,m]
section
variable{P:Program}{u:A4}{env:Env}{H R:Hp}{d:Option Nat}{ty:AK}{pos:String}{af:Array Edge}{g:Option (Nat×Bool)}
theorem Ug{x y:Operand}{t e:AK}{i:TypeInfo}{z:A2}{by_ sz k:Nat}{v:A2}{xs:List A2}{s:List A8}{b o m c:Nat}{news:List A2}
 (ht:P.underlying t=some (.slice e))(hi:P.info? e=some i)(X:i.size=sz)(d9:i.bytes=by_)(kv:i.zero=some z)(j5:z.cells.size=sz)
 (hx:∀a,ev a env x=v)(U:BX sz e v k xs s)(hy:∀a,ev a env y= .slice (some ⟨b,o,none⟩) m c)(gm:One s H R)(ek:∀w,Sat u R w->∀j v,news[j]?=some v->w.cell? ((⟨b,o,none⟩:Addr).add j)=some v)(hl:news.length=m*sz)(h1:∀u∈news,u.oneCell'=true)
 (hm:0<m)(l5:k+m<=maxLen)(hb:(k+m)*by_<=140737488355328):
 OpW P u ⟨d,.call ⟨.builtin .append,#[x,y],#[t,t]⟩,ty,pos,af,g⟩ env H (fun v' H1=>∃s',BX sz e v' (k+m) (xs++news) s'/\H1=s'::R) (fun _ _=>False):=fun a w ic K Kp hK _=>by
 have cu:Sat u (s::R) w:=ic.perm (by simpa using gm.perm);have gy:Sat u R w:=cu.sub ⟨s,by simp only [Cp];exact OS⟩
 have ax:=ek w gy;have Z:news.length=m*i.size:=by rw [X];omega
 have o9:maxLen=9223372036854775807:=rfl;have B:∀{v':A2} {w':A4},(Builtin.append_ #[t,t] ty #[v,.slice (some ⟨b,o,none⟩) m c]).run P w= .ok v' w'->(execOp (ev a env) ⟨d,.call ⟨.builtin .append,#[x,y],#[t,t]⟩,ty,pos,af,g⟩).run P w= .ok (.value v') w':=fun h=>by
  simp only [E8,resolve,invoke,builtin,Sx,F2,MY,hx a,hy a,Sem.run_bind,Sem.run_pure,Result.andThen_ok,h]
 have J:∀(n cap:Nat) (cells:AM) (w1:A4),w1={w with drawn:=n,heap:=w.heap.push (.cells cells e)}->Sat u ([(w.heap.size,.cells cells e (0,0))]::R) w1:=fun n cap cells w1 h=>by
  subst h;exact (gy.drawn n).alloc _
 obtain ⟨cO,U⟩:=U;have G:(xs++news).length=(k+m)*sz:=by rw [C2,cO,hl,N0]
 have split:∀n p:Nat,p<=n->p*sz+(n -p)*sz=n*sz:=fun n p h=>by rw [<-N0];congr 1;omega
 rcases U with⟨rfl,rfl,rfl⟩|⟨gb,cap,cur,zz,rfl,rfl,hle,hcm,hcs,htk,hfr⟩
 · have l8:xs=[]:=OR (by omega)
   subst l8;have hr:=run_append_nil (P:=P) w t ty e i z ht hi kv ⟨b,o,none⟩ m c news Z ax hm (by omega) (by rw [d9];exact On (by simpa using hb) (by decide:140737488355328<=281474976710656))
   rw [B hr];have W:=grownCap_ge w m 0 e
   have O:grownCap w m 0 e<=maxLen:=grownCap_le_maxLen w m 0 e (by omega);refine hK _ _ _ ⟨[(w.heap.size,.cells (news.toArray++Builtin.zeroCells z.cells (grownCap w m 0 e -m)) e (0,0))],⟨G,.inr ⟨w.heap.size,grownCap w m 0 e,_,(0,0),by simp,rfl,by omega,O,?_,?_,BA _⟩⟩,rfl⟩ (J _ 0 _ _ rfl)
   · simp only [kf,size_zeroCells,j5,Hb,hl]
     exact split _ _ W
   · simp only [dp,Mu,DP]
     exact It hl
 · have hg:=cu.get (gb,.cells cur e zz) (by simp)
   by_cases I:k+m<=cap
   · have hf:=run_firstCells_some (P:=P) w i.size m ⟨b,o,none⟩ m c news Z ax
     rw [X]at hf;have l9:k*sz+m*sz<=cap*sz:=by rw [<-N0];exact W5 sz I
     have j3:=Ci (P:=P) gb (k*sz) e zz news 0 cur w hg hfr (by rw [hl,hcs];omega) h1;simp only [Pu]at j3;have hr:(Builtin.append_ #[t,t] ty #[I2 gb k cap,.slice (some ⟨b,o,none⟩) m c]).run P w= .ok (I2 gb (k+m) cap) (w.setRow gb (EP cur (k*sz) news)):=by
      simp [Builtin.append_,run_underlying ht,Go.sizeOf,typeInfo,hi,X,Builtin.lenOf,I,hf,CW,j3,EP]
     rw [B hr];have gq:(EP cur (k*sz) news).size=cap*sz:=by
      unfold EP;simp;omega
     refine hK _ _ _ ⟨[(gb,.cells (EP cur (k*sz) news) e zz)],⟨G,.inr ⟨gb,cap,_,zz,rfl,rfl,I,hcm,gq,?_,by rw [gq,<-hcs];exact hfr⟩⟩,rfl⟩
      (cu.upd (.here _) rfl rfl rfl (setRow_heap w gb cur _ e zz hg) fun k hk=>setRow_other w gb k _ hk)
     unfold EP;rw [htk];simp only [DG];rw [<-DG];exact It G
   · have bn:∀j v,xs[j]?=some v->w.cell? ((⟨gb,0,none⟩:Addr).add j)=some v:=fun j v hj=>by
      rw [CW];refine Cn hg ?_;have o8:j<xs.length:=(C6.1 hj).1
      have:(cur.toList.take (k*sz))[j]?=some v:=by rw [htk];exact hj
      rw [HU,B0 A0]at this;simpa using this
     have hr:=run_append_grow (P:=P) w t ty e i z ht hi kv ⟨gb,0,none⟩ k cap xs (by rw [X];exact cO) bn ⟨b,o,none⟩ m c news Z ax A0 A0 (growslice_fits A0 (by rw [d9];exact hb));rw [B hr];have W:=grownCap_ge w (k+m) cap e
     have O:grownCap w (k+m) cap e<=maxLen:=grownCap_le_maxLen w (k+m) cap e l5;refine hK _ _ _ ⟨[(w.heap.size,.cells (xs.toArray++news.toArray++Builtin.zeroCells z.cells (grownCap w (k+m) cap e -(k+m))) e (0,0))],⟨G,.inr ⟨w.heap.size,grownCap w (k+m) cap e,_,(0,0),V,V,W,O,?_,?_,BA _⟩⟩,V⟩ (J _ 0 _ _ V)
     · simp only [kf,size_zeroCells,j5,Hb,hl,cO]
       have:=split _ _ W;rw [N0]at this;exact this
     · simp only [dp]
       exact It (by simpa using G)
theorem Ed{x y:Operand}{t e:AK}{i:TypeInfo}{z:A2}{by_ sz k:Nat}{v:A2}{xs:List A2}{s:List A8}{b o m c:Nat}{Z:AM}{T1:AK}{z1:Nat×Nat}{news:List A2}
 (ht:P.underlying t=some (.slice e))(hi:P.info? e=some i)(U:i.size=sz)(O:i.bytes=by_)(X:i.zero=some z)(W:z.cells.size=sz)
 (hx:∀a,ev a env x=v)(I:BX sz e v k xs s)(hy:∀a,ev a env y= .slice (some ⟨b,o,none⟩) m c)(G:One s H R)(J:Has b (.cells Z T1 z1) R)(B:Bv Z o news)(hl:news.length=m*sz)(h1:∀u∈news,u.oneCell'=true)
 (hm:0<m)(K:k+m<=maxLen)(hb:(k+m)*by_<=140737488355328):
 OpW P u ⟨d,.call ⟨.builtin .append,#[x,y],#[t,t]⟩,ty,pos,af,g⟩ env H (fun v' H1=>∃s',BX sz e v' (k+m) (xs++news) s'/\H1=s'::R) (fun _ _=>False):=
 Ug ht hi U O X W hx I hy G (fun w hs=>H7 (hs.get _ J.mem) B) hl h1 hm K hb
theorem Ml{t e:AK}{x lo:Operand}{b o n cap l:Nat}{lk:IntKind}(I:P.underlying t=some (.slice e))(G:∀w:A4,(Go.sizeOf e).run P w= .ok 1 w)(hx:∀a,ev a env x= .slice (some ⟨b,o,none⟩) n cap)(B:∀a,ev a env lo= .int lk (l:Int))(m:l<=n)(h2:l<cap):
 OpP P ⟨d,.slice t x (some lo) none none,ty,pos,af,g⟩ env [] (.slice (some ⟨b,o+l,none⟩) (n -l) (cap -l)):=by
 have h:=Bw (d:=d) (ty:=ty) (pos:=pos) (af:=af) (g:=g) I G hx B m;have e1:Eb (some ⟨b,o,none⟩) l cap 1=some ⟨b,o+l,none⟩:=by
  unfold Eb;rw [As A0,Pr,CW,P0]
 rw [e1]at h;exact h
end
section
variable{P:Program}{u:A4}{env:Env}{H R R2:Hp}{d:Option Nat}{ty:AK}{pos:String}{af:Array Edge}{g:Option (Nat×Bool)}
theorem EF{t e s:Nat}(J:P.underlying t=some (.slice e))(I:∀w:A4,(Go.sizeOf e).run P w= .ok s w):
 OpW P u ⟨d,.buildSlice t 0 #[],ty,pos,af,g⟩ env H (fun O H1=>∃b,O=I2 b 0 0/\H1=[(b,.cells ([]:List A2).toArray e (0,0))]::H) (fun _ _=>False):=fun a w m K U G _=>by
 have B:(Instr.buildSlice t 0 (#[]:Array (Nat×A2))).run P w= .ok (.slice (some ⟨w.heap.size,0,none⟩) 0 0) {w with heap:=w.heap.push (.cells #[] e)}:=by
  unfold Instr.buildSlice;simp [Sem.run_bind,run_underlying J,I,Instr.fill,newRow];congr 2;apply lO<;>simp
 have:(execOp (ev a env) ⟨d,.buildSlice t 0 #[],ty,pos,af,g⟩).run P w= .ok (.value (.slice (some ⟨w.heap.size,0,none⟩) 0 0)) {w with heap:=w.heap.push (.cells #[] e)}:=by
  rw [Ny,Sem.run_bind];have e0:(#[]:Array (Nat×Operand)).map (fun(i,x)=>(i,ev a env x))=#[]:=by simp
  rw [e0,B];rfl
 rw [this];exact G _ _ _ ⟨_,V,V⟩ (m.alloc _)
theorem One.has{b:Nat}{o:Obj}(h:One [(b,o)] H R):Has b o H:=by
 induction h with
 |here H=>exact .here _
 |there t h ih=>exact .there _ ih
theorem Row.le{e:AK}{v:A2}{xs:List A2}{s:List A8}(h:Row e v xs s):∃b cap,v= .slice b xs.length cap/\xs.length<=cap:=by
 rcases h with⟨rfl,rfl,rfl⟩|⟨g,cap,cur,z,rfl,_,hle,_⟩
 · exact ⟨none,0,rfl,CT _⟩
 · exact ⟨_,cap,rfl,hle⟩
theorem KQ{x y:Operand}{t e:AK}{i:TypeInfo}{z:A2}{by_:Nat}{v v2:A2}{xs ys:List A2}{s s2:List A8}
 (ht:P.underlying t=some (.slice e))(hi:P.info? e=some i)(G:i.size=1)(ax:i.bytes=by_)(ek:i.zero=some z)(d9:z.oneCell'=true)
 (hx:∀a,ev a env x=v)(m:Row e v xs s)(hy:∀a,ev a env y=v2)(B:Row e v2 ys s2)(I:One s H R)(W:One s2 R R2)(h1:∀u∈ys,u.oneCell'=true)
 (Z:xs.length+ys.length<=maxLen)(hb:(xs.length+ys.length)*by_<=140737488355328):
 OpW P u ⟨d,.call ⟨.builtin .append,#[x,y],#[t,t]⟩,ty,pos,af,g⟩ env H (fun v' H1=>∃s',Row e v' (xs++ys) s'/\H1=s'::R) (fun _ _=>False):=by
 by_cases h0:ys=[]
 · subst h0
   obtain ⟨X,c2,rfl,_⟩:=B.le;obtain ⟨b,c,rfl,O⟩:=m.le;intro a w U K Kp hK _;have bn:Sat u (s::R) w:=U.perm (by simpa using I.perm)
   have J:(Builtin.firstCells i.size 0 (.slice X 0 c2)).run P w= .ok #[] w:=by
    cases X with
    |none=>simp [Builtin.firstCells]
    |some ad=>simp [Builtin.firstCells,loadCells,loadCellsFrom]
   have hr:(Builtin.append_ #[t,t] ty #[.slice b xs.length c,.slice X 0 c2]).run P w= .ok (.slice b xs.length c) w:=by
    rw [G]at J;cases b with
    |none=>simp [Builtin.append_,run_underlying ht,Go.sizeOf,typeInfo,hi,G,Builtin.lenOf,O,J]
    |some ad=>simp [Builtin.append_,run_underlying ht,Go.sizeOf,typeInfo,hi,G,Builtin.lenOf,O,J,storeCells]
   have cO:(execOp (ev a env) ⟨d,.call ⟨.builtin .append,#[x,y],#[t,t]⟩,ty,pos,af,g⟩).run P w= .ok (.value (.slice b xs.length c)) w:=by
    simp only [E8,resolve,invoke,builtin,Sx,F2,MY,hx a,hy a,Sem.run_bind,Sem.run_pure,Result.andThen_ok,Mp,hr]
   rw [cO];exact hK _ _ _ ⟨s,by rw [DQ];exact m,rfl⟩ bn
 · have hp:0<ys.length:=List.length_pos_iff.2 h0
   obtain ⟨gb,cap,cur,zz,rfl,rfl,O,gm,gq,cu,gy⟩:=B.some hp;exact FO ht hi G ax ek d9 hx m hy I W.has (by unfold Bv;rw [S8];exact cu) rfl h1 hp Z hb
theorem dB{t ty b j s:Nat}{m:Func}{v x:A2}(G:m.results=#[.cell t ty,.tmp s]){w:A4}{tmps:AM}(hx:tmps.getD t undef= .pointer (some ⟨b,j,none⟩))(B:(loadVar ty ⟨b,j,none⟩).run P w= .ok v w)(hy:tmps.getD s undef=x):(results m tmps).run P w= .ok (.tuple #[v,x]) w:=by
 rw [NX]at hx hy;simp [results,G,hx,hy,asAddr,B]
theorem CP{e:Exit}{N:Nat}{r:Option Nat}{B:Func}{Q:A2->Hp->Prop}{G:List PanicEntry->Hp->Prop}{H':Hp}{t ty b j s:Nat}{v x:A2}{o:Obj}(J:Fa e=true)(W:B.results=#[.cell t ty,.tmp s])(hv:∀a,GA a env t= .pointer (some ⟨b,j,none⟩))(I:Has b o H)(K:∀w:A4,w.heap[b]?=some o->(loadVar ty ⟨b,j,none⟩).run P w= .ok v w)(hx:∀a,GA a env s=x)(U:Q (.tuple #[v,x]) H')(O:Sub (H'++R) H:=by repeat(first|exact Sub.refl _|exact Sub.nil _|(apply Sub.cons;(focus (repeat(first|exact One.here _ _|apply One.there))))|refine Sub.drop _ ?_)):Nx ⟨N,[],u,r⟩ (bodyPost P B (GV u R Q G) e) env H:=
 Li J (fun a w m=>dB W (by rw [Ca a env (by rw [m.size];exact m.fit),hv a]) (K w (m.sat.get _ I.mem)) (by rw [Ca a env (by rw [m.size];exact m.fit),hx a])) U O
theorem CO{ops:Array Oper}{l:List Oper}{cx:Cx}{Q:Exit->Act->A4->Prop}{d:Nat}{m:Op}{v:A2}{cs:List A8}(B:∀c∈cs,c∈H.flatten)(h:OpP P ⟨some d,m,ty,pos,af,none⟩ env cs v)(hn:E5 m=true)(G:Nat.blt d cx.N=true)
 (k:Ops P ops l cx Q ((d,v)::env) H):Ops P ops (⟨some d,m,ty,pos,af,none⟩::l) cx Q env H:=
 JY (fun _=>rfl) (fun t I=>by cases I;simpa using G) hn (h.eff (u:=cx.u) (H:=H) B) (by rintro _ _ ⟨rfl,rfl⟩;exact k) (fun _ _ h=>h.elim)
theorem lM{w:A4}{s1 s2:List A8}{a b:Nat}{x y:Obj}(J:Sat u H w)(m:One s1 H R)(h2:One s2 R R2)(B:(a,x)∈s1)(G:(b,y)∈s2):a≠b:=by
 have hn:=J.nodup;have I:H.flatten.Perm (s1++(s2++R2.flatten)):=m.perm.trans (Sp s1 h2.perm)
 rw [(I.map (·.1)).nodup_iff,CN,CN,HN]at hn;exact hn.2.2 a (CM.2 ⟨_,B,V⟩) b (Fc _ (CM.2 ⟨_,G,V⟩))
theorem zR{cx:Cx}{c:Code}{Q:Exit->Act->A4->Prop}{s1 s2:List A8}{a b:Nat}{x y:Obj}(B:One s1 H R)(h2:One s2 R R2)(G:(a,x)∈s1)(I:(b,y)∈s2)(k:a≠b->At P cx c Q env H):At P cx c Q env H:=
 fun act w m=>k (lM m.sat B h2 G I) act w m
theorem Lg{ops:Array Oper}{l:List Oper}{cx:Cx}{Q:Exit->Act->A4->Prop}{d:Nat}{m:Op}{g:Nat×Bool}{v:A2}{cs:List A8}(I:∀a,wantedE ops a env (some g)=true)(B:∀c∈cs,c∈H.flatten)(h:OpP P ⟨some d,m,ty,pos,af,some g⟩ env cs v)(hn:E5 m=true)(G:Nat.blt d cx.N=true)
 (k:Ops P ops l cx Q ((d,v)::env) H):Ops P ops (⟨some d,m,ty,pos,af,some g⟩::l) cx Q env H:=
 JY I (fun t J=>by cases J;simpa using G) hn (h.eff (u:=cx.u) (H:=H) B) (by rintro _ _ ⟨rfl,rfl⟩;exact k) (fun _ _ h=>h.elim)
theorem wX{e:AK}{v:A2}{xs:List A2}{s:List A8}(h:Row e v xs s){k:Nat}(hk:k<xs.length):∃b cap cur z,v=I2 b xs.length cap/\s=[(b,.cells cur e z)]/\k<cur.size/\Gc z cur.size/\∀y:A2,Row e v (xs.set k y) [(b,.cells (cur.setIfInBounds k y) e z)]:=by
 obtain ⟨b,cap,cur,z,rfl,rfl,I,B,G,J,m⟩:=h.some A0;refine ⟨b,cap,cur,z,rfl,rfl,by omega,m,fun y=> .inr ⟨b,cap,_,z,by rw [ee],rfl,by rw [ee];exact I,B,by rw [US];exact G,?_,by rw [US];exact m⟩⟩;rw [ee,jz,List.take_set,J]
end
section
variable{P:Program}{cx:Cx}{x y:Code}{Q:Exit->Act->A4->Prop}{env:Env}{H:Hp}
theorem Ch{e0 B:Env}{H0 R:Hp}(I:Env->Hp->Prop)(U:Ey H0 H R)(hx:At P cx x (Exit.then (fun a w=>∃e H1 a0,I e H1/\St cx (e++B) (H1++R) a0 w/\a=C9 (e++B) a0) Q) (e0++B) (H0++R))(hy:∀e H1,I e H1->At P cx y Q (e++B) (H1++R)):At P cx (.seq x y) Q (e0++B) H:=fun a w m=>by
 have G:St cx (e0++B) (H0++R) a w:=⟨m.size,m.defers,m.fit,m.sat.perm U.perm⟩;refine wpIn_seq (wpIn_mono (hx a w G) fun e X W K=>?_);cases e<;>first|exact K|(obtain ⟨e',H',a0,O,J,rfl⟩:=K;exact hy e' H' O a0 W J)
theorem BU{I:Env->Hp->Prop}{B e':Env}{R H':Hp}(h:I e' H')(G:Sub (H'++R) H:=by repeat(first|exact Sub.refl _|exact Sub.nil _|(apply Sub.cons;(focus (repeat(first|exact One.here _ _|apply One.there))))|refine Sub.drop _ ?_)):Nx cx ((Exit.then (fun a w=>∃e H1 a0,I e H1/\St cx (e++B) (H1++R) a0 w/\a=C9 (e++B) a0) Q) .normal) (e'++B) H:=fun a _ m=>⟨e',H',a,h,⟨m.size,m.defers,m.fit,m.sat.sub G.amid⟩,rfl⟩
end
end Gw
namespace Gw
open Go Go.RowKit Go.Sort
section
variable{P:Program}{u:A4}{env:Env}{H R:Hp}{d:Option Nat}{ty:AK}{pos:String}{af:Array Edge}{g:Option (Nat×Bool)}
theorem rP(c:AM)(k:Nat):EP c k []=c:=by
 unfold EP;apply HW.1;simp
end
theorem TL{α:Type} [Inhabited α]{f:α->A2}{w:A4}{g:Nat}{cur:AM}{e:AK}{z:Nat×Nat}{zs:List α}(I:w.heap[g]?=some (.cells cur e z))(K:zs.length<=cur.size)(B:Gc z cur.size)(O:cur.toList.take zs.length=zs.map f):Holds f w g 0 zs.toArray:=by
 intro j J;have m:j<zs.length:=by simpa using J
 have U:=B j A0;have G:(cur.toList.take zs.length)[j]?=(zs.map f)[j]?:=by rw [O]
 rw [mx m]at G;refine ⟨?_,?_⟩
 · simp only [World.cell?,I,DP]
   simp only [qS,Of,Hi];rw [<-Hs,G];simp [m]
 · simp only [World.frozen?,I,DP]
   simp;omega
theorem YL{α:Type} [Inhabited α]{f:α->A2}(cur:AM)(m:List α)(h:m.length<=cur.size):(putCells f 0 m.toArray cur).toList.take m.length=m.map f:=by
 apply O2;intro j;rw [HU];by_cases B:j<m.length
 · rw [B0 B,Hs]
   unfold putCells;rw [pS,I3 A0];simp [B]
 · rw [As B,Nd LO]
theorem MH{α:Type} [Inhabited α]{f:α->A2}(cur:AM)(m:Array α):(putCells f 0 m cur).size=cur.size:=by simp [putCells]
theorem Sat.sorted{α:Type} [Inhabited α]{f:α->A2}{u w:A4}{g n:Nat}{cur:AM}{e:AK}{z:Nat×Nat}{R:Hp}(d:Array α)(os:Array Obj)(h:Sat u ([(g,.cells cur e z)]::R) w):Sat u ([(g,.cells (putCells f 0 d cur) e z)]::R) (grow (putRow f (Sort.ahead w n) g 0 d) os):=by
 have m:=h.get (g,.cells cur e z) B6;have G:g<w.heap.size:=(Hj.1 m).1
 have B:Sat u ([(g,.cells (putCells f 0 d cur) e z)]::R) (putRow f (Sort.ahead w n) g 0 d):=by
  refine h.upd (.here _) V rfl V ?_ fun k hk=>?_;· simp [putRow,mapBlock,Sort.ahead,V0,m,onCells]
  · have:g≠k:=fun e=>hk e.symm
    simp [putRow,mapBlock,Sort.ahead,V0,this]
 exact B.below ⟨V,V,V,by simp [grow],fun k hk=>heap_grow_old _ _ hk⟩
inductive Ud(s1 s2:List A8):Hp->Hp->Prop
 |here (H:Hp):Ud s1 s2 ((s1++s2)::H) (s1::s2::H)
 |there {H H':Hp} (t:List A8) (h:Ud s1 s2 H H'):Ud s1 s2 (t::H) (t::H')
theorem Ud.flat{s1 s2:List A8}{H H':Hp}(h:Ud s1 s2 H H'):H.flatten=H'.flatten:=by
 induction h with
 |here H=>simp
 |there t h ih=>simp only [Cp,ih]
theorem jS{P:Program}{cx:Cx}{m:Code}{Q:Exit->Act->A4->Prop}{env:Env}{s1 s2:List A8}{H H':Hp}(h:Ud s1 s2 H H')(k:At P cx m Q env H'):At P cx m Q env H:=Xf h.flat k
theorem CK{P:Program}{cx:Cx}{G:Code}{Q:Exit->Act->A4->Prop}{env:Env}{s1 s2:List A8}{H B R2:Hp}(I:One s1 H B)(h2:One s2 B R2)(k:At P cx G Q env ((s1++s2)::R2)):At P cx G Q env H:=fun a w m=>
 k a w ⟨m.size,m.defers,m.fit,m.sat.perm (by
   simp only [Cp,DG];exact I.perm.trans (Sp s1 h2.perm))⟩
end Gw
namespace Gw
open Go Go.RowKit
structure V3 where
 a:Int
 b:Int
 c:Int
deriving DecidableEq
def V3.zero:V3:=⟨0,0,0⟩
theorem V3.eq_iff(x y:V3):x=y↔(x.a=y.a/\x.b=y.b/\x.c=y.c):=by
 constructor;· rintro rfl;exact ⟨rfl,rfl,rfl⟩
 · cases x;cases y;rintro ⟨m,h2,B⟩;simp only at m h2 B;rw [m,h2,B]
section
variable{P:Program}{u:A4}{env:Env}{H R:Hp}{d:Option Nat}{ty:AK}{pos:String}{af:Array Edge}{g:Option (Nat×Bool)}
theorem RA{e:AK}(n:Nat)(w:A4)(B:P.underlying e=some (.int .i64))(m k:Int):(Op.equalIn (n+1) e (I0 m) (I0 k)).run P w= .ok (decide (m=k)) w:=by
 simp [Op.equalIn,run_underlying B];by_cases h:m=k<;>simp [h]
theorem FV{e:AK}(w:A4)(m:(isAgg e).run P w= .ok false w)(xs:AM)(j:Nat){v:A2}(h:xs[j]?=some v):(part e xs j).run P w= .ok v w:=by
 simp [part,m,h]
theorem RB{t e:AK}(w:A4)(n:Nat)(x y:V3)(Z:P.underlying t=some (.array 3 e))(W:P.underlying e=some (.int .i64))(B:∀w:A4,(isAgg e).run P w= .ok false w)(X:∀w:A4,(Go.sizeOf e).run P w= .ok 1 w):
 (Op.equalIn (n+2) t (.agg #[I0 x.a,I0 x.b,I0 x.c]) (.agg #[I0 y.a,I0 y.b,I0 y.c])).run P w= .ok (decide (x=y)) w:=by
 have G:∀(m k:Int) (w:A4),(Op.equalIn (n+1) e (I0 m) (I0 k)).run P w= .ok (decide (m=k)) w:=fun m k w=>RA n w W m k;have I:∀(v0 v1 v2:A2) (w:A4),(part e #[v0,v1,v2] 0).run P w= .ok v0 w:=fun _ _ _ w=>FV w (B w) _ _ rfl
 have J:∀(v0 v1 v2:A2) (w:A4),(part e #[v0,v1,v2] 1).run P w= .ok v1 w:=fun _ _ _ w=>FV w (B w) _ _ rfl;have K:∀(v0 v1 v2:A2) (w:A4),(part e #[v0,v1,v2] 2).run P w= .ok v2 w:=fun _ _ _ w=>FV w (B w) _ _ rfl
 rw [show n+2=(n+1)+1 from rfl,Op.equalIn];generalize n+1=m at*;simp only [Sem.run_bind,run_underlying Z,Result.andThen_ok,X];simp only [Std.Legacy.Range.forIn_eq_forIn_range',Std.Legacy.Range.size,W0,Ss,Nat.div_one,qu,List.range'_zero,nt,rK];simp only [Sem.run_bind,I,J,K,G,Result.andThen_ok,DP,P0,Nat.one_mul,el,V3.eq_iff];by_cases O:x.a=y.a<;>by_cases h2:x.b=y.b<;>by_cases U:x.c=y.c<;>simp [O,h2,U,I,J,K,G]
theorem Qi{t:AK}(p q:AM):binOp .eql t (.agg p) (.agg q)=(do pure (.bool (<-Op.equal t (.agg p) (.agg q)))):=rfl
theorem Lx{t:AK}(p q:AM):binOp .neq t (.agg p) (.agg q)=(do pure (.bool (!(<-Op.equal t (.agg p) (.agg q))))):=rfl
section
variable{t yt e:AK}{x y:Operand}{p q:V3}
theorem KX(G:P.eqGuardType P.depth t=false)(J:P.underlying t=some (.array 3 e))(B:P.underlying e=some (.int .i64))(m:∀w:A4,(isAgg e).run P w= .ok false w)(I:∀w:A4,(Go.sizeOf e).run P w= .ok 1 w)
 (hx:∀a,ev a env x= .agg #[I0 p.a,I0 p.b,I0 p.c])(hy:∀a,ev a env y= .agg #[I0 q.a,I0 q.b,I0 q.c]):OpP P ⟨d,.binOp .eql t x y yt,ty,pos,af,g⟩ env [] (.bool (decide (p=q))):=fun a w _=>by
 simp [Cm,hx a,hy a,go_sem,run_eqGuard_agg w _ t _ _ _ _ G,Qi,Op.equal,Op.maxDepth,RB w 9998 p q J B m I]
theorem KW(G:P.eqGuardType P.depth t=false)(J:P.underlying t=some (.array 3 e))(B:P.underlying e=some (.int .i64))(m:∀w:A4,(isAgg e).run P w= .ok false w)(I:∀w:A4,(Go.sizeOf e).run P w= .ok 1 w)
 (hx:∀a,ev a env x= .agg #[I0 p.a,I0 p.b,I0 p.c])(hy:∀a,ev a env y= .agg #[I0 q.a,I0 q.b,I0 q.c]):OpP P ⟨d,.binOp .neq t x y yt,ty,pos,af,g⟩ env [] (.bool (decide (p≠q))):=fun a w _=>by
 simp [Cm,hx a,hy a,go_sem,run_eqGuard_agg w _ t _ _ _ _ G,Lx,Op.equal,Op.maxDepth,RB w 9998 p q J B m I]
theorem JW(G:P.eqGuardType P.depth t=false)(J:P.underlying t=some (.array 3 e))(B:P.underlying e=some (.int .i64))(m:∀w:A4,(isAgg e).run P w= .ok false w)(I:∀w:A4,(Go.sizeOf e).run P w= .ok 1 w)
 (hx:∀a,ev a env x= .agg #[I0 p.a,I0 p.b,I0 p.c])(hy:∀a,ev a env y= .agg #[I0 0,I0 0,I0 0]):OpP P ⟨d,.binOp .eql t x y yt,ty,pos,af,g⟩ env [] (.bool (decide (p=V3.zero))):=KX (q:=V3.zero) G J B m I hx hy
theorem A26(G:P.eqGuardType P.depth t=false)(J:P.underlying t=some (.array 3 e))(B:P.underlying e=some (.int .i64))(m:∀w:A4,(isAgg e).run P w= .ok false w)(I:∀w:A4,(Go.sizeOf e).run P w= .ok 1 w)
 (hx:∀a,ev a env x= .agg #[I0 p.a,I0 p.b,I0 p.c])(hy:∀a,ev a env y= .agg #[I0 0,I0 0,I0 0]):OpP P ⟨d,.binOp .neq t x y yt,ty,pos,af,g⟩ env [] (.bool (decide (p≠V3.zero))):=KW (q:=V3.zero) G J B m I hx hy
end
end
def V3.get(v:V3)(i:Nat):Int:=if i=0 then v.a else if i=1 then v.b else v.c
theorem wj(x y:A2)(v:V3)(i:Nat)(h:i<3):(#[x,y,Value.int .i64 v.a,I0 v.b,I0 v.c]:AM)[2+i]?=some (I0 (v.get i)):=by
 rcases i with _|_|_|i
 · rfl
 · rfl
 · rfl
 · omega
def inV(n:Int):Prop:=-1000000000<=n/\n<=1000000000
instance(n:Int):Decidable (inV n):=inferInstanceAs(Decidable (_/\_))
def V3.ok(v:V3):Prop:=inV v.a/\inV v.b/\inV v.c
instance(v:V3):Decidable v.ok:=inferInstanceAs(Decidable (_/\_/\_))
theorem yo{v:V3}:v.ok↔∀i,i<3->inV (v.get i):=by
 constructor
 · rintro ⟨m,h2,B⟩ i hi
   rcases i with _|_|_|i
   · exact m
   · exact h2
   · exact B
   · omega
 · intro h;exact ⟨h 0 A0,h 1 A0,h 2 A0⟩
theorem wL{v:V3}{i:Nat}(h:∀j,j<i->inV (v.get j))(hi:inV (v.get i)):∀j,j<i+1->inV (v.get j):=by
 intro j m;rcases Ft j i with h9|h9
 · exact h j h9
 · have e:j=i:=by omega
   rw [e];exact hi
structure Ej where
 i:Nat
 o:Oper
 v:A2
 C:List A8
 k:Bool
def lay(p:Ej->Bool):List Ej->Act->Act
 |[],a=>a
 |e::l,a=>lay p l (if p e then a.put e.o.dst e.v else a)
def tv(p:Ej->Bool)(t:Nat):List Ej->Option A2->Option A2
 |[],d=>d
 |e::l,d=>tv p t l (if p e=true/\e.o.dst=some t then some e.v else d)
theorem Cy(p:Ej->Bool):∀(l:List Ej) (a:Act),(lay p l a).tmps.size=a.tmps.size
 |[],_=>rfl
 |e::l,a=>by simp only [lay];rw [Cy p l];split<;>simp [EJ]
theorem FH(p:Ej->Bool):∀(l:List Ej) (a:Act),(lay p l a).defers=a.defers
 |[],_=>rfl
 |e::l,a=>by simp only [lay];rw [FH p l];split<;>simp [JU]
theorem EH(p:Ej->Bool)(t:Nat):∀(l:List Ej) (a:Act),t<a.tmps.size->(lay p l a).tmps[t]?=tv p t l a.tmps[t]?
 |[],_,_=>rfl
 |e::l,a,ht=>by
  simp only [lay,tv];rw [EH p t l _ (by split<;>simpa [EJ]using ht)];congr 1;by_cases m:p e=true;· simp only [m,J1,cF];rw [Im _ _ _ _ ht]
  · simp [m]
theorem F5(p q:Ej->Bool)(t:Nat):∀(l:List Ej) (d:Option A2),(∀e∈l,e.o.dst=some t->p e=q e)->tv p t l d=tv q t l d
 |[],_,_=>rfl
 |e::l,d,h=>by
  simp only [tv];have h0:(if p e=true/\e.o.dst=some t then some e.v else d)=(if q e=true/\e.o.dst=some t then some e.v else d):=by
   by_cases m:e.o.dst=some t
   · rw [h e (Fo ..) m]
   · simp [m]
  rw [h0];exact F5 p q t l _ fun e' B=>h e' (G3 _ B)
theorem WT(p:Ej->Bool)(t:Nat):∀(l:List Ej) (d:Option A2),(∀e∈l,e.o.dst=some t->p e=false)->tv p t l d=d
 |[],_,_=>rfl
 |e::l,d,h=>by
  simp only [tv];rw [As (fun m=>by rw [h e (Fo ..) m.2]at m;cases m.1)];exact WT p t l d fun e' B=>h e' (G3 _ B)
theorem PR(p:Ej->Bool)(t:Nat):∀(l m:List Ej) (d:Option A2),tv p t (l++m) d=tv p t m (tv p t l d)
 |[],_,_=>rfl
 |e::l,m,d=>by simp only [S6,tv];exact PR p t l m _
theorem NZ(p:Ej->Bool):∀(l m:List Ej) (a:Act),lay p (l++m) a=lay p m (lay p l a)
 |[],_,_=>rfl
 |e::l,m,a=>by simp only [S6,lay];exact NZ p l m _
def yb(A:List Nat)(o:Oper):Nat:=o.after.toList.foldl (fun m e=>if Region.binds .any e then m|||(1<<<e.on)|||A.getD e.on 0 else m) 0
def Sz(ops:Array Oper)(A:List Nat)(N:Nat):Bool:=
 decide (A.length=ops.size)&&
 (List.range ops.size).all fun j=>match ops[j]?with
   |none=>false
   |some oj=>
    (yb A oj==A.getD j 0)&&
    (oj.after.toList.all fun e=>!Region.binds .any e||decide (e.on<j))&&
    ((List.range j).all fun i=>match ops[i]?with
      |none=>false
      |some oi=>oi.apart ops oj||(A.getD j 0).testBit i)&&
    E5 oj.op&&(match oj.op with| .select ..=>false|_=>true)&&fits N oj.dst
structure Ic(ops:Array Oper)(A:List Nat)(N:Nat):Prop where
 len:A.length=ops.size
 edge:∀j oj e,ops[j]?=some oj->e∈oj.after->Region.binds .any e=true->e.on<j
 anc:∀j oj i,ops[j]?=some oj->(A.getD j 0).testBit i=true->∃e∈oj.after,Region.binds .any e=true/\(e.on=i\/(A.getD e.on 0).testBit i=true)
 apart:∀i j oi oj,ops[i]?=some oi->ops[j]?=some oj->i<j->oi.apart ops oj=true\/(A.getD j 0).testBit i=true
 nod:∀(j:Nat) (oj:Oper),ops[j]?=some oj->E5 oj.op=true
 sel:∀(j:Nat) (oj:Oper) (cs:Array SelectCase) (b:Bool),ops[j]?=some oj->oj.op≠ .select cs b
 room:∀(j:Nat) (oj:Oper) (d:Nat),ops[j]?=some oj->oj.dst=some d->d<N
theorem Vy{A:List Nat}{i:Nat}:∀(l:List Edge) (m:Nat),(l.foldl (fun m e=>if Region.binds .any e then m|||(1<<<e.on)|||A.getD e.on 0 else m) m).testBit i=true->m.testBit i=true\/∃e∈l,Region.binds .any e=true/\(e.on=i\/(A.getD e.on 0).testBit i=true)
 |[],m,h=> .inl h
 |e::l,m,h=>by
  simp only [W8]at h;rcases Vy l _ h with h1|⟨e',he,h2⟩
  · by_cases B:Region.binds .any e=true
    · rw [B0 B,rL,rL]at h1
      simp only [TO]at h1;rcases h1 with(h1|h1)|h1
      · exact .inl h1
      · refine .inr ⟨e,Fo ..,B,.inl ?_⟩
        rw [Nat.one_shiftLeft,Nat.testBit_two_pow]at h1;simpa using h1
      · exact .inr ⟨e,Fo ..,B,.inr h1⟩
    · rw [As B]at h1;exact .inl h1
  · exact .inr ⟨e',G3 _ he,h2⟩
theorem fB{ops:Array Oper}{A:List Nat}{N:Nat}(h:Sz ops A N=true):Ic ops A N:=by
 simp only [Sz,Gk,H4,Pc,My]at h;obtain ⟨h0,h⟩:=h;have B:∀{j:Nat} {o:Oper},ops[j]?=some o->j<ops.size:=fun m=>(Hj.1 m).1
 refine ⟨h0,fun j oj e m I G=>?_,fun j oj i m G=>?_,fun i j U oj hi m J=>?_,fun j oj m=>?_,fun j oj cs b m O=>?_,fun j oj d m K=>?_⟩
 · have:=h j (B m)
   simp only [m,Gk,Pc]at this;have:=this.1.1.1.1.2 e (by simpa using I)
   simpa [G]using this
 · have:=h j (B m)
   simp only [m,Gk]at this;have:=this.1.1.1.1.1
   simp only [beq_iff_eq]at this;rw [<-this]at G;rcases Vy _ _ G with h1|⟨e,I,h1⟩
   · simp at h1
   · exact ⟨e,by simpa using I,h1⟩
 · have:=h j (B m)
   simp only [m,Gk,Pc,My]at this;have:=this.1.1.1.2 i J
   simp only [hi,TO]at this;exact this
 · have:=h j (B m)
   simp only [m,Gk]at this;exact this.1.1.2
 · have:=h j (B m)
   simp only [m,Gk]at this;rw [O]at this;simp at this
 · have:=h j (B m)
   simp only [m,Gk]at this;exact R9 this.2 d K
def iE(ops:Array Oper)(L:Array Bool):Prop:=∀j oj,ops[j]?=some oj->L.getD j false=true->∀e∈oj.after,Region.binds .any e=true->L.getD e.on false=true
theorem Fv{ops:Array Oper}{A:List Nat}{N:Nat}(F:Ic ops A N){L:Array Bool}(Z:iE ops L):∀(j i:Nat) (oj:Oper),ops[j]?=some oj->(A.getD j 0).testBit i=true->
 (∀e∈oj.after,Region.binds .any e=true->L.getD e.on false=true)->L.getD i false=true:=by
 intro j;induction j using Nat.strongRecOn with
 |ind j ih=>
  intro i oj U hb X;obtain ⟨e,K,m,B⟩:=F.anc j oj i U hb;rcases B with rfl|B
  · exact X e K m
  · have W:=F.edge j oj e U K m
    obtain ⟨I,G⟩:∃I,ops[e.on]?=some I:=⟨_,I3 (by have:=(Hj.1 U).1;omega)⟩;exact ih e.on W i I G B (fun e' O J=>Z e.on I G (X e K m) e' O J)
theorem Kg{ops:Array Oper}{o:Oper}{a b:Act}(h:∀t∈o.looksAt ops,a.tmps[t]?=b.tmps[t]?):∀x∈o.op.operands,a.eval x=b.eval x:=by
 intro x hx;cases x with
 |tmp t=>
  have m:t∈o.looksAt ops:=Fc _ (cN.2 ⟨.tmp t,by simpa using hx,rfl⟩);have:=h t m
  simp only [Act.eval,NX,this]
 |_=>rfl
def bit(m i:Nat):Bool:=Nat.testBit m i
def F4(m n:Nat):Bool:=Nat.beq (Nat.land m n) m
theorem RL{m n i:Nat}(h:F4 m n=true)(B:m.testBit i=true):n.testBit i=true:=by
 have G:m&&&n=m:=pT h;rw [<-G,nv]at B;simp only [Gk]at B;exact B.2
def tD(P:Program)(ops:Array Oper)(o:Oper)(env:Env)(C:List A8)(v:A2):Prop:=((∀a,wantedE ops a env o.guard=true)/\OpP P o env C v)\/((∀a,wantedE ops a env o.guard=false)/\v=undef/\C=[])
theorem Gp{ops:Array Oper}{o:Oper}{a b:Act}(h:∀t∈o.looksAt ops,a.tmps[t]?=b.tmps[t]?):Region.wanted o (yielded ops a.tmps)=Region.wanted o (yielded ops b.tmps):=by
 unfold Region.wanted;cases hg:o.guard with
 |none=>rfl
 |some gw=>
  obtain ⟨g,m⟩:=gw;simp only [yielded];cases ht:(ops[g]?).bind (·.dst)with
  |none=>rfl
  |some t=>
   have:=h t (by unfold Oper.looksAt;rw [hg];simp only [CI];right;rw [ht];simp);simp only [Lk,this]
section
variable(P:Program)(ops:Array Oper)(A:List Nat)(F:Nat)(cx:Cx)(Q:Exit->Act->A4->Prop)
def Ka(D:Nat):List Nat:=(List.range ops.size).filter fun f=>bit F f&&!bit D f&&F4 (A.getD f 0) D
def mZ(D:Nat):Bool:=(List.range ops.size).all fun i=>bit F i||bit D i||!F4 (Nat.land (A.getD i 0) F) D
def Lin:Nat->Nat->List (Nat×A8)->Env->Hp->Prop
 |0,_,_,env,H=>Nx cx (Q .normal) env H
 |n+1,D,T,env,H=>
  (∃i o v C,ops[i]?=some o/\bit D i=false/\F4 (A.getD i 0) D=true/\(∀c∈C,c∈H.flatten)/\tD P ops o env C v/\Lin n (D|||(1<<<i)) (C.map (fun c=>(i,c))++T) (putE o.dst v env) H)\/
  (mZ ops A F D=true/\∀f∈Ka ops A F D,∃o T',ops[f]?=some o/\(∀a,wantedE ops a env o.guard=true)/\(∀p∈T,bit (A.getD f 0) p.1=true\/p∈T')/\
    OpW P cx.u o env H (fun v H'=>(∀p∈T',p.2∈H'.flatten)/\Lin n (D|||(1<<<f)) T' (putE o.dst v env) H') (fun ch H'=>∀env,Nx cx (Q (.panic ch)) env H'))
end
section
variable{P:Program}{ops:Array Oper}{A:List Nat}{F:Nat}{N:Nat}{cx:Cx}{Q:Exit->Act->A4->Prop}{a0:Act}{env0:Env}
def Fb(env0:Env):List Ej->Env
 |[]=>env0
 |e::x=>Fb (putE e.o.dst e.v env0) x
theorem Ki:∀(x y:List Ej) (env0:Env),Fb env0 (x++y)=Fb (Fb env0 x) y
 |[],_,_=>rfl
 |e::x,y,env0=>by simp only [S6,Fb];exact Ki x y _
theorem Hq(a0:Act):∀(x:List Ej) (env0:Env),C9 (Fb env0 x) a0=lay (fun _=>true) x (C9 env0 a0)
 |[],_=>rfl
 |e::x,env0=>by simp only [Fb,lay,J1];rw [Hq a0 x,Ph]
structure Jg(P:Program)(ops:Array Oper)(A:List Nat)(F:Nat)(cx:Cx)(Q:Exit->Act->A4->Prop)(a0:Act)(env0:Env)(L:Array Bool)(a:Act)(w:A4)(x:List Ej)(D:Nat)(T:List (Nat×A8))(H:Hp):Prop where
 size:L.size=ops.size
 shut:iE ops L
 act:a=lay (fun e=>L.getD e.i false) x (C9 env0 a0)
 sat:Sat cx.u H w
 mask:∀i,bit D i=true↔∃e∈x,e.i=i
 nodup:(x.map (·.i)).Nodup
 isop:∀e∈x,ops[e.i]?=some e.o
 listed:∀i,L.getD i false=true->bit D i=true
 effs:∀e∈x,e.k=true->L.getD e.i false=true
 order:∀x1 e x2,x=x1++e::x2->∀i,(A.getD e.i 0).testBit i=true->∃e'∈x1,e'.i=i
 pend:∀x1 e x2,x=x1++e::x2->e.k=false->tD P ops e.o (Fb env0 x1) e.C e.v
 reads:∀e∈x,L.getD e.i false=false->∀c∈e.C,(e.i,c)∈T/\c∈H.flatten
 fit:Fit cx.N (Fb env0 x)
 walk:Lin P ops A F cx Q (ops.size -x.length) D T (Fb env0 x) H
theorem Tq(D i j:Nat):bit (D|||(1<<<i)) j=true↔bit D j=true\/i=j:=by
 unfold bit;rw [rL,TO,Nat.one_shiftLeft,Nat.testBit_two_pow];simp
theorem iI(X:Ic ops A N){L:Array Bool}{a:Act}{w:A4}{x:List Ej}{D:Nat}{T:List (Nat×A8)}{H:Hp}(h:Jg P ops A F cx Q a0 env0 L a w x D T H)
 {U W:List Ej}{e:Ej}(hx:x=U++e::W)(bn:L.getD e.i false=false)(K:∀g∈e.o.after,Region.binds .any g=true->L.getD g.on false=true)
 {t:Nat}(B:t∈e.o.looksAt ops\/e.o.dst=some t):(∀k∈U,k.o.dst=some t->L.getD k.i false=true)/\(∀k∈W,k.o.dst=some t->L.getD k.i false=false):=by
 have he:ops[e.i]?=some e.o:=h.isop e (by rw [hx];simp);have J:∀k,k∈U\/k∈W->k.i≠e.i:=fun k hk hh=>by
  have hn:=h.nodup;rw [hx,CN,F2,HN]at hn;obtain ⟨h1,h2,Z⟩:=hn;rcases hk with hk|hk
  · exact Z k.i (Ek hk) e.i (Fo ..) hh
  · rw [JT]at h2
    exact h2.1 (hh▸Ek hk)
 have ord:∀k:Ej,ops[k.i]?=some k.o->k.i≠e.i->k.o.dst=some t->(A.getD e.i 0).testBit k.i=true\/(A.getD k.i 0).testBit e.i=true:=by
  intro k hk ax G;rcases Nat.lt_or_gt_of_ne ax with hlt|hlt
  · rcases X.apart k.i e.i k.o e.o hk he hlt with hap|hb
    · exfalso
      obtain ⟨h1,h2,Z⟩:=Oper.apart_spec hap;rcases B with B|B
      · exact h1 t G B
      · exact h2 t G B
    · exact .inl hb
  · rcases X.apart e.i k.i e.o k.o he hk hlt with hap|hb
    · exfalso
      obtain ⟨h1,h2,Z⟩:=Oper.apart_spec hap;rcases B with B|B
      · exact Z t G B
      · exact h2 t B G
    · exact .inr hb
 refine ⟨fun k hk G=>?_,fun k hk G=>?_⟩
 · have m:=h.isop k (by rw [hx];simp [hk])
   rcases ord k m (J k (.inl hk)) G with hb|hb
   · exact Fv X h.shut e.i k.i e.o he hb K
   · exfalso
     obtain ⟨y1,y2,hy⟩:=cP hk;obtain ⟨e',I,hi⟩:=h.order y1 k (y2++e::W) (by rw [hx,hy];simp) e.i hb;have O:e'∈U:=by rw [hy];simp [I]
     exact J e' (.inl O) hi
 · have m:=h.isop k (by rw [hx];simp [hk])
   rcases ord k m (J k (.inr hk)) G with hb|hb
   · exfalso
     obtain ⟨e',I,hi⟩:=h.order U e W hx k.i hb;have hn:=h.nodup
     rw [hx,CN,F2,HN]at hn;exact hn.2.2 e'.i (Ek I) k.i (G3 _ (Ek hk)) hi
   · cases hl:L.getD k.i false with
     |false=>rfl
     |true=>
      have:=Fv X h.shut k.i e.i k.o m hb (fun g hg af=>h.shut k.i k.o m hl g hg af);rw [bn]at this;cases this
theorem ed(U:Ic ops A N){L:Array Bool}{a:Act}{w:A4}{x:List Ej}{D:Nat}{T:List (Nat×A8)}{H:Hp}(h:Jg P ops A F cx Q a0 env0 L a w x D T H)
 {J O:List Ej}{e:Ej}(hx:x=J++e::O)(G:L.getD e.i false=false)(B:∀g∈e.o.after,Region.binds .any g=true->L.getD g.on false=true):
 ∀t∈e.o.looksAt ops,a.tmps[t]?=(C9 (Fb env0 J) a0).tmps[t]?:=by
 intro t X;have K:=iI U h hx G B (.inl X)
 have W:a.tmps.size=(C9 env0 a0).tmps.size:=by rw [h.act,Cy]
 by_cases m:t<(C9 env0 a0).tmps.size
 · rw [h.act,Hq,EH _ _ _ _ m,EH _ _ _ _ m,hx,PR]
   rw [WT _ t (e::O) _ (fun k hk I=>by
    rcases Dg.1 hk with rfl|hk
    · exact G
    · exact K.2 k hk I)]
   exact F5 _ _ t J _ fun k hk I=>by rw [K.1 k hk I]
 · rw [LR (by rw [W];exact gE m),LR (by rw [Hq,Cy];exact gE m)]
theorem Ei(L:Array Bool)(j i:Nat)(m:j<L.size):(L.setIfInBounds j true).getD i false=if i=j then true else L.getD i false:=by
 by_cases e:i=j
 · subst e;simp [m]
 · rw [getD_set_ne false (en e),As e]
theorem xW(Z:Ic ops A N){L:Array Bool}{a:Act}{w:A4}{x:List Ej}{D:Nat}{T:List (Nat×A8)}{H:Hp}(h:Jg P ops A F cx Q a0 env0 L a w x D T H)
 {x1 x2:List Ej}{e:Ej}(hx:x=x1++e::x2)(W:L.getD e.i false=false)(I:∀g∈e.o.after,Region.binds .any g=true->L.getD g.on false=true):
 a.put e.o.dst e.v=lay (fun k=>(L.setIfInBounds e.i true).getD k.i false) x (C9 env0 a0):=by
 have X:ops[e.i]?=some e.o:=h.isop e (by rw [hx];simp);have U:e.i<L.size:=by rw [h.size];exact (Hj.1 X).1
 refine Iw (by rw [EJ,Cy,h.act,Cy]) (by rw [JU,FH,h.act,FH]) fun t K=>?_;rw [EJ]at K;have J:t<(C9 env0 a0).tmps.size:=by rw [h.act,Cy]at K;exact K
 rw [Im _ _ _ _ K,EH _ _ _ _ J];by_cases G:e.o.dst=some t
 · rw [B0 G]
   have hw:=iI Z h hx W I (.inr G);rw [hx,PR];simp only [tv];rw [B0 ⟨by rw [Ei _ _ _ U,B0 rfl],G⟩];rw [WT];intro k hk B;have m:k.i≠e.i:=fun O=>by
    have hn:=h.nodup;rw [hx,CN,F2,HN,JT]at hn;exact hn.2.1.1 (O▸Ek hk)
   rw [Ei _ _ _ U,As m];exact hw.2 k hk B
 · rw [As G,h.act,EH _ _ _ _ J]
   refine F5 _ _ t x _ fun k hk B=>?_;rw [Ei _ _ _ U];by_cases m:k.i=e.i
   · exfalso
     have:=h.isop k hk;rw [m,X]at this;obtain O:=T7 this;rw [O]at G;exact G B
   · rw [As m]
theorem Y4{L:Array Bool}(O:iE ops L){j:Nat}(K:j<L.size){oj:Oper}(G:ops[j]?=some oj)(m:∀g∈oj.after,Region.binds .any g=true->L.getD g.on false=true):iE ops (L.setIfInBounds j true):=by
 intro k ok hk B g J I;rw [Ei _ _ _ K]at B⊢;by_cases e1:k=j
 · subst e1
   rw [G]at hk;obtain rfl:=T7 hk;rw [m g J I];simp
 · rw [As e1]at B
   rw [O k ok hk B g J I];simp
theorem tF(FT:Ic ops A cx.N){L:Array Bool}{a:Act}{w:A4}{j:Nat}{oj:Oper}(af:ops[j]?=some oj)(l5:L.getD j false=false)(bn:∀g∈oj.after,Region.binds .any g=true->L.getD g.on false=true):
 ∀(n:Nat) (x:List Ej) (D:Nat) (T:List (Nat×A8)) (H:Hp),ops.size -x.length=n->Jg P ops A F cx Q a0 env0 L a w x D T H->
  (∃x' D' T',Jg P ops A F cx Q a0 env0 L a w x' D' T' H/\bit D' j=true)\/
  (∃x' D' T',Jg P ops A F cx Q a0 env0 L a w x' D' T' H/\j∈Ka ops A F D'/\mZ ops A F D'=true/\∃m,ops.size -x'.length=m+1/\∃o Z,ops[j]?=some o/\(∀a,wantedE ops a (Fb env0 x') o.guard=true)/\(∀p∈T',bit (A.getD j 0) p.1=true\/p∈Z)/\
    OpW P cx.u o (Fb env0 x') H (fun v H'=>(∀p∈Z,p.2∈H'.flatten)/\Lin P ops A F cx Q m (D'|||(1<<<j)) Z (putE o.dst v (Fb env0 x')) H') (fun ch H'=>∀env,Nx cx (Q (.panic ch)) env H')):=by
 intro n;induction n with
 |zero=>
  intro x D T H hn h;left;refine ⟨x,D,T,h,?_⟩;have J:j<ops.size:=(Hj.1 af).1
  have X:ops.size<=(x.map (·.i)).length:=by rw [Bm];omega
  have ek:∀i∈x.map (·.i),i<ops.size:=fun i hi=>by
   obtain ⟨e,B,rfl⟩:=CM.1 hi;exact (Hj.1 (h.isop e B)).1
  have:j∈x.map (·.i):=by
   apply cJ;intro gy;have gq:=tG (l₁:=j::x.map (·.i)) (l₂:=List.range ops.size) (JT.2 ⟨gy,h.nodup⟩) (fun i hi=>by
    rcases Dg.1 hi with rfl|hi
    · exact My.2 J
    · exact My.2 (ek i hi))
   simp only [EV,Bm,dq]at gq;omega
  obtain ⟨e,B,hi⟩:=CM.1 this;exact (h.mask j).2 ⟨e,B,hi⟩
 |succ n ih=>
  intro x D T H hn h;by_cases hD:bit D j=true;· exact .inl ⟨x,D,T,h,hD⟩
  · have hw:=h.walk
    rw [hn]at hw;simp only [Lin]at hw;rcases hw with⟨i,o,v,C,ho,cO,j5,hC,ic,hk⟩|⟨hfull,hk⟩
    ·
     have d9:∀e∈x,e.i≠i:=fun e B hh=>by
      have:=(h.mask i).2 ⟨e,B,hh⟩;rw [cO]at this;cases this
     have gm:L.getD i false=false:=by
      cases hl:L.getD i false with
      |false=>rfl
      |true=>have:=h.listed i hl;rw [cO]at this;cases this
     have cu:lay (fun e=>L.getD e.i false) (x++[⟨i,o,v,C,false⟩]) (C9 env0 a0)=a:=by
      rw [NZ,<-h.act];simp only [lay,gm];rfl
     have I:∀(s1:List Ej) (e:Ej) (s2:List Ej),x++[⟨i,o,v,C,false⟩]=s1++e::s2->(∃K,s2=K++[⟨i,o,v,C,false⟩]/\x=s1++e::K)\/(s2=[]/\e=⟨i,o,v,C,false⟩/\s1=x):=by
      intro s1 e s2 hs;rcases ka s2 with rfl|⟨K,z,rfl⟩
      · right
        have:=ki hs rfl;exact ⟨V,(by simpa using this.2.symm),this.1.symm⟩
      · left
        have j3:x++[⟨i,o,v,C,false⟩]=(s1++e::K)++[z]:=by rw [hs];simp
        have:=ki j3 rfl;have hz:z=⟨i,o,v,C,false⟩:=by simpa using this.2.symm
        exact ⟨K,by rw [hz];simp,this.1⟩
     have W:Fb env0 (x++[⟨i,o,v,C,false⟩])=putE o.dst v (Fb env0 x):=by rw [Ki];rfl
     refine ih (x++[⟨i,o,v,C,false⟩]) (D|||(1<<<i)) (C.map (fun c=>(i,c))++T) H LO ⟨h.size,h.shut,cu.symm,h.sat,fun k=>?_,?_,fun e B=>?_,fun k hk=>?_,fun k hk hf=>?_,fun s1 e s2 hs k U=>?_,fun s1 e s2 hs hf=>?_,fun e B hl c hc=>?_,?_,?_⟩
     · rw [Tq,h.mask k]
       constructor
       · rintro (⟨e,B,hi⟩|rfl)
         · exact ⟨e,by simp [B],hi⟩
         · exact ⟨⟨i,o,v,C,false⟩,by simp,rfl⟩
       · rintro ⟨e,B,hi⟩
         rcases CI.1 B with B|B
         · exact .inl ⟨e,B,hi⟩
         · simp only [CH]at B;subst B;exact .inr hi
     · rw [CN,HN]
       refine ⟨h.nodup,by simp,fun p hp q hq=>?_⟩;simp only [F2,MY,CH]at hq;subst hq;obtain ⟨e,B,rfl⟩:=CM.1 hp;exact d9 e B
     · rcases CI.1 B with B|B
       · exact h.isop e B
       · simp only [CH]at B;subst B;exact ho
     · exact (Tq _ _ _).2 (.inl (h.listed k hk))
     · rcases CI.1 hk with hk|hk
       · exact h.effs k hk hf
       · rw [CH.1 hk]at hf;cases hf
     · rcases I s1 e s2 hs with⟨K,_,ax⟩|⟨_,rfl,rfl⟩
       · exact h.order s1 e K ax k U
       · exact (h.mask k).1 (RL j5 U)
     · rcases I s1 e s2 hs with⟨K,_,ax⟩|⟨_,rfl,rfl⟩
       · exact h.pend s1 e K ax hf
       · exact ic
     · rcases CI.1 B with B|B
       · have:=h.reads e B hl c hc
         exact ⟨HC _ this.1,this.2⟩
       · simp only [CH]at B;subst B
         exact ⟨Fc _ (CM.2 ⟨c,hc,V⟩),hC c hc⟩
     · rw [W];exact h.fit.putE (fun t ht=>FT.room i o t ho ht) v
     · have X:ops.size -(x++[(⟨i,o,v,C,false⟩:Ej)]).length=n:=by simp;omega
       rw [W,X];exact hk
    ·
     right;have J:j<ops.size:=(Hj.1 af).1
     have O:∀i,(A.getD j 0).testBit i=true->bit D i=true:=fun i U=>h.listed i (Fv FT h.shut j i oj af U bn);have kv:F4 (A.getD j 0) D=true:=by
      unfold F4;have:Nat.land (A.getD j 0) D=A.getD j 0:=by
       apply Nat.eq_of_testBit_eq;intro i;show(A.getD j 0&&&D).testBit i=_
       rw [nv];cases U:(A.getD j 0).testBit i with
       |false=>rfl
       |true=>rw [show D.testBit i=true from O i U];rfl
      rw [this];exact Nat.beq_refl _
     have hF:bit F j=true:=by
      have:=Pc.1 hfull j (My.2 J);simp only [TO,V2]at this;rcases this with(h1|h1)|h1
      · exact h1
      · exact absurd h1 hD
      · exfalso
        have:F4 (Nat.land (A.getD j 0) F) D=true:=by
         unfold F4;have:Nat.land (Nat.land (A.getD j 0) F) D=Nat.land (A.getD j 0) F:=by
          apply Nat.eq_of_testBit_eq;intro i;show((A.getD j 0&&&F)&&&D).testBit i=(A.getD j 0&&&F).testBit i
          rw [nv (A.getD j 0&&&F),nv];cases U:(A.getD j 0).testBit i with
          |false=>rfl
          |true=>rw [show D.testBit i=true from O i U];simp
         rw [this];exact Nat.beq_refl _
        rw [this]at h1;cases h1
     have G:j∈Ka ops A F D:=GP.2 ⟨My.2 J,by rw [hF,kv];simp only [r4]at hD;rw [hD];rfl⟩;exact ⟨x,D,T,h,G,hfull,n,hn,hk j G⟩
theorem Ue{r:Option Nat}{i:Nat}{o:Oper}{a:Act}{w:A4}{K:Act->A4->Prop}(hi:ops[i]?=some o)(m:Region.wanted o (yielded ops a.tmps)=true)(h:o.wpIn (Fx r) 0 P a w K Q):wpOpIn (Fx r) 0 P ops Q i K a w:=by
 unfold wpOpIn;simp only [hi];rw [B0 m];exact h
theorem ja{r:Option Nat}{i:Nat}{o:Oper}{a:Act}{w:A4}{K:Act->A4->Prop}(hi:ops[i]?=some o)(m:Region.wanted o (yielded ops a.tmps)=false)(h:K (a.put o.dst undef) w):wpOpIn (Fx r) 0 P ops Q i K a w:=by
 unfold wpOpIn;simp only [hi];rw [As (by rw [m];simp)];exact ⟨fun _ _=>trivial,h⟩
theorem XD(hN:a0.tmps.size=cx.N)(hD:a0.defers=cx.D)(pg:Fit cx.N env0)(FT:Ic ops A cx.N):∀(U:Nat) (L:Array Bool) (a:Act) (w:A4) (x:List Ej) (D:Nat) (T:List (Nat×A8)) (H:Hp),
 ((List.range ops.size).countP fun i=>!L.getD i false)<=U->Jg P ops A F cx Q a0 env0 L a w x D T H->wpAnyIn (Fx cx.r) 0 P .any ops Q U L a w:=by
 have j3:∀(L:Array Bool),L.size=ops.size->Region.ready .any ops L=[]->∀j,j<ops.size->L.getD j false=true:=by
  intro L ql hr j;induction j using Nat.strongRecOn with
  |ind j ih=>
   intro hj;cases Z:L.getD j false with
   |true=>rfl
   |false=>
    obtain ⟨oj,B⟩:∃oj,ops[j]?=some oj:=⟨_,I3 hj⟩;have:j∈Region.ready .any ops L:=mem_ready.2 ⟨by
     rw [NX,I3 (by rw [ql];exact hj)]at Z⊢;simpa using Z,oj,B,fun e I X=>by
      have:=FT.edge j oj e B I X;exact ih e.on this A0⟩
    rw [hr]at this;cases this
 have ic:∀(L:Array Bool) (a:Act) (w:A4) (x:List Ej) (D:Nat) (T:List (Nat×A8)) (H:Hp),Jg P ops A F cx Q a0 env0 L a w x D T H->Region.ready .any ops L=[]->Q .normal a w:=by
  intro L a w x D T H h hr;have J:=j3 L h.size hr
  have qx:ops.size<=x.length:=by
   have q9:=tG (l₁:=List.range ops.size) (l₂:=x.map (·.i)) kj (fun i hi=>by
    obtain ⟨e,I,pz⟩:=(h.mask i).1 (h.listed i (J i (My.1 hi)));exact CM.2 ⟨e,I,pz⟩)
   simpa using q9
  have hw:=h.walk;rw [show ops.size -x.length=0 by omega]at hw;simp only [Lin]at hw;have ha:a=C9 (Fb env0 x) a0:=by
   rw [h.act,Hq];refine Iw (by rw [Cy,Cy]) (by rw [FH,FH]) fun t ht=>?_;rw [Cy]at ht;rw [EH _ _ _ _ ht,EH _ _ _ _ ht];exact F5 _ _ t x _ fun e I _=>J e.i (Hj.1 (h.isop e I)).1
  rw [ha];exact hw a0 w ⟨hN,hD,h.fit,h.sat⟩
 intro U;induction U with
 |zero=>
  intro L a w x D T H hc h;have hr:Region.ready .any ops L=[]:=by
   cases hr:Region.ready .any ops L with
   |nil=>rfl
   |cons j js=>
    have hj:j∈Region.ready .any ops L:=by rw [hr];exact Fo ..
    obtain ⟨ax,oj,B,_⟩:=mem_ready.1 hj;have cu:j<ops.size:=(Hj.1 B).1
    have W:L.getD j false=false:=by
     rw [NX]at ax⊢;rw [I3 (by rw [h.size];exact cu)]at ax⊢;simpa using ax
    have:0<(List.range ops.size).countP fun i=>!L.getD i false:=List.countP_pos_iff.2 ⟨j,My.2 cu,by rw [W];rfl⟩;omega
  exact ⟨hr,ic L a w x D T H h hr⟩
 |succ U ih=>
  intro L a w x D T H hc h;refine ⟨fun hr=>ic L a w x D T H h hr,fun j hj=>?_⟩;obtain ⟨ax,oj,B,J⟩:=mem_ready.1 hj;have cu:j<ops.size:=(Hj.1 B).1
  have K:j<L.size:=by rw [h.size];exact cu
  have W:L.getD j false=false:=by
   rw [NX]at ax⊢;rw [I3 K]at ax⊢;simpa using ax
  have gq:((List.range ops.size).countP fun i=>!(L.setIfInBounds j true).getD i false)<=U:=by
   have cO:((List.range ops.size).countP fun i=>!(L.setIfInBounds j true).getD i false)<(List.range ops.size).countP fun i=>!L.getD i false:=by
    obtain ⟨r1,r2,hr⟩:=cP (My.2 cu);rw [hr,nf,nf,List.countP_cons,List.countP_cons];have d9:∀l:List Nat,(l.countP fun i=>!(L.setIfInBounds j true).getD i false)<=l.countP fun i=>!L.getD i false:=fun l=>List.countP_mono_left fun i _ hi=>by
     rw [Ei _ _ _ K]at hi;split at hi;· simp at hi
     · exact hi
    have h1:=d9 r1;have h2:=d9 r2
    have e1:(!(L.setIfInBounds j true).getD j false)=false:=by rw [Ei _ _ _ K];simp
    have e2:(!L.getD j false)=true:=by rw [W];rfl
    rw [e1,e2];simp only [Of,Hi,J1];omega
   omega
  rcases tF FT B W J _ x D T H rfl h with⟨x',D',T',G,l5⟩|⟨x',D',T',G,hnext,hfull,m,hm,o,T'',ho,hwt,hT,hW⟩
  ·
   obtain ⟨e,I,p8⟩:=(G.mask j).1 l5;obtain ⟨x1,x2,hx⟩:=cP I;subst p8;have p9:e.o=oj:=by have:=G.isop e I;rw [B]at this;exact (T7 this).symm
   subst p9;have qa:e.k=false:=by
    cases X:e.k with
    |false=>rfl
    |true=>have:=G.effs e (by rw [hx];simp) X;rw [W]at this;cases this
   have hP:=G.pend x1 e x2 hx qa;have O:=ed FT G hx W J
   have af:Fit a0.tmps.size (Fb env0 x1):=by
    have:∀(l:List Ej) (E:Env),(∀k∈l,ops[k.i]?=some k.o)->Fit cx.N E->Fit cx.N (Fb E l):=by
     intro l;induction l with
     |nil=>intro E _ h;exact h
     |cons k l ihl=>intro E hk h;exact ihl _ (fun q hq=>hk q (G3 _ hq)) (h.putE (fun t ht=>FT.room k.i k.o t (hk k (Fo ..)) ht) _)
    rw [hN];exact this x1 env0 (fun k hk=>G.isop k (by rw [hx];simp [hk])) pg
   have pq:wpAnyIn (Fx cx.r) 0 P .any ops Q U (L.setIfInBounds e.i true) (a.put e.o.dst e.v) w->wpOpIn (Fx cx.r) 0 P ops Q e.i (wpAnyIn (Fx cx.r) 0 P .any ops Q U (L.setIfInBounds e.i true)) a w:=fun hz=>by
    rcases hP with⟨hy,hP⟩|⟨hno,hv,_⟩
    · refine Ue B (by rw [Gp O,Fy ops e.o a0 _ af];exact hy a0) ⟨fun _ _=>trivial,WR ?_⟩
      rw [Rh (Lj (FT.nod e.i e.o B))];rw [execOp_congr e.o (FT.sel e.i e.o · · B) (Kg O),FU a0 _ af];rw [hP a0 w fun c hc=>G.sat.get c (G.reads e I W c hc).2];exact hz
    · refine ja B (by rw [Gp O,Fy ops e.o a0 _ af];exact hno a0) ?_
      rw [<-hv];exact hz
   refine pq ?_;refine ih (L.setIfInBounds e.i true) _ w x' D' T' H gq ⟨by simp [G.size],Y4 G.shut K B J,xW FT G hx W J,G.sat,G.mask,G.nodup,G.isop,fun k hk=>?_,fun k hk hf=>?_,G.order,G.pend,fun k hk Z c hc=>?_,G.fit,G.walk⟩
   · rw [Ei _ _ _ K]at hk
     split at hk
     · rename_i e1;subst e1;exact l5
     · exact G.listed k hk
   · rw [Ei _ _ _ K];split
     · rfl
     · exact G.effs k hk hf
   · rw [Ei _ _ _ K]at Z
     split at Z
     · cases Z
     · exact G.reads k hk Z c hc
  ·
   have qb:o=oj:=by rw [B]at ho;exact (T7 ho).symm
   subst qb;obtain ⟨qw,o8,qo⟩:bit F j=true/\bit D' j=false/\F4 (A.getD j 0) D'=true:=by
    have:=(GP.1 hnext).2;simp only [Gk,V2]at this;exact ⟨this.1.1,this.1.2,this.2⟩
   have bn:∀e∈x',e.i≠j:=fun e I hh=>by
    have:=(G.mask j).2 ⟨e,I,hh⟩;rw [o8]at this;cases this
   have O:∀t∈o.looksAt ops,a.tmps[t]?=(C9 (Fb env0 x') a0).tmps[t]?:=by
    intro t ht;by_cases cO:t<(C9 env0 a0).tmps.size
    · rw [G.act,Hq,EH _ _ _ _ cO,EH _ _ _ _ cO]
      refine F5 _ _ t x' _ fun k hk hd=>?_;have l8:=G.isop k hk
      have:(A.getD j 0).testBit k.i=true\/(A.getD k.i 0).testBit j=true:=by
       rcases Nat.lt_or_gt_of_ne (bn k hk)with Z|Z
       · rcases FT.apart k.i j k.o o l8 B Z with hap|X
         · exact absurd ht ((Oper.apart_spec hap).1 t hd)
         · exact .inl X
       · rcases FT.apart j k.i o k.o B l8 Z with hap|X
         · exact absurd ht ((Oper.apart_spec hap).2.2 t hd)
         · exact .inr X
      rcases this with X|X
      · exact Fv FT G.shut j k.i o B X J
      · exfalso
        obtain ⟨y1,y2,hy⟩:=cP hk;obtain ⟨e',ow,hi⟩:=G.order y1 k y2 hy j X;exact bn e' (by rw [hy];simp [ow]) hi
    · have hs:a.tmps.size=(C9 env0 a0).tmps.size:=by rw [G.act,Cy]
      rw [LR (by rw [hs];exact gE cO),LR (by rw [Hq,Cy];exact gE cO)]
   refine Ue B (by rw [Gp O,Fy ops o a0 _ (by rw [hN];exact G.fit)];exact hwt a0) ⟨fun _ _=>trivial,WR ?_⟩;rw [Rh (Lj (FT.nod j o B))];rw [execOp_congr o (FT.sel j o · · B) (Kg O),FU a0 _ (by rw [hN];exact G.fit)];refine hW a0 w G.sat _ _ (fun v H' w' hv ek=>?_) (fun ch H' w' hv ek=>?_)
   · obtain ⟨o9,hk⟩:=hv
     have gy:Fb env0 (x'++[⟨j,o,v,[],true⟩])=putE o.dst v (Fb env0 x'):=by rw [Ki];rfl
     have gm:∀(s1:List Ej) (e:Ej) (s2:List Ej),x'++[⟨j,o,v,[],true⟩]=s1++e::s2->(∃s3,s2=s3++[⟨j,o,v,[],true⟩]/\x'=s1++e::s3)\/(s2=[]/\e=⟨j,o,v,[],true⟩/\s1=x'):=by
      intro s1 e s2 hs;rcases ka s2 with rfl|⟨s3,z,rfl⟩
      · right
        have:=ki hs rfl;exact ⟨V,(by simpa using this.2.symm),this.1.symm⟩
      · left
        have qj:x'++[⟨j,o,v,[],true⟩]=(s1++e::s3)++[z]:=by rw [hs];simp
        have:=ki qj rfl;have hz:z=⟨j,o,v,[],true⟩:=by simpa using this.2.symm
        exact ⟨s3,by rw [hz];simp,this.1⟩
     refine ih (L.setIfInBounds j true) _ w' (x'++[⟨j,o,v,[],true⟩]) (D'|||(1<<<j)) T'' H' gq ⟨by simp [G.size],Y4 G.shut K B J,?_,ek,fun k=>?_,?_,fun e I=>?_,fun k hk=>?_,fun k hk hf=>?_,fun s1 e s2 hs k X=>?_,fun s1 e s2 hs hf=>?_,fun e I Z c hc=>?_,?_,?_⟩;·
      rw [NZ];have j5:lay (fun e=>(L.setIfInBounds j true).getD e.i false) x' (C9 env0 a0)=a:=by
       rw [G.act];refine Iw (by rw [Cy,Cy]) (by rw [FH,FH]) fun t ht=>?_;rw [Cy]at ht;rw [EH _ _ _ _ ht,EH _ _ _ _ ht];exact F5 _ _ t x' _ fun k hk _=>by rw [Ei _ _ _ K,As (bn k hk)]
      rw [j5];simp only [lay];rw [B0 (by rw [Ei _ _ _ K];simp)]
     · rw [Tq,G.mask k]
       constructor
       · rintro (⟨e,I,hi⟩|rfl)
         · exact ⟨e,by simp [I],hi⟩
         · exact ⟨⟨j,o,v,[],true⟩,by simp,rfl⟩
       · rintro ⟨e,I,hi⟩
         rcases CI.1 I with I|I
         · exact .inl ⟨e,I,hi⟩
         · simp only [CH]at I;subst I;exact .inr hi
     · rw [CN,HN]
       refine ⟨G.nodup,by simp,fun p hp q hq=>?_⟩;simp only [F2,MY,CH]at hq;subst hq;obtain ⟨e,I,rfl⟩:=CM.1 hp;exact bn e I
     · rcases CI.1 I with I|I
       · exact G.isop e I
       · simp only [CH]at I;subst I;exact B
     · rw [Ei _ _ _ K]at hk
       split at hk
       · rename_i e1;exact (Tq _ _ _).2 (.inr e1.symm)
       · exact (Tq _ _ _).2 (.inl (G.listed k hk))
     · rw [Ei _ _ _ K]
       split;· rfl
       · rename_i hne
         rcases CI.1 hk with hk|hk
         · exact G.effs k hk hf
         · rw [CH.1 hk]at hne;exact absurd rfl hne
     · rcases gm s1 e s2 hs with⟨s3,_,kv⟩|⟨_,rfl,rfl⟩
       · exact G.order s1 e s3 kv k X
       · exact (G.mask k).1 (RL qo X)
     · rcases gm s1 e s2 hs with⟨s3,_,kv⟩|⟨_,rfl,rfl⟩
       · exact G.pend s1 e s3 kv hf
       · cases hf
     · rw [Ei _ _ _ K]at Z
       split at Z
       · cases Z
       · rename_i hne
         rcases CI.1 I with I|I
         · have hr:=G.reads e I Z c hc
           rcases hT (e.i,c) hr.1 with X|X
           · exfalso
             have:=Fv FT G.shut j e.i o B X J;rw [Z]at this;cases this
           · exact ⟨X,o9 _ X⟩
         · simp only [CH]at I;subst I;cases hc
     · rw [gy];exact G.fit.putE (fun t ht=>FT.room j o t B ht) v
     · have l9:ops.size -(x'++[(⟨j,o,v,[],true⟩:Ej)]).length=m:=by simp;omega
       rw [gy,l9];exact hk
   · have hp:=hv (Fb env0 x')
     have ha:∃a1,a=C9 (Fb env0 x') a1/\a1.tmps.size=cx.N/\a1.defers=cx.D\/True:=⟨a,.inr trivial⟩;clear ha;have:=hv [] a w' ⟨by rw [G.act,Cy,J2];exact hN,by rw [G.act,FH,Fh];exact hD,(by intro q hq;cases hq),ek⟩
     exact this
section
variable{n D:Nat}{T:List (Nat×A8)}{env:Env}{H:Hp}
theorem Ao(h:Nx cx (Q .normal) env H):Lin P ops A F cx Q 0 D T env H:=h
theorem zL{d:Nat}{G:Op}{ty:AK}{pos:String}{af:Array Edge}{v:A2}{D':Nat}(i:Nat)(J:ops[i]?=some ⟨some d,G,ty,pos,af,none⟩)(m:(!bit F i&&!bit D i&&F4 (A.getD i 0) D)=true)(I:D|||(1<<<i)=D')(B:OpP P ⟨some d,G,ty,pos,af,none⟩ env [] v)
 (k:Lin P ops A F cx Q n D' T ((d,v)::env) H):Lin P ops A F cx Q (n+1) D T env H:=by
 simp only [Gk,V2]at m;subst I;exact .inl ⟨i,_,v,[],J,m.1.2,m.2,by simp,.inl ⟨fun _=>rfl,B⟩,k⟩
theorem FB{d:Nat}{B:Op}{ty:AK}{pos:String}{af:Array Edge}{v:A2}{D':Nat}(i:Nat)(m:OpP P ⟨some d,B,ty,pos,af,none⟩ env [] v)
 (k:Lin P ops A F cx Q n D' T ((d,v)::env) H)(J:ops[i]?=some ⟨some d,B,ty,pos,af,none⟩:=by exact rfl)(G:(!bit F i&&!bit D i&&F4 (A.getD i 0) D)=true:=by exact rfl)(I:D|||(1<<<i)=D':=by exact rfl):Lin P ops A F cx Q (n+1) D T env H:=zL i J G I m k
theorem Aj{d:Nat}{G:Op}{ty:AK}{pos:String}{af:Array Edge}{g:Nat×Bool}{v:A2}{D':Nat}(i:Nat)(J:∀a,wantedE ops a env (some g)=true)(K:ops[i]?=some ⟨some d,G,ty,pos,af,some g⟩)(m:(!bit F i&&!bit D i&&F4 (A.getD i 0) D)=true)(I:D|||(1<<<i)=D')(B:OpP P ⟨some d,G,ty,pos,af,some g⟩ env [] v)
 (k:Lin P ops A F cx Q n D' T ((d,v)::env) H):Lin P ops A F cx Q (n+1) D T env H:=by
 simp only [Gk,V2]at m;subst I;exact .inl ⟨i,_,v,[],K,m.1.2,m.2,by simp,.inl ⟨J,B⟩,k⟩
theorem tC{o:Oper}{D':Nat}(i:Nat)(I:ops[i]?=some o)(G:∀a,wantedE ops a env o.guard=false)(m:(!bit D i&&F4 (A.getD i 0) D)=true)(B:D|||(1<<<i)=D')
 (k:Lin P ops A F cx Q n D' T (putE o.dst undef env) H):Lin P ops A F cx Q (n+1) D T env H:=by
 simp only [Gk,V2]at m;subst B;exact .inl ⟨i,_,undef,[],I,m.1,m.2,by simp,.inr ⟨G,V,V⟩,k⟩
theorem Dh{t:Nat}{p:Prop} [I:Decidable p](hv:∀a,GA a env t= .bool (decide p))(G:p->Lin P ops A F cx Q n D T env H)(B:¬p->Lin P ops A F cx Q n D T env H):Lin P ops A F cx Q n D T env H:=by
 by_cases m:p
 · exact G m
 · exact B m
theorem Cb{t:Nat}{b:Bool}(hv:∀a,GA a env t= .bool b)(B:b=true->Lin P ops A F cx Q n D T env H)(m:b=false->Lin P ops A F cx Q n D T env H):Lin P ops A F cx Q n D T env H:=by
 cases hb:b;· exact m hb
 · exact B hb
theorem D5{d:Nat}{G:Op}{ty:AK}{pos:String}{af:Array Edge}{v:A2}{b:Nat}{x:Obj}{D':Nat}(i:Nat)(K:ops[i]?=some ⟨some d,G,ty,pos,af,none⟩)(m:(!bit F i&&!bit D i&&F4 (A.getD i 0) D)=true)(I:D|||(1<<<i)=D')(J:Has b x H)(B:OpP P ⟨some d,G,ty,pos,af,none⟩ env [(b,x)] v)
 (k:Lin P ops A F cx Q n D' ((i,(b,x))::T) ((d,v)::env) H):Lin P ops A F cx Q (n+1) D T env H:=by
 simp only [Gk,V2]at m;subst I;exact .inl ⟨i,_,v,[(b,x)],K,m.1.2,m.2,by simpa using J.mem,.inl ⟨fun _=>rfl,B⟩,k⟩
theorem CF{d:Nat}{G:Op}{ty:AK}{pos:String}{af:Array Edge}{g:Nat×Bool}{v:A2}{b:Nat}{x:Obj}{D':Nat}(i:Nat)(K:∀a,wantedE ops a env (some g)=true)(O:ops[i]?=some ⟨some d,G,ty,pos,af,some g⟩)(m:(!bit F i&&!bit D i&&F4 (A.getD i 0) D)=true)(I:D|||(1<<<i)=D')(J:Has b x H)(B:OpP P ⟨some d,G,ty,pos,af,some g⟩ env [(b,x)] v)
 (k:Lin P ops A F cx Q n D' ((i,(b,x))::T) ((d,v)::env) H):Lin P ops A F cx Q (n+1) D T env H:=by
 simp only [Gk,V2]at m;subst I;exact .inl ⟨i,_,v,[(b,x)],O,m.1.2,m.2,by simpa using J.mem,.inl ⟨K,B⟩,k⟩
def Xj(P:Program)(ops:Array Oper)(A:List Nat)(F:Nat)(cx:Cx)(Q:Exit->Act->A4->Prop)(n D:Nat)(T:List (Nat×A8))(env:Env)(H:Hp):List Nat->Prop
 |[]=>True
 |f::l=>(∃o T',ops[f]?=some o/\(∀a,wantedE ops a env o.guard=true)/\(∀p∈T,bit (A.getD f 0) p.1=true\/p∈T')/\
   OpW P cx.u o env H (fun v H'=>(∀p∈T',p.2∈H'.flatten)/\Lin P ops A F cx Q n (D|||(1<<<f)) T' (putE o.dst v env) H') (fun ch H'=>∀env,Nx cx (Q (.panic ch)) env H'))/\Xj P ops A F cx Q n D T env H l
theorem aM:∀(l:List Nat),Xj P ops A F cx Q n D T env H l->∀f∈l,∃o m,ops[f]?=some o/\(∀a,wantedE ops a env o.guard=true)/\(∀p∈T,bit (A.getD f 0) p.1=true\/p∈m)/\
 OpW P cx.u o env H (fun v H'=>(∀p∈m,p.2∈H'.flatten)/\Lin P ops A F cx Q n (D|||(1<<<f)) m (putE o.dst v env) H') (fun ch H'=>∀env,Nx cx (Q (.panic ch)) env H')
 |[],_,_,h=>by cases h
 |g::l,h,f,hf=>by
  rcases Dg.1 hf with rfl|hf
  · exact h.1
  · exact aM l h.2 f hf
theorem XC{l:List Nat}(m:mZ ops A F D=true)(h2:Ka ops A F D=l)(h:Xj P ops A F cx Q n D T env H l):Lin P ops A F cx Q (n+1) D T env H:= .inr ⟨m,by rw [h2];exact aM l h⟩
def sel{α:Type}:List Bool->List α->List α
 |true::bs,x::l=>x::sel bs l
 |false::bs,_::l=>sel bs l
 |_,_=>[]
def OH(m:Nat):List Bool->List Nat->Bool
 |true::bs,_::l=>OH m bs l
 |false::bs,x::l=>bit m x&&OH m bs l
 |[],[]=>true
 |_,_=>false
theorem PV{m:Nat}:∀(bs:List Bool) (T:List (Nat×A8)),OH m bs (T.map (·.1))=true->∀p∈T,bit m p.1=true\/p∈sel bs T
 |[],[],_,p,hp=>by cases hp
 |[],_::_,h,_,_=>by simp [OH]at h
 |_::_,[],_,p,hp=>by cases hp
 |true::bs,x::T,h,p,hp=>by
  simp only [F2,OH]at h;rcases Dg.1 hp with rfl|hp
  · exact .inr (by simp [sel])
  · exact (PV bs T h p hp).imp id fun B=>by simp only [sel];exact G3 _ B
 |false::bs,x::T,h,p,hp=>by
  simp only [F2,OH,Gk]at h;rcases Dg.1 hp with rfl|hp
  · exact .inl h.1
  · exact (PV bs T h.2 p hp).imp id fun B=>by simp only [sel];exact B
theorem Vu{f m:Nat}{l is:List Nat}{o:Oper}{D':Nat}{bs:List Bool}{B:List (Nat×A8)}{Z:A2->Hp->Prop}{X:List PanicEntry->Hp->Prop}(ho:ops[f]?=some o)(hg:∀a,wantedE ops a env o.guard=true)(hD:D|||(1<<<f)=D')(hm:A[f]?=some m)(J:T.map (·.1)=is)(U:OH m bs is=true)(hT:sel bs T=B)(hw:OpW P cx.u o env H Z X)
 (k:∀v H',Z v H'->(∀p∈B,p.2∈H'.flatten)/\Lin P ops A F cx Q n D' B (putE o.dst v env) H')(kp:∀ch H',X ch H'->∀env,Nx cx (Q (.panic ch)) env H')(hl:Xj P ops A F cx Q n D T env H l):Xj P ops A F cx Q n D T env H (f::l):=by
 subst hD;subst hT;subst J;have O:A.getD f 0=m:=by rw [Q2,hm];rfl
 exact ⟨⟨o,_,ho,hg,fun p hp=>by rw [O];exact PV bs T U p hp,fun a w hs K Kp hK I=>hw a w hs K Kp (fun v H' W G h2=>hK v H' W (k v H' G) h2) (fun ch H' W G h2=>I ch H' W (kp ch H' G) h2)⟩,hl⟩
theorem Am:Xj P ops A F cx Q n D T env H []:=trivial
end
theorem Ac{H:Hp}:∀p∈([]:List (Nat×A8)),p.2∈H.flatten:=by intro p m;cases m
theorem mE{H:Hp}{i b:Nat}{x:Obj}{T:List (Nat×A8)}(h:Has b x H)(B:∀p∈T,p.2∈H.flatten):∀p∈((i,(b,x))::T),p.2∈H.flatten:=by
 intro p m;rcases Dg.1 m with rfl|m
 · exact h.mem
 · exact B p m
theorem Aw{id n:Nat}{env:Env}{H:Hp}(A:List Nat)(F:Nat)(U:P.follows .mixedOrders=true)(G:Sz ops A cx.N=true)(hn:ops.size=n)(h:Lin P ops A F cx Q n 0 [] env H):At P cx (.region id ops true) Q env H:=fun a w B=>by
 subst hn;have K:=fB G
 refine wpIn_region_any U (XD (a0:=a) (env0:=env) B.size B.defers B.fit K ops.size _ _ _ [] 0 [] H ?_ ⟨by simp,fun j oj X J=>?_,V,B.sat.drew,fun i=>?_,by simp,(by intro e m;cases m),fun i hi=>?_,fun i hi=>?_,fun I e W hx=>?_,fun I e W hx=>?_,(by intro e m;cases m),B.fit,h⟩)
 · refine On List.countP_le_length ?_
   simp
 · simp [kA]at J
   split at J<;>simp_all
 · constructor
   · intro O;simp [bit]at O
   · rintro ⟨e,m,_⟩;cases m
 · exfalso
   simp [kA]at hi;split at hi<;>simp_all
 · simp [bit]at hi
 · cases I<;>cases hx
 · cases I<;>cases hx
end
end Gw
