/- Walking by chunks: copy, append, slices of arrays, bytes out of a string. No function of the program is named. -/
import Derived.Test.YtfhjaegddfehhabGreatDoorEx4
import Derived.Sort.OwnSortedInts
import Derived.Lib.SlicesCompact
set_option linter.unusedVariables false
set_option linter.unusedSimpArgs false
namespace Gw
open Go Go.RowKit
section
variable{P:Program}{env:Env}{d:Option Nat}{ty:AK}{pos:String}{af:Array Edge}{g:Option (Nat×Bool)}
section
variable{t e:AK}{n:Nat}{x lo hi:Operand}{b o l h s:Nat}{lk hk:IntKind}
theorem Io(B:P.underlying t=some (.array n e))(m:∀w:AD,(Go.sizeOf e).run P w= .ok s w)(hx:∀a,ev a env x= .pointer (some ⟨b,o,none⟩)):
 OpP P ⟨d,.slice t x none none none,ty,pos,af,g⟩ env [] (.slice (some ⟨b,o,none⟩) n n):=fun a w _=>by
 simp [Ki,hx a,Instr.sliceAt,run_underlying B,Instr.sureAddr,Instr.sliceBounds,m,Addr.add]
theorem QP(I:P.underlying t=some (.array n e))(G:∀w:AD,(Go.sizeOf e).run P w= .ok s w)(hx:∀a,ev a env x= .pointer (some ⟨b,o,none⟩))(B:∀a,ev a env lo= .int lk (l:Int))(J:l<n):
 OpP P ⟨d,.slice t x (some lo) none none,ty,pos,af,g⟩ env [] (.slice (some ⟨b,o+l*s,none⟩) (n -l) (n -l)):=fun a w _=>by
 have h2:l<=n:=by omega
 have m:¬n=l:=by omega
 simp [Ki,hx a,B a,Instr.sliceAt,run_underlying I,Instr.sureAddr,Instr.sliceBounds,Instr.sliceBound,asIntOf,G,h2,m,CW]
theorem TS(I:P.underlying t=some (.array n e))(G:∀w:AD,(Go.sizeOf e).run P w= .ok s w)(hx:∀a,ev a env x= .pointer (some ⟨b,o,none⟩))(B:∀a,ev a env hi= .int hk (h:Int))(m:h<=n):
 OpP P ⟨d,.slice t x none (some hi) none,ty,pos,af,g⟩ env [] (.slice (some ⟨b,o,none⟩) h n):=fun a w _=>by
 simp [Ki,hx a,B a,Instr.sliceAt,run_underlying I,Instr.sureAddr,Instr.sliceBounds,Instr.sliceBound,asIntOf,G,m,Addr.add]
end
theorem TR{t e:AK}{x lo hi m:Operand}{b o n cap l h s:Nat}{lk hk mk:IntKind}(W:P.underlying t=some (.slice e))(U:∀w:AD,(Go.sizeOf e).run P w= .ok s w)(hx:∀a,ev a env x= .slice (some ⟨b,o,none⟩) n cap)(J:∀a,ev a env lo= .int lk (l:Int))(I:∀a,ev a env hi= .int hk (h:Int))(O:∀a,ev a env m= .int mk (h:Int))(X:l<h)(h2:h<=cap):
 OpP P ⟨d,.slice t x (some lo) (some hi) (some m),ty,pos,af,g⟩ env [] (.slice (some ⟨b,o+l*s,none⟩) (h -l) (h -l)):=fun a w _=>by
 have B:l<=h:=by omega
 have G:¬h=l:=by omega
 simp [Ki,hx a,J a,I a,O a,Instr.sliceAt,Instr.slice,run_underlying W,Instr.sliceBounds,Instr.sliceBound,asIntOf,h2,B,G,U,CW]
variable{u:AD}{H H' R:Hp}
def C9(c:AH)(o:Nat)(cs:List A3):Prop:=(c.toList.drop o).take cs.length=cs
theorem C9.get{c:AH}{o:Nat}{cs:List A3}(h:C9 c o cs)(j:Nat)(v:A3)(G:cs[j]?=some v):c[o+j]?=some v:=by
 have m:j<cs.length:=(C4.1 G).1;have B:((c.toList.drop o).take cs.length)[j]?=cs[j]?:=by rw [h]
 rw [HJ,Ax m,Q2,HR,G]at B;exact B
theorem H9{w:AD}{b o:Nat}{c:AH}{T:AK}{z:Nat×Nat}{cs:List A3}(m:w.heap[b]?=some (.cells c T z))(h:C9 c o cs):∀j v,cs[j]?=some v->w.cell? ((⟨b,o,none⟩:Addr).add j)=some v:=fun j v B=>by
 rw [CW];exact Ck m (h.get j v B)
theorem sn{x y:Operand}{X sT e:AK}{b o n cap W o' n' B:Nat}{c c' c1:AH}{T T1:AK}{z z1:Nat×Nat}{cs:List A3}
 (hu:P.underlying X=some (.slice e))(hs:∀w:AD,(Go.sizeOf e).run P w= .ok 1 w)(hx:∀a,ev a env x= .slice (some ⟨b,o,none⟩) n cap)(hy:∀a,ev a env y= .slice (some ⟨W,o',none⟩) n' B)
 (J:Has W (.cells c1 T1 z1) H)(U:Upd b (.cells c T z) (.cells c' T z) H H')(ax:C9 c1 o' cs)(hn:cs.length=min n' n)(hc:EO c o cs=c')(G:o+cs.length<=c.size)(hz:Ik z c.size)(h1:∀v∈cs,v.oneCell'=true):
 OpW P u ⟨d,.call ⟨.builtin .copy,#[x,y],#[X,sT]⟩,ty,pos,af,g⟩ env H (fun v H1=>v=I4 ((min n' n:Nat):Int)/\H1=H') (fun _ _=>False):=fun a w m K Kp hK _=>by
 have hb:=m.get _ U.has.mem;have Z:=m.get _ J.mem
 have hl:=run_loadCells_list (P:=P) w ⟨W,o',none⟩ cs (H9 Z ax);rw [hn]at hl;have O:=Cg (P:=P) b o T z cs 0 c w hb hz (by simpa using G) h1
 simp only [Rg]at O;have I:Nat.min n' n=min n' n:=rfl
 have:(execOp (ev a env) ⟨d,.call ⟨.builtin .copy,#[x,y],#[X,sT]⟩,ty,pos,af,g⟩).run P w= .ok (.value (I4 ((min n' n:Nat):Int))) (w.setRow b (EO c o cs)):=by
  simp [E5,resolve,invoke,builtin,hx a,hy a,Builtin.copy_,run_underlying hu,Builtin.lenOf,Builtin.firstCells,hs,I,hl,O,EO,goInt]
 rw [this];exact hK _ _ _ ⟨rfl,rfl⟩ (m.upd U rfl rfl rfl (by rw [setRow_heap w b c _ T z hb,hc]) fun k hk=>setRow_other w b k _ hk)
theorem pF(bs:List UInt8):∀v∈bs.map u8v,v.oneCell'=true:=by
 intro v hv;obtain ⟨x,_,rfl⟩:=C3.1 hv;rfl
def Row(e:AK)(v:A3)(xs:List A3)(s:List A9):Prop:=
 (v= .slice none 0 0/\xs=[]/\s=[])\/
 ∃g cap cur z,v=I6 g xs.length cap/\s=[(g,.cells cur e z)]/\xs.length<=cap/\cap<=maxLen/\cur.size=cap/\cur.toList.take xs.length=xs/\Ik z cur.size
theorem Gb(e:AK):Row e (.slice none 0 0) [] []:= .inl ⟨rfl,rfl,rfl⟩
theorem Je(e:AK)(g:Nat)(xs:List A3)(n:Nat)(hn:xs.length=n)(h:n<=maxLen):Row e (I6 g n n) xs [(g,.cells xs.toArray e (0,0))]:=by
 subst hn;exact .inr ⟨g,xs.length,xs.toArray,(0,0),V,V,D2 _,h,by simp,by simp,BC _⟩
theorem Row.form{e:AK}{v:A3}{xs:List A3}{s:List A9}(h:Row e v xs s):∃b cap,v= .slice b xs.length cap:=by
 rcases h with⟨rfl,rfl,rfl⟩|⟨g,cap,cur,z,rfl,_⟩
 · exact ⟨none,0,rfl⟩
 · exact ⟨some ⟨g,0,none⟩,cap,rfl⟩
theorem Row.some{e:AK}{v:A3}{xs:List A3}{s:List A9}(h:Row e v xs s)(hn:0<xs.length):∃g cap cur z,v=I6 g xs.length cap/\s=[(g,.cells cur e z)]/\xs.length<=cap/\cap<=maxLen/\cur.size=cap/\cur.toList.take xs.length=xs/\Ik z cur.size:=by
 rcases h with⟨_,rfl,_⟩|h
 · cases hn
 · exact h
theorem Eb{x y:Operand}{t e:AK}{i:TypeInfo}{z:A3}{by_:Nat}{v:A3}{xs:List A3}{s:List A9}{b o m c:Nat}{c1:AH}{T1:AK}{z1:Nat×Nat}{news:List A3}
 (ht:P.underlying t=some (.slice e))(hi:P.info? e=some i)(U:i.size=1)(ek:i.bytes=by_)(l8:i.zero=some z)(o8:z.oneCell'=true)
 (hx:∀a,ev a env x=v)(gy:Row e v xs s)(hy:∀a,ev a env y= .slice (some ⟨b,o,none⟩) m c)(gm:One s H R)(j5:Has b (.cells c1 T1 z1) R)(ax:C9 c1 o news)(O:news.length=m)(h1:∀u∈news,u.oneCell'=true)
 (hm:0<m)(W:xs.length+m<=maxLen)(hb:(xs.length+m)*by_<=140737488355328):
 OpW P u ⟨d,.call ⟨.builtin .append,#[x,y],#[t,t]⟩,ty,pos,af,g⟩ env H (fun v' H1=>∃s',Row e v' (xs++news) s'/\H1=s'::R) (fun _ _=>False):=fun a w j3 K Kp hK _=>by
 have cO:Sat u (s::R) w:=j3.perm (by simpa using gm.perm);have ic:Sat u R w:=cO.sub ⟨s,by simp only [CA];exact Ly⟩
 have d9:=ic.get _ j5.mem;have bn:=H9 d9 ax
 have l5:z.cells=#[z]:=by cases z<;>first|rfl|simp [Value.oneCell']at o8
 have Z:news.length=m*i.size:=by rw [U];omega
 have o9:maxLen=9223372036854775807:=rfl;have B:∀{v':A3} {w':AD},(Builtin.append_ #[t,t] ty #[v,.slice (some ⟨b,o,none⟩) m c]).run P w= .ok v' w'->(execOp (ev a env) ⟨d,.call ⟨.builtin .append,#[x,y],#[t,t]⟩,ty,pos,af,g⟩).run P w= .ok (.value v') w':=fun h=>by
  simp only [E5,resolve,invoke,builtin,SD,Ek,Kf,hx a,hy a,Sem.run_bind,Sem.run_pure,Result.andThen_ok,h]
 have G:∀(n cap:Nat) (cells:AH) (w1:AD),w1={w with drawn:=n,heap:=w.heap.push (.cells cells e)}->Sat u ([(w.heap.size,.cells cells e (0,0))]::R) w1:=fun n cap cells w1 h=>by
  subst h;exact (ic.drawn n).alloc _
 rcases gy with⟨rfl,rfl,rfl⟩|⟨gb,cap,cur,zz,rfl,rfl,hle,hcm,hcs,htk,hfr⟩
 · have hr:=run_append_nil (P:=P) w t ty e i z ht hi l8 ⟨b,o,none⟩ m c news Z bn hm (by simp only [LI,DM]at W;omega) (by rw [ek];simp only [LI,DM]at hb;omega)
   rw [B hr];have X:=grownCap_ge w m 0 e
   have I:grownCap w m 0 e<=maxLen:=grownCap_le_maxLen w m 0 e (by simpa using W);refine hK _ _ _ ⟨[(w.heap.size,.cells (news.toArray++Builtin.zeroCells z.cells (grownCap w m 0 e -m)) e (0,0))],.inr ⟨w.heap.size,grownCap w m 0 e,_,(0,0),?_,rfl,?_,I,?_,?_,BC _⟩,rfl⟩ (G _ 0 _ _ rfl);· simp [O]
   · simpa [O]using X
   · simp [size_zeroCells,l5,O];omega
   · simp [O]
 · have hg:=cO.get (gb,.cells cur e zz) (by simp)
   by_cases J:xs.length+m<=cap
   · have hf:=run_firstCells_some (P:=P) w i.size m ⟨b,o,none⟩ m c news Z bn
     rw [U]at hf;have kv:=Cg (P:=P) gb xs.length e zz news 0 cur w hg hfr (by rw [O,hcs];omega) h1
     simp only [Rg]at kv;have hr:(Builtin.append_ #[t,t] ty #[I6 gb xs.length cap,.slice (some ⟨b,o,none⟩) m c]).run P w= .ok (I6 gb (xs.length+m) cap) (w.setRow gb (EO cur xs.length news)):=by
      simp [Builtin.append_,run_underlying ht,Go.sizeOf,typeInfo,hi,U,Builtin.lenOf,J,hf,CW,kv,EO]
     rw [B hr];have gq:(EO cur xs.length news).size=cap:=by
      unfold EO;simp;omega
     refine hK _ _ _ ⟨[(gb,.cells (EO cur xs.length news) e zz)],.inr ⟨gb,cap,_,zz,by simp [O],rfl,by simpa [O]using J,hcm,gq,?_,by rw [gq,<-hcs];exact hfr⟩,rfl⟩
      (cO.upd (.here _) rfl rfl rfl (setRow_heap w gb cur _ e zz hg) fun k hk=>setRow_other w gb k _ hk)
     unfold EO;rw [htk];simp only [D3];rw [<-D3];exact Hb B4
   · have cu:∀j v,xs[j]?=some v->w.cell? ((⟨gb,0,none⟩:Addr).add j)=some v:=fun j v hj=>by
      rw [CW];refine Ck hg ?_;have l9:j<xs.length:=(C4.1 hj).1
      have:(cur.toList.take xs.length)[j]?=some v:=by rw [htk];exact hj
      rw [HJ,Ax l9]at this;simpa using this
     have hr:=run_append_grow (P:=P) w t ty e i z ht hi l8 ⟨gb,0,none⟩ xs.length cap xs (by rw [U];omega) cu ⟨b,o,none⟩ m c news Z bn A1 A1 (growslice_fits A1 (by rw [ek];exact hb));rw [B hr];have X:=grownCap_ge w (xs.length+m) cap e
     have I:grownCap w (xs.length+m) cap e<=maxLen:=grownCap_le_maxLen w (xs.length+m) cap e W;refine hK _ _ _ ⟨[(w.heap.size,.cells (xs.toArray++news.toArray++Builtin.zeroCells z.cells (grownCap w (xs.length+m) cap e -(xs.length+m))) e (0,0))],.inr ⟨w.heap.size,grownCap w (xs.length+m) cap e,_,(0,0),?_,V,?_,I,?_,?_,BC _⟩,V⟩ (G _ 0 _ _ V);· simp [O]
     · simpa [O]using X
     · simp [size_zeroCells,l5,O];omega
     · simp only [cS]
       exact Hb B4
theorem xG{s t e:AK}{x:Operand}{str:Bk}(hs:P.underlying s=some .string)(ht:P.underlying t=some (.slice e))(he:P.underlying e=some (.int .u8))(hx:∀a,ev a env x= .string str)(hm:str.size<=maxLen):
 OpW P u ⟨d,.convert s t x,ty,pos,af,g⟩ env H (fun v' H1=>∃X,Row e v' (str.data.toList.map u8v) X/\H1=X::H) (fun _ _=>False):=fun a w O K Kp hK _=>by
 have U:str.size<=grownCap w str.size 0 e:=grownCap_ge w str.size 0 e;have I:grownCap w str.size 0 e<=maxLen:=grownCap_le_maxLen w str.size 0 e hm
 have B:(str.data.toList.map u8v).length=str.size:=by rw [B8];rfl
 obtain ⟨cells,m⟩:∃cells:AH,cells=str.data.map (fun b=>Value.int .u8 b.toNat)++Array.replicate (grownCap w str.size 0 e -str.size) (.int .u8 0):=⟨_,rfl⟩;have G:cells.size=grownCap w str.size 0 e:=by
  have:str.data.size=str.size:=rfl;rw [m];simp [this];omega
 have J:(execOp (ev a env) ⟨d,.convert s t x,ty,pos,af,g⟩).run P w= .ok (.value (.slice (some ⟨w.heap.size,0,none⟩) str.size (grownCap w str.size 0 e))) (World.freeze {w with drawn:=w.drawn+1,heap:=w.heap.push (.cells cells e)} ⟨w.heap.size,cells.size,none⟩ 1):=by
  have W:(({w with drawn:=w.drawn+1,heap:=w.heap.push (.cells cells e)}:AD).shape? w.heap.size)=some (e,cells.size):=by
   simp [World.shape?]
  simp only [K7,hx a,convert,Sem.run_bind,run_underlying hs,run_underlying ht,run_underlying he,Result.andThen_ok,Conv.stringToBytes,choose,Sem.run,Question.forced,newRow,newObj,Sem.run_pure,Mn,HO];rw [show Question.cut (.appendCap str.size 0 e) (w.tape w.drawn (.appendCap str.size 0 e))=grownCap w str.size 0 e from rfl,<-m];simp [markStringish,W]
 rw [J];refine hK _ _ _ ⟨[(w.heap.size,.cells cells e (cells.size,cells.size+1))],.inr ⟨w.heap.size,grownCap w str.size 0 e,cells,(cells.size,cells.size+1),by rw [B],rfl,by rw [B];exact U,I,G,?_,ai _ _ (D2 _) _⟩,rfl⟩ ?_
 · rw [B,m]
   have:str.data.size=str.size:=rfl;simp [u8v,mw,List.take_append,this]
 · have Z:Sat u ([(w.heap.size,.cells cells e (0,0))]::H) {w with drawn:=w.drawn+1,heap:=w.heap.push (.cells cells e)}:=(O.drawn (w.drawn+1)).alloc _
   refine Z.upd (.here _) ?_ ?_ ?_ ?_ fun k hk=>?_;· simp [World.freeze]
   · simp [World.freeze]
   · simp [World.freeze]
   · simp only [World.freeze,Nat.one_ne_zero,HO]
     rw [T7,Ax rfl];simp
   · simp [World.freeze,T7,eM hk]
end
theorem BX{P:Program}{cx:Cx}{c:Code}{Q:Exit->Act->AD->Prop}{env:Env}{H:Hp}(h:At P cx c Q env ([]::H)):At P cx c Q env H:=YD (H':=[]::H) rfl h
def Bd(sz:Nat)(e:AK)(v:A3)(k:Nat)(xs:List A3)(s:List A9):Prop:=
 xs.length=k*sz/\((v= .slice none 0 0/\k=0/\s=[])\/
 ∃g cap cur z,v=I6 g k cap/\s=[(g,.cells cur e z)]/\k<=cap/\cap<=maxLen/\cur.size=cap*sz/\cur.toList.take (k*sz)=xs/\Ik z cur.size)
theorem Bf(sz:Nat)(e:AK):Bd sz e (.slice none 0 0) 0 [] []:=⟨by simp,.inl ⟨rfl,rfl,rfl⟩⟩
theorem Bd.form{sz:Nat}{e:AK}{v:A3}{k:Nat}{xs:List A3}{s:List A9}(h:Bd sz e v k xs s):∃b cap,v= .slice b k cap:=by
 rcases h with⟨_,⟨rfl,rfl,rfl⟩|⟨g,cap,cur,z,rfl,_⟩⟩
 · exact ⟨none,0,rfl⟩
 · exact ⟨some ⟨g,0,none⟩,cap,rfl⟩
theorem Bd.cut{sz:Nat}{e:AK}{b:B6}{n cap k:Nat}{xs:List A3}{s:List A9}(h:Bd sz e (.slice b n cap) k xs s):Bd sz e (.slice b 0 cap) 0 [] s:=by
 rcases h with⟨_,⟨m,rfl,rfl⟩|⟨g,J,cur,z,m,rfl,O,B,G,U,I⟩⟩
 · simp only [Value.slice.injEq]at m
   obtain ⟨rfl,rfl,rfl⟩:=m;exact Bf sz e
 · simp only [Value.slice.injEq]at m
   obtain ⟨rfl,rfl,rfl⟩:=m;exact ⟨by simp,.inr ⟨g,cap,cur,z,V,V,C5 _,B,G,by simp,I⟩⟩
theorem Ug{P:Program}{e:AK}{i:TypeInfo}{z:A3}(hi:P.info? e=some i)(m:i.zero=some z)(w:AD):(zeroValue e).run P w= .ok z w:=by
 simp [zeroValue,typeInfo,hi,m]
section
variable{P:Program}{u:AD}{env:Env}{H R:Hp}{d:Option Nat}{ty:AK}{pos:String}{af:Array Edge}{g:Option (Nat×Bool)}
theorem VF{x y:Operand}{t e:AK}{i:TypeInfo}{z:A3}{by_ sz k:Nat}{v:A3}{xs:List A3}{s:List A9}{b o m c:Nat}{news:List A3}
 (ht:P.underlying t=some (.slice e))(hi:P.info? e=some i)(X:i.size=sz)(d9:i.bytes=by_)(kv:i.zero=some z)(j5:z.cells.size=sz)
 (hx:∀a,ev a env x=v)(U:Bd sz e v k xs s)(hy:∀a,ev a env y= .slice (some ⟨b,o,none⟩) m c)(gm:One s H R)(ek:∀w,Sat u R w->∀j v,news[j]?=some v->w.cell? ((⟨b,o,none⟩:Addr).add j)=some v)(hl:news.length=m*sz)(h1:∀u∈news,u.oneCell'=true)
 (hm:0<m)(l5:k+m<=maxLen)(hb:(k+m)*by_<=140737488355328):
 OpW P u ⟨d,.call ⟨.builtin .append,#[x,y],#[t,t]⟩,ty,pos,af,g⟩ env H (fun v' H1=>∃s',Bd sz e v' (k+m) (xs++news) s'/\H1=s'::R) (fun _ _=>False):=fun a w ic K Kp hK _=>by
 have cu:Sat u (s::R) w:=ic.perm (by simpa using gm.perm);have gy:Sat u R w:=cu.sub ⟨s,by simp only [CA];exact Ly⟩
 have ax:=ek w gy;have Z:news.length=m*i.size:=by rw [X];omega
 have o9:maxLen=9223372036854775807:=rfl;have B:∀{v':A3} {w':AD},(Builtin.append_ #[t,t] ty #[v,.slice (some ⟨b,o,none⟩) m c]).run P w= .ok v' w'->(execOp (ev a env) ⟨d,.call ⟨.builtin .append,#[x,y],#[t,t]⟩,ty,pos,af,g⟩).run P w= .ok (.value v') w':=fun h=>by
  simp only [E5,resolve,invoke,builtin,SD,Ek,Kf,hx a,hy a,Sem.run_bind,Sem.run_pure,Result.andThen_ok,h]
 have J:∀(n cap:Nat) (cells:AH) (w1:AD),w1={w with drawn:=n,heap:=w.heap.push (.cells cells e)}->Sat u ([(w.heap.size,.cells cells e (0,0))]::R) w1:=fun n cap cells w1 h=>by
  subst h;exact (gy.drawn n).alloc _
 obtain ⟨cO,U⟩:=U;have G:(xs++news).length=(k+m)*sz:=by rw [BW,cO,hl,LO]
 have split:∀n p:Nat,p<=n->p*sz+(n -p)*sz=n*sz:=fun n p h=>by rw [<-LO];congr 1;omega
 rcases U with⟨rfl,rfl,rfl⟩|⟨gb,cap,cur,zz,rfl,rfl,hle,hcm,hcs,htk,hfr⟩
 · have l8:xs=[]:=MT (by omega)
   subst l8;have hr:=run_append_nil (P:=P) w t ty e i z ht hi kv ⟨b,o,none⟩ m c news Z ax hm (by omega) (by rw [d9];exact My (by simpa using hb) (by decide:140737488355328<=281474976710656))
   rw [B hr];have W:=grownCap_ge w m 0 e
   have O:grownCap w m 0 e<=maxLen:=grownCap_le_maxLen w m 0 e (by omega);refine hK _ _ _ ⟨[(w.heap.size,.cells (news.toArray++Builtin.zeroCells z.cells (grownCap w m 0 e -m)) e (0,0))],⟨G,.inr ⟨w.heap.size,grownCap w m 0 e,_,(0,0),by simp,rfl,by omega,O,?_,?_,BC _⟩⟩,rfl⟩ (J _ 0 _ _ rfl)
   · simp only [jt,size_zeroCells,j5,HD,hl]
     exact split _ _ W
   · simp only [cS,Ln,DM]
     exact Hb hl
 · have hg:=cu.get (gb,.cells cur e zz) (by simp)
   by_cases I:k+m<=cap
   · have hf:=run_firstCells_some (P:=P) w i.size m ⟨b,o,none⟩ m c news Z ax
     rw [X]at hf;have l9:k*sz+m*sz<=cap*sz:=by rw [<-LO];exact US sz I
     have j3:=Cg (P:=P) gb (k*sz) e zz news 0 cur w hg hfr (by rw [hl,hcs];omega) h1;simp only [Rg]at j3;have hr:(Builtin.append_ #[t,t] ty #[I6 gb k cap,.slice (some ⟨b,o,none⟩) m c]).run P w= .ok (I6 gb (k+m) cap) (w.setRow gb (EO cur (k*sz) news)):=by
      simp [Builtin.append_,run_underlying ht,Go.sizeOf,typeInfo,hi,X,Builtin.lenOf,I,hf,CW,j3,EO]
     rw [B hr];have gq:(EO cur (k*sz) news).size=cap*sz:=by
      unfold EO;simp;omega
     refine hK _ _ _ ⟨[(gb,.cells (EO cur (k*sz) news) e zz)],⟨G,.inr ⟨gb,cap,_,zz,rfl,rfl,I,hcm,gq,?_,by rw [gq,<-hcs];exact hfr⟩⟩,rfl⟩
      (cu.upd (.here _) rfl rfl rfl (setRow_heap w gb cur _ e zz hg) fun k hk=>setRow_other w gb k _ hk)
     unfold EO;rw [htk];simp only [D3];rw [<-D3];exact Hb G
   · have bn:∀j v,xs[j]?=some v->w.cell? ((⟨gb,0,none⟩:Addr).add j)=some v:=fun j v hj=>by
      rw [CW];refine Ck hg ?_;have o8:j<xs.length:=(C4.1 hj).1
      have:(cur.toList.take (k*sz))[j]?=some v:=by rw [htk];exact hj
      rw [HJ,Ax A1]at this;simpa using this
     have hr:=run_append_grow (P:=P) w t ty e i z ht hi kv ⟨gb,0,none⟩ k cap xs (by rw [X];exact cO) bn ⟨b,o,none⟩ m c news Z ax A1 A1 (growslice_fits A1 (by rw [d9];exact hb));rw [B hr];have W:=grownCap_ge w (k+m) cap e
     have O:grownCap w (k+m) cap e<=maxLen:=grownCap_le_maxLen w (k+m) cap e l5;refine hK _ _ _ ⟨[(w.heap.size,.cells (xs.toArray++news.toArray++Builtin.zeroCells z.cells (grownCap w (k+m) cap e -(k+m))) e (0,0))],⟨G,.inr ⟨w.heap.size,grownCap w (k+m) cap e,_,(0,0),V,V,W,O,?_,?_,BC _⟩⟩,V⟩ (J _ 0 _ _ V)
     · simp only [jt,size_zeroCells,j5,HD,hl,cO]
       have:=split _ _ W;rw [LO]at this;exact this
     · simp only [cS]
       exact Hb (by simpa using G)
theorem E8{x y:Operand}{t e:AK}{i:TypeInfo}{z:A3}{by_ sz k:Nat}{v:A3}{xs:List A3}{s:List A9}{b o m c:Nat}{c1:AH}{T1:AK}{z1:Nat×Nat}{news:List A3}
 (ht:P.underlying t=some (.slice e))(hi:P.info? e=some i)(W:i.size=sz)(U:i.bytes=by_)(Z:i.zero=some z)(X:z.cells.size=sz)
 (hx:∀a,ev a env x=v)(I:Bd sz e v k xs s)(hy:∀a,ev a env y= .slice (some ⟨b,o,none⟩) m c)(G:One s H R)(J:Has b (.cells c1 T1 z1) R)(B:C9 c1 o news)(hl:news.length=m*sz)(h1:∀u∈news,u.oneCell'=true)
 (hm:0<m)(O:k+m<=maxLen)(hb:(k+m)*by_<=140737488355328):
 OpW P u ⟨d,.call ⟨.builtin .append,#[x,y],#[t,t]⟩,ty,pos,af,g⟩ env H (fun v' H1=>∃s',Bd sz e v' (k+m) (xs++news) s'/\H1=s'::R) (fun _ _=>False):=
 VF ht hi W U Z X hx I hy G (fun w hs=>H9 (hs.get _ J.mem) B) hl h1 hm O hb
theorem NK{t e:AK}{x lo:Operand}{b o n cap l:Nat}{lk:IntKind}(I:P.underlying t=some (.slice e))(G:∀w:AD,(Go.sizeOf e).run P w= .ok 1 w)(hx:∀a,ev a env x= .slice (some ⟨b,o,none⟩) n cap)(B:∀a,ev a env lo= .int lk (l:Int))(m:l<=n)(h2:l<cap):
 OpP P ⟨d,.slice t x (some lo) none none,ty,pos,af,g⟩ env [] (.slice (some ⟨b,o+l,none⟩) (n -l) (cap -l)):=by
 have h:=CE (d:=d) (ty:=ty) (pos:=pos) (af:=af) (g:=g) I G hx B m;have e1:EY (some ⟨b,o,none⟩) l cap 1=some ⟨b,o+l,none⟩:=by
  unfold EY;rw [An A1,NX,CW,Mz]
 rw [e1]at h;exact h
end
section
variable{P:Program}{u:AD}{env:Env}{H R R2:Hp}{d:Option Nat}{ty:AK}{pos:String}{af:Array Edge}{g:Option (Nat×Bool)}
theorem ER{t e s:Nat}(J:P.underlying t=some (.slice e))(I:∀w:AD,(Go.sizeOf e).run P w= .ok s w):
 OpW P u ⟨d,.buildSlice t 0 #[],ty,pos,af,g⟩ env H (fun O H1=>∃b,O=I6 b 0 0/\H1=[(b,.cells ([]:List A3).toArray e (0,0))]::H) (fun _ _=>False):=fun a w m K U G _=>by
 have B:(Instr.buildSlice t 0 (#[]:Array (Nat×A3))).run P w= .ok (.slice (some ⟨w.heap.size,0,none⟩) 0 0) {w with heap:=w.heap.push (.cells #[] e)}:=by
  unfold Instr.buildSlice;simp [Sem.run_bind,run_underlying J,I,Instr.fill,newRow];congr 2;apply kh<;>simp
 have:(execOp (ev a env) ⟨d,.buildSlice t 0 #[],ty,pos,af,g⟩).run P w= .ok (.value (.slice (some ⟨w.heap.size,0,none⟩) 0 0)) {w with heap:=w.heap.push (.cells #[] e)}:=by
  rw [OP,Sem.run_bind];have e0:(#[]:Array (Nat×Operand)).map (fun(i,x)=>(i,ev a env x))=#[]:=by simp
  rw [e0,B];rfl
 rw [this];exact G _ _ _ ⟨_,V,V⟩ (m.alloc _)
theorem One.has{b:Nat}{o:Obj}(h:One [(b,o)] H R):Has b o H:=by
 induction h with
 |here H=>exact .here _
 |there t h ih=>exact .there _ ih
theorem Row.le{e:AK}{v:A3}{xs:List A3}{s:List A9}(h:Row e v xs s):∃b cap,v= .slice b xs.length cap/\xs.length<=cap:=by
 rcases h with⟨rfl,rfl,rfl⟩|⟨g,cap,cur,z,rfl,_,hle,_⟩
 · exact ⟨none,0,rfl,D2 _⟩
 · exact ⟨_,cap,rfl,hle⟩
theorem Gs{x y:Operand}{t e:AK}{i:TypeInfo}{z:A3}{by_:Nat}{v v2:A3}{xs ys:List A3}{s s2:List A9}
 (ht:P.underlying t=some (.slice e))(hi:P.info? e=some i)(G:i.size=1)(ax:i.bytes=by_)(ek:i.zero=some z)(d9:z.oneCell'=true)
 (hx:∀a,ev a env x=v)(m:Row e v xs s)(hy:∀a,ev a env y=v2)(B:Row e v2 ys s2)(I:One s H R)(W:One s2 R R2)(h1:∀u∈ys,u.oneCell'=true)
 (Z:xs.length+ys.length<=maxLen)(hb:(xs.length+ys.length)*by_<=140737488355328):
 OpW P u ⟨d,.call ⟨.builtin .append,#[x,y],#[t,t]⟩,ty,pos,af,g⟩ env H (fun v' H1=>∃s',Row e v' (xs++ys) s'/\H1=s'::R) (fun _ _=>False):=by
 by_cases h0:ys=[]
 · subst h0
   obtain ⟨X,c2,rfl,_⟩:=B.le;obtain ⟨b,c,rfl,O⟩:=m.le;intro a w U K Kp hK _;have bn:Sat u (s::R) w:=U.perm (by simpa using I.perm)
   have J:(Builtin.firstCells i.size 0 (.slice X 0 c2)).run P w= .ok #[] w:=by
    cases X with
    |none=>simp [Builtin.firstCells]
    |some ad=>simp [Builtin.firstCells,loadCells,loadCellsFrom]
   have hr:(Builtin.append_ #[t,t] ty #[.slice b xs.length c,.slice X 0 c2]).run P w= .ok (.slice b xs.length c) w:=by
    rw [G]at J;cases b with
    |none=>simp [Builtin.append_,run_underlying ht,Go.sizeOf,typeInfo,hi,G,Builtin.lenOf,O,J]
    |some ad=>simp [Builtin.append_,run_underlying ht,Go.sizeOf,typeInfo,hi,G,Builtin.lenOf,O,J,storeCells]
   have cO:(execOp (ev a env) ⟨d,.call ⟨.builtin .append,#[x,y],#[t,t]⟩,ty,pos,af,g⟩).run P w= .ok (.value (.slice b xs.length c)) w:=by
    simp only [E5,resolve,invoke,builtin,SD,Ek,Kf,hx a,hy a,Sem.run_bind,Sem.run_pure,Result.andThen_ok,LI,hr]
   rw [cO];exact hK _ _ _ ⟨s,by rw [DG];exact m,rfl⟩ bn
 · have hp:0<ys.length:=pC.2 h0
   obtain ⟨gb,cap,cur,zz,rfl,rfl,O,gm,gq,cu,gy⟩:=B.some hp;exact Eb ht hi G ax ek d9 hx m hy I W.has (by unfold C9;rw [RW];exact cu) rfl h1 hp Z hb
theorem eX{t ty b j s:Nat}{m:Func}{v x:A3}(G:m.results=#[.cell t ty,.tmp s]){w:AD}{tmps:AH}(hx:tmps.getD t undef= .pointer (some ⟨b,j,none⟩))(B:(loadVar ty ⟨b,j,none⟩).run P w= .ok v w)(hy:tmps.getD s undef=x):(results m tmps).run P w= .ok (.tuple #[v,x]) w:=by
 rw [Lw]at hx hy;simp [results,G,hx,hy,asAddr,B]
theorem Bj{e:Exit}{N:Nat}{r:Option Nat}{B:Func}{Q:A3->Hp->Prop}{G:List PanicEntry->Hp->Prop}{H':Hp}{t ty b j s:Nat}{v x:A3}{o:Obj}(J:Fb e=true)(X:B.results=#[.cell t ty,.tmp s])(hv:∀a,G8 a env t= .pointer (some ⟨b,j,none⟩))(I:Has b o H)(O:∀w:AD,w.heap[b]?=some o->(loadVar ty ⟨b,j,none⟩).run P w= .ok v w)(hx:∀a,G8 a env s=x)(W:Q (.tuple #[v,x]) H')(U:Sub (H'++R) H:=by repeat(first|exact Sub.refl _|exact Sub.nil _|(apply Sub.cons;(focus (repeat(first|exact One.here _ _|apply One.there))))|refine Sub.drop _ ?_)):Nx ⟨N,[],u,r⟩ (bodyPost P B (GY u R Q G) e) env H:=
 MH J (fun a w m=>eX X (by rw [CX a env (by rw [m.size];exact m.fit),hv a]) (O w (m.sat.get _ I.mem)) (by rw [CX a env (by rw [m.size];exact m.fit),hx a])) W U
theorem CG{ops:Array Oper}{l:List Oper}{cx:Cx}{Q:Exit->Act->AD->Prop}{d:Nat}{m:Op}{v:A3}{cs:List A9}(B:∀c∈cs,c∈H.flatten)(h:OpP P ⟨some d,m,ty,pos,af,none⟩ env cs v)(hn:Dy m=true)(G:Nat.blt d cx.N=true)
 (k:Ops P ops l cx Q ((d,v)::env) H):Ops P ops (⟨some d,m,ty,pos,af,none⟩::l) cx Q env H:=
 Jk (fun _=>rfl) (fun t I=>by cases I;simpa using G) hn (h.eff (u:=cx.u) (H:=H) B) (by rintro _ _ ⟨rfl,rfl⟩;exact k) (fun _ _ h=>h.elim)
theorem mh{w:AD}{s1 s2:List A9}{a b:Nat}{x y:Obj}(J:Sat u H w)(m:One s1 H R)(h2:One s2 R R2)(B:(a,x)∈s1)(G:(b,y)∈s2):a≠b:=by
 have hn:=J.nodup;have I:H.flatten.Perm (s1++(s2++R2.flatten)):=m.perm.trans (PJ s1 h2.perm)
 rw [(I.map (·.1)).nodup_iff,C2,C2,HA]at hn;exact hn.2.2 a (C3.2 ⟨_,B,V⟩) b (E7 _ (C3.2 ⟨_,G,V⟩))
theorem zo{cx:Cx}{c:Code}{Q:Exit->Act->AD->Prop}{s1 s2:List A9}{a b:Nat}{x y:Obj}(B:One s1 H R)(h2:One s2 R R2)(G:(a,x)∈s1)(I:(b,y)∈s2)(k:a≠b->At P cx c Q env H):At P cx c Q env H:=
 fun act w m=>k (mh m.sat B h2 G I) act w m
theorem MF{ops:Array Oper}{l:List Oper}{cx:Cx}{Q:Exit->Act->AD->Prop}{d:Nat}{m:Op}{g:Nat×Bool}{v:A3}{cs:List A9}(I:∀a,wantedE ops a env (some g)=true)(B:∀c∈cs,c∈H.flatten)(h:OpP P ⟨some d,m,ty,pos,af,some g⟩ env cs v)(hn:Dy m=true)(G:Nat.blt d cx.N=true)
 (k:Ops P ops l cx Q ((d,v)::env) H):Ops P ops (⟨some d,m,ty,pos,af,some g⟩::l) cx Q env H:=
 Jk I (fun t J=>by cases J;simpa using G) hn (h.eff (u:=cx.u) (H:=H) B) (by rintro _ _ ⟨rfl,rfl⟩;exact k) (fun _ _ h=>h.elim)
theorem xU{e:AK}{v:A3}{xs:List A3}{s:List A9}(h:Row e v xs s){k:Nat}(hk:k<xs.length):∃b cap cur z,v=I6 b xs.length cap/\s=[(b,.cells cur e z)]/\k<cur.size/\Ik z cur.size/\∀y:A3,Row e v (xs.set k y) [(b,.cells (cur.setIfInBounds k y) e z)]:=by
 obtain ⟨b,cap,cur,z,rfl,rfl,I,B,G,J,m⟩:=h.some A1;refine ⟨b,cap,cur,z,rfl,rfl,by omega,m,fun y=> .inr ⟨b,cap,_,z,by rw [eI],rfl,by rw [eI];exact I,B,by rw [T5];exact G,?_,by rw [T5];exact m⟩⟩;rw [eI,iz,List.take_set,J]
end
section
variable{P:Program}{cx:Cx}{x y:Code}{Q:Exit->Act->AD->Prop}{env:Env}{H:Hp}
theorem DL{e0 B:Env}{H0 R:Hp}(I:Env->Hp->Prop)(W:Ev H0 H R)(hx:At P cx x (Exit.then (fun a w=>∃e H1 a0,I e H1/\St cx (e++B) (H1++R) a0 w/\a=puts (e++B) a0) Q) (e0++B) (H0++R))(hy:∀e H1,I e H1->At P cx y Q (e++B) (H1++R)):At P cx (.seq x y) Q (e0++B) H:=fun a w m=>by
 have G:St cx (e0++B) (H0++R) a w:=⟨m.size,m.defers,m.fit,m.sat.perm W.perm⟩;refine wpIn_seq (wpIn_mono (hx a w G) fun e Z X O=>?_);cases e<;>first|exact O|(obtain ⟨e',H',a0,U,J,rfl⟩:=O;exact hy e' H' U a0 X J)
theorem BN{I:Env->Hp->Prop}{B e':Env}{R H':Hp}(h:I e' H')(G:Sub (H'++R) H:=by repeat(first|exact Sub.refl _|exact Sub.nil _|(apply Sub.cons;(focus (repeat(first|exact One.here _ _|apply One.there))))|refine Sub.drop _ ?_)):Nx cx ((Exit.then (fun a w=>∃e H1 a0,I e H1/\St cx (e++B) (H1++R) a0 w/\a=puts (e++B) a0) Q) .normal) (e'++B) H:=fun a _ m=>⟨e',H',a,h,⟨m.size,m.defers,m.fit,m.sat.sub G.amid⟩,rfl⟩
end
end Gw
namespace Gw
open Go Go.RowKit Go.Sort
section
variable{P:Program}{u:AD}{env:Env}{H R:Hp}{d:Option Nat}{ty:AK}{pos:String}{af:Array Edge}{g:Option (Nat×Bool)}
theorem sU(c:AH)(k:Nat):EO c k []=c:=by
 unfold EO;apply HX.1;simp
end
theorem U4{α:Type} [Inhabited α]{f:α->A3}{w:AD}{g:Nat}{cur:AH}{e:AK}{z:Nat×Nat}{zs:List α}(I:w.heap[g]?=some (.cells cur e z))(O:zs.length<=cur.size)(B:Ik z cur.size)(U:cur.toList.take zs.length=zs.map f):Holds f w g 0 zs.toArray:=by
 intro j J;have m:j<zs.length:=by simpa using J
 have W:=B j A1;have G:(cur.toList.take zs.length)[j]?=(zs.map f)[j]?:=by rw [U]
 rw [lx m]at G;refine ⟨?_,?_⟩
 · simp only [World.cell?,I,DM]
   simp only [pH,Mn,HO];rw [<-HR,G];simp [m]
 · simp only [World.frozen?,I,DM]
   simp;omega
theorem Z8{α:Type} [Inhabited α]{f:α->A3}(cur:AH)(m:List α)(h:m.length<=cur.size):(putCells f 0 m.toArray cur).toList.take m.length=m.map f:=by
 apply Mu;intro j;rw [HJ];by_cases B:j<m.length
 · rw [Ax B,HR]
   unfold putCells;rw [ov,HQ A1];simp [B]
 · rw [An B,MY I2]
theorem Mo{α:Type} [Inhabited α]{f:α->A3}(cur:AH)(m:Array α):(putCells f 0 m cur).size=cur.size:=by simp [putCells]
theorem Sat.sorted{α:Type} [Inhabited α]{f:α->A3}{u w:AD}{g n:Nat}{cur:AH}{e:AK}{z:Nat×Nat}{R:Hp}(d:Array α)(os:Array Obj)(h:Sat u ([(g,.cells cur e z)]::R) w):Sat u ([(g,.cells (putCells f 0 d cur) e z)]::R) (grow (putRow f (Sort.ahead w n) g 0 d) os):=by
 have m:=h.get (g,.cells cur e z) B4;have G:g<w.heap.size:=(HU.1 m).1
 have B:Sat u ([(g,.cells (putCells f 0 d cur) e z)]::R) (putRow f (Sort.ahead w n) g 0 d):=by
  refine h.upd (.here _) V rfl V ?_ fun k hk=>?_;· simp [putRow,mapBlock,Sort.ahead,T7,m,onCells]
  · have:g≠k:=fun e=>hk e.symm
    simp [putRow,mapBlock,Sort.ahead,T7,this]
 exact B.below ⟨V,V,V,by simp [grow],fun k hk=>heap_grow_old _ _ hk⟩
inductive VC(s1 s2:List A9):Hp->Hp->Prop
 |here (H:Hp):VC s1 s2 ((s1++s2)::H) (s1::s2::H)
 |there {H H':Hp} (t:List A9) (h:VC s1 s2 H H'):VC s1 s2 (t::H) (t::H')
theorem VC.flat{s1 s2:List A9}{H H':Hp}(h:VC s1 s2 H H'):H.flatten=H'.flatten:=by
 induction h with
 |here H=>simp
 |there t h ih=>simp only [CA,ih]
theorem kS{P:Program}{cx:Cx}{m:Code}{Q:Exit->Act->AD->Prop}{env:Env}{s1 s2:List A9}{H H':Hp}(h:VC s1 s2 H H')(k:At P cx m Q env H'):At P cx m Q env H:=YD h.flat k
theorem CP{P:Program}{cx:Cx}{G:Code}{Q:Exit->Act->AD->Prop}{env:Env}{s1 s2:List A9}{H B R2:Hp}(I:One s1 H B)(h2:One s2 B R2)(k:At P cx G Q env ((s1++s2)::R2)):At P cx G Q env H:=fun a w m=>
 k a w ⟨m.size,m.defers,m.fit,m.sat.perm (by
   simp only [CA,D3];exact I.perm.trans (PJ s1 h2.perm))⟩
end Gw
namespace Gw
open Go Go.RowKit
structure V3 where
 a:Int
 b:Int
 c:Int
deriving DecidableEq
def V3.zero:V3:=⟨0,0,0⟩
theorem V3.eq_iff(x y:V3):x=y↔(x.a=y.a/\x.b=y.b/\x.c=y.c):=by
 constructor;· rintro rfl;exact ⟨rfl,rfl,rfl⟩
 · cases x;cases y;rintro ⟨m,h2,B⟩;simp only at m h2 B;rw [m,h2,B]
section
variable{P:Program}{u:AD}{env:Env}{H R:Hp}{d:Option Nat}{ty:AK}{pos:String}{af:Array Edge}{g:Option (Nat×Bool)}
theorem Pf{e:AK}(n:Nat)(w:AD)(B:P.underlying e=some (.int .i64))(m k:Int):(Op.equalIn (n+1) e (I4 m) (I4 k)).run P w= .ok (decide (m=k)) w:=by
 simp [Op.equalIn,run_underlying B];by_cases h:m=k<;>simp [h]
theorem F4{e:AK}(w:AD)(m:(isAgg e).run P w= .ok false w)(xs:AH)(j:Nat){v:A3}(h:xs[j]?=some v):(part e xs j).run P w= .ok v w:=by
 simp [part,m,h]
theorem Rp{t e:AK}(w:AD)(n:Nat)(x y:V3)(hu:P.underlying t=some (.array 3 e))(X:P.underlying e=some (.int .i64))(B:∀w:AD,(isAgg e).run P w= .ok false w)(Z:∀w:AD,(Go.sizeOf e).run P w= .ok 1 w):
 (Op.equalIn (n+2) t (.agg #[I4 x.a,I4 x.b,I4 x.c]) (.agg #[I4 y.a,I4 y.b,I4 y.c])).run P w= .ok (decide (x=y)) w:=by
 have G:∀(m k:Int) (w:AD),(Op.equalIn (n+1) e (I4 m) (I4 k)).run P w= .ok (decide (m=k)) w:=fun m k w=>Pf n w X m k;have I:∀(v0 v1 v2:A3) (w:AD),(part e #[v0,v1,v2] 0).run P w= .ok v0 w:=fun _ _ _ w=>F4 w (B w) _ _ rfl
 have J:∀(v0 v1 v2:A3) (w:AD),(part e #[v0,v1,v2] 1).run P w= .ok v1 w:=fun _ _ _ w=>F4 w (B w) _ _ rfl;have O:∀(v0 v1 v2:A3) (w:AD),(part e #[v0,v1,v2] 2).run P w= .ok v2 w:=fun _ _ _ w=>F4 w (B w) _ _ rfl
 rw [show n+2=(n+1)+1 from rfl,Op.equalIn];generalize n+1=m at*;simp only [Sem.run_bind,run_underlying hu,Result.andThen_ok,Z];simp only [rn,Std.Legacy.Range.size,SU,R0,Nat.div_one,my,List.range'_zero,kA,nd];simp only [Sem.run_bind,I,J,O,G,Result.andThen_ok,DM,Mz,nq,eL,V3.eq_iff];by_cases U:x.a=y.a<;>by_cases h2:x.b=y.b<;>by_cases W:x.c=y.c<;>simp [U,h2,W,I,J,O,G]
theorem Js{t:AK}(p q:AH):binOp .eql t (.agg p) (.agg q)=(do pure (.bool (<-Op.equal t (.agg p) (.agg q)))):=rfl
theorem Mc{t:AK}(p q:AH):binOp .neq t (.agg p) (.agg q)=(do pure (.bool (!(<-Op.equal t (.agg p) (.agg q))))):=rfl
section
variable{t yt e:AK}{x y:Operand}{p q:V3}
theorem Ky(G:P.eqGuardType P.depth t=false)(J:P.underlying t=some (.array 3 e))(B:P.underlying e=some (.int .i64))(m:∀w:AD,(isAgg e).run P w= .ok false w)(I:∀w:AD,(Go.sizeOf e).run P w= .ok 1 w)
 (hx:∀a,ev a env x= .agg #[I4 p.a,I4 p.b,I4 p.c])(hy:∀a,ev a env y= .agg #[I4 q.a,I4 q.b,I4 q.c]):OpP P ⟨d,.binOp .eql t x y yt,ty,pos,af,g⟩ env [] (.bool (decide (p=q))):=fun a w _=>by
 simp [Cc,hx a,hy a,go_sem,run_eqGuard_agg w _ t _ _ _ _ G,Js,Op.equal,Op.maxDepth,Rp w 9998 p q J B m I]
theorem Kw(G:P.eqGuardType P.depth t=false)(J:P.underlying t=some (.array 3 e))(B:P.underlying e=some (.int .i64))(m:∀w:AD,(isAgg e).run P w= .ok false w)(I:∀w:AD,(Go.sizeOf e).run P w= .ok 1 w)
 (hx:∀a,ev a env x= .agg #[I4 p.a,I4 p.b,I4 p.c])(hy:∀a,ev a env y= .agg #[I4 q.a,I4 q.b,I4 q.c]):OpP P ⟨d,.binOp .neq t x y yt,ty,pos,af,g⟩ env [] (.bool (decide (p≠q))):=fun a w _=>by
 simp [Cc,hx a,hy a,go_sem,run_eqGuard_agg w _ t _ _ _ _ G,Mc,Op.equal,Op.maxDepth,Rp w 9998 p q J B m I]
theorem Ib(G:P.eqGuardType P.depth t=false)(J:P.underlying t=some (.array 3 e))(B:P.underlying e=some (.int .i64))(m:∀w:AD,(isAgg e).run P w= .ok false w)(I:∀w:AD,(Go.sizeOf e).run P w= .ok 1 w)
 (hx:∀a,ev a env x= .agg #[I4 p.a,I4 p.b,I4 p.c])(hy:∀a,ev a env y= .agg #[I4 0,I4 0,I4 0]):OpP P ⟨d,.binOp .eql t x y yt,ty,pos,af,g⟩ env [] (.bool (decide (p=V3.zero))):=Ky (q:=V3.zero) G J B m I hx hy
theorem A10(G:P.eqGuardType P.depth t=false)(J:P.underlying t=some (.array 3 e))(B:P.underlying e=some (.int .i64))(m:∀w:AD,(isAgg e).run P w= .ok false w)(I:∀w:AD,(Go.sizeOf e).run P w= .ok 1 w)
 (hx:∀a,ev a env x= .agg #[I4 p.a,I4 p.b,I4 p.c])(hy:∀a,ev a env y= .agg #[I4 0,I4 0,I4 0]):OpP P ⟨d,.binOp .neq t x y yt,ty,pos,af,g⟩ env [] (.bool (decide (p≠V3.zero))):=Kw (q:=V3.zero) G J B m I hx hy
end
end
def V3.get(v:V3)(i:Nat):Int:=if i=0 then v.a else if i=1 then v.b else v.c
theorem vq(x y:A3)(v:V3)(i:Nat)(h:i<3):(#[x,y,Value.int .i64 v.a,I4 v.b,I4 v.c]:AH)[2+i]?=some (I4 (v.get i)):=by
 rcases i with _|_|_|i
 · rfl
 · rfl
 · rfl
 · omega
def inV(n:Int):Prop:=-1000000000<=n/\n<=1000000000
instance(n:Int):Decidable (inV n):=inferInstanceAs(Decidable (_/\_))
def V3.ok(v:V3):Prop:=inV v.a/\inV v.b/\inV v.c
instance(v:V3):Decidable v.ok:=inferInstanceAs(Decidable (_/\_/\_))
theorem qG{v:V3}:v.ok↔∀i,i<3->inV (v.get i):=by
 constructor
 · rintro ⟨m,h2,B⟩ i hi
   rcases i with _|_|_|i
   · exact m
   · exact h2
   · exact B
   · omega
 · intro h;exact ⟨h 0 A1,h 1 A1,h 2 A1⟩
theorem xI{v:V3}{i:Nat}(h:∀j,j<i->inV (v.get j))(hi:inV (v.get i)):∀j,j<i+1->inV (v.get j):=by
 intro j m;rcases E4 j i with h9|h9
 · exact h j h9
 · have e:j=i:=by omega
   rw [e];exact hi
structure Ef where
 i:Nat
 o:Oper
 v:A3
 C:List A9
 k:Bool
def lay(p:Ef->Bool):List Ef->Act->Act
 |[],a=>a
 |e::l,a=>lay p l (if p e then a.put e.o.dst e.v else a)
def tv(p:Ef->Bool)(t:Nat):List Ef->Option A3->Option A3
 |[],d=>d
 |e::l,d=>tv p t l (if p e=true/\e.o.dst=some t then some e.v else d)
theorem D5(p:Ef->Bool):∀(l:List Ef) (a:Act),(lay p l a).tmps.size=a.tmps.size
 |[],_=>rfl
 |e::l,a=>by simp only [lay];rw [D5 p l];split<;>simp [EJ]
theorem FK(p:Ef->Bool):∀(l:List Ef) (a:Act),(lay p l a).defers=a.defers
 |[],_=>rfl
 |e::l,a=>by simp only [lay];rw [FK p l];split<;>simp [Ji]
theorem EH(p:Ef->Bool)(t:Nat):∀(l:List Ef) (a:Act),t<a.tmps.size->(lay p l a).tmps[t]?=tv p t l a.tmps[t]?
 |[],_,_=>rfl
 |e::l,a,ht=>by
  simp only [lay,tv];rw [EH p t l _ (by split<;>simpa [EJ]using ht)];congr 1;by_cases m:p e=true;· simp only [m,Hj,W6];rw [J6 _ _ _ _ ht]
  · simp [m]
theorem Ez(p q:Ef->Bool)(t:Nat):∀(l:List Ef) (d:Option A3),(∀e∈l,e.o.dst=some t->p e=q e)->tv p t l d=tv q t l d
 |[],_,_=>rfl
 |e::l,d,h=>by
  simp only [tv];have h0:(if p e=true/\e.o.dst=some t then some e.v else d)=(if q e=true/\e.o.dst=some t then some e.v else d):=by
   by_cases m:e.o.dst=some t
   · rw [h e (EV ..) m]
   · simp [m]
  rw [h0];exact Ez p q t l _ fun e' B=>h e' (FA _ B)
theorem X9(p:Ef->Bool)(t:Nat):∀(l:List Ef) (d:Option A3),(∀e∈l,e.o.dst=some t->p e=false)->tv p t l d=d
 |[],_,_=>rfl
 |e::l,d,h=>by
  simp only [tv];rw [An (fun m=>by rw [h e (EV ..) m.2]at m;cases m.1)];exact X9 p t l d fun e' B=>h e' (FA _ B)
theorem Q4(p:Ef->Bool)(t:Nat):∀(l m:List Ef) (d:Option A3),tv p t (l++m) d=tv p t m (tv p t l d)
 |[],_,_=>rfl
 |e::l,m,d=>by simp only [RM,tv];exact Q4 p t l m _
theorem O1(p:Ef->Bool):∀(l m:List Ef) (a:Act),lay p (l++m) a=lay p m (lay p l a)
 |[],_,_=>rfl
 |e::l,m,a=>by simp only [RM,lay];exact O1 p l m _
def y6(A:List Nat)(o:Oper):Nat:=o.after.toList.foldl (fun m e=>if Region.binds .any e then m|||(1<<<e.on)|||A.getD e.on 0 else m) 0
def Tn(ops:Array Oper)(A:List Nat)(N:Nat):Bool:=
 decide (A.length=ops.size)&&
 (List.range ops.size).all fun j=>match ops[j]?with
   |none=>false
   |some oj=>
    (y6 A oj==A.getD j 0)&&
    (oj.after.toList.all fun e=>!Region.binds .any e||decide (e.on<j))&&
    ((List.range j).all fun i=>match ops[i]?with
      |none=>false
      |some oi=>oi.apart ops oj||(A.getD j 0).testBit i)&&
    Dy oj.op&&(match oj.op with| .select ..=>false|_=>true)&&fits N oj.dst
structure Iu(ops:Array Oper)(A:List Nat)(N:Nat):Prop where
 len:A.length=ops.size
 edge:∀j oj e,ops[j]?=some oj->e∈oj.after->Region.binds .any e=true->e.on<j
 anc:∀j oj i,ops[j]?=some oj->(A.getD j 0).testBit i=true->∃e∈oj.after,Region.binds .any e=true/\(e.on=i\/(A.getD e.on 0).testBit i=true)
 apart:∀i j oi oj,ops[i]?=some oi->ops[j]?=some oj->i<j->oi.apart ops oj=true\/(A.getD j 0).testBit i=true
 nod:∀(j:Nat) (oj:Oper),ops[j]?=some oj->Dy oj.op=true
 sel:∀(j:Nat) (oj:Oper) (cs:Array SelectCase) (b:Bool),ops[j]?=some oj->oj.op≠ .select cs b
 room:∀(j:Nat) (oj:Oper) (d:Nat),ops[j]?=some oj->oj.dst=some d->d<N
theorem We{A:List Nat}{i:Nat}:∀(l:List Edge) (m:Nat),(l.foldl (fun m e=>if Region.binds .any e then m|||(1<<<e.on)|||A.getD e.on 0 else m) m).testBit i=true->m.testBit i=true\/∃e∈l,Region.binds .any e=true/\(e.on=i\/(A.getD e.on 0).testBit i=true)
 |[],m,h=> .inl h
 |e::l,m,h=>by
  simp only [V1]at h;rcases We l _ h with h1|⟨e',he,h2⟩
  · by_cases B:Region.binds .any e=true
    · rw [Ax B,q5,q5]at h1
      simp only [SP]at h1;rcases h1 with(h1|h1)|h1
      · exact .inl h1
      · refine .inr ⟨e,EV ..,B,.inl ?_⟩
        rw [Nat.one_shiftLeft,Nat.testBit_two_pow]at h1;simpa using h1
      · exact .inr ⟨e,EV ..,B,.inr h1⟩
    · rw [An B]at h1;exact .inl h1
  · exact .inr ⟨e',FA _ he,h2⟩
theorem gN{ops:Array Oper}{A:List Nat}{N:Nat}(h:Tn ops A N=true):Iu ops A N:=by
 simp only [Tn,Ft,G3,NO,LL]at h;obtain ⟨h0,h⟩:=h;have B:∀{j:Nat} {o:Oper},ops[j]?=some o->j<ops.size:=fun m=>(HU.1 m).1
 refine ⟨h0,fun j oj e m I G=>?_,fun j oj i m G=>?_,fun i j W oj hi m J=>?_,fun j oj m=>?_,fun j oj cs b m U=>?_,fun j oj d m O=>?_⟩
 · have:=h j (B m)
   simp only [m,Ft,NO]at this;have:=this.1.1.1.1.2 e (by simpa using I)
   simpa [G]using this
 · have:=h j (B m)
   simp only [m,Ft]at this;have:=this.1.1.1.1.1
   simp only [beq_iff_eq]at this;rw [<-this]at G;rcases We _ _ G with h1|⟨e,I,h1⟩
   · simp at h1
   · exact ⟨e,by simpa using I,h1⟩
 · have:=h j (B m)
   simp only [m,Ft,NO,LL]at this;have:=this.1.1.1.2 i J
   simp only [hi,SP]at this;exact this
 · have:=h j (B m)
   simp only [m,Ft]at this;exact this.1.1.2
 · have:=h j (B m)
   simp only [m,Ft]at this;rw [U]at this;simp at this
 · have:=h j (B m)
   simp only [m,Ft]at this;exact Ro this.2 d O
def jG(ops:Array Oper)(L:Array Bool):Prop:=∀j oj,ops[j]?=some oj->L.getD j false=true->∀e∈oj.after,Region.binds .any e=true->L.getD e.on false=true
theorem Fu{ops:Array Oper}{A:List Nat}{N:Nat}(F:Iu ops A N){L:Array Bool}(hL:jG ops L):∀(j i:Nat) (oj:Oper),ops[j]?=some oj->(A.getD j 0).testBit i=true->
 (∀e∈oj.after,Region.binds .any e=true->L.getD e.on false=true)->L.getD i false=true:=by
 intro j;induction j using Nat.strongRecOn with
 |ind j ih=>
  intro i oj W hb Z;obtain ⟨e,O,m,B⟩:=F.anc j oj i W hb;rcases B with rfl|B
  · exact Z e O m
  · have X:=F.edge j oj e W O m
    obtain ⟨I,G⟩:∃I,ops[e.on]?=some I:=⟨_,HQ (by have:=(HU.1 W).1;omega)⟩;exact ih e.on X i I G B (fun e' U J=>hL e.on I G (Z e O m) e' U J)
theorem LH{ops:Array Oper}{o:Oper}{a b:Act}(h:∀t∈o.looksAt ops,a.tmps[t]?=b.tmps[t]?):∀x∈o.op.operands,a.eval x=b.eval x:=by
 intro x hx;cases x with
 |tmp t=>
  have m:t∈o.looksAt ops:=E7 _ (ar.2 ⟨.tmp t,by simpa using hx,rfl⟩);have:=h t m
  simp only [Act.eval,Lw,this]
 |_=>rfl
def bit(m i:Nat):Bool:=Nat.testBit m i
def Ey(m n:Nat):Bool:=Nat.beq (Nat.land m n) m
theorem Ry{m n i:Nat}(h:Ey m n=true)(B:m.testBit i=true):n.testBit i=true:=by
 have G:m&&&n=m:=ox h;rw [<-G,n5]at B;simp only [Ft]at B;exact B.2
def rj(P:Program)(ops:Array Oper)(o:Oper)(env:Env)(C:List A9)(v:A3):Prop:=((∀a,wantedE ops a env o.guard=true)/\OpP P o env C v)\/((∀a,wantedE ops a env o.guard=false)/\v=undef/\C=[])
theorem Gq{ops:Array Oper}{o:Oper}{a b:Act}(h:∀t∈o.looksAt ops,a.tmps[t]?=b.tmps[t]?):Region.wanted o (yielded ops a.tmps)=Region.wanted o (yielded ops b.tmps):=by
 unfold Region.wanted;cases hg:o.guard with
 |none=>rfl
 |some gw=>
  obtain ⟨g,m⟩:=gw;simp only [yielded];cases ht:(ops[g]?).bind (·.dst)with
  |none=>rfl
  |some t=>
   have:=h t (by unfold Oper.looksAt;rw [hg];simp only [Bm];right;rw [ht];simp);simp only [KK,this]
section
variable(P:Program)(ops:Array Oper)(A:List Nat)(F:Nat)(cx:Cx)(Q:Exit->Act->AD->Prop)
def L8(D:Nat):List Nat:=(List.range ops.size).filter fun f=>bit F f&&!bit D f&&Ey (A.getD f 0) D
def o7(D:Nat):Bool:=(List.range ops.size).all fun i=>bit F i||bit D i||!Ey (Nat.land (A.getD i 0) F) D
def Lin:Nat->Nat->List (Nat×A9)->Env->Hp->Prop
 |0,_,_,env,H=>Nx cx (Q .normal) env H
 |n+1,D,T,env,H=>
  (∃i o v C,ops[i]?=some o/\bit D i=false/\Ey (A.getD i 0) D=true/\(∀c∈C,c∈H.flatten)/\rj P ops o env C v/\Lin n (D|||(1<<<i)) (C.map (fun c=>(i,c))++T) (putE o.dst v env) H)\/
  (o7 ops A F D=true/\∀f∈L8 ops A F D,∃o T',ops[f]?=some o/\(∀a,wantedE ops a env o.guard=true)/\(∀p∈T,bit (A.getD f 0) p.1=true\/p∈T')/\
    OpW P cx.u o env H (fun v H'=>(∀p∈T',p.2∈H'.flatten)/\Lin n (D|||(1<<<f)) T' (putE o.dst v env) H') (fun ch H'=>∀env,Nx cx (Q (.panic ch)) env H'))
end
section
variable{P:Program}{ops:Array Oper}{A:List Nat}{F:Nat}{N:Nat}{cx:Cx}{Q:Exit->Act->AD->Prop}{a0:Act}{env0:Env}
def Fg(env0:Env):List Ef->Env
 |[]=>env0
 |e::x=>Fg (putE e.o.dst e.v env0) x
theorem LK:∀(x y:List Ef) (env0:Env),Fg env0 (x++y)=Fg (Fg env0 x) y
 |[],_,_=>rfl
 |e::x,y,env0=>by simp only [RM,Fg];exact LK x y _
theorem Hw(a0:Act):∀(x:List Ef) (env0:Env),puts (Fg env0 x) a0=lay (fun _=>true) x (puts env0 a0)
 |[],_=>rfl
 |e::x,env0=>by simp only [Fg,lay,Hj];rw [Hw a0 x,QJ]
structure Ju(P:Program)(ops:Array Oper)(A:List Nat)(F:Nat)(cx:Cx)(Q:Exit->Act->AD->Prop)(a0:Act)(env0:Env)(L:Array Bool)(a:Act)(w:AD)(x:List Ef)(D:Nat)(T:List (Nat×A9))(H:Hp):Prop where
 size:L.size=ops.size
 shut:jG ops L
 act:a=lay (fun e=>L.getD e.i false) x (puts env0 a0)
 sat:Sat cx.u H w
 mask:∀i,bit D i=true↔∃e∈x,e.i=i
 nodup:(x.map (·.i)).Nodup
 isop:∀e∈x,ops[e.i]?=some e.o
 listed:∀i,L.getD i false=true->bit D i=true
 effs:∀e∈x,e.k=true->L.getD e.i false=true
 order:∀x1 e x2,x=x1++e::x2->∀i,(A.getD e.i 0).testBit i=true->∃e'∈x1,e'.i=i
 pend:∀x1 e x2,x=x1++e::x2->e.k=false->rj P ops e.o (Fg env0 x1) e.C e.v
 reads:∀e∈x,L.getD e.i false=false->∀c∈e.C,(e.i,c)∈T/\c∈H.flatten
 fit:Fit cx.N (Fg env0 x)
 walk:Lin P ops A F cx Q (ops.size -x.length) D T (Fg env0 x) H
theorem UN(D i j:Nat):bit (D|||(1<<<i)) j=true↔bit D j=true\/i=j:=by
 unfold bit;rw [q5,SP,Nat.one_shiftLeft,Nat.testBit_two_pow];simp
theorem jJ(Z:Iu ops A N){L:Array Bool}{a:Act}{w:AD}{x:List Ef}{D:Nat}{T:List (Nat×A9)}{H:Hp}(h:Ju P ops A F cx Q a0 env0 L a w x D T H)
 {W X:List Ef}{e:Ef}(hx:x=W++e::X)(bn:L.getD e.i false=false)(O:∀g∈e.o.after,Region.binds .any g=true->L.getD g.on false=true)
 {t:Nat}(B:t∈e.o.looksAt ops\/e.o.dst=some t):(∀k∈W,k.o.dst=some t->L.getD k.i false=true)/\(∀k∈X,k.o.dst=some t->L.getD k.i false=false):=by
 have he:ops[e.i]?=some e.o:=h.isop e (by rw [hx];simp);have J:∀k,k∈W\/k∈X->k.i≠e.i:=fun k hk hh=>by
  have hn:=h.nodup;rw [hx,C2,Ek,HA]at hn;obtain ⟨h1,h2,h3⟩:=hn;rcases hk with hk|hk
  · exact h3 k.i (DS hk) e.i (EV ..) hh
  · rw [Hc]at h2
    exact h2.1 (hh▸DS hk)
 have ord:∀k:Ef,ops[k.i]?=some k.o->k.i≠e.i->k.o.dst=some t->(A.getD e.i 0).testBit k.i=true\/(A.getD k.i 0).testBit e.i=true:=by
  intro k hk ax G;rcases Nat.lt_or_gt_of_ne ax with hlt|hlt
  · rcases Z.apart k.i e.i k.o e.o hk he hlt with hap|hb
    · exfalso
      obtain ⟨h1,h2,h3⟩:=Oper.apart_spec hap;rcases B with B|B
      · exact h1 t G B
      · exact h2 t G B
    · exact .inl hb
  · rcases Z.apart e.i k.i e.o k.o he hk hlt with hap|hb
    · exfalso
      obtain ⟨h1,h2,h3⟩:=Oper.apart_spec hap;rcases B with B|B
      · exact h3 t G B
      · exact h2 t B G
    · exact .inr hb
 refine ⟨fun k hk G=>?_,fun k hk G=>?_⟩
 · have m:=h.isop k (by rw [hx];simp [hk])
   rcases ord k m (J k (.inl hk)) G with hb|hb
   · exact Fu Z h.shut e.i k.i e.o he hb O
   · exfalso
     obtain ⟨y1,y2,hy⟩:=cT hk;obtain ⟨e',I,hi⟩:=h.order y1 k (y2++e::X) (by rw [hx,hy];simp) e.i hb;have U:e'∈W:=by rw [hy];simp [I]
     exact J e' (.inl U) hi
 · have m:=h.isop k (by rw [hx];simp [hk])
   rcases ord k m (J k (.inr hk)) G with hb|hb
   · exfalso
     obtain ⟨e',I,hi⟩:=h.order W e X hx k.i hb;have hn:=h.nodup
     rw [hx,C2,Ek,HA]at hn;exact hn.2.2 e'.i (DS I) k.i (FA _ (DS hk)) hi
   · cases hl:L.getD k.i false with
     |false=>rfl
     |true=>
      have:=Fu Z h.shut k.i e.i k.o m hb (fun g hg af=>h.shut k.i k.o m hl g hg af);rw [bn]at this;cases this
theorem gL(W:Iu ops A N){L:Array Bool}{a:Act}{w:AD}{x:List Ef}{D:Nat}{T:List (Nat×A9)}{H:Hp}(h:Ju P ops A F cx Q a0 env0 L a w x D T H)
 {J U:List Ef}{e:Ef}(hx:x=J++e::U)(G:L.getD e.i false=false)(B:∀g∈e.o.after,Region.binds .any g=true->L.getD g.on false=true):
 ∀t∈e.o.looksAt ops,a.tmps[t]?=(puts (Fg env0 J) a0).tmps[t]?:=by
 intro t Z;have O:=jJ W h hx G B (.inl Z)
 have X:a.tmps.size=(puts env0 a0).tmps.size:=by rw [h.act,D5]
 by_cases m:t<(puts env0 a0).tmps.size
 · rw [h.act,Hw,EH _ _ _ _ m,EH _ _ _ _ m,hx,Q4]
   rw [X9 _ t (e::U) _ (fun k hk I=>by
    rcases DB.1 hk with rfl|hk
    · exact G
    · exact O.2 k hk I)]
   exact Ez _ _ t J _ fun k hk I=>by rw [O.1 k hk I]
 · rw [IF (by rw [X];exact ff m),IF (by rw [Hw,D5];exact ff m)]
theorem Ee(L:Array Bool)(j i:Nat)(m:j<L.size):(L.setIfInBounds j true).getD i false=if i=j then true else L.getD i false:=by
 by_cases e:i=j
 · subst e;simp [m]
 · rw [getD_set_ne false (eM e),An e]
theorem yE(FT:Iu ops A N){L:Array Bool}{a:Act}{w:AD}{x:List Ef}{D:Nat}{T:List (Nat×A9)}{H:Hp}(h:Ju P ops A F cx Q a0 env0 L a w x D T H)
 {x1 x2:List Ef}{e:Ef}(hx:x=x1++e::x2)(X:L.getD e.i false=false)(I:∀g∈e.o.after,Region.binds .any g=true->L.getD g.on false=true):
 a.put e.o.dst e.v=lay (fun k=>(L.setIfInBounds e.i true).getD k.i false) x (puts env0 a0):=by
 have Z:ops[e.i]?=some e.o:=h.isop e (by rw [hx];simp);have W:e.i<L.size:=by rw [h.size];exact (HU.1 Z).1
 refine JC (by rw [EJ,D5,h.act,D5]) (by rw [Ji,FK,h.act,FK]) fun t O=>?_;rw [EJ]at O;have J:t<(puts env0 a0).tmps.size:=by rw [h.act,D5]at O;exact O
 rw [J6 _ _ _ _ O,EH _ _ _ _ J];by_cases G:e.o.dst=some t
 · rw [Ax G]
   have hw:=jJ FT h hx X I (.inr G);rw [hx,Q4];simp only [tv];rw [Ax ⟨by rw [Ee _ _ _ W,Ax rfl],G⟩];rw [X9];intro k hk B;have m:k.i≠e.i:=fun U=>by
    have hn:=h.nodup;rw [hx,C2,Ek,HA,Hc]at hn;exact hn.2.1.1 (U▸DS hk)
   rw [Ee _ _ _ W,An m];exact hw.2 k hk B
 · rw [An G,h.act,EH _ _ _ _ J]
   refine Ez _ _ t x _ fun k hk B=>?_;rw [Ee _ _ _ W];by_cases m:k.i=e.i
   · exfalso
     have:=h.isop k hk;rw [m,Z]at this;obtain U:=SO this;rw [U]at G;exact G B
   · rw [An m]
theorem Yc{L:Array Bool}(U:jG ops L){j:Nat}(O:j<L.size){oj:Oper}(G:ops[j]?=some oj)(m:∀g∈oj.after,Region.binds .any g=true->L.getD g.on false=true):jG ops (L.setIfInBounds j true):=by
 intro k ok hk B g J I;rw [Ee _ _ _ O]at B⊢;by_cases e1:k=j
 · subst e1
   rw [G]at hk;obtain rfl:=SO hk;rw [m g J I];simp
 · rw [An e1]at B
   rw [U k ok hk B g J I];simp
theorem uE(FT:Iu ops A cx.N){L:Array Bool}{a:Act}{w:AD}{j:Nat}{oj:Oper}(ax:ops[j]?=some oj)(l8:L.getD j false=false)(cu:∀g∈oj.after,Region.binds .any g=true->L.getD g.on false=true):
 ∀(n:Nat) (x:List Ef) (D:Nat) (T:List (Nat×A9)) (H:Hp),ops.size -x.length=n->Ju P ops A F cx Q a0 env0 L a w x D T H->
  (∃x' D' T',Ju P ops A F cx Q a0 env0 L a w x' D' T' H/\bit D' j=true)\/
  (∃x' D' T',Ju P ops A F cx Q a0 env0 L a w x' D' T' H/\j∈L8 ops A F D'/\o7 ops A F D'=true/\∃m,ops.size -x'.length=m+1/\∃o af,ops[j]?=some o/\(∀a,wantedE ops a (Fg env0 x') o.guard=true)/\(∀p∈T',bit (A.getD j 0) p.1=true\/p∈af)/\
    OpW P cx.u o (Fg env0 x') H (fun v H'=>(∀p∈af,p.2∈H'.flatten)/\Lin P ops A F cx Q m (D'|||(1<<<j)) af (putE o.dst v (Fg env0 x')) H') (fun ch H'=>∀env,Nx cx (Q (.panic ch)) env H')):=by
 intro n;induction n with
 |zero=>
  intro x D T H hn h;left;refine ⟨x,D,T,h,?_⟩;have J:j<ops.size:=(HU.1 ax).1
  have Z:ops.size<=(x.map (·.i)).length:=by rw [B8];omega
  have gm:∀i∈x.map (·.i),i<ops.size:=fun i hi=>by
   obtain ⟨e,B,rfl⟩:=C3.1 hi;exact (HU.1 (h.isop e B)).1
  have:j∈x.map (·.i):=by
   apply an;intro ic;have gy:=rr (l₁:=j::x.map (·.i)) (l₂:=List.range ops.size) (Hc.2 ⟨ic,h.nodup⟩) (fun i hi=>by
    rcases DB.1 hi with rfl|hi
    · exact LL.2 J
    · exact LL.2 (gm i hi))
   simp only [Dd,B8,cU]at gy;omega
  obtain ⟨e,B,hi⟩:=C3.1 this;exact (h.mask j).2 ⟨e,B,hi⟩
 |succ n ih=>
  intro x D T H hn h;by_cases hD:bit D j=true;· exact .inl ⟨x,D,T,h,hD⟩
  · have hw:=h.walk
    rw [hn]at hw;simp only [Lin]at hw;rcases hw with⟨i,o,v,C,ho,d9,kv,hC,j3,hk⟩|⟨hfull,hk⟩
    ·
     have ek:∀e∈x,e.i≠i:=fun e B hh=>by
      have:=(h.mask i).2 ⟨e,B,hh⟩;rw [d9]at this;cases this
     have gq:L.getD i false=false:=by
      cases hl:L.getD i false with
      |false=>rfl
      |true=>have:=h.listed i hl;rw [d9]at this;cases this
     have cO:lay (fun e=>L.getD e.i false) (x++[⟨i,o,v,C,false⟩]) (puts env0 a0)=a:=by
      rw [O1,<-h.act];simp only [lay,gq];rfl
     have I:∀(s1:List Ef) (e:Ef) (s2:List Ef),x++[⟨i,o,v,C,false⟩]=s1++e::s2->(∃O,s2=O++[⟨i,o,v,C,false⟩]/\x=s1++e::O)\/(s2=[]/\e=⟨i,o,v,C,false⟩/\s1=x):=by
      intro s1 e s2 hs;rcases j7 s2 with rfl|⟨O,z,rfl⟩
      · right
        have:=jx hs rfl;exact ⟨V,(by simpa using this.2.symm),this.1.symm⟩
      · left
        have j5:x++[⟨i,o,v,C,false⟩]=(s1++e::O)++[z]:=by rw [hs];simp
        have:=jx j5 rfl;have hz:z=⟨i,o,v,C,false⟩:=by simpa using this.2.symm
        exact ⟨O,by rw [hz];simp,this.1⟩
     have X:Fg env0 (x++[⟨i,o,v,C,false⟩])=putE o.dst v (Fg env0 x):=by rw [LK];rfl
     refine ih (x++[⟨i,o,v,C,false⟩]) (D|||(1<<<i)) (C.map (fun c=>(i,c))++T) H I2 ⟨h.size,h.shut,cO.symm,h.sat,fun k=>?_,?_,fun e B=>?_,fun k hk=>?_,fun k hk hf=>?_,fun s1 e s2 hs k W=>?_,fun s1 e s2 hs hf=>?_,fun e B hl c hc=>?_,?_,?_⟩
     · rw [UN,h.mask k]
       constructor
       · rintro (⟨e,B,hi⟩|rfl)
         · exact ⟨e,by simp [B],hi⟩
         · exact ⟨⟨i,o,v,C,false⟩,by simp,rfl⟩
       · rintro ⟨e,B,hi⟩
         rcases Bm.1 B with B|B
         · exact .inl ⟨e,B,hi⟩
         · simp only [C1]at B;subst B;exact .inr hi
     · rw [C2,HA]
       refine ⟨h.nodup,by simp,fun p hp q hq=>?_⟩;simp only [Ek,Kf,C1]at hq;subst hq;obtain ⟨e,B,rfl⟩:=C3.1 hp;exact ek e B
     · rcases Bm.1 B with B|B
       · exact h.isop e B
       · simp only [C1]at B;subst B;exact ho
     · exact (UN _ _ _).2 (.inl (h.listed k hk))
     · rcases Bm.1 hk with hk|hk
       · exact h.effs k hk hf
       · rw [C1.1 hk]at hf;cases hf
     · rcases I s1 e s2 hs with⟨O,_,bn⟩|⟨_,rfl,rfl⟩
       · exact h.order s1 e O bn k W
       · exact (h.mask k).1 (Ry kv W)
     · rcases I s1 e s2 hs with⟨O,_,bn⟩|⟨_,rfl,rfl⟩
       · exact h.pend s1 e O bn hf
       · exact j3
     · rcases Bm.1 B with B|B
       · have:=h.reads e B hl c hc
         exact ⟨GB _ this.1,this.2⟩
       · simp only [C1]at B;subst B
         exact ⟨E7 _ (C3.2 ⟨c,hc,V⟩),hC c hc⟩
     · rw [X];exact h.fit.putE (fun t ht=>FT.room i o t ho ht) v
     · have Z:ops.size -(x++[(⟨i,o,v,C,false⟩:Ef)]).length=n:=by simp;omega
       rw [X,Z];exact hk
    ·
     right;have J:j<ops.size:=(HU.1 ax).1
     have U:∀i,(A.getD j 0).testBit i=true->bit D i=true:=fun i W=>h.listed i (Fu FT h.shut j i oj ax W cu);have l5:Ey (A.getD j 0) D=true:=by
      unfold Ey;have:Nat.land (A.getD j 0) D=A.getD j 0:=by
       apply Nat.eq_of_testBit_eq;intro i;show(A.getD j 0&&&D).testBit i=_
       rw [n5];cases W:(A.getD j 0).testBit i with
       |false=>rfl
       |true=>rw [show D.testBit i=true from U i W];rfl
      rw [this];exact Nat.beq_refl _
     have hF:bit F j=true:=by
      have:=NO.1 hfull j (LL.2 J);simp only [SP,TX]at this;rcases this with(h1|h1)|h1
      · exact h1
      · exact absurd h1 hD
      · exfalso
        have:Ey (Nat.land (A.getD j 0) F) D=true:=by
         unfold Ey;have:Nat.land (Nat.land (A.getD j 0) F) D=Nat.land (A.getD j 0) F:=by
          apply Nat.eq_of_testBit_eq;intro i;show((A.getD j 0&&&F)&&&D).testBit i=(A.getD j 0&&&F).testBit i
          rw [n5 (A.getD j 0&&&F),n5];cases W:(A.getD j 0).testBit i with
          |false=>rfl
          |true=>rw [show D.testBit i=true from U i W];simp
         rw [this];exact Nat.beq_refl _
        rw [this]at h1;cases h1
     have G:j∈L8 ops A F D:=FF.2 ⟨LL.2 J,by rw [hF,l5];simp only [pT]at hD;rw [hD];rfl⟩;exact ⟨x,D,T,h,G,hfull,n,hn,hk j G⟩
theorem VD{r:Option Nat}{i:Nat}{o:Oper}{a:Act}{w:AD}{K:Act->AD->Prop}(hi:ops[i]?=some o)(m:Region.wanted o (yielded ops a.tmps)=true)(h:o.wpIn (Fx r) 0 P a w K Q):wpOpIn (Fx r) 0 P ops Q i K a w:=by
 unfold wpOpIn;simp only [hi];rw [Ax m];exact h
theorem kg{r:Option Nat}{i:Nat}{o:Oper}{a:Act}{w:AD}{K:Act->AD->Prop}(hi:ops[i]?=some o)(m:Region.wanted o (yielded ops a.tmps)=false)(h:K (a.put o.dst undef) w):wpOpIn (Fx r) 0 P ops Q i K a w:=by
 unfold wpOpIn;simp only [hi];rw [An (by rw [m];simp)];exact ⟨fun _ _=>trivial,h⟩
theorem Xf(hN:a0.tmps.size=cx.N)(hD:a0.defers=cx.D)(pq:Fit cx.N env0)(FT:Iu ops A cx.N):∀(W:Nat) (L:Array Bool) (a:Act) (w:AD) (x:List Ef) (D:Nat) (T:List (Nat×A9)) (H:Hp),
 ((List.range ops.size).countP fun i=>!L.getD i false)<=W->Ju P ops A F cx Q a0 env0 L a w x D T H->wpAnyIn (Fx cx.r) 0 P .any ops Q W L a w:=by
 have j3:∀(L:Array Bool),L.size=ops.size->Region.ready .any ops L=[]->∀j,j<ops.size->L.getD j false=true:=by
  intro L qo hr j;induction j using Nat.strongRecOn with
  |ind j ih=>
   intro hj;cases hl:L.getD j false with
   |true=>rfl
   |false=>
    obtain ⟨oj,B⟩:∃oj,ops[j]?=some oj:=⟨_,HQ hj⟩;have:j∈Region.ready .any ops L:=mem_ready.2 ⟨by
     rw [Lw,HQ (by rw [qo];exact hj)]at hl⊢;simpa using hl,oj,B,fun e I Z=>by
      have:=FT.edge j oj e B I Z;exact ih e.on this A1⟩
    rw [hr]at this;cases this
 have ic:∀(L:Array Bool) (a:Act) (w:AD) (x:List Ef) (D:Nat) (T:List (Nat×A9)) (H:Hp),Ju P ops A F cx Q a0 env0 L a w x D T H->Region.ready .any ops L=[]->Q .normal a w:=by
  intro L a w x D T H h hr;have J:=j3 L h.size hr
  have qz:ops.size<=x.length:=by
   have qa:=rr (l₁:=List.range ops.size) (l₂:=x.map (·.i)) jz (fun i hi=>by
    obtain ⟨e,I,q9⟩:=(h.mask i).1 (h.listed i (J i (LL.1 hi)));exact C3.2 ⟨e,I,q9⟩)
   simpa using qa
  have hw:=h.walk;rw [show ops.size -x.length=0 by omega]at hw;simp only [Lin]at hw;have ha:a=puts (Fg env0 x) a0:=by
   rw [h.act,Hw];refine JC (by rw [D5,D5]) (by rw [FK,FK]) fun t ht=>?_;rw [D5]at ht;rw [EH _ _ _ _ ht,EH _ _ _ _ ht];exact Ez _ _ t x _ fun e I _=>J e.i (HU.1 (h.isop e I)).1
  rw [ha];exact hw a0 w ⟨hN,hD,h.fit,h.sat⟩
 intro W;induction W with
 |zero=>
  intro L a w x D T H hc h;have hr:Region.ready .any ops L=[]:=by
   cases hr:Region.ready .any ops L with
   |nil=>rfl
   |cons j js=>
    have hj:j∈Region.ready .any ops L:=by rw [hr];exact EV ..
    obtain ⟨ax,oj,B,_⟩:=mem_ready.1 hj;have cu:j<ops.size:=(HU.1 B).1
    have X:L.getD j false=false:=by
     rw [Lw]at ax⊢;rw [HQ (by rw [h.size];exact cu)]at ax⊢;simpa using ax
    have:0<(List.range ops.size).countP fun i=>!L.getD i false:=List.countP_pos_iff.2 ⟨j,LL.2 cu,by rw [X];rfl⟩;omega
  exact ⟨hr,ic L a w x D T H h hr⟩
 |succ W ih=>
  intro L a w x D T H hc h;refine ⟨fun hr=>ic L a w x D T H h hr,fun j hj=>?_⟩;obtain ⟨ax,oj,B,J⟩:=mem_ready.1 hj;have cu:j<ops.size:=(HU.1 B).1
  have O:j<L.size:=by rw [h.size];exact cu
  have X:L.getD j false=false:=by
   rw [Lw]at ax⊢;rw [HQ O]at ax⊢;simpa using ax
  have gq:((List.range ops.size).countP fun i=>!(L.setIfInBounds j true).getD i false)<=W:=by
   have cO:((List.range ops.size).countP fun i=>!(L.setIfInBounds j true).getD i false)<(List.range ops.size).countP fun i=>!L.getD i false:=by
    obtain ⟨r1,r2,hr⟩:=cT (LL.2 cu);rw [hr,ml,ml,List.countP_cons,List.countP_cons];have d9:∀l:List Nat,(l.countP fun i=>!(L.setIfInBounds j true).getD i false)<=l.countP fun i=>!L.getD i false:=fun l=>List.countP_mono_left fun i _ hi=>by
     rw [Ee _ _ _ O]at hi;split at hi;· simp at hi
     · exact hi
    have h1:=d9 r1;have h2:=d9 r2
    have e1:(!(L.setIfInBounds j true).getD j false)=false:=by rw [Ee _ _ _ O];simp
    have e2:(!L.getD j false)=true:=by rw [X];rfl
    rw [e1,e2];simp only [Mn,HO,Hj];omega
   omega
  rcases uE FT B X J _ x D T H rfl h with⟨x',D',T',G,l5⟩|⟨x',D',T',G,hnext,hfull,m,hm,o,T'',ho,hwt,hT,hW⟩
  ·
   obtain ⟨e,I,p9⟩:=(G.mask j).1 l5;obtain ⟨x1,x2,hx⟩:=cT I;subst p9;have pg:e.o=oj:=by have:=G.isop e I;rw [B]at this;exact (SO this).symm
   subst pg;have qb:e.k=false:=by
    cases Z:e.k with
    |false=>rfl
    |true=>have:=G.effs e (by rw [hx];simp) Z;rw [X]at this;cases this
   have hP:=G.pend x1 e x2 hx qb;have U:=gL FT G hx X J
   have af:Fit a0.tmps.size (Fg env0 x1):=by
    have:∀(l:List Ef) (E:Env),(∀k∈l,ops[k.i]?=some k.o)->Fit cx.N E->Fit cx.N (Fg E l):=by
     intro l;induction l with
     |nil=>intro E _ h;exact h
     |cons k l ihl=>intro E hk h;exact ihl _ (fun q hq=>hk q (FA _ hq)) (h.putE (fun t ht=>FT.room k.i k.o t (hk k (EV ..)) ht) _)
    rw [hN];exact this x1 env0 (fun k hk=>G.isop k (by rw [hx];simp [hk])) pq
   have pz:wpAnyIn (Fx cx.r) 0 P .any ops Q W (L.setIfInBounds e.i true) (a.put e.o.dst e.v) w->wpOpIn (Fx cx.r) 0 P ops Q e.i (wpAnyIn (Fx cx.r) 0 P .any ops Q W (L.setIfInBounds e.i true)) a w:=fun hz=>by
    rcases hP with⟨hy,hP⟩|⟨hno,hv,_⟩
    · refine VD B (by rw [Gq U,Fw ops e.o a0 _ af];exact hy a0) ⟨fun _ _=>trivial,X7 ?_⟩
      rw [SQ (MI (FT.nod e.i e.o B))];rw [execOp_congr e.o (FT.sel e.i e.o · · B) (LH U),FX a0 _ af];rw [hP a0 w fun c hc=>G.sat.get c (G.reads e I X c hc).2];exact hz
    · refine kg B (by rw [Gq U,Fw ops e.o a0 _ af];exact hno a0) ?_
      rw [<-hv];exact hz
   refine pz ?_;refine ih (L.setIfInBounds e.i true) _ w x' D' T' H gq ⟨by simp [G.size],Yc G.shut O B J,yE FT G hx X J,G.sat,G.mask,G.nodup,G.isop,fun k hk=>?_,fun k hk hf=>?_,G.order,G.pend,fun k hk hl c hc=>?_,G.fit,G.walk⟩
   · rw [Ee _ _ _ O]at hk
     split at hk
     · rename_i e1;subst e1;exact l5
     · exact G.listed k hk
   · rw [Ee _ _ _ O];split
     · rfl
     · exact G.effs k hk hf
   · rw [Ee _ _ _ O]at hl
     split at hl
     · cases hl
     · exact G.reads k hk hl c hc
  ·
   have qj:o=oj:=by rw [B]at ho;exact (SO ho).symm
   subst qj;obtain ⟨qx,o8,qw⟩:bit F j=true/\bit D' j=false/\Ey (A.getD j 0) D'=true:=by
    have:=(FF.1 hnext).2;simp only [Ft,TX]at this;exact ⟨this.1.1,this.1.2,this.2⟩
   have bn:∀e∈x',e.i≠j:=fun e I hh=>by
    have:=(G.mask j).2 ⟨e,I,hh⟩;rw [o8]at this;cases this
   have U:∀t∈o.looksAt ops,a.tmps[t]?=(puts (Fg env0 x') a0).tmps[t]?:=by
    intro t ht;by_cases cO:t<(puts env0 a0).tmps.size
    · rw [G.act,Hw,EH _ _ _ _ cO,EH _ _ _ _ cO]
      refine Ez _ _ t x' _ fun k hk hd=>?_;have l8:=G.isop k hk
      have:(A.getD j 0).testBit k.i=true\/(A.getD k.i 0).testBit j=true:=by
       rcases Nat.lt_or_gt_of_ne (bn k hk)with hl|hl
       · rcases FT.apart k.i j k.o o l8 B hl with hap|Z
         · exact absurd ht ((Oper.apart_spec hap).1 t hd)
         · exact .inl Z
       · rcases FT.apart j k.i o k.o B l8 hl with hap|Z
         · exact absurd ht ((Oper.apart_spec hap).2.2 t hd)
         · exact .inr Z
      rcases this with Z|Z
      · exact Fu FT G.shut j k.i o B Z J
      · exfalso
        obtain ⟨y1,y2,hy⟩:=cT hk;obtain ⟨e',p8,hi⟩:=G.order y1 k y2 hy j Z;exact bn e' (by rw [hy];simp [p8]) hi
    · have hs:a.tmps.size=(puts env0 a0).tmps.size:=by rw [G.act,D5]
      rw [IF (by rw [hs];exact ff cO),IF (by rw [Hw,D5];exact ff cO)]
   refine VD B (by rw [Gq U,Fw ops o a0 _ (by rw [hN];exact G.fit)];exact hwt a0) ⟨fun _ _=>trivial,X7 ?_⟩;rw [SQ (MI (FT.nod j o B))];rw [execOp_congr o (FT.sel j o · · B) (LH U),FX a0 _ (by rw [hN];exact G.fit)];refine hW a0 w G.sat _ _ (fun v H' w' hv ek=>?_) (fun ch H' w' hv ek=>?_)
   · obtain ⟨o9,hk⟩:=hv
     have gy:Fg env0 (x'++[⟨j,o,v,[],true⟩])=putE o.dst v (Fg env0 x'):=by rw [LK];rfl
     have gm:∀(s1:List Ef) (e:Ef) (s2:List Ef),x'++[⟨j,o,v,[],true⟩]=s1++e::s2->(∃s3,s2=s3++[⟨j,o,v,[],true⟩]/\x'=s1++e::s3)\/(s2=[]/\e=⟨j,o,v,[],true⟩/\s1=x'):=by
      intro s1 e s2 hs;rcases j7 s2 with rfl|⟨s3,z,rfl⟩
      · right
        have:=jx hs rfl;exact ⟨V,(by simpa using this.2.symm),this.1.symm⟩
      · left
        have ql:x'++[⟨j,o,v,[],true⟩]=(s1++e::s3)++[z]:=by rw [hs];simp
        have:=jx ql rfl;have hz:z=⟨j,o,v,[],true⟩:=by simpa using this.2.symm
        exact ⟨s3,by rw [hz];simp,this.1⟩
     refine ih (L.setIfInBounds j true) _ w' (x'++[⟨j,o,v,[],true⟩]) (D'|||(1<<<j)) T'' H' gq ⟨by simp [G.size],Yc G.shut O B J,?_,ek,fun k=>?_,?_,fun e I=>?_,fun k hk=>?_,fun k hk hf=>?_,fun s1 e s2 hs k Z=>?_,fun s1 e s2 hs hf=>?_,fun e I hl c hc=>?_,?_,?_⟩;·
      rw [O1];have j5:lay (fun e=>(L.setIfInBounds j true).getD e.i false) x' (puts env0 a0)=a:=by
       rw [G.act];refine JC (by rw [D5,D5]) (by rw [FK,FK]) fun t ht=>?_;rw [D5]at ht;rw [EH _ _ _ _ ht,EH _ _ _ _ ht];exact Ez _ _ t x' _ fun k hk _=>by rw [Ee _ _ _ O,An (bn k hk)]
      rw [j5];simp only [lay];rw [Ax (by rw [Ee _ _ _ O];simp)]
     · rw [UN,G.mask k]
       constructor
       · rintro (⟨e,I,hi⟩|rfl)
         · exact ⟨e,by simp [I],hi⟩
         · exact ⟨⟨j,o,v,[],true⟩,by simp,rfl⟩
       · rintro ⟨e,I,hi⟩
         rcases Bm.1 I with I|I
         · exact .inl ⟨e,I,hi⟩
         · simp only [C1]at I;subst I;exact .inr hi
     · rw [C2,HA]
       refine ⟨G.nodup,by simp,fun p hp q hq=>?_⟩;simp only [Ek,Kf,C1]at hq;subst hq;obtain ⟨e,I,rfl⟩:=C3.1 hp;exact bn e I
     · rcases Bm.1 I with I|I
       · exact G.isop e I
       · simp only [C1]at I;subst I;exact B
     · rw [Ee _ _ _ O]at hk
       split at hk
       · rename_i e1;exact (UN _ _ _).2 (.inr e1.symm)
       · exact (UN _ _ _).2 (.inl (G.listed k hk))
     · rw [Ee _ _ _ O]
       split;· rfl
       · rename_i hne
         rcases Bm.1 hk with hk|hk
         · exact G.effs k hk hf
         · rw [C1.1 hk]at hne;exact absurd rfl hne
     · rcases gm s1 e s2 hs with⟨s3,_,kv⟩|⟨_,rfl,rfl⟩
       · exact G.order s1 e s3 kv k Z
       · exact (G.mask k).1 (Ry qw Z)
     · rcases gm s1 e s2 hs with⟨s3,_,kv⟩|⟨_,rfl,rfl⟩
       · exact G.pend s1 e s3 kv hf
       · cases hf
     · rw [Ee _ _ _ O]at hl
       split at hl
       · cases hl
       · rename_i hne
         rcases Bm.1 I with I|I
         · have hr:=G.reads e I hl c hc
           rcases hT (e.i,c) hr.1 with Z|Z
           · exfalso
             have:=Fu FT G.shut j e.i o B Z J;rw [hl]at this;cases this
           · exact ⟨Z,o9 _ Z⟩
         · simp only [C1]at I;subst I;cases hc
     · rw [gy];exact G.fit.putE (fun t ht=>FT.room j o t B ht) v
     · have l9:ops.size -(x'++[(⟨j,o,v,[],true⟩:Ef)]).length=m:=by simp;omega
       rw [gy,l9];exact hk
   · have hp:=hv (Fg env0 x')
     have ha:∃a1,a=puts (Fg env0 x') a1/\a1.tmps.size=cx.N/\a1.defers=cx.D\/True:=⟨a,.inr trivial⟩;clear ha;have:=hv [] a w' ⟨by rw [G.act,D5,JE];exact hN,by rw [G.act,FK,Fp];exact hD,(by intro q hq;cases hq),ek⟩
     exact this
section
variable{n D:Nat}{T:List (Nat×A9)}{env:Env}{H:Hp}
theorem Ag(h:Nx cx (Q .normal) env H):Lin P ops A F cx Q 0 D T env H:=h
theorem zX{d:Nat}{G:Op}{ty:AK}{pos:String}{af:Array Edge}{v:A3}{D':Nat}(i:Nat)(J:ops[i]?=some ⟨some d,G,ty,pos,af,none⟩)(m:(!bit F i&&!bit D i&&Ey (A.getD i 0) D)=true)(I:D|||(1<<<i)=D')(B:OpP P ⟨some d,G,ty,pos,af,none⟩ env [] v)
 (k:Lin P ops A F cx Q n D' T ((d,v)::env) H):Lin P ops A F cx Q (n+1) D T env H:=by
 simp only [Ft,TX]at m;subst I;exact .inl ⟨i,_,v,[],J,m.1.2,m.2,by simp,.inl ⟨fun _=>rfl,B⟩,k⟩
theorem Dr{d:Nat}{B:Op}{ty:AK}{pos:String}{af:Array Edge}{v:A3}{D':Nat}(i:Nat)(m:OpP P ⟨some d,B,ty,pos,af,none⟩ env [] v)
 (k:Lin P ops A F cx Q n D' T ((d,v)::env) H)(J:ops[i]?=some ⟨some d,B,ty,pos,af,none⟩:=by exact rfl)(G:(!bit F i&&!bit D i&&Ey (A.getD i 0) D)=true:=by exact rfl)(I:D|||(1<<<i)=D':=by exact rfl):Lin P ops A F cx Q (n+1) D T env H:=zX i J G I m k
theorem Ak{d:Nat}{G:Op}{ty:AK}{pos:String}{af:Array Edge}{g:Nat×Bool}{v:A3}{D':Nat}(i:Nat)(J:∀a,wantedE ops a env (some g)=true)(O:ops[i]?=some ⟨some d,G,ty,pos,af,some g⟩)(m:(!bit F i&&!bit D i&&Ey (A.getD i 0) D)=true)(I:D|||(1<<<i)=D')(B:OpP P ⟨some d,G,ty,pos,af,some g⟩ env [] v)
 (k:Lin P ops A F cx Q n D' T ((d,v)::env) H):Lin P ops A F cx Q (n+1) D T env H:=by
 simp only [Ft,TX]at m;subst I;exact .inl ⟨i,_,v,[],O,m.1.2,m.2,by simp,.inl ⟨J,B⟩,k⟩
theorem uD{o:Oper}{D':Nat}(i:Nat)(I:ops[i]?=some o)(G:∀a,wantedE ops a env o.guard=false)(m:(!bit D i&&Ey (A.getD i 0) D)=true)(B:D|||(1<<<i)=D')
 (k:Lin P ops A F cx Q n D' T (putE o.dst undef env) H):Lin P ops A F cx Q (n+1) D T env H:=by
 simp only [Ft,TX]at m;subst B;exact .inl ⟨i,_,undef,[],I,m.1,m.2,by simp,.inr ⟨G,V,V⟩,k⟩
theorem D8{t:Nat}{p:Prop} [I:Decidable p](hv:∀a,G8 a env t= .bool (decide p))(G:p->Lin P ops A F cx Q n D T env H)(B:¬p->Lin P ops A F cx Q n D T env H):Lin P ops A F cx Q n D T env H:=by
 by_cases m:p
 · exact G m
 · exact B m
theorem Ch{t:Nat}{b:Bool}(hv:∀a,G8 a env t= .bool b)(B:b=true->Lin P ops A F cx Q n D T env H)(m:b=false->Lin P ops A F cx Q n D T env H):Lin P ops A F cx Q n D T env H:=by
 cases hb:b;· exact m hb
 · exact B hb
theorem Cz{d:Nat}{G:Op}{ty:AK}{pos:String}{af:Array Edge}{v:A3}{b:Nat}{x:Obj}{D':Nat}(i:Nat)(O:ops[i]?=some ⟨some d,G,ty,pos,af,none⟩)(m:(!bit F i&&!bit D i&&Ey (A.getD i 0) D)=true)(I:D|||(1<<<i)=D')(J:Has b x H)(B:OpP P ⟨some d,G,ty,pos,af,none⟩ env [(b,x)] v)
 (k:Lin P ops A F cx Q n D' ((i,(b,x))::T) ((d,v)::env) H):Lin P ops A F cx Q (n+1) D T env H:=by
 simp only [Ft,TX]at m;subst I;exact .inl ⟨i,_,v,[(b,x)],O,m.1.2,m.2,by simpa using J.mem,.inl ⟨fun _=>rfl,B⟩,k⟩
theorem Bz{d:Nat}{G:Op}{ty:AK}{pos:String}{af:Array Edge}{g:Nat×Bool}{v:A3}{b:Nat}{x:Obj}{D':Nat}(i:Nat)(O:∀a,wantedE ops a env (some g)=true)(U:ops[i]?=some ⟨some d,G,ty,pos,af,some g⟩)(m:(!bit F i&&!bit D i&&Ey (A.getD i 0) D)=true)(I:D|||(1<<<i)=D')(J:Has b x H)(B:OpP P ⟨some d,G,ty,pos,af,some g⟩ env [(b,x)] v)
 (k:Lin P ops A F cx Q n D' ((i,(b,x))::T) ((d,v)::env) H):Lin P ops A F cx Q (n+1) D T env H:=by
 simp only [Ft,TX]at m;subst I;exact .inl ⟨i,_,v,[(b,x)],U,m.1.2,m.2,by simpa using J.mem,.inl ⟨O,B⟩,k⟩
def YL(P:Program)(ops:Array Oper)(A:List Nat)(F:Nat)(cx:Cx)(Q:Exit->Act->AD->Prop)(n D:Nat)(T:List (Nat×A9))(env:Env)(H:Hp):List Nat->Prop
 |[]=>True
 |f::l=>(∃o T',ops[f]?=some o/\(∀a,wantedE ops a env o.guard=true)/\(∀p∈T,bit (A.getD f 0) p.1=true\/p∈T')/\
   OpW P cx.u o env H (fun v H'=>(∀p∈T',p.2∈H'.flatten)/\Lin P ops A F cx Q n (D|||(1<<<f)) T' (putE o.dst v env) H') (fun ch H'=>∀env,Nx cx (Q (.panic ch)) env H'))/\YL P ops A F cx Q n D T env H l
theorem bN:∀(l:List Nat),YL P ops A F cx Q n D T env H l->∀f∈l,∃o m,ops[f]?=some o/\(∀a,wantedE ops a env o.guard=true)/\(∀p∈T,bit (A.getD f 0) p.1=true\/p∈m)/\
 OpW P cx.u o env H (fun v H'=>(∀p∈m,p.2∈H'.flatten)/\Lin P ops A F cx Q n (D|||(1<<<f)) m (putE o.dst v env) H') (fun ch H'=>∀env,Nx cx (Q (.panic ch)) env H')
 |[],_,_,h=>by cases h
 |g::l,h,f,hf=>by
  rcases DB.1 hf with rfl|hf
  · exact h.1
  · exact bN l h.2 f hf
theorem Xd{l:List Nat}(m:o7 ops A F D=true)(h2:L8 ops A F D=l)(h:YL P ops A F cx Q n D T env H l):Lin P ops A F cx Q (n+1) D T env H:= .inr ⟨m,by rw [h2];exact bN l h⟩
def sel{α:Type}:List Bool->List α->List α
 |true::bs,x::l=>x::sel bs l
 |false::bs,_::l=>sel bs l
 |_,_=>[]
def Oi(m:Nat):List Bool->List Nat->Bool
 |true::bs,_::l=>Oi m bs l
 |false::bs,x::l=>bit m x&&Oi m bs l
 |[],[]=>true
 |_,_=>false
theorem Q9{m:Nat}:∀(bs:List Bool) (T:List (Nat×A9)),Oi m bs (T.map (·.1))=true->∀p∈T,bit m p.1=true\/p∈sel bs T
 |[],[],_,p,hp=>by cases hp
 |[],_::_,h,_,_=>by simp [Oi]at h
 |_::_,[],_,p,hp=>by cases hp
 |true::bs,x::T,h,p,hp=>by
  simp only [Ek,Oi]at h;rcases DB.1 hp with rfl|hp
  · exact .inr (by simp [sel])
  · exact (Q9 bs T h p hp).imp id fun B=>by simp only [sel];exact FA _ B
 |false::bs,x::T,h,p,hp=>by
  simp only [Ek,Oi,Ft]at h;rcases DB.1 hp with rfl|hp
  · exact .inl h.1
  · exact (Q9 bs T h.2 p hp).imp id fun B=>by simp only [sel];exact B
theorem WU{f m:Nat}{l is:List Nat}{o:Oper}{D':Nat}{bs:List Bool}{B:List (Nat×A9)}{Z:A3->Hp->Prop}{X:List PanicEntry->Hp->Prop}(ho:ops[f]?=some o)(hg:∀a,wantedE ops a env o.guard=true)(hD:D|||(1<<<f)=D')(hm:A[f]?=some m)(J:T.map (·.1)=is)(U:Oi m bs is=true)(hT:sel bs T=B)(hw:OpW P cx.u o env H Z X)
 (k:∀v H',Z v H'->(∀p∈B,p.2∈H'.flatten)/\Lin P ops A F cx Q n D' B (putE o.dst v env) H')(kp:∀ch H',X ch H'->∀env,Nx cx (Q (.panic ch)) env H')(hl:YL P ops A F cx Q n D T env H l):YL P ops A F cx Q n D T env H (f::l):=by
 subst hD;subst hT;subst J;have O:A.getD f 0=m:=by rw [N6,hm];rfl
 exact ⟨⟨o,_,ho,hg,fun p hp=>by rw [O];exact Q9 bs T U p hp,fun a w hs K Kp hK I=>hw a w hs K Kp (fun v H' W G h2=>hK v H' W (k v H' G) h2) (fun ch H' W G h2=>I ch H' W (kp ch H' G) h2)⟩,hl⟩
theorem Ah:YL P ops A F cx Q n D T env H []:=trivial
end
theorem Aa{H:Hp}:∀p∈([]:List (Nat×A9)),p.2∈H.flatten:=by intro p m;cases m
theorem nR{H:Hp}{i b:Nat}{x:Obj}{T:List (Nat×A9)}(h:Has b x H)(B:∀p∈T,p.2∈H.flatten):∀p∈((i,(b,x))::T),p.2∈H.flatten:=by
 intro p m;rcases DB.1 m with rfl|m
 · exact h.mem
 · exact B p m
theorem Az{id n:Nat}{env:Env}{H:Hp}(A:List Nat)(F:Nat)(W:P.follows .mixedOrders=true)(G:Tn ops A cx.N=true)(hn:ops.size=n)(h:Lin P ops A F cx Q n 0 [] env H):At P cx (.region id ops true) Q env H:=fun a w B=>by
 subst hn;have O:=gN G
 refine wpIn_region_any W (Xf (a0:=a) (env0:=env) B.size B.defers B.fit O ops.size _ _ _ [] 0 [] H ?_ ⟨by simp,fun j oj Z J=>?_,V,B.sat.drew,fun i=>?_,by simp,(by intro e m;cases m),fun i hi=>?_,fun i hi=>?_,fun I e X hx=>?_,fun I e X hx=>?_,(by intro e m;cases m),B.fit,h⟩)
 · refine My List.countP_le_length ?_
   simp
 · simp [j0]at J
   split at J<;>simp_all
 · constructor
   · intro U;simp [bit]at U
   · rintro ⟨e,m,_⟩;cases m
 · exfalso
   simp [j0]at hi;split at hi<;>simp_all
 · simp [bit]at hi
 · cases I<;>cases hx
 · cases I<;>cases hx
end
end Gw
