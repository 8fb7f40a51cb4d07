/- Walking by chunks: copy, append, slices of arrays, bytes out of a string. No function of the program is named. -/
import Derived.Test.YtljkoipiekbijaaGreatDoorEx4
import Derived.Sort.OwnSortedInts
import Derived.Lib.SlicesCompact
set_option linter.unusedVariables false
set_option linter.unusedSimpArgs false
namespace Gw
open Go Go.RowKit
section
variable{P:Program}{env:Env}{d:Option Nat}{ty:An}{pos:String}{af:Array Edge}{g:Option (Nat×Bool)}
section
variable{t e:An}{n:Nat}{x lo hi:Operand}{b o l h s:Nat}{lk hk:IntKind}
theorem Fv(z:P.underlying t=some (.array n e))(m:∀w:AD,(Go.sizeOf e).run P w= .ok s w)(hx:∀a,ev a env x= .pointer (some ⟨b,o,none⟩)):
 OpP P ⟨d,.slice t x none none none,ty,pos,af,g⟩ env [] (.slice (some ⟨b,o,none⟩) n n):=fun a w _=>by
 simp [Iq,hx a,Instr.sliceAt,run_underlying z,Instr.sureAddr,Instr.sliceBounds,m,Addr.add]
theorem QI(G:P.underlying t=some (.array n e))(E:∀w:AD,(Go.sizeOf e).run P w= .ok s w)(hx:∀a,ev a env x= .pointer (some ⟨b,o,none⟩))(z:∀a,ev a env lo= .int lk (l:Int))(I:l<n):
 OpP P ⟨d,.slice t x (some lo) none none,ty,pos,af,g⟩ env [] (.slice (some ⟨b,o+l*s,none⟩) (n -l) (n -l)):=fun a w _=>by
 have h2:l<=n:=by omega
 have m:¬n=l:=by omega
 simp [Iq,hx a,z a,Instr.sliceAt,run_underlying G,Instr.sureAddr,Instr.sliceBounds,Instr.sliceBound,asIntOf,E,h2,m,Cq]
theorem Sz(G:P.underlying t=some (.array n e))(E:∀w:AD,(Go.sizeOf e).run P w= .ok s w)(hx:∀a,ev a env x= .pointer (some ⟨b,o,none⟩))(z:∀a,ev a env hi= .int hk (h:Int))(m:h<=n):
 OpP P ⟨d,.slice t x none (some hi) none,ty,pos,af,g⟩ env [] (.slice (some ⟨b,o,none⟩) h n):=fun a w _=>by
 simp [Iq,hx a,z a,Instr.sliceAt,run_underlying G,Instr.sureAddr,Instr.sliceBounds,Instr.sliceBound,asIntOf,E,m,Addr.add]
end
theorem Sy{t e:An}{x lo hi m:Operand}{b o n cap l h s:Nat}{lk hk mk:IntKind}(M:P.underlying t=some (.slice e))(K:∀w:AD,(Go.sizeOf e).run P w= .ok s w)(hx:∀a,ev a env x= .slice (some ⟨b,o,none⟩) n cap)(I:∀a,ev a env lo= .int lk (l:Int))(G:∀a,ev a env hi= .int hk (h:Int))(J:∀a,ev a env m= .int mk (h:Int))(O:l<h)(h2:h<=cap):
 OpP P ⟨d,.slice t x (some lo) (some hi) (some m),ty,pos,af,g⟩ env [] (.slice (some ⟨b,o+l*s,none⟩) (h -l) (h -l)):=fun a w _=>by
 have z:l<=h:=by omega
 have E:¬h=l:=by omega
 simp [Iq,hx a,I a,G a,J a,Instr.sliceAt,Instr.slice,run_underlying M,Instr.sliceBounds,Instr.sliceBound,asIntOf,h2,z,E,K,Cq]
variable{u:AD}{H H' R:Hp}
def CY(c:As)(o:Nat)(cs:List A3):Prop:=(c.toList.drop o).take cs.length=cs
theorem CY.get{c:As}{o:Nat}{cs:List A3}(h:CY c o cs)(j:Nat)(v:A3)(E:cs[j]?=some v):c[o+j]?=some v:=by
 have m:j<cs.length:=(D3.1 E).1;have z:((c.toList.drop o).take cs.length)[j]?=cs[j]?:=by rw [h]
 rw [I3,B2 m,Ly,Kf,E]at z;exact z
theorem JI{w:AD}{b o:Nat}{c:As}{T:An}{z:Nat×Nat}{cs:List A3}(m:w.heap[b]?=some (.cells c T z))(h:CY c o cs):∀j v,cs[j]?=some v->w.cell? ((⟨b,o,none⟩:Addr).add j)=some v:=fun j v E=>by
 rw [Cq];exact DL m (h.get j v E)
theorem xg{x y:Operand}{W sT e:An}{b o n cap U o' n' E:Nat}{c c' c1:As}{T T1:An}{z z1:Nat×Nat}{cs:List A3}
 (hu:P.underlying W=some (.slice e))(hs:∀w:AD,(Go.sizeOf e).run P w= .ok 1 w)(hx:∀a,ev a env x= .slice (some ⟨b,o,none⟩) n cap)(hy:∀a,ev a env y= .slice (some ⟨U,o',none⟩) n' E)
 (J:Has U (.cells c1 T1 z1) H)(O:Upd b (.cells c T z) (.cells c' T z) H H')(Z:CY c1 o' cs)(hn:cs.length=min n' n)(hc:FE c o cs=c')(G:o+cs.length<=c.size)(hz:M6 z c.size)(h1:∀v∈cs,v.oneCell'=true):
 OpW P u ⟨d,.call ⟨.builtin .copy,#[x,y],#[W,sT]⟩,ty,pos,af,g⟩ env H (fun v H1=>v=I4 ((min n' n:Nat):Int)/\H1=H') (fun _ _=>False):=fun a w m K Kp hK _=>by
 have hb:=m.get _ O.has.mem;have X:=m.get _ J.mem
 have hl:=run_loadCells_list (P:=P) w ⟨U,o',none⟩ cs (JI X Z);rw [hn]at hl;have M:=Dt (P:=P) b o T z cs 0 c w hb hz (by simpa using G) h1
 simp only [RT]at M;have I:Nat.min n' n=min n' n:=rfl
 have:(execOp (ev a env) ⟨d,.call ⟨.builtin .copy,#[x,y],#[W,sT]⟩,ty,pos,af,g⟩).run P w= .ok (.value (I4 ((min n' n:Nat):Int))) (w.setRow b (FE c o cs)):=by
  simp [EU,resolve,invoke,builtin,hx a,hy a,Builtin.copy_,run_underlying hu,Builtin.lenOf,Builtin.firstCells,hs,I,hl,M,FE,goInt]
 rw [this];exact hK _ _ _ ⟨rfl,rfl⟩ (m.upd O rfl rfl rfl (by rw [setRow_heap w b c _ T z hb,hc]) fun k hk=>setRow_other w b k _ hk)
def Row(e:An)(v:A3)(xs:List A3)(s:List AR):Prop:=
 (v= .slice none 0 0/\xs=[]/\s=[])\/
 ∃g cap cur z,v=I6 g xs.length cap/\s=[(g,.cells cur e z)]/\xs.length<=cap/\cap<=maxLen/\cur.size=cap/\cur.toList.take xs.length=xs/\M6 z cur.size
theorem JZ(e:An):Row e (.slice none 0 0) [] []:= .inl ⟨rfl,rfl,rfl⟩
theorem iA(e:An)(g:Nat)(xs:List A3)(n:Nat)(hn:xs.length=n)(h:n<=maxLen):Row e (I6 g n n) xs [(g,.cells xs.toArray e (0,0))]:=by
 subst hn;exact .inr ⟨g,xs.length,xs.toArray,(0,0),V,V,B4 _,h,by simp,by simp,Aw _⟩
theorem Row.form{e:An}{v:A3}{xs:List A3}{s:List AR}(h:Row e v xs s):∃b cap,v= .slice b xs.length cap:=by
 rcases h with⟨rfl,rfl,rfl⟩|⟨g,cap,cur,z,rfl,_⟩
 · exact ⟨none,0,rfl⟩
 · exact ⟨some ⟨g,0,none⟩,cap,rfl⟩
theorem Row.some{e:An}{v:A3}{xs:List A3}{s:List AR}(h:Row e v xs s)(hn:0<xs.length):∃g cap cur z,v=I6 g xs.length cap/\s=[(g,.cells cur e z)]/\xs.length<=cap/\cap<=maxLen/\cur.size=cap/\cur.toList.take xs.length=xs/\M6 z cur.size:=by
 rcases h with⟨_,rfl,_⟩|h
 · cases hn
 · exact h
theorem EX{x y:Operand}{t e:An}{i:TypeInfo}{z:A3}{by_:Nat}{v:A3}{xs:List A3}{s:List AR}{b o m c:Nat}{c1:As}{T1:An}{z1:Nat×Nat}{news:List A3}
 (ht:P.underlying t=some (.slice e))(hi:P.info? e=some i)(O:i.size=1)(cO:i.bytes=by_)(l9:i.zero=some z)(mR:z.oneCell'=true)
 (hx:∀a,ev a env x=v)(gm:Row e v xs s)(hy:∀a,ev a env y= .slice (some ⟨b,o,none⟩) m c)(d9:One s H R)(kv:Has b (.cells c1 T1 z1) R)(Z:CY c1 o news)(M:news.length=m)(h1:∀u∈news,u.oneCell'=true)
 (hm:0<m)(U:xs.length+m<=maxLen)(hb:(xs.length+m)*by_<=140737488355328):
 OpW P u ⟨d,.call ⟨.builtin .append,#[x,y],#[t,t]⟩,ty,pos,af,g⟩ env H (fun v' H1=>∃s',Row e v' (xs++news) s'/\H1=s'::R) (fun _ _=>False):=fun a w gy K Kp hK _=>by
 have bn:Sat u (s::R) w:=gy.perm (by simpa using d9.perm);have gq:Sat u R w:=bn.sub ⟨s,by simp only [HW];exact S4⟩
 have cu:=gq.get _ kv.mem;have ax:=JI cu Z
 have l8:z.cells=#[z]:=by cases z<;>first|rfl|simp [Value.oneCell']at mR
 have X:news.length=m*i.size:=by rw [O];omega
 have o8:maxLen=9223372036854775807:=rfl;have E:∀{v':A3} {w':AD},(Builtin.append_ #[t,t] ty #[v,.slice (some ⟨b,o,none⟩) m c]).run P w= .ok v' w'->(execOp (ev a env) ⟨d,.call ⟨.builtin .append,#[x,y],#[t,t]⟩,ty,pos,af,g⟩).run P w= .ok (.value v') w':=fun h=>by
  simp only [EU,resolve,invoke,builtin,Tl,L3,NO,hx a,hy a,Sem.run_bind,Sem.run_pure,Result.andThen_ok,h]
 have G:∀(n cap:Nat) (cells:As) (w1:AD),w1={w with drawn:=n,heap:=w.heap.push (.cells cells e)}->Sat u ([(w.heap.size,.cells cells e (0,0))]::R) w1:=fun n cap cells w1 h=>by
  subst h;exact (gq.drawn n).alloc _
 rcases gm with⟨rfl,rfl,rfl⟩|⟨gb,cap,cur,zz,rfl,rfl,hle,hcm,hcs,htk,hfr⟩
 · have hr:=run_append_nil (P:=P) w t ty e i z ht hi l9 ⟨b,o,none⟩ m c news X ax hm (by simp only [My,Dd]at U;omega) (by rw [cO];simp only [My,Dd]at hb;omega)
   rw [E hr];have W:=grownCap_ge w m 0 e
   have I:grownCap w m 0 e<=maxLen:=grownCap_le_maxLen w m 0 e (by simpa using U);refine hK _ _ _ ⟨[(w.heap.size,.cells (news.toArray++Builtin.zeroCells z.cells (grownCap w m 0 e -m)) e (0,0))],.inr ⟨w.heap.size,grownCap w m 0 e,_,(0,0),?_,rfl,?_,I,?_,?_,Aw _⟩,rfl⟩ (G _ 0 _ _ rfl);· simp [M]
   · simpa [M]using W
   · simp [size_zeroCells,l8,M];omega
   · simp [M]
 · have hg:=bn.get (gb,.cells cur e zz) (by simp)
   by_cases J:xs.length+m<=cap
   · have hf:=run_firstCells_some (P:=P) w i.size m ⟨b,o,none⟩ m c news X ax
     rw [O]at hf;have kz:=Dt (P:=P) gb xs.length e zz news 0 cur w hg hfr (by rw [M,hcs];omega) h1
     simp only [RT]at kz;have hr:(Builtin.append_ #[t,t] ty #[I6 gb xs.length cap,.slice (some ⟨b,o,none⟩) m c]).run P w= .ok (I6 gb (xs.length+m) cap) (w.setRow gb (FE cur xs.length news)):=by
      simp [Builtin.append_,run_underlying ht,Go.sizeOf,typeInfo,hi,O,Builtin.lenOf,J,hf,Cq,kz,FE]
     rw [E hr];have ek:(FE cur xs.length news).size=cap:=by
      unfold FE;simp;omega
     refine hK _ _ _ ⟨[(gb,.cells (FE cur xs.length news) e zz)],.inr ⟨gb,cap,_,zz,by simp [M],rfl,by simpa [M]using J,hcm,ek,?_,by rw [ek,<-hcs];exact hfr⟩,rfl⟩
      (bn.upd (.here _) rfl rfl rfl (setRow_heap w gb cur _ e zz hg) fun k hk=>setRow_other w gb k _ hk)
     unfold FE;rw [htk];simp only [G0];rw [<-G0];exact L7 C4
   · have bf:∀j v,xs[j]?=some v->w.cell? ((⟨gb,0,none⟩:Addr).add j)=some v:=fun j v hj=>by
      rw [Cq];refine DL hg ?_;have lv:j<xs.length:=(D3.1 hj).1
      have:(cur.toList.take xs.length)[j]?=some v:=by rw [htk];exact hj
      rw [I3,B2 lv]at this;simpa using this
     have hr:=run_append_grow (P:=P) w t ty e i z ht hi l9 ⟨gb,0,none⟩ xs.length cap xs (by rw [O];omega) bf ⟨b,o,none⟩ m c news X ax A0 A0 (growslice_fits A0 (by rw [cO];exact hb));rw [E hr];have W:=grownCap_ge w (xs.length+m) cap e
     have I:grownCap w (xs.length+m) cap e<=maxLen:=grownCap_le_maxLen w (xs.length+m) cap e U;refine hK _ _ _ ⟨[(w.heap.size,.cells (xs.toArray++news.toArray++Builtin.zeroCells z.cells (grownCap w (xs.length+m) cap e -(xs.length+m))) e (0,0))],.inr ⟨w.heap.size,grownCap w (xs.length+m) cap e,_,(0,0),?_,V,?_,I,?_,?_,Aw _⟩,V⟩ (G _ 0 _ _ V);· simp [M]
     · simpa [M]using W
     · simp [size_zeroCells,l8,M];omega
     · simp only [eM]
       exact L7 C4
theorem uE{s t e:An}{x:Operand}{str:ByteArray}(hs:P.underlying s=some .string)(ht:P.underlying t=some (.slice e))(Z:P.underlying e=some (.int .u8))(hx:∀a,ev a env x= .string str)(hm:str.size<=maxLen):
 OpW P u ⟨d,.convert s t x,ty,pos,af,g⟩ env H (fun v' H1=>∃U,Row e v' (str.data.toList.map u8v) U/\H1=U::H) (fun _ _=>False):=fun a w J K Kp X _=>by
 have M:str.size<=grownCap w str.size 0 e:=grownCap_ge w str.size 0 e;have G:grownCap w str.size 0 e<=maxLen:=grownCap_le_maxLen w str.size 0 e hm
 have z:(str.data.toList.map u8v).length=str.size:=by rw [C2];rfl
 obtain ⟨cells,m⟩:∃cells:As,cells=str.data.map (fun b=>Value.int .u8 b.toNat)++Array.replicate (grownCap w str.size 0 e -str.size) (.int .u8 0):=⟨_,rfl⟩;have E:cells.size=grownCap w str.size 0 e:=by
  have:str.data.size=str.size:=rfl;rw [m];simp [this];omega
 have I:(execOp (ev a env) ⟨d,.convert s t x,ty,pos,af,g⟩).run P w= .ok (.value (.slice (some ⟨w.heap.size,0,none⟩) str.size (grownCap w str.size 0 e))) (World.freeze {w with drawn:=w.drawn+1,heap:=w.heap.push (.cells cells e)} ⟨w.heap.size,cells.size,none⟩ 1):=by
  have O:(({w with drawn:=w.drawn+1,heap:=w.heap.push (.cells cells e)}:AD).shape? w.heap.size)=some (e,cells.size):=by
   simp [World.shape?]
  simp only [Pk,hx a,convert,Sem.run_bind,run_underlying hs,run_underlying ht,run_underlying Z,Result.andThen_ok,Conv.stringToBytes,choose,Sem.run,Question.forced,newRow,newObj,Sem.run_pure,PC,LN];rw [show Question.cut (.appendCap str.size 0 e) (w.tape w.drawn (.appendCap str.size 0 e))=grownCap w str.size 0 e from rfl,<-m];simp [markStringish,O]
 rw [I];refine X _ _ _ ⟨[(w.heap.size,.cells cells e (cells.size,cells.size+1))],.inr ⟨w.heap.size,grownCap w str.size 0 e,cells,(cells.size,cells.size+1),by rw [z],rfl,by rw [z];exact M,G,E,?_,ZV _ _ (B4 _) _⟩,rfl⟩ ?_
 · rw [z,m]
   have:str.data.size=str.size:=rfl;simp [u8v,j7,List.take_append,this]
 · have W:Sat u ([(w.heap.size,.cells cells e (0,0))]::H) {w with drawn:=w.drawn+1,heap:=w.heap.push (.cells cells e)}:=(J.drawn (w.drawn+1)).alloc _
   refine W.upd (.here _) ?_ ?_ ?_ ?_ fun k hk=>?_;· simp [World.freeze]
   · simp [World.freeze]
   · simp [World.freeze]
   · simp only [World.freeze,Nat.one_ne_zero,LN]
     rw [T5,B2 rfl];simp
   · simp [World.freeze,T5,Ne.symm hk]
end
theorem Bi{P:Program}{cx:Cx}{c:Code}{Q:Exit->Act->AD->Prop}{env:Env}{H:Hp}(h:At P cx c Q env ([]::H)):At P cx c Q env H:=jG (H':=[]::H) rfl h
def BS(sz:Nat)(e:An)(v:A3)(k:Nat)(xs:List A3)(s:List AR):Prop:=
 xs.length=k*sz/\((v= .slice none 0 0/\k=0/\s=[])\/
 ∃g cap cur z,v=I6 g k cap/\s=[(g,.cells cur e z)]/\k<=cap/\cap<=maxLen/\cur.size=cap*sz/\cur.toList.take (k*sz)=xs/\M6 z cur.size)
theorem BX(sz:Nat)(e:An):BS sz e (.slice none 0 0) 0 [] []:=⟨by simp,.inl ⟨rfl,rfl,rfl⟩⟩
theorem BS.form{sz:Nat}{e:An}{v:A3}{k:Nat}{xs:List A3}{s:List AR}(h:BS sz e v k xs s):∃b cap,v= .slice b k cap:=by
 rcases h with⟨_,⟨rfl,rfl,rfl⟩|⟨g,cap,cur,z,rfl,_⟩⟩
 · exact ⟨none,0,rfl⟩
 · exact ⟨some ⟨g,0,none⟩,cap,rfl⟩
theorem BS.cut{sz:Nat}{e:An}{b:C1}{n cap k:Nat}{xs:List A3}{s:List AR}(h:BS sz e (.slice b n cap) k xs s):BS sz e (.slice b 0 cap) 0 [] s:=by
 rcases h with⟨_,⟨m,rfl,rfl⟩|⟨g,J,cur,z,m,rfl,K,E,G,M,I⟩⟩
 · simp only [Value.slice.injEq]at m
   obtain ⟨rfl,rfl,rfl⟩:=m;exact BX sz e
 · simp only [Value.slice.injEq]at m
   obtain ⟨rfl,rfl,rfl⟩:=m;exact ⟨by simp,.inr ⟨g,cap,cur,z,V,V,CD _,E,G,by simp,I⟩⟩
theorem UD{P:Program}{e:An}{i:TypeInfo}{z:A3}(hi:P.info? e=some i)(m:i.zero=some z)(w:AD):(zeroValue e).run P w= .ok z w:=by
 simp [zeroValue,typeInfo,hi,m]
section
variable{P:Program}{u:AD}{env:Env}{H R:Hp}{d:Option Nat}{ty:An}{pos:String}{af:Array Edge}{g:Option (Nat×Bool)}
theorem Uh{x y:Operand}{t e:An}{i:TypeInfo}{z:A3}{by_ sz k:Nat}{v:A3}{xs:List A3}{s:List AR}{b o m c:Nat}{news:List A3}
 (ht:P.underlying t=some (.slice e))(hi:P.info? e=some i)(W:i.size=sz)(cu:i.bytes=by_)(kz:i.zero=some z)(kv:z.cells.size=sz)
 (hx:∀a,ev a env x=v)(O:BS sz e v k xs s)(hy:∀a,ev a env y= .slice (some ⟨b,o,none⟩) m c)(d9:One s H R)(cO:∀w,Sat u R w->∀j v,news[j]?=some v->w.cell? ((⟨b,o,none⟩:Addr).add j)=some v)(hl:news.length=m*sz)(h1:∀u∈news,u.oneCell'=true)
 (hm:0<m)(l8:k+m<=maxLen)(hb:(k+m)*by_<=140737488355328):
 OpW P u ⟨d,.call ⟨.builtin .append,#[x,y],#[t,t]⟩,ty,pos,af,g⟩ env H (fun v' H1=>∃s',BS sz e v' (k+m) (xs++news) s'/\H1=s'::R) (fun _ _=>False):=fun a w gq K Kp hK _=>by
 have bf:Sat u (s::R) w:=gq.perm (by simpa using d9.perm);have gm:Sat u R w:=bf.sub ⟨s,by simp only [HW];exact S4⟩
 have Z:=cO w gm;have X:news.length=m*i.size:=by rw [W];omega
 have o8:maxLen=9223372036854775807:=rfl;have E:∀{v':A3} {w':AD},(Builtin.append_ #[t,t] ty #[v,.slice (some ⟨b,o,none⟩) m c]).run P w= .ok v' w'->(execOp (ev a env) ⟨d,.call ⟨.builtin .append,#[x,y],#[t,t]⟩,ty,pos,af,g⟩).run P w= .ok (.value v') w':=fun h=>by
  simp only [EU,resolve,invoke,builtin,Tl,L3,NO,hx a,hy a,Sem.run_bind,Sem.run_pure,Result.andThen_ok,h]
 have J:∀(n cap:Nat) (cells:As) (w1:AD),w1={w with drawn:=n,heap:=w.heap.push (.cells cells e)}->Sat u ([(w.heap.size,.cells cells e (0,0))]::R) w1:=fun n cap cells w1 h=>by
  subst h;exact (gm.drawn n).alloc _
 obtain ⟨bn,O⟩:=O;have G:(xs++news).length=(k+m)*sz:=by rw [C7,bn,hl,Lq]
 have split:∀n p:Nat,p<=n->p*sz+(n -p)*sz=n*sz:=fun n p h=>by rw [<-Lq];congr 1;omega
 rcases O with⟨rfl,rfl,rfl⟩|⟨gb,cap,cur,zz,rfl,rfl,hle,hcm,hcs,htk,hfr⟩
 · have l9:xs=[]:=N3 (by omega)
   subst l9;have hr:=run_append_nil (P:=P) w t ty e i z ht hi kz ⟨b,o,none⟩ m c news X Z hm (by omega) (by rw [cu];exact To (by simpa using hb) (by decide:140737488355328<=281474976710656))
   rw [E hr];have U:=grownCap_ge w m 0 e
   have M:grownCap w m 0 e<=maxLen:=grownCap_le_maxLen w m 0 e (by omega);refine hK _ _ _ ⟨[(w.heap.size,.cells (news.toArray++Builtin.zeroCells z.cells (grownCap w m 0 e -m)) e (0,0))],⟨G,.inr ⟨w.heap.size,grownCap w m 0 e,_,(0,0),by simp,rfl,by omega,M,?_,?_,Aw _⟩⟩,rfl⟩ (J _ 0 _ _ rfl)
   · simp only [fp,size_zeroCells,kv,K0,hl]
     exact split _ _ U
   · simp only [eM,ON,Dd]
     exact L7 hl
 · have hg:=bf.get (gb,.cells cur e zz) (by simp)
   by_cases I:k+m<=cap
   · have hf:=run_firstCells_some (P:=P) w i.size m ⟨b,o,none⟩ m c news X Z
     rw [W]at hf;have lv:k*sz+m*sz<=cap*sz:=by rw [<-Lq];exact T7 sz I
     have gy:=Dt (P:=P) gb (k*sz) e zz news 0 cur w hg hfr (by rw [hl,hcs];omega) h1;simp only [RT]at gy;have hr:(Builtin.append_ #[t,t] ty #[I6 gb k cap,.slice (some ⟨b,o,none⟩) m c]).run P w= .ok (I6 gb (k+m) cap) (w.setRow gb (FE cur (k*sz) news)):=by
      simp [Builtin.append_,run_underlying ht,Go.sizeOf,typeInfo,hi,W,Builtin.lenOf,I,hf,Cq,gy,FE]
     rw [E hr];have ek:(FE cur (k*sz) news).size=cap*sz:=by
      unfold FE;simp;omega
     refine hK _ _ _ ⟨[(gb,.cells (FE cur (k*sz) news) e zz)],⟨G,.inr ⟨gb,cap,_,zz,rfl,rfl,I,hcm,ek,?_,by rw [ek,<-hcs];exact hfr⟩⟩,rfl⟩
      (bf.upd (.here _) rfl rfl rfl (setRow_heap w gb cur _ e zz hg) fun k hk=>setRow_other w gb k _ hk)
     unfold FE;rw [htk];simp only [G0];rw [<-G0];exact L7 G
   · have ax:∀j v,xs[j]?=some v->w.cell? ((⟨gb,0,none⟩:Addr).add j)=some v:=fun j v hj=>by
      rw [Cq];refine DL hg ?_;have mR:j<xs.length:=(D3.1 hj).1
      have:(cur.toList.take (k*sz))[j]?=some v:=by rw [htk];exact hj
      rw [I3,B2 A0]at this;simpa using this
     have hr:=run_append_grow (P:=P) w t ty e i z ht hi kz ⟨gb,0,none⟩ k cap xs (by rw [W];exact bn) ax ⟨b,o,none⟩ m c news X Z A0 A0 (growslice_fits A0 (by rw [cu];exact hb));rw [E hr];have U:=grownCap_ge w (k+m) cap e
     have M:grownCap w (k+m) cap e<=maxLen:=grownCap_le_maxLen w (k+m) cap e l8;refine hK _ _ _ ⟨[(w.heap.size,.cells (xs.toArray++news.toArray++Builtin.zeroCells z.cells (grownCap w (k+m) cap e -(k+m))) e (0,0))],⟨G,.inr ⟨w.heap.size,grownCap w (k+m) cap e,_,(0,0),V,V,U,M,?_,?_,Aw _⟩⟩,V⟩ (J _ 0 _ _ V)
     · simp only [fp,size_zeroCells,kv,K0,hl,bn]
       have:=split _ _ U;rw [Lq]at this;exact this
     · simp only [eM]
       exact L7 (by simpa using G)
theorem Dw{x y:Operand}{t e:An}{i:TypeInfo}{z:A3}{by_ sz k:Nat}{v:A3}{xs:List A3}{s:List AR}{b o m c:Nat}{X:As}{T1:An}{z1:Nat×Nat}{news:List A3}
 (ht:P.underlying t=some (.slice e))(hi:P.info? e=some i)(O:i.size=sz)(M:i.bytes=by_)(W:i.zero=some z)(U:z.cells.size=sz)
 (hx:∀a,ev a env x=v)(I:BS sz e v k xs s)(hy:∀a,ev a env y= .slice (some ⟨b,o,none⟩) m c)(G:One s H R)(J:Has b (.cells X T1 z1) R)(E:CY X o news)(hl:news.length=m*sz)(h1:∀u∈news,u.oneCell'=true)
 (hm:0<m)(K:k+m<=maxLen)(hb:(k+m)*by_<=140737488355328):
 OpW P u ⟨d,.call ⟨.builtin .append,#[x,y],#[t,t]⟩,ty,pos,af,g⟩ env H (fun v' H1=>∃Z,BS sz e v' (k+m) (xs++news) Z/\H1=Z::R) (fun _ _=>False):=
 Uh ht hi O M W U hx I hy G (fun w hs=>JI (hs.get _ J.mem) E) hl h1 hm K hb
theorem FJ{t e:An}{x lo:Operand}{b o n cap l:Nat}{lk:IntKind}(I:P.underlying t=some (.slice e))(G:∀w:AD,(Go.sizeOf e).run P w= .ok 1 w)(hx:∀a,ev a env x= .slice (some ⟨b,o,none⟩) n cap)(E:∀a,ev a env lo= .int lk (l:Int))(z:l<=n)(h2:l<cap):
 OpP P ⟨d,.slice t x (some lo) none none,ty,pos,af,g⟩ env [] (.slice (some ⟨b,o+l,none⟩) (n -l) (cap -l)):=by
 have h:=Bv (d:=d) (ty:=ty) (pos:=pos) (af:=af) (g:=g) I G hx E z;have m:EJ (some ⟨b,o,none⟩) l cap 1=some ⟨b,o+l,none⟩:=by
  unfold EJ;rw [Ax A0,N5,Cq,MA]
 rw [m]at h;exact h
theorem uD{x:Operand}{T:An}{v:A3}(hx:∀a,ev a env x= .iface T v):
 OpW P u ⟨d,.panic x,ty,pos,af,g⟩ env H (fun _ _=>False) (fun ch H'=>ch=[{v:= .iface T v,recovered:=false}]/\H'=H):=fun a w m K E _ z=>by
 have:(execOp (ev a env) ⟨d,.panic x,ty,pos,af,g⟩).run P w= .halt (.panic (.iface T v)) w:=by
  simp [tu,hx a,Instr.panic,goPanic]
 rw [this];exact z _ _ _ ⟨V,V⟩ m
end
theorem Mi{cx:Cx}{Q:Exit->Act->AD->Prop}{env:Env}{H:Hp}{i:Nat}{ch:List PanicEntry}(h:Nx cx (Q (.panic ch)) env H):Nx cx (Exit.inBlock i Q (.panic ch)) env H:=h
section
variable{P:Program}{u:AD}{env:Env}{H R R2:Hp}{d:Option Nat}{ty:An}{pos:String}{af:Array Edge}{g:Option (Nat×Bool)}
theorem EM{t e s:Nat}(I:P.underlying t=some (.slice e))(G:∀w:AD,(Go.sizeOf e).run P w= .ok s w):
 OpW P u ⟨d,.buildSlice t 0 #[],ty,pos,af,g⟩ env H (fun J H1=>∃b,J=I6 b 0 0/\H1=[(b,.cells ([]:List A3).toArray e (0,0))]::H) (fun _ _=>False):=fun a w m K M E _=>by
 have z:(Instr.buildSlice t 0 (#[]:Array (Nat×A3))).run P w= .ok (.slice (some ⟨w.heap.size,0,none⟩) 0 0) {w with heap:=w.heap.push (.cells #[] e)}:=by
  unfold Instr.buildSlice;simp [Sem.run_bind,run_underlying I,G,Instr.fill,newRow];congr 2;apply Array.ext<;>simp
 have:(execOp (ev a env) ⟨d,.buildSlice t 0 #[],ty,pos,af,g⟩).run P w= .ok (.value (.slice (some ⟨w.heap.size,0,none⟩) 0 0)) {w with heap:=w.heap.push (.cells #[] e)}:=by
  rw [OY,Sem.run_bind];have e0:(#[]:Array (Nat×Operand)).map (fun(i,x)=>(i,ev a env x))=#[]:=by simp
  rw [e0,z];rfl
 rw [this];exact E _ _ _ ⟨_,V,V⟩ (m.alloc _)
theorem One.has{b:Nat}{o:Obj}(h:One [(b,o)] H R):Has b o H:=by
 induction h with
 |here H=>exact .here _
 |there t h ih=>exact .there _ ih
theorem Row.le{e:An}{v:A3}{xs:List A3}{s:List AR}(h:Row e v xs s):∃b cap,v= .slice b xs.length cap/\xs.length<=cap:=by
 rcases h with⟨rfl,rfl,rfl⟩|⟨g,cap,cur,z,rfl,_,hle,_⟩
 · exact ⟨none,0,rfl,B4 _⟩
 · exact ⟨_,cap,rfl,hle⟩
theorem bZ{t ty b j s:Nat}{m:Func}{v x:A3}(E:m.results=#[.cell t ty,.tmp s]){w:AD}{tmps:As}(hx:tmps.getD t undef= .pointer (some ⟨b,j,none⟩))(z:(loadVar ty ⟨b,j,none⟩).run P w= .ok v w)(hy:tmps.getD s undef=x):(results m tmps).run P w= .ok (.tuple #[v,x]) w:=by
 rw [Lw]at hx hy;simp [results,E,hx,hy,asAddr,z]
theorem Bo{e:Exit}{N:Nat}{r:Option Nat}{z:Func}{Q:A3->Hp->Prop}{E:List PanicEntry->Hp->Prop}{H':Hp}{t ty b j s:Nat}{v x:A3}{o:Obj}(I:GH e=true)(O:z.results=#[.cell t ty,.tmp s])(hv:∀a,FC a env t= .pointer (some ⟨b,j,none⟩))(G:Has b o H)(J:∀w:AD,w.heap[b]?=some o->(loadVar ty ⟨b,j,none⟩).run P w= .ok v w)(hx:∀a,FC a env s=x)(M:Q (.tuple #[v,x]) H')(K:Sub (H'++R) H:=by repeat(first|exact Sub.refl _|exact Sub.nil _|(apply Sub.cons;(focus (repeat(first|exact One.here _ _|apply One.there))))|refine Sub.drop _ ?_)):Nx ⟨N,[],u,r⟩ (bodyPost P z (Fp u R Q E) e) env H:=
 Kk I (fun a w m=>bZ O (by rw [Br a env (by rw [m.size];exact m.fit),hv a]) (J w (m.sat.get _ G.mem)) (by rw [Br a env (by rw [m.size];exact m.fit),hx a])) M K
theorem Cj{ops:Array Oper}{l:List Oper}{cx:Cx}{Q:Exit->Act->AD->Prop}{d:Nat}{m:Op}{v:A3}{cs:List AR}(z:∀c∈cs,c∈H.flatten)(h:OpP P ⟨some d,m,ty,pos,af,none⟩ env cs v)(hn:EB m=true)(E:Nat.blt d cx.N=true)
 (k:Ops P ops l cx Q ((d,v)::env) H):Ops P ops (⟨some d,m,ty,pos,af,none⟩::l) cx Q env H:=
 HY (fun _=>rfl) (fun t G=>by cases G;simpa using E) hn (h.eff (u:=cx.u) (H:=H) z) (by rintro _ _ ⟨rfl,rfl⟩;exact k) (fun _ _ h=>h.elim)
theorem kZ{w:AD}{s1 s2:List AR}{a b:Nat}{x y:Obj}(I:Sat u H w)(m:One s1 H R)(h2:One s2 R R2)(z:(a,x)∈s1)(E:(b,y)∈s2):a≠b:=by
 have hn:=I.nodup;have G:H.flatten.Perm (s1++(s2++R2.flatten)):=m.perm.trans (bm s1 h2.perm)
 rw [(G.map (·.1)).nodup_iff,HD,HD,S6]at hn;exact hn.2.2 a (HX.2 ⟨_,z,V⟩) b (HE _ (HX.2 ⟨_,E,V⟩))
theorem xW{cx:Cx}{c:Code}{Q:Exit->Act->AD->Prop}{s1 s2:List AR}{a b:Nat}{x y:Obj}(z:One s1 H R)(h2:One s2 R R2)(E:(a,x)∈s1)(G:(b,y)∈s2)(k:a≠b->At P cx c Q env H):At P cx c Q env H:=
 fun act w m=>k (kZ m.sat z h2 E G) act w m
theorem Mg{ops:Array Oper}{l:List Oper}{cx:Cx}{Q:Exit->Act->AD->Prop}{d:Nat}{m:Op}{g:Nat×Bool}{v:A3}{cs:List AR}(G:∀a,wantedE ops a env (some g)=true)(z:∀c∈cs,c∈H.flatten)(h:OpP P ⟨some d,m,ty,pos,af,some g⟩ env cs v)(hn:EB m=true)(E:Nat.blt d cx.N=true)
 (k:Ops P ops l cx Q ((d,v)::env) H):Ops P ops (⟨some d,m,ty,pos,af,some g⟩::l) cx Q env H:=
 HY G (fun t I=>by cases I;simpa using E) hn (h.eff (u:=cx.u) (H:=H) z) (by rintro _ _ ⟨rfl,rfl⟩;exact k) (fun _ _ h=>h.elim)
def nj(v:A3)(ys:List A3)(s:List AR):Prop:=
 (∃p c,v= .slice p 0 c/\ys=[])\/(0<ys.length/\∃b o c cur T z,v= .slice (Option.some ⟨b,o,none⟩) ys.length c/\s=[(b,.cells cur T z)]/\CY cur o ys)
theorem Ob{x y:Operand}{t e:An}{i:TypeInfo}{z:A3}{by_:Nat}{v v2:A3}{xs ys:List A3}{s s2:List AR}
 (ht:P.underlying t=some (.slice e))(hi:P.info? e=some i)(E:i.size=1)(X:i.bytes=by_)(bn:i.zero=some z)(bf:z.oneCell'=true)
 (hx:∀a,ev a env x=v)(m:Row e v xs s)(hy:∀a,ev a env y=v2)(O:nj v2 ys s2)(G:One s H R)(U:One s2 R R2)(h1:∀u∈ys,u.oneCell'=true)
 (W:xs.length+ys.length<=maxLen)(hb:(xs.length+ys.length)*by_<=140737488355328):
 OpW P u ⟨d,.call ⟨.builtin .append,#[x,y],#[t,t]⟩,ty,pos,af,g⟩ env H (fun v' H1=>∃s',Row e v' (xs++ys) s'/\H1=s'::R) (fun _ _=>False):=by
 rcases O with⟨p,c2,rfl,rfl⟩|⟨hp,b,o,c,cur,T,z2,rfl,rfl,hin⟩
 · obtain ⟨b,c,rfl,J⟩:=m.le
   intro a w M K Kp hK _;have Z:Sat u (s::R) w:=M.perm (by simpa using G.perm)
   have I:(Builtin.firstCells i.size 0 (.slice p 0 c2)).run P w= .ok #[] w:=by
    cases p with
    |none=>simp [Builtin.firstCells]
    |some ad=>simp [Builtin.firstCells,loadCells,loadCellsFrom]
   have hr:(Builtin.append_ #[t,t] ty #[.slice b xs.length c,.slice p 0 c2]).run P w= .ok (.slice b xs.length c) w:=by
    rw [E]at I;cases b with
    |none=>simp [Builtin.append_,run_underlying ht,Go.sizeOf,typeInfo,hi,E,Builtin.lenOf,J,I]
    |some ad=>simp [Builtin.append_,run_underlying ht,Go.sizeOf,typeInfo,hi,E,Builtin.lenOf,J,I,storeCells]
   have ax:(execOp (ev a env) ⟨d,.call ⟨.builtin .append,#[x,y],#[t,t]⟩,ty,pos,af,g⟩).run P w= .ok (.value (.slice b xs.length c)) w:=by
    simp only [EU,resolve,invoke,builtin,Tl,L3,NO,hx a,hy a,Sem.run_bind,Sem.run_pure,Result.andThen_ok,hr]
   rw [ax];exact hK _ _ _ ⟨s,by rw [HT];exact m,rfl⟩ Z
 · exact EX ht hi E X bn bf hx m hy G U.has hin rfl h1 hp W hb
end
section
variable{P:Program}{cx:Cx}{x y:Code}{Q:Exit->Act->AD->Prop}{env:Env}{H:Hp}
theorem C9{e0 B:Env}{H0 R:Hp}(I:Env->Hp->Prop)(K:FX H0 H R)(hx:At P cx x (Exit.then (fun a w=>∃e H1 a0,I e H1/\St cx (e++B) (H1++R) a0 w/\a=Ck (e++B) a0) Q) (e0++B) (H0++R))(hy:∀e H1,I e H1->At P cx y Q (e++B) (H1++R)):At P cx (.seq x y) Q (e0++B) H:=fun a w m=>by
 have z:St cx (e0++B) (H0++R) a w:=⟨m.size,m.defers,m.fit,m.sat.perm K.perm⟩;refine wpIn_seq (wpIn_mono (hx a w z) fun e O M G=>?_);cases e<;>first|exact G|(obtain ⟨e',H',a0,J,E,rfl⟩:=G;exact hy e' H' J a0 M E)
theorem BD{I:Env->Hp->Prop}{B e':Env}{R H':Hp}(h:I e' H')(z:Sub (H'++R) H:=by repeat(first|exact Sub.refl _|exact Sub.nil _|(apply Sub.cons;(focus (repeat(first|exact One.here _ _|apply One.there))))|refine Sub.drop _ ?_)):Nx cx ((Exit.then (fun a w=>∃e H1 a0,I e H1/\St cx (e++B) (H1++R) a0 w/\a=Ck (e++B) a0) Q) .normal) (e'++B) H:=fun a _ m=>⟨e',H',a,h,⟨m.size,m.defers,m.fit,m.sat.sub z.amid⟩,rfl⟩
end
end Gw
namespace Gw
open Go Go.RowKit Go.Sort
section
variable{P:Program}{u:AD}{env:Env}{H R:Hp}{d:Option Nat}{ty:An}{pos:String}{af:Array Edge}{g:Option (Nat×Bool)}
theorem pI(c:As)(k:Nat):FE c k []=c:=by
 unfold FE;apply L5.1;simp
end
theorem Sat.sorted{α:Type} [Inhabited α]{f:α->A3}{u w:AD}{g n:Nat}{cur:As}{e:An}{z:Nat×Nat}{R:Hp}(d:Array α)(os:Array Obj)(h:Sat u ([(g,.cells cur e z)]::R) w):Sat u ([(g,.cells (putCells f 0 d cur) e z)]::R) (grow (putRow f (Sort.ahead w n) g 0 d) os):=by
 have m:=h.get (g,.cells cur e z) C4;have G:g<w.heap.size:=(LO.1 m).1
 have E:Sat u ([(g,.cells (putCells f 0 d cur) e z)]::R) (putRow f (Sort.ahead w n) g 0 d):=by
  refine h.upd (.here _) V rfl V ?_ fun k hk=>?_;· simp [putRow,mapBlock,Sort.ahead,T5,m,onCells]
  · have:g≠k:=fun e=>hk e.symm
    simp [putRow,mapBlock,Sort.ahead,T5,this]
 exact E.below ⟨V,V,V,by simp [grow],fun k hk=>heap_grow_old _ _ hk⟩
theorem ES{P:Program}{cx:Cx}{E:Code}{Q:Exit->Act->AD->Prop}{env:Env}{s1 s2:List AR}{H z R2:Hp}(G:One s1 H z)(h2:One s2 z R2)(k:At P cx E Q env ((s1++s2)::R2)):At P cx E Q env H:=fun a w m=>
 k a w ⟨m.size,m.defers,m.fit,m.sat.perm (by
   simp only [HW,G0];exact G.perm.trans (bm s1 h2.perm))⟩
end Gw
namespace Gw
open Go Go.RowKit
structure V3 where
 a:Int
 b:Int
 c:Int
deriving DecidableEq
def V3.zero:V3:=⟨0,0,0⟩
theorem V3.eq_iff(x y:V3):x=y↔(x.a=y.a/\x.b=y.b/\x.c=y.c):=by
 constructor;· rintro rfl;exact ⟨rfl,rfl,rfl⟩
 · cases x;cases y;rintro ⟨m,h2,z⟩;simp only at m h2 z;rw [m,h2,z]
section
variable{P:Program}{u:AD}{env:Env}{H R:Hp}{d:Option Nat}{ty:An}{pos:String}{af:Array Edge}{g:Option (Nat×Bool)}
theorem PY{e:An}(n:Nat)(w:AD)(z:P.underlying e=some (.int .i64))(m k:Int):(Op.equalIn (n+1) e (I4 m) (I4 k)).run P w= .ok (decide (m=k)) w:=by
 simp [Op.equalIn,run_underlying z];by_cases h:m=k<;>simp [h]
theorem FR{e:An}(w:AD)(m:(isAgg e).run P w= .ok false w)(xs:As)(j:Nat){v:A3}(h:xs[j]?=some v):(part e xs j).run P w= .ok v w:=by
 simp [part,m,h]
theorem Ra{t e:An}(w:AD)(n:Nat)(x y:V3)(W:P.underlying t=some (.array 3 e))(O:P.underlying e=some (.int .i64))(z:∀w:AD,(isAgg e).run P w= .ok false w)(U:∀w:AD,(Go.sizeOf e).run P w= .ok 1 w):
 (Op.equalIn (n+2) t (.agg #[I4 x.a,I4 x.b,I4 x.c]) (.agg #[I4 y.a,I4 y.b,I4 y.c])).run P w= .ok (decide (x=y)) w:=by
 have E:∀(m k:Int) (w:AD),(Op.equalIn (n+1) e (I4 m) (I4 k)).run P w= .ok (decide (m=k)) w:=fun m k w=>PY n w O m k;have G:∀(v0 v1 v2:A3) (w:AD),(part e #[v0,v1,v2] 0).run P w= .ok v0 w:=fun _ _ _ w=>FR w (z w) _ _ rfl
 have I:∀(v0 v1 v2:A3) (w:AD),(part e #[v0,v1,v2] 1).run P w= .ok v1 w:=fun _ _ _ w=>FR w (z w) _ _ rfl;have J:∀(v0 v1 v2:A3) (w:AD),(part e #[v0,v1,v2] 2).run P w= .ok v2 w:=fun _ _ _ w=>FR w (z w) _ _ rfl
 rw [show n+2=(n+1)+1 from rfl,Op.equalIn];generalize n+1=m at*;simp only [Sem.run_bind,run_underlying W,Result.andThen_ok,U];simp only [nv,Std.Legacy.Range.size,SM,S5,Nat.div_one,jj,List.range'_zero,fz,ka];simp only [Sem.run_bind,G,I,J,E,Result.andThen_ok,Dd,MA,en,Wf,V3.eq_iff];by_cases K:x.a=y.a<;>by_cases h2:x.b=y.b<;>by_cases M:x.c=y.c<;>simp [K,h2,M,G,I,J,E]
theorem Ke{t:An}(p q:As):binOp .eql t (.agg p) (.agg q)=(do pure (.bool (<-Op.equal t (.agg p) (.agg q)))):=rfl
theorem N8{t:An}(p q:As):binOp .neq t (.agg p) (.agg q)=(do pure (.bool (!(<-Op.equal t (.agg p) (.agg q))))):=rfl
section
variable{t yt e:An}{x y:Operand}{p q:V3}
theorem Li(E:P.eqGuardType P.depth t=false)(I:P.underlying t=some (.array 3 e))(z:P.underlying e=some (.int .i64))(m:∀w:AD,(isAgg e).run P w= .ok false w)(G:∀w:AD,(Go.sizeOf e).run P w= .ok 1 w)
 (hx:∀a,ev a env x= .agg #[I4 p.a,I4 p.b,I4 p.c])(hy:∀a,ev a env y= .agg #[I4 q.a,I4 q.b,I4 q.c]):OpP P ⟨d,.binOp .eql t x y yt,ty,pos,af,g⟩ env [] (.bool (decide (p=q))):=fun a w _=>by
 simp [D6,hx a,hy a,go_sem,run_eqGuard_agg w _ t _ _ _ _ E,Ke,Op.equal,Op.maxDepth,Ra w 9998 p q I z m G]
theorem Lh(E:P.eqGuardType P.depth t=false)(I:P.underlying t=some (.array 3 e))(z:P.underlying e=some (.int .i64))(m:∀w:AD,(isAgg e).run P w= .ok false w)(G:∀w:AD,(Go.sizeOf e).run P w= .ok 1 w)
 (hx:∀a,ev a env x= .agg #[I4 p.a,I4 p.b,I4 p.c])(hy:∀a,ev a env y= .agg #[I4 q.a,I4 q.b,I4 q.c]):OpP P ⟨d,.binOp .neq t x y yt,ty,pos,af,g⟩ env [] (.bool (decide (p≠q))):=fun a w _=>by
 simp [D6,hx a,hy a,go_sem,run_eqGuard_agg w _ t _ _ _ _ E,N8,Op.equal,Op.maxDepth,Ra w 9998 p q I z m G]
theorem KV(E:P.eqGuardType P.depth t=false)(I:P.underlying t=some (.array 3 e))(z:P.underlying e=some (.int .i64))(m:∀w:AD,(isAgg e).run P w= .ok false w)(G:∀w:AD,(Go.sizeOf e).run P w= .ok 1 w)
 (hx:∀a,ev a env x= .agg #[I4 p.a,I4 p.b,I4 p.c])(hy:∀a,ev a env y= .agg #[I4 0,I4 0,I4 0]):OpP P ⟨d,.binOp .eql t x y yt,ty,pos,af,g⟩ env [] (.bool (decide (p=V3.zero))):=Li (q:=V3.zero) E I z m G hx hy
theorem xB(E:P.eqGuardType P.depth t=false)(I:P.underlying t=some (.array 3 e))(z:P.underlying e=some (.int .i64))(m:∀w:AD,(isAgg e).run P w= .ok false w)(G:∀w:AD,(Go.sizeOf e).run P w= .ok 1 w)
 (hx:∀a,ev a env x= .agg #[I4 p.a,I4 p.b,I4 p.c])(hy:∀a,ev a env y= .agg #[I4 0,I4 0,I4 0]):OpP P ⟨d,.binOp .neq t x y yt,ty,pos,af,g⟩ env [] (.bool (decide (p≠V3.zero))):=Lh (q:=V3.zero) E I z m G hx hy
end
end
def V3.get(v:V3)(i:Nat):Int:=if i=0 then v.a else if i=1 then v.b else v.c
theorem zM(x y:A3)(v:V3)(i:Nat)(h:i<3):(#[x,y,Value.int .i64 v.a,I4 v.b,I4 v.c]:As)[2+i]?=some (I4 (v.get i)):=by
 rcases i with _|_|_|i
 · rfl
 · rfl
 · rfl
 · omega
def inV(n:Int):Prop:=-1000000000<=n/\n<=1000000000
instance(n:Int):Decidable (inV n):=inferInstanceAs(Decidable (_/\_))
def V3.ok(v:V3):Prop:=inV v.a/\inV v.b/\inV v.c
instance(v:V3):Decidable v.ok:=inferInstanceAs(Decidable (_/\_/\_))
theorem wX{v:V3}:v.ok↔∀i,i<3->inV (v.get i):=by
 constructor
 · rintro ⟨m,h2,z⟩ i hi
   rcases i with _|_|_|i
   · exact m
   · exact h2
   · exact z
   · omega
 · intro h;exact ⟨h 0 A0,h 1 A0,h 2 A0⟩
theorem uI{v:V3}{i:Nat}(h:∀j,j<i->inV (v.get j))(hi:inV (v.get i)):∀j,j<i+1->inV (v.get j):=by
 intro j m;rcases FA j i with h9|h9
 · exact h j h9
 · have e:j=i:=by omega
   rw [e];exact hi
structure F5 where
 i:Nat
 o:Oper
 v:A3
 C:List AR
 k:Bool
def lay(p:F5->Bool):List F5->Act->Act
 |[],a=>a
 |e::l,a=>lay p l (if p e then a.put e.o.dst e.v else a)
def tv(p:F5->Bool)(t:Nat):List F5->Option A3->Option A3
 |[],d=>d
 |e::l,d=>tv p t l (if p e=true/\e.o.dst=some t then some e.v else d)
theorem DX(p:F5->Bool):∀(l:List F5) (a:Act),(lay p l a).tmps.size=a.tmps.size
 |[],_=>rfl
 |e::l,a=>by simp only [lay];rw [DX p l];split<;>simp [EP]
theorem Fh(p:F5->Bool):∀(l:List F5) (a:Act),(lay p l a).defers=a.defers
 |[],_=>rfl
 |e::l,a=>by simp only [lay];rw [Fh p l];split<;>simp [KT]
theorem EN(p:F5->Bool)(t:Nat):∀(l:List F5) (a:Act),t<a.tmps.size->(lay p l a).tmps[t]?=tv p t l a.tmps[t]?
 |[],_,_=>rfl
 |e::l,a,ht=>by
  simp only [lay,tv];rw [EN p t l _ (by split<;>simpa [EP]using ht)];congr 1;by_cases m:p e=true;· simp only [m,Mp,fX];rw [Jb _ _ _ _ ht]
  · simp [m]
theorem FO(p q:F5->Bool)(t:Nat):∀(l:List F5) (d:Option A3),(∀e∈l,e.o.dst=some t->p e=q e)->tv p t l d=tv q t l d
 |[],_,_=>rfl
 |e::l,d,h=>by
  simp only [tv];have h0:(if p e=true/\e.o.dst=some t then some e.v else d)=(if q e=true/\e.o.dst=some t then some e.v else d):=by
   by_cases m:e.o.dst=some t
   · rw [h e (P0 ..) m]
   · simp [m]
  rw [h0];exact FO p q t l _ fun e' z=>h e' (Mu _ z)
theorem WU(p:F5->Bool)(t:Nat):∀(l:List F5) (d:Option A3),(∀e∈l,e.o.dst=some t->p e=false)->tv p t l d=d
 |[],_,_=>rfl
 |e::l,d,h=>by
  simp only [tv];rw [Ax (fun m=>by rw [h e (P0 ..) m.2]at m;cases m.1)];exact WU p t l d fun e' z=>h e' (Mu _ z)
theorem Pv(p:F5->Bool)(t:Nat):∀(l m:List F5) (d:Option A3),tv p t (l++m) d=tv p t m (tv p t l d)
 |[],_,_=>rfl
 |e::l,m,d=>by simp only [cX,tv];exact Pv p t l m _
theorem OD(p:F5->Bool):∀(l m:List F5) (a:Act),lay p (l++m) a=lay p m (lay p l a)
 |[],_,_=>rfl
 |e::l,m,a=>by simp only [cX,lay];exact OD p l m _
def qS(A:List Nat)(o:Oper):Nat:=o.after.toList.foldl (fun m e=>if Region.binds .any e then m|||(1<<<e.on)|||A.getD e.on 0 else m) 0
def TS(ops:Array Oper)(A:List Nat)(N:Nat):Bool:=
 decide (A.length=ops.size)&&
 (List.range ops.size).all fun j=>match ops[j]?with
   |none=>false
   |some oj=>
    (qS A oj==A.getD j 0)&&
    (oj.after.toList.all fun e=>!Region.binds .any e||decide (e.on<j))&&
    ((List.range j).all fun i=>match ops[i]?with
      |none=>false
      |some oi=>oi.apart ops oj||(A.getD j 0).testBit i)&&
    EB oj.op&&(match oj.op with| .select ..=>false|_=>true)&&UR N oj.dst
structure JR(ops:Array Oper)(A:List Nat)(N:Nat):Prop where
 len:A.length=ops.size
 edge:∀j oj e,ops[j]?=some oj->e∈oj.after->Region.binds .any e=true->e.on<j
 anc:∀j oj i,ops[j]?=some oj->(A.getD j 0).testBit i=true->∃e∈oj.after,Region.binds .any e=true/\(e.on=i\/(A.getD e.on 0).testBit i=true)
 apart:∀i j oi oj,ops[i]?=some oi->ops[j]?=some oj->i<j->oi.apart ops oj=true\/(A.getD j 0).testBit i=true
 nod:∀(j:Nat) (oj:Oper),ops[j]?=some oj->EB oj.op=true
 sel:∀(j:Nat) (oj:Oper) (cs:Array SelectCase) (b:Bool),ops[j]?=some oj->oj.op≠ .select cs b
 room:∀(j:Nat) (oj:Oper) (d:Nat),ops[j]?=some oj->oj.dst=some d->d<N
theorem WG{A:List Nat}{i:Nat}:∀(l:List Edge) (m:Nat),(l.foldl (fun m e=>if Region.binds .any e then m|||(1<<<e.on)|||A.getD e.on 0 else m) m).testBit i=true->m.testBit i=true\/∃e∈l,Region.binds .any e=true/\(e.on=i\/(A.getD e.on 0).testBit i=true)
 |[],m,h=> .inl h
 |e::l,m,h=>by
  simp only [ZS]at h;rcases WG l _ h with h1|⟨e',he,h2⟩
  · by_cases z:Region.binds .any e=true
    · rw [B2 z,mm,mm]at h1
      simp only [Wa]at h1;rcases h1 with(h1|h1)|h1
      · exact .inl h1
      · refine .inr ⟨e,P0 ..,z,.inl ?_⟩
        rw [Nat.one_shiftLeft,Nat.testBit_two_pow]at h1;simpa using h1
      · exact .inr ⟨e,P0 ..,z,.inr h1⟩
    · rw [Ax z]at h1;exact .inl h1
  · exact .inr ⟨e',Mu _ he,h2⟩
theorem eD{ops:Array Oper}{A:List Nat}{N:Nat}(h:TS ops A N=true):JR ops A N:=by
 simp only [TS,HB,LL,PF,N6]at h;obtain ⟨h0,h⟩:=h;have z:∀{j:Nat} {o:Oper},ops[j]?=some o->j<ops.size:=fun m=>(LO.1 m).1
 refine ⟨h0,fun j oj e m G E=>?_,fun j oj i m E=>?_,fun i j M oj hi m I=>?_,fun j oj m=>?_,fun j oj cs b m K=>?_,fun j oj d m J=>?_⟩
 · have:=h j (z m)
   simp only [m,HB,PF]at this;have:=this.1.1.1.1.2 e (by simpa using G)
   simpa [E]using this
 · have:=h j (z m)
   simp only [m,HB]at this;have:=this.1.1.1.1.1
   simp only [beq_iff_eq]at this;rw [<-this]at E;rcases WG _ _ E with h1|⟨e,G,h1⟩
   · simp at h1
   · exact ⟨e,by simpa using G,h1⟩
 · have:=h j (z m)
   simp only [m,HB,PF,N6]at this;have:=this.1.1.1.2 i I
   simp only [hi,Wa]at this;exact this
 · have:=h j (z m)
   simp only [m,HB]at this;exact this.1.1.2
 · have:=h j (z m)
   simp only [m,HB]at this;rw [K]at this;simp at this
 · have:=h j (z m)
   simp only [m,HB]at this;exact Gr this.2 d J
def fu(ops:Array Oper)(L:Array Bool):Prop:=∀j oj,ops[j]?=some oj->L.getD j false=true->∀e∈oj.after,Region.binds .any e=true->L.getD e.on false=true
theorem Gb{ops:Array Oper}{A:List Nat}{N:Nat}(F:JR ops A N){L:Array Bool}(W:fu ops L):∀(j i:Nat) (oj:Oper),ops[j]?=some oj->(A.getD j 0).testBit i=true->
 (∀e∈oj.after,Region.binds .any e=true->L.getD e.on false=true)->L.getD i false=true:=by
 intro j;induction j using Nat.strongRecOn with
 |ind j ih=>
  intro i oj M X U;obtain ⟨e,J,m,z⟩:=F.anc j oj i M X;rcases z with rfl|z
  · exact U e J m
  · have O:=F.edge j oj e M J m
    obtain ⟨G,E⟩:∃G,ops[e.on]?=some G:=⟨_,KK (by have:=(LO.1 M).1;omega)⟩;exact ih e.on O i G E z (fun e' K I=>W e.on G E (U e J m) e' K I)
theorem Ls{ops:Array Oper}{o:Oper}{a b:Act}(h:∀t∈o.looksAt ops,a.tmps[t]?=b.tmps[t]?):∀x∈o.op.operands,a.eval x=b.eval x:=by
 intro x hx;cases x with
 |tmp t=>
  have m:t∈o.looksAt ops:=HE _ (cW.2 ⟨.tmp t,by simpa using hx,rfl⟩);have:=h t m
  simp only [Act.eval,Lw,this]
 |_=>rfl
def bit(m i:Nat):Bool:=Nat.testBit m i
def FL(m n:Nat):Bool:=Nat.beq (Nat.land m n) m
theorem Ri{m n i:Nat}(h:FL m n=true)(z:m.testBit i=true):n.testBit i=true:=by
 have E:m&&&n=m:=lf h;rw [<-E,jz]at z;simp only [HB]at z;exact z.2
def nq(P:Program)(ops:Array Oper)(o:Oper)(env:Env)(C:List AR)(v:A3):Prop:=((∀a,wantedE ops a env o.guard=true)/\OpP P o env C v)\/((∀a,wantedE ops a env o.guard=false)/\v=undef/\C=[])
theorem IE{ops:Array Oper}{o:Oper}{a b:Act}(h:∀t∈o.looksAt ops,a.tmps[t]?=b.tmps[t]?):Region.wanted o (yielded ops a.tmps)=Region.wanted o (yielded ops b.tmps):=by
 unfold Region.wanted;cases hg:o.guard with
 |none=>rfl
 |some gw=>
  obtain ⟨g,m⟩:=gw;simp only [yielded];cases ht:(ops[g]?).bind (·.dst)with
  |none=>rfl
  |some t=>
   have:=h t (by unfold Oper.looksAt;rw [hg];simp only [GS];right;rw [ht];simp);simp only [I0,this]
section
variable(P:Program)(ops:Array Oper)(A:List Nat)(F:Nat)(cx:Cx)(Q:Exit->Act->AD->Prop)
def Ll(D:Nat):List Nat:=(List.range ops.size).filter fun f=>bit F f&&!bit D f&&FL (A.getD f 0) D
def lW(D:Nat):Bool:=(List.range ops.size).all fun i=>bit F i||bit D i||!FL (Nat.land (A.getD i 0) F) D
def Lin:Nat->Nat->List (Nat×AR)->Env->Hp->Prop
 |0,_,_,env,H=>Nx cx (Q .normal) env H
 |n+1,D,T,env,H=>
  (∃i o v C,ops[i]?=some o/\bit D i=false/\FL (A.getD i 0) D=true/\(∀c∈C,c∈H.flatten)/\nq P ops o env C v/\Lin n (D|||(1<<<i)) (C.map (fun c=>(i,c))++T) (putE o.dst v env) H)\/
  (lW ops A F D=true/\∀f∈Ll ops A F D,∃o T',ops[f]?=some o/\(∀a,wantedE ops a env o.guard=true)/\(∀p∈T,bit (A.getD f 0) p.1=true\/p∈T')/\
    OpW P cx.u o env H (fun v H'=>(∀p∈T',p.2∈H'.flatten)/\Lin n (D|||(1<<<f)) T' (putE o.dst v env) H') (fun ch H'=>∀env,Nx cx (Q (.panic ch)) env H'))
end
section
variable{P:Program}{ops:Array Oper}{A:List Nat}{F:Nat}{N:Nat}{cx:Cx}{Q:Exit->Act->AD->Prop}{a0:Act}{env0:Env}
def GJ(env0:Env):List F5->Env
 |[]=>env0
 |e::x=>GJ (putE e.o.dst e.v env0) x
theorem Lu:∀(x y:List F5) (env0:Env),GJ env0 (x++y)=GJ (GJ env0 x) y
 |[],_,_=>rfl
 |e::x,y,env0=>by simp only [cX,GJ];exact Lu x y _
theorem Ig(a0:Act):∀(x:List F5) (env0:Env),Ck (GJ env0 x) a0=lay (fun _=>true) x (Ck env0 a0)
 |[],_=>rfl
 |e::x,env0=>by simp only [GJ,lay,Mp];rw [Ig a0 x,NK]
structure Kg(P:Program)(ops:Array Oper)(A:List Nat)(F:Nat)(cx:Cx)(Q:Exit->Act->AD->Prop)(a0:Act)(env0:Env)(L:Array Bool)(a:Act)(w:AD)(x:List F5)(D:Nat)(T:List (Nat×AR))(H:Hp):Prop where
 size:L.size=ops.size
 shut:fu ops L
 act:a=lay (fun e=>L.getD e.i false) x (Ck env0 a0)
 sat:Sat cx.u H w
 mask:∀i,bit D i=true↔∃e∈x,e.i=i
 nodup:(x.map (·.i)).Nodup
 isop:∀e∈x,ops[e.i]?=some e.o
 listed:∀i,L.getD i false=true->bit D i=true
 effs:∀e∈x,e.k=true->L.getD e.i false=true
 order:∀x1 e x2,x=x1++e::x2->∀i,(A.getD e.i 0).testBit i=true->∃e'∈x1,e'.i=i
 pend:∀x1 e x2,x=x1++e::x2->e.k=false->nq P ops e.o (GJ env0 x1) e.C e.v
 reads:∀e∈x,L.getD e.i false=false->∀c∈e.C,(e.i,c)∈T/\c∈H.flatten
 fit:Fit cx.N (GJ env0 x)
 walk:Lin P ops A F cx Q (ops.size -x.length) D T (GJ env0 x) H
theorem U0(D i j:Nat):bit (D|||(1<<<i)) j=true↔bit D j=true\/i=j:=by
 unfold bit;rw [mm,Wa,Nat.one_shiftLeft,Nat.testBit_two_pow];simp
theorem gK(U:JR ops A N){L:Array Bool}{a:Act}{w:AD}{x:List F5}{D:Nat}{T:List (Nat×AR)}{H:Hp}(h:Kg P ops A F cx Q a0 env0 L a w x D T H)
 {M O:List F5}{e:F5}(hx:x=M++e::O)(ax:L.getD e.i false=false)(J:∀g∈e.o.after,Region.binds .any g=true->L.getD g.on false=true)
 {t:Nat}(z:t∈e.o.looksAt ops\/e.o.dst=some t):(∀k∈M,k.o.dst=some t->L.getD k.i false=true)/\(∀k∈O,k.o.dst=some t->L.getD k.i false=false):=by
 have he:ops[e.i]?=some e.o:=h.isop e (by rw [hx];simp);have I:∀k,k∈M\/k∈O->k.i≠e.i:=fun k hk hh=>by
  have hn:=h.nodup;rw [hx,HD,L3,S6]at hn;obtain ⟨X,h2,W⟩:=hn;rcases hk with hk|hk
  · exact W k.i (S0 hk) e.i (P0 ..) hh
  · rw [cf]at h2
    exact h2.1 (hh▸S0 hk)
 have ord:∀k:F5,ops[k.i]?=some k.o->k.i≠e.i->k.o.dst=some t->(A.getD e.i 0).testBit k.i=true\/(A.getD k.i 0).testBit e.i=true:=by
  intro k hk af E;rcases Nat.lt_or_gt_of_ne af with hlt|hlt
  · rcases U.apart k.i e.i k.o e.o hk he hlt with hap|hb
    · exfalso
      obtain ⟨X,h2,W⟩:=Oper.apart_spec hap;rcases z with z|z
      · exact X t E z
      · exact h2 t E z
    · exact .inl hb
  · rcases U.apart e.i k.i e.o k.o he hk hlt with hap|hb
    · exfalso
      obtain ⟨X,h2,W⟩:=Oper.apart_spec hap;rcases z with z|z
      · exact W t E z
      · exact h2 t z E
    · exact .inr hb
 refine ⟨fun k hk E=>?_,fun k hk E=>?_⟩
 · have m:=h.isop k (by rw [hx];simp [hk])
   rcases ord k m (I k (.inl hk)) E with hb|hb
   · exact Gb U h.shut e.i k.i e.o he hb J
   · exfalso
     obtain ⟨y1,y2,hy⟩:=iz hk;obtain ⟨e',G,hi⟩:=h.order y1 k (y2++e::O) (by rw [hx,hy];simp) e.i hb;have K:e'∈M:=by rw [hy];simp [G]
     exact I e' (.inl K) hi
 · have m:=h.isop k (by rw [hx];simp [hk])
   rcases ord k m (I k (.inr hk)) E with hb|hb
   · exfalso
     obtain ⟨e',G,hi⟩:=h.order M e O hx k.i hb;have hn:=h.nodup
     rw [hx,HD,L3,S6]at hn;exact hn.2.2 e'.i (S0 G) k.i (Mu _ (S0 hk)) hi
   · cases hl:L.getD k.i false with
     |false=>rfl
     |true=>
      have:=Gb U h.shut k.i e.i k.o m hb (fun g hg Z=>h.shut k.i k.o m hl g hg Z);rw [ax]at this;cases this
theorem eB(M:JR ops A N){L:Array Bool}{a:Act}{w:AD}{x:List F5}{D:Nat}{T:List (Nat×AR)}{H:Hp}(h:Kg P ops A F cx Q a0 env0 L a w x D T H)
 {I K:List F5}{e:F5}(hx:x=I++e::K)(E:L.getD e.i false=false)(z:∀g∈e.o.after,Region.binds .any g=true->L.getD g.on false=true):
 ∀t∈e.o.looksAt ops,a.tmps[t]?=(Ck (GJ env0 I) a0).tmps[t]?:=by
 intro t U;have J:=gK M h hx E z (.inl U)
 have O:a.tmps.size=(Ck env0 a0).tmps.size:=by rw [h.act,DX]
 by_cases m:t<(Ck env0 a0).tmps.size
 · rw [h.act,Ig,EN _ _ _ _ m,EN _ _ _ _ m,hx,Pv]
   rw [WU _ t (e::K) _ (fun k hk G=>by
    rcases H4.1 hk with rfl|hk
    · exact E
    · exact J.2 k hk G)]
   exact FO _ _ t I _ fun k hk G=>by rw [J.1 k hk G]
 · rw [Lk (by rw [O];exact ee m),Lk (by rw [Ig,DX];exact ee m)]
theorem F3(L:Array Bool)(j i:Nat)(m:j<L.size):(L.setIfInBounds j true).getD i false=if i=j then true else L.getD i false:=by
 by_cases e:i=j
 · subst e;simp [m]
 · rw [getD_set_ne false (Ne.symm e),Ax e]
theorem vL(W:JR ops A N){L:Array Bool}{a:Act}{w:AD}{x:List F5}{D:Nat}{T:List (Nat×AR)}{H:Hp}(h:Kg P ops A F cx Q a0 env0 L a w x D T H)
 {Z x2:List F5}{e:F5}(hx:x=Z++e::x2)(O:L.getD e.i false=false)(G:∀g∈e.o.after,Region.binds .any g=true->L.getD g.on false=true):
 a.put e.o.dst e.v=lay (fun k=>(L.setIfInBounds e.i true).getD k.i false) x (Ck env0 a0):=by
 have U:ops[e.i]?=some e.o:=h.isop e (by rw [hx];simp);have M:e.i<L.size:=by rw [h.size];exact (LO.1 U).1
 refine Jh (by rw [EP,DX,h.act,DX]) (by rw [KT,Fh,h.act,Fh]) fun t J=>?_;rw [EP]at J;have I:t<(Ck env0 a0).tmps.size:=by rw [h.act,DX]at J;exact J
 rw [Jb _ _ _ _ J,EN _ _ _ _ I];by_cases E:e.o.dst=some t
 · rw [B2 E]
   have X:=gK W h hx O G (.inr E);rw [hx,Pv];simp only [tv];rw [B2 ⟨by rw [F3 _ _ _ M,B2 rfl],E⟩];rw [WU];intro k hk z;have m:k.i≠e.i:=fun K=>by
    have hn:=h.nodup;rw [hx,HD,L3,S6,cf]at hn;exact hn.2.1.1 (K▸S0 hk)
   rw [F3 _ _ _ M,Ax m];exact X.2 k hk z
 · rw [Ax E,h.act,EN _ _ _ _ I]
   refine FO _ _ t x _ fun k hk z=>?_;rw [F3 _ _ _ M];by_cases m:k.i=e.i
   · exfalso
     have:=h.isop k hk;rw [m,U]at this;obtain K:=SD this;rw [K]at E;exact E z
   · rw [Ax m]
theorem Y0{L:Array Bool}(M:fu ops L){j:Nat}(K:j<L.size){oj:Oper}(E:ops[j]?=some oj)(m:∀g∈oj.after,Region.binds .any g=true->L.getD g.on false=true):fu ops (L.setIfInBounds j true):=by
 intro k ok hk z g J I;rw [F3 _ _ _ K]at z⊢;by_cases G:k=j
 · subst G
   rw [E]at hk;obtain rfl:=SD hk;rw [m g J I];simp
 · rw [Ax G]at z
   rw [M k ok hk z g J I];simp
theorem qO(FT:JR ops A cx.N){L:Array Bool}{a:Act}{w:AD}{j:Nat}{oj:Oper}(Z:ops[j]?=some oj)(l8:L.getD j false=false)(ax:∀g∈oj.after,Region.binds .any g=true->L.getD g.on false=true):
 ∀(n:Nat) (x:List F5) (D:Nat) (T:List (Nat×AR)) (H:Hp),ops.size -x.length=n->Kg P ops A F cx Q a0 env0 L a w x D T H->
  (∃x' D' T',Kg P ops A F cx Q a0 env0 L a w x' D' T' H/\bit D' j=true)\/
  (∃x' D' T',Kg P ops A F cx Q a0 env0 L a w x' D' T' H/\j∈Ll ops A F D'/\lW ops A F D'=true/\∃m,ops.size -x'.length=m+1/\∃o X,ops[j]?=some o/\(∀a,wantedE ops a (GJ env0 x') o.guard=true)/\(∀p∈T',bit (A.getD j 0) p.1=true\/p∈X)/\
    OpW P cx.u o (GJ env0 x') H (fun v H'=>(∀p∈X,p.2∈H'.flatten)/\Lin P ops A F cx Q m (D'|||(1<<<j)) X (putE o.dst v (GJ env0 x')) H') (fun ch H'=>∀env,Nx cx (Q (.panic ch)) env H')):=by
 intro n;induction n with
 |zero=>
  intro x D T H hn h;left;refine ⟨x,D,T,h,?_⟩;have J:j<ops.size:=(LO.1 Z).1
  have W:ops.size<=(x.map (·.i)).length:=by rw [C2];omega
  have cO:∀i∈x.map (·.i),i<ops.size:=fun i hi=>by
   obtain ⟨e,E,rfl⟩:=HX.1 hi;exact (LO.1 (h.isop e E)).1
  have:j∈x.map (·.i):=by
   apply Z1;intro gm;have ek:=nw (l₁:=j::x.map (·.i)) (l₂:=List.range ops.size) (cf.2 ⟨gm,h.nodup⟩) (fun i hi=>by
    rcases H4.1 hi with rfl|hi
    · exact N6.2 J
    · exact N6.2 (cO i hi))
   simp only [GB,C2,ft]at ek;omega
  obtain ⟨e,E,hi⟩:=HX.1 this;exact (h.mask j).2 ⟨e,E,hi⟩
 |succ n ih=>
  intro x D T H hn h;by_cases hD:bit D j=true;· exact .inl ⟨x,D,T,h,hD⟩
  · have hw:=h.walk
    rw [hn]at hw;simp only [Lin]at hw;rcases hw with⟨i,o,v,C,ho,bn,kv,hC,gq,hk⟩|⟨hfull,hk⟩
    ·
     have cu:∀e∈x,e.i≠i:=fun e E hh=>by
      have:=(h.mask i).2 ⟨e,E,hh⟩;rw [bn]at this;cases this
     have d9:L.getD i false=false:=by
      cases hl:L.getD i false with
      |false=>rfl
      |true=>have:=h.listed i hl;rw [bn]at this;cases this
     have bf:lay (fun e=>L.getD e.i false) (x++[⟨i,o,v,C,false⟩]) (Ck env0 a0)=a:=by
      rw [OD,<-h.act];simp only [lay,d9];rfl
     have I:∀(s1:List F5) (e:F5) (s2:List F5),x++[⟨i,o,v,C,false⟩]=s1++e::s2->(∃K,s2=K++[⟨i,o,v,C,false⟩]/\x=s1++e::K)\/(s2=[]/\e=⟨i,o,v,C,false⟩/\s1=x):=by
      intro s1 e s2 hs;rcases eJ s2 with rfl|⟨K,z,rfl⟩
      · right
        have:=fx hs rfl;exact ⟨V,(by simpa using this.2.symm),this.1.symm⟩
      · left
        have gy:x++[⟨i,o,v,C,false⟩]=(s1++e::K)++[z]:=by rw [hs];simp
        have:=fx gy rfl;have hz:z=⟨i,o,v,C,false⟩:=by simpa using this.2.symm
        exact ⟨K,by rw [hz];simp,this.1⟩
     have U:GJ env0 (x++[⟨i,o,v,C,false⟩])=putE o.dst v (GJ env0 x):=by rw [Lu];rfl
     refine ih (x++[⟨i,o,v,C,false⟩]) (D|||(1<<<i)) (C.map (fun c=>(i,c))++T) H Of ⟨h.size,h.shut,bf.symm,h.sat,fun k=>?_,?_,fun e E=>?_,fun k hk=>?_,fun k hk hf=>?_,fun s1 e s2 hs k O=>?_,fun s1 e s2 hs hf=>?_,fun e E hl c hc=>?_,?_,?_⟩
     · rw [U0,h.mask k]
       constructor
       · rintro (⟨e,E,hi⟩|rfl)
         · exact ⟨e,by simp [E],hi⟩
         · exact ⟨⟨i,o,v,C,false⟩,by simp,rfl⟩
       · rintro ⟨e,E,hi⟩
         rcases GS.1 E with E|E
         · exact .inl ⟨e,E,hi⟩
         · simp only [HA]at E;subst E;exact .inr hi
     · rw [HD,S6]
       refine ⟨h.nodup,by simp,fun p hp q hq=>?_⟩;simp only [L3,NO,HA]at hq;subst hq;obtain ⟨e,E,rfl⟩:=HX.1 hp;exact cu e E
     · rcases GS.1 E with E|E
       · exact h.isop e E
       · simp only [HA]at E;subst E;exact ho
     · exact (U0 _ _ _).2 (.inl (h.listed k hk))
     · rcases GS.1 hk with hk|hk
       · exact h.effs k hk hf
       · rw [HA.1 hk]at hf;cases hf
     · rcases I s1 e s2 hs with⟨K,_,af⟩|⟨_,rfl,rfl⟩
       · exact h.order s1 e K af k O
       · exact (h.mask k).1 (Ri kv O)
     · rcases I s1 e s2 hs with⟨K,_,af⟩|⟨_,rfl,rfl⟩
       · exact h.pend s1 e K af hf
       · exact gq
     · rcases GS.1 E with E|E
       · have:=h.reads e E hl c hc
         exact ⟨G2 _ this.1,this.2⟩
       · simp only [HA]at E;subst E
         exact ⟨HE _ (HX.2 ⟨c,hc,V⟩),hC c hc⟩
     · rw [U];exact h.fit.putE (fun t ht=>FT.room i o t ho ht) v
     · have W:ops.size -(x++[(⟨i,o,v,C,false⟩:F5)]).length=n:=by simp;omega
       rw [U,W];exact hk
    ·
     right;have J:j<ops.size:=(LO.1 Z).1
     have M:∀i,(A.getD j 0).testBit i=true->bit D i=true:=fun i O=>h.listed i (Gb FT h.shut j i oj Z O ax);have kz:FL (A.getD j 0) D=true:=by
      unfold FL;have:Nat.land (A.getD j 0) D=A.getD j 0:=by
       apply Nat.eq_of_testBit_eq;intro i;show(A.getD j 0&&&D).testBit i=_
       rw [jz];cases O:(A.getD j 0).testBit i with
       |false=>rfl
       |true=>rw [show D.testBit i=true from M i O];rfl
      rw [this];exact Nat.beq_refl _
     have hF:bit F j=true:=by
      have:=PF.1 hfull j (N6.2 J);simp only [Wa,S7]at this;rcases this with(h1|h1)|h1
      · exact h1
      · exact absurd h1 hD
      · exfalso
        have:FL (Nat.land (A.getD j 0) F) D=true:=by
         unfold FL;have:Nat.land (Nat.land (A.getD j 0) F) D=Nat.land (A.getD j 0) F:=by
          apply Nat.eq_of_testBit_eq;intro i;show((A.getD j 0&&&F)&&&D).testBit i=(A.getD j 0&&&F).testBit i
          rw [jz (A.getD j 0&&&F),jz];cases O:(A.getD j 0).testBit i with
          |false=>rfl
          |true=>rw [show D.testBit i=true from M i O];simp
         rw [this];exact Nat.beq_refl _
        rw [this]at h1;cases h1
     have G:j∈Ll ops A F D:=PA.2 ⟨N6.2 J,by rw [hF,kz];simp only [Bool.not_eq_true]at hD;rw [hD];rfl⟩;exact ⟨x,D,T,h,G,hfull,n,hn,hk j G⟩
theorem Uf{r:Option Nat}{i:Nat}{o:Oper}{a:Act}{w:AD}{K:Act->AD->Prop}(hi:ops[i]?=some o)(m:Region.wanted o (yielded ops a.tmps)=true)(h:o.wpIn (Fx r) 0 P a w K Q):wpOpIn (Fx r) 0 P ops Q i K a w:=by
 unfold wpOpIn;simp only [hi];rw [B2 m];exact h
theorem jJ{r:Option Nat}{i:Nat}{o:Oper}{a:Act}{w:AD}{K:Act->AD->Prop}(hi:ops[i]?=some o)(m:Region.wanted o (yielded ops a.tmps)=false)(h:K (a.put o.dst undef) w):wpOpIn (Fx r) 0 P ops Q i K a w:=by
 unfold wpOpIn;simp only [hi];rw [Ax (by rw [m];simp)];exact ⟨fun _ _=>trivial,h⟩
theorem XC(hN:a0.tmps.size=cx.N)(hD:a0.defers=cx.D)(pg:Fit cx.N env0)(FT:JR ops A cx.N):∀(U:Nat) (L:Array Bool) (a:Act) (w:AD) (x:List F5) (D:Nat) (T:List (Nat×AR)) (H:Hp),
 ((List.range ops.size).countP fun i=>!L.getD i false)<=U->Kg P ops A F cx Q a0 env0 L a w x D T H->wpAnyIn (Fx cx.r) 0 P .any ops Q U L a w:=by
 have kv:∀(L:Array Bool),L.size=ops.size->Region.ready .any ops L=[]->∀j,j<ops.size->L.getD j false=true:=by
  intro L qw hr j;induction j using Nat.strongRecOn with
  |ind j ih=>
   intro hj;cases Z:L.getD j false with
   |true=>rfl
   |false=>
    obtain ⟨oj,G⟩:∃oj,ops[j]?=some oj:=⟨_,KK hj⟩;have:j∈Region.ready .any ops L:=mem_ready.2 ⟨by
     rw [Lw,KK (by rw [qw];exact hj)]at Z⊢;simpa using Z,oj,G,fun e J X=>by
      have:=FT.edge j oj e G J X;exact ih e.on this A0⟩
    rw [hr]at this;cases this
 have gy:∀(L:Array Bool) (a:Act) (w:AD) (x:List F5) (D:Nat) (T:List (Nat×AR)) (H:Hp),Kg P ops A F cx Q a0 env0 L a w x D T H->Region.ready .any ops L=[]->Q .normal a w:=by
  intro L a w x D T H h hr;have K:=kv L h.size hr
  have qz:ops.size<=x.length:=by
   have q9:=nw (l₁:=List.range ops.size) (l₂:=x.map (·.i)) mT (fun i hi=>by
    obtain ⟨e,J,pz⟩:=(h.mask i).1 (h.listed i (K i (N6.1 hi)));exact HX.2 ⟨e,J,pz⟩)
   simpa using q9
  have hw:=h.walk;rw [show ops.size -x.length=0 by omega]at hw;simp only [Lin]at hw;have ha:a=Ck (GJ env0 x) a0:=by
   rw [h.act,Ig];refine Jh (by rw [DX,DX]) (by rw [Fh,Fh]) fun t ht=>?_;rw [DX]at ht;rw [EN _ _ _ _ ht,EN _ _ _ _ ht];exact FO _ _ t x _ fun e J _=>K e.i (LO.1 (h.isop e J)).1
  rw [ha];exact hw a0 w ⟨hN,hD,h.fit,h.sat⟩
 intro U;induction U with
 |zero=>
  intro L a w x D T H hc h;have hr:Region.ready .any ops L=[]:=by
   cases hr:Region.ready .any ops L with
   |nil=>rfl
   |cons j js=>
    have hj:j∈Region.ready .any ops L:=by rw [hr];exact P0 ..
    obtain ⟨ax,oj,G,_⟩:=mem_ready.1 hj;have bn:j<ops.size:=(LO.1 G).1
    have W:L.getD j false=false:=by
     rw [Lw]at ax⊢;rw [KK (by rw [h.size];exact bn)]at ax⊢;simpa using ax
    have:0<(List.range ops.size).countP fun i=>!L.getD i false:=List.countP_pos_iff.2 ⟨j,N6.2 bn,by rw [W];rfl⟩;omega
  exact ⟨hr,gy L a w x D T H h hr⟩
 |succ U ih=>
  intro L a w x D T H hc h;refine ⟨fun hr=>gy L a w x D T H h hr,fun j hj=>?_⟩;obtain ⟨ax,oj,G,K⟩:=mem_ready.1 hj;have bn:j<ops.size:=(LO.1 G).1
  have M:j<L.size:=by rw [h.size];exact bn
  have W:L.getD j false=false:=by
   rw [Lw]at ax⊢;rw [KK M]at ax⊢;simpa using ax
  have gm:((List.range ops.size).countP fun i=>!(L.setIfInBounds j true).getD i false)<=U:=by
   have cu:((List.range ops.size).countP fun i=>!(L.setIfInBounds j true).getD i false)<(List.range ops.size).countP fun i=>!L.getD i false:=by
    obtain ⟨r1,r2,hr⟩:=iz (N6.2 bn);rw [hr,j0,j0,List.countP_cons,List.countP_cons];have cO:∀l:List Nat,(l.countP fun i=>!(L.setIfInBounds j true).getD i false)<=l.countP fun i=>!L.getD i false:=fun l=>List.countP_mono_left fun i _ hi=>by
     rw [F3 _ _ _ M]at hi;split at hi;· simp at hi
     · exact hi
    have h1:=cO r1;have h2:=cO r2
    have e1:(!(L.setIfInBounds j true).getD j false)=false:=by rw [F3 _ _ _ M];simp
    have e2:(!L.getD j false)=true:=by rw [W];rfl
    rw [e1,e2];simp only [PC,LN,Mp];omega
   omega
  rcases qO FT G W K _ x D T H rfl h with⟨x',D',T',I,l9⟩|⟨x',D',T',I,hnext,hfull,m,hm,o,T'',ho,hwt,hT,hW⟩
  ·
   obtain ⟨e,J,p8⟩:=(I.mask j).1 l9;obtain ⟨x1,x2,hx⟩:=iz J;subst p8;have p9:e.o=oj:=by have:=I.isop e J;rw [G]at this;exact (SD this).symm
   subst p9;have qa:e.k=false:=by
    cases X:e.k with
    |false=>rfl
    |true=>have:=I.effs e (by rw [hx];simp) X;rw [W]at this;cases this
   have hP:=I.pend x1 e x2 hx qa;have O:=eB FT I hx W K
   have af:Fit a0.tmps.size (GJ env0 x1):=by
    have:∀(l:List F5) (E:Env),(∀k∈l,ops[k.i]?=some k.o)->Fit cx.N E->Fit cx.N (GJ E l):=by
     intro l;induction l with
     |nil=>intro E _ h;exact h
     |cons k l ihl=>intro E hk h;exact ihl _ (fun q hq=>hk q (Mu _ hq)) (h.putE (fun t ht=>FT.room k.i k.o t (hk k (P0 ..)) ht) _)
    rw [hN];exact this x1 env0 (fun k hk=>I.isop k (by rw [hx];simp [hk])) pg
   have pq:wpAnyIn (Fx cx.r) 0 P .any ops Q U (L.setIfInBounds e.i true) (a.put e.o.dst e.v) w->wpOpIn (Fx cx.r) 0 P ops Q e.i (wpAnyIn (Fx cx.r) 0 P .any ops Q U (L.setIfInBounds e.i true)) a w:=fun hz=>by
    rcases hP with⟨hy,hP⟩|⟨hno,hv,_⟩
    · refine Uf G (by rw [IE O,FM ops e.o a0 _ af];exact hy a0) ⟨fun _ _=>trivial,RQ ?_⟩
      rw [Oq (KX (FT.nod e.i e.o G))];rw [execOp_congr e.o (FT.sel e.i e.o · · G) (Ls O),FQ a0 _ af];rw [hP a0 w fun c hc=>I.sat.get c (I.reads e J W c hc).2];exact hz
    · refine jJ G (by rw [IE O,FM ops e.o a0 _ af];exact hno a0) ?_
      rw [<-hv];exact hz
   refine pq ?_;refine ih (L.setIfInBounds e.i true) _ w x' D' T' H gm ⟨by simp [I.size],Y0 I.shut M G K,vL FT I hx W K,I.sat,I.mask,I.nodup,I.isop,fun k hk=>?_,fun k hk hf=>?_,I.order,I.pend,fun k hk Z c hc=>?_,I.fit,I.walk⟩
   · rw [F3 _ _ _ M]at hk
     split at hk
     · rename_i e1;subst e1;exact l9
     · exact I.listed k hk
   · rw [F3 _ _ _ M];split
     · rfl
     · exact I.effs k hk hf
   · rw [F3 _ _ _ M]at Z
     split at Z
     · cases Z
     · exact I.reads k hk Z c hc
  ·
   have qb:o=oj:=by rw [G]at ho;exact (SD ho).symm
   subst qb;obtain ⟨qy,o8,qx⟩:bit F j=true/\bit D' j=false/\FL (A.getD j 0) D'=true:=by
    have:=(PA.1 hnext).2;simp only [HB,S7]at this;exact ⟨this.1.1,this.1.2,this.2⟩
   have bf:∀e∈x',e.i≠j:=fun e J hh=>by
    have:=(I.mask j).2 ⟨e,J,hh⟩;rw [o8]at this;cases this
   have O:∀t∈o.looksAt ops,a.tmps[t]?=(Ck (GJ env0 x') a0).tmps[t]?:=by
    intro t ht;by_cases cu:t<(Ck env0 a0).tmps.size
    · rw [I.act,Ig,EN _ _ _ _ cu,EN _ _ _ _ cu]
      refine FO _ _ t x' _ fun k hk hd=>?_;have lv:=I.isop k hk
      have:(A.getD j 0).testBit k.i=true\/(A.getD k.i 0).testBit j=true:=by
       rcases Nat.lt_or_gt_of_ne (bf k hk)with Z|Z
       · rcases FT.apart k.i j k.o o lv G Z with hap|X
         · exact absurd ht ((Oper.apart_spec hap).1 t hd)
         · exact .inl X
       · rcases FT.apart j k.i o k.o G lv Z with hap|X
         · exact absurd ht ((Oper.apart_spec hap).2.2 t hd)
         · exact .inr X
      rcases this with X|X
      · exact Gb FT I.shut j k.i o G X K
      · exfalso
        obtain ⟨y1,y2,hy⟩:=iz hk;obtain ⟨e',oq,hi⟩:=I.order y1 k y2 hy j X;exact bf e' (by rw [hy];simp [oq]) hi
    · have hs:a.tmps.size=(Ck env0 a0).tmps.size:=by rw [I.act,DX]
      rw [Lk (by rw [hs];exact ee cu),Lk (by rw [Ig,DX];exact ee cu)]
   refine Uf G (by rw [IE O,FM ops o a0 _ (by rw [hN];exact I.fit)];exact hwt a0) ⟨fun _ _=>trivial,RQ ?_⟩;rw [Oq (KX (FT.nod j o G))];rw [execOp_congr o (FT.sel j o · · G) (Ls O),FQ a0 _ (by rw [hN];exact I.fit)];refine hW a0 w I.sat _ _ (fun v H' w' hv d9=>?_) (fun ch H' w' hv d9=>?_)
   · obtain ⟨o9,hk⟩:=hv
     have gq:GJ env0 (x'++[⟨j,o,v,[],true⟩])=putE o.dst v (GJ env0 x'):=by rw [Lu];rfl
     have ek:∀(s1:List F5) (e:F5) (s2:List F5),x'++[⟨j,o,v,[],true⟩]=s1++e::s2->(∃s3,s2=s3++[⟨j,o,v,[],true⟩]/\x'=s1++e::s3)\/(s2=[]/\e=⟨j,o,v,[],true⟩/\s1=x'):=by
      intro s1 e s2 hs;rcases eJ s2 with rfl|⟨s3,z,rfl⟩
      · right
        have:=fx hs rfl;exact ⟨V,(by simpa using this.2.symm),this.1.symm⟩
      · left
        have qo:x'++[⟨j,o,v,[],true⟩]=(s1++e::s3)++[z]:=by rw [hs];simp
        have:=fx qo rfl;have hz:z=⟨j,o,v,[],true⟩:=by simpa using this.2.symm
        exact ⟨s3,by rw [hz];simp,this.1⟩
     refine ih (L.setIfInBounds j true) _ w' (x'++[⟨j,o,v,[],true⟩]) (D'|||(1<<<j)) T'' H' gm ⟨by simp [I.size],Y0 I.shut M G K,?_,d9,fun k=>?_,?_,fun e J=>?_,fun k hk=>?_,fun k hk hf=>?_,fun s1 e s2 hs k X=>?_,fun s1 e s2 hs hf=>?_,fun e J Z c hc=>?_,?_,?_⟩;·
      rw [OD];have kz:lay (fun e=>(L.setIfInBounds j true).getD e.i false) x' (Ck env0 a0)=a:=by
       rw [I.act];refine Jh (by rw [DX,DX]) (by rw [Fh,Fh]) fun t ht=>?_;rw [DX]at ht;rw [EN _ _ _ _ ht,EN _ _ _ _ ht];exact FO _ _ t x' _ fun k hk _=>by rw [F3 _ _ _ M,Ax (bf k hk)]
      rw [kz];simp only [lay];rw [B2 (by rw [F3 _ _ _ M];simp)]
     · rw [U0,I.mask k]
       constructor
       · rintro (⟨e,J,hi⟩|rfl)
         · exact ⟨e,by simp [J],hi⟩
         · exact ⟨⟨j,o,v,[],true⟩,by simp,rfl⟩
       · rintro ⟨e,J,hi⟩
         rcases GS.1 J with J|J
         · exact .inl ⟨e,J,hi⟩
         · simp only [HA]at J;subst J;exact .inr hi
     · rw [HD,S6]
       refine ⟨I.nodup,by simp,fun p hp q hq=>?_⟩;simp only [L3,NO,HA]at hq;subst hq;obtain ⟨e,J,rfl⟩:=HX.1 hp;exact bf e J
     · rcases GS.1 J with J|J
       · exact I.isop e J
       · simp only [HA]at J;subst J;exact G
     · rw [F3 _ _ _ M]at hk
       split at hk
       · rename_i e1;exact (U0 _ _ _).2 (.inr e1.symm)
       · exact (U0 _ _ _).2 (.inl (I.listed k hk))
     · rw [F3 _ _ _ M]
       split;· rfl
       · rename_i hne
         rcases GS.1 hk with hk|hk
         · exact I.effs k hk hf
         · rw [HA.1 hk]at hne;exact absurd rfl hne
     · rcases ek s1 e s2 hs with⟨s3,_,l8⟩|⟨_,rfl,rfl⟩
       · exact I.order s1 e s3 l8 k X
       · exact (I.mask k).1 (Ri qx X)
     · rcases ek s1 e s2 hs with⟨s3,_,l8⟩|⟨_,rfl,rfl⟩
       · exact I.pend s1 e s3 l8 hf
       · cases hf
     · rw [F3 _ _ _ M]at Z
       split at Z
       · cases Z
       · rename_i hne
         rcases GS.1 J with J|J
         · have hr:=I.reads e J Z c hc
           rcases hT (e.i,c) hr.1 with X|X
           · exfalso
             have:=Gb FT I.shut j e.i o G X K;rw [Z]at this;cases this
           · exact ⟨X,o9 _ X⟩
         · simp only [HA]at J;subst J;cases hc
     · rw [gq];exact I.fit.putE (fun t ht=>FT.room j o t G ht) v
     · have mR:ops.size -(x'++[(⟨j,o,v,[],true⟩:F5)]).length=m:=by simp;omega
       rw [gq,mR];exact hk
   · have hp:=hv (GJ env0 x')
     have ha:∃a1,a=Ck (GJ env0 x') a1/\a1.tmps.size=cx.N/\a1.defers=cx.D\/True:=⟨a,.inr trivial⟩;clear ha;have:=hv [] a w' ⟨by rw [I.act,DX,Jo];exact hN,by rw [I.act,Fh,Fu];exact hD,(by intro q hq;cases hq),d9⟩
     exact this
section
variable{n D:Nat}{T:List (Nat×AR)}{env:Env}{H:Hp}
theorem Am(h:Nx cx (Q .normal) env H):Lin P ops A F cx Q 0 D T env H:=h
theorem xD{d:Nat}{E:Op}{ty:An}{pos:String}{af:Array Edge}{v:A3}{D':Nat}(i:Nat)(I:ops[i]?=some ⟨some d,E,ty,pos,af,none⟩)(m:(!bit F i&&!bit D i&&FL (A.getD i 0) D)=true)(G:D|||(1<<<i)=D')(z:OpP P ⟨some d,E,ty,pos,af,none⟩ env [] v)
 (k:Lin P ops A F cx Q n D' T ((d,v)::env) H):Lin P ops A F cx Q (n+1) D T env H:=by
 simp only [HB,S7]at m;subst G;exact .inl ⟨i,_,v,[],I,m.1.2,m.2,by simp,.inl ⟨fun _=>rfl,z⟩,k⟩
theorem Dr{d:Nat}{z:Op}{ty:An}{pos:String}{af:Array Edge}{v:A3}{D':Nat}(i:Nat)(m:OpP P ⟨some d,z,ty,pos,af,none⟩ env [] v)
 (k:Lin P ops A F cx Q n D' T ((d,v)::env) H)(I:ops[i]?=some ⟨some d,z,ty,pos,af,none⟩:=by exact rfl)(E:(!bit F i&&!bit D i&&FL (A.getD i 0) D)=true:=by exact rfl)(G:D|||(1<<<i)=D':=by exact rfl):Lin P ops A F cx Q (n+1) D T env H:=xD i I E G m k
theorem Ag{d:Nat}{E:Op}{ty:An}{pos:String}{af:Array Edge}{g:Nat×Bool}{v:A3}{D':Nat}(i:Nat)(I:∀a,wantedE ops a env (some g)=true)(J:ops[i]?=some ⟨some d,E,ty,pos,af,some g⟩)(m:(!bit F i&&!bit D i&&FL (A.getD i 0) D)=true)(G:D|||(1<<<i)=D')(z:OpP P ⟨some d,E,ty,pos,af,some g⟩ env [] v)
 (k:Lin P ops A F cx Q n D' T ((d,v)::env) H):Lin P ops A F cx Q (n+1) D T env H:=by
 simp only [HB,S7]at m;subst G;exact .inl ⟨i,_,v,[],J,m.1.2,m.2,by simp,.inl ⟨I,z⟩,k⟩
theorem qN{o:Oper}{D':Nat}(i:Nat)(G:ops[i]?=some o)(E:∀a,wantedE ops a env o.guard=false)(m:(!bit D i&&FL (A.getD i 0) D)=true)(z:D|||(1<<<i)=D')
 (k:Lin P ops A F cx Q n D' T (putE o.dst undef env) H):Lin P ops A F cx Q (n+1) D T env H:=by
 simp only [HB,S7]at m;subst z;exact .inl ⟨i,_,undef,[],G,m.1,m.2,by simp,.inr ⟨E,V,V⟩,k⟩
theorem CS{t:Nat}{p:Prop} [G:Decidable p](hv:∀a,FC a env t= .bool (decide p))(E:p->Lin P ops A F cx Q n D T env H)(z:¬p->Lin P ops A F cx Q n D T env H):Lin P ops A F cx Q n D T env H:=by
 by_cases m:p
 · exact E m
 · exact z m
theorem CQ{t:Nat}{b:Bool}(hv:∀a,FC a env t= .bool b)(z:b=true->Lin P ops A F cx Q n D T env H)(m:b=false->Lin P ops A F cx Q n D T env H):Lin P ops A F cx Q n D T env H:=by
 cases hb:b;· exact m hb
 · exact z hb
theorem Cs{d:Nat}{E:Op}{ty:An}{pos:String}{af:Array Edge}{v:A3}{b:Nat}{x:Obj}{D':Nat}(i:Nat)(J:ops[i]?=some ⟨some d,E,ty,pos,af,none⟩)(m:(!bit F i&&!bit D i&&FL (A.getD i 0) D)=true)(G:D|||(1<<<i)=D')(I:Has b x H)(z:OpP P ⟨some d,E,ty,pos,af,none⟩ env [(b,x)] v)
 (k:Lin P ops A F cx Q n D' ((i,(b,x))::T) ((d,v)::env) H):Lin P ops A F cx Q (n+1) D T env H:=by
 simp only [HB,S7]at m;subst G;exact .inl ⟨i,_,v,[(b,x)],J,m.1.2,m.2,by simpa using I.mem,.inl ⟨fun _=>rfl,z⟩,k⟩
theorem Bf{d:Nat}{E:Op}{ty:An}{pos:String}{af:Array Edge}{g:Nat×Bool}{v:A3}{b:Nat}{x:Obj}{D':Nat}(i:Nat)(J:∀a,wantedE ops a env (some g)=true)(K:ops[i]?=some ⟨some d,E,ty,pos,af,some g⟩)(m:(!bit F i&&!bit D i&&FL (A.getD i 0) D)=true)(G:D|||(1<<<i)=D')(I:Has b x H)(z:OpP P ⟨some d,E,ty,pos,af,some g⟩ env [(b,x)] v)
 (k:Lin P ops A F cx Q n D' ((i,(b,x))::T) ((d,v)::env) H):Lin P ops A F cx Q (n+1) D T env H:=by
 simp only [HB,S7]at m;subst G;exact .inl ⟨i,_,v,[(b,x)],K,m.1.2,m.2,by simpa using I.mem,.inl ⟨J,z⟩,k⟩
def Xg(P:Program)(ops:Array Oper)(A:List Nat)(F:Nat)(cx:Cx)(Q:Exit->Act->AD->Prop)(n D:Nat)(T:List (Nat×AR))(env:Env)(H:Hp):List Nat->Prop
 |[]=>True
 |f::l=>(∃o T',ops[f]?=some o/\(∀a,wantedE ops a env o.guard=true)/\(∀p∈T,bit (A.getD f 0) p.1=true\/p∈T')/\
   OpW P cx.u o env H (fun v H'=>(∀p∈T',p.2∈H'.flatten)/\Lin P ops A F cx Q n (D|||(1<<<f)) T' (putE o.dst v env) H') (fun ch H'=>∀env,Nx cx (Q (.panic ch)) env H'))/\Xg P ops A F cx Q n D T env H l
theorem aQ:∀(l:List Nat),Xg P ops A F cx Q n D T env H l->∀f∈l,∃o m,ops[f]?=some o/\(∀a,wantedE ops a env o.guard=true)/\(∀p∈T,bit (A.getD f 0) p.1=true\/p∈m)/\
 OpW P cx.u o env H (fun v H'=>(∀p∈m,p.2∈H'.flatten)/\Lin P ops A F cx Q n (D|||(1<<<f)) m (putE o.dst v env) H') (fun ch H'=>∀env,Nx cx (Q (.panic ch)) env H')
 |[],_,_,h=>by cases h
 |g::l,h,f,hf=>by
  rcases H4.1 hf with rfl|hf
  · exact h.1
  · exact aQ l h.2 f hf
theorem XB{l:List Nat}(m:lW ops A F D=true)(h2:Ll ops A F D=l)(h:Xg P ops A F cx Q n D T env H l):Lin P ops A F cx Q (n+1) D T env H:= .inr ⟨m,by rw [h2];exact aQ l h⟩
def sel{α:Type}:List Bool->List α->List α
 |true::bs,x::l=>x::sel bs l
 |false::bs,_::l=>sel bs l
 |_,_=>[]
def Ot(m:Nat):List Bool->List Nat->Bool
 |true::bs,_::l=>Ot m bs l
 |false::bs,x::l=>bit m x&&Ot m bs l
 |[],[]=>true
 |_,_=>false
theorem Q0{m:Nat}:∀(bs:List Bool) (T:List (Nat×AR)),Ot m bs (T.map (·.1))=true->∀p∈T,bit m p.1=true\/p∈sel bs T
 |[],[],_,p,hp=>by cases hp
 |[],_::_,h,_,_=>by simp [Ot]at h
 |_::_,[],_,p,hp=>by cases hp
 |true::bs,x::T,h,p,hp=>by
  simp only [L3,Ot]at h;rcases H4.1 hp with rfl|hp
  · exact .inr (by simp [sel])
  · exact (Q0 bs T h p hp).imp id fun z=>by simp only [sel];exact Mu _ z
 |false::bs,x::T,h,p,hp=>by
  simp only [L3,Ot,HB]at h;rcases H4.1 hp with rfl|hp
  · exact .inl h.1
  · exact (Q0 bs T h.2 p hp).imp id fun z=>by simp only [sel];exact z
theorem WB{f m:Nat}{l is:List Nat}{o:Oper}{D':Nat}{bs:List Bool}{z:List (Nat×AR)}{W:A3->Hp->Prop}{U:List PanicEntry->Hp->Prop}(ho:ops[f]?=some o)(hg:∀a,wantedE ops a env o.guard=true)(Z:D|||(1<<<f)=D')(hm:A[f]?=some m)(I:T.map (·.1)=is)(M:Ot m bs is=true)(hT:sel bs T=z)(hw:OpW P cx.u o env H W U)
 (k:∀v H',W v H'->(∀p∈z,p.2∈H'.flatten)/\Lin P ops A F cx Q n D' z (putE o.dst v env) H')(kp:∀ch H',U ch H'->∀env,Nx cx (Q (.panic ch)) env H')(hl:Xg P ops A F cx Q n D T env H l):Xg P ops A F cx Q n D T env H (f::l):=by
 subst Z;subst hT;subst I;have J:A.getD f 0=m:=by rw [Nd,hm];rfl
 exact ⟨⟨o,_,ho,hg,fun p hp=>by rw [J];exact Q0 bs T M p hp,fun a w hs K X hK G=>hw a w hs K X (fun v H' O E h2=>hK v H' O (k v H' E) h2) (fun ch H' O E h2=>G ch H' O (kp ch H' E) h2)⟩,hl⟩
theorem Ar:Xg P ops A F cx Q n D T env H []:=trivial
end
theorem Ab{H:Hp}:∀p∈([]:List (Nat×AR)),p.2∈H.flatten:=by intro p m;cases m
theorem lF{H:Hp}{i b:Nat}{x:Obj}{T:List (Nat×AR)}(h:Has b x H)(z:∀p∈T,p.2∈H.flatten):∀p∈((i,(b,x))::T),p.2∈H.flatten:=by
 intro p m;rcases H4.1 m with rfl|m
 · exact h.mem
 · exact z p m
theorem Au{id n:Nat}{env:Env}{H:Hp}(A:List Nat)(F:Nat)(M:P.follows .mixedOrders=true)(E:TS ops A cx.N=true)(hn:ops.size=n)(h:Lin P ops A F cx Q n 0 [] env H):At P cx (.region id ops true) Q env H:=fun a w z=>by
 subst hn;have J:=eD E
 refine wpIn_region_any M (XC (a0:=a) (env0:=env) z.size z.defers z.fit J ops.size _ _ _ [] 0 [] H ?_ ⟨by simp,fun j oj U I=>?_,V,z.sat.drew,fun i=>?_,by simp,(by intro e m;cases m),fun i hi=>?_,fun i hi=>?_,fun G e O hx=>?_,fun G e O hx=>?_,(by intro e m;cases m),z.fit,h⟩)
 · refine To List.countP_le_length ?_
   simp
 · simp [fg]at I
   split at I<;>simp_all
 · constructor
   · intro K;simp [bit]at K
   · rintro ⟨e,m,_⟩;cases m
 · exfalso
   simp [fg]at hi;split at hi<;>simp_all
 · simp [bit]at hi
 · cases G<;>cases hx
 · cases G<;>cases hx
end
end Gw
