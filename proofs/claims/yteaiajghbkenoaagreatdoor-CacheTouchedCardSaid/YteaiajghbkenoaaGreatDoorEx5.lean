/- Walking by chunks: copy, append, slices of arrays, bytes out of a string. No function of the program is named. -/
/- Walking by chunks: an own slice whose elements are of several cells: append, clear. No function of the program is named. -/
/- Walking by chunks: an empty slice literal; append of a row that may be nil or empty. No function of the program is named. -/
/- Walking by chunks: a cut (what comes behind is proved once), a segment cut in two. No function of the program is named. -/
/- Walking by chunks: clear of a part of a row; rows behind a sort. No function of the program is named. -/
/- Walking by chunks: lists of three numbers compared. No function of the program is named. -/
/- Walking by chunks: regions that draw their order. The operations without effect are taken as soon as what they hang on has come up; those with an effect are met in every order that their edges leave. No function of the program is named. -/
import Derived.Test.YteaiajghbkenoaaGreatDoorEx4
import Derived.LaidEqlPtr
import Derived.Sort.OwnSortedInts
import Derived.Lib.SlicesCompact
import Derived.Laws.StructEq
import Derived.Test.YteaiajghbkenoaaGreatDoorEx3
set_option linter.unusedVariables false
set_option linter.unusedSimpArgs false
namespace Gw
open Go Go.RowKit
section
variable{P:Program}{env:Env}{d:Option Nat}{ty:TypeId}{pos:String}{af:Array Edge}{g:Option (Nat×Bool)}
section
variable{t e:TypeId}{n:Nat}{x lo hi:Operand}{b o l h s:Nat}{lk hk:IntKind}
theorem Ia(B:P.underlying t=some (.array n e))(m:∀w:World,(Go.sizeOf e).run P w= .ok s w)(G:∀a,ev a env x= .pointer (some ⟨b,o,none⟩)):
 OpP P ⟨d,.slice t x none none none,ty,pos,af,g⟩ env [] (.slice (some ⟨b,o,none⟩) n n):=fun a w _=>by
 simp [KO,G a,Instr.sliceAt,run_underlying B,Instr.sureAddr,Instr.sliceBounds,m,Addr.add]
theorem Px(I:P.underlying t=some (.array n e))(G:∀w:World,(Go.sizeOf e).run P w= .ok s w)(J:∀a,ev a env x= .pointer (some ⟨b,o,none⟩))(B:∀a,ev a env lo= .int lk (l:Int))(K:l<n):
 OpP P ⟨d,.slice t x (some lo) none none,ty,pos,af,g⟩ env [] (.slice (some ⟨b,o+l*s,none⟩) (n -l) (n -l)):=fun a w _=>by
 have h2:l<=n:=by omega
 have m:¬n=l:=by omega
 simp [KO,J a,B a,Instr.sliceAt,run_underlying I,Instr.sureAddr,Instr.sliceBounds,Instr.sliceBound,asIntOf,G,h2,m,CU]
theorem Sq(I:P.underlying t=some (.array n e))(G:∀w:World,(Go.sizeOf e).run P w= .ok s w)(J:∀a,ev a env x= .pointer (some ⟨b,o,none⟩))(B:∀a,ev a env hi= .int hk (h:Int))(m:h<=n):
 OpP P ⟨d,.slice t x none (some hi) none,ty,pos,af,g⟩ env [] (.slice (some ⟨b,o,none⟩) h n):=fun a w _=>by
 simp [KO,J a,B a,Instr.sliceAt,run_underlying I,Instr.sureAddr,Instr.sliceBounds,Instr.sliceBound,asIntOf,G,m,Addr.add]
end
theorem Sn{t e:TypeId}{x lo hi m:Operand}{b o n cap l h s:Nat}{lk hk mk:IntKind}(U:P.underlying t=some (.slice e))(O:∀w:World,(Go.sizeOf e).run P w= .ok s w)(W:∀a,ev a env x= .slice (some ⟨b,o,none⟩) n cap)(J:∀a,ev a env lo= .int lk (l:Int))(I:∀a,ev a env hi= .int hk (h:Int))(K:∀a,ev a env m= .int mk (h:Int))(X:l<h)(h2:h<=cap):
 OpP P ⟨d,.slice t x (some lo) (some hi) (some m),ty,pos,af,g⟩ env [] (.slice (some ⟨b,o+l*s,none⟩) (h -l) (h -l)):=fun a w _=>by
 have B:l<=h:=by omega
 have G:¬h=l:=by omega
 simp [KO,W a,J a,I a,K a,Instr.sliceAt,Instr.slice,run_underlying U,Instr.sliceBounds,Instr.sliceBound,asIntOf,h2,B,G,O,CU]
variable{u:World}{H H' R:Hp}
def Bz(c:Array Value)(o:Nat)(cs:List Value):Prop:=(c.toList.drop o).take cs.length=cs
theorem Bz.get{c:Array Value}{o:Nat}{cs:List Value}(h:Bz c o cs)(j:Nat)(v:Value)(G:cs[j]?=some v):c[o+j]?=some v:=by
 have m:j<cs.length:=(BE.1 G).1;have B:((c.toList.drop o).take cs.length)[j]?=cs[j]?:=by rw [h]
 rw [H3,AK m,OR,HE,G]at B;exact B
theorem Gu{w:World}{b o:Nat}{c:Array Value}{T:TypeId}{z:Nat×Nat}{cs:List Value}(m:w.heap[b]?=some (.cells c T z))(h:Bz c o cs):∀j v,cs[j]?=some v->w.cell? ((⟨b,o,none⟩:Addr).add j)=some v:=fun j v B=>by
 rw [CU];exact Ch m (h.get j v B)
theorem yK{x y:Operand}{X sT e:TypeId}{b o n cap W o' n' B:Nat}{c c' c1:Array Value}{T T1:TypeId}{z z1:Nat×Nat}{cs:List Value}
 (hu:P.underlying X=some (.slice e))(hs:∀w:World,(Go.sizeOf e).run P w= .ok 1 w)(hx:∀a,ev a env x= .slice (some ⟨b,o,none⟩) n cap)(hy:∀a,ev a env y= .slice (some ⟨W,o',none⟩) n' B)
 (J:Has W (.cells c1 T1 z1) H)(U:Upd b (.cells c T z) (.cells c' T z) H H')(ax:Bz c1 o' cs)(hn:cs.length=min n' n)(hc:EI c o cs=c')(G:o+cs.length<=c.size)(hz:IW z c.size)(h1:∀v∈cs,v.oneCell'=true):
 OpW P u ⟨d,.call ⟨.builtin .copy,#[x,y],#[X,sT]⟩,ty,pos,af,g⟩ env H (fun v H1=>v=I4 ((min n' n:Nat):Int)/\H1=H') (fun _ _=>False):=fun a w m K Kp hK _=>by
 have hb:=m.get _ U.has.mem;have Z:=m.get _ J.mem
 have hl:=run_loadCells_list (P:=P) w ⟨W,o',none⟩ cs (Gu Z ax);rw [hn]at hl;have O:=Cc (P:=P) b o T z cs 0 c w hb hz (by simpa using G) h1
 simp only [N0]at O;have I:Nat.min n' n=min n' n:=rfl
 have:(execOp (ev a env) ⟨d,.call ⟨.builtin .copy,#[x,y],#[X,sT]⟩,ty,pos,af,g⟩).run P w= .ok (.value (I4 ((min n' n:Nat):Int))) (w.setRow b (EI c o cs)):=by
  simp [Dt,resolve,invoke,builtin,hx a,hy a,Builtin.copy_,run_underlying hu,Builtin.lenOf,Builtin.firstCells,hs,I,hl,O,EI,goInt]
 rw [this];exact hK _ _ _ ⟨rfl,rfl⟩ (m.upd U rfl rfl rfl (by rw [setRow_heap w b c _ T z hb,hc]) fun k hk=>setRow_other w b k _ hk)
theorem nM(m:List UInt8):∀v∈m.map u8v,v.oneCell'=true:=by
 intro v hv;obtain ⟨x,_,rfl⟩:=Bk.1 hv;rfl
def Row(e:TypeId)(v:Value)(xs:List Value)(s:List A9):Prop:=
 (v= .slice none 0 0/\xs=[]/\s=[])\/
 ∃g cap cur z,v=I6 g xs.length cap/\s=[(g,.cells cur e z)]/\xs.length<=cap/\cap<=maxLen/\cur.size=cap/\cur.toList.take xs.length=xs/\IW z cur.size
theorem Fu(e:TypeId):Row e (.slice none 0 0) [] []:= .inl ⟨rfl,rfl,rfl⟩
theorem JU(e:TypeId)(g:Nat)(xs:List Value)(n:Nat)(m:xs.length=n)(h:n<=maxLen):Row e (I6 g n n) xs [(g,.cells xs.toArray e (0,0))]:=by
 subst m;exact .inr ⟨g,xs.length,xs.toArray,(0,0),V,V,CT _,h,by simp,by simp,BA _⟩
theorem Row.form{e:TypeId}{v:Value}{xs:List Value}{s:List A9}(h:Row e v xs s):∃b cap,v= .slice b xs.length cap:=by
 rcases h with⟨rfl,rfl,rfl⟩|⟨g,cap,cur,z,rfl,_⟩
 · exact ⟨none,0,rfl⟩
 · exact ⟨some ⟨g,0,none⟩,cap,rfl⟩
theorem Row.some{e:TypeId}{v:Value}{xs:List Value}{s:List A9}(h:Row e v xs s)(m:0<xs.length):∃g cap cur z,v=I6 g xs.length cap/\s=[(g,.cells cur e z)]/\xs.length<=cap/\cap<=maxLen/\cur.size=cap/\cur.toList.take xs.length=xs/\IW z cur.size:=by
 rcases h with⟨_,rfl,_⟩|h
 · cases m
 · exact h
theorem EQ{x y:Operand}{t e:TypeId}{i:TypeInfo}{z:Value}{by_:Nat}{v:Value}{xs:List Value}{s:List A9}{b o m c:Nat}{c1:Array Value}{T1:TypeId}{z1:Nat×Nat}{news:List Value}
 (ht:P.underlying t=some (.slice e))(hi:P.info? e=some i)(U:i.size=1)(ek:i.bytes=by_)(l8:i.zero=some z)(o8:z.oneCell'=true)
 (hx:∀a,ev a env x=v)(gy:Row e v xs s)(hy:∀a,ev a env y= .slice (some ⟨b,o,none⟩) m c)(gm:One s H R)(j5:Has b (.cells c1 T1 z1) R)(ax:Bz c1 o news)(O:news.length=m)(h1:∀u∈news,u.oneCell'=true)
 (hm:0<m)(W:xs.length+m<=maxLen)(hb:(xs.length+m)*by_<=140737488355328):
 OpW P u ⟨d,.call ⟨.builtin .append,#[x,y],#[t,t]⟩,ty,pos,af,g⟩ env H (fun v' H1=>∃s',Row e v' (xs++news) s'/\H1=s'::R) (fun _ _=>False):=fun a w j3 K Kp hK _=>by
 have cO:Sat u (s::R) w:=j3.perm (by simpa using gm.perm);have ic:Sat u R w:=cO.sub ⟨s,by simp only [C4];exact LO⟩
 have d9:=ic.get _ j5.mem;have bn:=Gu d9 ax
 have l5:z.cells=#[z]:=by cases z<;>first|rfl|simp [Value.oneCell']at o8
 have Z:news.length=m*i.size:=by rw [U];omega
 have o9:maxLen=9223372036854775807:=rfl;have B:∀{v':Value} {w':World},(Builtin.append_ #[t,t] ty #[v,.slice (some ⟨b,o,none⟩) m c]).run P w= .ok v' w'->(execOp (ev a env) ⟨d,.call ⟨.builtin .append,#[x,y],#[t,t]⟩,ty,pos,af,g⟩).run P w= .ok (.value v') w':=fun h=>by
  simp only [Dt,resolve,invoke,builtin,RK,DO,I3,hx a,hy a,Sem.run_bind,Sem.run_pure,Result.andThen_ok,h]
 have G:∀(n cap:Nat) (cells:Array Value) (w1:World),w1={w with drawn:=n,heap:=w.heap.push (.cells cells e)}->Sat u ([(w.heap.size,.cells cells e (0,0))]::R) w1:=fun n cap cells w1 h=>by
  subst h;exact (ic.drawn n).alloc _
 rcases gy with⟨rfl,rfl,rfl⟩|⟨gb,cap,cur,zz,rfl,rfl,hle,hcm,hcs,htk,hfr⟩
 · have hr:=run_append_nil (P:=P) w t ty e i z ht hi l8 ⟨b,o,none⟩ m c news Z bn hm (by simp only [It,D2]at W;omega) (by rw [ek];simp only [It,D2]at hb;omega)
   rw [B hr];have X:=grownCap_ge w m 0 e
   have I:grownCap w m 0 e<=maxLen:=grownCap_le_maxLen w m 0 e (by simpa using W);refine hK _ _ _ ⟨[(w.heap.size,.cells (news.toArray++Builtin.zeroCells z.cells (grownCap w m 0 e -m)) e (0,0))],.inr ⟨w.heap.size,grownCap w m 0 e,_,(0,0),?_,rfl,?_,I,?_,?_,BA _⟩,rfl⟩ (G _ 0 _ _ rfl)
   · simp [O]
   · simpa [O]using X
   · simp [size_zeroCells,l5,O];omega
   · simp [O]
 · have hg:=cO.get (gb,.cells cur e zz) (by simp)
   by_cases J:xs.length+m<=cap
   · have hf:=run_firstCells_some (P:=P) w i.size m ⟨b,o,none⟩ m c news Z bn
     rw [U]at hf;have kv:=Cc (P:=P) gb xs.length e zz news 0 cur w hg hfr (by rw [O,hcs];omega) h1
     simp only [N0]at kv;have hr:(Builtin.append_ #[t,t] ty #[I6 gb xs.length cap,.slice (some ⟨b,o,none⟩) m c]).run P w= .ok (I6 gb (xs.length+m) cap) (w.setRow gb (EI cur xs.length news)):=by
      simp [Builtin.append_,run_underlying ht,Go.sizeOf,typeInfo,hi,U,Builtin.lenOf,J,hf,CU,kv,EI]
     rw [B hr];have gq:(EI cur xs.length news).size=cap:=by
      unfold EI;simp;omega
     refine hK _ _ _ ⟨[(gb,.cells (EI cur xs.length news) e zz)],.inr ⟨gb,cap,_,zz,by simp [O],rfl,by simpa [O]using J,hcm,gq,?_,by rw [gq,<-hcs];exact hfr⟩,rfl⟩
      (cO.upd (.here _) rfl rfl rfl (setRow_heap w gb cur _ e zz hg) fun k hk=>setRow_other w gb k _ hk)
     unfold EI;rw [htk];simp only [CA];rw [<-CA];exact HJ B0
   · have cu:∀j v,xs[j]?=some v->w.cell? ((⟨gb,0,none⟩:Addr).add j)=some v:=fun j v hj=>by
      rw [CU];refine Ch hg ?_;have l9:j<xs.length:=(BE.1 hj).1
      have:(cur.toList.take xs.length)[j]?=some v:=by rw [htk];exact hj
      rw [H3,AK l9]at this;simpa using this
     have hr:=run_append_grow (P:=P) w t ty e i z ht hi l8 ⟨gb,0,none⟩ xs.length cap xs (by rw [U];omega) cu ⟨b,o,none⟩ m c news Z bn A1 A1 (growslice_fits A1 (by rw [ek];exact hb));rw [B hr];have X:=grownCap_ge w (xs.length+m) cap e
     have I:grownCap w (xs.length+m) cap e<=maxLen:=grownCap_le_maxLen w (xs.length+m) cap e W;refine hK _ _ _ ⟨[(w.heap.size,.cells (xs.toArray++news.toArray++Builtin.zeroCells z.cells (grownCap w (xs.length+m) cap e -(xs.length+m))) e (0,0))],.inr ⟨w.heap.size,grownCap w (xs.length+m) cap e,_,(0,0),?_,V,?_,I,?_,?_,BA _⟩,V⟩ (G _ 0 _ _ V)
     · simp [O]
     · simpa [O]using X
     · simp [size_zeroCells,l5,O];omega
     · simp only [al]
       exact HJ B0
theorem vH{s t e:TypeId}{x:Operand}{str:ByteArray}(hs:P.underlying s=some .string)(ht:P.underlying t=some (.slice e))(he:P.underlying e=some (.int .u8))(hx:∀a,ev a env x= .string str)(hm:str.size<=maxLen):
 OpW P u ⟨d,.convert s t x,ty,pos,af,g⟩ env H (fun v' H1=>∃X,Row e v' (str.data.toList.map u8v) X/\H1=X::H) (fun _ _=>False):=fun a w O K Kp hK _=>by
 have U:str.size<=grownCap w str.size 0 e:=grownCap_ge w str.size 0 e;have I:grownCap w str.size 0 e<=maxLen:=grownCap_le_maxLen w str.size 0 e hm
 have B:(str.data.toList.map u8v).length=str.size:=by rw [B2];rfl
 obtain ⟨cells,m⟩:∃cells:Array Value,cells=str.data.map (fun b=>Value.int .u8 b.toNat)++Array.replicate (grownCap w str.size 0 e -str.size) (.int .u8 0):=⟨_,rfl⟩;have G:cells.size=grownCap w str.size 0 e:=by
  have:str.data.size=str.size:=rfl;rw [m];simp [this];omega
 have J:(execOp (ev a env) ⟨d,.convert s t x,ty,pos,af,g⟩).run P w= .ok (.value (.slice (some ⟨w.heap.size,0,none⟩) str.size (grownCap w str.size 0 e))) (World.freeze {w with drawn:=w.drawn+1,heap:=w.heap.push (.cells cells e)} ⟨w.heap.size,cells.size,none⟩ 1):=by
  have W:(({w with drawn:=w.drawn+1,heap:=w.heap.push (.cells cells e)}:World).shape? w.heap.size)=some (e,cells.size):=by
   simp [World.shape?]
  simp only [Jo,hx a,convert,Sem.run_bind,run_underlying hs,run_underlying ht,run_underlying he,Result.andThen_ok,Conv.stringToBytes,choose,Sem.run,Question.forced,newRow,newObj,Sem.run_pure,My,HN];rw [show Question.cut (.appendCap str.size 0 e) (w.tape w.drawn (.appendCap str.size 0 e))=grownCap w str.size 0 e from rfl,<-m];simp [markStringish,W]
 rw [J];refine hK _ _ _ ⟨[(w.heap.size,.cells cells e (cells.size,cells.size+1))],.inr ⟨w.heap.size,grownCap w str.size 0 e,cells,(cells.size,cells.size+1),by rw [B],rfl,by rw [B];exact U,I,G,?_,ZW _ _ (CT _) _⟩,rfl⟩ ?_
 · rw [B,m]
   have:str.data.size=str.size:=rfl;simp [u8v,kA,List.take_append,this]
 · have Z:Sat u ([(w.heap.size,.cells cells e (0,0))]::H) {w with drawn:=w.drawn+1,heap:=w.heap.push (.cells cells e)}:=(O.drawn (w.drawn+1)).alloc _
   refine Z.upd (.here _) ?_ ?_ ?_ ?_ fun k hk=>?_
   · simp [World.freeze]
   · simp [World.freeze]
   · simp [World.freeze]
   · simp only [World.freeze,Nat.one_ne_zero,HN]
     rw [SP,AK rfl];simp
   · simp [World.freeze,SP,cQ hk]
end
theorem BV{P:Program}{cx:Cx}{c:Code}{Q:Exit->Act->World->Prop}{env:Env}{H:Hp}(h:At P cx c Q env ([]::H)):At P cx c Q env H:=Xg (H':=[]::H) rfl h
def Bc(sz:Nat)(e:TypeId)(v:Value)(k:Nat)(xs:List Value)(s:List A9):Prop:=
 xs.length=k*sz/\((v= .slice none 0 0/\k=0/\s=[])\/
 ∃g cap cur z,v=I6 g k cap/\s=[(g,.cells cur e z)]/\k<=cap/\cap<=maxLen/\cur.size=cap*sz/\cur.toList.take (k*sz)=xs/\IW z cur.size)
theorem Bf(sz:Nat)(e:TypeId):Bc sz e (.slice none 0 0) 0 [] []:=⟨by simp,.inl ⟨rfl,rfl,rfl⟩⟩
theorem Bc.form{sz:Nat}{e:TypeId}{v:Value}{k:Nat}{xs:List Value}{s:List A9}(h:Bc sz e v k xs s):∃b cap,v= .slice b k cap:=by
 rcases h with⟨_,⟨rfl,rfl,rfl⟩|⟨g,cap,cur,z,rfl,_⟩⟩
 · exact ⟨none,0,rfl⟩
 · exact ⟨some ⟨g,0,none⟩,cap,rfl⟩
theorem Bc.cut{sz:Nat}{e:TypeId}{b:Option Addr}{n cap k:Nat}{xs:List Value}{s:List A9}(h:Bc sz e (.slice b n cap) k xs s):Bc sz e (.slice b 0 cap) 0 [] s:=by
 rcases h with⟨_,⟨m,rfl,rfl⟩|⟨g,J,cur,z,m,rfl,K,B,G,O,I⟩⟩
 · simp only [Value.slice.injEq]at m
   obtain ⟨rfl,rfl,rfl⟩:=m;exact Bf sz e
 · simp only [Value.slice.injEq]at m
   obtain ⟨rfl,rfl,rfl⟩:=m;exact ⟨by simp,.inr ⟨g,cap,cur,z,V,V,C0 _,B,G,by simp,I⟩⟩
theorem UF{P:Program}{e:TypeId}{i:TypeInfo}{z:Value}(hi:P.info? e=some i)(m:i.zero=some z)(w:World):(zeroValue e).run P w= .ok z w:=by
 simp [zeroValue,typeInfo,hi,m]
section
variable{P:Program}{u:World}{env:Env}{H R:Hp}{d:Option Nat}{ty:TypeId}{pos:String}{af:Array Edge}{g:Option (Nat×Bool)}
theorem Ui{x y:Operand}{t e:TypeId}{i:TypeInfo}{z:Value}{by_ sz k:Nat}{v:Value}{xs:List Value}{s:List A9}{b o m c:Nat}{news:List Value}
 (ht:P.underlying t=some (.slice e))(hi:P.info? e=some i)(X:i.size=sz)(d9:i.bytes=by_)(kv:i.zero=some z)(j5:z.cells.size=sz)
 (hx:∀a,ev a env x=v)(U:Bc sz e v k xs s)(hy:∀a,ev a env y= .slice (some ⟨b,o,none⟩) m c)(gm:One s H R)(ek:∀w,Sat u R w->∀j v,news[j]?=some v->w.cell? ((⟨b,o,none⟩:Addr).add j)=some v)(hl:news.length=m*sz)(h1:∀u∈news,u.oneCell'=true)
 (hm:0<m)(l5:k+m<=maxLen)(hb:(k+m)*by_<=140737488355328):
 OpW P u ⟨d,.call ⟨.builtin .append,#[x,y],#[t,t]⟩,ty,pos,af,g⟩ env H (fun v' H1=>∃s',Bc sz e v' (k+m) (xs++news) s'/\H1=s'::R) (fun _ _=>False):=fun a w ic K Kp hK _=>by
 have cu:Sat u (s::R) w:=ic.perm (by simpa using gm.perm);have gy:Sat u R w:=cu.sub ⟨s,by simp only [C4];exact LO⟩
 have ax:=ek w gy;have Z:news.length=m*i.size:=by rw [X];omega
 have o9:maxLen=9223372036854775807:=rfl;have B:∀{v':Value} {w':World},(Builtin.append_ #[t,t] ty #[v,.slice (some ⟨b,o,none⟩) m c]).run P w= .ok v' w'->(execOp (ev a env) ⟨d,.call ⟨.builtin .append,#[x,y],#[t,t]⟩,ty,pos,af,g⟩).run P w= .ok (.value v') w':=fun h=>by
  simp only [Dt,resolve,invoke,builtin,RK,DO,I3,hx a,hy a,Sem.run_bind,Sem.run_pure,Result.andThen_ok,h]
 have J:∀(n cap:Nat) (cells:Array Value) (w1:World),w1={w with drawn:=n,heap:=w.heap.push (.cells cells e)}->Sat u ([(w.heap.size,.cells cells e (0,0))]::R) w1:=fun n cap cells w1 h=>by
  subst h;exact (gy.drawn n).alloc _
 obtain ⟨cO,U⟩:=U;have G:(xs++news).length=(k+m)*sz:=by rw [B7,cO,hl,J1]
 have split:∀n p:Nat,p<=n->p*sz+(n -p)*sz=n*sz:=fun n p h=>by rw [<-J1];congr 1;omega
 rcases U with⟨rfl,rfl,rfl⟩|⟨gb,cap,cur,zz,rfl,rfl,hle,hcm,hcs,htk,hfr⟩
 · have l8:xs=[]:=LN (by omega)
   subst l8;have hr:=run_append_nil (P:=P) w t ty e i z ht hi kv ⟨b,o,none⟩ m c news Z ax hm (by omega) (by rw [d9];exact N1 (by simpa using hb) (by decide:140737488355328<=281474976710656))
   rw [B hr];have W:=grownCap_ge w m 0 e
   have O:grownCap w m 0 e<=maxLen:=grownCap_le_maxLen w m 0 e (by omega);refine hK _ _ _ ⟨[(w.heap.size,.cells (news.toArray++Builtin.zeroCells z.cells (grownCap w m 0 e -m)) e (0,0))],⟨G,.inr ⟨w.heap.size,grownCap w m 0 e,_,(0,0),by simp,rfl,by omega,O,?_,?_,BA _⟩⟩,rfl⟩ (J _ 0 _ _ rfl)
   · simp only [fk,size_zeroCells,j5,GS,hl]
     exact split _ _ W
   · simp only [al,KK,D2]
     exact HJ hl
 · have hg:=cu.get (gb,.cells cur e zz) (by simp)
   by_cases I:k+m<=cap
   · have hf:=run_firstCells_some (P:=P) w i.size m ⟨b,o,none⟩ m c news Z ax
     rw [X]at hf;have l9:k*sz+m*sz<=cap*sz:=by rw [<-J1];exact T6 sz I
     have j3:=Cc (P:=P) gb (k*sz) e zz news 0 cur w hg hfr (by rw [hl,hcs];omega) h1;simp only [N0]at j3;have hr:(Builtin.append_ #[t,t] ty #[I6 gb k cap,.slice (some ⟨b,o,none⟩) m c]).run P w= .ok (I6 gb (k+m) cap) (w.setRow gb (EI cur (k*sz) news)):=by
      simp [Builtin.append_,run_underlying ht,Go.sizeOf,typeInfo,hi,X,Builtin.lenOf,I,hf,CU,j3,EI]
     rw [B hr];have gq:(EI cur (k*sz) news).size=cap*sz:=by
      unfold EI;simp;omega
     refine hK _ _ _ ⟨[(gb,.cells (EI cur (k*sz) news) e zz)],⟨G,.inr ⟨gb,cap,_,zz,rfl,rfl,I,hcm,gq,?_,by rw [gq,<-hcs];exact hfr⟩⟩,rfl⟩
      (cu.upd (.here _) rfl rfl rfl (setRow_heap w gb cur _ e zz hg) fun k hk=>setRow_other w gb k _ hk)
     unfold EI;rw [htk];simp only [CA];rw [<-CA];exact HJ G
   · have bn:∀j v,xs[j]?=some v->w.cell? ((⟨gb,0,none⟩:Addr).add j)=some v:=fun j v hj=>by
      rw [CU];refine Ch hg ?_;have o8:j<xs.length:=(BE.1 hj).1
      have:(cur.toList.take (k*sz))[j]?=some v:=by rw [htk];exact hj
      rw [H3,AK A1]at this;simpa using this
     have hr:=run_append_grow (P:=P) w t ty e i z ht hi kv ⟨gb,0,none⟩ k cap xs (by rw [X];exact cO) bn ⟨b,o,none⟩ m c news Z ax A1 A1 (growslice_fits A1 (by rw [d9];exact hb));rw [B hr];have W:=grownCap_ge w (k+m) cap e
     have O:grownCap w (k+m) cap e<=maxLen:=grownCap_le_maxLen w (k+m) cap e l5;refine hK _ _ _ ⟨[(w.heap.size,.cells (xs.toArray++news.toArray++Builtin.zeroCells z.cells (grownCap w (k+m) cap e -(k+m))) e (0,0))],⟨G,.inr ⟨w.heap.size,grownCap w (k+m) cap e,_,(0,0),V,V,W,O,?_,?_,BA _⟩⟩,V⟩ (J _ 0 _ _ V)
     · simp only [fk,size_zeroCells,j5,GS,hl,cO]
       have:=split _ _ W;rw [J1]at this;exact this
     · simp only [al]
       exact HJ (by simpa using G)
theorem Du{x y:Operand}{t e:TypeId}{i:TypeInfo}{z:Value}{by_ sz k:Nat}{v:Value}{xs:List Value}{s:List A9}{b o m c:Nat}{Z:Array Value}{T1:TypeId}{z1:Nat×Nat}{news:List Value}
 (ht:P.underlying t=some (.slice e))(hi:P.info? e=some i)(U:i.size=sz)(O:i.bytes=by_)(X:i.zero=some z)(W:z.cells.size=sz)
 (hx:∀a,ev a env x=v)(I:Bc sz e v k xs s)(hy:∀a,ev a env y= .slice (some ⟨b,o,none⟩) m c)(G:One s H R)(J:Has b (.cells Z T1 z1) R)(B:Bz Z o news)(hl:news.length=m*sz)(h1:∀u∈news,u.oneCell'=true)
 (hm:0<m)(K:k+m<=maxLen)(hb:(k+m)*by_<=140737488355328):
 OpW P u ⟨d,.call ⟨.builtin .append,#[x,y],#[t,t]⟩,ty,pos,af,g⟩ env H (fun v' H1=>∃s',Bc sz e v' (k+m) (xs++news) s'/\H1=s'::R) (fun _ _=>False):=
 Ui ht hi U O X W hx I hy G (fun w hs=>Gu (hs.get _ J.mem) B) hl h1 hm K hb
theorem Mm{t e:TypeId}{x lo:Operand}{b o n cap l:Nat}{lk:IntKind}(I:P.underlying t=some (.slice e))(G:∀w:World,(Go.sizeOf e).run P w= .ok 1 w)(J:∀a,ev a env x= .slice (some ⟨b,o,none⟩) n cap)(B:∀a,ev a env lo= .int lk (l:Int))(m:l<=n)(h2:l<cap):
 OpP P ⟨d,.slice t x (some lo) none none,ty,pos,af,g⟩ env [] (.slice (some ⟨b,o+l,none⟩) (n -l) (cap -l)):=by
 have h:=C8 (d:=d) (ty:=ty) (pos:=pos) (af:=af) (g:=g) I G J B m;have e1:ET (some ⟨b,o,none⟩) l cap 1=some ⟨b,o+l,none⟩:=by
  unfold ET;rw [AH A1,Mz,CU,LS]
 rw [e1]at h;exact h
end
section
variable{P:Program}{u:World}{env:Env}{H R R2:Hp}{d:Option Nat}{ty:TypeId}{pos:String}{af:Array Edge}{g:Option (Nat×Bool)}
theorem EM{t e s:Nat}(J:P.underlying t=some (.slice e))(I:∀w:World,(Go.sizeOf e).run P w= .ok s w):
 OpW P u ⟨d,.buildSlice t 0 #[],ty,pos,af,g⟩ env H (fun O H1=>∃b,O=I6 b 0 0/\H1=[(b,.cells ([]:List Value).toArray e (0,0))]::H) (fun _ _=>False):=fun a w m K U G _=>by
 have B:(Instr.buildSlice t 0 (#[]:Array (Nat×Value))).run P w= .ok (.slice (some ⟨w.heap.size,0,none⟩) 0 0) {w with heap:=w.heap.push (.cells #[] e)}:=by
  unfold Instr.buildSlice;simp [Sem.run_bind,run_underlying J,I,Instr.fill,newRow];congr 2;apply gi<;>simp
 have:(execOp (ev a env) ⟨d,.buildSlice t 0 #[],ty,pos,af,g⟩).run P w= .ok (.value (.slice (some ⟨w.heap.size,0,none⟩) 0 0)) {w with heap:=w.heap.push (.cells #[] e)}:=by
  rw [O3,Sem.run_bind];have e0:(#[]:Array (Nat×Operand)).map (fun(i,x)=>(i,ev a env x))=#[]:=by simp
  rw [e0,B];rfl
 rw [this];exact G _ _ _ ⟨_,V,V⟩ (m.alloc _)
theorem One.has{b:Nat}{o:Obj}(h:One [(b,o)] H R):Has b o H:=by
 induction h with
 |here H=>exact .here _
 |there t h ih=>exact .there _ ih
theorem Row.le{e:TypeId}{v:Value}{xs:List Value}{s:List A9}(h:Row e v xs s):∃b cap,v= .slice b xs.length cap/\xs.length<=cap:=by
 rcases h with⟨rfl,rfl,rfl⟩|⟨g,cap,cur,z,rfl,_,hle,_⟩
 · exact ⟨none,0,rfl,CT _⟩
 · exact ⟨_,cap,rfl,hle⟩
theorem Gi{x y:Operand}{t e:TypeId}{i:TypeInfo}{z:Value}{by_:Nat}{v v2:Value}{xs ys:List Value}{s s2:List A9}
 (ht:P.underlying t=some (.slice e))(hi:P.info? e=some i)(G:i.size=1)(ax:i.bytes=by_)(ek:i.zero=some z)(d9:z.oneCell'=true)
 (hx:∀a,ev a env x=v)(m:Row e v xs s)(hy:∀a,ev a env y=v2)(B:Row e v2 ys s2)(I:One s H R)(W:One s2 R R2)(h1:∀u∈ys,u.oneCell'=true)
 (Z:xs.length+ys.length<=maxLen)(hb:(xs.length+ys.length)*by_<=140737488355328):
 OpW P u ⟨d,.call ⟨.builtin .append,#[x,y],#[t,t]⟩,ty,pos,af,g⟩ env H (fun v' H1=>∃s',Row e v' (xs++ys) s'/\H1=s'::R) (fun _ _=>False):=by
 by_cases h0:ys=[]
 · subst h0
   obtain ⟨X,c2,rfl,_⟩:=B.le;obtain ⟨b,c,rfl,O⟩:=m.le;intro a w U K Kp hK _;have bn:Sat u (s::R) w:=U.perm (by simpa using I.perm)
   have J:(Builtin.firstCells i.size 0 (.slice X 0 c2)).run P w= .ok #[] w:=by
    cases X with
    |none=>simp [Builtin.firstCells]
    |some ad=>simp [Builtin.firstCells,loadCells,loadCellsFrom]
   have hr:(Builtin.append_ #[t,t] ty #[.slice b xs.length c,.slice X 0 c2]).run P w= .ok (.slice b xs.length c) w:=by
    rw [G]at J;cases b with
    |none=>simp [Builtin.append_,run_underlying ht,Go.sizeOf,typeInfo,hi,G,Builtin.lenOf,O,J]
    |some ad=>simp [Builtin.append_,run_underlying ht,Go.sizeOf,typeInfo,hi,G,Builtin.lenOf,O,J,storeCells]
   have cO:(execOp (ev a env) ⟨d,.call ⟨.builtin .append,#[x,y],#[t,t]⟩,ty,pos,af,g⟩).run P w= .ok (.value (.slice b xs.length c)) w:=by
    simp only [Dt,resolve,invoke,builtin,RK,DO,I3,hx a,hy a,Sem.run_bind,Sem.run_pure,Result.andThen_ok,It,hr]
   rw [cO];exact hK _ _ _ ⟨s,by rw [Cp];exact m,rfl⟩ bn
 · have hp:0<ys.length:=n5.2 h0
   obtain ⟨gb,cap,cur,zz,rfl,rfl,O,gm,gq,cu,gy⟩:=B.some hp;exact EQ ht hi G ax ek d9 hx m hy I W.has (by unfold Bz;rw [PC];exact cu) rfl h1 hp Z hb
theorem dD{t ty b j s:Nat}{m:Func}{v x:Value}(J:m.results=#[.cell t ty,.tmp s]){w:World}{tmps:Array Value}(B:tmps.getD t undef= .pointer (some ⟨b,j,none⟩))(I:(loadVar ty ⟨b,j,none⟩).run P w= .ok v w)(G:tmps.getD s undef=x):(results m tmps).run P w= .ok (.tuple #[v,x]) w:=by
 rw [Kx]at B G;simp [results,J,B,G,asAddr,I]
theorem Bn{e:Exit}{N:Nat}{r:Option Nat}{B:Func}{Q:Value->Hp->Prop}{G:List PanicEntry->Hp->Prop}{H':Hp}{t ty b j s:Nat}{v x:Value}{o:Obj}(J:FW e=true)(W:B.results=#[.cell t ty,.tmp s])(hv:∀a,Fz a env t= .pointer (some ⟨b,j,none⟩))(I:Has b o H)(K:∀w:World,w.heap[b]?=some o->(loadVar ty ⟨b,j,none⟩).run P w= .ok v w)(X:∀a,Fz a env s=x)(U:Q (.tuple #[v,x]) H')(O:Sub (H'++R) H:=by repeat(first|exact Sub.refl _|exact Sub.nil _|(apply Sub.cons;(focus (repeat(first|exact One.here _ _|apply One.there))))|refine Sub.drop _ ?_)):Nx ⟨N,[],u,r⟩ (bodyPost P B (GN u R Q G) e) env H:=
 Lj J (fun a w m=>dD W (by rw [CV a env (by rw [m.size];exact m.fit),hv a]) (K w (m.sat.get _ I.mem)) (by rw [CV a env (by rw [m.size];exact m.fit),X a])) U O
theorem CO{ops:Array Oper}{l:List Oper}{cx:Cx}{Q:Exit->Act->World->Prop}{d:Nat}{m:Op}{v:Value}{cs:List A9}(B:∀c∈cs,c∈H.flatten)(h:OpP P ⟨some d,m,ty,pos,af,none⟩ env cs v)(I:Dr m=true)(G:Nat.blt d cx.N=true)
 (k:Ops P ops l cx Q ((d,v)::env) H):Ops P ops (⟨some d,m,ty,pos,af,none⟩::l) cx Q env H:=
 Ja (fun _=>rfl) (fun t J=>by cases J;simpa using G) I (h.eff (u:=cx.u) (H:=H) B) (by rintro _ _ ⟨rfl,rfl⟩;exact k) (fun _ _ h=>h.elim)
theorem kr{w:World}{s1 s2:List A9}{a b:Nat}{x y:Obj}(K:Sat u H w)(B:One s1 H R)(h2:One s2 R R2)(G:(a,x)∈s1)(I:(b,y)∈s2):a≠b:=by
 have m:=K.nodup;have J:H.flatten.Perm (s1++(s2++R2.flatten)):=B.perm.trans (RC s1 h2.perm)
 rw [(J.map (·.1)).nodup_iff,BW,BW,Ge]at m;exact m.2.2 a (Bk.2 ⟨_,G,V⟩) b (DS _ (Bk.2 ⟨_,I,V⟩))
theorem yE{cx:Cx}{c:Code}{Q:Exit->Act->World->Prop}{s1 s2:List A9}{a b:Nat}{x y:Obj}(B:One s1 H R)(h2:One s2 R R2)(G:(a,x)∈s1)(I:(b,y)∈s2)(k:a≠b->At P cx c Q env H):At P cx c Q env H:=
 fun act w m=>k (kr m.sat B h2 G I) act w m
theorem Lh{ops:Array Oper}{l:List Oper}{cx:Cx}{Q:Exit->Act->World->Prop}{d:Nat}{m:Op}{g:Nat×Bool}{v:Value}{cs:List A9}(I:∀a,wantedE ops a env (some g)=true)(B:∀c∈cs,c∈H.flatten)(h:OpP P ⟨some d,m,ty,pos,af,some g⟩ env cs v)(J:Dr m=true)(G:Nat.blt d cx.N=true)
 (k:Ops P ops l cx Q ((d,v)::env) H):Ops P ops (⟨some d,m,ty,pos,af,some g⟩::l) cx Q env H:=
 Ja I (fun t K=>by cases K;simpa using G) J (h.eff (u:=cx.u) (H:=H) B) (by rintro _ _ ⟨rfl,rfl⟩;exact k) (fun _ _ h=>h.elim)
theorem vU{e:TypeId}{v:Value}{xs:List Value}{s:List A9}(h:Row e v xs s){k:Nat}(hk:k<xs.length):∃b cap cur z,v=I6 b xs.length cap/\s=[(b,.cells cur e z)]/\k<cur.size/\IW z cur.size/\∀y:Value,Row e v (xs.set k y) [(b,.cells (cur.setIfInBounds k y) e z)]:=by
 obtain ⟨b,cap,cur,z,rfl,rfl,I,B,G,J,m⟩:=h.some A1;refine ⟨b,cap,cur,z,rfl,rfl,by omega,m,fun y=> .inr ⟨b,cap,_,z,by rw [cM],rfl,by rw [cM];exact I,B,by rw [SM];exact G,?_,by rw [SM];exact m⟩⟩;rw [cM,fY,List.take_set,J]
end
section
variable{P:Program}{cx:Cx}{x y:Code}{Q:Exit->Act->World->Prop}{env:Env}{H:Hp}
theorem D7{e0 B:Env}{H0 R:Hp}(I:Env->Hp->Prop)(U:Er H0 H R)(W:At P cx x (Exit.then (fun a w=>∃e H1 a0,I e H1/\St cx (e++B) (H1++R) a0 w/\a=C9 (e++B) a0) Q) (e0++B) (H0++R))(X:∀e H1,I e H1->At P cx y Q (e++B) (H1++R)):At P cx (.seq x y) Q (e0++B) H:=fun a w m=>by
 have G:St cx (e0++B) (H0++R) a w:=⟨m.size,m.defers,m.fit,m.sat.perm U.perm⟩;refine wpIn_seq (wpIn_mono (W a w G) fun e a' Z K=>?_);cases e<;>first|exact K|(obtain ⟨e',H',a0,O,J,rfl⟩:=K;exact X e' H' O a0 Z J)
theorem BL{I:Env->Hp->Prop}{B e':Env}{R H':Hp}(h:I e' H')(G:Sub (H'++R) H:=by repeat(first|exact Sub.refl _|exact Sub.nil _|(apply Sub.cons;(focus (repeat(first|exact One.here _ _|apply One.there))))|refine Sub.drop _ ?_)):Nx cx ((Exit.then (fun a w=>∃e H1 a0,I e H1/\St cx (e++B) (H1++R) a0 w/\a=C9 (e++B) a0) Q) .normal) (e'++B) H:=fun a _ m=>⟨e',H',a,h,⟨m.size,m.defers,m.fit,m.sat.sub G.amid⟩,rfl⟩
end
end Gw
namespace Gw
open Go Go.RowKit Go.Sort
section
variable{P:Program}{u:World}{env:Env}{H R:Hp}{d:Option Nat}{ty:TypeId}{pos:String}{af:Array Edge}{g:Option (Nat×Bool)}
theorem qP(c:Array Value)(k:Nat):EI c k []=c:=by
 unfold EI;apply HI.1;simp
end
theorem TT{α:Type} [Inhabited α]{f:α->Value}{w:World}{g:Nat}{cur:Array Value}{e:TypeId}{z:Nat×Nat}{zs:List α}(I:w.heap[g]?=some (.cells cur e z))(K:zs.length<=cur.size)(B:IW z cur.size)(O:cur.toList.take zs.length=zs.map f):Holds f w g 0 zs.toArray:=by
 intro j J;have m:j<zs.length:=by simpa using J
 have U:=B j A1;have G:(cur.toList.take zs.length)[j]?=(zs.map f)[j]?:=by rw [O]
 rw [iv m]at G;refine ⟨?_,?_⟩
 · simp only [World.cell?,I,D2]
   simp only [na,My,HN];rw [<-HE,G];simp [m]
 · simp only [World.frozen?,I,D2]
   simp;omega
theorem YP{α:Type} [Inhabited α]{f:α->Value}(cur:Array Value)(m:List α)(h:m.length<=cur.size):(putCells f 0 m.toArray cur).toList.take m.length=m.map f:=by
 apply Lz;intro j;rw [H3];by_cases B:j<m.length
 · rw [AK B,HE]
   unfold putCells;rw [mm,HD A1];simp [B]
 · rw [AH B,Mp HQ]
theorem MQ{α:Type} [Inhabited α]{f:α->Value}(cur:Array Value)(m:Array α):(putCells f 0 m cur).size=cur.size:=by simp [putCells]
theorem Sat.sorted{α:Type} [Inhabited α]{f:α->Value}{u w:World}{g n:Nat}{cur:Array Value}{e:TypeId}{z:Nat×Nat}{R:Hp}(d:Array α)(os:Array Obj)(h:Sat u ([(g,.cells cur e z)]::R) w):Sat u ([(g,.cells (putCells f 0 d cur) e z)]::R) (grow (putRow f (Sort.ahead w n) g 0 d) os):=by
 have m:=h.get (g,.cells cur e z) B0;have G:g<w.heap.size:=(HG.1 m).1
 have B:Sat u ([(g,.cells (putCells f 0 d cur) e z)]::R) (putRow f (Sort.ahead w n) g 0 d):=by
  refine h.upd (.here _) V rfl V ?_ fun k hk=>?_
  · simp [putRow,mapBlock,Sort.ahead,SP,m,onCells]
  · have:g≠k:=fun e=>hk e.symm
    simp [putRow,mapBlock,Sort.ahead,SP,this]
 exact B.below ⟨V,V,V,by simp [grow],fun k hk=>heap_grow_old _ _ hk⟩
inductive Uf(s1 s2:List A9):Hp->Hp->Prop
 |here (H:Hp):Uf s1 s2 ((s1++s2)::H) (s1::s2::H)
 |there {H H':Hp} (t:List A9) (h:Uf s1 s2 H H'):Uf s1 s2 (t::H) (t::H')
theorem Uf.flat{s1 s2:List A9}{H H':Hp}(h:Uf s1 s2 H H'):H.flatten=H'.flatten:=by
 induction h with
 |here H=>simp
 |there t h ih=>simp only [C4,ih]
theorem jJ{P:Program}{cx:Cx}{m:Code}{Q:Exit->Act->World->Prop}{env:Env}{s1 s2:List A9}{H H':Hp}(h:Uf s1 s2 H H')(k:At P cx m Q env H'):At P cx m Q env H:=Xg h.flat k
theorem CK{P:Program}{cx:Cx}{G:Code}{Q:Exit->Act->World->Prop}{env:Env}{s1 s2:List A9}{H B R2:Hp}(I:One s1 H B)(h2:One s2 B R2)(k:At P cx G Q env ((s1++s2)::R2)):At P cx G Q env H:=fun a w m=>
 k a w ⟨m.size,m.defers,m.fit,m.sat.perm (by
   simp only [C4,CA];exact I.perm.trans (RC s1 h2.perm))⟩
end Gw
namespace Gw
open Go Go.RowKit
structure V3 where
 a:Int
 b:Int
 c:Int
deriving DecidableEq
def V3.zero:V3:=⟨0,0,0⟩
theorem V3.eq_iff(x y:V3):x=y↔(x.a=y.a/\x.b=y.b/\x.c=y.c):=by
 constructor
 · rintro rfl;exact ⟨rfl,rfl,rfl⟩
 · cases x;cases y;rintro ⟨m,h2,B⟩;simp only at m h2 B;rw [m,h2,B]
section
variable{P:Program}{u:World}{env:Env}{H R:Hp}{d:Option Nat}{ty:TypeId}{pos:String}{af:Array Edge}{g:Option (Nat×Bool)}
theorem jG{e:TypeId}(n:Nat)(w:World)(B:P.underlying e=some (.int .i64))(m k:Int):(Op.equalIn (n+1) e (I4 m) (I4 k)).run P w= .ok (decide (m=k)) w:=by
 simp [Op.equalIn,run_underlying B];by_cases h:m=k<;>simp [h]
theorem Hm{e:TypeId}(w:World)(m:(isAgg e).run P w= .ok false w)(xs:Array Value)(j:Nat){v:Value}(h:xs[j]?=some v):(part e xs j).run P w= .ok v w:=by
 simp [part,m,h]
theorem jH{t e:TypeId}(w:World)(n:Nat)(x y:V3)(Z:P.underlying t=some (.array 3 e))(W:P.underlying e=some (.int .i64))(B:∀w:World,(isAgg e).run P w= .ok false w)(X:∀w:World,(Go.sizeOf e).run P w= .ok 1 w):
 (Op.equalIn (n+2) t (.agg #[I4 x.a,I4 x.b,I4 x.c]) (.agg #[I4 y.a,I4 y.b,I4 y.c])).run P w= .ok (decide (x=y)) w:=by
 have G:∀(m k:Int) (w:World),(Op.equalIn (n+1) e (I4 m) (I4 k)).run P w= .ok (decide (m=k)) w:=fun m k w=>jG n w W m k;have I:∀(v0 v1 v2:Value) (w:World),(part e #[v0,v1,v2] 0).run P w= .ok v0 w:=fun _ _ _ w=>Hm w (B w) _ _ rfl
 have J:∀(v0 v1 v2:Value) (w:World),(part e #[v0,v1,v2] 1).run P w= .ok v1 w:=fun _ _ _ w=>Hm w (B w) _ _ rfl;have K:∀(v0 v1 v2:Value) (w:World),(part e #[v0,v1,v2] 2).run P w= .ok v2 w:=fun _ _ _ w=>Hm w (B w) _ _ rfl
 rw [show n+2=(n+1)+1 from rfl,Op.equalIn];generalize n+1=m at*;simp only [Sem.run_bind,run_underlying Z,Result.andThen_ok,X];simp only [Std.Legacy.Range.forIn_eq_forIn_range',Std.Legacy.Range.size,Sh,RE,Nat.div_one,nf,List.range'_zero,List.forIn_cons,List.forIn_nil];simp only [Sem.run_bind,I,J,K,G,Result.andThen_ok,D2,LS,Nat.one_mul,eI,V3.eq_iff];by_cases O:x.a=y.a<;>by_cases h2:x.b=y.b<;>by_cases U:x.c=y.c<;>simp [O,h2,U,I,J,K,G]
theorem Qr{t:TypeId}(p q:Array Value):binOp .eql t (.agg p) (.agg q)=(do pure (.bool (<-Op.equal t (.agg p) (.agg q)))):=rfl
theorem aa{t:TypeId}(p q:Array Value):binOp .neq t (.agg p) (.agg q)=(do pure (.bool (!(<-Op.equal t (.agg p) (.agg q))))):=rfl
section
variable{t yt e:TypeId}{x y:Operand}{p q:V3}
theorem KZ(G:P.eqGuardType P.depth t=false)(J:P.underlying t=some (.array 3 e))(B:P.underlying e=some (.int .i64))(m:∀w:World,(isAgg e).run P w= .ok false w)(I:∀w:World,(Go.sizeOf e).run P w= .ok 1 w)
 (K:∀a,ev a env x= .agg #[I4 p.a,I4 p.b,I4 p.c])(O:∀a,ev a env y= .agg #[I4 q.a,I4 q.b,I4 q.c]):OpP P ⟨d,.binOp .eql t x y yt,ty,pos,af,g⟩ env [] (.bool (decide (p=q))):=fun a w _=>by
 simp [Cs,K a,O a,go_sem,run_eqGuard_agg w _ t _ _ _ _ G,Qr,Op.equal,Op.maxDepth,jH w 9998 p q J B m I]
theorem KY(G:P.eqGuardType P.depth t=false)(J:P.underlying t=some (.array 3 e))(B:P.underlying e=some (.int .i64))(m:∀w:World,(isAgg e).run P w= .ok false w)(I:∀w:World,(Go.sizeOf e).run P w= .ok 1 w)
 (K:∀a,ev a env x= .agg #[I4 p.a,I4 p.b,I4 p.c])(O:∀a,ev a env y= .agg #[I4 q.a,I4 q.b,I4 q.c]):OpP P ⟨d,.binOp .neq t x y yt,ty,pos,af,g⟩ env [] (.bool (decide (p≠q))):=fun a w _=>by
 simp [Cs,K a,O a,go_sem,run_eqGuard_agg w _ t _ _ _ _ G,aa,Op.equal,Op.maxDepth,jH w 9998 p q J B m I]
theorem IK(G:P.eqGuardType P.depth t=false)(J:P.underlying t=some (.array 3 e))(B:P.underlying e=some (.int .i64))(m:∀w:World,(isAgg e).run P w= .ok false w)(I:∀w:World,(Go.sizeOf e).run P w= .ok 1 w)
 (K:∀a,ev a env x= .agg #[I4 p.a,I4 p.b,I4 p.c])(O:∀a,ev a env y= .agg #[I4 0,I4 0,I4 0]):OpP P ⟨d,.binOp .eql t x y yt,ty,pos,af,g⟩ env [] (.bool (decide (p=V3.zero))):=KZ (q:=V3.zero) G J B m I K O
theorem xy(G:P.eqGuardType P.depth t=false)(J:P.underlying t=some (.array 3 e))(B:P.underlying e=some (.int .i64))(m:∀w:World,(isAgg e).run P w= .ok false w)(I:∀w:World,(Go.sizeOf e).run P w= .ok 1 w)
 (K:∀a,ev a env x= .agg #[I4 p.a,I4 p.b,I4 p.c])(O:∀a,ev a env y= .agg #[I4 0,I4 0,I4 0]):OpP P ⟨d,.binOp .neq t x y yt,ty,pos,af,g⟩ env [] (.bool (decide (p≠V3.zero))):=KY (q:=V3.zero) G J B m I K O
end
end
def V3.get(v:V3)(i:Nat):Int:=if i=0 then v.a else if i=1 then v.b else v.c
theorem zZ(x y:Value)(v:V3)(i:Nat)(h:i<3):(#[x,y,Value.int .i64 v.a,I4 v.b,I4 v.c]:Array Value)[2+i]?=some (I4 (v.get i)):=by
 rcases i with _|_|_|i
 · rfl
 · rfl
 · rfl
 · omega
def inV(n:Int):Prop:=-1000000000<=n/\n<=1000000000
instance(n:Int):Decidable (inV n):=inferInstanceAs(Decidable (_/\_))
def V3.ok(v:V3):Prop:=inV v.a/\inV v.b/\inV v.c
instance(v:V3):Decidable v.ok:=inferInstanceAs(Decidable (_/\_/\_))
theorem o6{v:V3}:v.ok↔∀i,i<3->inV (v.get i):=by
 constructor
 · rintro ⟨m,h2,B⟩ i hi
   rcases i with _|_|_|i
   · exact m
   · exact h2
   · exact B
   · omega
 · intro h;exact ⟨h 0 A1,h 1 A1,h 2 A1⟩
theorem vJ{v:V3}{i:Nat}(h:∀j,j<i->inV (v.get j))(hi:inV (v.get i)):∀j,j<i+1->inV (v.get j):=by
 intro j m;rcases EV j i with h9|h9
 · exact h j h9
 · have e:j=i:=by omega
   rw [e];exact hi
structure Ec where
 i:Nat
 o:Oper
 v:Value
 C:List A9
 k:Bool
def lay(p:Ec->Bool):List Ec->Act->Act
 |[],a=>a
 |e::l,a=>lay p l (if p e then a.put e.o.dst e.v else a)
def tv(p:Ec->Bool)(t:Nat):List Ec->Option Value->Option Value
 |[],d=>d
 |e::l,d=>tv p t l (if p e=true/\e.o.dst=some t then some e.v else d)
theorem Cz(p:Ec->Bool):∀(l:List Ec) (a:Act),(lay p l a).tmps.size=a.tmps.size
 |[],_=>rfl
 |e::l,a=>by simp only [lay];rw [Cz p l];split<;>simp [ED]
theorem FE(p:Ec->Bool):∀(l:List Ec) (a:Act),(lay p l a).defers=a.defers
 |[],_=>rfl
 |e::l,a=>by simp only [lay];rw [FE p l];split<;>simp [JY]
theorem EB(p:Ec->Bool)(t:Nat):∀(l:List Ec) (a:Act),t<a.tmps.size->(lay p l a).tmps[t]?=tv p t l a.tmps[t]?
 |[],_,_=>rfl
 |e::l,a,ht=>by
  simp only [lay,tv];rw [EB p t l _ (by split<;>simpa [ED]using ht)];congr 1;by_cases m:p e=true
  · simp only [m,Hh,Wc];rw [Ip _ _ _ _ ht]
  · simp [m]
theorem Ev(p q:Ec->Bool)(t:Nat):∀(l:List Ec) (d:Option Value),(∀e∈l,e.o.dst=some t->p e=q e)->tv p t l d=tv q t l d
 |[],_,_=>rfl
 |e::l,d,h=>by
  simp only [tv];have h0:(if p e=true/\e.o.dst=some t then some e.v else d)=(if q e=true/\e.o.dst=some t then some e.v else d):=by
   by_cases m:e.o.dst=some t
   · rw [h e (Dd ..) m]
   · simp [m]
  rw [h0];exact Ev p q t l _ fun e' B=>h e' (E3 _ B)
theorem WT(p:Ec->Bool)(t:Nat):∀(l:List Ec) (d:Option Value),(∀e∈l,e.o.dst=some t->p e=false)->tv p t l d=d
 |[],_,_=>rfl
 |e::l,d,h=>by
  simp only [tv];rw [AH (fun m=>by rw [h e (Dd ..) m.2]at m;cases m.1)];exact WT p t l d fun e' B=>h e' (E3 _ B)
theorem PY(p:Ec->Bool)(t:Nat):∀(l m:List Ec) (d:Option Value),tv p t (l++m) d=tv p t m (tv p t l d)
 |[],_,_=>rfl
 |e::l,m,d=>by simp only [P2,tv];exact PY p t l m _
theorem Nf(p:Ec->Bool):∀(l m:List Ec) (a:Act),lay p (l++m) a=lay p m (lay p l a)
 |[],_,_=>rfl
 |e::l,m,a=>by simp only [P2,lay];exact Nf p l m _
def rL(A:List Nat)(o:Oper):Nat:=o.after.toList.foldl (fun m e=>if Region.binds .any e then m|||(1<<<e.on)|||A.getD e.on 0 else m) 0
def TG(ops:Array Oper)(A:List Nat)(N:Nat):Bool:=
 decide (A.length=ops.size)&&
 (List.range ops.size).all fun j=>match ops[j]?with
   |none=>false
   |some oj=>
    (rL A oj==A.getD j 0)&&
    (oj.after.toList.all fun e=>!Region.binds .any e||decide (e.on<j))&&
    ((List.range j).all fun i=>match ops[i]?with
      |none=>false
      |some oi=>oi.apart ops oj||(A.getD j 0).testBit i)&&
    Dr oj.op&&(match oj.op with| .select ..=>false|_=>true)&&fits N oj.dst
structure Ic(ops:Array Oper)(A:List Nat)(N:Nat):Prop where
 len:A.length=ops.size
 edge:∀j oj e,ops[j]?=some oj->e∈oj.after->Region.binds .any e=true->e.on<j
 anc:∀j oj i,ops[j]?=some oj->(A.getD j 0).testBit i=true->∃e∈oj.after,Region.binds .any e=true/\(e.on=i\/(A.getD e.on 0).testBit i=true)
 apart:∀i j oi oj,ops[i]?=some oi->ops[j]?=some oj->i<j->oi.apart ops oj=true\/(A.getD j 0).testBit i=true
 nod:∀(j:Nat) (oj:Oper),ops[j]?=some oj->Dr oj.op=true
 sel:∀(j:Nat) (oj:Oper) (cs:Array SelectCase) (b:Bool),ops[j]?=some oj->oj.op≠ .select cs b
 room:∀(j:Nat) (oj:Oper) (d:Nat),ops[j]?=some oj->oj.dst=some d->d<N
theorem Vz{A:List Nat}{i:Nat}:∀(l:List Edge) (m:Nat),(l.foldl (fun m e=>if Region.binds .any e then m|||(1<<<e.on)|||A.getD e.on 0 else m) m).testBit i=true->m.testBit i=true\/∃e∈l,Region.binds .any e=true/\(e.on=i\/(A.getD e.on 0).testBit i=true)
 |[],m,h=> .inl h
 |e::l,m,h=>by
  simp only [TO]at h;rcases Vz l _ h with h1|⟨e',he,h2⟩
  · by_cases B:Region.binds .any e=true
    · rw [AK B,nr,nr]at h1
      simp only [RW]at h1;rcases h1 with(h1|h1)|h1
      · exact .inl h1
      · refine .inr ⟨e,Dd ..,B,.inl ?_⟩
        rw [Nat.one_shiftLeft,Nat.testBit_two_pow]at h1;simpa using h1
      · exact .inr ⟨e,Dd ..,B,.inr h1⟩
    · rw [AH B]at h1;exact .inl h1
  · exact .inr ⟨e',E3 _ he,h2⟩
theorem eU{ops:Array Oper}{A:List Nat}{N:Nat}(h:TG ops A N=true):Ic ops A N:=by
 simp only [TG,Fo,G2,MA,Iv]at h;obtain ⟨h0,h⟩:=h;have B:∀{j:Nat} {o:Oper},ops[j]?=some o->j<ops.size:=fun m=>(HG.1 m).1
 refine ⟨h0,fun j oj e m I G=>?_,fun j oj i m G=>?_,fun i j U oj hi m J=>?_,fun j oj m=>?_,fun j oj cs b m O=>?_,fun j oj d m K=>?_⟩
 · have:=h j (B m)
   simp only [m,Fo,MA]at this;have:=this.1.1.1.1.2 e (by simpa using I)
   simpa [G]using this
 · have:=h j (B m)
   simp only [m,Fo]at this;have:=this.1.1.1.1.1
   simp only [beq_iff_eq]at this;rw [<-this]at G;rcases Vz _ _ G with h1|⟨e,I,h1⟩
   · simp at h1
   · exact ⟨e,by simpa using I,h1⟩
 · have:=h j (B m)
   simp only [m,Fo,MA,Iv]at this;have:=this.1.1.1.2 i J
   simp only [hi,RW]at this;exact this
 · have:=h j (B m)
   simp only [m,Fo]at this;exact this.1.1.2
 · have:=h j (B m)
   simp only [m,Fo]at this;rw [O]at this;simp at this
 · have:=h j (B m)
   simp only [m,Fo]at this;exact RH this.2 d K
def gU(ops:Array Oper)(L:Array Bool):Prop:=∀j oj,ops[j]?=some oj->L.getD j false=true->∀e∈oj.after,Region.binds .any e=true->L.getD e.on false=true
theorem Fh{ops:Array Oper}{A:List Nat}{N:Nat}(F:Ic ops A N){L:Array Bool}(Z:gU ops L):∀(j i:Nat) (oj:Oper),ops[j]?=some oj->(A.getD j 0).testBit i=true->
 (∀e∈oj.after,Region.binds .any e=true->L.getD e.on false=true)->L.getD i false=true:=by
 intro j;induction j using Nat.strongRecOn with
 |ind j ih=>
  intro i oj U hb X;obtain ⟨e,K,m,B⟩:=F.anc j oj i U hb;rcases B with rfl|B
  · exact X e K m
  · have W:=F.edge j oj e U K m
    obtain ⟨I,G⟩:∃I,ops[e.on]?=some I:=⟨_,HD (by have:=(HG.1 U).1;omega)⟩;exact ih e.on W i I G B (fun e' O J=>Z e.on I G (X e K m) e' O J)
theorem Ki{ops:Array Oper}{o:Oper}{a b:Act}(h:∀t∈o.looksAt ops,a.tmps[t]?=b.tmps[t]?):∀x∈o.op.operands,a.eval x=b.eval x:=by
 intro x B;cases x with
 |tmp t=>
  have m:t∈o.looksAt ops:=DS _ (X1.2 ⟨.tmp t,by simpa using B,rfl⟩);have:=h t m
  simp only [Act.eval,Kx,this]
 |_=>rfl
def bit(m i:Nat):Bool:=Nat.testBit m i
def Eu(m n:Nat):Bool:=Nat.beq (Nat.land m n) m
theorem RU{m n i:Nat}(h:Eu m n=true)(B:m.testBit i=true):n.testBit i=true:=by
 have G:m&&&n=m:=mn h;rw [<-G,kO]at B;simp only [Fo]at B;exact B.2
def oy(P:Program)(ops:Array Oper)(o:Oper)(env:Env)(C:List A9)(v:Value):Prop:=((∀a,wantedE ops a env o.guard=true)/\OpP P o env C v)\/((∀a,wantedE ops a env o.guard=false)/\v=undef/\C=[])
theorem Gg{ops:Array Oper}{o:Oper}{a b:Act}(h:∀t∈o.looksAt ops,a.tmps[t]?=b.tmps[t]?):Region.wanted o (yielded ops a.tmps)=Region.wanted o (yielded ops b.tmps):=by
 unfold Region.wanted;cases hg:o.guard with
 |none=>rfl
 |some gw=>
  obtain ⟨g,m⟩:=gw;simp only [yielded];cases ht:(ops[g]?).bind (·.dst)with
  |none=>rfl
  |some t=>
   have:=h t (by unfold Oper.looksAt;rw [hg];simp only [B9];right;rw [ht];simp);simp only [I2,this]
section
variable(P:Program)(ops:Array Oper)(A:List Nat)(F:Nat)(cx:Cx)(Q:Exit->Act->World->Prop)
def Kc(D:Nat):List Nat:=(List.range ops.size).filter fun f=>bit F f&&!bit D f&&Eu (A.getD f 0) D
def mG(D:Nat):Bool:=(List.range ops.size).all fun i=>bit F i||bit D i||!Eu (Nat.land (A.getD i 0) F) D
def Lin:Nat->Nat->List (Nat×A9)->Env->Hp->Prop
 |0,_,_,env,H=>Nx cx (Q .normal) env H
 |n+1,D,T,env,H=>
  (∃i o v C,ops[i]?=some o/\bit D i=false/\Eu (A.getD i 0) D=true/\(∀c∈C,c∈H.flatten)/\oy P ops o env C v/\Lin n (D|||(1<<<i)) (C.map (fun c=>(i,c))++T) (putE o.dst v env) H)\/
  (mG ops A F D=true/\∀f∈Kc ops A F D,∃o T',ops[f]?=some o/\(∀a,wantedE ops a env o.guard=true)/\(∀p∈T,bit (A.getD f 0) p.1=true\/p∈T')/\
    OpW P cx.u o env H (fun v H'=>(∀p∈T',p.2∈H'.flatten)/\Lin n (D|||(1<<<f)) T' (putE o.dst v env) H') (fun ch H'=>∀env,Nx cx (Q (.panic ch)) env H'))
end
section
variable{P:Program}{ops:Array Oper}{A:List Nat}{F:Nat}{N:Nat}{cx:Cx}{Q:Exit->Act->World->Prop}{a0:Act}{env0:Env}
def FY(env0:Env):List Ec->Env
 |[]=>env0
 |e::x=>FY (putE e.o.dst e.v env0) x
theorem Kk:∀(x y:List Ec) (env0:Env),FY env0 (x++y)=FY (FY env0 x) y
 |[],_,_=>rfl
 |e::x,y,env0=>by simp only [P2,FY];exact Kk x y _
theorem He(a0:Act):∀(x:List Ec) (env0:Env),C9 (FY env0 x) a0=lay (fun _=>true) x (C9 env0 a0)
 |[],_=>rfl
 |e::x,env0=>by simp only [FY,lay,Hh];rw [He a0 x,Pp]
structure Ji(P:Program)(ops:Array Oper)(A:List Nat)(F:Nat)(cx:Cx)(Q:Exit->Act->World->Prop)(a0:Act)(env0:Env)(L:Array Bool)(a:Act)(w:World)(x:List Ec)(D:Nat)(T:List (Nat×A9))(H:Hp):Prop where
 size:L.size=ops.size
 shut:gU ops L
 act:a=lay (fun e=>L.getD e.i false) x (C9 env0 a0)
 sat:Sat cx.u H w
 mask:∀i,bit D i=true↔∃e∈x,e.i=i
 nodup:(x.map (·.i)).Nodup
 isop:∀e∈x,ops[e.i]?=some e.o
 listed:∀i,L.getD i false=true->bit D i=true
 effs:∀e∈x,e.k=true->L.getD e.i false=true
 order:∀x1 e x2,x=x1++e::x2->∀i,(A.getD e.i 0).testBit i=true->∃e'∈x1,e'.i=i
 pend:∀x1 e x2,x=x1++e::x2->e.k=false->oy P ops e.o (FY env0 x1) e.C e.v
 reads:∀e∈x,L.getD e.i false=false->∀c∈e.C,(e.i,c)∈T/\c∈H.flatten
 fit:Fit cx.N (FY env0 x)
 walk:Lin P ops A F cx Q (ops.size -x.length) D T (FY env0 x) H
theorem U1(D i j:Nat):bit (D|||(1<<<i)) j=true↔bit D j=true\/i=j:=by
 unfold bit;rw [nr,RW,Nat.one_shiftLeft,Nat.testBit_two_pow];simp
theorem gX(FT:Ic ops A N){L:Array Bool}{a:Act}{w:World}{x:List Ec}{D:Nat}{T:List (Nat×A9)}{H:Hp}(h:Ji P ops A F cx Q a0 env0 L a w x D T H)
 {X Z:List Ec}{e:Ec}(K:x=X++e::Z)(bn:L.getD e.i false=false)(O:∀g∈e.o.after,Region.binds .any g=true->L.getD g.on false=true)
 {t:Nat}(B:t∈e.o.looksAt ops\/e.o.dst=some t):(∀k∈X,k.o.dst=some t->L.getD k.i false=true)/\(∀k∈Z,k.o.dst=some t->L.getD k.i false=false):=by
 have he:ops[e.i]?=some e.o:=h.isop e (by rw [K];simp);have J:∀k,k∈X\/k∈Z->k.i≠e.i:=fun k hk hh=>by
  have W:=h.nodup;rw [K,BW,DO,Ge]at W;obtain ⟨h1,h2,h3⟩:=W;rcases hk with hk|hk
  · exact h3 k.i (DM hk) e.i (Dd ..) hh
  · rw [HW]at h2
    exact h2.1 (hh▸DM hk)
 have ord:∀k:Ec,ops[k.i]?=some k.o->k.i≠e.i->k.o.dst=some t->(A.getD e.i 0).testBit k.i=true\/(A.getD k.i 0).testBit e.i=true:=by
  intro k hk ax G;rcases Nat.lt_or_gt_of_ne ax with hlt|hlt
  · rcases FT.apart k.i e.i k.o e.o hk he hlt with hap|hb
    · exfalso
      obtain ⟨h1,h2,h3⟩:=Oper.apart_spec hap;rcases B with B|B
      · exact h1 t G B
      · exact h2 t G B
    · exact .inl hb
  · rcases FT.apart e.i k.i e.o k.o he hk hlt with hap|hb
    · exfalso
      obtain ⟨h1,h2,h3⟩:=Oper.apart_spec hap;rcases B with B|B
      · exact h3 t G B
      · exact h2 t B G
    · exact .inr hb
 refine ⟨fun k hk G=>?_,fun k hk G=>?_⟩
 · have m:=h.isop k (by rw [K];simp [hk])
   rcases ord k m (J k (.inl hk)) G with hb|hb
   · exact Fh FT h.shut e.i k.i e.o he hb O
   · exfalso
     obtain ⟨y1,y2,hy⟩:=ao hk;obtain ⟨e',I,hi⟩:=h.order y1 k (y2++e::Z) (by rw [K,hy];simp) e.i hb;have U:e'∈X:=by rw [hy];simp [I]
     exact J e' (.inl U) hi
 · have m:=h.isop k (by rw [K];simp [hk])
   rcases ord k m (J k (.inr hk)) G with hb|hb
   · exfalso
     obtain ⟨e',I,hi⟩:=h.order X e Z K k.i hb;have W:=h.nodup
     rw [K,BW,DO,Ge]at W;exact W.2.2 e'.i (DM I) k.i (E3 _ (DM hk)) hi
   · cases hl:L.getD k.i false with
     |false=>rfl
     |true=>
      have:=Fh FT h.shut k.i e.i k.o m hb (fun g hg af=>h.shut k.i k.o m hl g hg af);rw [bn]at this;cases this
theorem eQ(W:Ic ops A N){L:Array Bool}{a:Act}{w:World}{x:List Ec}{D:Nat}{T:List (Nat×A9)}{H:Hp}(h:Ji P ops A F cx Q a0 env0 L a w x D T H)
 {J U:List Ec}{e:Ec}(O:x=J++e::U)(G:L.getD e.i false=false)(B:∀g∈e.o.after,Region.binds .any g=true->L.getD g.on false=true):
 ∀t∈e.o.looksAt ops,a.tmps[t]?=(C9 (FY env0 J) a0).tmps[t]?:=by
 intro t Z;have K:=gX W h O G B (.inl Z)
 have X:a.tmps.size=(C9 env0 a0).tmps.size:=by rw [h.act,Cz]
 by_cases m:t<(C9 env0 a0).tmps.size
 · rw [h.act,He,EB _ _ _ _ m,EB _ _ _ _ m,O,PY]
   rw [WT _ t (e::U) _ (fun k hk I=>by
    rcases D0.1 hk with rfl|hk
    · exact G
    · exact K.2 k hk I)]
   exact Ev _ _ t J _ fun k hk I=>by rw [K.1 k hk I]
 · rw [HT (by rw [X];exact dy m),HT (by rw [He,Cz];exact dy m)]
theorem Eb(L:Array Bool)(j i:Nat)(m:j<L.size):(L.setIfInBounds j true).getD i false=if i=j then true else L.getD i false:=by
 by_cases e:i=j
 · subst e;simp [m]
 · rw [getD_set_ne false (cQ e),AH e]
theorem wO(FT:Ic ops A N){L:Array Bool}{a:Act}{w:World}{x:List Ec}{D:Nat}{T:List (Nat×A9)}{H:Hp}(h:Ji P ops A F cx Q a0 env0 L a w x D T H)
 {x1 x2:List Ec}{e:Ec}(O:x=x1++e::x2)(X:L.getD e.i false=false)(I:∀g∈e.o.after,Region.binds .any g=true->L.getD g.on false=true):
 a.put e.o.dst e.v=lay (fun k=>(L.setIfInBounds e.i true).getD k.i false) x (C9 env0 a0):=by
 have Z:ops[e.i]?=some e.o:=h.isop e (by rw [O];simp);have W:e.i<L.size:=by rw [h.size];exact (HG.1 Z).1
 refine Iz (by rw [ED,Cz,h.act,Cz]) (by rw [JY,FE,h.act,FE]) fun t K=>?_;rw [ED]at K;have J:t<(C9 env0 a0).tmps.size:=by rw [h.act,Cz]at K;exact K
 rw [Ip _ _ _ _ K,EB _ _ _ _ J];by_cases G:e.o.dst=some t
 · rw [AK G]
   have hw:=gX FT h O X I (.inr G);rw [O,PY];simp only [tv];rw [AK ⟨by rw [Eb _ _ _ W,AK rfl],G⟩];rw [WT];intro k hk B;have m:k.i≠e.i:=fun U=>by
    have hn:=h.nodup;rw [O,BW,DO,Ge,HW]at hn;exact hn.2.1.1 (U▸DM hk)
   rw [Eb _ _ _ W,AH m];exact hw.2 k hk B
 · rw [AH G,h.act,EB _ _ _ _ J]
   refine Ev _ _ t x _ fun k hk B=>?_;rw [Eb _ _ _ W];by_cases m:k.i=e.i
   · exfalso
     have:=h.isop k hk;rw [m,Z]at this;obtain U:=PA this;rw [U]at G;exact G B
   · rw [AH m]
theorem Y8{L:Array Bool}(O:gU ops L){j:Nat}(K:j<L.size){oj:Oper}(G:ops[j]?=some oj)(m:∀g∈oj.after,Region.binds .any g=true->L.getD g.on false=true):gU ops (L.setIfInBounds j true):=by
 intro k ok hk B g J I;rw [Eb _ _ _ K]at B⊢;by_cases e1:k=j
 · subst e1
   rw [G]at hk;obtain rfl:=PA hk;rw [m g J I];simp
 · rw [AH e1]at B
   rw [O k ok hk B g J I];simp
theorem rM(FT:Ic ops A cx.N){L:Array Bool}{a:Act}{w:World}{j:Nat}{oj:Oper}(af:ops[j]?=some oj)(l5:L.getD j false=false)(bn:∀g∈oj.after,Region.binds .any g=true->L.getD g.on false=true):
 ∀(n:Nat) (x:List Ec) (D:Nat) (T:List (Nat×A9)) (H:Hp),ops.size -x.length=n->Ji P ops A F cx Q a0 env0 L a w x D T H->
  (∃x' D' T',Ji P ops A F cx Q a0 env0 L a w x' D' T' H/\bit D' j=true)\/
  (∃x' D' T',Ji P ops A F cx Q a0 env0 L a w x' D' T' H/\j∈Kc ops A F D'/\mG ops A F D'=true/\∃m,ops.size -x'.length=m+1/\∃o Z,ops[j]?=some o/\(∀a,wantedE ops a (FY env0 x') o.guard=true)/\(∀p∈T',bit (A.getD j 0) p.1=true\/p∈Z)/\
    OpW P cx.u o (FY env0 x') H (fun v H'=>(∀p∈Z,p.2∈H'.flatten)/\Lin P ops A F cx Q m (D'|||(1<<<j)) Z (putE o.dst v (FY env0 x')) H') (fun ch H'=>∀env,Nx cx (Q (.panic ch)) env H')):=by
 intro n;induction n with
 |zero=>
  intro x D T H hn h;left;refine ⟨x,D,T,h,?_⟩;have J:j<ops.size:=(HG.1 af).1
  have X:ops.size<=(x.map (·.i)).length:=by rw [B2];omega
  have ek:∀i∈x.map (·.i),i<ops.size:=fun i hi=>by
   obtain ⟨e,B,rfl⟩:=Bk.1 hi;exact (HG.1 (h.isop e B)).1
  have:j∈x.map (·.i):=by
   apply a7;intro gy;have gq:=p6 (l₁:=j::x.map (·.i)) (l₂:=List.range ops.size) (HW.2 ⟨gy,h.nodup⟩) (fun i hi=>by
    rcases D0.1 hi with rfl|hi
    · exact Iv.2 J
    · exact Iv.2 (ek i hi))
   simp only [DE,B2,aq]at gq;omega
  obtain ⟨e,B,hi⟩:=Bk.1 this;exact (h.mask j).2 ⟨e,B,hi⟩
 |succ n ih=>
  intro x D T H hn h;by_cases hD:bit D j=true
  · exact .inl ⟨x,D,T,h,hD⟩
  · have hw:=h.walk
    rw [hn]at hw;simp only [Lin]at hw;rcases hw with⟨i,o,v,C,ho,cO,j5,hC,ic,hk⟩|⟨hfull,hk⟩
    ·
     have d9:∀e∈x,e.i≠i:=fun e B hh=>by
      have:=(h.mask i).2 ⟨e,B,hh⟩;rw [cO]at this;cases this
     have gm:L.getD i false=false:=by
      cases hl:L.getD i false with
      |false=>rfl
      |true=>have:=h.listed i hl;rw [cO]at this;cases this
     have cu:lay (fun e=>L.getD e.i false) (x++[⟨i,o,v,C,false⟩]) (C9 env0 a0)=a:=by
      rw [Nf,<-h.act];simp only [lay,gm];rfl
     have I:∀(s1:List Ec) (e:Ec) (s2:List Ec),x++[⟨i,o,v,C,false⟩]=s1++e::s2->(∃K,s2=K++[⟨i,o,v,C,false⟩]/\x=s1++e::K)\/(s2=[]/\e=⟨i,o,v,C,false⟩/\s1=x):=by
      intro s1 e s2 hs;rcases fg s2 with rfl|⟨K,z,rfl⟩
      · right
        have:=fp hs rfl;exact ⟨V,(by simpa using this.2.symm),this.1.symm⟩
      · left
        have j3:x++[⟨i,o,v,C,false⟩]=(s1++e::K)++[z]:=by rw [hs];simp
        have:=fp j3 rfl;have hz:z=⟨i,o,v,C,false⟩:=by simpa using this.2.symm
        exact ⟨K,by rw [hz];simp,this.1⟩
     have W:FY env0 (x++[⟨i,o,v,C,false⟩])=putE o.dst v (FY env0 x):=by rw [Kk];rfl
     refine ih (x++[⟨i,o,v,C,false⟩]) (D|||(1<<<i)) (C.map (fun c=>(i,c))++T) H HQ ⟨h.size,h.shut,cu.symm,h.sat,fun k=>?_,?_,fun e B=>?_,fun k hk=>?_,fun k hk hf=>?_,fun s1 e s2 hs k U=>?_,fun s1 e s2 hs hf=>?_,fun e B hl c hc=>?_,?_,?_⟩
     · rw [U1,h.mask k]
       constructor
       · rintro (⟨e,B,hi⟩|rfl)
         · exact ⟨e,by simp [B],hi⟩
         · exact ⟨⟨i,o,v,C,false⟩,by simp,rfl⟩
       · rintro ⟨e,B,hi⟩
         rcases B9.1 B with B|B
         · exact .inl ⟨e,B,hi⟩
         · simp only [BT]at B;subst B;exact .inr hi
     · rw [BW,Ge]
       refine ⟨h.nodup,by simp,fun p hp q hq=>?_⟩;simp only [DO,I3,BT]at hq;subst hq;obtain ⟨e,B,rfl⟩:=Bk.1 hp;exact d9 e B
     · rcases B9.1 B with B|B
       · exact h.isop e B
       · simp only [BT]at B;subst B;exact ho
     · exact (U1 _ _ _).2 (.inl (h.listed k hk))
     · rcases B9.1 hk with hk|hk
       · exact h.effs k hk hf
       · rw [BT.1 hk]at hf;cases hf
     · rcases I s1 e s2 hs with⟨K,_,ax⟩|⟨_,rfl,rfl⟩
       · exact h.order s1 e K ax k U
       · exact (h.mask k).1 (RU j5 U)
     · rcases I s1 e s2 hs with⟨K,_,ax⟩|⟨_,rfl,rfl⟩
       · exact h.pend s1 e K ax hf
       · exact ic
     · rcases B9.1 B with B|B
       · have:=h.reads e B hl c hc
         exact ⟨G1 _ this.1,this.2⟩
       · simp only [BT]at B;subst B
         exact ⟨DS _ (Bk.2 ⟨c,hc,V⟩),hC c hc⟩
     · rw [W];exact h.fit.putE (fun t ht=>FT.room i o t ho ht) v
     · have X:ops.size -(x++[(⟨i,o,v,C,false⟩:Ec)]).length=n:=by simp;omega
       rw [W,X];exact hk
    ·
     right;have J:j<ops.size:=(HG.1 af).1
     have O:∀i,(A.getD j 0).testBit i=true->bit D i=true:=fun i U=>h.listed i (Fh FT h.shut j i oj af U bn);have kv:Eu (A.getD j 0) D=true:=by
      unfold Eu;have:Nat.land (A.getD j 0) D=A.getD j 0:=by
       apply Nat.eq_of_testBit_eq;intro i;show(A.getD j 0&&&D).testBit i=_
       rw [kO];cases U:(A.getD j 0).testBit i with
       |false=>rfl
       |true=>rw [show D.testBit i=true from O i U];rfl
      rw [this];exact Nat.beq_refl _
     have hF:bit F j=true:=by
      have:=MA.1 hfull j (Iv.2 J);simp only [RW,SZ]at this;rcases this with(h1|h1)|h1
      · exact h1
      · exact absurd h1 hD
      · exfalso
        have:Eu (Nat.land (A.getD j 0) F) D=true:=by
         unfold Eu;have:Nat.land (Nat.land (A.getD j 0) F) D=Nat.land (A.getD j 0) F:=by
          apply Nat.eq_of_testBit_eq;intro i;show((A.getD j 0&&&F)&&&D).testBit i=(A.getD j 0&&&F).testBit i
          rw [kO (A.getD j 0&&&F),kO];cases U:(A.getD j 0).testBit i with
          |false=>rfl
          |true=>rw [show D.testBit i=true from O i U];simp
         rw [this];exact Nat.beq_refl _
        rw [this]at h1;cases h1
     have G:j∈Kc ops A F D:=F1.2 ⟨Iv.2 J,by rw [hF,kv];simp only [nh]at hD;rw [hD];rfl⟩;exact ⟨x,D,T,h,G,hfull,n,hn,hk j G⟩
theorem Ug{r:Option Nat}{i:Nat}{o:Oper}{a:Act}{w:World}{K:Act->World->Prop}(hi:ops[i]?=some o)(m:Region.wanted o (yielded ops a.tmps)=true)(h:o.wpIn (Fx r) 0 P a w K Q):wpOpIn (Fx r) 0 P ops Q i K a w:=by
 unfold wpOpIn;simp only [hi];rw [AK m];exact h
theorem jR{r:Option Nat}{i:Nat}{o:Oper}{a:Act}{w:World}{K:Act->World->Prop}(hi:ops[i]?=some o)(m:Region.wanted o (yielded ops a.tmps)=false)(h:K (a.put o.dst undef) w):wpOpIn (Fx r) 0 P ops Q i K a w:=by
 unfold wpOpIn;simp only [hi];rw [AH (by rw [m];simp)];exact ⟨fun _ _=>trivial,h⟩
theorem X8(hN:a0.tmps.size=cx.N)(hD:a0.defers=cx.D)(pq:Fit cx.N env0)(FT:Ic ops A cx.N):∀(U:Nat) (L:Array Bool) (a:Act) (w:World) (x:List Ec) (D:Nat) (T:List (Nat×A9)) (H:Hp),
 ((List.range ops.size).countP fun i=>!L.getD i false)<=U->Ji P ops A F cx Q a0 env0 L a w x D T H->wpAnyIn (Fx cx.r) 0 P .any ops Q U L a w:=by
 have j3:∀(L:Array Bool),L.size=ops.size->Region.ready .any ops L=[]->∀j,j<ops.size->L.getD j false=true:=by
  intro L qo hr j;induction j using Nat.strongRecOn with
  |ind j ih=>
   intro hj;cases Z:L.getD j false with
   |true=>rfl
   |false=>
    obtain ⟨oj,B⟩:∃oj,ops[j]?=some oj:=⟨_,HD hj⟩;have:j∈Region.ready .any ops L:=mem_ready.2 ⟨by
     rw [Kx,HD (by rw [qo];exact hj)]at Z⊢;simpa using Z,oj,B,fun e I X=>by
      have:=FT.edge j oj e B I X;exact ih e.on this A1⟩
    rw [hr]at this;cases this
 have ic:∀(L:Array Bool) (a:Act) (w:World) (x:List Ec) (D:Nat) (T:List (Nat×A9)) (H:Hp),Ji P ops A F cx Q a0 env0 L a w x D T H->Region.ready .any ops L=[]->Q .normal a w:=by
  intro L a w x D T H h hr;have J:=j3 L h.size hr
  have qz:ops.size<=x.length:=by
   have qa:=p6 (l₁:=List.range ops.size) (l₂:=x.map (·.i)) ft (fun i hi=>by
    obtain ⟨e,I,q9⟩:=(h.mask i).1 (h.listed i (J i (Iv.1 hi)));exact Bk.2 ⟨e,I,q9⟩)
   simpa using qa
  have hw:=h.walk;rw [show ops.size -x.length=0 by omega]at hw;simp only [Lin]at hw;have ha:a=C9 (FY env0 x) a0:=by
   rw [h.act,He];refine Iz (by rw [Cz,Cz]) (by rw [FE,FE]) fun t ht=>?_;rw [Cz]at ht;rw [EB _ _ _ _ ht,EB _ _ _ _ ht];exact Ev _ _ t x _ fun e I _=>J e.i (HG.1 (h.isop e I)).1
  rw [ha];exact hw a0 w ⟨hN,hD,h.fit,h.sat⟩
 intro U;induction U with
 |zero=>
  intro L a w x D T H hc h;have hr:Region.ready .any ops L=[]:=by
   cases hr:Region.ready .any ops L with
   |nil=>rfl
   |cons j js=>
    have hj:j∈Region.ready .any ops L:=by rw [hr];exact Dd ..
    obtain ⟨ax,oj,B,_⟩:=mem_ready.1 hj;have cu:j<ops.size:=(HG.1 B).1
    have W:L.getD j false=false:=by
     rw [Kx]at ax⊢;rw [HD (by rw [h.size];exact cu)]at ax⊢;simpa using ax
    have:0<(List.range ops.size).countP fun i=>!L.getD i false:=List.countP_pos_iff.2 ⟨j,Iv.2 cu,by rw [W];rfl⟩;omega
  exact ⟨hr,ic L a w x D T H h hr⟩
 |succ U ih=>
  intro L a w x D T H hc h;refine ⟨fun hr=>ic L a w x D T H h hr,fun j hj=>?_⟩;obtain ⟨ax,oj,B,J⟩:=mem_ready.1 hj;have cu:j<ops.size:=(HG.1 B).1
  have K:j<L.size:=by rw [h.size];exact cu
  have W:L.getD j false=false:=by
   rw [Kx]at ax⊢;rw [HD K]at ax⊢;simpa using ax
  have gq:((List.range ops.size).countP fun i=>!(L.setIfInBounds j true).getD i false)<=U:=by
   have cO:((List.range ops.size).countP fun i=>!(L.setIfInBounds j true).getD i false)<(List.range ops.size).countP fun i=>!L.getD i false:=by
    obtain ⟨r1,r2,hr⟩:=ao (Iv.2 cu);rw [hr,jx,jx,List.countP_cons,List.countP_cons];have d9:∀l:List Nat,(l.countP fun i=>!(L.setIfInBounds j true).getD i false)<=l.countP fun i=>!L.getD i false:=fun l=>List.countP_mono_left fun i _ hi=>by
     rw [Eb _ _ _ K]at hi;split at hi
     · simp at hi
     · exact hi
    have h1:=d9 r1;have h2:=d9 r2
    have e1:(!(L.setIfInBounds j true).getD j false)=false:=by rw [Eb _ _ _ K];simp
    have e2:(!L.getD j false)=true:=by rw [W];rfl
    rw [e1,e2];simp only [My,HN,Hh];omega
   omega
  rcases rM FT B W J _ x D T H rfl h with⟨x',D',T',G,l5⟩|⟨x',D',T',G,hnext,hfull,m,hm,o,T'',ho,hwt,hT,hW⟩
  ·
   obtain ⟨e,I,p9⟩:=(G.mask j).1 l5;obtain ⟨x1,x2,hx⟩:=ao I;subst p9;have pg:e.o=oj:=by have:=G.isop e I;rw [B]at this;exact (PA this).symm
   subst pg;have qb:e.k=false:=by
    cases X:e.k with
    |false=>rfl
    |true=>have:=G.effs e (by rw [hx];simp) X;rw [W]at this;cases this
   have hP:=G.pend x1 e x2 hx qb;have O:=eQ FT G hx W J
   have af:Fit a0.tmps.size (FY env0 x1):=by
    have:∀(l:List Ec) (E:Env),(∀k∈l,ops[k.i]?=some k.o)->Fit cx.N E->Fit cx.N (FY E l):=by
     intro l;induction l with
     |nil=>intro E _ h;exact h
     |cons k l ihl=>intro E hk h;exact ihl _ (fun q hq=>hk q (E3 _ hq)) (h.putE (fun t ht=>FT.room k.i k.o t (hk k (Dd ..)) ht) _)
    rw [hN];exact this x1 env0 (fun k hk=>G.isop k (by rw [hx];simp [hk])) pq
   have pz:wpAnyIn (Fx cx.r) 0 P .any ops Q U (L.setIfInBounds e.i true) (a.put e.o.dst e.v) w->wpOpIn (Fx cx.r) 0 P ops Q e.i (wpAnyIn (Fx cx.r) 0 P .any ops Q U (L.setIfInBounds e.i true)) a w:=fun hz=>by
    rcases hP with⟨hy,hP⟩|⟨hno,hv,_⟩
    · refine Ug B (by rw [Gg O,Fq ops e.o a0 _ af];exact hy a0) ⟨fun _ _=>trivial,WR ?_⟩
      rw [Ro (Ll (FT.nod e.i e.o B))];rw [execOp_congr e.o (FT.sel e.i e.o · · B) (Ki O),FO a0 _ af];rw [hP a0 w fun c hc=>G.sat.get c (G.reads e I W c hc).2];exact hz
    · refine jR B (by rw [Gg O,Fq ops e.o a0 _ af];exact hno a0) ?_
      rw [<-hv];exact hz
   refine pz ?_;refine ih (L.setIfInBounds e.i true) _ w x' D' T' H gq ⟨by simp [G.size],Y8 G.shut K B J,wO FT G hx W J,G.sat,G.mask,G.nodup,G.isop,fun k hk=>?_,fun k hk hf=>?_,G.order,G.pend,fun k hk Z c hc=>?_,G.fit,G.walk⟩
   · rw [Eb _ _ _ K]at hk
     split at hk
     · rename_i e1;subst e1;exact l5
     · exact G.listed k hk
   · rw [Eb _ _ _ K];split
     · rfl
     · exact G.effs k hk hf
   · rw [Eb _ _ _ K]at Z
     split at Z
     · cases Z
     · exact G.reads k hk Z c hc
  ·
   have qj:o=oj:=by rw [B]at ho;exact (PA ho).symm
   subst qj;obtain ⟨qx,o8,qw⟩:bit F j=true/\bit D' j=false/\Eu (A.getD j 0) D'=true:=by
    have:=(F1.1 hnext).2;simp only [Fo,SZ]at this;exact ⟨this.1.1,this.1.2,this.2⟩
   have bn:∀e∈x',e.i≠j:=fun e I hh=>by
    have:=(G.mask j).2 ⟨e,I,hh⟩;rw [o8]at this;cases this
   have O:∀t∈o.looksAt ops,a.tmps[t]?=(C9 (FY env0 x') a0).tmps[t]?:=by
    intro t ht;by_cases cO:t<(C9 env0 a0).tmps.size
    · rw [G.act,He,EB _ _ _ _ cO,EB _ _ _ _ cO]
      refine Ev _ _ t x' _ fun k hk hd=>?_;have l8:=G.isop k hk
      have:(A.getD j 0).testBit k.i=true\/(A.getD k.i 0).testBit j=true:=by
       rcases Nat.lt_or_gt_of_ne (bn k hk)with Z|Z
       · rcases FT.apart k.i j k.o o l8 B Z with hap|X
         · exact absurd ht ((Oper.apart_spec hap).1 t hd)
         · exact .inl X
       · rcases FT.apart j k.i o k.o B l8 Z with hap|X
         · exact absurd ht ((Oper.apart_spec hap).2.2 t hd)
         · exact .inr X
      rcases this with X|X
      · exact Fh FT G.shut j k.i o B X J
      · exfalso
        obtain ⟨y1,y2,hy⟩:=ao hk;obtain ⟨e',p8,hi⟩:=G.order y1 k y2 hy j X;exact bn e' (by rw [hy];simp [p8]) hi
    · have hs:a.tmps.size=(C9 env0 a0).tmps.size:=by rw [G.act,Cz]
      rw [HT (by rw [hs];exact dy cO),HT (by rw [He,Cz];exact dy cO)]
   refine Ug B (by rw [Gg O,Fq ops o a0 _ (by rw [hN];exact G.fit)];exact hwt a0) ⟨fun _ _=>trivial,WR ?_⟩;rw [Ro (Ll (FT.nod j o B))];rw [execOp_congr o (FT.sel j o · · B) (Ki O),FO a0 _ (by rw [hN];exact G.fit)];refine hW a0 w G.sat _ _ (fun v H' w' hv ek=>?_) (fun ch H' w' hv ek=>?_)
   · obtain ⟨o9,hk⟩:=hv
     have gy:FY env0 (x'++[⟨j,o,v,[],true⟩])=putE o.dst v (FY env0 x'):=by rw [Kk];rfl
     have gm:∀(s1:List Ec) (e:Ec) (s2:List Ec),x'++[⟨j,o,v,[],true⟩]=s1++e::s2->(∃s3,s2=s3++[⟨j,o,v,[],true⟩]/\x'=s1++e::s3)\/(s2=[]/\e=⟨j,o,v,[],true⟩/\s1=x'):=by
      intro s1 e s2 hs;rcases fg s2 with rfl|⟨s3,z,rfl⟩
      · right
        have:=fp hs rfl;exact ⟨V,(by simpa using this.2.symm),this.1.symm⟩
      · left
        have ql:x'++[⟨j,o,v,[],true⟩]=(s1++e::s3)++[z]:=by rw [hs];simp
        have:=fp ql rfl;have hz:z=⟨j,o,v,[],true⟩:=by simpa using this.2.symm
        exact ⟨s3,by rw [hz];simp,this.1⟩
     refine ih (L.setIfInBounds j true) _ w' (x'++[⟨j,o,v,[],true⟩]) (D'|||(1<<<j)) T'' H' gq ⟨by simp [G.size],Y8 G.shut K B J,?_,ek,fun k=>?_,?_,fun e I=>?_,fun k hk=>?_,fun k hk hf=>?_,fun s1 e s2 hs k X=>?_,fun s1 e s2 hs hf=>?_,fun e I Z c hc=>?_,?_,?_⟩
     ·
      rw [Nf];have j5:lay (fun e=>(L.setIfInBounds j true).getD e.i false) x' (C9 env0 a0)=a:=by
       rw [G.act];refine Iz (by rw [Cz,Cz]) (by rw [FE,FE]) fun t ht=>?_;rw [Cz]at ht;rw [EB _ _ _ _ ht,EB _ _ _ _ ht];exact Ev _ _ t x' _ fun k hk _=>by rw [Eb _ _ _ K,AH (bn k hk)]
      rw [j5];simp only [lay];rw [AK (by rw [Eb _ _ _ K];simp)]
     · rw [U1,G.mask k]
       constructor
       · rintro (⟨e,I,hi⟩|rfl)
         · exact ⟨e,by simp [I],hi⟩
         · exact ⟨⟨j,o,v,[],true⟩,by simp,rfl⟩
       · rintro ⟨e,I,hi⟩
         rcases B9.1 I with I|I
         · exact .inl ⟨e,I,hi⟩
         · simp only [BT]at I;subst I;exact .inr hi
     · rw [BW,Ge]
       refine ⟨G.nodup,by simp,fun p hp q hq=>?_⟩;simp only [DO,I3,BT]at hq;subst hq;obtain ⟨e,I,rfl⟩:=Bk.1 hp;exact bn e I
     · rcases B9.1 I with I|I
       · exact G.isop e I
       · simp only [BT]at I;subst I;exact B
     · rw [Eb _ _ _ K]at hk
       split at hk
       · rename_i e1;exact (U1 _ _ _).2 (.inr e1.symm)
       · exact (U1 _ _ _).2 (.inl (G.listed k hk))
     · rw [Eb _ _ _ K]
       split
       · rfl
       · rename_i hne
         rcases B9.1 hk with hk|hk
         · exact G.effs k hk hf
         · rw [BT.1 hk]at hne;exact absurd rfl hne
     · rcases gm s1 e s2 hs with⟨s3,_,kv⟩|⟨_,rfl,rfl⟩
       · exact G.order s1 e s3 kv k X
       · exact (G.mask k).1 (RU qw X)
     · rcases gm s1 e s2 hs with⟨s3,_,kv⟩|⟨_,rfl,rfl⟩
       · exact G.pend s1 e s3 kv hf
       · cases hf
     · rw [Eb _ _ _ K]at Z
       split at Z
       · cases Z
       · rename_i hne
         rcases B9.1 I with I|I
         · have hr:=G.reads e I Z c hc
           rcases hT (e.i,c) hr.1 with X|X
           · exfalso
             have:=Fh FT G.shut j e.i o B X J;rw [Z]at this;cases this
           · exact ⟨X,o9 _ X⟩
         · simp only [BT]at I;subst I;cases hc
     · rw [gy];exact G.fit.putE (fun t ht=>FT.room j o t B ht) v
     · have l9:ops.size -(x'++[(⟨j,o,v,[],true⟩:Ec)]).length=m:=by simp;omega
       rw [gy,l9];exact hk
   · have hp:=hv (FY env0 x')
     have ha:∃a1,a=C9 (FY env0 x') a1/\a1.tmps.size=cx.N/\a1.defers=cx.D\/True:=⟨a,.inr trivial⟩;clear ha;have:=hv [] a w' ⟨by rw [G.act,Cz,J4];exact hN,by rw [G.act,FE,Fb];exact hD,(by intro q hq;cases hq),ek⟩
     exact this
section
variable{n D:Nat}{T:List (Nat×A9)}{env:Env}{H:Hp}
theorem Ai(h:Nx cx (Q .normal) env H):Lin P ops A F cx Q 0 D T env H:=h
theorem y7{d:Nat}{G:Op}{ty:TypeId}{pos:String}{af:Array Edge}{v:Value}{D':Nat}(i:Nat)(J:ops[i]?=some ⟨some d,G,ty,pos,af,none⟩)(m:(!bit F i&&!bit D i&&Eu (A.getD i 0) D)=true)(I:D|||(1<<<i)=D')(B:OpP P ⟨some d,G,ty,pos,af,none⟩ env [] v)
 (k:Lin P ops A F cx Q n D' T ((d,v)::env) H):Lin P ops A F cx Q (n+1) D T env H:=by
 simp only [Fo,SZ]at m;subst I;exact .inl ⟨i,_,v,[],J,m.1.2,m.2,by simp,.inl ⟨fun _=>rfl,B⟩,k⟩
theorem Dl{d:Nat}{B:Op}{ty:TypeId}{pos:String}{af:Array Edge}{v:Value}{D':Nat}(i:Nat)(m:OpP P ⟨some d,B,ty,pos,af,none⟩ env [] v)
 (k:Lin P ops A F cx Q n D' T ((d,v)::env) H)(J:ops[i]?=some ⟨some d,B,ty,pos,af,none⟩:=by exact rfl)(G:(!bit F i&&!bit D i&&Eu (A.getD i 0) D)=true:=by exact rfl)(I:D|||(1<<<i)=D':=by exact rfl):Lin P ops A F cx Q (n+1) D T env H:=y7 i J G I m k
theorem Aj{d:Nat}{G:Op}{ty:TypeId}{pos:String}{af:Array Edge}{g:Nat×Bool}{v:Value}{D':Nat}(i:Nat)(J:∀a,wantedE ops a env (some g)=true)(K:ops[i]?=some ⟨some d,G,ty,pos,af,some g⟩)(m:(!bit F i&&!bit D i&&Eu (A.getD i 0) D)=true)(I:D|||(1<<<i)=D')(B:OpP P ⟨some d,G,ty,pos,af,some g⟩ env [] v)
 (k:Lin P ops A F cx Q n D' T ((d,v)::env) H):Lin P ops A F cx Q (n+1) D T env H:=by
 simp only [Fo,SZ]at m;subst I;exact .inl ⟨i,_,v,[],K,m.1.2,m.2,by simp,.inl ⟨J,B⟩,k⟩
theorem rJ{o:Oper}{D':Nat}(i:Nat)(I:ops[i]?=some o)(G:∀a,wantedE ops a env o.guard=false)(m:(!bit D i&&Eu (A.getD i 0) D)=true)(B:D|||(1<<<i)=D')
 (k:Lin P ops A F cx Q n D' T (putE o.dst undef env) H):Lin P ops A F cx Q (n+1) D T env H:=by
 simp only [Fo,SZ]at m;subst B;exact .inl ⟨i,_,undef,[],I,m.1,m.2,by simp,.inr ⟨G,V,V⟩,k⟩
theorem Db{t:Nat}{p:Prop} [I:Decidable p](hv:∀a,Fz a env t= .bool (decide p))(G:p->Lin P ops A F cx Q n D T env H)(B:¬p->Lin P ops A F cx Q n D T env H):Lin P ops A F cx Q n D T env H:=by
 by_cases m:p
 · exact G m
 · exact B m
theorem Cf{t:Nat}{b:Bool}(hv:∀a,Fz a env t= .bool b)(B:b=true->Lin P ops A F cx Q n D T env H)(m:b=false->Lin P ops A F cx Q n D T env H):Lin P ops A F cx Q n D T env H:=by
 cases hb:b
 · exact m hb
 · exact B hb
theorem Cy{d:Nat}{G:Op}{ty:TypeId}{pos:String}{af:Array Edge}{v:Value}{b:Nat}{x:Obj}{D':Nat}(i:Nat)(K:ops[i]?=some ⟨some d,G,ty,pos,af,none⟩)(m:(!bit F i&&!bit D i&&Eu (A.getD i 0) D)=true)(I:D|||(1<<<i)=D')(J:Has b x H)(B:OpP P ⟨some d,G,ty,pos,af,none⟩ env [(b,x)] v)
 (k:Lin P ops A F cx Q n D' ((i,(b,x))::T) ((d,v)::env) H):Lin P ops A F cx Q (n+1) D T env H:=by
 simp only [Fo,SZ]at m;subst I;exact .inl ⟨i,_,v,[(b,x)],K,m.1.2,m.2,by simpa using J.mem,.inl ⟨fun _=>rfl,B⟩,k⟩
theorem CE{d:Nat}{G:Op}{ty:TypeId}{pos:String}{af:Array Edge}{g:Nat×Bool}{v:Value}{b:Nat}{x:Obj}{D':Nat}(i:Nat)(K:∀a,wantedE ops a env (some g)=true)(O:ops[i]?=some ⟨some d,G,ty,pos,af,some g⟩)(m:(!bit F i&&!bit D i&&Eu (A.getD i 0) D)=true)(I:D|||(1<<<i)=D')(J:Has b x H)(B:OpP P ⟨some d,G,ty,pos,af,some g⟩ env [(b,x)] v)
 (k:Lin P ops A F cx Q n D' ((i,(b,x))::T) ((d,v)::env) H):Lin P ops A F cx Q (n+1) D T env H:=by
 simp only [Fo,SZ]at m;subst I;exact .inl ⟨i,_,v,[(b,x)],O,m.1.2,m.2,by simpa using J.mem,.inl ⟨K,B⟩,k⟩
def Xo(P:Program)(ops:Array Oper)(A:List Nat)(F:Nat)(cx:Cx)(Q:Exit->Act->World->Prop)(n D:Nat)(T:List (Nat×A9))(env:Env)(H:Hp):List Nat->Prop
 |[]=>True
 |f::l=>(∃o T',ops[f]?=some o/\(∀a,wantedE ops a env o.guard=true)/\(∀p∈T,bit (A.getD f 0) p.1=true\/p∈T')/\
   OpW P cx.u o env H (fun v H'=>(∀p∈T',p.2∈H'.flatten)/\Lin P ops A F cx Q n (D|||(1<<<f)) T' (putE o.dst v env) H') (fun ch H'=>∀env,Nx cx (Q (.panic ch)) env H'))/\Xo P ops A F cx Q n D T env H l
theorem aM:∀(l:List Nat),Xo P ops A F cx Q n D T env H l->∀f∈l,∃o m,ops[f]?=some o/\(∀a,wantedE ops a env o.guard=true)/\(∀p∈T,bit (A.getD f 0) p.1=true\/p∈m)/\
 OpW P cx.u o env H (fun v H'=>(∀p∈m,p.2∈H'.flatten)/\Lin P ops A F cx Q n (D|||(1<<<f)) m (putE o.dst v env) H') (fun ch H'=>∀env,Nx cx (Q (.panic ch)) env H')
 |[],_,_,h=>by cases h
 |g::l,h,f,hf=>by
  rcases D0.1 hf with rfl|hf
  · exact h.1
  · exact aM l h.2 f hf
theorem X7{l:List Nat}(m:mG ops A F D=true)(h2:Kc ops A F D=l)(h:Xo P ops A F cx Q n D T env H l):Lin P ops A F cx Q (n+1) D T env H:= .inr ⟨m,by rw [h2];exact aM l h⟩
def sel{α:Type}:List Bool->List α->List α
 |true::bs,x::l=>x::sel bs l
 |false::bs,_::l=>sel bs l
 |_,_=>[]
def OL(m:Nat):List Bool->List Nat->Bool
 |true::bs,_::l=>OL m bs l
 |false::bs,x::l=>bit m x&&OL m bs l
 |[],[]=>true
 |_,_=>false
theorem Pe{m:Nat}:∀(bs:List Bool) (T:List (Nat×A9)),OL m bs (T.map (·.1))=true->∀p∈T,bit m p.1=true\/p∈sel bs T
 |[],[],_,p,hp=>by cases hp
 |[],_::_,h,_,_=>by simp [OL]at h
 |_::_,[],_,p,hp=>by cases hp
 |true::bs,x::T,h,p,hp=>by
  simp only [DO,OL]at h;rcases D0.1 hp with rfl|hp
  · exact .inr (by simp [sel])
  · exact (Pe bs T h p hp).imp id fun B=>by simp only [sel];exact E3 _ B
 |false::bs,x::T,h,p,hp=>by
  simp only [DO,OL,Fo]at h;rcases D0.1 hp with rfl|hp
  · exact .inl h.1
  · exact (Pe bs T h.2 p hp).imp id fun B=>by simp only [sel];exact B
theorem Vs{f m:Nat}{l is:List Nat}{o:Oper}{D':Nat}{G:List Bool}{B:List (Nat×A9)}{Ps:Value->Hp->Prop}{Z:List PanicEntry->Hp->Prop}(ho:ops[f]?=some o)(hg:∀a,wantedE ops a env o.guard=true)(hD:D|||(1<<<f)=D')(hm:A[f]?=some m)(O:T.map (·.1)=is)(W:OL m G is=true)(hT:sel G T=B)(hw:OpW P cx.u o env H Ps Z)
 (k:∀v H',Ps v H'->(∀p∈B,p.2∈H'.flatten)/\Lin P ops A F cx Q n D' B (putE o.dst v env) H')(kp:∀ch H',Z ch H'->∀env,Nx cx (Q (.panic ch)) env H')(hl:Xo P ops A F cx Q n D T env H l):Xo P ops A F cx Q n D T env H (f::l):=by
 subst hD;subst hT;subst O;have U:A.getD f 0=m:=by rw [Lw,hm];rfl
 exact ⟨⟨o,_,ho,hg,fun p hp=>by rw [U];exact Pe G T W p hp,fun a w hs K Kp hK J=>hw a w hs K Kp (fun v H' X I h2=>hK v H' X (k v H' I) h2) (fun ch H' X I h2=>J ch H' X (kp ch H' I) h2)⟩,hl⟩
theorem Ag:Xo P ops A F cx Q n D T env H []:=trivial
end
theorem AZ{H:Hp}:∀p∈([]:List (Nat×A9)),p.2∈H.flatten:=by intro p m;cases m
theorem lS{H:Hp}{i b:Nat}{x:Obj}{T:List (Nat×A9)}(h:Has b x H)(B:∀p∈T,p.2∈H.flatten):∀p∈((i,(b,x))::T),p.2∈H.flatten:=by
 intro p m;rcases D0.1 m with rfl|m
 · exact h.mem
 · exact B p m
theorem Az{id n:Nat}{env:Env}{H:Hp}(A:List Nat)(F:Nat)(W:P.follows .mixedOrders=true)(G:TG ops A cx.N=true)(X:ops.size=n)(h:Lin P ops A F cx Q n 0 [] env H):At P cx (.region id ops true) Q env H:=fun a w B=>by
 subst X;have O:=eU G
 refine wpIn_region_any W (X8 (a0:=a) (env0:=env) B.size B.defers B.fit O ops.size _ _ _ [] 0 [] H ?_ ⟨by simp,fun j oj hj K=>?_,V,B.sat.drew,fun i=>?_,by simp,(by intro e m;cases m),fun i hi=>?_,fun i hi=>?_,fun J e Z I=>?_,fun J e Z I=>?_,(by intro e m;cases m),B.fit,h⟩)
 · refine N1 List.countP_le_length ?_
   simp
 · simp [fc]at K
   split at K<;>simp_all
 · constructor
   · intro U;simp [bit]at U
   · rintro ⟨e,m,_⟩;cases m
 · exfalso
   simp [fc]at hi;split at hi<;>simp_all
 · simp [bit]at hi
 · cases J<;>cases I
 · cases J<;>cases I
end
end Gw
