/- Walking by chunks: copy, append, slices of arrays, bytes out of a string. No function of the program is named. -/
/- Walking by chunks: an own slice whose elements are of several cells: append, clear. No function of the program is named. -/
/- Walking by chunks: an empty slice literal; append of a row that may be nil or empty. No function of the program is named. -/
/- Walking by chunks: a cut (what comes behind is proved once), a segment cut in two. No function of the program is named. -/
/- Walking by chunks: clear of a part of a row; rows behind a sort. No function of the program is named. -/
/- Walking by chunks: lists of three numbers compared. No function of the program is named. -/
/- Walking by chunks: regions that draw their order. The operations without effect are taken as soon as what they hang on has come up; those with an effect are met in every order that their edges leave. No function of the program is named. -/
import Derived.Test.YteaiajghbkenoaaGreatDoorEx4
import Derived.LaidEqlPtr
import Derived.Sort.OwnSortedInts
import Derived.Lib.SlicesCompact
import Derived.Laws.StructEq
import Derived.Test.YteaiajghbkenoaaGreatDoorEx3
set_option linter.unusedVariables false
set_option linter.unusedSimpArgs false
namespace Gw
open Go Go.RowKit
section
variable{P:Program}{env:Env}{d:Option Nat}{ty:TypeId}{pos:String}{af:Array Edge}{g:Option (Nat×Bool)}
section
variable{t e:TypeId}{n:Nat}{x lo hi:Operand}{b o l h s:Nat}{lk hk:IntKind}
theorem IE(hu:P.underlying t=some (.array n e))(hs:∀w:World,(Go.sizeOf e).run P w= .ok s w)(hx:∀a,ev a env x= .pointer (some ⟨b,o,none⟩)):
 OpP P ⟨d,.slice t x none none none,ty,pos,af,g⟩ env [] (.slice (some ⟨b,o,none⟩) n n):=fun a w _=>by
 simp [Lj,hx a,Instr.sliceAt,run_underlying hu,Instr.sureAddr,Instr.sliceBounds,hs,Addr.add]
theorem PR(hu:P.underlying t=some (.array n e))(hs:∀w:World,(Go.sizeOf e).run P w= .ok s w)(hx:∀a,ev a env x= .pointer (some ⟨b,o,none⟩))(hl:∀a,ev a env lo= .int lk (l:Int))(h1:l<n):
 OpP P ⟨d,.slice t x (some lo) none none,ty,pos,af,g⟩ env [] (.slice (some ⟨b,o+l*s,none⟩) (n -l) (n -l)):=fun a w _=>by
 have h2:l<=n:=by omega
 have h3:¬n=l:=by omega
 simp [Lj,hx a,hl a,Instr.sliceAt,run_underlying hu,Instr.sureAddr,Instr.sliceBounds,Instr.sliceBound,asIntOf,hs,h2,h3,Cn]
theorem Rv(hu:P.underlying t=some (.array n e))(hs:∀w:World,(Go.sizeOf e).run P w= .ok s w)(hx:∀a,ev a env x= .pointer (some ⟨b,o,none⟩))(hh:∀a,ev a env hi= .int hk (h:Int))(h1:h<=n):
 OpP P ⟨d,.slice t x none (some hi) none,ty,pos,af,g⟩ env [] (.slice (some ⟨b,o,none⟩) h n):=fun a w _=>by
 simp [Lj,hx a,hh a,Instr.sliceAt,run_underlying hu,Instr.sureAddr,Instr.sliceBounds,Instr.sliceBound,asIntOf,hs,h1,Addr.add]
end
theorem Ru{t e:TypeId}{x lo hi mx:Operand}{b o n cap l h s:Nat}{lk hk mk:IntKind}(hu:P.underlying t=some (.slice e))(hs:∀w:World,(Go.sizeOf e).run P w= .ok s w)(hx:∀a,ev a env x= .slice (some ⟨b,o,none⟩) n cap)(hl:∀a,ev a env lo= .int lk (l:Int))(hh:∀a,ev a env hi= .int hk (h:Int))(hm:∀a,ev a env mx= .int mk (h:Int))(h1:l<h)(h2:h<=cap):
 OpP P ⟨d,.slice t x (some lo) (some hi) (some mx),ty,pos,af,g⟩ env [] (.slice (some ⟨b,o+l*s,none⟩) (h -l) (h -l)):=fun a w _=>by
 have h3:l<=h:=by omega
 have h4:¬h=l:=by omega
 simp [Lj,hx a,hl a,hh a,hm a,Instr.sliceAt,Instr.slice,run_underlying hu,Instr.sliceBounds,Instr.sliceBound,asIntOf,h2,h3,h4,hs,Cn]
variable{u:World}{H H' R:Hp}
def CE(c:Array Value)(o:Nat)(cs:List Value):Prop:=(c.toList.drop o).take cs.length=cs
theorem CE.get{c:Array Value}{o:Nat}{cs:List Value}(h:CE c o cs)(j:Nat)(v:Value)(hj:cs[j]?=some v):c[o+j]?=some v:=by
 have hlt:j<cs.length:=(zF.1 hj).1;have h1:((c.toList.drop o).take cs.length)[j]?=cs[j]?:=by rw [h]
 rw [AA7,Am7 hlt,AE1,AA3,hj]at h1;exact h1
theorem J3{w:World}{b o:Nat}{c:Array Value}{T:TypeId}{z:Nat×Nat}{cs:List Value}(hb:w.heap[b]?=some (.cells c T z))(h:CE c o cs):∀j v,cs[j]?=some v->w.cell? ((⟨b,o,none⟩:Addr).add j)=some v:=fun j v hj=>by
 rw [Cn];exact Cb hb (h.get j v hj)
theorem vU{x y:Operand}{dT sT e:TypeId}{b o n cap b' o' n' cap':Nat}{c c' c1:Array Value}{T T1:TypeId}{z z1:Nat×Nat}{cs:List Value}
 (hu:P.underlying dT=some (.slice e))(hs:∀w:World,(Go.sizeOf e).run P w= .ok 1 w)(hx:∀a,ev a env x= .slice (some ⟨b,o,none⟩) n cap)(hy:∀a,ev a env y= .slice (some ⟨b',o',none⟩) n' cap')
 (hsrc:Has b' (.cells c1 T1 z1) H)(hup:Upd b (.cells c T z) (.cells c' T z) H H')(hcs:CE c1 o' cs)(hn:cs.length=min n' n)(hc:Dp c o cs=c')(hfit:o+cs.length<=c.size)(hz:IA z c.size)(h1:∀v∈cs,v.oneCell'=true):
 OpW P u ⟨d,.call ⟨.builtin .copy,#[x,y],#[dT,sT]⟩,ty,pos,af,g⟩ env H (fun v H1=>v=I4 ((min n' n:Nat):Int)/\H1=H') (fun _ _=>False):=fun a w hsat K Kp hK _=>by
 have hb:=hsat.get _ hup.has.mem;have hb':=hsat.get _ hsrc.mem
 have hl:=run_loadCells_list (P:=P) w ⟨b',o',none⟩ cs (J3 hb' hcs);rw [hn]at hl;have hst:=CX (P:=P) b o T z cs 0 c w hb hz (by simpa using hfit) h1
 simp only [AH6]at hst;have hmin:Nat.min n' n=min n' n:=rfl
 have:(execOp (ev a env) ⟨d,.call ⟨.builtin .copy,#[x,y],#[dT,sT]⟩,ty,pos,af,g⟩).run P w= .ok (.value (I4 ((min n' n:Nat):Int))) (w.setRow b (Dp c o cs)):=by
  simp [Dj,resolve,invoke,builtin,hx a,hy a,Builtin.copy_,run_underlying hu,Builtin.lenOf,Builtin.firstCells,hs,hmin,hl,hst,Dp,goInt]
 rw [this];exact hK _ _ _ ⟨rfl,rfl⟩ (hsat.upd hup rfl rfl rfl (by rw [setRow_heap w b c _ T z hb,hc]) fun k hk=>setRow_other w b k _ hk)
theorem kM(bs:List UInt8):∀v∈bs.map u8v,v.oneCell'=true:=by
 intro v hv;obtain ⟨x,_,rfl⟩:=zQ.1 hv;rfl
def Row(e:TypeId)(v:Value)(xs:List Value)(s:List A8):Prop:=
 (v= .slice none 0 0/\xs=[]/\s=[])\/
 ∃g cap cur z,v=I6 g xs.length cap/\s=[(g,.cells cur e z)]/\xs.length<=cap/\cap<=maxLen/\cur.size=cap/\cur.toList.take xs.length=xs/\IA z cur.size
theorem G5(e:TypeId):Row e (.slice none 0 0) [] []:= .inl ⟨rfl,rfl,rfl⟩
theorem JH(e:TypeId)(g:Nat)(xs:List Value)(n:Nat)(hn:xs.length=n)(h:n<=maxLen):Row e (I6 g n n) xs [(g,.cells xs.toArray e (0,0))]:=by
 subst hn;exact .inr ⟨g,xs.length,xs.toArray,(0,0),V,V,zh _,h,by simp,by simp,BF _⟩
theorem Row.form{e:TypeId}{v:Value}{xs:List Value}{s:List A8}(h:Row e v xs s):∃b cap,v= .slice b xs.length cap:=by
 rcases h with⟨rfl,rfl,rfl⟩|⟨g,cap,cur,z,rfl,_⟩
 · exact ⟨none,0,rfl⟩
 · exact ⟨some ⟨g,0,none⟩,cap,rfl⟩
theorem Row.some{e:TypeId}{v:Value}{xs:List Value}{s:List A8}(h:Row e v xs s)(hn:0<xs.length):∃g cap cur z,v=I6 g xs.length cap/\s=[(g,.cells cur e z)]/\xs.length<=cap/\cap<=maxLen/\cur.size=cap/\cur.toList.take xs.length=xs/\IA z cur.size:=by
 rcases h with⟨_,rfl,_⟩|h
 · cases hn
 · exact h
theorem EF{x y:Operand}{t e:TypeId}{i:TypeInfo}{z:Value}{by_:Nat}{v:Value}{xs:List Value}{s:List A8}{b o m c:Nat}{c1:Array Value}{T1:TypeId}{z1:Nat×Nat}{news:List Value}
 (ht:P.underlying t=some (.slice e))(hi:P.info? e=some i)(hsz:i.size=1)(hby:i.bytes=by_)(hzi:i.zero=some z)(hz1:z.oneCell'=true)
 (hx:∀a,ev a env x=v)(hrow:Row e v xs s)(hy:∀a,ev a env y= .slice (some ⟨b,o,none⟩) m c)(hone:One s H R)(hsrc:Has b (.cells c1 T1 z1) R)(hnews:CE c1 o news)(hl:news.length=m)(h1:∀u∈news,u.oneCell'=true)
 (hm:0<m)(h63:xs.length+m<=maxLen)(hb:(xs.length+m)*by_<=140737488355328):
 OpW P u ⟨d,.call ⟨.builtin .append,#[x,y],#[t,t]⟩,ty,pos,af,g⟩ env H (fun v' H1=>∃s',Row e v' (xs++news) s'/\H1=s'::R) (fun _ _=>False):=fun a w hsat K Kp hK _=>by
 have hs1:Sat u (s::R) w:=hsat.perm (by simpa using hone.perm);have hsR:Sat u R w:=hs1.sub ⟨s,by simp only [zL];exact AB7⟩
 have hsrcw:=hsR.get _ hsrc.mem;have hnw:=J3 hsrcw hnews
 have hzc:z.cells=#[z]:=by cases z<;>first|rfl|simp [Value.oneCell']at hz1
 have hl':news.length=m*i.size:=by rw [hsz];omega
 have hml:maxLen=9223372036854775807:=rfl;have run_of:∀{v':Value} {w':World},(Builtin.append_ #[t,t] ty #[v,.slice (some ⟨b,o,none⟩) m c]).run P w= .ok v' w'->(execOp (ev a env) ⟨d,.call ⟨.builtin .append,#[x,y],#[t,t]⟩,ty,pos,af,g⟩).run P w= .ok (.value v') w':=fun h=>by
  simp only [Dj,resolve,invoke,builtin,AG9,zx,AE9,hx a,hy a,Sem.run_bind,Sem.run_pure,Result.andThen_ok,h]
 have fresh:∀(n cap:Nat) (cells:Array Value) (w1:World),w1={w with drawn:=n,heap:=w.heap.push (.cells cells e)}->Sat u ([(w.heap.size,.cells cells e (0,0))]::R) w1:=fun n cap cells w1 h=>by
  subst h;exact (hsR.drawn n).alloc _
 rcases hrow with⟨rfl,rfl,rfl⟩|⟨gb,cap,cur,zz,rfl,rfl,hle,hcm,hcs,htk,hfr⟩
 · have hr:=run_append_nil (P:=P) w t ty e i z ht hi hzi ⟨b,o,none⟩ m c news hl' hnw hm (by simp only [AF4,zo]at h63;omega) (by rw [hby];simp only [AF4,zo]at hb;omega)
   rw [run_of hr];have hge:=grownCap_ge w m 0 e
   have hcap:grownCap w m 0 e<=maxLen:=grownCap_le_maxLen w m 0 e (by simpa using h63);refine hK _ _ _ ⟨[(w.heap.size,.cells (news.toArray++Builtin.zeroCells z.cells (grownCap w m 0 e -m)) e (0,0))],.inr ⟨w.heap.size,grownCap w m 0 e,_,(0,0),?_,rfl,?_,hcap,?_,?_,BF _⟩,rfl⟩ (fresh _ 0 _ _ rfl)
   · simp [hl]
   · simpa [hl]using hge
   · simp [size_zeroCells,hzc,hl];omega
   · simp [hl]
 · have hg:=hs1.get (gb,.cells cur e zz) (by simp)
   by_cases hroom:xs.length+m<=cap
   · have hf:=run_firstCells_some (P:=P) w i.size m ⟨b,o,none⟩ m c news hl' hnw
     rw [hsz]at hf;have hst:=CX (P:=P) gb xs.length e zz news 0 cur w hg hfr (by rw [hl,hcs];omega) h1
     simp only [AH6]at hst;have hr:(Builtin.append_ #[t,t] ty #[I6 gb xs.length cap,.slice (some ⟨b,o,none⟩) m c]).run P w= .ok (I6 gb (xs.length+m) cap) (w.setRow gb (Dp cur xs.length news)):=by
      simp [Builtin.append_,run_underlying ht,Go.sizeOf,typeInfo,hi,hsz,Builtin.lenOf,hroom,hf,Cn,hst,Dp]
     rw [run_of hr];have hov:(Dp cur xs.length news).size=cap:=by
      unfold Dp;simp;omega
     refine hK _ _ _ ⟨[(gb,.cells (Dp cur xs.length news) e zz)],.inr ⟨gb,cap,_,zz,by simp [hl],rfl,by simpa [hl]using hroom,hcm,hov,?_,by rw [hov,<-hcs];exact hfr⟩,rfl⟩
      (hs1.upd (.here _) rfl rfl rfl (setRow_heap w gb cur _ e zz hg) fun k hk=>setRow_other w gb k _ hk)
     unfold Dp;rw [htk];simp only [zM];rw [<-zM];exact AC3 Ap0
   · have holds:∀j v,xs[j]?=some v->w.cell? ((⟨gb,0,none⟩:Addr).add j)=some v:=fun j v hj=>by
      rw [Cn];refine Cb hg ?_;have hlt:j<xs.length:=(zF.1 hj).1
      have:(cur.toList.take xs.length)[j]?=some v:=by rw [htk];exact hj
      rw [AA7,Am7 hlt]at this;simpa using this
     have hr:=run_append_grow (P:=P) w t ty e i z ht hi hzi ⟨gb,0,none⟩ xs.length cap xs (by rw [hsz];omega) holds ⟨b,o,none⟩ m c news hl' hnw Ao7 Ao7 (growslice_fits Ao7 (by rw [hby];exact hb));rw [run_of hr];have hge:=grownCap_ge w (xs.length+m) cap e
     have hcap:grownCap w (xs.length+m) cap e<=maxLen:=grownCap_le_maxLen w (xs.length+m) cap e h63;refine hK _ _ _ ⟨[(w.heap.size,.cells (xs.toArray++news.toArray++Builtin.zeroCells z.cells (grownCap w (xs.length+m) cap e -(xs.length+m))) e (0,0))],.inr ⟨w.heap.size,grownCap w (xs.length+m) cap e,_,(0,0),?_,V,?_,hcap,?_,?_,BF _⟩,V⟩ (fresh _ 0 _ _ V)
     · simp [hl]
     · simpa [hl]using hge
     · simp [size_zeroCells,hzc,hl];omega
     · simp only [AK4]
       exact AC3 Ap0
theorem rV{s t e:TypeId}{x:Operand}{str:ByteArray}(hs:P.underlying s=some .string)(ht:P.underlying t=some (.slice e))(he:P.underlying e=some (.int .u8))(hx:∀a,ev a env x= .string str)(hm:str.size<=maxLen):
 OpW P u ⟨d,.convert s t x,ty,pos,af,g⟩ env H (fun v' H1=>∃s',Row e v' (str.data.toList.map u8v) s'/\H1=s'::H) (fun _ _=>False):=fun a w hsat K Kp hK _=>by
 have hge:str.size<=grownCap w str.size 0 e:=grownCap_ge w str.size 0 e;have hcap:grownCap w str.size 0 e<=maxLen:=grownCap_le_maxLen w str.size 0 e hm
 have hlen:(str.data.toList.map u8v).length=str.size:=by rw [zH];rfl
 obtain ⟨cells,hcells⟩:∃cells:Array Value,cells=str.data.map (fun b=>Value.int .u8 b.toNat)++Array.replicate (grownCap w str.size 0 e -str.size) (.int .u8 0):=⟨_,rfl⟩;have hsize:cells.size=grownCap w str.size 0 e:=by
  have:str.data.size=str.size:=rfl;rw [hcells];simp [this];omega
 have hrun:(execOp (ev a env) ⟨d,.convert s t x,ty,pos,af,g⟩).run P w= .ok (.value (.slice (some ⟨w.heap.size,0,none⟩) str.size (grownCap w str.size 0 e))) (World.freeze {w with drawn:=w.drawn+1,heap:=w.heap.push (.cells cells e)} ⟨w.heap.size,cells.size,none⟩ 1):=by
  have hsh:(({w with drawn:=w.drawn+1,heap:=w.heap.push (.cells cells e)}:World).shape? w.heap.size)=some (e,cells.size):=by
   simp [World.shape?]
  simp only [Jd,hx a,convert,Sem.run_bind,run_underlying hs,run_underlying ht,run_underlying he,Result.andThen_ok,Conv.stringToBytes,choose,Sem.run,Question.forced,newRow,newObj,Sem.run_pure,AD4,An2];rw [show Question.cut (.appendCap str.size 0 e) (w.tape w.drawn (.appendCap str.size 0 e))=grownCap w str.size 0 e from rfl,<-hcells];simp [markStringish,hsh]
 rw [hrun];refine hK _ _ _ ⟨[(w.heap.size,.cells cells e (cells.size,cells.size+1))],.inr ⟨w.heap.size,grownCap w str.size 0 e,cells,(cells.size,cells.size+1),by rw [hlen],rfl,by rw [hlen];exact hge,hcap,hsize,?_,YJ _ _ (zh _) _⟩,rfl⟩ ?_
 · rw [hlen,hcells]
   have:str.data.size=str.size:=rfl;simp [u8v,AP0,List.take_append,this]
 · have h1:Sat u ([(w.heap.size,.cells cells e (0,0))]::H) {w with drawn:=w.drawn+1,heap:=w.heap.push (.cells cells e)}:=(hsat.drawn (w.drawn+1)).alloc _
   refine h1.upd (.here _) ?_ ?_ ?_ ?_ fun k hk=>?_
   · simp [World.freeze]
   · simp [World.freeze]
   · simp [World.freeze]
   · simp only [World.freeze,Nat.one_ne_zero,An2]
     rw [AD9,Am7 rfl];simp
   · simp [World.freeze,AD9,AT8 hk]
end
theorem BV{P:Program}{cx:Cx}{c:Code}{Q:Exit->Act->World->Prop}{env:Env}{H:Hp}(h:At P cx c Q env ([]::H)):At P cx c Q env H:=WS (H':=[]::H) rfl h
def BZ(sz:Nat)(e:TypeId)(v:Value)(k:Nat)(xs:List Value)(s:List A8):Prop:=
 xs.length=k*sz/\((v= .slice none 0 0/\k=0/\s=[])\/
 ∃g cap cur z,v=I6 g k cap/\s=[(g,.cells cur e z)]/\k<=cap/\cap<=maxLen/\cur.size=cap*sz/\cur.toList.take (k*sz)=xs/\IA z cur.size)
theorem Bf(sz:Nat)(e:TypeId):BZ sz e (.slice none 0 0) 0 [] []:=⟨by simp,.inl ⟨rfl,rfl,rfl⟩⟩
theorem BZ.form{sz:Nat}{e:TypeId}{v:Value}{k:Nat}{xs:List Value}{s:List A8}(h:BZ sz e v k xs s):∃b cap,v= .slice b k cap:=by
 rcases h with⟨_,⟨rfl,rfl,rfl⟩|⟨g,cap,cur,z,rfl,_⟩⟩
 · exact ⟨none,0,rfl⟩
 · exact ⟨some ⟨g,0,none⟩,cap,rfl⟩
theorem BZ.cut{sz:Nat}{e:TypeId}{b:Option Addr}{n cap k:Nat}{xs:List Value}{s:List A8}(h:BZ sz e (.slice b n cap) k xs s):BZ sz e (.slice b 0 cap) 0 [] s:=by
 rcases h with⟨_,⟨h1,rfl,rfl⟩|⟨g,cap',cur,z,h1,rfl,hle,hcm,hcs,htk,hfr⟩⟩
 · simp only [Value.slice.injEq]at h1
   obtain ⟨rfl,rfl,rfl⟩:=h1;exact Bf sz e
 · simp only [Value.slice.injEq]at h1
   obtain ⟨rfl,rfl,rfl⟩:=h1;exact ⟨by simp,.inr ⟨g,cap,cur,z,V,V,zT _,hcm,hcs,by simp,hfr⟩⟩
theorem TU{P:Program}{e:TypeId}{i:TypeInfo}{z:Value}(hi:P.info? e=some i)(hzi:i.zero=some z)(w:World):(zeroValue e).run P w= .ok z w:=by
 simp [zeroValue,typeInfo,hi,hzi]
section
variable{P:Program}{u:World}{env:Env}{H R:Hp}{d:Option Nat}{ty:TypeId}{pos:String}{af:Array Edge}{g:Option (Nat×Bool)}
theorem U4{x y:Operand}{t e:TypeId}{i:TypeInfo}{z:Value}{by_ sz k:Nat}{v:Value}{xs:List Value}{s:List A8}{b o m c:Nat}{news:List Value}
 (ht:P.underlying t=some (.slice e))(hi:P.info? e=some i)(hsz:i.size=sz)(hby:i.bytes=by_)(hzi:i.zero=some z)(hz1:z.cells.size=sz)
 (hx:∀a,ev a env x=v)(hrow:BZ sz e v k xs s)(hy:∀a,ev a env y= .slice (some ⟨b,o,none⟩) m c)(hone:One s H R)(hnw0:∀w,Sat u R w->∀j v,news[j]?=some v->w.cell? ((⟨b,o,none⟩:Addr).add j)=some v)(hl:news.length=m*sz)(h1:∀u∈news,u.oneCell'=true)
 (hm:0<m)(h63:k+m<=maxLen)(hb:(k+m)*by_<=140737488355328):
 OpW P u ⟨d,.call ⟨.builtin .append,#[x,y],#[t,t]⟩,ty,pos,af,g⟩ env H (fun v' H1=>∃s',BZ sz e v' (k+m) (xs++news) s'/\H1=s'::R) (fun _ _=>False):=fun a w hsat K Kp hK _=>by
 have hs1:Sat u (s::R) w:=hsat.perm (by simpa using hone.perm);have hsR:Sat u R w:=hs1.sub ⟨s,by simp only [zL];exact AB7⟩
 have hnw:=hnw0 w hsR;have hl':news.length=m*i.size:=by rw [hsz];omega
 have hml:maxLen=9223372036854775807:=rfl;have run_of:∀{v':Value} {w':World},(Builtin.append_ #[t,t] ty #[v,.slice (some ⟨b,o,none⟩) m c]).run P w= .ok v' w'->(execOp (ev a env) ⟨d,.call ⟨.builtin .append,#[x,y],#[t,t]⟩,ty,pos,af,g⟩).run P w= .ok (.value v') w':=fun h=>by
  simp only [Dj,resolve,invoke,builtin,AG9,zx,AE9,hx a,hy a,Sem.run_bind,Sem.run_pure,Result.andThen_ok,h]
 have fresh:∀(n cap:Nat) (cells:Array Value) (w1:World),w1={w with drawn:=n,heap:=w.heap.push (.cells cells e)}->Sat u ([(w.heap.size,.cells cells e (0,0))]::R) w1:=fun n cap cells w1 h=>by
  subst h;exact (hsR.drawn n).alloc _
 obtain ⟨hxl,hrow⟩:=hrow;have hall:(xs++news).length=(k+m)*sz:=by rw [zG,hxl,hl,AH9]
 have split:∀n p:Nat,p<=n->p*sz+(n -p)*sz=n*sz:=fun n p h=>by rw [<-AH9];congr 1;omega
 rcases hrow with⟨rfl,rfl,rfl⟩|⟨gb,cap,cur,zz,rfl,rfl,hle,hcm,hcs,htk,hfr⟩
 · have hx0:xs=[]:=AB0 (by omega)
   subst hx0;have hr:=run_append_nil (P:=P) w t ty e i z ht hi hzi ⟨b,o,none⟩ m c news hl' hnw hm (by omega) (by rw [hby];exact AK0 (by simpa using hb) (by decide:140737488355328<=281474976710656))
   rw [run_of hr];have hge:=grownCap_ge w m 0 e
   have hcap:grownCap w m 0 e<=maxLen:=grownCap_le_maxLen w m 0 e (by omega);refine hK _ _ _ ⟨[(w.heap.size,.cells (news.toArray++Builtin.zeroCells z.cells (grownCap w m 0 e -m)) e (0,0))],⟨hall,.inr ⟨w.heap.size,grownCap w m 0 e,_,(0,0),by simp,rfl,by omega,hcap,?_,?_,BF _⟩⟩,rfl⟩ (fresh _ 0 _ _ rfl)
   · simp only [AS4,size_zeroCells,hz1,AA6,hl]
     exact split _ _ hge
   · simp only [AK4,AD8,zo]
     exact AC3 hl
 · have hg:=hs1.get (gb,.cells cur e zz) (by simp)
   by_cases hroom:k+m<=cap
   · have hf:=run_firstCells_some (P:=P) w i.size m ⟨b,o,none⟩ m c news hl' hnw
     rw [hsz]at hf;have hfit:k*sz+m*sz<=cap*sz:=by rw [<-AH9];exact AF9 sz hroom
     have hst:=CX (P:=P) gb (k*sz) e zz news 0 cur w hg hfr (by rw [hl,hcs];omega) h1;simp only [AH6]at hst;have hr:(Builtin.append_ #[t,t] ty #[I6 gb k cap,.slice (some ⟨b,o,none⟩) m c]).run P w= .ok (I6 gb (k+m) cap) (w.setRow gb (Dp cur (k*sz) news)):=by
      simp [Builtin.append_,run_underlying ht,Go.sizeOf,typeInfo,hi,hsz,Builtin.lenOf,hroom,hf,Cn,hst,Dp]
     rw [run_of hr];have hov:(Dp cur (k*sz) news).size=cap*sz:=by
      unfold Dp;simp;omega
     refine hK _ _ _ ⟨[(gb,.cells (Dp cur (k*sz) news) e zz)],⟨hall,.inr ⟨gb,cap,_,zz,rfl,rfl,hroom,hcm,hov,?_,by rw [hov,<-hcs];exact hfr⟩⟩,rfl⟩
      (hs1.upd (.here _) rfl rfl rfl (setRow_heap w gb cur _ e zz hg) fun k hk=>setRow_other w gb k _ hk)
     unfold Dp;rw [htk];simp only [zM];rw [<-zM];exact AC3 hall
   · have holds:∀j v,xs[j]?=some v->w.cell? ((⟨gb,0,none⟩:Addr).add j)=some v:=fun j v hj=>by
      rw [Cn];refine Cb hg ?_;have hlt:j<xs.length:=(zF.1 hj).1
      have:(cur.toList.take (k*sz))[j]?=some v:=by rw [htk];exact hj
      rw [AA7,Am7 Ao7]at this;simpa using this
     have hr:=run_append_grow (P:=P) w t ty e i z ht hi hzi ⟨gb,0,none⟩ k cap xs (by rw [hsz];exact hxl) holds ⟨b,o,none⟩ m c news hl' hnw Ao7 Ao7 (growslice_fits Ao7 (by rw [hby];exact hb));rw [run_of hr];have hge:=grownCap_ge w (k+m) cap e
     have hcap:grownCap w (k+m) cap e<=maxLen:=grownCap_le_maxLen w (k+m) cap e h63;refine hK _ _ _ ⟨[(w.heap.size,.cells (xs.toArray++news.toArray++Builtin.zeroCells z.cells (grownCap w (k+m) cap e -(k+m))) e (0,0))],⟨hall,.inr ⟨w.heap.size,grownCap w (k+m) cap e,_,(0,0),V,V,hge,hcap,?_,?_,BF _⟩⟩,V⟩ (fresh _ 0 _ _ V)
     · simp only [AS4,size_zeroCells,hz1,AA6,hl,hxl]
       have:=split _ _ hge;rw [AH9]at this;exact this
     · simp only [AK4]
       exact AC3 (by simpa using hall)
theorem Db{x y:Operand}{t e:TypeId}{i:TypeInfo}{z:Value}{by_ sz k:Nat}{v:Value}{xs:List Value}{s:List A8}{b o m c:Nat}{c1:Array Value}{T1:TypeId}{z1:Nat×Nat}{news:List Value}
 (ht:P.underlying t=some (.slice e))(hi:P.info? e=some i)(hsz:i.size=sz)(hby:i.bytes=by_)(hzi:i.zero=some z)(hz1:z.cells.size=sz)
 (hx:∀a,ev a env x=v)(hrow:BZ sz e v k xs s)(hy:∀a,ev a env y= .slice (some ⟨b,o,none⟩) m c)(hone:One s H R)(hsrc:Has b (.cells c1 T1 z1) R)(hnews:CE c1 o news)(hl:news.length=m*sz)(h1:∀u∈news,u.oneCell'=true)
 (hm:0<m)(h63:k+m<=maxLen)(hb:(k+m)*by_<=140737488355328):
 OpW P u ⟨d,.call ⟨.builtin .append,#[x,y],#[t,t]⟩,ty,pos,af,g⟩ env H (fun v' H1=>∃s',BZ sz e v' (k+m) (xs++news) s'/\H1=s'::R) (fun _ _=>False):=
 U4 ht hi hsz hby hzi hz1 hx hrow hy hone (fun w hs=>J3 (hs.get _ hsrc.mem) hnews) hl h1 hm h63 hb
theorem MQ{t e:TypeId}{x lo:Operand}{b o n cap l:Nat}{lk:IntKind}(hu:P.underlying t=some (.slice e))(hs:∀w:World,(Go.sizeOf e).run P w= .ok 1 w)(hx:∀a,ev a env x= .slice (some ⟨b,o,none⟩) n cap)(hl:∀a,ev a env lo= .int lk (l:Int))(h1:l<=n)(h2:l<cap):
 OpP P ⟨d,.slice t x (some lo) none none,ty,pos,af,g⟩ env [] (.slice (some ⟨b,o+l,none⟩) (n -l) (cap -l)):=by
 have h:=CR (d:=d) (ty:=ty) (pos:=pos) (af:=af) (g:=g) hu hs hx hl h1;have e1:En (some ⟨b,o,none⟩) l cap 1=some ⟨b,o+l,none⟩:=by
  unfold En;rw [Am6 Ao7,AG6,Cn,AK7]
 rw [e1]at h;exact h
end
section
variable{P:Program}{u:World}{env:Env}{H R R2:Hp}{d:Option Nat}{ty:TypeId}{pos:String}{af:Array Edge}{g:Option (Nat×Bool)}
theorem Dw{t e s:Nat}(hu:P.underlying t=some (.slice e))(hs:∀w:World,(Go.sizeOf e).run P w= .ok s w):
 OpW P u ⟨d,.buildSlice t 0 #[],ty,pos,af,g⟩ env H (fun v' H1=>∃b,v'=I6 b 0 0/\H1=[(b,.cells ([]:List Value).toArray e (0,0))]::H) (fun _ _=>False):=fun a w hsat K Kp hK _=>by
 have hbs:(Instr.buildSlice t 0 (#[]:Array (Nat×Value))).run P w= .ok (.slice (some ⟨w.heap.size,0,none⟩) 0 0) {w with heap:=w.heap.push (.cells #[] e)}:=by
  unfold Instr.buildSlice;simp [Sem.run_bind,run_underlying hu,hs,Instr.fill,newRow];congr 2;apply AT9<;>simp
 have:(execOp (ev a env) ⟨d,.buildSlice t 0 #[],ty,pos,af,g⟩).run P w= .ok (.value (.slice (some ⟨w.heap.size,0,none⟩) 0 0)) {w with heap:=w.heap.push (.cells #[] e)}:=by
  rw [Nc,Sem.run_bind];have e0:(#[]:Array (Nat×Operand)).map (fun(i,x)=>(i,ev a env x))=#[]:=by simp
  rw [e0,hbs];rfl
 rw [this];exact hK _ _ _ ⟨_,V,V⟩ (hsat.alloc _)
theorem One.has{b:Nat}{o:Obj}(h:One [(b,o)] H R):Has b o H:=by
 induction h with
 |here H=>exact .here _
 |there t h ih=>exact .there _ ih
theorem Row.le{e:TypeId}{v:Value}{xs:List Value}{s:List A8}(h:Row e v xs s):∃b cap,v= .slice b xs.length cap/\xs.length<=cap:=by
 rcases h with⟨rfl,rfl,rfl⟩|⟨g,cap,cur,z,rfl,_,hle,_⟩
 · exact ⟨none,0,rfl,zh _⟩
 · exact ⟨_,cap,rfl,hle⟩
theorem GN{x y:Operand}{t e:TypeId}{i:TypeInfo}{z:Value}{by_:Nat}{v v2:Value}{xs ys:List Value}{s s2:List A8}
 (ht:P.underlying t=some (.slice e))(hi:P.info? e=some i)(hsz:i.size=1)(hby:i.bytes=by_)(hzi:i.zero=some z)(hz1:z.oneCell'=true)
 (hx:∀a,ev a env x=v)(hrow:Row e v xs s)(hy:∀a,ev a env y=v2)(hrow2:Row e v2 ys s2)(hone:One s H R)(htwo:One s2 R R2)(h1:∀u∈ys,u.oneCell'=true)
 (h63:xs.length+ys.length<=maxLen)(hb:(xs.length+ys.length)*by_<=140737488355328):
 OpW P u ⟨d,.call ⟨.builtin .append,#[x,y],#[t,t]⟩,ty,pos,af,g⟩ env H (fun v' H1=>∃s',Row e v' (xs++ys) s'/\H1=s'::R) (fun _ _=>False):=by
 by_cases h0:ys=[]
 · subst h0
   obtain ⟨b2,c2,rfl,_⟩:=hrow2.le;obtain ⟨b,c,rfl,hle⟩:=hrow.le;intro a w hsat K Kp hK _;have hs1:Sat u (s::R) w:=hsat.perm (by simpa using hone.perm)
   have hl0:(Builtin.firstCells i.size 0 (.slice b2 0 c2)).run P w= .ok #[] w:=by
    cases b2 with
    |none=>simp [Builtin.firstCells]
    |some ad=>simp [Builtin.firstCells,loadCells,loadCellsFrom]
   have hr:(Builtin.append_ #[t,t] ty #[.slice b xs.length c,.slice b2 0 c2]).run P w= .ok (.slice b xs.length c) w:=by
    rw [hsz]at hl0;cases b with
    |none=>simp [Builtin.append_,run_underlying ht,Go.sizeOf,typeInfo,hi,hsz,Builtin.lenOf,hle,hl0]
    |some ad=>simp [Builtin.append_,run_underlying ht,Go.sizeOf,typeInfo,hi,hsz,Builtin.lenOf,hle,hl0,storeCells]
   have hx':(execOp (ev a env) ⟨d,.call ⟨.builtin .append,#[x,y],#[t,t]⟩,ty,pos,af,g⟩).run P w= .ok (.value (.slice b xs.length c)) w:=by
    simp only [Dj,resolve,invoke,builtin,AG9,zx,AE9,hx a,hy a,Sem.run_bind,Sem.run_pure,Result.andThen_ok,AF4,hr]
   rw [hx'];exact hK _ _ _ ⟨s,by rw [zV];exact hrow,rfl⟩ hs1
 · have hp:0<ys.length:=AR4.2 h0
   obtain ⟨gb,cap,cur,zz,rfl,rfl,hle,hcm,hcs,htk,hfr⟩:=hrow2.some hp;exact EF ht hi hsz hby hzi hz1 hx hrow hy hone htwo.has (by unfold CE;rw [AI5];exact htk) rfl h1 hp h63 hb
theorem aL{t ty b j s:Nat}{fn:Func}{v x:Value}(hr:fn.results=#[.cell t ty,.tmp s]){w:World}{tmps:Array Value}(hx:tmps.getD t undef= .pointer (some ⟨b,j,none⟩))(hl:(loadVar ty ⟨b,j,none⟩).run P w= .ok v w)(hy:tmps.getD s undef=x):(results fn tmps).run P w= .ok (.tuple #[v,x]) w:=by
 rw [AA8]at hx hy;simp [results,hr,hx,hy,asAddr,hl]
theorem Bu{e:Exit}{N:Nat}{r:Option Nat}{fn:Func}{Q:Value->Hp->Prop}{Pn:List PanicEntry->Hp->Prop}{H':Hp}{t ty b j s:Nat}{v x:Value}{o:Obj}(he:FE e=true)(hr:fn.results=#[.cell t ty,.tmp s])(hv:∀a,Fb a env t= .pointer (some ⟨b,j,none⟩))(hb:Has b o H)(hl:∀w:World,w.heap[b]?=some o->(loadVar ty ⟨b,j,none⟩).run P w= .ok v w)(hx:∀a,Fb a env s=x)(hq:Q (.tuple #[v,x]) H')(hp:Sub (H'++R) H:=by repeat(first|exact Sub.refl _|exact Sub.nil _|(apply Sub.cons;(focus (repeat(first|exact One.here _ _|apply One.there))))|refine Sub.drop _ ?_)):Nx ⟨N,[],u,r⟩ (bodyPost P fn (Fw u R Q Pn) e) env H:=
 LU he (fun a w hs=>aL hr (by rw [CJ a env (by rw [hs.size];exact hs.fit),hv a]) (hl w (hs.sat.get _ hb.mem)) (by rw [CJ a env (by rw [hs.size];exact hs.fit),hx a])) hq hp
theorem CW{ops:Array Oper}{l:List Oper}{cx:Cx}{Q:Exit->Act->World->Prop}{d:Nat}{op:Op}{v:Value}{cs:List A8}(hb:∀c∈cs,c∈H.flatten)(h:OpP P ⟨some d,op,ty,pos,af,none⟩ env cs v)(hn:Da op=true)(hd:Nat.blt d cx.N=true)
 (k:Ops P ops l cx Q ((d,v)::env) H):Ops P ops (⟨some d,op,ty,pos,af,none⟩::l) cx Q env H:=
 JO (fun _=>rfl) (fun t ht=>by cases ht;simpa using hd) hn (h.eff (u:=cx.u) (H:=H) hb) (by rintro _ _ ⟨rfl,rfl⟩;exact k) (fun _ _ h=>h.elim)
theorem ik{w:World}{s1 s2:List A8}{a b:Nat}{x y:Obj}(hs:Sat u H w)(h1:One s1 H R)(h2:One s2 R R2)(ha:(a,x)∈s1)(hb:(b,y)∈s2):a≠b:=by
 have hn:=hs.nodup;have hp:H.flatten.Perm (s1++(s2++R2.flatten)):=h1.perm.trans (AD2 s1 h2.perm)
 rw [(hp.map (·.1)).nodup_iff,zK,zK,AA5]at hn;exact hn.2.2 a (zQ.2 ⟨_,ha,V⟩) b (zR _ (zQ.2 ⟨_,hb,V⟩))
theorem vO{cx:Cx}{c:Code}{Q:Exit->Act->World->Prop}{s1 s2:List A8}{a b:Nat}{x y:Obj}(h1:One s1 H R)(h2:One s2 R R2)(ha:(a,x)∈s1)(hb:(b,y)∈s2)(k:a≠b->At P cx c Q env H):At P cx c Q env H:=
 fun act w hs=>k (ik hs.sat h1 h2 ha hb) act w hs
theorem Vk{ops:Array Oper}{l:List Oper}{cx:Cx}{Q:Exit->Act->World->Prop}{d:Nat}{op:Op}{g:Nat×Bool}{v:Value}{cs:List A8}(hg:∀a,wantedE ops a env (some g)=true)(hb:∀c∈cs,c∈H.flatten)(h:OpP P ⟨some d,op,ty,pos,af,some g⟩ env cs v)(hn:Da op=true)(hd:Nat.blt d cx.N=true)
 (k:Ops P ops l cx Q ((d,v)::env) H):Ops P ops (⟨some d,op,ty,pos,af,some g⟩::l) cx Q env H:=
 JO hg (fun t ht=>by cases ht;simpa using hd) hn (h.eff (u:=cx.u) (H:=H) hb) (by rintro _ _ ⟨rfl,rfl⟩;exact k) (fun _ _ h=>h.elim)
theorem sH{e:TypeId}{v:Value}{xs:List Value}{s:List A8}(h:Row e v xs s){k:Nat}(hk:k<xs.length):∃b cap cur z,v=I6 b xs.length cap/\s=[(b,.cells cur e z)]/\k<cur.size/\IA z cur.size/\∀y:Value,Row e v (xs.set k y) [(b,.cells (cur.setIfInBounds k y) e z)]:=by
 obtain ⟨b,cap,cur,z,rfl,rfl,hle,hcm,hcs,htk,hfr⟩:=h.some Ao7;refine ⟨b,cap,cur,z,rfl,rfl,by omega,hfr,fun y=> .inr ⟨b,cap,_,z,by rw [AL3],rfl,by rw [AL3];exact hle,hcm,by rw [AC8];exact hcs,?_,by rw [AC8];exact hfr⟩⟩;rw [AL3,AJ2,List.take_set,htk]
end
section
variable{P:Program}{cx:Cx}{x y:Code}{Q:Exit->Act->World->Prop}{env:Env}{H:Hp}
theorem Ea{e0 B:Env}{H0 R:Hp}(I:Env->Hp->Prop)(hp:EY H0 H R)(hx:At P cx x (Exit.then (fun a w=>∃e H1 a0,I e H1/\St cx (e++B) (H1++R) a0 w/\a=Bz (e++B) a0) Q) (e0++B) (H0++R))(hy:∀e H1,I e H1->At P cx y Q (e++B) (H1++R)):At P cx (.seq x y) Q (e0++B) H:=fun a w hs=>by
 have hs':St cx (e0++B) (H0++R) a w:=⟨hs.size,hs.defers,hs.fit,hs.sat.perm hp.perm⟩;refine wpIn_seq (wpIn_mono (hx a w hs') fun e a' w' he=>?_);cases e<;>first|exact he|(obtain ⟨e',H',a0,hm,hs2,rfl⟩:=he;exact hy e' H' hm a0 w' hs2)
theorem Bi{I:Env->Hp->Prop}{B e':Env}{R H':Hp}(h:I e' H')(hp:Sub (H'++R) H:=by repeat(first|exact Sub.refl _|exact Sub.nil _|(apply Sub.cons;(focus (repeat(first|exact One.here _ _|apply One.there))))|refine Sub.drop _ ?_)):Nx cx ((Exit.then (fun a w=>∃e H1 a0,I e H1/\St cx (e++B) (H1++R) a0 w/\a=Bz (e++B) a0) Q) .normal) (e'++B) H:=fun a _ hs=>⟨e',H',a,h,⟨hs.size,hs.defers,hs.fit,hs.sat.sub hp.amid⟩,rfl⟩
end
end Gw
namespace Gw
open Go Go.RowKit Go.Sort
section
variable{P:Program}{u:World}{env:Env}{H R:Hp}{d:Option Nat}{ty:TypeId}{pos:String}{af:Array Edge}{g:Option (Nat×Bool)}
theorem nL(c:Array Value)(k:Nat):Dp c k []=c:=by
 unfold Dp;apply AB8.1;simp
end
theorem Sg{α:Type} [Inhabited α]{f:α->Value}{w:World}{g:Nat}{cur:Array Value}{e:TypeId}{z:Nat×Nat}{zs:List α}(hb:w.heap[g]?=some (.cells cur e z))(hle:zs.length<=cur.size)(hfr:IA z cur.size)(ht:cur.toList.take zs.length=zs.map f):Holds f w g 0 zs.toArray:=by
 intro j hj;have hj':j<zs.length:=by simpa using hj
 have hf:=hfr j Ao7;have h1:(cur.toList.take zs.length)[j]?=(zs.map f)[j]?:=by rw [ht]
 rw [AL8 hj']at h1;refine ⟨?_,?_⟩
 · simp only [World.cell?,hb,zo]
   simp only [AR7,AD4,An2];rw [<-AA3,h1];simp [hj']
 · simp only [World.frozen?,hb,zo]
   simp;omega
theorem XN{α:Type} [Inhabited α]{f:α->Value}(cur:Array Value)(ts:List α)(h:ts.length<=cur.size):(putCells f 0 ts.toArray cur).toList.take ts.length=ts.map f:=by
 apply AD5;intro j;rw [AA7];by_cases hj:j<ts.length
 · rw [Am7 hj,AA3]
   unfold putCells;rw [AP6,zn Ao7];simp [hj]
 · rw [Am6 hj,AC7 Ap8]
theorem Lu{α:Type} [Inhabited α]{f:α->Value}(cur:Array Value)(ts:Array α):(putCells f 0 ts cur).size=cur.size:=by simp [putCells]
theorem Sat.sorted{α:Type} [Inhabited α]{f:α->Value}{u w:World}{g n:Nat}{cur:Array Value}{e:TypeId}{z:Nat×Nat}{R:Hp}(d:Array α)(os:Array Obj)(h:Sat u ([(g,.cells cur e z)]::R) w):Sat u ([(g,.cells (putCells f 0 d cur) e z)]::R) (grow (putRow f (Sort.ahead w n) g 0 d) os):=by
 have hb:=h.get (g,.cells cur e z) Ap0;have hg:g<w.heap.size:=(zw.1 hb).1
 have h1:Sat u ([(g,.cells (putCells f 0 d cur) e z)]::R) (putRow f (Sort.ahead w n) g 0 d):=by
  refine h.upd (.here _) V rfl V ?_ fun k hk=>?_
  · simp [putRow,mapBlock,Sort.ahead,AD9,hb,onCells]
  · have:g≠k:=fun e=>hk e.symm
    simp [putRow,mapBlock,Sort.ahead,AD9,this]
 exact h1.below ⟨V,V,V,by simp [grow],fun k hk=>heap_grow_old _ _ hk⟩
inductive Qb(s1 s2:List A8):Hp->Hp->Prop
 |here (H:Hp):Qb s1 s2 ((s1++s2)::H) (s1::s2::H)
 |there {H H':Hp} (t:List A8) (h:Qb s1 s2 H H'):Qb s1 s2 (t::H) (t::H')
theorem Qb.flat{s1 s2:List A8}{H H':Hp}(h:Qb s1 s2 H H'):H.flatten=H'.flatten:=by
 induction h with
 |here H=>simp
 |there t h ih=>simp only [zL,ih]
theorem WT{P:Program}{cx:Cx}{cd:Code}{Q:Exit->Act->World->Prop}{env:Env}{s1 s2:List A8}{H H':Hp}(h:Qb s1 s2 H H')(k:At P cx cd Q env H'):At P cx cd Q env H:=WS h.flat k
theorem C8{P:Program}{cx:Cx}{cd:Code}{Q:Exit->Act->World->Prop}{env:Env}{s1 s2:List A8}{H R1 R2:Hp}(h1:One s1 H R1)(h2:One s2 R1 R2)(k:At P cx cd Q env ((s1++s2)::R2)):At P cx cd Q env H:=fun a w hs=>
 k a w ⟨hs.size,hs.defers,hs.fit,hs.sat.perm (by
   simp only [zL,zM];exact h1.perm.trans (AD2 s1 h2.perm))⟩
end Gw
namespace Gw
open Go Go.RowKit
structure V3 where
 a:Int
 b:Int
 c:Int
deriving DecidableEq
def V3.zero:V3:=⟨0,0,0⟩
theorem V3.eq_iff(x y:V3):x=y↔(x.a=y.a/\x.b=y.b/\x.c=y.c):=by
 constructor
 · rintro rfl;exact ⟨rfl,rfl,rfl⟩
 · cases x;cases y;rintro ⟨h1,h2,h3⟩;simp only at h1 h2 h3;rw [h1,h2,h3]
section
variable{P:Program}{u:World}{env:Env}{H R:Hp}{d:Option Nat}{ty:TypeId}{pos:String}{af:Array Edge}{g:Option (Nat×Bool)}
theorem fO{e:TypeId}(n:Nat)(w:World)(he:P.underlying e=some (.int .i64))(m k:Int):(Op.equalIn (n+1) e (I4 m) (I4 k)).run P w= .ok (decide (m=k)) w:=by
 simp [Op.equalIn,run_underlying he];by_cases h:m=k<;>simp [h]
theorem Gu{e:TypeId}(w:World)(ha:(isAgg e).run P w= .ok false w)(xs:Array Value)(j:Nat){v:Value}(h:xs[j]?=some v):(part e xs j).run P w= .ok v w:=by
 simp [part,ha,h]
theorem fQ{t e:TypeId}(w:World)(n:Nat)(x y:V3)(hu:P.underlying t=some (.array 3 e))(he:P.underlying e=some (.int .i64))(ha:∀w:World,(isAgg e).run P w= .ok false w)(hs:∀w:World,(Go.sizeOf e).run P w= .ok 1 w):
 (Op.equalIn (n+2) t (.agg #[I4 x.a,I4 x.b,I4 x.c]) (.agg #[I4 y.a,I4 y.b,I4 y.c])).run P w= .ok (decide (x=y)) w:=by
 have ei:∀(m k:Int) (w:World),(Op.equalIn (n+1) e (I4 m) (I4 k)).run P w= .ok (decide (m=k)) w:=fun m k w=>fO n w he m k;have p0:∀(v0 v1 v2:Value) (w:World),(part e #[v0,v1,v2] 0).run P w= .ok v0 w:=fun _ _ _ w=>Gu w (ha w) _ _ rfl
 have p1:∀(v0 v1 v2:Value) (w:World),(part e #[v0,v1,v2] 1).run P w= .ok v1 w:=fun _ _ _ w=>Gu w (ha w) _ _ rfl;have p2:∀(v0 v1 v2:Value) (w:World),(part e #[v0,v1,v2] 2).run P w= .ok v2 w:=fun _ _ _ w=>Gu w (ha w) _ _ rfl
 rw [show n+2=(n+1)+1 from rfl,Op.equalIn];generalize n+1=m at*;simp only [Sem.run_bind,run_underlying hu,Result.andThen_ok,hs];simp only [Std.Legacy.Range.forIn_eq_forIn_range',Std.Legacy.Range.size,AJ3,AG2,Nat.div_one,AS8,List.range'_zero,List.forIn_cons,List.forIn_nil];simp only [Sem.run_bind,p0,p1,p2,ei,Result.andThen_ok,zo,AK7,Nat.one_mul,Nat.zero_mul,V3.eq_iff];by_cases h1:x.a=y.a<;>by_cases h2:x.b=y.b<;>by_cases h3:x.c=y.c<;>simp [h1,h2,h3,p0,p1,p2,ei]
theorem QI{t:TypeId}(p q:Array Value):binOp .eql t (.agg p) (.agg q)=(do pure (.bool (<-Op.equal t (.agg p) (.agg q)))):=rfl
theorem Yv{t:TypeId}(p q:Array Value):binOp .neq t (.agg p) (.agg q)=(do pure (.bool (!(<-Op.equal t (.agg p) (.agg q))))):=rfl
section
variable{t yt e:TypeId}{x y:Operand}{p q:V3}
theorem bA(hg:P.eqGuardType P.depth t=false)(hu:P.underlying t=some (.array 3 e))(he:P.underlying e=some (.int .i64))(ha:∀w:World,(isAgg e).run P w= .ok false w)(hs:∀w:World,(Go.sizeOf e).run P w= .ok 1 w)
 (hx:∀a,ev a env x= .agg #[I4 p.a,I4 p.b,I4 p.c])(hy:∀a,ev a env y= .agg #[I4 q.a,I4 q.b,I4 q.c]):OpP P ⟨d,.binOp .eql t x y yt,ty,pos,af,g⟩ env [] (.bool (decide (p=q))):=fun a w _=>by
 simp [Cr,hx a,hy a,go_sem,run_eqGuard_agg w _ t _ _ _ _ hg,QI,Op.equal,Op.maxDepth,fQ w 9998 p q hu he ha hs]
theorem NE(hg:P.eqGuardType P.depth t=false)(hu:P.underlying t=some (.array 3 e))(he:P.underlying e=some (.int .i64))(ha:∀w:World,(isAgg e).run P w= .ok false w)(hs:∀w:World,(Go.sizeOf e).run P w= .ok 1 w)
 (hx:∀a,ev a env x= .agg #[I4 p.a,I4 p.b,I4 p.c])(hy:∀a,ev a env y= .agg #[I4 q.a,I4 q.b,I4 q.c]):OpP P ⟨d,.binOp .neq t x y yt,ty,pos,af,g⟩ env [] (.bool (decide (p≠q))):=fun a w _=>by
 simp [Cr,hx a,hy a,go_sem,run_eqGuard_agg w _ t _ _ _ _ hg,Yv,Op.equal,Op.maxDepth,fQ w 9998 p q hu he ha hs]
theorem Q7(hg:P.eqGuardType P.depth t=false)(hu:P.underlying t=some (.array 3 e))(he:P.underlying e=some (.int .i64))(ha:∀w:World,(isAgg e).run P w= .ok false w)(hs:∀w:World,(Go.sizeOf e).run P w= .ok 1 w)
 (hx:∀a,ev a env x= .agg #[I4 p.a,I4 p.b,I4 p.c])(hy:∀a,ev a env y= .agg #[I4 0,I4 0,I4 0]):OpP P ⟨d,.binOp .eql t x y yt,ty,pos,af,g⟩ env [] (.bool (decide (p=V3.zero))):=bA (q:=V3.zero) hg hu he ha hs hx hy
theorem vG(hg:P.eqGuardType P.depth t=false)(hu:P.underlying t=some (.array 3 e))(he:P.underlying e=some (.int .i64))(ha:∀w:World,(isAgg e).run P w= .ok false w)(hs:∀w:World,(Go.sizeOf e).run P w= .ok 1 w)
 (hx:∀a,ev a env x= .agg #[I4 p.a,I4 p.b,I4 p.c])(hy:∀a,ev a env y= .agg #[I4 0,I4 0,I4 0]):OpP P ⟨d,.binOp .neq t x y yt,ty,pos,af,g⟩ env [] (.bool (decide (p≠V3.zero))):=NE (q:=V3.zero) hg hu he ha hs hx hy
end
end
def V3.get(v:V3)(i:Nat):Int:=if i=0 then v.a else if i=1 then v.b else v.c
def inV(n:Int):Prop:=-1000000000<=n/\n<=1000000000
instance(n:Int):Decidable (inV n):=inferInstanceAs(Decidable (_/\_))
def V3.ok(v:V3):Prop:=inV v.a/\inV v.b/\inV v.c
instance(v:V3):Decidable v.ok:=inferInstanceAs(Decidable (_/\_/\_))
structure EL where
 i:Nat
 o:Oper
 v:Value
 C:List A8
 k:Bool
def lay(p:EL->Bool):List EL->Act->Act
 |[],a=>a
 |e::l,a=>lay p l (if p e then a.put e.o.dst e.v else a)
def tv(p:EL->Bool)(t:Nat):List EL->Option Value->Option Value
 |[],d=>d
 |e::l,d=>tv p t l (if p e=true/\e.o.dst=some t then some e.v else d)
theorem Cm(p:EL->Bool):∀(l:List EL) (a:Act),(lay p l a).tmps.size=a.tmps.size
 |[],_=>rfl
 |e::l,a=>by simp only [lay];rw [Cm p l];split<;>simp [Dl]
theorem Ey(p:EL->Bool):∀(l:List EL) (a:Act),(lay p l a).defers=a.defers
 |[],_=>rfl
 |e::l,a=>by simp only [lay];rw [Ey p l];split<;>simp [JL]
theorem Di(p:EL->Bool)(t:Nat):∀(l:List EL) (a:Act),t<a.tmps.size->(lay p l a).tmps[t]?=tv p t l a.tmps[t]?
 |[],_,_=>rfl
 |e::l,a,ht=>by
  simp only [lay,tv];rw [Di p t l _ (by split<;>simpa [Dl]using ht)];congr 1;by_cases hp:p e=true
  · simp only [hp,An4,An7];rw [IX _ _ _ _ ht]
  · simp [hp]
theorem Ec(p q:EL->Bool)(t:Nat):∀(l:List EL) (d:Option Value),(∀e∈l,e.o.dst=some t->p e=q e)->tv p t l d=tv q t l d
 |[],_,_=>rfl
 |e::l,d,h=>by
  simp only [tv];have h0:(if p e=true/\e.o.dst=some t then some e.v else d)=(if q e=true/\e.o.dst=some t then some e.v else d):=by
   by_cases hd:e.o.dst=some t
   · rw [h e (zX ..) hd]
   · simp [hd]
  rw [h0];exact Ec p q t l _ fun e' he=>h e' (zW _ he)
theorem VP(p:EL->Bool)(t:Nat):∀(l:List EL) (d:Option Value),(∀e∈l,e.o.dst=some t->p e=false)->tv p t l d=d
 |[],_,_=>rfl
 |e::l,d,h=>by
  simp only [tv];rw [Am6 (fun hh=>by rw [h e (zX ..) hh.2]at hh;cases hh.1)];exact VP p t l d fun e' he=>h e' (zW _ he)
theorem Ow(p:EL->Bool)(t:Nat):∀(l m:List EL) (d:Option Value),tv p t (l++m) d=tv p t m (tv p t l d)
 |[],_,_=>rfl
 |e::l,m,d=>by simp only [AF3,tv];exact Ow p t l m _
theorem NI(p:EL->Bool):∀(l m:List EL) (a:Act),lay p (l++m) a=lay p m (lay p l a)
 |[],_,_=>rfl
 |e::l,m,a=>by simp only [AF3,lay];exact NI p l m _
def yL(A:List Nat)(o:Oper):Nat:=o.after.toList.foldl (fun m e=>if Region.binds .any e then m|||(1<<<e.on)|||A.getD e.on 0 else m) 0
def SH(ops:Array Oper)(A:List Nat)(N:Nat):Bool:=
 decide (A.length=ops.size)&&
 (List.range ops.size).all fun j=>match ops[j]?with
   |none=>false
   |some oj=>
    (yL A oj==A.getD j 0)&&
    (oj.after.toList.all fun e=>!Region.binds .any e||decide (e.on<j))&&
    ((List.range j).all fun i=>match ops[i]?with
      |none=>false
      |some oi=>oi.apart ops oj||(A.getD j 0).testBit i)&&
    Da oj.op&&(match oj.op with| .select ..=>false|_=>true)&&fits N oj.dst
structure IJ(ops:Array Oper)(A:List Nat)(N:Nat):Prop where
 len:A.length=ops.size
 edge:∀j oj e,ops[j]?=some oj->e∈oj.after->Region.binds .any e=true->e.on<j
 anc:∀j oj i,ops[j]?=some oj->(A.getD j 0).testBit i=true->∃e∈oj.after,Region.binds .any e=true/\(e.on=i\/(A.getD e.on 0).testBit i=true)
 apart:∀i j oi oj,ops[i]?=some oi->ops[j]?=some oj->i<j->oi.apart ops oj=true\/(A.getD j 0).testBit i=true
 nod:∀(j:Nat) (oj:Oper),ops[j]?=some oj->Da oj.op=true
 sel:∀(j:Nat) (oj:Oper) (cs:Array SelectCase) (b:Bool),ops[j]?=some oj->oj.op≠ .select cs b
 room:∀(j:Nat) (oj:Oper) (d:Nat),ops[j]?=some oj->oj.dst=some d->d<N
theorem V6{A:List Nat}{i:Nat}:∀(l:List Edge) (m:Nat),(l.foldl (fun m e=>if Region.binds .any e then m|||(1<<<e.on)|||A.getD e.on 0 else m) m).testBit i=true->m.testBit i=true\/∃e∈l,Region.binds .any e=true/\(e.on=i\/(A.getD e.on 0).testBit i=true)
 |[],m,h=> .inl h
 |e::l,m,h=>by
  simp only [AI6]at h;rcases V6 l _ h with h1|⟨e',he,h2⟩
  · by_cases hb:Region.binds .any e=true
    · rw [Am7 hb,AT5,AT5]at h1
      simp only [AG7]at h1;rcases h1 with(h1|h1)|h1
      · exact .inl h1
      · refine .inr ⟨e,zX ..,hb,.inl ?_⟩
        rw [Nat.one_shiftLeft,Nat.testBit_two_pow]at h1;simpa using h1
      · exact .inr ⟨e,zX ..,hb,.inr h1⟩
    · rw [Am6 hb]at h1;exact .inl h1
  · exact .inr ⟨e',zW _ he,h2⟩
theorem bM{ops:Array Oper}{A:List Nat}{N:Nat}(h:SH ops A N=true):IJ ops A N:=by
 simp only [SH,zy,Am9,AE0,AD6]at h;obtain ⟨h0,h⟩:=h;have hlt:∀{j:Nat} {o:Oper},ops[j]?=some o->j<ops.size:=fun hj=>(zw.1 hj).1
 refine ⟨h0,fun j oj e hj he hb=>?_,fun j oj i hj hb=>?_,fun i j oi oj hi hj hij=>?_,fun j oj hj=>?_,fun j oj cs b hj hs=>?_,fun j oj d hj hd=>?_⟩
 · have:=h j (hlt hj)
   simp only [hj,zy,AE0]at this;have:=this.1.1.1.1.2 e (by simpa using he)
   simpa [hb]using this
 · have:=h j (hlt hj)
   simp only [hj,zy]at this;have:=this.1.1.1.1.1
   simp only [beq_iff_eq]at this;rw [<-this]at hb;rcases V6 _ _ hb with h1|⟨e,he,h1⟩
   · simp at h1
   · exact ⟨e,by simpa using he,h1⟩
 · have:=h j (hlt hj)
   simp only [hj,zy,AE0,AD6]at this;have:=this.1.1.1.2 i hij
   simp only [hi,AG7]at this;exact this
 · have:=h j (hlt hj)
   simp only [hj,zy]at this;exact this.1.1.2
 · have:=h j (hlt hj)
   simp only [hj,zy]at this;rw [hs]at this;simp at this
 · have:=h j (hlt hj)
   simp only [hj,zy]at this;exact Qk this.2 d hd
def dh(ops:Array Oper)(L:Array Bool):Prop:=∀j oj,ops[j]?=some oj->L.getD j false=true->∀e∈oj.after,Region.binds .any e=true->L.getD e.on false=true
theorem FR{ops:Array Oper}{A:List Nat}{N:Nat}(F:IJ ops A N){L:Array Bool}(hL:dh ops L):∀(j i:Nat) (oj:Oper),ops[j]?=some oj->(A.getD j 0).testBit i=true->
 (∀e∈oj.after,Region.binds .any e=true->L.getD e.on false=true)->L.getD i false=true:=by
 intro j;induction j using Nat.strongRecOn with
 |ind j ih=>
  intro i oj hj hb hw;obtain ⟨e,he,hbe,hor⟩:=F.anc j oj i hj hb;rcases hor with rfl|hor
  · exact hw e he hbe
  · have hlt:=F.edge j oj e hj he hbe
    obtain ⟨oe,hoe⟩:∃oe,ops[e.on]?=some oe:=⟨_,zn (by have:=(zw.1 hj).1;omega)⟩;exact ih e.on hlt i oe hoe hor (fun e' he' hb'=>hL e.on oe hoe (hw e he hbe) e' he' hb')
theorem KR{ops:Array Oper}{o:Oper}{a b:Act}(h:∀t∈o.looksAt ops,a.tmps[t]?=b.tmps[t]?):∀x∈o.op.operands,a.eval x=b.eval x:=by
 intro x hx;cases x with
 |tmp t=>
  have ht:t∈o.looksAt ops:=zR _ (AI0.2 ⟨.tmp t,by simpa using hx,rfl⟩);have:=h t ht
  simp only [Act.eval,AA8,this]
 |_=>rfl
def bit(m i:Nat):Bool:=Nat.testBit m i
def Eb(m n:Nat):Bool:=Nat.beq (Nat.land m n) m
theorem Qt{m n i:Nat}(h:Eb m n=true)(hb:m.testBit i=true):n.testBit i=true:=by
 have h1:m&&&n=m:=AP7 h;rw [<-h1,AQ9]at hb;simp only [zy]at hb;exact hb.2
def yQ(P:Program)(ops:Array Oper)(o:Oper)(env:Env)(C:List A8)(v:Value):Prop:=((∀a,wantedE ops a env o.guard=true)/\OpP P o env C v)\/((∀a,wantedE ops a env o.guard=false)/\v=undef/\C=[])
theorem GL{ops:Array Oper}{o:Oper}{a b:Act}(h:∀t∈o.looksAt ops,a.tmps[t]?=b.tmps[t]?):Region.wanted o (yielded ops a.tmps)=Region.wanted o (yielded ops b.tmps):=by
 unfold Region.wanted;cases hg:o.guard with
 |none=>rfl
 |some gw=>
  obtain ⟨g,want⟩:=gw;simp only [yielded];cases ht:(ops[g]?).bind (·.dst)with
  |none=>rfl
  |some t=>
   have:=h t (by unfold Oper.looksAt;rw [hg];simp only [zJ];right;rw [ht];simp);simp only [AC4,this]
section
variable(P:Program)(ops:Array Oper)(A:List Nat)(F:Nat)(cx:Cx)(Q:Exit->Act->World->Prop)
def KJ(D:Nat):List Nat:=(List.range ops.size).filter fun f=>bit F f&&!bit D f&&Eb (A.getD f 0) D
def ja(D:Nat):Bool:=(List.range ops.size).all fun i=>bit F i||bit D i||!Eb (Nat.land (A.getD i 0) F) D
def Lin:Nat->Nat->List (Nat×A8)->Env->Hp->Prop
 |0,_,_,env,H=>Nx cx (Q .normal) env H
 |n+1,D,T,env,H=>
  (∃i o v C,ops[i]?=some o/\bit D i=false/\Eb (A.getD i 0) D=true/\(∀c∈C,c∈H.flatten)/\yQ P ops o env C v/\Lin n (D|||(1<<<i)) (C.map (fun c=>(i,c))++T) (putE o.dst v env) H)\/
  (ja ops A F D=true/\∀f∈KJ ops A F D,∃o T',ops[f]?=some o/\(∀a,wantedE ops a env o.guard=true)/\(∀p∈T,bit (A.getD f 0) p.1=true\/p∈T')/\
    OpW P cx.u o env H (fun v H'=>(∀p∈T',p.2∈H'.flatten)/\Lin n (D|||(1<<<f)) T' (putE o.dst v env) H') (fun ch H'=>∀env,Nx cx (Q (.panic ch)) env H'))
end
section
variable{P:Program}{ops:Array Oper}{A:List Nat}{F:Nat}{N:Nat}{cx:Cx}{Q:Exit->Act->World->Prop}{a0:Act}{env0:Env}
def FK(env0:Env):List EL->Env
 |[]=>env0
 |e::x=>FK (putE e.o.dst e.v env0) x
theorem KT:∀(x y:List EL) (env0:Env),FK env0 (x++y)=FK (FK env0 x) y
 |[],_,_=>rfl
 |e::x,y,env0=>by simp only [AF3,FK];exact KT x y _
theorem Gq(a0:Act):∀(x:List EL) (env0:Env),Bz (FK env0 x) a0=lay (fun _=>true) x (Bz env0 a0)
 |[],_=>rfl
 |e::x,env0=>by simp only [FK,lay,An4];rw [Gq a0 x,PN]
structure JW(P:Program)(ops:Array Oper)(A:List Nat)(F:Nat)(cx:Cx)(Q:Exit->Act->World->Prop)(a0:Act)(env0:Env)(L:Array Bool)(a:Act)(w:World)(x:List EL)(D:Nat)(T:List (Nat×A8))(H:Hp):Prop where
 size:L.size=ops.size
 shut:dh ops L
 act:a=lay (fun e=>L.getD e.i false) x (Bz env0 a0)
 sat:Sat cx.u H w
 mask:∀i,bit D i=true↔∃e∈x,e.i=i
 nodup:(x.map (·.i)).Nodup
 isop:∀e∈x,ops[e.i]?=some e.o
 listed:∀i,L.getD i false=true->bit D i=true
 effs:∀e∈x,e.k=true->L.getD e.i false=true
 order:∀x1 e x2,x=x1++e::x2->∀i,(A.getD e.i 0).testBit i=true->∃e'∈x1,e'.i=i
 pend:∀x1 e x2,x=x1++e::x2->e.k=false->yQ P ops e.o (FK env0 x1) e.C e.v
 reads:∀e∈x,L.getD e.i false=false->∀c∈e.C,(e.i,c)∈T/\c∈H.flatten
 fit:Fit cx.N (FK env0 x)
 walk:Lin P ops A F cx Q (ops.size -x.length) D T (FK env0 x) H
theorem TE(D i j:Nat):bit (D|||(1<<<i)) j=true↔bit D j=true\/i=j:=by
 unfold bit;rw [AT5,AG7,Nat.one_shiftLeft,Nat.testBit_two_pow];simp
theorem dm(FT:IJ ops A N){L:Array Bool}{a:Act}{w:World}{x:List EL}{D:Nat}{T:List (Nat×A8)}{H:Hp}(h:JW P ops A F cx Q a0 env0 L a w x D T H)
 {x1 x2:List EL}{e:EL}(hx:x=x1++e::x2)(hun:L.getD e.i false=false)(hall:∀g∈e.o.after,Region.binds .any g=true->L.getD g.on false=true)
 {t:Nat}(ht:t∈e.o.looksAt ops\/e.o.dst=some t):(∀k∈x1,k.o.dst=some t->L.getD k.i false=true)/\(∀k∈x2,k.o.dst=some t->L.getD k.i false=false):=by
 have he:ops[e.i]?=some e.o:=h.isop e (by rw [hx];simp);have hne:∀k,k∈x1\/k∈x2->k.i≠e.i:=fun k hk hh=>by
  have hn:=h.nodup;rw [hx,zK,zx,AA5]at hn;obtain ⟨h1,h2,h3⟩:=hn;rcases hk with hk|hk
  · exact h3 k.i (zS hk) e.i (zX ..) hh
  · rw [AB9]at h2
    exact h2.1 (hh▸zS hk)
 have ord:∀k:EL,ops[k.i]?=some k.o->k.i≠e.i->k.o.dst=some t->(A.getD e.i 0).testBit k.i=true\/(A.getD k.i 0).testBit e.i=true:=by
  intro k hk hki hd;rcases Nat.lt_or_gt_of_ne hki with hlt|hlt
  · rcases FT.apart k.i e.i k.o e.o hk he hlt with hap|hb
    · exfalso
      obtain ⟨h1,h2,h3⟩:=Oper.apart_spec hap;rcases ht with ht|ht
      · exact h1 t hd ht
      · exact h2 t hd ht
    · exact .inl hb
  · rcases FT.apart e.i k.i e.o k.o he hk hlt with hap|hb
    · exfalso
      obtain ⟨h1,h2,h3⟩:=Oper.apart_spec hap;rcases ht with ht|ht
      · exact h3 t hd ht
      · exact h2 t ht hd
    · exact .inr hb
 refine ⟨fun k hk hd=>?_,fun k hk hd=>?_⟩
 · have hko:=h.isop k (by rw [hx];simp [hk])
   rcases ord k hko (hne k (.inl hk)) hd with hb|hb
   · exact FR FT h.shut e.i k.i e.o he hb hall
   · exfalso
     obtain ⟨y1,y2,hy⟩:=AI8 hk;obtain ⟨e',he',hi⟩:=h.order y1 k (y2++e::x2) (by rw [hx,hy];simp) e.i hb;have hmem:e'∈x1:=by rw [hy];simp [he']
     exact hne e' (.inl hmem) hi
 · have hko:=h.isop k (by rw [hx];simp [hk])
   rcases ord k hko (hne k (.inr hk)) hd with hb|hb
   · exfalso
     obtain ⟨e',he',hi⟩:=h.order x1 e x2 hx k.i hb;have hn:=h.nodup
     rw [hx,zK,zx,AA5]at hn;exact hn.2.2 e'.i (zS he') k.i (zW _ (zS hk)) hi
   · cases hl:L.getD k.i false with
     |false=>rfl
     |true=>
      have:=FR FT h.shut k.i e.i k.o hko hb (fun g hg hbg=>h.shut k.i k.o hko hl g hg hbg);rw [hun]at this;cases this
theorem bK(FT:IJ ops A N){L:Array Bool}{a:Act}{w:World}{x:List EL}{D:Nat}{T:List (Nat×A8)}{H:Hp}(h:JW P ops A F cx Q a0 env0 L a w x D T H)
 {x1 x2:List EL}{e:EL}(hx:x=x1++e::x2)(hun:L.getD e.i false=false)(hall:∀g∈e.o.after,Region.binds .any g=true->L.getD g.on false=true):
 ∀t∈e.o.looksAt ops,a.tmps[t]?=(Bz (FK env0 x1) a0).tmps[t]?:=by
 intro t ht;have hw:=dm FT h hx hun hall (.inl ht)
 have hs:a.tmps.size=(Bz env0 a0).tmps.size:=by rw [h.act,Cm]
 by_cases hlt:t<(Bz env0 a0).tmps.size
 · rw [h.act,Gq,Di _ _ _ _ hlt,Di _ _ _ _ hlt,hx,Ow]
   rw [VP _ t (e::x2) _ (fun k hk hd=>by
    rcases za.1 hk with rfl|hk
    · exact hun
    · exact hw.2 k hk hd)]
   exact Ec _ _ t x1 _ fun k hk hd=>by rw [hw.1 k hk hd]
 · rw [AA9 (by rw [hs];exact AL9 hlt),AA9 (by rw [Gq,Cm];exact AL9 hlt)]
theorem EK(L:Array Bool)(j i:Nat)(hj:j<L.size):(L.setIfInBounds j true).getD i false=if i=j then true else L.getD i false:=by
 by_cases e:i=j
 · subst e;simp [hj]
 · rw [getD_set_ne false (AT8 e),Am6 e]
theorem tQ(FT:IJ ops A N){L:Array Bool}{a:Act}{w:World}{x:List EL}{D:Nat}{T:List (Nat×A8)}{H:Hp}(h:JW P ops A F cx Q a0 env0 L a w x D T H)
 {x1 x2:List EL}{e:EL}(hx:x=x1++e::x2)(hun:L.getD e.i false=false)(hall:∀g∈e.o.after,Region.binds .any g=true->L.getD g.on false=true):
 a.put e.o.dst e.v=lay (fun k=>(L.setIfInBounds e.i true).getD k.i false) x (Bz env0 a0):=by
 have he:ops[e.i]?=some e.o:=h.isop e (by rw [hx];simp);have hj:e.i<L.size:=by rw [h.size];exact (zw.1 he).1
 refine Ib (by rw [Dl,Cm,h.act,Cm]) (by rw [JL,Ey,h.act,Ey]) fun t ht=>?_;rw [Dl]at ht;have ht':t<(Bz env0 a0).tmps.size:=by rw [h.act,Cm]at ht;exact ht
 rw [IX _ _ _ _ ht,Di _ _ _ _ ht'];by_cases hd:e.o.dst=some t
 · rw [Am7 hd]
   have hw:=dm FT h hx hun hall (.inr hd);rw [hx,Ow];simp only [tv];rw [Am7 ⟨by rw [EK _ _ _ hj,Am7 rfl],hd⟩];rw [VP];intro k hk hkd;have hki:k.i≠e.i:=fun hh=>by
    have hn:=h.nodup;rw [hx,zK,zx,AA5,AB9]at hn;exact hn.2.1.1 (hh▸zS hk)
   rw [EK _ _ _ hj,Am6 hki];exact hw.2 k hk hkd
 · rw [Am6 hd,h.act,Di _ _ _ _ ht']
   refine Ec _ _ t x _ fun k hk hkd=>?_;rw [EK _ _ _ hj];by_cases hki:k.i=e.i
   · exfalso
     have:=h.isop k hk;rw [hki,he]at this;obtain hh:=AG5 this;rw [hh]at hd;exact hd hkd
   · rw [Am6 hki]
theorem X8{L:Array Bool}(hs:dh ops L){j:Nat}(hj:j<L.size){oj:Oper}(hoj:ops[j]?=some oj)(hall:∀g∈oj.after,Region.binds .any g=true->L.getD g.on false=true):dh ops (L.setIfInBounds j true):=by
 intro k ok hk hl g hg hb;rw [EK _ _ _ hj]at hl⊢;by_cases e1:k=j
 · subst e1
   rw [hoj]at hk;obtain rfl:=AG5 hk;rw [hall g hg hb];simp
 · rw [Am6 e1]at hl
   rw [hs k ok hk hl g hg hb];simp
theorem oD(FT:IJ ops A cx.N){L:Array Bool}{a:Act}{w:World}{j:Nat}{oj:Oper}(hoj:ops[j]?=some oj)(hun:L.getD j false=false)(hall:∀g∈oj.after,Region.binds .any g=true->L.getD g.on false=true):
 ∀(n:Nat) (x:List EL) (D:Nat) (T:List (Nat×A8)) (H:Hp),ops.size -x.length=n->JW P ops A F cx Q a0 env0 L a w x D T H->
  (∃x' D' T',JW P ops A F cx Q a0 env0 L a w x' D' T' H/\bit D' j=true)\/
  (∃x' D' T',JW P ops A F cx Q a0 env0 L a w x' D' T' H/\j∈KJ ops A F D'/\ja ops A F D'=true/\∃m,ops.size -x'.length=m+1/\∃o T'',ops[j]?=some o/\(∀a,wantedE ops a (FK env0 x') o.guard=true)/\(∀p∈T',bit (A.getD j 0) p.1=true\/p∈T'')/\
    OpW P cx.u o (FK env0 x') H (fun v H'=>(∀p∈T'',p.2∈H'.flatten)/\Lin P ops A F cx Q m (D'|||(1<<<j)) T'' (putE o.dst v (FK env0 x')) H') (fun ch H'=>∀env,Nx cx (Q (.panic ch)) env H')):=by
 intro n;induction n with
 |zero=>
  intro x D T H hn h;left;refine ⟨x,D,T,h,?_⟩;have hjs:j<ops.size:=(zw.1 hoj).1
  have hlen:ops.size<=(x.map (·.i)).length:=by rw [zH];omega
  have hsub:∀i∈x.map (·.i),i<ops.size:=fun i hi=>by
   obtain ⟨e,he,rfl⟩:=zQ.1 hi;exact (zw.1 (h.isop e he)).1
  have:j∈x.map (·.i):=by
   apply AF6;intro hno;have hle:=AQ0 (l₁:=j::x.map (·.i)) (l₂:=List.range ops.size) (AB9.2 ⟨hno,h.nodup⟩) (fun i hi=>by
    rcases za.1 hi with rfl|hi
    · exact AD6.2 hjs
    · exact AD6.2 (hsub i hi))
   simp only [ze,zH,AJ4]at hle;omega
  obtain ⟨e,he,hi⟩:=zQ.1 this;exact (h.mask j).2 ⟨e,he,hi⟩
 |succ n ih=>
  intro x D T H hn h;by_cases hD:bit D j=true
  · exact .inl ⟨x,D,T,h,hD⟩
  · have hw:=h.walk
    rw [hn]at hw;simp only [Lin]at hw;rcases hw with⟨i,o,v,C,ho,hnd,hwi,hC,hop,hk⟩|⟨hfull,hk⟩
    ·
     have hnew:∀e∈x,e.i≠i:=fun e he hh=>by
      have:=(h.mask i).2 ⟨e,he,hh⟩;rw [hnd]at this;cases this
     have hLi:L.getD i false=false:=by
      cases hl:L.getD i false with
      |false=>rfl
      |true=>have:=h.listed i hl;rw [hnd]at this;cases this
     have hlay:lay (fun e=>L.getD e.i false) (x++[⟨i,o,v,C,false⟩]) (Bz env0 a0)=a:=by
      rw [NI,<-h.act];simp only [lay,hLi];rfl
     have hstep:∀(s1:List EL) (e:EL) (s2:List EL),x++[⟨i,o,v,C,false⟩]=s1++e::s2->(∃s3,s2=s3++[⟨i,o,v,C,false⟩]/\x=s1++e::s3)\/(s2=[]/\e=⟨i,o,v,C,false⟩/\s1=x):=by
      intro s1 e s2 hs;rcases AL1 s2 with rfl|⟨s3,z,rfl⟩
      · right
        have:=AN2 hs rfl;exact ⟨V,(by simpa using this.2.symm),this.1.symm⟩
      · left
        have hs':x++[⟨i,o,v,C,false⟩]=(s1++e::s3)++[z]:=by rw [hs];simp
        have:=AN2 hs' rfl;have hz:z=⟨i,o,v,C,false⟩:=by simpa using this.2.symm
        exact ⟨s3,by rw [hz];simp,this.1⟩
     have henv:FK env0 (x++[⟨i,o,v,C,false⟩])=putE o.dst v (FK env0 x):=by rw [KT];rfl
     refine ih (x++[⟨i,o,v,C,false⟩]) (D|||(1<<<i)) (C.map (fun c=>(i,c))++T) H Ap8 ⟨h.size,h.shut,hlay.symm,h.sat,fun k=>?_,?_,fun e he=>?_,fun k hk=>?_,fun k hk hf=>?_,fun s1 e s2 hs k hb=>?_,fun s1 e s2 hs hf=>?_,fun e he hl c hc=>?_,?_,?_⟩
     · rw [TE,h.mask k]
       constructor
       · rintro (⟨e,he,hi⟩|rfl)
         · exact ⟨e,by simp [he],hi⟩
         · exact ⟨⟨i,o,v,C,false⟩,by simp,rfl⟩
       · rintro ⟨e,he,hi⟩
         rcases zJ.1 he with he|he
         · exact .inl ⟨e,he,hi⟩
         · simp only [zI]at he;subst he;exact .inr hi
     · rw [zK,AA5]
       refine ⟨h.nodup,by simp,fun p hp q hq=>?_⟩;simp only [zx,AE9,zI]at hq;subst hq;obtain ⟨e,he,rfl⟩:=zQ.1 hp;exact hnew e he
     · rcases zJ.1 he with he|he
       · exact h.isop e he
       · simp only [zI]at he;subst he;exact ho
     · exact (TE _ _ _).2 (.inl (h.listed k hk))
     · rcases zJ.1 hk with hk|hk
       · exact h.effs k hk hf
       · rw [zI.1 hk]at hf;cases hf
     · rcases hstep s1 e s2 hs with⟨s3,_,hx3⟩|⟨_,rfl,rfl⟩
       · exact h.order s1 e s3 hx3 k hb
       · exact (h.mask k).1 (Qt hwi hb)
     · rcases hstep s1 e s2 hs with⟨s3,_,hx3⟩|⟨_,rfl,rfl⟩
       · exact h.pend s1 e s3 hx3 hf
       · exact hop
     · rcases zJ.1 he with he|he
       · have:=h.reads e he hl c hc
         exact ⟨zZ _ this.1,this.2⟩
       · simp only [zI]at he;subst he
         exact ⟨zR _ (zQ.2 ⟨c,hc,V⟩),hC c hc⟩
     · rw [henv];exact h.fit.putE (fun t ht=>FT.room i o t ho ht) v
     · have hlen:ops.size -(x++[(⟨i,o,v,C,false⟩:EL)]).length=n:=by simp;omega
       rw [henv,hlen];exact hk
    ·
     right;have hjs:j<ops.size:=(zw.1 hoj).1
     have hanc:∀i,(A.getD j 0).testBit i=true->bit D i=true:=fun i hb=>h.listed i (FR FT h.shut j i oj hoj hb hall);have hwj:Eb (A.getD j 0) D=true:=by
      unfold Eb;have:Nat.land (A.getD j 0) D=A.getD j 0:=by
       apply Nat.eq_of_testBit_eq;intro i;show(A.getD j 0&&&D).testBit i=_
       rw [AQ9];cases hb:(A.getD j 0).testBit i with
       |false=>rfl
       |true=>rw [show D.testBit i=true from hanc i hb];rfl
      rw [this];exact Nat.beq_refl _
     have hF:bit F j=true:=by
      have:=AE0.1 hfull j (AD6.2 hjs);simp only [AG7,AG0]at this;rcases this with(h1|h1)|h1
      · exact h1
      · exact absurd h1 hD
      · exfalso
        have:Eb (Nat.land (A.getD j 0) F) D=true:=by
         unfold Eb;have:Nat.land (Nat.land (A.getD j 0) F) D=Nat.land (A.getD j 0) F:=by
          apply Nat.eq_of_testBit_eq;intro i;show((A.getD j 0&&&F)&&&D).testBit i=(A.getD j 0&&&F).testBit i
          rw [AQ9 (A.getD j 0&&&F),AQ9];cases hb:(A.getD j 0).testBit i with
          |false=>rfl
          |true=>rw [show D.testBit i=true from hanc i hb];simp
         rw [this];exact Nat.beq_refl _
        rw [this]at h1;cases h1
     have hnext:j∈KJ ops A F D:=AA2.2 ⟨AD6.2 hjs,by rw [hF,hwj];simp only [AS9]at hD;rw [hD];rfl⟩;exact ⟨x,D,T,h,hnext,hfull,n,hn,hk j hnext⟩
theorem U2{r:Option Nat}{i:Nat}{o:Oper}{a:Act}{w:World}{K:Act->World->Prop}(hi:ops[i]?=some o)(hg:Region.wanted o (yielded ops a.tmps)=true)(h:o.wpIn (Fx r) 0 P a w K Q):wpOpIn (Fx r) 0 P ops Q i K a w:=by
 unfold wpOpIn;simp only [hi];rw [Am7 hg];exact h
theorem fo{r:Option Nat}{i:Nat}{o:Oper}{a:Act}{w:World}{K:Act->World->Prop}(hi:ops[i]?=some o)(hg:Region.wanted o (yielded ops a.tmps)=false)(h:K (a.put o.dst undef) w):wpOpIn (Fx r) 0 P ops Q i K a w:=by
 unfold wpOpIn;simp only [hi];rw [Am6 (by rw [hg];simp)];exact ⟨fun _ _=>trivial,h⟩
theorem Vq(hN:a0.tmps.size=cx.N)(hD:a0.defers=cx.D)(hf0:Fit cx.N env0)(FT:IJ ops A cx.N):∀(fuel:Nat) (L:Array Bool) (a:Act) (w:World) (x:List EL) (D:Nat) (T:List (Nat×A8)) (H:Hp),
 ((List.range ops.size).countP fun i=>!L.getD i false)<=fuel->JW P ops A F cx Q a0 env0 L a w x D T H->wpAnyIn (Fx cx.r) 0 P .any ops Q fuel L a w:=by
 have hall0:∀(L:Array Bool),L.size=ops.size->Region.ready .any ops L=[]->∀j,j<ops.size->L.getD j false=true:=by
  intro L hsz hr j;induction j using Nat.strongRecOn with
  |ind j ih=>
   intro hj;cases hl:L.getD j false with
   |true=>rfl
   |false=>
    obtain ⟨oj,hoj⟩:∃oj,ops[j]?=some oj:=⟨_,zn hj⟩;have:j∈Region.ready .any ops L:=mem_ready.2 ⟨by
     rw [AA8,zn (by rw [hsz];exact hj)]at hl⊢;simpa using hl,oj,hoj,fun e he hb=>by
      have:=FT.edge j oj e hoj he hb;exact ih e.on this Ao7⟩
    rw [hr]at this;cases this
 have hfin:∀(L:Array Bool) (a:Act) (w:World) (x:List EL) (D:Nat) (T:List (Nat×A8)) (H:Hp),JW P ops A F cx Q a0 env0 L a w x D T H->Region.ready .any ops L=[]->Q .normal a w:=by
  intro L a w x D T H h hr;have hall:=hall0 L h.size hr
  have hge:ops.size<=x.length:=by
   have hle:=AQ0 (l₁:=List.range ops.size) (l₂:=x.map (·.i)) AN3 (fun i hi=>by
    obtain ⟨e,he,hi'⟩:=(h.mask i).1 (h.listed i (hall i (AD6.1 hi)));exact zQ.2 ⟨e,he,hi'⟩)
   simpa using hle
  have hw:=h.walk;rw [show ops.size -x.length=0 by omega]at hw;simp only [Lin]at hw;have ha:a=Bz (FK env0 x) a0:=by
   rw [h.act,Gq];refine Ib (by rw [Cm,Cm]) (by rw [Ey,Ey]) fun t ht=>?_;rw [Cm]at ht;rw [Di _ _ _ _ ht,Di _ _ _ _ ht];exact Ec _ _ t x _ fun e he _=>hall e.i (zw.1 (h.isop e he)).1
  rw [ha];exact hw a0 w ⟨hN,hD,h.fit,h.sat⟩
 intro fuel;induction fuel with
 |zero=>
  intro L a w x D T H hc h;have hr:Region.ready .any ops L=[]:=by
   cases hr:Region.ready .any ops L with
   |nil=>rfl
   |cons j js=>
    have hj:j∈Region.ready .any ops L:=by rw [hr];exact zX ..
    obtain ⟨hun,oj,hoj,_⟩:=mem_ready.1 hj;have hjs:j<ops.size:=(zw.1 hoj).1
    have hunF:L.getD j false=false:=by
     rw [AA8]at hun⊢;rw [zn (by rw [h.size];exact hjs)]at hun⊢;simpa using hun
    have:0<(List.range ops.size).countP fun i=>!L.getD i false:=List.countP_pos_iff.2 ⟨j,AD6.2 hjs,by rw [hunF];rfl⟩;omega
  exact ⟨hr,hfin L a w x D T H h hr⟩
 |succ fuel ih=>
  intro L a w x D T H hc h;refine ⟨fun hr=>hfin L a w x D T H h hr,fun j hj=>?_⟩;obtain ⟨hun,oj,hoj,hall⟩:=mem_ready.1 hj;have hjs:j<ops.size:=(zw.1 hoj).1
  have hjL:j<L.size:=by rw [h.size];exact hjs
  have hunF:L.getD j false=false:=by
   rw [AA8]at hun⊢;rw [zn hjL]at hun⊢;simpa using hun
  have hcnt:((List.range ops.size).countP fun i=>!(L.setIfInBounds j true).getD i false)<=fuel:=by
   have hlt:((List.range ops.size).countP fun i=>!(L.setIfInBounds j true).getD i false)<(List.range ops.size).countP fun i=>!L.getD i false:=by
    obtain ⟨r1,r2,hr⟩:=AI8 (AD6.2 hjs);rw [hr,AO7,AO7,List.countP_cons,List.countP_cons];have hmono:∀l:List Nat,(l.countP fun i=>!(L.setIfInBounds j true).getD i false)<=l.countP fun i=>!L.getD i false:=fun l=>List.countP_mono_left fun i _ hi=>by
     rw [EK _ _ _ hjL]at hi;split at hi
     · simp at hi
     · exact hi
    have h1:=hmono r1;have h2:=hmono r2
    have e1:(!(L.setIfInBounds j true).getD j false)=false:=by rw [EK _ _ _ hjL];simp
    have e2:(!L.getD j false)=true:=by rw [hunF];rfl
    rw [e1,e2];simp only [AD4,An2,An4];omega
   omega
  rcases oD FT hoj hunF hall _ x D T H rfl h with⟨x',D',T',h',hD'⟩|⟨x',D',T',h',hnext,hfull,m,hm,o,T'',ho,hwt,hT,hW⟩
  ·
   obtain ⟨e,he,hei⟩:=(h'.mask j).1 hD';obtain ⟨x1,x2,hx⟩:=AI8 he;subst hei;have heo:e.o=oj:=by have:=h'.isop e he;rw [hoj]at this;exact (AG5 this).symm
   subst heo;have hnf:e.k=false:=by
    cases hb:e.k with
    |false=>rfl
    |true=>have:=h'.effs e (by rw [hx];simp) hb;rw [hunF]at this;cases this
   have hP:=h'.pend x1 e x2 hx hnf;have hlook:=bK FT h' hx hunF hall
   have hfit1:Fit a0.tmps.size (FK env0 x1):=by
    have:∀(l:List EL) (E:Env),(∀k∈l,ops[k.i]?=some k.o)->Fit cx.N E->Fit cx.N (FK E l):=by
     intro l;induction l with
     |nil=>intro E _ h;exact h
     |cons k l ihl=>intro E hk h;exact ihl _ (fun q hq=>hk q (zW _ hq)) (h.putE (fun t ht=>FT.room k.i k.o t (hk k (zX ..)) ht) _)
    rw [hN];exact this x1 env0 (fun k hk=>h'.isop k (by rw [hx];simp [hk])) hf0
   have hgo:wpAnyIn (Fx cx.r) 0 P .any ops Q fuel (L.setIfInBounds e.i true) (a.put e.o.dst e.v) w->wpOpIn (Fx cx.r) 0 P ops Q e.i (wpAnyIn (Fx cx.r) 0 P .any ops Q fuel (L.setIfInBounds e.i true)) a w:=fun hz=>by
    rcases hP with⟨hy,hP⟩|⟨hno,hv,_⟩
    · refine U2 hoj (by rw [GL hlook,FV ops e.o a0 _ hfit1];exact hy a0) ⟨fun _ _=>trivial,VN ?_⟩
      rw [RD (LV (FT.nod e.i e.o hoj))];rw [execOp_congr e.o (FT.sel e.i e.o · · hoj) (KR hlook),F9 a0 _ hfit1];rw [hP a0 w fun c hc=>h'.sat.get c (h'.reads e he hunF c hc).2];exact hz
    · refine fo hoj (by rw [GL hlook,FV ops e.o a0 _ hfit1];exact hno a0) ?_
      rw [<-hv];exact hz
   refine hgo ?_;refine ih (L.setIfInBounds e.i true) _ w x' D' T' H hcnt ⟨by simp [h'.size],X8 h'.shut hjL hoj hall,tQ FT h' hx hunF hall,h'.sat,h'.mask,h'.nodup,h'.isop,fun k hk=>?_,fun k hk hf=>?_,h'.order,h'.pend,fun k hk hl c hc=>?_,h'.fit,h'.walk⟩
   · rw [EK _ _ _ hjL]at hk
     split at hk
     · rename_i e1;subst e1;exact hD'
     · exact h'.listed k hk
   · rw [EK _ _ _ hjL];split
     · rfl
     · exact h'.effs k hk hf
   · rw [EK _ _ _ hjL]at hl
     split at hl
     · cases hl
     · exact h'.reads k hk hl c hc
  ·
   have hoe:o=oj:=by rw [hoj]at ho;exact (AG5 ho).symm
   subst hoe;obtain ⟨hFj,hnDj,hwj⟩:bit F j=true/\bit D' j=false/\Eb (A.getD j 0) D'=true:=by
    have:=(AA2.1 hnext).2;simp only [zy,AG0]at this;exact ⟨this.1.1,this.1.2,this.2⟩
   have hnew:∀e∈x',e.i≠j:=fun e he hh=>by
    have:=(h'.mask j).2 ⟨e,he,hh⟩;rw [hnDj]at this;cases this
   have hlook:∀t∈o.looksAt ops,a.tmps[t]?=(Bz (FK env0 x') a0).tmps[t]?:=by
    intro t ht;by_cases hlt:t<(Bz env0 a0).tmps.size
    · rw [h'.act,Gq,Di _ _ _ _ hlt,Di _ _ _ _ hlt]
      refine Ec _ _ t x' _ fun k hk hd=>?_;have hko:=h'.isop k hk
      have:(A.getD j 0).testBit k.i=true\/(A.getD k.i 0).testBit j=true:=by
       rcases Nat.lt_or_gt_of_ne (hnew k hk)with hl|hl
       · rcases FT.apart k.i j k.o o hko hoj hl with hap|hb
         · exact absurd ht ((Oper.apart_spec hap).1 t hd)
         · exact .inl hb
       · rcases FT.apart j k.i o k.o hoj hko hl with hap|hb
         · exact absurd ht ((Oper.apart_spec hap).2.2 t hd)
         · exact .inr hb
      rcases this with hb|hb
      · exact FR FT h'.shut j k.i o hoj hb hall
      · exfalso
        obtain ⟨y1,y2,hy⟩:=AI8 hk;obtain ⟨e',he',hi⟩:=h'.order y1 k y2 hy j hb;exact hnew e' (by rw [hy];simp [he']) hi
    · have hs:a.tmps.size=(Bz env0 a0).tmps.size:=by rw [h'.act,Cm]
      rw [AA9 (by rw [hs];exact AL9 hlt),AA9 (by rw [Gq,Cm];exact AL9 hlt)]
   refine U2 hoj (by rw [GL hlook,FV ops o a0 _ (by rw [hN];exact h'.fit)];exact hwt a0) ⟨fun _ _=>trivial,VN ?_⟩;rw [RD (LV (FT.nod j o hoj))];rw [execOp_congr o (FT.sel j o · · hoj) (KR hlook),F9 a0 _ (by rw [hN];exact h'.fit)];refine hW a0 w h'.sat _ _ (fun v H' w' hv hsat=>?_) (fun ch H' w' hv hsat=>?_)
   · obtain ⟨hT2,hk⟩:=hv
     have henv:FK env0 (x'++[⟨j,o,v,[],true⟩])=putE o.dst v (FK env0 x'):=by rw [KT];rfl
     have hstep:∀(s1:List EL) (e:EL) (s2:List EL),x'++[⟨j,o,v,[],true⟩]=s1++e::s2->(∃s3,s2=s3++[⟨j,o,v,[],true⟩]/\x'=s1++e::s3)\/(s2=[]/\e=⟨j,o,v,[],true⟩/\s1=x'):=by
      intro s1 e s2 hs;rcases AL1 s2 with rfl|⟨s3,z,rfl⟩
      · right
        have:=AN2 hs rfl;exact ⟨V,(by simpa using this.2.symm),this.1.symm⟩
      · left
        have hs':x'++[⟨j,o,v,[],true⟩]=(s1++e::s3)++[z]:=by rw [hs];simp
        have:=AN2 hs' rfl;have hz:z=⟨j,o,v,[],true⟩:=by simpa using this.2.symm
        exact ⟨s3,by rw [hz];simp,this.1⟩
     refine ih (L.setIfInBounds j true) _ w' (x'++[⟨j,o,v,[],true⟩]) (D'|||(1<<<j)) T'' H' hcnt ⟨by simp [h'.size],X8 h'.shut hjL hoj hall,?_,hsat,fun k=>?_,?_,fun e he=>?_,fun k hk=>?_,fun k hk hf=>?_,fun s1 e s2 hs k hb=>?_,fun s1 e s2 hs hf=>?_,fun e he hl c hc=>?_,?_,?_⟩
     ·
      rw [NI];have hsame:lay (fun e=>(L.setIfInBounds j true).getD e.i false) x' (Bz env0 a0)=a:=by
       rw [h'.act];refine Ib (by rw [Cm,Cm]) (by rw [Ey,Ey]) fun t ht=>?_;rw [Cm]at ht;rw [Di _ _ _ _ ht,Di _ _ _ _ ht];exact Ec _ _ t x' _ fun k hk _=>by rw [EK _ _ _ hjL,Am6 (hnew k hk)]
      rw [hsame];simp only [lay];rw [Am7 (by rw [EK _ _ _ hjL];simp)]
     · rw [TE,h'.mask k]
       constructor
       · rintro (⟨e,he,hi⟩|rfl)
         · exact ⟨e,by simp [he],hi⟩
         · exact ⟨⟨j,o,v,[],true⟩,by simp,rfl⟩
       · rintro ⟨e,he,hi⟩
         rcases zJ.1 he with he|he
         · exact .inl ⟨e,he,hi⟩
         · simp only [zI]at he;subst he;exact .inr hi
     · rw [zK,AA5]
       refine ⟨h'.nodup,by simp,fun p hp q hq=>?_⟩;simp only [zx,AE9,zI]at hq;subst hq;obtain ⟨e,he,rfl⟩:=zQ.1 hp;exact hnew e he
     · rcases zJ.1 he with he|he
       · exact h'.isop e he
       · simp only [zI]at he;subst he;exact hoj
     · rw [EK _ _ _ hjL]at hk
       split at hk
       · rename_i e1;exact (TE _ _ _).2 (.inr e1.symm)
       · exact (TE _ _ _).2 (.inl (h'.listed k hk))
     · rw [EK _ _ _ hjL]
       split
       · rfl
       · rename_i hne
         rcases zJ.1 hk with hk|hk
         · exact h'.effs k hk hf
         · rw [zI.1 hk]at hne;exact absurd rfl hne
     · rcases hstep s1 e s2 hs with⟨s3,_,hx3⟩|⟨_,rfl,rfl⟩
       · exact h'.order s1 e s3 hx3 k hb
       · exact (h'.mask k).1 (Qt hwj hb)
     · rcases hstep s1 e s2 hs with⟨s3,_,hx3⟩|⟨_,rfl,rfl⟩
       · exact h'.pend s1 e s3 hx3 hf
       · cases hf
     · rw [EK _ _ _ hjL]at hl
       split at hl
       · cases hl
       · rename_i hne
         rcases zJ.1 he with he|he
         · have hr:=h'.reads e he hl c hc
           rcases hT (e.i,c) hr.1 with hb|hb
           · exfalso
             have:=FR FT h'.shut j e.i o hoj hb hall;rw [hl]at this;cases this
           · exact ⟨hb,hT2 _ hb⟩
         · simp only [zI]at he;subst he;cases hc
     · rw [henv];exact h'.fit.putE (fun t ht=>FT.room j o t hoj ht) v
     · have hlen:ops.size -(x'++[(⟨j,o,v,[],true⟩:EL)]).length=m:=by simp;omega
       rw [henv,hlen];exact hk
   · have hp:=hv (FK env0 x')
     have ha:∃a1,a=Bz (FK env0 x') a1/\a1.tmps.size=cx.N/\a1.defers=cx.D\/True:=⟨a,.inr trivial⟩;clear ha;have:=hv [] a w' ⟨by rw [h'.act,Cm,Ih];exact hN,by rw [h'.act,Ey,FO];exact hD,(by intro q hq;cases hq),hsat⟩
     exact this
section
variable{n D:Nat}{T:List (Nat×A8)}{env:Env}{H:Hp}
theorem Ag(h:Nx cx (Q .normal) env H):Lin P ops A F cx Q 0 D T env H:=h
theorem vJ{d:Nat}{op:Op}{ty:TypeId}{pos:String}{af:Array Edge}{v:Value}{D':Nat}(i:Nat)(ho:ops[i]?=some ⟨some d,op,ty,pos,af,none⟩)(h1:(!bit F i&&!bit D i&&Eb (A.getD i 0) D)=true)(hD:D|||(1<<<i)=D')(hop:OpP P ⟨some d,op,ty,pos,af,none⟩ env [] v)
 (k:Lin P ops A F cx Q n D' T ((d,v)::env) H):Lin P ops A F cx Q (n+1) D T env H:=by
 simp only [zy,AG0]at h1;subst hD;exact .inl ⟨i,_,v,[],ho,h1.1.2,h1.2,by simp,.inl ⟨fun _=>rfl,hop⟩,k⟩
theorem Ev{d:Nat}{op:Op}{ty:TypeId}{pos:String}{af:Array Edge}{v:Value}{D':Nat}(i:Nat)(hop:OpP P ⟨some d,op,ty,pos,af,none⟩ env [] v)
 (k:Lin P ops A F cx Q n D' T ((d,v)::env) H)(ho:ops[i]?=some ⟨some d,op,ty,pos,af,none⟩:=by exact rfl)(h1:(!bit F i&&!bit D i&&Eb (A.getD i 0) D)=true:=by exact rfl)(hD:D|||(1<<<i)=D':=by exact rfl):Lin P ops A F cx Q (n+1) D T env H:=vJ i ho h1 hD hop k
theorem BA{d:Nat}{op:Op}{ty:TypeId}{pos:String}{af:Array Edge}{g:Nat×Bool}{v:Value}{D':Nat}(i:Nat)(hg:∀a,wantedE ops a env (some g)=true)(ho:ops[i]?=some ⟨some d,op,ty,pos,af,some g⟩)(h1:(!bit F i&&!bit D i&&Eb (A.getD i 0) D)=true)(hD:D|||(1<<<i)=D')(hop:OpP P ⟨some d,op,ty,pos,af,some g⟩ env [] v)
 (k:Lin P ops A F cx Q n D' T ((d,v)::env) H):Lin P ops A F cx Q (n+1) D T env H:=by
 simp only [zy,AG0]at h1;subst hD;exact .inl ⟨i,_,v,[],ho,h1.1.2,h1.2,by simp,.inl ⟨hg,hop⟩,k⟩
theorem oC{o:Oper}{D':Nat}(i:Nat)(ho:ops[i]?=some o)(hg:∀a,wantedE ops a env o.guard=false)(h1:(!bit D i&&Eb (A.getD i 0) D)=true)(hD:D|||(1<<<i)=D')
 (k:Lin P ops A F cx Q n D' T (putE o.dst undef env) H):Lin P ops A F cx Q (n+1) D T env H:=by
 simp only [zy,AG0]at h1;subst hD;exact .inl ⟨i,_,undef,[],ho,h1.1,h1.2,by simp,.inr ⟨hg,V,V⟩,k⟩
theorem EE{t:Nat}{p:Prop} [hd:Decidable p](hv:∀a,Fb a env t= .bool (decide p))(ht:p->Lin P ops A F cx Q n D T env H)(hf:¬p->Lin P ops A F cx Q n D T env H):Lin P ops A F cx Q n D T env H:=by
 by_cases hp:p
 · exact ht hp
 · exact hf hp
theorem Cf{t:Nat}{b:Bool}(hv:∀a,Fb a env t= .bool b)(ht:b=true->Lin P ops A F cx Q n D T env H)(hf:b=false->Lin P ops A F cx Q n D T env H):Lin P ops A F cx Q n D T env H:=by
 cases hb:b
 · exact hf hb
 · exact ht hb
theorem Cq{d:Nat}{op:Op}{ty:TypeId}{pos:String}{af:Array Edge}{v:Value}{b:Nat}{x:Obj}{D':Nat}(i:Nat)(ho:ops[i]?=some ⟨some d,op,ty,pos,af,none⟩)(h1:(!bit F i&&!bit D i&&Eb (A.getD i 0) D)=true)(hD:D|||(1<<<i)=D')(hb:Has b x H)(hop:OpP P ⟨some d,op,ty,pos,af,none⟩ env [(b,x)] v)
 (k:Lin P ops A F cx Q n D' ((i,(b,x))::T) ((d,v)::env) H):Lin P ops A F cx Q (n+1) D T env H:=by
 simp only [zy,AG0]at h1;subst hD;exact .inl ⟨i,_,v,[(b,x)],ho,h1.1.2,h1.2,by simpa using hb.mem,.inl ⟨fun _=>rfl,hop⟩,k⟩
theorem Ca{d:Nat}{op:Op}{ty:TypeId}{pos:String}{af:Array Edge}{g:Nat×Bool}{v:Value}{b:Nat}{x:Obj}{D':Nat}(i:Nat)(hg:∀a,wantedE ops a env (some g)=true)(ho:ops[i]?=some ⟨some d,op,ty,pos,af,some g⟩)(h1:(!bit F i&&!bit D i&&Eb (A.getD i 0) D)=true)(hD:D|||(1<<<i)=D')(hb:Has b x H)(hop:OpP P ⟨some d,op,ty,pos,af,some g⟩ env [(b,x)] v)
 (k:Lin P ops A F cx Q n D' ((i,(b,x))::T) ((d,v)::env) H):Lin P ops A F cx Q (n+1) D T env H:=by
 simp only [zy,AG0]at h1;subst hD;exact .inl ⟨i,_,v,[(b,x)],ho,h1.1.2,h1.2,by simpa using hb.mem,.inl ⟨hg,hop⟩,k⟩
def Wd(P:Program)(ops:Array Oper)(A:List Nat)(F:Nat)(cx:Cx)(Q:Exit->Act->World->Prop)(n D:Nat)(T:List (Nat×A8))(env:Env)(H:Hp):List Nat->Prop
 |[]=>True
 |f::l=>(∃o T',ops[f]?=some o/\(∀a,wantedE ops a env o.guard=true)/\(∀p∈T,bit (A.getD f 0) p.1=true\/p∈T')/\
   OpW P cx.u o env H (fun v H'=>(∀p∈T',p.2∈H'.flatten)/\Lin P ops A F cx Q n (D|||(1<<<f)) T' (putE o.dst v env) H') (fun ch H'=>∀env,Nx cx (Q (.panic ch)) env H'))/\Wd P ops A F cx Q n D T env H l
theorem Yc:∀(l:List Nat),Wd P ops A F cx Q n D T env H l->∀f∈l,∃o T',ops[f]?=some o/\(∀a,wantedE ops a env o.guard=true)/\(∀p∈T,bit (A.getD f 0) p.1=true\/p∈T')/\
 OpW P cx.u o env H (fun v H'=>(∀p∈T',p.2∈H'.flatten)/\Lin P ops A F cx Q n (D|||(1<<<f)) T' (putE o.dst v env) H') (fun ch H'=>∀env,Nx cx (Q (.panic ch)) env H')
 |[],_,_,h=>by cases h
 |g::l,h,f,hf=>by
  rcases za.1 hf with rfl|hf
  · exact h.1
  · exact Yc l h.2 f hf
theorem Vp{l:List Nat}(h1:ja ops A F D=true)(h2:KJ ops A F D=l)(h:Wd P ops A F cx Q n D T env H l):Lin P ops A F cx Q (n+1) D T env H:= .inr ⟨h1,by rw [h2];exact Yc l h⟩
def sel{α:Type}:List Bool->List α->List α
 |true::bs,x::l=>x::sel bs l
 |false::bs,_::l=>sel bs l
 |_,_=>[]
def Nv(m:Nat):List Bool->List Nat->Bool
 |true::bs,_::l=>Nv m bs l
 |false::bs,x::l=>bit m x&&Nv m bs l
 |[],[]=>true
 |_,_=>false
theorem P8{m:Nat}:∀(bs:List Bool) (T:List (Nat×A8)),Nv m bs (T.map (·.1))=true->∀p∈T,bit m p.1=true\/p∈sel bs T
 |[],[],_,p,hp=>by cases hp
 |[],_::_,h,_,_=>by simp [Nv]at h
 |_::_,[],_,p,hp=>by cases hp
 |true::bs,x::T,h,p,hp=>by
  simp only [zx,Nv]at h;rcases za.1 hp with rfl|hp
  · exact .inr (by simp [sel])
  · exact (P8 bs T h p hp).imp id fun hm=>by simp only [sel];exact zW _ hm
 |false::bs,x::T,h,p,hp=>by
  simp only [zx,Nv,zy]at h;rcases za.1 hp with rfl|hp
  · exact .inl h.1
  · exact (P8 bs T h.2 p hp).imp id fun hm=>by simp only [sel];exact hm
theorem Ux{f m:Nat}{l is:List Nat}{o:Oper}{D':Nat}{bs:List Bool}{T':List (Nat×A8)}{Ps:Value->Hp->Prop}{Pn:List PanicEntry->Hp->Prop}(ho:ops[f]?=some o)(hg:∀a,wantedE ops a env o.guard=true)(hD:D|||(1<<<f)=D')(hm:A[f]?=some m)(his:T.map (·.1)=is)(hok:Nv m bs is=true)(hT:sel bs T=T')(hw:OpW P cx.u o env H Ps Pn)
 (k:∀v H',Ps v H'->(∀p∈T',p.2∈H'.flatten)/\Lin P ops A F cx Q n D' T' (putE o.dst v env) H')(kp:∀ch H',Pn ch H'->∀env,Nx cx (Q (.panic ch)) env H')(hl:Wd P ops A F cx Q n D T env H l):Wd P ops A F cx Q n D T env H (f::l):=by
 subst hD;subst hT;subst his;have hmf:A.getD f 0=m:=by rw [AB5,hm];rfl
 exact ⟨⟨o,_,ho,hg,fun p hp=>by rw [hmf];exact P8 bs T hok p hp,fun a w hs K Kp hK hKp=>hw a w hs K Kp (fun v H' w' h1 h2=>hK v H' w' (k v H' h1) h2) (fun ch H' w' h1 h2=>hKp ch H' w' (kp ch H' h1) h2)⟩,hl⟩
theorem Ae:Wd P ops A F cx Q n D T env H []:=trivial
end
theorem AV{H:Hp}:∀p∈([]:List (Nat×A8)),p.2∈H.flatten:=by intro p hp;cases hp
theorem jL{H:Hp}{i b:Nat}{x:Obj}{T:List (Nat×A8)}(h:Has b x H)(ht:∀p∈T,p.2∈H.flatten):∀p∈((i,(b,x))::T),p.2∈H.flatten:=by
 intro p hp;rcases za.1 hp with rfl|hp
 · exact h.mem
 · exact ht p hp
theorem Az{id n:Nat}{env:Env}{H:Hp}(A:List Nat)(F:Nat)(hm:P.follows .mixedOrders=true)(hok:SH ops A cx.N=true)(hn:ops.size=n)(h:Lin P ops A F cx Q n 0 [] env H):At P cx (.region id ops true) Q env H:=fun a w hs=>by
 subst hn;have FT:=bM hok
 refine wpIn_region_any hm (Vq (a0:=a) (env0:=env) hs.size hs.defers hs.fit FT ops.size _ _ _ [] 0 [] H ?_ ⟨by simp,fun j oj hj hl=>?_,V,hs.sat.drew,fun i=>?_,by simp,(by intro e he;cases he),fun i hi=>?_,fun i hi=>?_,fun x1 e x2 hx=>?_,fun x1 e x2 hx=>?_,(by intro e he;cases he),hs.fit,h⟩)
 · refine AK0 List.countP_le_length ?_
   simp
 · simp [AK1]at hl
   split at hl<;>simp_all
 · constructor
   · intro hb;simp [bit]at hb
   · rintro ⟨e,he,_⟩;cases he
 · exfalso
   simp [AK1]at hi;split at hi<;>simp_all
 · simp [bit]at hi
 · cases x1<;>cases hx
 · cases x1<;>cases hx
end
end Gw
