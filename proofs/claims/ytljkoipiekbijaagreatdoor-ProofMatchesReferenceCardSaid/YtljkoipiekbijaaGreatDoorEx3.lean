/- Walking by chunks: writes, new memory, calls, a function's entry and end. No function of the program is named. -/
import Derived.Test.YtljkoipiekbijaaGreatDoorEx2
set_option linter.unusedVariables false
set_option linter.unusedSimpArgs false
namespace Gw
open Go Go.RowKit
def GD:Nat->List A3->Env
 |_,[]=>[]
 |i,v::l=>(i,v)::GD (i+1) l
def M6(z:Nat×Nat)(n:Nat):Prop:=∀i,i<n->¬(z.1<=i/\i<z.2)
theorem Aw(n:Nat):M6 (0,0) n:=fun i _ h=>by simp only at h;omega
theorem ZV(n m:Nat)(h:n<=m)(k:Nat):M6 (m,k) n:=fun i hi y=>by simp only at y;omega
theorem XK{w:AD}{b i:Nat}{c:As}{T:An}{z:Nat×Nat}(v:A3)(h:w.heap[b]?=some (.cells c T z)):
 (w.setCell ⟨b,i,none⟩ v).heap[b]?=some (.cells (c.setIfInBounds i v) T z):=by
 simp [World.setCell,T5,h]
theorem RN{w:AD}{k:Nat}{a:Addr}(v:A3)(hn:k≠a.block):(w.setCell a v).heap[k]?=w.heap[k]?:=by
 simp [World.setCell,T5,Ne.symm hn]
theorem NZ{P:Program}{w:AD}{b i:Nat}{c:As}{T:An}{z:Nat×Nat}{v:A3}(h:w.heap[b]?=some (.cells c T z))(hi:i<c.size)(hz:M6 z c.size)(m:v.oneCell'=true):
 (store ⟨b,i,none⟩ v).run P w= .ok () (w.setCell ⟨b,i,none⟩ v):=by
 have hc:w.cell? ⟨b,i,none⟩=some c[i]:=DL h (KK hi);have y:w.frozen? ⟨b,i,none⟩=false:=by
  simp only [World.frozen?,h];have:=hz i hi
  obtain ⟨lo,E⟩:=z;simp only at this⊢;simpa using this
 rw [run_store P w _ v _ m,hc];simp [y]
theorem Dt{P:Program}(g o:Nat)(t:An)(z:Nat×Nat):∀(vs:List A3) (i:Nat) (cur:As) (w:AD),w.heap[g]?=some (.cells cur t z)->M6 z cur.size->o+i+vs.length<=cur.size->(∀v∈vs,v.oneCell'=true)->
 (storeCells ⟨g,o,none⟩ vs i).run P w= .ok () (w.setRow g (cur.toList.take (o+i)++vs++cur.toList.drop (o+i+vs.length)).toArray)
 |[],i,cur,w,hg,_,_,_=>by
  simp only [storeCells,HT,My,RT,Ln,Array.toArray_toList];rw [setRow_self w g cur t z hg];rfl
 |v::rest,i,cur,w,hg,hz,hl,h1=>by
  have hi:o+i<cur.size:=by simp at hl;omega
  have m:(store ((⟨g,o,none⟩:Addr).add i) v).run P w= .ok () (w.setRow g (cur.setIfInBounds (o+i) v)):=by
   rw [Cq,NZ hg hi hz (h1 v C4),setCell_eq_setRow w g (o+i) cur t z v hg]
  have y:=Dt (P:=P) g o t z rest (i+1) (cur.setIfInBounds (o+i) v) (w.setRow g (cur.setIfInBounds (o+i) v)) (setRow_heap w g cur _ t _ hg) (by simpa using hz) (by simp at hl⊢;omega) (fun x hx=>h1 x (by simp [hx]));simp only [storeCells,Sem.run_bind,m,Result.andThen_ok,y,setRow_setRow];congr 3;have e:=list_seg_step cur.toList (o+i) v rest (by simp at hl⊢;omega)
  simpa [lA,cF]using e
theorem LC{α β:Type}(f:α->β)(ps:Array α):ps.map f=(ps.toList.map f).toArray:=by
 apply Array.ext';simp only [Array.toList_map]
def FE(c:As)(i:Nat)(vs:List A3):As:=(c.toList.take i++vs++c.toList.drop (i+vs.length)).toArray
section
variable{P:Program}{u:AD}{env:Env}{H H' R:Hp}{d:Option Nat}{ty:An}{pos:String}{af:Array Edge}{g:Option (Nat×Bool)}
theorem uC{t:An}{x y:Operand}{b i:Nat}{c c':As}{T:An}{z:Nat×Nat}{v:A3}(W:∀w:AD,(Go.sizeOf t).run P w= .ok 1 w)(hx:∀a,ev a env x= .pointer (some ⟨b,i,none⟩))(hy:∀a,ev a env y=v)(I:v.oneCell'=true)
 (M:Upd b (.cells c T z) (.cells c' T z) H H')(hc:c.setIfInBounds i v=c')(hi:i<c.size)(hz:M6 z c.size):
 OpW P u ⟨d,.store t x y,ty,pos,af,g⟩ env H (fun X H1=>X=undef/\H1=H') (fun _ _=>False):=fun a w E K Z O _=>by
 have J:=E.get _ M.has.mem;have m:v.cells=#[v]:=by cases v<;>first|rfl|simp [Value.oneCell']at I
 have G:=NZ (P:=P) J hi hz I;have:(execOp (ev a env) ⟨d,.store t x y,ty,pos,af,g⟩).run P w= .ok .skip (w.setCell ⟨b,i,none⟩ v):=by
  simp [gI,hx a,hy a,Instr.storeAt,Instr.sureAddr,storeVar,W,m,storeCells,Addr.add_zero',G]
 rw [this];exact O _ _ _ ⟨rfl,rfl⟩ (E.upd M rfl rfl rfl (by rw [XK v J,hc]) fun k U=>RN v U)
theorem Ao{t:An}{x y:Operand}{b i n:Nat}{c cs:As}{T:An}{z:Nat×Nat}{c':As}(U:∀w:AD,(Go.sizeOf t).run P w= .ok n w)(hx:∀a,ev a env x= .pointer (some ⟨b,i,none⟩))(hy:∀a,ev a env y= .agg cs)(J:∀v∈cs.toList,v.oneCell'=true)
 (I:Upd b (.cells c T z) (.cells c' T z) H H')(hc:FE c i cs.toList=c')(hn:cs.size=n)(hi:i+n<=c.size)(hz:M6 z c.size):
 OpW P u ⟨d,.store t x y,ty,pos,af,g⟩ env H (fun W H1=>W=undef/\H1=H') (fun _ _=>False):=fun a w m K X M _=>by
 have G:=m.get _ I.has.mem;have E:=Dt (P:=P) b i T z cs.toList 0 c w G hz (by simp;omega) J
 simp only [RT]at E;have:(execOp (ev a env) ⟨d,.store t x y,ty,pos,af,g⟩).run P w= .ok .skip (w.setRow b (FE c i cs.toList)):=by
  simp [gI,hx a,hy a,Instr.storeAt,Instr.sureAddr,storeVar,U,Value.cells,hn,E,FE]
 rw [this];exact M _ _ _ ⟨rfl,rfl⟩ (m.upd I rfl rfl rfl (by rw [setRow_heap w b c _ T z G,hc]) fun k O=>setRow_other w b k _ O)
theorem Ff{t:An}{m:A3}(hz:∀w:AD,(zeroValue t).run P w= .ok m w){cs:As}(hc:m.cells=cs):
 OpW P u ⟨d,.alloc t,ty,pos,af,g⟩ env H (fun E H1=>∃b,E=I5 b/\H1=[(b,.cells cs t (0,0))]::H) (fun _ _=>False):=fun a w z K G y _=>by
 have:(execOp (ev a env) ⟨d,.alloc t,ty,pos,af,g⟩).run P w= .ok (.value (.pointer (some ⟨w.heap.size,0,none⟩))) {w with heap:=w.heap.push (.cells cs t)}:=by
  simp [uA,Instr.alloc,hz,newVar,newRow,hc]
 rw [this];exact y _ _ _ ⟨_,V,V⟩ (z.alloc _)
theorem J2{t:An}{x:Operand}{v:A3}(hx:∀a,ev a env x=v){cs:As}(hc:v.cells=cs):
 OpW P u ⟨d,.box t x,ty,pos,af,g⟩ env H (fun z H1=>∃b,z=I5 b/\H1=[(b,.cells cs t (0,0))]::H) (fun _ _=>False):=fun a w y K E m _=>by
 have:(execOp (ev a env) ⟨d,.box t x,ty,pos,af,g⟩).run P w= .ok (.value (.pointer (some ⟨w.heap.size,0,none⟩))) {w with heap:=w.heap.push (.cells cs t)}:=by
  simp [zF,Instr.box,hx a,newVar,newRow,hc]
 rw [this];exact m _ _ _ ⟨_,V,V⟩ (y.alloc _)
theorem JH(c:As)(n:Nat)(h:c.size=n):c.extract 0 (0+n)=c:=by subst h;simp
theorem pJ(c:As):FE c 0 c.toList=c:=by
 unfold FE;rw [S3 C4];simp
theorem Ym(c:As)(cs:List A3)(h:cs.length=c.toList.length):FE c 0 cs=cs.toArray:=by
 unfold FE;rw [S3 A0];simp
theorem tq(cs:List A3):∀(l:List A3) (k off:Nat) (c:As),c.toList=cs->off+k+l.length<=cs.length->
 ((l.zipIdx k).foldl (fun(a:As) (p:A3×Nat)=>a.setIfInBounds (off+p.2) p.1) c).toList=cs.take (off+k)++l++cs.drop (off+k+l.length):=by
 intro l;induction l generalizing cs with
 |nil=>intro k off c hc m;simp [hc]
 |cons v l ih=>
  intro k off c hc m;simp only [List.zipIdx_cons,ZS];have y:off+k+(l.length+1)<=cs.length:=by simpa using m
  rw [ih (cs.set (off+k) v) (k+1) off (c.setIfInBounds (off+k) v) (by rw [lA,hc]) Of];have:=list_seg_step cs (off+k) v l A0
  simpa [cF]using this
theorem aB(s:Nat):∀(vs:List A3) (k:Nat) (c:As),(∀v∈vs,v.cells.size=s)->c.size=(k+vs.length)*s->
 Instr.fill (fun i=>some (i*s,s)) c (GD k vs)=some (c.toList.take (k*s)++vs.flatMap fun v=>v.cells.toList).toArray
 |[],k,c,_,hc=>by
  simp only [GD,Instr.fill,jt,HT];rw [Hx (by simp at hc⊢;omega)]
 |v::vs,k,c,hv,hc=>by
  have y:=hv v (P0 ..);have z:k*s+s<=c.size:=by rw [hc];simp only [GB];rw [show(k+(vs.length+1))*s=k*s+s+vs.length*s by rw [Lq,Lq];omega];omega
  simp only [GD,Instr.fill];rw [Ax (by simp [y];omega)];have hz:=tq c.toList v.cells.toList 0 (k*s) c rfl (by simp [y];omega)
  have m:(v.cells.zipIdx.foldl (fun cs (x:A3×Nat)=>cs.setIfInBounds (k*s+x.2) x.1) c)=(c.toList.take (k*s)++v.cells.toList++c.toList.drop (k*s+s)).toArray:=by
   apply Array.ext';rw [<-Array.foldl_toList,Array.toList_zipIdx];simpa [y]using hz
  have e:(v.cells.zipIdx.foldl (fun cs x=>match x with|(c,j)=>cs.setIfInBounds (k*s+j) c) c)=(c.toList.take (k*s)++v.cells.toList++c.toList.drop (k*s+s)).toArray:=m;rw [e,aB s vs (k+1) _ (fun x hx=>hv x (Mu _ hx)) (by
   simp only [K0,C7,CI,D4,TO,y];simp only [GB]at hc;rw [show k+1+vs.length=k+(vs.length+1) by omega,<-hc];omega)]
  congr 2;simp only [L0];rw [<-G0];congr 1;rw [Lq,en];rw [aw (by simp [y];omega)];rw [Hx (by simp [y];omega)]
theorem Ah{t e n s:Nat}{ps:Array (Nat×Operand)}{vs:List A3}{z:A3}{cs:List A3}(Z:P.underlying t=some (.slice e))(X:∀w:AD,(Go.sizeOf e).run P w= .ok s w)(hz:∀w:AD,(zeroValue e).run P w= .ok z w)
 (hv:∀a,ps.toList.map (fun p=>(p.1,ev a env p.2))=GD 0 vs)(O:Nat.ble (n*s) 16777216=true)(hn:Nat.blt 0 (n*s)=true)(W:vs.length=n)(M:(vs.all fun v=>Nat.beq v.cells.size s)=true)(U:(vs.flatMap fun v=>v.cells.toList)=cs):
 OpW P u ⟨d,.buildSlice t n ps,ty,pos,af,g⟩ env H (fun v' H1=>∃b,v'=I6 b n n/\H1=[(b,.cells cs.toArray e (0,0))]::H) (fun _ _=>False):=fun a w y K Kp J _=>by
 have G:(ps.map fun(i,x)=>(i,ev a env x)).toList=GD 0 vs:=by rw [<-hv a];simp
 have I:¬(16777216<n*s):=by have:=c7 O;omega
 have h2:¬(n*s=0):=by have:0<n*s:=by simpa using hn
                      omega
 have m:Instr.fill (fun i=>some (i*s,s)) ((Array.range (n*s)).map (z.cells[·%z.cells.size]!)) (GD 0 vs)=some cs.toArray:=by
  rw [aB s vs 0 _ (fun v hv=>lf (PF.1 M v hv)) (by simp [W])];simp [U]
 have E:(Instr.buildSlice t n (ps.map fun(i,x)=>(i,ev a env x))).run P w= .ok (.slice (some ⟨w.heap.size,0,none⟩) n n) {w with heap:=w.heap.push (.cells cs.toArray e)}:=by
  unfold Instr.buildSlice;simp only [Sem.run_bind,run_underlying Z,Result.andThen_ok,X,G,Nat.reducePow,gt_iff_lt,I,h2,LN,pure_bind,hz,Sem.run_pure,m];simp [newRow]
 have:(execOp (ev a env) ⟨d,.buildSlice t n ps,ty,pos,af,g⟩).run P w= .ok (.value (.slice (some ⟨w.heap.size,0,none⟩) n n)) {w with heap:=w.heap.push (.cells cs.toArray e)}:=by
  rw [OY,Sem.run_bind,E];rfl
 rw [this];exact J _ _ _ ⟨_,V,V⟩ (y.alloc _)
theorem BK{t:An}{ps:Array (Nat×Operand)}{vs:List (Nat×A3)}{cs:As}(hv:∀a,ps.toList.map (fun p=>(p.1,ev a env p.2))=vs)(y:∀w:AD,(Instr.build t vs.toArray).run P w= .ok (.agg cs) w):
 OpP P ⟨d,.build t ps,ty,pos,af,g⟩ env [] (.agg cs):=fun a w _=>by
 have m:(ps.map fun(i,x)=>(i,ev a env x))=vs.toArray:=by rw [<-hv a];exact LC _ ps
 rw [u7,Sem.run_bind,m,y];rfl
theorem AY{t:An}{fs:Array Field}{z cs:As}{pl:Array (Nat×Nat)}{vs:List (Nat×A3)}(hz:∀w:AD,(zeroValue t).run P w= .ok (.agg z) w)(G:P.underlying t=some (.struct fs))
 (E:∀w:AD,(fs.mapM (m:=Sem) fun f=>do pure (f.offset,<-Go.sizeOf f.type)).run P w= .ok pl w)(y:Instr.fill (pl[·]?) z vs=some cs)(w:AD):(Instr.build t vs.toArray).run P w= .ok (.agg cs) w:=by
 unfold Instr.build;simp only [Sem.run_bind,hz,Result.andThen_ok,run_underlying G,Value.cells,E,y];rfl
theorem DN{t e n s:Nat}{z cs:As}{vs:List (Nat×A3)}(hz:∀w:AD,(zeroValue t).run P w= .ok (.agg z) w)(E:P.underlying t=some (.array n e))
 (y:∀w:AD,(Go.sizeOf e).run P w= .ok s w)(m:Instr.fill (fun i=>some (i*s,s)) z vs=some cs)(w:AD):(Instr.build t vs.toArray).run P w= .ok (.agg cs) w:=by
 unfold Instr.build;simp only [Sem.run_bind,hz,Result.andThen_ok,run_underlying E,Value.cells,y,m];rfl
theorem CV{fn:Fn}{ps m:Array Operand}{vs us:List A3}(z:∀a,ps.toList.map (ev a env)=vs)(E:∀a,m.toList.map (ev a env)=us):OpP P ⟨d,.makeFunc fn ps m,ty,pos,af,g⟩ env [] (.func fn vs.toArray us.toArray):=fun a w _=>by
 have y:ps.map (ev a env)=vs.toArray:=by rw [<-z a];exact LC _ ps
 have h2:m.map (ev a env)=us.toArray:=by rw [<-E a];exact LC _ m
 simp [aj,Instr.makeFunc,y,h2]
theorem Q9(z:A3)(n:Nat):((Array.range n).map ((#[z]:As)[·%(#[z]:As).size]!))=(List.replicate n z).toArray:=by
 apply Array.ext;· simp
 · intro i m h2
   simp [Nat.mod_one]
theorem Hu{t e l c by_:Nat}{x y:Operand}{z:A3}{i:TypeInfo}{k k':IntKind}(hu:P.underlying t=some (.slice e))(hi:P.info? e=some i)(hs:i.size=1)(O:i.bytes=by_)(J:i.zero=some z)(X:z.oneCell'=true)
 (hx:∀a,ev a env x= .int k (l:Int))(hy:∀a,ev a env y= .int k' (c:Int))(ax:l<=c)(hc:c<=9223372036854775807)(hb:by_*c<=281474976710656):
 OpW P u ⟨d,.makeSlice t x y,ty,pos,af,g⟩ env H (fun v' H1=>∃b,v'=I6 b l c/\H1=[(b,.cells (List.replicate c z).toArray e (0,0))]::H) (fun _ _=>False):=fun a w I K Kp hK _=>by
 have m:z.cells=#[z]:=by cases z<;>first|rfl|simp [Value.oneCell']at X
 have w1:IntKind.i64.wrap (l:Int)=(l:Int):=Fe _ (by omega);have w2:IntKind.i64.wrap (c:Int)=(c:Int):=Fe _ hc
 have M:¬((281474976710656:Int)<(by_:Int)*(c:Int)):=by
  rw [<-kA];omega
 have Z:¬((c:Int)<0):=by omega
 have h4:¬((l:Int)<0):=by omega
 have h5:¬((c:Int)<(l:Int)):=by omega
 have E:(if c=0 then(pure #[]:Sem (As))else do pure (<-zeroValue e).cells).run P w= .ok (if c=0 then#[]else#[z]) w:=by
  by_cases h0:c=0
  · simp [h0]
  · simp [h0,zeroValue,typeInfo,hi,J,m]
 have U:(Instr.makeSlice t (ev a env x) (ev a env y)).run P w= .ok (.slice (some ⟨w.heap.size,0,none⟩) l c) {w with heap:=w.heap.push (.cells (List.replicate c z).toArray e)}:=by
  rw [hx a,hy a];unfold Instr.makeSlice;simp only [Sem.run_bind,run_underlying hu,Result.andThen_ok,asInt,asIntOf,Sem.run_pure,typeInfo,run_program,hi,O,w1,w2];simp only [Z,h4,h5,M,gt_iff_lt,Nat.reducePow,eC,gR,PC,LN,Int.reducePow,Int.cast_ofNat_Int];simp only [Sem.run_bind,run_askRoom,Result.andThen_ok,Go.sizeOf,typeInfo,run_program,hi,Sem.run_pure,hs,S1,MA,E];by_cases h0:c=0;· subst h0;simp [newRow,Array.range_zero']
  · have W:(zeroValue e).run P w= .ok z w:=by simp [zeroValue,typeInfo,hi,J]
    have G:(Array.range c).map (fun x=>(#[z]:As)[x%(#[z]:As).size]!)=(List.replicate c z).toArray:=Q9 z c;simp only [h0,LN,Sem.run_bind,W,Result.andThen_ok,m,Sem.run_pure,newRow,run_newObj,G]
 have:(execOp (ev a env) ⟨d,.makeSlice t x y,ty,pos,af,g⟩).run P w= .ok (.value (.slice (some ⟨w.heap.size,0,none⟩) l c)) {w with heap:=w.heap.push (.cells (List.replicate c z).toArray e)}:=by
  rw [Xi,Sem.run_bind,U];rfl
 rw [this];exact hK _ _ _ ⟨_,V,V⟩ (I.alloc _)
end
def KG(P:Program)(f:FuncId)(args:As)(H:Hp)(Q:A3->Hp->Prop)(Pn:List PanicEntry->Hp->Prop):Prop:=
 ∀(u:AD) (R:Hp) (w:AD),Sat u (H++R) w->Calls P f args w fun e w'=>(∃v H',e= .returned v/\Q v H'/\Sat u (H'++R) w')\/(∃ch H',e= .panicked ch/\Pn ch H'/\Sat u (H'++R) w')
def CJ(P:Program)(f:FuncId)(args:As)(H:Hp)(Q:A3->Hp->Prop):Prop:=KG P f args H Q (fun _ _=>False)
def BB(P:Program)(f:FuncId)(args:As)(H:Hp)(v:A3):Prop:=CJ P f args H (fun v' H'=>v'=v/\H'=H)
theorem KG.mono{P:Program}{f:FuncId}{args:As}{H:Hp}{Q E:A3->Hp->Prop}{Pn m:List PanicEntry->Hp->Prop}(h:KG P f args H Q Pn)(J:∀v H',Q v H'->E v H')(I:∀ch H',Pn ch H'->m ch H'):KG P f args H E m:=fun u R w K=>
 Calls.mono (h u R w K) fun e M G=>by
  rcases G with⟨v,H',y,h2,z⟩|⟨ch,H',y,h2,z⟩
  · exact .inl ⟨v,H',y,J _ _ h2,z⟩
  · exact .inr ⟨ch,H',y,I _ _ h2,z⟩
theorem CJ.mono{P:Program}{f:FuncId}{args:As}{H:Hp}{Q m:A3->Hp->Prop}(h:CJ P f args H Q)(y:∀v H',Q v H'->m v H'):CJ P f args H m:=KG.mono h y (fun _ _ h=>h)
theorem Nz{P:Program}{f:FuncId}{args:As}{H:Hp}{Q:A3->Hp->Prop}{Rl:A3->Prop}(h:∀w:AD,(∀p∈H.flatten,w.heap[p.1]?=some p.2)->Calls P f args w fun e y=>∃v,e= .returned v/\Rl v/\Below w.heap.size w y)(J:∀v,Rl v->Q v H):CJ P f args H Q:=fun u R w m=>
 Calls.mono (h w fun p I=>m.get p (by simp only [Kx,GS];exact .inl I)) fun e y G=>by
  obtain ⟨v,z,h2,E⟩:=G;exact .inl ⟨v,H,z,J v h2,m.below E⟩
section
variable{P:Program}{u:AD}{env:Env}{H R:Hp}{d:Option Nat}{ty:An}{pos:String}{af:Array Edge}{g:Option (Nat×Bool)}
theorem fQ{f:FuncId}{args:As}{G:Hp}{Q:A3->Hp->Prop}{Pn:List PanicEntry->Hp->Prop}(E:KG P f args G Q Pn)(O:FX G H R){w:AD}(U:Sat u H w){K:A3->AD->Prop}{I:List PanicEntry->AD->Prop}
 (J:∀v H' m,(∃H1,Q v H1/\H'=H1++R)->Sat u H' m->K v m)(z:∀ch H' m,(∃H1,Pn ch H1/\H'=H1++R)->Sat u H' m->I ch m):Ul P K I (.ok (.enter f args) w):=
 Calls.mono (E u R w (U.perm O.perm)) fun e m M=>by
  rcases M with⟨v,H',rfl,h2,y⟩|⟨ch,H',rfl,h2,y⟩
  · exact J v _ m ⟨H',h2,rfl⟩ y
  · exact z ch _ m ⟨H',h2,rfl⟩ y
theorem Jw{E:Operand}{y:Array Operand}{z:Array An}{f:FuncId}{first m args:As}{vs:List A3}{J:Hp}{Q:A3->Hp->Prop}{Pn:List PanicEntry->Hp->Prop}
 (X:∀a,ev a env E= .func (.func f) first m)(hc:∀(args:As) (w:AD),(callFunc f args).run P w= .ok (.enter f args) w)(W:∀a,y.toList.map (ev a env)=vs)(O:(first.toList++vs++m.toList).toArray=args)
 (I:KG P f args J Q Pn)(Z:FX J H R):
 OpW P u ⟨d,.call ⟨.value E,y,z⟩,ty,pos,af,g⟩ env H (fun v H'=>∃H1,Q v H1/\H'=H1++R) (fun ch H'=>∃H1,Pn ch H1/\H'=H1++R):=fun a w hs K Kp U G=>by
 have M:y.map (ev a env)=vs.toArray:=by rw [<-W a];exact LC _ y
 have:(execOp (ev a env) ⟨d,.call ⟨.value E,y,z⟩,ty,pos,af,g⟩).run P w= .ok (.enter f args) w:=by
  simp [EU,resolve,X a,Deferred.ofValue,invoke,M,hc,<-O]
 rw [this];exact fQ I Z hs U G
end
section
variable{P:Program}{ops:Array Oper}{l:List Oper}{cx:Cx}{Qe:Exit->Act->AD->Prop}{env:Env}{H R:Hp}{d:Option Nat}{ty:An}{pos:String}{af:Array Edge}{g:Option (Nat×Bool)}
theorem uz{m:Op}{y:A3->Hp->Prop}(h:OpW P cx.u ⟨d,m,ty,pos,af,g⟩ env H y (fun _ _=>False))(E:∀a,wantedE ops a env g=true)(hn:EB m=true)(z:UR cx.N d=true)
 (k:∀v H',y v H'->Ops P ops l cx Qe (putE d v env) H'):Ops P ops (⟨d,m,ty,pos,af,g⟩::l) cx Qe env H:=
 HY E (Gr z) hn h k (fun _ _ h=>h.elim)
theorem WQ{u:AD}{I:Operand}{G:Array Operand}{y:Array An}{f:FuncId}{first m args:As}{vs:List A3}{E:Hp}{v:A3}
 (hf:∀a,ev a env I= .func (.func f) first m)(hc:∀(args:As) (w:AD),(callFunc f args).run P w= .ok (.enter f args) w)(Z:∀a,G.toList.map (ev a env)=vs)(U:(first.toList++vs++m.toList).toArray=args)
 (z:BB P f args E v)(J:FX E H R):
 OpW P u ⟨d,.call ⟨.value I,G,y⟩,ty,pos,af,g⟩ env H (fun M H'=>M=v/\H'=H) (fun _ _=>False):=fun a w hs K O W X=>
 Jw hf hc Z U z J a w hs K O (by rintro M _ w' ⟨H1,⟨rfl,rfl⟩,rfl⟩ h;exact W _ _ w' ⟨rfl,rfl⟩ (h.perm J.perm.symm)) (by rintro _ _ _ ⟨_,h,_⟩;exact h.elim)
end
theorem DC{R:Hp}{A:List PanicEntry->Hp->Prop}:∀ch H',(∃H1,(fun(_:List PanicEntry) (_:Hp)=>False) ch H1/\H'=H1++R)->A ch H':=by rintro _ _ ⟨_,h,_⟩;exact h.elim
def Fp(u:AD)(R:Hp)(Q:A3->Hp->Prop)(Pn:List PanicEntry->Hp->Prop)(e:Ending)(w':AD):Prop:=
 (∃v H',e= .returned v/\Q v H'/\Sat u (H'++R) w')\/(∃ch H',e= .panicked ch/\Pn ch H'/\Sat u (H'++R) w')
theorem Fj:∀(l:List A3) (i:Nat) (p:Nat×A3),p∈GD i l->i<=p.1/\l[p.1 -i]?=some p.2
 |[],_,_,h=>by cases h
 |v::l,i,p,h=>by
  simp only [GD,H4]at h;rcases h with rfl|h
  · simp
  · obtain ⟨m,h2⟩:=Fj l (i+1) p h
    refine ⟨by omega,?_⟩;rw [show p.1 -i=(p.1 -(i+1))+1 by omega,bj];exact h2
theorem Ky{a:Act}:∀(sl:Env),(∀p∈sl,a.tmps[p.1]?=some p.2)->Ck sl a=a
 |[],_=>rfl
 |(d,v)::sl,h=>by
  simp only [Ck];rw [Ky sl fun p z=>h p (Mu _ z)];have y:=h (d,v) (P0 ..)
  refine Jh (by rw [EP]) (by rw [KT]) fun t m=>?_;rw [EP]at m;rw [Jb _ _ _ _ m];split;· rename_i e;cases e;exact y.symm
  · rfl
theorem Jy{P:Program}{f:FuncId}{fn:Func}{c:Code}{args:As}{N:Nat}{H:Hp}{Q:A3->Hp->Prop}{Pn:List PanicEntry->Hp->Prop}(K:P.funcs[f]?=some fn)(J:fn.body=some c)(I:fn.ntmps=N)(M:Nat.ble args.size N=true)
 (h:∀u R,At P ⟨N,[],u,none⟩ c (bodyPost P fn (Fp u R Q Pn)) (GD 0 args.toList) (H++R)):KG P f args H Q Pn:=fun u R w y=>by
 have z:args.size<=N:=c7 M;refine calls_of_wp K J ?_;refine (wpIn_wide (n:=0)).1 ?_;have m:Ck (GD 0 args.toList) {tmps:=args++Array.replicate (fn.ntmps -args.size) undef,defers:=[]}={tmps:=args++Array.replicate (fn.ntmps -args.size) undef,defers:=[]}:=by
  refine Ky _ fun p G=>?_;obtain ⟨_,h2⟩:=Fj _ _ _ G;simp only [SM,Kf]at h2;have E:p.1<args.size:=by
   rcases FA p.1 args.size with h|h
   · exact h
   · simp [Lk h]at h2
  rw [eI E];exact h2
 rw [<-m];refine h u R _ w ⟨by simp [I];omega,V,fun p G=>?_,y⟩;obtain ⟨_,h2⟩:=Fj _ _ _ G;simp only [SM,Kf]at h2;rcases FA p.1 args.size with h|h
 · exact j1 h z
 · simp [Lk h]at h2
section
variable{P:Program}{N:Nat}{u:AD}{r:Option Nat}{fn:Func}{R H H':Hp}{Q:A3->Hp->Prop}{Pn:List PanicEntry->Hp->Prop}{env:Env}{e:Exit}
theorem Qo{t:Nat}(m:fn.results=#[.tmp t])(w:AD)(tmps:As):(results fn tmps).run P w= .ok (tmps.getD t undef) w:=by simp [results,m]
theorem Ws(m:fn.results=#[])(w:AD)(tmps:As):(results fn tmps).run P w= .ok (.tuple #[]) w:=by simp [results,m]
theorem Qn{t s:Nat}(m:fn.results=#[.tmp t,.tmp s])(w:AD)(tmps:As):(results fn tmps).run P w= .ok (.tuple #[tmps.getD t undef,tmps.getD s undef]) w:=by simp [results,m]
theorem UG{t s q:Nat}(m:fn.results=#[.tmp t,.tmp s,.tmp q])(w:AD)(tmps:As):(results fn tmps).run P w= .ok (.tuple #[tmps.getD t undef,tmps.getD s undef,tmps.getD q undef]) w:=by simp [results,m]
def GH:Exit->Bool
 | .normal| .ret=>true
 |_=>false
theorem Kk{v:A3}(E:GH e=true)(J:∀a w,St ⟨N,[],u,r⟩ env H a w->(results fn (Ck env a).tmps).run P w= .ok v w)(I:Q v H')(G:Sub (H'++R) H:=by repeat(first|exact Sub.refl _|exact Sub.nil _|(apply Sub.cons;(focus (repeat(first|exact One.here _ _|apply One.there))))|refine Sub.drop _ ?_)):Nx ⟨N,[],u,r⟩ (bodyPost P fn (Fp u R Q Pn) e) env H:=fun a w m=>by
 have y:(Ck env a).defers=[]:=by rw [Fu];exact m.defers
 have h2:=J a w m;have z:Fp u R Q Pn (.returned v) w:= .inl ⟨v,H',rfl,I,m.sat.sub G.amid⟩
 cases e<;>first|exact ⟨y,v,h2,z⟩|simp [GH]at E
theorem AO{t:Nat}{v:A3}(y:GH e=true)(G:fn.results=#[.tmp t])(hv:∀a,FC a env t=v)(E:Q v H')(z:Sub (H'++R) H:=by repeat(first|exact Sub.refl _|exact Sub.nil _|(apply Sub.cons;(focus (repeat(first|exact One.here _ _|apply One.there))))|refine Sub.drop _ ?_)):Nx ⟨N,[],u,r⟩ (bodyPost P fn (Fp u R Q Pn) e) env H:=
 Kk y (fun a w m=>by rw [Qo G,Br a env (by rw [m.size];exact m.fit),hv a]) E z
theorem Gn(m:GH e=true)(E:fn.results=#[])(z:Q (.tuple #[]) H')(y:Sub (H'++R) H:=by repeat(first|exact Sub.refl _|exact Sub.nil _|(apply Sub.cons;(focus (repeat(first|exact One.here _ _|apply One.there))))|refine Sub.drop _ ?_)):Nx ⟨N,[],u,r⟩ (bodyPost P fn (Fp u R Q Pn) e) env H:=
 Kk m (fun a w G=>Ws E w _) z y
theorem Cn{t s:Nat}{v x:A3}(y:GH e=true)(G:fn.results=#[.tmp t,.tmp s])(hv:∀a,FC a env t=v)(hx:∀a,FC a env s=x)(E:Q (.tuple #[v,x]) H')(z:Sub (H'++R) H:=by repeat(first|exact Sub.refl _|exact Sub.nil _|(apply Sub.cons;(focus (repeat(first|exact One.here _ _|apply One.there))))|refine Sub.drop _ ?_)):Nx ⟨N,[],u,r⟩ (bodyPost P fn (Fp u R Q Pn) e) env H:=
 Kk y (fun a w m=>by rw [Qn G,Br a env (by rw [m.size];exact m.fit),Br a env (by rw [m.size];exact m.fit),hv a,hx a]) E z
theorem iL{t s q:Nat}{v x y:A3}(z:GH e=true)(I:fn.results=#[.tmp t,.tmp s,.tmp q])(hv:∀a,FC a env t=v)(hx:∀a,FC a env s=x)(hy:∀a,FC a env q=y)(G:Q (.tuple #[v,x,y]) H')(E:Sub (H'++R) H:=by repeat(first|exact Sub.refl _|exact Sub.nil _|(apply Sub.cons;(focus (repeat(first|exact One.here _ _|apply One.there))))|refine Sub.drop _ ?_)):Nx ⟨N,[],u,r⟩ (bodyPost P fn (Fp u R Q Pn) e) env H:=
 Kk z (fun a w m=>by rw [UG I,Br a env (by rw [m.size];exact m.fit),Br a env (by rw [m.size];exact m.fit),Br a env (by rw [m.size];exact m.fit),hv a,hx a,hy a]) G E
theorem Wv{t ty b i:Nat}{v:A3}(y:fn.results=#[.cell t ty]){w:AD}{tmps:As}(hx:tmps.getD t undef= .pointer (some ⟨b,i,none⟩))(m:(loadVar ty ⟨b,i,none⟩).run P w= .ok v w):(results fn tmps).run P w= .ok v w:=by
 rw [Lw]at hx;simp [results,y,hx,asAddr,m]
theorem F8{t ty b i s m c j:Nat}{v x:A3}(E:fn.results=#[.cell t ty,.cell s m]){w:AD}{tmps:As}(hx:tmps.getD t undef= .pointer (some ⟨b,i,none⟩))(y:(loadVar ty ⟨b,i,none⟩).run P w= .ok v w)
 (hy:tmps.getD s undef= .pointer (some ⟨c,j,none⟩))(z:(loadVar m ⟨c,j,none⟩).run P w= .ok x w):(results fn tmps).run P w= .ok (.tuple #[v,x]) w:=by
 rw [Lw]at hx hy;simp [results,E,hx,hy,asAddr,y,z]
theorem Ai{t b i n:Nat}{c:As}{T:An}{z:Nat×Nat}{cs:As}(ha:∀w:AD,(isAgg t).run P w= .ok true w)(hs:∀w:AD,(Go.sizeOf t).run P w= .ok n w)(hn:i+n<=c.size)(hv:c.extract i (i+n)=cs)(w:AD)(hb:w.heap[b]?=some (.cells c T z)):(loadVar t ⟨b,i,none⟩).run P w= .ok (.agg cs) w:=by
 have:=A7 (P:=P) (env:=[]) (d:=none) (ty:=0) (pos:= "") (af:=#[]) (g:=none) (x:= .const (.pointer (some ⟨b,i,none⟩))) (T:=T) (z:=z) ha hs (fun _=>rfl) hn hv ⟨#[],[]⟩ w (by simpa using hb);rw [ak]at this;simp only [Sem.run_bind,ev,Instr.loadAt,Instr.sureAddr,Sem.run_pure,Result.andThen_ok]at this;cases hr:(loadVar t ⟨b,i,none⟩).run P w with
 |ok v w'=>rw [hr]at this;simp only [Result.andThen_ok]at this;cases this;rfl
 |halt h w'=>rw [hr]at this;simp only [Result.andThen_halt]at this;cases this
theorem GY{t b i:Nat}{c:As}{T:An}{z:Nat×Nat}{v:A3}(m:∀w:AD,(isAgg t).run P w= .ok false w)(hv:c[i]?=some v)(w:AD)(y:w.heap[b]?=some (.cells c T z)):(loadVar t ⟨b,i,none⟩).run P w= .ok v w:=by
 simp [loadVar,m,DL y hv]
theorem Df{t ty b i:Nat}{v:A3}{o:Obj}(z:GH e=true)(J:fn.results=#[.cell t ty])(hv:∀a,FC a env t= .pointer (some ⟨b,i,none⟩))(y:Has b o H)(E:∀w:AD,w.heap[b]?=some o->(loadVar ty ⟨b,i,none⟩).run P w= .ok v w)(I:Q v H')(G:Sub (H'++R) H:=by repeat(first|exact Sub.refl _|exact Sub.nil _|(apply Sub.cons;(focus (repeat(first|exact One.here _ _|apply One.there))))|refine Sub.drop _ ?_)):Nx ⟨N,[],u,r⟩ (bodyPost P fn (Fp u R Q Pn) e) env H:=
 Kk z (fun a w m=>Wv J (by rw [Br a env (by rw [m.size];exact m.fit),hv a]) (E w (m.sat.get _ y.mem))) I G
theorem PM{ch:List PanicEntry}(z:Pn ch H')(y:Sub (H'++R) H:=by repeat(first|exact Sub.refl _|exact Sub.nil _|(apply Sub.cons;(focus (repeat(first|exact One.here _ _|apply One.there))))|refine Sub.drop _ ?_)):Nx ⟨N,[],u,r⟩ (bodyPost P fn (Fp u R Q Pn) (.panic ch)) env H:=fun a w m=>
 ⟨by rw [Fu];exact m.defers,.inr ⟨ch,H',rfl,z,m.sat.sub y.amid⟩⟩
end
end Gw
