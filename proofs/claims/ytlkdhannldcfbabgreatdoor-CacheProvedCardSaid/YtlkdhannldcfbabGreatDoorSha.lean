/- SHA-256 over lists of bytes, in words of 32 bits. No function of the program is named. -/
namespace Gw
def uf(x n:UInt32):UInt32:=(x<<<(32 -n))|||(x>>>n)
def Dn:List UInt32:=[
 0x428a2f98,0x71374491,0xb5c0fbcf,0xe9b5dba5,0x3956c25b,0x59f111f1,0x923f82a4,0xab1c5ed5,
 0xd807aa98,0x12835b01,0x243185be,0x550c7dc3,0x72be5d74,0x80deb1fe,0x9bdc06a7,0xc19bf174,
 0xe49b69c1,0xefbe4786,0x0fc19dc6,0x240ca1cc,0x2de92c6f,0x4a7484aa,0x5cb0a9dc,0x76f988da,
 0x983e5152,0xa831c66d,0xb00327c8,0xbf597fc7,0xc6e00bf3,0xd5a79147,0x06ca6351,0x14292967,
 0x27b70a85,0x2e1b2138,0x4d2c6dfc,0x53380d13,0x650a7354,0x766a0abb,0x81c2c92e,0x92722c85,
 0xa2bfe8a1,0xa81a664b,0xc24b8b70,0xc76c51a3,0xd192e819,0xd6990624,0xf40e3585,0x106aa070,
 0x19a4c116,0x1e376c08,0x2748774c,0x34b0bcb5,0x391c0cb3,0x4ed8aa4a,0x5b9cca4f,0x682e6ff3,
 0x748f82ee,0x78a5636f,0x84c87814,0x8cc70208,0x90befffa,0xa4506ceb,0xbef9a3f7,0xc67178f2]
theorem ww:Dn.length=64:=rfl
def YJ(x:UInt32)(l:List UInt32):UInt32:=l.foldl (fun a n=>a^^^uf x n) 0
def ze(a b c d:UInt8):UInt32:=a.toUInt32<<<24|||b.toUInt32<<<16|||c.toUInt32<<<8|||d.toUInt32
def fI(b:List UInt8)(i:Nat):UInt32:=ze (b.getD (4*i) 0) (b.getD (4*i+1) 0) (b.getD (4*i+2) 0) (b.getD (4*i+3) 0)
def wI(w:List UInt32)(i:Nat):UInt32:=
 w.getD (i -16) 0+(YJ (w.getD (i -15) 0) [7,18]^^^(w.getD (i -15) 0)>>>3)+w.getD (i -7) 0+(YJ (w.getD (i -2) 0) [17,19]^^^(w.getD (i -2) 0)>>>10)
def GU(b:List UInt8):Nat->List UInt32
 |0=>[]
 |n+1=>GU b n++[if n<16 then fI b n else wI (GU b n) n]
theorem Cr(b:List UInt8):∀n,(GU b n).length=n
 |0=>rfl
 |n+1=>by simp [GU,Cr b n]
def lJ(b:List UInt8):List UInt32:=GU b 64
structure V8 where
 (a b c d e f g h:UInt32)
def V8.list(v:V8):List UInt32:=[v.a,v.b,v.c,v.d,v.e,v.f,v.g,v.h]
def Dh(v:V8)(k w:UInt32):UInt32:=v.h+YJ v.e [6,11,25]+(v.e&&&v.f^^^~~~v.e&&&v.g)+k+w
def ts(v:V8):UInt32:=YJ v.a [2,13,22]+(v.a&&&v.b^^^v.a&&&v.c^^^v.b&&&v.c)
def yR(v:V8)(k w:UInt32):V8:=⟨Dh v k w+ts v,v.a,v.b,v.c,v.d+Dh v k w,v.e,v.f,v.g⟩
def MO(w:List UInt32)(v:V8):Nat->V8
 |0=>v
 |n+1=>yR (MO w v n) (Dn.getD n 0) (w.getD n 0)
def mn(x y:V8):V8:=⟨x.a+y.a,x.b+y.b,x.c+y.c,x.d+y.d,x.e+y.e,x.f+y.f,x.g+y.g,x.h+y.h⟩
def Yp(h:V8)(b:List UInt8):V8:=mn h (MO (lJ b) h 64)
def h0:V8:=⟨0x6a09e667,0xbb67ae85,0x3c6ef372,0xa54ff53a,0x510e527f,0x9b05688c,0x1f83d9ab,0x5be0cd19⟩
def Lt(n:Nat):Nat:=(119 -n%64)%64
def Rw(n:Nat):List UInt8:=(List.range 8).map fun i=>UInt8.ofNat (8*n/2^(8*(7 -i)))
def H8(s:List UInt8):List UInt8:=s++[128]++List.replicate (Lt s.length) 0++Rw s.length
def Jd:Nat->V8->List UInt8->V8
 |0,h,_=>h
 |n+1,h,b=>Jd n (Yp h (b.take 64)) (b.drop 64)
def Pm(x:UInt32):List UInt8:=[(x>>>24).toUInt8,(x>>>16).toUInt8,(x>>>8).toUInt8,x.toUInt8]
def vg(v:V8):List UInt8:=v.list.flatMap Pm
def sha(s:List UInt8):List UInt8:=vg (Jd ((H8 s).length/64) h0 (H8 s))
theorem NE(s:List UInt8):(sha s).length=32:=by simp [sha,vg,V8.list,Pm]
theorem kZ(n:Nat):(n+1+Lt n)%64=56:=by unfold Lt;omega
theorem U6(s:List UInt8):(H8 s).length=s.length+9+Lt s.length:=by simp [H8,Rw];omega
theorem iX(s:List UInt8):(H8 s).length%64=0:=by rw [U6];have:=kZ s.length;omega
end Gw
