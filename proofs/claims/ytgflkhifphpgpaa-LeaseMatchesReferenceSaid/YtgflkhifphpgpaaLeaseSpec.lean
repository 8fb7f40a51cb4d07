/- What the lease table computes, on plain data. -/
import Derived.Test.YtgflkhifphpgpaaBase
namespace Gw
structure Ls where
  tok : Int
  began : Int
  bar : Int
structure Tab where
  ents : List (ByteArray × Ls)
  n : Int
def maxInt : Int := 4611686018427387903
def isTimeB (now : Int) : Bool := decide (0 ≤ now) && decide (now ≤ maxInt)
def oldB (began now : Int) : Bool := decide (20 < now - began)
def Tab.find (T : Tab) (k : ByteArray) : Option Ls := mlook k T.ents
def Tab.asks (T : Tab) (k : ByteArray) (now : Int) : Bool := isTimeB now && (match T.find k with | some x => oldB x.began now | none => true)
def Tab.ask (T : Tab) (k : ByteArray) (now : Int) : Tab := ⟨mput k ⟨T.n + 1, now, 0⟩ T.ents, T.n + 1⟩
def Tab.tokenOf (T : Tab) (k : ByteArray) : Int := match T.find k with | some x => x.tok | none => 0
def Tab.inval (T : Tab) (k : ByteArray) (p : Int) : Tab := match T.find k with | some x => ⟨mput k { x with bar := max x.bar p } T.ents, T.n⟩ | none => T
def Tab.fits (T : Tab) (k : ByteArray) (tok : Int) : Bool := match T.find k with | some x => decide (x.tok = tok) | none => false
def Tab.fillOk (T : Tab) (k : ByteArray) (tok p : Int) : Bool := match T.find k with | some x => decide (x.tok = tok) && decide (x.bar ≤ p) | none => false
def Tab.fill (T : Tab) (k : ByteArray) (tok : Int) : Tab := if T.fits k tok then ⟨mdel k T.ents, T.n⟩ else T
def Tab.expired (T : Tab) (now : Int) : List ByteArray := (T.ents.filter fun p => oldB p.2.began now).map (·.1)
def Tab.expire (T : Tab) (now : Int) : Tab := ⟨T.ents.filter fun p => !oldB p.2.began now, T.n⟩
end Gw
