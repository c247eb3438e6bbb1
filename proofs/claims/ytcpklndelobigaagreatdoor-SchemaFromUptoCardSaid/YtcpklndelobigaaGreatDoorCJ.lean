/- Decimal of small numbers; what the generator Bent makes, as plain data. No condition. -/
import Derived.Test.YtcpklndelobigaaGreatDoorCI
import Derived.Test.YtcpklndelobigaaGreatDoorS4
set_option linter.all false
namespace Go.Proofs.YtcpklndelobigaaGreatDoor
open Go.Proofs.YtcpklndelobigaaGreatDoor.Abs
set_option maxRecDepth 20000
set_option maxHeartbeats 4000000
def sK (n:Nat):List UInt8:=[UInt8.ofNat (48+n)]
theorem Gz (n:Nat) (hn:n<9):af cx 14 [.int .i64 ((n:Nat):Int)] (.str (sK n)):=by
 match n,hn with
 | 0,_=>exact a8 (p:=xp) cxM bb bE 60 false 14 [.int .i64 0] [] (.str [48],[]) kq
 | 1,_=>exact a8 (p:=xp) cxM bb bE 60 false 14 [.int .i64 1] [] (.str [49],[]) kq
 | 2,_=>exact a8 (p:=xp) cxM bb bE 60 false 14 [.int .i64 2] [] (.str [50],[]) kq
 | 3,_=>exact a8 (p:=xp) cxM bb bE 60 false 14 [.int .i64 3] [] (.str [51],[]) kq
 | 4,_=>exact a8 (p:=xp) cxM bb bE 60 false 14 [.int .i64 4] [] (.str [52],[]) kq
 | 5,_=>exact a8 (p:=xp) cxM bb bE 60 false 14 [.int .i64 5] [] (.str [53],[]) kq
 | 6,_=>exact a8 (p:=xp) cxM bb bE 60 false 14 [.int .i64 6] [] (.str [54],[]) kq
 | 7,_=>exact a8 (p:=xp) cxM bb bE 60 false 14 [.int .i64 7] [] (.str [55],[]) kq
 | 8,_=>exact a8 (p:=xp) cxM bb bE 60 false 14 [.int .i64 8] [] (.str [56],[]) kq
 | n+9,h=>exact absurd h oq
def bW (l:List Int):List UInt8:=([[105,100],[110],[120],[111,112,101,110],[73,100],[],[105,116,101,109],[115,104,111,112],[97,98,99,100,101,102,103,104,105,106,107,108,109,110,111,112,113],[116,121,112,101]]:List (List UInt8)).getD (ah l 2 10).toNat []
def bI (s:Sc) (l:List Int):Nat:=(ah l 1 ((s.tabs.length:Nat):Int)).toNat
def bT (s:Sc) (l:List Int):Tb:=s.tabs.getD (0+bI s l) Tb.zero
def bK (s:Sc) (l:List Int):Nat:=(ah l 3 (((bT s l).cols.length:Nat):Int)).toNat
def bC (s:Sc) (l:List Int):Co:=(bT s l).cols.getD (0+bK s l) Co.zero
def kd:Nat->List Co->List Co
 | 0,c=>c
 | n+1,c=>kd n (c++[⟨[99]++sK c.length,gU⟩])
def gw (q:Int) (s:Sc) (l:List Int):List Co:=if q=1 then (bT s l).cols.set (0+bK s l) ⟨bW l,(bC s l).type⟩ else if q=2 then (bT s l).cols.set (0+bK s l) ⟨(bC s l).name,bA l 1 4⟩ else if q=8 then kd (9 - (bT s l).cols.length) (bT s l).cols else (bT s l).cols
def lS (q:Int) (s:Sc) (l:List Int):List (List UInt8):=if q=3 then (bT s l).key++[bW l] else if q=4 then (if ((((bT s l).key.length:Nat):Int) > 0) then (bT s l).key.set (0+0) (bW l) else (bT s l).key) else if q=5 then [] else (bT s l).key
def kL (q:Int) (s:Sc) (l:List Int):List Rf:=if q=6 then (bT s l).refs++[⟨bW l,[112,108,97,99,101]⟩] else if q=7 then (bT s l).refs++[⟨(bC s l).name,bW l⟩] else (bT s l).refs
def jj (q:Int) (s:Sc) (l:List Int):List UInt8:=if q=0 then bW l else (bT s l).name
def c4 (q:Int) (s:Sc) (l:List Int):Ex:=if q=12 then sL 16 0 else (bT s l).chk
def ic (q:Int) (s:Sc) (l:List Int):List Sm:=if q=9 then s.sums.set 0 ⟨([[83,105,122,101],[73,110,116],[90,101,100],[114,101,100],[]]:List (List UInt8)).getD (ah l 2 5).toNat [],(s.sums.getD 0 Sm.zero).ctors⟩ else if q=10 then s.sums.set 0 ⟨(s.sums.getD 0 Sm.zero).name,[⟨([[83,109,97,108,108],[73,110,116],[120],[71,114,101,101,110]]:List (List UInt8)).getD (ah l 2 4).toNat [],(ah l 3 2==1),bA l 1 5⟩]⟩ else if q=11 then s.sums.set (0+(((s.sums.length:Nat):Int) - 1).toNat) ⟨(s.sums.getD (0+(((s.sums.length:Nat):Int) - 1).toNat) Sm.zero).name,[]⟩ else s.sums
def eF (q:Int) (s:Sc) (l:List Int):List Tb:=if q=13 then s.tabs++[bT s l] else s.tabs
def ff (s:Sc) (l:List Int):Sc:=⟨ic (ah l 0 14) s l,(eF (ah l 0 14) s l).set (0+bI s l) ⟨jj (ah l 0 14) s l,gw (ah l 0 14) s l,lS (ah l 0 14) s l,kL (ah l 0 14) s l,c4 (ah l 0 14) s l⟩⟩
theorem Tb.v_vJ (t:Tb):t.v=t.v:=rfl
theorem I6 (t:Tb):(Tb.v t).cells.length=13/\(Tb.v t).cells.all aa.cellOk=true:=⟨rfl,rfl⟩
theorem Ep (p q:Tb):(Tb.v p).withCells (Tb.v q).cells=some (Tb.v q):=rfl
theorem Ia (t:List UInt8):(aa.str t).cells.length=1/\(aa.str t).cells.all aa.cellOk=true:=⟨rfl,rfl⟩
theorem Gq (p q:List UInt8):(aa.str p).withCells (aa.str q).cells=some (aa.str q):=rfl
end Go.Proofs.YtcpklndelobigaaGreatDoor
