/- The leaves at the names and checks of the generators. No condition. -/
import Derived.Test.YtcpklndelobigaaGreatDoorQG
set_option linter.all false
namespace Go.Proofs.YtcpklndelobigaaGreatDoor
open Go.Proofs.YtcpklndelobigaaGreatDoor.Abs
set_option maxRecDepth 20000
set_option maxHeartbeats 4000000
def bB (n:List UInt8):Bool:=([[105,100],[110],[120],[111,112,101,110],[105,116,101,109],[115,104,111,112],[110,97,109,101],[99,111,108,111,114],[97,116],[115,105,122,101],[112,108,97,99,101],[115,101,108,108,115],[99,48],[99,49],[99,50],[99,51],[99,52],[99,53],[99,54],[99,55],[99,56],[114,101,100]]:List (List UInt8)).contains n
def i3 (n:List UInt8):Bool:=([[67,111,108,111,114],[83,105,122,101],[90,101,100]]:List (List UInt8)).contains n
def mA (n:List UInt8):Bool:=([[82,101,100],[66,108,117,101],[83,109,97,108,108],[66,105,103],[73,110,116],[71,114,101,101,110]]:List (List UInt8)).contains n
def rj (n:List UInt8):Bool:=([[82,101,100],[66,108,117,101],[83,109,97,108,108],[66,105,103],[71,114,101,101,110]]:List (List UInt8)).contains n
def iq (e:Ex):Int:=if e.kind=16 then 1 else 0
theorem uD {α:Type} {l:List α} {n d:α} (h:n∈l):∃ j,j<l.length/\l.getD j d=n:=by
 obtain ⟨j,hj,rfl⟩:=List.getElem_of_mem h;exact ⟨j,hj,by rw [List.getD_eq_getElem?_getD,List.getElem?_eq_getElem hj];rfl⟩
theorem Q8:af cx 70 [.int .i64 2,.str (nmA.getD 0 [])] (.bool (bB (nmA.getD 0 [])))/\af cx 89 [.str (nmA.getD 0 [])] (.bool (bB (nmA.getD 0 []))):=⟨ay kq rfl,ay kq rfl⟩
theorem Rz:af cx 70 [.int .i64 2,.str (nmA.getD 1 [])] (.bool (bB (nmA.getD 1 [])))/\af cx 89 [.str (nmA.getD 1 [])] (.bool (bB (nmA.getD 1 []))):=⟨ay kq rfl,ay kq rfl⟩
theorem RE:af cx 70 [.int .i64 2,.str (nmA.getD 2 [])] (.bool (bB (nmA.getD 2 [])))/\af cx 89 [.str (nmA.getD 2 [])] (.bool (bB (nmA.getD 2 []))):=⟨ay kq rfl,ay kq rfl⟩
theorem QF:af cx 70 [.int .i64 2,.str (nmA.getD 3 [])] (.bool (bB (nmA.getD 3 [])))/\af cx 89 [.str (nmA.getD 3 [])] (.bool (bB (nmA.getD 3 []))):=⟨ay kq rfl,ay kq rfl⟩
theorem Qf:af cx 70 [.int .i64 2,.str (nmA.getD 4 [])] (.bool (bB (nmA.getD 4 [])))/\af cx 89 [.str (nmA.getD 4 [])] (.bool (bB (nmA.getD 4 []))):=⟨ay kq rfl,ay kq rfl⟩
theorem RW:af cx 70 [.int .i64 2,.str (nmA.getD 5 [])] (.bool (bB (nmA.getD 5 [])))/\af cx 89 [.str (nmA.getD 5 [])] (.bool (bB (nmA.getD 5 []))):=⟨ay kq rfl,ay kq rfl⟩
theorem QC:af cx 70 [.int .i64 2,.str (nmA.getD 6 [])] (.bool (bB (nmA.getD 6 [])))/\af cx 89 [.str (nmA.getD 6 [])] (.bool (bB (nmA.getD 6 []))):=⟨ay kq rfl,ay kq rfl⟩
theorem QT:af cx 70 [.int .i64 2,.str (nmA.getD 7 [])] (.bool (bB (nmA.getD 7 [])))/\af cx 89 [.str (nmA.getD 7 [])] (.bool (bB (nmA.getD 7 []))):=⟨ay kq rfl,ay kq rfl⟩
theorem QH:af cx 70 [.int .i64 2,.str (nmA.getD 8 [])] (.bool (bB (nmA.getD 8 [])))/\af cx 89 [.str (nmA.getD 8 [])] (.bool (bB (nmA.getD 8 []))):=⟨ay kq rfl,ay kq rfl⟩
theorem Q4:af cx 70 [.int .i64 2,.str (nmA.getD 9 [])] (.bool (bB (nmA.getD 9 [])))/\af cx 89 [.str (nmA.getD 9 [])] (.bool (bB (nmA.getD 9 []))):=⟨ay kq rfl,ay kq rfl⟩
theorem PQ:af cx 70 [.int .i64 2,.str (nmA.getD 10 [])] (.bool (bB (nmA.getD 10 [])))/\af cx 89 [.str (nmA.getD 10 [])] (.bool (bB (nmA.getD 10 []))):=⟨ay kq rfl,ay kq rfl⟩
theorem PC:af cx 70 [.int .i64 2,.str (nmA.getD 11 [])] (.bool (bB (nmA.getD 11 [])))/\af cx 89 [.str (nmA.getD 11 [])] (.bool (bB (nmA.getD 11 []))):=⟨ay kq rfl,ay kq rfl⟩
theorem Ou:af cx 70 [.int .i64 2,.str (nmA.getD 12 [])] (.bool (bB (nmA.getD 12 [])))/\af cx 89 [.str (nmA.getD 12 [])] (.bool (bB (nmA.getD 12 []))):=⟨ay kq rfl,ay kq rfl⟩
theorem Ph:af cx 70 [.int .i64 2,.str (nmA.getD 13 [])] (.bool (bB (nmA.getD 13 [])))/\af cx 89 [.str (nmA.getD 13 [])] (.bool (bB (nmA.getD 13 []))):=⟨ay kq rfl,ay kq rfl⟩
theorem NZ:af cx 70 [.int .i64 2,.str (nmA.getD 14 [])] (.bool (bB (nmA.getD 14 [])))/\af cx 89 [.str (nmA.getD 14 [])] (.bool (bB (nmA.getD 14 []))):=⟨ay kq rfl,ay kq rfl⟩
theorem PD:af cx 70 [.int .i64 2,.str (nmA.getD 15 [])] (.bool (bB (nmA.getD 15 [])))/\af cx 89 [.str (nmA.getD 15 [])] (.bool (bB (nmA.getD 15 []))):=⟨ay kq rfl,ay kq rfl⟩
theorem OV:af cx 70 [.int .i64 2,.str (nmA.getD 16 [])] (.bool (bB (nmA.getD 16 [])))/\af cx 89 [.str (nmA.getD 16 [])] (.bool (bB (nmA.getD 16 []))):=⟨ay kq rfl,ay kq rfl⟩
theorem O8:af cx 70 [.int .i64 2,.str (nmA.getD 17 [])] (.bool (bB (nmA.getD 17 [])))/\af cx 89 [.str (nmA.getD 17 [])] (.bool (bB (nmA.getD 17 []))):=⟨ay kq rfl,ay kq rfl⟩
theorem PJ:af cx 70 [.int .i64 2,.str (nmA.getD 18 [])] (.bool (bB (nmA.getD 18 [])))/\af cx 89 [.str (nmA.getD 18 [])] (.bool (bB (nmA.getD 18 []))):=⟨ay kq rfl,ay kq rfl⟩
theorem OF:af cx 70 [.int .i64 2,.str (nmA.getD 19 [])] (.bool (bB (nmA.getD 19 [])))/\af cx 89 [.str (nmA.getD 19 [])] (.bool (bB (nmA.getD 19 []))):=⟨ay kq rfl,ay kq rfl⟩
theorem OA:af cx 70 [.int .i64 2,.str (nmA.getD 20 [])] (.bool (bB (nmA.getD 20 [])))/\af cx 89 [.str (nmA.getD 20 [])] (.bool (bB (nmA.getD 20 []))):=⟨ay kq rfl,ay kq rfl⟩
theorem N5:af cx 70 [.int .i64 2,.str (nmA.getD 21 [])] (.bool (bB (nmA.getD 21 [])))/\af cx 89 [.str (nmA.getD 21 [])] (.bool (bB (nmA.getD 21 []))):=⟨ay kq rfl,ay kq rfl⟩
theorem OS:af cx 70 [.int .i64 2,.str (nmA.getD 22 [])] (.bool (bB (nmA.getD 22 [])))/\af cx 89 [.str (nmA.getD 22 [])] (.bool (bB (nmA.getD 22 []))):=⟨ay kq rfl,ay kq rfl⟩
theorem Ps:af cx 70 [.int .i64 2,.str (nmA.getD 23 [])] (.bool (bB (nmA.getD 23 [])))/\af cx 89 [.str (nmA.getD 23 [])] (.bool (bB (nmA.getD 23 []))):=⟨ay kq rfl,ay kq rfl⟩
theorem M3:af cx 70 [.int .i64 2,.str (nmA.getD 24 [])] (.bool (bB (nmA.getD 24 [])))/\af cx 89 [.str (nmA.getD 24 [])] (.bool (bB (nmA.getD 24 []))):=⟨ay kq rfl,ay kq rfl⟩
theorem Pz:af cx 70 [.int .i64 2,.str (nmA.getD 25 [])] (.bool (bB (nmA.getD 25 [])))/\af cx 89 [.str (nmA.getD 25 [])] (.bool (bB (nmA.getD 25 []))):=⟨ay kq rfl,ay kq rfl⟩
theorem M2:af cx 70 [.int .i64 2,.str (nmA.getD 26 [])] (.bool (bB (nmA.getD 26 [])))/\af cx 89 [.str (nmA.getD 26 [])] (.bool (bB (nmA.getD 26 []))):=⟨ay kq rfl,ay kq rfl⟩
theorem M7:af cx 70 [.int .i64 2,.str (nmA.getD 27 [])] (.bool (bB (nmA.getD 27 [])))/\af cx 89 [.str (nmA.getD 27 [])] (.bool (bB (nmA.getD 27 []))):=⟨ay kq rfl,ay kq rfl⟩
theorem Og:af cx 70 [.int .i64 2,.str (nmA.getD 28 [])] (.bool (bB (nmA.getD 28 [])))/\af cx 89 [.str (nmA.getD 28 [])] (.bool (bB (nmA.getD 28 []))):=⟨ay kq rfl,ay kq rfl⟩
theorem Nv:af cx 70 [.int .i64 2,.str (nmA.getD 29 [])] (.bool (bB (nmA.getD 29 [])))/\af cx 89 [.str (nmA.getD 29 [])] (.bool (bB (nmA.getD 29 []))):=⟨ay kq rfl,ay kq rfl⟩
theorem nmf:∀ j,j<30->af cx 70 [.int .i64 2,.str (nmA.getD j [])] (.bool (bB (nmA.getD j [])))/\af cx 89 [.str (nmA.getD j [])] (.bool (bB (nmA.getD j [])))
 | 0,_=>Q8
 | 1,_=>Rz
 | 2,_=>RE
 | 3,_=>QF
 | 4,_=>Qf
 | 5,_=>RW
 | 6,_=>QC
 | 7,_=>QT
 | 8,_=>QH
 | 9,_=>Q4
 | 10,_=>PQ
 | 11,_=>PC
 | 12,_=>Ou
 | 13,_=>Ph
 | 14,_=>NZ
 | 15,_=>PD
 | 16,_=>OV
 | 17,_=>O8
 | 18,_=>PJ
 | 19,_=>OF
 | 20,_=>OA
 | 21,_=>N5
 | 22,_=>OS
 | 23,_=>Ps
 | 24,_=>M3
 | 25,_=>Pz
 | 26,_=>M2
 | 27,_=>M7
 | 28,_=>Og
 | 29,_=>Nv
 | j+30,h=>absurd h oq
theorem tQ {n} (h:n∈nmA):af cx 70 [.int .i64 2,.str n] (.bool (bB n))/\af cx 89 [.str n] (.bool (bB n)):=by
 obtain ⟨j,hj,rfl⟩:=uD (d:=[]) h;exact nmf j hj
theorem Qy:af cx 69 [.str (smA.getD 0 [])] (.bool (i3 (smA.getD 0 [])))/\af cx 87 [.str (smA.getD 0 [])] (.bool (i3 (smA.getD 0 []))):=⟨ay kq rfl,ay kq rfl⟩
theorem Rp:af cx 69 [.str (smA.getD 1 [])] (.bool (i3 (smA.getD 1 [])))/\af cx 87 [.str (smA.getD 1 [])] (.bool (i3 (smA.getD 1 []))):=⟨ay kq rfl,ay kq rfl⟩
theorem Ry:af cx 69 [.str (smA.getD 2 [])] (.bool (i3 (smA.getD 2 [])))/\af cx 87 [.str (smA.getD 2 [])] (.bool (i3 (smA.getD 2 []))):=⟨ay kq rfl,ay kq rfl⟩
theorem RP:af cx 69 [.str (smA.getD 3 [])] (.bool (i3 (smA.getD 3 [])))/\af cx 87 [.str (smA.getD 3 [])] (.bool (i3 (smA.getD 3 []))):=⟨ay kq rfl,ay kq rfl⟩
theorem Rq:af cx 69 [.str (smA.getD 4 [])] (.bool (i3 (smA.getD 4 [])))/\af cx 87 [.str (smA.getD 4 [])] (.bool (i3 (smA.getD 4 []))):=⟨ay kq rfl,ay kq rfl⟩
theorem RC:af cx 69 [.str (smA.getD 5 [])] (.bool (i3 (smA.getD 5 [])))/\af cx 87 [.str (smA.getD 5 [])] (.bool (i3 (smA.getD 5 []))):=⟨ay kq rfl,ay kq rfl⟩
theorem smf:∀ j,j<6->af cx 69 [.str (smA.getD j [])] (.bool (i3 (smA.getD j [])))/\af cx 87 [.str (smA.getD j [])] (.bool (i3 (smA.getD j [])))
 | 0,_=>Qy
 | 1,_=>Rp
 | 2,_=>Ry
 | 3,_=>RP
 | 4,_=>Rq
 | 5,_=>RC
 | j+6,h=>absurd h oq
theorem Kx {n} (h:n∈smA):af cx 69 [.str n] (.bool (i3 n))/\af cx 87 [.str n] (.bool (i3 n)):=by
 obtain ⟨j,hj,rfl⟩:=uD (d:=[]) h;exact smf j hj
theorem Ra:af cx 70 [.int .i64 3,.str (ctA.getD 0 [])] (.bool (mA (ctA.getD 0 [])))/\af cx 87 [.str (ctA.getD 0 [])] (.bool (rj (ctA.getD 0 []))):=⟨ay kq rfl,ay kq rfl⟩
theorem Rg:af cx 70 [.int .i64 3,.str (ctA.getD 1 [])] (.bool (mA (ctA.getD 1 [])))/\af cx 87 [.str (ctA.getD 1 [])] (.bool (rj (ctA.getD 1 []))):=⟨ay kq rfl,ay kq rfl⟩
theorem Qq:af cx 70 [.int .i64 3,.str (ctA.getD 2 [])] (.bool (mA (ctA.getD 2 [])))/\af cx 87 [.str (ctA.getD 2 [])] (.bool (rj (ctA.getD 2 []))):=⟨ay kq rfl,ay kq rfl⟩
theorem QJ:af cx 70 [.int .i64 3,.str (ctA.getD 3 [])] (.bool (mA (ctA.getD 3 [])))/\af cx 87 [.str (ctA.getD 3 [])] (.bool (rj (ctA.getD 3 []))):=⟨ay kq rfl,ay kq rfl⟩
theorem Qj:af cx 70 [.int .i64 3,.str (ctA.getD 4 [])] (.bool (mA (ctA.getD 4 [])))/\af cx 87 [.str (ctA.getD 4 [])] (.bool (rj (ctA.getD 4 []))):=⟨ay kq rfl,ay kq rfl⟩
theorem RH:af cx 70 [.int .i64 3,.str (ctA.getD 5 [])] (.bool (mA (ctA.getD 5 [])))/\af cx 87 [.str (ctA.getD 5 [])] (.bool (rj (ctA.getD 5 []))):=⟨ay kq rfl,ay kq rfl⟩
theorem RM:af cx 70 [.int .i64 3,.str (ctA.getD 6 [])] (.bool (mA (ctA.getD 6 [])))/\af cx 87 [.str (ctA.getD 6 [])] (.bool (rj (ctA.getD 6 []))):=⟨ay kq rfl,ay kq rfl⟩
theorem ctf:∀ j,j<7->af cx 70 [.int .i64 3,.str (ctA.getD j [])] (.bool (mA (ctA.getD j [])))/\af cx 87 [.str (ctA.getD j [])] (.bool (rj (ctA.getD j [])))
 | 0,_=>Ra
 | 1,_=>Rg
 | 2,_=>Qq
 | 3,_=>QJ
 | 4,_=>Qj
 | 5,_=>RH
 | 6,_=>RM
 | j+7,h=>absurd h oq
theorem Kl {n} (h:n∈ctA):af cx 70 [.int .i64 3,.str n] (.bool (mA n))/\af cx 87 [.str n] (.bool (rj n)):=by
 obtain ⟨j,hj,rfl⟩:=uD (d:=[]) h;exact ctf j hj
theorem QD:af cx 77 [(exA.getD 0 Ex.zero).v] (.int .i64 (iq (exA.getD 0 Ex.zero)))/\af cx 90 [(exA.getD 0 Ex.zero).v] (.int .i64 (iq (exA.getD 0 Ex.zero)))/\af cx 81 [(exA.getD 0 Ex.zero).v] ((exA.getD 0 Ex.zero).v)/\af cx 43 [(exA.getD 0 Ex.zero).v] (.bool true):=⟨ay kq rfl,ay kq rfl,ay kq rfl,ay kq rfl⟩
theorem QG:af cx 77 [(exA.getD 1 Ex.zero).v] (.int .i64 (iq (exA.getD 1 Ex.zero)))/\af cx 90 [(exA.getD 1 Ex.zero).v] (.int .i64 (iq (exA.getD 1 Ex.zero)))/\af cx 81 [(exA.getD 1 Ex.zero).v] ((exA.getD 1 Ex.zero).v)/\af cx 43 [(exA.getD 1 Ex.zero).v] (.bool true):=⟨ay kq rfl,ay kq rfl,ay kq rfl,ay kq rfl⟩
theorem Qv:af cx 77 [(exA.getD 2 Ex.zero).v] (.int .i64 (iq (exA.getD 2 Ex.zero)))/\af cx 90 [(exA.getD 2 Ex.zero).v] (.int .i64 (iq (exA.getD 2 Ex.zero)))/\af cx 81 [(exA.getD 2 Ex.zero).v] ((exA.getD 2 Ex.zero).v)/\af cx 43 [(exA.getD 2 Ex.zero).v] (.bool true):=⟨ay kq rfl,ay kq rfl,ay kq rfl,ay kq rfl⟩
theorem Rx:af cx 77 [(exA.getD 3 Ex.zero).v] (.int .i64 (iq (exA.getD 3 Ex.zero)))/\af cx 90 [(exA.getD 3 Ex.zero).v] (.int .i64 (iq (exA.getD 3 Ex.zero)))/\af cx 81 [(exA.getD 3 Ex.zero).v] ((exA.getD 3 Ex.zero).v)/\af cx 43 [(exA.getD 3 Ex.zero).v] (.bool true):=⟨ay kq rfl,ay kq rfl,ay kq rfl,ay kq rfl⟩
theorem exf:∀ j,j<4->af cx 77 [(exA.getD j Ex.zero).v] (.int .i64 (iq (exA.getD j Ex.zero)))/\af cx 90 [(exA.getD j Ex.zero).v] (.int .i64 (iq (exA.getD j Ex.zero)))/\af cx 81 [(exA.getD j Ex.zero).v] ((exA.getD j Ex.zero).v)/\af cx 43 [(exA.getD j Ex.zero).v] (.bool true)
 | 0,_=>QD
 | 1,_=>QG
 | 2,_=>Qv
 | 3,_=>Rx
 | j+4,h=>absurd h oq
theorem tD {n} (h:n∈exA):af cx 77 [n.v] (.int .i64 (iq n))/\af cx 90 [n.v] (.int .i64 (iq n))/\af cx 81 [n.v] (n.v)/\af cx 43 [n.v] (.bool true):=by
 obtain ⟨j,hj,rfl⟩:=uD (d:=Ex.zero) h;exact exf j hj
theorem Ly:∀ n∈ctA,(rj n || (n==[73,110,116] || (n==[84,101,120,116] || n==[66,111,111,108])))=mA n:=by decide
theorem GU:∀ n∈smA,n∈nmA:=by decide
theorem OK:∀ e∈exA,e.sz<=100:=by
 intro e h;simp only [exA,List.mem_cons,List.not_mem_nil,or_false] at h;rcases h with rfl|rfl|rfl|rfl <;> decide
theorem GD:∀ n∈nmA,n.length<=20:=by decide
end Go.Proofs.YtcpklndelobigaaGreatDoor
