/- The leaves at the names and checks of the generators. No condition. -/
import Derived.Test.YtcpklndelobigaaGreatDoorQG
set_option linter.all false
namespace Go.Proofs.YtcpklndelobigaaGreatDoor
open Go.Proofs.YtcpklndelobigaaGreatDoor.Abs
set_option maxRecDepth 20000
set_option maxHeartbeats 4000000
def bG (n:List UInt8):Bool:=([[105,100],[110],[120],[111,112,101,110],[105,116,101,109],[115,104,111,112],[110,97,109,101],[99,111,108,111,114],[97,116],[115,105,122,101],[112,108,97,99,101],[115,101,108,108,115],[99,48],[99,49],[99,50],[99,51],[99,52],[99,53],[99,54],[99,55],[99,56],[114,101,100]]:List (List UInt8)).contains n
def fx (n:List UInt8):Bool:=([[67,111,108,111,114],[83,105,122,101],[90,101,100]]:List (List UInt8)).contains n
def ij (n:List UInt8):Bool:=([[82,101,100],[66,108,117,101],[83,109,97,108,108],[66,105,103],[73,110,116],[71,114,101,101,110]]:List (List UInt8)).contains n
def pL (n:List UInt8):Bool:=([[82,101,100],[66,108,117,101],[83,109,97,108,108],[66,105,103],[71,114,101,101,110]]:List (List UInt8)).contains n
def fh (e:Ex):Int:=if e.kind=16 then 1 else 0
theorem yt {α:Type} {l:List α} {n d:α} (h:n∈l):∃ j,j<l.length/\l.getD j d=n:=by
 obtain ⟨j,hj,rfl⟩:=List.getElem_of_mem h;exact ⟨j,hj,by rw [List.getD_eq_getElem?_getD,List.getElem?_eq_getElem hj];rfl⟩
theorem Xf:ae cx 70 [.int .i64 2,.str (nmA.getD 0 [])] (.bool (bG (nmA.getD 0 [])))/\ae cx 89 [.str (nmA.getD 0 [])] (.bool (bG (nmA.getD 0 []))):=⟨aw kq rfl,aw kq rfl⟩
theorem Wc:ae cx 70 [.int .i64 2,.str (nmA.getD 1 [])] (.bool (bG (nmA.getD 1 [])))/\ae cx 89 [.str (nmA.getD 1 [])] (.bool (bG (nmA.getD 1 []))):=⟨aw kq rfl,aw kq rfl⟩
theorem Xe:ae cx 70 [.int .i64 2,.str (nmA.getD 2 [])] (.bool (bG (nmA.getD 2 [])))/\ae cx 89 [.str (nmA.getD 2 [])] (.bool (bG (nmA.getD 2 []))):=⟨aw kq rfl,aw kq rfl⟩
theorem WW:ae cx 70 [.int .i64 2,.str (nmA.getD 3 [])] (.bool (bG (nmA.getD 3 [])))/\ae cx 89 [.str (nmA.getD 3 [])] (.bool (bG (nmA.getD 3 []))):=⟨aw kq rfl,aw kq rfl⟩
theorem WT:ae cx 70 [.int .i64 2,.str (nmA.getD 4 [])] (.bool (bG (nmA.getD 4 [])))/\ae cx 89 [.str (nmA.getD 4 [])] (.bool (bG (nmA.getD 4 []))):=⟨aw kq rfl,aw kq rfl⟩
theorem WJ:ae cx 70 [.int .i64 2,.str (nmA.getD 5 [])] (.bool (bG (nmA.getD 5 [])))/\ae cx 89 [.str (nmA.getD 5 [])] (.bool (bG (nmA.getD 5 []))):=⟨aw kq rfl,aw kq rfl⟩
theorem WV:ae cx 70 [.int .i64 2,.str (nmA.getD 6 [])] (.bool (bG (nmA.getD 6 [])))/\ae cx 89 [.str (nmA.getD 6 [])] (.bool (bG (nmA.getD 6 []))):=⟨aw kq rfl,aw kq rfl⟩
theorem Wh:ae cx 70 [.int .i64 2,.str (nmA.getD 7 [])] (.bool (bG (nmA.getD 7 [])))/\ae cx 89 [.str (nmA.getD 7 [])] (.bool (bG (nmA.getD 7 []))):=⟨aw kq rfl,aw kq rfl⟩
theorem WG:ae cx 70 [.int .i64 2,.str (nmA.getD 8 [])] (.bool (bG (nmA.getD 8 [])))/\ae cx 89 [.str (nmA.getD 8 [])] (.bool (bG (nmA.getD 8 []))):=⟨aw kq rfl,aw kq rfl⟩
theorem Xc:ae cx 70 [.int .i64 2,.str (nmA.getD 9 [])] (.bool (bG (nmA.getD 9 [])))/\ae cx 89 [.str (nmA.getD 9 [])] (.bool (bG (nmA.getD 9 []))):=⟨aw kq rfl,aw kq rfl⟩
theorem SN:ae cx 70 [.int .i64 2,.str (nmA.getD 10 [])] (.bool (bG (nmA.getD 10 [])))/\ae cx 89 [.str (nmA.getD 10 [])] (.bool (bG (nmA.getD 10 []))):=⟨aw kq rfl,aw kq rfl⟩
theorem TE:ae cx 70 [.int .i64 2,.str (nmA.getD 11 [])] (.bool (bG (nmA.getD 11 [])))/\ae cx 89 [.str (nmA.getD 11 [])] (.bool (bG (nmA.getD 11 []))):=⟨aw kq rfl,aw kq rfl⟩
theorem Vu:ae cx 70 [.int .i64 2,.str (nmA.getD 12 [])] (.bool (bG (nmA.getD 12 [])))/\ae cx 89 [.str (nmA.getD 12 [])] (.bool (bG (nmA.getD 12 []))):=⟨aw kq rfl,aw kq rfl⟩
theorem TT:ae cx 70 [.int .i64 2,.str (nmA.getD 13 [])] (.bool (bG (nmA.getD 13 [])))/\ae cx 89 [.str (nmA.getD 13 [])] (.bool (bG (nmA.getD 13 []))):=⟨aw kq rfl,aw kq rfl⟩
theorem Sh:ae cx 70 [.int .i64 2,.str (nmA.getD 14 [])] (.bool (bG (nmA.getD 14 [])))/\ae cx 89 [.str (nmA.getD 14 [])] (.bool (bG (nmA.getD 14 []))):=⟨aw kq rfl,aw kq rfl⟩
theorem U9:ae cx 70 [.int .i64 2,.str (nmA.getD 15 [])] (.bool (bG (nmA.getD 15 [])))/\ae cx 89 [.str (nmA.getD 15 [])] (.bool (bG (nmA.getD 15 []))):=⟨aw kq rfl,aw kq rfl⟩
theorem Su:ae cx 70 [.int .i64 2,.str (nmA.getD 16 [])] (.bool (bG (nmA.getD 16 [])))/\ae cx 89 [.str (nmA.getD 16 [])] (.bool (bG (nmA.getD 16 []))):=⟨aw kq rfl,aw kq rfl⟩
theorem S7:ae cx 70 [.int .i64 2,.str (nmA.getD 17 [])] (.bool (bG (nmA.getD 17 [])))/\ae cx 89 [.str (nmA.getD 17 [])] (.bool (bG (nmA.getD 17 []))):=⟨aw kq rfl,aw kq rfl⟩
theorem S0:ae cx 70 [.int .i64 2,.str (nmA.getD 18 [])] (.bool (bG (nmA.getD 18 [])))/\ae cx 89 [.str (nmA.getD 18 [])] (.bool (bG (nmA.getD 18 []))):=⟨aw kq rfl,aw kq rfl⟩
theorem UP:ae cx 70 [.int .i64 2,.str (nmA.getD 19 [])] (.bool (bG (nmA.getD 19 [])))/\ae cx 89 [.str (nmA.getD 19 [])] (.bool (bG (nmA.getD 19 []))):=⟨aw kq rfl,aw kq rfl⟩
theorem S1:ae cx 70 [.int .i64 2,.str (nmA.getD 20 [])] (.bool (bG (nmA.getD 20 [])))/\ae cx 89 [.str (nmA.getD 20 [])] (.bool (bG (nmA.getD 20 []))):=⟨aw kq rfl,aw kq rfl⟩
theorem TN:ae cx 70 [.int .i64 2,.str (nmA.getD 21 [])] (.bool (bG (nmA.getD 21 [])))/\ae cx 89 [.str (nmA.getD 21 [])] (.bool (bG (nmA.getD 21 []))):=⟨aw kq rfl,aw kq rfl⟩
theorem Vf:ae cx 70 [.int .i64 2,.str (nmA.getD 22 [])] (.bool (bG (nmA.getD 22 [])))/\ae cx 89 [.str (nmA.getD 22 [])] (.bool (bG (nmA.getD 22 []))):=⟨aw kq rfl,aw kq rfl⟩
theorem U8:ae cx 70 [.int .i64 2,.str (nmA.getD 23 [])] (.bool (bG (nmA.getD 23 [])))/\ae cx 89 [.str (nmA.getD 23 [])] (.bool (bG (nmA.getD 23 []))):=⟨aw kq rfl,aw kq rfl⟩
theorem TG:ae cx 70 [.int .i64 2,.str (nmA.getD 24 [])] (.bool (bG (nmA.getD 24 [])))/\ae cx 89 [.str (nmA.getD 24 [])] (.bool (bG (nmA.getD 24 []))):=⟨aw kq rfl,aw kq rfl⟩
theorem SO:ae cx 70 [.int .i64 2,.str (nmA.getD 25 [])] (.bool (bG (nmA.getD 25 [])))/\ae cx 89 [.str (nmA.getD 25 [])] (.bool (bG (nmA.getD 25 []))):=⟨aw kq rfl,aw kq rfl⟩
theorem UR:ae cx 70 [.int .i64 2,.str (nmA.getD 26 [])] (.bool (bG (nmA.getD 26 [])))/\ae cx 89 [.str (nmA.getD 26 [])] (.bool (bG (nmA.getD 26 []))):=⟨aw kq rfl,aw kq rfl⟩
theorem T5:ae cx 70 [.int .i64 2,.str (nmA.getD 27 [])] (.bool (bG (nmA.getD 27 [])))/\ae cx 89 [.str (nmA.getD 27 [])] (.bool (bG (nmA.getD 27 []))):=⟨aw kq rfl,aw kq rfl⟩
theorem Uc:ae cx 70 [.int .i64 2,.str (nmA.getD 28 [])] (.bool (bG (nmA.getD 28 [])))/\ae cx 89 [.str (nmA.getD 28 [])] (.bool (bG (nmA.getD 28 []))):=⟨aw kq rfl,aw kq rfl⟩
theorem U4:ae cx 70 [.int .i64 2,.str (nmA.getD 29 [])] (.bool (bG (nmA.getD 29 [])))/\ae cx 89 [.str (nmA.getD 29 [])] (.bool (bG (nmA.getD 29 []))):=⟨aw kq rfl,aw kq rfl⟩
theorem nmf:∀ j,j<30->ae cx 70 [.int .i64 2,.str (nmA.getD j [])] (.bool (bG (nmA.getD j [])))/\ae cx 89 [.str (nmA.getD j [])] (.bool (bG (nmA.getD j [])))
 | 0,_=>Xf
 | 1,_=>Wc
 | 2,_=>Xe
 | 3,_=>WW
 | 4,_=>WT
 | 5,_=>WJ
 | 6,_=>WV
 | 7,_=>Wh
 | 8,_=>WG
 | 9,_=>Xc
 | 10,_=>SN
 | 11,_=>TE
 | 12,_=>Vu
 | 13,_=>TT
 | 14,_=>Sh
 | 15,_=>U9
 | 16,_=>Su
 | 17,_=>S7
 | 18,_=>S0
 | 19,_=>UP
 | 20,_=>S1
 | 21,_=>TN
 | 22,_=>Vf
 | 23,_=>U8
 | 24,_=>TG
 | 25,_=>SO
 | 26,_=>UR
 | 27,_=>T5
 | 28,_=>Uc
 | 29,_=>U4
 | j+30,h=>absurd h oq
theorem m7 {n} (h:n∈nmA):ae cx 70 [.int .i64 2,.str n] (.bool (bG n))/\ae cx 89 [.str n] (.bool (bG n)):=by
 obtain ⟨j,hj,rfl⟩:=yt (d:=[]) h;exact nmf j hj
theorem WC:ae cx 69 [.str (smA.getD 0 [])] (.bool (fx (smA.getD 0 [])))/\ae cx 87 [.str (smA.getD 0 [])] (.bool (fx (smA.getD 0 []))):=⟨aw kq rfl,aw kq rfl⟩
theorem Xl:ae cx 69 [.str (smA.getD 1 [])] (.bool (fx (smA.getD 1 [])))/\ae cx 87 [.str (smA.getD 1 [])] (.bool (fx (smA.getD 1 []))):=⟨aw kq rfl,aw kq rfl⟩
theorem Xo:ae cx 69 [.str (smA.getD 2 [])] (.bool (fx (smA.getD 2 [])))/\ae cx 87 [.str (smA.getD 2 [])] (.bool (fx (smA.getD 2 []))):=⟨aw kq rfl,aw kq rfl⟩
theorem W2:ae cx 69 [.str (smA.getD 3 [])] (.bool (fx (smA.getD 3 [])))/\ae cx 87 [.str (smA.getD 3 [])] (.bool (fx (smA.getD 3 []))):=⟨aw kq rfl,aw kq rfl⟩
theorem Wz:ae cx 69 [.str (smA.getD 4 [])] (.bool (fx (smA.getD 4 [])))/\ae cx 87 [.str (smA.getD 4 [])] (.bool (fx (smA.getD 4 []))):=⟨aw kq rfl,aw kq rfl⟩
theorem W4:ae cx 69 [.str (smA.getD 5 [])] (.bool (fx (smA.getD 5 [])))/\ae cx 87 [.str (smA.getD 5 [])] (.bool (fx (smA.getD 5 []))):=⟨aw kq rfl,aw kq rfl⟩
theorem smf:∀ j,j<6->ae cx 69 [.str (smA.getD j [])] (.bool (fx (smA.getD j [])))/\ae cx 87 [.str (smA.getD j [])] (.bool (fx (smA.getD j [])))
 | 0,_=>WC
 | 1,_=>Xl
 | 2,_=>Xo
 | 3,_=>W2
 | 4,_=>Wz
 | 5,_=>W4
 | j+6,h=>absurd h oq
theorem wx {n} (h:n∈smA):ae cx 69 [.str n] (.bool (fx n))/\ae cx 87 [.str n] (.bool (fx n)):=by
 obtain ⟨j,hj,rfl⟩:=yt (d:=[]) h;exact smf j hj
theorem Wp:ae cx 70 [.int .i64 3,.str (ctA.getD 0 [])] (.bool (ij (ctA.getD 0 [])))/\ae cx 87 [.str (ctA.getD 0 [])] (.bool (pL (ctA.getD 0 []))):=⟨aw kq rfl,aw kq rfl⟩
theorem V9:ae cx 70 [.int .i64 3,.str (ctA.getD 1 [])] (.bool (ij (ctA.getD 1 [])))/\ae cx 87 [.str (ctA.getD 1 [])] (.bool (pL (ctA.getD 1 []))):=⟨aw kq rfl,aw kq rfl⟩
theorem Wi:ae cx 70 [.int .i64 3,.str (ctA.getD 2 [])] (.bool (ij (ctA.getD 2 [])))/\ae cx 87 [.str (ctA.getD 2 [])] (.bool (pL (ctA.getD 2 []))):=⟨aw kq rfl,aw kq rfl⟩
theorem WL:ae cx 70 [.int .i64 3,.str (ctA.getD 3 [])] (.bool (ij (ctA.getD 3 [])))/\ae cx 87 [.str (ctA.getD 3 [])] (.bool (pL (ctA.getD 3 []))):=⟨aw kq rfl,aw kq rfl⟩
theorem Xg:ae cx 70 [.int .i64 3,.str (ctA.getD 4 [])] (.bool (ij (ctA.getD 4 [])))/\ae cx 87 [.str (ctA.getD 4 [])] (.bool (pL (ctA.getD 4 []))):=⟨aw kq rfl,aw kq rfl⟩
theorem V7:ae cx 70 [.int .i64 3,.str (ctA.getD 5 [])] (.bool (ij (ctA.getD 5 [])))/\ae cx 87 [.str (ctA.getD 5 [])] (.bool (pL (ctA.getD 5 []))):=⟨aw kq rfl,aw kq rfl⟩
theorem WA:ae cx 70 [.int .i64 3,.str (ctA.getD 6 [])] (.bool (ij (ctA.getD 6 [])))/\ae cx 87 [.str (ctA.getD 6 [])] (.bool (pL (ctA.getD 6 []))):=⟨aw kq rfl,aw kq rfl⟩
theorem ctf:∀ j,j<7->ae cx 70 [.int .i64 3,.str (ctA.getD j [])] (.bool (ij (ctA.getD j [])))/\ae cx 87 [.str (ctA.getD j [])] (.bool (pL (ctA.getD j [])))
 | 0,_=>Wp
 | 1,_=>V9
 | 2,_=>Wi
 | 3,_=>WL
 | 4,_=>Xg
 | 5,_=>V7
 | 6,_=>WA
 | j+7,h=>absurd h oq
theorem vj {n} (h:n∈ctA):ae cx 70 [.int .i64 3,.str n] (.bool (ij n))/\ae cx 87 [.str n] (.bool (pL n)):=by
 obtain ⟨j,hj,rfl⟩:=yt (d:=[]) h;exact ctf j hj
abbrev CN :=exA.getD 0 Ex.zero
theorem Xr:ae cx 77 [CN.v] (.int .i64 (fh CN))/\ae cx 90 [CN.v] (.int .i64 (fh CN))/\ae cx 81 [CN.v] (CN.v)/\ae cx 43 [CN.v] (.bool true):=⟨aw kq rfl,aw kq rfl,aw kq rfl,aw kq rfl⟩
abbrev C5 :=exA.getD 1 Ex.zero
theorem Wu:ae cx 77 [C5.v] (.int .i64 (fh C5))/\ae cx 90 [C5.v] (.int .i64 (fh C5))/\ae cx 81 [C5.v] (C5.v)/\ae cx 43 [C5.v] (.bool true):=⟨aw kq rfl,aw kq rfl,aw kq rfl,aw kq rfl⟩
abbrev Cw :=exA.getD 2 Ex.zero
theorem W6:ae cx 77 [Cw.v] (.int .i64 (fh Cw))/\ae cx 90 [Cw.v] (.int .i64 (fh Cw))/\ae cx 81 [Cw.v] (Cw.v)/\ae cx 43 [Cw.v] (.bool true):=⟨aw kq rfl,aw kq rfl,aw kq rfl,aw kq rfl⟩
abbrev Bx :=exA.getD 3 Ex.zero
theorem Wj:ae cx 77 [Bx.v] (.int .i64 (fh Bx))/\ae cx 90 [Bx.v] (.int .i64 (fh Bx))/\ae cx 81 [Bx.v] (Bx.v)/\ae cx 43 [Bx.v] (.bool true):=⟨aw kq rfl,aw kq rfl,aw kq rfl,aw kq rfl⟩
theorem exf:∀ j,j<4->ae cx 77 [(exA.getD j Ex.zero).v] (.int .i64 (fh (exA.getD j Ex.zero)))/\ae cx 90 [(exA.getD j Ex.zero).v] (.int .i64 (fh (exA.getD j Ex.zero)))/\ae cx 81 [(exA.getD j Ex.zero).v] ((exA.getD j Ex.zero).v)/\ae cx 43 [(exA.getD j Ex.zero).v] (.bool true)
 | 0,_=>Xr
 | 1,_=>Wu
 | 2,_=>W6
 | 3,_=>Wj
 | j+4,h=>absurd h oq
theorem sP {n} (h:n∈exA):ae cx 77 [n.v] (.int .i64 (fh n))/\ae cx 90 [n.v] (.int .i64 (fh n))/\ae cx 81 [n.v] (n.v)/\ae cx 43 [n.v] (.bool true):=by
 obtain ⟨j,hj,rfl⟩:=yt (d:=Ex.zero) h;exact exf j hj
theorem BM:∀ n∈ctA,(pL n || (n==[73,110,116] || (n==[84,101,120,116] || n==[66,111,111,108])))=ij n:=by decide
theorem y8:∀ n∈smA,n∈nmA:=by decide
theorem UQ:∀ e∈exA,e.sz<=100:=by
 intro e h;simp only [exA,List.mem_cons,List.not_mem_nil,or_false] at h;rcases h with rfl|rfl|rfl|rfl <;> decide
theorem xt:∀ n∈nmA,n.length<=20:=by decide
end Go.Proofs.YtcpklndelobigaaGreatDoor
