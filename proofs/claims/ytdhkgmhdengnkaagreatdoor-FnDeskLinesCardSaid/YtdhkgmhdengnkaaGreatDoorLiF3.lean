/- What functions of the program compute. -/
import Derived.Test.YtdhkgmhdengnkaaGreatDoorLiF2
namespace Go.Proofs.YtdhkgmhdengnkaaGreatDoor.Li
open Go Go.Proofs.YtdhkgmhdengnkaaGreatDoorPi Go.RowKit
set_option maxRecDepth 100000
set_option linter.unusedVariables false
noncomputable section
namespace qhtz
def f (k:Fu) (a0:List (Int×Int)):Option BA:=PI Cx (k 0) 89 [vl 155 (.pair i6 i6) a0]
def l0 (k:Fu) (x0:BA) (x1:List (Int×Int)) (x2 x3:Int):Option BA:=zap Cx (k 0) 89 [tt,tt,ff,tt,tt] [k 1] ⟨[(3,vs x0),(6,vl 155 (.pair i6 i6) x1),(7,vi x2),(8,vi x3)],[],[]⟩
theorem v {a0:List (Int×Int)} {r} (h:Ev (fun k=>l0 k (bs []) a0 (ln a0) 0) r):Ev (fun k=>f k a0) r:=evf (fun _ _ _=>zac Cx (by kernel_rfl)) h
theorem v0 {x0:BA} {x1:List (Int×Int)} {x2 x3:Int} {r} (h:Ev (fun k=>if (iLt x3 x2) then ix x3 x1 <| if (iGt x3 0) then gd (((ByteArray.size x0)+1)<=maxLen) <| (qihz.f k (rd (0,0) x1 x3).1).bind fun t0 =>
 gd (((ByteArray.size t0)+1)<=maxLen) <| (qihz.f k (rd (0,0) x1 x3).2).bind fun t1 =>
 gd (((ByteArray.size (t0++(bs [43])))+(ByteArray.size t1))<=maxLen) <| gd (((ByteArray.size (x0++(bs [44])))+(ByteArray.size ((t0++(bs [43]))++t1)))<=maxLen) <| l0 k ((x0++(bs [44]))++((t0++(bs [43]))++t1)) x1 x2 (W (x3+1)) else (qihz.f k (rd (0,0) x1 x3).1).bind fun t0 =>
 gd (((ByteArray.size t0)+1)<=maxLen) <| (qihz.f k (rd (0,0) x1 x3).2).bind fun t1 =>
 gd (((ByteArray.size (t0++(bs [43])))+(ByteArray.size t1))<=maxLen) <| gd (((ByteArray.size x0)+(ByteArray.size ((t0++(bs [43]))++t1)))<=maxLen) <| l0 k (x0++((t0++(bs [43]))++t1)) x1 x2 (W (x3+1)) else some x0) r):Ev (fun k=>l0 k x0 x1 x2 x3) r:=evl [] 0 (fun _ _ _=>by kernel_rfl) h
end qhtz
namespace qccz
def f (k:Fu) (a0:List Int) (a1 a2:Int):Option (BA×((List Int)×(Int×Int))):=PI Cx (k 0) 46 [va [.sl 5 (.int .u8) a0,ci a1,.int .u64 a2]]
theorem v {a0:List Int} {a1 a2:Int} {r} (h:Ev (fun k=>(qdpz.f a0 a1 a2 12).bind fun t0 =>
 if (t0.1 == 0) then (qblz.f t0.2.1 t0.2.2.1 t0.2.2.2).bind fun t1 =>
 (qblz.f t1.2.1 t1.2.2.1 t1.2.2.2).bind fun t2 =>
 (qhbz.f k [t1.1,t2.1]).bind fun t3 =>
 gd ((8+(ByteArray.size t3))<=maxLen) <| some (((bs [119,97,108,107,101,114,115,32])++t3),t2.2) else if (t0.1 == 1) then (qblz.f t0.2.1 t0.2.2.1 t0.2.2.2).bind fun t1 =>
 (qhbz.f k [t1.1]).bind fun t2 =>
 gd ((4+(ByteArray.size t2))<=maxLen) <| some (((bs [97,100,100,32])++t2),t1.2) else if (t0.1 == 2) then (qewz.f t0.2.1 t0.2.2.1 t0.2.2.2 [(bs [114,105,110,103,32]),(bs [116,117,114,110,32]),(bs [100,114,111,112,32]),(bs [97,116,32])]).bind fun t1 =>
 (qdpz.f t1.2.1 t1.2.2.1 t1.2.2.2 13).bind fun t2 =>
 (qihz.f k t2.1).bind fun t3 =>
 gd (((ByteArray.size t1.1)+(ByteArray.size t3))<=maxLen) <| some ((t1.1++t3),t2.2) else if (t0.1 == 3) then (qewz.f t0.2.1 t0.2.2.1 t0.2.2.2 [(bs [109,101,101,116,32]),(bs [119,104,101,114,101,32]),(bs [97,114,111,117,110,100,32]),(bs [103,97,112,32]),(bs [112,108,97,99,101,115,32])]).bind fun t1 =>
 (qdpz.f t1.2.1 t1.2.2.1 t1.2.2.2 3).bind fun t2 =>
 (qihz.f k t2.1).bind fun t3 =>
 gd (((ByteArray.size t1.1)+(ByteArray.size t3))<=maxLen) <| gd (((ByteArray.size (t1.1++t3))+1)<=maxLen) <| (qdpz.f t2.2.1 t2.2.2.1 t2.2.2.2 3).bind fun t4 =>
 (qihz.f k t4.1).bind fun t5 =>
 gd (((ByteArray.size ((t1.1++t3)++(bs [32])))+(ByteArray.size t5))<=maxLen) <| some ((((t1.1++t3)++(bs [32]))++t5),t4.2) else if (t0.1 == 4) then (qewz.f t0.2.1 t0.2.2.1 t0.2.2.2 [(bs [109,101,101,116,32]),(bs [119,104,101,114,101,32]),(bs [97,114,111,117,110,100,32]),(bs [103,97,112,32]),(bs [112,108,97,99,101,115,32])]).bind fun t1 =>
 (qdpz.f t1.2.1 t1.2.2.1 t1.2.2.2 3).bind fun t2 =>
 (qihz.f k t2.1).bind fun t3 =>
 gd (((ByteArray.size t1.1)+(ByteArray.size t3))<=maxLen) <| gd (((ByteArray.size (t1.1++t3))+1)<=maxLen) <| (qdpz.f t2.2.1 t2.2.2.1 t2.2.2.2 3).bind fun t4 =>
 (qihz.f k t4.1).bind fun t5 =>
 gd (((ByteArray.size ((t1.1++t3)++(bs [32])))+(ByteArray.size t5))<=maxLen) <| some ((((t1.1++t3)++(bs [32]))++t5),t4.2) else if (t0.1 == 5) then (qewz.f t0.2.1 t0.2.2.1 t0.2.2.2 [(bs [109,101,101,116,32]),(bs [119,104,101,114,101,32]),(bs [97,114,111,117,110,100,32]),(bs [103,97,112,32]),(bs [112,108,97,99,101,115,32])]).bind fun t1 =>
 (qdpz.f t1.2.1 t1.2.2.1 t1.2.2.2 3).bind fun t2 =>
 (qihz.f k t2.1).bind fun t3 =>
 gd (((ByteArray.size t1.1)+(ByteArray.size t3))<=maxLen) <| gd (((ByteArray.size (t1.1++t3))+1)<=maxLen) <| (qdpz.f t2.2.1 t2.2.2.1 t2.2.2.2 3).bind fun t4 =>
 (qihz.f k t4.1).bind fun t5 =>
 gd (((ByteArray.size ((t1.1++t3)++(bs [32])))+(ByteArray.size t5))<=maxLen) <| some ((((t1.1++t3)++(bs [32]))++t5),t4.2) else if (t0.1 == 6) then (qewz.f t0.2.1 t0.2.2.1 t0.2.2.2 [(bs [115,104,111,119]),(bs [112,97,105,114,115]),(bs [102,105,114,115,116]),(bs [108,101,97,100]),(bs [108,97,115,116]),(bs [115,116,97,114,116])]).bind fun t1 =>
 some t1 else if (t0.1 == 7) then (qewz.f t0.2.1 t0.2.2.1 t0.2.2.2 [(bs [115,104,111,119]),(bs [112,97,105,114,115]),(bs [102,105,114,115,116]),(bs [108,101,97,100]),(bs [108,97,115,116]),(bs [115,116,97,114,116])]).bind fun t1 =>
 some t1 else if (t0.1 == 8) then (qewz.f t0.2.1 t0.2.2.1 t0.2.2.2 [(bs [115,104,111,119]),(bs [112,97,105,114,115]),(bs [102,105,114,115,116]),(bs [108,101,97,100]),(bs [108,97,115,116]),(bs [115,116,97,114,116])]).bind fun t1 =>
 some t1 else if (t0.1 == 9) then (qewz.f t0.2.1 t0.2.2.1 t0.2.2.2 [(bs [100,111,103,32]),(bs [114,117,110,32])]).bind fun t1 =>
 (qbmz.f t1.2.1 t1.2.2.1 t1.2.2.2).bind fun t2 =>
 (qhsz.f k t2.1.1 t2.1.2.1 t2.1.2.2.1 t2.1.2.2.2).bind fun t3 =>
 gd (((ByteArray.size t1.1)+(ByteArray.size t3))<=maxLen) <| some ((t1.1++t3),t2.2) else if (t0.1 == 10) then (qbpz.f k t0.2.1 t0.2.2.1 t0.2.2.2).bind fun t1 =>
 (qhfz.f k t1.1).bind fun t2 =>
 gd ((5+(ByteArray.size t2))<=maxLen) <| (qbpz.f k t1.2.1 t1.2.2.1 t1.2.2.2).bind fun t3 =>
 (qhfz.f k t3.1).bind fun t4 =>
 gd ((5+(ByteArray.size t4))<=maxLen) <| (qbpz.f k t3.2.1 t3.2.2.1 t3.2.2.2).bind fun t5 =>
 (qhfz.f k t5.1).bind fun t6 =>
 gd ((5+(ByteArray.size t6))<=maxLen) <| gd (((ByteArray.size ((bs [110,101,101,100,32])++t6))+5)<=maxLen) <| (qbkz.f k t5.2.1 t5.2.2.1 t5.2.2.2).bind fun t7 =>
 (qhtz.f k t7.1).bind fun t8 =>
 gd ((7+(ByteArray.size t8))<=maxLen) <| (qbkz.f k t7.2.1 t7.2.2.1 t7.2.2.2).bind fun t9 =>
 (qhtz.f k t9.1).bind fun t10 =>
 gd ((7+(ByteArray.size t10))<=maxLen) <| (qbmz.f t9.2.1 t9.2.2.1 t9.2.2.2).bind fun t11 =>
 (qhsz.f k t11.1.1 t11.1.2.1 t11.1.2.2.1 t11.1.2.2.2).bind fun t12 =>
 gd ((6+(ByteArray.size t12))<=maxLen) <| gd (((ByteArray.size ((bs [97,112,97,114,116,32])++t12))+2)<=maxLen) <| (qewz.f t11.2.1 t11.2.2.1 t11.2.2.2 [((bs [109,101,97,110,32])++t2),((bs [116,105,109,101,32])++t4),(((bs [110,101,101,100,32])++t6)++(bs [32,50,48,32,52])),((bs [118,105,115,105,116,115,32])++t8),((bs [103,117,105,100,101,115,32])++t10),(((bs [97,112,97,114,116,32])++t12)++(bs [32,50])),(bs [99,104,97,110,99,101,32,57,32,50,32,51])]).bind fun t13 =>
 some t13 else (qewz.f t0.2.1 t0.2.2.1 t0.2.2.2 [(bs [102,108,121]),(bs []),(bs [115,104,111,119,32]),(bs [119,97,108,107,101,114,115,32,120]),(bs [119,97,108,107,101,114,115,32,48,58,45,48]),(bs [119,97,108,107,101,114,115,32,49,48,48,49,58,48]),(bs [114,105,110,103,32,48]),(bs [114,105,110,103,32,49,48,48,49]),(bs [116,117,114,110,32,57]),(bs [100,114,111,112,32,57]),(bs [109,101,101,116,32,48]),(bs [109,101,101,116,32,48,32,57]),(bs [112,108,97,99,101,115,32,48,32,48]),(bs [97,116,32,120]),(bs [100,111,103,32,49,45,49,45,49,45,49]),(bs [97,112,97,114,116,32,54,48,45,50,45,52,45,54,32,55]),(bs [109,101,97,110,32,49,47,48]),(bs [110,101,101,100,32,54,48,47,51,48,32,54,48,32,54,48]),(bs [118,105,115,105,116,115,32,49]),(bs [99,104,97,110,99,101,32,48,32,49,32,49])]).bind fun t1 =>
 some t1) r):Ev (fun k=>f k a0 a1 a2) r:=evf (fun _ _ h=>by rw [<- qdpz.k (dl h),<- qblz.k (dl h),<- qewz.k (dl h),<- qbmz.k (dl h)]; exact zac Cx (by kernel_rfl)) h
end qccz
namespace qcfz
def f (k:Fu) (a0:List Int):Option (((List (Int×Int))×Int)×BA):=PI Cx (k 0) 16 [vl 5 (.int .u8) a0]
theorem v {a0:List Int} {r} (h:Ev (fun k=>(qdqz.f k a0 0 0).bind fun t0 =>
 (qeuz.f t0.2.1 t0.2.2.1 t0.2.2.2 20).bind fun t1 =>
 if t1.1 then (qccz.f k t1.2.1 t1.2.2.1 t1.2.2.2).bind fun t2 =>
 gd (((ByteArray.size t2.1)+1)<=maxLen) <| some (t0.1,(t2.1++(bs [10]))) else (qccz.f k t1.2.1 t1.2.2.1 t1.2.2.2).bind fun t2 =>
 some (t0.1,t2.1)) r):Ev (fun k=>f k a0) r:=evf (fun _ _ h=>by rw [<- qeuz.k (dl h)]; exact zac Cx (by kernel_rfl)) h
end qcfz
namespace qdjz
abbrev P:=BA->BA->Option Bool
def f:P:=fun a0 a1=>zml a0 a1
theorem k {K:Nat} (h:1<=K):(fun a0 a1=>PI Cx K 47 [vs a0,vs a1]:P)=f:=by
 obtain ⟨K,rfl⟩:=zae h
 funext a0 a1
 exact zac Cx (by kernel_rfl)
end qdjz
namespace qfbz
def f (k:Fu) (a0:List (Int×Int)) (a1:Int) (a2:BA):Option (((List (Int×Int))×Int)×(BA×Bool)):=PI Cx (k 0) 17 [va [.sl 74 (.pair i6 i6) a0,ci a1],vs a2]
theorem v {a0:List (Int×Int)} {a1:Int} {a2:BA} {r} (h:Ev (fun k=>(qglz.f k a0 a1).bind fun t0 =>
 if (!t0) then some (([],0),((bs []),false)) else if (iGt (sln a2) 3000) then some (([],0),((bs []),false)) else (qdjz.f a2 (bs [10])).bind fun t1 =>
 if t1 then some (([],0),((bs []),false)) else (qfaz.f k a0 a1 a2).bind fun t2 =>
 (qbfz.f t2.1.1).bind fun t3 =>
 some ((t3,t2.1.2),(t2.2,true))) r):Ev (fun k=>f k a0 a1 a2) r:=evf (fun _ _ h=>by rw [<- qdjz.k (dl h),<- qbfz.k (dl h)]; exact zac Cx (by kernel_rfl)) h
end qfbz
namespace qilz
abbrev P:=Int->Int->Int->Option Bool
def f:P:=fun a0 a1 a2=>if (iGe a0 a1) then some (iLe a0 a2) else some false
theorem k {K:Nat} (h:1<=K):(fun a0 a1 a2=>PI Cx K 97 [vi a0,vi a1,vi a2]:P)=f:=by
 obtain ⟨K,rfl⟩:=zae h
 funext a0 a1 a2
 exact zac Cx (by kernel_rfl)
end qilz
namespace qgsz
abbrev P:=Int->Int->Option Bool
def f:P:=fun a0 a1=>(qilz.f a0 (-1000) 1000).bind fun t0 =>
 if t0 then (qilz.f a1 (-100) 100).bind fun t1 =>
 some t1 else some false
theorem k {K:Nat} (h:2<=K):(fun a0 a1=>PI Cx K 143 [va [ci a0,ci a1]]:P)=f:=by
 obtain ⟨K,rfl⟩:=zae h
 funext a0 a1
 unfold f
 rw [<- qilz.k (dk h)]
 exact zac Cx (by kernel_rfl)
end qgsz
namespace qhyz
def f (k:Fu) (a0:List (Int×Int)):Option Bool:=PI Cx (k 0) 96 [vl 74 (.pair i6 i6) a0]
def l0 (k:Fu) (x0:List (Int×Int)) (x1 x2:Int):Option Bool:=zap Cx (k 0) 96 [tt,tt,ff,tt,tt] [k 1] ⟨[(9,vl 74 (.pair i6 i6) x0),(10,vi x1),(11,vi x2)],[],[]⟩
theorem v {a0:List (Int×Int)} {r} (h:Ev (fun k=>(qilz.f (ln a0) 1 8).bind fun t0 =>
 if (!t0) then some false else l0 k a0 (ln a0) 0) r):Ev (fun k=>f k a0) r:=evf (fun _ _ h=>by rw [<- qilz.k (dl h)]; exact zac Cx (by kernel_rfl)) h
theorem v0 {x0:List (Int×Int)} {x1 x2:Int} {r} (h:Ev (fun k=>if (iLt x2 x1) then ix x2 x0 <| (qgsz.f (rd (0,0) x0 x2).1 (rd (0,0) x0 x2).2).bind fun t0 =>
 if (!t0) then some false else l0 k x0 x1 (W (x2+1)) else some true) r):Ev (fun k=>l0 k x0 x1 x2) r:=evl [] 0 (fun _ _ h=>by rw [<- qgsz.k (dl h)]; kernel_rfl) h
end qhyz
namespace qgqz
def f (k:Fu) (a0:List (Int×Int)) (a1:Int):Option Bool:=PI Cx (k 0) 50 [va [.sl 74 (.pair i6 i6) a0,ci a1]]
theorem v {a0:List (Int×Int)} {a1:Int} {r} (h:Ev (fun k=>(qhyz.f k a0).bind fun t0 =>
 if t0 then (qilz.f a1 1 1000).bind fun t1 =>
 some t1 else some false) r):Ev (fun k=>f k a0 a1) r:=evf (fun _ _ h=>by rw [<- qilz.k (dl h)]; exact zac Cx (by kernel_rfl)) h
end qgqz
namespace qfqz
def f (k:Fu) (a0:BA) (a1:Int):Option (List BA):=PI Cx (k 0) 51 [vs a0,.sv (.one (.int .u8 a1))]
def l0 (k:Fu) (x0:BA) (x1 x2 x3:Int) (x4:List BA):Option (List BA):=zap Cx (k 0) 51 [tt,tt,tt,ff,tt,tt] [k 1] ⟨[(0,vs x0),(1,.sv (.one (.int .u8 x1))),(5,vf 1000000005000),(6,vi x2),(7,vi x3)],[(1000000005000,.row 9 .str x4 .own)],[]⟩
theorem v {a0:BA} {a1:Int} {r} (h:Ev (fun k=>l0 k a0 a1 0 0 []) r):Ev (fun k=>f k a0 a1) r:=evf (fun _ _ _=>zac Cx (by kernel_rfl)) h
theorem v0 {x0:BA} {x1 x2 x3:Int} {x4:List BA} {r} (h:Ev (fun k=>if (iLt x3 (sln x0)) then gd (0<=x3) <| gd (x3 < (sln x0)) <| if ((bat x0 x3) == x1) then gd (0<=x2) <| gd (x2<=x3) <| gd (x3<=(sln x0)) <| gd (((lnN x4)+1)<=8796093022208) <| l0 k x0 x1 (W (x3+1)) (W (x3+1)) (x4++[(ByteArray.extract x0 (Int.toNat x2) (Int.toNat x3))]) else l0 k x0 x1 x2 (W (x3+1)) x4 else gd (0<=x2) <| gd (x2<=(sln x0)) <| gd (((lnN x4)+1)<=8796093022208) <| some (x4++[(ByteArray.extract x0 (Int.toNat x2) (Int.toNat (sln x0)))])) r):Ev (fun k=>l0 k x0 x1 x2 x3 x4) r:=evl [] 0 (fun _ _ _=>by kernel_rfl) h
end qfqz
namespace qgez
abbrev P:=BA->Option BA
def f:P:=fun a0=>if (seq a0 (bs [115,104,111,119])) then some (bs []) else if (seq a0 (bs [112,97,105,114,115])) then some (bs []) else if (seq a0 (bs [102,105,114,115,116])) then some (bs []) else if (seq a0 (bs [108,101,97,100])) then some (bs []) else if (seq a0 (bs [108,97,115,116])) then some (bs []) else if (seq a0 (bs [115,116,97,114,116])) then some (bs []) else if (seq a0 (bs [114,105,110,103])) then some (bs [110]) else if (seq a0 (bs [116,117,114,110])) then some (bs [110]) else if (seq a0 (bs [100,114,111,112])) then some (bs [110]) else if (seq a0 (bs [97,116])) then some (bs [110]) else if (seq a0 (bs [109,101,101,116])) then some (bs [110,110]) else if (seq a0 (bs [119,104,101,114,101])) then some (bs [110,110]) else if (seq a0 (bs [97,114,111,117,110,100])) then some (bs [110,110]) else if (seq a0 (bs [103,97,112])) then some (bs [110,110]) else if (seq a0 (bs [112,108,97,99,101,115])) then some (bs [110,110]) else if (seq a0 (bs [99,104,97,110,99,101])) then some (bs [110,110,110]) else if (seq a0 (bs [119,97,108,107,101,114,115])) then some (bs [119]) else if (seq a0 (bs [97,100,100])) then some (bs [119]) else if (seq a0 (bs [100,111,103])) then some (bs [99]) else if (seq a0 (bs [114,117,110])) then some (bs [99]) else if (seq a0 (bs [97,112,97,114,116])) then some (bs [99,110]) else if (seq a0 (bs [109,101,97,110])) then some (bs [108]) else if (seq a0 (bs [116,105,109,101])) then some (bs [108]) else if (seq a0 (bs [110,101,101,100])) then some (bs [108,110,110]) else if (seq a0 (bs [118,105,115,105,116,115])) then some (bs [118]) else if (seq a0 (bs [103,117,105,100,101,115])) then some (bs [118]) else some (bs [63])
theorem k {K:Nat} (h:1<=K):(fun a0=>PI Cx K 144 [vs a0]:P)=f:=by
 obtain ⟨K,rfl⟩:=zae h
 funext a0
 exact zac Cx (by kernel_rfl)
end qgez
namespace qhqz
def f (k:Fu) (a0:BA):Option Int:=PI Cx (k 0) 145 [vs a0]
def l0 (k:Fu) (x0:BA) (x1 x2:Int):Option Int:=zap Cx (k 0) 145 [tt,tt,tt,ff,tt,tt] [k 1] ⟨[(0,vs x0),(3,vi x1),(4,vi x2)],[],[]⟩
theorem v {a0:BA} {r} (h:Ev (fun k=>(qilz.f (sln a0) 1 6).bind fun t0 =>
 if (!t0) then some (-1) else gd (0 < (sln a0)) <| if ((bat a0 0) == 48) then if (iGt (sln a0) 1) then some (-1) else l0 k a0 0 0 else l0 k a0 0 0) r):Ev (fun k=>f k a0) r:=evf (fun _ _ h=>by rw [<- qilz.k (dl h)]; exact zac Cx (by kernel_rfl)) h
theorem v0 {x0:BA} {x1 x2:Int} {r} (h:Ev (fun k=>if (iLt x2 (sln x0)) then gd (0<=x2) <| gd (x2 < (sln x0)) <| if (iLt (bat x0 x2) 48) then some (-1) else gd (0<=x2) <| gd (x2 < (sln x0)) <| if (iGt (bat x0 x2) 57) then some (-1) else gd (0<=x2) <| gd (x2 < (sln x0)) <| l0 k x0 (W ((W (10*x1))+(W (IntKind.wrap .u8 ((bat x0 x2)-48))))) (W (x2+1)) else some x1) r):Ev (fun k=>l0 k x0 x1 x2) r:=evl [] 0 (fun _ _ _=>by kernel_rfl) h
end qhqz
namespace qgtz
def f (k:Fu) (a0:BA):Option (Int×Bool):=PI Cx (k 0) 205 [vs a0]
theorem v {a0:BA} {r} (h:Ev (fun k=>if (iGt (sln a0) 1) then gd (0 < (sln a0)) <| if ((bat a0 0) == 45) then gd (1<=(sln a0)) <| (qhqz.f k (ByteArray.extract a0 1 (Int.toNat (sln a0)))).bind fun t0 =>
 some ((W (0-t0)),(iGt t0 0)) else (qhqz.f k a0).bind fun t0 =>
 some (t0,(iGe t0 0)) else (qhqz.f k a0).bind fun t0 =>
 some (t0,(iGe t0 0))) r):Ev (fun k=>f k a0) r:=evf (fun _ _ _=>zac Cx (by kernel_rfl)) h
end qgtz
namespace qfuz
def f (k:Fu) (a0:BA):Option ((List (Int×Int))×Bool):=PI Cx (k 0) 146 [vs a0]
def l0 (k:Fu) (x0:List BA) (x1 x2:Int) (x3:List (Int×Int)):Option ((List (Int×Int))×Bool):=zap Cx (k 0) 146 [tt,tt,tt,ff,tt,tt] [k 1] ⟨[(4,vf 1000000004000),(16,vl 9 .str x0),(17,vi x1),(18,vi x2)],[(1000000004000,.row 74 (.pair i6 i6) x3 .own)],[]⟩
theorem v {a0:BA} {r} (h:Ev (fun k=>if (iGt (sln a0) 100) then some ([],false) else (qfqz.f k a0 44).bind fun t0 =>
 l0 k t0 (ln t0) 0 []) r):Ev (fun k=>f k a0) r:=evf (fun _ _ _=>zac Cx (by kernel_rfl)) h
theorem v0 {x0:List BA} {x1 x2:Int} {x3:List (Int×Int)} {r} (h:Ev (fun k=>if (iLt x2 x1) then ix x2 x0 <| (qfqz.f k (rd (bs []) x0 x2) 58).bind fun t0 =>
 if ((ln t0) != 2) then some ([],false) else gd (0 < (ln t0)) <| (qgtz.f k (rd (bs []) t0 0)).bind fun t1 =>
 gd (1 < (ln t0)) <| (qgtz.f k (rd (bs []) t0 1)).bind fun t2 =>
 if (!t1.2) then some ([],false) else if (!t2.2) then some ([],false) else gd (((lnN x3)+1)<=8796093022208) <| l0 k x0 x1 (W (x2+1)) (x3++[(t1.1,t2.1)]) else (qhyz.f k x3).bind fun t0 =>
 if (!t0) then some ([],false) else some (x3,true)) r):Ev (fun k=>l0 k x0 x1 x2 x3) r:=evl [] 0 (fun _ _ _=>by kernel_rfl) h
end qfuz
namespace qguz
abbrev P:=Int->Int->Int->Int->Option Bool
def f:P:=fun a0 a1 a2 a3=>(qilz.f a0 1 1000).bind fun t0 =>
 if t0 then (qilz.f a1 0 20).bind fun t1 =>
 if t1 then (qilz.f a2 0 20).bind fun t2 =>
 if t2 then if (iGt (W (a1+a2)) 0) then (qgvz.f a1 a2).bind fun t3 =>
 (qilz.f a3 (W (t3+1)) 20).bind fun t4 =>
 some t4 else some false else some false else some false else some false
theorem k {K:Nat} (h:2<=K):(fun a0 a1 a2 a3=>PI Cx K 206 [va [ci a0,ci a1,ci a2,ci a3]]:P)=f:=by
 obtain ⟨K,rfl⟩:=zae h
 funext a0 a1 a2 a3
 unfold f
 rw [<- qilz.k (dk h),<- qgvz.k (dk h)]
 exact zac Cx (by kernel_rfl)
end qguz
namespace qfpz
def f (k:Fu) (a0:BA):Option ((Int×(Int×(Int×Int)))×Bool):=PI Cx (k 0) 147 [vs a0]
theorem v {a0:BA} {r} (h:Ev (fun k=>(qfqz.f k a0 45).bind fun t0 =>
 if (iGt (sln a0) 16) then some ((0,(0,(0,0))),false) else if ((ln t0) != 4) then some ((0,(0,(0,0))),false) else gd (0 < (ln t0)) <| (qhqz.f k (rd (bs []) t0 0)).bind fun t1 =>
 gd (1 < (ln t0)) <| (qhqz.f k (rd (bs []) t0 1)).bind fun t2 =>
 gd (2 < (ln t0)) <| (qhqz.f k (rd (bs []) t0 2)).bind fun t3 =>
 gd (3 < (ln t0)) <| (qhqz.f k (rd (bs []) t0 3)).bind fun t4 =>
 (qguz.f t1 t2 t3 t4).bind fun t5 =>
 if (!t5) then some ((0,(0,(0,0))),false) else some ((t1,(t2,(t3,t4))),true)) r):Ev (fun k=>f k a0) r:=evf (fun _ _ h=>by rw [<- qguz.k (dl h)]; exact zac Cx (by kernel_rfl)) h
end qfpz
namespace qhpz
def f (k:Fu) (a0:List (Int×Int)):Option Bool:=PI Cx (k 0) 207 [vl 88 (.pair i6 i6) a0]
def l0 (k:Fu) (x0:List (Int×Int)) (x1 x2:Int):Option Bool:=zap Cx (k 0) 207 [tt,tt,ff,tt,tt] [k 1] ⟨[(9,vl 88 (.pair i6 i6) x0),(10,vi x1),(11,vi x2)],[],[]⟩
theorem v {a0:List (Int×Int)} {r} (h:Ev (fun k=>(qilz.f (ln a0) 1 5).bind fun t0 =>
 if (!t0) then some false else l0 k a0 (ln a0) 0) r):Ev (fun k=>f k a0) r:=evf (fun _ _ h=>by rw [<- qilz.k (dl h)]; exact zac Cx (by kernel_rfl)) h
theorem v0 {x0:List (Int×Int)} {x1 x2:Int} {r} (h:Ev (fun k=>if (iLt x2 x1) then ix x2 x0 <| (qilz.f (rd (0,0) x0 x2).1 1 1000).bind fun t0 =>
 if (!t0) then some false else (qilz.f (rd (0,0) x0 x2).2 1 100).bind fun t1 =>
 if (!t1) then some false else l0 k x0 x1 (W (x2+1)) else some true) r):Ev (fun k=>l0 k x0 x1 x2) r:=evl [] 0 (fun _ _ h=>by rw [<- qilz.k (dl h)]; kernel_rfl) h
end qhpz
namespace qgaz
def f (k:Fu) (a0:BA):Option ((List (Int×Int))×Bool):=PI Cx (k 0) 148 [vs a0]
def l0 (k:Fu) (x0:List BA) (x1 x2:Int) (x3:List (Int×Int)):Option ((List (Int×Int))×Bool):=zap Cx (k 0) 148 [tt,tt,tt,ff,tt,tt] [k 1] ⟨[(4,vf 1000000004000),(12,vl 9 .str x0),(13,vi x1),(14,vi x2)],[(1000000004000,.row 88 (.pair i6 i6) x3 .own)],[]⟩
theorem v {a0:BA} {r} (h:Ev (fun k=>if (iGt (sln a0) 80) then some ([],false) else (qfqz.f k a0 43).bind fun t0 =>
 l0 k t0 (ln t0) 0 []) r):Ev (fun k=>f k a0) r:=evf (fun _ _ _=>zac Cx (by kernel_rfl)) h
theorem v0 {x0:List BA} {x1 x2:Int} {x3:List (Int×Int)} {r} (h:Ev (fun k=>if (iLt x2 x1) then ix x2 x0 <| (qfqz.f k (rd (bs []) x0 x2) 47).bind fun t0 =>
 if ((ln t0) != 2) then some ([],false) else gd (0 < (ln t0)) <| (qhqz.f k (rd (bs []) t0 0)).bind fun t1 =>
 gd (1 < (ln t0)) <| (qhqz.f k (rd (bs []) t0 1)).bind fun t2 =>
 gd (((lnN x3)+1)<=8796093022208) <| l0 k x0 x1 (W (x2+1)) (x3++[(t1,t2)]) else (qhpz.f k x3).bind fun t0 =>
 if (!t0) then some ([],false) else some (x3,true)) r):Ev (fun k=>l0 k x0 x1 x2 x3) r:=evl [] 0 (fun _ _ _=>by kernel_rfl) h
end qgaz
namespace qgrz
def f (k:Fu) (a0:List (Int×Int)):Option Bool:=PI Cx (k 0) 208 [vl 155 (.pair i6 i6) a0]
def l0 (k:Fu) (x0:List (Int×Int)) (x1 x2:Int):Option Bool:=zap Cx (k 0) 208 [tt,tt,ff,tt,tt] [k 1] ⟨[(9,vl 155 (.pair i6 i6) x0),(10,vi x1),(11,vi x2)],[],[]⟩
theorem v {a0:List (Int×Int)} {r} (h:Ev (fun k=>(qilz.f (ln a0) 1 6).bind fun t0 =>
 if (!t0) then some false else l0 k a0 (ln a0) 0) r):Ev (fun k=>f k a0) r:=evf (fun _ _ h=>by rw [<- qilz.k (dl h)]; exact zac Cx (by kernel_rfl)) h
theorem v0 {x0:List (Int×Int)} {x1 x2:Int} {r} (h:Ev (fun k=>if (iLt x2 x1) then ix x2 x0 <| (qilz.f (rd (0,0) x0 x2).1 0 200).bind fun t0 =>
 if (!t0) then some false else (qilz.f (rd (0,0) x0 x2).2 0 200).bind fun t1 =>
 if (!t1) then some false else l0 k x0 x1 (W (x2+1)) else some true) r):Ev (fun k=>l0 k x0 x1 x2) r:=evl [] 0 (fun _ _ h=>by rw [<- qilz.k (dl h)]; kernel_rfl) h
end qgrz
namespace qgfz
def f (k:Fu) (a0:BA):Option ((List (Int×Int))×Bool):=PI Cx (k 0) 149 [vs a0]
def l0 (k:Fu) (x0:List BA) (x1 x2:Int) (x3:List (Int×Int)):Option ((List (Int×Int))×Bool):=zap Cx (k 0) 149 [tt,tt,tt,ff,tt,tt] [k 1] ⟨[(4,vf 1000000004000),(12,vl 9 .str x0),(13,vi x1),(14,vi x2)],[(1000000004000,.row 155 (.pair i6 i6) x3 .own)],[]⟩
theorem v {a0:BA} {r} (h:Ev (fun k=>if (iGt (sln a0) 60) then some ([],false) else (qfqz.f k a0 44).bind fun t0 =>
 l0 k t0 (ln t0) 0 []) r):Ev (fun k=>f k a0) r:=evf (fun _ _ _=>zac Cx (by kernel_rfl)) h
theorem v0 {x0:List BA} {x1 x2:Int} {x3:List (Int×Int)} {r} (h:Ev (fun k=>if (iLt x2 x1) then ix x2 x0 <| (qfqz.f k (rd (bs []) x0 x2) 43).bind fun t0 =>
 if ((ln t0) != 2) then some ([],false) else gd (0 < (ln t0)) <| (qhqz.f k (rd (bs []) t0 0)).bind fun t1 =>
 gd (1 < (ln t0)) <| (qhqz.f k (rd (bs []) t0 1)).bind fun t2 =>
 gd (((lnN x3)+1)<=8796093022208) <| l0 k x0 x1 (W (x2+1)) (x3++[(t1,t2)]) else (qgrz.f k x3).bind fun t0 =>
 if (!t0) then some ([],false) else some (x3,true)) r):Ev (fun k=>l0 k x0 x1 x2 x3) r:=evl [] 0 (fun _ _ _=>by kernel_rfl) h
end qgfz
namespace qhgz
def f (k:Fu) (a0:List (Int×Int)) (a1:Int) (a2:BA):Option (BA×(((List (Int×Int))×(Int×((List (Int×Int))×(Int×(Int×(Int×(Int×((List (Int×Int))×((List (Int×Int))×(List Int))))))))))×Bool)):=PI Cx (k 0) 98 [va [.sl 74 (.pair i6 i6) a0,ci a1],vs a2]
def l0 (k:Fu) (x0:List BA) (x1:BA) (x2:List BA) (x3 x4 x5 x6 x7 x8 x9:Int) (x10:List (Int×Int)) (x11:Int) (x12:List (Int×Int)) (x13 x14 x15 x16:Int) (x17 x18:List (Int×Int)) (x19:List Int):Option (BA×(((List (Int×Int))×(Int×((List (Int×Int))×(Int×(Int×(Int×(Int×((List (Int×Int))×((List (Int×Int))×(List Int))))))))))×Bool)):=zap Cx (k 0) 98 [tt,tt,tt,tt,tt,ff,tt,tt] [k 1] ⟨[(5,vp 2000 0),(7,vp 1002000 0),(8,vl 9 .str x0),(9,vs x1),(30,vl 9 .str x2),(31,vi x3),(32,vi x4)],[(2000,.box 124 [.nilsl,ci x5,.nilsl,ci x6,ci x7,ci x8,ci x9,.nilsl,.nilsl,.nilsl]),(1002000,.box 124 [.sl 74 (.pair i6 i6) x10,ci x11,.sl 74 (.pair i6 i6) x12,ci x13,ci x14,ci x15,ci x16,.sl 88 (.pair i6 i6) x17,.sl 155 (.pair i6 i6) x18,.full 2000001002000009]),(2000001002000009,.row 3 i6 x19 .own)],[]⟩
theorem v {a0:List (Int×Int)} {a1:Int} {a2:BA} {r} (h:Ev (fun k=>(qfqz.f k a2 32).bind fun t0 =>
 gd (0 < (ln t0)) <| (qgez.f (rd (bs []) t0 0)).bind fun t1 =>
 if ((sln t1) != (W ((ln t0)-1))) then some ((bs []),((a0,(a1,([],(0,(0,(0,(0,([],([],[]))))))))),false)) else gd (1<=(ln t0)) <| l0 k t0 t1 (List.drop 1 t0) (ln (List.drop 1 t0)) 0 0 0 0 0 0 a0 a1 [] 0 0 0 0 [] [] []) r):Ev (fun k=>f k a0 a1 a2) r:=evf (fun _ _ h=>by rw [<- qgez.k (dl h)]; exact zac Cx (by kernel_rfl)) h
theorem v0 {x0:List BA} {x1:BA} {x2:List BA} {x3 x4 x5 x6 x7 x8 x9:Int} {x10:List (Int×Int)} {x11:Int} {x12:List (Int×Int)} {x13 x14 x15 x16:Int} {x17 x18:List (Int×Int)} {x19:List Int} {r} (h:Ev (fun k=>if (iLt x4 x3) then ix x4 x2 <| gd (0<=x4) <| gd (x4 < (sln x1)) <| if ((bat x1 x4) == 110) then (qhqz.f k (rd (bs []) x2 x4)).bind fun t0 =>
 gd (((lnN x19)+1)<=17592186044416) <| if (!(iGe t0 0)) then some ((bs []),((x10,(x11,(x12,(x13,(x14,(x15,(x16,(x17,(x18,(x19++[t0])))))))))),false)) else l0 k x0 x1 x2 x3 (W (x4+1)) x5 x6 x7 x8 x9 x10 x11 x12 x13 x14 x15 x16 x17 x18 (x19++[t0]) else if ((bat x1 x4) == 119) then (qfuz.f k (rd (bs []) x2 x4)).bind fun t0 =>
 if (!t0.2) then some ((bs []),((x10,(x11,(t0.1,(x13,(x14,(x15,(x16,(x17,(x18,x19))))))))),false)) else l0 k x0 x1 x2 x3 (W (x4+1)) x5 x6 x7 x8 x9 x10 x11 t0.1 x13 x14 x15 x16 x17 x18 x19 else if ((bat x1 x4) == 99) then (qfpz.f k (rd (bs []) x2 x4)).bind fun t0 =>
 if (!t0.2) then some ((bs []),((x10,(x11,(x12,(t0.1.1,(t0.1.2.1,(t0.1.2.2.1,(t0.1.2.2.2,(x17,(x18,x19))))))))),false)) else l0 k x0 x1 x2 x3 (W (x4+1)) x5 x6 x7 x8 x9 x10 x11 x12 t0.1.1 t0.1.2.1 t0.1.2.2.1 t0.1.2.2.2 x17 x18 x19 else if ((bat x1 x4) == 108) then (qgaz.f k (rd (bs []) x2 x4)).bind fun t0 =>
 if (!t0.2) then some ((bs []),((x10,(x11,(x12,(x13,(x14,(x15,(x16,(t0.1,(x18,x19))))))))),false)) else l0 k x0 x1 x2 x3 (W (x4+1)) x5 x6 x7 x8 x9 x10 x11 x12 x13 x14 x15 x16 t0.1 x18 x19 else if ((bat x1 x4) == 118) then (qgfz.f k (rd (bs []) x2 x4)).bind fun t0 =>
 if (!t0.2) then some ((bs []),((x10,(x11,(x12,(x13,(x14,(x15,(x16,(x17,(t0.1,x19))))))))),false)) else l0 k x0 x1 x2 x3 (W (x4+1)) x5 x6 x7 x8 x9 x10 x11 x12 x13 x14 x15 x16 x17 t0.1 x19 else some ((bs []),((x10,(x11,(x12,(x13,(x14,(x15,(x16,(x17,(x18,x19))))))))),false)) else gd (0 < (ln x0)) <| some ((rd (bs []) x0 0),((x10,(x11,(x12,(x13,(x14,(x15,(x16,(x17,(x18,x19))))))))),true))) r):Ev (fun k=>l0 k x0 x1 x2 x3 x4 x5 x6 x7 x8 x9 x10 x11 x12 x13 x14 x15 x16 x17 x18 x19) r:=evl [] 0 (fun _ _ _=>by kernel_rfl) h
end qhgz
namespace qeaz
def f (k:Fu) (a0:List (Int×Int)) (a1:Int) (a2:List (Int×Int)) (a3 a4 a5 a6:Int) (a7 a8:List (Int×Int)) (a9:List Int) (a10:List (Int×Int)):Option (BA×((List (Int×Int))×(Int×((List (Int×Int))×(Int×(Int×(Int×(Int×((List (Int×Int))×((List (Int×Int))×(List Int))))))))))):=PI Cx (k 0) 150 [va [.sl 74 (.pair i6 i6) a0,ci a1,.sl 74 (.pair i6 i6) a2,ci a3,ci a4,ci a5,ci a6,.sl 88 (.pair i6 i6) a7,.sl 155 (.pair i6 i6) a8,.sl 3 i6 a9],vl 74 (.pair i6 i6) a10]
theorem v {a0:List (Int×Int)} {a1:Int} {a2:List (Int×Int)} {a3 a4 a5 a6:Int} {a7 a8:List (Int×Int)} {a9:List Int} {a10:List (Int×Int)} {r} (h:Ev (fun k=>(qhyz.f k a10).bind fun t0 =>
 if (!t0) then some ((bs [110,111]),(a0,(a1,(a2,(a3,(a4,(a5,(a6,(a7,(a8,a9)))))))))) else (qhbz.f k a10).bind fun t1 =>
 some (t1,(a10,(a1,(a2,(a3,(a4,(a5,(a6,(a7,(a8,a9))))))))))) r):Ev (fun k=>f k a0 a1 a2 a3 a4 a5 a6 a7 a8 a9 a10) r:=evf (fun _ _ _=>zac Cx (by kernel_rfl)) h
end qeaz
namespace qchz
def f (k:Fu) (a0:List (Int×Int)) (a1:Int) (a2:List (Int×Int)) (a3 a4 a5 a6:Int) (a7 a8:List (Int×Int)) (a9:List Int) (a10:BA):Option (BA×((List (Int×Int))×(Int×((List (Int×Int))×(Int×(Int×(Int×(Int×((List (Int×Int))×((List (Int×Int))×(List Int))))))))))):=PI Cx (k 0) 99 [va [.sl 74 (.pair i6 i6) a0,ci a1,.sl 74 (.pair i6 i6) a2,ci a3,ci a4,ci a5,ci a6,.sl 88 (.pair i6 i6) a7,.sl 155 (.pair i6 i6) a8,.sl 3 i6 a9],vs a10]
theorem v {a0:List (Int×Int)} {a1:Int} {a2:List (Int×Int)} {a3 a4 a5 a6:Int} {a7 a8:List (Int×Int)} {a9:List Int} {a10:BA} {r} (h:Ev (fun k=>gd ((0+(lnN a0))<=8796093022208) <| if (seq a10 (bs [119,97,108,107,101,114,115])) then (qeaz.f k a0 a1 a2 a3 a4 a5 a6 a7 a8 a9 a2).bind fun t0 =>
 some t0 else if (seq a10 (bs [97,100,100])) then gd (((lnN ([]++a0))+(lnN a2))<=8796093022208) <| (qeaz.f k a0 a1 a2 a3 a4 a5 a6 a7 a8 a9 (([]++a0)++a2)).bind fun t0 =>
 some t0 else if (seq a10 (bs [114,105,110,103])) then gd (0 < (ln a9)) <| (qilz.f (rd 0 a9 0) 1 1000).bind fun t0 =>
 if (!t0) then some ((bs [110,111]),(a0,(a1,(a2,(a3,(a4,(a5,(a6,(a7,(a8,a9)))))))))) else gd (0 < (ln a9)) <| (qhbz.f k ([]++a0)).bind fun t1 =>
 some (t1,(a0,((rd 0 a9 0),(a2,(a3,(a4,(a5,(a6,(a7,(a8,a9)))))))))) else gd (0 < (ln a9)) <| if (iGe (rd 0 a9 0) (ln ([]++a0))) then some ((bs [110,111]),(a0,(a1,(a2,(a3,(a4,(a5,(a6,(a7,(a8,a9)))))))))) else if (seq a10 (bs [116,117,114,110])) then gd (0 < (ln a9)) <| gd (0 < (ln a9)) <| ix (rd 0 a9 0) ([]++a0) <| ix (rd 0 a9 0) ([]++a0) <| (qeaz.f k a0 a1 a2 a3 a4 a5 a6 a7 a8 a9 (List.set ([]++a0) (Int.toNat (rd 0 a9 0)) ((rd (0,0) ([]++a0) (rd 0 a9 0)).1,(W (0-(rd (0,0) ([]++a0) (rd 0 a9 0)).2))))).bind fun t0 =>
 some t0 else gd (0 < (ln a9)) <| gd (0<=(rd 0 a9 0)) <| gd ((rd 0 a9 0)<=(ln ([]++a0))) <| gd (0 < (ln a9)) <| gd (0<=(W ((rd 0 a9 0)+1))) <| gd ((W ((rd 0 a9 0)+1))<=(ln ([]++a0))) <| gd (((lnN (List.take (Int.toNat (rd 0 a9 0)) ([]++a0)))+(lnN (List.take ((Int.toNat (ln ([]++a0)))-(Int.toNat (W ((rd 0 a9 0)+1)))) (List.drop (Int.toNat (W ((rd 0 a9 0)+1))) ([]++a0)))))<=8796093022208) <| (qeaz.f k a0 a1 a2 a3 a4 a5 a6 a7 a8 a9 ((List.take (Int.toNat (rd 0 a9 0)) ([]++a0))++(List.take ((Int.toNat (ln ([]++a0)))-(Int.toNat (W ((rd 0 a9 0)+1)))) (List.drop (Int.toNat (W ((rd 0 a9 0)+1))) ([]++a0))))).bind fun t0 =>
 some t0) r):Ev (fun k=>f k a0 a1 a2 a3 a4 a5 a6 a7 a8 a9 a10) r:=evf (fun _ _ h=>by rw [<- qilz.k (dl h)]; exact zac Cx (by kernel_rfl)) h
end qchz
namespace qhxz
abbrev P:=Int->Option Int
def f:P:=fun a0=>(qgvz.f a0 (W (0-a0))).bind fun t0 =>
 some t0
theorem k {K:Nat} (h:2<=K):(fun a0=>PI Cx K 218 [vi a0]:P)=f:=by
 obtain ⟨K,rfl⟩:=zae h
 funext a0
 unfold f
 rw [<- qgvz.k (dk h)]
 exact zac Cx (by kernel_rfl)
end qhxz
namespace qiaz
def f (k:Fu) (a0 a1:Int):Option (Int×Int):=PI Cx (k 0) 219 [vi a0,vi a1]
def l0 (k:Fu) (x0 x1 x2 x3:Int):Option (Int×Int):=zap Cx (k 0) 219 [tt,tt,tt,ff,tt] [k 1] ⟨[(0,vi x0),(1,vi x1),(6,vi x2),(7,vi x3)],[],[]⟩
theorem v {a0 a1:Int} {r} (h:Ev (fun k=>if (iLt a1 0) then (qhxz.f (W (0-a0))).bind fun t0 =>
 l0 k (W (0-a0)) (W (0-a1)) t0 (W (0-a1)) else (qhxz.f a0).bind fun t0 =>
 l0 k a0 a1 t0 a1) r):Ev (fun k=>f k a0 a1) r:=evf (fun _ _ h=>by rw [<- qhxz.k (dl h)]; exact zac Cx (by kernel_rfl)) h
theorem v0 {x0 x1 x2 x3:Int} {r} (h:Ev (fun k=>if (iGt x3 0) then if x3=0 then none else l0 k x0 x1 x3 (Int.tmod x2 x3) else if x2=0 then none else if x2=0 then none else some ((W (Int.tdiv x0 x2)),(W (Int.tdiv x1 x2)))) r):Ev (fun k=>l0 k x0 x1 x2 x3) r:=evl [] 0 (fun _ _ _=>by kernel_rfl) h
end qiaz
namespace qhcz
def f (k:Fu) (a0 a1 a2 a3:Int):Option (Int×(Int×Bool)):=PI Cx (k 0) 215 [va [ci a0,ci a1],va [ci a2,ci a3]]
theorem v {a0 a1 a2 a3:Int} {r} (h:Ev (fun k=>if ((W (a2-a0)) == 0) then some (0,(1,true)) else if ((W (a1-a3)) == 0) then some (0,(0,false)) else if (!((iGt (W (a2-a0)) 0) == (iGt (W (a1-a3)) 0))) then some (0,(0,false)) else (qiaz.f k (W (a2-a0)) (W (a1-a3))).bind fun t0 =>
 some (t0.1,(t0.2,true))) r):Ev (fun k=>f k a0 a1 a2 a3) r:=evf (fun _ _ _=>zac Cx (by kernel_rfl)) h
end qhcz
namespace qdgz
def f (k:Fu) (a0 a1 a2 a3:Int):Option (Int×(Int×Bool)):=PI Cx (k 0) 209 [va [ci a0,ci a1],va [ci a2,ci a3]]
theorem v {a0 a1 a2 a3:Int} {r} (h:Ev (fun k=>(qgsz.f a0 a1).bind fun t0 =>
 if (!t0) then some (0,(0,false)) else (qgsz.f a2 a3).bind fun t1 =>
 if (!t1) then some (0,(0,false)) else (qhcz.f k a0 a1 a2 a3).bind fun t2 =>
 some t2) r):Ev (fun k=>f k a0 a1 a2 a3) r:=evf (fun _ _ h=>by rw [<- qgsz.k (dl h)]; exact zac Cx (by kernel_rfl)) h
end qdgz
namespace qhiz
def f (k:Fu) (a0 a1:Int) (a2:Bool):Option BA:=PI Cx (k 0) 159 [vi a0,vi a1,vb a2]
theorem v {a0 a1:Int} {a2:Bool} {r} (h:Ev (fun k=>if (!a2) then some (bs [110,111]) else (qiiz.f k a0).bind fun t0 =>
 gd (((ByteArray.size t0)+1)<=maxLen) <| (qiiz.f k a1).bind fun t1 =>
 gd (((ByteArray.size (t0++(bs [47])))+(ByteArray.size t1))<=maxLen) <| some ((t0++(bs [47]))++t1)) r):Ev (fun k=>f k a0 a1 a2) r:=evf (fun _ _ _=>zac Cx (by kernel_rfl)) h
end qhiz
namespace qcmz
def f (k:Fu) (a0 a1 a2 a3:Int):Option (Int×(Int×Bool)):=PI Cx (k 0) 210 [va [ci a0,ci a1],va [ci a2,ci a3]]
theorem v {a0 a1 a2 a3:Int} {r} (h:Ev (fun k=>(qdgz.f k a0 a1 a2 a3).bind fun t0 =>
 if (!t0.2.2) then some (0,(0,false)) else (qiaz.f k (W ((W (a0*t0.2.1))+(W (a1*t0.1)))) t0.2.1).bind fun t1 =>
 some (t1.1,(t1.2,true))) r):Ev (fun k=>f k a0 a1 a2 a3) r:=evf (fun _ _ _=>zac Cx (by kernel_rfl)) h
end qcmz
namespace qgpz
abbrev P:=Int->Int->Int->Int->Int->Option Bool
def f:P:=fun a0 a1 a2 a3 a4=>(qilz.f a0 1 1000).bind fun t0 =>
 if t0 then (qgsz.f a1 a2).bind fun t1 =>
 if t1 then (qgsz.f a3 a4).bind fun t2 =>
 some t2 else some false else some false
theorem k {K:Nat} (h:3<=K):(fun a0 a1 a2 a3 a4=>PI Cx K 257 [vi a0,va [ci a1,ci a2],va [ci a3,ci a4]]:P)=f:=by
 obtain ⟨K,rfl⟩:=zae h
 funext a0 a1 a2 a3 a4
 unfold f
 rw [<- qilz.k (dk h),<- qgsz.k (dk h)]
 exact zac Cx (by kernel_rfl)
end qgpz
namespace qicz
abbrev P:=Int->Int->Option Int
def f:P:=fun a0 a1=>if a1=0 then none else if a1=0 then none else some (Int.tmod (W ((Int.tmod a0 a1)+a1)) a1)
theorem k {K:Nat} (h:1<=K):(fun a0 a1=>PI Cx K 259 [vi a0,vi a1]:P)=f:=by
 obtain ⟨K,rfl⟩:=zae h
 funext a0 a1
 exact zac Cx (by kernel_rfl)
end qicz
namespace qghz
abbrev P:=Int->Int->Int->Int->Int->Option (Int×Int)
def f:P:=fun a0 a1 a2 a3 a4=>if (iLt a2 a4) then (qicz.f (W (a1-a3)) a0).bind fun t0 =>
 some (t0,(W (a4-a2))) else (qicz.f (W (a3-a1)) a0).bind fun t0 =>
 some (t0,(W (a2-a4)))
theorem k {K:Nat} (h:2<=K):(fun a0 a1 a2 a3 a4=>PI Cx K 258 [vi a0,va [ci a1,ci a2],va [ci a3,ci a4]]:P)=f:=by
 obtain ⟨K,rfl⟩:=zae h
 funext a0 a1 a2 a3 a4
 unfold f
 rw [<- qicz.k (dk h)]
 exact zac Cx (by kernel_rfl)
end qghz
namespace qfcz
def f (k:Fu) (a0 a1 a2 a3 a4:Int):Option (Int×(Int×Bool)):=PI Cx (k 0) 211 [vi a0,va [ci a1,ci a2],va [ci a3,ci a4]]
theorem v {a0 a1 a2 a3 a4:Int} {r} (h:Ev (fun k=>(qgpz.f a0 a1 a2 a3 a4).bind fun t0 =>
 if (!t0) then some (0,(0,false)) else (qghz.f a0 a1 a2 a3 a4).bind fun t1 =>
 if (t1.1 == 0) then some (0,(1,true)) else if (t1.2 == 0) then some (0,(0,false)) else (qiaz.f k t1.1 t1.2).bind fun t2 =>
 some (t2.1,(t2.2,true))) r):Ev (fun k=>f k a0 a1 a2 a3 a4) r:=evf (fun _ _ h=>by rw [<- qgpz.k (dl h),<- qghz.k (dl h)]; exact zac Cx (by kernel_rfl)) h
end qfcz
namespace qggz
def f (k:Fu) (a0 a1 a2 a3 a4:Int):Option (Int×(Int×Bool)):=PI Cx (k 0) 212 [vi a0,va [ci a1,ci a2],va [ci a3,ci a4]]
theorem v {a0 a1 a2 a3 a4:Int} {r} (h:Ev (fun k=>(qgpz.f a0 a1 a2 a3 a4).bind fun t0 =>
 if (!t0) then some (0,(0,false)) else if (a2 == a4) then some (0,(0,false)) else (qghz.f a0 a1 a2 a3 a4).bind fun t1 =>
 (qiaz.f k a0 t1.2).bind fun t2 =>
 some (t2.1,(t2.2,true))) r):Ev (fun k=>f k a0 a1 a2 a3 a4) r:=evf (fun _ _ h=>by rw [<- qgpz.k (dl h),<- qghz.k (dl h)]; exact zac Cx (by kernel_rfl)) h
end qggz
namespace qigz
def f (k:Fu) (a0:List Int) (a1:Int):Option (List Int):=PI Cx (k 0) 260 [vl 3 i6 a0,vi a1]
def l0 (k:Fu) (x0:List Int) (x1 x2:Int):Option (List Int):=zap Cx (k 0) 260 [tt,tt,ff,tt] [k 1] ⟨[(0,vl 3 i6 x0),(1,vi x1),(5,vi x2)],[],[]⟩
theorem v {a0:List Int} {a1:Int} {r} (h:Ev (fun k=>l0 k a0 a1 0) r):Ev (fun k=>f k a0 a1) r:=evf (fun _ _ _=>zac Cx (by kernel_rfl)) h
theorem v0 {x0:List Int} {x1 x2:Int} {r} (h:Ev (fun k=>if (iLt x2 (ln x0)) then ix x2 x0 <| if (iLt (rd 0 x0 x2) x1) then l0 k x0 x1 (W (x2+1)) else if (iLt x2 (ln x0)) then ix x2 x0 <| if ((rd 0 x0 x2) == x1) then some x0 else gd (0<=x2) <| gd (x2<=(ln x0)) <| gd ((0+(lnN (List.take (Int.toNat x2) x0)))<=17592186044416) <| gd (((lnN ([]++(List.take (Int.toNat x2) x0)))+1)<=17592186044416) <| gd (0<=x2) <| gd (x2<=(ln x0)) <| gd (((lnN (([]++(List.take (Int.toNat x2) x0))++[x1]))+(lnN (List.drop (Int.toNat x2) x0)))<=17592186044416) <| some ((([]++(List.take (Int.toNat x2) x0))++[x1])++(List.drop (Int.toNat x2) x0)) else gd (0<=x2) <| gd (x2<=(ln x0)) <| gd ((0+(lnN (List.take (Int.toNat x2) x0)))<=17592186044416) <| gd (((lnN ([]++(List.take (Int.toNat x2) x0)))+1)<=17592186044416) <| gd (0<=x2) <| gd (x2<=(ln x0)) <| gd (((lnN (([]++(List.take (Int.toNat x2) x0))++[x1]))+(lnN (List.drop (Int.toNat x2) x0)))<=17592186044416) <| some ((([]++(List.take (Int.toNat x2) x0))++[x1])++(List.drop (Int.toNat x2) x0)) else if (iLt x2 (ln x0)) then ix x2 x0 <| if ((rd 0 x0 x2) == x1) then some x0 else gd (0<=x2) <| gd (x2<=(ln x0)) <| gd ((0+(lnN (List.take (Int.toNat x2) x0)))<=17592186044416) <| gd (((lnN ([]++(List.take (Int.toNat x2) x0)))+1)<=17592186044416) <| gd (0<=x2) <| gd (x2<=(ln x0)) <| gd (((lnN (([]++(List.take (Int.toNat x2) x0))++[x1]))+(lnN (List.drop (Int.toNat x2) x0)))<=17592186044416) <| some ((([]++(List.take (Int.toNat x2) x0))++[x1])++(List.drop (Int.toNat x2) x0)) else gd (0<=x2) <| gd (x2<=(ln x0)) <| gd ((0+(lnN (List.take (Int.toNat x2) x0)))<=17592186044416) <| gd (((lnN ([]++(List.take (Int.toNat x2) x0)))+1)<=17592186044416) <| gd (0<=x2) <| gd (x2<=(ln x0)) <| gd (((lnN (([]++(List.take (Int.toNat x2) x0))++[x1]))+(lnN (List.drop (Int.toNat x2) x0)))<=17592186044416) <| some ((([]++(List.take (Int.toNat x2) x0))++[x1])++(List.drop (Int.toNat x2) x0))) r):Ev (fun k=>l0 k x0 x1 x2) r:=evl [] 0 (fun _ _ _=>by kernel_rfl) h
end qigz
namespace qdyz
def f (k:Fu) (a0 a1 a2 a3 a4:Int):Option ((List (List Int))×Bool):=PI Cx (k 0) 214 [vi a0,va [ci a1,ci a2],va [ci a3,ci a4]]
def l0 (k:Fu) (x0 x1 x2:Int) (x3:List Int) (x4 x5 x6:Int):Option ((List (List Int))×Bool):=zap Cx (k 0) 214 [tt,tt,tt,tt,ff,tt,tt] [k 1] ⟨[(0,vi x0),(4,vp 0 0),(8,vi x1),(9,vi x2),(10,vl 3 i6 x3),(11,vi x4)],[(0,.box 74 [ci x5,ci x6])],[]⟩
def l1 (k:Fu) (x0:Int) (x1:List Int) (x2 x3:Int) (x4:List (List Int)):Option ((List (List Int))×Bool):=zap Cx (k 0) 214 [tt,tt,tt,tt,tt,tt,ff,tt,tt] [k 2] ⟨[(9,vi x0),(13,vf 1000000013000),(62,vl 3 i6 x1),(63,vi x2),(64,vi x3)],[(1000000013000,.row 44 (.sl 3 i6) x4 .own)],[]⟩
theorem v {a0 a1 a2 a3 a4:Int} {r} (h:Ev (fun k=>(qgpz.f a0 a1 a2 a3 a4).bind fun t0 =>
 if (!t0) then some ([],false) else if (a2 == a4) then some ([],false) else (qghz.f a0 a1 a2 a3 a4).bind fun t1 =>
 l0 k a0 t1.1 t1.2 [] 0 a1 a2) r):Ev (fun k=>f k a0 a1 a2 a3 a4) r:=evf (fun _ _ h=>by rw [<- qgpz.k (dl h),<- qghz.k (dl h)]; exact zac Cx (by kernel_rfl)) h
theorem v0 {x0 x1 x2:Int} {x3:List Int} {x4 x5 x6:Int} {r} (h:Ev (fun k=>if (iLt x4 x2) then (qicz.f (W ((W (x5*x2))+(W (x6*(W (x1+(W (x4*x0)))))))) (W (x0*x2))).bind fun t0 =>
 (qigz.f k x3 t0).bind fun t1 =>
 l0 k x0 x1 x2 t1 (W (x4+1)) x5 x6 else l1 k x2 x3 (ln x3) 0 []) r):Ev (fun k=>l0 k x0 x1 x2 x3 x4 x5 x6) r:=evl [] 0 (fun _ _ h=>by rw [<- qicz.k (dl h)]; kernel_rfl) h
theorem v1 {x0:Int} {x1:List Int} {x2 x3:Int} {x4:List (List Int)} {r} (h:Ev (fun k=>if (iLt x3 x2) then ix x3 x1 <| (qiaz.f k (rd 0 x1 x3) x0).bind fun t0 =>
 gd (((lnN x4)+1)<=5864062014805) <| l1 k x0 x1 x2 (W (x3+1)) (x4++[[t0.1,t0.2]]) else some (x4,true)) r):Ev (fun k=>l1 k x0 x1 x2 x3 x4) r:=evl [] 1 (fun _ _ _=>by kernel_rfl) h
end qdyz
namespace qfxz
def f (k:Fu) (a0:List (List Int)) (a1:Bool):Option BA:=PI Cx (k 0) 213 [vl 44 (.sl 3 i6) a0,vb a1]
def l0 (k:Fu) (x0:BA) (x1:List (List Int)) (x2 x3:Int):Option BA:=zap Cx (k 0) 213 [tt,tt,tt,ff,tt,tt] [k 1] ⟨[(5,vs x0),(10,vl 44 (.sl 3 i6) x1),(11,vi x2),(12,vi x3)],[],[]⟩
theorem v {a0:List (List Int)} {a1:Bool} {r} (h:Ev (fun k=>if (!a1) then some (bs [110,111]) else l0 k (bs []) a0 (ln a0) 0) r):Ev (fun k=>f k a0 a1) r:=evf (fun _ _ _=>zac Cx (by kernel_rfl)) h
theorem v0 {x0:BA} {x1:List (List Int)} {x2 x3:Int} {r} (h:Ev (fun k=>if (iLt x3 x2) then ix x3 x1 <| if (iGt x3 0) then gd (((ByteArray.size x0)+1)<=maxLen) <| gd (0 < (ln (rd [] x1 x3))) <| gd (1 < (ln (rd [] x1 x3))) <| (qhiz.f k (rd 0 (rd [] x1 x3) 0) (rd 0 (rd [] x1 x3) 1) true).bind fun t0 =>
 gd (((ByteArray.size (x0++(bs [44])))+(ByteArray.size t0))<=maxLen) <| l0 k ((x0++(bs [44]))++t0) x1 x2 (W (x3+1)) else gd (0 < (ln (rd [] x1 x3))) <| gd (1 < (ln (rd [] x1 x3))) <| (qhiz.f k (rd 0 (rd [] x1 x3) 0) (rd 0 (rd [] x1 x3) 1) true).bind fun t0 =>
 gd (((ByteArray.size x0)+(ByteArray.size t0))<=maxLen) <| l0 k (x0++t0) x1 x2 (W (x3+1)) else some x0) r):Ev (fun k=>l0 k x0 x1 x2 x3) r:=evl [] 0 (fun _ _ _=>by kernel_rfl) h
end qfxz
namespace qddz
def f (k:Fu) (a0:List (Int×Int)) (a1:Int) (a2:List (Int×Int)) (a3 a4 a5 a6:Int) (a7 a8:List (Int×Int)) (a9:List Int) (a10:BA):Option (BA×((List (Int×Int))×(Int×((List (Int×Int))×(Int×(Int×(Int×(Int×((List (Int×Int))×((List (Int×Int))×(List Int))))))))))):=PI Cx (k 0) 151 [va [.sl 74 (.pair i6 i6) a0,ci a1,.sl 74 (.pair i6 i6) a2,ci a3,ci a4,ci a5,ci a6,.sl 88 (.pair i6 i6) a7,.sl 155 (.pair i6 i6) a8,.sl 3 i6 a9],vs a10]
theorem v {a0:List (Int×Int)} {a1:Int} {a2:List (Int×Int)} {a3 a4 a5 a6:Int} {a7 a8:List (Int×Int)} {a9:List Int} {a10:BA} {r} (h:Ev (fun k=>gd (0 < (ln a9)) <| if (iGe (rd 0 a9 0) (ln a0)) then some ((bs [110,111]),(a0,(a1,(a2,(a3,(a4,(a5,(a6,(a7,(a8,a9)))))))))) else gd (1 < (ln a9)) <| if (iGe (rd 0 a9 1) (ln a0)) then some ((bs [110,111]),(a0,(a1,(a2,(a3,(a4,(a5,(a6,(a7,(a8,a9)))))))))) else gd (0 < (ln a9)) <| ix (rd 0 a9 0) a0 <| gd (1 < (ln a9)) <| ix (rd 0 a9 1) a0 <| if (seq a10 (bs [109,101,101,116])) then (qdgz.f k (rd (0,0) a0 (rd 0 a9 0)).1 (rd (0,0) a0 (rd 0 a9 0)).2 (rd (0,0) a0 (rd 0 a9 1)).1 (rd (0,0) a0 (rd 0 a9 1)).2).bind fun t0 =>
 (qhiz.f k t0.1 t0.2.1 t0.2.2).bind fun t1 =>
 some (t1,(a0,(a1,(a2,(a3,(a4,(a5,(a6,(a7,(a8,a9)))))))))) else if (seq a10 (bs [119,104,101,114,101])) then (qcmz.f k (rd (0,0) a0 (rd 0 a9 0)).1 (rd (0,0) a0 (rd 0 a9 0)).2 (rd (0,0) a0 (rd 0 a9 1)).1 (rd (0,0) a0 (rd 0 a9 1)).2).bind fun t0 =>
 (qhiz.f k t0.1 t0.2.1 t0.2.2).bind fun t1 =>
 some (t1,(a0,(a1,(a2,(a3,(a4,(a5,(a6,(a7,(a8,a9)))))))))) else if (seq a10 (bs [97,114,111,117,110,100])) then (qfcz.f k a1 (rd (0,0) a0 (rd 0 a9 0)).1 (rd (0,0) a0 (rd 0 a9 0)).2 (rd (0,0) a0 (rd 0 a9 1)).1 (rd (0,0) a0 (rd 0 a9 1)).2).bind fun t0 =>
 (qhiz.f k t0.1 t0.2.1 t0.2.2).bind fun t1 =>
 some (t1,(a0,(a1,(a2,(a3,(a4,(a5,(a6,(a7,(a8,a9)))))))))) else if (seq a10 (bs [103,97,112])) then (qggz.f k a1 (rd (0,0) a0 (rd 0 a9 0)).1 (rd (0,0) a0 (rd 0 a9 0)).2 (rd (0,0) a0 (rd 0 a9 1)).1 (rd (0,0) a0 (rd 0 a9 1)).2).bind fun t0 =>
 (qhiz.f k t0.1 t0.2.1 t0.2.2).bind fun t1 =>
 some (t1,(a0,(a1,(a2,(a3,(a4,(a5,(a6,(a7,(a8,a9)))))))))) else (qdyz.f k a1 (rd (0,0) a0 (rd 0 a9 0)).1 (rd (0,0) a0 (rd 0 a9 0)).2 (rd (0,0) a0 (rd 0 a9 1)).1 (rd (0,0) a0 (rd 0 a9 1)).2).bind fun t0 =>
 (qfxz.f k t0.1 t0.2).bind fun t1 =>
 some (t1,(a0,(a1,(a2,(a3,(a4,(a5,(a6,(a7,(a8,a9))))))))))) r):Ev (fun k=>f k a0 a1 a2 a3 a4 a5 a6 a7 a8 a9 a10) r:=evf (fun _ _ _=>zac Cx (by kernel_rfl)) h
end qddz
namespace qdiz
def f (k:Fu) (a0:List (Int×Int)):Option ((List (List Int))×Bool):=PI Cx (k 0) 154 [vl 74 (.pair i6 i6) a0]
def l0 (k:Fu) (x0 x1:List (Int×Int)) (x2 x3:Int) (x4:List (List Int)):Option ((List (List Int))×Bool):=zap Cx (k 0) 154 [tt,tt,tt,ff,tt,tt] [k 1] ⟨[(0,vl 74 (.pair i6 i6) x0),(4,vf 1000000004000),(16,vl 74 (.pair i6 i6) x1),(17,vi x2),(18,vi x3)],[(1000000004000,.row 44 (.sl 3 i6) x4 .own)],[]⟩
def l1 (k:Fu) (x0:List (Int×Int)) (x1 x2:Int) (x3:List (Int×Int)) (x4 x5:Int) (x6:List (List Int)) (x7 x8:Int):Option ((List (List Int))×Bool):=zap Cx (k 0) 154 [tt,tt,tt,ff,tt,tt,tt,tt,tt,ff,tt,tt,tt,tt] [k 1,k 2] ⟨[(0,vl 74 (.pair i6 i6) x0),(4,vf 1000000004000),(5,vi x1),(6,vp 6003000 0),(7,vi x2),(16,vl 74 (.pair i6 i6) x3),(17,vi x4),(18,vi x5)],[(1000000004000,.row 44 (.sl 3 i6) x6 .own),(6003000,.box 74 [ci x7,ci x8])],[]⟩
def l2 (k:Fu) (x0:List (Int×Int)) (x1 x2 x3 x4 x5:Int) (x6:List (Int×Int)) (x7 x8:Int) (x9:List (List Int)) (x10 x11:Int):Option ((List (List Int))×Bool):=zap Cx (k 0) 154 [tt,tt,tt,ff,tt,tt,tt,tt,tt,ff,tt,tt,tt,tt,tt,tt,ff,tt,tt,tt,tt,ff,tt] [k 1,k 2,k 3] ⟨[(0,vl 74 (.pair i6 i6) x0),(4,vf 1000000004000),(5,vi x1),(6,vp 6003000 0),(7,vi x2),(8,vi x3),(9,vi x4),(11,vi x5),(16,vl 74 (.pair i6 i6) x6),(17,vi x7),(18,vi x8)],[(1000000004000,.row 44 (.sl 3 i6) x9 .own),(6003000,.box 74 [ci x10,ci x11])],[]⟩
theorem v {a0:List (Int×Int)} {r} (h:Ev (fun k=>(qhyz.f k a0).bind fun t0 =>
 if (!t0) then some ([],false) else l0 k a0 a0 (ln a0) 0 []) r):Ev (fun k=>f k a0) r:=evf (fun _ _ _=>zac Cx (by kernel_rfl)) h
theorem v0 {x0 x1:List (Int×Int)} {x2 x3:Int} {x4:List (List Int)} {r} (h:Ev (fun k=>if (iLt x3 x2) then ix x3 x1 <| l1 k x0 x3 (W (x3+1)) x1 x2 x3 x4 (rd (0,0) x1 x3).1 (rd (0,0) x1 x3).2 else some (x4,true)) r):Ev (fun k=>l0 k x0 x1 x2 x3 x4) r:=evl [] 0 (fun _ _ _=>by kernel_rfl) h
theorem v1 {x0:List (Int×Int)} {x1 x2:Int} {x3:List (Int×Int)} {x4 x5:Int} {x6:List (List Int)} {x7 x8:Int} {r} (h:Ev (fun k=>if (iLt x2 (ln x0)) then ix x2 x0 <| (qhcz.f k x7 x8 (rd (0,0) x0 x2).1 (rd (0,0) x0 x2).2).bind fun t0 =>
 if (!t0.2.2) then l1 k x0 x1 (W (x2+1)) x3 x4 x5 x6 x7 x8 else l2 k x0 x1 x2 t0.1 t0.2.1 (ln x6) x3 x4 x5 x6 x7 x8 else l0 k x0 x3 x4 (W (x5+1)) x6) r):Ev (fun k=>l1 k x0 x1 x2 x3 x4 x5 x6 x7 x8) r:=evl [1] 1 (fun _ _ _=>by kernel_rfl) h
theorem v2 {x0:List (Int×Int)} {x1 x2 x3 x4 x5:Int} {x6:List (Int×Int)} {x7 x8:Int} {x9:List (List Int)} {x10 x11:Int} {r} (h:Ev (fun k=>if (iGt x5 0) then ix (W (x5-1)) x9 <| gd (3 < (ln (rd [] x9 (W (x5-1))))) <| ix (W (x5-1)) x9 <| gd (2 < (ln (rd [] x9 (W (x5-1))))) <| if (iLt (W (x3*(rd 0 (rd [] x9 (W (x5-1))) 3))) (W ((rd 0 (rd [] x9 (W (x5-1))) 2)*x4))) then l2 k x0 x1 x2 x3 x4 (W (x5-1)) x6 x7 x8 x9 x10 x11 else gd (0<=x5) <| gd (x5<=(ln x9)) <| gd ((0+(lnN (List.take (Int.toNat x5) x9)))<=5864062014805) <| gd (((lnN ([]++(List.take (Int.toNat x5) x9)))+1)<=5864062014805) <| gd (0<=x5) <| gd (x5<=(ln x9)) <| gd (((lnN (([]++(List.take (Int.toNat x5) x9))++[[x1,x2,x3,x4]]))+(lnN (List.take ((Int.toNat (ln x9))-(Int.toNat x5)) (List.drop (Int.toNat x5) x9))))<=5864062014805) <| l1 k x0 x1 (W (x2+1)) x6 x7 x8 ((([]++(List.take (Int.toNat x5) x9))++[[x1,x2,x3,x4]])++(List.take ((Int.toNat (ln x9))-(Int.toNat x5)) (List.drop (Int.toNat x5) x9))) x10 x11 else gd (0<=x5) <| gd (x5<=(ln x9)) <| gd ((0+(lnN (List.take (Int.toNat x5) x9)))<=5864062014805) <| gd (((lnN ([]++(List.take (Int.toNat x5) x9)))+1)<=5864062014805) <| gd (0<=x5) <| gd (x5<=(ln x9)) <| gd (((lnN (([]++(List.take (Int.toNat x5) x9))++[[x1,x2,x3,x4]]))+(lnN (List.take ((Int.toNat (ln x9))-(Int.toNat x5)) (List.drop (Int.toNat x5) x9))))<=5864062014805) <| l1 k x0 x1 (W (x2+1)) x6 x7 x8 ((([]++(List.take (Int.toNat x5) x9))++[[x1,x2,x3,x4]])++(List.take ((Int.toNat (ln x9))-(Int.toNat x5)) (List.drop (Int.toNat x5) x9))) x10 x11) r):Ev (fun k=>l2 k x0 x1 x2 x3 x4 x5 x6 x7 x8 x9 x10 x11) r:=evl [1,2] 2 (fun _ _ _=>by kernel_rfl) h
end qdiz
namespace qbwz
def f (k:Fu) (a0:List (Int×Int)):Option (Int×Bool):=PI Cx (k 0) 153 [vl 74 (.pair i6 i6) a0]
theorem v {a0:List (Int×Int)} {r} (h:Ev (fun k=>(qdiz.f k a0).bind fun t0 =>
 some ((ln t0.1),t0.2)) r):Ev (fun k=>f k a0) r:=evf (fun _ _ _=>zac Cx (by kernel_rfl)) h
end qbwz
namespace qexz
def f (k:Fu) (a0:Int) (a1:Bool):Option BA:=PI Cx (k 0) 152 [vi a0,vb a1]
theorem v {a0:Int} {a1:Bool} {r} (h:Ev (fun k=>if (!a1) then some (bs [110,111]) else (qihz.f k a0).bind fun t0 =>
 some t0) r):Ev (fun k=>f k a0 a1) r:=evf (fun _ _ _=>zac Cx (by kernel_rfl)) h
end qexz
namespace qgyz
def f (k:Fu) (a0:List Int) (a1:Bool):Option BA:=PI Cx (k 0) 155 [vl 3 i6 a0,vb a1]
def l0 (k:Fu) (x0:BA) (x1:List Int) (x2 x3:Int):Option BA:=zap Cx (k 0) 155 [tt,tt,tt,tt,ff,tt,tt] [k 1] ⟨[(5,vs x0),(13,vl 3 i6 x1),(14,vi x2),(15,vi x3)],[],[]⟩
theorem v {a0:List Int} {a1:Bool} {r} (h:Ev (fun k=>if (!a1) then some (bs [110,111]) else if ((ln a0) == 0) then some (bs [45]) else l0 k (bs []) a0 (ln a0) 0) r):Ev (fun k=>f k a0 a1) r:=evf (fun _ _ _=>zac Cx (by kernel_rfl)) h
theorem v0 {x0:BA} {x1:List Int} {x2 x3:Int} {r} (h:Ev (fun k=>if (iLt x3 x2) then ix x3 x1 <| if (iGt x3 0) then gd (((ByteArray.size x0)+1)<=maxLen) <| (qiiz.f k (rd 0 x1 x3)).bind fun t0 =>
 gd (((ByteArray.size (x0++(bs [44])))+(ByteArray.size t0))<=maxLen) <| l0 k ((x0++(bs [44]))++t0) x1 x2 (W (x3+1)) else (qiiz.f k (rd 0 x1 x3)).bind fun t0 =>
 gd (((ByteArray.size x0)+(ByteArray.size t0))<=maxLen) <| l0 k (x0++t0) x1 x2 (W (x3+1)) else some x0) r):Ev (fun k=>l0 k x0 x1 x2 x3) r:=evl [] 0 (fun _ _ _=>by kernel_rfl) h
end qgyz
namespace qejz
def f (k:Fu) (a0:List (Int×Int)):Option ((List Int)×Bool):=PI Cx (k 0) 156 [vl 74 (.pair i6 i6) a0]
def l0 (k:Fu) (x0:List (Int×Int)) (x1:Int) (x2:List (Int×Int)) (x3 x4:Int):Option ((List Int)×Bool):=zap Cx (k 0) 156 [tt,tt,tt,ff,tt,tt] [k 1] ⟨[(0,vl 74 (.pair i6 i6) x0),(4,vi x1),(22,vl 74 (.pair i6 i6) x2),(23,vi x3),(24,vi x4)],[],[]⟩
def l1 (k:Fu) (x0:List (Int×Int)) (x1 x2 x3 x4:Int) (x5:List Int):Option ((List Int)×Bool):=zap Cx (k 0) 156 [tt,tt,tt,tt,tt,tt,ff,tt,tt] [k 2] ⟨[(0,vl 74 (.pair i6 i6) x0),(4,vi x1),(7,vf 1000000007000),(8,vi x2),(9,vi x3),(10,vi x4)],[(1000000007000,.row 3 i6 x5 .own)],[]⟩
def l2 (k:Fu) (x0:List (Int×Int)) (x1 x2 x3 x4 x5 x6 x7:Int) (x8:List (Int×Int)) (x9 x10:Int) (x11:List Int):Option ((List Int)×Bool):=zap Cx (k 0) 156 [tt,tt,tt,tt,tt,tt,ff,tt,tt,tt,tt,ff,tt,tt,ff,tt,tt] [k 2,k 3] ⟨[(0,vl 74 (.pair i6 i6) x0),(4,vi x1),(7,vf 1000000007000),(8,vi x2),(9,vi x3),(10,vi x4),(11,vi x5),(12,vi x6),(13,vi x7),(68,vl 74 (.pair i6 i6) x8),(69,vi x9),(70,vi x10)],[(1000000007000,.row 3 i6 x11 .own)],[]⟩
theorem v {a0:List (Int×Int)} {r} (h:Ev (fun k=>(qhyz.f k a0).bind fun t0 =>
 if (!t0) then some ([],false) else l0 k a0 0 a0 (ln a0) 0) r):Ev (fun k=>f k a0) r:=evf (fun _ _ _=>zac Cx (by kernel_rfl)) h
theorem v0 {x0:List (Int×Int)} {x1:Int} {x2:List (Int×Int)} {x3 x4:Int} {r} (h:Ev (fun k=>if (iLt x4 x3) then ix x4 x2 <| ix x1 x0 <| if (iGt (rd (0,0) x2 x4).1 (rd (0,0) x0 x1).1) then l0 k x0 x4 x2 x3 (W (x4+1)) else ix x1 x0 <| if ((rd (0,0) x2 x4).1 == (rd (0,0) x0 x1).1) then ix x1 x0 <| if (iGt (rd (0,0) x2 x4).2 (rd (0,0) x0 x1).2) then l0 k x0 x4 x2 x3 (W (x4+1)) else l0 k x0 x1 x2 x3 (W (x4+1)) else l0 k x0 x1 x2 x3 (W (x4+1)) else l1 k x0 x1 0 1 0 [x1]) r):Ev (fun k=>l0 k x0 x1 x2 x3 x4) r:=evl [] 0 (fun _ _ _=>by kernel_rfl) h
theorem v1 {x0:List (Int×Int)} {x1 x2 x3 x4:Int} {x5:List Int} {r} (h:Ev (fun k=>if (iLt x4 (W (2*(ln x0)))) then l2 k x0 x1 x2 x3 x4 (-1) 0 1 x0 (ln x0) 0 x5 else some (x5,true)) r):Ev (fun k=>l1 k x0 x1 x2 x3 x4 x5) r:=evl [] 1 (fun _ _ _=>by kernel_rfl) h
theorem v2 {x0:List (Int×Int)} {x1 x2 x3 x4 x5 x6 x7:Int} {x8:List (Int×Int)} {x9 x10:Int} {x11:List Int} {r} (h:Ev (fun k=>if (iLt x10 x9) then ix x10 x8 <| ix x1 x0 <| (qhcz.f k (rd (0,0) x0 x1).1 (rd (0,0) x0 x1).2 (rd (0,0) x8 x10).1 (rd (0,0) x8 x10).2).bind fun t0 =>
 ix x1 x0 <| if (iLe (rd (0,0) x8 x10).2 (rd (0,0) x0 x1).2) then l2 k x0 x1 x2 x3 x4 x5 x6 x7 x8 x9 (W (x10+1)) x11 else if (!t0.2.2) then l2 k x0 x1 x2 x3 x4 x5 x6 x7 x8 x9 (W (x10+1)) x11 else if (iLt (W (t0.1*x3)) (W (x2*t0.2.1))) then l2 k x0 x1 x2 x3 x4 x5 x6 x7 x8 x9 (W (x10+1)) x11 else if (iLt x5 0) then l2 k x0 x1 x2 x3 x4 x10 t0.1 t0.2.1 x8 x9 (W (x10+1)) x11 else if (iLt (W (t0.1*x7)) (W (x6*t0.2.1))) then l2 k x0 x1 x2 x3 x4 x10 t0.1 t0.2.1 x8 x9 (W (x10+1)) x11 else if ((W (t0.1*x7)) == (W (x6*t0.2.1))) then ix x5 x0 <| if (iGt (rd (0,0) x8 x10).2 (rd (0,0) x0 x5).2) then l2 k x0 x1 x2 x3 x4 x10 t0.1 t0.2.1 x8 x9 (W (x10+1)) x11 else l2 k x0 x1 x2 x3 x4 x5 x6 x7 x8 x9 (W (x10+1)) x11 else l2 k x0 x1 x2 x3 x4 x5 x6 x7 x8 x9 (W (x10+1)) x11 else if (iLt x5 0) then some (x11,true) else gd (((lnN x11)+1)<=17592186044416) <| l1 k x0 x5 x6 x7 (W (x4+1)) (x11++[x5])) r):Ev (fun k=>l2 k x0 x1 x2 x3 x4 x5 x6 x7 x8 x9 x10 x11) r:=evl [2] 2 (fun _ _ _=>by kernel_rfl) h
end qejz
namespace qfez
def f (k:Fu) (a0 a1:List Int):Option Bool:=PI Cx (k 0) 261 [vl 3 i6 a0,vl 3 i6 a1]
def l0 (k:Fu) (x0 x1:List Int) (x2 x3:Int):Option Bool:=zap Cx (k 0) 261 [tt,ff,tt,tt] [k 1] ⟨[(0,vl 3 i6 x0),(1,vl 3 i6 x1),(7,vi x2),(8,vi x3)],[],[]⟩
theorem v {a0 a1:List Int} {r} (h:Ev (fun k=>l0 k a0 a1 (ln a0) 0) r):Ev (fun k=>f k a0 a1) r:=evf (fun _ _ _=>zac Cx (by kernel_rfl)) h
theorem v0 {x0 x1:List Int} {x2 x3:Int} {r} (h:Ev (fun k=>if (iLt x3 x2) then ix x3 x0 <| ix x3 x1 <| if ((rd 0 x0 x3) != (rd 0 x1 x3)) then ix x3 x0 <| ix x3 x1 <| some (iLt (rd 0 x0 x3) (rd 0 x1 x3)) else l0 k x0 x1 x2 (W (x3+1)) else some false) r):Ev (fun k=>l0 k x0 x1 x2 x3) r:=evl [] 0 (fun _ _ _=>by kernel_rfl) h
end qfez
namespace qiez
abbrev P:=List Int->Option (List Int)
def f:P:=fun a0=>gd ((0+(lnN a0))<=17592186044416) <| some ([]++a0)
theorem k {K:Nat} (h:1<=K):(fun a0=>PI Cx K 262 [vl 3 i6 a0]:P)=f:=by
 obtain ⟨K,rfl⟩:=zae h
 funext a0
 exact zac Cx (by kernel_rfl)
end qiez
end
end Go.Proofs.YtdhkgmhdengnkaaGreatDoor.Li
