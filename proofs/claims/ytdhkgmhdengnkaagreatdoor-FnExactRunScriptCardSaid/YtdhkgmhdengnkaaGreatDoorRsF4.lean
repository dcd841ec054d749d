/- What functions of the program compute. -/
import Derived.Test.YtdhkgmhdengnkaaGreatDoorRsF3
namespace Go.Proofs.YtdhkgmhdengnkaaGreatDoor.Rs
open Go Go.Proofs.YtdhkgmhdengnkaaGreatDoorPi Go.RowKit
set_option maxRecDepth 100000
set_option linter.unusedVariables false
set_option linter.unusedSectionVars false
noncomputable section
variable [Inhabited Sv]
namespace qcez
def f (k:Fu) (a0:List (Int×Int)) (a1:Int) (a2:List (Int×Int)) (a3 a4 a5 a6:Int) (a7 a8:List (Int×Int)) (a9:List Int) (a10:BA):Option (BA×((List (Int×Int))×(Int×((List (Int×Int))×(Int×(Int×(Int×(Int×((List (Int×Int))×((List (Int×Int))×(List Int))))))))))):=PI Cx (k 0) 100 [va [.sl 74 (.pair i6 i6) a0,ci a1,.sl 74 (.pair i6 i6) a2,ci a3,ci a4,ci a5,ci a6,.sl 88 (.pair i6 i6) a7,.sl 155 (.pair i6 i6) a8,.sl 3 i6 a9],vs a10]
theorem v {a0:List (Int×Int)} {a1:Int} {a2:List (Int×Int)} {a3 a4 a5 a6:Int} {a7 a8:List (Int×Int)} {a9:List Int} {a10:BA} {r} (h:Ev (fun k=>if (seq a10 (bs [115,104,111,119])) then (qgjz.f k a0).bind fun t0 =>
 some (t0,(a0,(a1,(a2,(a3,(a4,(a5,(a6,(a7,(a8,a9)))))))))) else if (seq a10 (bs [109,101,101,116])) then (qckz.f k a0 a1 a2 a3 a4 a5 a6 a7 a8 a9 a10).bind fun t0 =>
 some t0 else if (seq a10 (bs [119,104,101,114,101])) then (qckz.f k a0 a1 a2 a3 a4 a5 a6 a7 a8 a9 a10).bind fun t0 =>
 some t0 else if (seq a10 (bs [97,114,111,117,110,100])) then (qckz.f k a0 a1 a2 a3 a4 a5 a6 a7 a8 a9 a10).bind fun t0 =>
 some t0 else if (seq a10 (bs [103,97,112])) then (qckz.f k a0 a1 a2 a3 a4 a5 a6 a7 a8 a9 a10).bind fun t0 =>
 some t0 else if (seq a10 (bs [112,108,97,99,101,115])) then (qckz.f k a0 a1 a2 a3 a4 a5 a6 a7 a8 a9 a10).bind fun t0 =>
 some t0 else if (seq a10 (bs [112,97,105,114,115])) then (qbsz.f k a0).bind fun t0 =>
 (qetz.f k t0.1 t0.2).bind fun t1 =>
 some (t1,(a0,(a1,(a2,(a3,(a4,(a5,(a6,(a7,(a8,a9)))))))))) else if (seq a10 (bs [102,105,114,115,116])) then (qclz.f k a0).bind fun t0 =>
 if ((ln t0.1) == 0) then some ((bs [110,111]),(a0,(a1,(a2,(a3,(a4,(a5,(a6,(a7,(a8,a9)))))))))) else gd (0 < (ln t0.1)) <| gd (2<=(ln (rd [] t0.1 0))) <| (qgvz.f k (List.take 2 (rd [] t0.1 0)) true).bind fun t1 =>
 some (t1,(a0,(a1,(a2,(a3,(a4,(a5,(a6,(a7,(a8,a9)))))))))) else if (seq a10 (bs [108,101,97,100])) then (qeaz.f k a0).bind fun t0 =>
 (qgvz.f k t0.1 t0.2).bind fun t1 =>
 some (t1,(a0,(a1,(a2,(a3,(a4,(a5,(a6,(a7,(a8,a9)))))))))) else if (seq a10 (bs [108,97,115,116])) then (qduz.f k a0).bind fun t0 =>
 (qgvz.f k t0.1 t0.2).bind fun t1 =>
 some (t1,(a0,(a1,(a2,(a3,(a4,(a5,(a6,(a7,(a8,a9)))))))))) else if (seq a10 (bs [97,116])) then gd (0 < (ln a9)) <| (qebz.f k a0 (rd 0 a9 0) 1).bind fun t0 =>
 (qgvz.f k t0.1 t0.2).bind fun t1 =>
 some (t1,(a0,(a1,(a2,(a3,(a4,(a5,(a6,(a7,(a8,a9)))))))))) else if (seq a10 (bs [115,116,97,114,116])) then (qdpz.f k a1 a0).bind fun t0 =>
 (qgpz.f k t0.1 t0.2.1 t0.2.2).bind fun t1 =>
 some (t1,(a0,(a1,(a2,(a3,(a4,(a5,(a6,(a7,(a8,a9)))))))))) else if (seq a10 (bs [100,111,103])) then (qdhz.f k a3 a4 a5 a6).bind fun t0 =>
 (qgpz.f k t0.1 t0.2.1 t0.2.2).bind fun t1 =>
 some (t1,(a0,(a1,(a2,(a3,(a4,(a5,(a6,(a7,(a8,a9)))))))))) else if (seq a10 (bs [114,117,110])) then (qdcz.f k a3 a4 a5 a6).bind fun t0 =>
 (qgpz.f k t0.1 t0.2.1 t0.2.2).bind fun t1 =>
 some (t1,(a0,(a1,(a2,(a3,(a4,(a5,(a6,(a7,(a8,a9)))))))))) else if (seq a10 (bs [97,112,97,114,116])) then gd (0 < (ln a9)) <| (qbqz.f k a3 a4 a5 a6 (rd 0 a9 0)).bind fun t0 =>
 (qgpz.f k t0.1 t0.2.1 t0.2.2).bind fun t1 =>
 some (t1,(a0,(a1,(a2,(a3,(a4,(a5,(a6,(a7,(a8,a9)))))))))) else if (seq a10 (bs [109,101,97,110])) then (qedz.f k a7).bind fun t0 =>
 (qgpz.f k t0.1 t0.2.1 t0.2.2).bind fun t1 =>
 some (t1,(a0,(a1,(a2,(a3,(a4,(a5,(a6,(a7,(a8,a9)))))))))) else if (seq a10 (bs [116,105,109,101])) then (qdiz.f k a7).bind fun t0 =>
 (qgpz.f k t0.1 t0.2.1 t0.2.2).bind fun t1 =>
 some (t1,(a0,(a1,(a2,(a3,(a4,(a5,(a6,(a7,(a8,a9)))))))))) else if (seq a10 (bs [110,101,101,100])) then gd (0 < (ln a9)) <| gd (1 < (ln a9)) <| (qcxz.f k a7 (rd 0 a9 0) (rd 0 a9 1)).bind fun t0 =>
 (qgpz.f k t0.1 t0.2.1 t0.2.2).bind fun t1 =>
 some (t1,(a0,(a1,(a2,(a3,(a4,(a5,(a6,(a7,(a8,a9)))))))))) else if (seq a10 (bs [118,105,115,105,116,115])) then (qcdz.f k a8).bind fun t0 =>
 (qguz.f k t0.1 t0.2).bind fun t1 =>
 some (t1,(a0,(a1,(a2,(a3,(a4,(a5,(a6,(a7,(a8,a9)))))))))) else if (seq a10 (bs [103,117,105,100,101,115])) then (qcfz.f k a8).bind fun t0 =>
 (qgvz.f k t0.1 t0.2).bind fun t1 =>
 some (t1,(a0,(a1,(a2,(a3,(a4,(a5,(a6,(a7,(a8,a9)))))))))) else gd (0 < (ln a9)) <| gd (1 < (ln a9)) <| gd (2 < (ln a9)) <| (qbpz.f k (rd 0 a9 0) (rd 0 a9 1) (rd 0 a9 2)).bind fun t0 =>
 (qgpz.f k t0.1 t0.2.1 t0.2.2).bind fun t1 =>
 some (t1,(a0,(a1,(a2,(a3,(a4,(a5,(a6,(a7,(a8,a9))))))))))) r):Ev (fun k=>f k a0 a1 a2 a3 a4 a5 a6 a7 a8 a9 a10) r:=evf (fun _ _ _=>zaf Cx (by kernel_rfl)) h
end qcez
namespace qhbz
def f (k:Fu) (a0:List (Int×Int)) (a1:Int) (a2:BA):Option (((List (Int×Int))×Int)×BA):=PI Cx (k 0) 52 [va [.sl 74 (.pair i6 i6) a0,ci a1],vs a2]
theorem v {a0:List (Int×Int)} {a1:Int} {a2:BA} {r} (h:Ev (fun k=>(qgbz.f k a0 a1 a2).bind fun t0 =>
 if (!t0.2.2) then some ((a0,a1),(bs [119,104,97,116])) else if (seq t0.1 (bs [119,97,108,107,101,114,115])) then (qccz.f k t0.2.1.1 t0.2.1.2.1 t0.2.1.2.2.1 t0.2.1.2.2.2.1 t0.2.1.2.2.2.2.1 t0.2.1.2.2.2.2.2.1 t0.2.1.2.2.2.2.2.2.1 t0.2.1.2.2.2.2.2.2.2.1 t0.2.1.2.2.2.2.2.2.2.2.1 t0.2.1.2.2.2.2.2.2.2.2.2 t0.1).bind fun t1 =>
 some ((t1.2.1,t1.2.2.1),t1.1) else if (seq t0.1 (bs [114,105,110,103])) then (qccz.f k t0.2.1.1 t0.2.1.2.1 t0.2.1.2.2.1 t0.2.1.2.2.2.1 t0.2.1.2.2.2.2.1 t0.2.1.2.2.2.2.2.1 t0.2.1.2.2.2.2.2.2.1 t0.2.1.2.2.2.2.2.2.2.1 t0.2.1.2.2.2.2.2.2.2.2.1 t0.2.1.2.2.2.2.2.2.2.2.2 t0.1).bind fun t1 =>
 some ((t1.2.1,t1.2.2.1),t1.1) else if (seq t0.1 (bs [116,117,114,110])) then (qccz.f k t0.2.1.1 t0.2.1.2.1 t0.2.1.2.2.1 t0.2.1.2.2.2.1 t0.2.1.2.2.2.2.1 t0.2.1.2.2.2.2.2.1 t0.2.1.2.2.2.2.2.2.1 t0.2.1.2.2.2.2.2.2.2.1 t0.2.1.2.2.2.2.2.2.2.2.1 t0.2.1.2.2.2.2.2.2.2.2.2 t0.1).bind fun t1 =>
 some ((t1.2.1,t1.2.2.1),t1.1) else if (seq t0.1 (bs [97,100,100])) then (qccz.f k t0.2.1.1 t0.2.1.2.1 t0.2.1.2.2.1 t0.2.1.2.2.2.1 t0.2.1.2.2.2.2.1 t0.2.1.2.2.2.2.2.1 t0.2.1.2.2.2.2.2.2.1 t0.2.1.2.2.2.2.2.2.2.1 t0.2.1.2.2.2.2.2.2.2.2.1 t0.2.1.2.2.2.2.2.2.2.2.2 t0.1).bind fun t1 =>
 some ((t1.2.1,t1.2.2.1),t1.1) else if (seq t0.1 (bs [100,114,111,112])) then (qccz.f k t0.2.1.1 t0.2.1.2.1 t0.2.1.2.2.1 t0.2.1.2.2.2.1 t0.2.1.2.2.2.2.1 t0.2.1.2.2.2.2.2.1 t0.2.1.2.2.2.2.2.2.1 t0.2.1.2.2.2.2.2.2.2.1 t0.2.1.2.2.2.2.2.2.2.2.1 t0.2.1.2.2.2.2.2.2.2.2.2 t0.1).bind fun t1 =>
 some ((t1.2.1,t1.2.2.1),t1.1) else (qcez.f k t0.2.1.1 t0.2.1.2.1 t0.2.1.2.2.1 t0.2.1.2.2.2.1 t0.2.1.2.2.2.2.1 t0.2.1.2.2.2.2.2.1 t0.2.1.2.2.2.2.2.2.1 t0.2.1.2.2.2.2.2.2.2.1 t0.2.1.2.2.2.2.2.2.2.2.1 t0.2.1.2.2.2.2.2.2.2.2.2 t0.1).bind fun t1 =>
 some ((a0,a1),t1.1)) r):Ev (fun k=>f k a0 a1 a2) r:=evf (fun _ _ _=>zaf Cx (by kernel_rfl)) h
end qhbz
namespace qhlz
def f (k:Fu) (a0:BA):Option (((List (Int×Int))×Int)×((List BA)×Bool)):=PI Cx (k 0) 38 [vs a0]
def l0 (k:Fu) (x0:List BA) (x1 x2 x3:Int) (x4:List (Int×Int)) (x5:Int) (x6:List BA):Option (((List (Int×Int))×Int)×((List BA)×Bool)):=zan Cx (k 0) 38 [tt,tt,tt,tt,tt,tt,tt,ff,tt,tt] [k 1] ⟨[(2,vp 0 0),(7,vp 7001000 0),(8,vf 1000000008000),(35,vl 9 .str x0),(36,vi x1),(37,vi x2)],[(0,.box 24 [.nilsl,ci x3]),(7001000,.box 24 [.sl 74 (.pair i6 i6) x4,ci x5]),(1000000008000,.row 9 .str x6 .own)],[]⟩
theorem v {a0:BA} {r} (h:Ev (fun k=>if (iGt (sln a0) 3000) then some (([],0),([],false)) else (qfnz.f k a0 10).bind fun t0 =>
 ix (W ((ln t0)-1)) t0 <| if (!(seq (rd (bs []) t0 (W ((ln t0)-1))) (bs []))) then some (([],0),([],false)) else if (iGt (W ((ln t0)-1)) 50) then some (([],0),([],false)) else (qenz.f).bind fun t1 =>
 gd (0<=(W ((ln t0)-1))) <| gd ((W ((ln t0)-1))<=(ln t0)) <| l0 k (List.take (Int.toNat (W ((ln t0)-1))) t0) (ln (List.take (Int.toNat (W ((ln t0)-1))) t0)) 0 0 t1.1 t1.2 []) r):Ev (fun k=>f k a0) r:=evf (fun _ _ h=>by rw [<- qenz.k (dl h)]; exact zaf Cx (by kernel_rfl)) h
theorem v0 {x0:List BA} {x1 x2 x3:Int} {x4:List (Int×Int)} {x5:Int} {x6:List BA} {r} (h:Ev (fun k=>if (iLt x2 x1) then ix x2 x0 <| (qhbz.f k x4 x5 (rd (bs []) x0 x2)).bind fun t0 =>
 gd (((lnN x6)+1)<=8796093022208) <| l0 k x0 x1 (W (x2+1)) x3 t0.1.1 t0.1.2 (x6++[t0.2]) else some ((x4,x5),(x6,true))) r):Ev (fun k=>l0 k x0 x1 x2 x3 x4 x5 x6) r:=evl [] 0 (fun _ _ _=>by kernel_rfl) h
end qhlz
namespace qelz
def f (k:Fu) (a0:BA):Option ((List BA)×Bool):=PI Cx (k 0) 25 [vs a0]
theorem v {a0:BA} {r} (h:Ev (fun k=>(qhlz.f k a0).bind fun t0 =>
 some t0.2) r):Ev (fun k=>f k a0) r:=evf (fun _ _ _=>zaf Cx (by kernel_rfl)) h
end qelz
namespace qekz
abbrev P:=BA->Option (((List (Int×Int))×Int)×((List BA)×Bool))
def f:P:=fun a0=>zj4 a0
theorem k {K:Nat} (h:1<=K):(fun a0=>PI Cx K 40 [vs a0]:P)=f:=by
 obtain ⟨K,rfl⟩:=zah h
 funext a0
 exact zaf Cx (by kernel_rfl)
end qekz
namespace qeez
abbrev P:=BA->Option ((List BA)×Bool)
def f:P:=fun a0=>(qekz.f a0).bind fun t0 =>
 some t0.2
theorem k {K:Nat} (h:2<=K):(fun a0=>PI Cx K 24 [vs a0]:P)=f:=by
 obtain ⟨K,rfl⟩:=zah h
 funext a0
 unfold f
 rw [<- qekz.k (dk h)]
 exact zaf Cx (by kernel_rfl)
end qeez
namespace qejz
def f (k:Fu) (a0 a1:List BA):Option Bool:=PI Cx (k 0) 29 [vl 9 .str a0,vl 9 .str a1]
def l0 (k:Fu) (x0 x1:List BA) (x2:Int):Option Bool:=zan Cx (k 0) 29 [tt,tt,ff,tt,tt] [k 1] ⟨[(0,vl 9 .str x0),(1,vl 9 .str x1),(5,vi x2)],[],[]⟩
theorem v {a0 a1:List BA} {r} (h:Ev (fun k=>if ((ln a0) != (ln a1)) then some false else l0 k a0 a1 0) r):Ev (fun k=>f k a0 a1) r:=evf (fun _ _ _=>zaf Cx (by kernel_rfl)) h
theorem v0 {x0 x1:List BA} {x2:Int} {r} (h:Ev (fun k=>if (iLt x2 (ln x0)) then ix x2 x0 <| ix x2 x1 <| if (!(seq (rd (bs []) x0 x2) (rd (bs []) x1 x2))) then some false else l0 k x0 x1 (W (x2+1)) else some true) r):Ev (fun k=>l0 k x0 x1 x2) r:=evl [] 0 (fun _ _ _=>by kernel_rfl) h
end qejz
namespace qeyz
def f (k:Fu) (a0:Int):Option BA:=PI Cx (k 0) 69 [vi a0]
def l0 (k:Fu) (x0:Int) (x1:BA):Option BA:=zan Cx (k 0) 69 [tt,tt,tt,ff,tt] [k 1] ⟨[(0,vi x0),(3,vs x1)],[],[]⟩
theorem v {a0:Int} {r} (h:Ev (fun k=>if (iLe a0 0) then some (bs [109,48]) else l0 k a0 (bs [])) r):Ev (fun k=>f k a0) r:=evf (fun _ _ _=>zaf Cx (by kernel_rfl)) h
theorem v0 {x0:Int} {x1:BA} {r} (h:Ev (fun k=>if (iGt x0 0) then gd (((ByteArray.size (zbY [(IntKind.wrap .u8 (W (48+(Int.tmod x0 10))))]))+(ByteArray.size x1))<=maxLen) <| l0 k (W (Int.tdiv x0 10)) ((zbY [(IntKind.wrap .u8 (W (48+(Int.tmod x0 10))))])++x1) else gd ((1+(ByteArray.size x1))<=maxLen) <| some ((bs [109])++x1)) r):Ev (fun k=>l0 k x0 x1) r:=evl [] 0 (fun _ _ _=>by kernel_rfl) h
end qeyz
namespace qdaz
def f (k:Fu) (a0:List BA) (a1:Int):Option (Int×(List BA)):=PI Cx (k 0) 30 [.sv (.one (.frow 9 .str a0)),vi a1]
def l0 (k:Fu) (x0 x1:Int) (x2:List BA):Option (Int×(List BA)):=zan Cx (k 0) 30 [tt,ff,tt,tt] [k 1] ⟨[(0,vf 9000000000000001),(1,vi x0),(5,vi x1)],[(9000000000000001,.row 9 .str x2 .lent)],[]⟩
theorem v {a0:List BA} {a1:Int} {r} (h:Ev (fun k=>l0 k a1 0 a0) r):Ev (fun k=>f k a0 a1) r:=evf (fun _ _ _=>zaf Cx (by kernel_rfl)) h
theorem v0 {x0 x1:Int} {x2:List BA} {r} (h:Ev (fun k=>if (iLt x1 (ln x2)) then (qeyz.f k x0).bind fun t0 =>
 ix x1 x2 <| l0 k (W (x0+1)) (W (x1+1)) (List.set x2 (Int.toNat x1) t0) else some (x0,x2)) r):Ev (fun k=>l0 k x0 x1 x2) r:=evl [] 0 (fun _ _ _=>by kernel_rfl) h
end qdaz
namespace qcyz
def f (k:Fu) (a0:List BA) (a1:Int):Option Int:=PI Cx (k 0) 31 [vl 9 .str a0,vi a1]
def l0 (k:Fu) (x0:List BA) (x1 x2:Int):Option Int:=zan Cx (k 0) 31 [tt,ff,tt,tt] [k 1] ⟨[(0,vl 9 .str x0),(1,vi x1),(5,vi x2)],[],[]⟩
theorem v {a0:List BA} {a1:Int} {r} (h:Ev (fun k=>l0 k a0 a1 0) r):Ev (fun k=>f k a0 a1) r:=evf (fun _ _ _=>zaf Cx (by kernel_rfl)) h
theorem v0 {x0:List BA} {x1 x2:Int} {r} (h:Ev (fun k=>if (iLt x2 (ln x0)) then ix x2 x0 <| (qeyz.f k x1).bind fun t0 =>
 if (!(seq (rd (bs []) x0 x2) t0)) then some (-1) else l0 k x0 (W (x1+1)) (W (x2+1)) else some x1) r):Ev (fun k=>l0 k x0 x1 x2) r:=evl [] 0 (fun _ _ _=>by kernel_rfl) h
end qcyz
namespace qbkz
def f (k:Fu) (a0:BA):Option Bool:=PI Cx (k 0) 6 [vs a0]
theorem v {a0:BA} {r} (h:Ev (fun k=>if (iGt (sln a0) 1048576) then some true else (qelz.f k a0).bind fun t0 =>
 (qeez.f a0).bind fun t1 =>
 (qejz.f k t1.1 t0.1).bind fun t2 =>
 if (!t2) then some false else if (!(t1.2 == t0.2)) then some false else (qdaz.f k t1.1 1).bind fun t3 =>
 (qcyz.f k t3.2 1).bind fun t4 =>
 if (iLt t4 0) then some false else if (t4 != t3.1) then some false else (qeez.f a0).bind fun t5 =>
 (qejz.f k t5.1 t0.1).bind fun t6 =>
 if (!t6) then some false else if (!(t5.2 == t0.2)) then some false else (qcyz.f k t3.2 1).bind fun t7 =>
 if (iLt t7 0) then some false else if (t7 != t3.1) then some false else some true) r):Ev (fun k=>f k a0) r:=evf (fun _ _ h=>by rw [<- qeez.k (dl h)]; exact zaf Cx (by kernel_rfl)) h
end qbkz
end
end Go.Proofs.YtdhkgmhdengnkaaGreatDoor.Rs
