/- What functions of the program compute. -/
import Derived.Test.YtdhkgmhdengnkaaGreatDoorTaF3
namespace Go.Proofs.YtdhkgmhdengnkaaGreatDoor.Ta
open Go Go.Proofs.YtdhkgmhdengnkaaGreatDoorPi Go.RowKit
set_option maxRecDepth 100000
set_option linter.unusedVariables false
set_option linter.unusedSectionVars false
noncomputable section
variable [Inhabited Sv]
namespace qdpz
def f (k:Fu) (a0 a1 a2:Int):Option Int:=PI Cx (k 0) 226 [vi a0,vi a1,vi a2]
def l0 (k:Fu) (x0 x1 x2 x3 x4:Int):Option Int:=zao Cx (k 0) 226 [tt,tt,ff,tt,tt] [k 1] ⟨[(0,vi x0),(1,vi x1),(2,vi x2),(7,vi x3),(8,vi x4)],[],[]⟩
def l1 (k:Fu) (x0 x1 x2 x3 x4 x5:Int):Option Int:=zao Cx (k 0) 226 [tt,tt,ff,tt,tt,tt,tt,ff,tt,tt,tt] [k 1,k 2] ⟨[(0,vi x0),(1,vi x1),(2,vi x2),(7,vi x3),(8,vi x4),(9,vi x5)],[],[]⟩
theorem v {a0 a1 a2:Int} {r} (h:Ev (fun k=>l0 k a0 a1 a2 0 0) r):Ev (fun k=>f k a0 a1 a2) r:=evf (fun _ _ _=>zad Cx (by kernel_rfl)) h
theorem v0 {x0 x1 x2 x3 x4:Int} {r} (h:Ev (fun k=>if (iLt x4 x0) then l1 k x0 x1 x2 x3 x4 0 else some x3) r):Ev (fun k=>l0 k x0 x1 x2 x3 x4) r:=evl [] 0 (fun _ _ _=>by kernel_rfl) h
theorem v1 {x0 x1 x2 x3 x4 x5:Int} {r} (h:Ev (fun k=>if (iLt x5 x0) then if (iLe (W (x5-x4)) x1) then if (iLe (W (x4-x5)) x2) then l1 k x0 x1 x2 (W (x3+1)) x4 (W (x5+1)) else l1 k x0 x1 x2 x3 x4 (W (x5+1)) else l1 k x0 x1 x2 x3 x4 (W (x5+1)) else l0 k x0 x1 x2 x3 (W (x4+1))) r):Ev (fun k=>l1 k x0 x1 x2 x3 x4 x5) r:=evl [1] 1 (fun _ _ _=>by kernel_rfl) h
end qdpz
namespace qbpz
def f (k:Fu) (a0 a1 a2:Int):Option (Int×(Int×Bool)):=PI Cx (k 0) 170 [vi a0,vi a1,vi a2]
theorem v {a0 a1 a2:Int} {r} (h:Ev (fun k=>(qelz.f a0 a1 a2).bind fun t0 =>
 if (!t0) then some (0,(0,false)) else (qdpz.f k a0 a1 a2).bind fun t1 =>
 (qhtz.f k t1 (W (a0*a0))).bind fun t2 =>
 some (t2.1,(t2.2,true))) r):Ev (fun k=>f k a0 a1 a2) r:=evf (fun _ _ h=>by rw [<- qelz.k (dl h)]; exact zad Cx (by kernel_rfl)) h
end qbpz
namespace qbyz
def f (k:Fu) (a0:List (Int×Int)) (a1:Int) (a2:List (Int×Int)) (a3 a4 a5 a6:Int) (a7 a8:List (Int×Int)) (a9:List Int) (a10:BA):Option (BA×((List (Int×Int))×(Int×((List (Int×Int))×(Int×(Int×(Int×(Int×((List (Int×Int))×((List (Int×Int))×(List Int))))))))))):=PI Cx (k 0) 100 [va [.sl 74 (.pair i6 i6) a0,ci a1,.sl 74 (.pair i6 i6) a2,ci a3,ci a4,ci a5,ci a6,.sl 88 (.pair i6 i6) a7,.sl 155 (.pair i6 i6) a8,.sl 3 i6 a9],vs a10]
theorem v {a0:List (Int×Int)} {a1:Int} {a2:List (Int×Int)} {a3 a4 a5 a6:Int} {a7 a8:List (Int×Int)} {a9:List Int} {a10:BA} {r} (h:Ev (fun k=>if (seq a10 (bs [115,104,111,119])) then (qguz.f k a0).bind fun t0 =>
 some (t0,(a0,(a1,(a2,(a3,(a4,(a5,(a6,(a7,(a8,a9)))))))))) else if (seq a10 (bs [109,101,101,116])) then (qcyz.f k a0 a1 a2 a3 a4 a5 a6 a7 a8 a9 a10).bind fun t0 =>
 some t0 else if (seq a10 (bs [119,104,101,114,101])) then (qcyz.f k a0 a1 a2 a3 a4 a5 a6 a7 a8 a9 a10).bind fun t0 =>
 some t0 else if (seq a10 (bs [97,114,111,117,110,100])) then (qcyz.f k a0 a1 a2 a3 a4 a5 a6 a7 a8 a9 a10).bind fun t0 =>
 some t0 else if (seq a10 (bs [103,97,112])) then (qcyz.f k a0 a1 a2 a3 a4 a5 a6 a7 a8 a9 a10).bind fun t0 =>
 some t0 else if (seq a10 (bs [112,108,97,99,101,115])) then (qcyz.f k a0 a1 a2 a3 a4 a5 a6 a7 a8 a9 a10).bind fun t0 =>
 some t0 else if (seq a10 (bs [112,97,105,114,115])) then (qbvz.f k a0).bind fun t0 =>
 (qfbz.f k t0.1 t0.2).bind fun t1 =>
 some (t1,(a0,(a1,(a2,(a3,(a4,(a5,(a6,(a7,(a8,a9)))))))))) else if (seq a10 (bs [102,105,114,115,116])) then (qcuz.f k a0).bind fun t0 =>
 if ((ln t0.1) == 0) then some ((bs [110,111]),(a0,(a1,(a2,(a3,(a4,(a5,(a6,(a7,(a8,a9)))))))))) else gd (0 < (ln t0.1)) <| gd (2<=(ln (rd [] t0.1 0))) <| (qgfz.f k (List.take 2 (rd [] t0.1 0)) true).bind fun t1 =>
 some (t1,(a0,(a1,(a2,(a3,(a4,(a5,(a6,(a7,(a8,a9)))))))))) else if (seq a10 (bs [108,101,97,100])) then (qeez.f k a0).bind fun t0 =>
 (qgfz.f k t0.1 t0.2).bind fun t1 =>
 some (t1,(a0,(a1,(a2,(a3,(a4,(a5,(a6,(a7,(a8,a9)))))))))) else if (seq a10 (bs [108,97,115,116])) then (qehz.f k a0).bind fun t0 =>
 (qgfz.f k t0.1 t0.2).bind fun t1 =>
 some (t1,(a0,(a1,(a2,(a3,(a4,(a5,(a6,(a7,(a8,a9)))))))))) else if (seq a10 (bs [97,116])) then gd (0 < (ln a9)) <| (qejz.f k a0 (rd 0 a9 0) 1).bind fun t0 =>
 (qgfz.f k t0.1 t0.2).bind fun t1 =>
 some (t1,(a0,(a1,(a2,(a3,(a4,(a5,(a6,(a7,(a8,a9)))))))))) else if (seq a10 (bs [115,116,97,114,116])) then (qdnz.f k a1 a0).bind fun t0 =>
 (qgoz.f k t0.1 t0.2.1 t0.2.2).bind fun t1 =>
 some (t1,(a0,(a1,(a2,(a3,(a4,(a5,(a6,(a7,(a8,a9)))))))))) else if (seq a10 (bs [100,111,103])) then (qdhz.f k a3 a4 a5 a6).bind fun t0 =>
 (qgoz.f k t0.1 t0.2.1 t0.2.2).bind fun t1 =>
 some (t1,(a0,(a1,(a2,(a3,(a4,(a5,(a6,(a7,(a8,a9)))))))))) else if (seq a10 (bs [114,117,110])) then (qcvz.f k a3 a4 a5 a6).bind fun t0 =>
 (qgoz.f k t0.1 t0.2.1 t0.2.2).bind fun t1 =>
 some (t1,(a0,(a1,(a2,(a3,(a4,(a5,(a6,(a7,(a8,a9)))))))))) else if (seq a10 (bs [97,112,97,114,116])) then gd (0 < (ln a9)) <| (qblz.f k a3 a4 a5 a6 (rd 0 a9 0)).bind fun t0 =>
 (qgoz.f k t0.1 t0.2.1 t0.2.2).bind fun t1 =>
 some (t1,(a0,(a1,(a2,(a3,(a4,(a5,(a6,(a7,(a8,a9)))))))))) else if (seq a10 (bs [109,101,97,110])) then (qeoz.f k a7).bind fun t0 =>
 (qgoz.f k t0.1 t0.2.1 t0.2.2).bind fun t1 =>
 some (t1,(a0,(a1,(a2,(a3,(a4,(a5,(a6,(a7,(a8,a9)))))))))) else if (seq a10 (bs [116,105,109,101])) then (qddz.f k a7).bind fun t0 =>
 (qgoz.f k t0.1 t0.2.1 t0.2.2).bind fun t1 =>
 some (t1,(a0,(a1,(a2,(a3,(a4,(a5,(a6,(a7,(a8,a9)))))))))) else if (seq a10 (bs [110,101,101,100])) then gd (0 < (ln a9)) <| gd (1 < (ln a9)) <| (qcqz.f k a7 (rd 0 a9 0) (rd 0 a9 1)).bind fun t0 =>
 (qgoz.f k t0.1 t0.2.1 t0.2.2).bind fun t1 =>
 some (t1,(a0,(a1,(a2,(a3,(a4,(a5,(a6,(a7,(a8,a9)))))))))) else if (seq a10 (bs [118,105,115,105,116,115])) then (qcaz.f k a8).bind fun t0 =>
 (qgdz.f k t0.1 t0.2).bind fun t1 =>
 some (t1,(a0,(a1,(a2,(a3,(a4,(a5,(a6,(a7,(a8,a9)))))))))) else if (seq a10 (bs [103,117,105,100,101,115])) then (qcgz.f k a8).bind fun t0 =>
 (qgfz.f k t0.1 t0.2).bind fun t1 =>
 some (t1,(a0,(a1,(a2,(a3,(a4,(a5,(a6,(a7,(a8,a9)))))))))) else gd (0 < (ln a9)) <| gd (1 < (ln a9)) <| gd (2 < (ln a9)) <| (qbpz.f k (rd 0 a9 0) (rd 0 a9 1) (rd 0 a9 2)).bind fun t0 =>
 (qgoz.f k t0.1 t0.2.1 t0.2.2).bind fun t1 =>
 some (t1,(a0,(a1,(a2,(a3,(a4,(a5,(a6,(a7,(a8,a9))))))))))) r):Ev (fun k=>f k a0 a1 a2 a3 a4 a5 a6 a7 a8 a9 a10) r:=evf (fun _ _ _=>zad Cx (by kernel_rfl)) h
end qbyz
namespace qgzz
def f (k:Fu) (a0:List (Int×Int)) (a1:Int) (a2:BA):Option (((List (Int×Int))×Int)×BA):=PI Cx (k 0) 52 [va [.sl 74 (.pair i6 i6) a0,ci a1],vs a2]
theorem v {a0:List (Int×Int)} {a1:Int} {a2:BA} {r} (h:Ev (fun k=>(qglz.f k a0 a1 a2).bind fun t0 =>
 if (!t0.2.2) then some ((a0,a1),(bs [119,104,97,116])) else if (seq t0.1 (bs [119,97,108,107,101,114,115])) then (qccz.f k t0.2.1.1 t0.2.1.2.1 t0.2.1.2.2.1 t0.2.1.2.2.2.1 t0.2.1.2.2.2.2.1 t0.2.1.2.2.2.2.2.1 t0.2.1.2.2.2.2.2.2.1 t0.2.1.2.2.2.2.2.2.2.1 t0.2.1.2.2.2.2.2.2.2.2.1 t0.2.1.2.2.2.2.2.2.2.2.2 t0.1).bind fun t1 =>
 some ((t1.2.1,t1.2.2.1),t1.1) else if (seq t0.1 (bs [114,105,110,103])) then (qccz.f k t0.2.1.1 t0.2.1.2.1 t0.2.1.2.2.1 t0.2.1.2.2.2.1 t0.2.1.2.2.2.2.1 t0.2.1.2.2.2.2.2.1 t0.2.1.2.2.2.2.2.2.1 t0.2.1.2.2.2.2.2.2.2.1 t0.2.1.2.2.2.2.2.2.2.2.1 t0.2.1.2.2.2.2.2.2.2.2.2 t0.1).bind fun t1 =>
 some ((t1.2.1,t1.2.2.1),t1.1) else if (seq t0.1 (bs [116,117,114,110])) then (qccz.f k t0.2.1.1 t0.2.1.2.1 t0.2.1.2.2.1 t0.2.1.2.2.2.1 t0.2.1.2.2.2.2.1 t0.2.1.2.2.2.2.2.1 t0.2.1.2.2.2.2.2.2.1 t0.2.1.2.2.2.2.2.2.2.1 t0.2.1.2.2.2.2.2.2.2.2.1 t0.2.1.2.2.2.2.2.2.2.2.2 t0.1).bind fun t1 =>
 some ((t1.2.1,t1.2.2.1),t1.1) else if (seq t0.1 (bs [97,100,100])) then (qccz.f k t0.2.1.1 t0.2.1.2.1 t0.2.1.2.2.1 t0.2.1.2.2.2.1 t0.2.1.2.2.2.2.1 t0.2.1.2.2.2.2.2.1 t0.2.1.2.2.2.2.2.2.1 t0.2.1.2.2.2.2.2.2.2.1 t0.2.1.2.2.2.2.2.2.2.2.1 t0.2.1.2.2.2.2.2.2.2.2.2 t0.1).bind fun t1 =>
 some ((t1.2.1,t1.2.2.1),t1.1) else if (seq t0.1 (bs [100,114,111,112])) then (qccz.f k t0.2.1.1 t0.2.1.2.1 t0.2.1.2.2.1 t0.2.1.2.2.2.1 t0.2.1.2.2.2.2.1 t0.2.1.2.2.2.2.2.1 t0.2.1.2.2.2.2.2.2.1 t0.2.1.2.2.2.2.2.2.2.1 t0.2.1.2.2.2.2.2.2.2.2.1 t0.2.1.2.2.2.2.2.2.2.2.2 t0.1).bind fun t1 =>
 some ((t1.2.1,t1.2.2.1),t1.1) else (qbyz.f k t0.2.1.1 t0.2.1.2.1 t0.2.1.2.2.1 t0.2.1.2.2.2.1 t0.2.1.2.2.2.2.1 t0.2.1.2.2.2.2.2.1 t0.2.1.2.2.2.2.2.2.1 t0.2.1.2.2.2.2.2.2.2.1 t0.2.1.2.2.2.2.2.2.2.2.1 t0.2.1.2.2.2.2.2.2.2.2.2 t0.1).bind fun t1 =>
 some ((a0,a1),t1.1)) r):Ev (fun k=>f k a0 a1 a2) r:=evf (fun _ _ _=>zad Cx (by kernel_rfl)) h
end qgzz
namespace qhqz
def f (k:Fu) (a0:BA):Option (((List (Int×Int))×Int)×((List BA)×Bool)):=PI Cx (k 0) 38 [vs a0]
def l0 (k:Fu) (x0:List BA) (x1 x2 x3:Int) (x4:List (Int×Int)) (x5:Int) (x6:List BA):Option (((List (Int×Int))×Int)×((List BA)×Bool)):=zao Cx (k 0) 38 [tt,tt,tt,tt,tt,tt,tt,ff,tt,tt] [k 1] ⟨[(2,vp 0 0),(7,vp 7001000 0),(8,vf 1000000008000),(35,vl 9 .str x0),(36,vi x1),(37,vi x2)],[(0,.box 24 [.nilsl,ci x3]),(7001000,.box 24 [.sl 74 (.pair i6 i6) x4,ci x5]),(1000000008000,.row 9 .str x6 .own)],[]⟩
theorem v {a0:BA} {r} (h:Ev (fun k=>if (iGt (sln a0) 3000) then some (([],0),([],false)) else (qgaz.f k a0 10).bind fun t0 =>
 ix (W ((ln t0)-1)) t0 <| if (!(seq (rd (bs []) t0 (W ((ln t0)-1))) (bs []))) then some (([],0),([],false)) else if (iGt (W ((ln t0)-1)) 50) then some (([],0),([],false)) else (qekz.f).bind fun t1 =>
 gd (0<=(W ((ln t0)-1))) <| gd ((W ((ln t0)-1))<=(ln t0)) <| l0 k (List.take (Int.toNat (W ((ln t0)-1))) t0) (ln (List.take (Int.toNat (W ((ln t0)-1))) t0)) 0 0 t1.1 t1.2 []) r):Ev (fun k=>f k a0) r:=evf (fun _ _ h=>by rw [<- qekz.k (dl h)]; exact zad Cx (by kernel_rfl)) h
theorem v0 {x0:List BA} {x1 x2 x3:Int} {x4:List (Int×Int)} {x5:Int} {x6:List BA} {r} (h:Ev (fun k=>if (iLt x2 x1) then ix x2 x0 <| (qgzz.f k x4 x5 (rd (bs []) x0 x2)).bind fun t0 =>
 gd (((lnN x6)+1)<=8796093022208) <| l0 k x0 x1 (W (x2+1)) x3 t0.1.1 t0.1.2 (x6++[t0.2]) else some ((x4,x5),(x6,true))) r):Ev (fun k=>l0 k x0 x1 x2 x3 x4 x5 x6) r:=evl [] 0 (fun _ _ _=>by kernel_rfl) h
end qhqz
namespace qdxz
def f (k:Fu) (a0:BA):Option ((List BA)×Bool):=PI Cx (k 0) 25 [vs a0]
theorem v {a0:BA} {r} (h:Ev (fun k=>(qhqz.f k a0).bind fun t0 =>
 some t0.2) r):Ev (fun k=>f k a0) r:=evf (fun _ _ _=>zad Cx (by kernel_rfl)) h
end qdxz
namespace qedz
abbrev P:=BA->Option (((List (Int×Int))×Int)×Bool)
def f:P:=fun a0=>(qeiz.f a0).bind fun t0 =>
 if (!t0.2.2) then some (([],0),false) else some (t0.1,true)
theorem k {K:Nat} (h:2<=K):(fun a0=>PI Cx K 11 [vs a0]:P)=f:=by
 obtain ⟨K,rfl⟩:=zah h
 funext a0
 unfold f
 rw [<- qeiz.k (dk h)]
 exact zad Cx (by kernel_rfl)
end qedz
namespace qcrz
def f (k:Fu) (a0:BA):Option ((List Int)×Bool):=PI Cx (k 0) 26 [vs a0]
def l0 (k:Fu) (x0:List BA) (x1 x2:Int) (x3:List Int):Option ((List Int)×Bool):=zao Cx (k 0) 26 [tt,tt,tt,tt,ff,tt,tt] [k 1] ⟨[(7,vf 1000000007000),(18,vl 9 .str x0),(19,vi x1),(20,vi x2)],[(1000000007000,.row 3 i6 x3 .own)],[]⟩
theorem v {a0:BA} {r} (h:Ev (fun k=>(qeiz.f a0).bind fun t0 =>
 if (!t0.2.2) then some ([],false) else l0 k t0.2.1 (ln t0.2.1) 0 []) r):Ev (fun k=>f k a0) r:=evf (fun _ _ h=>by rw [<- qeiz.k (dl h)]; exact zad Cx (by kernel_rfl)) h
theorem v0 {x0:List BA} {x1 x2:Int} {x3:List Int} {r} (h:Ev (fun k=>if (iLt x2 x1) then ix x2 x0 <| if (seq (rd (bs []) x0 x2) (bs [110,111])) then gd (((lnN x3)+1)<=17592186044416) <| l0 k x0 x1 (W (x2+1)) (x3++[(W (x2+1))]) else if (seq (rd (bs []) x0 x2) (bs [119,104,97,116])) then gd (((lnN x3)+1)<=17592186044416) <| l0 k x0 x1 (W (x2+1)) (x3++[(W (x2+1))]) else l0 k x0 x1 (W (x2+1)) x3 else some (x3,true)) r):Ev (fun k=>l0 k x0 x1 x2 x3) r:=evl [] 0 (fun _ _ _=>by kernel_rfl) h
end qcrz
namespace qhfz
def f (k:Fu) (a0 a1:List BA):Option Bool:=PI Cx (k 0) 27 [vl 9 .str a0,vl 9 .str a1]
def l0 (k:Fu) (x0 x1:List BA) (x2 x3:Int):Option Bool:=zao Cx (k 0) 27 [tt,tt,ff,tt,tt] [k 1] ⟨[(0,vl 9 .str x0),(1,vl 9 .str x1),(12,vi x2),(13,vi x3)],[],[]⟩
theorem v {a0 a1:List BA} {r} (h:Ev (fun k=>if ((ln a0) != (ln a1)) then some false else l0 k a0 a1 (ln a0) 0) r):Ev (fun k=>f k a0 a1) r:=evf (fun _ _ _=>zad Cx (by kernel_rfl)) h
theorem v0 {x0 x1:List BA} {x2 x3:Int} {r} (h:Ev (fun k=>if (iLt x3 x2) then ix x3 x0 <| ix x3 x1 <| if (!(seq (rd (bs []) x0 x3) (rd (bs []) x1 x3))) then some false else l0 k x0 x1 x2 (W (x3+1)) else some true) r):Ev (fun k=>l0 k x0 x1 x2 x3) r:=evl [] 0 (fun _ _ _=>by kernel_rfl) h
end qhfz
namespace qecz
abbrev P:=Option ((List (Int×Int))×Int)
def f:P:=some ([(0,3),(10,(-2))],10)
theorem k {K:Nat} (h:1<=K):(PI Cx K 68 []:P)=f:=by
 obtain ⟨K,rfl⟩:=zah h
 exact zad Cx (by kernel_rfl)
end qecz
namespace qepz
abbrev P:=Option ((List (Int×Int))×Int)
def f:P:=(qecz.f).bind fun t0 =>
 some t0
theorem k {K:Nat} (h:2<=K):(PI Cx K 28 []:P)=f:=by
 obtain ⟨K,rfl⟩:=zah h
 unfold f
 rw [<- qecz.k (dk h)]
 exact zad Cx (by kernel_rfl)
end qepz
namespace qctz
abbrev P:=BA->BA->Option Bool
def f:P:=fun a0 a1=>zl6 a0 a1
theorem k {K:Nat} (h:1<=K):(fun a0 a1=>PI Cx K 47 [vs a0,vs a1]:P)=f:=by
 obtain ⟨K,rfl⟩:=zah h
 funext a0 a1
 exact zad Cx (by kernel_rfl)
end qctz
namespace qfdz
def f (k:Fu) (a0:List (Int×Int)) (a1:Int) (a2:BA):Option (((List (Int×Int))×Int)×(BA×Bool)):=PI Cx (k 0) 17 [va [.sl 74 (.pair i6 i6) a0,ci a1],vs a2]
theorem v {a0:List (Int×Int)} {a1:Int} {a2:BA} {r} (h:Ev (fun k=>(qgvz.f k a0 a1).bind fun t0 =>
 if (!t0) then some (([],0),((bs []),false)) else if (iGt (sln a2) 3000) then some (([],0),((bs []),false)) else (qctz.f a2 (bs [10])).bind fun t1 =>
 if t1 then some (([],0),((bs []),false)) else (qewz.f k a0 a1 a2).bind fun t2 =>
 (qbfz.f t2.1.1).bind fun t3 =>
 some ((t3,t2.1.2),(t2.2,true))) r):Ev (fun k=>f k a0 a1 a2) r:=evf (fun _ _ h=>by rw [<- qctz.k (dl h),<- qbfz.k (dl h)]; exact zad Cx (by kernel_rfl)) h
end qfdz
namespace qevz
def f (k:Fu) (a0 a1:List (Int×Int)):Option Bool:=PI Cx (k 0) 53 [vl 74 (.pair i6 i6) a0,vl 74 (.pair i6 i6) a1]
def l0 (k:Fu) (x0 x1:List (Int×Int)) (x2 x3:Int):Option Bool:=zao Cx (k 0) 53 [tt,tt,ff,tt,tt] [k 1] ⟨[(0,vl 74 (.pair i6 i6) x0),(1,vl 74 (.pair i6 i6) x1),(12,vi x2),(13,vi x3)],[],[]⟩
theorem v {a0 a1:List (Int×Int)} {r} (h:Ev (fun k=>if ((ln a0) != (ln a1)) then some false else l0 k a0 a1 (ln a0) 0) r):Ev (fun k=>f k a0 a1) r:=evf (fun _ _ _=>zad Cx (by kernel_rfl)) h
theorem v0 {x0 x1:List (Int×Int)} {x2 x3:Int} {r} (h:Ev (fun k=>if (iLt x3 x2) then ix x3 x0 <| ix x3 x1 <| if (!(((rd (0,0) x0 x3).1 == (rd (0,0) x1 x3).1) && ((rd (0,0) x0 x3).2 == (rd (0,0) x1 x3).2))) then some false else l0 k x0 x1 x2 (W (x3+1)) else some true) r):Ev (fun k=>l0 k x0 x1 x2 x3) r:=evl [] 0 (fun _ _ _=>by kernel_rfl) h
end qevz
namespace qhgz
def f (k:Fu) (a0:List (Int×Int)) (a1:Int) (a2:List (Int×Int)) (a3:Int):Option Bool:=PI Cx (k 0) 19 [va [.sl 74 (.pair i6 i6) a0,ci a1],va [.sl 74 (.pair i6 i6) a2,ci a3]]
theorem v {a0:List (Int×Int)} {a1:Int} {a2:List (Int×Int)} {a3:Int} {r} (h:Ev (fun k=>if (a1 == a3) then (qevz.f k a0 a2).bind fun t0 =>
 some t0 else some false) r):Ev (fun k=>f k a0 a1 a2 a3) r:=evf (fun _ _ _=>zad Cx (by kernel_rfl)) h
end qhgz
namespace qdiz
def f (k:Fu) (a0:BA) (a1:Int):Option Bool:=PI Cx (k 0) 9 [vs a0,vi a1]
def l0 (k:Fu) (x0:BA) (x1 x2:List BA) (x3:Int) (x4:List (Int×Int)) (x5:Int) (x6:List Int):Option Bool:=zao Cx (k 0) 9 [tt,tt,tt,tt,tt,tt,tt,tt,ff,tt,ff,tt,tt,tt,tt] [k 1] ⟨[(0,vs x0),(5,vl 9 .str x1),(9,vp 5005000 0),(11,vf 1000000011000),(13,vl 9 .str x2),(15,vi x3)],[(5005000,.box 24 [.sl 74 (.pair i6 i6) x4,ci x5]),(1000000011000,.row 3 i6 x6 .own)],[]⟩
def l1 (k:Fu) (x0:BA) (x1:List BA) (x2:BA) (x3 x4 x5:Int) (x6:List (Int×Int)) (x7:Int) (x8:List Int) (x9:List (Int×Int)) (x10:Int):Option Bool:=zao Cx (k 0) 9 [tt,tt,tt,tt,tt,tt,tt,tt,tt,tt,tt,tt,ff,tt,tt] [k 2] ⟨[(0,vs x0),(5,vl 9 .str x1),(9,vp 5005000 0),(11,vf 1000000011000),(16,vp 20001000 0),(17,vs x2),(18,vi x3),(19,vi x4),(20,vi x5)],[(5005000,.box 24 [.sl 74 (.pair i6 i6) x6,ci x7]),(1000000011000,.row 3 i6 x8 .own),(20001000,.box 24 [.sl 74 (.pair i6 i6) x9,ci x10])],[]⟩
theorem v {a0:BA} {a1:Int} {r} (h:Ev (fun k=>if (iGt (sln a0) 1048576) then some true else (qebz.f a0).bind fun t0 =>
 (qdxz.f k a0).bind fun t1 =>
 (qedz.f a0).bind fun t2 =>
 (qcrz.f k a0).bind fun t3 =>
 if (!(t0.2 == t1.2)) then some false else (qhfz.f k t0.1 t1.1).bind fun t4 =>
 if (!t4) then some false else if (!(t2.2 == t0.2)) then some false else if (!(t3.2 == t0.2)) then some false else if (!t0.2) then some true else if (iGe a1 0) then if (iLe a1 (sln a0)) then if (a1 == 0) then gd (0<=a1) <| gd (a1<=(sln a0)) <| (qebz.f (ByteArray.extract a0 0 (Int.toNat a1))).bind fun t5 =>
 if (!t5.2) then some false else if (iGt (ln t5.1) (ln t0.1)) then some false else l0 k a0 t0.1 t5.1 0 t2.1.1 t2.1.2 t3.1 else gd (0<=(W (a1-1))) <| gd ((W (a1-1)) < (sln a0)) <| if ((bat a0 (W (a1-1))) == 10) then gd (0<=a1) <| gd (a1<=(sln a0)) <| (qebz.f (ByteArray.extract a0 0 (Int.toNat a1))).bind fun t5 =>
 if (!t5.2) then some false else if (iGt (ln t5.1) (ln t0.1)) then some false else l0 k a0 t0.1 t5.1 0 t2.1.1 t2.1.2 t3.1 else (qepz.f).bind fun t5 =>
 l1 k a0 t0.1 (bs []) 0 0 0 t2.1.1 t2.1.2 t3.1 t5.1 t5.2 else (qepz.f).bind fun t5 =>
 l1 k a0 t0.1 (bs []) 0 0 0 t2.1.1 t2.1.2 t3.1 t5.1 t5.2 else (qepz.f).bind fun t5 =>
 l1 k a0 t0.1 (bs []) 0 0 0 t2.1.1 t2.1.2 t3.1 t5.1 t5.2) r):Ev (fun k=>f k a0 a1) r:=evf (fun _ _ h=>by rw [<- qebz.k (dl h),<- qedz.k (dl h),<- qepz.k (dl h)]; exact zad Cx (by kernel_rfl)) h
theorem v0 {x0:BA} {x1 x2:List BA} {x3:Int} {x4:List (Int×Int)} {x5:Int} {x6:List Int} {r} (h:Ev (fun k=>if (iLt x3 (ln x2)) then ix x3 x2 <| ix x3 x1 <| if (!(seq (rd (bs []) x2 x3) (rd (bs []) x1 x3))) then some false else l0 k x0 x1 x2 (W (x3+1)) x4 x5 x6 else (qepz.f).bind fun t0 =>
 l1 k x0 x1 (bs []) 0 0 0 x4 x5 x6 t0.1 t0.2) r):Ev (fun k=>l0 k x0 x1 x2 x3 x4 x5 x6) r:=evl [] 0 (fun _ _ h=>by rw [<- qepz.k (dl h)]; kernel_rfl) h
theorem v1 {x0:BA} {x1:List BA} {x2:BA} {x3 x4 x5:Int} {x6:List (Int×Int)} {x7:Int} {x8:List Int} {x9:List (Int×Int)} {x10:Int} {r} (h:Ev (fun k=>if (iLt x5 (sln x0)) then gd (0<=x5) <| gd (x5 < (sln x0)) <| if ((bat x0 x5) != 10) then gd (0<=x5) <| gd (x5<=(W (x5+1))) <| gd ((W (x5+1))<=(sln x0)) <| gd (((ByteArray.size x2)+(ByteArray.size (ByteArray.extract x0 (Int.toNat x5) (Int.toNat (W (x5+1))))))<=maxLen) <| l1 k x0 x1 (x2++(ByteArray.extract x0 (Int.toNat x5) (Int.toNat (W (x5+1))))) x3 x4 (W (x5+1)) x6 x7 x8 x9 x10 else (qfdz.f k x9 x10 x2).bind fun t0 =>
 if (!t0.2.2) then some false else if (iGe x3 (ln x1)) then some false else ix x3 x1 <| if (!(seq (rd (bs []) x1 x3) t0.2.1)) then some false else if (seq t0.2.1 (bs [110,111])) then if (iGe x4 (ln x8)) then some false else ix x4 x8 <| if ((rd 0 x8 x4) != (W (x3+1))) then some false else l1 k x0 x1 (bs []) (W (x3+1)) (W (x4+1)) (W (x5+1)) x6 x7 x8 t0.1.1 t0.1.2 else if (seq t0.2.1 (bs [119,104,97,116])) then if (iGe x4 (ln x8)) then some false else ix x4 x8 <| if ((rd 0 x8 x4) != (W (x3+1))) then some false else l1 k x0 x1 (bs []) (W (x3+1)) (W (x4+1)) (W (x5+1)) x6 x7 x8 t0.1.1 t0.1.2 else l1 k x0 x1 (bs []) (W (x3+1)) x4 (W (x5+1)) x6 x7 x8 t0.1.1 t0.1.2 else if (x3 == (ln x1)) then if (x4 == (ln x8)) then (qhgz.f k x9 x10 x6 x7).bind fun t0 =>
 some t0 else some false else some false) r):Ev (fun k=>l1 k x0 x1 x2 x3 x4 x5 x6 x7 x8 x9 x10) r:=evl [] 1 (fun _ _ _=>by kernel_rfl) h
end qdiz
end
end Go.Proofs.YtdhkgmhdengnkaaGreatDoor.Ta
