/- What functions of the program compute. -/
import Derived.Test.YtdhkgmhdengnkaaGreatDoorLiF0
namespace Go.Proofs.YtdhkgmhdengnkaaGreatDoor.Li
open Go Go.Proofs.YtdhkgmhdengnkaaGreatDoorPi Go.RowKit
set_option maxRecDepth 100000
set_option linter.unusedVariables false
noncomputable section
namespace qhhz
abbrev P:=Int->Int->Option Bool
def f:P:=fun a0 a1=>(qgoz.f a0 0 1000000).bind fun t0 =>
 if t0 then (qgoz.f a1 1 1000).bind fun t1 =>
 some t1 else some false
theorem k {K:Nat} (h:2<=K):(fun a0 a1=>PI Cx K 244 [vi a0,vi a1]:P)=f:=by
 obtain ⟨K,rfl⟩:=zae h
 funext a0 a1
 unfold f
 rw [<- qgoz.k (dk h)]
 exact zac Cx (by kernel_rfl)
end qhhz
namespace qgbz
abbrev P:=Int->Int->Int->Int->Option Int
def f:P:=fun a0 a1 a2 a3=>some (W ((W (a0*a3))+(W (a1*a2))))
theorem k {K:Nat} (h:1<=K):(fun a0 a1 a2 a3=>PI Cx K 111 [va [ci a0,ci a1],vi a2,vi a3]:P)=f:=by
 obtain ⟨K,rfl⟩:=zae h
 funext a0 a1 a2 a3
 exact zac Cx (by kernel_rfl)
end qgbz
namespace qctz
abbrev P:=Int->Int->Int->Int->Int->Int->Option Int
def f:P:=fun a0 a1 a2 a3 a4 a5=>(qgbz.f a0 a1 a4 a5).bind fun t0 =>
 (qgbz.f a2 a3 a4 a5).bind fun t1 =>
 (qduz.f t0 t1).bind fun t2 =>
 some t2
theorem k {K:Nat} (h:3<=K):(fun a0 a1 a2 a3 a4 a5=>PI Cx K 245 [va [ci a0,ci a1],va [ci a2,ci a3],.sv (.one (.rptr [ci a4] 0)),.sv (.one (.rptr [ci a5] 0))]:P)=f:=by
 obtain ⟨K,rfl⟩:=zae h
 funext a0 a1 a2 a3 a4 a5
 unfold f
 rw [<- qgbz.k (dk h),<- qduz.k (dk h)]
 exact zac Cx (by kernel_rfl)
end qctz
namespace qbjz
abbrev P:=Int->Int->Int->Int->List (Int×Int)->Option Int
def f:P:=fun a0 a1 a2 a3 a4=>ix a0 a4 <| ix a1 a4 <| (qctz.f (rd (0,0) a4 a0).1 (rd (0,0) a4 a0).2 (rd (0,0) a4 a1).1 (rd (0,0) a4 a1).2 a2 a3).bind fun t0 =>
 some t0
theorem k {K:Nat} (h:4<=K):(fun a0 a1 a2 a3 a4=>PI Cx K 277 [vi a0,vi a1,.sv (.one (.rptr [.fn 245 [.rptr [ci a2] 0,.rptr [ci a3] 0]] 0)),.sv (.one (.rptr [.sl 74 (.pair i6 i6) a4] 0))]:P)=f:=by
 obtain ⟨K,rfl⟩:=zae h
 funext a0 a1 a2 a3 a4
 unfold f
 rw [<- qctz.k (dk h)]
 exact zac Cx (by kernel_rfl)
end qbjz
namespace qalz
def f (k:Fu) (a0:List Int) (a1 a2 a3 a4:Int) (a5:List (Int×Int)):Option (List Int):=PI Cx (k 0) 305 [.sv (.one (.frow 3 i6 a0)),vi a1,vi a2,.sv (.one (.fn 277 [.rptr [.fn 245 [.rptr [ci a3] 0,.rptr [ci a4] 0]] 0,.rptr [.sl 74 (.pair i6 i6) a5] 0]))]
def l0 (k:Fu) (x0 x1 x2 x3:Int) (x4:List (Int×Int)) (x5:Int) (x6:List Int):Option (List Int):=zap Cx (k 0) 305 [tt,tt] [k 1] ⟨[(0,vf 9000000000000001),(1,vi x0),(2,vi x1),(3,.sv (.one (.fn 277 [.rptr [.fn 245 [.rptr [ci x2] 0,.rptr [ci x3] 0]] 0,.rptr [.sl 74 (.pair i6 i6) x4] 0]))),(8,vi x5)],[(9000000000000001,.row 3 i6 x6 .lent)],[]⟩
def l1 (k:Fu) (x0 x1 x2 x3:Int) (x4:List (Int×Int)) (x5 x6:Int) (x7:List Int):Option (List Int):=zap Cx (k 0) 305 [tt,tt,tt,tt,ff,tt,tt,tt] [k 1,k 2] ⟨[(0,vf 9000000000000001),(1,vi x0),(2,vi x1),(3,.sv (.one (.fn 277 [.rptr [.fn 245 [.rptr [ci x2] 0,.rptr [ci x3] 0]] 0,.rptr [.sl 74 (.pair i6 i6) x4] 0]))),(8,vi x5),(9,vi x6)],[(9000000000000001,.row 3 i6 x7 .lent)],[]⟩
theorem v {a0:List Int} {a1 a2 a3 a4:Int} {a5:List (Int×Int)} {r} (h:Ev (fun k=>l0 k a1 a2 a3 a4 a5 (W (a1+1)) a0) r):Ev (fun k=>f k a0 a1 a2 a3 a4 a5) r:=evf (fun _ _ _=>zac Cx (by kernel_rfl)) h
theorem v0 {x0 x1 x2 x3:Int} {x4:List (Int×Int)} {x5:Int} {x6:List Int} {r} (h:Ev (fun k=>if (iLt x5 x1) then l1 k x0 x1 x2 x3 x4 x5 x5 x6 else some x6) r):Ev (fun k=>l0 k x0 x1 x2 x3 x4 x5 x6) r:=evl [] 0 (fun _ _ _=>by kernel_rfl) h
theorem v1 {x0 x1 x2 x3:Int} {x4:List (Int×Int)} {x5 x6:Int} {x7:List Int} {r} (h:Ev (fun k=>if (iGt x6 x0) then ix x6 x7 <| ix (W (x6-1)) x7 <| (qbjz.f (rd 0 x7 x6) (rd 0 x7 (W (x6-1))) x2 x3 x4).bind fun t0 =>
 if (iLt t0 0) then ix (W (x6-1)) x7 <| ix x6 x7 <| ix x6 x7 <| ix (W (x6-1)) (List.set x7 (Int.toNat x6) (rd 0 x7 (W (x6-1)))) <| l1 k x0 x1 x2 x3 x4 x5 (W (x6-1)) (List.set (List.set x7 (Int.toNat x6) (rd 0 x7 (W (x6-1)))) (Int.toNat (W (x6-1))) (rd 0 x7 x6)) else l0 k x0 x1 x2 x3 x4 (W (x5+1)) x7 else l0 k x0 x1 x2 x3 x4 (W (x5+1)) x7) r):Ev (fun k=>l1 k x0 x1 x2 x3 x4 x5 x6 x7) r:=evl [1] 1 (fun _ _ h=>by rw [<- qbjz.k (dl h)]; kernel_rfl) h
end qalz
namespace qasz
def f (k:Fu) (a0:List Int) (a1 a2 a3 a4 a5:Int) (a6:List (Int×Int)):Option (List Int):=PI Cx (k 0) 306 [.sv (.one (.frow 3 i6 a0)),vi a1,vi a2,vi a3,.sv (.one (.fn 277 [.rptr [.fn 245 [.rptr [ci a4] 0,.rptr [ci a5] 0]] 0,.rptr [.sl 74 (.pair i6 i6) a6] 0]))]
end qasz
namespace qawz
def f (k:Fu) (a0:List Int) (a1 a2 a3:Int) (a4:List (Int×Int)):Option (List Int):=PI Cx (k 0) 294 [.sv (.one (.frow 3 i6 a0)),vi a1,.sv (.one (.fn 277 [.rptr [.fn 245 [.rptr [ci a2] 0,.rptr [ci a3] 0]] 0,.rptr [.sl 74 (.pair i6 i6) a4] 0]))]
def l0 (k:Fu) (x0 x1 x2:Int) (x3:List (Int×Int)) (x4 x5 x6:Int) (x7:List Int):Option (List Int):=zap Cx (k 0) 294 [tt,tt,ff,tt] [k 1] ⟨[(0,vf 9000000000000001),(1,vi x0),(2,.sv (.one (.fn 277 [.rptr [.fn 245 [.rptr [ci x1] 0,.rptr [ci x2] 0]] 0,.rptr [.sl 74 (.pair i6 i6) x3] 0]))),(6,vi x4),(7,vi x5),(8,vi x6)],[(9000000000000001,.row 3 i6 x7 .lent)],[]⟩
def l1 (k:Fu) (x0 x1 x2:Int) (x3:List (Int×Int)) (x4:Int) (x5:List Int):Option (List Int):=zap Cx (k 0) 294 [tt,tt,tt,tt,tt] [k 2] ⟨[(0,vf 9000000000000001),(1,vi x0),(2,.sv (.one (.fn 277 [.rptr [.fn 245 [.rptr [ci x1] 0,.rptr [ci x2] 0]] 0,.rptr [.sl 74 (.pair i6 i6) x3] 0]))),(6,vi x4)],[(9000000000000001,.row 3 i6 x5 .lent)],[]⟩
def l2 (k:Fu) (x0 x1 x2:Int) (x3:List (Int×Int)) (x4 x5 x6:Int) (x7:List Int):Option (List Int):=zap Cx (k 0) 294 [tt,tt,tt,tt,tt,tt,tt,tt,tt,ff,tt] [k 2,k 3] ⟨[(0,vf 9000000000000001),(1,vi x0),(2,.sv (.one (.fn 277 [.rptr [.fn 245 [.rptr [ci x1] 0,.rptr [ci x2] 0]] 0,.rptr [.sl 74 (.pair i6 i6) x3] 0]))),(6,vi x4),(7,vi x5),(8,vi x6)],[(9000000000000001,.row 3 i6 x7 .lent)],[]⟩
theorem v {a0:List Int} {a1 a2 a3:Int} {a4:List (Int×Int)} {r} (h:Ev (fun k=>l0 k a1 a2 a3 a4 20 0 20 a0) r):Ev (fun k=>f k a0 a1 a2 a3 a4) r:=evf (fun _ _ _=>zac Cx (by kernel_rfl)) h
theorem v0 {x0 x1 x2:Int} {x3:List (Int×Int)} {x4 x5 x6:Int} {x7:List Int} {r} (h:Ev (fun k=>if (iLe x6 x0) then (qalz.f k x7 x5 x6 x1 x2 x3).bind fun t0 =>
 l0 k x0 x1 x2 x3 x4 x6 (W (x6+x4)) t0 else (qalz.f k x7 x5 x0 x1 x2 x3).bind fun t0 =>
 l1 k x0 x1 x2 x3 x4 t0) r):Ev (fun k=>l0 k x0 x1 x2 x3 x4 x5 x6 x7) r:=evl [] 0 (fun _ _ _=>by kernel_rfl) h
theorem v1 {x0 x1 x2:Int} {x3:List (Int×Int)} {x4:Int} {x5:List Int} {r} (h:Ev (fun k=>if (iLt x4 x0) then l2 k x0 x1 x2 x3 x4 0 (W (2*x4)) x5 else some x5) r):Ev (fun k=>l1 k x0 x1 x2 x3 x4 x5) r:=evl [] 1 (fun _ _ _=>by kernel_rfl) h
theorem v2 {x0 x1 x2:Int} {x3:List (Int×Int)} {x4 x5 x6:Int} {x7:List Int} {r} (h:Ev (fun k=>if (iLe x6 x0) then (qasz.f k x7 x5 (W (x5+x4)) x6 x1 x2 x3).bind fun t0 =>
 l2 k x0 x1 x2 x3 x4 x6 (W (x6+(W (2*x4)))) t0 else if (iLt (W (x5+x4)) x0) then (qasz.f k x7 x5 (W (x5+x4)) x0 x1 x2 x3).bind fun t0 =>
 l1 k x0 x1 x2 x3 (W (x4*2)) t0 else l1 k x0 x1 x2 x3 (W (x4*2)) x7) r):Ev (fun k=>l2 k x0 x1 x2 x3 x4 x5 x6 x7) r:=evl [2] 2 (fun _ _ _=>by kernel_rfl) h
end qawz
namespace qaoz
def f (k:Fu) (a0:List Int) (a1 a2:Int) (a3:List (Int×Int)):Option (List Int):=PI Cx (k 0) 276 [.sv (.one (.frow 3 i6 a0)),.sv (.one (.fn 277 [.rptr [.fn 245 [.rptr [ci a1] 0,.rptr [ci a2] 0]] 0,.rptr [.sl 74 (.pair i6 i6) a3] 0]))]
theorem v {a0:List Int} {a1 a2:Int} {a3:List (Int×Int)} {r} (h:Ev (fun k=>(qawz.f k a0 (ln a0) a1 a2 a3).bind fun t0 =>
 some t0) r):Ev (fun k=>f k a0 a1 a2 a3) r:=evf (fun _ _ _=>zac Cx (by kernel_rfl)) h
end qaoz
namespace qbgz
def f (k:Fu) (a0:List (Int×Int)) (a1 a2:Int):Option (List Int):=PI Cx (k 0) 241 [vl 74 (.pair i6 i6) a0,.sv (.one (.fn 245 [.rptr [ci a1] 0,.rptr [ci a2] 0]))]
def l0 (k:Fu) (x0 x1:Int) (x2:List (Int×Int)) (x3 x4:Int) (x5:List Int):Option (List Int):=zap Cx (k 0) 241 [tt,tt,ff,tt,tt] [k 1] ⟨[(2,vp 0 0),(3,vp 1000 0),(5,vf 1000000005000),(11,vi x0),(12,vi x1)],[(0,.box 22 [.sl 74 (.pair i6 i6) x2]),(1000,.box 227 [.fn 245 [.rptr [ci x3] 0,.rptr [ci x4] 0]]),(1000000005000,.row 3 i6 x5 .own)],[]⟩
theorem v {a0:List (Int×Int)} {a1 a2:Int} {r} (h:Ev (fun k=>gd (0<=(ln a0)) <| gd ((ln a0)<=(ln a0)) <| gd (((ln a0)*8)<=140737488355328) <| l0 k (ln (List.replicate (Int.toNat (ln a0)) (0:Int))) 0 a0 a1 a2 (List.replicate (Int.toNat (ln a0)) (0:Int))) r):Ev (fun k=>f k a0 a1 a2) r:=evf (fun _ _ _=>zac Cx (by kernel_rfl)) h
theorem v0 {x0 x1:Int} {x2:List (Int×Int)} {x3 x4:Int} {x5:List Int} {r} (h:Ev (fun k=>if (iLt x1 x0) then ix x1 x5 <| l0 k x0 (W (x1+1)) x2 x3 x4 (List.set x5 (Int.toNat x1) x1) else (qaoz.f k x5 x3 x4 x2).bind fun t0 =>
 some t0) r):Ev (fun k=>l0 k x0 x1 x2 x3 x4 x5) r:=evl [] 0 (fun _ _ _=>by kernel_rfl) h
end qbgz
namespace qeoz
def f (k:Fu) (a0:List (Int×Int)) (a1 a2:Int):Option ((List Int)×Bool):=PI Cx (k 0) 200 [vl 74 (.pair i6 i6) a0,vi a1,vi a2]
theorem v {a0:List (Int×Int)} {a1 a2:Int} {r} (h:Ev (fun k=>(qdrz.f k a0).bind fun t0 =>
 if (!t0) then some ([],false) else (qhhz.f a1 a2).bind fun t1 =>
 if (!t1) then some ([],false) else (qbgz.f k a0 a1 a2).bind fun t2 =>
 some (t2,true)) r):Ev (fun k=>f k a0 a1 a2) r:=evf (fun _ _ h=>by rw [<- qhhz.k (dl h)]; exact zac Cx (by kernel_rfl)) h
end qeoz
namespace qeez
def f (k:Fu) (a0:Int) (a1:List (Int×Int)):Option (Int×(Int×Bool)):=PI Cx (k 0) 202 [vi a0,vl 74 (.pair i6 i6) a1]
def l0 (k:Fu) (x0 x1:Int) (x2:List (Int×Int)) (x3 x4:Int):Option (Int×(Int×Bool)):=zap Cx (k 0) 202 [tt,tt,tt,ff,tt,tt] [k 1] ⟨[(0,vi x0),(7,vi x1),(20,vl 74 (.pair i6 i6) x2),(21,vi x3),(22,vi x4)],[],[]⟩
theorem v {a0:Int} {a1:List (Int×Int)} {r} (h:Ev (fun k=>(qhmz.f a0).bind fun t0 =>
 if (!t0) then some (0,(0,false)) else (qdrz.f k a1).bind fun t1 =>
 if (!t1) then some (0,(0,false)) else l0 k a0 0 a1 (ln a1) 0) r):Ev (fun k=>f k a0 a1) r:=evf (fun _ _ h=>by rw [<- qhmz.k (dl h)]; exact zac Cx (by kernel_rfl)) h
theorem v0 {x0 x1:Int} {x2:List (Int×Int)} {x3 x4:Int} {r} (h:Ev (fun k=>if (iLt x4 x3) then ix x4 x2 <| (qidz.f (rd (0,0) x2 x4).2).bind fun t0 =>
 (qevz.f k x1 t0).bind fun t1 =>
 l0 k x0 t1 x2 x3 (W (x4+1)) else if (x1 == 0) then some (0,(0,false)) else (qhlz.f k x0 x1).bind fun t0 =>
 some (t0.1,(t0.2,true))) r):Ev (fun k=>l0 k x0 x1 x2 x3 x4) r:=evl [] 0 (fun _ _ h=>by rw [<- qidz.k (dl h)]; kernel_rfl) h
end qeez
namespace qikz
def f (k:Fu) (a0 a1:Int) (a2:Bool):Option (BA×Bool):=PI Cx (k 0) 201 [vi a0,vi a1,vb a2]
theorem v {a0 a1:Int} {a2:Bool} {r} (h:Ev (fun k=>(qczz.f k [a0,a1] (bs [47])).bind fun t0 =>
 some (t0,a2)) r):Ev (fun k=>f k a0 a1 a2) r:=evf (fun _ _ _=>zac Cx (by kernel_rfl)) h
end qikz
namespace qcqz
def f (k:Fu) (a0 a1 a2 a3:Int):Option (Int×(Int×Bool)):=PI Cx (k 0) 58 [va [ci a0,ci a1],va [ci a2,ci a3]]
theorem v {a0 a1 a2 a3:Int} {r} (h:Ev (fun k=>(qfdz.f a0 a1).bind fun t0 =>
 if (!t0) then some (0,(0,false)) else (qfdz.f a2 a3).bind fun t1 =>
 if (!t1) then some (0,(0,false)) else (qdcz.f k a0 a1 a2 a3).bind fun t2 =>
 some t2) r):Ev (fun k=>f k a0 a1 a2 a3) r:=evf (fun _ _ h=>by rw [<- qfdz.k (dl h)]; exact zac Cx (by kernel_rfl)) h
end qcqz
namespace qciz
def f (k:Fu) (a0 a1 a2 a3:Int):Option (Int×(Int×Bool)):=PI Cx (k 0) 59 [va [ci a0,ci a1],va [ci a2,ci a3]]
theorem v {a0 a1 a2 a3:Int} {r} (h:Ev (fun k=>(qfdz.f a0 a1).bind fun t0 =>
 if (!t0) then some (0,(0,false)) else (qfdz.f a2 a3).bind fun t1 =>
 if (!t1) then some (0,(0,false)) else (qdcz.f k a0 a1 a2 a3).bind fun t2 =>
 if (!t2.2.2) then some (0,(0,false)) else (qgbz.f a0 a1 t2.1 t2.2.1).bind fun t3 =>
 (qhlz.f k t3 t2.2.1).bind fun t4 =>
 some (t4.1,(t4.2,true))) r):Ev (fun k=>f k a0 a1 a2 a3) r:=evf (fun _ _ h=>by rw [<- qfdz.k (dl h),<- qgbz.k (dl h)]; exact zac Cx (by kernel_rfl)) h
end qciz
namespace qfjz
abbrev P:=Int->Int->Option Int
def f:P:=fun a0 a1=>if a1=0 then none else if a1=0 then none else if (iLt (Int.tmod a0 a1) 0) then some (W ((W (Int.tdiv a0 a1))-1)) else some (W (Int.tdiv a0 a1))
theorem k {K:Nat} (h:1<=K):(fun a0 a1=>PI Cx K 307 [vi a0,vi a1]:P)=f:=by
 obtain ⟨K,rfl⟩:=zae h
 funext a0 a1
 exact zac Cx (by kernel_rfl)
end qfjz
namespace qgmz
abbrev P:=Int->Int->Option Int
def f:P:=fun a0 a1=>(qfjz.f a0 a1).bind fun t0 =>
 some (W (a0-(W (a1*t0))))
theorem k {K:Nat} (h:2<=K):(fun a0 a1=>PI Cx K 295 [vi a0,vi a1]:P)=f:=by
 obtain ⟨K,rfl⟩:=zae h
 funext a0 a1
 unfold f
 rw [<- qfjz.k (dk h)]
 exact zac Cx (by kernel_rfl)
end qgmz
namespace qgcz
abbrev P:=Int->Int->Int->Int->Int->Option (Int×Int)
def f:P:=fun a0 a1 a2 a3 a4=>if (iLt a2 a4) then (qgmz.f (W (a1-a3)) a0).bind fun t0 =>
 some (t0,(W (a4-a2))) else (qgmz.f (W (a3-a1)) a0).bind fun t0 =>
 some (t0,(W (a2-a4)))
theorem k {K:Nat} (h:3<=K):(fun a0 a1 a2 a3 a4=>PI Cx K 278 [vi a0,va [ci a1,ci a2],va [ci a3,ci a4]]:P)=f:=by
 obtain ⟨K,rfl⟩:=zae h
 funext a0 a1 a2 a3 a4
 unfold f
 rw [<- qgmz.k (dk h)]
 exact zac Cx (by kernel_rfl)
end qgcz
namespace qezz
def f (k:Fu) (a0 a1 a2 a3 a4:Int):Option (Int×(Int×Bool)):=PI Cx (k 0) 246 [vi a0,va [ci a1,ci a2],va [ci a3,ci a4]]
theorem v {a0 a1 a2 a3 a4:Int} {r} (h:Ev (fun k=>(qhmz.f a0).bind fun t0 =>
 if (!t0) then some (0,(0,false)) else (qfdz.f a1 a2).bind fun t1 =>
 if (!t1) then some (0,(0,false)) else (qfdz.f a3 a4).bind fun t2 =>
 if (!t2) then some (0,(0,false)) else (qgcz.f a0 a1 a2 a3 a4).bind fun t3 =>
 if (t3.2 == 0) then if (iGt t3.1 0) then some (0,(0,false)) else if (t3.2 == 0) then some (0,(1,true)) else (qhlz.f k t3.1 t3.2).bind fun t4 =>
 some (t4.1,(t4.2,true)) else if (t3.2 == 0) then some (0,(1,true)) else (qhlz.f k t3.1 t3.2).bind fun t4 =>
 some (t4.1,(t4.2,true))) r):Ev (fun k=>f k a0 a1 a2 a3 a4) r:=evf (fun _ _ h=>by rw [<- qhmz.k (dl h),<- qfdz.k (dl h),<- qgcz.k (dl h)]; exact zac Cx (by kernel_rfl)) h
end qezz
namespace qgjz
def f (k:Fu) (a0 a1 a2 a3 a4:Int):Option (Int×(Int×Bool)):=PI Cx (k 0) 247 [vi a0,va [ci a1,ci a2],va [ci a3,ci a4]]
theorem v {a0 a1 a2 a3 a4:Int} {r} (h:Ev (fun k=>(qhmz.f a0).bind fun t0 =>
 if (!t0) then some (0,(0,false)) else (qfdz.f a1 a2).bind fun t1 =>
 if (!t1) then some (0,(0,false)) else (qfdz.f a3 a4).bind fun t2 =>
 if (!t2) then some (0,(0,false)) else if (a2 == a4) then some (0,(0,false)) else (qidz.f (W (a2-a4))).bind fun t3 =>
 (qhlz.f k a0 t3).bind fun t4 =>
 some (t4.1,(t4.2,true))) r):Ev (fun k=>f k a0 a1 a2 a3 a4) r:=evf (fun _ _ h=>by rw [<- qhmz.k (dl h),<- qfdz.k (dl h),<- qidz.k (dl h)]; exact zac Cx (by kernel_rfl)) h
end qgjz
namespace qdnz
def f (k:Fu) (a0 a1 a2 a3 a4:Int):Option (List (List Int)):=PI Cx (k 0) 279 [vi a0,va [ci a1,ci a2],va [ci a3,ci a4]]
def l0 (k:Fu) (x0 x1 x2 x3 x4 x5 x6:Int) (x7:List Int):Option (List (List Int)):=zap Cx (k 0) 279 [tt,tt,tt,ff,tt,tt] [k 1] ⟨[(0,vi x0),(4,vp 0 0),(7,vi x1),(8,vi x2),(9,vf 1000000009000),(23,vi x3),(24,vi x4)],[(0,.box 74 [ci x5,ci x6]),(1000000009000,.row 3 i6 x7 .own)],[]⟩
def l1 (k:Fu) (x0 x1 x2:Int) (x3:List (List Int)) (x4:List Int):Option (List (List Int)):=zap Cx (k 0) 279 [tt,tt,tt,tt,tt,tt,ff,tt,tt] [k 2] ⟨[(8,vi x0),(11,vf 1000000011000),(51,vf 1000000051000),(52,vi x1),(53,vi x2)],[(1000000011000,.row 44 (.sl 3 i6) x3 .own),(1000000051000,.row 3 i6 x4 .own)],[]⟩
theorem v {a0 a1 a2 a3 a4:Int} {r} (h:Ev (fun k=>(qgcz.f a0 a1 a2 a3 a4).bind fun t0 =>
 l0 k a0 t0.1 t0.2 t0.2 0 a1 a2 []) r):Ev (fun k=>f k a0 a1 a2 a3 a4) r:=evf (fun _ _ h=>by rw [<- qgcz.k (dl h)]; exact zac Cx (by kernel_rfl)) h
theorem v0 {x0 x1 x2 x3 x4 x5 x6:Int} {x7:List Int} {r} (h:Ev (fun k=>if (iLt x4 x3) then (qgmz.f (W ((W (x5*x2))+(W (x6*(W (x1+(W (x4*x0)))))))) (W (x0*x2))).bind fun t0 =>
 gd (((lnN x7)+1)<=17592186044416) <| l0 k x0 x1 x2 x3 (W (x4+1)) x5 x6 (x7++[t0]) else gd (0 < (ln x7)) <| gd ((ln x7)<=5000000000000) <| gd (0 < (ln (zgM x7))) <| gd ((ln (zgM x7))<=5000000000000) <| l1 k x2 (ln (zav (zgM x7))) 0 [] (zav (zgM x7))) r):Ev (fun k=>l0 k x0 x1 x2 x3 x4 x5 x6 x7) r:=evl [] 0 (fun _ _ h=>by rw [<- qgmz.k (dl h)]; kernel_rfl) h
theorem v1 {x0 x1 x2:Int} {x3:List (List Int)} {x4:List Int} {r} (h:Ev (fun k=>if (iLt x2 x1) then ix x2 x4 <| (qhlz.f k (rd 0 x4 x2) x0).bind fun t0 =>
 gd (((lnN x3)+1)<=5864062014805) <| l1 k x0 x1 (W (x2+1)) (x3++[[t0.1,t0.2]]) x4 else some x3) r):Ev (fun k=>l1 k x0 x1 x2 x3 x4) r:=evl [] 1 (fun _ _ _=>by kernel_rfl) h
end qdnz
namespace qdwz
def f (k:Fu) (a0 a1 a2 a3 a4:Int):Option ((List (List Int))×Bool):=PI Cx (k 0) 248 [vi a0,va [ci a1,ci a2],va [ci a3,ci a4]]
theorem v {a0 a1 a2 a3 a4:Int} {r} (h:Ev (fun k=>(qhmz.f a0).bind fun t0 =>
 if (!t0) then some ([],false) else (qfdz.f a1 a2).bind fun t1 =>
 if (!t1) then some ([],false) else (qfdz.f a3 a4).bind fun t2 =>
 if (!t2) then some ([],false) else if (a2 == a4) then some ([],false) else (qdnz.f k a0 a1 a2 a3 a4).bind fun t3 =>
 some (t3,true)) r):Ev (fun k=>f k a0 a1 a2 a3 a4) r:=evf (fun _ _ h=>by rw [<- qhmz.k (dl h),<- qfdz.k (dl h)]; exact zac Cx (by kernel_rfl)) h
end qdwz
namespace qifz
def f (k:Fu) (a0:List (List Int)) (a1 a2:BA) (a3:Bool):Option (BA×Bool):=PI Cx (k 0) 249 [vl 44 (.sl 3 i6) a0,vs a1,vs a2,vb a3]
def l0 (k:Fu) (x0 x1:BA) (x2:Bool) (x3:List (List Int)) (x4 x5:Int) (x6:List BA):Option (BA×Bool):=zap Cx (k 0) 249 [tt,tt,tt,ff,tt,tt] [k 1] ⟨[(1,vs x0),(2,vs x1),(3,vb x2),(10,vf 1000000010000),(20,vl 44 (.sl 3 i6) x3),(21,vi x4),(22,vi x5)],[(1000000010000,.row 9 .str x6 .own)],[]⟩
theorem v {a0:List (List Int)} {a1 a2:BA} {a3:Bool} {r} (h:Ev (fun k=>if ((ln a0) == 0) then some ((bs [45]),a3) else gd (0<=(ln a0)) <| gd ((ln a0)<=(ln a0)) <| gd (((ln a0)*16)<=140737488355328) <| l0 k a1 a2 a3 a0 (ln a0) 0 (List.replicate (Int.toNat (ln a0)) (bs []))) r):Ev (fun k=>f k a0 a1 a2 a3) r:=evf (fun _ _ _=>zac Cx (by kernel_rfl)) h
theorem v0 {x0 x1:BA} {x2:Bool} {x3:List (List Int)} {x4 x5:Int} {x6:List BA} {r} (h:Ev (fun k=>if (iLt x5 x4) then ix x5 x3 <| (qczz.f k (rd [] x3 x5) x0).bind fun t0 =>
 ix x5 x6 <| l0 k x0 x1 x2 x3 x4 (W (x5+1)) (List.set x6 (Int.toNat x5) t0) else (qgiz.f x6 x1).bind fun t0 =>
 some (t0,x2)) r):Ev (fun k=>l0 k x0 x1 x2 x3 x4 x5 x6) r:=evl [] 0 (fun _ _ h=>by rw [<- qgiz.k (dl h)]; kernel_rfl) h
end qifz
namespace qcez
def f (k:Fu) (a0:List (Int×Int)) (a1:Int) (a2:BA) (a3 a4 a5 a6:Int):Option (BA×Bool):=PI Cx (k 0) 203 [va [.sl 74 (.pair i6 i6) a0,ci a1],vs a2,va [ci a3,ci a4],va [ci a5,ci a6]]
theorem v {a0:List (Int×Int)} {a1:Int} {a2:BA} {a3 a4 a5 a6:Int} {r} (h:Ev (fun k=>if (seq a2 (bs [109,101,101,116])) then (qcqz.f k a3 a4 a5 a6).bind fun t0 =>
 (qikz.f k t0.1 t0.2.1 t0.2.2).bind fun t1 =>
 some t1 else if (seq a2 (bs [119,104,101,114,101])) then (qciz.f k a3 a4 a5 a6).bind fun t0 =>
 (qikz.f k t0.1 t0.2.1 t0.2.2).bind fun t1 =>
 some t1 else if (seq a2 (bs [97,114,111,117,110,100])) then (qezz.f k a1 a3 a4 a5 a6).bind fun t0 =>
 (qikz.f k t0.1 t0.2.1 t0.2.2).bind fun t1 =>
 some t1 else if (seq a2 (bs [103,97,112])) then (qgjz.f k a1 a3 a4 a5 a6).bind fun t0 =>
 (qikz.f k t0.1 t0.2.1 t0.2.2).bind fun t1 =>
 some t1 else (qdwz.f k a1 a3 a4 a5 a6).bind fun t0 =>
 (qifz.f k t0.1 (bs [47]) (bs [44]) t0.2).bind fun t1 =>
 some t1) r):Ev (fun k=>f k a0 a1 a2 a3 a4 a5 a6) r:=evf (fun _ _ _=>zac Cx (by kernel_rfl)) h
end qcez
namespace qdsz
def f (k:Fu) (a0 a1 a2 a3:Int):Option (Int×(Int×Bool)):=PI Cx (k 0) 250 [va [ci a0,ci a1,ci a2,ci a3]]
theorem v {a0 a1 a2 a3:Int} {r} (h:Ev (fun k=>(qfzz.f a0 a1 a2 a3).bind fun t0 =>
 if (!t0) then some (0,(0,false)) else (qhlz.f k a0 (W (a1+a2))).bind fun t1 =>
 some (t1.1,(t1.2,true))) r):Ev (fun k=>f k a0 a1 a2 a3) r:=evf (fun _ _ h=>by rw [<- qfzz.k (dl h)]; exact zac Cx (by kernel_rfl)) h
end qdsz
namespace qdez
def f (k:Fu) (a0 a1 a2 a3:Int):Option (Int×(Int×Bool)):=PI Cx (k 0) 251 [va [ci a0,ci a1,ci a2,ci a3]]
theorem v {a0 a1 a2 a3:Int} {r} (h:Ev (fun k=>(qfzz.f a0 a1 a2 a3).bind fun t0 =>
 if (!t0) then some (0,(0,false)) else (qhlz.f k (W (a3*a0)) (W (a1+a2))).bind fun t1 =>
 some (t1.1,(t1.2,true))) r):Ev (fun k=>f k a0 a1 a2 a3) r:=evf (fun _ _ h=>by rw [<- qfzz.k (dl h)]; exact zac Cx (by kernel_rfl)) h
end qdez
namespace qhrz
abbrev P:=Int->Option Bool
def f:P:=fun a0=>(qgoz.f a0 1 6).bind fun t0 =>
 some t0
theorem k {K:Nat} (h:2<=K):(fun a0=>PI Cx K 280 [vi a0]:P)=f:=by
 obtain ⟨K,rfl⟩:=zae h
 funext a0
 unfold f
 rw [<- qgoz.k (dk h)]
 exact zac Cx (by kernel_rfl)
end qhrz
namespace qgdz
def f (k:Fu) (a0 a1 a2 a3 a4:Int):Option (Int×Int):=PI Cx (k 0) 281 [va [ci a0,ci a1,ci a2,ci a3],vi a4]
def l0 (k:Fu) (x0 x1 x2 x3 x4 x5 x6 x7:Int):Option (Int×Int):=zap Cx (k 0) 281 [tt,tt,ff,tt,tt] [k 1] ⟨[(2,vp 0 0),(6,vi x0),(7,vi x1),(11,vi x2),(12,vi x3)],[(0,.box 108 [ci x4,ci x5,ci x6,ci x7])],[]⟩
theorem v {a0 a1 a2 a3 a4:Int} {r} (h:Ev (fun k=>l0 k a0 1 a4 0 a0 a1 a2 a3) r):Ev (fun k=>f k a0 a1 a2 a3 a4) r:=evf (fun _ _ _=>zac Cx (by kernel_rfl)) h
theorem v0 {x0 x1 x2 x3 x4 x5 x6 x7:Int} {r} (h:Ev (fun k=>if (iLt x3 x2) then if ((Int.tmod x3 2) == 0) then l0 k (W (x0*(W (x7-x5)))) (W (x1*(W (x7+x6)))) x2 (W (x3+1)) x4 x5 x6 x7 else l0 k (W (x0*(W (x7-x6)))) (W (x1*(W (x7+x5)))) x2 (W (x3+1)) x4 x5 x6 x7 else some (x0,x1)) r):Ev (fun k=>l0 k x0 x1 x2 x3 x4 x5 x6 x7) r:=evl [] 0 (fun _ _ _=>by kernel_rfl) h
end qgdz
namespace qbtz
def f (k:Fu) (a0 a1 a2 a3 a4:Int):Option (Int×(Int×Bool)):=PI Cx (k 0) 252 [va [ci a0,ci a1,ci a2,ci a3],vi a4]
theorem v {a0 a1 a2 a3 a4:Int} {r} (h:Ev (fun k=>(qfzz.f a0 a1 a2 a3).bind fun t0 =>
 if (!t0) then some (0,(0,false)) else (qhrz.f a4).bind fun t1 =>
 if (!t1) then some (0,(0,false)) else (qgdz.f k a0 a1 a2 a3 a4).bind fun t2 =>
 (qhlz.f k t2.1 t2.2).bind fun t3 =>
 some (t3.1,(t3.2,true))) r):Ev (fun k=>f k a0 a1 a2 a3 a4) r:=evf (fun _ _ h=>by rw [<- qfzz.k (dl h),<- qhrz.k (dl h)]; exact zac Cx (by kernel_rfl)) h
end qbtz
namespace qgnz
def f (k:Fu) (a0:List (Int×Int)):Option (Int×Int):=PI Cx (k 0) 114 [vl 88 (.pair i6 i6) a0]
def l0 (k:Fu) (x0 x1:Int) (x2:List (Int×Int)) (x3 x4:Int):Option (Int×Int):=zap Cx (k 0) 114 [tt,tt,ff,tt,tt] [k 1] ⟨[(4,vi x0),(5,vi x1),(8,vl 88 (.pair i6 i6) x2),(9,vi x3),(10,vi x4)],[],[]⟩
theorem v {a0:List (Int×Int)} {r} (h:Ev (fun k=>l0 k 0 1 a0 (ln a0) 0) r):Ev (fun k=>f k a0) r:=evf (fun _ _ _=>zac Cx (by kernel_rfl)) h
theorem v0 {x0 x1:Int} {x2:List (Int×Int)} {x3 x4:Int} {r} (h:Ev (fun k=>if (iLt x4 x3) then ix x4 x2 <| (qhlz.f k (W ((W (x0*(rd (0,0) x2 x4).2))+(W ((rd (0,0) x2 x4).1*x1)))) (W (x1*(rd (0,0) x2 x4).2))).bind fun t0 =>
 l0 k t0.1 t0.2 x2 x3 (W (x4+1)) else some (x0,x1)) r):Ev (fun k=>l0 k x0 x1 x2 x3 x4) r:=evl [] 0 (fun _ _ _=>by kernel_rfl) h
end qgnz
namespace qgzz
def f (k:Fu) (a0:List (Int×Int)):Option Int:=PI Cx (k 0) 116 [vl 88 (.pair i6 i6) a0]
def l0 (k:Fu) (x0:Int) (x1:List (Int×Int)) (x2 x3:Int):Option Int:=zap Cx (k 0) 116 [tt,tt,ff,tt,tt] [k 1] ⟨[(3,vi x0),(6,vl 88 (.pair i6 i6) x1),(7,vi x2),(8,vi x3)],[],[]⟩
theorem v {a0:List (Int×Int)} {r} (h:Ev (fun k=>l0 k 0 a0 (ln a0) 0) r):Ev (fun k=>f k a0) r:=evf (fun _ _ _=>zac Cx (by kernel_rfl)) h
theorem v0 {x0:Int} {x1:List (Int×Int)} {x2 x3:Int} {r} (h:Ev (fun k=>if (iLt x3 x2) then ix x3 x1 <| l0 k (W (x0+(rd (0,0) x1 x3).1)) x1 x2 (W (x3+1)) else some x0) r):Ev (fun k=>l0 k x0 x1 x2 x3) r:=evl [] 0 (fun _ _ _=>by kernel_rfl) h
end qgzz
namespace qfoz
def f (k:Fu) (a0 a1:Int):Option (Int×(Int×Bool)):=PI Cx (k 0) 115 [vi a0,vi a1]
theorem v {a0 a1:Int} {r} (h:Ev (fun k=>if (a1 == 0) then some (0,(0,false)) else (qhlz.f k a0 a1).bind fun t0 =>
 some (t0.1,(t0.2,true))) r):Ev (fun k=>f k a0 a1) r:=evf (fun _ _ _=>zac Cx (by kernel_rfl)) h
end qfoz
namespace qeqz
def f (k:Fu) (a0:List (Int×Int)):Option (Int×(Int×Bool)):=PI Cx (k 0) 64 [vl 88 (.pair i6 i6) a0]
theorem v {a0:List (Int×Int)} {r} (h:Ev (fun k=>(qftz.f k a0).bind fun t0 =>
 if (!t0) then some (0,(0,false)) else (qgnz.f k a0).bind fun t1 =>
 (qgzz.f k a0).bind fun t2 =>
 (qfoz.f k (W (t2*t1.2)) t1.1).bind fun t3 =>
 some t3) r):Ev (fun k=>f k a0) r:=evf (fun _ _ _=>zac Cx (by kernel_rfl)) h
end qeqz
namespace qdoz
def f (k:Fu) (a0:List (Int×Int)):Option (Int×(Int×Bool)):=PI Cx (k 0) 253 [vl 88 (.pair i6 i6) a0]
theorem v {a0:List (Int×Int)} {r} (h:Ev (fun k=>(qftz.f k a0).bind fun t0 =>
 if (!t0) then some (0,(0,false)) else (qgnz.f k a0).bind fun t1 =>
 some (t1.1,(t1.2,true))) r):Ev (fun k=>f k a0) r:=evf (fun _ _ _=>zac Cx (by kernel_rfl)) h
end qdoz
namespace qcxz
def f (k:Fu) (a0:List (Int×Int)) (a1 a2:Int):Option (Int×(Int×Bool)):=PI Cx (k 0) 254 [vl 88 (.pair i6 i6) a0,vi a1,vi a2]
theorem v {a0:List (Int×Int)} {a1 a2:Int} {r} (h:Ev (fun k=>(qftz.f k a0).bind fun t0 =>
 if (!t0) then some (0,(0,false)) else (qhdz.f a1).bind fun t1 =>
 if (!t1) then some (0,(0,false)) else (qhuz.f a2).bind fun t2 =>
 if (!t2) then some (0,(0,false)) else (qgnz.f k a0).bind fun t3 =>
 (qgzz.f k a0).bind fun t4 =>
 if (iLe (W ((W ((W (t4+a1))*t3.2))-(W (t3.1*a2)))) 0) then some (0,(0,false)) else (qfoz.f k (W ((W (a1*a2))*t3.2)) (W ((W ((W (t4+a1))*t3.2))-(W (t3.1*a2))))).bind fun t5 =>
 some t5) r):Ev (fun k=>f k a0 a1 a2) r:=evf (fun _ _ h=>by rw [<- qhdz.k (dl h),<- qhuz.k (dl h)]; exact zac Cx (by kernel_rfl)) h
end qcxz
namespace qcdz
def f (k:Fu) (a0:List (Int×Int)):Option ((List (List Int))×Bool):=PI Cx (k 0) 255 [vl 155 (.pair i6 i6) a0]
def l0 (k:Fu) (x0 x1:List (Int×Int)) (x2 x3:Int) (x4:List (List Int)):Option ((List (List Int))×Bool):=zap Cx (k 0) 255 [tt,tt,tt,ff,tt,tt] [k 1] ⟨[(0,vl 155 (.pair i6 i6) x0),(4,vf 1000000004000),(12,vl 155 (.pair i6 i6) x1),(13,vi x2),(14,vi x3)],[(1000000004000,.row 44 (.sl 3 i6) x4 .own)],[]⟩
def l1 (k:Fu) (x0:List (Int×Int)) (x1 x2:Int) (x3:List (Int×Int)) (x4 x5:Int) (x6:List (List Int)) (x7 x8:Int):Option ((List (List Int))×Bool):=zap Cx (k 0) 255 [tt,tt,tt,ff,tt,tt,tt,tt,tt,ff,tt,tt,tt,tt] [k 1,k 2] ⟨[(0,vl 155 (.pair i6 i6) x0),(4,vf 1000000004000),(5,vi x1),(6,vp 6003000 0),(7,vi x2),(12,vl 155 (.pair i6 i6) x3),(13,vi x4),(14,vi x5)],[(1000000004000,.row 44 (.sl 3 i6) x6 .own),(6003000,.box 155 [ci x7,ci x8])],[]⟩
theorem v {a0:List (Int×Int)} {r} (h:Ev (fun k=>(qelz.f k a0).bind fun t0 =>
 if (!t0) then some ([],false) else l0 k a0 a0 (ln a0) 0 []) r):Ev (fun k=>f k a0) r:=evf (fun _ _ _=>zac Cx (by kernel_rfl)) h
theorem v0 {x0 x1:List (Int×Int)} {x2 x3:Int} {x4:List (List Int)} {r} (h:Ev (fun k=>if (iLt x3 x2) then ix x3 x1 <| l1 k x0 x3 (W (x3+1)) x1 x2 x3 x4 (rd (0,0) x1 x3).1 (rd (0,0) x1 x3).2 else some (x4,true)) r):Ev (fun k=>l0 k x0 x1 x2 x3 x4) r:=evl [] 0 (fun _ _ _=>by kernel_rfl) h
theorem v1 {x0:List (Int×Int)} {x1 x2:Int} {x3:List (Int×Int)} {x4 x5:Int} {x6:List (List Int)} {x7 x8:Int} {r} (h:Ev (fun k=>if (iLt x2 (ln x0)) then ix x2 x0 <| if (iLe x7 (W ((rd (0,0) x0 x2).1+(rd (0,0) x0 x2).2))) then if (iLe (rd (0,0) x0 x2).1 (W (x7+x8))) then gd (((lnN x6)+1)<=5864062014805) <| l1 k x0 x1 (W (x2+1)) x3 x4 x5 (x6++[[x1,x2]]) x7 x8 else l1 k x0 x1 (W (x2+1)) x3 x4 x5 x6 x7 x8 else l1 k x0 x1 (W (x2+1)) x3 x4 x5 x6 x7 x8 else l0 k x0 x3 x4 (W (x5+1)) x6) r):Ev (fun k=>l1 k x0 x1 x2 x3 x4 x5 x6 x7 x8) r:=evl [1] 1 (fun _ _ _=>by kernel_rfl) h
end qcdz
namespace qbiz
abbrev P:=List (Int×Int)->Option (List (Int×Int))
def f:P:=fun a0=>gd (a0.length<=8796093022208) (some a0)
theorem k {K:Nat} (h:1<=K):(fun a0=>PI Cx K 282 [vl 155 (.pair i6 i6) a0]:P)=f:=by
 obtain ⟨K,rfl⟩:=zae h
 funext a0
 exact zac Cx (by kernel_rfl)
end qbiz
namespace qdxz
abbrev P:=Int->Option Int
def f:P:=fun a0=>if (iGe a0 4294967296) then if (iGe (ishr a0 32) 65536) then if (iGe (ishr (ishr a0 32) 16) 256) then gd (0<=(IntKind.wrap .u8 (ishr (ishr (ishr a0 32) 16) 8))) <| gd ((IntKind.wrap .u8 (ishr (ishr (ishr a0 32) 16) 8)) < 256) <| some (W (56+(W (bat (bs [0,1,2,2,3,3,3,3,4,4,4,4,4,4,4,4,5,5,5,5,5,5,5,5,5,5,5,5,5,5,5,5,6,6,6,6,6,6,6,6,6,6,6,6,6,6,6,6,6,6,6,6,6,6,6,6,6,6,6,6,6,6,6,6,7,7,7,7,7,7,7,7,7,7,7,7,7,7,7,7,7,7,7,7,7,7,7,7,7,7,7,7,7,7,7,7,7,7,7,7,7,7,7,7,7,7,7,7,7,7,7,7,7,7,7,7,7,7,7,7,7,7,7,7,7,7,7,7,8,8,8,8,8,8,8,8,8,8,8,8,8,8,8,8,8,8,8,8,8,8,8,8,8,8,8,8,8,8,8,8,8,8,8,8,8,8,8,8,8,8,8,8,8,8,8,8,8,8,8,8,8,8,8,8,8,8,8,8,8,8,8,8,8,8,8,8,8,8,8,8,8,8,8,8,8,8,8,8,8,8,8,8,8,8,8,8,8,8,8,8,8,8,8,8,8,8,8,8,8,8,8,8,8,8,8,8,8,8,8,8,8,8,8,8,8,8,8,8,8,8,8,8,8,8,8,8]) (IntKind.wrap .u8 (ishr (ishr (ishr a0 32) 16) 8)))))) else gd (0<=(IntKind.wrap .u8 (ishr (ishr a0 32) 16))) <| gd ((IntKind.wrap .u8 (ishr (ishr a0 32) 16)) < 256) <| some (W (48+(W (bat (bs [0,1,2,2,3,3,3,3,4,4,4,4,4,4,4,4,5,5,5,5,5,5,5,5,5,5,5,5,5,5,5,5,6,6,6,6,6,6,6,6,6,6,6,6,6,6,6,6,6,6,6,6,6,6,6,6,6,6,6,6,6,6,6,6,7,7,7,7,7,7,7,7,7,7,7,7,7,7,7,7,7,7,7,7,7,7,7,7,7,7,7,7,7,7,7,7,7,7,7,7,7,7,7,7,7,7,7,7,7,7,7,7,7,7,7,7,7,7,7,7,7,7,7,7,7,7,7,7,8,8,8,8,8,8,8,8,8,8,8,8,8,8,8,8,8,8,8,8,8,8,8,8,8,8,8,8,8,8,8,8,8,8,8,8,8,8,8,8,8,8,8,8,8,8,8,8,8,8,8,8,8,8,8,8,8,8,8,8,8,8,8,8,8,8,8,8,8,8,8,8,8,8,8,8,8,8,8,8,8,8,8,8,8,8,8,8,8,8,8,8,8,8,8,8,8,8,8,8,8,8,8,8,8,8,8,8,8,8,8,8,8,8,8,8,8,8,8,8,8,8,8,8,8,8,8,8]) (IntKind.wrap .u8 (ishr (ishr a0 32) 16)))))) else if (iGe (ishr a0 32) 256) then gd (0<=(IntKind.wrap .u8 (ishr (ishr a0 32) 8))) <| gd ((IntKind.wrap .u8 (ishr (ishr a0 32) 8)) < 256) <| some (W (40+(W (bat (bs [0,1,2,2,3,3,3,3,4,4,4,4,4,4,4,4,5,5,5,5,5,5,5,5,5,5,5,5,5,5,5,5,6,6,6,6,6,6,6,6,6,6,6,6,6,6,6,6,6,6,6,6,6,6,6,6,6,6,6,6,6,6,6,6,7,7,7,7,7,7,7,7,7,7,7,7,7,7,7,7,7,7,7,7,7,7,7,7,7,7,7,7,7,7,7,7,7,7,7,7,7,7,7,7,7,7,7,7,7,7,7,7,7,7,7,7,7,7,7,7,7,7,7,7,7,7,7,7,8,8,8,8,8,8,8,8,8,8,8,8,8,8,8,8,8,8,8,8,8,8,8,8,8,8,8,8,8,8,8,8,8,8,8,8,8,8,8,8,8,8,8,8,8,8,8,8,8,8,8,8,8,8,8,8,8,8,8,8,8,8,8,8,8,8,8,8,8,8,8,8,8,8,8,8,8,8,8,8,8,8,8,8,8,8,8,8,8,8,8,8,8,8,8,8,8,8,8,8,8,8,8,8,8,8,8,8,8,8,8,8,8,8,8,8,8,8,8,8,8,8,8,8,8,8,8,8]) (IntKind.wrap .u8 (ishr (ishr a0 32) 8)))))) else gd (0<=(IntKind.wrap .u8 (ishr a0 32))) <| gd ((IntKind.wrap .u8 (ishr a0 32)) < 256) <| some (W (32+(W (bat (bs [0,1,2,2,3,3,3,3,4,4,4,4,4,4,4,4,5,5,5,5,5,5,5,5,5,5,5,5,5,5,5,5,6,6,6,6,6,6,6,6,6,6,6,6,6,6,6,6,6,6,6,6,6,6,6,6,6,6,6,6,6,6,6,6,7,7,7,7,7,7,7,7,7,7,7,7,7,7,7,7,7,7,7,7,7,7,7,7,7,7,7,7,7,7,7,7,7,7,7,7,7,7,7,7,7,7,7,7,7,7,7,7,7,7,7,7,7,7,7,7,7,7,7,7,7,7,7,7,8,8,8,8,8,8,8,8,8,8,8,8,8,8,8,8,8,8,8,8,8,8,8,8,8,8,8,8,8,8,8,8,8,8,8,8,8,8,8,8,8,8,8,8,8,8,8,8,8,8,8,8,8,8,8,8,8,8,8,8,8,8,8,8,8,8,8,8,8,8,8,8,8,8,8,8,8,8,8,8,8,8,8,8,8,8,8,8,8,8,8,8,8,8,8,8,8,8,8,8,8,8,8,8,8,8,8,8,8,8,8,8,8,8,8,8,8,8,8,8,8,8,8,8,8,8,8,8]) (IntKind.wrap .u8 (ishr a0 32)))))) else if (iGe a0 65536) then if (iGe (ishr a0 16) 256) then gd (0<=(IntKind.wrap .u8 (ishr (ishr a0 16) 8))) <| gd ((IntKind.wrap .u8 (ishr (ishr a0 16) 8)) < 256) <| some (W (24+(W (bat (bs [0,1,2,2,3,3,3,3,4,4,4,4,4,4,4,4,5,5,5,5,5,5,5,5,5,5,5,5,5,5,5,5,6,6,6,6,6,6,6,6,6,6,6,6,6,6,6,6,6,6,6,6,6,6,6,6,6,6,6,6,6,6,6,6,7,7,7,7,7,7,7,7,7,7,7,7,7,7,7,7,7,7,7,7,7,7,7,7,7,7,7,7,7,7,7,7,7,7,7,7,7,7,7,7,7,7,7,7,7,7,7,7,7,7,7,7,7,7,7,7,7,7,7,7,7,7,7,7,8,8,8,8,8,8,8,8,8,8,8,8,8,8,8,8,8,8,8,8,8,8,8,8,8,8,8,8,8,8,8,8,8,8,8,8,8,8,8,8,8,8,8,8,8,8,8,8,8,8,8,8,8,8,8,8,8,8,8,8,8,8,8,8,8,8,8,8,8,8,8,8,8,8,8,8,8,8,8,8,8,8,8,8,8,8,8,8,8,8,8,8,8,8,8,8,8,8,8,8,8,8,8,8,8,8,8,8,8,8,8,8,8,8,8,8,8,8,8,8,8,8,8,8,8,8,8,8]) (IntKind.wrap .u8 (ishr (ishr a0 16) 8)))))) else gd (0<=(IntKind.wrap .u8 (ishr a0 16))) <| gd ((IntKind.wrap .u8 (ishr a0 16)) < 256) <| some (W (16+(W (bat (bs [0,1,2,2,3,3,3,3,4,4,4,4,4,4,4,4,5,5,5,5,5,5,5,5,5,5,5,5,5,5,5,5,6,6,6,6,6,6,6,6,6,6,6,6,6,6,6,6,6,6,6,6,6,6,6,6,6,6,6,6,6,6,6,6,7,7,7,7,7,7,7,7,7,7,7,7,7,7,7,7,7,7,7,7,7,7,7,7,7,7,7,7,7,7,7,7,7,7,7,7,7,7,7,7,7,7,7,7,7,7,7,7,7,7,7,7,7,7,7,7,7,7,7,7,7,7,7,7,8,8,8,8,8,8,8,8,8,8,8,8,8,8,8,8,8,8,8,8,8,8,8,8,8,8,8,8,8,8,8,8,8,8,8,8,8,8,8,8,8,8,8,8,8,8,8,8,8,8,8,8,8,8,8,8,8,8,8,8,8,8,8,8,8,8,8,8,8,8,8,8,8,8,8,8,8,8,8,8,8,8,8,8,8,8,8,8,8,8,8,8,8,8,8,8,8,8,8,8,8,8,8,8,8,8,8,8,8,8,8,8,8,8,8,8,8,8,8,8,8,8,8,8,8,8,8,8]) (IntKind.wrap .u8 (ishr a0 16)))))) else if (iGe a0 256) then gd (0<=(IntKind.wrap .u8 (ishr a0 8))) <| gd ((IntKind.wrap .u8 (ishr a0 8)) < 256) <| some (W (8+(W (bat (bs [0,1,2,2,3,3,3,3,4,4,4,4,4,4,4,4,5,5,5,5,5,5,5,5,5,5,5,5,5,5,5,5,6,6,6,6,6,6,6,6,6,6,6,6,6,6,6,6,6,6,6,6,6,6,6,6,6,6,6,6,6,6,6,6,7,7,7,7,7,7,7,7,7,7,7,7,7,7,7,7,7,7,7,7,7,7,7,7,7,7,7,7,7,7,7,7,7,7,7,7,7,7,7,7,7,7,7,7,7,7,7,7,7,7,7,7,7,7,7,7,7,7,7,7,7,7,7,7,8,8,8,8,8,8,8,8,8,8,8,8,8,8,8,8,8,8,8,8,8,8,8,8,8,8,8,8,8,8,8,8,8,8,8,8,8,8,8,8,8,8,8,8,8,8,8,8,8,8,8,8,8,8,8,8,8,8,8,8,8,8,8,8,8,8,8,8,8,8,8,8,8,8,8,8,8,8,8,8,8,8,8,8,8,8,8,8,8,8,8,8,8,8,8,8,8,8,8,8,8,8,8,8,8,8,8,8,8,8,8,8,8,8,8,8,8,8,8,8,8,8,8,8,8,8,8,8]) (IntKind.wrap .u8 (ishr a0 8)))))) else gd (0<=(IntKind.wrap .u8 a0)) <| gd ((IntKind.wrap .u8 a0) < 256) <| some (W (0+(W (bat (bs [0,1,2,2,3,3,3,3,4,4,4,4,4,4,4,4,5,5,5,5,5,5,5,5,5,5,5,5,5,5,5,5,6,6,6,6,6,6,6,6,6,6,6,6,6,6,6,6,6,6,6,6,6,6,6,6,6,6,6,6,6,6,6,6,7,7,7,7,7,7,7,7,7,7,7,7,7,7,7,7,7,7,7,7,7,7,7,7,7,7,7,7,7,7,7,7,7,7,7,7,7,7,7,7,7,7,7,7,7,7,7,7,7,7,7,7,7,7,7,7,7,7,7,7,7,7,7,7,8,8,8,8,8,8,8,8,8,8,8,8,8,8,8,8,8,8,8,8,8,8,8,8,8,8,8,8,8,8,8,8,8,8,8,8,8,8,8,8,8,8,8,8,8,8,8,8,8,8,8,8,8,8,8,8,8,8,8,8,8,8,8,8,8,8,8,8,8,8,8,8,8,8,8,8,8,8,8,8,8,8,8,8,8,8,8,8,8,8,8,8,8,8,8,8,8,8,8,8,8,8,8,8,8,8,8,8,8,8,8,8,8,8,8,8,8,8,8,8,8,8,8,8,8,8,8,8]) (IntKind.wrap .u8 a0)))))
theorem k {K:Nat} (h:1<=K):(fun a0=>PI Cx K 286 [.sv (.one (.int .u64 a0))]:P)=f:=by
 obtain ⟨K,rfl⟩:=zae h
 funext a0
 exact zac Cx (by kernel_rfl)
end qdxz
namespace qfiz
abbrev P:=Int->Option Int
def f:P:=fun a0=>(qdxz.f a0).bind fun t0 =>
 some t0
theorem k {K:Nat} (h:2<=K):(fun a0=>PI Cx K 299 [.sv (.one (.int .u64 a0))]:P)=f:=by
 obtain ⟨K,rfl⟩:=zae h
 funext a0
 unfold f
 rw [<- qdxz.k (dk h)]
 exact zac Cx (by kernel_rfl)
end qfiz
namespace qbrz
abbrev P:=Int->Int->Int->Int->Option Int
def f:P:=fun a0 a1 a2 a3=>(qduz.f (W (a0+a1)) (W (a2+a3))).bind fun t0 =>
 some t0
theorem k {K:Nat} (h:3<=K):(fun a0 a1 a2 a3=>PI Cx K 284 [va [ci a0,ci a1],va [ci a2,ci a3]]:P)=f:=by
 obtain ⟨K,rfl⟩:=zae h
 funext a0 a1 a2 a3
 unfold f
 rw [<- qduz.k (dk h)]
 exact zac Cx (by kernel_rfl)
end qbrz
namespace qagz
def f (k:Fu) (a0:List (Int×Int)) (a1 a2:Int):Option (List (Int×Int)):=PI Cx (k 0) 309 [.sv (.one (.frow 155 (.pair i6 i6) a0)),vi a1,vi a2,.sv (.one (.fn 284 []))]
def l0 (k:Fu) (x0 x1 x2:Int) (x3:List (Int×Int)):Option (List (Int×Int)):=zap Cx (k 0) 309 [tt,tt] [k 1] ⟨[(0,vf 9000000000000001),(1,vi x0),(2,vi x1),(3,.sv (.one (.fn 284 []))),(8,vi x2)],[(9000000000000001,.row 155 (.pair i6 i6) x3 .lent)],[]⟩
def l1 (k:Fu) (x0 x1 x2 x3:Int) (x4:List (Int×Int)):Option (List (Int×Int)):=zap Cx (k 0) 309 [tt,tt,tt,tt,ff,tt,tt,tt] [k 1,k 2] ⟨[(0,vf 9000000000000001),(1,vi x0),(2,vi x1),(3,.sv (.one (.fn 284 []))),(8,vi x2),(9,vi x3)],[(9000000000000001,.row 155 (.pair i6 i6) x4 .lent)],[]⟩
theorem v {a0:List (Int×Int)} {a1 a2:Int} {r} (h:Ev (fun k=>l0 k a1 a2 (W (a1+1)) a0) r):Ev (fun k=>f k a0 a1 a2) r:=evf (fun _ _ _=>zac Cx (by kernel_rfl)) h
theorem v0 {x0 x1 x2:Int} {x3:List (Int×Int)} {r} (h:Ev (fun k=>if (iLt x2 x1) then l1 k x0 x1 x2 x2 x3 else some x3) r):Ev (fun k=>l0 k x0 x1 x2 x3) r:=evl [] 0 (fun _ _ _=>by kernel_rfl) h
theorem v1 {x0 x1 x2 x3:Int} {x4:List (Int×Int)} {r} (h:Ev (fun k=>if (iGt x3 x0) then ix x3 x4 <| ix (W (x3-1)) x4 <| (qbrz.f (rd (0,0) x4 x3).1 (rd (0,0) x4 x3).2 (rd (0,0) x4 (W (x3-1))).1 (rd (0,0) x4 (W (x3-1))).2).bind fun t0 =>
 if (iLt t0 0) then ix (W (x3-1)) x4 <| ix x3 x4 <| ix x3 x4 <| ix (W (x3-1)) (List.set x4 (Int.toNat x3) (rd (0,0) x4 (W (x3-1)))) <| l1 k x0 x1 x2 (W (x3-1)) (List.set (List.set x4 (Int.toNat x3) (rd (0,0) x4 (W (x3-1)))) (Int.toNat (W (x3-1))) (rd (0,0) x4 x3)) else l0 k x0 x1 (W (x2+1)) x4 else l0 k x0 x1 (W (x2+1)) x4) r):Ev (fun k=>l1 k x0 x1 x2 x3 x4) r:=evl [1] 1 (fun _ _ h=>by rw [<- qbrz.k (dl h)]; kernel_rfl) h
end qagz
namespace qanz
def f (k:Fu) (a0:List (Int×Int)) (a1 a2:Int):Option (List (Int×Int)):=PI Cx (k 0) 310 [.sv (.one (.frow 155 (.pair i6 i6) a0)),vi a1,vi a2,.sv (.one (.fn 284 []))]
end qanz
namespace qadz
def f (k:Fu) (a0:List (Int×Int)) (a1 a2:Int):Option (List (Int×Int)):=PI Cx (k 0) 311 [.sv (.one (.frow 155 (.pair i6 i6) a0)),vi a1,vi a2,.sv (.one (.fn 284 []))]
end qadz
namespace qajz
def f (k:Fu) (a0:List (Int×Int)) (a1 a2:Int):Option (Int×(Int×(List (Int×Int)))):=PI Cx (k 0) 312 [.sv (.one (.frow 155 (.pair i6 i6) a0)),vi a1,vi a2,.sv (.one (.fn 284 []))]
end qajz
namespace qahz
def f (k:Fu) (a0:List (Int×Int)) (a1 a2:Int):Option (List (Int×Int)):=PI Cx (k 0) 313 [.sv (.one (.frow 155 (.pair i6 i6) a0)),vi a1,vi a2,.sv (.one (.fn 284 []))]
end qahz
namespace qaaz
def f (k:Fu) (a0:List (Int×Int)) (a1 a2:Int):Option (Bool×(List (Int×Int))):=PI Cx (k 0) 314 [.sv (.one (.frow 155 (.pair i6 i6) a0)),vi a1,vi a2,.sv (.one (.fn 284 []))]
end qaaz
namespace qacz
def f (k:Fu) (a0:List (Int×Int)) (a1 a2 a3:Int):Option (Int×(List (Int×Int))):=PI Cx (k 0) 315 [.sv (.one (.frow 155 (.pair i6 i6) a0)),vi a1,vi a2,vi a3,.sv (.one (.fn 284 []))]
end qacz
namespace qamz
def f (k:Fu) (a0:List (Int×Int)) (a1 a2 a3:Int):Option (Int×(Bool×(List (Int×Int)))):=PI Cx (k 0) 316 [.sv (.one (.frow 155 (.pair i6 i6) a0)),vi a1,vi a2,vi a3,.sv (.one (.fn 284 []))]
end qamz
end
end Go.Proofs.YtdhkgmhdengnkaaGreatDoor.Li
