/- What functions of the program compute. -/
import Derived.Test.YtdhkgmhdengnkaaGreatDoorLiF3
namespace Go.Proofs.YtdhkgmhdengnkaaGreatDoor.Li
open Go Go.Proofs.YtdhkgmhdengnkaaGreatDoorPi Go.RowKit
set_option maxRecDepth 100000
set_option linter.unusedVariables false
noncomputable section
namespace qgkz
def f (k:Fu) (a0:List (List Int)):Option (List Int):=PI Cx (k 0) 216 [vl 44 (.sl 3 i6) a0]
def l0 (k:Fu) (x0 x1:List (List Int)) (x2 x3:Int) (x4:List Int):Option (List Int):=zap Cx (k 0) 216 [tt,tt,ff,tt,tt] [k 1] ⟨[(0,vl 44 (.sl 3 i6) x0),(3,vf 1000000003000),(8,vl 44 (.sl 3 i6) x1),(9,vi x2),(10,vi x3)],[(1000000003000,.row 3 i6 x4 .own)],[]⟩
def l1 (k:Fu) (x0:List (List Int)) (x1:Int) (x2:List Int) (x3:Int) (x4:List (List Int)) (x5 x6:Int) (x7:List Int):Option (List Int):=zap Cx (k 0) 216 [tt,tt,ff,tt,tt,tt,tt,tt,ff,tt,tt,tt,ff,tt] [k 1,k 2] ⟨[(0,vl 44 (.sl 3 i6) x0),(3,vf 1000000003000),(4,vi x1),(5,vl 3 i6 x2),(6,vi x3),(8,vl 44 (.sl 3 i6) x4),(9,vi x5),(10,vi x6)],[(1000000003000,.row 3 i6 x7 .own)],[]⟩
theorem v {a0:List (List Int)} {r} (h:Ev (fun k=>l0 k a0 a0 (ln a0) 0 []) r):Ev (fun k=>f k a0) r:=evf (fun _ _ _=>zac Cx (by kernel_rfl)) h
theorem v0 {x0 x1:List (List Int)} {x2 x3:Int} {x4:List Int} {r} (h:Ev (fun k=>if (iLt x3 x2) then ix x3 x1 <| l1 k x0 x3 (rd [] x1 x3) (ln x4) x1 x2 x3 x4 else some x4) r):Ev (fun k=>l0 k x0 x1 x2 x3 x4) r:=evl [] 0 (fun _ _ _=>by kernel_rfl) h
theorem v1 {x0:List (List Int)} {x1:Int} {x2:List Int} {x3:Int} {x4:List (List Int)} {x5 x6:Int} {x7:List Int} {r} (h:Ev (fun k=>if (iGt x3 0) then ix (W (x3-1)) x7 <| ix (rd 0 x7 (W (x3-1))) x0 <| (qfez.f k x2 (rd [] x0 (rd 0 x7 (W (x3-1))))).bind fun t0 =>
 if t0 then l1 k x0 x1 x2 (W (x3-1)) x4 x5 x6 x7 else gd (0<=x3) <| gd (x3<=(ln x7)) <| (qiez.f (List.take (Int.toNat x3) x7)).bind fun t1 =>
 gd (((lnN t1)+1)<=17592186044416) <| gd (0<=x3) <| gd (x3<=(ln x7)) <| gd (((lnN (t1++[x1]))+(lnN (List.take ((Int.toNat (ln x7))-(Int.toNat x3)) (List.drop (Int.toNat x3) x7))))<=17592186044416) <| l0 k x0 x4 x5 (W (x6+1)) ((t1++[x1])++(List.take ((Int.toNat (ln x7))-(Int.toNat x3)) (List.drop (Int.toNat x3) x7))) else gd (0<=x3) <| gd (x3<=(ln x7)) <| (qiez.f (List.take (Int.toNat x3) x7)).bind fun t0 =>
 gd (((lnN t0)+1)<=17592186044416) <| gd (0<=x3) <| gd (x3<=(ln x7)) <| gd (((lnN (t0++[x1]))+(lnN (List.take ((Int.toNat (ln x7))-(Int.toNat x3)) (List.drop (Int.toNat x3) x7))))<=17592186044416) <| l0 k x0 x4 x5 (W (x6+1)) ((t0++[x1])++(List.take ((Int.toNat (ln x7))-(Int.toNat x3)) (List.drop (Int.toNat x3) x7)))) r):Ev (fun k=>l1 k x0 x1 x2 x3 x4 x5 x6 x7) r:=evl [1] 1 (fun _ _ h=>by rw [<- qiez.k (dl h)]; kernel_rfl) h
end qgkz
namespace qegz
def f (k:Fu) (a0:List (Int×Int)):Option ((List Int)×Bool):=PI Cx (k 0) 157 [vl 74 (.pair i6 i6) a0]
def l0 (k:Fu) (x0:List (Int×Int)) (x1 x2:Int) (x3:List (List Int)):Option ((List Int)×Bool):=zap Cx (k 0) 157 [tt,tt,tt,ff,tt,tt] [k 1] ⟨[(4,vf 1000000004000),(10,vl 74 (.pair i6 i6) x0),(11,vi x1),(12,vi x2)],[(1000000004000,.row 44 (.sl 3 i6) x3 .own)],[]⟩
theorem v {a0:List (Int×Int)} {r} (h:Ev (fun k=>(qhyz.f k a0).bind fun t0 =>
 if (!t0) then some ([],false) else l0 k a0 (ln a0) 0 []) r):Ev (fun k=>f k a0) r:=evf (fun _ _ _=>zac Cx (by kernel_rfl)) h
theorem v0 {x0:List (Int×Int)} {x1 x2:Int} {x3:List (List Int)} {r} (h:Ev (fun k=>if (iLt x2 x1) then ix x2 x0 <| gd (((lnN x3)+1)<=5864062014805) <| l0 k x0 x1 (W (x2+1)) (x3++[[(rd (0,0) x0 x2).2,(rd (0,0) x0 x2).1]]) else (qgkz.f k x3).bind fun t0 =>
 some (t0,true)) r):Ev (fun k=>l0 k x0 x1 x2 x3) r:=evl [] 0 (fun _ _ _=>by kernel_rfl) h
end qegz
namespace qhnz
abbrev P:=Int->Int->Option Bool
def f:P:=fun a0 a1=>(qilz.f a0 0 1000000).bind fun t0 =>
 if t0 then (qilz.f a1 1 1000).bind fun t1 =>
 some t1 else some false
theorem k {K:Nat} (h:2<=K):(fun a0 a1=>PI Cx K 217 [vi a0,vi a1]:P)=f:=by
 obtain ⟨K,rfl⟩:=zae h
 funext a0 a1
 unfold f
 rw [<- qilz.k (dk h)]
 exact zac Cx (by kernel_rfl)
end qhnz
namespace qehz
def f (k:Fu) (a0:List (Int×Int)) (a1 a2:Int):Option ((List Int)×Bool):=PI Cx (k 0) 158 [vl 74 (.pair i6 i6) a0,vi a1,vi a2]
def l0 (k:Fu) (x0 x1:Int) (x2:List (Int×Int)) (x3 x4:Int) (x5:List (List Int)):Option ((List Int)×Bool):=zap Cx (k 0) 158 [tt,tt,tt,ff,tt,tt] [k 1] ⟨[(1,vi x0),(2,vi x1),(8,vf 1000000008000),(20,vl 74 (.pair i6 i6) x2),(21,vi x3),(22,vi x4)],[(1000000008000,.row 44 (.sl 3 i6) x5 .own)],[]⟩
theorem v {a0:List (Int×Int)} {a1 a2:Int} {r} (h:Ev (fun k=>(qhyz.f k a0).bind fun t0 =>
 if (!t0) then some ([],false) else (qhnz.f a1 a2).bind fun t1 =>
 if (!t1) then some ([],false) else l0 k a1 a2 a0 (ln a0) 0 []) r):Ev (fun k=>f k a0 a1 a2) r:=evf (fun _ _ h=>by rw [<- qhnz.k (dl h)]; exact zac Cx (by kernel_rfl)) h
theorem v0 {x0 x1:Int} {x2:List (Int×Int)} {x3 x4:Int} {x5:List (List Int)} {r} (h:Ev (fun k=>if (iLt x4 x3) then ix x4 x2 <| gd (((lnN x5)+1)<=5864062014805) <| l0 k x0 x1 x2 x3 (W (x4+1)) (x5++[[(W ((W ((rd (0,0) x2 x4).1*x1))+(W ((rd (0,0) x2 x4).2*x0))))]]) else (qgkz.f k x5).bind fun t0 =>
 some (t0,true)) r):Ev (fun k=>l0 k x0 x1 x2 x3 x4 x5) r:=evl [] 0 (fun _ _ _=>by kernel_rfl) h
end qehz
namespace qecz
def f (k:Fu) (a0:Int) (a1:List (Int×Int)):Option (Int×(Int×Bool)):=PI Cx (k 0) 160 [vi a0,vl 74 (.pair i6 i6) a1]
def l0 (k:Fu) (x0 x1:Int) (x2:List (Int×Int)) (x3 x4:Int):Option (Int×(Int×Bool)):=zap Cx (k 0) 160 [tt,tt,tt,ff,tt,tt] [k 1] ⟨[(0,vi x0),(7,vi x1),(22,vl 74 (.pair i6 i6) x2),(23,vi x3),(24,vi x4)],[],[]⟩
def l1 (k:Fu) (x0 x1 x2:Int) (x3:List (Int×Int)) (x4 x5:Int):Option (Int×(Int×Bool)):=zap Cx (k 0) 160 [tt,tt,tt,ff,tt,tt,tt,tt,tt,ff,tt,tt,tt,ff,tt] [k 1,k 2] ⟨[(0,vi x0),(10,vi x1),(11,vi x2),(22,vl 74 (.pair i6 i6) x3),(23,vi x4),(24,vi x5)],[],[]⟩
theorem v {a0:Int} {a1:List (Int×Int)} {r} (h:Ev (fun k=>(qilz.f a0 1 1000).bind fun t0 =>
 if (!t0) then some (0,(0,false)) else (qhyz.f k a1).bind fun t1 =>
 if (!t1) then some (0,(0,false)) else l0 k a0 0 a1 (ln a1) 0) r):Ev (fun k=>f k a0 a1) r:=evf (fun _ _ h=>by rw [<- qilz.k (dl h)]; exact zac Cx (by kernel_rfl)) h
theorem v0 {x0 x1:Int} {x2:List (Int×Int)} {x3 x4:Int} {r} (h:Ev (fun k=>if (iLt x4 x3) then ix x4 x2 <| (qhxz.f (rd (0,0) x2 x4).2).bind fun t0 =>
 l1 k x0 x1 t0 x2 x3 x4 else if (x1 == 0) then some (0,(0,false)) else (qiaz.f k x0 x1).bind fun t0 =>
 some (t0.1,(t0.2,true))) r):Ev (fun k=>l0 k x0 x1 x2 x3 x4) r:=evl [] 0 (fun _ _ h=>by rw [<- qhxz.k (dl h)]; kernel_rfl) h
theorem v1 {x0 x1 x2:Int} {x3:List (Int×Int)} {x4 x5:Int} {r} (h:Ev (fun k=>if (iGt x2 0) then if x2=0 then none else l1 k x0 x2 (Int.tmod x1 x2) x3 x4 x5 else l0 k x0 x1 x3 x4 (W (x5+1))) r):Ev (fun k=>l1 k x0 x1 x2 x3 x4 x5) r:=evl [1] 1 (fun _ _ _=>by kernel_rfl) h
end qecz
namespace qebz
def f (k:Fu) (a0 a1 a2 a3:Int):Option (Int×(Int×Bool)):=PI Cx (k 0) 161 [va [ci a0,ci a1,ci a2,ci a3]]
theorem v {a0 a1 a2 a3:Int} {r} (h:Ev (fun k=>(qguz.f a0 a1 a2 a3).bind fun t0 =>
 if (!t0) then some (0,(0,false)) else (qiaz.f k a0 (W (a1+a2))).bind fun t1 =>
 some (t1.1,(t1.2,true))) r):Ev (fun k=>f k a0 a1 a2 a3) r:=evf (fun _ _ h=>by rw [<- qguz.k (dl h)]; exact zac Cx (by kernel_rfl)) h
end qebz
namespace qdhz
def f (k:Fu) (a0 a1 a2 a3:Int):Option (Int×(Int×Bool)):=PI Cx (k 0) 162 [va [ci a0,ci a1,ci a2,ci a3]]
theorem v {a0 a1 a2 a3:Int} {r} (h:Ev (fun k=>(qguz.f a0 a1 a2 a3).bind fun t0 =>
 if (!t0) then some (0,(0,false)) else (qiaz.f k (W (a0*a3)) (W (a1+a2))).bind fun t1 =>
 some (t1.1,(t1.2,true))) r):Ev (fun k=>f k a0 a1 a2 a3) r:=evf (fun _ _ h=>by rw [<- qguz.k (dl h)]; exact zac Cx (by kernel_rfl)) h
end qdhz
namespace qhvz
def f (k:Fu) (a0 a1 a2 a3 a4:Int):Option (List (Int×(Int×(Int×(Int×Int))))):=PI Cx (k 0) 220 [va [ci a0,ci a1,ci a2,ci a3],vi a4]
def l0 (k:Fu) (x0 x1 x2 x3 x4 x5 x6 x7 x8 x9 x10:Int) (x11:List (Int×(Int×(Int×(Int×Int))))):Option (List (Int×(Int×(Int×(Int×Int))))):=zap Cx (k 0) 220 [tt,tt,tt,ff,tt,tt] [k 1] ⟨[(1,vi x0),(2,vp 0 0),(5,vp 1003000 0),(6,vf 1000000006000),(7,vi x1)],[(0,.box 108 [ci x2,ci x3,ci x4,ci x5]),(1003000,.box 205 [ci x6,ci x7,ci x8,ci x9,ci x10]),(1000000006000,.row 205 (.pair i6 (.pair i6 (.pair i6 (.pair i6 i6)))) x11 .own)],[]⟩
theorem v {a0 a1 a2 a3 a4:Int} {r} (h:Ev (fun k=>l0 k a4 1 a0 a1 a2 a3 0 0 a0 0 1 [(0,(0,(a0,(0,1))))]) r):Ev (fun k=>f k a0 a1 a2 a3 a4) r:=evf (fun _ _ _=>zac Cx (by kernel_rfl)) h
theorem v0 {x0 x1 x2 x3 x4 x5 x6 x7 x8 x9 x10:Int} {x11:List (Int×(Int×(Int×(Int×Int))))} {r} (h:Ev (fun k=>if (iLe x1 x0) then if ((Int.tmod x1 2) == 0) then (qgvz.f 0 (W (0-x5))).bind fun t0 =>
 gd (((lnN x11)+1)<=3518437208883) <| l0 k x0 (W (x1+1)) x2 x3 x4 x5 (W ((W (x6*(W (x5+x3))))+x8)) (W ((W (x7*(W (x5+x3))))+(W ((W (0-x5))*x8)))) (W (x8*(W ((W ((W (x5+x3))-x3))-x4)))) (W ((W (x9*(W (x5+x3))))+(W (t0*x8)))) (W (x10*(W (x5+x3)))) (x11++[((W ((W (x6*(W (x5+x3))))+x8)),((W ((W (x7*(W (x5+x3))))+(W ((W (0-x5))*x8)))),((W (x8*(W ((W ((W (x5+x3))-x3))-x4)))),((W ((W (x9*(W (x5+x3))))+(W (t0*x8)))),(W (x10*(W (x5+x3))))))))]) else (qgvz.f 0 x5).bind fun t0 =>
 gd (((lnN x11)+1)<=3518437208883) <| l0 k x0 (W (x1+1)) x2 x3 x4 x5 (W ((W (x6*(W (x5+x4))))+x8)) (W ((W (x7*(W (x5+x4))))+(W (x5*x8)))) (W (x8*(W ((W ((W (x5+x4))-x3))-x4)))) (W ((W (x9*(W (x5+x4))))+(W (t0*x8)))) (W (x10*(W (x5+x4)))) (x11++[((W ((W (x6*(W (x5+x4))))+x8)),((W ((W (x7*(W (x5+x4))))+(W (x5*x8)))),((W (x8*(W ((W ((W (x5+x4))-x3))-x4)))),((W ((W (x9*(W (x5+x4))))+(W (t0*x8)))),(W (x10*(W (x5+x4))))))))]) else some x11) r):Ev (fun k=>l0 k x0 x1 x2 x3 x4 x5 x6 x7 x8 x9 x10 x11) r:=evl [] 0 (fun _ _ h=>by rw [<- qgvz.k (dl h)]; kernel_rfl) h
end qhvz
namespace qbuz
def f (k:Fu) (a0 a1 a2 a3 a4:Int):Option (Int×(Int×Bool)):=PI Cx (k 0) 163 [va [ci a0,ci a1,ci a2,ci a3],vi a4]
theorem v {a0 a1 a2 a3 a4:Int} {r} (h:Ev (fun k=>(qguz.f a0 a1 a2 a3).bind fun t0 =>
 if (!t0) then some (0,(0,false)) else (qilz.f a4 1 6).bind fun t1 =>
 if (!t1) then some (0,(0,false)) else (qhvz.f k a0 a1 a2 a3 a4).bind fun t2 =>
 ix a4 t2 <| (qiaz.f k (rd (0,(0,(0,(0,0)))) t2 a4).2.2.1 (rd (0,(0,(0,(0,0)))) t2 a4).2.2.2.2).bind fun t3 =>
 some (t3.1,(t3.2,true))) r):Ev (fun k=>f k a0 a1 a2 a3 a4) r:=evf (fun _ _ h=>by rw [<- qguz.k (dl h),<- qilz.k (dl h)]; exact zac Cx (by kernel_rfl)) h
end qbuz
namespace qhkz
def f (k:Fu) (a0:List (Int×Int)):Option (Int×Int):=PI Cx (k 0) 221 [vl 88 (.pair i6 i6) a0]
def l0 (k:Fu) (x0 x1:Int) (x2:List (Int×Int)) (x3 x4:Int):Option (Int×Int):=zap Cx (k 0) 221 [tt,tt,ff,tt,tt] [k 1] ⟨[(4,vi x0),(5,vi x1),(8,vl 88 (.pair i6 i6) x2),(9,vi x3),(10,vi x4)],[],[]⟩
theorem v {a0:List (Int×Int)} {r} (h:Ev (fun k=>l0 k 0 1 a0 (ln a0) 0) r):Ev (fun k=>f k a0) r:=evf (fun _ _ _=>zac Cx (by kernel_rfl)) h
theorem v0 {x0 x1:Int} {x2:List (Int×Int)} {x3 x4:Int} {r} (h:Ev (fun k=>if (iLt x4 x3) then ix x4 x2 <| (qiaz.f k (W ((W (x0*(rd (0,0) x2 x4).2))+(W ((rd (0,0) x2 x4).1*x1)))) (W (x1*(rd (0,0) x2 x4).2))).bind fun t0 =>
 l0 k t0.1 t0.2 x2 x3 (W (x4+1)) else some (x0,x1)) r):Ev (fun k=>l0 k x0 x1 x2 x3 x4) r:=evl [] 0 (fun _ _ _=>by kernel_rfl) h
end qhkz
namespace qhoz
def f (k:Fu) (a0:List (Int×Int)):Option Int:=PI Cx (k 0) 222 [vl 88 (.pair i6 i6) a0]
def l0 (k:Fu) (x0:Int) (x1:List (Int×Int)) (x2 x3:Int):Option Int:=zap Cx (k 0) 222 [tt,tt,ff,tt,tt] [k 1] ⟨[(3,vi x0),(6,vl 88 (.pair i6 i6) x1),(7,vi x2),(8,vi x3)],[],[]⟩
theorem v {a0:List (Int×Int)} {r} (h:Ev (fun k=>l0 k 0 a0 (ln a0) 0) r):Ev (fun k=>f k a0) r:=evf (fun _ _ _=>zac Cx (by kernel_rfl)) h
theorem v0 {x0:Int} {x1:List (Int×Int)} {x2 x3:Int} {r} (h:Ev (fun k=>if (iLt x3 x2) then ix x3 x1 <| l0 k (W (x0+(rd (0,0) x1 x3).1)) x1 x2 (W (x3+1)) else some x0) r):Ev (fun k=>l0 k x0 x1 x2 x3) r:=evl [] 0 (fun _ _ _=>by kernel_rfl) h
end qhoz
namespace qesz
def f (k:Fu) (a0:List (Int×Int)):Option (Int×(Int×Bool)):=PI Cx (k 0) 164 [vl 88 (.pair i6 i6) a0]
theorem v {a0:List (Int×Int)} {r} (h:Ev (fun k=>(qhpz.f k a0).bind fun t0 =>
 if (!t0) then some (0,(0,false)) else (qhkz.f k a0).bind fun t1 =>
 (qhoz.f k a0).bind fun t2 =>
 (qiaz.f k (W (t2*t1.2)) t1.1).bind fun t3 =>
 some (t3.1,(t3.2,true))) r):Ev (fun k=>f k a0) r:=evf (fun _ _ _=>zac Cx (by kernel_rfl)) h
end qesz
namespace qdvz
def f (k:Fu) (a0:List (Int×Int)):Option (Int×(Int×Bool)):=PI Cx (k 0) 165 [vl 88 (.pair i6 i6) a0]
theorem v {a0:List (Int×Int)} {r} (h:Ev (fun k=>(qhpz.f k a0).bind fun t0 =>
 if (!t0) then some (0,(0,false)) else (qhkz.f k a0).bind fun t1 =>
 some (t1.1,(t1.2,true))) r):Ev (fun k=>f k a0) r:=evf (fun _ _ _=>zac Cx (by kernel_rfl)) h
end qdvz
namespace qdaz
def f (k:Fu) (a0:List (Int×Int)) (a1 a2:Int):Option (Int×(Int×Bool)):=PI Cx (k 0) 166 [vl 88 (.pair i6 i6) a0,vi a1,vi a2]
theorem v {a0:List (Int×Int)} {a1 a2:Int} {r} (h:Ev (fun k=>(qhpz.f k a0).bind fun t0 =>
 if (!t0) then some (0,(0,false)) else (qilz.f a1 1 1000).bind fun t1 =>
 if (!t1) then some (0,(0,false)) else (qilz.f a2 1 100).bind fun t2 =>
 if (!t2) then some (0,(0,false)) else (qhkz.f k a0).bind fun t3 =>
 (qhoz.f k a0).bind fun t4 =>
 if (iLe (W ((W ((W (t4+a1))*t3.2))-(W (t3.1*a2)))) 0) then some (0,(0,false)) else (qiaz.f k (W ((W (a1*a2))*t3.2)) (W ((W ((W (t4+a1))*t3.2))-(W (t3.1*a2))))).bind fun t5 =>
 some (t5.1,(t5.2,true))) r):Ev (fun k=>f k a0 a1 a2) r:=evf (fun _ _ h=>by rw [<- qilz.k (dl h)]; exact zac Cx (by kernel_rfl)) h
end qdaz
namespace qfvz
abbrev P:=Int->Int->Option Int
def f:P:=fun a0 a1=>if (iLt a0 a1) then some a0 else some a1
theorem k {K:Nat} (h:1<=K):(fun a0 a1=>PI Cx K 223 [vi a0,vi a1]:P)=f:=by
 obtain ⟨K,rfl⟩:=zae h
 funext a0 a1
 exact zac Cx (by kernel_rfl)
end qfvz
namespace qcpz
def f (k:Fu) (a0:List (Int×Int)):Option ((List (List Int))×Bool):=PI Cx (k 0) 168 [vl 155 (.pair i6 i6) a0]
def l0 (k:Fu) (x0 x1:List (Int×Int)) (x2 x3:Int) (x4:List (List Int)):Option ((List (List Int))×Bool):=zap Cx (k 0) 168 [tt,tt,tt,ff,tt,tt] [k 1] ⟨[(0,vl 155 (.pair i6 i6) x0),(4,vf 1000000004000),(12,vl 155 (.pair i6 i6) x1),(13,vi x2),(14,vi x3)],[(1000000004000,.row 44 (.sl 3 i6) x4 .own)],[]⟩
def l1 (k:Fu) (x0:List (Int×Int)) (x1 x2:Int) (x3:List (Int×Int)) (x4 x5:Int) (x6:List (List Int)) (x7 x8:Int):Option ((List (List Int))×Bool):=zap Cx (k 0) 168 [tt,tt,tt,ff,tt,tt,tt,tt,tt,ff,tt,tt,tt,tt] [k 1,k 2] ⟨[(0,vl 155 (.pair i6 i6) x0),(4,vf 1000000004000),(5,vi x1),(6,vp 6003000 0),(7,vi x2),(12,vl 155 (.pair i6 i6) x3),(13,vi x4),(14,vi x5)],[(1000000004000,.row 44 (.sl 3 i6) x6 .own),(6003000,.box 155 [ci x7,ci x8])],[]⟩
theorem v {a0:List (Int×Int)} {r} (h:Ev (fun k=>(qgrz.f k a0).bind fun t0 =>
 if (!t0) then some ([],false) else l0 k a0 a0 (ln a0) 0 []) r):Ev (fun k=>f k a0) r:=evf (fun _ _ _=>zac Cx (by kernel_rfl)) h
theorem v0 {x0 x1:List (Int×Int)} {x2 x3:Int} {x4:List (List Int)} {r} (h:Ev (fun k=>if (iLt x3 x2) then ix x3 x1 <| l1 k x0 x3 (W (x3+1)) x1 x2 x3 x4 (rd (0,0) x1 x3).1 (rd (0,0) x1 x3).2 else some (x4,true)) r):Ev (fun k=>l0 k x0 x1 x2 x3 x4) r:=evl [] 0 (fun _ _ _=>by kernel_rfl) h
theorem v1 {x0:List (Int×Int)} {x1 x2:Int} {x3:List (Int×Int)} {x4 x5:Int} {x6:List (List Int)} {x7 x8:Int} {r} (h:Ev (fun k=>if (iLt x2 (ln x0)) then ix x2 x0 <| (qgvz.f x7 (rd (0,0) x0 x2).1).bind fun t0 =>
 (qfvz.f (W (x7+x8)) (W ((rd (0,0) x0 x2).1+(rd (0,0) x0 x2).2))).bind fun t1 =>
 if (iLe t0 t1) then gd (((lnN x6)+1)<=5864062014805) <| l1 k x0 x1 (W (x2+1)) x3 x4 x5 (x6++[[x1,x2]]) x7 x8 else l1 k x0 x1 (W (x2+1)) x3 x4 x5 x6 x7 x8 else l0 k x0 x3 x4 (W (x5+1)) x6) r):Ev (fun k=>l1 k x0 x1 x2 x3 x4 x5 x6 x7 x8) r:=evl [1] 1 (fun _ _ h=>by rw [<- qgvz.k (dl h),<- qfvz.k (dl h)]; kernel_rfl) h
end qcpz
namespace qgwz
def f (k:Fu) (a0:List (List Int)) (a1:Bool):Option BA:=PI Cx (k 0) 167 [vl 44 (.sl 3 i6) a0,vb a1]
def l0 (k:Fu) (x0:BA) (x1:List (List Int)) (x2 x3:Int):Option BA:=zap Cx (k 0) 167 [tt,tt,tt,tt,ff,tt,tt] [k 1] ⟨[(5,vs x0),(13,vl 44 (.sl 3 i6) x1),(14,vi x2),(15,vi x3)],[],[]⟩
theorem v {a0:List (List Int)} {a1:Bool} {r} (h:Ev (fun k=>if (!a1) then some (bs [110,111]) else if ((ln a0) == 0) then some (bs [45]) else l0 k (bs []) a0 (ln a0) 0) r):Ev (fun k=>f k a0 a1) r:=evf (fun _ _ _=>zac Cx (by kernel_rfl)) h
theorem v0 {x0:BA} {x1:List (List Int)} {x2 x3:Int} {r} (h:Ev (fun k=>if (iLt x3 x2) then ix x3 x1 <| if (iGt x3 0) then gd (((ByteArray.size x0)+1)<=maxLen) <| (qgyz.f k (rd [] x1 x3) true).bind fun t0 =>
 gd (((ByteArray.size (x0++(bs [32])))+(ByteArray.size t0))<=maxLen) <| l0 k ((x0++(bs [32]))++t0) x1 x2 (W (x3+1)) else (qgyz.f k (rd [] x1 x3) true).bind fun t0 =>
 gd (((ByteArray.size x0)+(ByteArray.size t0))<=maxLen) <| l0 k (x0++t0) x1 x2 (W (x3+1)) else some x0) r):Ev (fun k=>l0 k x0 x1 x2 x3) r:=evl [] 0 (fun _ _ _=>by kernel_rfl) h
end qgwz
namespace qfrz
def f (k:Fu) (a0:List (Int×Int)) (a1:Int):Option (List Int):=PI Cx (k 0) 224 [vl 155 (.pair i6 i6) a0,vi a1]
def l0 (k:Fu) (x0:Int) (x1:List (Int×Int)) (x2 x3:Int) (x4:List Int):Option (List Int):=zap Cx (k 0) 224 [tt,tt,ff,tt,tt] [k 1] ⟨[(1,vi x0),(5,vf 1000000005000),(8,vl 155 (.pair i6 i6) x1),(9,vi x2),(10,vi x3)],[(1000000005000,.row 3 i6 x4 .own)],[]⟩
theorem v {a0:List (Int×Int)} {a1:Int} {r} (h:Ev (fun k=>l0 k a1 a0 (ln a0) 0 []) r):Ev (fun k=>f k a0 a1) r:=evf (fun _ _ _=>zac Cx (by kernel_rfl)) h
theorem v0 {x0:Int} {x1:List (Int×Int)} {x2 x3:Int} {x4:List Int} {r} (h:Ev (fun k=>if (iLt x3 x2) then ix x3 x1 <| (qilz.f x0 (rd (0,0) x1 x3).1 (W ((rd (0,0) x1 x3).1+(rd (0,0) x1 x3).2))).bind fun t0 =>
 if t0 then gd (((lnN x4)+1)<=17592186044416) <| l0 k x0 x1 x2 (W (x3+1)) (x4++[x3]) else l0 k x0 x1 x2 (W (x3+1)) x4 else some x4) r):Ev (fun k=>l0 k x0 x1 x2 x3 x4) r:=evl [] 0 (fun _ _ h=>by rw [<- qilz.k (dl h)]; kernel_rfl) h
end qfrz
namespace qcjz
def f (k:Fu) (a0:List (Int×Int)):Option ((List Int)×Bool):=PI Cx (k 0) 169 [vl 155 (.pair i6 i6) a0]
def l0 (k:Fu) (x0:List (Int×Int)) (x1:List Int) (x2:List Bool):Option ((List Int)×Bool):=zap Cx (k 0) 169 [tt,tt,tt,tt,tt] [k 1] ⟨[(0,vl 155 (.pair i6 i6) x0),(4,vf 1000000004000),(5,vf 1000000005000)],[(1000000004000,.row 3 i6 x1 .own),(1000000005000,.row 4 .bool x2 .own)],[]⟩
def l1 (k:Fu) (x0:List (Int×Int)) (x1:Int) (x2:List (Int×Int)) (x3 x4:Int) (x5:List Int) (x6:List Bool):Option ((List Int)×Bool):=zap Cx (k 0) 169 [tt,tt,tt,tt,tt,tt,tt,tt,ff,tt,tt] [k 1,k 2] ⟨[(0,vl 155 (.pair i6 i6) x0),(4,vf 1000000004000),(5,vf 1000000005000),(6,vi x1),(17,vl 155 (.pair i6 i6) x2),(18,vi x3),(19,vi x4)],[(1000000004000,.row 3 i6 x5 .own),(1000000005000,.row 4 .bool x6 .own)],[]⟩
def l2 (k:Fu) (x0:List (Int×Int)) (x1:List Int) (x2 x3:Int) (x4:List Int) (x5:List Bool):Option ((List Int)×Bool):=zap Cx (k 0) 169 [tt,tt,tt,tt,tt,tt,tt,tt,tt,tt,tt,tt,tt] [k 1,k 3] ⟨[(0,vl 155 (.pair i6 i6) x0),(4,vf 1000000004000),(5,vf 1000000005000),(57,vl 3 i6 x1),(58,vi x2),(59,vi x3)],[(1000000004000,.row 3 i6 x4 .own),(1000000005000,.row 4 .bool x5 .own)],[]⟩
theorem v {a0:List (Int×Int)} {r} (h:Ev (fun k=>(qgrz.f k a0).bind fun t0 =>
 if (!t0) then some ([],false) else gd (0<=(ln a0)) <| gd ((ln a0)<=(ln a0)) <| gd (((ln a0)*1)<=140737488355328) <| l0 k a0 [] (List.replicate (Int.toNat (ln a0)) false)) r):Ev (fun k=>f k a0) r:=evf (fun _ _ _=>zac Cx (by kernel_rfl)) h
theorem v0 {x0:List (Int×Int)} {x1:List Int} {x2:List Bool} {r} (h:Ev (fun k=>l1 k x0 (-1) x0 (ln x0) 0 x1 x2) r):Ev (fun k=>l0 k x0 x1 x2) r:=evl [] 0 (fun _ _ _=>by kernel_rfl) h
theorem v1 {x0:List (Int×Int)} {x1:Int} {x2:List (Int×Int)} {x3 x4:Int} {x5:List Int} {x6:List Bool} {r} (h:Ev (fun k=>if (iLt x4 x3) then ix x4 x2 <| ix x4 x6 <| if (!(rd false x6 x4)) then if (iLt x1 0) then l1 k x0 (W ((rd (0,0) x2 x4).1+(rd (0,0) x2 x4).2)) x2 x3 (W (x4+1)) x5 x6 else if (iLt (W ((rd (0,0) x2 x4).1+(rd (0,0) x2 x4).2)) x1) then l1 k x0 (W ((rd (0,0) x2 x4).1+(rd (0,0) x2 x4).2)) x2 x3 (W (x4+1)) x5 x6 else l1 k x0 x1 x2 x3 (W (x4+1)) x5 x6 else l1 k x0 x1 x2 x3 (W (x4+1)) x5 x6 else if (iLt x1 0) then some (x5,true) else gd (((lnN x5)+1)<=17592186044416) <| (qfrz.f k x0 x1).bind fun t0 =>
 l2 k x0 t0 (ln t0) 0 (x5++[x1]) x6) r):Ev (fun k=>l1 k x0 x1 x2 x3 x4 x5 x6) r:=evl [1] 1 (fun _ _ _=>by kernel_rfl) h
theorem v2 {x0:List (Int×Int)} {x1:List Int} {x2 x3:Int} {x4:List Int} {x5:List Bool} {r} (h:Ev (fun k=>if (iLt x3 x2) then ix x3 x1 <| ix (rd 0 x1 x3) x5 <| l2 k x0 x1 x2 (W (x3+1)) x4 (List.set x5 (Int.toNat (rd 0 x1 x3)) true) else l0 k x0 x4 x5) r):Ev (fun k=>l2 k x0 x1 x2 x3 x4 x5) r:=evl [1] 2 (fun _ _ _=>by kernel_rfl) h
end qcjz
namespace qetz
abbrev P:=Int->Int->Int->Option Bool
def f:P:=fun a0 a1 a2=>(qilz.f a0 1 200).bind fun t0 =>
 if t0 then (qilz.f a1 0 200).bind fun t1 =>
 if t1 then (qilz.f a2 0 200).bind fun t2 =>
 some t2 else some false else some false
theorem k {K:Nat} (h:2<=K):(fun a0 a1 a2=>PI Cx K 225 [vi a0,vi a1,vi a2]:P)=f:=by
 obtain ⟨K,rfl⟩:=zae h
 funext a0 a1 a2
 unfold f
 rw [<- qilz.k (dk h)]
 exact zac Cx (by kernel_rfl)
end qetz
namespace qdtz
def f (k:Fu) (a0 a1 a2:Int):Option Int:=PI Cx (k 0) 226 [vi a0,vi a1,vi a2]
def l0 (k:Fu) (x0 x1 x2 x3 x4:Int):Option Int:=zap Cx (k 0) 226 [tt,tt,ff,tt,tt] [k 1] ⟨[(0,vi x0),(1,vi x1),(2,vi x2),(7,vi x3),(8,vi x4)],[],[]⟩
def l1 (k:Fu) (x0 x1 x2 x3 x4 x5:Int):Option Int:=zap Cx (k 0) 226 [tt,tt,ff,tt,tt,tt,tt,ff,tt,tt,tt] [k 1,k 2] ⟨[(0,vi x0),(1,vi x1),(2,vi x2),(7,vi x3),(8,vi x4),(9,vi x5)],[],[]⟩
theorem v {a0 a1 a2:Int} {r} (h:Ev (fun k=>l0 k a0 a1 a2 0 0) r):Ev (fun k=>f k a0 a1 a2) r:=evf (fun _ _ _=>zac Cx (by kernel_rfl)) h
theorem v0 {x0 x1 x2 x3 x4:Int} {r} (h:Ev (fun k=>if (iLt x4 x0) then l1 k x0 x1 x2 x3 x4 0 else some x3) r):Ev (fun k=>l0 k x0 x1 x2 x3 x4) r:=evl [] 0 (fun _ _ _=>by kernel_rfl) h
theorem v1 {x0 x1 x2 x3 x4 x5:Int} {r} (h:Ev (fun k=>if (iLt x5 x0) then if (iLe (W (x5-x4)) x1) then if (iLe (W (x4-x5)) x2) then l1 k x0 x1 x2 (W (x3+1)) x4 (W (x5+1)) else l1 k x0 x1 x2 x3 x4 (W (x5+1)) else l1 k x0 x1 x2 x3 x4 (W (x5+1)) else l0 k x0 x1 x2 x3 (W (x4+1))) r):Ev (fun k=>l1 k x0 x1 x2 x3 x4 x5) r:=evl [1] 1 (fun _ _ _=>by kernel_rfl) h
end qdtz
namespace qbqz
def f (k:Fu) (a0 a1 a2:Int):Option (Int×(Int×Bool)):=PI Cx (k 0) 170 [vi a0,vi a1,vi a2]
theorem v {a0 a1 a2:Int} {r} (h:Ev (fun k=>(qetz.f a0 a1 a2).bind fun t0 =>
 if (!t0) then some (0,(0,false)) else (qdtz.f k a0 a1 a2).bind fun t1 =>
 (qiaz.f k t1 (W (a0*a0))).bind fun t2 =>
 some (t2.1,(t2.2,true))) r):Ev (fun k=>f k a0 a1 a2) r:=evf (fun _ _ h=>by rw [<- qetz.k (dl h)]; exact zac Cx (by kernel_rfl)) h
end qbqz
namespace qcgz
def f (k:Fu) (a0:List (Int×Int)) (a1:Int) (a2:List (Int×Int)) (a3 a4 a5 a6:Int) (a7 a8:List (Int×Int)) (a9:List Int) (a10:BA):Option (BA×((List (Int×Int))×(Int×((List (Int×Int))×(Int×(Int×(Int×(Int×((List (Int×Int))×((List (Int×Int))×(List Int))))))))))):=PI Cx (k 0) 100 [va [.sl 74 (.pair i6 i6) a0,ci a1,.sl 74 (.pair i6 i6) a2,ci a3,ci a4,ci a5,ci a6,.sl 88 (.pair i6 i6) a7,.sl 155 (.pair i6 i6) a8,.sl 3 i6 a9],vs a10]
theorem v {a0:List (Int×Int)} {a1:Int} {a2:List (Int×Int)} {a3 a4 a5 a6:Int} {a7 a8:List (Int×Int)} {a9:List Int} {a10:BA} {r} (h:Ev (fun k=>if (seq a10 (bs [115,104,111,119])) then (qhbz.f k a0).bind fun t0 =>
 some (t0,(a0,(a1,(a2,(a3,(a4,(a5,(a6,(a7,(a8,a9)))))))))) else if (seq a10 (bs [109,101,101,116])) then (qddz.f k a0 a1 a2 a3 a4 a5 a6 a7 a8 a9 a10).bind fun t0 =>
 some t0 else if (seq a10 (bs [119,104,101,114,101])) then (qddz.f k a0 a1 a2 a3 a4 a5 a6 a7 a8 a9 a10).bind fun t0 =>
 some t0 else if (seq a10 (bs [97,114,111,117,110,100])) then (qddz.f k a0 a1 a2 a3 a4 a5 a6 a7 a8 a9 a10).bind fun t0 =>
 some t0 else if (seq a10 (bs [103,97,112])) then (qddz.f k a0 a1 a2 a3 a4 a5 a6 a7 a8 a9 a10).bind fun t0 =>
 some t0 else if (seq a10 (bs [112,108,97,99,101,115])) then (qddz.f k a0 a1 a2 a3 a4 a5 a6 a7 a8 a9 a10).bind fun t0 =>
 some t0 else if (seq a10 (bs [112,97,105,114,115])) then (qbwz.f k a0).bind fun t0 =>
 (qexz.f k t0.1 t0.2).bind fun t1 =>
 some (t1,(a0,(a1,(a2,(a3,(a4,(a5,(a6,(a7,(a8,a9)))))))))) else if (seq a10 (bs [102,105,114,115,116])) then (qdiz.f k a0).bind fun t0 =>
 if ((ln t0.1) == 0) then some ((bs [110,111]),(a0,(a1,(a2,(a3,(a4,(a5,(a6,(a7,(a8,a9)))))))))) else gd (0 < (ln t0.1)) <| gd (2<=(ln (rd [] t0.1 0))) <| (qgyz.f k (List.take 2 (rd [] t0.1 0)) true).bind fun t1 =>
 some (t1,(a0,(a1,(a2,(a3,(a4,(a5,(a6,(a7,(a8,a9)))))))))) else if (seq a10 (bs [108,101,97,100])) then (qejz.f k a0).bind fun t0 =>
 (qgyz.f k t0.1 t0.2).bind fun t1 =>
 some (t1,(a0,(a1,(a2,(a3,(a4,(a5,(a6,(a7,(a8,a9)))))))))) else if (seq a10 (bs [108,97,115,116])) then (qegz.f k a0).bind fun t0 =>
 (qgyz.f k t0.1 t0.2).bind fun t1 =>
 some (t1,(a0,(a1,(a2,(a3,(a4,(a5,(a6,(a7,(a8,a9)))))))))) else if (seq a10 (bs [97,116])) then gd (0 < (ln a9)) <| (qehz.f k a0 (rd 0 a9 0) 1).bind fun t0 =>
 (qgyz.f k t0.1 t0.2).bind fun t1 =>
 some (t1,(a0,(a1,(a2,(a3,(a4,(a5,(a6,(a7,(a8,a9)))))))))) else if (seq a10 (bs [115,116,97,114,116])) then (qecz.f k a1 a0).bind fun t0 =>
 (qhiz.f k t0.1 t0.2.1 t0.2.2).bind fun t1 =>
 some (t1,(a0,(a1,(a2,(a3,(a4,(a5,(a6,(a7,(a8,a9)))))))))) else if (seq a10 (bs [100,111,103])) then (qebz.f k a3 a4 a5 a6).bind fun t0 =>
 (qhiz.f k t0.1 t0.2.1 t0.2.2).bind fun t1 =>
 some (t1,(a0,(a1,(a2,(a3,(a4,(a5,(a6,(a7,(a8,a9)))))))))) else if (seq a10 (bs [114,117,110])) then (qdhz.f k a3 a4 a5 a6).bind fun t0 =>
 (qhiz.f k t0.1 t0.2.1 t0.2.2).bind fun t1 =>
 some (t1,(a0,(a1,(a2,(a3,(a4,(a5,(a6,(a7,(a8,a9)))))))))) else if (seq a10 (bs [97,112,97,114,116])) then gd (0 < (ln a9)) <| (qbuz.f k a3 a4 a5 a6 (rd 0 a9 0)).bind fun t0 =>
 (qhiz.f k t0.1 t0.2.1 t0.2.2).bind fun t1 =>
 some (t1,(a0,(a1,(a2,(a3,(a4,(a5,(a6,(a7,(a8,a9)))))))))) else if (seq a10 (bs [109,101,97,110])) then (qesz.f k a7).bind fun t0 =>
 (qhiz.f k t0.1 t0.2.1 t0.2.2).bind fun t1 =>
 some (t1,(a0,(a1,(a2,(a3,(a4,(a5,(a6,(a7,(a8,a9)))))))))) else if (seq a10 (bs [116,105,109,101])) then (qdvz.f k a7).bind fun t0 =>
 (qhiz.f k t0.1 t0.2.1 t0.2.2).bind fun t1 =>
 some (t1,(a0,(a1,(a2,(a3,(a4,(a5,(a6,(a7,(a8,a9)))))))))) else if (seq a10 (bs [110,101,101,100])) then gd (0 < (ln a9)) <| gd (1 < (ln a9)) <| (qdaz.f k a7 (rd 0 a9 0) (rd 0 a9 1)).bind fun t0 =>
 (qhiz.f k t0.1 t0.2.1 t0.2.2).bind fun t1 =>
 some (t1,(a0,(a1,(a2,(a3,(a4,(a5,(a6,(a7,(a8,a9)))))))))) else if (seq a10 (bs [118,105,115,105,116,115])) then (qcpz.f k a8).bind fun t0 =>
 (qgwz.f k t0.1 t0.2).bind fun t1 =>
 some (t1,(a0,(a1,(a2,(a3,(a4,(a5,(a6,(a7,(a8,a9)))))))))) else if (seq a10 (bs [103,117,105,100,101,115])) then (qcjz.f k a8).bind fun t0 =>
 (qgyz.f k t0.1 t0.2).bind fun t1 =>
 some (t1,(a0,(a1,(a2,(a3,(a4,(a5,(a6,(a7,(a8,a9)))))))))) else gd (0 < (ln a9)) <| gd (1 < (ln a9)) <| gd (2 < (ln a9)) <| (qbqz.f k (rd 0 a9 0) (rd 0 a9 1) (rd 0 a9 2)).bind fun t0 =>
 (qhiz.f k t0.1 t0.2.1 t0.2.2).bind fun t1 =>
 some (t1,(a0,(a1,(a2,(a3,(a4,(a5,(a6,(a7,(a8,a9))))))))))) r):Ev (fun k=>f k a0 a1 a2 a3 a4 a5 a6 a7 a8 a9 a10) r:=evf (fun _ _ _=>zac Cx (by kernel_rfl)) h
end qcgz
namespace qhez
def f (k:Fu) (a0:List (Int×Int)) (a1:Int) (a2:BA):Option (((List (Int×Int))×Int)×BA):=PI Cx (k 0) 52 [va [.sl 74 (.pair i6 i6) a0,ci a1],vs a2]
theorem v {a0:List (Int×Int)} {a1:Int} {a2:BA} {r} (h:Ev (fun k=>(qhgz.f k a0 a1 a2).bind fun t0 =>
 if (!t0.2.2) then some ((a0,a1),(bs [119,104,97,116])) else if (seq t0.1 (bs [119,97,108,107,101,114,115])) then (qchz.f k t0.2.1.1 t0.2.1.2.1 t0.2.1.2.2.1 t0.2.1.2.2.2.1 t0.2.1.2.2.2.2.1 t0.2.1.2.2.2.2.2.1 t0.2.1.2.2.2.2.2.2.1 t0.2.1.2.2.2.2.2.2.2.1 t0.2.1.2.2.2.2.2.2.2.2.1 t0.2.1.2.2.2.2.2.2.2.2.2 t0.1).bind fun t1 =>
 some ((t1.2.1,t1.2.2.1),t1.1) else if (seq t0.1 (bs [114,105,110,103])) then (qchz.f k t0.2.1.1 t0.2.1.2.1 t0.2.1.2.2.1 t0.2.1.2.2.2.1 t0.2.1.2.2.2.2.1 t0.2.1.2.2.2.2.2.1 t0.2.1.2.2.2.2.2.2.1 t0.2.1.2.2.2.2.2.2.2.1 t0.2.1.2.2.2.2.2.2.2.2.1 t0.2.1.2.2.2.2.2.2.2.2.2 t0.1).bind fun t1 =>
 some ((t1.2.1,t1.2.2.1),t1.1) else if (seq t0.1 (bs [116,117,114,110])) then (qchz.f k t0.2.1.1 t0.2.1.2.1 t0.2.1.2.2.1 t0.2.1.2.2.2.1 t0.2.1.2.2.2.2.1 t0.2.1.2.2.2.2.2.1 t0.2.1.2.2.2.2.2.2.1 t0.2.1.2.2.2.2.2.2.2.1 t0.2.1.2.2.2.2.2.2.2.2.1 t0.2.1.2.2.2.2.2.2.2.2.2 t0.1).bind fun t1 =>
 some ((t1.2.1,t1.2.2.1),t1.1) else if (seq t0.1 (bs [97,100,100])) then (qchz.f k t0.2.1.1 t0.2.1.2.1 t0.2.1.2.2.1 t0.2.1.2.2.2.1 t0.2.1.2.2.2.2.1 t0.2.1.2.2.2.2.2.1 t0.2.1.2.2.2.2.2.2.1 t0.2.1.2.2.2.2.2.2.2.1 t0.2.1.2.2.2.2.2.2.2.2.1 t0.2.1.2.2.2.2.2.2.2.2.2 t0.1).bind fun t1 =>
 some ((t1.2.1,t1.2.2.1),t1.1) else if (seq t0.1 (bs [100,114,111,112])) then (qchz.f k t0.2.1.1 t0.2.1.2.1 t0.2.1.2.2.1 t0.2.1.2.2.2.1 t0.2.1.2.2.2.2.1 t0.2.1.2.2.2.2.2.1 t0.2.1.2.2.2.2.2.2.1 t0.2.1.2.2.2.2.2.2.2.1 t0.2.1.2.2.2.2.2.2.2.2.1 t0.2.1.2.2.2.2.2.2.2.2.2 t0.1).bind fun t1 =>
 some ((t1.2.1,t1.2.2.1),t1.1) else (qcgz.f k t0.2.1.1 t0.2.1.2.1 t0.2.1.2.2.1 t0.2.1.2.2.2.1 t0.2.1.2.2.2.2.1 t0.2.1.2.2.2.2.2.1 t0.2.1.2.2.2.2.2.2.1 t0.2.1.2.2.2.2.2.2.2.1 t0.2.1.2.2.2.2.2.2.2.2.1 t0.2.1.2.2.2.2.2.2.2.2.2 t0.1).bind fun t1 =>
 some ((a0,a1),t1.1)) r):Ev (fun k=>f k a0 a1 a2) r:=evf (fun _ _ _=>zac Cx (by kernel_rfl)) h
end qhez
namespace qhwz
abbrev P:=List (Int×Int)->Int->Option ((List (Int×Int))×Int)
def f:P:=fun a0 a1=>gd ((0+(lnN a0))<=8796093022208) <| some (([]++a0),a1)
theorem k {K:Nat} (h:1<=K):(fun a0 a1=>PI Cx K 39 [va [.sl 74 (.pair i6 i6) a0,ci a1]]:P)=f:=by
 obtain ⟨K,rfl⟩:=zae h
 funext a0 a1
 exact zac Cx (by kernel_rfl)
end qhwz
namespace qflz
def f (k:Fu) (a0:List (Int×Int)) (a1:Int) (a2:BA):Option (((List (Int×Int))×Int)×(BA×Bool)):=PI Cx (k 0) 18 [va [.sl 74 (.pair i6 i6) a0,ci a1],vs a2]
theorem v {a0:List (Int×Int)} {a1:Int} {a2:BA} {r} (h:Ev (fun k=>(qgqz.f k a0 a1).bind fun t0 =>
 if (!t0) then some (([],0),((bs []),false)) else if (iGt (sln a2) 3000) then some (([],0),((bs []),false)) else (qfqz.f k a2 10).bind fun t1 =>
 if (iGt (ln t1) 1) then some (([],0),((bs []),false)) else (qhez.f k a0 a1 a2).bind fun t2 =>
 (qhwz.f t2.1.1 t2.1.2).bind fun t3 =>
 some (t3,(t2.2,true))) r):Ev (fun k=>f k a0 a1 a2) r:=evf (fun _ _ h=>by rw [<- qhwz.k (dl h)]; exact zac Cx (by kernel_rfl)) h
end qflz
namespace qfnz
def f (k:Fu) (a0 a1:List (Int×Int)):Option Bool:=PI Cx (k 0) 53 [vl 74 (.pair i6 i6) a0,vl 74 (.pair i6 i6) a1]
def l0 (k:Fu) (x0 x1:List (Int×Int)) (x2 x3:Int):Option Bool:=zap Cx (k 0) 53 [tt,tt,ff,tt,tt] [k 1] ⟨[(0,vl 74 (.pair i6 i6) x0),(1,vl 74 (.pair i6 i6) x1),(12,vi x2),(13,vi x3)],[],[]⟩
theorem v {a0 a1:List (Int×Int)} {r} (h:Ev (fun k=>if ((ln a0) != (ln a1)) then some false else l0 k a0 a1 (ln a0) 0) r):Ev (fun k=>f k a0 a1) r:=evf (fun _ _ _=>zac Cx (by kernel_rfl)) h
theorem v0 {x0 x1:List (Int×Int)} {x2 x3:Int} {r} (h:Ev (fun k=>if (iLt x3 x2) then ix x3 x0 <| ix x3 x1 <| if (!(((rd (0,0) x0 x3).1 == (rd (0,0) x1 x3).1) && ((rd (0,0) x0 x3).2 == (rd (0,0) x1 x3).2))) then some false else l0 k x0 x1 x2 (W (x3+1)) else some true) r):Ev (fun k=>l0 k x0 x1 x2 x3) r:=evl [] 0 (fun _ _ _=>by kernel_rfl) h
end qfnz
namespace qibz
def f (k:Fu) (a0:List (Int×Int)) (a1:Int) (a2:List (Int×Int)) (a3:Int):Option Bool:=PI Cx (k 0) 19 [va [.sl 74 (.pair i6 i6) a0,ci a1],va [.sl 74 (.pair i6 i6) a2,ci a3]]
theorem v {a0:List (Int×Int)} {a1:Int} {a2:List (Int×Int)} {a3:Int} {r} (h:Ev (fun k=>if (a1 == a3) then (qfnz.f k a0 a2).bind fun t0 =>
 some t0 else some false) r):Ev (fun k=>f k a0 a1 a2 a3) r:=evf (fun _ _ _=>zac Cx (by kernel_rfl)) h
end qibz
namespace qfsz
def f (k:Fu) (a0:Int):Option BA:=PI Cx (k 0) 60 [vi a0]
theorem v {a0:Int} {r} (h:Ev (fun k=>if (iLt a0 10) then some (bytesOf [(IntKind.wrap .u8 (W (48+a0)))]) else (f k (W (Int.tdiv a0 10))).bind fun t0 =>
 (f k (Int.tmod a0 10)).bind fun t1 =>
 gd (((ByteArray.size t0)+(ByteArray.size t1))<=maxLen) <| some (t0++t1)) r):Ev (fun k=>f k a0) r:=evf (fun _ _ _=>zac Cx (by kernel_rfl)) h
end qfsz
namespace qhzz
def f (k:Fu) (a0 a1:Int) (a2:Bool):Option BA:=PI Cx (k 0) 62 [vi a0,vi a1,vb a2]
theorem v {a0 a1:Int} {a2:Bool} {r} (h:Ev (fun k=>if (!a2) then some (bs [110,111]) else if (iLt a1 1) then some (bs [110,111]) else if (iLt a0 0) then (qfsz.f k (W (0-a0))).bind fun t0 =>
 gd ((1+(ByteArray.size t0))<=maxLen) <| gd (((ByteArray.size ((bs [45])++t0))+1)<=maxLen) <| (qfsz.f k a1).bind fun t1 =>
 gd (((ByteArray.size (((bs [45])++t0)++(bs [47])))+(ByteArray.size t1))<=maxLen) <| some ((((bs [45])++t0)++(bs [47]))++t1) else (qfsz.f k a0).bind fun t0 =>
 gd (((ByteArray.size t0)+1)<=maxLen) <| (qfsz.f k a1).bind fun t1 =>
 gd (((ByteArray.size (t0++(bs [47])))+(ByteArray.size t1))<=maxLen) <| some ((t0++(bs [47]))++t1)) r):Ev (fun k=>f k a0 a1 a2) r:=evf (fun _ _ _=>zac Cx (by kernel_rfl)) h
end qhzz
namespace qhaz
def f (k:Fu) (a0:List (Int×Int)) (a1:Int) (a2 a3:BA):Option Bool:=PI Cx (k 0) 61 [va [.sl 74 (.pair i6 i6) a0,ci a1],vs a2,vs a3]
theorem v {a0:List (Int×Int)} {a1:Int} {a2 a3:BA} {r} (h:Ev (fun k=>(qfbz.f k a0 a1 a2).bind fun t0 =>
 if t0.2.2 then if (seq t0.2.1 a3) then (qibz.f k t0.1.1 t0.1.2 a0 a1).bind fun t1 =>
 some t1 else some false else some false) r):Ev (fun k=>f k a0 a1 a2 a3) r:=evf (fun _ _ _=>zac Cx (by kernel_rfl)) h
end qhaz
namespace qeyz
def f (k:Fu) (a0:List (Int×Int)):Option (BA×Bool):=PI Cx (k 0) 65 [vl 88 (.pair i6 i6) a0]
def l0 (k:Fu) (x0:List (Int×Int)) (x1 x2:Int) (x3:List BA):Option (BA×Bool):=zap Cx (k 0) 65 [tt,tt,tt,ff,tt,tt] [k 1] ⟨[(4,vf 1000000004000),(13,vl 88 (.pair i6 i6) x0),(14,vi x1),(15,vi x2)],[(1000000004000,.row 9 .str x3 .own)],[]⟩
theorem v {a0:List (Int×Int)} {r} (h:Ev (fun k=>(qftz.f k a0).bind fun t0 =>
 if (!t0) then some ((bs []),false) else gd (0<=(ln a0)) <| gd ((ln a0)<=(ln a0)) <| gd (((ln a0)*16)<=140737488355328) <| l0 k a0 (ln a0) 0 (List.replicate (Int.toNat (ln a0)) (bs []))) r):Ev (fun k=>f k a0) r:=evf (fun _ _ _=>zac Cx (by kernel_rfl)) h
theorem v0 {x0:List (Int×Int)} {x1 x2:Int} {x3:List BA} {r} (h:Ev (fun k=>if (iLt x2 x1) then ix x2 x0 <| (qczz.f k [(rd (0,0) x0 x2).1,(rd (0,0) x0 x2).2] (bs [47])).bind fun t0 =>
 ix x2 x3 <| l0 k x0 x1 (W (x2+1)) (List.set x3 (Int.toNat x2) t0) else (qgiz.f x3 (bs [43])).bind fun t0 =>
 some (t0,true)) r):Ev (fun k=>l0 k x0 x1 x2 x3) r:=evl [] 0 (fun _ _ h=>by rw [<- qgiz.k (dl h)]; kernel_rfl) h
end qeyz
namespace qgxz
def f (k:Fu) (a0:List (Int×Int)) (a1 a2 a3:Int):Option Bool:=PI Cx (k 0) 22 [va [.sl 74 (.pair i6 i6) a0,ci a1],vi a2,vi a3]
theorem v {a0:List (Int×Int)} {a1 a2 a3:Int} {r} (h:Ev (fun k=>if (ln a0)=0 then none else if (ln a0)=0 then none else ix (Int.tmod a2 (ln a0)) a0 <| ix (Int.tmod a3 (ln a0)) a0 <| (qcqz.f k (rd (0,0) a0 (Int.tmod a2 (ln a0))).1 (rd (0,0) a0 (Int.tmod a2 (ln a0))).2 (rd (0,0) a0 (Int.tmod a3 (ln a0))).1 (rd (0,0) a0 (Int.tmod a3 (ln a0))).2).bind fun t0 =>
 ix (Int.tmod a2 (ln a0)) a0 <| ix (Int.tmod a3 (ln a0)) a0 <| (qciz.f k (rd (0,0) a0 (Int.tmod a2 (ln a0))).1 (rd (0,0) a0 (Int.tmod a2 (ln a0))).2 (rd (0,0) a0 (Int.tmod a3 (ln a0))).1 (rd (0,0) a0 (Int.tmod a3 (ln a0))).2).bind fun t1 =>
 (qfsz.f k (Int.tmod a2 (ln a0))).bind fun t2 =>
 gd ((1+(ByteArray.size t2))<=maxLen) <| gd (((ByteArray.size ((bs [32])++t2))+1)<=maxLen) <| (qfsz.f k (Int.tmod a3 (ln a0))).bind fun t3 =>
 gd (((ByteArray.size (((bs [32])++t2)++(bs [32])))+(ByteArray.size t3))<=maxLen) <| gd ((4+(ByteArray.size ((((bs [32])++t2)++(bs [32]))++t3)))<=maxLen) <| (qhzz.f k t0.1 t0.2.1 t0.2.2).bind fun t4 =>
 (qhaz.f k a0 a1 ((bs [109,101,101,116])++((((bs [32])++t2)++(bs [32]))++t3)) t4).bind fun t5 =>
 if (!t5) then some false else gd ((5+(ByteArray.size ((((bs [32])++t2)++(bs [32]))++t3)))<=maxLen) <| (qhzz.f k t1.1 t1.2.1 t1.2.2).bind fun t6 =>
 (qhaz.f k a0 a1 ((bs [119,104,101,114,101])++((((bs [32])++t2)++(bs [32]))++t3)) t6).bind fun t7 =>
 if (!t7) then some false else (qbxz.f k a0).bind fun t8 =>
 if (!t8.2) then some false else if (iLt t8.1 0) then some false else (qfsz.f k t8.1).bind fun t9 =>
 (qhaz.f k a0 a1 (bs [112,97,105,114,115]) t9).bind fun t10 =>
 if (!t10) then some false else (qeqz.f k [((W (1+(Int.tmod a2 (ln a0)))),(W (1+(Int.tmod a3 (ln a0))))),((W (1+(Int.tmod a2 1000))),(W (1+(Int.tmod a3 100))))]).bind fun t11 =>
 (qeyz.f k [((W (1+(Int.tmod a2 (ln a0)))),(W (1+(Int.tmod a3 (ln a0))))),((W (1+(Int.tmod a2 1000))),(W (1+(Int.tmod a3 100))))]).bind fun t12 =>
 if (!t11.2.2) then some false else if (!t12.2) then some false else gd ((5+(ByteArray.size t12.1))<=maxLen) <| (qhzz.f k t11.1 t11.2.1 true).bind fun t13 =>
 (qhaz.f k a0 a1 ((bs [109,101,97,110,32])++t12.1) t13).bind fun t14 =>
 if (!t14) then some false else (qboz.f k (W (1+(Int.tmod a2 200))) (Int.tmod a2 (ln a0)) (Int.tmod a3 100)).bind fun t15 =>
 (qfsz.f k (W (1+(Int.tmod a2 200)))).bind fun t16 =>
 gd ((7+(ByteArray.size t16))<=maxLen) <| gd (((ByteArray.size ((bs [99,104,97,110,99,101,32])++t16))+1)<=maxLen) <| (qfsz.f k (Int.tmod a2 (ln a0))).bind fun t17 =>
 gd (((ByteArray.size (((bs [99,104,97,110,99,101,32])++t16)++(bs [32])))+(ByteArray.size t17))<=maxLen) <| gd (((ByteArray.size ((((bs [99,104,97,110,99,101,32])++t16)++(bs [32]))++t17))+1)<=maxLen) <| (qfsz.f k (Int.tmod a3 100)).bind fun t18 =>
 gd (((ByteArray.size (((((bs [99,104,97,110,99,101,32])++t16)++(bs [32]))++t17)++(bs [32])))+(ByteArray.size t18))<=maxLen) <| (qhzz.f k t15.1 t15.2.1 t15.2.2).bind fun t19 =>
 (qhaz.f k a0 a1 ((((((bs [99,104,97,110,99,101,32])++t16)++(bs [32]))++t17)++(bs [32]))++t18) t19).bind fun t20 =>
 some t20) r):Ev (fun k=>f k a0 a1 a2 a3) r:=evf (fun _ _ _=>zac Cx (by kernel_rfl)) h
end qgxz
namespace qcrz
def f (k:Fu) (a0 a1:List Int):Option Bool:=PI Cx (k 0) 4 [vl 5 (.int .u8) a0,vl 5 (.int .u8) a1]
theorem v {a0 a1:List Int} {r} (h:Ev (fun k=>(qimz.f a0 a1).bind fun t0 =>
 if t0 then some true else (qcfz.f k a0).bind fun t1 =>
 (qfbz.f k t1.1.1 t1.1.2 t1.2).bind fun t2 =>
 (qflz.f k t1.1.1 t1.1.2 t1.2).bind fun t3 =>
 if (!(t2.2.2 == t3.2.2)) then some false else if (!(seq t2.2.1 t3.2.1)) then some false else (qibz.f k t2.1.1 t2.1.2 t3.1.1 t3.1.2).bind fun t4 =>
 if (!t4) then some false else if (!t2.2.2) then some true else if (seq t2.2.1 (bs [110,111])) then (qibz.f k t2.1.1 t2.1.2 t1.1.1 t1.1.2).bind fun t5 =>
 if (!t5) then some false else (qglz.f k t2.1.1 t2.1.2).bind fun t6 =>
 if (!t6) then some false else (qfbz.f k t2.1.1 t2.1.2 (bs [115,104,111,119])).bind fun t7 =>
 (qcwz.f k t2.1.1).bind fun t8 =>
 gd ((8+(ByteArray.size t8.1))<=maxLen) <| (qfbz.f k t2.1.1 t2.1.2 ((bs [119,97,108,107,101,114,115,32])++t8.1)).bind fun t9 =>
 (qfbz.f k t2.1.1 t2.1.2 (bs [116,117,114,110,32,48])).bind fun t10 =>
 (qfbz.f k t10.1.1 t10.1.2 (bs [116,117,114,110,32,48])).bind fun t11 =>
 if t7.2.2 then if t8.2 then if (seq t7.2.1 t8.1) then (qibz.f k t7.1.1 t7.1.2 t2.1.1 t2.1.2).bind fun t12 =>
 if t12 then if t9.2.2 then if (seq t9.2.1 t8.1) then (qibz.f k t9.1.1 t9.1.2 t2.1.1 t2.1.2).bind fun t13 =>
 if t13 then if t10.2.2 then if t11.2.2 then (qibz.f k t11.1.1 t11.1.2 t2.1.1 t2.1.2).bind fun t14 =>
 if t14 then (qgxz.f k t2.1.1 t2.1.2 (ln a0) (ln a1)).bind fun t15 =>
 some t15 else some false else some false else some false else some false else some false else some false else some false else some false else some false else some false else if (seq t2.2.1 (bs [119,104,97,116])) then (qibz.f k t2.1.1 t2.1.2 t1.1.1 t1.1.2).bind fun t5 =>
 if (!t5) then some false else (qglz.f k t2.1.1 t2.1.2).bind fun t6 =>
 if (!t6) then some false else (qfbz.f k t2.1.1 t2.1.2 (bs [115,104,111,119])).bind fun t7 =>
 (qcwz.f k t2.1.1).bind fun t8 =>
 gd ((8+(ByteArray.size t8.1))<=maxLen) <| (qfbz.f k t2.1.1 t2.1.2 ((bs [119,97,108,107,101,114,115,32])++t8.1)).bind fun t9 =>
 (qfbz.f k t2.1.1 t2.1.2 (bs [116,117,114,110,32,48])).bind fun t10 =>
 (qfbz.f k t10.1.1 t10.1.2 (bs [116,117,114,110,32,48])).bind fun t11 =>
 if t7.2.2 then if t8.2 then if (seq t7.2.1 t8.1) then (qibz.f k t7.1.1 t7.1.2 t2.1.1 t2.1.2).bind fun t12 =>
 if t12 then if t9.2.2 then if (seq t9.2.1 t8.1) then (qibz.f k t9.1.1 t9.1.2 t2.1.1 t2.1.2).bind fun t13 =>
 if t13 then if t10.2.2 then if t11.2.2 then (qibz.f k t11.1.1 t11.1.2 t2.1.1 t2.1.2).bind fun t14 =>
 if t14 then (qgxz.f k t2.1.1 t2.1.2 (ln a0) (ln a1)).bind fun t15 =>
 some t15 else some false else some false else some false else some false else some false else some false else some false else some false else some false else some false else (qglz.f k t2.1.1 t2.1.2).bind fun t5 =>
 if (!t5) then some false else (qfbz.f k t2.1.1 t2.1.2 (bs [115,104,111,119])).bind fun t6 =>
 (qcwz.f k t2.1.1).bind fun t7 =>
 gd ((8+(ByteArray.size t7.1))<=maxLen) <| (qfbz.f k t2.1.1 t2.1.2 ((bs [119,97,108,107,101,114,115,32])++t7.1)).bind fun t8 =>
 (qfbz.f k t2.1.1 t2.1.2 (bs [116,117,114,110,32,48])).bind fun t9 =>
 (qfbz.f k t9.1.1 t9.1.2 (bs [116,117,114,110,32,48])).bind fun t10 =>
 if t6.2.2 then if t7.2 then if (seq t6.2.1 t7.1) then (qibz.f k t6.1.1 t6.1.2 t2.1.1 t2.1.2).bind fun t11 =>
 if t11 then if t8.2.2 then if (seq t8.2.1 t7.1) then (qibz.f k t8.1.1 t8.1.2 t2.1.1 t2.1.2).bind fun t12 =>
 if t12 then if t9.2.2 then if t10.2.2 then (qibz.f k t10.1.1 t10.1.2 t2.1.1 t2.1.2).bind fun t13 =>
 if t13 then (qgxz.f k t2.1.1 t2.1.2 (ln a0) (ln a1)).bind fun t14 =>
 some t14 else some false else some false else some false else some false else some false else some false else some false else some false else some false else some false) r):Ev (fun k=>f k a0 a1) r:=evf (fun _ _ h=>by rw [<- qimz.k (dl h)]; exact zac Cx (by kernel_rfl)) h
end qcrz
end
end Go.Proofs.YtdhkgmhdengnkaaGreatDoor.Li
