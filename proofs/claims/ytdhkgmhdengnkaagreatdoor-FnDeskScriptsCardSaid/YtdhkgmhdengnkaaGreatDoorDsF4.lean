/- What functions of the program compute. -/
import Derived.Test.YtdhkgmhdengnkaaGreatDoorDsF3
namespace Go.Proofs.YtdhkgmhdengnkaaGreatDoor.Ds
open Go Go.Proofs.YtdhkgmhdengnkaaGreatDoorPi Go.RowKit
set_option maxRecDepth 100000
set_option linter.unusedVariables false
set_option linter.unusedSectionVars false
noncomputable section
variable [Inhabited Sv]
namespace qeqz
def f (k:Fu) (a0:List (Int×Int)):Option ((List Int)×Bool):=PI Cx (k 0) 156 [vl 74 (.pair i6 i6) a0]
def l0 (k:Fu) (x0:List (Int×Int)) (x1:Int) (x2:List (Int×Int)) (x3 x4:Int):Option ((List Int)×Bool):=zao Cx (k 0) 156 [tt,tt,tt,ff,tt,tt] [k 1] ⟨[(0,vl 74 (.pair i6 i6) x0),(4,vi x1),(22,vl 74 (.pair i6 i6) x2),(23,vi x3),(24,vi x4)],[],[]⟩
def l1 (k:Fu) (x0:List (Int×Int)) (x1 x2 x3 x4:Int) (x5:List Int):Option ((List Int)×Bool):=zao Cx (k 0) 156 [tt,tt,tt,tt,tt,tt,ff,tt,tt] [k 2] ⟨[(0,vl 74 (.pair i6 i6) x0),(4,vi x1),(7,vf 1000000007000),(8,vi x2),(9,vi x3),(10,vi x4)],[(1000000007000,.row 3 i6 x5 .own)],[]⟩
def l2 (k:Fu) (x0:List (Int×Int)) (x1 x2 x3 x4 x5 x6 x7:Int) (x8:List (Int×Int)) (x9 x10:Int) (x11:List Int):Option ((List Int)×Bool):=zao Cx (k 0) 156 [tt,tt,tt,tt,tt,tt,ff,tt,tt,tt,tt,ff,tt,tt,ff,tt,tt] [k 2,k 3] ⟨[(0,vl 74 (.pair i6 i6) x0),(4,vi x1),(7,vf 1000000007000),(8,vi x2),(9,vi x3),(10,vi x4),(11,vi x5),(12,vi x6),(13,vi x7),(68,vl 74 (.pair i6 i6) x8),(69,vi x9),(70,vi x10)],[(1000000007000,.row 3 i6 x11 .own)],[]⟩
theorem v {a0:List (Int×Int)} {r} (h:Ev (fun k=>(qiaz.f k a0).bind fun t0 =>
 if (!t0) then some ([],false) else l0 k a0 0 a0 (ln a0) 0) r):Ev (fun k=>f k a0) r:=evf (fun _ _ _=>zad Cx (by kernel_rfl)) h
theorem v0 {x0:List (Int×Int)} {x1:Int} {x2:List (Int×Int)} {x3 x4:Int} {r} (h:Ev (fun k=>if (iLt x4 x3) then ix x4 x2 <| ix x1 x0 <| if (iGt (rd (0,0) x2 x4).1 (rd (0,0) x0 x1).1) then l0 k x0 x4 x2 x3 (W (x4+1)) else ix x1 x0 <| if ((rd (0,0) x2 x4).1 == (rd (0,0) x0 x1).1) then ix x1 x0 <| if (iGt (rd (0,0) x2 x4).2 (rd (0,0) x0 x1).2) then l0 k x0 x4 x2 x3 (W (x4+1)) else l0 k x0 x1 x2 x3 (W (x4+1)) else l0 k x0 x1 x2 x3 (W (x4+1)) else l1 k x0 x1 0 1 0 [x1]) r):Ev (fun k=>l0 k x0 x1 x2 x3 x4) r:=evl [] 0 (fun _ _ _=>by kernel_rfl) h
theorem v1 {x0:List (Int×Int)} {x1 x2 x3 x4:Int} {x5:List Int} {r} (h:Ev (fun k=>if (iLt x4 (W (2*(ln x0)))) then l2 k x0 x1 x2 x3 x4 (-1) 0 1 x0 (ln x0) 0 x5 else some (x5,true)) r):Ev (fun k=>l1 k x0 x1 x2 x3 x4 x5) r:=evl [] 1 (fun _ _ _=>by kernel_rfl) h
theorem v2 {x0:List (Int×Int)} {x1 x2 x3 x4 x5 x6 x7:Int} {x8:List (Int×Int)} {x9 x10:Int} {x11:List Int} {r} (h:Ev (fun k=>if (iLt x10 x9) then ix x10 x8 <| ix x1 x0 <| (qhfz.f k (rd (0,0) x0 x1).1 (rd (0,0) x0 x1).2 (rd (0,0) x8 x10).1 (rd (0,0) x8 x10).2).bind fun t0 =>
 ix x1 x0 <| if (iLe (rd (0,0) x8 x10).2 (rd (0,0) x0 x1).2) then l2 k x0 x1 x2 x3 x4 x5 x6 x7 x8 x9 (W (x10+1)) x11 else if (!t0.2.2) then l2 k x0 x1 x2 x3 x4 x5 x6 x7 x8 x9 (W (x10+1)) x11 else if (iLt (W (t0.1*x3)) (W (x2*t0.2.1))) then l2 k x0 x1 x2 x3 x4 x5 x6 x7 x8 x9 (W (x10+1)) x11 else if (iLt x5 0) then l2 k x0 x1 x2 x3 x4 x10 t0.1 t0.2.1 x8 x9 (W (x10+1)) x11 else if (iLt (W (t0.1*x7)) (W (x6*t0.2.1))) then l2 k x0 x1 x2 x3 x4 x10 t0.1 t0.2.1 x8 x9 (W (x10+1)) x11 else if ((W (t0.1*x7)) == (W (x6*t0.2.1))) then ix x5 x0 <| if (iGt (rd (0,0) x8 x10).2 (rd (0,0) x0 x5).2) then l2 k x0 x1 x2 x3 x4 x10 t0.1 t0.2.1 x8 x9 (W (x10+1)) x11 else l2 k x0 x1 x2 x3 x4 x5 x6 x7 x8 x9 (W (x10+1)) x11 else l2 k x0 x1 x2 x3 x4 x5 x6 x7 x8 x9 (W (x10+1)) x11 else if (iLt x5 0) then some (x11,true) else gd (((lnN x11)+1)<=17592186044416) <| l1 k x0 x5 x6 x7 (W (x4+1)) (x11++[x5])) r):Ev (fun k=>l2 k x0 x1 x2 x3 x4 x5 x6 x7 x8 x9 x10 x11) r:=evl [2] 2 (fun _ _ _=>by kernel_rfl) h
end qeqz
namespace qflz
def f (k:Fu) (a0 a1:List Int):Option Bool:=PI Cx (k 0) 261 [vl 3 i6 a0,vl 3 i6 a1]
def l0 (k:Fu) (x0 x1:List Int) (x2 x3:Int):Option Bool:=zao Cx (k 0) 261 [tt,ff,tt,tt] [k 1] ⟨[(0,vl 3 i6 x0),(1,vl 3 i6 x1),(7,vi x2),(8,vi x3)],[],[]⟩
theorem v {a0 a1:List Int} {r} (h:Ev (fun k=>l0 k a0 a1 (ln a0) 0) r):Ev (fun k=>f k a0 a1) r:=evf (fun _ _ _=>zad Cx (by kernel_rfl)) h
theorem v0 {x0 x1:List Int} {x2 x3:Int} {r} (h:Ev (fun k=>if (iLt x3 x2) then ix x3 x0 <| ix x3 x1 <| if ((rd 0 x0 x3) != (rd 0 x1 x3)) then ix x3 x0 <| ix x3 x1 <| some (iLt (rd 0 x0 x3) (rd 0 x1 x3)) else l0 k x0 x1 x2 (W (x3+1)) else some false) r):Ev (fun k=>l0 k x0 x1 x2 x3) r:=evl [] 0 (fun _ _ _=>by kernel_rfl) h
end qflz
namespace qiiz
abbrev P:=List Int->Option (List Int)
def f:P:=fun a0=>gd ((0+(lnN a0))<=17592186044416) <| some ([]++a0)
theorem k {K:Nat} (h:1<=K):(fun a0=>PI Cx K 262 [vl 3 i6 a0]:P)=f:=by
 obtain ⟨K,rfl⟩:=zae h
 funext a0
 exact zad Cx (by kernel_rfl)
end qiiz
namespace qghz
def f (k:Fu) (a0:List (List Int)):Option (List Int):=PI Cx (k 0) 216 [vl 44 (.sl 3 i6) a0]
def l0 (k:Fu) (x0 x1:List (List Int)) (x2 x3:Int) (x4:List Int):Option (List Int):=zao Cx (k 0) 216 [tt,tt,ff,tt,tt] [k 1] ⟨[(0,vl 44 (.sl 3 i6) x0),(3,vf 1000000003000),(8,vl 44 (.sl 3 i6) x1),(9,vi x2),(10,vi x3)],[(1000000003000,.row 3 i6 x4 .own)],[]⟩
def l1 (k:Fu) (x0:List (List Int)) (x1:Int) (x2:List Int) (x3:Int) (x4:List (List Int)) (x5 x6:Int) (x7:List Int):Option (List Int):=zao Cx (k 0) 216 [tt,tt,ff,tt,tt,tt,tt,tt,ff,tt,tt,tt,ff,tt] [k 1,k 2] ⟨[(0,vl 44 (.sl 3 i6) x0),(3,vf 1000000003000),(4,vi x1),(5,vl 3 i6 x2),(6,vi x3),(8,vl 44 (.sl 3 i6) x4),(9,vi x5),(10,vi x6)],[(1000000003000,.row 3 i6 x7 .own)],[]⟩
theorem v {a0:List (List Int)} {r} (h:Ev (fun k=>l0 k a0 a0 (ln a0) 0 []) r):Ev (fun k=>f k a0) r:=evf (fun _ _ _=>zad Cx (by kernel_rfl)) h
theorem v0 {x0 x1:List (List Int)} {x2 x3:Int} {x4:List Int} {r} (h:Ev (fun k=>if (iLt x3 x2) then ix x3 x1 <| l1 k x0 x3 (rd [] x1 x3) (ln x4) x1 x2 x3 x4 else some x4) r):Ev (fun k=>l0 k x0 x1 x2 x3 x4) r:=evl [] 0 (fun _ _ _=>by kernel_rfl) h
theorem v1 {x0:List (List Int)} {x1:Int} {x2:List Int} {x3:Int} {x4:List (List Int)} {x5 x6:Int} {x7:List Int} {r} (h:Ev (fun k=>if (iGt x3 0) then ix (W (x3-1)) x7 <| ix (rd 0 x7 (W (x3-1))) x0 <| (qflz.f k x2 (rd [] x0 (rd 0 x7 (W (x3-1))))).bind fun t0 =>
 if t0 then l1 k x0 x1 x2 (W (x3-1)) x4 x5 x6 x7 else gd (0<=x3) <| gd (x3<=(ln x7)) <| (qiiz.f (List.take (Int.toNat x3) x7)).bind fun t1 =>
 gd (((lnN t1)+1)<=17592186044416) <| gd (0<=x3) <| gd (x3<=(ln x7)) <| gd (((lnN (t1++[x1]))+(lnN (List.take ((Int.toNat (ln x7))-(Int.toNat x3)) (List.drop (Int.toNat x3) x7))))<=17592186044416) <| l0 k x0 x4 x5 (W (x6+1)) ((t1++[x1])++(List.take ((Int.toNat (ln x7))-(Int.toNat x3)) (List.drop (Int.toNat x3) x7))) else gd (0<=x3) <| gd (x3<=(ln x7)) <| (qiiz.f (List.take (Int.toNat x3) x7)).bind fun t0 =>
 gd (((lnN t0)+1)<=17592186044416) <| gd (0<=x3) <| gd (x3<=(ln x7)) <| gd (((lnN (t0++[x1]))+(lnN (List.take ((Int.toNat (ln x7))-(Int.toNat x3)) (List.drop (Int.toNat x3) x7))))<=17592186044416) <| l0 k x0 x4 x5 (W (x6+1)) ((t0++[x1])++(List.take ((Int.toNat (ln x7))-(Int.toNat x3)) (List.drop (Int.toNat x3) x7)))) r):Ev (fun k=>l1 k x0 x1 x2 x3 x4 x5 x6 x7) r:=evl [1] 1 (fun _ _ h=>by rw [<- qiiz.k (dl h)]; kernel_rfl) h
end qghz
namespace qetz
def f (k:Fu) (a0:List (Int×Int)):Option ((List Int)×Bool):=PI Cx (k 0) 157 [vl 74 (.pair i6 i6) a0]
def l0 (k:Fu) (x0:List (Int×Int)) (x1 x2:Int) (x3:List (List Int)):Option ((List Int)×Bool):=zao Cx (k 0) 157 [tt,tt,tt,ff,tt,tt] [k 1] ⟨[(4,vf 1000000004000),(10,vl 74 (.pair i6 i6) x0),(11,vi x1),(12,vi x2)],[(1000000004000,.row 44 (.sl 3 i6) x3 .own)],[]⟩
theorem v {a0:List (Int×Int)} {r} (h:Ev (fun k=>(qiaz.f k a0).bind fun t0 =>
 if (!t0) then some ([],false) else l0 k a0 (ln a0) 0 []) r):Ev (fun k=>f k a0) r:=evf (fun _ _ _=>zad Cx (by kernel_rfl)) h
theorem v0 {x0:List (Int×Int)} {x1 x2:Int} {x3:List (List Int)} {r} (h:Ev (fun k=>if (iLt x2 x1) then ix x2 x0 <| gd (((lnN x3)+1)<=5864062014805) <| l0 k x0 x1 (W (x2+1)) (x3++[[(rd (0,0) x0 x2).2,(rd (0,0) x0 x2).1]]) else (qghz.f k x3).bind fun t0 =>
 some (t0,true)) r):Ev (fun k=>l0 k x0 x1 x2 x3) r:=evl [] 0 (fun _ _ _=>by kernel_rfl) h
end qetz
namespace qhsz
abbrev P:=Int->Int->Option Bool
def f:P:=fun a0 a1=>(qikz.f a0 0 1000000).bind fun t0 =>
 if t0 then (qikz.f a1 1 1000).bind fun t1 =>
 some t1 else some false
theorem k {K:Nat} (h:2<=K):(fun a0 a1=>PI Cx K 217 [vi a0,vi a1]:P)=f:=by
 obtain ⟨K,rfl⟩:=zae h
 funext a0 a1
 unfold f
 rw [<- qikz.k (dk h)]
 exact zad Cx (by kernel_rfl)
end qhsz
namespace qeiz
def f (k:Fu) (a0:List (Int×Int)) (a1 a2:Int):Option ((List Int)×Bool):=PI Cx (k 0) 158 [vl 74 (.pair i6 i6) a0,vi a1,vi a2]
def l0 (k:Fu) (x0 x1:Int) (x2:List (Int×Int)) (x3 x4:Int) (x5:List (List Int)):Option ((List Int)×Bool):=zao Cx (k 0) 158 [tt,tt,tt,ff,tt,tt] [k 1] ⟨[(1,vi x0),(2,vi x1),(8,vf 1000000008000),(20,vl 74 (.pair i6 i6) x2),(21,vi x3),(22,vi x4)],[(1000000008000,.row 44 (.sl 3 i6) x5 .own)],[]⟩
theorem v {a0:List (Int×Int)} {a1 a2:Int} {r} (h:Ev (fun k=>(qiaz.f k a0).bind fun t0 =>
 if (!t0) then some ([],false) else (qhsz.f a1 a2).bind fun t1 =>
 if (!t1) then some ([],false) else l0 k a1 a2 a0 (ln a0) 0 []) r):Ev (fun k=>f k a0 a1 a2) r:=evf (fun _ _ h=>by rw [<- qhsz.k (dl h)]; exact zad Cx (by kernel_rfl)) h
theorem v0 {x0 x1:Int} {x2:List (Int×Int)} {x3 x4:Int} {x5:List (List Int)} {r} (h:Ev (fun k=>if (iLt x4 x3) then ix x4 x2 <| gd (((lnN x5)+1)<=5864062014805) <| l0 k x0 x1 x2 x3 (W (x4+1)) (x5++[[(W ((W ((rd (0,0) x2 x4).1*x1))+(W ((rd (0,0) x2 x4).2*x0))))]]) else (qghz.f k x5).bind fun t0 =>
 some (t0,true)) r):Ev (fun k=>l0 k x0 x1 x2 x3 x4 x5) r:=evl [] 0 (fun _ _ _=>by kernel_rfl) h
end qeiz
namespace qeaz
def f (k:Fu) (a0:Int) (a1:List (Int×Int)):Option (Int×(Int×Bool)):=PI Cx (k 0) 160 [vi a0,vl 74 (.pair i6 i6) a1]
def l0 (k:Fu) (x0 x1:Int) (x2:List (Int×Int)) (x3 x4:Int):Option (Int×(Int×Bool)):=zao Cx (k 0) 160 [tt,tt,tt,ff,tt,tt] [k 1] ⟨[(0,vi x0),(7,vi x1),(22,vl 74 (.pair i6 i6) x2),(23,vi x3),(24,vi x4)],[],[]⟩
def l1 (k:Fu) (x0 x1 x2:Int) (x3:List (Int×Int)) (x4 x5:Int):Option (Int×(Int×Bool)):=zao Cx (k 0) 160 [tt,tt,tt,ff,tt,tt,tt,tt,tt,ff,tt,tt,tt,ff,tt] [k 1,k 2] ⟨[(0,vi x0),(10,vi x1),(11,vi x2),(22,vl 74 (.pair i6 i6) x3),(23,vi x4),(24,vi x5)],[],[]⟩
theorem v {a0:Int} {a1:List (Int×Int)} {r} (h:Ev (fun k=>(qikz.f a0 1 1000).bind fun t0 =>
 if (!t0) then some (0,(0,false)) else (qiaz.f k a1).bind fun t1 =>
 if (!t1) then some (0,(0,false)) else l0 k a0 0 a1 (ln a1) 0) r):Ev (fun k=>f k a0 a1) r:=evf (fun _ _ h=>by rw [<- qikz.k (dl h)]; exact zad Cx (by kernel_rfl)) h
theorem v0 {x0 x1:Int} {x2:List (Int×Int)} {x3 x4:Int} {r} (h:Ev (fun k=>if (iLt x4 x3) then ix x4 x2 <| (qhyz.f (rd (0,0) x2 x4).2).bind fun t0 =>
 l1 k x0 x1 t0 x2 x3 x4 else if (x1 == 0) then some (0,(0,false)) else (qihz.f k x0 x1).bind fun t0 =>
 some (t0.1,(t0.2,true))) r):Ev (fun k=>l0 k x0 x1 x2 x3 x4) r:=evl [] 0 (fun _ _ h=>by rw [<- qhyz.k (dl h)]; kernel_rfl) h
theorem v1 {x0 x1 x2:Int} {x3:List (Int×Int)} {x4 x5:Int} {r} (h:Ev (fun k=>if (iGt x2 0) then if x2=0 then none else l1 k x0 x2 (Int.tmod x1 x2) x3 x4 x5 else l0 k x0 x1 x3 x4 (W (x5+1))) r):Ev (fun k=>l1 k x0 x1 x2 x3 x4 x5) r:=evl [1] 1 (fun _ _ _=>by kernel_rfl) h
end qeaz
namespace qedz
def f (k:Fu) (a0 a1 a2 a3:Int):Option (Int×(Int×Bool)):=PI Cx (k 0) 161 [va [ci a0,ci a1,ci a2,ci a3]]
theorem v {a0 a1 a2 a3:Int} {r} (h:Ev (fun k=>(qgyz.f a0 a1 a2 a3).bind fun t0 =>
 if (!t0) then some (0,(0,false)) else (qihz.f k a0 (W (a1+a2))).bind fun t1 =>
 some (t1.1,(t1.2,true))) r):Ev (fun k=>f k a0 a1 a2 a3) r:=evf (fun _ _ h=>by rw [<- qgyz.k (dl h)]; exact zad Cx (by kernel_rfl)) h
end qedz
namespace qdhz
def f (k:Fu) (a0 a1 a2 a3:Int):Option (Int×(Int×Bool)):=PI Cx (k 0) 162 [va [ci a0,ci a1,ci a2,ci a3]]
theorem v {a0 a1 a2 a3:Int} {r} (h:Ev (fun k=>(qgyz.f a0 a1 a2 a3).bind fun t0 =>
 if (!t0) then some (0,(0,false)) else (qihz.f k (W (a0*a3)) (W (a1+a2))).bind fun t1 =>
 some (t1.1,(t1.2,true))) r):Ev (fun k=>f k a0 a1 a2 a3) r:=evf (fun _ _ h=>by rw [<- qgyz.k (dl h)]; exact zad Cx (by kernel_rfl)) h
end qdhz
namespace qiez
def f (k:Fu) (a0 a1 a2 a3 a4:Int):Option (List (Int×(Int×(Int×(Int×Int))))):=PI Cx (k 0) 220 [va [ci a0,ci a1,ci a2,ci a3],vi a4]
def l0 (k:Fu) (x0 x1 x2 x3 x4 x5 x6 x7 x8 x9 x10:Int) (x11:List (Int×(Int×(Int×(Int×Int))))):Option (List (Int×(Int×(Int×(Int×Int))))):=zao Cx (k 0) 220 [tt,tt,tt,ff,tt,tt] [k 1] ⟨[(1,vi x0),(2,vp 0 0),(5,vp 1003000 0),(6,vf 1000000006000),(7,vi x1)],[(0,.box 108 [ci x2,ci x3,ci x4,ci x5]),(1003000,.box 205 [ci x6,ci x7,ci x8,ci x9,ci x10]),(1000000006000,.row 205 (.pair i6 (.pair i6 (.pair i6 (.pair i6 i6)))) x11 .own)],[]⟩
theorem v {a0 a1 a2 a3 a4:Int} {r} (h:Ev (fun k=>l0 k a4 1 a0 a1 a2 a3 0 0 a0 0 1 [(0,(0,(a0,(0,1))))]) r):Ev (fun k=>f k a0 a1 a2 a3 a4) r:=evf (fun _ _ _=>zad Cx (by kernel_rfl)) h
theorem v0 {x0 x1 x2 x3 x4 x5 x6 x7 x8 x9 x10:Int} {x11:List (Int×(Int×(Int×(Int×Int))))} {r} (h:Ev (fun k=>if (iLe x1 x0) then if ((Int.tmod x1 2) == 0) then (qgxz.f 0 (W (0-x5))).bind fun t0 =>
 gd (((lnN x11)+1)<=3518437208883) <| l0 k x0 (W (x1+1)) x2 x3 x4 x5 (W ((W (x6*(W (x5+x3))))+x8)) (W ((W (x7*(W (x5+x3))))+(W ((W (0-x5))*x8)))) (W (x8*(W ((W ((W (x5+x3))-x3))-x4)))) (W ((W (x9*(W (x5+x3))))+(W (t0*x8)))) (W (x10*(W (x5+x3)))) (x11++[((W ((W (x6*(W (x5+x3))))+x8)),((W ((W (x7*(W (x5+x3))))+(W ((W (0-x5))*x8)))),((W (x8*(W ((W ((W (x5+x3))-x3))-x4)))),((W ((W (x9*(W (x5+x3))))+(W (t0*x8)))),(W (x10*(W (x5+x3))))))))]) else (qgxz.f 0 x5).bind fun t0 =>
 gd (((lnN x11)+1)<=3518437208883) <| l0 k x0 (W (x1+1)) x2 x3 x4 x5 (W ((W (x6*(W (x5+x4))))+x8)) (W ((W (x7*(W (x5+x4))))+(W (x5*x8)))) (W (x8*(W ((W ((W (x5+x4))-x3))-x4)))) (W ((W (x9*(W (x5+x4))))+(W (t0*x8)))) (W (x10*(W (x5+x4)))) (x11++[((W ((W (x6*(W (x5+x4))))+x8)),((W ((W (x7*(W (x5+x4))))+(W (x5*x8)))),((W (x8*(W ((W ((W (x5+x4))-x3))-x4)))),((W ((W (x9*(W (x5+x4))))+(W (t0*x8)))),(W (x10*(W (x5+x4))))))))]) else some x11) r):Ev (fun k=>l0 k x0 x1 x2 x3 x4 x5 x6 x7 x8 x9 x10 x11) r:=evl [] 0 (fun _ _ h=>by rw [<- qgxz.k (dl h)]; kernel_rfl) h
end qiez
namespace qbsz
def f (k:Fu) (a0 a1 a2 a3 a4:Int):Option (Int×(Int×Bool)):=PI Cx (k 0) 163 [va [ci a0,ci a1,ci a2,ci a3],vi a4]
theorem v {a0 a1 a2 a3 a4:Int} {r} (h:Ev (fun k=>(qgyz.f a0 a1 a2 a3).bind fun t0 =>
 if (!t0) then some (0,(0,false)) else (qikz.f a4 1 6).bind fun t1 =>
 if (!t1) then some (0,(0,false)) else (qiez.f k a0 a1 a2 a3 a4).bind fun t2 =>
 ix a4 t2 <| (qihz.f k (rd (0,(0,(0,(0,0)))) t2 a4).2.2.1 (rd (0,(0,(0,(0,0)))) t2 a4).2.2.2.2).bind fun t3 =>
 some (t3.1,(t3.2,true))) r):Ev (fun k=>f k a0 a1 a2 a3 a4) r:=evf (fun _ _ h=>by rw [<- qgyz.k (dl h),<- qikz.k (dl h)]; exact zad Cx (by kernel_rfl)) h
end qbsz
namespace qhgz
def f (k:Fu) (a0:List (Int×Int)):Option (Int×Int):=PI Cx (k 0) 221 [vl 88 (.pair i6 i6) a0]
def l0 (k:Fu) (x0 x1:Int) (x2:List (Int×Int)) (x3 x4:Int):Option (Int×Int):=zao Cx (k 0) 221 [tt,tt,ff,tt,tt] [k 1] ⟨[(4,vi x0),(5,vi x1),(8,vl 88 (.pair i6 i6) x2),(9,vi x3),(10,vi x4)],[],[]⟩
theorem v {a0:List (Int×Int)} {r} (h:Ev (fun k=>l0 k 0 1 a0 (ln a0) 0) r):Ev (fun k=>f k a0) r:=evf (fun _ _ _=>zad Cx (by kernel_rfl)) h
theorem v0 {x0 x1:Int} {x2:List (Int×Int)} {x3 x4:Int} {r} (h:Ev (fun k=>if (iLt x4 x3) then ix x4 x2 <| (qihz.f k (W ((W (x0*(rd (0,0) x2 x4).2))+(W ((rd (0,0) x2 x4).1*x1)))) (W (x1*(rd (0,0) x2 x4).2))).bind fun t0 =>
 l0 k t0.1 t0.2 x2 x3 (W (x4+1)) else some (x0,x1)) r):Ev (fun k=>l0 k x0 x1 x2 x3 x4) r:=evl [] 0 (fun _ _ _=>by kernel_rfl) h
end qhgz
namespace qguz
def f (k:Fu) (a0:List (Int×Int)):Option Int:=PI Cx (k 0) 222 [vl 88 (.pair i6 i6) a0]
def l0 (k:Fu) (x0:Int) (x1:List (Int×Int)) (x2 x3:Int):Option Int:=zao Cx (k 0) 222 [tt,tt,ff,tt,tt] [k 1] ⟨[(3,vi x0),(6,vl 88 (.pair i6 i6) x1),(7,vi x2),(8,vi x3)],[],[]⟩
theorem v {a0:List (Int×Int)} {r} (h:Ev (fun k=>l0 k 0 a0 (ln a0) 0) r):Ev (fun k=>f k a0) r:=evf (fun _ _ _=>zad Cx (by kernel_rfl)) h
theorem v0 {x0:Int} {x1:List (Int×Int)} {x2 x3:Int} {r} (h:Ev (fun k=>if (iLt x3 x2) then ix x3 x1 <| l0 k (W (x0+(rd (0,0) x1 x3).1)) x1 x2 (W (x3+1)) else some x0) r):Ev (fun k=>l0 k x0 x1 x2 x3) r:=evl [] 0 (fun _ _ _=>by kernel_rfl) h
end qguz
namespace qeuz
def f (k:Fu) (a0:List (Int×Int)):Option (Int×(Int×Bool)):=PI Cx (k 0) 164 [vl 88 (.pair i6 i6) a0]
theorem v {a0:List (Int×Int)} {r} (h:Ev (fun k=>(qhdz.f k a0).bind fun t0 =>
 if (!t0) then some (0,(0,false)) else (qhgz.f k a0).bind fun t1 =>
 (qguz.f k a0).bind fun t2 =>
 (qihz.f k (W (t2*t1.2)) t1.1).bind fun t3 =>
 some (t3.1,(t3.2,true))) r):Ev (fun k=>f k a0) r:=evf (fun _ _ _=>zad Cx (by kernel_rfl)) h
end qeuz
namespace qdnz
def f (k:Fu) (a0:List (Int×Int)):Option (Int×(Int×Bool)):=PI Cx (k 0) 165 [vl 88 (.pair i6 i6) a0]
theorem v {a0:List (Int×Int)} {r} (h:Ev (fun k=>(qhdz.f k a0).bind fun t0 =>
 if (!t0) then some (0,(0,false)) else (qhgz.f k a0).bind fun t1 =>
 some (t1.1,(t1.2,true))) r):Ev (fun k=>f k a0) r:=evf (fun _ _ _=>zad Cx (by kernel_rfl)) h
end qdnz
namespace qczz
def f (k:Fu) (a0:List (Int×Int)) (a1 a2:Int):Option (Int×(Int×Bool)):=PI Cx (k 0) 166 [vl 88 (.pair i6 i6) a0,vi a1,vi a2]
theorem v {a0:List (Int×Int)} {a1 a2:Int} {r} (h:Ev (fun k=>(qhdz.f k a0).bind fun t0 =>
 if (!t0) then some (0,(0,false)) else (qikz.f a1 1 1000).bind fun t1 =>
 if (!t1) then some (0,(0,false)) else (qikz.f a2 1 100).bind fun t2 =>
 if (!t2) then some (0,(0,false)) else (qhgz.f k a0).bind fun t3 =>
 (qguz.f k a0).bind fun t4 =>
 if (iLe (W ((W ((W (t4+a1))*t3.2))-(W (t3.1*a2)))) 0) then some (0,(0,false)) else (qihz.f k (W ((W (a1*a2))*t3.2)) (W ((W ((W (t4+a1))*t3.2))-(W (t3.1*a2))))).bind fun t5 =>
 some (t5.1,(t5.2,true))) r):Ev (fun k=>f k a0 a1 a2) r:=evf (fun _ _ h=>by rw [<- qikz.k (dl h)]; exact zad Cx (by kernel_rfl)) h
end qczz
namespace qggz
abbrev P:=Int->Int->Option Int
def f:P:=fun a0 a1=>if (iLt a0 a1) then some a0 else some a1
theorem k {K:Nat} (h:1<=K):(fun a0 a1=>PI Cx K 223 [vi a0,vi a1]:P)=f:=by
 obtain ⟨K,rfl⟩:=zae h
 funext a0 a1
 exact zad Cx (by kernel_rfl)
end qggz
namespace qciz
def f (k:Fu) (a0:List (Int×Int)):Option ((List (List Int))×Bool):=PI Cx (k 0) 168 [vl 155 (.pair i6 i6) a0]
def l0 (k:Fu) (x0 x1:List (Int×Int)) (x2 x3:Int) (x4:List (List Int)):Option ((List (List Int))×Bool):=zao Cx (k 0) 168 [tt,tt,tt,ff,tt,tt] [k 1] ⟨[(0,vl 155 (.pair i6 i6) x0),(4,vf 1000000004000),(12,vl 155 (.pair i6 i6) x1),(13,vi x2),(14,vi x3)],[(1000000004000,.row 44 (.sl 3 i6) x4 .own)],[]⟩
def l1 (k:Fu) (x0:List (Int×Int)) (x1 x2:Int) (x3:List (Int×Int)) (x4 x5:Int) (x6:List (List Int)) (x7 x8:Int):Option ((List (List Int))×Bool):=zao Cx (k 0) 168 [tt,tt,tt,ff,tt,tt,tt,tt,tt,ff,tt,tt,tt,tt] [k 1,k 2] ⟨[(0,vl 155 (.pair i6 i6) x0),(4,vf 1000000004000),(5,vi x1),(6,vp 6003000 0),(7,vi x2),(12,vl 155 (.pair i6 i6) x3),(13,vi x4),(14,vi x5)],[(1000000004000,.row 44 (.sl 3 i6) x6 .own),(6003000,.box 155 [ci x7,ci x8])],[]⟩
theorem v {a0:List (Int×Int)} {r} (h:Ev (fun k=>(qhvz.f k a0).bind fun t0 =>
 if (!t0) then some ([],false) else l0 k a0 a0 (ln a0) 0 []) r):Ev (fun k=>f k a0) r:=evf (fun _ _ _=>zad Cx (by kernel_rfl)) h
theorem v0 {x0 x1:List (Int×Int)} {x2 x3:Int} {x4:List (List Int)} {r} (h:Ev (fun k=>if (iLt x3 x2) then ix x3 x1 <| l1 k x0 x3 (W (x3+1)) x1 x2 x3 x4 (rd (0,0) x1 x3).1 (rd (0,0) x1 x3).2 else some (x4,true)) r):Ev (fun k=>l0 k x0 x1 x2 x3 x4) r:=evl [] 0 (fun _ _ _=>by kernel_rfl) h
theorem v1 {x0:List (Int×Int)} {x1 x2:Int} {x3:List (Int×Int)} {x4 x5:Int} {x6:List (List Int)} {x7 x8:Int} {r} (h:Ev (fun k=>if (iLt x2 (ln x0)) then ix x2 x0 <| (qgxz.f x7 (rd (0,0) x0 x2).1).bind fun t0 =>
 (qggz.f (W (x7+x8)) (W ((rd (0,0) x0 x2).1+(rd (0,0) x0 x2).2))).bind fun t1 =>
 if (iLe t0 t1) then gd (((lnN x6)+1)<=5864062014805) <| l1 k x0 x1 (W (x2+1)) x3 x4 x5 (x6++[[x1,x2]]) x7 x8 else l1 k x0 x1 (W (x2+1)) x3 x4 x5 x6 x7 x8 else l0 k x0 x3 x4 (W (x5+1)) x6) r):Ev (fun k=>l1 k x0 x1 x2 x3 x4 x5 x6 x7 x8) r:=evl [1] 1 (fun _ _ h=>by rw [<- qgxz.k (dl h),<- qggz.k (dl h)]; kernel_rfl) h
end qciz
namespace qhrz
def f (k:Fu) (a0:List (List Int)) (a1:Bool):Option BA:=PI Cx (k 0) 167 [vl 44 (.sl 3 i6) a0,vb a1]
def l0 (k:Fu) (x0:BA) (x1:List (List Int)) (x2 x3:Int):Option BA:=zao Cx (k 0) 167 [tt,tt,tt,tt,ff,tt,tt] [k 1] ⟨[(5,vs x0),(13,vl 44 (.sl 3 i6) x1),(14,vi x2),(15,vi x3)],[],[]⟩
theorem v {a0:List (List Int)} {a1:Bool} {r} (h:Ev (fun k=>if (!a1) then some (bs [110,111]) else if ((ln a0) == 0) then some (bs [45]) else l0 k (bs []) a0 (ln a0) 0) r):Ev (fun k=>f k a0 a1) r:=evf (fun _ _ _=>zad Cx (by kernel_rfl)) h
theorem v0 {x0:BA} {x1:List (List Int)} {x2 x3:Int} {r} (h:Ev (fun k=>if (iLt x3 x2) then ix x3 x1 <| if (iGt x3 0) then gd (((ByteArray.size x0)+1)<=maxLen) <| (qhjz.f k (rd [] x1 x3) true).bind fun t0 =>
 gd (((ByteArray.size (x0++(bs [32])))+(ByteArray.size t0))<=maxLen) <| l0 k ((x0++(bs [32]))++t0) x1 x2 (W (x3+1)) else (qhjz.f k (rd [] x1 x3) true).bind fun t0 =>
 gd (((ByteArray.size x0)+(ByteArray.size t0))<=maxLen) <| l0 k (x0++t0) x1 x2 (W (x3+1)) else some x0) r):Ev (fun k=>l0 k x0 x1 x2 x3) r:=evl [] 0 (fun _ _ _=>by kernel_rfl) h
end qhrz
namespace qfuz
def f (k:Fu) (a0:List (Int×Int)) (a1:Int):Option (List Int):=PI Cx (k 0) 224 [vl 155 (.pair i6 i6) a0,vi a1]
def l0 (k:Fu) (x0:Int) (x1:List (Int×Int)) (x2 x3:Int) (x4:List Int):Option (List Int):=zao Cx (k 0) 224 [tt,tt,ff,tt,tt] [k 1] ⟨[(1,vi x0),(5,vf 1000000005000),(8,vl 155 (.pair i6 i6) x1),(9,vi x2),(10,vi x3)],[(1000000005000,.row 3 i6 x4 .own)],[]⟩
theorem v {a0:List (Int×Int)} {a1:Int} {r} (h:Ev (fun k=>l0 k a1 a0 (ln a0) 0 []) r):Ev (fun k=>f k a0 a1) r:=evf (fun _ _ _=>zad Cx (by kernel_rfl)) h
theorem v0 {x0:Int} {x1:List (Int×Int)} {x2 x3:Int} {x4:List Int} {r} (h:Ev (fun k=>if (iLt x3 x2) then ix x3 x1 <| (qikz.f x0 (rd (0,0) x1 x3).1 (W ((rd (0,0) x1 x3).1+(rd (0,0) x1 x3).2))).bind fun t0 =>
 if t0 then gd (((lnN x4)+1)<=17592186044416) <| l0 k x0 x1 x2 (W (x3+1)) (x4++[x3]) else l0 k x0 x1 x2 (W (x3+1)) x4 else some x4) r):Ev (fun k=>l0 k x0 x1 x2 x3 x4) r:=evl [] 0 (fun _ _ h=>by rw [<- qikz.k (dl h)]; kernel_rfl) h
end qfuz
namespace qckz
def f (k:Fu) (a0:List (Int×Int)):Option ((List Int)×Bool):=PI Cx (k 0) 169 [vl 155 (.pair i6 i6) a0]
def l0 (k:Fu) (x0:List (Int×Int)) (x1:List Int) (x2:List Bool):Option ((List Int)×Bool):=zao Cx (k 0) 169 [tt,tt,tt,tt,tt] [k 1] ⟨[(0,vl 155 (.pair i6 i6) x0),(4,vf 1000000004000),(5,vf 1000000005000)],[(1000000004000,.row 3 i6 x1 .own),(1000000005000,.row 4 .bool x2 .own)],[]⟩
def l1 (k:Fu) (x0:List (Int×Int)) (x1:Int) (x2:List (Int×Int)) (x3 x4:Int) (x5:List Int) (x6:List Bool):Option ((List Int)×Bool):=zao Cx (k 0) 169 [tt,tt,tt,tt,tt,tt,tt,tt,ff,tt,tt] [k 1,k 2] ⟨[(0,vl 155 (.pair i6 i6) x0),(4,vf 1000000004000),(5,vf 1000000005000),(6,vi x1),(17,vl 155 (.pair i6 i6) x2),(18,vi x3),(19,vi x4)],[(1000000004000,.row 3 i6 x5 .own),(1000000005000,.row 4 .bool x6 .own)],[]⟩
def l2 (k:Fu) (x0:List (Int×Int)) (x1:List Int) (x2 x3:Int) (x4:List Int) (x5:List Bool):Option ((List Int)×Bool):=zao Cx (k 0) 169 [tt,tt,tt,tt,tt,tt,tt,tt,tt,tt,tt,tt,tt] [k 1,k 3] ⟨[(0,vl 155 (.pair i6 i6) x0),(4,vf 1000000004000),(5,vf 1000000005000),(57,vl 3 i6 x1),(58,vi x2),(59,vi x3)],[(1000000004000,.row 3 i6 x4 .own),(1000000005000,.row 4 .bool x5 .own)],[]⟩
theorem v {a0:List (Int×Int)} {r} (h:Ev (fun k=>(qhvz.f k a0).bind fun t0 =>
 if (!t0) then some ([],false) else gd (0<=(ln a0)) <| gd ((ln a0)<=(ln a0)) <| gd (((ln a0)*1)<=140737488355328) <| l0 k a0 [] (List.replicate (Int.toNat (ln a0)) false)) r):Ev (fun k=>f k a0) r:=evf (fun _ _ _=>zad Cx (by kernel_rfl)) h
theorem v0 {x0:List (Int×Int)} {x1:List Int} {x2:List Bool} {r} (h:Ev (fun k=>l1 k x0 (-1) x0 (ln x0) 0 x1 x2) r):Ev (fun k=>l0 k x0 x1 x2) r:=evl [] 0 (fun _ _ _=>by kernel_rfl) h
theorem v1 {x0:List (Int×Int)} {x1:Int} {x2:List (Int×Int)} {x3 x4:Int} {x5:List Int} {x6:List Bool} {r} (h:Ev (fun k=>if (iLt x4 x3) then ix x4 x2 <| ix x4 x6 <| if (!(rd false x6 x4)) then if (iLt x1 0) then l1 k x0 (W ((rd (0,0) x2 x4).1+(rd (0,0) x2 x4).2)) x2 x3 (W (x4+1)) x5 x6 else if (iLt (W ((rd (0,0) x2 x4).1+(rd (0,0) x2 x4).2)) x1) then l1 k x0 (W ((rd (0,0) x2 x4).1+(rd (0,0) x2 x4).2)) x2 x3 (W (x4+1)) x5 x6 else l1 k x0 x1 x2 x3 (W (x4+1)) x5 x6 else l1 k x0 x1 x2 x3 (W (x4+1)) x5 x6 else if (iLt x1 0) then some (x5,true) else gd (((lnN x5)+1)<=17592186044416) <| (qfuz.f k x0 x1).bind fun t0 =>
 l2 k x0 t0 (ln t0) 0 (x5++[x1]) x6) r):Ev (fun k=>l1 k x0 x1 x2 x3 x4 x5 x6) r:=evl [1] 1 (fun _ _ _=>by kernel_rfl) h
theorem v2 {x0:List (Int×Int)} {x1:List Int} {x2 x3:Int} {x4:List Int} {x5:List Bool} {r} (h:Ev (fun k=>if (iLt x3 x2) then ix x3 x1 <| ix (rd 0 x1 x3) x5 <| l2 k x0 x1 x2 (W (x3+1)) x4 (List.set x5 (Int.toNat (rd 0 x1 x3)) true) else l0 k x0 x4 x5) r):Ev (fun k=>l2 k x0 x1 x2 x3 x4 x5) r:=evl [1] 2 (fun _ _ _=>by kernel_rfl) h
end qckz
namespace qefz
abbrev P:=Int->Int->Int->Option Bool
def f:P:=fun a0 a1 a2=>(qikz.f a0 1 200).bind fun t0 =>
 if t0 then (qikz.f a1 0 200).bind fun t1 =>
 if t1 then (qikz.f a2 0 200).bind fun t2 =>
 some t2 else some false else some false
theorem k {K:Nat} (h:2<=K):(fun a0 a1 a2=>PI Cx K 225 [vi a0,vi a1,vi a2]:P)=f:=by
 obtain ⟨K,rfl⟩:=zae h
 funext a0 a1 a2
 unfold f
 rw [<- qikz.k (dk h)]
 exact zad Cx (by kernel_rfl)
end qefz
namespace qdyz
def f (k:Fu) (a0 a1 a2:Int):Option Int:=PI Cx (k 0) 226 [vi a0,vi a1,vi a2]
def l0 (k:Fu) (x0 x1 x2 x3 x4:Int):Option Int:=zao Cx (k 0) 226 [tt,tt,ff,tt,tt] [k 1] ⟨[(0,vi x0),(1,vi x1),(2,vi x2),(7,vi x3),(8,vi x4)],[],[]⟩
def l1 (k:Fu) (x0 x1 x2 x3 x4 x5:Int):Option Int:=zao Cx (k 0) 226 [tt,tt,ff,tt,tt,tt,tt,ff,tt,tt,tt] [k 1,k 2] ⟨[(0,vi x0),(1,vi x1),(2,vi x2),(7,vi x3),(8,vi x4),(9,vi x5)],[],[]⟩
theorem v {a0 a1 a2:Int} {r} (h:Ev (fun k=>l0 k a0 a1 a2 0 0) r):Ev (fun k=>f k a0 a1 a2) r:=evf (fun _ _ _=>zad Cx (by kernel_rfl)) h
theorem v0 {x0 x1 x2 x3 x4:Int} {r} (h:Ev (fun k=>if (iLt x4 x0) then l1 k x0 x1 x2 x3 x4 0 else some x3) r):Ev (fun k=>l0 k x0 x1 x2 x3 x4) r:=evl [] 0 (fun _ _ _=>by kernel_rfl) h
theorem v1 {x0 x1 x2 x3 x4 x5:Int} {r} (h:Ev (fun k=>if (iLt x5 x0) then if (iLe (W (x5-x4)) x1) then if (iLe (W (x4-x5)) x2) then l1 k x0 x1 x2 (W (x3+1)) x4 (W (x5+1)) else l1 k x0 x1 x2 x3 x4 (W (x5+1)) else l1 k x0 x1 x2 x3 x4 (W (x5+1)) else l0 k x0 x1 x2 x3 (W (x4+1))) r):Ev (fun k=>l1 k x0 x1 x2 x3 x4 x5) r:=evl [1] 1 (fun _ _ _=>by kernel_rfl) h
end qdyz
namespace qbtz
def f (k:Fu) (a0 a1 a2:Int):Option (Int×(Int×Bool)):=PI Cx (k 0) 170 [vi a0,vi a1,vi a2]
theorem v {a0 a1 a2:Int} {r} (h:Ev (fun k=>(qefz.f a0 a1 a2).bind fun t0 =>
 if (!t0) then some (0,(0,false)) else (qdyz.f k a0 a1 a2).bind fun t1 =>
 (qihz.f k t1 (W (a0*a0))).bind fun t2 =>
 some (t2.1,(t2.2,true))) r):Ev (fun k=>f k a0 a1 a2) r:=evf (fun _ _ h=>by rw [<- qefz.k (dl h)]; exact zad Cx (by kernel_rfl)) h
end qbtz
namespace qcoz
def f (k:Fu) (a0:List (Int×Int)) (a1:Int) (a2:List (Int×Int)) (a3 a4 a5 a6:Int) (a7 a8:List (Int×Int)) (a9:List Int) (a10:BA):Option (BA×((List (Int×Int))×(Int×((List (Int×Int))×(Int×(Int×(Int×(Int×((List (Int×Int))×((List (Int×Int))×(List Int))))))))))):=PI Cx (k 0) 100 [va [.sl 74 (.pair i6 i6) a0,ci a1,.sl 74 (.pair i6 i6) a2,ci a3,ci a4,ci a5,ci a6,.sl 88 (.pair i6 i6) a7,.sl 155 (.pair i6 i6) a8,.sl 3 i6 a9],vs a10]
theorem v {a0:List (Int×Int)} {a1:Int} {a2:List (Int×Int)} {a3 a4 a5 a6:Int} {a7 a8:List (Int×Int)} {a9:List Int} {a10:BA} {r} (h:Ev (fun k=>if (seq a10 (bs [115,104,111,119])) then (qhez.f k a0).bind fun t0 =>
 some (t0,(a0,(a1,(a2,(a3,(a4,(a5,(a6,(a7,(a8,a9)))))))))) else if (seq a10 (bs [109,101,101,116])) then (qcyz.f k a0 a1 a2 a3 a4 a5 a6 a7 a8 a9 a10).bind fun t0 =>
 some t0 else if (seq a10 (bs [119,104,101,114,101])) then (qcyz.f k a0 a1 a2 a3 a4 a5 a6 a7 a8 a9 a10).bind fun t0 =>
 some t0 else if (seq a10 (bs [97,114,111,117,110,100])) then (qcyz.f k a0 a1 a2 a3 a4 a5 a6 a7 a8 a9 a10).bind fun t0 =>
 some t0 else if (seq a10 (bs [103,97,112])) then (qcyz.f k a0 a1 a2 a3 a4 a5 a6 a7 a8 a9 a10).bind fun t0 =>
 some t0 else if (seq a10 (bs [112,108,97,99,101,115])) then (qcyz.f k a0 a1 a2 a3 a4 a5 a6 a7 a8 a9 a10).bind fun t0 =>
 some t0 else if (seq a10 (bs [112,97,105,114,115])) then (qbzz.f k a0).bind fun t0 =>
 (qfqz.f k t0.1 t0.2).bind fun t1 =>
 some (t1,(a0,(a1,(a2,(a3,(a4,(a5,(a6,(a7,(a8,a9)))))))))) else if (seq a10 (bs [102,105,114,115,116])) then (qcxz.f k a0).bind fun t0 =>
 if ((ln t0.1) == 0) then some ((bs [110,111]),(a0,(a1,(a2,(a3,(a4,(a5,(a6,(a7,(a8,a9)))))))))) else gd (0 < (ln t0.1)) <| gd (2<=(ln (rd [] t0.1 0))) <| (qhjz.f k (List.take 2 (rd [] t0.1 0)) true).bind fun t1 =>
 some (t1,(a0,(a1,(a2,(a3,(a4,(a5,(a6,(a7,(a8,a9)))))))))) else if (seq a10 (bs [108,101,97,100])) then (qeqz.f k a0).bind fun t0 =>
 (qhjz.f k t0.1 t0.2).bind fun t1 =>
 some (t1,(a0,(a1,(a2,(a3,(a4,(a5,(a6,(a7,(a8,a9)))))))))) else if (seq a10 (bs [108,97,115,116])) then (qetz.f k a0).bind fun t0 =>
 (qhjz.f k t0.1 t0.2).bind fun t1 =>
 some (t1,(a0,(a1,(a2,(a3,(a4,(a5,(a6,(a7,(a8,a9)))))))))) else if (seq a10 (bs [97,116])) then gd (0 < (ln a9)) <| (qeiz.f k a0 (rd 0 a9 0) 1).bind fun t0 =>
 (qhjz.f k t0.1 t0.2).bind fun t1 =>
 some (t1,(a0,(a1,(a2,(a3,(a4,(a5,(a6,(a7,(a8,a9)))))))))) else if (seq a10 (bs [115,116,97,114,116])) then (qeaz.f k a1 a0).bind fun t0 =>
 (qgzz.f k t0.1 t0.2.1 t0.2.2).bind fun t1 =>
 some (t1,(a0,(a1,(a2,(a3,(a4,(a5,(a6,(a7,(a8,a9)))))))))) else if (seq a10 (bs [100,111,103])) then (qedz.f k a3 a4 a5 a6).bind fun t0 =>
 (qgzz.f k t0.1 t0.2.1 t0.2.2).bind fun t1 =>
 some (t1,(a0,(a1,(a2,(a3,(a4,(a5,(a6,(a7,(a8,a9)))))))))) else if (seq a10 (bs [114,117,110])) then (qdhz.f k a3 a4 a5 a6).bind fun t0 =>
 (qgzz.f k t0.1 t0.2.1 t0.2.2).bind fun t1 =>
 some (t1,(a0,(a1,(a2,(a3,(a4,(a5,(a6,(a7,(a8,a9)))))))))) else if (seq a10 (bs [97,112,97,114,116])) then gd (0 < (ln a9)) <| (qbsz.f k a3 a4 a5 a6 (rd 0 a9 0)).bind fun t0 =>
 (qgzz.f k t0.1 t0.2.1 t0.2.2).bind fun t1 =>
 some (t1,(a0,(a1,(a2,(a3,(a4,(a5,(a6,(a7,(a8,a9)))))))))) else if (seq a10 (bs [109,101,97,110])) then (qeuz.f k a7).bind fun t0 =>
 (qgzz.f k t0.1 t0.2.1 t0.2.2).bind fun t1 =>
 some (t1,(a0,(a1,(a2,(a3,(a4,(a5,(a6,(a7,(a8,a9)))))))))) else if (seq a10 (bs [116,105,109,101])) then (qdnz.f k a7).bind fun t0 =>
 (qgzz.f k t0.1 t0.2.1 t0.2.2).bind fun t1 =>
 some (t1,(a0,(a1,(a2,(a3,(a4,(a5,(a6,(a7,(a8,a9)))))))))) else if (seq a10 (bs [110,101,101,100])) then gd (0 < (ln a9)) <| gd (1 < (ln a9)) <| (qczz.f k a7 (rd 0 a9 0) (rd 0 a9 1)).bind fun t0 =>
 (qgzz.f k t0.1 t0.2.1 t0.2.2).bind fun t1 =>
 some (t1,(a0,(a1,(a2,(a3,(a4,(a5,(a6,(a7,(a8,a9)))))))))) else if (seq a10 (bs [118,105,115,105,116,115])) then (qciz.f k a8).bind fun t0 =>
 (qhrz.f k t0.1 t0.2).bind fun t1 =>
 some (t1,(a0,(a1,(a2,(a3,(a4,(a5,(a6,(a7,(a8,a9)))))))))) else if (seq a10 (bs [103,117,105,100,101,115])) then (qckz.f k a8).bind fun t0 =>
 (qhjz.f k t0.1 t0.2).bind fun t1 =>
 some (t1,(a0,(a1,(a2,(a3,(a4,(a5,(a6,(a7,(a8,a9)))))))))) else gd (0 < (ln a9)) <| gd (1 < (ln a9)) <| gd (2 < (ln a9)) <| (qbtz.f k (rd 0 a9 0) (rd 0 a9 1) (rd 0 a9 2)).bind fun t0 =>
 (qgzz.f k t0.1 t0.2.1 t0.2.2).bind fun t1 =>
 some (t1,(a0,(a1,(a2,(a3,(a4,(a5,(a6,(a7,(a8,a9))))))))))) r):Ev (fun k=>f k a0 a1 a2 a3 a4 a5 a6 a7 a8 a9 a10) r:=evf (fun _ _ _=>zad Cx (by kernel_rfl)) h
end qcoz
namespace qhlz
def f (k:Fu) (a0:List (Int×Int)) (a1:Int) (a2:BA):Option (((List (Int×Int))×Int)×BA):=PI Cx (k 0) 52 [va [.sl 74 (.pair i6 i6) a0,ci a1],vs a2]
theorem v {a0:List (Int×Int)} {a1:Int} {a2:BA} {r} (h:Ev (fun k=>(qhuz.f k a0 a1 a2).bind fun t0 =>
 if (!t0.2.2) then some ((a0,a1),(bs [119,104,97,116])) else if (seq t0.1 (bs [119,97,108,107,101,114,115])) then (qcfz.f k t0.2.1.1 t0.2.1.2.1 t0.2.1.2.2.1 t0.2.1.2.2.2.1 t0.2.1.2.2.2.2.1 t0.2.1.2.2.2.2.2.1 t0.2.1.2.2.2.2.2.2.1 t0.2.1.2.2.2.2.2.2.2.1 t0.2.1.2.2.2.2.2.2.2.2.1 t0.2.1.2.2.2.2.2.2.2.2.2 t0.1).bind fun t1 =>
 some ((t1.2.1,t1.2.2.1),t1.1) else if (seq t0.1 (bs [114,105,110,103])) then (qcfz.f k t0.2.1.1 t0.2.1.2.1 t0.2.1.2.2.1 t0.2.1.2.2.2.1 t0.2.1.2.2.2.2.1 t0.2.1.2.2.2.2.2.1 t0.2.1.2.2.2.2.2.2.1 t0.2.1.2.2.2.2.2.2.2.1 t0.2.1.2.2.2.2.2.2.2.2.1 t0.2.1.2.2.2.2.2.2.2.2.2 t0.1).bind fun t1 =>
 some ((t1.2.1,t1.2.2.1),t1.1) else if (seq t0.1 (bs [116,117,114,110])) then (qcfz.f k t0.2.1.1 t0.2.1.2.1 t0.2.1.2.2.1 t0.2.1.2.2.2.1 t0.2.1.2.2.2.2.1 t0.2.1.2.2.2.2.2.1 t0.2.1.2.2.2.2.2.2.1 t0.2.1.2.2.2.2.2.2.2.1 t0.2.1.2.2.2.2.2.2.2.2.1 t0.2.1.2.2.2.2.2.2.2.2.2 t0.1).bind fun t1 =>
 some ((t1.2.1,t1.2.2.1),t1.1) else if (seq t0.1 (bs [97,100,100])) then (qcfz.f k t0.2.1.1 t0.2.1.2.1 t0.2.1.2.2.1 t0.2.1.2.2.2.1 t0.2.1.2.2.2.2.1 t0.2.1.2.2.2.2.2.1 t0.2.1.2.2.2.2.2.2.1 t0.2.1.2.2.2.2.2.2.2.1 t0.2.1.2.2.2.2.2.2.2.2.1 t0.2.1.2.2.2.2.2.2.2.2.2 t0.1).bind fun t1 =>
 some ((t1.2.1,t1.2.2.1),t1.1) else if (seq t0.1 (bs [100,114,111,112])) then (qcfz.f k t0.2.1.1 t0.2.1.2.1 t0.2.1.2.2.1 t0.2.1.2.2.2.1 t0.2.1.2.2.2.2.1 t0.2.1.2.2.2.2.2.1 t0.2.1.2.2.2.2.2.2.1 t0.2.1.2.2.2.2.2.2.2.1 t0.2.1.2.2.2.2.2.2.2.2.1 t0.2.1.2.2.2.2.2.2.2.2.2 t0.1).bind fun t1 =>
 some ((t1.2.1,t1.2.2.1),t1.1) else (qcoz.f k t0.2.1.1 t0.2.1.2.1 t0.2.1.2.2.1 t0.2.1.2.2.2.1 t0.2.1.2.2.2.2.1 t0.2.1.2.2.2.2.2.1 t0.2.1.2.2.2.2.2.2.1 t0.2.1.2.2.2.2.2.2.2.1 t0.2.1.2.2.2.2.2.2.2.2.1 t0.2.1.2.2.2.2.2.2.2.2.2 t0.1).bind fun t1 =>
 some ((a0,a1),t1.1)) r):Ev (fun k=>f k a0 a1 a2) r:=evf (fun _ _ _=>zad Cx (by kernel_rfl)) h
end qhlz
namespace qhwz
def f (k:Fu) (a0:BA):Option (((List (Int×Int))×Int)×((List BA)×Bool)):=PI Cx (k 0) 38 [vs a0]
def l0 (k:Fu) (x0:List BA) (x1 x2 x3:Int) (x4:List (Int×Int)) (x5:Int) (x6:List BA):Option (((List (Int×Int))×Int)×((List BA)×Bool)):=zao Cx (k 0) 38 [tt,tt,tt,tt,tt,tt,tt,ff,tt,tt] [k 1] ⟨[(2,vp 0 0),(7,vp 7001000 0),(8,vf 1000000008000),(35,vl 9 .str x0),(36,vi x1),(37,vi x2)],[(0,.box 24 [.nilsl,ci x3]),(7001000,.box 24 [.sl 74 (.pair i6 i6) x4,ci x5]),(1000000008000,.row 9 .str x6 .own)],[]⟩
theorem v {a0:BA} {r} (h:Ev (fun k=>if (iGt (sln a0) 3000) then some (([],0),([],false)) else (qgez.f k a0 10).bind fun t0 =>
 ix (W ((ln t0)-1)) t0 <| if (!(seq (rd (bs []) t0 (W ((ln t0)-1))) (bs []))) then some (([],0),([],false)) else if (iGt (W ((ln t0)-1)) 50) then some (([],0),([],false)) else (qejz.f).bind fun t1 =>
 gd (0<=(W ((ln t0)-1))) <| gd ((W ((ln t0)-1))<=(ln t0)) <| l0 k (List.take (Int.toNat (W ((ln t0)-1))) t0) (ln (List.take (Int.toNat (W ((ln t0)-1))) t0)) 0 0 t1.1 t1.2 []) r):Ev (fun k=>f k a0) r:=evf (fun _ _ h=>by rw [<- qejz.k (dl h)]; exact zad Cx (by kernel_rfl)) h
theorem v0 {x0:List BA} {x1 x2 x3:Int} {x4:List (Int×Int)} {x5:Int} {x6:List BA} {r} (h:Ev (fun k=>if (iLt x2 x1) then ix x2 x0 <| (qhlz.f k x4 x5 (rd (bs []) x0 x2)).bind fun t0 =>
 gd (((lnN x6)+1)<=8796093022208) <| l0 k x0 x1 (W (x2+1)) x3 t0.1.1 t0.1.2 (x6++[t0.2]) else some ((x4,x5),(x6,true))) r):Ev (fun k=>l0 k x0 x1 x2 x3 x4 x5 x6) r:=evl [] 0 (fun _ _ _=>by kernel_rfl) h
end qhwz
namespace qekz
def f (k:Fu) (a0:BA):Option ((List BA)×Bool):=PI Cx (k 0) 25 [vs a0]
theorem v {a0:BA} {r} (h:Ev (fun k=>(qhwz.f k a0).bind fun t0 =>
 some t0.2) r):Ev (fun k=>f k a0) r:=evf (fun _ _ _=>zad Cx (by kernel_rfl)) h
end qekz
namespace qeoz
abbrev P:=BA->Option (((List (Int×Int))×Int)×Bool)
def f:P:=fun a0=>(qewz.f a0).bind fun t0 =>
 if (!t0.2.2) then some (([],0),false) else some (t0.1,true)
theorem k {K:Nat} (h:2<=K):(fun a0=>PI Cx K 11 [vs a0]:P)=f:=by
 obtain ⟨K,rfl⟩:=zae h
 funext a0
 unfold f
 rw [<- qewz.k (dk h)]
 exact zad Cx (by kernel_rfl)
end qeoz
namespace qdbz
def f (k:Fu) (a0:BA):Option ((List Int)×Bool):=PI Cx (k 0) 26 [vs a0]
def l0 (k:Fu) (x0:List BA) (x1 x2:Int) (x3:List Int):Option ((List Int)×Bool):=zao Cx (k 0) 26 [tt,tt,tt,tt,ff,tt,tt] [k 1] ⟨[(7,vf 1000000007000),(18,vl 9 .str x0),(19,vi x1),(20,vi x2)],[(1000000007000,.row 3 i6 x3 .own)],[]⟩
theorem v {a0:BA} {r} (h:Ev (fun k=>(qewz.f a0).bind fun t0 =>
 if (!t0.2.2) then some ([],false) else l0 k t0.2.1 (ln t0.2.1) 0 []) r):Ev (fun k=>f k a0) r:=evf (fun _ _ h=>by rw [<- qewz.k (dl h)]; exact zad Cx (by kernel_rfl)) h
theorem v0 {x0:List BA} {x1 x2:Int} {x3:List Int} {r} (h:Ev (fun k=>if (iLt x2 x1) then ix x2 x0 <| if (seq (rd (bs []) x0 x2) (bs [110,111])) then gd (((lnN x3)+1)<=17592186044416) <| l0 k x0 x1 (W (x2+1)) (x3++[(W (x2+1))]) else if (seq (rd (bs []) x0 x2) (bs [119,104,97,116])) then gd (((lnN x3)+1)<=17592186044416) <| l0 k x0 x1 (W (x2+1)) (x3++[(W (x2+1))]) else l0 k x0 x1 (W (x2+1)) x3 else some (x3,true)) r):Ev (fun k=>l0 k x0 x1 x2 x3) r:=evl [] 0 (fun _ _ _=>by kernel_rfl) h
end qdbz
namespace qhpz
def f (k:Fu) (a0 a1:List BA):Option Bool:=PI Cx (k 0) 27 [vl 9 .str a0,vl 9 .str a1]
def l0 (k:Fu) (x0 x1:List BA) (x2 x3:Int):Option Bool:=zao Cx (k 0) 27 [tt,tt,ff,tt,tt] [k 1] ⟨[(0,vl 9 .str x0),(1,vl 9 .str x1),(12,vi x2),(13,vi x3)],[],[]⟩
theorem v {a0 a1:List BA} {r} (h:Ev (fun k=>if ((ln a0) != (ln a1)) then some false else l0 k a0 a1 (ln a0) 0) r):Ev (fun k=>f k a0 a1) r:=evf (fun _ _ _=>zad Cx (by kernel_rfl)) h
theorem v0 {x0 x1:List BA} {x2 x3:Int} {r} (h:Ev (fun k=>if (iLt x3 x2) then ix x3 x0 <| ix x3 x1 <| if (!(seq (rd (bs []) x0 x3) (rd (bs []) x1 x3))) then some false else l0 k x0 x1 x2 (W (x3+1)) else some true) r):Ev (fun k=>l0 k x0 x1 x2 x3) r:=evl [] 0 (fun _ _ _=>by kernel_rfl) h
end qhpz
namespace qesz
abbrev P:=Option ((List (Int×Int))×Int)
def f:P:=some ([(0,3),(10,(-2))],10)
theorem k {K:Nat} (h:1<=K):(PI Cx K 68 []:P)=f:=by
 obtain ⟨K,rfl⟩:=zae h
 exact zad Cx (by kernel_rfl)
end qesz
namespace qemz
abbrev P:=Option ((List (Int×Int))×Int)
def f:P:=(qesz.f).bind fun t0 =>
 some t0
theorem k {K:Nat} (h:2<=K):(PI Cx K 28 []:P)=f:=by
 obtain ⟨K,rfl⟩:=zae h
 unfold f
 rw [<- qesz.k (dk h)]
 exact zad Cx (by kernel_rfl)
end qemz
namespace qdaz
abbrev P:=BA->BA->Option Bool
def f:P:=fun a0 a1=>zmr a0 a1
theorem k {K:Nat} (h:1<=K):(fun a0 a1=>PI Cx K 47 [vs a0,vs a1]:P)=f:=by
 obtain ⟨K,rfl⟩:=zae h
 funext a0 a1
 exact zad Cx (by kernel_rfl)
end qdaz
namespace qfoz
def f (k:Fu) (a0:List (Int×Int)) (a1:Int) (a2:BA):Option (((List (Int×Int))×Int)×(BA×Bool)):=PI Cx (k 0) 17 [va [.sl 74 (.pair i6 i6) a0,ci a1],vs a2]
theorem v {a0:List (Int×Int)} {a1:Int} {a2:BA} {r} (h:Ev (fun k=>(qgpz.f k a0 a1).bind fun t0 =>
 if (!t0) then some (([],0),((bs []),false)) else if (iGt (sln a2) 3000) then some (([],0),((bs []),false)) else (qdaz.f a2 (bs [10])).bind fun t1 =>
 if t1 then some (([],0),((bs []),false)) else (qfrz.f k a0 a1 a2).bind fun t2 =>
 (qbfz.f t2.1.1).bind fun t3 =>
 some ((t3,t2.1.2),(t2.2,true))) r):Ev (fun k=>f k a0 a1 a2) r:=evf (fun _ _ h=>by rw [<- qdaz.k (dl h),<- qbfz.k (dl h)]; exact zad Cx (by kernel_rfl)) h
end qfoz
namespace qfiz
def f (k:Fu) (a0 a1:List (Int×Int)):Option Bool:=PI Cx (k 0) 53 [vl 74 (.pair i6 i6) a0,vl 74 (.pair i6 i6) a1]
def l0 (k:Fu) (x0 x1:List (Int×Int)) (x2 x3:Int):Option Bool:=zao Cx (k 0) 53 [tt,tt,ff,tt,tt] [k 1] ⟨[(0,vl 74 (.pair i6 i6) x0),(1,vl 74 (.pair i6 i6) x1),(12,vi x2),(13,vi x3)],[],[]⟩
theorem v {a0 a1:List (Int×Int)} {r} (h:Ev (fun k=>if ((ln a0) != (ln a1)) then some false else l0 k a0 a1 (ln a0) 0) r):Ev (fun k=>f k a0 a1) r:=evf (fun _ _ _=>zad Cx (by kernel_rfl)) h
theorem v0 {x0 x1:List (Int×Int)} {x2 x3:Int} {r} (h:Ev (fun k=>if (iLt x3 x2) then ix x3 x0 <| ix x3 x1 <| if (!(((rd (0,0) x0 x3).1 == (rd (0,0) x1 x3).1) && ((rd (0,0) x0 x3).2 == (rd (0,0) x1 x3).2))) then some false else l0 k x0 x1 x2 (W (x3+1)) else some true) r):Ev (fun k=>l0 k x0 x1 x2 x3) r:=evl [] 0 (fun _ _ _=>by kernel_rfl) h
end qfiz
namespace qicz
def f (k:Fu) (a0:List (Int×Int)) (a1:Int) (a2:List (Int×Int)) (a3:Int):Option Bool:=PI Cx (k 0) 19 [va [.sl 74 (.pair i6 i6) a0,ci a1],va [.sl 74 (.pair i6 i6) a2,ci a3]]
theorem v {a0:List (Int×Int)} {a1:Int} {a2:List (Int×Int)} {a3:Int} {r} (h:Ev (fun k=>if (a1 == a3) then (qfiz.f k a0 a2).bind fun t0 =>
 some t0 else some false) r):Ev (fun k=>f k a0 a1 a2 a3) r:=evf (fun _ _ _=>zad Cx (by kernel_rfl)) h
end qicz
namespace qbyz
def f (k:Fu) (a0 a1:List Int):Option Bool:=PI Cx (k 0) 5 [vl 5 (.int .u8) a0,vl 5 (.int .u8) a1]
def l0 (k:Fu) (x0:BA) (x1:List BA) (x2:BA) (x3 x4 x5:Int) (x6:List (Int×Int)) (x7:Int) (x8:List Int) (x9:List (Int×Int)) (x10:Int):Option Bool:=zao Cx (k 0) 5 [tt,tt,tt,tt,tt,tt,tt,tt,tt,tt,tt,tt,ff,tt,tt] [k 1] ⟨[(5,vs x0),(6,vl 9 .str x1),(10,vp 6005000 0),(12,vf 1000000012000),(14,vp 12001000 0),(15,vs x2),(16,vi x3),(17,vi x4),(18,vi x5)],[(6005000,.box 24 [.sl 74 (.pair i6 i6) x6,ci x7]),(1000000012000,.row 3 i6 x8 .own),(12001000,.box 24 [.sl 74 (.pair i6 i6) x9,ci x10])],[]⟩
theorem v {a0 a1:List Int} {r} (h:Ev (fun k=>(qimz.f a0 a1).bind fun t0 =>
 if t0 then some true else (qcbz.f k a0).bind fun t1 =>
 (qeyz.f t1).bind fun t2 =>
 (qekz.f k t1).bind fun t3 =>
 (qeoz.f t1).bind fun t4 =>
 (qdbz.f k t1).bind fun t5 =>
 if (!(t2.2 == t3.2)) then some false else (qhpz.f k t2.1 t3.1).bind fun t6 =>
 if (!t6) then some false else if (!(t4.2 == t2.2)) then some false else if (!(t5.2 == t2.2)) then some false else if (!t2.2) then some true else (qemz.f).bind fun t7 =>
 l0 k t1 t2.1 (bs []) 0 0 0 t4.1.1 t4.1.2 t5.1 t7.1 t7.2) r):Ev (fun k=>f k a0 a1) r:=evf (fun _ _ h=>by rw [<- qimz.k (dl h),<- qeyz.k (dl h),<- qeoz.k (dl h),<- qemz.k (dl h)]; exact zad Cx (by kernel_rfl)) h
theorem v0 {x0:BA} {x1:List BA} {x2:BA} {x3 x4 x5:Int} {x6:List (Int×Int)} {x7:Int} {x8:List Int} {x9:List (Int×Int)} {x10:Int} {r} (h:Ev (fun k=>if (iLt x5 (sln x0)) then gd (0<=x5) <| gd (x5 < (sln x0)) <| if ((bat x0 x5) != 10) then gd (0<=x5) <| gd (x5<=(W (x5+1))) <| gd ((W (x5+1))<=(sln x0)) <| gd (((ByteArray.size x2)+(ByteArray.size (ByteArray.extract x0 (Int.toNat x5) (Int.toNat (W (x5+1))))))<=maxLen) <| l0 k x0 x1 (x2++(ByteArray.extract x0 (Int.toNat x5) (Int.toNat (W (x5+1))))) x3 x4 (W (x5+1)) x6 x7 x8 x9 x10 else (qfoz.f k x9 x10 x2).bind fun t0 =>
 if (!t0.2.2) then some false else if (iGe x3 (ln x1)) then some false else ix x3 x1 <| if (!(seq (rd (bs []) x1 x3) t0.2.1)) then some false else if (seq t0.2.1 (bs [110,111])) then if (iGe x4 (ln x8)) then some false else ix x4 x8 <| if ((rd 0 x8 x4) != (W (x3+1))) then some false else l0 k x0 x1 (bs []) (W (x3+1)) (W (x4+1)) (W (x5+1)) x6 x7 x8 t0.1.1 t0.1.2 else if (seq t0.2.1 (bs [119,104,97,116])) then if (iGe x4 (ln x8)) then some false else ix x4 x8 <| if ((rd 0 x8 x4) != (W (x3+1))) then some false else l0 k x0 x1 (bs []) (W (x3+1)) (W (x4+1)) (W (x5+1)) x6 x7 x8 t0.1.1 t0.1.2 else l0 k x0 x1 (bs []) (W (x3+1)) x4 (W (x5+1)) x6 x7 x8 t0.1.1 t0.1.2 else if (x3 == (ln x1)) then if (x4 == (ln x8)) then (qicz.f k x9 x10 x6 x7).bind fun t0 =>
 some t0 else some false else some false) r):Ev (fun k=>l0 k x0 x1 x2 x3 x4 x5 x6 x7 x8 x9 x10) r:=evl [] 0 (fun _ _ _=>by kernel_rfl) h
end qbyz
end
end Go.Proofs.YtdhkgmhdengnkaaGreatDoor.Ds
