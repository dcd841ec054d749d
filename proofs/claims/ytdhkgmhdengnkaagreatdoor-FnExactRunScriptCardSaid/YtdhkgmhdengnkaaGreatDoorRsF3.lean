/- What functions of the program compute. -/
import Derived.Test.YtdhkgmhdengnkaaGreatDoorRsF2
namespace Go.Proofs.YtdhkgmhdengnkaaGreatDoor.Rs
open Go Go.Proofs.YtdhkgmhdengnkaaGreatDoorPi Go.RowKit
set_option maxRecDepth 100000
set_option linter.unusedVariables false
set_option linter.unusedSectionVars false
noncomputable section
variable [Inhabited Sv]
namespace qhez
def f (k:Fu) (a0:Int):Option BA:=PI Cx (k 0) 84 [vi a0]
theorem v {a0:Int} {r} (h:Ev (fun k=>if (iLt a0 10) then some (zbY [(IntKind.wrap .u8 (W (48+a0)))]) else (f k (W (Int.tdiv a0 10))).bind fun t0 =>
 gd (((ByteArray.size t0)+(ByteArray.size (zbY [(IntKind.wrap .u8 (W (48+(Int.tmod a0 10))))])))<=maxLen) <| some (t0++(zbY [(IntKind.wrap .u8 (W (48+(Int.tmod a0 10))))]))) r):Ev (fun k=>f k a0) r:=evf (fun _ _ _=>zaf Cx (by kernel_rfl)) h
end qhez
namespace qhiz
def f (k:Fu) (a0:Int):Option BA:=PI Cx (k 0) 130 [vi a0]
theorem v {a0:Int} {r} (h:Ev (fun k=>if (iLt a0 0) then (qhez.f k (W (0-a0))).bind fun t0 =>
 gd ((1+(ByteArray.size t0))<=maxLen) <| some ((bs [45])++t0) else (qhez.f k a0).bind fun t0 =>
 some t0) r):Ev (fun k=>f k a0) r:=evf (fun _ _ _=>zaf Cx (by kernel_rfl)) h
end qhiz
namespace qgjz
def f (k:Fu) (a0:List (Int×Int)):Option BA:=PI Cx (k 0) 82 [vl 74 (.pair i6 i6) a0]
def l0 (k:Fu) (x0:BA) (x1:List (Int×Int)) (x2 x3:Int):Option BA:=zan Cx (k 0) 82 [tt,tt,ff,tt,tt] [k 1] ⟨[(3,vs x0),(6,vl 74 (.pair i6 i6) x1),(7,vi x2),(8,vi x3)],[],[]⟩
theorem v {a0:List (Int×Int)} {r} (h:Ev (fun k=>l0 k (bs []) a0 (ln a0) 0) r):Ev (fun k=>f k a0) r:=evf (fun _ _ _=>zaf Cx (by kernel_rfl)) h
theorem v0 {x0:BA} {x1:List (Int×Int)} {x2 x3:Int} {r} (h:Ev (fun k=>if (iLt x3 x2) then ix x3 x1 <| if (iGt x3 0) then gd (((ByteArray.size x0)+1)<=maxLen) <| (qhiz.f k (rd (0,0) x1 x3).1).bind fun t0 =>
 gd (((ByteArray.size t0)+1)<=maxLen) <| (qhiz.f k (rd (0,0) x1 x3).2).bind fun t1 =>
 gd (((ByteArray.size (t0++(bs [58])))+(ByteArray.size t1))<=maxLen) <| gd (((ByteArray.size (x0++(bs [44])))+(ByteArray.size ((t0++(bs [58]))++t1)))<=maxLen) <| l0 k ((x0++(bs [44]))++((t0++(bs [58]))++t1)) x1 x2 (W (x3+1)) else (qhiz.f k (rd (0,0) x1 x3).1).bind fun t0 =>
 gd (((ByteArray.size t0)+1)<=maxLen) <| (qhiz.f k (rd (0,0) x1 x3).2).bind fun t1 =>
 gd (((ByteArray.size (t0++(bs [58])))+(ByteArray.size t1))<=maxLen) <| gd (((ByteArray.size x0)+(ByteArray.size ((t0++(bs [58]))++t1)))<=maxLen) <| l0 k (x0++((t0++(bs [58]))++t1)) x1 x2 (W (x3+1)) else some x0) r):Ev (fun k=>l0 k x0 x1 x2 x3) r:=evl [] 0 (fun _ _ _=>by kernel_rfl) h
end qgjz
namespace qdez
def f (k:Fu) (a0:List (Int×Int)) (a1:Int) (a2:List (Int×Int)) (a3 a4 a5 a6:Int) (a7 a8:List (Int×Int)) (a9:List Int) (a10:List (Int×Int)):Option (BA×((List (Int×Int))×(Int×((List (Int×Int))×(Int×(Int×(Int×(Int×((List (Int×Int))×((List (Int×Int))×(List Int))))))))))):=PI Cx (k 0) 150 [va [.sl 74 (.pair i6 i6) a0,ci a1,.sl 74 (.pair i6 i6) a2,ci a3,ci a4,ci a5,ci a6,.sl 88 (.pair i6 i6) a7,.sl 155 (.pair i6 i6) a8,.sl 3 i6 a9],vl 74 (.pair i6 i6) a10]
theorem v {a0:List (Int×Int)} {a1:Int} {a2:List (Int×Int)} {a3 a4 a5 a6:Int} {a7 a8:List (Int×Int)} {a9:List Int} {a10:List (Int×Int)} {r} (h:Ev (fun k=>(qhfz.f k a10).bind fun t0 =>
 if (!t0) then some ((bs [110,111]),(a0,(a1,(a2,(a3,(a4,(a5,(a6,(a7,(a8,a9)))))))))) else (qgjz.f k a10).bind fun t1 =>
 some (t1,(a10,(a1,(a2,(a3,(a4,(a5,(a6,(a7,(a8,a9))))))))))) r):Ev (fun k=>f k a0 a1 a2 a3 a4 a5 a6 a7 a8 a9 a10) r:=evf (fun _ _ _=>zaf Cx (by kernel_rfl)) h
end qdez
namespace qccz
def f (k:Fu) (a0:List (Int×Int)) (a1:Int) (a2:List (Int×Int)) (a3 a4 a5 a6:Int) (a7 a8:List (Int×Int)) (a9:List Int) (a10:BA):Option (BA×((List (Int×Int))×(Int×((List (Int×Int))×(Int×(Int×(Int×(Int×((List (Int×Int))×((List (Int×Int))×(List Int))))))))))):=PI Cx (k 0) 99 [va [.sl 74 (.pair i6 i6) a0,ci a1,.sl 74 (.pair i6 i6) a2,ci a3,ci a4,ci a5,ci a6,.sl 88 (.pair i6 i6) a7,.sl 155 (.pair i6 i6) a8,.sl 3 i6 a9],vs a10]
theorem v {a0:List (Int×Int)} {a1:Int} {a2:List (Int×Int)} {a3 a4 a5 a6:Int} {a7 a8:List (Int×Int)} {a9:List Int} {a10:BA} {r} (h:Ev (fun k=>gd ((0+(lnN a0))<=8796093022208) <| if (seq a10 (bs [119,97,108,107,101,114,115])) then (qdez.f k a0 a1 a2 a3 a4 a5 a6 a7 a8 a9 a2).bind fun t0 =>
 some t0 else if (seq a10 (bs [97,100,100])) then gd (((lnN ([]++a0))+(lnN a2))<=8796093022208) <| (qdez.f k a0 a1 a2 a3 a4 a5 a6 a7 a8 a9 (([]++a0)++a2)).bind fun t0 =>
 some t0 else if (seq a10 (bs [114,105,110,103])) then gd (0 < (ln a9)) <| (qhpz.f (rd 0 a9 0) 1 1000).bind fun t0 =>
 if (!t0) then some ((bs [110,111]),(a0,(a1,(a2,(a3,(a4,(a5,(a6,(a7,(a8,a9)))))))))) else gd (0 < (ln a9)) <| (qgjz.f k ([]++a0)).bind fun t1 =>
 some (t1,(a0,((rd 0 a9 0),(a2,(a3,(a4,(a5,(a6,(a7,(a8,a9)))))))))) else gd (0 < (ln a9)) <| if (iGe (rd 0 a9 0) (ln ([]++a0))) then some ((bs [110,111]),(a0,(a1,(a2,(a3,(a4,(a5,(a6,(a7,(a8,a9)))))))))) else if (seq a10 (bs [116,117,114,110])) then gd (0 < (ln a9)) <| gd (0 < (ln a9)) <| ix (rd 0 a9 0) ([]++a0) <| ix (rd 0 a9 0) ([]++a0) <| (qdez.f k a0 a1 a2 a3 a4 a5 a6 a7 a8 a9 (List.set ([]++a0) (Int.toNat (rd 0 a9 0)) ((rd (0,0) ([]++a0) (rd 0 a9 0)).1,(W (0-(rd (0,0) ([]++a0) (rd 0 a9 0)).2))))).bind fun t0 =>
 some t0 else gd (0 < (ln a9)) <| gd (0<=(rd 0 a9 0)) <| gd ((rd 0 a9 0)<=(ln ([]++a0))) <| gd (0 < (ln a9)) <| gd (0<=(W ((rd 0 a9 0)+1))) <| gd ((W ((rd 0 a9 0)+1))<=(ln ([]++a0))) <| gd (((lnN (List.take (Int.toNat (rd 0 a9 0)) ([]++a0)))+(lnN (List.take ((Int.toNat (ln ([]++a0)))-(Int.toNat (W ((rd 0 a9 0)+1)))) (List.drop (Int.toNat (W ((rd 0 a9 0)+1))) ([]++a0)))))<=8796093022208) <| (qdez.f k a0 a1 a2 a3 a4 a5 a6 a7 a8 a9 ((List.take (Int.toNat (rd 0 a9 0)) ([]++a0))++(List.take ((Int.toNat (ln ([]++a0)))-(Int.toNat (W ((rd 0 a9 0)+1)))) (List.drop (Int.toNat (W ((rd 0 a9 0)+1))) ([]++a0))))).bind fun t0 =>
 some t0) r):Ev (fun k=>f k a0 a1 a2 a3 a4 a5 a6 a7 a8 a9 a10) r:=evf (fun _ _ h=>by rw [<- qhpz.k (dl h)]; exact zaf Cx (by kernel_rfl)) h
end qccz
namespace qhoz
abbrev P:=Int->Option Int
def f:P:=fun a0=>(qgxz.f a0 (W (0-a0))).bind fun t0 =>
 some t0
theorem k {K:Nat} (h:2<=K):(fun a0=>PI Cx K 218 [vi a0]:P)=f:=by
 obtain ⟨K,rfl⟩:=zah h
 funext a0
 unfold f
 rw [<- qgxz.k (dk h)]
 exact zaf Cx (by kernel_rfl)
end qhoz
namespace qhnz
def f (k:Fu) (a0 a1:Int):Option (Int×Int):=PI Cx (k 0) 219 [vi a0,vi a1]
def l0 (k:Fu) (x0 x1 x2 x3:Int):Option (Int×Int):=zan Cx (k 0) 219 [tt,tt,tt,ff,tt] [k 1] ⟨[(0,vi x0),(1,vi x1),(6,vi x2),(7,vi x3)],[],[]⟩
theorem v {a0 a1:Int} {r} (h:Ev (fun k=>if (iLt a1 0) then (qhoz.f (W (0-a0))).bind fun t0 =>
 l0 k (W (0-a0)) (W (0-a1)) t0 (W (0-a1)) else (qhoz.f a0).bind fun t0 =>
 l0 k a0 a1 t0 a1) r):Ev (fun k=>f k a0 a1) r:=evf (fun _ _ h=>by rw [<- qhoz.k (dl h)]; exact zaf Cx (by kernel_rfl)) h
theorem v0 {x0 x1 x2 x3:Int} {r} (h:Ev (fun k=>if (iGt x3 0) then if x3=0 then none else l0 k x0 x1 x3 (Int.tmod x2 x3) else if x2=0 then none else if x2=0 then none else some ((W (Int.tdiv x0 x2)),(W (Int.tdiv x1 x2)))) r):Ev (fun k=>l0 k x0 x1 x2 x3) r:=evl [] 0 (fun _ _ _=>by kernel_rfl) h
end qhnz
namespace qggz
def f (k:Fu) (a0 a1 a2 a3:Int):Option (Int×(Int×Bool)):=PI Cx (k 0) 215 [va [ci a0,ci a1],va [ci a2,ci a3]]
theorem v {a0 a1 a2 a3:Int} {r} (h:Ev (fun k=>if ((W (a2-a0)) == 0) then some (0,(1,true)) else if ((W (a1-a3)) == 0) then some (0,(0,false)) else if (!((iGt (W (a2-a0)) 0) == (iGt (W (a1-a3)) 0))) then some (0,(0,false)) else (qhnz.f k (W (a2-a0)) (W (a1-a3))).bind fun t0 =>
 some (t0.1,(t0.2,true))) r):Ev (fun k=>f k a0 a1 a2 a3) r:=evf (fun _ _ _=>zaf Cx (by kernel_rfl)) h
end qggz
namespace qcvz
def f (k:Fu) (a0 a1 a2 a3:Int):Option (Int×(Int×Bool)):=PI Cx (k 0) 209 [va [ci a0,ci a1],va [ci a2,ci a3]]
theorem v {a0 a1 a2 a3:Int} {r} (h:Ev (fun k=>(qgoz.f a0 a1).bind fun t0 =>
 if (!t0) then some (0,(0,false)) else (qgoz.f a2 a3).bind fun t1 =>
 if (!t1) then some (0,(0,false)) else (qggz.f k a0 a1 a2 a3).bind fun t2 =>
 some t2) r):Ev (fun k=>f k a0 a1 a2 a3) r:=evf (fun _ _ h=>by rw [<- qgoz.k (dl h)]; exact zaf Cx (by kernel_rfl)) h
end qcvz
namespace qgpz
def f (k:Fu) (a0 a1:Int) (a2:Bool):Option BA:=PI Cx (k 0) 159 [vi a0,vi a1,vb a2]
theorem v {a0 a1:Int} {a2:Bool} {r} (h:Ev (fun k=>if (!a2) then some (bs [110,111]) else (qhiz.f k a0).bind fun t0 =>
 gd (((ByteArray.size t0)+1)<=maxLen) <| (qhiz.f k a1).bind fun t1 =>
 gd (((ByteArray.size (t0++(bs [47])))+(ByteArray.size t1))<=maxLen) <| some ((t0++(bs [47]))++t1)) r):Ev (fun k=>f k a0 a1 a2) r:=evf (fun _ _ _=>zaf Cx (by kernel_rfl)) h
end qgpz
namespace qchz
def f (k:Fu) (a0 a1 a2 a3:Int):Option (Int×(Int×Bool)):=PI Cx (k 0) 210 [va [ci a0,ci a1],va [ci a2,ci a3]]
theorem v {a0 a1 a2 a3:Int} {r} (h:Ev (fun k=>(qcvz.f k a0 a1 a2 a3).bind fun t0 =>
 if (!t0.2.2) then some (0,(0,false)) else (qhnz.f k (W ((W (a0*t0.2.1))+(W (a1*t0.1)))) t0.2.1).bind fun t1 =>
 some (t1.1,(t1.2,true))) r):Ev (fun k=>f k a0 a1 a2 a3) r:=evf (fun _ _ _=>zaf Cx (by kernel_rfl)) h
end qchz
namespace qgtz
abbrev P:=Int->Int->Int->Int->Int->Option Bool
def f:P:=fun a0 a1 a2 a3 a4=>(qhpz.f a0 1 1000).bind fun t0 =>
 if t0 then (qgoz.f a1 a2).bind fun t1 =>
 if t1 then (qgoz.f a3 a4).bind fun t2 =>
 some t2 else some false else some false
theorem k {K:Nat} (h:3<=K):(fun a0 a1 a2 a3 a4=>PI Cx K 257 [vi a0,va [ci a1,ci a2],va [ci a3,ci a4]]:P)=f:=by
 obtain ⟨K,rfl⟩:=zah h
 funext a0 a1 a2 a3 a4
 unfold f
 rw [<- qhpz.k (dk h),<- qgoz.k (dk h)]
 exact zaf Cx (by kernel_rfl)
end qgtz
namespace qhmz
abbrev P:=Int->Int->Option Int
def f:P:=fun a0 a1=>if a1=0 then none else if a1=0 then none else some (Int.tmod (W ((Int.tmod a0 a1)+a1)) a1)
theorem k {K:Nat} (h:1<=K):(fun a0 a1=>PI Cx K 259 [vi a0,vi a1]:P)=f:=by
 obtain ⟨K,rfl⟩:=zah h
 funext a0 a1
 exact zaf Cx (by kernel_rfl)
end qhmz
namespace qfxz
abbrev P:=Int->Int->Int->Int->Int->Option (Int×Int)
def f:P:=fun a0 a1 a2 a3 a4=>if (iLt a2 a4) then (qhmz.f (W (a1-a3)) a0).bind fun t0 =>
 some (t0,(W (a4-a2))) else (qhmz.f (W (a3-a1)) a0).bind fun t0 =>
 some (t0,(W (a2-a4)))
theorem k {K:Nat} (h:2<=K):(fun a0 a1 a2 a3 a4=>PI Cx K 258 [vi a0,va [ci a1,ci a2],va [ci a3,ci a4]]:P)=f:=by
 obtain ⟨K,rfl⟩:=zah h
 funext a0 a1 a2 a3 a4
 unfold f
 rw [<- qhmz.k (dk h)]
 exact zaf Cx (by kernel_rfl)
end qfxz
namespace qeuz
def f (k:Fu) (a0 a1 a2 a3 a4:Int):Option (Int×(Int×Bool)):=PI Cx (k 0) 211 [vi a0,va [ci a1,ci a2],va [ci a3,ci a4]]
theorem v {a0 a1 a2 a3 a4:Int} {r} (h:Ev (fun k=>(qgtz.f a0 a1 a2 a3 a4).bind fun t0 =>
 if (!t0) then some (0,(0,false)) else (qfxz.f a0 a1 a2 a3 a4).bind fun t1 =>
 if (t1.1 == 0) then some (0,(1,true)) else if (t1.2 == 0) then some (0,(0,false)) else (qhnz.f k t1.1 t1.2).bind fun t2 =>
 some (t2.1,(t2.2,true))) r):Ev (fun k=>f k a0 a1 a2 a3 a4) r:=evf (fun _ _ h=>by rw [<- qgtz.k (dl h),<- qfxz.k (dl h)]; exact zaf Cx (by kernel_rfl)) h
end qeuz
namespace qfpz
def f (k:Fu) (a0 a1 a2 a3 a4:Int):Option (Int×(Int×Bool)):=PI Cx (k 0) 212 [vi a0,va [ci a1,ci a2],va [ci a3,ci a4]]
theorem v {a0 a1 a2 a3 a4:Int} {r} (h:Ev (fun k=>(qgtz.f a0 a1 a2 a3 a4).bind fun t0 =>
 if (!t0) then some (0,(0,false)) else if (a2 == a4) then some (0,(0,false)) else (qfxz.f a0 a1 a2 a3 a4).bind fun t1 =>
 (qhnz.f k a0 t1.2).bind fun t2 =>
 some (t2.1,(t2.2,true))) r):Ev (fun k=>f k a0 a1 a2 a3 a4) r:=evf (fun _ _ h=>by rw [<- qgtz.k (dl h),<- qfxz.k (dl h)]; exact zaf Cx (by kernel_rfl)) h
end qfpz
namespace qhgz
def f (k:Fu) (a0:List Int) (a1:Int):Option (List Int):=PI Cx (k 0) 260 [vl 3 i6 a0,vi a1]
def l0 (k:Fu) (x0:List Int) (x1 x2:Int):Option (List Int):=zan Cx (k 0) 260 [tt,tt,ff,tt] [k 1] ⟨[(0,vl 3 i6 x0),(1,vi x1),(5,vi x2)],[],[]⟩
theorem v {a0:List Int} {a1:Int} {r} (h:Ev (fun k=>l0 k a0 a1 0) r):Ev (fun k=>f k a0 a1) r:=evf (fun _ _ _=>zaf Cx (by kernel_rfl)) h
theorem v0 {x0:List Int} {x1 x2:Int} {r} (h:Ev (fun k=>if (iLt x2 (ln x0)) then ix x2 x0 <| if (iLt (rd 0 x0 x2) x1) then l0 k x0 x1 (W (x2+1)) else if (iLt x2 (ln x0)) then ix x2 x0 <| if ((rd 0 x0 x2) == x1) then some x0 else gd (0<=x2) <| gd (x2<=(ln x0)) <| gd ((0+(lnN (List.take (Int.toNat x2) x0)))<=17592186044416) <| gd (((lnN ([]++(List.take (Int.toNat x2) x0)))+1)<=17592186044416) <| gd (0<=x2) <| gd (x2<=(ln x0)) <| gd (((lnN (([]++(List.take (Int.toNat x2) x0))++[x1]))+(lnN (List.drop (Int.toNat x2) x0)))<=17592186044416) <| some ((([]++(List.take (Int.toNat x2) x0))++[x1])++(List.drop (Int.toNat x2) x0)) else gd (0<=x2) <| gd (x2<=(ln x0)) <| gd ((0+(lnN (List.take (Int.toNat x2) x0)))<=17592186044416) <| gd (((lnN ([]++(List.take (Int.toNat x2) x0)))+1)<=17592186044416) <| gd (0<=x2) <| gd (x2<=(ln x0)) <| gd (((lnN (([]++(List.take (Int.toNat x2) x0))++[x1]))+(lnN (List.drop (Int.toNat x2) x0)))<=17592186044416) <| some ((([]++(List.take (Int.toNat x2) x0))++[x1])++(List.drop (Int.toNat x2) x0)) else if (iLt x2 (ln x0)) then ix x2 x0 <| if ((rd 0 x0 x2) == x1) then some x0 else gd (0<=x2) <| gd (x2<=(ln x0)) <| gd ((0+(lnN (List.take (Int.toNat x2) x0)))<=17592186044416) <| gd (((lnN ([]++(List.take (Int.toNat x2) x0)))+1)<=17592186044416) <| gd (0<=x2) <| gd (x2<=(ln x0)) <| gd (((lnN (([]++(List.take (Int.toNat x2) x0))++[x1]))+(lnN (List.drop (Int.toNat x2) x0)))<=17592186044416) <| some ((([]++(List.take (Int.toNat x2) x0))++[x1])++(List.drop (Int.toNat x2) x0)) else gd (0<=x2) <| gd (x2<=(ln x0)) <| gd ((0+(lnN (List.take (Int.toNat x2) x0)))<=17592186044416) <| gd (((lnN ([]++(List.take (Int.toNat x2) x0)))+1)<=17592186044416) <| gd (0<=x2) <| gd (x2<=(ln x0)) <| gd (((lnN (([]++(List.take (Int.toNat x2) x0))++[x1]))+(lnN (List.drop (Int.toNat x2) x0)))<=17592186044416) <| some ((([]++(List.take (Int.toNat x2) x0))++[x1])++(List.drop (Int.toNat x2) x0))) r):Ev (fun k=>l0 k x0 x1 x2) r:=evl [] 0 (fun _ _ _=>by kernel_rfl) h
end qhgz
namespace qdnz
def f (k:Fu) (a0 a1 a2 a3 a4:Int):Option ((List (List Int))×Bool):=PI Cx (k 0) 214 [vi a0,va [ci a1,ci a2],va [ci a3,ci a4]]
def l0 (k:Fu) (x0 x1 x2:Int) (x3:List Int) (x4 x5 x6:Int):Option ((List (List Int))×Bool):=zan Cx (k 0) 214 [tt,tt,tt,tt,ff,tt,tt] [k 1] ⟨[(0,vi x0),(4,vp 0 0),(8,vi x1),(9,vi x2),(10,vl 3 i6 x3),(11,vi x4)],[(0,.box 74 [ci x5,ci x6])],[]⟩
def l1 (k:Fu) (x0:Int) (x1:List Int) (x2 x3:Int) (x4:List (List Int)):Option ((List (List Int))×Bool):=zan Cx (k 0) 214 [tt,tt,tt,tt,tt,tt,ff,tt,tt] [k 2] ⟨[(9,vi x0),(13,vf 1000000013000),(62,vl 3 i6 x1),(63,vi x2),(64,vi x3)],[(1000000013000,.row 44 (.sl 3 i6) x4 .own)],[]⟩
theorem v {a0 a1 a2 a3 a4:Int} {r} (h:Ev (fun k=>(qgtz.f a0 a1 a2 a3 a4).bind fun t0 =>
 if (!t0) then some ([],false) else if (a2 == a4) then some ([],false) else (qfxz.f a0 a1 a2 a3 a4).bind fun t1 =>
 l0 k a0 t1.1 t1.2 [] 0 a1 a2) r):Ev (fun k=>f k a0 a1 a2 a3 a4) r:=evf (fun _ _ h=>by rw [<- qgtz.k (dl h),<- qfxz.k (dl h)]; exact zaf Cx (by kernel_rfl)) h
theorem v0 {x0 x1 x2:Int} {x3:List Int} {x4 x5 x6:Int} {r} (h:Ev (fun k=>if (iLt x4 x2) then (qhmz.f (W ((W (x5*x2))+(W (x6*(W (x1+(W (x4*x0)))))))) (W (x0*x2))).bind fun t0 =>
 (qhgz.f k x3 t0).bind fun t1 =>
 l0 k x0 x1 x2 t1 (W (x4+1)) x5 x6 else l1 k x2 x3 (ln x3) 0 []) r):Ev (fun k=>l0 k x0 x1 x2 x3 x4 x5 x6) r:=evl [] 0 (fun _ _ h=>by rw [<- qhmz.k (dl h)]; kernel_rfl) h
theorem v1 {x0:Int} {x1:List Int} {x2 x3:Int} {x4:List (List Int)} {r} (h:Ev (fun k=>if (iLt x3 x2) then ix x3 x1 <| (qhnz.f k (rd 0 x1 x3) x0).bind fun t0 =>
 gd (((lnN x4)+1)<=5864062014805) <| l1 k x0 x1 x2 (W (x3+1)) (x4++[[t0.1,t0.2]]) else some (x4,true)) r):Ev (fun k=>l1 k x0 x1 x2 x3 x4) r:=evl [] 1 (fun _ _ _=>by kernel_rfl) h
end qdnz
namespace qfoz
def f (k:Fu) (a0:List (List Int)) (a1:Bool):Option BA:=PI Cx (k 0) 213 [vl 44 (.sl 3 i6) a0,vb a1]
def l0 (k:Fu) (x0:BA) (x1:List (List Int)) (x2 x3:Int):Option BA:=zan Cx (k 0) 213 [tt,tt,tt,ff,tt,tt] [k 1] ⟨[(5,vs x0),(10,vl 44 (.sl 3 i6) x1),(11,vi x2),(12,vi x3)],[],[]⟩
theorem v {a0:List (List Int)} {a1:Bool} {r} (h:Ev (fun k=>if (!a1) then some (bs [110,111]) else l0 k (bs []) a0 (ln a0) 0) r):Ev (fun k=>f k a0 a1) r:=evf (fun _ _ _=>zaf Cx (by kernel_rfl)) h
theorem v0 {x0:BA} {x1:List (List Int)} {x2 x3:Int} {r} (h:Ev (fun k=>if (iLt x3 x2) then ix x3 x1 <| if (iGt x3 0) then gd (((ByteArray.size x0)+1)<=maxLen) <| gd (0 < (ln (rd [] x1 x3))) <| gd (1 < (ln (rd [] x1 x3))) <| (qgpz.f k (rd 0 (rd [] x1 x3) 0) (rd 0 (rd [] x1 x3) 1) true).bind fun t0 =>
 gd (((ByteArray.size (x0++(bs [44])))+(ByteArray.size t0))<=maxLen) <| l0 k ((x0++(bs [44]))++t0) x1 x2 (W (x3+1)) else gd (0 < (ln (rd [] x1 x3))) <| gd (1 < (ln (rd [] x1 x3))) <| (qgpz.f k (rd 0 (rd [] x1 x3) 0) (rd 0 (rd [] x1 x3) 1) true).bind fun t0 =>
 gd (((ByteArray.size x0)+(ByteArray.size t0))<=maxLen) <| l0 k (x0++t0) x1 x2 (W (x3+1)) else some x0) r):Ev (fun k=>l0 k x0 x1 x2 x3) r:=evl [] 0 (fun _ _ _=>by kernel_rfl) h
end qfoz
namespace qckz
def f (k:Fu) (a0:List (Int×Int)) (a1:Int) (a2:List (Int×Int)) (a3 a4 a5 a6:Int) (a7 a8:List (Int×Int)) (a9:List Int) (a10:BA):Option (BA×((List (Int×Int))×(Int×((List (Int×Int))×(Int×(Int×(Int×(Int×((List (Int×Int))×((List (Int×Int))×(List Int))))))))))):=PI Cx (k 0) 151 [va [.sl 74 (.pair i6 i6) a0,ci a1,.sl 74 (.pair i6 i6) a2,ci a3,ci a4,ci a5,ci a6,.sl 88 (.pair i6 i6) a7,.sl 155 (.pair i6 i6) a8,.sl 3 i6 a9],vs a10]
theorem v {a0:List (Int×Int)} {a1:Int} {a2:List (Int×Int)} {a3 a4 a5 a6:Int} {a7 a8:List (Int×Int)} {a9:List Int} {a10:BA} {r} (h:Ev (fun k=>gd (0 < (ln a9)) <| if (iGe (rd 0 a9 0) (ln a0)) then some ((bs [110,111]),(a0,(a1,(a2,(a3,(a4,(a5,(a6,(a7,(a8,a9)))))))))) else gd (1 < (ln a9)) <| if (iGe (rd 0 a9 1) (ln a0)) then some ((bs [110,111]),(a0,(a1,(a2,(a3,(a4,(a5,(a6,(a7,(a8,a9)))))))))) else gd (0 < (ln a9)) <| ix (rd 0 a9 0) a0 <| gd (1 < (ln a9)) <| ix (rd 0 a9 1) a0 <| if (seq a10 (bs [109,101,101,116])) then (qcvz.f k (rd (0,0) a0 (rd 0 a9 0)).1 (rd (0,0) a0 (rd 0 a9 0)).2 (rd (0,0) a0 (rd 0 a9 1)).1 (rd (0,0) a0 (rd 0 a9 1)).2).bind fun t0 =>
 (qgpz.f k t0.1 t0.2.1 t0.2.2).bind fun t1 =>
 some (t1,(a0,(a1,(a2,(a3,(a4,(a5,(a6,(a7,(a8,a9)))))))))) else if (seq a10 (bs [119,104,101,114,101])) then (qchz.f k (rd (0,0) a0 (rd 0 a9 0)).1 (rd (0,0) a0 (rd 0 a9 0)).2 (rd (0,0) a0 (rd 0 a9 1)).1 (rd (0,0) a0 (rd 0 a9 1)).2).bind fun t0 =>
 (qgpz.f k t0.1 t0.2.1 t0.2.2).bind fun t1 =>
 some (t1,(a0,(a1,(a2,(a3,(a4,(a5,(a6,(a7,(a8,a9)))))))))) else if (seq a10 (bs [97,114,111,117,110,100])) then (qeuz.f k a1 (rd (0,0) a0 (rd 0 a9 0)).1 (rd (0,0) a0 (rd 0 a9 0)).2 (rd (0,0) a0 (rd 0 a9 1)).1 (rd (0,0) a0 (rd 0 a9 1)).2).bind fun t0 =>
 (qgpz.f k t0.1 t0.2.1 t0.2.2).bind fun t1 =>
 some (t1,(a0,(a1,(a2,(a3,(a4,(a5,(a6,(a7,(a8,a9)))))))))) else if (seq a10 (bs [103,97,112])) then (qfpz.f k a1 (rd (0,0) a0 (rd 0 a9 0)).1 (rd (0,0) a0 (rd 0 a9 0)).2 (rd (0,0) a0 (rd 0 a9 1)).1 (rd (0,0) a0 (rd 0 a9 1)).2).bind fun t0 =>
 (qgpz.f k t0.1 t0.2.1 t0.2.2).bind fun t1 =>
 some (t1,(a0,(a1,(a2,(a3,(a4,(a5,(a6,(a7,(a8,a9)))))))))) else (qdnz.f k a1 (rd (0,0) a0 (rd 0 a9 0)).1 (rd (0,0) a0 (rd 0 a9 0)).2 (rd (0,0) a0 (rd 0 a9 1)).1 (rd (0,0) a0 (rd 0 a9 1)).2).bind fun t0 =>
 (qfoz.f k t0.1 t0.2).bind fun t1 =>
 some (t1,(a0,(a1,(a2,(a3,(a4,(a5,(a6,(a7,(a8,a9))))))))))) r):Ev (fun k=>f k a0 a1 a2 a3 a4 a5 a6 a7 a8 a9 a10) r:=evf (fun _ _ _=>zaf Cx (by kernel_rfl)) h
end qckz
namespace qclz
def f (k:Fu) (a0:List (Int×Int)):Option ((List (List Int))×Bool):=PI Cx (k 0) 154 [vl 74 (.pair i6 i6) a0]
def l0 (k:Fu) (x0 x1:List (Int×Int)) (x2 x3:Int) (x4:List (List Int)):Option ((List (List Int))×Bool):=zan Cx (k 0) 154 [tt,tt,tt,ff,tt,tt] [k 1] ⟨[(0,vl 74 (.pair i6 i6) x0),(4,vf 1000000004000),(16,vl 74 (.pair i6 i6) x1),(17,vi x2),(18,vi x3)],[(1000000004000,.row 44 (.sl 3 i6) x4 .own)],[]⟩
def l1 (k:Fu) (x0:List (Int×Int)) (x1 x2:Int) (x3:List (Int×Int)) (x4 x5:Int) (x6:List (List Int)) (x7 x8:Int):Option ((List (List Int))×Bool):=zan Cx (k 0) 154 [tt,tt,tt,ff,tt,tt,tt,tt,tt,ff,tt,tt,tt,tt] [k 1,k 2] ⟨[(0,vl 74 (.pair i6 i6) x0),(4,vf 1000000004000),(5,vi x1),(6,vp 6003000 0),(7,vi x2),(16,vl 74 (.pair i6 i6) x3),(17,vi x4),(18,vi x5)],[(1000000004000,.row 44 (.sl 3 i6) x6 .own),(6003000,.box 74 [ci x7,ci x8])],[]⟩
def l2 (k:Fu) (x0:List (Int×Int)) (x1 x2 x3 x4 x5:Int) (x6:List (Int×Int)) (x7 x8:Int) (x9:List (List Int)) (x10 x11:Int):Option ((List (List Int))×Bool):=zan Cx (k 0) 154 [tt,tt,tt,ff,tt,tt,tt,tt,tt,ff,tt,tt,tt,tt,tt,tt,ff,tt,tt,tt,tt,ff,tt] [k 1,k 2,k 3] ⟨[(0,vl 74 (.pair i6 i6) x0),(4,vf 1000000004000),(5,vi x1),(6,vp 6003000 0),(7,vi x2),(8,vi x3),(9,vi x4),(11,vi x5),(16,vl 74 (.pair i6 i6) x6),(17,vi x7),(18,vi x8)],[(1000000004000,.row 44 (.sl 3 i6) x9 .own),(6003000,.box 74 [ci x10,ci x11])],[]⟩
theorem v {a0:List (Int×Int)} {r} (h:Ev (fun k=>(qhfz.f k a0).bind fun t0 =>
 if (!t0) then some ([],false) else l0 k a0 a0 (ln a0) 0 []) r):Ev (fun k=>f k a0) r:=evf (fun _ _ _=>zaf Cx (by kernel_rfl)) h
theorem v0 {x0 x1:List (Int×Int)} {x2 x3:Int} {x4:List (List Int)} {r} (h:Ev (fun k=>if (iLt x3 x2) then ix x3 x1 <| l1 k x0 x3 (W (x3+1)) x1 x2 x3 x4 (rd (0,0) x1 x3).1 (rd (0,0) x1 x3).2 else some (x4,true)) r):Ev (fun k=>l0 k x0 x1 x2 x3 x4) r:=evl [] 0 (fun _ _ _=>by kernel_rfl) h
theorem v1 {x0:List (Int×Int)} {x1 x2:Int} {x3:List (Int×Int)} {x4 x5:Int} {x6:List (List Int)} {x7 x8:Int} {r} (h:Ev (fun k=>if (iLt x2 (ln x0)) then ix x2 x0 <| (qggz.f k x7 x8 (rd (0,0) x0 x2).1 (rd (0,0) x0 x2).2).bind fun t0 =>
 if (!t0.2.2) then l1 k x0 x1 (W (x2+1)) x3 x4 x5 x6 x7 x8 else l2 k x0 x1 x2 t0.1 t0.2.1 (ln x6) x3 x4 x5 x6 x7 x8 else l0 k x0 x3 x4 (W (x5+1)) x6) r):Ev (fun k=>l1 k x0 x1 x2 x3 x4 x5 x6 x7 x8) r:=evl [1] 1 (fun _ _ _=>by kernel_rfl) h
theorem v2 {x0:List (Int×Int)} {x1 x2 x3 x4 x5:Int} {x6:List (Int×Int)} {x7 x8:Int} {x9:List (List Int)} {x10 x11:Int} {r} (h:Ev (fun k=>if (iGt x5 0) then ix (W (x5-1)) x9 <| gd (3 < (ln (rd [] x9 (W (x5-1))))) <| ix (W (x5-1)) x9 <| gd (2 < (ln (rd [] x9 (W (x5-1))))) <| if (iLt (W (x3*(rd 0 (rd [] x9 (W (x5-1))) 3))) (W ((rd 0 (rd [] x9 (W (x5-1))) 2)*x4))) then l2 k x0 x1 x2 x3 x4 (W (x5-1)) x6 x7 x8 x9 x10 x11 else gd (0<=x5) <| gd (x5<=(ln x9)) <| gd ((0+(lnN (List.take (Int.toNat x5) x9)))<=5864062014805) <| gd (((lnN ([]++(List.take (Int.toNat x5) x9)))+1)<=5864062014805) <| gd (0<=x5) <| gd (x5<=(ln x9)) <| gd (((lnN (([]++(List.take (Int.toNat x5) x9))++[[x1,x2,x3,x4]]))+(lnN (List.take ((Int.toNat (ln x9))-(Int.toNat x5)) (List.drop (Int.toNat x5) x9))))<=5864062014805) <| l1 k x0 x1 (W (x2+1)) x6 x7 x8 ((([]++(List.take (Int.toNat x5) x9))++[[x1,x2,x3,x4]])++(List.take ((Int.toNat (ln x9))-(Int.toNat x5)) (List.drop (Int.toNat x5) x9))) x10 x11 else gd (0<=x5) <| gd (x5<=(ln x9)) <| gd ((0+(lnN (List.take (Int.toNat x5) x9)))<=5864062014805) <| gd (((lnN ([]++(List.take (Int.toNat x5) x9)))+1)<=5864062014805) <| gd (0<=x5) <| gd (x5<=(ln x9)) <| gd (((lnN (([]++(List.take (Int.toNat x5) x9))++[[x1,x2,x3,x4]]))+(lnN (List.take ((Int.toNat (ln x9))-(Int.toNat x5)) (List.drop (Int.toNat x5) x9))))<=5864062014805) <| l1 k x0 x1 (W (x2+1)) x6 x7 x8 ((([]++(List.take (Int.toNat x5) x9))++[[x1,x2,x3,x4]])++(List.take ((Int.toNat (ln x9))-(Int.toNat x5)) (List.drop (Int.toNat x5) x9))) x10 x11) r):Ev (fun k=>l2 k x0 x1 x2 x3 x4 x5 x6 x7 x8 x9 x10 x11) r:=evl [1,2] 2 (fun _ _ _=>by kernel_rfl) h
end qclz
namespace qbsz
def f (k:Fu) (a0:List (Int×Int)):Option (Int×Bool):=PI Cx (k 0) 153 [vl 74 (.pair i6 i6) a0]
theorem v {a0:List (Int×Int)} {r} (h:Ev (fun k=>(qclz.f k a0).bind fun t0 =>
 some ((ln t0.1),t0.2)) r):Ev (fun k=>f k a0) r:=evf (fun _ _ _=>zaf Cx (by kernel_rfl)) h
end qbsz
namespace qetz
def f (k:Fu) (a0:Int) (a1:Bool):Option BA:=PI Cx (k 0) 152 [vi a0,vb a1]
theorem v {a0:Int} {a1:Bool} {r} (h:Ev (fun k=>if (!a1) then some (bs [110,111]) else (qhez.f k a0).bind fun t0 =>
 some t0) r):Ev (fun k=>f k a0 a1) r:=evf (fun _ _ _=>zaf Cx (by kernel_rfl)) h
end qetz
namespace qgvz
def f (k:Fu) (a0:List Int) (a1:Bool):Option BA:=PI Cx (k 0) 155 [vl 3 i6 a0,vb a1]
def l0 (k:Fu) (x0:BA) (x1:List Int) (x2 x3:Int):Option BA:=zan Cx (k 0) 155 [tt,tt,tt,tt,ff,tt,tt] [k 1] ⟨[(5,vs x0),(13,vl 3 i6 x1),(14,vi x2),(15,vi x3)],[],[]⟩
theorem v {a0:List Int} {a1:Bool} {r} (h:Ev (fun k=>if (!a1) then some (bs [110,111]) else if ((ln a0) == 0) then some (bs [45]) else l0 k (bs []) a0 (ln a0) 0) r):Ev (fun k=>f k a0 a1) r:=evf (fun _ _ _=>zaf Cx (by kernel_rfl)) h
theorem v0 {x0:BA} {x1:List Int} {x2 x3:Int} {r} (h:Ev (fun k=>if (iLt x3 x2) then ix x3 x1 <| if (iGt x3 0) then gd (((ByteArray.size x0)+1)<=maxLen) <| (qhiz.f k (rd 0 x1 x3)).bind fun t0 =>
 gd (((ByteArray.size (x0++(bs [44])))+(ByteArray.size t0))<=maxLen) <| l0 k ((x0++(bs [44]))++t0) x1 x2 (W (x3+1)) else (qhiz.f k (rd 0 x1 x3)).bind fun t0 =>
 gd (((ByteArray.size x0)+(ByteArray.size t0))<=maxLen) <| l0 k (x0++t0) x1 x2 (W (x3+1)) else some x0) r):Ev (fun k=>l0 k x0 x1 x2 x3) r:=evl [] 0 (fun _ _ _=>by kernel_rfl) h
end qgvz
namespace qeaz
def f (k:Fu) (a0:List (Int×Int)):Option ((List Int)×Bool):=PI Cx (k 0) 156 [vl 74 (.pair i6 i6) a0]
def l0 (k:Fu) (x0:List (Int×Int)) (x1:Int) (x2:List (Int×Int)) (x3 x4:Int):Option ((List Int)×Bool):=zan Cx (k 0) 156 [tt,tt,tt,ff,tt,tt] [k 1] ⟨[(0,vl 74 (.pair i6 i6) x0),(4,vi x1),(22,vl 74 (.pair i6 i6) x2),(23,vi x3),(24,vi x4)],[],[]⟩
def l1 (k:Fu) (x0:List (Int×Int)) (x1 x2 x3 x4:Int) (x5:List Int):Option ((List Int)×Bool):=zan Cx (k 0) 156 [tt,tt,tt,tt,tt,tt,ff,tt,tt] [k 2] ⟨[(0,vl 74 (.pair i6 i6) x0),(4,vi x1),(7,vf 1000000007000),(8,vi x2),(9,vi x3),(10,vi x4)],[(1000000007000,.row 3 i6 x5 .own)],[]⟩
def l2 (k:Fu) (x0:List (Int×Int)) (x1 x2 x3 x4 x5 x6 x7:Int) (x8:List (Int×Int)) (x9 x10:Int) (x11:List Int):Option ((List Int)×Bool):=zan Cx (k 0) 156 [tt,tt,tt,tt,tt,tt,ff,tt,tt,tt,tt,ff,tt,tt,ff,tt,tt] [k 2,k 3] ⟨[(0,vl 74 (.pair i6 i6) x0),(4,vi x1),(7,vf 1000000007000),(8,vi x2),(9,vi x3),(10,vi x4),(11,vi x5),(12,vi x6),(13,vi x7),(68,vl 74 (.pair i6 i6) x8),(69,vi x9),(70,vi x10)],[(1000000007000,.row 3 i6 x11 .own)],[]⟩
theorem v {a0:List (Int×Int)} {r} (h:Ev (fun k=>(qhfz.f k a0).bind fun t0 =>
 if (!t0) then some ([],false) else l0 k a0 0 a0 (ln a0) 0) r):Ev (fun k=>f k a0) r:=evf (fun _ _ _=>zaf Cx (by kernel_rfl)) h
theorem v0 {x0:List (Int×Int)} {x1:Int} {x2:List (Int×Int)} {x3 x4:Int} {r} (h:Ev (fun k=>if (iLt x4 x3) then ix x4 x2 <| ix x1 x0 <| if (iGt (rd (0,0) x2 x4).1 (rd (0,0) x0 x1).1) then l0 k x0 x4 x2 x3 (W (x4+1)) else ix x1 x0 <| if ((rd (0,0) x2 x4).1 == (rd (0,0) x0 x1).1) then ix x1 x0 <| if (iGt (rd (0,0) x2 x4).2 (rd (0,0) x0 x1).2) then l0 k x0 x4 x2 x3 (W (x4+1)) else l0 k x0 x1 x2 x3 (W (x4+1)) else l0 k x0 x1 x2 x3 (W (x4+1)) else l1 k x0 x1 0 1 0 [x1]) r):Ev (fun k=>l0 k x0 x1 x2 x3 x4) r:=evl [] 0 (fun _ _ _=>by kernel_rfl) h
theorem v1 {x0:List (Int×Int)} {x1 x2 x3 x4:Int} {x5:List Int} {r} (h:Ev (fun k=>if (iLt x4 (W (2*(ln x0)))) then l2 k x0 x1 x2 x3 x4 (-1) 0 1 x0 (ln x0) 0 x5 else some (x5,true)) r):Ev (fun k=>l1 k x0 x1 x2 x3 x4 x5) r:=evl [] 1 (fun _ _ _=>by kernel_rfl) h
theorem v2 {x0:List (Int×Int)} {x1 x2 x3 x4 x5 x6 x7:Int} {x8:List (Int×Int)} {x9 x10:Int} {x11:List Int} {r} (h:Ev (fun k=>if (iLt x10 x9) then ix x10 x8 <| ix x1 x0 <| (qggz.f k (rd (0,0) x0 x1).1 (rd (0,0) x0 x1).2 (rd (0,0) x8 x10).1 (rd (0,0) x8 x10).2).bind fun t0 =>
 ix x1 x0 <| if (iLe (rd (0,0) x8 x10).2 (rd (0,0) x0 x1).2) then l2 k x0 x1 x2 x3 x4 x5 x6 x7 x8 x9 (W (x10+1)) x11 else if (!t0.2.2) then l2 k x0 x1 x2 x3 x4 x5 x6 x7 x8 x9 (W (x10+1)) x11 else if (iLt (W (t0.1*x3)) (W (x2*t0.2.1))) then l2 k x0 x1 x2 x3 x4 x5 x6 x7 x8 x9 (W (x10+1)) x11 else if (iLt x5 0) then l2 k x0 x1 x2 x3 x4 x10 t0.1 t0.2.1 x8 x9 (W (x10+1)) x11 else if (iLt (W (t0.1*x7)) (W (x6*t0.2.1))) then l2 k x0 x1 x2 x3 x4 x10 t0.1 t0.2.1 x8 x9 (W (x10+1)) x11 else if ((W (t0.1*x7)) == (W (x6*t0.2.1))) then ix x5 x0 <| if (iGt (rd (0,0) x8 x10).2 (rd (0,0) x0 x5).2) then l2 k x0 x1 x2 x3 x4 x10 t0.1 t0.2.1 x8 x9 (W (x10+1)) x11 else l2 k x0 x1 x2 x3 x4 x5 x6 x7 x8 x9 (W (x10+1)) x11 else l2 k x0 x1 x2 x3 x4 x5 x6 x7 x8 x9 (W (x10+1)) x11 else if (iLt x5 0) then some (x11,true) else gd (((lnN x11)+1)<=17592186044416) <| l1 k x0 x5 x6 x7 (W (x4+1)) (x11++[x5])) r):Ev (fun k=>l2 k x0 x1 x2 x3 x4 x5 x6 x7 x8 x9 x10 x11) r:=evl [2] 2 (fun _ _ _=>by kernel_rfl) h
end qeaz
namespace qepz
def f (k:Fu) (a0 a1:List Int):Option Bool:=PI Cx (k 0) 261 [vl 3 i6 a0,vl 3 i6 a1]
def l0 (k:Fu) (x0 x1:List Int) (x2 x3:Int):Option Bool:=zan Cx (k 0) 261 [tt,ff,tt,tt] [k 1] ⟨[(0,vl 3 i6 x0),(1,vl 3 i6 x1),(7,vi x2),(8,vi x3)],[],[]⟩
theorem v {a0 a1:List Int} {r} (h:Ev (fun k=>l0 k a0 a1 (ln a0) 0) r):Ev (fun k=>f k a0 a1) r:=evf (fun _ _ _=>zaf Cx (by kernel_rfl)) h
theorem v0 {x0 x1:List Int} {x2 x3:Int} {r} (h:Ev (fun k=>if (iLt x3 x2) then ix x3 x0 <| ix x3 x1 <| if ((rd 0 x0 x3) != (rd 0 x1 x3)) then ix x3 x0 <| ix x3 x1 <| some (iLt (rd 0 x0 x3) (rd 0 x1 x3)) else l0 k x0 x1 x2 (W (x3+1)) else some false) r):Ev (fun k=>l0 k x0 x1 x2 x3) r:=evl [] 0 (fun _ _ _=>by kernel_rfl) h
end qepz
namespace qhjz
abbrev P:=List Int->Option (List Int)
def f:P:=fun a0=>gd ((0+(lnN a0))<=17592186044416) <| some ([]++a0)
theorem k {K:Nat} (h:1<=K):(fun a0=>PI Cx K 262 [vl 3 i6 a0]:P)=f:=by
 obtain ⟨K,rfl⟩:=zah h
 funext a0
 exact zaf Cx (by kernel_rfl)
end qhjz
namespace qfrz
def f (k:Fu) (a0:List (List Int)):Option (List Int):=PI Cx (k 0) 216 [vl 44 (.sl 3 i6) a0]
def l0 (k:Fu) (x0 x1:List (List Int)) (x2 x3:Int) (x4:List Int):Option (List Int):=zan Cx (k 0) 216 [tt,tt,ff,tt,tt] [k 1] ⟨[(0,vl 44 (.sl 3 i6) x0),(3,vf 1000000003000),(8,vl 44 (.sl 3 i6) x1),(9,vi x2),(10,vi x3)],[(1000000003000,.row 3 i6 x4 .own)],[]⟩
def l1 (k:Fu) (x0:List (List Int)) (x1:Int) (x2:List Int) (x3:Int) (x4:List (List Int)) (x5 x6:Int) (x7:List Int):Option (List Int):=zan Cx (k 0) 216 [tt,tt,ff,tt,tt,tt,tt,tt,ff,tt,tt,tt,ff,tt] [k 1,k 2] ⟨[(0,vl 44 (.sl 3 i6) x0),(3,vf 1000000003000),(4,vi x1),(5,vl 3 i6 x2),(6,vi x3),(8,vl 44 (.sl 3 i6) x4),(9,vi x5),(10,vi x6)],[(1000000003000,.row 3 i6 x7 .own)],[]⟩
theorem v {a0:List (List Int)} {r} (h:Ev (fun k=>l0 k a0 a0 (ln a0) 0 []) r):Ev (fun k=>f k a0) r:=evf (fun _ _ _=>zaf Cx (by kernel_rfl)) h
theorem v0 {x0 x1:List (List Int)} {x2 x3:Int} {x4:List Int} {r} (h:Ev (fun k=>if (iLt x3 x2) then ix x3 x1 <| l1 k x0 x3 (rd [] x1 x3) (ln x4) x1 x2 x3 x4 else some x4) r):Ev (fun k=>l0 k x0 x1 x2 x3 x4) r:=evl [] 0 (fun _ _ _=>by kernel_rfl) h
theorem v1 {x0:List (List Int)} {x1:Int} {x2:List Int} {x3:Int} {x4:List (List Int)} {x5 x6:Int} {x7:List Int} {r} (h:Ev (fun k=>if (iGt x3 0) then ix (W (x3-1)) x7 <| ix (rd 0 x7 (W (x3-1))) x0 <| (qepz.f k x2 (rd [] x0 (rd 0 x7 (W (x3-1))))).bind fun t0 =>
 if t0 then l1 k x0 x1 x2 (W (x3-1)) x4 x5 x6 x7 else gd (0<=x3) <| gd (x3<=(ln x7)) <| (qhjz.f (List.take (Int.toNat x3) x7)).bind fun t1 =>
 gd (((lnN t1)+1)<=17592186044416) <| gd (0<=x3) <| gd (x3<=(ln x7)) <| gd (((lnN (t1++[x1]))+(lnN (List.take ((Int.toNat (ln x7))-(Int.toNat x3)) (List.drop (Int.toNat x3) x7))))<=17592186044416) <| l0 k x0 x4 x5 (W (x6+1)) ((t1++[x1])++(List.take ((Int.toNat (ln x7))-(Int.toNat x3)) (List.drop (Int.toNat x3) x7))) else gd (0<=x3) <| gd (x3<=(ln x7)) <| (qhjz.f (List.take (Int.toNat x3) x7)).bind fun t0 =>
 gd (((lnN t0)+1)<=17592186044416) <| gd (0<=x3) <| gd (x3<=(ln x7)) <| gd (((lnN (t0++[x1]))+(lnN (List.take ((Int.toNat (ln x7))-(Int.toNat x3)) (List.drop (Int.toNat x3) x7))))<=17592186044416) <| l0 k x0 x4 x5 (W (x6+1)) ((t0++[x1])++(List.take ((Int.toNat (ln x7))-(Int.toNat x3)) (List.drop (Int.toNat x3) x7)))) r):Ev (fun k=>l1 k x0 x1 x2 x3 x4 x5 x6 x7) r:=evl [1] 1 (fun _ _ h=>by rw [<- qhjz.k (dl h)]; kernel_rfl) h
end qfrz
namespace qduz
def f (k:Fu) (a0:List (Int×Int)):Option ((List Int)×Bool):=PI Cx (k 0) 157 [vl 74 (.pair i6 i6) a0]
def l0 (k:Fu) (x0:List (Int×Int)) (x1 x2:Int) (x3:List (List Int)):Option ((List Int)×Bool):=zan Cx (k 0) 157 [tt,tt,tt,ff,tt,tt] [k 1] ⟨[(4,vf 1000000004000),(10,vl 74 (.pair i6 i6) x0),(11,vi x1),(12,vi x2)],[(1000000004000,.row 44 (.sl 3 i6) x3 .own)],[]⟩
theorem v {a0:List (Int×Int)} {r} (h:Ev (fun k=>(qhfz.f k a0).bind fun t0 =>
 if (!t0) then some ([],false) else l0 k a0 (ln a0) 0 []) r):Ev (fun k=>f k a0) r:=evf (fun _ _ _=>zaf Cx (by kernel_rfl)) h
theorem v0 {x0:List (Int×Int)} {x1 x2:Int} {x3:List (List Int)} {r} (h:Ev (fun k=>if (iLt x2 x1) then ix x2 x0 <| gd (((lnN x3)+1)<=5864062014805) <| l0 k x0 x1 (W (x2+1)) (x3++[[(rd (0,0) x0 x2).2,(rd (0,0) x0 x2).1]]) else (qfrz.f k x3).bind fun t0 =>
 some (t0,true)) r):Ev (fun k=>l0 k x0 x1 x2 x3) r:=evl [] 0 (fun _ _ _=>by kernel_rfl) h
end qduz
namespace qgsz
abbrev P:=Int->Int->Option Bool
def f:P:=fun a0 a1=>(qhpz.f a0 0 1000000).bind fun t0 =>
 if t0 then (qhpz.f a1 1 1000).bind fun t1 =>
 some t1 else some false
theorem k {K:Nat} (h:2<=K):(fun a0 a1=>PI Cx K 217 [vi a0,vi a1]:P)=f:=by
 obtain ⟨K,rfl⟩:=zah h
 funext a0 a1
 unfold f
 rw [<- qhpz.k (dk h)]
 exact zaf Cx (by kernel_rfl)
end qgsz
namespace qebz
def f (k:Fu) (a0:List (Int×Int)) (a1 a2:Int):Option ((List Int)×Bool):=PI Cx (k 0) 158 [vl 74 (.pair i6 i6) a0,vi a1,vi a2]
def l0 (k:Fu) (x0 x1:Int) (x2:List (Int×Int)) (x3 x4:Int) (x5:List (List Int)):Option ((List Int)×Bool):=zan Cx (k 0) 158 [tt,tt,tt,ff,tt,tt] [k 1] ⟨[(1,vi x0),(2,vi x1),(8,vf 1000000008000),(20,vl 74 (.pair i6 i6) x2),(21,vi x3),(22,vi x4)],[(1000000008000,.row 44 (.sl 3 i6) x5 .own)],[]⟩
theorem v {a0:List (Int×Int)} {a1 a2:Int} {r} (h:Ev (fun k=>(qhfz.f k a0).bind fun t0 =>
 if (!t0) then some ([],false) else (qgsz.f a1 a2).bind fun t1 =>
 if (!t1) then some ([],false) else l0 k a1 a2 a0 (ln a0) 0 []) r):Ev (fun k=>f k a0 a1 a2) r:=evf (fun _ _ h=>by rw [<- qgsz.k (dl h)]; exact zaf Cx (by kernel_rfl)) h
theorem v0 {x0 x1:Int} {x2:List (Int×Int)} {x3 x4:Int} {x5:List (List Int)} {r} (h:Ev (fun k=>if (iLt x4 x3) then ix x4 x2 <| gd (((lnN x5)+1)<=5864062014805) <| l0 k x0 x1 x2 x3 (W (x4+1)) (x5++[[(W ((W ((rd (0,0) x2 x4).1*x1))+(W ((rd (0,0) x2 x4).2*x0))))]]) else (qfrz.f k x5).bind fun t0 =>
 some (t0,true)) r):Ev (fun k=>l0 k x0 x1 x2 x3 x4 x5) r:=evl [] 0 (fun _ _ _=>by kernel_rfl) h
end qebz
namespace qdpz
def f (k:Fu) (a0:Int) (a1:List (Int×Int)):Option (Int×(Int×Bool)):=PI Cx (k 0) 160 [vi a0,vl 74 (.pair i6 i6) a1]
def l0 (k:Fu) (x0 x1:Int) (x2:List (Int×Int)) (x3 x4:Int):Option (Int×(Int×Bool)):=zan Cx (k 0) 160 [tt,tt,tt,ff,tt,tt] [k 1] ⟨[(0,vi x0),(7,vi x1),(22,vl 74 (.pair i6 i6) x2),(23,vi x3),(24,vi x4)],[],[]⟩
def l1 (k:Fu) (x0 x1 x2:Int) (x3:List (Int×Int)) (x4 x5:Int):Option (Int×(Int×Bool)):=zan Cx (k 0) 160 [tt,tt,tt,ff,tt,tt,tt,tt,tt,ff,tt,tt,tt,ff,tt] [k 1,k 2] ⟨[(0,vi x0),(10,vi x1),(11,vi x2),(22,vl 74 (.pair i6 i6) x3),(23,vi x4),(24,vi x5)],[],[]⟩
theorem v {a0:Int} {a1:List (Int×Int)} {r} (h:Ev (fun k=>(qhpz.f a0 1 1000).bind fun t0 =>
 if (!t0) then some (0,(0,false)) else (qhfz.f k a1).bind fun t1 =>
 if (!t1) then some (0,(0,false)) else l0 k a0 0 a1 (ln a1) 0) r):Ev (fun k=>f k a0 a1) r:=evf (fun _ _ h=>by rw [<- qhpz.k (dl h)]; exact zaf Cx (by kernel_rfl)) h
theorem v0 {x0 x1:Int} {x2:List (Int×Int)} {x3 x4:Int} {r} (h:Ev (fun k=>if (iLt x4 x3) then ix x4 x2 <| (qhoz.f (rd (0,0) x2 x4).2).bind fun t0 =>
 l1 k x0 x1 t0 x2 x3 x4 else if (x1 == 0) then some (0,(0,false)) else (qhnz.f k x0 x1).bind fun t0 =>
 some (t0.1,(t0.2,true))) r):Ev (fun k=>l0 k x0 x1 x2 x3 x4) r:=evl [] 0 (fun _ _ h=>by rw [<- qhoz.k (dl h)]; kernel_rfl) h
theorem v1 {x0 x1 x2:Int} {x3:List (Int×Int)} {x4 x5:Int} {r} (h:Ev (fun k=>if (iGt x2 0) then if x2=0 then none else l1 k x0 x2 (Int.tmod x1 x2) x3 x4 x5 else l0 k x0 x1 x3 x4 (W (x5+1))) r):Ev (fun k=>l1 k x0 x1 x2 x3 x4 x5) r:=evl [1] 1 (fun _ _ _=>by kernel_rfl) h
end qdpz
namespace qdhz
def f (k:Fu) (a0 a1 a2 a3:Int):Option (Int×(Int×Bool)):=PI Cx (k 0) 161 [va [ci a0,ci a1,ci a2,ci a3]]
theorem v {a0 a1 a2 a3:Int} {r} (h:Ev (fun k=>(qhaz.f a0 a1 a2 a3).bind fun t0 =>
 if (!t0) then some (0,(0,false)) else (qhnz.f k a0 (W (a1+a2))).bind fun t1 =>
 some (t1.1,(t1.2,true))) r):Ev (fun k=>f k a0 a1 a2 a3) r:=evf (fun _ _ h=>by rw [<- qhaz.k (dl h)]; exact zaf Cx (by kernel_rfl)) h
end qdhz
namespace qdcz
def f (k:Fu) (a0 a1 a2 a3:Int):Option (Int×(Int×Bool)):=PI Cx (k 0) 162 [va [ci a0,ci a1,ci a2,ci a3]]
theorem v {a0 a1 a2 a3:Int} {r} (h:Ev (fun k=>(qhaz.f a0 a1 a2 a3).bind fun t0 =>
 if (!t0) then some (0,(0,false)) else (qhnz.f k (W (a0*a3)) (W (a1+a2))).bind fun t1 =>
 some (t1.1,(t1.2,true))) r):Ev (fun k=>f k a0 a1 a2 a3) r:=evf (fun _ _ h=>by rw [<- qhaz.k (dl h)]; exact zaf Cx (by kernel_rfl)) h
end qdcz
namespace qhdz
def f (k:Fu) (a0 a1 a2 a3 a4:Int):Option (List (Int×(Int×(Int×(Int×Int))))):=PI Cx (k 0) 220 [va [ci a0,ci a1,ci a2,ci a3],vi a4]
def l0 (k:Fu) (x0 x1 x2 x3 x4 x5 x6 x7 x8 x9 x10:Int) (x11:List (Int×(Int×(Int×(Int×Int))))):Option (List (Int×(Int×(Int×(Int×Int))))):=zan Cx (k 0) 220 [tt,tt,tt,ff,tt,tt] [k 1] ⟨[(1,vi x0),(2,vp 0 0),(5,vp 1003000 0),(6,vf 1000000006000),(7,vi x1)],[(0,.box 108 [ci x2,ci x3,ci x4,ci x5]),(1003000,.box 205 [ci x6,ci x7,ci x8,ci x9,ci x10]),(1000000006000,.row 205 (.pair i6 (.pair i6 (.pair i6 (.pair i6 i6)))) x11 .own)],[]⟩
theorem v {a0 a1 a2 a3 a4:Int} {r} (h:Ev (fun k=>l0 k a4 1 a0 a1 a2 a3 0 0 a0 0 1 [(0,(0,(a0,(0,1))))]) r):Ev (fun k=>f k a0 a1 a2 a3 a4) r:=evf (fun _ _ _=>zaf Cx (by kernel_rfl)) h
theorem v0 {x0 x1 x2 x3 x4 x5 x6 x7 x8 x9 x10:Int} {x11:List (Int×(Int×(Int×(Int×Int))))} {r} (h:Ev (fun k=>if (iLe x1 x0) then if ((Int.tmod x1 2) == 0) then (qgxz.f 0 (W (0-x5))).bind fun t0 =>
 gd (((lnN x11)+1)<=3518437208883) <| l0 k x0 (W (x1+1)) x2 x3 x4 x5 (W ((W (x6*(W (x5+x3))))+x8)) (W ((W (x7*(W (x5+x3))))+(W ((W (0-x5))*x8)))) (W (x8*(W ((W ((W (x5+x3))-x3))-x4)))) (W ((W (x9*(W (x5+x3))))+(W (t0*x8)))) (W (x10*(W (x5+x3)))) (x11++[((W ((W (x6*(W (x5+x3))))+x8)),((W ((W (x7*(W (x5+x3))))+(W ((W (0-x5))*x8)))),((W (x8*(W ((W ((W (x5+x3))-x3))-x4)))),((W ((W (x9*(W (x5+x3))))+(W (t0*x8)))),(W (x10*(W (x5+x3))))))))]) else (qgxz.f 0 x5).bind fun t0 =>
 gd (((lnN x11)+1)<=3518437208883) <| l0 k x0 (W (x1+1)) x2 x3 x4 x5 (W ((W (x6*(W (x5+x4))))+x8)) (W ((W (x7*(W (x5+x4))))+(W (x5*x8)))) (W (x8*(W ((W ((W (x5+x4))-x3))-x4)))) (W ((W (x9*(W (x5+x4))))+(W (t0*x8)))) (W (x10*(W (x5+x4)))) (x11++[((W ((W (x6*(W (x5+x4))))+x8)),((W ((W (x7*(W (x5+x4))))+(W (x5*x8)))),((W (x8*(W ((W ((W (x5+x4))-x3))-x4)))),((W ((W (x9*(W (x5+x4))))+(W (t0*x8)))),(W (x10*(W (x5+x4))))))))]) else some x11) r):Ev (fun k=>l0 k x0 x1 x2 x3 x4 x5 x6 x7 x8 x9 x10 x11) r:=evl [] 0 (fun _ _ h=>by rw [<- qgxz.k (dl h)]; kernel_rfl) h
end qhdz
namespace qbqz
def f (k:Fu) (a0 a1 a2 a3 a4:Int):Option (Int×(Int×Bool)):=PI Cx (k 0) 163 [va [ci a0,ci a1,ci a2,ci a3],vi a4]
theorem v {a0 a1 a2 a3 a4:Int} {r} (h:Ev (fun k=>(qhaz.f a0 a1 a2 a3).bind fun t0 =>
 if (!t0) then some (0,(0,false)) else (qhpz.f a4 1 6).bind fun t1 =>
 if (!t1) then some (0,(0,false)) else (qhdz.f k a0 a1 a2 a3 a4).bind fun t2 =>
 ix a4 t2 <| (qhnz.f k (rd (0,(0,(0,(0,0)))) t2 a4).2.2.1 (rd (0,(0,(0,(0,0)))) t2 a4).2.2.2.2).bind fun t3 =>
 some (t3.1,(t3.2,true))) r):Ev (fun k=>f k a0 a1 a2 a3 a4) r:=evf (fun _ _ h=>by rw [<- qhaz.k (dl h),<- qhpz.k (dl h)]; exact zaf Cx (by kernel_rfl)) h
end qbqz
namespace qgqz
def f (k:Fu) (a0:List (Int×Int)):Option (Int×Int):=PI Cx (k 0) 221 [vl 88 (.pair i6 i6) a0]
def l0 (k:Fu) (x0 x1:Int) (x2:List (Int×Int)) (x3 x4:Int):Option (Int×Int):=zan Cx (k 0) 221 [tt,tt,ff,tt,tt] [k 1] ⟨[(4,vi x0),(5,vi x1),(8,vl 88 (.pair i6 i6) x2),(9,vi x3),(10,vi x4)],[],[]⟩
theorem v {a0:List (Int×Int)} {r} (h:Ev (fun k=>l0 k 0 1 a0 (ln a0) 0) r):Ev (fun k=>f k a0) r:=evf (fun _ _ _=>zaf Cx (by kernel_rfl)) h
theorem v0 {x0 x1:Int} {x2:List (Int×Int)} {x3 x4:Int} {r} (h:Ev (fun k=>if (iLt x4 x3) then ix x4 x2 <| (qhnz.f k (W ((W (x0*(rd (0,0) x2 x4).2))+(W ((rd (0,0) x2 x4).1*x1)))) (W (x1*(rd (0,0) x2 x4).2))).bind fun t0 =>
 l0 k t0.1 t0.2 x2 x3 (W (x4+1)) else some (x0,x1)) r):Ev (fun k=>l0 k x0 x1 x2 x3 x4) r:=evl [] 0 (fun _ _ _=>by kernel_rfl) h
end qgqz
namespace qgmz
def f (k:Fu) (a0:List (Int×Int)):Option Int:=PI Cx (k 0) 222 [vl 88 (.pair i6 i6) a0]
def l0 (k:Fu) (x0:Int) (x1:List (Int×Int)) (x2 x3:Int):Option Int:=zan Cx (k 0) 222 [tt,tt,ff,tt,tt] [k 1] ⟨[(3,vi x0),(6,vl 88 (.pair i6 i6) x1),(7,vi x2),(8,vi x3)],[],[]⟩
theorem v {a0:List (Int×Int)} {r} (h:Ev (fun k=>l0 k 0 a0 (ln a0) 0) r):Ev (fun k=>f k a0) r:=evf (fun _ _ _=>zaf Cx (by kernel_rfl)) h
theorem v0 {x0:Int} {x1:List (Int×Int)} {x2 x3:Int} {r} (h:Ev (fun k=>if (iLt x3 x2) then ix x3 x1 <| l0 k (W (x0+(rd (0,0) x1 x3).1)) x1 x2 (W (x3+1)) else some x0) r):Ev (fun k=>l0 k x0 x1 x2 x3) r:=evl [] 0 (fun _ _ _=>by kernel_rfl) h
end qgmz
namespace qedz
def f (k:Fu) (a0:List (Int×Int)):Option (Int×(Int×Bool)):=PI Cx (k 0) 164 [vl 88 (.pair i6 i6) a0]
theorem v {a0:List (Int×Int)} {r} (h:Ev (fun k=>(qfzz.f k a0).bind fun t0 =>
 if (!t0) then some (0,(0,false)) else (qgqz.f k a0).bind fun t1 =>
 (qgmz.f k a0).bind fun t2 =>
 (qhnz.f k (W (t2*t1.2)) t1.1).bind fun t3 =>
 some (t3.1,(t3.2,true))) r):Ev (fun k=>f k a0) r:=evf (fun _ _ _=>zaf Cx (by kernel_rfl)) h
end qedz
namespace qdiz
def f (k:Fu) (a0:List (Int×Int)):Option (Int×(Int×Bool)):=PI Cx (k 0) 165 [vl 88 (.pair i6 i6) a0]
theorem v {a0:List (Int×Int)} {r} (h:Ev (fun k=>(qfzz.f k a0).bind fun t0 =>
 if (!t0) then some (0,(0,false)) else (qgqz.f k a0).bind fun t1 =>
 some (t1.1,(t1.2,true))) r):Ev (fun k=>f k a0) r:=evf (fun _ _ _=>zaf Cx (by kernel_rfl)) h
end qdiz
namespace qcxz
def f (k:Fu) (a0:List (Int×Int)) (a1 a2:Int):Option (Int×(Int×Bool)):=PI Cx (k 0) 166 [vl 88 (.pair i6 i6) a0,vi a1,vi a2]
theorem v {a0:List (Int×Int)} {a1 a2:Int} {r} (h:Ev (fun k=>(qfzz.f k a0).bind fun t0 =>
 if (!t0) then some (0,(0,false)) else (qhpz.f a1 1 1000).bind fun t1 =>
 if (!t1) then some (0,(0,false)) else (qhpz.f a2 1 100).bind fun t2 =>
 if (!t2) then some (0,(0,false)) else (qgqz.f k a0).bind fun t3 =>
 (qgmz.f k a0).bind fun t4 =>
 if (iLe (W ((W ((W (t4+a1))*t3.2))-(W (t3.1*a2)))) 0) then some (0,(0,false)) else (qhnz.f k (W ((W (a1*a2))*t3.2)) (W ((W ((W (t4+a1))*t3.2))-(W (t3.1*a2))))).bind fun t5 =>
 some (t5.1,(t5.2,true))) r):Ev (fun k=>f k a0 a1 a2) r:=evf (fun _ _ h=>by rw [<- qhpz.k (dl h)]; exact zaf Cx (by kernel_rfl)) h
end qcxz
namespace qfjz
abbrev P:=Int->Int->Option Int
def f:P:=fun a0 a1=>if (iLt a0 a1) then some a0 else some a1
theorem k {K:Nat} (h:1<=K):(fun a0 a1=>PI Cx K 223 [vi a0,vi a1]:P)=f:=by
 obtain ⟨K,rfl⟩:=zah h
 funext a0 a1
 exact zaf Cx (by kernel_rfl)
end qfjz
namespace qcdz
def f (k:Fu) (a0:List (Int×Int)):Option ((List (List Int))×Bool):=PI Cx (k 0) 168 [vl 155 (.pair i6 i6) a0]
def l0 (k:Fu) (x0 x1:List (Int×Int)) (x2 x3:Int) (x4:List (List Int)):Option ((List (List Int))×Bool):=zan Cx (k 0) 168 [tt,tt,tt,ff,tt,tt] [k 1] ⟨[(0,vl 155 (.pair i6 i6) x0),(4,vf 1000000004000),(12,vl 155 (.pair i6 i6) x1),(13,vi x2),(14,vi x3)],[(1000000004000,.row 44 (.sl 3 i6) x4 .own)],[]⟩
def l1 (k:Fu) (x0:List (Int×Int)) (x1 x2:Int) (x3:List (Int×Int)) (x4 x5:Int) (x6:List (List Int)) (x7 x8:Int):Option ((List (List Int))×Bool):=zan Cx (k 0) 168 [tt,tt,tt,ff,tt,tt,tt,tt,tt,ff,tt,tt,tt,tt] [k 1,k 2] ⟨[(0,vl 155 (.pair i6 i6) x0),(4,vf 1000000004000),(5,vi x1),(6,vp 6003000 0),(7,vi x2),(12,vl 155 (.pair i6 i6) x3),(13,vi x4),(14,vi x5)],[(1000000004000,.row 44 (.sl 3 i6) x6 .own),(6003000,.box 155 [ci x7,ci x8])],[]⟩
theorem v {a0:List (Int×Int)} {r} (h:Ev (fun k=>(qgez.f k a0).bind fun t0 =>
 if (!t0) then some ([],false) else l0 k a0 a0 (ln a0) 0 []) r):Ev (fun k=>f k a0) r:=evf (fun _ _ _=>zaf Cx (by kernel_rfl)) h
theorem v0 {x0 x1:List (Int×Int)} {x2 x3:Int} {x4:List (List Int)} {r} (h:Ev (fun k=>if (iLt x3 x2) then ix x3 x1 <| l1 k x0 x3 (W (x3+1)) x1 x2 x3 x4 (rd (0,0) x1 x3).1 (rd (0,0) x1 x3).2 else some (x4,true)) r):Ev (fun k=>l0 k x0 x1 x2 x3 x4) r:=evl [] 0 (fun _ _ _=>by kernel_rfl) h
theorem v1 {x0:List (Int×Int)} {x1 x2:Int} {x3:List (Int×Int)} {x4 x5:Int} {x6:List (List Int)} {x7 x8:Int} {r} (h:Ev (fun k=>if (iLt x2 (ln x0)) then ix x2 x0 <| (qgxz.f x7 (rd (0,0) x0 x2).1).bind fun t0 =>
 (qfjz.f (W (x7+x8)) (W ((rd (0,0) x0 x2).1+(rd (0,0) x0 x2).2))).bind fun t1 =>
 if (iLe t0 t1) then gd (((lnN x6)+1)<=5864062014805) <| l1 k x0 x1 (W (x2+1)) x3 x4 x5 (x6++[[x1,x2]]) x7 x8 else l1 k x0 x1 (W (x2+1)) x3 x4 x5 x6 x7 x8 else l0 k x0 x3 x4 (W (x5+1)) x6) r):Ev (fun k=>l1 k x0 x1 x2 x3 x4 x5 x6 x7 x8) r:=evl [1] 1 (fun _ _ h=>by rw [<- qgxz.k (dl h),<- qfjz.k (dl h)]; kernel_rfl) h
end qcdz
namespace qguz
def f (k:Fu) (a0:List (List Int)) (a1:Bool):Option BA:=PI Cx (k 0) 167 [vl 44 (.sl 3 i6) a0,vb a1]
def l0 (k:Fu) (x0:BA) (x1:List (List Int)) (x2 x3:Int):Option BA:=zan Cx (k 0) 167 [tt,tt,tt,tt,ff,tt,tt] [k 1] ⟨[(5,vs x0),(13,vl 44 (.sl 3 i6) x1),(14,vi x2),(15,vi x3)],[],[]⟩
theorem v {a0:List (List Int)} {a1:Bool} {r} (h:Ev (fun k=>if (!a1) then some (bs [110,111]) else if ((ln a0) == 0) then some (bs [45]) else l0 k (bs []) a0 (ln a0) 0) r):Ev (fun k=>f k a0 a1) r:=evf (fun _ _ _=>zaf Cx (by kernel_rfl)) h
theorem v0 {x0:BA} {x1:List (List Int)} {x2 x3:Int} {r} (h:Ev (fun k=>if (iLt x3 x2) then ix x3 x1 <| if (iGt x3 0) then gd (((ByteArray.size x0)+1)<=maxLen) <| (qgvz.f k (rd [] x1 x3) true).bind fun t0 =>
 gd (((ByteArray.size (x0++(bs [32])))+(ByteArray.size t0))<=maxLen) <| l0 k ((x0++(bs [32]))++t0) x1 x2 (W (x3+1)) else (qgvz.f k (rd [] x1 x3) true).bind fun t0 =>
 gd (((ByteArray.size x0)+(ByteArray.size t0))<=maxLen) <| l0 k (x0++t0) x1 x2 (W (x3+1)) else some x0) r):Ev (fun k=>l0 k x0 x1 x2 x3) r:=evl [] 0 (fun _ _ _=>by kernel_rfl) h
end qguz
namespace qfkz
def f (k:Fu) (a0:List (Int×Int)) (a1:Int):Option (List Int):=PI Cx (k 0) 224 [vl 155 (.pair i6 i6) a0,vi a1]
def l0 (k:Fu) (x0:Int) (x1:List (Int×Int)) (x2 x3:Int) (x4:List Int):Option (List Int):=zan Cx (k 0) 224 [tt,tt,ff,tt,tt] [k 1] ⟨[(1,vi x0),(5,vf 1000000005000),(8,vl 155 (.pair i6 i6) x1),(9,vi x2),(10,vi x3)],[(1000000005000,.row 3 i6 x4 .own)],[]⟩
theorem v {a0:List (Int×Int)} {a1:Int} {r} (h:Ev (fun k=>l0 k a1 a0 (ln a0) 0 []) r):Ev (fun k=>f k a0 a1) r:=evf (fun _ _ _=>zaf Cx (by kernel_rfl)) h
theorem v0 {x0:Int} {x1:List (Int×Int)} {x2 x3:Int} {x4:List Int} {r} (h:Ev (fun k=>if (iLt x3 x2) then ix x3 x1 <| (qhpz.f x0 (rd (0,0) x1 x3).1 (W ((rd (0,0) x1 x3).1+(rd (0,0) x1 x3).2))).bind fun t0 =>
 if t0 then gd (((lnN x4)+1)<=17592186044416) <| l0 k x0 x1 x2 (W (x3+1)) (x4++[x3]) else l0 k x0 x1 x2 (W (x3+1)) x4 else some x4) r):Ev (fun k=>l0 k x0 x1 x2 x3 x4) r:=evl [] 0 (fun _ _ h=>by rw [<- qhpz.k (dl h)]; kernel_rfl) h
end qfkz
namespace qcfz
def f (k:Fu) (a0:List (Int×Int)):Option ((List Int)×Bool):=PI Cx (k 0) 169 [vl 155 (.pair i6 i6) a0]
def l0 (k:Fu) (x0:List (Int×Int)) (x1:List Int) (x2:List Bool):Option ((List Int)×Bool):=zan Cx (k 0) 169 [tt,tt,tt,tt,tt] [k 1] ⟨[(0,vl 155 (.pair i6 i6) x0),(4,vf 1000000004000),(5,vf 1000000005000)],[(1000000004000,.row 3 i6 x1 .own),(1000000005000,.row 4 .bool x2 .own)],[]⟩
def l1 (k:Fu) (x0:List (Int×Int)) (x1:Int) (x2:List (Int×Int)) (x3 x4:Int) (x5:List Int) (x6:List Bool):Option ((List Int)×Bool):=zan Cx (k 0) 169 [tt,tt,tt,tt,tt,tt,tt,tt,ff,tt,tt] [k 1,k 2] ⟨[(0,vl 155 (.pair i6 i6) x0),(4,vf 1000000004000),(5,vf 1000000005000),(6,vi x1),(17,vl 155 (.pair i6 i6) x2),(18,vi x3),(19,vi x4)],[(1000000004000,.row 3 i6 x5 .own),(1000000005000,.row 4 .bool x6 .own)],[]⟩
def l2 (k:Fu) (x0:List (Int×Int)) (x1:List Int) (x2 x3:Int) (x4:List Int) (x5:List Bool):Option ((List Int)×Bool):=zan Cx (k 0) 169 [tt,tt,tt,tt,tt,tt,tt,tt,tt,tt,tt,tt,tt] [k 1,k 3] ⟨[(0,vl 155 (.pair i6 i6) x0),(4,vf 1000000004000),(5,vf 1000000005000),(57,vl 3 i6 x1),(58,vi x2),(59,vi x3)],[(1000000004000,.row 3 i6 x4 .own),(1000000005000,.row 4 .bool x5 .own)],[]⟩
theorem v {a0:List (Int×Int)} {r} (h:Ev (fun k=>(qgez.f k a0).bind fun t0 =>
 if (!t0) then some ([],false) else gd (0<=(ln a0)) <| gd ((ln a0)<=(ln a0)) <| gd (((ln a0)*1)<=140737488355328) <| l0 k a0 [] (List.replicate (Int.toNat (ln a0)) false)) r):Ev (fun k=>f k a0) r:=evf (fun _ _ _=>zaf Cx (by kernel_rfl)) h
theorem v0 {x0:List (Int×Int)} {x1:List Int} {x2:List Bool} {r} (h:Ev (fun k=>l1 k x0 (-1) x0 (ln x0) 0 x1 x2) r):Ev (fun k=>l0 k x0 x1 x2) r:=evl [] 0 (fun _ _ _=>by kernel_rfl) h
theorem v1 {x0:List (Int×Int)} {x1:Int} {x2:List (Int×Int)} {x3 x4:Int} {x5:List Int} {x6:List Bool} {r} (h:Ev (fun k=>if (iLt x4 x3) then ix x4 x2 <| ix x4 x6 <| if (!(rd false x6 x4)) then if (iLt x1 0) then l1 k x0 (W ((rd (0,0) x2 x4).1+(rd (0,0) x2 x4).2)) x2 x3 (W (x4+1)) x5 x6 else if (iLt (W ((rd (0,0) x2 x4).1+(rd (0,0) x2 x4).2)) x1) then l1 k x0 (W ((rd (0,0) x2 x4).1+(rd (0,0) x2 x4).2)) x2 x3 (W (x4+1)) x5 x6 else l1 k x0 x1 x2 x3 (W (x4+1)) x5 x6 else l1 k x0 x1 x2 x3 (W (x4+1)) x5 x6 else if (iLt x1 0) then some (x5,true) else gd (((lnN x5)+1)<=17592186044416) <| (qfkz.f k x0 x1).bind fun t0 =>
 l2 k x0 t0 (ln t0) 0 (x5++[x1]) x6) r):Ev (fun k=>l1 k x0 x1 x2 x3 x4 x5 x6) r:=evl [1] 1 (fun _ _ _=>by kernel_rfl) h
theorem v2 {x0:List (Int×Int)} {x1:List Int} {x2 x3:Int} {x4:List Int} {x5:List Bool} {r} (h:Ev (fun k=>if (iLt x3 x2) then ix x3 x1 <| ix (rd 0 x1 x3) x5 <| l2 k x0 x1 x2 (W (x3+1)) x4 (List.set x5 (Int.toNat (rd 0 x1 x3)) true) else l0 k x0 x4 x5) r):Ev (fun k=>l2 k x0 x1 x2 x3 x4 x5) r:=evl [1] 2 (fun _ _ _=>by kernel_rfl) h
end qcfz
namespace qeiz
abbrev P:=Int->Int->Int->Option Bool
def f:P:=fun a0 a1 a2=>(qhpz.f a0 1 200).bind fun t0 =>
 if t0 then (qhpz.f a1 0 200).bind fun t1 =>
 if t1 then (qhpz.f a2 0 200).bind fun t2 =>
 some t2 else some false else some false
theorem k {K:Nat} (h:2<=K):(fun a0 a1 a2=>PI Cx K 225 [vi a0,vi a1,vi a2]:P)=f:=by
 obtain ⟨K,rfl⟩:=zah h
 funext a0 a1 a2
 unfold f
 rw [<- qhpz.k (dk h)]
 exact zaf Cx (by kernel_rfl)
end qeiz
namespace qdjz
def f (k:Fu) (a0 a1 a2:Int):Option Int:=PI Cx (k 0) 226 [vi a0,vi a1,vi a2]
def l0 (k:Fu) (x0 x1 x2 x3 x4:Int):Option Int:=zan Cx (k 0) 226 [tt,tt,ff,tt,tt] [k 1] ⟨[(0,vi x0),(1,vi x1),(2,vi x2),(7,vi x3),(8,vi x4)],[],[]⟩
def l1 (k:Fu) (x0 x1 x2 x3 x4 x5:Int):Option Int:=zan Cx (k 0) 226 [tt,tt,ff,tt,tt,tt,tt,ff,tt,tt,tt] [k 1,k 2] ⟨[(0,vi x0),(1,vi x1),(2,vi x2),(7,vi x3),(8,vi x4),(9,vi x5)],[],[]⟩
theorem v {a0 a1 a2:Int} {r} (h:Ev (fun k=>l0 k a0 a1 a2 0 0) r):Ev (fun k=>f k a0 a1 a2) r:=evf (fun _ _ _=>zaf Cx (by kernel_rfl)) h
theorem v0 {x0 x1 x2 x3 x4:Int} {r} (h:Ev (fun k=>if (iLt x4 x0) then l1 k x0 x1 x2 x3 x4 0 else some x3) r):Ev (fun k=>l0 k x0 x1 x2 x3 x4) r:=evl [] 0 (fun _ _ _=>by kernel_rfl) h
theorem v1 {x0 x1 x2 x3 x4 x5:Int} {r} (h:Ev (fun k=>if (iLt x5 x0) then if (iLe (W (x5-x4)) x1) then if (iLe (W (x4-x5)) x2) then l1 k x0 x1 x2 (W (x3+1)) x4 (W (x5+1)) else l1 k x0 x1 x2 x3 x4 (W (x5+1)) else l1 k x0 x1 x2 x3 x4 (W (x5+1)) else l0 k x0 x1 x2 x3 (W (x4+1))) r):Ev (fun k=>l1 k x0 x1 x2 x3 x4 x5) r:=evl [1] 1 (fun _ _ _=>by kernel_rfl) h
end qdjz
namespace qbpz
def f (k:Fu) (a0 a1 a2:Int):Option (Int×(Int×Bool)):=PI Cx (k 0) 170 [vi a0,vi a1,vi a2]
theorem v {a0 a1 a2:Int} {r} (h:Ev (fun k=>(qeiz.f a0 a1 a2).bind fun t0 =>
 if (!t0) then some (0,(0,false)) else (qdjz.f k a0 a1 a2).bind fun t1 =>
 (qhnz.f k t1 (W (a0*a0))).bind fun t2 =>
 some (t2.1,(t2.2,true))) r):Ev (fun k=>f k a0 a1 a2) r:=evf (fun _ _ h=>by rw [<- qeiz.k (dl h)]; exact zaf Cx (by kernel_rfl)) h
end qbpz
end
end Go.Proofs.YtdhkgmhdengnkaaGreatDoor.Rs
