/- What functions of the program compute. -/
import Derived.Test.YtdhkgmhdengnkaaGreatDoorLiC
namespace Go.Proofs.YtdhkgmhdengnkaaGreatDoor.Li
open Go Go.Proofs.YtdhkgmhdengnkaaGreatDoorPi Go.RowKit
set_option maxRecDepth 100000
set_option linter.unusedVariables false
noncomputable section
namespace qffz
abbrev P:=BA->BA->Option (List BA)
def f:P:=fun a0 a1=>zmk a0 a1
theorem k {K:Nat} (h:1<=K):(fun a0 a1=>PI Cx K 92 [vs a0,vs a1]:P)=f:=by
 obtain ⟨K,rfl⟩:=zae h
 funext a0 a1
 exact zac Cx (by kernel_rfl)
end qffz
namespace qfmz
abbrev P:=BA->Option (BA×Bool)
def f:P:=fun a0=>if (seq a0 (bs [119,97,108,107,101,114,115])) then some ((bs [87]),true) else if (seq a0 (bs [97,100,100])) then some ((bs [87]),true) else if (seq a0 (bs [114,105,110,103])) then some ((bs [78]),true) else if (seq a0 (bs [116,117,114,110])) then some ((bs [78]),true) else if (seq a0 (bs [100,114,111,112])) then some ((bs [78]),true) else if (seq a0 (bs [97,116])) then some ((bs [78]),true) else if (seq a0 (bs [115,104,111,119])) then some ((bs []),true) else if (seq a0 (bs [112,97,105,114,115])) then some ((bs []),true) else if (seq a0 (bs [102,105,114,115,116])) then some ((bs []),true) else if (seq a0 (bs [108,101,97,100])) then some ((bs []),true) else if (seq a0 (bs [108,97,115,116])) then some ((bs []),true) else if (seq a0 (bs [115,116,97,114,116])) then some ((bs []),true) else if (seq a0 (bs [109,101,101,116])) then some ((bs [78,78]),true) else if (seq a0 (bs [119,104,101,114,101])) then some ((bs [78,78]),true) else if (seq a0 (bs [97,114,111,117,110,100])) then some ((bs [78,78]),true) else if (seq a0 (bs [103,97,112])) then some ((bs [78,78]),true) else if (seq a0 (bs [112,108,97,99,101,115])) then some ((bs [78,78]),true) else if (seq a0 (bs [100,111,103])) then some ((bs [67]),true) else if (seq a0 (bs [114,117,110])) then some ((bs [67]),true) else if (seq a0 (bs [97,112,97,114,116])) then some ((bs [67,78]),true) else if (seq a0 (bs [109,101,97,110])) then some ((bs [76]),true) else if (seq a0 (bs [116,105,109,101])) then some ((bs [76]),true) else if (seq a0 (bs [110,101,101,100])) then some ((bs [76,78,78]),true) else if (seq a0 (bs [118,105,115,105,116,115])) then some ((bs [86]),true) else if (seq a0 (bs [103,117,105,100,101,115])) then some ((bs [86]),true) else if (seq a0 (bs [99,104,97,110,99,101])) then some ((bs [78,78,78]),true) else some ((bs []),false)
theorem k {K:Nat} (h:1<=K):(fun a0=>PI Cx K 93 [vs a0]:P)=f:=by
 obtain ⟨K,rfl⟩:=zae h
 funext a0
 exact zac Cx (by kernel_rfl)
end qfmz
namespace qedz
abbrev P:=BA->Option (Int×Bool)
def f:P:=fun a0=>zd6 a0
theorem k {K:Nat} (h:1<=K):(fun a0=>PI Cx K 138 [vs a0]:P)=f:=by
 obtain ⟨K,rfl⟩:=zae h
 funext a0
 exact zac Cx (by kernel_rfl)
end qedz
namespace qcvz
def f (k:Fu) (a0 a1:BA):Option ((List Int)×Bool):=PI Cx (k 0) 190 [vs a0,vs a1]
def l0 (k:Fu) (x0:List BA) (x1 x2:Int) (x3:List Int):Option ((List Int)×Bool):=zap Cx (k 0) 190 [tt,tt,ff,tt,tt] [k 1] ⟨[(6,vf 1000000006000),(13,vl 9 .str x0),(14,vi x1),(15,vi x2)],[(1000000006000,.row 3 i6 x3 .own)],[]⟩
theorem v {a0 a1:BA} {r} (h:Ev (fun k=>(qffz.f a0 a1).bind fun t0 =>
 l0 k t0 (ln t0) 0 []) r):Ev (fun k=>f k a0 a1) r:=evf (fun _ _ h=>by rw [<- qffz.k (dl h)]; exact zac Cx (by kernel_rfl)) h
theorem v0 {x0:List BA} {x1 x2:Int} {x3:List Int} {r} (h:Ev (fun k=>if (iLt x2 x1) then ix x2 x0 <| (qedz.f (rd (bs []) x0 x2)).bind fun t0 =>
 if (!t0.2) then some ([],false) else gd (((lnN x3)+1)<=17592186044416) <| l0 k x0 x1 (W (x2+1)) (x3++[t0.1]) else some (x3,true)) r):Ev (fun k=>l0 k x0 x1 x2 x3) r:=evl [] 0 (fun _ _ h=>by rw [<- qedz.k (dl h)]; kernel_rfl) h
end qcvz
namespace qgoz
abbrev P:=Int->Int->Int->Option Bool
def f:P:=fun a0 a1 a2=>if (iGe a0 a1) then some (iLe a0 a2) else some false
theorem k {K:Nat} (h:1<=K):(fun a0 a1 a2=>PI Cx K 101 [vi a0,vi a1,vi a2]:P)=f:=by
 obtain ⟨K,rfl⟩:=zae h
 funext a0 a1 a2
 exact zac Cx (by kernel_rfl)
end qgoz
namespace qfdz
abbrev P:=Int->Int->Option Bool
def f:P:=fun a0 a1=>(qgoz.f a0 (-1000) 1000).bind fun t0 =>
 if t0 then (qgoz.f a1 (-100) 100).bind fun t1 =>
 some t1 else some false
theorem k {K:Nat} (h:2<=K):(fun a0 a1=>PI Cx K 104 [va [ci a0,ci a1]]:P)=f:=by
 obtain ⟨K,rfl⟩:=zae h
 funext a0 a1
 unfold f
 rw [<- qgoz.k (dk h)]
 exact zac Cx (by kernel_rfl)
end qfdz
namespace qcnz
abbrev P:=Int->Int->Option Bool
def f:P:=fun a0 a1=>(qfdz.f a0 a1).bind fun t0 =>
 some (!t0)
theorem k {K:Nat} (h:3<=K):(fun a0 a1=>PI Cx K 103 [va [ci a0,ci a1]]:P)=f:=by
 obtain ⟨K,rfl⟩:=zae h
 funext a0 a1
 unfold f
 rw [<- qfdz.k (dk h)]
 exact zac Cx (by kernel_rfl)
end qcnz
namespace qafz
def f (k:Fu) (a0:List (Int×Int)):Option Int:=PI Cx (k 0) 171 [vl 74 (.pair i6 i6) a0,.sv (.one (.fn 103 []))]
def l0 (k:Fu) (x0:List (Int×Int)) (x1 x2:Int):Option Int:=zap Cx (k 0) 171 [tt,ff,tt,tt] [k 1] ⟨[(0,vl 74 (.pair i6 i6) x0),(1,.sv (.one (.fn 103 []))),(7,vi x1),(8,vi x2)],[],[]⟩
theorem v {a0:List (Int×Int)} {r} (h:Ev (fun k=>l0 k a0 (ln a0) 0) r):Ev (fun k=>f k a0) r:=evf (fun _ _ _=>zac Cx (by kernel_rfl)) h
theorem v0 {x0:List (Int×Int)} {x1 x2:Int} {r} (h:Ev (fun k=>if (iLt x2 x1) then ix x2 x0 <| (qcnz.f (rd (0,0) x0 x2).1 (rd (0,0) x0 x2).2).bind fun t0 =>
 if t0 then some x2 else l0 k x0 x1 (W (x2+1)) else some (-1)) r):Ev (fun k=>l0 k x0 x1 x2) r:=evl [] 0 (fun _ _ h=>by rw [<- qcnz.k (dl h)]; kernel_rfl) h
end qafz
namespace qabz
def f (k:Fu) (a0:List (Int×Int)):Option Bool:=PI Cx (k 0) 102 [vl 74 (.pair i6 i6) a0,.sv (.one (.fn 103 []))]
theorem v {a0:List (Int×Int)} {r} (h:Ev (fun k=>(qafz.f k a0).bind fun t0 =>
 some (iGe t0 0)) r):Ev (fun k=>f k a0) r:=evf (fun _ _ _=>zac Cx (by kernel_rfl)) h
end qabz
namespace qdrz
def f (k:Fu) (a0:List (Int×Int)):Option Bool:=PI Cx (k 0) 54 [vl 74 (.pair i6 i6) a0]
theorem v {a0:List (Int×Int)} {r} (h:Ev (fun k=>(qgoz.f (ln a0) 1 8).bind fun t0 =>
 if t0 then (qabz.f k a0).bind fun t1 =>
 some (!t1) else some false) r):Ev (fun k=>f k a0) r:=evf (fun _ _ h=>by rw [<- qgoz.k (dl h)]; exact zac Cx (by kernel_rfl)) h
end qdrz
namespace qcbz
def f (k:Fu) (a0:BA):Option ((List (Int×Int))×Bool):=PI Cx (k 0) 134 [vs a0]
def l0 (k:Fu) (x0:List BA) (x1 x2:Int) (x3:List (Int×Int)):Option ((List (Int×Int))×Bool):=zap Cx (k 0) 134 [tt,tt,ff,tt,tt] [k 1] ⟨[(4,vf 1000000004000),(10,vl 9 .str x0),(11,vi x1),(12,vi x2)],[(1000000004000,.row 74 (.pair i6 i6) x3 .own)],[]⟩
theorem v {a0:BA} {r} (h:Ev (fun k=>(qffz.f a0 (bs [44])).bind fun t0 =>
 l0 k t0 (ln t0) 0 []) r):Ev (fun k=>f k a0) r:=evf (fun _ _ h=>by rw [<- qffz.k (dl h)]; exact zac Cx (by kernel_rfl)) h
theorem v0 {x0:List BA} {x1 x2:Int} {x3:List (Int×Int)} {r} (h:Ev (fun k=>if (iLt x2 x1) then ix x2 x0 <| (qcvz.f k (rd (bs []) x0 x2) (bs [58])).bind fun t0 =>
 if (!t0.2) then some ([],false) else if ((ln t0.1) != 2) then some ([],false) else gd (0 < (ln t0.1)) <| gd (1 < (ln t0.1)) <| gd (((lnN x3)+1)<=8796093022208) <| l0 k x0 x1 (W (x2+1)) (x3++[((rd 0 t0.1 0),(rd 0 t0.1 1))]) else (qdrz.f k x3).bind fun t0 =>
 if (!t0) then some ([],false) else some (x3,true)) r):Ev (fun k=>l0 k x0 x1 x2 x3) r:=evl [] 0 (fun _ _ _=>by kernel_rfl) h
end qcbz
namespace qfzz
abbrev P:=Int->Int->Int->Int->Option Bool
def f:P:=fun a0 a1 a2 a3=>(qgoz.f a0 1 1000).bind fun t0 =>
 if t0 then (qgoz.f a1 0 20).bind fun t1 =>
 if t1 then (qgoz.f a2 0 20).bind fun t2 =>
 if t2 then if (iGt (W (a1+a2)) 0) then if (iGt a3 (mx a1 a2)) then some (iLe a3 20) else some false else some false else some false else some false else some false
theorem k {K:Nat} (h:2<=K):(fun a0 a1 a2 a3=>PI Cx K 191 [va [ci a0,ci a1,ci a2,ci a3]]:P)=f:=by
 obtain ⟨K,rfl⟩:=zae h
 funext a0 a1 a2 a3
 unfold f
 rw [<- qgoz.k (dk h)]
 exact zac Cx (by kernel_rfl)
end qfzz
namespace qefz
def f (k:Fu) (a0:BA):Option ((Int×(Int×(Int×Int)))×Bool):=PI Cx (k 0) 135 [vs a0]
theorem v {a0:BA} {r} (h:Ev (fun k=>(qcvz.f k a0 (bs [45])).bind fun t0 =>
 if (!t0.2) then some ((0,(0,(0,0))),false) else if ((ln t0.1) != 4) then some ((0,(0,(0,0))),false) else gd (0 < (ln t0.1)) <| gd (1 < (ln t0.1)) <| gd (2 < (ln t0.1)) <| gd (3 < (ln t0.1)) <| (qfzz.f (rd 0 t0.1 0) (rd 0 t0.1 1) (rd 0 t0.1 2) (rd 0 t0.1 3)).bind fun t1 =>
 if (!t1) then some ((0,(0,(0,0))),false) else gd (0 < (ln t0.1)) <| gd (1 < (ln t0.1)) <| gd (2 < (ln t0.1)) <| gd (3 < (ln t0.1)) <| some (((rd 0 t0.1 0),((rd 0 t0.1 1),((rd 0 t0.1 2),(rd 0 t0.1 3)))),true)) r):Ev (fun k=>f k a0) r:=evf (fun _ _ h=>by rw [<- qfzz.k (dl h)]; exact zac Cx (by kernel_rfl)) h
end qefz
namespace qhdz
abbrev P:=Int->Option Bool
def f:P:=fun a0=>(qgoz.f a0 1 1000).bind fun t0 =>
 some t0
theorem k {K:Nat} (h:2<=K):(fun a0=>PI Cx K 182 [vi a0]:P)=f:=by
 obtain ⟨K,rfl⟩:=zae h
 funext a0
 unfold f
 rw [<- qgoz.k (dk h)]
 exact zac Cx (by kernel_rfl)
end qhdz
namespace qhuz
abbrev P:=Int->Option Bool
def f:P:=fun a0=>(qgoz.f a0 1 100).bind fun t0 =>
 some t0
theorem k {K:Nat} (h:2<=K):(fun a0=>PI Cx K 183 [vi a0]:P)=f:=by
 obtain ⟨K,rfl⟩:=zae h
 funext a0
 unfold f
 rw [<- qgoz.k (dk h)]
 exact zac Cx (by kernel_rfl)
end qhuz
namespace qepz
abbrev P:=Int->Int->Option Bool
def f:P:=fun a0 a1=>(qhdz.f a0).bind fun t0 =>
 if (!t0) then some true else (qhuz.f a1).bind fun t1 =>
 some (!t1)
theorem k {K:Nat} (h:3<=K):(fun a0 a1=>PI Cx K 181 [va [ci a0,ci a1]]:P)=f:=by
 obtain ⟨K,rfl⟩:=zae h
 funext a0 a1
 unfold f
 rw [<- qhdz.k (dk h),<- qhuz.k (dk h)]
 exact zac Cx (by kernel_rfl)
end qepz
namespace qavz
def f (k:Fu) (a0:List (Int×Int)):Option Int:=PI Cx (k 0) 232 [vl 88 (.pair i6 i6) a0,.sv (.one (.fn 181 []))]
def l0 (k:Fu) (x0:List (Int×Int)) (x1 x2:Int):Option Int:=zap Cx (k 0) 232 [tt,ff,tt,tt] [k 1] ⟨[(0,vl 88 (.pair i6 i6) x0),(1,.sv (.one (.fn 181 []))),(7,vi x1),(8,vi x2)],[],[]⟩
theorem v {a0:List (Int×Int)} {r} (h:Ev (fun k=>l0 k a0 (ln a0) 0) r):Ev (fun k=>f k a0) r:=evf (fun _ _ _=>zac Cx (by kernel_rfl)) h
theorem v0 {x0:List (Int×Int)} {x1 x2:Int} {r} (h:Ev (fun k=>if (iLt x2 x1) then ix x2 x0 <| (qepz.f (rd (0,0) x0 x2).1 (rd (0,0) x0 x2).2).bind fun t0 =>
 if t0 then some x2 else l0 k x0 x1 (W (x2+1)) else some (-1)) r):Ev (fun k=>l0 k x0 x1 x2) r:=evl [] 0 (fun _ _ h=>by rw [<- qepz.k (dl h)]; kernel_rfl) h
end qavz
namespace qapz
def f (k:Fu) (a0:List (Int×Int)):Option Bool:=PI Cx (k 0) 180 [vl 88 (.pair i6 i6) a0,.sv (.one (.fn 181 []))]
theorem v {a0:List (Int×Int)} {r} (h:Ev (fun k=>(qavz.f k a0).bind fun t0 =>
 some (iGe t0 0)) r):Ev (fun k=>f k a0) r:=evf (fun _ _ _=>zac Cx (by kernel_rfl)) h
end qapz
namespace qftz
def f (k:Fu) (a0:List (Int×Int)):Option Bool:=PI Cx (k 0) 113 [vl 88 (.pair i6 i6) a0]
theorem v {a0:List (Int×Int)} {r} (h:Ev (fun k=>(qgoz.f (ln a0) 1 5).bind fun t0 =>
 if t0 then (qapz.f k a0).bind fun t1 =>
 some (!t1) else some false) r):Ev (fun k=>f k a0) r:=evf (fun _ _ h=>by rw [<- qgoz.k (dl h)]; exact zac Cx (by kernel_rfl)) h
end qftz
namespace qemz
def f (k:Fu) (a0:BA):Option ((List (Int×Int))×Bool):=PI Cx (k 0) 136 [vs a0]
def l0 (k:Fu) (x0:List BA) (x1 x2:Int) (x3:List (Int×Int)):Option ((List (Int×Int))×Bool):=zap Cx (k 0) 136 [tt,tt,ff,tt,tt] [k 1] ⟨[(4,vf 1000000004000),(10,vl 9 .str x0),(11,vi x1),(12,vi x2)],[(1000000004000,.row 88 (.pair i6 i6) x3 .own)],[]⟩
theorem v {a0:BA} {r} (h:Ev (fun k=>(qffz.f a0 (bs [43])).bind fun t0 =>
 l0 k t0 (ln t0) 0 []) r):Ev (fun k=>f k a0) r:=evf (fun _ _ h=>by rw [<- qffz.k (dl h)]; exact zac Cx (by kernel_rfl)) h
theorem v0 {x0:List BA} {x1 x2:Int} {x3:List (Int×Int)} {r} (h:Ev (fun k=>if (iLt x2 x1) then ix x2 x0 <| (qcvz.f k (rd (bs []) x0 x2) (bs [47])).bind fun t0 =>
 if (!t0.2) then some ([],false) else if ((ln t0.1) != 2) then some ([],false) else gd (0 < (ln t0.1)) <| gd (1 < (ln t0.1)) <| gd (((lnN x3)+1)<=8796093022208) <| l0 k x0 x1 (W (x2+1)) (x3++[((rd 0 t0.1 0),(rd 0 t0.1 1))]) else (qftz.f k x3).bind fun t0 =>
 if (!t0) then some ([],false) else some (x3,true)) r):Ev (fun k=>l0 k x0 x1 x2 x3) r:=evl [] 0 (fun _ _ _=>by kernel_rfl) h
end qemz
namespace qcyz
abbrev P:=Int->Int->Option Bool
def f:P:=fun a0 a1=>(qgoz.f a0 0 200).bind fun t0 =>
 if (!t0) then some true else (qgoz.f a1 0 200).bind fun t1 =>
 some (!t1)
theorem k {K:Nat} (h:2<=K):(fun a0 a1=>PI Cx K 237 [va [ci a0,ci a1]]:P)=f:=by
 obtain ⟨K,rfl⟩:=zae h
 funext a0 a1
 unfold f
 rw [<- qgoz.k (dk h)]
 exact zac Cx (by kernel_rfl)
end qcyz
namespace qakz
def f (k:Fu) (a0:List (Int×Int)):Option Int:=PI Cx (k 0) 270 [vl 155 (.pair i6 i6) a0,.sv (.one (.fn 237 []))]
def l0 (k:Fu) (x0:List (Int×Int)) (x1 x2:Int):Option Int:=zap Cx (k 0) 270 [tt,ff,tt,tt] [k 1] ⟨[(0,vl 155 (.pair i6 i6) x0),(1,.sv (.one (.fn 237 []))),(7,vi x1),(8,vi x2)],[],[]⟩
theorem v {a0:List (Int×Int)} {r} (h:Ev (fun k=>l0 k a0 (ln a0) 0) r):Ev (fun k=>f k a0) r:=evf (fun _ _ _=>zac Cx (by kernel_rfl)) h
theorem v0 {x0:List (Int×Int)} {x1 x2:Int} {r} (h:Ev (fun k=>if (iLt x2 x1) then ix x2 x0 <| (qcyz.f (rd (0,0) x0 x2).1 (rd (0,0) x0 x2).2).bind fun t0 =>
 if t0 then some x2 else l0 k x0 x1 (W (x2+1)) else some (-1)) r):Ev (fun k=>l0 k x0 x1 x2) r:=evl [] 0 (fun _ _ h=>by rw [<- qcyz.k (dl h)]; kernel_rfl) h
end qakz
namespace qaez
def f (k:Fu) (a0:List (Int×Int)):Option Bool:=PI Cx (k 0) 236 [vl 155 (.pair i6 i6) a0,.sv (.one (.fn 237 []))]
theorem v {a0:List (Int×Int)} {r} (h:Ev (fun k=>(qakz.f k a0).bind fun t0 =>
 some (iGe t0 0)) r):Ev (fun k=>f k a0) r:=evf (fun _ _ _=>zac Cx (by kernel_rfl)) h
end qaez
namespace qelz
def f (k:Fu) (a0:List (Int×Int)):Option Bool:=PI Cx (k 0) 192 [vl 155 (.pair i6 i6) a0]
theorem v {a0:List (Int×Int)} {r} (h:Ev (fun k=>(qgoz.f (ln a0) 1 6).bind fun t0 =>
 if t0 then (qaez.f k a0).bind fun t1 =>
 some (!t1) else some false) r):Ev (fun k=>f k a0) r:=evf (fun _ _ h=>by rw [<- qgoz.k (dl h)]; exact zac Cx (by kernel_rfl)) h
end qelz
namespace qcuz
def f (k:Fu) (a0:BA):Option ((List (Int×Int))×Bool):=PI Cx (k 0) 137 [vs a0]
def l0 (k:Fu) (x0:List BA) (x1 x2:Int) (x3:List (Int×Int)):Option ((List (Int×Int))×Bool):=zap Cx (k 0) 137 [tt,tt,ff,tt,tt] [k 1] ⟨[(4,vf 1000000004000),(10,vl 9 .str x0),(11,vi x1),(12,vi x2)],[(1000000004000,.row 155 (.pair i6 i6) x3 .own)],[]⟩
theorem v {a0:BA} {r} (h:Ev (fun k=>(qffz.f a0 (bs [44])).bind fun t0 =>
 l0 k t0 (ln t0) 0 []) r):Ev (fun k=>f k a0) r:=evf (fun _ _ h=>by rw [<- qffz.k (dl h)]; exact zac Cx (by kernel_rfl)) h
theorem v0 {x0:List BA} {x1 x2:Int} {x3:List (Int×Int)} {r} (h:Ev (fun k=>if (iLt x2 x1) then ix x2 x0 <| (qcvz.f k (rd (bs []) x0 x2) (bs [43])).bind fun t0 =>
 if (!t0.2) then some ([],false) else if ((ln t0.1) != 2) then some ([],false) else gd (0 < (ln t0.1)) <| gd (1 < (ln t0.1)) <| gd (((lnN x3)+1)<=8796093022208) <| l0 k x0 x1 (W (x2+1)) (x3++[((rd 0 t0.1 0),(rd 0 t0.1 1))]) else (qelz.f k x3).bind fun t0 =>
 if (!t0) then some ([],false) else some (x3,true)) r):Ev (fun k=>l0 k x0 x1 x2 x3) r:=evl [] 0 (fun _ _ _=>by kernel_rfl) h
end qcuz
namespace qbyz
def f (k:Fu) (a0:List (Int×Int)) (a1 a2 a3 a4:Int) (a5 a6:List (Int×Int)) (a7:List Int) (a8:Int) (a9:BA):Option (Bool×((List (Int×Int))×(Int×(Int×(Int×(Int×((List (Int×Int))×((List (Int×Int))×(List Int))))))))):=PI Cx (k 0) 94 [va [.sl 74 (.pair i6 i6) a0,ci a1,ci a2,ci a3,ci a4,.sl 88 (.pair i6 i6) a5,.sl 155 (.pair i6 i6) a6,.frow 3 i6 a7],.sv (.one (.int .u8 a8)),vs a9]
theorem v {a0:List (Int×Int)} {a1 a2 a3 a4:Int} {a5 a6:List (Int×Int)} {a7:List Int} {a8:Int} {a9:BA} {r} (h:Ev (fun k=>if (a8 == 87) then (qcbz.f k a9).bind fun t0 =>
 some (t0.2,(t0.1,(a1,(a2,(a3,(a4,(a5,(a6,a7)))))))) else if (a8 == 67) then (qefz.f k a9).bind fun t0 =>
 some (t0.2,(a0,(t0.1.1,(t0.1.2.1,(t0.1.2.2.1,(t0.1.2.2.2,(a5,(a6,a7)))))))) else if (a8 == 76) then (qemz.f k a9).bind fun t0 =>
 some (t0.2,(a0,(a1,(a2,(a3,(a4,(t0.1,(a6,a7)))))))) else if (a8 == 86) then (qcuz.f k a9).bind fun t0 =>
 some (t0.2,(a0,(a1,(a2,(a3,(a4,(a5,(t0.1,a7)))))))) else (qedz.f a9).bind fun t0 =>
 gd (((lnN a7)+1)<=17592186044416) <| if t0.2 then (qgoz.f t0.1 0 999999).bind fun t1 =>
 some (t1,(a0,(a1,(a2,(a3,(a4,(a5,(a6,(a7++[t0.1]))))))))) else some (false,(a0,(a1,(a2,(a3,(a4,(a5,(a6,(a7++[t0.1])))))))))) r):Ev (fun k=>f k a0 a1 a2 a3 a4 a5 a6 a7 a8 a9) r:=evf (fun _ _ h=>by rw [<- qedz.k (dl h),<- qgoz.k (dl h)]; exact zac Cx (by kernel_rfl)) h
end qbyz
namespace qhmz
abbrev P:=Int->Option Bool
def f:P:=fun a0=>(qgoz.f a0 1 1000).bind fun t0 =>
 some t0
theorem k {K:Nat} (h:2<=K):(fun a0=>PI Cx K 55 [vi a0]:P)=f:=by
 obtain ⟨K,rfl⟩:=zae h
 funext a0
 unfold f
 rw [<- qgoz.k (dk h)]
 exact zac Cx (by kernel_rfl)
end qhmz
namespace qglz
def f (k:Fu) (a0:List (Int×Int)) (a1:Int):Option Bool:=PI Cx (k 0) 20 [va [.sl 74 (.pair i6 i6) a0,ci a1]]
theorem v {a0:List (Int×Int)} {a1:Int} {r} (h:Ev (fun k=>(qdrz.f k a0).bind fun t0 =>
 if t0 then (qhmz.f a1).bind fun t1 =>
 some t1 else some false) r):Ev (fun k=>f k a0 a1) r:=evf (fun _ _ h=>by rw [<- qhmz.k (dl h)]; exact zac Cx (by kernel_rfl)) h
end qglz
namespace qfyz
abbrev P:=Int->Option BA
def f:P:=fun a0=>zoc a0
theorem k {K:Nat} (h:1<=K):(fun a0=>PI Cx K 105 [vi a0]:P)=f:=by
 obtain ⟨K,rfl⟩:=zae h
 funext a0
 exact zac Cx (by kernel_rfl)
end qfyz
namespace qgiz
abbrev P:=List BA->BA->Option BA
def f:P:=fun a0 a1=>zod a0 a1
theorem k {K:Nat} (h:1<=K):(fun a0 a1=>PI Cx K 57 [vl 9 .str a0,vs a1]:P)=f:=by
 obtain ⟨K,rfl⟩:=zae h
 funext a0 a1
 exact zac Cx (by kernel_rfl)
end qgiz
namespace qczz
def f (k:Fu) (a0:List Int) (a1:BA):Option BA:=PI Cx (k 0) 56 [vl 3 i6 a0,vs a1]
def l0 (k:Fu) (x0:BA) (x1:List Int) (x2 x3:Int) (x4:List BA):Option BA:=zap Cx (k 0) 56 [tt,tt,ff,tt,tt] [k 1] ⟨[(1,vs x0),(5,vf 1000000005000),(11,vl 3 i6 x1),(12,vi x2),(13,vi x3)],[(1000000005000,.row 9 .str x4 .own)],[]⟩
theorem v {a0:List Int} {a1:BA} {r} (h:Ev (fun k=>gd (0<=(ln a0)) <| gd ((ln a0)<=(ln a0)) <| gd (((ln a0)*16)<=140737488355328) <| l0 k a1 a0 (ln a0) 0 (List.replicate (Int.toNat (ln a0)) (bs []))) r):Ev (fun k=>f k a0 a1) r:=evf (fun _ _ _=>zac Cx (by kernel_rfl)) h
theorem v0 {x0:BA} {x1:List Int} {x2 x3:Int} {x4:List BA} {r} (h:Ev (fun k=>if (iLt x3 x2) then ix x3 x1 <| (qfyz.f (rd 0 x1 x3)).bind fun t0 =>
 ix x3 x4 <| l0 k x0 x1 x2 (W (x3+1)) (List.set x4 (Int.toNat x3) t0) else (qgiz.f x4 x0).bind fun t0 =>
 some t0) r):Ev (fun k=>l0 k x0 x1 x2 x3 x4) r:=evl [] 0 (fun _ _ h=>by rw [<- qfyz.k (dl h),<- qgiz.k (dl h)]; kernel_rfl) h
end qczz
namespace qcwz
def f (k:Fu) (a0:List (Int×Int)):Option (BA×Bool):=PI Cx (k 0) 21 [vl 74 (.pair i6 i6) a0]
def l0 (k:Fu) (x0:List (Int×Int)) (x1 x2:Int) (x3:List BA):Option (BA×Bool):=zap Cx (k 0) 21 [tt,tt,tt,ff,tt,tt] [k 1] ⟨[(4,vf 1000000004000),(13,vl 74 (.pair i6 i6) x0),(14,vi x1),(15,vi x2)],[(1000000004000,.row 9 .str x3 .own)],[]⟩
theorem v {a0:List (Int×Int)} {r} (h:Ev (fun k=>(qdrz.f k a0).bind fun t0 =>
 if (!t0) then some ((bs []),false) else gd (0<=(ln a0)) <| gd ((ln a0)<=(ln a0)) <| gd (((ln a0)*16)<=140737488355328) <| l0 k a0 (ln a0) 0 (List.replicate (Int.toNat (ln a0)) (bs []))) r):Ev (fun k=>f k a0) r:=evf (fun _ _ _=>zac Cx (by kernel_rfl)) h
theorem v0 {x0:List (Int×Int)} {x1 x2:Int} {x3:List BA} {r} (h:Ev (fun k=>if (iLt x2 x1) then ix x2 x0 <| (qczz.f k [(rd (0,0) x0 x2).1,(rd (0,0) x0 x2).2] (bs [58])).bind fun t0 =>
 ix x2 x3 <| l0 k x0 x1 (W (x2+1)) (List.set x3 (Int.toNat x2) t0) else (qgiz.f x3 (bs [44])).bind fun t0 =>
 some (t0,true)) r):Ev (fun k=>l0 k x0 x1 x2 x3) r:=evl [] 0 (fun _ _ h=>by rw [<- qgiz.k (dl h)]; kernel_rfl) h
end qcwz
namespace qbsz
abbrev P:=List (Int×Int)->Int->Int->Option Bool
def f:P:=fun a0 a1 a2=>(qgoz.f a2 0 (W ((ln a0)-1))).bind fun t0 =>
 some t0
theorem k {K:Nat} (h:2<=K):(fun a0 a1 a2=>PI Cx K 139 [va [.sl 74 (.pair i6 i6) a0,ci a1],vi a2]:P)=f:=by
 obtain ⟨K,rfl⟩:=zae h
 funext a0 a1 a2
 unfold f
 rw [<- qgoz.k (dk h)]
 exact zac Cx (by kernel_rfl)
end qbsz
namespace qbfz
abbrev P:=List (Int×Int)->Option (List (Int×Int))
def f:P:=fun a0=>gd (a0.length<=8796093022208) (some a0)
theorem k {K:Nat} (h:1<=K):(fun a0=>PI Cx K 49 [vl 74 (.pair i6 i6) a0]:P)=f:=by
 obtain ⟨K,rfl⟩:=zae h
 funext a0
 exact zac Cx (by kernel_rfl)
end qbfz
namespace qbez
def f (k:Fu) (a0:List (List (Int×Int))):Option (List (Int×Int)):=PI Cx (k 0) 140 [vl 22 (.sl 74 (.pair i6 i6)) a0]
def l0 (k:Fu) (x0:List (List (Int×Int))) (x1:Int) (x2:List (List (Int×Int))) (x3 x4:Int):Option (List (Int×Int)):=zap Cx (k 0) 140 [tt,tt,ff,tt,tt] [k 1] ⟨[(0,vl 22 (.sl 74 (.pair i6 i6)) x0),(3,vi x1),(9,vl 22 (.sl 74 (.pair i6 i6)) x2),(10,vi x3),(11,vi x4)],[],[]⟩
def l1 (k:Fu) (x0:List (List (Int×Int))) (x1 x2:Int) (x3:List (Int×Int)):Option (List (Int×Int)):=zap Cx (k 0) 140 [tt,tt,tt,tt,ff,tt,tt] [k 2] ⟨[(6,vf 1000000006000),(25,vl 22 (.sl 74 (.pair i6 i6)) x0),(26,vi x1),(27,vi x2)],[(1000000006000,.row 74 (.pair i6 i6) x3 .own)],[]⟩
theorem v {a0:List (List (Int×Int))} {r} (h:Ev (fun k=>l0 k a0 0 a0 (ln a0) 0) r):Ev (fun k=>f k a0) r:=evf (fun _ _ _=>zac Cx (by kernel_rfl)) h
theorem v0 {x0:List (List (Int×Int))} {x1:Int} {x2:List (List (Int×Int))} {x3 x4:Int} {r} (h:Ev (fun k=>if (iLt x4 x3) then ix x4 x2 <| if (iLt (W (x1+(ln (rd [] x2 x4)))) 0) then none else l0 k x0 (W (x1+(ln (rd [] x2 x4)))) x2 x3 (W (x4+1)) else gd (0<=x1) <| gd (x1<=1000000000) <| l1 k x0 (ln x0) 0 []) r):Ev (fun k=>l0 k x0 x1 x2 x3 x4) r:=evl [] 0 (fun _ _ _=>by kernel_rfl) h
theorem v1 {x0:List (List (Int×Int))} {x1 x2:Int} {x3:List (Int×Int)} {r} (h:Ev (fun k=>if (iLt x2 x1) then ix x2 x0 <| gd (((lnN x3)+(lnN (rd [] x0 x2)))<=8796093022208) <| l1 k x0 x1 (W (x2+1)) (x3++(rd [] x0 x2)) else some x3) r):Ev (fun k=>l1 k x0 x1 x2 x3) r:=evl [] 1 (fun _ _ _=>by kernel_rfl) h
end qbez
namespace qfgz
abbrev P:=Int->Option Bool
def f:P:=fun a0=>some (a0 != a0)
theorem k {K:Nat} (h:1<=K):(fun a0=>PI Cx K 231 [vi a0]:P)=f:=by
 obtain ⟨K,rfl⟩:=zae h
 funext a0
 exact zac Cx (by kernel_rfl)
end qfgz
namespace qduz
abbrev P:=Int->Int->Option Int
def f:P:=fun a0 a1=>(qfgz.f a0).bind fun t0 =>
 (qfgz.f a1).bind fun t1 =>
 if t0 then if t1 then some 0 else some (-1) else if t1 then some 1 else if (iLt a0 a1) then some (-1) else if (iGt a0 a1) then some 1 else some 0
theorem k {K:Nat} (h:2<=K):(fun a0 a1=>PI Cx K 179 [vi a0,vi a1]:P)=f:=by
 obtain ⟨K,rfl⟩:=zae h
 funext a0 a1
 unfold f
 rw [<- qfgz.k (dk h)]
 exact zac Cx (by kernel_rfl)
end qduz
namespace qcaz
abbrev P:=List Int->List Int->Option Int
def f:P:=fun a0 a1=>gd (2 < (ln a0)) <| gd (3 < (ln a1)) <| gd (2 < (ln a1)) <| gd (3 < (ln a0)) <| (qduz.f (W ((rd 0 a0 2)*(rd 0 a1 3))) (W ((rd 0 a1 2)*(rd 0 a0 3)))).bind fun t0 =>
 some t0
theorem k {K:Nat} (h:3<=K):(fun a0 a1=>PI Cx K 178 [vl 3 i6 a0,vl 3 i6 a1]:P)=f:=by
 obtain ⟨K,rfl⟩:=zae h
 funext a0 a1
 unfold f
 rw [<- qduz.k (dk h)]
 exact zac Cx (by kernel_rfl)
end qcaz
namespace qauz
def f (k:Fu) (a0:List (List Int)) (a1 a2:Int):Option (List (List Int)):=PI Cx (k 0) 267 [.sv (.one (.frow 44 (.sl 3 i6) a0)),vi a1,vi a2,.sv (.one (.fn 178 []))]
def l0 (k:Fu) (x0 x1 x2:Int) (x3:List (List Int)):Option (List (List Int)):=zap Cx (k 0) 267 [tt,tt] [k 1] ⟨[(0,vf 9000000000000001),(1,vi x0),(2,vi x1),(3,.sv (.one (.fn 178 []))),(8,vi x2)],[(9000000000000001,.row 44 (.sl 3 i6) x3 .lent)],[]⟩
def l1 (k:Fu) (x0 x1 x2 x3:Int) (x4:List (List Int)):Option (List (List Int)):=zap Cx (k 0) 267 [tt,tt,tt,tt,ff,tt,tt,tt] [k 1,k 2] ⟨[(0,vf 9000000000000001),(1,vi x0),(2,vi x1),(3,.sv (.one (.fn 178 []))),(8,vi x2),(9,vi x3)],[(9000000000000001,.row 44 (.sl 3 i6) x4 .lent)],[]⟩
theorem v {a0:List (List Int)} {a1 a2:Int} {r} (h:Ev (fun k=>l0 k a1 a2 (W (a1+1)) a0) r):Ev (fun k=>f k a0 a1 a2) r:=evf (fun _ _ _=>zac Cx (by kernel_rfl)) h
theorem v0 {x0 x1 x2:Int} {x3:List (List Int)} {r} (h:Ev (fun k=>if (iLt x2 x1) then l1 k x0 x1 x2 x2 x3 else some x3) r):Ev (fun k=>l0 k x0 x1 x2 x3) r:=evl [] 0 (fun _ _ _=>by kernel_rfl) h
theorem v1 {x0 x1 x2 x3:Int} {x4:List (List Int)} {r} (h:Ev (fun k=>if (iGt x3 x0) then ix x3 x4 <| ix (W (x3-1)) x4 <| (qcaz.f (rd [] x4 x3) (rd [] x4 (W (x3-1)))).bind fun t0 =>
 if (iLt t0 0) then ix (W (x3-1)) x4 <| ix x3 x4 <| ix x3 x4 <| ix (W (x3-1)) (List.set x4 (Int.toNat x3) (rd [] x4 (W (x3-1)))) <| l1 k x0 x1 x2 (W (x3-1)) (List.set (List.set x4 (Int.toNat x3) (rd [] x4 (W (x3-1)))) (Int.toNat (W (x3-1))) (rd [] x4 x3)) else l0 k x0 x1 (W (x2+1)) x4 else l0 k x0 x1 (W (x2+1)) x4) r):Ev (fun k=>l1 k x0 x1 x2 x3 x4) r:=evl [1] 1 (fun _ _ h=>by rw [<- qcaz.k (dl h)]; kernel_rfl) h
end qauz
namespace qazz
def f (k:Fu) (a0:List (List Int)) (a1 a2 a3:Int):Option (List (List Int)):=PI Cx (k 0) 302 [.sv (.one (.frow 44 (.sl 3 i6) a0)),vi a1,vi a2,vi a3,.sv (.one (.fn 178 []))]
def l0 (k:Fu) (x0 x1 x2 x3:Int) (x4:List (List Int)):Option (List (List Int)):=zap Cx (k 0) 302 [tt,tt] [k 1] ⟨[(0,vf 9000000000000001),(1,vi x0),(2,vi x1),(3,vi x2),(10,vi x3)],[(9000000000000001,.row 44 (.sl 3 i6) x4 .lent)],[]⟩
theorem v {a0:List (List Int)} {a1 a2 a3:Int} {r} (h:Ev (fun k=>l0 k a1 a2 a3 0 a0) r):Ev (fun k=>f k a0 a1 a2 a3) r:=evf (fun _ _ _=>zac Cx (by kernel_rfl)) h
theorem v0 {x0 x1 x2 x3:Int} {x4:List (List Int)} {r} (h:Ev (fun k=>if (iLt x3 x2) then ix (W (x1+x3)) x4 <| ix (W (x0+x3)) x4 <| ix (W (x0+x3)) x4 <| ix (W (x1+x3)) (List.set x4 (Int.toNat (W (x0+x3))) (rd [] x4 (W (x1+x3)))) <| l0 k x0 x1 x2 (W (x3+1)) (List.set (List.set x4 (Int.toNat (W (x0+x3))) (rd [] x4 (W (x1+x3)))) (Int.toNat (W (x1+x3))) (rd [] x4 (W (x0+x3)))) else some x4) r):Ev (fun k=>l0 k x0 x1 x2 x3 x4) r:=evl [] 0 (fun _ _ _=>by kernel_rfl) h
end qazz
namespace qbdz
def f (k:Fu) (a0:List (List Int)) (a1 a2 a3:Int):Option (List (List Int)):=PI Cx (k 0) 290 [.sv (.one (.frow 44 (.sl 3 i6) a0)),vi a1,vi a2,vi a3,.sv (.one (.fn 178 []))]
def l0 (k:Fu) (x0 x1 x2:Int) (x3:List (List Int)):Option (List (List Int)):=zap Cx (k 0) 290 [tt,tt,ff,tt] [k 1] ⟨[(0,vf 9000000000000001),(2,vi x0),(4,.sv (.one (.fn 178 []))),(10,vi x1),(11,vi x2)],[(9000000000000001,.row 44 (.sl 3 i6) x3 .lent)],[]⟩
theorem v {a0:List (List Int)} {a1 a2 a3:Int} {r} (h:Ev (fun k=>l0 k a2 (W (a2-a1)) (W (a3-a2)) a0) r):Ev (fun k=>f k a0 a1 a2 a3) r:=evf (fun _ _ _=>zac Cx (by kernel_rfl)) h
theorem v0 {x0 x1 x2:Int} {x3:List (List Int)} {r} (h:Ev (fun k=>if (x1 != x2) then if (iGt x1 x2) then (qazz.f k x3 (W (x0-x1)) x0 x2).bind fun t0 =>
 l0 k x0 (W (x1-x2)) x2 t0 else (qazz.f k x3 (W (x0-x1)) (W ((W (x0+x2))-x1)) x1).bind fun t0 =>
 l0 k x0 x1 (W (x2-x1)) t0 else (qazz.f k x3 (W (x0-x1)) x0 x1).bind fun t0 =>
 some t0) r):Ev (fun k=>l0 k x0 x1 x2 x3) r:=evl [] 0 (fun _ _ _=>by kernel_rfl) h
end qbdz
namespace qbbz
def f (k:Fu) (a0:List (List Int)) (a1 a2 a3:Int):Option (List (List Int)):=PI Cx (k 0) 268 [.sv (.one (.frow 44 (.sl 3 i6) a0)),vi a1,vi a2,vi a3,.sv (.one (.fn 178 []))]
def l0 (k:Fu) (x0 x1 x2:Int) (x3:List (List Int)):Option (List (List Int)):=zap Cx (k 0) 268 [ff,tt,ff,tt,tt,ff,tt] [k 1] ⟨[(0,vf 9000000000000001),(1,vi x0),(4,.sv (.one (.fn 178 []))),(10,vi x1),(11,vi x2)],[(9000000000000001,.row 44 (.sl 3 i6) x3 .lent)],[]⟩
def l1 (k:Fu) (x0 x1 x2:Int) (x3:List (List Int)):Option (List (List Int)):=zap Cx (k 0) 268 [tt,ff,tt,ff,tt,tt,ff,tt] [k 2] ⟨[(0,vf 9000000000000001),(2,vi x0),(4,.sv (.one (.fn 178 []))),(14,vi x1),(15,vi x2)],[(9000000000000001,.row 44 (.sl 3 i6) x3 .lent)],[]⟩
def l2 (k:Fu) (x0 x1 x2 x3 x4 x5 x6 x7:Int) (x8:List (List Int)):Option (List (List Int)):=zap Cx (k 0) 268 [tt,tt,tt,tt,tt,tt,tt,ff,tt] [k 3] ⟨[(0,vf 9000000000000001),(1,vi x0),(2,vi x1),(3,vi x2),(4,.sv (.one (.fn 178 []))),(18,vi x3),(19,vi x4),(20,vi x5),(21,vi x6),(22,vi x7)],[(9000000000000001,.row 44 (.sl 3 i6) x8 .lent)],[]⟩
def l3 (k:Fu) (x0 x1:Int) (x2:List (List Int)):Option (List (List Int)):=zap Cx (k 0) 268 [ff,tt,ff,tt,tt,tt,ff,tt,tt] [k 4] ⟨[(0,vf 9000000000000001),(10,vi x0),(13,vi x1)],[(9000000000000001,.row 44 (.sl 3 i6) x2 .lent)],[]⟩
def l4 (k:Fu) (x0 x1:Int) (x2:List (List Int)):Option (List (List Int)):=zap Cx (k 0) 268 [tt,ff,tt,ff,tt,tt,tt,ff,tt,tt] [k 5] ⟨[(0,vf 9000000000000001),(14,vi x0),(17,vi x1)],[(9000000000000001,.row 44 (.sl 3 i6) x2 .lent)],[]⟩
theorem v {a0:List (List Int)} {a1 a2 a3:Int} {r} (h:Ev (fun k=>if ((W (a2-a1)) == 1) then l0 k a1 a2 a3 a0 else if ((W (a3-a2)) == 1) then l1 k a2 a1 a2 a0 else if (iGt a2 (W (ishr (IntKind.wrap .u64 (W (a1+a3))) 1))) then l2 k a1 a2 a3 (W (ishr (IntKind.wrap .u64 (W (a1+a3))) 1)) (W ((W (ishr (IntKind.wrap .u64 (W (a1+a3))) 1))+a2)) (W ((W ((W (ishr (IntKind.wrap .u64 (W (a1+a3))) 1))+a2))-a3)) (W (ishr (IntKind.wrap .u64 (W (a1+a3))) 1)) (W ((W ((W (ishr (IntKind.wrap .u64 (W (a1+a3))) 1))+a2))-1)) a0 else l2 k a1 a2 a3 (W (ishr (IntKind.wrap .u64 (W (a1+a3))) 1)) (W ((W (ishr (IntKind.wrap .u64 (W (a1+a3))) 1))+a2)) a1 a2 (W ((W ((W (ishr (IntKind.wrap .u64 (W (a1+a3))) 1))+a2))-1)) a0) r):Ev (fun k=>f k a0 a1 a2 a3) r:=evf (fun _ _ _=>zac Cx (by kernel_rfl)) h
theorem v0 {x0 x1 x2:Int} {x3:List (List Int)} {r} (h:Ev (fun k=>if (iLt x1 x2) then ix (W (ishr (IntKind.wrap .u64 (W (x1+x2))) 1)) x3 <| ix x0 x3 <| (qcaz.f (rd [] x3 (W (ishr (IntKind.wrap .u64 (W (x1+x2))) 1))) (rd [] x3 x0)).bind fun t0 =>
 if (iLt t0 0) then l0 k x0 (W ((W (ishr (IntKind.wrap .u64 (W (x1+x2))) 1))+1)) x2 x3 else l0 k x0 x1 (W (ishr (IntKind.wrap .u64 (W (x1+x2))) 1)) x3 else l3 k x1 x0 x3) r):Ev (fun k=>l0 k x0 x1 x2 x3) r:=evl [] 0 (fun _ _ h=>by rw [<- qcaz.k (dl h)]; kernel_rfl) h
theorem v1 {x0 x1 x2:Int} {x3:List (List Int)} {r} (h:Ev (fun k=>if (iLt x1 x2) then ix x0 x3 <| ix (W (ishr (IntKind.wrap .u64 (W (x1+x2))) 1)) x3 <| (qcaz.f (rd [] x3 x0) (rd [] x3 (W (ishr (IntKind.wrap .u64 (W (x1+x2))) 1)))).bind fun t0 =>
 if (!(iLt t0 0)) then l1 k x0 (W ((W (ishr (IntKind.wrap .u64 (W (x1+x2))) 1))+1)) x2 x3 else l1 k x0 x1 (W (ishr (IntKind.wrap .u64 (W (x1+x2))) 1)) x3 else l4 k x1 x0 x3) r):Ev (fun k=>l1 k x0 x1 x2 x3) r:=evl [] 1 (fun _ _ h=>by rw [<- qcaz.k (dl h)]; kernel_rfl) h
theorem v2 {x0 x1 x2 x3 x4 x5 x6 x7:Int} {x8:List (List Int)} {r} (h:Ev (fun k=>if (iLt x5 x6) then ix (W (x7-(W (ishr (IntKind.wrap .u64 (W (x5+x6))) 1)))) x8 <| ix (W (ishr (IntKind.wrap .u64 (W (x5+x6))) 1)) x8 <| (qcaz.f (rd [] x8 (W (x7-(W (ishr (IntKind.wrap .u64 (W (x5+x6))) 1))))) (rd [] x8 (W (ishr (IntKind.wrap .u64 (W (x5+x6))) 1)))).bind fun t0 =>
 if (!(iLt t0 0)) then l2 k x0 x1 x2 x3 x4 (W ((W (ishr (IntKind.wrap .u64 (W (x5+x6))) 1))+1)) x6 x7 x8 else l2 k x0 x1 x2 x3 x4 x5 (W (ishr (IntKind.wrap .u64 (W (x5+x6))) 1)) x7 x8 else if (iLt x5 x1) then if (iLt x1 (W (x4-x5))) then (qbdz.f k x8 x5 x1 (W (x4-x5))).bind fun t0 =>
 if (iLt x0 x5) then if (iLt x5 x3) then (f k t0 x0 x5 x3).bind fun t1 =>
 if (iLt x3 (W (x4-x5))) then if (iLt (W (x4-x5)) x2) then (f k t1 x3 (W (x4-x5)) x2).bind fun t2 =>
 some t2 else some t1 else some t1 else if (iLt x3 (W (x4-x5))) then if (iLt (W (x4-x5)) x2) then (f k t0 x3 (W (x4-x5)) x2).bind fun t1 =>
 some t1 else some t0 else some t0 else if (iLt x3 (W (x4-x5))) then if (iLt (W (x4-x5)) x2) then (f k t0 x3 (W (x4-x5)) x2).bind fun t1 =>
 some t1 else some t0 else some t0 else if (iLt x0 x5) then if (iLt x5 x3) then (f k x8 x0 x5 x3).bind fun t0 =>
 if (iLt x3 (W (x4-x5))) then if (iLt (W (x4-x5)) x2) then (f k t0 x3 (W (x4-x5)) x2).bind fun t1 =>
 some t1 else some t0 else some t0 else if (iLt x3 (W (x4-x5))) then if (iLt (W (x4-x5)) x2) then (f k x8 x3 (W (x4-x5)) x2).bind fun t0 =>
 some t0 else some x8 else some x8 else if (iLt x3 (W (x4-x5))) then if (iLt (W (x4-x5)) x2) then (f k x8 x3 (W (x4-x5)) x2).bind fun t0 =>
 some t0 else some x8 else some x8 else if (iLt x0 x5) then if (iLt x5 x3) then (f k x8 x0 x5 x3).bind fun t0 =>
 if (iLt x3 (W (x4-x5))) then if (iLt (W (x4-x5)) x2) then (f k t0 x3 (W (x4-x5)) x2).bind fun t1 =>
 some t1 else some t0 else some t0 else if (iLt x3 (W (x4-x5))) then if (iLt (W (x4-x5)) x2) then (f k x8 x3 (W (x4-x5)) x2).bind fun t0 =>
 some t0 else some x8 else some x8 else if (iLt x3 (W (x4-x5))) then if (iLt (W (x4-x5)) x2) then (f k x8 x3 (W (x4-x5)) x2).bind fun t0 =>
 some t0 else some x8 else some x8) r):Ev (fun k=>l2 k x0 x1 x2 x3 x4 x5 x6 x7 x8) r:=evl [] 2 (fun _ _ h=>by rw [<- qcaz.k (dl h)]; kernel_rfl) h
theorem v3 {x0 x1:Int} {x2:List (List Int)} {r} (h:Ev (fun k=>if (iLt x1 (W (x0-1))) then ix (W (x1+1)) x2 <| ix x1 x2 <| ix x1 x2 <| ix (W (x1+1)) (List.set x2 (Int.toNat x1) (rd [] x2 (W (x1+1)))) <| l3 k x0 (W (x1+1)) (List.set (List.set x2 (Int.toNat x1) (rd [] x2 (W (x1+1)))) (Int.toNat (W (x1+1))) (rd [] x2 x1)) else some x2) r):Ev (fun k=>l3 k x0 x1 x2) r:=evl [] 3 (fun _ _ _=>by kernel_rfl) h
theorem v4 {x0 x1:Int} {x2:List (List Int)} {r} (h:Ev (fun k=>if (iGt x1 x0) then ix (W (x1-1)) x2 <| ix x1 x2 <| ix x1 x2 <| ix (W (x1-1)) (List.set x2 (Int.toNat x1) (rd [] x2 (W (x1-1)))) <| l4 k x0 (W (x1-1)) (List.set (List.set x2 (Int.toNat x1) (rd [] x2 (W (x1-1)))) (Int.toNat (W (x1-1))) (rd [] x2 x1)) else some x2) r):Ev (fun k=>l4 k x0 x1 x2) r:=evl [] 4 (fun _ _ _=>by kernel_rfl) h
end qbbz
namespace qbcz
def f (k:Fu) (a0:List (List Int)) (a1:Int):Option (List (List Int)):=PI Cx (k 0) 230 [.sv (.one (.frow 44 (.sl 3 i6) a0)),vi a1,.sv (.one (.fn 178 []))]
def l0 (k:Fu) (x0 x1 x2 x3:Int) (x4:List (List Int)):Option (List (List Int)):=zap Cx (k 0) 230 [tt,tt,ff,tt] [k 1] ⟨[(0,vf 9000000000000001),(1,vi x0),(2,.sv (.one (.fn 178 []))),(6,vi x1),(7,vi x2),(8,vi x3)],[(9000000000000001,.row 44 (.sl 3 i6) x4 .lent)],[]⟩
def l1 (k:Fu) (x0 x1:Int) (x2:List (List Int)):Option (List (List Int)):=zap Cx (k 0) 230 [tt,tt,tt,tt,tt] [k 2] ⟨[(0,vf 9000000000000001),(1,vi x0),(2,.sv (.one (.fn 178 []))),(6,vi x1)],[(9000000000000001,.row 44 (.sl 3 i6) x2 .lent)],[]⟩
def l2 (k:Fu) (x0 x1 x2 x3:Int) (x4:List (List Int)):Option (List (List Int)):=zap Cx (k 0) 230 [tt,tt,tt,tt,tt,tt,tt,tt,tt,ff,tt] [k 2,k 3] ⟨[(0,vf 9000000000000001),(1,vi x0),(2,.sv (.one (.fn 178 []))),(6,vi x1),(7,vi x2),(8,vi x3)],[(9000000000000001,.row 44 (.sl 3 i6) x4 .lent)],[]⟩
theorem v {a0:List (List Int)} {a1:Int} {r} (h:Ev (fun k=>l0 k a1 20 0 20 a0) r):Ev (fun k=>f k a0 a1) r:=evf (fun _ _ _=>zac Cx (by kernel_rfl)) h
theorem v0 {x0 x1 x2 x3:Int} {x4:List (List Int)} {r} (h:Ev (fun k=>if (iLe x3 x0) then (qauz.f k x4 x2 x3).bind fun t0 =>
 l0 k x0 x1 x3 (W (x3+x1)) t0 else (qauz.f k x4 x2 x0).bind fun t0 =>
 l1 k x0 x1 t0) r):Ev (fun k=>l0 k x0 x1 x2 x3 x4) r:=evl [] 0 (fun _ _ _=>by kernel_rfl) h
theorem v1 {x0 x1:Int} {x2:List (List Int)} {r} (h:Ev (fun k=>if (iLt x1 x0) then l2 k x0 x1 0 (W (2*x1)) x2 else some x2) r):Ev (fun k=>l1 k x0 x1 x2) r:=evl [] 1 (fun _ _ _=>by kernel_rfl) h
theorem v2 {x0 x1 x2 x3:Int} {x4:List (List Int)} {r} (h:Ev (fun k=>if (iLe x3 x0) then (qbbz.f k x4 x2 (W (x2+x1)) x3).bind fun t0 =>
 l2 k x0 x1 x3 (W (x3+(W (2*x1)))) t0 else if (iLt (W (x2+x1)) x0) then (qbbz.f k x4 x2 (W (x2+x1)) x0).bind fun t0 =>
 l1 k x0 (W (x1*2)) t0 else l1 k x0 (W (x1*2)) x4) r):Ev (fun k=>l2 k x0 x1 x2 x3 x4) r:=evl [2] 2 (fun _ _ _=>by kernel_rfl) h
end qbcz
namespace qaxz
def f (k:Fu) (a0:List (List Int)):Option (List (List Int)):=PI Cx (k 0) 177 [.sv (.one (.frow 44 (.sl 3 i6) a0)),.sv (.one (.fn 178 []))]
theorem v {a0:List (List Int)} {r} (h:Ev (fun k=>(qbcz.f k a0 (ln a0)).bind fun t0 =>
 some t0) r):Ev (fun k=>f k a0) r:=evf (fun _ _ _=>zac Cx (by kernel_rfl)) h
end qaxz
namespace qidz
abbrev P:=Int->Option Int
def f:P:=fun a0=>some (mx a0 (W (0-a0)))
theorem k {K:Nat} (h:1<=K):(fun a0=>PI Cx K 176 [vi a0]:P)=f:=by
 obtain ⟨K,rfl⟩:=zae h
 funext a0
 exact zac Cx (by kernel_rfl)
end qidz
namespace qevz
def f (k:Fu) (a0 a1:Int):Option Int:=PI Cx (k 0) 175 [vi a0,vi a1]
def l0 (k:Fu) (x0 x1:Int):Option Int:=zap Cx (k 0) 175 [tt,ff,tt] [k 1] ⟨[(0,vi x0),(1,vi x1)],[],[]⟩
theorem v {a0 a1:Int} {r} (h:Ev (fun k=>l0 k a0 a1) r):Ev (fun k=>f k a0 a1) r:=evf (fun _ _ _=>zac Cx (by kernel_rfl)) h
theorem v0 {x0 x1:Int} {r} (h:Ev (fun k=>if (iGt x1 0) then if x1=0 then none else l0 k x1 (Int.tmod x0 x1) else some x0) r):Ev (fun k=>l0 k x0 x1) r:=evl [] 0 (fun _ _ _=>by kernel_rfl) h
end qevz
namespace qhlz
def f (k:Fu) (a0 a1:Int):Option (Int×Int):=PI Cx (k 0) 110 [vi a0,vi a1]
theorem v {a0 a1:Int} {r} (h:Ev (fun k=>if (iLt a1 0) then (qidz.f (W (0-a0))).bind fun t0 =>
 (qevz.f k (W (0-a1)) t0).bind fun t1 =>
 if t1=0 then none else if t1=0 then none else some ((W (Int.tdiv (W (0-a0)) t1)),(W (Int.tdiv (W (0-a1)) t1))) else (qidz.f a0).bind fun t0 =>
 (qevz.f k a1 t0).bind fun t1 =>
 if t1=0 then none else if t1=0 then none else some ((W (Int.tdiv a0 t1)),(W (Int.tdiv a1 t1)))) r):Ev (fun k=>f k a0 a1) r:=evf (fun _ _ h=>by rw [<- qidz.k (dl h)]; exact zac Cx (by kernel_rfl)) h
end qhlz
namespace qdcz
def f (k:Fu) (a0 a1 a2 a3:Int):Option (Int×(Int×Bool)):=PI Cx (k 0) 109 [va [ci a0,ci a1],va [ci a2,ci a3]]
theorem v {a0 a1 a2 a3:Int} {r} (h:Ev (fun k=>if (a0 == a2) then some (0,(1,true)) else if (a1 == a3) then some (0,(0,false)) else (qhlz.f k (W (a2-a0)) (W (a1-a3))).bind fun t0 =>
 if (iLt t0.1 0) then some (0,(0,false)) else some (t0.1,(t0.2,true))) r):Ev (fun k=>f k a0 a1 a2 a3) r:=evf (fun _ _ _=>zac Cx (by kernel_rfl)) h
end qdcz
namespace qcsz
def f (k:Fu) (a0:List (Int×Int)):Option (List (List Int)):=PI Cx (k 0) 112 [vl 74 (.pair i6 i6) a0]
def l0 (k:Fu) (x0 x1:List (Int×Int)) (x2 x3:Int) (x4:List (List Int)):Option (List (List Int)):=zap Cx (k 0) 112 [tt,tt,ff,tt,tt] [k 1] ⟨[(0,vl 74 (.pair i6 i6) x0),(3,vf 1000000003000),(10,vl 74 (.pair i6 i6) x1),(11,vi x2),(12,vi x3)],[(1000000003000,.row 44 (.sl 3 i6) x4 .own)],[]⟩
def l1 (k:Fu) (x0:List (Int×Int)) (x1 x2:Int) (x3:List (Int×Int)) (x4 x5:Int) (x6:List (List Int)) (x7 x8:Int):Option (List (List Int)):=zap Cx (k 0) 112 [tt,tt,ff,tt,tt,tt,tt,tt,ff,tt,tt,tt,tt] [k 1,k 2] ⟨[(0,vl 74 (.pair i6 i6) x0),(3,vf 1000000003000),(4,vi x1),(5,vp 4003000 0),(6,vi x2),(10,vl 74 (.pair i6 i6) x3),(11,vi x4),(12,vi x5)],[(1000000003000,.row 44 (.sl 3 i6) x6 .own),(4003000,.box 74 [ci x7,ci x8])],[]⟩
theorem v {a0:List (Int×Int)} {r} (h:Ev (fun k=>l0 k a0 a0 (ln a0) 0 []) r):Ev (fun k=>f k a0) r:=evf (fun _ _ _=>zac Cx (by kernel_rfl)) h
theorem v0 {x0 x1:List (Int×Int)} {x2 x3:Int} {x4:List (List Int)} {r} (h:Ev (fun k=>if (iLt x3 x2) then ix x3 x1 <| l1 k x0 x3 (W (x3+1)) x1 x2 x3 x4 (rd (0,0) x1 x3).1 (rd (0,0) x1 x3).2 else (qaxz.f k x4).bind fun t0 =>
 some t0) r):Ev (fun k=>l0 k x0 x1 x2 x3 x4) r:=evl [] 0 (fun _ _ _=>by kernel_rfl) h
theorem v1 {x0:List (Int×Int)} {x1 x2:Int} {x3:List (Int×Int)} {x4 x5:Int} {x6:List (List Int)} {x7 x8:Int} {r} (h:Ev (fun k=>if (iLt x2 (ln x0)) then ix x2 x0 <| (qdcz.f k x7 x8 (rd (0,0) x0 x2).1 (rd (0,0) x0 x2).2).bind fun t0 =>
 if t0.2.2 then gd (((lnN x6)+1)<=5864062014805) <| l1 k x0 x1 (W (x2+1)) x3 x4 x5 (x6++[[x1,x2,t0.1,t0.2.1]]) x7 x8 else l1 k x0 x1 (W (x2+1)) x3 x4 x5 x6 x7 x8 else l0 k x0 x3 x4 (W (x5+1)) x6) r):Ev (fun k=>l1 k x0 x1 x2 x3 x4 x5 x6 x7 x8) r:=evl [1] 1 (fun _ _ _=>by kernel_rfl) h
end qcsz
namespace qbxz
def f (k:Fu) (a0:List (Int×Int)):Option (Int×Bool):=PI Cx (k 0) 63 [vl 74 (.pair i6 i6) a0]
theorem v {a0:List (Int×Int)} {r} (h:Ev (fun k=>(qdrz.f k a0).bind fun t0 =>
 if (!t0) then some (0,false) else (qcsz.f k a0).bind fun t1 =>
 some ((ln t1),true)) r):Ev (fun k=>f k a0) r:=evf (fun _ _ _=>zac Cx (by kernel_rfl)) h
end qbxz
namespace qhjz
abbrev P:=Int->Bool->Option (BA×Bool)
def f:P:=fun a0 a1=>(qfyz.f a0).bind fun t0 =>
 some (t0,a1)
theorem k {K:Nat} (h:2<=K):(fun a0 a1=>PI Cx K 195 [vi a0,vb a1]:P)=f:=by
 obtain ⟨K,rfl⟩:=zae h
 funext a0 a1
 unfold f
 rw [<- qfyz.k (dk h)]
 exact zac Cx (by kernel_rfl)
end qhjz
namespace qdbz
def f (k:Fu) (a0:List (Int×Int)):Option ((List (List Int))×Bool):=PI Cx (k 0) 196 [vl 74 (.pair i6 i6) a0]
theorem v {a0:List (Int×Int)} {r} (h:Ev (fun k=>(qdrz.f k a0).bind fun t0 =>
 if (!t0) then some ([],false) else (qcsz.f k a0).bind fun t1 =>
 some (t1,true)) r):Ev (fun k=>f k a0) r:=evf (fun _ _ _=>zac Cx (by kernel_rfl)) h
end qdbz
namespace qfwz
def f (k:Fu) (a0:List Int) (a1:Bool):Option (BA×Bool):=PI Cx (k 0) 197 [vl 3 i6 a0,vb a1]
theorem v {a0:List Int} {a1:Bool} {r} (h:Ev (fun k=>if ((ln a0) == 0) then some ((bs [45]),a1) else (qczz.f k a0 (bs [44])).bind fun t0 =>
 some (t0,a1)) r):Ev (fun k=>f k a0 a1) r:=evf (fun _ _ _=>zac Cx (by kernel_rfl)) h
end qfwz
namespace qdlz
def f (k:Fu) (a0:List (Int×Int)):Option (List Int):=PI Cx (k 0) 240 [vl 74 (.pair i6 i6) a0]
def l0 (k:Fu) (x0:List (Int×Int)) (x1:Int) (x2:List (Int×Int)) (x3 x4:Int):Option (List Int):=zap Cx (k 0) 240 [tt,tt,ff,tt,tt] [k 1] ⟨[(0,vl 74 (.pair i6 i6) x0),(3,vi x1),(17,vl 74 (.pair i6 i6) x2),(18,vi x3),(19,vi x4)],[],[]⟩
def l1 (k:Fu) (x0:List (Int×Int)) (x1:Int) (x2:List Int):Option (List Int):=zap Cx (k 0) 240 [tt,tt,tt,tt,tt] [k 2] ⟨[(0,vl 74 (.pair i6 i6) x0),(3,vi x1),(7,vf 1000000007000)],[(1000000007000,.row 3 i6 x2 .own)],[]⟩
def l2 (k:Fu) (x0:List (Int×Int)) (x1 x2 x3 x4:Int) (x5:List (Int×Int)) (x6 x7:Int) (x8:List Int):Option (List Int):=zap Cx (k 0) 240 [tt,tt,tt,tt,tt,tt,tt,tt,ff,tt,tt] [k 2,k 3] ⟨[(0,vl 74 (.pair i6 i6) x0),(3,vi x1),(7,vf 1000000007000),(8,vi x2),(9,vi x3),(10,vi x4),(51,vl 74 (.pair i6 i6) x5),(52,vi x6),(53,vi x7)],[(1000000007000,.row 3 i6 x8 .own)],[]⟩
theorem v {a0:List (Int×Int)} {r} (h:Ev (fun k=>l0 k a0 0 a0 (ln a0) 0) r):Ev (fun k=>f k a0) r:=evf (fun _ _ _=>zac Cx (by kernel_rfl)) h
theorem v0 {x0:List (Int×Int)} {x1:Int} {x2:List (Int×Int)} {x3 x4:Int} {r} (h:Ev (fun k=>if (iLt x4 x3) then ix x4 x2 <| ix x1 x0 <| if (iGt (rd (0,0) x2 x4).1 (rd (0,0) x0 x1).1) then l0 k x0 x4 x2 x3 (W (x4+1)) else if ((rd (0,0) x2 x4).1 == (rd (0,0) x0 x1).1) then if (iGt (rd (0,0) x2 x4).2 (rd (0,0) x0 x1).2) then l0 k x0 x4 x2 x3 (W (x4+1)) else l0 k x0 x1 x2 x3 (W (x4+1)) else l0 k x0 x1 x2 x3 (W (x4+1)) else l1 k x0 x1 [x1]) r):Ev (fun k=>l0 k x0 x1 x2 x3 x4) r:=evl [] 0 (fun _ _ _=>by kernel_rfl) h
theorem v1 {x0:List (Int×Int)} {x1:Int} {x2:List Int} {r} (h:Ev (fun k=>l2 k x0 x1 (-1) 0 0 x0 (ln x0) 0 x2) r):Ev (fun k=>l1 k x0 x1 x2) r:=evl [] 1 (fun _ _ _=>by kernel_rfl) h
theorem v2 {x0:List (Int×Int)} {x1 x2 x3 x4:Int} {x5:List (Int×Int)} {x6 x7:Int} {x8:List Int} {r} (h:Ev (fun k=>if (iLt x7 x6) then ix x7 x5 <| ix x1 x0 <| if (iLe (rd (0,0) x5 x7).2 (rd (0,0) x0 x1).2) then l2 k x0 x1 x2 x3 x4 x5 x6 (W (x7+1)) x8 else ix x1 x0 <| (qdcz.f k (rd (0,0) x5 x7).1 (rd (0,0) x5 x7).2 (rd (0,0) x0 x1).1 (rd (0,0) x0 x1).2).bind fun t0 =>
 if (!t0.2.2) then l2 k x0 x1 x2 x3 x4 x5 x6 (W (x7+1)) x8 else if (iLt x2 0) then l2 k x0 x1 x7 t0.1 t0.2.1 x5 x6 (W (x7+1)) x8 else if (iLt (W ((W (t0.1*x4))-(W (x3*t0.2.1)))) 0) then l2 k x0 x1 x7 t0.1 t0.2.1 x5 x6 (W (x7+1)) x8 else if ((W ((W (t0.1*x4))-(W (x3*t0.2.1)))) == 0) then ix x2 x0 <| if (iGt (rd (0,0) x5 x7).2 (rd (0,0) x0 x2).2) then l2 k x0 x1 x7 t0.1 t0.2.1 x5 x6 (W (x7+1)) x8 else l2 k x0 x1 x2 x3 x4 x5 x6 (W (x7+1)) x8 else l2 k x0 x1 x2 x3 x4 x5 x6 (W (x7+1)) x8 else if (iLt x2 0) then some x8 else gd (((lnN x8)+1)<=17592186044416) <| l1 k x0 x2 (x8++[x2])) r):Ev (fun k=>l2 k x0 x1 x2 x3 x4 x5 x6 x7 x8) r:=evl [2] 2 (fun _ _ _=>by kernel_rfl) h
end qdlz
namespace qeiz
def f (k:Fu) (a0:List (Int×Int)):Option ((List Int)×Bool):=PI Cx (k 0) 198 [vl 74 (.pair i6 i6) a0]
theorem v {a0:List (Int×Int)} {r} (h:Ev (fun k=>(qdrz.f k a0).bind fun t0 =>
 if (!t0) then some ([],false) else (qdlz.f k a0).bind fun t1 =>
 some (t1,true)) r):Ev (fun k=>f k a0) r:=evf (fun _ _ _=>zac Cx (by kernel_rfl)) h
end qeiz
namespace qijz
def f (k:Fu) (a0:List Int):Option Int:=PI Cx (k 0) 243 [vl 3 i6 a0]
def l0 (k:Fu) (x0:Int) (x1:List Int) (x2 x3:Int):Option Int:=zap Cx (k 0) 243 [tt,tt,ff,tt,tt] [k 1] ⟨[(3,vi x0),(6,vl 3 i6 x1),(7,vi x2),(8,vi x3)],[],[]⟩
theorem v {a0:List Int} {r} (h:Ev (fun k=>l0 k 0 a0 (ln a0) 0) r):Ev (fun k=>f k a0) r:=evf (fun _ _ _=>zac Cx (by kernel_rfl)) h
theorem v0 {x0:Int} {x1:List Int} {x2 x3:Int} {r} (h:Ev (fun k=>if (iLt x3 x2) then ix x3 x1 <| if ((rd 0 x1 x3) != x0) then some (rd 0 x1 x3) else l0 k x0 x1 x2 (W (x3+1)) else some x0) r):Ev (fun k=>l0 k x0 x1 x2 x3) r:=evl [] 0 (fun _ _ _=>by kernel_rfl) h
end qijz
namespace qdfz
def f (k:Fu) (a0 a1 a2 a3:Int):Option Int:=PI Cx (k 0) 242 [va [ci a0,ci a1],va [ci a2,ci a3]]
theorem v {a0 a1 a2 a3:Int} {r} (h:Ev (fun k=>(qduz.f a1 a3).bind fun t0 =>
 (qduz.f a0 a2).bind fun t1 =>
 (qijz.f k [t0,t1]).bind fun t2 =>
 some t2) r):Ev (fun k=>f k a0 a1 a2 a3) r:=evf (fun _ _ h=>by rw [<- qduz.k (dl h)]; exact zac Cx (by kernel_rfl)) h
end qdfz
namespace qbnz
def f (k:Fu) (a0 a1:Int) (a2:List (Int×Int)):Option Int:=PI Cx (k 0) 277 [vi a0,vi a1,.sv (.one (.rptr [.fn 242 []] 0)),.sv (.one (.rptr [.sl 74 (.pair i6 i6) a2] 0))]
theorem v {a0 a1:Int} {a2:List (Int×Int)} {r} (h:Ev (fun k=>ix a0 a2 <| ix a1 a2 <| (qdfz.f k (rd (0,0) a2 a0).1 (rd (0,0) a2 a0).2 (rd (0,0) a2 a1).1 (rd (0,0) a2 a1).2).bind fun t0 =>
 some t0) r):Ev (fun k=>f k a0 a1 a2) r:=evf (fun _ _ _=>zac Cx (by kernel_rfl)) h
end qbnz
namespace qarz
def f (k:Fu) (a0:List Int) (a1 a2:Int) (a3:List (Int×Int)):Option (List Int):=PI Cx (k 0) 305 [.sv (.one (.frow 3 i6 a0)),vi a1,vi a2,.sv (.one (.fn 277 [.rptr [.fn 242 []] 0,.rptr [.sl 74 (.pair i6 i6) a3] 0]))]
def l0 (k:Fu) (x0 x1:Int) (x2:List (Int×Int)) (x3:Int) (x4:List Int):Option (List Int):=zap Cx (k 0) 305 [tt,tt] [k 1] ⟨[(0,vf 9000000000000001),(1,vi x0),(2,vi x1),(3,.sv (.one (.fn 277 [.rptr [.fn 242 []] 0,.rptr [.sl 74 (.pair i6 i6) x2] 0]))),(8,vi x3)],[(9000000000000001,.row 3 i6 x4 .lent)],[]⟩
def l1 (k:Fu) (x0 x1:Int) (x2:List (Int×Int)) (x3 x4:Int) (x5:List Int):Option (List Int):=zap Cx (k 0) 305 [tt,tt,tt,tt,ff,tt,tt,tt] [k 1,k 2] ⟨[(0,vf 9000000000000001),(1,vi x0),(2,vi x1),(3,.sv (.one (.fn 277 [.rptr [.fn 242 []] 0,.rptr [.sl 74 (.pair i6 i6) x2] 0]))),(8,vi x3),(9,vi x4)],[(9000000000000001,.row 3 i6 x5 .lent)],[]⟩
theorem v {a0:List Int} {a1 a2:Int} {a3:List (Int×Int)} {r} (h:Ev (fun k=>l0 k a1 a2 a3 (W (a1+1)) a0) r):Ev (fun k=>f k a0 a1 a2 a3) r:=evf (fun _ _ _=>zac Cx (by kernel_rfl)) h
theorem v0 {x0 x1:Int} {x2:List (Int×Int)} {x3:Int} {x4:List Int} {r} (h:Ev (fun k=>if (iLt x3 x1) then l1 k x0 x1 x2 x3 x3 x4 else some x4) r):Ev (fun k=>l0 k x0 x1 x2 x3 x4) r:=evl [] 0 (fun _ _ _=>by kernel_rfl) h
theorem v1 {x0 x1:Int} {x2:List (Int×Int)} {x3 x4:Int} {x5:List Int} {r} (h:Ev (fun k=>if (iGt x4 x0) then ix x4 x5 <| ix (W (x4-1)) x5 <| (qbnz.f k (rd 0 x5 x4) (rd 0 x5 (W (x4-1))) x2).bind fun t0 =>
 if (iLt t0 0) then ix (W (x4-1)) x5 <| ix x4 x5 <| ix x4 x5 <| ix (W (x4-1)) (List.set x5 (Int.toNat x4) (rd 0 x5 (W (x4-1)))) <| l1 k x0 x1 x2 x3 (W (x4-1)) (List.set (List.set x5 (Int.toNat x4) (rd 0 x5 (W (x4-1)))) (Int.toNat (W (x4-1))) (rd 0 x5 x4)) else l0 k x0 x1 x2 (W (x3+1)) x5 else l0 k x0 x1 x2 (W (x3+1)) x5) r):Ev (fun k=>l1 k x0 x1 x2 x3 x4 x5) r:=evl [1] 1 (fun _ _ _=>by kernel_rfl) h
end qarz
namespace qayz
def f (k:Fu) (a0:List Int) (a1 a2 a3:Int) (a4:List (Int×Int)):Option (List Int):=PI Cx (k 0) 306 [.sv (.one (.frow 3 i6 a0)),vi a1,vi a2,vi a3,.sv (.one (.fn 277 [.rptr [.fn 242 []] 0,.rptr [.sl 74 (.pair i6 i6) a4] 0]))]
end qayz
namespace qbaz
def f (k:Fu) (a0:List Int) (a1:Int) (a2:List (Int×Int)):Option (List Int):=PI Cx (k 0) 294 [.sv (.one (.frow 3 i6 a0)),vi a1,.sv (.one (.fn 277 [.rptr [.fn 242 []] 0,.rptr [.sl 74 (.pair i6 i6) a2] 0]))]
def l0 (k:Fu) (x0:Int) (x1:List (Int×Int)) (x2 x3 x4:Int) (x5:List Int):Option (List Int):=zap Cx (k 0) 294 [tt,tt,ff,tt] [k 1] ⟨[(0,vf 9000000000000001),(1,vi x0),(2,.sv (.one (.fn 277 [.rptr [.fn 242 []] 0,.rptr [.sl 74 (.pair i6 i6) x1] 0]))),(6,vi x2),(7,vi x3),(8,vi x4)],[(9000000000000001,.row 3 i6 x5 .lent)],[]⟩
def l1 (k:Fu) (x0:Int) (x1:List (Int×Int)) (x2:Int) (x3:List Int):Option (List Int):=zap Cx (k 0) 294 [tt,tt,tt,tt,tt] [k 2] ⟨[(0,vf 9000000000000001),(1,vi x0),(2,.sv (.one (.fn 277 [.rptr [.fn 242 []] 0,.rptr [.sl 74 (.pair i6 i6) x1] 0]))),(6,vi x2)],[(9000000000000001,.row 3 i6 x3 .lent)],[]⟩
def l2 (k:Fu) (x0:Int) (x1:List (Int×Int)) (x2 x3 x4:Int) (x5:List Int):Option (List Int):=zap Cx (k 0) 294 [tt,tt,tt,tt,tt,tt,tt,tt,tt,ff,tt] [k 2,k 3] ⟨[(0,vf 9000000000000001),(1,vi x0),(2,.sv (.one (.fn 277 [.rptr [.fn 242 []] 0,.rptr [.sl 74 (.pair i6 i6) x1] 0]))),(6,vi x2),(7,vi x3),(8,vi x4)],[(9000000000000001,.row 3 i6 x5 .lent)],[]⟩
theorem v {a0:List Int} {a1:Int} {a2:List (Int×Int)} {r} (h:Ev (fun k=>l0 k a1 a2 20 0 20 a0) r):Ev (fun k=>f k a0 a1 a2) r:=evf (fun _ _ _=>zac Cx (by kernel_rfl)) h
theorem v0 {x0:Int} {x1:List (Int×Int)} {x2 x3 x4:Int} {x5:List Int} {r} (h:Ev (fun k=>if (iLe x4 x0) then (qarz.f k x5 x3 x4 x1).bind fun t0 =>
 l0 k x0 x1 x2 x4 (W (x4+x2)) t0 else (qarz.f k x5 x3 x0 x1).bind fun t0 =>
 l1 k x0 x1 x2 t0) r):Ev (fun k=>l0 k x0 x1 x2 x3 x4 x5) r:=evl [] 0 (fun _ _ _=>by kernel_rfl) h
theorem v1 {x0:Int} {x1:List (Int×Int)} {x2:Int} {x3:List Int} {r} (h:Ev (fun k=>if (iLt x2 x0) then l2 k x0 x1 x2 0 (W (2*x2)) x3 else some x3) r):Ev (fun k=>l1 k x0 x1 x2 x3) r:=evl [] 1 (fun _ _ _=>by kernel_rfl) h
theorem v2 {x0:Int} {x1:List (Int×Int)} {x2 x3 x4:Int} {x5:List Int} {r} (h:Ev (fun k=>if (iLe x4 x0) then (qayz.f k x5 x3 (W (x3+x2)) x4 x1).bind fun t0 =>
 l2 k x0 x1 x2 x4 (W (x4+(W (2*x2)))) t0 else if (iLt (W (x3+x2)) x0) then (qayz.f k x5 x3 (W (x3+x2)) x0 x1).bind fun t0 =>
 l1 k x0 x1 (W (x2*2)) t0 else l1 k x0 x1 (W (x2*2)) x5) r):Ev (fun k=>l2 k x0 x1 x2 x3 x4 x5) r:=evl [2] 2 (fun _ _ _=>by kernel_rfl) h
end qbaz
namespace qatz
def f (k:Fu) (a0:List Int) (a1:List (Int×Int)):Option (List Int):=PI Cx (k 0) 276 [.sv (.one (.frow 3 i6 a0)),.sv (.one (.fn 277 [.rptr [.fn 242 []] 0,.rptr [.sl 74 (.pair i6 i6) a1] 0]))]
theorem v {a0:List Int} {a1:List (Int×Int)} {r} (h:Ev (fun k=>(qbaz.f k a0 (ln a0) a1).bind fun t0 =>
 some t0) r):Ev (fun k=>f k a0 a1) r:=evf (fun _ _ _=>zac Cx (by kernel_rfl)) h
end qatz
namespace qbhz
def f (k:Fu) (a0:List (Int×Int)):Option (List Int):=PI Cx (k 0) 241 [vl 74 (.pair i6 i6) a0,.sv (.one (.fn 242 []))]
def l0 (k:Fu) (x0 x1:Int) (x2:List (Int×Int)) (x3:List Int):Option (List Int):=zap Cx (k 0) 241 [tt,tt,ff,tt,tt] [k 1] ⟨[(2,vp 0 0),(3,vp 1000 0),(5,vf 1000000005000),(11,vi x0),(12,vi x1)],[(0,.box 22 [.sl 74 (.pair i6 i6) x2]),(1000,.box 227 [.fn 242 []]),(1000000005000,.row 3 i6 x3 .own)],[]⟩
theorem v {a0:List (Int×Int)} {r} (h:Ev (fun k=>gd (0<=(ln a0)) <| gd ((ln a0)<=(ln a0)) <| gd (((ln a0)*8)<=140737488355328) <| l0 k (ln (List.replicate (Int.toNat (ln a0)) (0:Int))) 0 a0 (List.replicate (Int.toNat (ln a0)) (0:Int))) r):Ev (fun k=>f k a0) r:=evf (fun _ _ _=>zac Cx (by kernel_rfl)) h
theorem v0 {x0 x1:Int} {x2:List (Int×Int)} {x3:List Int} {r} (h:Ev (fun k=>if (iLt x1 x0) then ix x1 x3 <| l0 k x0 (W (x1+1)) x2 (List.set x3 (Int.toNat x1) x1) else (qatz.f k x3 x2).bind fun t0 =>
 some t0) r):Ev (fun k=>l0 k x0 x1 x2 x3) r:=evl [] 0 (fun _ _ _=>by kernel_rfl) h
end qbhz
namespace qenz
def f (k:Fu) (a0:List (Int×Int)):Option ((List Int)×Bool):=PI Cx (k 0) 199 [vl 74 (.pair i6 i6) a0]
theorem v {a0:List (Int×Int)} {r} (h:Ev (fun k=>(qdrz.f k a0).bind fun t0 =>
 if (!t0) then some ([],false) else (qbhz.f k a0).bind fun t1 =>
 some (t1,true)) r):Ev (fun k=>f k a0) r:=evf (fun _ _ _=>zac Cx (by kernel_rfl)) h
end qenz
end
end Go.Proofs.YtdhkgmhdengnkaaGreatDoor.Li
