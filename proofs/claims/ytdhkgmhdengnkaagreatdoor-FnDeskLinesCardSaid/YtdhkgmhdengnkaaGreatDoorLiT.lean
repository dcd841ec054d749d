/- The tables fit the program; functions by hand. -/
import Derived.Test.YtdhkgmhdengnkaaGreatDoorPc
import Derived.Test.YtdhkgmhdengnkaaGreatDoorLiC
import Derived.WalkKit
import Derived.ProofKit
import Derived.BigQuiet
import Derived.Deep.QuietTactic
import Derived.Deep.CutBlock
import Derived.Deep.RegionLaw
import Derived.Shelf.RegionOpenPlain
import Derived.Lib.AtoiAllCases
import Derived.Shelf.Strings.Search3
import Derived.Shelf.Strings.OnBuilder
import Derived.Shelf.Strconv.Itoa3
import Derived.Shelf.Strconv.ErrVarAll
import Derived.Shelf.Sort.Plain
import Derived.Shelf.Slices.CompactI
import Derived.Shelf.Strings.Split
import Derived.Shelf.Spec.SlicesGrow
namespace Go.Proofs.YtdhkgmhdengnkaaGreatDoor.Li
open Go Go.Proofs.YtdhkgmhdengnkaaGreatDoorPi Go.RowKit
set_option maxRecDepth 100000
set_option linter.unusedVariables false
set_option maxHeartbeats 8000000 in
set_option maxRecDepth 1000000 in
theorem del141.own_calls (g cap n i j:Nat) (xs:List Value) (w:World) (h:w.ownsRow 0 74 2 (.slice (some ⟨g,0,none⟩) n cap) n xs) (h1:∀ u∈xs,u.oneCell'=true) (hj:j=i+1) (hi:i < n) (hn:n<=5000000000000) (hm:cap<=9223372036854775807) (hcap:n<=cap) :
 Calls Tryz.prog 141 #[.slice (some ⟨g,0,none⟩) n cap,.int .i64 i,.int .i64 j] w fun e w'=>e = .returned (.slice (some ⟨g,0,none⟩) (n-1) cap)/\w'.ownsRow 0 74 2 (.slice (some ⟨g,0,none⟩) (n-1) cap) (n-1) (xs.take (i*2)++xs.drop (j*2))/\(w'.os=w.os/\w'.tape=w.tape/\w'.output=w.output/\w.heap.size<=w'.heap.size) /\ ∀ k,k ≠ g->w'.heap[k]? = w.heap[k]?:=by
 have hl:xs.length=n*2:=h.1
 have hu74:=Tryz.underlying74
 have hu22:=Tryz.underlying22
 obtain ⟨i0,hi0,hz1⟩ : ∃ i0,Tryz.prog.info? 74=some i0/\i0.size=2:=⟨(Tryz.prog.info? 74).get (by kernel_rfl),(Option.some_get _).symm,by kernel_rfl⟩
 have v23:∀ w,(zeroValue 74).run Tryz.prog w = .ok (.agg #[.int .i64 0,.int .i64 0]) w:=by intro w; first | kernel_rfl | rfl
 obtain ⟨news,hnews⟩ : ∃ news,news=xs.drop (j*2):=⟨_,rfl⟩
 have hlen:news.length=(n-j)*2:=by rw [hnews,List.length_drop,hl]; omega
 obtain ⟨A,hA,hsrc⟩ : ∃ A:Addr,(if cap=j then (some (⟨g,0,none⟩ : Addr)) else some ⟨g,j*2,none⟩)=some A/\Hid (∀ t u,news[t]? = some u->w.drew.cell? (A.add t)=some u):=by
  by_cases hc:cap=j
  · refine ⟨⟨g,0,none⟩,by simp [hc],fun t u hu=>?_⟩
    have h0:news.length=0:=by rw [hlen]; omega
    rw [List.length_eq_zero_iff.1 h0] at hu
    simp at hu
  · refine ⟨⟨g,j*2,none⟩,by simp [hc],fun t u hu=>?_⟩
    have ht:=(List.getElem?_eq_some_iff.1 hu).1
    rw [Addr.add_lit]
    show w.cell? _=some u
    rw [World.ownsRow.cellAt h _ (by omega),<- hu,hnews,List.getElem?_drop]
 have s1:Hid (news.length=(n-j)*2):=hlen
 have s2:Hid (∀ u∈news,u.oneCell'=true):=fun u hu=>h1 u (by rw [hnews] at hu; exact List.mem_of_mem_drop hu)
 have s3:Hid (∀ t,t < news.length->(w.drew.cell? ⟨g,0+i*2+t,none⟩).isSome=true/\w.drew.frozen? ⟨g,0+i*2+t,none⟩=false):=by
  intro t ht
  refine ⟨?_,World.ownsRow.frozenAt h _⟩
  show (w.cell? _).isSome=true
  rw [World.ownsRow.cellAt h _ (by omega),List.getElem?_eq_getElem (by omega)]
  rfl
 obtain ⟨W1,hW1⟩ : ∃ W1,W1=w.drew.setCells g (0+i*2) news:=⟨_,rfl⟩
 have hown:W1.ownsRow 0 74 2 (.slice (some ⟨g,0,none⟩) n cap) n (xs.take (i*2)++news++xs.drop (i*2+news.length)):=by
  rw [hW1,Nat.zero_add]
  exact zhL news w.drew xs (i*2) h (by omega)
 have hcl:∀ ty,(Builtin.clear_ #[22] ty #[.slice (some ⟨g,(i+(n-j))*2,none⟩) (n-(i+(n-j))) (cap-(i+(n-j)))]).run Tryz.prog W1 = .ok (.tuple #[]) (W1.setCells g ((i+(n-j))*2) [.int .i64 0,.int .i64 0]):=by
  intro ty
  rw [show n-(i+(n-j))=1 by omega]
  exact zk0 W1 _ _ ty (.agg #[.int .i64 0,.int .i64 0]) hu22 v23 (by intro v hv; simp [Value.cells] at hv; subst hv; rfl) g _ _
   (fun t ht=>by
    have ht3:t < 2:=ht
    rw [World.ownsRow.cellAt hown _ (by omega),List.getElem?_eq_getElem (by have:=hown.1; omega)]; rfl) (fun t ht=>World.ownsRow.frozenAt hown _)
 have X:Aside (W1.ownsRow 0 74 2 (.slice (some ⟨g,0,none⟩) n cap) n (xs.take (i*2)++news++xs.drop (i*2+news.length))):=hown
 have hW:Hid (W1=w.drew.setCells g (0+i*2) news):=hW1
 have hN:Hid (news=xs.drop (j*2)):=hnews
 have hic:i<=cap:=by omega
 have hjc:j<=cap:=by omega
 have hij:i<=j:=by omega
 have hjn:j<=n:=by omega
 have mixed:Tryz.prog.follows .mixedOrders=true:=by kernel_rfl
 have hE:((i:Int) == (j:Int))=false:=by simp; omega
 clear hW1 hown hnews hlen
 have HJ:=Aside0.mk hj
 clear hj
 have H0:=Aside0.mk h
 have H1:=Aside0.mk h1
 clear h h1
 go_enter Tryz.func141,Tryz.ntmps141
 go_wp2_with fail
 go_region_law_o (refine step_append_room rfl (.tmp 22) (.tmp 25) 22 rfl 74 i0 2 hu22 hi0 hz1 g 0 i cap (by simp [Act.eval,Act.put]) A (n-j) (cap-j) news (by simp [Act.eval,Act.put]) s1.out hsrc.out s2.out (by omega) s3.out ?_; rw [<- hW.out])
 go_wp2
 all_goals first | (exfalso; have:=HJ.out; omega) | skip
 go_ret
 have hw1:=X.out
 have hj:=HJ.out
 have hl2:news.length=(n-j)*2:=s1.out
 have h2:=zte (zhL [.int .i64 0,.int .i64 0] W1 _ ((i+(n-j))*2) hw1 (by rw [hw1.1]; simp; omega)) (show n-1<=n by omega)
 refine ⟨by rw [show i+(n-j)=n-1 by omega]; rfl,?_,?_⟩
 · have e:(List.take ((i+(n-j))*2) (xs.take (i*2)++news++xs.drop (i*2+news.length))++([.int .i64 0,.int .i64 0]:List Value)++List.drop ((i+(n-j))*2+2) (xs.take (i*2)++news++xs.drop (i*2+news.length))).take ((n-1)*2)=xs.take (i*2)++xs.drop (j*2):=by
    have e1:List.take ((i+(n-j))*2) (xs.take (i*2)++news++xs.drop (i*2+news.length))=xs.take (i*2)++news:=by
     rw [List.take_append_of_le_length (by simp; omega),List.take_of_length_le (by simp; omega)]
    rw [e1,List.append_assoc,List.take_append_of_le_length (by simp; omega),List.take_of_length_le (by simp; omega),hN.out]
   rw [<- e]
   exact h2
 · rw [hW.out]
   obtain ⟨⟨p1,p2,p3,p4⟩,p5⟩:=zes (g:=g) [.int .i64 0,.int .i64 0] ((i+(n-j))*2) (w.drew.setCells g (0+i*2) news)
   obtain ⟨⟨r1,r2,r3,r4⟩,r5⟩:=zes (g:=g) news (0+i*2) w.drew
   exact ⟨⟨p1.trans r1,p2.trans r2,p3.trans r3,Nat.le_trans r4 p4⟩,fun k hk=>(p5 k hk).trans (r5 k hk)⟩
theorem del141.ok:ztV Tryz.prog 141 74 2 :=
 ⟨⟨Tryz.f141,Tryz.func141,by kernel_rfl,by kernel_rfl⟩,fun b cap n i j xs w h h1 hj hi hn hm hc=>del141.own_calls b cap n i j xs w h h1 hj hi hn hm hc⟩
def znm:Go.Shelf.Ren:=⟨fun | 144=>47 | 143=>91 | 219=>132 | 217=>185 | 225=>186 | 224=>187 | 267=>188 | 266=>233 | 314=>234 | n=>n,fun | 9=>9 | 4=>4 | 3=>3 | 5=>5 | 46=>189 | 146=>217 | 51=>216 | n=>n,fun | 1=>0 | n=>n⟩
theorem zti:Go.Proofs.Lays.n144 Tryz.prog znm where
 mixed:=by kernel_rfl
 f143:=Tryz.func91.trans (congrArg some (by kernel_rfl))
 f144:=Tryz.func47.trans (congrArg some (by kernel_rfl))
 f217:=Tryz.func185.trans (congrArg some (by kernel_rfl))
 f219:=Tryz.func132.trans (congrArg some (by kernel_rfl))
 f224:=Tryz.func187.trans (congrArg some (by kernel_rfl))
 f225:=Tryz.func186.trans (congrArg some (by kernel_rfl))
 f266:=Tryz.func233.trans (congrArg some (by kernel_rfl))
 f267:=Tryz.func188.trans (congrArg some (by kernel_rfl))
 f314:=Tryz.func234.trans (congrArg some (by kernel_rfl))
 t3:=Tryz.underlying3
 a3:=Tryz.isAgg3
 z3:=Tryz.sizeOf3
 v3:=Tryz.zeroValue3
 t4:=Tryz.underlying4
 a4:=Tryz.isAgg4
 z4:=Tryz.sizeOf4
 v4:=Tryz.zeroValue4
 t5:=Tryz.underlying5
 a5:=Tryz.isAgg5
 z5:=Tryz.sizeOf5
 v5:=Tryz.zeroValue5
 t9:=Tryz.underlying9
 a9:=Tryz.isAgg9
 z9:=Tryz.sizeOf9
 v9:=Tryz.zeroValue9
 t46:=Tryz.underlying189
 a46:=Tryz.isAgg189
 z46:=Tryz.sizeOf189
 v46:=Tryz.zeroValue189
 t51:=Tryz.underlying216
 a51:=Tryz.isAgg216
 z51:=Tryz.sizeOf216
 v51:=Tryz.zeroValue216
 t146:=Tryz.underlying217
 a146:=Tryz.isAgg217
 z146:=Tryz.sizeOf217
 v146:=Tryz.zeroValue217
 g1:=by kernel_rfl
def zjk:Go.Shelf.Ren:=⟨fun | 156=>57 | 165=>106 | 166=>107 | 169=>108 | 240=>173 | 241=>174 | 276=>228 | 277=>229 | n=>n,fun | 31=>41 | 9=>9 | 3=>3 | 4=>4 | 0=>0 | 20=>20 | 72=>132 | 76=>136 | 70=>130 | 37=>30 | 75=>135 | 127=>184 | 164=>211 | 5=>5 | 80=>69 | n=>n,fun | n=>n⟩
theorem zqr:Go.Proofs.Lays.n156 Tryz.prog zjk where
 mixed:=by kernel_rfl
 f156:=Tryz.func57.trans (congrArg some (by kernel_rfl))
 f165:=Tryz.func106.trans (congrArg some (by kernel_rfl))
 f166:=Tryz.func107.trans (congrArg some (by kernel_rfl))
 f169:=Tryz.func108.trans (congrArg some (by kernel_rfl))
 f240:=Tryz.func173.trans (congrArg some (by kernel_rfl))
 f241:=Tryz.func174.trans (congrArg some (by kernel_rfl))
 f276:=Tryz.func228.trans (congrArg some (by kernel_rfl))
 f277:=Tryz.func229.trans (congrArg some (by kernel_rfl))
 t0:=Tryz.underlying0
 a0:=Tryz.isAgg0
 z0:=Tryz.sizeOf0
 v0:=Tryz.zeroValue0
 t3:=Tryz.underlying3
 a3:=Tryz.isAgg3
 z3:=Tryz.sizeOf3
 v3:=Tryz.zeroValue3
 t4:=Tryz.underlying4
 a4:=Tryz.isAgg4
 z4:=Tryz.sizeOf4
 v4:=Tryz.zeroValue4
 t9:=Tryz.underlying9
 a9:=Tryz.isAgg9
 z9:=Tryz.sizeOf9
 v9:=Tryz.zeroValue9
 t20:=Tryz.underlying20
 a20:=Tryz.isAgg20
 z20:=Tryz.sizeOf20
 v20:=Tryz.zeroValue20
 t31:=Tryz.underlying41
 a31:=Tryz.isAgg41
 z31:=Tryz.sizeOf41
 v31:=Tryz.zeroValue41
 t37:=Tryz.underlying30
 a37:=Tryz.isAgg30
 z37:=Tryz.sizeOf30
 v37:=Tryz.zeroValue30
 t70:=Tryz.underlying130
 a70:=Tryz.isAgg130
 z70:=Tryz.sizeOf130
 v70:=Tryz.zeroValue130
 t72:=Tryz.underlying132
 a72:=Tryz.isAgg132
 z72:=Tryz.sizeOf132
 v72:=Tryz.zeroValue132
 t75:=Tryz.underlying135
 a75:=Tryz.isAgg135
 z75:=Tryz.sizeOf135
 v75:=Tryz.zeroValue135
 t76:=Tryz.underlying136
 a76:=Tryz.isAgg136
 z76:=Tryz.sizeOf136
 v76:=Tryz.zeroValue136
 t127:=Tryz.underlying184
 a127:=Tryz.isAgg184
 z127:=Tryz.sizeOf184
 v127:=Tryz.zeroValue184
 t164:=Tryz.underlying211
 a164:=Tryz.isAgg211
 z164:=Tryz.sizeOf211
 v164:=Tryz.zeroValue211
def znn:Go.Shelf.Ren:=⟨fun | 146=>92 | 221=>133 | 268=>189 | 138=>74 | 143=>91 | 195=>123 | 197=>235 | 218=>124 | 219=>132 | 260=>269 | 217=>185 | 225=>186 | 224=>187 | 267=>188 | 266=>233 | 314=>234 | n=>n,fun | 9=>9 | 31=>41 | 3=>3 | 4=>4 | 0=>0 | 105=>219 | 21=>21 | 5=>5 | 46=>189 | 119=>257 | 139=>260 | 138=>259 | 146=>217 | 51=>216 | n=>n,fun | 1=>0 | 3=>2 | 4=>3 | n=>n⟩
theorem lays146:Go.Proofs.LaysM.n146 Tryz.prog znn where
 mixed:=by kernel_rfl
 f138:=Tryz.func74.trans (congrArg some (by kernel_rfl))
 f143:=Tryz.func91.trans (congrArg some (by kernel_rfl))
 f146:=Tryz.func92.trans (congrArg some (by kernel_rfl))
 f195:=Tryz.func123.trans (congrArg some (by kernel_rfl))
 f197:=Tryz.func235.trans (congrArg some (by kernel_rfl))
 f217:=Tryz.func185.trans (congrArg some (by kernel_rfl))
 f218:=Tryz.func124.trans (congrArg some (by kernel_rfl))
 f219:=Tryz.func132.trans (congrArg some (by kernel_rfl))
 f221:=Tryz.func133.trans (congrArg some (by kernel_rfl))
 f224:=Tryz.func187.trans (congrArg some (by kernel_rfl))
 f225:=Tryz.func186.trans (congrArg some (by kernel_rfl))
 f260:=Tryz.func269.trans (congrArg some (by kernel_rfl))
 f266:=Tryz.func233.trans (congrArg some (by kernel_rfl))
 f267:=Tryz.func188.trans (congrArg some (by kernel_rfl))
 f268:=Tryz.func189.trans (congrArg some (by kernel_rfl))
 f314:=Tryz.func234.trans (congrArg some (by kernel_rfl))
 t0:=Tryz.underlying0
 a0:=Tryz.isAgg0
 z0:=Tryz.sizeOf0
 v0:=Tryz.zeroValue0
 t3:=Tryz.underlying3
 a3:=Tryz.isAgg3
 z3:=Tryz.sizeOf3
 v3:=Tryz.zeroValue3
 t4:=Tryz.underlying4
 a4:=Tryz.isAgg4
 z4:=Tryz.sizeOf4
 v4:=Tryz.zeroValue4
 t5:=Tryz.underlying5
 a5:=Tryz.isAgg5
 z5:=Tryz.sizeOf5
 v5:=Tryz.zeroValue5
 t9:=Tryz.underlying9
 a9:=Tryz.isAgg9
 z9:=Tryz.sizeOf9
 v9:=Tryz.zeroValue9
 t21:=Tryz.underlying21
 a21:=Tryz.isAgg21
 z21:=Tryz.sizeOf21
 v21:=Tryz.zeroValue21
 t31:=Tryz.underlying41
 a31:=Tryz.isAgg41
 z31:=Tryz.sizeOf41
 v31:=Tryz.zeroValue41
 t46:=Tryz.underlying189
 a46:=Tryz.isAgg189
 z46:=Tryz.sizeOf189
 v46:=Tryz.zeroValue189
 t51:=Tryz.underlying216
 a51:=Tryz.isAgg216
 z51:=Tryz.sizeOf216
 v51:=Tryz.zeroValue216
 t105:=Tryz.underlying219
 a105:=Tryz.isAgg219
 z105:=Tryz.sizeOf219
 v105:=Tryz.zeroValue219
 t119:=Tryz.underlying257
 a119:=Tryz.isAgg257
 z119:=Tryz.sizeOf257
 t138:=Tryz.underlying259
 a138:=Tryz.isAgg259
 z138:=Tryz.sizeOf259
 v138:=Tryz.zeroValue259
 t139:=Tryz.underlying260
 a139:=Tryz.isAgg260
 z139:=Tryz.sizeOf260
 v139:=Tryz.zeroValue260
 t146:=Tryz.underlying217
 a146:=Tryz.isAgg217
 z146:=Tryz.sizeOf217
 v146:=Tryz.zeroValue217
 g1:=by kernel_rfl
 g3:=by kernel_rfl
 g4:=by kernel_rfl
 i0:=by kernel_rfl
 i3:=by kernel_rfl
 i4:=by kernel_rfl
 i5:=by kernel_rfl
 i9:=by kernel_rfl
 i21:=by kernel_rfl
 i31:=by kernel_rfl
 i46:=by kernel_rfl
 i51:=by kernel_rfl
 i105:=by kernel_rfl
 i138:=by kernel_rfl
 i139:=by kernel_rfl
 i146:=by kernel_rfl
 m1:=by kernel_rfl
 s1_3:=fun w h=>Go.Proofs.cell_of_shapedOpen_int (zero:=#[.int .i64 0]) (t:=3) h (of_decide_eq_true (by kernel_rfl)) (by kernel_rfl) rfl (by kernel_rfl) (by kernel_rfl) Tryz.underlying3
 m3:=by kernel_rfl
 m4:=by kernel_rfl
def zno:Go.Shelf.Ren:=⟨fun | 171=>105 | 243=>172 | 246=>227 | 283=>263 | 284=>264 | 285=>265 | 286=>266 | 129=>286 | 317=>285 | 318=>287 | 319=>288 | 320=>289 | 337=>300 | 338=>301 | n=>n,fun | 3=>3 | 9=>9 | 2=>2 | 4=>4 | 171=>233 | 0=>0 | 53=>65 | 37=>30 | 5=>5 | 173=>236 | 212=>254 | 51=>216 | 20=>20 | 213=>255 | 46=>189 | 232=>284 | 233=>285 | n=>n,fun | 17=>1 | 18=>6 | 19=>7 | n=>n⟩
theorem znp:Go.Proofs.LaysM.n171 Tryz.prog zno where
 mixed:=by kernel_rfl
 f129:=Tryz.func286.trans (congrArg some (by kernel_rfl))
 f171:=Tryz.func105.trans (congrArg some (by kernel_rfl))
 f243:=Tryz.func172.trans (congrArg some (by kernel_rfl))
 f246:=Tryz.func227.trans (congrArg some (by kernel_rfl))
 f283:=Tryz.func263.trans (congrArg some (by kernel_rfl))
 f284:=Tryz.func264.trans (congrArg some (by kernel_rfl))
 f285:=Tryz.func265.trans (congrArg some (by kernel_rfl))
 f286:=Tryz.func266.trans (congrArg some (by kernel_rfl))
 f317:=Tryz.func285.trans (congrArg some (by kernel_rfl))
 f318:=Tryz.func287.trans (congrArg some (by kernel_rfl))
 f319:=Tryz.func288.trans (congrArg some (by kernel_rfl))
 f320:=Tryz.func289.trans (congrArg some (by kernel_rfl))
 f337:=Tryz.func300.trans (congrArg some (by kernel_rfl))
 f338:=Tryz.func301.trans (congrArg some (by kernel_rfl))
 t0:=Tryz.underlying0
 a0:=Tryz.isAgg0
 z0:=Tryz.sizeOf0
 v0:=Tryz.zeroValue0
 t2:=Tryz.underlying2
 a2:=Tryz.isAgg2
 z2:=Tryz.sizeOf2
 v2:=Tryz.zeroValue2
 t3:=Tryz.underlying3
 a3:=Tryz.isAgg3
 z3:=Tryz.sizeOf3
 v3:=Tryz.zeroValue3
 t4:=Tryz.underlying4
 a4:=Tryz.isAgg4
 z4:=Tryz.sizeOf4
 v4:=Tryz.zeroValue4
 t5:=Tryz.underlying5
 a5:=Tryz.isAgg5
 z5:=Tryz.sizeOf5
 v5:=Tryz.zeroValue5
 t9:=Tryz.underlying9
 a9:=Tryz.isAgg9
 z9:=Tryz.sizeOf9
 v9:=Tryz.zeroValue9
 t20:=Tryz.underlying20
 a20:=Tryz.isAgg20
 z20:=Tryz.sizeOf20
 v20:=Tryz.zeroValue20
 t37:=Tryz.underlying30
 a37:=Tryz.isAgg30
 z37:=Tryz.sizeOf30
 v37:=Tryz.zeroValue30
 t46:=Tryz.underlying189
 a46:=Tryz.isAgg189
 z46:=Tryz.sizeOf189
 v46:=Tryz.zeroValue189
 t51:=Tryz.underlying216
 a51:=Tryz.isAgg216
 z51:=Tryz.sizeOf216
 v51:=Tryz.zeroValue216
 t53:=Tryz.underlying65
 a53:=Tryz.isAgg65
 z53:=Tryz.sizeOf65
 v53:=Tryz.zeroValue65
 t171:=Tryz.underlying233
 a171:=Tryz.isAgg233
 z171:=Tryz.sizeOf233
 v171:=Tryz.zeroValue233
 t173:=Tryz.underlying236
 a173:=Tryz.isAgg236
 z173:=Tryz.sizeOf236
 v173:=Tryz.zeroValue236
 t212:=Tryz.underlying254
 a212:=Tryz.isAgg254
 z212:=Tryz.sizeOf254
 v212:=Tryz.zeroValue254
 t213:=Tryz.underlying255
 a213:=Tryz.isAgg255
 z213:=Tryz.sizeOf255
 t232:=Tryz.underlying284
 a232:=Tryz.isAgg284
 z232:=Tryz.sizeOf284
 v232:=Tryz.zeroValue284
 t233:=Tryz.underlying285
 a233:=Tryz.isAgg285
 z233:=Tryz.sizeOf285
 v233:=Tryz.zeroValue285
 g17:=by kernel_rfl
 g18:=by kernel_rfl
 g19:=by kernel_rfl
 i0:=by kernel_rfl
 i2:=by kernel_rfl
 i3:=by kernel_rfl
 i4:=by kernel_rfl
 i5:=by kernel_rfl
 i9:=by kernel_rfl
 i20:=by kernel_rfl
 i37:=by kernel_rfl
 i46:=by kernel_rfl
 i51:=by kernel_rfl
 i53:=by kernel_rfl
 i171:=by kernel_rfl
 i173:=by kernel_rfl
 i212:=by kernel_rfl
 i232:=by kernel_rfl
 i233:=by kernel_rfl
 m17:=by kernel_rfl
 m18:=by kernel_rfl
 m19:=by kernel_rfl
def znq:Go.Shelf.Ren:=⟨fun | 172=>193 | 244=>238 | 245=>239 | 247=>271 | 279=>272 | 280=>273 | 281=>274 | 282=>275 | 287=>291 | 316=>292 | 171=>105 | 205=>293 | 321=>303 | 322=>304 | 243=>172 | 246=>227 | 283=>263 | 284=>264 | 285=>265 | 286=>266 | 129=>286 | 317=>285 | 318=>287 | 319=>288 | 320=>289 | 337=>300 | 338=>301 | n=>n,fun | 9=>9 | 3=>3 | 75=>135 | 76=>136 | 4=>4 | 5=>5 | 167=>241 | 37=>30 | 0=>0 | 85=>242 | 2=>2 | 168=>244 | 53=>65 | 175=>261 | 46=>189 | 210=>264 | 127=>184 | 145=>273 | 143=>271 | 21=>21 | 171=>233 | 173=>236 | 212=>254 | 51=>216 | 20=>20 | 213=>255 | 232=>284 | 233=>285 | 80=>69 | n=>n,fun | 15=>4 | 16=>5 | 17=>1 | 18=>6 | 19=>7 | n=>n⟩
theorem znr:Go.Proofs.LaysC.n172 Tryz.prog znq where
 mixed:=by kernel_rfl
 f129:=Tryz.func286.trans (congrArg some (by kernel_rfl))
 f171:=Tryz.func105.trans (congrArg some (by kernel_rfl))
 f172:=Tryz.func193.trans (congrArg some (by kernel_rfl))
 f205:=Tryz.func293.trans (congrArg some (by kernel_rfl))
 f243:=Tryz.func172.trans (congrArg some (by kernel_rfl))
 f244:=Tryz.func238.trans (congrArg some (by kernel_rfl))
 f245:=Tryz.func239.trans (congrArg some (by kernel_rfl))
 f246:=Tryz.func227.trans (congrArg some (by kernel_rfl))
 f247:=Tryz.func271.trans (congrArg some (by kernel_rfl))
 f279:=Tryz.func272.trans (congrArg some (by kernel_rfl))
 f280:=Tryz.func273.trans (congrArg some (by kernel_rfl))
 f281:=Tryz.func274.trans (congrArg some (by kernel_rfl))
 f282:=Tryz.func275.trans (congrArg some (by kernel_rfl))
 f283:=Tryz.func263.trans (congrArg some (by kernel_rfl))
 f284:=Tryz.func264.trans (congrArg some (by kernel_rfl))
 f285:=Tryz.func265.trans (congrArg some (by kernel_rfl))
 f286:=Tryz.func266.trans (congrArg some (by kernel_rfl))
 f287:=Tryz.func291.trans (congrArg some (by kernel_rfl))
 f316:=Tryz.func292.trans (congrArg some (by kernel_rfl))
 f317:=Tryz.func285.trans (congrArg some (by kernel_rfl))
 f318:=Tryz.func287.trans (congrArg some (by kernel_rfl))
 f319:=Tryz.func288.trans (congrArg some (by kernel_rfl))
 f320:=Tryz.func289.trans (congrArg some (by kernel_rfl))
 f321:=Tryz.func303.trans (congrArg some (by kernel_rfl))
 f322:=Tryz.func304.trans (congrArg some (by kernel_rfl))
 f337:=Tryz.func300.trans (congrArg some (by kernel_rfl))
 f338:=Tryz.func301.trans (congrArg some (by kernel_rfl))
 t0:=Tryz.underlying0
 a0:=Tryz.isAgg0
 z0:=Tryz.sizeOf0
 v0:=Tryz.zeroValue0
 t2:=Tryz.underlying2
 a2:=Tryz.isAgg2
 z2:=Tryz.sizeOf2
 v2:=Tryz.zeroValue2
 t3:=Tryz.underlying3
 a3:=Tryz.isAgg3
 z3:=Tryz.sizeOf3
 v3:=Tryz.zeroValue3
 t4:=Tryz.underlying4
 a4:=Tryz.isAgg4
 z4:=Tryz.sizeOf4
 v4:=Tryz.zeroValue4
 t5:=Tryz.underlying5
 a5:=Tryz.isAgg5
 z5:=Tryz.sizeOf5
 v5:=Tryz.zeroValue5
 t9:=Tryz.underlying9
 a9:=Tryz.isAgg9
 z9:=Tryz.sizeOf9
 v9:=Tryz.zeroValue9
 t20:=Tryz.underlying20
 a20:=Tryz.isAgg20
 z20:=Tryz.sizeOf20
 v20:=Tryz.zeroValue20
 t21:=Tryz.underlying21
 a21:=Tryz.isAgg21
 z21:=Tryz.sizeOf21
 v21:=Tryz.zeroValue21
 t37:=Tryz.underlying30
 a37:=Tryz.isAgg30
 z37:=Tryz.sizeOf30
 v37:=Tryz.zeroValue30
 t46:=Tryz.underlying189
 a46:=Tryz.isAgg189
 z46:=Tryz.sizeOf189
 v46:=Tryz.zeroValue189
 t51:=Tryz.underlying216
 a51:=Tryz.isAgg216
 z51:=Tryz.sizeOf216
 v51:=Tryz.zeroValue216
 t53:=Tryz.underlying65
 a53:=Tryz.isAgg65
 z53:=Tryz.sizeOf65
 v53:=Tryz.zeroValue65
 t75:=Tryz.underlying135
 a75:=Tryz.isAgg135
 z75:=Tryz.sizeOf135
 v75:=Tryz.zeroValue135
 t76:=Tryz.underlying136
 a76:=Tryz.isAgg136
 z76:=Tryz.sizeOf136
 v76:=Tryz.zeroValue136
 t85:=Tryz.underlying242
 a85:=Tryz.isAgg242
 z85:=Tryz.sizeOf242
 v85:=Tryz.zeroValue242
 t127:=Tryz.underlying184
 a127:=Tryz.isAgg184
 z127:=Tryz.sizeOf184
 v127:=Tryz.zeroValue184
 t143:=Tryz.underlying271
 a143:=Tryz.isAgg271
 z143:=Tryz.sizeOf271
 v143:=Tryz.zeroValue271
 t145:=Tryz.underlying273
 a145:=Tryz.isAgg273
 z145:=Tryz.sizeOf273
 v145:=Tryz.zeroValue273
 t167:=Tryz.underlying241
 a167:=Tryz.isAgg241
 z167:=Tryz.sizeOf241
 v167:=Tryz.zeroValue241
 t168:=Tryz.underlying244
 a168:=Tryz.isAgg244
 z168:=Tryz.sizeOf244
 v168:=Tryz.zeroValue244
 t171:=Tryz.underlying233
 a171:=Tryz.isAgg233
 z171:=Tryz.sizeOf233
 v171:=Tryz.zeroValue233
 t173:=Tryz.underlying236
 a173:=Tryz.isAgg236
 z173:=Tryz.sizeOf236
 v173:=Tryz.zeroValue236
 t175:=Tryz.underlying261
 a175:=Tryz.isAgg261
 z175:=Tryz.sizeOf261
 v175:=Tryz.zeroValue261
 t210:=Tryz.underlying264
 a210:=Tryz.isAgg264
 z210:=Tryz.sizeOf264
 v210:=Tryz.zeroValue264
 t212:=Tryz.underlying254
 a212:=Tryz.isAgg254
 z212:=Tryz.sizeOf254
 v212:=Tryz.zeroValue254
 t213:=Tryz.underlying255
 a213:=Tryz.isAgg255
 z213:=Tryz.sizeOf255
 t232:=Tryz.underlying284
 a232:=Tryz.isAgg284
 z232:=Tryz.sizeOf284
 v232:=Tryz.zeroValue284
 t233:=Tryz.underlying285
 a233:=Tryz.isAgg285
 z233:=Tryz.sizeOf285
 v233:=Tryz.zeroValue285
 g15:=by kernel_rfl
 g16:=by kernel_rfl
 g17:=by kernel_rfl
 g18:=by kernel_rfl
 g19:=by kernel_rfl
 t80:=Tryz.underlying69
 a80:=Tryz.isAgg69
 z80:=Tryz.sizeOf69
 v80:=Tryz.zeroValue69
 i0:=by kernel_rfl
 i2:=by kernel_rfl
 i3:=by kernel_rfl
 i4:=by kernel_rfl
 i5:=by kernel_rfl
 i9:=by kernel_rfl
 i20:=by kernel_rfl
 i21:=by kernel_rfl
 i37:=by kernel_rfl
 i46:=by kernel_rfl
 i51:=by kernel_rfl
 i53:=by kernel_rfl
 i75:=by kernel_rfl
 i76:=by kernel_rfl
 i80:=by kernel_rfl
 i85:=by kernel_rfl
 i127:=by kernel_rfl
 i143:=by kernel_rfl
 i145:=by kernel_rfl
 i167:=by kernel_rfl
 i168:=by kernel_rfl
 i171:=by kernel_rfl
 i173:=by kernel_rfl
 i175:=by kernel_rfl
 i210:=by kernel_rfl
 i212:=by kernel_rfl
 i232:=by kernel_rfl
 i233:=by kernel_rfl
 m15:=by kernel_rfl
 m16:=by kernel_rfl
 m17:=by kernel_rfl
 m18:=by kernel_rfl
 m19:=by kernel_rfl
 c0:=by kernel_rfl
 c2:=by kernel_rfl
 c3:=by kernel_rfl
 c4:=by kernel_rfl
 c5:=by kernel_rfl
 c9:=by kernel_rfl
 c20:=by kernel_rfl
 c21:=by kernel_rfl
 c37:=by kernel_rfl
 c46:=by kernel_rfl
 c51:=by kernel_rfl
 c53:=by kernel_rfl
 c75:=by kernel_rfl
 c76:=by kernel_rfl
 c80:=by kernel_rfl
 c85:=by kernel_rfl
 c127:=by kernel_rfl
 c143:=by kernel_rfl
 c145:=by kernel_rfl
 c167:=by kernel_rfl
 c168:=by kernel_rfl
 c171:=by kernel_rfl
 c173:=by kernel_rfl
 c175:=by kernel_rfl
 c210:=by kernel_rfl
 c212:=by kernel_rfl
 c213:=by kernel_rfl
 c232:=by kernel_rfl
 c233:=by kernel_rfl
def zns:Go.Shelf.Ren:=⟨fun | 189=>296 | 125=>299 | 257=>308 | 128=>317 | 129=>286 | 294=>319 | 295=>320 | 296=>321 | 297=>322 | 298=>323 | 299=>324 | 216=>325 | 300=>326 | 301=>327 | 328=>334 | 329=>329 | 330=>330 | 331=>335 | 332=>336 | 215=>231 | 343=>338 | n=>n,fun | 28=>44 | 3=>3 | 46=>189 | 0=>0 | 51=>216 | 53=>65 | 4=>4 | 183=>279 | 182=>278 | 131=>84 | 5=>5 | 9=>9 | 218=>291 | 222=>295 | 228=>299 | 229=>138 | n=>n,fun | n=>n⟩
theorem ztj:Go.Proofs.Lays.n189 Tryz.prog zns where
 mixed:=by kernel_rfl
 f125:=Tryz.func299.trans (congrArg some (by kernel_rfl))
 f128:=Tryz.func317.trans (congrArg some (by kernel_rfl))
 f129:=Tryz.func286.trans (congrArg some (by kernel_rfl))
 f189:=Tryz.func296.trans (congrArg some (by kernel_rfl))
 f215:=Tryz.func231.trans (congrArg some (by kernel_rfl))
 f216:=Tryz.func325.trans (congrArg some (by kernel_rfl))
 f257:=Tryz.func308.trans (congrArg some (by kernel_rfl))
 f294:=Tryz.func319.trans (congrArg some (by kernel_rfl))
 f295:=Tryz.func320.trans (congrArg some (by kernel_rfl))
 f296:=Tryz.func321.trans (congrArg some (by kernel_rfl))
 f297:=Tryz.func322.trans (congrArg some (by kernel_rfl))
 f298:=Tryz.func323.trans (congrArg some (by kernel_rfl))
 f299:=Tryz.func324.trans (congrArg some (by kernel_rfl))
 f300:=Tryz.func326.trans (congrArg some (by kernel_rfl))
 f301:=Tryz.func327.trans (congrArg some (by kernel_rfl))
 f328:=Tryz.func334.trans (congrArg some (by kernel_rfl))
 f329:=Tryz.func329.trans (congrArg some (by kernel_rfl))
 f330:=Tryz.func330.trans (congrArg some (by kernel_rfl))
 f331:=Tryz.func335.trans (congrArg some (by kernel_rfl))
 f332:=Tryz.func336.trans (congrArg some (by kernel_rfl))
 f343:=Tryz.func338.trans (congrArg some (by kernel_rfl))
 t0:=Tryz.underlying0
 a0:=Tryz.isAgg0
 z0:=Tryz.sizeOf0
 v0:=Tryz.zeroValue0
 t3:=Tryz.underlying3
 a3:=Tryz.isAgg3
 z3:=Tryz.sizeOf3
 v3:=Tryz.zeroValue3
 t4:=Tryz.underlying4
 a4:=Tryz.isAgg4
 z4:=Tryz.sizeOf4
 v4:=Tryz.zeroValue4
 t5:=Tryz.underlying5
 a5:=Tryz.isAgg5
 z5:=Tryz.sizeOf5
 v5:=Tryz.zeroValue5
 t9:=Tryz.underlying9
 a9:=Tryz.isAgg9
 z9:=Tryz.sizeOf9
 v9:=Tryz.zeroValue9
 t28:=Tryz.underlying44
 a28:=Tryz.isAgg44
 z28:=Tryz.sizeOf44
 v28:=Tryz.zeroValue44
 t46:=Tryz.underlying189
 a46:=Tryz.isAgg189
 z46:=Tryz.sizeOf189
 v46:=Tryz.zeroValue189
 t51:=Tryz.underlying216
 a51:=Tryz.isAgg216
 z51:=Tryz.sizeOf216
 v51:=Tryz.zeroValue216
 t53:=Tryz.underlying65
 a53:=Tryz.isAgg65
 z53:=Tryz.sizeOf65
 v53:=Tryz.zeroValue65
 t131:=Tryz.underlying84
 a131:=Tryz.isAgg84
 z131:=Tryz.sizeOf84
 v131:=Tryz.zeroValue84
 t182:=Tryz.underlying278
 a182:=Tryz.isAgg278
 z182:=Tryz.sizeOf278
 v182:=Tryz.zeroValue278
 t183:=Tryz.underlying279
 a183:=Tryz.isAgg279
 z183:=Tryz.sizeOf279
 v183:=Tryz.zeroValue279
 t218:=Tryz.underlying291
 a218:=Tryz.isAgg291
 z218:=Tryz.sizeOf291
 v218:=Tryz.zeroValue291
 t222:=Tryz.underlying295
 a222:=Tryz.isAgg295
 z222:=Tryz.sizeOf295
 v222:=Tryz.zeroValue295
 t228:=Tryz.underlying299
 a228:=Tryz.isAgg299
 z228:=Tryz.sizeOf299
 v228:=Tryz.zeroValue299
 t229:=Tryz.underlying138
 a229:=Tryz.isAgg138
 z229:=Tryz.sizeOf138
 v229:=Tryz.zeroValue138
def zpb:Go.Shelf.Ren:=⟨fun | 20=>297 | n=>n,fun | 22=>44 | 3=>3 | 4=>4 | 0=>0 | n=>n,fun | n=>n⟩
theorem zuc:Go.Proofs.Lays2.n20 Tryz.prog zpb where
 mixed:=by kernel_rfl
 f20:=Tryz.func297.trans (congrArg some (by kernel_rfl))
 t0:=Tryz.underlying0
 a0:=Tryz.isAgg0
 z0:=Tryz.sizeOf0
 v0:=Tryz.zeroValue0
 t3:=Tryz.underlying3
 a3:=Tryz.isAgg3
 z3:=Tryz.sizeOf3
 v3:=Tryz.zeroValue3
 t4:=Tryz.underlying4
 a4:=Tryz.isAgg4
 z4:=Tryz.sizeOf4
 v4:=Tryz.zeroValue4
 t22:=Tryz.underlying44
 a22:=Tryz.isAgg44
 z22:=Tryz.sizeOf44
 v22:=Tryz.zeroValue44
 i3:=by kernel_rfl
def zqs:Go.Shelf.Ren:=⟨fun | 4=>194 | n=>n,fun | 3=>3 | 4=>4 | 9=>9 | 20=>20 | 0=>0 | 22=>22 | 25=>74 | n=>n,fun n=>n⟩
theorem zud:Go.Proofs.Lays8.n4 Tryz.prog zqs where
 mixed:=by kernel_rfl
 f4:=⟨"slices.Grow[[]loop.example/g01335/impl.Walker,loop.example/g01335/impl.Walker]", by decide,Tryz.func194.trans (congrArg some (by kernel_rfl))⟩
 t0:=Tryz.underlying0
 a0:=Tryz.isAgg0
 z0:=Tryz.sizeOf0
 v0:=Tryz.zeroValue0
 t3:=Tryz.underlying3
 a3:=Tryz.isAgg3
 z3:=Tryz.sizeOf3
 v3:=Tryz.zeroValue3
 t4:=Tryz.underlying4
 a4:=Tryz.isAgg4
 z4:=Tryz.sizeOf4
 v4:=Tryz.zeroValue4
 t9:=Tryz.underlying9
 a9:=Tryz.isAgg9
 z9:=Tryz.sizeOf9
 v9:=Tryz.zeroValue9
 t20:=Tryz.underlying20
 a20:=Tryz.isAgg20
 z20:=Tryz.sizeOf20
 v20:=Tryz.zeroValue20
 t22:=Tryz.underlying22
 a22:=Tryz.isAgg22
 z22:=Tryz.sizeOf22
 v22:=Tryz.zeroValue22
theorem grow194.ok:zpO Tryz.prog 194 74 2:=by
 obtain ⟨i0,hi,hz0,hs,hb⟩ : ∃ i0,Tryz.prog.info? 74=some i0/\i0.zero.isSome=true/\i0.size=2/\i0.bytes=16:=⟨(Tryz.prog.info? 74).get (by kernel_rfl),(Option.some_get _).symm,by kernel_rfl,by kernel_rfl,by kernel_rfl⟩
 obtain ⟨z,hz⟩:=Option.isSome_iff_exists.1 hz0
 have hc:z.cells.size=2:=by
  have h:i0.zero.map (fun z=>z.cells.size)=some 2:=by
   have h':(Tryz.prog.info? 74).bind (fun i=>i.zero.map fun z=>z.cells.size)=some 2:=by kernel_rfl
   rw [hi] at h'; exact h'
  rw [hz] at h
  exact Option.some.inj h
 refine zua ⟨Tryz.f194,Tryz.func194,by kernel_rfl,by kernel_rfl⟩ hc (bytes:=i0.bytes) (by omega) (fun w=>?_) (fun n w h0 h1 h2=>?_)
 · exact Go.Proofs.Any8.slices_Grow_room zud none 0 0 0 w (by omega) (by omega) (by omega) (by omega)
 · have h:=Go.Proofs.Any8.slices_Grow_grow zud i0 z hi hz (by omega) none 0 0 n [] w (by omega) (by omega) (by rw [Nat.zero_add]; exact h1) (by rw [Nat.zero_add]; exact h2) (by simp) (fun _=>rfl) (fun a h=>by cases h)
   refine h.mono ?_
   rintro q w' ⟨rfl,rfl⟩
   rw [Nat.zero_add,Nat.sub_zero]
   refine ⟨rfl,?_⟩
   rw [show (List.toArray ([]:List Value)) = #[] from rfl,Array.empty_append]
   rfl
theorem sort296.ok:zpN Tryz.prog 296 3:=zt9 ⟨Tryz.f296,Tryz.func296,by kernel_rfl,by kernel_rfl⟩ fun b off cap zs w h1 h2 h3=>Go.Proofs.Any.slices_Sort_int ztj b off cap zs w h1 h2 h3
theorem compact297.ok:ziA Tryz.prog 297 3:=zqp ⟨Tryz.f297,Tryz.func297,by kernel_rfl,by kernel_rfl⟩ fun b off cap zs w h1 h2 h3=>Go.Proofs.Any.slices_Compact_int zuc b off cap zs w h1 h2 h3
theorem zue:tab.ok Tryz.prog Cx=true:=by kernel_rfl
theorem ztk:tab.F.map (fun x=>Tryz.prog.funcs[x.1]?)=tab.F.map (fun x=>some x.2):=by kernel_rfl
theorem zqt:tab.F.all (fun x=>!(x.2.name == "runtime.NumGoroutine"))=true:=by kernel_rfl
theorem fits:Fits Tryz.prog Cx:=Tab.fits zue ztk zqt (by kernel_rfl) (by
 intro g op h
 simp only [dels,List.mem_cons,List.not_mem_nil,or_false,Prod.mk.injEq] at h
 rcases h with ⟨rfl,rfl⟩ | ⟨rfl,rfl⟩ | ⟨rfl,rfl⟩ | ⟨rfl,rfl⟩
 · exact del141.ok
 · exact ⟨_,_,rfl,rfl,grow194.ok⟩
 · exact sort296.ok
 · exact compact297.ok)
theorem ztl (Γ:Gr):zdJ Tryz.prog Cx Γ 49 (zhb (Cx.sig 49) 74 ((.pair i6 i6)) 8796093022208) :=
 zob fits (fn:=Tryz.f49) (by kernel_rfl) (by kernel_rfl) (by kernel_rfl) (fun x=>by kernel_rfl) (by kernel_rfl)
theorem zrZ (Γ:Gr):zdJ Tryz.prog Cx Γ 282 (zhb (Cx.sig 282) 155 ((.pair i6 i6)) 8796093022208) :=
 zob fits (fn:=Tryz.f282) (by kernel_rfl) (by kernel_rfl) (by kernel_rfl) (fun x=>by kernel_rfl) (by kernel_rfl)
theorem zoi:Go.Proofs.Builder.Extra Tryz.prog zjk where
 sizeBuilder:=by kernel_rfl
 liesBuilder:=by kernel_rfl
 t5:=Tryz.underlying5
 a5:=Tryz.isAgg5
 z5:=Tryz.sizeOf5
 v5:=Tryz.zeroValue5
 infoByte:=by kernel_rfl
 cellsByte:=by kernel_rfl
 sizeByte:=by kernel_rfl
 neB5:=by decide
theorem zuf:zdJ Tryz.prog Cx (zhM Tryz.prog) 47 (zmm (Cx.sig 47) oneB fun s t=>.bool (zci s t)) :=
 zk3 (by kernel_rfl) fun s c w=>Go.Proofs.Any.strings_Contains_one zti s c w
theorem zqu (xs:List ByteArray) (s:ByteArray):(zhT xs s).size=(Lib.join (xs.map (·.data.toList)) s.data.toList).length:=by simp [zhT,ByteArray.size]
theorem zug:zdJ Tryz.prog Cx (zhM Tryz.prog) 57 (zof (Cx.sig 57) 9) :=
 zqm (by kernel_rfl) fun A c xs s w hc h1 h2 hx _=>by
  cases xs with
  | nil=>exact (Go.Proofs.Any.strings_Join_none zqr zoi A c s w).mono fun e w' ⟨he,hw⟩=>⟨he,hw ▸ Below.refl _ _⟩
  | cons x l =>
   rcases hx with hx | ⟨g,o,rfl,hg,hcell⟩
   · cases hx
   · rw [zqu] at h2
     exact Go.Proofs.Any.strings_Join zqr zoi g o c (x::l) s w hcell hg h1 hc h2
theorem zuh:zdJ Tryz.prog Cx (zhM Tryz.prog) 92 (zk1 (Cx.sig 92) 9) :=
 zo8 (by kernel_rfl) fun s t w h1 h2 hT=>by
  obtain ⟨m,hm⟩:=DoorW.num hT
  have hlen:=Lib.splitB_all t h2 0 _ s rfl
  have hle:=Lib.countB_le t h2 s.size s (Nat.le_refl _)
  refine (Go.Proofs.Any.strings_Split { lays146 with } lays146.i9 s t m w h1 hm h2).mono ?_
  rintro e w' ⟨rfl,rfl⟩
  refine ⟨w.heap.size,Lib.countB s t+1,by unfold zdK; rw [hlen],by unfold zdK; rw [hlen]; exact Nat.le_refl _,(Below.refl _ _).alloc (Nat.le_refl _) _,Nat.le_refl _,?_,fun j y hj=>?_⟩
  · exact (Array.getElem?_eq_some_iff.1 (heap_alloc_new w _)).1
  · rw [cell_of_row _ _ _ _ _ _ (heap_alloc_new w _)]
    unfold zdK at hj
    simp [hj]
theorem ztm:zdJ Tryz.prog Cx (zhM Tryz.prog) 105 (zoe (Cx.sig 105)) :=
 zql (by kernel_rfl) fun n w h0 h1 hT=>(Go.Proofs.Any.strconv_Itoa znp n h0 h1 w (DoorW.tab hT)).mono (by
  rintro e w' ⟨rfl,k,os,rfl⟩
  exact ⟨rfl,Lib.below_grow _ _ (Nat.le_refl _) k os⟩)
section
open Go.Deep
set_option maxHeartbeats 8000000
theorem zmq (a0:ByteArray) (r1:Int) (r2:Bool) (w:World) (hT:DoorW Tryz.prog w) (h:zd6 a0=some (r1,r2)) :
 Calls Tryz.prog 138 #[.string a0] w fun e w'=>e = .returned (.tuple #[.int .i64 r1,.bool r2])/\Below w.heap.size w w':=by
 unfold zd6 numB at h
 split at h
 rotate_left
 · cases h
 rename_i hc
 obtain ⟨ht,⟨t1,p1,h1⟩,⟨t2,p2,h2⟩,_⟩:=hT
 cases he:Lib.atoiAll a0.data.toList
 next n =>
  rw [he] at h
  obtain ⟨n0,n1⟩:=Lib.atoiAll_bounds he
  go_enter Tryz.func138,Tryz.ntmps138
  go_wp2_with (go_at_call 193; refine (Go.Proofs.Any.strconv_Atoi_ok znr a0 (by omega) n he w).mono ?_; rintro e W1 ⟨rfl,hW⟩)
  have hb1:Below w.heap.size w W1:=by
   rcases hW with rfl | ⟨t,rfl⟩
   · exact Below.refl _ _
   · exact Lib.bytesWorld_below _ _ _
  clear hW
  have ht1:=Lib.tabBelow_of_tabIs ht _ hb1
  by_cases hi:Lib.itoa n=a0.data.toList
  · rw [if_pos hi] at h
    cases h
    have e0:(⟨(Lib.itoa r1).toArray⟩ : ByteArray)=a0:=by apply ByteArray.ext; simp [hi]
    go_wp2_with (go_at_call 105; refine (Go.Proofs.Any.strconv_Itoa znp r1 n0 n1 W1 ht1).mono ?_; rintro e W2 ⟨rfl,k,os,rfl⟩)
    go_ret2
    exact ⟨rfl,hb1.trans ((Lib.below_grow _ _ (Nat.le_refl _) k os).mono hb1.size)⟩
  · rw [if_neg hi] at h
    cases h
    have tl:a0.toList=a0.data.toList:=by
     obtain ⟨⟨l⟩⟩:=a0
     exact ByteArray.toList_mk _
    have e0:(Lib.itoa n == a0.toList)=false:=by
     rw [tl]
     simpa using hi
    clear tl
    go_wp2_with (go_at_call 105; refine (Go.Proofs.Any.strconv_Itoa znp n n0 n1 W1 ht1).mono ?_; rintro e W2 ⟨rfl,k,os,rfl⟩)
    go_ret2
    exact ⟨rfl,hb1.trans ((Lib.below_grow _ _ (Nat.le_refl _) k os).mono hb1.size)⟩
 next =>
  rw [he] at h
  cases h
  go_enter Tryz.func138,Tryz.ntmps138
  go_wp2_with (go_at_call 193; refine (Go.Proofs.Any.strconv_Atoi_syntax_var znr a0 hc he t1 p1 w h1).mono ?_; rintro e W1 ⟨N,rfl,_,_,hb1⟩)
  go_wp2
  go_ret2
  exact ⟨rfl,hb1⟩
 next =>
  rw [he] at h
  cases h
  go_enter Tryz.func138,Tryz.ntmps138
  go_wp2_with (go_at_call 193; refine (Go.Proofs.Any.strconv_Atoi_range_var znr a0 hc he t2 p2 w h2).mono ?_; rintro e W1 ⟨N,rfl,_,_,hb1⟩)
  go_wp2
  go_ret2
  exact ⟨rfl,hb1⟩
end
theorem ztn:zdJ Tryz.prog Cx (zhM Tryz.prog) 138 (zig (Cx.sig 138)) :=
 znk (by kernel_rfl) fun s w hs hT=>zmq s (numB s).1 (numB s).2 w hT (by unfold zd6; rw [if_pos hs])
theorem zqv (Γ:Gr):∀ g p,zjh tab.sig clones g=some p->zdJ Tryz.prog Cx Γ g p:=by
 intro g p h'
 unfold zjh at h'
 split at h'
 case h_2=>cases h'
 rename_i e t lim hl
 have hm:=zaE hl
 simp only [clones,List.mem_cons,List.not_mem_nil,or_false,Prod.mk.injEq] at hm
 rcases hm with ⟨rfl,rfl,rfl,rfl⟩ | ⟨rfl,rfl,rfl,rfl⟩
 · cases h'; exact ztl Γ
 · cases h'; exact zrZ Γ
theorem zr0:∀ g p,Cx.prim g=some p->zdJ Tryz.prog Cx (zhM Tryz.prog) g p:=by
 intro g p h
 have h0:zk2 tab.sig hands clones g=some p:=h
 unfold zk2 at h0
 split at h0
 · rename_i hh hl
   have hm:=zaE hl
   simp only [hands,List.mem_cons,List.not_mem_nil,or_false,Prod.mk.injEq] at hm
   rcases hm with ⟨rfl,rfl⟩ | ⟨rfl,rfl⟩ | ⟨rfl,rfl⟩ | ⟨rfl,rfl⟩ | ⟨rfl,rfl⟩
   · cases h0; exact zuf
   · cases h0; exact zug
   · cases h0; exact zuh
   · cases h0; exact ztm
   · cases h0; exact ztn
 · exact zqv _ g p h0
end Go.Proofs.YtdhkgmhdengnkaaGreatDoor.Li
