import PyProof.Rows.All
import Wide.All
import OpenK.AllK
import Wide.FinOn
import PyProof.P3Statements
import PyProof.ZipIter
import KE.KRevIter
import KE.KDictList
import OpenK.KLine
import KE.KIsAll
import PyProof.ExcAttrAll.ValueError
import KE.KLam
import KE.KSortKey
import KE.KItem
import KE.KMinKey
import OpenK.KMore
import KE.KRevSl
import PyProof.EnumMake
import PyProof.EnumStmt
import PyProof.EnumFor
import PyProof.ExcBaseAll.ValueError
import PyProof.NsDelKeeps
import PySem.Challenge.RW_uf060017_09
set_option autoImplicit false
set_option linter.unusedVariables false
set_option maxRecDepth 100000
set_option tactic.hygienic false
namespace Mine
open PySem PyProof.Rows PySem.W
noncomputable def dZ (p:Program) (i:Nat):Stmt:=(p.main.body[i]?).getD (.Pass ⟨0,0,0,0⟩)
set_option backward.match.sparseCases false in
noncomputable def lM (s:Stmt) (j:Nat):Stmt:=match s with
 | .ClassDef _ _ _ b _ _ _ _ _ _ _=>(b[j]?).getD s
 | _=>s
set_option backward.match.sparseCases false in
noncomputable def fnD (s:Stmt) (name qual:Str) (gl:Addr) (cl:List (Str × Addr)) (df kd doc md:Value) (an:Option Addr) (cd ct:Value) (bl:Addr):Data:=match s with
 | .FunctionDef _ a b _ _ _ sc _ _ _=>.func ⟨name,qual,a,.stmts b,sc,gl,cl,df,kd,doc,md,an,cd,ct,bl⟩
 | _=>.plain
noncomputable def en (P:Params) (s:Str) (t:Nat) (v:Value):DictEntry:=⟨PyData.keyHash P s,.str s t,v⟩
theorem hd_nn {α : Type} {a : α} {G : Prop} (h : none = some a) : G := nomatch h
noncomputable def hdRun (so : Nat → Option Value → Thread → Bool) (sT : (Code → Sem Fin) → Program → World → SharedT → Thread → Option (SharedT × Thread)) (den : Code → Sem Fin) (p : Program) (w : World) (n₀ : Nat) (ann : Option Value) (n : Nat) : SharedT → Thread → Option SharedT :=
  Nat.rec (motive := fun _ => SharedT → Thread → Option SharedT) (fun _ _ => none) (fun _ ih s t => cond (through t) (some s) (cond (so n₀ ann t) ((sT den p w s t).bind fun r => ih r.1 r.2) none)) n
theorem hdRun_of {tb : String → Option Builtin} {p : Program} {w : World} {n₀ : Nat} {ann : Option Value} (n : Nat) : ∀ (s : SharedT) (t : Thread) {s' : SharedT}, hdRun stepOk stepT (denote tb) p w n₀ ann n s t = some s' → topRun tb p w n₀ ann n s.abs t = some s'.abs :=
  Nat.rec (motive := fun n => ∀ (s : SharedT) (t : Thread) {s' : SharedT}, hdRun stepOk stepT (denote tb) p w n₀ ann n s t = some s' → topRun tb p w n₀ ann n s.abs t = some s'.abs) (fun _ _ _ h => hd_nn h) (fun n ih s t s' => by
    show cond (through t) (some s) (cond (stepOk n₀ ann t) ((stepT (denote tb) p w s t).bind fun r => hdRun stepOk stepT (denote tb) p w n₀ ann n r.1 r.2) none) = some s' → (match through t with
      | true => some s.abs
      | false => match stepOk n₀ ann t with
        | false => none
        | true => match step (denote tb) p w s.abs t with
          | .go s' t' => topRun tb p w n₀ ann n s' t'
          | .halt _ _ => none) = some s'.abs
    cases through t with
    | true => exact fun h => congrArg (Option.map SharedT.abs) h
    | false =>
      cases stepOk n₀ ann t with
      | false => exact fun h => hd_nn h
      | true =>
        cases hs : stepT (denote tb) p w s t with
        | none => exact fun h => hd_nn h
        | some r => rw [stepT_spec hs]; exact ih r.1 r.2) n
noncomputable def hdTree (l : List Obj) : Nat → BT → BT := List.rec (motive := fun _ => Nat → BT → BT) (fun _ t => t) (fun o _ ih i t => ih (i + 1) (t.ins i o)) l
noncomputable def hdBoot (w : World) (os : OsState) : SharedT := ⟨hdTree (boot_heap w.params).objs.toList 0 .nil, 11, (boot_heap w.params).life, Array.mk [], boot_drawn, boot_toks, os⟩
theorem hdBoot_abs : ∀ w : World, (fun os => (hdBoot w os).abs) = fun os => ⟨boot_heap w.params, Array.mk [], boot_drawn, boot_toks, os⟩ := fun w => by kernel_rfl
theorem hd_some {x : Option Shared} {a : Heap} {b : Array GenState} {c : Drawn} {d : Nat} : x.map (fun s => (s.heap, s.gens, s.drawn, s.toks)) = some (a, b, c, d) → ∃ os, x = some ⟨a, b, c, d, os⟩ :=
  Option.rec (motive := fun x => x.map (fun s : Shared => (s.heap, s.gens, s.drawn, s.toks)) = some (a, b, c, d) → ∃ os, x = some ⟨a, b, c, d, os⟩) (fun e => hd_nn e) (fun s e => ⟨s.os, congrArg (fun x => some (Shared.mk x.1 x.2.1 x.2.2.1 x.2.2.2 s.os)) (Option.some.inj e)⟩) x
noncomputable def hdSee (p : Program) (im : List Stmt → List Str) (h h' : Heap) (s : Shared) : Bool := staticsOk (im p.main.body) h h' && namesBound p h' && gensDone s && laidKept h h'
theorem hd_top {tb : String → Option Builtin} {p : Program} {w : World} {N n₀ : Nat} {ann : Option Value} {h : Heap} {d : Drawn} {k : Nat} {os : OsState} {s : Shared} (a : (h.isNs mainGlobals, h.objs.size, h.nsMap mainGlobals "__annotations__") = (true, n₀, ann))
    (r : topRun tb p w n₀ ann N ⟨h, Array.mk [], d, k, os⟩ (topStub p) = some s) (v : hdSee p importedModules h s.heap s = true) : topFrom tb p w N ⟨h, Array.mk [], d, k, os⟩ = some s := by
  show (match h.isNs mainGlobals && true with
      | true => (topRun tb p w h.objs.size (h.nsMap mainGlobals "__annotations__") N ⟨h, Array.mk [], d, k, os⟩ (topStub p)).bind fun s₁ => match hdSee p importedModules h s₁.heap s₁ with
          | true => some s₁
          | false => none
      | false => none) = some s
  rw [(Prod.mk.inj a).1, (Prod.mk.inj (Prod.mk.inj a).2).1, (Prod.mk.inj (Prod.mk.inj a).2).2, r]
  show (match hdSee p importedModules h s.heap s with
          | true => some s
          | false => none) = some s
  rw [v]
theorem hd_den : hdRun stepOk stepT (denote treeTable) = hdRun Fast.tw6613529449190102663 Fast.tw10156331382660048174 (Fast.tw11892475500146522536 Fast.tw14364793385576792824) := by rw [Fast.te6613529449190102663, Fast.te10156331382660048174, Fast.te11892475500146522536, Fast.te14364793385576792824]
theorem hd_seen : (fun q loose b => openSeen q loose (importedModules b)) = fun q loose b => Fast.tw4187177175401517315 q loose (Fast.tw5923862056798008813 b) := by rw [Fast.te5923862056798008813, Fast.te4187177175401517315]
theorem kS {p q : Program} {loose : List Str} {Xt : Shared → Bool} {α : Type} {Yf : Shared → α} {Ya : World → α} {N : Nat} {g0 : Bool}
    (he : opening p = plainProg p.main.scope.names) (hN : Nat.ble 600 N = true) (hf : ∀ s, fenceModules? p s = some s)
    (h : ∀ w : World, (fun os : OsState => (hdRun Fast.tw6613529449190102663 Fast.tw10156331382660048174 (Fast.tw11892475500146522536 Fast.tw14364793385576792824) p w 11 (some (.ref 6)) N (hdBoot w os) (topStub p)).map (fun s => (hdSee p Fast.tw5923862056798008813 (boot_heap w.params) s.abs.heap s.abs, Fast.tw4187177175401517315 q loose (Fast.tw5923862056798008813 p.main.body) Xt g0 s.abs, Yf s.abs))) = fun _ => some (true, openGood q loose, Ya w)) :
    LeftO p q loose Xt Yf Ya N g0 := fun w =>
  (hd_some (boot_open he hN hf w)).elim fun os e => (Option.map_eq_some_iff.mp (congrFun (h w) os)).elim fun s r =>
    (congrArg (fun x => (Option.bind x (topFrom treeTable p w N)).map _) e).trans ((congrArg (Option.map _) (hd_top (s := s.abs) (by kernel_rfl) ((congrArg (fun x => topRun treeTable p w 11 (some (.ref 6)) N x (topStub p)) (congrFun (hdBoot_abs w) os)).symm.trans (hdRun_of _ _ _ ((congrArg (fun f => f p w 11 (some (.ref 6)) N (hdBoot w os) (topStub p)) hd_den).trans r.1))) ((congrArg (fun f => hdSee p f (boot_heap w.params) s.abs.heap s.abs) Fast.te5923862056798008813).trans (congrArg Prod.fst r.2)))).trans (congrArg some ((congrArg (fun f => (f q loose p.main.body Xt g0 s.abs, Yf s.abs)) hd_seen).trans (congrArg Prod.snd r.2))))
end Mine
namespace Mine
open PySem PyProof.Rows PySem.W
noncomputable def kOf (p:Program) (P:Params):Frag:=[
 (2,⟨.none,none,.dict ⟨[]⟩ 0,⟨[]⟩⟩),
 (3,⟨.type "dict",none,.dict ⟨[en P "__name__" 165 (.str "law_uf060017_09" 508),en P "__doc__" 166 (.none),en P "__package__" 167 (.none),en P "__loader__" 168 (.builtin "__main__.__loader__#opaque"),en P "__spec__" 169 (.none),en P "__annotations__" 170 (.ref 6),en P "__builtins__" 171 (.ref 4),en P "__file__" 173 (.str "/claim/cut.py" 172),en P "__cached__" 174 (.none),en P "settled" 194 (.ref 19),en P "PaceError" 214 (.ref 29),en P "BadCount" 230 (.ref 42),en P "NoMeeting" 246 (.ref 54),en P "BadDelay" 262 (.ref 66),en P "Apart" 278 (.ref 78),en P "NoRing" 294 (.ref 90),en P "BadPace" 310 (.ref 102),en P "common" 321 (.ref 111),en P "lowest" 330 (.ref 118),en P "mean" 342 (.ref 125),en P "led_on" 352 (.ref 132),en P "ring_behind" 363 (.ref 139),en P "slower" 380 (.ref 146),en P "any_ring" 386 (.ref 151),en P "pace" 397 (.ref 158),en P "MOST_MEETINGS" 401 (.int (12) 400),en P "MOST_WAYS" 403 (.int (60) 402),en P "MOST_DELAY" 405 (.int (9999) 404),en P "is_whole" 414 (.ref 165),en P "come_to" 426 (.ref 172),en P "is_joined" 432 (.ref 177),en P "Web" 507 (.ref 228),en P "_law_cell_at" 517 (.ref 239),en P "_law_whole" 524 (.ref 246),en P "_law_mixed" 532 (.ref 253),en P "_law_ways" 546 (.ref 260),en P "_law_slow_ways" 556 (.ref 267),en P "_law_times" 568 (.ref 274),en P "_law_next" 574 (.ref 279),en P "_law_gap" 584 (.ref 286),en P "_law_due" 601 (.ref 293),en P "_law_words" 607 (.ref 298),en P "_law_refused" 617 (.ref 305),en P "_law_settled_good" 623 (.ref 310),en P "_law_stirred" 629 (.ref 315),en P "law" 635 (.ref 320)]⟩ 46,⟨[]⟩⟩),
 (15,⟨.type "tuple",none,.seq ⟨[]⟩ 0,⟨[]⟩⟩),
 (18,⟨.type "code",none,.fields ⟨[.str "settled" 189,.str "settled" 190,.str "/claim/cut.py" 191,.int (2) 0,.int (3) 0,.int (0) 0,.int (0) 0,.int (3) 0,.ref 15,.bool true,.int (181) 0,.ref 16,.none,.none,.none,.ref 17,.int (192) 0,.int (2) 0,.str "/claim/cut.py" 193]⟩,⟨[]⟩⟩),
 (19,⟨.type "function",none,fnD (dZ p 1) "settled" "settled" 3 [] (.none) (.none) (.none) (.str "meanpace.settling" 187) none (.ref 18) (.none) 0,⟨[]⟩⟩),
 (20,⟨.type "tuple",none,.seq ⟨[.type "ValueError"]⟩ 0,⟨[]⟩⟩),
 (27,⟨.type "tuple",none,.seq ⟨[]⟩ 0,⟨[]⟩⟩),
 (28,⟨.type "dict",none,.dict ⟨[en P "__module__" 204 (.str "meanpace.errors" 195),en P "__firstlineno__" 208 (.int (15) 207),en P "__static_attributes__" 209 (.ref 27),en P "__weakref__" 211 (.ref 30),en P "__doc__" 212 (.none)]⟩ 3,⟨[]⟩⟩),
 (29,⟨.type "type",none,.cls { name:="PaceError",bases:=[.type "ValueError"],mro:=[.ref 29,.type "ValueError",.type "Exception",.type "BaseException",.type "object"],ns:=28,qualname:="PaceError",hasDict:=true,slotNames:=[],subclasses:=[.ref 42,.ref 54,.ref 66,.ref 78,.ref 90,.ref 102],abstract:=false,collection:=none,hasDel:=false },⟨[(some (.ref 20)),none,(some (.str "PaceError" 197)),(some (.str "PaceError" 205)),(some (.builtin "ValueError.__new__")),(some (.bool true))]⟩⟩),
 (30,⟨.type "getset_descriptor",none,.fields ⟨[.str "__weakref__" 210,.ref 29,.builtin "ExceptionGroup.__weakref__",.none]⟩,⟨[]⟩⟩),
 (33,⟨.type "tuple",none,.seq ⟨[.ref 29]⟩ 0,⟨[]⟩⟩),
 (40,⟨.type "tuple",none,.seq ⟨[]⟩ 0,⟨[]⟩⟩),
 (41,⟨.type "dict",none,.dict ⟨[en P "__module__" 222 (.str "meanpace.errors" 195),en P "__firstlineno__" 226 (.int (17) 225),en P "__static_attributes__" 227 (.ref 40),en P "__doc__" 228 (.none)]⟩ 2,⟨[]⟩⟩),
 (42,⟨.type "type",none,.cls { name:="BadCount",bases:=[.ref 29],mro:=[.ref 42,.ref 29,.type "ValueError",.type "Exception",.type "BaseException",.type "object"],ns:=41,qualname:="BadCount",hasDict:=true,slotNames:=[],subclasses:=[],abstract:=false,collection:=none,hasDel:=false },⟨[(some (.ref 33)),none,(some (.str "BadCount" 215)),(some (.str "BadCount" 223)),(some (.builtin "ValueError.__new__")),(some (.bool true))]⟩⟩),
 (45,⟨.type "tuple",none,.seq ⟨[.ref 29]⟩ 0,⟨[]⟩⟩),
 (52,⟨.type "tuple",none,.seq ⟨[]⟩ 0,⟨[]⟩⟩),
 (53,⟨.type "dict",none,.dict ⟨[en P "__module__" 238 (.str "meanpace.errors" 195),en P "__firstlineno__" 242 (.int (19) 241),en P "__static_attributes__" 243 (.ref 52),en P "__doc__" 244 (.none)]⟩ 2,⟨[]⟩⟩),
 (54,⟨.type "type",none,.cls { name:="NoMeeting",bases:=[.ref 29],mro:=[.ref 54,.ref 29,.type "ValueError",.type "Exception",.type "BaseException",.type "object"],ns:=53,qualname:="NoMeeting",hasDict:=true,slotNames:=[],subclasses:=[],abstract:=false,collection:=none,hasDel:=false },⟨[(some (.ref 45)),none,(some (.str "NoMeeting" 231)),(some (.str "NoMeeting" 239)),(some (.builtin "ValueError.__new__")),(some (.bool true))]⟩⟩),
 (57,⟨.type "tuple",none,.seq ⟨[.ref 29]⟩ 0,⟨[]⟩⟩),
 (64,⟨.type "tuple",none,.seq ⟨[]⟩ 0,⟨[]⟩⟩),
 (65,⟨.type "dict",none,.dict ⟨[en P "__module__" 254 (.str "meanpace.errors" 195),en P "__firstlineno__" 258 (.int (21) 257),en P "__static_attributes__" 259 (.ref 64),en P "__doc__" 260 (.none)]⟩ 2,⟨[]⟩⟩),
 (66,⟨.type "type",none,.cls { name:="BadDelay",bases:=[.ref 29],mro:=[.ref 66,.ref 29,.type "ValueError",.type "Exception",.type "BaseException",.type "object"],ns:=65,qualname:="BadDelay",hasDict:=true,slotNames:=[],subclasses:=[],abstract:=false,collection:=none,hasDel:=false },⟨[(some (.ref 57)),none,(some (.str "BadDelay" 247)),(some (.str "BadDelay" 255)),(some (.builtin "ValueError.__new__")),(some (.bool true))]⟩⟩),
 (69,⟨.type "tuple",none,.seq ⟨[.ref 29]⟩ 0,⟨[]⟩⟩),
 (76,⟨.type "tuple",none,.seq ⟨[]⟩ 0,⟨[]⟩⟩),
 (77,⟨.type "dict",none,.dict ⟨[en P "__module__" 270 (.str "meanpace.errors" 195),en P "__firstlineno__" 274 (.int (23) 273),en P "__static_attributes__" 275 (.ref 76),en P "__doc__" 276 (.none)]⟩ 2,⟨[]⟩⟩),
 (78,⟨.type "type",none,.cls { name:="Apart",bases:=[.ref 29],mro:=[.ref 78,.ref 29,.type "ValueError",.type "Exception",.type "BaseException",.type "object"],ns:=77,qualname:="Apart",hasDict:=true,slotNames:=[],subclasses:=[],abstract:=false,collection:=none,hasDel:=false },⟨[(some (.ref 69)),none,(some (.str "Apart" 263)),(some (.str "Apart" 271)),(some (.builtin "ValueError.__new__")),(some (.bool true))]⟩⟩),
 (81,⟨.type "tuple",none,.seq ⟨[.ref 29]⟩ 0,⟨[]⟩⟩),
 (88,⟨.type "tuple",none,.seq ⟨[]⟩ 0,⟨[]⟩⟩),
 (89,⟨.type "dict",none,.dict ⟨[en P "__module__" 286 (.str "meanpace.errors" 195),en P "__firstlineno__" 290 (.int (25) 289),en P "__static_attributes__" 291 (.ref 88),en P "__doc__" 292 (.none)]⟩ 2,⟨[]⟩⟩),
 (90,⟨.type "type",none,.cls { name:="NoRing",bases:=[.ref 29],mro:=[.ref 90,.ref 29,.type "ValueError",.type "Exception",.type "BaseException",.type "object"],ns:=89,qualname:="NoRing",hasDict:=true,slotNames:=[],subclasses:=[],abstract:=false,collection:=none,hasDel:=false },⟨[(some (.ref 81)),none,(some (.str "NoRing" 279)),(some (.str "NoRing" 287)),(some (.builtin "ValueError.__new__")),(some (.bool true))]⟩⟩),
 (93,⟨.type "tuple",none,.seq ⟨[.ref 29]⟩ 0,⟨[]⟩⟩),
 (100,⟨.type "tuple",none,.seq ⟨[]⟩ 0,⟨[]⟩⟩),
 (101,⟨.type "dict",none,.dict ⟨[en P "__module__" 302 (.str "meanpace.errors" 195),en P "__firstlineno__" 306 (.int (27) 305),en P "__static_attributes__" 307 (.ref 100),en P "__doc__" 308 (.none)]⟩ 2,⟨[]⟩⟩),
 (102,⟨.type "type",none,.cls { name:="BadPace",bases:=[.ref 29],mro:=[.ref 102,.ref 29,.type "ValueError",.type "Exception",.type "BaseException",.type "object"],ns:=101,qualname:="BadPace",hasDict:=true,slotNames:=[],subclasses:=[],abstract:=false,collection:=none,hasDel:=false },⟨[(some (.ref 93)),none,(some (.str "BadPace" 295)),(some (.str "BadPace" 303)),(some (.builtin "ValueError.__new__")),(some (.bool true))]⟩⟩),
 (105,⟨.type "tuple",none,.seq ⟨[]⟩ 0,⟨[]⟩⟩),
 (107,⟨.type "tuple",none,.seq ⟨[.str "number" 316,.str "divisor" 317,.str "rest" 318]⟩ 0,⟨[]⟩⟩),
 (108,⟨.type "tuple",none,.seq ⟨[]⟩ 0,⟨[]⟩⟩),
 (110,⟨.type "code",none,.fields ⟨[.str "common" 313,.str "common" 314,.str "/claim/cut.py" 315,.int (30) 0,.int (2) 0,.int (0) 0,.int (0) 0,.int (3) 0,.ref 105,.bool true,.int (181) 0,.ref 106,.none,.ref 107,.ref 108,.ref 109,.int (319) 0,.int (30) 0,.str "/claim/cut.py" 320]⟩,⟨[]⟩⟩),
 (111,⟨.type "function",none,fnD (dZ p 11) "common" "common" 3 [] (.none) (.none) (.none) (.str "meanpace.rings" 311) none (.ref 110) (.none) 0,⟨[]⟩⟩),
 (112,⟨.type "tuple",none,.seq ⟨[]⟩ 0,⟨[]⟩⟩),
 (114,⟨.type "tuple",none,.seq ⟨[.str "number" 325,.str "divisor" 326,.str "part" 327]⟩ 0,⟨[]⟩⟩),
 (115,⟨.type "tuple",none,.seq ⟨[]⟩ 0,⟨[]⟩⟩),
 (117,⟨.type "code",none,.fields ⟨[.str "lowest" 322,.str "lowest" 323,.str "/claim/cut.py" 324,.int (36) 0,.int (2) 0,.int (0) 0,.int (0) 0,.int (3) 0,.ref 112,.bool true,.int (181) 0,.ref 113,.none,.ref 114,.ref 115,.ref 116,.int (328) 0,.int (36) 0,.str "/claim/cut.py" 329]⟩,⟨[]⟩⟩),
 (118,⟨.type "function",none,fnD (dZ p 12) "lowest" "lowest" 3 [] (.none) (.none) (.none) (.str "meanpace.rings" 311) none (.ref 117) (.none) 0,⟨[]⟩⟩),
 (119,⟨.type "tuple",none,.seq ⟨[]⟩ 0,⟨[]⟩⟩),
 (121,⟨.type "tuple",none,.seq ⟨[.str "web" 334,.str "ring" 335,.str "meeting" 336,.str "total" 337,.str "place" 338,.str "delay" 339]⟩ 0,⟨[]⟩⟩),
 (122,⟨.type "tuple",none,.seq ⟨[]⟩ 0,⟨[]⟩⟩),
 (124,⟨.type "code",none,.fields ⟨[.str "mean" 331,.str "mean" 332,.str "/claim/cut.py" 333,.int (39) 0,.int (2) 0,.int (0) 0,.int (0) 0,.int (3) 0,.ref 119,.bool true,.int (181) 0,.ref 120,.none,.ref 121,.ref 122,.ref 123,.int (340) 0,.int (39) 0,.str "/claim/cut.py" 341]⟩,⟨[]⟩⟩),
 (125,⟨.type "function",none,fnD (dZ p 13) "mean" "mean" 3 [] (.none) (.none) (.none) (.str "meanpace.rings" 311) none (.ref 124) (.none) 0,⟨[]⟩⟩),
 (126,⟨.type "tuple",none,.seq ⟨[]⟩ 0,⟨[]⟩⟩),
 (128,⟨.type "tuple",none,.seq ⟨[.str "ring" 348,.str "at" 349]⟩ 0,⟨[]⟩⟩),
 (129,⟨.type "tuple",none,.seq ⟨[]⟩ 0,⟨[]⟩⟩),
 (131,⟨.type "code",none,.fields ⟨[.str "led_on" 345,.str "led_on" 346,.str "/claim/cut.py" 347,.int (52) 0,.int (1) 0,.int (0) 0,.int (0) 0,.int (3) 0,.ref 126,.bool true,.int (181) 0,.ref 127,.none,.ref 128,.ref 129,.ref 130,.int (350) 0,.int (52) 0,.str "/claim/cut.py" 351]⟩,⟨[]⟩⟩),
 (132,⟨.type "function",none,fnD (dZ p 15) "led_on" "led_on" 3 [] (.none) (.none) (.none) (.str "meanpace.paces" 343) none (.ref 131) (.none) 0,⟨[]⟩⟩),
 (133,⟨.type "tuple",none,.seq ⟨[]⟩ 0,⟨[]⟩⟩),
 (135,⟨.type "tuple",none,.seq ⟨[.str "before" 356,.str "meeting" 357,.str "many" 358,.str "step" 359,.str "ring" 360]⟩ 0,⟨[]⟩⟩),
 (136,⟨.type "tuple",none,.seq ⟨[]⟩ 0,⟨[]⟩⟩),
 (138,⟨.type "code",none,.fields ⟨[.str "ring_behind" 353,.str "ring_behind" 354,.str "/claim/cut.py" 355,.int (55) 0,.int (3) 0,.int (0) 0,.int (0) 0,.int (3) 0,.ref 133,.bool true,.int (181) 0,.ref 134,.none,.ref 135,.ref 136,.ref 137,.int (361) 0,.int (55) 0,.str "/claim/cut.py" 362]⟩,⟨[]⟩⟩),
 (139,⟨.type "function",none,fnD (dZ p 16) "ring_behind" "ring_behind" 3 [] (.none) (.none) (.none) (.str "meanpace.paces" 343) none (.ref 138) (.none) 0,⟨[]⟩⟩),
 (140,⟨.type "tuple",none,.seq ⟨[]⟩ 0,⟨[]⟩⟩),
 (142,⟨.type "tuple",none,.seq ⟨[.str "web" 367,.str "number" 368,.str "divisor" 369,.str "start" 370,.str "before" 371,.str "turn" 372,.str "last" 373,.str "begin" 374,.str "end" 375,.str "delay" 376,.str "wanted" 377]⟩ 0,⟨[]⟩⟩),
 (143,⟨.type "tuple",none,.seq ⟨[]⟩ 0,⟨[]⟩⟩),
 (145,⟨.type "code",none,.fields ⟨[.str "slower" 364,.str "slower" 365,.str "/claim/cut.py" 366,.int (62) 0,.int (3) 0,.int (0) 0,.int (0) 0,.int (3) 0,.ref 140,.bool true,.int (181) 0,.ref 141,.none,.ref 142,.ref 143,.ref 144,.int (378) 0,.int (62) 0,.str "/claim/cut.py" 379]⟩,⟨[]⟩⟩),
 (146,⟨.type "function",none,fnD (dZ p 17) "slower" "slower" 3 [] (.none) (.none) (.none) (.str "meanpace.paces" 343) none (.ref 145) (.none) 0,⟨[]⟩⟩),
 (147,⟨.type "tuple",none,.seq ⟨[]⟩ 0,⟨[]⟩⟩),
 (150,⟨.type "code",none,.fields ⟨[.str "any_ring" 381,.str "any_ring" 382,.str "/claim/cut.py" 383,.int (78) 0,.int (1) 0,.int (0) 0,.int (0) 0,.int (3) 0,.ref 147,.bool true,.int (181) 0,.ref 148,.none,.none,.none,.ref 149,.int (384) 0,.int (78) 0,.str "/claim/cut.py" 385]⟩,⟨[]⟩⟩),
 (151,⟨.type "function",none,fnD (dZ p 18) "any_ring" "any_ring" 3 [] (.none) (.none) (.none) (.str "meanpace.paces" 343) none (.ref 150) (.none) 0,⟨[]⟩⟩),
 (152,⟨.type "tuple",none,.seq ⟨[]⟩ 0,⟨[]⟩⟩),
 (154,⟨.type "tuple",none,.seq ⟨[.str "web" 390,.str "ring" 391,.str "number" 392,.str "divisor" 393,.str "found" 394]⟩ 0,⟨[]⟩⟩),
 (155,⟨.type "tuple",none,.seq ⟨[]⟩ 0,⟨[]⟩⟩),
 (157,⟨.type "code",none,.fields ⟨[.str "pace" 387,.str "pace" 388,.str "/claim/cut.py" 389,.int (85) 0,.int (1) 0,.int (0) 0,.int (0) 0,.int (3) 0,.ref 152,.bool true,.int (181) 0,.ref 153,.none,.ref 154,.ref 155,.ref 156,.int (395) 0,.int (85) 0,.str "/claim/cut.py" 396]⟩,⟨[]⟩⟩),
 (158,⟨.type "function",none,fnD (dZ p 19) "pace" "pace" 3 [] (.none) (.none) (.none) (.str "meanpace.paces" 343) none (.ref 157) (.none) 0,⟨[]⟩⟩),
 (159,⟨.type "tuple",none,.seq ⟨[]⟩ 0,⟨[]⟩⟩),
 (161,⟨.type "tuple",none,.seq ⟨[.str "thing" 409,.str "low" 410,.str "high" 411]⟩ 0,⟨[]⟩⟩),
 (162,⟨.type "tuple",none,.seq ⟨[]⟩ 0,⟨[]⟩⟩),
 (164,⟨.type "code",none,.fields ⟨[.str "is_whole" 406,.str "is_whole" 407,.str "/claim/cut.py" 408,.int (97) 0,.int (3) 0,.int (0) 0,.int (0) 0,.int (3) 0,.ref 159,.bool true,.int (181) 0,.ref 160,.none,.ref 161,.ref 162,.ref 163,.int (412) 0,.int (97) 0,.str "/claim/cut.py" 413]⟩,⟨[]⟩⟩),
 (165,⟨.type "function",none,fnD (dZ p 24) "is_whole" "is_whole" 3 [] (.none) (.none) (.none) (.str "meanpace.webs" 398) none (.ref 164) (.none) 0,⟨[]⟩⟩),
 (166,⟨.type "tuple",none,.seq ⟨[]⟩ 0,⟨[]⟩⟩),
 (168,⟨.type "tuple",none,.seq ⟨[.str "many" 418,.str "ways" 419,.str "found" 420,.str "waiting" 421,.str "here" 422,.str "way" 423]⟩ 0,⟨[]⟩⟩),
 (169,⟨.type "tuple",none,.seq ⟨[]⟩ 0,⟨[]⟩⟩),
 (171,⟨.type "code",none,.fields ⟨[.str "come_to" 415,.str "come_to" 416,.str "/claim/cut.py" 417,.int (99) 0,.int (2) 0,.int (0) 0,.int (0) 0,.int (3) 0,.ref 166,.bool true,.int (181) 0,.ref 167,.none,.ref 168,.ref 169,.ref 170,.int (424) 0,.int (99) 0,.str "/claim/cut.py" 425]⟩,⟨[]⟩⟩),
 (172,⟨.type "function",none,fnD (dZ p 25) "come_to" "come_to" 3 [] (.none) (.none) (.none) (.str "meanpace.webs" 398) none (.ref 171) (.none) 0,⟨[]⟩⟩),
 (173,⟨.type "tuple",none,.seq ⟨[]⟩ 0,⟨[]⟩⟩),
 (176,⟨.type "code",none,.fields ⟨[.str "is_joined" 427,.str "is_joined" 428,.str "/claim/cut.py" 429,.int (109) 0,.int (2) 0,.int (0) 0,.int (0) 0,.int (3) 0,.ref 173,.bool true,.int (181) 0,.ref 174,.none,.none,.none,.ref 175,.int (430) 0,.int (109) 0,.str "/claim/cut.py" 431]⟩,⟨[]⟩⟩),
 (177,⟨.type "function",none,fnD (dZ p 26) "is_joined" "is_joined" 3 [] (.none) (.none) (.none) (.str "meanpace.webs" 398) none (.ref 176) (.none) 0,⟨[]⟩⟩),
 (185,⟨.type "tuple",none,.seq ⟨[]⟩ 0,⟨[]⟩⟩),
 (187,⟨.type "tuple",none,.seq ⟨[.str "self" 448,.str "many" 449,.str "ways" 450,.str "way" 451]⟩ 0,⟨[]⟩⟩),
 (188,⟨.type "tuple",none,.seq ⟨[]⟩ 0,⟨[]⟩⟩),
 (190,⟨.type "code",none,.fields ⟨[.str "__init__" 445,.str "Web.__init__" 446,.str "/claim/cut.py" 447,.int (116) 0,.int (3) 0,.int (0) 0,.int (0) 0,.int (3) 0,.ref 185,.bool true,.int (181) 0,.ref 186,.none,.ref 187,.ref 188,.ref 189,.int (452) 0,.int (116) 0,.str "/claim/cut.py" 453]⟩,⟨[]⟩⟩),
 (191,⟨.type "function",none,fnD (lM (dZ p 27) 0) "__init__" "Web.__init__" 3 [] (.none) (.none) (.none) (.str "meanpace.webs" 398) none (.ref 190) (.none) 0,⟨[]⟩⟩),
 (192,⟨.type "tuple",none,.seq ⟨[]⟩ 0,⟨[]⟩⟩),
 (194,⟨.type "tuple",none,.seq ⟨[.str "self" 458,.str "meeting" 459]⟩ 0,⟨[]⟩⟩),
 (195,⟨.type "tuple",none,.seq ⟨[]⟩ 0,⟨[]⟩⟩),
 (197,⟨.type "code",none,.fields ⟨[.str "need" 455,.str "Web.need" 456,.str "/claim/cut.py" 457,.int (132) 0,.int (2) 0,.int (0) 0,.int (0) 0,.int (3) 0,.ref 192,.bool true,.int (181) 0,.ref 193,.none,.ref 194,.ref 195,.ref 196,.int (460) 0,.int (132) 0,.str "/claim/cut.py" 461]⟩,⟨[]⟩⟩),
 (198,⟨.type "function",none,fnD (lM (dZ p 27) 1) "need" "Web.need" 3 [] (.none) (.none) (.none) (.str "meanpace.webs" 398) none (.ref 197) (.none) 0,⟨[]⟩⟩),
 (199,⟨.type "tuple",none,.seq ⟨[]⟩ 0,⟨[]⟩⟩),
 (202,⟨.type "code",none,.fields ⟨[.str "into" 463,.str "Web.into" 464,.str "/claim/cut.py" 465,.int (136) 0,.int (2) 0,.int (0) 0,.int (0) 0,.int (3) 0,.ref 199,.bool true,.int (181) 0,.ref 200,.none,.none,.none,.ref 201,.int (466) 0,.int (136) 0,.str "/claim/cut.py" 467]⟩,⟨[]⟩⟩),
 (203,⟨.type "function",none,fnD (lM (dZ p 27) 2) "into" "Web.into" 3 [] (.none) (.none) (.none) (.str "meanpace.webs" 398) none (.ref 202) (.none) 0,⟨[]⟩⟩),
 (204,⟨.type "tuple",none,.seq ⟨[]⟩ 0,⟨[]⟩⟩),
 (207,⟨.type "code",none,.fields ⟨[.str "delay" 469,.str "Web.delay" 470,.str "/claim/cut.py" 471,.int (140) 0,.int (3) 0,.int (0) 0,.int (0) 0,.int (3) 0,.ref 204,.bool true,.int (181) 0,.ref 205,.none,.none,.none,.ref 206,.int (472) 0,.int (140) 0,.str "/claim/cut.py" 473]⟩,⟨[]⟩⟩),
 (208,⟨.type "function",none,fnD (lM (dZ p 27) 3) "delay" "Web.delay" 3 [] (.none) (.none) (.none) (.str "meanpace.webs" 398) none (.ref 207) (.none) 0,⟨[]⟩⟩),
 (209,⟨.type "tuple",none,.seq ⟨[]⟩ 0,⟨[]⟩⟩),
 (212,⟨.type "code",none,.fields ⟨[.str "ahead" 475,.str "Web.ahead" 476,.str "/claim/cut.py" 477,.int (145) 0,.int (2) 0,.int (0) 0,.int (0) 0,.int (3) 0,.ref 209,.bool true,.int (181) 0,.ref 210,.none,.none,.none,.ref 211,.int (478) 0,.int (145) 0,.str "/claim/cut.py" 479]⟩,⟨[]⟩⟩),
 (213,⟨.type "function",none,fnD (lM (dZ p 27) 4) "ahead" "Web.ahead" 3 [] (.none) (.none) (.none) (.str "meanpace.webs" 398) none (.ref 212) (.none) 0,⟨[]⟩⟩),
 (214,⟨.type "tuple",none,.seq ⟨[]⟩ 0,⟨[]⟩⟩),
 (216,⟨.type "tuple",none,.seq ⟨[.str "self" 484,.str "times" 485,.str "count" 486,.str "found" 487,.str "turn" 488]⟩ 0,⟨[]⟩⟩),
 (217,⟨.type "tuple",none,.seq ⟨[]⟩ 0,⟨[]⟩⟩),
 (219,⟨.type "code",none,.fields ⟨[.str "turns" 481,.str "Web.turns" 482,.str "/claim/cut.py" 483,.int (153) 0,.int (3) 0,.int (0) 0,.int (0) 0,.int (3) 0,.ref 214,.bool true,.int (181) 0,.ref 215,.none,.ref 216,.ref 217,.ref 218,.int (489) 0,.int (153) 0,.str "/claim/cut.py" 490]⟩,⟨[]⟩⟩),
 (220,⟨.type "function",none,fnD (lM (dZ p 27) 5) "turns" "Web.turns" 3 [] (.none) (.none) (.none) (.str "meanpace.webs" 398) none (.ref 219) (.none) 0,⟨[]⟩⟩),
 (221,⟨.type "tuple",none,.seq ⟨[]⟩ 0,⟨[]⟩⟩),
 (224,⟨.type "code",none,.fields ⟨[.str "turned" 492,.str "Web.turned" 493,.str "/claim/cut.py" 494,.int (161) 0,.int (1) 0,.int (0) 0,.int (0) 0,.int (3) 0,.ref 221,.bool true,.int (181) 0,.ref 222,.none,.none,.none,.ref 223,.int (495) 0,.int (161) 0,.str "/claim/cut.py" 496]⟩,⟨[]⟩⟩),
 (225,⟨.type "function",none,fnD (lM (dZ p 27) 6) "turned" "Web.turned" 3 [] (.none) (.none) (.none) (.str "meanpace.webs" 398) none (.ref 224) (.none) 0,⟨[]⟩⟩),
 (226,⟨.type "tuple",none,.seq ⟨[.str "many" 498,.str "ways" 499]⟩ 0,⟨[]⟩⟩),
 (227,⟨.type "dict",none,.dict ⟨[en P "__module__" 440 (.str "meanpace.webs" 398),en P "__firstlineno__" 444 (.int (114) 443),en P "__init__" 454 (.ref 191),en P "need" 462 (.ref 198),en P "into" 468 (.ref 203),en P "delay" 474 (.ref 208),en P "ahead" 480 (.ref 213),en P "turns" 491 (.ref 220),en P "turned" 497 (.ref 225),en P "__static_attributes__" 500 (.ref 226),en P "__dict__" 502 (.ref 229),en P "__weakref__" 504 (.ref 230),en P "__doc__" 505 (.none)]⟩ 4,⟨[]⟩⟩),
 (228,⟨.type "type",none,.cls { name:="Web",bases:=[.type "object"],mro:=[.ref 228,.type "object"],ns:=227,qualname:="Web",hasDict:=true,slotNames:=[],subclasses:=[],abstract:=false,collection:=none,hasDel:=false },⟨[none,none,(some (.str "Web" 433)),(some (.str "Web" 441)),(some (.builtin "object.__new__")),(some (.bool true))]⟩⟩),
 (229,⟨.type "getset_descriptor",none,.fields ⟨[.str "__dict__" 501,.ref 228,.builtin "function.__dict__",.builtin "function.__dict__#set"]⟩,⟨[]⟩⟩),
 (230,⟨.type "getset_descriptor",none,.fields ⟨[.str "__weakref__" 503,.ref 228,.builtin "ExceptionGroup.__weakref__",.none]⟩,⟨[]⟩⟩),
 (233,⟨.type "tuple",none,.seq ⟨[]⟩ 0,⟨[]⟩⟩),
 (235,⟨.type "tuple",none,.seq ⟨[.str "_law_script" 513,.str "_law_k" 514]⟩ 0,⟨[]⟩⟩),
 (236,⟨.type "tuple",none,.seq ⟨[]⟩ 0,⟨[]⟩⟩),
 (238,⟨.type "code",none,.fields ⟨[.str "_law_cell_at" 510,.str "_law_cell_at" 511,.str "/claim/cut.py" 512,.int (164) 0,.int (2) 0,.int (0) 0,.int (0) 0,.int (3) 0,.ref 233,.bool true,.int (181) 0,.ref 234,.none,.ref 235,.ref 236,.ref 237,.int (515) 0,.int (164) 0,.str "/claim/cut.py" 516]⟩,⟨[]⟩⟩),
 (239,⟨.type "function",none,fnD (dZ p 29) "_law_cell_at" "_law_cell_at" 3 [] (.none) (.none) (.none) (.str "law_uf060017_09" 508) none (.ref 238) (.none) 0,⟨[]⟩⟩),
 (240,⟨.type "tuple",none,.seq ⟨[]⟩ 0,⟨[]⟩⟩),
 (242,⟨.type "tuple",none,.seq ⟨[.str "_law_found" 521]⟩ 0,⟨[]⟩⟩),
 (243,⟨.type "tuple",none,.seq ⟨[]⟩ 0,⟨[]⟩⟩),
 (245,⟨.type "code",none,.fields ⟨[.str "_law_whole" 518,.str "_law_whole" 519,.str "/claim/cut.py" 520,.int (168) 0,.int (1) 0,.int (0) 0,.int (0) 0,.int (3) 0,.ref 240,.bool true,.int (181) 0,.ref 241,.none,.ref 242,.ref 243,.ref 244,.int (522) 0,.int (168) 0,.str "/claim/cut.py" 523]⟩,⟨[]⟩⟩),
 (246,⟨.type "function",none,fnD (dZ p 30) "_law_whole" "_law_whole" 3 [] (.none) (.none) (.none) (.str "law_uf060017_09" 508) none (.ref 245) (.none) 0,⟨[]⟩⟩),
 (247,⟨.type "tuple",none,.seq ⟨[]⟩ 0,⟨[]⟩⟩),
 (249,⟨.type "tuple",none,.seq ⟨[.str "_law_cell" 528,.str "_law_k" 529]⟩ 0,⟨[]⟩⟩),
 (250,⟨.type "tuple",none,.seq ⟨[]⟩ 0,⟨[]⟩⟩),
 (252,⟨.type "code",none,.fields ⟨[.str "_law_mixed" 525,.str "_law_mixed" 526,.str "/claim/cut.py" 527,.int (170) 0,.int (2) 0,.int (0) 0,.int (0) 0,.int (3) 0,.ref 247,.bool true,.int (181) 0,.ref 248,.none,.ref 249,.ref 250,.ref 251,.int (530) 0,.int (170) 0,.str "/claim/cut.py" 531]⟩,⟨[]⟩⟩),
 (253,⟨.type "function",none,fnD (dZ p 31) "_law_mixed" "_law_mixed" 3 [] (.none) (.none) (.none) (.str "law_uf060017_09" 508) none (.ref 252) (.none) 0,⟨[]⟩⟩),
 (254,⟨.type "tuple",none,.seq ⟨[]⟩ 0,⟨[]⟩⟩),
 (256,⟨.type "tuple",none,.seq ⟨[.str "_law_script" 536,.str "_law_many" 537,.str "_law_least" 538,.str "_law_order" 539,.str "_law_ways_here" 540,.str "_law_k" 541,.str "_law_number" 542]⟩ 0,⟨[]⟩⟩),
 (257,⟨.type "tuple",none,.seq ⟨[.str "_law_cell" 543]⟩ 0,⟨[]⟩⟩),
 (259,⟨.type "code",none,.fields ⟨[.str "_law_ways" 533,.str "_law_ways" 534,.str "/claim/cut.py" 535,.int (172) 0,.int (2) 0,.int (0) 0,.int (0) 0,.int (3) 0,.ref 254,.bool true,.int (181) 0,.ref 255,.none,.ref 256,.ref 257,.ref 258,.int (544) 0,.int (172) 0,.str "/claim/cut.py" 545]⟩,⟨[]⟩⟩),
 (260,⟨.type "function",none,fnD (dZ p 32) "_law_ways" "_law_ways" 3 [] (.none) (.none) (.none) (.str "law_uf060017_09" 508) none (.ref 259) (.none) 0,⟨[]⟩⟩),
 (261,⟨.type "tuple",none,.seq ⟨[]⟩ 0,⟨[]⟩⟩),
 (263,⟨.type "tuple",none,.seq ⟨[.str "_law_script" 550,.str "_law_one" 551,.str "_law_other" 552,.str "_law_more" 553]⟩ 0,⟨[]⟩⟩),
 (264,⟨.type "tuple",none,.seq ⟨[]⟩ 0,⟨[]⟩⟩),
 (266,⟨.type "code",none,.fields ⟨[.str "_law_slow_ways" 547,.str "_law_slow_ways" 548,.str "/claim/cut.py" 549,.int (188) 0,.int (1) 0,.int (0) 0,.int (0) 0,.int (3) 0,.ref 261,.bool true,.int (181) 0,.ref 262,.none,.ref 263,.ref 264,.ref 265,.int (554) 0,.int (188) 0,.str "/claim/cut.py" 555]⟩,⟨[]⟩⟩),
 (267,⟨.type "function",none,fnD (dZ p 33) "_law_slow_ways" "_law_slow_ways" 3 [] (.none) (.none) (.none) (.str "law_uf060017_09" 508) none (.ref 266) (.none) 0,⟨[]⟩⟩),
 (268,⟨.type "tuple",none,.seq ⟨[]⟩ 0,⟨[]⟩⟩),
 (270,⟨.type "tuple",none,.seq ⟨[.str "_law_script" 560,.str "_law_many" 561,.str "_law_times_here" 562,.str "_law_k" 563,.str "_law_cell" 564,.str "_law_more" 565]⟩ 0,⟨[]⟩⟩),
 (271,⟨.type "tuple",none,.seq ⟨[]⟩ 0,⟨[]⟩⟩),
 (273,⟨.type "code",none,.fields ⟨[.str "_law_times" 557,.str "_law_times" 558,.str "/claim/cut.py" 559,.int (193) 0,.int (2) 0,.int (0) 0,.int (0) 0,.int (3) 0,.ref 268,.bool true,.int (181) 0,.ref 269,.none,.ref 270,.ref 271,.ref 272,.int (566) 0,.int (193) 0,.str "/claim/cut.py" 567]⟩,⟨[]⟩⟩),
 (274,⟨.type "function",none,fnD (dZ p 34) "_law_times" "_law_times" 3 [] (.none) (.none) (.none) (.str "law_uf060017_09" 508) none (.ref 273) (.none) 0,⟨[]⟩⟩),
 (275,⟨.type "tuple",none,.seq ⟨[]⟩ 0,⟨[]⟩⟩),
 (278,⟨.type "code",none,.fields ⟨[.str "_law_next" 569,.str "_law_next" 570,.str "/claim/cut.py" 571,.int (200) 0,.int (2) 0,.int (0) 0,.int (0) 0,.int (3) 0,.ref 275,.bool true,.int (181) 0,.ref 276,.none,.none,.none,.ref 277,.int (572) 0,.int (200) 0,.str "/claim/cut.py" 573]⟩,⟨[]⟩⟩),
 (279,⟨.type "function",none,fnD (dZ p 35) "_law_next" "_law_next" 3 [] (.none) (.none) (.none) (.str "law_uf060017_09" 508) none (.ref 278) (.none) 0,⟨[]⟩⟩),
 (280,⟨.type "tuple",none,.seq ⟨[]⟩ 0,⟨[]⟩⟩),
 (282,⟨.type "tuple",none,.seq ⟨[.str "_law_one" 578,.str "_law_other" 579,.str "_law_gap_here" 580,.str "_law_k" 581]⟩ 0,⟨[]⟩⟩),
 (283,⟨.type "tuple",none,.seq ⟨[]⟩ 0,⟨[]⟩⟩),
 (285,⟨.type "code",none,.fields ⟨[.str "_law_gap" 575,.str "_law_gap" 576,.str "/claim/cut.py" 577,.int (205) 0,.int (2) 0,.int (0) 0,.int (0) 0,.int (3) 0,.ref 280,.bool true,.int (181) 0,.ref 281,.none,.ref 282,.ref 283,.ref 284,.int (582) 0,.int (205) 0,.str "/claim/cut.py" 583]⟩,⟨[]⟩⟩),
 (286,⟨.type "function",none,fnD (dZ p 36) "_law_gap" "_law_gap" 3 [] (.none) (.none) (.none) (.str "law_uf060017_09" 508) none (.ref 285) (.none) 0,⟨[]⟩⟩),
 (287,⟨.type "tuple",none,.seq ⟨[]⟩ 0,⟨[]⟩⟩),
 (289,⟨.type "tuple",none,.seq ⟨[.str "_law_ways_here" 588,.str "_law_times_here" 589,.str "_law_most" 590,.str "_law_many" 591,.str "_law_rows" 592,.str "_law_met" 593,.str "_law_turn" 594,.str "_law_apart" 595,.str "_law_some" 596,.str "_law_first" 597,.str "_law_gap_here" 598]⟩ 0,⟨[]⟩⟩),
 (290,⟨.type "tuple",none,.seq ⟨[]⟩ 0,⟨[]⟩⟩),
 (292,⟨.type "code",none,.fields ⟨[.str "_law_due" 585,.str "_law_due" 586,.str "/claim/cut.py" 587,.int (211) 0,.int (4) 0,.int (0) 0,.int (0) 0,.int (3) 0,.ref 287,.bool true,.int (181) 0,.ref 288,.none,.ref 289,.ref 290,.ref 291,.int (599) 0,.int (211) 0,.str "/claim/cut.py" 600]⟩,⟨[]⟩⟩),
 (293,⟨.type "function",none,fnD (dZ p 37) "_law_due" "_law_due" 3 [] (.none) (.none) (.none) (.str "law_uf060017_09" 508) none (.ref 292) (.none) 0,⟨[]⟩⟩),
 (294,⟨.type "tuple",none,.seq ⟨[]⟩ 0,⟨[]⟩⟩),
 (297,⟨.type "code",none,.fields ⟨[.str "_law_words" 602,.str "_law_words" 603,.str "/claim/cut.py" 604,.int (226) 0,.int (1) 0,.int (0) 0,.int (0) 0,.int (3) 0,.ref 294,.bool true,.int (181) 0,.ref 295,.none,.none,.none,.ref 296,.int (605) 0,.int (226) 0,.str "/claim/cut.py" 606]⟩,⟨[]⟩⟩),
 (298,⟨.type "function",none,fnD (dZ p 38) "_law_words" "_law_words" 3 [] (.none) (.none) (.none) (.str "law_uf060017_09" 508) none (.ref 297) (.none) 0,⟨[]⟩⟩),
 (299,⟨.type "tuple",none,.seq ⟨[]⟩ 0,⟨[]⟩⟩),
 (301,⟨.type "tuple",none,.seq ⟨[.str "_law_web" 611,.str "_law_times_here" 612,.str "_law_most" 613,.str "_law_e" 614]⟩ 0,⟨[]⟩⟩),
 (302,⟨.type "tuple",none,.seq ⟨[]⟩ 0,⟨[]⟩⟩),
 (304,⟨.type "code",none,.fields ⟨[.str "_law_refused" 608,.str "_law_refused" 609,.str "/claim/cut.py" 610,.int (234) 0,.int (3) 0,.int (0) 0,.int (0) 0,.int (3) 0,.ref 299,.bool true,.int (181) 0,.ref 300,.none,.ref 301,.ref 302,.ref 303,.int (615) 0,.int (234) 0,.str "/claim/cut.py" 616]⟩,⟨[]⟩⟩),
 (305,⟨.type "function",none,fnD (dZ p 39) "_law_refused" "_law_refused" 3 [] (.none) (.none) (.none) (.str "law_uf060017_09" 508) none (.ref 304) (.none) 0,⟨[]⟩⟩),
 (306,⟨.type "tuple",none,.seq ⟨[]⟩ 0,⟨[]⟩⟩),
 (309,⟨.type "code",none,.fields ⟨[.str "_law_settled_good" 618,.str "_law_settled_good" 619,.str "/claim/cut.py" 620,.int (240) 0,.int (5) 0,.int (0) 0,.int (0) 0,.int (3) 0,.ref 306,.bool true,.int (181) 0,.ref 307,.none,.none,.none,.ref 308,.int (621) 0,.int (240) 0,.str "/claim/cut.py" 622]⟩,⟨[]⟩⟩),
 (310,⟨.type "function",none,fnD (dZ p 40) "_law_settled_good" "_law_settled_good" 3 [] (.none) (.none) (.none) (.str "law_uf060017_09" 508) none (.ref 309) (.none) 0,⟨[]⟩⟩),
 (311,⟨.type "tuple",none,.seq ⟨[]⟩ 0,⟨[]⟩⟩),
 (314,⟨.type "code",none,.fields ⟨[.str "_law_stirred" 624,.str "_law_stirred" 625,.str "/claim/cut.py" 626,.int (250) 0,.int (3) 0,.int (0) 0,.int (0) 0,.int (3) 0,.ref 311,.bool true,.int (181) 0,.ref 312,.none,.none,.none,.ref 313,.int (627) 0,.int (250) 0,.str "/claim/cut.py" 628]⟩,⟨[]⟩⟩),
 (315,⟨.type "function",none,fnD (dZ p 41) "_law_stirred" "_law_stirred" 3 [] (.none) (.none) (.none) (.str "law_uf060017_09" 508) none (.ref 314) (.none) 0,⟨[]⟩⟩),
 (316,⟨.type "tuple",none,.seq ⟨[]⟩ 0,⟨[]⟩⟩),
 (319,⟨.type "code",none,.fields ⟨[.str "law" 630,.str "law" 631,.str "/claim/cut.py" 632,.int (272) 0,.int (1) 0,.int (0) 0,.int (0) 0,.int (3) 0,.ref 316,.bool true,.int (181) 0,.ref 317,.none,.none,.none,.ref 318,.int (633) 0,.int (272) 0,.str "/claim/cut.py" 634]⟩,⟨[]⟩⟩),
 (320,⟨.type "function",none,fnD (dZ p 42) "law" "law" 3 [] (.none) (.none) (.none) (.str "law_uf060017_09" 508) none (.ref 319) (.none) 0,⟨[]⟩⟩)]
noncomputable def K09 (P:Params):Frag:=kOf PySem.Challenge.pw_uf060017_09 P
noncomputable def q09:Program:=view PySem.Challenge.pw_uf060017_09 [1,3,4,5,6,7,8,9,11,12,13,15,16,17,18,19,21,22,23,24,25,26,27,29,30,31,32,33,34,35,36,37,38,39,40,41,42]
theorem BZ:∀ P,[2,3,15,18,19,20,27,28,29,30,33,40,41,42,45,52,53,54,57,64,65,66,69,76,77,78,81,88,89,90,93,100,101,102,105,107,108,110,111,112,114,115,117,118,119,121,122,124,125,126,128,129,131,132,133,135,136,138,139,140,142,143,145,146,147,150,151,152,154,155,157,158,159,161,162,164,165,166,168,169,171,172,173,176,177,185,187,188,190,191,192,194,195,197,198,199,202,203,204,207,208,209,212,213,214,216,217,219,220,221,224,225,226,227,228,229,230,233,235,236,238,239,240,242,243,245,246,247,249,250,252,253,254,256,257,259,260,261,263,264,266,267,268,270,271,273,274,275,278,279,280,282,283,285,286,287,289,290,292,293,294,297,298,299,301,302,304,305,306,309,310,311,314,315,316,319,320]=(K09 P).map (·.1):=fun _=>by kernel_rfl
noncomputable def hk09:Hook:=kmHook K09 [2,3,15,18,19,20,27,28,29,30,33,40,41,42,45,52,53,54,57,64,65,66,69,76,77,78,81,88,89,90,93,100,101,102,105,107,108,110,111,112,114,115,117,118,119,121,122,124,125,126,128,129,131,132,133,135,136,138,139,140,142,143,145,146,147,150,151,152,154,155,157,158,159,161,162,164,165,166,168,169,171,172,173,176,177,185,187,188,190,191,192,194,195,197,198,199,202,203,204,207,208,209,212,213,214,216,217,219,220,221,224,225,226,227,228,229,230,233,235,236,238,239,240,242,243,245,246,247,249,250,252,253,254,256,257,259,260,261,263,264,266,267,268,270,271,273,274,275,278,279,280,282,283,285,286,287,289,290,292,293,294,297,298,299,301,302,304,305,306,309,310,311,314,315,316,319,320] BZ [255]
noncomputable def xt09 (s:Shared):Bool:=xlAt q09 [] s && recOk (RowW.records PySem.Challenge.rw_uf060017_09.row.toRowW) s
theorem ws09:PySem.Challenge.rw_uf060017_09.wellSaid=true:=by
 rewrite [Fast.te9446332074065402090]
 kernel_rfl
theorem BT:opening PySem.Challenge.pw_uf060017_09=plainProg PySem.Challenge.pw_uf060017_09.main.scope.names:=by kernel_rfl
theorem BM:∀ s,fenceModules? PySem.Challenge.pw_uf060017_09 s=some s:=fun _=>by kernel_rfl
theorem Bb : ∀ w : World, (fun os : OsState => (hdRun Fast.tw6613529449190102663 Fast.tw10156331382660048174 (Fast.tw11892475500146522536 Fast.tw14364793385576792824) PySem.Challenge.pw_uf060017_09 w 11 (some (.ref 6)) 5620 (hdBoot w os) (topStub PySem.Challenge.pw_uf060017_09)).map (fun s => (hdSee PySem.Challenge.pw_uf060017_09 Fast.tw5923862056798008813 (boot_heap w.params) s.abs.heap s.abs, Fast.tw4187177175401517315 q09 [] (Fast.tw5923862056798008813 PySem.Challenge.pw_uf060017_09.main.body) xt09 true s.abs, hk09.obs s.abs))) = fun _ => some (true, openGood q09 [], hk09.val w) := fun w => by kernel_rfl
theorem left09:LeftO PySem.Challenge.pw_uf060017_09 q09 [] xt09 hk09.obs hk09.val 5620:=kS BT (by decide) BM Bb
end Mine
set_option genSizeOf false
set_option genInjectivity false
set_option bootstrap.genMatcherCode false
namespace Mine
set_option backward.match.sparseCases false
open PySem
inductive V where
 | none | bool (b:Bool) | int (i:Int) | str (s:Str) | tup (vs:List V) | ref (l:Nat) | rng (lo hi:Int) | exc (c:Nat)
inductive AO where
 | lst (vs:List V)
 | dI (es:List (Int × V))
 | dT (es:List (List Int × V))
 | inst (d:Nat)
 | att (es:List (Nat × V))
 | frz (vs:List V)
 | tab (used:Bool)
noncomputable abbrev Fra:=List (Option V)
noncomputable abbrev Sto:=List AO
inductive RE where
 | ok (v:V) (σ:Sto) | ex (x:Nat) (σ:Sto) | bad
inductive REs where
 | ok (vs:List V) (σ:Sto) | ex (x:Nat) (σ:Sto) | bad
inductive Fl where
 | next | brk | cont | ret (v:V)
inductive RS where
 | ok (f:Fl) (fr:Fra) (σ:Sto) | ex (x:Nat) (fr:Fra) (σ:Sto) | bad
noncomputable def RE.bind (r:RE) (k:V→Sto→RE):RE:=match r with | .ok v σ=>k v σ | _=>.bad
noncomputable def RE.binds (r:RE) (k:V→Sto→REs):REs:=match r with | .ok v σ=>k v σ | _=>.bad
noncomputable def REs.bind (r:REs) (k:List V→Sto→RE):RE:=match r with | .ok v σ=>k v σ | _=>.bad
noncomputable def REs.binds (r:REs) (k:List V→Sto→REs):REs:=match r with | .ok v σ=>k v σ | _=>.bad
noncomputable def RE.bindS (r:RE) (fr:Fra) (k:V→Sto→RS):RS:=match r with | .ok v σ=>k v σ | _=>.bad
noncomputable def RE.bindX (r:RE) (b:Bool) (fr:Fra) (k:V→Sto→RS):RS:=match r with | .ok v σ=>k v σ | .ex x σ=>(match b with | true=>.ex x fr σ | false=>.bad) | .bad=>.bad
noncomputable def RE.bindZ (r:RE) (b:Bool) (k:V→Sto→RE):RE:=match r with | .ok v σ=>k v σ | .ex x σ=>(match b with | true=>.ex x σ | false=>.bad) | .bad=>.bad
theorem RE.binds_ok (v:V) (σ:Sto) (k):(RE.ok v σ).binds k=k v σ:=rfl
theorem REs.binds_ok (v:List V) (σ:Sto) (k):(REs.ok v σ).binds k=k v σ:=rfl
inductive BN where
 | len | max | min | list | tuple | all | int | range | setLen | revl
inductive MN where
 | append | pop | clear | extend | index
set_option genCtorIdx false in
inductive Ty where
 | int | bool | tuple | list | inst | exc (c:Nat) (ds:List Nat) | val (ds:List Nat)
set_option genCtorIdx false in
inductive KX where
 | num (i:Int) | par | var (i:Nat) | add (a b:KX) | mul (a b:KX) | mod (a b:KX)
set_option genCtorIdx false in
inductive E where
 | none | bool (b:Bool) | int (i:Int) | str (s:Str)
 | loc (i:Nat)
 | pow (a n:Nat)
 | neg (a:E) | not (a:E)
 | and (a b:E) | or (a b:E)
 | bin (op:Operator) (a b:E)
 | cmp (op:CmpOp) (a b:E)
 | cmp2 (o1 o2:CmpOp) (a b c:E)
 | sub (a i:E)
 | slo (a lo:E) | shi (a hi:E) | sst (a st:E)
 | attr (a:E) (x:Nat)
 | list (es:List E) | tup (es:List E)
 | dict0 | dict1 (k v:E)
 | call (f:Nat) (as:List E)
 | tcall (f:Nat) (as:List E)
 | mk (f:Nat) (as:List E)
 | meth (a:E) (x:MN) (as:List E)
 | umeth (a:E) (f:Nat) (as:List E)
 | blt (b:BN) (as:List E)
 | maxd (a:E)
 | isi (a:E) (t:Ty)
 | join (s:Str) (a:E)
 | srt (a:E) (key:KX)
 | dget (a k d:E)
 | comp (tg:List Nat) (one:Bool) (it:E) (conds:List E) (elt:E) (frm:List (Option Nat))
noncomputable def gW:E→Bool
 | .call _ _=>true | .mk _ _=>true | .umeth _ _ _=>true
 | _=>false
noncomputable def aJ:E→Bool
 | .call _ _=>true | .mk _ _=>true | .umeth _ _ _=>true
 | .sub a _=>gW a
 | _=>false
set_option genCtorIdx false in
inductive It where
 | e (a:E) | enum (a:E) | zip (a b:E)
set_option genCtorIdx false in
inductive S where
 | expr (a:E)
 | ret (a:E)
 | asg (i:Nat) (a:E)
 | asgT (is:List Nat) (a:E)
 | asgA (o:E) (x:Nat) (a:E)
 | asgI (o i a:E)
 | ifS (t:E) (b o:List S)
 | whileS (t:E) (b:List S)
 | forS (tg:List Nat) (one:Bool) (it:It) (b:List S)
 | raise (c:Nat)
 | tryS (b:List S) (ds:List Nat) (i:Nat) (h:List S)
 | pass
noncomputable def jd (s:S):Option (List S × List Nat × Nat × List S):=match s with
 | .tryS b ds i h=>some (b,ds,i,h)
 | _=>none
noncomputable def getL (σ:Sto) (l:Nat):Option (List V):=match σ[l]? with | some (.lst xs)=>some xs | _=>none
noncomputable def cy (xs:List V) (σ:Sto):RE:=if xs.length ≤ 16777216 then .ok (.ref σ.length) (σ ++ [.lst xs]) else .bad
noncomputable def bZ (σ:Sto) (o:Option V):RE:=match o with | some v=>.ok v σ | none=>.bad
noncomputable def d0 (σ:Sto) (o:Option Bool):RE:=match o with | some v=>.ok (.bool v) σ | none=>.bad
noncomputable abbrev gJ (a b:Int):Prop:=a.natAbs < 2 ^ 64 ∨ b.natAbs < 2 ^ 64 ∨ (a.natAbs < 10 ^ 100 ∧ b.natAbs < 10 ^ 100)
noncomputable def wII (a b:V) (f:Int→Int→RE):RE:=match a with
 | .int x=>(match b with | .int y=>f x y | _=>.bad)
 | _=>.bad
noncomputable def Bu (a b:V) (σ:Sto):RE:=match a with
 | .int x=>(match b with | .int y=>.ok (.int (x + y)) σ | _=>.bad)
 | .ref l=>(match b with
  | .ref k=>(match getL σ l with
   | some xs=>(match getL σ k with | some ys=>cy (xs ++ ys) σ | none=>.bad)
   | none=>.bad)
  | _=>.bad)
 | .str x=>(match b with | .str y=>if x.length + y.length ≤ 1000 then .ok (.str (x ++ y)) σ else .bad | _=>.bad)
 | _=>.bad
noncomputable def zN (o:Option (List V)) (n:Int) (σ:Sto):RE:=match o with
 | some [x]=>if -1000000 ≤ n then cy (List.replicate n.toNat x) σ else .bad
 | _=>.bad
noncomputable def BD (a b:V) (σ:Sto):RE:=match b with
 | .int n=>(match a with
  | .int x=>if gJ x n then .ok (.int (x * n)) σ else .bad
  | .ref l=>zN (getL σ l) n σ
  | _=>.bad)
 | _=>.bad
noncomputable def mt (op:Operator) (a b:V) (σ:Sto):RE:=match op with
 | .Add=>Bu a b σ
 | .Sub=>wII a b fun x y=>.ok (.int (x - y)) σ
 | .Mult=>BD a b σ
 | .FloorDiv=>wII a b fun x y=>if y ≠ 0 ∧ y.natAbs < 10 ^ 100 then .ok (.int (x.fdiv y)) σ else .bad
 | .Mod=>wII a b fun x y=>if y=0 then .bad else .ok (.int (x.fmod y)) σ
 | _=>.bad
noncomputable def aV {α β:Type} (f:α→Option β):List α→Option (List β)
 | []=>some []
 | x :: xs=>match f x,aV f xs with | some y,some ys=>some (y :: ys) | _,_=>none
theorem dN {α β:Type}{f:α→Option β}:aV f []=some []:=rfl
theorem jT {α β:Type}{f:α→Option β}{x:α}{xs:List α}:aV f (x :: xs)=match f x,aV f xs with | some y,some ys=>some (y :: ys) | _,_=>none:=rfl
noncomputable def zu:V→Option Int | .int i=>some i | _=>none
noncomputable def aE (xs:List V):Option (List Int):=aV zu xs
noncomputable def BH (f:V→Option PyData) (σ:Sto) (v:V):Option PyData:=match v with
 | .none=>some .none
 | .bool b=>some (.bool b)
 | .int i=>some (.int i)
 | .str s=>if PyData.strOk s then some (.str s) else none
 | .tup vs=>(aV f vs).map .tuple
 | .ref l=>(match getL σ l with | some vs=>(aV f vs).map .list | none=>none)
 | .rng _ _=>none
 | .exc _=>none
noncomputable def toD:Nat→Sto→V→Option PyData
 | 0=>fun _ _=>none
 | n + 1=>fun σ=>BH (toD n σ) σ
noncomputable def eqV (σ:Sto) (a b:V):Option Bool:=match toD 5 σ a,toD 5 σ b with | some x,some y=>some (PyData.eqv x y) | _,_=>none
noncomputable def isNone:V→Bool | .none=>true | _=>false
noncomputable def inO (o:Option AO) (x:V):Option Bool:=match o with
 | some o=>(match o with
  | .lst vs=>(match x with | .int i=>(aE vs).map fun is=>decide (i ∈ is) | _=>none)
  | .dI es=>(match x with | .int i=>some (es.any fun e=>e.1 == i) | _=>none)
  | .dT es=>(match x with | .tup ks=>(aE ks).map fun k=>es.any fun e=>e.1 == k | _=>none)
  | _=>none)
 | none=>none
noncomputable def inV (σ:Sto) (x c:V):Option Bool:=match c with
 | .ref l=>inO σ[l]? x
 | _=>none
noncomputable def mG (σ:Sto) (x c:V):Option Bool:=match x with
 | .int _=>(inV σ x c).map (!·)
 | _=>none
noncomputable def iE (op:CmpOp) (a b:V) (σ:Sto):Option Bool :=
 match op with
 | .Lt=>(match a,b with | .int x,.int y=>some (decide (x < y)) | _,_=>none)
 | .LtE=>(match a,b with | .int x,.int y=>some (decide (x ≤ y)) | _,_=>none)
 | .Gt=>(match a,b with | .int x,.int y=>some (decide (y < x)) | _,_=>none)
 | .GtE=>(match a,b with | .int x,.int y=>some (decide (y ≤ x)) | _,_=>none)
 | .Eq=>(match a,b with | .int x,.int y=>some (x == y) | _,_=>eqV σ a b)
 | .NotEq=>(match a,b with | .int x,.int y=>some (x != y) | _,_=>(eqV σ a b).map (!·))
 | .Is=>(match b with | .none=>some (isNone a) | _=>none)
 | .IsNot=>(match b with | .none=>some (!isNone a) | _=>none)
 | .In=>inV σ a b
 | .NotIn=>mG σ a b
noncomputable def oM (xs:List V) (k:Int):Option V :=
 if 0 ≤ k then xs[k.toNat]? else if -(xs.length:Int) ≤ k then xs[(k + xs.length).toNat]? else none
noncomputable def Bw (o:Option AO) (i:V):Option V:=match o with
 | some o=>(match o with
  | .lst vs=>(match i with | .int k=>oM vs k | _=>none)
  | .frz vs=>(match i with | .int k=>oM vs k | _=>none)
  | .dI es=>(match i with | .int k=>es.lookup k | _=>none)
  | .dT es=>(match i with | .tup ks=>(aE ks).bind fun k=>es.lookup k | _=>none)
  | _=>none)
 | none=>none
noncomputable def jE (a i:V) (σ:Sto):Option V:=match a with
 | .tup vs=>(match i with | .int k=>oM vs k | _=>none)
 | .ref l=>Bw σ[l]? i
 | _=>none
noncomputable def tl (a:V) (σ:Sto):Option Int:=match a with
 | .tup vs=>some vs.length
 | .ref l=>(match σ[l]? with | some (.lst vs)=>some vs.length | some (.frz vs)=>some vs.length | some (.dI es)=>some es.length | _=>none)
 | _=>none
noncomputable def tyK (a:V) (σ:Sto):Option Nat:=match a with
 | .int _=>some 0 | .bool _=>some 1 | .str _=>some 2 | .tup _=>some 3 | .ref l=>(getL σ l).map fun _=>4 | _=>none
noncomputable def AF (a:V) (ds:List Nat) (f:Nat→Bool):Option Bool:=match a with
 | .exc d=>if ds.contains d then some (f d) else none
 | _=>none
noncomputable def vc (t:Ty) (a:V) (σ:Sto):Option Bool:=match t with
 | .int=>(tyK a σ).map fun k=>k == 0 || k == 1
 | .bool=>(tyK a σ).map fun k=>k == 1
 | .tuple=>(tyK a σ).map fun k=>k == 3
 | .list=>(tyK a σ).map fun k=>k == 4
 | .inst=>(match a with | .ref l=>(match σ[l]? with | some (.inst _)=>some true | _=>none) | _=>none)
 | .exc c ds=>AF a ds fun d=>d == c
 | .val ds=>AF a ds fun _=>true
noncomputable def jl:List Int→Option Int
 | []=>none
 | x :: xs=>some (xs.foldl (fun a b=>if a < b then b else a) x)
noncomputable def xn:List Int→Option Int
 | []=>none
 | x :: xs=>some (xs.foldl (fun a b=>if b < a then b else a) x)
noncomputable def fP (lo hi:Int):List V:=(List.range (hi - lo).toNat).map fun (k:Nat)=>V.int (lo + (k:Int))
noncomputable def w7:List V→Option Bool
 | []=>some true
 | .bool b :: r=>(match w7 r with | some c=>some (b && c) | none=>none)
 | _=>none
noncomputable def jy (is:List Int):List Int:=is.foldl (fun acc v=>if acc.any (· == v) then acc else acc ++ [v]) []
noncomputable def BG (as:List V) (σ:Sto):RE:=match as with
 | [a]=>bZ σ ((tl a σ).map V.int)
 | _=>.bad
noncomputable def rg (f:List Int→Option Int) (as:List V) (σ:Sto):RE:=match as with
 | [.ref l]=>bZ σ ((((getL σ l).bind aE).bind f).map V.int)
 | _=>.bad
noncomputable def Bt (as:List V) (σ:Sto):RE:=match as with
 | [a,b]=>(match a with
  | .int x=>(match b with | .int y=>.ok (.int (if x < y then y else x)) σ | _=>.bad)
  | _=>.bad)
 | _=>rg jl as σ
noncomputable def xG (as:List V) (σ:Sto):RE:=match as with
 | [a]=>(match a with
  | .ref l=>(match getL σ l with | some xs=>cy xs σ | none=>.bad)
  | .rng lo hi=>cy (fP lo hi) σ
  | _=>.bad)
 | _=>.bad
noncomputable def vg (as:List V) (σ:Sto):RE:=match as with
 | [a]=>(match a with
  | .ref l=>(match getL σ l with | some xs=>.ok (.tup xs) σ | none=>.bad)
  | _=>.bad)
 | _=>.bad
noncomputable def BB (as:List V) (σ:Sto):RE:=match as with
 | [a]=>(match a with
  | .ref l=>bZ σ (((getL σ l).bind w7).map V.bool)
  | _=>.bad)
 | _=>.bad
noncomputable def BF (as:List V) (σ:Sto):RE:=match as with
 | [a]=>(match a with | .bool b=>.ok (.int (if b then 1 else 0)) σ | _=>.bad)
 | _=>.bad
noncomputable def zM (a b:Int) (σ:Sto):RE:=if -1000000 ≤ a ∧ a ≤ 1000000 ∧ -1000000 ≤ b ∧ b ≤ 1000000 then .ok (.rng a b) σ else .bad
noncomputable def uZ (as:List V) (σ:Sto):RE:=match as with
 | [a]=>(match a with | .int n=>zM 0 n σ | _=>.bad)
 | [a,b]=>(match a with | .int x=>(match b with | .int y=>zM x y σ | _=>.bad) | _=>.bad)
 | _=>.bad
noncomputable def yN (as:List V) (σ:Sto):RE:=match as with
 | [a]=>(match a with
  | .ref l=>(match (getL σ l).bind aE with | some is=>if is.length ≤ 1000 then .ok (.int (jy is).length) σ else .bad | none=>.bad)
  | _=>.bad)
 | _=>.bad
noncomputable def zf (as:List V) (σ:Sto):RE:=match as with
 | [a]=>(match a with
  | .ref l=>(match getL σ l with | some xs=>cy xs.reverse σ | none=>.bad)
  | _=>.bad)
 | _=>.bad
noncomputable def iy (b:BN) (as:List V) (σ:Sto):RE:=match b with
 | .len=>BG as σ
 | .max=>Bt as σ
 | .min=>rg xn as σ
 | .list=>xG as σ
 | .tuple=>vg as σ
 | .all=>BB as σ
 | .int=>BF as σ
 | .range=>uZ as σ
 | .setLen=>yN as σ
 | .revl=>zf as σ
noncomputable def dy (σ:Sto) (l:Nat) (xs:List V):Sto:=σ.set l (.lst xs)
noncomputable def gz (k:Int) (v:V):List (Int × V)→List (Int × V)
 | []=>[(k,v)]
 | e :: r=>if e.1 == k then (e.1,v) :: r else e :: gz k v r
theorem putI_n {k:Int}{v:V}:gz k v []=[(k,v)]:=rfl
theorem jW {k:Int}{v:V}{e:Int × V}{r:List (Int × V)}:gz k v (e :: r)=if e.1 == k then (e.1,v) :: r else e :: gz k v r:=rfl
noncomputable def l3 (k:List Int) (v:V):List (List Int × V)→List (List Int × V)
 | []=>[(k,v)]
 | e :: r=>if e.1 == k then (e.1,v) :: r else e :: l3 k v r
theorem putT_n {k:List Int}{v:V}:l3 k v []=[(k,v)]:=rfl
theorem nt {k:List Int}{v:V}{e:List Int × V}{r:List (List Int × V)}:l3 k v (e :: r)=if e.1 == k then (e.1,v) :: r else e :: l3 k v r:=rfl
abbrev ug (i:Int) (is:List Int):Prop:=i ∈ is ∧ is.length ≤ 1000 ∧ ∀ j ∈ is,j.natAbs < 1024
noncomputable def dP (x:MN) (l:Nat) (xs:List V) (as:List V) (σ:Sto):RE:=match x with
 | .append=>(match as with | [v]=>if xs.length < 16777216 then .ok .none (dy σ l (xs ++ [v])) else .bad | _=>.bad)
 | .pop=>(match as with | []=>(match xs.getLast? with | some v=>.ok v (dy σ l xs.dropLast) | none=>.bad) | _=>.bad)
 | .clear=>(match as with | []=>.ok .none (dy σ l []) | _=>.bad)
 | .extend=>(match as with
  | [v]=>(match v with
   | .ref k=>(match getL σ k with | some ys=>if xs.length + ys.length ≤ 16777216 ∧ k ≠ l then .ok .none (dy σ l (xs ++ ys)) else .bad | none=>.bad)
   | _=>.bad)
  | _=>.bad)
 | .index=>(match as with
  | [v]=>(match v with
   | .int i=>(match aE xs with | some is=>if ug i is then .ok (.int (is.idxOf i)) σ else .bad | none=>.bad)
   | _=>.bad)
  | _=>.bad)
noncomputable def zK (v:V) (σ:Sto) (f:Nat→List V→RE):RE:=match v with
 | .ref l=>(match getL σ l with | some xs=>f l xs | none=>.bad)
 | _=>.bad
noncomputable def sN (v:V) (σ:Sto) (r:RE):RE:=match v with
 | .ref l=>(match σ[l]? with
  | some o=>(match o with
   | .inst d=>(match σ[d]? with | some o=>(match o with | .att _=>r | _=>.bad) | none=>.bad)
   | _=>.bad)
  | none=>.bad)
 | _=>.bad
noncomputable def AJ (o:Option AO) (l:Nat) (i v:V) (σ:Sto):Option Sto:=match o with
 | some o=>(match o with
  | .lst xs=>(match i with | .int k=>if 0 ≤ k ∧ k < xs.length then some (dy σ l (xs.set k.toNat v)) else none | _=>none)
  | .dI es=>(match i with | .int k=>if es.length < 1000000 then some (σ.set l (.dI (gz k v es))) else none | _=>none)
  | .dT es=>(match i with | .tup ks=>(aE ks).bind fun k=>if es.length < 1000000 then some (σ.set l (.dT (l3 k v es))) else none | _=>none)
  | _=>none)
 | none=>none
noncomputable def dq (a i v:V) (σ:Sto):Option Sto:=match a with
 | .ref l=>AJ σ[l]? l i v σ
 | _=>none
noncomputable def tD (k:Nat) (v:V):List (Nat × V)→List (Nat × V)
 | []=>[(k,v)]
 | e :: r=>if e.1 == k then (e.1,v) :: r else e :: tD k v r
theorem zq {k:Nat}{v:V}:tD k v []=[(k,v)]:=rfl
theorem vx {k:Nat}{v:V}{e:Nat × V}{r:List (Nat × V)}:tD k v (e :: r)=if e.1 == k then (e.1,v) :: r else e :: tD k v r:=rfl
noncomputable def jq (a:V) (x:Nat) (σ:Sto):Option V:=match a with
 | .ref l=>(match σ[l]? with
  | some (.inst d)=>(match σ[d]? with | some (.att es)=>es.lookup x | _=>none)
  | _=>none)
 | _=>none
noncomputable def dg (a:V) (x:Nat) (v:V) (σ:Sto):Option Sto:=match a with
 | .ref l=>(match σ[l]? with
  | some (.inst d)=>(match σ[d]? with | some (.att es)=>if es.length < 100 then some (σ.set d (.att (tD x v es))) else none | _=>none)
  | _=>none)
 | _=>none
noncomputable def bF (tg:List Nat) (one:Bool) (v:V) (fr:Fra):Option Fra :=
 if one then (match tg with | [i]=>if i < fr.length then some (fr.set i (some v)) else none | _=>none)
 else match v with
  | .tup vs=>if vs.length=tg.length ∧ tg.all (· < fr.length) then some ((tg.zip vs).foldl (fun f p=>f.set p.1 (some p.2)) fr) else none
  | _=>none
noncomputable def dA (fr:Fra) (frm:List (Option Nat)):Fra:=frm.map fun o=>match o with | some j=>(fr[j]?).join | none=>none
noncomputable def oQ {α:Type} (p:Int × α):List (Int × α)→List (Int × α)
 | []=>[p]
 | q :: r=>if p.1 < q.1 then p :: q :: r else q :: oQ p r
theorem uW {α:Type}{p q:Int × α}{r:List (Int × α)}:oQ p (q :: r)=if p.1 < q.1 then p :: q :: r else q :: oQ p r:=rfl
noncomputable def fm {α:Type}:List (Int × α)→List (Int × α)
 | []=>[]
 | p :: r=>oQ p (fm r)
noncomputable def kxV (fr:Fra) (x:Int):KX→Option Int
 | .num i=>some i
 | .par=>some x
 | .var i=>(match fr[i]? with | some (some (.int v))=>some v | _=>none)
 | .add a b=>(kxV fr x a).bind fun p=>(kxV fr x b).map fun q=>p + q
 | .mul a b=>(kxV fr x a).bind fun p=>(kxV fr x b).bind fun q=>if gJ p q then some (p * q) else none
 | .mod a b=>(kxV fr x a).bind fun p=>(kxV fr x b).bind fun q=>if q ≠ 0 then some (p.fmod q) else none
noncomputable def z6 (ks:Option (List Int)) (hi:Int) (σ:Sto):RE:=match ks with
 | some ks=>if ks.Nodup then cy ((fm (ks.zip (fP 0 hi))).map (·.2)) (σ.set 1 (.tab true)) else .bad
 | none=>.bad
noncomputable def Bd (o:Option AO) (r:RE):RE:=match o with
 | some (.tab false)=>r
 | _=>.bad
noncomputable def zP (key:KX) (fr:Fra) (v:V) (σ:Sto):RE:=match v with
 | .rng lo hi=>if lo=0 ∧ hi < 60 then Bd σ[1]? (z6 (aV (fun (j:Nat)=>kxV fr (j:Int) key) (List.range hi.toNat)) hi σ) else .bad
 | _=>.bad
noncomputable def t7 (o:Option AO):Option (List (Int × V)):=match o with
 | some o=>(match o with | .dI es=>some es | _=>none)
 | none=>none
noncomputable def n7 (v:V) (σ:Sto):Option (List (Int × V)):=match v with
 | .ref l=>t7 σ[l]?
 | _=>none
noncomputable def xC (es:List (Int × V)) (x y:V):Option V:=match x with | .int i=>some ((es.lookup i).getD y) | _=>none
inductive Src where
 | live (l:Nat) | tup (vs:List V) | rng (lo hi:Int)
noncomputable def bh (σ:Sto) (i:Nat) (src:Src):Option (Option V):=match src with
 | .live l=>(getL σ l).map fun xs=>xs[i]?
 | .tup vs=>some vs[i]?
 | .rng lo hi=>some (fP lo hi)[i]?
noncomputable def fU (v:V):Option Src:=match v with
 | .ref l=>some (.live l) | .tup vs=>some (.tup vs) | .rng lo hi=>some (.rng lo hi) | _=>none
noncomputable def rB (σ:Sto) (src:Src):Option Nat:=match src with
 | .live l=>(getL σ l).map List.length
 | .tup vs=>some vs.length
 | .rng lo hi=>some (hi - lo).toNat
noncomputable def jH {α β:Type} (o:Option α) (bad:β) (k:α→β):β:=match o with | none=>bad | some x=>k x
noncomputable def kJ {α:Type} (o:Option (Option V)) (bad fin:α) (k:V→α):α:=jH o bad fun o=>jH o fin k
noncomputable def y6 {α:Type} (o:Option Src) (σ:Sto) (bad:α) (f:Src→Nat→α):α:=jH o bad fun src=>jH (rB σ src) bad fun n=>f src (n + 1)
noncomputable def AS {α:Type} (v:V) (σ:Sto) (bad:α) (f:Src→Nat→α):α:=y6 (fU v) σ bad f
noncomputable def RE.opt {α:Type} (r:RE) (k:V→Sto→Option α):Option α:=match r with | .ok v σ=>k v σ | _=>none
noncomputable def xW {α:Type} (c:V) (a b:Option α):Option α:=match c with | .bool p=>(match p with | true=>a | false=>b) | _=>none
theorem eB {α β:Type}{o:Option α}{bad z:β}{k:α→β}{G:Prop} (e:jH o bad k=z) (hb:o=none→bad=z→G) (h:∀ x,o=some x→k x=z→G):G :=
 Option.casesOn (motive:=fun t=>o=t→jH t bad k=z→G) o hb h rfl e
noncomputable def ua (r:RS):RS:=match r with | .ok f fr σ=>.ok f fr σ | _=>.bad
theorem gj {r:RS}{f:Fl}{fr:Fra} {σ:Sto} (e:ua r=.ok f fr σ):r=.ok f fr σ:=RS.casesOn (motive:=fun r=>ua r=.ok f fr σ→r=.ok f fr σ) r (fun _ _ _ h=>h) (fun _ _ _ h=>nomatch h) (fun h=>nomatch h) e
theorem jA {r:RS}{x:Nat}{fr:Fra} {σ:Sto}{P:Prop} (e:ua r=.ex x fr σ):P:=RS.casesOn (motive:=fun r=>ua r=.ex x fr σ→P) r (fun _ _ _ h=>nomatch h) (fun _ _ _ h=>nomatch h) (fun h=>nomatch h) e
theorem dO {r:RS}{f:Fl}{fr:Fra} {σ:Sto} (e:r=.ok f fr σ):ua r=.ok f fr σ:=by rw [e]; rfl
noncomputable def noX (r:RE):RE:=match r with | .ok v σ=>.ok v σ | _=>.bad
noncomputable def yu (xs:List V) (σ:Sto):RE:=match xs with
 | [.str x]=>.ok (.str x) σ
 | _=>.bad
section
variable (call:Nat→List V→Sto→RE)
noncomputable def dD (ts:List (Fra→Sto→RE)) (fr:Fra) (σ:Sto):RE:=match ts with
 | []=>.ok (.bool true) σ
 | t :: r=>(t fr σ).bind fun v σ=>match v with | .bool true=>dD r fr σ | .bool false=>.ok (.bool false) σ | _=>.bad
theorem vM {t:Fra→Sto→RE}{r:List (Fra→Sto→RE)}{fr:Fra} {σ:Sto}:dD (t :: r) fr σ=(t fr σ).bind fun v σ=>match v with | .bool true=>dD r fr σ | .bool false=>.ok (.bool false) σ | _=>.bad:=rfl
noncomputable def lK (tg:List Nat) (one:Bool) (cond elt:Fra→Sto→RE) (v:V) (fr:Fra) (σ:Sto) (acc:List V):Option (Fra × List V × Sto) :=
 (bF tg one v fr).bind fun fr=>(cond fr σ).opt fun c τ=>xW c ((elt fr τ).opt fun y υ=>some (fr,acc ++ [y],υ)) (some (fr,acc,τ))
noncomputable def d6 (tg:List Nat) (one:Bool) (cond elt:Fra→Sto→RE) (src:Src):Nat→Nat→Fra→Sto→List V→REs
 | 0,_,_,_,_=>.bad
 | n + 1,i,fr,σ,acc=>kJ (bh σ i src) .bad (.ok acc σ) fun v=>jH (lK tg one cond elt v fr σ acc) .bad fun t=>d6 tg one cond elt src n (i + 1) t.1 t.2.2 t.2.1
mutual
noncomputable def evE:E→Fra→Sto→RE
 | .none=>fun _ σ=>.ok .none σ
 | .bool b=>fun _ σ=>.ok (.bool b) σ
 | .int i=>fun _ σ=>.ok (.int i) σ
 | .str s=>fun _ σ=>.ok (.str s) σ
 | .loc i=>fun fr σ=>match fr[i]? with | some (some v)=>.ok v σ | _=>.bad
 | .pow a n=>fun _ σ=>.ok (.int ((a:Int) ^ n)) σ
 | .neg a=>fun fr σ=>(evE a fr σ).bind fun v σ=>match v with | .int i=>.ok (.int (-i)) σ | _=>.bad
 | .not a=>fun fr σ=>(evE a fr σ).bind fun v σ=>match v with | .bool b=>.ok (.bool (!b)) σ | _=>.bad
 | .and a b=>fun fr σ=>(evE a fr σ).bind fun v σ=>match v with | .bool true=>evE b fr σ | .bool false=>.ok (.bool false) σ | _=>.bad
 | .or a b=>fun fr σ=>(evE a fr σ).bind fun v σ=>match v with | .bool false=>evE b fr σ | .bool true=>.ok (.bool true) σ | _=>.bad
 | .bin op a b=>fun fr σ=>(evE a fr σ).bind fun x σ=>(evE b fr σ).bind fun y σ=>mt op x y σ
 | .cmp op a b=>fun fr σ=>(evE a fr σ).bind fun x σ=>(evE b fr σ).bind fun y σ=>d0 σ (iE op x y σ)
 | .cmp2 o1 o2 a b c=>fun fr σ=>(evE a fr σ).bind fun x σ=>(evE b fr σ).bind fun y σ=>match iE o1 x y σ with
   | some true=>(evE c fr σ).bind fun z σ=>d0 σ (iE o2 y z σ)
   | some false=>.ok (.bool false) σ
   | none=>.bad
 | .sub a i=>fun fr σ=>(evE a fr σ).bindZ (gW a) fun x σ=>(evE i fr σ).bind fun y σ=>bZ σ (jE x y σ)
 | .slo a lo=>fun fr σ=>(evE a fr σ).bind fun x σ=>(evE lo fr σ).bind fun y σ=>match x,y with
   | .ref l,.int k=>(match getL σ l with | some xs=>if 0 ≤ k then cy (xs.drop k.toNat) σ else .bad | none=>.bad)
   | _,_=>.bad
 | .shi a hi=>fun fr σ=>(evE a fr σ).bind fun x σ=>(evE hi fr σ).bind fun y σ=>match x,y with
   | .ref l,.int k=>(match getL σ l with | some xs=>if 0 ≤ k then cy (xs.take k.toNat) σ else .bad | none=>.bad)
   | _,_=>.bad
 | .sst a st=>fun fr σ=>(evE a fr σ).bind fun x σ=>(evE st fr σ).bind fun y σ=>match x,y with
   | .ref l,.int k=>(match getL σ l with | some xs=>if k=1 then cy xs σ else if k=-1 then cy xs.reverse σ else .bad | none=>.bad)
   | _,_=>.bad
 | .attr a x=>fun fr σ=>(evE a fr σ).bind fun v σ=>bZ σ (jq v x σ)
 | .list es=>fun fr σ=>(cg es fr σ).bind fun vs σ=>cy vs σ
 | .tup es=>fun fr σ=>(cg es fr σ).bind fun vs σ=>if vs.length ≤ 1000 then .ok (.tup vs) σ else .bad
 | .dict0=>fun _ σ=>.ok (.ref σ.length) (σ ++ [.dT []])
 | .dict1 k v=>fun fr σ=>(evE k fr σ).bind fun x σ=>(evE v fr σ).bind fun y σ=>match x with
   | .int i=>.ok (.ref σ.length) (σ ++ [.dI [(i,y)]])
   | _=>.bad
 | .call f as=>fun fr σ=>(cg as fr σ).bind fun vs σ=>call f vs σ
 | .tcall f as=>fun fr σ=>(cg as fr σ).bind fun vs σ=>noX (call f vs σ)
 | .mk f as=>fun fr σ=>(cg as fr σ).bind fun vs σ =>
   match call f (.ref (σ.length + 1) :: vs) (σ ++ [.att [],.inst σ.length]) with
   | .ok .none σ'=>.ok (.ref (σ.length + 1)) σ'
   | .ok _ _=>.bad
   | .ex x σ'=>.ex x σ'
   | .bad=>.bad
 | .meth a x as=>fun fr σ=>(evE a fr σ).bind fun v σ=>zK v σ fun _ _=>(cg as fr σ).bind fun vs σ=>zK v σ fun l xs=>dP x l xs vs σ
 | .umeth a f as=>fun fr σ=>(evE a fr σ).bind fun v σ=>sN v σ ((cg as fr σ).bind fun vs σ=>call f (v :: vs) σ)
 | .blt b as=>fun fr σ=>(cg as fr σ).bind fun vs σ=>iy b vs σ
 | .maxd a=>fun fr σ=>(evE a fr σ).bind fun v σ=>match v with
   | .ref l=>(match (getL σ l).bind aE with | some []=>.ok .none σ | some is=>bZ σ ((jl is).map V.int) | none=>.bad)
   | _=>.bad
 | .isi a t=>fun fr σ=>(evE a fr σ).bind fun v σ=>d0 σ (vc t v σ)
 | .join _ a=>fun fr σ=>(evE a fr σ).bind fun v σ=>zK v σ fun _ xs=>yu xs σ
 | .srt a key=>fun fr σ=>(evE a fr σ).bind fun v σ=>zP key fr v σ
 | .dget a k d=>fun fr σ=>(evE a fr σ).bind fun v σ=>jH (n7 v σ) .bad fun _=>(evE k fr σ).bind fun x σ=>(evE d fr σ).bind fun y σ=>bZ σ ((n7 v σ).bind fun es=>xC es x y)
 | .comp tg one it conds elt frm=>fun fr σ=>(evE it fr σ).bind fun v σ=>(AS v σ REs.bad fun src n=>d6 tg one (dD (jX conds)) (evE elt) src n 0 (dA fr frm) σ []).bind fun ys σ=>cy ys σ
noncomputable def cg:List E→Fra→Sto→REs
 | []=>fun _ σ=>.ok [] σ
 | e :: es=>fun fr σ=>(evE e fr σ).binds fun v σ=>(cg es fr σ).binds fun vs σ=>.ok (v :: vs) σ
noncomputable def jX:List E→List (Fra→Sto→RE)
 | []=>[]
 | e :: es=>evE e :: jX es
end
theorem zg {e:E}{es:List E}:jX call (e :: es)=evE call e :: jX call es:=rfl
noncomputable def sz (r:RS) (k:Fra→Sto→RS):RS:=match r with
 | .ok f fr σ=>(match f with | .next=>k fr σ | .cont=>k fr σ | .brk=>.ok .next fr σ | .ret v=>.ok (.ret v) fr σ)
 | .ex x fr σ=>.ex x fr σ
 | .bad=>.bad
noncomputable def ck (test:Fra→Sto→RE) (body:Fra→Sto→RS):Nat→Fra→Sto→RS
 | 0,_,_=>.bad
 | n + 1,fr,σ=>(test fr σ).bindS fr fun v σ=>match v with
  | .bool b=>(match b with | false=>.ok .next fr σ | true=>sz (body fr σ) (ck test body n))
  | _=>.bad
noncomputable def oR (tg:List Nat) (one:Bool) (body:Fra→Sto→RS) (src:Src):Nat→Nat→Fra→Sto→RS
 | 0,_,_,_=>.bad
 | n + 1,i,fr,σ=>kJ (bh σ i src) .bad (.ok .next fr σ) fun v=>jH (bF tg one v fr) .bad fun fr=>sz (body fr σ) (oR tg one body src n (i + 1))
variable (wf:Nat)
mutual
noncomputable def evS:S→Fra→Sto→RS
 | .expr a=>fun fr σ=>(evE call a fr σ).bindX (aJ a) fr fun _ σ=>.ok .next fr σ
 | .ret a=>fun fr σ=>(evE call a fr σ).bindX (aJ a) fr fun v σ=>.ok (.ret v) fr σ
 | .asg i a=>fun fr σ=>(evE call a fr σ).bindX (aJ a) fr fun v σ=>if i < fr.length then .ok .next (fr.set i (some v)) σ else .bad
 | .asgT is a=>fun fr σ=>ua ((evE call a fr σ).bindS fr fun v σ=>match bF is false v fr with | some fr=>.ok .next fr σ | none=>.bad)
 | .asgA o x a=>fun fr σ=>ua ((evE call a fr σ).bindS fr fun v σ=>(evE call o fr σ).bindS fr fun w σ=>match dg w x v σ with
   | some σ=>.ok .next fr σ | none=>.bad)
 | .asgI o i a=>fun fr σ=>ua ((evE call a fr σ).bindS fr fun v σ=>(evE call o fr σ).bindS fr fun w σ=>(evE call i fr σ).bindS fr fun k σ=>match dq w k v σ with
   | some σ=>.ok .next fr σ | none=>.bad)
 | .ifS t b o=>fun fr σ=>(evE call t fr σ).bindS fr fun v σ=>match v with
   | .bool true=>evSs b fr σ | .bool false=>evSs o fr σ | _=>.bad
 | .whileS t b=>fun fr σ=>ua (ck (evE call t) (evSs b) wf fr σ)
 | .forS tg one it b=>fun fr σ=>match it with
   | .e a=>(evE call a fr σ).bindS fr fun v σ=>AS v σ RS.bad fun src n=>oR tg one (evSs b) src n 0 fr σ
   | _=>.bad
 | .raise c=>fun fr σ=>.ex c fr σ
 | .tryS _ _ _ _=>fun _ _=>.bad
 | .pass=>fun fr σ=>.ok .next fr σ
noncomputable def evSs:List S→Fra→Sto→RS
 | []=>fun fr σ=>.ok .next fr σ
 | s :: ss=>fun fr σ=>match evS s fr σ with
  | .ok .next fr σ=>evSs ss fr σ
  | r=>r
end
end
section
variable (call callH:Nat→List V→Sto→RE) (wf:Nat)
noncomputable def evT:List S→Fra→Sto→RS
 | [],fr,σ=>.ok .next fr σ
 | s :: ss,fr,σ=>match jd s with
  | some t=>(match evSs call wf t.1 fr σ with
   | .ok f fr σ=>(match f with | .next=>evT ss fr σ | f=>.ok f fr σ)
   | .ex x fr σ=>if t.2.1.contains x ∧ t.2.2.1 < fr.length then (match evSs callH wf t.2.2.2 (fr.set t.2.2.1 (some (.exc x))) σ with
    | .ok f fr σ=>(match f with | .next=>evT ss (fr.set t.2.2.1 none) σ | f=>.ok f (fr.set t.2.2.1 none) σ)
    | _=>.bad) else .bad
   | .bad=>.bad)
  | none=>(match evS call wf s fr σ with
   | .ok f fr σ=>(match f with | .next=>evT ss fr σ | f=>.ok f fr σ)
   | _=>.bad)
end
structure Fn where
 ps:List Nat
 size:Nat
 body:List S
noncomputable def oI:List Nat→List V→Fra→Fra
 | p :: ps,v :: vs,fr=>oI ps vs (fr.set p (some v))
 | _,_,fr=>fr
theorem pq {p:Nat}{ps:List Nat}{v:V}{vs:List V}{fr:Fra}:oI (p :: ps) (v :: vs) fr=oI ps vs (fr.set p (some v)):=rfl
noncomputable def aR (f:Fn) (vs:List V):Fra:=oI f.ps vs (List.replicate f.size none)
noncomputable def sE (r:RS):RE:=match r with
 | .ok f _ σ=>(match f with | .ret v=>.ok v σ | .next=>.ok .none σ | _=>.bad)
 | .ex x _ σ=>.ex x σ
 | .bad=>.bad
noncomputable def evFn (P:Nat→Option Fn) (wf:Nat):Nat→Nat→List V→Sto→RE
 | 0,_,_,_=>.bad
 | n + 1,f,vs,σ=>match P f with
  | none=>.bad
  | some fn=>if vs.length=fn.ps.length then sE (evSs (evFn P wf n) wf fn.body (aR fn vs) σ) else .bad
theorem vA {P:Nat→Option Fn}{wf n k:Nat}{vs:List V} {σ:Sto}:evFn P wf (n + 1) k vs σ=(match P k with | none=>RE.bad | some fn=>if vs.length=fn.ps.length then sE (evSs (evFn P wf n) wf fn.body (aR fn vs) σ) else .bad):=rfl
theorem gZ {P:Nat→Option Fn}{wf n k:Nat}{fn:Fn}{vs:List V} {σ:Sto} (hP:P k=some fn) (hl:vs.length=fn.ps.length):evFn P wf (n + 1) k vs σ=sE (evSs (evFn P wf n) wf fn.body (aR fn vs) σ):=by
 rw [vA,hP]; exact if_pos hl
theorem qn {P:Nat→Option Fn}{wf n k:Nat}{vs:List V} {σ:Sto}{r:RE} (ev:evFn P wf (n + 1) k vs σ=r) (hr:RE.bad ≠ r):∃ fn,P k=some fn ∧ vs.length=fn.ps.length ∧ sE (evSs (evFn P wf n) wf fn.body (aR fn vs) σ)=r:=by
 rw [vA] at ev
 cases q:P k with
 | none=>rw [q] at ev; exact absurd ev hr
 | some fn =>
  rw [q] at ev
  by_cases hl:vs.length=fn.ps.length
  ·exact ⟨fn,rfl,hl,(if_pos hl).symm.trans ev⟩
  ·exact absurd ((if_neg hl).symm.trans ev) hr
noncomputable def bq (P T:Nat→Option Fn) (wf n:Nat) (k:Nat) (vs:List V) (σ:Sto):RE:=match T k with
 | some fn=>if vs.length=fn.ps.length then noX (sE (evT (evFn P wf n) (evFn P wf n) wf fn.body (aR fn vs) σ)) else .bad
 | none=>evFn P wf n k vs σ
end Mine
set_option genSizeOf false
set_option genInjectivity false
set_option bootstrap.genMatcherCode false
namespace Mine
set_option backward.match.sparseCases false
open PySem
structure CE where
 names:List (Str × NameKind)
 fns:List (Str × Nat)
 clss:List (Str × Nat)
 excs:List (Str × Nat)
 mths:List (Str × Nat)
 attrs:List (Str × Nat)
 consts:List (Str × Int)
 lam:Option Nat
 hnd:Bool:=false
 hfns:List (Str × Nat):=[]
 pe:Option (Str × Nat):=none
 top:Option (List (Str × NameKind)):=none
 tfns:List (Str × Nat):=[]
noncomputable def CE.loc? (c:CE) (x:Str):Option Nat:=match c.names.lookup x with
 | some .local | some .cell | some .free=>c.names.findIdx? (·.1 == x)
 | _=>none
noncomputable def CE.locW? (c:CE) (x:Str):Option Nat:=match c.names.lookup x with
 | some .local | some .cell=>c.names.findIdx? (·.1 == x)
 | _=>none
noncomputable def CE.glob (c:CE) (x:Str):Bool:=c.names.lookup x == some .globalImplicit
noncomputable def CE.sub (c:CE) (names:List (Str × NameKind)):CE:={ c with names:=names }
noncomputable def fQ {α β γ:Type} (f:α→β→γ) (a:Option α) (b:Option β):Option γ:=a.bind fun x=>b.map fun y=>f x y
noncomputable def vt {α β γ δ:Type} (f:α→β→γ→δ) (a:Option α) (b:Option β) (c:Option γ):Option δ:=a.bind fun x=>fQ (f x) b c
noncomputable def gd {α:Type} (b:Bool) (x:Option α):Option α:=match b with | true=>x | false=>none
theorem nn {α:Type}{z:α}{P:Prop} (h:(none:Option α)=some z):P:=nomatch h
theorem ft {P:Prop} (h:false=true):P:=nomatch h
theorem tf {P:Prop} (h:true=false):P:=nomatch h
theorem si {α:Type}{a b:α}{P:α→Prop} (h:some a=some b) (H:P a):P b:=Option.some.inj h ▸ H
theorem dY {α β γ:Type}{f:α→β→γ}{a:Option α}{b:Option β}{z:γ}:fQ f a b=some z→∃ x y,a=some x ∧ b=some y ∧ f x y=z :=
 Option.casesOn a nn fun x=>Option.casesOn b nn fun y h=>⟨x,y,rfl,rfl,Option.some.inj h⟩
theorem uF {α β γ δ:Type}{f:α→β→γ→δ}{a:Option α}{b:Option β}{c:Option γ}{w:δ}:vt f a b c=some w→∃ x y z,a=some x ∧ b=some y ∧ c=some z ∧ f x y z=w :=
 Option.casesOn a nn fun x=>Option.casesOn b nn fun y=>Option.casesOn c nn fun z h=>⟨x,y,z,rfl,rfl,rfl,Option.some.inj h⟩
theorem bV {α β γ:Type}{f:α→β→γ}{a:Option α}{b:Option β}{z:γ}{G:Prop} (h:fQ f a b=some z) (k:∀ x y,a=some x→b=some y→f x y=z→G):G:=let ⟨x,y,h1,h2,h3⟩:=dY h; k x y h1 h2 h3
theorem d4 {α β γ δ:Type}{f:α→β→γ→δ}{a:Option α}{b:Option β}{c:Option γ}{w:δ}{G:Prop} (h:vt f a b c=some w) (k:∀ x y z,a=some x→b=some y→c=some z→f x y z=w→G):G:=let ⟨x,y,z,h1,h2,h3,h4⟩:=uF h; k x y z h1 h2 h3 h4
theorem aw {α:Type}{b:Bool}{x:Option α}{z:α}:gd b x=some z→b=true ∧ x=some z:=Bool.casesOn b nn fun h=>⟨rfl,h⟩
theorem bN {α β:Type}{f:α→β}{a:Option α}{z:β}:a.map f=some z→∃ x,a=some x ∧ f x=z:=Option.casesOn a nn fun x h=>⟨x,rfl,Option.some.inj h⟩
theorem be {α β:Type}{f:α→Option β}{a:Option α}{z:β}:a.bind f=some z→∃ x,a=some x ∧ f x=some z:=Option.casesOn a nn fun x h=>⟨x,rfl,h⟩
theorem b6 {α β:Type}{f:α→β}{a:Option α}{z:β}{G:Prop} (h:a.map f=some z) (k:∀ x,a=some x→f x=z→G):G:=let ⟨x,h1,h2⟩:=bN h; k x h1 h2
theorem bM {α β:Type}{f:α→Option β}{a:Option α}{z:β}{G:Prop} (h:a.bind f=some z) (k:∀ x,a=some x→f x=some z→G):G:=let ⟨x,h1,h2⟩:=be h; k x h1 h2
theorem af {a b:Bool}:(a && b)=true→a=true ∧ b=true:=Bool.casesOn a ft fun h=>⟨rfl,h⟩
theorem aZ {a:Bool}:(!a)=true→a=false:=Bool.casesOn a (fun _=>rfl) ft
inductive EV where
 | name (x:Str) | const (k:Const) | slice (t:Option Expr × Option Expr × Option Expr) | lc | tup (ts:List Expr) | attr (t:Expr × Str × Pos) | sub (t:Expr × Expr) | call (t:Expr × List Expr × List Keyword) | bin (t:Expr × Operator × Expr) | lam (t:Arguments × Expr × Scope × Pos) | other
noncomputable def vw:Expr→EV
 | .Name x _=>.name x
 | .Constant k _ _=>.const k
 | .Slice a b c _=>.slice (a,b,c)
 | .ListComp ..=>.lc
 | .Tuple ts _ _=>.tup ts
 | .Attribute o x p=>.attr (o,x,p)
 | .Subscript o i _=>.sub (o,i)
 | .Call f as ks _=>.call (f,as,ks)
 | .BinOp l op r _=>.bin (l,op,r)
 | .Lambda ps e sc p=>.lam (ps,e,sc,p)
 | _=>.other
def By (e:Expr):EV→Prop
 | .name x=>∃ p,e=.Name x p
 | .const k=>∃ a p,e=.Constant k a p
 | .slice t=>∃ p,e=.Slice t.1 t.2.1 t.2.2 p
 | .tup ts=>∃ k p,e=.Tuple ts k p
 | .attr t=>e=.Attribute t.1 t.2.1 t.2.2
 | .sub t=>∃ p,e=.Subscript t.1 t.2 p
 | .call t=>∃ p,e=.Call t.1 t.2.1 t.2.2 p
 | .bin t=>∃ p,e=.BinOp t.1 t.2.1 t.2.2 p
 | .lam t=>e=.Lambda t.1 t.2.1 t.2.2.1 t.2.2.2
 | _=>True
theorem Ad (e:Expr):By e (vw e):=by
 cases e <;> first | exact True.intro | exact ⟨_,rfl⟩ | exact ⟨_,_,rfl⟩ | rfl
theorem bL {e:Expr}{v:EV} (h:vw e=v):By e v:=h ▸ Ad e
noncomputable def d8 (e:Expr):Option Str:=match vw e with | .name x=>some x | _=>none
noncomputable def i7 (e:Expr):Option Int:=match vw e with | .const (.int i)=>some i | _=>none
noncomputable def uO (e:Expr):Bool:=match vw e with | .const (.str _)=>true | _=>false
noncomputable def BA (e:Expr):Bool:=match vw e with | .lc=>true | _=>false
noncomputable def wo (e:Expr):Bool:=match vw e with | .name _=>false | .call _=>false | .sub _=>false | _=>true
theorem bY {e:Expr}{x:Str} (h:d8 e=some x):∃ p,e=.Name x p:=by
 unfold d8 at h
 cases q:vw e <;> rw [q] at h <;> first | exact nn h | skip
 exact Option.some.inj h ▸ bL q
set_option tactic.hygienic true in
theorem gD {e:Expr}{x:Int} (h:i7 e=some x):∃ k p,e=.Constant (.int x) k p:=by
 unfold i7 at h
 cases q:vw e <;> rw [q] at h <;> first | exact nn h | skip
 rename_i k; cases k <;> first | exact nn h | skip
 exact Option.some.inj h ▸ bL q
theorem mv {e:Expr} (h:BA e=false):∀ a b c d,e ≠ .ListComp a b c d:=by
 intro a b c d q; subst q; exact tf h
theorem qU {e:Expr} (h:wo e=false):(∃ x p,e=.Name x p) ∨ (∃ f as ks p,e=.Call f as ks p) ∨ ∃ o i p,e=.Subscript o i p:=by
 unfold wo at h
 cases q:vw e <;> rw [q] at h <;> first | exact tf h | skip
 ·exact .inl ⟨_,bL q⟩
 ·exact .inr (.inr ⟨_,_,bL q⟩)
 ·exact .inr (.inl ⟨_,_,_,bL q⟩)
noncomputable def bQ (c:CE):List Expr→Option (List Nat)
 | []=>some []
 | e :: r=>fQ List.cons ((d8 e).bind c.locW?) (bQ c r)
noncomputable def tgt (c:CE) (e:Expr):Option (List Nat × Bool):=match d8 e with
 | some x=>(c.locW? x).map fun i=>([i],true)
 | none=>(match vw e with | .tup es=>(bQ c es).map fun is=>(is,false) | _=>none)
noncomputable def CE.locC? (c:CE) (x:Str):Option Nat:=match c.names.lookup x with
 | some .cell | some .free=>c.names.findIdx? (·.1 == x)
 | _=>none
noncomputable def zj (c:CE) (p:Str × NameKind):Option (Option Nat):=match p.2 with
 | .free=>(c.locC? p.1).map some
 | .cell=>none
 | _=>some none
noncomputable def fo (c:CE) (sc:Scope):Option (List (Option Nat)):=gd (!(c.top == some sc.names)) (aV (zj c) sc.names)
noncomputable def oJ (sc:Scope):Bool:=(match sc.kind with | .function=>true | _=>false) && decide ((sc.names.map (·.1)).Nodup)
noncomputable def BL:Operator→Bool
 | .Add | .Sub | .Mult | .FloorDiv | .Mod=>true
 | _=>false
noncomputable def bltName:List (Str × BN):=[("len",.len),("max",.max),("min",.min),("list",.list),("tuple",.tuple),("all",.all),("int",.int),("range",.range)]
noncomputable def bOk:BN→Bool
 | .len=>true
 | .min | .list | .range=>true
 | .max=>true
 | .tuple=>true
 | .all=>true
 | .int=>true
 | _=>false
noncomputable def tyName:List (Str × Ty):=[("int",.int),("bool",.bool),("tuple",.tuple),("list",.list)]
noncomputable def dX:List (Str × MN):=[("append",.append),("pop",.pop),("index",.index)
 ,("clear",.clear),("extend",.extend)
 ]
noncomputable def mOk:MN→Bool
 | _=>true
noncomputable def mkB (op:BoolOp) (x y:E):E:=match op with | .And=>.and x y | .Or=>.or x y
noncomputable def fS (op:BoolOp):List E→Option E
 | []=>none
 | [x]=>some x
 | x :: r=>(fS op r).map fun y=>mkB op x y
noncomputable def dC (op:CmpOp) (r:Expr):Bool:=!behindInMarks op r
noncomputable def dr (e:Expr):Bool:=match vw e with
 | .name _=>true
 | .attr _=>true
 | .sub _=>true
 | .call t=>(match vw t.1 with | .attr _=>true | _=>false)
 | _=>false
set_option tactic.hygienic true in
theorem gC {o:Expr}{x:Str}{env:Env}{act:Sem Value} (h:dr o=true):attributeBase o x env act=act:=by
 unfold dr at h
 cases q:vw o <;> rw [q] at h <;> first | exact ft h | skip
 ·obtain ⟨p,rfl⟩:=bL q; rfl
 ·have e:o=_:=bL q
  subst e; rfl
 ·obtain ⟨p,rfl⟩:=bL q; rfl
 ·obtain ⟨p,rfl⟩:=bL q
  rename_i t
  have h:(match vw t.1 with | .attr _=>true | _=>false)=true:=h
  cases q2:vw t.1 <;> rw [q2] at h <;> first | exact ft h | skip
  have e:t.1=_:=bL q2
  rw [e]; rfl
inductive CK where
 | setLen (a:Expr) | revl (a:Expr) | isi (a:Expr) (t:Str) | plain
noncomputable def Bl {α:Type} (f:Expr→Expr→Option α) (t:Expr × List Expr × List Keyword):Option α:=match t.2.1 with
 | [a]=>(match t.2.2 with | []=>f t.1 a | _=>none)
 | _=>none
theorem mH {α:Type}{f:Expr→Expr→Option α}{t:Expr × List Expr × List Keyword}{z:α} (h:Bl f t=some z):∃ a,t.2=([a],[]) ∧ f t.1 a=some z:=by
 obtain ⟨fn,as,ks⟩:=t
 rcases as with _ | ⟨a,_ | ⟨b,as⟩⟩
 ·exact nn h
 ·cases ks with
  | nil=>exact ⟨a,rfl,h⟩
  | cons=>exact nn h
 ·exact nn h
noncomputable def j9 (e:Expr):Option (Str × Expr):=match vw e with
 | .call t=>Bl (fun f a=>(d8 f).map fun x=>(x,a)) t
 | _=>none
set_option tactic.hygienic true in
theorem nS {e:Expr}{t:Str × Expr} (h:j9 e=some t):∃ fp p,e=.Call (.Name t.1 fp) [t.2] [] p:=by
 unfold j9 at h
 cases q:vw e <;> rw [q] at h <;> first | exact nn h | skip
 rename_i u
 obtain ⟨a,h1,h2⟩:=mH h
 refine b6 h2 fun x h3 qx2=>?_; subst qx2
 obtain ⟨p,hp⟩:=bL q
 obtain ⟨fp,h4⟩:=bY h3
 rw [h1,h4] at hp
 exact ⟨fp,p,hp⟩
noncomputable def ck1 (c:CE) (f:Str) (t:Str × Expr):CK:=match (f == ("len":Str) && (t.1 == ("set":Str) && (c.glob f && c.glob t.1))) with
 | true=>.setLen t.2
 | false=>(match (f == ("list":Str) && (t.1 == ("reversed":Str) && (c.glob f && c.glob t.1))) with | true=>.revl t.2 | false=>.plain)
noncomputable def ck2 (c:CE) (f:Str) (a:Expr) (t:Str):CK:=match (f == ("isinstance":Str) && (c.glob f && (c.glob t && !(t == ("__debug__":Str))))) with
 | true=>.isi a t
 | false=>.plain
noncomputable def jo (c:CE) (f:Str) (args:List Expr):CK:=match args with
 | [a]=>(match j9 a with | some t=>ck1 c f t | none=>.plain)
 | [a,t]=>(match d8 t with | some x=>ck2 c f a x | none=>.plain)
 | _=>.plain
noncomputable def rj (c:CE) (t:Str):Option Ty:=match tyName.lookup t with
 | some ty=>some ty
 | none=>(match c.clss.lookup t with
  | some _=>some .inst
  | none=>(match c.excs.lookup t with
   | some C=>some (.exc C (c.excs.map (·.2)))
   | none=>gd (t == ("ValueError":Str)) (some (.val (c.excs.map (·.2))))))
noncomputable def iR (c:CE) (f:Str) (as:List E):Option E:=match bltName.lookup f with
 | some b=>gd (bOk b && !c.hnd) (some (.blt b as))
 | none=>(match c.fns.lookup f with
  | some k=>some (.call k as)
  | none =>
   (match c.tfns.lookup f with
   | some k=>gd (c.top == some c.names) (some (.tcall k as))
   | none =>
   (c.clss.lookup f).map fun k=>.mk k as)
   )
noncomputable def Bn (a:E) (as:List E):Option E:=match as with | [k,d]=>some (.dget a k d) | _=>none
noncomputable def ny (c:CE) (x:Str) (a:E) (as:List E):Option E:=match dX.lookup x with
 | some m=>some (.meth a m as)
 | none=>(match (x == ("get":Str)) with | true=>Bn a as | false=>(c.mths.lookup x).map fun f=>.umeth a f as)
noncomputable def vC:Const→Option E
 | .none=>some .none
 | .bool b=>some (.bool b)
 | .int i=>some (.int i)
 | .str s=>some (.str s)
 | _=>none
noncomputable def xY (c:CE) (x:Str):Option E:=gd (!(x == ("__debug__":Str)) && !(x == ("__classdict__":Str))) (match c.loc? x with
 | some i=>some (.loc i)
 | none=>gd (c.glob x) ((c.consts.lookup x).map .int))
noncomputable def Bk:Operator→Bool | .Pow=>true | _=>false
noncomputable def Ag (f:Expr→Option E) (l:Expr) (op:Operator) (r:Expr):Option E:=match BL op with
 | true=>fQ (.bin op) (f l) (f r)
 | false=>gd (Bk op) ((i7 l).bind fun a=>(i7 r).bind fun b=>gd (decide (0 ≤ a ∧ a ≤ 10 ∧ 0 ≤ b ∧ b ≤ 100)) (some (.pow a.toNat b.toNat)))
noncomputable def cUn (f:Expr→Option E) (op:UnaryOp) (x:Expr):Option E:=match op with
 | .Not=>(f x).map .not
 | .USub=>(f x).map .neg
 | _=>none
noncomputable def zI (f:Expr→Option E) (l:Expr) (ops:List CmpOp) (rs:List Expr):Option E:=match ops with
 | [op]=>(match rs with | [r]=>gd (dC op r) (fQ (.cmp op) (f l) (f r)) | _=>none)
 | [o1,o2]=>(match rs with | [m,r]=>gd (dC o2 r) (vt (.cmp2 o1 o2) (f l) (f m) (f r)) | _=>none)
 | _=>none
noncomputable def vf (f:Expr→Option E) (v:Expr):Option Expr→Option Expr→Option Expr→Option E
 | some lo,none,none=>fQ .slo (f v) (f lo)
 | none,some hi,none=>fQ .shi (f v) (f hi)
 | _,_,_=>none
noncomputable def zk (f:Expr→Option E) (v i:Expr):Option E:=match vw i with
 | .slice t=>vf f v t.1 t.2.1 t.2.2
 | _=>fQ .sub (f v) (f i)
noncomputable def xX (f:Expr→Option E) (ks:List (Option Expr)) (vs:List Expr):Option E:=match ks with
 | []=>(match vs with | []=>some .dict0 | _=>none)
 | [some k]=>(match vs with | [v]=>fQ .dict1 (f k) (f v) | _=>none)
 | _=>none
noncomputable def mY (c:CE) (f:Expr→Option E) (x:Str) (args:List Expr):Option E:=match jo c x args with
 | .setLen a=>gd (!c.hnd) ((f a).map fun x=>.blt .setLen [x])
 | .revl a=>gd (!c.hnd) ((f a).map fun x=>.blt .revl [x])
 | .isi a t=>fQ .isi (f a) (rj c t)
 | .plain=>gd (decide (args.length ≤ 8) && (c.glob x && !(x == ("__debug__":Str)))) ((aV f args).bind fun as=>iR c x as)
noncomputable def Bc (op:Operator) (a b:Option KX):Option KX:=match op with
 | .Add=>fQ .add a b
 | .Mult=>fQ .mul a b
 | .Mod=>fQ .mod a b
 | _=>none
noncomputable def pE (c:CE) (p:Str) (sc:Scope) (x:Str):Option KX:=match (x == p) with
 | true=>some .par
 | false=>gd (sc.names.lookup x == some .free && !(x == ("__classdict__":Str))) ((c.locC? x).map .var)
noncomputable def oS:Nat→CE→Str→Scope→Expr→Option KX
 | 0,_,_,_,_=>none
 | n + 1,c,p,sc,e=>match vw e with
  | .const k=>(match k with | .int i=>some (.num i) | _=>none)
  | .name x=>gd (!(x == ("__debug__":Str))) (pE c p sc x)
  | .bin t=>Bc t.2.1 (oS n c p sc t.1) (oS n c p sc t.2.2)
  | _=>none
noncomputable def Bz (ps:Arguments):Option Str:=match ps.args with
 | [a]=>gd (ps.posonlyargs.isEmpty && (ps.vararg.isNone && (ps.kwonlyargs.isEmpty && (ps.kw_defaults.isEmpty && (ps.kwarg.isNone && ps.defaults.isEmpty))))) (some a.arg)
 | _=>none
noncomputable def pX (c:CE) (f:Expr→Option E) (x:Str) (a:Expr) (kw:Option Str) (t:Arguments × Expr × Scope × Pos):Option E :=
 gd (kw == some ("key":Str) && (x == ("sorted":Str) && (c.glob x && (c.lam.isSome && (oJ t.2.2.1 && (!t.2.2.1.isGenerator && (!t.2.2.1.isCoroutine && (fo c t.2.2.1).isSome)))))))
  ((Bz t.1).bind fun p=>gd (t.2.2.1.names.lookup p == some .local) (fQ .srt (f a) (oS 10 c p t.2.2.1 t.2.1)))
noncomputable def sq (c:CE) (f:Expr→Option E) (x:Str) (args:List Expr) (k:Keyword):Option E:=match args with
 | [a]=>(match vw k.value with
  | .const v=>(match v with | .none=>gd (k.arg == some ("default":Str) && (x == ("max":Str) && (c.glob x && !c.hnd))) ((f a).map .maxd) | _=>none)
  | .lam t=>pX c f x a k.arg t
  | _=>none)
 | _=>none
noncomputable def nk (c:CE) (f:Expr→Option E) (t:Expr × Str × Pos) (args:List Expr) (pos:Pos):Option E :=
 gd (decide (args.length ≤ 8) && (dr t.1 && (t.2.2.endLine == pos.line))) ((f t.1).bind fun a=>(aV f args).bind fun as=>ny c t.2.1 a as)
noncomputable def sM (f:Expr→Option E) (s:Str) (t:Expr × Str × Pos) (args:List Expr) (pos:Pos):Option E:=match args with
 | [a]=>gd (t.2.1 == ("join":Str) && (t.2.2.endLine == pos.line)) ((f a).map (.join s))
 | _=>none
noncomputable def tY (c:CE) (f:Expr→Option E) (fn:Expr) (args:List Expr) (ks:List Keyword) (pos:Pos):Option E:=match d8 fn with
 | some x=>(match ks with
  | []=>mY c f x args
  | [k]=>sq c f x args k
  | _=>none)
 | none=>(match ks with
  | []=>(match vw fn with
   | .attr t =>
    (match vw t.1 with
    | .const k=>(match k with | .str s=>sM f s t args pos | _=>none)
    | _=>nk c f t args pos)
   | _=>none)
  | _=>none)
noncomputable def uY:List Comprehension→Option (Expr × Expr × List Expr)
 | [g]=>gd (g.is_async == 0) (some (g.target,g.iter,g.ifs))
 | _=>none
noncomputable def wE (c:CE) (rec:CE→Expr→Option E) (elt:Expr) (gens:List Comprehension) (sc:Scope):Option E:=gd (oJ sc) ((uY gens).bind fun t =>
 (rec c t.2.1).bind fun it=>(tgt (c.sub sc.names) t.1).bind fun tg=>(aV (rec (c.sub sc.names)) t.2.2).bind fun cs=>(rec (c.sub sc.names) elt).bind fun x=>(fo c sc).map fun fr=>.comp tg.1 tg.2 it cs x fr)
noncomputable def AY (rec:CE→Expr→Option E) (c:CE) (e:Expr):Option E:=match e with
 | .Constant k _ _=>vC k
 | .Name x _=>xY c x
 | .BoolOp op vs _=>(aV (rec c) vs).bind (fS op)
 | .BinOp l op r _=>Ag (rec c) l op r
 | .UnaryOp op x _=>cUn (rec c) op x
 | .Compare l ops rs _=>zI (rec c) l ops rs
 | .Subscript v i _=>zk (rec c) v i
 | .Attribute v x _=>gd (dr v) (fQ .attr (rec c v) (c.attrs.lookup x))
 | .List es _=>gd (decide (es.length ≤ 60)) ((aV (rec c) es).map .list)
 | .Tuple es _ _=>gd (decide (es.length ≤ 60)) ((aV (rec c) es).map .tup)
 | .Dict ks vs _=>xX (rec c) ks vs
 | .Call f args ks p=>tY c (rec c) f args ks p
 | .ListComp elt gens sc _=>wE c rec elt gens sc
 | _=>none
noncomputable def al:Nat→CE→Expr→Option E
 | 0=>fun _ _=>none
 | n + 1=>AY (al n)
noncomputable def yQ:Expr→Bool
 | .Constant .. | .Name .. | .BoolOp .. | .BinOp .. | .UnaryOp .. | .Compare .. | .Subscript .. | .Attribute .. | .List .. | .Tuple .. | .Dict .. | .Call .. | .ListComp ..=>true
 | _=>false
theorem cW {n:Nat}{c:CE}{e:Expr}{a:E} (h:al n c e=some a):yQ e=true:=by
 cases n with
 | zero=>exact nn h
 | succ n=>cases e <;> first | rfl | exact nn h
noncomputable def gt (e:Expr):Bool:=match vw e with | .call _=>true | _=>false
noncomputable def di (e:Expr):Bool:=match vw e with | .call _=>true | .sub t=>gt t.1 | _=>false
noncomputable def cX (c:CE) (e:Expr):Option E:=(al 30 c e).bind fun a=>gd (!aJ a || di e) (some a)
theorem eH {c:CE}{e:Expr}{a:E} (h:cX c e=some a):al 30 c e=some a ∧ (aJ a=true→di e=true):=by
 refine bM h fun b h1 h2=>?_
 obtain ⟨h2,h3⟩:=aw h2
 cases Option.some.inj h3
 exact ⟨h1,fun q=>by rw [q] at h2; exact h2⟩
noncomputable def yO (c:CE) (t e:Expr):Option S:=match vw t with
 | .name x=>fQ .asg (c.locW? x) (cX c e)
 | .tup ts=>gd (!wo e) (fQ .asgT (bQ c ts) (al 30 c e))
 | .attr t=>vt .asgA (al 30 c t.1) (c.attrs.lookup t.2.1) (al 30 c e)
 | .sub t=>vt .asgI (al 30 c t.1) (al 30 c t.2) (al 30 c e)
 | _=>none
noncomputable def qF (e:Expr):Option Str:=match vw e with
 | .call t=>Bl (fun f a=>gd (uO a) (d8 f)) t
 | _=>none
noncomputable def Ae (c:CE) (t e:Expr):Option It :=
 (al 30 c e).map .e
noncomputable def cIt (c:CE) (t e:Expr):Option It :=
 Ae c t e
noncomputable def xw (rec:CE→Stmt→Option S) (c:CE) (s:Stmt):Option S:=match s with
 | .Expr e _=>gd (!BA e) ((cX c e).map .expr)
 | .Return v _=>v.bind fun e=>(cX c e).map .ret
 | .Assign ts e _=>(match ts with | [t]=>yO c t e | _=>none)
 | .If t b o _=>vt .ifS (al 30 c t) (aV (rec c) b) (aV (rec c) o)
 | .While t b o _=>gd o.isEmpty (fQ .whileS (al 30 c t) (aV (rec c) b))
 | .For t it b o _=>gd o.isEmpty (vt (fun tg x y=>.forS tg.1 tg.2 x y) (tgt c t) (cIt c t it) (aV (rec c) b))
 | .Raise (some e) none _=>(qF e).bind fun x=>gd (c.glob x && (!(x == ("__debug__":Str)) && !c.hnd)) ((c.excs.lookup x).map .raise)
 | .Pass _=>some .pass
 | _=>none
noncomputable def b8:Nat→CE→Stmt→Option S
 | 0=>fun _ _=>none
 | n + 1=>xw (b8 n)
noncomputable def CE.hand (c:CE):CE:={ c with fns:=c.hfns,clss:=[],mths:=[],attrs:=[],lam:=none,hnd:=true,top:=none,tfns:=[] }
noncomputable def AW (c:CE) (b:List Stmt) (hs:List ExceptHandler):Option S:=match hs with
 | [.ExceptHandler (some t) (some n) (h0 :: h) _]=>(d8 t).bind fun x=>c.pe.bind fun p=>gd (x == p.1 && (c.glob x && (!(x == ("__debug__":Str)) && c.names.lookup n == some .local))) (vt (fun b i h=>S.tryS b (c.excs.map (·.2)) i h) (aV (b8 20 c) b) (c.locW? n) (aV (b8 20 c.hand) (h0 :: h)))
 | _=>none
noncomputable def nE (c:CE) (s:Stmt):Option S:=match s with
 | .Try b hs o fin _=>gd (o.isEmpty && fin.isEmpty) (AW c b hs)
 | s=>(b8 20 c s).bind fun a=>gd (jd a).isNone (some a)
end Mine
namespace Mine
open PySem PyProof.Rows
inductive F2 {α β:Type} (R:α→β→Prop):List α→List β→Prop
 | nil:F2 R [] []
 | cons {a b as bs}:R a b→F2 R as bs→F2 R (a :: as) (b :: bs)
section
variable {α β:Type}{R R':α→β→Prop}{as as':List α}{bs bs':List β}
theorem F2.mono (h:∀ a b,R a b→R' a b) (f:F2 R as bs):F2 R' as bs:=by
 induction f with
 | nil=>exact .nil
 | cons x _ ih=>exact .cons (h _ _ x) ih
theorem F2.length (f:F2 R as bs):as.length=bs.length:=by
 induction f with
 | nil=>rfl
 | cons _ _ ih=>exact congrArg (· + 1) ih
theorem F2.append (f:F2 R as bs) (r:F2 R as' bs'):F2 R (as ++ as') (bs ++ bs'):=by
 induction f with
 | nil=>exact r
 | cons x _ ih=>exact .cons x ih
theorem F2.get (f:F2 R as bs):∀ {i:Nat}{a:α},as[i]?=some a→∃ b,bs[i]?=some b ∧ R a b:=by
 induction f with
 | nil=>exact fun h=>nn h
 | cons x _ ih =>
  intro i a h
  cases i with
  | zero=>exact ⟨_,rfl,Option.some.inj h ▸ x⟩
  | succ i=>exact ih h
theorem F2.drop (f:F2 R as bs):∀ n,F2 R (as.drop n) (bs.drop n):=by
 induction f with
 | nil=>intro n; rw [List.drop_nil,List.drop_nil]; exact .nil
 | cons x r ih =>
  intro n
  cases n with
  | zero=>exact .cons x r
  | succ n=>exact ih n
theorem F2.take (f:F2 R as bs):∀ n,F2 R (as.take n) (bs.take n):=by
 induction f with
 | nil=>intro n; rw [List.take_nil,List.take_nil]; exact .nil
 | cons x r ih =>
  intro n
  cases n with
  | zero=>exact .nil
  | succ n=>exact .cons x (ih n)
theorem F2.reverse (f:F2 R as bs):F2 R as.reverse bs.reverse:=by
 induction f with
 | nil=>exact .nil
 | cons x _ ih=>rw [List.reverse_cons,List.reverse_cons]; exact ih.append (.cons x .nil)
theorem F2.set (f:F2 R as bs):∀ {n:Nat}{a:α}{b:β},R a b→F2 R (as.set n a) (bs.set n b):=by
 induction f with
 | nil=>exact fun _=>.nil
 | cons x r ih =>
  intro n a b h
  cases n with
  | zero=>exact .cons h r
  | succ n=>exact .cons x (ih h)
theorem F2.replicate {a:α}{b:β} (h:R a b) (n:Nat):F2 R (List.replicate n a) (List.replicate n b):=by
 induction n with
 | zero=>exact .nil
 | succ n ih=>exact .cons h ih
end
noncomputable def Imm (o:Obj):Prop:=(o.cls=.type "tuple" ∨ o.cls=.type "range" ∨ ∃ (C:Addr) (vs:Array Value),o.cls=.ref C ∧ o.data=.fields vs) ∧ (∀ (es:Array DictEntry) (n:Nat),o.data ≠ .dict es n) ∧ ∀ v:Option Value,o.data ≠ .cell v
mutual
noncomputable def RepV (as:List Addr) (h:Heap):V→Value→Prop
 | .none,x=>x=.none
 | .bool b,x=>x=.bool b
 | .int i,x=>∃ t,x=.int i t
 | .str s,x=>∃ t,x=.str s t
 | .tup vs,x=>∃ a items n,x=.ref a ∧ h.get? a=some { cls:=.type "tuple",data:=.seq items n } ∧ (items.size ≤ 16777216 ∧ a ∉ as) ∧ ah as h vs items.toList
 | .ref l,x=>∃ a,x=.ref a ∧ as[l]?=some a
 | .rng lo hi,x=>∃ a t u v,x=.ref a ∧ IsRange h a lo hi 1 t u v ∧ (-1000000 ≤ lo ∧ lo ≤ 1000000 ∧ -1000000 ≤ hi ∧ hi ≤ 1000000)
 | .exc c,x=>∃ a o vs,x=.ref a ∧ h.get? a=some o ∧ o.dict=none ∧ o.cls=.ref c ∧ o.data=.fields vs
noncomputable def ah (as:List Addr) (h:Heap):List V→List Value→Prop
 | [],xs=>xs=[]
 | v :: vs,xs=>∃ y ys,xs=y :: ys ∧ RepV as h v y ∧ ah as h vs ys
end
theorem ah.f2 {as:List Addr}{h:Heap}:∀ {vs:List V}{xs:List Value},ah as h vs xs ↔ F2 (RepV as h) vs xs
 | [],xs=>⟨fun e=>by rw [ah] at e; subst e; exact .nil,fun e=>by cases e; rw [ah]⟩
 | v :: vs,xs=>⟨fun e=>by
   rw [ah] at e
   obtain ⟨y,ys,rfl,h1,h2⟩:=e
   exact .cons h1 (ah.f2.mp h2),fun e=>by
   cases e with
   | cons h1 h2=>rw [ah]; exact ⟨_,_,rfl,h1,ah.f2.mpr h2⟩⟩
structure bX (as:List Addr) (h:Heap) (as':List Addr) (h':Heap):Prop where
 pre:∀ (i:Nat) (a:Addr),as[i]?=some a→as'[i]?=some a
 imm:∀ (a:Addr) (o:Obj),h.get? a=some o→Imm o→(a ∈ as→o.cls ≠ .type "tuple")→h'.get? a=some o
 fresh:∀ a ∈ as',a ∈ as ∨ ∀ o,h.get? a=some o→¬ Imm o
theorem bX.same {as:List Addr}{h h':Heap} (k:∀ (a:Addr) (o:Obj),h.get? a=some o→Imm o→(a ∈ as→o.cls ≠ .type "tuple")→h'.get? a=some o):bX as h as h':=⟨fun _ _ e=>e,k,fun _ q=>.inl q⟩
theorem bX.push {as:List Addr}{h h':Heap}{a:Addr} (k:∀ (a:Addr) (o:Obj),h.get? a=some o→h'.get? a=some o) (hn:h.get? a=none):bX as h (as ++ [a]) h' :=
 ⟨fun j c e=>by rw [List.getElem?_append_left (List.getElem?_eq_some_iff.mp e).1]; exact e,fun a o e _ _=>k a o e,fun b q=>(List.mem_append.mp q).imp id fun q o e=>nn (hn.symm.trans (List.mem_singleton.mp q ▸ e))⟩
theorem bX.off {as as':List Addr}{h h':Heap} (k:bX as h as' h') {a:Addr}{o:Obj} (e:h.get? a=some o) (im:Imm o) (q:a ∉ as):a ∉ as':=fun z=>(k.fresh a z).elim q fun z=>z o e im
theorem bX.trans {as as1 as2:List Addr}{h h1 h2:Heap} (K:bX as h as1 h1) (L:bX as1 h1 as2 h2):bX as h as2 h2 :=
 ⟨fun _ _ e=>L.pre _ _ (K.pre _ _ e),fun a o e im ht=>L.imm _ _ (K.imm _ _ e im ht) im fun q=>(K.fresh a q).elim ht fun z=>absurd im (z o e),fun a q=>(L.fresh a q).elim (K.fresh a) fun z=>(Classical.em (a ∈ as)).imp id fun n o e im=>z o (K.imm a o e im fun q=>absurd q n) im⟩
theorem bX.ref {as as':List Addr}{h h':Heap} (k:bX as h as' h') {a:Addr}{o:Obj} (e:h.get? a=some o) (im:Imm o) (q:o.cls ≠ .type "tuple"):h'.get? a=some o:=k.imm a o e im fun _=>q
theorem dF {items:Array Value}{n:Nat}:Imm { cls:=.type "tuple",data:=.seq items n }:=⟨.inl rfl,fun _ _ e=>(nomatch e),fun _ e=>(nomatch e)⟩
theorem pk {o:Obj}{xs:Array Value}{n:Nat} (hc:o.cls=.type "tuple") (hd:o.data=.seq xs n):Imm o:=⟨.inl hc,fun _ _ e=>(by rw [hd] at e; cases e),fun _ e=>(by rw [hd] at e; cases e)⟩
theorem lF {o:Obj}{C:Addr}{vs:Array Value} (hc:o.cls=.ref C) (hd:o.data=.fields vs):Imm o:=⟨.inr (.inr ⟨C,vs,hc,hd⟩),fun _ _ e=>(by rw [hd] at e; cases e),fun _ e=>(by rw [hd] at e; cases e)⟩
theorem sf {vs:Array Value}:Imm { cls:=.type "range",data:=.fields vs }:=⟨.inr (.inl rfl),fun _ _ e=>(nomatch e),fun _ e=>(nomatch e)⟩
mutual
theorem RepV.keep {as as':List Addr}{h h':Heap} (k:bX as h as' h'):∀ (v:V) (x:Value),RepV as h v x→RepV as' h' v x
 | .none,x,e=>by rw [RepV] at e ⊢; exact e
 | .bool b,x,e=>by rw [RepV] at e ⊢; exact e
 | .int i,x,e=>by rw [RepV] at e ⊢; exact e
 | .str s,x,e=>by rw [RepV] at e ⊢; exact e
 | .tup vs,x,e=>by
  rw [RepV] at e ⊢
  obtain ⟨a,items,n,rfl,ho,hz,hr⟩:=e
  exact ⟨a,items,n,rfl,k.imm _ _ ho dF (fun q=>absurd q hz.2),⟨hz.1,k.off ho dF hz.2⟩,ah.keep k _ _ hr⟩
 | .ref l,x,e=>by
  rw [RepV] at e ⊢
  obtain ⟨a,rfl,ha⟩:=e
  exact ⟨a,rfl,k.pre _ _ ha⟩
 | .rng lo hi,x,e=>by
  rw [RepV] at e ⊢
  obtain ⟨a,t,u,v,rfl,ho,hb⟩:=e
  exact ⟨a,t,u,v,rfl,k.ref ho sf (show Value.type "range" ≠ .type "tuple" by decide),hb⟩
 | .exc c,x,e=>by
  rw [RepV] at e ⊢
  obtain ⟨a,o,vs,rfl,ho,hn,hc,hd⟩:=e
  exact ⟨a,o,vs,rfl,k.ref ho (lF hc hd) (fun q=>nomatch hc.symm.trans q),hn,hc,hd⟩
theorem ah.keep {as as':List Addr}{h h':Heap} (k:bX as h as' h'):∀ (vs:List V) (xs:List Value),ah as h vs xs→ah as' h' vs xs
 | [],xs,e=>by rw [ah] at e ⊢; exact e
 | v :: vs,xs,e=>by
  rw [ah] at e ⊢
  obtain ⟨y,ys,rfl,h1,h2⟩:=e
  exact ⟨y,ys,rfl,RepV.keep k _ _ h1,ah.keep k _ _ h2⟩
end
structure Cfg where
 prog:Program
 w:World
 b:Heap
 C:Addr
 at':List (Nat × Str)
 scr:Obj
 tab:Addr
 hd:Option Addr:=none
noncomputable def lC (g:Cfg) (as:List Addr) (h:Heap) (e:Nat × V) (d:DictEntry):Prop :=
 ∃ x t,g.at'.lookup e.1=some x ∧ d.key=.str x t ∧ RepV as h e.2 d.val
noncomputable def oU (g:Cfg) (as:List Addr) (h:Heap) (o:AO) (a:Addr):Prop:=match o with
 | .lst vs=>∃ items,h.PlainList a items ∧ ah as h vs items.toList ∧ vs.length ≤ 16777216
 | .dI es=>∃ kvs,h.DictOf (intKind g.prog g.w) a kvs ∧ F2 (fun (e:Int × V) (x:Int × Value)=>e.1=x.1 ∧ RepV as h e.2 x.2) es kvs ∧ es.length ≤ 1000000 ∧ (a == sysModules)=false
 | .dT es=>∃ xs,h.DictOfH (tupleKind (intKind g.prog g.w)) a xs ∧ F2 (fun (e:List Int × V) (x:List Int × Addr × Value)=>e.1=x.1 ∧ RepV as h e.2 x.2.2) es xs ∧ (es.length ≤ 1000000 ∧ ∀ x ∈ xs,x.2.1 ∉ as) ∧ (a == sysModules)=false
 | .inst d=>∃ dx,as[d]?=some dx ∧ h.get? a=some { cls:=.ref g.C,dict:=some dx,data:=.plain }
 | .att es=>∃ ents n,h.get? a=some { cls:=.type "dict",data:=.dict (List.toArray ents) n } ∧ F2 (lC g as h) es ents ∧ es.length ≤ 100
 | .frz vs=>∃ items n,h.get? a=some g.scr ∧ g.scr={ cls:=.type "list",data:=.seq items n } ∧ ah as h vs items.toList ∧ vs.length ≤ 16777216
 | .tab b=>a=g.tab ∧ ∃ ps:Array Value,h.get? a=some { cls:=.none,data:=.fields ps } ∧ (b=false→ps=#[])
noncomputable def Hnd (hd:Option Addr) (h:Heap):Prop:=∀ a,hd=some a→∃ o C vs,h.get? a=some o ∧ o.cls=.ref C ∧ o.data=.fields vs ∧ vs[2]?=some .none
theorem Hnd.keep {hd:Option Addr}{as as':List Addr}{h h':Heap} (x:Hnd hd h) (k:bX as h as' h'):Hnd hd h':=fun a e =>
 let ⟨o,C,vs,e1,e2,e3,e4⟩:=x a e; ⟨o,C,vs,k.ref e1 (lF e2 e3) (fun q=>nomatch e2.symm.trans q),e2,e3,e4⟩
structure Rel (g:Cfg) (as:List Addr) (σ:Sto) (h:Heap):Prop where
 base:∀ (a:Addr) (o:Obj),g.b.get? a=some o→h.get? a=some o
 len:as.length=σ.length
 nd:as.Nodup
 new:∀ a ∈ as,g.b.get? a=none
 obj:∀ (i:Nat) (a:Addr) (o:AO),as[i]?=some a→σ[i]?=some o→oU g as h o a
 hnd:Hnd g.hd h
structure aD (own as:List Addr) (h:Heap) (as':List Addr) (h':Heap):Prop where
 pre:∃ t,as'=as ++ t ∧ ∀ a ∈ t,h.get? a=none
 ext:∀ (a:Addr) (o:Obj),h.get? a=some o→a ∉ own→a ∉ as→h'.get? a=some o
theorem aD.refl (own as:List Addr) (h:Heap):aD own as h as h:=⟨⟨[],by simp,by simp⟩,fun _ _ e _ _=>e⟩
theorem aD.mem {own as as':List Addr}{h h':Heap} (x:aD own as h as' h') {a:Addr} (ha:a ∈ as):a ∈ as':=by
 obtain ⟨⟨t,rfl,_⟩,_⟩:=x
 exact List.mem_append_left _ ha
theorem aD.get {own as as':List Addr}{h h':Heap} (x:aD own as h as' h') {i:Nat}{a:Addr} (ha:as[i]?=some a):as'[i]?=some a:=by
 obtain ⟨⟨t,rfl,_⟩,_⟩:=x
 rw [List.getElem?_append_left (by exact (List.getElem?_eq_some_iff.mp ha).1)]; exact ha
theorem aD.fresh {own as as':List Addr}{h h':Heap} (x:aD own as h as' h') {a:Addr} (ha:a ∈ as'):a ∈ as ∨ ∀ o,h.get? a=some o→¬ Imm o:=by
 obtain ⟨⟨t,rfl,ht⟩,_⟩:=x
 exact (List.mem_append.mp ha).imp id fun q o e=>nn ((ht a q).symm.trans e)
theorem aD.trans {own as as1 as2:List Addr}{h h1 h2:Heap} (x:aD own as h as1 h1) (y:aD own as1 h1 as2 h2) (nd:as2.Nodup) (off:∀ a ∈ own,a ∉ as2):aD own as h as2 h2:=by
 obtain ⟨⟨t,rfl,ht⟩,x2⟩:=x
 obtain ⟨⟨u,rfl,hu⟩,y2⟩:=y
 refine ⟨⟨t ++ u,by simp,fun a ha=>?_⟩,fun a o e h1 h3=>?_⟩
 ·rcases List.mem_append.mp ha with q | q
  ·exact ht a q
  ·cases e:h.get? a with
   | none=>rfl
   | some o =>
    have h1':a ∉ own:=fun z=>off a z (List.mem_append_right _ q)
    have h2':a ∉ as:=fun z=>(List.nodup_append.mp nd).2.2 a (List.mem_append_left _ z) a q rfl
    have:=x2 a o e h1' h2'
    rw [hu a q] at this; cases this
 ·refine y2 a o (x2 a o e h1 h3) h1 fun q=>?_
  rcases List.mem_append.mp q with q | q
  ·exact h3 q
  ·rw [ht a q] at e; cases e
theorem aD.shrink {own own' as as':List Addr}{h h':Heap} (x:aD own' as h as' h') (hs:∀ a ∈ own',a ∈ own ∨ h.get? a=none):aD own as h as' h' :=
 ⟨x.pre,fun a o e h1 h2=>x.ext a o e (fun q=>(hs a q).elim h1 fun z=>by rw [z] at e; cases e) h2⟩
theorem aD.grow {own own' as as':List Addr}{h h':Heap} (x:aD own as h as' h') (hs:∀ a ∈ own,a ∈ own'):aD own' as h as' h' :=
 ⟨x.pre,fun a o e h1 h2=>x.ext a o e (fun q=>h1 (hs a q)) h2⟩
theorem aD.of_ext {own as:List Addr}{h h':Heap} (k:∀ (a:Addr) (o:Obj),h.get? a=some o→h'.get? a=some o):aD own as h as h' :=
 ⟨⟨[],by simp,by simp⟩,fun a o e _ _=>k a o e⟩
theorem oU.there {g:Cfg}{as:List Addr}{h:Heap}{o:AO}{a:Addr} (r:oU g as h o a):∃ ob,h.get? a=some ob ∧ (Imm ob→ob.cls=.type "tuple"):=by
 cases o with
 | lst vs =>
  obtain ⟨items,⟨n,e⟩,_⟩:=r
  exact ⟨_,e,fun q=>by rcases q.1 with q | q <;> simp at q⟩
 | dI es =>
  obtain ⟨kvs,⟨ob,es',ep,e,_,hd,_⟩,_⟩:=r
  exact ⟨_,e,fun q=>absurd hd (q.2.1 _ _)⟩
 | dT es =>
  obtain ⟨kvs,⟨ob,es',ep,e,_,hd,_⟩,_⟩:=r
  exact ⟨_,e,fun q=>absurd hd (q.2.1 _ _)⟩
 | inst d =>
  obtain ⟨dx,_,e⟩:=r
  exact ⟨_,e,fun q=>by rcases q.1 with q | q <;> simp at q⟩
 | att es =>
  obtain ⟨ents,n,e,_⟩:=r
  exact ⟨_,e,fun q=>absurd rfl (q.2.1 _ _)⟩
 | frz vs =>
  obtain ⟨items,n,e,q,_⟩:=r
  exact ⟨_,e,fun z=>by rw [q] at z; rcases z.1 with z | z <;> simp at z⟩
 | tab b =>
  obtain ⟨_,ps,e,_⟩:=r
  exact ⟨_,e,fun z=>by rcases z.1 with z | z <;> simp at z⟩
theorem Rel.there {g:Cfg}{as:List Addr} {σ:Sto}{h:Heap} (R:Rel g as σ h) {a:Addr} (ha:a ∈ as):∃ ob,h.get? a=some ob ∧ (Imm ob→ob.cls=.type "tuple"):=by
 obtain ⟨i,hi,rfl⟩:=List.getElem_of_mem ha
 have hi':i < σ.length:=R.len ▸ hi
 exact (R.obj i as[i] σ[i] (by simp [hi]) (by simp [hi'])).there
theorem Rel.keep {g:Cfg}{own as as':List Addr} {σ:Sto}{h h':Heap} (R:Rel g as σ h) (x:aD own as h as' h') (ho:∀ a ∈ own,∀ o,h.get? a=some o→¬ Imm o):bX as h as' h' :=
 ⟨fun _ _=>x.get,fun a o e hi ht=>x.ext a o e (fun q=>ho a q o e hi) fun q=>by
  obtain ⟨ob,e',hn⟩:=R.there q
  rw [e] at e'; cases e'; exact ht q (hn hi),fun a q=>x.fresh q⟩
theorem Rel.keep0 {g:Cfg}{as as':List Addr} {σ:Sto}{h h':Heap} (R:Rel g as σ h) (x:aD [] as h as' h'):bX as h as' h':=R.keep x (by simp)
theorem oU.keep {g:Cfg}{as as':List Addr}{h h':Heap}{o:AO}{a:Addr} (r:oU g as h o a) (k:bX as h as' h') (hk:∀ ob,h.get? a=some ob→h'.get? a=some ob):oU g as' h' o a:=by
 cases o with
 | lst vs =>
  obtain ⟨items,p,q,z⟩:=r
  exact ⟨items,p.at hk,ah.keep k _ _ q,z⟩
 | dI es =>
  obtain ⟨kvs,p,q,z⟩:=r
  exact ⟨kvs,p.at hk,q.mono fun _ _ y=>⟨y.1,RepV.keep k _ _ y.2⟩,z⟩
 | dT es =>
  obtain ⟨xs,⟨ob,es',ep,e,p1,p2,p3,p4,p5⟩,q,z⟩:=r
  refine ⟨xs,⟨ob,es',ep,hk _ e,p1,p2,p3,fun x hx=>?_,p5⟩,q.mono fun _ _ y=>⟨y.1,RepV.keep k _ _ y.2⟩,⟨z.1.1,fun x hx=>let ⟨o1,its,n1,e1,c1,d1,r1⟩:=p4 x hx; k.off e1 (pk c1 d1) (z.1.2 x hx)⟩,z.2⟩
  obtain ⟨o1,its,n1,e1,c1,d1,r1⟩:=p4 x hx
  exact ⟨o1,its,n1,k.imm _ _ e1 (pk c1 d1) (fun w=>absurd w (z.1.2 x hx)),c1,d1,r1⟩
 | inst d =>
  obtain ⟨dx,p,q⟩:=r
  exact ⟨dx,k.pre _ _ p,hk _ q⟩
 | att es =>
  obtain ⟨ents,n,p,q,z⟩:=r
  exact ⟨ents,n,hk _ p,q.mono fun _ _ ⟨x,t,y1,y2,y3⟩=>⟨x,t,y1,y2,RepV.keep k _ _ y3⟩,z⟩
 | frz vs =>
  obtain ⟨items,n,e,q,w,z⟩:=r
  exact ⟨items,n,hk _ e,q,ah.keep k _ _ w,z⟩
 | tab b =>
  obtain ⟨e0,ps,e,q⟩:=r
  exact ⟨e0,ps,hk _ e,q⟩
theorem Rel.ext {g:Cfg}{as:List Addr} {σ:Sto}{h h':Heap} (R:Rel g as σ h) (k:∀ (a:Addr) (o:Obj),h.get? a=some o→h'.get? a=some o):Rel g as σ h' :=
 have K:bX as h as h':=.same fun a o e _ _=>k a o e
 ⟨fun a o e=>k a o (R.base a o e),R.len,R.nd,R.new,fun i a o h1 h2=>(R.obj i a o h1 h2).keep K fun ob e=>k a ob e,R.hnd.keep K⟩
theorem Rel.push {g:Cfg}{as:List Addr} {σ:Sto}{h h':Heap}{o:AO}{a:Addr} (R:Rel g as σ h) (k:∀ (a:Addr) (o:Obj),h.get? a=some o→h'.get? a=some o) (hn:h.get? a=none) (ho:oU g (as ++ [a]) h' o a):Rel g (as ++ [a]) (σ ++ [o]) h':=by
 have R':=R.ext k
 have hna:a ∉ as:=fun q=>by obtain ⟨ob,e,_⟩:=R.there q; rw [hn] at e; cases e
 refine ⟨R'.base,by simp [R.len],?_,fun b hb=>?_,fun i b ob h1 h2=>?_,R'.hnd⟩
 ·exact List.nodup_append.mpr ⟨R.nd,by simp,fun x hx y hy e=>by simp at hy; subst hy; subst e; exact hna hx⟩
 ·rcases List.mem_append.mp hb with q | q
  ·exact R.new b q
  ·simp at q; subst q
   cases e:g.b.get? b with
   | none=>rfl
   | some o=>have:=R.base b o e; rw [hn] at this; cases this
 ·rcases Nat.lt_trichotomy i as.length with hi | hi | hi
  ·rw [List.getElem?_append_left hi] at h1
   rw [List.getElem?_append_left (R.len ▸ hi)] at h2
   exact (R.obj i b ob h1 h2).keep (.push k hn) (k b)
  ·subst hi
   rw [R.len] at h2
   simp at h1 h2; subst h1; subst h2; exact ho
  ·rw [List.getElem?_eq_none (by simp; lia)] at h1; cases h1
theorem kE {as:List Addr}{h h':Heap}{a:Addr} (k:∀ (a:Addr) (o:Obj),h.get? a=some o→h'.get? a=some o) (hn:h.get? a=none):aD [] as h (as ++ [a]) h' :=
 ⟨⟨[a],rfl,fun b hb=>by simp at hb; subst hb; exact hn⟩,fun b o e _ _=>k b o e⟩
theorem Rel.upd {g:Cfg}{as:List Addr} {σ:Sto}{h h':Heap}{o:AO}{a:Addr}{l:Nat} (R:Rel g as σ h) (hl:as[l]?=some a) (k:∀ (b:Addr) (o:Obj),b ≠ a→h.get? b=some o→h'.get? b=some o)
  (ho:bX as h as h'→oU g as h' o a):bX as h as h' ∧ Rel g as (σ.set l o) h' ∧ aD [] as h as h':=by
 have ha:a ∈ as:=List.mem_of_getElem? hl
 obtain ⟨oa,ea,na⟩:=R.there ha
 have K:bX as h as h':=.same fun b ob e hi ht=>k b ob (fun q=>by subst q; rw [ea] at e; cases e; exact ht ha (na hi)) e
 refine ⟨K,⟨fun b ob e=>k b ob (fun q=>?_) (R.base b ob e),by simp [R.len],R.nd,R.new,fun i b ob h1 h2=>?_,R.hnd.keep K⟩,⟨⟨[],by simp,by simp⟩,fun b ob e _ q=>k b ob (fun z=>q (z ▸ ha)) e⟩⟩
 ·subst q; rw [R.new _ ha] at e; cases e
 ·by_cases hi:i=l
  ·subst hi
   rw [hl] at h1; cases h1
   have hlt:i < σ.length:=by
    have:=(List.getElem?_eq_some_iff.mp hl).1; rw [R.len] at this; exact this
   rw [List.getElem?_set_self hlt] at h2; cases h2
   exact ho K
  ·rw [List.getElem?_set_ne (Ne.symm hi)] at h2
   refine (R.obj i b ob h1 h2).keep K fun oc e=>k b oc (fun q=>hi ?_) e
   subst q
   obtain ⟨j1,j2⟩:=List.getElem?_eq_some_iff.mp h1
   obtain ⟨j3,j4⟩:=List.getElem?_eq_some_iff.mp hl
   exact (List.getElem_inj R.nd).mp (j2.trans j4.symm)
structure ay (g:Cfg) (env:Env) (as:List Addr) (fr:Fra) (h:Heap):Prop where
 kind:env.scope.kind=.function
 above:g.b.objs.size ≤ env.locals
 glob:env.globals=mainGlobals
 blt:env.builtins=builtinsNs
 len:fr.length=env.scope.names.length
 nd:(env.scope.names.map (·.1)).Nodup
 ns:∃ m,h.Ns env.locals m ∧ ∀ (i:Nat) (x:Str) (v:V),env.scope.names[i]?=some (x,.local)→fr[i]?=some (some v)→∃ val,m x=some val ∧ RepV as h v val
 cells:∀ (i:Nat) (x:Str) (k:NameKind),env.scope.names[i]?=some (x,k)→(k=.cell ∨ k=.free) →
  ∃ c cv,env.cells.lookup x=some c ∧ h.IsCell c cv ∧ (∀ v,fr[i]?=some (some v)→∃ val,cv=some val ∧ RepV as h v val)
 off:env.locals ∉ as
 offc:∀ x c,env.cells.lookup x=some c→c ∉ as ∧ c ≠ env.locals ∧ ∃ cv,h.IsCell c cv
 apart:∀ x y c,env.cells.lookup x=some c→env.cells.lookup y=some c→x=y
 newc:∀ x c,env.cells.lookup x=some c→g.b.get? c=none
noncomputable def ownOf (env:Env):List Addr:=env.locals :: env.cells.filterMap (fun p=>env.cells.lookup p.1)
set_option tactic.hygienic true in
theorem av {α β:Type} [BEq α] [LawfulBEq α] {l:List (α × β)}{x:α}{y:β} (e:l.lookup x=some y):(x,y) ∈ l:=by
 induction l with
 | nil=>cases e
 | cons p r ih =>
  obtain ⟨a,b⟩:=p
  rw [List.lookup_cons] at e
  split at e
  ·rename_i q; cases e; rw [eq_of_beq q]; exact .head _
  ·exact .tail _ (ih e)
theorem gH {env:Env}{x:Str}{c:Addr} (e:env.cells.lookup x=some c):c ∈ ownOf env:=.tail _ (List.mem_filterMap.mpr ⟨(x,c),av e,e⟩)
theorem b7 {env:Env}{a:Addr} (h:a ∈ ownOf env):a=env.locals ∨ ∃ x,env.cells.lookup x=some a:=by
 rcases List.mem_cons.mp h with q | q
 ·exact .inl q
 ·obtain ⟨p,_,e⟩:=List.mem_filterMap.mp q
  exact .inr ⟨_,e⟩
theorem ay.offs {g:Cfg}{env:Env}{as:List Addr}{fr:Fra}{h:Heap} (F:ay g env as fr h):∀ a ∈ ownOf env,a ∉ as:=fun a ha=>by
 rcases b7 ha with rfl | ⟨x,e⟩
 ·exact F.off
 ·exact (F.offc _ _ e).1
set_option tactic.hygienic true in
theorem ay.keep {g:Cfg}{own:List Addr}{env:Env}{as as':List Addr}{fr:Fra}{h h':Heap} (F:ay g env as fr h) (K:bX as h as' h') (x:aD own as h as' h') (ho:∀ a ∈ ownOf env,a ∉ own):ay g env as' fr h':=by
 obtain ⟨⟨t,ht,hf⟩,hx⟩:=x
 obtain ⟨m,hm,hv⟩:=F.ns
 refine ⟨F.kind,F.above,F.glob,F.blt,F.len,F.nd,⟨m,hm.at' fun o e=>hx _ o e (ho _ (.head _)) F.off,fun i x v h1 h2=>?_⟩,fun i x k h1 h2=>?_,fun q=>?_,fun x c hc=>⟨fun q=>?_,(F.offc _ _ hc).2.1,?_⟩,F.apart,F.newc⟩
 ·obtain ⟨val,e1,e2⟩:=hv i x v h1 h2
  exact ⟨val,e1,RepV.keep K _ _ e2⟩
 ·obtain ⟨c,cv,e1,⟨o,e2,e2'⟩,e3⟩:=F.cells i x k h1 h2
  have hc:c ∈ ownOf env:=gH e1
  refine ⟨c,cv,e1,⟨o,hx _ _ e2 (ho _ hc) (F.offc _ _ e1).1,e2'⟩,fun v e=>?_⟩
  obtain ⟨val,e4,e5⟩:=e3 v e
  exact ⟨val,e4,RepV.keep K _ _ e5⟩
 ·rw [ht] at q
  rcases List.mem_append.mp q with q | q
  ·exact F.off q
  ·obtain ⟨o,es,ep,e,_⟩:=hm; rw [hf _ q] at e; cases e
 ·rw [ht] at q
  rcases List.mem_append.mp q with q | q
  ·exact (F.offc _ _ hc).1 q
  ·obtain ⟨cv,o,e,_⟩:=(F.offc _ _ hc).2.2; rw [hf _ q] at e; cases e
 ·obtain ⟨cv,o,e,e'⟩:=(F.offc _ _ hc).2.2
  exact ⟨cv,o,hx _ _ e (ho _ (gH hc)) (F.offc _ _ hc).1,e'⟩
where
 lookup_mem {α β:Type} [BEq α] [LawfulBEq α] {l:List (α × β)}{x:α}{y:β} (e:l.lookup x=some y):(x,y) ∈ l:=by
  induction l with
  | nil=>cases e
  | cons p r ih =>
   obtain ⟨a,b⟩:=p
   rw [List.lookup_cons] at e
   split at e
   ·rename_i q; cases e; rw [eq_of_beq q]; exact .head _
   ·exact .tail _ (ih e)
noncomputable def newsOf (b:Heap) (L:Addr) (h:Heap):List (Addr × Obj) :=
 (List.range h.objs.size).filterMap fun a=>if a ≠ L ∧ b.get? a=none then (h.get? a).map fun o=>(a,o) else none
set_option tactic.hygienic true in
theorem cw {b:Heap}{L:Addr}{h:Heap}{p:Addr × Obj}:p ∈ newsOf b L h ↔ h.get? p.1=some p.2 ∧ p.1 ≠ L ∧ b.get? p.1=none:=by
 unfold newsOf
 rw [List.mem_filterMap]
 constructor
 ·rintro ⟨a,_,e⟩
  split at e
  ·rename_i hc
   obtain ⟨o,e1,e2⟩:=Option.map_eq_some_iff.mp e
   subst e2
   exact ⟨e1,hc⟩
  ·cases e
 ·rintro ⟨e1,e2⟩
  refine ⟨p.1,List.mem_range.mpr (Heap.lt_size e1),?_⟩
  rw [if_pos e2,e1]; rfl
theorem eP (b:Heap) (L:Addr) (h:Heap):News b L h (newsOf b L h):=fun _ hp=>cw.mp hp
theorem ay.fr {g:Cfg}{env:Env}{as:List Addr}{fr:Fra} {σ:Sto}{h:Heap} (F:ay g env as fr h) (R:Rel g as σ h):∃ m,Fr g.b env.locals h m ∧ ∀ (i:Nat) (x:Str) (v:V),env.scope.names[i]?=some (x,.local)→fr[i]?=some (some v)→∃ val,m x=some val ∧ RepV as h v val :=
 let ⟨m,hm,hv⟩:=F.ns; ⟨m,⟨hm,R.base,F.above⟩,hv⟩
theorem eh {b h h':Heap}{L:Addr}{m:Str→Option Value}{news:List (Addr × Obj)} (Fr':Fr b L h' m) (N:News b L h' news) (hs:∀ p ∈ newsOf b L h,p ∈ news) (hb:∀ (a:Addr) (o:Obj),b.get? a=some o→h.get? a=some o) :
  ∀ (a:Addr) (o:Obj),a ≠ L→h.get? a=some o→h'.get? a=some o:=fun a o hL e=>by
 cases q:b.get? a with
 | none=>exact (N (a,o) (hs _ (cw.mpr ⟨e,hL,q⟩))).1
 | some o' =>
  have:=hb a o' q
  rw [e] at this; cases this
  exact Fr'.keep _ _ q
theorem ay.notImm {g:Cfg}{env:Env}{as:List Addr}{fr:Fra}{h:Heap} (F:ay g env as fr h):∀ a ∈ [env.locals],∀ o,h.get? a=some o→¬ Imm o:=fun a ha o e hi=>by
 simp at ha; subst ha
 obtain ⟨m,⟨o',es,ep,e',d,_⟩,_⟩:=F.ns
 rw [e] at e'; cases e'
 exact hi.2.1 _ _ d
end Mine
namespace Mine
open PySem PyProof.Rows
theorem jk:entryFor table "proto.unchain"=some Builtin.«proto.unchain»:=entryFor_of_fast (by kernel_rfl)
inductive b9 (A:Around) (h:Heap):Prop
 | no (e:A.handled=none):b9 A h
 | is {a C:Addr}{o:Obj}{vs:Array Value} (e:A.handled=some (.ref a)) (ho:h.get? a=some o) (hc:o.cls=.ref C) (hd:o.data=.fields vs) (h2:vs[2]?=some .none):b9 A h
section
variable {prog:Program}{w:World}{A:Around}{E:Value→Shared→Prop}{s:Shared}
set_option tactic.hygienic true in
theorem fA {α:Type}{Q:α→Shared→Prop} (hh:b9 A s.heap)
  (h:∀ e h',(∀ (b:Addr) (o:Obj),s.heap.get? b=some o→h'.get? b=some o)→(∃ o,h'.get? e=some o ∧ o.cls=.type "StopIteration")→E (.ref e) { s with heap:=h' }):wpAny (model prog w) A (newExc (.type "StopIteration") [] >>= fun e=>(raiseNew e:Sem α)) Q E s:=by
 refine wpAny_bind ?_
 simp only [newExc,newTuple]
 refine wpAny_bind (wpAny_newObj_type ?_ (by size_fits))
 refine wpAny_bind (m:=firstArgMember _ _) (wpAny_of_eq (a:=Value.none) (by first | rfl | (simp only [firstArgMember]; rfl)) ?_)
 refine wpAny_newObj_type ?_ (by size_fits)
 have k2:∀ (o1 o2:Obj) (b:Addr) (o:Obj),s.heap.get? b=some o→((s.heap.push o1).push o2).get? b=some o:=fun o1 o2 b o e=>Heap.get?_push_of_some _ (Heap.get?_push_of_some _ e)
 unfold raiseNew
 refine wpAny_bind (wpAny_handled ?_)
 cases hh with
 | no hh =>
  rw [hh]
  exact wpAny_bind (wpAny_pure (wpAny_throw (h _ _ (k2 _ _) ⟨_,Heap.get?_push_size _ rfl,rfl⟩)))
 | is hh ho hc hd h2 =>
  rename_i a C o vs
  rw [hh]
  have hlt:=Heap.lt_size (Heap.get?_push_of_some { cls:=.type "tuple",data:=.seq ([]:List Value).toArray } ho)
  have hne:=Nat.ne_of_lt hlt
  dsimp only
  rw [if_pos (show (Value.ref a != Value.ref (s.heap.push { cls:=.type "tuple",data:=.seq ([]:List Value).toArray }).objs.size)=true from by
   show (!(Value.ref a == Value.ref _))=true
   rw [beq_eq_false_iff_ne.mpr (fun q=>hne (Value.ref.inj q))]; rfl)]
  refine wpAny_bind (wpAny_holding (wpAny_runValue (codeAny_builtin jk ?_)))
  show wpAny _ _ (field (.ref a) 2 >>= _) _ _ _
  refine wpAny_bind (wpAny_field (k2 _ _ _ _ ho) hd (x:=.none) h2 ?_)
  show wpAny _ _ (ret .none) _ _ _
  refine wpAny_pure ?_
  refine wpAny_bind (m:=setField (.ref _) 2 (.ref a)) (wpAny_setField (Heap.get?_push_size _ rfl) rfl (by simp; decide) (wpAny_throw ?_))
  refine h _ _ (fun b ob e=>?_) ⟨_,Heap.get?_update_self _ (Heap.get?_push_size _ rfl) rfl,rfl⟩
  rw [Heap.get?_update_other _ _ (fun q=>?_)]
  ·exact k2 _ _ _ _ e
  ·have h1:=Heap.lt_size (Heap.get?_push_of_some { cls:=.type "tuple",data:=.seq ([]:List Value).toArray } e)
   rw [← q] at h1
   exact Nat.lt_irrefl _ h1
theorem iq {Q:Option Value→Shared→Prop}{X:Value→Shared→Prop}{e:Addr} (h1:∃ o,s.heap.get? e=some o ∧ o.cls=.type "StopIteration") (hQ:Q none s) :
  wpAny (model prog w) A (do if (← isInstance (.ref e) (.type "StopIteration"))=true then pure none else throw (.ref e)) Q X s :=
 wpAny_bind (wpAny_isInstance (T:="StopIteration") (b:=true) h1 isSubtype_stop (wpAny_pure hQ))
theorem b9.upd {h:Heap}{it:Addr}{o:Obj}{t:String}{f:Obj→Obj} (hh:b9 A h) (ho:h.get? it=some o) (hc:o.cls=.type t):b9 A.in1 (h.update it f):=by
 cases hh with
 | no e=>exact .no e
 | is e ho' hc' hd' h2=>exact .is e ((Heap.get?_update_other _ _ (fun q=>by subst q; rw [ho] at ho'; cases ho'; rw [hc] at hc'; cases hc')).trans ho') hc' hd' h2
theorem b9.in1 {h:Heap} (hh:b9 A h):b9 A.in1 h:=by
 cases hh with
 | no e=>exact .no e
 | is e ho' hc' hd' h2=>exact .is e ho' hc' hd' h2
theorem b9.ext {h h':Heap} (hh:b9 A h) (k:∀ (b:Addr) (o:Obj),h.get? b=some o→(∀ t,o.cls ≠ .type t)→h'.get? b=some o):b9 A h':=by
 cases hh with
 | no e=>exact .no e
 | is e ho' hc' hd' h2=>exact .is e (k _ _ ho' fun t q=>by rw [hc'] at q; cases q) hc' hd' h2
theorem tA {it l:Addr}{i:Nat}{items:Array Value}{Q:Option Value→Shared→Prop} (hh:b9 A s.heap) (hit:s.heap.IsListIter it l i) (hl:s.heap.IsList l items) (hx:items[i]?=none)
  (hQ:∀ h',(∀ (b:Addr) (o:Obj),b ≠ it→s.heap.get? b=some o→h'.get? b=some o)→Q none { s with heap:=h' }):wpAny (model prog w) A (pyNext (.ref it)) Q E s:=by
 obtain ⟨o,ho,hc,hd⟩:=id hit
 obtain ⟨ol,hol,_,nl,hdl⟩:=hl
 unfold pyNext
 refine wpAny_bind (wpAny_attempt (wpAny_callSpecial?_slot (name:=Str.ofString "__next__") hit.typeIs slot_listiter_next (wpAny_call_entry slot_listiter_next hit.typeIs entry_listiter_next ?_ (args_listiter_next _))))
 show wpAny _ _ (field (.ref it) 0 >>= _) _ _ s
 refine wpAny_bind (wpAny_field ho hd (x:=.ref l) rfl ?_)
 show wpAny _ _ (if (Value.ref l == Value.none)=true then _ else _) _ _ s
 rw [if_neg (show ¬ ((Value.ref l == Value.none)=true) from Bool.false_ne_true)]
 show wpAny _ _ (field (.ref it) 1 >>= _) _ _ s
 refine wpAny_bind (wpAny_field ho hd (x:=.int i 0) rfl ?_)
 show wpAny _ _ (seqItems? (.ref l) >>= _) _ _ s
 refine wpAny_bind (wpAny_seqItems hol hdl ?_)
 simp only [Int.toNat_natCast,hx]
 refine wpAny_bind (wpAny_rule (wpAny_bind (wpAny_setField ho hd (by simp) ?_)))
 refine fA (hh.upd ho hc) fun e h' k ht=>iq ht (hQ h' fun b ob hb eb=>k b ob ?_)
 rw [Heap.get?_update_other _ _ (Ne.symm hb)]; exact eb
theorem jY {it l:Addr}{i:Nat}{items:Array Value}{Q:Option Value→Shared→Prop} (hh:b9 A s.heap) (hit:s.heap.IsTupleIter it l i) (hl:s.heap.IsTuple l items) (hx:items[i]?=none)
  (hQ:∀ h',(∀ (b:Addr) (o:Obj),b ≠ it→s.heap.get? b=some o→h'.get? b=some o)→Q none { s with heap:=h' }):wpAny (model prog w) A (pyNext (.ref it)) Q E s:=by
 obtain ⟨o,ho,hc,hd⟩:=id hit
 obtain ⟨ol,hol,_,nl,hdl⟩:=hl
 unfold pyNext
 refine wpAny_bind (wpAny_attempt (wpAny_callSpecial?_slot (name:=Str.ofString "__next__") hit.typeIs F.slot_tuple_iterator_next (wpAny_call_entry F.slot_tuple_iterator_next hit.typeIs F.entry_tuple_iterator_next ?_ (F.args_tuple_iterator_next_1 _))))
 show wpAny _ _ (field (.ref it) 0 >>= _) _ _ s
 refine wpAny_bind (wpAny_field ho hd (x:=.ref l) rfl ?_)
 show wpAny _ _ (if (Value.ref l == Value.none)=true then _ else _) _ _ s
 rw [if_neg (show ¬ ((Value.ref l == Value.none)=true) from Bool.false_ne_true)]
 show wpAny _ _ (field (.ref it) 1 >>= _) _ _ s
 refine wpAny_bind (wpAny_field ho hd (x:=.int i 0) rfl ?_)
 show wpAny _ _ (seqItems? (.ref l) >>= _) _ _ s
 refine wpAny_bind (wpAny_seqItems hol hdl ?_)
 simp only [Int.toNat_natCast,hx]
 refine wpAny_bind (wpAny_rule (wpAny_bind (wpAny_setField ho hd (by simp) ?_)))
 refine fA (hh.upd ho hc) fun e h' k ht=>iq ht (hQ h' fun b ob hb eb=>k b ob ?_)
 rw [Heap.get?_update_other _ _ (Ne.symm hb)]; exact eb
theorem ph {it:Addr}{x left step:Int}{Q:Option Value→Shared→Prop} (hh:b9 A s.heap) (hit:IsRangeIter s.heap it x left step) (hleft:left ≤ 0)
  (hQ:∀ h',(∀ (b:Addr) (o:Obj),b ≠ it→s.heap.get? b=some o→h'.get? b=some o)→Q none { s with heap:=h' }):wpAny (model prog w) A (pyNext (.ref it)) Q E s:=by
 have hT:s.TypeIs (.ref it) "range_iterator":=⟨_,hit,rfl⟩
 unfold pyNext
 refine wpAny_bind (wpAny_attempt (wpAny_callSpecial?_slot (name:=Str.ofString "__next__") hT F.slot_range_iterator_next (wpAny_call_entry F.slot_range_iterator_next hT F.entry_range_iterator_next ?_ (F.args_range_iterator_next_1 _))))
 show wpAny _ _ (field (.ref it) 0 >>= _) _ _ s
 refine wpAny_bind (wpAny_field hit rfl (x:=rawInt x) rfl ?_)
 show wpAny _ _ (field (.ref it) 1 >>= _) _ _ s
 refine wpAny_bind (wpAny_field hit rfl (x:=rawInt left) rfl ?_)
 show wpAny _ _ (field (.ref it) 2 >>= _) _ _ s
 refine wpAny_bind (wpAny_field hit rfl (x:=rawInt step) rfl ?_)
 show wpAny _ _ (if left ≤ 0 then _ else _) _ _ s
 rw [if_pos hleft]
 refine wpAny_bind (wpAny_rule (wpAny_bind ?_))
 exact fA hh.in1 fun e h' k ht=>iq ht (hQ h' fun b ob _ eb=>k b ob eb)
theorem jO {env:Env}{elts:List Expr}{x1:Nat}{pos:Pos}{t:Addr}{items:Array Value}{Q:Unit→Shared→Prop} (hh:b9 A s.heap) (ht:s.heap.IsTuple t items)
  (hn:(assignEach elts env).length=items.size) (hstar:(assignEach elts env).findIdx? (·.1)=none)
  (h:∀ h',(∀ (b:Addr) (o:Obj),s.heap.get? b=some o→h'.get? b=some o)→wpAny (model prog w) A (assignInOrder ((assignEach elts env).map (·.2)) items.toList) Q E { s with heap:=h' }) :
  wpAny (model prog w) A (assign (.Tuple elts x1 pos) env (.ref t)) Q E s:=by
 have hlt:t ≠ s.heap.objs.size:=by obtain ⟨o,ho,_⟩:=ht; exact Nat.ne_of_lt (Heap.lt_size ho)
 rw [arm_assign_Tuple]
 refine wpAny_bind (wpAny_standAt ?_)
 unfold unpack
 rw [hn,hstar]
 refine wpAny_bind (wpAny_holding ?_)
 unfold unpackItems
 refine wpAny_bind ?_
 unfold notIterableAtAll
 refine wpAny_bind (wpAny_specialOf ht.typeIs F.slot_tuple_iter.lookup (wpAny_pure ?_))
 simp only [Bool.false_eq_true,if_false]
 refine wpAny_bind (wpAny_holding (wpAny_pyIter_tuple ht ?_))
 refine wpAny_bind (wpAny_holding (wpAny_draw_tuple hlt items.size 0 _ _ ⟨_,Heap.get?_push_size _ rfl,rfl,rfl⟩ (ht.push _) (Nat.le_of_eq (Nat.zero_add _)) fun h₁ hit₁ hs₁=>?_))
 rw [show List.take items.size (List.drop 0 items.toList)=items.toList from by rw [List.drop_zero]; exact List.take_of_length_le (Nat.le_of_eq Array.length_toList)]
 rw [if_neg (by simp)]
 have k1:∀ (b:Addr) (o:Obj),s.heap.get? b=some o→h₁.get? b=some o:=fun b o e=>hs₁.extBut b o (Nat.ne_of_lt (Heap.lt_size e)) (Heap.get?_push_of_some _ e)
 refine wpAny_bind (wpAny_holding (jY (hh.ext fun b o e _=>k1 b o e) hit₁ ((ht.push _).extBut hs₁.extBut hlt) (by simp) fun h₂ he₂=>?_))
 simp only [Option.isSome_none,Bool.false_eq_true,if_false]
 exact wpAny_pure (h h₂ fun b o e=>he₂ b o (Nat.ne_of_lt (Heap.lt_size e)) (k1 b o e))
end
end Mine
namespace Mine
open PySem PyProof.Rows
noncomputable def aI (g:Cfg) (env:Env) (as:List Addr) (fr:Fra) (s:Shared) (v:V) (σ':Sto) (Q:Value→Shared→Prop):Prop :=
 ∀ (val:Value) (as':List Addr) (h':Heap) (tk:Nat),aD [env.locals] as s.heap as' h'→Rel g as' σ' h'→ay g env as' fr h'→RepV as' h' v val→Q val { s with heap:=h',toks:=tk }
structure At (g:Cfg) (env:Env) (as:List Addr) (fr:Fra) (σ:Sto) (s:Shared):Prop where
 F:ay g env as fr s.heap
 R:Rel g as σ s.heap
set_option tactic.hygienic true in
theorem uP {a b:Int} (h:gJ a b):IntMulOk a b:=by
 have key:∀ (x:Int) (k:Nat),x.natAbs < 2 ^ k→Builtin.Int.intBits x ≤ k:=fun x k hx=>by
  unfold Builtin.Int.intBits
  split
  ·exact Nat.zero_le _
  ·rename_i h0
   have h0':x.natAbs ≠ 0:=by intro q; apply h0; simp; lia
   exact (Nat.log2_lt h0').mpr hx
 unfold IntMulOk
 rcases h with h | h | ⟨h,h'⟩
 ·have:=key a 64 h
  have e:decide (Builtin.Int.intBits a > shortFactorBits)=false:=decide_eq_false (Nat.not_lt.mpr this)
  rw [e]; simp
 ·have:=key b 64 h
  have e:decide (Builtin.Int.intBits b > shortFactorBits)=false:=decide_eq_false (Nat.not_lt.mpr this)
  rw [e]; simp
 ·have h1:=key a 333 (Nat.lt_of_lt_of_le h (by decide +kernel))
  have h2:=key b 333 (Nat.lt_of_lt_of_le h' (by decide +kernel))
  have e:Builtin.Int.intTooBig (Builtin.Int.intBits a + Builtin.Int.intBits b)=false:=by
   unfold Builtin.Int.intTooBig bitsLine
   have:(2:Nat) ^ 27=134217728:=by decide +kernel
   exact decide_eq_false (by lia)
  rw [e]; simp
set_option tactic.hygienic true in
theorem zF {x y:Int} (h:y.natAbs < 10 ^ 100):Builtin.divisionGoesByPylong x y=false:=by
 unfold Builtin.divisionGoesByPylong
 have h1:(if (y == 0)=true then 0 else y.natAbs.log2 / 30 + 1) ≤ 300:=by
  split
  ·exact Nat.zero_le _
  ·rename_i h0
   have h0':y.natAbs ≠ 0:=by intro q; apply h0; simp; lia
   have:y.natAbs.log2 < 333:=(Nat.log2_lt h0').mpr (Nat.lt_of_lt_of_le h (by decide +kernel))
   lia
 simp only [gt_iff_lt,decide_eq_false (Nat.not_lt.mpr h1),Bool.false_and]
theorem az (h:Heap) (o:Obj):∀ (a:Addr) (o':Obj),h.get? a=some o'→(h.push o).get? a=some o':=fun _ _ e=>Heap.get?_push_of_some _ e
theorem new_none (h:Heap):h.get? h.objs.size=none:=by
 cases e:h.get? h.objs.size with
 | none=>rfl
 | some o=>exact absurd (Heap.lt_size e) (Nat.lt_irrefl _)
section
variable {g:Cfg}{env:Env}{A:Around}{X:Value→Shared→Prop}{s:Shared}{as:List Addr}{fr:Fra} {σ σ':Sto}{Q:Value→Shared→Prop}
theorem At.frame (T:At g env as fr σ s) {as':List Addr}{h':Heap} (x:aD [] as s.heap as' h'):ay g env as' fr h' :=
 T.F.keep (T.R.keep0 x) x (by simp)
theorem aI.use {v:V} (hQ:aI g env as fr s v σ' Q) (T:At g env as fr σ s) {val:Value}{as':List Addr}{h':Heap}{tk:Nat} (x:aD [] as s.heap as' h') (R':Rel g as' σ' h') (r:RepV as' h' v val) :
  Q val { s with heap:=h',toks:=tk }:=hQ val as' h' tk (x.grow (by simp)) R' (T.frame x) r
theorem aI.same {v:V} (hQ:aI g env as fr s v σ Q) (T:At g env as fr σ s) {val:Value}{tk:Nat} (r:RepV as s.heap v val):Q val { s with toks:=tk }:=hQ.use T (aD.refl _ _ _) T.R r
theorem aI.same' {v:V} (hQ:aI g env as fr s v σ Q) (T:At g env as fr σ s) {val:Value} (r:RepV as s.heap v val):Q val s:=hQ.same (tk:=s.toks) T r
theorem aI.int {i:Int} (hQ:aI g env as fr s (.int i) σ Q) (T:At g env as fr σ s) {t:Tok}{tk:Nat}:Q (.int i t) { s with toks:=tk }:=hQ.same T (by rw [RepV]; exact ⟨_,rfl⟩)
theorem aI.bool {b:Bool} (hQ:aI g env as fr s (.bool b) σ Q) (T:At g env as fr σ s) {tk:Nat}:Q (.bool b) { s with toks:=tk }:=hQ.same T (by rw [RepV])
theorem aI.bool' {b:Bool} (hQ:aI g env as fr s (.bool b) σ Q) (T:At g env as fr σ s):Q (.bool b) s:=hQ.bool (tk:=s.toks) T
set_option tactic.hygienic true in
theorem aI.new {xs:List V}{items:Array Value}{v:V}{tk:Nat}{h':Heap}{a:Addr} (hQ:aI g env as fr s v σ' Q) (T:At g env as fr σ s) (k:∀ (a:Addr) (o':Obj),s.heap.get? a=some o'→h'.get? a=some o') (hn:s.heap.get? a=none)
  (hp:h'.PlainList a items) (r:ah as s.heap xs items.toList) (e:cy xs σ=.ok v σ'):Q (.ref a) { s with heap:=h',toks:=tk }:=by
 unfold cy at e
 split at e
 ·rename_i hz
  cases e
  have K:bX as s.heap (as ++ [a]) h':=.push k hn
  refine hQ.use T (kE k hn) (T.R.push k hn ⟨items,hp,ah.keep K _ _ r,hz⟩) ?_
  rw [RepV]
  exact ⟨_,rfl,by rw [← T.R.len]; simp⟩
 ·cases e
theorem eJ {xs:List V}{v:V} (e:cy xs σ=.ok v σ'):xs.length ≤ 16777216:=by
 unfold cy at e; split at e
 ·assumption
 ·cases e
theorem aI.newH {xs:List V}{items:Array Value}{v:V}{tk:Nat} (hQ:aI g env as fr s v σ' Q) (T:At g env as fr σ s)
  (r:ah as s.heap xs items.toList) (e:cy xs σ=.ok v σ'):Q (.ref s.heap.objs.size) { s with heap:=s.heap.push { cls:=.type "list",data:=.seq items },toks:=tk } :=
 hQ.new T (az _ _) (new_none _) ⟨0,Heap.get?_push_size _ rfl⟩ r e
set_option tactic.hygienic true in
theorem aI.newN {xs:List V}{items:Array Value}{v:V}{tk n:Nat}{h':Heap}{a:Addr}{m m':Str→Option Value}{news:List (Addr × Obj)} (hQ:aI g env as fr s v σ' Q) (T:At g env as fr σ s) (hm:s.heap.Ns env.locals m)
  (F':Fr g.b env.locals h' m') (hm':m'=m) (N':News g.b env.locals h' news) (hs:∀ p ∈ newsOf g.b env.locals s.heap,p ∈ news) (hin:(a,({ cls:=.type "list",data:=.seq items n }:Obj)) ∈ news) (hn:s.heap.get? a=none)
  (r:ah as s.heap xs items.toList) (e:cy xs σ=.ok v σ'):Q (.ref a) { s with heap:=h',toks:=tk }:=by
 subst hm'
 have ext:=eh F' N' hs T.R.base
 unfold cy at e
 split at e
 ·rename_i hz
  cases e
  have x:aD [env.locals] as s.heap (as ++ [a]) h':=⟨⟨[a],rfl,fun b hb=>by simp at hb; subst hb; exact hn⟩,fun b o e h1 _=>ext b o (by simpa using h1) e⟩
  have K:=T.R.keep x T.F.notImm
  have hpl:h'.PlainList a items:=⟨n,(N' _ hin).1⟩
  have hL:env.locals ≠ a:=fun q=>(N' _ hin).2.1 q.symm
  have obj':∀ (i:Nat) (b:Addr) (o:AO),as[i]?=some b→σ[i]?=some o→oU g (as ++ [a]) h' o b:=fun i b o h1 h2 =>
   (T.R.obj i b o h1 h2).keep K fun ob e=>ext b ob (fun q=>T.F.off (q ▸ List.mem_of_getElem? h1)) e
  have hna:a ∉ as:=fun q=>by obtain ⟨ob,e,_⟩:=T.R.there q; rw [hn] at e; cases e
  have R':Rel g (as ++ [a]) (σ ++ [.lst xs]) h':=by
   refine ⟨F'.keep,by simp [T.R.len],?_,fun b hb=>?_,fun i b ob h1 h2=>?_,T.R.hnd.keep K⟩
   ·exact List.nodup_append.mpr ⟨T.R.nd,by simp,fun x hx y hy e=>by simp at hy; subst hy; subst e; exact hna hx⟩
   ·rcases List.mem_append.mp hb with q | q
    ·exact T.R.new b q
    ·simp at q; subst q; exact (N' _ hin).2.2
   ·rcases Nat.lt_trichotomy i as.length with hi | hi | hi
    ·rw [List.getElem?_append_left hi] at h1
     rw [List.getElem?_append_left (T.R.len ▸ hi)] at h2
     exact obj' i b ob h1 h2
    ·subst hi
     rw [T.R.len] at h2
     simp at h1 h2; subst h1; subst h2
     exact ⟨items,hpl,ah.keep K _ _ r,hz⟩
    ·rw [List.getElem?_eq_none (by simp; lia)] at h1; cases h1
  refine hQ (.ref a) (as ++ [a]) h' tk x R' ?_ ?_
  ·obtain ⟨m0,hm0,hv⟩:=T.F.ns
   have hmm:∀ x,m0 x=m' x:=fun x=>hm0.agree hm x
   refine ⟨T.F.kind,T.F.above,T.F.glob,T.F.blt,T.F.len,T.F.nd,⟨m',F'.ns,fun i x v h1 h2=>?_⟩,fun i x k h1 h2=>?_,fun q=>?_,fun x c hc=>⟨fun q=>?_,(T.F.offc _ _ hc).2.1,?_⟩,T.F.apart,T.F.newc⟩
   ·obtain ⟨val,e1,e2⟩:=hv i x v h1 h2
    exact ⟨val,by rw [← hmm]; exact e1,RepV.keep K _ _ e2⟩
   ·obtain ⟨c,cv,e1,⟨o,e2,e2'⟩,e3⟩:=T.F.cells i x k h1 h2
    refine ⟨c,cv,e1,⟨o,ext _ _ (T.F.offc _ _ e1).2.1 e2,e2'⟩,fun v e=>?_⟩
    obtain ⟨val,e4,e5⟩:=e3 v e
    exact ⟨val,e4,RepV.keep K _ _ e5⟩
   ·rcases List.mem_append.mp q with q | q
    ·exact T.F.off q
    ·simp at q; exact hL q
   ·rcases List.mem_append.mp q with q | q
    ·exact (T.F.offc _ _ hc).1 q
    ·simp at q; subst q
     obtain ⟨cv,o,e,_⟩:=(T.F.offc _ _ hc).2.2; rw [hn] at e; cases e
   ·obtain ⟨cv,o,e,e'⟩:=(T.F.offc _ _ hc).2.2
    exact ⟨cv,o,ext _ _ (T.F.offc _ _ hc).2.1 e,e'⟩
  ·rw [RepV]; exact ⟨_,rfl,by rw [← T.R.len]; simp⟩
 ·cases e
theorem At.byNews {h':Heap}{m:Str→Option Value}{news:List (Addr × Obj)} (T:At g env as fr σ s) (hm:s.heap.Ns env.locals m) (F':Fr g.b env.locals h' m) (N':News g.b env.locals h' news)
  (hs:∀ p ∈ newsOf g.b env.locals s.heap,p ∈ news):bX as s.heap as h' ∧ aD [env.locals] as s.heap as h' ∧ Rel g as σ h' ∧ ay g env as fr h':=by
 have ext:=eh F' N' hs T.R.base
 have x:aD [env.locals] as s.heap as h':=⟨⟨[],by simp,by simp⟩,fun b o e h1 _=>ext b o (by simpa using h1) e⟩
 have K:=T.R.keep x T.F.notImm
 refine ⟨K,x,⟨F'.keep,T.R.len,T.R.nd,T.R.new,fun i b o h1 h2=>(T.R.obj i b o h1 h2).keep K fun ob e=>ext b ob (fun q=>T.F.off (q ▸ List.mem_of_getElem? h1)) e,T.R.hnd.keep K⟩,?_⟩
 obtain ⟨m0,hm0,hv⟩:=T.F.ns
 have hmm:∀ x,m0 x=m x:=fun x=>hm0.agree hm x
 refine ⟨T.F.kind,T.F.above,T.F.glob,T.F.blt,T.F.len,T.F.nd,⟨m,F'.ns,fun i x v h1 h2=>?_⟩,fun i x k h1 h2=>?_,T.F.off,fun x c hc=>⟨(T.F.offc _ _ hc).1,(T.F.offc _ _ hc).2.1,?_⟩,T.F.apart,T.F.newc⟩
 ·obtain ⟨val,e1,e2⟩:=hv i x v h1 h2
  exact ⟨val,by rw [← hmm]; exact e1,RepV.keep K _ _ e2⟩
 ·obtain ⟨c,cv,e1,⟨o,e2,e2'⟩,e3⟩:=T.F.cells i x k h1 h2
  refine ⟨c,cv,e1,⟨o,ext _ _ (T.F.offc _ _ e1).2.1 e2,e2'⟩,fun v e=>?_⟩
  obtain ⟨val,e4,e5⟩:=e3 v e
  exact ⟨val,e4,RepV.keep K _ _ e5⟩
 ·obtain ⟨cv,o,e,e'⟩:=(T.F.offc _ _ hc).2.2
  exact ⟨cv,o,ext _ _ (T.F.offc _ _ hc).2.1 e,e'⟩
inductive vk (as:List Addr) (h:Heap) (l:Nat) (vs:List V):Value→Prop
 | mk (a:Addr) (items:Array Value) (n:Nat) (hl:as[l]?=some a) (ho:IsL h a items n) (hr:ah as h vs items.toList) (hz:vs.length ≤ 16777216) (hs:items.size=vs.length):vk as h l vs (.ref a)
theorem g8 {l:Nat}{x:Value}{vs:List V}{h:Heap} (R:Rel g as σ h) (r:RepV as h (.ref l) x) (e:getL σ l=some vs):vk as h l vs x:=by
 rw [RepV] at r
 obtain ⟨a,rfl,ha⟩:=r
 unfold getL at e
 cases q:σ[l]? with
 | none=>rw [q] at e; exact nn e
 | some o =>
  rw [q] at e
  cases o <;> first | exact nn e | skip
  cases Option.some.inj e
  obtain ⟨items,⟨n,p⟩,hr,z⟩:=R.obj l a _ ha q
  exact ⟨a,items,n,ha,p,hr,z,by have:=(ah.f2.mp hr).length; rw [this,Array.length_toList]⟩
theorem mi {l:Nat}{x:Value}{vs:List V} (R:Rel g as σ s.heap) (r:RepV as s.heap (.ref l) x) (e:getL σ l=some vs) :
  ∃ a items n,x=.ref a ∧ as[l]?=some a ∧ IsL s.heap a items n ∧ ah as s.heap vs items.toList ∧ vs.length ≤ 16777216 ∧ items.size=vs.length:=by
 cases g8 R r e with
 | mk a items n hl ho hr hz hs=>exact ⟨a,items,n,rfl,hl,ho,hr,hz,hs⟩
theorem aB {l:Nat}{x:Value}{vs:List V}{G:Prop} (R:Rel g as σ s.heap) (r:RepV as s.heap (.ref l) x) (e:getL σ l=some vs)
  (k:∀ a items n,x=.ref a→as[l]?=some a→IsL s.heap a items n→ah as s.heap vs items.toList→vs.length ≤ 16777216→items.size=vs.length→G):G :=
 let ⟨a,items,n,h1,h2,h3,h4,h5,h6⟩:=mi R r e; k a items n h1 h2 h3 h4 h5 h6
theorem gy {l:Nat}{vs:List V} (e:σ[l]?=some (.lst vs)):getL σ l=some vs:=by unfold getL; rw [e]
theorem ki (x:Value):∀ (n:Nat) (acc:Array Value),(List.foldl (fun x1 x2=>x1 ++ x2) acc (List.replicate n #[x])).toList=acc.toList ++ List.replicate n x
 | 0,acc=>by simp
 | n + 1,acc=>by rw [List.replicate_succ,List.foldl_cons,ki x n]; simp [List.replicate_succ]
theorem au {v:V} {σ':Sto}{P:Prop} (h:RE.bad=.ok v σ'):P:=nomatch h
theorem cj {h:Heap}{i:Int}{x:Value} (r:RepV as h (.int i) x):∃ t,x=.int i t:=by rw [RepV] at r; exact r
theorem lQ {a b v:V}{f:Int→Int→RE} (e:wII a b f=.ok v σ'):∃ x y,a=.int x ∧ b=.int y ∧ f x y=.ok v σ':=by
 cases a <;> first | exact au e | skip
 cases b <;> first | exact au e | exact ⟨_,_,rfl,rfl,e⟩
theorem iK {o:Option (List V)}{f:List V→RE}{v:V} (e:(match o with | some xs=>f xs | none=>.bad)=.ok v σ'):∃ xs,o=some xs ∧ f xs=.ok v σ':=by
 cases o with
 | none=>exact au e
 | some xs=>exact ⟨xs,rfl,e⟩
theorem eN {c:Prop} [Decidable c] {v:V}{r:RE} (e:(if c then r else .bad)=.ok v σ'):c ∧ r=.ok v σ':=by
 by_cases h:c
 ·rw [if_pos h] at e; exact ⟨h,e⟩
 ·rw [if_neg h] at e; exact au e
theorem bC {v w:V} {τ:Sto} (e:RE.ok v τ=.ok w σ'):w=v ∧ σ'=τ:=by cases e; exact ⟨rfl,rfl⟩
theorem AP {a b v:V}{x y:Value} (T:At g env as fr σ s) (ha:RepV as s.heap a x) (hb:RepV as s.heap b y)
  (e:Bu a b σ=.ok v σ') (hQ:aI g env as fr s v σ' Q):wpAny (model g.prog g.w) A (binaryOp .Add x y) Q X s:=by
 cases a <;> first | exact au e | skip
 ·cases b <;> first | exact au e | skip
  obtain ⟨rfl,rfl⟩:=bC e
  obtain ⟨t,rfl⟩:=cj ha; obtain ⟨u,rfl⟩:=cj hb
  exact PyProof.Rows.add_int (hQ.int T)
 ·cases b <;> first | exact au e | skip
  obtain ⟨hz,e⟩:=eN e
  obtain ⟨rfl,rfl⟩:=bC e
  rw [RepV] at ha hb; obtain ⟨t,rfl⟩:=ha; obtain ⟨u,rfl⟩:=hb
  refine PyProof.Rows.add_str (fun t' tk=>hQ.same T (by rw [RepV]; exact ⟨_,rfl⟩)) (Nat.le_trans hz (by decide))
 ·cases b <;> first | exact au e | skip
  obtain ⟨xs,e1,e⟩:=iK e
  obtain ⟨ys,e2,e⟩:=iK e
  refine aB T.R ha e1 fun a1 i1 n1 qx _ p1 q1 _ z1=>?_; subst qx
  refine aB T.R hb e2 fun a2 i2 n2 qx _ p2 q2 _ z2=>?_; subst qx
  have hz:=eJ e
  refine P.add_list p1 p2 (hQ.newH (tk:=s.toks) (xs:=xs ++ ys) T ?_ e) ?_
  ·rw [Array.toList_append]; exact ah.f2.mpr ((ah.f2.mp q1).append (ah.f2.mp q2))
  ·rw [z1,z2]; show _ ≤ 2 ^ 24; simpa using hz
set_option tactic.hygienic true in
theorem AN {a b v:V}{x y:Value} (T:At g env as fr σ s) (ha:RepV as s.heap a x) (hb:RepV as s.heap b y)
  (e:BD a b σ=.ok v σ') (hQ:aI g env as fr s v σ' Q):wpAny (model g.prog g.w) A (binaryOp .Mult x y) Q X s:=by
 cases b <;> first | exact au e | skip
 rename_i n
 obtain ⟨u,rfl⟩:=cj hb
 cases a <;> first | exact au e | skip
 ·obtain ⟨hm,e⟩:=eN e
  obtain ⟨rfl,rfl⟩:=bC e
  obtain ⟨t,rfl⟩:=cj ha
  exact PyProof.Rows.mul_int (hQ.int T) (uP hm)
 ·rename_i l
  have e:zN (getL σ l) n σ=.ok v σ':=e
  rcases e1:getL σ l with _ | ⟨_ | ⟨x1,_ | ⟨x2,xs⟩⟩⟩ <;> rw [e1] at e
  ·exact au e
  ·exact au e
  ·obtain ⟨hlo,e⟩:=eN e
   refine aB T.R ha e1 fun a1 i1 n1 qx _ p1 q1 _ z1=>?_; subst qx
   have hz:=eJ e
   rw [List.length_replicate] at hz
   obtain ⟨m,hF,_⟩:=T.F.fr T.R
   have hz1:i1.size=1:=by simpa using z1
   refine mul_list hF (eP _ _ _) p1 (by lia) (by lia) (by rw [hz1]; lia) fun h' F' N'=>?_
   rw [ah] at q1
   obtain ⟨y,ys,q2,q3,q4⟩:=q1
   rw [ah] at q4; subst q4
   have hi:i1=#[y]:=by apply Array.ext'; simpa using q2
   subst hi
   refine hQ.newN (tk:=s.toks) (xs:=List.replicate n.toNat x1) T hF.ns F' rfl N' (fun p hp=>.tail _ hp) (.head _) (new_none _) ?_ e
   have:(if (#[y]:Array Value).isEmpty=true then 0 else n.toNat)=n.toNat:=by simp
   rw [this,ki]
   simpa using ah.f2.mpr (F2.replicate q3 n.toNat)
  ·exact au e
theorem Ax {op:Operator}{a b v:V}{x y:Value} (T:At g env as fr σ s) (ha:RepV as s.heap a x) (hb:RepV as s.heap b y)
  (e:mt op a b σ=.ok v σ') (hQ:aI g env as fr s v σ' Q):wpAny (model g.prog g.w) A (binaryOp op x y) Q X s:=by
 cases op <;> first | exact au e | exact AP T ha hb e hQ | exact AN T ha hb e hQ | skip
 ·obtain ⟨i,j,rfl,rfl,e'⟩:=lQ e
  obtain ⟨rfl,rfl⟩:=bC e'
  obtain ⟨t,rfl⟩:=cj ha; obtain ⟨u,rfl⟩:=cj hb
  exact PyProof.Rows.sub_int (hQ.int T)
 ·obtain ⟨i,j,rfl,rfl,e'⟩:=lQ e
  by_cases hm:j=0
  ·rw [if_pos hm] at e'; exact au e'
  ·rw [if_neg hm] at e'
   obtain ⟨rfl,rfl⟩:=bC e'
   obtain ⟨t,rfl⟩:=cj ha; obtain ⟨u,rfl⟩:=cj hb
   exact PyProof.Rows.mod_int hm (hQ.int T)
 ·obtain ⟨i,j,rfl,rfl,e'⟩:=lQ e
  obtain ⟨hm,e'⟩:=eN e'
  obtain ⟨rfl,rfl⟩:=bC e'
  obtain ⟨t,rfl⟩:=cj ha; obtain ⟨u,rfl⟩:=cj hb
  exact PyProof.Rows.floordiv_int hm.1 (hQ.int T) (.inl (zF hm.2))
end
end Mine
namespace Mine
open PySem PyProof.Rows
structure b5 (g:Cfg) (A:Around) (n:Nat):Prop where
 units:A.units + 20 * n + 60 ≤ 9900
 depth:A.depth + 4 * n + 20 ≤ 1000
 handled:A.handled=g.hd.map .ref
theorem b5.none {g:Cfg}{A:Around}{n:Nat} (h:b5 g A n) (q:g.hd=.none):A.handled=.none:=by rw [h.handled,q]; rfl
theorem jc {g:Cfg}{A:Around}{as:List Addr} {σ:Sto}{h:Heap} (e:A.handled=g.hd.map .ref) (R:Rel g as σ h):b9 A h:=by
 cases q:g.hd with
 | none=>rw [q] at e; exact .no e
 | some a =>
  rw [q] at e
  obtain ⟨o,C,vs,e1,e2,e3,e4⟩:=R.hnd a q
  exact .is e e1 e2 e3 e4
set_option tactic.hygienic true in
theorem pA {α β:Type}{f:α→Option β}{x:α}{xs:List α}{ys:List β} (e:aV f (x :: xs)=some ys):∃ y r,f x=some y ∧ aV f xs=some r ∧ ys=y :: r:=by
 rw [jT] at e
 split at e
 ·rename_i y r h1 h2; cases e; exact ⟨y,r,h1,h2,rfl⟩
 ·cases e
section
variable {g:Cfg}{as:List Addr} {σ:Sto}{h:Heap}
theorem cn {α β:Type}{f:α→Option β}{x:α}{xs:List α}{ys:List β}{G:Prop} (e:aV f (x :: xs)=some ys) (k:∀ y r,f x=some y→aV f xs=some r→ys=y :: r→G):G:=let ⟨y,r,h1,h2,h3⟩:=pA e; k y r h1 h2 h3
theorem d7 {f:V→Option PyData}{n:Nat} (hf:∀ v d x,f v=some d→RepV as h v x→∃ bs,Reads h x d bs ∧ d.canLay0=true ∧ d.depth ≤ n) :
  ∀ (vs:List V) (ds:List PyData) (xs:List Value),aV f vs=some ds→ah as h vs xs→∃ bs,ReadsAll h xs ds bs ∧ PyData.canLayAll0 ds=true ∧ PyData.depthAll ds ≤ n
 | [],ds,xs,e,r=>by
  rw [dN] at e; cases e; rw [ah] at r; subst r
  exact ⟨_,.nil,rfl,by simp [PyData.depthAll]⟩
 | v :: vs,ds,xs,e,r=>by
  refine cn e fun d r' e1 e2 qx4=>?_; subst qx4
  rw [ah] at r
  obtain ⟨y,ys,rfl,r1,r2⟩:=r
  obtain ⟨b1,h1,h2,h3⟩:=hf v d y e1 r1
  obtain ⟨b2,h4,h5,h6⟩:=d7 hf vs r' ys e2 r2
  exact ⟨_,.cons h1 h4,by simp [PyData.canLayAll0,h2,h5],by simp [PyData.depthAll]; lia⟩
set_option tactic.hygienic true in
theorem eS (R:Rel g as σ h):∀ (n:Nat) (v:V) (d:PyData) (x:Value),toD n σ v=some d→RepV as h v x→∃ bs,Reads h x d bs ∧ d.canLay0=true ∧ d.depth ≤ n
 | 0,_,_,_,e,_=>nn e
 | n + 1,v,d,x,e,r=>by
  have ih:=eS R n
  have e:BH (toD n σ) σ v=some d:=e
  cases v with
  | none=>cases e; rw [RepV] at r; subst r; exact ⟨_,.none,rfl,Nat.zero_le _⟩
  | bool b=>cases e; rw [RepV] at r; subst r; exact ⟨_,.bool b,rfl,Nat.zero_le _⟩
  | int i=>cases e; rw [RepV] at r; obtain ⟨t,rfl⟩:=r; exact ⟨_,.int i t,rfl,Nat.zero_le _⟩
  | str s =>
   have e:(if PyData.strOk s then some (PyData.str s) else none)=some d:=e
   split at e
   ·rename_i ho; cases e; rw [RepV] at r; obtain ⟨t,rfl⟩:=r; exact ⟨_,.str s t,by simpa [PyData.canLay0] using ho,Nat.zero_le _⟩
   ·cases e
  | tup vs =>
   refine b6 e fun ds e1 qx2=>?_; subst qx2
   rw [RepV] at r
   obtain ⟨a,items,k,rfl,ho,_,hr⟩:=r
   obtain ⟨bs,h1,h2,h3⟩:=d7 ih vs ds _ e1 hr
   exact ⟨_,.tuple ho rfl rfl h1,h2,Nat.succ_le_succ h3⟩
  | ref l =>
   have e:(match getL σ l with | some vs=>(aV (toD n σ) vs).map PyData.list | none=>none)=some d:=e
   cases hl:getL σ l with
   | none=>rw [hl] at e; exact nn e
   | some vs =>
    rw [hl] at e
    refine b6 e fun ds e1 qx2=>?_; subst qx2
    refine aB (s:={ heap:=h }) R r hl fun a items k qx _ ho hr _ _=>?_; subst qx
    obtain ⟨bs,h1,h2,h3⟩:=d7 ih vs ds _ e1 hr
    exact ⟨_,.list ho rfl rfl h1,h2,Nat.succ_le_succ h3⟩
  | rng lo hi=>exact nn e
  | exc c=>exact nn e
end
theorem bA {as:List Addr}{h:Heap}:∀ {vs:List V}{is:List Int}{xs:List Value},aE vs=some is→ah as h vs xs→IntsAre xs is
 | [],is,xs,e,r=>by
  unfold aE at e; rw [dN] at e; cases e; rw [ah] at r; subst r; exact .nil
 | v :: vs,is,xs,e,r=>by
  unfold aE at e
  refine cn e fun i r' e1 e2 qx4=>?_; subst qx4
  rw [ah] at r
  obtain ⟨y,ys,rfl,r1,r2⟩:=r
  cases v with
  | int j=>cases e1; rw [RepV] at r1; obtain ⟨t,rfl⟩:=r1; exact .cons _ _ (bA (vs:=vs) e2 r2)
  | _=>cases e1
section
variable {g:Cfg}{env:Env}{A:Around}{X:Value→Shared→Prop}{s:Shared}{as:List Addr}{fr:Fra} {σ σ':Sto}{Q:Value→Shared→Prop}
set_option tactic.hygienic true in
theorem BQ {a b:V}{x y:Value}{r:Bool}{n:Nat} (T:At g env as fr σ s) (hA:b5 g A n) (ha:RepV as s.heap a x) (hb:RepV as s.heap b y)
  (e:eqV σ a b=some r) (hQ:Q (.bool r) s):wpAny (model g.prog g.w) A (compareOp .Eq x y) Q X s:=by
 unfold eqV at e
 split at e
 ·rename_i da db e1 e2
  cases e
  obtain ⟨_,r1,c1,d1⟩:=eS T.R 5 a da x e1 ha
  obtain ⟨_,r2,c2,d2⟩:=eS T.R 5 b db y e2 hb
  exact SeqAt.compareEq_reads r1 r2 c1 c2 (by have:=hA.units; show _ < 9900; lia) hQ
 ·cases e
set_option tactic.hygienic true in
theorem BP {a b:V}{x y:Value}{r:Bool}{n:Nat} (T:At g env as fr σ s) (hA:b5 g A n) (ha:RepV as s.heap a x) (hb:RepV as s.heap b y)
  (e:eqV σ a b=some r) (hQ:Q (.bool (!r)) s):wpAny (model g.prog g.w) A (compareOp .NotEq x y) Q X s:=by
 unfold eqV at e
 split at e
 ·rename_i da db e1 e2
  cases e
  obtain ⟨_,r1,c1,d1⟩:=eS T.R 5 a da x e1 ha
  obtain ⟨_,r2,c2,d2⟩:=eS T.R 5 b db y e2 hb
  exact SeqAt.compareNe_reads r1 r2 c1 c2 (by have:=hA.units; show _ < 9900; lia) hQ
 ·cases e
theorem uU {is:List Int}{i:Int}:is.any (· == i)=decide (i ∈ is):=by
 induction is with
 | nil=>rfl
 | cons j r ih =>
  rw [List.any_cons,ih]
  by_cases h:j=i
  ·subst h; simp
  ·have h':¬ i=j:=fun q=>h q.symm
   simp [h,h']
structure Sys (g:Cfg):Prop where
 sys:sysModules < g.b.objs.size
theorem pY {h:Heap}{i:Int}:∀ {es:List (Int × V)}{kvs:List (Int × Value)},F2 (fun (e:Int × V) (x:Int × Value)=>e.1=x.1 ∧ RepV as h e.2 x.2) es kvs →
  (valueAt kvs i).isSome=es.any (fun e=>e.1 == i) ∧ ∀ v,es.lookup i=some v→∃ y,valueAt kvs i=some y ∧ RepV as h v y:=by
 intro es kvs f
 induction f with
 | nil=>exact ⟨rfl,fun v e=>by cases e⟩
 | @cons a b as' bs x r ih =>
  obtain ⟨h1,h2⟩:=x
  obtain ⟨k,v0⟩:=a
  obtain ⟨k',y0⟩:=b
  have h1':k=k':=h1
  subst h1'
  have e0:valueAt ((k,y0) :: bs) i=if k=i then some y0 else valueAt bs i:=by
   unfold valueAt
   rw [List.find?_cons]
   by_cases hk:k=i <;> simp [hk]
  rw [e0,List.lookup_cons,List.any_cons]
  by_cases hk:k=i
  ·subst hk; simpa using h2
  ·simp only [hk,if_false,Bool.false_or,beq_eq_false_iff_ne.mpr hk,show (i == k)=false from beq_eq_false_iff_ne.mpr (Ne.symm hk)]
   exact ih
theorem yj {h:Heap}{i:List Int}:∀ {es:List (List Int × V)}{xs:List (List Int × Addr × Value)},F2 (fun (e:List Int × V) (x:List Int × Addr × Value)=>e.1=x.1 ∧ RepV as h e.2 x.2.2) es xs →
  (atKey xs i).isSome=es.any (fun e=>e.1 == i) ∧ ∀ v,es.lookup i=some v→∃ p,atKey xs i=some p ∧ RepV as h v p.2:=by
 intro es xs f
 induction f with
 | nil=>exact ⟨rfl,fun v e=>by cases e⟩
 | @cons a b as' bs x r ih =>
  obtain ⟨h1,h2⟩:=x
  obtain ⟨k,v0⟩:=a
  obtain ⟨k',y0⟩:=b
  have h1':k=k':=h1
  subst h1'
  have e0:atKey ((k,y0) :: bs) i=if k=i then some y0 else atKey bs i:=by
   unfold atKey
   rw [List.find?_cons]
   by_cases hk:k=i <;> simp [hk]
  rw [e0,List.lookup_cons,List.any_cons]
  by_cases hk:k=i
  ·subst hk; simpa using h2
  ·simp only [hk,if_false,Bool.false_or,beq_eq_false_iff_ne.mpr hk,show (i == k)=false from beq_eq_false_iff_ne.mpr (Ne.symm hk)]
   exact ih
theorem gB {ks:List V}{k:List Int}{x:Value}{h:Heap} (r:RepV as h (.tup ks) x) (e:aE ks=some k):∃ a,x=.ref a ∧ IsTupleKey (intKind g.prog g.w) h k a ∧ a ∉ as:=by
 rw [RepV] at r
 obtain ⟨a,items,n,rfl,ho,hz,hr⟩:=r
 refine ⟨a,rfl,⟨_,items,n,ho,rfl,rfl,?_⟩,hz.2⟩
 have:=bA e hr
 clear ho hr e hz
 generalize items.toList=xs at this
 induction this with
 | nil=>exact .nil
 | cons n t _ ih=>exact .cons (intKind_is _ _ _ _) ih
inductive InC (σ:Sto) (r:Bool):V→V→Prop
 | lst {l:Nat}{i:Int}{vs:List V}{is:List Int} (hl:σ[l]?=some (.lst vs)) (e1:aE vs=some is) (e2:decide (i ∈ is)=r):InC σ r (.int i) (.ref l)
 | dI {l:Nat}{i:Int}{es:List (Int × V)} (hl:σ[l]?=some (.dI es)) (e2:(es.any fun e=>e.1 == i)=r):InC σ r (.int i) (.ref l)
 | dT {l:Nat}{ks:List V}{k:List Int}{es:List (List Int × V)} (hl:σ[l]?=some (.dT es)) (e1:aE ks=some k) (e2:(es.any fun e=>e.1 == k)=r):InC σ r (.tup ks) (.ref l)
set_option tactic.hygienic true in
theorem qg {a c:V}{r:Bool} (e:inV σ a c=some r):InC σ r a c:=by
 cases c <;> first | exact nn e | skip
 rename_i l
 have e:inO σ[l]? a=some r:=e
 cases hl:σ[l]? with
 | none=>rw [hl] at e; exact nn e
 | some o =>
  rw [hl] at e
  cases o <;> first | exact nn e | skip
  ·cases a <;> first | exact nn e | skip
   refine b6 e fun is e1 e2=>?_
   exact .lst hl e1 e2
  ·cases a <;> first | exact nn e | skip
   exact .dI hl (Option.some.inj e)
  ·cases a <;> first | exact nn e | skip
   refine b6 e fun k e1 e2=>?_
   exact .dT hl e1 e2
theorem BX {a c:V}{x y:Value}{r:Bool}{n:Nat} (G:Sys g) (T:At g env as fr σ s) (hA:b5 g A n) (ha:RepV as s.heap a x) (hc:RepV as s.heap c y)
  (e:inV σ a c=some r) (hQ:aI g env as fr s (.bool r) σ Q):wpAny (model g.prog g.w) A (compareOp .In x y) Q X s:=by
 cases qg e with
 | lst hl e1 e2 =>
  refine aB T.R hc (gy hl) fun a1 items k qx _ ho hr _ _=>?_; subst qx
  rw [RepV] at ha; obtain ⟨t,rfl⟩:=ha
  have hi:=bA e1 hr
  refine in_list_ints (vs:=items.toList) (by simpa using ho.isList) hi ?_
  rw [uU,e2]; exact hQ.bool' T
 | dI hl e2 =>
  subst e2
  rw [RepV] at ha; rw [RepV] at hc; obtain ⟨t,rfl⟩:=ha; obtain ⟨d,rfl,hd⟩:=hc
  obtain ⟨kvs,hk,hf,_,hns⟩:=T.R.obj _ _ _ hd hl
  refine wpAny_in_of (intKind_is _ _ _ t) hns hk.mapOf ?_
  rw [(pY hf).1]; exact hQ.bool T
 | dT hl e1 e2 =>
  obtain ⟨ta,rfl,hk,_⟩:=gB (g:=g) ha e1
  rw [RepV] at hc; obtain ⟨d,rfl,hd⟩:=hc
  obtain ⟨xs,hx,hf,_,hns⟩:=T.R.obj _ _ _ hd hl
  refine wpAny_in_heap (knd:=tupleKind (intKind g.prog g.w)) (tupleKind_room_in1 (by have:=hA.units; show _ < 9900; lia)) hk hns hx ?_
  rw [(yj hf).1,e2]; exact hQ.bool T
theorem vU {a c:V}{x y:Value}{r:Bool} (G:Sys g) (T:At g env as fr σ s) (ha:RepV as s.heap a x) (hc:RepV as s.heap c y)
  (e:mG σ a c=some r) (hQ:aI g env as fr s (.bool r) σ Q):wpAny (model g.prog g.w) A (compareOp .NotIn x y) Q X s:=by
 cases a <;> first | exact nn e | skip
 refine b6 e fun r0 e' qx2=>?_; subst qx2
 cases qg e' with
 | lst hl e1 e2 =>
  refine aB T.R hc (gy hl) fun a1 items k qx _ ho hr _ _=>?_; subst qx
  rw [RepV] at ha; obtain ⟨t,rfl⟩:=ha
  have hi:=bA e1 hr
  refine notin_list_ints (vs:=items.toList) (by simpa using ho.isList) hi ?_
  rw [uU,e2]; exact hQ.bool' T
 | dI hl e2 =>
  subst e2
  rw [RepV] at ha; rw [RepV] at hc; obtain ⟨t,rfl⟩:=ha; obtain ⟨d,rfl,hd⟩:=hc
  obtain ⟨kvs,hk,hf,_,hns⟩:=T.R.obj _ _ _ hd hl
  refine wpAny_notIn_of (intKind_is _ _ _ t) hns hk.mapOf ?_
  rw [(pY hf).1]; exact hQ.bool T
theorem iP {h:Heap}{v:V}{x:Value} (r:RepV as h v x):(x == Value.none)=isNone v:=by
 cases v with
 | none=>rw [RepV] at r; subst r; rfl
 | bool b=>rw [RepV] at r; subst r; rfl
 | int i=>rw [RepV] at r; obtain ⟨t,rfl⟩:=r; rfl
 | str i=>rw [RepV] at r; obtain ⟨t,rfl⟩:=r; rfl
 | tup i=>rw [RepV] at r; obtain ⟨t,_,_,rfl,_⟩:=r; rfl
 | ref i=>rw [RepV] at r; obtain ⟨t,rfl,_⟩:=r; rfl
 | rng i j=>rw [RepV] at r; obtain ⟨t,_,_,_,rfl,_⟩:=r; rfl
 | exc c=>rw [RepV] at r; obtain ⟨t,_,_,rfl,_⟩:=r; rfl
theorem km {op:CmpOp}{a b:V}{x y:Value}{r:Bool}{n:Nat} (G:Sys g) (T:At g env as fr σ s) (hA:b5 g A n) (ha:RepV as s.heap a x) (hb:RepV as s.heap b y)
  (e:iE op a b σ=some r) (hQ:aI g env as fr s (.bool r) σ Q):wpAny (model g.prog g.w) A (compareOp op x y) Q X s:=by
 unfold iE at e
 cases op with
 | Lt =>
  dsimp only at e; split at e
  ·cases e; rw [RepV] at ha hb; obtain ⟨t,rfl⟩:=ha; obtain ⟨u,rfl⟩:=hb; exact PyProof.Rows.lt_int (hQ.bool' T)
  ·cases e
 | LtE =>
  dsimp only at e; split at e
  ·cases e; rw [RepV] at ha hb; obtain ⟨t,rfl⟩:=ha; obtain ⟨u,rfl⟩:=hb; exact PyProof.Rows.le_int (hQ.bool' T)
  ·cases e
 | Gt =>
  dsimp only at e; split at e
  ·cases e; rw [RepV] at ha hb; obtain ⟨t,rfl⟩:=ha; obtain ⟨u,rfl⟩:=hb; exact PyProof.Rows.gt_int (hQ.bool' T)
  ·cases e
 | GtE =>
  dsimp only at e; split at e
  ·cases e; rw [RepV] at ha hb; obtain ⟨t,rfl⟩:=ha; obtain ⟨u,rfl⟩:=hb; exact PyProof.Rows.ge_int (hQ.bool' T)
  ·cases e
 | Eq =>
  dsimp only at e; split at e
  ·cases e; rw [RepV] at ha hb; obtain ⟨t,rfl⟩:=ha; obtain ⟨u,rfl⟩:=hb; exact PyProof.Rows.eq_int (hQ.bool' T)
  ·exact BQ T hA ha hb e (hQ.bool' T)
 | NotEq =>
  dsimp only at e; split at e
  ·cases e; rw [RepV] at ha hb; obtain ⟨t,rfl⟩:=ha; obtain ⟨u,rfl⟩:=hb; exact PyProof.Rows.ne_int (hQ.bool' T)
  ·obtain ⟨r',e1,rfl⟩:=Option.map_eq_some_iff.mp e
   exact BP T hA ha hb e1 (hQ.bool' T)
 | Is =>
  dsimp only at e; split at e
  ·cases e; rw [RepV] at hb; subst hb
   exact is_none_gen (by rw [iP ha]; exact hQ.bool' T)
  ·cases e
 | IsNot =>
  dsimp only at e; split at e
  ·cases e; rw [RepV] at hb; subst hb
   exact isnot_none_gen (by rw [iP ha]; exact hQ.bool' T)
  ·cases e
 | In=>exact BX G T hA ha hb e hQ
 | NotIn=>exact vU G T ha hb e hQ
end
end Mine
namespace Mine
open PySem PyProof.Rows
section
variable {g:Cfg}{env:Env}{A:Around}{X:Value→Shared→Prop}{s:Shared}{as:List Addr}{fr:Fra} {σ σ':Sto}{Q:Value→Shared→Prop}
theorem qM {h:Heap}{vs:List V}{xs:List Value}{k:Int}{v:V} (r:ah as h vs xs) (e:oM vs k=some v) :
  ∃ y,RepV as h v y ∧ ((0 ≤ k ∧ k < vs.length ∧ xs[k.toNat]?=some y) ∨ (k < 0 ∧ -(vs.length:Int) ≤ k ∧ xs[(k + vs.length).toNat]?=some y)):=by
 unfold oM at e
 split at e
 ·obtain ⟨y,h1,h2⟩:=(ah.f2.mp r).get e
  have:=(List.getElem?_eq_some_iff.mp e).1
  exact ⟨y,h2,.inl ⟨by assumption,by lia,h1⟩⟩
 ·split at e
  ·obtain ⟨y,h1,h2⟩:=(ah.f2.mp r).get e
   exact ⟨y,h2,.inr ⟨by lia,by assumption,h1⟩⟩
  ·cases e
theorem qD {l:Nat}{x:Value}{vs:List V} (R:Rel g as σ s.heap) (r:RepV as s.heap (.ref l) x) (e:σ[l]?=some (.frz vs)) :
  ∃ a items n,x=.ref a ∧ as[l]?=some a ∧ IsL s.heap a items n ∧ ah as s.heap vs items.toList ∧ vs.length ≤ 16777216 ∧ items.size=vs.length:=by
 rw [RepV] at r
 obtain ⟨a,rfl,ha⟩:=r
 obtain ⟨items,n,e1,e2,q,z⟩:=R.obj l a _ ha e
 rw [e2] at e1
 exact ⟨a,items,n,rfl,ha,e1,q,z,by have:=(ah.f2.mp q).length; simpa using this.symm⟩
inductive ye (σ:Sto) (v:V):V→V→Prop
 | tup {vs:List V}{k:Int} (e:oM vs k=some v):ye σ v (.tup vs) (.int k)
 | lst {l:Nat}{vs:List V}{k:Int} (hl:σ[l]?=some (.lst vs) ∨ σ[l]?=some (.frz vs)) (e:oM vs k=some v):ye σ v (.ref l) (.int k)
 | dI {l:Nat}{es:List (Int × V)}{k:Int} (hl:σ[l]?=some (.dI es)) (e:es.lookup k=some v):ye σ v (.ref l) (.int k)
 | dT {l:Nat}{ks:List V}{k:List Int}{es:List (List Int × V)} (hl:σ[l]?=some (.dT es)) (he:aE ks=some k) (e:es.lookup k=some v):ye σ v (.ref l) (.tup ks)
set_option tactic.hygienic true in
theorem m8 {a i v:V} (e:jE a i σ=some v):ye σ v a i:=by
 cases a <;> first | exact nn e | skip
 ·cases i <;> first | exact nn e | exact .tup e
 rename_i l
 have e:Bw σ[l]? i=some v:=e
 cases hl:σ[l]? with
 | none=>rw [hl] at e; exact nn e
 | some o =>
  rw [hl] at e
  cases o <;> first | exact nn e | skip
  ·cases i <;> first | exact nn e | exact .lst (.inl hl) e
  ·cases i <;> first | exact nn e | exact .dI hl e
  ·cases i <;> first | exact nn e | skip
   refine bM e fun k e1 e2=>?_
   exact .dT hl e1 e2
  ·cases i <;> first | exact nn e | exact .lst (.inr hl) e
theorem vr {l:Nat}{x:Value}{vs:List V} (R:Rel g as σ s.heap) (r:RepV as s.heap (.ref l) x) (e:σ[l]?=some (.lst vs) ∨ σ[l]?=some (.frz vs)) :
  ∃ a items n,x=.ref a ∧ as[l]?=some a ∧ IsL s.heap a items n ∧ ah as s.heap vs items.toList ∧ vs.length ≤ 16777216 ∧ items.size=vs.length :=
 e.elim (fun e=>mi R r (gy e)) fun e=>qD R r e
theorem rT {a i v:V}{x y:Value}{n:Nat} (T:At g env as fr σ s) (hA:b5 g A n) (ha:RepV as s.heap a x) (hi:RepV as s.heap i y)
  (e:jE a i σ=some v) (hQ:aI g env as fr s v σ Q):wpAny (model g.prog g.w) A (getItem x y) Q X s:=by
 cases m8 e with
 | @tup vs k e1 =>
  rw [RepV] at ha; rw [RepV] at hi
  obtain ⟨t,rfl⟩:=hi
  obtain ⟨ad,items,m,rfl,ho,hz,hr⟩:=ha
  obtain ⟨y,r,hh⟩:=qM hr e1
  have hl:vs.length=items.size:=by have:=(ah.f2.mp hr).length; simpa using this
  refine PyProof.Rows.getItem_tuple (j:=if 0 ≤ k then k.toNat else (k + vs.length).toNat) (x:=y) ⟨_,ho,rfl,m,rfl⟩ ?_ ?_ ?_ ?_ (hQ.same' T r)
  ·rcases hh with hh | hh <;> lia
  ·rcases hh with hh | hh <;> lia
  ·unfold seqIndex?
   rcases hh with ⟨h1,h2,h3⟩ | ⟨h1,h2,h3⟩
   ·simp only [show ¬ k < 0 by lia,if_false,h1,if_true]
    rw [if_pos (by simp; lia)]
   ·simp only [h1,if_true,show ¬ 0 ≤ k by lia,if_false,← hl]
    rw [if_pos (by simp; lia)]
  ·rcases hh with ⟨h1,h2,h3⟩ | ⟨h1,h2,h3⟩
   ·rw [if_pos h1]; simpa using h3
   ·rw [if_neg (by lia)]; simpa using h3
 | lst hl e1 =>
  obtain ⟨ad,items,m,rfl,_,ho,hr,hz,hsz⟩:=vr T.R ha hl
  rw [RepV] at hi; obtain ⟨t,rfl⟩:=hi
  obtain ⟨y,r,hh⟩:=qM hr e1
  rcases hh with ⟨h1,h2,h3⟩ | ⟨h1,h2,h3⟩
  ·exact wpAny_getItem_list ho.isList h1 (by lia) (by simpa using h3) (hQ.same' T r)
  ·exact wpAny_getItem_list_neg ho.isList h1 (by lia) (by lia) (by rw [hsz]; simpa using h3) (hQ.same' T r)
 | dI hl e1 =>
  rw [RepV] at ha; rw [RepV] at hi
  obtain ⟨t,rfl⟩:=hi
  obtain ⟨d,rfl,hd⟩:=ha
  obtain ⟨kvs,hk,hf,_⟩:=T.R.obj _ _ _ hd hl
  obtain ⟨y,h1,h2⟩:=(pY hf).2 v e1
  exact wpAny_getItem_of (intKind_is _ _ _ t) hk.mapOf h1 (hQ.same T h2)
 | dT hl he e1 =>
  obtain ⟨ta,rfl,hk,_⟩:=gB (g:=g) hi he
  rw [RepV] at ha; obtain ⟨d,rfl,hd⟩:=ha
  obtain ⟨xs,hx,hf,_⟩:=T.R.obj _ _ _ hd hl
  obtain ⟨p,h1,h2⟩:=(yj hf).2 v e1
  exact wpAny_getItem_heap (knd:=tupleKind (intKind g.prog g.w)) (tupleKind_room_in1 (by have:=hA.units; show _ < 9900; lia)) hk hx h1 (hQ.same T h2)
theorem Ar {a i v:V}{x y:Value}{n:Nat}{ve ie:Expr} (T:At g env as fr σ s) (hA:b5 g A n) (ha:RepV as s.heap a x) (hi:RepV as s.heap i y)
  (hs:∀ o i,subscripted ie false o i=operate [o,i] (getItem o i))
  (e:jE a i σ=some v) (hQ:aI g env as fr s v σ Q):wpAny (model g.prog g.w) A (subscriptTail ve ie x y) Q X s:=by
 have hg:=rT (X:=X) T hA ha hi e hQ
 cases m8 e with
 | tup e =>
  rw [RepV] at ha
  obtain ⟨ad,items,m,rfl,ho,hz,hr⟩:=ha
  exact tail_any (T:="tuple") ⟨_,ho,rfl⟩ F.slot_tuple_getitem.lookup hg (hs _ _)
 | lst hl e =>
  obtain ⟨ad,items,m,rfl,_,ho,_⟩:=vr T.R ha hl
  exact tail_any (T:="list") ⟨_,ho,rfl⟩ slot_list_getitem.lookup hg (hs _ _)
 | dI hl e =>
  rw [RepV] at ha; obtain ⟨d,rfl,hd⟩:=ha
  obtain ⟨kvs,hk,hf,_⟩:=T.R.obj _ _ _ hd hl
  exact tail_any (T:="dict") hk.typeIs slot_dict_getitem.lookup hg (hs _ _)
 | dT hl he e =>
  rw [RepV] at ha; obtain ⟨d,rfl,hd⟩:=ha
  obtain ⟨xs,hx,hf,_⟩:=T.R.obj _ _ _ hd hl
  exact tail_any (T:="dict") hx.typeIs slot_dict_getitem.lookup hg (hs _ _)
set_option tactic.hygienic true in
theorem zQ {a:V}{x:Value}{i:Int} (G:Sys g) (T:At g env as fr σ s) (ha:RepV as s.heap a x) (e:tl a σ=some i) (hQ:aI g env as fr s (.int i) σ Q) :
  wpAny (model g.prog g.w) A (call (.builtin "len") [x]) Q X s:=by
 unfold tl at e
 split at e
 ·rename_i vs
  cases e
  rw [RepV] at ha
  obtain ⟨ad,items,m,rfl,ho,hz,hr⟩:=ha
  have hl:vs.length=items.size:=by have:=(ah.f2.mp hr).length; simpa using this
  refine P.len_tuple ho (by lia) ?_
  rw [← hl]; exact hQ.int T
 ·split at e
  ·rename_i vs hl
   cases e
   refine aB T.R ha (gy hl) fun ad items m qx _ ho hr hz hsz=>?_; subst qx
   refine Calls.call_len_list ho.isList (by lia) ?_
   rw [hsz]; exact hQ.int T
  ·rename_i vs hl
   cases e
   obtain ⟨ad,items,m,rfl,_,ho,hr,hz,hsz⟩:=qD T.R ha hl
   refine Calls.call_len_list ho.isList (by lia) ?_
   rw [hsz]; exact hQ.int T
  ·rename_i es hl
   cases e
   rw [RepV] at ha; obtain ⟨d,rfl,hd⟩:=ha
   obtain ⟨kvs,hk,hf,hz⟩:=T.R.obj _ _ _ hd hl
   have:=hf.length
   refine call_len_dict hz.2 hk (by have:=hz.1; lia) ?_
   rw [← this]; exact hQ.int T
  ·cases e
 ·cases e
end
end Mine
namespace Mine
set_option backward.match.sparseCases false
open PySem PyProof.Rows
noncomputable def t9:Ty→Option Value
 | .int=>some (.type "int") | .bool=>some (.type "bool") | .tuple=>some (.type "tuple") | .list=>some (.type "list")
 | _=>none
section
variable {g:Cfg}{env:Env}{A:Around}{X:Value→Shared→Prop}{s:Shared}{as:List Addr}{fr:Fra} {σ σ':Sto}{Q:Value→Shared→Prop}
inductive KdX (h:Heap):Nat→Value→Prop
 | int (i:Int) (t:Tok):KdX h 0 (.int i t)
 | bool (b:Bool):KdX h 1 (.bool b)
 | str (x:Str) (t:Tok):KdX h 2 (.str x t)
 | tup (a:Addr) (o:Obj) (ho:h.get? a=some o) (hc:o.cls=.type "tuple"):KdX h 3 (.ref a)
 | lst (a:Addr) (o:Obj) (ho:h.get? a=some o) (hc:o.cls=.type "list"):KdX h 4 (.ref a)
theorem tx {a:V}{x:Value}{k:Nat} (R:Rel g as σ s.heap) (ha:RepV as s.heap a x) (e:tyK a σ=some k):KdX s.heap k x:=by
 cases a with
 | int i=>rw [RepV] at ha; rw [← Option.some.inj e]; exact ha.elim fun t q=>q ▸ .int _ _
 | bool b=>rw [RepV] at ha; rw [← Option.some.inj e,ha]; exact .bool _
 | str x=>rw [RepV] at ha; rw [← Option.some.inj e]; exact ha.elim fun t q=>q ▸ .str _ _
 | tup vs=>rw [RepV] at ha; rw [← Option.some.inj e]; exact ha.elim fun ad q=>q.elim fun items q=>q.elim fun n q=>q.1 ▸ .tup _ _ q.2.1 rfl
 | ref l =>
  refine (bN (show ((getL σ l).map fun _=>4)=some k from e)).elim fun vs q=>?_
  rw [← q.2]
  refine aB R ha q.1 fun ad items n q1 _ ho _ _ _=>?_
  exact q1 ▸ .lst _ _ ho rfl
 | _=>exact nn e
section
variable {k:Nat}{x:Value}{f:Nat→Bool}
theorem w4 (kd:KdX s.heap k x) (h:∀ tk,Q (.bool (k == 0 || k == 1)) { s with toks:=tk }):wpAny (model g.prog g.w) A (call (.builtin "isinstance") [x,.type "int"]) Q X s:=by
 cases kd with
 | int i t=>exact IsiPair.int_int (h s.toks)
 | bool b=>exact IsiPair.bool_int (h s.toks)
 | str x t=>exact IsiPair.str_int (h _)
 | tup a o ho hc=>exact IsiPair.tuple_int ho hc (h _)
 | lst a o ho hc=>exact IsiPair.list_int ho hc (h _)
theorem sW (kd:KdX s.heap k x) (h:∀ tk,Q (.bool (k == 1)) { s with toks:=tk }):wpAny (model g.prog g.w) A (call (.builtin "isinstance") [x,.type "bool"]) Q X s:=by
 cases kd with
 | int i t=>exact IsiPair.int_bool (h _)
 | bool b=>exact IsiPair.bool_bool (h s.toks)
 | str x t=>exact IsiPair.str_bool (h _)
 | tup a o ho hc=>exact IsiPair.tuple_bool ho hc (h _)
 | lst a o ho hc=>exact IsiPair.list_bool ho hc (h _)
theorem pw (kd:KdX s.heap k x) (h:∀ tk,Q (.bool (k == 3)) { s with toks:=tk }):wpAny (model g.prog g.w) A (call (.builtin "isinstance") [x,.type "tuple"]) Q X s:=by
 cases kd with
 | int i t=>exact IsiPair.int_tuple (h _)
 | bool b=>exact IsiPair.bool_tuple (h _)
 | str x t=>exact IsiPair.str_tuple (h _)
 | tup a o ho hc=>exact IsiPair.tuple_tuple ho hc (h s.toks)
 | lst a o ho hc=>exact IsiPair.list_tuple ho hc (h _)
theorem vW (kd:KdX s.heap k x) (h:∀ tk,Q (.bool (k == 4)) { s with toks:=tk }):wpAny (model g.prog g.w) A (call (.builtin "isinstance") [x,.type "list"]) Q X s:=by
 cases kd with
 | int i t=>exact IsiPair.int_list (h _)
 | bool b=>exact IsiPair.bool_list (h _)
 | str x t=>exact IsiPair.str_list (h _)
 | tup a o ho hc=>exact IsiPair.tuple_list ho hc (h _)
 | lst a o ho hc=>exact IsiPair.list_list ho hc (h s.toks)
end
theorem An {t:Ty}{a:V}{x y:Value}{r:Bool} (T:At g env as fr σ s) (ha:RepV as s.heap a x) (e:vc t a σ=some r) (ht:t9 t=some y) (hQ:aI g env as fr s (.bool r) σ Q) :
  wpAny (model g.prog g.w) A (call (.builtin "isinstance") [x,y]) Q X s:=by
 have hq:∀ tk,Q (.bool r) { s with toks:=tk }:=fun tk=>hQ.bool (tk:=tk) T
 cases t with
 | int=>exact si (P:=fun y=>wpAny (model g.prog g.w) A (call (.builtin "isinstance") [x,y]) Q X s) ht ((bN e).elim fun k q=>w4 (tx T.R ha q.1) (q.2 ▸ hq))
 | bool=>exact si (P:=fun y=>wpAny (model g.prog g.w) A (call (.builtin "isinstance") [x,y]) Q X s) ht ((bN e).elim fun k q=>sW (tx T.R ha q.1) (q.2 ▸ hq))
 | tuple=>exact si (P:=fun y=>wpAny (model g.prog g.w) A (call (.builtin "isinstance") [x,y]) Q X s) ht ((bN e).elim fun k q=>pw (tx T.R ha q.1) (q.2 ▸ hq))
 | list=>exact si (P:=fun y=>wpAny (model g.prog g.w) A (call (.builtin "isinstance") [x,y]) Q X s) ht ((bN e).elim fun k q=>vW (tx T.R ha q.1) (q.2 ▸ hq))
 | _=>exact nn ht
noncomputable def at0 (l:List Int) (i:Nat):Int:=l.getD i 0
theorem cq {xs:List Value}{is:List Int} (h:IntsAre xs is) (i:Nat) {v:Value} (e:xs[i]?=some v):∃ t,v=.int (at0 is i) t:=by
 induction h generalizing i with
 | nil=>simp at e
 | cons n t _ ih =>
  cases i with
  | zero=>simp at e; subst e; exact ⟨t,rfl⟩
  | succ i=>simpa [at0] using ih i (by simpa using e)
set_option tactic.hygienic true in
theorem d9 (is:List Int) (x:Int):∀ k,k ≤ is.length →
  at0 (x :: is) (argBest (fun i j=>decide (at0 (x :: is) j < at0 (x :: is) i)) k)=(is.take k).foldl (fun a b=>if a < b then b else a) x
 | 0,_=>by simp [argBest,at0]
 | k + 1,hk=>by
  have ih:=d9 is x k (by lia)
  have hlt:k < is.length:=by lia
  rw [List.take_succ_eq_append_getElem hlt,List.foldl_append,← ih]
  simp only [argBest,List.foldl_cons,List.foldl_nil]
  have e0:at0 (x :: is) (k + 1)=is[k]:=by simp [at0,hlt]
  split
  ·rename_i h
   have h':=of_decide_eq_true h
   rw [e0] at h'
   rw [if_pos h']; exact e0
  ·rename_i h
   have h':=of_decide_eq_false (Bool.eq_false_iff.mpr h)
   rw [e0] at h'
   rw [if_neg h']
set_option tactic.hygienic true in
theorem gT (is:List Int) (x:Int):∀ k,k ≤ is.length →
  at0 (x :: is) (argBest (fun i j=>decide (at0 (x :: is) i < at0 (x :: is) j)) k)=(is.take k).foldl (fun a b=>if b < a then b else a) x
 | 0,_=>by simp [argBest,at0]
 | k + 1,hk=>by
  have ih:=gT is x k (by lia)
  have hlt:k < is.length:=by lia
  rw [List.take_succ_eq_append_getElem hlt,List.foldl_append,← ih]
  simp only [argBest,List.foldl_cons,List.foldl_nil]
  have e0:at0 (x :: is) (k + 1)=is[k]:=by simp [at0,hlt]
  split
  ·rename_i h
   have h':=of_decide_eq_true h
   rw [e0] at h'
   rw [if_pos h']; exact e0
  ·rename_i h
   have h':=of_decide_eq_false (Bool.eq_false_iff.mpr h)
   rw [e0] at h'
   rw [if_neg h']
theorem hV {h h' h2:Heap}{wr:List Addr} (k1:∀ (a:Addr) (o:Obj),h.get? a=some o→h2.get? a=some o) (k:∀ (b:Addr) (o:Obj),b ∉ wr→h2.get? b=some o→h'.get? b=some o) (hw:∀ b ∈ wr,h.get? b=none) :
  ∀ (a:Addr) (o:Obj),h.get? a=some o→h'.get? a=some o:=fun a o e=>k a o (fun q=>by rw [hw a q] at e; cases e) (k1 a o e)
theorem Ai {l:Nat}{x:Value}{is:List Int}{v:Int} (T:At g env as fr σ s) (hA:A.handled=none) (ha:RepV as s.heap (.ref l) x) (e1:(getL σ l).bind aE=some is) (e2:jl is=some v)
  (hQ:aI g env as fr s (.int v) σ Q):wpAny (model g.prog g.w) A (call (.builtin "max") [x]) Q X s:=by
 obtain ⟨vs,e3,e4⟩:=Option.bind_eq_some_iff.mp e1
 refine aB T.R ha e3 fun ad items m qx hd ho hr hz hsz=>?_; subst qx
 have hi:=bA e4 hr
 cases is with
 | nil=>cases e2
 | cons y ys =>
  cases e2
  have hlen:=hi.length
  simp at hlen
  have hne:ad ≠ s.heap.objs.size:=Nat.ne_of_lt (Heap.lt_size ho)
  refine call_max_walk (wpAny_pyIter_list ho.isList ?_)
  refine ⟨s.heap.objs.size,_,_,items.size,_,_,fun i j=>decide (at0 (y :: ys) j < at0 (y :: ys) i),rfl,Walks.list (A:=A.in1) hA s.heap.objs.size ad hne items,⟨⟨_,Heap.get?_push_size _ rfl,rfl,rfl⟩,ho.isList.push _⟩,?_,by lia,?_,?_⟩
  ·intro b hb
   rcases List.mem_cons.mp hb with rfl | hb
   ·rw [Heap.size_push]; exact Nat.lt_succ_self _
   ·rw [List.mem_singleton.mp hb,Heap.size_push]; exact Nat.lt_succ_of_lt (Heap.lt_size ho)
  ·intro i j vi vj s' Q' E' hvi hvj hq
   obtain ⟨t,rfl⟩:=cq hi i (by simpa using hvi)
   obtain ⟨u,rfl⟩:=cq hi j (by simpa using hvj)
   exact PyProof.Rows.gt_int hq
  ·intro v h' tk hv hk
   obtain ⟨t,rfl⟩:=cq hi _ (by simpa using hv)
   have e5:=d9 ys y (items.size - 1) (by lia)
   rw [List.take_of_length_le (by lia)] at e5
   rw [e5]
   have kk:=hV (h:=s.heap) (az _ _) hk (by intro b hb; rw [List.mem_singleton.mp hb]; exact new_none _)
   exact hQ.use T (aD.of_ext kk) (T.R.ext kk) (by rw [RepV]; exact ⟨_,rfl⟩)
theorem Bi {l:Nat}{x:Value}{is:List Int}{v:Int} (T:At g env as fr σ s) (hA:A.handled=none) (ha:RepV as s.heap (.ref l) x) (e1:(getL σ l).bind aE=some is) (e2:xn is=some v)
  (hQ:aI g env as fr s (.int v) σ Q):wpAny (model g.prog g.w) A (call (.builtin "min") [x]) Q X s:=by
 obtain ⟨vs,e3,e4⟩:=Option.bind_eq_some_iff.mp e1
 refine aB T.R ha e3 fun ad items m qx hd ho hr hz hsz=>?_; subst qx
 have hi:=bA e4 hr
 cases is with
 | nil=>cases e2
 | cons y ys =>
  cases e2
  have hlen:=hi.length
  simp at hlen
  have hne:ad ≠ s.heap.objs.size:=Nat.ne_of_lt (Heap.lt_size ho)
  refine call_min_walk (wpAny_pyIter_list ho.isList ?_)
  refine ⟨s.heap.objs.size,_,_,items.size,_,_,fun i j=>decide (at0 (y :: ys) i < at0 (y :: ys) j),rfl,Walks.list (A:=A.in1) hA s.heap.objs.size ad hne items,⟨⟨_,Heap.get?_push_size _ rfl,rfl,rfl⟩,ho.isList.push _⟩,?_,by lia,?_,?_⟩
  ·intro b hb
   rcases List.mem_cons.mp hb with rfl | hb
   ·rw [Heap.size_push]; exact Nat.lt_succ_self _
   ·rw [List.mem_singleton.mp hb,Heap.size_push]; exact Nat.lt_succ_of_lt (Heap.lt_size ho)
  ·intro i j vi vj s' Q' E' hvi hvj hq
   obtain ⟨t,rfl⟩:=cq hi i (by simpa using hvi)
   obtain ⟨u,rfl⟩:=cq hi j (by simpa using hvj)
   exact PyProof.Rows.lt_int hq
  ·intro v h' tk hv hk
   obtain ⟨t,rfl⟩:=cq hi _ (by simpa using hv)
   have e5:=gT ys y (items.size - 1) (by lia)
   rw [List.take_of_length_le (by lia)] at e5
   rw [e5]
   have kk:=hV (h:=s.heap) (az _ _) hk (by intro b hb; rw [List.mem_singleton.mp hb]; exact new_none _)
   exact hQ.use T (aD.of_ext kk) (T.R.ext kk) (by rw [RepV]; exact ⟨_,rfl⟩)
end
end Mine
namespace Mine
open PySem PyProof.Rows PySem.W
theorem tB:typeLookup (.type "list_reverseiterator") "__len__"=pure none:=by rw [typeLookup_type,builtinLookup_eq_fast]; kernel_rfl
theorem w3:typeLookup (.type "list_reverseiterator") "__length_hint__"=pure (some (.builtin "list_reverseiterator.__length_hint__")):=by rw [typeLookup_type,builtinLookup_eq_fast]; kernel_rfl
section
variable {prog:Program}{w:World}{A:Around}{E:Value→Shared→Prop}{s:Shared}{r:Addr}
theorem t0 {Q:Bool→Shared→Prop} (hT:s.TypeIs (.ref r) "list_reverseiterator") (h:Q false s):wpAny (model prog w) A (Builtin.List.listLengthHint (.ref r)) Q E s:=by
 unfold Builtin.List.listLengthHint
 refine wpAny_bind (wpAny_specialOf hT tB ?_)
 refine wpAny_ite_split (fun hab=>absurd hab (by decide +kernel)) (fun _=>?_)
 refine wpAny_ite_split (fun hab=>absurd hab (by decide +kernel)) (fun _=>?_)
 refine wpAny_bind (wpAny_specialOf hT w3 ?_)
 generalize hid:("list_reverseiterator.__length_hint__":String)=id0
 wp_delta
 rw [show splitId id0=some ("list_reverseiterator","__length_hint__") from by subst hid; decide +kernel]
 subst hid
 refine wpAny_bind (wpAny_isInstance (T:="list_reverseiterator") (b:=true) hT (by rw [isSubtype_type]; kernel_rfl) ?_)
 refine wpAny_ite_split (fun hab=>absurd hab (by decide)) (fun _=>?_)
 refine wpAny_ite_split (fun _=>?_) (fun hab=>absurd (by decide +kernel) hab)
 refine wpAny_ite_split (fun hab=>absurd hab (by decide +kernel)) (fun _=>?_)
 exact wpAny_pure h
theorem pi {items acc:Array Value} (h:ItemsOf (fun i v=>items[items.size - 1 - i]?=some v) acc items.size):acc.toList=items.toList.reverse:=by
 apply List.ext_getElem?
 intro i
 by_cases hi:i < items.size
 ·have h1:i < acc.size:=by rw [h.1]; exact hi
  have h2:=h.2 i acc[i] (by simp [h1])
  rw [List.getElem?_reverse (by simpa using hi)]
  simp only [Array.getElem?_toList,Array.length_toList]
  rw [h2]; simp [h1]
 ·rw [List.getElem?_eq_none (by simp; have:=h.1; lia),List.getElem?_eq_none (by simp; lia)]
theorem i6 {l:Addr}{items:Array Value}{Q:Value→Shared→Prop} (hh:A.handled=none) (hr:s.heap.IsRevIter r l ((items.size:Int) - 1)) (hl:s.heap.IsList l items) (hz:items.size ≤ sizeLine)
  (hQ:∀ h' tk acc c',(∀ (b:Addr) (o:Obj),b ≠ r→s.heap.get? b=some o→h'.get? b=some o)→h'.get? s.heap.objs.size=some { cls:=.type "list",dict:=none,data:=.seq acc c',slots:=#[] }→acc.toList=items.toList.reverse →
   Q (.ref s.heap.objs.size) { s with heap:=h',toks:=tk }):wpAny (model prog w) A (call (.type "list") [.ref r]) Q E s:=by
 have hrl:r < s.heap.objs.size:=by obtain ⟨o,e,_⟩:=hr; exact Heap.lt_size e
 have hll:l < s.heap.objs.size:=by obtain ⟨o,e,_⟩:=hl; exact Heap.lt_size e
 have hne:l ≠ r:=fun q=>by
  obtain ⟨o,e,c,_⟩:=hr; obtain ⟨o',e',c',_⟩:=hl
  subst q; rw [e] at e'; cases e'; rw [c] at c'; simp at c'
 refine callType_codes (Q₁:=fun obj s₁=>obj=.ref s.heap.objs.size ∧ s₁={ s with heap:=s.heap.push { cls:=.type "list",data:=.seq #[] } }) PySem.F.called_list (PySem.F.typeCall_list_1 _) PySem.F.entry_list_init
  (code_list_new _ ⟨rfl,rfl⟩) fun obj s₁ h₁=>?_
 obtain ⟨rfl,rfl⟩:=h₁
 generalize hS0:s.heap.objs.size=S at *
 have hS:(s.heap.push { cls:=.type "list",data:=.seq #[] }).get? S=some { cls:=.type "list",data:=.seq #[] }:=by rw [← hS0]; exact Heap.get?_push_size _ rfl
 refine ⟨⟨_,hS,rfl⟩,PySem.F.args_list_init_2 _ _,?_⟩
 show wpAny _ _ (do let old ← Builtin.List.listItems (.ref S); Builtin.List.listUpdate (.ref S) (fun _=>#[]); letGo old.toList.reverse; Builtin.List.listExtendWith (.ref S) (.ref r) .none) _ _ _
 refine wpAny_bind ?_
 unfold Builtin.List.listItems
 refine wpAny_bind (wpAny_seqItems hS rfl (wpAny_pure ?_))
 show wpAny _ _ (updateSeq S (fun _=>#[]) >>= fun _=>letGo (#[]:Array Value).toList.reverse >>= fun _=>Builtin.List.listExtendWith (.ref S) (.ref r) .none) _ _ _
 refine wpAny_bind (wpAny_updateSeq hS rfl ?_)
 have hS₂:=Heap.get?_update_self (Obj.mapSeq (fun _=>(#[]:Array Value))) hS rfl
 refine wpAny_bind (wpAny_letGo ?_)
 generalize hH:((s.heap.push { cls:=.type "list",data:=.seq #[] }).update S (Obj.mapSeq (fun _=>(#[]:Array Value))))=H at *
 have k0:∀ (b:Addr) (o:Obj),s.heap.get? b=some o→H.get? b=some o:=fun b o e=>by
  rw [← hH,Heap.get?_update_other _ _ (by rw [← hS0]; exact Nat.ne_of_gt (Heap.lt_size e))]
  exact Heap.get?_push_of_some _ e
 have hrH:H.IsRevIter r l ((items.size:Int) - 1):=hr.at fun o e=>k0 _ o e
 have hlH:H.IsList l items:=hl.at fun o e=>k0 _ o e
 unfold Builtin.List.listExtendWith
 refine wpAny_bind (wpAny_typeOf (T:="list_reverseiterator") hrH.typeIs ?_)
 have h1:Builtin.List.listSameRef (.ref S) (.ref r)=false:=by simp [Builtin.List.listSameRef]; exact Nat.ne_of_gt hrl
 have h2:(Value.type "list_reverseiterator" == Value.type "list")=false:=by decide
 have h3:(Value.type "list_reverseiterator" == Value.type "tuple")=false:=by decide
 simp only [h1,h2,h3,Bool.or_false,Bool.false_eq_true,if_false]
 refine wpAny_bind (wpAny_pyIter_revIter hrH ?_)
 refine wpAny_bind (wpAny_holding (t0 hrH.typeIs ?_))
 have W:=(Walks.listRev (prog:=prog) (w:=w) (A:=A.in1.in1) hh r l hne items).toS
 have hSf:S ∉ [r,l]:=by
  intro hm
  rcases List.mem_cons.mp hm with e | hm
  ·exact absurd hrl (by rw [e]; exact Nat.lt_irrefl _)
  ·exact absurd hll (by rw [List.mem_singleton.mp hm]; exact Nat.lt_irrefl _)
 have key:∀ (R:Result→Shared→Prop) (h:Heap) (c₁ tk:Nat),(∀ h' tk acc c',(∀ (b:Addr) (o:Obj),b ≠ r→s.heap.get? b=some o→h'.get? b=some o)→h'.get? S=some { cls:=.type "list",dict:=none,data:=.seq acc c',slots:=#[] }→acc.toList=items.toList.reverse →
   R (.ok (.ret .none)) { s with heap:=h',toks:=tk })→(0 ≤ items.size ∧ h.IsRevIter r l ((items.size:Int) - 1 - ((0:Nat):Int)) ∧ h.IsList l items)→(∀ (b:Addr) (o:Obj),b ≠ S→H.get? b=some o→h.get? b=some o) →
   h.get? S=some { cls:=.type "list",data:=.seq #[] c₁ }→codeAny (model prog w) A.in1 (.builtin "list.extend.loop" ⟨[.ref S,.ref r,.none],[]⟩) R { s with heap:=h,toks:=tk }:=by
  intro R h c₁ tk hR hst hk hS₁
  refine codeAny_extend_loopS W hz S hSf .none items.size 0 _ #[] c₁ rfl (Nat.zero_le _) hst hS₁ (ItemsOf.nil _) fun s' acc' c' hm hS' hacc=>?_
  rw [Moved.eq_with hm]
  refine hR s'.heap s'.toks acc' c' (fun b o hb e=>hm.heap b o (fun hmem=>?_) (hk b o ?_ (k0 b o e))) hS' (pi hacc)
  ·rcases List.mem_cons.mp hmem with e' | hmem
   ·rw [e'] at e; exact absurd (Heap.lt_size e) (by rw [← hS0]; exact Nat.lt_irrefl _)
   ·exact hb (List.mem_singleton.mp hmem)
  ·rw [← hS0]; exact Nat.ne_of_lt (Heap.lt_size e)
 have st0:0 ≤ items.size ∧ H.IsRevIter r l ((items.size:Int) - 1 - ((0:Nat):Int)) ∧ H.IsList l items:=⟨Nat.zero_le _,by simpa using hrH,hlH⟩
 refine wpAny_ite_split (fun _=>?_) (fun _=>wpAny_pure ⟨plainId_quiet PySem.F.plain_extend_loop _,key _ _ _ _ (fun h' tk acc c' k e q=>⟨rfl,hQ h' tk acc c' k e q⟩) st0 (fun b o _ e=>e) hS₂⟩)
 refine wpAny_bind (wpAny_rule (wpAny_bind ?_))
 show wpAny _ _ (updateSeq S (·.push .none) >>= fun _=>updateSeq S (·.pop)) _ _ _
 refine wpAny_bind (wpAny_updateSeq hS₂ rfl ?_)
 have hS₃:=Heap.get?_update_self (Obj.mapSeq (·.push Value.none)) hS₂ rfl
 refine wpAny_updateSeq (hz:=by seq_fits) hS₃ rfl ?_
 have hS₄:=Heap.get?_update_self (Obj.mapSeq (·.pop)) hS₃ rfl
 have oth:∀ (b:Addr) (o:Obj),b ≠ S→H.get? b=some o→((H.update S (Obj.mapSeq (·.push Value.none))).update S (Obj.mapSeq (·.pop))).get? b=some o:=fun b o hb e=>by
  rw [Heap.get?_update_other _ _ (Ne.symm hb),Heap.get?_update_other _ _ (Ne.symm hb)]; exact e
 refine wpAny_pure ⟨plainId_quiet PySem.F.plain_extend_loop _,key _ _ _ _ (fun h' tk acc c' k e q=>⟨rfl,hQ h' tk acc c' k e q⟩) ⟨st0.1,st0.2.1.at fun o e=>oth _ o (Nat.ne_of_lt hrl) e,st0.2.2.at fun o e=>oth _ o (Nat.ne_of_lt hll) e⟩ oth hS₄⟩
end
end Mine
namespace Mine
set_option backward.match.sparseCases false
open PySem PyProof.Rows
noncomputable def nB:BN→Value
 | .len=>.builtin "len" | .max=>.builtin "max" | .min=>.builtin "min" | .all=>.builtin "all"
 | .list=>.type "list" | .tuple=>.type "tuple" | .int=>.type "int" | .range=>.type "range"
 | _=>.none
section
variable {g:Cfg}{env:Env}{A:Around}{X:Value→Shared→Prop}{s:Shared}{as:List Addr}{fr:Fra} {σ σ':Sto}{Q:Value→Shared→Prop}
theorem jz {lo hi:Int} (h:-1000000 ≤ lo ∧ lo ≤ 1000000 ∧ -1000000 ≤ hi ∧ hi ≤ 1000000):Builtin.Range.rangeSize lo hi 1=(((hi - lo).toNat:Nat):Int) ∧ Builtin.Range.small lo hi 1=true:=by
 constructor
 ·unfold Builtin.Range.rangeSize
  simp only [show (1:Int) > 0 from by lia,if_true]
  split
  ·rw [Int.toNat_of_nonneg (by lia)]; lia
  ·rw [Int.toNat_of_nonpos (by lia)]; rfl
 ·exact small_one (by lia) (by lia) (by lia) (by lia)
theorem p8 {h:Heap}{lo hi:Int}{acc:Array Value} (hacc:ItemsOf (fun i v=>∃ t,v=Value.int (lo + (i:Int) * 1) t) acc (hi - lo).toNat):ah as h (fP lo hi) acc.toList:=by
 rw [ah.f2]
 have key:∀ (n k:Nat) (xs:List Value),xs.length=n→(∀ j v,xs[j]?=some v→∃ t,v=Value.int (lo + ((k + j:Nat):Int)) t)→F2 (RepV as h) ((List.range' k n).map fun (k:Nat)=>V.int (lo + (k:Int))) xs:=by
  intro n
  induction n with
  | zero=>intro k xs h1 _; simp at h1; subst h1; exact .nil
  | succ n ih =>
   intro k xs h1 h2
   cases xs with
   | nil=>simp at h1
   | cons x xs =>
    rw [List.range'_succ,List.map_cons]
    refine .cons ?_ (ih (k + 1) xs (by simpa using h1) fun j v e=>?_)
    ·obtain ⟨t,rfl⟩:=h2 0 x rfl
     rw [RepV]; exact ⟨t,by simp⟩
    ·obtain ⟨t,rfl⟩:=h2 (j + 1) v (by simpa using e)
     exact ⟨t,by congr 2; lia⟩
 unfold fP
 rw [List.range_eq_range']
 refine key _ 0 _ (by simpa using hacc.1) fun j v e=>?_
 obtain ⟨t,rfl⟩:=hacc.2 j v (by simpa using e)
 exact ⟨t,by simp⟩
set_option tactic.hygienic true in
theorem oV:∀ {vs:List V}{xs:List Value}{h:Heap}{b:Bool},w7 vs=some b→ah as h vs xs →
  ∃ bs:List Bool,xs=bs.map Value.bool ∧ b=bs.all id
 | [],xs,h,b,e,r=>by rw [w7] at e; cases e; rw [ah] at r; subst r; exact ⟨[],rfl,rfl⟩
 | v :: vs,xs,h,b,e,r=>by
  rw [ah] at r
  obtain ⟨y,ys,rfl,r1,r2⟩:=r
  cases v with
  | bool c =>
   rw [w7] at e
   split at e
   ·rename_i d hd
    cases e
    obtain ⟨bs,rfl,rfl⟩:=oV hd r2
    rw [RepV] at r1; subst r1
    exact ⟨c :: bs,rfl,by simp⟩
   ·cases e
  | _=>simp [w7] at e
theorem qV (bs:List Bool):(List.range bs.length).all (fun i=>bs.getD i true)=bs.all id:=by
 rw [Bool.eq_iff_iff,List.all_eq_true,List.all_eq_true]
 constructor
 ·intro h b hb
  obtain ⟨i,hi,rfl⟩:=List.getElem_of_mem hb
  have:=h i (List.mem_range.mpr hi)
  simpa [hi] using this
 ·intro h i hi
  have hi':=List.mem_range.mp hi
  have:=h bs[i] (List.getElem_mem hi')
  simpa [hi'] using this
theorem cf {h:Heap}{a:V}{xs:List Value} (r:ah as h [a] xs):∃ x,xs=[x] ∧ RepV as h a x:=by
 rw [ah] at r; obtain ⟨y,ys,rfl,r1,r2⟩:=r; rw [ah] at r2; subst r2; exact ⟨y,rfl,r1⟩
theorem ll {h:Heap}{a c:V}{xs:List Value} (r:ah as h [a,c] xs):∃ x y,xs=[x,y] ∧ RepV as h a x ∧ RepV as h c y:=by
 rw [ah] at r; obtain ⟨y,ys,rfl,r1,r2⟩:=r; obtain ⟨z,rfl,r3⟩:=cf r2; exact ⟨y,z,rfl,r1,r3⟩
theorem ii {o:Option V}{v:V} (e:bZ σ o=.ok v σ'):o=some v ∧ σ'=σ:=by
 cases o with
 | none=>exact au e
 | some w=>cases e; exact ⟨rfl,rfl⟩
section
variable {vs:List V}{xs:List Value}{v:V}{n:Nat}
theorem Ak (G:Sys g) (T:At g env as fr σ s) (ha:ah as s.heap vs xs) (e:BG vs σ=.ok v σ') (hQ:aI g env as fr s v σ' Q):wpAny (model g.prog g.w) A (call (.builtin "len") xs) Q X s:=by
 rcases vs with _ | ⟨a,_ | ⟨b,vs⟩⟩ <;> first | exact au e | skip
 obtain ⟨h,rfl⟩:=ii e
 obtain ⟨x,rfl,r⟩:=cf ha
 refine b6 h fun i h1 qx2=>?_; subst qx2
 exact zQ G T r h1 hQ
theorem mT {f:List Int→Option Int} (e:rg f vs σ=.ok v σ'):∃ l is i,vs=[.ref l] ∧ (getL σ l).bind aE=some is ∧ f is=some i ∧ v=.int i ∧ σ'=σ:=by
 rcases vs with _ | ⟨a,_ | ⟨b,vs⟩⟩
 ·exact au e
 ·cases a <;> first | exact au e | skip
  obtain ⟨h,rfl⟩:=ii e
  refine b6 h fun i h1 qx2=>?_; subst qx2
  refine bM h1 fun is h2 h3=>?_
  exact ⟨_,is,i,rfl,h2,h3,rfl,rfl⟩
 ·cases a <;> exact au e
theorem A8 (T:At g env as fr σ s) (hA:A.handled=none) (ha:ah as s.heap vs xs) (e:Bt vs σ=.ok v σ') (hQ:aI g env as fr s v σ' Q):wpAny (model g.prog g.w) A (call (.builtin "max") xs) Q X s:=by
 have one:rg jl vs σ=.ok v σ'→wpAny (model g.prog g.w) A (call (.builtin "max") xs) Q X s:=fun e=>by
  obtain ⟨l,is,i,rfl,h1,h2,rfl,rfl⟩:=mT e
  obtain ⟨x,rfl,r⟩:=cf ha
  exact Ai T hA r h1 h2 hQ
 rcases vs with _ | ⟨a,_ | ⟨b,_ | ⟨c,vs⟩⟩⟩
 ·exact one e
 ·exact one e
 ·cases a <;> first | exact au e | skip
  cases b <;> first | exact au e | skip
  obtain ⟨x,y,rfl,r1,r2⟩:=ll ha
  cases e
  rw [RepV] at r1 r2; obtain ⟨t,rfl⟩:=r1; obtain ⟨u,rfl⟩:=r2
  obtain ⟨m,hF,_⟩:=T.F.fr T.R
  refine max_two_N hA hF (eP _ _ _) fun h' tk F' N'=>?_
  obtain ⟨K,x,R',FF⟩:=T.byNews hF.ns F' N' fun _ hp=>hp
  exact hQ _ _ _ tk x R' FF (by rw [RepV]; exact ⟨_,rfl⟩)
 ·exact one e
theorem Am (T:At g env as fr σ s) (hA:A.handled=none) (ha:ah as s.heap vs xs) (e:rg xn vs σ=.ok v σ') (hQ:aI g env as fr s v σ' Q):wpAny (model g.prog g.w) A (call (.builtin "min") xs) Q X s:=by
 obtain ⟨l,is,i,rfl,h1,h2,rfl,rfl⟩:=mT e
 obtain ⟨x,rfl,r⟩:=cf ha
 exact Bi T hA r h1 h2 hQ
set_option tactic.hygienic true in
theorem yS (T:At g env as fr σ s) (hA:A.handled=none) (ha:ah as s.heap vs xs) (e:xG vs σ=.ok v σ') (hQ:aI g env as fr s v σ' Q):wpAny (model g.prog g.w) A (call (.type "list") xs) Q X s:=by
 rcases vs with _ | ⟨a,_ | ⟨b,vs⟩⟩ <;> first | exact au e | skip
 obtain ⟨x,rfl,r⟩:=cf ha
 cases a <;> first | exact au e | skip
 ·rename_i l
  obtain ⟨ys,h,e⟩:=iK (o:=getL σ l) (f:=fun xs=>cy xs σ) e
  refine aB T.R r h fun ad items m qx hd ho hr hz hsz=>?_; subst qx
  refine call_list_seq ad (T:="list") (.inl rfl) ho rfl rfl (fun h' c' k hn=>?_) (by show _ ≤ 2 ^ 24; lia)
  exact hQ.new (tk:=s.toks) T k (new_none _) ⟨c',hn⟩ hr e
 ·rw [RepV] at r
  obtain ⟨ad,t,u,v',rfl,ho,hb⟩:=r
  obtain ⟨h1,h2⟩:=jz hb
  refine call_list_range hA ho h2 h1 (by lia) fun h' tk acc c' k hn hacc=>?_
  exact hQ.new T k (new_none _) ⟨c',hn⟩ (p8 hacc) e
set_option tactic.hygienic true in
theorem xe (T:At g env as fr σ s) (ha:ah as s.heap vs xs) (e:vg vs σ=.ok v σ') (hQ:aI g env as fr s v σ' Q):wpAny (model g.prog g.w) A (call (.type "tuple") xs) Q X s:=by
 rcases vs with _ | ⟨a,_ | ⟨b,vs⟩⟩ <;> first | exact au e | skip
 obtain ⟨x,rfl,r⟩:=cf ha
 cases a <;> first | exact au e | skip
 rename_i l
 obtain ⟨ys,h,e⟩:=iK (o:=getL σ l) (f:=fun xs=>.ok (.tup xs) σ) e
 obtain ⟨rfl,rfl⟩:=bC e
 refine aB T.R r h fun ad items m qx hd ho hr hz hsz=>?_; subst qx
 refine call_tuple_list ho.isList (fun h' k=>?_) (by show _ ≤ 2 ^ 24; lia)
 have kk:∀ (a:Addr) (o:Obj),s.heap.get? a=some o→(h'.push { cls:=.type "tuple",data:=.seq items }).get? a=some o:=fun a o e=>Heap.get?_push_of_some _ (k a o e)
 refine hQ.use (tk:=s.toks) T (aD.of_ext kk) (T.R.ext kk) ?_
 rw [RepV]
 exact ⟨_,items,0,rfl,Heap.get?_push_size _ rfl,⟨by lia,fun q=>(T.R.there q).elim fun _ q=>absurd (Heap.lt_size (k _ _ q.1)) (Nat.lt_irrefl _)⟩,ah.keep (.same fun a o e _ _=>kk a o e) _ _ hr⟩
theorem AV (T:At g env as fr σ s) (hA:A.handled=none) (ha:ah as s.heap vs xs) (e:BB vs σ=.ok v σ') (hQ:aI g env as fr s v σ' Q):wpAny (model g.prog g.w) A (call (.builtin "all") xs) Q X s:=by
 rcases vs with _ | ⟨a,_ | ⟨b,vs⟩⟩ <;> first | exact au e | skip
 obtain ⟨x,rfl,r⟩:=cf ha
 cases a <;> first | exact au e | skip
 obtain ⟨h,rfl⟩:=ii e
 refine b6 h fun bb h1 qx2=>?_; subst qx2
 refine bM h1 fun ys h2 h3=>?_
 refine aB T.R r h2 fun ad items m qx hd ho hr hz hsz=>?_; subst qx
 obtain ⟨bs,hbs,rfl⟩:=oV h3 hr
 have hne:ad ≠ s.heap.objs.size:=Nat.ne_of_lt (Heap.lt_size ho)
 have hlen:items.size=bs.length:=by have:=congrArg List.length hbs; simpa using this
 refine call_all_walk (wpAny_pyIter_list ho.isList ?_)
 refine ⟨s.heap.objs.size,_,_,items.size,_,_,fun i=>bs.getD i true,rfl,Walks.list (A:=A.in1) hA s.heap.objs.size ad hne items,⟨⟨_,Heap.get?_push_size _ rfl,rfl,rfl⟩,ho.isList.push _⟩,?_,?_⟩
 ·intro i v s' Q' E' hv hq
  have:(bs.map Value.bool)[i]?=some v:=by rw [← hbs]; simpa using hv
  rw [List.getElem?_map] at this
  refine b6 this fun b hb qx2=>?_; subst qx2
  have e6:bs.getD i true=b:=by simp [hb]
  exact wpAny_truthy_bool (by rw [← e6]; exact hq)
 ·intro h' tk hk
  rw [hlen,qV]
  have kk:=hV (h:=s.heap) (az _ _) hk (by intro b hb; rw [List.mem_singleton.mp hb]; exact new_none _)
  exact hQ.use T (aD.of_ext kk) (T.R.ext kk) (by rw [RepV])
theorem Ab (T:At g env as fr σ s) (ha:ah as s.heap vs xs) (e:BF vs σ=.ok v σ') (hQ:aI g env as fr s v σ' Q):wpAny (model g.prog g.w) A (call (.type "int") xs) Q X s:=by
 rcases vs with _ | ⟨a,_ | ⟨b,vs⟩⟩ <;> first | exact au e | skip
 obtain ⟨x,rfl,r⟩:=cf ha
 cases a <;> first | exact au e | skip
 cases e
 rw [RepV] at r; subst r
 exact call_int_bool (hQ.int T)
set_option tactic.hygienic true in
theorem mh {lo hi:Int} (e:zM lo hi σ=.ok v σ'):(-1000000 ≤ lo ∧ lo ≤ 1000000 ∧ -1000000 ≤ hi ∧ hi ≤ 1000000) ∧ v=.rng lo hi ∧ σ'=σ:=by
 unfold zM at e
 split at e
 ·rename_i h; cases e; exact ⟨h,rfl,rfl⟩
 ·exact au e
theorem wA (T:At g env as fr σ s) (ha:ah as s.heap vs xs) (e:uZ vs σ=.ok v σ') (hQ:aI g env as fr s v σ' Q):wpAny (model g.prog g.w) A (call (.type "range") xs) Q X s:=by
 rcases vs with _ | ⟨a,_ | ⟨b,_ | ⟨c,vs⟩⟩⟩
 ·exact au e
 ·cases a <;> first | exact au e | skip
  obtain ⟨x,rfl,r⟩:=cf ha
  obtain ⟨hz,rfl,rfl⟩:=mh e
  rw [RepV] at r; obtain ⟨t,rfl⟩:=r
  refine call_range_1 ?_
  refine hQ.use T (aD.of_ext (az _ _)) (T.R.ext (az _ _)) ?_
  rw [RepV]; exact ⟨_,_,_,_,rfl,Heap.get?_push_size _ rfl,hz⟩
 ·cases a <;> first | exact au e | skip
  cases b <;> first | exact au e | skip
  obtain ⟨x,y,rfl,r1,r2⟩:=ll ha
  obtain ⟨hz,rfl,rfl⟩:=mh e
  rw [RepV] at r1 r2; obtain ⟨t,rfl⟩:=r1; obtain ⟨u,rfl⟩:=r2
  refine call_range_2 ?_
  refine hQ.use T (aD.of_ext (az _ _)) (T.R.ext (az _ _)) ?_
  rw [RepV]; exact ⟨_,_,_,_,rfl,Heap.get?_push_size _ rfl,hz⟩
 ·exact au e
end
theorem zT {b:BN}{vs:List V}{xs:List Value}{v:V} (G:Sys g) (T:At g env as fr σ s) (hA:A.handled=none) (ha:ah as s.heap vs xs) (hb:bOk b=true)
  (e:iy b vs σ=.ok v σ') (hQ:aI g env as fr s v σ' Q):wpAny (model g.prog g.w) A (call (nB b) xs) Q X s:=by
 cases b with
 | len=>exact Ak G T ha e hQ
 | max=>exact A8 T hA ha e hQ
 | min=>exact Am T hA ha e hQ
 | list=>exact yS T hA ha e hQ
 | tuple=>exact xe T ha e hQ
 | all=>exact AV T hA ha e hQ
 | int=>exact Ab T ha e hQ
 | range=>exact wA T ha e hQ
 | _=>exact ft hb
end
end Mine
namespace Mine
open PySem PyProof.Rows PySem.W
noncomputable def zd (K:Frag) (D:Addr):Bool:=(clsIn K D).isSome && (findIn K (.ref D) "__getattribute__" == some (some (.builtin "BaseException.__getattribute__")) && (findIn K (.ref D) "__getattr__" == some none && (subIn K (.ref D) (.type "BaseException") == some true &&
 (findIn K (.ref D) "__class__" == some (some (.builtin "object.__class__")) && (specialIn K (.builtin "object.__class__") "__get__" == some (some (.builtin "getset_descriptor.__get__")) && (takesIn K (.builtin "object.__class__") == some true && mroIn K D (.type "object") == some true))))))
section
variable {prog:Program}{w:World}{A:Around}{E:Value→Shared→Prop}{s:Shared}{K:Frag}{x D:Addr}{ox:Obj}
theorem qb {Q:Option Value→Shared→Prop} (X:K.In s.heap) (I:InstAt s.heap x ox D none) (e:zd K D=true) (h:Q (some (.ref D)) { s with toks:=s.toks + 1 }):wpAny (model prog w) A (getAttr? (.ref x) "__class__") Q E s:=by
 obtain ⟨e0,e⟩:=af e
 obtain ⟨e1,e⟩:=af e
 obtain ⟨e2,e⟩:=af e
 obtain ⟨e3,e⟩:=af e
 obtain ⟨e4,e⟩:=af e
 obtain ⟨e5,e⟩:=af e
 obtain ⟨e6,e7⟩:=af e
 have L0:=I.type (M:=model prog w)
 have L1:=looks_findIn (M:=model prog w) X (eq_of_beq e1)
 have L2:=looks_findIn (M:=model prog w) X (eq_of_beq e2)
 have L3:Looks (model prog w) s.heap (isInstance (.ref x) (.type "BaseException")) true:=L0.andThen (looks_subIn X (eq_of_beq e3))
 have hf:findObj K D none "__class__"=some (.bind (.builtin "getset_descriptor.__get__") (.builtin "object.__class__")):=by
  obtain ⟨cd,hc⟩:=Option.isSome_iff_exists.mp e0
  unfold findObj
  rw [hc,Option.bind_some,eq_of_beq e4,Option.bind_some]
  dsimp only
  rw [eq_of_beq e5,Option.bind_some]
  dsimp only
  rw [eq_of_beq e6]
  rfl
 have L4:=looks_find (M:=model prog w) X I hf
 obtain ⟨hh,g,d,t,os⟩:=s
 unfold getAttr? getAttrBy? getAttrBy
 refine wpAny_bind (wpAny_mkText (wpAny_bind (wpAny_attempt (wpAny_holding (wpAny_bind (L0.at (wpAny_bind (L1.at ?_))))))))
 show wpAny _ _ (getAttrByItsOwn _ _ _ _ _ _) _ _ _
 unfold getAttrByItsOwn hookBefore
 refine wpAny_bind (L2.at (wpAny_bind (wpAny_attempt (wpAny_holding ?_))))
 show wpAny _ _ (boundAndCalled _ _ _) _ _ _
 unfold boundAndCalled
 refine wpAny_bind (wpAny_of_eq (a:=(Value.builtin "BaseException.__getattribute__",[Value.ref x])) (F.attr_ValueError.ga.bind (.ref x)) ?_)
 refine wpAny_call (codeAny_call_builtin F.attr_ValueError.ga.plain F.entry_bexc_ga ?_)
 have hk:builtinKind "BaseException.__getattribute__"=some .slot:=by decide +kernel
 have hsplit:splitId "BaseException.__getattribute__"=some ("BaseException","__getattribute__"):=by decide +kernel
 have ha:=F.args_bexc_ga (.ref x) (.str "__class__" t)
 simp only [checkBuiltinCall,hk,hsplit]
 refine wpAny_bind (L3.at ?_)
 simp only [Bool.not_true,Bool.false_eq_true,if_false]
 refine wpAny_of_eq (a:=()) ha ?_
 unfold Builtin.«object.__getattribute__»
 refine wpAny_bind (wpAny_pure ?_)
 refine wpAny_bind (wpAny_pure ?_)
 refine wpAny_bind (L0.at (wpAny_bind (L4.at ?_)))
 show wpAny _ _ (holding [.builtin "object.__class__"] (PySem.call (.builtin "getset_descriptor.__get__") [.builtin "object.__class__",.ref x,.ref D]) >>= ret) _ _ _
 refine wpAny_bind (wpAny_holding (wpAny_call (class_get (s:=⟨hh,g,d,t + 1,os⟩) (ox:=ox) (od:=none) X I (eq_of_beq e7) ?_)))
 exact wpAny_pure (handed_on rfl (wpAny_pure h))
theorem mf {cd:ClassData} (h:clsIn K D=some cd):∃ o,K.lookup D=some o ∧ o.data=.cls cd:=by
 unfold clsIn at h
 cases q:K.lookup D with
 | none=>rw [q] at h; exact nn h
 | some o =>
  obtain ⟨a,b,c,d⟩:=o
  rw [q] at h
  cases c <;> first | exact nn h | exact ⟨_,rfl,congrArg Data.cls (Option.some.inj h)⟩
theorem fH {M:Model}{h:Heap} (X:K.In h) (e:(clsIn K D).isSome=true):Looks M h (isType (.ref D)) true:=by
 obtain ⟨cd,hc⟩:=Option.isSome_iff_exists.mp e
 obtain ⟨⟨a,b,c,d⟩,ho,rfl⟩:=mf hc
 intro A' Q' E' s' k q
 unfold isType loadHead
 exact wpAny_bind (wpAny_loadPart (k _ _ (X _ _ ho)) (wpAny_pure q))
theorem uD (e:zd K D=true):KitX K (.ref x) (.ref D) (fun h=>W.InstAt h x ox D none) where
 ty:=fun _ _ _ I=>I.type
 it:=fun M h X I=>fH X (af e).1
 ne:=fun h tp dd its n sl X htp=>by
  obtain ⟨cd,hc⟩:=Option.isSome_iff_exists.mp (af e).1
  refine Bool.eq_false_iff.mpr fun q=>?_
  cases beq_iff_eq.mp q
  obtain ⟨⟨a,b,c,d⟩,ho,rfl⟩:=mf hc
  rw [X _ _ ho] at htp; cases htp
 ca:=fun X I h=>qb X I e h
end
end Mine
namespace Mine
open PySem PyProof.Rows PySem.W
noncomputable def GV (g:Cfg) (x:Str) (v:Value):Prop :=
 ∃ mg mb,g.b.Ns mainGlobals mg ∧ g.b.Ns builtinsNs mb ∧ (mg x=some v ∨ (mg x=none ∧ mb x=some v))
noncomputable def d5 (g:Cfg) (fa:Nat→Option Addr) (call:Nat→List V→Sto→RE) (n:Nat):Prop :=
 ∀ (k:Nat) (a:Addr) (vs:List V) (σ σ':Sto) (v:V),fa k=some a→call k vs σ=.ok v σ' →
 ∀ (A:Around) (s:Shared) (as:List Addr) (xs:List Value) (R:Result→Shared→Prop),b5 g A n→Rel g as σ s.heap→g.b.objs.size ≤ s.heap.objs.size→ah as s.heap vs xs →
  (∀ (val:Value) (as':List Addr) (h':Heap) (tk:Nat),aD [] as s.heap as' h'→Rel g as' σ' h'→RepV as' h' v val→R (.ok (.ret val)) { s with heap:=h',toks:=tk }) →
  codeAny (model g.prog g.w) A (.call (.ref a) ⟨xs,[]⟩) R s
noncomputable def ia (g:Cfg) (K:Frag) (c:CE) (call:Nat→List V→Sto→RE) (n:Nat):Prop :=
 ∀ (f:Str) (k:Nat),c.tfns.lookup f=some k→∃ a,GV g f (.ref a) ∧ keepIn K (.ref a)=true ∧ ∀ (us:List V) (σ σ':Sto) (v:V),call k us σ=.ok v σ' →
 ∀ (A:Around) (s:Shared) (as:List Addr) (xs:List Value) (env:Env) (fr:Fra) (R:Result→Shared→Prop),b5 g A n→A.frames=some [env]→env.frame=some env.locals→At g env as fr σ s→ah as s.heap us xs →
  (∀ (val:Value) (as':List Addr) (h':Heap) (tk:Nat),aD [env.locals] as s.heap as' h'→Rel g as' σ' h'→ay g env as' fr h'→RepV as' h' v val→R (.ok (.ret val)) { s with heap:=h',toks:=tk }) →
  codeAny (model g.prog g.w) A (.call (.ref a) ⟨xs,[]⟩) R s
structure ci (g:Cfg) (K:Frag) (c:CE) (fa:Nat→Option Addr) (call:Nat→List V→Sto→RE) (n:Nat):Prop where
 ok:d5 g fa call n
 t:ia g K c call n
noncomputable def Bh:List Value:=[.type "ValueError",.type "Exception",.type "BaseException",.type "object"]
noncomputable def kZ (K:Frag) (P:Addr) (ds:List Nat):Bool:=(clsIn K P).isSome && (typeIn K (.ref P) == some (.type "type") && (subIn K (.type "type") (.type "tuple") == some false && (subIn K (.ref P) (.type "BaseException") == some true && ds.all (fun D=>subIn K (.ref D) (.ref P) == some true))))
structure xg (g:Cfg) (K:Frag) (c:CE):Prop where
 k:∀ D ∈ c.excs.map (·.2),zd K D=true
 i:∀ x C,c.excs.lookup x=some C→GV g x (.ref C)
 r:∀ x C,c.excs.lookup x=some C→∃ mg,OwnCls x C Bh "ValueError.__new__" mg g.b
 o:∀ C ∈ c.excs.map (·.2),∀ D ∈ c.excs.map (·.2),kitOne K (.ref D) (.ref C)=some (D == C)
 v:GV g "ValueError" (.type "ValueError")
 w:∀ D ∈ c.excs.map (·.2),kitOne K (.ref D) (.type "ValueError")=some true
 p:∀ x P,c.pe=some (x,P)→GV g x (.ref P) ∧ kZ K P (c.excs.map (·.2))=true
structure bH (g:Cfg) (K:Frag) (c:CE) (fa:Nat→Option Addr):Prop where
 sys:Sys g
 kin:K.In g.b
 const:∀ x i,c.consts.lookup x=some i→∃ t,GV g x (.int i t)
 fn:∀ x k,c.fns.lookup x=some k→∃ a,GV g x (.ref a) ∧ fa k=some a ∧ keepIn K (.ref a)=true
 cls:∀ x k,c.clss.lookup x=some k→∃ fI,GV g x (.ref g.C) ∧ fa k=some fI ∧ keepIn K (.ref g.C)=true ∧ makesIn K g.C=true ∧ findIn K (.ref g.C) "__init__"=some (some (.ref fI)) ∧ isFn K (.ref fI)=true
 clsO:∀ x k,c.clss.lookup x=some k→isIn K (.ref g.C) g.C=true
 blt:∀ x b,bltName.lookup x=some b→GV g x (nB b)
 typ:∀ x t y,tyName.lookup x=some t→t9 t=some y→GV g x y
 set:GV g "set" (.type "set")
 rev:GV g "reversed" (.type "reversed")
 sorted:GV g "sorted" (.builtin "sorted")
 hd:c.hnd=false→g.hd=none
 exc:xg g K c
 isi:GV g "isinstance" (.builtin "isinstance")
 att:∀ x k,c.attrs.lookup x=some k→g.at'.lookup k=some x ∧ plainGet K g.C x=true ∧ ∃ at',findIn K (.ref g.C) x=some at' ∧ noGet K at'=true ∧ takerIn K g.C x=some none
 hasD:∀ x k,c.attrs.lookup x=some k→hasDictIn K g.C=true
 setA:∀ x k,c.attrs.lookup x=some k→findIn K (.ref g.C) "__setattr__"=some (some (.builtin "object.__setattr__")) ∧ plainOver K g.C=true
 lam:∀ a,c.lam=some a→∃ mg,g.b.Ns mainGlobals mg ∧ CodeHd g.b a g.tab ∧ g.b.NoLimit ∧ g.b.BuiltinsAt mg g.tab ∧ mainGlobals ≠ g.tab ∧ g.hd=none
 mth:∀ x f,c.mths.lookup x=some f→∃ a,fa f=some a ∧ plainGet K g.C x=true ∧ findIn K (.ref g.C) x=some (some (.ref a)) ∧ isFn K (.ref a)=true ∧ keepIn K (.ref a)=true ∧ ∀ k,g.at'.lookup k ≠ some x
structure aq (c:CE) (env:Env) (A:Around):Prop where
 f2:F2 (fun (p q:Str × NameKind)=>p.1=q.1 ∧ (p.2=q.2 ∨ (p.2=.free ∧ q.2=.cell))) c.names env.scope.names
 code:∀ a,c.lam=some a→env.code=.ref a
 top:c.top=some c.names→A.frames=some [env] ∧ env.frame=some env.locals
theorem bx {l:List (Str × NameKind)}{x:Str}{k:NameKind} (e:l.lookup x=some k):∃ i,l.findIdx? (fun p=>p.1 == x)=some i ∧ l[i]?=some (x,k):=by
 induction l with
 | nil=>cases e
 | cons p r ih =>
  obtain ⟨y,kk⟩:=p
  rw [List.lookup_cons] at e
  rw [List.findIdx?_cons]
  by_cases h:(x == y)=true
  ·rw [h] at e; simp only [Option.some.injEq] at e; subst e
   have h':=eq_of_beq h; subst h'
   exact ⟨0,by simp,rfl⟩
  ·simp only [h] at e
   obtain ⟨i,h1,h2⟩:=ih e
   have hb:(y == x)=false:=by
    cases q:y == x with
    | false=>rfl
    | true=>exact absurd (by rw [eq_of_beq q]; simp) h
   exact ⟨i + 1,by simp only [hb]; simp [h1],by simpa using h2⟩
theorem bi {l:List (Str × NameKind)} (nd:(l.map (·.1)).Nodup) {i:Nat}{x:Str}{k:NameKind} (e:l[i]?=some (x,k)):l.lookup x=some k:=by
 induction l generalizing i with
 | nil=>simp at e
 | cons p r ih =>
  obtain ⟨y,kk⟩:=p
  rw [List.lookup_cons]
  cases i with
  | zero=>simp at e; obtain ⟨rfl,rfl⟩:=e; simp
  | succ i =>
   simp at e nd
   have:(x == y)=false:=by
    cases q:x == y with
    | false=>rfl
    | true=>have q':=eq_of_beq q; subst q'; exact absurd (List.mem_of_getElem? e) (nd.1 k)
   rw [this]
   exact ih nd.2 e
theorem aq.get {c:CE}{env:Env}{A:Around} (N:aq c env A) {i:Nat}{x:Str}{k:NameKind} (e:c.names[i]?=some (x,k)):∃ k',env.scope.names[i]?=some (x,k') ∧ (k=k' ∨ (k=.free ∧ k'=.cell)):=by
 obtain ⟨⟨y,k'⟩,h1,h2,h3⟩:=F2.get N.f2 e
 have:x=y:=h2
 subst this
 exact ⟨k',h1,h3⟩
theorem aq.map {c:CE}{env:Env}{A:Around} (N:aq c env A):c.names.map (·.1)=env.scope.names.map (·.1):=by
 have:∀ {a b:List (Str × NameKind)},F2 (fun (p q:Str × NameKind)=>p.1=q.1 ∧ (p.2=q.2 ∨ (p.2=.free ∧ q.2=.cell))) a b→a.map (·.1)=b.map (·.1):=by
  intro a b h
  induction h with
  | nil=>rfl
  | cons x _ ih=>simp only [List.map_cons,ih]; rw [x.1]
 exact this N.f2
set_option tactic.hygienic true in
theorem wQ {c:CE}{x:Str}{i:Nat} (e:c.loc? x=some i):∃ k,c.names[i]?=some (x,k) ∧ (k=.local ∨ k=.cell ∨ k=.free):=by
 unfold CE.loc? at e
 split at e
 ·rename_i h; obtain ⟨j,h1,h2⟩:=bx h; rw [h1] at e; cases e; exact ⟨_,h2,.inl rfl⟩
 ·rename_i h; obtain ⟨j,h1,h2⟩:=bx h; rw [h1] at e; cases e; exact ⟨_,h2,.inr (.inl rfl)⟩
 ·rename_i h; obtain ⟨j,h1,h2⟩:=bx h; rw [h1] at e; cases e; exact ⟨_,h2,.inr (.inr rfl)⟩
 ·cases e
section
variable {g:Cfg}{K:Frag}{c:CE}{fa:Nat→Option Addr}{env:Env}{A:Around}{X:Value→Shared→Prop}{s:Shared}{as:List Addr}{fr:Fra} {σ σ':Sto}{Q:Value→Shared→Prop}
theorem cx {x:Str}{v:Value} (T:At g env as fr σ s) (N:aq c env A) (hg:c.glob x=true) (hd:(x == ("__debug__":Str))=false) (G:GV g x v) (h:Q v s) {pos:Pos}:wpAny (model g.prog g.w) A (eval (.Name x pos) env) Q X s:=by
 unfold CE.glob at hg
 have hl:c.names.lookup x=some .globalImplicit:=eq_of_beq hg
 obtain ⟨i,_,h2⟩:=bx hl
 obtain ⟨k',h3,h4⟩:=N.get h2
 have hk:k'=.globalImplicit:=by
  rcases h4 with h4 | h4
  ·exact h4.symm
  ·cases h4.1
 subst hk
 have hx:env.kindOf x=some .globalImplicit:=bi T.F.nd h3
 obtain ⟨mg,mb,g1,g2,g3⟩:=G
 refine Calls.Name_function_global T.F.kind hx ?_ hd
 rcases g3 with g3 | ⟨g3,g4⟩
 ·exact Calls.loadGlobal_global (by rw [T.F.glob]; exact g1.keeps T.R.base) g3 h
 ·exact Calls.loadGlobal_builtin (by rw [T.F.glob]; exact g1.keeps T.R.base) g3 (by rw [T.F.blt]; exact g2.keeps T.R.base) g4 h
theorem A6 {x:Str}{i:Nat}{v:V} (T:At g env as fr σ s) (N:aq c env A) (hl:c.loc? x=some i) (hd:(x == ("__debug__":Str))=false) (hc:(x == ("__classdict__":Str))=false) (e:fr[i]?=some (some v))
  (hQ:aI g env as fr s v σ Q) {pos:Pos}:wpAny (model g.prog g.w) A (eval (.Name x pos) env) Q X s:=by
 obtain ⟨k,h1,h2⟩:=wQ hl
 obtain ⟨k',h3,h4⟩:=N.get h1
 have hx:env.kindOf x=some k':=bi T.F.nd h3
 refine wpAny_Name ?_ hd
 have hk:k'=.local ∨ k'=.cell ∨ k'=.free:=by
  rcases h4 with h4 | h4
  ·subst h4; exact h2
  ·exact .inr (.inl h4.2)
 rcases hk with rfl | rfl | rfl
 ·obtain ⟨m,hm,hv⟩:=T.F.ns
  obtain ⟨val,e1,e2⟩:=hv i x v h3 e
  exact wpAny_loadName_local T.F.kind hx hm e1 (hQ.same' T e2)
 ·obtain ⟨cc,cv,e1,e2,e3⟩:=T.F.cells i x _ h3 (.inl rfl)
  obtain ⟨val,rfl,e5⟩:=e3 v e
  exact wpAny_loadName_cell T.F.kind hx e1 e2 (hQ.same' T e5)
 ·obtain ⟨cc,cv,e1,e2,e3⟩:=T.F.cells i x _ h3 (.inr rfl)
  obtain ⟨val,rfl,e5⟩:=e3 v e
  exact wpAny_loadName_free T.F.kind hx e1 e2 (hQ.same' T e5) hc
end
end Mine
namespace Mine
open PySem PyProof.Rows PySem.W
noncomputable def bE (g:Cfg) (c0:CE) (call:Nat→List V→Sto→RE) (r n:Nat):Prop :=
 ∀ (names:List (Str × NameKind)) (e:Expr) (e':E),al n (c0.sub names) e=some e' →
 ∀ (env:Env) (A:Around) (X:Value→Shared→Prop) (s:Shared) (as:List Addr) (fr:Fra) (σ σ':Sto) (v:V) (Q:Value→Shared→Prop),
  aq (c0.sub names) env A→b5 g A (r + 1)→At g env as fr σ s→evE call e' fr σ=.ok v σ'→aI g env as fr s v σ' Q→wpAny (model g.prog g.w) A (eval e env) Q X s
noncomputable def oE (g:Cfg) (env:Env) (as:List Addr) (fr:Fra) (s:Shared) (b:Bool) (σ':Sto) (Q:Bool→Shared→Prop):Prop :=
 ∀ (as':List Addr) (h':Heap) (tk:Nat),aD [env.locals] as s.heap as' h'→Rel g as' σ' h'→ay g env as' fr h'→Q b { s with heap:=h',toks:=tk }
noncomputable def kX (g:Cfg) (c0:CE) (call:Nat→List V→Sto→RE) (r n:Nat):Prop :=
 ∀ (names:List (Str × NameKind)) (e:Expr) (e':E),al n (c0.sub names) e=some e' →
 ∀ (env:Env) (A:Around) (X:Value→Shared→Prop) (s:Shared) (as:List Addr) (fr:Fra) (σ σ':Sto) (b:Bool) (Q:Bool→Shared→Prop),
  aq (c0.sub names) env A→b5 g A (r + 1)→At g env as fr σ s→evE call e' fr σ=.ok (.bool b) σ'→oE g env as fr s b σ' Q→wpAny (model g.prog g.w) A (isTrue e env (eval e env)) Q X s
theorem wI {r:RE}{k:V→Sto→RE}{v:V} {σ':Sto} (e:r.bind k=.ok v σ'):∃ u τ,r=.ok u τ ∧ k u τ=.ok v σ':=by
 cases r with
 | ok u τ=>exact ⟨u,τ,rfl,e⟩
 | ex x τ=>cases e
 | bad=>cases e
theorem binds_ok {r:RE}{k:V→Sto→REs}{v:List V} {σ':Sto} (e:r.binds k=.ok v σ'):∃ u τ,r=.ok u τ ∧ k u τ=.ok v σ':=by
 cases r with
 | ok u τ=>exact ⟨u,τ,rfl,e⟩
 | ex x τ=>cases e
 | bad=>cases e
theorem s9 {r:REs}{k:List V→Sto→RE}{v:V} {σ':Sto} (e:r.bind k=.ok v σ'):∃ u τ,r=.ok u τ ∧ k u τ=.ok v σ':=by
 cases r with
 | ok u τ=>exact ⟨u,τ,rfl,e⟩
 | ex x τ=>cases e
 | bad=>cases e
theorem ro {r:REs}{k:List V→Sto→REs}{v:List V} {σ':Sto} (e:r.binds k=.ok v σ'):∃ u τ,r=.ok u τ ∧ k u τ=.ok v σ':=by
 cases r with
 | ok u τ=>exact ⟨u,τ,rfl,e⟩
 | ex x τ=>cases e
 | bad=>cases e
theorem aA {r:RE}{k:V→Sto→RE}{v:V} {σ':Sto}{P:Prop} (e:r.bind k=.ok v σ') (h:∀ u τ,r=.ok u τ→k u τ=.ok v σ'→P):P:=let ⟨u,τ,h1,h2⟩:=wI e; h u τ h1 h2
theorem uc {r:RE}{b:Bool}{k:V→Sto→RE}{v:V} {σ':Sto}{P:Prop} (e:r.bindZ b k=.ok v σ') (h:∀ u τ,r=.ok u τ→k u τ=.ok v σ'→P):P :=
 RE.casesOn (motive:=fun r'=>r=r'→r'.bindZ b k=.ok v σ'→P) r (fun u τ q e=>h u τ q e) (fun x σ _ e=>Bool.casesOn (motive:=fun b=>(RE.ex x σ).bindZ b k=.ok v σ'→P) b (fun q=>nomatch q) (fun q=>nomatch q) e) (fun _ e=>nomatch e) rfl e
theorem jG {r:RE}{k:V→Sto→REs}{v:List V} {σ':Sto}{P:Prop} (e:r.binds k=.ok v σ') (h:∀ u τ,r=.ok u τ→k u τ=.ok v σ'→P):P:=let ⟨u,τ,h1,h2⟩:=binds_ok e; h u τ h1 h2
theorem bS {r:REs}{k:List V→Sto→RE}{v:V} {σ':Sto}{P:Prop} (e:r.bind k=.ok v σ') (h:∀ u τ,r=.ok u τ→k u τ=.ok v σ'→P):P:=let ⟨u,τ,h1,h2⟩:=s9 e; h u τ h1 h2
theorem pT {r:REs}{k:List V→Sto→REs}{v:List V} {σ':Sto}{P:Prop} (e:r.binds k=.ok v σ') (h:∀ u τ,r=.ok u τ→k u τ=.ok v σ'→P):P:=let ⟨u,τ,h1,h2⟩:=ro e; h u τ h1 h2
section
variable {g:Cfg}{K:Frag}{c0:CE}{fa:Nat→Option Addr}{call:Nat→List V→Sto→RE}{env:Env}{A:Around}{X:Value→Shared→Prop}{s:Shared}{as:List Addr}{fr:Fra} {σ σ':Sto}{r n:Nat}
 {names:List (Str × NameKind)}
theorem At.step (T:At g env as fr σ s) {as':List Addr}{h':Heap}{tk:Nat} {σ':Sto} (R':Rel g as' σ' h') (F':ay g env as' fr h'):At g env as' fr σ' { s with heap:=h',toks:=tk }:=⟨F',R'⟩
theorem At.keep (T:At g env as fr σ s) {as':List Addr}{h':Heap} (x:aD [env.locals] as s.heap as' h'):bX as s.heap as' h':=T.R.keep x T.F.notImm
theorem ao {as as1 as2:List Addr}{h h1 h2:Heap} {σ2:Sto} (x:aD [env.locals] as h as1 h1) (y:aD [env.locals] as1 h1 as2 h2) (R2:Rel g as2 σ2 h2) (F2':ay g env as2 fr h2):aD [env.locals] as h as2 h2 :=
 x.trans y R2.nd (by intro a ha; simp at ha; subst ha; exact F2'.off)
theorem two {e1 e2:Expr}{a b:E}{u v:V} {τ:Sto}{Q:Value→Value→Shared→Prop} (IH:bE g c0 call r n) (h1:al n (c0.sub names) e1=some a) (h2:al n (c0.sub names) e2=some b)
  (N:aq (c0.sub names) env A) (hA:b5 g A (r + 1)) (T:At g env as fr σ s) (ev1:evE call a fr σ=.ok u τ) (ev2:evE call b fr τ=.ok v σ')
  (hQ:∀ (x y:Value) (as':List Addr) (h':Heap) (tk:Nat),aD [env.locals] as s.heap as' h'→Rel g as' σ' h'→ay g env as' fr h'→RepV as' h' u x→RepV as' h' v y→Q x y { s with heap:=h',toks:=tk }) :
  wpAny (model g.prog g.w) A (eval e1 env) (fun x s1=>wpAny (model g.prog g.w) A (eval e2 env) (fun y s2=>Q x y s2) X s1) X s:=by
 refine IH names e1 a h1 env A X s as fr σ τ u _ N hA T ev1 fun x as1 k1 tk1 st1 R1 F1 r1=>?_
 refine IH names e2 b h2 env A X _ as1 fr τ σ' v _ N hA ⟨F1,R1⟩ ev2 fun y as2 k2 tk2 st2 R2 F2' r2=>?_
 exact hQ x y as2 k2 tk2 (ao st1 st2 R2 F2') R2 F2' (RepV.keep (At.keep (s:={ s with heap:=k1,toks:=tk1 }) ⟨F1,R1⟩ st2) _ _ r1) r2
theorem aS {v:V}{Q:Value→Shared→Prop}{as':List Addr}{h':Heap}{tk:Nat} {τ:Sto} (hQ:aI g env as fr s v σ' Q) (x:aD [env.locals] as s.heap as' h') (R':Rel g as' τ h') (F':ay g env as' fr h') :
  aI g env as' fr { s with heap:=h',toks:=tk } v σ' Q:=fun val as2 h2 tk2 st2 R2 F2' r2=>hQ val as2 h2 tk2 (ao x st2 R2 F2') R2 F2' r2
theorem jF {b:Bool}{Q:Bool→Shared→Prop}{as':List Addr}{h':Heap}{tk:Nat} {τ:Sto} (hQ:oE g env as fr s b σ' Q) (x:aD [env.locals] as s.heap as' h') (R':Rel g as' τ h') (F':ay g env as' fr h') :
  oE g env as' fr { s with heap:=h',toks:=tk } b σ' Q:=fun as2 h2 tk2 st2 R2 F2'=>hQ as2 h2 tk2 (ao x st2 R2 F2') R2 F2'
theorem a5 {e:Expr}{e':E}{c:CE} (h:al n c e=some e'):∀ rest env,starEach (e :: rest) env=(false,eval e env) :: starEach rest env:=by
 intro rest env
 have hk:=cW h
 cases e <;> first | rfl | exact ft hk
theorem gq (IH:bE g c0 call r n) {pos:Pos}:∀ (es:List Expr) (es':List E) (s:Shared) (as:List Addr) (σ σ':Sto) (vs:List V) (Q:List Value→Shared→Prop),
  aV (al n (c0.sub names)) es=some es'→aq (c0.sub names) env A→b5 g A (r + 1)→At g env as fr σ s→cg call es' fr σ=.ok vs σ' →
  (∀ (xs:List Value) (as':List Addr) (h':Heap) (tk:Nat),aD [env.locals] as s.heap as' h'→Rel g as' σ' h'→ay g env as' fr h'→ah as' h' vs xs→Q xs { s with heap:=h',toks:=tk }) →
  wpAny (model g.prog g.w) A (spliced (backTo pos (starEach es env))) Q X s
 | [],es',s,as,σ,σ',vs,Q,h,N,hA,T,ev,hQ=>by
  rw [dN] at h; cases h; rw [cg] at ev; cases ev
  exact wpAny_items_nil (hQ [] as s.heap s.toks (aD.refl _ _ _) T.R T.F (by rw [ah]))
 | e :: es,es',s,as,σ,σ',vs,Q,h,N,hA,T,ev,hQ=>by
  refine cn h fun a as' h1 h2 qx4=>?_; subst qx4
  rw [cg] at ev
  refine jG ev fun u τ e1 e2=>?_
  refine pT e2 fun us τ' e3 e4=>?_
  cases e4
  refine wpAny_items_cons ?_ (a5 h1 _ _)
  refine IH names e a h1 env A X s as fr σ τ u _ N hA T e1 fun x as1 k1 tk1 st1 R1 F1 r1=>?_
  refine gq IH es as' _ as1 τ σ' us _ h2 N hA ⟨F1,R1⟩ e3 fun xs as2 k2 tk2 st2 R2 F2' r2=>?_
  refine hQ (x :: xs) as2 k2 tk2 (ao st1 st2 R2 F2') R2 F2' ?_
  rw [ah]
  exact ⟨x,xs,rfl,RepV.keep (At.keep (s:={ s with heap:=k1,toks:=tk1 }) ⟨F1,R1⟩ st2) _ _ r1,r2⟩
theorem fe (IH:bE g c0 call r n) {pos:Pos}{op:BoolOp}:∀ (es:List Expr) (es':List E) (b':E) (s:Shared) (as:List Addr) (σ σ':Sto) (v:V) (Q:Value→Shared→Prop),
  aV (al n (c0.sub names)) es=some es'→fS op es'=some b'→aq (c0.sub names) env A→b5 g A (r + 1)→At g env as fr σ s→evE call b' fr σ=.ok v σ'→aI g env as fr s v σ' Q →
  wpAny (model g.prog g.w) A (boolOp pos op (evalEach es env)) Q X s
 | [],es',b',s,as,σ,σ',v,Q,h,hf,N,hA,T,ev,hQ=>by rw [dN] at h; cases h; cases hf
 | [e],es',b',s,as,σ,σ',v,Q,h,hf,N,hA,T,ev,hQ=>by
  refine cn h fun a as' h1 h2 qx4=>?_; subst qx4
  rw [dN] at h2; cases h2
  have hf:a=b':=Option.some.inj hf
  subst hf
  show wpAny _ A (eval e env) Q X s
  exact IH names e a h1 env A X s as fr σ σ' v _ N hA T ev hQ
 | e :: e2 :: es,es',b',s,as,σ,σ',v,Q,h,hf,N,hA,T,ev,hQ=>by
  refine cn h fun a as' h1 h2 qx4=>?_; subst qx4
  refine cn h2 fun a2 as2' h3 h4 qx4=>?_; subst qx4
  have hf':∃ y,fS op (a2 :: as2')=some y ∧ b'=mkB op a y:=by
   have:fS op (a :: a2 :: as2')=(fS op (a2 :: as2')).map fun y=>mkB op a y:=rfl
   rw [this] at hf
   obtain ⟨y,q1,q2⟩:=Option.map_eq_some_iff.mp hf
   exact ⟨y,q1,q2.symm⟩
  obtain ⟨y,hy,rfl⟩:=hf'
  show wpAny _ A (do
   let v ← eval e env
   standAt pos
   let t ← holding [v] (truthy v)
   match op,t with
   | .And,false | .Or,true=>pure v
   | _,_=>boolOp pos op (evalEach (e2 :: es) env)) Q X s
  cases op with
  | And =>
   dsimp only [mkB] at ev
   refine aA ev fun u τ e5 e6=>?_
   refine wpAny_bind (IH names e a h1 env A X s as fr σ τ u _ N hA T e5 fun x as1 k1 tk1 st1 R1 F1 r1=>wpAny_bind (wpAny_standAt (wpAny_bind (wpAny_holding ?_))))
   split at e6
   ·rw [RepV] at r1; subst r1
    refine wpAny_truthy_bool ?_
    exact fe IH (e2 :: es) (a2 :: as2') y _ as1 τ σ' v Q h2 hy N hA ⟨F1,R1⟩ e6 (aS hQ st1 R1 F1)
   ·cases e6
    rw [RepV] at r1; subst r1
    refine wpAny_truthy_bool (wpAny_pure ?_)
    exact hQ _ as1 k1 tk1 st1 R1 F1 (by rw [RepV])
   ·cases e6
  | Or =>
   dsimp only [mkB] at ev
   refine aA ev fun u τ e5 e6=>?_
   refine wpAny_bind (IH names e a h1 env A X s as fr σ τ u _ N hA T e5 fun x as1 k1 tk1 st1 R1 F1 r1=>wpAny_bind (wpAny_standAt (wpAny_bind (wpAny_holding ?_))))
   split at e6
   ·rw [RepV] at r1; subst r1
    refine wpAny_truthy_bool ?_
    exact fe IH (e2 :: es) (a2 :: as2') y _ as1 τ σ' v Q h2 hy N hA ⟨F1,R1⟩ e6 (aS hQ st1 R1 F1)
   ·cases e6
    rw [RepV] at r1; subst r1
    refine wpAny_truthy_bool (wpAny_pure ?_)
    exact hQ _ as1 k1 tk1 st1 R1 F1 (by rw [RepV])
   ·cases e6
theorem ey (IH:kX g c0 call r n) {op:BoolOp}:∀ (es:List Expr) (es':List E) (b':E) (s:Shared) (as:List Addr) (σ σ':Sto) (v:Bool) (Q:Bool→Shared→Prop),
  aV (al n (c0.sub names)) es=some es'→fS op es'=some b'→aq (c0.sub names) env A→b5 g A (r + 1)→At g env as fr σ s→evE call b' fr σ=.ok (.bool v) σ'→oE g env as fr s v σ' Q →
  wpAny (model g.prog g.w) A (allTrue op es env) Q X s
 | [],es',b',s,as,σ,σ',v,Q,h,hf,N,hA,T,ev,hQ=>by rw [dN] at h; cases h; cases hf
 | [e],es',b',s,as,σ,σ',v,Q,h,hf,N,hA,T,ev,hQ=>by
  refine cn h fun a as' h1 h2 qx4=>?_; subst qx4
  rw [dN] at h2; cases h2
  have hf:a=b':=Option.some.inj hf
  subst hf
  show wpAny _ A (do
   match op,← isTrue e env (eval e env) with
   | .And,false=>pure false
   | .Or,true=>pure true
   | _,_=>allTrue op [] env) Q X s
  refine wpAny_bind (IH names e a h1 env A X s as fr σ σ' v _ N hA T ev fun as1 k1 tk1 st1 R1 F1=>?_)
  have hq:=hQ as1 k1 tk1 st1 R1 F1
  cases op <;> cases v <;> exact wpAny_pure hq
 | e :: e2 :: es,es',b',s,as,σ,σ',v,Q,h,hf,N,hA,T,ev,hQ=>by
  refine cn h fun a as' h1 h2 qx4=>?_; subst qx4
  refine cn h2 fun a2 as2' h3 h4 qx4=>?_; subst qx4
  have hf':∃ y,fS op (a2 :: as2')=some y ∧ b'=mkB op a y:=by
   have:fS op (a :: a2 :: as2')=(fS op (a2 :: as2')).map fun y=>mkB op a y:=rfl
   rw [this] at hf
   obtain ⟨y,q1,q2⟩:=Option.map_eq_some_iff.mp hf
   exact ⟨y,q1,q2.symm⟩
  obtain ⟨y,hy,rfl⟩:=hf'
  show wpAny _ A (do
   match op,← isTrue e env (eval e env) with
   | .And,false=>pure false
   | .Or,true=>pure true
   | _,_=>allTrue op (e2 :: es) env) Q X s
  cases op with
  | And =>
   dsimp only [mkB] at ev
   refine aA ev fun u τ e5 e6=>?_
   split at e6
   ·refine wpAny_bind (IH names e a h1 env A X s as fr σ τ true _ N hA T e5 fun as1 k1 tk1 st1 R1 F1=>?_)
    exact ey IH (e2 :: es) (a2 :: as2') y _ as1 τ σ' v Q h2 hy N hA ⟨F1,R1⟩ e6 (jF hQ st1 R1 F1)
   ·cases e6
    refine wpAny_bind (IH names e a h1 env A X s as fr σ _ false _ N hA T e5 fun as1 k1 tk1 st1 R1 F1=>wpAny_pure ?_)
    exact hQ as1 k1 tk1 st1 R1 F1
   ·cases e6
  | Or =>
   dsimp only [mkB] at ev
   refine aA ev fun u τ e5 e6=>?_
   split at e6
   ·refine wpAny_bind (IH names e a h1 env A X s as fr σ τ false _ N hA T e5 fun as1 k1 tk1 st1 R1 F1=>?_)
    exact ey IH (e2 :: es) (a2 :: as2') y _ as1 τ σ' v Q h2 hy N hA ⟨F1,R1⟩ e6 (jF hQ st1 R1 F1)
   ·cases e6
    refine wpAny_bind (IH names e a h1 env A X s as fr σ _ true _ N hA T e5 fun as1 k1 tk1 st1 R1 F1=>wpAny_pure ?_)
    exact hQ as1 k1 tk1 st1 R1 F1
   ·cases e6
end
end Mine
namespace Mine
set_option backward.match.sparseCases false
open PySem PyProof.Rows PySem.W
noncomputable def pa:MN→String
 | .append=>"list.append" | .pop=>"list.pop" | .clear=>"list.clear" | .extend=>"list.extend" | .index=>"list.index"
section
variable {g:Cfg}{K:Frag}{env:Env}{A:Around}{X:Value→Shared→Prop}{s:Shared}{as:List Addr}{fr:Fra} {σ σ':Sto}{Q:Value→Shared→Prop}
theorem aI.upd {v:V}{val:Value}{l:Nat}{a:Addr}{h':Heap}{tk:Nat}{ys:List V}{items:Array Value} (hQ:aI g env as fr s v (dy σ l ys) Q) (T:At g env as fr σ s) (hl:as[l]?=some a)
  (k:∀ (b:Addr) (o:Obj),b ≠ a→s.heap.get? b=some o→h'.get? b=some o) (hp:h'.PlainList a items) (r:bX as s.heap as h'→ah as h' ys items.toList) (hz:ys.length ≤ 16777216) (rv:bX as s.heap as h'→RepV as h' v val) :
  Q val { s with heap:=h',toks:=tk }:=by
 obtain ⟨K,R',x⟩:=T.R.upd (o:=.lst ys) hl k fun K=>⟨items,hp,r K,hz⟩
 exact hQ.use T x R' (rv K)
theorem ez (h:Heap) (a:Addr) (f:Obj→Obj):∀ (b:Addr) (o:Obj),b ≠ a→h.get? b=some o→(h.update a f).get? b=some o:=fun b o hb e=>by rw [Heap.get?_update_other _ _ (Ne.symm hb)]; exact e
theorem eO {h:Heap}{a:Addr}{items:Array Value}{n:Nat} (ho:IsL h a items n) (f:Array Value→Array Value):(h.update a (Obj.mapSeq f)).PlainList a (f items):=⟨_,ho.update f⟩
set_option tactic.hygienic true in
theorem tZ {is:List Int} (h1:is.length ≤ 1000) (h2:∀ j ∈ is,j.natAbs < 1024):PyData.layable0 (.list (is.map .int))=true:=by
 have key:∀ is:List Int,(∀ j ∈ is,j.natAbs < 1024)→PyData.canLayAll0 (is.map .int)=true ∧ PyData.depthAll (is.map .int)=0 ∧ PyData.weightAll (is.map .int) ≤ 11 * is.length:=by
  intro is
  induction is with
  | nil=>intro _; exact ⟨rfl,rfl,Nat.le_refl _⟩
  | cons j r ih =>
   intro h
   obtain ⟨a,b,c⟩:=ih fun k hk=>h k (.tail _ hk)
   have hj:=h j (.head _)
   refine ⟨by simp [PyData.canLayAll0,PyData.canLay0,a],by simp [PyData.depthAll,PyData.depth,b],?_⟩
   simp only [List.map_cons,PyData.weightAll,PyData.weight,List.length_cons]
   have:(if (j == 0)=true then 0 else j.natAbs.log2 + 1) ≤ 10:=by
    split
    ·lia
    ·rename_i h0
     have h0':j.natAbs ≠ 0:=by intro q; apply h0; simp; lia
     exact (Nat.log2_lt h0').mpr hj
   lia
 obtain ⟨a,b,c⟩:=key is h2
 unfold PyData.layable0
 simp only [PyData.canLay0,a,PyData.depth,b,PyData.weight,Bool.true_and,Bool.and_eq_true,decide_eq_true_eq]
 have h20:(2:Nat) ^ 20=1048576:=by decide +kernel
 refine ⟨by lia,decide_eq_true ?_⟩
 rw [h20]; lia
section
variable {l:Nat}{ys vs:List V}{x:Value}{xs:List Value}{v:V}{n:Nat}
theorem ue (T:At g env as fr σ s) (L:vk as s.heap l ys x) (hs:ah as s.heap vs xs) (e:dP .append l ys vs σ=.ok v σ') (hQ:aI g env as fr s v σ' Q):wpAny (model g.prog g.w) A (call (.builtin "list.append") (x :: xs)) Q X s:=by
 rcases vs with _ | ⟨v0,_ | ⟨v1,vs⟩⟩ <;> first | exact au e | skip
 obtain ⟨hz,e⟩:=eN e
 obtain ⟨rfl,rfl⟩:=bC e
 obtain ⟨y,rfl,r1⟩:=cf hs
 cases L with
 | mk ad items k hd ho hr hz' hsz =>
  refine wpAny_list_append_plain ⟨k,ho⟩ (fun h' hp hsb=>?_) (by show _ ≤ 2 ^ 24; lia)
  refine hQ.upd (tk:=s.toks) T hd (fun b o hb e=>hsb.extBut b o hb e) hp (fun K=>?_) (by rw [List.length_append]; exact hz) (fun K=>by rw [RepV])
  rw [Array.toList_push]
  exact ah.f2.mpr ((ah.f2.mp (ah.keep K _ _ hr)).append (.cons (RepV.keep K _ _ r1) .nil))
theorem A4 (T:At g env as fr σ s) (L:vk as s.heap l ys x) (hs:ah as s.heap vs xs) (e:dP .pop l ys vs σ=.ok v σ') (hQ:aI g env as fr s v σ' Q):wpAny (model g.prog g.w) A (call (.builtin "list.pop") (x :: xs)) Q X s:=by
 rcases vs with _ | ⟨v0,vs⟩ <;> first | exact au e | skip
 rw [ah] at hs; subst hs
 have e:(match ys.getLast? with | some v=>RE.ok v (dy σ l ys.dropLast) | none=>.bad)=.ok v σ':=e
 cases hv:ys.getLast? with
 | none=>rw [hv] at e; exact au e
 | some v0 =>
  rw [hv] at e
  obtain ⟨rfl,rfl⟩:=bC e
  cases L with
  | mk ad items k hd ho hr hz' hsz =>
   rw [List.getLast?_eq_getElem?] at hv
   obtain ⟨y,hy,ry⟩:=(ah.f2.mp hr).get hv
   have hy':items[items.size - 1]?=some y:=by rw [hsz,← Array.getElem?_toList]; exact hy
   refine call_meets F.slot_list_pop ⟨_,ho,rfl⟩ F.entry_list_pop (F.args_list_pop_1 _) (MeetsSeq.list_pop_last ad items k y hy' (by show _ ≤ 2 ^ 24; lia)) ⟨ho,?_⟩
   refine hQ.upd (tk:=s.toks) T hd (ez _ _ _) (eO ho _) (fun K=>?_) (by rw [List.length_dropLast]; lia) (fun K=>RepV.keep K _ _ ry)
   have hlt:items.size - 1 < items.size:=(Array.getElem?_eq_some_iff.mp hy').1
   have e1:(items.eraseIdxIfInBounds (items.size - 1)).toList=items.toList.take (items.size - 1):=by
    rw [Array.eraseIdxIfInBounds,dif_pos hlt,Array.toList_eraseIdx,show items.size - 1=items.toList.length - 1 from by rw [Array.length_toList],List.eraseIdx_length_sub_one,List.dropLast_eq_take]
   rw [e1,List.dropLast_eq_take,← hsz]
   exact ah.f2.mpr ((ah.f2.mp (ah.keep K _ _ hr)).take _)
theorem wN (T:At g env as fr σ s) (L:vk as s.heap l ys x) (hs:ah as s.heap vs xs) (e:dP .clear l ys vs σ=.ok v σ') (hQ:aI g env as fr s v σ' Q):wpAny (model g.prog g.w) A (call (.builtin "list.clear") (x :: xs)) Q X s:=by
 rcases vs with _ | ⟨v0,vs⟩ <;> first | exact au e | skip
 rw [ah] at hs; subst hs
 obtain ⟨rfl,rfl⟩:=bC e
 cases L with
 | mk ad items k hd ho hr hz' hsz =>
  refine call_meets F.slot_list_clear ⟨_,ho,rfl⟩ F.entry_list_clear (F.args_list_clear_1 _) (AutoSeq1.list_clear_list_0 ad items k (by show _ ≤ 2 ^ 24; lia)) ⟨ho,?_⟩
  exact hQ.upd (tk:=s.toks) T hd (ez _ _ _) (eO ho _) (fun K=>by rw [ah]) (Nat.zero_le _) (fun K=>by rw [RepV])
set_option tactic.hygienic true in
theorem td (T:At g env as fr σ s) (L:vk as s.heap l ys x) (hs:ah as s.heap vs xs) (e:dP .extend l ys vs σ=.ok v σ') (hQ:aI g env as fr s v σ' Q):wpAny (model g.prog g.w) A (call (.builtin "list.extend") (x :: xs)) Q X s:=by
 rcases vs with _ | ⟨v0,_ | ⟨v1,vs⟩⟩ <;> first | exact au e | skip
 obtain ⟨y,rfl,r1⟩:=cf hs
 cases v0 <;> first | exact au e | skip
 rename_i k2
 obtain ⟨zs,hk,e⟩:=iK (o:=getL σ k2) (f:=fun zs=>if ys.length + zs.length ≤ 16777216 ∧ k2 ≠ l then RE.ok .none (dy σ l (ys ++ zs)) else .bad) e
 obtain ⟨hz,e⟩:=eN e
 obtain ⟨rfl,rfl⟩:=bC e
 cases L with
 | mk ad items k hd ho hr hz' hsz =>
  cases g8 T.R r1 hk with
  | mk ad2 items2 k2' hd2 ho2 hr2 hz2 hsz2 =>
   refine call_meets F.slot_list_extend ⟨_,ho,rfl⟩ F.entry_list_extend (F.args_list_extend_2 _ _) (AutoSeq1.list_extend_list_list_0 ad items k ad2 items2 k2' ?_ (by show _ ≤ 2 ^ 24; lia) (by show _ ≤ 2 ^ 24 + 1; lia)) ⟨ho,ho2,?_⟩
   ·simp [Builtin.List.listTooLong,sizeLine]; lia
   ·refine hQ.upd (tk:=s.toks) T hd (ez _ _ _) (eO ho _) (fun K=>?_) (by rw [List.length_append]; exact hz.1) (fun K=>by rw [RepV])
    rw [Array.toList_append]
    exact ah.f2.mpr ((ah.f2.mp (ah.keep K _ _ hr)).append (ah.f2.mp (ah.keep K _ _ hr2)))
set_option tactic.hygienic true in
theorem wv (T:At g env as fr σ s) (L:vk as s.heap l ys x) (hs:ah as s.heap vs xs) (e:dP .index l ys vs σ=.ok v σ') (hQ:aI g env as fr s v σ' Q):wpAny (model g.prog g.w) A (call (.builtin "list.index") (x :: xs)) Q X s:=by
 rcases vs with _ | ⟨v0,_ | ⟨v1,vs⟩⟩ <;> first | exact au e | skip
 obtain ⟨y,rfl,r1⟩:=cf hs
 cases v0 <;> first | exact au e | skip
 rename_i i
 have e:(match aE ys with | some is=>if ug i is then RE.ok (.int (is.idxOf i)) σ else .bad | none=>.bad)=.ok v σ':=e
 cases hi:aE ys with
 | none=>rw [hi] at e; exact au e
 | some is =>
  rw [hi] at e
  obtain ⟨hz,e⟩:=eN e
  obtain ⟨rfl,rfl⟩:=bC e
  obtain ⟨t,rfl⟩:=cj r1
  cases L with
  | mk ad items k hd ho hr hz' hsz=>exact index_list_ints (vs:=items.toList) (by simpa using ho.isList) (bA hi hr) (tZ hz.2.1 hz.2.2) hz.1 (hQ.int T)
theorem yI {m:MN} (hm:mOk m=true) (T:At g env as fr σ s) (L:vk as s.heap l ys x) (hs:ah as s.heap vs xs) (e:dP m l ys vs σ=.ok v σ') (hQ:aI g env as fr s v σ' Q):wpAny (model g.prog g.w) A (call (.builtin (pa m)) (x :: xs)) Q X s:=by
 cases m with
 | append=>exact ue T L hs e hQ
 | pop=>exact A4 T L hs e hQ
 | clear=>exact wN T L hs e hQ
 | extend=>exact td T L hs e hQ
 | index=>exact wv T L hs e hQ
theorem sm {x:Str}{m:MN} (h:dX.lookup x=some m):Slot "list" x (pa m) ∧ typeOf (.builtin (pa m))=pure (.type "method_descriptor"):=by
 have:=ay.keep.lookup_mem h
 rcases List.mem_cons.mp this with q | q
 ·cases q; exact ⟨slot_list_append,rfl⟩
 rcases List.mem_cons.mp q with q | q
 ·cases q; exact ⟨F.slot_list_pop,rfl⟩
 rcases List.mem_cons.mp q with q | q
 ·cases q; exact ⟨F.slot_list_index,rfl⟩
 rcases List.mem_cons.mp q with q | q
 ·cases q; exact ⟨F.slot_list_clear,rfl⟩
 ·cases List.mem_singleton.mp q; exact ⟨F.slot_list_extend,rfl⟩
end
set_option tactic.hygienic true in
theorem jr {u v:V}{f:Nat→List V→RE} (e:zK u σ f=.ok v σ'):∃ l xs,u=.ref l ∧ getL σ l=some xs ∧ f l xs=.ok v σ':=by
 cases u <;> first | exact au e | skip
 rename_i l
 obtain ⟨xs,h1,h2⟩:=iK (o:=getL σ l) (f:=f l) e
 exact ⟨l,xs,rfl,h1,h2⟩
set_option tactic.hygienic true in
theorem sv {u v:V}{r:RE} (e:sN u σ r=.ok v σ'):∃ l d ents,u=.ref l ∧ σ[l]?=some (.inst d) ∧ σ[d]?=some (.att ents) ∧ r=.ok v σ':=by
 cases u <;> first | exact au e | skip
 rename_i l
 have e:(match σ[l]? with | some o=>(match o with | .inst d=>(match σ[d]? with | some o=>(match o with | .att _=>r | _=>.bad) | none=>.bad) | _=>.bad) | none=>.bad)=.ok v σ':=e
 cases h1:σ[l]? with
 | none=>rw [h1] at e; exact au e
 | some o =>
  rw [h1] at e
  cases o <;> first | exact au e | skip
  rename_i d
  have e:(match σ[d]? with | some o=>(match o with | .att _=>r | _=>.bad) | none=>.bad)=.ok v σ':=e
  cases h2:σ[d]? with
  | none=>rw [h2] at e; exact au e
  | some o =>
   rw [h2] at e
   cases o <;> first | exact au e | skip
   exact ⟨l,d,_,rfl,h1,h2,e⟩
end
end Mine
namespace Mine
open PySem PyProof.Rows PySem.W
noncomputable def sR (g:Cfg) (env:Env) (as:List Addr) (fr:Fra) (s:Shared) (σ':Sto) (Q:Unit→Shared→Prop):Prop :=
 ∀ (as':List Addr) (h':Heap) (tk:Nat),aD [env.locals] as s.heap as' h'→Rel g as' σ' h'→ay g env as' fr h'→Q () { s with heap:=h',toks:=tk }
section
variable {g:Cfg}{as:List Addr}{h h':Heap}
theorem tI {k:Int}{v:V}{y:Value}:∀ {es:List (Int × V)}{kvs:List (Int × Value)},F2 (fun (e:Int × V) (x:Int × Value)=>e.1=x.1 ∧ RepV as h e.2 x.2) es kvs→(kvs.map (·.1)).Nodup→RepV as h v y →
  F2 (fun (e:Int × V) (x:Int × Value)=>e.1=x.1 ∧ RepV as h e.2 x.2) (gz k v es) (stored kvs k y):=by
 intro es kvs f
 induction f with
 | nil=>intro _ r; simp only [putI_n,stored,List.any_nil,Bool.false_eq_true,if_false,List.nil_append]; exact .cons ⟨rfl,r⟩ .nil
 | @cons a b as' bs x f' ih =>
  intro nd r
  obtain ⟨k1,v1⟩:=a
  obtain ⟨k2,y1⟩:=b
  have h1:k1=k2:=x.1
  subst h1
  simp only [List.map_cons,List.nodup_cons] at nd
  by_cases hk:k1=k
  ·subst hk
   have e1:gz k1 v ((k1,v1) :: as')=(k1,v) :: as':=by simp [putI_n,jW]
   have e2:stored ((k1,y1) :: bs) k1 y=(k1,y) :: bs:=by
    unfold stored
    rw [if_pos (by simp)]
    rw [List.map_cons,if_pos rfl]
    congr 1
    refine (List.map_congr_left fun p hp=>?_).trans (List.map_id _)
    rw [if_neg (fun (q:p.1=k1)=>nd.1 (q ▸ List.mem_map.mpr ⟨p,hp,rfl⟩))]; rfl
   rw [e1,e2]
   exact .cons ⟨rfl,r⟩ f'
  ·have e1:gz k v ((k1,v1) :: as')=(k1,v1) :: gz k v as':=by simp [jW,hk]
   have e2:stored ((k1,y1) :: bs) k y=(k1,y1) :: stored bs k y:=by
    unfold stored
    by_cases ha:bs.any (fun kv=>decide (kv.1=k))=true
    ·rw [if_pos (by rw [List.any_cons,ha]; simp),if_pos ha,List.map_cons,if_neg hk]
    ·rw [if_neg (by rw [List.any_cons]; simp only [hk,decide_false,Bool.false_or]; exact ha),if_neg ha]; rfl
   rw [e1,e2]
   exact .cons x (ih nd.2 r)
theorem lx {k:List Int}{y:Value}{ka:Addr}{xs:List (List Int × Addr × Value)} (h:∀ x ∈ xs,x.2.1 ∉ as) (hk:ka ∉ as):∀ x ∈ storedH xs k ka y,x.2.1 ∉ as:=fun x hx=>by
 unfold storedH at hx
 split at hx
 ·obtain ⟨z,hz,rfl⟩:=List.mem_map.mp hx
  unfold putAt; split <;> exact h z hz
 ·exact (List.mem_append.mp hx).elim (h x) fun q=>List.mem_singleton.mp q ▸ hk
theorem tS {k:List Int}{v:V}{y:Value}{ka:Addr}:∀ {es:List (List Int × V)}{xs:List (List Int × Addr × Value)},F2 (fun (e:List Int × V) (x:List Int × Addr × Value)=>e.1=x.1 ∧ RepV as h e.2 x.2.2) es xs→(xs.map (·.1)).Nodup→RepV as h v y →
  F2 (fun (e:List Int × V) (x:List Int × Addr × Value)=>e.1=x.1 ∧ RepV as h e.2 x.2.2) (l3 k v es) (storedH xs k ka y):=by
 intro es xs f
 induction f with
 | nil=>intro _ r; simp only [putT_n,storedH,atKey,List.find?_nil,Option.map_none,Option.isSome_none,Bool.false_eq_true,if_false,List.nil_append]; exact .cons ⟨rfl,r⟩ .nil
 | @cons a b as' bs x f' ih =>
  intro nd r
  obtain ⟨k1,v1⟩:=a
  obtain ⟨k2,y1⟩:=b
  have h1:k1=k2:=x.1
  subst h1
  simp only [List.map_cons,List.nodup_cons] at nd
  by_cases hk:k1=k
  ·subst hk
   have e1:l3 k1 v ((k1,v1) :: as')=(k1,v) :: as':=by simp [putT_n,nt]
   have e2:storedH ((k1,y1) :: bs) k1 ka y=(k1,y1.1,y) :: bs:=by
    unfold storedH
    rw [if_pos (by simp [atKey])]
    rw [List.map_cons]
    have e3:putAt k1 y (k1,y1)=(k1,y1.1,y):=by simp [putAt]
    rw [e3]
    congr 1
    exact map_putAt_of_not_mem bs k1 y nd.1
   rw [e1,e2]
   exact .cons ⟨rfl,r⟩ f'
  ·have e1:l3 k v ((k1,v1) :: as')=(k1,v1) :: l3 k v as':=by
    have:(k1 == k)=false:=beq_eq_false_iff_ne.mpr hk
    simp [nt,this]
   have e0:atKey ((k1,y1) :: bs) k=atKey bs k:=by
    unfold atKey
    rw [List.find?_cons]
    simp [hk]
   have e2:storedH ((k1,y1) :: bs) k ka y=(k1,y1) :: storedH bs k ka y:=by
    unfold storedH
    rw [e0]
    by_cases ha:(atKey bs k).isSome=true
    ·rw [if_pos ha,if_pos ha,List.map_cons]
     have:putAt k y (k1,y1)=(k1,y1):=by simp [putAt,hk]
     rw [this]
    ·rw [if_neg ha,if_neg ha]; rfl
   rw [e1,e2]
   exact .cons x (ih nd.2 r)
end
theorem nD {k:Int}{v:V}:∀ {es:List (Int × V)},(gz k v es).length ≤ es.length + 1
 | []=>by simp [putI_n,jW]
 | e :: r=>by
  rw [jW]; split
  ·simp
  ·have:=nD (k:=k) (v:=v) (es:=r); simp; lia
theorem nv {k:List Int}{v:V}:∀ {es:List (List Int × V)},(l3 k v es).length ≤ es.length + 1
 | []=>by simp [putT_n,nt]
 | e :: r=>by
  rw [nt]; split
  ·simp
  ·have:=nv (k:=k) (v:=v) (es:=r); simp; lia
section
variable {g:Cfg}{K:Frag}{env:Env}{A:Around}{X:Value→Shared→Prop}{s:Shared}{as:List Addr}{fr:Fra} {σ σ':Sto}
theorem sR.use {Q:Unit→Shared→Prop} (hQ:sR g env as fr s σ' Q) (T:At g env as fr σ s) {as':List Addr}{h':Heap}{tk:Nat} (x:aD [] as s.heap as' h') (R':Rel g as' σ' h'):Q () { s with heap:=h',toks:=tk } :=
 hQ as' h' tk (x.grow (by simp)) R' (T.frame x)
inductive zJ (σ:Sto) (v:V):V→V→Sto→Prop
 | lst {l:Nat}{ys:List V}{k:Int} (hl:σ[l]?=some (.lst ys)) (hz:0 ≤ k ∧ k < ys.length):zJ σ v (.ref l) (.int k) (dy σ l (ys.set k.toNat v))
 | dI {l:Nat}{es:List (Int × V)}{k:Int} (hl:σ[l]?=some (.dI es)) (hz:es.length < 1000000):zJ σ v (.ref l) (.int k) (σ.set l (.dI (gz k v es)))
 | dT {l:Nat}{ks:List V}{k:List Int}{es:List (List Int × V)} (hl:σ[l]?=some (.dT es)) (he:aE ks=some k) (hz:es.length < 1000000):zJ σ v (.ref l) (.tup ks) (σ.set l (.dT (l3 k v es)))
theorem ma {α:Type}{p:Prop} [Decidable p] {a b:α} (e:(if p then some a else none)=some b):p ∧ a=b:=by
 by_cases h:p
 ·rw [if_pos h] at e; exact ⟨h,Option.some.inj e⟩
 ·rw [if_neg h] at e; exact nn e
set_option tactic.hygienic true in
theorem nV {a i v:V} (e:dq a i v σ=some σ'):zJ σ v a i σ':=by
 cases a <;> first | exact nn e | skip
 rename_i l
 have e:AJ σ[l]? l i v σ=some σ':=e
 cases hl:σ[l]? with
 | none=>rw [hl] at e; exact nn e
 | some o =>
  rw [hl] at e
  cases o <;> first | exact nn e | skip
  ·cases i <;> first | exact nn e | skip
   obtain ⟨hz,rfl⟩:=ma e
   exact .lst hl hz
  ·cases i <;> first | exact nn e | skip
   obtain ⟨hz,rfl⟩:=ma e
   exact .dI hl hz
  ·cases i <;> first | exact nn e | skip
   refine bM e fun k e1 e2=>?_
   obtain ⟨hz,rfl⟩:=ma e2
   exact .dT hl e1 hz
theorem rP {a i v:V}{x y z:Value}{n:Nat}{Q:Unit→Shared→Prop} (T:At g env as fr σ s) (hA:b5 g A n) (ha:RepV as s.heap a x) (hi:RepV as s.heap i y) (hv:RepV as s.heap v z)
  (e:dq a i v σ=some σ') (hQ:sR g env as fr s σ' Q):wpAny (model g.prog g.w) A (setItem x y z) Q X s:=by
 cases nV e with
 | @lst l ys k hl hz =>
  refine aB T.R ha (gy hl) fun ad items m qx hd ho hr hz' hsz=>?_; subst qx
  rw [RepV] at hi; obtain ⟨t,rfl⟩:=hi
  refine ki_setAt ho hz.1 (by lia) (by lia) ?_
  obtain ⟨K,R',xx⟩:=T.R.upd (o:=.lst (ys.set k.toNat v)) (h':=s.heap.update ad (Obj.mapSeq (·.setIfInBounds k.toNat z))) hd (ez _ _ _) fun K=>⟨_,eO ho _,by
   rw [Array.toList_setIfInBounds]
   exact ah.f2.mpr ((ah.f2.mp (ah.keep K _ _ hr)).set (RepV.keep K _ _ hv)),by simpa using hz'⟩
  exact hQ.use (tk:=s.toks) T xx R'
 | @dI l es k hl hz =>
  rw [RepV] at ha; rw [RepV] at hi
  obtain ⟨t,rfl⟩:=hi
  obtain ⟨d,rfl,hd⟩:=ha
  obtain ⟨kvs,hk,hf,hle⟩:=T.R.obj _ _ _ hd hl
  have hnd:(kvs.map (·.1)).Nodup:=by obtain ⟨_,_,_,_,_,_,_,_,q⟩:=hk; exact q
  refine wpAny_setItem_pairs (intKind_is _ _ k t) hk (fun h' hd' hsb=>?_) ?_
  ·obtain ⟨K,R',xx⟩:=T.R.upd (o:=.dI (gz k v es)) (h':=h') hd (fun b o hb e=>hsb.extBut b o hb e) fun K=>⟨_,hd',tI (hf.mono fun _ _ q=>⟨q.1,RepV.keep K _ _ q.2⟩) hnd (RepV.keep K _ _ hv),Nat.le_trans nD (by lia),hle.2⟩
   exact hQ.use T xx R'
  ·have:=hf.length; show _ ≤ 2 ^ 24; lia
 | @dT l ks k es hl he hz =>
  obtain ⟨ta,rfl,hk,hta⟩:=gB (g:=g) hi he
  rw [RepV] at ha; obtain ⟨d,rfl,hd⟩:=ha
  obtain ⟨xs,hx,hf,hle⟩:=T.R.obj _ _ _ hd hl
  have hnd:(xs.map (·.1)).Nodup:=by obtain ⟨_,_,_,_,_,_,_,_,q⟩:=hx; exact q
  refine wpAny_setItem_heap (knd:=tupleKind (intKind g.prog g.w)) (tupleKind_room_in1 (by have:=hA.units; show _ < 9900; lia)) hk hx (fun h' hd' hsb=>?_) ?_
  ·obtain ⟨K,R',xx⟩:=T.R.upd (o:=.dT (l3 k v es)) (h':=h') hd (fun b o hb e=>hsb.extBut b o hb e) fun K=>⟨_,hd',tS (hf.mono fun _ _ q=>⟨q.1,RepV.keep K _ _ q.2⟩) hnd (RepV.keep K _ _ hv),⟨Nat.le_trans nv (by lia),lx hle.1.2 hta⟩,hle.2⟩
   exact hQ.use T xx R'
  ·have:=hf.length; show _ ≤ 2 ^ 24; lia
end
end Mine
namespace Mine
open PySem PyProof.Rows PySem.W
section
variable {g:Cfg}{K:Frag}{c0:CE}{fa:Nat→Option Addr}{call:Nat→List V→Sto→RE}{env:Env}{A:Around}{X:Value→Shared→Prop}{s:Shared}{as:List Addr}{fr:Fra} {σ σ':Sto}{Q:Value→Shared→Prop}
theorem zD {h:Heap}{v:V}{x:Value} (r:RepV as h v x):handedIn x=true:=by
 cases v with
 | none=>rw [RepV] at r; subst r; rfl
 | bool b=>rw [RepV] at r; subst r; rfl
 | int i=>rw [RepV] at r; obtain ⟨t,rfl⟩:=r; rfl
 | str i=>rw [RepV] at r; obtain ⟨t,rfl⟩:=r; rfl
 | tup i=>rw [RepV] at r; obtain ⟨t,_,_,rfl,_⟩:=r; rfl
 | ref i=>rw [RepV] at r; obtain ⟨t,rfl,_⟩:=r; rfl
 | rng i j=>rw [RepV] at r; obtain ⟨t,_,_,_,rfl,_⟩:=r; rfl
 | exc c=>rw [RepV] at r; obtain ⟨t,_,_,rfl,_⟩:=r; rfl
noncomputable def bB (g:Cfg):Prop:=∀ k k' x,g.at'.lookup k=some x→g.at'.lookup k'=some x→k=k'
theorem nh {h:Heap}{es:List (Nat × V)}{ents:List DictEntry} (f:F2 (lC g as h) es ents):ents.any (·.refKey)=false:=by
 induction f with
 | nil=>rfl
 | cons x _ ih =>
  obtain ⟨nm,t,_,e,_⟩:=x
  rw [List.any_cons,ih,Bool.or_false]
  unfold DictEntry.refKey
  rw [e]
theorem mJ {h:Heap}{k:Nat}{x:Str} (I:bB g) (hx:g.at'.lookup k=some x):∀ {es:List (Nat × V)}{ents:List DictEntry},F2 (lC g as h) es ents →
  (∀ v,es.lookup k=some v→∃ y,W.getL x ents=some (some y) ∧ RepV as h v y) ∧ (W.getL x ents).isSome=true:=by
 intro es ents f
 have hs:=nh f
 refine ⟨?_,?_⟩
 ·intro v hv
  have key:∃ d,ents.find? (·.key.isStr x)=some d ∧ RepV as h v d.val:=by
   clear hs
   induction f with
   | nil=>cases hv
   | @cons a b as' bs r f' ih =>
    obtain ⟨k1,v1⟩:=a
    obtain ⟨nm,t,e1,e2,e3⟩:=r
    rw [List.lookup_cons] at hv
    rw [List.find?_cons]
    by_cases hk:k=k1
    ·subst hk
     simp at hv; subst hv
     have:nm=x:=by rw [hx] at e1; exact (Option.some.inj e1).symm
     subst this
     have:b.key.isStr nm=true:=by rw [e2]; simp [Value.isStr]
     rw [this]; exact ⟨b,rfl,e3⟩
    ·have hb:(k == k1)=false:=beq_eq_false_iff_ne.mpr hk
     rw [hb] at hv
     have:b.key.isStr x=false:=by
      rw [e2]
      simp only [Value.isStr,beq_eq_false_iff_ne]
      intro q; subst q; exact hk (I k k1 nm hx e1)
     rw [this]; exact ih hv
  obtain ⟨d,h1,h2⟩:=key
  exact ⟨d.val,by unfold W.getL; rw [h1],h2⟩
 ·unfold W.getL
  split
  ·rfl
  ·rw [hs]; rfl
theorem jU {h:Heap}{x:Str} (hx:∀ k,g.at'.lookup k ≠ some x):∀ {es:List (Nat × V)}{ents:List DictEntry},F2 (lC g as h) es ents→W.getL x ents=some none:=by
 intro es ents f
 have hs:=nh f
 have key:ents.find? (·.key.isStr x)=none:=by
  clear hs
  induction f with
  | nil=>rfl
  | @cons a b as' bs r f' ih =>
   obtain ⟨nm,t,e1,e2,e3⟩:=r
   rw [List.find?_cons]
   have:b.key.isStr x=false:=by
    rw [e2]
    simp only [Value.isStr,beq_eq_false_iff_ne]
    intro q; subst q; exact hx _ e1
   rw [this]; exact ih
 unfold W.getL
 rw [key]
 simp only [hs]; rfl
theorem sQ {l d:Nat}{x:Value} (R:Rel g as σ s.heap) (r:RepV as s.heap (.ref l) x) (e:σ[l]?=some (.inst d)) :
  ∃ a dx,x=.ref a ∧ as[l]?=some a ∧ as[d]?=some dx ∧ s.heap.get? a=some (instObj g.C dx):=by
 rw [RepV] at r
 obtain ⟨a,rfl,ha⟩:=r
 obtain ⟨dx,h1,h2⟩:=R.obj l a _ ha e
 exact ⟨a,dx,rfl,ha,h1,h2⟩
theorem cZ {l d:Nat}{x:Value}{G:Prop} (R:Rel g as σ s.heap) (r:RepV as s.heap (.ref l) x) (e:σ[l]?=some (.inst d)) (k:∀ a dx,x=.ref a→as[l]?=some a→as[d]?=some dx→s.heap.get? a=some (instObj g.C dx)→G):G:=let ⟨a,dx,h1,h2,h3,h4⟩:=sQ R r e; k a dx h1 h2 h3 h4
theorem i8 {d:Nat}{dx:Addr}{es:List (Nat × V)} (R:Rel g as σ s.heap) (hd:as[d]?=some dx) (e:σ[d]?=some (.att es)) :
  ∃ ents n,s.heap.get? dx=some (W.dictOf ents n) ∧ F2 (lC g as s.heap) es ents ∧ es.length ≤ 100:=R.obj d dx _ hd e
set_option tactic.hygienic true in
theorem zE {a v:V}{k:Nat}{x:Value}{nm:Str}{ex:Bool} (G:bH g K c0 fa) (I:bB g) (T:At g env as fr σ s) (ha:RepV as s.heap a x) (hk:c0.attrs.lookup nm=some k) (e:jq a k σ=some v) (hQ:aI g env as fr s v σ Q) :
  wpAny (model g.prog g.w) A (getAttr x nm ex) Q X s:=by
 unfold jq at e
 split at e
 case h_2=>cases e
 rename_i l
 split at e
 case h_2=>cases e
 rename_i d hl
 split at e
 case h_2=>cases e
 rename_i es hd
 refine cZ T.R ha hl fun ad dx qx2 h1 h2 h3=>?_; subst qx2
 obtain ⟨ents,n,h4,h5,_⟩:=i8 T.R h2 hd
 obtain ⟨q1,q2,at',q3,q4,_⟩:=G.att nm k hk
 obtain ⟨y,h6,h7⟩:=(mJ I q1 h5).1 v e
 obtain ⟨m,hF,_⟩:=T.F.fr T.R
 exact get_own (X₀:=G.kin) hF (K:=K) (C:=g.C) (ox:=instObj g.C dx) ⟨h3,rfl,rfl,h4⟩ q2 (G.hasD nm k hk) q3 q4 h6 (zD h7) (hQ.same T h7)
theorem vQ {d:Addr}{o o':Obj}:∀ {l:List (Addr × Obj)},(d,o) ∈ l→(l.map (·.1)).Nodup→Upd d o o' l (l.map fun p=>if p.1=d then (d,o') else p):=by
 intro l
 induction l with
 | nil=>intro h _; cases h
 | cons p r ih =>
  intro hm nd
  simp only [List.map_cons,List.nodup_cons] at nd
  by_cases hp:p.1=d
  ·have hpo:p=(d,o):=by
    rcases List.mem_cons.mp hm with q | q
    ·exact q.symm
    ·exact absurd (List.mem_map.mpr ⟨_,q,rfl⟩) (by have:=nd.1; rw [hp] at this; exact this)
   subst hpo
   have hr:∀ q ∈ r,q.1 ≠ d:=fun q hq e=>nd.1 (List.mem_map.mpr ⟨q,hq,e⟩)
   have:r.map (fun p=>if p.1=d then (d,o') else p)=r:=by
    refine (List.map_congr_left fun q hq=>?_).trans (List.map_id _)
    rw [if_neg (hr q hq)]; rfl
   rw [List.map_cons,this,if_pos rfl]
   exact .head hr
  ·rw [List.map_cons,if_neg hp]
   refine .tail hp (ih ?_ nd.2)
   rcases List.mem_cons.mp hm with q | q
   ·exact absurd (by rw [← q]) hp
   ·exact q
set_option tactic.hygienic true in
theorem kH (b:Heap) (L:Addr) (h:Heap):((newsOf b L h).map (·.1)).Nodup:=by
 unfold newsOf
 generalize hl:List.range h.objs.size=l
 have nd:l.Nodup:=by rw [← hl]; exact List.nodup_range
 clear hl
 induction l with
 | nil=>simp
 | cons a r ih =>
  rw [List.nodup_cons] at nd
  rw [List.filterMap_cons]
  split
  ·exact ih nd.2
  ·rename_i p hp
   rw [List.map_cons,List.nodup_cons]
   refine ⟨fun q=>?_,ih nd.2⟩
   obtain ⟨p',hp',e⟩:=List.mem_map.mp q
   obtain ⟨a',ha',e'⟩:=List.mem_filterMap.mp hp'
   have k1:p.1=a:=by
    split at hp
    ·obtain ⟨o,_,e2⟩:=Option.map_eq_some_iff.mp hp; rw [← e2]
    ·cases hp
   have k2:p'.1=a':=by
    split at e'
    ·obtain ⟨o,_,e2⟩:=Option.map_eq_some_iff.mp e'; rw [← e2]
    ·cases e'
   exact nd.1 (by rw [← k1,← e,k2]; exact ha')
theorem wl {h:Heap}{k:Nat}{x:Str}{v:V}{y:Value}{hs:Int}{t:Tok} (I:bB g) (hx:g.at'.lookup k=some x) (r:RepV as h v y):∀ {es:List (Nat × V)}{ents:List DictEntry},F2 (lC g as h) es ents →
  F2 (lC g as h) (tD k v es) (W.putL x hs (.str x t) y ents):=by
 intro es ents f
 induction f with
 | nil=>exact .cons ⟨x,t,hx,rfl,r⟩ .nil
 | @cons a b as' bs q f' ih =>
  obtain ⟨k1,v1⟩:=a
  obtain ⟨nm,u,e1,e2,e3⟩:=q
  rw [W.putL,vx]
  by_cases hk:k1=k
  ·subst hk
   have:nm=x:=by rw [hx] at e1; exact (Option.some.inj e1).symm
   subst this
   have h1:b.key.isStr nm=true:=by rw [e2]; simp [Value.isStr]
   rw [if_pos h1,if_pos (by simp)]
   exact .cons ⟨nm,u,hx,e2,r⟩ f'
  ·have h1:¬ b.key.isStr x=true:=by
    rw [e2]
    simp only [Value.isStr,beq_iff_eq]
    intro q; subst q; exact hk (I k1 k nm e1 hx)
   rw [if_neg h1,if_neg (by simpa using hk)]
   exact .cons ⟨nm,u,e1,e2,e3⟩ ih
theorem jf {k:Nat}{v:V}:∀ {es:List (Nat × V)},(tD k v es).length ≤ es.length + 1
 | []=>by simp [zq]
 | e :: r=>by
  rw [vx]; split
  ·simp
  ·have:=jf (k:=k) (v:=v) (es:=r); simp; lia
theorem At.updN {h':Heap}{m:Str→Option Value}{l:Nat}{a:Addr}{o:AO}{ob ob':Obj} (T:At g env as fr σ s) (hm:s.heap.Ns env.locals m) (hl:as[l]?=some a) (ho:s.heap.get? a=some ob)
  (F':Fr g.b env.locals h' m) (N':News g.b env.locals h' ((newsOf g.b env.locals s.heap).map fun p=>if p.1=a then (a,ob') else p))
  (hr:bX as s.heap as h'→h'.get? a=some ob'→oU g as h' o a):bX as s.heap as h' ∧ aD [env.locals] as s.heap as h' ∧ Rel g as (σ.set l o) h' ∧ ay g env as fr h':=by
 have haL:a ≠ env.locals:=fun q=>T.F.off (q ▸ List.mem_of_getElem? hl)
 have hab:g.b.get? a=none:=T.R.new a (List.mem_of_getElem? hl)
 have hin:(a,ob) ∈ newsOf g.b env.locals s.heap:=cw.mpr ⟨ho,haL,hab⟩
 have ha':h'.get? a=some ob':=(N' (a,ob') (List.mem_map.mpr ⟨(a,ob),hin,by simp⟩)).1
 have ext:∀ (b:Addr) (o:Obj),b ≠ env.locals→b ≠ a→s.heap.get? b=some o→h'.get? b=some o:=fun b o hb hba e=>by
  cases q:g.b.get? b with
  | none=>exact (N' (b,o) (List.mem_map.mpr ⟨(b,o),cw.mpr ⟨e,hb,q⟩,by rw [if_neg hba]⟩)).1
  | some o' =>
   have:=T.R.base b o' q
   rw [e] at this; cases this
   exact F'.keep _ _ q
 have x:aD [env.locals] as s.heap as h':=⟨⟨[],by simp,by simp⟩,fun b o e h1 h2=>ext b o (by simpa using h1) (fun q=>h2 (q ▸ List.mem_of_getElem? hl)) e⟩
 have K:=T.R.keep x T.F.notImm
 refine ⟨K,x,⟨F'.keep,by simp [T.R.len],T.R.nd,T.R.new,fun i b oo h1 h2=>?_,T.R.hnd.keep K⟩,?_⟩
 ·by_cases hi:i=l
  ·subst hi
   rw [hl] at h1; cases h1
   have hlt:i < σ.length:=by have:=(List.getElem?_eq_some_iff.mp hl).1; rw [T.R.len] at this; exact this
   rw [List.getElem?_set_self hlt] at h2; cases h2
   exact hr K ha'
  ·rw [List.getElem?_set_ne (Ne.symm hi)] at h2
   refine (T.R.obj i b oo h1 h2).keep K fun oc e=>ext b oc (fun q=>T.F.off (q ▸ List.mem_of_getElem? h1)) (fun q=>hi ?_) e
   subst q
   obtain ⟨j1,j2⟩:=List.getElem?_eq_some_iff.mp h1
   obtain ⟨j3,j4⟩:=List.getElem?_eq_some_iff.mp hl
   exact (List.getElem_inj T.R.nd).mp (j2.trans j4.symm)
 ·obtain ⟨m0,hm0,hv⟩:=T.F.ns
  have hmm:∀ x,m0 x=m x:=fun x=>hm0.agree hm x
  have hca:∀ x c,env.cells.lookup x=some c→c ≠ a:=fun x c hc q=>(T.F.offc x c hc).1 (q ▸ List.mem_of_getElem? hl)
  refine ⟨T.F.kind,T.F.above,T.F.glob,T.F.blt,T.F.len,T.F.nd,⟨m,F'.ns,fun i x v h1 h2=>?_⟩,fun i x k h1 h2=>?_,T.F.off,fun x c hc=>⟨(T.F.offc _ _ hc).1,(T.F.offc _ _ hc).2.1,?_⟩,T.F.apart,T.F.newc⟩
  ·obtain ⟨val,e1,e2⟩:=hv i x v h1 h2
   exact ⟨val,by rw [← hmm]; exact e1,RepV.keep K _ _ e2⟩
  ·obtain ⟨c,cv,e1,⟨o,e2,e2'⟩,e3⟩:=T.F.cells i x k h1 h2
   refine ⟨c,cv,e1,⟨o,ext _ _ (T.F.offc _ _ e1).2.1 (hca _ _ e1) e2,e2'⟩,fun v e=>?_⟩
   obtain ⟨val,e4,e5⟩:=e3 v e
   exact ⟨val,e4,RepV.keep K _ _ e5⟩
  ·obtain ⟨cv,o,e,e'⟩:=(T.F.offc _ _ hc).2.2
   exact ⟨cv,o,ext _ _ (T.F.offc _ _ hc).2.1 (hca _ _ hc) e,e'⟩
set_option tactic.hygienic true in
theorem qm {a v:V}{k:Nat}{x z:Value}{nm:Str}{Q:Unit→Shared→Prop} (G:bH g K c0 fa) (I:bB g) (T:At g env as fr σ s) (ha:RepV as s.heap a x) (hv:RepV as s.heap v z) (hk:c0.attrs.lookup nm=some k) (e:dg a k v σ=some σ') (hQ:sR g env as fr s σ' Q) :
  wpAny (model g.prog g.w) A (setAttr x nm z) Q X s:=by
 unfold dg at e
 split at e
 case h_2=>cases e
 rename_i l
 split at e
 case h_2=>cases e
 rename_i d hl
 split at e
 case h_2=>cases e
 rename_i es hd
 split at e
 case isFalse=>cases e
 rename_i hz
 cases e
 refine cZ T.R ha hl fun ad dx qx2 h1 h2 h3=>?_; subst qx2
 obtain ⟨ents,n,h4,h5,_⟩:=i8 T.R h2 hd
 obtain ⟨q1,q2,at',q3,q4,q5⟩:=G.att nm k hk
 obtain ⟨m,hF,_⟩:=T.F.fr T.R
 have haL:dx ≠ env.locals:=fun q=>T.F.off (q ▸ List.mem_of_getElem? h2)
 have hin:(dx,W.dictOf ents n) ∈ newsOf g.b env.locals s.heap:=cw.mpr ⟨h4,haL,T.R.new dx (List.mem_of_getElem? h2)⟩
 have f':=fun (h:Heap) (K:bX as s.heap as h)=>wl (hs:=PyData.keyHash g.w.params nm) (t:=s.toks + 1) I q1 (RepV.keep K _ _ hv) (h5.mono fun _ _ ⟨x,t,y1,y2,y3⟩=>⟨x,t,y1,y2,RepV.keep K _ _ y3⟩)
 have hlen:(W.putL nm (PyData.keyHash g.w.params nm) (.str nm (s.toks + 1)) z ents).length ≤ 1000:=by
  have:=(f' s.heap (.same fun _ _ e _ _=>e)).length
  have:=jf (k:=k) (v:=v) (es:=es)
  lia
 refine set_dict (X₀:=G.kin) hF (eP _ _ _) (K:=K) (C:=g.C) (ox:=instObj g.C dx) ⟨h3,rfl,rfl,h4⟩ rfl (G.setA nm k hk).1 (G.setA nm k hk).2 q5 (G.hasD nm k hk) (mJ I q1 h5).2 rfl (vQ hin (kH _ _ _)) hlen fun h' F' N'=>?_
 obtain ⟨K',x',R',FF⟩:=T.updN (o:=.att (tD k v es)) hF.ns h2 h4 F' N' fun K' hob=>⟨_,_,hob,f' h' K',Nat.le_trans jf (by lia)⟩
 exact hQ as h' _ x' R' FF
end
end Mine
namespace Mine
open PySem PyProof.Rows PySem.W
theorem qf (a:Value):argsOk "max" ⟨[a],[(Str.ofString "default",.none)]⟩:=by unfold argsOk; kernel_rfl
section
variable {prog:Program}{w:World}{A:Around}{R:Result→Shared→Prop}{I:Addr}{fp wr:List Addr}{n:Nat}{P:Nat→Value→Prop}{St:Nat→Heap→Prop}{kw:List (Str × Value)}
theorem pW (W:Walks prog w A.in1 I fp wr n P St) (bt:Nat→Nat→Bool) (hcmp:CmpOf prog w A.in1 .Gt P bt) (S:Addr) (hSf:S ∉ fp) :
  ∀ (k j:Nat) (s:Shared) (vb:Value) (c:Nat),n - (j + 1)=k→j + 1 ≤ n→St (j + 1) s.heap→P (argBest bt j) vb →
  s.heap.get? S=some { cls:=.type "list",dict:=none,data:=.seq #[vb,vb] c,slots:=#[] } →
  (∀ v h' tk,P (argBest bt (n - 1)) v→(∀ b o,b ∉ wr→b ≠ S→s.heap.get? b=some o→h'.get? b=some o)→R (.ok (.ret v)) { s with heap:=h',toks:=tk }) →
  codeAny (model prog w) A (.builtin "max.loop" ⟨[.ref I,.none,.ref S],kw⟩) R s:=by
 have hSw:S ∉ wr:=fun h=>hSf (W.sub _ h)
 have hname:(toString "max" ++ toString ".loop":String)="max.loop":=by decide
 intro k
 induction k with
 | zero =>
  intro j s vb c hk hj hst hPb hS hR
  have hin:j + 1=n:=by lia
  refine codeAny_builtin F.entry_max_loop ?_
  rw [Around.under_plainId F.plain_max_loop _]
  show wpAny _ A.in1 (seqItems? (.ref S) >>= _) _ _ s
  refine wpAny_bind (wpAny_seqItems hS rfl ?_)
  show wpAny _ A.in1 (tryCatch (pyNext (.ref I)) _ >>= _) _ _ s
  refine wpAny_bind (wpAny_tryCatch (W.done s _ _ (hin ▸ hst) fun h' tk hk'=>?_))
  have hS':=hk' S _ hSw hS
  show wpAny _ A.in1 (updateSeq S (fun _=>#[]) >>= _) _ _ _
  refine wpAny_bind ?_
  refine wpAny_updateSeq hS' rfl (wpAny_bind (wpAny_letGo (wpAny_pure ?_)))
  refine hR vb _ tk (by rw [← hin]; exact hPb) fun b o hbw hbS e=>(Heap.get?_update_other _ _ (Ne.symm hbS)).trans (hk' b o hbw e)
 | succ k ih =>
  intro j s vb c hk hj hst hPb hS hR
  have hlt:j + 1 < n:=by lia
  refine codeAny_builtin F.entry_max_loop ?_
  rw [Around.under_plainId F.plain_max_loop _]
  show wpAny _ A.in1 (seqItems? (.ref S) >>= _) _ _ s
  refine wpAny_bind (wpAny_seqItems hS rfl ?_)
  show wpAny _ A.in1 (tryCatch (pyNext (.ref I)) _ >>= _) _ _ s
  refine wpAny_bind (wpAny_tryCatch (W.item (j + 1) s _ _ hlt hst fun v h' tk hP hst' hk'=>?_))
  have hS':=hk' S _ hSw hS
  show wpAny _ A.in1 (tryCatch (holding [v,v] (richCompare .Gt v vb >>= _)) _ >>= _) _ _ _
  refine wpAny_bind (wpAny_tryCatch (wpAny_holding (wpAny_bind (hcmp (j + 1) (argBest bt j) v vb _ _ _ hP hPb ?_))))
  refine wpAny_bind (wpAny_holding (wpAny_truthy_bool ?_))
  refine wpAny_bind (wpAny_letGo (wpAny_pure ?_))
  cases hb:bt (j + 1) (argBest bt j) with
  | true =>
   simp only [if_true]
   refine wpAny_bind ?_
   refine wpAny_updateSeq hS' rfl (wpAny_bind (wpAny_letGo ?_))
   rw [hname]
   refine wpAny_pure ⟨plainId_quiet F.plain_max_loop _,ih (j + 1) _ v _ (by lia) hlt (W.frame _ _ _ hst' fun b hbf o e=>?_) (by simp only [argBest,hb,if_true]; exact hP) (Heap.get?_update_self _ hS' rfl)
    fun v' h'' tk'' hP' hk''=>?_⟩
   ·exact (Heap.get?_update_other _ _ (fun h:S=b=>hSf (by rw [h]; exact hbf))).trans e
   ·exact hR v' h'' tk'' hP' fun b o hbw hbS e=>hk'' b o hbw hbS ((Heap.get?_update_other _ _ (Ne.symm hbS)).trans (hk' b o hbw e))
  | false =>
   simp only [Bool.false_eq_true,if_false]
   refine wpAny_bind (wpAny_letGo ?_)
   rw [hname]
   refine wpAny_pure ⟨plainId_quiet F.plain_max_loop _,ih (j + 1) _ vb c (by lia) hlt hst' (by simp only [argBest,hb,Bool.false_eq_true,if_false]; exact hPb) hS' fun v' h'' tk'' hP' hk''=>?_⟩
   exact hR v' h'' tk'' hP' fun b o hbw hbS e=>hk'' b o hbw hbS (hk' b o hbw e)
theorem gG (W:Walks prog w A.in1 I fp wr n P St) (bt:Nat→Nat→Bool) (hcmp:CmpOf prog w A.in1 .Gt P bt) (S:Addr) (hSf:S ∉ fp) (hn:0 < n) {s:Shared}{c:Nat} (hst:St 0 s.heap)
  (hS:s.heap.get? S=some { cls:=.type "list",dict:=none,data:=.seq #[] c,slots:=#[] })
  (hR:∀ v h' tk,P (argBest bt (n - 1)) v→(∀ b o,b ∉ wr→b ≠ S→s.heap.get? b=some o→h'.get? b=some o)→R (.ok (.ret v)) { s with heap:=h',toks:=tk }) :
  codeAny (model prog w) A (.builtin "max.loop" ⟨[.ref I,.none,.ref S],kw⟩) R s:=by
 have hSw:S ∉ wr:=fun h=>hSf (W.sub _ h)
 have hname:(toString "max" ++ toString ".loop":String)="max.loop":=by decide
 refine codeAny_builtin F.entry_max_loop ?_
 rw [Around.under_plainId F.plain_max_loop _]
 show wpAny _ A.in1 (seqItems? (.ref S) >>= _) _ _ s
 refine wpAny_bind (wpAny_seqItems hS rfl ?_)
 show wpAny _ A.in1 (tryCatch (pyNext (.ref I)) _ >>= _) _ _ s
 refine wpAny_bind (wpAny_tryCatch (W.item 0 s _ _ hn hst fun v h' tk hP hst' hk'=>?_))
 have hS':=hk' S _ hSw hS
 show wpAny _ A.in1 (updateSeq S (fun _=>#[v,v]) >>= _) _ _ _
 refine wpAny_bind ?_
 refine wpAny_updateSeq hS' rfl ?_
 rw [hname]
 refine wpAny_pure ⟨plainId_quiet F.plain_max_loop _,pW W bt hcmp S hSf _ 0 _ v _ rfl hn (W.frame _ _ _ hst' fun b hbf o e=>?_) hP (Heap.get?_update_self _ hS' rfl) fun v' h'' tk'' hP' hk''=>?_⟩
 ·exact (Heap.get?_update_other _ _ (fun h:S=b=>hSf (by rw [h]; exact hbf))).trans e
 ·exact hR v' h'' tk'' hP' fun b o hbw hbS e=>hk'' b o hbw hbS ((Heap.get?_update_other _ _ (Ne.symm hbS)).trans (hk' b o hbw e))
theorem iA (W:Walks prog w A.in1 I fp wr 0 P St) (S:Addr) (hSf:S ∉ fp) {s:Shared}{c:Nat} (hst:St 0 s.heap)
  (hS:s.heap.get? S=some { cls:=.type "list",dict:=none,data:=.seq #[] c,slots:=#[] })
  (hR:∀ h' tk,(∀ b o,b ∉ wr→b ≠ S→s.heap.get? b=some o→h'.get? b=some o)→R (.ok (.ret .none)) { s with heap:=h',toks:=tk }) :
  codeAny (model prog w) A (.builtin "max.loop" ⟨[.ref I,.none,.ref S],[("default",.none)]⟩) R s:=by
 refine codeAny_builtin F.entry_max_loop ?_
 rw [Around.under_plainId F.plain_max_loop _]
 show wpAny _ A.in1 (seqItems? (.ref S) >>= _) _ _ s
 refine wpAny_bind (wpAny_seqItems hS rfl ?_)
 show wpAny _ A.in1 (tryCatch (pyNext (.ref I)) _ >>= _) _ _ s
 refine wpAny_bind (wpAny_tryCatch (W.done s _ _ hst fun h' tk hk'=>?_))
 show wpAny _ A.in1 (rule _ >>= _) _ _ _
 exact wpAny_bind (wpAny_rule (wpAny_pure (hR h' tk fun b o hbw _ e=>hk' b o hbw e)))
end
section
variable {prog:Program}{w:World}{A:Around}{E:Value→Shared→Prop}{s:Shared}
theorem iD {x:Value}{Q:Value→Shared→Prop}
  (h:wpAny (model prog w) A.in1 (pyIter x) (fun it s₂=>∃ I fp wr n P St bt,it=.ref I ∧ Walks prog w A.in1 I fp wr n P St ∧ St 0 s₂.heap ∧ (∀ b ∈ fp,b < s₂.heap.objs.size) ∧ CmpOf prog w A.in1 .Gt P bt ∧
   (∀ v h' tk,0 < n→P (argBest bt (n - 1)) v→(∀ b o,b ∉ wr→s₂.heap.get? b=some o→h'.get? b=some o)→Q v { s₂ with heap:=h',toks:=tk }) ∧
   (∀ h' tk,n=0→(∀ b o,b ∉ wr→s₂.heap.get? b=some o→h'.get? b=some o)→Q .none { s₂ with heap:=h',toks:=tk })) E s) :
  wpAny (model prog w) A (call (.builtin "max") [x] [(Str.ofString "default",.none)]) Q E s:=by
 have hname:(toString "max" ++ toString ".loop":String)="max.loop":=by decide
 refine kmk_tree F.kind_max F.plain_max F.entry_max (qf _) ?_
 show wpAny _ A.in1 (Builtin.Builtins.bindParams "max" ["key","default"] 0 ⟨[],[(Str.ofString "default",.none)]⟩ >>= _) _ _ s
 refine wpAny_bind (wpAny_of_eq (show Builtin.Builtins.bindParams "max" ["key","default"] 0 ⟨[],[(Str.ofString "default",.none)]⟩=pure [none,some .none] from rfl) ?_)
 refine wpAny_bind (wpAny_pure ?_)
 refine wpAny_bind (wpAny_mono h (fun it s₂ h₂=>?_) fun _ _ e=>e)
 obtain ⟨I,fp,wr,n,P,St,bt,rfl,W,hst,hfp,hcmp,hQ,hQ0⟩:=h₂
 refine wpAny_bind (wpAny_newObj_type ?_)
 have hSf:s₂.heap.objs.size ∉ fp:=fun hm=>Nat.lt_irrefl _ (hfp _ hm)
 rw [hname]
 refine wpAny_pure ⟨plainId_quiet F.plain_max_loop _,?_⟩
 rcases Nat.eq_zero_or_pos n with hn | hn
 ·subst hn
  refine iA W s₂.heap.objs.size hSf (W.frame _ _ _ hst fun b _ o e=>Heap.get?_push_of_some _ e) (Heap.get?_push_size _ rfl) fun h' tk hk=>?_
  exact hQ0 h' tk rfl fun b o hbw e=>hk b o hbw (Nat.ne_of_lt (Heap.lt_size e)) (Heap.get?_push_of_some _ e)
 ·refine gG W bt hcmp s₂.heap.objs.size hSf hn (W.frame _ _ _ hst fun b _ o e=>Heap.get?_push_of_some _ e) (Heap.get?_push_size _ rfl) fun v h' tk hP hk=>?_
  exact hQ v h' tk hn hP fun b o hbw e=>hk b o hbw (Nat.ne_of_lt (Heap.lt_size e)) (Heap.get?_push_of_some _ e)
end
section
variable {g:Cfg}{env:Env}{A:Around}{X:Value→Shared→Prop}{s:Shared}{as:List Addr}{fr:Fra} {σ σ':Sto}{Q:Value→Shared→Prop}
theorem zl {l:Nat}{x:Value}{is:List Int}{v:V} (T:At g env as fr σ s) (hA:A.handled=none) (ha:RepV as s.heap (.ref l) x) (e1:(getL σ l).bind aE=some is)
  (e2:v=match jl is with | some i=>V.int i | none=>V.none)
  (hQ:aI g env as fr s v σ Q):wpAny (model g.prog g.w) A (call (.builtin "max") [x] [(Str.ofString "default",.none)]) Q X s:=by
 obtain ⟨vs,e3,e4⟩:=Option.bind_eq_some_iff.mp e1
 refine aB T.R ha e3 fun ad items m qx hd ho hr hz hsz=>?_; subst qx
 have hi:=bA e4 hr
 have hlen:=hi.length
 have hne:ad ≠ s.heap.objs.size:=Nat.ne_of_lt (Heap.lt_size ho)
 refine iD (wpAny_pyIter_list ho.isList ?_)
 refine ⟨s.heap.objs.size,_,_,items.size,_,_,fun i j=>decide (at0 is j < at0 is i),rfl,Walks.list (A:=A.in1) hA s.heap.objs.size ad hne items,⟨⟨_,Heap.get?_push_size _ rfl,rfl,rfl⟩,ho.isList.push _⟩,?_,?_,?_,?_⟩
 ·intro b hb
  rcases List.mem_cons.mp hb with rfl | hb
  ·rw [Heap.size_push]; exact Nat.lt_succ_self _
  ·rw [List.mem_singleton.mp hb,Heap.size_push]; exact Nat.lt_succ_of_lt (Heap.lt_size ho)
 ·intro i j vi vj s' Q' E' hvi hvj hq
  obtain ⟨t,rfl⟩:=cq hi i (by simpa using hvi)
  obtain ⟨u,rfl⟩:=cq hi j (by simpa using hvj)
  exact PyProof.Rows.gt_int hq
 ·intro v' h' tk hn hv hk
  obtain ⟨t,rfl⟩:=cq hi _ (by simpa using hv)
  cases is with
  | nil=>rw [Array.length_toList] at hlen; rw [hlen] at hn; exact absurd hn (Nat.lt_irrefl _)
  | cons y ys =>
   simp at hlen
   have e5:=d9 ys y (items.size - 1) (by lia)
   rw [List.take_of_length_le (by lia)] at e5
   rw [e5]
   have kk:=hV (h:=s.heap) (az _ _) hk (by intro b hb; rw [List.mem_singleton.mp hb]; exact new_none _)
   exact hQ.use T (aD.of_ext kk) (T.R.ext kk) (by rw [e2]; show RepV _ _ (.int _) _; rw [RepV]; exact ⟨_,rfl⟩)
 ·intro h' tk hn hk
  cases is with
  | nil =>
   have kk:=hV (h:=s.heap) (az _ _) hk (by intro b hb; rw [List.mem_singleton.mp hb]; exact new_none _)
   exact hQ.use T (aD.of_ext kk) (T.R.ext kk) (by rw [e2]; show RepV _ _ .none _; rw [RepV])
  | cons y ys=>rw [Array.length_toList,hn] at hlen; cases hlen
end
end Mine
namespace Mine
set_option backward.match.sparseCases false
open PySem PyProof.Rows PySem.W
theorem gh {σ σ':Sto}{o:Option V}{v:V} (e:bZ σ o=.ok v σ'):o=some v ∧ σ'=σ:=by
 unfold bZ at e; split at e
 ·cases e; exact ⟨rfl,rfl⟩
 ·cases e
theorem qQ {σ σ':Sto}{o:Option Bool}{v:V} (e:d0 σ o=.ok v σ'):∃ b,o=some b ∧ v=.bool b ∧ σ'=σ:=by
 unfold d0 at e; split at e
 ·cases e; exact ⟨_,rfl,rfl,rfl⟩
 ·cases e
theorem eA {σ σ':Sto}{o:Option Bool}{v:V}{G:Prop} (e:d0 σ o=.ok v σ') (k:∀ b,o=some b→v=.bool b→σ'=σ→G):G:=let ⟨b,h1,h2,h3⟩:=qQ e; k b h1 h2 h3
section
variable {g:Cfg}{K:Frag}{c0:CE}{fa:Nat→Option Addr}{call:Nat→List V→Sto→RE}{env:Env}{A:Around}{X:Value→Shared→Prop}{s:Shared}{as:List Addr}{fr:Fra} {σ σ':Sto}{r n:Nat}
 {names:List (Str × NameKind)}{Q:Value→Shared→Prop}{v:V}
theorem o5 {l:Nat}{x:Value}{vs ys:List V}{sl:Addr}{vl vu vst:Value}{lo hi st:Option Int}{ve ie:Expr} (T:At g env as fr σ s) (ha:RepV as s.heap (.ref l) x) (e:getL σ l=some vs)
  (hs:s.heap.IsSliceOf sl vl vu vst) (pl:IsPart vl lo) (pu:IsPart vu hi) (ps:IsPart vst st) (h0:st ≠ some 0)
  (hy:∀ items:Array Value,ah as s.heap vs items.toList→ah as s.heap ys (slicePick items lo hi st).toList)
  (en:cy ys σ=.ok v σ')
  (hsub:∀ o i,∃ ops,subscripted ie false o i=operate ops (getItem o i)) (hQ:aI g env as fr s v σ' Q):wpAny (model g.prog g.w) A (subscriptTail ve ie x (.ref sl)) Q X s:=by
 refine aB T.R ha e fun a items m qx ha' ho hr hz hsz=>?_; subst qx
 refine tail_any (T:="list") ⟨_,ho,rfl⟩ slot_list_getitem.lookup ?_ (hsub _ _).choose_spec
 have hr':=hy items hr
 have hl:(slicePick items lo hi st).size=ys.length:=by have:=(ah.f2.mp hr').length; simpa using this.symm
 refine wpAny_getItem_list_slice ho.isList hs pl pu ps h0 ?_ ?_
 ·exact hQ.newH (tk:=s.toks) T hr' en
 ·rw [hsz]; exact hz
noncomputable def aQ (g:Cfg) (c0:CE) (call:Nat→List V→Sto→RE) (r:Nat) (names:List (Str × NameKind)) (e:Expr) (e':E):Prop :=
 ∀ (env:Env) (A:Around) (X:Value→Shared→Prop) (s:Shared) (as:List Addr) (fr:Fra) (σ σ':Sto) (v:V) (Q:Value→Shared→Prop),
  aq (c0.sub names) env A→b5 g A (r + 1)→At g env as fr σ s→evE call e' fr σ=.ok v σ'→aI g env as fr s v σ' Q→wpAny (model g.prog g.w) A (eval e env) Q X s
noncomputable def kK (g:Cfg) (c0:CE) (call:Nat→List V→Sto→RE) (r:Nat) (names:List (Str × NameKind)) (e:Expr) (e':E):Prop :=
 ∀ (env:Env) (A:Around) (X:Value→Shared→Prop) (s:Shared) (as:List Addr) (fr:Fra) (σ σ':Sto) (b:Bool) (Q:Bool→Shared→Prop),
  aq (c0.sub names) env A→b5 g A (r + 1)→At g env as fr σ s→evE call e' fr σ=.ok (.bool b) σ'→oE g env as fr s b σ' Q→wpAny (model g.prog g.w) A (isTrue e env (eval e env)) Q X s
theorem xA {k p}:aQ g c0 call r names (.Constant .none k p) .none:=fun env A X s as fr σ σ' v Q N hA T ev hQ=>by
 obtain ⟨rfl,rfl⟩:=bC ev
 exact Constant_none (hQ.same' T (by rw [RepV]))
theorem zi {b k p}:aQ g c0 call r names (.Constant (.bool b) k p) (.bool b):=fun env A X s as fr σ σ' v Q N hA T ev hQ=>by
 obtain ⟨rfl,rfl⟩:=bC ev
 exact Constant_bool (hQ.bool' T)
theorem Aw {b k p}:aQ g c0 call r names (.Constant (.int b) k p) (.int b):=fun env A X s as fr σ σ' v Q N hA T ev hQ=>by
 obtain ⟨rfl,rfl⟩:=bC ev
 exact wpAny_Constant_int (hQ.int T)
theorem Au {b k p}:aQ g c0 call r names (.Constant (.str b) k p) (.str b):=fun env A X s as fr σ σ' v Q N hA T ev hQ=>by
 obtain ⟨rfl,rfl⟩:=bC ev
 exact wpAny_Constant_str (hQ.same T (by rw [RepV]; exact ⟨_,rfl⟩))
theorem Br {x:Str}{i p} (hl:(c0.sub names).loc? x=some i) (hd:(x == ("__debug__":Str))=false) (hc:(x == ("__classdict__":Str))=false):aQ g c0 call r names (.Name x p) (.loc i):=fun env A X s as fr σ σ' v Q N hA T ev hQ=>by
 have ev:(match fr[i]? with | some (some v)=>RE.ok v σ | _=>.bad)=.ok v σ':=ev
 rcases he:fr[i]? with _ | _ | v' <;> rw [he] at ev
 ·exact au ev
 ·exact au ev
 ·obtain ⟨rfl,rfl⟩:=bC ev
  exact A6 T N hl hd hc he hQ
theorem v5 {x:Str}{i p} (G:bH g K c0 fa) (hg:(c0.sub names).glob x=true) (hd:(x == ("__debug__":Str))=false) (hk:c0.consts.lookup x=some i):aQ g c0 call r names (.Name x p) (.int i):=fun env A X s as fr σ σ' v Q N hA T ev hQ=>by
 obtain ⟨rfl,rfl⟩:=bC ev
 obtain ⟨t,ht⟩:=G.const x i hk
 exact cx T N hg hd ht (hQ.same' T (by rw [RepV]; exact ⟨_,rfl⟩))
theorem Aq {l rt op a b p} (IH:bE g c0 call r n) (h1:al n (c0.sub names) l=some a) (h2:al n (c0.sub names) rt=some b):aQ g c0 call r names (.BinOp l op rt p) (.bin op a b):=fun env A X s as fr σ σ' v Q N hA T ev hQ=>by
 refine aA ev fun u τ e1 e2=>?_
 refine aA e2 fun w τ' e3 e4=>?_
 exact wpAny_BinOp (two IH h1 h2 N hA T e1 e3 fun x y as' h' tk st R' F' r1 r2=>Ax (T.step R' F') r1 r2 e4 (aS hQ st R' F'))
theorem AD {a b k1 p1 k2 p2 p} (ha:0 ≤ a ∧ a ≤ 10 ∧ 0 ≤ b ∧ b ≤ 100):aQ g c0 call r names (.BinOp (.Constant (.int a) k1 p1) .Pow (.Constant (.int b) k2 p2) p) (.pow a.toNat b.toNat):=fun env A X s as fr σ σ' v Q N hA T ev hQ=>by
 obtain ⟨rfl,rfl⟩:=bC ev
 have h64:a.natAbs < 2 ^ 64:=by
  have:(2:Nat)^64=18446744073709551616:=by decide +kernel
  lia
 refine wpAny_BinOp (wpAny_Constant_int (wpAny_Constant_int (pow_int_small ha.2.2.1 (by lia) h64 ?_)))
 have:((a.toNat:Nat):Int)=a:=Int.toNat_of_nonneg ha.1
 rw [this] at hQ
 exact hQ.int T
theorem Bp {x a p} (IH:bE g c0 call r n) (h1:al n (c0.sub names) x=some a):aQ g c0 call r names (.UnaryOp .USub x p) (.neg a):=fun env A X s as fr σ σ' v Q N hA T ev hQ=>by
 refine aA ev fun u τ e1 e2=>?_
 refine UnaryOp_ (IH names x a h1 env A X s as fr σ τ u _ N hA T e1 fun val as' h' tk st R' F' r1=>?_)
 split at e2
 ·cases e2
  rw [RepV] at r1; obtain ⟨t,rfl⟩:=r1
  exact PyProof.Rows.neg_int ((aS (tk:=tk) hQ st R' F').int (T.step R' F'))
 ·cases e2
theorem zU {x a p} (IH:bE g c0 call r n) (h1:al n (c0.sub names) x=some a):aQ g c0 call r names (.UnaryOp .Not x p) (.not a):=fun env A X s as fr σ σ' v Q N hA T ev hQ=>by
 refine aA ev fun u τ e1 e2=>?_
 refine UnaryOp_ (IH names x a h1 env A X s as fr σ τ u _ N hA T e1 fun val as' h' tk st R' F' r1=>?_)
 split at e2
 ·cases e2
  rw [RepV] at r1; subst r1
  exact not_of (wpAny_truthy_bool ((aS (tk:=tk) hQ st R' F').bool' (T.step R' F')))
 ·cases e2
set_option tactic.hygienic true in
theorem A3 {x a p} (IH:kX g c0 call r n) (h1:al n (c0.sub names) x=some a):kK g c0 call r names (.UnaryOp .Not x p) (.not a):=fun env A X s as fr σ σ' v Q N hA T ev hQ=>by
 refine aA ev fun u τ e1 e2=>?_
 split at e2
 ·rename_i b
  cases e2
  exact isTrue_not (IH names x a h1 env A X s as fr σ _ b _ N hA T e1 fun as' h' tk st R' F'=>hQ as' h' tk st R' F')
 ·cases e2
theorem sL {op vs es b' p} (IH:bE g c0 call r n) (h1:aV (al n (c0.sub names)) vs=some es) (h2:fS op es=some b'):aQ g c0 call r names (.BoolOp op vs p) b':=fun env A X s as fr σ σ' v Q N hA T ev hQ =>
 fe IH vs es b' s as σ σ' v Q h1 h2 N hA T ev hQ
theorem tc {op vs es b' p} (IH:kX g c0 call r n) (h1:aV (al n (c0.sub names)) vs=some es) (h2:fS op es=some b'):kK g c0 call r names (.BoolOp op vs p) b':=fun env A X s as fr σ σ' v Q N hA T ev hQ =>
 wpAny_isTrue_BoolOp (ey IH vs es b' s as σ σ' v Q h1 h2 N hA T ev hQ)
theorem gA {op:CmpOp}{rt:Expr} (h:dC op rt=true):behindInMarks op rt=false:=by
 unfold dC at h; simpa using h
theorem Af {l rt op a b p} (G:bH g K c0 fa) (IH:bE g c0 call r n) (hm:dC op rt=true) (h1:al n (c0.sub names) l=some a) (h2:al n (c0.sub names) rt=some b):aQ g c0 call r names (.Compare l [op] [rt] p) (.cmp op a b):=fun env A X s as fr σ σ' v Q N hA T ev hQ=>by
 refine aA ev fun u τ e1 e2=>?_
 refine aA e2 fun w τ' e3 e4=>?_
 refine eA e4 fun b' e5 qx2 qx3=>?_; subst qx2; subst qx3
 exact wpAny_Compare1 (two IH h1 h2 N hA T e1 e3 fun x y as' h' tk st R' F' r1 r2=>km G.sys (T.step R' F') hA r1 r2 e5 (aS hQ st R' F')) (gA hm)
theorem AX {l rt op a b p} (G:bH g K c0 fa) (IH:bE g c0 call r n) (hm:dC op rt=true) (h1:al n (c0.sub names) l=some a) (h2:al n (c0.sub names) rt=some b):kK g c0 call r names (.Compare l [op] [rt] p) (.cmp op a b):=fun env A X s as fr σ σ' v Q N hA T ev hQ=>by
 refine aA ev fun u τ e1 e2=>?_
 refine aA e2 fun w τ' e3 e4=>?_
 refine eA e4 fun b' e5 e6 qx3=>?_; subst qx3
 cases e6
 refine wpAny_isTrue_Compare1 (two IH h1 h2 N hA T e1 e3 fun x y as' h' tk st R' F' r1 r2=>?_) (gA hm)
 refine km G.sys (T.step (tk:=tk) R' F') hA r1 r2 e5 fun val as2 h2 tk2 st2 R2 F2' r3=>?_
 rw [RepV] at r3; subst r3
 exact wpAny_truthy_bool (hQ as2 h2 tk2 (ao st st2 R2 F2') R2 F2')
theorem fO {o1 o2:CmpOp}{m rt:Expr} (h:dC o2 rt=true):lastMarks [o1,o2] [m,rt]=false:=by
 have:=gA h; simpa [lastMarks] using this
set_option tactic.hygienic true in
theorem xD {l m rt o1 o2 a b d p} (G:bH g K c0 fa) (IH:bE g c0 call r n) (hm:dC o2 rt=true) (h1:al n (c0.sub names) l=some a) (h2:al n (c0.sub names) m=some b) (h3:al n (c0.sub names) rt=some d) :
  aQ g c0 call r names (.Compare l [o1,o2] [m,rt] p) (.cmp2 o1 o2 a b d):=fun env A X s as fr σ σ' v Q N hA T ev hQ=>by
 refine aA ev fun u τ e1 e2=>?_
 refine aA e2 fun w τ' e3 e4=>?_
 refine Compare_chain (wpAny_mono (two (Q:=fun x y s2=>wpAny (model g.prog g.w) A (compareOp o1 x y) (fun c s₂=>wpAny (model g.prog g.w) A (truthy c)
   (fun t s₃=>if t then wpAny (model g.prog g.w) A (compareChain p y [o2] [eval rt env]) Q X s₃ else Q c s₃) X s₂) X s2) IH h1 h2 N hA T e1 e3 fun x y as' h' tk st R' F' r1 r2=>?_) (fun x s1 h=>chain_link h) fun _ _ h=>h) (fO hm)
 split at e4
 ·rename_i e5
  refine km G.sys (T.step (tk:=tk) R' F') hA r1 r2 e5 fun val as2 h2' tk2 st2 R2 F2' r3=>?_
  rw [RepV] at r3; subst r3
  refine wpAny_truthy_bool ?_
  refine aA e4 fun z τ2 e6 e7=>?_
  refine eA e7 fun b' e8 qx2 qx3=>?_; subst qx2; subst qx3
  refine chain_last (IH names rt d h3 env A X _ as2 fr τ' _ z _ N hA ⟨F2',R2⟩ e6 fun val as3 h3 tk3 st3 R3 F3 r4=>?_)
  have kp:=At.keep (s:={ s with heap:=h',toks:=tk }) ⟨F',R'⟩ st2
  have kp2:=At.keep (s:={ s with heap:=h2',toks:=tk2 }) ⟨F2',R2⟩ st3
  have st13:=ao st (ao st2 st3 R3 F3) R3 F3
  exact km G.sys (T.step (tk:=tk3) R3 F3) hA (RepV.keep kp2 _ _ (RepV.keep kp _ _ r2)) r4 e8 (aS (s:=s) (tk:=tk3) hQ st13 R3 F3)
 ·rename_i e5
  cases e4
  refine km G.sys (T.step (tk:=tk) R' F') hA r1 r2 e5 fun val as2 h2' tk2 st2 R2 F2' r3=>?_
  have r3':=r3
  rw [RepV] at r3; subst r3
  refine wpAny_truthy_bool ?_
  exact hQ _ as2 h2' tk2 (ao st st2 R2 F2') R2 F2' r3'
 ·cases e4
set_option tactic.hygienic true in
theorem xt {l m rt o1 o2 a b d p} (G:bH g K c0 fa) (IH:bE g c0 call r n) (hm:dC o2 rt=true) (h1:al n (c0.sub names) l=some a) (h2:al n (c0.sub names) m=some b) (h3:al n (c0.sub names) rt=some d) :
  kK g c0 call r names (.Compare l [o1,o2] [m,rt] p) (.cmp2 o1 o2 a b d):=fun env A X s as fr σ σ' v Q N hA T ev hQ=>by
 refine aA ev fun u τ e1 e2=>?_
 refine aA e2 fun w τ' e3 e4=>?_
 refine isTrue_chain (wpAny_mono (two (Q:=fun x y s2=>wpAny (model g.prog g.w) A (compareOp o1 x y) (fun c s₂=>wpAny (model g.prog g.w) A (truthy c)
   (fun t s₃=>if t then wpAny (model g.prog g.w) A (testChain p y [o2] [eval rt env]) Q X s₃ else Q false s₃) X s₂) X s2) IH h1 h2 N hA T e1 e3 fun x y as' h' tk st R' F' r1 r2=>?_) (fun x s1 h=>test_link h) fun _ _ h=>h) (fO hm)
 split at e4
 ·rename_i e5
  refine km G.sys (T.step (tk:=tk) R' F') hA r1 r2 e5 fun val as2 h2' tk2 st2 R2 F2' r3=>?_
  rw [RepV] at r3; subst r3
  refine wpAny_truthy_bool ?_
  refine aA e4 fun z τ2 e6 e7=>?_
  refine eA e7 fun b' e8 e9 qx3=>?_; subst qx3
  cases e9
  refine test_last (IH names rt d h3 env A X _ as2 fr τ' _ z _ N hA ⟨F2',R2⟩ e6 fun val as3 h3 tk3 st3 R3 F3 r4=>?_)
  have kp:=At.keep (s:={ s with heap:=h',toks:=tk }) ⟨F',R'⟩ st2
  have kp2:=At.keep (s:={ s with heap:=h2',toks:=tk2 }) ⟨F2',R2⟩ st3
  have st13:=ao st (ao st2 st3 R3 F3) R3 F3
  refine km G.sys (T.step (tk:=tk3) R3 F3) hA (RepV.keep kp2 _ _ (RepV.keep kp _ _ r2)) r4 e8 fun val as4 h4 tk4 st4 R4 F4 r5=>?_
  rw [RepV] at r5; subst r5
  exact wpAny_truthy_bool (hQ as4 h4 tk4 (ao st13 st4 R4 F4) R4 F4)
 ·rename_i e5
  cases e4
  refine km G.sys (T.step (tk:=tk) R' F') hA r1 r2 e5 fun val as2 h2' tk2 st2 R2 F2' r3=>?_
  rw [RepV] at r3; subst r3
  exact wpAny_truthy_bool (hQ as2 h2' tk2 (ao st st2 R2 F2') R2 F2')
 ·cases e4
theorem qP {i:Expr}{b:E}{c:CE} (h:al n c i=some b):∀ o x,subscripted i false o x=operate [o,x] (getItem o x):=by
 have hk:=cW h
 cases i <;> first | (intros; rfl) | exact ft hk
theorem Ay {va i a b p} (IH:bE g c0 call r n) (h1:al n (c0.sub names) va=some a) (h2:al n (c0.sub names) i=some b):aQ g c0 call r names (.Subscript va i p) (.sub a b):=fun env A X s as fr σ σ' v Q N hA T ev hQ=>by
 refine uc ev fun u τ e1 e2=>?_
 refine aA e2 fun w τ' e3 e4=>?_
 obtain ⟨e5,rfl⟩:=gh e4
 exact Subscript_ (two IH h1 h2 N hA T e1 e3 fun x y as' h' tk st R' F' r1 r2=>Ar (T.step R' F') hA r1 r2 (qP h2) e5 (aS hQ st R' F'))
end
end Mine
namespace Mine
open PySem PyProof.Rows PySem.W
theorem Rel.pushAt {g:Cfg}{as:List Addr} {σ:Sto}{h h':Heap}{o:AO}{a:Addr} (R:Rel g as σ h) (k:∀ (b:Addr) (o:Obj),b ≠ a→h.get? b=some o→h'.get? b=some o) (ha:a ∉ as) (hb:g.b.get? a=none)
  (hi:∀ ob,h.get? a=some ob→¬ Imm ob) (ho:bX as h (as ++ [a]) h'→oU g (as ++ [a]) h' o a):bX as h (as ++ [a]) h' ∧ Rel g (as ++ [a]) (σ ++ [o]) h':=by
 have K:bX as h (as ++ [a]) h':=⟨fun j c e=>by rw [List.getElem?_append_left (List.getElem?_eq_some_iff.mp e).1]; exact e,fun b ob e im _=>k b ob (fun q=>by subst q; exact hi ob e im) e,fun b q=>(List.mem_append.mp q).imp id fun q=>(List.mem_singleton.mp q:b=a) ▸ hi⟩
 refine ⟨K,⟨fun b ob e=>k b ob (fun q=>by subst q; rw [hb] at e; cases e) (R.base b ob e),by simp [R.len],?_,fun b hb'=>?_,fun i b ob h1 h2=>?_,R.hnd.keep K⟩⟩
 ·exact List.nodup_append.mpr ⟨R.nd,by simp,fun x hx y hy e=>by simp at hy; subst hy; subst e; exact ha hx⟩
 ·rcases List.mem_append.mp hb' with q | q
  ·exact R.new b q
  ·simp at q; subst q; exact hb
 ·rcases Nat.lt_trichotomy i as.length with hi' | hi' | hi'
  ·rw [List.getElem?_append_left hi'] at h1
   rw [List.getElem?_append_left (R.len ▸ hi')] at h2
   exact (R.obj i b ob h1 h2).keep K fun oc e=>k b oc (fun q=>ha (q ▸ List.mem_of_getElem? h1)) e
  ·subst hi'
   rw [R.len] at h2
   simp at h1 h2; subst h1; subst h2; exact ho K
  ·rw [List.getElem?_eq_none (by simp; lia)] at h1; cases h1
section
variable {g:Cfg}{K:Frag}{c0:CE}{fa:Nat→Option Addr}{call:Nat→List V→Sto→RE}{env:Env}{A:Around}{X:Value→Shared→Prop}{s:Shared}{as:List Addr}{fr:Fra} {σ σ':Sto}{r n:Nat}
 {names:List (Str × NameKind)}{Q:Value→Shared→Prop}{v:V}
theorem ay.there {h:Heap} (F:ay g env as fr h):∃ o,h.get? env.locals=some o:=by
 obtain ⟨m,⟨o,es,ep,e,_⟩,_⟩:=F.ns; exact ⟨o,e⟩
theorem At.notNew (T:At g env as fr σ s):s.heap.objs.size ≠ env.locals ∧ s.heap.objs.size ∉ as ∧ g.b.get? s.heap.objs.size=none:=by
 refine ⟨fun q=>?_,fun q=>?_,?_⟩
 ·obtain ⟨o,e⟩:=T.F.there; have:=Heap.lt_size e; rw [q] at this; exact Nat.lt_irrefl _ this
 ·obtain ⟨o,e,_⟩:=T.R.there q; have:=Heap.lt_size e; exact Nat.lt_irrefl _ this
 ·cases e:g.b.get? s.heap.objs.size with
  | none=>rfl
  | some o=>have:=T.R.base _ _ e; rw [new_none] at this; cases this
theorem At.push (T:At g env as fr σ s) (o:Obj):At g env as fr σ { s with heap:=s.heap.push o } :=
 have x:aD [] as s.heap as (s.heap.push o):=aD.of_ext (az _ _)
 ⟨T.frame x,T.R.ext (az _ _)⟩
theorem bG (as:List Addr) (h:Heap) (o:Obj) (own:List Addr):aD own as h as (h.push o):=aD.of_ext (az _ _)
theorem ay.alter {as':List Addr}{h h':Heap}{d:Addr} (F:ay g env as fr h) (K:bX as h as' h') (hk:∀ (b:Addr) (o:Obj),b ≠ d→h.get? b=some o→h'.get? b=some o) (hL:env.locals ≠ d) (hc:∀ x c,env.cells.lookup x=some c→c ≠ d)
  (has:∀ a ∈ as',a ∈ as ∨ a=d):ay g env as' fr h':=by
 obtain ⟨m,hm,hv⟩:=F.ns
 refine ⟨F.kind,F.above,F.glob,F.blt,F.len,F.nd,⟨m,hm.at' fun o e=>hk _ o hL e,fun i x v h1 h2=>?_⟩,fun i x k h1 h2=>?_,fun q=>?_,fun x c hc'=>⟨fun q=>?_,(F.offc _ _ hc').2.1,?_⟩,F.apart,F.newc⟩
 ·obtain ⟨val,e1,e2⟩:=hv i x v h1 h2
  exact ⟨val,e1,RepV.keep K _ _ e2⟩
 ·obtain ⟨c,cv,e1,⟨o,e2,e2'⟩,e3⟩:=F.cells i x k h1 h2
  refine ⟨c,cv,e1,⟨o,hk _ _ (hc _ _ e1) e2,e2'⟩,fun v e=>?_⟩
  obtain ⟨val,e4,e5⟩:=e3 v e
  exact ⟨val,e4,RepV.keep K _ _ e5⟩
 ·rcases has _ q with q | q
  ·exact F.off q
  ·exact hL q
 ·rcases has _ q with q | q
  ·exact (F.offc _ _ hc').1 q
  ·exact hc _ _ hc' q
 ·obtain ⟨cv,o,e,e'⟩:=(F.offc _ _ hc').2.2
  exact ⟨cv,o,hk _ _ (hc _ _ hc') e,e'⟩
theorem At.cellNew (T:At g env as fr σ s):∀ x c,env.cells.lookup x=some c→c ≠ s.heap.objs.size:=fun x c hc q=>by
 obtain ⟨cv,o,e,_⟩:=(T.F.offc _ _ hc).2.2
 have:=Heap.lt_size e; rw [q] at this; exact Nat.lt_irrefl _ this
theorem yL {va a x k p} (G:bH g K c0 fa) (I:bB g) (IH:bE g c0 call r n) (hb:dr va=true) (h1:al n (c0.sub names) va=some a) (hk:c0.attrs.lookup x=some k):aQ g c0 call r names (.Attribute va x p) (.attr a k):=fun env A X s as fr σ σ' v Q N hA T ev hQ=>by
 refine aA ev fun u τ e1 e2=>?_
 obtain ⟨e5,rfl⟩:=gh e2
 refine Attribute_any_ (IH names va a h1 env A X s as fr σ _ u _ N hA T e1 fun val as' h' tk st R' F' r1=>zE G I (T.step (tk:=tk) R' F') r1 hk e5 (aS hQ st R' F')) ?_
 have:=gC (x:=x) (env:=env) (act:=eval va env) hb
 show (attributeBase va x env (eval va env) >>= _)=_
 rw [this]
theorem yJ {es es' p} (IH:bE g c0 call r n) (h1:aV (al n (c0.sub names)) es=some es'):aQ g c0 call r names (.List es p) (.list es'):=fun env A X s as fr σ σ' v Q N hA T ev hQ=>by
 refine bS ev fun u τ e1 e2=>?_
 refine wpAny_List (gq IH es es' s as σ τ u _ h1 N hA T e1 fun xs as' h' tk st R' F' r1=>?_)
 have hl:=(ah.f2.mp r1).length
 refine ⟨by rw [← hl]; exact eJ e2,?_⟩
 exact (aS (tk:=tk) hQ st R' F').newH (tk:=tk) (T.step R' F') (xs:=u) (items:=xs.toArray) (by simpa using r1) e2
set_option tactic.hygienic true in
theorem AT {es es' k p} (IH:bE g c0 call r n) (h1:aV (al n (c0.sub names)) es=some es'):aQ g c0 call r names (.Tuple es k p) (.tup es'):=fun env A X s as fr σ σ' v Q N hA T ev hQ=>by
 refine bS ev fun u τ e1 e2=>?_
 split at e2
 case isFalse=>cases e2
 rename_i hlen
 cases e2
 refine wpAny_Tuple (gq IH es es' s as σ _ u _ h1 N hA T e1 fun xs as' h' tk st R' F' r1=>?_)
 have hl:=(ah.f2.mp r1).length
 refine ⟨by rw [← hl]; show _ ≤ 2 ^ 24; lia,?_⟩
 have T':=T.step (tk:=tk) R' F'
 have x:aD [] as' h' as' (h'.push { cls:=.type "tuple",data:=.seq xs.toArray }):=aD.of_ext (az _ _)
 refine (aS (tk:=tk) hQ st R' F').use (tk:=tk) T' x (R'.ext (az _ _)) ?_
 rw [RepV]
 exact ⟨_,xs.toArray,0,rfl,Heap.get?_push_size _ rfl,⟨by simp; lia,T'.notNew.2.1⟩,by simpa using ah.keep (R'.keep0 x) _ _ r1⟩
set_option tactic.hygienic true in
theorem z0 {va lo a b p p'} (IH:bE g c0 call r n) (h1:al n (c0.sub names) va=some a) (h2:al n (c0.sub names) lo=some b):aQ g c0 call r names (.Subscript va (.Slice (some lo) none none p') p) (.slo a b):=fun env A X s as fr σ σ' v Q N hA T ev hQ=>by
 refine aA ev fun u τ e1 e2=>?_
 refine aA e2 fun w τ' e3 e4=>?_
 refine Subscript_ (IH names va a h1 env A X s as fr σ τ u _ N hA T e1 fun x as1 k1 tk1 st1 R1 F1 r1=>?_)
 refine wpAny_Slice (wpAny_evalPart_some (IH names lo b h2 env A X _ as1 fr τ τ' w _ N hA ⟨F1,R1⟩ e3 fun y as2 k2 tk2 st2 R2 F2' r2=>?_))
 refine wpAny_pure (wpAny_pure ?_)
 have r1':=RepV.keep (At.keep (s:={ s with heap:=k1,toks:=tk1 }) ⟨F1,R1⟩ st2) _ _ r1
 split at e4
 case h_2=>cases e4
 rename_i l k
 split at e4
 case h_2=>cases e4
 rename_i xs hx
 split at e4
 case isFalse=>cases e4
 rename_i hk
 have T2:At g env as2 fr τ' { s with heap:=k2,toks:=tk2 }:=⟨F2',R2⟩
 have T3:=T2.push { cls:=.type "slice",data:=.fields #[y,.none,.none] }
 have kp:=R2.keep0 (bG as2 k2 { cls:=.type "slice",data:=.fields #[y,.none,.none] } [])
 refine o5 (lo:=some k) T3 (RepV.keep kp _ _ r1') hx (Heap.IsSliceOf.new k2 y .none .none) ?_ .none .none (by simp) (fun items hi=>?_) e4 (fun _ _=>⟨_,rfl⟩) ?_
 ·rw [RepV] at r2; obtain ⟨t,rfl⟩:=r2; exact .int _ _
 ·obtain ⟨k',rfl⟩:=Int.eq_ofNat_of_zero_le hk
  show ah _ _ _ (slicePick items (some (k':Int)) none none).toList
  rw [slicePick_from']
  simpa using ah.f2.mpr ((ah.f2.mp hi).drop k')
 ·exact fun val as3 h3 tk3 st3 R3 F3 r3=>hQ val as3 h3 tk3 (ao st1 (ao st2 (ao (g:=g) (fr:=fr) (bG as2 k2 _ _) st3 R3 F3) R3 F3) R3 F3) R3 F3 r3
set_option tactic.hygienic true in
theorem Aa {va lo a b p p'} (IH:bE g c0 call r n) (h1:al n (c0.sub names) va=some a) (h2:al n (c0.sub names) lo=some b):aQ g c0 call r names (.Subscript va (.Slice none (some lo) none p') p) (.shi a b):=fun env A X s as fr σ σ' v Q N hA T ev hQ=>by
 refine aA ev fun u τ e1 e2=>?_
 refine aA e2 fun w τ' e3 e4=>?_
 refine Subscript_ (IH names va a h1 env A X s as fr σ τ u _ N hA T e1 fun x as1 k1 tk1 st1 R1 F1 r1=>?_)
 refine wpAny_Slice (wpAny_pure (wpAny_evalPart_some (IH names lo b h2 env A X _ as1 fr τ τ' w _ N hA ⟨F1,R1⟩ e3 fun y as2 k2 tk2 st2 R2 F2' r2=>?_)))
 refine wpAny_pure ?_
 have r1':=RepV.keep (At.keep (s:={ s with heap:=k1,toks:=tk1 }) ⟨F1,R1⟩ st2) _ _ r1
 split at e4
 case h_2=>cases e4
 rename_i l k
 split at e4
 case h_2=>cases e4
 rename_i xs hx
 split at e4
 case isFalse=>cases e4
 rename_i hk
 have T2:At g env as2 fr τ' { s with heap:=k2,toks:=tk2 }:=⟨F2',R2⟩
 have T3:=T2.push { cls:=.type "slice",data:=.fields #[.none,y,.none] }
 have kp:=R2.keep0 (bG as2 k2 { cls:=.type "slice",data:=.fields #[.none,y,.none] } [])
 refine o5 (hi:=some k) T3 (RepV.keep kp _ _ r1') hx (Heap.IsSliceOf.new k2 .none y .none) .none ?_ .none (by simp) (fun items hi=>?_) e4 (fun _ _=>⟨_,rfl⟩) ?_
 ·rw [RepV] at r2; obtain ⟨t,rfl⟩:=r2; exact .int _ _
 ·obtain ⟨k',rfl⟩:=Int.eq_ofNat_of_zero_le hk
  show ah _ _ _ (slicePick items none (some (k':Int)) none).toList
  rw [slicePick_upto']
  simpa using ah.f2.mpr ((ah.f2.mp hi).take k')
 ·exact fun val as3 h3 tk3 st3 R3 F3 r3=>hQ val as3 h3 tk3 (ao st1 (ao st2 (ao (g:=g) (fr:=fr) (bG as2 k2 _ _) st3 R3 F3) R3 F3) R3 F3) R3 F3 r3
theorem At.notSys (G:Sys g) (T:At g env as fr σ s):(s.heap.objs.size == sysModules)=false:=by
 obtain ⟨o,e⟩:=T.F.there
 have h1:=Heap.lt_size e
 have h2:=T.F.above
 have h3:=G.sys
 cases q:s.heap.objs.size == sysModules with
 | false=>rfl
 | true =>
  have:=eq_of_beq q
  rw [this] at h1
  exact absurd (Nat.lt_of_lt_of_le h3 h2) (Nat.lt_asymm h1)
theorem wW {p} (G:bH g K c0 fa):aQ g c0 call r names (.Dict [] [] p) .dict0:=fun env A X s as fr σ σ' v Q N hA T ev hQ=>by
 obtain ⟨rfl,rfl⟩:=bC ev
 refine wpAny_Dict_empty ?_
 have x:aD [] as s.heap (as ++ [s.heap.objs.size]) (s.heap.push { cls:=.type "dict",data:=.dict #[] }):=kE (az _ _) (new_none _)
 refine hQ.use (tk:=s.toks) T x (T.R.push (az _ _) (new_none _) ⟨[],Heap.DictOfH.new _,.nil,⟨Nat.zero_le _,fun _ q=>nomatch q⟩,T.notSys G.sys⟩) ?_
 rw [RepV]
 exact ⟨_,rfl,by rw [← T.R.len]; simp⟩
set_option tactic.hygienic true in
theorem v3 {ke va a b p} (G:bH g K c0 fa) (IH:bE g c0 call r n) (h1:al n (c0.sub names) ke=some a) (h2:al n (c0.sub names) va=some b):aQ g c0 call r names (.Dict [some ke] [va] p) (.dict1 a b):=fun env A X s as fr σ σ' v Q N hA T ev hQ=>by
 refine aA ev fun u τ e1 e2=>?_
 refine aA e2 fun w τ' e3 e4=>?_
 split at e4
 case h_2=>cases e4
 rename_i i
 cases e4
 have T1:=T.push { cls:=.type "dict",data:=.dict #[] }
 have nn:=T.notNew
 have hd0:=Heap.DictOf.new (knd:=intKind g.prog g.w) s.heap
 refine wpAny_Dict_walk (knd:=intKind g.prog g.w) rfl rfl (by simp) (by simp) (pairTrees_cons_walk (two IH h1 h2 N hA T1 e1 e3 fun x y as' h' tk st R' F' r1 r2=>pairTrees_nil_walk ?_))
 rw [RepV] at r1; obtain ⟨t,rfl⟩:=r1
 have hda:s.heap.objs.size ∉ as':=by
  obtain ⟨⟨t',rfl,ht⟩,_⟩:=st
  intro q
  rcases List.mem_append.mp q with q | q
  ·exact nn.2.1 q
  ·have:=ht _ q; rw [Heap.get?_push_size _ rfl] at this; cases this
 refine ⟨[(i,y)],⟨intKind_is _ _ _ _,rfl,trivial⟩,?_,fun h2' hd' hs'=>?_⟩
 ·exact hd0.at fun o e=>st.ext _ _ e (by simpa using nn.1) nn.2.1
 have hk:∀ (b:Addr) (o:Obj),b ≠ s.heap.objs.size→h'.get? b=some o→h2'.get? b=some o:=fun b o hb e=>by rw [hs'.2 b hb]; exact e
 have hni:∀ ob,h'.get? s.heap.objs.size=some ob→¬ Imm ob:=fun ob e hi=>by
  have:=st.ext _ _ (Heap.get?_push_size s.heap (o:={ cls:=.type "dict",data:=.dict #[] }) rfl) (by simpa using nn.1) nn.2.1
  rw [e] at this; cases this
  exact hi.2.1 _ _ rfl
 obtain ⟨K',R2⟩:=R'.pushAt (o:=.dI [(i,w)]) hk hda nn.2.2 hni fun kk=>⟨_,hd',by
  show F2 _ _ [(i,y)]
  exact .cons ⟨rfl,RepV.keep kk _ _ r2⟩ .nil,by simp,T.notSys G.sys⟩
 have st2:aD [env.locals] as s.heap (as' ++ [s.heap.objs.size]) h2':=by
  obtain ⟨⟨t',rfl,ht⟩,hx⟩:=st
  refine ⟨⟨t' ++ [s.heap.objs.size],by simp,fun a ha=>?_⟩,fun b o e hb hb'=>hk b o (fun q=>by subst q; rw [new_none] at e; cases e) (hx b o (az _ _ _ _ e) hb hb')⟩
  rcases List.mem_append.mp ha with q | q
  ·cases e:s.heap.get? a with
   | none=>rfl
   | some o=>have:=ht a q; rw [az _ _ _ _ e] at this; cases this
  ·simp at q; subst q; exact new_none _
 have F2':ay g env (as' ++ [s.heap.objs.size]) fr h2':=F'.alter K' hk (Ne.symm nn.1) T.cellNew (by intro a ha; rcases List.mem_append.mp ha with q | q; exact .inl q; simp at q; exact .inr q)
 refine hQ _ _ h2' _ st2 R2 F2' ?_
 rw [RepV]
 exact ⟨_,rfl,by rw [← R'.len]; simp⟩
end
end Mine
namespace Mine
open PySem PyProof.Rows PySem.W
section
variable {g:Cfg}{K:Frag}{c0:CE}{fa:Nat→Option Addr}{call:Nat→List V→Sto→RE}{env:Env}{A:Around}{X:Value→Shared→Prop}{s:Shared}{as:List Addr}{fr:Fra} {σ σ':Sto}{r n:Nat}
 {names:List (Str × NameKind)}{Q:Value→Shared→Prop}{v:V}
theorem rQ {pos:Pos}{c:CE}:∀ {es:List Expr}{es':List E},aV (al n c) es=some es'→(backTo pos (starEach es env)).any (·.1)=false
 | [],_,_=>rfl
 | e :: es,es',h=>by
  refine cn h fun a as' h1 h2 qx4=>?_; subst qx4
  rw [a5 h1]
  show (false || (backTo pos (starEach es env)).any (·.1))=false
  rw [rQ h2]; rfl
theorem aT {pos:Pos}{f:Value}{first:List Value} (IH:bE g c0 call r n) (hk:∀ h:Heap,(∀ (a:Addr) (o:Obj),g.b.get? a=some o→h.get? a=some o)→∃ k,(k=Keeper.frame ∨ k=Keeper.machine ∨ k=Keeper.boundFrame) ∧ Looks (model g.prog g.w) h (keeperOf f) k)
  {es:List Expr}{es':List E}{vs:List V} (h1:aV (al n (c0.sub names)) es=some es') (N:aq (c0.sub names) env A) (hA:b5 g A (r + 1)) (T:At g env as fr σ s) (ev:cg call es' fr σ=.ok vs σ')
  (hQ:∀ (xs:List Value) (as':List Addr) (h':Heap) (tk:Nat),aD [env.locals] as s.heap as' h'→Rel g as' σ' h'→ay g env as' fr h'→ah as' h' vs xs→wpAny (model g.prog g.w) A (PySem.call f (first ++ xs)) Q X { s with heap:=h',toks:=tk }) :
  wpAny (model g.prog g.w) A (callWith pos f first (backTo pos (starEach es env)) []) Q X s:=by
 refine callWith_of (P:=fun h=>∀ (a:Addr) (o:Obj),g.b.get? a=some o→h.get? a=some o) (by rw [rQ h1]; rfl) hk ?_
 have fin:∀ (xs:List Value) (as':List Addr) (h':Heap) (tk:Nat),aD [env.locals] as s.heap as' h'→Rel g as' σ' h'→ay g env as' fr h'→ah as' h' vs xs →
  (∀ (a:Addr) (o:Obj),g.b.get? a=some o→({ s with heap:=h',toks:=tk }:Shared).heap.get? a=some o) ∧ wpAny (model g.prog g.w) A (PySem.call f (first ++ (⟨xs,[]⟩:Args).pos) (⟨xs,[]⟩:Args).kw) Q X { s with heap:=h',toks:=tk } :=
  fun xs as' h' tk st R' F' r'=>⟨R'.base,hQ xs as' h' tk st R' F' r'⟩
 cases es with
 | nil =>
  rw [dN] at h1; cases h1; rw [cg] at ev; cases ev
  exact PySem.evalArgs_none (fin [] as s.heap s.toks (aD.refl _ _ _) T.R T.F (by rw [ah]))
 | cons e es =>
  have key:=gq (A:=A) (X:=X) (pos:=pos) IH (e :: es) es' s as σ σ' vs (fun xs s'=>(∀ (a:Addr) (o:Obj),g.b.get? a=some o→s'.heap.get? a=some o) ∧ wpAny (model g.prog g.w) A (PySem.call f (first ++ (⟨xs,[]⟩:Args).pos) (⟨xs,[]⟩:Args).kw) Q X s') h1 N hA T ev fin
  refine cn h1 fun a as' h3 h4 qx4=>?_; subst qx4
  rw [a5 h3] at key ⊢
  exact Calls.evalArgs_plain key
theorem dH (id:String):∀ h:Heap,∃ k,(k=Keeper.frame ∨ k=Keeper.machine ∨ k=Keeper.boundFrame) ∧ Looks (model g.prog g.w) h (keeperOf (.builtin id)) k:=fun h=>⟨.machine,.inr (.inl rfl),.now⟩
theorem kP (id:String):∀ h:Heap,∃ k,(k=Keeper.frame ∨ k=Keeper.machine ∨ k=Keeper.boundFrame) ∧ Looks (model g.prog g.w) h (keeperOf (.type id)) k:=fun h=>⟨.machine,.inr (.inl rfl),.now⟩
theorem uy (b:BN) (hb:bOk b=true):∀ h:Heap,∃ k,(k=Keeper.frame ∨ k=Keeper.machine ∨ k=Keeper.boundFrame) ∧ Looks (model g.prog g.w) h (keeperOf (nB b)) k:=by
 cases b <;> first | exact ft hb | exact dH _ | exact kP _
theorem iH {α:Type}{P:α→Bool}{x:Str}{b:α}:∀ {l:List (Str × α)},l.all (fun q=>P q.2)=true→l.lookup x=some b→P b=true
 | [],_,e=>nn e
 | q :: l,h,e=>by
  obtain ⟨h1,h2⟩:=af (show (P q.2 && l.all fun q=>P q.2)=true from h)
  obtain ⟨y,c⟩:=q
  rw [List.lookup_cons] at e
  cases hq:x == y <;> rw [hq] at e
  ·exact iH h2 e
  ·exact Option.some.inj e ▸ h1
theorem fk {f:Value} (G:bH g K c0 fa) (hk:keepIn K f=true):∀ h:Heap,(∀ (a:Addr) (o:Obj),g.b.get? a=some o→h.get? a=some o)→∃ k,(k=Keeper.frame ∨ k=Keeper.machine ∨ k=Keeper.boundFrame) ∧ Looks (model g.prog g.w) h (keeperOf f) k :=
 fun h hb=>keeps_K hk h (G.kin.keeps hb)
theorem zW {f:Str}{fp p:Pos}{b es es'} (G:bH g K c0 fa) (IH:bE g c0 call r n) (hg:(c0.sub names).glob f=true) (hd:(f == ("__debug__":Str))=false) (hb:bltName.lookup f=some b) (hne:bOk b=true) (hh:c0.hnd=false) (h1:aV (al n (c0.sub names)) es=some es') :
  aQ g c0 call r names (.Call (.Name f fp) es [] p) (.blt b es'):=fun env A X s as fr σ σ' v Q N hA T ev hQ=>by
 refine bS ev fun us τ e1 e2=>?_
 refine wpAny_Call_NameR (cx T N hg hd (G.blt f b hb) ?_)
 refine aT IH (fun h _=>?_) h1 N hA T e1 fun xs as' h' tk st R' F' r'=>?_
 ·exact uy b hne h
 ·exact zT G.sys (T.step (tk:=tk) R' F') (hA.none (G.hd hh)) r' hne e2 (aS hQ st R' F')
theorem b5.less {m k:Nat} (h:b5 g A (m + k)):b5 g A m:=by
 have h1:=h.units; have h2:=h.depth
 exact ⟨by lia,by lia,h.handled⟩
theorem ay.size {h:Heap} (F:ay g env as fr h):g.b.objs.size ≤ h.objs.size:=by
 obtain ⟨o,e⟩:=F.there
 exact Nat.le_trans F.above (Nat.le_of_lt (Heap.lt_size e))
theorem iJ {as':List Addr}{h':Heap}{tk:Nat} {τ:Sto}{val:Value}{as2:List Addr}{h2:Heap}{tk2:Nat} (hQ:aI g env as fr s v σ' Q) (st:aD [env.locals] as s.heap as' h') (R':Rel g as' τ h') (F':ay g env as' fr h')
  (st2:aD [] as' h' as2 h2) (R2:Rel g as2 σ' h2) (r2:RepV as2 h2 v val):Q val { s with heap:=h2,toks:=tk2 } :=
 (aS (tk:=tk) hQ st R' F').use (tk:=tk2) (s:={ s with heap:=h',toks:=tk }) ⟨F',R'⟩ st2 R2 r2
theorem zo {f:Str}{fp p:Pos}{k es es'} (G:bH g K c0 fa) (C:d5 g fa call r) (IH:bE g c0 call r n) (hg:(c0.sub names).glob f=true) (hd:(f == ("__debug__":Str))=false) (hb:c0.fns.lookup f=some k) (h1:aV (al n (c0.sub names)) es=some es') :
  aQ g c0 call r names (.Call (.Name f fp) es [] p) (.call k es'):=fun env A X s as fr σ σ' v Q N hA T ev hQ=>by
 refine bS ev fun us τ e1 e2=>?_
 obtain ⟨a,hv,hfa,hkp⟩:=G.fn f k hb
 refine wpAny_Call_NameR (cx T N hg hd hv ?_)
 refine aT IH (fk G hkp) h1 N hA T e1 fun xs as' h' tk st R' F' r'=>?_
 refine wpAny_call (C k a us τ σ' v hfa e2 A _ as' xs _ (hA.less (k:=1)) R' F'.size r' fun val as2 h2 tk2 st2 R2 r2=>?_)
 exact iJ (s:=s) (tk:=tk) (tk2:=tk2) hQ st R' F' st2 R2 r2
theorem pF {r:RE} (e:noX r=.ok v σ'):r=.ok v σ':=by
 cases r with
 | ok=>exact e
 | ex=>cases e
 | bad=>cases e
theorem wG {f:Str}{fp p:Pos}{k es es'} (G:bH g K c0 fa) (C:ia g K c0 call r) (IH:bE g c0 call r n) (hg:(c0.sub names).glob f=true) (hd:(f == ("__debug__":Str))=false) (hb:c0.tfns.lookup f=some k) (ht:c0.top=some names) (h1:aV (al n (c0.sub names)) es=some es') :
  aQ g c0 call r names (.Call (.Name f fp) es [] p) (.tcall k es'):=fun env A X s as fr σ σ' v Q N hA T ev hQ=>by
 refine bS ev fun us τ e1 e2=>?_
 obtain ⟨a,hv,hkp,hc⟩:=C f k hb
 obtain ⟨hfr,hf⟩:=N.top ht
 refine wpAny_Call_NameR (cx T N hg hd hv ?_)
 refine aT IH (fk G hkp) h1 N hA T e1 fun xs as' h' tk st R' F' r'=>?_
 exact wpAny_call (hc us τ σ' v (pF e2) A _ as' xs env fr _ (hA.less (k:=1)) hfr hf ⟨F',R'⟩ r' (aS (tk:=tk) hQ st R' F'))
set_option tactic.hygienic true in
theorem po {ds:List Nat}{u:V}{b:Bool}{f:Nat→Bool} (e:AF u ds f=some b):∃ D,u=.exc D ∧ D ∈ ds ∧ b=f D:=by
 cases u <;> first | exact nn e | skip
 rename_i D
 by_cases h:ds.contains D
 ·exact ⟨D,rfl,List.contains_iff_mem.mp h,(Option.some.inj ((if_pos h).symm.trans e)).symm⟩
 ·exact nn ((if_neg h).symm.trans e)
theorem vv {D:Addr}{cv val:Value}{b:Bool} (G:bH g K c0 fa) (hD:D ∈ c0.excs.map (·.2)) (e:kitOne K (.ref D) cv=some b) (T:At g env as fr σ s) (r:RepV as s.heap (.exc D) val) (hQ:aI g env as fr s (.bool b) σ Q) :
  wpAny (model g.prog g.w) A (PySem.call (.builtin "isinstance") [val,cv]) Q X s:=by
 rw [RepV] at r
 obtain ⟨a,o,vs,rfl,ho,hn,hc,hd⟩:=r
 refine kia_one (uD (ox:=o) (G.exc.k D hD)) (G.kin.keeps T.R.base) ⟨ho,hc,?_,?_⟩ e (by simp) fun tk=>hQ.bool T
 ·unfold notCls; rw [hd]
 ·rw [hn]; trivial
set_option tactic.hygienic true in
set_option backward.match.sparseCases false in
theorem ub {u:V}{b:Bool} (e:vc .inst u σ=some b):∃ l d,u=.ref l ∧ σ[l]?=some (.inst d) ∧ b=true:=by
 cases u <;> first | exact nn e | skip
 rename_i l
 have e:(match σ[l]? with | some (.inst _)=>some true | _=>none)=some b:=e
 split at e
 ·rename_i d hd; exact ⟨l,d,rfl,hd,(Option.some.inj e).symm⟩
 ·exact nn e
theorem yb {t:Str}{ty:Ty} (G:bH g K c0 fa) (ht:rj c0 t=some ty):∃ cv,GV g t cv ∧ ∀ {env:Env}{A:Around}{X:Value→Shared→Prop}{s:Shared}{as:List Addr}{fr:Fra} {σ:Sto}{u:V}{b:Bool}{Q:Value→Shared→Prop}{val:Value},At g env as fr σ s→vc ty u σ=some b→RepV as s.heap u val→aI g env as fr s (.bool b) σ Q→wpAny (model g.prog g.w) A (PySem.call (.builtin "isinstance") [val,cv]) Q X s:=by
 unfold rj at ht
 cases hl:tyName.lookup t with
 | some ty' =>
  rw [hl] at ht
  rw [← Option.some.inj ht]
  have this:∀ q ∈ tyName,∃ y,t9 q.2=some y:=by
   intro q hq
   simp only [tyName,List.mem_cons,List.not_mem_nil,or_false] at hq
   rcases hq with rfl | rfl | rfl | rfl <;> exact ⟨_,rfl⟩
  exact (this _ (ay.keep.lookup_mem hl)).elim fun y hy=>⟨y,G.typ t ty' y hl hy,fun T e r hQ=>An T r e hy hQ⟩
 | none =>
  rw [hl] at ht
  cases hc:c0.clss.lookup t with
  | some k =>
   rw [hc] at ht
   rw [← Option.some.inj ht]
   refine ⟨_,(G.cls t k hc).elim fun _ h=>h.1,fun T e r hQ=>?_⟩
   obtain ⟨l,d,rfl,hd,rfl⟩:=ub e
   refine cZ T.R r hd fun ad dx qx2 hl hdd ho'=>?_; subst qx2
   refine isi_call (K:=K) (t:=.ref g.C) (G.kin.keeps T.R.base) (fun M=>?_) (G.clsO t k hc) (by simp) (hQ.bool' T)
   obtain ⟨ob,hob,_⟩:=T.R.there (List.mem_of_getElem? hdd)
   exact InstAt.type (od:=some ob) (x:=ad) (ox:=instObj g.C dx) ⟨ho',rfl,rfl,hob⟩
  | none =>
   rw [hc] at ht
   cases hx:c0.excs.lookup t with
   | some C =>
    rw [hx] at ht
    rw [← Option.some.inj ht]
    refine ⟨_,G.exc.i t C hx,fun T e r hQ=>?_⟩
    obtain ⟨D,rfl,hD,rfl⟩:=po e
    exact vv G hD (G.exc.o C (List.mem_map.mpr ⟨_,av hx,rfl⟩) D hD) T r hQ
   | none =>
    rw [hx] at ht
    have h0:=aw ht
    rw [← Option.some.inj h0.2,show t=_ from eq_of_beq h0.1]
    refine ⟨_,G.exc.v,fun T e r hQ=>?_⟩
    obtain ⟨D,rfl,hD,rfl⟩:=po e
    exact vv G hD (G.exc.w D hD) T r hQ
theorem Ap {a:Expr}{t:Str}{x ty p fp tp} (G:bH g K c0 fa) (IH:bE g c0 call r n) (hg:(c0.sub names).glob "isinstance"=true) (hgt:(c0.sub names).glob t=true) (ht:rj c0 t=some ty) (hdt:(t == ("__debug__":Str))=false) (h1:al n (c0.sub names) a=some x) :
  aQ g c0 call r names (.Call (.Name "isinstance" fp) [a,.Name t tp] [] p) (.isi x ty):=fun env A X s as fr σ σ' v Q N hA T ev hQ=>by
 refine aA ev fun u τ e1 e2=>?_
 refine eA e2 fun b e3 qx2 qx3=>?_; subst qx2; subst qx3
 refine wpAny_Call_NameR (cx T N hg rfl G.isi ?_)
 refine Calls.callWith_builtin (by rw [a5 h1]; rfl) ?_
 rw [a5 h1]
 refine Calls.evalArgs_plain ?_
 have hrw:(false,eval a env) :: (backTo p (starEach [.Name t tp] env))=backTo p (starEach (a :: [.Name t tp]) env):=by rw [a5 h1]; rfl
 show wpAny _ A (spliced ((false,eval a env) :: (backTo p (starEach [.Name t tp] env)))) _ X s
 rw [hrw]
 refine wpAny_items_cons ?_ (a5 h1 _ _)
 refine IH names a x h1 env A X s as fr σ _ u _ N hA T e1 fun val as' h' tk st R' F' r'=>?_
 have T':=T.step (tk:=tk) R' F'
 exact (yb G ht).elim fun cv hi=>wpAny_items_cons (cx T' N hgt hdt hi.1 (wpAny_items_nil (hi.2 T' e3 r' (aS hQ st R' F'))))
set_option tactic.hygienic true in
theorem yV {a:Expr}{x p fp k p1 kp} (G:bH g K c0 fa) (IH:bE g c0 call r n) (hg:(c0.sub names).glob "max"=true) (hh:c0.hnd=false) (h1:al n (c0.sub names) a=some x) :
  aQ g c0 call r names (.Call (.Name "max" fp) [a] [⟨some "default",.Constant .none k p1,kp⟩] p) (.maxd x):=fun env A X s as fr σ σ' v Q N hA T ev hQ=>by
 refine aA ev fun u τ e1 e2=>?_
 show wpAny _ A (eval (.Name "max" fp) env >>= fun f=>callWith p f [] (backTo p (starEach [a] env)) (backToKw p (keywordEach [⟨some "default",.Constant .none k p1,kp⟩] env))) Q X s
 refine wpAny_bind (cx T N hg rfl (G.blt "max" .max rfl) ?_)
 refine callWith_kw ?_ (by rw [a5 h1]; rfl) (by rw [a5 h1]; rfl) rfl rfl
 refine wpAny_items_cons ?_ (a5 h1 _ _)
 refine IH names a x h1 env A X s as fr σ τ u _ N hA T e1 fun val as' h' tk st R' F' r'=>wpAny_items_nil ?_
 have T':=T.step (tk:=tk) R' F'
 have fin:∀ is l,u=.ref l→(getL τ l).bind aE=some is→(v=match jl is with | some i=>V.int i | none=>V.none)→σ'=τ →
   wpAny (model g.prog g.w) A (PySem.call (.builtin "max") [val] [(Str.ofString "default",.none)]) Q X { s with heap:=h',toks:=tk }:=fun is l hu hi hv hs=>by
  subst hu; subst hs
  exact zl T' (hA.none (G.hd hh)) r' hi hv (aS hQ st R' F')
 have fin':∀ is l,u=.ref l→(getL τ l).bind aE=some is→(v=match jl is with | some i=>V.int i | none=>V.none)→σ'=τ →
   wpAny (model g.prog g.w) A (evalAll ((backToKw p (keywordEach [⟨some "default",.Constant .none k p1,kp⟩] env)).map (·.2)))
   (fun kvs s₂=>wpAny (model g.prog g.w) A (PySem.call (.builtin "max") [val] (((backToKw p (keywordEach [⟨some "default",.Constant .none k p1,kp⟩] env)).filterMap (·.1)).zip kvs)) Q X s₂) X { s with heap:=h',toks:=tk }:=fun is l hu hi hv hs=>by
  have:=fin is l hu hi hv hs
  show wpAny _ A (do let v ← (do let v ← eval (.Constant .none k p1) env; standAt p; pure v); return v :: (← holding [v] (evalAll []))) _ X _
  refine wpAny_bind (wpAny_bind (Constant_none (wpAny_bind (wpAny_standAt (wpAny_pure (wpAny_bind (wpAny_holding (wpAny_pure (wpAny_pure ?_)))))))))
  exact this
 split at e2
 case h_2=>cases e2
 rename_i l
 split at e2
 ·rename_i hi
  cases e2
  exact fin' [] l rfl hi rfl rfl
 ·rename_i is hne hi
  obtain ⟨e3,rfl⟩:=gh e2
  obtain ⟨i,e4,rfl⟩:=Option.map_eq_some_iff.mp e3
  exact fin' is l rfl hi (by rw [e4]) rfl
 ·cases e2
end
end Mine
namespace Mine
open PySem PyProof.Rows PySem.W
theorem sk (is:List Int):(firstMet (fun i=>is.getD i 0) is.length)=jy is:=by
 unfold firstMet jy
 have:(List.range is.length).map (fun i=>is.getD i 0)=is:=by
  apply List.ext_getElem
  ·simp
  ·intro i h1 h2; simp at h1; simp [h1]
 rw [this]; rfl
set_option tactic.hygienic true in
theorem ow {u v:V} {τ σ':Sto} (e:iy .setLen [u] τ=.ok v σ'):∃ l is,u=.ref l ∧ (getL τ l).bind aE=some is ∧ is.length ≤ 1000 ∧ v=.int (jy is).length ∧ σ'=τ:=by
 cases u <;> try (simp only [iy,yN,zf] at e; cases e)
 rename_i l
 simp only [iy,yN,zf] at e
 split at e
 ·rename_i is hi
  split at e
  ·cases e; exact ⟨l,is,rfl,hi,by assumption,rfl,rfl⟩
  ·cases e
 ·cases e
set_option tactic.hygienic true in
theorem tG {u v:V} {τ σ':Sto} (e:iy .revl [u] τ=.ok v σ'):∃ l xs,u=.ref l ∧ getL τ l=some xs ∧ cy xs.reverse τ=.ok v σ':=by
 cases u <;> try (simp only [iy,yN,zf] at e; cases e)
 rename_i l
 simp only [iy,yN,zf] at e
 split at e
 ·rename_i is hi
  exact ⟨l,is,rfl,hi,e⟩
 ·cases e
section
variable {g:Cfg}{K:Frag}{c0:CE}{fa:Nat→Option Addr}{call:Nat→List V→Sto→RE}{env:Env}{A:Around}{X:Value→Shared→Prop}{s:Shared}{as:List Addr}{fr:Fra} {σ σ':Sto}{r n:Nat}
 {names:List (Str × NameKind)}{Q:Value→Shared→Prop}{v:V}
theorem As {f:Str}{fp p:Pos}{es:List Expr}{es':List E}{fv:Value}{us:List V} (IH:bE g c0 call r n) (hg:(c0.sub names).glob f=true) (hd:(f == ("__debug__":Str))=false) (hv:GV g f fv) (hk:∃ id,fv=.builtin id ∨ fv=.type id)
  (h1:aV (al n (c0.sub names)) es=some es') (N:aq (c0.sub names) env A) (hA:b5 g A (r + 1)) (T:At g env as fr σ s) (ev:cg call es' fr σ=.ok us σ')
  (hQ:∀ (ys:List Value) (as':List Addr) (h':Heap) (tk:Nat),aD [env.locals] as s.heap as' h'→Rel g as' σ' h'→ay g env as' fr h'→ah as' h' us ys→wpAny (model g.prog g.w) A (PySem.call fv ys) Q X { s with heap:=h',toks:=tk }) :
  wpAny (model g.prog g.w) A (eval (.Call (.Name f fp) es [] p) env) Q X s:=by
 refine wpAny_Call_NameR (cx T N hg hd hv ?_)
 refine aT IH (fun h _=>?_) h1 N hA T (vs:=us) (σ':=σ') ev hQ
 obtain ⟨id,q | q⟩:=hk <;> rw [q]
 ·exact dH id h
 ·exact kP id h
theorem oW {f:Str}{fp p:Pos}{a:Expr}{x:E}{fv:Value}{u:V} (IH:bE g c0 call r n) (hg:(c0.sub names).glob f=true) (hd:(f == ("__debug__":Str))=false) (hv:GV g f fv) (hk:∃ id,fv=.builtin id ∨ fv=.type id)
  (h1:al n (c0.sub names) a=some x) (N:aq (c0.sub names) env A) (hA:b5 g A (r + 1)) (T:At g env as fr σ s) (ev:evE call x fr σ=.ok u σ')
  (hQ:∀ (y:Value) (as':List Addr) (h':Heap) (tk:Nat),aD [env.locals] as s.heap as' h'→Rel g as' σ' h'→ay g env as' fr h'→RepV as' h' u y→wpAny (model g.prog g.w) A (PySem.call fv [y]) Q X { s with heap:=h',toks:=tk }) :
  wpAny (model g.prog g.w) A (eval (.Call (.Name f fp) [a] [] p) env) Q X s:=by
 refine As (es':=[x]) (us:=[u]) (σ':=σ') IH hg hd hv hk (by rw [jT,h1]; rfl) N hA T (by rw [cg]; dsimp only; rw [ev]; simp [cg,RE.binds_ok,REs.binds_ok]) fun xs as' h' tk st R' F' r'=>?_
 rw [ah] at r'
 obtain ⟨y,ys,rfl,r1,r2⟩:=r'
 rw [ah] at r2; subst r2
 exact hQ y as' h' tk st R' F' r1
theorem kt {p:Pos}{f:Expr}{x:Expr}{kw:List Keyword}{pos:Pos}{Q:List Value→Shared→Prop} (h:wpAny (model g.prog g.w) A (eval (.Call f [x] kw pos) env) (fun v s'=>Q [v] s') X s):wpAny (model g.prog g.w) A (spliced (backTo p (starEach [.Call f [x] kw pos] env))) Q X s :=
 wpAny_items_cons (wpAny_mono h (fun v s' h'=>wpAny_items_nil h') fun _ _ h=>h)
theorem tE {a:Expr}{x p fp p1 fp1} (G:bH g K c0 fa) (IH:bE g c0 call r n) (hg:(c0.sub names).glob "len"=true) (hg1:(c0.sub names).glob "set"=true) (hh:c0.hnd=false) (h1:al n (c0.sub names) a=some x) :
  aQ g c0 call r names (.Call (.Name "len" fp) [.Call (.Name "set" fp1) [a] [] p1] [] p) (.blt .setLen [x]):=fun env A X s as fr σ σ' v Q N hA T ev hQ=>by
 refine bS ev fun us τ e1 e2=>?_
 rw [cg] at e1
 refine jG e1 fun u τ1 e3 e4=>?_
 rw [cg] at e4
 cases e4
 refine wpAny_Call_NameR (cx T N hg rfl (G.blt "len" .len rfl) ?_)
 show wpAny _ A (callWith p (.builtin "len") [] _ []) Q X s
 refine Calls.callWith_builtin rfl (Calls.evalArgs_plain ?_)
 refine kt (p:=p) (oW IH hg1 rfl G.set ⟨_,.inr rfl⟩ h1 N hA T e3 fun y as' h' tk st R' F' r'=>?_)
 have T':=T.step (tk:=tk) R' F'
 obtain ⟨l,is,rfl,hi,hlen,rfl,rfl⟩:=ow e2
 obtain ⟨vs,h2,h3⟩:=Option.bind_eq_some_iff.mp hi
 refine aB (s:={ s with heap:=h',toks:=tk }) R' r' h2 fun ad items m qx hd ho hr hz hsz=>?_; subst qx
 have hints:=bA h3 hr
 have hl:=hints.length
 rw [Array.length_toList] at hl
 refine call_set_list (hA.none (G.hd hh)) ho.isList hints (by show _ < 4096; lia) fun h2' tk2 hS hk=>?_
 rw [hl,sk] at hS
 obtain ⟨o,es,ep,t,q1,q2,q3,q4,q5,q6,q7,q8⟩:=hS
 refine call_len_set q1 q2 q3 q7 ?_ ?_
 ·have:es.size < 4096:=q6
  have h63:(2:Int) ^ 63=9223372036854775808:=by decide +kernel
  lia
 ·rw [q8]
  have kk:∀ (b:Addr) (o:Obj),h'.get? b=some o→h2'.get? b=some o:=fun b o e=>hk b o (Heap.lt_size e) e
  exact (aS (tk:=tk) hQ st R' F').use (tk:=tk2 + 1 + 1) T' (aD.of_ext kk) (R'.ext kk) (by rw [RepV]; exact ⟨_,rfl⟩)
theorem zh {a:Expr}{x p fp p1 fp1} (G:bH g K c0 fa) (IH:bE g c0 call r n) (hg:(c0.sub names).glob "list"=true) (hg1:(c0.sub names).glob "reversed"=true) (hh:c0.hnd=false) (h1:al n (c0.sub names) a=some x) :
  aQ g c0 call r names (.Call (.Name "list" fp) [.Call (.Name "reversed" fp1) [a] [] p1] [] p) (.blt .revl [x]):=fun env A X s as fr σ σ' v Q N hA T ev hQ=>by
 refine bS ev fun us τ e1 e2=>?_
 rw [cg] at e1
 refine jG e1 fun u τ1 e3 e4=>?_
 rw [cg] at e4
 cases e4
 refine wpAny_Call_NameR (cx T N hg rfl (G.blt "list" .list rfl) ?_)
 show wpAny _ A (callWith p (.type "list") [] _ []) Q X s
 refine PySem.callWith_type rfl (Calls.evalArgs_plain ?_)
 refine kt (p:=p) (oW IH hg1 rfl G.rev ⟨_,.inr rfl⟩ h1 N hA T e3 fun y as' h' tk st R' F' r'=>?_)
 have T':=T.step (tk:=tk) R' F'
 obtain ⟨l,xs,rfl,h2,h3⟩:=tG e2
 refine aB (s:={ s with heap:=h',toks:=tk }) R' r' h2 fun ad items m qx hd ho hr hz hsz=>?_; subst qx
 refine call_reversed_list ho.isList ?_
 have hne:ad ≠ h'.objs.size:=Nat.ne_of_lt (Heap.lt_size ho)
 refine i6 (hA.none (G.hd hh)) ⟨_,Heap.get?_push_size _ rfl,rfl,rfl⟩ (ho.isList.push _) (by rw [hsz]; exact hz) fun h2' tk2 acc c' hk hacc he=>?_
 have kk:∀ (b:Addr) (o:Obj),h'.get? b=some o→h2'.get? b=some o:=fun b o e=>hk b o (Nat.ne_of_lt (Heap.lt_size e)) (az _ _ _ _ e)
 have hnn:h'.get? (h'.push (revObj ad ((items.size:Int) - 1))).objs.size=none:=by
  cases e:h'.get? (h'.push (revObj ad ((items.size:Int) - 1))).objs.size with
  | none=>rfl
  | some o=>have:=Heap.lt_size e; rw [Heap.size_push] at this; exact absurd (Nat.lt_of_succ_lt this) (Nat.lt_irrefl _)
 refine (aS (tk:=tk) hQ st R' F').new (tk:=tk2) (xs:=xs.reverse) (items:=acc) T' kk hnn ⟨c',hacc⟩ ?_ h3
 rw [he]
 exact ah.f2.mpr (ah.f2.mp hr).reverse
end
end Mine
namespace Mine
open PySem PyProof.Rows PySem.W
section
variable {g:Cfg}{K:Frag}{c0:CE}{fa:Nat→Option Addr}{call:Nat→List V→Sto→RE}{env:Env}{A:Around}{X:Value→Shared→Prop}{s:Shared}{as:List Addr}{fr:Fra} {σ σ':Sto}{r n:Nat}
 {names:List (Str × NameKind)}{Q:Value→Shared→Prop}{v:V}
theorem At.pushN {h':Heap}{a:Addr}{o:AO} (T:At g env as fr σ s) {as1:List Addr} {σ1:Sto} (x:aD [env.locals] as s.heap as1 h') (R':Rel g as1 σ1 h') (F':ay g env as1 fr h') (hn:s.heap.get? a=none) (ha:a ∉ as1)
  (hb:g.b.get? a=none) (hL:a ≠ env.locals) (hc:∀ y c,env.cells.lookup y=some c→c ≠ a) (hi:∀ ob,h'.get? a=some ob→¬ Imm ob) (ho:oU g (as1 ++ [a]) h' o a) :
  aD [env.locals] as s.heap (as1 ++ [a]) h' ∧ Rel g (as1 ++ [a]) (σ1 ++ [o]) h' ∧ ay g env (as1 ++ [a]) fr h':=by
 obtain ⟨K',R2⟩:=R'.pushAt (h':=h') (o:=o) (a:=a) (fun _ _ _ e=>e) ha hb hi (fun _=>ho)
 refine ⟨?_,R2,F'.alter (d:=a) K' (fun _ _ _ e=>e) (Ne.symm hL) hc (by intro b hb'; rcases List.mem_append.mp hb' with q | q; exact .inl q; simp at q; exact .inr q)⟩
 obtain ⟨⟨t,rfl,ht⟩,hx⟩:=x
 refine ⟨⟨t ++ [a],by simp,fun b hb'=>?_⟩,hx⟩
 rcases List.mem_append.mp hb' with q | q
 ·exact ht b q
 ·simp at q; subst q; exact hn
theorem mX {f:Str}{fp p:Pos}{k es es'}{us:List V} {τ:Sto} (G:bH g K c0 fa) (IH:bE g c0 call r n) (hg:(c0.sub names).glob f=true) (hd:(f == ("__debug__":Str))=false) (hb:c0.clss.lookup f=some k) (h1:aV (al n (c0.sub names)) es=some es')
  (N:aq (c0.sub names) env A) (hA:b5 g A (r + 1)) (T:At g env as fr σ s) (e1:cg call es' fr σ=.ok us τ)
  (H:∀ (fI:Addr) (xs:List Value) (as':List Addr) (h':Heap) (tk:Nat) (dx x:Addr) (h2:Heap),fa k=some fI→aD [env.locals] as s.heap as' h'→Rel g as' τ h'→aD [env.locals] as' h' (as' ++ [dx] ++ [x]) h2→Rel g (as' ++ [dx] ++ [x]) (τ ++ [.att []] ++ [.inst τ.length]) h2→ay g env (as' ++ [dx] ++ [x]) fr h2 →
   ah (as' ++ [dx] ++ [x]) h2 (.ref (τ.length + 1) :: us) (.ref x :: xs)→b5 g (A.under (.builtin "type.__call__" ⟨.ref g.C :: xs,[]⟩)) r →
   codeAny (model g.prog g.w) (A.under (.builtin "type.__call__" ⟨.ref g.C :: xs,[]⟩)) (.call (.ref fI) ⟨.ref x :: xs,[]⟩) (InitBack x fun r s'=>match r with | .ok (.ret v)=>Q v s' | .ok _=>False | .error e=>X e s') { s with heap:=h2,toks:=tk }) :
  wpAny (model g.prog g.w) A (eval (.Call (.Name f fp) es [] p) env) Q X s:=by
 obtain ⟨fI,hv,hfa,hkp,hmk,hin,hfn⟩:=G.cls f k hb
 refine wpAny_Call_NameR (cx T N hg hd hv ?_)
 refine aT IH (fk G hkp) h1 N hA T e1 fun xs as' h' tk st R' F' r'=>?_
 have T':At g env as' fr τ { s with heap:=h',toks:=tk }:=⟨F',R'⟩
 obtain ⟨m,hF,_⟩:=F'.fr R'
 refine call_cls (L:=env.locals) (h₀:=g.b) (news:=newsOf g.b env.locals h') hF G.kin (eP _ _ _) hmk hin hfn fun x dx h2 F2 N2 hlt hlt2=>?_
 obtain ⟨K1,st1,R1,F1⟩:=T'.byNews hF.ns F2 N2 (fun p hp=>.tail _ (.tail _ hp))
 have nx:=N2 _ (.head _)
 have nd:=N2 _ (.tail _ (.head _))
 have fresh:∀ b,dx ≤ b→b ≠ env.locals→g.b.get? b=none→h'.get? b=none:=fun b hb hL hg'=>by
  cases e:h'.get? b with
  | none=>rfl
  | some o=>exact absurd (Nat.lt_of_lt_of_le (hlt (b,o) (cw.mpr ⟨e,hL,hg'⟩)) hb) (Nat.lt_irrefl _)
 have fd:=fresh dx (Nat.le_refl _) nd.2.1 nd.2.2
 have fx:=fresh x (Nat.le_of_lt hlt2) nx.2.1 nx.2.2
 have notin:∀ b,h'.get? b=none→b ∉ as':=fun b hb q=>by obtain ⟨o,e,_⟩:=R'.there q; rw [hb] at e; cases e
 have cellne:∀ b,h'.get? b=none→∀ y c,env.cells.lookup y=some c→c ≠ b:=fun b hb y c hc q=>by
  subst q; obtain ⟨cv,o,e,_⟩:=(F'.offc _ _ hc).2.2; rw [hb] at e; cases e
 obtain ⟨st2,R2,F2'⟩:=T'.pushN (a:=dx) (o:=.att []) st1 R1 F1 fd (notin _ fd) nd.2.2 nd.2.1 (cellne _ fd) (fun ob e hi=>by rw [nd.1] at e; cases e; exact hi.2.1 _ _ rfl) ⟨[],0,nd.1,.nil,by simp⟩
 have hlen:as'.length=τ.length:=R'.len
 obtain ⟨st3,R3,F3⟩:=T'.pushN (a:=x) (o:=.inst τ.length) st2 R2 F2' fx (by
   intro q; rcases List.mem_append.mp q with q | q
   ·exact notin _ fx q
   ·simp at q; rw [q] at hlt2; exact Nat.lt_irrefl _ hlt2) nx.2.2 nx.2.1 (cellne _ fx) (fun ob e hi=>by rw [nx.1] at e; cases e; rcases hi.1 with q | q <;> simp at q) ⟨dx,by rw [← hlen]; simp,nx.1⟩
 have hroom:b5 g (A.under (.builtin "type.__call__" ⟨.ref g.C :: xs,[]⟩)) r:=⟨by have:=hA.units; rw [units_under_make]; lia,by have:=hA.depth; rw [depth_under_make]; lia,hA.handled⟩
 have K3:bX as' h' (as' ++ [dx] ++ [x]) h2:=R'.keep st3 F'.notImm
 refine H fI xs as' h' tk dx x h2 hfa st R' st3 R3 F3 ?_ hroom
 rw [ah]
 exact ⟨_,_,rfl,by rw [RepV]; exact ⟨x,rfl,by rw [← hlen]; simp⟩,ah.keep K3 _ _ r'⟩
set_option tactic.hygienic true in
theorem BY {f:Str}{fp p:Pos}{k es es'} (G:bH g K c0 fa) (C:d5 g fa call r) (IH:bE g c0 call r n) (hg:(c0.sub names).glob f=true) (hd:(f == ("__debug__":Str))=false) (hb:c0.clss.lookup f=some k) (h1:aV (al n (c0.sub names)) es=some es') :
  aQ g c0 call r names (.Call (.Name f fp) es [] p) (.mk k es'):=fun env A X s as fr σ σ' v Q N hA T ev hQ=>by
 refine bS ev fun us τ e1 e2=>?_
 have e2':∃ σ2,call k (.ref (τ.length + 1) :: us) (τ ++ [.att []] ++ [.inst τ.length])=.ok .none σ2 ∧ v=.ref (τ.length + 1) ∧ σ'=σ2:=by
  rw [List.append_assoc]
  split at e2
  ·rename_i σ2 hq; cases e2; exact ⟨_,hq,rfl,rfl⟩
  ·cases e2
  ·cases e2
  ·cases e2
 obtain ⟨_,e3,rfl,rfl⟩:=e2'
 refine mX G IH hg hd hb h1 N hA T e1 fun fI xs as' h' tk dx x h2 hfa st R' st3 R3 F3 href hroom=>?_
 refine C k fI _ _ σ' .none hfa e3 _ _ (as' ++ [dx] ++ [x]) (.ref x :: xs) _ hroom R3 F3.size href fun val as4 h4 tk4 st4 R4 r4=>?_
 rw [RepV] at r4; subst r4
 refine ⟨rfl,?_⟩
 have K4:=R3.keep0 st4
 have F4:=F3.keep K4 st4 (by simp)
 have st34:=ao st3 (st4.grow (own':=[env.locals]) (by simp)) R4 F4
 rw [ah] at href
 obtain ⟨_,_,hq,href,_⟩:=href
 cases hq
 exact hQ (.ref x) as4 h4 tk4 (ao st st34 R4 F4) R4 F4 (RepV.keep K4 _ _ href)
theorem gv {o:Expr}{x:Str}{apos pos:Pos}{args:List Expr}{args':List E}{c:CE} (e1:attributeBase o x env (eval o env)=eval o env) (hl:args.length ≤ 8) (hp:(apos.endLine == pos.line)=true) (h1:aV (al n c) args=some args') :
  eval (.Call (.Attribute o x apos) args [] pos) env=(do
   let ov ← eval o env
   standAt apos.atName
   let (f,first) ← holding [ov] (getMethod ov x (do return (← importBound o env).getD true))
   callWith pos f first (backTo pos (starEach args env)) []):=by
 have e2:methodCallForm (args.length + ([]:List Keyword).length) (backTo pos (starEach args env)) (backToKw pos (keywordEach [] env))=true:=by
  show methodCallForm (args.length + 0) (backTo pos (starEach args env)) []=true
  unfold methodCallForm
  have:=rQ (env:=env) (pos:=pos) h1
  have ha:(backTo pos (starEach args env)).all (fun x=>!x.1)=true:=by
   rw [List.all_eq_true]; intro y hy
   rw [List.any_eq_false] at this
   simpa using this y hy
  rw [ha]
  have:args.length + 0 + 0 < 30:=by lia
  show (true && true && decide (args.length + 0 + 0 < 30))=true
  rw [decide_eq_true this]; rfl
 show (attributeBase o x env (eval o env) >>= fun ov=>standAt apos.atName >>= fun _=>methodCall o x apos pos env ov (args.length + ([]:List Keyword).length) (backTo pos (starEach args env)) (backToKw pos (keywordEach [] env)))=_
 rw [e1]
 unfold methodCall
 rw [e2]
 unfold methodCallPos calleeOf
 rw [hp]
 rfl
theorem xv {o:Expr}{x:Str}{apos p:Pos}{a es es' m} (IH:bE g c0 call r n) (hb:dr o=true) (hl:es.length ≤ 8) (hp:(apos.endLine == p.line)=true)
  (h0:al n (c0.sub names) o=some a) (h1:aV (al n (c0.sub names)) es=some es') (hml:dX.lookup x=some m) :
  aQ g c0 call r names (.Call (.Attribute o x apos) es [] p) (.meth a m es'):=fun env A X s as fr σ σ' v Q N hA T ev hQ=>by
 refine MethodCall_ (pl:=do return (← importBound o env).getD true) ?_ (gv (gC hb) hl hp h1)
 refine aA ev fun u τ e1 e2=>?_
 obtain ⟨l,xs,rfl,hx,e2⟩:=jr e2
 refine bS e2 fun us τ' e3 e4=>?_
 obtain ⟨l',xs',hll,hx',e5⟩:=jr e4
 cases hll
 refine IH names o a h0 env A X s as fr σ τ _ _ N hA T e1 fun val as' h' tk st R' F' r'=>?_
 have T':At g env as' fr τ { s with heap:=h',toks:=tk }:=⟨F',R'⟩
 obtain ⟨hslot,hty⟩:=sm hml
 cases g8 R' r' hx with
 | mk ad items mm hd ho hr hz hsz =>
  refine getMethod_list_of hslot hty ho.isList ⟨_,ho,rfl⟩ ?_
  refine aT IH (fun h _=>dH _ h) h1 N hA T' e3 fun xs as2 h2 tk2 st2 R2 F2' r2=>?_
  have T2:At g env as2 fr τ' { s with heap:=h2,toks:=tk2 }:=⟨F2',R2⟩
  exact yI (iH (P:=mOk) (l:=dX) rfl hml) T2 (g8 R2 (RepV.keep (T'.keep st2) _ _ r') hx') r2 e5 (aS (s:=s) (tk:=tk2) hQ (ao st st2 R2 F2') R2 F2')
theorem kB {o:Option AO}{es:List (Int × V)} (h:t7 o=some es):o=some (.dI es):=by
 cases o with
 | none=>exact nn h
 | some o=>cases o <;> first | exact nn h | exact congrArg (fun x=>some (AO.dI x)) (Option.some.inj h)
theorem pL {v:V}{es:List (Int × V)} (h:n7 v σ=some es):∃ l,v=.ref l ∧ σ[l]?=some (.dI es):=by
 cases v <;> first | exact nn h | exact ⟨_,rfl,kB h⟩
theorem sw {es:List (Int × V)}{x y v:V} (h:xC es x y=some v):∃ i,x=.int i ∧ (es.lookup i).getD y=v:=by
 cases x <;> first | exact nn h | exact ⟨_,rfl,Option.some.inj h⟩
theorem zc {o:Expr}{apos p:Pos}{a k d:E}{es:List Expr} (IH:bE g c0 call r n) (hb:dr o=true) (hl:es.length ≤ 8) (hp:(apos.endLine == p.line)=true)
  (h0:al n (c0.sub names) o=some a) (h1:aV (al n (c0.sub names)) es=some [k,d]):aQ g c0 call r names (.Call (.Attribute o "get" apos) es [] p) (.dget a k d):=fun env A X s as fr σ σ' v Q N hA T ev hQ=>by
 refine MethodCall_ (pl:=do return (← importBound o env).getD true) ?_ (gv (gC hb) hl hp h1)
 refine aA ev fun u τ e1 e2=>eB e2 (fun _ q=>nomatch q) fun ks hk e2=>?_
 refine aA e2 fun x τ1 ek e2=>aA e2 fun y τ2 ed e2=>?_
 obtain ⟨e5,rfl⟩:=gh e2
 refine bM e5 fun ks2 hk2 e5=>(pL hk).elim fun l q=>?_
 obtain ⟨qu,hd⟩:=q
 rw [qu] at e1 hk2
 have hd2:=kB (show t7 σ'[l]?=some ks2 from hk2)
 refine IH names o a h0 env A X s as fr σ τ _ _ N hA T e1 fun val as' h' tk st R' F' r'=>?_
 have T':At g env as' fr τ { s with heap:=h',toks:=tk }:=⟨F',R'⟩
 rw [RepV] at r'
 obtain ⟨ad,rfl,had⟩:=r'
 obtain ⟨kvs,hkv,_⟩:=R'.obj _ _ _ had hd
 refine getMethod_builtin hkv.typeIs PySem.F.plainAttrs_dict PySem.F.slot_dict_get PySem.F.type_dict_get hkv.mapOf.noDict ?_
 refine aT IH (fun h _=>dH _ h) h1 N hA T' (vs:=[x,y]) (σ':=σ') (by rw [cg]; dsimp only; rw [ek,RE.binds_ok,cg]; dsimp only; rw [ed]; simp [cg,RE.binds_ok,REs.binds_ok]) fun xs as2 h2 tk2 st2 R2 F2' r2=>?_
 have T2:At g env as2 fr σ' { s with heap:=h2,toks:=tk2 }:=⟨F2',R2⟩
 obtain ⟨xk,xd,rfl,rk,rd⟩:=ll r2
 obtain ⟨kvs2,hkv2,hf,hz,hns⟩:=R2.obj _ _ _ (st2.get had) hd2
 obtain ⟨i,qx,ev5⟩:=sw e5
 rw [qx,RepV] at rk
 obtain ⟨t,rfl⟩:=rk
 refine call_meetsIn PySem.F.slot_dict_get hkv2.typeIs PySem.F.entry_dict_get (PySem.F.args_dict_get_3 _ _ _) (meets_dict_get_default _ ad (intKind_is g.prog g.w i t) hns xd) ⟨_,hkv2.mapOf,?_⟩
 have hq:aI g env as2 fr { s with heap:=h2,toks:=tk2 } v σ' Q:=aS (s:=s) (tk:=tk2) hQ (ao st st2 R2 F2') R2 F2'
 refine hq.same T2 ?_
 cases ql:ks2.lookup i with
 | some w =>
  obtain ⟨z,hz1,hz2⟩:=(pY hf).2 w ql
  rw [ql] at ev5
  rw [show valueAt kvs2 i=some z from hz1,← show w=v from ev5]
  exact hz2
 | none =>
  rw [ql] at ev5
  have hn:(valueAt kvs2 i).isSome=false:=by
   rw [(pY hf).1,List.any_eq_false]
   intro e he q
   have hb:=List.lookup_eq_none_iff.mp ql e he
   rw [eq_of_beq q,bne_self_eq_false] at hb
   exact ft hb
  rw [show valueAt kvs2 i=none from Option.not_isSome_iff_eq_none.mp (by rw [hn]; exact Bool.false_ne_true),← show y=v from ev5]
  exact rd
theorem rz {xs:List V}{v:V} (e:yu xs σ=.ok v σ'):∃ x,xs=[.str x] ∧ v=.str x ∧ σ'=σ:=by
 rcases xs with _ | ⟨a,_ | ⟨b,xs⟩⟩
 ·exact au e
 ·cases a <;> first | exact au e | skip
  obtain ⟨rfl,rfl⟩:=bC e
  exact ⟨_,rfl,rfl,rfl⟩
 ·cases a <;> exact au e
theorem xZ {sp:Str}{k:Nat}{p1 apos p:Pos}{e:Expr}{a:E} (IH:bE g c0 call r n) (hp:(apos.endLine == p.line)=true) (h1:al n (c0.sub names) e=some a) :
  aQ g c0 call r names (.Call (.Attribute (.Constant (.str sp) k p1) "join" apos) [e] [] p) (.join sp a):=fun env A X s as fr σ σ' v Q N hA T ev hQ=>by
 refine aA ev fun u τ e1 e2=>?_
 obtain ⟨l,xs,rfl,hx,e2⟩:=jr e2
 obtain ⟨x,rfl,rfl,rfl⟩:=rz e2
 have hm:aV (al n (c0.sub names)) [e]=some [a]:=by rw [jT,h1]; rfl
 have hes:cg call [a] fr σ=.ok [.ref l] σ':=by show (evE call a fr σ).binds _=_; rw [e1]; rfl
 refine MethodCall_ (pl:=do return (← importBound (.Constant (.str sp) k p1) env).getD true) ?_ (gv rfl (by decide:1 ≤ 8) hp hm)
 refine wpAny_Constant_str (GM.join ?_)
 refine aT (s:={ s with toks:=s.toks + 1 }) (first:=[.str sp s.toks]) IH (fun h _=>dH _ h) hm N hA ⟨T.F,T.R⟩ hes fun ys as' h' tk st R' F' r'=>?_
 rw [ah] at r'
 obtain ⟨y,ys,rfl,r1,r2⟩:=r'
 rw [ah] at r2; subst r2
 cases g8 R' r1 hx with
 | mk ad items mm hd ho hr hz hsz =>
  rw [ah] at hr
  obtain ⟨z,zs,hi,r3,r4⟩:=hr
  rw [ah] at r4; subst r4
  rw [RepV] at r3
  obtain ⟨t,rfl⟩:=r3
  have hi':items=#[.str x t]:=by apply Array.ext'; simpa using hi
  subst hi'
  refine wpAny_call_entry F.slot_str_join (typeIs_str _ _ _) F.entry_str_join ?_ (F.args_str_join_2 _ _)
  obtain ⟨other,hj⟩:=join_tree sp s.toks ad
  show wpAny _ _ (Builtin.«str.join» ⟨[.str sp s.toks,.ref ad],[]⟩) _ _ _
  rw [hj]
  refine wpAny_bind (wpAny_typeOf (show ({ s with heap:=h',toks:=tk }:Shared).TypeIs (.ref ad) "list" from ⟨_,ho,rfl⟩) ?_)
  rw [if_pos (by decide)]
  refine wpAny_bind (wpAny_seqItems ho rfl ?_)
  show wpAny _ _ (do rule "str.join.same-object"; ret (Value.str x t)) _ _ _
  refine wpAny_bind (wpAny_rule (wpAny_pure ?_))
  exact ⟨_,rfl,hQ (.str x t) as' h' tk st R' F' (by rw [RepV]; exact ⟨t,rfl⟩)⟩
theorem wO {o:Expr}{x:Str}{apos p:Pos}{a es es' f} (G:bH g K c0 fa) (C:d5 g fa call r) (IH:bE g c0 call r n) (hb:dr o=true) (hl:es.length ≤ 8) (hp:(apos.endLine == p.line)=true)
  (h0:al n (c0.sub names) o=some a) (h1:aV (al n (c0.sub names)) es=some es') (hf:c0.mths.lookup x=some f) :
  aQ g c0 call r names (.Call (.Attribute o x apos) es [] p) (.umeth a f es'):=fun env A X s as fr σ σ' v Q N hA T ev hQ=>by
 refine MethodCall_ (pl:=do return (← importBound o env).getD true) ?_ (gv (gC hb) hl hp h1)
 refine aA ev fun u τ e1 e2=>?_
 obtain ⟨l,d,ents,rfl,hd,he,e2⟩:=sv e2
 refine bS e2 fun us τ' e3 e4=>?_
 refine IH names o a h0 env A X s as fr σ τ _ _ N hA T e1 fun val as' h' tk st R' F' r'=>?_
 have T':At g env as' fr τ { s with heap:=h',toks:=tk }:=⟨F',R'⟩
 obtain ⟨fad,hfa,hpg,hfi,hfn,hkp,hna⟩:=G.mth x f hf
 refine cZ (s:={ s with heap:=h',toks:=tk }) R' r' hd fun ad dx qx2 h2 h3 h4=>?_; subst qx2
 obtain ⟨es0,nn,h5,h6,_⟩:=i8 (s:={ s with heap:=h',toks:=tk }) R' h3 he
 obtain ⟨m,hF,_⟩:=F'.fr R'
 refine method_inst (L:=env.locals) (h₀:=g.b) (m:=m) (es:=es0) (n:=nn) (ox:=instObj g.C dx) hF G.kin ⟨h4,rfl,rfl,h5⟩ hpg hfi hfn (jU hna h6) ?_
 refine aT (first:=[.ref ad]) IH (fk G hkp) h1 N hA T' e3 fun xs as2 h2' tk2 st2 R2 F2' r2=>?_
 have r3:=RepV.keep (T'.keep st2) _ _ r'
 refine wpAny_call (C f fad _ τ' σ' v hfa e4 A _ as2 (.ref ad :: xs) _ (hA.less (k:=1)) R2 F2'.size (by rw [ah]; exact ⟨_,_,rfl,r3,r2⟩) fun val as3 h3' tk3 st3 R3 r4=>?_)
 exact iJ (s:=s) (tk:=tk2) (tk2:=tk3) hQ (ao st st2 R2 F2') R2 F2' st3 R3 r4
end
end Mine
namespace Mine
open PySem PyProof.Rows PySem.W
noncomputable def nb (src:Src) (I:Addr) (i:Nat) (as:List Addr) (h:Heap):Prop:=match src with
 | .live l=>∃ a,as[l]?=some a ∧ h.IsListIter I a i
 | .tup vs=>∃ a items n,h.get? a=some { cls:=.type "tuple",data:=.seq items n } ∧ a ∉ as ∧ ah as h vs items.toList ∧ h.IsTupleIter I a i
 | .rng lo hi=>IsRangeIter h I (lo + (i:Int) * 1) (((hi - lo).toNat:Int) - (i:Nat)) 1
theorem nb.there {src:Src}{I:Addr}{i:Nat}{as:List Addr}{h:Heap} (it:nb src I i as h):∃ o,h.get? I=some o ∧ ¬ Imm o:=by
 cases src with
 | live l =>
  obtain ⟨a,_,o,e,hc,_⟩:=it
  exact ⟨o,e,fun q=>by rcases q.1 with q | q <;> rw [hc] at q <;> simp at q⟩
 | tup vs =>
  obtain ⟨a,_,_,_,_,_,o,e,hc,_⟩:=it
  exact ⟨o,e,fun q=>by rcases q.1 with q | q <;> rw [hc] at q <;> simp at q⟩
 | rng lo hi=>exact ⟨_,it,fun q=>by rcases q.1 with q | q <;> simp at q⟩
theorem nb.keep {src:Src}{I:Addr}{i:Nat}{as as':List Addr}{h h':Heap} (it:nb src I i as h) (K:bX as h as' h') (hI:∀ o,h.get? I=some o→h'.get? I=some o):nb src I i as' h':=by
 cases src with
 | live l =>
  obtain ⟨a,e1,o,e2,e3⟩:=it
  exact ⟨a,K.pre _ _ e1,o,hI _ e2,e3⟩
 | tup vs =>
  obtain ⟨a,items,n,e1,e0,e2,o,e3,e4⟩:=it
  exact ⟨a,items,n,K.imm _ _ e1 dF (fun q=>absurd q e0),K.off e1 dF e0,ah.keep K _ _ e2,o,hI _ e3,e4⟩
 | rng lo hi=>exact hI _ it
theorem Rel.other {g:Cfg}{as:List Addr} {σ:Sto}{h h':Heap}{I:Addr} (R:Rel g as σ h) (k:∀ (b:Addr) (o:Obj),b ≠ I→h.get? b=some o→h'.get? b=some o) (hI:I ∉ as) (hb:g.b.get? I=none) (hi:∀ o,h.get? I=some o→¬ Imm o) :
  bX as h as h' ∧ Rel g as σ h':=by
 have K:bX as h as h':=.same fun b o e im _=>k b o (fun q=>by subst q; exact hi o e im) e
 exact ⟨K,⟨fun b o e=>k b o (fun q=>by subst q; rw [hb] at e; cases e) (R.base b o e),R.len,R.nd,R.new,fun i b o h1 h2=>(R.obj i b o h1 h2).keep K fun ob e=>k b ob (fun q=>hI (q ▸ List.mem_of_getElem? h1)) e,R.hnd.keep K⟩⟩
section
variable {g:Cfg}{env:Env}{A:Around}{X:Value→Shared→Prop}{s:Shared}{as:List Addr}{fr:Fra} {σ σ':Sto}
theorem o9 {src:Src}{I:Addr}{i:Nat}{v:V}{Q:Option Value→Shared→Prop} (R:Rel g as σ s.heap) (it:nb src I i as s.heap) (hI:I ∉ as) (hb:g.b.get? I=none) (e:bh σ i src=some (some v))
  (hQ:∀ val h' tk,(∀ (b:Addr) (o:Obj),b ≠ I→s.heap.get? b=some o→h'.get? b=some o)→bX as s.heap as h'→Rel g as σ h'→nb src I (i + 1) as h'→RepV as h' v val→Q (some val) { s with heap:=h',toks:=tk }) :
  wpAny (model g.prog g.w) A (pyNext (.ref I)) Q X s:=by
 have hth:=it.there
 have hni:∀ o,s.heap.get? I=some o→¬ Imm o:=fun o e=>by obtain ⟨o',e',n⟩:=hth; rw [e] at e'; cases e'; exact n
 cases src with
 | live l =>
  obtain ⟨a,e1,e2⟩:=it
  obtain ⟨xs,e3,e4⟩:=Option.map_eq_some_iff.mp e
  have r0:RepV as s.heap (.ref l) (.ref a):=by rw [RepV]; exact ⟨a,rfl,e1⟩
  refine aB R r0 e3 fun a' items n q hd ho hr hz hsz=>?_
  cases q
  obtain ⟨val,h1,h2⟩:=(ah.f2.mp hr).get e4
  refine wpAny_pyNext_list_item e2 ho.isList (by simpa using h1) fun h' hit hs=>?_
  have k:∀ (b:Addr) (o:Obj),b ≠ I→s.heap.get? b=some o→h'.get? b=some o:=fun b o hb e=>by rw [hs.2 b hb]; exact e
  obtain ⟨K,R'⟩:=R.other k hI hb hni
  exact hQ val h' s.toks k K R' ⟨a,e1,hit⟩ (RepV.keep K _ _ h2)
 | tup vs =>
  obtain ⟨a,items,n,e1,e0,e2,e3⟩:=it
  simp only [bh,Option.some.injEq] at e
  obtain ⟨val,h1,h2⟩:=(ah.f2.mp e2).get e
  refine wpAny_pyNext_tuple_item e3 ⟨_,e1,rfl,n,rfl⟩ (by simpa using h1) fun h' hit hs=>?_
  have k:∀ (b:Addr) (o:Obj),b ≠ I→s.heap.get? b=some o→h'.get? b=some o:=fun b o hb e=>by rw [hs.2 b hb]; exact e
  obtain ⟨K,R'⟩:=R.other k hI hb hni
  exact hQ val h' s.toks k K R' ⟨a,items,n,K.imm _ _ e1 dF (fun q=>absurd q e0),e0,ah.keep K _ _ e2,hit⟩ (RepV.keep K _ _ h2)
 | rng lo hi =>
  simp only [bh,Option.some.injEq,fP] at e
  have hlt:i < (hi - lo).toNat:=by
   have:=(List.getElem?_eq_some_iff.mp e).1; simpa using this
  have hv:v=.int (lo + (i:Int)):=by
   rw [List.getElem?_map,List.getElem?_range hlt] at e
   simpa using e.symm
  subst hv
  refine wpAny_pyNext_range_item it (by lia) fun h' hit hs=>?_
  have k:∀ (b:Addr) (o:Obj),b ≠ I→s.heap.get? b=some o→h'.get? b=some o:=fun b o hb e=>by rw [hs.2 b hb]; exact e
  obtain ⟨K,R'⟩:=R.other k hI hb hni
  have e1:lo + (i:Int) * 1 + 1=lo + ((i + 1:Nat):Int) * 1:=by lia
  have e2:((hi - lo).toNat:Int) - (i:Nat) - 1=((hi - lo).toNat:Int) - ((i + 1:Nat):Int):=by lia
  rw [e1,e2] at hit
  exact hQ _ h' _ k K R' hit (by rw [RepV]; exact ⟨_,by rw [Int.mul_one]⟩)
theorem pO {src:Src}{I:Addr}{i:Nat}{Q:Option Value→Shared→Prop} (hA:A.handled=g.hd.map .ref) (R:Rel g as σ s.heap) (it:nb src I i as s.heap) (hI:I ∉ as) (hb:g.b.get? I=none) (hsm:∀ lo hi,src=.rng lo hi→i ≤ (hi - lo).toNat)
  (hst':∀ vs,src=.tup vs→i ≤ vs.length) (e:bh σ i src=some none)
  (hQ:∀ h' tk,(∀ (b:Addr) (o:Obj),b ≠ I→s.heap.get? b=some o→h'.get? b=some o)→bX as s.heap as h'→Rel g as σ h'→Q none { s with heap:=h',toks:=tk }) :
  wpAny (model g.prog g.w) A (pyNext (.ref I)) Q X s:=by
 have hth:=it.there
 have hni:∀ o,s.heap.get? I=some o→¬ Imm o:=fun o e=>by obtain ⟨o',e',n⟩:=hth; rw [e] at e'; cases e'; exact n
 have fin:∀ h' tk,(∀ (b:Addr) (o:Obj),b ≠ I→s.heap.get? b=some o→h'.get? b=some o)→Q none { s with heap:=h',toks:=tk }:=fun h' tk k=>by
  obtain ⟨K,R'⟩:=R.other k hI hb hni
  exact hQ h' tk k K R'
 cases src with
 | live l =>
  obtain ⟨a,e1,e2⟩:=it
  obtain ⟨xs,e3,e4⟩:=Option.map_eq_some_iff.mp e
  have r0:RepV as s.heap (.ref l) (.ref a):=by rw [RepV]; exact ⟨a,rfl,e1⟩
  refine aB R r0 e3 fun a' items n q hd ho hr hz hsz=>?_
  cases q
  refine tA (jc hA R) e2 ho.isList ?_ fun h' hs=>fin h' s.toks hs
  rw [Array.getElem?_eq_none_iff,hsz]
  exact List.getElem?_eq_none_iff.mp e4
 | tup vs =>
  obtain ⟨a,items,n,e1,e0,e2,e3⟩:=it
  simp only [bh,Option.some.injEq] at e
  have h3:vs.length=items.size:=(ah.f2.mp e2).length
  refine jY (jc hA R) e3 ⟨_,e1,rfl,n,rfl⟩ ?_ fun h' hs=>fin h' s.toks hs
  rw [Array.getElem?_eq_none_iff,← h3]
  exact List.getElem?_eq_none_iff.mp e
 | rng lo hi =>
  simp only [bh,Option.some.injEq,fP] at e
  have h1:=List.getElem?_eq_none_iff.mp e
  rw [List.length_map,List.length_range] at h1
  have h2:=hsm lo hi rfl
  have:i=(hi - lo).toNat:=by lia
  subst this
  exact ph (jc hA R) it (by lia) fun h' hs=>fin h' s.toks hs
theorem lV {v:V}{x:Value}{src:Src}{Q:Value→Shared→Prop} (T:At g env as fr σ s) (r:RepV as s.heap v x) (hs:fU v=some src) (hl:∀ l,src=.live l→∃ xs,getL σ l=some xs)
  (hQ:∀ o,At g env as fr σ { s with heap:=s.heap.push o }→nb src s.heap.objs.size 0 as (s.heap.push o)→Q (.ref s.heap.objs.size) { s with heap:=s.heap.push o }):wpAny (model g.prog g.w) A (pyIter x) Q X s:=by
 cases v with
 | ref l =>
  cases hs
  obtain ⟨xs,e⟩:=hl l rfl
  refine aB T.R r e fun a items n qx hd ho hr hz hsz=>?_; subst qx
  exact wpAny_pyIter_list ho.isList (hQ _ (T.push _) ⟨a,hd,⟨_,Heap.get?_push_size _ rfl,rfl,rfl⟩⟩)
 | tup vs =>
  cases hs
  have r':=r
  rw [RepV] at r
  obtain ⟨a,items,n,rfl,ho,hz,hr⟩:=r
  refine wpAny_pyIter_tuple ⟨_,ho,rfl,n,rfl⟩ (hQ _ (T.push _) ⟨a,items,n,az _ _ _ _ ho,hz.2,ah.keep (T.R.keep0 (bG as s.heap _ [])) _ _ hr,⟨_,Heap.get?_push_size _ rfl,rfl,rfl⟩⟩)
 | rng lo hi =>
  cases hs
  rw [RepV] at r
  obtain ⟨a,t,u,v,rfl,ho,hb⟩:=r
  obtain ⟨h1,h2⟩:=jz hb
  refine wpAny_pyIter_range ho h2 (hQ _ (T.push _) ?_)
  show IsRangeIter _ _ (lo + ((0:Nat):Int) * 1) (((hi - lo).toNat:Int) - ((0:Nat):Int)) 1
  rw [h1]
  have e1:lo + ((0:Nat):Int) * 1=lo:=by simp
  have e2:(((hi - lo).toNat:Int) - ((0:Nat):Int))=((hi - lo).toNat:Int):=by simp
  rw [e1,e2]
  exact Heap.get?_push_size _ rfl
 | _=>cases hs
end
end Mine
namespace Mine
open PySem PyProof.Rows PySem.W
set_option tactic.hygienic true in
theorem fW {c:CE}{x:Str}{i:Nat} (e:c.locW? x=some i):∃ k,c.names[i]?=some (x,k) ∧ (k=.local ∨ k=.cell):=by
 unfold CE.locW? at e
 split at e
 ·rename_i h; obtain ⟨j,h1,h2⟩:=bx h; rw [h1] at e; cases e; exact ⟨_,h2,.inl rfl⟩
 ·rename_i h; obtain ⟨j,h1,h2⟩:=bx h; rw [h1] at e; cases e; exact ⟨_,h2,.inr rfl⟩
 ·cases e
theorem gU {l:List (Str × NameKind)} (nd:(l.map (·.1)).Nodup) {i j:Nat}{x:Str}{k k':NameKind} (e:l[i]?=some (x,k)) (e':l[j]?=some (x,k')):i=j:=by
 obtain ⟨h1,h2⟩:=List.getElem?_eq_some_iff.mp e
 obtain ⟨h3,h4⟩:=List.getElem?_eq_some_iff.mp e'
 have e1:(l.map (·.1))[i]'(by simpa using h1)=x:=by simp [h2]
 have e2:(l.map (·.1))[j]'(by simpa using h3)=x:=by simp [h4]
 exact (List.getElem_inj nd).mp (e1.trans e2.symm)
section
variable {g:Cfg}{env:Env}{A:Around}{X:Value→Shared→Prop}{s:Shared}{as:List Addr}{fr:Fra} {σ σ':Sto}{c:CE}{own:List Addr}
noncomputable def zm (c:CE) (env:Env) (own:List Addr):Prop:=env.locals ∈ own ∧ (∀ (i:Nat) (x:Str),c.names[i]?=some (x,.cell)→∀ a,env.cells.lookup x=some a→a ∈ own) ∧ ∀ a ∈ own,a ∈ ownOf env
theorem eT (c:CE) (env:Env):zm c env (ownOf env):=⟨.head _,fun _ _ _ _ e=>gH e,fun _ h=>h⟩
theorem sB {c:CE}{env:Env} (h:∀ x ∈ c.names,x.2 ≠ .cell):zm c env [env.locals]:=⟨.head _,fun i x e=>absurd rfl (h (x,.cell) (List.mem_of_getElem? e)),fun a ha=>by simp at ha; subst ha; exact .head _⟩
noncomputable def iB (g:Cfg) (env:Env) (own:List Addr) (as:List Addr) (σ:Sto) (s:Shared) (fr:Fra) (Q:Unit→Shared→Prop):Prop :=
 ∀ (as':List Addr) (h':Heap) (tk:Nat),aD own as s.heap as' h'→bX as s.heap as' h'→Rel g as' σ h'→ay g env as' fr h'→Q () { s with heap:=h',toks:=tk }
theorem gF {x:Str}{i:Nat}{v:V}{val:Value}{Q:Unit→Shared→Prop} (T:At g env as fr σ s) (N:aq c env A) (O:zm c env own) (hl:c.locW? x=some i) (r:RepV as s.heap v val)
  (hQ:iB g env own as σ s (fr.set i (some v)) Q):wpAny (model g.prog g.w) A (storeName env x val) Q X s:=by
 obtain ⟨k,h1,h2⟩:=fW hl
 obtain ⟨k',h3,h4⟩:=N.get h1
 have hk:k'=k:=by
  rcases h4 with h4 | h4
  ·exact h4.symm
  ·rcases h2 with q | q <;> rw [q] at h4 <;> cases h4.1
 subst hk
 have hx:env.kindOf x=some k':=bi T.F.nd h3
 have hi:i < fr.length:=by rw [T.F.len]; exact (List.getElem?_eq_some_iff.mp h3).1
 rcases h2 with rfl | rfl
 ·obtain ⟨m,hm,hv⟩:=T.F.ns
  refine wpAny_storeName_local hx hm (fun h' hns hs=>?_) (hp:=by rw [T.F.kind]; rfl)
  have k:∀ (b:Addr) (o:Obj),b ≠ env.locals→s.heap.get? b=some o→h'.get? b=some o:=fun b o hb e=>by rw [hs.2 b hb]; exact e
  have x0:aD [env.locals] as s.heap as h':=⟨⟨[],by simp,by simp⟩,fun b o e hb _=>k b o (by simpa using hb) e⟩
  have K:=T.R.keep x0 T.F.notImm
  have hLb:g.b.get? env.locals=none:=by
   cases e:g.b.get? env.locals with
   | none=>rfl
   | some o=>exact absurd (Heap.lt_size e) (Nat.not_lt.mpr T.F.above)
  obtain ⟨_,R'⟩:=T.R.other k T.F.off hLb (fun o e=>T.F.notImm _ (.head _) o e)
  refine hQ as h' _ (x0.grow (by intro a ha; simp at ha; subst ha; exact O.1)) K R' ?_
  refine ⟨T.F.kind,T.F.above,T.F.glob,T.F.blt,by rw [List.length_set]; exact T.F.len,T.F.nd,⟨_,hns,fun j y w e1 e2=>?_⟩,fun j y kk e1 e2=>?_,T.F.off,fun y c' hc'=>⟨(T.F.offc _ _ hc').1,(T.F.offc _ _ hc').2.1,?_⟩,T.F.apart,T.F.newc⟩
  ·by_cases hy:y=x
   ·subst hy
    have:=gU T.F.nd h3 e1; subst this
    rw [List.getElem?_set_self hi] at e2
    simp only [Option.some.injEq] at e2; subst e2
    exact ⟨val,by simp,RepV.keep K _ _ r⟩
   ·have hij:i ≠ j:=fun q=>by subst q; rw [h3] at e1; cases e1; exact hy rfl
    rw [List.getElem?_set_ne hij] at e2
    obtain ⟨val',q1,q2⟩:=hv j y w e1 e2
    exact ⟨val',by simp [hy,q1],RepV.keep K _ _ q2⟩
  ·obtain ⟨cc,cv,q1,⟨o,q2,q2'⟩,q3⟩:=T.F.cells j y kk e1 e2
   have hij:i ≠ j:=fun q=>by subst q; rw [h3] at e1; cases e1; rcases e2 with e2 | e2 <;> cases e2
   refine ⟨cc,cv,q1,⟨o,k _ _ (T.F.offc _ _ q1).2.1 q2,q2'⟩,fun w e=>?_⟩
   rw [List.getElem?_set_ne hij] at e
   obtain ⟨val',q4,q5⟩:=q3 w e
   exact ⟨val',q4,RepV.keep K _ _ q5⟩
  ·obtain ⟨cv,o,e,e'⟩:=(T.F.offc _ _ hc').2.2
   exact ⟨cv,o,k _ _ (T.F.offc _ _ hc').2.1 e,e'⟩
 ·obtain ⟨cc,cv,q1,q2,q3⟩:=T.F.cells i x _ h3 (.inl rfl)
  refine wpAny_storeName_cell T.F.kind hx q1 q2 fun h' hc' hs=>?_
  have k:∀ (b:Addr) (o:Obj),b ≠ cc→s.heap.get? b=some o→h'.get? b=some o:=fun b o hb e=>by rw [hs.2 b hb]; exact e
  have hni:∀ o,s.heap.get? cc=some o→¬ Imm o:=fun o e hi=>by
   obtain ⟨o',e',hd⟩:=q2
   rw [e] at e'; cases e'
   exact hi.2.2 _ hd
  have hoff:=T.F.offc _ _ q1
  have hcb:g.b.get? cc=none:=T.F.newc _ _ q1
  obtain ⟨K,R'⟩:=T.R.other k hoff.1 hcb hni
  have hmem:cc ∈ own:=O.2.1 _ _ h1 _ q1
  refine hQ as h' s.toks ⟨⟨[],by simp,by simp⟩,fun b o e hb _=>k b o (fun q=>hb (q ▸ hmem)) e⟩ K R' ?_
  obtain ⟨m,hm,hv⟩:=T.F.ns
  refine ⟨T.F.kind,T.F.above,T.F.glob,T.F.blt,by rw [List.length_set]; exact T.F.len,T.F.nd,⟨m,hm.at' fun o e=>k _ o (Ne.symm hoff.2.1) e,fun j y w e1 e2=>?_⟩,fun j y kk e1 e2=>?_,T.F.off,fun y c' hc'=>⟨(T.F.offc _ _ hc').1,(T.F.offc _ _ hc').2.1,?_⟩,T.F.apart,T.F.newc⟩
  ·have hij:i ≠ j:=fun q=>by subst q; rw [h3] at e1; cases e1
   rw [List.getElem?_set_ne hij] at e2
   obtain ⟨val',p1,p2⟩:=hv j y w e1 e2
   exact ⟨val',p1,RepV.keep K _ _ p2⟩
  ·by_cases hy:y=x
   ·subst hy
    have:=gU T.F.nd h3 e1; subst this
    refine ⟨cc,some val,q1,hc',fun w e=>?_⟩
    rw [List.getElem?_set_self hi] at e
    simp only [Option.some.injEq] at e; subst e
    exact ⟨val,rfl,RepV.keep K _ _ r⟩
   ·have hij:i ≠ j:=fun q=>by subst q; rw [h3] at e1; cases e1; exact hy rfl
    obtain ⟨c2,cv2,p1,⟨o,p2,p2'⟩,p3⟩:=T.F.cells j y kk e1 e2
    have hcc:c2 ≠ cc:=fun q=>by subst q; exact hy (T.F.apart _ _ _ p1 q1)
    refine ⟨c2,cv2,p1,⟨o,k _ _ hcc p2,p2'⟩,fun w e=>?_⟩
    rw [List.getElem?_set_ne hij] at e
    obtain ⟨val',p4,p5⟩:=p3 w e
    exact ⟨val',p4,RepV.keep K _ _ p5⟩
  ·obtain ⟨cv2,o,e,e'⟩:=(T.F.offc _ _ hc').2.2
   by_cases hcc:c'=cc
   ·subst hcc; exact ⟨_,hc'⟩
   ·exact ⟨cv2,o,k _ _ hcc e,e'⟩
theorem iB.of {fr':Fra} {σ1:Sto}{as':List Addr}{h':Heap}{tk:Nat}{Q:Unit→Shared→Prop} (O:∀ a ∈ own,a ∈ ownOf env) (hQ:iB g env own as σ' s fr' Q) (x:aD own as s.heap as' h') (K:bX as s.heap as' h') :
  iB g env own as' σ' { s with heap:=h',toks:=tk } fr' Q:=fun as2 h2 tk2 x2 K2 R2 F2' =>
 hQ as2 h2 tk2 (x.trans x2 R2.nd fun a ha=>F2'.offs a (O a ha)) (K.trans K2) R2 F2'
theorem n6 {elts:List Expr}{is:List Nat} (h:bQ c elts=some is):(assignEach elts env).length=is.length ∧ (assignEach elts env).findIdx? (·.1)=none:=by
 induction elts generalizing is with
 | nil=>rw [bQ] at h; cases h; exact ⟨rfl,rfl⟩
 | cons e r ih =>
  refine bV (show fQ List.cons ((d8 e).bind c.locW?) (bQ c r)=some is from h) fun i js h1 h2 qx4=>?_; subst qx4
  refine bM h1 fun x h3 h4=>?_
  obtain ⟨p,rfl⟩:=bY h3
  obtain ⟨a,b⟩:=ih h2
  refine ⟨congrArg Nat.succ a,?_⟩
  show List.findIdx? _ ((false,assign (.Name x p) env) :: assignEach r env)=none
  rw [List.findIdx?_cons,b]; rfl
theorem jN (N:aq c env A) (O:zm c env own) {Q:Unit→Shared→Prop}:∀ (elts:List Expr) (is:List Nat) (vs:List V) (vals:List Value) (s:Shared) (fr:Fra) (as:List Addr),bQ c elts=some is→At g env as fr σ s→ah as s.heap vs vals→vs.length=is.length →
  iB g env own as σ s ((is.zip vs).foldl (fun f p=>f.set p.1 (some p.2)) fr) Q→wpAny (model g.prog g.w) A (assignInOrder ((assignEach elts env).map (·.2)) vals) Q X s
 | [],is,vs,vals,s,fr,as,h,T,r,hl,hQ=>by
  rw [bQ] at h; cases h
  cases vs with
  | nil =>
   rw [ah] at r; subst r
   exact wpAny_pure (hQ as s.heap s.toks (aD.refl _ _ _) (.same fun _ _ e _ _=>e) T.R T.F)
  | cons a b=>simp at hl
 | e :: elts,is,vs,vals,s,fr,as,h,T,r,hl,hQ=>by
  refine bV (show fQ List.cons ((d8 e).bind c.locW?) (bQ c elts)=some is from h) fun i js h1' h2 qx4=>?_; subst qx4
  refine bM h1' fun x h3 h1=>?_
  obtain ⟨p,rfl⟩:=bY h3
  cases vs with
  | nil=>exact nomatch hl
  | cons v vs =>
   rw [ah] at r
   obtain ⟨y,ys,rfl,r1,r2⟩:=r
   show wpAny _ A (do holding ys (assign (.Name x p) env y); assignInOrder ((assignEach elts env).map (·.2)) ys) Q X s
   refine wpAny_bind (wpAny_holding (wpAny_assign_Name (gF T N O h1 r1 fun as' h' tk st K R' F'=>?_)))
   exact jN N O elts js vs ys _ _ as' h2 ⟨F',R'⟩ (ah.keep K _ _ r2) (Nat.succ.inj hl) (iB.of (σ1:=σ) O.2.2 hQ st K)
set_option tactic.hygienic true in
theorem jp {target:Expr}{tg:List Nat}{one:Bool}{v:V}{val:Value}{fr':Fra}{Q:Unit→Shared→Prop} (hA:A.handled=g.hd.map .ref) (T:At g env as fr σ s) (N:aq c env A) (O:zm c env own) (ht:tgt c target=some (tg,one)) (r:RepV as s.heap v val)
  (e:bF tg one v fr=some fr') (hQ:iB g env own as σ s fr' Q):wpAny (model g.prog g.w) A (assign target env val) Q X s:=by
 unfold tgt at ht
 cases hn:d8 target with
 | some x =>
  rw [hn] at ht
  refine b6 ht fun i h1 h2=>?_
  obtain ⟨p,rfl⟩:=bY hn
  cases h2
  have e':(if i < fr.length then some (fr.set i (some v)) else none)=some fr':=e
  split at e'
  ·cases e'
   exact wpAny_assign_Name (gF T N O h1 r hQ)
  ·exact nn e'
 | none =>
  rw [hn] at ht
  cases hv:vw target <;> rw [hv] at ht <;> first | exact nn ht | skip
  rename_i ts
  refine b6 ht fun is h1 h2=>?_
  obtain ⟨kk,tp,rfl⟩:=bL hv
  cases h2
  cases v <;> first | exact nn e | skip
  rename_i vs
  have e':(if vs.length=tg.length ∧ tg.all (· < fr.length) then some ((tg.zip vs).foldl (fun f p=>f.set p.1 (some p.2)) fr) else none)=some fr':=e
  split at e'
  ·rename_i hc
   cases e'
   rw [RepV] at r
   obtain ⟨a,items,n,rfl,ho,hz,hr⟩:=r
   obtain ⟨q1,q2⟩:=n6 (env:=env) h1
   have hl:=(ah.f2.mp hr).length
   refine jO (jc hA T.R) ⟨_,ho,rfl,n,rfl⟩ (by rw [q1,← hc.1]; exact hl) q2 fun h' k=>?_
   have x0:aD [] as s.heap as h':=aD.of_ext k
   have K:=T.R.keep0 x0
   exact jN N O _ _ vs items.toList { s with heap:=h' } fr as h1 ⟨T.frame x0,T.R.ext k⟩ (ah.keep K _ _ hr) hc.1 (iB.of (tk:=s.toks) (σ1:=σ) O.2.2 hQ (x0.grow (fun _ h=>nomatch h)) K)
  ·exact nn e'
theorem Bx {src:Src}{I:Addr}{i:Nat}{target:Expr}{val:Value}{Q:Unit→Shared→Prop} (it:nb src I i as s.heap) (h:Q () s):wpAny (model g.prog g.w) A (letOwnedTupleGo target (.ref I) val) Q X s:=by
 have key:∃ o n vs,s.heap.get? I=some o ∧ o.cls=.type n ∧ o.data=.fields vs ∧ (["enumerate","zip","dict_itemiterator","dict_reverseitemiterator","odict_iterator","itertools.zip_longest","itertools.pairwise"].contains n)=false:=by
  cases src with
  | live l=>obtain ⟨a,_,o,e,hc,hd⟩:=it; exact ⟨o,_,_,e,hc,hd,by decide⟩
  | tup vs=>obtain ⟨a,_,_,_,_,_,o,e,hc,hd⟩:=it; exact ⟨o,_,_,e,hc,hd,by decide⟩
  | rng lo hi=>exact ⟨_,_,_,it,rfl,rfl,by decide⟩
 obtain ⟨o,n,vs,h1,h2,h3,h4⟩:=key
 have main:wpAny (model g.prog g.w) A (do
  let (.ref r,.ref a):=(Value.ref I,val) | return
  let o ← load r
  match o.cls,o.data with
  | .type n,.fields vs =>
   if ["enumerate","zip","dict_itemiterator","dict_reverseitemiterator","odict_iterator","itertools.zip_longest","itertools.pairwise"].contains n && vs[0]? == some (rawInt a) then
    rule "for.unpacks-the-owned-tuple"
    updateField r 0 .none
  | _,_=>pure ():Sem Unit) Q X s:=by
  cases val with
  | ref a =>
   refine wpAny_bind (wpAny_load h1 ?_)
   rw [h2,h3]
   simp only [h4,Bool.false_and,Bool.false_eq_true,if_false]
   exact wpAny_pure h
  | _=>exact wpAny_pure h
 cases target <;> first | exact wpAny_pure h | exact main
end
section
variable {prog:Program}{w:World}{A:Around}{R:Result→Shared→Prop}{s:Shared}
theorem nM {target it body orelse env} (I:Nat→Shared→Prop)
  (turn:∀ n s,I n s→wpAny (model prog w) A (pyNext it) (fun r s₁=>match r with
   | none=>wpAny (model prog w) A (execs orelse env) (fun f s₃=>R (.ok f) s₃) (notedBy (model prog w) A env fun e s'=>R (.error e) s') s₁
   | some v=>wpAny (model prog w) A (letOwnedTupleGo target it v) (fun _ s₁=>wpAny (model prog w) A (assign target env v) (fun _ s₂=>wpAny (model prog w) A (execs body env) (fun f s₃=>match f with
     | .next | .cont=>∃ m,m < n ∧ I m s₃
     | .brk=>R (.ok .next) s₃
     | .ret v=>R (.ok (.ret v)) s₃) (notedBy (model prog w) A env fun e s'=>R (.error e) s') s₂) (notedBy (model prog w) A env fun e s'=>R (.error e) s') s₁) (notedBy (model prog w) A env fun e s'=>R (.error e) s') s₁) (notedBy (model prog w) A env fun e s'=>R (.error e) s') s)
  (n:Nat) (h:I n s):codeAny (model prog w) A (.forLoop target it body orelse env) R s:=by
 refine codeAny_loop' rfl I (fun n s hI=>?_) n h
 show wpAny _ _ ((forTurn target it body orelse env).onRaise (fun x=>do noteFrame x env; theTreesLotGoes x)) _ _ s
 refine wpAny_noted ?_
 simp only [forTurn]
 refine wpAny_bind (wpAny_standAt (wpAny_bind (wpAny_onRaise (wpAny_mono (turn n s hI) (fun r s₁ h₁=>?_) fun _ _ h'=>wpAny_standAt h'))))
 cases r with
 | none=>exact wpAny_pure (.inr ⟨rfl,codeAny_block h₁⟩)
 | some v =>
  refine wpAny_bind (wpAny_mono h₁ (fun _ s₁ h₁=>?_) fun _ _ h'=>h')
  refine wpAny_bind (wpAny_mono h₁ (fun _ s₂ h₂=>wpAny_bind (wpAny_mono h₂ (fun f s₃ h₃=>?_) fun _ _ h'=>h')) fun _ _ h'=>h')
  cases f with
  | next=>exact wpAny_pure (.inl ⟨rfl,h₃⟩)
  | cont=>exact wpAny_pure (.inl ⟨rfl,h₃⟩)
  | brk=>exact wpAny_pure h₃
  | ret v=>exact wpAny_pure h₃
theorem rI {elt target iter:Expr}{ifs:List Expr}{scope:Scope}{pos:Pos}{it acc:Value}{env:Env} (I:Nat→Shared→Prop)
  (turn:∀ n s,I n s→wpAny (model prog w) A (pyNext it) (fun r s₁=>match r with
   | none=>R (.ok .next) s₁
   | some v=>wpAny (model prog w) A (letOwnedTupleGo target it v) (fun _ s₁=>wpAny (model prog w) A (assign target env v) (fun _ s₂ =>
     wpAny (model prog w) A (forIn ifs true fun c r=>if r=true then do let ok ← isTrue c env (eval c env); pure (ForInStep.yield ok) else pure (ForInStep.yield r)) (fun ok s₃ =>
      if ok=true then wpAny (model prog w) A (eval elt env) (fun x s₄ =>
       wpAny (model prog w) A (call (.builtin "list.append") [acc,x]) (fun _ s₅=>∃ m,m < n ∧ I m s₅) (notedBy (model prog w) A env fun e s'=>R (.error e) s') s₄) (notedBy (model prog w) A env fun e s'=>R (.error e) s') s₃
      else ∃ m,m < n ∧ I m s₃) (notedBy (model prog w) A env fun e s'=>R (.error e) s') s₂) (notedBy (model prog w) A env fun e s'=>R (.error e) s') s₁) (notedBy (model prog w) A env fun e s'=>R (.error e) s') s₁) (notedBy (model prog w) A env fun e s'=>R (.error e) s') s)
  (n:Nat) (h:I n s) :
  codeAny (model prog w) A (.compLoop (.ListComp elt [⟨target,iter,ifs,0⟩] scope pos) 0 it acc env) R s:=by
 refine codeAny_loop rfl I (fun n s hI=>?_) n h
 show wpAny _ A ((compTurn (.ListComp elt [⟨target,iter,ifs,0⟩] scope pos) 0 it acc env).onRaise (fun x=>do noteFrame x env; theTreesLotGoes x)) _ _ s
 refine wpAny_noted ?_
 rw [compTurn_list]
 refine wpAny_bind (wpAny_standAt (wpAny_bind (wpAny_mono (turn n s hI) (fun r s₁ h₁=>?_) fun _ _ h'=>h')))
 cases r with
 | none=>exact wpAny_pure h₁
 | some v =>
  refine wpAny_bind (wpAny_mono h₁ (fun _ s₁ h₁=>?_) fun _ _ h'=>h')
  refine wpAny_bind (wpAny_mono h₁ (fun _ s₂ h₂=>wpAny_bind (wpAny_mono h₂ (fun ok s₃ h₃=>?_) fun _ _ h'=>h')) fun _ _ h'=>h')
  cases ok with
  | false=>exact wpAny_pure ⟨rfl,h₃⟩
  | true =>
   exact wpAny_bind (wpAny_bind (wpAny_mono h₃ (fun x s₄ h₄=>wpAny_bind (wpAny_mono h₄ (fun _ s₅ h₅=>wpAny_pure (wpAny_pure ⟨rfl,h₅⟩)) fun _ _ h'=>h')) fun _ _ h'=>h'))
end
end Mine
namespace Mine
open PySem PyProof.Rows PySem.W
noncomputable def gQ (i:Nat):Src→Prop
 | .live _=>True
 | .tup vs=>i ≤ vs.length
 | .rng lo hi=>i ≤ (hi - lo).toNat
theorem gQ.tup {i:Nat}{src:Src} (h:gQ i src):∀ vs,src=.tup vs→i ≤ vs.length:=fun vs e=>by subst e; exact h
theorem gQ.rng {i:Nat}{src:Src} (h:gQ i src):∀ lo hi,src=.rng lo hi→i ≤ (hi - lo).toNat:=fun lo hi e=>by subst e; exact h
theorem gQ.zero {src:Src}:gQ 0 src:=by cases src <;> first | trivial | exact Nat.zero_le _
theorem gQ.next {σ:Sto}{i:Nat}{src:Src}{v:V} (h:bh σ i src=some (some v)):gQ (i + 1) src:=by
 cases src with
 | live l=>trivial
 | tup vs=>exact (List.getElem?_eq_some_iff.mp (Option.some.inj h)).1
 | rng lo hi =>
  have:=(List.getElem?_eq_some_iff.mp (Option.some.inj h)).1
  unfold fP at this
  rw [List.length_map,List.length_range] at this
  exact this
theorem i5 {α:Type}{o:Option (Option V)}{bad fin z:α}{k:V→α}{G:Prop} (e:kJ o bad fin k=z) (hb:bad=z→G) (h1:o=some none→fin=z→G) (h2:∀ v,o=some (some v)→k v=z→G):G :=
 eB e (fun _=>hb) fun p hp e=>eB e (fun q=>h1 (hp.trans (congrArg some q))) fun v q=>h2 v (hp.trans (congrArg some q))
theorem wj {α:Type}{o:Option Src} {σ:Sto}{bad z:α}{f:Src→Nat→α}{G:Prop} (e:y6 o σ bad f=z) (hb:bad=z→G) (h:∀ src n,o=some src→(∃ m,rB σ src=some m)→f src n=z→G):G :=
 eB e (fun _=>hb) fun src hs e=>eB e (fun _=>hb) fun n hn e=>h src _ hs ⟨n,hn⟩ e
theorem qa {α:Type}{v:V} {σ:Sto}{bad z:α}{f:Src→Nat→α}{G:Prop} (e:AS v σ bad f=z) (hb:bad=z→G) (h:∀ src n,fU v=some src→(∀ l,src=.live l→∃ xs,getL σ l=some xs)→f src n=z→G):G :=
 wj e hb fun src n hs hn e=>h src n hs (fun l q=>by
  subst q
  obtain ⟨m,hn⟩:=hn
  obtain ⟨xs,hx,_⟩:=Option.map_eq_some_iff.mp hn
  exact ⟨xs,hx⟩) e
theorem rx {Ψ:List V→Sto→Prop}{a b:List V}{s t:Sto} (e:REs.ok a s=.ok b t) (h:Ψ b t):Ψ a s:=by cases e; exact h
section
variable {tg:List Nat}{one:Bool}{cond elt:Fra→Sto→RE}{src:Src}{n i:Nat}{fr:Fra} {σ σ':Sto}{acc ys:List V}{G:Prop}
theorem xq {α:Type}{r:RE}{k:V→Sto→Option α}{z:α} (e:r.opt k=some z) (h:∀ v τ,r=.ok v τ→k v τ=some z→G):G :=
 RE.casesOn (motive:=fun t=>r=t→t.opt k=some z→G) r h (fun _ _ _ q=>nn q) (fun _ q=>nn q) rfl e
theorem vY {α:Type}{c:V}{a b:Option α}{z:α} (e:xW c a b=some z) (h1:c=.bool true→a=some z→G) (h2:c=.bool false→b=some z→G):G:=by
 cases c with
 | bool p=>cases p with
  | true=>exact h1 rfl e
  | false=>exact h2 rfl e
 | _=>exact nn e
theorem kN {v:V}{t:Fra × List V × Sto} (Ψ:Fra × List V × Sto→Prop) (e:lK tg one cond elt v fr σ acc=some t) (hΨ:Ψ t)
  (h:∀ fr1,bF tg one v fr=some fr1→(∀ G2:Prop,(∀ τ y υ,cond fr1 σ=.ok (.bool true) τ→elt fr1 τ=.ok y υ→Ψ (fr1,acc ++ [y],υ)→G2)→(∀ τ,cond fr1 σ=.ok (.bool false) τ→Ψ (fr1,acc,τ)→G2)→G2)→G):G :=
 (be e).elim fun fr1 e=>h fr1 e.1 fun _ h1 h2=>xq e.2 fun _ τ q e=>vY e
  (fun p e=>xq e fun y υ q2 e=>h1 τ y υ (p ▸ q) q2 (Option.some.inj e ▸ hΨ)) fun p e=>h2 τ (p ▸ q) (Option.some.inj e ▸ hΨ)
theorem pV (Ψ:List V→Sto→Prop) (ev:d6 tg one cond elt src n i fr σ acc=.ok ys σ') (hΨ:Ψ ys σ') (h1:bh σ i src=some none→Ψ acc σ→G)
  (h2:∀ n' v t,n' < n→bh σ i src=some (some v)→lK tg one cond elt v fr σ acc=some t→d6 tg one cond elt src n' (i + 1) t.1 t.2.2 t.2.1=.ok ys σ'→G):G:=by
 cases n with
 | zero=>exact nomatch ev
 | succ n=>exact i5 ev (fun q=>nomatch q) (fun o e=>h1 o (rx e hΨ)) fun v o e=>eB e (fun _ q=>nomatch q) fun t ht e=>h2 n v t (Nat.lt_succ_self _) o ht e
theorem rO:∀ (n i:Nat) (fr:Fra) (σ:Sto) (acc:List V),d6 tg one cond elt src n i fr σ acc=.ok ys σ'→acc.length ≤ ys.length:=by
 intro n
 induction n with
 | zero=>exact fun _ _ _ _ ev=>nomatch ev
 | succ n ih =>
  exact fun i fr σ acc ev=>i5 ev (fun q=>nomatch q) (fun _ e=>rx (Ψ:=fun a _=>a.length ≤ ys.length) e (Nat.le_refl _)) fun v _ e=>eB e (fun _ q=>nomatch q) fun t ht e =>
   kN (fun t=>t.2.1.length ≤ ys.length) ht (ih _ _ _ _ e) fun fr1 _ k=>k _ (fun _ y _ _ _ h=>Nat.le_trans (by rw [List.length_append]; exact Nat.le_add_right _ _) h) fun _ _ h=>h
end
structure CX (g:Cfg) (env cenv:Env) (s:Shared) (I D:Addr):Prop where
 IL:I ≠ env.locals
 DL:D ≠ env.locals
 CL:cenv.locals ≠ env.locals
 IC:I ≠ cenv.locals
 DC:D ≠ cenv.locals
 ID:I ≠ D
 ce:∀ x c,env.cells.lookup x=some c→c ≠ I ∧ c ≠ D ∧ c ≠ cenv.locals
 cc:∀ x c,cenv.cells.lookup x=some c→c ≠ I ∧ c ≠ D
 Ib:g.b.get? I=none
 Db:g.b.get? D=none
 Cb:g.b.get? cenv.locals=none
 In:s.heap.get? I=none
 Dn:s.heap.get? D=none
 Cn:s.heap.get? cenv.locals=none
structure CI (g:Cfg) (env cenv:Env) (fr frc:Fra) (s:Shared) (as:List Addr) (src:Src) (I D:Addr) (i:Nat) (acc:List V) (as1:List Addr) (σ:Sto) (h:Heap):Prop where
 st:aD [env.locals] as s.heap as1 h
 R:Rel g as1 σ h
 F:ay g env as1 fr h
 Fc:ay g cenv as1 frc h
 it:nb src I i as1 h
 acc:∃ items,h.PlainList D items ∧ ah as1 h acc items.toList
 offI:I ∉ as1
 offD:D ∉ as1
section
variable {g:Cfg}{K:Frag}{c0:CE}{fa:Nat→Option Addr}{call:Nat→List V→Sto→RE}{env cenv:Env}{A:Around}{X:Value→Shared→Prop}{s:Shared}{as:List Addr}{fr frc:Fra} {σ σ':Sto}{r n:Nat}
 {names:List (Str × NameKind)}{src:Src}{I D:Addr}{i:Nat}{acc:List V}{as1:List Addr}{h:Heap}
theorem j0 {h:Heap}{C:Addr}{m:Str→Option Value} (hm:h.Ns C m):∀ o,h.get? C=some o→¬ Imm o:=fun o e hi=>by
 obtain ⟨o',es,ep,e',d,_⟩:=hm
 cases Option.some.inj (e.symm.trans e')
 exact hi.2.1 _ _ d
theorem cK {items:Array Value} (p:h.PlainList D items):∀ o,h.get? D=some o→¬ Imm o:=fun o e hi=>by
 obtain ⟨n,e'⟩:=p; rw [e] at e'; cases e'; rcases hi.1 with q | q <;> simp at q
theorem CI.step {frc':Fra}{as2:List Addr} {σ2:Sto}{h2:Heap} (Z:CX g env cenv s I D) (C:CI g env cenv fr frc s as src I D i acc as1 σ h) (x:aD [cenv.locals] as1 h as2 h2) (R2:Rel g as2 σ2 h2) (Fc2:ay g cenv as2 frc' h2) :
  CI g env cenv fr frc' s as src I D i acc as2 σ2 h2:=by
 have K2:bX as1 h as2 h2:=C.R.keep x C.Fc.notImm
 have F2:ay g env as2 fr h2:=C.F.keep K2 x (by
  intro a ha q; simp at q; subst q
  rcases b7 ha with q | ⟨y,q⟩
  ·exact Z.CL q
  ·exact (Z.ce _ _ q).2.2 rfl)
 obtain ⟨items,p1,p2⟩:=C.acc
 have there:∀ b o,h.get? b=some o→b ∉ as1→b ∉ as2:=fun b o e hb q=>by
  obtain ⟨⟨t,rfl,ht⟩,_⟩:=x
  rcases List.mem_append.mp q with q | q
  ·exact hb q
  ·rw [ht b q] at e; cases e
 refine ⟨?_,R2,F2,Fc2,C.it.keep K2 fun o e=>x.ext I o e (by simpa using Z.IC) C.offI,⟨items,p1.at fun o e=>x.ext D o e (by simpa using Z.DC) C.offD,ah.keep K2 _ _ p2⟩,?_,?_⟩
 ·have a1:aD [env.locals,cenv.locals] as s.heap as1 h:=C.st.grow (by intro a ha; simp at ha; subst ha; simp)
  have a2:aD [env.locals,cenv.locals] as1 h as2 h2:=x.grow (by intro a ha; simp at ha; subst ha; simp)
  exact (a1.trans a2 R2.nd (by intro a ha; simp at ha; rcases ha with rfl | rfl; exact F2.off; exact Fc2.off)).shrink (by
   intro a ha; simp at ha; rcases ha with rfl | rfl
   ·exact .inl (by simp)
   ·exact .inr Z.Cn)
 ·obtain ⟨o,e,_⟩:=C.it.there; exact there _ _ e C.offI
 ·obtain ⟨m,e⟩:=p1; exact there _ _ e C.offD
theorem CI.other {h2:Heap}{d:Addr}{j:Nat}{acc':List V} (Z:CX g env cenv s I D) (C:CI g env cenv fr frc s as src I D i acc as1 σ h) (hd:d=I ∨ d=D) (k:∀ (b:Addr) (o:Obj),b ≠ d→h.get? b=some o→h2.get? b=some o)
  (hit:nb src I j as1 h2) (hacc:bX as1 h as1 h2→∃ items,h2.PlainList D items ∧ ah as1 h2 acc' items.toList):CI g env cenv fr frc s as src I D j acc' as1 σ h2:=by
 obtain ⟨items,p1,p2⟩:=C.acc
 have hoff:d ∉ as1:=by rcases hd with rfl | rfl; exact C.offI; exact C.offD
 have hb:g.b.get? d=none:=by rcases hd with rfl | rfl; exact Z.Ib; exact Z.Db
 have hni:∀ o,h.get? d=some o→¬ Imm o:=by
  rcases hd with rfl | rfl
  ·intro o e; obtain ⟨o',e',q⟩:=C.it.there; rw [e] at e'; cases e'; exact q
  ·exact cK p1
 obtain ⟨K2,R2⟩:=C.R.other k hoff hb hni
 have hL:env.locals ≠ d:=by rcases hd with rfl | rfl; exact Ne.symm Z.IL; exact Ne.symm Z.DL
 have hC:cenv.locals ≠ d:=by rcases hd with rfl | rfl; exact Ne.symm Z.IC; exact Ne.symm Z.DC
 have hn:s.heap.get? d=none:=by rcases hd with rfl | rfl; exact Z.In; exact Z.Dn
 refine ⟨?_,R2,C.F.alter K2 k hL (fun y c q=>?_) (fun a ha=>.inl ha),C.Fc.alter K2 k hC (fun y c q=>?_) (fun a ha=>.inl ha),hit,hacc K2,C.offI,C.offD⟩
 ·have a2:aD [env.locals,d] as1 h as1 h2:=⟨⟨[],by simp,by simp⟩,fun b o e hb _=>k b o (by intro q; subst q; simp at hb) e⟩
  have a1:aD [env.locals,d] as s.heap as1 h:=C.st.grow (by intro a ha; simp at ha; subst ha; simp)
  exact (a1.trans a2 R2.nd (by intro a ha; simp at ha; rcases ha with rfl | rfl; exact C.F.off; exact hoff)).shrink (by
   intro a ha; simp at ha; rcases ha with rfl | rfl
   ·exact .inl (by simp)
   ·exact .inr hn)
 ·rcases hd with rfl | rfl
  ·exact (Z.ce _ _ q).1
  ·exact (Z.ce _ _ q).2.1
 ·rcases hd with rfl | rfl
  ·exact (Z.cc _ _ q).1
  ·exact (Z.cc _ _ q).2
theorem gM {M:Model}{env:Env}{Q:Bool→Shared→Prop}:∀ (ifs:List Expr),Q false s →
  wpAny M A (forIn ifs false fun c r=>if r=true then do let ok ← isTrue c env (eval c env); pure (ForInStep.yield ok) else pure (ForInStep.yield r)) Q X s
 | [],h=>wpAny_pure h
 | c :: ifs,h=>by
  rw [List.forIn_cons]
  simp only [Bool.false_eq_true,if_false]
  exact wpAny_bind (wpAny_pure (gM ifs h))
theorem gV (IT:kX g c0 call r n):∀ (ifs:List Expr) (cs:List E) (s:Shared) (as:List Addr) (σ σ':Sto) (b:Bool) (Q:Bool→Shared→Prop),aV (al n (c0.sub names)) ifs=some cs→aq (c0.sub names) env A→b5 g A (r + 1) →
  At g env as fr σ s→dD (jX call cs) fr σ=.ok (.bool b) σ'→oE g env as fr s b σ' Q →
  wpAny (model g.prog g.w) A (forIn ifs true fun c r=>if r=true then do let ok ← isTrue c env (eval c env); pure (ForInStep.yield ok) else pure (ForInStep.yield r)) Q X s
 | [],cs,s,as,σ,σ',b,Q,h,N,hA,T,ev,hQ=>by
  rw [dN] at h; cases h
  cases (show RE.ok (.bool true) σ=_ from ev)
  exact wpAny_pure (hQ as s.heap s.toks (aD.refl _ _ _) T.R T.F)
 | c :: ifs,cs,s,as,σ,σ',b,Q,h,N,hA,T,ev,hQ=>by
  refine cn h fun a cs' h1 h2 qx4=>?_; subst qx4
  rw [zg,vM] at ev
  refine aA ev fun u τ e1 e2=>?_
  rw [List.forIn_cons]
  simp only [if_true]
  split at e2
  ·refine wpAny_bind (wpAny_bind (IT names c a h1 env A X s as fr σ τ true _ N hA T e1 fun as1 k1 tk1 st1 R1 F1=>wpAny_pure ?_))
   exact gV IT ifs cs' _ as1 τ σ' b Q h2 N hA ⟨F1,R1⟩ e2 (jF hQ st1 R1 F1)
  ·cases e2
   refine wpAny_bind (wpAny_bind (IT names c a h1 env A X s as fr σ _ false _ N hA T e1 fun as1 k1 tk1 st1 R1 F1=>wpAny_pure ?_))
   exact gM ifs (hQ as1 k1 tk1 st1 R1 F1)
  ·cases e2
inductive ya (g:Cfg) (env cenv:Env) (fr:Fra) (s:Shared) (as:List Addr) (src:Src) (I D:Addr) (tg:List Nat) (one:Bool) (cd el:Fra→Sto→RE) (ys:List V) (σ':Sto):Nat→Shared→Prop
 | mk {k i:Nat}{frc:Fra} {σ:Sto}{acc:List V}{as1:List Addr}{h:Heap}{tk:Nat} (ev:d6 tg one cd el src k i frc σ acc=.ok ys σ') (le:gQ i src) (C:CI g env cenv fr frc s as src I D i acc as1 σ h):ya g env cenv fr s as src I D tg one cd el ys σ' k { s with heap:=h,toks:=tk }
set_option tactic.hygienic true in
theorem oH {elt target iter:Expr}{ifs:List Expr}{scope:Scope}{pos:Pos}{tg:List Nat}{one:Bool}{cs:List E}{x':E}{ys:List V}{RR:Result→Shared→Prop}
  (IH:bE g c0 call r n) (IT:kX g c0 call r n) (Z:CX g env cenv s I D) (N:aq (c0.sub names) cenv A) (hA:b5 g A (r + 1)) (hnc:∀ x ∈ names,x.2 ≠ .cell) (hys:ys.length ≤ 16777216)
  (ht:tgt (c0.sub names) target=some (tg,one)) (h2:aV (al n (c0.sub names)) ifs=some cs) (h3:al n (c0.sub names) elt=some x') {k:Nat}{h:Heap}{tk:Nat}
  (ev:d6 tg one (dD (jX call cs)) (evE call x') src k i frc σ acc=.ok ys σ') (le:gQ i src) (C:CI g env cenv fr frc s as src I D i acc as1 σ h)
  (hR:∀ frc' i' as2 h1 h' tk',CI g env cenv fr frc' s as src I D i' ys as2 σ' h1→(∀ (b:Addr) (o:Obj),b ≠ I→h1.get? b=some o→h'.get? b=some o)→RR (.ok .next) { s with heap:=h',toks:=tk' }) :
  codeAny (model g.prog g.w) A (.compLoop (.ListComp elt [⟨target,iter,ifs,0⟩] scope pos) 0 (.ref I) (.ref D) cenv) RR { s with heap:=h,toks:=tk }:=by
 refine rI (ya g env cenv fr s as src I D tg one (dD (jX call cs)) (evE call x') ys σ') ?_ k ⟨ev,le,C⟩
 rintro k _ ⟨ev,le,C⟩
 rename_i i frc σ acc as1 h tk
 refine pV (fun ys σ'=>∀ frc' i' as2 h1 h' tk',CI g env cenv fr frc' s as src I D i' ys as2 σ' h1→(∀ (b:Addr) (o:Obj),b ≠ I→h1.get? b=some o→h'.get? b=some o)→RR (.ok .next) { s with heap:=h',toks:=tk' }) ev hR (fun e hR=>?_) (fun k' v t hk e ec ev'=>?_)
 ·exact pO hA.handled C.R C.it C.offI Z.Ib le.rng le.tup e fun h' tk' kk K' R'=>hR _ _ _ _ h' tk' C kk
 ·refine o9 C.R C.it C.offI Z.Ib e fun val h1 tk1 kk1 K1 R1 it1 r1=>?_
  have C1:=C.other (acc':=acc) Z (.inl rfl) kk1 it1 fun K=>C.acc.elim fun items p=>⟨items,p.1.at fun o e=>kk1 _ _ (Ne.symm Z.ID) e,ah.keep K _ _ p.2⟩
  refine kN (fun t=>d6 tg one (dD (jX call cs)) (evE call x') src k' (i + 1) t.1 t.2.2 t.2.1=.ok ys σ') ec ev' fun fr' hb hc=>?_
  refine Bx (s:={ s with heap:=h1,toks:=tk1 }) it1 ?_
  refine jp (own:=[cenv.locals]) (s:={ s with heap:=h1,toks:=tk1 }) hA.handled ⟨C1.Fc,C1.R⟩ N (sB hnc) ht r1 hb fun as2 h2' tk2 st2 K2 R2 F2=>?_
  have C2:=C1.step Z st2 R2 F2
  refine hc _ (fun τ y υ hc1 hc2 run'=>?_) fun τ hc1 run'=>?_
  ·refine gV IT ifs cs { s with heap:=h2',toks:=tk2 } as2 _ τ true _ h2 N hA ⟨C2.Fc,C2.R⟩ hc1 fun as3 h3' tk3 st3 R3 F3=>?_
   have C3:=C2.step Z st3 R3 F3
   rw [if_pos rfl]
   refine IH names elt x' h3 cenv A _ { s with heap:=h3',toks:=tk3 } as3 fr' τ υ y _ N hA ⟨C3.Fc,C3.R⟩ hc2 fun val2 as4 h4 tk4 st4 R4 F4 r4=>?_
   have C4:=C3.step Z st4 R4 F4
   refine C4.acc.elim fun items p=>?_
   have hl:=(ah.f2.mp p.2).length
   have hl2:=rO _ _ _ _ _ run'
   rw [List.length_append] at hl2
   have hsz:items.size=acc.length:=by rw [hl]; rfl
   refine wpAny_list_append_plain p.1 (fun h5 hp5 hs5=>?_) (by show _ ≤ 2 ^ 24; simp at hl2; lia)
   have k5:∀ (b:Addr) (o:Obj),b ≠ D→h4.get? b=some o→h5.get? b=some o:=fun b o hb e=>hs5.extBut b o hb e
   have kD:bX as4 h4 as4 h5:=.same fun b o e im _=>k5 b o (fun q=>cK p.1 o (q ▸ e) im) e
   exact ⟨k',hk,run',.next e,C4.other (acc':=acc ++ [y]) Z (.inr rfl) k5 (C4.it.keep kD fun o e=>k5 _ _ Z.ID e) fun K=>⟨_,hp5,by
    rw [Array.toList_push]
    exact ah.f2.mpr ((ah.f2.mp (ah.keep K _ _ p.2)).append (.cons (RepV.keep K _ _ r4) .nil))⟩⟩
  ·refine gV IT ifs cs { s with heap:=h2',toks:=tk2 } as2 _ τ false _ h2 N hA ⟨C2.Fc,C2.R⟩ hc1 fun as3 h3' tk3 st3 R3 F3=>?_
   rw [if_neg Bool.false_ne_true]
   exact ⟨k',hk,run',.next e,C2.step Z st3 R3 F3⟩
end
end Mine
namespace Mine
open PySem PyProof.Rows PySem.W
noncomputable def ik (env:Env):List (Str × NameKind)→List (Str × Addr)→List (Str × Addr)
 | [],acc=>acc
 | p :: r,acc=>ik env r (if p.2 == .free then (match env.cells.lookup p.1 with | some c=>(p.1,c) :: acc | none=>acc) else acc)
noncomputable def kT (env:Env) (x:Str × NameKind) (r:List (Str × Addr)):Sem (ForInStep (List (Str × Addr))) :=
 if (x.2 == .free)=true then do let a ← cellOf env x.1; pure (ForInStep.yield ((x.1,a) :: r)) else pure (ForInStep.yield r)
theorem hZ {env:Env}:∀ (names:List (Str × NameKind)) (acc:List (Str × Addr)),(∀ p ∈ names,p.2=.free→∃ c,env.cells.lookup p.1=some c) →
  (forIn names acc (kT env):Sem (List (Str × Addr)))=pure (ik env names acc)
 | [],acc,_=>rfl
 | p :: r,acc,h=>by
  rw [List.forIn_cons]
  by_cases hp:(p.2 == NameKind.free)=true
  ·obtain ⟨c,hc⟩:=h p (.head _) (eq_of_beq hp)
   have e1:cellOf env p.1=pure c:=by unfold cellOf; rw [hc]
   have e2:kT env p acc=pure (ForInStep.yield ((p.1,c) :: acc)):=by
    unfold kT; rw [if_pos hp,e1]; rfl
   rw [e2]
   have:=hZ r ((p.1,c) :: acc) fun q hq=>h q (.tail _ hq)
   rw [ik,if_pos hp,hc]
   exact this
  ·have e2:kT env p acc=pure (ForInStep.yield acc):=by
    unfold kT; rw [if_neg hp]
   rw [e2]
   have:=hZ r acc fun q hq=>h q (.tail _ hq)
   rw [ik,if_neg hp]
   exact this
theorem qA {env:Env}{sc:Scope} (h:∀ p ∈ sc.names,p.2=.free→∃ c,env.cells.lookup p.1=some c):closureFor sc env=pure (ik env sc.names []):=by
 have:=hZ sc.names [] h
 unfold closureFor
 show (forIn sc.names ([]:List (Str × Addr)) _ >>= fun cs=>pure cs)=_
 exact (congrArg (· >>= fun cs=>(pure cs:Sem (List (Str × Addr)))) this)
set_option tactic.hygienic true in
theorem dU {env:Env}:∀ (names:List (Str × NameKind)) (acc:List (Str × Addr)),(∀ x c,acc.lookup x=some c→env.cells.lookup x=some c)→∀ x c,(ik env names acc).lookup x=some c→env.cells.lookup x=some c
 | [],acc,h,x,c,e=>h x c e
 | p :: r,acc,h,x,c,e=>by
  rw [ik] at e
  refine dU r _ (fun y d e'=>?_) x c e
  split at e'
  ·split at e'
   ·rename_i c' hc
    rw [List.lookup_cons] at e'
    split at e'
    ·rename_i q; cases e'; rw [eq_of_beq q]; exact hc
    ·exact h y d e'
   ·exact h y d e'
  ·exact h y d e'
set_option tactic.hygienic true in
theorem eX {env:Env}:∀ (names:List (Str × NameKind)) (acc:List (Str × Addr)) (x:Str),(∀ p ∈ names,p.2=.free→∃ c,env.cells.lookup p.1=some c)→((x,NameKind.free) ∈ names ∨ ∃ c,acc.lookup x=some c)→∃ c,(ik env names acc).lookup x=some c
 | [],acc,x,_,h=>h.elim (fun q=>by cases q) id
 | p :: r,acc,x,hn,h=>by
  rw [ik]
  refine eX r _ x (fun q hq=>hn q (.tail _ hq)) ?_
  rcases h with h | ⟨c,hc⟩
  ·rcases List.mem_cons.mp h with q | q
   ·subst q
    obtain ⟨c,hc⟩:=hn _ (.head _) rfl
    refine .inr ⟨c,?_⟩
    have hc':env.cells.lookup x=some c:=hc
    have hff:(NameKind.free == NameKind.free)=true:=rfl
    simp only [hff,if_true,hc',List.lookup_cons]; simp
   ·exact .inl q
  ·refine .inr ?_
   split
   ·split
    ·rename_i c' _
     rw [List.lookup_cons]
     split
     ·exact ⟨_,rfl⟩
     ·exact ⟨c,hc⟩
    ·exact ⟨c,hc⟩
   ·exact ⟨c,hc⟩
set_option tactic.hygienic true in
theorem jC {c:CE}{x:Str}{i:Nat} (e:c.locC? x=some i):∃ k,c.names[i]?=some (x,k) ∧ (k=.cell ∨ k=.free):=by
 unfold CE.locC? at e
 split at e
 ·rename_i h; obtain ⟨j,h1,h2⟩:=bx h; rw [h1] at e; cases e; exact ⟨_,h2,.inl rfl⟩
 ·rename_i h; obtain ⟨j,h1,h2⟩:=bx h; rw [h1] at e; cases e; exact ⟨_,h2,.inr rfl⟩
 ·cases e
theorem cu {α β:Type}{f:α→Option β}:∀ {l:List α}{l':List β},aV f l=some l'→l.length=l'.length ∧ ∀ (i:Nat) (a:α),l[i]?=some a→∃ b,l'[i]?=some b ∧ f a=some b
 | [],l',h=>by rw [dN] at h; cases h; exact ⟨rfl,fun i a e=>by simp at e⟩
 | x :: r,l',h=>by
  refine cn h fun y ys h1 h2 qx4=>?_; subst qx4
  obtain ⟨q1,q2⟩:=cu h2
  refine ⟨by simp [q1],fun i a e=>?_⟩
  cases i with
  | zero=>simp at e; subst e; exact ⟨y,rfl,h1⟩
  | succ i=>simp at e; simpa using q2 i a e
section
variable {g:Cfg}{c:CE}{env:Env}{A:Around}{s:Shared}{as:List Addr}{fr:Fra} {σ:Sto}{frm:List (Option Nat)}{sc:Scope}
theorem fZ (N:aq c env A) (F:ay g env as fr s.heap) (hf:fo c sc=some frm):∀ p ∈ sc.names,p.2=.free→∃ a,env.cells.lookup p.1=some a:=fun p hp hk=>by
 obtain ⟨i,hi,rfl⟩:=List.getElem_of_mem hp
 obtain ⟨o,h1,h2⟩:=(cu (aw hf).2).2 i _ (List.getElem?_eq_getElem hi)
 unfold zj at h2
 rw [hk] at h2
 obtain ⟨j,h3,_⟩:=Option.map_eq_some_iff.mp h2
 obtain ⟨k,h4,h5⟩:=jC h3
 obtain ⟨k',h6,h7⟩:=N.get h4
 have hk':k'=.cell ∨ k'=.free:=by
  rcases h7 with q | q
  ·subst q; exact h5
  ·exact .inl q.2
 obtain ⟨a,cv,e,_⟩:=F.cells j _ k' h6 hk'
 exact ⟨a,e⟩
theorem dS (hf:fo c sc=some frm):∀ x ∈ sc.names,x.2 ≠ .cell:=fun p hp hk=>by
 obtain ⟨i,hi,rfl⟩:=List.getElem_of_mem hp
 obtain ⟨o,h1,h2⟩:=(cu (aw hf).2).2 i _ (List.getElem?_eq_getElem hi)
 unfold zj at h2
 rw [hk] at h2; cases h2
theorem fY (h:oJ sc=true):sc.kind=.function ∧ (sc.names.map (·.1)).Nodup:=by
 unfold oJ at h
 simp only [Bool.and_eq_true,decide_eq_true_eq] at h
 refine ⟨?_,h.2⟩
 have:=h.1
 split at this
 ·assumption
 ·cases this
set_option tactic.hygienic true in
theorem eQ {env:Env}:∀ names:List (Str × NameKind),F2 (fun (p q:Str × NameKind)=>p.1=q.1 ∧ (p.2=q.2 ∨ (p.2=.free ∧ q.2=.cell))) names
  (names.map fun (n,k)=>if (k == NameKind.free && env.scope.kind == .function && env.kindOf n == some .cell)=true then (n,NameKind.cell) else (n,k))
 | []=>.nil
 | (n,k) :: r=>by
  rw [List.map_cons]
  refine .cons ?_ (eQ r)
  dsimp only
  split
  ·rename_i h
   simp only [Bool.and_eq_true] at h
   exact ⟨rfl,.inr ⟨eq_of_beq h.1.1,rfl⟩⟩
  ·exact ⟨rfl,.inl rfl⟩
theorem nU {C:Addr}{h':Heap}{m:Str→Option Value} (T:At g env as fr σ s) (N:aq c env A) (hf:fo c sc=some frm) (ho:oJ sc=true) (hC:s.heap.get? C=none) (hCb:g.b.objs.size ≤ C) (k:∀ (a:Addr) (o:Obj),s.heap.get? a=some o→h'.get? a=some o) (hns:h'.Ns C m) :
  ay g (compEnvC sc (ik env sc.names []) C env) as (dA fr frm) h' ∧ aq (c.sub sc.names) (compEnvC sc (ik env sc.names []) C env) A:=by
 obtain ⟨hk,hnd⟩:=fY ho
 have hl:=(cu (aw hf).2).1
 have free:=fZ N T.F hf
 have hcl:∀ x a,(ik env sc.names []).lookup x=some a→env.cells.lookup x=some a:=dU sc.names [] (fun x a e=>by cases e)
 have K:bX as s.heap as h':=.same fun a o e _ _=>k a o e
 have hN:aq (c.sub sc.names) (compEnvC sc (ik env sc.names []) C env) A:=⟨eQ sc.names,fun a e=>N.code a e,fun (q:c.top=some sc.names)=>by have h0:=(aw hf).1; rw [q] at h0; simp at h0⟩
 have hN':=hN.map
 have inv:∀ (i:Nat) (x:Str) (kk:NameKind),(compEnvC sc (ik env sc.names []) C env).scope.names[i]?=some (x,kk)→∃ k0,sc.names[i]?=some (x,k0) ∧ (k0=kk ∨ (k0=.free ∧ kk=.cell)):=fun i x kk e=>by
  have hlen:=F2.length hN.f2
  have hi:i < sc.names.length:=by
   have h1:=(List.getElem?_eq_some_iff.mp e).1
   have h2:sc.names.length=(compEnvC sc (ik env sc.names []) C env).scope.names.length:=hlen
   lia
  obtain ⟨q,h1,h2,h3⟩:=F2.get hN.f2 (i:=i) (a:=sc.names[i]) (List.getElem?_eq_getElem hi)
  rw [e] at h1; cases h1
  refine ⟨sc.names[i].2,?_,h3⟩
  rw [List.getElem?_eq_getElem hi]
  exact congrArg some (Prod.ext h2 rfl)
 refine ⟨⟨hk,hCb,T.F.glob,T.F.blt,?_,?_,⟨m,hns,fun i x v e1 e2=>?_⟩,fun i x kk e1 e2=>?_,fun q=>?_,fun x a e=>⟨(T.F.offc _ _ (hcl _ _ e)).1,fun q=>?_,?_⟩,fun x y a e1 e2=>T.F.apart x y a (hcl _ _ e1) (hcl _ _ e2),fun x a e=>T.F.newc x a (hcl _ _ e)⟩,hN⟩
 ·show (dA fr frm).length=_
  rw [show (compEnvC sc (ik env sc.names []) C env).scope.names.length=sc.names.length from (F2.length hN.f2).symm]
  simp [dA,hl]
 ·rw [← hN']; exact hnd
 ·obtain ⟨k0,q1,q2⟩:=inv i x _ e1
  have:k0=.local:=by
   rcases q2 with q | q
   ·exact q
   ·cases q.2
  subst this
  obtain ⟨o,h1,h2⟩:=(cu (aw hf).2).2 i _ q1
  unfold zj at h2; cases h2
  unfold dA at e2
  rw [List.getElem?_map,h1] at e2
  simp at e2
 ·obtain ⟨k0,q1,q2⟩:=inv i x _ e1
  have hk0:k0=.free:=by
   rcases q2 with q | q
   ·subst q
    rcases e2 with e2 | e2
    ·exact absurd e2 (dS hf _ (List.mem_of_getElem? q1))
    ·exact e2
   ·exact q.1
  subst hk0
  obtain ⟨o,h1,h2⟩:=(cu (aw hf).2).2 i _ q1
  unfold zj at h2
  obtain ⟨j,h3,rfl⟩:=Option.map_eq_some_iff.mp h2
  obtain ⟨k1,h4,h5⟩:=jC h3
  obtain ⟨k',h6,h7⟩:=N.get h4
  have hk':k'=.cell ∨ k'=.free:=by
   rcases h7 with q | q
   ·subst q; exact h5
   ·exact .inl q.2
  obtain ⟨a,cv,p1,⟨ob,p2,p2'⟩,p3⟩:=T.F.cells j _ k' h6 hk'
  obtain ⟨a',ha'⟩:=eX sc.names [] x free (.inl (List.mem_of_getElem? q1))
  have:=hcl _ _ ha'
  rw [p1] at this; cases this
  refine ⟨a,cv,ha',⟨ob,k _ _ p2,p2'⟩,fun v e=>?_⟩
  unfold dA at e
  rw [List.getElem?_map,h1] at e
  simp only [Option.map_some,Option.some.injEq] at e
  have e':fr[j]?=some (some v):=by
   cases q:fr[j]? with
   | none=>rw [q] at e; cases e
   | some w=>rw [q] at e; exact congrArg some e
  obtain ⟨val,p4,p5⟩:=p3 v e'
  exact ⟨val,p4,RepV.keep K _ _ p5⟩
 ·obtain ⟨ob,e,_⟩:=T.R.there q
  have e':s.heap.get? C=some ob:=e
  rw [hC] at e'; cases e'
 ·obtain ⟨cv,o,e',_⟩:=(T.F.offc _ _ (hcl _ _ e)).2.2
  have q':a=C:=q
  rw [q',hC] at e'; cases e'
 ·obtain ⟨cv,o,e',e''⟩:=(T.F.offc _ _ (hcl _ _ e)).2.2
  exact ⟨cv,o,k _ _ e',e''⟩
end
end Mine
namespace Mine
open PySem PyProof.Rows PySem.W
section
variable {g:Cfg}{K:Frag}{c0:CE}{fa:Nat→Option Addr}{call:Nat→List V→Sto→RE}{env:Env}{A:Around}{X:Value→Shared→Prop}{s:Shared}{as:List Addr}{fr:Fra} {σ σ':Sto}{r n:Nat}
 {names:List (Str × NameKind)}{Q:Value→Shared→Prop}
theorem wy {src:Src}{I:Addr}{i:Nat} (R:Rel g as σ s.heap) (it:nb src I i as s.heap) (hQ:Q (.ref I) s):wpAny (model g.prog g.w) A (pyIter (.ref I)) Q X s:=by
 cases src with
 | live l =>
  obtain ⟨a,e1,e2⟩:=it
  exact wpAny_pyIter_listiter e2 hQ
 | tup vs =>
  obtain ⟨a,items,n,e1,e0,e2,e3⟩:=it
  exact wpAny_pyIter_tupleiter e3 hQ
 | rng lo hi=>exact wpAny_pyIter_rangeiter it hQ
theorem jB {iter:Expr}{a:E}{c:CE} (h:al n c iter=some a):∀ x,foldedSetIterable iter env x=pure x:=by
 intro x
 have hk:=cW h
 cases iter <;> first | rfl | exact ft hk
theorem ku {elt target iter:Expr}{ifs:List Expr}{scope:Scope}{pos pos':Pos}{use:Option (Value→Sem Unit)}{tg:List Nat}{one:Bool}{cs:List E}{x' it':E}{ys:List V}{frm:List (Option Nat)}{v:V}{src:Src} {τ:Sto}{k:Nat}
  (IH:bE g c0 call r n) (IT:kX g c0 call r n) (N:aq (c0.sub names) env A) (hA:b5 g A (r + 1)) (T:At g env as fr σ s)
  (h1:al n (c0.sub names) iter=some it') (ht:tgt (c0.sub scope.names) target=some (tg,one)) (h2:aV (al n (c0.sub scope.names)) ifs=some cs) (h3:al n (c0.sub scope.names) elt=some x')
  (hf:fo (c0.sub names) scope=some frm) (ho:oJ scope=true) (e1:evE call it' fr σ=.ok v τ) (hs:fU v=some src) (hl:∀ l,src=.live l→∃ xs,getL τ l=some xs)
  (run:d6 tg one (dD (jX call cs)) (evE call x') src k 0 (dA fr frm) τ []=.ok ys σ') (hys:ys.length ≤ 16777216)
  (fin:∀ as' h' tk C D m,aD [env.locals] as s.heap (as' ++ [D]) h'→Rel g (as' ++ [D]) (σ' ++ [.lst ys]) h'→ay g env (as' ++ [D]) fr h'→as'.length=σ'.length→h'.Ns C m→C ∉ (as' ++ [D])→C ≠ env.locals →
   (∀ x c,env.cells.lookup x=some c→c ≠ C)→g.b.get? C=none→s.heap.get? C=none→compPost (model g.prog g.w) A X use Q (.ref D) C (.ok .next) { s with heap:=h',toks:=tk }) :
  wpAny (model g.prog g.w) A (comprehension (.ListComp elt [⟨target,iter,ifs,0⟩] scope pos) scope env pos' (newList []) false (eval iter env) use) Q X s:=by
 obtain ⟨hk,hnd⟩:=fY ho
 have hclos:=qA (fZ N T.F hf)
 refine wpAny_comprehension_free (gs:=[]) rfl (jB h1) hclos hk (fun x hx hx2=>?_) ?_
 ·obtain ⟨i,hi,rfl⟩:=List.getElem_of_mem hx
  refine bi hnd (i:=i) ?_
  rw [List.getElem?_eq_getElem hi]
  exact congrArg some (Prod.ext rfl hx2)
 refine IH names iter it' h1 env A X s as fr σ τ v _ N hA T e1 fun x as1 k1 tk1 st1 R1 F1 r1=>?_
 have T1:At g env as1 fr τ { s with heap:=k1,toks:=tk1 }:=⟨F1,R1⟩
 refine lV T1 r1 hs hl fun o T2 it0=>?_
 refine wpAny_newObj_type (wpAny_newFunctionEnv (dS hf) (by simp) (fun h' hns hsb=>?_) hk)
 dsimp only at hns hsb ⊢
 generalize hH2:(k1.push o).push { cls:=.type "list",dict:=none,data:=.seq ([]:List Value).toArray }=H2 at hns hsb ⊢
 have sz1:(k1.push o).objs.size=k1.objs.size + 1:=Heap.size_push ..
 have sz2:H2.objs.size=k1.objs.size + 2:=by rw [← hH2,Heap.size_push,sz1]
 have kk:∀ (b:Addr) (ob:Obj),k1.get? b=some ob→h'.get? b=some ob:=fun b ob e =>
  hsb.extBut b ob (Nat.ne_of_lt (by have:=Heap.lt_size e; rw [sz2]; exact Nat.lt_of_lt_of_le this (by lia))) (Heap.get?_push_of_some _ (hH2 ▸ Heap.get?_push_of_some _ (Heap.get?_push_of_some _ e)))
 have kI:∀ ob,(k1.push o).get? k1.objs.size=some ob→h'.get? k1.objs.size=some ob:=fun ob e =>
  hsb.extBut _ ob (by rw [sz2]; exact Nat.ne_of_lt (by lia)) (Heap.get?_push_of_some _ (hH2 ▸ Heap.get?_push_of_some _ e))
 have hD:h'.get? (k1.push o).objs.size=some { cls:=.type "list",dict:=none,data:=.seq ([]:List Value).toArray } :=
  hsb.extBut _ _ (by rw [sz1,sz2]; exact Nat.ne_of_lt (by lia)) (Heap.get?_push_of_some _ (hH2 ▸ Heap.get?_push_size _ rfl))
 have freshK:∀ b:Addr,k1.objs.size ≤ b→k1.get? b=none:=fun b hb=>by
  cases e:k1.get? b with
  | none=>rfl
  | some ob=>exact absurd (Heap.lt_size e) (Nat.not_lt.mpr hb)
 have fI:=freshK k1.objs.size (Nat.le_refl _)
 have fD:=freshK (k1.push o).objs.size (by rw [sz1]; exact Nat.le_succ _)
 have fC:=freshK H2.objs.size (by rw [sz2]; exact Nat.le_add_right _ _)
 have bnone:∀ b,k1.get? b=none→g.b.get? b=none:=fun b hb=>by
  cases e:g.b.get? b with
  | none=>rfl
  | some ob=>have:=R1.base _ _ e; rw [hb] at this; cases this
 have Lne:∀ b,k1.get? b=none→b ≠ env.locals:=fun b hb q=>by subst q; obtain ⟨ob,e⟩:=F1.there; rw [hb] at e; cases e
 have cne:∀ b,k1.get? b=none→∀ y c,env.cells.lookup y=some c→c ≠ b:=fun b hb y c hc q=>by
  subst q; obtain ⟨cv,ob,e,_⟩:=(F1.offc _ _ hc).2.2; rw [hb] at e; cases e
 have nin:∀ b,k1.get? b=none→b ∉ as1:=fun b hb q=>by obtain ⟨ob,e,_⟩:=R1.there q; rw [hb] at e; cases e
 have hCb:g.b.objs.size ≤ H2.objs.size:=by
  obtain ⟨ob,e⟩:=F1.there
  have h4:=Heap.lt_size e
  have h5:=F1.above
  rw [sz2]
  exact Nat.le_trans h5 (Nat.le_trans (Nat.le_of_lt h4) (Nat.le_add_right _ _))
 obtain ⟨Fc,Nc⟩:=nU (s:={ s with heap:=k1,toks:=tk1 }) T1 N hf ho fC hCb kk hns
 have hcl:∀ x a,(ik env scope.names []).lookup x=some a→env.cells.lookup x=some a:=dU scope.names [] (fun x a e=>by cases e)
 have Z:CX g env (compEnvC scope (ik env scope.names []) H2.objs.size env) { s with heap:=k1,toks:=tk1 } k1.objs.size (k1.push o).objs.size :=
  ⟨Lne _ fI,Lne _ fD,Lne _ fC,by show _ ≠ H2.objs.size; rw [sz2]; exact Nat.ne_of_lt (by lia),by show _ ≠ H2.objs.size; rw [sz1,sz2]; exact Nat.ne_of_lt (by lia),by rw [sz1]; exact Nat.ne_of_lt (Nat.lt_succ_self _),
   fun y c hc=>⟨cne _ fI y c hc,cne _ fD y c hc,cne _ fC y c hc⟩,fun y c hc=>⟨cne _ fI y c (hcl _ _ hc),cne _ fD y c (hcl _ _ hc)⟩,bnone _ fI,bnone _ fD,bnone _ fC,fI,fD,fC⟩
 have x0:aD [] as1 k1 as1 h':=aD.of_ext kk
 have K0:=R1.keep0 x0
 have C0:CI g env (compEnvC scope (ik env scope.names []) H2.objs.size env) fr (dA fr frm) { s with heap:=k1,toks:=tk1 } as1 src k1.objs.size (k1.push o).objs.size 0 [] as1 τ h' :=
  ⟨x0.grow (by simp),R1.ext kk,T1.frame x0,Fc,it0.keep (.same fun b ob e im _=>by
   by_cases hb:b=k1.objs.size
   ·subst hb; exact kI ob e
   ·have:k1.get? b=some ob:=by
     have hlt:=Heap.lt_size e
     rw [sz1] at hlt
     have hlt':b < k1.objs.size:=Nat.lt_of_le_of_ne (Nat.le_of_lt_succ hlt) hb
     cases e':k1.get? b with
     | some ob'=>have:=az k1 o b ob' e'; rw [e] at this; cases this; rfl
     | none=>rw [Heap.get?_push_ne _ _ _ (Nat.ne_of_lt hlt')] at e; rw [e] at e'; cases e'
    exact kk b ob this) kI,⟨_,⟨0,hD⟩,by rw [ah]⟩,nin _ fI,nin _ fD⟩
 have main:codeAny (model g.prog g.w) A (.compLoop (.ListComp elt [⟨target,iter,ifs,0⟩] scope pos) 0 (.ref k1.objs.size) (.ref (k1.push o).objs.size) (compEnvC scope (ik env scope.names []) H2.objs.size env))
   (compPost (model g.prog g.w) A X use Q (.ref (k1.push o).objs.size) H2.objs.size) { s with heap:=h',toks:=tk1 }:=by
  refine oH (s:={ s with heap:=k1,toks:=tk1 }) IH IT Z Nc hA (dS hf) hys ht h2 h3 run .zero C0 fun frc' i' as2 h3' h4' tk4 C kk4=>?_
  have hth:=C.it.there
  have hni:∀ ob,h3'.get? k1.objs.size=some ob→¬ Imm ob:=fun ob e=>by obtain ⟨o',e',q⟩:=hth; rw [e] at e'; cases e'; exact q
  obtain ⟨K4,R4⟩:=C.R.other kk4 C.offI Z.Ib hni
  have F4:=C.F.alter K4 kk4 (Ne.symm Z.IL) (fun y c q=>(Z.ce _ _ q).1) (fun a ha=>.inl ha)
  obtain ⟨items,p1,p2⟩:=C.acc
  have p1':=p1.at fun ob e=>kk4 _ ob (Ne.symm Z.ID) e
  have p2':=ah.keep K4 _ _ p2
  have S4:aD [env.locals] as1 k1 as2 h4':=by
   have a2:aD [env.locals,k1.objs.size] as2 h3' as2 h4':=⟨⟨[],by simp,by simp⟩,fun b ob e hb _=>kk4 b ob (by intro q; subst q; simp at hb) e⟩
   have a1:aD [env.locals,k1.objs.size] as1 k1 as2 h3':=C.st.grow (by intro a ha; simp at ha; subst ha; simp)
   exact (a1.trans a2 R4.nd (by intro a ha; simp at ha; rcases ha with rfl | rfl; exact F4.off; exact C.offI)).shrink (by
    intro a ha; simp at ha; rcases ha with rfl | rfl
    ·exact .inl (by simp)
    ·exact .inr fI)
  obtain ⟨S5,R5,F5⟩:=T1.pushN (a:=(k1.push o).objs.size) (o:=.lst ys) S4 R4 F4 fD C.offD Z.Db Z.DL (fun y c q=>(Z.ce _ _ q).2.1) (cK p1') ⟨items,p1',ah.keep ⟨fun j cc e=>by rw [List.getElem?_append_left (List.getElem?_eq_some_iff.mp e).1]; exact e,fun _ _ e _ _=>e,fun b q=>(List.mem_append.mp q).imp id fun q=>(List.mem_singleton.mp q:b=_) ▸ cK p1'⟩ _ _ p2',hys⟩
  have hCns:∃ m,h4'.Ns H2.objs.size m:=by
   obtain ⟨m,hm,_⟩:=C.Fc.ns
   exact ⟨m,hm.at' fun ob e=>kk4 _ ob (Ne.symm Z.IC) e⟩
  obtain ⟨m,hm⟩:=hCns
  refine fin as2 h4' tk4 H2.objs.size (k1.push o).objs.size m (ao st1 S5 R5 F5) R5 F5 R4.len hm ?_ Z.CL (fun y c q=>(Z.ce _ _ q).2.2) Z.Cb ?_
  ·intro q
   rcases List.mem_append.mp q with q | q
   ·exact C.Fc.off q
   ·exact Z.DC (List.mem_singleton.mp q).symm
  ·cases e:s.heap.get? H2.objs.size with
   | none=>rfl
   | some ob =>
    have:=st1.ext _ _ e (by intro q; exact Z.CL (List.mem_singleton.mp q)) (fun q=>nin _ fC (st1.mem q))
    rw [fC] at this; cases this
 exact codeAny_compStart_list main (wy (s:={ s with heap:=h',toks:=tk1 }) C0.R C0.it main)
theorem nq {tg:List Nat}{one:Bool}{it' x':E}{cs:List E}{frm:List (Option Nat)}{v:V} (ev:evE call (.comp tg one it' cs x' frm) fr σ=.ok v σ') :
  ∃ u τ src k ys σ2,evE call it' fr σ=.ok u τ ∧ fU u=some src ∧ (∀ l,src=.live l→∃ xs,getL τ l=some xs) ∧ d6 tg one (dD (jX call cs)) (evE call x') src k 0 (dA fr frm) τ []=.ok ys σ2 ∧ cy ys σ2=.ok v σ' :=
 aA ev fun u τ e1 e2=>bS e2 fun ys σ2 e3 e4=>qa e3 (fun q=>nomatch q) fun src k hs hl e=>⟨u,τ,src,k,ys,σ2,e1,hs,hl,e,e4⟩
theorem yC {elt target iter:Expr}{ifs:List Expr}{scope:Scope}{p:Pos}{tg:List Nat}{one:Bool}{cs:List E}{x' it':E}{frm:List (Option Nat)} (IH:bE g c0 call r n) (IT:kX g c0 call r n)
  (h1:al n (c0.sub names) iter=some it') (ht:tgt (c0.sub scope.names) target=some (tg,one)) (h2:aV (al n (c0.sub scope.names)) ifs=some cs) (h3:al n (c0.sub scope.names) elt=some x')
  (hf:fo (c0.sub names) scope=some frm) (ho:oJ scope=true):aQ g c0 call r names (.ListComp elt [⟨target,iter,ifs,0⟩] scope p) (.comp tg one it' cs x' frm):=fun env A X s as fr σ σ' v Q N hA T ev hQ=>by
 obtain ⟨u,τ,src,k,ys,σ2,e1,e2,e3,e4,e5⟩:=nq ev
 have hlen:=eJ e5
 cases (if_pos hlen).symm.trans e5
 rw [eval_ListComp]
 refine ku (use:=none) IH IT N hA T h1 ht h2 h3 hf ho e1 e2 e3 e4 hlen fun as' h' tk C D m st R' F' hl hm hC hCL hcc hCb hCn=>⟨m,hm,fun h2 hs2=>?_⟩
 have kk:∀ (b:Addr) (o:Obj),b ≠ C→h'.get? b=some o→h2.get? b=some o:=fun b o hb e=>by rw [hs2.2 b hb]; exact e
 obtain ⟨K2,R2⟩:=R'.other kk hC hCb (j0 hm)
 have F2:=F'.alter K2 kk (Ne.symm hCL) hcc (fun a ha=>.inl ha)
 have a2:aD [C,env.locals] (as' ++ [D]) h' (as' ++ [D]) h2:=⟨⟨[],(List.append_nil _).symm,fun _ q=>nomatch q⟩,fun b ob e hb _=>kk b ob (fun q=>hb (q ▸ .head _)) e⟩
 have S2:aD [env.locals] as s.heap (as' ++ [D]) h2:=((st.grow fun a ha=>.tail _ ha).trans a2 R2.nd fun a ha=>(List.mem_cons.mp ha).elim (fun q=>q ▸ hC) fun q=>(List.mem_singleton.mp q) ▸ F2.off).shrink fun a ha=>(List.mem_cons.mp ha).elim (fun q=>.inr (q ▸ hCn)) .inl
 refine hQ _ _ h2 tk S2 R2 F2 ?_
 rw [RepV]; exact ⟨D,rfl,by rw [← hl]; simp⟩
end
end Mine
namespace Mine
open PySem PyProof.Rows PySem.W
section
variable {prog:Program}{w:World}{A:Around}{E:Value→Shared→Prop}{s:Shared}
theorem jh {Q:List Value→Shared→Prop}{r:Addr}{a b c:Int}{t u v:Tok}{n:Nat} (hh:A.handled=none) (hr:IsRange s.heap r a b c t u v) (hsmall:Builtin.Range.small a b c=true)
  (hn:Builtin.Range.rangeSize a b c=n) (hlen:n ≤ 2 ^ 24)
  (hQ:∀ h' tk acc,(∀ b o,s.heap.get? b=some o→h'.get? b=some o)→ItemsOf (fun i v=>∃ t,v=.int (a + i * c) t) acc n→Q acc.toList { s with heap:=h',toks:=tk }) :
  wpAny (model prog w) A (collect (.ref r)) Q E s:=by
 unfold collect
 refine wpAny_bind (wpAny_runValue (codeAny_builtin F.entry_proto_collect ?_))
 rw [Around.under_plainId F.plain_proto_collect _]
 show wpAny _ A.in1 (newList [] >>= fun l=>again (.builtin "list.__iadd__" ⟨[l,.ref r],[]⟩)) _ _ s
 refine wpAny_bind (wpAny_newObj_type ?_)
 refine wpAny_pure ⟨plainId_quiet F.plain_list_iadd _,codeAny_builtin F.entry_list_iadd ?_⟩
 rw [Around.under_plainId F.plain_list_iadd _]
 show wpAny _ A.in1 (Builtin.List.listExtendWith (.ref s.heap.objs.size) (.ref r) (.ref s.heap.objs.size)) _ _ _
 refine wpAny_extend_range (R:=fun r s'=>match r with
   | .ok (.ret v)=>wpAny (model prog w) A (match v with
    | .ref a=>(do let o ← load a; match o.data with | .seq xs _=>pure xs.toList | _=>unsupported "internal:collect")
    | _=>unsupported "internal:collect") Q E s'
   | .ok _=>False
   | .error e=>E e s') (s:={ s with heap:=s.heap.push { cls:=.type "list",data:=.seq #[] } }) hh (Heap.get?_push_of_some _ hr) hsmall hn hlen _ _ 0 (Heap.get?_push_size _ rfl) fun h' tk acc' c' hk hS' hacc=>?_
 show wpAny _ A (load s.heap.objs.size >>= _) _ _ _
 refine wpAny_bind (wpAny_load hS' ?_)
 exact wpAny_pure (hQ h' tk acc' (fun b o e=>hk b o (Nat.ne_of_lt (Heap.lt_size e)) (Heap.get?_push_of_some _ e)) hacc)
variable {h₀:Heap}{L:Addr}{m:Str→Option Value}{news:List (Addr × Obj)}{Q:Value→Shared→Prop}
theorem kA {kz:List Int}{f r:Addr}{a b c:Int}{t u v:Tok}{n:Nat} (F:Fr h₀ L s.heap m) (N:News h₀ L s.heap news) (hh:A.handled=none) (hr:IsRange s.heap r a b c t u v) (hsmall:Builtin.Range.small a b c=true)
  (hn:Builtin.Range.rangeSize a b c=n) (h64:n < 64) (hlen:kz.length=n)
  (turn:∀ (i:Nat) (t:Tok) (k:Int),i < n→kz[i]?=some k→∀ (h:Heap) (tk:Nat) (own:List (Addr × Obj)),Fr h₀ L h m→News h₀ L h (news ++ own) →
   wpAny (model prog w) A.in1.in1 (call (.ref f) [.int (a + i * c) t]) (KskEnd h₀ L m (news ++ own) k { s with heap:=h,toks:=tk }) (fun _ _=>False) { s with heap:=h,toks:=tk })
  (h:∀ (D:Addr) (h':Heap) (tk:Nat) (vs:List Value) (out:Array Value) (e:Nat),Fr h₀ L h' m→News h₀ L h' ((D,seqObj "list" out e) :: news)→s.heap.get? D=none→vs.length=n→(∀ (i:Nat) (x:Value),vs[i]?=some x→∃ t,x=.int (a + i * c) t)→KskOut false kz vs out.toList→Q (.ref D) { s with heap:=h',toks:=tk }) :
  wpAny (model prog w) A (call (.builtin "sorted") [.ref r] [(Str.ofString "key",.ref f)]) Q E s:=by
 refine call_function_entry_kw kind_sorted plain_sorted entry_sorted (ksk_s1 _ _) ?_
 unfold Builtin.«sorted»
 refine wpAny_bind (m:=checkCount "sorted" 1 1 _) (wpAny_pure ?_)
 refine wpAny_bind (jh (A:=A.in1) hh hr hsmall hn (by lia) fun h1 tk1 acc hk1 hacc=>?_)
 have hvl:acc.toList.length=n:=by rw [Array.length_toList]; exact hacc.1
 refine wpAny_bind (wpAny_newList ?_ (by rw [hvl,sizeLine_eq]; lia))
 have keep:∀ b o,s.heap.get? b=some o→(h1.push (seqObj "list" acc.toList.toArray 0)).get? b=some o:=fun b o q=>Heap.get?_push_of_some _ (hk1 b o q)
 have hoL:(h1.push (seqObj "list" acc.toList.toArray 0)).get? h1.objs.size=some (seqObj "list" acc.toList.toArray 0):=Heap.get?_push_size _ rfl
 have hL:L < h1.objs.size:=by
  obtain ⟨o,es,ep,e,_⟩:=F.ns; exact Heap.lt_size (hk1 _ _ e)
 have hD:s.heap.get? h1.objs.size=none:=by
  cases e:s.heap.get? h1.objs.size with
  | none=>rfl
  | some o=>exact absurd (Heap.lt_size (hk1 _ _ e)) (Nat.lt_irrefl _)
 refine wpAny_bind (wpAny_holding (wpAny_call_entry_kw slot_list_sort ⟨_,hoL,rfl⟩ entry_list_sort ?body (ksk_l1 _ _)))
 case body =>
  show wpAny (model prog w) A.in1.in1 (Builtin.«list.sort» ⟨[.ref h1.objs.size],[(Str.ofString "key",.ref f)]⟩) _ _ _
  rw [ksk_t1]
  refine ksk_sort (s:={ s with heap:=h1.push (seqObj "list" acc.toList.toArray 0),toks:=tk1 }) (vs:=acc.toList) (F.kept keep) (N.grown keep) hoL (Nat.ne_of_gt hL) (Heap.get?_none_of_le (Nat.le_trans F.above (Nat.le_of_lt hL)))
   (fun p hp q=>by have:=(N p hp).1; rw [q,hD] at this; cases this) (by rw [hlen,hvl]) (by rw [hvl]; exact h64) (fun i x k hx hk g tk own F' N'=>?_) fun h' tk out e F' N' k'=>⟨_,rfl,?_⟩
  ·obtain ⟨t',rfl⟩:=hacc.2 i x (by simpa using hx)
   exact turn i t' k (by have:=(List.getElem?_eq_some_iff.mp hx).1; lia) hk g tk own F' N'
  ·exact wpAny_pure ⟨_,rfl,h _ h' tk acc.toList out e F' N' hD hvl (fun i x hx=>hacc.2 i x (by simpa using hx)) k'⟩
end
structure LX (c:CE) (env:Env) (p:Str) (x:Int) (fr:Fra) (h:Heap):Prop where
 kind:env.scope.kind=.function
 par:∃ m t,h.Ns env.locals m ∧ m p=some (.int x t) ∧ env.kindOf p=some .local
 var:∀ y i v,c.locC? y=some i→env.scope.names.lookup y=some .free→fr[i]?=some (some (.int v))→∃ cc t,env.cells.lookup y=some cc ∧ h.IsCell cc (some (.int v t))
set_option tactic.hygienic true in
set_option backward.match.sparseCases false in
theorem s5 {n:Nat}{c:CE}{p:Str}{sc:Scope}{e:Expr}{k:KX} (Ψ:Expr→Prop) (h:oS (n + 1) c p sc e=some k) (H1:∀ y pp,(y == ("__debug__":Str))=false→pE c p sc y=some k→Ψ (.Name y pp))
  (H2:∀ i a pp,some (KX.num i)=some k→Ψ (.Constant (.int i) a pp)) (H3:∀ l op r pp,Bc op (oS n c p sc l) (oS n c p sc r)=some k→Ψ (.BinOp l op r pp)):Ψ e:=by
 have h:(match vw e with
  | .const k=>(match k with | .int i=>some (.num i) | _=>none)
  | .name x=>gd (!(x == ("__debug__":Str))) (pE c p sc x)
  | .bin t=>Bc t.2.1 (oS n c p sc t.1) (oS n c p sc t.2.2)
  | _=>none)=some k:=h
 cases q:vw e <;> rw [q] at h <;> first | exact nn h | skip
 ·refine (bL q).elim fun pp q=>?_
  rw [q]
  exact H1 _ _ (aZ (aw h).1) (aw h).2
 ·rename_i v
  refine (bL q).elim fun a q=>q.elim fun pp q=>?_
  rw [q]
  cases v <;> first | exact nn h | exact H2 _ _ _ h
 ·refine (bL q).elim fun pp q=>?_
  rw [q]
  exact H3 _ _ _ _ h
theorem u0 {fr:Fra}{x z:Int}{a b:Option Int}{f:Int→Int→Option Int}{G:Prop} (h:(a.bind fun p=>b.bind fun q=>f p q)=some z) (k:∀ u v,a=some u→b=some v→f u v=some z→G):G :=
 (be h).elim fun u h=>(be h.2).elim fun v h'=>k u v h.1 h'.1 h'.2
theorem i4 {α:Type}{P:Prop} [Decidable P] {a b:α} (h:(if P then some a else none)=some b):P ∧ a=b:=by
 by_cases q:P
 ·exact ⟨q,Option.some.inj ((if_pos q).symm.trans h)⟩
 ·exact nn ((if_neg q).symm.trans h)
set_option tactic.hygienic true in
set_option backward.match.sparseCases false in
theorem zw {prog:Program}{w:World}{A:Around}{X:Value→Shared→Prop}{env:Env}{c:CE}{p:Str}{x:Int}{fr:Fra}:∀ (n:Nat) (e:Expr) (k:KX) (z:Int) (s:Shared) (Q:Value→Shared→Prop),oS n c p env.scope e=some k→kxV fr x k=some z→LX c env p x fr s.heap →
  (∀ t tk,Q (.int z t) { s with toks:=tk })→wpAny (model prog w) A (eval e env) Q X s:=by
 intro n
 induction n with
 | zero=>intro e k z s Q h _ _ _; exact nn h
 | succ n ih =>
  intro e k z s Q h hz C hQ
  refine s5 (fun e=>wpAny (model prog w) A (eval e env) Q X s) h (fun y pp hd h=>wpAny_Name ?_ hd) (fun i a pp h=>?_) fun l op r pp h=>?_
  ·have h:(match (y == p) with | true=>some .par | false=>gd (env.scope.names.lookup y == some .free && !(y == ("__classdict__":Str))) ((c.locC? y).map .var))=some k:=h
   cases hy:(y == p) <;> rw [hy] at h
   ·have h1:=af (aw h).1
    refine (bN (aw h).2).elim fun i h3=>?_
    have hf:env.scope.names.lookup y=some .free:=eq_of_beq h1.1
    rw [← h3.2] at hz
    refine C.var y i z h3.1 hf ?_ |>.elim fun cc hc=>hc.elim fun t hc=>wpAny_loadName_free C.kind hf hc.1 hc.2 (hQ t s.toks) (aZ h1.2)
    have hz:(match fr[i]? with | some (some (.int v))=>some v | _=>none)=some z:=hz
    split at hz
    ·rename_i v hv
     rw [hv,Option.some.inj hz]
    ·exact nn hz
   ·rw [← Option.some.inj h] at hz
    refine C.par.elim fun m hp=>hp.elim fun t hp=>?_
    rw [show y=p from eq_of_beq hy]
    exact wpAny_loadName_local C.kind hp.2.2 hp.1 hp.2.1 (Option.some.inj (show some x=some z from hz) ▸ hQ t s.toks)
  ·rw [← Option.some.inj h] at hz
   rw [Option.some.inj (show some i=some z from hz)]
   exact wpAny_Constant_int (hQ _ _)
  ·cases op <;> first | exact nn h | skip
   ·refine (dY h).elim fun a h=>h.elim fun b h=>?_
    rw [← h.2.2] at hz
    refine (be (show ((kxV fr x a).bind fun p=>(kxV fr x b).map fun q=>p + q)=some z from hz)).elim fun u h3=>(bN h3.2).elim fun v h4=>?_
    rw [← h4.2] at hQ
    exact wpAny_BinOp (ih l a u s _ h.1 h3.1 C fun t tk=>ih r b v { s with toks:=tk } _ h.2.1 h4.1 C fun t2 tk2=>PyProof.Rows.add_int (hQ _ _))
   ·refine (dY h).elim fun a h=>h.elim fun b h=>?_
    rw [← h.2.2] at hz
    refine u0 (fr:=fr) (x:=x) (show ((kxV fr x a).bind fun p=>(kxV fr x b).bind fun q=>if gJ p q then some (p * q) else none)=some z from hz) fun u v h3 h4 h5=>?_
    rw [← (i4 h5).2] at hQ
    exact wpAny_BinOp (ih l a u s _ h.1 h3 C fun t tk=>ih r b v { s with toks:=tk } _ h.2.1 h4 C fun t2 tk2=>PyProof.Rows.mul_int (hQ _ _) (uP (i4 h5).1))
   ·refine (dY h).elim fun a h=>h.elim fun b h=>?_
    rw [← h.2.2] at hz
    refine u0 (fr:=fr) (x:=x) (show ((kxV fr x a).bind fun p=>(kxV fr x b).bind fun q=>if q ≠ 0 then some (p.fmod q) else none)=some z from hz) fun u v h3 h4 h5=>?_
    rw [← (i4 h5).2] at hQ
    exact wpAny_BinOp (ih l a u s _ h.1 h3 C fun t tk=>ih r b v { s with toks:=tk } _ h.2.1 h4 C fun t2 tk2=>PyProof.Rows.mod_int (i4 h5).1 (hQ _ _))
end Mine
namespace Mine
open PySem PyProof.Rows PySem.W
set_option tactic.hygienic true in
theorem dK:∀ {ns:List Str}{xs:List Value}{n:Str},n ∈ ns→ns.length=xs.length→((ns.zip xs).lookup n).isNone=false
 | [],_,_,h,_=>by cases h
 | m :: ns,[],_,_,h=>by cases h
 | m :: ns,x :: xs,n,h,hl=>by
  rw [List.zip_cons_cons,List.lookup_cons]
  split
  ·rfl
  ·rename_i q
   rcases List.mem_cons.mp h with rfl | h
   ·simp at q
   ·exact dK h (by simpa using hl)
theorem iV {α:Type}{n:Str}:∀ {l r:List (Str × α)},(∀ p ∈ l,p.1 ≠ n)→(l ++ r).lookup n=r.lookup n
 | [],_,_=>rfl
 | p :: l,r,h=>by
  rw [List.cons_append]
  obtain ⟨a,b⟩:=p
  rw [List.lookup_cons]
  have:(n == a)=false:=by
   cases q:n == a with
   | false=>rfl
   | true=>exact absurd (eq_of_beq q).symm (h _ (.head _))
  rw [this]
  exact iV fun p hp=>h p (.tail _ hp)
theorem mM:∀ (ns pre:List Str) (xs pxs:List Value),(pre ++ ns).Nodup→ns.length=xs.length→pre.length=pxs.length→ns.filterMap (fun n=>((pre.zip pxs ++ ns.zip xs).lookup n).map fun v=>(n,v))=ns.zip xs
 | [],_,xs,_,_,_,_=>rfl
 | n :: ns,pre,[],_,_,hl,_=>by cases hl
 | n :: ns,pre,x :: xs,pxs,nd,hl,hp=>by
  have h1:((pre.zip pxs ++ (n :: ns).zip (x :: xs)).lookup n)=some x:=by
   rw [iV,List.zip_cons_cons,List.lookup_cons]
   ·simp
   ·intro p hp' q
    have:=(List.of_mem_zip hp').1
    rw [q] at this
    exact (List.nodup_append.mp nd).2.2 n this n (.head _) rfl
  rw [List.filterMap_cons,h1]
  simp only [Option.map_some,List.zip_cons_cons]
  have:=mM ns (pre ++ [n]) xs (pxs ++ [x]) (by simpa using nd) (by simpa using hl) (by simp [hp])
  rw [List.zip_append hp] at this
  simp only [List.append_assoc] at this
  exact congrArg _ this
theorem iW {fd:FuncData}{ns:List Arg}{d:List Expr} (hp:fd.params=⟨[],ns,none,[],[],none,d⟩) (hd:fd.defaults=.none) (nd:(ns.map (·.arg)).Nodup) {xs:List Value} (hl:ns.length=xs.length) :
  bindArgs fd ⟨xs,[]⟩=pure ((ns.map (·.arg)).zip xs):=by
 have hl':(ns.map (·.arg)).length=xs.length:=by simpa using hl
 have hm:(ns.map (·.arg)).filter (fun n=>(((ns.map (·.arg)).zip xs).lookup n).isNone)=[]:=by
  rw [List.filter_eq_nil_iff]
  intro a ha
  rw [dK ha hl']; simp
 have hm':((ns.map (·.arg)).take (ns.map (·.arg)).length).filter (fun n=>(((ns.map (·.arg)).zip xs).lookup n).isNone)=[]:=by
  rw [List.take_length]; exact hm
 have hzz:=mM (ns.map fun (x:Arg)=>x.arg) [] xs [] (by simpa using nd) hl' rfl
 unfold bindArgs
 rw [hp,hd]
 have hdec:decide (xs.length > (ns.map (·.arg)).length)=false:=decide_eq_false (by lia)
 refine (if_neg (c:=(decide (xs.length > (ns.map (·.arg)).length) && true)=true) (fun q=>by rw [hdec] at q; exact Bool.noConfusion q)).trans ?_
 rw [show ∀ k,List.drop k ((none:Option (Array Value)).getD #[]).toList=[] from fun k=>List.drop_nil]
 refine (if_neg (c:=(!(((ns.map (·.arg)).take (ns.map (·.arg)).length).filter (fun n=>(((ns.map (·.arg)).zip xs).lookup n).isNone)).isEmpty)=true) (fun q=>by rw [hm'] at q; exact Bool.noConfusion q)).trans ?_
 rw [List.zip_nil_right]
 refine congrArg (fun l=>(pure l:Sem (List (Str × Value)))) (Eq.trans (congrArg (List.filterMap _) (List.append_nil (ns.map fun (x:Arg)=>x.arg))) hzz)
theorem gY {α:Type} (p:Int × α):∀ l:List (Int × α),(oQ p l).Perm (p :: l)
 | []=>.refl _
 | q :: r=>by
  rw [uW]
  split
  ·exact .refl _
  ·exact ((gY p r).cons q).trans (.swap p q r)
theorem fj {α:Type}:∀ l:List (Int × α),(fm l).Perm l
 | []=>.refl _
 | p :: r=>(gY p _).trans ((fj r).cons p)
set_option tactic.hygienic true in
theorem hJ {α:Type} (p:Int × α):∀ l:List (Int × α),l.Pairwise (fun a b=>a.1 ≤ b.1)→(oQ p l).Pairwise (fun a b=>a.1 ≤ b.1)
 | [],_=>List.pairwise_singleton _ _
 | q :: r,h=>by
  rw [uW]
  have h':=List.pairwise_cons.mp h
  split
  ·rename_i hlt
   refine List.pairwise_cons.mpr ⟨fun b hb=>?_,h⟩
   rcases List.mem_cons.mp hb with e | e
   ·rw [e]; lia
   ·have:=h'.1 b e; lia
  ·rename_i hge
   refine List.pairwise_cons.mpr ⟨fun b hb=>?_,hJ p r h'.2⟩
   rcases List.mem_cons.mp ((gY p r).mem_iff.mp hb) with e | e
   ·rw [e]; lia
   ·exact h'.1 b e
theorem fL {α:Type}:∀ l:List (Int × α),(fm l).Pairwise (fun a b=>a.1 ≤ b.1)
 | []=>.nil
 | p :: r=>hJ p _ (fL r)
theorem oi {α:Type}{l ps:List (Int × α)} (hn:(l.map (·.1)).Nodup) (hp:ps.Perm l) (hs:ps.Pairwise (fun a b=>a.1 ≤ b.1)):ps=fm l:=by
 refine List.Perm.eq_of_pairwise (le:=fun a b=>a.1 ≤ b.1) (fun a b ha hb h1 h2=>?_) hs (fL l) (hp.trans (fj l).symm)
 have ha':=hp.mem_iff.mp ha
 have hb':=(fj l).mem_iff.mp hb
 have e:a.1=b.1:=Int.le_antisymm h1 h2
 obtain ⟨i,hi,rfl⟩:=List.getElem_of_mem ha'
 obtain ⟨j,hj,rfl⟩:=List.getElem_of_mem hb'
 have:i=j:=(List.getElem_inj hn (h₀:=by simpa using hi) (h₁:=by simpa using hj)).mp (by simpa using e)
 subst this; rfl
theorem yZ {α β:Type}{R:Int × α→Int × β→Prop} (hR:∀ a b,R a b→a.1=b.1) {p:Int × α}{q:Int × β} (h:R p q) {l:List (Int × α)}{m:List (Int × β)} (f:F2 R l m):F2 R (oQ p l) (oQ q m):=by
 induction f with
 | nil=>exact .cons h .nil
 | @cons a b l m x r ih =>
  show F2 R (if p.1 < a.1 then p :: a :: l else a :: oQ p l) (if q.1 < b.1 then q :: b :: m else b :: oQ q m)
  rw [hR p q h,hR a b x]
  split
  ·exact .cons h (.cons x r)
  ·exact .cons x ih
theorem vK {α β:Type}{R:Int × α→Int × β→Prop} (hR:∀ a b,R a b→a.1=b.1) {l:List (Int × α)}{m:List (Int × β)} (f:F2 R l m):F2 R (fm l) (fm m):=by
 induction f with
 | nil=>exact .nil
 | cons x _ ih=>exact yZ hR x ih
theorem xH {α β:Type}{R:α→β→Prop} (ks:List Int) {l:List α}{m:List β} (f:F2 R l m):F2 (fun (a:Int × α) (b:Int × β)=>a.1=b.1 ∧ R a.2 b.2) (ks.zip l) (ks.zip m):=by
 induction f generalizing ks with
 | nil=>rw [List.zip_nil_right,List.zip_nil_right]; exact .nil
 | cons x _ ih =>
  cases ks with
  | nil=>exact .nil
  | cons k ks=>exact .cons ⟨rfl,x⟩ (ih ks)
theorem yG {α β α' β':Type}{R:α→β→Prop}{R':α'→β'→Prop}{f:α→α'}{g:β→β'} (h:∀ a b,R a b→R' (f a) (g b)) {l:List α}{m:List β} (r:F2 R l m):F2 R' (l.map f) (m.map g):=by
 induction r with
 | nil=>exact .nil
 | cons x _ ih=>exact .cons (h _ _ x) ih
theorem uG {ps:Arguments}{p:Str} (h:Bz ps=some p):∃ a,ps=⟨[],[a],none,[],[],none,[]⟩ ∧ a.arg=p:=by
 obtain ⟨p1,p2,p3,p4,p5,p6,p7⟩:=ps
 rcases p2 with _ | ⟨a,_ | ⟨b,p2⟩⟩
 ·exact nn h
 ·have h0:=aw h
  have h1:=af h0.1
  have h2:=af h1.2
  have h3:=af h2.2
  have h4:=af h3.2
  have h5:=af h4.2
  exact ⟨a,by rw [show p1=[] from List.isEmpty_iff.mp h1.1,show p3=none from Option.isNone_iff_eq_none.mp h2.1,show p4=[] from List.isEmpty_iff.mp h3.1,show p5=[] from List.isEmpty_iff.mp h4.1,show p6=none from Option.isNone_iff_eq_none.mp h5.1,show p7=[] from List.isEmpty_iff.mp h5.2],Option.some.inj h0.2⟩
 ·exact nn h
section
variable {g:Cfg}{K:Frag}{c0:CE}{fa:Nat→Option Addr}{call:Nat→List V→Sto→RE}{env:Env}{A:Around}{X:Value→Shared→Prop}{s:Shared}{as:List Addr}{fr:Fra} {σ σ':Sto}{r n:Nat}
 {names:List (Str × NameKind)}{Q:Value→Shared→Prop}{v:V}{sc:Scope}{body:Expr}{lp:Pos}
noncomputable def zH (env:Env) (a:Arg) (body:Expr) (sc:Scope) (pm:Value) (c':Addr) (ctv:Value):Obj :=
 kla_obj "<lambda>" (env.qual ++ "<lambda>") ⟨[],[a],none,[],[],none,[]⟩ body sc (ik env sc.names []) pm c' ctv
theorem zZ {a:Arg}{ca:Addr}{frm:List (Option Nat)} (G:bH g K c0 fa) (N:aq (c0.sub names) env A) (T:At g env as fr σ s) (hl:c0.lam=some ca) (ht:σ[1]?=some (.tab false)) (hf:fo (c0.sub names) sc=some frm)
  (hQ:∀ (f:Addr) (h':Heap) (tk:Nat) (pm:Value) (c':Addr) (ctv:Value),aD [env.locals] as s.heap as h'→Rel g as (σ.set 1 (.tab true)) h'→ay g env as fr h'→h'.get? f=some (zH env a body sc pm c' ctv)→h'.CodeRec (.ref c') (env.qual ++ "<lambda>")→Q (.ref f) { s with heap:=h',toks:=tk }) :
  wpAny (model g.prog g.w) A (eval (.Lambda ⟨[],[a],none,[],[],none,[]⟩ body sc lp) env) Q X s:=by
 obtain ⟨mg,Tg,C,_,hB,hne,_⟩:=G.lam ca hl
 have h1l:1 < as.length:=by rw [T.R.len]; exact (List.getElem?_eq_some_iff.mp ht).1
 have ha1:as[1]?=some as[1]:=List.getElem?_eq_getElem h1l
 obtain ⟨hP1,ps,hps,hps0⟩:=T.R.obj 1 _ _ ha1 ht
 rw [hP1] at ha1 hps
 rw [hps0 rfl] at hps
 have hPas:g.tab ∈ as:=List.mem_of_getElem? ha1
 refine kla_eval rfl (kla_makeFunction (mg:=mg) (qA (fZ N T.F hf)) T.F.glob (Tg.keeps T.R.base) (N.code ca hl) (C.keeps T.R.base) hps trivial rfl hne (hB.keeps T.R.base) fun c' ctv h' tk hx hge hlt hrec htb=>?_)
 generalize hO:kla_obj "<lambda>" (env.qual ++ "<lambda>") ⟨[],[a],none,[],[],none,[]⟩ body sc (ik env sc.names []) ((mg "__name__").getD .none) c' ctv=ob
 have hk:∀ (b:Addr) (o:Obj),b ≠ g.tab→s.heap.get? b=some o→(h'.push ob).get? b=some o:=fun b o hb e=>Heap.get?_push_of_some _ (hx b o hb e)
 have KK:bX as s.heap as (h'.push ob):=.same fun b o e hi _=>hk b o (fun q=>by
  subst q; rw [hps] at e; cases e; rcases hi.1 with q | q | ⟨_,_,q,_⟩ <;> cases q) e
 have R':Rel g as (σ.set 1 (.tab true)) (h'.push ob):=by
  refine ⟨fun b o e=>hk b o (fun q=>by subst q; rw [T.R.new _ hPas] at e; cases e) (T.R.base b o e),by rw [List.length_set]; exact T.R.len,T.R.nd,T.R.new,fun i b o e1 e2=>?_,T.R.hnd.keep KK⟩
  by_cases hi:i=1
  ·subst hi
   rw [ha1] at e1; cases e1
   rw [List.getElem?_set_self (by rw [← T.R.len]; exact h1l)] at e2; cases e2
   exact ⟨rfl,_,Heap.get?_push_of_some _ htb,fun q=>nomatch q⟩
  ·rw [List.getElem?_set_ne (Ne.symm hi)] at e2
   refine (T.R.obj i b o e1 e2).keep KK fun oc e=>hk b oc (fun q=>?_) e
   subst q
   obtain ⟨hi1,e3⟩:=List.getElem?_eq_some_iff.mp e1
   obtain ⟨hj1,e4⟩:=List.getElem?_eq_some_iff.mp ha1
   exact hi ((List.getElem_inj T.R.nd).mp (e3.trans e4.symm))
 have F':ay g env as fr (h'.push ob):=T.F.alter KK hk (fun q=>T.F.off (q ▸ hPas)) (fun x c hc q=>(T.F.offc _ _ hc).1 (q ▸ hPas)) fun _ h=>.inl h
 refine hQ _ _ tk _ c' ctv ⟨⟨[],by simp,by simp⟩,fun b o e _ hb=>hk b o (fun q=>hb (q ▸ hPas)) e⟩ R' F' (by rw [zH,hO]; exact Heap.get?_push_size _ (by rw [← hO]; rfl)) ?_
 obtain ⟨c₂,oc,vs,t,e2,hoc,hd,hv⟩:=hrec
 exact ⟨c₂,oc,vs,t,e2,Heap.get?_push_of_some _ hoc,hd,hv⟩
theorem yF {a:Arg}{frm:List (Option Nat)}{key:KX}{x z:Int}{t:Tok}{f c':Addr}{pm ctv:Value}{h:Heap}{tk:Nat}{m:Str→Option Value}{need:List (Addr × Obj)}{B:Around} (N:aq (c0.sub names) env A) (T:At g env as fr σ s) (lim:g.b.NoLimit) (hroom:B.depth < recursionLimit)
  (hf:fo (c0.sub names) sc=some frm) (hso:oJ sc=true) (hgen:sc.isGenerator=false) (hco:sc.isCoroutine=false) (hp:sc.names.lookup a.arg=some .local) (hkey:oS 10 (c0.sub names) a.arg sc body=some key) (hz:kxV fr x key=some z)
  (ho:s.heap.get? f=some (zH env a body sc pm c' ctv)) (hcd:s.heap.CodeRec (.ref c') (env.qual ++ "<lambda>"))
  (F':Fr g.b env.locals h m) (N':News g.b env.locals h need) (hs:∀ p ∈ newsOf g.b env.locals s.heap,p ∈ need) :
  wpAny (model g.prog g.w) B (PySem.call (.ref f) [.int x t]) (KskEnd g.b env.locals m need z { s with heap:=h,toks:=tk }) (fun _ _=>False) { s with heap:=h,toks:=tk }:=by
 have ext:=eh F' N' hs T.R.base
 obtain ⟨mL,⟨oL,esL,epL,eL,dL,_⟩,_⟩:=T.F.ns
 have hfL:f ≠ env.locals:=fun q=>by rw [q,eL] at ho; cases ho; cases dL
 have hcd':h.CodeRec (.ref c') (env.qual ++ "<lambda>"):=by
  obtain ⟨c₂,oc,vs,t2,e2,hoc,hd,hv⟩:=hcd
  exact ⟨c₂,oc,vs,t2,e2,ext _ _ (fun q=>by rw [q,eL] at hoc; cases hoc; rw [dL] at hd; cases hd) hoc,hd,hv⟩
 obtain ⟨hk,hnd⟩:=fY hso
 refine wpAny_call (kla_callFunE (s:={ s with heap:=h,toks:=tk }) hroom (ext _ _ hfL ho) rfl hco hgen rfl hcd' ?_)
 have hbind:bindArgs (kla_fn "<lambda>" (env.qual ++ "<lambda>") ⟨[],[a],none,[],[],none,[]⟩ body sc (ik env sc.names []) pm (.ref c') ctv) ⟨[.int x t],[]⟩=pure [(a.arg,.int x t)] :=
  iW (ns:=[a]) (d:=[]) rfl rfl (by simp) rfl
 rw [hbind]
 refine wpAny_pure (wpAny_newFunctionEnv (s:={ s with heap:=h,toks:=tk }) (dS hf) (fun y hy=>by rw [List.mem_singleton.mp hy]; exact hp) (fun h₁ hns hsb=>⟨((lim).keeps F'.keep).fresh _ hsb,?_⟩) hk)
 have hk₁:∀ (b:Addr) (o:Obj),h.get? b=some o→h₁.get? b=some o:=fun b o e=>hsb.extBut b o (Nat.ne_of_lt (Heap.lt_size e)) (Heap.get?_push_of_some _ e)
 refine kla_codeExpr (zw (fr:=fr) (x:=x) (p:=a.arg) (c:=c0.sub names) 10 body key z _ _ hkey hz ⟨hk,⟨_,t,hns,by simp,hp⟩,fun y i v h1 h2 h3=>?_⟩ fun t2 tk2=>?_)
 ·have hmem:(y,NameKind.free) ∈ sc.names:=av h2
  obtain ⟨cc,hcc⟩:=eX sc.names [] y (fZ N T.F hf) (.inl hmem)
  have hce:=dU sc.names [] (fun _ _ e=>nomatch e) y cc hcc
  obtain ⟨k,h4,h5⟩:=jC h1
  obtain ⟨k',h6,h7⟩:=N.get h4
  have hk':k'=.cell ∨ k'=.free:=by
   rcases h7 with q | q
   ·subst q; exact h5
   ·exact .inl q.2
  obtain ⟨c2,cv,e1,⟨oc,e2,e2'⟩,e3⟩:=T.F.cells i y k' h6 hk'
  rw [hce] at e1; cases e1
  obtain ⟨val,rfl,rv⟩:=e3 _ h3
  obtain ⟨tv,rfl⟩:=cj rv
  exact ⟨cc,tv,hcc,oc,hk₁ _ _ (ext _ _ (T.F.offc _ _ hce).2.1 e2),e2'⟩
 ·exact ⟨h₁,tk2,t2,rfl,rfl,F'.kept hk₁,N'.grown hk₁⟩
set_option tactic.hygienic true in
theorem tO {key:KX}{u:V} (e:zP key fr u σ=.ok v σ'):∃ hi ks,u=.rng 0 hi ∧ hi < 60 ∧ σ[1]?=some (.tab false) ∧ aV (fun (j:Nat)=>kxV fr (j:Int) key) (List.range hi.toNat)=some ks ∧ ks.Nodup ∧ cy ((fm (ks.zip (fP 0 hi))).map (·.2)) (σ.set 1 (.tab true))=.ok v σ':=by
 cases u <;> first | exact au e | skip
 rename_i lo hi
 obtain ⟨⟨rfl,hh⟩,e1⟩:=eN e
 have key2:∀ {o:Option AO}{q:RE},Bd o q=.ok v σ'→o=some (.tab false) ∧ q=.ok v σ':=fun {o q} e=>by
  cases o with
  | none=>exact au e
  | some o=>cases o with
   | tab b=>cases b with
    | false=>exact ⟨rfl,e⟩
    | true=>exact au e
   | _=>exact au e
 obtain ⟨h1,e2⟩:=key2 e1
 cases hks:aV (fun (j:Nat)=>kxV fr (j:Int) key) (List.range hi.toNat) with
 | none=>rw [hks] at e2; exact au e2
 | some ks =>
  rw [hks] at e2
  obtain ⟨h3,e3⟩:=eN e2
  exact ⟨hi,ks,rfl,hh,h1,hks,h3,e3⟩
theorem AR {a:Arg}{frm:List (Option Nat)}{key:KX}{hi:Int}{ks:List Int}{x:Value}{f c':Addr}{pm ctv:Value}{B:Nat} (N:aq (c0.sub names) env A) (T:At g env as fr σ s) (lim:g.b.NoLimit) (hA:b5 g A B) (hh:g.hd=none)
  (hf:fo (c0.sub names) sc=some frm) (hso:oJ sc=true) (hgen:sc.isGenerator=false) (hco:sc.isCoroutine=false) (hp:sc.names.lookup a.arg=some .local) (hkey:oS 10 (c0.sub names) a.arg sc body=some key)
  (hks:aV (fun (j:Nat)=>kxV fr (j:Int) key) (List.range hi.toNat)=some ks) (hnd:ks.Nodup) (h60:hi < 60) (hr:RepV as s.heap (.rng 0 hi) x) (e:cy ((fm (ks.zip (fP 0 hi))).map (·.2)) σ=.ok v σ')
  (ho:s.heap.get? f=some (zH env a body sc pm c' ctv)) (hcd:s.heap.CodeRec (.ref c') (env.qual ++ "<lambda>")) (hQ:aI g env as fr s v σ' Q) :
  wpAny (model g.prog g.w) A (PySem.call (.builtin "sorted") [x] [(Str.ofString "key",.ref f)]) Q X s:=by
 rw [RepV] at hr
 obtain ⟨ra,t,u,w',rfl,hro,hrb⟩:=hr
 obtain ⟨z1,z2⟩:=jz hrb
 have hz0:((hi - 0).toNat)=hi.toNat:=by rw [Int.sub_zero]
 rw [hz0] at z1
 obtain ⟨m,hF,_⟩:=T.F.fr T.R
 have hlen:ks.length=hi.toNat:=by have:=(cu hks).1; rw [List.length_range] at this; exact this.symm
 have hdep:A.in1.in1.depth < recursionLimit:=by have:=hA.depth; show A.depth < 1000; lia
 refine kA hF (eP _ _ _) (hA.none hh) hro z2 z1 (by lia) hlen (fun i t' k hi' hk h tk own F' N'=>?_) fun D h' tk vs out ep F' N' hD hvl hvs ko=>?_
 ·have e0:(0:Int) + (i:Int) * 1=(i:Int):=by lia
  rw [e0]
  refine yF (tk:=tk) N T lim hdep hf hso hgen hco hp hkey ?_ ho hcd F' N' fun p hp=>List.mem_append_left _ hp
  obtain ⟨b,h1,h2⟩:=(cu hks).2 i i (List.getElem?_range hi')
  rw [hk] at h1; cases h1
  exact h2
 ·obtain ⟨ps,hpp,hout,hps⟩:=ko
  have hsd:ps=fm (ks.zip vs):=oi (by rw [List.map_fst_zip (by lia)]; exact hnd) hpp (by simpa using hps)
  refine hQ.newN (tk:=tk) T hF.ns F' rfl N' (fun p hp=>.tail _ hp) (.head _) hD ?_ e
  rw [hout,hsd]
  refine ah.f2.mpr (yG (R:=fun (a:Int × V) (b:Int × Value)=>a.1=b.1 ∧ RepV as s.heap a.2 b.2) (fun _ _ h=>h.2) (vK (fun _ _ h=>h.1) (xH ks ?_)))
  have hacc:ItemsOf (fun i v=>∃ t,v=Value.int (0 + (i:Int) * 1) t) vs.toArray (hi - 0).toNat:=⟨by simpa [hz0] using hvl,fun i x hx=>hvs i x (by simpa using hx)⟩
  simpa using ah.f2.mp (p8 (as:=as) (h:=s.heap) hacc)
theorem pG {c:CE}{f:Expr→Option E}{x:Str}{e:Expr}{kw:Option Str}{ps:Arguments}{e':E} (Ψ:Str→Option Str→Arguments→E→Prop) (h:pX c f x e kw (ps,body,sc,lp)=some e')
  (H:∀ ca frm a a' key,c.glob "sorted"=true→c.lam=some ca→oJ sc=true→sc.isGenerator=false→sc.isCoroutine=false→fo c sc=some frm→sc.names.lookup a.arg=some .local→f e=some a'→oS 10 c a.arg sc body=some key→Ψ "sorted" (some "key") ⟨[],[a],none,[],[],none,[]⟩ (.srt a' key)):Ψ x kw ps e':=by
 have g0:=aw h
 have g1:=af g0.1
 have g2:=af g1.2
 have g3:=af g2.2
 have g4:=af g3.2
 have g5:=af g4.2
 have g6:=af g5.2
 have g7:=af g6.2
 refine (Option.isSome_iff_exists.mp g7.2).elim fun frm hfr=>(Option.isSome_iff_exists.mp g4.1).elim fun ca hca=>(be g0.2).elim fun pn h1=>(uG h1.1).elim fun a ha=>(dY (aw h1.2).2).elim fun a' k=>k.elim fun key k=>?_
 rw [show kw=_ from eq_of_beq g1.1,show x=_ from eq_of_beq g2.1,show ps=_ from ha.1,← k.2.2]
 have hl:sc.names.lookup pn=some .local:=eq_of_beq (aw h1.2).1
 have hk:=k.2.1
 rw [← ha.2] at hl hk
 exact H ca frm a a' key (show c.glob "sorted"=true from (show x=_ from eq_of_beq g2.1) ▸ g3.1) hca g5.1 (aZ g6.1) (aZ g7.1) hfr hl k.1 hk
theorem yq {x:Str}{e:Expr}{kw:Option Str}{ps:Arguments}{kp fp p:Pos}{e':E} (G:bH g K c0 fa) (IH:bE g c0 call r n) (h:pX (c0.sub names) (al n (c0.sub names)) x e kw (ps,body,sc,lp)=some e') :
  aQ g c0 call r names (.Call (.Name x fp) [e] [⟨kw,.Lambda ps body sc lp,kp⟩] p) e':=by
 refine pG (fun x kw ps e'=>aQ g c0 call r names (.Call (.Name x fp) [e] [⟨kw,.Lambda ps body sc lp,kp⟩] p) e') h fun ca frm a a' key g3 hca g5 g6 g7 hfr hpl h1 hkey=>?_
 intro env A X s as fr σ σ' v Q N hA T ev hQ
 refine aA ev fun u τ e3 e4=>?_
 obtain ⟨hi,ks,rfl,h60,htab,hks,hnd,enew⟩:=tO e4
 refine (G.lam ca hca).elim fun _ hlam=>?_
 have lim:=hlam.2.2.1
 have hh:=hlam.2.2.2.2.2
 show wpAny _ A (eval (.Name "sorted" fp) env >>= fun f=>callWith p f [] (backTo p (starEach [e] env)) (backToKw p (keywordEach [⟨some "key",.Lambda ⟨[],[a],none,[],[],none,[]⟩ body sc lp,kp⟩] env))) Q X s
 refine wpAny_bind (cx T N g3 rfl G.sorted ?_)
 refine callWith_kw ?_ (by rw [a5 h1]; rfl) (by rw [a5 h1]; rfl) rfl rfl
 refine wpAny_items_cons ?_ (a5 h1 _ _)
 refine IH names e a' h1 env A X s as fr σ τ _ _ N hA T e3 fun val as' h' tk st R' F' r'=>wpAny_items_nil ?_
 have T':At g env as' fr τ { s with heap:=h',toks:=tk }:=⟨F',R'⟩
 show wpAny _ A (do let v ← (do let v ← eval (.Lambda ⟨[],[a],none,[],[],none,[]⟩ body sc lp) env; standAt p; pure v); return v :: (← holding [v] (evalAll []))) _ X _
 refine wpAny_bind (wpAny_bind (zZ G N T' hca htab hfr fun f h2 tk2 pm c' ctv st2 R2 F2 ho hcd=>wpAny_bind (wpAny_standAt (wpAny_pure (wpAny_bind (wpAny_holding (wpAny_pure (wpAny_pure ?_))))))))
 have T2:At g env as' fr (τ.set 1 (.tab true)) { s with heap:=h2,toks:=tk2 }:=⟨F2,R2⟩
 exact AR N T2 lim hA hh hfr g5 g6 g7 hpl hkey hks hnd h60 (RepV.keep (T'.keep st2) _ _ r') enew ho hcd (aS (s:=s) (tk:=tk2) hQ (ao st st2 R2 F2) R2 F2)
end
end Mine
namespace Mine
set_option backward.match.sparseCases false
open PySem PyProof.Rows PySem.W
theorem vT {c:CE}{f:Str}{t:Str × Expr}{k:CK} (h:ck1 c f t=k):(k=.setLen t.2 ∧ f="len" ∧ t.1="set" ∧ c.glob "len"=true ∧ c.glob "set"=true) ∨ (k=.revl t.2 ∧ f="list" ∧ t.1="reversed" ∧ c.glob "list"=true ∧ c.glob "reversed"=true) ∨ k=.plain:=by
 unfold ck1 at h
 cases q:(f == ("len":Str) && (t.1 == ("set":Str) && (c.glob f && c.glob t.1))) with
 | true =>
  rw [q] at h
  obtain ⟨q1,q2⟩:=af q; obtain ⟨q2,q3⟩:=af q2; obtain ⟨q3,q4⟩:=af q3
  have e1:=eq_of_beq q1; have e2:=eq_of_beq q2
  rw [e1] at q3; rw [e2] at q4
  exact .inl ⟨h.symm,e1,e2,q3,q4⟩
 | false =>
  rw [q] at h
  cases q:(f == ("list":Str) && (t.1 == ("reversed":Str) && (c.glob f && c.glob t.1))) with
  | true =>
   rw [q] at h
   obtain ⟨q1,q2⟩:=af q; obtain ⟨q2,q3⟩:=af q2; obtain ⟨q3,q4⟩:=af q3
   have e1:=eq_of_beq q1; have e2:=eq_of_beq q2
   rw [e1] at q3; rw [e2] at q4
   exact .inr (.inl ⟨h.symm,e1,e2,q3,q4⟩)
  | false=>rw [q] at h; exact .inr (.inr h.symm)
theorem vJ {c:CE}{f:Str}{a:Expr}{t:Str}{k:CK} (h:ck2 c f a t=k):(k=.isi a t ∧ f="isinstance" ∧ c.glob "isinstance"=true ∧ c.glob t=true ∧ (t == ("__debug__":Str))=false) ∨ k=.plain:=by
 unfold ck2 at h
 cases q:(f == ("isinstance":Str) && (c.glob f && (c.glob t && !(t == ("__debug__":Str))))) with
 | true =>
  rw [q] at h
  obtain ⟨q1,q2⟩:=af q; obtain ⟨q2,q3⟩:=af q2; obtain ⟨q3,q4⟩:=af q3
  have e1:=eq_of_beq q1
  rw [e1] at q2
  exact .inl ⟨h.symm,e1,q2,q3,aZ q4⟩
 | false=>rw [q] at h; exact .inr h.symm
noncomputable def xy (c:CE) (f:Str) (args:List Expr):CK→Prop
 | .setLen a=>∃ fp p,args=[.Call (.Name "set" fp) [a] [] p] ∧ f="len" ∧ c.glob "len"=true ∧ c.glob "set"=true
 | .revl a=>∃ fp p,args=[.Call (.Name "reversed" fp) [a] [] p] ∧ f="list" ∧ c.glob "list"=true ∧ c.glob "reversed"=true
 | .isi a t=>∃ tp,args=[a,.Name t tp] ∧ f="isinstance" ∧ c.glob "isinstance"=true ∧ c.glob t=true ∧ (t == ("__debug__":Str))=false
 | .plain=>True
theorem A0 (c:CE) (f:Str) (args:List Expr):xy c f args (jo c f args):=by
 rcases args with _ | ⟨a,_ | ⟨b,_ | ⟨d,args⟩⟩⟩
 ·exact True.intro
 ·show xy c f [a] (match j9 a with | some t=>ck1 c f t | none=>.plain)
  cases q:j9 a with
  | none=>exact True.intro
  | some t =>
   obtain ⟨fp,p,rfl⟩:=nS q
   obtain ⟨x,b⟩:=t
   show xy c f _ (ck1 c f (x,b))
   rcases vT (c:=c) (f:=f) (t:=(x,b)) rfl with ⟨h,h1,h2,h3,h4⟩ | ⟨h,h1,h2,h3,h4⟩ | h <;> rw [h]
   ·have h2:x=_:=h2
    subst h2; exact ⟨fp,p,rfl,h1,h3,h4⟩
   ·have h2:x=_:=h2
    subst h2; exact ⟨fp,p,rfl,h1,h3,h4⟩
   ·exact True.intro
 ·show xy c f [a,b] (match d8 b with | some x=>ck2 c f a x | none=>.plain)
  cases q:d8 b with
  | none=>exact True.intro
  | some x =>
   obtain ⟨p,rfl⟩:=bY q
   show xy c f _ (ck2 c f a x)
   rcases vJ (c:=c) (f:=f) (a:=a) (t:=x) rfl with ⟨h,h1,h2,h3,h4⟩ | h <;> rw [h]
   ·exact ⟨p,rfl,h1,h2,h3,h4⟩
   ·exact True.intro
 ·exact True.intro
section
variable {g:Cfg}{K:Frag}{c0:CE}{fa:Nat→Option Addr}{call:Nat→List V→Sto→RE}{r n:Nat}{names:List (Str × NameKind)}{e':E}
theorem wF {k:Const}{a:Nat}{p:Pos} (h:vC k=some e'):aQ g c0 call r names (.Constant k a p) e':=by
 cases k with
 | none=>exact si h xA
 | bool b=>exact si h zi
 | int b=>exact si h Aw
 | str b=>exact si h Au
 | _=>exact nn h
theorem zy {x:Str}{p:Pos} (G:bH g K c0 fa) (h:xY (c0.sub names) x=some e'):aQ g c0 call r names (.Name x p) e':=by
 obtain ⟨h1,h2⟩:=aw h
 obtain ⟨hd,hc⟩:=af h1
 cases q:(c0.sub names).loc? x with
 | some i=>rw [q] at h2; exact si h2 (Br q (aZ hd) (aZ hc))
 | none =>
  rw [q] at h2
  obtain ⟨hg,h3⟩:=aw h2
  refine b6 h3 fun i hi qx2=>?_; subst qx2
  exact v5 G hg (aZ hd) hi
theorem Ac {l rt:Expr}{op:Operator}{p:Pos} (IH:bE g c0 call r n) (h:Ag (al n (c0.sub names)) l op rt=some e'):aQ g c0 call r names (.BinOp l op rt p) e':=by
 unfold Ag at h
 cases q:BL op with
 | true =>
  rw [q] at h
  refine bV h fun a b h1 h2 qx4=>?_; subst qx4
  exact Aq IH h1 h2
 | false =>
  rw [q] at h
  have h0:=(aw h).1
  refine (be (aw h).2).elim fun a h=>(be h.2).elim fun b h'=>(gD h.1).elim fun k1 q1=>q1.elim fun p1 q1=>(gD h'.1).elim fun k2 q2=>q2.elim fun p2 q2=>?_
  have h3:=aw h'.2
  rw [q1,q2]
  clear q1 q2 h h'
  cases op <;> first | exact ft h0 | skip
  exact si h3.2 (AD (of_decide_eq_true h3.1))
theorem BS {op:UnaryOp}{x:Expr}{p:Pos} (IH:bE g c0 call r n) (h:cUn (al n (c0.sub names)) op x=some e'):aQ g c0 call r names (.UnaryOp op x p) e':=by
 cases op with
 | Not=>refine b6 h fun a h1 qx2=>?_; subst qx2; exact zU IH h1
 | USub=>refine b6 h fun a h1 qx2=>?_; subst qx2; exact Bp IH h1
 | _=>exact nn h
theorem pf {f:Expr→Option E}{l:Expr}{ops:List CmpOp}{rs:List Expr}{P:List CmpOp→List Expr→E→Prop} (h:zI f l ops rs=some e')
  (H1:∀ op m a b,dC op m=true→f l=some a→f m=some b→P [op] [m] (.cmp op a b)) (H2:∀ o1 o2 m rt a b d,dC o2 rt=true→f l=some a→f m=some b→f rt=some d→P [o1,o2] [m,rt] (.cmp2 o1 o2 a b d)):P ops rs e':=by
 rcases ops with _ | ⟨o1,_ | ⟨o2,_ | ⟨o3,os⟩⟩⟩
 ·exact nn h
 ·rcases rs with _ | ⟨m,_ | ⟨rt,rs⟩⟩
  ·exact nn h
  ·obtain ⟨h0,h⟩:=aw h
   refine bV h fun a b h1 h2 qx4=>?_; subst qx4
   exact H1 _ _ _ _ h0 h1 h2
  ·exact nn h
 ·rcases rs with _ | ⟨m,_ | ⟨rt,_ | ⟨r3,rs⟩⟩⟩
  ·exact nn h
  ·exact nn h
  ·obtain ⟨h0,h⟩:=aw h
   refine d4 h fun a b d h1 h2 h3 qx6=>?_; subst qx6
   exact H2 _ _ _ _ _ _ _ h0 h1 h2 h3
  ·exact nn h
 ·exact nn h
theorem zR {l:Expr}{ops:List CmpOp}{rs:List Expr}{p:Pos} (G:bH g K c0 fa) (IH:bE g c0 call r n) (h:zI (al n (c0.sub names)) l ops rs=some e'):aQ g c0 call r names (.Compare l ops rs p) e' :=
 pf (P:=fun ops rs e'=>aQ g c0 call r names (.Compare l ops rs p) e') h (fun _ _ _ _ h0 h1 h2=>Af G IH h0 h1 h2) fun _ _ _ _ _ _ _ h0 h1 h2 h3=>xD G IH h0 h1 h2 h3
theorem wZ {v:Expr}{a b d:Option Expr}{p1 p:Pos} (IH:bE g c0 call r n) (h:vf (al n (c0.sub names)) v a b d=some e'):aQ g c0 call r names (.Subscript v (.Slice a b d p1) p) e':=by
 cases a with
 | some lo=>cases b with
  | some=>exact nn h
  | none=>cases d with
   | some=>exact nn h
   | none=>refine bV h fun x y h1 h2 qx4=>?_; subst qx4; exact z0 IH h1 h2
 | none=>cases b with
  | some hi=>cases d with
   | some=>exact nn h
   | none=>refine bV h fun x y h1 h2 qx4=>?_; subst qx4; exact Aa IH h1 h2
  | none=>cases d with
   | some st=>exact nn h
   | none=>exact nn h
theorem Aj {v i:Expr}{p:Pos} (IH:bE g c0 call r n) (h:zk (al n (c0.sub names)) v i=some e'):aQ g c0 call r names (.Subscript v i p) e':=by
 have plain:fQ E.sub (al n (c0.sub names) v) (al n (c0.sub names) i)=some e'→aQ g c0 call r names (.Subscript v i p) e':=fun h=>by
  refine bV h fun x y h1 h2 qx4=>?_; subst qx4; exact Ay IH h1 h2
 unfold zk at h
 cases q:vw i <;> rw [q] at h <;> first | exact plain h | skip
 obtain ⟨p1,rfl⟩:=bL q
 exact wZ IH h
theorem xB {ks:List (Option Expr)}{vs:List Expr}{p:Pos} (G:bH g K c0 fa) (IH:bE g c0 call r n) (h:xX (al n (c0.sub names)) ks vs=some e'):aQ g c0 call r names (.Dict ks vs p) e':=by
 rcases ks with _ | ⟨_ | k,_ | ⟨k2,ks⟩⟩
 ·cases vs with
  | nil=>exact si h (wW G)
  | cons=>exact nn h
 ·exact nn h
 ·exact nn h
 ·rcases vs with _ | ⟨v,_ | ⟨v2,vs⟩⟩
  ·exact nn h
  ·refine bV h fun x y h1 h2 qx4=>?_; subst qx4; exact v3 G IH h1 h2
  ·exact nn h
 ·exact nn h
theorem jJ {c:CE}{f:Expr→Option E}{x:Str}{args:List Expr}{fp:Pos} (Ψ:Expr→List Expr→E→Prop) (h:mY c f x args=some e')
  (H1:∀ fp fp1 p1 a y,c.glob "len"=true→c.glob "set"=true→c.hnd=false→f a=some y→Ψ (.Name "len" fp) [.Call (.Name "set" fp1) [a] [] p1] (.blt .setLen [y]))
  (H2:∀ fp fp1 p1 a y,c.glob "list"=true→c.glob "reversed"=true→c.hnd=false→f a=some y→Ψ (.Name "list" fp) [.Call (.Name "reversed" fp1) [a] [] p1] (.blt .revl [y]))
  (H3:∀ fp a t tp y ty,c.glob "isinstance"=true→c.glob t=true→rj c t=some ty→(t == ("__debug__":Str))=false→f a=some y→Ψ (.Name "isinstance" fp) [a,.Name t tp] (.isi y ty))
  (H4:∀ x fp args es b,c.glob x=true→(x == ("__debug__":Str))=false→bltName.lookup x=some b→bOk b=true→c.hnd=false→aV f args=some es→Ψ (.Name x fp) args (.blt b es))
  (H5:∀ x fp args es k,c.glob x=true→(x == ("__debug__":Str))=false→c.fns.lookup x=some k→aV f args=some es→Ψ (.Name x fp) args (.call k es))
  (H6:∀ x fp args es k,c.glob x=true→(x == ("__debug__":Str))=false→c.tfns.lookup x=some k→c.top=some c.names→aV f args=some es→Ψ (.Name x fp) args (.tcall k es))
  (H7:∀ x fp args es k,c.glob x=true→(x == ("__debug__":Str))=false→c.clss.lookup x=some k→aV f args=some es→Ψ (.Name x fp) args (.mk k es)):Ψ (.Name x fp) args e':=by
 have hk:=A0 c x args
 unfold mY at h
 cases q:jo c x args with
 | setLen a =>
  rw [q] at h hk
  refine (bN (aw h).2).elim fun y h1=>hk.elim fun fp1 hk=>hk.elim fun p1 hk=>?_
  rw [hk.1,hk.2.1,← h1.2]
  exact H1 _ _ _ _ _ hk.2.2.1 hk.2.2.2 (aZ (aw h).1) h1.1
 | revl a =>
  rw [q] at h hk
  refine (bN (aw h).2).elim fun y h1=>hk.elim fun fp1 hk=>hk.elim fun p1 hk=>?_
  rw [hk.1,hk.2.1,← h1.2]
  exact H2 _ _ _ _ _ hk.2.2.1 hk.2.2.2 (aZ (aw h).1) h1.1
 | isi a t =>
  rw [q] at h hk
  refine (dY h).elim fun y h=>h.elim fun ty h=>hk.elim fun tp hk=>?_
  rw [hk.1,hk.2.1,← h.2.2]
  exact H3 _ _ _ _ _ _ hk.2.2.1 hk.2.2.2.1 h.2.1 hk.2.2.2.2 h.1
 | plain =>
  rw [q] at h
  have h0:=af (af (aw h).1).2
  refine (be (aw h).2).elim fun es' h=>?_
  have h2:=h.2
  unfold iR at h2
  cases q1:bltName.lookup x with
  | some b=>rw [q1] at h2; exact si (P:=Ψ _ _) (aw h2).2 (H4 _ _ _ _ _ h0.1 (aZ h0.2) q1 (af (aw h2).1).1 (aZ (af (aw h2).1).2) h.1)
  | none =>
   rw [q1] at h2
   cases q2:c.fns.lookup x with
   | some k=>rw [q2] at h2; exact si (P:=Ψ _ _) h2 (H5 _ _ _ _ _ h0.1 (aZ h0.2) q2 h.1)
   | none =>
    rw [q2] at h2
    cases q3:c.tfns.lookup x with
    | some k=>rw [q3] at h2; exact si (P:=Ψ _ _) (aw h2).2 (H6 _ _ _ _ _ h0.1 (aZ h0.2) q3 (eq_of_beq (aw h2).1) h.1)
    | none =>
    rw [q3] at h2
    refine (bN h2).elim fun k h3=>?_
    rw [← h3.2]
    exact H7 _ _ _ _ _ h0.1 (aZ h0.2) h3.1 h.1
set_option tactic.hygienic true in
theorem kF {c:CE}{f:Expr→Option E}{x:Str}{args:List Expr}{k:Keyword} (Ψ:Str→List Expr→Keyword→E→Prop) (h:sq c f x args k=some e')
  (H1:∀ a y k1 p1 kp,c.glob "max"=true→c.hnd=false→f a=some y→Ψ "max" [a] ⟨some "default",.Constant .none k1 p1,kp⟩ (.maxd y))
  (H2:∀ x a kw ps body sc lp kp e',pX c f x a kw (ps,body,sc,lp)=some e'→Ψ x [a] ⟨kw,.Lambda ps body sc lp,kp⟩ e'):Ψ x args k e':=by
 rcases args with _ | ⟨a,_ | ⟨b,args⟩⟩
 ·exact nn h
 ·obtain ⟨kw,kv,kp⟩:=k
  have h:(match vw kv with
   | .const v=>(match v with | .none=>gd (kw == some ("default":Str) && (x == ("max":Str) && (c.glob x && !c.hnd))) ((f a).map .maxd) | _=>none)
   | .lam t=>pX c f x a kw t
   | _=>none)=some e':=h
  cases q:vw kv <;> rw [q] at h <;> first | exact nn h | skip
  ·rename_i v
   cases v <;> first | exact nn h | skip
   have g:=aw h
   have g1:=af g.1
   have g2:=af g1.2
   obtain ⟨k1,p1,e2⟩:=bL q
   refine b6 g.2 fun y h4 e4=>?_
   rw [show kw=_ from eq_of_beq g1.1,show x=_ from eq_of_beq g2.1,show kv=_ from e2,← e4]
   exact H1 _ _ _ _ _ (show c.glob "max"=true from (eq_of_beq g2.1) ▸ (af g2.2).1) (aZ (af g2.2).2) h4
  ·rename_i t
   rw [show kv=_ from bL q]
   exact H2 _ _ _ _ _ _ _ _ _ h
 ·exact nn h
theorem kM {c:CE}{f:Expr→Option E}{t:Expr × Str × Pos}{args:List Expr}{p:Pos} (Ψ:E→Prop) (h:nk c f t args p=some e')
  (H1:∀ a es m,dr t.1=true→args.length ≤ 8→(t.2.2.endLine == p.line)=true→f t.1=some a→aV f args=some es→dX.lookup t.2.1=some m→Ψ (.meth a m es))
  (H2:∀ a es k,dr t.1=true→args.length ≤ 8→(t.2.2.endLine == p.line)=true→f t.1=some a→aV f args=some es→c.mths.lookup t.2.1=some k→Ψ (.umeth a k es))
  (H3:∀ a k d,dr t.1=true→args.length ≤ 8→(t.2.2.endLine == p.line)=true→f t.1=some a→aV f args=some [k,d]→t.2.1="get"→Ψ (.dget a k d))
  : Ψ e':=by
 have g:=aw h
 have g1:=af g.1
 have g2:=af g1.2
 refine (be g.2).elim fun a h=>(be h.2).elim fun es h'=>?_
 have h3:=h'.2
 unfold ny at h3
 cases q:dX.lookup t.2.1 with
 | some m=>rw [q] at h3; exact si (P:=Ψ) h3 (H1 _ _ _ g2.1 (of_decide_eq_true g1.1) g2.2 h.1 h'.1 q)
 | none =>
  rw [q] at h3
  cases q2:t.2.1 == ("get":Str) with
  | true =>
   rw [q2] at h3
   rcases es with _ | ⟨k,_ | ⟨d,_ | ⟨x,es⟩⟩⟩ <;> first | exact nn h3 | skip
   exact si (P:=Ψ) h3 (H3 _ _ _ g2.1 (of_decide_eq_true g1.1) g2.2 h.1 h'.1 (eq_of_beq q2))
  | false =>
  rw [q2] at h3
  refine (bN h3).elim fun k h7=>?_
  rw [← h7.2]
  exact H2 _ _ _ g2.1 (of_decide_eq_true g1.1) g2.2 h.1 h'.1 h7.1
theorem mj {f:Expr→Option E}{s:Str}{o:Expr}{x:Str}{ap p:Pos}{args:List Expr} (Ψ:Str→List Expr→E→Prop) (h:sM f s (o,x,ap) args p=some e')
  (H:∀ a y,(ap.endLine == p.line)=true→f a=some y→Ψ "join" [a] (.join s y)):Ψ x args e':=by
 rcases args with _ | ⟨a,_ | ⟨b,args⟩⟩
 ·exact nn h
 ·have g:=aw h
  have g1:=af g.1
  refine b6 g.2 fun y h3 e=>?_
  rw [show x=_ from eq_of_beq g1.1,← e]
  exact H _ _ g1.2 h3
 ·exact nn h
set_option tactic.hygienic true in
theorem mI {c:CE}{f:Expr→Option E}{fn:Expr}{args:List Expr}{ks:List Keyword}{p:Pos} (Ψ:Expr→List Keyword→Prop) (h:tY c f fn args ks p=some e')
  (HN:∀ x fp,mY c f x args=some e'→Ψ (.Name x fp) []) (HK:∀ x fp k,sq c f x args k=some e'→Ψ (.Name x fp) [k])
  (HM:∀ o x ap,nk c f (o,x,ap) args p=some e'→Ψ (.Attribute o x ap) []) (HJ:∀ s a p1 x ap,sM f s (.Constant (.str s) a p1,x,ap) args p=some e'→Ψ (.Attribute (.Constant (.str s) a p1) x ap) []):Ψ fn ks:=by
 unfold tY at h
 cases q:d8 fn with
 | some x =>
  rw [q] at h
  refine (bY q).elim fun fp q=>?_
  rw [q]
  rcases ks with _ | ⟨k,_ | ⟨k2,ks⟩⟩
  ·exact HN _ _ h
  ·exact HK _ _ _ h
  ·exact nn h
 | none =>
  rw [q] at h
  cases ks with
  | cons=>exact nn h
  | nil =>
   cases q:vw fn <;> rw [q] at h <;> first | exact nn h | skip
   rename_i t
   obtain ⟨o,x,ap⟩:=t
   rw [show fn=_ from bL q]
   have h:(match vw o with | .const k=>(match k with | .str s=>sM f s (o,x,ap) args p | _=>none) | _=>nk c f (o,x,ap) args p)=some e':=h
   cases q:vw o <;> rw [q] at h <;> first | exact HM _ _ _ h | skip
   rename_i k
   cases k <;> first | exact nn h | skip
   refine (bL q).elim fun a q=>q.elim fun p1 q=>?_
   rw [q] at h ⊢
   exact HJ _ _ _ _ _ h
theorem ze {fn:Expr}{args:List Expr}{ks:List Keyword}{p:Pos} (G:bH g K c0 fa) (C:ci g K c0 fa call r) (IH:bE g c0 call r n) (h:tY (c0.sub names) (al n (c0.sub names)) fn args ks p=some e'):aQ g c0 call r names (.Call fn args ks p) e' :=
 mI (fun fn ks=>aQ g c0 call r names (.Call fn args ks p) e') h
  (fun x fp h=>jJ (fun fn args e'=>aQ g c0 call r names (.Call fn args [] p) e') h (fun _ _ _ _ _ g1 g2 hh h1=>tE G IH g1 g2 hh h1) (fun _ _ _ _ _ g1 g2 hh h1=>zh G IH g1 g2 hh h1) (fun _ _ _ _ _ _ g1 g2 h2 g3 h1=>Ap G IH g1 g2 h2 g3 h1)
   (fun _ _ _ _ _ hg hd q hk hh h1=>zW G IH hg hd q hk hh h1) (fun _ _ _ _ _ hg hd q h1=>zo G C.ok IH hg hd q h1)
   (fun _ _ _ _ _ hg hd q ht h1=>wG G C.t IH hg hd q ht h1)
   (fun _ _ _ _ _ hg hd q h1=>BY G C.ok IH hg hd q h1))
  (fun x fp k h=>kF (fun x args k e'=>aQ g c0 call r names (.Call (.Name x fp) args [k] p) e') h (fun _ _ _ _ _ hg hh h1=>yV G IH hg hh h1) fun _ _ _ _ _ _ _ _ _ h=>yq G IH h)
  (fun o x ap h=>kM (fun e'=>aQ g c0 call r names (.Call (.Attribute o x ap) args [] p) e') h (fun _ _ _ h2 h1 h0 h5 h6 q=>xv IH h2 h1 h0 h5 h6 q) (fun _ _ _ h2 h1 h0 h5 h6 h7=>wO G C.ok IH h2 h1 h0 h5 h6 h7)
   (fun _ _ _ h2 h1 h0 h5 h6 q=>by rw [show x=_ from q]; exact zc IH h2 h1 h0 h5 h6)
   )
  fun s a p1 x ap h=>mj (fun x args e'=>aQ g c0 call r names (.Call (.Attribute (.Constant (.str s) a p1) x ap) args [] p) e') h fun _ _ h2 h3=>xZ IH h2 h3
theorem qh {gens:List Comprehension}{t:Expr × Expr × List Expr} (h:uY gens=some t):gens=[⟨t.1,t.2.1,t.2.2,0⟩]:=by
 rcases gens with _ | ⟨⟨a,b,c,d⟩,_ | ⟨g2,gs⟩⟩
 ·exact nn h
 ·obtain ⟨h0,h⟩:=aw h
  have e1:d=0:=eq_of_beq h0
  subst e1
  exact si (P:=fun t=>[(⟨a,b,c,0⟩:Comprehension)]=[⟨t.1,t.2.1,t.2.2,0⟩]) h rfl
 ·exact nn h
theorem ng {elt:Expr}{gens:List Comprehension}{sc:Scope} (Ψ:List Comprehension→E→Prop) (h:wE (c0.sub names) (al n) elt gens sc=some e')
  (H:∀ target iter ifs it' tg one cs x' frm,oJ sc=true→al n (c0.sub names) iter=some it'→tgt (c0.sub sc.names) target=some (tg,one)→aV (al n (c0.sub sc.names)) ifs=some cs→al n (c0.sub sc.names) elt=some x'→fo (c0.sub names) sc=some frm→Ψ [⟨target,iter,ifs,0⟩] (.comp tg one it' cs x' frm)):Ψ gens e' :=
 (be (aw h).2).elim fun t h1=>(be h1.2).elim fun it h2=>(be h2.2).elim fun tg h3=>(be h3.2).elim fun cs h4=>(be h4.2).elim fun x h5=>(bN h5.2).elim fun fr h6=>by
  rw [qh h1.1,← h6.2]
  exact H _ _ _ _ _ _ _ _ _ (aw h).1 h2.1 h3.1 h4.1 h5.1 h6.1
theorem yP {elt:Expr}{gens:List Comprehension}{sc:Scope}{p:Pos} (IH:bE g c0 call r n) (IT:kX g c0 call r n) (h:wE (c0.sub names) (al n) elt gens sc=some e'):aQ g c0 call r names (.ListComp elt gens sc p) e' :=
 ng (fun gens e'=>aQ g c0 call r names (.ListComp elt gens sc p) e') h fun _ _ _ _ _ _ _ _ _ ho q1 q2 q3 q4 q5=>yC IH IT q1 q2 q3 q4 q5 ho
theorem nG (G:bH g K c0 fa) (I:bB g) (C:ci g K c0 fa call r) (IH:bE g c0 call r n) (IT:kX g c0 call r n) (e:Expr) (e':E) (h:al (n + 1) (c0.sub names) e=some e'):aQ g c0 call r names e e':=by
 cases e with
 | Constant k a p=>exact wF h
 | Name x p=>exact zy G h
 | BoolOp op vs p=>refine bM h fun es h1 h2=>?_; exact sL IH h1 h2
 | BinOp l op rt p=>exact Ac IH h
 | UnaryOp op x p=>exact BS IH h
 | Compare l ops rs p=>exact zR G IH h
 | Subscript v i p=>exact Aj IH h
 | Attribute v x p=>obtain ⟨h0,h⟩:=aw h; refine bV h fun a k h1 h2 qx4=>?_; subst qx4; exact yL G I IH h0 h1 h2
 | List es p=>obtain ⟨h0,h⟩:=aw h; refine b6 h fun a h1 qx2=>?_; subst qx2; exact yJ IH h1
 | Tuple es k p=>obtain ⟨h0,h⟩:=aw h; refine b6 h fun a h1 qx2=>?_; subst qx2; exact AT IH h1
 | Dict ks vs p=>exact xB G IH h
 | Call fn args ks p=>exact ze G C IH h
 | ListComp elt gens sc p=>exact yP IH IT h
 | _=>exact nn h
end
end Mine
namespace Mine
open PySem PyProof.Rows PySem.W
section
variable {g:Cfg}{K:Frag}{c0:CE}{fa:Nat→Option Addr}{call:Nat→List V→Sto→RE}{r n:Nat}{names:List (Str × NameKind)}
theorem sj {e:Expr}{e':E} (hE:aQ g c0 call r names e e') (hi:∀ (env:Env) (whole:Sem Value),isTrue e env whole=(do let v ← whole; standAt e.pos; holding [v] (truthy v))):kK g c0 call r names e e' :=
 fun env A X s as fr σ σ' v Q N hA T ev hQ=>by
  refine wpAny_isTrue_value (hE env A X s as fr σ σ' (.bool v) _ N hA T ev fun val as' h' tk st R' F' r'=>?_) (hi _ _)
  rw [RepV] at r'; subst r'
  exact wpAny_truthy_bool (hQ as' h' tk st R' F')
theorem yK {l:Expr}{ops:List CmpOp}{rs:List Expr}{p:Pos}{e':E} (G:bH g K c0 fa) (IH:bE g c0 call r n) (h:zI (al n (c0.sub names)) l ops rs=some e'):kK g c0 call r names (.Compare l ops rs p) e' :=
 pf (P:=fun ops rs e'=>kK g c0 call r names (.Compare l ops rs p) e') h (fun _ _ _ _ h0 h1 h2=>AX G IH h0 h1 h2) fun _ _ _ _ _ _ _ h0 h1 h2 h3=>xt G IH h0 h1 h2 h3
theorem yx (G:bH g K c0 fa) (I:bB g) (C:ci g K c0 fa call r) (IH:bE g c0 call r n) (IT:kX g c0 call r n) (e:Expr) (e':E) (h:al (n + 1) (c0.sub names) e=some e'):kK g c0 call r names e e':=by
 have hE:=nG G I C IH IT e e' h
 have hk:=cW h
 cases e with
 | UnaryOp op x p =>
  cases op with
  | Not=>refine b6 h fun a h1 qx2=>?_; subst qx2; exact A3 IT h1
  | _=>exact sj hE fun _ _=>rfl
 | BoolOp op vs p=>refine bM h fun es h1 h2=>?_; exact tc IT h1 h2
 | Compare l ops rs p=>exact yK G IH h
 | _=>first | exact sj hE (fun _ _=>rfl) | exact ft hk
theorem cb (G:bH g K c0 fa) (I:bB g) (C:ci g K c0 fa call r):∀ n,bE g c0 call r n ∧ kX g c0 call r n
 | 0=>⟨fun names e e' h=>nn h,fun names e e' h=>nn h⟩
 | n + 1=>⟨fun names e e' h=>nG G I C (cb G I C n).1 (cb G I C n).2 e e' h,fun names e e' h=>yx G I C (cb G I C n).1 (cb G I C n).2 e e' h⟩
end
end Mine
namespace Mine
open PySem PyProof.Rows PySem.W
noncomputable def fV (as:List Addr) (h:Heap):Fl→Flow→Prop
 | .next,f=>f=.next
 | .brk,f=>f=.brk
 | .cont,f=>f=.cont
 | .ret v,f=>∃ val,f=.ret val ∧ RepV as h v val
noncomputable def fF (g:Cfg) (env:Env) (as:List Addr) (s:Shared) (fl:Fl) (fr':Fra) (σ':Sto) (Q:Flow→Shared→Prop):Prop :=
 ∀ (f:Flow) (as':List Addr) (h':Heap) (tk:Nat),fV as' h' fl f→aD (ownOf env) as s.heap as' h'→Rel g as' σ' h'→ay g env as' fr' h'→Q f { s with heap:=h',toks:=tk }
noncomputable def xm (g:Cfg) (c0:CE) (call:Nat→List V→Sto→RE) (wf r n:Nat):Prop :=
 ∀ (names:List (Str × NameKind)) (st:Stmt) (st':S),b8 n (c0.sub names) st=some st' →
 ∀ (env:Env) (A:Around) (X:Value→Shared→Prop) (s:Shared) (as:List Addr) (fr fr':Fra) (σ σ':Sto) (fl:Fl) (Q:Flow→Shared→Prop),
  aq (c0.sub names) env A→b5 g A (r + 1)→At g env as fr σ s→evS call wf st' fr σ=.ok fl fr' σ'→fF g env as s fl fr' σ' Q→wpAny (model g.prog g.w) A (exec st env) Q X s
theorem fV.go {as:List Addr}{h:Heap}{fl:Fl}{f:Flow} (hfl:fl=.next ∨ fl=.cont) (hf:fV as h fl f):f=.next ∨ f=.cont:=by
 rcases hfl with rfl | rfl
 ·exact .inl hf
 ·exact .inr hf
set_option backward.match.sparseCases false in
theorem vd {call:Nat→List V→Sto→RE}{wf:Nat}{s:S}{ss:List S}{fr:Fra} {σ:Sto}:evSs call wf (s :: ss) fr σ=(match evS call wf s fr σ with | .ok .next fr σ=>evSs call wf ss fr σ | r=>r):=rfl
theorem g9 {Ψ:Fl→Fra→Sto→Prop}{f g:Fl}{a b:Fra}{s t:Sto} (e:RS.ok f a s=.ok g b t) (h:Ψ g b t):Ψ f a s:=by cases e; exact h
theorem nr {r:RS}{k:Fra→Sto→RS}{fr':Fra} {σ':Sto}{fl:Fl}{G:Prop} (Ψ:Fl→Fra→Sto→Prop) (e:sz r k=.ok fl fr' σ') (hΨ:Ψ fl fr' σ') (h2:∀ fl1 fr2 σ2,r=.ok fl1 fr2 σ2→(fl1=.next ∨ fl1=.cont)→k fr2 σ2=.ok fl fr' σ'→G)
  (h3:∀ fr2 σ2,r=.ok .brk fr2 σ2→Ψ .next fr2 σ2→G) (h4:∀ fr2 σ2 w,r=.ok (.ret w) fr2 σ2→Ψ (.ret w) fr2 σ2→G):G:=by
 cases r with
 | ok f fr2 σ2=>cases f with
  | next=>exact h2 _ _ _ rfl (.inl rfl) e
  | cont=>exact h2 _ _ _ rfl (.inr rfl) e
  | brk=>exact h3 _ _ rfl (g9 e hΨ)
  | ret w=>exact h4 _ _ _ rfl (g9 e hΨ)
 | ex x fr2 σ2=>exact nomatch (show RS.ex x fr2 σ2=_ from e)
 | bad=>exact nomatch (show RS.bad=_ from e)
theorem ur {src:Src}{tg:List Nat}{one:Bool}{body:Fra→Sto→RS}{n i:Nat}{fr fr':Fra} {σ σ':Sto}{fl:Fl}{G:Prop} (Ψ:Fl→Fra→Sto→Prop) (ev:oR tg one body src n i fr σ=.ok fl fr' σ') (hΨ:Ψ fl fr' σ')
  (h1:bh σ i src=some none→Ψ .next fr σ→G)
  (h2:∀ n' v fr1 fl1 fr2 σ2,n' < n→bh σ i src=some (some v)→bF tg one v fr=some fr1→body fr1 σ=.ok fl1 fr2 σ2→(fl1=.next ∨ fl1=.cont)→oR tg one body src n' (i + 1) fr2 σ2=.ok fl fr' σ'→G)
  (h3:∀ v fr1 fr2 σ2,bh σ i src=some (some v)→bF tg one v fr=some fr1→body fr1 σ=.ok .brk fr2 σ2→Ψ .next fr2 σ2→G)
  (h4:∀ v fr1 fr2 σ2 w,bh σ i src=some (some v)→bF tg one v fr=some fr1→body fr1 σ=.ok (.ret w) fr2 σ2→Ψ (.ret w) fr2 σ2→G):G:=by
 cases n with
 | zero=>exact nomatch ev
 | succ n=>exact i5 ev (fun q=>nomatch q) (fun o e=>h1 o (g9 e hΨ)) fun v o e=>eB e (fun _ q=>nomatch q) fun fr1 hb e=>nr Ψ e hΨ (fun f fr2 σ2 q=>h2 n v fr1 f fr2 σ2 (Nat.lt_succ_self _) o hb q) (fun fr2 σ2=>h3 v fr1 fr2 σ2 o hb) fun fr2 σ2 w=>h4 v fr1 fr2 σ2 w o hb
theorem sT {r:RE}{fr:Fra}{k:V→Sto→RS}{fl:Fl}{fr':Fra} {σ':Sto} (e:r.bindS fr k=.ok fl fr' σ'):∃ u τ,r=.ok u τ ∧ k u τ=.ok fl fr' σ':=by
 cases r with
 | ok u τ=>exact ⟨u,τ,rfl,e⟩
 | ex x τ=>cases e
 | bad=>cases e
theorem cr {r:RE}{fr:Fra}{k:V→Sto→RS}{fl:Fl}{fr':Fra} {σ':Sto}{P:Prop} (e:r.bindS fr k=.ok fl fr' σ') (h:∀ u τ,r=.ok u τ→k u τ=.ok fl fr' σ'→P):P:=let ⟨u,τ,h1,h2⟩:=sT e; h u τ h1 h2
theorem t8 {r:RE}{fr:Fra}{k:V→Sto→RS}{fl:Fl}{fr':Fra} {σ':Sto}{b:Bool} (e:r.bindX b fr k=.ok fl fr' σ'):∃ u τ,r=.ok u τ ∧ k u τ=.ok fl fr' σ':=by
 cases r with
 | ok u τ=>exact ⟨u,τ,rfl,e⟩
 | ex x τ=>cases b <;> cases e
 | bad=>cases e
theorem jg {r:RE}{fr:Fra}{k:V→Sto→RS}{fl:Fl}{fr':Fra} {σ':Sto}{P:Prop}{b:Bool} (e:r.bindX b fr k=.ok fl fr' σ') (h:∀ u τ,r=.ok u τ→k u τ=.ok fl fr' σ'→P):P:=let ⟨u,τ,h1,h2⟩:=t8 e; h u τ h1 h2
section
variable {g:Cfg}{K:Frag}{c0:CE}{fa:Nat→Option Addr}{call:Nat→List V→Sto→RE}{env:Env}{A:Around}{X:Value→Shared→Prop}{s:Shared}{as:List Addr}{fr fr':Fra} {σ σ':Sto}{wf r n:Nat}
 {names:List (Str × NameKind)}{fl:Fl}{Q:Flow→Shared→Prop}
theorem oF {h:Heap} (F:ay g env as fr h):∀ a ∈ ownOf env,∀ o,h.get? a=some o→¬ Imm o:=fun a ha o e hi=>by
 rcases b7 ha with rfl | ⟨x,hx⟩
 ·exact F.notImm _ (.head _) o e hi
 ·obtain ⟨cv,o',e',hd⟩:=(F.offc _ _ hx).2.2
  rw [e] at e'; cases e'; exact hi.2.2 _ hd
theorem gk {as':List Addr}{h':Heap}{tk:Nat} (hQ:fF g env as s fl fr' σ' Q) (x:aD (ownOf env) as s.heap as' h'):fF g env as' { s with heap:=h',toks:=tk } fl fr' σ' Q :=
 fun f as2 h2 tk2 hf st R2 F2=>hQ f as2 h2 tk2 hf (x.trans st R2.nd F2.offs) R2 F2
theorem up {as':List Addr}{h h':Heap} (x:aD [env.locals] as h as' h'):aD (ownOf env) as h as' h':=x.grow (by intro a ha; simp at ha; subst ha; exact .head _)
noncomputable def lf (g:Cfg) (c0:CE) (call:Nat→List V→Sto→RE) (wf r n:Nat):Prop :=
 ∀ (names:List (Str × NameKind)) (sts:List Stmt) (sts':List S),aV (b8 n (c0.sub names)) sts=some sts' →
 ∀ (env:Env) (A:Around) (X:Value→Shared→Prop) (s:Shared) (as:List Addr) (fr fr':Fra) (σ σ':Sto) (fl:Fl) (Q:Flow→Shared→Prop),
  aq (c0.sub names) env A→b5 g A (r + 1)→At g env as fr σ s→evSs call wf sts' fr σ=.ok fl fr' σ'→fF g env as s fl fr' σ' Q→wpAny (model g.prog g.w) A (execs sts env) Q X s
set_option tactic.hygienic true in
theorem eG (IS:xm g c0 call wf r n):lf g c0 call wf r n:=by
 intro names sts
 induction sts with
 | nil =>
  intro sts' h env A X s as fr fr' σ σ' fl Q N hA T ev hQ
  rw [dN] at h; cases h
  cases (show RS.ok .next fr σ=_ from ev)
  exact wpAny_execs_nil (hQ .next as s.heap s.toks rfl (aD.refl _ _ _) T.R T.F)
 | cons st sts ih =>
  intro sts' h env A X s as fr fr' σ σ' fl Q N hA T ev hQ
  refine cn h fun a as' h1 h2 qx4=>?_; subst qx4
  rw [vd] at ev
  refine wpAny_execs_cons ?_
  split at ev
  ·rename_i f1 σ1 he
   refine IS names st a h1 env A X s as fr f1 σ σ1 .next _ N hA T he fun f as1 k1 tk1 hf st1 R1 F1=>?_
   have hf':f=.next:=hf
   subst hf'
   exact ih as' h2 env A X _ as1 f1 fr' σ1 σ' fl Q N hA ⟨F1,R1⟩ ev (gk hQ st1)
  ·rename_i hn
   refine IS names st a h1 env A X s as fr fr' σ σ' fl _ N hA T ev fun f as1 k1 tk1 hf st1 R1 F1=>?_
   have hq:=hQ f as1 k1 tk1 hf st1 R1 F1
   cases fl with
   | next=>exact absurd ev (hn _ _)
   | brk=>have:f=.brk:=hf; subst this; exact hq
   | cont=>have:f=.cont:=hf; subst this; exact hq
   | ret v=>obtain ⟨val,hv,_⟩:=hf; subst hv; exact hq
structure FI (g:Cfg) (env:Env) (fr:Fra) (s:Shared) (as:List Addr) (src:Src) (I:Addr) (i:Nat) (as1:List Addr) (σ:Sto) (h:Heap):Prop where
 st:aD (ownOf env) as s.heap as1 h
 R:Rel g as1 σ h
 F:ay g env as1 fr h
 it:nb src I i as1 h
 offI:I ∉ as1
structure FX (g:Cfg) (env:Env) (s:Shared) (I:Addr):Prop where
 own:I ∉ ownOf env
 Ib:g.b.get? I=none
 In:s.heap.get? I=none
theorem FI.step {src:Src}{I:Addr}{i:Nat}{as1 as2:List Addr}{h h2:Heap} {σ2:Sto}{fr2:Fra} (Z:FX g env s I) (C:FI g env fr s as src I i as1 σ h) (x:aD (ownOf env) as1 h as2 h2) (R2:Rel g as2 σ2 h2) (F2:ay g env as2 fr2 h2) :
  FI g env fr2 s as src I i as2 σ2 h2:=by
 have K2:=C.R.keep x (oF C.F)
 refine ⟨C.st.trans x R2.nd F2.offs,R2,F2,C.it.keep K2 fun o e=>x.ext I o e Z.own C.offI,fun q=>?_⟩
 obtain ⟨⟨t,rfl,ht⟩,_⟩:=x
 rcases List.mem_append.mp q with q | q
 ·exact C.offI q
 ·obtain ⟨o,e,_⟩:=C.it.there; rw [ht I q] at e; cases e
theorem FI.next {src:Src}{I:Addr}{i:Nat}{as1:List Addr}{h h2:Heap} (Z:FX g env s I) (C:FI g env fr s as src I i as1 σ h) (k:∀ (b:Addr) (o:Obj),b ≠ I→h.get? b=some o→h2.get? b=some o) :
  aD (ownOf env) as s.heap as1 h2 ∧ Rel g as1 σ h2 ∧ ay g env as1 fr h2:=by
 have hni:∀ o,h.get? I=some o→¬ Imm o:=fun o e=>by obtain ⟨o',e',q⟩:=C.it.there; rw [e] at e'; cases e'; exact q
 obtain ⟨K2,R2⟩:=C.R.other k C.offI Z.Ib hni
 have hL:env.locals ≠ I:=fun q=>Z.own (by rw [← q]; exact .head _)
 have hc:∀ x c,env.cells.lookup x=some c→c ≠ I:=fun x c e q=>Z.own (by rw [← q]; exact gH e)
 have F2:=C.F.alter K2 k hL hc (fun a ha=>.inl ha)
 refine ⟨?_,R2,F2⟩
 have a2:aD (I :: ownOf env) as1 h as1 h2:=⟨⟨[],by simp,by simp⟩,fun b o e hb _=>k b o (by intro q; subst q; simp at hb) e⟩
 have a1:aD (I :: ownOf env) as s.heap as1 h:=C.st.grow (fun a ha=>.tail _ ha)
 exact (a1.trans a2 R2.nd (by intro a ha; rcases List.mem_cons.mp ha with rfl | ha; exact C.offI; exact F2.offs a ha)).shrink (by
  intro a ha; rcases List.mem_cons.mp ha with rfl | ha
  ·exact .inr Z.In
  ·exact .inl ha)
structure LI (g:Cfg) (env:Env) (s:Shared) (as:List Addr) (src:Src) (I:Addr) (target:Expr) (C:Nat→Fra→List Addr→Sto→Heap→Prop):Prop where
 base:∀ {i fr as1 σ h},C i fr as1 σ h→aD (ownOf env) as s.heap as1 h ∧ Rel g as1 σ h ∧ ay g env as1 fr h
 step:∀ {i fr fr2 as1 as2 σ σ2 h h2},C i fr as1 σ h→aD (ownOf env) as1 h as2 h2→Rel g as2 σ2 h2→ay g env as2 fr2 h2→C i fr2 as2 σ2 h2
 done:∀ {i fr as1 σ h tk}{A:Around}{X:Value→Shared→Prop}{Qn:Option Value→Shared→Prop},A.handled=g.hd.map .ref→C i fr as1 σ h→bh σ i src=some none→(∀ h' tk',aD (ownOf env) as s.heap as1 h'→Rel g as1 σ h'→ay g env as1 fr h'→Qn none { s with heap:=h',toks:=tk' })→wpAny (model g.prog g.w) A (pyNext (.ref I)) Qn X { s with heap:=h,toks:=tk }
 next:∀ {i fr as1 σ h tk v}{A:Around}{X:Value→Shared→Prop}{Qn:Option Value→Shared→Prop},C i fr as1 σ h→bh σ i src=some (some v)→(∀ val s',(∀ {Q1:Unit→Shared→Prop}{Y1:Value→Shared→Prop},(∀ h2 tk',C (i + 1) fr as1 σ h2→RepV as1 h2 v val→Q1 () { s with heap:=h2,toks:=tk' })→wpAny (model g.prog g.w) A (letOwnedTupleGo target (.ref I) val) Q1 Y1 s')→Qn (some val) s')→wpAny (model g.prog g.w) A (pyNext (.ref I)) Qn X { s with heap:=h,toks:=tk }
theorem FI.li {src:Src}{I:Addr}{target:Expr} (Z:FX g env s I):LI g env s as src I target (fun i fr as1 σ h=>FI g env fr s as src I i as1 σ h ∧ gQ i src) :=
 ⟨fun c=>⟨c.1.st,c.1.R,c.1.F⟩,fun c x R2 F2=>⟨c.1.step Z x R2 F2,c.2⟩,
  fun {i fr as1 σ h tk A X Qn} ha c e hQ=>pO (s:={ s with heap:=h,toks:=tk }) ha c.1.R c.1.it c.1.offI Z.Ib c.2.rng c.2.tup e fun h' tk' kk K' R'=>have q:=c.1.next Z kk; hQ h' tk' q.1 q.2.1 q.2.2,
  fun {i fr as1 σ h tk v A X Qn} c e hQ=>o9 (s:={ s with heap:=h,toks:=tk }) c.1.R c.1.it c.1.offI Z.Ib e fun val h1 tk1 kk1 K1 R1 it1 r1=>hQ val _ fun {Q1 Y1} hq=>Bx (s:={ s with heap:=h1,toks:=tk1 }) it1 (have q:=c.1.next Z kk1; hq h1 tk1 ⟨⟨q.1,q.2.1,q.2.2,it1,c.1.offI⟩,.next e⟩ r1)⟩
section
variable {target:Expr}{tg:List Nat}{one:Bool}{src:Src}{I:Addr}{i k:Nat}{as1:List Addr}{h:Heap}{tk:Nat}{v:V}{fr1 fr2:Fra}{C:Nat→Fra→List Addr→Sto→Heap→Prop}{body:List Stmt}{body':List S}{fl1:Fl} {σ2:Sto}{Qn:Option Value→Shared→Prop}
theorem kR {Qb:Shared→Prop}{Y1 Y2:Value→Shared→Prop}
  (L:LI g env s as src I target C) (N:aq (c0.sub names) env A) (hA:b5 g A (r + 1)) (ht:tgt (c0.sub names) target=some (tg,one)) (c:C i fr as1 σ h) (e:bh σ i src=some (some v)) (hb:bF tg one v fr=some fr1)
  (hn:∀ v s₁,wpAny (model g.prog g.w) A (letOwnedTupleGo target (.ref I) v) (fun _ s₁=>wpAny (model g.prog g.w) A (assign target env v) (fun _ s₂=>Qb s₂) Y2 s₁) Y1 s₁→Qn (some v) s₁)
  (hq:∀ as4 h4 tk4,C (i + 1) fr1 as4 σ h4→Qb { s with heap:=h4,toks:=tk4 }):wpAny (model g.prog g.w) A (pyNext (.ref I)) Qn X { s with heap:=h,toks:=tk } :=
 L.next c e fun val s' go=>hn _ _ (go fun h1 tk1 c1 r1 =>
  jp (own:=ownOf env) (s:={ s with heap:=h1,toks:=tk1 }) hA.handled ⟨(L.base c1).2.2,(L.base c1).2.1⟩ N (eT _ _) ht r1 hb fun as2 h2' tk2 st3 K3 R3 F3=>hq _ _ _ (L.step c1 st3 R3 F3))
theorem gf {Q4:Flow→Shared→Prop}{Y1 Y2 Y3:Value→Shared→Prop}
  (IL:lf g c0 call wf r n) (L:LI g env s as src I target C) (N:aq (c0.sub names) env A) (hA:b5 g A (r + 1)) (ht:tgt (c0.sub names) target=some (tg,one)) (h2:aV (b8 n (c0.sub names)) body=some body')
  (c:C i fr as1 σ h) (e:bh σ i src=some (some v)) (hb:bF tg one v fr=some fr1) (hc:evSs call wf body' fr1 σ=.ok fl1 fr2 σ2)
  (hn:∀ v s₁,wpAny (model g.prog g.w) A (letOwnedTupleGo target (.ref I) v) (fun _ s₁=>wpAny (model g.prog g.w) A (assign target env v) (fun _ s₂=>wpAny (model g.prog g.w) A (execs body env) Q4 Y3 s₂) Y2 s₁) Y1 s₁→Qn (some v) s₁)
  (hq:∀ f as4 h4 tk4,fV as4 h4 fl1 f→C (i + 1) fr2 as4 σ2 h4→Q4 f { s with heap:=h4,toks:=tk4 }):wpAny (model g.prog g.w) A (pyNext (.ref I)) Qn X { s with heap:=h,toks:=tk } :=
 kR L N hA ht c e hb hn fun as2 h2' tk2 c2 =>
  IL names body body' h2 env A _ { s with heap:=h2',toks:=tk2 } as2 fr1 fr2 σ σ2 fl1 _ N hA ⟨(L.base c2).2.2,(L.base c2).2.1⟩ hc fun f as4 h4 tk4 hf st4 R4 F4=>hq f as4 h4 tk4 hf (L.step c2 st4 R4 F4)
noncomputable def BI (s:Shared) (src:Src) (C:Nat→Fra→List Addr→Sto→Heap→Prop) (tg:List Nat) (one:Bool) (bd:Fra→Sto→RS) (z:RS) (k:Nat) (s':Shared):Prop :=
 ∀ G:Prop,(∀ i fr as1 σ h tk,s'={ s with heap:=h,toks:=tk }→oR tg one bd src k i fr σ=z→C i fr as1 σ h→G)→G
theorem qK (IL:lf g c0 call wf r n) (L:LI g env s as src I target C) (N:aq (c0.sub names) env A) (hA:b5 g A (r + 1)) (ht:tgt (c0.sub names) target=some (tg,one)) (h2:aV (b8 n (c0.sub names)) body=some body')
  (ev:oR tg one (evSs call wf body') src k i fr σ=.ok fl fr' σ') (c:C i fr as1 σ h) (hQ:fF g env as s fl fr' σ' Q) :
  codeAny (model g.prog g.w) A (.forLoop target (.ref I) body [] env) (fun r s'=>match r with | .ok f=>Q f s' | .error e=>cameBackBy (model g.prog g.w) A env X e s') { s with heap:=h,toks:=tk }:=by
 refine nM (BI s src C tg one (evSs call wf body') (.ok fl fr' σ')) (fun k s' hN=>hN _ fun i fr as1 σ h tk qs ev c=>?_) k fun G H=>H _ _ _ _ _ _ rfl ev c
 rw [qs]
 refine ur (fun fl fr' σ'=>fF g env as s fl fr' σ' Q) ev hQ (fun e hQ=>L.done hA.handled c e fun h' tk' st2 R2 F2=>wpAny_execs_nil (hQ .next _ h' tk' rfl st2 R2 F2)) (fun k' v fr1 fl1 fr2 σ2 hk e hb hc hfl run'=>?_) (fun v fr1 fr2 σ2 e hb hc hQ=>?_) (fun v fr1 fr2 σ2 w e hb hc hQ=>?_)
 ·refine gf IL L N hA ht h2 c e hb hc (fun _ _ h=>h) fun f as4 h4 tk4 hf c4=>?_
  rcases fV.go hfl hf with q | q <;> rw [q] <;> exact ⟨k',hk,fun G H=>H _ _ _ _ _ _ rfl run' c4⟩
 ·refine gf IL L N hA ht h2 c e hb hc (fun _ _ h=>h) fun f as4 h4 tk4 hf c4=>?_
  rw [show f=.brk from hf]
  exact hQ .next as4 h4 tk4 rfl (L.base c4).1 (L.base c4).2.1 (L.base c4).2.2
 ·refine gf IL L N hA ht h2 c e hb hc (fun _ _ h=>h) fun f as4 h4 tk4 hf c4=>hf.elim fun val' q=>?_
  rw [q.1]
  exact hQ (.ret val') as4 h4 tk4 ⟨val',rfl,q.2⟩ (L.base c4).1 (L.base c4).2.1 (L.base c4).2.2
end
end
end Mine
namespace Mine
open PySem PyProof.Rows PySem.W
theorem wC {c:CE}{t e:Expr}{y:It} (Ψ:Expr→Expr→It→Prop) (h:(al 30 c e).map It.e=some y) (H1:∀ t e a,al 30 c e=some a→Ψ t e (.e a)):Ψ t e y:=by
 refine (bN h).elim fun a h=>?_
 rw [← h.2]
 exact H1 _ _ _ h.1
theorem ul {c:CE}{t e:Expr}{y:It} (Ψ:Expr→Expr→It→Prop) (h:Ae c t e=some y) (H1:∀ t e a,al 30 c e=some a→Ψ t e (.e a))
  : Ψ t e y:=by
 unfold Ae at h
 exact wC Ψ h H1
theorem qe {c:CE}{t e:Expr}{y:It} (Ψ:Expr→Expr→It→Prop) (h:cIt c t e=some y) (H1:∀ t e a,al 30 c e=some a→Ψ t e (.e a))
  : Ψ t e y:=by
 unfold cIt at h
 exact ul Ψ h H1
end Mine
namespace Mine
set_option backward.match.sparseCases false
open PySem PyProof.Rows PySem.W
section
variable {g:Cfg}{K:Frag}{c0:CE}{fa:Nat→Option Addr}{call:Nat→List V→Sto→RE}{env:Env}{A:Around}{X:Value→Shared→Prop}{s:Shared}{as:List Addr}{fr fr':Fra} {σ σ':Sto}{wf r n:Nat}
 {names:List (Str × NameKind)}{fl:Fl}{Q:Flow→Shared→Prop}
noncomputable def eY (g:Cfg) (c0:CE) (call:Nat→List V→Sto→RE) (wf r:Nat) (names:List (Str × NameKind)) (st:Stmt) (st':S):Prop :=
 ∀ (env:Env) (A:Around) (X:Value→Shared→Prop) (s:Shared) (as:List Addr) (fr fr':Fra) (σ σ':Sto) (fl:Fl) (Q:Flow→Shared→Prop),
  aq (c0.sub names) env A→b5 g A (r + 1)→At g env as fr σ s→evS call wf st' fr σ=.ok fl fr' σ'→fF g env as s fl fr' σ' Q→wpAny (model g.prog g.w) A (exec st env) Q X s
theorem ig (F:ay g env as fr s.heap):interactive env=false:=by
 unfold interactive; rw [F.kind]; rfl
theorem jP {e:Expr}{line:Nat} (h:∀ a b c d,e ≠ .ListComp a b c d) {e':E}{c:CE} (hc:al n c e=some e'):swapsWith e none line env=pure false:=by
 have hk:=cW hc
 cases e <;> first | rfl | exact absurd rfl (h _ _ _ _) | exact ft hk
theorem gN {e:Expr}{line:Nat}{t:Expr} (h:∀ a b c d,e ≠ .ListComp a b c d) {e':E}{c:CE} (hc:al n c e=some e'):swapsWith e (some t) line env=pure false:=by
 have hk:=cW hc
 cases e <;> first | rfl | exact absurd rfl (h _ _ _ _) | exact ft hk
theorem ff {e:Expr}{line:Nat}{t:Expr} (ht:∀ x p,t ≠ .Name x p) {e':E}{c:CE} (hc:al n c e=some e'):swapsWith e (some t) line env=pure false:=by
 by_cases h:∃ a b c d,e=.ListComp a b c d
 ·obtain ⟨a,b,c',d,rfl⟩:=h
  cases t <;> first | rfl | exact absurd rfl (ht _ _)
 ·exact gN (fun a b c d q=>h ⟨a,b,c,d,q⟩) hc
theorem yR {e:Expr}{e':E}{p:Pos} (IH:bE g c0 call r n) (hn:∀ a b c d,e ≠ .ListComp a b c d) (h:al n (c0.sub names) e=some e'):eY g c0 call wf r names (.Expr e p) (.expr e'):=fun env A X s as fr fr' σ σ' fl Q N hA T ev hQ=>by
 refine jg ev fun u τ e1 e2=>?_
 cases e2
 exact wpAny_Expr_any (IH names e e' h env A X s as fr σ _ u _ N hA T e1 fun val as' h' tk st R' F' r'=>hQ .next as' h' tk rfl (up st) R' F') (ig T.F) (jP hn h)
theorem AG {e:Expr}{e':E}{p:Pos} (IH:bE g c0 call r n) (h:al n (c0.sub names) e=some e'):eY g c0 call wf r names (.Return (some e) p) (.ret e'):=fun env A X s as fr fr' σ σ' fl Q N hA T ev hQ=>by
 refine jg ev fun u τ e1 e2=>?_
 cases e2
 exact wpAny_Return_some (IH names e e' h env A X s as fr σ _ u _ N hA T e1 fun val as' h' tk st R' F' r'=>hQ (.ret val) as' h' tk ⟨val,rfl,r'⟩ (up st) R' F')
theorem zv {p:Pos}:eY g c0 call wf r names (.Pass p) .pass:=fun env A X s as fr fr' σ σ' fl Q N hA T ev hQ=>by
 cases (show RS.ok .next fr σ=.ok fl fr' σ' from ev)
 exact wpAny_Pass (hQ .next as s.heap s.toks rfl (aD.refl _ _ _) T.R T.F)
theorem mW {as':List Addr}{h':Heap}{tk:Nat} (hQ:fF g env as s .next fr' σ' Q) (st:aD (ownOf env) as s.heap as' h'):iB g env (ownOf env) as' σ' { s with heap:=h',toks:=tk } fr' (fun _=>Q .next) :=
 fun as2 h2 tk2 st2 K2 R2 F2=>hQ .next as2 h2 tk2 rfl (st.trans st2 R2.nd F2.offs) R2 F2
theorem jv {elt:Expr}{gens:List Comprehension}{sc:Scope}{p:Pos}{u:Value→Sem Unit}:evalThenUse (.ListComp elt gens sc p) env u=(do
  let _ ← comprehension (.ListComp elt gens sc p) sc env (firstIterPos gens p) (newList []) (firstAsync gens) (firstIter gens env) (some u)):=rfl
theorem sD {x:Str}{i:Nat}{xp lp:Pos}{elt target iter:Expr}{ifs:List Expr}{sc:Scope}{it' x':E}{tg:List Nat}{one:Bool}{cs:List E}{frm:List (Option Nat)}{u:V} {τ:Sto} (IH':bE g c0 call r n) (IT':kX g c0 call r n) (hx:(c0.sub names).locW? x=some i) (N:aq (c0.sub names) env A) (hA:b5 g A (r + 1)) (T:At g env as fr σ s)
  (ho:oJ sc=true) (q1:al n (c0.sub names) iter=some it') (q2:tgt (c0.sub sc.names) target=some (tg,one)) (q3:aV (al n (c0.sub sc.names)) ifs=some cs) (q4:al n (c0.sub sc.names) elt=some x') (q5:fo (c0.sub names) sc=some frm)
  (e1:evE call (.comp tg one it' cs x' frm) fr σ=.ok u τ) (hQ:fF g env as s .next (fr.set i (some u)) τ Q) :
  wpAny (model g.prog g.w) A (evalThenUse (.ListComp elt [⟨target,iter,ifs,0⟩] sc lp) env (assign (.Name x xp) env)) (fun _ s'=>wpAny (model g.prog g.w) A (pure Flow.next) Q X s') X s:=by
 obtain ⟨u',τ',src,k,ys,σ2,f1,f2,f3,f4,f5⟩:=nq e1
 have hlen:=eJ f5
 cases (if_pos hlen).symm.trans f5
 rw [jv]
 refine wpAny_bind (wpAny_mono (ku (use:=some (assign (.Name x xp) env)) (Q:=fun _ s'=>Q .next s') IH' IT' N hA T q1 q2 q3 q4 q5 ho f1 f2 f3 f4 hlen fun as' h' tk C D m st R' F' hl hm hC hCL hcc hCb hCn=>?_) (fun _ s' hq=>wpAny_pure (wpAny_pure hq)) fun _ _ e=>e)
 have rD:RepV (as' ++ [D]) h' (.ref σ2.length) (.ref D):=by rw [RepV]; exact ⟨D,rfl,by rw [← hl]; simp⟩
 refine wpAny_assign_Name (gF (own:=ownOf env) (s:={ s with heap:=h',toks:=tk }) ⟨F',R'⟩ N (eT _ _) hx rD fun as2 h2 tk2 st2 K2 R2 F2=>?_)
 have hCo:C ∉ ownOf env:=fun q=>(b7 q).elim (fun q=>hCL q) fun ⟨y,q⟩=>hcc _ _ q rfl
 have hm2:h2.Ns C m:=hm.at' fun o e=>st2.ext _ o e hCo hC
 refine ⟨m,hm2,fun h3 hs3=>?_⟩
 have kk:∀ (b:Addr) (o:Obj),b ≠ C→h2.get? b=some o→h3.get? b=some o:=fun b o hb e=>by rw [hs3.2 b hb]; exact e
 have hC2:C ∉ as2:=fun q=>by
  obtain ⟨t,ht,hf⟩:=st2.pre
  rw [ht] at q
  rcases List.mem_append.mp q with q | q
  ·exact hC q
  ·obtain ⟨o',es,ep,e',_⟩:=hm
   rw [show h'.get? C=none from hf C q] at e'
   exact nn e'
 obtain ⟨K3,R3⟩:=R2.other kk hC2 hCb (j0 hm2)
 have F3:=F2.alter K3 kk (Ne.symm hCL) hcc (fun a ha=>.inl ha)
 have off:∀ a ∈ C :: ownOf env,a ∉ as2:=fun a ha=>(List.mem_cons.mp ha).elim (fun q=>q ▸ hC2) (F3.offs a)
 have a3:aD (C :: ownOf env) as2 h2 as2 h3:=⟨⟨[],(List.append_nil _).symm,fun _ q=>nomatch q⟩,fun b ob e hb _=>kk b ob (fun q=>hb (q ▸ .head _)) e⟩
 exact hQ .next as2 h3 tk2 rfl (((((up st).grow fun a ha=>.tail _ ha).trans (st2.grow fun a ha=>.tail _ ha) R3.nd off).trans a3 R3.nd off).shrink fun a ha=>(List.mem_cons.mp ha).elim (fun q=>.inr (q ▸ hCn)) .inl) R3 F3
theorem z3 {x:Str}{i:Nat}{e:Expr}{e':E}{p xp:Pos} (IH:bE g c0 call r (n + 1)) (IH':bE g c0 call r n) (IT':kX g c0 call r n) (hx:(c0.sub names).locW? x=some i) (h:al (n + 1) (c0.sub names) e=some e'):eY g c0 call wf r names (.Assign [.Name x xp] e p) (.asg i e') :=
 fun env A X s as fr fr' σ σ' fl Q N hA T ev hQ=>by
 refine jg ev fun u τ e1 e2=>?_
 by_cases hi:i < fr.length
 case neg=>exact nomatch (if_neg hi).symm.trans e2
 have hQ:fF g env as s .next (fr.set i (some u)) τ Q:=g9 (Ψ:=fun fl fr' σ'=>fF g env as s fl fr' σ' Q) ((if_pos hi).symm.trans e2) hQ
 have plain:swapsWith e (some (.Name x xp)) p.line env=pure false→wpAny (model g.prog g.w) A (exec (.Assign [.Name x xp] e p) env) Q X s:=fun hs =>
  wpAny_Assign_Name (IH names e e' h env A X s as fr σ _ u _ N hA T e1 fun val as' h' tk st R' F' r'=>gF (own:=ownOf env) (s:={ s with heap:=h',toks:=tk }) ⟨F',R'⟩ N (eT _ _) hx r' (mW hQ (up st))) hs
 by_cases hc:∃ a b c d,e=.ListComp a b c d
 ·obtain ⟨elt,gens,sc,lp,rfl⟩:=hc
  refine (show ∃ b:Bool,swapsWith (.ListComp elt gens sc lp) (some (.Name x xp)) p.line env=pure b from ⟨_,rfl⟩).elim fun b hb=>?_
  cases b with
  | false=>exact plain hb
  | true =>
   rw [exec_Assign_Name_used _ _ _ _ hb]
   exact wpAny_bind (wpAny_standAt (wpAny_bind (ng (names:=names) (fun gens e'=>evE call e' fr σ=.ok u τ→wpAny (model g.prog g.w) A (evalThenUse (.ListComp elt gens sc lp) env (assign (.Name x xp) env)) (fun _ s'=>wpAny (model g.prog g.w) A (pure Flow.next) Q X s') X s) h
    (fun _ _ _ _ _ _ _ _ _ ho q1 q2 q3 q4 q5 e1=>sD IH' IT' hx N hA T ho q1 q2 q3 q4 q5 e1 hQ) e1)))
 ·exact plain (gN (fun a b c d q=>hc ⟨a,b,c,d,q⟩) h)
theorem jQ {ts:List Expr}{k:Nat}{tp:Pos}{e:Expr} (h:(∃ x p,e=.Name x p) ∨ (∃ f as ks p,e=.Call f as ks p) ∨ ∃ o i p,e=.Subscript o i p):swappedStores [.Tuple ts k tp] e env=pure none:=by
 rcases h with ⟨_,_,rfl⟩ | ⟨_,_,_,_,rfl⟩ | ⟨_,_,_,rfl⟩ <;> rfl
set_option tactic.hygienic true in
theorem yi {ts:List Expr}{k:Nat}{tp p:Pos}{is:List Nat}{e:Expr}{e':E} (IH:bE g c0 call r n) (hx:bQ (c0.sub names) ts=some is) (hn:(∃ x p,e=.Name x p) ∨ (∃ f as ks p,e=.Call f as ks p) ∨ ∃ o i p,e=.Subscript o i p) (h:al n (c0.sub names) e=some e') :
  eY g c0 call wf r names (.Assign [.Tuple ts k tp] e p) (.asgT is e'):=fun env A X s as fr fr' σ σ' fl Q N hA T ev hQ=>by
 refine cr (fr:=fr) (gj ev) fun u τ e1 e2=>?_
 split at e2
 case h_2=>cases e2
 rename_i f1 hb
 cases e2
 refine Assign_Tuple (IH names e e' h env A X s as fr σ _ u _ N hA T e1 fun val as' h' tk st R' F' r'=>?_) (show swapsWithSole [.Tuple ts k tp] e p.line env=pure false from ff (env:=env) (line:=p.line) (t:=.Tuple ts k tp) (by simp) h) (jQ hn)
 exact jp (own:=ownOf env) (s:={ s with heap:=h',toks:=tk }) (target:=.Tuple ts k tp) (tg:=is) (one:=false) hA.handled ⟨F',R'⟩ N (eT _ _) (by show (bQ (c0.sub names) ts).map _=_; rw [hx]; rfl) r' hb (mW hQ (up st))
set_option tactic.hygienic true in
theorem xQ {o e:Expr}{x:Str}{k:Nat}{op p:Pos}{o' e':E} (G:bH g K c0 fa) (J:bB g) (IH:bE g c0 call r n) (h0:al n (c0.sub names) o=some o') (hk:c0.attrs.lookup x=some k) (h:al n (c0.sub names) e=some e') :
  eY g c0 call wf r names (.Assign [.Attribute o x op] e p) (.asgA o' k e'):=fun env A X s as fr fr' σ σ' fl Q N hA T ev hQ=>by
 refine cr (fr:=fr) (gj ev) fun u τ e1 e2=>?_
 refine cr (fr:=fr) e2 fun w τ' e3 e4=>?_
 split at e4
 case h_2=>cases e4
 rename_i σ1 hs
 cases e4
 refine plainObj_wpAny_Assign_Attribute (two IH h h0 N hA T e1 e3 fun x y as' h' tk st R' F' r1 r2=>?_) (ff (by simp) h)
 exact qm G J (T.step (tk:=tk) R' F') r2 r1 hk hs fun as2 h2 tk2 st2 R2 F2=>hQ .next as2 h2 tk2 rfl (up (ao st st2 R2 F2)) R2 F2
set_option tactic.hygienic true in
theorem xT {o i e:Expr}{op p:Pos}{o' i' e':E} (IH:bE g c0 call r n) (h0:al n (c0.sub names) o=some o') (h1:al n (c0.sub names) i=some i') (h:al n (c0.sub names) e=some e') :
  eY g c0 call wf r names (.Assign [.Subscript o i op] e p) (.asgI o' i' e'):=fun env A X s as fr fr' σ σ' fl Q N hA T ev hQ=>by
 refine cr (fr:=fr) (gj ev) fun u τ e1 e2=>?_
 refine cr (fr:=fr) e2 fun w τ' e3 e4=>?_
 refine cr (fr:=fr) e4 fun z τ2 e5 e6=>?_
 split at e6
 case h_2=>cases e6
 rename_i σ1 hs
 cases e6
 refine wpAny_Assign_Subscript (two (Q:=fun v ov s2=>wpAny (model g.prog g.w) A (eval i env) (fun iv s₃=>wpAny (model g.prog g.w) A (setItem ov iv v) (fun _=>Q .next) X s₃) X s2) IH h h0 N hA T e1 e3 fun x y as' h' tk st R' F' r1 r2=>?_) (ff (by simp) h)
 refine IH names i i' h1 env A X _ as' fr τ' _ z _ N hA (T.step (tk:=tk) R' F') e5 fun val as2 h2 tk2 st2 R2 F2 r3=>?_
 have kp:=At.keep (s:={ s with heap:=h',toks:=tk }) ⟨F',R'⟩ st2
 refine rP (s:={ s with heap:=h2,toks:=tk2 }) ⟨F2,R2⟩ hA (RepV.keep kp _ _ r2) r3 (RepV.keep kp _ _ r1) hs fun as3 h3 tk3 st3 R3 F3=>?_
 exact hQ .next as3 h3 tk3 rfl (up (ao (ao st st2 R2 F2) st3 R3 F3)) R3 F3
theorem BO {t:Expr}{b o:List Stmt}{t':E}{b' o':List S}{p:Pos} (IT:kX g c0 call r n) {m:Nat} (IL:lf g c0 call wf r m) (h0:al n (c0.sub names) t=some t') (h1:aV (b8 m (c0.sub names)) b=some b') (h2:aV (b8 m (c0.sub names)) o=some o') :
  eY g c0 call wf r names (.If t b o p) (.ifS t' b' o'):=fun env A X s as fr fr' σ σ' fl Q N hA T ev hQ=>by
 refine cr (fr:=fr) ev fun u τ e1 e2=>?_
 split at e2
 ·refine wpAny_If (IT names t t' h0 env A X s as fr σ τ true _ N hA T e1 fun as' h' tk st R' F'=>?_)
  rw [if_pos rfl]
  exact IL names b b' h1 env A X _ as' fr fr' τ σ' fl Q N hA ⟨F',R'⟩ e2 (gk hQ (up st))
 ·refine wpAny_If (IT names t t' h0 env A X s as fr σ τ false _ N hA T e1 fun as' h' tk st R' F'=>?_)
  rw [if_neg Bool.false_ne_true]
  exact IL names o o' h2 env A X _ as' fr fr' τ σ' fl Q N hA ⟨F',R'⟩ e2 (gk hQ (up st))
 ·cases e2
noncomputable def WI (g:Cfg) (call:Nat→List V→Sto→RE) (wf:Nat) (env:Env) (s:Shared) (as:List Addr) (t':E) (b':List S) (fl:Fl) (fr':Fra) (σ':Sto) (k:Nat) (s':Shared):Prop :=
 ∀ G:Prop,(∀ fr1 σ1 as1 h1 tk1,s'={ s with heap:=h1,toks:=tk1 }→ck (evE call t') (evSs call wf b') k fr1 σ1=.ok fl fr' σ'→aD (ownOf env) as s.heap as1 h1→Rel g as1 σ1 h1→ay g env as1 fr1 h1→G)→G
theorem o8 {test:Fra→Sto→RE}{body:Fra→Sto→RS}{k:Nat}{G:Prop} (Ψ:Fl→Fra→Sto→Prop) (e:ck test body k fr σ=.ok fl fr' σ') (hΨ:Ψ fl fr' σ') (H0:∀ τ,test fr σ=.ok (.bool false) τ→Ψ .next fr τ→G)
  (H1:∀ m τ,m < k→test fr σ=.ok (.bool true) τ→sz (body fr τ) (ck test body m)=.ok fl fr' σ'→G):G:=by
 cases k with
 | zero=>exact nomatch (show RS.bad=_ from e)
 | succ k =>
  refine cr (fr:=fr) (show (test fr σ).bindS fr _=_ from e) fun u τ e1 e2=>?_
  cases u with
  | bool b=>cases b with
   | false=>exact H0 τ e1 (g9 e2 hΨ)
   | true=>exact H1 k τ (Nat.lt_succ_self _) e1 e2
  | _=>exact nomatch (show RS.bad=_ from e2)
theorem vP {t:Expr}{b:List Stmt}{t':E}{b':List S}{p:Pos} (IT:kX g c0 call r n) {m:Nat} (IL:lf g c0 call wf r m) (h0:al n (c0.sub names) t=some t') (h1:aV (b8 m (c0.sub names)) b=some b') :
  eY g c0 call wf r names (.While t b [] p) (.whileS t' b'):=fun env A X s as fr fr' σ σ' fl Q N hA T ev hQ=>by
 refine wpAny_While (codeAny_whileLoop (WI g call wf env s as t' b' fl fr' σ') (fun k s1 I=>I _ fun fr1 σ1 as1 k1 tk1 qs ev st1 R1 F1=>?_) wf fun G H=>H fr σ as s.heap s.toks rfl (gj ev) (aD.refl _ _ _) T.R T.F)
 rw [qs]
 refine o8 (fun fl fr' σ'=>fF g env as s fl fr' σ' Q) ev hQ (fun τ e1 hQ=>IT names t t' h0 env A _ { s with heap:=k1,toks:=tk1 } as1 fr1 σ1 τ false _ N hA ⟨F1,R1⟩ e1 fun as' h' tk st R' F'=>?_) fun j τ hj e1 e2=>IT names t t' h0 env A _ { s with heap:=k1,toks:=tk1 } as1 fr1 σ1 τ true _ N hA ⟨F1,R1⟩ e1 fun as' h' tk st R' F'=>?_
 ·rw [if_neg Bool.false_ne_true]
  exact wpAny_execs_nil (hQ .next as' h' tk rfl (st1.trans (up st) R'.nd F'.offs) R' F')
 ·rw [if_pos rfl]
  have st2:=st1.trans (up st) R'.nd F'.offs
  refine nr (fun fl fr' σ'=>fF g env as s fl fr' σ' Q) e2 hQ (fun f0 f2 σ2 hb hf e2=>?_) (fun f2 σ2 hb hQ=>?_) fun f2 σ2 w hb hQ=>?_
  ·refine IL names b b' h1 env A _ { s with heap:=h',toks:=tk } as' fr1 f2 τ σ2 f0 _ N hA ⟨F',R'⟩ hb fun f as3 h3 tk3 hf3 st3 R3 F3=>?_
   rcases fV.go hf hf3 with q | q <;> rw [q] <;> exact ⟨j,hj,fun G H=>H f2 σ2 as3 h3 tk3 rfl e2 (st2.trans st3 R3.nd F3.offs) R3 F3⟩
  ·refine IL names b b' h1 env A _ { s with heap:=h',toks:=tk } as' fr1 f2 τ σ2 .brk _ N hA ⟨F',R'⟩ hb fun f as3 h3 tk3 hf3 st3 R3 F3=>?_
   rw [show f=.brk from hf3]
   exact hQ .next as3 h3 tk3 rfl (st2.trans st3 R3.nd F3.offs) R3 F3
  ·refine IL names b b' h1 env A _ { s with heap:=h',toks:=tk } as' fr1 f2 τ σ2 (.ret w) _ N hA ⟨F',R'⟩ hb fun f as3 h3 tk3 hf3 st3 R3 F3=>hf3.elim fun val q=>?_
   rw [q.1]
   exact hQ (.ret val) as3 h3 tk3 ⟨val,rfl,q.2⟩ (st2.trans st3 R3.nd F3.offs) R3 F3
theorem AK {t it:Expr}{b:List Stmt}{it':E}{b':List S}{tg:List Nat}{one:Bool}{p:Pos} (IH:bE g c0 call r n) {m:Nat} (IL:lf g c0 call wf r m) (ht:tgt (c0.sub names) t=some (tg,one)) (h0:al n (c0.sub names) it=some it') (h1:aV (b8 m (c0.sub names)) b=some b') :
  eY g c0 call wf r names (.For t it b [] p) (.forS tg one (.e it') b'):=fun env A X s as fr fr' σ σ' fl Q N hA T ev hQ=>by
 refine cr (fr:=fr) ev fun u τ e1 e2=>?_
 refine qa e2 (fun q=>nomatch q) fun src k hs hl ev=>?_
 refine wpAny_For (IH names it it' h0 env A X s as fr σ τ u _ N hA T e1 fun val as1 k1 tk1 st1 R1 F1 r1=>?_) (jB h0)
 have T1:At g env as1 fr τ { s with heap:=k1,toks:=tk1 }:=⟨F1,R1⟩
 refine lV T1 r1 hs hl fun o T2 it0=>?_
 have nn:=T1.notNew
 have Z:FX g env { s with heap:=k1,toks:=tk1 } k1.objs.size:=⟨fun q=>by
  rcases b7 q with q | ⟨y,q⟩
  ·exact nn.1 q
  ·exact T1.cellNew _ _ q rfl,nn.2.2,new_none _⟩
 exact qK (tk:=tk1) IL (FI.li Z) N hA ht h1 ev ⟨⟨bG _ _ _ _,T2.R,T2.F,it0,nn.2.1⟩,.zero⟩ (gk hQ (up st1))
set_option tactic.hygienic true in
theorem A5 {t e:Expr}{p:Pos}{st':S} (G:bH g K c0 fa) (J:bB g) (C:ci g K c0 fa call r) (h:yO (c0.sub names) t e=some st'):eY g c0 call wf r names (.Assign [t] e p) st':=by
 have IH:=(cb G J C 30).1
 unfold yO at h
 cases q:vw t <;> rw [q] at h <;> first | exact nn h | skip
 ·refine bV h fun i a h1 h2 qx4=>?_; subst qx4
  obtain ⟨xp,rfl⟩:=bL q
  exact z3 (n:=29) IH (cb G J C 29).1 (cb G J C 29).2 h1 (eH h2).1
 ·obtain ⟨h0,h⟩:=aw h
  refine bV h fun is a h1 h2 qx4=>?_; subst qx4
  obtain ⟨k,xp,rfl⟩:=bL q
  exact yi IH h1 (qU (aZ h0)) h2
 ·rename_i u
  refine d4 h fun o k a h1 h2 h3 qx6=>?_; subst qx6
  have hv:t=_:=bL q
  subst hv
  exact xQ G J IH h1 h2 h3
 ·rename_i u
  refine d4 h fun o k a h1 h2 h3 qx6=>?_; subst qx6
  obtain ⟨xp,rfl⟩:=bL q
  exact xT IH h1 h2 h3
theorem cI {α:Type}{l:List α}:l.isEmpty=true→l=[]:=List.casesOn l (fun _=>rfl) fun _ _=>ft
theorem qq {m:Nat} (G:bH g K c0 fa) (J:bB g) (C:ci g K c0 fa call r) (IL:lf g c0 call wf r m) (st:Stmt) (st':S) (h:b8 (m + 1) (c0.sub names) st=some st'):eY g c0 call wf r names st st':=by
 have IH:=(cb G J C 30).1
 have IT:=(cb G J C 30).2
 cases st with
 | Expr e p=>obtain ⟨h0,h⟩:=aw h; refine b6 h fun a h1 qx2=>?_; subst qx2; exact yR IH (mv (aZ h0)) (eH h1).1
 | Return v p=>refine bM h fun e qx1 h=>?_; subst qx1; refine b6 h fun a h1 qx2=>?_; subst qx2; exact AG IH (eH h1).1
 | Assign ts e p =>
  rcases ts with _ | ⟨t,_ | ⟨t2,ts⟩⟩
  ·exact nn h
  ·exact A5 G J C h
  ·exact nn h
 | If t b o p=>refine d4 h fun x y z h1 h2 h3 qx6=>?_; subst qx6; exact BO IT IL h1 h2 h3
 | While t b o p=>obtain ⟨h0,h⟩:=aw h; refine bV h fun x y h1 h2 qx4=>?_; subst qx4; cases cI h0; exact vP IT IL h1 h2
 | For t it b o p => 
  obtain ⟨h0,h⟩:=aw h; refine d4 h fun x y z h1 h2 h3 qx6=>?_; subst qx6; cases cI h0
  exact qe (fun t it y=>tgt (c0.sub names) t=some x→eY g c0 call wf r names (.For t it b [] p) (.forS x.1 x.2 y z)) h2 (fun t it a h2 h1=>AK IH IL h1 h2 h3)
   h1
 | Raise v cz p =>
  cases v with
  | none=>cases cz <;> exact nn h
  | some v=>cases cz with
   | some=>exact nn h
   | none =>
    refine bM h fun x h0 h=>?_
    obtain ⟨h1,h⟩:=aw h
    refine b6 h fun a h2 qx2=>?_; subst qx2
    intro env A X s as fr fr' σ σ' fl Q N hA T ev hQ
    cases (show RS.ex a fr σ=RS.ok fl fr' σ' from ev)
 | Pass p=>exact si h zv
 | _=>exact nn h
theorem dp (G:bH g K c0 fa) (J:bB g) (C:ci g K c0 fa call r):∀ n,xm g c0 call wf r n
 | 0=>fun names st st' h=>nn h
 | n + 1=>fun names st st' h=>qq G J C (eG (dp G J C n)) st st' h
end
end Mine
namespace Mine
open PySem PyProof.Rows PySem.W
noncomputable def uN (K:Frag) (c:CE) (fd:FuncData):Bool :=
 fd.globals == mainGlobals && fd.builtins == builtinsNs && fd.closure.isEmpty && codeIn K fd.code fd.qualname && !fd.scope.isCoroutine && !fd.scope.isGenerator && oJ fd.scope && fd.scope.names.all (fun p=>!(p.2 == .free)) &&
 fd.params.posonlyargs.isEmpty && fd.params.vararg.isNone && fd.params.kwonlyargs.isEmpty && fd.params.kw_defaults.isEmpty && fd.params.kwarg.isNone && decide ((fd.params.args.map (·.arg)).Nodup) && fd.defaults == .none &&
 (match c.lam with | some a=>fd.code == .ref a | none=>true)
noncomputable def xF (o:Option Obj):Option FuncData:=match o with
 | some o=>(match o.data with | .func fd=>some fd | _=>none)
 | none=>none
noncomputable def qw (b:FuncBody):Option (List Stmt):=match b with | .stmts b=>some b | _=>none
noncomputable def qt (cs:CE→Stmt→Option S) (K:Frag) (c:CE) (a:Addr):Option Fn:=(xF (K.lookup a)).bind fun fd=>gd (uN K c fd) ((qw fd.body).bind fun body =>
 fQ (fun ps b=>⟨ps,fd.scope.names.length,b⟩) (aV (fun x=>(c.sub fd.scope.names).locW? x) (fd.params.args.map (·.arg))) (aV (cs (c.sub fd.scope.names)) body))
theorem rZ {o:Option Obj}{fd:FuncData} (h:xF o=some fd):∃ oc od osl,o=some ⟨oc,od,.func fd,osl⟩:=by
 cases o with
 | none=>exact nn h
 | some o =>
  obtain ⟨a,b,c,d⟩:=o
  cases c <;> first | exact nn h | exact ⟨a,b,d,by rw [← Option.some.inj h]⟩
theorem lv {b:FuncBody}{l:List Stmt} (h:qw b=some l):b=.stmts l:=by
 cases b <;> first | exact nn h | exact congrArg _ (Option.some.inj h)
noncomputable def aK (K:Frag) (c:CE) (a:Addr):Option Fn:=qt (b8 20) K c a
theorem j5:∀ (ps:List Nat) (vs:List V) (fr:Fra),(oI ps vs fr).length=fr.length
 | [],_,_=>rfl
 | _ :: _,[],_=>rfl
 | p :: ps,v :: vs,fr=>by rw [pq,j5]; simp
theorem kQ:∀ (ps:List Nat) (vs:List V) (fr:Fra) (i:Nat) (v:V),(oI ps vs fr)[i]?=some (some v)→fr[i]?=some (some v) ∨ ∃ j:Nat,ps[j]?=some i ∧ vs[j]?=some v
 | [],_,_,_,_,h=>.inl h
 | _ :: _,[],_,_,_,h=>.inl h
 | p :: ps,v :: vs,fr,i,w,h=>by
  rw [pq] at h
  rcases kQ ps vs _ i w h with h | ⟨j,h1,h2⟩
  ·by_cases hp:p=i
   ·subst hp
    by_cases hl:p < fr.length
    ·rw [List.getElem?_set_self hl] at h
     simp only [Option.some.injEq] at h; subst h
     exact .inr ⟨0,rfl,rfl⟩
    ·rw [List.getElem?_eq_none (by simp; lia)] at h; cases h
   ·rw [List.getElem?_set_ne hp] at h; exact .inl h
  ·exact .inr ⟨j + 1,by simpa using h1,by simpa using h2⟩
theorem jK {kindOf:Str→Option NameKind}{x:Str}{v:Value} (hk:kindOf x=some .local):∀ (binds:List (Str × Value)) (m:Str→Option Value),(binds.map (·.1)).Nodup→((x,v) ∈ binds ∨ (m x=some v ∧ x ∉ binds.map (·.1)))→bindL kindOf binds m x=some v
 | [],m,_,h=>h.elim (fun q=>by cases q) fun q=>q.1
 | (n,w) :: r,m,nd,h=>by
  rw [bindL]
  rw [List.map_cons,List.nodup_cons] at nd
  refine jK hk r _ nd.2 ?_
  rcases h with h | ⟨h1,h2⟩
  ·rcases List.mem_cons.mp h with q | q
   ·cases q
    refine .inr ⟨?_,nd.1⟩
    rw [if_pos hk]; simp
   ·exact .inl q
  ·rw [List.map_cons,List.mem_cons,not_or] at h2
   refine .inr ⟨?_,h2.2⟩
   split
   ·simp [h2.1,h1]
   ·exact h1
theorem kr {kindOf:Str→Option NameKind}{x:Str}{v:Value} (hk:kindOf x ≠ some .local):∀ (binds:List (Str × Value)) (m:Str→Option Value),(binds.map (·.1)).Nodup→((x,v) ∈ binds ∨ (m x=some v ∧ x ∉ binds.map (·.1)))→bindC kindOf binds m x=some v
 | [],m,_,h=>h.elim (fun q=>by cases q) fun q=>q.1
 | (n,w) :: r,m,nd,h=>by
  rw [bindC]
  rw [List.map_cons,List.nodup_cons] at nd
  refine kr hk r _ nd.2 ?_
  rcases h with h | ⟨h1,h2⟩
  ·rcases List.mem_cons.mp h with q | q
   ·cases q
    refine .inr ⟨?_,nd.1⟩
    rw [if_neg hk]; simp
   ·exact .inl q
  ·rw [List.map_cons,List.mem_cons,not_or] at h2
   refine .inr ⟨?_,h2.2⟩
   split
   ·exact h1
   ·simp [h2.1,h1]
structure qr (g:Cfg) (cs:CE→Stmt→Option S) (c:CE) (fn:Fn) (A:Around) (as:List Addr) (σ:Sto) (s:Shared) (vs:List V) (n:Nat) (env:Env) (body:List Stmt) (h:Heap):Prop where
 comp:aV (cs (c.sub env.scope.names)) body=some fn.body
 N:aq (c.sub env.scope.names) env (A.deeper env)
 F:ay g env as (aR fn vs) h
 R:Rel g as σ h
 ext:∀ (b:Addr) (o:Obj),s.heap.get? b=some o→h.get? b=some o
 new:∀ b ∈ ownOf env,s.heap.get? b=none
 fr:env.frame=some env.locals
 room:b5 g (A.deeper env) (2 * n + 1)
section
variable {g:Cfg}{K:Frag}{fa:Nat→Option Addr}{P:Nat→Option Fn}{wf:Nat}
theorem je {cs:CE→Stmt→Option S}{c:CE}{a:Addr}{fn:Fn}{vs:List V} {σ:Sto}{n:Nat}{A:Around}{s:Shared}{as:List Addr}{xs:List Value}{R:Result→Shared→Prop} (kin:K.In g.b) (hlim:g.b.NoLimit) (hT:c.top=none ∨ A.frames=some []) (hPk:qt cs K c a=some fn) (hlen:vs.length=fn.ps.length)
  (hA:b5 g A (2 * (n + 1))) (R0:Rel g as σ s.heap) (hsz:g.b.objs.size ≤ s.heap.objs.size) (r0:ah as s.heap vs xs)
  (k:∀ (env:Env) (body:List Stmt) (h:Heap) (tk:Nat),qr g cs c fn A as σ s vs n env body h→wpAny (model g.prog g.w) (A.deeper env) (execs body env) (fun f s'=>R (.ok (.ret (match f with | .ret v=>v | _=>.none))) s')
    (fun e s'=>wpAny (model g.prog g.w) (A.deeper env) (leaving env e) (fun _ s''=>R (.error e) s'') (fun e' s''=>R (.error e') s'') s') { s with heap:=h,toks:=tk }) :
  codeAny (model g.prog g.w) A (.call (.ref a) ⟨xs,[]⟩) R s:=by
 refine bM hPk fun fd hK hPk=>?_
 obtain ⟨oc,od,osl,hK⟩:=rZ hK
 obtain ⟨hfit,hPk⟩:=aw hPk
 refine bM hPk fun body hbody hPk=>?_
 have hbody:=lv hbody
 refine bV hPk fun ps b' hps hb' qx4=>?_; subst qx4
 simp only [uN,Bool.and_eq_true,beq_iff_eq,List.isEmpty_iff,Bool.not_eq_true',List.all_eq_true,decide_eq_true_eq,Option.isNone_iff_eq_none] at hfit
 obtain ⟨⟨⟨⟨⟨⟨⟨⟨⟨⟨⟨⟨⟨⟨⟨f1,f2⟩,f3⟩,f4⟩,f5⟩,f6⟩,f7⟩,f8⟩,f9⟩,f10⟩,f11⟩,f12⟩,f13⟩,f14⟩,f15⟩,f16⟩:=hfit
 obtain ⟨hkind,hnd⟩:=fY f7
 have hpar:fd.params=⟨[],fd.params.args,none,[],[],none,fd.params.defaults⟩:=by
  rcases hq:fd.params with ⟨p1,p2,p3,p4,p5,p6,p7⟩
  rw [hq] at f9 f10 f11 f12 f13
  simp only at f9 f10 f11 f12 f13
  rw [f9,f10,f11,f12,f13]
 have hps':=cu hps
 have hpl:fd.params.args.length=xs.length:=by
  have h1:=(ah.f2.mp r0).length
  have h2:=hps'.1
  rw [List.length_map] at h2
  have h3:vs.length=ps.length:=hlen
  lia
 have hbind:=iW hpar f15 f14 hpl
 have keep0:=R0.base
 have ho:s.heap.get? a=some ⟨oc,od,.func fd,osl⟩:=R0.base _ _ (kin _ _ hK)
 have hnb:((fd.params.args.map (·.arg)).zip xs).map (·.1)=fd.params.args.map (·.arg):=by
  rw [List.map_fst_zip]; rw [List.length_map]; lia
 have hpk:∀ x ∈ fd.params.args.map (·.arg),fd.scope.names.lookup x=some .local ∨ fd.scope.names.lookup x=some .cell:=fun x hx=>by
  obtain ⟨i,hi,rfl⟩:=List.getElem_of_mem hx
  obtain ⟨j,h1,h2⟩:=hps'.2 i _ (List.getElem?_eq_getElem hi)
  obtain ⟨kk,h3,h4⟩:=fW h2
  have h5:fd.scope.names.lookup ((fd.params.args.map (·.arg))[i])=some kk:=bi hnd h3
  rcases h4 with rfl | rfl
  ·exact .inl h5
  ·exact .inr h5
 have hcellsome:∀ x,fd.scope.names.lookup x=some .cell→∃ cc,(cellsFrom (s.heap.objs.size + 1) fd.scope.names []).lookup x=some cc:=fun x hx=>Option.isSome_iff_exists.mp (cellsFrom_some _ _ _ (.inl hx))
 have hdepth:A.depth < recursionLimit:=by have:=hA.depth; show _ < 1000; lia
 refine codeAny_call_cells hdepth ho rfl (hlim.keeps keep0) (codeRec_of (kin.keeps keep0) f4) hbody hbind f3 (fun x hx=>?_) (fun s₁ U=>?_) f5 f6 hkind
 ·have hx':x.1 ∈ fd.params.args.map (·.arg):=(List.of_mem_zip hx).1
  rcases hpk _ hx' with q | q
  ·exact .inl q
  ·exact .inr ⟨q,cellsFrom_some _ _ _ (.inl q)⟩
 obtain ⟨⟨⟨h₁,tk₁,rfl⟩,uns,ukeep,ufresh⟩,ucell,uapart,uabove⟩:=U
 have hE:∀ x,(callEnvC fd s.heap.objs.size a).kindOf x=fd.scope.names.lookup x:=fun x=>rfl
 have K1:bX as s.heap as h₁:=.same fun b o e _ _=>ukeep b o e
 have R1:Rel g as σ h₁:=R0.ext ukeep
 have lkm:∀ x cc,(callEnvC fd s.heap.objs.size a).cells.lookup x=some cc→s.heap.objs.size < cc:=fun x cc e=>uabove x cc (av e)
 have fresh:∀ b:Addr,s.heap.objs.size ≤ b→s.heap.get? b=none:=fun b hb=>by
  cases e:s.heap.get? b with
  | none=>rfl
  | some o=>exact absurd (Heap.lt_size e) (Nat.not_lt.mpr hb)
 have notas:∀ b:Addr,s.heap.objs.size ≤ b→b ∉ as:=fun b hb q=>by
  obtain ⟨o,e,_⟩:=R0.there q; rw [fresh b hb] at e; cases e
 have notb:∀ b:Addr,s.heap.objs.size ≤ b→g.b.get? b=none:=fun b hb=>by
  cases e:g.b.get? b with
  | none=>rfl
  | some o=>have:=R0.base _ _ e; rw [fresh b hb] at this; cases this
 have rvs:=ah.f2.mp (ah.keep K1 _ _ r0)
 have hval:∀ (i:Nat) (x:Str) (kk:NameKind) (w:V),fd.scope.names[i]?=some (x,kk)→(aR ⟨ps,fd.scope.names.length,b'⟩ vs)[i]?=some (some w)→∃ val,(x,val) ∈ (fd.params.args.map (·.arg)).zip xs ∧ RepV as h₁ w val:=fun i x kk w e1 e2=>by
  unfold aR at e2
  rcases kQ _ _ _ _ _ e2 with h | ⟨j,h1,h2⟩
  ·exfalso
   rw [List.getElem?_replicate] at h
   split at h <;> simp at h
  ·obtain ⟨val,h3,h4⟩:=rvs.get h2
   have hj:j < (fd.params.args.map (·.arg)).length:=by
    have h1':ps[j]?=some i:=h1
    have h9:=(List.getElem?_eq_some_iff.mp h1').1
    have h8:=hps'.1
    lia
   obtain ⟨i',h5,h6⟩:=hps'.2 j _ (List.getElem?_eq_getElem hj)
   have h1':ps[j]?=some i:=h1
   rw [h1'] at h5; cases h5
   obtain ⟨k2,h7,_⟩:=fW h6
   have h7':fd.scope.names[i]?=some ((fd.params.args.map (·.arg))[j],k2):=h7
   rw [e1] at h7'; cases h7'
   refine ⟨val,?_,h4⟩
   have:((fd.params.args.map (·.arg)).zip xs)[j]?=some ((fd.params.args.map (·.arg))[j],val):=by
    rw [List.getElem?_zip_eq_some]
    exact ⟨List.getElem?_eq_getElem hj,h3⟩
   exact List.mem_of_getElem? this
 have F1:ay g (callEnvC fd s.heap.objs.size a) as (aR ⟨ps,fd.scope.names.length,b'⟩ vs) h₁:=by
  refine ⟨hkind,hsz,f1,f2,?_,hnd,⟨_,uns,fun i x w e1 e2=>?_⟩,fun i x kk e1 e2=>?_,notas _ (Nat.le_refl _),fun x cc e=>⟨notas _ (Nat.le_of_lt (lkm x cc e)),Nat.ne_of_gt (lkm x cc e),⟨_,ucell x cc e⟩⟩,fun x y cc e1 e2=>?_,fun x cc e=>notb _ (Nat.le_of_lt (lkm x cc e))⟩
  ·show (aR _ vs).length=fd.scope.names.length
   unfold aR; rw [j5]; simp
  ·obtain ⟨val,h1,h2⟩:=hval i x _ w e1 e2
   refine ⟨val,jK ?_ _ _ (by rw [hnb]; exact f14) (.inl h1),h2⟩
   rw [hE]; exact bi hnd e1
  ·have hk2:kk=.cell:=by
    rcases e2 with e2 | e2
    ·exact e2
    ·have:=f8 _ (List.mem_of_getElem? e1)
     rw [e2] at this; cases this
   subst hk2
   have hlk:=bi hnd e1
   obtain ⟨cc,hcc⟩:=hcellsome x hlk
   refine ⟨cc,_,hcc,ucell x cc hcc,fun w e=>?_⟩
   obtain ⟨val,h1,h2⟩:=hval i x _ w e1 e
   refine ⟨val,kr ?_ _ _ (by rw [hnb]; exact f14) (.inl h1),h2⟩
   rw [hE,hlk]; simp
  ·exact name_of_addr uapart (av e1) (av e2)
 have N1:aq (c.sub fd.scope.names) (callEnvC fd s.heap.objs.size a) (A.deeper (callEnvC fd s.heap.objs.size a)):=by
  refine ⟨?_,fun a' ha'=>?_,fun (q:c.top=some fd.scope.names)=>⟨?_,rfl⟩⟩
  ·show F2 _ fd.scope.names fd.scope.names
   generalize fd.scope.names=l
   induction l with
   | nil=>exact .nil
   | cons p r ih=>exact .cons ⟨rfl,.inl rfl⟩ ih
  ·have ha'':c.lam=some a':=ha'
   rw [ha''] at f16
   exact eq_of_beq f16
  ·rcases hT with h | h
   ·rw [h] at q; cases q
   ·show A.frames.map _=_
    rw [h]; rfl
 have hroom:b5 g (A.deeper (callEnvC fd s.heap.objs.size a)) (2 * n + 1):=by
  have h1:=hA.units; have h2:=hA.depth
  exact ⟨by rw [units_deeper]; lia,by rw [depth_deeper]; lia,hA.handled⟩
 exact k _ body h₁ tk₁ ⟨hb',N1,F1,R1,ukeep,fun b hb=>by
  rcases b7 hb with q | ⟨x,q⟩
  ·rw [q]; exact fresh _ (Nat.le_refl _)
  ·exact fresh _ (Nat.le_of_lt (lkm x b q)),rfl,hroom⟩
def rm (fl:Fl) (v:V):Prop:=fl=.ret v ∨ (fl=.next ∧ v=.none)
theorem rA {r:RS}{v:V} {σ':Sto} (e:sE r=.ok v σ'):∃ fl fr',r=.ok fl fr' σ' ∧ rm fl v:=by
 cases r with
 | ok f fr σ =>
  cases f with
  | next=>cases e; exact ⟨_,_,rfl,.inr ⟨rfl,rfl⟩⟩
  | ret w=>cases e; exact ⟨_,_,rfl,.inl rfl⟩
  | _=>cases e
 | _=>cases e
theorem sO {n k:Nat}{vs:List V} {σ σ':Sto}{v:V} (ev:evFn P wf (n + 1) k vs σ=.ok v σ'):∃ fn fl fr',P k=some fn ∧ vs.length=fn.ps.length ∧ evSs (evFn P wf n) wf fn.body (aR fn vs) σ=.ok fl fr' σ' ∧ rm fl v :=
 let ⟨fn,h1,h2,h3⟩:=qn ev fun q=>nomatch q
 let ⟨fl,fr',h4,h5⟩:=rA h3
 ⟨fn,fl,fr',h1,h2,h4,h5⟩
noncomputable def Av:Flow→Value | .ret v=>v | _=>.none
theorem vB {as:List Addr}{h:Heap}{fl:Fl}{v:V}{f:Flow} (hf:fV as h fl f) (hr:rm fl v):RepV as h v (Av f):=by
 rcases hr with rfl | ⟨rfl,rfl⟩
 ·obtain ⟨val,hv,rv⟩:=hf; subst hv; exact rv
 ·have:f=.next:=hf
  subst this; rw [RepV]; rfl
theorem cU {c:CE}{call:Nat→List V→Sto→RE}{n:Nat} (h:c.top=none ∧ c.tfns=[]):ia g K c call n:=fun f k e=>by rw [h.2] at e; cases e
theorem nI {c:CE}{a:Addr}{fn:Fn}{vs:List V} {σ σ':Sto}{v:V}{fl:Fl}{fr':Fra}{call:Nat→List V→Sto→RE}{n:Nat}{A:Around}{s:Shared}{as:List Addr}{xs:List Value}{R:Result→Shared→Prop} (G:bH g K c fa) (J:bB g) (hlim:g.b.NoLimit) (C:ci g K c fa call (2 * n)) (hPk:aK K c a=some fn) (hlen:vs.length=fn.ps.length)
  (he:evSs call wf fn.body (aR fn vs) σ=.ok fl fr' σ') (hr:rm fl v) (hT:c.top=none ∨ A.frames=some []) (hA:b5 g A (2 * (n + 1))) (R0:Rel g as σ s.heap) (hsz:g.b.objs.size ≤ s.heap.objs.size) (r0:ah as s.heap vs xs)
  (hR:∀ (val:Value) (as':List Addr) (h':Heap) (tk:Nat),aD [] as s.heap as' h'→Rel g as' σ' h'→RepV as' h' v val→R (.ok (.ret val)) { s with heap:=h',toks:=tk }):codeAny (model g.prog g.w) A (.call (.ref a) ⟨xs,[]⟩) R s:=by
 refine je G.kin hlim hT hPk hlen hA R0 hsz r0 fun env body h tk E=>?_
 refine eG (dp G J C 20) _ body fn.body E.comp _ _ _ { s with heap:=h,toks:=tk } as _ fr' σ σ' fl _ E.N E.room ⟨E.F,E.R⟩ he fun f as2 h2 tk2 hf st2 R2 F2=>?_
 have a1:aD (ownOf env) as s.heap as h:=aD.of_ext E.ext
 exact hR (Av f) as2 h2 tk2 ((a1.trans st2 R2.nd F2.offs).shrink fun b hb=>.inr (E.new b hb)) R2 (vB hf hr)
theorem qj (c:Nat→CE) (hT:∀ k a,fa k=some a→(c k).top=none ∧ (c k).tfns=[]) (G:∀ k a,fa k=some a→bH g K (c k) fa) (J:bB g) (hlim:g.b.NoLimit) (hP:∀ k a,fa k=some a→P k=aK K (c k) a) {n:Nat} (C:d5 g fa (evFn P wf n) (2 * n)):d5 g fa (evFn P wf (n + 1)) (2 * (n + 1)):=by
 intro k a vs σ σ' v hfa ev A s as xs R hA R0 hsz r0 hR
 obtain ⟨fn,fl,fr',hfn,hlen,he,hr⟩:=sO ev
 exact nI (G k a hfa) J hlim ⟨C,cU (hT k a hfa)⟩ ((hP k a hfa).symm.trans hfn) hlen he hr (.inl (hT k a hfa).1) hA R0 hsz r0 hR
theorem gc (c:Nat→CE) (hT:∀ k a,fa k=some a→(c k).top=none ∧ (c k).tfns=[]) (G:∀ k a,fa k=some a→bH g K (c k) fa) (J:bB g) (hlim:g.b.NoLimit) (hP:∀ k a,fa k=some a→P k=aK K (c k) a):∀ n,d5 g fa (evFn P wf n) (2 * n)
 | 0=>fun k a vs σ σ' v hfa ev=>nomatch ev
 | n + 1=>qj c hT G J hlim hP (gc c hT G J hlim hP n)
end
end Mine
namespace Mine
open PySem PyProof.Rows PySem.W
section
variable {g:Cfg}{K:Frag}{fa:Nat→Option Addr}{env:Env}{A:Around}{X:Value→Shared→Prop}{s:Shared}{as:List Addr}{fr:Fra} {σ:Sto}{c0:CE}{names:List (Str × NameKind)}
theorem wU {x:Str}{C:Addr}{np cpos pos p:Pos}{text:Str}{u:Nat}{Q:Flow→Shared→Prop} (G:bH g K c0 fa) (hx:c0.excs.lookup x=some C) (T:At g env as fr σ s) (N:aq (c0.sub names) env A) (hA:A.handled=none) (hg:(c0.sub names).glob x=true) (hd:(x == ("__debug__":Str))=false)
  (hE:∀ h' e t tk,Heap.MadeExcOf s.heap h' e (.ref C) [.str text t]→X (.ref e) { s with heap:=h',toks:=tk }) :
  wpAny (model g.prog g.w) A (exec (.Raise (some (.Call (.Name x np) [.Constant (.str text) u p] [] cpos)) none pos) env) Q X s:=by
 obtain ⟨mg,O⟩:=G.exc.r x C hx
 obtain ⟨bm,Na,nm,q,bs,hdct,sn,sub,ab,col,dd,k0,k1,k2,k3,k5,mN,hC,hn,hni,OT⟩:=O.obj
 refine wpAny_Raise_call_subT (C:=C) (nm:=nm) (q:=q) (N:=Na) (bs:=bs) (hdct:=hdct) (sn:=sn) (sub:=sub) (ab:=ab) (col:=col) (dd:=dd) (k0:=k0) (k1:=k1) (k2:=k2) (k3:=k3) (k5:=k5) F.excBase_ValueError (OT.hasType F.excBase_ValueError.hasBase) hA rfl hni (cx T N hg hd (G.exc.i x C hx) ⟨rfl,?_⟩)
 refine PySem.Calls.evalArgs_plain (PySem.Calls.spliced_cons (wpAny_Constant_str (k:=u) (pos:=p) ?_))
 exact PySem.Calls.spliced_nil ⟨rfl,(by decide:1 ≤ sizeLine),T.R.base _ _ hC,hn.keeps T.R.base,OT.keeps T.R.base,fun h' e hm=>hE h' e _ _ hm⟩
end
end Mine
namespace Mine
open PySem PyProof.Rows PySem.W
inductive w0 (base:Heap) (e:Addr) (h:Heap) (vs:Array Value):Option Value→Prop
 | made (h1:vs[1]?=some .none):w0 base e h vs none
 | tb {f:Value}{T:Addr}{oT:Obj}{ts:Array Value} (h1:vs[1]?=some (.ref T)) (hn:base.get? T=none) (hne:T ≠ e) (hT:h.get? T=some oT) (hd:oT.data=.fields ts) (h3:ts[3]?=some f):w0 base e h vs (some f)
structure Fly (base:Heap) (l:List Env) (e:Addr) (cls:Value) (fl:Option Value) (h:Heap):Prop where
 stays:base.StaysIn h
 new:base.get? e=none
 frames:h.FunFrames base l
 st:∃ oe vs,h.get? e=some oe ∧ oe.dict=none ∧ oe.cls=cls ∧ oe.data=.fields vs ∧ vs[2]?=some .none ∧ w0 base e h vs fl
section
variable {M:Model}{A:Around}{E:Value→Shared→Prop}{s:Shared}{base:Heap}{env:Env}{outer l:List Env}{L e:Addr}{cls:Value}
theorem tr (o:Obj) (f:Array Value→Array Value):(Obj.mapFields f o).dict=o.dict:=by
 obtain ⟨c,d,dt,sl⟩:=o; cases dt <;> rfl
theorem m5 {oe:Obj}{vs:Array Value}{head:Value}{hadNext:Bool}{Q:Unit→Shared→Prop} (hfr:A.frames=some (env :: outer)) (hl:s.heap.FunFrames base (env :: outer)) (hf:env.frame=some L)
  (he:s.heap.get? e=some oe) (hkb:base.StaysIn s.heap) (hen:base.get? e=none) (hn0:oe.dict=none) (hd:oe.data=.fields vs) (hsz:1 < vs.size) (h2:vs[2]?=some .none)
  (h:∀ h',Fly base (env :: outer) e oe.cls (some (rawInt L)) h'→s.heap.UpToSlots h'→Q () { s with heap:=h' }) :
  wpAny M A (do let a ← frameOf env; let pl ← entryPlaceOf L hadNext; let b ← EntryCells.newEntry head a .none (rawInt L) .none pl; setField (.ref e) 1 b) Q E s:=by
 have hene:e ∉ (env :: outer).filterMap (·.frame):=fun hm=>by
  obtain ⟨_,o,ho,hnf⟩:=hl.mem hm
  rw [he] at ho; cases ho; exact hnf vs hd
 refine wpAny_bind (wpAny_frameOf_fun hfr hl hf fun h₁ hs₁=>?_)
 refine wpAny_bind (wpAny_entryPlaceOf fun pl hpl=>?_)
 unfold EntryCells.newEntry newFields
 refine wpAny_bind (wpAny_newObj_type ?_ (hpl.sizeOk5 _ _ _ _ _))
 have he₁:h₁.get? e=some oe:=(hs₁.2.1 e hene).trans he
 have kb₁:base.StaysIn h₁:=fun b o hbo=>(hs₁.2.1 b fun hm=>by rw [(hl.mem hm).1] at hbo; cases hbo).trans (hkb b o hbo)
 have he₂:=Heap.get?_push_of_some (h:=h₁) { cls:=.type "traceback",dict:=none,data:=.fields ([head,.ref L,.none,rawInt L,.none] ++ (if pl.isEmpty then List.replicate 6 Value.none else pl)).toArray } he₁
 have hTe:h₁.objs.size ≠ e:=Nat.ne_of_gt (Heap.lt_size he₁)
 have hd₃:=Obj.data_mapFields hd (·.setIfInBounds 1 (Value.ref h₁.objs.size))
 have he₃:=Heap.get?_update_self (Obj.mapFields (·.setIfInBounds 1 (Value.ref h₁.objs.size))) he₂ (Obj.isFreed_of_fields hd₃)
 have noRecord:∀ b o,s.heap.get? b=some o→(∀ vs,o.data ≠ .fields vs)→b ≠ e:=fun b o hb hnf q=>by
  rw [q,he] at hb; cases hb; exact hnf vs hd
 have hT₃:=(Heap.get?_update_other _ (Obj.mapFields (·.setIfInBounds 1 (Value.ref h₁.objs.size))) (Ne.symm hTe)).trans (Heap.get?_push_size h₁ (o:={ cls:=.type "traceback",dict:=none,data:=.fields ([head,.ref L,.none,rawInt L,.none] ++ (if pl.isEmpty then List.replicate 6 Value.none else pl)).toArray }) rfl)
 have keep:∀ b o,b ≠ e→h₁.get? b=some o→((h₁.push { cls:=.type "traceback",dict:=none,data:=.fields ([head,.ref L,.none,rawInt L,.none] ++ (if pl.isEmpty then List.replicate 6 Value.none else pl)).toArray }).update e (Obj.mapFields (·.setIfInBounds 1 (Value.ref h₁.objs.size)))).get? b=some o:=fun b o hbe hb=>by
  rw [Heap.get?_update_other _ _ (Ne.symm hbe)]; exact Heap.get?_push_of_some _ hb
 refine wpAny_setField he₂ hd hsz (h _ ⟨fun b o hbo=>keep b o (fun q=>by rw [q,hen] at hbo; cases hbo) (kb₁ b o hbo),hen,hl.of_keeps fun b o hb hnf=>?_,_,_,he₃,(tr _ _).trans hn0,Obj.cls_mapFields _ _,hd₃,?_,.tb (T:=h₁.objs.size) (by simp [hsz]) kb₁.fresh hTe hT₃ rfl ?_⟩ fun b o hb hnf=>?_)
 ·obtain ⟨sl,hs⟩:=hs₁.2.2 b o hb
  exact ⟨_,keep b _ (noRecord b o hb hnf) hs,rfl⟩
 ·rw [Array.getElem?_setIfInBounds_ne (by decide)]; exact h2
 ·first | (simp; done) | (rcases hpl with rfl | ⟨_,_,_,_,_,_,_,rfl⟩ <;> simp)
 ·obtain ⟨sl,hs⟩:=hs₁.2.2 b o hb
  exact ⟨sl,keep b _ (noRecord b o hb hnf) hs⟩
set_option tactic.hygienic true in
theorem kY {fl:Option Value}{Q:Unit→Shared→Prop} (hfr:A.frames=some (env :: outer)) (hf:env.frame=some L) (F:Fly base (env :: outer) e cls fl s.heap) (hfl:fl=none ∨ fl=some .none ∨ fl=some (rawInt L))
  (h:∀ h',Fly base (env :: outer) e cls (some (rawInt L)) h'→s.heap.UpToSlots h'→Q () { s with heap:=h' }):wpAny M A (noteFrame (.ref e) env) Q E s:=by
 obtain ⟨oe,vs,he,hn0,hc,hd,h2,fa⟩:=F.st
 subst hc
 unfold noteFrame
 simp only [hf]
 cases fa with
 | made h1 =>
  refine wpAny_bind (wpAny_field he hd h1 ?_)
  rw [if_neg (by decide)]
  exact m5 hfr F.frames hf he F.stays F.new hn0 hd (Array.getElem?_eq_some_iff.mp h1).1 h2 h
 | tb h1 hn hne hT hdT h3 =>
  rename_i f T oT ts
  refine wpAny_bind (wpAny_field he hd h1 ?_)
  rw [if_pos (show (Value.ref T != Value.none)=true from by simp)]
  refine wpAny_bind (wpAny_field hT hdT h3 ?_)
  rcases hfl with q | q | q
  ·cases q
  ·cases q
   rw [if_neg (show ¬ ((Value.none == rawInt L)=true) from by simp [rawInt])]
   refine wpAny_bind (wpAny_setField hT hdT (Array.getElem?_eq_some_iff.mp h3).1 ?_)
   have other:∀ b,b ≠ T→(s.heap.update T (Obj.mapFields (·.setIfInBounds 3 Value.none))).get? b=s.heap.get? b:=fun b hb=>Heap.get?_update_other _ _ (Ne.symm hb)
   have noRecord:∀ b o,s.heap.get? b=some o→(∀ vs,o.data ≠ .fields vs)→b ≠ T:=fun b o hb hnf q=>by
    rw [q,hT] at hb; cases hb; exact hnf ts hdT
   exact m5 (s:={ s with heap:=s.heap.update T (Obj.mapFields (·.setIfInBounds 3 Value.none)) }) hfr (F.frames.of_keeps fun b o hb hnf=>⟨o,(other b (noRecord b o hb hnf)).trans hb,rfl⟩) hf ((other e (Ne.symm hne)).trans he)
    (fun b o hbo=>(other b fun q=>by rw [q,hn] at hbo; cases hbo).trans (F.stays b o hbo)) F.new hn0 hd (Array.getElem?_eq_some_iff.mp h1).1 h2
    fun h' x1 x2=>h h' x1 fun b o hb hnf=>x2 b o ((other b (noRecord b o hb hnf)).trans hb) hnf
  ·cases q
   rw [if_pos (show (rawInt L == rawInt L)=true from by simp)]
   exact wpAny_pure (h _ F (Heap.UpToSlots.refl _))
set_option tactic.hygienic true in
theorem eR {f:Value}{o:Option Addr}{Q:Unit→Shared→Prop} (F:Fly base l e cls (some f) s.heap)
  (h:∀ h',Fly base l e cls (some (o.elim .none fun a=>rawInt a)) h'→s.heap.UpToSlots h'→Q () { s with heap:=h' }):wpAny M A (setFlight (.ref e) o) Q E s:=by
 obtain ⟨oe,vs,he,hn0,hc,hd,h2,fa⟩:=F.st
 cases fa with
 | tb h1 hn hne hT hdT h3 =>
  rename_i T oT ts
  have hsz3:3 < ts.size:=(Array.getElem?_eq_some_iff.mp h3).1
  have other:∀ b,b ≠ T→(s.heap.update T (Obj.mapFields (·.setIfInBounds 3 (o.elim Value.none fun f=>rawInt f)))).get? b=s.heap.get? b:=fun b hb=>Heap.get?_update_other _ _ (Ne.symm hb)
  have noRecord:∀ b o,s.heap.get? b=some o→(∀ vs,o.data ≠ .fields vs)→b ≠ T:=fun b o hb hnf q=>by
   rw [q,hT] at hb; cases hb; exact hnf ts hdT
  unfold setFlight
  refine wpAny_bind (wpAny_field he hd h1 ?_)
  rw [if_pos (show (Value.ref T != Value.none)=true from by simp)]
  refine wpAny_setField hT hdT hsz3 (h _ ⟨fun b o hbo=>(other b fun q=>by rw [q,hn] at hbo; cases hbo).trans (F.stays b o hbo),F.new,F.frames.of_keeps fun b o hb hnf=>⟨o,(other b (noRecord b o hb hnf)).trans hb,rfl⟩,oe,vs,(other e (Ne.symm hne)).trans he,hn0,hc,hd,h2,.tb h1 hn hne (Heap.get?_update_self _ hT (Obj.isFreed_of_fields (Obj.data_mapFields hdT _))) (Obj.data_mapFields hdT _) (by simp [hsz3])⟩ fun b o hb hnf=>⟨o.slots,(other b (noRecord b o hb hnf)).trans hb⟩)
theorem sJ {fl:Option Value}{Q:Unit→Shared→Prop} (hfr:A.frames=some (env :: outer)) (hf:env.frame=some L) (F:Fly base (env :: outer) e cls fl s.heap) (hfl:fl=none ∨ fl=some .none ∨ fl=some (rawInt L))
  (h:∀ h',Fly base outer e cls (some .none) h'→s.heap.UpToSlots h'→Q () { s with heap:=h' }):wpAny M A (leaving env (.ref e)) Q E s:=by
 unfold leaving
 refine wpAny_bind (kY hfr hf F hfl fun h₁ F₁ u₁=>?_)
 exact eR (s:={ s with heap:=h₁ }) (o:=none) F₁ fun h₂ F₂ u₂=>h h₂ ⟨F₂.stays,F₂.new,F₂.frames.2.2,F₂.st⟩ (u₁.trans u₂)
set_option tactic.hygienic true in
theorem vN {fl:Option Value} (hf:env.frame=some L) {f:Value} (F:Fly base (env :: outer) e cls (some f) s.heap)
  (h:∀ h',Fly base (env :: outer) e cls (some (rawInt L)) h'→s.heap.UpToSlots h'→E (.ref e) { s with heap:=h' }):cameBackBy M A env E (.ref e) s:=by
 have F0:=F
 obtain ⟨oe,vs,he,hn0,hc,hd,h2,fa⟩:=F.st
 cases fa with
 | tb h1 hn hne hT hdT h3 =>
  rename_i T oT ts
  unfold cameBackBy
  refine wpAny_bind (wpAny_field he hd h1 ?_)
  rw [if_neg (show ¬ ((Value.ref T == Value.none)=true) from by simp)]
  rw [hf]
  exact eR (o:=some L) F0 h
end
end Mine
namespace Mine
open PySem PyProof.Rows PySem.W
noncomputable def Frs (l:List Env):List Addr:=l.filterMap (·.frame)
structure Stk (g:Cfg) (as:List Addr) (l:List Env) (h:Heap):Prop where
 fr:h.FunFrames g.b l
 off:∀ a ∈ Frs l,a ∉ as
 dict:∀ a ∈ Frs l,∀ o,h.get? a=some o→¬ Imm o
structure FrX (g:Cfg) (env:Env) (as:List Addr) (fr:Fra) (B h:Heap):Prop where
 kind:env.scope.kind=.function
 above:g.b.objs.size ≤ env.locals
 glob:env.globals=mainGlobals
 blt:env.builtins=builtinsNs
 len:fr.length=env.scope.names.length
 nd:(env.scope.names.map (·.1)).Nodup
 ns:∃ m,h.Ns env.locals m ∧ ∀ (i:Nat) (x:Str) (v:V),env.scope.names[i]?=some (x,.local)→fr[i]?=some (some v)→∃ val,m x=some val ∧ RepV as B v val
 cells:∀ (i:Nat) (x:Str) (k:NameKind),env.scope.names[i]?=some (x,k)→(k=.cell ∨ k=.free)→∃ c cv,env.cells.lookup x=some c ∧ B.IsCell c cv ∧ (∀ v,fr[i]?=some (some v)→∃ val,cv=some val ∧ RepV as B v val)
 off:env.locals ∉ as
 offc:∀ x c,env.cells.lookup x=some c→c ∉ as ∧ c ≠ env.locals ∧ ∃ cv,B.IsCell c cv
 apart:∀ x y c,env.cells.lookup x=some c→env.cells.lookup y=some c→x=y
 newc:∀ x c,env.cells.lookup x=some c→g.b.get? c=none
structure kb (g:Cfg) (env:Env) (l:List Env) (own as:List Addr) (h:Heap) (C:Addr) (fl:Option Value) (fr':Fra) (σ':Sto) (e:Addr) (as':List Addr) (B h':Heap):Prop where
 pre:∃ t,as'=as ++ t ∧ ∀ a ∈ t,h.get? a=none
 ext:∀ (b:Addr) (o:Obj),h.get? b=some o→b ∉ own→b ∉ as→b ∉ Frs l→B.get? b=some o
 slots:∀ (b:Addr) (o:Obj),h.get? b=some o→b ∈ Frs l→b ∉ own→∃ sl,h'.get? b=some { o with slots:=sl }
 R:Rel g as' σ' B
 F:FrX g env as' fr' B h'
 fly:Fly B l e (.ref C) fl h'
section
variable {g:Cfg}{env:Env}{A:Around}{X:Value→Shared→Prop}{s:Shared}{as own:List Addr}{fr:Fra} {σ:Sto}{c:CE}{l:List Env}
theorem Rel.sub {h B:Heap} (R:Rel g as σ h) (hb:∀ (b:Addr) (o:Obj),h.get? b=some o→(g.b.get? b).isSome ∨ b ∈ as ∨ Imm o→B.get? b=some o):Rel g as σ B :=
 have K:bX as h as B:=.same fun a o e im _=>hb a o e (.inr (.inr im))
 ⟨fun a o e=>hb a o (R.base a o e) (.inl (by rw [e]; rfl)),R.len,R.nd,R.new,fun i a o h1 h2=>(R.obj i a o h1 h2).keep K fun ob e=>hb a ob e (.inr (.inl (List.mem_of_getElem? h1))),R.hnd.keep K⟩
theorem cS {h base:Heap}{l:List Env} (F:h.FunFrames base l) {b:Addr} (hb:b ∈ Frs l):base.get? b=none ∧ ∃ o,h.get? b=some o ∧ ∀ vs,o.data ≠ .fields vs:=F.mem hb
theorem gK {h base:Heap}:∀ {l:List Env},h.FunFrames base l→∀ S:List Addr,(∀ a ∈ Frs l,a ∈ S)→h.FunFrames (hideAll h S) l
 | [],_,_,_=>trivial
 | env :: l,⟨hk,⟨L,o,hf,_,ho,hd⟩,hr⟩,S,hS=>by
  refine ⟨hk,⟨L,o,hf,hideAll_none _ (hS L ?_),ho,hd⟩,gK hr S fun a ha=>hS a ?_⟩
  ·unfold Frs; rw [List.filterMap_cons,hf]; exact .head _
  ·unfold Frs at *; rw [List.filterMap_cons,hf]; exact .tail _ ha
theorem iQ {B h:Heap} (k:B.StaysIn h) {c:Addr}{cv:Option Value} (x:B.IsCell c cv):h.IsCell c cv:=by
 obtain ⟨o,ho,r⟩:=x
 exact ⟨o,k _ _ ho,r⟩
theorem FrX.rel {B h:Heap} (F:FrX g env as fr B h) (k:B.StaysIn h):ay g env as fr h:=by
 have K:bX as B as h:=.same fun a o e _ _=>k a o e
 obtain ⟨m,hm,hv⟩:=F.ns
 refine ⟨F.kind,F.above,F.glob,F.blt,F.len,F.nd,⟨m,hm,fun i x v h1 h2=>?_⟩,fun i x kk h1 h2=>?_,F.off,fun x c hc=>?_,F.apart,F.newc⟩
 ·obtain ⟨val,e1,e2⟩:=hv i x v h1 h2
  exact ⟨val,e1,RepV.keep K _ _ e2⟩
 ·obtain ⟨c,cv,e1,e2,e3⟩:=F.cells i x kk h1 h2
  exact ⟨c,cv,e1,iQ k e2,fun v hv=>by obtain ⟨val,q1,q2⟩:=e3 v hv; exact ⟨val,q1,RepV.keep K _ _ q2⟩⟩
 ·obtain ⟨a,b,cv,d⟩:=F.offc x c hc
  exact ⟨a,b,cv,iQ k d⟩
theorem FrX.slots {B h h':Heap} (F:FrX g env as fr B h) (u:h.UpToSlots h'):FrX g env as fr B h':=by
 obtain ⟨m,hm,hv⟩:=F.ns
 exact ⟨F.kind,F.above,F.glob,F.blt,F.len,F.nd,⟨m,u.ns hm,hv⟩,F.cells,F.off,F.offc,F.apart,F.newc⟩
theorem FrX.offs {B h:Heap} (F:FrX g env as fr B h):∀ a ∈ ownOf env,a ∉ as:=fun a ha=>by
 rcases List.mem_cons.mp ha with rfl | ha
 ·exact F.off
 ·obtain ⟨p,hp,e⟩:=List.mem_filterMap.mp ha
  exact (F.offc _ _ e).1
theorem xM {h h':Heap} (F:ay g env as fr h) (S:List Addr) (k:∀ (a:Addr) (o:Obj),h.get? a=some o→h'.get? a=some o) (hi:∀ a ∈ S,∀ o,h.get? a=some o→¬ Imm o) (hc:∀ x c,env.cells.lookup x=some c→c ∉ S):FrX g env as fr (hideAll h S) h':=by
 have K:bX as h as (hideAll h S):=.same fun a o e im _=>hideAll_get _ e fun q=>hi a q o e im
 have cl:∀ {x c cv},env.cells.lookup x=some c→h.IsCell c cv→(hideAll h S).IsCell c cv:=fun hx ⟨o,ho,r⟩=>⟨o,hideAll_get _ ho (hc _ _ hx),r⟩
 obtain ⟨m,hm,hv⟩:=F.ns
 refine ⟨F.kind,F.above,F.glob,F.blt,F.len,F.nd,⟨m,(Heap.UpToSlots.of_keeps k).ns hm,fun i x v h1 h2=>?_⟩,fun i x kk h1 h2=>?_,F.off,fun x c hx=>?_,F.apart,F.newc⟩
 ·obtain ⟨val,e1,e2⟩:=hv i x v h1 h2
  exact ⟨val,e1,RepV.keep K _ _ e2⟩
 ·obtain ⟨c,cv,e1,e2,e3⟩:=F.cells i x kk h1 h2
  exact ⟨c,cv,e1,cl e1 e2,fun v hv=>by obtain ⟨val,q1,q2⟩:=e3 v hv; exact ⟨val,q1,RepV.keep K _ _ q2⟩⟩
 ·obtain ⟨a,b,cv,d⟩:=F.offc x c hx
  exact ⟨a,b,cv,cl hx d⟩
theorem qH {e C:Addr}{args:List Value}{h':Heap} (S:Stk g as l s.heap) (T:At g env as fr σ s) (hc:∀ x c,env.cells.lookup x=some c→c ∉ Frs l) (hm:Heap.MadeExcOf s.heap h' e (.ref C) args):kb g env l own as s.heap C none fr σ e as (hideAll s.heap (Frs l)) h':=by
 have hnew:(hideAll s.heap (Frs l)).get? e=none:=by
  cases q:(hideAll s.heap (Frs l)).get? e with
  | none=>rfl
  | some o=>have:=of_hideAll _ q; rw [hm.new] at this; cases this
 obtain ⟨t,ht,_,_⟩:=hm.there
 refine ⟨⟨[],(List.append_nil _).symm,fun _ h=>nomatch h⟩,fun b o hb _ _ hl=>hideAll_get _ hb hl,fun b o hb _ _=>⟨o.slots,hm.keeps b o hb⟩,T.R.sub fun b o hb hx=>hideAll_get _ hb fun hl=>?_,?_,fun b o q=>hm.keeps b o (of_hideAll _ q),hnew,(gK S.fr (Frs l) fun _ h=>h).of_keeps fun b o hb _=>⟨o,hm.keeps b o hb,rfl⟩,_,_,ht,rfl,rfl,rfl,rfl,.made rfl⟩
 ·rcases hx with hx | hx | hx
  ·rw [(cS S.fr hl).1] at hx; cases hx
  ·exact S.off b hl hx
  ·exact S.dict b hl o hb hx
 ·exact xM T.F (Frs l) hm.keeps S.dict hc
theorem kb.after {as1 as':List Addr}{h h1 h' B:Heap}{C e:Addr}{fl:Option Value}{fr':Fra} {σ':Sto} (x:aD own as h as1 h1) (ho:own=ownOf env) (off:∀ a ∈ Frs l,a ∉ as) (E:kb g env l own as1 h1 C fl fr' σ' e as' B h'):kb g env l own as h C fl fr' σ' e as' B h':=by
 obtain ⟨⟨t1,rfl,f1⟩,ext⟩:=x
 obtain ⟨t2,q2,f2⟩:=E.pre
 have nd:=E.R.nd
 have offs:=E.F.offs
 rw [← ho] at offs
 have h1of:∀ {b:Addr}{o:Obj},h.get? b=some o→b ∉ t1:=fun e q=>by rw [f1 _ q] at e; cases e
 refine ⟨⟨t1 ++ t2,by rw [q2,List.append_assoc],fun a ha=>?_⟩,fun b o hb n1 n2 n3=>E.ext b o (ext b o hb n1 n2) n1 (fun q=>(List.mem_append.mp q).elim n2 (h1of hb)) n3,fun b o hb n1 n2=>E.slots b o (ext b o hb n2 (off b n1)) n1 n2,E.R,E.F,E.fly⟩
 rcases List.mem_append.mp ha with ha | ha
 ·exact f1 a ha
 ·cases q:h.get? a with
  | none=>rfl
  | some o =>
   have hn:a ∉ as:=fun hq=>by
    rw [q2] at nd
    exact (List.nodup_append.mp nd).2.2 a (List.mem_append_left _ hq) a ha rfl
   have:=ext a o q (fun hq=>offs a hq (by rw [q2]; exact List.mem_append_right _ ha)) hn
   rw [f2 a ha] at this; cases this
theorem kb.fly' {as':List Addr}{h h' h'' B:Heap}{C e:Addr}{fl fl':Option Value}{fr':Fra} {σ':Sto} (E:kb g env l own as h C fl fr' σ' e as' B h') (F':Fly B l e (.ref C) fl' h'') (u:h'.UpToSlots h'') (hs:∀ (b:Addr) (o:Obj),h.get? b=some o→b ∈ Frs l→∀ vs,o.data ≠ .fields vs):kb g env l own as h C fl' fr' σ' e as' B h'':=by
 refine ⟨E.pre,E.ext,fun b o hb n1 n2=>?_,E.R,E.F.slots u,F'⟩
 obtain ⟨sl,hsl⟩:=E.slots b o hb n1 n2
 obtain ⟨sl',h2⟩:=u b _ hsl (hs b o hb n1)
 exact ⟨sl',h2⟩
section
variable {M:Model}{outer:List Env}{L:Addr}{as':List Addr}{h h' B:Heap}{C e:Addr}{fl:Option Value}{fr':Fra} {σ':Sto}{s':Shared}
theorem rE (hfr:A.frames=some (env :: outer)) (hf:env.frame=some L) (hs:∀ (b:Addr) (o:Obj),h.get? b=some o→b ∈ Frs (env :: outer)→∀ vs,o.data ≠ .fields vs) (E:kb g env (env :: outer) own as h C fl fr' σ' e as' B s'.heap) (hfl:fl=none ∨ fl=some .none ∨ fl=some (rawInt L))
  (k:∀ h'',kb g env (env :: outer) own as h C (some (rawInt L)) fr' σ' e as' B h''→X (.ref e) { s' with heap:=h'' }):notedBy M A env X (.ref e) s' :=
 kY hfr hf E.fly hfl fun h'' F u=>k h'' (E.fly' F u hs)
theorem sH (hf:env.frame=some L) (hs:∀ (b:Addr) (o:Obj),h.get? b=some o→b ∈ Frs (env :: outer)→∀ vs,o.data ≠ .fields vs) {f:Value} (E:kb g env (env :: outer) own as h C (some f) fr' σ' e as' B s'.heap)
  (k:∀ h'',kb g env (env :: outer) own as h C (some (rawInt L)) fr' σ' e as' B h''→X (.ref e) { s' with heap:=h'' }):cameBackBy M A env X (.ref e) s' :=
 vN (fl:=none) hf E.fly fun h'' F u=>k h'' (E.fly' F u hs)
structure qc (g:Cfg) (l:List Env) (as:List Addr) (h:Heap) (C:Addr) (σ':Sto) (e:Addr) (as':List Addr) (B h':Heap):Prop where
 pre:∃ t,as'=as ++ t ∧ ∀ a ∈ t,h.get? a=none
 ext:∀ (b:Addr) (o:Obj),h.get? b=some o→b ∉ as→b ∉ Frs l→B.get? b=some o
 slots:∀ (b:Addr) (o:Obj),h.get? b=some o→b ∈ Frs l→∃ sl,h'.get? b=some { o with slots:=sl }
 R:Rel g as' σ' B
 fly:Fly B l e (.ref C) (some .none) h'
theorem rK {l:List Env} (hfr:A.frames=some (env :: l)) (hf:env.frame=some L) (hs:∀ (b:Addr) (o:Obj),h.get? b=some o→b ∈ Frs (env :: l)→∀ vs,o.data ≠ .fields vs) {h0:Heap} (k0:∀ (b:Addr) (o:Obj),h0.get? b=some o→h.get? b=some o) (own0:∀ a ∈ own,h0.get? a=none) (hL:h0.get? L=none)
  (E:kb g env (env :: l) own as h C fl fr' σ' e as' B s'.heap) (hfl:fl=none ∨ fl=some .none ∨ fl=some (rawInt L)) {Q:Unit→Shared→Prop}
  (k:∀ h'',qc g l as h0 C σ' e as' B h''→Q () { s' with heap:=h'' }):wpAny M A (leaving env (.ref e)) Q X s':=by
 have hfrs:∀ b,b ∈ Frs (env :: l) ↔ b=L ∨ b ∈ Frs l:=fun b=>by
  unfold Frs; rw [List.filterMap_cons,hf]; exact List.mem_cons
 have nown:∀ {b:Addr}{o:Obj},h0.get? b=some o→b ∉ own:=fun hb q=>by rw [own0 _ q] at hb; cases hb
 have nL:∀ {b:Addr}{o:Obj},h0.get? b=some o→b ≠ L:=fun hb q=>by rw [q,hL] at hb; cases hb
 refine sJ hfr hf E.fly hfl fun h'' F u=>k h'' ⟨?_,fun b o hb n1 n2=>E.ext b o (k0 b o hb) (nown hb) n1 fun q=>((hfrs b).mp q).elim (nL hb) n2,fun b o hb n1=>?_,E.R,F⟩
 ·obtain ⟨t,q,f⟩:=E.pre
  refine ⟨t,q,fun a ha=>?_⟩
  cases z:h0.get? a with
  | none=>rfl
  | some o=>have:=k0 a o z; rw [f a ha] at this; cases this
 ·obtain ⟨sl,h1⟩:=E.slots b o (k0 b o hb) ((hfrs b).mpr (.inr n1)) (nown hb)
  obtain ⟨sl',h2⟩:=u b _ h1 (hs b o (k0 b o hb) ((hfrs b).mpr (.inr n1)))
  exact ⟨sl',h2⟩
theorem qc.here {l:List Env} (S:Stk g as l s.heap) (T:At g env as fr σ s) (hL:env.locals ∈ Frs l) (hc:∀ x c,env.cells.lookup x=some c→c ∉ Frs l) (E:qc g l as s.heap C σ' e as' B h'):kb g env l own as s.heap C (some .none) fr σ' e as' B h':=by
 obtain ⟨t,ht,hf⟩:=E.pre
 have K:bX as s.heap as' B:=⟨fun i a hi=>by rw [ht,List.getElem?_append_left (List.getElem?_eq_some_iff.mp hi).1]; exact hi,fun a o ea im ht=>E.ext a o ea (fun q=>by obtain ⟨ob,e',hn⟩:=T.R.there q; rw [ea] at e'; cases e'; exact ht q (hn im)) fun q=>S.dict a q o ea im,fun a q=>(List.mem_append.mp (ht ▸ q)).imp id fun q o e=>nn ((hf a q).symm.trans e)⟩
 have cl:∀ {x c cv},env.cells.lookup x=some c→s.heap.IsCell c cv→B.IsCell c cv:=fun hx ⟨o,ho,r⟩=>⟨o,E.ext _ _ ho (T.F.offc _ _ hx).1 (hc _ _ hx),r⟩
 have fresh:∀ {a:Addr}{o:Obj},s.heap.get? a=some o→a ∉ as→a ∉ as':=fun ea n q=>by
  rw [ht] at q
  rcases List.mem_append.mp q with q | q
  ·exact n q
  ·rw [hf _ q] at ea; cases ea
 obtain ⟨m,hm,hv⟩:=T.F.ns
 obtain ⟨oL,es,ep,hoL,hdL,rL⟩:=id hm
 obtain ⟨sl,hsl⟩:=E.slots _ _ hoL hL
 refine ⟨E.pre,fun b o hb _ n2 n3=>E.ext b o hb n2 n3,fun b o hb n1 _=>E.slots b o hb n1,E.R,⟨T.F.kind,T.F.above,T.F.glob,T.F.blt,T.F.len,T.F.nd,⟨m,⟨_,es,ep,hsl,hdL,rL⟩,fun i x v h1 h2=>?_⟩,fun i x kk h1 h2=>?_,fresh hoL T.F.off,fun x c hx=>?_,T.F.apart,T.F.newc⟩,E.fly⟩
 ·obtain ⟨val,e1,e2⟩:=hv i x v h1 h2
  exact ⟨val,e1,RepV.keep K _ _ e2⟩
 ·obtain ⟨c,cv,e1,e2,e3⟩:=T.F.cells i x kk h1 h2
  exact ⟨c,cv,e1,cl e1 e2,fun v hv=>by obtain ⟨val,q1,q2⟩:=e3 v hv; exact ⟨val,q1,RepV.keep K _ _ q2⟩⟩
 ·obtain ⟨a,b,cv,d⟩:=T.F.offc x c hx
  obtain ⟨o,ho,r⟩:=id d
  exact ⟨fresh ho a,b,cv,cl hx d⟩
end
end
end Mine
namespace Mine
open PySem PyProof.Rows PySem.W
section
variable {g:Cfg}{K:Frag}{fa:Nat→Option Addr}{env:Env}{A:Around}{X:Value→Shared→Prop}{s:Shared}{as as1 own:List Addr}{fr fr1:Fra} {σ:Sto}{c:CE}{l:List Env}{h h1:Heap}
theorem iS {base:Heap} (k:∀ a ∈ Frs l,∀ o,h.get? a=some o→(∀ vs,o.data ≠ .fields vs)→∃ o',h1.get? a=some o' ∧ ∀ vs,o'.data ≠ .fields vs):h.FunFrames base l→h1.FunFrames base l:=by
 induction l with
 | nil=>exact fun _=>trivial
 | cons e l ih =>
  rintro ⟨hk,⟨L,o,hf,hn,ho,hd⟩,hr⟩
  have hm:∀ a,a ∈ Frs (e :: l) ↔ a=L ∨ a ∈ Frs l:=fun a=>by unfold Frs; rw [List.filterMap_cons,hf]; exact List.mem_cons
  obtain ⟨o',h1,h2⟩:=k L ((hm L).mpr (.inl rfl)) o ho hd
  exact ⟨hk,⟨L,o',hf,hn,h1,h2⟩,ih (fun a ha=>k a ((hm a).mpr (.inr ha))) hr⟩
theorem Stk.step (S:Stk g as l h) (x:aD (ownOf env) as h as1 h1) (F:ay g env as1 fr1 h1) (hc:∀ x c,env.cells.lookup x=some c→c ∉ Frs l):Stk g as1 l h1:=by
 have far:∀ a ∈ Frs l,a ≠ env.locals→a ∉ ownOf env:=fun a ha hne q=>by
  rcases List.mem_cons.mp q with q | q
  ·exact hne q
  ·obtain ⟨p,_,e⟩:=List.mem_filterMap.mp q
   exact hc _ _ e ha
 obtain ⟨m,hm,_⟩:=F.ns
 obtain ⟨oL,es,ep,hoL,hdL,_⟩:=id hm
 refine ⟨iS (fun a ha o ho hd=>?_) S.fr,fun a ha q=>?_,fun a ha o ho=>?_⟩
 ·by_cases e:a=env.locals
  ·exact ⟨oL,by rw [e]; exact hoL,fun vs q=>by rw [hdL] at q; cases q⟩
  ·exact ⟨o,x.ext a o ho (far a ha e) (S.off a ha),hd⟩
 ·obtain ⟨t,rfl,ht⟩:=x.pre
  rcases List.mem_append.mp q with q | q
  ·exact S.off a ha q
  ·obtain ⟨_,o,ho,_⟩:=cS S.fr ha
   rw [ht a q] at ho; cases ho
 ·by_cases e:a=env.locals
  ·subst e; exact F.notImm _ (.head _) o ho
  ·obtain ⟨_,o',ho',_⟩:=cS S.fr ha
   have:=x.ext a o' ho' (far a ha e) (S.off a ha)
   rw [this] at ho; cases ho
   exact S.dict a ha o ho'
structure On (g:Cfg) (env:Env) (A:Around) (as:List Addr) (l:List Env) (h:Heap):Prop where
 hfr:A.frames=some l
 top:∃ outer,l=env :: outer
 hf:env.frame=some env.locals
 hc:∀ x c,env.cells.lookup x=some c→c ∉ Frs l
 S:Stk g as l h
theorem On.step (O:On g env A as l h) (x:aD (ownOf env) as h as1 h1) (F:ay g env as1 fr1 h1):On g env A as1 l h1:=⟨O.hfr,O.top,O.hf,O.hc,O.S.step x F O.hc⟩
def BW (env:Env) (fl:Option Value):Prop:=fl=none ∨ fl=some .none ∨ fl=some (rawInt env.locals)
noncomputable def j6 (g:Cfg) (env:Env) (l:List Env) (as:List Addr) (s:Shared) (C:Addr) (fr':Fra) (σ':Sto) (X:Value→Shared→Prop):Prop :=
 ∀ (fl:Option Value) (e:Addr) (as':List Addr) (B h':Heap) (tk:Nat),BW env fl→kb g env l (ownOf env) as s.heap C fl fr' σ' e as' B h'→X (.ref e) { s with heap:=h',toks:=tk }
theorem gg {C:Addr}{fr':Fra} {σ':Sto}{tk:Nat} (hX:j6 g env l as s C fr' σ' X) (st:aD (ownOf env) as s.heap as1 h1) (off:∀ a ∈ Frs l,a ∉ as):j6 g env l as1 { s with heap:=h1,toks:=tk } C fr' σ' X :=
 fun fl e as' B h' tk' hfl E=>hX fl e as' B h' tk' hfl (E.after st rfl off)
theorem On.mem (O:On g env A as l h):env.locals ∈ Frs l:=by
 obtain ⟨outer,rfl⟩:=O.top
 unfold Frs; rw [List.filterMap_cons,O.hf]; exact .head _
theorem fB {C:Addr} {σ1 σ':Sto}{tk:Nat} (hX:j6 g env l as s C fr σ' X) (O:On g env A as l s.heap) (st:aD [env.locals] as s.heap as1 h1) (R1:Rel g as1 σ1 h1) (F1:ay g env as1 fr h1) {e:Addr}{as2:List Addr}{B h2:Heap} (E:qc g l as1 h1 C σ' e as2 B h2):X (.ref e) { s with heap:=h2,toks:=tk } :=
 hX (some .none) e as2 B h2 tk (.inr (.inl rfl)) ((E.here (s:={ s with heap:=h1 }) (own:=ownOf env) (O.step (up st) F1).S ⟨F1,R1⟩ O.mem O.hc).after (up st) rfl O.S.off)
end
noncomputable def iC (g:Cfg) (fa:Nat→Option Addr) (call:Nat→List V→Sto→RE) (n:Nat):Prop :=
 ∀ (k:Nat) (a:Addr) (vs:List V) (σ σ':Sto) (x:Nat),fa k=some a→call k vs σ=.ex x σ' →
 ∀ (A:Around) (s:Shared) (as:List Addr) (xs:List Value) (l:List Env) (R:Result→Shared→Prop),b5 g A n→A.frames=some l→Stk g as l s.heap→Rel g as σ s.heap→g.b.objs.size ≤ s.heap.objs.size→ah as s.heap vs xs →
  (∀ (e:Addr) (as':List Addr) (B h':Heap) (tk:Nat),qc g l as s.heap x σ' e as' B h'→R (.error (.ref e)) { s with heap:=h',toks:=tk }) →
  codeAny (model g.prog g.w) A (.call (.ref a) ⟨xs,[]⟩) R s
section
variable {g:Cfg}{K:Frag}{fa:Nat→Option Addr}{c0:CE}{call:Nat→List V→Sto→RE}{wf r n:Nat}{names:List (Str × NameKind)}
noncomputable def ip (g:Cfg) (c0:CE) (call:Nat→List V→Sto→RE) (r:Nat) (names:List (Str × NameKind)) (e:Expr) (e':E):Prop :=
 ∀ (env:Env) (A:Around) (X:Value→Shared→Prop) (s:Shared) (as:List Addr) (fr:Fra) (σ σ':Sto) (x:Nat) (l:List Env) (Q:Value→Shared→Prop),
  aq (c0.sub names) env A→b5 g A (r + 1)→On g env A as l s.heap→At g env as fr σ s→evE call e' fr σ=.ex x σ'→j6 g env l as s x fr σ' X→wpAny (model g.prog g.w) A (eval e env) Q X s
noncomputable def vo (g:Cfg) (c0:CE) (call:Nat→List V→Sto→RE) (r n:Nat):Prop:=∀ (names:List (Str × NameKind)) (e:Expr) (e':E),al n (c0.sub names) e=some e'→aJ e'=true→di e=true→ip g c0 call r names e e'
theorem eZ {r:REs}{k:List V→Sto→RE}{x:Nat} {σ':Sto}{P:Prop} (e:r.bind k=.ex x σ') (h:∀ u τ,r=.ok u τ→k u τ=.ex x σ'→P):P:=by
 cases r with
 | ok u τ=>exact h u τ rfl e
 | ex x τ=>cases e
 | bad=>cases e
theorem qy {r:RE}{k:V→Sto→RE}{x:Nat} {σ':Sto}{P:Prop} (e:r.bind k=.ex x σ') (h:∀ u τ,r=.ok u τ→k u τ=.ex x σ'→P):P:=by
 cases r with
 | ok u τ=>exact h u τ rfl e
 | ex x τ=>cases e
 | bad=>cases e
theorem wi {f:Str}{fp p:Pos}{k es es'} (G:bH g K c0 fa) (C:iC g fa call r) (IH:bE g c0 call r n) (hg:(c0.sub names).glob f=true) (hd:(f == ("__debug__":Str))=false) (hb:c0.fns.lookup f=some k) (h1:aV (al n (c0.sub names)) es=some es') :
  ip g c0 call r names (.Call (.Name f fp) es [] p) (.call k es'):=fun env A X s as fr σ σ' x l Q N hA O T ev hX=>by
 refine eZ ev fun us τ e1 e2=>?_
 obtain ⟨a,hv,hfa,hkp⟩:=G.fn f k hb
 refine wpAny_Call_NameR (cx T N hg hd hv ?_)
 refine aT IH (fk G hkp) h1 N hA T e1 fun xs as' h' tk st R' F' r'=>?_
 exact wpAny_call (C k a us τ σ' x hfa e2 A _ as' xs l _ (hA.less (k:=1)) O.hfr (O.step (up st) F').S R' F'.size r' fun e as2 B h2 tk2 E=>fB hX O st R' F' E)
theorem kU {x:Nat} {σ':Sto}{P:Prop} (h:RE.bad=.ex x σ'):P:=nomatch h
set_option tactic.hygienic true in
theorem tH {u:V} {τ σ':Sto}{q:RE}{x:Nat} (e:sN u τ q=.ex x σ'):∃ l d ents,u=.ref l ∧ τ[l]?=some (.inst d) ∧ τ[d]?=some (.att ents) ∧ q=.ex x σ':=by
 unfold sN at e
 cases u <;> first | exact kU e | skip
 rename_i l
 dsimp only at e
 cases q1:τ[l]? with
 | none=>rw [q1] at e; exact kU e
 | some ob =>
  rw [q1] at e
  cases ob <;> first | exact kU e | skip
  rename_i d
  dsimp only at e
  cases q2:τ[d]? with
  | none=>rw [q2] at e; exact kU e
  | some ob =>
   rw [q2] at e
   cases ob <;> first | exact kU e | exact ⟨l,d,_,rfl,q1,q2,e⟩
theorem tW {o:Expr}{x:Str}{apos p:Pos}{a es es' f} (G:bH g K c0 fa) (C:iC g fa call r) (IH:bE g c0 call r n) (hb:dr o=true) (hl:es.length ≤ 8) (hp:(apos.endLine == p.line)=true)
  (h0:al n (c0.sub names) o=some a) (h1:aV (al n (c0.sub names)) es=some es') (hf:c0.mths.lookup x=some f) :
  ip g c0 call r names (.Call (.Attribute o x apos) es [] p) (.umeth a f es'):=fun env A X s as fr σ σ' x' l Q N hA O T ev hX=>by
 refine MethodCall_ (pl:=do return (← importBound o env).getD true) ?_ (gv (gC hb) hl hp h1)
 refine qy ev fun u τ e1 e2=>?_
 obtain ⟨l',d,ents,rfl,hd,he,e2⟩:=tH e2
 refine eZ e2 fun us τ' e3 e4=>?_
 refine IH names o a h0 env A X s as fr σ τ _ _ N hA T e1 fun val as' h' tk st R' F' r'=>?_
 have T':At g env as' fr τ { s with heap:=h',toks:=tk }:=⟨F',R'⟩
 obtain ⟨fad,hfa,hpg,hfi,hfn,hkp,hna⟩:=G.mth x f hf
 refine cZ (s:={ s with heap:=h',toks:=tk }) R' r' hd fun ad dx qx2 h2 h3 h4=>?_; subst qx2
 obtain ⟨es0,nn,h5,h6,_⟩:=i8 (s:={ s with heap:=h',toks:=tk }) R' h3 he
 obtain ⟨m,hF,_⟩:=F'.fr R'
 refine method_inst (L:=env.locals) (h₀:=g.b) (m:=m) (es:=es0) (n:=nn) (ox:=instObj g.C dx) hF G.kin ⟨h4,rfl,rfl,h5⟩ hpg hfi hfn (jU hna h6) ?_
 refine aT (first:=[.ref ad]) IH (fk G hkp) h1 N hA T' e3 fun xs as2 h2' tk2 st2 R2 F2' r2=>?_
 have r3:=RepV.keep (T'.keep st2) _ _ r'
 have st3:=ao st st2 R2 F2'
 exact wpAny_call (C f fad _ τ' σ' x' hfa e4 A _ as2 (.ref ad :: xs) l _ (hA.less (k:=1)) O.hfr (O.step (up st3) F2').S R2 F2'.size (by rw [ah]; exact ⟨_,_,rfl,r3,r2⟩) fun e as3 B h3' tk3 E=>fB hX O st3 R2 F2' E)
set_option tactic.hygienic true in
theorem Bg {f:Str}{fp p:Pos}{k es es'} (G:bH g K c0 fa) (C:iC g fa call r) (IH:bE g c0 call r n) (hg:(c0.sub names).glob f=true) (hd:(f == ("__debug__":Str))=false) (hb:c0.clss.lookup f=some k) (h1:aV (al n (c0.sub names)) es=some es') :
  ip g c0 call r names (.Call (.Name f fp) es [] p) (.mk k es'):=fun env A X s as fr σ σ' x' l Q N hA O T ev hX=>by
 refine eZ ev fun us τ e1 e2=>?_
 have e3:call k (.ref (τ.length + 1) :: us) (τ ++ [.att []] ++ [.inst τ.length])=.ex x' σ':=by
  rw [List.append_assoc]
  split at e2
  ·cases e2
  ·cases e2
  ·rename_i hq; cases e2; exact hq
  ·cases e2
 refine mX G IH hg hd hb h1 N hA T e1 fun fI xs as' h' tk dx x h2 hfa st R' st3 R3 F3 href hroom=>?_
 exact C k fI _ _ σ' x' hfa e3 _ _ (as' ++ [dx] ++ [x]) (.ref x :: xs) l _ hroom O.hfr (O.step (up (ao st st3 R3 F3)) F3).S R3 F3.size href fun e as4 B h4 tk4 E=>fB hX O (ao st st3 R3 F3) R3 F3 E
end
end Mine
namespace Mine
set_option backward.match.sparseCases false
open PySem PyProof.Rows PySem.W
section
variable {g:Cfg}{K:Frag}{fa:Nat→Option Addr}{c0:CE}{call:Nat→List V→Sto→RE}{wf r n:Nat}{names:List (Str × NameKind)}{e':E}
theorem nc {e:E}{P:Prop}{f:Option E} (h:f=some e) (hc:aJ e=true) (q:∀ x,f=some x→aJ x=false):P:=tf (hc.symm.trans (q _ h))
theorem yA {α β:Type}{a:Option α}{b:Option β}{f:α→β→E} (hf:∀ x y,aJ (f x y)=false):∀ x,fQ f a b=some x→aJ x=false:=fun x h=>by refine bV h fun y z _ _ qx4=>?_; subst qx4; exact hf y z
theorem gdI {a:Option E}{b:Bool} (q:∀ x,a=some x→aJ x=false):∀ x,gd b a=some x→aJ x=false:=fun x h=>q x (aw h).2
theorem zV {α:Type}{a:Option α}{f:α→Option E} (q:∀ y x,f y=some x→aJ x=false):∀ x,a.bind f=some x→aJ x=false:=fun x h=>let ⟨y,_,h2⟩:=be h; q y x h2
theorem uq {r:RE}{b:Bool}{k:V→Sto→RE}{x:Nat} {σ':Sto} (hk:∀ v σ,k v σ ≠ .ex x σ') (e:r.bindZ b k=.ex x σ'):r=.ex x σ':=by
 cases r with
 | ok v σ=>exact absurd e (hk v σ)
 | ex y σ=>cases b with
  | true=>exact e
  | false=>exact nomatch e
 | bad=>exact nomatch e
theorem tT {call:Nat→List V→Sto→RE}{b:E}{fr:Fra}{x:Nat} {σ':Sto} (v:V) (σ:Sto):((evE call b fr σ).bind fun y σ=>bZ σ (jE v y σ)) ≠ .ex x σ':=fun e=>by
 cases q:evE call b fr σ with
 | ok y τ =>
  rw [q] at e
  have e:bZ τ (jE v y τ)=.ex x σ':=e
  unfold bZ at e
  split at e <;> exact nomatch e
 | ex y τ=>rw [q] at e; exact nomatch e
 | bad=>rw [q] at e; exact nomatch e
theorem Az {e:E} (h:gW e=true):aJ e=true:=by cases e <;> first | exact ft h | rfl
theorem zx {e:Expr} (h:gt e=true):di e=true:=by
 unfold gt at h
 unfold di
 cases q:vw e <;> rw [q] at h <;> first | exact ft h | rfl
set_option tactic.hygienic true in
theorem tX {v i:Expr}{p:Pos} (IX:vo g c0 call r n) (h:al (n + 1) (c0.sub names) (.Subscript v i p)=some e') (hc:aJ e'=true) (hs:gt v=true):ip g c0 call r names (.Subscript v i p) e':=by
 have h:zk (al n (c0.sub names)) v i=some e':=h
 have key:∀ f,fQ E.sub (al n (c0.sub names) v) f=some e'→ip g c0 call r names (.Subscript v i p) e':=fun f h=>bV h fun a b h1 _ q=>by
  rw [← q] at hc ⊢
  exact fun env A X s as fr σ σ' x l Q N hA O T ev hX=>Subscript_ (IX names v a h1 (Az hc) (zx hs) env A X s as fr σ σ' x l _ N hA O T (uq (fun v σ=>tT v σ) ev) hX)
 unfold zk at h
 cases q:vw i <;> rw [q] at h <;> first | exact key _ h | skip
 rename_i t
 obtain ⟨lo,hi,st⟩:=t
 cases lo <;> cases hi <;> cases st <;> first | exact nn h | exact nc h hc (yA fun _ _=>rfl)
set_option tactic.hygienic true in
theorem o6 (G:bH g K c0 fa) (C:iC g fa call r) (IH:bE g c0 call r n)
  (IX:vo g c0 call r n)
  : vo g c0 call r (n + 1):=by
 intro names e e' h hc hs
 unfold di at hs
 cases q:vw e <;> rw [q] at hs <;> first | exact ft hs | skip
 ·rename_i t
  obtain ⟨p,rfl⟩:=bL q
  exact tX IX h hc hs
 obtain ⟨fn,args,ks,p,rfl⟩:∃ fn args ks p,e=.Call fn args ks p:=let ⟨p,h⟩:=bL q; ⟨_,_,_,p,h⟩
 exact mI (fun fn ks=>ip g c0 call r names (.Call fn args ks p) e') h
  (fun x fp h=>jJ (fun fn args e'=>aJ e'=true→ip g c0 call r names (.Call fn args [] p) e') h (fun _ _ _ _ _ _ _ _ _ q=>ft q) (fun _ _ _ _ _ _ _ _ _ q=>ft q) (fun _ _ _ _ _ _ _ _ _ _ _ q=>ft q) (fun _ _ _ _ _ _ _ _ _ _ _ q=>ft q)
   (fun _ _ _ _ _ hg hd q h1 _=>wi G C IH hg hd q h1)
   (fun _ _ _ _ _ _ _ _ _ _ q=>ft q)
   (fun _ _ _ _ _ hg hd q h1 _=>Bg G C IH hg hd q h1) hc)
  (fun x fp k h=>kF (fun x args k e'=>aJ e'=true→ip g c0 call r names (.Call (.Name x fp) args [k] p) e') h (fun _ _ _ _ _ _ _ _ q=>ft q) (fun _ _ _ _ _ _ _ _ _ h q=>nc h q (gdI (zV fun _=>gdI (yA fun _ _=>rfl)))) hc)
  (fun o x ap h=>kM (fun e'=>aJ e'=true→ip g c0 call r names (.Call (.Attribute o x ap) args [] p) e') h (fun _ _ _ _ _ _ _ _ _ q=>ft q) (fun _ _ _ h2 h1 h0 h5 h6 h7 _=>tW G C IH h2 h1 h0 h5 h6 h7)
   (fun _ _ _ _ _ _ _ _ _ q=>ft q)
   hc)
  fun s a p1 x ap h=>mj (fun x args e'=>aJ e'=true→ip g c0 call r names (.Call (.Attribute (.Constant (.str s) a p1) x ap) args [] p) e') h (fun _ _ _ _ q=>ft q) hc
theorem nN (G:bH g K c0 fa) (I:bB g) (C:ci g K c0 fa call r) (CX:iC g fa call r):∀ n,vo g c0 call r n
 | 0=>fun names e e' h=>nn h
 | n + 1=>o6 G CX (cb G I C n).1 (nN G I C CX n)
end
end Mine
namespace Mine
set_option backward.match.sparseCases false
open PySem PyProof.Rows PySem.W
noncomputable def eF (g:Cfg) (c0:CE) (call:Nat→List V→Sto→RE) (wf r:Nat) (names:List (Str × NameKind)) (st:Stmt) (st':S):Prop :=
 ∀ (env:Env) (A:Around) (X:Value→Shared→Prop) (s:Shared) (as:List Addr) (fr fr':Fra) (σ σ':Sto) (x:Nat) (l:List Env) (Q:Flow→Shared→Prop),
  aq (c0.sub names) env A→b5 g A (r + 1)→On g env A as l s.heap→At g env as fr σ s→evS call wf st' fr σ=.ex x fr' σ'→j6 g env l as s x fr' σ' X→wpAny (model g.prog g.w) A (exec st env) Q X s
noncomputable def xa (g:Cfg) (c0:CE) (call:Nat→List V→Sto→RE) (wf r n:Nat):Prop:=∀ (names:List (Str × NameKind)) (st:Stmt) (st':S),b8 n (c0.sub names) st=some st'→eF g c0 call wf r names st st'
noncomputable def ju (g:Cfg) (c0:CE) (call:Nat→List V→Sto→RE) (wf r n:Nat):Prop :=
 ∀ (names:List (Str × NameKind)) (sts:List Stmt) (sts':List S),aV (b8 n (c0.sub names)) sts=some sts' →
 ∀ (env:Env) (A:Around) (X:Value→Shared→Prop) (s:Shared) (as:List Addr) (fr fr':Fra) (σ σ':Sto) (x:Nat) (l:List Env) (Q:Flow→Shared→Prop),
  aq (c0.sub names) env A→b5 g A (r + 1)→On g env A as l s.heap→At g env as fr σ s→evSs call wf sts' fr σ=.ex x fr' σ'→j6 g env l as s x fr' σ' X→wpAny (model g.prog g.w) A (execs sts env) Q X s
theorem qS {src:Src}{tg:List Nat}{one:Bool}{body:Fra→Sto→RS}{n i x:Nat}{fr fr':Fra} {σ σ':Sto}{G:Prop} (Ψ:Fra→Sto→Prop) (ev:oR tg one body src n i fr σ=.ex x fr' σ') (hΨ:Ψ fr' σ')
  (h2:∀ n' v fr1 fl1 fr2 σ2,n' < n→bh σ i src=some (some v)→bF tg one v fr=some fr1→body fr1 σ=.ok fl1 fr2 σ2→(fl1=.next ∨ fl1=.cont)→oR tg one body src n' (i + 1) fr2 σ2=.ex x fr' σ'→G)
  (h3:∀ v fr1 fr2 σ2,bh σ i src=some (some v)→bF tg one v fr=some fr1→body fr1 σ=.ex x fr2 σ2→Ψ fr2 σ2→G):G:=by
 cases n with
 | zero=>exact nomatch ev
 | succ n =>
  refine i5 ev (fun q=>nomatch q) (fun _ q=>nomatch q) fun v o e=>eB e (fun _ q=>nomatch q) fun fr1 hb e=>?_
  have h2:=h2 n v fr1
  have h3:=h3 v fr1
  generalize body fr1 σ=r at e h2 h3
  cases r with
  | ok f fr2 σ2=>cases f with
   | next=>exact h2 _ _ _ (Nat.lt_succ_self _) o hb rfl (.inl rfl) e
   | cont=>exact h2 _ _ _ (Nat.lt_succ_self _) o hb rfl (.inr rfl) e
   | brk=>exact nomatch (show RS.ok .next fr2 σ2=_ from e)
   | ret w=>exact nomatch (show RS.ok (.ret w) fr2 σ2=_ from e)
  | ex y fr2 σ2 =>
   have e:RS.ex y fr2 σ2=RS.ex x fr' σ':=e
   cases e
   exact h3 _ _ o hb rfl hΨ
  | bad=>exact nomatch (show RS.bad=_ from e)
section
variable {g:Cfg}{K:Frag}{fa:Nat→Option Addr}{c0:CE}{call:Nat→List V→Sto→RE}{env:Env}{A:Around}{X:Value→Shared→Prop}{s:Shared}{as:List Addr}{fr fr':Fra} {σ σ':Sto}{wf r n x:Nat}{names:List (Str × NameKind)}{l:List Env}
set_option tactic.hygienic true in
theorem hY (IS:xm g c0 call wf r n) (IX:xa g c0 call wf r n):ju g c0 call wf r n:=by
 intro names sts
 induction sts with
 | nil =>
  intro sts' h env A X s as fr fr' σ σ' x l Q N hA O T ev hX
  rw [aV] at h; cases h
  exact nomatch (show RS.ok .next fr σ=_ from ev)
 | cons st sts ih =>
  intro sts' h env A X s as fr fr' σ σ' x l Q N hA O T ev hX
  refine cn h fun a as' h1 h2 qx4=>?_; subst qx4
  rw [vd] at ev
  refine wpAny_execs_cons ?_
  split at ev
  ·rename_i f1 σ1 he
   refine IS names st a h1 env A X s as fr f1 σ σ1 .next _ N hA T he fun f as1 k1 tk1 hf st1 R1 F1=>?_
   have hf':f=.next:=hf
   subst hf'
   exact ih as' h2 env A X _ as1 f1 fr' σ1 σ' x l Q N hA (O.step st1 F1) ⟨F1,R1⟩ ev (gg hX st1 O.S.off)
  ·exact IX names st a h1 env A X s as fr fr' σ σ' x l _ N hA O T ev hX
theorem iG {r:RE}{fr:Fra}{k:V→Sto→RS}{x:Nat}{fr':Fra} {σ':Sto}{P:Prop} (e:r.bindS fr k=.ex x fr' σ') (h:∀ u τ,r=.ok u τ→k u τ=.ex x fr' σ'→P):P:=by
 cases r with
 | ok u τ=>exact h u τ rfl e
 | ex x τ=>cases e
 | bad=>cases e
theorem fc {r:RE}{b:Bool}{fr:Fra}{k:V→Sto→RS}{x:Nat}{fr':Fra} {σ':Sto}{P:Prop} (e:r.bindX b fr k=.ex x fr' σ') (hk:∀ u τ,k u τ ≠ .ex x fr' σ') (h:b=true→r=.ex x σ'→fr'=fr→P):P:=by
 cases r with
 | ok u τ=>exact absurd e (hk u τ)
 | ex y τ =>
  cases b with
  | true=>cases e; exact h rfl rfl rfl
  | false=>cases e
 | bad=>cases e
theorem Bm {t:Expr}{b o:List Stmt}{t':E}{b' o':List S}{p:Pos} (IT:kX g c0 call r n) {m:Nat} (IL:ju g c0 call wf r m) (h0:al n (c0.sub names) t=some t') (h1:aV (b8 m (c0.sub names)) b=some b') (h2:aV (b8 m (c0.sub names)) o=some o') :
  eF g c0 call wf r names (.If t b o p) (.ifS t' b' o'):=fun env A X s as fr fr' σ σ' x l Q N hA O T ev hX=>by
 refine iG (fr:=fr) ev fun u τ e1 e2=>?_
 split at e2
 ·refine wpAny_If (IT names t t' h0 env A X s as fr σ τ true _ N hA T e1 fun as' h' tk st R' F'=>?_)
  rw [if_pos rfl]
  exact IL names b b' h1 env A X _ as' fr fr' τ σ' x l Q N hA (O.step (up st) F') ⟨F',R'⟩ e2 (gg hX (up st) O.S.off)
 ·refine wpAny_If (IT names t t' h0 env A X s as fr σ τ false _ N hA T e1 fun as' h' tk st R' F'=>?_)
  rw [if_neg Bool.false_ne_true]
  exact IL names o o' h2 env A X _ as' fr fr' τ σ' x l Q N hA (O.step (up st) F') ⟨F',R'⟩ e2 (gg hX (up st) O.S.off)
 ·cases e2
theorem vS {e:Expr}{e':E}{p:Pos} (IX:vo g c0 call r n) (hn:∀ a b c d,e ≠ .ListComp a b c d) (h:al n (c0.sub names) e=some e') (hs:aJ e'=true→di e=true):eF g c0 call wf r names (.Expr e p) (.expr e'):=fun env A X s as fr fr' σ σ' x l Q N hA O T ev hX =>
 fc (show (evE call e' fr σ).bindX (aJ e') fr (fun _ σ=>.ok .next fr σ)=_ from ev) (fun _ _ q=>nomatch q) fun hc e1 hf=>by
  subst hf
  exact wpAny_Expr_any (IX names e e' h hc (hs hc) env A X s as fr' σ σ' x l _ N hA O T e1 hX) (ig T.F) (jP hn h)
theorem yf {e:Expr}{e':E}{p:Pos} (IX:vo g c0 call r n) (h:al n (c0.sub names) e=some e') (hs:aJ e'=true→di e=true):eF g c0 call wf r names (.Return (some e) p) (.ret e'):=fun env A X s as fr fr' σ σ' x l Q N hA O T ev hX =>
 fc (show (evE call e' fr σ).bindX (aJ e') fr (fun v σ=>.ok (.ret v) fr σ)=_ from ev) (fun _ _ q=>nomatch q) fun hc e1 hf=>by
  subst hf
  exact wpAny_Return_some (IX names e e' h hc (hs hc) env A X s as fr' σ σ' x l _ N hA O T e1 hX)
theorem xS {y:Str}{i:Nat}{e:Expr}{e':E}{p xp:Pos} (IX:vo g c0 call r n) (h:al n (c0.sub names) e=some e') (hs:aJ e'=true→di e=true):eF g c0 call wf r names (.Assign [.Name y xp] e p) (.asg i e'):=fun env A X s as fr fr' σ σ' x l Q N hA O T ev hX =>
 fc (show (evE call e' fr σ).bindX (aJ e') fr (fun v σ=>if i < fr.length then .ok .next (fr.set i (some v)) σ else .bad)=_ from ev) (fun _ _ q=>by split at q <;> exact nomatch q) fun hc e1 hf=>by
  subst hf
  refine wpAny_Assign_Name (IX names e e' h hc (hs hc) env A X s as fr' σ σ' x l _ N hA O T e1 hX) (gN (fun a b c d q=>?_) h)
  subst q
  exact ft (hs hc)
theorem tz {y:Str}{np cpos pos p:Pos}{text:Str}{u k:Nat} (G:bH g K c0 fa) (hh:c0.hnd=false) (hx:c0.excs.lookup y=some k) (hg:(c0.sub names).glob y=true) (hd:(y == ("__debug__":Str))=false) :
  eF g c0 call wf r names (.Raise (some (.Call (.Name y np) [.Constant (.str text) u p] [] cpos)) none pos) (.raise k):=fun env A X s as fr fr' σ σ' x l Q N hA O T ev hX=>by
 cases (show RS.ex k fr σ=RS.ex x fr' σ' from ev)
 exact wU G hx T N (hA.none (G.hd hh)) hg hd fun h' e t tk hm=>hX none e as _ h' tk (.inl rfl) (qH O.S T O.hc hm)
theorem nW {target:Expr}{body:List Stmt}{body':List S}{tg:List Nat}{one:Bool}{src:Src}{I:Addr}{i k:Nat}{as1:List Addr}{h:Heap}{tk:Nat}{Q:Flow→Shared→Prop}{C:Nat→Fra→List Addr→Sto→Heap→Prop}
  (IL:lf g c0 call wf r n) (IX:ju g c0 call wf r n) (L:LI g env s as src I target C) (N:aq (c0.sub names) env A) (hA:b5 g A (r + 1)) (O:On g env A as l s.heap) (ht:tgt (c0.sub names) target=some (tg,one)) (h2:aV (b8 n (c0.sub names)) body=some body')
  (ev:oR tg one (evSs call wf body') src k i fr σ=.ex x fr' σ') (c:C i fr as1 σ h) (hX:j6 g env l as s x fr' σ' X) :
  codeAny (model g.prog g.w) A (.forLoop target (.ref I) body [] env) (fun r s'=>match r with | .ok f=>Q f s' | .error e=>cameBackBy (model g.prog g.w) A env X e s') { s with heap:=h,toks:=tk }:=by
 obtain ⟨outer,hl⟩:=O.top
 refine nM (BI s src C tg one (evSs call wf body') (.ex x fr' σ')) (fun k s' hN=>hN _ fun i fr as1 σ h tk qs ev c=>?_) k fun G H=>H _ _ _ _ _ _ rfl ev c
 rw [qs]
 refine qS (fun fr' σ'=>j6 g env l as s x fr' σ' X) ev hX (fun k' v fr1 fl1 fr2 σ2 hk e hb hc hfl run'=>?_) (fun v fr1 fr2 σ2 e hb hc hX=>?_)
 ·refine gf IL L N hA ht h2 c e hb hc (fun _ _ h=>h) fun f as4 h4 tk4 hf c4=>?_
  rcases fV.go hfl hf with q | q <;> rw [q] <;> exact ⟨k',hk,fun G H=>H _ _ _ _ _ _ rfl run' c4⟩
 ·refine kR L N hA ht c e hb (fun _ _ h=>h) fun as4 h4 tk4 c4=>?_
  have C4:=L.base c4
  have O4:=O.step C4.1 C4.2.2
  have nf:∀ (b:Addr) (o:Obj),h4.get? b=some o→b ∈ Frs l→∀ vs,o.data ≠ .fields vs:=fun b o hb hm=>by
   obtain ⟨_,o',ho',hn⟩:=cS O4.S.fr hm
   rw [hb] at ho'; cases ho'; exact hn
  refine IX names body body' h2 env A _ { s with heap:=h4,toks:=tk4 } as4 _ _ _ _ x l _ N hA O4 ⟨C4.2.2,C4.2.1⟩ hc fun fl e as5 B h5 tk5 hfl E=>?_
  subst hl
  refine rE (s':={ s with heap:=h5,toks:=tk5 }) O.hfr O.hf nf E hfl fun h6 E6=>?_
  exact sH (s':={ s with heap:=h6,toks:=tk5 }) O.hf nf E6 fun h7 E7=>hX _ e as5 B h7 tk5 (.inr (.inr rfl)) (E7.after C4.1 rfl O.S.off)
theorem xO {t it:Expr}{b:List Stmt}{it':E}{b':List S}{tg:List Nat}{one:Bool}{p:Pos} (IH:bE g c0 call r n) {m:Nat} (IL:lf g c0 call wf r m) (IX:ju g c0 call wf r m) (ht:tgt (c0.sub names) t=some (tg,one)) (h0:al n (c0.sub names) it=some it') (h1:aV (b8 m (c0.sub names)) b=some b') :
  eF g c0 call wf r names (.For t it b [] p) (.forS tg one (.e it') b'):=fun env A X s as fr fr' σ σ' x l Q N hA O T ev hX=>by
 refine iG (fr:=fr) ev fun u τ e1 e2=>?_
 refine qa e2 (fun q=>nomatch q) fun src k hs hl ev=>?_
 refine wpAny_For (IH names it it' h0 env A X s as fr σ τ u _ N hA T e1 fun val as1 k1 tk1 st1 R1 F1 r1=>?_) (jB h0)
 have T1:At g env as1 fr τ { s with heap:=k1,toks:=tk1 }:=⟨F1,R1⟩
 refine lV T1 r1 hs hl fun o T2 it0=>?_
 have nn:=T1.notNew
 have Z:FX g env { s with heap:=k1,toks:=tk1 } k1.objs.size:=⟨fun q=>by
  rcases b7 q with q | ⟨y,q⟩
  ·exact nn.1 q
  ·exact T1.cellNew _ _ q rfl,nn.2.2,new_none _⟩
 exact nW (tk:=tk1) IL IX (FI.li Z) N hA (O.step (up st1) F1) ht h1 ev ⟨⟨bG _ _ _ _,T2.R,T2.F,it0,nn.2.1⟩,.zero⟩ (gg hX (up st1) O.S.off)
set_option tactic.hygienic true in
theorem nZ {e:Expr}{y:Str} (h:qF e=some y):∃ np text u p cpos,e=.Call (.Name y np) [.Constant (.str text) u p] [] cpos:=by
 unfold qF at h
 cases q:vw e <;> rw [q] at h <;> first | exact nn h | skip
 obtain ⟨a,h1,h2⟩:=mH h
 obtain ⟨h3,h4⟩:=aw h2
 obtain ⟨cpos,hp⟩:=bL q
 obtain ⟨np,h5⟩:=bY h4
 unfold uO at h3
 cases q2:vw a <;> rw [q2] at h3 <;> first | exact ft h3 | skip
 rename_i k
 cases k <;> first | exact ft h3 | skip
 obtain ⟨u,p,h6⟩:=bL q2
 rw [h1,h5,h6] at hp
 exact ⟨np,_,u,p,cpos,hp⟩
end
end Mine
namespace Mine
open PySem PyProof.Rows PySem.W
section
variable {g:Cfg}{K:Frag}{fa:Nat→Option Addr}{c0:CE}{call:Nat→List V→Sto→RE}{wf r n:Nat}{names:List (Str × NameKind)}
theorem yt {t e:Expr}{p:Pos}{st':S} (IX:vo g c0 call r 30) (h:yO (c0.sub names) t e=some st'):eF g c0 call wf r names (.Assign [t] e p) st':=by
 unfold yO at h
 cases q:vw t <;> rw [q] at h <;> first | exact nn h | skip
 ·refine bV h fun i a h1 h2 qx4=>?_; subst qx4
  obtain ⟨xp,rfl⟩:=bL q
  exact xS IX (eH h2).1 (eH h2).2
 ·obtain ⟨h0,h⟩:=aw h
  refine bV h fun is a h1 h2 qx4=>?_; subst qx4
  exact fun env A X s as fr fr' σ σ' x l Q N hA O T ev hX=>jA ev
 ·refine d4 h fun o k a h1 h2 h3 qx6=>?_; subst qx6
  exact fun env A X s as fr fr' σ σ' x l Q N hA O T ev hX=>jA ev
 ·refine d4 h fun o k a h1 h2 h3 qx6=>?_; subst qx6
  exact fun env A X s as fr fr' σ σ' x l Q N hA O T ev hX=>jA ev
theorem n4 {m:Nat} (G:bH g K c0 fa) (J:bB g) (C:ci g K c0 fa call r) (CX:iC g fa call r) (IL:lf g c0 call wf r m) (IXL:ju g c0 call wf r m):xa g c0 call wf r (m + 1):=by
 intro names st st' h
 have IH:=(cb G J C 30).1
 have IT:=(cb G J C 30).2
 have IX:=nN G J C CX 30
 cases st with
 | Expr e p=>obtain ⟨h0,h⟩:=aw h; refine b6 h fun a h1 qx2=>?_; subst qx2; exact vS IX (mv (aZ h0)) (eH h1).1 (eH h1).2
 | Return v p=>refine bM h fun e qx1 h=>?_; subst qx1; refine b6 h fun a h1 qx2=>?_; subst qx2; exact yf IX (eH h1).1 (eH h1).2
 | Assign ts e p =>
  rcases ts with _ | ⟨t,_ | ⟨t2,ts⟩⟩
  ·exact nn h
  ·exact yt IX h
  ·exact nn h
 | If t b o p=>refine d4 h fun x y z h1 h2 h3 qx6=>?_; subst qx6; exact Bm IT IXL h1 h2 h3
 | While t b o p =>
  obtain ⟨h0,h⟩:=aw h; refine bV h fun x y h1 h2 qx4=>?_; subst qx4
  exact fun env A X s as fr fr' σ σ' x l Q N hA O T ev hX=>jA ev
 | For t it b o p => 
  obtain ⟨h0,h⟩:=aw h; refine d4 h fun x y z h1 h2 h3 qx6=>?_; subst qx6; cases cI h0
  exact qe (fun t it y=>tgt (c0.sub names) t=some x→eF g c0 call wf r names (.For t it b [] p) (.forS x.1 x.2 y z)) h2 (fun t it a h2 h1=>xO IH IL IXL h1 h2 h3)
   h1
 | Raise v cz p =>
  cases v with
  | none=>cases cz <;> exact nn h
  | some v=>cases cz with
   | some=>exact nn h
   | none =>
    refine bM h fun x h0 h=>?_
    obtain ⟨h1,h⟩:=aw h
    obtain ⟨h1,h3⟩:=af h1
    obtain ⟨h3,h4⟩:=af h3
    refine b6 h fun a h2 qx2=>?_; subst qx2
    obtain ⟨np,text,u,p,cpos,rfl⟩:=nZ h0
    exact tz G (aZ h4) h2 h1 (aZ h3)
 | Pass p =>
  intro env A X s as fr fr' σ σ' x l Q N hA O T ev hX
  cases Option.some.inj h
  cases (show RS.ok .next fr σ=.ex x fr' σ' from ev)
 | _=>exact nn h
theorem iw (G:bH g K c0 fa) (J:bB g) (C:ci g K c0 fa call r) (CX:iC g fa call r):∀ n,xa g c0 call wf r n
 | 0=>fun names st st' h=>nn h
 | n + 1=>n4 G J C CX (eG (dp G J C n)) (hY (dp G J C n) (iw G J C CX n))
end
section
variable {g:Cfg}{K:Frag}{fa:Nat→Option Addr}{P:Nat→Option Fn}{wf:Nat}
theorem w8 {n k x:Nat}{vs:List V} {σ σ':Sto} (ev:evFn P wf (n + 1) k vs σ=.ex x σ'):∃ fn fr',P k=some fn ∧ vs.length=fn.ps.length ∧ evSs (evFn P wf n) wf fn.body (aR fn vs) σ=.ex x fr' σ':=by
 obtain ⟨fn,h1,h2,h3⟩:=qn ev fun q=>nomatch q
 refine ⟨fn,?_⟩
 cases q:evSs (evFn P wf n) wf fn.body (aR fn vs) σ with
 | ok f fr σ=>rw [q] at h3; cases f <;> cases h3
 | ex y fr σ=>rw [q] at h3; cases h3; exact ⟨fr,h1,h2,rfl⟩
 | bad=>rw [q] at h3; cases h3
theorem mq {cs:CE→Stmt→Option S}{c:CE}{fn:Fn}{A:Around}{as:List Addr} {σ:Sto}{s:Shared}{vs:List V}{n:Nat}{env:Env}{body:List Stmt}{h:Heap}{l:List Env} (E:qr g cs c fn A as σ s vs n env body h) (hfr:A.frames=some l) (S:Stk g as l s.heap):On g env (A.deeper env) as (env :: l) h:=by
 have hm:∀ a,a ∈ Frs (env :: l) ↔ a=env.locals ∨ a ∈ Frs l:=fun a=>by unfold Frs; rw [List.filterMap_cons,E.fr]; exact List.mem_cons
 obtain ⟨m,hm',_⟩:=E.F.ns
 obtain ⟨oL,es,ep,hoL,hdL,_⟩:=id hm'
 have old:∀ a ∈ Frs l,∃ o,s.heap.get? a=some o:=fun a ha=>let ⟨_,o,ho,_⟩:=cS S.fr ha; ⟨o,ho⟩
 have fresh:∀ a ∈ ownOf env,a ∉ Frs l:=fun a ha q=>by obtain ⟨o,ho⟩:=old a q; rw [E.new a ha] at ho; cases ho
 refine ⟨?_,⟨l,rfl⟩,E.fr,fun x c hx q=>?_,⟨⟨?_,⟨env.locals,oL,E.fr,?_,hoL,fun vs q=>by rw [hdL] at q; cases q⟩,S.fr.of_keeps fun b o hb _=>⟨o,E.ext b o hb,rfl⟩⟩,fun a ha=>?_,fun a ha o ho=>?_⟩⟩
 ·show (A.frames.map (env :: ·))=_
  rw [hfr]; rfl
 ·rcases (hm c).mp q with q | q
  ·exact (E.F.offc x c hx).2.1 q
  ·exact fresh c (gH hx) q
 ·rw [E.F.kind]; exact fun q=>nomatch q
 ·cases q:g.b.get? env.locals with
  | none=>rfl
  | some o=>exact absurd (Heap.lt_size q) (Nat.not_lt.mpr E.F.above)
 ·rcases (hm a).mp ha with q | q
  ·rw [q]; exact E.F.off
  ·exact S.off a q
 ·rcases (hm a).mp ha with q | q
  ·rw [q] at ho; exact E.F.notImm _ (.head _) o ho
  ·obtain ⟨o',ho'⟩:=old a q
   have:=E.ext a o' ho'
   rw [ho] at this; cases this
   exact S.dict a q o ho'
theorem ou (c:Nat→CE) (hT:∀ k a,fa k=some a→(c k).top=none ∧ (c k).tfns=[]) (G:∀ k a,fa k=some a→bH g K (c k) fa) (J:bB g) (hlim:g.b.NoLimit) (hP:∀ k a,fa k=some a→P k=aK K (c k) a) {n:Nat} (C:d5 g fa (evFn P wf n) (2 * n)) (CX:iC g fa (evFn P wf n) (2 * n)):iC g fa (evFn P wf (n + 1)) (2 * (n + 1)):=by
 intro k a vs σ σ' x hfa ev A s as xs l R hA hfr S R0 hsz r0 hR
 obtain ⟨fn,fr',hfn,hlen,he⟩:=w8 ev
 have Gk:=G k a hfa
 refine je Gk.kin hlim (.inl (hT k a hfa).1) ((hP k a hfa).symm.trans hfn) hlen hA R0 hsz r0 fun env body h tk E=>?_
 have O:=mq E hfr S
 have nf:∀ (b:Addr) (o:Obj),h.get? b=some o→b ∈ Frs (env :: l)→∀ vs,o.data ≠ .fields vs:=fun b o hb hm=>by
  obtain ⟨_,o',ho',hn⟩:=cS O.S.fr hm
  rw [hb] at ho'; cases ho'; exact hn
 refine hY (dp Gk J ⟨C,cU (hT k a hfa)⟩ 20) (iw Gk J ⟨C,cU (hT k a hfa)⟩ CX 20) _ body fn.body E.comp _ _ _ { s with heap:=h,toks:=tk } as _ fr' σ σ' x _ _ E.N E.room O ⟨E.F,E.R⟩ he fun fl e as2 B h2 tk2 hfl XE=>?_
 exact rK (s':={ s with heap:=h2,toks:=tk2 }) O.hfr E.fr nf E.ext E.new (E.new _ (.head _)) XE hfl fun h3 XC=>hR e as2 B h3 tk2 XC
theorem kl (c:Nat→CE) (hT:∀ k a,fa k=some a→(c k).top=none ∧ (c k).tfns=[]) (G:∀ k a,fa k=some a→bH g K (c k) fa) (J:bB g) (hlim:g.b.NoLimit) (hP:∀ k a,fa k=some a→P k=aK K (c k) a):∀ n,iC g fa (evFn P wf n) (2 * n)
 | 0=>fun k a vs σ σ' x hfa ev=>nomatch ev
 | n + 1=>ou c hT G J hlim hP (gc c hT G J hlim hP n) (kl c hT G J hlim hP n)
end
end Mine
namespace Mine
open PySem PyProof.Rows PySem.W
section
variable {prog:Program}{w:World}{A:Around}{E:Value→Shared→Prop}{s:Shared}{K:Frag}{e D P:Addr}{ox:Obj}
theorem pJ {ds:List Nat}{Q:Bool→Shared→Prop} (X:K.In s.heap) (ho:s.heap.get? e=some ox) (hc:ox.cls=.ref D) (hk:kZ K P ds=true) (hD:D ∈ ds) (h:Q true s):wpAny (model prog w) A (excMatches (.ref e) (.ref P)) Q E s:=by
 obtain ⟨k0,hk⟩:=af hk
 obtain ⟨k1,hk⟩:=af hk
 obtain ⟨k2,hk⟩:=af hk
 obtain ⟨k3,k4⟩:=af hk
 have k5:=eq_of_beq (List.all_eq_true.mp k4 D hD)
 have L1:Looks (model prog w) s.heap (isInstance (.ref P) (.type "tuple")) false:=(looks_typeIn X (eq_of_beq k1)).andThen (looks_subIn X (eq_of_beq k2))
 have L2:Looks (model prog w) s.heap (isType (.ref P)) true:=fH X k0
 have L3:Looks (model prog w) s.heap (isSubtype (.ref P) (.type "BaseException")) true:=looks_subIn X (eq_of_beq k3)
 have L4:Looks (model prog w) s.heap (typeOf (.ref e)) (.ref D):=hc ▸ (Looks.ld ho).andThen .now
 have L5:Looks (model prog w) s.heap (isSubtype (.ref D) (.ref P)) true:=looks_subIn X k5
 obtain ⟨hh,g,d,t,os⟩:=s
 unfold excMatches
 refine wpAny_bind (L1.at ?_)
 rw [if_neg Bool.false_ne_true]
 refine wpAny_bind (wpAny_pure ?_)
 unfold isExcClass
 simp only [List.forIn_cons,List.forIn_nil]
 refine wpAny_bind (wpAny_bind (wpAny_bind (wpAny_bind (L2.at ?_))))
 rw [if_pos rfl]
 refine L3.at ?_
 simp only [Bool.not_true,Bool.false_eq_true,if_false]
 refine wpAny_pure (wpAny_pure (wpAny_bind (L4.at (wpAny_bind (wpAny_bind (wpAny_bind (L5.at ?_)))))))
 rw [if_pos rfl]
 exact wpAny_pure (wpAny_pure (wpAny_pure h))
end
section
variable {g:Cfg}{K:Frag}{fa:Nat→Option Addr}{c0:CE}{call callH:Nat→List V→Sto→RE}{env:Env}{A:Around}{X:Value→Shared→Prop}{s:Shared}{as:List Addr}{fr fr':Fra} {σ σ':Sto}{wf r x:Nat}{names:List (Str × NameKind)}{l:List Env}
theorem xI {n:Str}{i:Nat}{pos:Pos}{Q:Unit→Shared→Prop} (T:At g env as fr σ s) (N:aq (c0.sub names) env A) (hl:names.lookup n=some .local) (hi:(c0.sub names).locW? n=some i) (hQ:iB g env (ownOf env) as σ s (fr.set i none) Q) :
  wpAny (model g.prog g.w) A (do bindName env n .none; unbindBehindTheSuite env n pos) Q X s:=by
 obtain ⟨k,h1,h2⟩:=fW hi
 obtain ⟨k',h3,h4⟩:=N.get h1
 have hkl:k=.local:=by
  obtain ⟨j,j1,j2⟩:=bx hl
  unfold CE.locW? at hi
  rw [show (c0.sub names).names.lookup n=some .local from hl] at hi
  have:names.findIdx? (fun p=>p.1 == n)=some i:=hi
  rw [j1] at this; cases this
  have h1:names[i]?=some (n,k):=h1
  rw [j2] at h1; cases h1; rfl
 subst hkl
 have hk:k'=.local:=by
  rcases h4 with h4 | h4
  ·exact h4.symm
  ·cases h4.1
 subst hk
 obtain ⟨m,hm,hv⟩:=T.F.ns
 refine wpAny_nameGoes_keeps (bi T.F.nd h3) hm (by rw [T.F.kind]; rfl) fun h' v hns hs=>?_
 have kk:∀ (b:Addr) (o:Obj),b ≠ env.locals→s.heap.get? b=some o→h'.get? b=some o:=fun b o hb e=>by rw [hs.2 b hb]; exact e
 have hLb:g.b.get? env.locals=none:=by
  cases e:g.b.get? env.locals with
  | none=>rfl
  | some o=>exact absurd (Heap.lt_size e) (Nat.not_lt.mpr T.F.above)
 obtain ⟨KK,R'⟩:=T.R.other kk T.F.off hLb (fun o e=>T.F.notImm _ (.head _) o e)
 refine hQ as h' _ ⟨⟨[],by simp,by simp⟩,fun b o e hb _=>kk b o (fun q=>hb (by rw [q]; exact .head _)) e⟩ KK R' ?_
 refine ⟨T.F.kind,T.F.above,T.F.glob,T.F.blt,by rw [List.length_set]; exact T.F.len,T.F.nd,⟨_,hns,fun j y w e1 e2=>?_⟩,fun j y kd e1 e2=>?_,T.F.off,fun y c' hc'=>⟨(T.F.offc _ _ hc').1,(T.F.offc _ _ hc').2.1,?_⟩,T.F.apart,T.F.newc⟩
 ·have hij:i ≠ j:=fun q=>by
   subst q
   by_cases hlt:i < fr.length
   ·rw [List.getElem?_set_self hlt] at e2; cases e2
   ·rw [List.getElem?_eq_none (by rw [List.length_set]; exact Nat.le_of_not_lt hlt)] at e2; cases e2
  rw [List.getElem?_set_ne hij] at e2
  obtain ⟨val,q1,q2⟩:=hv j y w e1 e2
  have hy:y ≠ n:=fun q=>by subst q; exact hij (gU T.F.nd h3 e1)
  exact ⟨val,by rw [if_neg hy]; exact q1,RepV.keep KK _ _ q2⟩
 ·obtain ⟨cc,cv,q1,⟨o,q2,q2'⟩,q3⟩:=T.F.cells j y kd e1 e2
  have hij:i ≠ j:=fun q=>by subst q; rw [h3] at e1; cases e1; rcases e2 with e2 | e2 <;> cases e2
  refine ⟨cc,cv,q1,⟨o,kk _ _ (T.F.offc _ _ q1).2.1 q2,q2'⟩,fun w e=>?_⟩
  rw [List.getElem?_set_ne hij] at e
  obtain ⟨val',q4,q5⟩:=q3 w e
  exact ⟨val',q4,RepV.keep KK _ _ q5⟩
 ·obtain ⟨cv,o,e,e'⟩:=(T.F.offc _ _ hc').2.2
  exact ⟨cv,o,kk _ _ (T.F.offc _ _ hc').2.1 e,e'⟩
theorem kb.stk {as':List Addr}{h h' B:Heap}{C e:Addr}{fl:Option Value}{fr':Fra} {σ':Sto} (S:Stk g as l h) (E:kb g env l (ownOf env) as h C fl fr' σ' e as' B h') (hc:∀ x c,env.cells.lookup x=some c→c ∉ Frs l):Stk g as' l h':=by
 have F:=E.F.rel E.fly.stays
 refine ⟨iS (fun a ha o ho hd=>?_) S.fr,fun a ha q=>?_,fun a ha o ho=>?_⟩
 ·obtain ⟨_,o',ho',hd'⟩:=cS E.fly.frames ha
  exact ⟨o',ho',hd'⟩
 ·obtain ⟨t,rfl,ht⟩:=E.pre
  rcases List.mem_append.mp q with q | q
  ·exact S.off a ha q
  ·obtain ⟨_,o,ho,_⟩:=cS S.fr ha
   rw [ht a q] at ho; cases ho
 ·obtain ⟨_,o',ho',_⟩:=cS S.fr ha
  by_cases hown:a ∈ ownOf env
  ·rcases b7 hown with q | ⟨x,q⟩
   ·rw [q] at ho; exact F.notImm _ (.head _) o ho
   ·exact absurd ha (hc x a q)
  ·obtain ⟨sl,hsl⟩:=E.slots a o' ho' ha hown
   rw [hsl] at ho; cases ho
   exact fun im=>S.dict a ha o' ho' im
noncomputable def Cfg.with (g:Cfg) (a:Addr):Cfg:={ g with hd:=some a }
theorem ay.with {h:Heap}{a:Addr} (F:ay g env as fr h):ay (g.with a) env as fr h:=⟨F.kind,F.above,F.glob,F.blt,F.len,F.nd,F.ns,F.cells,F.off,F.offc,F.apart,F.newc⟩
theorem ay.out {h:Heap}{a:Addr} (F:ay (g.with a) env as fr h):ay g env as fr h:=⟨F.kind,F.above,F.glob,F.blt,F.len,F.nd,F.ns,F.cells,F.off,F.offc,F.apart,F.newc⟩
theorem Rel.with {h:Heap}{a:Addr} (R:Rel g as σ h) (H:Hnd (some a) h):Rel (g.with a) as σ h:=⟨R.base,R.len,R.nd,R.new,fun i b o h1 h2=>R.obj i b o h1 h2,H⟩
theorem Rel.out {h:Heap}{a:Addr} (R:Rel (g.with a) as σ h) (hh:g.hd=none):Rel g as σ h:=⟨R.base,R.len,R.nd,R.new,fun i b o h1 h2=>R.obj i b o h1 h2,fun b q=>by rw [hh] at q; cases q⟩
theorem bH.with {a:Addr}{c:CE} (G:bH g K c fa) (h1:c.hnd=true) (h2:c.lam=none):bH (g.with a) K c fa :=
 ⟨⟨G.sys.1⟩,G.kin,G.const,G.fn,G.cls,G.clsO,G.blt,G.typ,G.set,G.rev,
 G.sorted,(fun q=>by rw [h1] at q; cases q),⟨G.exc.k,G.exc.i,G.exc.r,G.exc.o,G.exc.v,G.exc.w,G.exc.p⟩,G.isi,G.att,G.hasD,G.setA,(fun x q=>by rw [h2] at q; cases q),G.mth⟩
def cD (l:List Env) (own:List Addr) (h h':Heap):Prop:=∀ (b:Addr) (o:Obj),h.get? b=some o→b ∈ Frs l→b ∉ own→∃ sl,h'.get? b=some { o with slots:=sl }
theorem cD.of_step {own as':List Addr}{h h':Heap} (st:aD own as h as' h') (off:∀ a ∈ Frs l,a ∉ as):cD l own h h':=fun b o hb hm ho=>⟨o.slots,st.ext b o hb ho (off b hm)⟩
theorem cD.trans {own:List Addr}{h h' h2:Heap} (x:cD l own h h') (y:cD l own h' h2):cD l own h h2:=fun b o hb hm ho =>
 let ⟨_,h1⟩:=x b o hb hm ho
 let ⟨sl,h3⟩:=y b _ h1 hm ho
 ⟨sl,h3⟩
noncomputable def k8 (g:Cfg) (env:Env) (l:List Env) (as:List Addr) (s:Shared) (fl:Fl) (fr':Fra) (σ':Sto) (Q:Flow→Shared→Prop):Prop :=
 ∀ (f:Flow) (as':List Addr) (h':Heap) (tk:Nat),fV as' h' fl f→aD (ownOf env ++ Frs l) as s.heap as' h'→Rel g as' σ' h'→ay g env as' fr' h'→Stk g as' l h'→cD l (ownOf env) s.heap h'→Q f { s with heap:=h',toks:=tk }
theorem oD {as as':List Addr}{h h':Heap}{fl:Fl}{f:Flow} (k:bX as h as' h') (hf:fV as h fl f):fV as' h' fl f:=by
 cases fl with
 | ret v=>obtain ⟨val,e,r⟩:=hf; exact ⟨val,e,RepV.keep k _ _ r⟩
 | _=>exact hf
theorem yM {b h:List Stmt}{h0:Stmt}{b' h':List S}{n pn:Str}{i:Nat}{P:Addr}{pp hp pos:Pos}{fr1 fr2:Fra} {σ1 σ2:Sto}{fl:Fl}{Q:Flow→Shared→Prop} (G:bH g K c0 fa) (hh:g.hd=none) (IX:ju g c0 call wf r 20) (HL:∀ a,lf (g.with a) c0.hand callH wf r 20)
  (hpe:c0.pe=some (pn,P)) (hg:(c0.sub names).glob pn=true) (hd:(pn == ("__debug__":Str))=false) (hl:names.lookup n=some .local) (hi:(c0.sub names).locW? n=some i)
  (h1:aV (b8 20 (c0.sub names)) b=some b') (h2:aV (b8 20 (c0.hand.sub names)) (h0 :: h)=some h') (N:aq (c0.sub names) env A) (hA:b5 g A (r + 1)) (O:On g env A as l s.heap) (T:At g env as fr σ s)
  (e1:evSs call wf b' fr σ=.ex x fr1 σ1) (hx:x ∈ c0.excs.map (·.2)) (e2:evSs callH wf h' (fr1.set i (some (.exc x))) σ1=.ok fl fr2 σ2) (hQ:k8 g env l as s fl (fr2.set i none) σ2 Q) :
  wpAny (model g.prog g.w) A (exec (.Try b [.ExceptHandler (some (.Name pn pp)) (some n) (h0 :: h) hp] [] [] pos) env) Q X s:=by
 obtain ⟨hPV,hcat⟩:=G.exc.p pn P hpe
 refine wpAny_Try_except (IX names b b' h1 env A _ s as fr fr1 σ σ1 x l _ N hA O T e1 fun fl0 e as1 B h1' tk1 hfl E=>?_)
 have nf:∀ (b:Addr) (o:Obj),s.heap.get? b=some o→b ∈ Frs l→∀ vs,o.data ≠ .fields vs:=fun b o hb hm=>by
  obtain ⟨_,o',ho',hn⟩:=cS O.S.fr hm
  rw [hb] at ho'; cases ho'; exact hn
 have at_:∀ {fl:Option Value}{h':Heap},kb g env l (ownOf env) as s.heap x fl fr1 σ1 e as1 B h'→∀ tk,At g env as1 fr1 σ1 { s with heap:=h',toks:=tk }:=fun E tk=>⟨E.F.rel E.fly.stays,E.R.ext E.fly.stays⟩
 obtain ⟨outer,hlo⟩:=O.top
 have hfr:=O.hfr
 have fly:=E.fly
 rw [hlo] at hfr fly
 refine kY (s:={ s with heap:=h1',toks:=tk1 }) hfr O.hf fly hfl fun h2' F2 u2=>?_
 rw [← hlo] at F2
 have E2:=E.fly' F2 u2 nf
 refine eR (s:={ s with heap:=h2',toks:=tk1 }) (o:=none) F2 fun h3' F3 u3=>?_
 have E3:=E2.fly' F3 u3 nf
 have T3:=at_ E3 tk1
 obtain ⟨oe,vs,he,hn0,hc,hdt,hv2,_⟩:=F3.st
 have Nm:aq (c0.sub names) env (A.mark (some (.ref e))):=⟨N.f2,N.code,N.top⟩
 refine wpAny_handleBy_cons (codeAny_handlers_test (cx T3 Nm hg hd hPV ?_)) (fun q=>nomatch q)
 refine pJ (s:={ s with heap:=h3',toks:=tk1 }) (G.kin.keeps T3.R.base) he hc hcat hx ?_
 show codeAny _ _ (.handlers (.ref e) [.ExceptHandler none (some n) (h0 :: h) hp] env) _ _
 refine codeAny_handlers_suite_as (eR (s:={ s with heap:=h3',toks:=tk1 }) (o:=none) F3 fun h4 F4 u4=>?_)
 have E4:=E3.fly' F4 u4 nf
 have T4:=at_ E4 tk1
 obtain ⟨oe,vs,he,hn0,hc,hdt,hv2,_⟩:=F4.st
 have st4:aD (ownOf env ++ Frs l) as s.heap as1 h4:=⟨E4.pre,fun b o hb h1 h2=>F4.stays b o (E4.ext b o hb (fun q=>h1 (List.mem_append_left _ q)) h2 fun q=>h1 (List.mem_append_right _ q))⟩
 have O4:On g env A as1 l h4:=⟨O.hfr,O.top,O.hf,O.hc,E4.stk O.S O.hc⟩
 refine gF (own:=ownOf env) (s:={ s with heap:=h4,toks:=tk1 }) T4 Nm (eT _ _) hi (v:=.exc x) (by rw [RepV]; exact ⟨e,oe,vs,rfl,he,hn0,hc,hdt⟩) fun as5 h5 tk5 st5 K5 R5 F5=>?_
 have H5:Hnd (some e) h5:=fun a q=>by
  cases q
  exact ⟨oe,x,vs,K5.ref he (lF hc hdt) (fun q=>nomatch hc.symm.trans q),hc,hdt,hv2⟩
 have O5:=O4.step st5 F5
 refine HL e names (h0 :: h) h' h2 env _ _ { s with heap:=h5,toks:=tk5 } as5 _ fr2 σ1 σ2 fl _ ⟨N.f2,(fun a q=>nomatch q),fun q=>nomatch q⟩ ⟨hA.units,hA.depth,rfl⟩ ⟨F5.with,R5.with H5⟩ e2 fun f as6 h6 tk6 hf st6 R6 F6=>?_
 have R6':=R6.out hh
 have O6:=O5.step st6 F6.out
 refine xI (s:={ s with heap:=h6,toks:=tk6 }) ⟨F6.out,R6'⟩ N hl hi fun as7 h7 tk7 st7 K7 R7 F7=>?_
 have O7:=O6.step st7 F7
 have off:∀ {as':List Addr}{fr':Fra}{h':Heap},ay g env as' fr' h'→On g env A as' l h'→∀ a ∈ ownOf env ++ Frs l,a ∉ as':=fun F O a ha=>(List.mem_append.mp ha).elim (F.offs a) (O.S.off a)
 have gr:∀ {as as':List Addr}{h h':Heap},aD (ownOf env) as h as' h'→aD (ownOf env ++ Frs l) as h as' h':=fun st=>st.grow fun a ha=>List.mem_append_left _ ha
 exact hQ f as7 h7 tk7 (oD K7 hf) (((st4.trans (gr st5) R5.nd (off F5 O5)).trans (gr st6) R6'.nd (off F6.out O6)).trans (gr st7) R7.nd (off F7 O7)) R7 F7 O7.S (((cD.trans E4.slots (.of_step st5 O4.S.off)).trans (.of_step st6 O5.S.off)).trans (.of_step st7 O6.S.off))
end
end Mine
namespace Mine
open PySem PyProof.Rows PySem.W
inductive yW (c:CE) (a:S):Stmt→Prop
 | plain {st:Stmt} (h:b8 20 c st=some a) (h0:jd a=none):yW c a st
 | try {b:List Stmt}{pn n:Str}{pp hp p:Pos}{s0:Stmt}{hb:List Stmt}{b' h':List S}{i:Nat}{P:Addr} (q2:c.pe=some (pn,P)) (q4:c.glob pn=true) (q5:(pn == ("__debug__":Str))=false) (q6:c.names.lookup n=some .local) (q7:aV (b8 20 c) b=some b') (q8:c.locW? n=some i) (q9:aV (b8 20 c.hand) (s0 :: hb)=some h') (h0:jd a=some (b',c.excs.map (·.2),i,h')) :
  yW c a (.Try b [.ExceptHandler (some (.Name pn pp)) (some n) (s0 :: hb) hp] [] [] p)
theorem zG {c:CE}{st:Stmt}{a:S} (h:((b8 20 c st).bind fun a=>gd (jd a).isNone (some a))=some a):yW c a st:=by
 refine bM h fun b h1 h2=>?_
 obtain ⟨h2,h3⟩:=aw h2
 cases Option.some.inj h3
 exact .plain h1 (Option.isNone_iff_eq_none.mp h2)
theorem BR {c:CE}{b:List Stmt}{hs:List ExceptHandler}{p:Pos}{a:S} (h1:AW c b hs=some a):yW c a (.Try b hs [] [] p):=by
 rcases hs with _ | ⟨⟨t,nm,hb,hp⟩,_ | ⟨h3,hs⟩⟩
 ·exact nn h1
 ·cases t with
  | none=>exact nn h1
  | some t=>cases nm with
   | none=>exact nn h1
   | some nm=>cases hb with
    | nil=>exact nn h1
    | cons s0 hb =>
     refine bM h1 fun pn q1 h1=>?_
     refine bM h1 fun pp q2 h1=>?_
     obtain ⟨q3,h1⟩:=aw h1
     obtain ⟨q3,q4⟩:=af q3
     obtain ⟨q4,q5⟩:=af q4
     obtain ⟨q5,q6⟩:=af q5
     refine d4 h1 fun b' i h' q7 q8 q9 qx6=>?_; subst qx6
     obtain ⟨np,rfl⟩:=bY q1
     obtain ⟨p1,P⟩:=pp
     have e1:pn=p1:=eq_of_beq q3
     subst e1
     exact .try q2 q4 (aZ q5) (eq_of_beq q6) q7 q8 q9 rfl
 ·cases t <;> cases nm <;> cases hb <;> exact nn h1
theorem wq {c:CE}{st:Stmt}{a:S} (h:nE c st=some a):yW c a st:=by
 cases st with
 | Try b hs o fin p =>
  obtain ⟨h0,h1⟩:=aw (show gd (o.isEmpty && fin.isEmpty) (AW c b hs)=some a from h)
  obtain ⟨ho,hfin⟩:=af h0
  cases cI ho; cases cI hfin
  exact BR h1
 | _=>exact zG h
section
variable {g:Cfg}{K:Frag}{fa:Nat→Option Addr}{c0:CE}{call callH:Nat→List V→Sto→RE}{env:Env}{A:Around}{X:Value→Shared→Prop}{s:Shared}{as as1:List Addr}{fr fr1 fr':Fra} {σ σ1 σ':Sto}{wf r x:Nat}{names:List (Str × NameKind)}{l:List Env}{fl:Fl}{Q:Flow→Shared→Prop}{h1:Heap}
theorem pR (F:ay g env as fr h1) (S:Stk g as l h1):∀ a ∈ ownOf env ++ Frs l,a ∉ as:=fun a ha=>(List.mem_append.mp ha).elim (F.offs a) (S.off a)
theorem uB {tk:Nat} (hQ:k8 g env l as s fl fr' σ' Q) (x:aD (ownOf env ++ Frs l) as s.heap as1 h1) (sl:cD l (ownOf env) s.heap h1):k8 g env l as1 { s with heap:=h1,toks:=tk } fl fr' σ' Q :=
 fun f as2 h2 tk2 hf st R2 F2 S2 L2=>hQ f as2 h2 tk2 hf (x.trans st R2.nd (pR F2 S2)) R2 F2 S2 (sl.trans L2)
noncomputable def Bv (g:Cfg) (c0:CE) (call callH:Nat→List V→Sto→RE) (wf r:Nat) (names:List (Str × NameKind)) (sts:List Stmt):Prop :=
 ∀ (sts':List S),aV (nE (c0.sub names)) sts=some sts' →
 ∀ (env:Env) (A:Around) (X:Value→Shared→Prop) (s:Shared) (as:List Addr) (fr fr':Fra) (σ σ':Sto) (fl:Fl) (l:List Env) (Q:Flow→Shared→Prop),
  aq (c0.sub names) env A→b5 g A (r + 1)→On g env A as l s.heap→At g env as fr σ s→evT call callH wf sts' fr σ=.ok fl fr' σ'→k8 g env l as s fl fr' σ' Q→wpAny (model g.prog g.w) A (execs sts env) Q X s
set_option backward.match.sparseCases false in
noncomputable def zO (f:Fl) (r:RS) (fr:Fra) (σ:Sto):RS:=match f with | .next=>r | f=>.ok f fr σ
set_option backward.match.sparseCases false in
theorem pP {a:S}{ss:List S}{G:Prop} (h0:jd a=none) (ev:evT call callH wf (a :: ss) fr σ=.ok fl fr' σ') (k:∀ f0 fr1 σ1,evS call wf a fr σ=.ok f0 fr1 σ1→zO f0 (evT call callH wf ss fr1 σ1) fr1 σ1=.ok fl fr' σ'→G):G:=by
 have e:(match jd a with
  | some t=>(match evSs call wf t.1 fr σ with
   | .ok f fr σ=>(match f with | .next=>evT call callH wf ss fr σ | f=>.ok f fr σ)
   | .ex x fr σ=>if t.2.1.contains x ∧ t.2.2.1 < fr.length then (match evSs callH wf t.2.2.2 (fr.set t.2.2.1 (some (.exc x))) σ with
    | .ok f fr σ=>(match f with | .next=>evT call callH wf ss (fr.set t.2.2.1 none) σ | f=>.ok f (fr.set t.2.2.1 none) σ)
    | _=>.bad) else .bad
   | .bad=>.bad)
  | none=>(match evS call wf a fr σ with
   | .ok f fr σ=>(match f with | .next=>evT call callH wf ss fr σ | f=>.ok f fr σ)
   | _=>.bad))=.ok fl fr' σ':=ev
 rw [h0] at e
 have e:(match evS call wf a fr σ with
   | .ok f fr σ=>(match f with | .next=>evT call callH wf ss fr σ | f=>.ok f fr σ)
   | _=>.bad)=.ok fl fr' σ':=e
 generalize evS call wf a fr σ=r at e k
 cases r with
 | ok f fr σ=>exact k _ _ _ rfl e
 | ex x fr σ=>exact nomatch (show RS.bad=_ from e)
 | bad=>exact nomatch (show RS.bad=_ from e)
set_option backward.match.sparseCases false in
theorem w6 {a:S}{ss:List S}{t:List S × List Nat × Nat × List S}{G:Prop} (h0:jd a=some t) (ev:evT call callH wf (a :: ss) fr σ=.ok fl fr' σ') (k:∀ f0 fr1 σ1,evSs call wf t.1 fr σ=.ok f0 fr1 σ1→zO f0 (evT call callH wf ss fr1 σ1) fr1 σ1=.ok fl fr' σ'→G)
  (kx:∀ x fr1 σ1 f0 fr2 σ2,evSs call wf t.1 fr σ=.ex x fr1 σ1→t.2.1.contains x=true→evSs callH wf t.2.2.2 (fr1.set t.2.2.1 (some (.exc x))) σ1=.ok f0 fr2 σ2→zO f0 (evT call callH wf ss (fr2.set t.2.2.1 none) σ2) (fr2.set t.2.2.1 none) σ2=.ok fl fr' σ'→G):G:=by
 have e:(match jd a with
  | some t=>(match evSs call wf t.1 fr σ with
   | .ok f fr σ=>(match f with | .next=>evT call callH wf ss fr σ | f=>.ok f fr σ)
   | .ex x fr σ=>if t.2.1.contains x ∧ t.2.2.1 < fr.length then (match evSs callH wf t.2.2.2 (fr.set t.2.2.1 (some (.exc x))) σ with
    | .ok f fr σ=>(match f with | .next=>evT call callH wf ss (fr.set t.2.2.1 none) σ | f=>.ok f (fr.set t.2.2.1 none) σ)
    | _=>.bad) else .bad
   | .bad=>.bad)
  | none=>(match evS call wf a fr σ with
   | .ok f fr σ=>(match f with | .next=>evT call callH wf ss fr σ | f=>.ok f fr σ)
   | _=>.bad))=.ok fl fr' σ':=ev
 rw [h0] at e
 have e:(match evSs call wf t.1 fr σ with
   | .ok f fr σ=>(match f with | .next=>evT call callH wf ss fr σ | f=>.ok f fr σ)
   | .ex x fr σ=>if t.2.1.contains x ∧ t.2.2.1 < fr.length then (match evSs callH wf t.2.2.2 (fr.set t.2.2.1 (some (.exc x))) σ with
    | .ok f fr σ=>(match f with | .next=>evT call callH wf ss (fr.set t.2.2.1 none) σ | f=>.ok f (fr.set t.2.2.1 none) σ)
    | _=>.bad) else .bad
   | .bad=>.bad)=.ok fl fr' σ':=e
 generalize evSs call wf t.1 fr σ=r at e k kx
 cases r with
 | ok f fr σ=>exact k _ _ _ rfl e
 | ex x fr1 σ1 =>
  by_cases hx:t.2.1.contains x ∧ t.2.2.1 < fr1.length
  ·have e:=(if_pos hx).symm.trans e
   have kx:=kx x fr1 σ1
   generalize evSs callH wf t.2.2.2 (fr1.set t.2.2.1 (some (.exc x))) σ1=r at e kx
   cases r with
   | ok f fr σ=>exact kx _ _ _ rfl hx.1 rfl e
   | ex x fr σ=>exact nomatch (show RS.bad=_ from e)
   | bad=>exact nomatch (show RS.bad=_ from e)
  ·exact nomatch (if_neg hx).symm.trans e
 | bad=>exact nomatch (show RS.bad=_ from e)
theorem lj {sts:List Stmt}{sts':List S}{f0:Fl}{f:Flow}{tk:Nat} (ih:Bv g c0 call callH wf r names sts) (h2:aV (nE (c0.sub names)) sts=some sts') (N:aq (c0.sub names) env A) (hA:b5 g A (r + 1)) (O:On g env A as l s.heap)
  (e:zO f0 (evT call callH wf sts' fr1 σ1) fr1 σ1=RS.ok fl fr' σ') (hQ:k8 g env l as s fl fr' σ' Q) (hf:fV as1 h1 f0 f) (st:aD (ownOf env ++ Frs l) as s.heap as1 h1) (R1:Rel g as1 σ1 h1) (F1:ay g env as1 fr1 h1) (S1:Stk g as1 l h1) (L1:cD l (ownOf env) s.heap h1) :
  (match (generalizing:=false) f with | .next=>wpAny (model g.prog g.w) A (execs sts env) Q X { s with heap:=h1,toks:=tk } | f=>Q f { s with heap:=h1,toks:=tk }):=by
 cases f0 with
 | next =>
  have:f=.next:=hf
  subst this
  exact ih sts' h2 env A X { s with heap:=h1,toks:=tk } as1 fr1 fr' σ1 σ' fl l Q N hA ⟨O.hfr,O.top,O.hf,O.hc,S1⟩ ⟨F1,R1⟩ e (uB hQ st L1)
 | brk=>cases (show f=.brk from hf); exact g9 (Ψ:=fun fl fr' σ'=>k8 g env l as s fl fr' σ' Q) (show RS.ok .brk fr1 σ1=RS.ok fl fr' σ' from e) hQ _ as1 h1 tk rfl st R1 F1 S1 L1
 | cont=>cases (show f=.cont from hf); exact g9 (Ψ:=fun fl fr' σ'=>k8 g env l as s fl fr' σ' Q) (show RS.ok .cont fr1 σ1=RS.ok fl fr' σ' from e) hQ _ as1 h1 tk rfl st R1 F1 S1 L1
 | ret v =>
  cases (show RS.ok (.ret v) fr1 σ1=RS.ok fl fr' σ' from e)
  have hf':=hf
  obtain ⟨val,hv,_⟩:=hf
  subst hv
  exact hQ _ as1 h1 tk hf' st R1 F1 S1 L1
set_option backward.match.sparseCases false in
theorem BV (G:bH g K c0 fa) (hh:g.hd=none) (IS:xm g c0 call wf r 20) (IX:ju g c0 call wf r 20) (HL:∀ a,lf (g.with a) c0.hand callH wf r 20) (sts:List Stmt):Bv g c0 call callH wf r names sts:=by
 induction sts with
 | nil =>
  intro sts' h env A X s as fr fr' σ σ' fl l Q N hA O T ev hQ
  rw [aV] at h; cases h
  cases ev
  exact wpAny_execs_nil (hQ .next as s.heap s.toks rfl (aD.refl _ _ _) T.R T.F O.S (.of_step (aD.refl _ as _) O.S.off))
 | cons st sts ih =>
  intro sts' h env A X s as fr fr' σ σ' fl l Q N hA O T ev hQ
  refine cn h fun a as' h1 h2 qx4=>?_; subst qx4
  refine wpAny_execs_cons ?_
  have gr:∀ {as as':List Addr}{h h':Heap},aD (ownOf env) as h as' h'→aD (ownOf env ++ Frs l) as h as' h':=fun st=>st.grow fun a ha=>List.mem_append_left _ ha
  cases wq h1 with
  | plain h1 h0 =>
   exact pP h0 ev fun f0 fr1 σ1 q ev=>IS names st a h1 env A X s as fr fr1 σ σ1 f0 _ N hA T q fun f as1 k1 tk1 hf st1 R1 F1=>lj ih h2 N hA O ev hQ hf (gr st1) R1 F1 (O.step st1 F1).S (.of_step st1 O.S.off)
  | «try» q2 q4 q5 q6 q7 q8 q9 h0 =>
   refine w6 h0 ev (fun f0 fr1 σ1 q ev=>?_) fun x fr1 σ1 f0 fr2 σ2 q hx q' ev=>yM G hh IX HL q2 q4 q5 q6 q8 q7 q9 N hA O T q (List.contains_iff_mem.mp hx) q' fun f as1 k1 tk1 hf st1 R1 F1 S1 L1=>lj ih h2 N hA O ev hQ hf st1 R1 F1 S1 L1
   refine wpAny_Try_except (eG IS names _ _ q7 env A _ s as fr fr1 σ σ1 f0 _ N hA T q fun f as1 k1 tk1 hf st1 R1 F1=>?_)
   have k:=lj (tk:=tk1) (X:=X) ih h2 N hA O ev hQ hf (gr st1) R1 F1 (O.step st1 F1).S (.of_step st1 O.S.off)
   cases f with
   | next=>exact wpAny_execs_nil k
   | _=>exact k
end
section
variable {g:Cfg}{K:Frag}{fa:Nat→Option Addr}{call callH:Nat→List V→Sto→RE}{wf n:Nat}
noncomputable def my (K:Frag) (c:CE) (a:Addr):Option Fn:=qt nE K c a
theorem Ao {c:CE}{a:Addr}{fn:Fn}{vs:List V} {σ σ':Sto}{A:Around}{s:Shared}{as:List Addr}{xs:List Value}{fl:Fl}{fr':Fra}{v:V}{l:List Env}{R:Result→Shared→Prop} (G:bH g K c fa) (hh:g.hd=none) (hT:c.top=none) (hlim:g.b.NoLimit) (IS:xm g c call wf (2 * n) 20) (IX:ju g c call wf (2 * n) 20) (HL:∀ a,lf (g.with a) c.hand callH wf (2 * n) 20)
  (hfn:my K c a=some fn) (hlen:vs.length=fn.ps.length) (he:evT call callH wf fn.body (aR fn vs) σ=.ok fl fr' σ') (hr:rm fl v) (hA:b5 g A (2 * (n + 1))) (hfr:A.frames=some l) (S:Stk g as l s.heap) (R0:Rel g as σ s.heap) (hsz:g.b.objs.size ≤ s.heap.objs.size) (r0:ah as s.heap vs xs)
  (hR:∀ (val:Value) (as':List Addr) (h':Heap) (tk:Nat),aD (Frs l) as s.heap as' h'→Rel g as' σ' h'→Stk g as' l h'→cD l [] s.heap h'→RepV as' h' v val→R (.ok (.ret val)) { s with heap:=h',toks:=tk }):codeAny (model g.prog g.w) A (.call (.ref a) ⟨xs,[]⟩) R s:=by
 refine je G.kin hlim (.inl hT) hfn hlen hA R0 hsz r0 fun env body h tk E=>?_
 have O:=mq E hfr S
 have hm:∀ a,a ∈ Frs (env :: l) ↔ a=env.locals ∨ a ∈ Frs l:=fun a=>by unfold Frs; rw [List.filterMap_cons,E.fr]; exact List.mem_cons
 refine BV G hh IS IX HL body fn.body E.comp _ _ _ { s with heap:=h,toks:=tk } as _ fr' σ σ' fl _ _ E.N E.room O ⟨E.F,E.R⟩ he fun f as2 h2 tk2 hf st2 R2 F2 S2 L2=>?_
 have a1:aD (ownOf env ++ Frs (env :: l)) as s.heap as h:=aD.of_ext E.ext
 refine hR (Av f) as2 h2 tk2 ((a1.trans st2 R2.nd (pR F2 S2)).shrink fun b hb=>?_) R2 ⟨S2.fr.2.2,fun a ha=>S2.off a ((hm a).mpr (.inr ha)),fun a ha=>S2.dict a ((hm a).mpr (.inr ha))⟩ (fun b o hb hl _=>L2 b o (E.ext b o hb) ((hm b).mpr (.inr hl)) fun q=>by rw [E.new b q] at hb; cases hb) (vB hf hr)
 rcases List.mem_append.mp hb with hb | hb
 ·exact .inr (E.new b hb)
 ·rcases (hm b).mp hb with q | q
  ·rw [q]; exact .inr (E.new _ (.head _))
  ·exact .inl q
end
end Mine
namespace Mine
open PySem PyProof.Rows PySem.W
section
variable {g:Cfg}{K:Frag}{fa:Nat→Option Addr}{P T:Nat→Option Fn}{wf n:Nat}{env:Env}{A:Around}{as as':List Addr}{fr:Fra} {σ:Sto}{h h':Heap}
theorem ay.slot (F:ay g env as fr h) (R:Rel g as σ h) (st:aD [env.locals] as h as' h') (sl:∀ o,h.get? env.locals=some o→∃ s,h'.get? env.locals=some { o with slots:=s }):ay g env as' fr h':=by
 have K:bX as h as' h':=R.keep st F.notImm
 have cl:∀ {x c cv},env.cells.lookup x=some c→h.IsCell c cv→h'.IsCell c cv:=fun hx ⟨o,ho,r⟩=>⟨o,st.ext _ _ ho (fun q=>(F.offc _ _ hx).2.1 (List.mem_singleton.mp q)) (F.offc _ _ hx).1,r⟩
 have fresh:∀ {a:Addr}{o:Obj},h.get? a=some o→a ∉ as→a ∉ as':=fun ea n q=>by
  obtain ⟨t,ht,hf⟩:=st.pre
  rw [ht] at q
  rcases List.mem_append.mp q with q | q
  ·exact n q
  ·rw [hf _ q] at ea; cases ea
 obtain ⟨m,hm,hv⟩:=F.ns
 obtain ⟨oL,es,ep,hoL,hdL,rL⟩:=id hm
 obtain ⟨sl,hsl⟩:=sl _ hoL
 refine ⟨F.kind,F.above,F.glob,F.blt,F.len,F.nd,⟨m,⟨_,es,ep,hsl,hdL,rL⟩,fun i x v h1 h2=>?_⟩,fun i x kk h1 h2=>?_,fresh hoL F.off,fun x c hx=>?_,F.apart,F.newc⟩
 ·obtain ⟨val,e1,e2⟩:=hv i x v h1 h2
  exact ⟨val,e1,RepV.keep K _ _ e2⟩
 ·obtain ⟨c,cv,e1,e2,e3⟩:=F.cells i x kk h1 h2
  exact ⟨c,cv,e1,cl e1 e2,fun v hv=>by obtain ⟨val,q1,q2⟩:=e3 v hv; exact ⟨val,q1,RepV.keep K _ _ q2⟩⟩
 ·obtain ⟨a,b,cv,d⟩:=F.offc x c hx
  obtain ⟨o,ho,r⟩:=id d
  exact ⟨fresh ho a,b,cv,cl hx d⟩
theorem wg (hf:env.frame=some env.locals) (F:ay g env as fr h):Stk g as [env] h:=by
 have hm:∀ a,a ∈ Frs [env]→a=env.locals:=fun a ha=>by unfold Frs at ha; rw [List.filterMap_cons,hf] at ha; exact List.mem_singleton.mp ha
 obtain ⟨m,hm',_⟩:=F.ns
 obtain ⟨oL,es,ep,hoL,hdL,_⟩:=id hm'
 refine ⟨⟨(by rw [F.kind]; exact fun q=>nomatch q),⟨env.locals,oL,hf,?_,hoL,fun vs q=>by rw [hdL] at q; cases q⟩,trivial⟩,fun a ha=>by rw [hm a ha]; exact F.off,fun a ha o ho=>F.notImm a (by rw [hm a ha]; exact .head _) o ho⟩
 cases q:g.b.get? env.locals with
 | none=>rfl
 | some o=>exact absurd (Heap.lt_size q) (Nat.not_lt.mpr F.above)
set_option tactic.hygienic true in
theorem uf {cT cB:CE} (hU:∀ f k,cT.tfns.lookup f=some k→∃ a fn,GV g f (.ref a) ∧ keepIn K (.ref a)=true ∧ T k=some fn ∧ my K cB a=some fn) (GB:bH g K cB fa) (hh:g.hd=none) (hT:cB.top=none) (hlim:g.b.NoLimit)
  (IS:xm g cB (evFn P wf n) wf (2 * n) 20) (IX:ju g cB (evFn P wf n) wf (2 * n) 20) (HL:∀ a,lf (g.with a) cB.hand (evFn P wf n) wf (2 * n) 20):ia g K cT (bq P T wf n) (2 * (n + 1)):=by
 intro f k hk
 obtain ⟨a,fn,h1,h2,h3,h4⟩:=hU f k hk
 refine ⟨a,h1,h2,fun us σ σ' v ev A s as xs env fr R hA hfr hf T0 r0 hR=>?_⟩
 unfold bq at ev
 rw [h3] at ev
 dsimp only at ev
 split at ev
 case isFalse=>cases ev
 rename_i hlen
 obtain ⟨fl,fr',he,hr⟩:=rA (pF ev)
 have hm:∀ a,a ∈ Frs [env] ↔ a=env.locals:=fun a=>by unfold Frs; rw [List.filterMap_cons,hf]; exact List.mem_singleton
 refine Ao (l:=[env]) GB hh hT hlim IS IX HL h4 hlen he hr hA hfr (wg hf T0.F) T0.R T0.F.size r0 fun val as' h' tk st R' S' L' rv=>?_
 have st':aD [env.locals] as s.heap as' h':=st.grow fun a ha=>by rw [(hm a).mp ha]; exact .head _
 exact hR val as' h' tk st' R' (T0.F.slot T0.R st' fun o ho=>L' _ o ho ((hm _).mpr rfl) fun q=>nomatch q) rv
theorem tK (C:d5 g fa (evFn P wf n) (2 * n)) (hT:∀ k a,fa k=some a→T k=none):d5 g fa (bq P T wf n) (2 * (n + 1)):=fun k a vs σ σ' v hfa ev A s as xs R hA R0 hsz r0 hR=>by
 unfold bq at ev
 rw [hT k a hfa] at ev
 exact C k a vs σ σ' v hfa ev A s as xs R (b5.less (k:=2) hA) R0 hsz r0 hR
end
end Mine
namespace Mine
open PySem PyProof.Rows PySem.W
noncomputable def fM (K:Frag) (x:Str):Bool:=nsIn K mainGlobals x == some none
noncomputable def vH {α:Type} (o:Option α) (f:α→Bool):Bool:=match o with | some a=>f a | none=>false
theorem dW {α:Type}{o:Option α}{f:α→Bool} (h:vH o f=true):∃ a,o=some a ∧ f a=true:=Option.casesOn (motive:=fun o=>vH o f=true→∃ a,o=some a ∧ f a=true) o (fun h=>nomatch h) (fun a h=>⟨a,rfl,h⟩) h
noncomputable def xf (v:Option Value) (i:Int):Bool:=match v with | some (.int j _)=>i == j | _=>false
set_option tactic.hygienic true in
theorem pd {v:Option Value}{i:Int} (h:xf v i=true):∃ t,v=some (.int i t):=by
 unfold xf at h
 split at h
 ·rename_i j t; exact ⟨t,by rw [eq_of_beq h]⟩
 ·exact ft h
noncomputable def pt (K:Frag) (c:CE) (C:Addr) (at':List (Nat × Str)) (fa:Nat→Option Addr):Bool :=
 c.consts.all (fun p=>vH (nsIn K mainGlobals p.1) fun v=>xf v p.2) &&
 (c.fns.all (fun p=>vH (fa p.2) fun a=>nsIn K mainGlobals p.1 == some (some (.ref a)) && keepIn K (.ref a)) &&
 (c.clss.all (fun p=>vH (fa p.2) fun fI=>nsIn K mainGlobals p.1 == some (some (.ref C)) && (keepIn K (.ref C) && (makesIn K C && (findIn K (.ref C) "__init__" == some (some (.ref fI)) && (isFn K (.ref fI) && isIn K (.ref C) C))))) &&
 (bltName.all (fun p=>fM K p.1) && (tyName.all (fun p=>fM K p.1) && (fM K "set" && (fM K "reversed" && (fM K "sorted" && (fM K "isinstance" &&
 (c.attrs.all (fun p=>at'.lookup p.2 == some p.1 && (plainGet K C p.1 && (vH (findIn K (.ref C) p.1) (fun at'=>noGet K at') && (takerIn K C p.1 == some none && (hasDictIn K C && (findIn K (.ref C) "__setattr__" == some (some (.builtin "object.__setattr__")) && plainOver K C)))))) &&
 c.mths.all (fun p=>vH (fa p.2) fun a=>plainGet K C p.1 && (findIn K (.ref C) p.1 == some (some (.ref a)) && (isFn K (.ref a) && (keepIn K (.ref a) && at'.all (fun q=>!(q.2 == p.1)))))))))))))))
theorem eE {at':List (Nat × Str)}{x:Str} (h:at'.all (fun q=>!(q.2 == x))=true):∀ k,at'.lookup k ≠ some x:=fun k e=>by
 have:=List.all_eq_true.mp h _ (av e)
 simp at this
theorem mS:∀ p ∈ bltName,bootBuiltins p.1=some (nB p.2) ∧ p.1 ≠ "__name__":=by
 intro p hp
 simp only [bltName,List.mem_cons,List.not_mem_nil,or_false] at hp
 rcases hp with rfl | rfl | rfl | rfl | rfl | rfl | rfl | rfl <;> exact ⟨by kernel_rfl,by decide⟩
theorem sd:∀ p ∈ tyName,(∀ y,t9 p.2=some y→bootBuiltins p.1=some y) ∧ p.1 ≠ "__name__":=by
 intro p hp
 simp only [tyName,List.mem_cons,List.not_mem_nil,or_false] at hp
 rcases hp with rfl | rfl | rfl | rfl <;> exact ⟨fun y h=>by cases h; kernel_rfl,by decide⟩
noncomputable def xl (K:Frag) (c:CE):Bool :=
 c.excs.all (fun p=>zd K p.2 && (nsIn K mainGlobals p.1 == some (some (.ref p.2)) && (excIn K p.2 Bh "ValueError.__new__" && (kitOne K (.ref p.2) (.type "ValueError") == some true && c.excs.all (fun q=>kitOne K (.ref q.2) (.ref p.2) == some (q.2 == p.2)))))) &&
 (fM K "ValueError" && (match c.pe with | none=>true | some t=>nsIn K mainGlobals t.1 == some (some (.ref t.2)) && kZ K t.2 (c.excs.map (·.2))))
theorem iZ {g:Cfg}{K:Frag}{c:CE}{mg mb:Str→Option Value}{p:Program}{loose:List Str} (KX:K.In g.b) (T:TopRead p loose mg mb g.b) (chk:xl K c=true):xg g K c:=by
 obtain ⟨k1,chk⟩:=af chk
 obtain ⟨k2,k3⟩:=af chk
 have gl:∀ (x:Str) (v:Value),nsIn K mainGlobals x=some (some v)→GV g x v:=fun x v h=>⟨mg,mb,T.g,T.b,.inl (mg_of KX T.g h)⟩
 have all:∀ q ∈ c.excs,zd K q.2=true ∧ nsIn K mainGlobals q.1=some (some (.ref q.2)) ∧ excIn K q.2 Bh "ValueError.__new__"=true ∧ kitOne K (.ref q.2) (.type "ValueError")=some true ∧ ∀ r ∈ c.excs,kitOne K (.ref r.2) (.ref q.2)=some (r.2 == q.2):=fun q hq=>by
  obtain ⟨a,h⟩:=af (List.all_eq_true.mp k1 q hq)
  obtain ⟨b,h⟩:=af h
  obtain ⟨d,h⟩:=af h
  obtain ⟨e,h⟩:=af h
  exact ⟨a,eq_of_beq b,d,eq_of_beq e,fun r hr=>eq_of_beq (List.all_eq_true.mp h r hr)⟩
 have mem:∀ {D},D ∈ c.excs.map (·.2)→∃ q ∈ c.excs,q.2=D:=fun h=>List.mem_map.mp h
 refine ⟨fun D hD=>?_,fun x C h=>gl _ _ (all _ (av h)).2.1,fun x C h=>⟨mg,own_of_in KX T (all _ (av h)).2.1 (all _ (av h)).2.2.1⟩,fun C hC D hD=>?_,?_,fun D hD=>?_,fun x P h=>?_⟩
 ·obtain ⟨q,hq,rfl⟩:=mem hD; exact (all q hq).1
 ·obtain ⟨q,hq,rfl⟩:=mem hC; obtain ⟨r,hr,rfl⟩:=mem hD; exact (all q hq).2.2.2.2 r hr
 ·exact ⟨mg,mb,T.g,T.b,.inr ⟨ns_none_of KX T.g (eq_of_beq k2),by rw [T.builtins _ (by decide)]; kernel_rfl⟩⟩
 ·obtain ⟨q,hq,rfl⟩:=mem hD; exact (all q hq).2.2.2.1
 ·rw [h] at k3
  obtain ⟨a,b⟩:=af k3
  exact ⟨gl _ _ (eq_of_beq a),b⟩
theorem lY {g:Cfg}{K:Frag}{c:CE}{fa:Nat→Option Addr}{mg mb:Str→Option Value} (KX:K.In g.b) (Tg:g.b.Ns mainGlobals mg) (Tb:g.b.Ns builtinsNs mb) (hb:∀ x:Str,x ≠ "__name__"→mb x=bootBuiltins x) (chk:pt K c g.C g.at' fa=true) (hh:g.hd=none)
  (hE:xg g K c)
  (hLam:∀ a,c.lam=some a→∃ mg,g.b.Ns mainGlobals mg ∧ CodeHd g.b a g.tab ∧ g.b.NoLimit ∧ g.b.BuiltinsAt mg g.tab ∧ mainGlobals ≠ g.tab ∧ g.hd=none):bH g K c fa:=by
 have c1:=af chk
 have c2:=af c1.2
 have c3:=af c2.2
 have c4:=af c3.2
 have c5:=af c4.2
 have c6:=af c5.2
 have c7:=af c6.2
 have c8:=af c7.2
 have c9:=af c8.2
 have c10:=af c9.2
 clear chk
 have bl:∀ (x:Str) (v:Value),fM K x=true→bootBuiltins x=some v→x ≠ "__name__"→GV g x v:=fun x v h1 h2 h3 =>
  ⟨mg,mb,Tg,Tb,.inr ⟨ns_none_of KX Tg (eq_of_beq h1),by rw [hb x h3,h2]⟩⟩
 have gl:∀ (x:Str) (v:Value),nsIn K mainGlobals x=some (some v)→GV g x v:=fun x v h=>⟨mg,mb,Tg,Tb,.inl (mg_of KX Tg h)⟩
 have ga:∀ {x:Str}{k:Nat},c.attrs.lookup x=some k→_:=fun h=>af (List.all_eq_true.mp c10.1 _ (av h))
 refine ⟨⟨Nat.lt_trans (by decide) Tg.lt⟩,KX,fun x i h=>?_,fun x k h=>?_,fun x k h=>?_,fun x k h=>?_,fun x b h=>?_,fun x t y h hy=>?_,bl _ _ c6.1 (by kernel_rfl) (by decide),bl _ _ c7.1 (by kernel_rfl) (by decide),
  bl _ _ c8.1 (by kernel_rfl) (by decide),fun _=>hh,
  hE,
  bl _ _ c9.1 (by kernel_rfl) (by decide),fun x k h=>?_,fun x k h=>?_,fun x k h=>?_,hLam,fun x f h=>?_⟩
 ·exact (dW (List.all_eq_true.mp c1.1 _ (av h))).elim fun v hv=>(pd hv.2).elim fun t ht=>⟨t,gl _ _ (hv.1.trans (congrArg some ht))⟩
 ·exact (dW (List.all_eq_true.mp c2.1 _ (av h))).elim fun a ha=>⟨a,gl _ _ (eq_of_beq (af ha.2).1),ha.1,(af ha.2).2⟩
 ·refine (dW (List.all_eq_true.mp c3.1 _ (av h))).elim fun a ha=>?_
  have q1:=af ha.2
  have q2:=af q1.2
  have q3:=af q2.2
  have q4:=af q3.2
  exact ⟨a,gl _ _ (eq_of_beq q1.1),ha.1,q2.1,q3.1,eq_of_beq q4.1,(af q4.2).1⟩
 ·exact (dW (List.all_eq_true.mp c3.1 _ (av h))).elim fun a ha=>(af (af (af (af (af ha.2).2).2).2).2).2
 ·have hm:=av h
  exact bl _ _ (List.all_eq_true.mp c4.1 _ hm) (mS _ hm).1 (mS _ hm).2
 ·have hm:=av h
  exact bl _ _ (List.all_eq_true.mp c5.1 _ hm) ((sd _ hm).1 y hy) (sd _ hm).2
 ·have q1:=ga h
  have q2:=af q1.2
  have q3:=af q2.2
  exact ⟨eq_of_beq q1.1,q2.1,(dW q3.1).elim fun at2 hq=>⟨at2,hq.1,hq.2,eq_of_beq (af q3.2).1⟩⟩
 ·exact (af (af (af (af (ga h).2).2).2).2).1
 ·have q:=af (af (af (af (af (ga h).2).2).2).2).2
  exact ⟨eq_of_beq q.1,q.2⟩
 ·refine (dW (List.all_eq_true.mp c10.2 _ (av h))).elim fun a ha=>?_
  have q1:=af ha.2
  have q2:=af q1.2
  have q3:=af q2.2
  exact ⟨a,ha.1,q1.1,eq_of_beq q2.1,q3.1,(af q3.2).1,eE (af q3.2).2⟩
theorem pb {g:Cfg} (h:(g.at'.map (·.2)).Nodup) (h':(g.at'.map (·.1)).Nodup):bB g:=fun k k' x e1 e2=>by
 have m1:=av e1
 have m2:=av e2
 obtain ⟨i,hi,e3⟩:=List.getElem_of_mem m1
 obtain ⟨j,hj,e4⟩:=List.getElem_of_mem m2
 have:i=j:=by
  apply (List.getElem_inj h (h₀:=by simpa using hi) (h₁:=by simpa using hj)).mp
  simp [e3,e4]
 subst this
 rw [e3] at e4; cases e4; rfl
end Mine
namespace Mine
open PySem PyProof.Rows PySem.W
noncomputable def Pof (K:Frag) (c:Nat→CE) (fa:Nat→Option Addr) (k:Nat):Option Fn:=(fa k).bind fun a=>aK K (c k) a
theorem uA {as:List Addr}{h:Heap}:∀ {vs:List Value}{is:List Int},IntsAre vs is→ah as h (is.map V.int) vs:=by
 intro vs is hi
 induction hi with
 | nil=>rw [List.map_nil,ah]
 | cons n t _ ih=>rw [List.map_cons,ah]; exact ⟨_,_,rfl,by rw [RepV]; exact ⟨t,rfl⟩,ih⟩
theorem uJ {xs:Array Value}{n:Nat}{es:Array DictEntry}{k:Nat}{P:Prop} (h:Data.seq xs n=.dict es k):P:=nomatch h
theorem sK {xs:Array Value}{es:Array DictEntry}{k:Nat}{P:Prop} (h:Data.fields xs=.dict es k):P:=nomatch h
theorem wJ {xs ys:Array Value}{n:Nat}{P:Prop} (h:Data.seq xs n=.fields ys):P:=nomatch h
theorem Bq {prog:Program}{w:World}{K:Frag}{c:Nat→CE}{C:Addr}{at':List (Nat × Str)}{fa:Nat→Option Addr}{mg mb:Str→Option Value}{s₁:Shared}{scr a ca P:Addr}{vs:List Value}{is:List Int}{wf n lawI:Nat} {σ':Sto}
  (KX:K.In s₁.heap) (Tg:s₁.heap.Ns mainGlobals mg) (Tb:s₁.heap.Ns builtinsNs mb) (hb:∀ x:Str,x ≠ "__name__"→mb x=bootBuiltins x) (lim:s₁.heap.NoLimit)
  (hl:s₁.heap.get? scr=some { cls:=.type "list",data:=.seq vs.toArray }) (hi:IntsAre vs is) (hlen:is.length ≤ 63)
  (hT:TabsAt [(ca,P)] s₁.heap) (hB:∃ bm ob,mg "__builtins__"=some (.ref bm) ∧ bm ≠ builtinsNs ∧ s₁.heap.get? bm=some ob ∧ ob.cls=.type "module" ∧ ob.dict=some builtinsNs ∧ ob.data=.plain)
  (hK:K.all (fun p=>!(p.2.cls == .type "list") && !(p.1 == P))=true) (chk:∀ k,pt K (c k) C at' fa=true) (hat:(at'.map (·.2)).Nodup) (hat':(at'.map (·.1)).Nodup) (hA1:callerA.units + 20 * (2 * (n + 2)) + 60 ≤ 9900) (hA2:callerA.depth + 4 * (2 * (n + 2)) + 20 ≤ 1000)
  (hl0:∀ k x,(c k).lam=some x→x=ca)
  {p:Program}{loose:List Str} (TR:TopRead p loose mg mb s₁.heap) (chkX:∀ k,xl K (c k)=true) (hct:∀ k a,fa k=some a→(c k).top=none ∧ (c k).tfns=[]) {fh:Nat→Option Addr}{fnL:Fn}{frL:Fra}
  {cB cT:CE}{T:Nat→Option Fn} (hfh:∀ k a,fh k=some a→fa k=some a ∧ c k=cB.hand) (chkH:pt K cB.hand C at' fh=true) (chkB:pt K cB C at' fa=true) (chkXB:xl K cB=true) (hB0:cB.top=none ∧ cB.tfns=[]) (hBl:cB.lam=none) (chkT:pt K cT C at' fa=true) (chkXT:xl K cT=true) (hTl:cT.lam=none)
  (hU:∀ f k,cT.tfns.lookup f=some k→∃ a fn,nsIn K mainGlobals f=some (some (.ref a)) ∧ keepIn K (.ref a)=true ∧ T k=some fn ∧ my K cB a=some fn) (htn:∀ k a,fa k=some a→T k=none)
  (hfn:aK K cT a=some fnL) (hps:1=fnL.ps.length)
  (ev:evSs (bq (Pof K c fa) T wf n) wf fnL.body (aR fnL [.ref 0]) [.frz (is.map V.int),.tab false]=.ok (.ret (.bool true)) frL σ')
  (h0:σ'[0]?=some (.frz (is.map V.int))) (h1:∃ b,σ'[1]?=some (.tab b))
  {R:Result→Shared→Prop} (hR:∀ h' tk,(∀ (b:Addr) (o:Obj),(ghostOf s₁.heap [(ca,P)]).get? b=some o→h'.get? b=some o)→GrownAll [(ca,P)] h'→R (.ok (.ret (.bool true))) { s₁ with heap:=h',toks:=tk }) :
  codeAny (model prog w) callerA (.call (.ref a) ⟨[.ref scr],[]⟩) R s₁:=by
 have lk:∀ {α β:Type} [BEq α] [LawfulBEq α] {l:List (α × β)}{x:α}{y:β},l.lookup x=some y→(x,y) ∈ l:=fun e=>av e
 have hPo:s₁.heap.get? P=some (tabObj #[]):=(hT (ca,P) (.head _)).2
 have hCo:CodeHd s₁.heap ca P:=(hT (ca,P) (.head _)).1
 have nsne:∀ (b:Addr) (m:Str→Option Value),s₁.heap.Ns b m→b ≠ scr ∧ b ≠ P:=fun b m H=>H.elim fun o H=>H.elim fun es H=>H.elim fun ep H=>⟨fun q=>uJ ((congrArg Obj.data (Option.some.inj (hl.symm.trans (q ▸ H.1)))).trans H.2.1),fun q=>sK ((congrArg Obj.data (Option.some.inj (hPo.symm.trans (q ▸ H.1)))).trans H.2.1)⟩
 have hide:∀ (b:Addr) (o:Obj),b ≠ scr ∧ b ≠ P→s₁.heap.get? b=some o→(hideAll s₁.heap [scr,P]).get? b=some o:=fun b o hb e=>hideAll_get [scr,P] e (by simpa using hb)
 have hsP:scr ≠ P:=fun q=>wJ (congrArg Obj.data (Option.some.inj (hl.symm.trans (q ▸ hPo))))
 let g:Cfg:={ prog:=prog,w:=w,b:=hideAll s₁.heap [scr,P],C:=C,at':=at',scr:={ cls:=.type "list",data:=.seq vs.toArray },tab:=P }
 have KX':K.In g.b:=fun b o e=>by
  have e1:=KX b o e
  have h2:=List.all_eq_true.mp hK _ (lk e)
  have h3:=af h2
  refine hide b o ⟨fun q=>tf ((beq_iff_eq.mpr (congrArg Obj.cls (Option.some.inj (hl.symm.trans (q ▸ e1)))).symm).symm.trans (aZ h3.1)),fun q=>tf ((beq_iff_eq.mpr q).symm.trans (aZ h3.2))⟩ e1
 have Tg':g.b.Ns mainGlobals mg:=Tg.at' fun o e=>hide _ o (nsne _ _ Tg) e
 have Tb':g.b.Ns builtinsNs mb:=Tb.at' fun o e=>hide _ o (nsne _ _ Tb) e
 have lim':g.b.NoLimit:=lim.at fun o e=>hide _ o (by obtain ⟨m,hm,_⟩:=lim; exact nsne _ _ hm) e
 have C':CodeHd g.b ca P:=by
  have hc:ca ≠ scr ∧ ca ≠ P:=(hCo.tab hPo).1.elim fun o q=>q.elim fun vs q=>⟨fun z=>absurd ((congrArg Obj.cls (Option.some.inj (hl.symm.trans (z ▸ q.1)))).trans q.2.1) (show Value.type "list" ≠ .type "code" by decide),fun z=>absurd ((congrArg Obj.cls (Option.some.inj (hPo.symm.trans (z ▸ q.1)))).trans q.2.1) (show Value.none ≠ .type "code" by decide)⟩
  have he:(hideAll s₁.heap [scr,P]).get? ca=s₁.heap.get? ca:=(hCo.tab hPo).1.elim fun o q=>q.elim fun vs q=>(hide _ _ hc q.1).trans q.1.symm
  unfold CodeHd
  rw [show g.b.get? ca=_ from he]
  exact hCo
 have B':g.b.BuiltinsAt mg P:=by
  refine hB.elim fun bm H=>H.elim fun ob H=>?_
  have b3:=H.2.2.1
  have b4:=H.2.2.2.1
  have hP:bm ≠ P:=fun q=>nomatch (congrArg Obj.cls (Option.some.inj (hPo.symm.trans (q ▸ b3)))).trans b4
  have hm:bm ≠ mainGlobals:=fun q=>Tg.elim fun o G=>G.elim fun es G=>G.elim fun ep G=>nomatch (G.2.1.symm.trans (congrArg Obj.data (Option.some.inj (G.1.symm.trans (q ▸ b3))))).trans H.2.2.2.2.2
  exact ⟨bm,ob,H.1,H.2.1,hm,hP,hide _ _ ⟨fun q=>absurd ((congrArg Obj.cls (Option.some.inj (hl.symm.trans (q ▸ b3)))).trans b4) (show Value.type "list" ≠ .type "module" by decide),hP⟩ b3,b4,H.2.2.2.2.1,H.2.2.2.2.2⟩
 have TR':TopRead p loose mg mb g.b:=⟨Tg',Tb',lim',hb,TR.free⟩
 have G:∀ k (a:Addr),fa k=some a→bH g K (c k) fa:=fun k _ _=>lY KX' Tg' Tb' hb (chk k) rfl
  (iZ KX' TR' (chkX k))
  fun x h=>by
  rw [hl0 k x h]
  exact ⟨mg,Tg',C',lim',B',(nsne _ _ Tg).2,rfl⟩
 have J:bB g:=pb hat hat'
 have hP:∀ k a',fa k=some a'→Pof K c fa k=aK K (c k) a':=fun k a' h=>by unfold Pof; rw [h]; rfl
 have CA:=gc (P:=Pof K c fa) (wf:=wf) c hct G J lim' hP n
 have CXA:=kl (P:=Pof K c fa) (wf:=wf) c hct G J lim' hP n
 have gx:∀ {c':CE},pt K c' C at' fa=true→xl K c'=true→c'.lam=none→bH g K c' fa:=fun h1 h2 h3=>lY KX' Tg' Tb' hb h1 rfl (iZ KX' TR' h2) fun x h=>by rw [h3] at h; cases h
 have GB:=gx chkB chkXB hBl
 have CB:ci g K cB fa (evFn (Pof K c fa) wf n) (2 * n):=⟨CA,cU hB0⟩
 have IS:=dp (wf:=wf) GB J CB 20
 have GH:∀ e,bH (g.with e) K cB.hand fh:=fun e=>(lY (fa:=fh) (c:=cB.hand) KX' Tg' Tb' hb chkH rfl (iZ KX' TR' chkXB) fun x h=>nomatch h).with rfl rfl
 have HL:∀ e,lf (g.with e) cB.hand (evFn (Pof K c fa) wf n) wf (2 * n) 20:=fun e=>eG (dp (GH e) J ⟨gc (g:=g.with e) (fa:=fh) (P:=Pof K c fa) (wf:=wf) c (fun k a' h=>hct k a' (hfh k a' h).1) (fun k a' h=>by rw [(hfh k a' h).2]; exact GH e) J lim' (fun k a' h=>hP k a' (hfh k a' h).1) n,cU ⟨rfl,rfl⟩⟩ 20)
 have TC:ia g K cT (bq (Pof K c fa) T wf n) (2 * (n + 1)):=uf (fun f k hk=>let ⟨a,fn,h1,h2⟩:=hU f k hk; ⟨a,fn,⟨mg,mb,Tg',Tb',.inl (mg_of KX' Tg' h1)⟩,h2⟩) GB rfl hB0.1 lim' IS (hY IS (iw GB J CB CXA 20)) HL
 have R0:Rel g [scr,P] [.frz (is.map V.int),.tab false] s₁.heap:=by
  refine ⟨fun b o e=>of_hideAll [scr,P] e,rfl,by simpa using hsP,fun b hb=>?_,fun i b o e1 e2=>?_,fun a q=>nomatch q⟩
  ·exact hideAll_none [scr,P] hb
  ·rcases i with _ | _ | i
   ·simp at e1 e2; subst e1; subst e2
    exact ⟨vs.toArray,0,hl,rfl,by simpa using uA hi,by simp; lia⟩
   ·simp at e1 e2; subst e1; subst e2
    exact ⟨rfl,#[],hPo,fun _=>rfl⟩
   ·simp at e1
 refine nI (n:=n + 1) (vs:=[.ref 0]) (v:=.bool true) (gx chkT chkXT hTl) J lim' ⟨tK CA htn,TC⟩ hfn hps ev (.inl rfl) (.inr rfl) ⟨hA1,hA2,rfl⟩ R0 (by rw [hideAll_size]; exact Nat.le_refl _) (xs:=[.ref scr]) (by rw [ah]; exact ⟨_,_,rfl,by rw [RepV]; exact ⟨scr,rfl,rfl⟩,by rw [ah]⟩) fun val as' h' tk st R' r'=>?_
 rw [RepV] at r'; subst r'
 refine hR h' tk (fun b o e=>?_) ⟨?_,trivial⟩
 ·have e':s₁.heap.get? b=some o:=of_hideAll [P] e
  have hbP:b ≠ P:=fun q=>by
   subst q
   have:=hideAll_none (h:=s₁.heap) [b] (List.mem_singleton.mpr rfl)
   have e2:(hideAll s₁.heap [b]).get? b=some o:=e
   rw [this] at e2; cases e2
  by_cases hbs:b=scr
  ·subst hbs
   obtain ⟨items,nn',q1,q2,_⟩:=R'.obj 0 b _ (st.get rfl) h0
   rw [hl] at e'; cases e'
   exact q1
  ·exact R'.base b o (hide b o ⟨hbs,hbP⟩ e')
 ·obtain ⟨b,h1⟩:=h1
  obtain ⟨_,ps,q,_⟩:=R'.obj 1 P _ (st.get rfl) h1
  exact ⟨ps,q⟩
theorem oy:WShape.has [] (WData.bool true) .bool=true:=by first | rfl | decide +kernel | simp [WShape.has]
theorem o0:same (WData.bool true) (WData.bool true)=true:=by first | rfl | decide +kernel | simp [same]
theorem law_post (l:OpenLaw) (a b:List WData):l.row.toRowW.claim.post a (.bool true) b=true:=by
 show (WShape.has [] (WData.bool true) .bool && (WTm.eq .res (.lit (.bool true))).holds [] { args:=a,res:=some (.bool true),after:=b })=true
 rw [oy]
 simp only [WTm.holds,WTm.value,o0]
 rfl
theorem list_obj {P:Params}{h:Heap}{l:Addr}{vs:List Value}{ds:List PyData} (w:Well P h (.ref l) (ofPy (.list ds))) (hL:h.IsList l vs.toArray):h.get? l=some { cls:=.type "list",data:=.seq vs.toArray }:=by
 unfold ofPy at w
 cases w with
 | list ho _ =>
  obtain ⟨o,ho',hc,n,hd⟩:=hL
  rw [ho] at ho'; cases ho'; cases hd
  exact ho
end Mine
set_option linter.unusedSimpArgs false
namespace Mine
open PySem
section
variable {P:Nat→Option Fn}{call:Nat→List V→Sto→RE}{wf n:Nat}{fr fr':Fra} {σ σ1 σ':Sto}{ss:List S}{a t:E}{v:V}{r:RS}
end
section
variable {test:Fra→Sto→RE}{body:Fra→Sto→RS}{n:Nat}{fr fr2:Fra} {σ σ1 σ2:Sto}{r:RS}
end
end Mine
namespace Mine
abbrev Way:=Nat × Nat × Nat
noncomputable def upd {α:Type} (f:Nat→α) (e:Nat) (x:α):Nat→α:=fun v=>if v=e then x else f v
theorem bc {α:Type}{f:Nat→α}{e:Nat}{x:α}:upd f e x e=x:=if_pos rfl
theorem bW {α:Type}{f:Nat→α}{e v:Nat}{x:α} (h:v ≠ e):upd f e x v=f v:=if_neg h
structure St where
 S:Nat→Int
 B:Nat→Nat
 last:Option Nat
 T:Nat→Nat
 W:Nat→Nat
noncomputable def bn (num div:Int) (S:Nat→Int) (w:Way):Int:=S w.1 + div * w.2.2 - num
noncomputable def wu (num div:Int) (t:Nat) (st:St) (w:Way):St :=
 if st.S w.2.1 < bn num div st.S w then ⟨upd st.S w.2.1 (bn num div st.S w),upd st.B w.2.1 w.1,some w.2.1,upd st.T w.2.1 t,upd st.W w.2.1 w.2.2⟩ else st
def dl (num div:Int) (S:Nat→Int) (w:Way):Prop:=bn num div S w ≤ S w.2.1
def Cyc (B:Nat→Nat):List Nat→Prop
 | []=>False
 | v :: r=>(v :: r).map B=r ++ [v]
noncomputable def cY (f:Nat→Int) (c:List Nat):Int:=(c.map f).sum
theorem a7 {f:Nat→Int}{v:Nat}{c:List Nat}:cY f (v :: c)=f v + cY f c:=by unfold cY; rw [List.map_cons,List.sum_cons]
theorem dQ {f:Nat→Int}:∀ {c d:List Nat},cY f (c ++ d)=cY f c + cY f d
 | [],d=>by unfold cY; simp
 | v :: c,d=>by rw [List.cons_append,a7,a7,dQ]; lia
theorem sC {f:Nat→Int}{B:Nat→Nat}{c:List Nat}:cY (fun v=>f (B v)) c=cY f (c.map B):=by unfold cY; rw [List.map_map]; rfl
theorem s6 {f:Nat→Int}{B:Nat→Nat}:∀ {c:List Nat},Cyc B c→cY (fun v=>f (B v)) c=cY f c
 | v :: r,h=>by
  have h:(v :: r).map B=r ++ [v]:=h
  rw [sC,h,dQ,a7,a7]; unfold cY; simp; lia
theorem rJ {f g:Nat→Int}:∀ {c:List Nat},(∀ v ∈ c,f v ≤ g v)→cY f c ≤ cY g c
 | [],_=>Int.le_refl _
 | v :: c,h=>by
  rw [a7,a7]
  have h1:=h v (.head _)
  have h2:=rJ (c:=c) fun w hw=>h w (.tail _ hw)
  lia
theorem qY {f g:Nat→Int}:∀ {c:List Nat},(∀ v ∈ c,f v ≤ g v)→(∃ v ∈ c,f v < g v)→cY f c < cY g c
 | [],_,h=>by obtain ⟨_,h,_⟩:=h; cases h
 | v :: c,h,⟨w,hw,hlt⟩=>by
  rw [a7,a7]
  have h1:=h v (.head _)
  rcases List.mem_cons.mp hw with rfl | hw
  ·have h2:=rJ (c:=c) fun w hw=>h w (.tail _ hw)
   lia
  ·have h2:=qY (c:=c) (fun w hw=>h w (.tail _ hw)) ⟨w,hw,hlt⟩
   lia
theorem mB {f g:Nat→Int}:∀ {c:List Nat},cY (fun v=>f v + g v) c=cY f c + cY g c
 | []=>rfl
 | v :: c=>by rw [a7,a7,a7,mB]; lia
theorem zb {B B':Nat→Nat}:∀ {c:List Nat},(∀ v ∈ c,B v=B' v)→Cyc B c→Cyc B' c
 | v :: r,h,hc=>by
  show (v :: r).map B'=r ++ [v]
  rw [← List.map_congr_left h]; exact hc
structure Inv (ws:List Way) (num div:Int) (t i:Nat) (st:St):Prop where
 A:∀ v,1 ≤ st.T v→(st.B v,v,st.W v) ∈ ws ∧ st.S v ≤ bn num div st.S (st.B v,v,st.W v)
 le:∀ v,st.T v ≤ t
 ch:∀ v,2 ≤ st.T v→st.T v ≤ st.T (st.B v) + 1
 s1:∀ w ∈ ws,st.T w.1 + 2 ≤ t→dl num div st.S w
 s2:∀ j w,ws[j]?=some w→j < i→st.T w.1 + 1 ≤ t→dl num div st.S w
 D:∀ c:List Nat,(∀ v ∈ c,1 ≤ st.T v)→Cyc st.B c→0 < cY (fun v=>div * st.W v - num) c
 lN:st.last=none→∀ v,st.T v + 1 ≤ t
 lS:∀ e,st.last=some e→st.T e=t
theorem iY {num div:Int}{S:Nat→Int}{e:Nat}{x:Int}{w:Way} (h:S e ≤ x):bn num div S w ≤ bn num div (upd S e x) w:=by
 unfold bn
 by_cases hb:w.1=e
 ·rw [hb,bc]; lia
 ·rw [bW hb]; exact Int.le_refl _
theorem rh {ws:List Way}{num div:Int}{t i:Nat}{st:St}{w:Way} (ht:1 ≤ t) (I:Inv ws num div t i st) (hw:ws[i]?=some w):Inv ws num div t (i + 1) (wu num div t st w):=by
 have hmem:=List.mem_of_getElem? hw
 obtain ⟨b,e,d⟩:=w
 unfold wu
 by_cases hlt:st.S e < bn num div st.S (b,e,d)
 ·rw [if_pos hlt]
  have mono:∀ v,st.S v ≤ upd st.S e (bn num div st.S (b,e,d)) v:=fun v=>by
   by_cases hv:v=e
   ·rw [hv,bc]; exact Int.le_of_lt hlt
   ·rw [bW hv]; exact Int.le_refl _
  have wm:∀ u,bn num div st.S u ≤ bn num div (upd st.S e (bn num div st.S (b,e,d))) u:=fun u=>iY (Int.le_of_lt hlt)
  have hb:t ≤ st.T b + 1:=by
   refine Nat.not_lt.mp fun hn=>absurd hlt (Int.not_lt.mpr (I.s1 _ hmem hn))
  have Tm:∀ v,st.T v ≤ upd st.T e t v:=fun v=>by
   by_cases hv:v=e
   ·rw [hv,bc]; exact I.le _
   ·rw [bW hv]; exact Nat.le_refl _
  have keep:∀ u:Way,upd st.T e t u.1 + 1 ≤ t→dl num div st.S u→dl num div (upd st.S e (bn num div st.S (b,e,d))) u:=fun u hu hs=>by
   have hne:u.1 ≠ e:=fun q=>by rw [q,bc] at hu; exact Nat.not_succ_le_self _ hu
   unfold dl bn at hs ⊢
   rw [bW hne]
   exact Int.le_trans hs (mono _)
  refine ⟨fun v hv=>?_,fun v=>?_,fun v hv=>?_,fun u hu h2=>?_,fun j u hu hj h2=>?_,fun c hc hy=>?_,(fun q=>nomatch q),fun q hq=>?_⟩
  ·show (upd st.B e b v,v,upd st.W e d v) ∈ ws ∧ upd st.S e (bn num div st.S (b,e,d)) v ≤ bn num div (upd st.S e (bn num div st.S (b,e,d))) (upd st.B e b v,v,upd st.W e d v)
   by_cases he:v=e
   ·rw [he,bc,bc,bc]
    exact ⟨hmem,wm _⟩
   ·rw [bW he,bW he,bW he]
    have hv':1 ≤ st.T v:=by
     have:1 ≤ upd st.T e t v:=hv
     rw [bW he] at this; exact this
    have:=I.A v hv'
    exact ⟨this.1,Int.le_trans this.2 (wm _)⟩
  ·show upd st.T e t v ≤ t
   by_cases he:v=e
   ·rw [he,bc]; exact Nat.le_refl _
   ·rw [bW he]; exact I.le v
  ·show upd st.T e t v ≤ upd st.T e t (upd st.B e b v) + 1
   by_cases he:v=e
   ·rw [he,bc,bc]
    exact Nat.le_trans hb (Nat.add_le_add_right (Tm b) 1)
   ·have hv':2 ≤ st.T v:=by
     have:2 ≤ upd st.T e t v:=hv
     rw [bW he] at this; exact this
    rw [bW he,bW he]
    exact Nat.le_trans (I.ch v hv') (Nat.add_le_add_right (Tm (st.B v)) 1)
  ·have h2':upd st.T e t u.1 + 2 ≤ t:=h2
   exact keep u (Nat.le_of_succ_le h2') (I.s1 u hu (Nat.le_trans (Nat.add_le_add_right (Tm u.1) 2) h2'))
  ·have h2':upd st.T e t u.1 + 1 ≤ t:=h2
   by_cases hji:j=i
   ·rw [hji,hw] at hu
    rw [← Option.some.inj hu] at h2' ⊢
    have hne:b ≠ e:=fun q=>by
     have h3:upd st.T e t b + 1 ≤ t:=h2'
     rw [q,bc] at h3; exact Nat.not_succ_le_self _ h3
    show bn num div (upd st.S e (bn num div st.S (b,e,d))) (b,e,d) ≤ upd st.S e (bn num div st.S (b,e,d)) e
    rw [bc]; unfold bn
    rw [bW hne]; exact Int.le_refl _
   ·exact keep u h2' (I.s2 j u hu (Nat.lt_of_le_of_ne (Nat.le_of_lt_succ hj) hji) (Nat.le_trans (Nat.add_le_add_right (Tm u.1) 1) h2'))
  ·have hc':∀ v ∈ c,v ≠ e→1 ≤ st.T v:=fun v hv he=>by
    have:1 ≤ upd st.T e t v:=hc v hv
    rw [bW he] at this; exact this
   show 0 < cY (fun v=>div * (upd st.W e d v:Nat) - num) c
   by_cases hec:e ∈ c
   ·have key:cY st.S c < cY (fun v=>st.S (upd st.B e b v) + (div * (upd st.W e d v:Nat) - num)) c:=by
     have hlt':st.S e < st.S b + (div * (d:Int) - num):=Int.lt_of_lt_of_le hlt (Int.le_of_eq (Int.add_sub_assoc _ _ _))
     refine qY (fun v hv=>?_) ⟨e,hec,?_⟩
     ·by_cases he:v=e
      ·rw [he,bc,bc]; exact Int.le_of_lt hlt'
      ·rw [bW he,bW he]
       exact Int.le_trans (I.A v (hc' v hv he)).2 (Int.le_of_eq (Int.add_sub_assoc _ _ _))
     ·rw [bc,bc]; exact hlt'
    rw [mB,s6 (f:=st.S) hy] at key
    lia
   ·have hne:∀ v ∈ c,v ≠ e:=fun v hv q=>hec (q ▸ hv)
    have e1:cY (fun v=>div * (upd st.W e d v:Nat) - num) c=cY (fun v=>div * (st.W v:Nat) - num) c:=by
     unfold cY
     exact congrArg List.sum (List.map_congr_left fun v hv=>by rw [bW (hne v hv)])
    rw [e1]
    exact I.D c (fun v hv=>hc' v hv (hne v hv)) (zb (fun v hv=>bW (hne v hv)) hy)
  ·cases hq; exact bc
 ·rw [if_neg hlt]
  refine ⟨I.A,I.le,I.ch,I.s1,fun j u hu hj h2=>?_,I.D,I.lN,I.lS⟩
  by_cases hji:j=i
  ·rw [hji,hw] at hu
   rw [← Option.some.inj hu]
   exact Int.not_lt.mp hlt
  ·exact I.s2 j u hu (Nat.lt_of_le_of_ne (Nat.le_of_lt_succ hj) hji) h2
end Mine
namespace Mine
theorem pI {ws:List Way}{num div:Int}{B W:Nat→Nat}:Inv ws num div 1 0 ⟨fun _=>0,B,none,fun _=>0,W⟩:=by
 refine ⟨fun v h=>absurd (show 1 ≤ 0 from h) (by decide),fun v=>Nat.zero_le _,fun v h=>absurd (show 2 ≤ 0 from h) (by decide),fun w _ h=>absurd (show 0 + 2 ≤ 1 from h) (by decide),fun j w _ h=>absurd h (Nat.not_lt_zero _),fun c hc hy=>?_,fun _ v=>Nat.le_refl _,fun e h=>nomatch h⟩
 cases c with
 | nil=>exact hy.elim
 | cons v c=>exact absurd (show 1 ≤ 0 from hc v (.head _)) (by decide)
theorem um {ws:List Way}{num div:Int}{t:Nat}{st:St} (I:Inv ws num div t ws.length st):Inv ws num div (t + 1) 0 { st with last:=none }:=by
 refine ⟨I.A,fun v=>Nat.le_succ_of_le (I.le v),I.ch,fun w hw h=>?_,fun j w _ h=>absurd h (Nat.not_lt_zero _),I.D,fun _ v=>Nat.succ_le_succ (I.le v),fun e h=>nomatch h⟩
 obtain ⟨j,hj,rfl⟩:=List.getElem_of_mem hw
 have h:st.T (ws[j]).1 + 2 ≤ t + 1:=h
 exact I.s2 j _ (List.getElem?_eq_getElem hj) hj (by lia)
theorem sA {ws:List Way}{num div:Int}{t:Nat}{st:St} (I:Inv ws num div t ws.length st) (h:st.last=none):∀ w ∈ ws,dl num div st.S w:=fun w hw=>by
 obtain ⟨j,hj,rfl⟩:=List.getElem_of_mem hw
 exact I.s2 j _ (List.getElem?_eq_getElem hj) hj (I.lN h _)
noncomputable def iter (B:Nat→Nat):Nat→Nat→Nat
 | 0,v=>v
 | n + 1,v=>B (iter B n v)
theorem bD {B:Nat→Nat}{v:Nat} (a:Nat):∀ b,iter B (a + b) v=iter B b (iter B a v)
 | 0=>rfl
 | b + 1=>by show B (iter B (a + b) v)=B (iter B b (iter B a v)); rw [bD a b]
theorem dn:∀ (m:Nat) (l:List Nat),l.Nodup→(∀ x ∈ l,x < m)→l.length ≤ m
 | 0,[],_,_=>Nat.le_refl _
 | 0,x :: _,_,h=>absurd (h x (.head _)) (Nat.not_lt_zero _)
 | m + 1,l,nd,h=>by
  by_cases hm:m ∈ l
  ·have h1:=dn m (l.erase m) (nd.erase m) fun x hx=>by
    have h2:=(nd.mem_erase_iff.mp hx)
    have:=h x h2.2
    have:=h2.1
    lia
   rw [List.length_erase_of_mem hm] at h1
   lia
  ·have:=dn m l nd fun x hx=>by
    have h1:=h x hx
    have:x ≠ m:=fun q=>hm (q ▸ hx)
    lia
   lia
theorem vn {m:Nat}{f:Nat→Nat} (h:∀ j,j ≤ m→f j < m):∃ i j,i < j ∧ j ≤ m ∧ f i=f j:=by
 apply Classical.byContradiction
 intro hn
 have nd:((List.range (m + 1)).map f).Nodup:=by
  rw [List.Nodup,List.pairwise_iff_getElem]
  intro i j hi hj hij e
  simp only [List.length_map,List.length_range] at hi hj
  simp only [List.getElem_map,List.getElem_range] at e
  exact hn ⟨i,j,hij,by lia,e⟩
 have:=dn m _ nd fun x hx=>by
  obtain ⟨j,hj,rfl⟩:=List.mem_map.mp hx
  exact h j (by have:=List.mem_range.mp hj; lia)
 rw [List.length_map,List.length_range] at this
 lia
theorem least {P:Nat→Prop} (h:∃ n,P n):∃ n,P n ∧ ∀ k,k < n→¬ P k:=by
 apply Classical.byContradiction
 intro hn
 obtain ⟨n,hp⟩:=h
 have:∀ n,¬ P n:=fun n=>Nat.strongRecOn n fun n ih hp=>hn ⟨n,hp,ih⟩
 exact this n hp
theorem vy {B:Nat→Nat}{e i p:Nat} (e1:iter B i e=iter B (i + p) e) {n:Nat} (hn:i ≤ n):iter B (n + p) e=iter B n e:=by
 obtain ⟨k,rfl⟩:=Nat.exists_eq_add_of_le hn
 rw [Nat.add_right_comm,bD,← e1,← bD]
theorem zA {B T:Nat→Nat}{e i p m:Nat} (e1:iter B i e=iter B (i + p) e) (hp:1 ≤ p) (hj:i + p ≤ m) (hT:∀ j,j ≤ m→1 ≤ T (iter B j e)) (k:Nat):1 ≤ T (iter B k e):=by
 induction k using Nat.strongRecOn with
 | _ k ih =>
  by_cases hk:k ≤ m
  ·exact hT k hk
  ·have h1:p ≤ k ∧ i ≤ k - p ∧ k - p < k:=by clear e1 hT ih; lia
   have:=vy e1 h1.2.1
   rw [Nat.sub_add_cancel h1.1] at this
   rw [this]
   exact ih _ h1.2.2
theorem l6 {ws:List Way}{num div:Int}{m:Nat}{st:St}{e:Nat} (hm:∀ w ∈ ws,w.2.1 < m) (I:Inv ws num div (m + 1) ws.length st) (hl:st.last=some e) :
  ∃ q,1 ≤ q ∧ q ≤ m ∧ iter st.B q (iter st.B m e)=iter st.B m e ∧ (∀ k,1 ≤ k→k < q→iter st.B k (iter st.B m e) ≠ iter st.B m e) ∧ ∀ k,1 ≤ st.T (iter st.B k e):=by
 have hT:∀ j,j ≤ m→m + 1 ≤ st.T (iter st.B j e) + j:=by
  intro j
  induction j with
  | zero=>intro _; show m + 1 ≤ st.T e + 0; rw [I.lS e hl]; exact Nat.le_refl _
  | succ j ih =>
   intro hj
   have h1:=ih (Nat.le_of_lt hj)
   have h2:=I.ch _ (Nat.le_of_add_le_add_right (b:=j) (Nat.le_trans (by rw [Nat.add_comm 2]; exact Nat.succ_le_succ hj) h1))
   show m + 1 ≤ st.T (st.B (iter st.B j e)) + (j + 1)
   rw [Nat.add_comm j 1,← Nat.add_assoc]
   exact Nat.le_trans h1 (Nat.add_le_add_right h2 _)
 have hT1:∀ j,j ≤ m→1 ≤ st.T (iter st.B j e):=fun j hj=>Nat.le_of_add_le_add_right (b:=j) (Nat.le_trans (by rw [Nat.add_comm]; exact Nat.succ_le_succ hj) (hT j hj))
 obtain ⟨i,j,hij,hj,e1⟩:=vn (f:=fun j=>iter st.B j e) fun j hj=>hm _ (I.A _ (hT1 j hj)).1
 obtain ⟨p,rfl⟩:=Nat.exists_eq_add_of_lt hij
 have e1:iter st.B i e=iter st.B (i + (p + 1)) e:=e1
 have p0:iter st.B (p + 1) (iter st.B m e)=iter st.B m e:=by rw [← bD]; exact vy e1 (Nat.le_trans (Nat.le_of_lt hij) hj)
 obtain ⟨q,⟨q1,q2⟩,q3⟩:=least (P:=fun q=>1 ≤ q ∧ iter st.B q (iter st.B m e)=iter st.B m e) ⟨p + 1,Nat.succ_pos _,p0⟩
 refine ⟨q,q1,Nat.le_of_not_lt fun hn=>q3 (p + 1) (Nat.lt_of_le_of_lt (Nat.le_trans (Nat.le_add_left _ i) hj) hn) ⟨Nat.succ_pos _,p0⟩,q2,fun k k1 k2 q=>q3 k k2 ⟨k1,q⟩,zA e1 (Nat.succ_pos _) hj hT1⟩
noncomputable def backs (B:Nat→Nat) (u:Nat) (q:Nat):List Nat:=(List.range q).map fun k=>iter B k u
theorem aY {B:Nat→Nat}{u q:Nat}:(backs B u q).length=q:=by unfold backs; rw [List.length_map,List.length_range]
theorem eK {B:Nat→Nat}{u q k:Nat} (h:k < q):(backs B u q)[k]?=some (iter B k u):=by unfold backs; rw [List.getElem?_map,List.getElem?_range h]; rfl
theorem fi {B:Nat→Nat}{u q:Nat}:backs B u (q + 1)=backs B u q ++ [iter B q u]:=by unfold backs; rw [List.range_succ,List.map_append]; rfl
theorem rf {B:Nat→Nat}{u q:Nat} (hq:1 ≤ q) (h:iter B q u=u):Cyc B (backs B u q):=by
 obtain ⟨n,rfl⟩:∃ n,q=n + 1:=⟨q - 1,by lia⟩
 have e1:backs B u (n + 1)=u :: (List.range n).map fun k=>iter B (k + 1) u:=by
  unfold backs; rw [List.range_succ_eq_map,List.map_cons,List.map_map]; rfl
 rw [e1]
 show (u :: (List.range n).map fun k=>iter B (k + 1) u).map B=((List.range n).map fun k=>iter B (k + 1) u) ++ [u]
 rw [← e1]
 unfold backs
 rw [List.map_map,List.range_succ,List.map_append]
 refine congr (congrArg _ ?_) ?_
 ·rfl
 ·show [B (iter B n u)]=[u]
  exact congrArg (fun x=>[x]) h
theorem lD {B:Nat→Nat}{u q:Nat} (h:iter B q u=u) (hk:∀ k,1 ≤ k→k < q→iter B k u ≠ u):(backs B u q).Nodup:=by
 unfold backs
 rw [List.Nodup,List.pairwise_iff_getElem]
 intro i j hi hj hij e
 simp only [List.length_map,List.length_range] at hi hj
 simp only [List.getElem_map,List.getElem_range] at e
 -- go on from j to q: from i the same number of steps
 have a1:iter B (q - j) (iter B j u)=u:=by rw [← bD,show j + (q - j)=q by lia]; exact h
 rw [← e,← bD] at a1
 exact hk (i + (q - j)) (by lia) (by lia) a1
end Mine
namespace Mine
set_option backward.match.sparseCases false
open PySem
noncomputable def xcs:List Nat:=[42,54,66,78,90,102]
noncomputable def xc (k:Nat):Nat:=xcs.getD k 0
theorem cps {A:Prop} (h:∀ G:Prop,(A→G)→G):A:=h A id
section
variable {call:Nat→List V→Sto→RE}{wf:Nat}{fr fr1 fr2 fr':Fra} {σ σ1 σ2 σ3 σ4 σ':Sto}{a b c t:E}{es:List E}{v w x y z:V}{vs:List V}{i:Nat}{p q:Bool}
theorem bU:evE call .none fr σ=.ok .none σ:=rfl
theorem gE:evE call (.bool p) fr σ=.ok (.bool p) σ:=rfl
theorem aj {n:Int}:evE call (.int n) fr σ=.ok (.int n) σ:=rfl
theorem xN {s:Str}:evE call (.str s) fr σ=.ok (.str s) σ:=rfl
theorem zn {m n:Nat}:evE call (.pow m n) fr σ=.ok (.int ((m:Int) ^ n)) σ:=rfl
theorem ac (h:fr[i]?=some (some v)):evE call (.loc i) fr σ=.ok v σ:=by
 show (match fr[i]? with | some (some v)=>RE.ok v σ | _=>.bad)=_; rw [h]
theorem nX {n:Int} (h:evE call a fr σ=.ok (.int n) σ1):evE call (.neg a) fr σ=.ok (.int (-n)) σ1:=by
 show (evE call a fr σ).bind _=_; rw [h]; rfl
theorem yy (h:evE call a fr σ=.ok (.bool p) σ1):evE call (.not a) fr σ=.ok (.bool (!p)) σ1:=by
 show (evE call a fr σ).bind _=_; rw [h]; rfl
theorem vF (h:evE call a fr σ=.ok (.bool false) σ1):evE call (.not a) fr σ=.ok (.bool true) σ1:=yy h
theorem gS (h:evE call a fr σ=.ok (.bool true) σ1):evE call (.not a) fr σ=.ok (.bool false) σ1:=yy h
theorem cG {r:RE} (h:evE call a fr σ=.ok (.bool true) σ1) (h2:evE call b fr σ1=r):evE call (.and a b) fr σ=r:=by
 show (evE call a fr σ).bind _=_; rw [h]; exact h2
theorem p9 (h:evE call a fr σ=.ok (.bool false) σ1):evE call (.and a b) fr σ=.ok (.bool false) σ1:=by
 show (evE call a fr σ).bind _=_; rw [h]; rfl
theorem mu {r:RE} (h:evE call a fr σ=.ok (.bool false) σ1) (h2:evE call b fr σ1=r):evE call (.or a b) fr σ=r:=by
 show (evE call a fr σ).bind _=_; rw [h]; exact h2
theorem yD (h:evE call a fr σ=.ok (.bool true) σ1):evE call (.or a b) fr σ=.ok (.bool true) σ1:=by
 show (evE call a fr σ).bind _=_; rw [h]; rfl
theorem vZ (h:evE call a fr σ=.ok (.bool p) σ) (h2:p=true→evE call b fr σ=.ok (.bool q) σ):evE call (.and a b) fr σ=.ok (.bool (p && q)) σ:=by
 cases p with
 | false=>exact p9 h
 | true=>exact cG h (h2 rfl)
theorem BC (h:evE call a fr σ=.ok (.bool p) σ) (h2:p=false→evE call b fr σ=.ok (.bool q) σ):evE call (.or a b) fr σ=.ok (.bool (p || q)) σ:=by
 cases p with
 | true=>exact yD h
 | false=>exact mu h (h2 rfl)
theorem ar {op:Operator}{r:RE} (h1:evE call a fr σ=.ok x σ1) (h2:evE call b fr σ1=.ok y σ2) (h3:mt op x y σ2=r):evE call (.bin op a b) fr σ=r:=by
 show (evE call a fr σ).bind _=_; rw [h1]; show (evE call b fr σ1).bind _=_; rw [h2]; exact h3
theorem aM {op:CmpOp} (h1:evE call a fr σ=.ok x σ1) (h2:evE call b fr σ1=.ok y σ2) (h3:iE op x y σ2=some p):evE call (.cmp op a b) fr σ=.ok (.bool p) σ2:=by
 show (evE call a fr σ).bind _=_; rw [h1]; show (evE call b fr σ1).bind _=_; rw [h2]; show d0 σ2 (iE op x y σ2)=_; rw [h3]; rfl
theorem zp {o1 o2:CmpOp} (h1:evE call a fr σ=.ok x σ) (h2:evE call b fr σ=.ok y σ) (h3:iE o1 x y σ=some p) (h4:p=true→evE call c fr σ=.ok z σ) (h5:p=true→iE o2 y z σ=some q):evE call (.cmp2 o1 o2 a b c) fr σ=.ok (.bool (p && q)) σ:=by
 show (evE call a fr σ).bind _=_; rw [h1]; show (evE call b fr σ).bind _=_; rw [h2]
 show (match iE o1 x y σ with | some true=>(evE call c fr σ).bind fun z σ=>d0 σ (iE o2 y z σ) | some false=>.ok (.bool false) σ | none=>.bad)=_
 rw [h3]
 cases p with
 | false=>rfl
 | true=>show (evE call c fr σ).bind _=_; rw [h4 rfl]; show d0 σ (iE o2 y z σ)=_; rw [h5 rfl]; rfl
theorem aC (h1:evE call a fr σ=.ok x σ1) (h2:evE call b fr σ1=.ok y σ2) (h3:jE x y σ2=some v):evE call (.sub a b) fr σ=.ok v σ2:=by
 show (evE call a fr σ).bindZ _ _=_
 rw [h1]; show (evE call b fr σ1).bind _=_; rw [h2]; show bZ σ2 (jE x y σ2)=_; rw [h3]; rfl
theorem yw {l k:Nat}{xs:List V}{r:RE} (h1:evE call a fr σ=.ok (.ref l) σ1) (h2:evE call b fr σ1=.ok (.int k) σ2) (h3:getL σ2 l=some xs) (h4:cy (xs.drop k) σ2=r):evE call (.slo a b) fr σ=r:=by
 show (evE call a fr σ).bind _=_; rw [h1]; show (evE call b fr σ1).bind _=_; rw [h2]
 show (match getL σ2 l with | some xs=>if (0:Int) ≤ (k:Int) then cy (xs.drop (k:Int).toNat) σ2 else .bad | none=>.bad)=_
 rw [h3]; show (if (0:Int) ≤ (k:Int) then cy (xs.drop (k:Int).toNat) σ2 else .bad)=_
 rw [if_pos (Int.natCast_nonneg k)]; exact h4
theorem zB {l k:Nat}{xs:List V}{r:RE} (h1:evE call a fr σ=.ok (.ref l) σ1) (h2:evE call b fr σ1=.ok (.int k) σ2) (h3:getL σ2 l=some xs) (h4:cy (xs.take k) σ2=r):evE call (.shi a b) fr σ=r:=by
 show (evE call a fr σ).bind _=_; rw [h1]; show (evE call b fr σ1).bind _=_; rw [h2]
 show (match getL σ2 l with | some xs=>if (0:Int) ≤ (k:Int) then cy (xs.take (k:Int).toNat) σ2 else .bad | none=>.bad)=_
 rw [h3]; show (if (0:Int) ≤ (k:Int) then cy (xs.take (k:Int).toNat) σ2 else .bad)=_
 rw [if_pos (Int.natCast_nonneg k)]; exact h4
theorem cm {k:Nat} (h1:evE call a fr σ=.ok x σ1) (h2:jq x k σ1=some v):evE call (.attr a k) fr σ=.ok v σ1:=by
 show (evE call a fr σ).bind _=_; rw [h1]; show bZ σ1 (jq x k σ1)=_; rw [h2]; rfl
theorem bf {r:RE} (h:cg call es fr σ=.ok vs σ1) (h2:cy vs σ1=r):evE call (.list es) fr σ=r:=by
 show (cg call es fr σ).bind _=_; rw [h]; exact h2
theorem dz (h:cg call es fr σ=.ok vs σ1) (h2:vs.length ≤ 1000):evE call (.tup es) fr σ=.ok (.tup vs) σ1:=by
 show (cg call es fr σ).bind _=_; rw [h]; exact if_pos h2
theorem wR:evE call .dict0 fr σ=.ok (.ref σ.length) (σ ++ [.dT []]):=rfl
theorem qi {k:Int} (h1:evE call a fr σ=.ok (.int k) σ1) (h2:evE call b fr σ1=.ok v σ2):evE call (.dict1 a b) fr σ=.ok (.ref σ2.length) (σ2 ++ [.dI [(k,v)]]):=by
 show (evE call a fr σ).bind _=_; rw [h1]; show (evE call b fr σ1).bind _=_; rw [h2]; rfl
theorem aF {k:Nat}{r:RE} (h:cg call es fr σ=.ok vs σ1) (h2:call k vs σ1=r):evE call (.call k es) fr σ=r:=by
 show (cg call es fr σ).bind _=_; rw [h]; exact h2
theorem BJ {k:Nat} (h:cg call es fr σ=.ok vs σ1) (h2:call k (.ref (σ1.length + 1) :: vs) (σ1 ++ [.att [],.inst σ1.length])=.ok .none σ2):evE call (.mk k es) fr σ=.ok (.ref (σ1.length + 1)) σ2:=by
 show (cg call es fr σ).bind _=_; rw [h]
 show (match call k (.ref (σ1.length + 1) :: vs) (σ1 ++ [.att [],.inst σ1.length]) with | .ok .none σ'=>RE.ok (.ref (σ1.length + 1)) σ' | .ok _ _=>.bad | .ex x σ'=>.ex x σ' | .bad=>.bad)=_
 rw [h2]
theorem cN {m:MN}{l:Nat}{xs xs2:List V}{r:RE} (h:evE call a fr σ=.ok (.ref l) σ1) (hl:getL σ1 l=some xs) (h2:cg call es fr σ1=.ok vs σ2) (hl2:getL σ2 l=some xs2) (h3:dP m l xs2 vs σ2=r):evE call (.meth a m es) fr σ=r:=by
 show (evE call a fr σ).bind _=_; rw [h]
 show (match getL σ1 l with | some _=>(cg call es fr σ1).bind _ | none=>.bad)=_
 rw [hl]; show (cg call es fr σ1).bind _=_; rw [h2]
 show (match getL σ2 l with | some xs=>dP m l xs vs σ2 | none=>.bad)=_
 rw [hl2]; exact h3
theorem bK {k l d:Nat}{ents:List (Nat × V)}{r:RE} (h:evE call a fr σ=.ok (.ref l) σ1) (h1:σ1[l]?=some (.inst d)) (h2:σ1[d]?=some (.att ents)) (h3:cg call es fr σ1=.ok vs σ2) (h4:call k (.ref l :: vs) σ2=r):evE call (.umeth a k es) fr σ=r:=by
 show (evE call a fr σ).bind _=_; rw [h]
 show (match σ1[l]? with | some o=>(match o with | .inst d=>(match σ1[d]? with | some o=>(match o with | .att _=>(cg call es fr σ1).bind _ | _=>.bad) | none=>.bad) | _=>.bad) | none=>.bad)=_
 rw [h1]; show (match σ1[d]? with | some o=>(match o with | .att _=>(cg call es fr σ1).bind _ | _=>.bad) | none=>.bad)=_
 rw [h2]; show (cg call es fr σ1).bind _=_; rw [h3]; exact h4
theorem ba {n:BN}{r:RE} (h:cg call es fr σ=.ok vs σ1) (h2:iy n vs σ1=r):evE call (.blt n es) fr σ=r:=by
 show (cg call es fr σ).bind _=_; rw [h]; exact h2
theorem yT {l:Nat}{is:List Int} (h:evE call a fr σ=.ok (.ref l) σ1) (h2:(getL σ1 l).bind aE=some is) (h3:v=match jl is with | some i=>V.int i | none=>V.none):evE call (.maxd a) fr σ=.ok v σ1:=by
 show (evE call a fr σ).bind _=_; rw [h]
 show (match (getL σ1 l).bind aE with | some []=>RE.ok .none σ1 | some is=>bZ σ1 ((jl is).map V.int) | none=>.bad)=_
 rw [h2,h3]
 cases is <;> rfl
theorem jD {ty:Ty} (h:evE call a fr σ=.ok x σ1) (h2:vc ty x σ1=some p):evE call (.isi a ty) fr σ=.ok (.bool p) σ1:=by
 show (evE call a fr σ).bind _=_; rw [h]; show d0 σ1 (vc ty x σ1)=_; rw [h2]; rfl
theorem Bo {key:KX}{r:RE} (h:evE call a fr σ=.ok x σ1) (h2:zP key fr x σ1=r):evE call (.srt a key) fr σ=r:=by
 show (evE call a fr σ).bind _=_; rw [h]; exact h2
theorem ae:cg call [] fr σ=.ok [] σ:=rfl
theorem aa (h:evE call a fr σ=.ok v σ1) (h2:cg call es fr σ1=.ok vs σ2):cg call (a :: es) fr σ=.ok (v :: vs) σ2:=by
 show (evE call a fr σ).binds _=_; rw [h]; show (cg call es fr σ1).binds _=_; rw [h2]; rfl
variable {ss bs os:List S}{r:RS}
theorem a6:evSs call wf [] fr σ=.ok .next fr σ:=rfl
theorem a4 {s:S} (h:evS call wf s fr σ=.ok .next fr1 σ1) (h2:evSs call wf ss fr1 σ1=r):evSs call wf (s :: ss) fr σ=r:=by
 show (match evS call wf s fr σ with | .ok .next fr σ=>evSs call wf ss fr σ | r=>r)=_; rw [h]; exact h2
theorem eU {s:S} (h:evS call wf s fr σ=.ok (.ret v) fr1 σ1):evSs call wf (s :: ss) fr σ=.ok (.ret v) fr1 σ1:=by
 show (match evS call wf s fr σ with | .ok .next fr σ=>evSs call wf ss fr σ | r=>r)=_; rw [h]
theorem bu (h:evE call a fr σ=.ok v σ1) (h2:evSs call wf ss fr σ1=r):evSs call wf (.expr a :: ss) fr σ=r :=
 a4 (by show (evE call a fr σ).bindX _ fr _=_; rw [h]; rfl) h2
theorem ak (h:evE call a fr σ=.ok v σ1) (hi:i < fr.length) (h2:evSs call wf ss (fr.set i (some v)) σ1=r):evSs call wf (.asg i a :: ss) fr σ=r :=
 a4 (by show (evE call a fr σ).bindX _ fr _=_; rw [h]; exact if_pos hi) h2
theorem pZ {is:List Nat} (h:evE call a fr σ=.ok v σ1) (hb:bF is false v fr=some fr1) (h2:evSs call wf ss fr1 σ1=r):evSs call wf (.asgT is a :: ss) fr σ=r :=
 a4 (dO (by show (evE call a fr σ).bindS fr _=_; rw [h]; show (match bF is false v fr with | some fr=>RS.ok .next fr σ1 | none=>.bad)=_; rw [hb])) h2
theorem qo {k:Nat} (h:evE call a fr σ=.ok v σ1) (h1:evE call b fr σ1=.ok w σ2) (hs:dg w k v σ2=some σ3) (h2:evSs call wf ss fr σ3=r):evSs call wf (.asgA b k a :: ss) fr σ=r :=
 a4 (dO (by
  show (evE call a fr σ).bindS fr _=_; rw [h]; show (evE call b fr σ1).bindS fr _=_; rw [h1]
  show (match dg w k v σ2 with | some σ=>RS.ok .next fr σ | none=>.bad)=_; rw [hs])) h2
theorem ib (h:evE call a fr σ=.ok v σ1) (h1:evE call b fr σ1=.ok w σ2) (h0:evE call c fr σ2=.ok x σ3) (hs:dq w x v σ3=some σ4) (h2:evSs call wf ss fr σ4=r):evSs call wf (.asgI b c a :: ss) fr σ=r :=
 a4 (dO (by
  show (evE call a fr σ).bindS fr _=_; rw [h]; show (evE call b fr σ1).bindS fr _=_; rw [h1]; show (evE call c fr σ2).bindS fr _=_; rw [h0]
  show (match dq w x v σ3 with | some σ=>RS.ok .next fr σ | none=>.bad)=_; rw [hs])) h2
theorem aO (h:evE call a fr σ=.ok v σ1):evSs call wf (.ret a :: ss) fr σ=.ok (.ret v) fr σ1 :=
 eU (by show (evE call a fr σ).bindX _ fr _=_; rw [h]; rfl)
theorem A2 (h:evE call t fr σ=.ok (.bool true) σ1):evS call wf (.ifS t bs os) fr σ=evSs call wf bs fr σ1:=by
 show (evE call t fr σ).bindS fr _=_; rw [h]; rfl
theorem BU (h:evE call t fr σ=.ok (.bool false) σ1):evS call wf (.ifS t bs os) fr σ=evSs call wf os fr σ1:=by
 show (evE call t fr σ).bindS fr _=_; rw [h]; rfl
theorem d3 (h:evE call t fr σ=.ok (.bool true) σ1) (h1:evSs call wf bs fr σ1=.ok .next fr1 σ2) (h2:evSs call wf ss fr1 σ2=r):evSs call wf (.ifS t bs os :: ss) fr σ=r:=a4 ((A2 h).trans h1) h2
theorem re (h:evE call t fr σ=.ok (.bool false) σ1) (h1:evSs call wf os fr σ1=.ok .next fr1 σ2) (h2:evSs call wf ss fr1 σ2=r):evSs call wf (.ifS t bs os :: ss) fr σ=r:=a4 ((BU h).trans h1) h2
theorem aW (h:evE call t fr σ=.ok (.bool false) σ1) (h2:evSs call wf ss fr σ1=r):evSs call wf (.ifS t bs [] :: ss) fr σ=r:=re h a6 h2
theorem cM (h:evE call t fr σ=.ok (.bool true) σ1) (h1:evSs call wf bs fr σ1=.ok (.ret v) fr1 σ2):evSs call wf (.ifS t bs os :: ss) fr σ=.ok (.ret v) fr1 σ2:=eU ((A2 h).trans h1)
end
section
variable {P:Nat→Option Fn}{wf n:Nat}{fr':Fra} {σ σ':Sto}{v:V}
theorem bp {k:Nat}{fn:Fn}{vs:List V} (hP:P k=some fn) (hl:vs.length=fn.ps.length) (h:evSs (evFn P wf n) wf fn.body (aR fn vs) σ=.ok (.ret v) fr' σ'):evFn P wf (n + 1) k vs σ=.ok v σ':=(gZ hP hl).trans (congrArg sE h)
theorem vG {k:Nat}{fn:Fn}{vs:List V} (hP:P k=some fn) (hl:vs.length=fn.ps.length) (h:evSs (evFn P wf n) wf fn.body (aR fn vs) σ=.ok .next fr' σ'):evFn P wf (n + 1) k vs σ=.ok .none σ':=(gZ hP hl).trans (congrArg sE h)
end
end Mine
namespace Mine
set_option backward.match.sparseCases false
open PySem
theorem ap {σ τ:Sto}{l:Nat}{o:AO} (h:σ[l]?=some o):(σ ++ τ)[l]?=some o:=by
 rw [List.getElem?_append_left (List.getElem?_eq_some_iff.mp h).1]; exact h
theorem am {σ τ:Sto}{o:AO}:(σ ++ o :: τ)[σ.length]?=some o:=by rw [List.getElem?_append_right (Nat.le_refl _),Nat.sub_self]; rfl
theorem ag {σ:Sto}{l:Nat}{xs:List V} (h:σ[l]?=some (.lst xs)):getL σ l=some xs:=by unfold getL; rw [h]
theorem ai {xs:List V} {σ:Sto} (h:xs.length ≤ 16777216):cy xs σ=.ok (.ref σ.length) (σ ++ [.lst xs]):=if_pos h
theorem jb {fr:Fra}{v:Option V}{i j:Nat} (h:j ≠ i):(fr.set i v)[j]?=fr[j]?:=List.getElem?_set_ne (Ne.symm h)
theorem jM:∀ (l:List (Nat × V)) (fr:Fra),(l.foldl (fun f p=>f.set p.1 (some p.2)) fr).length=fr.length
 | [],_=>rfl
 | p :: l,fr=>by rw [List.foldl_cons,jM l,List.length_set]
theorem kG:∀ (l:List (Nat × V)) (fr:Fra) (j:Nat),j ∉ l.map (·.1)→(l.foldl (fun f p=>f.set p.1 (some p.2)) fr)[j]?=fr[j]?
 | [],_,_,_=>rfl
 | p :: l,fr,j,h=>by
  rw [List.map_cons,List.mem_cons,not_or] at h
  rw [List.foldl_cons,kG l _ j h.2,jb h.1]
theorem fw:∀ (l:List (Nat × V)) (f1 f2:Fra),f1.length=f2.length→(∀ j,j ∉ l.map (·.1)→f1[j]?=f2[j]?)→l.foldl (fun f p=>f.set p.1 (some p.2)) f1=l.foldl (fun f p=>f.set p.1 (some p.2)) f2
 | [],f1,f2,_,h=>List.ext_getElem? fun j=>h j (nomatch ·)
 | p :: l,f1,f2,hl,h=>by
  rw [List.foldl_cons,List.foldl_cons]
  refine fw l _ _ (by rw [List.length_set,List.length_set]; exact hl) fun j hj=>?_
  by_cases hp:j=p.1
  ·subst hp
   rw [List.getElem?_set,List.getElem?_set,if_pos rfl,if_pos rfl,hl]
  ·rw [jb hp,jb hp]
   exact h j (by rw [List.map_cons,List.mem_cons,not_or]; exact ⟨hp,hj⟩)
theorem l9 {tg:List Nat}{one:Bool}{v:V}{fr fr1:Fra} (h:bF tg one v fr=some fr1):fr1.length=fr.length ∧ ∀ j,j ∉ tg→fr1[j]?=fr[j]?:=by
 cases one with
 | true =>
  rcases tg with _ | ⟨i,_ | ⟨j,tg⟩⟩
  ·exact nomatch (show none=some fr1 from h)
  ·by_cases hi:i < fr.length
   ·rw [← Option.some.inj ((if_pos hi).symm.trans (show (if i < fr.length then some (fr.set i (some v)) else none)=some fr1 from h))]
    exact ⟨List.length_set,fun j hj=>jb fun q=>hj (by rw [q]; exact .head _)⟩
   ·exact nomatch (if_neg hi).symm.trans (show (if i < fr.length then some (fr.set i (some v)) else none)=some fr1 from h)
  ·exact nomatch (show none=some fr1 from h)
 | false =>
  cases v with
  | tup vs =>
   by_cases hc:vs.length=tg.length ∧ tg.all (· < fr.length)
   ·rw [← Option.some.inj ((if_pos hc).symm.trans h)]
    exact ⟨jM _ _,fun j hj=>kG _ _ j (by rw [List.map_fst_zip (Nat.le_of_eq hc.1.symm)]; exact hj)⟩
   ·exact nomatch (if_neg hc).symm.trans h
  | _=>exact nomatch (show none=some fr1 from h)
theorem n5 {tg:List Nat}{one:Bool}{v:V}{fr fr1:Fra} (h:fr1.length=fr.length ∧ ∀ j,j ∉ tg→fr1[j]?=fr[j]?):bF tg one v fr1=bF tg one v fr:=by
 cases one with
 | true =>
  rcases tg with _ | ⟨i,_ | ⟨j,tg⟩⟩
  ·rfl
  ·show (if i < fr1.length then some (fr1.set i (some v)) else none)=if i < fr.length then some (fr.set i (some v)) else none
   rw [h.1,show fr1.set i (some v)=fr.set i (some v) from fw [(i,v)] fr1 fr h.1 h.2]
  ·rfl
 | false =>
  cases v with
  | tup vs =>
   show (if vs.length=tg.length ∧ tg.all (· < fr1.length) then _ else none)=if vs.length=tg.length ∧ tg.all (· < fr.length) then _ else none
   rw [h.1]
   by_cases hc:vs.length=tg.length ∧ tg.all (· < fr.length)
   ·rw [if_pos hc,if_pos hc,fw _ _ _ h.1 (by rw [List.map_fst_zip (Nat.le_of_eq hc.1.symm)]; exact h.2)]
   ·rw [if_neg hc,if_neg hc]
  | _=>rfl
theorem lq {tg:List Nat}{one:Bool}{v v':V}{fr fr1:Fra} (h:bF tg one v fr=some fr1):bF tg one v' fr1=bF tg one v' fr:=n5 (l9 h)
section
variable {call:Nat→List V→Sto→RE}{wf:Nat}{fr fr1:Fra} {σ σ1:Sto}{tg:List Nat}{one:Bool}{cond elt:Fra→Sto→RE} {α:Type}
theorem og {v y:V}{p:Bool}{acc:List V} (h1:bF tg one v fr=some fr1) (h2:cond fr1 σ=.ok (.bool p) σ) (h3:p=true→elt fr1 σ=.ok y σ):lK tg one cond elt v fr σ acc=some (fr1,(if p then acc ++ [y] else acc),σ):=by
 unfold lK
 rw [h1]
 show (cond fr1 σ).opt _=_
 rw [h2]
 cases p with
 | false=>rfl
 | true=>show (elt fr1 σ).opt _=_; rw [h3 rfl]; rfl
inductive nQ (tg:List Nat) (one:Bool) (cond elt:Fra→Sto→RE) (fr:Fra) (σ:Sto) (v:V) (p:Bool) (y:V):Prop
 | mk (fr1:Fra) (h1:bF tg one v fr=some fr1) (h2:cond fr1 σ=.ok (.bool p) σ) (h3:p=true→elt fr1 σ=.ok y σ):nQ tg one cond elt fr σ v p y
theorem pQ {p:α→Bool}{f:α→V}{a:α}{ws:List α}{acc:List V}:(if p a then acc ++ [f a] else acc) ++ (ws.filter p).map f=acc ++ ((a :: ws).filter p).map f:=by
 rw [List.filter_cons]
 cases p a with
 | true=>simp
 | false=>rfl
theorem oq {src:Src}{n i:Nat}{acc:List V} (h:bh σ i src=some none):d6 tg one cond elt src (n + 1) i fr σ acc=.ok acc σ:=by
 show kJ (bh σ i src) _ _ _=_; rw [h]; rfl
theorem oN {src:Src}{n i:Nat}{v:V}{acc acc':List V} {σ':Sto} (h:bh σ i src=some (some v)) (hf:lK tg one cond elt v fr σ acc=some (fr1,acc',σ')):d6 tg one cond elt src (n + 1) i fr σ acc=d6 tg one cond elt src n (i + 1) fr1 σ' acc':=by
 show kJ (bh σ i src) _ _ _=_; rw [h]; show jH (lK tg one cond elt v fr σ acc) _ _=_; rw [hf]; rfl
theorem yd {src:Src}{g:α→V}{xs:List α}{i:Nat} (hs:bh σ i src=some (xs[i]?.map g)) (hd:xs.drop i=[]):bh σ i src=some none:=by rw [hs,List.getElem?_eq_none_iff.mpr (List.drop_eq_nil_iff.mp hd)]; rfl
theorem wn {src:Src}{g:α→V}{xs ws:List α}{a:α}{i:Nat} (hs:bh σ i src=some (xs[i]?.map g)) (hd:xs.drop i=a :: ws):bh σ i src=some (some (g a)):=by
 have:=congrArg (fun l=>l[0]?) hd
 rw [List.getElem?_drop,Nat.add_zero] at this
 rw [hs,this]; rfl
theorem n0 {src:Src}{xs:List α}{g:α→V}{p:α→Bool}{f:α→V}{fr0:Fra} (hs:∀ i,bh σ i src=some (xs[i]?.map g)):∀ (ws:List α) (n i:Nat) (fr:Fra) (acc:List V),xs.drop i=ws→ws.length < n→(∀ v,bF tg one v fr=bF tg one v fr0) →
  (∀ a ∈ ws,nQ tg one cond elt fr0 σ (g a) (p a) (f a))→d6 tg one cond elt src n i fr σ acc=.ok (acc ++ (ws.filter p).map f) σ:=by
 intro ws
 induction ws with
 | nil =>
  intro n i fr acc hd hn _ _
  cases n with
  | zero=>exact absurd hn (Nat.not_lt_zero _)
  | succ n=>rw [oq (yd (hs i) hd)]; exact congrArg (fun l=>REs.ok l σ) (List.append_nil _).symm
 | cons a ws ih =>
  intro n i fr acc hd hn hfr h
  cases n with
  | zero=>exact absurd hn (Nat.not_lt_zero _)
  | succ n =>
   obtain ⟨fr1,h1,h2,h3⟩:=h a (.head _)
   rw [oN (wn (hs i) hd) (og ((hfr _).trans h1) h2 h3),ih n (i + 1) fr1 _ (by rw [← List.drop_drop,hd]; rfl) (Nat.lt_of_succ_lt_succ hn) (fun v=>lq h1) fun b hb=>h b (.tail _ hb),pQ]
variable {it el:E}{cs:List E}{frm:List (Option Nat)}{g:α→V}{p:α→Bool}{f:α→V}{ws:List α}{r:RE}
theorem k7 {v:V}{src:Src} (hv:fU v=some src) (hk:rB σ1 src=some ws.length) (hs:∀ i,bh σ1 i src=some (ws[i]?.map g)) (h:evE call it fr σ=.ok v σ1) (hp:∀ a ∈ ws,nQ tg one (dD (jX call cs)) (evE call el) (dA fr frm) σ1 (g a) (p a) (f a)) (hn:cy ((ws.filter p).map f) σ1=r) :
  evE call (.comp tg one it cs el frm) fr σ=r:=by
 show (evE call it fr σ).bind _=_; rw [h]
 show REs.bind (jH (fU v) _ _) _=_
 rw [hv]
 show REs.bind (jH (rB σ1 src) _ _) _=_
 rw [hk]
 show (d6 tg one (dD (jX call cs)) (evE call el) src (ws.length + 1) 0 (dA fr frm) σ1 []).bind _=_
 rw [n0 hs ws _ 0 _ [] rfl (Nat.lt_succ_self _) (fun _=>rfl) hp]
 exact hn
theorem oZ {l:Nat}{ws:List α}{g:α→V} (h:getL σ l=some (ws.map g)):rB σ (.live l)=some ws.length:=by show (getL σ l).map _=_; rw [h]; exact congrArg some (List.length_map g)
theorem ly {l:Nat}{ws:List α}{g:α→V} (h:getL σ l=some (ws.map g)) (i:Nat):bh σ i (.live l)=some (ws[i]?.map g):=by show (getL σ l).map _=_; rw [h]; exact congrArg some List.getElem?_map
theorem A9 {vs:List V}{ws:List α}{g:α→V} (h:vs=ws.map g):rB σ (.tup vs)=some ws.length:=by rw [h]; exact congrArg some (List.length_map g)
theorem xL {vs:List V}{ws:List α}{g:α→V} (h:vs=ws.map g) (i:Nat):bh σ i (.tup vs)=some (ws[i]?.map g):=by rw [h]; exact congrArg some List.getElem?_map
theorem tL {lo hi:Int}{ws:List α}{g:α→V} (h:fP lo hi=ws.map g):rB σ (.rng lo hi)=some ws.length:=by
 have:=congrArg List.length h
 rw [List.length_map] at this
 rw [← this]; unfold fP; rw [List.length_map,List.length_range]; rfl
theorem nA {lo hi:Int}{ws:List α}{g:α→V} (h:fP lo hi=ws.map g) (i:Nat):bh σ i (.rng lo hi)=some (ws[i]?.map g):=by show some (fP lo hi)[i]?=_; rw [h]; exact congrArg some List.getElem?_map
theorem fK {l:Nat} (h:evE call it fr σ=.ok (.ref l) σ1) (hl:getL σ1 l=some (ws.map g)) (hp:∀ a ∈ ws,nQ tg one (dD (jX call cs)) (evE call el) (dA fr frm) σ1 (g a) (p a) (f a)) (hn:cy ((ws.filter p).map f) σ1=r) :
  evE call (.comp tg one it cs el frm) fr σ=r:=k7 rfl (oZ hl) (ly hl) h hp hn
theorem v8 {lo hi:Int} (h:evE call it fr σ=.ok (.rng lo hi) σ1) (hw:fP lo hi=ws.map g) (hp:∀ a ∈ ws,nQ tg one (dD (jX call cs)) (evE call el) (dA fr frm) σ1 (g a) (p a) (f a)) (hn:cy ((ws.filter p).map f) σ1=r) :
  evE call (.comp tg one it cs el frm) fr σ=r:=k7 rfl (tL hw) (nA hw) h hp hn
theorem oY {vs:List V} (h:evE call it fr σ=.ok (.tup vs) σ1) (hw:vs=ws.map g) (hp:∀ a ∈ ws,nQ tg one (dD (jX call cs)) (evE call el) (dA fr frm) σ1 (g a) (p a) (f a)) (hn:cy ((ws.filter p).map f) σ1=r) :
  evE call (.comp tg one it cs el frm) fr σ=r:=k7 rfl (A9 hw) (xL hw) h hp hn
theorem pM:dD (jX call []) fr σ=.ok (.bool true) σ:=rfl
theorem oh {c:E}{q:Bool} (h:evE call c fr σ=.ok (.bool q) σ):dD (jX call [c]) fr σ=.ok (.bool q) σ:=by
 show (evE call c fr σ).bind _=_; rw [h]
 cases q <;> rfl
end
section
variable {call:Nat→List V→Sto→RE}{wf:Nat}{fr:Fra} {σ σ1:Sto}{tg:List Nat}{one:Bool}{body:Fra→Sto→RS} {α:Type}{g:α→V}
inductive Nxt (r:RS) (I:Fra→Sto→Prop):Prop
 | mk (fr:Fra) (σ:Sto) (e:r=.ok .next fr σ) (i:I fr σ):Nxt r I
inductive Bck (r:RS) (Rt:V→Sto→Prop):Prop
 | mk (w:V) (fr:Fra) (σ:Sto) (e:r=.ok (.ret w) fr σ) (i:Rt w σ):Bck r Rt
inductive mV (tg:List Nat) (one:Bool) (body:Fra→Sto→RS) (v:V) (fr:Fra) (σ:Sto) (I:Fra→Sto→Prop) (Rt:V→Sto→Prop):Prop
 | mk (fr1:Fra) (h:bF tg one v fr=some fr1) (o:Nxt (body fr1 σ) I ∨ Bck (body fr1 σ) Rt):mV tg one body v fr σ I Rt
def m7 (r:RS) (I:Fra→Sto→Prop) (Rt:V→Sto→Prop):Prop:=Nxt r I ∨ Bck r Rt
theorem th {src:Src}{ws:List α} (I:Nat→Fra→Sto→Prop) (Rt:V→Sto→Prop) (hI:∀ i fr σ,I i fr σ→bh σ i src=some (ws[i]?.map g)) (step:∀ i a fr σ,ws[i]?=some a→I i fr σ→mV tg one body (g a) fr σ (I (i + 1)) Rt) :
  ∀ (n i:Nat) (fr:Fra) (σ:Sto),ws.length < i + n→i ≤ ws.length→I i fr σ→m7 (oR tg one body src n i fr σ) (I ws.length) Rt:=by
 intro n
 induction n with
 | zero=>exact fun i fr σ hn hi _=>absurd hn (Nat.not_lt.mpr hi)
 | succ n ih =>
  intro i fr σ hn hi h0
  show m7 (kJ (bh σ i src) _ _ _) _ _
  rw [hI i fr σ h0]
  cases ha:ws[i]? with
  | none =>
   have:=List.getElem?_eq_none_iff.mp ha
   rw [Nat.le_antisymm hi this] at h0
   exact .inl ⟨fr,σ,rfl,h0⟩
  | some a =>
   obtain ⟨fr1,h1,h2⟩:=step i a fr σ ha h0
   show m7 (jH (bF tg one (g a) fr) _ _) _ _
   rw [h1]
   show m7 (sz (body fr1 σ) _) _ _
   rcases h2 with ⟨fr2,σ2,h2,h3⟩ | ⟨w,fr2,σ2,h2,h3⟩
   ·rw [h2]; exact ih (i + 1) fr2 σ2 (by lia) (List.getElem?_eq_some_iff.mp ha).1 h3
   ·rw [h2]; exact .inr ⟨w,fr2,σ2,rfl,h3⟩
variable {it:E}{bs:List S}{ws:List α}
theorem uV {v:V}{src:Src}{k:Nat} (hv:fU v=some src) (hk:rB σ1 src=some k) (h:evE call it fr σ=.ok v σ1):evS call wf (.forS tg one (.e it) bs) fr σ=oR tg one (evSs call wf bs) src (k + 1) 0 fr σ1:=by
 show (evE call it fr σ).bindS fr _=_; rw [h]
 show jH (fU v) _ _=_
 rw [hv]
 show jH (rB σ1 src) _ _=_
 rw [hk]; rfl
theorem qR {v:V}{src:Src} (I:Nat→Fra→Sto→Prop) (Rt:V→Sto→Prop) (hv:fU v=some src) (hk:rB σ1 src=some ws.length) (hI:∀ i fr σ,I i fr σ→bh σ i src=some (ws[i]?.map g)) (h:evE call it fr σ=.ok v σ1)
  (step:∀ i a fr σ,ws[i]?=some a→I i fr σ→mV tg one (evSs call wf bs) (g a) fr σ (I (i + 1)) Rt) (h0:I 0 fr σ1):m7 (evS call wf (.forS tg one (.e it) bs) fr σ) (I ws.length) Rt:=by
 rw [uV hv hk h]
 exact th I Rt hI step _ 0 fr σ1 (by lia) (Nat.zero_le _) h0
theorem nO {l:Nat} (I:Nat→Fra→Sto→Prop) (Rt:V→Sto→Prop) (h:evE call it fr σ=.ok (.ref l) σ1) (hI:∀ i fr σ,I i fr σ→getL σ l=some (ws.map g))
  (step:∀ i a fr σ,ws[i]?=some a→I i fr σ→mV tg one (evSs call wf bs) (g a) fr σ (I (i + 1)) Rt) (h0:I 0 fr σ1):m7 (evS call wf (.forS tg one (.e it) bs) fr σ) (I ws.length) Rt :=
 qR I Rt rfl (oZ (hI 0 fr σ1 h0)) (fun i fr σ h=>ly (hI i fr σ h) i) h step h0
theorem iI {lo hi:Int} (I:Nat→Fra→Sto→Prop) (Rt:V→Sto→Prop) (h:evE call it fr σ=.ok (.rng lo hi) σ1) (hw:fP lo hi=ws.map g)
  (step:∀ i a fr σ,ws[i]?=some a→I i fr σ→mV tg one (evSs call wf bs) (g a) fr σ (I (i + 1)) Rt) (h0:I 0 fr σ1):m7 (evS call wf (.forS tg one (.e it) bs) fr σ) (I ws.length) Rt :=
 qR I Rt rfl (tL hw) (fun i _ _ _=>nA hw i) h step h0
theorem m7.next {r:RS}{I:Fra→Sto→Prop} (h:m7 r I (fun _ _=>False)):Nxt r I:=h.elim id fun ⟨_,_,_,_,q⟩=>q.elim
inductive xi {β:Type} (r:RS) (F:β→Fra) (S:β→Sto) (J:β→Prop):Prop
 | mk (b:β) (e:r=.ok .next (F b) (S b)) (j:J b):xi r F S J
inductive fT {β:Type} (tg:List Nat) (one:Bool) (body:Fra→Sto→RS) (v:V) (fr:Fra) (σ:Sto) (F:β→Fra) (S:β→Sto) (J:β→Prop):Prop
 | mk (fr1:Fra) (h:bF tg one v fr=some fr1) (b:β) (e:body fr1 σ=.ok .next (F b) (S b)) (j:J b):fT tg one body v fr σ F S J
section
variable {β:Type}{F:Nat→β→Fra}{S:Nat→β→Sto}{J:Nat→β→Prop}
inductive InF (F:β→Fra) (S:β→Sto) (J:β→Prop):Fra→Sto→Prop
 | mk (b:β) (j:J b):InF F S J (F b) (S b)
theorem xi.of {r:RS}{F:β→Fra}{S:β→Sto}{J:β→Prop} (h:m7 r (InF F S J) (fun _ _=>False)):xi r F S J:=by
 obtain ⟨fr,σ,e,b,j⟩:=h.next
 exact ⟨b,e,j⟩
theorem fT.to {v:V}{fr:Fra} {σ:Sto}{F:β→Fra}{S:β→Sto}{J:β→Prop}{Rt:V→Sto→Prop} (h:fT tg one body v fr σ F S J):mV tg one body v fr σ (InF F S J) Rt:=by
 obtain ⟨fr1,h1,b,e,j⟩:=h
 exact ⟨fr1,h1,.inl ⟨_,_,e,⟨b,j⟩⟩⟩
theorem lJ {lo hi:Int} (b0:β) (h:evE call it (F 0 b0) σ=.ok (.rng lo hi) (S 0 b0)) (hw:fP lo hi=ws.map g) (step:∀ i a b,ws[i]?=some a→J i b→fT tg one (evSs call wf bs) (g a) (F i b) (S i b) (F (i + 1)) (S (i + 1)) (J (i + 1))) (h0:J 0 b0) :
  xi (evS call wf (.forS tg one (.e it) bs) (F 0 b0) σ) (F ws.length) (S ws.length) (J ws.length) :=
 .of (iI (fun i=>InF (F i) (S i) (J i)) _ h hw (fun i a _ _ ha ⟨b,j⟩=>(step i a b ha j).to) ⟨b0,h0⟩)
theorem tn {l:Nat} (b0:β) (h:evE call it (F 0 b0) σ=.ok (.ref l) (S 0 b0)) (hl:∀ i b,J i b→getL (S i b) l=some (ws.map g)) (step:∀ i a b,ws[i]?=some a→J i b→fT tg one (evSs call wf bs) (g a) (F i b) (S i b) (F (i + 1)) (S (i + 1)) (J (i + 1))) (h0:J 0 b0) :
  xi (evS call wf (.forS tg one (.e it) bs) (F 0 b0) σ) (F ws.length) (S ws.length) (J ws.length) :=
 .of (nO (fun i=>InF (F i) (S i) (J i)) _ h (fun i _ _ ⟨b,j⟩=>hl i b j) (fun i a _ _ ha ⟨b,j⟩=>(step i a b ha j).to) ⟨b0,h0⟩)
end
theorem gO {test:Fra→Sto→RE}{n:Nat}{fr2:Fra} {σ2:Sto}{r:RS} (h1:test fr σ=.ok (.bool true) σ1) (h2:body fr σ1=.ok .next fr2 σ2) (h3:ck test body n fr2 σ2=r):ck test body (n + 1) fr σ=r:=by
 show (test fr σ).bindS fr _=_; rw [h1]; show sz (body fr σ1) _=_; rw [h2]; exact h3
theorem mw {test:Fra→Sto→RE}{n:Nat} (h1:test fr σ=.ok (.bool false) σ1):ck test body (n + 1) fr σ=.ok .next fr σ1:=by
 show (test fr σ).bindS fr _=_; rw [h1]; rfl
theorem u7 {test:Fra→Sto→RE}{n:Nat}{fr2:Fra} {σ2:Sto}{w:V} (h1:test fr σ=.ok (.bool true) σ1) (h2:body fr σ1=.ok (.ret w) fr2 σ2):ck test body (n + 1) fr σ=.ok (.ret w) fr2 σ2:=by
 show (test fr σ).bindS fr _=_; rw [h1]; show sz (body fr σ1) _=_; rw [h2]; rfl
end
end Mine
namespace Mine
open PySem
noncomputable def cQ:Fn:={ ps:=[0,1,2],size:=6,body:=[S.ret (((E.loc 0).isi Ty.int).and (((E.loc 0).isi Ty.bool).not.and (E.cmp2 .LtE .LtE (E.loc 1) (E.loc 0) (E.loc 2))))] }
noncomputable def ru:Fn:={ ps:=[0,1],size:=4,body:=[S.ifS (E.call 8 [E.loc 1,E.int 0,E.bin .Sub ((E.loc 0).attr 0) (E.int 1)]).not [S.raise (xc 1)] []] }
noncomputable def rp:Fn:={ ps:=[0,1,2],size:=4,body :=
 [S.expr ((E.loc 0).umeth 12 [E.loc 1]),S.expr ((E.loc 0).umeth 12 [E.loc 2]),
  S.ret (E.comp [1] true ((E.loc 0).attr 1) [(E.cmp .Eq ((E.loc 1).sub (E.int 0)) (E.loc 2)).and (E.cmp .Eq ((E.loc 1).sub (E.int 1)) (E.loc 3))] ((E.loc 1).sub (E.int 2)) [none,none,some 1,some 2]).maxd] }
noncomputable def wayV (w:Way):V:=.tup [.int w.1,.int w.2.1,.int w.2.2]
structure bk (σ:Sto) (l:Nat) (m:Nat) (ws:List Way):Prop where
 at':∃ d lw,σ[l]?=some (.inst d) ∧ σ[d]?=some (.att [(0,.int m),(1,.ref lw)]) ∧ σ[lw]?=some (.lst (ws.map wayV))
theorem bk.app {σ τ:Sto}{l m:Nat}{ws:List Way} (h:bk σ l m ws):bk (σ ++ τ) l m ws :=
 let ⟨d,lw,a,b,c⟩:=h.at'; ⟨d,lw,ap a,ap b,ap c⟩
section
variable {P:Nat→Option Fn}{wf n:Nat} {σ:Sto}
theorem lW (hP:P 8=some cQ) (x lo hi:Int):evFn P wf (n + 1) 8 [.int x,.int lo,.int hi] σ=.ok (.bool (decide (lo ≤ x) && decide (x ≤ hi))) σ :=
 bp hP rfl (aO (cG (jD (ac rfl) rfl) (cG (vF (jD (ac rfl) rfl)) (zp (ac rfl) (ac rfl) rfl (fun _=>ac rfl) fun _=>rfl))))
theorem iM (hP:P 8=some cQ) {x lo hi:Int} (h1:lo ≤ x) (h2:x ≤ hi):evFn P wf (n + 1) 8 [.int x,.int lo,.int hi] σ=.ok (.bool true) σ:=by
 rw [lW hP,decide_eq_true h1,decide_eq_true h2]; rfl
theorem bO {l m d lw:Nat} (a:σ[l]?=some (.inst d)) (b:σ[d]?=some (.att [(0,.int m),(1,.ref lw)])):jq (.ref l) 0 σ=some (.int m):=by
 unfold jq; dsimp only; rw [a]; dsimp only; rw [b]; rfl
theorem cF {l m d lw:Nat} (a:σ[l]?=some (.inst d)) (b:σ[d]?=some (.att [(0,.int m),(1,.ref lw)])):jq (.ref l) 1 σ=some (.ref lw):=by
 unfold jq; dsimp only; rw [a]; dsimp only; rw [b]; rfl
theorem lX (h8:P 8=some cQ) (h12:P 12=some ru) {l m x:Nat}{ws:List Way} (w:bk σ l m ws) (hx:x < m):evFn P wf (n + 2) 12 [.ref l,.int x] σ=.ok .none σ:=by
 obtain ⟨d,lw,a,b,c⟩:=w.at'
 exact vG h12 rfl (aW (gS (aF (aa (ac rfl) (aa aj (aa (ar (cm (ac rfl) (bO a b)) aj rfl) ae))) (iM h8 (Int.natCast_nonneg x) (by lia)))) a6)
theorem cC:∀ l:List Nat,aE (l.map fun (d:Nat)=>V.int d)=some (l.map fun (d:Nat)=>(d:Int))
 | []=>rfl
 | x :: l=>by
  have:=cC l
  unfold aE at this ⊢
  rw [List.map_cons,jT,this]; rfl
noncomputable def bj (ws:List Way) (a b:Nat):List Nat:=(ws.filter fun w=>w.1 == a && w.2.1 == b).map (·.2.2)
theorem dm (x y:Nat):((x:Int) == (y:Int))=(x == y):=by
 rw [Bool.eq_iff_iff,beq_iff_eq,beq_iff_eq]; lia
theorem tw (h8:P 8=some cQ) (h12:P 12=some ru) (h13:P 13=some rp) {l m x y:Nat}{ws:List Way} (w:bk σ l m ws) (hx:x < m) (hy:y < m) (hz:ws.length ≤ 60) :
  evFn P wf (n + 3) 13 [.ref l,.int x,.int y] σ=.ok (match jl ((bj ws x y).map fun (d:Nat)=>(d:Int)) with | some i=>V.int i | none=>V.none) (σ ++ [.lst ((bj ws x y).map fun (d:Nat)=>V.int d)]):=by
 obtain ⟨d,lw,a,b,c⟩:=w.at'
 have hn:=fun (z:Nat) (hz:z < m)=>lX (wf:=wf) (n:=n) h8 h12 w hz
 have e1:(bj ws x y).map (fun (d:Nat)=>V.int d)=(ws.filter fun w=>w.1 == x && w.2.1 == y).map fun w=>V.int w.2.2:=by unfold bj; rw [List.map_map]; rfl
 refine bp h13 rfl (bu (bK (ac rfl) a b (aa (ac rfl) ae) (hn x hx)) (bu (bK (ac rfl) a b (aa (ac rfl) ae) (hn y hy)) (aO (yT (l:=σ.length) (is:=(bj ws x y).map fun (d:Nat)=>(d:Int)) ?_ ?_ rfl))))
 ·rw [e1]
  refine fK (ws:=ws) (g:=wayV) (p:=fun w=>w.1 == x && w.2.1 == y) (f:=fun w=>.int w.2.2) (cm (ac rfl) (cF a b)) (ag c) (fun w hw=>⟨_,rfl,oh ?_,fun _=>aC (ac rfl) aj rfl⟩) (ai ?_)
  ·exact vZ (aM (aC (ac rfl) aj rfl) (ac rfl) (congrArg some (dm w.1 x))) fun _=>aM (aC (ac rfl) aj rfl) (ac rfl) (congrArg some (dm w.2.1 y))
  ·rw [List.length_map]; exact Nat.le_trans (List.length_filter_le _ _) (Nat.le_trans hz (by decide))
 ·rw [ag am]; exact cC _
end
end Mine
namespace Mine
open PySem
noncomputable def lG:List S:=[S.asg 2 (E.bin .Mod (E.loc 0) (E.loc 1)),S.asg 0 (E.loc 1),S.asg 1 (E.loc 2)]
noncomputable def i9:Fn:={ ps:=[0,1],size:=3,body:=[S.whileS (E.cmp .NotEq (E.loc 1) (E.int 0)) lG,S.ret (E.loc 0)] }
noncomputable def lm:Fn:={ ps:=[0,1],size:=4,body:=[S.asg 2 (E.call 0 [E.loc 0,E.loc 1]),S.ret (E.tup [E.bin .FloorDiv (E.loc 0) (E.loc 2),E.bin .FloorDiv (E.loc 1) (E.loc 2)])] }
theorem yn (x y:Nat):Int.fmod (x:Int) (y:Int)=((x % y:Nat):Int):=by
 rw [Int.fmod_eq_emod_of_nonneg _ (Int.natCast_nonneg y)]; rfl
theorem zX (x y:Nat):Int.fdiv (x:Int) (y:Int)=((x / y:Nat):Int):=by
 rw [Int.fdiv_eq_ediv_of_nonneg _ (Int.natCast_nonneg y)]; rfl
theorem iu {x y:Nat} {σ:Sto} (h:y ≠ 0):mt .Mod (.int x) (.int y) σ=.ok (.int (x % y:Nat)) σ:=by
 show (if (y:Int)=0 then RE.bad else .ok (.int (Int.fmod x y)) σ)=_
 rw [if_neg (by lia),yn]
theorem jL {x y:Nat} {σ:Sto} (h:y ≠ 0) (h':y < 10 ^ 100):mt .FloorDiv (.int x) (.int y) σ=.ok (.int (x / y:Nat)) σ:=by
 show (if (y:Int) ≠ 0 ∧ (y:Int).natAbs < 10 ^ 100 then RE.ok (.int (Int.fdiv x y)) σ else .bad)=_
 rw [if_pos ⟨by lia,h'⟩,zX]
section
variable {P:Nat→Option Fn}{wf n:Nat} {σ:Sto}
theorem yB {call:Nat→List V→Sto→RE}{te:E} (ht:∀ (x y:Nat) (z:Option V),evE call te [some (.int x),some (.int y),z] σ=.ok (.bool (!(y == 0))) σ):∀ (y f x:Nat) (z:Option V),y < f→∃ z',ck (evE call te) (evSs call wf lG) f [some (.int x),some (.int y),z] σ=.ok .next [some (.int (Nat.gcd x y)),some (.int 0),z'] σ:=by
 intro y
 induction y using Nat.strongRecOn with
 | _ y ih =>
  intro f x z hf
  obtain ⟨f,rfl⟩:∃ k,f=k + 1:=⟨f - 1,by lia⟩
  by_cases hy:y=0
  ·subst hy
   refine ⟨z,?_⟩
   rw [Nat.gcd_zero_right]
   exact mw (ht x 0 z)
  ·obtain ⟨z',hz⟩:=ih (x % y) (Nat.mod_lt _ (Nat.pos_of_ne_zero hy)) f y (some (.int (x % y:Nat))) (by have:=Nat.mod_lt x (Nat.pos_of_ne_zero hy); lia)
   refine ⟨z',?_⟩
   have e:Nat.gcd x y=Nat.gcd y (x % y):=by rw [Nat.gcd_comm x y,Nat.gcd_rec y x,Nat.gcd_comm]
   rw [e]
   refine gO ((ht x y z).trans ?_) (ak (ar (ac rfl) (ac rfl) (iu hy)) (by decide:2 < 3) (ak (ac rfl) (by decide:0 < 3) (ak (ac rfl) (by decide:1 < 3) a6))) hz
   rw [show (y == 0)=false from beq_eq_false_iff_ne.mpr hy]; rfl
theorem qI (h0:P 0=some i9) {x y:Nat} (hw:y < wf):evFn P wf (n + 1) 0 [.int x,.int y] σ=.ok (.int (Nat.gcd x y)) σ:=by
 obtain ⟨z,hz⟩:=yB (call:=evFn P wf n) (σ:=σ) (te:=E.cmp .NotEq (E.loc 1) (E.int 0)) (fun x y z=>aM (ac rfl) aj (congrArg (fun b=>some (!b)) (dm y 0))) y wf x none hw
 exact bp h0 rfl (a4 (show evS (evFn P wf n) wf (S.whileS _ lG) _ σ=_ from dO hz) (aO (ac rfl)))
theorem sa (h0:P 0=some i9) (h1:P 1=some lm) {x y:Nat} (hy:1 ≤ y) (hw:y < wf) (hb:y < 10 ^ 100):evFn P wf (n + 2) 1 [.int x,.int y] σ=.ok (.tup [.int (x / Nat.gcd x y:Nat),.int (y / Nat.gcd x y:Nat)]) σ:=by
 have hg:Nat.gcd x y ≠ 0:=Nat.ne_of_gt (Nat.gcd_pos_of_pos_right _ hy)
 have hgb:Nat.gcd x y < 10 ^ 100:=Nat.lt_of_le_of_lt (Nat.gcd_le_right _ hy) hb
 exact bp h1 rfl (ak (aF (aa (ac rfl) (aa (ac rfl) ae)) (qI h0 hw)) (by decide:2 < 4) (aO (dz (aa (ar (ac rfl) (ac rfl) (jL hg hgb)) (aa (ar (ac rfl) (ac rfl) (jL hg hgb)) ae)) (by decide:2 ≤ 1000))))
end
end Mine
namespace Mine
open PySem
section
variable {σ:Sto}{l:Nat}{xs:List V}
theorem dv (h:σ[l]?=some (.lst xs)):iy .len [.ref l] σ=.ok (.int xs.length) σ:=by
 show bZ σ ((tl (.ref l) σ).map V.int)=_
 unfold tl; dsimp only; rw [h]; rfl
theorem aN {k:Nat}{v:V} (h:σ[l]?=some (.lst xs)) (hv:xs[k]?=some v):jE (.ref l) (.int k) σ=some v:=by
 unfold jE; dsimp only; rw [h]; show oM xs k=_; unfold oM; rw [if_pos (Int.natCast_nonneg k)]; exact hv
theorem fE {v:V} (h:σ[l]?=some (.lst xs)) (hv:xs.getLast?=some v):jE (.ref l) (.int (-1)) σ=some v:=by
 have hl:1 ≤ xs.length:=by
  cases xs with
  | nil=>cases hv
  | cons a xs=>exact Nat.succ_le_succ (Nat.zero_le _)
 unfold jE; dsimp only; rw [h]; show oM xs (-1)=_; unfold oM
 rw [if_neg (by decide),if_pos (by lia),show ((-1:Int) + (xs.length:Int)).toNat=xs.length - 1 by lia,← List.getLast?_eq_getElem?]
 exact hv
theorem br (k:Nat):fP 0 (k:Int)=(List.range k).map fun (i:Nat)=>V.int i:=by
 unfold fP
 rw [show ((k:Int) - 0).toNat=k by lia]
 exact List.map_congr_left fun i _=>by rw [Int.zero_add]
theorem bg {k i v:Nat} (h:(List.range k)[i]?=some v):i < k ∧ i=v:=by
 obtain ⟨h1,h2⟩:=List.getElem?_eq_some_iff.mp h
 rw [List.getElem_range] at h2; rw [List.length_range] at h1
 exact ⟨h1,h2⟩
theorem bo {k:Nat} (h:k ≤ 1000000):iy .range [.int k] σ=.ok (.rng 0 k) σ:=if_pos ⟨by decide,by decide,by lia,by lia⟩
theorem kq:∀ (is acc:List Int),is.Nodup→(∀ x ∈ is,x ∉ acc)→is.foldl (fun acc v=>if acc.any (· == v) then acc else acc ++ [v]) acc=acc ++ is
 | [],acc,_,_=>by rw [List.foldl_nil,List.append_nil]
 | x :: is,acc,nd,h=>by
  have nd':=List.nodup_cons.mp nd
  have hx:acc.any (· == x)=false:=by
   rw [List.any_eq_false]
   intro y hy q
   exact h x (.head _) (eq_of_beq q ▸ hy)
  rw [List.foldl_cons,hx]
  show is.foldl _ (acc ++ [x])=_
  rw [kq is (acc ++ [x]) nd'.2 fun y hy q=>?_,List.append_assoc]; rfl
  rcases List.mem_append.mp q with q | q
  ·exact h y (.tail _ hy) q
  ·rw [List.mem_singleton.mp q] at hy; exact nd'.1 hy
theorem k6 {is:List Int} (h:is.Nodup):jy is=is:=by
 unfold jy; rw [kq is [] h (fun _ _ q=>nomatch q),List.nil_append]
theorem xR {r:List Nat} (h:σ[l]?=some (.lst (r.map fun (v:Nat)=>V.int v))) (nd:r.Nodup) (hz:r.length ≤ 1000):iy .setLen [.ref l] σ=.ok (.int r.length) σ:=by
 show (match (getL σ l).bind aE with | some is=>if is.length ≤ 1000 then RE.ok (.int (jy is).length) σ else .bad | none=>.bad)=_
 rw [ag h]
 show (match aE (r.map fun (v:Nat)=>V.int v) with | some is=>if is.length ≤ 1000 then RE.ok (.int (jy is).length) σ else .bad | none=>.bad)=_
 rw [cC]
 show (if (r.map fun (d:Nat)=>(d:Int)).length ≤ 1000 then RE.ok (.int (jy (r.map fun (d:Nat)=>(d:Int))).length) σ else .bad)=_
 rw [List.length_map,if_pos hz,k6 (List.Pairwise.map _ (fun a b (hab:a ≠ b) q=>hab (by lia)) nd),List.length_map]
end
noncomputable def best (ws:List Way) (a b:Nat):Nat:=(bj ws a b).foldl max 0
theorem m4:∀ (l:List Nat) (a:Nat),(l.map fun (d:Nat)=>(d:Int)).foldl (fun a b=>if a < b then b else a) (a:Int)=((l.foldl max a:Nat):Int)
 | [],a=>rfl
 | x :: l,a=>by
  rw [List.map_cons,List.foldl_cons,List.foldl_cons,← m4 l (max a x)]
  congr 1
  show (if (a:Int) < (x:Int) then (x:Int) else (a:Int))=((max a x:Nat):Int)
  split <;> lia
theorem uu {ws:List Way}{a b:Nat} (h:bj ws a b ≠ []):jl ((bj ws a b).map fun (d:Nat)=>(d:Int))=some ((best ws a b:Nat):Int):=by
 unfold best
 cases q:bj ws a b with
 | nil=>exact absurd q h
 | cons x l =>
  show some ((l.map fun (d:Nat)=>(d:Int)).foldl (fun a b=>if a < b then b else a) (x:Int))=_
  rw [m4,List.foldl_cons,Nat.zero_max]
structure cO (ws:List Way) (m:Nat) (r:List Nat):Prop where
 ne:r ≠ []
 nd:r.Nodup
 lt:∀ v ∈ r,v < m
 way:∀ i,i < r.length→bj ws (r.getD i 0) (r.getD ((i + 1) % r.length) 0) ≠ []
noncomputable def rtot (ws:List Way) (r:List Nat):Nat→Nat
 | 0=>0
 | k + 1=>rtot ws r k + best ws (r.getD k 0) (r.getD ((k + 1) % r.length) 0)
noncomputable def yU:E:=(E.loc 0).umeth 13 [(E.loc 1).sub (E.loc 4),(E.loc 1).sub (E.bin .Mod (E.bin .Add (E.loc 4) (E.int 1)) (E.blt .len [E.loc 1]))]
noncomputable def wc:List S:=[S.asg 5 yU,S.ifS (E.cmp .Is (E.loc 5) E.none) [S.raise (xc 4)] [],S.asg 3 (E.bin .Add (E.loc 3) (E.loc 5))]
noncomputable def xP:Fn:={ ps:=[0,1],size:=11,body :=
 [S.forS [2] true (It.e (E.loc 1)) [S.expr ((E.loc 0).umeth 12 [E.loc 2])],
  S.ifS ((E.cmp .Eq (E.blt .len [E.loc 1]) (E.int 0)).or (E.cmp .Lt (E.blt .setLen [E.loc 1]) (E.blt .len [E.loc 1]))) [S.raise (xc 4)] [],
  S.asg 3 (E.int 0),S.forS [4] true (It.e (E.blt .range [E.blt .len [E.loc 1]])) wc,
  S.ret (E.call 1 [E.loc 3,E.blt .len [E.loc 1]])] }
noncomputable def lH (l lr:Nat) (x2 x3 x4 x5:Option V):Fra:=[some (.ref l),some (.ref lr),x2,x3,x4,x5,none,none,none,none,none]
noncomputable def natsV (r:List Nat):List V:=r.map fun (v:Nat)=>V.int v
theorem ic {r:List Nat}{k:Nat} (h:k < r.length):(natsV r)[k]?=some (V.int (r.getD k 0:Nat)):=by
 unfold natsV; rw [List.getElem?_map,List.getElem?_eq_getElem h,List.getD_eq_getElem?_getD,List.getElem?_eq_getElem h]; rfl
theorem aU {r:List Nat}:(natsV r).length=r.length:=by unfold natsV; rw [List.length_map]
structure Defs1 (P:Nat→Option Fn):Prop where
 h0:P 0=some i9
 h1:P 1=some lm
 h2:P 2=some xP
 h8:P 8=some cQ
 h12:P 12=some ru
 h13:P 13=some rp
section
variable {P:Nat→Option Fn}{wf n:Nat} {σ:Sto}
variable {l m lr i:Nat}{ws:List Way}{r:List Nat}{x2 x3 x4 x5:Option V}
theorem oA (H:Defs1 P) (w:bk σ l m ws) (hz:ws.length ≤ 60) (hr:σ[lr]?=some (.lst (natsV r))) (lt:∀ v ∈ r,v < m) (hi:i < r.length) :
  evE (evFn P wf (n + 3)) yU (lH l lr x2 x3 (some (.int i)) x5) σ=.ok (match jl ((bj ws (r.getD i 0) (r.getD ((i + 1) % r.length) 0)).map fun (d:Nat)=>(d:Int)) with | some i=>V.int i | none=>V.none) (σ ++ [.lst ((bj ws (r.getD i 0) (r.getD ((i + 1) % r.length) 0)).map fun (d:Nat)=>V.int d)]):=by
 obtain ⟨d,lw,a,b,c⟩:=w.at'
 have hi2:(i + 1) % r.length < r.length:=Nat.mod_lt _ (Nat.lt_of_le_of_lt (Nat.zero_le _) hi)
 have mem:∀ k,k < r.length→r.getD k 0 < m:=fun k hk=>lt _ (by rw [List.getD_eq_getElem?_getD,List.getElem?_eq_getElem hk]; exact List.getElem_mem hk)
 refine bK (ac rfl) a b (aa (aC (ac rfl) (ac rfl) (aN hr (ic hi))) (aa (aC (ac rfl) (ar (ar (ac rfl) aj rfl) (ba (aa (ac rfl) ae) (dv hr)) ?_) (aN hr (ic hi2))) ae)) (tw H.h8 H.h12 H.h13 w (mem i hi) (mem _ hi2) hz)
 rw [aU]
 exact iu (x:=i + 1) (by lia)
theorem pg (H:Defs1 P) (w:bk σ l m ws) (hz:ws.length ≤ 60) (hr:σ[lr]?=some (.lst (natsV r))) (lt:∀ v ∈ r,v < m) (hi:i < r.length) (hw:bj ws (r.getD i 0) (r.getD ((i + 1) % r.length) 0) ≠ []) {z:Option V × Option V × Sto} :
  fT [4] true (evSs (evFn P wf (n + 3)) wf wc) (.int i) (lH l lr x2 (some (.int (rtot ws r i:Nat))) z.1 z.2.1) (σ ++ z.2.2) (fun z:Option V × Option V × Sto=>lH l lr x2 (some (.int (rtot ws r (i + 1):Nat))) z.1 z.2.1) (fun z=>σ ++ z.2.2) (fun _=>True):=by
 have hd:=oA (P:=P) (wf:=wf) (n:=n) (σ:=σ ++ z.2.2) (x2:=x2) (x3:=some (.int (rtot ws r i:Nat))) (x5:=z.2.1) H w.app hz (ap hr) lt hi
 rw [uu hw,List.append_assoc] at hd
 exact ⟨_,rfl,(some (.int i),_,_),ak hd (by decide:5 < 11) (aW (aM (ac rfl) bU rfl) (ak (ar (ac rfl) (ac rfl) rfl) (by decide:3 < 11) a6)),trivial⟩
theorem uw (H:Defs1 P) (w:bk σ l m ws) (hr:σ[lr]?=some (.lst (natsV r))) (lt:∀ v ∈ r,v < m):∃ x2,evS (evFn P wf (n + 3)) wf (S.forS [2] true (It.e (E.loc 1)) [S.expr ((E.loc 0).umeth 12 [E.loc 2])]) (lH l lr none none none none) σ=.ok .next (lH l lr x2 none none none) σ:=by
 obtain ⟨d,lw,a,b,c⟩:=w.at'
 obtain ⟨x2,e1,_⟩:=tn (call:=evFn P wf (n + 3)) (wf:=wf) (tg:=[2]) (one:=true) (ws:=r) (g:=fun (v:Nat)=>V.int v) (it:=E.loc 1) (bs:=[S.expr ((E.loc 0).umeth 12 [E.loc 2])]) (σ:=σ)
  (F:=fun _ (x2:Option V)=>lH l lr x2 none none none) (S:=fun _ _=>σ) (J:=fun _ _=>True) none (ac rfl) (fun _ _ _=>ag hr)
  (fun i v x2 hv _=>⟨_,rfl,_,bu (bK (ac rfl) a b (aa (ac rfl) ae) (lX H.h8 H.h12 w (lt v (List.mem_of_getElem? hv)))) a6,trivial⟩) trivial
 exact ⟨x2,e1⟩
theorem s8 (H:Defs1 P) (w:bk σ l m ws) (hz:ws.length ≤ 60) (hr:σ[lr]?=some (.lst (natsV r))) (lt:∀ v ∈ r,v < m) (ne:r ≠ []) (way:∀ i,i < r.length→bj ws (r.getD i 0) (r.getD ((i + 1) % r.length) 0) ≠ []) {k:Nat} (hs:iy .setLen [.ref lr] σ=.ok (.int k) σ) (hk:r.length ≤ k) (hl:r.length ≤ 13) (hw:r.length < wf) :
  ∃ τ,evFn P wf (n + 4) 2 [.ref l,.ref lr] σ=.ok (.tup [.int (rtot ws r r.length / Nat.gcd (rtot ws r r.length) r.length:Nat),.int (r.length / Nat.gcd (rtot ws r r.length) r.length:Nat)]) (σ ++ τ):=by
 have hpos:1 ≤ r.length:=List.length_pos_iff.mpr ne
 obtain ⟨x2,e1⟩:=uw (wf:=wf) (n:=n) H w hr lt
 obtain ⟨x,e2,_⟩:=lJ (call:=evFn P wf (n + 3)) (wf:=wf) (tg:=[4]) (one:=true) (ws:=List.range r.length) (g:=fun (v:Nat)=>V.int v) (it:=E.blt .range [E.blt .len [E.loc 1]]) (bs:=wc)
  (F:=fun i (x:Option V × Option V × Sto)=>lH l lr x2 (some (.int (rtot ws r i:Nat))) x.1 x.2.1) (S:=fun _ x=>σ ++ x.2.2) (J:=fun _ _=>True) (σ:=σ ++ []) (none,none,[])
  (ba (aa (ba (aa (ac rfl) ae) (dv (ap hr))) ae) (bo (by rw [aU]; lia))) (by rw [aU]; exact br _)
  (fun i v x hv _=>by
   obtain ⟨hi,hvi⟩:=bg hv
   subst hvi
   exact pg H w hz hr lt hi (way i hi)) trivial
 rw [List.append_nil] at e2
 refine ⟨x.2.2,bp H.h2 rfl (a4 e1 (aW (mu (aM (p:=false) (ba (aa (ac rfl) ae) (dv hr)) aj ?_) (aM (p:=false) (ba (aa (ac rfl) ae) hs) (ba (aa (ac rfl) ae) (dv hr)) ?_)) (ak aj (by decide:3 < 11) (a4 e2 (aO (aF (aa (ac rfl) (aa (ba (aa (ac rfl) ae) (dv (ap hr))) ae)) ?_))))))⟩
 ·rw [aU]; exact congrArg some (show ((r.length:Int) == 0)=false by simp; exact ne)
 ·rw [aU]; exact congrArg some (decide_eq_false (by lia))
 ·rw [aU,List.length_range]; exact sa H.h0 H.h1 hpos hw (Nat.lt_of_le_of_lt hl (by decide))
theorem we (H:Defs1 P) (w:bk σ l m ws) (hz:ws.length ≤ 60) (hr:σ[lr]?=some (.lst (natsV r))) (R:cO ws m r) (hm:m ≤ 12) (hl:r.length ≤ 12) (hw:13 ≤ wf) :
  ∃ τ,evFn P wf (n + 4) 2 [.ref l,.ref lr] σ=.ok (.tup [.int (rtot ws r r.length / Nat.gcd (rtot ws r r.length) r.length:Nat),.int (r.length / Nat.gcd (rtot ws r r.length) r.length:Nat)]) (σ ++ τ) :=
 s8 H w hz hr R.lt R.ne R.way (xR hr R.nd (by lia)) (Nat.le_refl _) (by lia) (by lia)
end
end Mine
namespace Mine
open PySem
theorem mD:∀ (l:List Int) (a:Int),(l.foldl (fun a b=>if b < a then b else a) a=a ∨ l.foldl (fun a b=>if b < a then b else a) a ∈ l) ∧ l.foldl (fun a b=>if b < a then b else a) a ≤ a ∧ ∀ x ∈ l,l.foldl (fun a b=>if b < a then b else a) a ≤ x
 | [],a=>⟨.inl rfl,Int.le_refl _,fun _ h=>nomatch h⟩
 | x :: l,a=>by
  rw [List.foldl_cons]
  obtain ⟨h1,h2,h3⟩:=mD l (if x < a then x else a)
  have h4:(if x < a then x else a) ≤ a ∧ (if x < a then x else a) ≤ x ∧ ((if x < a then x else a)=a ∨ (if x < a then x else a)=x):=by split <;> lia
  refine ⟨?_,by lia,fun y hy=>?_⟩
  ·rcases h1 with h1 | h1
   ·rw [h1]
    rcases h4.2.2 with q | q
    ·exact .inl q
    ·exact .inr (by rw [q]; exact .head _)
   ·exact .inr (.tail _ h1)
  ·rcases List.mem_cons.mp hy with rfl | hy
   ·lia
   ·exact h3 y hy
theorem uj {is:List Int} (h:is ≠ []):∃ mn,xn is=some mn ∧ mn ∈ is ∧ ∀ x ∈ is,mn ≤ x:=by
 cases is with
 | nil=>exact absurd rfl h
 | cons x l =>
  obtain ⟨h1,h2,h3⟩:=mD l x
  refine ⟨_,rfl,?_,fun y hy=>?_⟩
  ·rcases h1 with h1 | h1
   ·rw [h1]; exact .head _
   ·exact .tail _ h1
  ·rcases List.mem_cons.mp hy with rfl | hy
   ·exact h2
   ·exact h3 y hy
noncomputable def il:Fn:={ ps:=[0],size:=3,body:=[S.asg 1 ((E.loc 0).meth .index [E.blt .min [E.loc 0]]),S.ret (E.bin .Add ((E.loc 0).slo (E.loc 1)) ((E.loc 0).shi (E.loc 1)))] }
noncomputable def rW:S:=S.whileS (E.cmp .NotEq ((E.loc 0).sub ((E.loc 4).sub (E.int 1).neg)) (E.loc 1)) [S.expr ((E.loc 4).meth .append [(E.loc 0).sub ((E.loc 4).sub (E.int 1).neg)])]
noncomputable def dk:Fn:={ ps:=[0,1,2],size:=9,body :=
 [S.forS [3] true (It.e (E.blt .range [E.loc 2])) [S.asg 1 ((E.loc 0).sub (E.loc 1))],S.asg 4 (E.list [E.loc 1]),rW,S.ret (E.call 3 [E.blt .revl [E.loc 4]])] }
theorem l7 {σ:Sto}{l k:Nat}{xs ys:List V} (h1:σ[l]?=some (.lst xs)) (h2:σ[k]?=some (.lst ys)) (hz:xs.length + ys.length ≤ 16777216):mt .Add (.ref l) (.ref k) σ=.ok (.ref σ.length) (σ ++ [.lst (xs ++ ys)]):=by
 show (match getL σ l with | some xs=>(match getL σ k with | some ys=>cy (xs ++ ys) σ | none=>.bad) | none=>.bad)=_
 rw [ag h1]
 show (match getL σ k with | some ys=>cy (xs ++ ys) σ | none=>.bad)=_
 rw [ag h2]
 exact ai (by rw [List.length_append]; exact hz)
theorem ap3 {σ:Sto}{a b c:AO}:σ ++ [a] ++ [b] ++ [c]=σ ++ [a,b,c]:=by rw [List.append_assoc,List.append_assoc]; rfl
theorem qN {σ:Sto}{a b:AO}:(σ ++ [a] ++ [b])[σ.length + 1]?=some b:=by
 have:=am (σ:=σ ++ [a]) (o:=b) (τ:=[])
 rwa [List.length_append] at this
theorem dB {σ:Sto}{o o':AO} {τ:Sto}:(σ ++ o :: τ).set σ.length o'=σ ++ o' :: τ:=by
 rw [List.set_append_right _ _ (Nat.le_refl _),Nat.sub_self]; rfl
theorem l4 {σ:Sto}{l:Nat}{xs:List V}{v:V} (h:xs.length < 16777216):dP .append l xs [v] σ=.ok .none (dy σ l (xs ++ [v])):=if_pos h
theorem AB {σ:Sto}{l:Nat}{xs:List V} (h:σ[l]?=some (.lst xs)) (hz:xs.length ≤ 16777216):iy .revl [.ref l] σ=.ok (.ref σ.length) (σ ++ [.lst xs.reverse]):=by
 show (match getL σ l with | some xs=>cy xs.reverse σ | none=>.bad)=_
 rw [ag h]
 exact ai (by rw [List.length_reverse]; exact hz)
section
variable {P:Nat→Option Fn}{wf n:Nat} {σ:Sto}
theorem kO (h3:P 3=some il) {l:Nat}{r:List Nat} (hr:σ[l]?=some (.lst (natsV r))) (ne:r ≠ []) (hlt:∀ v ∈ r,v < 12) (hl:r.length ≤ 12) :
  ∃ k,k < r.length ∧ (∀ x ∈ r,r.getD k 0 ≤ x) ∧ evFn P wf (n + 1) 3 [.ref l] σ=.ok (.ref (σ.length + 2)) (σ ++ [.lst (natsV (r.drop k)),.lst (natsV (r.take k)),.lst (natsV (r.drop k ++ r.take k))]):=by
 have hi:(getL σ l).bind aE=some (r.map fun (d:Nat)=>(d:Int)):=by rw [ag hr]; exact cC r
 obtain ⟨mn,h1,h2,h4⟩:=uj (is:=r.map fun (d:Nat)=>(d:Int)) (by simpa using ne)
 have hk:(r.map fun (d:Nat)=>(d:Int)).idxOf mn < r.length:=by have:=List.idxOf_lt_length_of_mem h2; rwa [List.length_map] at this
 have hmn:((r.getD ((r.map fun (d:Nat)=>(d:Int)).idxOf mn) 0:Nat):Int)=mn:=by
  have e1:(r.map fun (d:Nat)=>(d:Int))[(r.map fun (d:Nat)=>(d:Int)).idxOf mn]'(by rw [List.length_map]; exact hk)=mn:=List.getElem_idxOf _
  rw [List.getElem_map] at e1
  rw [List.getD_eq_getElem?_getD,List.getElem?_eq_getElem hk]; exact e1
 refine ⟨(r.map fun (d:Nat)=>(d:Int)).idxOf mn,hk,fun x hx=>?_,?_⟩
 ·have:=h4 (x:Int) (List.mem_map.mpr ⟨x,hx,rfl⟩)
  lia
 ·have emin:iy .min [.ref l] σ=.ok (.int mn) σ:=by
   show bZ σ ((((getL σ l).bind aE).bind xn).map V.int)=_
   rw [hi]; show bZ σ ((xn _).map V.int)=_; rw [h1]; rfl
  have eidx:dP .index l (natsV r) [.int mn] σ=.ok (.int ((r.map fun (d:Nat)=>(d:Int)).idxOf mn:Nat)) σ:=by
   show (match aE (natsV r) with | some is=>if ug mn is then RE.ok (.int (is.idxOf mn)) σ else .bad | none=>.bad)=_
   have:aE (natsV r)=some (r.map fun (d:Nat)=>(d:Int)):=cC r
   rw [this]
   exact if_pos ⟨h2,by rw [List.length_map]; lia,fun j hj=>by
    obtain ⟨x,hx,rfl⟩:=List.mem_map.mp hj
    have:=hlt x hx
    lia⟩
  refine bp h3 rfl (ak (cN (ac rfl) (ag hr) (aa (ba (aa (ac rfl) ae) emin) ae) (ag hr) eidx) (by decide:1 < 3) (aO (ar (yw (ac rfl) (ac rfl) (ag hr) (ai ?_)) (zB (ac rfl) (ac rfl) (ag (ap hr)) (ai ?_)) ?_)))
  ·rw [List.length_drop,aU]; lia
  ·rw [List.length_take,aU]; lia
  ·have e1:(natsV r).drop ((r.map fun (d:Nat)=>(d:Int)).idxOf mn)=natsV (r.drop ((r.map fun (d:Nat)=>(d:Int)).idxOf mn)):=by unfold natsV; rw [List.map_drop]
   have e2:(natsV r).take ((r.map fun (d:Nat)=>(d:Int)).idxOf mn)=natsV (r.take ((r.map fun (d:Nat)=>(d:Int)).idxOf mn)):=by unfold natsV; rw [List.map_take]
   rw [e1,e2]
   generalize (r.map fun (d:Nat)=>(d:Int)).idxOf mn=k
   rw [List.length_append]
   refine (l7 (ap am) (qN (σ:=σ)) ?_).trans ?_
   ·rw [aU,aU,List.length_drop,List.length_take]; lia
   ·rw [ap3,show natsV (r.drop k ++ r.take k)=natsV (r.drop k) ++ natsV (r.take k) from List.map_append]
    show RE.ok (.ref (σ ++ [_] ++ [_]).length) _=_
    rw [List.length_append,List.length_append]; rfl
end
end Mine
namespace Mine
open PySem
theorem qG {m v:Nat}{B:Nat→Nat} (h:v < m):(natsV ((List.range m).map B))[v]?=some (V.int (B v:Nat)):=by
 unfold natsV; rw [List.getElem?_map,List.getElem?_map,List.getElem?_range h]; rfl
theorem iL {B:Nat→Nat}{u k:Nat}:(natsV (backs B u (k + 1))).getLast?=some (V.int (iter B k u:Nat)):=by
 unfold natsV; rw [fi,List.map_append,List.map_cons,List.map_nil,List.getLast?_concat]
theorem ne_int {x y:Nat} {σ:Sto} (h:x ≠ y):iE .NotEq (.int x) (.int y) σ=some true:=congrArg some (show ((x:Int) != (y:Int))=true by simp; lia)
theorem mF {x:Nat} {σ:Sto}:iE .NotEq (.int x) (.int x) σ=some false:=congrArg some (show ((x:Int) != (x:Int))=false by simp)
section
variable {P:Nat→Option Fn}{wf n:Nat} {σ:Sto}
theorem rS {call:Nat→List V→Sto→RE}{B:Nat→Nat}{lb m u q:Nat}{x2 x3:Option V}{rest:Fra} (hb:σ[lb]?=some (.lst (natsV ((List.range m).map B)))) (hlt:∀ k,iter B k u < m) (hq:iter B q u=u) (hmin:∀ k,1 ≤ k→k < q→iter B k u ≠ u) (hz:q ≤ 1000) :
  ∀ (d k f:Nat),k + 1 + d=q→d < f→ck (evE call (E.cmp .NotEq ((E.loc 0).sub ((E.loc 4).sub (E.int 1).neg)) (E.loc 1))) (evSs call wf [S.expr ((E.loc 4).meth .append [(E.loc 0).sub ((E.loc 4).sub (E.int 1).neg)])]) f
   (some (.ref lb) :: some (.int u) :: x2 :: x3 :: some (.ref σ.length) :: rest) (σ ++ [.lst (natsV (backs B u (k + 1)))])=.ok .next (some (.ref lb) :: some (.int u) :: x2 :: x3 :: some (.ref σ.length) :: rest) (σ ++ [.lst (natsV (backs B u q))]):=by
 intro d
 have look:∀ k,evE call ((E.loc 0).sub ((E.loc 4).sub (E.int 1).neg)) (some (.ref lb) :: some (.int u) :: x2 :: x3 :: some (.ref σ.length) :: rest) (σ ++ [.lst (natsV (backs B u (k + 1)))])=.ok (.int (iter B (k + 1) u:Nat)) (σ ++ [.lst (natsV (backs B u (k + 1)))]):=fun k =>
  aC (ac rfl) (aC (ac rfl) (nX aj) (fE am iL)) (aN (ap hb) (qG (hlt k)))
 induction d with
 | zero =>
  intro k f hk hf
  obtain ⟨f,rfl⟩:∃ g,f=g + 1:=⟨f - 1,by lia⟩
  have hk:k + 1=q:=by lia
  rw [← hk]
  refine mw (aM (look k) (ac rfl) ?_)
  rw [hk,hq]; exact mF
 | succ d ih =>
  intro k f hk hf
  obtain ⟨f,rfl⟩:∃ g,f=g + 1:=⟨f - 1,by lia⟩
  refine gO (aM (look k) (ac rfl) (ne_int (hmin (k + 1) (by lia) (by lia)))) (bu (cN (ac rfl) (ag am) (aa (look k) ae) (ag am) (l4 ?_)) a6) ?_
  ·rw [aU,aY]; lia
  ·have e1:dy (σ ++ [.lst (natsV (backs B u (k + 1)))]) σ.length (natsV (backs B u (k + 1)) ++ [V.int (iter B (k + 1) u:Nat)])=σ ++ [.lst (natsV (backs B u (k + 1 + 1)))]:=by
    unfold dy
    rw [dB,fi (q:=k + 1)]
    unfold natsV
    rw [List.map_append]; rfl
   rw [e1]
   exact ih (k + 1) f (by lia) (by lia)
theorem iz (h3:P 3=some il) (h4:P 4=some dk) {B:Nat→Nat}{lb m e q:Nat} (hb:σ[lb]?=some (.lst (natsV ((List.range m).map B)))) (hlt:∀ k,iter B k e < m) (hm:m ≤ 12)
  (q1:1 ≤ q) (q2:q ≤ m) (hq:iter B q (iter B m e)=iter B m e) (hmin:∀ k,1 ≤ k→k < q→iter B k (iter B m e) ≠ iter B m e) (hw:13 ≤ wf) :
  ∃ k τ lr,k < q ∧ σ.length ≤ lr ∧ evFn P wf (n + 2) 4 [.ref lb,.int e,.int m] σ=.ok (.ref lr) (σ ++ τ) ∧ (σ ++ τ)[lr]?=some (.lst (natsV ((backs B (iter B m e) q).reverse.drop k ++ (backs B (iter B m e) q).reverse.take k))) ∧
   ∀ x ∈ (backs B (iter B m e) q).reverse,(backs B (iter B m e) q).reverse.getD k 0 ≤ x:=by
 obtain ⟨x3,e1,_⟩:=lJ (call:=evFn P wf (n + 1)) (wf:=wf) (tg:=[3]) (one:=true) (ws:=List.range m) (g:=fun (v:Nat)=>V.int v) (it:=E.blt .range [E.loc 2]) (bs:=[S.asg 1 ((E.loc 0).sub (E.loc 1))]) (σ:=σ)
  (F:=fun i (x3:Option V)=>[some (.ref lb),some (.int (iter B i e:Nat)),some (.int m),x3,none,none,none,none,none]) (S:=fun _ _=>σ) (J:=fun _ _=>True) none (ba (aa (ac rfl) ae) (bo (by lia))) (br m)
  (fun i v x3 hv _=>⟨_,rfl,_,ak (aC (ac rfl) (ac rfl) (aN hb (qG (hlt i)))) (by decide:1 < 9) a6,trivial⟩) trivial
 rw [List.length_range] at e1
 have hlt':∀ k,iter B k (iter B m e) < m:=fun k=>by rw [← bD]; exact hlt _
 obtain ⟨k,k1,k2,k3⟩:=kO (wf:=wf) (n:=n) (σ:=σ ++ [.lst (natsV (backs B (iter B m e) q))] ++ [.lst (natsV (backs B (iter B m e) q)).reverse]) h3 (l:=(σ ++ [AO.lst (natsV (backs B (iter B m e) q))]).length) (r:=(backs B (iter B m e) q).reverse) (by rw [am]; unfold natsV; rw [List.map_reverse])
  (by
   intro q
   have:=congrArg List.length q
   rw [List.length_reverse,aY] at this
   simp at this; lia)
  (fun v hv=>by
   obtain ⟨j,hj,rfl⟩:=List.mem_map.mp (List.mem_reverse.mp hv)
   have:=hlt' j
   lia) (by rw [List.length_reverse,aY]; lia)
 have e5:∀ (a b c d f:AO),RE.ok (V.ref ((σ ++ [a] ++ [b]).length + 2)) (σ ++ [a] ++ [b] ++ [c,d,f])=RE.ok (V.ref (σ.length + 4)) (σ ++ [a,b,c,d,f]):=fun a b c d f=>by
  rw [List.length_append,List.length_append,List.append_assoc,List.append_assoc]; rfl
 rw [e5] at k3
 refine ⟨k,_,σ.length + 4,by rwa [List.length_reverse,aY] at k1,Nat.le_add_right _ _,bp h4 rfl (a4 e1 (ak (bf (aa (ac rfl) ae) (ai (by decide:1 ≤ 16777216))) (by decide:4 < 9) (a4 (fr1:=[some (.ref lb),some (.int (iter B m e:Nat)),some (.int m),x3,some (.ref σ.length),none,none,none,none]) (σ1:=σ ++ [.lst (natsV (backs B (iter B m e) q))]) ?_ (aO (aF (aa (ba (aa (ac rfl) ae) (AB am ?_)) ae) k3))))),?_,k2⟩
 ·exact dO <| rS (σ:=σ) hb hlt' hq hmin (by lia) (q - 1) 0 wf (by lia) (by lia)
 ·rw [aU,aY]; lia
 ·rw [List.getElem?_append_right (by lia),show σ.length + 4 - σ.length=4 by lia]; rfl
end
end Mine
namespace Mine
theorem nz {f:Nat→Int}:∀ {c:List Nat},cY f c.reverse=cY f c
 | []=>rfl
 | v :: c=>by
  rw [List.reverse_cons,dQ,nz (c:=c),a7,a7]
  show cY f c + (f v + 0)=_
  lia
theorem mC {f:Nat→Int}{c:List Nat} (k:Nat):cY f (c.drop k ++ c.take k)=cY f c:=by
 have:=dQ (f:=f) (c:=c.take k) (d:=c.drop k)
 rw [List.take_append_drop] at this
 rw [dQ]; lia
theorem eg {l:List Nat}{i:Nat} (h:i < l.length):l.getD i 0=l[i]:=by rw [List.getD_eq_getElem?_getD,List.getElem?_eq_getElem h]; rfl
theorem uh {l:List Nat}{i:Nat} (h:i < l.length):l.getD i 0 ∈ l:=by rw [eg h]; exact List.getElem_mem h
theorem eD {α:Type}{R:List α}{k:Nat}:(R.drop k ++ R.take k).Perm R:=List.perm_append_comm.trans (by rw [List.take_append_drop])
theorem ui {k i q:Nat} (hk:k < q) (hi:i < q) (h:¬ i < q - k):(k + i) % q=i - (q - k):=by
 rw [show k + i=(i - (q - k)) + q by lia,Nat.add_mod_right,Nat.mod_eq_of_lt (Nat.lt_of_le_of_lt (Nat.sub_le _ _) hi)]
set_option tactic.hygienic true in
theorem eW {R:List Nat}{k i:Nat} (hk:k < R.length) (hi:i < R.length):(R.drop k ++ R.take k).getD i 0=R.getD ((k + i) % R.length) 0:=by
 rw [eg (by rw [eD.length_eq]; exact hi),eg (Nat.mod_lt _ (Nat.zero_lt_of_lt hk)),List.getElem_append]
 split
 ·rename_i h
  rw [List.length_drop] at h
  rw [List.getElem_drop]
  congr 1
  rw [Nat.mod_eq_of_lt (Nat.add_comm i k ▸ Nat.add_lt_of_lt_sub h)]
 ·rename_i h
  rw [List.length_drop] at h
  rw [List.getElem_take]
  congr 1
  rw [List.length_drop,ui hk hi h]
theorem ww {B:Nat→Nat}{u q s:Nat} (hs:s < q):(backs B u q).reverse.getD s 0=iter B (q - 1 - s) u:=by
 have hl:(backs B u q).reverse.length=q:=by rw [List.length_reverse,aY]
 rw [eg (by rw [hl]; exact hs),List.getElem_reverse]
 unfold backs
 rw [List.getElem_map,List.getElem_range,List.length_map,List.length_range]
theorem lA {ws:List Way}{a b d:Nat} (h:(a,b,d) ∈ ws):bj ws a b ≠ [] ∧ d ≤ best ws a b:=by
 have hm:d ∈ bj ws a b:=List.mem_map.mpr ⟨(a,b,d),List.mem_filter.mpr ⟨h,by simp⟩,rfl⟩
 refine ⟨fun q=>(by rw [q] at hm; cases hm),?_⟩
 have key:∀ (l:List Nat) (x:Nat),x ≤ l.foldl max x ∧ ∀ y ∈ l,y ≤ l.foldl max x:=by
  intro l
  induction l with
  | nil=>intro x; exact ⟨Nat.le_refl _,fun _ h=>nomatch h⟩
  | cons z l ih =>
   intro x
   obtain ⟨h1,h2⟩:=ih (max x z)
   rw [List.foldl_cons]
   refine ⟨by lia,fun y hy=>?_⟩
   rcases List.mem_cons.mp hy with rfl | hy
   ·lia
   ·exact h2 y hy
 exact (key _ 0).2 d hm
theorem rN {B:Nat→Nat}{u q s:Nat} (hq:iter B q u=u) (hs:s < q):iter B (q - 1 - (s + 1) % q + 1) u=iter B (q - 1 - s) u:=by
 by_cases hs1:s + 1=q
 ·rw [hs1,Nat.mod_self,Nat.sub_zero,Nat.sub_add_cancel (Nat.zero_lt_of_lt hs),hq,← hs1,Nat.add_sub_cancel,Nat.sub_self]; rfl
 ·have h:s + 1 < q:=Nat.lt_of_le_of_ne hs hs1
  rw [Nat.mod_eq_of_lt h,show q - 1 - (s + 1) + 1=q - 1 - s by clear hq hs1; lia]
theorem xh {r:List Nat} (q1:1 ≤ r.length):((List.range r.length).map fun i=>r.getD ((i + 1) % r.length) 0)=r.drop 1 ++ r.take 1:=by
 match r with
 | [x]=>show [[x].getD ((0 + 1) % 1) 0]=[x]; rw [Nat.mod_self]; rfl
 | x :: y :: r =>
  apply List.ext_getElem
  ·rw [List.length_map,List.length_range,eD.length_eq]
  ·intro i h1 h2
   rw [List.length_map,List.length_range] at h1
   rw [List.getElem_map,List.getElem_range,← eg h2,eW (Nat.succ_lt_succ (Nat.zero_lt_succ _)) h1,Nat.add_comm 1 i]
theorem sI {div num:Nat}{W:Nat→Nat} (c:List Nat):cY (fun v=>(div:Int) * (W v:Nat) - (num:Int)) c=(div:Int) * cY (fun v=>((W v:Nat):Int)) c - (num:Int) * c.length:=by
 induction c with
 | nil=>show (0:Int)=(div:Int) * 0 - (num:Int) * 0; rw [Int.mul_zero,Int.mul_zero]; rfl
 | cons v c ih=>rw [a7,a7,ih,List.length_cons,Int.mul_add,Int.natCast_succ,Int.mul_add,Int.mul_one]; clear ih; lia
theorem t6 {ws:List Way}{num div m u q k:Nat}{B W:Nat→Nat}{r:List Nat} (hr:r=(backs B u q).reverse.drop k ++ (backs B u q).reverse.take k) (q1:1 ≤ q) (hk:k < q) (hq:iter B q u=u) (hmin:∀ k,1 ≤ k→k < q→iter B k u ≠ u)
  (hway:∀ j,(B (iter B j u),iter B j u,W (iter B j u)) ∈ ws) (hlt:∀ j,iter B j u < m) (hpos:0 < cY (fun v=>(div:Int) * (W v:Nat) - (num:Int)) (backs B u q)) :
  cO ws m r ∧ r.length=q ∧ num * q < div * rtot ws r q:=by
 have hRl:(backs B u q).reverse.length=q:=by rw [List.length_reverse,aY]
 have hl:r.length=q:=by rw [hr,eD.length_eq,hRl]
 have get:∀ i,i < q→r.getD i 0=iter B (q - 1 - (k + i) % q) u:=fun i hi=>by
  rw [hr,eW (by rw [hRl]; exact hk) (by rw [hRl]; exact hi),hRl,ww (Nat.mod_lt _ q1)]
 have back:∀ i,i < q→B (r.getD ((i + 1) % q) 0)=r.getD i 0:=fun i hi=>by
  rw [get _ (Nat.mod_lt _ q1),get i hi]
  show iter B (q - 1 - (k + (i + 1) % q) % q + 1) u=_
  have e1:(k + (i + 1) % q) % q=((k + i) % q + 1) % q:=by rw [Nat.add_mod_mod,Nat.mod_add_mod,Nat.add_assoc]
  rw [e1]
  exact rN hq (Nat.mod_lt _ q1)
 have way:∀ i,i < q→(r.getD i 0,r.getD ((i + 1) % q) 0,W (r.getD ((i + 1) % q) 0)) ∈ ws:=fun i hi=>by
  rw [← back i hi,get _ (Nat.mod_lt _ q1)]
  exact hway _
 have hnd:r.Nodup:=by
  rw [hr]
  exact (eD.trans (List.reverse_perm _)).nodup_iff.mpr (lD hq hmin)
 refine ⟨⟨fun e=>?_,hnd,fun v hv=>?_,fun i hi=>?_⟩,hl,?_⟩
 ·rw [e] at hl; rw [← hl] at q1; exact absurd q1 (by decide)
 ·obtain ⟨i,hi,rfl⟩:=List.getElem_of_mem hv
  rw [← eg hi,get i (hl ▸ hi)]
  exact hlt _
 ·rw [hl] at hi ⊢
  exact (lA (way i hi)).1
 ·-- the sum
  have tot:∀ j,j ≤ q→cY (fun v=>((W v:Nat):Int)) ((List.range j).map fun i=>r.getD ((i + 1) % q) 0) ≤ ((rtot ws r j:Nat):Int):=by
   intro j
   induction j with
   | zero=>intro _; exact Int.le_refl _
   | succ j ih =>
    intro hj
    have h1:=ih (Nat.le_of_lt hj)
    have h2:=(lA (way j hj)).2
    rw [List.range_succ,List.map_append,dQ]
    show _ + (((W (r.getD ((j + 1) % q) 0):Nat):Int) + 0) ≤ ((rtot ws r j + best ws (r.getD j 0) (r.getD ((j + 1) % r.length) 0):Nat):Int)
    rw [hl,Int.add_zero,Int.natCast_add]
    exact Int.add_le_add h1 (Int.ofNat_le.mpr h2)
  have t:=tot q (Nat.le_refl _)
  subst hl
  rw [xh q1,mC] at t
  have e2:cY (fun v=>(div:Int) * (W v:Nat) - (num:Int)) (backs B u r.length)=cY (fun v=>(div:Int) * (W v:Nat) - (num:Int)) r:=by
   have:cY (fun v=>(div:Int) * (W v:Nat) - (num:Int)) r=cY (fun v=>(div:Int) * (W v:Nat) - (num:Int)) ((backs B u r.length).reverse.drop k ++ (backs B u r.length).reverse.take k):=congrArg _ hr
   rw [this,mC,nz]
  rw [e2,sI] at hpos
  have h4:(div:Int) * cY (fun v=>((W v:Nat):Int)) r ≤ (div:Int) * ((rtot ws r r.length:Nat):Int):=Int.mul_le_mul_of_nonneg_left t (Int.natCast_nonneg _)
  have h5:((num * r.length:Nat):Int) < ((div * rtot ws r r.length:Nat):Int):=by rw [Int.natCast_mul,Int.natCast_mul]; exact Int.lt_of_lt_of_le (Int.lt_of_sub_pos hpos) h4
  exact Int.ofNat_lt.mp h5
end Mine
namespace Mine
open PySem
noncomputable def ix:List S :=
 [S.asg 10 (E.bin .Sub (E.bin .Add ((E.loc 3).sub (E.loc 7)) (E.bin .Mult (E.loc 2) (E.loc 9))) (E.loc 1)),
  S.ifS (E.cmp .Lt ((E.loc 3).sub (E.loc 8)) (E.loc 10)) [S.asgI (E.loc 3) (E.loc 8) (E.loc 10),S.asgI (E.loc 4) (E.loc 8) (E.loc 7),S.asg 6 (E.loc 8)] []]
noncomputable def eI:List S:=[S.asg 6 E.none,S.forS [7,8,9] false (It.e ((E.loc 0).attr 1)) ix,S.ifS (E.cmp .Is (E.loc 6) E.none) [S.ret (E.tup [E.none,E.loc 3])] []]
noncomputable def io:Fn:={ ps:=[0,1,2],size:=14,body :=
 [S.ifS ((E.cmp .Lt (E.loc 1) (E.int 0)).or (E.cmp .Lt (E.loc 2) (E.int 1))) [S.raise (xc 5)] [],
  S.asg 3 (E.bin .Mult (E.list [E.int 0]) ((E.loc 0).attr 0)),S.asg 4 (E.bin .Mult (E.list [E.int 0]) ((E.loc 0).attr 0)),
  S.forS [5] true (It.e (E.blt .range [E.bin .Add ((E.loc 0).attr 0) (E.int 1)])) eI,
  S.ret (E.tup [E.call 4 [E.loc 4,E.loc 6,(E.loc 0).attr 0],E.none])] }
noncomputable def intsV (m:Nat) (S:Nat→Int):List V:=(List.range m).map fun v=>V.int (S v)
theorem aP {m:Nat}{S:Nat→Int}:(intsV m S).length=m:=by unfold intsV; rw [List.length_map,List.length_range]
theorem aX {m v:Nat}{S:Nat→Int} (h:v < m):(intsV m S)[v]?=some (V.int (S v)):=by unfold intsV; rw [List.getElem?_map,List.getElem?_range h]; rfl
theorem qp {α:Type}{m e:Nat}{f:Nat→α}{x:α}:((List.range m).map f).set e x=(List.range m).map (upd f e x):=by
 apply List.ext_getElem
 ·rw [List.length_set,List.length_map,List.length_map]
 ·intro i h1 h2
  rw [List.getElem_set,List.getElem_map,List.getElem_map,List.getElem_range]
  unfold upd
  by_cases h:e=i
  ·rw [if_pos h,if_pos h.symm]
  ·rw [if_neg h,if_neg (Ne.symm h)]
theorem pv {m e:Nat}{S:Nat→Int}{x:Int}:(intsV m S).set e (V.int x)=intsV m (upd S e x):=by
 unfold intsV
 rw [qp]
 refine List.map_congr_left fun v _=>?_
 unfold upd; split <;> rfl
theorem qZ {m e x:Nat}{B:Nat→Nat}:(natsV ((List.range m).map B)).set e (V.int x)=natsV ((List.range m).map (upd B e x)):=by
 unfold natsV
 rw [List.map_map,List.map_map,qp]
 refine List.map_congr_left fun v _=>?_
 show upd _ e _ v=V.int ((upd B e x v:Nat):Int)
 unfold upd; split <;> rfl
theorem o7 {σ:Sto}{l k:Nat}{xs:List V}{v:V} (h:σ[l]?=some (.lst xs)) (hk:k < xs.length):dq (.ref l) (.int k) v σ=some (dy σ l (xs.set k v)):=by
 unfold dq; dsimp only; rw [h]; show (if _ then _ else _)=_; rw [if_pos ⟨Int.natCast_nonneg k,Int.ofNat_lt.mpr hk⟩]; rfl
noncomputable def bR (σ:Sto) (m:Nat) (S:Nat→Int) (B:Nat→Nat):Sto:=σ ++ [.lst [.int 0],.lst (intsV m S),.lst [.int 0],.lst (natsV ((List.range m).map B))]
section
variable {σ:Sto}{m:Nat}{S:Nat→Int}{B:Nat→Nat}
theorem kC:(bR σ m S B)[σ.length + 1]?=some (.lst (intsV m S)):=by unfold bR; rw [List.getElem?_append_right (by lia),show σ.length + 1 - σ.length=1 by lia]; rfl
theorem vE:(bR σ m S B)[σ.length + 3]?=some (.lst (natsV ((List.range m).map B))):=by unfold bR; rw [List.getElem?_append_right (by lia),show σ.length + 3 - σ.length=3 by lia]; rfl
theorem uk {e:Nat}{x:Int}:dy (bR σ m S B) (σ.length + 1) ((intsV m S).set e (V.int x))=bR σ m (upd S e x) B:=by
 unfold dy bR
 rw [pv,List.set_append_right _ _ (by lia),show σ.length + 1 - σ.length=1 by lia]; rfl
theorem rn {e x:Nat}:dy (bR σ m S B) (σ.length + 3) ((natsV ((List.range m).map B)).set e (V.int x))=bR σ m S (upd B e x):=by
 unfold dy bR
 rw [qZ,List.set_append_right _ _ (by lia),show σ.length + 3 - σ.length=3 by lia]; rfl
end
noncomputable def oK:Option Nat→V
 | none=>.none
 | some e=>.int e
section
variable {P:Nat→Option Fn}{wf n:Nat} {σ:Sto}{l m num div:Nat}{ws:List Way}
noncomputable def eV (σ:Sto) (l num div:Nat) (x5 x6 x7 x8 x9 x10:Option V):Fra:=[some (.ref l),some (.int num),some (.int div),some (.ref (σ.length + 1)),some (.ref (σ.length + 3)),x5,x6,x7,x8,x9,x10,none,none,none]
theorem pC {call:Nat→List V→Sto→RE}{t i:Nat}{w:Way}{st:St}{x5 x7 x8 x9 x10:Option V} (ht:1 ≤ t) (hd:∀ w ∈ ws,gJ (div:Int) (w.2.2:Int)) (hm:∀ w ∈ ws,w.1 < m ∧ w.2.1 < m) (I:Inv ws num div t i st) (hw:ws[i]?=some w) :
  mV [7,8,9] false (evSs call wf ix) (wayV w) (eV σ l num div x5 (some (oK st.last)) x7 x8 x9 x10) (bR σ m st.S st.B)
   (fun fr σ'=>∃ (st':St) (x7 x8 x9 x10:Option V),Inv ws num div t (i + 1) st' ∧ fr=eV σ l num div x5 (some (oK st'.last)) x7 x8 x9 x10 ∧ σ'=bR σ m st'.S st'.B ∧ ((∀ v,st.B v < m)→∀ v,st'.B v < m)) (fun _ _=>False):=by
 obtain ⟨b,e,d⟩:=w
 have hmem:=List.mem_of_getElem? hw
 obtain ⟨hb,he⟩:b < m ∧ e < m:=hm _ hmem
 have I':=rh ht I hw
 have mul:∀ σ:Sto,mt .Mult (.int div) (.int d) σ=.ok (.int ((div:Int) * d)) σ:=fun σ=>if_pos (hd _ hmem)
 have look:evE call (E.bin .Sub (E.bin .Add ((E.loc 3).sub (E.loc 7)) (E.bin .Mult (E.loc 2) (E.loc 9))) (E.loc 1)) (eV σ l num div x5 (some (oK st.last)) (some (.int b)) (some (.int e)) (some (.int d)) x10) (bR σ m st.S st.B)=.ok (.int (bn num div st.S (b,e,d))) (bR σ m st.S st.B) :=
  ar (ar (aC (ac rfl) (ac rfl) (aN kC (aX hb))) (ar (ac rfl) (ac rfl) (mul _)) rfl) (ac rfl) rfl
 refine ⟨eV σ l num div x5 (some (oK st.last)) (some (.int b)) (some (.int e)) (some (.int d)) x10,rfl,.inl ?_⟩
 unfold wu at I'
 by_cases hlt:st.S e < bn num div st.S (b,e,d)
 ·rw [if_pos hlt] at I'
  refine ⟨_,_,ak look (by decide:10 < 14) (d3 (aM (aC (ac rfl) (ac rfl) (aN kC (aX he))) (ac rfl) (congrArg some (decide_eq_true hlt)))
   (ib (ac rfl) (ac rfl) (ac rfl) (o7 kC (by rw [aP]; exact he)) (ib (ac rfl) (ac rfl) (ac rfl) (by rw [uk]; exact o7 vE (by rw [aU,List.length_map,List.length_range]; exact he)) (ak (ac rfl) (by decide:6 < 14) a6))) a6),_,_,_,_,_,I',rfl,?_,fun hB v=>?_⟩
  ·rw [rn]
  ·show upd st.B e b v < m
   unfold upd; split
   ·exact hb
   ·exact hB v
 ·rw [if_neg hlt] at I'
  exact ⟨_,_,ak look (by decide:10 < 14) (aW (aM (aC (ac rfl) (ac rfl) (aN kC (aX he))) (ac rfl) (congrArg some (decide_eq_false hlt))) a6),_,_,_,_,_,I',rfl,rfl,fun hB=>hB⟩
end
end Mine
namespace Mine
open PySem
theorem m7.turn {tg:List Nat}{one:Bool}{body:Fra→Sto→RS}{v:V}{fr fr1:Fra} {σ:Sto}{I J:Fra→Sto→Prop}{Rt:V→Sto→Prop} (h:bF tg one v fr=some fr1) (d:m7 (body fr1 σ) I Rt) (hIJ:∀ fr σ,I fr σ→J fr σ):mV tg one body v fr σ J Rt :=
 ⟨fr1,h,d.elim (fun ⟨f,s,e,i⟩=>.inl ⟨f,s,e,hIJ _ _ i⟩) fun ⟨w,f,s,e,i⟩=>.inr ⟨w,f,s,e,i⟩⟩
inductive lB (σ:Sto) (m num div:Nat) (ws:List Way):V→Sto→Prop
 | mk (S:Nat→Int) (B:Nat→Nat) (hs:∀ w ∈ ws,dl num div S w):lB σ m num div ws (.tup [.none,.ref (σ.length + 1)]) (bR σ m S B)
inductive pK (σ:Sto) (l m num div:Nat) (ws:List Way) (t:Nat) (x5:Option V):Fra→Sto→Prop
 | mk (st:St) (e:Nat) (x7 x8 x9 x10:Option V) (I:Inv ws num div t ws.length st) (hl:st.last=some e) (hB:∀ v,st.B v < m):pK σ l m num div ws t x5 (eV σ l num div x5 (some (.int e)) x7 x8 x9 x10) (bR σ m st.S st.B)
inductive vq (σ:Sto) (l m num div:Nat) (ws:List Way) (t:Nat) (x5:Option V) (i:Nat):Fra→Sto→Prop
 | mk (st:St) (x7 x8 x9 x10:Option V) (I:Inv ws num div t i st) (hB:∀ v,st.B v < m):vq σ l m num div ws t x5 i (eV σ l num div x5 (some (oK st.last)) x7 x8 x9 x10) (bR σ m st.S st.B)
section
variable {P:Nat→Option Fn}{wf n:Nat} {σ:Sto}{l m num div:Nat}{ws:List Way}
theorem qE {call:Nat→List V→Sto→RE}{t:Nat}{st:St}{x5 x6 x7 x8 x9 x10:Option V} (W:bk σ l m ws) (ht:1 ≤ t) (hd:∀ w ∈ ws,gJ (div:Int) (w.2.2:Int)) (hm:∀ w ∈ ws,w.1 < m ∧ w.2.1 < m) (I:Inv ws num div t 0 { st with last:=none }) (hB:∀ v,st.B v < m) :
  m7 (evSs call wf eI (eV σ l num div x5 x6 x7 x8 x9 x10) (bR σ m st.S st.B)) (pK σ l m num div ws t x5) (lB σ m num div ws):=by
 obtain ⟨dd,lw,a,b,c⟩:=W.at'
 have lp:=nO (call:=call) (wf:=wf) (tg:=[7,8,9]) (one:=false) (ws:=ws) (g:=wayV) (it:=(E.loc 0).attr 1) (bs:=ix) (fr:=eV σ l num div x5 (some .none) x7 x8 x9 x10) (σ:=bR σ m st.S st.B)
  (vq σ l m num div ws t x5) (fun _ _=>False)
  (cm (ac rfl) (cF (ap a) (ap b))) (by rintro i _ _ ⟨st,_,_,_,_,_,_⟩; exact ag (ap c))
  (by
   rintro i w _ _ hw ⟨st,y7,y8,y9,y10,I,hB⟩
   obtain ⟨fr1,h1,h2 | ⟨_,_,_,_,q⟩⟩:=pC (call:=call) (wf:=wf) (σ:=σ) (l:=l) (x5:=x5) (x7:=y7) (x8:=y8) (x9:=y9) (x10:=y10) ht hd hm I hw
   ·obtain ⟨fr2,σ2,h2,st',z7,z8,z9,z10,I',rfl,rfl,hB'⟩:=h2
    exact ⟨fr1,h1,.inl ⟨_,_,h2,st',z7,z8,z9,z10,I',hB' hB⟩⟩
   ·exact q.elim) ⟨{ st with last:=none },x7,x8,x9,x10,I,hB⟩
 obtain ⟨fr1,σ1,e1,st1,y7,y8,y9,y10,I1,hB1⟩:=lp.next
 have e0:∀ r,evSs call wf [S.ifS (E.cmp .Is (E.loc 6) E.none) [S.ret (E.tup [E.none,E.loc 3])] []] (eV σ l num div x5 (some (oK st1.last)) y7 y8 y9 y10) (bR σ m st1.S st1.B)=r→evSs call wf eI (eV σ l num div x5 x6 x7 x8 x9 x10) (bR σ m st.S st.B)=r :=
  fun r h=>ak bU (by decide:6 < 14) (a4 e1 h)
 cases hl:st1.last with
 | none =>
  refine .inr ⟨_,_,_,e0 _ (cM (aM (p:=true) (ac rfl) bU (by rw [hl]; rfl)) (aO (dz (aa bU (aa (ac rfl) ae)) (by decide:2 ≤ 1000)))),⟨_,_,sA I1 hl⟩⟩
 | some e =>
  refine .inl ⟨eV σ l num div x5 (some (.int e)) y7 y8 y9 y10,_,e0 _ (aW (aM (p:=false) (ac rfl) bU (by rw [hl]; rfl)) (by rw [hl]; rfl)),⟨st1,e,y7,y8,y9,y10,I1,hl,hB1⟩⟩
inductive l0 (σ:Sto) (m num div:Nat) (ws:List Way):V→Sto→Prop
 | none (ls:Nat) (S:Nat→Int) (τ:Sto) (h:(σ ++ τ)[ls]?=some (.lst (intsV m S))) (hs:∀ w ∈ ws,dl num div S w) (hf:σ.length ≤ ls):l0 σ m num div ws (.tup [.none,.ref ls]) (σ ++ τ)
 | ring (lr:Nat) (r:List Nat) (τ:Sto) (h:(σ ++ τ)[lr]?=some (.lst (natsV r))) (R:cO ws m r) (hlt:num * r.length < div * rtot ws r r.length) (hmin:∀ x ∈ r,r.getD 0 0 ≤ x) (hf:σ.length ≤ lr):l0 σ m num div ws (.tup [.ref lr,.none]) (σ ++ τ)
inductive xJ (σ:Sto) (l m num div:Nat) (ws:List Way) (i:Nat):Fra→Sto→Prop
 | mk (st:St) (x5 x6 x7 x8 x9 x10:Option V) (I:Inv ws num div (i + 1) 0 { st with last:=none }) (hB:∀ v,st.B v < m) (hI:1 ≤ i→Inv ws num div i ws.length st ∧ ∃ e,st.last=some e ∧ x6=some (.int e)):xJ σ l m num div ws i (eV σ l num div x5 x6 x7 x8 x9 x10) (bR σ m st.S st.B)
theorem kn (h3:P 3=some il) (h4:P 4=some dk) (h5:P 5=some io) (W:bk σ l m ws) (m1:1 ≤ m) (m2:m ≤ 12) (d1:1 ≤ div) (hd:∀ w ∈ ws,gJ (div:Int) (w.2.2:Int)) (hm:∀ w ∈ ws,w.1 < m ∧ w.2.1 < m) (hw:13 ≤ wf) :
  ∃ v σ',evFn P wf (n + 3) 5 [.ref l,.int num,.int div] σ=.ok v σ' ∧ l0 σ m num div ws v σ':=by
 obtain ⟨dd,lw,a,b,c⟩:=W.at'
 have rep:∀ σ':Sto,mt .Mult (.ref σ'.length) (.int m) (σ' ++ [.lst [.int 0]])=.ok (.ref (σ'.length + 1)) (σ' ++ [.lst [.int 0]] ++ [.lst (List.replicate m (.int 0))]):=fun σ'=>by
  show zN (getL (σ' ++ [.lst [.int 0]]) σ'.length) m (σ' ++ [.lst [.int 0]])=_
  rw [ag am]
  show (if (-1000000:Int) ≤ (m:Int) then cy (List.replicate (m:Int).toNat (V.int 0)) (σ' ++ [.lst [.int 0]]) else .bad)=_
  rw [if_pos (by lia),ai (by rw [List.length_replicate]; lia),List.length_append]; rfl
 have z1:List.replicate m (V.int 0)=intsV m (fun _=>0):=by
  unfold intsV
  apply List.ext_getElem
  ·rw [List.length_replicate,List.length_map,List.length_range]
  ·intro i h1 h2; rw [List.getElem_replicate,List.getElem_map]
 have z2:List.replicate m (V.int 0)=natsV ((List.range m).map fun _=>0):=by
  rw [z1]; unfold intsV natsV; rw [List.map_map]; rfl
 have lp:=iI (call:=evFn P wf (n + 2)) (wf:=wf) (tg:=[5]) (one:=true) (ws:=List.range (m + 1)) (g:=fun (v:Nat)=>V.int v) (it:=E.blt .range [E.bin .Add ((E.loc 0).attr 0) (E.int 1)]) (bs:=eI) (fr:=eV σ l num div none none none none none none) (σ:=bR σ m (fun _=>0) (fun _=>0))
  (xJ σ l m num div ws) (lB σ m num div ws)
  (ba (aa (ar (cm (ac rfl) (bO (ap a) (ap b))) aj rfl) ae) (bo (k:=m + 1) (by lia))) (br (m + 1))
  (by
   rintro i v _ _ hv ⟨st,x5,x6,x7,x8,x9,x10,I,hB,_⟩
   refine m7.turn rfl (qE (x5:=some (.int v)) W (Nat.succ_le_succ (Nat.zero_le _)) hd hm I hB) ?_
   rintro _ _ ⟨st',e,y7,y8,y9,y10,I',hl,hB'⟩
   exact ⟨st',_,_,y7,y8,y9,y10,um I',hB',fun _=>⟨I',e,hl,rfl⟩⟩)
  ⟨⟨fun _=>0,fun _=>0,none,fun _=>0,fun _=>0⟩,none,none,none,none,none,none,pI,fun _=>m1,fun h=>absurd h (by decide)⟩
 have e0:∀ r,evSs (evFn P wf (n + 2)) wf [S.forS [5] true (It.e (E.blt .range [E.bin .Add ((E.loc 0).attr 0) (E.int 1)])) eI,S.ret (E.tup [E.call 4 [E.loc 4,E.loc 6,(E.loc 0).attr 0],E.none])] (eV σ l num div none none none none none none) (bR σ m (fun _=>0) (fun _=>0))=r →
   evSs (evFn P wf (n + 2)) wf io.body (aR io [.ref l,.int num,.int div]) σ=r:=fun r h=>by
  refine aW (mu (aM (p:=false) (ac rfl) aj (congrArg some (decide_eq_false (by lia)))) (aM (p:=false) (ac rfl) aj (congrArg some (decide_eq_false (by lia))))) (ak (ar (bf (aa aj ae) (ai (by decide:1 ≤ 16777216))) (cm (ac rfl) (bO (ap a) (ap b))) (rep σ)) (by decide:3 < 14)
   (ak (ar (bf (aa aj ae) (ai (by decide:1 ≤ 16777216))) (cm (ac rfl) (bO (ap (ap (ap a))) (ap (ap (ap b))))) (rep _)) (by decide:4 < 14) ?_))
  have e3:(σ ++ [AO.lst [V.int 0]] ++ [AO.lst (List.replicate m (V.int 0))] ++ [AO.lst [V.int 0]] ++ [AO.lst (List.replicate m (V.int 0))])=bR σ m (fun _=>0) (fun _=>0):=by
   unfold bR; rw [← z1,← z2,List.append_assoc,List.append_assoc,List.append_assoc]; rfl
  rw [e3]
  have e4:(σ ++ [AO.lst [V.int 0]] ++ [AO.lst (List.replicate m (V.int 0))]).length + 1=σ.length + 3:=by rw [List.length_append,List.length_append]; rfl
  rw [e4]
  exact h
 refine cps fun G0 k0=>?_
 rcases lp with ⟨fr,σ1,e1,st,x5,x6,x7,x8,x9,x10,_,hB,hI⟩ | ⟨v,fr,σ1,e1,S,B,hs⟩
 ·rw [List.length_range] at hI
  obtain ⟨I,e,hl,rfl⟩:=hI (Nat.succ_le_succ (Nat.zero_le _))
  obtain ⟨q,q1,q2,q3,q4,q5⟩:=l6 (fun w hw=>(hm w hw).2) I hl
  have hway:∀ k,(st.B (iter st.B k e),iter st.B k e,st.W (iter st.B k e)) ∈ ws:=fun k=>(I.A _ (q5 k)).1
  have hlt:∀ k,iter st.B k e < m:=fun k=>(hm _ (hway k)).2
  obtain ⟨k,τ,lr,k1,kf,k2,k3,k4⟩:=iz (wf:=wf) (n:=n) (σ:=bR σ m st.S st.B) h3 h4 vE hlt m2 q1 q2 q3 q4 hw
  obtain ⟨R,R1,R2⟩:=t6 (ws:=ws) (num:=num) (div:=div) (m:=m) (W:=st.W) rfl q1 k1 q3 q4 (fun j=>by rw [← bD]; exact hway _) (fun j=>by rw [← bD]; exact hlt _) (I.D _ (fun v hv=>by
   obtain ⟨j,_,rfl⟩:=List.mem_map.mp hv
   rw [← bD]; exact q5 _) (rf q1 q3))
  refine k0 ⟨_,_,bp h5 rfl (e0 _ (a4 e1 (aO (dz (aa (aF (aa (ac rfl) (aa (ac rfl) (aa (cm (ac rfl) (bO (ap a) (ap b))) ae))) k2) (aa bU ae)) (by decide:2 ≤ 1000))))),?_⟩
  have ea:bR σ m st.S st.B ++ τ=σ ++ ([.lst [.int 0],.lst (intsV m st.S),.lst [.int 0],.lst (natsV ((List.range m).map st.B))] ++ τ):=by unfold bR; rw [List.append_assoc]
  rw [ea] at k3 ⊢
  refine .ring lr _ _ k3 R (by rw [R1]; exact R2) (fun x hx=>?_) (Nat.le_trans (List.Sublist.length_le (List.sublist_append_left _ _)) kf)
  have hq:(backs st.B (iter st.B m e) q).reverse.length=q:=by rw [List.length_reverse,aY]
  rw [eW (by rw [hq]; exact k1) (by rw [hq]; exact q1),Nat.add_zero,Nat.mod_eq_of_lt (by rw [hq]; exact k1)]
  refine k4 x ?_
  rcases List.mem_append.mp hx with h | h
  ·exact List.mem_of_mem_drop h
  ·exact List.mem_of_mem_take h
 ·exact k0 ⟨_,_,bp h5 rfl (e0 _ (eU e1)),.none _ S _ kC hs (Nat.le_add_right _ _)⟩
end
end Mine
namespace Mine
open PySem
theorem gu {ws:List Way}{m:Nat}{r:List Nat} (R:cO ws m r):r.length ≤ m:=dn m r R.nd R.lt
theorem dh {ws:List Way}{m:Nat}{r:List Nat} (R:cO ws m r):1 ≤ r.length:=Nat.pos_of_ne_zero fun e=>R.ne (List.length_eq_zero_iff.mp e)
theorem tj {ws:List Way}{m:Nat}{r:List Nat} (R:cO ws m r) {k:Nat} (hk:k < r.length):cO ws m (r.drop k ++ r.take k):=by
 have hl:(r.drop k ++ r.take k).length=r.length:=eD.length_eq
 have p:(r.drop k ++ r.take k).Perm r:=List.perm_append_comm.trans (by rw [List.take_append_drop])
 refine ⟨fun q=>?_,p.nodup_iff.mpr R.nd,fun v hv=>R.lt v (p.mem_iff.mp hv),fun i hi=>?_⟩
 ·rw [q] at hl; have:r.length=0:=hl.symm
  lia
 ·rw [hl] at hi ⊢
  rw [eW hk hi,eW hk (Nat.mod_lt _ (by lia)),Nat.add_mod_mod,← Nat.add_assoc,← Nat.mod_add_mod (k + i)]
  exact R.way _ (Nat.mod_lt _ (by lia))
noncomputable def kW (ws:List Way) (a:Nat):List Nat:=(ws.filter fun w=>w.1 == a).map (·.2.1)
noncomputable def nx (ws:List Way) (a:Nat):Nat:=(kW ws a).headD 0
def uR (ws:List Way) (m:Nat):Prop:=∀ a,a < m→∃ w ∈ ws,w.1=a
section
variable {ws:List Way}{m:Nat}
theorem lg (hO:uR ws m) {a:Nat} (h:a < m):(kW ws a)[0]?=some (nx ws a) ∧ ∃ d,(a,nx ws a,d) ∈ ws:=by
 obtain ⟨w,hw,rfl⟩:=hO a h
 unfold nx
 cases q:kW ws w.1 with
 | nil =>
  have:w.2.1 ∈ kW ws w.1:=List.mem_map.mpr ⟨w,List.mem_filter.mpr ⟨hw,by simp⟩,rfl⟩
  rw [q] at this; cases this
 | cons x l =>
  refine ⟨rfl,?_⟩
  have:x ∈ kW ws w.1:=by rw [q]; exact .head _
  obtain ⟨u,hu,rfl⟩:=List.mem_map.mp this
  obtain ⟨hu,he⟩:=List.mem_filter.mp hu
  have he:u.1=w.1:=by simpa using he
  exact ⟨u.2.2,by rw [← he]; exact hu⟩
theorem Bf (hO:uR ws m) (hm:∀ w ∈ ws,w.1 < m ∧ w.2.1 < m) {a:Nat} (h:a < m):nx ws a < m:=let ⟨_,d,hd⟩:=lg hO h; (hm _ hd).2
theorem jm (hO:uR ws m) (hm:∀ w ∈ ws,w.1 < m ∧ w.2.1 < m) {a:Nat} (h:a < m):∀ k,iter (nx ws) k a < m
 | 0=>h
 | k + 1=>Bf hO hm (jm hO hm h k)
theorem nH {B:Nat→Nat}{u q i:Nat} (h:i < q):(backs B u q).getD i 0=iter B i u:=by rw [List.getD_eq_getElem?_getD,eK h]; rfl
theorem tJ (hO:uR ws m) (hm:∀ w ∈ ws,w.1 < m ∧ w.2.1 < m) {u q:Nat} (hu:u < m) (q1:1 ≤ q) (hq:iter (nx ws) q u=u) (nd:(backs (nx ws) u q).Nodup):cO ws m (backs (nx ws) u q):=by
 refine ⟨fun e=>?_,nd,fun v hv=>?_,fun i hi=>?_⟩
 ·have:=congrArg List.length e
  rw [aY] at this
  simp at this; lia
 ·obtain ⟨j,_,rfl⟩:=List.mem_map.mp hv
  exact jm hO hm hu j
 ·rw [aY] at hi ⊢
  have e:(backs (nx ws) u q).getD ((i + 1) % q) 0=nx ws (iter (nx ws) i u):=by
   rw [nH (Nat.mod_lt _ q1)]
   by_cases h:i + 1=q
   ·rw [h,Nat.mod_self]
    show u=iter (nx ws) (i + 1) u
    rw [h,hq]
   ·rw [Nat.mod_eq_of_lt (by lia)]; rfl
  rw [e,nH hi]
  obtain ⟨_,d,hd⟩:=lg hO (jm hO hm hu i)
  exact (lA hd).1
end
noncomputable def qJ:List S :=
 [S.asg 2 ((E.comp [1] true ((E.loc 0).attr 1) [E.cmp .Eq ((E.loc 1).sub (E.int 0)) ((E.loc 2).sub (E.int 1).neg)] ((E.loc 1).sub (E.int 1)) [none,none,some 1]).sub (E.int 0)),
  S.ifS (E.cmp .In (E.loc 2) (E.loc 1)) [S.ret (E.call 3 [(E.loc 1).slo ((E.loc 1).meth .index [E.loc 2])])] [],
  S.expr ((E.loc 1).meth .append [E.loc 2])]
noncomputable def jt:Fn:={ ps:=[0],size:=4,body:=[S.asg 1 (E.list [E.int 0]),S.whileS (E.bool true) qJ] }
theorem qX {x:Nat}{r:List Nat}:((x:Int) ∈ r.map fun (d:Nat)=>(d:Int)) ↔ x ∈ r:=by
 rw [List.mem_map]
 exact ⟨fun ⟨y,hy,e⟩=>by rwa [← Int.ofNat.inj e],fun h=>⟨x,h,rfl⟩⟩
theorem vp {σ:Sto}{l x:Nat}{r:List Nat} (h:σ[l]?=some (.lst (natsV r))):iE .In (.int x) (.ref l) σ=some (decide (x ∈ r)):=by
 show inV σ (.int x) (.ref l)=_
 unfold inV; dsimp only; rw [h]; show (aE _).map _=_
 have:aE (natsV r)=some (r.map fun (d:Nat)=>(d:Int)):=cC r
 rw [this]
 show some (decide ((x:Int) ∈ _))=_
 exact congrArg some (decide_eq_decide.mpr qX)
theorem AC {σ:Sto}{l x:Nat}{r:List Nat} (hx:x ∈ r) (hl:r.length ≤ 1000) (hlt:∀ v ∈ r,v < 1000):∃ k,r[k]?=some x ∧ dP .index l (natsV r) [.int x] σ=.ok (.int (k:Nat)) σ:=by
 have hx':(x:Int) ∈ r.map fun (d:Nat)=>(d:Int):=qX.mpr hx
 have hk:(r.map fun (d:Nat)=>(d:Int)).idxOf (x:Int) < (r.map fun (d:Nat)=>(d:Int)).length:=List.idxOf_lt_length_of_mem hx'
 refine ⟨(r.map fun (d:Nat)=>(d:Int)).idxOf (x:Int),?_,?_⟩
 ·have e1:(r.map fun (d:Nat)=>(d:Int))[(r.map fun (d:Nat)=>(d:Int)).idxOf (x:Int)]=(x:Int):=List.getElem_idxOf _
  rw [List.getElem_map] at e1
  rw [List.getElem?_eq_getElem (by rwa [List.length_map] at hk)]
  exact congrArg some (Int.ofNat.inj e1)
 ·show (match aE (natsV r) with | some is=>if ug (x:Int) is then RE.ok (.int (is.idxOf (x:Int))) σ else .bad | none=>.bad)=_
  have:aE (natsV r)=some (r.map fun (d:Nat)=>(d:Int)):=cC r
  rw [this]
  exact if_pos ⟨hx',by rw [List.length_map]; exact hl,fun j hj=>by
   obtain ⟨y,hy,rfl⟩:=List.mem_map.mp hj
   have:=hlt y hy
   lia⟩
section
variable {P:Nat→Option Fn}{wf n:Nat} {σ:Sto}{l m:Nat}{ws:List Way}
def ky (σ:Sto) (ws:List Way) (m:Nat) (v:V) (σ':Sto):Prop:=∃ lr r τ,v=.ref lr ∧ σ'=σ ++ τ ∧ (σ ++ τ)[lr]?=some (.lst (natsV r)) ∧ cO ws m r ∧ (∀ x ∈ r,r.getD 0 0 ≤ x) ∧ σ.length ≤ lr
theorem iN {B:Nat→Nat}{i k:Nat} (hi:i < k):(backs B 0 k).drop i=backs B (iter B i 0) (k - i):=by
 apply List.ext_getElem?
 intro j
 rw [List.getElem?_drop]
 by_cases hj:j < k - i
 ·rw [eK (Nat.add_lt_of_lt_sub' hj),eK hj,bD]
 ·rw [List.getElem?_eq_none_iff.mpr (by rw [aY]; lia),List.getElem?_eq_none_iff.mpr (by rw [aY]; exact Nat.le_of_not_lt hj)]
theorem sr {ws:List Way}{m i k:Nat} (hO:uR ws m) (hm:∀ w ∈ ws,w.1 < m ∧ w.2.1 < m) (lt:∀ k,iter (nx ws) k 0 < m) (hi:i < k + 1) (hii:iter (nx ws) i 0=iter (nx ws) (k + 1) 0) (hne:∀ i j,i < j→j ≤ k→iter (nx ws) i 0 ≠ iter (nx ws) j 0):cO ws m ((backs (nx ws) 0 (k + 1)).drop i):=by
 rw [iN hi]
 refine tJ hO hm (lt i) (Nat.sub_pos_of_lt hi) (by rw [← bD,Nat.add_sub_cancel' (Nat.le_of_lt hi)]; exact hii.symm) ?_
 rw [← iN hi]
 refine List.Sublist.nodup (List.drop_sublist _ _) ?_
 unfold backs
 rw [List.Nodup,List.pairwise_iff_getElem]
 intro p q hp hq hpq e
 rw [List.length_map,List.length_range] at hq
 rw [List.getElem_map,List.getElem_map,List.getElem_range,List.getElem_range] at e
 exact hne p q hpq (Nat.le_of_lt_succ hq) e
theorem sV (h3:P 3=some il) (W:bk σ l m ws) (hz:ws.length ≤ 60) (m1:1 ≤ m) (m2:m ≤ 12) (hO:uR ws m) (hm:∀ w ∈ ws,w.1 < m ∧ w.2.1 < m):∀ (d k f:Nat) (τ:Sto) (x2:Option V),k + d=m→d < f→(∀ i j,i < j→j ≤ k→iter (nx ws) i 0 ≠ iter (nx ws) j 0) →
  ∃ v fr σ',ck (evE (evFn P wf (n + 1)) (.bool true)) (evSs (evFn P wf (n + 1)) wf qJ) f [some (.ref l),some (.ref σ.length),x2,none] (σ ++ .lst (natsV (backs (nx ws) 0 (k + 1))) :: τ)=.ok (.ret v) fr σ' ∧ ky σ ws m v σ':=by
 obtain ⟨dd,lw,a,b,c⟩:=W.at'
 have lt:∀ k,iter (nx ws) k 0 < m:=jm hO hm m1
 intro d
 induction d with
 | zero =>
  intro k f τ x2 hk hf hne
  obtain ⟨i,j,hij,hj,e⟩:=vn (m:=m) (f:=fun j=>iter (nx ws) j 0) fun j _=>lt j
  exact absurd e (hne i j hij (by rw [← hk] at hj; exact hj))
 | succ d ih =>
  intro k f τ x2 hk hf hne
  obtain ⟨f,rfl⟩:=Nat.exists_eq_succ_of_ne_zero (Nat.ne_zero_of_lt hf)
  have hk':=lt k
  have hk12:k + 1 ≤ 12:=Nat.le_trans (by rw [← hk]; exact Nat.add_le_add_left (Nat.succ_pos d) k) m2
  have look:evE (evFn P wf (n + 1)) ((E.comp [1] true ((E.loc 0).attr 1) [E.cmp .Eq ((E.loc 1).sub (E.int 0)) ((E.loc 2).sub (E.int 1).neg)] ((E.loc 1).sub (E.int 1)) [none,none,some 1]).sub (E.int 0))
    [some (.ref l),some (.ref σ.length),x2,none] (σ ++ .lst (natsV (backs (nx ws) 0 (k + 1))) :: τ)=.ok (.int (iter (nx ws) (k + 1) 0:Nat)) (σ ++ .lst (natsV (backs (nx ws) 0 (k + 1))) :: (τ ++ [.lst (natsV (kW ws (iter (nx ws) k 0)))])):=by
   have e1:natsV (kW ws (iter (nx ws) k 0))=(ws.filter fun w=>w.1 == iter (nx ws) k 0).map fun w=>V.int w.2.1:=by unfold natsV kW; rw [List.map_map]; rfl
   have e2:σ ++ .lst (natsV (backs (nx ws) 0 (k + 1))) :: (τ ++ [.lst (natsV (kW ws (iter (nx ws) k 0)))])=(σ ++ .lst (natsV (backs (nx ws) 0 (k + 1))) :: τ) ++ [.lst (natsV (kW ws (iter (nx ws) k 0)))]:=by rw [List.append_assoc,List.cons_append]
   rw [e2,e1]
   refine aC (fK (ws:=ws) (g:=wayV) (p:=fun w=>w.1 == iter (nx ws) k 0) (f:=fun w=>V.int w.2.1) (cm (ac rfl) (cF (ap a) (ap b))) (ag (ap c)) (fun w hw=>⟨_,rfl,oh (aM (aC (ac rfl) aj rfl) (aC (ac rfl) (nX aj) (fE am iL)) (congrArg some (dm _ _))),fun _=>aC (ac rfl) aj rfl⟩) (ai ?_)) aj ?_
   ·rw [List.length_map]; exact Nat.le_trans (List.length_filter_le _ _) (Nat.le_trans hz (by decide))
   ·rw [← e1]
    refine aN (k:=0) am ?_
    unfold natsV
    rw [List.getElem?_map,(lg hO hk').1]; rfl
  by_cases hin:iter (nx ws) (k + 1) 0 ∈ backs (nx ws) 0 (k + 1)
  ·obtain ⟨i,hi,hx⟩:=AC (σ:=σ ++ .lst (natsV (backs (nx ws) 0 (k + 1))) :: (τ ++ [.lst (natsV (kW ws (iter (nx ws) k 0)))])) (l:=σ.length) hin (by rw [aY]; exact Nat.le_trans hk12 (by decide)) (fun v hv=>by
    obtain ⟨j,_,rfl⟩:=List.mem_map.mp hv
    exact Nat.lt_of_lt_of_le (lt j) (Nat.le_trans m2 (by decide)))
   have hi':i < k + 1:=by have:=(List.getElem?_eq_some_iff.mp hi).1; rwa [aY] at this
   have hii:iter (nx ws) i 0=iter (nx ws) (k + 1) 0:=by rw [eK hi'] at hi; exact Option.some.inj hi
   have R:=sr hO hm lt hi' hii hne
   obtain ⟨q,q1,q2,q3⟩:=kO (wf:=wf) (n:=n) (σ:=σ ++ .lst (natsV (backs (nx ws) 0 (k + 1))) :: (τ ++ [.lst (natsV (kW ws (iter (nx ws) k 0)))]) ++ [.lst (natsV ((backs (nx ws) 0 (k + 1)).drop i))]) h3 am R.ne (fun v hv=>Nat.lt_of_lt_of_le (R.lt v hv) m2) (Nat.le_trans (gu R) m2)
   have ex:(natsV (backs (nx ws) 0 (k + 1))).drop i=natsV ((backs (nx ws) 0 (k + 1)).drop i):=by unfold natsV; rw [List.map_drop]
   generalize (backs (nx ws) 0 (k + 1)).drop i=r at *
   rw [← ex] at q3
   refine ⟨_,_,_,u7 gE (ak look (by decide:2 < 4) (cM (aM (p:=true) (ac rfl) (ac rfl) ((vp am).trans (congrArg some (decide_eq_true hin)))) (aO (aF (aa (yw (ac rfl) (cN (ac rfl) (ag am) (aa (ac rfl) ae) (ag am) hx) (ag am) (ai ?_)) ae) q3)))),?_⟩
   ·exact Nat.le_trans (List.Sublist.length_le (List.drop_sublist _ _)) (by rw [aU,aY]; exact Nat.le_trans hk12 (by decide))
   ·rw [ex]
    refine ⟨_,r.drop q ++ r.take q,.lst (natsV (backs (nx ws) 0 (k + 1))) :: (τ ++ [.lst (natsV (kW ws (iter (nx ws) k 0)))]) ++ [.lst (natsV r)] ++ [.lst (natsV (r.drop q)),.lst (natsV (r.take q)),.lst (natsV (r.drop q ++ r.take q))],rfl,?_,?_,tj R q1,fun x hx=>?_,?_⟩
    ·rw [List.append_assoc,List.append_assoc,List.append_assoc]
    ·rw [← List.append_assoc,← List.append_assoc,List.getElem?_append_right (Nat.le_add_right _ 2),Nat.add_sub_cancel_left]; rfl
    ·rw [eW q1 (dh R),Nat.add_zero,Nat.mod_eq_of_lt q1]
     refine q2 x ?_
     rcases List.mem_append.mp hx with h | h
     ·exact List.mem_of_mem_drop h
     ·exact List.mem_of_mem_take h
    ·exact Nat.le_trans (List.Sublist.length_le ((List.sublist_append_left _ _).trans (List.sublist_append_left _ _))) (Nat.le_add_right _ _)
  ·have nin:∀ i,i ≤ k→iter (nx ws) i 0 ≠ iter (nx ws) (k + 1) 0:=fun i hi e=>hin (List.mem_map.mpr ⟨i,List.mem_range.mpr (Nat.lt_succ_of_le hi),e⟩)
   obtain ⟨v,fr,σ',h1,h2⟩:=ih (k + 1) f (τ ++ [.lst (natsV (kW ws (iter (nx ws) k 0)))]) (some (.int (iter (nx ws) (k + 1) 0:Nat))) (by rw [Nat.add_right_comm]; exact hk) (Nat.lt_of_succ_lt_succ hf) (fun i j hij hj=>by
    by_cases h:j=k + 1
    ·subst h; exact nin i (Nat.le_of_lt_succ hij)
    ·exact hne i j hij (Nat.le_of_lt_succ (Nat.lt_of_le_of_ne hj h)))
   refine ⟨v,fr,σ',gO gE (ak look (by decide:2 < 4) (aW (aM (p:=false) (ac rfl) (ac rfl) ((vp am).trans (congrArg some (decide_eq_false hin)))) (bu (cN (ac rfl) (ag am) (aa (ac rfl) ae) (ag am) (l4 ?_)) a6))) ?_,h2⟩
   ·rw [aU,aY]; exact Nat.lt_of_le_of_lt hk12 (by decide)
   ·have e1:dy (σ ++ .lst (natsV (backs (nx ws) 0 (k + 1))) :: (τ ++ [.lst (natsV (kW ws (iter (nx ws) k 0)))])) σ.length (natsV (backs (nx ws) 0 (k + 1)) ++ [V.int (iter (nx ws) (k + 1) 0:Nat)])=σ ++ .lst (natsV (backs (nx ws) 0 (k + 1 + 1))) :: (τ ++ [.lst (natsV (kW ws (iter (nx ws) k 0)))]):=by
     unfold dy
     rw [dB,fi (q:=k + 1)]
     unfold natsV
     rw [List.map_append]; rfl
    rw [e1]
    exact h1
theorem lL (h3:P 3=some il) (h6:P 6=some jt) (W:bk σ l m ws) (hz:ws.length ≤ 60) (m1:1 ≤ m) (m2:m ≤ 12) (hO:uR ws m) (hm:∀ w ∈ ws,w.1 < m ∧ w.2.1 < m) (hw:13 ≤ wf) :
  ∃ v σ',evFn P wf (n + 2) 6 [.ref l] σ=.ok v σ' ∧ ky σ ws m v σ':=by
 obtain ⟨v,fr,σ',h1,h2⟩:=sV (P:=P) (wf:=wf) (n:=n) h3 W hz m1 m2 hO hm m 0 wf [] none (by lia) (by lia) (fun i j hij hj=>by lia)
 exact ⟨v,σ',bp h6 rfl (ak (bf (aa aj ae) (ai (by decide:1 ≤ 16777216))) (by decide:1 < 4) (eU (dO h1))),h2⟩
end
end Mine
namespace Mine
inductive iU (ws:List Way) (a:Nat):Nat→Nat→Nat→Prop
 | nil:iU ws a a 0 0
 | step {b c d n t:Nat} (h:iU ws a b n t) (hw:(b,c,d) ∈ ws):iU ws a c (n + 1) (t + d)
theorem uz {ws:List Way}{a b:Nat} (h:bj ws a b ≠ []):(a,b,best ws a b) ∈ ws:=by
 have key:∀ (l:List Nat) (x:Nat),l.foldl max x=x ∨ l.foldl max x ∈ l:=by
  intro l
  induction l with
  | nil=>intro x; exact .inl rfl
  | cons y l ih =>
   intro x
   rw [List.foldl_cons]
   rcases ih (max x y) with e | e
   ·rw [e]
    by_cases hxy:x ≤ y
    ·rw [Nat.max_eq_right hxy]; exact .inr (.head _)
    ·rw [Nat.max_eq_left (by lia)]; exact .inl rfl
   ·exact .inr (.tail _ e)
 have hm:best ws a b ∈ bj ws a b:=by
  unfold best
  cases q:bj ws a b with
  | nil=>exact absurd q h
  | cons x l =>
   rw [List.foldl_cons,Nat.zero_max]
   rcases key l x with e | e
   ·rw [e]; exact .head _
   ·exact .tail _ e
 obtain ⟨w,hw,e⟩:=List.mem_map.mp hm
 obtain ⟨h1,h2⟩:=List.mem_filter.mp hw
 obtain ⟨wa,wb,wd⟩:=w
 have h2:wa=a ∧ wb=b:=by simpa using h2
 rw [← e,← h2.1,← h2.2]; exact h1
section
variable {ws:List Way}{m:Nat}
theorem rF {r:List Nat}{M:Nat} (hd:∀ w ∈ ws,w.2.2 ≤ M) (R:cO ws m r):∀ k,k ≤ r.length→rtot ws r k ≤ M * k
 | 0,_=>Nat.zero_le _
 | k + 1,h=>by
  have h1:=rF hd R k (by lia)
  have h2:best ws (r.getD k 0) (r.getD ((k + 1) % r.length) 0) ≤ M:=hd _ (uz (R.way k (by lia)))
  rw [Nat.mul_succ]
  exact Nat.add_le_add h1 h2
theorem yh {t n g:Nat} (hg:g=Nat.gcd t n) (hn:1 ≤ n):t / g * n=n / g * t ∧ 1 ≤ n / g ∧ Nat.gcd (t / g) (n / g)=1 ∧ t=g * (t / g) ∧ n=g * (n / g):=by
 subst hg
 have gp:0 < Nat.gcd t n:=Nat.gcd_pos_of_pos_right _ hn
 have d1:t=Nat.gcd t n * (t / Nat.gcd t n):=(Nat.mul_div_cancel' (Nat.gcd_dvd_left _ _)).symm
 have d2:n=Nat.gcd t n * (n / Nat.gcd t n):=(Nat.mul_div_cancel' (Nat.gcd_dvd_right _ _)).symm
 refine ⟨?_,?_,Nat.Coprime.gcd_eq_one (Nat.coprime_div_gcd_div_gcd gp),d1,d2⟩
 ·generalize Nat.gcd t n=g at *
  generalize t / g=x at *
  generalize n / g=y at *
  rw [d1,d2,← Nat.mul_assoc,← Nat.mul_assoc,Nat.mul_comm x g,Nat.mul_comm y g,Nat.mul_right_comm]
 ·exact Nat.div_pos (Nat.gcd_le_right _ hn) gp
theorem AI {t n t' n' a a' N D:Nat} (hg:N * n=D * t) (hD:1 ≤ D) (hn:1 ≤ n) (h:N * n' < D * t') (e:n * a=n' * a') (ha:1 ≤ n * a):t * a < t' * a':=by
 -- t/n < t'/n'
 have h1:t * n' < t' * n:=by
  apply Decidable.byContradiction
  intro hn1
  have h2:t' * n ≤ t * n':=by lia
  have h3:D * (t' * n) ≤ D * (t * n'):=Nat.mul_le_mul_left _ h2
  have h4:D * (t * n')=N * n' * n:=by rw [← Nat.mul_assoc,← hg,Nat.mul_right_comm]
  have h5:N * n' * n < D * t' * n:=Nat.mul_lt_mul_of_pos_right h hn
  rw [h4,← Nat.mul_assoc] at h3
  lia
 have a1:1 ≤ a':=Nat.pos_of_ne_zero fun q=>by rw [q,Nat.mul_zero] at e; lia
 have a0:1 ≤ a:=Nat.pos_of_ne_zero fun q=>by rw [q,Nat.mul_zero] at ha; lia
 have h6:t * n' * (a * a') < t' * n * (a * a'):=Nat.mul_lt_mul_of_pos_right h1 (Nat.mul_pos a0 a1)
 have e1:t * n' * (a * a')=t * a * (n * a):=by rw [e,Nat.mul_comm a a',Nat.mul_assoc,Nat.mul_assoc,← Nat.mul_assoc n',Nat.mul_comm _ a]
 have e2:t' * n * (a * a')=t' * a' * (n * a):=by rw [Nat.mul_assoc,Nat.mul_assoc,← Nat.mul_assoc n,Nat.mul_comm _ a']
 rw [e1,e2] at h6
 exact Nat.lt_of_mul_lt_mul_right h6
end
end Mine
namespace Mine
open PySem
noncomputable def nu:List S :=
 [S.asgT [2,3] (E.call 2 [E.loc 0,E.loc 1]),S.asg 4 (E.call 5 [E.loc 0,E.loc 2,E.loc 3]),
  S.ifS (E.cmp .Is ((E.loc 4).sub (E.int 0)) E.none) [S.ret (E.tup [E.loc 2,E.loc 3,E.loc 1,(E.loc 4).sub (E.int 1)])] [],
  S.asg 1 ((E.loc 4).sub (E.int 0))]
noncomputable def xE:Fn:={ ps:=[0],size:=8,body:=[S.asg 1 (E.call 6 [E.loc 0]),S.whileS (E.bool true) nu] }
structure w1 (m:Nat) (ws:List Way):Prop where
 m1:1 ≤ m
 m2:m ≤ 12
 hz:ws.length ≤ 60
 hm:∀ w ∈ ws,w.1 < m ∧ w.2.1 < m
 hd:∀ w ∈ ws,w.2.2 ≤ 9999
 hO:uR ws m
structure qv (P:Nat→Option Fn):Prop extends Defs1 P where
 h3:P 3=some il
 h4:P 4=some dk
 h5:P 5=some io
 h6:P 6=some jt
 h7:P 7=some xE
structure wH (σ:Sto) (m:Nat) (ws:List Way) (N D lr:Nat) (r:List Nat) (ls:Nat) (S:Nat→Int) (τ:Sto):Prop where
 ring:(σ ++ τ)[lr]?=some (.lst (natsV r))
 start:(σ ++ τ)[ls]?=some (.lst (intsV m S))
 ok:cO ws m r
 min:∀ x ∈ r,r.getD 0 0 ≤ x
 hN:N=rtot ws r r.length / Nat.gcd (rtot ws r r.length) r.length
 hD:D=r.length / Nat.gcd (rtot ws r r.length) r.length
 set:∀ w ∈ ws,dl N D S w
 fresh:σ.length ≤ lr ∧ σ.length ≤ ls
theorem sX:∀ n:Nat,1 ≤ n→n ≤ 12→n * (27720 / n)=27720:=by
 intro n h1 h2
 have:∀ n:Fin 13,1 ≤ n.1→n.1 * (27720 / n.1)=27720:=by decide
 exact this ⟨n,by lia⟩ h1
section
variable {P:Nat→Option Fn}{wf n:Nat} {σ:Sto}{l m:Nat}{ws:List Way}
noncomputable def far (ws:List Way) (r:List Nat):Nat:=rtot ws r r.length * (27720 / r.length)
theorem ym (hd:∀ w ∈ ws,w.2.2 ≤ 9999) (m2:m ≤ 12) {r:List Nat} (R:cO ws m r):far ws r ≤ 9999 * 27720:=by
 have h:=Nat.mul_le_mul_right (27720 / r.length) (rF hd R _ (Nat.le_refl _))
 rw [Nat.mul_assoc,sX _ (dh R) (Nat.le_trans (gu R) m2)] at h
 exact h
inductive k9 (σ:Sto) (m:Nat) (ws:List Way):V→Sto→Prop
 | mk (N D lr:Nat) (r:List Nat) (ls:Nat) (S:Nat→Int) (τ:Sto) (R:wH σ m ws N D lr r ls S τ):k9 σ m ws (.tup [.int N,.int D,.ref lr,.ref ls]) (σ ++ τ)
theorem pj (H:qv P) (W:bk σ l m ws) (O:w1 m ws) (hw:13 ≤ wf):∀ (d f lr:Nat) (r:List Nat) (τ:Sto) (x2 x3 x4:Option V),9999 * 27720 ≤ far ws r + d→d < f→(σ ++ τ)[lr]?=some (.lst (natsV r))→cO ws m r→(∀ x ∈ r,r.getD 0 0 ≤ x)→σ.length ≤ lr →
  ∃ v fr σ',ck (evE (evFn P wf (n + 4)) (.bool true)) (evSs (evFn P wf (n + 4)) wf nu) f [some (.ref l),some (.ref lr),x2,x3,x4,none,none,none] (σ ++ τ)=.ok (.ret v) fr σ' ∧ k9 σ m ws v σ':=by
 intro d
 induction d using Nat.strongRecOn with
 | _ d ih =>
  intro f lr r τ x2 x3 x4 hd hf hr R hmin hfr
  obtain ⟨f,rfl⟩:∃ g,f=g + 1:=⟨f - 1,by lia⟩
  have hrl:=Nat.le_trans (gu R) O.m2
  obtain ⟨τ1,e1⟩:=we (wf:=wf) (n:=n) H.toDefs1 (W.app (τ:=τ)) O.hz hr R O.m2 hrl hw
  obtain ⟨g1,g2,g3,g4,g5⟩:=yh (t:=rtot ws r r.length) rfl (dh R)
  generalize hN:rtot ws r r.length / Nat.gcd (rtot ws r r.length) r.length=N at e1 g1 g3 g4
  generalize hD:r.length / Nat.gcd (rtot ws r r.length) r.length=D at e1 g1 g2 g3 g5
  have hDl:D < 2 ^ 64:=by
   have:D ≤ r.length:=by rw [← hD]; exact Nat.div_le_self _ _
   exact Nat.lt_of_le_of_lt (Nat.le_trans this hrl) (by decide)
  obtain ⟨v,σ2,e2,res⟩:=kn (wf:=wf) (n:=n + 1) (num:=N) (div:=D) H.h3 H.h4 H.h5 (W.app (τ:=τ).app (τ:=τ1)) O.m1 O.m2 g2 (fun _ _=>.inl hDl) O.hm hw
  cases res with
  | none ls S τ2 hls hs hfs =>
   have ea:σ ++ τ ++ τ1 ++ τ2=σ ++ (τ ++ τ1 ++ τ2):=by rw [List.append_assoc,List.append_assoc,List.append_assoc]
   have hr2:=ap (τ:=τ2) (ap (τ:=τ1) hr)
   rw [ea] at hls e2 hr2
   refine ⟨_,_,_,u7 gE (pZ (aF (aa (ac rfl) (aa (ac rfl) ae)) e1) rfl (ak (aF (aa (ac rfl) (aa (ac rfl) (aa (ac rfl) ae))) e2) (by decide:4 < 8) (cM (aM (aC (ac rfl) aj rfl) bU rfl) (aO (dz (aa (ac rfl) (aa (ac rfl) (aa (ac rfl) (aa (aC (ac rfl) aj rfl) ae)))) (by decide:4 ≤ 1000)))))),N,D,lr,r,ls,S,τ ++ τ1 ++ τ2,hr2,hls,R,hmin,hN.symm,hD.symm,hs,hfr,Nat.le_trans (List.Sublist.length_le ((List.sublist_append_left _ _).trans (List.sublist_append_left _ _))) hfs⟩
  | ring lr' r' τ2 hr' R' hlt hmin' hfs =>
   have hf':=ym O.hd O.m2 R'
   have hg:far ws r < far ws r':=AI g1 g2 (dh R) hlt ((sX _ (dh R) hrl).trans (sX _ (dh R') (Nat.le_trans (gu R') O.m2)).symm) (by rw [sX _ (dh R) hrl]; decide)
   have ea:σ ++ τ ++ τ1 ++ τ2=σ ++ (τ ++ τ1 ++ τ2):=by rw [List.append_assoc,List.append_assoc,List.append_assoc]
   rw [ea] at hr' e2
   obtain ⟨v,fr,σ',h1,h2⟩:=ih (far ws r + d - far ws r') (by lia) f lr' r' (τ ++ τ1 ++ τ2) (some (.int N)) (some (.int D)) (some (.tup [.ref lr',.none])) (by lia) (by lia) hr' R' hmin' (Nat.le_trans (List.Sublist.length_le ((List.sublist_append_left _ _).trans (List.sublist_append_left _ _))) hfs)
   exact ⟨v,fr,σ',gO gE (pZ (aF (aa (ac rfl) (aa (ac rfl) ae)) e1) rfl (ak (aF (aa (ac rfl) (aa (ac rfl) (aa (ac rfl) ae))) e2) (by decide:4 < 8) (aW (aM (aC (ac rfl) aj rfl) bU rfl) (ak (aC (ac rfl) aj rfl) (by decide:1 < 8) a6)))) h1,h2⟩
theorem v6 (H:qv P) (W:bk σ l m ws) (O:w1 m ws) (hw:9999 * 27720 < wf):∃ v σ',evFn P wf (n + 5) 7 [.ref l] σ=.ok v σ' ∧ k9 σ m ws v σ':=by
 obtain ⟨v,σ',e1,lr,r,τ,rfl,rfl,hr,R,hmin,hfr⟩:=lL (wf:=wf) (n:=n + 2) H.h3 H.h6 W O.hz O.m1 O.m2 O.hO O.hm (Nat.le_trans (by decide) (Nat.le_of_lt hw))
 obtain ⟨v,fr,σ',h1,h2⟩:=pj (n:=n) H W O (Nat.le_trans (by decide) (Nat.le_of_lt hw)) (9999 * 27720) wf lr r τ none none none (Nat.le_add_left _ _) hw hr R hmin hfr
 exact ⟨v,σ',bp H.h7 rfl (ak (aF (aa (ac rfl) ae) e1) (by decide:1 < 8) (eU (dO h1))),h2⟩
end
end Mine
namespace Mine
open PySem
theorem dj {α β γ:Type}{f:β→Option γ}{g:α→β}{h:α→γ}:∀ {l:List α},(∀ a ∈ l,f (g a)=some (h a))→aV f (l.map g)=some (l.map h)
 | [],_=>rfl
 | a :: l,H=>by rw [List.map_cons,List.map_cons,jT,H a (.head _),dj fun b hb=>H b (.tail _ hb)]
theorem dG {σ:Sto}{l n:Nat}{xs:List V}{ds:List PyData} (h:σ[l]?=some (.lst xs)) (hd:aV (toD n σ) xs=some ds):toD (n + 1) σ (.ref l)=some (.list ds):=by
 show (match getL σ l with | some vs=>(aV (toD n σ) vs).map PyData.list | none=>none)=_
 rw [ag h]
 show (aV (toD n σ) xs).map PyData.list=_
 rw [hd]; rfl
theorem w5 {ds:List PyData}:PyData.eqv (.list ds) (.list [])=ds.isEmpty:=by
 cases ds with
 | nil=>rfl
 | cons d ds=>rfl
theorem lP {σ:Sto}{l k:Nat}{xs:List V}{ds:List PyData} (h:σ[l]?=some (.lst xs)) (hd:aV (toD 4 σ) xs=some ds) (hk:σ[k]?=some (.lst [])):eqV σ (.ref l) (.ref k)=some ds.isEmpty:=by
 unfold eqV
 rw [dG h hd,dG (ds:=[]) hk rfl]
 exact congrArg some w5
noncomputable def yE (r:List Nat):List PyData:=r.map fun (v:Nat)=>.int v
noncomputable def yg (w:Way):PyData:=.tuple [.int w.1,.int w.2.1,.int w.2.2]
theorem tQ {σ:Sto}{r:List Nat}:aV (toD 4 σ) (natsV r)=some (yE r):=dj fun _ _=>rfl
theorem lE {σ:Sto}{ws:List Way}:aV (toD 4 σ) (ws.map wayV)=some (ws.map yg):=dj fun _ _=>rfl
noncomputable def mO:S:=S.ifS ((E.cmp .Eq ((E.loc 5).sub (E.int 0)) (E.loc 4)).and (E.cmp .NotIn ((E.loc 5).sub (E.int 1)) (E.loc 2)))
 [S.asgI (E.loc 2) ((E.loc 5).sub (E.int 1)) (E.bool true),S.expr ((E.loc 3).meth .append [(E.loc 5).sub (E.int 1)])] []
noncomputable def ge:List S:=[S.asg 4 ((E.loc 3).meth .pop []),S.forS [5] true (It.e (E.loc 1)) [mO]]
noncomputable def gw:Fn:={ ps:=[0,1],size:=6,body :=
 [S.asg 2 ((E.int 0).dict1 (E.bool true)),S.asg 3 (E.list [E.int 0]),S.whileS (E.cmp .NotEq (E.loc 3) (E.list [])) ge,S.ret (E.loc 2)] }
noncomputable def iF (F:List Nat):List (Int × V):=F.map fun (v:Nat)=>((v:Int),V.bool true)
theorem tN {F:List Nat}{x:Nat}:((iF F).any fun e=>e.1 == (x:Int))=decide (x ∈ F):=by
 rw [Bool.eq_iff_iff,List.any_eq_true,decide_eq_true_eq]
 constructor
 ·rintro ⟨e,he,q⟩
  obtain ⟨v,hv,rfl⟩:=List.mem_map.mp he
  have:(v:Int)=(x:Int):=eq_of_beq q
  rwa [← Int.ofNat.inj this]
 ·intro h
  exact ⟨_,List.mem_map.mpr ⟨x,h,rfl⟩,beq_self_eq_true _⟩
theorem mr {x:Nat}:∀ {F:List Nat},x ∉ F→gz (x:Int) (.bool true) (iF F)=iF (F ++ [x])
 | [],_=>rfl
 | v :: F,h=>by
  rw [List.mem_cons,not_or] at h
  show (if ((v:Int) == (x:Int)) then ((v:Int),V.bool true) :: iF F else ((v:Int),V.bool true) :: gz (x:Int) (.bool true) (iF F))=_
  rw [dm,if_neg (by simpa using Ne.symm h.1),mr h.2]; rfl
noncomputable def bJ (σ:Sto) (F Q:List Nat) (τ:Sto):Sto:=σ ++ .dI (iF F) :: .lst (natsV Q) :: τ
section
variable {σ τ:Sto}{F Q:List Nat}
theorem u6:(bJ σ F Q τ)[σ.length]?=some (.dI (iF F)):=am
theorem j7:(bJ σ F Q τ)[σ.length + 1]?=some (.lst (natsV Q)):=by unfold bJ; rw [List.getElem?_append_right (by lia),show σ.length + 1 - σ.length=1 by lia]; rfl
theorem pD {x:Nat} (h:x ∉ F) (hl:F.length ≤ 1000):dq (.ref σ.length) (.int x) (.bool true) (bJ σ F Q τ)=some (bJ σ (F ++ [x]) Q τ):=by
 unfold dq; dsimp only; rw [u6]; show (if _ then _ else _)=_
 rw [if_pos (by unfold iF; rw [List.length_map]; lia),mr h]
 unfold bJ
 rw [dB]
theorem jS {Q':List Nat}:dy (bJ σ F Q τ) (σ.length + 1) (natsV Q')=bJ σ F Q' τ:=by
 unfold dy bJ
 rw [List.set_append_right _ _ (by lia),show σ.length + 1 - σ.length=1 by lia]; rfl
theorem iO {x:Nat}:iE .NotIn (.int x) (.ref σ.length) (bJ σ F Q τ)=some (decide (x ∉ F)):=by
 show mG (bJ σ F Q τ) (.int x) (.ref σ.length)=_
 unfold mG inV; dsimp only; rw [u6]; show some (!(List.any _ _))=_
 rw [tN]
 refine congrArg some ?_
 by_cases h:x ∈ F <;> simp [h]
theorem tR {o:AO}:bJ σ F Q τ ++ [o]=bJ σ F Q (τ ++ [o]):=by unfold bJ; rw [List.append_assoc]; rfl
end
def A1 (ws:List Way) (v:Nat):Prop:=∀ G:Nat→Prop,G 0→(∀ w ∈ ws,G w.1→G w.2.1)→G v
structure sU (m:Nat) (F Q:List Nat) (ex:Nat→List Way) (ws:List Way):Prop where
 nd:F.Nodup
 lt:∀ v ∈ F,v < m
 mn:∀ v ∈ F,A1 ws v
 zero:0 ∈ F
 sub:∀ v ∈ Q,v ∈ F
 cl:∀ w ∈ ws,w.1 ∈ F→w.1 ∉ Q→w ∉ ex w.1→w.2.1 ∈ F
section
variable {P:Nat→Option Fn}{wf n:Nat} {σ:Sto}{lw m:Nat}{ws:List Way}
noncomputable def fR (σ:Sto) (m lw:Nat) (x4 x5:Option V):Fra:=[some (.int m),some (.ref lw),some (.ref σ.length),some (.ref (σ.length + 1)),x4,x5]
noncomputable def after (ws:List Way) (h i:Nat) (v:Nat):List Way:=if v=h then ws.drop i else []
inductive lZ (σ:Sto) (m lw:Nat) (ws:List Way) (h c i:Nat):Fra→Sto→Prop
 | mk (F Q:List Nat) (τ:Sto) (x5:Option V) (C:sU m F Q (after ws h i) ws) (hF:h ∈ F) (hc:Q.length + c=F.length):lZ σ m lw ws h c i (fR σ m lw (some (.int h)) x5) (bJ σ F Q τ)
set_option tactic.hygienic true in
theorem qC {call:Nat→List V→Sto→RE}{h i c:Nat}{w:Way}{F Q:List Nat} {τ:Sto}{x5:Option V} (hm:∀ w ∈ ws,w.1 < m ∧ w.2.1 < m) (m2:m ≤ 12) (hw:ws[i]?=some w) (C:sU m F Q (after ws h i) ws) (hF:h ∈ F) (hc:Q.length + c=F.length) :
  mV [5] true (evSs call wf [mO]) (wayV w) (fR σ m lw (some (.int h)) x5) (bJ σ F Q τ)
   (lZ σ m lw ws h c (i + 1)) (fun _ _=>False):=by
 have hmem:=List.mem_of_getElem? hw
 have hlen:=dn m F C.nd C.lt
 obtain ⟨a,b,d⟩:=w
 have hb:b < m:=(hm _ hmem).2
 have hdrop:ws.drop i=(a,b,d) :: ws.drop (i + 1):=by
  obtain ⟨h1,h2⟩:=List.getElem?_eq_some_iff.mp hw
  rw [List.drop_eq_getElem_cons h1,h2]
 have next:∀ u:Way,u ∉ after ws h (i + 1) u.1→u ≠ (a,b,d)→u ∉ after ws h i u.1:=fun u hu hne=>by
  unfold after at hu ⊢
  split at hu
  ·rename_i e
   rw [if_pos e,hdrop,List.mem_cons,not_or]; exact ⟨hne,hu⟩
  ·rename_i e
   rw [if_neg e]; exact hu
 have test1:evE call (E.cmp .Eq ((E.loc 5).sub (E.int 0)) (E.loc 4)) (fR σ m lw (some (.int h)) (some (wayV (a,b,d)))) (bJ σ F Q τ)=.ok (.bool (a == h)) (bJ σ F Q τ):=aM (aC (ac rfl) aj rfl) (ac rfl) (congrArg some (dm a h))
 refine ⟨fR σ m lw (some (.int h)) (some (wayV (a,b,d))),rfl,.inl ?_⟩
 by_cases hn:a=h ∧ b ∉ F
 ·obtain ⟨rfl,hn⟩:=hn
  refine ⟨_,_,d3 (cG (test1.trans (by rw [beq_self_eq_true])) (aM (p:=true) (aC (ac rfl) aj rfl) (ac rfl) (iO.trans (congrArg some (decide_eq_true hn)))))
   (ib gE (ac rfl) (aC (ac rfl) aj rfl) (pD hn (by lia)) (bu (cN (ac rfl) (ag j7) (aa (aC (ac rfl) aj rfl) ae) (ag j7) (l4 ?_)) (?_:_=RS.ok Fl.next (fR σ m lw (some (.int a)) (some (wayV (a,b,d)))) (bJ σ (F ++ [b]) (Q ++ [b]) τ)))) a6,F ++ [b],Q ++ [b],τ,some (wayV (a,b,d)),⟨?_,?_,?_,?_,?_,?_⟩,List.mem_append_left _ hF,?_⟩
  ·rw [aU]
   lia
  ·rw [show natsV Q ++ [V.int (b:Nat)]=natsV (Q ++ [b]) by unfold natsV; rw [List.map_append]; rfl,jS]; exact a6
  ·rw [List.nodup_append]
   exact ⟨C.nd,by simp,fun x hx y hy e=>hn (by rw [← List.mem_singleton.mp hy,← e]; exact hx)⟩
  ·intro v hv
   rcases List.mem_append.mp hv with hv | hv
   ·exact C.lt v hv
   ·rw [List.mem_singleton.mp hv]; exact hb
  ·intro v hv
   rcases List.mem_append.mp hv with hv | hv
   ·exact C.mn v hv
   ·rw [List.mem_singleton.mp hv]; exact fun G g0 gs=>gs _ hmem (C.mn a hF G g0 gs)
  ·exact List.mem_append_left _ C.zero
  ·intro v hv
   rcases List.mem_append.mp hv with hv | hv
   ·exact List.mem_append_left _ (C.sub v hv)
   ·exact List.mem_append_right _ hv
  ·intro u hu h1 h2 h3
   by_cases e:u=(a,b,d)
   ·rw [e]; exact List.mem_append_right _ (.head _)
   ·rw [List.mem_append,not_or] at h2
    rcases List.mem_append.mp h1 with h1 | h1
    ·exact List.mem_append_left _ (C.cl u hu h1 h2.1 (next u h3 e))
    ·exact absurd h1 h2.2
  ·rw [List.length_append,List.length_append]
   show Q.length + 1 + c=F.length + 1
   lia
 ·refine ⟨_,_,aW ((vZ (p:=a == h) (q:=decide (b ∉ F)) test1 fun _=>aM (aC (ac rfl) aj rfl) (ac rfl) iO).trans ?_) a6,F,Q,τ,some (wayV (a,b,d)),⟨C.nd,C.lt,C.mn,C.zero,C.sub,fun u hu h1 h2 h3=>?_⟩,hF,hc⟩
  ·have:(a == h && decide (b ∉ F))=false:=by
    rw [Bool.eq_false_iff]
    intro q
    rw [Bool.and_eq_true,beq_iff_eq,decide_eq_true_eq] at q
    exact hn q
   rw [this]
  ·by_cases e:u=(a,b,d)
   ·subst e
    by_cases ha:a=h
    ·exact Decidable.byContradiction fun hb=>hn ⟨ha,hb⟩
    ·exact C.cl _ hu h1 h2 (by unfold after; rw [if_neg ha]; exact fun q=>nomatch q)
   ·exact C.cl u hu h1 h2 (next u h3 e)
end
end Mine
namespace Mine
open PySem
def bI (ws:List Way) (a b:Nat):Prop:=∃ n t,iU ws a b n t
section
variable {P:Nat→Option Fn}{wf n:Nat} {σ:Sto}{lw m:Nat}{ws:List Way}
theorem vO {a b c q m d:Nat} (hd:a + 1 + m ≤ d + 1 + b) (hq:a + 1 ≤ b) (h2:q + (b - a)=c):q + m ≤ d + c ∧ q ≤ c:=by lia
theorem tq {q m f:Nat} (hd:q + m ≤ 0 + f) (hl:f ≤ m):q=0:=by lia
noncomputable def vI:E:=E.cmp .NotEq (E.loc 3) (E.list [])
theorem gR {call:Nat→List V→Sto→RE}{F Q:List Nat} {τ:Sto}{x4 x5:Option V}:evE call vI (fR σ m lw x4 x5) (bJ σ F Q τ)=.ok (.bool (!(yE Q).isEmpty)) (bJ σ F Q (τ ++ [.lst []])):=by
 refine aM (ac rfl) (bf ae (ai (by decide:0 ≤ 16777216))) ?_ |>.trans (by rw [tR])
 show (eqV _ _ _).map _=_
 rw [lP (ap j7) tQ am]; rfl
theorem lZ.get {h c i:Nat}{fr:Fra} {σ':Sto} (hlw:σ[lw]?=some (.lst (ws.map wayV))) (I:lZ σ m lw ws h c i fr σ'):getL σ' lw=some (ws.map wayV):=by
 obtain ⟨F,Q,τ,x5,_,_,_⟩:=I
 exact ag (ap hlw)
theorem oG {call:Nat→List V→Sto→RE}{h i c:Nat}{w:Way}{fr:Fra} {σ':Sto} (hm:∀ w ∈ ws,w.1 < m ∧ w.2.1 < m) (m2:m ≤ 12) (hw:ws[i]?=some w) (I:lZ σ m lw ws h c i fr σ'):mV [5] true (evSs call wf [mO]) (wayV w) fr σ' (lZ σ m lw ws h c (i + 1)) (fun _ _=>False):=by
 obtain ⟨F,Q,τ,x5,C,h1,h2⟩:=I
 exact qC hm m2 hw C h1 h2
inductive zr (call:Nat→List V→Sto→RE) (wf:Nat) (σ:Sto) (m lw:Nat) (ws:List Way) (c:Nat) (fr:Fra) (σ0:Sto):Prop
 | mk (h:Nat) (F Q:List Nat) (τ:Sto) (y5:Option V) (e:∀ f r,ck (evE call vI) (evSs call wf ge) f (fR σ m lw (some (.int h)) y5) (bJ σ F Q τ)=r→ck (evE call vI) (evSs call wf ge) (f + 1) fr σ0=r) (C:sU m F Q (fun _=>[]) ws) (hc:Q.length + c=F.length):zr call wf σ m lw ws c fr σ0
theorem pr {call:Nat→List V→Sto→RE} (hm:∀ w ∈ ws,w.1 < m ∧ w.2.1 < m) (m2:m ≤ 12) (hlw:σ[lw]?=some (.lst (ws.map wayV))) {F Q0:List Nat}{h:Nat} {τ:Sto}{x4 x5:Option V} (hq:Q0.length ≤ F.length) (C:sU m F (Q0 ++ [h]) (fun _=>[]) ws) :
  zr call wf σ m lw ws (F.length - Q0.length) (fR σ m lw x4 x5) (bJ σ F (Q0 ++ [h]) τ):=by
 have hF:h ∈ F:=C.sub h (List.mem_append_right _ (.head _))
 have C0:sU m F Q0 (after ws h 0) ws:=⟨C.nd,C.lt,C.mn,C.zero,fun v hv=>C.sub v (List.mem_append_left _ hv),fun w hw h1 h2 h3=>by
  by_cases e:w.1=h
  ·exact absurd (by unfold after; rw [if_pos e]; exact hw) h3
  ·exact C.cl w hw h1 (fun q=>(List.mem_append.mp q).elim h2 fun q=>e (List.mem_singleton.mp q)) fun q=>nomatch q⟩
 have lp:=nO (call:=call) (wf:=wf) (tg:=[5]) (one:=true) (ws:=ws) (g:=wayV) (it:=E.loc 1) (bs:=[mO]) (fr:=fR σ m lw (some (.int h)) x5) (σ:=bJ σ F Q0 (τ ++ [.lst []]))
  (lZ σ m lw ws h (F.length - Q0.length)) (fun _ _=>False) (ac rfl) (fun i _ _ I=>I.get hlw) (fun i w _ _ hw I=>oG hm m2 hw I) ⟨F,Q0,_,x5,C0,hF,Nat.add_sub_cancel' hq⟩
 obtain ⟨fr1,σ1,e1,F',Q',τ',y5,C',h1,h2⟩:=lp.next
 refine ⟨h,F',Q',τ',y5,fun f r hr=>gO (σ1:=bJ σ F (Q0 ++ [h]) (τ ++ [.lst []])) (gR.trans ?_) (ak (cN (ac rfl) (ag j7) ae (ag j7) (?_:dP .pop _ _ _ _=.ok (.int h) (bJ σ F Q0 (τ ++ [.lst []])))) (by decide:4 < 6) (a4 e1 a6)) hr,⟨C'.nd,C'.lt,C'.mn,C'.zero,C'.sub,fun w hw a1 a2 a3=>C'.cl w hw a1 a2 (by unfold after; rw [List.drop_length,ite_self]; exact a3)⟩,h2⟩
 ·congr 2
  cases Q0 <;> rfl
 ·have e3:natsV (Q0 ++ [h])=natsV Q0 ++ [V.int (h:Nat)]:=by unfold natsV; rw [List.map_append]; rfl
  show (match (natsV (Q0 ++ [h])).getLast? with | some v=>RE.ok v (dy _ _ (natsV (Q0 ++ [h])).dropLast) | none=>.bad)=_
  rw [e3,List.getLast?_concat,List.dropLast_concat]
  show RE.ok _ (dy _ _ (natsV Q0))=_
  rw [jS]
theorem qB {call:Nat→List V→Sto→RE} (hm:∀ w ∈ ws,w.1 < m ∧ w.2.1 < m) (m2:m ≤ 12) (hlw:σ[lw]?=some (.lst (ws.map wayV))):∀ (d f:Nat) (F Q:List Nat) (τ:Sto) (x4 x5:Option V),Q.length + m ≤ d + F.length→d < f→Q.length ≤ F.length→sU m F Q (fun _=>[]) ws →
  ∃ F' τ' y4 y5,ck (evE call (E.cmp .NotEq (E.loc 3) (E.list []))) (evSs call wf ge) f (fR σ m lw x4 x5) (bJ σ F Q τ)=.ok .next (fR σ m lw y4 y5) (bJ σ F' [] τ') ∧ sU m F' [] (fun _=>[]) ws:=by
 intro d
 induction d with
 | zero =>
  intro f F Q τ x4 x5 hd hf hq C
  have hQ:Q=[]:=List.length_eq_zero_iff.mp (tq hd (dn m F C.nd C.lt))
  rw [hQ] at C ⊢
  cases f with
  | zero=>exact absurd hf (Nat.not_lt_zero _)
  | succ f=>exact ⟨F,τ ++ [.lst []],x4,x5,mw gR,C⟩
 | succ d ih =>
  intro f F Q τ x4 x5 hd hf hq C
  cases f with
  | zero=>exact absurd hf (Nat.not_lt_zero _)
  | succ f =>
   rcases List.eq_nil_or_concat Q with hQ | ⟨Q0,h,hQ⟩
   ·rw [hQ] at C ⊢
    exact ⟨F,τ ++ [.lst []],x4,x5,mw gR,C⟩
   ·rw [List.concat_eq_append] at hQ
    have hl:Q.length=Q0.length + 1:=by rw [hQ,List.length_append]; rfl
    rw [hl] at hd hq
    rw [hQ] at C ⊢
    obtain ⟨h,F',Q',τ',y5,e,C1,h2⟩:=pr (call:=call) (wf:=wf) (τ:=τ) (x4:=x4) (x5:=x5) hm m2 hlw (Nat.le_of_lt hq) C
    have om:=vO hd hq h2
    obtain ⟨F2,τ2,z4,z5,e2,C2⟩:=ih f F' Q' τ' (some (.int h)) y5 om.1 (Nat.lt_of_succ_lt_succ hf) om.2 C1
    exact ⟨F2,τ2,z4,z5,e _ _ e2,C2⟩
theorem uv {F:List Nat} (C:sU m F [] (fun _=>[]) ws) (hR:∀ v,v < m→bI ws 0 v):F.length=m:=by
 have h1:=dn m F C.nd C.lt
 have h2:∀ {b n t:Nat},iU ws 0 b n t→b ∈ F:=by
  intro b n t h
  induction h with
  | nil=>exact C.zero
  | step h hw ih=>exact C.cl _ hw ih (fun q=>nomatch q) fun q=>nomatch q
 have h3:(List.range m).length ≤ F.length:=(List.nodup_range).length_le_of_subset fun v hv=>by
  obtain ⟨n,t,hw⟩:=hR v (List.mem_range.mp hv)
  exact h2 hw
 rw [List.length_range] at h3
 lia
theorem qz (h9:P 9=some gw) (hlw:σ[lw]?=some (.lst (ws.map wayV))) (hm:∀ w ∈ ws,w.1 < m ∧ w.2.1 < m) (m1:1 ≤ m) (m2:m ≤ 12) (hw:14 ≤ wf) :
  ∃ τ F,sU m F [] (fun _=>[]) ws ∧ evFn P wf (n + 1) 9 [.int m,.ref lw] σ=.ok (.ref σ.length) (σ ++ τ) ∧ iy .len [.ref σ.length] (σ ++ τ)=.ok (.int F.length) (σ ++ τ):=by
 obtain ⟨F,τ,y4,y5,e1,C⟩:=qB (call:=evFn P wf n) (wf:=wf) hm m2 hlw (m + 1) wf [0] [0] [] none none (by lia) (by lia) (Nat.le_refl _) ⟨by simp,fun v hv=>by rw [List.mem_singleton.mp hv]; exact m1,fun v hv=>by rw [List.mem_singleton.mp hv]; exact fun G g0 _=>g0,.head _,fun v hv=>hv,fun w hw h1 h2=>absurd h1 h2⟩
 refine ⟨_,F,C,bp h9 rfl (ak (qi aj gE) (by decide:2 < 6) (ak (bf (aa aj ae) (ai (by decide:1 ≤ 16777216))) (by decide:3 < 6) (a4 (?_:evS _ _ _ _ _=.ok .next (fR σ m lw y4 y5) (bJ σ F [] τ)) (aO (ac rfl))))),?_⟩
 ·have e2:σ ++ [AO.dI [(0,V.bool true)]] ++ [AO.lst [V.int 0]]=bJ σ [0] [0] []:=by rw [List.append_assoc]; rfl
  have e3:(σ ++ [AO.dI [(0,V.bool true)]]).length=σ.length + 1:=by rw [List.length_append]; rfl
  rw [e2,e3]
  exact dO e1
 ·show bZ _ ((tl (.ref σ.length) _).map V.int)=_
  unfold tl; dsimp only; rw [am]; dsimp only
  show RE.ok (.int ((iF F).length:Nat)) _=_
  unfold iF
  rw [List.length_map]
theorem iX (h9:P 9=some gw) (hlw:σ[lw]?=some (.lst (ws.map wayV))) (hm:∀ w ∈ ws,w.1 < m ∧ w.2.1 < m) (m1:1 ≤ m) (m2:m ≤ 12) (hR:∀ v,v < m→bI ws 0 v) (hw:14 ≤ wf) :
  ∃ τ,evFn P wf (n + 1) 9 [.int m,.ref lw] σ=.ok (.ref σ.length) (σ ++ τ) ∧ iy .len [.ref σ.length] (σ ++ τ)=.ok (.int m) (σ ++ τ):=by
 obtain ⟨τ,F,C,h1,h2⟩:=qz (n:=n) h9 hlw hm m1 m2 hw
 rw [uv C hR] at h2
 exact ⟨τ,h1,h2⟩
end
end Mine
namespace Mine
open PySem
noncomputable def uI (w:Way):Way:=(w.2.1,w.1,w.2.2)
noncomputable def flip (ws:List Way):List Way:=ws.map uI
theorem nF {ws:List Way}{a b d:Nat}:(a,b,d) ∈ flip ws ↔ (b,a,d) ∈ ws:=by
 constructor
 ·intro h
  obtain ⟨⟨x,y,z⟩,hw,e⟩:=List.mem_map.mp h
  unfold uI at e
  cases e
  exact hw
 ·exact fun h=>List.mem_map.mpr ⟨_,h,rfl⟩
theorem iU.app {ws:List Way}{a b c n t n' t':Nat} (h:iU ws a b n t) (h':iU ws b c n' t'):iU ws a c (n + n') (t + t'):=by
 induction h' with
 | nil=>exact h
 | step _ hw ih=>rw [← Nat.add_assoc t]; exact .step ih hw
theorem iU.one {ws:List Way}{a b d:Nat} (h:(a,b,d) ∈ ws):iU ws a b 1 d:=by
 have:=iU.step (iU.nil (ws:=ws) (a:=a)) h
 rwa [Nat.zero_add,Nat.zero_add] at this
theorem iU.flip {ws:List Way}{a b n t:Nat} (h:iU ws a b n t):iU (Mine.flip ws) b a n t:=by
 induction h with
 | nil=>exact .nil
 | @step b c d n t _ hw ih =>
  have:=(iU.one (nF.mpr hw)).app ih
  rwa [Nat.add_comm 1,Nat.add_comm d t] at this
theorem bI.trans {ws:List Way}{a b c:Nat} (h:bI ws a b) (h':bI ws b c):bI ws a c :=
 let ⟨_,_,p⟩:=h; let ⟨_,_,q⟩:=h'; ⟨_,_,p.app q⟩
theorem bI.one {ws:List Way}{a b d:Nat} (h:(a,b,d) ∈ ws):bI ws a b:=⟨_,_,iU.one h⟩
theorem bI.self {ws:List Way}{a:Nat}:bI ws a a:=⟨_,_,iU.nil⟩
theorem bI.flip {ws:List Way}{a b:Nat} (h:bI ws a b):bI (Mine.flip ws) b a:=let ⟨_,_,p⟩:=h; ⟨_,_,p.flip⟩
structure aG (m:Nat) (ws:List Way):Prop where
 m1:1 ≤ m
 m2:m ≤ 12
 hz:ws.length ≤ 60
 hm:∀ w ∈ ws,w.1 < m ∧ w.2.1 < m
 hd:∀ w ∈ ws,w.2.2 ≤ 9999
 sc:∀ a b,a < m→b < m→bI ws a b
 ne:ws ≠ []
theorem yz {ws:List Way}{a b n t:Nat} (h:iU ws a b n t):a=b ∨ ∃ w ∈ ws,w.1=a:=by
 induction h with
 | nil=>exact .inl rfl
 | step _ hw ih =>
  rcases ih with rfl | ih
  ·exact .inr ⟨_,hw,rfl⟩
  ·exact .inr ih
theorem aG.ok {m:Nat}{ws:List Way} (G:aG m ws):w1 m ws:=by
 refine ⟨G.m1,G.m2,G.hz,G.hm,G.hd,fun a ha=>?_⟩
 by_cases h:m=1
 ·cases q:ws with
  | nil=>exact absurd q G.ne
  | cons w r =>
   refine ⟨w,.head _,?_⟩
   have:=(G.hm w (by rw [q]; exact .head _)).1
   lia
 ·obtain ⟨b,hb,hab⟩:∃ b,b < m ∧ a ≠ b:=by
   by_cases h0:a=0
   ·exact ⟨1,by have:=G.m1; lia,by lia⟩
   ·exact ⟨0,G.m1,h0⟩
  obtain ⟨n,t,hw⟩:=G.sc a b ha hb
  rcases yz hw with e | e
  ·exact absurd e hab
  ·exact e
theorem aG.flip {m:Nat}{ws:List Way} (G:aG m ws):aG m (Mine.flip ws):=by
 refine ⟨G.m1,G.m2,?_,fun w hw=>?_,fun w hw=>?_,fun a b ha hb=>(G.sc b a hb ha).flip,fun q=>?_⟩
 ·unfold Mine.flip; rw [List.length_map]; exact G.hz
 ·obtain ⟨u,hu,rfl⟩:=List.mem_map.mp hw
  exact ⟨(G.hm u hu).2,(G.hm u hu).1⟩
 ·obtain ⟨u,hu,rfl⟩:=List.mem_map.mp hw
  exact G.hd u hu
 ·exact G.ne (List.map_eq_nil_iff.mp q)
noncomputable def gI:Fn:={ ps:=[0,1],size:=5,body :=
 [S.ifS (E.cmp .Eq (E.loc 1) (E.list [])) [S.ret (E.bool false)] [],
  S.asg 2 (E.comp [1] true (E.loc 1) [] (E.tup [(E.loc 1).sub (E.int 1),(E.loc 1).sub (E.int 0),(E.loc 1).sub (E.int 2)]) [none,none]),
  S.ret ((E.cmp .Eq (E.blt .len [E.call 9 [E.loc 0,E.loc 1]]) (E.loc 0)).and (E.cmp .Eq (E.blt .len [E.call 9 [E.loc 0,E.loc 2]]) (E.loc 0)))] }
noncomputable def xK:Fn:={ ps:=[0,1,2],size:=15,body :=
 [S.ifS (E.call 8 [E.loc 1,E.int 1,E.int 12]).not [S.raise (xc 0)] [],
  S.ifS (E.cmp .Gt (E.blt .len [E.loc 2]) (E.int 60)) [S.raise (xc 0)] [],
  S.forS [3] true (It.e (E.loc 2)) [S.ifS ((E.call 8 [(E.loc 3).sub (E.int 0),E.int 0,E.bin .Sub (E.loc 1) (E.int 1)]).not.or (E.call 8 [(E.loc 3).sub (E.int 1),E.int 0,E.bin .Sub (E.loc 1) (E.int 1)]).not) [S.raise (xc 1)] []],
  S.forS [3] true (It.e (E.loc 2)) [S.ifS (E.call 8 [(E.loc 3).sub (E.int 2),E.int 0,E.int 9999]).not [S.raise (xc 2)] []],
  S.ifS (E.call 10 [E.loc 1,E.loc 2]).not [S.raise (xc 3)] [],S.asgA (E.loc 0) 0 (E.loc 1),S.asgA (E.loc 0) 1 (E.blt .list [E.loc 2])] }
noncomputable def fz:Fn:={ ps:=[0],size:=2,body :=
 [S.ret (E.mk 11 [(E.loc 0).attr 0,E.comp [1] true ((E.loc 0).attr 1) [] (E.tup [(E.loc 1).sub (E.int 1),(E.loc 1).sub (E.int 0),(E.loc 1).sub (E.int 2)]) [none,none]])] }
section
variable {P:Nat→Option Fn}{wf n:Nat} {σ σ1:Sto}{lw m:Nat}{ws:List Way}
theorem uX {call:Nat→List V→Sto→RE}{e:E}{fr:Fra} (h:evE call e fr σ=.ok (.ref lw) σ1) (hlw:σ1[lw]?=some (.lst (ws.map wayV))) (hz:ws.length ≤ 60) :
  evE call (E.comp [1] true e [] (E.tup [(E.loc 1).sub (E.int 1),(E.loc 1).sub (E.int 0),(E.loc 1).sub (E.int 2)]) [none,none]) fr σ=.ok (.ref σ1.length) (σ1 ++ [.lst ((flip ws).map wayV)]):=by
 refine fK (ws:=ws) (g:=wayV) (p:=fun _=>true) (f:=fun w=>wayV (uI w)) h (ag hlw) (fun w hw=>⟨_,rfl,pM,fun _=>dz (aa (aC (ac rfl) aj rfl) (aa (aC (ac rfl) aj rfl) (aa (aC (ac rfl) aj rfl) ae))) (by decide:3 ≤ 1000)⟩) ?_
 rw [List.filter_eq_self.mpr (fun _ _=>rfl),show (ws.map fun w=>wayV (uI w))=(flip ws).map wayV by unfold flip; rw [List.map_map]; rfl]
 exact ai (by unfold flip; rw [List.length_map,List.length_map]; lia)
theorem kg (h9:P 9=some gw) (h10:P 10=some gI) (hlw:σ[lw]?=some (.lst (ws.map wayV))) (G:aG m ws) (hw:14 ≤ wf):∃ τ,evFn P wf (n + 2) 10 [.int m,.ref lw] σ=.ok (.bool true) (σ ++ τ):=by
 have F:=G.flip
 obtain ⟨τ1,a1,a2⟩:=iX (wf:=wf) (n:=n) (σ:=σ ++ [.lst []] ++ [.lst ((flip ws).map wayV)]) h9 (ap (ap hlw)) G.hm G.m1 G.m2 (fun v hv=>G.sc 0 v G.m1 hv) hw
 obtain ⟨τ2,b1,b2⟩:=iX (wf:=wf) (n:=n) (σ:=σ ++ [.lst []] ++ [.lst ((flip ws).map wayV)] ++ τ1) (lw:=(σ ++ [AO.lst []]).length) h9 (ap am) F.hm G.m1 G.m2 (fun v hv=>F.sc 0 v G.m1 hv) hw
 refine ⟨[.lst []] ++ [.lst ((flip ws).map wayV)] ++ τ1 ++ τ2,bp h10 rfl (aW (aM (p:=false) (ac rfl) (bf ae (ai (by decide:0 ≤ 16777216))) ?_) (ak (uX (ac rfl) (ap hlw) G.hz) (by decide:2 < 5) (aO (cG (aM (ba (aa (aF (aa (ac rfl) (aa (ac rfl) ae)) a1) ae) a2) (ac rfl) ?_) ((aM (p:=true) (ba (aa (aF (aa (ac rfl) (aa (ac rfl) ae)) b1) ae) b2) (ac rfl) ?_).trans ?_)))))⟩
 ·show eqV _ _ _=_
  rw [lP (ap hlw) lE am]
  cases q:ws with
  | nil=>exact absurd q G.ne
  | cons w r=>rfl
 ·exact congrArg some (beq_self_eq_true _)
 ·exact congrArg some (beq_self_eq_true _)
 ·rw [List.append_assoc,List.append_assoc,List.append_assoc,List.append_assoc,List.append_assoc]
structure lO (P:Nat→Option Fn):Prop where
 h8:P 8=some cQ
 h9:P 9=some gw
 h10:P 10=some gI
 h11:P 11=some xK
theorem i0 {σ:Sto}{l:Nat}{xs:List V} (h:σ[l]?=some (.lst xs)) (hz:xs.length ≤ 16777216):iy .list [.ref l] σ=.ok (.ref σ.length) (σ ++ [.lst xs]):=by
 show (match getL σ l with | some xs=>cy xs σ | none=>.bad)=_
 rw [ag h]
 exact ai hz
noncomputable def dE (σ:Sto) (o:List (Nat × V)) (τ:Sto):Sto:=σ ++ [.att o,.inst σ.length] ++ τ
theorem mo {o:List (Nat × V)} {τ:Sto}:(dE σ o τ).length=σ.length + 2 + τ.length:=by unfold dE; rw [List.length_append,List.length_append]; rfl
theorem vm {o:List (Nat × V)} {τ:Sto}:(dE σ o τ)[σ.length + 1]?=some (.inst σ.length):=by unfold dE; rw [List.append_assoc,List.getElem?_append_right (by lia),show σ.length + 1 - σ.length=1 by lia]; rfl
theorem vD {o:List (Nat × V)} {τ:Sto}:(dE σ o τ)[σ.length]?=some (.att o):=by unfold dE; rw [List.append_assoc]; exact am
theorem nC {k:Nat}{v:V}{o:List (Nat × V)} {τ:Sto} (ho:o.length < 100):dg (.ref (σ.length + 1)) k v (dE σ o τ)=some (dE σ (tD k v o) τ):=by
 unfold dg; dsimp only; rw [vm]; dsimp only; rw [vD]; dsimp only
 rw [if_pos ho]
 unfold dE
 rw [List.append_assoc]
 show some ((σ ++ _ :: _).set _ _)=_
 rw [dB,List.append_assoc]; rfl
noncomputable def tt (σ:Sto) (m lw:Nat) (x3:Option V):Fra:=[some (.ref (σ.length + 1)),some (.int m),some (.ref lw),x3,none,none,none,none,none,none,none,none,none,none,none]
theorem rU (H:lO P) (hlw:σ[lw]?=some (.lst (ws.map wayV))) (G:aG m ws) (hw:14 ≤ wf) :
  ∃ τ,evFn P wf (n + 3) 11 [.ref (σ.length + 1),.int m,.ref lw] (σ ++ [.att [],.inst σ.length])=.ok .none (σ ++ τ) ∧ ∀ σ0:Sto,σ0.length=σ.length→bk (σ0 ++ τ) (σ.length + 1) m ws:=by
 have wh:∀ {x lo hi:Int} (σ':Sto),lo ≤ x→x ≤ hi→evFn P wf (n + 2) 8 [.int x,.int lo,.int hi] σ'=.ok (.bool true) σ':=fun σ' h1 h2=>iM H.h8 h1 h2
 obtain ⟨τ,ej⟩:=kg (wf:=wf) (n:=n) H.h9 H.h10 (ap (τ:=[.att [],.inst σ.length]) hlw) G hw
 obtain ⟨x3,e1,_⟩:=tn (call:=evFn P wf (n + 2)) (wf:=wf) (tg:=[3]) (one:=true) (ws:=ws) (g:=wayV) (it:=E.loc 2) (bs:=[S.ifS ((E.call 8 [(E.loc 3).sub (E.int 0),E.int 0,E.bin .Sub (E.loc 1) (E.int 1)]).not.or (E.call 8 [(E.loc 3).sub (E.int 1),E.int 0,E.bin .Sub (E.loc 1) (E.int 1)]).not) [S.raise (xc 1)] []]) (σ:=σ ++ [.att [],.inst σ.length])
  (F:=fun _ x3=>tt σ m lw x3) (S:=fun _ _=>σ ++ [.att [],.inst σ.length]) (J:=fun _ _=>True) none (ac rfl) (fun _ _ _=>ag (ap hlw))
  (fun i w x3 hv _=>by
   have hm:=G.hm w (List.mem_of_getElem? hv)
   exact ⟨_,rfl,_,aW (mu (gS (aF (aa (aC (ac rfl) aj rfl) (aa aj (aa (ar (ac rfl) aj rfl) ae))) (wh _ (Int.natCast_nonneg w.1) (by lia)))) (gS (aF (aa (aC (ac rfl) aj rfl) (aa aj (aa (ar (ac rfl) aj rfl) ae))) (wh _ (Int.natCast_nonneg w.2.1) (by lia))))) a6,trivial⟩) trivial
 obtain ⟨y3,e2,_⟩:=tn (call:=evFn P wf (n + 2)) (wf:=wf) (tg:=[3]) (one:=true) (ws:=ws) (g:=wayV) (it:=E.loc 2) (bs:=[S.ifS (E.call 8 [(E.loc 3).sub (E.int 2),E.int 0,E.int 9999]).not [S.raise (xc 2)] []]) (σ:=σ ++ [.att [],.inst σ.length])
  (F:=fun _ x3=>tt σ m lw x3) (S:=fun _ _=>σ ++ [.att [],.inst σ.length]) (J:=fun _ _=>True) x3 (ac rfl) (fun _ _ _=>ag (ap hlw))
  (fun i w x3 hv _=>by
   have hd:=G.hd w (List.mem_of_getElem? hv)
   exact ⟨_,rfl,_,aW (gS (aF (aa (aC (ac rfl) aj rfl) (aa aj (aa aj ae))) (wh _ (Int.natCast_nonneg w.2.2) (by lia)))) a6,trivial⟩) trivial
 have hl1:(dE σ [(0,.int m)] τ)[lw]?=some (.lst (ws.map wayV)):=ap (ap hlw)
 have e3:evSs (evFn P wf (n + 2)) wf [S.asgA (E.loc 0) 0 (E.loc 1),S.asgA (E.loc 0) 1 (E.blt .list [E.loc 2])] (tt σ m lw y3) (dE σ [] τ)=.ok .next (tt σ m lw y3) (dE σ [(0,.int m),(1,.ref (σ.length + 2 + τ.length))] (τ ++ [.lst (ws.map wayV)])):=by
  refine qo (ac rfl) (ac rfl) (nC (o:=[]) (show 0 < 100 by decide)) (qo (ba (aa (ac rfl) ae) ?_) (ac rfl) (nC (o:=[(0,.int m)]) (show 1 < 100 by decide)) a6)
  show (match getL (dE σ [(0,.int m)] τ) lw with | some xs=>cy xs (dE σ [(0,.int m)] τ) | none=>.bad)=_
  rw [ag hl1]
  refine (ai (by rw [List.length_map]; have:=G.hz; lia)).trans ?_
  rw [mo]
  unfold dE
  rw [List.append_assoc (σ ++ _)]
 have e4:∀ (σ:Sto) o τ',dE σ o τ'=σ ++ ([.att o,.inst σ.length] ++ τ'):=fun σ o τ'=>List.append_assoc _ _ _
 refine ⟨[.att [(0,.int m),(1,.ref (σ.length + 2 + τ.length))],.inst σ.length] ++ (τ ++ [.lst (ws.map wayV)]),?_,?_⟩
 ·rw [← e4]
  refine vG H.h11 rfl (aW (gS (aF (aa (ac rfl) (aa aj (aa aj ae))) (wh _ (by have:=G.m1; lia) (by have:=G.m2; lia)))) (aW (aM (p:=false) (ba (aa (ac rfl) ae) (dv (ap hlw))) aj ?_) (a4 e1 (a4 e2 (aW (gS (aF (aa (ac rfl) (aa (ac rfl) ae)) ej)) e3)))))
  rw [List.length_map]
  exact congrArg some (decide_eq_false (by have:=G.hz; lia))
 ·intro σ0 h0
  rw [← h0,← e4]
  refine ⟨σ0.length,σ0.length + 2 + τ.length,vm,vD,?_⟩
  generalize he:[(0,V.int m),(1,V.ref (σ0.length + 2 + τ.length))]=o
  rw [← mo (σ:=σ0) (o:=o)]
  unfold dE
  rw [← List.append_assoc]
  exact am
theorem yc (H:lO P) {es:List E}{fr:Fra} (he:cg (evFn P wf (n + 3)) es fr σ=.ok [.int m,.ref lw] σ1) (hlw:σ1[lw]?=some (.lst (ws.map wayV))) (G:aG m ws) (hw:14 ≤ wf) :
  ∃ l τ,evE (evFn P wf (n + 3)) (.mk 11 es) fr σ=.ok (.ref l) (σ1 ++ τ) ∧ ∀ σ0:Sto,σ0.length=σ1.length→bk (σ0 ++ τ) l m ws :=
 (rU (wf:=wf) (n:=n) H hlw G hw).elim fun τ h=>⟨_,τ,BJ he h.1,h.2⟩
theorem AZ (H:lO P) {es:List E}{fr:Fra} (he:cg (evFn P wf (n + 3)) es fr σ=.ok [.int m,.ref lw] σ1) (hlw:σ1[lw]?=some (.lst (ws.map wayV))) (G:aG m ws) (hw:14 ≤ wf) :
  ∃ l τ,evE (evFn P wf (n + 3)) (.mk 11 es) fr σ=.ok (.ref l) (σ1 ++ τ) ∧ bk (σ1 ++ τ) l m ws :=
 let ⟨l,τ,h1,h2⟩:=yc H he hlw G hw; ⟨l,τ,h1,h2 _ rfl⟩
theorem oX (H:lO P) (h14:P 14=some fz) {l:Nat} (W:bk σ l m ws) (G:aG m ws) (hw:14 ≤ wf):∃ l' τ,evFn P wf (n + 4) 14 [.ref l] σ=.ok (.ref l') (σ ++ τ) ∧ bk (σ ++ τ) l' m (flip ws):=by
 obtain ⟨d,lw,a,b,c⟩:=W.at'
 obtain ⟨l',τ,h1,h2⟩:=AZ (wf:=wf) (n:=n) (σ:=σ) H (es:=[(E.loc 0).attr 0,E.comp [1] true ((E.loc 0).attr 1) [] (E.tup [(E.loc 1).sub (E.int 1),(E.loc 1).sub (E.int 0),(E.loc 1).sub (E.int 2)]) [none,none]]) (fr:=aR fz [.ref l])
  (aa (cm (ac rfl) (bO a b)) (aa (uX (cm (ac rfl) (cF a b)) c G.hz) ae)) am G.flip hw
 rw [List.append_assoc] at h1 h2
 exact ⟨l',_,bp h14 rfl (aO h1),h2⟩
end
end Mine
namespace Mine
open PySem
structure ei (m M:Nat) (o:List Nat) (ring:Bool) (i:Nat) (ws:List Way):Prop where
 len:ws.length ≤ 2 * i
 ends:∀ w ∈ ws,w.1 < m ∧ w.2.1 < m
 del:∀ w ∈ ws,w.2.2 < M
 r:ring=true→∀ k,k < i→∃ d,(o.getD k 0,o.getD ((k + 1) % m) 0,d) ∈ ws
 t:ring=false→∀ k,1 ≤ k→k < i→(∃ p d,p < k ∧ (o.getD p 0,o.getD k 0,d) ∈ ws) ∧ ∃ p d,p < k ∧ (o.getD k 0,o.getD p 0,d) ∈ ws
theorem cp {α:Type}{l:List α}{x y:α} (h:x ∈ l ++ [y]):x ∈ l ∨ x=y:=(List.mem_append.mp h).imp_right fun h=>List.mem_singleton.mp h
section
variable {m M i:Nat}{o:List Nat}{ring:Bool}{ws:List Way}
theorem ei.start:ei m M o ring 0 []:=⟨Nat.zero_le _,(fun _ h=>nomatch h),(fun _ h=>nomatch h),fun _ _ h=>absurd h (Nat.not_lt_zero _),fun _ _ _ h=>absurd h (Nat.not_lt_zero _)⟩
theorem ei.ring1 (B:ei m M o true i ws) (ho:∀ k,k < m→o.getD k 0 < m) (hi:i < m) {d:Nat} (hd:d < M):ei m M o true (i + 1) (ws ++ [(o.getD i 0,o.getD ((i + 1) % m) 0,d)]):=by
 refine ⟨?_,fun w hw=>?_,fun w hw=>?_,fun _ k hk=>?_,fun h=>nomatch h⟩
 ·rw [List.length_append]; have:=B.len; show ws.length + 1 ≤ _; lia
 ·rcases cp hw with hw | rfl
  ·exact B.ends w hw
  ·exact ⟨ho i hi,ho _ (Nat.mod_lt _ (by lia))⟩
 ·rcases cp hw with hw | rfl
  ·exact B.del w hw
  ·exact hd
 ·by_cases e:k=i
  ·subst e; exact ⟨d,List.mem_append_right _ (.head _)⟩
  ·obtain ⟨d,h⟩:=B.r rfl k (by lia)
   exact ⟨d,List.mem_append_left _ h⟩
theorem ei.tree0 (B:ei m M o false 0 ws):ei m M o false 1 ws:=⟨Nat.le_trans B.len (by decide),B.ends,B.del,(fun h=>nomatch h),fun _ k h1 h2=>by lia⟩
theorem ei.tree1 (B:ei m M o false i ws) (ho:∀ k,k < m→o.getD k 0 < m) (hi:i < m) {p q d d':Nat} (hp:p < i) (hq:q < i) (hd:d < M) (hd':d' < M):ei m M o false (i + 1) (ws ++ [(o.getD p 0,o.getD i 0,d)] ++ [(o.getD i 0,o.getD q 0,d')]):=by
 refine ⟨?_,fun w hw=>?_,fun w hw=>?_,(fun h=>nomatch h),fun _ k h1 hk=>?_⟩
 ·rw [List.length_append,List.length_append]; have:=B.len; show ws.length + 1 + 1 ≤ _; lia
 ·rcases cp hw with hw | rfl
  ·rcases cp hw with hw | rfl
   ·exact B.ends w hw
   ·exact ⟨ho p (by lia),ho i hi⟩
  ·exact ⟨ho i hi,ho q (by lia)⟩
 ·rcases cp hw with hw | rfl
  ·rcases cp hw with hw | rfl
   ·exact B.del w hw
   ·exact hd
  ·exact hd'
 ·by_cases e:k=i
  ·subst e
   exact ⟨⟨p,d,hp,List.mem_append_left _ (List.mem_append_right _ (.head _))⟩,q,d',hq,List.mem_append_right _ (.head _)⟩
  ·obtain ⟨⟨p,d,h1,h2⟩,q,d',h3,h4⟩:=B.t rfl k h1 (by lia)
   exact ⟨⟨p,d,h1,List.mem_append_left _ (List.mem_append_left _ h2)⟩,q,d',h3,List.mem_append_left _ (List.mem_append_left _ h4)⟩
structure cR (m M K:Nat) (ws:List Way):Prop where
 len:ws.length ≤ K
 ends:∀ w ∈ ws,w.1 < m ∧ w.2.1 < m
 del:∀ w ∈ ws,w.2.2 < M
 sc:∀ a b,a < m→b < m→bI ws a b
 ne:ws ≠ []
theorem bI.mono {ws':List Way} (h:∀ w ∈ ws,w ∈ ws') {a b:Nat} (r:bI ws a b):bI ws' a b:=by
 obtain ⟨n,t,w⟩:=r
 refine ⟨n,t,?_⟩
 induction w with
 | nil=>exact .nil
 | step _ hw ih=>exact .step ih (h _ hw)
theorem cR.more (L:cR m M i ws) {w:Way} (h1:w.1 < m) (h2:w.2.1 < m) (h3:w.2.2 < M):cR m M (i + 1) (ws ++ [w]):=by
 refine ⟨?_,fun u hu=>?_,fun u hu=>?_,fun a b ha hb=>(L.sc a b ha hb).mono fun w hw=>List.mem_append_left _ hw,fun q=>L.ne (List.append_eq_nil_iff.mp q).1⟩
 ·rw [List.length_append]; exact Nat.succ_le_succ L.len
 ·rcases cp hu with hu | rfl
  ·exact L.ends u hu
  ·exact ⟨h1,h2⟩
 ·rcases cp hu with hu | rfl
  ·exact L.del u hu
  ·exact h3
theorem ei.good (B:ei m M o ring m ws) (hm:1 ≤ m) (hr:m=1→ring=true) (hp:o.Perm (List.range m)):cR m M (2 * m) ws:=by
 have hl:o.length=m:=by rw [hp.length_eq,List.length_range]
 have at':∀ a,a < m→∃ k,k < m ∧ o.getD k 0=a:=fun a ha=>by
  obtain ⟨k,hk,e⟩:=List.getElem_of_mem (hp.mem_iff.mpr (List.mem_range.mpr ha))
  exact ⟨k,by lia,by rw [eg hk]; exact e⟩
 have sc:∀ k k',k < m→k' < m→bI ws (o.getD k 0) (o.getD k' 0):=by
  intro k k' hk hk'
  cases ring with
  | true =>
   have go:∀ j,bI ws (o.getD k 0) (o.getD ((k + j) % m) 0):=fun j=>by
    induction j with
    | zero=>rw [Nat.add_zero,Nat.mod_eq_of_lt hk]; exact bI.self
    | succ j ih =>
     obtain ⟨d,h⟩:=B.r rfl ((k + j) % m) (Nat.mod_lt _ hm)
     rw [Nat.mod_add_mod] at h
     exact ih.trans (bI.one h)
   have:=go (m - k + k')
   rwa [show k + (m - k + k')=k' + m by lia,Nat.add_mod_right,Nat.mod_eq_of_lt hk'] at this
  | false =>
   have up:∀ k,k < m→bI ws (o.getD 0 0) (o.getD k 0):=fun k=>by
    induction k using Nat.strongRecOn with
    | _ k ih =>
     intro hk
     by_cases h0:k=0
     ·subst h0; exact bI.self
     ·obtain ⟨⟨p,d,h1,h2⟩,_⟩:=B.t rfl k (by lia) hk
      exact (ih p h1 (by lia)).trans (bI.one h2)
   have down:∀ k,k < m→bI ws (o.getD k 0) (o.getD 0 0):=fun k=>by
    induction k using Nat.strongRecOn with
    | _ k ih =>
     intro hk
     by_cases h0:k=0
     ·subst h0; exact bI.self
     ·obtain ⟨_,p,d,h1,h2⟩:=B.t rfl k (by lia) hk
      exact (bI.one h2).trans (ih p h1 (by lia))
   exact (down k hk).trans (up k' hk')
 refine ⟨B.len,B.ends,B.del,fun a b ha hb=>?_,fun q=>?_⟩
 ·obtain ⟨k,hk,rfl⟩:=at' a ha
  obtain ⟨k',hk',rfl⟩:=at' b hb
  exact sc k k' hk hk'
 ·cases ring with
  | true =>
   obtain ⟨d,h⟩:=B.r rfl 0 hm
   rw [q] at h; cases h
  | false =>
   have:m ≠ 1:=fun e=>nomatch hr e
   obtain ⟨⟨p,d,_,h⟩,_⟩:=B.t rfl 1 (Nat.le_refl _) (by lia)
   rw [q] at h; cases h
theorem cR.good (L:cR m M i ws) (m1:1 ≤ m) (m2:m ≤ 12) (hi:i ≤ 60) (hM:M ≤ 10000):aG m ws :=
 ⟨m1,m2,Nat.le_trans L.len hi,L.ends,fun w hw=>by have:=L.del w hw; lia,L.sc,L.ne⟩
end
theorem mc {α:Type} (p:Int × α):∀ l:List (Int × α),(oQ p l).Perm (p :: l)
 | []=>.refl _
 | q :: r=>by
  show (if p.1 < q.1 then p :: q :: r else q :: oQ p r).Perm _
  split
  ·exact .refl _
  ·exact ((mc p r).cons q).trans (.swap _ _ _)
theorem ms {α:Type}:∀ l:List (Int × α),(fm l).Perm l
 | []=>.refl _
 | p :: r=>(mc p _).trans ((ms r).cons p)
noncomputable def vR (v:V):Nat:=match v with | .int i=>i.toNat | _=>0
theorem rX {l:List V}{r:List Nat} (h:l.Perm (natsV r)):∃ o:List Nat,l=natsV o ∧ o.Perm r:=by
 refine ⟨l.map vR,?_,?_⟩
 ·unfold natsV
  rw [List.map_map]
  refine Eq.trans (List.map_id _).symm (List.map_congr_left fun v hv=>?_)
  obtain ⟨x,_,rfl⟩:=List.mem_map.mp (h.mem_iff.mp hv)
  rfl
 ·have:=h.map vR
  unfold natsV at this
  rw [List.map_map] at this
  have e:(vR ∘ fun (v:Nat)=>V.int v)=id:=rfl
  rwa [e,List.map_id] at this
theorem nP:∀ (c:Nat),1 ≤ c→c ≤ 12→∀ j k:Nat,j < 12→k < 12→(j + 1) * c % 13=(k + 1) * c % 13→j=k:=by
 intro c c1 c2 j k hj hk
 have:∀ (c:Fin 13) (j k:Fin 12),1 ≤ c.1→(j.1 + 1) * c.1 % 13=(k.1 + 1) * c.1 % 13→j.1=k.1:=by decide
 exact this ⟨c,by lia⟩ ⟨j,hj⟩ ⟨k,hk⟩ c1
end Mine
namespace Mine
open PySem
noncomputable def fy:Fn:={ ps:=[0,1],size:=3,body:=[S.ifS (E.cmp .Lt (E.loc 1) (E.blt .len [E.loc 0])) [S.ret ((E.loc 0).sub (E.loc 1))] [],S.ret (E.int 0)] }
noncomputable def pc:Fn:={ ps:=[0],size:=4,body:=[S.ret (((E.loc 0).isi Ty.int).and ((E.loc 0).isi Ty.bool).not)] }
noncomputable def rr:Fn:={ ps:=[0,1],size:=2,body:=[S.ret (E.bin .Mod (E.bin .Mult (E.bin .Add (E.bin .Add (E.loc 0) (E.bin .Mult (E.int 7919) (E.loc 1))) (E.int 1)) (E.int 48271)) (E.int 2147483647))] }
theorem zY {x y:Int} {σ:Sto} (h:gJ x y):mt .Mult (.int x) (.int y) σ=.ok (.int (x * y)) σ:=if_pos h
theorem yp {x y:Int} {σ:Sto} (h:x.natAbs < 2 ^ 64):mt .Mult (.int x) (.int y) σ=.ok (.int (x * y)) σ:=if_pos (.inl h)
theorem yX {x y:Int} {σ:Sto} (h:y.natAbs < 2 ^ 64):mt .Mult (.int x) (.int y) σ=.ok (.int (x * y)) σ:=if_pos (.inr (.inl h))
theorem dc {x y:Int} {σ:Sto} (h:y ≠ 0):mt .Mod (.int x) (.int y) σ=.ok (.int (x.fmod y)) σ:=if_neg h
theorem fJ {x y:Int} {σ:Sto} (h:y ≠ 0) (h':y.natAbs < 10 ^ 100):mt .FloorDiv (.int x) (.int y) σ=.ok (.int (x.fdiv y)) σ:=if_pos ⟨h,h'⟩
section
variable {P:Nat→Option Fn}{wf n:Nat} {σ:Sto}
def aH (σ:Sto) (sc:List Int):Prop:=σ[0]?=some (.frz (sc.map V.int))
theorem dM (h:P 20=some fy) {sc:List Int} (hs:aH σ sc) (k:Nat):evFn P wf (n + 1) 20 [.ref 0,.int k] σ=.ok (.int (sc.getD k 0)) σ:=by
 have hl:iy .len [.ref 0] σ=.ok (.int sc.length) σ:=by
  show bZ σ ((tl (.ref 0) σ).map V.int)=_
  unfold tl; dsimp only; rw [hs]; dsimp only
  show RE.ok (.int ((sc.map V.int).length:Nat)) σ=_
  rw [List.length_map]
 by_cases hk:k < sc.length
 ·refine bp h rfl (cM (aM (ac rfl) (ba (aa (ac rfl) ae) hl) (congrArg some (decide_eq_true (Int.ofNat_lt.mpr hk)))) (aO (aC (ac rfl) (ac rfl) ?_)))
  unfold jE; dsimp only; rw [hs]; show oM _ _=_; unfold oM
  rw [if_pos (Int.natCast_nonneg k)]
  show (sc.map V.int)[k]?=_
  rw [List.getElem?_map,List.getElem?_eq_getElem hk,List.getD_eq_getElem?_getD,List.getElem?_eq_getElem hk]; rfl
 ·rw [List.getD_eq_getElem?_getD,List.getElem?_eq_none_iff.mpr (Nat.le_of_not_lt hk)]
  exact bp h rfl (aW (aM (ac rfl) (ba (aa (ac rfl) ae) hl) (congrArg some (decide_eq_false (by lia)))) (aO aj))
theorem uE (h:P 21=some pc) {x:Int}:evFn P wf (n + 1) 21 [.int x] σ=.ok (.bool true) σ :=
 bp h rfl (aO (cG (jD (ac rfl) rfl) (vF (jD (ac rfl) rfl))))
noncomputable def mixN (c k:Int):Nat:=(Int.fmod ((c + 7919 * k + 1) * 48271) 2147483647).toNat
theorem nJ (h:P 22=some rr) {c k:Int}:evFn P wf (n + 1) 22 [.int c,.int k] σ=.ok (.int (mixN c k:Nat)) σ:=by
 refine bp h rfl (aO (ar (ar (ar (ar (ac rfl) (ar aj (ac rfl) (yp (by decide))) rfl) aj rfl) aj (yX (by decide))) aj ((dc (by decide)).trans ?_)))
 unfold mixN
 rw [Int.toNat_of_nonneg (Int.fmod_nonneg_of_pos _ (by decide))]
end
noncomputable def du (β:Sto) (ws:List Way) (τ:Sto):Sto:=β ++ .lst (ws.map wayV) :: τ
section
variable {call:Nat→List V→Sto→RE}{wf:Nat} {β τ τ':Sto}{ws:List Way}{m lo:Nat}{x4 x5:Option V}{rest:Fra}
end
section
variable {P:Nat→Option Fn}{wf n:Nat} {β:Sto}{sc:List Int}{m M lo j:Nat}{o:List Nat}{rest:Fra}{cell:Int}
noncomputable def oz (m:Nat) (cell:Int):Bool:=(m:Int) == 1 || Int.fmod (Int.fdiv cell 12) 2 == 0
end
end Mine
namespace Mine
set_option backward.match.sparseCases false
open PySem
section
variable {P:Nat→Option Fn}{wf n:Nat} {σ β:Sto}{sc:List Int}{m M lo j:Nat}{o:List Nat}{rest:Fra}{cell:Int}
theorem a9 (q:Nat) (hq:1 ≤ q) (c:Int):∃ k:Nat,k < q ∧ c.fmod q=(k:Int):=by
 have h1:=Int.fmod_nonneg_of_pos c (b:=(q:Int)) (by lia)
 have h2:=Int.fmod_lt_of_pos c (b:=(q:Int)) (by lia)
 exact ⟨(c.fmod q).toNat,by lia,by lia⟩
end
end Mine
namespace Mine
open PySem
theorem rC (l:List Int):∀ a:Int,(l.foldl (fun a b=>if a < b then b else a) a=a ∨ l.foldl (fun a b=>if a < b then b else a) a ∈ l) ∧ a ≤ l.foldl (fun a b=>if a < b then b else a) a ∧ ∀ x ∈ l,x ≤ l.foldl (fun a b=>if a < b then b else a) a:=by
 induction l with
 | nil=>exact fun a=>⟨.inl rfl,Int.le_refl _,nofun⟩
 | cons x l ih =>
  intro a
  rw [List.foldl_cons]
  obtain ⟨h1,h2,h3⟩:=ih (if a < x then x else a)
  have h4:a ≤ (if a < x then x else a) ∧ x ≤ (if a < x then x else a) ∧ ((if a < x then x else a)=a ∨ (if a < x then x else a)=x):=by split <;> lia
  refine ⟨?_,Int.le_trans h4.1 h2,fun y hy=>?_⟩
  ·rcases h1 with h1 | h1
   ·rw [h1]
    rcases h4.2.2 with q | q
    ·exact .inl q
    ·exact .inr (by rw [q]; exact .head _)
   ·exact .inr (.tail _ h1)
  ·rcases List.mem_cons.mp hy with rfl | hy
   ·exact Int.le_trans h4.2.1 h2
   ·exact h3 y hy
theorem r9 {is:List Int} (h:is ≠ []):∃ mx,jl is=some mx ∧ mx ∈ is ∧ ∀ x ∈ is,x ≤ mx:=by
 cases is with
 | nil=>exact absurd rfl h
 | cons x l =>
  obtain ⟨h1,h2,h3⟩:=rC l x
  refine ⟨_,rfl,?_,fun y hy=>?_⟩
  ·rcases h1 with h1 | h1
   ·rw [h1]; exact .head _
   ·exact .tail _ h1
  ·rcases List.mem_cons.mp hy with rfl | hy
   ·exact h2
   ·exact h3 y hy
noncomputable def oO (ws:List Way) (x:Nat→Int) (v:Nat):List Int:=(ws.filter fun w=>w.2.1 == v).map fun w=>x w.1 + (w.2.2:Int)
noncomputable def cV (ws:List Way) (x:Nat→Int) (v:Nat):Int:=(jl (oO ws x v)).getD 0
noncomputable def bw (ws:List Way) (x:Nat→Int):Nat→Nat→Int
 | 0=>x
 | t + 1=>cV ws (bw ws x t)
structure Ins (ws:List Way) (m:Nat):Prop where
 hm:∀ w ∈ ws,w.1 < m ∧ w.2.1 < m
 inn:∀ v,v < m→∃ w ∈ ws,w.2.1=v
section
variable {ws:List Way}{m:Nat}{x y S:Nat→Int}{c:Int}
theorem wS (H:Ins ws m) {v:Nat} (hv:v < m):oO ws x v ≠ []:=fun e=>by
 obtain ⟨w,hw,rfl⟩:=H.inn v hv
 have:x w.1 + (w.2.2:Int) ∈ oO ws x w.2.1:=List.mem_map.mpr ⟨w,List.mem_filter.mpr ⟨hw,beq_self_eq_true _⟩,rfl⟩
 rw [e] at this; cases this
theorem mK (H:Ins ws m) {v:Nat} (hv:v < m):jl (oO ws x v)=some (cV ws x v):=by
 obtain ⟨mx,h,_⟩:=r9 (wS (x:=x) H hv)
 unfold cV; rw [h]; rfl
end
end Mine
namespace Mine
open PySem
noncomputable def yr:Fn:={ ps:=[0,1],size:=2,body :=
 [S.expr ((E.loc 0).umeth 12 [E.loc 1]),S.ret (E.comp [1] true ((E.loc 0).attr 1) [E.cmp .Eq ((E.loc 1).sub (E.int 1)) (E.loc 2)] (E.tup [(E.loc 1).sub (E.int 0),(E.loc 1).sub (E.int 2)]) [none,none,some 1])] }
noncomputable def u9:E:=E.comp [1,2] false ((E.loc 0).umeth 15 [E.loc 3]) [] (E.bin .Add ((E.loc 3).sub (E.loc 1)) (E.loc 2)) [none,none,none,some 1]
noncomputable def uQ:List S:=[S.expr ((E.loc 2).meth .append [E.blt .max [u9]])]
noncomputable def uK:Fn:={ ps:=[0,1],size:=8,body :=
 [S.ifS (E.cmp .NotEq (E.blt .len [E.loc 1]) ((E.loc 0).attr 0)) [S.raise (xc 0)] [],S.asg 2 (E.list []),
  S.forS [3] true (It.e (E.blt .range [(E.loc 0).attr 0])) uQ,S.ret (E.loc 2)] }
noncomputable def uT:List S:=[S.expr ((E.loc 3).meth .append [(E.loc 0).umeth 16 [(E.loc 3).sub (E.int 1).neg]])]
noncomputable def mP:Fn:={ ps:=[0,1,2],size:=9,body :=
 [S.ifS (E.cmp .NotEq (E.blt .len [E.loc 1]) ((E.loc 0).attr 0)) [S.raise (xc 0)] [],S.asg 3 (E.list [E.blt .list [E.loc 1]]),
  S.forS [4] true (It.e (E.blt .range [E.loc 2])) uT,S.ret (E.loc 3)] }
noncomputable def t5 (w:Way):V:=.tup [.int w.1,.int w.2.2]
noncomputable def accS (σ:Sto) (xs:List V) (τ:Sto):Sto:=σ ++ .lst xs :: τ
theorem ji {σ τ:Sto}{xs ys:List V}:dy (accS σ xs τ) σ.length ys=accS σ ys τ:=by unfold dy accS; exact dB
theorem co {σ τ υ:Sto}{xs:List V}:accS σ xs τ ++ υ=accS σ xs (τ ++ υ):=List.append_assoc _ _ _
theorem dR {i:Nat}{y:Nat→Int}:intsV (i + 1) y=intsV i y ++ [V.int (y i)]:=by
 unfold intsV; rw [List.range_succ,List.map_append]; rfl
theorem fX (is:List Int):aE (is.map V.int)=some is:=by
 have:aV zu (is.map V.int)=some (is.map id):=dj fun _ _=>rfl
 rwa [List.map_id] at this
theorem vz {σ:Sto}{l:Nat}{is:List Int}{i:Int} (h:σ[l]?=some (.lst (is.map V.int))) (h2:jl is=some i):iy .max [.ref l] σ=.ok (.int i) σ:=by
 show bZ σ ((((getL σ l).bind aE).bind jl).map V.int)=_
 rw [ag h]
 show bZ σ (((aE (is.map V.int)).bind jl).map V.int)=_
 rw [fX]
 show bZ σ ((jl is).map V.int)=_
 rw [h2]; rfl
theorem aG.ins {m:Nat}{ws:List Way} (G:aG m ws):Ins ws m:=⟨G.hm,fun v hv=>by
 obtain ⟨w,hw,e⟩:=G.flip.ok.hO v hv
 obtain ⟨a,b,d⟩:=w
 exact ⟨(b,a,d),nF.mp hw,e⟩⟩
structure ef (P:Nat→Option Fn):Prop where
 h8:P 8=some cQ
 h12:P 12=some ru
 h15:P 15=some yr
 h16:P 16=some uK
 h17:P 17=some mP
section
variable {P:Nat→Option Fn}{wf n:Nat} {σ:Sto}{l m lt:Nat}{ws:List Way}{x:Nat→Int}
theorem sy (H:ef P) (W:bk σ l m ws) (hz:ws.length ≤ 60) {v:Nat} (hv:v < m):evFn P wf (n + 3) 15 [.ref l,.int v] σ=.ok (.ref σ.length) (σ ++ [.lst ((ws.filter fun w=>w.2.1 == v).map t5)]):=by
 obtain ⟨d,lw,a,b,c⟩:=W.at'
 refine bp H.h15 rfl (bu (bK (ac rfl) a b (aa (ac rfl) ae) (lX (n:=n) H.h8 H.h12 W hv)) (aO (fK (ws:=ws) (g:=wayV) (p:=fun w=>w.2.1 == v) (f:=t5) (cm (ac rfl) (cF a b)) (ag c) (fun w hw=>⟨_,rfl,oh (aM (aC (ac rfl) aj rfl) (ac rfl) (congrArg some (dm w.2.1 v))),fun _=>dz (aa (aC (ac rfl) aj rfl) (aa (aC (ac rfl) aj rfl) ae)) (by decide:2 ≤ 1000)⟩) (ai ?_))))
 rw [List.length_map]; exact Nat.le_trans (List.length_filter_le _ _) (Nat.le_trans hz (by decide))
theorem v4 (H:ef P) (W:bk σ l m ws) (G:aG m ws) (ht:σ[lt]?=some (.lst (intsV m x))) {v:Nat} (hv:v < m) {fr:Fra} (h0:fr[0]?=some (some (.ref l))) (h3:fr[3]?=some (some (.int v))) (hs:dA fr [none,none,none,some 1]=[none,none,none,some (.ref lt)]) :
  ∃ τ,evE (evFn P wf (n + 3)) (E.blt .max [u9]) fr σ=.ok (.int (cV ws x v)) (σ ++ τ):=by
 obtain ⟨d,lw,a,b,c⟩:=W.at'
 refine ⟨[.lst ((ws.filter fun w=>w.2.1 == v).map t5)] ++ [.lst ((oO ws x v).map V.int)],?_⟩
 rw [← List.append_assoc]
 refine ba (aa (fK (ws:=ws.filter fun w=>w.2.1 == v) (g:=t5) (p:=fun _=>true) (f:=fun w=>V.int (x w.1 + (w.2.2:Int))) (bK (ac h0) a b (aa (ac h3) ae) (sy (n:=n) H W G.hz hv)) (ag am) (fun w hw=>?_) ?_) ae) (vz am (mK G.ins hv))
 ·rw [hs]
  exact ⟨_,rfl,pM,fun _=>ar (aC (ac rfl) (ac rfl) (aN (ap ht) (aX (G.hm w (List.mem_filter.mp hw).1).1))) (ac rfl) rfl⟩
 ·rw [List.filter_eq_self.mpr (fun _ _=>rfl),show ((ws.filter fun w=>w.2.1 == v).map fun w=>V.int (x w.1 + (w.2.2:Int)))=(oO ws x v).map V.int by unfold oO; rw [List.map_map]; rfl]
  refine ai ?_
  unfold oO
  rw [List.length_map,List.length_map]; exact Nat.le_trans (List.length_filter_le _ _) (Nat.le_trans G.hz (by decide))
theorem mA {call:Nat→List V→Sto→RE}{e:E}{k:Nat}{fr:Fra}{xs:List V} {τ τ':Sto}{v:V} (hk:fr[k]?=some (some (.ref σ.length))) (he:evE call e fr (accS σ xs τ)=.ok v (accS σ xs τ')) (hz:xs.length < 16777216):evSs call wf [S.expr ((E.loc k).meth .append [e])] fr (accS σ xs τ)=.ok .next fr (accS σ (xs ++ [v]) τ'):=by
 refine bu (cN (ac hk) (ag am) (aa he ae) (ag am) (l4 hz)) ?_
 rw [ji]; exact a6
theorem o4 (h:σ[lt]?=some (.lst (intsV m x))) {d lw:Nat}{call:Nat→List V→Sto→RE}{fr:Fra} (h0:fr[0]?=some (some (.ref l))) (h1:fr[1]?=some (some (.ref lt))) (a:σ[l]?=some (.inst d)) (b:σ[d]?=some (.att [(0,.int m),(1,.ref lw)])) :
  evE call (E.cmp .NotEq (E.blt .len [E.loc 1]) ((E.loc 0).attr 0)) fr σ=.ok (.bool false) σ:=by
 refine aM (ba (aa (ac h1) ae) (dv h)) (cm (ac h0) (bO a b)) ?_
 rw [aP]; exact mF
theorem jj (H:ef P) (W:bk σ l m ws) (G:aG m ws) (ht:σ[lt]?=some (.lst (intsV m x))) :
  ∃ τ,evFn P wf (n + 4) 16 [.ref l,.ref lt] σ=.ok (.ref σ.length) (accS σ (intsV m (cV ws x)) τ):=by
 obtain ⟨d,lw,a,b,c⟩:=W.at'
 have hm:=G.m2
 obtain ⟨z,e1,_⟩:=lJ (call:=evFn P wf (n + 3)) (wf:=wf) (tg:=[3]) (one:=true) (ws:=List.range m) (g:=fun (v:Nat)=>V.int v) (it:=E.blt .range [(E.loc 0).attr 0]) (bs:=uQ) (σ:=accS σ [] [])
  (F:=fun _ (z:Option V × Sto)=>[some (.ref l),some (.ref lt),some (.ref σ.length),z.1,none,none,none,none]) (S:=fun i z=>accS σ (intsV i (cV ws x)) z.2) (J:=fun _ _=>True) (none,[])
  (ba (aa (cm (ac rfl) (bO (ap a) (ap b))) ae) (bo (by lia))) (br m)
  (fun i v z hv _=>by
   obtain ⟨hi,rfl⟩:=bg hv
   obtain ⟨υ,e⟩:=v4 (wf:=wf) (n:=n) (σ:=accS σ (intsV i (cV ws x)) z.2) (x:=x) (fr:=[some (.ref l),some (.ref lt),some (.ref σ.length),some (.int i),none,none,none,none]) H (W.app (τ:=_)) G (ap ht) hi rfl rfl rfl
   rw [co] at e
   refine ⟨_,rfl,(some (.int i),z.2 ++ υ),?_,trivial⟩
   rw [dR]
   exact mA rfl e (by rw [aP]; lia)) trivial
 rw [List.length_range] at e1
 exact ⟨z.2,bp H.h16 rfl (aW (o4 ht rfl rfl a b) (ak (bf ae (ai (by decide:0 ≤ 16777216))) (by decide:2 < 8) (a4 e1 (aO (ac rfl)))))⟩
end
end Mine
namespace Mine
open PySem
noncomputable def uS:E:=E.blt .tuple [E.comp [1] true (E.loc 3) [] (E.bin .Sub (E.loc 1) ((E.loc 2).sub (E.int 0))) [none,none,some 3]]
noncomputable def ja:List S :=
 [S.asg 7 uS,
  S.ifS (E.cmp .In (E.loc 7) (E.loc 4)) [S.ret (E.tup [(E.loc 4).sub (E.loc 7),E.bin .Sub (E.loc 6) ((E.loc 4).sub (E.loc 7)),E.bin .Sub ((E.loc 3).sub (E.int 0)) ((E.loc 5).sub ((E.loc 4).sub (E.loc 7)))])] [],
  S.asgI (E.loc 4) (E.loc 7) (E.loc 6),S.expr ((E.loc 5).meth .append [(E.loc 3).sub (E.int 0)]),S.asg 3 ((E.loc 0).umeth 16 [E.loc 3])]
noncomputable def bP:Fn:={ ps:=[0,1,2],size:=10,body :=
 [S.asg 3 (((E.loc 0).umeth 17 [E.loc 1,E.int 0]).sub (E.int 0)),S.asg 4 E.dict0,S.asg 5 (E.list []),
  S.forS [6] true (It.e (E.blt .range [E.bin .Add (E.loc 2) (E.int 1)])) ja,S.ret E.none] }
noncomputable def ax (m:Nat) (x:Nat→Int):List Int:=(List.range m).map fun v=>x v - x 0
theorem jw {m:Nat}{x y:Nat→Int} (h:ax m x=ax m y) {v:Nat} (hv:v < m):y v=x v + (y 0 - x 0):=by
 have:=congrArg (fun l=>l[v]?) h
 unfold ax at this
 rw [List.getElem?_map,List.getElem?_map,List.getElem?_range hv] at this
 have h2:x v - x 0=y v - y 0:=Option.some.inj this
 lia
noncomputable def bT (m:Nat) (X:Nat→Nat→Int) (i:Nat):List (List Int × V):=(List.range i).map fun t=>(ax m (X t),V.int (t:Nat))
theorem kc {m i:Nat}{X:Nat→Nat→Int}:bT m X (i + 1)=bT m X i ++ [(ax m (X i),V.int (i:Nat))]:=by
 unfold bT; rw [List.range_succ,List.map_append]; rfl
theorem wT {k:List Int}{v:V}{es:List (List Int × V)} (h:(es.any fun e=>e.1 == k)=false):l3 k v es=es ++ [(k,v)]:=by
 induction es with
 | nil=>rfl
 | cons e es ih =>
  rw [List.any_cons,Bool.or_eq_false_iff] at h
  show (if (e.1 == k)=true then (e.1,v) :: es else e :: l3 k v es)=_
  rw [h.1,ih h.2]; rfl
theorem m9 {m i:Nat}{X:Nat→Nat→Int}{k:List Int} (h:((bT m X i).any fun e=>e.1 == k)=true):∃ t,t < i ∧ ax m (X t)=k ∧ (bT m X i).lookup k=some (V.int (t:Nat)):=by
 induction i with
 | zero=>exact absurd h Bool.false_ne_true
 | succ i ih =>
  rw [kc] at h ⊢
  have happ:∀ {es es':List (List Int × V)},(es ++ es').lookup k=(es.lookup k).or (es'.lookup k):=fun {es es'}=>by
   induction es with
   | nil=>rfl
   | cons e es ih2 =>
    rw [List.cons_append,List.lookup_cons,List.lookup_cons,ih2]
    cases k == e.1 <;> rfl
  rw [happ]
  by_cases h1:((bT m X i).any fun e=>e.1 == k)=true
  ·obtain ⟨t,ht,hk,hl⟩:=ih h1
   exact ⟨t,by lia,hk,by rw [hl]; rfl⟩
  ·have h1:=Bool.eq_false_iff.mpr h1
   rw [List.any_append,h1,Bool.false_or,List.any_cons,List.any_nil,Bool.or_false] at h
   have hk:ax m (X i)=k:=eq_of_beq h
   have hn:(bT m X i).lookup k=none:=by
    rw [List.lookup_eq_none_iff]
    intro e he
    rw [List.any_eq_false] at h1
    have:=h1 e he
    rw [Bool.not_eq_true,beq_eq_false_iff_ne] at this
    exact bne_iff_ne.mpr (Ne.symm this)
   refine ⟨i,Nat.lt_succ_self _,hk,?_⟩
   rw [hn,List.lookup_cons,show (k == ax m (X i))=true from beq_iff_eq.mpr hk.symm]; rfl
section
variable {P:Nat→Option Fn}{wf n:Nat} {σ:Sto}{l m lt lh:Nat}{ws:List Way}{x:Nat→Int}{call:Nat→List V→Sto→RE}
theorem ti {fr:Fra} (hm:1 ≤ m ∧ m ≤ 12) (h3:fr[3]?=some (some (.ref lh))) (hs:dA fr [none,none,some 3]=[none,none,some (.ref lh)]) (ht:σ[lh]?=some (.lst (intsV m x))) :
  evE call uS fr σ=.ok (.tup ((ax m x).map V.int)) (σ ++ [.lst ((ax m x).map V.int)]):=by
 have e1:evE call (E.comp [1] true (E.loc 3) [] (E.bin .Sub (E.loc 1) ((E.loc 2).sub (E.int 0))) [none,none,some 3]) fr σ=.ok (.ref σ.length) (σ ++ [.lst ((ax m x).map V.int)]):=by
  refine fK (ws:=List.range m) (g:=fun v=>V.int (x v)) (p:=fun _=>true) (f:=fun v=>V.int (x v - x 0)) (ac h3) (ag ht) (fun v hv=>?_) ?_
  ·rw [hs]
   exact ⟨_,rfl,pM,fun _=>ar (ac rfl) (aC (ac rfl) aj (aN (k:=0) ht (aX hm.1))) rfl⟩
  ·rw [List.filter_eq_self.mpr (fun _ _=>rfl),show ((List.range m).map fun v=>V.int (x v - x 0))=(ax m x).map V.int by unfold ax; rw [List.map_map]; rfl]
   refine ai ?_
   unfold ax; rw [List.length_map,List.length_map,List.length_range]; lia
 refine ba (aa e1 ae) ?_
 show (match getL (σ ++ [AO.lst ((ax m x).map V.int)]) σ.length with | some xs=>RE.ok (.tup xs) (σ ++ [AO.lst ((ax m x).map V.int)]) | none=>.bad)=_
 rw [ag am]
theorem r8 (H:ef P) (W:bk σ l m ws) (hm:m ≤ 12) (ht:σ[lt]?=some (.lst (intsV m x))):evFn P wf (n + 1) 17 [.ref l,.ref lt,.int 0] σ=.ok (.ref (σ.length + 1)) (σ ++ [.lst (intsV m x)] ++ [.lst [.ref σ.length]]):=by
 obtain ⟨d,lw,a,b,c⟩:=W.at'
 have e1:evE (evFn P wf n) (E.list [E.blt .list [E.loc 1]]) (aR mP [.ref l,.ref lt,.int 0]) σ=.ok (.ref (σ.length + 1)) (σ ++ [.lst (intsV m x)] ++ [.lst [.ref σ.length]]) :=
  (bf (aa (ba (aa (ac rfl) ae) (i0 ht (by rw [aP]; lia))) ae) (ai (by decide:1 ≤ 16777216))).trans (by rw [List.length_append]; rfl)
 exact bp H.h17 rfl (aW (o4 ht rfl rfl a b) (ak e1 (by decide:3 < 9) (a4 (fr1:=[some (.ref l),some (.ref lt),some (.int 0),some (.ref (σ.length + 1)),none,none,none,none,none]) (σ1:=σ ++ [.lst (intsV m x)] ++ [.lst [.ref σ.length]]) rfl (aO (ac rfl)))))
end
end Mine
namespace Mine
open PySem
noncomputable def fg (σ:Sto) (es:List (List Int × V)) (fs:List V) (τ:Sto):Sto:=σ ++ .dT es :: .lst fs :: τ
section
variable {σ τ:Sto}{es es':List (List Int × V)}{fs fs':List V}
theorem kL:(fg σ es fs τ)[σ.length]?=some (.dT es):=am
theorem su:(fg σ es fs τ)[σ.length + 1]?=some (.lst fs):=by
 unfold fg; rw [List.getElem?_append_right (Nat.le_add_right _ _),Nat.add_sub_cancel_left]; rfl
theorem gb {υ:Sto}:fg σ es fs τ ++ υ=fg σ es fs (τ ++ υ):=List.append_assoc _ _ _
theorem sh {o:List (List Int × V)}:(fg σ es fs τ).set σ.length (.dT o)=fg σ o fs τ:=dB
theorem rR {o:List V}:dy (fg σ es fs τ) (σ.length + 1) o=fg σ es o τ:=by
 unfold dy fg; rw [List.set_append_right _ _ (Nat.le_add_right _ _),Nat.add_sub_cancel_left]; rfl
theorem vV {k:Nat} (h1:k ≠ σ.length) (h2:k ≠ σ.length + 1):(fg σ es fs τ)[k]?=(fg σ es' fs' τ)[k]?:=by
 unfold fg
 by_cases h:k < σ.length
 ·rw [List.getElem?_append_left h,List.getElem?_append_left h]
 ·obtain ⟨j,rfl⟩:∃ j,k=σ.length + (j + 2):=⟨k - σ.length - 2,by lia⟩
  rw [List.getElem?_append_right (Nat.le_add_right _ _),List.getElem?_append_right (Nat.le_add_right _ _),Nat.add_sub_cancel_left]; rfl
theorem tP:(fg σ es fs τ).length=σ.length + (2 + τ.length):=by unfold fg; rw [List.length_append,List.length_cons,List.length_cons]; lia
theorem rl {d:Nat}{k:List Int} (h:σ[d]?=some (.dT es)):iE .In (.tup (k.map V.int)) (.ref d) σ=some (es.any fun e=>e.1 == k):=by
 show inV σ (.tup (k.map V.int)) (.ref d)=_
 unfold inV; dsimp only; rw [h]; show (aE _).map _=_; rw [fX]; rfl
theorem tU {d:Nat}{k:List Int}{v:V} (h:σ[d]?=some (.dT es)) (hv:es.lookup k=some v):jE (.ref d) (.tup (k.map V.int)) σ=some v:=by
 unfold jE; dsimp only; rw [h]; show (aE _).bind _=_; rw [fX]; exact hv
theorem sG {d:Nat}{k:List Int}{v:V} (h:σ[d]?=some (.dT es)) (hz:es.length < 1000000):dq (.ref d) (.tup (k.map V.int)) v σ=some (σ.set d (.dT (l3 k v es))):=by
 unfold dq; dsimp only; rw [h]; show (aE _).bind _=_; rw [fX]; exact if_pos hz
end
section
variable {P:Nat→Option Fn}{wf n:Nat} {σ σ0:Sto}{l m lt:Nat}{ws:List Way}{x:Nat→Int}
noncomputable def xj (l lt most lh d:Nat) (x6 x7:Option V):Fra:=[some (.ref l),some (.ref lt),some (.int most),some (.ref lh),some (.ref d),some (.ref (d + 1)),x6,x7,none,none]
noncomputable def jI (m:Nat) (X:Nat→Nat→Int) (i:Nat):Bool:=(bT m X i).any fun e=>e.1 == ax m (X i)
noncomputable def wK (m:Nat) (X:Nat→Nat→Int) (i:Nat):V:=match (bT m X i).lookup (ax m (X i)) with
 | some (.int t)=>.tup [.int t,.int ((i:Int) - t),.int (X i 0 - X t.toNat 0)]
 | _=>.none
def fG (m most:Nat) (X:Nat→Nat→Int) (w:V):Prop:=(w=.none ∧ ∀ j,j < most + 1→jI m X j=false) ∨ ∃ i,i < most + 1 ∧ jI m X i=true ∧ (∀ j,j < i→jI m X j=false) ∧ w=wK m X i
theorem fG.uniq {m most:Nat}{X:Nat→Nat→Int}{w w':V} (h:fG m most X w) (h':fG m most X w'):w=w':=by
 rcases h with ⟨rfl,h1⟩ | ⟨i,i1,i2,i3,rfl⟩
 ·rcases h' with ⟨rfl,_⟩ | ⟨j,j1,j2,_⟩
  ·rfl
  ·rw [h1 j j1] at j2; cases j2
 ·rcases h' with ⟨rfl,h1⟩ | ⟨j,j1,j2,j3,rfl⟩
  ·rw [h1 i i1] at i2; cases i2
  ·rcases Nat.lt_trichotomy i j with q | rfl | q
   ·rw [j3 i q] at i2; cases i2
   ·rfl
   ·rw [i3 j q] at j2; cases j2
inductive S1 (σ:Sto) (l lt most m:Nat) (ws:List Way) (x:Nat→Int) (i:Nat):Fra→Sto→Prop
 | mk (lh:Nat) (τ:Sto) (x6 x7:Option V) (hh:(fg σ (bT m (bw ws x) i) (intsV i fun t=>bw ws x t 0) τ)[lh]?=some (.lst (intsV m (bw ws x i)))) (hne:lh ≠ σ.length + 1) (hno:∀ j,j < i→jI m (bw ws x) j=false):S1 σ l lt most m ws x i (xj l lt most lh σ.length x6 x7) (fg σ (bT m (bw ws x) i) (intsV i fun t=>bw ws x t 0) τ)
structure xU (σ:Sto) (most m:Nat) (ws:List Way) (x:Nat→Int) (w:V) (σ':Sto):Prop where
 ex:∃ (t s:Nat) (g:Int) (τ:Sto),w=.tup [.int t,.int s,.int g] ∧ σ'=σ ++ τ ∧ 1 ≤ s ∧ t + s ≤ most ∧ (∀ v,v < m→bw ws x (t + s) v=bw ws x t v + g) ∧ fG m most (bw ws x) w
theorem lT (H:ef P) (W:bk σ l m ws) (G:aG m ws) {most i:Nat} (hi:i < most + 1) (hmost:most ≤ 1000) {fr:Fra} {σ':Sto} (I:S1 σ l lt most m ws x i fr σ') :
  mV [6] true (evSs (evFn P wf (n + 4)) wf ja) (.int i) fr σ' (S1 σ l lt most m ws x (i + 1)) (xU σ most m ws x):=by
 obtain ⟨lh,τ,x6,x7,hh,hne,hno⟩:=I
 have hm:1 ≤ m ∧ m ≤ 12:=⟨G.m1,G.m2⟩
 have hd:lh ≠ σ.length:=fun q=>by rw [q,kL] at hh; cases hh
 have e7:=ti (call:=evFn P wf (n + 4)) (fr:=xj l lt most lh σ.length (some (.int i)) x7) hm rfl rfl hh
 rw [gb] at e7
 have hh1:∀ es fs,(fg σ es fs (τ ++ [.lst ((ax m (bw ws x i)).map V.int)]))[lh]?=some (.lst (intsV m (bw ws x i))):=fun es fs=>by
  rw [vV hd hne (es':=bT m (bw ws x) i) (fs':=intsV i fun t=>bw ws x t 0),← gb]; exact ap hh
 generalize hτ:τ ++ [.lst ((ax m (bw ws x i)).map V.int)]=τ1 at e7 hh1
 have h0:∀ es fs,jE (.ref lh) (.int 0) (fg σ es fs τ1)=some (.int (bw ws x i 0)):=fun es fs=>aN (k:=0) (hh1 es fs) (aX hm.1)
 refine ⟨xj l lt most lh σ.length (some (.int i)) x7,rfl,?_⟩
 cases hb:(bT m (bw ws x) i).any fun e=>e.1 == ax m (bw ws x i) with
 | true =>
  obtain ⟨t,ht,hk,hl⟩:=m9 hb
  have hs:∀ {fr:Fra},fr[4]?=some (some (.ref σ.length))→fr[7]?=some (some (.tup ((ax m (bw ws x i)).map V.int)))→evE (evFn P wf (n + 4)) ((E.loc 4).sub (E.loc 7)) fr (fg σ (bT m (bw ws x) i) (intsV i fun t=>bw ws x t 0) τ1)=.ok (.int t) (fg σ (bT m (bw ws x) i) (intsV i fun t=>bw ws x t 0) τ1):=fun h4 h7=>aC (ac h4) (ac h7) (tU kL hl)
  refine .inr ⟨_,_,_,ak e7 (by decide:7 < 10) (cM (aM (ac rfl) (ac rfl) ((rl kL).trans (congrArg some hb))) (aO (dz (aa (hs rfl rfl) (aa (ar (ac rfl) (hs rfl rfl) rfl) (aa (ar (aC (ac rfl) aj (h0 _ _)) (aC (ac rfl) (hs rfl rfl) (aN su (aX ht))) rfl) ae))) (by decide:3 ≤ 1000)))),t,i - t,bw ws x i 0 - bw ws x t 0,_,?_,rfl,by lia,by lia,fun v hv=>?_,.inr ⟨i,hi,hb,hno,?_⟩⟩
  ·rw [show ((i - t:Nat):Int)=(i:Int) - t by lia]
  ·rw [show t + (i - t)=i by lia]
   exact jw hk hv
  ·unfold wK; rw [hl]; rfl
 | false =>
  have hz:(bT m (bw ws x) i).length < 1000000:=by unfold bT; rw [List.length_map,List.length_range]; lia
  obtain ⟨υ,e3⟩:=jj (wf:=wf) (n:=n) (σ:=fg σ (bT m (bw ws x) (i + 1)) (intsV (i + 1) fun t=>bw ws x t 0) τ1) H W.app G (hh1 _ _)
  obtain ⟨dd,lw,a,b,c⟩:=(W.app (τ:=.dT (bT m (bw ws x) (i + 1)) :: .lst (intsV (i + 1) fun t=>bw ws x t 0) :: τ1)).at'
  refine .inl ⟨xj l lt most (fg σ (bT m (bw ws x) (i + 1)) (intsV (i + 1) fun t=>bw ws x t 0) τ1).length σ.length (some (.int i)) (some (.tup ((ax m (bw ws x i)).map V.int))),accS (fg σ (bT m (bw ws x) (i + 1)) (intsV (i + 1) fun t=>bw ws x t 0) τ1) (intsV m (cV ws (bw ws x i))) υ,ak e7 (by decide:7 < 10) (aW (aM (ac rfl) (ac rfl) ((rl kL).trans (congrArg some hb))) (ib (ac rfl) (ac rfl) (ac rfl) (sG kL hz) ?_)),?_⟩
  ·rw [sh,wT hb,← kc]
   refine bu (cN (ac rfl) (ag su) (aa (aC (ac rfl) aj (h0 _ _)) ae) (ag su) (l4 (by rw [aP]; lia))) ?_
   rw [rR,show intsV i (fun t=>bw ws x t 0) ++ [V.int (bw ws x i 0)]=intsV (i + 1) (fun t=>bw ws x t 0) from dR.symm]
   exact ak (bK (ac rfl) a b (aa (ac rfl) ae) e3) (by decide:3 < 10) a6
  ·show S1 σ l lt most m ws x (i + 1) _ (fg σ (bT m (bw ws x) (i + 1)) (intsV (i + 1) fun t=>bw ws x t 0) τ1 ++ (.lst (intsV m (cV ws (bw ws x i))) :: υ))
   rw [gb]
   refine ⟨_,_,_,_,by rw [← gb]; exact am,?_,fun j hj=>?_⟩
   ·rw [tP]; lia
   ·by_cases q:j=i
    ·rw [q]; exact hb
    ·exact hno j (Nat.lt_of_le_of_ne (Nat.le_of_lt_succ hj) q)
theorem hG (H:ef P) (h18:P 18=some bP) (W:bk σ l m ws) (G:aG m ws) (ht:σ[lt]?=some (.lst (intsV m x))) {most:Nat} (hmost:most ≤ 1000) :
  ∃ w τ,evFn P wf (n + 5) 18 [.ref l,.ref lt,.int most] σ=.ok w (σ ++ τ) ∧ (w=.none ∨ ∃ (t s:Nat) (g:Int),w=.tup [.int t,.int s,.int g] ∧ 1 ≤ s ∧ t + s ≤ most ∧ ∀ v,v < m→bw ws x (t + s) v=bw ws x t v + g) ∧ fG m most (bw ws x) w:=by
 obtain ⟨d,lw,a,b,c⟩:=W.at'
 have e0:evE (evFn P wf (n + 4)) (((E.loc 0).umeth 17 [E.loc 1,E.int 0]).sub (E.int 0)) (aR bP [.ref l,.ref lt,.int most]) σ=.ok (.ref σ.length) (σ ++ [AO.lst (intsV m x)] ++ [AO.lst [.ref σ.length]]) :=
  aC (bK (ac rfl) a b (aa (ac rfl) (aa aj ae)) (r8 (n:=n + 3) H W G.m2 ht)) aj (aN (k:=0) qN rfl)
 have hh:(σ ++ [AO.lst (intsV m x)] ++ [AO.lst [.ref σ.length]])[σ.length]?=some (.lst (intsV m x)):=ap am
 have hlen:(σ ++ [AO.lst (intsV m x)] ++ [AO.lst [.ref σ.length]]).length=σ.length + 2:=by rw [List.length_append,List.length_append]; rfl
 have W0:bk (σ ++ [AO.lst (intsV m x)] ++ [AO.lst [.ref σ.length]]) l m ws:=W.app.app
 have ea:σ ++ [AO.lst (intsV m x)] ++ [AO.lst [.ref σ.length]]=σ ++ [AO.lst (intsV m x),AO.lst [.ref σ.length]]:=by rw [List.append_assoc]; rfl
 generalize hσ:σ ++ [AO.lst (intsV m x)] ++ [AO.lst [.ref σ.length]]=σ0 at *
 have key:=iI (call:=evFn P wf (n + 4)) (wf:=wf) (tg:=[6]) (one:=true) (ws:=List.range (most + 1)) (g:=fun (v:Nat)=>V.int v) (it:=E.blt .range [E.bin .Add (E.loc 2) (E.int 1)]) (bs:=ja) (fr:=xj l lt most σ.length σ0.length none none) (σ:=fg σ0 [] [] [])
  (S1 σ0 l lt most m ws x) (xU σ0 most m ws x) (ba (aa (ar (ac rfl) aj rfl) ae) (bo (k:=most + 1) (by lia))) (br (most + 1))
  (by
   intro i v fr σ' hv I
   obtain ⟨hi,rfl⟩:=bg hv
   exact lT H W0 G hi hmost I) ⟨σ.length,[],none,none,ap hh,by lia,fun j h=>absurd h (Nat.not_lt_zero _)⟩
 have front:∀ r,evSs (evFn P wf (n + 4)) wf (S.forS [6] true (It.e (E.blt .range [E.bin .Add (E.loc 2) (E.int 1)])) ja :: [S.ret E.none]) (xj l lt most σ.length σ0.length none none) (fg σ0 [] [] [])=r→evSs (evFn P wf (n + 4)) wf bP.body (aR bP [.ref l,.ref lt,.int most]) σ=r:=fun r h=>by
  refine ak e0 (by decide:3 < 10) (ak wR (by decide:4 < 10) (ak (bf ae (ai (by decide:0 ≤ 16777216))) (by decide:5 < 10) ?_))
  rw [List.append_assoc,List.length_append]
  exact h
 rcases key with ⟨fr,σ',e,lh,τ,x6,x7,_,_,hno⟩ | ⟨w,fr,σ',e,t,s,g,τ,rfl,rfl,h1,h2,h3,h4⟩
 ·refine ⟨.none,[AO.lst (intsV m x),AO.lst [.ref σ.length]] ++ (.dT (bT m (bw ws x) (List.range (most + 1)).length) :: .lst (intsV (List.range (most + 1)).length fun t=>bw ws x t 0) :: τ),?_,.inl rfl,.inl ⟨rfl,fun j hj=>hno j (by rw [List.length_range]; exact hj)⟩⟩
  rw [← List.append_assoc,← ea]
  exact bp h18 rfl (front _ (a4 e (aO bU)))
 ·refine ⟨_,[AO.lst (intsV m x),AO.lst [.ref σ.length]] ++ τ,?_,.inr ⟨t,s,g,rfl,h1,h2,h3⟩,h4⟩
  rw [← List.append_assoc,← ea]
  exact bp h18 rfl (front _ (eU e))
theorem oP (H:ef P) (h18:P 18=some bP) (W:bk σ l m ws) (G:aG m ws) (ht:σ[lt]?=some (.lst (intsV m x))) {most:Nat} (hmost:most ≤ 1000) :
  ∃ w τ,evFn P wf (n + 5) 18 [.ref l,.ref lt,.int most] σ=.ok w (σ ++ τ) ∧ (w=.none ∨ ∃ (t s:Nat) (g:Int),w=.tup [.int t,.int s,.int g] ∧ 1 ≤ s ∧ t + s ≤ most ∧ ∀ v,v < m→bw ws x (t + s) v=bw ws x t v + g) :=
 let ⟨w,τ,e,h,_⟩:=hG H h18 W G ht hmost
 ⟨w,τ,e,h⟩
end
end Mine
namespace Mine
open PySem
section
variable {P:Nat→Option Fn}{wf n:Nat} {σ:Sto}{m l lt:Nat}{ws:List Way}{x:Nat→Int}
theorem wV {τ:Sto}{xs ys:List V}{k:Nat} (h:k ≠ σ.length):(accS σ xs τ)[k]?=(accS σ ys τ)[k]?:=by
 unfold accS
 by_cases hk:k < σ.length
 ·rw [List.getElem?_append_left hk,List.getElem?_append_left hk]
 ·obtain ⟨j,rfl⟩:∃ j,k=σ.length + (j + 1):=⟨k - σ.length - 1,by lia⟩
  rw [List.getElem?_append_right (Nat.le_add_right _ _),List.getElem?_append_right (Nat.le_add_right _ _),Nat.add_sub_cancel_left]; rfl
theorem m3 {τ:Sto}{xs:List V}:(accS σ xs τ).length=σ.length + (1 + τ.length):=by unfold accS; rw [List.length_append,List.length_cons,Nat.add_comm 1]
structure kj (σ':Sto) (p:Nat) (ls:List Nat) (X:Nat→Nat→Int) (m i:Nat):Prop where
 len:ls.length=i
 row:∀ k l,ls[k]?=some l→l ≠ p ∧ σ'[l]?=some (.lst (intsV m (X k)))
theorem kj.last {σ':Sto}{p i:Nat}{ls:List Nat}{X:Nat→Nat→Int} (R:kj σ' p ls X m (i + 1)):∃ l,(ls.map V.ref).getLast?=some (V.ref l) ∧ σ'[l]?=some (.lst (intsV m (X i))):=by
 obtain ⟨l,hl⟩:∃ l,ls[i]?=some l:=⟨_,List.getElem?_eq_getElem (by rw [R.len]; exact Nat.lt_succ_self _)⟩
 exact ⟨l,by rw [List.getLast?_eq_getElem?,List.length_map,List.getElem?_map,R.len,Nat.add_sub_cancel,hl]; rfl,(R.row i l hl).2⟩
theorem kj.push {τ υ:Sto}{i:Nat}{ls:List Nat}{X:Nat→Nat→Int} (R:kj (accS σ (ls.map V.ref) τ) σ.length ls X m i):kj (accS σ ((ls ++ [(accS σ (ls.map V.ref) τ).length]).map V.ref) (τ ++ (.lst (intsV m (X i)) :: υ))) σ.length (ls ++ [(accS σ (ls.map V.ref) τ).length]) X m (i + 1):=by
 have hne:(accS σ (ls.map V.ref) τ).length ≠ σ.length:=by rw [m3]; lia
 refine ⟨by rw [List.length_append,R.len]; rfl,fun k l' h=>?_⟩
 have e:∀ {k},k ≠ σ.length→(accS σ ((ls ++ [(accS σ (ls.map V.ref) τ).length]).map V.ref) (τ ++ (.lst (intsV m (X i)) :: υ)))[k]?=(accS σ (ls.map V.ref) τ ++ (.lst (intsV m (X i)) :: υ))[k]?:=fun hk=>by rw [co]; exact wV hk
 by_cases hk:k < ls.length
 ·rw [List.getElem?_append_left hk] at h
  obtain ⟨h1,h2⟩:=R.row k l' h
  exact ⟨h1,by rw [e h1]; exact ap h2⟩
 ·have hk2:k=ls.length:=by
   have:=(List.getElem?_eq_some_iff.mp h).1
   rw [List.length_append] at this
   exact Nat.le_antisymm (Nat.le_of_lt_succ this) (Nat.le_of_not_lt hk)
  subst hk2
  rw [List.getElem?_append_right (Nat.le_refl _),Nat.sub_self] at h
  have:(accS σ (ls.map V.ref) τ).length=l':=Option.some.inj h
  subst this
  refine ⟨hne,?_⟩
  rw [e hne,R.len]; exact am
theorem Ah {call:Nat→List V→Sto→RE}{k i:Nat}{e:E}{fr:Fra} {τ υ:Sto}{ls:List Nat}{X:Nat→Nat→Int} (hk:fr[k]?=some (some (.ref σ.length))) (R:kj (accS σ (ls.map V.ref) τ) σ.length ls X m i) (hi:i < 16777216)
  (he:evE call e fr (accS σ (ls.map V.ref) τ)=.ok (.ref (accS σ (ls.map V.ref) τ).length) (accS (accS σ (ls.map V.ref) τ) (intsV m (X i)) υ)) :
  evSs call wf [S.expr ((E.loc k).meth .append [e])] fr (accS σ (ls.map V.ref) τ)=.ok .next fr (accS σ ((ls ++ [(accS σ (ls.map V.ref) τ).length]).map V.ref) (τ ++ (.lst (intsV m (X i)) :: υ))):=by
 have e1:accS (accS σ (ls.map V.ref) τ) (intsV m (X i)) υ=accS σ (ls.map V.ref) (τ ++ (.lst (intsV m (X i)) :: υ)):=co
 rw [e1] at he
 rw [List.map_append]
 exact mA hk he (by rw [List.length_map,R.len]; exact hi)
theorem uH (H:ef P) (W:bk σ l m ws) (G:aG m ws) (ht:σ[lt]?=some (.lst (intsV m x))) {c:Nat} (hc:c ≤ 1000) :
  ∃ ls τ,evFn P wf (n + 5) 17 [.ref l,.ref lt,.int c] σ=.ok (.ref (σ.length + 1)) (accS (σ ++ [.lst (intsV m x)]) (ls.map V.ref) τ) ∧ kj (accS (σ ++ [.lst (intsV m x)]) (ls.map V.ref) τ) (σ.length + 1) ls (bw ws x) m (c + 1) ∧ ∀ l ∈ ls,σ.length ≤ l:=by
 obtain ⟨d,lw,a,b,_⟩:=W.at'
 have hm:=G.m2
 have hlen:(σ ++ [AO.lst (intsV m x)]).length=σ.length + 1:=by rw [List.length_append]; rfl
 have e1:evE (evFn P wf (n + 4)) (E.list [E.blt .list [E.loc 1]]) (aR mP [.ref l,.ref lt,.int c]) σ=.ok (.ref (σ.length + 1)) (accS (σ ++ [.lst (intsV m x)]) [.ref σ.length] []) :=
  (bf (aa (ba (aa (ac rfl) ae) (i0 ht (by rw [aP]; lia))) ae) (ai (by decide:1 ≤ 16777216))).trans (by rw [hlen]; rfl)
 have W1:bk (σ ++ [.lst (intsV m x)]) l m ws:=W.app
 have h0:(σ ++ [AO.lst (intsV m x)])[σ.length]?=some (.lst (intsV m x)):=am
 rw [← hlen] at e1 ⊢
 generalize hσ:σ ++ [AO.lst (intsV m x)]=σ1 at *
 have hle:σ.length ≤ σ1.length:=by rw [hlen]; exact Nat.le_add_right _ _
 obtain ⟨d,lw,a1,b1,_⟩:=W1.at'
 obtain ⟨z,e2,R,hf⟩:=lJ (call:=evFn P wf (n + 4)) (wf:=wf) (tg:=[4]) (one:=true) (ws:=List.range c) (g:=fun (v:Nat)=>V.int v) (it:=E.blt .range [E.loc 2]) (bs:=uT) (σ:=accS σ1 [.ref σ.length] [])
  (F:=fun _ (z:List Nat × Sto × Option V)=>[some (.ref l),some (.ref lt),some (.int c),some (.ref σ1.length),z.2.2,none,none,none,none]) (S:=fun _ z=>accS σ1 (z.1.map V.ref) z.2.1) (J:=fun i z=>kj (accS σ1 (z.1.map V.ref) z.2.1) σ1.length z.1 (bw ws x) m (i + 1) ∧ ∀ l ∈ z.1,σ.length ≤ l) ([σ.length],[],none)
  (ba (aa (ac rfl) ae) (bo (by lia))) (br c)
  (fun i v z hv ⟨R,hf⟩=>by
   obtain ⟨hi,rfl⟩:=bg hv
   obtain ⟨q,hq1,hq2⟩:=R.last
   obtain ⟨υ,e⟩:=jj (wf:=wf) (n:=n) (σ:=accS σ1 (z.1.map V.ref) z.2.1) H W1.app G hq2
   refine ⟨_,rfl,(_,_,some (.int i)),Ah (X:=bw ws x) (i:=i + 1) rfl R (by lia) (bK (ac rfl) (ap a1) (ap b1) (aa (aC (ac rfl) (nX aj) (fE am hq1)) ae) e),R.push,fun l hl=>?_⟩
   rcases cp hl with hl | rfl
   ·exact hf l hl
   ·rw [m3]; exact Nat.le_trans hle (Nat.le_add_right _ _))
  ⟨⟨rfl,fun k l h=>by
   cases k with
   | zero=>cases Option.some.inj h; exact ⟨by lia,ap h0⟩
   | succ k=>cases h⟩,fun l hl=>by rw [List.mem_singleton.mp hl]; exact Nat.le_refl _⟩
 rw [List.length_range] at R
 exact ⟨z.1,z.2.1,bp H.h17 rfl (aW (o4 ht rfl rfl a b) (ak e1 (by decide:3 < 9) (a4 e2 (aO (ac rfl))))),R,hf⟩
end
end Mine
namespace Mine
open PySem
noncomputable def mR (a b:Int):E:=E.bin .Mod (E.bin .FloorDiv (E.loc 2) (E.int a)) (E.int b)
noncomputable def wz:E:=E.comp [1] true (E.call 5 [E.loc 0,mR 8 50,E.bin .Add (E.int 1) (mR 400 5)]) [E.cmp .IsNot (E.loc 1) E.none] (E.loc 1) [none,none]
noncomputable def s3:List S:=[S.ifS ((E.loc 5).isi Ty.list) [S.expr ((E.loc 5).meth .clear [])] []]
noncomputable def stirIf (k:Int) (b:S):S:=S.ifS (E.cmp .Eq (E.loc 3) (E.int k)) [b] []
noncomputable def gn:Fn:={ ps:=[0,1,2],size:=12,body :=
 [S.asg 3 (E.bin .Mod (E.loc 2) (E.int 8)),S.asg 4 (E.list []),
  stirIf 1 (S.asg 4 ((E.loc 0).umeth 16 [E.blt .list [E.loc 1]])),
  stirIf 2 (S.asg 4 ((E.loc 0).umeth 17 [E.blt .list [E.loc 1],E.bin .Add (E.int 1) (mR 8 3)])),
  stirIf 3 (S.expr (E.call 18 [E.loc 0,E.blt .list [E.loc 1],mR 8 7])),
  stirIf 4 (S.asg 4 ((E.call 7 [E.loc 0]).sub (E.bin .Add (E.int 2) (mR 8 2)))),
  stirIf 5 (S.asg 4 wz),
  stirIf 6 (S.asg 4 ((E.loc 0).umeth 15 [E.bin .Mod (E.bin .FloorDiv (E.loc 2) (E.int 8)) (E.blt .len [E.loc 1])])),
  stirIf 7 (S.asg 4 ((((E.loc 0).umeth 14 []).attr 1).shi (E.int 0))),
  S.forS [5] true (It.e (E.loc 4)) s3,S.expr ((E.loc 4).meth .clear []),S.ret (E.bool true)] }
noncomputable def bv (l lt:Nat) (cell way:Int) (p:Nat) (x5:Option V):Fra:=[some (.ref l),some (.ref lt),some (.int cell),some (.int way),some (.ref p),x5,none,none,none,none,none,none]
def n9 (σ σ':Sto) (p:Nat) (v:V):Prop:=(∃ i,v=.int i) ∨ (∃ ts,v=.tup ts) ∨ ∃ q xs,v=.ref q ∧ σ.length ≤ q ∧ q ≠ p ∧ σ'[q]?=some (.lst xs)
structure fu (σ σ':Sto) (p:Nat):Prop where
 pre:∃ τ,σ'=σ ++ τ
 new:σ.length ≤ p
 lst:∃ vs,σ'[p]?=some (.lst vs) ∧ ∀ v ∈ vs,n9 σ σ' p v
section
variable {P:Nat→Option Fn}{wf n:Nat} {σ σ':Sto}{l lt m p:Nat}{ws:List Way}{x:Nat→Int}{cell way:Int}{call:Nat→List V→Sto→RE}
theorem fN {τ:Sto}{q:Nat} (h:(σ ++ τ).length ≤ q):σ.length ≤ q:=Nat.le_trans (List.Sublist.length_le (List.sublist_append_left _ _)) h
theorem fu.app (T:fu σ σ' p) (τ:Sto):fu σ (σ' ++ τ) p:=by
 obtain ⟨⟨τ0,rfl⟩,h1,vs,h2,h3⟩:=T
 refine ⟨⟨_,List.append_assoc _ _ _⟩,h1,vs,ap h2,fun v hv=>?_⟩
 rcases h3 v hv with h | h | ⟨q,xs,a,b,c,d⟩
 ·exact .inl h
 ·exact .inr (.inl h)
 ·exact .inr (.inr ⟨q,xs,a,b,c,ap d⟩)
theorem fu.of {vs:List V} (T:fu σ σ' p) {τ:Sto}{q:Nat} (hq:σ'.length ≤ q) (h:(σ' ++ τ)[q]?=some (.lst vs)) (hv:∀ v ∈ vs,n9 σ (σ' ++ τ) q v):fu σ (σ' ++ τ) q:=by
 obtain ⟨⟨τ0,rfl⟩,_⟩:=T
 exact ⟨⟨_,List.append_assoc _ _ _⟩,fN hq,vs,h,hv⟩
theorem jV {y:Nat→Int}{q:Nat}:∀ v ∈ intsV m y,n9 σ σ' q v:=fun v hv=>by
 obtain ⟨k,_,rfl⟩:=List.mem_map.mp hv
 exact .inl ⟨_,rfl⟩
theorem se {r:List Nat}{q:Nat}:∀ v ∈ natsV r,n9 σ σ' q v:=fun v hv=>by
 obtain ⟨k,_,rfl⟩:=List.mem_map.mp hv
 exact .inl ⟨_,rfl⟩
theorem ee (T:fu σ σ' p) {k:Int}{b:S} (hb:∃ p' σ2,evSs call wf [b] (bv l lt cell way p none) σ'=.ok .next (bv l lt cell way p' none) σ2 ∧ fu σ σ2 p') :
  ∃ p' σ2,fu σ σ2 p' ∧ ∀ ss r,evSs call wf ss (bv l lt cell way p' none) σ2=r→evSs call wf (stirIf k b :: ss) (bv l lt cell way p none) σ'=r:=by
 by_cases h:way=k
 ·obtain ⟨p',σ2,e,T2⟩:=hb
  exact ⟨p',σ2,T2,fun ss r hr=>d3 (aM (p:=true) (ac rfl) aj (congrArg some (beq_iff_eq.mpr h))) e hr⟩
 ·exact ⟨p,σ',T,fun ss r hr=>aW (aM (p:=false) (ac rfl) aj (congrArg some (beq_eq_false_iff_ne.mpr h))) hr⟩
theorem gX {a q:Nat} (ha:1 ≤ a) (hb:a < 10 ^ 100) (hq:1 ≤ q) {fr:Fra} (h2:fr[2]?=some (some (.int cell))):∃ k:Nat,k < q ∧ ∀ σ,evE call (mR a q) fr σ=.ok (.int k) σ:=by
 obtain ⟨k,hk,ek⟩:=a9 q hq (cell.fdiv a)
 exact ⟨k,hk,fun σ=>ar (ar (ac h2) aj (fJ (by lia) (by lia))) aj ((dc (by lia)).trans (congrArg (fun z=>RE.ok (.int z) _) ek))⟩
end
end Mine
namespace Mine
open PySem
structure fb (P:Nat→Option Fn) (wf:Nat) (σ:Sto) (l lt m:Nat) (ws:List Way) (x:Nat→Int):Prop where
 T:ef P
 h18:P 18=some bP
 H:qv P
 HW:lO P
 h14:P 14=some fz
 W:bk σ l m ws
 G:aG m ws
 ht:σ[lt]?=some (.lst (intsV m x))
 hw:9999 * 27720 < wf
section
variable {P:Nat→Option Fn}{wf n:Nat} {σ σ':Sto}{l lt m p:Nat}{ws:List Way}{x:Nat→Int}{cell way:Int}
theorem fb.app (X:fb P wf σ l lt m ws x) (T:fu σ σ' p):fb P wf σ' l lt m ws x:=by
 obtain ⟨⟨τ,rfl⟩,_⟩:=T
 exact ⟨X.T,X.h18,X.H,X.HW,X.h14,X.W.app,X.G,ap X.ht,X.hw⟩
theorem fb.copy (X:fb P wf σ l lt m ws x) {fr:Fra}{call:Nat→List V→Sto→RE} (h1:fr[1]?=some (some (.ref lt))):evE call (E.blt .list [E.loc 1]) fr σ=.ok (.ref σ.length) (σ ++ [.lst (intsV m x)]) :=
 ba (aa (ac h1) ae) (i0 X.ht (by rw [aP]; exact Nat.le_trans X.G.m2 (by decide)))
theorem zS (X:fb P wf σ' l lt m ws x) (T:fu σ σ' p):∃ p' σ2,evSs (evFn P wf (n + 5)) wf [S.asg 4 ((E.loc 0).umeth 16 [E.blt .list [E.loc 1]])] (bv l lt cell way p none) σ'=.ok .next (bv l lt cell way p' none) σ2 ∧ fu σ σ2 p':=by
 obtain ⟨d,lw,a,b,_⟩:=X.W.at'
 obtain ⟨υ,e⟩:=jj (wf:=wf) (n:=n + 1) (σ:=σ' ++ [.lst (intsV m x)]) (x:=x) X.T X.W.app X.G am
 have ea:accS (σ' ++ [AO.lst (intsV m x)]) (intsV m (cV ws x)) υ=σ' ++ ([AO.lst (intsV m x)] ++ .lst (intsV m (cV ws x)) :: υ):=List.append_assoc _ _ _
 have h:(accS (σ' ++ [AO.lst (intsV m x)]) (intsV m (cV ws x)) υ)[(σ' ++ [AO.lst (intsV m x)]).length]?=some (.lst (intsV m (cV ws x))):=am
 rw [ea] at e h
 exact ⟨_,_,ak (bK (ac rfl) a b (aa (X.copy rfl) ae) e) (by decide:4 < 12) a6,T.of (fN (Nat.le_refl _)) h jV⟩
theorem Al (X:fb P wf σ' l lt m ws x) (T:fu σ σ' p):∃ p' σ2,evSs (evFn P wf (n + 5)) wf [S.asg 4 ((E.loc 0).umeth 17 [E.blt .list [E.loc 1],E.bin .Add (E.int 1) (mR 8 3)])] (bv l lt cell way p none) σ'=.ok .next (bv l lt cell way p' none) σ2 ∧ fu σ σ2 p':=by
 obtain ⟨d,lw,a,b,_⟩:=X.W.at'
 obtain ⟨k,hk,ek⟩:=gX (call:=evFn P wf (n + 5)) (a:=8) (q:=3) (cell:=cell) (fr:=bv l lt cell way p none) (by decide) (by decide) (by decide) rfl
 obtain ⟨ls,τ,e,R,hf⟩:=uH (wf:=wf) (n:=n) (σ:=σ' ++ [.lst (intsV m x)]) (x:=x) (c:=1 + k) X.T X.W.app X.G am (by lia)
 have ea:accS (σ' ++ [AO.lst (intsV m x)] ++ [AO.lst (intsV m x)]) (ls.map V.ref) τ=σ' ++ ([AO.lst (intsV m x)] ++ ([AO.lst (intsV m x)] ++ .lst (ls.map V.ref) :: τ)):=by unfold accS; rw [List.append_assoc,List.append_assoc]
 have hlen:(σ' ++ [AO.lst (intsV m x)] ++ [AO.lst (intsV m x)]).length=(σ' ++ [AO.lst (intsV m x)]).length + 1:=by rw [List.length_append]; rfl
 have h:(accS (σ' ++ [AO.lst (intsV m x)] ++ [AO.lst (intsV m x)]) (ls.map V.ref) τ)[(σ' ++ [AO.lst (intsV m x)]).length + 1]?=some (.lst (ls.map V.ref)):=by rw [← hlen]; exact am
 rw [ea] at e h R
 refine ⟨_,_,ak (bK (ac rfl) a b (aa (X.copy rfl) (aa (ar aj (ek _) (rfl:_=RE.ok (.int ((1 + k:Nat):Int)) _)) ae)) e) (by decide:4 < 12) a6,T.of (Nat.le_trans (fN (Nat.le_refl _)) (Nat.le_add_right _ _)) h fun v hv=>?_⟩
 obtain ⟨q,hq,rfl⟩:=List.mem_map.mp hv
 obtain ⟨i,hi⟩:=List.getElem?_of_mem hq
 obtain ⟨h1,h2⟩:=R.row i q hi
 obtain ⟨⟨τ0,rfl⟩,_⟩:=T
 exact .inr (.inr ⟨q,_,rfl,fN (fN (hf q hq)),h1,h2⟩)
theorem A7 (X:fb P wf σ' l lt m ws x) (T:fu σ σ' p):∃ p' σ2,evSs (evFn P wf (n + 5)) wf [S.expr (E.call 18 [E.loc 0,E.blt .list [E.loc 1],mR 8 7])] (bv l lt cell way p none) σ'=.ok .next (bv l lt cell way p' none) σ2 ∧ fu σ σ2 p':=by
 obtain ⟨k,hk,ek⟩:=gX (call:=evFn P wf (n + 5)) (a:=8) (q:=7) (cell:=cell) (fr:=bv l lt cell way p none) (by decide) (by decide) (by decide) rfl
 obtain ⟨w,τ,e,_⟩:=oP (wf:=wf) (n:=n) (σ:=σ' ++ [.lst (intsV m x)]) (lt:=σ'.length) (x:=x) (most:=k) X.T X.h18 X.W.app X.G am (by lia)
 exact ⟨p,_,bu (aF (aa (ac rfl) (aa (X.copy rfl) (aa (ek _) ae))) e) a6,(T.app _).app _⟩
theorem AQ (X:fb P wf σ' l lt m ws x) (T:fu σ σ' p):∃ p' σ2,evSs (evFn P wf (n + 5)) wf [S.asg 4 ((E.call 7 [E.loc 0]).sub (E.bin .Add (E.int 2) (mR 8 2)))] (bv l lt cell way p none) σ'=.ok .next (bv l lt cell way p' none) σ2 ∧ fu σ σ2 p':=by
 obtain ⟨k,hk,ek⟩:=gX (call:=evFn P wf (n + 5)) (a:=8) (q:=2) (cell:=cell) (fr:=bv l lt cell way p none) (by decide) (by decide) (by decide) rfl
 obtain ⟨v,σ5,e5,N,D,lr,r,ls,SS,τ5,R⟩:=v6 (wf:=wf) (n:=n) X.H X.W X.G.ok X.hw
 have go:∀ {q:Nat}{vs:List V},jE (.tup [.int N,.int D,.ref lr,.ref ls]) (.int ((2 + k:Nat):Int)) (σ' ++ τ5)=some (.ref q)→σ'.length ≤ q→(σ' ++ τ5)[q]?=some (.lst vs)→(∀ v ∈ vs,n9 σ (σ' ++ τ5) q v)→∃ p' σ2,evSs (evFn P wf (n + 5)) wf [S.asg 4 ((E.call 7 [E.loc 0]).sub (E.bin .Add (E.int 2) (mR 8 2)))] (bv l lt cell way p none) σ'=.ok .next (bv l lt cell way p' none) σ2 ∧ fu σ σ2 p':=fun h1 h2 h3 h4 =>
  ⟨_,_,ak (aC (aF (aa (ac rfl) ae) e5) (ar aj (ek _) (rfl:_=RE.ok (.int ((2 + k:Nat):Int)) _)) h1) (by decide:4 < 12) a6,T.of h2 h3 h4⟩
 rcases k with _ | _ | k
 ·exact go rfl R.fresh.1 R.ring se
 ·exact go rfl R.fresh.2 R.start jV
 ·lia
theorem Bs (X:fb P wf σ' l lt m ws x) (T:fu σ σ' p):∃ p' σ2,evSs (evFn P wf (n + 5)) wf [S.asg 4 wz] (bv l lt cell way p none) σ'=.ok .next (bv l lt cell way p' none) σ2 ∧ fu σ σ2 p':=by
 obtain ⟨k,hk,ek⟩:=gX (call:=evFn P wf (n + 5)) (a:=8) (q:=50) (cell:=cell) (fr:=bv l lt cell way p none) (by decide) (by decide) (by decide) rfl
 obtain ⟨j,hj,ej⟩:=gX (call:=evFn P wf (n + 5)) (a:=400) (q:=5) (cell:=cell) (fr:=bv l lt cell way p none) (by decide) (by decide) (by decide) rfl
 obtain ⟨v,σ2,e2,res⟩:=kn (wf:=wf) (n:=n + 2) (num:=k) (div:=1 + j) X.H.h3 X.H.h4 X.H.h5 X.W X.G.m1 X.G.m2 (by lia) (fun _ _=>.inl (by lia)) X.G.hm (Nat.le_trans (by decide) (Nat.le_of_lt X.hw))
 have ec:evE (evFn P wf (n + 5)) (E.call 5 [E.loc 0,mR 8 50,E.bin .Add (E.int 1) (mR 400 5)]) (bv l lt cell way p none) σ'=.ok v σ2 :=
  aF (aa (ac rfl) (aa (ek _) (aa (ar aj (ej _) (rfl:_=RE.ok (.int ((1 + j:Nat):Int)) _)) ae))) e2
 have go:∀ {q:Nat}{vs:List V} {τ:Sto}{us:List V},evE (evFn P wf (n + 5)) (E.call 5 [E.loc 0,mR 8 50,E.bin .Add (E.int 1) (mR 400 5)]) (bv l lt cell way p none) σ'=.ok (.tup us) (σ' ++ τ)→((us.filter fun v=>!isNone v).map id)=[V.ref q]→us.length=2→σ'.length ≤ q→(σ' ++ τ)[q]?=some (.lst vs)→∃ p' σ2,evSs (evFn P wf (n + 5)) wf [S.asg 4 wz] (bv l lt cell way p none) σ'=.ok .next (bv l lt cell way p' none) σ2 ∧ fu σ σ2 p':=by
  intro q vs τ us ec hus hl hq hv
  have e3:=oY (tg:=[1]) (one:=true) (cs:=[E.cmp .IsNot (E.loc 1) E.none]) (el:=E.loc 1) (frm:=[none,none]) (ws:=us) (g:=id) (p:=fun v=>!isNone v) (f:=id) (r:=.ok (.ref (σ' ++ τ).length) (σ' ++ τ ++ [.lst [V.ref q]])) ec (List.map_id _).symm (fun v hv=>⟨_,rfl,oh (aM (ac rfl) bU rfl),fun _=>ac rfl⟩) (by rw [hus]; exact ai (by decide:1 ≤ 16777216))
  have hne:q ≠ (σ' ++ τ).length:=Nat.ne_of_lt (List.getElem?_eq_some_iff.mp hv).1
  rw [List.append_assoc] at e3
  refine ⟨_,_,ak e3 (by decide:4 < 12) a6,T.of (fN (Nat.le_refl _)) (by rw [← List.append_assoc]; exact am) fun v hv'=>?_⟩
  rw [List.mem_singleton.mp hv']
  refine .inr (.inr ⟨q,vs,rfl,?_,hne,by rw [← List.append_assoc]; exact ap hv⟩)
  exact T.pre.elim fun τ0 q0=>fN (τ:=τ0) (by rw [← q0]; exact hq)
 cases res with
 | none ls S τ h hs hf=>exact go ec rfl rfl hf h
 | ring lr r τ h R hlt hmin hf=>exact go ec rfl rfl hf h
theorem AA (X:fb P wf σ' l lt m ws x) (T:fu σ σ' p):∃ p' σ2,evSs (evFn P wf (n + 5)) wf [S.asg 4 ((E.loc 0).umeth 15 [E.bin .Mod (E.bin .FloorDiv (E.loc 2) (E.int 8)) (E.blt .len [E.loc 1])])] (bv l lt cell way p none) σ'=.ok .next (bv l lt cell way p' none) σ2 ∧ fu σ σ2 p':=by
 obtain ⟨d,lw,a,b,_⟩:=X.W.at'
 obtain ⟨k,hk,ek⟩:=a9 m X.G.m1 (cell.fdiv 8)
 have e:=sy (wf:=wf) (n:=n + 2) X.T X.W X.G.hz hk
 have hl:iy .len [.ref lt] σ'=.ok (.int m) σ':=by have:=dv X.ht; rwa [aP] at this
 refine ⟨_,_,ak (bK (ac rfl) a b (aa (ar (ar (ac rfl) aj (fJ (by decide) (by decide))) (ba (aa (ac rfl) ae) hl) ((dc (by have:=X.G.m1; lia)).trans (congrArg (fun z=>RE.ok (.int z) _) ek))) ae) e) (by decide:4 < 12) a6,T.of (Nat.le_refl _) am fun v hv=>?_⟩
 obtain ⟨w,_,rfl⟩:=List.mem_map.mp hv
 exact .inr (.inl ⟨_,rfl⟩)
theorem AM (X:fb P wf σ' l lt m ws x) (T:fu σ σ' p):∃ p' σ2,evSs (evFn P wf (n + 5)) wf [S.asg 4 ((((E.loc 0).umeth 14 []).attr 1).shi (E.int 0))] (bv l lt cell way p none) σ'=.ok .next (bv l lt cell way p' none) σ2 ∧ fu σ σ2 p':=by
 obtain ⟨d,lw,a,b,_⟩:=X.W.at'
 obtain ⟨l',τ,e,W'⟩:=oX (wf:=wf) (n:=n + 1) X.HW X.h14 X.W X.G (Nat.le_trans (by decide) (Nat.le_of_lt X.hw))
 obtain ⟨d',lw',a',b',c'⟩:=W'.at'
 have e1:evE (evFn P wf (n + 5)) ((((E.loc 0).umeth 14 []).attr 1).shi (E.int 0)) (bv l lt cell way p none) σ'=.ok (.ref (σ' ++ τ).length) (σ' ++ τ ++ [.lst []]) :=
  zB (k:=0) (cm (bK (ac rfl) a b ae e) (cF a' b')) aj (ag c') (ai (Nat.zero_le _))
 rw [List.append_assoc] at e1
 exact ⟨_,_,ak e1 (by decide:4 < 12) a6,T.of (vs:=[]) (fN (Nat.le_refl _)) (by rw [← List.append_assoc]; exact am) (fun v hv=>nomatch hv)⟩
theorem un {q:Nat}{xs:List V} (h:σ[q]?=some (.lst xs)):vc .list (.ref q) σ=some true:=by
 show ((getL σ q).map fun _=>4).map _=_; rw [ag h]; rfl
theorem sg {τ:Sto}{q:Nat}{o:AO} (h:σ.length ≤ q):(σ ++ τ).set q o=σ ++ τ.set (q - σ.length) o:=List.set_append_right _ _ h
structure Clr (σ:Sto) (l lt:Nat) (cell way:Int) (p:Nat) (vs:List V) (i:Nat) (fr:Fra) (σ':Sto):Prop where
 ex:∃ x5 τ,fr=bv l lt cell way p x5 ∧ σ'=σ ++ τ ∧ σ'[p]?=some (.lst vs) ∧ ∀ v ∈ vs,n9 σ σ' p v
theorem tm {call:Nat→List V→Sto→RE}{vs:List V}{i:Nat}{v:V} (hv:vs[i]?=some v) {fr:Fra} (I:Clr σ l lt cell way p vs i fr σ'):mV [5] true (evSs call wf s3) (id v) fr σ' (Clr σ l lt cell way p vs (i + 1)) (fun _ _=>False):=by
 obtain ⟨x5,τ,rfl,rfl,hp,hT⟩:=I
 refine ⟨bv l lt cell way p (some v),rfl,.inl ?_⟩
 have skip:vc .list v (σ ++ τ)=some false→Nxt (evSs call wf s3 (bv l lt cell way p (some v)) (σ ++ τ)) (Clr σ l lt cell way p vs (i + 1)):=fun h =>
  ⟨_,_,aW (jD (ac rfl) h) a6,_,τ,rfl,rfl,hp,hT⟩
 rcases hT v (List.mem_of_getElem? hv) with ⟨i,rfl⟩ | ⟨ts,rfl⟩ | ⟨q,xs,rfl,h1,h2,h3⟩
 ·exact skip rfl
 ·exact skip rfl
 ·have hi:=un h3
  refine ⟨_,_,d3 (jD (ac rfl) hi) (bu (cN (ac rfl) (ag h3) ae (ag h3) (rfl:dP .clear q xs [] (σ ++ τ)=.ok .none (dy (σ ++ τ) q []))) a6) a6,_,_,rfl,sg h1,?_,fun u hu=>?_⟩
  ·unfold dy; rw [List.getElem?_set_ne h2]; exact hp
  ·rcases hT u hu with h | h | ⟨q2,xs2,rfl,k1,k2,k3⟩
   ·exact .inl h
   ·exact .inr (.inl h)
   ·by_cases hq:q=q2
    ·subst hq
     exact .inr (.inr ⟨q,[],rfl,k1,k2,List.getElem?_set_self (List.getElem?_eq_some_iff.mp k3).1⟩)
    ·exact .inr (.inr ⟨q2,xs2,rfl,k1,k2,by unfold dy; rw [List.getElem?_set_ne hq]; exact k3⟩)
theorem oj (h19:P 19=some gn) (X:fb P wf σ l lt m ws x):∃ τ,evFn P wf (n + 6) 19 [.ref l,.ref lt,.int cell] σ=.ok (.bool true) (σ ++ τ):=by
 have T0:fu σ (σ ++ [.lst []]) σ.length:=⟨⟨_,rfl⟩,Nat.le_refl _,[],am,fun v hv=>nomatch hv⟩
 obtain ⟨p1,σ1,T1,e1⟩:=ee (call:=evFn P wf (n + 5)) (wf:=wf) (l:=l) (lt:=lt) (cell:=cell) (way:=cell.fmod 8) (k:=1) T0 (zS (n:=n) (X.app T0) T0)
 obtain ⟨p2,σ2,T2,e2⟩:=ee (call:=evFn P wf (n + 5)) (wf:=wf) (l:=l) (lt:=lt) (cell:=cell) (way:=cell.fmod 8) (k:=2) T1 (Al (n:=n) (X.app T1) T1)
 obtain ⟨p3,σ3,T3,e3⟩:=ee (call:=evFn P wf (n + 5)) (wf:=wf) (l:=l) (lt:=lt) (cell:=cell) (way:=cell.fmod 8) (k:=3) T2 (A7 (n:=n) (X.app T2) T2)
 obtain ⟨p4,σ4,T4,e4⟩:=ee (call:=evFn P wf (n + 5)) (wf:=wf) (l:=l) (lt:=lt) (cell:=cell) (way:=cell.fmod 8) (k:=4) T3 (AQ (n:=n) (X.app T3) T3)
 obtain ⟨p5,σ5,T5,e5⟩:=ee (call:=evFn P wf (n + 5)) (wf:=wf) (l:=l) (lt:=lt) (cell:=cell) (way:=cell.fmod 8) (k:=5) T4 (Bs (n:=n) (X.app T4) T4)
 obtain ⟨p6,σ6,T6,e6⟩:=ee (call:=evFn P wf (n + 5)) (wf:=wf) (l:=l) (lt:=lt) (cell:=cell) (way:=cell.fmod 8) (k:=6) T5 (AA (n:=n) (X.app T5) T5)
 obtain ⟨p,σ7,T7,e7⟩:=ee (call:=evFn P wf (n + 5)) (wf:=wf) (l:=l) (lt:=lt) (cell:=cell) (way:=cell.fmod 8) (k:=7) T6 (AM (n:=n) (X.app T6) T6)
 obtain ⟨⟨τ7,rfl⟩,hp,vs,h7,hT⟩:=T7
 obtain ⟨fr8,σ8,e8,x5,τ8,rfl,rfl,h8,_⟩:=(nO (call:=evFn P wf (n + 5)) (wf:=wf) (tg:=[5]) (one:=true) (ws:=vs) (g:=id) (it:=E.loc 4) (bs:=s3) (fr:=bv l lt cell (cell.fmod 8) p none) (σ:=σ ++ τ7)
  (Clr σ l lt cell (cell.fmod 8) p vs) (fun _ _=>False) (ac rfl) (by rintro i _ _ ⟨x5,τ,rfl,rfl,h,_⟩; rw [List.map_id]; exact ag h) (fun i v fr σ' hv I=>tm hv I) ⟨none,τ7,rfl,rfl,h7,hT⟩).next
 refine ⟨τ8.set (p - σ.length) (.lst []),bp (fr':=bv l lt cell (cell.fmod 8) p x5) h19 rfl (ak (ar (ac rfl) aj (dc (by decide))) (by decide:3 < 12) (ak (bf ae (ai (by decide:0 ≤ 16777216))) (by decide:4 < 12) (e1 _ _ (e2 _ _ (e3 _ _ (e4 _ _ (e5 _ _ (e6 _ _ (e7 _ _ (a4 e8 (bu (cN (ac rfl) (ag h8) ae (ag h8) (rfl:dP .clear p vs [] (σ ++ τ8)=.ok .none (dy (σ ++ τ8) p []))) ?_)))))))))))⟩
 unfold dy
 rw [sg hp]
 exact aO gE
end
end Mine
namespace Mine
open PySem
section
variable {P:Nat→Option Fn}{wf n:Nat} {σ:Sto}{m lw lr:Nat}{ws:List Way}{r:List Nat}
end
end Mine
namespace Mine
set_option backward.match.sparseCases false
open PySem
end Mine
namespace Mine
open PySem
section
variable {P:Nat→Option Fn}{wf n:Nat} {σ:Sto}{m lw lr:Nat}{ws:List Way}{r:List Nat}
end
end Mine
namespace Mine
open PySem
section
variable {m h:Nat}{ws:List Way}{r:List Nat}
end
section
variable {P:Nat→Option Fn}{wf n:Nat} {σ:Sto}{m lw:Nat}{ws:List Way}{sc:List Int}{M:Nat}
end
end Mine
namespace Mine
open PySem
section
variable {P:Nat→Option Fn}{wf n:Nat} {σ σ1:Sto}{m lw:Nat}{ws:List Way}{sc:List Int}
theorem s7 {c:Int}:List.replicate m (V.int c)=intsV m (fun _=>c):=by
 unfold intsV
 rw [List.map_const',List.length_range]
theorem vL {call:Nat→List V→Sto→RE}{fr:Fra}{e ce:E}{c:Int} (hm:m ≤ 1000) (hc:evE call ce fr σ=.ok (.int c) σ) (he:evE call e fr (σ ++ [.lst [.int c]])=.ok (.int m) (σ ++ [.lst [.int c]])):evE call (E.bin .Mult (E.list [ce]) e) fr σ=.ok (.ref (σ ++ [AO.lst [.int c]]).length) (σ ++ [.lst [.int c]] ++ [.lst (intsV m fun _=>c)]):=by
 refine ar (bf (aa hc ae) (ai (by decide:1 ≤ 16777216))) he ?_
 show zN (getL (σ ++ [.lst [.int c]]) σ.length) m (σ ++ [.lst [.int c]])=_
 rw [ag am]
 show (if (-1000000:Int) ≤ (m:Int) then cy (List.replicate (m:Int).toNat (V.int c)) (σ ++ [.lst [.int c]]) else .bad)=_
 rw [if_pos (Int.le_trans (by decide) (Int.natCast_nonneg m)),Int.toNat_natCast,s7,ai (by rw [aP]; exact Nat.le_trans hm (by decide))]
structure wM (P:Nat→Option Fn) (wf m:Nat) (ws:List Way):Prop where
 T:ef P
 h18:P 18=some bP
 h19:P 19=some gn
 H:qv P
 HW:lO P
 h14:P 14=some fz
 h20:P 20=some fy
 G:aG m ws
 hw:9999 * 27720 < wf
theorem sZ (us:List Way):PyData.eqvAll (us.map yg) (us.map yg)=true:=by
 induction us with
 | nil=>rfl
 | cons w us ih =>
  show (((w.1:Int) == (w.1:Int) && ((w.2.1:Int) == (w.2.1:Int) && ((w.2.2:Int) == (w.2.2:Int) && true))) && PyData.eqvAll (us.map yg) (us.map yg))=true
  rw [ih,beq_self_eq_true,beq_self_eq_true,beq_self_eq_true]; rfl
theorem wY {l k:Nat} (h:σ[l]?=some (.lst (ws.map wayV))) (h':σ[k]?=some (.lst (ws.map wayV))):iE .Eq (.ref l) (.ref k) σ=some true:=by
 show eqV σ (.ref l) (.ref k)=_
 unfold eqV
 rw [dG h lE,dG h' lE]
 exact congrArg some (sZ ws)
theorem wk {call:Nat→List V→Sto→RE}{e:E}{fr:Fra}{l:Nat}{xs:List V}{ss:List S}{r:RS} (he:evE call e fr σ=.ok (.ref l) σ) (h:σ[l]?=some (.lst xs)) (h2:evSs call wf ss fr (σ.set l (.lst []))=r):evSs call wf (.expr (e.meth .clear []) :: ss) fr σ=r :=
 bu (cN he (ag h) ae (ag h) (rfl:dP .clear l xs [] σ=.ok .none (dy σ l []))) h2
end
end Mine
namespace Mine
set_option backward.match.sparseCases false
open PySem
section
variable {call callH:Nat→List V→Sto→RE}{wf:Nat}{fr fr1 fr2:Fra} {σ σ1 σ2:Sto}{t a:E}{ss bs os:List S}{x c i:Nat}{es:List E}{vs:List V}{r:RS}
theorem wt:evSs call wf (.raise c :: ss) fr σ=.ex c fr σ:=rfl
theorem AE {s:S} (h:evS call wf s fr σ=.ex x fr1 σ1):evSs call wf (s :: ss) fr σ=.ex x fr1 σ1:=by
 show (match evS call wf s fr σ with | .ok .next fr σ=>evSs call wf ss fr σ | r=>r)=_; rw [h]
theorem wX (h:evE call t fr σ=.ok (.bool true) σ1) (h1:evSs call wf bs fr σ1=.ex x fr1 σ2):evSs call wf (.ifS t bs os :: ss) fr σ=.ex x fr1 σ2:=AE ((A2 h).trans h1)
theorem sY (hc:aJ a=true) (h:evE call a fr σ=.ex x σ1):evSs call wf (.asg i a :: ss) fr σ=.ex x fr σ1:=AE (by
 show (evE call a fr σ).bindX (aJ a) fr _=_; rw [h,hc]; rfl)
theorem BK {P:Nat→Option Fn}{n k:Nat}{fn:Fn} (hP:P k=some fn) (hl:vs.length=fn.ps.length) (h:evSs (evFn P wf n) wf fn.body (aR fn vs) σ=.ex x fr1 σ1):evFn P wf (n + 1) k vs σ=.ex x σ1:=by
 exact (gZ hP hl).trans (congrArg sE h)
theorem yv {b h:List S}{ds:List Nat}:evT call callH wf (.tryS b ds i h :: ss) fr σ=(match evSs call wf b fr σ with
   | .ok f fr σ=>(match f with | .next=>evT call callH wf ss fr σ | f=>.ok f fr σ)
   | .ex x fr σ=>if ds.contains x ∧ i < fr.length then (match evSs callH wf h (fr.set i (some (.exc x))) σ with
    | .ok f fr σ=>(match f with | .next=>evT call callH wf ss (fr.set i none) σ | f=>.ok f (fr.set i none) σ)
    | _=>.bad) else .bad
   | .bad=>.bad):=rfl
end
end Mine
namespace Mine
set_option backward.match.sparseCases false
open PySem
section
variable {P T:Nat→Option Fn}{wf n k i:Nat}{vs:List V} {σ σ1 σ2:Sto}{fn:Fn}{v:V}{fr fr1 fr2:Fra}{call callH:Nat→List V→Sto→RE}{a:E}{es:List E}{ss b h:List S}{x:Nat}{ds:List Nat}
theorem s4 (hT:T k=none):bq P T wf n k vs σ=evFn P wf n k vs σ:=by unfold bq; rw [hT]
theorem pz (hT:T k=some fn) (hl:vs.length=fn.ps.length) (e:evT (evFn P wf n) (evFn P wf n) wf fn.body (aR fn vs) σ=.ok (.ret v) fr σ1):bq P T wf n k vs σ=.ok v σ1:=by
 unfold bq; rw [hT]
 show (if vs.length=fn.ps.length then _ else _)=_
 rw [if_pos hl,e]; rfl
theorem w2 (h:cg call es fr σ=.ok vs σ1) (h2:call k vs σ1=.ok v σ2):evE call (.tcall k es) fr σ=.ok v σ2:=by
 show (cg call es fr σ).bind _=_; rw [h]; show noX (call k vs σ1)=_; rw [h2]; rfl
theorem r6 (hc:aJ a=true) (h:evE call a fr σ=.ex x σ1):evSs call wf (.expr a :: ss) fr σ=.ex x fr σ1:=AE (by
 show (evE call a fr σ).bindX (aJ a) fr _=_; rw [h,hc]; rfl)
theorem sS (hb:evSs call wf b fr σ=.ex x fr1 σ1) (hx:ds.contains x=true) (hi:i < fr1.length) (hh:evSs callH wf h (fr1.set i (some (.exc x))) σ1=.ok (.ret v) fr2 σ2):evT call callH wf (.tryS b ds i h :: ss) fr σ=.ok (.ret v) (fr2.set i none) σ2:=by
 rw [yv,hb]; dsimp only; rw [if_pos ⟨hx,hi⟩,hh]
end
noncomputable def de (s:Str) (k:Nat):E:=E.tup [E.str s,(E.loc 0).isi (Ty.exc (xc k) xcs)]
noncomputable def j8:Fn:={ ps:=[0],size:=10,body :=
 [S.asg 1 (E.list [de "count" 0,de "meeting" 1]),
  S.asg 1 (E.bin .Add (E.loc 1) (E.list [de "delay" 2,de "apart" 3])),
  S.asg 1 (E.bin .Add (E.loc 1) (E.list [de "ring" 4,de "pace" 5])),
  S.asg 2 (E.comp [1,2] false (E.loc 1) [(E.loc 2).and ((E.loc 5).isi (Ty.val xcs))] (E.loc 1) [none,none,none,none,none,some 0]),
  S.ifS (E.cmp .Eq (E.loc 2) (E.list [])) [S.ret (E.list [E.str "other"])] [],S.ret (E.loc 2)] }
noncomputable def bz:List (Str × Nat):=[("count",0),("meeting",1),("delay",2),("apart",3),("ring",4),("pace",5)]
noncomputable def dJ (k:Nat) (p:Str × Nat):V:=.tup [.str p.1,.bool (xc k == xc p.2)]
section
variable {P:Nat→Option Fn}{wf n:Nat} {σ:Sto}
theorem uC {l k:Nat}{xs xs':List V}{ds:List PyData} (h:σ[l]?=some (.lst xs)) (h':σ[k]?=some (.lst xs')) (hd:aV (toD 4 σ) xs=some ds) (hd':aV (toD 4 σ) xs'=some ds) (he:PyData.eqvAll ds ds=true):eqV σ (.ref l) (.ref k)=some true:=by
 unfold eqV
 rw [dG h hd,dG h' hd']
 exact congrArg some he
theorem AU {s:Str} (hs:PyData.strOk s=true):aV (toD 4 σ) [V.str s]=some [.str s]:=dj (f:=toD 4 σ) (l:=[()]) (g:=fun _=>V.str s) (h:=fun _=>PyData.str s) fun _ _=>if_pos hs
theorem uo (h39:P 39=some j8) {k:Nat}{s:Str} (hin:xcs.contains (xc k)=true) (hf:(bz.filter fun p=>xc k == xc p.2 && true).map (fun p=>V.str p.1)=[.str s]) (hs:PyData.strOk s=true) :
  ∃ l τ,evFn P wf (n + 1) 39 [.exc (xc k)] σ=.ok (.ref l) (σ ++ τ) ∧ (σ ++ τ)[l]?=some (.lst [.str s]):=by
 have ep:∀ (fr:Fra) (σ':Sto) s j,fr[0]?=some (some (.exc (xc k)))→evE (evFn P wf n) (de s j) fr σ'=.ok (dJ k (s,j)) σ':=fun fr σ' s j h0 =>
  dz (aa xN (aa (jD (ac h0) (if_pos hin)) ae)) (by decide:2 ≤ 1000)
 have l2:∀ (fr:Fra) (σ':Sto) s j s' j',fr[0]?=some (some (.exc (xc k)))→evE (evFn P wf n) (E.list [de s j,de s' j']) fr σ'=.ok (.ref σ'.length) (σ' ++ [.lst ([(s,j),(s',j')].map (dJ k))]):=fun fr σ' s j s' j' h0 =>
  bf (aa (ep fr σ' s j h0) (aa (ep fr σ' s' j' h0) ae)) (ai (by decide:2 ≤ 16777216))
 have ec:∀ {σ':Sto}{l:Nat}{x2:Option V},σ'[l]?=some (.lst (bz.map (dJ k)))→evE (evFn P wf n) (E.comp [1,2] false (E.loc 1) [(E.loc 2).and ((E.loc 5).isi (Ty.val xcs))] (E.loc 1) [none,none,none,none,none,some 0]) [some (.exc (xc k)),some (.ref l),x2,none,none,none,none,none,none,none] σ'=.ok (.ref σ'.length) (σ' ++ [.lst [.str s]]):=fun h =>
  fK (ws:=bz) (g:=dJ k) (p:=fun p=>xc k == xc p.2 && true) (f:=fun p=>.str p.1) (ac rfl) (ag h) (fun p hp=>⟨_,rfl,oh (vZ (ac rfl) fun _=>jD (ac rfl) (if_pos hin)),fun _=>ac rfl⟩) ((congrArg (fun l=>cy l _) hf).trans (ai (by decide:1 ≤ 16777216)))
 generalize hσ:σ ++ [AO.lst (bz.take 2 |>.map (dJ k))] ++ [AO.lst (([("delay",2),("apart",3)]:List (Str × Nat)).map (dJ k))] ++ [AO.lst ((bz.take 4).map (dJ k))] ++ [AO.lst (([("ring",4),("pace",5)]:List (Str × Nat)).map (dJ k))]=σ' at *
 have hq:iE .Eq (.ref (σ' ++ [AO.lst (bz.map (dJ k))]).length) (.ref (σ' ++ [AO.lst (bz.map (dJ k))] ++ [AO.lst [V.str s]]).length) (σ' ++ [.lst (bz.map (dJ k))] ++ [.lst [.str s]] ++ [.lst []])=some false:=by
  show eqV _ _ _=_
  exact lP (ap am) (AU hs) am
 refine ⟨(σ' ++ [AO.lst (bz.map (dJ k))]).length,[AO.lst (bz.take 2 |>.map (dJ k))] ++ [AO.lst (([("delay",2),("apart",3)]:List (Str × Nat)).map (dJ k))] ++ [AO.lst ((bz.take 4).map (dJ k))] ++ [AO.lst (([("ring",4),("pace",5)]:List (Str × Nat)).map (dJ k))] ++ [.lst (bz.map (dJ k))] ++ [.lst [.str s]] ++ [.lst []],?_⟩
 rw [← List.append_assoc,← List.append_assoc,← List.append_assoc,← List.append_assoc,← List.append_assoc,← List.append_assoc,hσ]
 refine ⟨?_,ap am⟩
 subst hσ
 exact bp h39 rfl (ak (l2 _ _ _ _ _ _ rfl) (by decide:1 < 10) (ak (ar (ac rfl) (l2 _ _ _ _ _ _ rfl) (l7 (ap am) am (by decide:2 + 2 ≤ 16777216))) (by decide:1 < 10) (ak (ar (ac rfl) (l2 _ _ _ _ _ _ rfl) (l7 (ap am) am (by decide:4 + 2 ≤ 16777216))) (by decide:1 < 10) (ak (ec am) (by decide:2 < 10) (aW (aM (ac rfl) (bf ae (ai (by decide:0 ≤ 16777216))) hq) (aO (ac rfl)))))))
theorem wp (h39:P 39=some j8) {k i:Nat}{s:Str}{fr:Fra} (hi:fr[i]?=some (some (.exc (xc k)))) (hin:xcs.contains (xc k)=true) (hf:(bz.filter fun p=>xc k == xc p.2 && true).map (fun p=>V.str p.1)=[.str s]) (hs:PyData.strOk s=true) (hq:PyData.eqvAll [.str s] [.str s]=true) :
  ∃ τ,evSs (evFn P wf (n + 1)) wf [S.ret (E.cmp .Eq (E.call 39 [E.loc i]) (E.list [E.str s]))] fr σ=.ok (.ret (.bool true)) fr (σ ++ τ):=by
 obtain ⟨l,τ,e,hl⟩:=uo (wf:=wf) (n:=n) (σ:=σ) h39 hin hf hs
 refine ⟨τ ++ [.lst [.str s]],?_⟩
 rw [← List.append_assoc]
 exact aO (aM (aF (aa (ac hi) ae) e) (bf (aa xN ae) (ai (by decide:1 ≤ 16777216))) (uC (ap hl) am (AU hs) (AU hs) hq))
end
end Mine
namespace Mine
open PySem
section
variable {P:Nat→Option Fn}{wf n:Nat} {σ:Sto}{m lw w:Nat}{ws:List Way}{sc:List Int}
end
end Mine
namespace Mine
open PySem
section
variable {call:Nat→List V→Sto→RE}{wf:Nat}{tg:List Nat}{one:Bool}{body:Fra→Sto→RS} {α β:Type}{g:α→V}{F:Nat→β→Fra}{St:Nat→β→Sto}{J:Nat→β→Prop}{ws:List α}{src:Src} {σ:Sto}{it:E}{bs:List S}
inductive zC (tg:List Nat) (one:Bool) (body:Fra→Sto→RS) (v:V) (fr:Fra) (σ:Sto) (Q:RS→Prop):Prop
 | mk (fr1:Fra) (h:bF tg one v fr=some fr1) (r:RS) (e:body fr1 σ=r) (s:∀ c,sz r c=r) (q:Q r):zC tg one body v fr σ Q
theorem so {k:Nat}{a:α}{Q:RS→Prop} (hk:ws[k]?=some a) (hI:∀ i b,J i b→bh (St i b) i src=some (ws[i]?.map g))
  (step:∀ i a b,i < k→ws[i]?=some a→J i b→fT tg one body (g a) (F i b) (St i b) (F (i + 1)) (St (i + 1)) (J (i + 1))) (last:∀ b,J k b→zC tg one body (g a) (F k b) (St k b) Q) :
  ∀ (d n i:Nat) (b:β),i + d=k→k < i + n→J i b→Q (oR tg one body src n i (F i b) (St i b)):=by
 intro d
 induction d with
 | zero =>
  intro n i b hd hn j
  cases n with
  | zero=>exact absurd hn (by lia)
  | succ n =>
   rw [show i=k from hd] at j ⊢
   show Q (kJ (bh (St k b) k src) _ _ _)
   rw [hI k b j,hk]
   obtain ⟨fr1,h1,r,e,s,q⟩:=last b j
   show Q (jH (bF tg one (g a) (F k b)) _ _)
   rw [h1]
   show Q (sz (body fr1 (St k b)) _)
   rw [e,s]; exact q
 | succ d ih =>
  intro n i b hd hn j
  cases n with
  | zero=>exact absurd hn (by lia)
  | succ n =>
   obtain ⟨a',ha⟩:∃ a',ws[i]?=some a':=⟨_,List.getElem?_eq_getElem (Nat.lt_trans (by lia:i < k) (List.getElem?_eq_some_iff.mp hk).1)⟩
   show Q (kJ (bh (St i b) i src) _ _ _)
   rw [hI i b j,ha]
   obtain ⟨fr1,h1,b',e,j'⟩:=step i a' b (by lia) ha j
   show Q (jH (bF tg one (g a') (F i b)) _ _)
   rw [h1]
   show Q (sz (body fr1 (St i b)) _)
   rw [e]
   exact ih n (i + 1) b' (by lia) (by lia) j'
theorem rG {v:V}{k:Nat}{a:α}{Q:RS→Prop} (b0:β) (hk:ws[k]?=some a) (h:evE call it (F 0 b0) σ=.ok v (St 0 b0)) (hv:fU v=some src) (hn:rB (St 0 b0) src=some ws.length) (hI:∀ i b,J i b→bh (St i b) i src=some (ws[i]?.map g))
  (step:∀ i a b,i < k→ws[i]?=some a→J i b→fT tg one (evSs call wf bs) (g a) (F i b) (St i b) (F (i + 1)) (St (i + 1)) (J (i + 1))) (last:∀ b,J k b→zC tg one (evSs call wf bs) (g a) (F k b) (St k b) Q) (h0:J 0 b0):Q (evS call wf (.forS tg one (.e it) bs) (F 0 b0) σ):=by
 rw [uV hv hn h]
 exact so hk hI step last k _ 0 b0 (Nat.zero_add k) (by rw [Nat.zero_add]; exact Nat.lt_succ_of_lt (List.getElem?_eq_some_iff.mp hk).1) h0
end
section
variable {P T:Nat→Option Fn}{wf n:Nat} {σ:Sto}{l m lw lr i:Nat}{ws:List Way}{r:List Nat}{x3 x4 x5 x6:Option V}
theorem rV (p:Nat→Prop):∀ N,(∀ i,i < N→p i) ∨ ∃ k,k < N ∧ ¬ p k ∧ ∀ i,i < k→p i
 | 0=>.inl fun i hi=>absurd hi (Nat.not_lt_zero _)
 | N + 1=>(rV p N).elim (fun h=>(Classical.em (p N)).elim (fun q=>.inl fun i hi=>(Nat.lt_succ_iff_lt_or_eq.mp hi).elim (h i) fun e=>e ▸ q) fun q=>.inr ⟨N,Nat.lt_succ_self _,q,h⟩) fun ⟨k,h1,h2⟩=>.inr ⟨k,Nat.lt_succ_of_lt h1,h2⟩
end
end Mine
namespace Mine
open PySem
noncomputable def zt:E:=E.comp [1] true (E.loc 0) [E.cmp .Eq ((E.loc 1).sub (E.int 1)) (E.loc 2)] (E.bin .Add ((E.loc 3).sub ((E.loc 1).sub (E.int 0))) ((E.loc 1).sub (E.int 2))) [none,none,some 3,some 1]
noncomputable def yl:List S:=[S.expr ((E.loc 2).meth .append [E.blt .max [zt]])]
noncomputable def lI:Fn:={ ps:=[0,1],size:=7,body:=[S.asg 2 (E.list []),S.forS [3] true (It.e (E.blt .range [E.blt .len [E.loc 1]])) yl,S.ret (E.loc 2)] }
theorem mZ (is:List Int):PyData.eqvAll (is.map .int) (is.map .int)=true:=by
 induction is with
 | nil=>rfl
 | cons i is ih =>
  show ((i == i) && PyData.eqvAll (is.map .int) (is.map .int))=true
  rw [ih,beq_self_eq_true]; rfl
section
variable {P:Nat→Option Fn}{wf n:Nat} {σ:Sto}{m lw lt:Nat}{ws:List Way}{x y:Nat→Int}
theorem r7:intsV m y=((List.range m).map y).map V.int:=by unfold intsV; rw [List.map_map]; rfl
theorem wD {l k:Nat} (h:σ[l]?=some (.lst (intsV m y))) (h':σ[k]?=some (.lst (intsV m y))):iE .NotEq (.ref l) (.ref k) σ=some false:=by
 have hd:aV (toD 4 σ) (intsV m y)=some (((List.range m).map y).map PyData.int):=by rw [r7]; exact dj fun _ _=>rfl
 show (eqV σ (.ref l) (.ref k)).map (!·)=_
 unfold eqV
 rw [dG h hd,dG h' hd]
 show some (!PyData.eqvAll (((List.range m).map y).map PyData.int) (((List.range m).map y).map PyData.int))=_
 rw [mZ]; rfl
theorem yY {call:Nat→List V→Sto→RE} (hlw:σ[lw]?=some (.lst (ws.map wayV))) (G:aG m ws) (ht:σ[lt]?=some (.lst (intsV m x))) {v:Nat} (hv:v < m) {fr:Fra} (h0:fr[0]?=some (some (.ref lw))) (hs:dA fr [none,none,some 3,some 1]=[none,none,some (.int v),some (.ref lt)]) :
  evE call (E.blt .max [zt]) fr σ=.ok (.int (cV ws x v)) (σ ++ [.lst ((oO ws x v).map V.int)]):=by
 refine ba (aa (fK (ws:=ws) (g:=wayV) (p:=fun w=>w.2.1 == v) (f:=fun w=>V.int (x w.1 + (w.2.2:Int))) (ac h0) (ag hlw) (fun w hw=>?_) ?_) ae) (vz am (mK G.ins hv))
 ·rw [hs]
  exact ⟨_,rfl,oh (aM (aC (ac rfl) aj rfl) (ac rfl) (congrArg some (dm w.2.1 v))),fun _=>ar (aC (ac rfl) (aC (ac rfl) aj rfl) (aN ht (aX (G.hm w hw).1))) (aC (ac rfl) aj rfl) rfl⟩
 ·rw [show ((ws.filter fun w=>w.2.1 == v).map fun w=>V.int (x w.1 + (w.2.2:Int)))=(oO ws x v).map V.int by unfold oO; rw [List.map_map]; rfl]
  refine ai ?_
  unfold oO
  rw [List.length_map,List.length_map]; exact Nat.le_trans (List.length_filter_le _ _) (Nat.le_trans G.hz (by decide))
theorem xb (h27:P 27=some lI) (hlw:σ[lw]?=some (.lst (ws.map wayV))) (G:aG m ws) (ht:σ[lt]?=some (.lst (intsV m x))) :
  ∃ τ,evFn P wf (n + 1) 27 [.ref lw,.ref lt] σ=.ok (.ref σ.length) (accS σ (intsV m (cV ws x)) τ):=by
 have hm:=G.m2
 obtain ⟨fr1,σ1,e1,x3,τ,rfl,rfl⟩:=(iI (call:=evFn P wf n) (wf:=wf) (tg:=[3]) (one:=true) (ws:=List.range m) (g:=fun (v:Nat)=>V.int v) (it:=E.blt .range [E.blt .len [E.loc 1]]) (bs:=yl) (fr:=[some (.ref lw),some (.ref lt),some (.ref σ.length),none,none,none,none]) (σ:=accS σ [] [])
  (fun i fr σ'=>∃ (x3:Option V) (τ:Sto),fr=[some (.ref lw),some (.ref lt),some (.ref σ.length),x3,none,none,none] ∧ σ'=accS σ (intsV i (cV ws x)) τ) (fun _ _=>False)
  (ba (aa (ba (aa (ac rfl) ae) (dv (ap ht))) ae) (bo (by rw [aP]; lia))) (by rw [aP]; exact br m)
  (by
   rintro i v _ _ hv ⟨x3,τ,rfl,rfl⟩
   obtain ⟨hi,rfl⟩:=bg hv
   have e:=yY (call:=evFn P wf n) (σ:=accS σ (intsV i (cV ws x)) τ) (x:=x) (fr:=[some (.ref lw),some (.ref lt),some (.ref σ.length),some (.int i),none,none,none]) (ap hlw) G (ap ht) hi rfl rfl
   rw [co] at e
   refine ⟨_,rfl,.inl ⟨_,_,mA rfl e (by rw [aP]; lia),some (.int i),τ ++ [.lst ((oO ws x i).map V.int)],rfl,?_⟩⟩
   rw [dR]) ⟨none,[],rfl,rfl⟩).next
 rw [List.length_range] at e1
 exact ⟨τ,bp h27 rfl (ak (bf ae (ai (by decide:0 ≤ 16777216))) (by decide:2 < 7) (a4 e1 (aO (ac rfl))))⟩
end
end Mine
namespace Mine
set_option backward.match.sparseCases false
open PySem
noncomputable def sWay9 (a b d:E):S:=S.expr ((E.loc 4).meth .append [E.tup [a,b,d]])
noncomputable def px (j:Nat):List S :=
 [S.asg 6 (E.call 22 [E.call 20 [E.loc 0,E.int 2],E.loc 5]),
  S.ifS ((E.cmp .Eq (E.loc 1) (E.int 1)).or (E.cmp .Eq (E.bin .Mod (E.bin .FloorDiv (E.loc (j + 7)) (E.int 12)) (E.int 2)) (E.int 0)))
   [sWay9 ((E.loc 3).sub (E.loc 5)) ((E.loc 3).sub (E.bin .Mod (E.bin .Add (E.loc 5) (E.int 1)) (E.loc 1))) (E.bin .Mod (E.loc 6) (E.loc 2))]
   [S.ifS (E.cmp .Gt (E.loc 5) (E.int 0))
    [sWay9 ((E.loc 3).sub (E.bin .Mod (E.bin .FloorDiv (E.loc 6) (E.int 7)) (E.loc 5))) ((E.loc 3).sub (E.loc 5)) (E.bin .Mod (E.bin .FloorDiv (E.loc 6) (E.int 64)) (E.loc 2)),
     sWay9 ((E.loc 3).sub (E.loc 5)) ((E.loc 3).sub (E.bin .Mod (E.bin .FloorDiv (E.loc 6) (E.int 512)) (E.loc 5))) (E.bin .Mod (E.bin .FloorDiv (E.loc 6) (E.int 4096)) (E.loc 2))] []]]
noncomputable def jZ:List S :=
 [S.asg 6 (E.call 22 [E.call 20 [E.loc 0,E.bin .Add (E.int 3) (E.bin .Mod (E.loc 5) (E.int 6))],E.loc 5]),
  sWay9 (E.bin .Mod (E.loc 6) (E.loc 1)) (E.bin .Mod (E.bin .FloorDiv (E.loc 6) (E.int 16)) (E.loc 1)) (E.bin .Mod (E.bin .FloorDiv (E.loc 6) (E.int 256)) (E.loc 2))]
noncomputable def gi (j:Nat):KX:=((KX.par.add (KX.num 1)).mul ((KX.num 1).add ((KX.var (j + 7)).mod (KX.num 12)))).mod (KX.num 13)
noncomputable def cJ (le m lo lw:Nat) (x4 x5:Option V) (rest:Fra):Fra:=some (.ref 0) :: some (.int m) :: some (.int le) :: some (.ref lo) :: some (.ref lw) :: x4 :: x5 :: rest
section
variable {call:Nat→List V→Sto→RE}{wf:Nat} {β τ τ':Sto}{ws:List Way}{le m lo:Nat}{x4 x5:Option V}{rest:Fra}
theorem mU {e1 e2 e3:E}{ss:List S}{r:RS}{a b d:Nat} (h1:evE call e1 (cJ le m lo β.length x4 x5 rest) (du β ws τ)=.ok (.int a) (du β ws τ)) (h2:evE call e2 (cJ le m lo β.length x4 x5 rest) (du β ws τ)=.ok (.int b) (du β ws τ))
  (h3:evE call e3 (cJ le m lo β.length x4 x5 rest) (du β ws τ)=.ok (.int d) (du β ws τ')) (hz:ws.length ≤ 1000) (h:evSs call wf ss (cJ le m lo β.length x4 x5 rest) (du β (ws ++ [(a,b,d)]) τ')=r):evSs call wf (sWay9 e1 e2 e3 :: ss) (cJ le m lo β.length x4 x5 rest) (du β ws τ)=r:=by
 refine bu (cN (ac rfl) (ag am) (aa (dz (aa h1 (aa h2 (aa h3 ae))) (by decide:3 ≤ 1000)) ae) (ag am) (l4 ?_)) ?_
 ·rw [List.length_map]; lia
 ·have e:dy (du β ws τ') β.length (ws.map wayV ++ [.tup [.int a,.int b,.int d]])=du β (ws ++ [(a,b,d)]) τ':=by
   unfold dy du
   rw [dB,List.map_append]; rfl
  rw [e]; exact h
end
structure ot (P:Nat→Option Fn):Prop where
 h20:P 20=some fy
 h22:P 22=some rr
section
variable {P:Nat→Option Fn}{wf n:Nat} {β:Sto}{sc:List Int}{le m M lo j:Nat}{o:List Nat}{rest:Fra}{cell:Int}
theorem gm (hM:1 ≤ le ∧ le ≤ M) {e:E}{fr:Fra}{ws:List Way} {τ:Sto}{N:Nat} (hfr:fr[2]?=some (some (.int le))) (h:evE (evFn P wf (n + 1)) e fr (du β ws τ)=.ok (.int N) (du β ws τ)):∃ d τ',d < M ∧ evE (evFn P wf (n + 1)) (E.bin .Mod e (E.loc 2)) fr (du β ws τ)=.ok (.int (d:Nat)) (du β ws τ') :=
 ⟨N % le,τ,Nat.lt_of_lt_of_le (Nat.mod_lt _ hM.1) hM.2,ar h (ac hfr) (iu (Nat.ne_of_gt hM.1))⟩
inductive W19 (le:Nat) (β:Sto) (m M lo:Nat) (o:List Nat) (rest:Fra) (ring:Bool) (i:Nat):Fra→Sto→Prop
 | mk (ws:List Way) (τ:Sto) (x4 x5:Option V) (B:ei m M o ring i ws):W19 le β m M lo o rest ring i (cJ le m lo β.length x4 x5 rest) (du β ws τ)
theorem lu (H:ot P) (hM:1 ≤ le ∧ le ≤ M) (hs:aH β sc) (hlo:β[lo]?=some (.lst (natsV o))) (hol:o.length=m) (ho:∀ k,k < m→o.getD k 0 < m) (m2:m ≤ 12) (hj:rest[j]?=some (some (.int cell))) {i:Nat} (hi:i < m) {fr:Fra} {σ:Sto} (I:W19 le β m M lo o rest (oz m cell) i fr σ) :
  mV [5] true (evSs (evFn P wf (n + 1)) wf (px j)) (.int i) fr σ (W19 le β m M lo o rest (oz m cell) (i + 1)) (fun _ _=>False):=by
 obtain ⟨ws,τ,x4,x5,B⟩:=I
 have hlen:ws.length ≤ 24:=by have:=B.len; lia
 refine ⟨cJ le m lo β.length (some (.int i)) x5 rest,rfl,.inl ?_⟩
 have hsc:∀ ws τ,aH (du β ws τ) sc:=fun ws τ=>ap hs
 have hord:∀ ws τ k,k < m→jE (.ref lo) (.int k) (du β ws τ)=some (.int (o.getD k 0:Nat)):=fun ws τ k hk=>aN (ap hlo) (ic (by lia))
 have e1:evE (evFn P wf (n + 1)) (E.call 22 [E.call 20 [E.loc 0,E.int 2],E.loc 5]) (cJ le m lo β.length (some (.int i)) x5 rest) (du β ws τ)=.ok (.int (mixN (sc.getD 2 0) i:Nat)) (du β ws τ) :=
  aF (aa (aF (aa (ac rfl) (aa aj ae)) (dM H.h20 (hsc _ _) 2)) (aa (ac rfl) ae)) (nJ H.h22)
 generalize mixN (sc.getD 2 0) i=N at e1
 have et:evE (evFn P wf (n + 1)) ((E.cmp .Eq (E.loc 1) (E.int 1)).or (E.cmp .Eq (E.bin .Mod (E.bin .FloorDiv (E.loc (j + 7)) (E.int 12)) (E.int 2)) (E.int 0))) (cJ le m lo β.length (some (.int i)) (some (.int N)) rest) (du β ws τ)=.ok (.bool (oz m cell)) (du β ws τ):=by
  refine BC (aM (ac rfl) aj rfl) fun _=>aM (ar (ar (ac hj) aj (fJ (by decide) (by decide))) aj (dc (by decide))) aj rfl
 have hmod:evE (evFn P wf (n + 1)) (E.bin .Mod (E.bin .Add (E.loc 5) (E.int 1)) (E.loc 1)) (cJ le m lo β.length (some (.int i)) (some (.int N)) rest) (du β ws τ)=.ok (.int ((i + 1) % m:Nat)) (du β ws τ):=ar (ar (ac rfl) aj rfl) (ac rfl) (iu (x:=i + 1) (by lia))
 cases hr:oz m cell with
 | true =>
  rw [hr] at B et
  obtain ⟨d,τ',hd,e2⟩:=gm (n:=n) (wf:=wf) hM (by rfl) (e:=E.loc 6) (fr:=cJ le m lo β.length (some (.int i)) (some (.int N)) rest) (ws:=ws) (τ:=τ) (N:=N) (ac rfl)
  refine ⟨_,_,ak e1 (show 6 < rest.length + 7 by lia) (d3 et (mU (aC (ac rfl) (ac rfl) (hord _ _ i hi)) (aC (ac rfl) hmod (hord _ _ _ (Nat.mod_lt _ (by lia)))) e2 (by lia) a6) a6),⟨_,_,_,_,B.ring1 ho hi hd⟩⟩
 | false =>
  rw [hr] at B et
  by_cases h0:i=0
  ·subst h0
   exact ⟨_,_,ak e1 (show 6 < rest.length + 7 by lia) (re et (aW (aM (p:=false) (ac rfl) aj rfl) a6) a6),⟨_,_,_,_,B.tree0⟩⟩
  ·have hdv:∀ (q:Nat) ws τ,q ≠ 0→q < 10 ^ 100→evE (evFn P wf (n + 1)) (E.bin .FloorDiv (E.loc 6) (E.int q)) (cJ le m lo β.length (some (.int i)) (some (.int N)) rest) (du β ws τ)=.ok (.int (N / q:Nat)) (du β ws τ):=fun q ws τ h1 h2=>ar (ac rfl) aj (jL h1 h2)
   obtain ⟨d,τ',hd,e2⟩:=gm (n:=n) (wf:=wf) hM (by rfl) (ws:=ws) (τ:=τ) (hdv 64 ws τ (by decide) (by decide))
   obtain ⟨d',τ2,hd',e3⟩:=gm (n:=n) (wf:=wf) hM (by rfl) (ws:=ws ++ [(o.getD (N / 7 % i) 0,o.getD i 0,d)]) (τ:=τ') (hdv 4096 _ τ' (by decide) (by decide))
   have b1:N / 7 % i < i:=Nat.mod_lt _ (by lia)
   have b2:N / 512 % i < i:=Nat.mod_lt _ (by lia)
   have hlen1:(ws ++ [(o.getD (N / 7 % i) 0,o.getD i 0,d)]).length ≤ 1000:=by rw [List.length_append]; show ws.length + 1 ≤ _; lia
   refine ⟨_,_,ak e1 (show 6 < rest.length + 7 by lia) (re et (d3 (aM (p:=true) (ac rfl) aj (congrArg some (decide_eq_true (by lia)))) (mU (aC (ac rfl) (ar (hdv 7 _ _ (by decide) (by decide)) (ac rfl) (iu h0)) (hord _ _ _ (by lia))) (aC (ac rfl) (ac rfl) (hord _ _ i hi)) e2 (by lia) (mU (aC (ac rfl) (ac rfl) (hord _ _ i hi)) (aC (ac rfl) (ar (hdv 512 _ _ (by decide) (by decide)) (ac rfl) (iu h0)) (hord _ _ _ (by lia))) e3 hlen1 a6)) a6) a6),⟨_,_,_,_,B.tree1 ho hi b1 b2 hd hd'⟩⟩
end
section
variable {P:Nat→Option Fn}{wf n:Nat} {σ β:Sto}{sc:List Int}{le m M lo j:Nat}{o:List Nat}{rest:Fra}{cell:Int}
theorem pS {fr:Fra}{key:KX} (hk:key=gi j) (hc:fr[j + 7]?=some (some (.int cell))) (ht:σ[1]?=some (.tab false)) (m1:1 ≤ m) (m2:m ≤ 12) :
  ∃ o:List Nat,o.Perm (List.range m) ∧ zP key fr (.rng 0 m) σ=.ok (.ref σ.length) (σ.set 1 (AO.tab true) ++ [AO.lst (natsV o)]):=by
 obtain ⟨c,hc1,hc2⟩:=a9 12 (by decide) cell
 have e1:∀ i:Nat,i < m→kxV fr (i:Int) (gi j)=some (((i + 1) * (c + 1) % 13:Nat):Int):=fun i hi=>by
  unfold gi
  show (((some ((i:Int) + 1)).bind fun p=>(((some (1:Int)).bind fun p=>((kxV fr (i:Int) ((KX.var (j + 7)).mod (KX.num 12))).map fun q=>p + q))).bind fun q=>if gJ p q then some (p * q) else none).bind fun p=>(some (13:Int)).bind fun q=>if q ≠ 0 then some (p.fmod q) else none)=_
  have ev:kxV fr (i:Int) ((KX.var (j + 7)).mod (KX.num 12))=some (c:Int):=by
   show ((match fr[j + 7]? with | some (some (.int v))=>some v | _=>none).bind fun p=>(some (12:Int)).bind fun q=>if q ≠ 0 then some (p.fmod q) else none)=_
   rw [hc]
   show (if (12:Int) ≠ 0 then some (cell.fmod 12) else none)=_
   rw [if_pos (by decide)]; exact congrArg some hc2
  rw [ev]
  show ((if gJ ((i:Int) + 1) (1 + (c:Int)) then some (((i:Int) + 1) * (1 + (c:Int))) else none).bind fun p=>if (13:Int) ≠ 0 then some (p.fmod 13) else none)=_
  rw [if_pos (.inl (by lia))]
  show (if (13:Int) ≠ 0 then some ((((i:Int) + 1) * (1 + (c:Int))).fmod 13) else none)=_
  rw [if_pos (by decide)]
  have:((i:Int) + 1) * (1 + (c:Int))=(((i + 1) * (c + 1):Nat):Int):=by rw [Int.natCast_mul,Int.add_comm 1]; rfl
  rw [this]
  exact congrArg some (yn _ 13)
 have e2:aV (fun (i:Nat)=>kxV fr (i:Int) key) (List.range m)=some ((List.range m).map fun i=>(((i + 1) * (c + 1) % 13:Nat):Int)):=by
  have:=dj (f:=fun (i:Nat)=>kxV fr (i:Int) key) (g:=id) (h:=fun i=>(((i + 1) * (c + 1) % 13:Nat):Int)) (l:=List.range m) fun i hi=>by rw [hk]; exact e1 i (List.mem_range.mp hi)
  rwa [List.map_id] at this
 have nd:((List.range m).map fun i=>(((i + 1) * (c + 1) % 13:Nat):Int)).Nodup:=by
  rw [List.Nodup,List.pairwise_iff_getElem]
  intro p q hp hq hpq e
  rw [List.length_map,List.length_range] at hp hq
  rw [List.getElem_map,List.getElem_map,List.getElem_range,List.getElem_range] at e
  have:=nP (c + 1) (by lia) (by lia) p q (by lia) (by lia) (Int.ofNat.inj e)
  lia
 have hp:((fm (((List.range m).map fun i=>(((i + 1) * (c + 1) % 13:Nat):Int)).zip (fP 0 m))).map (·.2)).Perm (natsV (List.range m)):=by
  refine ((ms _).map _).trans ?_
  have:(((List.range m).map fun i=>(((i + 1) * (c + 1) % 13:Nat):Int)).zip (fP 0 m)).map (·.2)=fP 0 m:=List.map_snd_zip (by rw [br,List.length_map,List.length_map]; exact Nat.le_refl _)
  rw [this,br]
  exact .refl _
 obtain ⟨o,ho,hperm⟩:=rX hp
 refine ⟨o,hperm,?_⟩
 show (if (0:Int)=0 ∧ (m:Int) < 60 then Bd σ[1]? (z6 (aV (fun (i:Nat)=>kxV fr (i:Int) key) (List.range (m:Int).toNat)) m σ) else .bad)=_
 rw [if_pos ⟨rfl,by lia⟩,ht]
 show z6 (aV (fun (i:Nat)=>kxV fr (i:Int) key) (List.range m)) m σ=_
 rw [e2]
 show (if ((List.range m).map fun i=>(((i + 1) * (c + 1) % 13:Nat):Int)).Nodup then cy ((fm (((List.range m).map fun i=>(((i + 1) * (c + 1) % 13:Nat):Int)).zip (fP 0 m))).map (·.2)) (σ.set 1 (.tab true)) else .bad)=_
 rw [if_pos nd,ho,ai (by rw [aU,hperm.length_eq,List.length_range]; lia),List.length_set]
inductive W29 (le:Nat) (β:Sto) (m M lo K:Nat) (rest:Fra) (i:Nat):Fra→Sto→Prop
 | mk (ws:List Way) (τ:Sto) (x4 x5:Option V) (L:cR m M (K + i) ws):W29 le β m M lo K rest i (cJ le m lo β.length x4 x5 rest) (du β ws τ)
theorem lU (H:ot P) (hM:1 ≤ le ∧ le ≤ M) (hs:aH β sc) (m1:1 ≤ m) {K i:Nat} (hK:K + i ≤ 1000) {fr:Fra} {σ:Sto} (I:W29 le β m M lo K rest i fr σ) :
  mV [5] true (evSs (evFn P wf (n + 1)) wf jZ) (.int i) fr σ (W29 le β m M lo K rest (i + 1)) (fun _ _=>False):=by
 obtain ⟨ws,τ,x4,x5,L⟩:=I
 refine ⟨cJ le m lo β.length (some (.int i)) x5 rest,rfl,.inl ?_⟩
 have e1:evE (evFn P wf (n + 1)) (E.call 22 [E.call 20 [E.loc 0,E.bin .Add (E.int 3) (E.bin .Mod (E.loc 5) (E.int 6))],E.loc 5]) (cJ le m lo β.length (some (.int i)) x5 rest) (du β ws τ)=.ok (.int (mixN (sc.getD (3 + i % 6) 0) i:Nat)) (du β ws τ) :=
  aF (aa (aF (aa (ac rfl) (aa (ar aj (ar (ac rfl) aj (iu (x:=i) (y:=6) (by decide))) rfl) ae)) (dM H.h20 (show aH (du β ws τ) sc from ap hs) (3 + i % 6))) (aa (ac rfl) ae)) (nJ H.h22)
 generalize mixN (sc.getD (3 + i % 6) 0) i=N at e1
 obtain ⟨d,τ',hd,e2⟩:=gm (n:=n) (wf:=wf) hM (by rfl) (e:=E.bin .FloorDiv (E.loc 6) (E.int 256)) (fr:=cJ le m lo β.length (some (.int i)) (some (.int N)) rest) (ws:=ws) (τ:=τ) (N:=N / 256) (ar (ac rfl) aj (jL (y:=256) (by decide) (by decide)))
 have hlen:=L.len
 exact ⟨_,_,ak e1 (show 6 < rest.length + 7 by lia) (mU (ar (ac rfl) (ac rfl) (iu (by lia))) (ar (ar (ac rfl) aj (jL (y:=16) (by decide) (by decide))) (ac rfl) (iu (by lia))) e2 (by lia) a6),⟨_,_,_,_,L.more (Nat.mod_lt _ m1) (Nat.mod_lt _ m1) hd⟩⟩
noncomputable def nw (j:Nat) (rest:List S):List S :=
 S.asg 3 ((E.blt .range [E.loc 1]).srt (gi j)) :: S.asg 4 (E.list []) :: S.forS [5] true (It.e (E.blt .range [E.loc 1])) (px j) :: rest
theorem qW (H:ot P) (hM:1 ≤ le ∧ le ≤ M) (hs:aH σ sc) (ht:σ[1]?=some (.tab false)) (m1:1 ≤ m) (m2:m ≤ 12) {tail:List S}{rest1:Fra} (hj':rest1[j]?=some (some (.int cell))) {G:Prop}
  (k:∀ ws o τ x4 x5,cR m M (2 * m) ws→(∀ r,evSs (evFn P wf (n + 1)) wf tail (cJ le m σ.length (σ.length + 1) x4 x5 rest1) (du (σ.set 1 (.tab true) ++ [o]) ws τ)=r→evSs (evFn P wf (n + 1)) wf (nw j tail) (some (.ref 0) :: some (.int m) :: some (.int le) :: none :: none :: none :: none :: rest1) σ=r)→G):G:=by
 obtain ⟨o,hp,eo⟩:=pS (σ:=σ) (m:=m) (j:=j) (cell:=cell) (fr:=some (.ref 0) :: some (.int m) :: some (.int le) :: none :: none :: none :: none :: rest1) rfl hj' ht m1 m2
 have hol:o.length=m:=by rw [hp.length_eq,List.length_range]
 have ho:∀ k,k < m→o.getD k 0 < m:=fun k hk=>List.mem_range.mp (hp.mem_iff.mp (uh (by lia)))
 have hlb:(σ.set 1 (AO.tab true) ++ [AO.lst (natsV o)]).length=σ.length + 1:=by rw [List.length_append,List.length_set]; rfl
 have hlo:(σ.set 1 (AO.tab true) ++ [AO.lst (natsV o)])[σ.length]?=some (.lst (natsV o)):=by
  have:=am (σ:=σ.set 1 (.tab true)) (o:=.lst (natsV o)) (τ:=[])
  rwa [List.length_set] at this
 have hs':aH (σ.set 1 (AO.tab true) ++ [AO.lst (natsV o)]) sc:=ap (by rw [List.getElem?_set_ne (by decide)]; exact hs)
 obtain ⟨fr1,σ1,l1,ws1,τ1,y4,y5,B⟩:=(iI (call:=evFn P wf (n + 1)) (wf:=wf) (tg:=[5]) (one:=true) (ws:=List.range m) (g:=fun (v:Nat)=>V.int v) (it:=E.blt .range [E.loc 1]) (bs:=px j) (fr:=cJ le m σ.length (σ.set 1 (AO.tab true) ++ [AO.lst (natsV o)]).length none none rest1) (σ:=du (σ.set 1 (AO.tab true) ++ [AO.lst (natsV o)]) [] [])
  (W19 le (σ.set 1 (AO.tab true) ++ [AO.lst (natsV o)]) m M σ.length o rest1 (oz m cell)) (fun _ _=>False) (ba (aa (ac rfl) ae) (bo (by lia))) (br m)
  (by
   intro i v fr σ' hv I
   obtain ⟨hi,rfl⟩:=bg hv
   exact lu H hM hs' hlo hol ho m2 hj' hi I) ⟨[],[],none,none,ei.start⟩).next
 rw [List.length_range] at B
 refine k ws1 (.lst (natsV o)) τ1 y4 y5 (B.good m1 (fun e=>by unfold oz; rw [e]; rfl) hp) fun r h=>?_
 rw [← hlb] at h
 exact ak (Bo (ba (aa (ac rfl) ae) (bo (by lia))) eo) (show 3 < _ + 7 by lia) (ak (bf ae (ai (by decide:0 ≤ 16777216))) (show 4 < _ + 7 by lia) (a4 l1 h))
theorem qO (H:ot P) (hM:1 ≤ le ∧ le ≤ M) (hs:aH β sc) (m1:1 ≤ m) {K k:Nat} (hK:K + k ≤ 1000) {ws:List Way} {τ:Sto}{x4 x5:Option V}{e:E} (L:cR m M K ws) (he:evE (evFn P wf (n + 1)) e (cJ le m lo β.length x4 x5 rest) (du β ws τ)=.ok (.rng 0 k) (du β ws τ)) :
  ∃ ws' τ' y4 y5,cR m M (K + k) ws' ∧ evS (evFn P wf (n + 1)) wf (S.forS [5] true (It.e e) jZ) (cJ le m lo β.length x4 x5 rest) (du β ws τ)=.ok .next (cJ le m lo β.length y4 y5 rest) (du β ws' τ'):=by
 obtain ⟨fr2,σ2,l2,ws2,τ2,z4,z5,L2⟩:=(iI (call:=evFn P wf (n + 1)) (wf:=wf) (tg:=[5]) (one:=true) (ws:=List.range k) (g:=fun (v:Nat)=>V.int v) (it:=e) (bs:=jZ) (fr:=cJ le m lo β.length x4 x5 rest) (σ:=du β ws τ)
  (W29 le β m M lo K rest) (fun _ _=>False) he (br k)
  (by
   intro i v fr σ' hv I
   obtain ⟨hi,rfl⟩:=bg hv
   exact lU H hM hs m1 (by lia) I) ⟨ws,τ,x4,x5,L⟩).next
 rw [List.length_range] at L2
 exact ⟨ws2,τ2,z4,z5,L2,l2⟩
end
end Mine
namespace Mine
set_option backward.match.sparseCases false
open PySem
noncomputable def pH:Fn:={ ps:=[0,1],size:=6,body :=
 [S.asg 2 (E.bin .Sub ((E.loc 1).sub (E.int 0)) ((E.loc 0).sub (E.int 0))),
  S.forS [3] true (It.e (E.blt .range [E.blt .len [E.loc 0]])) [S.ifS (E.cmp .NotEq (E.bin .Sub ((E.loc 1).sub (E.loc 3)) ((E.loc 0).sub (E.loc 3))) (E.loc 2)) [S.ret E.none] []],S.ret (E.loc 2)] }
noncomputable def nY:List S:=[S.asg 10 (E.call 26 [(E.loc 4).sub (E.loc 9),(E.loc 4).sub (E.loc 6)]),
 S.ifS ((E.cmp .IsNot (E.loc 10) E.none).and (E.cmp .Lt (E.loc 9) (E.loc 6))) [S.ret (E.tup [E.loc 9,E.bin .Sub (E.loc 6) (E.loc 9),E.loc 10])] []]
noncomputable def oC:List S :=
 [S.expr ((E.loc 4).meth .append [E.call 27 [E.loc 0,(E.loc 4).sub (E.int 1).neg]]),
  S.asg 7 (E.bin .Sub (((E.loc 4).sub (E.loc 6)).sub (E.int 1).neg) (((E.loc 4).sub (E.loc 6)).sub (E.int 0))),
  S.asg 8 (E.blt .list [E.blt .range [E.loc 6]]),
  S.ifS (E.cmp .Lt (E.loc 3) (E.int 3)) [S.asg 8 (E.list [(E.loc 5).dget (E.loc 7) (E.loc 6)]),S.asgI (E.loc 5) (E.loc 7) (E.loc 6)] [],
  S.forS [9] true (It.e (E.loc 8)) nY]
noncomputable def rH:Fn:={ ps:=[0,1,2,3],size:=15,body :=
 [S.asg 4 (E.list [E.loc 1]),S.asg 5 ((E.bin .Sub ((E.loc 1).sub (E.int 1).neg) ((E.loc 1).sub (E.int 0))).dict1 (E.int 0)),
  S.forS [6] true (It.e (E.blt .range [E.int 1,E.bin .Add (E.loc 2) (E.int 1)])) oC,S.ret E.none] }
section
variable {P T:Nat→Option Fn}{wf n:Nat} {σ:Sto}{m lw lt l i:Nat}{ws:List Way}{sc:List Int}{x y:Nat→Int}{X:Nat→Nat→Int}
noncomputable def w9 (m:Nat) (x y:Nat→Int):V:=if ax m x=ax m y then .int (y 0 - x 0) else .none
theorem mQ (h:∀ v,v < m→y v - x v=y 0 - x 0):ax m x=ax m y:=by
 unfold ax
 refine List.map_congr_left fun v hv=>?_
 have:=h v (List.mem_range.mp hv)
 lia
noncomputable def xV (la lb:Nat) (g:Int) (x3:Option V):Fra:=[some (.ref la),some (.ref lb),some (.int g),x3,none,none]
theorem zz (h26:P 26=some pH) {la lb:Nat} (ha:σ[la]?=some (.lst (intsV m x))) (hb:σ[lb]?=some (.lst (intsV m y))) (m1:1 ≤ m) (m2:m ≤ 12):evFn P wf (n + 1) 26 [.ref la,.ref lb] σ=.ok (w9 m x y) σ:=by
 have hl:=dv ha
 rw [aP] at hl
 have er:evE (evFn P wf n) (E.blt .range [E.blt .len [E.loc 0]]) (xV la lb (y 0 - x 0) none) σ=.ok (.rng 0 m) σ:=ba (aa (ba (aa (ac rfl) ae) hl) ae) (bo (by lia))
 have e2:evE (evFn P wf n) (E.bin .Sub ((E.loc 1).sub (E.int 0)) ((E.loc 0).sub (E.int 0))) (aR pH [.ref la,.ref lb]) σ=.ok (.int (y 0 - x 0)) σ:=ar (aC (ac rfl) aj (aN (k:=0) hb (aX m1))) (aC (ac rfl) aj (aN (k:=0) ha (aX m1))) rfl
 have et:∀ v,v < m→evE (evFn P wf n) (E.cmp .NotEq (E.bin .Sub ((E.loc 1).sub (E.loc 3)) ((E.loc 0).sub (E.loc 3))) (E.loc 2)) (xV la lb (y 0 - x 0) (some (.int v))) σ=.ok (.bool ((y v - x v) != (y 0 - x 0))) σ:=fun v hv=>aM (ar (aC (ac rfl) (ac rfl) (aN hb (aX hv))) (aC (ac rfl) (ac rfl) (aN ha (aX hv))) rfl) (ac rfl) rfl
 unfold w9
 by_cases hs:ax m x=ax m y
 ·rw [if_pos hs]
  obtain ⟨z,e,_⟩:=lJ (call:=evFn P wf n) (wf:=wf) (tg:=[3]) (one:=true) (ws:=List.range m) (g:=fun (v:Nat)=>V.int v) (it:=E.blt .range [E.blt .len [E.loc 0]]) (bs:=[S.ifS (E.cmp .NotEq (E.bin .Sub ((E.loc 1).sub (E.loc 3)) ((E.loc 0).sub (E.loc 3))) (E.loc 2)) [S.ret E.none] []]) (σ:=σ)
   (F:=fun _ (z:Option V)=>xV la lb (y 0 - x 0) z) (S:=fun _ _=>σ) (J:=fun _ _=>True) none er (br m) (fun i v z hv _=>by
    obtain ⟨hi,rfl⟩:=bg hv
    have e:=et i hi
    have:=jw hs hi
    rw [show (y i - x i != y 0 - x 0)=false from bne_eq_false_iff_eq.mpr (by lia)] at e
    exact ⟨_,rfl,some (.int i),aW e a6,trivial⟩) trivial
  exact bp h26 rfl (ak e2 (by decide:2 < 6) (a4 e (aO (ac rfl))))
 ·rw [if_neg hs]
  obtain ⟨k,hk,hne,hlt⟩:∃ k,k < m ∧ y k - x k ≠ y 0 - x 0 ∧ ∀ v,v < k→y v - x v=y 0 - x 0:=(rV (fun v=>y v - x v=y 0 - x 0) m).elim (fun h=>absurd (mQ h) hs) id
  have e:=rG (call:=evFn P wf n) (wf:=wf) (tg:=[3]) (one:=true) (ws:=List.range m) (g:=fun (v:Nat)=>V.int v) (it:=E.blt .range [E.blt .len [E.loc 0]]) (bs:=[S.ifS (E.cmp .NotEq (E.bin .Sub ((E.loc 1).sub (E.loc 3)) ((E.loc 0).sub (E.loc 3))) (E.loc 2)) [S.ret E.none] []]) (σ:=σ) (src:=.rng 0 m) (Q:=fun R=>R=.ok (.ret .none) (xV la lb (y 0 - x 0) (some (.int k))) σ)
   (F:=fun _ (z:Option V)=>xV la lb (y 0 - x 0) z) (St:=fun _ _=>σ) (J:=fun _ _=>True) none (List.getElem?_range hk) er rfl (tL (br m)) (fun i _ _=>nA (br m) i)
   (fun i v z hi hv _=>by
    obtain ⟨hi',rfl⟩:=bg hv
    have e:=et i hi'
    rw [show (y i - x i != y 0 - x 0)=false from bne_eq_false_iff_eq.mpr (hlt i hi)] at e
    exact ⟨_,rfl,some (.int i),aW e a6,trivial⟩) (fun z _=>by
    have e:=et k hk
    rw [show (y k - x k != y 0 - x 0)=true from bne_iff_ne.mpr hne] at e
    exact ⟨_,rfl,_,cM e (aO bU),fun _=>rfl,rfl⟩) trivial
  exact bp h26 rfl (ak e2 (by decide:2 < 6) (eU e))
noncomputable def apart (m:Nat) (x:Nat→Int):Int:=x (m - 1) - x 0
noncomputable def oB (m:Nat) (X:Nat→Nat→Int) (i:Nat):List (Int × V):=(List.range i).map fun t=>(apart m (X t),V.int (t:Nat))
theorem ij (hm:m < 3) (m1:1 ≤ m):ax m x=ax m y ↔ apart m x=apart m y:=by
 have e:m=1 ∨ m=2:=by lia
 refine ⟨fun h=>?_,fun h=>mQ fun v hv=>?_⟩
 ·have:=jw h (show m - 1 < m by lia)
  unfold apart; lia
 ·unfold apart at h
  rcases e with e | e
  ·have:v=0:=by lia
   rw [this]
  ·have:v=0 ∨ v=m - 1:=by lia
   rcases this with q | q
   ·rw [q]
   ·rw [q]; lia
theorem m6 {α β γ:Type} [BEq α] [BEq β] {f:γ→α}{g:γ→β}{h:γ→V}{a:α}{b:β} (e:∀ t,(a == f t)=(b == g t)):∀ L:List γ,(L.map fun t=>(f t,h t)).lookup a=(L.map fun t=>(g t,h t)).lookup b
 | []=>rfl
 | t :: L=>by
  rw [List.map_cons,List.map_cons,List.lookup_cons,List.lookup_cons,e t,m6 e L]
theorem ni (hm:m < 3) (m1:1 ≤ m):(oB m X i).lookup (apart m y)=(bT m X i).lookup (ax m y) :=
 m6 (fun t=>by
  rw [Bool.eq_iff_iff,beq_iff_eq,beq_iff_eq]
  exact ⟨fun h=>((ij hm m1).mpr h),fun h=>(ij hm m1).mp h⟩) (List.range i)
theorem sP:oB m X (i + 1)=oB m X i ++ [(apart m (X i),V.int (i:Nat))]:=by unfold oB; rw [List.range_succ,List.map_append]; rfl
theorem mE {k:Int}{v:V}{es:List (Int × V)} (h:es.lookup k=none):gz k v es=es ++ [(k,v)]:=by
 induction es with
 | nil=>rfl
 | cons e es ih =>
  rw [List.lookup_cons] at h
  rw [jW]
  cases q:k == e.1 with
  | true=>rw [q] at h; exact absurd h (by simp)
  | false =>
   rw [q] at h
   rw [if_neg (fun z=>by rw [beq_iff_eq] at z; rw [z,beq_self_eq_true] at q; cases q),ih h]; rfl
theorem xo (h:jI m X i=true) (hno:∀ j,j < i→jI m X j=false):∃ t,t < i ∧ ax m (X t)=ax m (X i) ∧ (bT m X i).lookup (ax m (X i))=some (V.int (t:Nat)) ∧ ∀ s,s < t→ax m (X s) ≠ ax m (X i):=by
 obtain ⟨t,h1,h2,h3⟩:=m9 h
 refine ⟨t,h1,h2,h3,fun s hs q=>?_⟩
 have:=hno t h1
 unfold jI bT at this
 rw [List.any_eq_false] at this
 exact this (ax m (X s),V.int (s:Nat)) (List.mem_map.mpr ⟨s,List.mem_range.mpr hs,rfl⟩) (beq_iff_eq.mpr (q.trans h2.symm))
theorem xu (h:jI m X i=false) {s:Nat} (hs:s < i):ax m (X s) ≠ ax m (X i):=fun q=>by
 unfold jI bT at h
 rw [List.any_eq_false] at h
 exact h (ax m (X s),V.int (s:Nat)) (List.mem_map.mpr ⟨s,List.mem_range.mpr hs,rfl⟩) (beq_iff_eq.mpr q)
theorem wP (h:jI m X i=false):(bT m X i).lookup (ax m (X i))=none:=by
 rw [List.lookup_eq_none_iff]
 intro e he
 unfold jI at h
 rw [List.any_eq_false] at h
 have:=h e he
 rw [Bool.not_eq_true,beq_eq_false_iff_ne] at this
 exact bne_iff_ne.mpr (Ne.symm this)
noncomputable def dueS (σ:Sto) (ls:List V) (me:List (Int × V)) (τ:Sto):Sto:=σ ++ .lst ls :: .dI me :: τ
section
variable {τ:Sto}{ls ls':List V}{me me':List (Int × V)}
theorem iT:(dueS σ ls me τ)[σ.length]?=some (.lst ls):=am
theorem wL {k:Nat}:(dueS σ ls me τ)[σ.length + k]?=(AO.lst ls :: .dI me :: τ)[k]?:=by
 unfold dueS; rw [List.getElem?_append_right (Nat.le_add_right _ _),Nat.add_sub_cancel_left]
theorem vh:(dueS σ ls me τ)[σ.length + 1]?=some (.dI me):=wL
theorem jn {υ:Sto}:dueS σ ls me τ ++ υ=dueS σ ls me (τ ++ υ):=List.append_assoc _ _ _
theorem ut:(dueS σ ls me τ).length=σ.length + (τ.length + 2):=List.length_append
theorem rc:dy (dueS σ ls me τ) σ.length ls'=dueS σ ls' me τ:=dB
theorem sb:(dueS σ ls me τ).set (σ.length + 1) (.dI me')=dueS σ ls me' τ:=by
 unfold dueS; rw [List.set_append_right _ _ (Nat.le_add_right _ _),Nat.add_sub_cancel_left]; rfl
noncomputable def At9 (σ τ:Sto) (l:Nat) (vs:List V):Prop:=(σ ++ AO.tab true :: AO.tab true :: τ)[l]?=some (.lst vs)
theorem At9.get {vs:List V} (h:At9 σ τ l vs):(dueS σ ls me τ)[l]?=some (.lst vs):=by
 unfold At9 at h
 unfold dueS
 by_cases q:l < σ.length
 ·rw [List.getElem?_append_left q] at h ⊢; exact h
 ·rw [List.getElem?_append_right (Nat.not_lt.mp q)] at h ⊢
  generalize l - σ.length=k at h
  rcases k with _ | _ | k
  ·exact nomatch h
  ·exact nomatch h
  ·exact h
theorem nj {υ:Sto}:σ ++ AO.tab true :: AO.tab true :: (τ ++ υ)=(σ ++ AO.tab true :: AO.tab true :: τ) ++ υ:=(List.append_assoc σ (AO.tab true :: AO.tab true :: τ) υ).symm
theorem At9.app {vs:List V} {υ:Sto} (h:At9 σ τ l vs):At9 σ (τ ++ υ) l vs:=by
 unfold At9 at h ⊢
 rw [nj]; exact ap h
theorem At9.new {vs:List V} {υ:Sto}:At9 σ (τ ++ .lst vs :: υ) (dueS σ ls me τ).length vs:=by
 unfold At9
 rw [nj,show (dueS σ ls me τ).length=(σ ++ AO.tab true :: AO.tab true :: τ).length by rw [ut,List.length_append]; rfl]; exact am
structure eu (σ τ:Sto) (rs:List Nat) (X:Nat→Nat→Int) (m i:Nat):Prop where
 len:rs.length=i
 row:∀ k l:Nat,rs[k]?=some l→At9 σ τ l (intsV m (X k))
theorem eu.app {υ:Sto}{rs:List Nat} (R:eu σ τ rs X m i):eu σ (τ ++ υ) rs X m i:=⟨R.len,fun k l h=>(R.row k l h).app⟩
theorem eu.push {rs:List Nat} (R:eu σ τ rs X m i) (h:At9 σ τ l (intsV m (X i))):eu σ τ (rs ++ [l]) X m (i + 1):=by
 refine ⟨by rw [List.length_append,R.len]; rfl,fun k l' hk=>?_⟩
 by_cases q:k < rs.length
 ·rw [List.getElem?_append_left q] at hk; exact R.row k l' hk
 ·rw [List.getElem?_append_right (Nat.not_lt.mp q)] at hk
  have h1:=(List.getElem?_eq_some_iff.mp hk).1
  have h2:k - rs.length=0:=Nat.lt_one_iff.mp h1
  rw [h2] at hk
  rw [← Option.some.inj hk,show k=i by have:=R.len; lia]; exact h
theorem eu.at {rs:List Nat} (R:eu σ τ rs X m i) {k:Nat} (hk:k < i):∃ l,rs[k]?=some l ∧ At9 σ τ l (intsV m (X k)):=by
 have:k < rs.length:=by rw [R.len]; exact hk
 exact ⟨_,List.getElem?_eq_getElem this,R.row k _ (List.getElem?_eq_getElem this)⟩
end
noncomputable def cE (lw lt most m b:Nat) (x6 x7 x8 x9 x10:Option V):Fra:=[some (.ref lw),some (.ref lt),some (.int most),some (.int m),some (.ref b),some (.ref (b + 1)),x6,x7,x8,x9,x10,none,none,none,none]
section
variable {τ:Sto}{rs:List Nat}{me:List (Int × V)}{most:Nat}{x6 x7 x8 x9 x10:Option V}
theorem xz (h26:P 26=some pH) (m1:1 ≤ m) (m2:m ≤ 12) (R:eu σ τ rs X m (i + 1)) {f:Nat} (hf:f ≤ i) :
  evE (evFn P wf (n + 2)) (E.call 26 [(E.loc 4).sub (E.loc 9),(E.loc 4).sub (E.loc 6)]) (cE lw lt most m σ.length (some (.int i)) x7 x8 (some (.int f)) x10) (dueS σ (rs.map V.ref) me τ)=.ok (w9 m (X f) (X i)) (dueS σ (rs.map V.ref) me τ):=by
 obtain ⟨a,ha,ra⟩:=R.at (k:=f) (by lia)
 obtain ⟨b,hb,rb⟩:=R.at (k:=i) (by lia)
 exact aF (aa (aC (ac rfl) (ac rfl) (aN iT (by rw [List.getElem?_map,ha]; rfl))) (aa (aC (ac rfl) (ac rfl) (aN iT (by rw [List.getElem?_map,hb]; rfl))) ae)) (zz h26 ra.get rb.get m1 m2)
theorem go9 {call:Nat→List V→Sto→RE}{f:Nat}{g:Int}{S:Sto} (hg:¬ (ax m (X f)=ax m (X i) ∧ f < i)) :
  evE call ((E.cmp .IsNot (E.loc 10) E.none).and (E.cmp .Lt (E.loc 9) (E.loc 6))) (cE lw lt most m σ.length (some (.int i)) x7 x8 (some (.int f)) (some (w9 m (X f) (X i)))) S=.ok (.bool false) S:=by
 unfold w9
 by_cases hs:ax m (X f)=ax m (X i)
 ·rw [if_pos hs]
  exact cG (aM (ac rfl) bU rfl) (aM (ac rfl) (ac rfl) (congrArg some (decide_eq_false fun q=>hg ⟨hs,Int.ofNat_lt.mp q⟩)))
 ·rw [if_neg hs]
  exact p9 (aM (ac rfl) bU rfl)
theorem ir (h26:P 26=some pH) (m1:1 ≤ m) (m2:m ≤ 12) (R:eu σ τ rs X m (i + 1)) {f:Nat} (hf:f ≤ i) (hg:¬ (ax m (X f)=ax m (X i) ∧ f < i)) {z:Option V × Option V} :
  fT [9] true (evSs (evFn P wf (n + 2)) wf nY) (.int f) (cE lw lt most m σ.length (some (.int i)) x7 x8 z.1 z.2) (dueS σ (rs.map V.ref) me τ) (fun z:Option V × Option V=>cE lw lt most m σ.length (some (.int i)) x7 x8 z.1 z.2) (fun _=>dueS σ (rs.map V.ref) me τ) (fun _=>True) :=
 ⟨_,rfl,(some (.int f),some (w9 m (X f) (X i))),ak (xz h26 m1 m2 R hf) (by decide:10 < 15) (aW (go9 (g:=0) hg) a6),trivial⟩
theorem pB (h26:P 26=some pH) (m1:1 ≤ m) (m2:m ≤ 12) (R:eu σ τ rs X m (i + 1)) {fs:List Nat}{l8:Nat} (h8:At9 σ τ l8 (natsV fs)) (hf:∀ f ∈ fs,f ≤ i ∧ ¬ (ax m (X f)=ax m (X i) ∧ f < i)) :
  ∃ y9 y10,evSs (evFn P wf (n + 2)) wf [S.forS [9] true (It.e (E.loc 8)) nY] (cE lw lt most m σ.length (some (.int i)) x7 (some (.ref l8)) x9 x10) (dueS σ (rs.map V.ref) me τ)=.ok .next (cE lw lt most m σ.length (some (.int i)) x7 (some (.ref l8)) y9 y10) (dueS σ (rs.map V.ref) me τ):=by
 obtain ⟨z,e,_⟩:=tn (call:=evFn P wf (n + 2)) (wf:=wf) (tg:=[9]) (one:=true) (ws:=fs) (g:=fun (f:Nat)=>V.int f) (it:=E.loc 8) (bs:=nY) (σ:=dueS σ (rs.map V.ref) me τ) (l:=l8)
  (F:=fun _ (z:Option V × Option V)=>cE lw lt most m σ.length (some (.int i)) x7 (some (.ref l8)) z.1 z.2) (S:=fun _ _=>dueS σ (rs.map V.ref) me τ) (J:=fun _ _=>True) (x9,x10) (ac rfl) (fun _ _ _=>ag h8.get)
  (fun j f z hj _=>ir h26 m1 m2 R (hf f (List.mem_of_getElem? hj)).1 (hf f (List.mem_of_getElem? hj)).2) trivial
 exact ⟨z.1,z.2,a4 e a6⟩
theorem nR (h26:P 26=some pH) (m1:1 ≤ m) (m2:m ≤ 12) (R:eu σ τ rs X m (i + 1)) {fs:List Nat}{l8 k t:Nat} (h8:At9 σ τ l8 (natsV fs)) (hk:fs[k]?=some t) (ht:t < i) (hs:ax m (X t)=ax m (X i)) (hf:∀ j f:Nat,j < k→fs[j]?=some f→f ≤ i ∧ ¬ (ax m (X f)=ax m (X i) ∧ f < i)) :
  ∃ fr,evSs (evFn P wf (n + 2)) wf [S.forS [9] true (It.e (E.loc 8)) nY] (cE lw lt most m σ.length (some (.int i)) x7 (some (.ref l8)) x9 x10) (dueS σ (rs.map V.ref) me τ)=.ok (.ret (.tup [.int t,.int ((i:Int) - t),.int (X i 0 - X t 0)])) fr (dueS σ (rs.map V.ref) me τ):=by
 have e:=rG (call:=evFn P wf (n + 2)) (wf:=wf) (tg:=[9]) (one:=true) (ws:=fs) (g:=fun (f:Nat)=>V.int f) (it:=E.loc 8) (bs:=nY) (σ:=dueS σ (rs.map V.ref) me τ) (src:=.live l8) (Q:=fun R=>∃ fr,R=.ok (.ret (.tup [.int t,.int ((i:Int) - t),.int (X i 0 - X t 0)])) fr (dueS σ (rs.map V.ref) me τ))
  (F:=fun _ (z:Option V × Option V)=>cE lw lt most m σ.length (some (.int i)) x7 (some (.ref l8)) z.1 z.2) (St:=fun _ _=>dueS σ (rs.map V.ref) me τ) (J:=fun _ _=>True) (x9,x10) hk (ac rfl) rfl (oZ (ag h8.get)) (fun j _ _=>ly (ag h8.get) j)
  (fun j f z hj hf' _=>ir h26 m1 m2 R (hf j f hj hf').1 (hf j f hj hf').2) (fun z _=>by
   have e1:=xz (P:=P) (wf:=wf) (n:=n) (σ:=σ) (lw:=lw) (lt:=lt) (most:=most) (m:=m) (X:=X) (me:=me) (x7:=x7) (x8:=some (.ref l8)) (x10:=z.2) h26 m1 m2 R (f:=t) (Nat.le_of_lt ht)
   unfold w9 at e1
   rw [if_pos hs] at e1
   exact ⟨_,rfl,_,ak e1 (by decide:10 < 15) (cM (cG (aM (ac rfl) bU rfl) (aM (ac rfl) (ac rfl) (congrArg some (decide_eq_true (Int.ofNat_lt.mpr ht))))) (aO (dz (aa (ac rfl) (aa (ar (ac rfl) (ac rfl) rfl) (aa (ac rfl) ae))) (by exact (by decide:3 ≤ 1000))))),fun _=>rfl,_,rfl⟩) trivial
 obtain ⟨fr,e⟩:=e
 exact ⟨fr,eU e⟩
end
end
end Mine
namespace Mine
set_option backward.match.sparseCases false
open PySem
noncomputable def Ba:List S :=
 [S.expr ((E.loc 4).meth .append [E.call 27 [E.loc 0,(E.loc 4).sub (E.int 1).neg]]),
  S.asg 7 (E.bin .Sub (((E.loc 4).sub (E.loc 6)).sub (E.int 1).neg) (((E.loc 4).sub (E.loc 6)).sub (E.int 0))),
  S.asg 8 (E.blt .list [E.blt .range [E.loc 6]]),
  S.ifS (E.cmp .Lt (E.loc 3) (E.int 3)) [S.asg 8 (E.list [(E.loc 5).dget (E.loc 7) (E.loc 6)]),S.asgI (E.loc 5) (E.loc 7) (E.loc 6)] []]
theorem yo {call:Nat→List V→Sto→RE}{a k d:E}{fr:Fra} {σ σ1:Sto}{l:Nat}{es:List (Int × V)}{i:Int}{y:V} (h:evE call a fr σ=.ok (.ref l) σ1) (hd:σ1[l]?=some (.dI es)) (hk:evE call k fr σ1=.ok (.int i) σ1) (hy:evE call d fr σ1=.ok y σ1):evE call (.dget a k d) fr σ=.ok ((es.lookup i).getD y) σ1:=by
 have hv:n7 (.ref l) σ1=some es:=by show t7 σ1[l]?=_; rw [hd]; rfl
 show (evE call a fr σ).bind _=_; rw [h]
 show jH (n7 (.ref l) σ1) _ _=_; rw [hv]
 show (evE call k fr σ1).bind _=_; rw [hk]
 show (evE call d fr σ1).bind _=_; rw [hy]
 show bZ σ1 ((n7 (.ref l) σ1).bind _)=_; rw [hv]; rfl
theorem za {σ:Sto}{d:Nat}{es:List (Int × V)}{k:Int}{v:V} (h:σ[d]?=some (.dI es)) (hz:es.length < 1000000):dq (.ref d) (.int k) v σ=some (σ.set d (.dI (gz k v es))):=by
 show AJ σ[d]? d (.int k) v σ=_
 rw [h]; exact if_pos hz
theorem jR {m:Nat}{x:Nat→Int} (m1:1 ≤ m):(intsV m x).getLast?=some (.int (x (m - 1))):=by
 rw [List.getLast?_eq_getElem?,aP]; exact aX (by lia)
section
variable {P T:Nat→Option Fn}{wf n:Nat} {σ:Sto}{m lw lt l i k:Nat}{ws:List Way}{sc:List Int}{x y:Nat→Int}{X:Nat→Nat→Int} {τ:Sto}{rs:List Nat}{me:List (Int × V)}{most:Nat}{x6 x7 x8 x9 x10:Option V}
theorem BE (h27:P 27=some lI) (G:aG m ws) (hlw:σ[lw]?=some (.lst (ws.map wayV))) (hX:X (k + 1)=cV ws (X k)) (R:eu σ τ rs X m (k + 1)) (hk:k ≤ 1000) (hme:me.length ≤ k + 1) {f0:Nat} (hf0:m < 3→(me.lookup (apart m (X (k + 1)))).getD (.int (k + 1:Nat))=.int f0) {Γ:Prop}
  (K:∀ L τ' l8 y7,eu σ τ' (rs ++ [L]) X m (k + 2)→At9 σ τ' l8 (natsV (if m < 3 then [f0] else List.range (k + 1)))→(∀ ss r,evSs (evFn P wf (n + 2)) wf ss (cE lw lt most m σ.length (some (.int (k + 1:Nat))) y7 (some (.ref l8)) x9 x10) (dueS σ ((rs ++ [L]).map V.ref) (if m < 3 then gz (apart m (X (k + 1))) (.int (k + 1:Nat)) me else me) τ')=r →
   evSs (evFn P wf (n + 2)) wf (Ba ++ ss) (cE lw lt most m σ.length (some (.int (k + 1:Nat))) x7 x8 x9 x10) (dueS σ (rs.map V.ref) me τ)=r)→Γ):Γ:=by
 have m1:=G.m1
 have hl:=R.len
 obtain ⟨q,hq,rq⟩:=R.at (Nat.lt_succ_self k)
 have hlast:(rs.map V.ref).getLast?=some (.ref q):=by rw [List.getLast?_eq_getElem?,List.length_map,hl,List.getElem?_map,show k + 1 - 1=k from rfl,hq]; rfl
 obtain ⟨υ,e1⟩:=xb (wf:=wf) (n:=n + 1) (σ:=dueS σ (rs.map V.ref) me τ) (lt:=q) (x:=X k) h27 (ap hlw) G rq.get
 rw [← hX,show ∀ xs,accS (dueS σ (rs.map V.ref) me τ) xs υ=dueS σ (rs.map V.ref) me (τ ++ .lst xs :: υ) from fun xs=>jn] at e1
 have aL:At9 σ (τ ++ .lst (intsV m (X (k + 1))) :: υ) (dueS σ (rs.map V.ref) me τ).length (intsV m (X (k + 1))):=At9.new
 have R2:=(R.app (υ:=.lst (intsV m (X (k + 1))) :: υ)).push aL
 generalize (dueS σ (rs.map V.ref) me τ).length=L at e1 aL R2
 generalize τ ++ .lst (intsV m (X (k + 1))) :: υ=τ1 at e1 aL R2
 have hrow:∀ {me' τ'},jE (.ref σ.length) (.int (k + 1:Nat)) (dueS σ ((rs ++ [L]).map V.ref) me' τ')=some (.ref L):=aN iT (by rw [List.getElem?_map,← hl,List.getElem?_concat_length]; rfl)
 have e7:∀ {y8},evE (evFn P wf (n + 2)) (E.bin .Sub (((E.loc 4).sub (E.loc 6)).sub (E.int 1).neg) (((E.loc 4).sub (E.loc 6)).sub (E.int 0))) (cE lw lt most m σ.length (some (.int (k + 1:Nat))) x7 y8 x9 x10) (dueS σ ((rs ++ [L]).map V.ref) me τ1)=.ok (.int (apart m (X (k + 1)))) (dueS σ ((rs ++ [L]).map V.ref) me τ1) :=
  ar (aC (aC (ac rfl) (ac rfl) hrow) (nX aj) (fE aL.get (jR m1))) (aC (aC (ac rfl) (ac rfl) hrow) aj (aN (k:=0) aL.get (aX m1))) rfl
 have e8:evE (evFn P wf (n + 2)) (E.blt .list [E.blt .range [E.loc 6]]) (cE lw lt most m σ.length (some (.int (k + 1:Nat))) (some (.int (apart m (X (k + 1))))) x8 x9 x10) (dueS σ ((rs ++ [L]).map V.ref) me τ1)=.ok (.ref (dueS σ ((rs ++ [L]).map V.ref) me τ1).length) (dueS σ ((rs ++ [L]).map V.ref) me (τ1 ++ [.lst (natsV (List.range (k + 1)))])):=by
  refine ba (aa (ba (aa (ac rfl) ae) (bo (by lia))) ae) ?_
  show cy (fP 0 ((k + 1:Nat):Int)) _=_
  rw [br,ai (by rw [List.length_map,List.length_range]; lia),jn]; rfl
 have first:∀ ss r,evSs (evFn P wf (n + 2)) wf ss (cE lw lt most m σ.length (some (.int (k + 1:Nat))) (some (.int (apart m (X (k + 1))))) (some (.ref (dueS σ ((rs ++ [L]).map V.ref) me τ1).length)) x9 x10) (dueS σ ((rs ++ [L]).map V.ref) me (τ1 ++ [.lst (natsV (List.range (k + 1)))]))=r →
   evSs (evFn P wf (n + 2)) wf (S.expr ((E.loc 4).meth .append [E.call 27 [E.loc 0,(E.loc 4).sub (E.int 1).neg]]) :: S.asg 7 (E.bin .Sub (((E.loc 4).sub (E.loc 6)).sub (E.int 1).neg) (((E.loc 4).sub (E.loc 6)).sub (E.int 0))) :: S.asg 8 (E.blt .list [E.blt .range [E.loc 6]]) :: ss) (cE lw lt most m σ.length (some (.int (k + 1:Nat))) x7 x8 x9 x10) (dueS σ (rs.map V.ref) me τ)=r:=fun ss r h=>by
  refine bu (cN (ac rfl) (ag iT) (aa (aF (aa (ac rfl) (aa (aC (ac rfl) (nX aj) (fE iT hlast)) ae)) e1) ae) (ag iT) (l4 (by rw [List.length_map,hl]; lia))) ?_
  rw [rc,show rs.map V.ref ++ [V.ref L]=(rs ++ [L]).map V.ref by rw [List.map_append]; rfl]
  exact ak e7 (by decide:7 < 15) (ak e8 (by decide:8 < 15) h)
 have et:∀ {y8 S},evE (evFn P wf (n + 2)) (E.cmp .Lt (E.loc 3) (E.int 3)) (cE lw lt most m σ.length (some (.int (k + 1:Nat))) (some (.int (apart m (X (k + 1))))) y8 x9 x10) S=.ok (.bool (decide ((m:Int) < 3))) S:=aM (ac rfl) aj rfl
 by_cases hm:m < 3
 ·rw [decide_eq_true (show (m:Int) < 3 by lia)] at et
  have a8:At9 σ (τ1 ++ [.lst (natsV (List.range (k + 1)))] ++ [.lst (natsV [f0])]) (dueS σ ((rs ++ [L]).map V.ref) me (τ1 ++ [.lst (natsV (List.range (k + 1)))])).length (natsV [f0]):=At9.new
  refine K L (τ1 ++ [.lst (natsV (List.range (k + 1)))] ++ [.lst (natsV [f0])]) _ (some (.int (apart m (X (k + 1))))) R2.app.app (by rw [if_pos hm]; exact a8) fun ss r h=>first _ _ (d3 et (ak (bf (aa (yo (ac rfl) vh (ac rfl) (ac rfl)) ae) (ai (by decide:1 ≤ 16777216))) (by decide:8 < 15) ?_) h)
  rw [hf0 hm,jn]
  refine ib (ac rfl) (ac rfl) (ac rfl) (za vh (by lia)) ?_
  rw [sb,if_pos hm]
  exact a6
 ·rw [decide_eq_false (show ¬ (m:Int) < 3 by lia)] at et
  refine K L (τ1 ++ [.lst (natsV (List.range (k + 1)))]) (dueS σ ((rs ++ [L]).map V.ref) me τ1).length (some (.int (apart m (X (k + 1))))) R2.app (by rw [if_neg hm]; exact At9.new) fun ss r h=>first _ _ (aW et ?_)
  rw [if_neg hm] at h
  exact h
structure I9 (σ:Sto) (X:Nat→Nat→Int) (m k:Nat) (rs:List Nat) (me:List (Int × V)) (τ:Sto):Prop where
 R:eu σ τ rs X m (k + 1)
 hme:m < 3→me=oB m X (k + 1)
 mz:me.length ≤ k + 1
abbrev B09:=(Option V × Option V × Option V × Option V × Option V) × List Nat × List (Int × V) × Sto
theorem kh (h26:P 26=some pH) (h27:P 27=some lI) (G:aG m ws) (hlw:σ[lw]?=some (.lst (ws.map wayV))) (hX:X (k + 1)=cV ws (X k)) (hk:k ≤ 1000) (I:I9 σ X m k rs me τ) (hit:jI m X (k + 1)=false) :
  fT [6] true (evSs (evFn P wf (n + 2)) wf oC) (.int (k + 1:Nat)) (cE lw lt most m σ.length x6 x7 x8 x9 x10) (dueS σ (rs.map V.ref) me τ) (fun z:B09=>cE lw lt most m σ.length z.1.1 z.1.2.1 z.1.2.2.1 z.1.2.2.2.1 z.1.2.2.2.2) (fun z=>dueS σ (z.2.1.map V.ref) z.2.2.1 z.2.2.2) (fun z=>I9 σ X m (k + 1) z.2.1 z.2.2.1 z.2.2.2):=by
 have ml:m < 3→me.lookup (apart m (X (k + 1)))=none:=fun hm=>by rw [I.hme hm,ni hm G.m1]; exact wP hit
 refine BE (wf:=wf) (n:=n) (lt:=lt) (most:=most) (f0:=k + 1) (x9:=x9) (x10:=x10) (x7:=x7) (x8:=x8) h27 G hlw hX I.R hk I.mz (fun hm=>by rw [ml hm]; rfl) fun L τ' l8 y7 R' a8 first=>?_
 obtain ⟨y9,y10,e⟩:=pB (wf:=wf) (n:=n) (lw:=lw) (lt:=lt) (most:=most) (me:=if m < 3 then gz (apart m (X (k + 1))) (.int (k + 1:Nat)) me else me) (x7:=y7) (x9:=x9) (x10:=x10) h26 G.m1 G.m2 R' a8 (fun f hf=>by
  by_cases hm:m < 3
  ·rw [if_pos hm] at hf
   rw [List.mem_singleton.mp hf]; exact ⟨Nat.le_refl _,fun q=>Nat.lt_irrefl _ q.2⟩
  ·rw [if_neg hm] at hf
   exact ⟨Nat.le_of_lt (List.mem_range.mp hf),fun q=>xu hit q.2 q.1⟩)
 refine ⟨_,rfl,((some (.int (k + 1:Nat)),y7,some (.ref l8),y9,y10),rs ++ [L],if m < 3 then gz (apart m (X (k + 1))) (.int (k + 1:Nat)) me else me,τ'),first _ _ e,R',fun hm=>?_,?_⟩
 ·show (if m < 3 then gz (apart m (X (k + 1))) (.int (k + 1:Nat)) me else me)=_
  rw [if_pos hm,mE (ml hm),I.hme hm,← sP]
 ·show (if m < 3 then gz (apart m (X (k + 1))) (.int (k + 1:Nat)) me else me).length ≤ _
  by_cases hm:m < 3
  ·rw [if_pos hm,mE (ml hm),List.length_append]; exact Nat.succ_le_succ I.mz
  ·rw [if_neg hm]; exact Nat.le_succ_of_le I.mz
theorem rY (h26:P 26=some pH) (h27:P 27=some lI) (G:aG m ws) (hlw:σ[lw]?=some (.lst (ws.map wayV))) (hX:X (k + 1)=cV ws (X k)) (hk:k ≤ 1000) (I:I9 σ X m k rs me τ) (hit:jI m X (k + 1)=true) (hno:∀ j,j < k + 1→jI m X j=false) :
  zC [6] true (evSs (evFn P wf (n + 2)) wf oC) (.int (k + 1:Nat)) (cE lw lt most m σ.length x6 x7 x8 x9 x10) (dueS σ (rs.map V.ref) me τ) (fun R=>∃ fr τ,R=.ok (.ret (wK m X (k + 1))) fr (σ ++ τ)):=by
 obtain ⟨t,t1,t2,t3,t4⟩:=xo hit hno
 refine BE (wf:=wf) (n:=n) (lt:=lt) (most:=most) (f0:=t) (x9:=x9) (x10:=x10) (x7:=x7) (x8:=x8) h27 G hlw hX I.R hk I.mz (fun hm=>by rw [I.hme hm,ni hm G.m1,t3]; rfl) fun L τ' l8 y7 R' a8 first=>?_
 have hv:wK m X (k + 1)=.tup [.int t,.int (((k + 1:Nat):Int) - t),.int (X (k + 1) 0 - X t 0)]:=by unfold wK; rw [t3]; rfl
 have go:∀ (fs:List Nat) (q:Nat),At9 σ τ' l8 (natsV fs)→fs[q]?=some t→(∀ j f:Nat,j < q→fs[j]?=some f→f ≤ k + 1 ∧ ¬ (ax m (X f)=ax m (X (k + 1)) ∧ f < k + 1))→zC [6] true (evSs (evFn P wf (n + 2)) wf oC) (.int (k + 1:Nat)) (cE lw lt most m σ.length x6 x7 x8 x9 x10) (dueS σ (rs.map V.ref) me τ) (fun R=>∃ fr τ,R=.ok (.ret (wK m X (k + 1))) fr (σ ++ τ)):=fun fs q h8 h1 h2=>by
  obtain ⟨fr,e⟩:=nR (wf:=wf) (n:=n) (lw:=lw) (lt:=lt) (most:=most) (me:=if m < 3 then gz (apart m (X (k + 1))) (.int (k + 1:Nat)) me else me) (x7:=y7) (x9:=x9) (x10:=x10) h26 G.m1 G.m2 R' h8 h1 t1 t2 h2
  exact ⟨_,rfl,_,first _ _ e,fun _=>rfl,fr,.lst ((rs ++ [L]).map V.ref) :: .dI (if m < 3 then gz (apart m (X (k + 1))) (.int (k + 1:Nat)) me else me) :: τ',by rw [hv]; rfl⟩
 by_cases hm:m < 3
 ·rw [if_pos hm] at a8
  exact go [t] 0 a8 rfl fun j f hj=>absurd hj (Nat.not_lt_zero _)
 ·rw [if_neg hm] at a8
  refine go (List.range (k + 1)) t a8 (List.getElem?_range t1) fun j f hj hf=>?_
  obtain ⟨q1,q2⟩:=bg hf
  exact ⟨q2 ▸ Nat.le_of_lt q1,fun z=>t4 f (q2 ▸ hj) z.1⟩
theorem tV {a b:Int} (h:-1000000 ≤ a ∧ a ≤ 1000000 ∧ -1000000 ≤ b ∧ b ≤ 1000000):iy .range [.int a,.int b] σ=.ok (.rng a b) σ:=if_pos h
theorem lz (k:Nat):fP 1 ((k:Int) + 1)=(List.range k).map fun (i:Nat)=>V.int ((i + 1:Nat):Int):=by
 unfold fP
 rw [show ((k:Int) + 1 - 1).toNat=k by lia]
 refine List.map_congr_left fun i _=>congrArg V.int ?_
 lia
theorem v9 (h26:P 26=some pH) (h27:P 27=some lI) (h29:P 29=some rH) (G:aG m ws) (hlw:σ[lw]?=some (.lst (ws.map wayV))) (ht:σ[lt]?=some (.lst (intsV m x))) (hmost:most ≤ 1000) :
  ∃ w τ,evFn P wf (n + 3) 29 [.ref lw,.ref lt,.int most,.int m] σ=.ok w (σ ++ τ) ∧ fG m most (bw ws x) w:=by
 have m1:=G.m1
 have lt':=(List.getElem?_eq_some_iff.mp ht).1
 have e4:evE (evFn P wf (n + 2)) (E.list [E.loc 1]) (aR rH [.ref lw,.ref lt,.int most,.int m]) σ=.ok (.ref σ.length) (σ ++ [.lst [.ref lt]]):=bf (aa (ac rfl) ae) (ai (by decide:1 ≤ 16777216))
 have ht1:(σ ++ [AO.lst [.ref lt]])[lt]?=some (.lst (intsV m x)):=ap ht
 have e5:evE (evFn P wf (n + 2)) ((E.bin .Sub ((E.loc 1).sub (E.int 1).neg) ((E.loc 1).sub (E.int 0))).dict1 (E.int 0)) ((aR rH [.ref lw,.ref lt,.int most,.int m]).set 4 (some (.ref σ.length))) (σ ++ [.lst [.ref lt]])=.ok (.ref (σ.length + 1)) (dueS σ ([lt].map V.ref) (oB m (bw ws x) 1) []):=by
  refine (qi (k:=x (m - 1) - x 0) (ar (aC (ac rfl) (nX aj) (fE ht1 (jR m1))) (aC (ac rfl) aj (aN (k:=0) ht1 (aX m1))) rfl) aj).trans ?_
  rw [List.length_append,List.append_assoc]; rfl
 have er:evE (evFn P wf (n + 2)) (E.blt .range [E.int 1,E.bin .Add (E.loc 2) (E.int 1)]) (cE lw lt most m σ.length none none none none none) (dueS σ ([lt].map V.ref) (oB m (bw ws x) 1) [])=.ok (.rng 1 ((most:Int) + 1)) (dueS σ ([lt].map V.ref) (oB m (bw ws x) 1) []):=ba (aa aj (aa (ar (ac rfl) aj rfl) ae)) (tV ⟨by decide,by decide,by lia,by lia⟩)
 have at0:At9 σ [] lt (intsV m (bw ws x 0)):=by unfold At9; exact ap ht
 have I0:I9 σ (bw ws x) m 0 [lt] (oB m (bw ws x) 1) []:=⟨⟨rfl,fun k l h=>by
  cases k with
  | zero=>exact Option.some.inj h ▸ at0
  | succ k=>exact nomatch h⟩,fun _=>rfl,Nat.le_refl 1⟩
 have h0:jI m (bw ws x) 0=false:=rfl
 rcases rV (fun k=>jI m (bw ws x) (k + 1)=false) most with hall | ⟨k,hk,hit,pre⟩
 ·obtain ⟨z,e,_⟩:=lJ (call:=evFn P wf (n + 2)) (wf:=wf) (tg:=[6]) (one:=true) (ws:=List.range most) (g:=fun (i:Nat)=>V.int ((i + 1:Nat):Int)) (it:=E.blt .range [E.int 1,E.bin .Add (E.loc 2) (E.int 1)]) (bs:=oC) (σ:=dueS σ ([lt].map V.ref) (oB m (bw ws x) 1) [])
   (F:=fun _ (z:B09)=>cE lw lt most m σ.length z.1.1 z.1.2.1 z.1.2.2.1 z.1.2.2.2.1 z.1.2.2.2.2) (S:=fun _ z=>dueS σ (z.2.1.map V.ref) z.2.2.1 z.2.2.2) (J:=fun k z=>I9 σ (bw ws x) m k z.2.1 z.2.2.1 z.2.2.2) ((none,none,none,none,none),[lt],oB m (bw ws x) 1,[]) er (lz most)
   (fun i v z hv I=>by
    obtain ⟨hi,hiv⟩:=bg hv
    subst hiv
    exact kh h26 h27 G hlw rfl (by lia) I (hall i hi)) I0
  exact ⟨.none,_,bp h29 rfl (ak e4 (by decide:4 < 15) (ak e5 (by decide:5 < 15) (a4 e (aO bU)))),.inl ⟨rfl,fun j hj=>by
   cases j with
   | zero=>exact h0
   | succ j=>exact hall j (Nat.lt_of_succ_lt_succ hj)⟩⟩
 ·have hno:∀ j,j < k + 1→jI m (bw ws x) j=false:=fun j hj=>by
   cases j with
   | zero=>exact h0
   | succ j=>exact pre j (Nat.lt_of_succ_lt_succ hj)
  have hit':jI m (bw ws x) (k + 1)=true:=(Bool.not_eq_false _).mp hit
  obtain ⟨fr,τ,e⟩:=rG (call:=evFn P wf (n + 2)) (wf:=wf) (tg:=[6]) (one:=true) (ws:=List.range most) (g:=fun (i:Nat)=>V.int ((i + 1:Nat):Int)) (it:=E.blt .range [E.int 1,E.bin .Add (E.loc 2) (E.int 1)]) (bs:=oC) (σ:=dueS σ ([lt].map V.ref) (oB m (bw ws x) 1) []) (src:=.rng 1 ((most:Int) + 1)) (Q:=fun R=>∃ fr τ,R=.ok (.ret (wK m (bw ws x) (k + 1))) fr (σ ++ τ))
   (F:=fun _ (z:B09)=>cE lw lt most m σ.length z.1.1 z.1.2.1 z.1.2.2.1 z.1.2.2.2.1 z.1.2.2.2.2) (St:=fun _ z=>dueS σ (z.2.1.map V.ref) z.2.2.1 z.2.2.2) (J:=fun k z=>I9 σ (bw ws x) m k z.2.1 z.2.2.1 z.2.2.2) ((none,none,none,none,none),[lt],oB m (bw ws x) 1,[]) (List.getElem?_range hk) er rfl (tL (lz most)) (fun i _ _=>nA (lz most) i)
   (fun i v z hi hv I=>by
    obtain ⟨hi',hiv⟩:=bg hv
    subst hiv
    exact kh h26 h27 G hlw rfl (by lia) I (pre i hi)) (fun z I=>rY h26 h27 G hlw rfl (by lia) I hit' hno) I0
  exact ⟨_,τ,bp h29 rfl (ak e4 (by decide:4 < 15) (ak e5 (by decide:5 < 15) (eU e))),.inr ⟨k + 1,Nat.succ_lt_succ hk,hit',hno,rfl⟩⟩
end
end Mine
namespace Mine
set_option backward.match.sparseCases false
open PySem
noncomputable def ri:Fn:={ ps:=[0,1],size:=12,body:=(
 S.asg 7 (E.call 20 [E.loc 0,E.int 1]) :: S.asg 2 ((E.list [E.int 5,E.int 12]).sub (E.bin .Mod (E.bin .FloorDiv (E.loc 7) (E.int 168)) (E.int 2))) ::
  nw 0 [S.forS [5] true (It.e (E.blt .range [E.bin .Mod (E.bin .FloorDiv (E.loc 7) (E.int 24)) (E.int 7)])) jZ,S.ret (E.loc 4)]) }
noncomputable def u8 (k:Int):E:=E.bin .Add (E.int 50) (E.bin .Mod (E.call 20 [E.loc 0,E.int k]) (E.int 60))
noncomputable def gP:Fn:={ ps:=[0],size:=5,body :=
 [S.asg 1 (u8 1),S.asg 2 (u8 2),S.asg 3 (E.bin .Sub (E.bin .Mod (E.call 20 [E.loc 0,E.int 3]) (E.int 5)) (E.int 2)),
  S.ret (E.list [E.tup [E.int 0,E.int 1,E.loc 1],E.tup [E.int 1,E.int 0,E.loc 2],E.tup [E.int 0,E.int 0,E.bin .Add (E.bin .FloorDiv (E.bin .Add (E.loc 1) (E.loc 2)) (E.int 2)) (E.loc 3)],
   E.tup [E.int 1,E.int 1,E.bin .Mod (E.call 20 [E.loc 0,E.int 4]) (E.int 90)]])] }
noncomputable def eC9:E:=E.bin .Mod (E.call 20 [E.loc 0,E.int 9]) (E.int 9)
noncomputable def qd:List S :=
 [S.asg 4 (E.call 20 [E.loc 0,E.bin .Add (E.int 10) (E.loc 3)]),
  S.asg 5 ((E.list [E.int 11,E.int 60,E.int 300,E.bin .Sub (E.bin .Mult (E.int 2) (E.pow 10 60)) (E.int 1)]).sub (E.bin .Add (E.bin .FloorDiv eC9 (E.int 3)) (E.bin .FloorDiv eC9 (E.int 8)))),
  S.expr ((E.loc 2).meth .append [E.bin .Sub (E.bin .Mod (E.loc 4) (E.loc 5)) (E.bin .Mult (E.blt .int [E.cmp .Gt (E.loc 5) (E.int 300)]) (E.bin .Sub (E.pow 10 60) (E.int 1)))])]
noncomputable def lR:Fn:={ ps:=[0,1],size:=9,body:=[S.asg 2 (E.list []),S.forS [3] true (It.e (E.blt .range [E.loc 1])) qd,S.ret (E.loc 2)] }
noncomputable def cP:Fn:={ ps:=[0,1,2,3,4],size:=13,body :=
 [S.expr ((E.loc 2).meth .clear []),S.expr ((E.loc 2).meth .extend [E.loc 3]),S.asg 5 (E.call 18 [E.loc 0,E.loc 2,E.loc 4]),S.asg 6 (E.call 29 [E.loc 1,E.loc 3,E.loc 4,E.blt .len [E.loc 3]]),
  S.ifS (E.cmp .NotEq (E.loc 2) (E.loc 3)) [S.ret (E.bool false)] [],S.ifS (E.cmp .Is (E.loc 6) E.none) [S.ret (E.cmp .Is (E.loc 5) E.none)] [],
  S.ret (((E.loc 5).isi Ty.tuple).and ((E.blt .all [E.comp [1] true (E.loc 5) [] (E.call 21 [E.loc 1]) [none,none,none]]).and (E.cmp .Eq (E.loc 5) (E.loc 6))))] }
noncomputable def eM:Fn:={ ps:=[0,1,2],size:=7,body:=[S.tryS [S.expr (E.call 18 [E.loc 0,E.loc 1,E.loc 2])] xcs 3 [S.ret (E.cmp .Eq (E.call 39 [E.loc 3]) (E.list [E.str "count"]))],S.ret (E.bool false)] }
section
variable {P T:Nat→Option Fn}{wf n:Nat} {σ:Sto}{m lw lt l i q:Nat}{ws:List Way}{sc:List Int}{x:Nat→Int}
theorem tu (H:ot P) (h25:P 25=some ri) (m1:1 ≤ m) (m2:m ≤ 12) {Γ:Prop}
  (k:∀ ws l σ',aG m ws→evFn P wf (n + 2) 25 [.ref 0,.int m] [.frz (sc.map V.int),.tab false]=.ok (.ref l) σ'→aH σ' sc→σ'[1]?=some (.tab true)→σ'[l]?=some (.lst (ws.map wayV))→Γ):Γ:=by
 obtain ⟨w,hw,ew⟩:=a9 2 (by decide) ((sc.getD 1 0).fdiv 168)
 obtain ⟨j,hj,ej⟩:=a9 7 (by decide) ((sc.getD 1 0).fdiv 24)
 have hc:=dM (wf:=wf) (n:=n) (P:=P) H.h20 (show aH [AO.frz (sc.map V.int),.tab false] sc from rfl) 1
 generalize sc.getD 1 0=c at ew ej hc
 obtain ⟨le,hle,el⟩:∃ le:Nat,(1 ≤ le ∧ le ≤ 12) ∧ [V.int 5,V.int 12][w]?=some (.int le):=by
  rcases w with _ | _ | w
  ·exact ⟨5,by decide,rfl⟩
  ·exact ⟨12,by decide,rfl⟩
  ·exact absurd hw (by lia)
 refine qW (P:=P) (wf:=wf) (n:=n) (j:=0) (M:=12) (le:=le) (cell:=c) (σ:=[.frz (sc.map V.int),.tab false,.lst [.int 5,.int 12]]) (sc:=sc) (m:=m) (tail:=[S.forS [5] true (It.e (E.blt .range [E.bin .Mod (E.bin .FloorDiv (E.loc 7) (E.int 24)) (E.int 7)])) jZ,S.ret (E.loc 4)]) H hle rfl rfl m1 m2 (rest1:=[some (.int c),none,none,none,none]) rfl fun ws o τ x4 x5 L e1=>?_
 obtain ⟨ws2,τ2,z4,z5,L2,l2⟩:=qO (P:=P) (wf:=wf) (n:=n) (le:=le) (M:=12) (β:=[AO.frz (sc.map V.int),AO.tab true,.lst [.int 5,.int 12]] ++ [o]) (sc:=sc) (m:=m) (lo:=3) (x4:=x4) (x5:=x5) (τ:=τ) (rest:=[some (.int c),none,none,none,none]) (e:=E.blt .range [E.bin .Mod (E.bin .FloorDiv (E.loc 7) (E.int 24)) (E.int 7)]) H hle rfl m1 (K:=2 * m) (k:=j) (by lia) L
  (ba (aa (ar (ar (ac rfl) aj (fJ (by decide) (by decide))) aj ((dc (by decide)).trans (congrArg (fun z=>RE.ok (.int z) _) ej))) ae) (bo (k:=j) (by lia)))
 exact k ws2 4 (du ([AO.frz (sc.map V.int),AO.tab true,.lst [.int 5,.int 12]] ++ [o]) ws2 τ2) (L2.good m1 m2 (by lia) (by decide)) (bp h25 rfl (ak (aF (aa (ac rfl) (aa aj ae)) hc) (by decide:7 < 12) (ak (aC (bf (aa aj (aa aj ae)) (ai (by exact (by decide:2 ≤ 16777216)))) (ar (ar (ac rfl) aj (fJ (by decide) (by decide))) aj ((dc (by decide)).trans (congrArg (fun z=>RE.ok (.int z) _) ew))) (aN (l:=2) rfl el)) (by decide:2 < 12) (e1 _ (a4 l2 (aO (ac rfl))))))) rfl rfl rfl
theorem tM (h20:P 20=some fy) (h23:P 23=some gP) (hs:aH σ sc) {Γ:Prop}
  (k:∀ ws,aG 2 ws→evFn P wf (n + 2) 23 [.ref 0] σ=.ok (.ref σ.length) (σ ++ [.lst (ws.map wayV)])→Γ):Γ:=by
 obtain ⟨a,ha,ea⟩:=a9 60 (by decide) (sc.getD 1 0)
 obtain ⟨b,hb,eb⟩:=a9 60 (by decide) (sc.getD 2 0)
 obtain ⟨c,hc,ec⟩:=a9 5 (by decide) (sc.getD 3 0)
 obtain ⟨d,hd,ed⟩:=a9 90 (by decide) (sc.getD 4 0)
 have cell:∀ {fr:Fra} (k q r:Nat),fr[0]?=some (some (.ref 0))→(sc.getD k 0).fmod q=(r:Int)→q ≠ 0→evE (evFn P wf (n + 1)) (E.bin .Mod (E.call 20 [E.loc 0,E.int k]) (E.int q)) fr σ=.ok (.int r) σ:=fun k q r h0 h hq=>ar (aF (aa (ac h0) (aa aj ae)) (dM h20 hs k)) aj ((dc (by lia)).trans (congrArg (fun z=>RE.ok (.int z) _) h))
 have hmid:(Int.fdiv (((50 + a:Nat):Int) + ((50 + b:Nat):Int)) 2) + ((c:Int) - 2)=(((50 + a + (50 + b)) / 2 + c - 2:Nat):Int):=by
  rw [show ((50 + a:Nat):Int) + ((50 + b:Nat):Int)=((50 + a + (50 + b):Nat):Int) from rfl,Int.fdiv_eq_ediv_of_nonneg _ (by decide)]
  lia
 refine k [(0,1,50 + a),(1,0,50 + b),(0,0,(50 + a + (50 + b)) / 2 + c - 2),(1,1,d)] ⟨by decide,by decide,by exact (by decide:4 ≤ 60),fun w hw=>?_,fun w hw=>?_,fun a' b' ha' hb'=>?_,fun h=>nomatch h⟩ (bp h23 rfl (ak (ar aj (cell 1 60 a rfl ea (by decide)) (rfl:_=RE.ok (.int ((50 + a:Nat):Int)) σ)) (by decide:1 < 5) (ak (ar aj (cell 2 60 b rfl eb (by decide)) (rfl:_=RE.ok (.int ((50 + b:Nat):Int)) σ)) (by decide:2 < 5) (ak (ar (cell 3 5 c rfl ec (by decide)) aj rfl) (by decide:3 < 5)
  (aO (bf (aa (dz (aa aj (aa aj (aa (ac rfl) ae))) (by exact (by decide:3 ≤ 1000))) (aa (dz (aa aj (aa aj (aa (ac rfl) ae))) (by exact (by decide:3 ≤ 1000))) (aa (dz (aa aj (aa aj (aa (ar (ar (ar (ac rfl) (ac rfl) rfl) aj (fJ (by decide) (by decide))) (ac rfl) (congrArg (fun z=>RE.ok (.int z) σ) hmid)) ae))) (by exact (by decide:3 ≤ 1000))) (aa (dz (aa aj (aa aj (aa (cell 4 90 d rfl ed (by decide)) ae))) (by exact (by decide:3 ≤ 1000))) ae)))) (ai (by exact (by decide:4 ≤ 16777216)))))))))
 ·rcases w with ⟨p,r,t⟩
  simp only [List.mem_cons,Prod.mk.injEq,List.not_mem_nil,or_false] at hw
  show p < 2 ∧ r < 2
  lia
 ·rcases w with ⟨p,r,t⟩
  simp only [List.mem_cons,Prod.mk.injEq,List.not_mem_nil,or_false] at hw
  show t ≤ 9999
  lia
 ·have h01:bI [(0,1,50 + a),(1,0,50 + b),(0,0,(50 + a + (50 + b)) / 2 + c - 2),(1,1,d)] 0 1:=.one (.head _)
  have h10:bI [(0,1,50 + a),(1,0,50 + b),(0,0,(50 + a + (50 + b)) / 2 + c - 2),(1,1,d)] 1 0:=.one (.tail _ (.head _))
  rcases a' with _ | _ | a'
  ·rcases b' with _ | _ | b'
   ·exact .self
   ·exact h01
   ·exact absurd hb' (by lia)
  ·rcases b' with _ | _ | b'
   ·exact h10
   ·exact .self
   ·exact absurd hb' (by lia)
  ·exact absurd ha' (by lia)
theorem Be (σ:Sto):mt .Mult (.int 2) (.int (((10:Nat):Int) ^ 60)) σ=.ok (.int (2 * 10 ^ 60)) σ:=by
 show (if gJ 2 (((10:Nat):Int) ^ 60) then RE.ok (.int (2 * ((10:Nat):Int) ^ 60)) σ else .bad)=_
 rw [if_pos (.inl (by decide))]; rfl
noncomputable def pU (m p:Nat) (x3 x4 x5:Option V):Fra:=[some (.ref 0),some (.int m),some (.ref p),x3,x4,x5,none,none,none]
noncomputable def yH (d:Int):Int:=(if decide (300 < d) then 1 else 0) * (10 ^ 60 - 1)
theorem ud {call:Nat→List V→Sto→RE}{fr:Fra}{d:Int} (h5:fr[5]?=some (some (.int d))):evE call (E.bin .Mult (E.blt .int [E.cmp .Gt (E.loc 5) (E.int 300)]) (E.bin .Sub (E.pow 10 60) (E.int 1))) fr σ=.ok (.int (yH d)) σ:=by
 refine ar (ba (aa (aM (p:=decide (300 < d)) (ac h5) aj rfl) ae) rfl) (ar zn aj rfl) (zY (.inl ?_))
 cases decide (300 < d) <;> decide
theorem qk (h20:P 20=some fy) (h24:P 24=some lR) (hs:aH σ sc) (hm:m ≤ 12) {Γ:Prop}
  (k:∀ x τ,evFn P wf (n + 2) 24 [.ref 0,.int m] σ=.ok (.ref σ.length) (accS σ (intsV m x) τ)→Γ):Γ:=by
 obtain ⟨c,hc,ec⟩:=a9 9 (by decide) (sc.getD 9 0)
 obtain ⟨w,hw,ew⟩:∃ w:Nat,w < 4 ∧ c / 3 + c / 8=w:=⟨_,by lia,rfl⟩
 have e9:∀ {σ':Sto}{fr:Fra},aH σ' sc→fr[0]?=some (some (.ref 0))→evE (evFn P wf (n + 1)) eC9 fr σ'=.ok (.int c) σ':=fun hs' h0 =>
  ar (aF (aa (ac h0) (aa aj ae)) (dM h20 hs' 9)) aj ((dc (by decide)).trans (congrArg (fun z=>RE.ok (.int z) _) ec))
 have hwh:∀ {σ':Sto}{fr:Fra},aH σ' sc→fr[0]?=some (some (.ref 0))→evE (evFn P wf (n + 1)) (E.bin .Add (E.bin .FloorDiv eC9 (E.int 3)) (E.bin .FloorDiv eC9 (E.int 8))) fr σ'=.ok (.int w) σ':=fun hs' h0 =>
  ar (ar (e9 hs' h0) aj (jL (y:=3) (by decide) (by decide))) (ar (e9 hs' h0) aj (jL (y:=8) (by decide) (by decide))) (congrArg (fun (z:Nat)=>RE.ok (.int (z:Int)) _) ew)
 obtain ⟨d,hd,ed⟩:∃ d:Int,d ≠ 0 ∧ ([11,60,300,2 * 10 ^ 60 - 1].map V.int)[w]?=some (.int d):=by
  rcases w with _ | _ | _ | _ | w
  ·exact ⟨11,by decide,rfl⟩
  ·exact ⟨60,by decide,rfl⟩
  ·exact ⟨300,by decide,rfl⟩
  ·exact ⟨2 * 10 ^ 60 - 1,by decide,rfl⟩
  ·exact absurd hw (by lia)
 obtain ⟨y,hy⟩:∃ y:Nat→Int,∀ k,y k=(sc.getD (10 + k) 0).fmod d - yH d:=⟨_,fun _=>rfl⟩
 obtain ⟨z,e,_⟩:=lJ (call:=evFn P wf (n + 1)) (wf:=wf) (tg:=[3]) (one:=true) (ws:=List.range m) (g:=fun (v:Nat)=>V.int v) (it:=E.blt .range [E.loc 1]) (bs:=qd) (σ:=accS σ [] [])
  (F:=fun _ (z:(Option V × Option V × Option V) × Sto)=>pU m σ.length z.1.1 z.1.2.1 z.1.2.2) (S:=fun i z=>accS σ (intsV i y) z.2) (J:=fun _ _=>True) ((none,none,none),[]) (ba (aa (ac rfl) ae) (bo (by lia))) (br m)
  (fun i v z hv _=>by
   obtain ⟨hi,hiv⟩:=bg hv
   subst hiv
   have e5:evE (evFn P wf (n + 1)) ((E.list [E.int 11,E.int 60,E.int 300,E.bin .Sub (E.bin .Mult (E.int 2) (E.pow 10 60)) (E.int 1)]).sub (E.bin .Add (E.bin .FloorDiv eC9 (E.int 3)) (E.bin .FloorDiv eC9 (E.int 8)))) (pU m σ.length (some (.int i)) (some (.int (sc.getD (10 + i) 0))) z.1.2.2) (accS σ (intsV i y) z.2)=.ok (.int d) (accS σ (intsV i y) (z.2 ++ [.lst ([11,60,300,2 * 10 ^ 60 - 1].map V.int)])):=by
    rw [← co]
    exact aC (bf (aa aj (aa aj (aa aj (aa (ar (ar aj zn (Be _)) aj rfl) ae)))) (ai (by exact (by decide:4 ≤ 16777216)))) (hwh (ap (ap hs)) rfl) (aN am ed)
   refine ⟨_,rfl,((some (.int i),some (.int (sc.getD (10 + i) 0)),some (.int d)),z.2 ++ [.lst ([11,60,300,2 * 10 ^ 60 - 1].map V.int)]),?_,trivial⟩
   rw [dR,hy i]
   exact ak (aF (aa (ac rfl) (aa (ar aj (ac rfl) rfl) ae)) (dM h20 (show aH (accS σ _ z.2) sc from ap hs) (10 + i))) (by decide:4 < 9) (ak e5 (by decide:5 < 9) (mA rfl (ar (ar (ac rfl) (ac rfl) (dc hd)) (ud rfl) rfl) (by rw [aP]; lia)))) trivial
 rw [List.length_range] at e
 exact k y z.2 (bp h24 rfl (ak (bf ae (ai (by decide:0 ≤ 16777216))) (by decide:2 < 9) (a4 e (aO (ac rfl)))))
structure yk (P:Nat→Option Fn):Prop where
 h18:P 18=some bP
 h21:P 21=some pc
 h26:P 26=some pH
 h27:P 27=some lI
 h29:P 29=some rH
 h30:P 30=some cP
theorem eq3 {a b c:Int}:iE .Eq (.tup [.int a,.int b,.int c]) (.tup [.int a,.int b,.int c]) σ=some true:=by
 have h:toD 5 σ (.tup [.int a,.int b,.int c])=some (.tuple ([a,b,c].map PyData.int)):=rfl
 show eqV σ (.tup [.int a,.int b,.int c]) (.tup [.int a,.int b,.int c])=_
 unfold eqV; rw [h]
 exact congrArg some (mZ [a,b,c])
noncomputable def u1 (l lw b q most:Nat) (x5 x6:Option V):Fra:=[some (.ref l),some (.ref lw),some (.ref b),some (.ref q),some (.int most),x5,x6,none,none,none,none,none,none]
theorem sF (A:yk P) (HT:ef P) (hlw:σ[lw]?=some (.lst (ws.map wayV))) (W:bk σ l m ws) (G:aG m ws) (hq:σ[q]?=some (.lst (intsV m x))) {most:Nat} (hmost:most ≤ 1000) {h:List V} {υ:Sto} :
  ∃ υ',evFn P wf (n + 6) 30 [.ref l,.ref lw,.ref σ.length,.ref q,.int most] (accS σ h υ)=.ok (.bool true) (accS σ (intsV m x) υ'):=by
 have hm:=G.m2
 have hx:dP .extend σ.length [] [.ref q] (accS σ [] υ)=.ok .none (accS σ (intsV m x) υ):=by
  show (match getL (accS σ [] υ) q with | some ys=>if ([]:List V).length + ys.length ≤ 16777216 ∧ q ≠ σ.length then RE.ok .none (dy (accS σ [] υ) σ.length ([] ++ ys)) else .bad | none=>.bad)=_
  rw [ag (show (accS σ [] υ)[q]?=_ from ap hq)]
  show (if _ then _ else _)=_
  rw [if_pos ⟨by rw [aP]; show 0 + m ≤ _; lia,Nat.ne_of_lt (List.getElem?_eq_some_iff.mp hq).1⟩,ji]; rfl
 obtain ⟨w,τ1,e1,hw,S1⟩:=hG (wf:=wf) (n:=n) (σ:=accS σ (intsV m x) υ) (lt:=σ.length) (x:=x) (most:=most) HT A.h18 W.app G am hmost
 rw [co] at e1
 obtain ⟨w',τ2,e2,S2⟩:=v9 (wf:=wf) (n:=n + 2) (σ:=accS σ (intsV m x) (υ ++ τ1)) (lt:=q) (x:=x) (most:=most) A.h26 A.h27 A.h29 G (ap hlw) (ap hq) hmost
 rw [S2.uniq S1,co] at e2
 have hlen:=dv (show (accS σ (intsV m x) (υ ++ τ1))[q]?=_ from ap hq)
 rw [aP] at hlen
 have front:∀ r,evSs (evFn P wf (n + 5)) wf [S.ifS (E.cmp .Is (E.loc 6) E.none) [S.ret (E.cmp .Is (E.loc 5) E.none)] [],S.ret (((E.loc 5).isi Ty.tuple).and ((E.blt .all [E.comp [1] true (E.loc 5) [] (E.call 21 [E.loc 1]) [none,none,none]]).and (E.cmp .Eq (E.loc 5) (E.loc 6))))] (u1 l lw σ.length q most (some w) (some w)) (accS σ (intsV m x) (υ ++ τ1 ++ τ2))=r →
   evSs (evFn P wf (n + 5)) wf cP.body (aR cP [.ref l,.ref lw,.ref σ.length,.ref q,.int most]) (accS σ h υ)=r:=fun r hr=>by
  refine wk (ac rfl) am ?_
  rw [show (accS σ h υ).set σ.length (.lst [])=accS σ [] υ from ji]
  exact bu (cN (ac rfl) (ag am) (aa (ac rfl) ae) (ag am) hx) (ak (aF (aa (ac rfl) (aa (ac rfl) (aa (ac rfl) ae))) e1) (by decide:5 < 13) (ak (aF (aa (ac rfl) (aa (ac rfl) (aa (ac rfl) (aa (ba (aa (ac rfl) ae) hlen) ae)))) e2) (by decide:6 < 13) (aW (aM (ac rfl) (ac rfl) (wD am (ap hq))) hr)))
 rcases hw with hw | ⟨t,s,g,hw,_⟩
 ·rw [hw] at front
  exact ⟨_,bp A.h30 rfl (front _ (cM (aM (ac rfl) bU rfl) (aO (aM (ac rfl) bU rfl))))⟩
 ·rw [hw] at front
  have ea:evE (evFn P wf (n + 5)) (E.blt .all [E.comp [1] true (E.loc 5) [] (E.call 21 [E.loc 1]) [none,none,none]]) (u1 l lw σ.length q most (some (.tup [.int t,.int s,.int g])) (some (.tup [.int t,.int s,.int g]))) (accS σ (intsV m x) (υ ++ τ1 ++ τ2))=.ok (.bool true) (accS σ (intsV m x) (υ ++ τ1 ++ τ2) ++ [.lst ([(t:Int),(s:Int),g].map fun _=>V.bool true)]):=by
   refine ba (aa (oY (ws:=[(t:Int),(s:Int),g]) (g:=V.int) (p:=fun _=>true) (f:=fun _=>V.bool true) (ac rfl) rfl (fun v hv=>⟨_,rfl,pM,fun _=>aF (aa (ac rfl) ae) (uE A.h21)⟩) (ai (by exact (by decide:3 ≤ 16777216)))) ae) ?_
   show bZ _ (((getL _ (accS σ (intsV m x) (υ ++ τ1 ++ τ2)).length).bind w7).map V.bool)=_
   rw [ag am]; rfl
  rw [co] at ea
  exact ⟨_,bp A.h30 rfl (front _ (aW (aM (ac rfl) bU rfl) (aO (cG (jD (ac rfl) rfl) (cG ea (aM (ac rfl) (ac rfl) eq3))))))⟩
theorem rM (H:ef P) (W:bk σ l m ws) {vs:List V} (h:σ[lt]?=some (.lst vs)) (hn:vs.length ≠ m) {c:Int}:evFn P wf (n + 1) 17 [.ref l,.ref lt,.int c] σ=.ex (xc 0) σ :=
 let ⟨_,_,a,b,_⟩:=W.at'
 BK H.h17 rfl (wX (aM (ba (aa (ac rfl) ae) (dv h)) (cm (ac rfl) (bO a b)) (congrArg some (bne_iff_ne.mpr fun q=>hn (Int.ofNat.inj q)))) wt)
theorem tC {call:Nat→List V→Sto→RE}{a b:E}{fr:Fra}{x:Nat} {σ1:Sto} (hc:gW a=true) (h:evE call a fr σ=.ex x σ1):evE call (.sub a b) fr σ=.ex x σ1:=by
 show (evE call a fr σ).bindZ (gW a) _=_; rw [h,hc]; rfl
theorem nT (H:ef P) (h18:P 18=some bP) (W:bk σ l m ws) {vs:List V} (h:σ[lt]?=some (.lst vs)) (hn:vs.length ≠ m) {c:Int}:evFn P wf (n + 2) 18 [.ref l,.ref lt,.int c] σ=.ex (xc 0) σ :=
 let ⟨_,_,a,b,_⟩:=W.at'
 BK h18 rfl (sY rfl (tC rfl (bK (ac rfl) a b (aa (ac rfl) (aa aj ae)) (rM H W h hn))))
theorem ln (h28:T 28=some eM) (h39:P 39=some j8) (H:ef P) (h18:P 18=some bP) (W:bk σ l m ws) {vs:List V} (h:σ[lt]?=some (.lst vs)) (hn:vs.length ≠ m) {c:Int}:∃ τ,bq P T wf (n + 2) 28 [.ref l,.ref lt,.int c] σ=.ok (.bool true) (σ ++ τ):=by
 obtain ⟨τ,e⟩:=wp (wf:=wf) (n:=n + 1) (σ:=σ) (k:=0) (i:=3) (s:="count") (fr:=[some (.ref l),some (.ref lt),some (.int c),some (.exc (xc 0)),none,none,none]) h39 rfl rfl rfl (by decide +kernel) (by decide +kernel)
 exact ⟨τ,pz h28 rfl (sS (fr1:=[some (.ref l),some (.ref lt),some (.int c),none,none,none,none]) (r6 rfl (aF (aa (ac rfl) (aa (ac rfl) (aa (ac rfl) ae))) (nT (n:=n) H h18 W h hn))) rfl (by decide:3 < 7) e)⟩
end
end Mine
namespace Mine
set_option backward.match.sparseCases false
open PySem
noncomputable def eC (k:Int):E:=E.call 20 [E.loc 0,E.int k]
noncomputable def uM:List S :=
 [S.asg 1 (E.bin .Add (E.int 1) (E.bin .Mod (eC 0) (E.int 5))),S.asg 2 (E.bin .Mod (eC 22) (E.int 41)),S.asg 3 (E.bin .Mod (E.bin .FloorDiv (eC 0) (E.int 5)) (E.int 9)),
  S.ifS ((E.cmp .Eq (E.loc 3) (E.int 1)).or (E.cmp .Eq (E.loc 3) (E.int 2))) [S.asg 1 (E.bin .Add (E.int 6) (E.bin .Mod (E.bin .FloorDiv (eC 0) (E.int 45)) (E.int 7))),S.asg 2 (E.bin .Mod (eC 22) (E.int 20))] [],
  S.asg 4 (E.call 25 [E.loc 0,E.loc 1]),
  S.ifS (E.cmp .Eq (E.loc 3) (E.int 3)) [S.asg 1 (E.int 2),S.asg 2 (E.bin .Mod (eC 22) (E.int 201)),S.asg 4 (E.call 23 [E.loc 0])] []]
noncomputable def nK:E:=E.comp [1] true (E.blt .range [E.loc 1]) [] (E.bin .FloorDiv ((E.loc 3).sub (E.bin .Sub (E.bin .Sub (E.loc 2) (E.int 1)) (E.loc 1))) (E.int 2)) [none,none,some 1,some 5]
noncomputable def l5:E:=(E.list [E.loc 2,E.bin .Add (E.bin .FloorDiv (E.loc 2) (E.int 2)) (E.int 1)]).sub (E.bin .Mod (E.bin .FloorDiv (eC 23) (E.int 17)) (E.int 2))
noncomputable def sx:List S :=
 [S.expr (E.call 19 [E.loc 6,E.loc 10,E.call 20 [E.loc 0,E.bin .Add (E.int 30) (E.bin .Mod (E.loc 11) (E.int 3))]]),S.ifS (E.call 30 [E.loc 6,E.loc 4,E.loc 8,E.loc 10,E.loc 11]).not [S.ret (E.bool false)] []]
noncomputable def uL:E:=E.tup [E.tup [E.loc 5,E.loc 2],E.tup [E.loc 7,E.loc 9],E.tup [E.loc 5,E.loc 2]]
noncomputable def u5:List S :=
 [S.forS [10,11] false (It.e uL) sx,S.asg 12 (E.bin .Mod (eC 23) (E.bin .Add (E.loc 1) (E.int 4))),
  S.ifS (E.cmp .Eq (E.loc 12) (E.loc 1)) [S.asg 12 (E.bin .Add (E.loc 1) (E.int 1))] [],
  S.ret ((E.cmp .Eq ((E.loc 6).attr 1) (E.loc 4)).and (E.tcall 28 [E.loc 6,E.bin .Mult (E.list [E.int 0]) (E.loc 12),(E.list [E.int 0,E.int 9]).sub (E.bin .Mod (E.loc 2) (E.int 2))]))]
noncomputable def xr:List S :=
 [S.asg 5 (E.call 24 [E.loc 0,E.loc 1]),S.asg 6 (E.mk 11 [E.loc 1,E.blt .list [E.loc 4]]),S.asg 7 nK,S.asg 8 (E.list []),S.asg 9 l5]
noncomputable def gL:Fn:={ ps:=[0],size:=23,body:=uM ++ (xr ++ u5) }
noncomputable def dw (x1 x2 x3 x4 x5 x6 x7 x8 x9 x10 x11 x12:Option V):Fra:=[some (.ref 0),x1,x2,x3,x4,x5,x6,x7,x8,x9,x10,x11,x12,none,none,none,none,none,none,none,none,none,none]
structure jx (P T:Nat→Option Fn):Prop where
 H:ot P
 K:yk P
 h23:P 23=some gP
 h24:P 24=some lR
 h25:P 25=some ri
 h39:P 39=some j8
 hT:∀ k,k ≠ 28→T k=none
 h28:T 28=some eM
theorem Bj {call:Nat→List V→Sto→RE}{wf:Nat} {σ:Sto}{tg:List Nat}{one:Bool}{it:E}{bs:List S}{vs:List V} {β:Type}{F:Nat→β→Fra}{St:Nat→β→Sto}{J:Nat→β→Prop} (b0:β) (h:evE call it (F 0 b0) σ=.ok (.tup vs) (St 0 b0)) (step:∀ i v b,vs[i]?=some v→J i b→fT tg one (evSs call wf bs) v (F i b) (St i b) (F (i + 1)) (St (i + 1)) (J (i + 1))) (h0:J 0 b0) :
  xi (evS call wf (.forS tg one (.e it) bs) (F 0 b0) σ) (F vs.length) (St vs.length) (J vs.length) :=
 .of (qR (ws:=vs) (g:=id) (fun i=>InF (F i) (St i) (J i)) _ (rfl:fU (.tup vs)=some (.tup vs)) rfl (fun i _ _ _=>by show some vs[i]?=some (vs[i]?.map id); rw [Option.map_id]; rfl) h (fun i a _ _ ha ⟨b,j⟩=>(step i a b ha j).to) ⟨b0,h0⟩)
section
variable {P T:Nat→Option Fn}{wf n:Nat} {σ:Sto}{m lw lt lo l i q:Nat}{ws:List Way}{sc:List Int}{x:Nat→Int}{x2 x3 x5 x7 x9 x10 x11 x12:Option V}
theorem jx.fn (A:jx P T) {k N:Nat} (h:k ≠ 28) {vs:List V}{r:RE} (e:evFn P wf N k vs σ=r):bq P T wf N k vs σ=r:=(s4 (A.hT k h)).trans e
theorem vX (A:jx P T) (hs:aH σ sc) {fr:Fra} (h0:fr[0]?=some (some (.ref 0))) (k:Nat):evE (bq P T wf (n + 6)) (eC k) fr σ=.ok (.int (sc.getD k 0)) σ:=aF (aa (ac h0) (aa aj ae)) (A.fn (by decide) (dM (n:=n + 5) A.H.h20 hs k))
theorem zL (A:jx P T) (hs:aH σ sc) {fr:Fra} (h0:fr[0]?=some (some (.ref 0))) {k q r:Nat} (hq:q ≠ 0) (h:(sc.getD k 0).fmod q=(r:Int)):evE (bq P T wf (n + 6)) (E.bin .Mod (eC k) (E.int q)) fr σ=.ok (.int r) σ:=ar (vX A hs h0 k) aj ((dc (by lia)).trans (congrArg (fun z=>RE.ok (.int z) _) h))
theorem v7 (A:jx P T) (hs:aH σ sc) {fr:Fra} (h0:fr[0]?=some (some (.ref 0))) {k d q r:Nat} (hd:(d:Int) ≠ 0 ∧ (d:Int).natAbs < 10 ^ 100) (hq:q ≠ 0) (h:((sc.getD k 0).fdiv d).fmod q=(r:Int)):evE (bq P T wf (n + 6)) (E.bin .Mod (E.bin .FloorDiv (eC k) (E.int d)) (E.int q)) fr σ=.ok (.int r) σ:=ar (ar (vX A hs h0 k) aj (fJ hd.1 hd.2)) aj ((dc (by lia)).trans (congrArg (fun z=>RE.ok (.int z) _) h))
theorem wB (A:jx P T) {Γ:Prop}
  (K:∀ (m most w:Nat) (ws:List Way) (lw:Nat) (σ:Sto),aG m ws→most ≤ 200→aH σ sc→σ[1]?=some (.tab true)→σ[lw]?=some (.lst (ws.map wayV))→(∀ ss r,evSs (bq P T wf (n + 6)) wf ss (dw (some (.int m)) (some (.int most)) (some (.int w)) (some (.ref lw)) none none none none none none none none) σ=r →
   evSs (bq P T wf (n + 6)) wf (uM ++ ss) (aR gL [.ref 0]) [.frz (sc.map V.int),.tab false]=r)→Γ):Γ:=by
 obtain ⟨a,ha,ea⟩:=a9 5 (by decide) (sc.getD 0 0)
 obtain ⟨w,hw,ew⟩:=a9 9 (by decide) ((sc.getD 0 0).fdiv 5)
 obtain ⟨b,hb,eb⟩:=a9 7 (by decide) ((sc.getD 0 0).fdiv 45)
 obtain ⟨p,hp,ep⟩:=a9 41 (by decide) (sc.getD 22 0)
 obtain ⟨p',hp',ep'⟩:=a9 20 (by decide) (sc.getD 22 0)
 obtain ⟨p2,hp2,ep2⟩:=a9 201 (by decide) (sc.getD 22 0)
 have hs0:aH [AO.frz (sc.map V.int),.tab false] sc:=rfl
 have e1:evE (bq P T wf (n + 6)) (E.bin .Add (E.int 1) (E.bin .Mod (eC 0) (E.int 5))) (aR gL [.ref 0]) [.frz (sc.map V.int),.tab false]=.ok (.int (1 + a:Nat)) [.frz (sc.map V.int),.tab false]:=ar aj (zL A hs0 rfl (q:=5) (by decide) ea) rfl
 have et:∀ {x1 x2 x4 S} (c:Int),evE (bq P T wf (n + 6)) (E.cmp .Eq (E.loc 3) (E.int c)) (dw x1 x2 (some (.int w)) x4 none none none none none none none none) S=.ok (.bool ((w:Int) == c)) S:=fun c=>aM (ac rfl) aj rfl
 obtain ⟨m1,most1,h1,h2,h3,first⟩:∃ m1 most1:Nat,1 ≤ m1 ∧ m1 ≤ 12 ∧ most1 ≤ 200 ∧ ∀ ss r,evSs (bq P T wf (n + 6)) wf ss (dw (some (.int m1)) (some (.int most1)) (some (.int w)) none none none none none none none none none) [.frz (sc.map V.int),.tab false]=r →
   evSs (bq P T wf (n + 6)) wf (S.asg 1 (E.bin .Add (E.int 1) (E.bin .Mod (eC 0) (E.int 5))) :: S.asg 2 (E.bin .Mod (eC 22) (E.int 41)) :: S.asg 3 (E.bin .Mod (E.bin .FloorDiv (eC 0) (E.int 5)) (E.int 9)) ::
    S.ifS ((E.cmp .Eq (E.loc 3) (E.int 1)).or (E.cmp .Eq (E.loc 3) (E.int 2))) [S.asg 1 (E.bin .Add (E.int 6) (E.bin .Mod (E.bin .FloorDiv (eC 0) (E.int 45)) (E.int 7))),S.asg 2 (E.bin .Mod (eC 22) (E.int 20))] [] :: ss) (aR gL [.ref 0]) [.frz (sc.map V.int),.tab false]=r:=by
  have front:∀ ss r,evSs (bq P T wf (n + 6)) wf ss (dw (some (.int (1 + a:Nat))) (some (.int p)) (some (.int w)) none none none none none none none none none) [.frz (sc.map V.int),.tab false]=r→evSs (bq P T wf (n + 6)) wf (S.asg 1 (E.bin .Add (E.int 1) (E.bin .Mod (eC 0) (E.int 5))) :: S.asg 2 (E.bin .Mod (eC 22) (E.int 41)) :: S.asg 3 (E.bin .Mod (E.bin .FloorDiv (eC 0) (E.int 5)) (E.int 9)) :: ss) (aR gL [.ref 0]) [.frz (sc.map V.int),.tab false]=r:=fun ss r h =>
   ak e1 (by decide:1 < 23) (ak (zL A hs0 rfl (q:=41) (by decide) ep) (by decide:2 < 23) (ak (v7 A hs0 rfl (d:=5) (q:=9) (by decide) (by decide) ew) (by decide:3 < 23) h))
  have eo:evE (bq P T wf (n + 6)) ((E.cmp .Eq (E.loc 3) (E.int 1)).or (E.cmp .Eq (E.loc 3) (E.int 2))) (dw (some (.int (1 + a:Nat))) (some (.int p)) (some (.int w)) none none none none none none none none none) [.frz (sc.map V.int),.tab false]=.ok (.bool (((w:Int) == 1) || ((w:Int) == 2))) [.frz (sc.map V.int),.tab false]:=BC (et 1) fun _=>et 2
  cases hb2:((w:Int) == 1) || ((w:Int) == 2) with
  | false=>rw [hb2] at eo; exact ⟨1 + a,p,by lia,by lia,by lia,fun ss r h=>front _ _ (aW eo h)⟩
  | true=>rw [hb2] at eo; exact ⟨6 + b,p',by lia,by lia,by lia,fun ss r h=>front _ _ (d3 eo (ak (ar aj (v7 A hs0 rfl (d:=45) (q:=7) (by decide) (by decide) eb) (rfl:_=RE.ok (.int ((6 + b:Nat):Int)) _)) (by decide:1 < 23) (ak (zL A hs0 rfl (q:=20) (by decide) ep') (by decide:2 < 23) a6)) h)⟩
 refine tu (wf:=wf) (n:=n + 4) (sc:=sc) A.H A.h25 h1 h2 fun ws lw σ G e4 hs ht hlw=>?_
 have mid:∀ ss r,evSs (bq P T wf (n + 6)) wf ss (dw (some (.int m1)) (some (.int most1)) (some (.int w)) (some (.ref lw)) none none none none none none none none) σ=r→_:=fun ss r h=>first (S.asg 4 (E.call 25 [E.loc 0,E.loc 1]) :: ss) r (ak (aF (aa (ac rfl) (aa (ac rfl) ae)) (A.fn (by decide) e4)) (by decide:4 < 23) h)
 have e3:=et (x1:=some (.int m1)) (x2:=some (.int most1)) (x4:=some (.ref lw)) (S:=σ) 3
 cases hb3:(w:Int) == 3 with
 | false=>rw [hb3] at e3; exact K m1 most1 w ws lw σ G h3 hs ht hlw fun ss r h=>mid _ _ (aW e3 h)
 | true =>
  rw [hb3] at e3
  exact tM (wf:=wf) (n:=n + 4) A.H.h20 A.h23 hs fun ws2 G2 e5=>K 2 p2 w ws2 σ.length _ G2 (by lia) (ap hs) (ap ht) am fun ss r h=>mid _ _ (d3 e3 (ak aj (by decide:1 < 23) (ak (zL A hs rfl (q:=201) (by decide) ep2) (by decide:2 < 23) (ak (aF (aa (ac rfl) ae) (A.fn (by decide) e5)) (by decide:4 < 23) a6))) h)
theorem fq (A:jx P T) (Z:wM P wf m ws) (hs:aH σ sc) (hlw:σ[lw]?=some (.lst (ws.map wayV))) (W:bk σ l m ws) (hq:σ[q]?=some (.lst (intsV m x))) {t:Nat} (ht:t ≤ 1000) {h:List V} {υ:Sto} :
  fT [10,11] false (evSs (bq P T wf (n + 6)) wf sx) (.tup [.ref q,.int t]) (dw (some (.int m)) x2 x3 (some (.ref lw)) x5 (some (.ref l)) x7 (some (.ref σ.length)) x9 x10 x11 x12) (accS σ h υ) (fun z:(Option V × Option V) × List V × Sto=>dw (some (.int m)) x2 x3 (some (.ref lw)) x5 (some (.ref l)) x7 (some (.ref σ.length)) x9 z.1.1 z.1.2 x12) (fun z=>accS σ z.2.1 z.2.2) (fun _=>True):=by
 obtain ⟨τ1,e1⟩:=oj (n:=n) (cell:=sc.getD (30 + t % 3) 0) Z.h19 (σ:=accS σ h υ) (lt:=q) (x:=x) ⟨Z.T,Z.h18,Z.H,Z.HW,Z.h14,W.app,Z.G,ap hq,Z.hw⟩
 rw [co] at e1
 obtain ⟨υ',e2⟩:=sF (wf:=wf) (n:=n) (h:=h) (υ:=υ ++ τ1) A.K Z.T hlw W Z.G hq ht
 exact ⟨_,rfl,((some (.ref q),some (.int t)),intsV m x,υ'),bu (aF (aa (ac rfl) (aa (ac rfl) (aa (aF (aa (ac rfl) (aa (ar aj (ar (ac rfl) aj (iu (x:=t) (y:=3) (by decide))) rfl) ae)) (A.fn (by decide) (dM (n:=n + 5) A.H.h20 (ap hs) (30 + t % 3)))) ae))) (A.fn (by decide) e1)) (aW (gS (aF (aa (ac rfl) (aa (ac rfl) (aa (ac rfl) (aa (ac rfl) (aa (ac rfl) ae))))) (A.fn (by decide) e2))) a6),trivial⟩
theorem pN (A:jx P T) (Z:wM P wf m ws) (hs:aH σ sc) (hlw:σ[lw]?=some (.lst (ws.map wayV))) (W:bk σ l m ws) {y:Nat→Int} (hx:σ[lt]?=some (.lst (intsV m x))) (hy:σ[lo]?=some (.lst (intsV m y))) {most least:Nat} (h1:most ≤ 200) (h2:least ≤ 200) {h:List V} {υ:Sto} :
  ∃ fr τ,evSs (bq P T wf (n + 6)) wf u5 (dw (some (.int m)) (some (.int most)) x3 (some (.ref lw)) (some (.ref lt)) (some (.ref l)) (some (.ref lo)) (some (.ref σ.length)) (some (.int least)) none none none) (accS σ h υ)=.ok (.ret (.bool true)) fr (σ ++ τ):=by
 obtain ⟨z,e1,_⟩:=Bj (call:=bq P T wf (n + 6)) (wf:=wf) (tg:=[10,11]) (one:=false) (it:=uL) (bs:=sx) (vs:=[.tup [.ref lt,.int most],.tup [.ref lo,.int least],.tup [.ref lt,.int most]]) (σ:=accS σ h υ)
  (F:=fun _ (z:(Option V × Option V) × List V × Sto)=>dw (some (.int m)) (some (.int most)) x3 (some (.ref lw)) (some (.ref lt)) (some (.ref l)) (some (.ref lo)) (some (.ref σ.length)) (some (.int least)) z.1.1 z.1.2 none) (St:=fun _ z=>accS σ z.2.1 z.2.2) (J:=fun _ _=>True) ((none,none),h,υ)
  (dz (aa (dz (aa (ac rfl) (aa (ac rfl) ae)) (by exact (by decide:2 ≤ 1000))) (aa (dz (aa (ac rfl) (aa (ac rfl) ae)) (by exact (by decide:2 ≤ 1000))) (aa (dz (aa (ac rfl) (aa (ac rfl) ae)) (by exact (by decide:2 ≤ 1000))) ae))) (by exact (by decide:3 ≤ 1000)))
  (fun i v z hv _=>by
   rcases i with _ | _ | _ | i
   ·rw [← Option.some.inj hv]; exact fq A Z hs hlw W hx (by lia)
   ·rw [← Option.some.inj hv]; exact fq A Z hs hlw W hy (by lia)
   ·rw [← Option.some.inj hv]; exact fq A Z hs hlw W hx (by lia)
   ·exact nomatch hv) trivial
 have hS:aH (accS σ z.2.1 z.2.2) sc:=ap hs
 obtain ⟨o,ho,eo⟩:=a9 (m + 4) (by lia) (sc.getD 23 0)
 have e12:evE (bq P T wf (n + 6)) (E.bin .Mod (eC 23) (E.bin .Add (E.loc 1) (E.int 4))) (dw (some (.int m)) (some (.int most)) x3 (some (.ref lw)) (some (.ref lt)) (some (.ref l)) (some (.ref lo)) (some (.ref σ.length)) (some (.int least)) z.1.1 z.1.2 none) (accS σ z.2.1 z.2.2)=.ok (.int o) (accS σ z.2.1 z.2.2) :=
  ar (vX A hS rfl 23) (ar (ac rfl) aj (rfl:_=RE.ok (.int ((m + 4:Nat):Int)) _)) ((dc (by lia)).trans (congrArg (fun z=>RE.ok (.int z) _) eo))
 obtain ⟨d,lw',a,b,c⟩:=W.at'
 have hm:=Z.G.m2
 have fin:∀ o':Nat,o' ≠ m→o' ≤ 100→∃ fr τ,evSs (bq P T wf (n + 6)) wf [S.ret ((E.cmp .Eq ((E.loc 6).attr 1) (E.loc 4)).and (E.tcall 28 [E.loc 6,E.bin .Mult (E.list [E.int 0]) (E.loc 12),(E.list [E.int 0,E.int 9]).sub (E.bin .Mod (E.loc 2) (E.int 2))]))] (dw (some (.int m)) (some (.int most)) x3 (some (.ref lw)) (some (.ref lt)) (some (.ref l)) (some (.ref lo)) (some (.ref σ.length)) (some (.int least)) z.1.1 z.1.2 (some (.int o'))) (accS σ z.2.1 z.2.2)=.ok (.ret (.bool true)) fr (σ ++ τ):=fun o' hne hle=>by
  obtain ⟨v,hv⟩:∃ v:Int,([0,9].map V.int)[most % 2]?=some (.int v):=by
   rcases hq:most % 2 with _ | _ | q
   ·exact ⟨0,rfl⟩
   ·exact ⟨9,rfl⟩
   ·exact absurd (Nat.mod_lt most (by decide:2 > 0)) (by lia)
  obtain ⟨τ,e⟩:=ln (wf:=wf) (n:=n + 4) (c:=v) (lt:=(accS σ z.2.1 z.2.2 ++ [AO.lst [.int 0]]).length) (vs:=intsV o' fun _=>0) (σ:=accS σ z.2.1 z.2.2 ++ [.lst [.int 0]] ++ [.lst (intsV o' fun _=>0)] ++ [.lst ([0,9].map V.int)]) A.h28 A.h39 Z.T Z.h18 W.app.app.app.app (ap am) (by rw [aP]; exact hne)
  refine ⟨dw (some (.int m)) (some (.int most)) x3 (some (.ref lw)) (some (.ref lt)) (some (.ref l)) (some (.ref lo)) (some (.ref σ.length)) (some (.int least)) z.1.1 z.1.2 (some (.int o')),.lst z.2.1 :: z.2.2 ++ [.lst [.int 0]] ++ [.lst (intsV o' fun _=>0)] ++ [.lst ([0,9].map V.int)] ++ τ,?_⟩
  rw [← List.append_assoc,← List.append_assoc,← List.append_assoc,← List.append_assoc]
  exact aO (cG (aM (cm (ac rfl) (cF (ap a) (ap b))) (ac rfl) (wY (ap c) (ap hlw))) (w2 (aa (ac rfl) (aa (vL (by lia) aj (ac rfl)) (aa (aC (bf (aa aj (aa aj ae)) (ai (by exact (by decide:2 ≤ 16777216)))) (ar (ac rfl) aj (iu (x:=most) (y:=2) (by decide))) (aN am hv)) ae))) e))
 have et:evE (bq P T wf (n + 6)) (E.cmp .Eq (E.loc 12) (E.loc 1)) (dw (some (.int m)) (some (.int most)) x3 (some (.ref lw)) (some (.ref lt)) (some (.ref l)) (some (.ref lo)) (some (.ref σ.length)) (some (.int least)) z.1.1 z.1.2 (some (.int o))) (accS σ z.2.1 z.2.2)=.ok (.bool (o == m)) (accS σ z.2.1 z.2.2):=aM (ac rfl) (ac rfl) (congrArg some (dm o m))
 cases hb:o == m with
 | true =>
  rw [hb] at et
  obtain ⟨fr,τ,e⟩:=fin (m + 1) (by lia) (by lia)
  exact ⟨fr,τ,a4 e1 (ak e12 (by decide:12 < 23) (d3 et (ak (ar (ac rfl) aj (rfl:_=RE.ok (.int ((m + 1:Nat):Int)) _)) (by decide:12 < 23) a6) e))⟩
 | false =>
  rw [hb] at et
  obtain ⟨fr,τ,e⟩:=fin o (ne_of_beq_false hb) (by lia)
  exact ⟨fr,τ,a4 e1 (ak e12 (by decide:12 < 23) (aW et e))⟩
theorem n8 {call:Nat→List V→Sto→RE} (hx:σ[lt]?=some (.lst (intsV m x))) (hm:m ≤ 12) {fr:Fra} (h1:fr[1]?=some (some (.int m))) (hs:dA fr [none,none,some 1,some 5]=[none,none,some (.int m),some (.ref lt)]) :
  evE call nK fr σ=.ok (.ref σ.length) (σ ++ [.lst (intsV m fun k=>(x (m - 1 - k)).fdiv 2)]):=by
 refine v8 (ws:=List.range m) (g:=fun (v:Nat)=>V.int v) (p:=fun _=>true) (f:=fun k=>V.int ((x (m - 1 - k)).fdiv 2)) (ba (aa (ac h1) ae) (bo (by lia))) (br m) (fun k hk=>?_) ?_
 ·have hk:=List.mem_range.mp hk
  rw [hs]
  exact ⟨_,rfl,pM,fun _=>ar (aC (ac rfl) (ar (ar (ac rfl) aj rfl) (ac rfl) (congrArg (fun z=>RE.ok (.int z) _) (by lia:(m:Int) - 1 - k=((m - 1 - k:Nat):Int)))) (aN hx (aX (by lia)))) aj (fJ (by decide) (by decide))⟩
 ·rw [List.filter_eq_self.mpr fun _ _=>rfl]
  exact ai (by rw [List.length_map,List.length_range]; lia)
theorem tF (A:jx P T) (HT:ef P) (h19:P 19=some gn) (H2:qv P) (HW:lO P) (h14:P 14=some fz) (hw:9999 * 27720 < wf) :
  ∃ fr σ',evSs (bq P T wf (n + 6)) wf gL.body (aR gL [.ref 0]) [.frz (sc.map V.int),.tab false]=.ok (.ret (.bool true)) fr σ' ∧ σ'[0]?=some (.frz (sc.map V.int)) ∧ ∃ b,σ'[1]?=some (.tab b):=by
 refine wB (wf:=wf) (n:=n) (sc:=sc) A fun m most w ws lw σ G hmost hs ht hlw front=>?_
 refine qk (wf:=wf) (n:=n + 4) A.H.h20 A.h24 hs G.m2 fun x τ1 e5=>?_
 have hz:=G.hz
 have Z:wM P wf m ws:=⟨HT,A.K.h18,h19,H2,HW,h14,A.H.h20,G,hw⟩
 obtain ⟨τ2,e6,hW⟩:=rU (wf:=wf) (n:=n + 3) (σ:=accS σ (intsV m x) τ1 ++ [AO.lst (ws.map wayV)]) HW am G (Nat.le_trans (by decide) (Nat.le_of_lt hw))
 have e6':=BJ (call:=bq P T wf (n + 6)) (k:=11) (es:=[E.loc 1,E.blt .list [E.loc 4]]) (fr:=dw (some (.int m)) (some (.int most)) (some (.int w)) (some (.ref lw)) (some (.ref σ.length)) none none none none none none none) (aa (ac rfl) (aa (ba (aa (ac rfl) ae) (i0 (show (accS σ (intsV m x) τ1)[lw]?=_ from ap hlw) (by rw [List.length_map]; lia))) ae)) (A.fn (by decide) e6)
 have hW:=hW _ rfl
 generalize (accS σ (intsV m x) τ1 ++ [AO.lst (ws.map wayV)]).length + 1=l at e6' hW
 have up4:∀ {c:Nat}{o:AO},(accS σ (intsV m x) τ1)[c]?=some o→(accS σ (intsV m x) τ1 ++ [AO.lst (ws.map wayV)] ++ τ2)[c]?=some o:=fun h=>ap (ap h)
 have hx4:=up4 (am (σ:=σ) (o:=.lst (intsV m x)) (τ:=τ1))
 have hs4:=up4 (ap (τ:=.lst (intsV m x) :: τ1) hs)
 have ht4:=up4 (ap (τ:=.lst (intsV m x) :: τ1) ht)
 have hlw4:=up4 (ap (τ:=.lst (intsV m x) :: τ1) hlw)
 generalize accS σ (intsV m x) τ1 ++ [AO.lst (ws.map wayV)] ++ τ2=σ4 at e6' hW hx4 hs4 ht4 hlw4
 have e7:=n8 (call:=bq P T wf (n + 6)) (lt:=σ.length) (x:=x) (m:=m) hx4 G.m2 (fr:=dw (some (.int m)) (some (.int most)) (some (.int w)) (some (.ref lw)) (some (.ref σ.length)) (some (.ref l)) none none none none none none) rfl rfl
 have ho5:=am (σ:=σ4) (o:=.lst (intsV m fun k=>(x (m - 1 - k)).fdiv 2)) (τ:=[])
 have hx5:=ap (τ:=[AO.lst (intsV m fun k=>(x (m - 1 - k)).fdiv 2)]) hx4
 have hs5:aH (σ4 ++ [.lst (intsV m fun k=>(x (m - 1 - k)).fdiv 2)]) sc:=ap hs4
 have ht5:=ap (τ:=[AO.lst (intsV m fun k=>(x (m - 1 - k)).fdiv 2)]) ht4
 have hlw5:=ap (τ:=[AO.lst (intsV m fun k=>(x (m - 1 - k)).fdiv 2)]) hlw4
 have W5:=hW.app (τ:=[.lst (intsV m fun k=>(x (m - 1 - k)).fdiv 2)])
 generalize σ4 ++ [.lst (intsV m fun k=>(x (m - 1 - k)).fdiv 2)]=σ5 at e7 ho5 hx5 hs5 ht5 hlw5 W5
 obtain ⟨v,hv,ev⟩:=a9 2 (by decide) ((sc.getD 23 0).fdiv 17)
 obtain ⟨least,hl,el⟩:∃ least:Nat,least ≤ 200 ∧ [V.int most,V.int (most / 2 + 1:Nat)][v]?=some (.int least):=by
  rcases v with _ | _ | v
  ·exact ⟨most,hmost,rfl⟩
  ·exact ⟨most / 2 + 1,by lia,rfl⟩
  ·exact absurd hv (by lia)
 have e9:evE (bq P T wf (n + 6)) l5 (dw (some (.int m)) (some (.int most)) (some (.int w)) (some (.ref lw)) (some (.ref σ.length)) (some (.ref l)) (some (.ref σ4.length)) (some (.ref σ5.length)) none none none none) (σ5 ++ [.lst []])=.ok (.int least) (accS σ5 [] [.lst [.int most,.int (most / 2 + 1:Nat)]]):=by
  have this:evE (bq P T wf (n + 6)) l5 (dw (some (.int m)) (some (.int most)) (some (.int w)) (some (.ref lw)) (some (.ref σ.length)) (some (.ref l)) (some (.ref σ4.length)) (some (.ref σ5.length)) none none none none) (σ5 ++ [.lst []])=.ok (.int least) (σ5 ++ [.lst []] ++ [.lst [.int most,.int (most / 2 + 1:Nat)]]):=aC (bf (aa (ac rfl) (aa (ar (ar (ac rfl) aj (jL (x:=most) (y:=2) (by decide) (by decide))) aj (rfl:_=RE.ok (.int ((most / 2 + 1:Nat):Int)) _)) ae)) (ai (by exact (by decide:2 ≤ 16777216)))) (v7 A (ap (ap hs5)) rfl (k:=23) (d:=17) (q:=2) (by decide) (by decide) ev) (aN am el)
  rw [List.append_assoc] at this
  exact this
 obtain ⟨fr,τ,e⟩:=pN (n:=n) (x3:=some (.int w)) (h:=[]) (υ:=[.lst [.int most,.int (most / 2 + 1:Nat)]]) A Z hs5 hlw5 W5 hx5 ho5 hmost hl
 exact ⟨fr,_,front _ _ (ak (aF (aa (ac rfl) (aa (ac rfl) ae)) (A.fn (by decide) e5)) (by decide:5 < 23) (ak e6' (by decide:6 < 23) (ak e7 (by decide:7 < 23) (ak (bf ae (ai (by decide:0 ≤ 16777216))) (by decide:8 < 23) (ak e9 (by decide:9 < 23) e))))),ap hs5,true,ap ht5⟩
end
end Mine
namespace Mine
open PySem PyProof.Rows PySem.W
noncomputable def cA:CE:={ names:=[],fns:=[("common",0),("lowest",1),("mean",2),("led_on",3),("ring_behind",4),("slower",5),("any_ring",6),("pace",7),("is_whole",8),("come_to",9),("is_joined",10),("settled",18),("_law_stirred",19),("_law_cell_at",20),("_law_whole",21),("_law_mixed",22),("_law_slow_ways",23),("_law_times",24),("_law_ways",25),("_law_gap",26),("_law_next",27),("_law_due",29),("_law_settled_good",30)],clss:=[("Web",11)],excs:=[("BadCount",42),("NoMeeting",54),("BadDelay",66),("Apart",78),("NoRing",90),("BadPace",102)],mths:=[("need",12),("delay",13),("turned",14),("into",15),("ahead",16),("turns",17)],attrs:=[("many",0),("ways",1)],consts:=[("MOST_MEETINGS",12),("MOST_WAYS",60),("MOST_DELAY",9999)],lam:=none,hnd:=false,hfns:=[("_law_words",39)],pe:=some ("PaceError",29) }
noncomputable def cL:CE:={ cA with lam:=some 259 }
noncomputable def cH:CE:=cA.hand
noncomputable def ux:List (Str × NameKind):=match (PySem.Challenge.pw_uf060017_09.main.body[42]?:Option Stmt) with | some (.FunctionDef _ _ _ _ _ _ sc _ _ _)=>sc.names | _=>[]
noncomputable def cT:CE:={ cA with top:=some ux,tfns:=[("_law_refused",28)] }
noncomputable def tOf (k:Nat):Option Fn:=if k=28 then some eM else none
noncomputable def cOf (k:Nat):CE:=if k=25 then cL else if k=39 then cH else cA
noncomputable def wx (k:Nat):Option Addr:=([some 111,some 118,some 125,some 132,some 139,some 146,some 151,some 158,some 165,some 172,some 177,some 191,some 198,some 208,some 225,some 203,some 213,some 220,some 19,some 315,some 239,some 246,some 253,some 267,some 274,some 260,some 286,some 279,none,some 293,some 310,none,none,none,none,none,none,none,none,some 298]:List (Option Addr))[k]?.join
noncomputable def AL (k:Nat):Option Addr:=if k=39 then wx k else none
structure AH (K:Frag):Prop where
 q0:aK K cA 111=some i9
 q1:aK K cA 118=some lm
 q2:aK K cA 125=some xP
 q3:aK K cA 132=some il
 q4:aK K cA 139=some dk
 q5:aK K cA 146=some io
 q6:aK K cA 151=some jt
 q7:aK K cA 158=some xE
 q8:aK K cA 165=some cQ
 q9:aK K cA 172=some gw
 q10:aK K cA 177=some gI
 q11:aK K cA 191=some xK
 q12:aK K cA 198=some ru
 q13:aK K cA 208=some rp
 q14:aK K cA 225=some fz
 q15:aK K cA 203=some yr
 q16:aK K cA 213=some uK
 q17:aK K cA 220=some mP
 q18:aK K cA 19=some bP
 q19:aK K cA 315=some gn
 q20:aK K cA 239=some fy
 q21:aK K cA 246=some pc
 q22:aK K cA 253=some rr
 q23:aK K cA 267=some gP
 q24:aK K cA 274=some lR
 q25:aK K cL 260=some ri
 q26:aK K cA 286=some pH
 q27:aK K cA 279=some lI
 q29:aK K cA 293=some rH
 q30:aK K cA 310=some cP
 q39:aK K cH 298=some j8
 qT:my K cA 305=some eM
 qL:aK K cT 320=some gL
set_option tactic.hygienic true in
theorem joinN {prog:Program}{w:World}{K:Frag}{mg mb:Str→Option Value}{s₁:Shared}{scr:Addr}{vs:List Value}{is:List Int}
  (KX:K.In s₁.heap) (Tg:s₁.heap.Ns mainGlobals mg) (Tb:s₁.heap.Ns builtinsNs mb) (hb:∀ x:Str,x ≠ "__name__"→mb x=bootBuiltins x) (lim:s₁.heap.NoLimit)
  (hl:s₁.heap.get? scr=some { cls:=.type "list",data:=.seq vs.toArray }) (hi:IntsAre vs is) (hlen:is.length ≤ 63)
  (hT:TabsAt [(259,255)] s₁.heap) (hB:∃ bm ob,mg "__builtins__"=some (.ref bm) ∧ bm ≠ builtinsNs ∧ s₁.heap.get? bm=some ob ∧ ob.cls=.type "module" ∧ ob.dict=some builtinsNs ∧ ob.data=.plain)
  {p:Program}{loose:List Str} (TR:TopRead p loose mg mb s₁.heap)
  (hK:K.all (fun p=>!(p.2.cls == .type "list") && !(p.1 == 255))=true) (chk:pt K cA 228 [(0,"many"),(1,"ways")] wx=true) (chk':pt K cL 228 [(0,"many"),(1,"ways")] wx=true) (chkh:pt K cH 228 [(0,"many"),(1,"ways")] wx=true) (chkh':pt K cH 228 [(0,"many"),(1,"ways")] AL=true) (chkx:xl K cA=true) (chkt:pt K cT 228 [(0,"many"),(1,"ways")] wx=true) (hn:nsIn K mainGlobals "_law_refused"=some (some (.ref 305))) (hkp:keepIn K (.ref 305)=true) (Q:AH K)
  {R:Result→Shared→Prop} (hR:∀ h' tk,(∀ (b:Addr) (o:Obj),(ghostOf s₁.heap [(259,255)]).get? b=some o→h'.get? b=some o)→GrownAll [(259,255)] h'→R (.ok (.ret (.bool true))) { s₁ with heap:=h',toks:=tk }) :
  codeAny (model prog w) callerA (.call (.ref 320) ⟨[.ref scr],[]⟩) R s₁:=by
 obtain ⟨frL,σ',ev,h0,h1⟩:=tF (P:=Pof K cOf wx) (T:=tOf) (wf:=10 ^ 100) (n:=0) (sc:=is) ⟨⟨Q.q20,Q.q22⟩,⟨Q.q18,Q.q21,Q.q26,Q.q27,Q.q29,Q.q30⟩,Q.q23,Q.q24,Q.q25,Q.q39,fun k h=>if_neg h,rfl⟩ ⟨Q.q8,Q.q12,Q.q15,Q.q16,Q.q17⟩ Q.q19 ⟨⟨Q.q0,Q.q1,Q.q2,Q.q8,Q.q12,Q.q13⟩,Q.q3,Q.q4,Q.q5,Q.q6,Q.q7⟩ ⟨Q.q8,Q.q9,Q.q10,Q.q11⟩ Q.q14 (by decide)
 refine Bq (c:=cOf) (C:=228) (at':=[(0,"many"),(1,"ways")]) (fa:=wx) (n:=6) (lawI:=0) KX Tg Tb hb lim hl hi hlen hT hB hK (fun k=>?_) (by decide) (by decide) (by decide) (by decide) (fun k x h=>?_) TR (fun k=>?_) (fun k _ _=>?_) (fh:=AL) (cB:=cA) (cT:=cT) (T:=tOf) (fun k a h=>?_) chkh' chk chkx ⟨rfl,rfl⟩ rfl chkt chkx rfl (fun f k h=>?_) (fun k a h=>?_) Q.qL rfl ev h0 h1 hR
 ·unfold cOf; split
  ·exact chk'
  ·split
   ·exact chkh
   ·exact chk
 ·unfold cOf at h
  split at h
  ·exact (Option.some.inj h).symm
  ·split at h <;> cases h
 ·unfold cOf; split
  ·exact chkx
  ·split <;> exact chkx
 ·unfold cOf; split
  ·exact ⟨rfl,rfl⟩
  ·split <;> exact ⟨rfl,rfl⟩
 ·unfold AL at h
  split at h
  ·rename_i hk
   subst hk
   exact ⟨h,rfl⟩
  ·cases h
 ·cases List.mem_singleton.mp (av h)
  exact ⟨305,_,hn,hkp,rfl,Q.qT⟩
 ·unfold tOf; split
  ·rename_i hk
   subst hk
   cases h
  ·rfl
end Mine
set_option tactic.hygienic true
open PySem PySem.W PyProof.Rows
set_option Elab.async false
set_option maxHeartbeats 8000000 in
theorem PySem.Challenge.cw_uf060017_09_holds : PySem.Challenge.rw_uf060017_09.Holds := by
 w_on
 refine holds_law Mine.ws09 fun said => ?_
 refine PySem.W.holds_open (q := Mine.q09) (loose := []) (Xt := Mine.xt09) (XP := XL Mine.q09 []) (Yf := Mine.hk09.obs) (Ya := Mine.hk09.val) (YP := Mine.hk09.says) (N := 5620) Mine.left09 Mine.hk09.of Mine.hk09.keeps (fun s e => xl_of s (Bool.and_eq_true_iff.mp e).1) XL.keeps (by rfl) (by rfl) (by rfl) (fun s e => recFacts_of (Bool.and_eq_true_iff.mp e).2) (by rfl) said (by decide +kernel) ⟨rfl, rfl, rfl, rfl, rfl, by decide +kernel⟩ ?hw ?hc
 case hw => w_witness2
 intro w s₀ s₁ mg mb G Y fa o pm cd doc dV kV ho hd hcd hD hmg hg args vals as hpre hlay hrd hwl hlo
 have KX : (Mine.K09 w.params).In s₁.heap := km_in_of Y
 have hT : TabsAt [(259, 255)] s₁.heap := fun q hq => by
  cases List.mem_singleton.mp hq
  exact ⟨codeHd_of_K KX (by kernel_rfl), km_tabs_of Y 255 (.head _)⟩
 refine Ground.open G ?_
 intro T B D TE TW
 clear hd hcd hD
 wrow_args hpre hlay hrd hwl hlo
 all_goals (first | refine callC_kw (enter_call ?_) | refine enter_call ?_)
 all_goals (w_top on)
 all_goals (refine kn_post hT (fun _ _ => rfl) ?_)
 rename Well _ _ _ _ => hW
 rename Heap.IsList _ _ _ => hL
 rename IntsAre _ _ => hI
 rename ¬ _ < _ => hcond
 have hfa : fa = 320 := by
  have h1 := mg_of (n := "law") (v := .ref 320) KX T.g (by kernel_rfl)
  have h2 : mg (Str.ofString "law") = some (.ref fa) := hmg
  rw [h2] at h1; cases h1; rfl
 subst hfa
 refine Mine.joinN KX T.g T.b T.builtins T.nolimit (Mine.list_obj hW hL) hI (by omega) hT T.bmain (topRead_of T) (by kernel_rfl) (by kernel_rfl) (by kernel_rfl) (by kernel_rfl) (by kernel_rfl) (by kernel_rfl) (by kernel_rfl) (by kernel_rfl) (by kernel_rfl) ⟨by kernel_rfl, by kernel_rfl, by kernel_rfl, by kernel_rfl, by kernel_rfl, by kernel_rfl, by kernel_rfl, by kernel_rfl, by kernel_rfl, by kernel_rfl, by kernel_rfl, by kernel_rfl, by kernel_rfl, by kernel_rfl, by kernel_rfl, by kernel_rfl, by kernel_rfl, by kernel_rfl, by kernel_rfl, by kernel_rfl, by kernel_rfl, by kernel_rfl, by kernel_rfl, by kernel_rfl, by kernel_rfl, by kernel_rfl, by kernel_rfl, by kernel_rfl, by kernel_rfl, by kernel_rfl, by kernel_rfl, by kernel_rfl, by kernel_rfl⟩ fun h' tk hk hgr => ?_
 refine ⟨⟨.inl ⟨.bool true, .bool true, [], rfl, fun _ => rfl, .bool true, Mine.law_post _ _ _, fun _ => ⟨List.nodup_nil, fun a ha => nomatch ha⟩⟩, hk, rfl, hg⟩, hgr⟩
