import PyProof.Rows.All
import Wide.All
import OpenK.AllK
import Wide.FinOn
import PyProof.P3Statements
import KE.KRevIter
import KE.KDictList
import OpenK.KLine
import KE.KIsAll
import PyProof.ExcAttrAll.ValueError
import KE.KLam
import KE.KSortKey
import KE.KItem
import KE.KMinKey
import OpenK.KMore
import KE.KRevSl
import PyProof.ExcBaseAll.ValueError
import PyProof.NsDelKeeps
import PySem.Challenge.RW_uf060017_04
set_option autoImplicit false
namespace Mine
open PySem PyProof.Rows PySem.W

noncomputable def stAt (p : Program) (i : Nat) : Stmt := (p.main.body[i]?).getD (.Pass ⟨0, 0, 0, 0⟩)
set_option backward.match.sparseCases false in
noncomputable def memAt (s : Stmt) (j : Nat) : Stmt := match s with
  | .ClassDef _ _ _ b _ _ _ _ _ _ _ => (b[j]?).getD s
  | _ => s
set_option backward.match.sparseCases false in
noncomputable def fnD (s : Stmt) (name qual : Str) (gl : Addr) (cl : List (Str × Addr)) (df kd doc md : Value) (an : Option Addr) (cd ct : Value) (bl : Addr) : Data := match s with
  | .FunctionDef _ a b _ _ _ sc _ _ _ => .func ⟨name, qual, a, .stmts b, sc, gl, cl, df, kd, doc, md, an, cd, ct, bl⟩
  | _ => .plain
noncomputable def en (P : Params) (s : Str) (t : Nat) (v : Value) : DictEntry := ⟨PyData.keyHash P s, .str s t, v⟩

set_option tactic.hygienic false in
theorem hd_nn {α : Type} {a : α} {G : Prop} (h : none = some a) : G := nomatch h
noncomputable def hdRun (so : Nat → Option Value → Thread → Bool) (sT : (Code → Sem Fin) → Program → World → SharedT → Thread → Option (SharedT × Thread)) (den : Code → Sem Fin) (p : Program) (w : World) (n₀ : Nat) (ann : Option Value) (n : Nat) : SharedT → Thread → Option SharedT :=
  Nat.rec (motive := fun _ => SharedT → Thread → Option SharedT) (fun _ _ => none) (fun _ ih s t => cond (through t) (some s) (cond (so n₀ ann t) ((sT den p w s t).bind fun r => ih r.1 r.2) none)) n
theorem hdRun_of {tb : String → Option Builtin} {p : Program} {w : World} {n₀ : Nat} {ann : Option Value} (n : Nat) : ∀ (s : SharedT) (t : Thread) {s' : SharedT}, hdRun stepOk stepT (denote tb) p w n₀ ann n s t = some s' → topRun tb p w n₀ ann n s.abs t = some s'.abs :=
  Nat.rec (motive := fun n => ∀ (s : SharedT) (t : Thread) {s' : SharedT}, hdRun stepOk stepT (denote tb) p w n₀ ann n s t = some s' → topRun tb p w n₀ ann n s.abs t = some s'.abs) (fun _ _ _ h => hd_nn h) (fun n ih s t s' => by
    show cond (through t) (some s) (cond (stepOk n₀ ann t) ((stepT (denote tb) p w s t).bind fun r => hdRun stepOk stepT (denote tb) p w n₀ ann n r.1 r.2) none) = some s' → (match through t with
      | true => some s.abs
      | false => match stepOk n₀ ann t with
        | false => none
        | true => match step (denote tb) p w s.abs t with
          | .go s' t' => topRun tb p w n₀ ann n s' t'
          | .halt _ _ => none) = some s'.abs
    cases through t with
    | true => exact fun h => congrArg (Option.map SharedT.abs) h
    | false =>
      cases stepOk n₀ ann t with
      | false => exact fun h => hd_nn h
      | true =>
        cases hs : stepT (denote tb) p w s t with
        | none => exact fun h => hd_nn h
        | some r => rw [stepT_spec hs]; exact ih r.1 r.2) n
noncomputable def hdTree (l : List Obj) : Nat → BT → BT := List.rec (motive := fun _ => Nat → BT → BT) (fun _ t => t) (fun o _ ih i t => ih (i + 1) (t.ins i o)) l
noncomputable def hdBoot (w : World) (os : OsState) : SharedT := ⟨hdTree (boot_heap w.params).objs.toList 0 .nil, 11, (boot_heap w.params).life, Array.mk [], boot_drawn, boot_toks, os⟩
theorem hdBoot_abs : ∀ w : World, (fun os => (hdBoot w os).abs) = fun os => ⟨boot_heap w.params, Array.mk [], boot_drawn, boot_toks, os⟩ := fun w => by kernel_rfl
theorem hd_some {x : Option Shared} {a : Heap} {b : Array GenState} {c : Drawn} {d : Nat} : x.map (fun s => (s.heap, s.gens, s.drawn, s.toks)) = some (a, b, c, d) → ∃ os, x = some ⟨a, b, c, d, os⟩ :=
  Option.rec (motive := fun x => x.map (fun s : Shared => (s.heap, s.gens, s.drawn, s.toks)) = some (a, b, c, d) → ∃ os, x = some ⟨a, b, c, d, os⟩) (fun e => hd_nn e) (fun s e => ⟨s.os, congrArg (fun x => some (Shared.mk x.1 x.2.1 x.2.2.1 x.2.2.2 s.os)) (Option.some.inj e)⟩) x
noncomputable def hdSee (p : Program) (im : List Stmt → List Str) (h h' : Heap) (s : Shared) : Bool := staticsOk (im p.main.body) h h' && namesBound p h' && gensDone s && laidKept h h'
theorem hd_top {tb : String → Option Builtin} {p : Program} {w : World} {N n₀ : Nat} {ann : Option Value} {h : Heap} {d : Drawn} {k : Nat} {os : OsState} {s : Shared} (a : (h.isNs mainGlobals, h.objs.size, h.nsMap mainGlobals "__annotations__") = (true, n₀, ann))
    (r : topRun tb p w n₀ ann N ⟨h, Array.mk [], d, k, os⟩ (topStub p) = some s) (v : hdSee p importedModules h s.heap s = true) : topFrom tb p w N ⟨h, Array.mk [], d, k, os⟩ = some s := by
  show (match h.isNs mainGlobals && true with
      | true => (topRun tb p w h.objs.size (h.nsMap mainGlobals "__annotations__") N ⟨h, Array.mk [], d, k, os⟩ (topStub p)).bind fun s₁ => match hdSee p importedModules h s₁.heap s₁ with
          | true => some s₁
          | false => none
      | false => none) = some s
  rw [(Prod.mk.inj a).1, (Prod.mk.inj (Prod.mk.inj a).2).1, (Prod.mk.inj (Prod.mk.inj a).2).2, r]
  show (match hdSee p importedModules h s.heap s with
          | true => some s
          | false => none) = some s
  rw [v]
theorem hd_den : hdRun stepOk stepT (denote treeTable) = hdRun Fast.tw6613529449190102663 Fast.tw10156331382660048174 (Fast.tw11892475500146522536 Fast.tw14364793385576792824) := by rw [Fast.te6613529449190102663, Fast.te10156331382660048174, Fast.te11892475500146522536, Fast.te14364793385576792824]
theorem hd_seen : (fun q loose b => openSeen q loose (importedModules b)) = fun q loose b => Fast.tw4187177175401517315 q loose (Fast.tw5923862056798008813 b) := by rw [Fast.te5923862056798008813, Fast.te4187177175401517315]
theorem left_of_boot {p q : Program} {loose : List Str} {Xt : Shared → Bool} {α : Type} {Yf : Shared → α} {Ya : World → α} {N : Nat} {g0 : Bool}
    (he : opening p = plainProg p.main.scope.names) (hN : Nat.ble 600 N = true) (hf : ∀ s, fenceModules? p s = some s)
    (h : ∀ w : World, (fun os : OsState => (hdRun Fast.tw6613529449190102663 Fast.tw10156331382660048174 (Fast.tw11892475500146522536 Fast.tw14364793385576792824) p w 11 (some (.ref 6)) N (hdBoot w os) (topStub p)).map (fun s => (hdSee p Fast.tw5923862056798008813 (boot_heap w.params) s.abs.heap s.abs, Fast.tw4187177175401517315 q loose (Fast.tw5923862056798008813 p.main.body) Xt g0 s.abs, Yf s.abs))) = fun _ => some (true, openGood q loose, Ya w)) :
    LeftO p q loose Xt Yf Ya N g0 := fun w =>
  (hd_some (boot_open he hN hf w)).elim fun os e => (Option.map_eq_some_iff.mp (congrFun (h w) os)).elim fun s r =>
    (congrArg (fun x => (Option.bind x (topFrom treeTable p w N)).map _) e).trans ((congrArg (Option.map _) (hd_top (s := s.abs) (by kernel_rfl) ((congrArg (fun x => topRun treeTable p w 11 (some (.ref 6)) N x (topStub p)) (congrFun (hdBoot_abs w) os)).symm.trans (hdRun_of _ _ _ ((congrArg (fun f => f p w 11 (some (.ref 6)) N (hdBoot w os) (topStub p)) hd_den).trans r.1))) ((congrArg (fun f => hdSee p f (boot_heap w.params) s.abs.heap s.abs) Fast.te5923862056798008813).trans (congrArg Prod.fst r.2)))).trans (congrArg some ((congrArg (fun f => (f q loose p.main.body Xt g0 s.abs, Yf s.abs)) hd_seen).trans (congrArg Prod.snd r.2))))
end Mine

set_option autoImplicit false
set_option maxRecDepth 100000
namespace Mine
open PySem PyProof.Rows PySem.W

noncomputable def kOf (p : Program) (P : Params) : Frag := [
  (2, ⟨.none, none, .dict ⟨[]⟩ 0, ⟨[]⟩⟩),
  (3, ⟨.type "dict", none, .dict ⟨[en P "__name__" 165 (.str "law_uf060017_04" 423), en P "__doc__" 166 (.none), en P "__package__" 167 (.none), en P "__loader__" 168 (.builtin "__main__.__loader__#opaque"), en P "__spec__" 169 (.none), en P "__annotations__" 170 (.ref 6), en P "__builtins__" 171 (.ref 4), en P "__file__" 173 (.str "/claim/cut.py" 172), en P "__cached__" 174 (.none), en P "_wall" 193 (.ref 21), en P "PaceError" 213 (.ref 31), en P "BadCount" 229 (.ref 44), en P "NoMeeting" 245 (.ref 56), en P "BadDelay" 261 (.ref 68), en P "Apart" 277 (.ref 80), en P "NoRing" 293 (.ref 92), en P "BadPace" 309 (.ref 104), en P "MOST_MEETINGS" 313 (.int (12) 312), en P "MOST_WAYS" 315 (.int (60) 314), en P "MOST_DELAY" 317 (.int (9999) 316), en P "is_whole" 326 (.ref 113), en P "come_to" 338 (.ref 120), en P "is_joined" 344 (.ref 125), en P "Web" 422 (.ref 182), en P "_law_cell_at" 432 (.ref 193), en P "_law_mixed" 440 (.ref 200), en P "_law_delay_by" 447 (.ref 207), en P "_law_many" 455 (.ref 214), en P "_law_ways" 469 (.ref 221), en P "_law_bent" 487 (.ref 228), en P "_law_met" 499 (.ref 235), en P "_law_due" 505 (.ref 240), en P "_law_word_of" 511 (.ref 245), en P "law" 525 (.ref 252)]⟩ 34, ⟨[]⟩⟩),
  (15, ⟨.type "tuple", none, .seq ⟨[]⟩ 0, ⟨[]⟩⟩),
  (17, ⟨.type "tuple", none, .seq ⟨[.str "k" 190]⟩ 0, ⟨[]⟩⟩),
  (18, ⟨.type "tuple", none, .seq ⟨[]⟩ 0, ⟨[]⟩⟩),
  (20, ⟨.type "code", none, .fields ⟨[.str "_wall" 187, .str "_wall" 188, .str "/claim/cut.py" 189, .int (1) 0, .int (1) 0, .int (0) 0, .int (0) 0, .int (3) 0, .ref 15, .bool true, .int (181) 0, .ref 16, .none, .ref 17, .ref 18, .ref 19, .int (191) 0, .int (1) 0, .str "/claim/cut.py" 192]⟩, ⟨[]⟩⟩),
  (21, ⟨.type "function", none, fnD (stAt p 0) "_wall" "_wall" 3 [] (.none) (.none) (.none) (.str "__main__" 164) none (.ref 20) (.none) 0, ⟨[]⟩⟩),
  (22, ⟨.type "tuple", none, .seq ⟨[.type "ValueError"]⟩ 0, ⟨[]⟩⟩),
  (29, ⟨.type "tuple", none, .seq ⟨[]⟩ 0, ⟨[]⟩⟩),
  (30, ⟨.type "dict", none, .dict ⟨[en P "__module__" 203 (.str "meanpace.errors" 194), en P "__firstlineno__" 207 (.int (5) 206), en P "__static_attributes__" 208 (.ref 29), en P "__weakref__" 210 (.ref 32), en P "__doc__" 211 (.none)]⟩ 3, ⟨[]⟩⟩),
  (31, ⟨.type "type", none, .cls { name := "PaceError", bases := [.type "ValueError"], mro := [.ref 31, .type "ValueError", .type "Exception", .type "BaseException", .type "object"], ns := 30, qualname := "PaceError", hasDict := true, slotNames := [], subclasses := [.ref 44, .ref 56, .ref 68, .ref 80, .ref 92, .ref 104], abstract := false, collection := none, hasDel := false }, ⟨[(some (.ref 22)), none, (some (.str "PaceError" 196)), (some (.str "PaceError" 204)), (some (.builtin "ValueError.__new__")), (some (.bool true))]⟩⟩),
  (32, ⟨.type "getset_descriptor", none, .fields ⟨[.str "__weakref__" 209, .ref 31, .builtin "ExceptionGroup.__weakref__", .none]⟩, ⟨[]⟩⟩),
  (35, ⟨.type "tuple", none, .seq ⟨[.ref 31]⟩ 0, ⟨[]⟩⟩),
  (42, ⟨.type "tuple", none, .seq ⟨[]⟩ 0, ⟨[]⟩⟩),
  (43, ⟨.type "dict", none, .dict ⟨[en P "__module__" 221 (.str "meanpace.errors" 194), en P "__firstlineno__" 225 (.int (7) 224), en P "__static_attributes__" 226 (.ref 42), en P "__doc__" 227 (.none)]⟩ 2, ⟨[]⟩⟩),
  (44, ⟨.type "type", none, .cls { name := "BadCount", bases := [.ref 31], mro := [.ref 44, .ref 31, .type "ValueError", .type "Exception", .type "BaseException", .type "object"], ns := 43, qualname := "BadCount", hasDict := true, slotNames := [], subclasses := [], abstract := false, collection := none, hasDel := false }, ⟨[(some (.ref 35)), none, (some (.str "BadCount" 214)), (some (.str "BadCount" 222)), (some (.builtin "ValueError.__new__")), (some (.bool true))]⟩⟩),
  (47, ⟨.type "tuple", none, .seq ⟨[.ref 31]⟩ 0, ⟨[]⟩⟩),
  (54, ⟨.type "tuple", none, .seq ⟨[]⟩ 0, ⟨[]⟩⟩),
  (55, ⟨.type "dict", none, .dict ⟨[en P "__module__" 237 (.str "meanpace.errors" 194), en P "__firstlineno__" 241 (.int (9) 240), en P "__static_attributes__" 242 (.ref 54), en P "__doc__" 243 (.none)]⟩ 2, ⟨[]⟩⟩),
  (56, ⟨.type "type", none, .cls { name := "NoMeeting", bases := [.ref 31], mro := [.ref 56, .ref 31, .type "ValueError", .type "Exception", .type "BaseException", .type "object"], ns := 55, qualname := "NoMeeting", hasDict := true, slotNames := [], subclasses := [], abstract := false, collection := none, hasDel := false }, ⟨[(some (.ref 47)), none, (some (.str "NoMeeting" 230)), (some (.str "NoMeeting" 238)), (some (.builtin "ValueError.__new__")), (some (.bool true))]⟩⟩),
  (59, ⟨.type "tuple", none, .seq ⟨[.ref 31]⟩ 0, ⟨[]⟩⟩),
  (66, ⟨.type "tuple", none, .seq ⟨[]⟩ 0, ⟨[]⟩⟩),
  (67, ⟨.type "dict", none, .dict ⟨[en P "__module__" 253 (.str "meanpace.errors" 194), en P "__firstlineno__" 257 (.int (11) 256), en P "__static_attributes__" 258 (.ref 66), en P "__doc__" 259 (.none)]⟩ 2, ⟨[]⟩⟩),
  (68, ⟨.type "type", none, .cls { name := "BadDelay", bases := [.ref 31], mro := [.ref 68, .ref 31, .type "ValueError", .type "Exception", .type "BaseException", .type "object"], ns := 67, qualname := "BadDelay", hasDict := true, slotNames := [], subclasses := [], abstract := false, collection := none, hasDel := false }, ⟨[(some (.ref 59)), none, (some (.str "BadDelay" 246)), (some (.str "BadDelay" 254)), (some (.builtin "ValueError.__new__")), (some (.bool true))]⟩⟩),
  (71, ⟨.type "tuple", none, .seq ⟨[.ref 31]⟩ 0, ⟨[]⟩⟩),
  (78, ⟨.type "tuple", none, .seq ⟨[]⟩ 0, ⟨[]⟩⟩),
  (79, ⟨.type "dict", none, .dict ⟨[en P "__module__" 269 (.str "meanpace.errors" 194), en P "__firstlineno__" 273 (.int (13) 272), en P "__static_attributes__" 274 (.ref 78), en P "__doc__" 275 (.none)]⟩ 2, ⟨[]⟩⟩),
  (80, ⟨.type "type", none, .cls { name := "Apart", bases := [.ref 31], mro := [.ref 80, .ref 31, .type "ValueError", .type "Exception", .type "BaseException", .type "object"], ns := 79, qualname := "Apart", hasDict := true, slotNames := [], subclasses := [], abstract := false, collection := none, hasDel := false }, ⟨[(some (.ref 71)), none, (some (.str "Apart" 262)), (some (.str "Apart" 270)), (some (.builtin "ValueError.__new__")), (some (.bool true))]⟩⟩),
  (83, ⟨.type "tuple", none, .seq ⟨[.ref 31]⟩ 0, ⟨[]⟩⟩),
  (90, ⟨.type "tuple", none, .seq ⟨[]⟩ 0, ⟨[]⟩⟩),
  (91, ⟨.type "dict", none, .dict ⟨[en P "__module__" 285 (.str "meanpace.errors" 194), en P "__firstlineno__" 289 (.int (15) 288), en P "__static_attributes__" 290 (.ref 90), en P "__doc__" 291 (.none)]⟩ 2, ⟨[]⟩⟩),
  (92, ⟨.type "type", none, .cls { name := "NoRing", bases := [.ref 31], mro := [.ref 92, .ref 31, .type "ValueError", .type "Exception", .type "BaseException", .type "object"], ns := 91, qualname := "NoRing", hasDict := true, slotNames := [], subclasses := [], abstract := false, collection := none, hasDel := false }, ⟨[(some (.ref 83)), none, (some (.str "NoRing" 278)), (some (.str "NoRing" 286)), (some (.builtin "ValueError.__new__")), (some (.bool true))]⟩⟩),
  (95, ⟨.type "tuple", none, .seq ⟨[.ref 31]⟩ 0, ⟨[]⟩⟩),
  (102, ⟨.type "tuple", none, .seq ⟨[]⟩ 0, ⟨[]⟩⟩),
  (103, ⟨.type "dict", none, .dict ⟨[en P "__module__" 301 (.str "meanpace.errors" 194), en P "__firstlineno__" 305 (.int (17) 304), en P "__static_attributes__" 306 (.ref 102), en P "__doc__" 307 (.none)]⟩ 2, ⟨[]⟩⟩),
  (104, ⟨.type "type", none, .cls { name := "BadPace", bases := [.ref 31], mro := [.ref 104, .ref 31, .type "ValueError", .type "Exception", .type "BaseException", .type "object"], ns := 103, qualname := "BadPace", hasDict := true, slotNames := [], subclasses := [], abstract := false, collection := none, hasDel := false }, ⟨[(some (.ref 95)), none, (some (.str "BadPace" 294)), (some (.str "BadPace" 302)), (some (.builtin "ValueError.__new__")), (some (.bool true))]⟩⟩),
  (107, ⟨.type "tuple", none, .seq ⟨[]⟩ 0, ⟨[]⟩⟩),
  (109, ⟨.type "tuple", none, .seq ⟨[.str "thing" 321, .str "low" 322, .str "high" 323]⟩ 0, ⟨[]⟩⟩),
  (110, ⟨.type "tuple", none, .seq ⟨[]⟩ 0, ⟨[]⟩⟩),
  (112, ⟨.type "code", none, .fields ⟨[.str "is_whole" 318, .str "is_whole" 319, .str "/claim/cut.py" 320, .int (23) 0, .int (3) 0, .int (0) 0, .int (0) 0, .int (3) 0, .ref 107, .bool true, .int (181) 0, .ref 108, .none, .ref 109, .ref 110, .ref 111, .int (324) 0, .int (23) 0, .str "/claim/cut.py" 325]⟩, ⟨[]⟩⟩),
  (113, ⟨.type "function", none, fnD (stAt p 13) "is_whole" "is_whole" 3 [] (.none) (.none) (.none) (.str "meanpace.webs" 310) none (.ref 112) (.none) 0, ⟨[]⟩⟩),
  (114, ⟨.type "tuple", none, .seq ⟨[]⟩ 0, ⟨[]⟩⟩),
  (116, ⟨.type "tuple", none, .seq ⟨[.str "many" 330, .str "ways" 331, .str "found" 332, .str "waiting" 333, .str "here" 334, .str "way" 335]⟩ 0, ⟨[]⟩⟩),
  (117, ⟨.type "tuple", none, .seq ⟨[]⟩ 0, ⟨[]⟩⟩),
  (119, ⟨.type "code", none, .fields ⟨[.str "come_to" 327, .str "come_to" 328, .str "/claim/cut.py" 329, .int (25) 0, .int (2) 0, .int (0) 0, .int (0) 0, .int (3) 0, .ref 114, .bool true, .int (181) 0, .ref 115, .none, .ref 116, .ref 117, .ref 118, .int (336) 0, .int (25) 0, .str "/claim/cut.py" 337]⟩, ⟨[]⟩⟩),
  (120, ⟨.type "function", none, fnD (stAt p 14) "come_to" "come_to" 3 [] (.none) (.none) (.none) (.str "meanpace.webs" 310) none (.ref 119) (.none) 0, ⟨[]⟩⟩),
  (121, ⟨.type "tuple", none, .seq ⟨[]⟩ 0, ⟨[]⟩⟩),
  (124, ⟨.type "code", none, .fields ⟨[.str "is_joined" 339, .str "is_joined" 340, .str "/claim/cut.py" 341, .int (35) 0, .int (2) 0, .int (0) 0, .int (0) 0, .int (3) 0, .ref 121, .bool true, .int (181) 0, .ref 122, .none, .none, .none, .ref 123, .int (342) 0, .int (35) 0, .str "/claim/cut.py" 343]⟩, ⟨[]⟩⟩),
  (125, ⟨.type "function", none, fnD (stAt p 15) "is_joined" "is_joined" 3 [] (.none) (.none) (.none) (.str "meanpace.webs" 310) none (.ref 124) (.none) 0, ⟨[]⟩⟩),
  (133, ⟨.type "tuple", none, .seq ⟨[]⟩ 0, ⟨[]⟩⟩),
  (135, ⟨.type "tuple", none, .seq ⟨[.str "self" 360, .str "many" 361, .str "ways" 362, .str "way" 363]⟩ 0, ⟨[]⟩⟩),
  (136, ⟨.type "tuple", none, .seq ⟨[]⟩ 0, ⟨[]⟩⟩),
  (138, ⟨.type "code", none, .fields ⟨[.str "__init__" 357, .str "Web.__init__" 358, .str "/claim/cut.py" 359, .int (42) 0, .int (3) 0, .int (0) 0, .int (0) 0, .int (3) 0, .ref 133, .bool true, .int (181) 0, .ref 134, .none, .ref 135, .ref 136, .ref 137, .int (364) 0, .int (42) 0, .str "/claim/cut.py" 365]⟩, ⟨[]⟩⟩),
  (139, ⟨.type "function", none, fnD (memAt (stAt p 16) 0) "__init__" "Web.__init__" 3 [] (.none) (.none) (.none) (.str "meanpace.webs" 310) none (.ref 138) (.none) 0, ⟨[]⟩⟩),
  (140, ⟨.type "tuple", none, .seq ⟨[]⟩ 0, ⟨[]⟩⟩),
  (142, ⟨.type "tuple", none, .seq ⟨[.str "self" 370, .str "meeting" 371]⟩ 0, ⟨[]⟩⟩),
  (143, ⟨.type "tuple", none, .seq ⟨[]⟩ 0, ⟨[]⟩⟩),
  (145, ⟨.type "code", none, .fields ⟨[.str "need" 367, .str "Web.need" 368, .str "/claim/cut.py" 369, .int (58) 0, .int (2) 0, .int (0) 0, .int (0) 0, .int (3) 0, .ref 140, .bool true, .int (181) 0, .ref 141, .none, .ref 142, .ref 143, .ref 144, .int (372) 0, .int (58) 0, .str "/claim/cut.py" 373]⟩, ⟨[]⟩⟩),
  (146, ⟨.type "function", none, fnD (memAt (stAt p 16) 1) "need" "Web.need" 3 [] (.none) (.none) (.none) (.str "meanpace.webs" 310) none (.ref 145) (.none) 0, ⟨[]⟩⟩),
  (147, ⟨.type "tuple", none, .seq ⟨[]⟩ 0, ⟨[]⟩⟩),
  (149, ⟨.type "tuple", none, .seq ⟨[.str "self" 378, .str "meeting" 379]⟩ 0, ⟨[]⟩⟩),
  (150, ⟨.type "tuple", none, .seq ⟨[]⟩ 0, ⟨[]⟩⟩),
  (152, ⟨.type "code", none, .fields ⟨[.str "into" 375, .str "Web.into" 376, .str "/claim/cut.py" 377, .int (62) 0, .int (2) 0, .int (0) 0, .int (0) 0, .int (3) 0, .ref 147, .bool true, .int (181) 0, .ref 148, .none, .ref 149, .ref 150, .ref 151, .int (380) 0, .int (62) 0, .str "/claim/cut.py" 381]⟩, ⟨[]⟩⟩),
  (153, ⟨.type "function", none, fnD (memAt (stAt p 16) 2) "into" "Web.into" 3 [] (.none) (.none) (.none) (.str "meanpace.webs" 310) none (.ref 152) (.none) 0, ⟨[]⟩⟩),
  (154, ⟨.type "tuple", none, .seq ⟨[]⟩ 0, ⟨[]⟩⟩),
  (157, ⟨.type "code", none, .fields ⟨[.str "delay" 383, .str "Web.delay" 384, .str "/claim/cut.py" 385, .int (65) 0, .int (3) 0, .int (0) 0, .int (0) 0, .int (3) 0, .ref 154, .bool true, .int (181) 0, .ref 155, .none, .none, .none, .ref 156, .int (386) 0, .int (65) 0, .str "/claim/cut.py" 387]⟩, ⟨[]⟩⟩),
  (158, ⟨.type "function", none, fnD (memAt (stAt p 16) 3) "delay" "Web.delay" 3 [] (.none) (.none) (.none) (.str "meanpace.webs" 310) none (.ref 157) (.none) 0, ⟨[]⟩⟩),
  (159, ⟨.type "tuple", none, .seq ⟨[]⟩ 0, ⟨[]⟩⟩),
  (161, ⟨.type "tuple", none, .seq ⟨[.str "self" 392, .str "times" 393]⟩ 0, ⟨[]⟩⟩),
  (162, ⟨.type "tuple", none, .seq ⟨[]⟩ 0, ⟨[]⟩⟩),
  (164, ⟨.type "code", none, .fields ⟨[.str "ahead" 389, .str "Web.ahead" 390, .str "/claim/cut.py" 391, .int (70) 0, .int (2) 0, .int (0) 0, .int (0) 0, .int (3) 0, .ref 159, .bool true, .int (181) 0, .ref 160, .none, .ref 161, .ref 162, .ref 163, .int (394) 0, .int (70) 0, .str "/claim/cut.py" 395]⟩, ⟨[]⟩⟩),
  (165, ⟨.type "function", none, fnD (memAt (stAt p 16) 4) "ahead" "Web.ahead" 3 [] (.none) (.none) (.none) (.str "meanpace.webs" 310) none (.ref 164) (.none) 0, ⟨[]⟩⟩),
  (166, ⟨.type "tuple", none, .seq ⟨[]⟩ 0, ⟨[]⟩⟩),
  (168, ⟨.type "tuple", none, .seq ⟨[.str "self" 400, .str "times" 401, .str "count" 402]⟩ 0, ⟨[]⟩⟩),
  (169, ⟨.type "tuple", none, .seq ⟨[]⟩ 0, ⟨[]⟩⟩),
  (171, ⟨.type "code", none, .fields ⟨[.str "turns" 397, .str "Web.turns" 398, .str "/claim/cut.py" 399, .int (73) 0, .int (3) 0, .int (0) 0, .int (0) 0, .int (3) 0, .ref 166, .bool true, .int (181) 0, .ref 167, .none, .ref 168, .ref 169, .ref 170, .int (403) 0, .int (73) 0, .str "/claim/cut.py" 404]⟩, ⟨[]⟩⟩),
  (172, ⟨.type "function", none, fnD (memAt (stAt p 16) 5) "turns" "Web.turns" 3 [] (.none) (.none) (.none) (.str "meanpace.webs" 310) none (.ref 171) (.none) 0, ⟨[]⟩⟩),
  (173, ⟨.type "tuple", none, .seq ⟨[]⟩ 0, ⟨[]⟩⟩),
  (175, ⟨.type "tuple", none, .seq ⟨[.str "self" 409]⟩ 0, ⟨[]⟩⟩),
  (176, ⟨.type "tuple", none, .seq ⟨[]⟩ 0, ⟨[]⟩⟩),
  (178, ⟨.type "code", none, .fields ⟨[.str "turned" 406, .str "Web.turned" 407, .str "/claim/cut.py" 408, .int (76) 0, .int (1) 0, .int (0) 0, .int (0) 0, .int (3) 0, .ref 173, .bool true, .int (181) 0, .ref 174, .none, .ref 175, .ref 176, .ref 177, .int (410) 0, .int (76) 0, .str "/claim/cut.py" 411]⟩, ⟨[]⟩⟩),
  (179, ⟨.type "function", none, fnD (memAt (stAt p 16) 6) "turned" "Web.turned" 3 [] (.none) (.none) (.none) (.str "meanpace.webs" 310) none (.ref 178) (.none) 0, ⟨[]⟩⟩),
  (180, ⟨.type "tuple", none, .seq ⟨[.str "many" 413, .str "ways" 414]⟩ 0, ⟨[]⟩⟩),
  (181, ⟨.type "dict", none, .dict ⟨[en P "__module__" 352 (.str "meanpace.webs" 310), en P "__firstlineno__" 356 (.int (40) 355), en P "__init__" 366 (.ref 139), en P "need" 374 (.ref 146), en P "into" 382 (.ref 153), en P "delay" 388 (.ref 158), en P "ahead" 396 (.ref 165), en P "turns" 405 (.ref 172), en P "turned" 412 (.ref 179), en P "__static_attributes__" 415 (.ref 180), en P "__dict__" 417 (.ref 183), en P "__weakref__" 419 (.ref 184), en P "__doc__" 420 (.none)]⟩ 4, ⟨[]⟩⟩),
  (182, ⟨.type "type", none, .cls { name := "Web", bases := [.type "object"], mro := [.ref 182, .type "object"], ns := 181, qualname := "Web", hasDict := true, slotNames := [], subclasses := [], abstract := false, collection := none, hasDel := false }, ⟨[none, none, (some (.str "Web" 345)), (some (.str "Web" 353)), (some (.builtin "object.__new__")), (some (.bool true))]⟩⟩),
  (183, ⟨.type "getset_descriptor", none, .fields ⟨[.str "__dict__" 416, .ref 182, .builtin "function.__dict__", .builtin "function.__dict__#set"]⟩, ⟨[]⟩⟩),
  (184, ⟨.type "getset_descriptor", none, .fields ⟨[.str "__weakref__" 418, .ref 182, .builtin "ExceptionGroup.__weakref__", .none]⟩, ⟨[]⟩⟩),
  (187, ⟨.type "tuple", none, .seq ⟨[]⟩ 0, ⟨[]⟩⟩),
  (189, ⟨.type "tuple", none, .seq ⟨[.str "_law_script" 428, .str "_law_k" 429]⟩ 0, ⟨[]⟩⟩),
  (190, ⟨.type "tuple", none, .seq ⟨[]⟩ 0, ⟨[]⟩⟩),
  (192, ⟨.type "code", none, .fields ⟨[.str "_law_cell_at" 425, .str "_law_cell_at" 426, .str "/claim/cut.py" 427, .int (79) 0, .int (2) 0, .int (0) 0, .int (0) 0, .int (3) 0, .ref 187, .bool true, .int (181) 0, .ref 188, .none, .ref 189, .ref 190, .ref 191, .int (430) 0, .int (79) 0, .str "/claim/cut.py" 431]⟩, ⟨[]⟩⟩),
  (193, ⟨.type "function", none, fnD (stAt p 18) "_law_cell_at" "_law_cell_at" 3 [] (.none) (.none) (.none) (.str "law_uf060017_04" 423) none (.ref 192) (.none) 0, ⟨[]⟩⟩),
  (194, ⟨.type "tuple", none, .seq ⟨[]⟩ 0, ⟨[]⟩⟩),
  (196, ⟨.type "tuple", none, .seq ⟨[.str "_law_cell" 436, .str "_law_k" 437]⟩ 0, ⟨[]⟩⟩),
  (197, ⟨.type "tuple", none, .seq ⟨[]⟩ 0, ⟨[]⟩⟩),
  (199, ⟨.type "code", none, .fields ⟨[.str "_law_mixed" 433, .str "_law_mixed" 434, .str "/claim/cut.py" 435, .int (83) 0, .int (2) 0, .int (0) 0, .int (0) 0, .int (3) 0, .ref 194, .bool true, .int (181) 0, .ref 195, .none, .ref 196, .ref 197, .ref 198, .int (438) 0, .int (83) 0, .str "/claim/cut.py" 439]⟩, ⟨[]⟩⟩),
  (200, ⟨.type "function", none, fnD (stAt p 19) "_law_mixed" "_law_mixed" 3 [] (.none) (.none) (.none) (.str "law_uf060017_04" 423) none (.ref 199) (.none) 0, ⟨[]⟩⟩),
  (201, ⟨.type "tuple", none, .seq ⟨[]⟩ 0, ⟨[]⟩⟩),
  (203, ⟨.type "tuple", none, .seq ⟨[.str "_law_number" 444]⟩ 0, ⟨[]⟩⟩),
  (204, ⟨.type "tuple", none, .seq ⟨[]⟩ 0, ⟨[]⟩⟩),
  (206, ⟨.type "code", none, .fields ⟨[.str "_law_delay_by" 441, .str "_law_delay_by" 442, .str "/claim/cut.py" 443, .int (85) 0, .int (1) 0, .int (0) 0, .int (0) 0, .int (3) 0, .ref 201, .bool true, .int (181) 0, .ref 202, .none, .ref 203, .ref 204, .ref 205, .int (445) 0, .int (85) 0, .str "/claim/cut.py" 446]⟩, ⟨[]⟩⟩),
  (207, ⟨.type "function", none, fnD (stAt p 20) "_law_delay_by" "_law_delay_by" 3 [] (.none) (.none) (.none) (.str "law_uf060017_04" 423) none (.ref 206) (.none) 0, ⟨[]⟩⟩),
  (208, ⟨.type "tuple", none, .seq ⟨[]⟩ 0, ⟨[]⟩⟩),
  (210, ⟨.type "tuple", none, .seq ⟨[.str "_law_script" 451, .str "_law_cell" 452]⟩ 0, ⟨[]⟩⟩),
  (211, ⟨.type "tuple", none, .seq ⟨[]⟩ 0, ⟨[]⟩⟩),
  (213, ⟨.type "code", none, .fields ⟨[.str "_law_many" 448, .str "_law_many" 449, .str "/claim/cut.py" 450, .int (87) 0, .int (1) 0, .int (0) 0, .int (0) 0, .int (3) 0, .ref 208, .bool true, .int (181) 0, .ref 209, .none, .ref 210, .ref 211, .ref 212, .int (453) 0, .int (87) 0, .str "/claim/cut.py" 454]⟩, ⟨[]⟩⟩),
  (214, ⟨.type "function", none, fnD (stAt p 21) "_law_many" "_law_many" 3 [] (.none) (.none) (.none) (.str "law_uf060017_04" 423) none (.ref 213) (.none) 0, ⟨[]⟩⟩),
  (215, ⟨.type "tuple", none, .seq ⟨[]⟩ 0, ⟨[]⟩⟩),
  (217, ⟨.type "tuple", none, .seq ⟨[.str "_law_script" 459, .str "_law_many_here" 460, .str "_law_order" 461, .str "_law_ways_here" 462, .str "_law_k" 463, .str "_law_number" 464, .str "_law_turn" 465]⟩ 0, ⟨[]⟩⟩),
  (218, ⟨.type "tuple", none, .seq ⟨[.str "_law_cell" 466]⟩ 0, ⟨[]⟩⟩),
  (220, ⟨.type "code", none, .fields ⟨[.str "_law_ways" 456, .str "_law_ways" 457, .str "/claim/cut.py" 458, .int (92) 0, .int (2) 0, .int (0) 0, .int (0) 0, .int (3) 0, .ref 215, .bool true, .int (181) 0, .ref 216, .none, .ref 217, .ref 218, .ref 219, .int (467) 0, .int (92) 0, .str "/claim/cut.py" 468]⟩, ⟨[]⟩⟩),
  (221, ⟨.type "function", none, fnD (stAt p 22) "_law_ways" "_law_ways" 3 [] (.none) (.none) (.none) (.str "law_uf060017_04" 423) none (.ref 220) (.none) 0, ⟨[]⟩⟩),
  (222, ⟨.type "tuple", none, .seq ⟨[]⟩ 0, ⟨[]⟩⟩),
  (224, ⟨.type "tuple", none, .seq ⟨[.str "_law_script" 473, .str "_law_ways_here" 474, .str "_law_many_here" 475, .str "_law_made" 476, .str "_law_far" 477, .str "_law_k" 478, .str "_law_at" 479, .str "_law_one" 480, .str "_law_other" 481, .str "_law_delay" 482, .str "_law_number" 483, .str "_law_size" 484]⟩ 0, ⟨[]⟩⟩),
  (225, ⟨.type "tuple", none, .seq ⟨[]⟩ 0, ⟨[]⟩⟩),
  (227, ⟨.type "code", none, .fields ⟨[.str "_law_bent" 470, .str "_law_bent" 471, .str "/claim/cut.py" 472, .int (108) 0, .int (3) 0, .int (0) 0, .int (0) 0, .int (3) 0, .ref 222, .bool true, .int (181) 0, .ref 223, .none, .ref 224, .ref 225, .ref 226, .int (485) 0, .int (108) 0, .str "/claim/cut.py" 486]⟩, ⟨[]⟩⟩),
  (228, ⟨.type "function", none, fnD (stAt p 23) "_law_bent" "_law_bent" 3 [] (.none) (.none) (.none) (.str "law_uf060017_04" 423) none (.ref 227) (.none) 0, ⟨[]⟩⟩),
  (229, ⟨.type "tuple", none, .seq ⟨[]⟩ 0, ⟨[]⟩⟩),
  (231, ⟨.type "tuple", none, .seq ⟨[.str "_law_many_here" 491, .str "_law_pairs" 492, .str "_law_met_here" 493, .str "_law_turn" 494, .str "_law_one" 495, .str "_law_other" 496]⟩ 0, ⟨[]⟩⟩),
  (232, ⟨.type "tuple", none, .seq ⟨[]⟩ 0, ⟨[]⟩⟩),
  (234, ⟨.type "code", none, .fields ⟨[.str "_law_met" 488, .str "_law_met" 489, .str "/claim/cut.py" 490, .int (131) 0, .int (2) 0, .int (0) 0, .int (0) 0, .int (3) 0, .ref 229, .bool true, .int (181) 0, .ref 230, .none, .ref 231, .ref 232, .ref 233, .int (497) 0, .int (131) 0, .str "/claim/cut.py" 498]⟩, ⟨[]⟩⟩),
  (235, ⟨.type "function", none, fnD (stAt p 24) "_law_met" "_law_met" 3 [] (.none) (.none) (.none) (.str "law_uf060017_04" 423) none (.ref 234) (.none) 0, ⟨[]⟩⟩),
  (236, ⟨.type "tuple", none, .seq ⟨[]⟩ 0, ⟨[]⟩⟩),
  (239, ⟨.type "code", none, .fields ⟨[.str "_law_due" 500, .str "_law_due" 501, .str "/claim/cut.py" 502, .int (138) 0, .int (2) 0, .int (0) 0, .int (0) 0, .int (3) 0, .ref 236, .bool true, .int (181) 0, .ref 237, .none, .none, .none, .ref 238, .int (503) 0, .int (138) 0, .str "/claim/cut.py" 504]⟩, ⟨[]⟩⟩),
  (240, ⟨.type "function", none, fnD (stAt p 25) "_law_due" "_law_due" 3 [] (.none) (.none) (.none) (.str "law_uf060017_04" 423) none (.ref 239) (.none) 0, ⟨[]⟩⟩),
  (241, ⟨.type "tuple", none, .seq ⟨[]⟩ 0, ⟨[]⟩⟩),
  (244, ⟨.type "code", none, .fields ⟨[.str "_law_word_of" 506, .str "_law_word_of" 507, .str "/claim/cut.py" 508, .int (150) 0, .int (1) 0, .int (0) 0, .int (0) 0, .int (3) 0, .ref 241, .bool true, .int (181) 0, .ref 242, .none, .none, .none, .ref 243, .int (509) 0, .int (150) 0, .str "/claim/cut.py" 510]⟩, ⟨[]⟩⟩),
  (245, ⟨.type "function", none, fnD (stAt p 26) "_law_word_of" "_law_word_of" 3 [] (.none) (.none) (.none) (.str "law_uf060017_04" 423) none (.ref 244) (.none) 0, ⟨[]⟩⟩),
  (246, ⟨.type "tuple", none, .seq ⟨[]⟩ 0, ⟨[]⟩⟩),
  (248, ⟨.type "tuple", none, .seq ⟨[.str "_law_script" 515, .str "_law_many_here" 516, .str "_law_ways_here" 517, .str "_law_handed" 518, .str "_law_found" 519, .str "_law_web" 520, .str "e" 521, .str "_law_due_here" 522]⟩ 0, ⟨[]⟩⟩),
  (249, ⟨.type "tuple", none, .seq ⟨[]⟩ 0, ⟨[]⟩⟩),
  (251, ⟨.type "code", none, .fields ⟨[.str "law" 512, .str "law" 513, .str "/claim/cut.py" 514, .int (157) 0, .int (1) 0, .int (0) 0, .int (0) 0, .int (3) 0, .ref 246, .bool true, .int (181) 0, .ref 247, .none, .ref 248, .ref 249, .ref 250, .int (523) 0, .int (157) 0, .str "/claim/cut.py" 524]⟩, ⟨[]⟩⟩),
  (252, ⟨.type "function", none, fnD (stAt p 27) "law" "law" 3 [] (.none) (.none) (.none) (.str "law_uf060017_04" 423) none (.ref 251) (.none) 0, ⟨[]⟩⟩)]
noncomputable def K04 (P : Params) : Frag := kOf PySem.Challenge.pw_uf060017_04 P
noncomputable def q04 : Program := view PySem.Challenge.pw_uf060017_04 [0, 2, 3, 4, 5, 6, 7, 8, 10, 11, 12, 13, 14, 15, 16, 18, 19, 20, 21, 22, 23, 24, 25, 26, 27]
set_option tactic.hygienic false in
theorem ka04 : ∀ P, [2, 3, 15, 17, 18, 20, 21, 22, 29, 30, 31, 32, 35, 42, 43, 44, 47, 54, 55, 56, 59, 66, 67, 68, 71, 78, 79, 80, 83, 90, 91, 92, 95, 102, 103, 104, 107, 109, 110, 112, 113, 114, 116, 117, 119, 120, 121, 124, 125, 133, 135, 136, 138, 139, 140, 142, 143, 145, 146, 147, 149, 150, 152, 153, 154, 157, 158, 159, 161, 162, 164, 165, 166, 168, 169, 171, 172, 173, 175, 176, 178, 179, 180, 181, 182, 183, 184, 187, 189, 190, 192, 193, 194, 196, 197, 199, 200, 201, 203, 204, 206, 207, 208, 210, 211, 213, 214, 215, 217, 218, 220, 221, 222, 224, 225, 227, 228, 229, 231, 232, 234, 235, 236, 239, 240, 241, 244, 245, 246, 248, 249, 251, 252] = (K04 P).map (·.1) := fun _ => by kernel_rfl
noncomputable def hk04 : Hook := kmHook K04 [2, 3, 15, 17, 18, 20, 21, 22, 29, 30, 31, 32, 35, 42, 43, 44, 47, 54, 55, 56, 59, 66, 67, 68, 71, 78, 79, 80, 83, 90, 91, 92, 95, 102, 103, 104, 107, 109, 110, 112, 113, 114, 116, 117, 119, 120, 121, 124, 125, 133, 135, 136, 138, 139, 140, 142, 143, 145, 146, 147, 149, 150, 152, 153, 154, 157, 158, 159, 161, 162, 164, 165, 166, 168, 169, 171, 172, 173, 175, 176, 178, 179, 180, 181, 182, 183, 184, 187, 189, 190, 192, 193, 194, 196, 197, 199, 200, 201, 203, 204, 206, 207, 208, 210, 211, 213, 214, 215, 217, 218, 220, 221, 222, 224, 225, 227, 228, 229, 231, 232, 234, 235, 236, 239, 240, 241, 244, 245, 246, 248, 249, 251, 252] ka04 [216]
noncomputable def xt04 (s : Shared) : Bool := xlAt q04 [] s && recOk (RowW.records PySem.Challenge.rw_uf060017_04.row.toRowW) s
set_option tactic.hygienic false in
theorem ws04 : PySem.Challenge.rw_uf060017_04.wellSaid = true := by
 rewrite [Fast.te9446332074065402090]
 kernel_rfl
set_option tactic.hygienic false in
theorem op04 : opening PySem.Challenge.pw_uf060017_04 = plainProg PySem.Challenge.pw_uf060017_04.main.scope.names := by kernel_rfl
set_option tactic.hygienic false in
theorem fe04 : ∀ s, fenceModules? PySem.Challenge.pw_uf060017_04 s = some s := fun _ => by kernel_rfl
set_option tactic.hygienic false in
theorem run04 : ∀ w : World, (fun os : OsState => (hdRun Fast.tw6613529449190102663 Fast.tw10156331382660048174 (Fast.tw11892475500146522536 Fast.tw14364793385576792824) PySem.Challenge.pw_uf060017_04 w 11 (some (.ref 6)) 4862 (hdBoot w os) (topStub PySem.Challenge.pw_uf060017_04)).map (fun s => (hdSee PySem.Challenge.pw_uf060017_04 Fast.tw5923862056798008813 (boot_heap w.params) s.abs.heap s.abs, Fast.tw4187177175401517315 q04 [] (Fast.tw5923862056798008813 PySem.Challenge.pw_uf060017_04.main.body) xt04 true s.abs, hk04.obs s.abs))) = fun _ => some (true, openGood q04 [], hk04.val w) := fun w => by kernel_rfl
set_option tactic.hygienic false in
theorem left04 : LeftO PySem.Challenge.pw_uf060017_04 q04 [] xt04 hk04.obs hk04.val 4862 := left_of_boot op04 (by decide) fe04 run04

end Mine

set_option autoImplicit false
set_option genSizeOf false
set_option genInjectivity false
set_option bootstrap.genMatcherCode false
namespace Mine
open PySem

inductive V where
  | none | bool (b : Bool) | int (i : Int) | str (s : Str) | tup (vs : List V) | ref (l : Nat) | rng (lo hi : Int) | exc (c : Nat)

inductive AO where
  | lst (vs : List V)
  | dI (es : List (Int × V))
  | inst (d : Nat)
  | att (es : List (Nat × V))
  | frz (vs : List V)
  | tab (used : Bool)

noncomputable abbrev Fra := List (Option V)
noncomputable abbrev Sto := List AO

inductive RE where
  | ok (v : V) (σ : Sto) | ex (x : Nat) (σ : Sto) | bad
inductive REs where
  | ok (vs : List V) (σ : Sto) | ex (x : Nat) (σ : Sto) | bad
inductive Fl where
  | next | brk | cont | ret (v : V)
inductive RS where
  | ok (f : Fl) (fr : Fra) (σ : Sto) | ex (x : Nat) (fr : Fra) (σ : Sto) | bad

noncomputable def RE.bind (r : RE) (k : V → Sto → RE) : RE := match r with | .ok v σ => k v σ | _ => .bad
noncomputable def RE.binds (r : RE) (k : V → Sto → REs) : REs := match r with | .ok v σ => k v σ | _ => .bad
noncomputable def REs.bind (r : REs) (k : List V → Sto → RE) : RE := match r with | .ok v σ => k v σ | _ => .bad
noncomputable def REs.binds (r : REs) (k : List V → Sto → REs) : REs := match r with | .ok v σ => k v σ | _ => .bad
noncomputable def RE.bindS (r : RE) (fr : Fra) (k : V → Sto → RS) : RS := match r with | .ok v σ => k v σ | _ => .bad
noncomputable def RE.bindX (r : RE) (b : Bool) (fr : Fra) (k : V → Sto → RS) : RS := match r with | .ok v σ => k v σ | .ex x σ => (match b with | true => .ex x fr σ | false => .bad) | .bad => .bad
set_option tactic.hygienic false in
theorem RE.bind_ok (v : V) (σ : Sto) (k) : (RE.ok v σ).bind k = k v σ := rfl
set_option tactic.hygienic false in
theorem RE.binds_ok (v : V) (σ : Sto) (k) : (RE.ok v σ).binds k = k v σ := rfl
set_option tactic.hygienic false in
theorem REs.bind_ok (v : List V) (σ : Sto) (k) : (REs.ok v σ).bind k = k v σ := rfl
set_option tactic.hygienic false in
theorem REs.binds_ok (v : List V) (σ : Sto) (k) : (REs.ok v σ).binds k = k v σ := rfl
set_option tactic.hygienic false in
theorem RE.bindS_ok (v : V) (σ : Sto) (fr) (k) : (RE.ok v σ).bindS fr k = k v σ := rfl
set_option tactic.hygienic false in
theorem RE.bindX_ok (v : V) (σ : Sto) (b : Bool) (fr : Fra) (k) : (RE.ok v σ).bindX b fr k = k v σ := rfl

inductive BN where
  | len | max | min | list | tuple | all | int | range | setLen | revl
inductive MN where
  | append | pop | clear | extend | index
inductive Ty where
  | int | bool | tuple | list | inst | exc (c : Nat) (ds : List Nat) | val (ds : List Nat)

inductive KX where
  | num (i : Int) | par | var (i : Nat) | add (a b : KX) | mul (a b : KX) | mod (a b : KX)

set_option genCtorIdx false in
inductive E where
  | none | bool (b : Bool) | int (i : Int) | str (s : Str)
  | loc (i : Nat)
  | pow (a n : Nat)
  | neg (a : E) | not (a : E)
  | and (a b : E) | or (a b : E)
  | bin (op : Operator) (a b : E)
  | cmp (op : CmpOp) (a b : E)
  | cmp2 (o1 o2 : CmpOp) (a b c : E)
  | sub (a i : E)
  | slo (a lo : E) | shi (a hi : E) | sst (a st : E)
  | attr (a : E) (x : Nat)
  | list (es : List E) | tup (es : List E)
  | dict0 | dict1 (k v : E)
  | call (f : Nat) (as : List E)
  | mk (f : Nat) (as : List E)
  | meth (a : E) (x : MN) (as : List E)
  | umeth (a : E) (f : Nat) (as : List E)
  | blt (b : BN) (as : List E)
  | maxd (a : E)
  | isi (a : E) (t : Ty)
  | join (s : Str) (a : E)
  | srt (a : E) (key : KX)
  | comp (tg : List Nat) (one : Bool) (it : E) (conds : List E) (elt : E) (frm : List (Option Nat))

noncomputable def isCallE : E → Bool
  | .call _ _ => true | .mk _ _ => true | .umeth _ _ _ => true
  | _ => false

inductive It where
  | e (a : E) | enum (a : E) | zip (a b : E)

set_option genCtorIdx false in
inductive S where
  | expr (a : E)
  | ret (a : E)
  | asg (i : Nat) (a : E)
  | asgT (is : List Nat) (a : E)
  | asgA (o : E) (x : Nat) (a : E)
  | asgI (o i a : E)
  | ifS (t : E) (b o : List S)
  | whileS (t : E) (b : List S)
  | forS (tg : List Nat) (one : Bool) (it : It) (b : List S)
  | raise (c : Nat)
  | tryS (b : List S) (ds : List Nat) (i : Nat) (h : List S)
  | pass

noncomputable def getL (σ : Sto) (l : Nat) : Option (List V) := match σ[l]? with | some (.lst xs) => some xs | _ => none
noncomputable def newL (xs : List V) (σ : Sto) : RE := if xs.length ≤ 16777216 then .ok (.ref σ.length) (σ ++ [.lst xs]) else .bad
noncomputable def ofOpt (σ : Sto) (o : Option V) : RE := match o with | some v => .ok v σ | none => .bad
noncomputable def ofOptB (σ : Sto) (o : Option Bool) : RE := match o with | some v => .ok (.bool v) σ | none => .bad

noncomputable abbrev mulOk (a b : Int) : Prop := a.natAbs < 2 ^ 64 ∨ b.natAbs < 2 ^ 64 ∨ (a.natAbs < 10 ^ 100 ∧ b.natAbs < 10 ^ 100)

noncomputable def wII (a b : V) (f : Int → Int → RE) : RE := match a with
  | .int x => (match b with | .int y => f x y | _ => .bad)
  | _ => .bad
noncomputable def addV (a b : V) (σ : Sto) : RE := match a with
  | .int x => (match b with | .int y => .ok (.int (x + y)) σ | _ => .bad)
  | .ref l => (match b with
    | .ref k => (match getL σ l with
      | some xs => (match getL σ k with | some ys => newL (xs ++ ys) σ | none => .bad)
      | none => .bad)
    | _ => .bad)
  | .str x => (match b with | .str y => if x.length + y.length ≤ 1000 then .ok (.str (x ++ y)) σ else .bad | _ => .bad)
  | _ => .bad
noncomputable def repN (o : Option (List V)) (n : Int) (σ : Sto) : RE := match o with
  | some [x] => if -1000000 ≤ n then newL (List.replicate n.toNat x) σ else .bad
  | _ => .bad
noncomputable def mulV (a b : V) (σ : Sto) : RE := match b with
  | .int n => (match a with
    | .int x => if mulOk x n then .ok (.int (x * n)) σ else .bad
    | .ref l => repN (getL σ l) n σ
    | _ => .bad)
  | _ => .bad
noncomputable def binV (op : Operator) (a b : V) (σ : Sto) : RE := match op with
  | .Add => addV a b σ
  | .Sub => wII a b fun x y => .ok (.int (x - y)) σ
  | .Mult => mulV a b σ
  | .FloorDiv => wII a b fun x y => if y ≠ 0 ∧ y.natAbs < 10 ^ 100 then .ok (.int (x.fdiv y)) σ else .bad
  | .Mod => wII a b fun x y => if y = 0 then .bad else .ok (.int (x.fmod y)) σ
  | _ => .bad

noncomputable def mapO {α β : Type} (f : α → Option β) : List α → Option (List β)
  | [] => some []
  | x :: xs => match f x, mapO f xs with | some y, some ys => some (y :: ys) | _, _ => none

noncomputable def intOf : V → Option Int | .int i => some i | _ => none
noncomputable def intsOf (xs : List V) : Option (List Int) := mapO intOf xs

noncomputable def toDX (f : V → Option PyData) (σ : Sto) (v : V) : Option PyData := match v with
  | .none => some .none
  | .bool b => some (.bool b)
  | .int i => some (.int i)
  | .str s => if PyData.strOk s then some (.str s) else none
  | .tup vs => (mapO f vs).map .tuple
  | .ref l => (match getL σ l with | some vs => (mapO f vs).map .list | none => none)
  | .rng _ _ => none
  | .exc _ => none
noncomputable def toD : Nat → Sto → V → Option PyData
  | 0 => fun _ _ => none
  | n + 1 => fun σ => toDX (toD n σ) σ

noncomputable def eqV (σ : Sto) (a b : V) : Option Bool := match toD 5 σ a, toD 5 σ b with | some x, some y => some (PyData.eqv x y) | _, _ => none

noncomputable def isNone : V → Bool | .none => true | _ => false

noncomputable def inV (σ : Sto) (x c : V) : Option Bool := match c with
  | .ref l => (match σ[l]?, x with
    | some (.lst vs), .int i => (intsOf vs).map fun is => decide (i ∈ is)
    | some (.dI es), .int i => some (es.any fun e => e.1 == i)
    | _, _ => none)
  | _ => none

noncomputable def notInV (σ : Sto) (x c : V) : Option Bool := match c with
  | .ref l => (match σ[l]?, x with
    | some (.lst vs), .int i => (intsOf vs).map fun is => !decide (i ∈ is)
    | some (.dI es), .int i => some (!es.any fun e => e.1 == i)
    | _, _ => none)
  | _ => none

noncomputable def cmpV (op : CmpOp) (a b : V) (σ : Sto) : Option Bool :=
  match op with
  | .Lt => (match a, b with | .int x, .int y => some (decide (x < y)) | _, _ => none)
  | .LtE => (match a, b with | .int x, .int y => some (decide (x ≤ y)) | _, _ => none)
  | .Gt => (match a, b with | .int x, .int y => some (decide (y < x)) | _, _ => none)
  | .GtE => (match a, b with | .int x, .int y => some (decide (y ≤ x)) | _, _ => none)
  | .Eq => (match a, b with | .int x, .int y => some (x == y) | _, _ => eqV σ a b)
  | .NotEq => (match a, b with | .int x, .int y => some (x != y) | _, _ => (eqV σ a b).map (!·))
  | .Is => (match b with | .none => some (isNone a) | _ => none)
  | .IsNot => (match b with | .none => some (!isNone a) | _ => none)
  | .In => inV σ a b
  | .NotIn => notInV σ a b

noncomputable def idxV (xs : List V) (k : Int) : Option V :=
  if 0 ≤ k then xs[k.toNat]? else if -(xs.length : Int) ≤ k then xs[(k + xs.length).toNat]? else none

noncomputable def subV (a i : V) (σ : Sto) : Option V := match a, i with
  | .tup vs, .int k => idxV vs k
  | .ref l, .int k => (match σ[l]? with
    | some (.lst vs) => idxV vs k
    | some (.frz vs) => idxV vs k
    | some (.dI es) => es.lookup k
    | _ => none)
  | _, _ => none

noncomputable def lenV (a : V) (σ : Sto) : Option Int := match a with
  | .tup vs => some vs.length
  | .ref l => (match σ[l]? with | some (.lst vs) => some vs.length | some (.frz vs) => some vs.length | some (.dI es) => some es.length | _ => none)
  | _ => none

noncomputable def isiV (t : Ty) (a : V) (σ : Sto) : Option Bool := match t with
  | .int => (match a with | .int _ => some true | .bool _ => some true | .str _ => some false | .tup _ => some false | .ref l => (match σ[l]? with | some (.lst _) => some false | _ => none) | _ => none)
  | .bool => (match a with | .int _ => some false | .bool _ => some true | .str _ => some false | .tup _ => some false | .ref l => (match σ[l]? with | some (.lst _) => some false | _ => none) | _ => none)
  | .tuple => (match a with | .int _ => some false | .bool _ => some false | .str _ => some false | .tup _ => some true | .ref l => (match σ[l]? with | some (.lst _) => some false | _ => none) | _ => none)
  | .list => (match a with | .int _ => some false | .bool _ => some false | .str _ => some false | .tup _ => some false | .ref l => (match σ[l]? with | some (.lst _) => some true | _ => none) | _ => none)
  | .inst => (match a with | .ref l => (match σ[l]? with | some (.inst _) => some true | _ => none) | _ => none)
  | .exc c ds => (match a with | .exc d => if ds.contains d then some (d == c) else none | _ => none)
  | .val ds => (match a with | .exc d => if ds.contains d then some true else none | _ => none)

noncomputable def maxL : List Int → Option Int
  | [] => none
  | x :: xs => some (xs.foldl (fun a b => if a < b then b else a) x)
noncomputable def minL : List Int → Option Int
  | [] => none
  | x :: xs => some (xs.foldl (fun a b => if b < a then b else a) x)

noncomputable def rngL (lo hi : Int) : List V := (List.range (hi - lo).toNat).map fun (k : Nat) => V.int (lo + (k : Int))

noncomputable def allB : List V → Option Bool
  | [] => some true
  | .bool b :: r => (match allB r with | some c => some (b && c) | none => none)
  | _ => none

noncomputable def dedup (is : List Int) : List Int := is.foldl (fun acc v => if acc.any (· == v) then acc else acc ++ [v]) []

noncomputable def bLen (as : List V) (σ : Sto) : RE := match as with
  | [a] => ofOpt σ ((lenV a σ).map V.int)
  | _ => .bad
noncomputable def bInts (f : List Int → Option Int) (as : List V) (σ : Sto) : RE := match as with
  | [.ref l] => ofOpt σ ((((getL σ l).bind intsOf).bind f).map V.int)
  | _ => .bad
noncomputable def bMax (as : List V) (σ : Sto) : RE := match as with
  | [a, b] => (match a with
    | .int x => (match b with | .int y => .ok (.int (if x < y then y else x)) σ | _ => .bad)
    | _ => .bad)
  | _ => bInts maxL as σ
noncomputable def bList (as : List V) (σ : Sto) : RE := match as with
  | [a] => (match a with
    | .ref l => (match getL σ l with | some xs => newL xs σ | none => .bad)
    | .rng lo hi => newL (rngL lo hi) σ
    | _ => .bad)
  | _ => .bad
noncomputable def bTuple (as : List V) (σ : Sto) : RE := match as with
  | [a] => (match a with
    | .ref l => (match getL σ l with | some xs => .ok (.tup xs) σ | none => .bad)
    | _ => .bad)
  | _ => .bad
noncomputable def bAll (as : List V) (σ : Sto) : RE := match as with
  | [a] => (match a with
    | .ref l => ofOpt σ (((getL σ l).bind allB).map V.bool)
    | _ => .bad)
  | _ => .bad
noncomputable def bInt (as : List V) (σ : Sto) : RE := match as with
  | [a] => (match a with | .bool b => .ok (.int (if b then 1 else 0)) σ | _ => .bad)
  | _ => .bad
noncomputable def rngV (a b : Int) (σ : Sto) : RE := if -1000000 ≤ a ∧ a ≤ 1000000 ∧ -1000000 ≤ b ∧ b ≤ 1000000 then .ok (.rng a b) σ else .bad
noncomputable def bRange (as : List V) (σ : Sto) : RE := match as with
  | [a] => (match a with | .int n => rngV 0 n σ | _ => .bad)
  | [a, b] => (match a with | .int x => (match b with | .int y => rngV x y σ | _ => .bad) | _ => .bad)
  | _ => .bad
noncomputable def bSet (as : List V) (σ : Sto) : RE := match as with
  | [a] => (match a with
    | .ref l => (match (getL σ l).bind intsOf with | some is => if is.length ≤ 1000 then .ok (.int (dedup is).length) σ else .bad | none => .bad)
    | _ => .bad)
  | _ => .bad
noncomputable def bRev (as : List V) (σ : Sto) : RE := match as with
  | [a] => (match a with
    | .ref l => (match getL σ l with | some xs => newL xs.reverse σ | none => .bad)
    | _ => .bad)
  | _ => .bad
noncomputable def bltV (b : BN) (as : List V) (σ : Sto) : RE := match b with
  | .len => bLen as σ
  | .max => bMax as σ
  | .min => bInts minL as σ
  | .list => bList as σ
  | .tuple => bTuple as σ
  | .all => bAll as σ
  | .int => bInt as σ
  | .range => bRange as σ
  | .setLen => bSet as σ
  | .revl => bRev as σ

noncomputable def setL (σ : Sto) (l : Nat) (xs : List V) : Sto := σ.set l (.lst xs)

noncomputable def putI (k : Int) (v : V) : List (Int × V) → List (Int × V)
  | [] => [(k, v)]
  | e :: r => if e.1 == k then (e.1, v) :: r else e :: putI k v r
abbrev idxOk (i : Int) (is : List Int) : Prop := i ∈ is ∧ is.length ≤ 1000 ∧ ∀ j ∈ is, j.natAbs < 1024
noncomputable def methV (x : MN) (l : Nat) (xs : List V) (as : List V) (σ : Sto) : RE := match x with
  | .append => (match as with | [v] => if xs.length < 16777216 then .ok .none (setL σ l (xs ++ [v])) else .bad | _ => .bad)
  | .pop => (match as with | [] => (match xs.getLast? with | some v => .ok v (setL σ l xs.dropLast) | none => .bad) | _ => .bad)
  | .clear => (match as with | [] => .ok .none (setL σ l []) | _ => .bad)
  | .extend => (match as with
    | [v] => (match v with
      | .ref k => (match getL σ k with | some ys => if xs.length + ys.length ≤ 16777216 ∧ k ≠ l then .ok .none (setL σ l (xs ++ ys)) else .bad | none => .bad)
      | _ => .bad)
    | _ => .bad)
  | .index => (match as with
    | [v] => (match v with
      | .int i => (match intsOf xs with | some is => if idxOk i is then .ok (.int (is.idxOf i)) σ else .bad | none => .bad)
      | _ => .bad)
    | _ => .bad)
noncomputable def lstV (v : V) (σ : Sto) (f : Nat → List V → RE) : RE := match v with
  | .ref l => (match getL σ l with | some xs => f l xs | none => .bad)
  | _ => .bad
noncomputable def instV (v : V) (σ : Sto) (r : RE) : RE := match v with
  | .ref l => (match σ[l]? with
    | some o => (match o with
      | .inst d => (match σ[d]? with | some o => (match o with | .att _ => r | _ => .bad) | none => .bad)
      | _ => .bad)
    | none => .bad)
  | _ => .bad

noncomputable def setIdx (a i v : V) (σ : Sto) : Option Sto := match a, i with
  | .ref l, .int k => (match σ[l]? with
    | some (.lst xs) => if 0 ≤ k ∧ k < xs.length then some (setL σ l (xs.set k.toNat v)) else none
    | some (.dI es) => if es.length < 1000000 then some (σ.set l (.dI (putI k v es))) else none
    | _ => none)
  | _, _ => none

noncomputable def putA (k : Nat) (v : V) : List (Nat × V) → List (Nat × V)
  | [] => [(k, v)]
  | e :: r => if e.1 == k then (e.1, v) :: r else e :: putA k v r

noncomputable def attrV (a : V) (x : Nat) (σ : Sto) : Option V := match a with
  | .ref l => (match σ[l]? with
    | some (.inst d) => (match σ[d]? with | some (.att es) => es.lookup x | _ => none)
    | _ => none)
  | _ => none
noncomputable def setAttrV (a : V) (x : Nat) (v : V) (σ : Sto) : Option Sto := match a with
  | .ref l => (match σ[l]? with
    | some (.inst d) => (match σ[d]? with | some (.att es) => if es.length < 100 then some (σ.set d (.att (putA x v es))) else none | _ => none)
    | _ => none)
  | _ => none

noncomputable def bindT (tg : List Nat) (one : Bool) (v : V) (fr : Fra) : Option Fra :=
  if one then (match tg with | [i] => if i < fr.length then some (fr.set i (some v)) else none | _ => none)
  else match v with
    | .tup vs => if vs.length = tg.length ∧ tg.all (· < fr.length) then some ((tg.zip vs).foldl (fun f p => f.set p.1 (some p.2)) fr) else none
    | _ => none

noncomputable def subFr (fr : Fra) (frm : List (Option Nat)) : Fra := frm.map fun o => match o with | some j => (fr[j]?).join | none => none

noncomputable def insK {α : Type} (p : Int × α) : List (Int × α) → List (Int × α)
  | [] => [p]
  | q :: r => if p.1 < q.1 then p :: q :: r else q :: insK p r
noncomputable def sortK {α : Type} : List (Int × α) → List (Int × α)
  | [] => []
  | p :: r => insK p (sortK r)

noncomputable def kxV (fr : Fra) (x : Int) : KX → Option Int
  | .num i => some i
  | .par => some x
  | .var i => (match fr[i]? with | some (some (.int v)) => some v | _ => none)
  | .add a b => (kxV fr x a).bind fun p => (kxV fr x b).map fun q => p + q
  | .mul a b => (kxV fr x a).bind fun p => (kxV fr x b).bind fun q => if mulOk p q then some (p * q) else none
  | .mod a b => (kxV fr x a).bind fun p => (kxV fr x b).bind fun q => if q ≠ 0 then some (p.fmod q) else none
noncomputable def srtL (ks : Option (List Int)) (hi : Int) (σ : Sto) : RE := match ks with
  | some ks => if ks.Nodup then newL ((sortK (ks.zip (rngL 0 hi))).map (·.2)) (σ.set 1 (.tab true)) else .bad
  | none => .bad
noncomputable def srtT (o : Option AO) (r : RE) : RE := match o with
  | some (.tab false) => r
  | _ => .bad
noncomputable def srtV (key : KX) (fr : Fra) (v : V) (σ : Sto) : RE := match v with
  | .rng lo hi => if lo = 0 ∧ hi < 60 then srtT σ[1]? (srtL (mapO (fun (j : Nat) => kxV fr (j : Int) key) (List.range hi.toNat)) hi σ) else .bad
  | _ => .bad

noncomputable def joinV (xs : List V) (σ : Sto) : RE := match xs with
  | [.str x] => .ok (.str x) σ
  | _ => .bad

section
variable (call : Nat → List V → Sto → RE)

noncomputable def testL (ts : List (Fra → Sto → RE)) (fr : Fra) (σ : Sto) : RE := match ts with
  | [] => .ok (.bool true) σ
  | t :: r => (t fr σ).bind fun v σ => match v with | .bool true => testL r fr σ | .bool false => .ok (.bool false) σ | _ => .bad

noncomputable def compF (tg : List Nat) (one : Bool) (cond elt : Fra → Sto → RE) (v : V) (fr : Fra) (σ : Sto) (acc : List V) : Option (Fra × List V × Sto) ⊕ (Nat × Sto) :=
  match bindT tg one v fr with
  | none => .inl none
  | some fr => match cond fr σ with
    | .ok (.bool true) σ => (match elt fr σ with
      | .ok y σ => .inl (some (fr, acc ++ [y], σ))
      | _ => .inl none)
    | .ok (.bool false) σ => .inl (some (fr, acc, σ))
    | _ => .inl none

noncomputable def compV (tg : List Nat) (one : Bool) (cond elt : Fra → Sto → RE) : List V → Fra → Sto → List V → REs
  | [], _, σ, acc => .ok acc σ
  | v :: vs, fr, σ, acc => match compF tg one cond elt v fr σ acc with
    | .inl (some (fr, acc, σ)) => compV tg one cond elt vs fr σ acc
    | .inl none => .bad
    | .inr (x, σ) => .ex x σ

noncomputable def compL (tg : List Nat) (one : Bool) (cond elt : Fra → Sto → RE) (l : Nat) : Nat → Nat → Fra → Sto → List V → REs
  | 0, _, _, _, _ => .bad
  | n + 1, i, fr, σ, acc => match getL σ l with
    | none => .bad
    | some xs => match xs[i]? with
      | none => .ok acc σ
      | some v => match compF tg one cond elt v fr σ acc with
        | .inl (some (fr, acc, σ)) => compL tg one cond elt l n (i + 1) fr σ acc
        | .inl none => .bad
        | .inr (x, σ) => .ex x σ

mutual
noncomputable def evE : E → Fra → Sto → RE
  | .none => fun _ σ => .ok .none σ
  | .bool b => fun _ σ => .ok (.bool b) σ
  | .int i => fun _ σ => .ok (.int i) σ
  | .str s => fun _ σ => .ok (.str s) σ
  | .loc i => fun fr σ => match fr[i]? with | some (some v) => .ok v σ | _ => .bad
  | .pow a n => fun _ σ => .ok (.int ((a : Int) ^ n)) σ
  | .neg a => fun fr σ => (evE a fr σ).bind fun v σ => match v with | .int i => .ok (.int (-i)) σ | _ => .bad
  | .not a => fun fr σ => (evE a fr σ).bind fun v σ => match v with | .bool b => .ok (.bool (!b)) σ | _ => .bad
  | .and a b => fun fr σ => (evE a fr σ).bind fun v σ => match v with | .bool true => evE b fr σ | .bool false => .ok (.bool false) σ | _ => .bad
  | .or a b => fun fr σ => (evE a fr σ).bind fun v σ => match v with | .bool false => evE b fr σ | .bool true => .ok (.bool true) σ | _ => .bad
  | .bin op a b => fun fr σ => (evE a fr σ).bind fun x σ => (evE b fr σ).bind fun y σ => binV op x y σ
  | .cmp op a b => fun fr σ => (evE a fr σ).bind fun x σ => (evE b fr σ).bind fun y σ => ofOptB σ (cmpV op x y σ)
  | .cmp2 o1 o2 a b c => fun fr σ => (evE a fr σ).bind fun x σ => (evE b fr σ).bind fun y σ => match cmpV o1 x y σ with
      | some true => (evE c fr σ).bind fun z σ => ofOptB σ (cmpV o2 y z σ)
      | some false => .ok (.bool false) σ
      | none => .bad
  | .sub a i => fun fr σ => (evE a fr σ).bind fun x σ => (evE i fr σ).bind fun y σ => ofOpt σ (subV x y σ)
  | .slo a lo => fun fr σ => (evE a fr σ).bind fun x σ => (evE lo fr σ).bind fun y σ => match x, y with
      | .ref l, .int k => (match getL σ l with | some xs => if 0 ≤ k then newL (xs.drop k.toNat) σ else .bad | none => .bad)
      | _, _ => .bad
  | .shi a hi => fun fr σ => (evE a fr σ).bind fun x σ => (evE hi fr σ).bind fun y σ => match x, y with
      | .ref l, .int k => (match getL σ l with | some xs => if 0 ≤ k then newL (xs.take k.toNat) σ else .bad | none => .bad)
      | _, _ => .bad
  | .sst a st => fun fr σ => (evE a fr σ).bind fun x σ => (evE st fr σ).bind fun y σ => match x, y with
      | .ref l, .int k => (match getL σ l with | some xs => if k = 1 then newL xs σ else if k = -1 then newL xs.reverse σ else .bad | none => .bad)
      | _, _ => .bad
  | .attr a x => fun fr σ => (evE a fr σ).bind fun v σ => ofOpt σ (attrV v x σ)
  | .list es => fun fr σ => (evEs es fr σ).bind fun vs σ => newL vs σ
  | .tup es => fun fr σ => (evEs es fr σ).bind fun vs σ => if vs.length ≤ 1000 then .ok (.tup vs) σ else .bad
  | .dict0 => fun _ _ => .bad
  | .dict1 k v => fun fr σ => (evE k fr σ).bind fun x σ => (evE v fr σ).bind fun y σ => match x with
      | .int i => .ok (.ref σ.length) (σ ++ [.dI [(i, y)]])
      | _ => .bad
  | .call f as => fun fr σ => (evEs as fr σ).bind fun vs σ => call f vs σ
  | .mk f as => fun fr σ => (evEs as fr σ).bind fun vs σ =>
      match call f (.ref (σ.length + 1) :: vs) (σ ++ [.att [], .inst σ.length]) with
      | .ok .none σ' => .ok (.ref (σ.length + 1)) σ'
      | .ok _ _ => .bad
      | .ex x σ' => .ex x σ'
      | .bad => .bad
  | .meth a x as => fun fr σ => (evE a fr σ).bind fun v σ => lstV v σ fun _ _ => (evEs as fr σ).bind fun vs σ => lstV v σ fun l xs => methV x l xs vs σ
  | .umeth a f as => fun fr σ => (evE a fr σ).bind fun v σ => instV v σ ((evEs as fr σ).bind fun vs σ => call f (v :: vs) σ)
  | .blt b as => fun fr σ => (evEs as fr σ).bind fun vs σ => bltV b vs σ
  | .maxd a => fun fr σ => (evE a fr σ).bind fun v σ => match v with
      | .ref l => (match (getL σ l).bind intsOf with | some [] => .ok .none σ | some is => ofOpt σ ((maxL is).map V.int) | none => .bad)
      | _ => .bad
  | .isi a t => fun fr σ => (evE a fr σ).bind fun v σ => ofOptB σ (isiV t v σ)
  | .join _ a => fun fr σ => (evE a fr σ).bind fun v σ => lstV v σ fun _ xs => joinV xs σ
  | .srt a key => fun fr σ => (evE a fr σ).bind fun v σ => srtV key fr v σ
  | .comp tg one it conds elt frm => fun fr σ => (evE it fr σ).bind fun v σ => match v with
      | .ref l => (match getL σ l with
        | some xs => (compL tg one (testL (evTs conds)) (evE elt) l (xs.length + 1) 0 (subFr fr frm) σ []).bind fun ys σ => newL ys σ
        | none => .bad)
      | .tup vs => (compV tg one (testL (evTs conds)) (evE elt) vs (subFr fr frm) σ []).bind fun ys σ => newL ys σ
      | .rng lo hi => (compV tg one (testL (evTs conds)) (evE elt) (rngL lo hi) (subFr fr frm) σ []).bind fun ys σ => newL ys σ
      | _ => .bad
noncomputable def evEs : List E → Fra → Sto → REs
  | [] => fun _ σ => .ok [] σ
  | e :: es => fun fr σ => (evE e fr σ).binds fun v σ => (evEs es fr σ).binds fun vs σ => .ok (v :: vs) σ
noncomputable def evTs : List E → List (Fra → Sto → RE)
  | [] => []
  | e :: es => evE e :: evTs es
end

noncomputable def whileL (test : Fra → Sto → RE) (body : Fra → Sto → RS) : Nat → Fra → Sto → RS
  | 0, _, _ => .bad
  | n + 1, fr, σ => (test fr σ).bindS fr fun v σ => match v with
    | .bool false => .ok .next fr σ
    | .bool true => (match body fr σ with
      | .ok .next fr σ => whileL test body n fr σ
      | .ok .cont fr σ => whileL test body n fr σ
      | .ok .brk fr σ => .ok .next fr σ
      | .ok (.ret v) fr σ => .ok (.ret v) fr σ
      | _ => .bad)
    | _ => .bad

noncomputable def forV (tg : List Nat) (one : Bool) (body : Fra → Sto → RS) : List V → Fra → Sto → RS
  | [], fr, σ => .ok .next fr σ
  | v :: vs, fr, σ => match bindT tg one v fr with
    | none => .bad
    | some fr => match body fr σ with
      | .ok .next fr σ => forV tg one body vs fr σ
      | .ok .cont fr σ => forV tg one body vs fr σ
      | .ok .brk fr σ => .ok .next fr σ
      | r => r

noncomputable def forL (tg : List Nat) (one : Bool) (body : Fra → Sto → RS) (l : Nat) : Nat → Nat → Fra → Sto → RS
  | 0, _, _, _ => .bad
  | n + 1, i, fr, σ => match getL σ l with
    | none => .bad
    | some xs => match xs[i]? with
      | none => .ok .next fr σ
      | some v => match bindT tg one v fr with
        | none => .bad
        | some fr => match body fr σ with
          | .ok .next fr σ => forL tg one body l n (i + 1) fr σ
          | .ok .cont fr σ => forL tg one body l n (i + 1) fr σ
          | .ok .brk fr σ => .ok .next fr σ
          | r => r

variable (wf : Nat)
mutual
noncomputable def evS : S → Fra → Sto → RS
  | .expr a => fun fr σ => (evE call a fr σ).bindX (isCallE a) fr fun _ σ => .ok .next fr σ
  | .ret a => fun fr σ => (evE call a fr σ).bindX (isCallE a) fr fun v σ => .ok (.ret v) fr σ
  | .asg i a => fun fr σ => (evE call a fr σ).bindX (isCallE a) fr fun v σ => if i < fr.length then .ok .next (fr.set i (some v)) σ else .bad
  | .asgT is a => fun fr σ => (evE call a fr σ).bindS fr fun v σ => match bindT is false v fr with | some fr => .ok .next fr σ | none => .bad
  | .asgA o x a => fun fr σ => (evE call a fr σ).bindS fr fun v σ => (evE call o fr σ).bindS fr fun w σ => match setAttrV w x v σ with
      | some σ => .ok .next fr σ | none => .bad
  | .asgI o i a => fun fr σ => (evE call a fr σ).bindS fr fun v σ => (evE call o fr σ).bindS fr fun w σ => (evE call i fr σ).bindS fr fun k σ => match setIdx w k v σ with
      | some σ => .ok .next fr σ | none => .bad
  | .ifS t b o => fun fr σ => (evE call t fr σ).bindS fr fun v σ => match v with
      | .bool true => evSs b fr σ | .bool false => evSs o fr σ | _ => .bad
  | .whileS t b => fun fr σ => whileL (evE call t) (evSs b) wf fr σ
  | .forS tg one it b => fun fr σ => match it with
      | .e a => (evE call a fr σ).bindS fr fun v σ => (match v with
        | .ref l => (match getL σ l with | some xs => forL tg one (evSs b) l (xs.length + 1) 0 fr σ | none => .bad)
        | .tup vs => forV tg one (evSs b) vs fr σ
        | .rng lo hi => forV tg one (evSs b) (rngL lo hi) fr σ
        | _ => .bad)
      | _ => .bad
  | .raise c => fun fr σ => .ex c fr σ
  | .tryS _ _ _ _ => fun _ _ => .bad
  | .pass => fun fr σ => .ok .next fr σ
noncomputable def evSs : List S → Fra → Sto → RS
  | [] => fun fr σ => .ok .next fr σ
  | s :: ss => fun fr σ => match evS s fr σ with
    | .ok .next fr σ => evSs ss fr σ
    | r => r
end
end

section
variable (call callH : Nat → List V → Sto → RE) (wf : Nat)
noncomputable def evT : List S → Fra → Sto → RS
  | [], fr, σ => .ok .next fr σ
  | s :: ss, fr, σ => match s with
    | .tryS b ds i h => (match evSs call wf b fr σ with
      | .ok f fr σ => (match f with | .next => evT ss fr σ | f => .ok f fr σ)
      | .ex x fr σ => if ds.contains x ∧ i < fr.length then (match evSs callH wf h (fr.set i (some (.exc x))) σ with
        | .ok f fr σ => (match f with | .next => evT ss (fr.set i none) σ | f => .ok f (fr.set i none) σ)
        | _ => .bad) else .bad
      | .bad => .bad)
    | s => (match evS call wf s fr σ with
      | .ok f fr σ => (match f with | .next => evT ss fr σ | f => .ok f fr σ)
      | _ => .bad)
end

structure Fn where
  ps : List Nat
  size : Nat
  body : List S

noncomputable def putPs : List Nat → List V → Fra → Fra
  | p :: ps, v :: vs, fr => putPs ps vs (fr.set p (some v))
  | _, _, fr => fr
noncomputable def frame0 (f : Fn) (vs : List V) : Fra := putPs f.ps vs (List.replicate f.size none)

noncomputable def evFn (P : Nat → Option Fn) (wf : Nat) : Nat → Nat → List V → Sto → RE
  | 0, _, _, _ => .bad
  | n + 1, f, vs, σ => match P f with
    | none => .bad
    | some fn => if vs.length = fn.ps.length then
        (match evSs (evFn P wf n) wf fn.body (frame0 fn vs) σ with
         | .ok (.ret v) _ σ => .ok v σ
         | .ok .next _ σ => .ok .none σ
         | .ok _ _ _ => .bad
         | .ex x _ σ => .ex x σ
         | .bad => .bad)
      else .bad

end Mine

set_option autoImplicit false
set_option genSizeOf false
set_option genInjectivity false
set_option bootstrap.genMatcherCode false
namespace Mine
open PySem

structure CE where
  names : List (Str × NameKind)
  fns : List (Str × Nat)
  clss : List (Str × Nat)
  excs : List (Str × Nat)
  mths : List (Str × Nat)
  attrs : List (Str × Nat)
  consts : List (Str × Int)
  lam : Option Nat
  hnd : Bool := false
  hfns : List (Str × Nat) := []
  pe : Option (Str × Nat) := none

noncomputable def CE.loc? (c : CE) (x : Str) : Option Nat := match c.names.lookup x with
  | some .local | some .cell | some .free => c.names.findIdx? (·.1 == x)
  | _ => none
noncomputable def CE.locW? (c : CE) (x : Str) : Option Nat := match c.names.lookup x with
  | some .local | some .cell => c.names.findIdx? (·.1 == x)
  | _ => none
noncomputable def CE.glob (c : CE) (x : Str) : Bool := c.names.lookup x == some .globalImplicit
noncomputable def CE.sub (c : CE) (names : List (Str × NameKind)) : CE := { c with names := names }

noncomputable def opt2 {α β γ : Type} (f : α → β → γ) (a : Option α) (b : Option β) : Option γ := a.bind fun x => b.map fun y => f x y
noncomputable def opt3 {α β γ δ : Type} (f : α → β → γ → δ) (a : Option α) (b : Option β) (c : Option γ) : Option δ := a.bind fun x => opt2 (f x) b c
noncomputable def gd {α : Type} (b : Bool) (x : Option α) : Option α := match b with | true => x | false => none
set_option tactic.hygienic false in
theorem nn {α : Type} {z : α} {P : Prop} (h : (none : Option α) = some z) : P := nomatch h
set_option tactic.hygienic false in
theorem ft {P : Prop} (h : false = true) : P := nomatch h
set_option tactic.hygienic false in
theorem tf {P : Prop} (h : true = false) : P := nomatch h
set_option tactic.hygienic false in
theorem si {α : Type} {a b : α} {P : α → Prop} (h : some a = some b) (H : P a) : P b := Option.some.inj h ▸ H
set_option tactic.hygienic false in
theorem opt2_inv {α β γ : Type} {f : α → β → γ} {a : Option α} {b : Option β} {z : γ} : opt2 f a b = some z → ∃ x y, a = some x ∧ b = some y ∧ f x y = z :=
  Option.casesOn a nn fun x => Option.casesOn b nn fun y h => ⟨x, y, rfl, rfl, Option.some.inj h⟩
set_option tactic.hygienic false in
theorem opt3_inv {α β γ δ : Type} {f : α → β → γ → δ} {a : Option α} {b : Option β} {c : Option γ} {w : δ} : opt3 f a b c = some w → ∃ x y z, a = some x ∧ b = some y ∧ c = some z ∧ f x y z = w :=
  Option.casesOn a nn fun x => Option.casesOn b nn fun y => Option.casesOn c nn fun z h => ⟨x, y, z, rfl, rfl, rfl, Option.some.inj h⟩
set_option tactic.hygienic false in
theorem gd_inv {α : Type} {b : Bool} {x : Option α} {z : α} : gd b x = some z → b = true ∧ x = some z := Bool.casesOn b nn fun h => ⟨rfl, h⟩
set_option tactic.hygienic false in
theorem map_inv {α β : Type} {f : α → β} {a : Option α} {z : β} : a.map f = some z → ∃ x, a = some x ∧ f x = z := Option.casesOn a nn fun x h => ⟨x, rfl, Option.some.inj h⟩
set_option tactic.hygienic false in
theorem bind_inv {α β : Type} {f : α → Option β} {a : Option α} {z : β} : a.bind f = some z → ∃ x, a = some x ∧ f x = some z := Option.casesOn a nn fun x h => ⟨x, rfl, h⟩
set_option tactic.hygienic false in
theorem and_inv {a b : Bool} : (a && b) = true → a = true ∧ b = true := Bool.casesOn a ft fun h => ⟨rfl, h⟩
set_option tactic.hygienic false in
theorem not_inv {a : Bool} : (!a) = true → a = false := Bool.casesOn a (fun _ => rfl) ft

inductive EV where
  | name (x : Str) | const (k : Const) | slice (t : Option Expr × Option Expr × Option Expr) | lc | tup (ts : List Expr) | attr (t : Expr × Str × Pos) | sub (t : Expr × Expr) | call (t : Expr × List Expr × List Keyword) | bin (t : Expr × Operator × Expr) | lam (t : Arguments × Expr × Scope × Pos) | other
noncomputable def vw : Expr → EV
  | .Name x _ => .name x
  | .Constant k _ _ => .const k
  | .Slice a b c _ => .slice (a, b, c)
  | .ListComp .. => .lc
  | .Tuple ts _ _ => .tup ts
  | .Attribute o x p => .attr (o, x, p)
  | .Subscript o i _ => .sub (o, i)
  | .Call f as ks _ => .call (f, as, ks)
  | .BinOp l op r _ => .bin (l, op, r)
  | .Lambda ps e sc p => .lam (ps, e, sc, p)
  | _ => .other
def VwOk (e : Expr) : EV → Prop
  | .name x => ∃ p, e = .Name x p
  | .const k => ∃ a p, e = .Constant k a p
  | .slice t => ∃ p, e = .Slice t.1 t.2.1 t.2.2 p
  | .tup ts => ∃ k p, e = .Tuple ts k p
  | .attr t => e = .Attribute t.1 t.2.1 t.2.2
  | .sub t => ∃ p, e = .Subscript t.1 t.2 p
  | .call t => ∃ p, e = .Call t.1 t.2.1 t.2.2 p
  | .bin t => ∃ p, e = .BinOp t.1 t.2.1 t.2.2 p
  | .lam t => e = .Lambda t.1 t.2.1 t.2.2.1 t.2.2.2
  | _ => True
set_option tactic.hygienic false in
theorem vw_ok (e : Expr) : VwOk e (vw e) := by
  cases e <;> first | exact True.intro | exact ⟨_, rfl⟩ | exact ⟨_, _, rfl⟩ | rfl
set_option tactic.hygienic false in
theorem vw_of {e : Expr} {v : EV} (h : vw e = v) : VwOk e v := h ▸ vw_ok e
noncomputable def name? (e : Expr) : Option Str := match vw e with | .name x => some x | _ => none
noncomputable def constI? (e : Expr) : Option Int := match vw e with | .const (.int i) => some i | _ => none
noncomputable def isStrC (e : Expr) : Bool := match vw e with | .const (.str _) => true | _ => false
noncomputable def isLC (e : Expr) : Bool := match vw e with | .lc => true | _ => false
noncomputable def isTup (e : Expr) : Bool := match vw e with | .name _ => false | .call _ => false | .sub _ => false | _ => true
set_option tactic.hygienic false in
theorem name?_inv {e : Expr} {x : Str} (h : name? e = some x) : ∃ p, e = .Name x p := by
  unfold name? at h
  cases q : vw e <;> rw [q] at h <;> first | exact nn h | skip
  exact Option.some.inj h ▸ vw_of q
theorem constI?_inv {e : Expr} {x : Int} (h : constI? e = some x) : ∃ k p, e = .Constant (.int x) k p := by
  unfold constI? at h
  cases q : vw e <;> rw [q] at h <;> first | exact nn h | skip
  rename_i k; cases k <;> first | exact nn h | skip
  exact Option.some.inj h ▸ vw_of q
set_option tactic.hygienic false in
theorem isLC_inv {e : Expr} (h : isLC e = false) : ∀ a b c d, e ≠ .ListComp a b c d := by
  intro a b c d q; subst q; exact tf h
set_option tactic.hygienic false in
theorem isTup_inv {e : Expr} (h : isTup e = false) : (∃ x p, e = .Name x p) ∨ (∃ f as ks p, e = .Call f as ks p) ∨ ∃ o i p, e = .Subscript o i p := by
  unfold isTup at h
  cases q : vw e <;> rw [q] at h <;> first | exact tf h | skip
  · exact .inl ⟨_, vw_of q⟩
  · exact .inr (.inr ⟨_, _, vw_of q⟩)
  · exact .inr (.inl ⟨_, _, _, vw_of q⟩)

noncomputable def nameIdxs (c : CE) : List Expr → Option (List Nat)
  | [] => some []
  | e :: r => opt2 List.cons ((name? e).bind c.locW?) (nameIdxs c r)

noncomputable def tgt (c : CE) (e : Expr) : Option (List Nat × Bool) := match name? e with
  | some x => (c.locW? x).map fun i => ([i], true)
  | none => (match vw e with | .tup es => (nameIdxs c es).map fun is => (is, false) | _ => none)

noncomputable def CE.locC? (c : CE) (x : Str) : Option Nat := match c.names.lookup x with
  | some .cell | some .free => c.names.findIdx? (·.1 == x)
  | _ => none
noncomputable def frm1 (c : CE) (p : Str × NameKind) : Option (Option Nat) := match p.2 with
  | .free => (c.locC? p.1).map some
  | .cell => none
  | _ => some none
noncomputable def frmOf (c : CE) (sc : Scope) : Option (List (Option Nat)) := mapO (frm1 c) sc.names
noncomputable def scOk (sc : Scope) : Bool := (match sc.kind with | .function => true | _ => false) && decide ((sc.names.map (·.1)).Nodup)

noncomputable def opOk : Operator → Bool
  | .Add | .Sub | .Mult | .FloorDiv | .Mod => true
  | _ => false

noncomputable def bltName : List (Str × BN) := [("len", .len), ("max", .max), ("min", .min), ("list", .list), ("tuple", .tuple), ("all", .all), ("int", .int), ("range", .range)]
noncomputable def bOk : BN → Bool
  | .len => true
  | .min | .list | .range => true
  | _ => false
noncomputable def tyName : List (Str × Ty) := [("int", .int), ("bool", .bool), ("tuple", .tuple), ("list", .list)]
noncomputable def methName : List (Str × MN) := [("append", .append), ("pop", .pop), ("index", .index)
  ]
noncomputable def mOk : MN → Bool
  | .clear | .extend => false
  | _ => true

noncomputable def mkB (op : BoolOp) (x y : E) : E := match op with | .And => .and x y | .Or => .or x y
noncomputable def foldB (op : BoolOp) : List E → Option E
  | [] => none
  | [x] => some x
  | x :: r => (foldB op r).map fun y => mkB op x y

noncomputable def noMark (op : CmpOp) (r : Expr) : Bool := !behindInMarks op r

noncomputable def baseOk (e : Expr) : Bool := match vw e with
  | .name _ => true
  | .attr _ => true
  | .sub _ => true
  | .call t => (match vw t.1 with | .attr _ => true | _ => false)
  | _ => false
theorem base_eq {o : Expr} {x : Str} {env : Env} {act : Sem Value} (h : baseOk o = true) : attributeBase o x env act = act := by
  unfold baseOk at h
  cases q : vw o <;> rw [q] at h <;> first | exact ft h | skip
  · obtain ⟨p, rfl⟩ := vw_of q; rfl
  · have e : o = _ := vw_of q
    subst e; rfl
  · obtain ⟨p, rfl⟩ := vw_of q; rfl
  · obtain ⟨p, rfl⟩ := vw_of q
    rename_i t
    have h : (match vw t.1 with | .attr _ => true | _ => false) = true := h
    cases q2 : vw t.1 <;> rw [q2] at h <;> first | exact ft h | skip
    have e : t.1 = _ := vw_of q2
    rw [e]; rfl

inductive CK where
  | setLen (a : Expr) | revl (a : Expr) | isi (a : Expr) (t : Str) | plain

noncomputable def one? {α : Type} (f : Expr → Expr → Option α) (t : Expr × List Expr × List Keyword) : Option α := match t.2.1 with
  | [a] => (match t.2.2 with | [] => f t.1 a | _ => none)
  | _ => none
set_option tactic.hygienic false in
theorem one?_inv {α : Type} {f : Expr → Expr → Option α} {t : Expr × List Expr × List Keyword} {z : α} (h : one? f t = some z) : ∃ a, t.2 = ([a], []) ∧ f t.1 a = some z := by
  obtain ⟨fn, as, ks⟩ := t
  rcases as with _ | ⟨a, _ | ⟨b, as⟩⟩
  · exact nn h
  · cases ks with
    | nil => exact ⟨a, rfl, h⟩
    | cons => exact nn h
  · exact nn h
noncomputable def ck2 (c : CE) (f : Str) (a : Expr) (t : Str) : CK := match (f == ("isinstance" : Str) && (c.glob f && (c.glob t && !(t == ("__debug__" : Str))))) with
  | true => .isi a t
  | false => .plain
noncomputable def callKind (c : CE) (f : Str) (args : List Expr) : CK := match args with
  | [a, t] => (match name? t with | some x => ck2 c f a x | none => .plain)
  | _ => .plain

noncomputable def isiTy (c : CE) (t : Str) : Option Ty := match tyName.lookup t with
  | some ty => some ty
  | none => (match c.clss.lookup t with
    | some _ => some .inst
    | none => (match c.excs.lookup t with
      | some C => some (.exc C (c.excs.map (·.2)))
      | none => gd (t == ("ValueError" : Str)) (some (.val (c.excs.map (·.2))))))

noncomputable def plainCall' (c : CE) (f : Str) (as : List E) : Option E := match bltName.lookup f with
  | some b => gd (bOk b && !c.hnd) (some (.blt b as))
  | none => (match c.fns.lookup f with
    | some k => some (.call k as)
    | none => (c.clss.lookup f).map fun k => .mk k as)

noncomputable def methCall (c : CE) (x : Str) (a : E) (as : List E) : Option E := match methName.lookup x with
  | some m => some (.meth a m as)
  | none => (c.mths.lookup x).map fun f => .umeth a f as

noncomputable def cConst : Const → Option E
  | .none => some .none
  | .bool b => some (.bool b)
  | .int i => some (.int i)
  | .str s => some (.str s)
  | _ => none
noncomputable def cName (c : CE) (x : Str) : Option E := gd (!(x == ("__debug__" : Str)) && !(x == ("__classdict__" : Str))) (match c.loc? x with
  | some i => some (.loc i)
  | none => gd (c.glob x) ((c.consts.lookup x).map .int))
noncomputable def isPow : Operator → Bool | .Pow => true | _ => false
noncomputable def cBin (f : Expr → Option E) (l : Expr) (op : Operator) (r : Expr) : Option E := match opOk op with
  | true => opt2 (.bin op) (f l) (f r)
  | false => gd (isPow op) ((constI? l).bind fun a => (constI? r).bind fun b => gd (decide (0 ≤ a ∧ a ≤ 10 ∧ 0 ≤ b ∧ b ≤ 100)) (some (.pow a.toNat b.toNat)))
noncomputable def cUn (f : Expr → Option E) (op : UnaryOp) (x : Expr) : Option E := match op with
  | .Not => (f x).map .not
  | .USub => (f x).map .neg
  | _ => none
noncomputable def cCmp (f : Expr → Option E) (l : Expr) (ops : List CmpOp) (rs : List Expr) : Option E := match ops with
  | [op] => (match rs with | [r] => gd (noMark op r) (opt2 (.cmp op) (f l) (f r)) | _ => none)
  | [o1, o2] => (match rs with | [m, r] => gd (noMark o2 r) (opt3 (.cmp2 o1 o2) (f l) (f m) (f r)) | _ => none)
  | _ => none
noncomputable def cSlice (f : Expr → Option E) (v : Expr) : Option Expr → Option Expr → Option Expr → Option E
  | some lo, none, none => opt2 .slo (f v) (f lo)
  | none, some hi, none => opt2 .shi (f v) (f hi)
  | _, _, _ => none
noncomputable def cSub (f : Expr → Option E) (v i : Expr) : Option E := match vw i with
  | .slice t => cSlice f v t.1 t.2.1 t.2.2
  | _ => opt2 .sub (f v) (f i)
noncomputable def cDict (f : Expr → Option E) (ks : List (Option Expr)) (vs : List Expr) : Option E := match ks with
  | [] => none
  | [some k] => (match vs with | [v] => opt2 .dict1 (f k) (f v) | _ => none)
  | _ => none
noncomputable def cCallN (c : CE) (f : Expr → Option E) (x : Str) (args : List Expr) : Option E := match callKind c x args with
  | .setLen _ => none
  | .revl _ => none
  | .isi a t => opt2 .isi (f a) (isiTy c t)
  | .plain => gd (decide (args.length ≤ 8) && (c.glob x && !(x == ("__debug__" : Str)))) ((mapO f args).bind fun as => plainCall' c x as)
noncomputable def kxOp (op : Operator) (a b : Option KX) : Option KX := match op with
  | .Add => opt2 .add a b
  | .Mult => opt2 .mul a b
  | .Mod => opt2 .mod a b
  | _ => none
noncomputable def kxName (c : CE) (p : Str) (sc : Scope) (x : Str) : Option KX := match (x == p) with
  | true => some .par
  | false => gd (sc.names.lookup x == some .free && !(x == ("__classdict__" : Str))) ((c.locC? x).map .var)
noncomputable def cKey : Nat → CE → Str → Scope → Expr → Option KX
  | 0, _, _, _, _ => none
  | n + 1, c, p, sc, e => match vw e with
    | .const k => (match k with | .int i => some (.num i) | _ => none)
    | .name x => gd (!(x == ("__debug__" : Str))) (kxName c p sc x)
    | .bin t => kxOp t.2.1 (cKey n c p sc t.1) (cKey n c p sc t.2.2)
    | _ => none
noncomputable def par? (ps : Arguments) : Option Str := match ps.args with
  | [a] => gd (ps.posonlyargs.isEmpty && (ps.vararg.isNone && (ps.kwonlyargs.isEmpty && (ps.kw_defaults.isEmpty && (ps.kwarg.isNone && ps.defaults.isEmpty))))) (some a.arg)
  | _ => none
noncomputable def cSort (c : CE) (f : Expr → Option E) (x : Str) (a : Expr) (kw : Option Str) (t : Arguments × Expr × Scope × Pos) : Option E :=
  gd (kw == some ("key" : Str) && (x == ("sorted" : Str) && (c.glob x && (c.lam.isSome && (scOk t.2.2.1 && (!t.2.2.1.isGenerator && (!t.2.2.1.isCoroutine && (frmOf c t.2.2.1).isSome)))))))
    ((par? t.1).bind fun p => gd (t.2.2.1.names.lookup p == some .local) (opt2 .srt (f a) (cKey 10 c p t.2.2.1 t.2.1)))
noncomputable def cCallK (c : CE) (f : Expr → Option E) (x : Str) (args : List Expr) (k : Keyword) : Option E := match args with
  | [a] => (match vw k.value with
    | .const v => (match v with | .none => gd (k.arg == some ("default" : Str) && (x == ("max" : Str) && (c.glob x && !c.hnd))) ((f a).map .maxd) | _ => none)
    | .lam t => cSort c f x a k.arg t
    | _ => none)
  | _ => none
noncomputable def cCallM (c : CE) (f : Expr → Option E) (t : Expr × Str × Pos) (args : List Expr) (pos : Pos) : Option E :=
  gd (decide (args.length ≤ 8) && (baseOk t.1 && (t.2.2.endLine == pos.line))) ((f t.1).bind fun a => (mapO f args).bind fun as => methCall c t.2.1 a as)
noncomputable def cJoin (f : Expr → Option E) (s : Str) (t : Expr × Str × Pos) (args : List Expr) (pos : Pos) : Option E := match args with
  | [a] => gd (t.2.1 == ("join" : Str) && (t.2.2.endLine == pos.line)) ((f a).map (.join s))
  | _ => none
noncomputable def cCall (c : CE) (f : Expr → Option E) (fn : Expr) (args : List Expr) (ks : List Keyword) (pos : Pos) : Option E := match name? fn with
  | some x => (match ks with
    | [] => cCallN c f x args
    | [k] => cCallK c f x args k
    | _ => none)
  | none => (match ks with
    | [] => (match vw fn with
      | .attr t =>
        (match vw t.1 with
        | .const k => (match k with | .str s => cJoin f s t args pos | _ => none)
        | _ => cCallM c f t args pos)
      | _ => none)
    | _ => none)
noncomputable def comp1? : List Comprehension → Option (Expr × Expr × List Expr)
  | [g] => gd (g.is_async == 0) (some (g.target, g.iter, g.ifs))
  | _ => none
noncomputable def cComp (c : CE) (rec : CE → Expr → Option E) (elt : Expr) (gens : List Comprehension) (sc : Scope) : Option E := gd (scOk sc) ((comp1? gens).bind fun t =>
  (rec c t.2.1).bind fun it => (tgt (c.sub sc.names) t.1).bind fun tg => (mapO (rec (c.sub sc.names)) t.2.2).bind fun cs => (rec (c.sub sc.names) elt).bind fun x => (frmOf c sc).map fun fr => .comp tg.1 tg.2 it cs x fr)

noncomputable def compX (rec : CE → Expr → Option E) (c : CE) (e : Expr) : Option E := match e with
  | .Constant k _ _ => cConst k
  | .Name x _ => cName c x
  | .BoolOp op vs _ => (mapO (rec c) vs).bind (foldB op)
  | .BinOp l op r _ => cBin (rec c) l op r
  | .UnaryOp op x _ => cUn (rec c) op x
  | .Compare l ops rs _ => cCmp (rec c) l ops rs
  | .Subscript v i _ => cSub (rec c) v i
  | .Attribute v x _ => gd (baseOk v) (opt2 .attr (rec c v) (c.attrs.lookup x))
  | .List es _ => gd (decide (es.length ≤ 60)) ((mapO (rec c) es).map .list)
  | .Tuple es _ _ => gd (decide (es.length ≤ 60)) ((mapO (rec c) es).map .tup)
  | .Dict ks vs _ => cDict (rec c) ks vs
  | .Call f args ks p => cCall c (rec c) f args ks p
  | .ListComp elt gens sc _ => cComp c rec elt gens sc
  | _ => none
noncomputable def compE : Nat → CE → Expr → Option E
  | 0 => fun _ _ => none
  | n + 1 => compX (compE n)

noncomputable def kindOk : Expr → Bool
  | .Constant .. | .Name .. | .BoolOp .. | .BinOp .. | .UnaryOp .. | .Compare .. | .Subscript .. | .Attribute .. | .List .. | .Tuple .. | .Dict .. | .Call .. | .ListComp .. => true
  | _ => false
set_option tactic.hygienic false in
theorem comp_kind {n : Nat} {c : CE} {e : Expr} {a : E} (h : compE n c e = some a) : kindOk e = true := by
  cases n with
  | zero => exact nn h
  | succ n => cases e <;> first | rfl | exact nn h

noncomputable def cAsg (c : CE) (t e : Expr) : Option S := match vw t with
  | .name x => opt2 .asg (c.locW? x) (compE 30 c e)
  | .tup ts => gd (!isTup e) (opt2 .asgT (nameIdxs c ts) (compE 30 c e))
  | .attr t => opt3 .asgA (compE 30 c t.1) (c.attrs.lookup t.2.1) (compE 30 c e)
  | .sub t => opt3 .asgI (compE 30 c t.1) (compE 30 c t.2) (compE 30 c e)
  | _ => none
noncomputable def raise? (e : Expr) : Option Str := match vw e with
  | .call t => one? (fun f a => gd (isStrC a) (name? f)) t
  | _ => none
noncomputable def compSX (rec : CE → Stmt → Option S) (c : CE) (s : Stmt) : Option S := match s with
  | .Expr e _ => gd (!isLC e) ((compE 30 c e).map .expr)
  | .Return v _ => v.bind fun e => (compE 30 c e).map .ret
  | .Assign ts e _ => (match ts with | [t] => cAsg c t e | _ => none)
  | .If t b o _ => opt3 .ifS (compE 30 c t) (mapO (rec c) b) (mapO (rec c) o)
  | .While t b o _ => gd o.isEmpty (opt2 .whileS (compE 30 c t) (mapO (rec c) b))
  | .For t it b o _ => gd o.isEmpty (opt3 (fun tg x y => .forS tg.1 tg.2 (.e x) y) (tgt c t) (compE 30 c it) (mapO (rec c) b))
  | .Raise (some e) none _ => (raise? e).bind fun x => gd (c.glob x && (!(x == ("__debug__" : Str)) && !c.hnd)) ((c.excs.lookup x).map .raise)
  | .Pass _ => some .pass
  | _ => none
noncomputable def compS : Nat → CE → Stmt → Option S
  | 0 => fun _ _ => none
  | n + 1 => compSX (compS n)
noncomputable def CE.hand (c : CE) : CE := { c with fns := c.hfns, clss := [], mths := [], attrs := [], lam := none, hnd := true }
noncomputable def cTry (c : CE) (b : List Stmt) (hs : List ExceptHandler) : Option S := match hs with
  | [.ExceptHandler (some t) (some n) (h0 :: h) _] => (name? t).bind fun x => c.pe.bind fun p => gd (x == p.1 && (c.glob x && (!(x == ("__debug__" : Str)) && c.names.lookup n == some .local))) (opt3 (fun b i h => S.tryS b (c.excs.map (·.2)) i h) (mapO (compS 20 c) b) (c.locW? n) (mapO (compS 20 c.hand) (h0 :: h)))
  | _ => none
noncomputable def compT1 (c : CE) (s : Stmt) : Option S := match s with
  | .Try b hs o fin _ => gd (o.isEmpty && fin.isEmpty) (cTry c b hs)
  | s => compS 20 c s

end Mine

set_option autoImplicit false
namespace Mine
open PySem PyProof.Rows

inductive F2 {α β : Type} (R : α → β → Prop) : List α → List β → Prop
  | nil : F2 R [] []
  | cons {a b as bs} : R a b → F2 R as bs → F2 R (a :: as) (b :: bs)

section
variable {α β : Type} {R R' : α → β → Prop} {as as' : List α} {bs bs' : List β}
set_option tactic.hygienic false in
theorem F2.mono (h : ∀ a b, R a b → R' a b) (f : F2 R as bs) : F2 R' as bs := by
  induction f with
  | nil => exact .nil
  | cons x _ ih => exact .cons (h _ _ x) ih
set_option tactic.hygienic false in
theorem F2.length (f : F2 R as bs) : as.length = bs.length := by
  induction f with
  | nil => rfl
  | cons _ _ ih => exact congrArg (· + 1) ih
set_option tactic.hygienic false in
theorem F2.append (f : F2 R as bs) (r : F2 R as' bs') : F2 R (as ++ as') (bs ++ bs') := by
  induction f with
  | nil => exact r
  | cons x _ ih => exact .cons x ih
set_option tactic.hygienic false in
theorem F2.get (f : F2 R as bs) : ∀ {i : Nat} {a : α}, as[i]? = some a → ∃ b, bs[i]? = some b ∧ R a b := by
  induction f with
  | nil => exact fun h => nn h
  | cons x _ ih =>
    intro i a h
    cases i with
    | zero => exact ⟨_, rfl, Option.some.inj h ▸ x⟩
    | succ i => exact ih h
set_option tactic.hygienic false in
theorem F2.drop (f : F2 R as bs) : ∀ n, F2 R (as.drop n) (bs.drop n) := by
  induction f with
  | nil => intro n; rw [List.drop_nil, List.drop_nil]; exact .nil
  | cons x r ih =>
    intro n
    cases n with
    | zero => exact .cons x r
    | succ n => exact ih n
set_option tactic.hygienic false in
theorem F2.take (f : F2 R as bs) : ∀ n, F2 R (as.take n) (bs.take n) := by
  induction f with
  | nil => intro n; rw [List.take_nil, List.take_nil]; exact .nil
  | cons x r ih =>
    intro n
    cases n with
    | zero => exact .nil
    | succ n => exact .cons x (ih n)
set_option tactic.hygienic false in
theorem F2.reverse (f : F2 R as bs) : F2 R as.reverse bs.reverse := by
  induction f with
  | nil => exact .nil
  | cons x _ ih => rw [List.reverse_cons, List.reverse_cons]; exact ih.append (.cons x .nil)
set_option tactic.hygienic false in
theorem F2.set (f : F2 R as bs) : ∀ {n : Nat} {a : α} {b : β}, R a b → F2 R (as.set n a) (bs.set n b) := by
  induction f with
  | nil => exact fun _ => .nil
  | cons x r ih =>
    intro n a b h
    cases n with
    | zero => exact .cons h r
    | succ n => exact .cons x (ih h)
set_option tactic.hygienic false in
theorem F2.replicate {a : α} {b : β} (h : R a b) (n : Nat) : F2 R (List.replicate n a) (List.replicate n b) := by
  induction n with
  | zero => exact .nil
  | succ n ih => exact .cons h ih
end

noncomputable def Imm (o : Obj) : Prop := (o.cls = .type "tuple" ∨ o.cls = .type "range" ∨ ∃ (C : Addr) (vs : Array Value), o.cls = .ref C ∧ o.data = .fields vs) ∧ (∀ (es : Array DictEntry) (n : Nat), o.data ≠ .dict es n) ∧ ∀ v : Option Value, o.data ≠ .cell v

mutual
noncomputable def RepV (as : List Addr) (h : Heap) : V → Value → Prop
  | .none, x => x = .none
  | .bool b, x => x = .bool b
  | .int i, x => ∃ t, x = .int i t
  | .str s, x => ∃ t, x = .str s t
  | .tup vs, x => ∃ a items n, x = .ref a ∧ h.get? a = some { cls := .type "tuple", data := .seq items n } ∧ items.size ≤ 16777216 ∧ RepVs as h vs items.toList
  | .ref l, x => ∃ a, x = .ref a ∧ as[l]? = some a
  | .rng lo hi, x => ∃ a t u v, x = .ref a ∧ IsRange h a lo hi 1 t u v ∧ (-1000000 ≤ lo ∧ lo ≤ 1000000 ∧ -1000000 ≤ hi ∧ hi ≤ 1000000)
  | .exc c, x => ∃ a o vs, x = .ref a ∧ h.get? a = some o ∧ o.dict = none ∧ o.cls = .ref c ∧ o.data = .fields vs
noncomputable def RepVs (as : List Addr) (h : Heap) : List V → List Value → Prop
  | [], xs => xs = []
  | v :: vs, xs => ∃ y ys, xs = y :: ys ∧ RepV as h v y ∧ RepVs as h vs ys
end

set_option tactic.hygienic false in
theorem RepVs.f2 {as : List Addr} {h : Heap} : ∀ {vs : List V} {xs : List Value}, RepVs as h vs xs ↔ F2 (RepV as h) vs xs
  | [], xs => ⟨fun e => by rw [RepVs] at e; subst e; exact .nil, fun e => by cases e; rw [RepVs]⟩
  | v :: vs, xs => ⟨fun e => by
      rw [RepVs] at e
      obtain ⟨y, ys, rfl, h1, h2⟩ := e
      exact .cons h1 (RepVs.f2.mp h2), fun e => by
      cases e with
      | cons h1 h2 => rw [RepVs]; exact ⟨_, _, rfl, h1, RepVs.f2.mpr h2⟩⟩

structure Keep (as : List Addr) (h : Heap) (as' : List Addr) (h' : Heap) : Prop where
  pre : ∀ (i : Nat) (a : Addr), as[i]? = some a → as'[i]? = some a
  imm : ∀ (a : Addr) (o : Obj), h.get? a = some o → Imm o → h'.get? a = some o

set_option tactic.hygienic false in
theorem imm_tuple {items : Array Value} {n : Nat} : Imm { cls := .type "tuple", data := .seq items n } := ⟨.inl rfl, fun _ _ e => (nomatch e), fun _ e => (nomatch e)⟩
set_option tactic.hygienic false in
theorem imm_exc {o : Obj} {C : Addr} {vs : Array Value} (hc : o.cls = .ref C) (hd : o.data = .fields vs) : Imm o := ⟨.inr (.inr ⟨C, vs, hc, hd⟩), fun _ _ e => (by rw [hd] at e; cases e), fun _ e => (by rw [hd] at e; cases e)⟩
set_option tactic.hygienic false in
theorem imm_range {vs : Array Value} : Imm { cls := .type "range", data := .fields vs } := ⟨.inr (.inl rfl), fun _ _ e => (nomatch e), fun _ e => (nomatch e)⟩

mutual
theorem RepV.keep {as as' : List Addr} {h h' : Heap} (k : Keep as h as' h') : ∀ (v : V) (x : Value), RepV as h v x → RepV as' h' v x
  | .none, x, e => by rw [RepV] at e ⊢; exact e
  | .bool b, x, e => by rw [RepV] at e ⊢; exact e
  | .int i, x, e => by rw [RepV] at e ⊢; exact e
  | .str s, x, e => by rw [RepV] at e ⊢; exact e
  | .tup vs, x, e => by
    rw [RepV] at e ⊢
    obtain ⟨a, items, n, rfl, ho, hz, hr⟩ := e
    exact ⟨a, items, n, rfl, k.imm _ _ ho imm_tuple, hz, RepVs.keep k _ _ hr⟩
  | .ref l, x, e => by
    rw [RepV] at e ⊢
    obtain ⟨a, rfl, ha⟩ := e
    exact ⟨a, rfl, k.pre _ _ ha⟩
  | .rng lo hi, x, e => by
    rw [RepV] at e ⊢
    obtain ⟨a, t, u, v, rfl, ho, hb⟩ := e
    exact ⟨a, t, u, v, rfl, k.imm _ _ ho imm_range, hb⟩
  | .exc c, x, e => by
    rw [RepV] at e ⊢
    obtain ⟨a, o, vs, rfl, ho, hn, hc, hd⟩ := e
    exact ⟨a, o, vs, rfl, k.imm _ _ ho (imm_exc hc hd), hn, hc, hd⟩
theorem RepVs.keep {as as' : List Addr} {h h' : Heap} (k : Keep as h as' h') : ∀ (vs : List V) (xs : List Value), RepVs as h vs xs → RepVs as' h' vs xs
  | [], xs, e => by rw [RepVs] at e ⊢; exact e
  | v :: vs, xs, e => by
    rw [RepVs] at e ⊢
    obtain ⟨y, ys, rfl, h1, h2⟩ := e
    exact ⟨y, ys, rfl, RepV.keep k _ _ h1, RepVs.keep k _ _ h2⟩
end

structure Cfg where
  prog : Program
  w : World
  b : Heap
  C : Addr
  at' : List (Nat × Str)
  scr : Obj
  tab : Addr
  hd : Option Addr := none

noncomputable def EntOk (g : Cfg) (as : List Addr) (h : Heap) (e : Nat × V) (d : DictEntry) : Prop :=
  ∃ x t, g.at'.lookup e.1 = some x ∧ d.key = .str x t ∧ RepV as h e.2 d.val

noncomputable def RepO (g : Cfg) (as : List Addr) (h : Heap) (o : AO) (a : Addr) : Prop := match o with
  | .lst vs => ∃ items, h.PlainList a items ∧ RepVs as h vs items.toList ∧ vs.length ≤ 16777216
  | .dI es => ∃ kvs, h.DictOf (intKind g.prog g.w) a kvs ∧ F2 (fun (e : Int × V) (x : Int × Value) => e.1 = x.1 ∧ RepV as h e.2 x.2) es kvs ∧ es.length ≤ 1000000 ∧ (a == sysModules) = false
  | .inst d => ∃ dx, as[d]? = some dx ∧ h.get? a = some { cls := .ref g.C, dict := some dx, data := .plain }
  | .att es => ∃ ents n, h.get? a = some { cls := .type "dict", data := .dict (List.toArray ents) n } ∧ F2 (EntOk g as h) es ents ∧ es.length ≤ 100
  | .frz vs => ∃ items n, h.get? a = some g.scr ∧ g.scr = { cls := .type "list", data := .seq items n } ∧ RepVs as h vs items.toList ∧ vs.length ≤ 16777216
  | .tab b => a = g.tab ∧ ∃ ps : Array Value, h.get? a = some { cls := .none, data := .fields ps } ∧ (b = false → ps = #[])

noncomputable def Hnd (hd : Option Addr) (h : Heap) : Prop := ∀ a, hd = some a → ∃ o C vs, h.get? a = some o ∧ o.cls = .ref C ∧ o.data = .fields vs ∧ vs[2]? = some .none
set_option tactic.hygienic false in
theorem Hnd.keep {hd : Option Addr} {as as' : List Addr} {h h' : Heap} (x : Hnd hd h) (k : Keep as h as' h') : Hnd hd h' := fun a e =>
  let ⟨o, C, vs, e1, e2, e3, e4⟩ := x a e; ⟨o, C, vs, k.imm _ _ e1 (imm_exc e2 e3), e2, e3, e4⟩
structure Rel (g : Cfg) (as : List Addr) (σ : Sto) (h : Heap) : Prop where
  base : ∀ (a : Addr) (o : Obj), g.b.get? a = some o → h.get? a = some o
  len : as.length = σ.length
  nd : as.Nodup
  new : ∀ a ∈ as, g.b.get? a = none
  obj : ∀ (i : Nat) (a : Addr) (o : AO), as[i]? = some a → σ[i]? = some o → RepO g as h o a
  hnd : Hnd g.hd h

structure Step (own as : List Addr) (h : Heap) (as' : List Addr) (h' : Heap) : Prop where
  pre : ∃ t, as' = as ++ t ∧ ∀ a ∈ t, h.get? a = none
  ext : ∀ (a : Addr) (o : Obj), h.get? a = some o → a ∉ own → a ∉ as → h'.get? a = some o

set_option tactic.hygienic false in
theorem Step.refl (own as : List Addr) (h : Heap) : Step own as h as h := ⟨⟨[], by simp, by simp⟩, fun _ _ e _ _ => e⟩

set_option tactic.hygienic false in
theorem Step.mem {own as as' : List Addr} {h h' : Heap} (x : Step own as h as' h') {a : Addr} (ha : a ∈ as) : a ∈ as' := by
  obtain ⟨⟨t, rfl, _⟩, _⟩ := x
  exact List.mem_append_left _ ha
set_option tactic.hygienic false in
theorem Step.get {own as as' : List Addr} {h h' : Heap} (x : Step own as h as' h') {i : Nat} {a : Addr} (ha : as[i]? = some a) : as'[i]? = some a := by
  obtain ⟨⟨t, rfl, _⟩, _⟩ := x
  rw [List.getElem?_append_left (by exact (List.getElem?_eq_some_iff.mp ha).1)]; exact ha

set_option tactic.hygienic false in
theorem Step.trans {own as as1 as2 : List Addr} {h h1 h2 : Heap} (x : Step own as h as1 h1) (y : Step own as1 h1 as2 h2) (nd : as2.Nodup) (off : ∀ a ∈ own, a ∉ as2) : Step own as h as2 h2 := by
  obtain ⟨⟨t, rfl, ht⟩, x2⟩ := x
  obtain ⟨⟨u, rfl, hu⟩, y2⟩ := y
  refine ⟨⟨t ++ u, by simp, fun a ha => ?_⟩, fun a o e h1 h3 => ?_⟩
  · rcases List.mem_append.mp ha with q | q
    · exact ht a q
    · cases e : h.get? a with
      | none => rfl
      | some o =>
        have h1' : a ∉ own := fun z => off a z (List.mem_append_right _ q)
        have h2' : a ∉ as := fun z => (List.nodup_append.mp nd).2.2 a (List.mem_append_left _ z) a q rfl
        have := x2 a o e h1' h2'
        rw [hu a q] at this; cases this
  · refine y2 a o (x2 a o e h1 h3) h1 fun q => ?_
    rcases List.mem_append.mp q with q | q
    · exact h3 q
    · rw [ht a q] at e; cases e

set_option tactic.hygienic false in
theorem Step.shrink {own own' as as' : List Addr} {h h' : Heap} (x : Step own' as h as' h') (hs : ∀ a ∈ own', a ∈ own ∨ h.get? a = none) : Step own as h as' h' :=
  ⟨x.pre, fun a o e h1 h2 => x.ext a o e (fun q => (hs a q).elim h1 fun z => by rw [z] at e; cases e) h2⟩
set_option tactic.hygienic false in
theorem Step.grow {own own' as as' : List Addr} {h h' : Heap} (x : Step own as h as' h') (hs : ∀ a ∈ own, a ∈ own') : Step own' as h as' h' :=
  ⟨x.pre, fun a o e h1 h2 => x.ext a o e (fun q => h1 (hs a q)) h2⟩
set_option tactic.hygienic false in
theorem Step.of_ext {own as : List Addr} {h h' : Heap} (k : ∀ (a : Addr) (o : Obj), h.get? a = some o → h'.get? a = some o) : Step own as h as h' :=
  ⟨⟨[], by simp, by simp⟩, fun a o e _ _ => k a o e⟩

set_option tactic.hygienic false in
theorem RepO.there {g : Cfg} {as : List Addr} {h : Heap} {o : AO} {a : Addr} (r : RepO g as h o a) : ∃ ob, h.get? a = some ob ∧ ¬ Imm ob := by
  cases o with
  | lst vs =>
    obtain ⟨items, ⟨n, e⟩, _⟩ := r
    exact ⟨_, e, fun q => by rcases q.1 with q | q <;> simp at q⟩
  | dI es =>
    obtain ⟨kvs, ⟨ob, es', ep, e, _, hd, _⟩, _⟩ := r
    exact ⟨_, e, fun q => q.2.1 _ _ hd⟩
  | inst d =>
    obtain ⟨dx, _, e⟩ := r
    exact ⟨_, e, fun q => by rcases q.1 with q | q <;> simp at q⟩
  | att es =>
    obtain ⟨ents, n, e, _⟩ := r
    exact ⟨_, e, fun q => q.2.1 _ _ rfl⟩
  | frz vs =>
    obtain ⟨items, n, e, q, _⟩ := r
    exact ⟨_, e, fun z => by rw [q] at z; rcases z.1 with z | z <;> simp at z⟩
  | tab b =>
    obtain ⟨_, ps, e, _⟩ := r
    exact ⟨_, e, fun z => by rcases z.1 with z | z <;> simp at z⟩

set_option tactic.hygienic false in
theorem Rel.there {g : Cfg} {as : List Addr} {σ : Sto} {h : Heap} (R : Rel g as σ h) {a : Addr} (ha : a ∈ as) : ∃ ob, h.get? a = some ob ∧ ¬ Imm ob := by
  obtain ⟨i, hi, rfl⟩ := List.getElem_of_mem ha
  have hi' : i < σ.length := R.len ▸ hi
  exact (R.obj i as[i] σ[i] (by simp [hi]) (by simp [hi'])).there

set_option tactic.hygienic false in
theorem Rel.keep {g : Cfg} {own as as' : List Addr} {σ : Sto} {h h' : Heap} (R : Rel g as σ h) (x : Step own as h as' h') (ho : ∀ a ∈ own, ∀ o, h.get? a = some o → ¬ Imm o) : Keep as h as' h' :=
  ⟨fun _ _ => x.get, fun a o e hi => x.ext a o e (fun q => ho a q o e hi) fun q => by
    obtain ⟨ob, e', hn⟩ := R.there q
    rw [e] at e'; cases e'; exact hn hi⟩
set_option tactic.hygienic false in
theorem Rel.keep0 {g : Cfg} {as as' : List Addr} {σ : Sto} {h h' : Heap} (R : Rel g as σ h) (x : Step [] as h as' h') : Keep as h as' h' := R.keep x (by simp)

set_option tactic.hygienic false in
theorem RepO.keep {g : Cfg} {as as' : List Addr} {h h' : Heap} {o : AO} {a : Addr} (r : RepO g as h o a) (k : Keep as h as' h') (hk : ∀ ob, h.get? a = some ob → h'.get? a = some ob) : RepO g as' h' o a := by
  cases o with
  | lst vs =>
    obtain ⟨items, p, q, z⟩ := r
    exact ⟨items, p.at hk, RepVs.keep k _ _ q, z⟩
  | dI es =>
    obtain ⟨kvs, p, q, z⟩ := r
    exact ⟨kvs, p.at hk, q.mono fun _ _ y => ⟨y.1, RepV.keep k _ _ y.2⟩, z⟩
  | inst d =>
    obtain ⟨dx, p, q⟩ := r
    exact ⟨dx, k.pre _ _ p, hk _ q⟩
  | att es =>
    obtain ⟨ents, n, p, q, z⟩ := r
    exact ⟨ents, n, hk _ p, q.mono fun _ _ ⟨x, t, y1, y2, y3⟩ => ⟨x, t, y1, y2, RepV.keep k _ _ y3⟩, z⟩
  | frz vs =>
    obtain ⟨items, n, e, q, w, z⟩ := r
    exact ⟨items, n, hk _ e, q, RepVs.keep k _ _ w, z⟩
  | tab b =>
    obtain ⟨e0, ps, e, q⟩ := r
    exact ⟨e0, ps, hk _ e, q⟩

set_option tactic.hygienic false in
theorem Rel.ext {g : Cfg} {as : List Addr} {σ : Sto} {h h' : Heap} (R : Rel g as σ h) (k : ∀ (a : Addr) (o : Obj), h.get? a = some o → h'.get? a = some o) : Rel g as σ h' :=
  have K : Keep as h as h' := ⟨fun _ _ e => e, fun a o e _ => k a o e⟩
  ⟨fun a o e => k a o (R.base a o e), R.len, R.nd, R.new, fun i a o h1 h2 => (R.obj i a o h1 h2).keep K fun ob e => k a ob e, R.hnd.keep K⟩

set_option tactic.hygienic false in
theorem Rel.push {g : Cfg} {as : List Addr} {σ : Sto} {h h' : Heap} {o : AO} {a : Addr} (R : Rel g as σ h) (k : ∀ (a : Addr) (o : Obj), h.get? a = some o → h'.get? a = some o) (hn : h.get? a = none) (ho : RepO g (as ++ [a]) h' o a) : Rel g (as ++ [a]) (σ ++ [o]) h' := by
  have R' := R.ext k
  have hna : a ∉ as := fun q => by obtain ⟨ob, e, _⟩ := R.there q; rw [hn] at e; cases e
  refine ⟨R'.base, by simp [R.len], ?_, fun b hb => ?_, fun i b ob h1 h2 => ?_, R'.hnd⟩
  · exact List.nodup_append.mpr ⟨R.nd, by simp, fun x hx y hy e => by simp at hy; subst hy; subst e; exact hna hx⟩
  · rcases List.mem_append.mp hb with q | q
    · exact R.new b q
    · simp at q; subst q
      cases e : g.b.get? b with
      | none => rfl
      | some o => have := R.base b o e; rw [hn] at this; cases this
  · rcases Nat.lt_trichotomy i as.length with hi | hi | hi
    · rw [List.getElem?_append_left hi] at h1
      rw [List.getElem?_append_left (R.len ▸ hi)] at h2
      exact (R'.obj i b ob h1 h2).keep ⟨fun j c e => by rw [List.getElem?_append_left (List.getElem?_eq_some_iff.mp e).1]; exact e, fun _ _ e _ => e⟩ fun _ e => e
    · subst hi
      rw [R.len] at h2
      simp at h1 h2; subst h1; subst h2; exact ho
    · rw [List.getElem?_eq_none (by simp; lia)] at h1; cases h1
set_option tactic.hygienic false in
theorem step_push {as : List Addr} {h h' : Heap} {a : Addr} (k : ∀ (a : Addr) (o : Obj), h.get? a = some o → h'.get? a = some o) (hn : h.get? a = none) : Step [] as h (as ++ [a]) h' :=
  ⟨⟨[a], rfl, fun b hb => by simp at hb; subst hb; exact hn⟩, fun b o e _ _ => k b o e⟩

set_option tactic.hygienic false in
theorem Rel.upd {g : Cfg} {as : List Addr} {σ : Sto} {h h' : Heap} {o : AO} {a : Addr} {l : Nat} (R : Rel g as σ h) (hl : as[l]? = some a) (k : ∀ (b : Addr) (o : Obj), b ≠ a → h.get? b = some o → h'.get? b = some o)
    (ho : Keep as h as h' → RepO g as h' o a) : Keep as h as h' ∧ Rel g as (σ.set l o) h' ∧ Step [] as h as h' := by
  have ha : a ∈ as := List.mem_of_getElem? hl
  obtain ⟨oa, ea, na⟩ := R.there ha
  have K : Keep as h as h' := ⟨fun _ _ e => e, fun b ob e hi => k b ob (fun q => by subst q; rw [ea] at e; cases e; exact na hi) e⟩
  refine ⟨K, ⟨fun b ob e => k b ob (fun q => ?_) (R.base b ob e), by simp [R.len], R.nd, R.new, fun i b ob h1 h2 => ?_, R.hnd.keep K⟩, ⟨⟨[], by simp, by simp⟩, fun b ob e _ q => k b ob (fun z => q (z ▸ ha)) e⟩⟩
  · subst q; rw [R.new _ ha] at e; cases e
  · by_cases hi : i = l
    · subst hi
      rw [hl] at h1; cases h1
      have hlt : i < σ.length := by
        have := (List.getElem?_eq_some_iff.mp hl).1; rw [R.len] at this; exact this
      rw [List.getElem?_set_self hlt] at h2; cases h2
      exact ho K
    · rw [List.getElem?_set_ne (Ne.symm hi)] at h2
      refine (R.obj i b ob h1 h2).keep K fun oc e => k b oc (fun q => hi ?_) e
      subst q
      obtain ⟨j1, j2⟩ := List.getElem?_eq_some_iff.mp h1
      obtain ⟨j3, j4⟩ := List.getElem?_eq_some_iff.mp hl
      exact (List.getElem_inj R.nd).mp (j2.trans j4.symm)

structure FrRel (g : Cfg) (env : Env) (as : List Addr) (fr : Fra) (h : Heap) : Prop where
  kind : env.scope.kind = .function
  above : g.b.objs.size ≤ env.locals
  glob : env.globals = mainGlobals
  blt : env.builtins = builtinsNs
  len : fr.length = env.scope.names.length
  nd : (env.scope.names.map (·.1)).Nodup
  ns : ∃ m, h.Ns env.locals m ∧ ∀ (i : Nat) (x : Str) (v : V), env.scope.names[i]? = some (x, .local) → fr[i]? = some (some v) → ∃ val, m x = some val ∧ RepV as h v val
  cells : ∀ (i : Nat) (x : Str) (k : NameKind), env.scope.names[i]? = some (x, k) → (k = .cell ∨ k = .free) →
    ∃ c cv, env.cells.lookup x = some c ∧ h.IsCell c cv ∧ (∀ v, fr[i]? = some (some v) → ∃ val, cv = some val ∧ RepV as h v val)
  off : env.locals ∉ as
  offc : ∀ x c, env.cells.lookup x = some c → c ∉ as ∧ c ≠ env.locals ∧ ∃ cv, h.IsCell c cv
  apart : ∀ x y c, env.cells.lookup x = some c → env.cells.lookup y = some c → x = y
  newc : ∀ x c, env.cells.lookup x = some c → g.b.get? c = none

noncomputable def ownOf (env : Env) : List Addr := env.locals :: env.cells.filterMap (fun p => env.cells.lookup p.1)

theorem lookup_mem' {α β : Type} [BEq α] [LawfulBEq α] {l : List (α × β)} {x : α} {y : β} (e : l.lookup x = some y) : (x, y) ∈ l := by
  induction l with
  | nil => cases e
  | cons p r ih =>
    obtain ⟨a, b⟩ := p
    rw [List.lookup_cons] at e
    split at e
    · rename_i q; cases e; rw [eq_of_beq q]; exact .head _
    · exact .tail _ (ih e)
set_option tactic.hygienic false in
theorem mem_own {env : Env} {x : Str} {c : Addr} (e : env.cells.lookup x = some c) : c ∈ ownOf env := .tail _ (List.mem_filterMap.mpr ⟨(x, c), lookup_mem' e, e⟩)
set_option tactic.hygienic false in
theorem own_cases {env : Env} {a : Addr} (h : a ∈ ownOf env) : a = env.locals ∨ ∃ x, env.cells.lookup x = some a := by
  rcases List.mem_cons.mp h with q | q
  · exact .inl q
  · obtain ⟨p, _, e⟩ := List.mem_filterMap.mp q
    exact .inr ⟨_, e⟩
set_option tactic.hygienic false in
theorem FrRel.offs {g : Cfg} {env : Env} {as : List Addr} {fr : Fra} {h : Heap} (F : FrRel g env as fr h) : ∀ a ∈ ownOf env, a ∉ as := fun a ha => by
  rcases own_cases ha with rfl | ⟨x, e⟩
  · exact F.off
  · exact (F.offc _ _ e).1

theorem FrRel.keep {g : Cfg} {own : List Addr} {env : Env} {as as' : List Addr} {fr : Fra} {h h' : Heap} (F : FrRel g env as fr h) (K : Keep as h as' h') (x : Step own as h as' h') (ho : ∀ a ∈ ownOf env, a ∉ own) : FrRel g env as' fr h' := by
  obtain ⟨⟨t, ht, hf⟩, hx⟩ := x
  obtain ⟨m, hm, hv⟩ := F.ns
  refine ⟨F.kind, F.above, F.glob, F.blt, F.len, F.nd, ⟨m, hm.at' fun o e => hx _ o e (ho _ (.head _)) F.off, fun i x v h1 h2 => ?_⟩, fun i x k h1 h2 => ?_, fun q => ?_, fun x c hc => ⟨fun q => ?_, (F.offc _ _ hc).2.1, ?_⟩, F.apart, F.newc⟩
  · obtain ⟨val, e1, e2⟩ := hv i x v h1 h2
    exact ⟨val, e1, RepV.keep K _ _ e2⟩
  · obtain ⟨c, cv, e1, ⟨o, e2, e2'⟩, e3⟩ := F.cells i x k h1 h2
    have hc : c ∈ ownOf env := mem_own e1
    refine ⟨c, cv, e1, ⟨o, hx _ _ e2 (ho _ hc) (F.offc _ _ e1).1, e2'⟩, fun v e => ?_⟩
    obtain ⟨val, e4, e5⟩ := e3 v e
    exact ⟨val, e4, RepV.keep K _ _ e5⟩
  · rw [ht] at q
    rcases List.mem_append.mp q with q | q
    · exact F.off q
    · obtain ⟨o, es, ep, e, _⟩ := hm; rw [hf _ q] at e; cases e
  · rw [ht] at q
    rcases List.mem_append.mp q with q | q
    · exact (F.offc _ _ hc).1 q
    · obtain ⟨cv, o, e, _⟩ := (F.offc _ _ hc).2.2; rw [hf _ q] at e; cases e
  · obtain ⟨cv, o, e, e'⟩ := (F.offc _ _ hc).2.2
    exact ⟨cv, o, hx _ _ e (ho _ (mem_own hc)) (F.offc _ _ hc).1, e'⟩
where
  lookup_mem {α β : Type} [BEq α] [LawfulBEq α] {l : List (α × β)} {x : α} {y : β} (e : l.lookup x = some y) : (x, y) ∈ l := by
    induction l with
    | nil => cases e
    | cons p r ih =>
      obtain ⟨a, b⟩ := p
      rw [List.lookup_cons] at e
      split at e
      · rename_i q; cases e; rw [eq_of_beq q]; exact .head _
      · exact .tail _ (ih e)

noncomputable def newsOf (b : Heap) (L : Addr) (h : Heap) : List (Addr × Obj) :=
  (List.range h.objs.size).filterMap fun a => if a ≠ L ∧ b.get? a = none then (h.get? a).map fun o => (a, o) else none
theorem mem_newsOf {b : Heap} {L : Addr} {h : Heap} {p : Addr × Obj} : p ∈ newsOf b L h ↔ h.get? p.1 = some p.2 ∧ p.1 ≠ L ∧ b.get? p.1 = none := by
  unfold newsOf
  rw [List.mem_filterMap]
  constructor
  · rintro ⟨a, _, e⟩
    split at e
    · rename_i hc
      obtain ⟨o, e1, e2⟩ := Option.map_eq_some_iff.mp e
      subst e2
      exact ⟨e1, hc⟩
    · cases e
  · rintro ⟨e1, e2⟩
    refine ⟨p.1, List.mem_range.mpr (Heap.lt_size e1), ?_⟩
    rw [if_pos e2, e1]; rfl
set_option tactic.hygienic false in
theorem news_all (b : Heap) (L : Addr) (h : Heap) : News b L h (newsOf b L h) := fun _ hp => mem_newsOf.mp hp
set_option tactic.hygienic false in
theorem FrRel.fr {g : Cfg} {env : Env} {as : List Addr} {fr : Fra} {σ : Sto} {h : Heap} (F : FrRel g env as fr h) (R : Rel g as σ h) : ∃ m, Fr g.b env.locals h m ∧ ∀ (i : Nat) (x : Str) (v : V), env.scope.names[i]? = some (x, .local) → fr[i]? = some (some v) → ∃ val, m x = some val ∧ RepV as h v val :=
  let ⟨m, hm, hv⟩ := F.ns; ⟨m, ⟨hm, R.base, F.above⟩, hv⟩
set_option tactic.hygienic false in
theorem ext_of_news {b h h' : Heap} {L : Addr} {m : Str → Option Value} {news : List (Addr × Obj)} (Fr' : Fr b L h' m) (N : News b L h' news) (hs : ∀ p ∈ newsOf b L h, p ∈ news) (hb : ∀ (a : Addr) (o : Obj), b.get? a = some o → h.get? a = some o) :
    ∀ (a : Addr) (o : Obj), a ≠ L → h.get? a = some o → h'.get? a = some o := fun a o hL e => by
  cases q : b.get? a with
  | none => exact (N (a, o) (hs _ (mem_newsOf.mpr ⟨e, hL, q⟩))).1
  | some o' =>
    have := hb a o' q
    rw [e] at this; cases this
    exact Fr'.keep _ _ q

set_option tactic.hygienic false in
theorem FrRel.notImm {g : Cfg} {env : Env} {as : List Addr} {fr : Fra} {h : Heap} (F : FrRel g env as fr h) : ∀ a ∈ [env.locals], ∀ o, h.get? a = some o → ¬ Imm o := fun a ha o e hi => by
  simp at ha; subst ha
  obtain ⟨m, ⟨o', es, ep, e', d, _⟩, _⟩ := F.ns
  rw [e] at e'; cases e'
  exact hi.2.1 _ _ d

end Mine

set_option autoImplicit false
set_option linter.unusedVariables false
namespace Mine
open PySem PyProof.Rows

set_option tactic.hygienic false in
theorem entry_unchain : entryFor table "proto.unchain" = some Builtin.«proto.unchain» := entryFor_of_fast (by kernel_rfl)
inductive HandOk (A : Around) (h : Heap) : Prop
  | no (e : A.handled = none) : HandOk A h
  | is {a C : Addr} {o : Obj} {vs : Array Value} (e : A.handled = some (.ref a)) (ho : h.get? a = some o) (hc : o.cls = .ref C) (hd : o.data = .fields vs) (h2 : vs[2]? = some .none) : HandOk A h
section
variable {prog : Program} {w : World} {A : Around} {E : Value → Shared → Prop} {s : Shared}
theorem stop_raise {α : Type} {Q : α → Shared → Prop} (hh : HandOk A s.heap)
    (h : ∀ e h', (∀ (b : Addr) (o : Obj), s.heap.get? b = some o → h'.get? b = some o) → (∃ o, h'.get? e = some o ∧ o.cls = .type "StopIteration") → E (.ref e) { s with heap := h' }) : wpAny (model prog w) A (newExc (.type "StopIteration") [] >>= fun e => (raiseNew e : Sem α)) Q E s := by
  refine wpAny_bind ?_
  simp only [newExc, newTuple]
  refine wpAny_bind (wpAny_newObj_type ?_ (by size_fits))
  refine wpAny_bind (m := firstArgMember _ _) (wpAny_of_eq (a := Value.none) (by first | rfl | (simp only [firstArgMember]; rfl)) ?_)
  refine wpAny_newObj_type ?_ (by size_fits)
  have k2 : ∀ (o1 o2 : Obj) (b : Addr) (o : Obj), s.heap.get? b = some o → ((s.heap.push o1).push o2).get? b = some o := fun o1 o2 b o e => Heap.get?_push_of_some _ (Heap.get?_push_of_some _ e)
  unfold raiseNew
  refine wpAny_bind (wpAny_handled ?_)
  cases hh with
  | no hh =>
    rw [hh]
    exact wpAny_bind (wpAny_pure (wpAny_throw (h _ _ (k2 _ _) ⟨_, Heap.get?_push_size _ rfl, rfl⟩)))
  | is hh ho hc hd h2 =>
    rename_i a C o vs
    rw [hh]
    have hlt := Heap.lt_size (Heap.get?_push_of_some { cls := .type "tuple", data := .seq ([] : List Value).toArray } ho)
    have hne := Nat.ne_of_lt hlt
    dsimp only
    rw [if_pos (show (Value.ref a != Value.ref (s.heap.push { cls := .type "tuple", data := .seq ([] : List Value).toArray }).objs.size) = true from by
      show (!(Value.ref a == Value.ref _)) = true
      rw [beq_eq_false_iff_ne.mpr (fun q => hne (Value.ref.inj q))]; rfl)]
    refine wpAny_bind (wpAny_holding (wpAny_runValue (codeAny_builtin entry_unchain ?_)))
    show wpAny _ _ (field (.ref a) 2 >>= _) _ _ _
    refine wpAny_bind (wpAny_field (k2 _ _ _ _ ho) hd (x := .none) h2 ?_)
    show wpAny _ _ (ret .none) _ _ _
    refine wpAny_pure ?_
    refine wpAny_bind (m := setField (.ref _) 2 (.ref a)) (wpAny_setField (Heap.get?_push_size _ rfl) rfl (by simp; decide) (wpAny_throw ?_))
    refine h _ _ (fun b ob e => ?_) ⟨_, Heap.get?_update_self _ (Heap.get?_push_size _ rfl) rfl, rfl⟩
    rw [Heap.get?_update_other _ _ (fun q => ?_)]
    · exact k2 _ _ _ _ e
    · have h1 := Heap.lt_size (Heap.get?_push_of_some { cls := .type "tuple", data := .seq ([] : List Value).toArray } e)
      rw [← q] at h1
      exact Nat.lt_irrefl _ h1
set_option tactic.hygienic false in
theorem stop_seen {Q : Option Value → Shared → Prop} {X : Value → Shared → Prop} {e : Addr} (h1 : ∃ o, s.heap.get? e = some o ∧ o.cls = .type "StopIteration") (hQ : Q none s) :
    wpAny (model prog w) A (do if (← isInstance (.ref e) (.type "StopIteration")) = true then pure none else throw (.ref e)) Q X s :=
  wpAny_bind (wpAny_isInstance (T := "StopIteration") (b := true) h1 isSubtype_stop (wpAny_pure hQ))
set_option tactic.hygienic false in
theorem HandOk.upd {h : Heap} {it : Addr} {o : Obj} {t : String} {f : Obj → Obj} (hh : HandOk A h) (ho : h.get? it = some o) (hc : o.cls = .type t) : HandOk A.in1 (h.update it f) := by
  cases hh with
  | no e => exact .no e
  | is e ho' hc' hd' h2 => exact .is e ((Heap.get?_update_other _ _ (fun q => by subst q; rw [ho] at ho'; cases ho'; rw [hc] at hc'; cases hc')).trans ho') hc' hd' h2
set_option tactic.hygienic false in
theorem HandOk.in1 {h : Heap} (hh : HandOk A h) : HandOk A.in1 h := by
  cases hh with
  | no e => exact .no e
  | is e ho' hc' hd' h2 => exact .is e ho' hc' hd' h2
set_option tactic.hygienic false in
theorem HandOk.ext {h h' : Heap} (hh : HandOk A h) (k : ∀ (b : Addr) (o : Obj), h.get? b = some o → (∀ t, o.cls ≠ .type t) → h'.get? b = some o) : HandOk A h' := by
  cases hh with
  | no e => exact .no e
  | is e ho' hc' hd' h2 => exact .is e (k _ _ ho' fun t q => by rw [hc'] at q; cases q) hc' hd' h2
set_option tactic.hygienic false in
theorem list_end {it l : Addr} {i : Nat} {items : Array Value} {Q : Option Value → Shared → Prop} (hh : HandOk A s.heap) (hit : s.heap.IsListIter it l i) (hl : s.heap.IsList l items) (hx : items[i]? = none)
    (hQ : ∀ h', (∀ (b : Addr) (o : Obj), b ≠ it → s.heap.get? b = some o → h'.get? b = some o) → Q none { s with heap := h' }) : wpAny (model prog w) A (pyNext (.ref it)) Q E s := by
  obtain ⟨o, ho, hc, hd⟩ := id hit
  obtain ⟨ol, hol, _, nl, hdl⟩ := hl
  unfold pyNext
  refine wpAny_bind (wpAny_attempt (wpAny_callSpecial?_slot (name := Str.ofString "__next__") hit.typeIs slot_listiter_next (wpAny_call_entry slot_listiter_next hit.typeIs entry_listiter_next ?_ (args_listiter_next _))))
  show wpAny _ _ (field (.ref it) 0 >>= _) _ _ s
  refine wpAny_bind (wpAny_field ho hd (x := .ref l) rfl ?_)
  show wpAny _ _ (if (Value.ref l == Value.none) = true then _ else _) _ _ s
  rw [if_neg (show ¬ ((Value.ref l == Value.none) = true) from Bool.false_ne_true)]
  show wpAny _ _ (field (.ref it) 1 >>= _) _ _ s
  refine wpAny_bind (wpAny_field ho hd (x := .int i 0) rfl ?_)
  show wpAny _ _ (seqItems? (.ref l) >>= _) _ _ s
  refine wpAny_bind (wpAny_seqItems hol hdl ?_)
  simp only [Int.toNat_natCast, hx]
  refine wpAny_bind (wpAny_rule (wpAny_bind (wpAny_setField ho hd (by simp) ?_)))
  refine stop_raise (hh.upd ho hc) fun e h' k ht => stop_seen ht (hQ h' fun b ob hb eb => k b ob ?_)
  rw [Heap.get?_update_other _ _ (Ne.symm hb)]; exact eb
set_option tactic.hygienic false in
theorem tuple_end {it l : Addr} {i : Nat} {items : Array Value} {Q : Option Value → Shared → Prop} (hh : HandOk A s.heap) (hit : s.heap.IsTupleIter it l i) (hl : s.heap.IsTuple l items) (hx : items[i]? = none)
    (hQ : ∀ h', (∀ (b : Addr) (o : Obj), b ≠ it → s.heap.get? b = some o → h'.get? b = some o) → Q none { s with heap := h' }) : wpAny (model prog w) A (pyNext (.ref it)) Q E s := by
  obtain ⟨o, ho, hc, hd⟩ := id hit
  obtain ⟨ol, hol, _, nl, hdl⟩ := hl
  unfold pyNext
  refine wpAny_bind (wpAny_attempt (wpAny_callSpecial?_slot (name := Str.ofString "__next__") hit.typeIs F.slot_tuple_iterator_next (wpAny_call_entry F.slot_tuple_iterator_next hit.typeIs F.entry_tuple_iterator_next ?_ (F.args_tuple_iterator_next_1 _))))
  show wpAny _ _ (field (.ref it) 0 >>= _) _ _ s
  refine wpAny_bind (wpAny_field ho hd (x := .ref l) rfl ?_)
  show wpAny _ _ (if (Value.ref l == Value.none) = true then _ else _) _ _ s
  rw [if_neg (show ¬ ((Value.ref l == Value.none) = true) from Bool.false_ne_true)]
  show wpAny _ _ (field (.ref it) 1 >>= _) _ _ s
  refine wpAny_bind (wpAny_field ho hd (x := .int i 0) rfl ?_)
  show wpAny _ _ (seqItems? (.ref l) >>= _) _ _ s
  refine wpAny_bind (wpAny_seqItems hol hdl ?_)
  simp only [Int.toNat_natCast, hx]
  refine wpAny_bind (wpAny_rule (wpAny_bind (wpAny_setField ho hd (by simp) ?_)))
  refine stop_raise (hh.upd ho hc) fun e h' k ht => stop_seen ht (hQ h' fun b ob hb eb => k b ob ?_)
  rw [Heap.get?_update_other _ _ (Ne.symm hb)]; exact eb
set_option tactic.hygienic false in
theorem range_end {it : Addr} {x left step : Int} {Q : Option Value → Shared → Prop} (hh : HandOk A s.heap) (hit : IsRangeIter s.heap it x left step) (hleft : left ≤ 0)
    (hQ : ∀ h', (∀ (b : Addr) (o : Obj), b ≠ it → s.heap.get? b = some o → h'.get? b = some o) → Q none { s with heap := h' }) : wpAny (model prog w) A (pyNext (.ref it)) Q E s := by
  have hT : s.TypeIs (.ref it) "range_iterator" := ⟨_, hit, rfl⟩
  unfold pyNext
  refine wpAny_bind (wpAny_attempt (wpAny_callSpecial?_slot (name := Str.ofString "__next__") hT F.slot_range_iterator_next (wpAny_call_entry F.slot_range_iterator_next hT F.entry_range_iterator_next ?_ (F.args_range_iterator_next_1 _))))
  show wpAny _ _ (field (.ref it) 0 >>= _) _ _ s
  refine wpAny_bind (wpAny_field hit rfl (x := rawInt x) rfl ?_)
  show wpAny _ _ (field (.ref it) 1 >>= _) _ _ s
  refine wpAny_bind (wpAny_field hit rfl (x := rawInt left) rfl ?_)
  show wpAny _ _ (field (.ref it) 2 >>= _) _ _ s
  refine wpAny_bind (wpAny_field hit rfl (x := rawInt step) rfl ?_)
  show wpAny _ _ (if left ≤ 0 then _ else _) _ _ s
  rw [if_pos hleft]
  refine wpAny_bind (wpAny_rule (wpAny_bind ?_))
  exact stop_raise hh.in1 fun e h' k ht => stop_seen ht (hQ h' fun b ob _ eb => k b ob eb)
set_option tactic.hygienic false in
theorem assign_tuple {env : Env} {elts : List Expr} {x1 : Nat} {pos : Pos} {t : Addr} {items : Array Value} {Q : Unit → Shared → Prop} (hh : HandOk A s.heap) (ht : s.heap.IsTuple t items)
    (hn : (assignEach elts env).length = items.size) (hstar : (assignEach elts env).findIdx? (·.1) = none)
    (h : ∀ h', (∀ (b : Addr) (o : Obj), s.heap.get? b = some o → h'.get? b = some o) → wpAny (model prog w) A (assignInOrder ((assignEach elts env).map (·.2)) items.toList) Q E { s with heap := h' }) :
    wpAny (model prog w) A (assign (.Tuple elts x1 pos) env (.ref t)) Q E s := by
  have hlt : t ≠ s.heap.objs.size := by obtain ⟨o, ho, _⟩ := ht; exact Nat.ne_of_lt (Heap.lt_size ho)
  rw [arm_assign_Tuple]
  refine wpAny_bind (wpAny_standAt ?_)
  unfold unpack
  rw [hn, hstar]
  refine wpAny_bind (wpAny_holding ?_)
  unfold unpackItems
  refine wpAny_bind ?_
  unfold notIterableAtAll
  refine wpAny_bind (wpAny_specialOf ht.typeIs F.slot_tuple_iter.lookup (wpAny_pure ?_))
  simp only [Bool.false_eq_true, if_false]
  refine wpAny_bind (wpAny_holding (wpAny_pyIter_tuple ht ?_))
  refine wpAny_bind (wpAny_holding (wpAny_draw_tuple hlt items.size 0 _ _ ⟨_, Heap.get?_push_size _ rfl, rfl, rfl⟩ (ht.push _) (Nat.le_of_eq (Nat.zero_add _)) fun h₁ hit₁ hs₁ => ?_))
  rw [show List.take items.size (List.drop 0 items.toList) = items.toList from by rw [List.drop_zero]; exact List.take_of_length_le (Nat.le_of_eq Array.length_toList)]
  rw [if_neg (by simp)]
  have k1 : ∀ (b : Addr) (o : Obj), s.heap.get? b = some o → h₁.get? b = some o := fun b o e => hs₁.extBut b o (Nat.ne_of_lt (Heap.lt_size e)) (Heap.get?_push_of_some _ e)
  refine wpAny_bind (wpAny_holding (tuple_end (hh.ext fun b o e _ => k1 b o e) hit₁ ((ht.push _).extBut hs₁.extBut hlt) (by simp) fun h₂ he₂ => ?_))
  simp only [Option.isSome_none, Bool.false_eq_true, if_false]
  exact wpAny_pure (h h₂ fun b o e => he₂ b o (Nat.ne_of_lt (Heap.lt_size e)) (k1 b o e))
end
end Mine

set_option autoImplicit false
namespace Mine
open PySem PyProof.Rows

noncomputable def EPost (g : Cfg) (env : Env) (as : List Addr) (fr : Fra) (s : Shared) (v : V) (σ' : Sto) (Q : Value → Shared → Prop) : Prop :=
  ∀ (val : Value) (as' : List Addr) (h' : Heap) (tk : Nat), Step [env.locals] as s.heap as' h' → Rel g as' σ' h' → FrRel g env as' fr h' → RepV as' h' v val → Q val { s with heap := h', toks := tk }

structure At (g : Cfg) (env : Env) (as : List Addr) (fr : Fra) (σ : Sto) (s : Shared) : Prop where
  F : FrRel g env as fr s.heap
  R : Rel g as σ s.heap

theorem mul_ok {a b : Int} (h : mulOk a b) : IntMulOk a b := by
  have key : ∀ (x : Int) (k : Nat), x.natAbs < 2 ^ k → Builtin.Int.intBits x ≤ k := fun x k hx => by
    unfold Builtin.Int.intBits
    split
    · exact Nat.zero_le _
    · rename_i h0
      have h0' : x.natAbs ≠ 0 := by intro q; apply h0; simp; lia
      exact (Nat.log2_lt h0').mpr hx
  unfold IntMulOk
  rcases h with h | h | ⟨h, h'⟩
  · have := key a 64 h
    have e : decide (Builtin.Int.intBits a > shortFactorBits) = false := decide_eq_false (Nat.not_lt.mpr this)
    rw [e]; simp
  · have := key b 64 h
    have e : decide (Builtin.Int.intBits b > shortFactorBits) = false := decide_eq_false (Nat.not_lt.mpr this)
    rw [e]; simp
  · have h1 := key a 333 (Nat.lt_of_lt_of_le h (by decide +kernel))
    have h2 := key b 333 (Nat.lt_of_lt_of_le h' (by decide +kernel))
    have e : Builtin.Int.intTooBig (Builtin.Int.intBits a + Builtin.Int.intBits b) = false := by
      unfold Builtin.Int.intTooBig bitsLine
      exact decide_eq_false (by have : (2 : Nat) ^ 27 = 134217728 := by decide +kernel
                                lia)
    rw [e]; simp

theorem div_ok {x y : Int} (h : y.natAbs < 10 ^ 100) : Builtin.divisionGoesByPylong x y = false := by
  unfold Builtin.divisionGoesByPylong
  have h1 : (if (y == 0) = true then 0 else y.natAbs.log2 / 30 + 1) ≤ 300 := by
    split
    · exact Nat.zero_le _
    · rename_i h0
      have h0' : y.natAbs ≠ 0 := by intro q; apply h0; simp; lia
      have : y.natAbs.log2 < 333 := (Nat.log2_lt h0').mpr (Nat.lt_of_lt_of_le h (by decide +kernel))
      lia
  simp only [gt_iff_lt, decide_eq_false (Nat.not_lt.mpr h1), Bool.false_and]

set_option tactic.hygienic false in
theorem keeps_push (h : Heap) (o : Obj) : ∀ (a : Addr) (o' : Obj), h.get? a = some o' → (h.push o).get? a = some o' := fun _ _ e => Heap.get?_push_of_some _ e
set_option tactic.hygienic false in
theorem new_none (h : Heap) : h.get? h.objs.size = none := by
  cases e : h.get? h.objs.size with
  | none => rfl
  | some o => exact absurd (Heap.lt_size e) (Nat.lt_irrefl _)

section
variable {g : Cfg} {env : Env} {A : Around} {X : Value → Shared → Prop} {s : Shared} {as : List Addr} {fr : Fra} {σ σ' : Sto} {Q : Value → Shared → Prop}

set_option tactic.hygienic false in
theorem At.frame (T : At g env as fr σ s) {as' : List Addr} {h' : Heap} (x : Step [] as s.heap as' h') : FrRel g env as' fr h' :=
  T.F.keep (T.R.keep0 x) x (by simp)
set_option tactic.hygienic false in
theorem EPost.use {v : V} (hQ : EPost g env as fr s v σ' Q) (T : At g env as fr σ s) {val : Value} {as' : List Addr} {h' : Heap} {tk : Nat} (x : Step [] as s.heap as' h') (R' : Rel g as' σ' h') (r : RepV as' h' v val) :
    Q val { s with heap := h', toks := tk } := hQ val as' h' tk (x.grow (by simp)) R' (T.frame x) r
set_option tactic.hygienic false in
theorem EPost.same {v : V} (hQ : EPost g env as fr s v σ Q) (T : At g env as fr σ s) {val : Value} {tk : Nat} (r : RepV as s.heap v val) : Q val { s with toks := tk } := hQ.use T (Step.refl _ _ _) T.R r
set_option tactic.hygienic false in
theorem EPost.same' {v : V} (hQ : EPost g env as fr s v σ Q) (T : At g env as fr σ s) {val : Value} (r : RepV as s.heap v val) : Q val s := hQ.same (tk := s.toks) T r
set_option tactic.hygienic false in
theorem EPost.int {i : Int} (hQ : EPost g env as fr s (.int i) σ Q) (T : At g env as fr σ s) {t : Tok} {tk : Nat} : Q (.int i t) { s with toks := tk } := hQ.same T (by rw [RepV]; exact ⟨_, rfl⟩)
set_option tactic.hygienic false in
theorem EPost.bool {b : Bool} (hQ : EPost g env as fr s (.bool b) σ Q) (T : At g env as fr σ s) {tk : Nat} : Q (.bool b) { s with toks := tk } := hQ.same T (by rw [RepV])
set_option tactic.hygienic false in
theorem EPost.bool' {b : Bool} (hQ : EPost g env as fr s (.bool b) σ Q) (T : At g env as fr σ s) : Q (.bool b) s := hQ.bool (tk := s.toks) T

theorem EPost.new {xs : List V} {items : Array Value} {v : V} {tk : Nat} {h' : Heap} {a : Addr} (hQ : EPost g env as fr s v σ' Q) (T : At g env as fr σ s) (k : ∀ (a : Addr) (o' : Obj), s.heap.get? a = some o' → h'.get? a = some o') (hn : s.heap.get? a = none)
    (hp : h'.PlainList a items) (r : RepVs as s.heap xs items.toList) (e : newL xs σ = .ok v σ') : Q (.ref a) { s with heap := h', toks := tk } := by
  unfold newL at e
  split at e
  · rename_i hz
    cases e
    have K : Keep as s.heap (as ++ [a]) h' := ⟨fun i b e => by rw [List.getElem?_append_left (List.getElem?_eq_some_iff.mp e).1]; exact e, fun a o e _ => k a o e⟩
    refine hQ.use T (step_push k hn) (T.R.push k hn ⟨items, hp, RepVs.keep K _ _ r, hz⟩) ?_
    rw [RepV]
    exact ⟨_, rfl, by rw [← T.R.len]; simp⟩
  · cases e
set_option tactic.hygienic false in
theorem newL_len {xs : List V} {v : V} (e : newL xs σ = .ok v σ') : xs.length ≤ 16777216 := by
  unfold newL at e; split at e
  · assumption
  · cases e

set_option tactic.hygienic false in
theorem EPost.newH {xs : List V} {items : Array Value} {v : V} {tk : Nat} (hQ : EPost g env as fr s v σ' Q) (T : At g env as fr σ s)
    (r : RepVs as s.heap xs items.toList) (e : newL xs σ = .ok v σ') : Q (.ref s.heap.objs.size) { s with heap := s.heap.push { cls := .type "list", data := .seq items }, toks := tk } :=
  hQ.new T (keeps_push _ _) (new_none _) ⟨0, Heap.get?_push_size _ rfl⟩ r e

theorem EPost.newN {xs : List V} {items : Array Value} {v : V} {tk n : Nat} {h' : Heap} {a : Addr} {m m' : Str → Option Value} {news : List (Addr × Obj)} (hQ : EPost g env as fr s v σ' Q) (T : At g env as fr σ s) (hm : s.heap.Ns env.locals m)
    (F' : Fr g.b env.locals h' m') (hm' : m' = m) (N' : News g.b env.locals h' news) (hs : ∀ p ∈ newsOf g.b env.locals s.heap, p ∈ news) (hin : (a, ({ cls := .type "list", data := .seq items n } : Obj)) ∈ news) (hn : s.heap.get? a = none)
    (r : RepVs as s.heap xs items.toList) (e : newL xs σ = .ok v σ') : Q (.ref a) { s with heap := h', toks := tk } := by
  subst hm'
  have ext := ext_of_news F' N' hs T.R.base
  unfold newL at e
  split at e
  · rename_i hz
    cases e
    have x : Step [env.locals] as s.heap (as ++ [a]) h' := ⟨⟨[a], rfl, fun b hb => by simp at hb; subst hb; exact hn⟩, fun b o e h1 _ => ext b o (by simpa using h1) e⟩
    have K := T.R.keep x T.F.notImm
    have hpl : h'.PlainList a items := ⟨n, (N' _ hin).1⟩
    have hL : env.locals ≠ a := fun q => (N' _ hin).2.1 q.symm
    have obj' : ∀ (i : Nat) (b : Addr) (o : AO), as[i]? = some b → σ[i]? = some o → RepO g (as ++ [a]) h' o b := fun i b o h1 h2 =>
      (T.R.obj i b o h1 h2).keep K fun ob e => ext b ob (fun q => T.F.off (q ▸ List.mem_of_getElem? h1)) e
    have hna : a ∉ as := fun q => by obtain ⟨ob, e, _⟩ := T.R.there q; rw [hn] at e; cases e
    have R' : Rel g (as ++ [a]) (σ ++ [.lst xs]) h' := by
      refine ⟨F'.keep, by simp [T.R.len], ?_, fun b hb => ?_, fun i b ob h1 h2 => ?_, T.R.hnd.keep K⟩
      · exact List.nodup_append.mpr ⟨T.R.nd, by simp, fun x hx y hy e => by simp at hy; subst hy; subst e; exact hna hx⟩
      · rcases List.mem_append.mp hb with q | q
        · exact T.R.new b q
        · simp at q; subst q; exact (N' _ hin).2.2
      · rcases Nat.lt_trichotomy i as.length with hi | hi | hi
        · rw [List.getElem?_append_left hi] at h1
          rw [List.getElem?_append_left (T.R.len ▸ hi)] at h2
          exact obj' i b ob h1 h2
        · subst hi
          rw [T.R.len] at h2
          simp at h1 h2; subst h1; subst h2
          exact ⟨items, hpl, RepVs.keep K _ _ r, hz⟩
        · rw [List.getElem?_eq_none (by simp; lia)] at h1; cases h1
    refine hQ (.ref a) (as ++ [a]) h' tk x R' ?_ ?_
    · obtain ⟨m0, hm0, hv⟩ := T.F.ns
      have hmm : ∀ x, m0 x = m' x := fun x => hm0.agree hm x
      refine ⟨T.F.kind, T.F.above, T.F.glob, T.F.blt, T.F.len, T.F.nd, ⟨m', F'.ns, fun i x v h1 h2 => ?_⟩, fun i x k h1 h2 => ?_, fun q => ?_, fun x c hc => ⟨fun q => ?_, (T.F.offc _ _ hc).2.1, ?_⟩, T.F.apart, T.F.newc⟩
      · obtain ⟨val, e1, e2⟩ := hv i x v h1 h2
        exact ⟨val, by rw [← hmm]; exact e1, RepV.keep K _ _ e2⟩
      · obtain ⟨c, cv, e1, ⟨o, e2, e2'⟩, e3⟩ := T.F.cells i x k h1 h2
        refine ⟨c, cv, e1, ⟨o, ext _ _ (T.F.offc _ _ e1).2.1 e2, e2'⟩, fun v e => ?_⟩
        obtain ⟨val, e4, e5⟩ := e3 v e
        exact ⟨val, e4, RepV.keep K _ _ e5⟩
      · rcases List.mem_append.mp q with q | q
        · exact T.F.off q
        · simp at q; exact hL q
      · rcases List.mem_append.mp q with q | q
        · exact (T.F.offc _ _ hc).1 q
        · simp at q; subst q
          obtain ⟨cv, o, e, _⟩ := (T.F.offc _ _ hc).2.2; rw [hn] at e; cases e
      · obtain ⟨cv, o, e, e'⟩ := (T.F.offc _ _ hc).2.2
        exact ⟨cv, o, ext _ _ (T.F.offc _ _ hc).2.1 e, e'⟩
    · rw [RepV]; exact ⟨_, rfl, by rw [← T.R.len]; simp⟩
  · cases e

set_option tactic.hygienic false in
theorem At.byNews {h' : Heap} {m : Str → Option Value} {news : List (Addr × Obj)} (T : At g env as fr σ s) (hm : s.heap.Ns env.locals m) (F' : Fr g.b env.locals h' m) (N' : News g.b env.locals h' news)
    (hs : ∀ p ∈ newsOf g.b env.locals s.heap, p ∈ news) : Keep as s.heap as h' ∧ Step [env.locals] as s.heap as h' ∧ Rel g as σ h' ∧ FrRel g env as fr h' := by
  have ext := ext_of_news F' N' hs T.R.base
  have x : Step [env.locals] as s.heap as h' := ⟨⟨[], by simp, by simp⟩, fun b o e h1 _ => ext b o (by simpa using h1) e⟩
  have K := T.R.keep x T.F.notImm
  refine ⟨K, x, ⟨F'.keep, T.R.len, T.R.nd, T.R.new, fun i b o h1 h2 => (T.R.obj i b o h1 h2).keep K fun ob e => ext b ob (fun q => T.F.off (q ▸ List.mem_of_getElem? h1)) e, T.R.hnd.keep K⟩, ?_⟩
  obtain ⟨m0, hm0, hv⟩ := T.F.ns
  have hmm : ∀ x, m0 x = m x := fun x => hm0.agree hm x
  refine ⟨T.F.kind, T.F.above, T.F.glob, T.F.blt, T.F.len, T.F.nd, ⟨m, F'.ns, fun i x v h1 h2 => ?_⟩, fun i x k h1 h2 => ?_, T.F.off, fun x c hc => ⟨(T.F.offc _ _ hc).1, (T.F.offc _ _ hc).2.1, ?_⟩, T.F.apart, T.F.newc⟩
  · obtain ⟨val, e1, e2⟩ := hv i x v h1 h2
    exact ⟨val, by rw [← hmm]; exact e1, RepV.keep K _ _ e2⟩
  · obtain ⟨c, cv, e1, ⟨o, e2, e2'⟩, e3⟩ := T.F.cells i x k h1 h2
    refine ⟨c, cv, e1, ⟨o, ext _ _ (T.F.offc _ _ e1).2.1 e2, e2'⟩, fun v e => ?_⟩
    obtain ⟨val, e4, e5⟩ := e3 v e
    exact ⟨val, e4, RepV.keep K _ _ e5⟩
  · obtain ⟨cv, o, e, e'⟩ := (T.F.offc _ _ hc).2.2
    exact ⟨cv, o, ext _ _ (T.F.offc _ _ hc).2.1 e, e'⟩

inductive RepL (as : List Addr) (h : Heap) (l : Nat) (vs : List V) : Value → Prop
  | mk (a : Addr) (items : Array Value) (n : Nat) (hl : as[l]? = some a) (ho : IsL h a items n) (hr : RepVs as h vs items.toList) (hz : vs.length ≤ 16777216) (hs : items.size = vs.length) : RepL as h l vs (.ref a)
set_option tactic.hygienic false in
theorem rep_lst {l : Nat} {x : Value} {vs : List V} {h : Heap} (R : Rel g as σ h) (r : RepV as h (.ref l) x) (e : getL σ l = some vs) : RepL as h l vs x := by
  rw [RepV] at r
  obtain ⟨a, rfl, ha⟩ := r
  unfold getL at e
  cases q : σ[l]? with
  | none => rw [q] at e; exact nn e
  | some o =>
    rw [q] at e
    cases o <;> first | exact nn e | skip
    cases Option.some.inj e
    obtain ⟨items, ⟨n, p⟩, hr, z⟩ := R.obj l a _ ha q
    exact ⟨a, items, n, ha, p, hr, z, by have := (RepVs.f2.mp hr).length; rw [this, Array.length_toList]⟩
set_option tactic.hygienic false in
theorem rep_list {l : Nat} {x : Value} {vs : List V} (R : Rel g as σ s.heap) (r : RepV as s.heap (.ref l) x) (e : getL σ l = some vs) :
    ∃ a items n, x = .ref a ∧ as[l]? = some a ∧ IsL s.heap a items n ∧ RepVs as s.heap vs items.toList ∧ vs.length ≤ 16777216 ∧ items.size = vs.length := by
  cases rep_lst R r e with
  | mk a items n hl ho hr hz hs => exact ⟨a, items, n, rfl, hl, ho, hr, hz, hs⟩
set_option tactic.hygienic false in
theorem getL_of {l : Nat} {vs : List V} (e : σ[l]? = some (.lst vs)) : getL σ l = some vs := by unfold getL; rw [e]

set_option tactic.hygienic false in
theorem foldl_rep (x : Value) : ∀ (n : Nat) (acc : Array Value), (List.foldl (fun x1 x2 => x1 ++ x2) acc (List.replicate n #[x])).toList = acc.toList ++ List.replicate n x
  | 0, acc => by simp
  | n + 1, acc => by rw [List.replicate_succ, List.foldl_cons, foldl_rep x n]; simp [List.replicate_succ]

set_option tactic.hygienic false in
theorem bad_ok {v : V} {σ' : Sto} {P : Prop} (h : RE.bad = .ok v σ') : P := nomatch h
set_option tactic.hygienic false in
theorem rep_int {h : Heap} {i : Int} {x : Value} (r : RepV as h (.int i) x) : ∃ t, x = .int i t := by rw [RepV] at r; exact r
set_option tactic.hygienic false in
theorem wII_inv {a b v : V} {f : Int → Int → RE} (e : wII a b f = .ok v σ') : ∃ x y, a = .int x ∧ b = .int y ∧ f x y = .ok v σ' := by
  cases a <;> first | exact bad_ok e | skip
  cases b <;> first | exact bad_ok e | exact ⟨_, _, rfl, rfl, e⟩
set_option tactic.hygienic false in
theorem gL_inv {o : Option (List V)} {f : List V → RE} {v : V} (e : (match o with | some xs => f xs | none => .bad) = .ok v σ') : ∃ xs, o = some xs ∧ f xs = .ok v σ' := by
  cases o with
  | none => exact bad_ok e
  | some xs => exact ⟨xs, rfl, e⟩
set_option tactic.hygienic false in
theorem if_inv {c : Prop} [Decidable c] {v : V} {r : RE} (e : (if c then r else .bad) = .ok v σ') : c ∧ r = .ok v σ' := by
  by_cases h : c
  · rw [if_pos h] at e; exact ⟨h, e⟩
  · rw [if_neg h] at e; exact bad_ok e
set_option tactic.hygienic false in
theorem ok_inj {v w : V} {τ : Sto} (e : RE.ok v τ = .ok w σ') : w = v ∧ σ' = τ := by cases e; exact ⟨rfl, rfl⟩

set_option tactic.hygienic false in
theorem o_add {a b v : V} {x y : Value} (T : At g env as fr σ s) (ha : RepV as s.heap a x) (hb : RepV as s.heap b y)
    (e : addV a b σ = .ok v σ') (hQ : EPost g env as fr s v σ' Q) : wpAny (model g.prog g.w) A (binaryOp .Add x y) Q X s := by
  cases a <;> first | exact bad_ok e | skip
  · cases b <;> first | exact bad_ok e | skip
    obtain ⟨rfl, rfl⟩ := ok_inj e
    obtain ⟨t, rfl⟩ := rep_int ha; obtain ⟨u, rfl⟩ := rep_int hb
    exact PyProof.Rows.add_int (hQ.int T)
  · cases b <;> first | exact bad_ok e | skip
    obtain ⟨hz, e⟩ := if_inv e
    obtain ⟨rfl, rfl⟩ := ok_inj e
    rw [RepV] at ha hb; obtain ⟨t, rfl⟩ := ha; obtain ⟨u, rfl⟩ := hb
    refine PyProof.Rows.add_str (fun t' tk => hQ.same T (by rw [RepV]; exact ⟨_, rfl⟩)) (Nat.le_trans hz (by decide))
  · cases b <;> first | exact bad_ok e | skip
    obtain ⟨xs, e1, e⟩ := gL_inv e
    obtain ⟨ys, e2, e⟩ := gL_inv e
    obtain ⟨a1, i1, n1, rfl, _, p1, q1, _, z1⟩ := rep_list T.R ha e1
    obtain ⟨a2, i2, n2, rfl, _, p2, q2, _, z2⟩ := rep_list T.R hb e2
    have hz := newL_len e
    refine P.add_list p1 p2 (hQ.newH (tk := s.toks) (xs := xs ++ ys) T ?_ e) ?_
    · rw [Array.toList_append]; exact RepVs.f2.mpr ((RepVs.f2.mp q1).append (RepVs.f2.mp q2))
    · rw [z1, z2]; show _ ≤ 2 ^ 24; simpa using hz
theorem o_mul {a b v : V} {x y : Value} (T : At g env as fr σ s) (ha : RepV as s.heap a x) (hb : RepV as s.heap b y)
    (e : mulV a b σ = .ok v σ') (hQ : EPost g env as fr s v σ' Q) : wpAny (model g.prog g.w) A (binaryOp .Mult x y) Q X s := by
  cases b <;> first | exact bad_ok e | skip
  rename_i n
  obtain ⟨u, rfl⟩ := rep_int hb
  cases a <;> first | exact bad_ok e | skip
  · obtain ⟨hm, e⟩ := if_inv e
    obtain ⟨rfl, rfl⟩ := ok_inj e
    obtain ⟨t, rfl⟩ := rep_int ha
    exact PyProof.Rows.mul_int (hQ.int T) (mul_ok hm)
  · rename_i l
    have e : repN (getL σ l) n σ = .ok v σ' := e
    rcases e1 : getL σ l with _ | ⟨_ | ⟨x1, _ | ⟨x2, xs⟩⟩⟩ <;> rw [e1] at e
    · exact bad_ok e
    · exact bad_ok e
    · obtain ⟨hlo, e⟩ := if_inv e
      obtain ⟨a1, i1, n1, rfl, _, p1, q1, _, z1⟩ := rep_list T.R ha e1
      have hz := newL_len e
      rw [List.length_replicate] at hz
      obtain ⟨m, hF, _⟩ := T.F.fr T.R
      have hz1 : i1.size = 1 := by simpa using z1
      refine mul_list hF (news_all _ _ _) p1 (by lia) (by lia) (by rw [hz1]; lia) fun h' F' N' => ?_
      rw [RepVs] at q1
      obtain ⟨y, ys, q2, q3, q4⟩ := q1
      rw [RepVs] at q4; subst q4
      have hi : i1 = #[y] := by apply Array.ext'; simpa using q2
      subst hi
      refine hQ.newN (tk := s.toks) (xs := List.replicate n.toNat x1) T hF.ns F' rfl N' (fun p hp => .tail _ hp) (.head _) (new_none _) ?_ e
      have : (if (#[y] : Array Value).isEmpty = true then 0 else n.toNat) = n.toNat := by simp
      rw [this, foldl_rep]
      simpa using RepVs.f2.mpr (F2.replicate q3 n.toNat)
    · exact bad_ok e
set_option tactic.hygienic false in
theorem o_bin {op : Operator} {a b v : V} {x y : Value} (T : At g env as fr σ s) (ha : RepV as s.heap a x) (hb : RepV as s.heap b y)
    (e : binV op a b σ = .ok v σ') (hQ : EPost g env as fr s v σ' Q) : wpAny (model g.prog g.w) A (binaryOp op x y) Q X s := by
  cases op <;> first | exact bad_ok e | exact o_add T ha hb e hQ | exact o_mul T ha hb e hQ | skip
  · obtain ⟨i, j, rfl, rfl, e'⟩ := wII_inv e
    obtain ⟨rfl, rfl⟩ := ok_inj e'
    obtain ⟨t, rfl⟩ := rep_int ha; obtain ⟨u, rfl⟩ := rep_int hb
    exact PyProof.Rows.sub_int (hQ.int T)
  · obtain ⟨i, j, rfl, rfl, e'⟩ := wII_inv e
    by_cases hm : j = 0
    · rw [if_pos hm] at e'; exact bad_ok e'
    · rw [if_neg hm] at e'
      obtain ⟨rfl, rfl⟩ := ok_inj e'
      obtain ⟨t, rfl⟩ := rep_int ha; obtain ⟨u, rfl⟩ := rep_int hb
      exact PyProof.Rows.mod_int hm (hQ.int T)
  · obtain ⟨i, j, rfl, rfl, e'⟩ := wII_inv e
    obtain ⟨hm, e'⟩ := if_inv e'
    obtain ⟨rfl, rfl⟩ := ok_inj e'
    obtain ⟨t, rfl⟩ := rep_int ha; obtain ⟨u, rfl⟩ := rep_int hb
    exact PyProof.Rows.floordiv_int hm.1 (hQ.int T) (.inl (div_ok hm.2))
end
end Mine

set_option autoImplicit false
namespace Mine
open PySem PyProof.Rows

structure Room (g : Cfg) (A : Around) (n : Nat) : Prop where
  units : A.units + 20 * n + 60 ≤ 9900
  depth : A.depth + 4 * n + 20 ≤ 1000
  handled : A.handled = g.hd.map .ref

set_option tactic.hygienic false in
theorem Room.none {g : Cfg} {A : Around} {n : Nat} (h : Room g A n) (q : g.hd = .none) : A.handled = .none := by rw [h.handled, q]; rfl
set_option tactic.hygienic false in
theorem hand_of {g : Cfg} {A : Around} {as : List Addr} {σ : Sto} {h : Heap} (e : A.handled = g.hd.map .ref) (R : Rel g as σ h) : HandOk A h := by
  cases q : g.hd with
  | none => rw [q] at e; exact .no e
  | some a =>
    rw [q] at e
    obtain ⟨o, C, vs, e1, e2, e3, e4⟩ := R.hnd a q
    exact .is e e1 e2 e3 e4

theorem mapO_cons {α β : Type} {f : α → Option β} {x : α} {xs : List α} {ys : List β} (e : mapO f (x :: xs) = some ys) : ∃ y r, f x = some y ∧ mapO f xs = some r ∧ ys = y :: r := by
  rw [mapO] at e
  split at e
  · rename_i y r h1 h2; cases e; exact ⟨y, r, h1, h2, rfl⟩
  · cases e

section
variable {g : Cfg} {as : List Addr} {σ : Sto} {h : Heap}

set_option tactic.hygienic false in
theorem readsAll_of {f : V → Option PyData} {n : Nat} (hf : ∀ v d x, f v = some d → RepV as h v x → ∃ bs, Reads h x d bs ∧ d.canLay0 = true ∧ d.depth ≤ n) :
    ∀ (vs : List V) (ds : List PyData) (xs : List Value), mapO f vs = some ds → RepVs as h vs xs → ∃ bs, ReadsAll h xs ds bs ∧ PyData.canLayAll0 ds = true ∧ PyData.depthAll ds ≤ n
  | [], ds, xs, e, r => by
    rw [mapO] at e; cases e; rw [RepVs] at r; subst r
    exact ⟨_, .nil, rfl, by simp [PyData.depthAll]⟩
  | v :: vs, ds, xs, e, r => by
    obtain ⟨d, r', e1, e2, rfl⟩ := mapO_cons e
    rw [RepVs] at r
    obtain ⟨y, ys, rfl, r1, r2⟩ := r
    obtain ⟨b1, h1, h2, h3⟩ := hf v d y e1 r1
    obtain ⟨b2, h4, h5, h6⟩ := readsAll_of hf vs r' ys e2 r2
    exact ⟨_, .cons h1 h4, by simp [PyData.canLayAll0, h2, h5], by simp [PyData.depthAll]; lia⟩

theorem reads_of (R : Rel g as σ h) : ∀ (n : Nat) (v : V) (d : PyData) (x : Value), toD n σ v = some d → RepV as h v x → ∃ bs, Reads h x d bs ∧ d.canLay0 = true ∧ d.depth ≤ n
  | 0, _, _, _, e, _ => nn e
  | n + 1, v, d, x, e, r => by
    have ih := reads_of R n
    have e : toDX (toD n σ) σ v = some d := e
    cases v with
    | none => cases e; rw [RepV] at r; subst r; exact ⟨_, .none, rfl, Nat.zero_le _⟩
    | bool b => cases e; rw [RepV] at r; subst r; exact ⟨_, .bool b, rfl, Nat.zero_le _⟩
    | int i => cases e; rw [RepV] at r; obtain ⟨t, rfl⟩ := r; exact ⟨_, .int i t, rfl, Nat.zero_le _⟩
    | str s =>
      have e : (if PyData.strOk s then some (PyData.str s) else none) = some d := e
      split at e
      · rename_i ho; cases e; rw [RepV] at r; obtain ⟨t, rfl⟩ := r; exact ⟨_, .str s t, by simpa [PyData.canLay0] using ho, Nat.zero_le _⟩
      · cases e
    | tup vs =>
      obtain ⟨ds, e1, rfl⟩ := map_inv e
      rw [RepV] at r
      obtain ⟨a, items, k, rfl, ho, _, hr⟩ := r
      obtain ⟨bs, h1, h2, h3⟩ := readsAll_of ih vs ds _ e1 hr
      exact ⟨_, .tuple ho rfl rfl h1, h2, Nat.succ_le_succ h3⟩
    | ref l =>
      have e : (match getL σ l with | some vs => (mapO (toD n σ) vs).map PyData.list | none => none) = some d := e
      cases hl : getL σ l with
      | none => rw [hl] at e; exact nn e
      | some vs =>
        rw [hl] at e
        obtain ⟨ds, e1, rfl⟩ := map_inv e
        obtain ⟨a, items, k, rfl, _, ho, hr, _⟩ := rep_list (s := { heap := h }) R r hl
        obtain ⟨bs, h1, h2, h3⟩ := readsAll_of ih vs ds _ e1 hr
        exact ⟨_, .list ho rfl rfl h1, h2, Nat.succ_le_succ h3⟩
    | rng lo hi => exact nn e
    | exc c => exact nn e
end

set_option tactic.hygienic false in
theorem intsAre_of {as : List Addr} {h : Heap} : ∀ {vs : List V} {is : List Int} {xs : List Value}, intsOf vs = some is → RepVs as h vs xs → IntsAre xs is
  | [], is, xs, e, r => by
    unfold intsOf at e; rw [mapO] at e; cases e; rw [RepVs] at r; subst r; exact .nil
  | v :: vs, is, xs, e, r => by
    unfold intsOf at e
    obtain ⟨i, r', e1, e2, rfl⟩ := mapO_cons e
    rw [RepVs] at r
    obtain ⟨y, ys, rfl, r1, r2⟩ := r
    cases v with
    | int j => cases e1; rw [RepV] at r1; obtain ⟨t, rfl⟩ := r1; exact .cons _ _ (intsAre_of (vs := vs) e2 r2)
    | _ => cases e1

section
variable {g : Cfg} {env : Env} {A : Around} {X : Value → Shared → Prop} {s : Shared} {as : List Addr} {fr : Fra} {σ σ' : Sto} {Q : Value → Shared → Prop}

theorem o_eq {a b : V} {x y : Value} {r : Bool} {n : Nat} (T : At g env as fr σ s) (hA : Room g A n) (ha : RepV as s.heap a x) (hb : RepV as s.heap b y)
    (e : eqV σ a b = some r) (hQ : Q (.bool r) s) : wpAny (model g.prog g.w) A (compareOp .Eq x y) Q X s := by
  unfold eqV at e
  split at e
  · rename_i da db e1 e2
    cases e
    obtain ⟨_, r1, c1, d1⟩ := reads_of T.R 5 a da x e1 ha
    obtain ⟨_, r2, c2, d2⟩ := reads_of T.R 5 b db y e2 hb
    exact SeqAt.compareEq_reads r1 r2 c1 c2 (by have := hA.units; show _ < 9900; lia) hQ
  · cases e
theorem o_ne {a b : V} {x y : Value} {r : Bool} {n : Nat} (T : At g env as fr σ s) (hA : Room g A n) (ha : RepV as s.heap a x) (hb : RepV as s.heap b y)
    (e : eqV σ a b = some r) (hQ : Q (.bool (!r)) s) : wpAny (model g.prog g.w) A (compareOp .NotEq x y) Q X s := by
  unfold eqV at e
  split at e
  · rename_i da db e1 e2
    cases e
    obtain ⟨_, r1, c1, d1⟩ := reads_of T.R 5 a da x e1 ha
    obtain ⟨_, r2, c2, d2⟩ := reads_of T.R 5 b db y e2 hb
    exact SeqAt.compareNe_reads r1 r2 c1 c2 (by have := hA.units; show _ < 9900; lia) hQ
  · cases e
set_option tactic.hygienic false in
theorem any_eq {is : List Int} {i : Int} : is.any (· == i) = decide (i ∈ is) := by
  induction is with
  | nil => rfl
  | cons j r ih =>
    rw [List.any_cons, ih]
    by_cases h : j = i
    · subst h; simp
    · have h' : ¬ i = j := fun q => h q.symm
      simp [h, h']

structure Sys (g : Cfg) : Prop where
  sys : sysModules < g.b.objs.size

set_option tactic.hygienic false in
theorem kv_at {h : Heap} {i : Int} : ∀ {es : List (Int × V)} {kvs : List (Int × Value)}, F2 (fun (e : Int × V) (x : Int × Value) => e.1 = x.1 ∧ RepV as h e.2 x.2) es kvs →
    (valueAt kvs i).isSome = es.any (fun e => e.1 == i) ∧ ∀ v, es.lookup i = some v → ∃ y, valueAt kvs i = some y ∧ RepV as h v y := by
  intro es kvs f
  induction f with
  | nil => exact ⟨rfl, fun v e => by cases e⟩
  | @cons a b as' bs x r ih =>
    obtain ⟨h1, h2⟩ := x
    obtain ⟨k, v0⟩ := a
    obtain ⟨k', y0⟩ := b
    have h1' : k = k' := h1
    subst h1'
    have e0 : valueAt ((k, y0) :: bs) i = if k = i then some y0 else valueAt bs i := by
      unfold valueAt
      rw [List.find?_cons]
      by_cases hk : k = i <;> simp [hk]
    rw [e0, List.lookup_cons, List.any_cons]
    by_cases hk : k = i
    · subst hk; simpa using h2
    · simp only [hk, if_false, Bool.false_or, beq_eq_false_iff_ne.mpr hk, show (i == k) = false from beq_eq_false_iff_ne.mpr (Ne.symm hk)]
      exact ih

theorem o_in {a c : V} {x y : Value} {r : Bool} {n : Nat} (G : Sys g) (T : At g env as fr σ s) (hA : Room g A n) (ha : RepV as s.heap a x) (hc : RepV as s.heap c y)
    (e : inV σ a c = some r) (hQ : EPost g env as fr s (.bool r) σ Q) : wpAny (model g.prog g.w) A (compareOp .In x y) Q X s := by
  unfold inV at e
  split at e
  · rename_i l
    split at e
    · rename_i vs i hl
      obtain ⟨is, e1, e2⟩ := Option.map_eq_some_iff.mp e
      obtain ⟨a1, items, k, rfl, _, ho, hr, _⟩ := rep_list T.R hc (getL_of hl)
      rw [RepV] at ha; obtain ⟨t, rfl⟩ := ha
      have hi := intsAre_of e1 hr
      refine in_list_ints (vs := items.toList) (by simpa using ho.isList) hi ?_
      rw [any_eq, e2]; exact hQ.bool' T
    · rename_i es i hl
      cases e
      rw [RepV] at ha; rw [RepV] at hc; obtain ⟨t, rfl⟩ := ha; obtain ⟨d, rfl, hd⟩ := hc
      obtain ⟨kvs, hk, hf, _, hns⟩ := T.R.obj _ _ _ hd hl
      refine wpAny_in_of (intKind_is _ _ i t) hns hk.mapOf ?_
      rw [(kv_at hf).1]; exact hQ.bool T
    · cases e
  · cases e
theorem o_notIn {a c : V} {x y : Value} {r : Bool} (G : Sys g) (T : At g env as fr σ s) (ha : RepV as s.heap a x) (hc : RepV as s.heap c y)
    (e : notInV σ a c = some r) (hQ : EPost g env as fr s (.bool r) σ Q) : wpAny (model g.prog g.w) A (compareOp .NotIn x y) Q X s := by
  unfold notInV at e
  split at e
  · rename_i l
    split at e
    · rename_i vs i hl
      obtain ⟨is, e1, e2⟩ := Option.map_eq_some_iff.mp e
      obtain ⟨a1, items, k, rfl, _, ho, hr, _⟩ := rep_list T.R hc (getL_of hl)
      rw [RepV] at ha; obtain ⟨t, rfl⟩ := ha
      have hi := intsAre_of e1 hr
      refine notin_list_ints (vs := items.toList) (by simpa using ho.isList) hi ?_
      rw [any_eq, e2]; exact hQ.bool' T
    · rename_i es i hl
      cases e
      rw [RepV] at ha; rw [RepV] at hc; obtain ⟨t, rfl⟩ := ha; obtain ⟨d, rfl, hd⟩ := hc
      obtain ⟨kvs, hk, hf, _, hns⟩ := T.R.obj _ _ _ hd hl
      refine wpAny_notIn_of (intKind_is _ _ i t) hns hk.mapOf ?_
      rw [(kv_at hf).1]; exact hQ.bool T
    · cases e
  · cases e

set_option tactic.hygienic false in
theorem isNone_rep {h : Heap} {v : V} {x : Value} (r : RepV as h v x) : (x == Value.none) = isNone v := by
  cases v with
  | none => rw [RepV] at r; subst r; rfl
  | bool b => rw [RepV] at r; subst r; rfl
  | int i => rw [RepV] at r; obtain ⟨t, rfl⟩ := r; rfl
  | str i => rw [RepV] at r; obtain ⟨t, rfl⟩ := r; rfl
  | tup i => rw [RepV] at r; obtain ⟨t, _, _, rfl, _⟩ := r; rfl
  | ref i => rw [RepV] at r; obtain ⟨t, rfl, _⟩ := r; rfl
  | rng i j => rw [RepV] at r; obtain ⟨t, _, _, _, rfl, _⟩ := r; rfl
  | exc c => rw [RepV] at r; obtain ⟨t, _, _, rfl, _⟩ := r; rfl

set_option tactic.hygienic false in
theorem o_cmp {op : CmpOp} {a b : V} {x y : Value} {r : Bool} {n : Nat} (G : Sys g) (T : At g env as fr σ s) (hA : Room g A n) (ha : RepV as s.heap a x) (hb : RepV as s.heap b y)
    (e : cmpV op a b σ = some r) (hQ : EPost g env as fr s (.bool r) σ Q) : wpAny (model g.prog g.w) A (compareOp op x y) Q X s := by
  unfold cmpV at e
  cases op with
  | Lt =>
    dsimp only at e; split at e
    · cases e; rw [RepV] at ha hb; obtain ⟨t, rfl⟩ := ha; obtain ⟨u, rfl⟩ := hb; exact PyProof.Rows.lt_int (hQ.bool' T)
    · cases e
  | LtE =>
    dsimp only at e; split at e
    · cases e; rw [RepV] at ha hb; obtain ⟨t, rfl⟩ := ha; obtain ⟨u, rfl⟩ := hb; exact PyProof.Rows.le_int (hQ.bool' T)
    · cases e
  | Gt =>
    dsimp only at e; split at e
    · cases e; rw [RepV] at ha hb; obtain ⟨t, rfl⟩ := ha; obtain ⟨u, rfl⟩ := hb; exact PyProof.Rows.gt_int (hQ.bool' T)
    · cases e
  | GtE =>
    dsimp only at e; split at e
    · cases e; rw [RepV] at ha hb; obtain ⟨t, rfl⟩ := ha; obtain ⟨u, rfl⟩ := hb; exact PyProof.Rows.ge_int (hQ.bool' T)
    · cases e
  | Eq =>
    dsimp only at e; split at e
    · cases e; rw [RepV] at ha hb; obtain ⟨t, rfl⟩ := ha; obtain ⟨u, rfl⟩ := hb; exact PyProof.Rows.eq_int (hQ.bool' T)
    · exact o_eq T hA ha hb e (hQ.bool' T)
  | NotEq =>
    dsimp only at e; split at e
    · cases e; rw [RepV] at ha hb; obtain ⟨t, rfl⟩ := ha; obtain ⟨u, rfl⟩ := hb; exact PyProof.Rows.ne_int (hQ.bool' T)
    · obtain ⟨r', e1, rfl⟩ := Option.map_eq_some_iff.mp e
      exact o_ne T hA ha hb e1 (hQ.bool' T)
  | Is =>
    dsimp only at e; split at e
    · cases e; rw [RepV] at hb; subst hb
      exact is_none_gen (by rw [isNone_rep ha]; exact hQ.bool' T)
    · cases e
  | IsNot =>
    dsimp only at e; split at e
    · cases e; rw [RepV] at hb; subst hb
      exact isnot_none_gen (by rw [isNone_rep ha]; exact hQ.bool' T)
    · cases e
  | In => exact o_in G T hA ha hb e hQ
  | NotIn => exact o_notIn G T ha hb e hQ
end
end Mine

set_option autoImplicit false
namespace Mine
open PySem PyProof.Rows

section
variable {g : Cfg} {env : Env} {A : Around} {X : Value → Shared → Prop} {s : Shared} {as : List Addr} {fr : Fra} {σ σ' : Sto} {Q : Value → Shared → Prop}

set_option tactic.hygienic false in
theorem idx_rep {h : Heap} {vs : List V} {xs : List Value} {k : Int} {v : V} (r : RepVs as h vs xs) (e : idxV vs k = some v) :
    ∃ y, RepV as h v y ∧ ((0 ≤ k ∧ k < vs.length ∧ xs[k.toNat]? = some y) ∨ (k < 0 ∧ -(vs.length : Int) ≤ k ∧ xs[(k + vs.length).toNat]? = some y)) := by
  unfold idxV at e
  split at e
  · obtain ⟨y, h1, h2⟩ := (RepVs.f2.mp r).get e
    have := (List.getElem?_eq_some_iff.mp e).1
    exact ⟨y, h2, .inl ⟨by assumption, by lia, h1⟩⟩
  · split at e
    · obtain ⟨y, h1, h2⟩ := (RepVs.f2.mp r).get e
      exact ⟨y, h2, .inr ⟨by lia, by assumption, h1⟩⟩
    · cases e

set_option tactic.hygienic false in
theorem rep_frz {l : Nat} {x : Value} {vs : List V} (R : Rel g as σ s.heap) (r : RepV as s.heap (.ref l) x) (e : σ[l]? = some (.frz vs)) :
    ∃ a items n, x = .ref a ∧ as[l]? = some a ∧ IsL s.heap a items n ∧ RepVs as s.heap vs items.toList ∧ vs.length ≤ 16777216 ∧ items.size = vs.length := by
  rw [RepV] at r
  obtain ⟨a, rfl, ha⟩ := r
  obtain ⟨items, n, e1, e2, q, z⟩ := R.obj l a _ ha e
  rw [e2] at e1
  exact ⟨a, items, n, rfl, ha, e1, q, z, by have := (RepVs.f2.mp q).length; simpa using this.symm⟩

theorem o_getItem {a i v : V} {x y : Value} {n : Nat} (T : At g env as fr σ s) (hA : Room g A n) (ha : RepV as s.heap a x) (hi : RepV as s.heap i y)
    (e : subV a i σ = some v) (hQ : EPost g env as fr s v σ Q) : wpAny (model g.prog g.w) A (getItem x y) Q X s := by
  unfold subV at e
  split at e
  · rename_i vs k
    rw [RepV] at ha; rw [RepV] at hi
    obtain ⟨t, rfl⟩ := hi
    obtain ⟨ad, items, m, rfl, ho, hz, hr⟩ := ha
    obtain ⟨y, r, hh⟩ := idx_rep hr e
    have hl : vs.length = items.size := by have := (RepVs.f2.mp hr).length; simpa using this
    refine PyProof.Rows.getItem_tuple (j := if 0 ≤ k then k.toNat else (k + vs.length).toNat) (x := y) ⟨_, ho, rfl, m, rfl⟩ ?_ ?_ ?_ ?_ (hQ.same' T r)
    · rcases hh with hh | hh <;> lia
    · rcases hh with hh | hh <;> lia
    · unfold seqIndex?
      rcases hh with ⟨h1, h2, h3⟩ | ⟨h1, h2, h3⟩
      · simp only [show ¬ k < 0 by lia, if_false, h1, if_true]
        rw [if_pos (by simp; lia)]
      · simp only [h1, if_true, show ¬ 0 ≤ k by lia, if_false, ← hl]
        rw [if_pos (by simp; lia)]
    · rcases hh with ⟨h1, h2, h3⟩ | ⟨h1, h2, h3⟩
      · rw [if_pos h1]; simpa using h3
      · rw [if_neg (by lia)]; simpa using h3
  · rename_i l k
    split at e
    · rename_i vs hl
      obtain ⟨ad, items, m, rfl, _, ho, hr, hz, hsz⟩ := rep_list T.R ha (getL_of hl)
      rw [RepV] at hi; obtain ⟨t, rfl⟩ := hi
      obtain ⟨y, r, hh⟩ := idx_rep hr e
      rcases hh with ⟨h1, h2, h3⟩ | ⟨h1, h2, h3⟩
      · exact wpAny_getItem_list ho.isList h1 (by lia) (by simpa using h3) (hQ.same' T r)
      · exact wpAny_getItem_list_neg ho.isList h1 (by lia) (by lia) (by rw [hsz]; simpa using h3) (hQ.same' T r)
    · rename_i vs hl
      obtain ⟨ad, items, m, rfl, _, ho, hr, hz, hsz⟩ := rep_frz T.R ha hl
      rw [RepV] at hi; obtain ⟨t, rfl⟩ := hi
      obtain ⟨y, r, hh⟩ := idx_rep hr e
      rcases hh with ⟨h1, h2, h3⟩ | ⟨h1, h2, h3⟩
      · exact wpAny_getItem_list ho.isList h1 (by lia) (by simpa using h3) (hQ.same' T r)
      · exact wpAny_getItem_list_neg ho.isList h1 (by lia) (by lia) (by rw [hsz]; simpa using h3) (hQ.same' T r)
    · rename_i es hl
      rw [RepV] at ha; rw [RepV] at hi
      obtain ⟨t, rfl⟩ := hi
      obtain ⟨d, rfl, hd⟩ := ha
      obtain ⟨kvs, hk, hf, _⟩ := T.R.obj _ _ _ hd hl
      obtain ⟨y, h1, h2⟩ := (kv_at hf).2 v e
      exact wpAny_getItem_of (intKind_is _ _ k t) hk.mapOf h1 (hQ.same T h2)
    · cases e
  · cases e

theorem o_sub {a i v : V} {x y : Value} {n : Nat} {ve ie : Expr} (T : At g env as fr σ s) (hA : Room g A n) (ha : RepV as s.heap a x) (hi : RepV as s.heap i y)
    (hs : ∀ o i, subscripted ie false o i = operate [o, i] (getItem o i))
    (e : subV a i σ = some v) (hQ : EPost g env as fr s v σ Q) : wpAny (model g.prog g.w) A (subscriptTail ve ie x y) Q X s := by
  have hg := o_getItem (X := X) T hA ha hi e hQ
  unfold subV at e
  split at e
  · rw [RepV] at ha
    obtain ⟨ad, items, m, rfl, ho, hz, hr⟩ := ha
    exact tail_any (T := "tuple") ⟨_, ho, rfl⟩ F.slot_tuple_getitem.lookup hg (hs _ _)
  · split at e
    · rename_i vs hl
      obtain ⟨ad, items, m, rfl, _, ho, _⟩ := rep_list T.R ha (getL_of hl)
      exact tail_any (T := "list") ⟨_, ho, rfl⟩ slot_list_getitem.lookup hg (hs _ _)
    · rename_i vs hl
      obtain ⟨ad, items, m, rfl, _, ho, _⟩ := rep_frz T.R ha hl
      exact tail_any (T := "list") ⟨_, ho, rfl⟩ slot_list_getitem.lookup hg (hs _ _)
    · rename_i es hl
      rw [RepV] at ha; obtain ⟨d, rfl, hd⟩ := ha
      obtain ⟨kvs, hk, hf, _⟩ := T.R.obj _ _ _ hd hl
      exact tail_any (T := "dict") hk.typeIs slot_dict_getitem.lookup hg (hs _ _)
    · cases e
  · cases e

theorem o_len {a : V} {x : Value} {i : Int} (G : Sys g) (T : At g env as fr σ s) (ha : RepV as s.heap a x) (e : lenV a σ = some i) (hQ : EPost g env as fr s (.int i) σ Q) :
    wpAny (model g.prog g.w) A (call (.builtin "len") [x]) Q X s := by
  unfold lenV at e
  split at e
  · rename_i vs
    cases e
    rw [RepV] at ha
    obtain ⟨ad, items, m, rfl, ho, hz, hr⟩ := ha
    have hl : vs.length = items.size := by have := (RepVs.f2.mp hr).length; simpa using this
    refine P.len_tuple ho (by lia) ?_
    rw [← hl]; exact hQ.int T
  · split at e
    · rename_i vs hl
      cases e
      obtain ⟨ad, items, m, rfl, _, ho, hr, hz, hsz⟩ := rep_list T.R ha (getL_of hl)
      refine Calls.call_len_list ho.isList (by lia) ?_
      rw [hsz]; exact hQ.int T
    · rename_i vs hl
      cases e
      obtain ⟨ad, items, m, rfl, _, ho, hr, hz, hsz⟩ := rep_frz T.R ha hl
      refine Calls.call_len_list ho.isList (by lia) ?_
      rw [hsz]; exact hQ.int T
    · rename_i es hl
      cases e
      rw [RepV] at ha; obtain ⟨d, rfl, hd⟩ := ha
      obtain ⟨kvs, hk, hf, hz⟩ := T.R.obj _ _ _ hd hl
      have := hf.length
      refine call_len_dict hz.2 hk (by have := hz.1; lia) ?_
      rw [← this]; exact hQ.int T
    · cases e
  · cases e

end
end Mine

set_option autoImplicit false
namespace Mine
open PySem PyProof.Rows

noncomputable def tyVal : Ty → Option Value
  | .int => some (.type "int") | .bool => some (.type "bool") | .tuple => some (.type "tuple") | .list => some (.type "list")
  | _ => none

section
variable {g : Cfg} {env : Env} {A : Around} {X : Value → Shared → Prop} {s : Shared} {as : List Addr} {fr : Fra} {σ σ' : Sto} {Q : Value → Shared → Prop}

theorem o_isi {t : Ty} {a : V} {x y : Value} {r : Bool} (T : At g env as fr σ s) (ha : RepV as s.heap a x) (e : isiV t a σ = some r) (ht : tyVal t = some y) (hQ : EPost g env as fr s (.bool r) σ Q) :
    wpAny (model g.prog g.w) A (call (.builtin "isinstance") [x, y]) Q X s := by
  have hq := fun tk => hQ.bool (tk := tk) T
  have hq0 := hQ.bool' T
  cases t with
  | int =>
    cases ht
    unfold isiV at e; dsimp only at e
    split at e
    · cases e; rw [RepV] at ha; obtain ⟨u, rfl⟩ := ha; exact IsiPair.int_int hq0
    · cases e; rw [RepV] at ha; subst ha; exact IsiPair.bool_int hq0
    · cases e; rw [RepV] at ha; obtain ⟨u, rfl⟩ := ha; exact IsiPair.str_int (hq _)
    · cases e; rw [RepV] at ha; obtain ⟨ad, items, n, rfl, ho, _⟩ := ha; exact IsiPair.tuple_int ho rfl (hq _)
    · split at e
      · rename_i l vs hl
        cases e; obtain ⟨ad, items, n, rfl, _, ho, _⟩ := rep_list T.R ha (getL_of hl); exact IsiPair.list_int ho rfl (hq _)
      · cases e
    · cases e
  | bool =>
    cases ht
    unfold isiV at e; dsimp only at e
    split at e
    · cases e; rw [RepV] at ha; obtain ⟨u, rfl⟩ := ha; exact IsiPair.int_bool (hq _)
    · cases e; rw [RepV] at ha; subst ha; exact IsiPair.bool_bool hq0
    · cases e; rw [RepV] at ha; obtain ⟨u, rfl⟩ := ha; exact IsiPair.str_bool (hq _)
    · cases e; rw [RepV] at ha; obtain ⟨ad, items, n, rfl, ho, _⟩ := ha; exact IsiPair.tuple_bool ho rfl (hq _)
    · split at e
      · rename_i l vs hl
        cases e; obtain ⟨ad, items, n, rfl, _, ho, _⟩ := rep_list T.R ha (getL_of hl); exact IsiPair.list_bool ho rfl (hq _)
      · cases e
    · cases e
  | tuple =>
    cases ht
    unfold isiV at e; dsimp only at e
    split at e
    · cases e; rw [RepV] at ha; obtain ⟨u, rfl⟩ := ha; exact IsiPair.int_tuple (hq _)
    · cases e; rw [RepV] at ha; subst ha; exact IsiPair.bool_tuple (hq _)
    · cases e; rw [RepV] at ha; obtain ⟨u, rfl⟩ := ha; exact IsiPair.str_tuple (hq _)
    · cases e; rw [RepV] at ha; obtain ⟨ad, items, n, rfl, ho, _⟩ := ha; exact IsiPair.tuple_tuple ho rfl hq0
    · split at e
      · rename_i l vs hl
        cases e; obtain ⟨ad, items, n, rfl, _, ho, _⟩ := rep_list T.R ha (getL_of hl); exact IsiPair.list_tuple ho rfl (hq _)
      · cases e
    · cases e
  | list =>
    cases ht
    unfold isiV at e; dsimp only at e
    split at e
    · cases e; rw [RepV] at ha; obtain ⟨u, rfl⟩ := ha; exact IsiPair.int_list (hq _)
    · cases e; rw [RepV] at ha; subst ha; exact IsiPair.bool_list (hq _)
    · cases e; rw [RepV] at ha; obtain ⟨u, rfl⟩ := ha; exact IsiPair.str_list (hq _)
    · cases e; rw [RepV] at ha; obtain ⟨ad, items, n, rfl, ho, _⟩ := ha; exact IsiPair.tuple_list ho rfl (hq _)
    · split at e
      · rename_i l vs hl
        cases e; obtain ⟨ad, items, n, rfl, _, ho, _⟩ := rep_list T.R ha (getL_of hl); exact IsiPair.list_list ho rfl hq0
      · cases e
    · cases e
  | inst => cases ht
  | exc c ds => cases ht
  | val ds => cases ht

noncomputable def at0 (l : List Int) (i : Nat) : Int := l.getD i 0
set_option tactic.hygienic false in
theorem ints_get {xs : List Value} {is : List Int} (h : IntsAre xs is) (i : Nat) {v : Value} (e : xs[i]? = some v) : ∃ t, v = .int (at0 is i) t := by
  induction h generalizing i with
  | nil => simp at e
  | cons n t _ ih =>
    cases i with
    | zero => simp at e; subst e; exact ⟨t, rfl⟩
    | succ i => simpa [at0] using ih i (by simpa using e)

theorem argBest_max (is : List Int) (x : Int) : ∀ k, k ≤ is.length →
    at0 (x :: is) (argBest (fun i j => decide (at0 (x :: is) j < at0 (x :: is) i)) k) = (is.take k).foldl (fun a b => if a < b then b else a) x
  | 0, _ => by simp [argBest, at0]
  | k + 1, hk => by
    have ih := argBest_max is x k (by lia)
    have hlt : k < is.length := by lia
    rw [List.take_succ_eq_append_getElem hlt, List.foldl_append, ← ih]
    simp only [argBest, List.foldl_cons, List.foldl_nil]
    have e0 : at0 (x :: is) (k + 1) = is[k] := by simp [at0, hlt]
    split
    · rename_i h
      have h' := of_decide_eq_true h
      rw [e0] at h'
      rw [if_pos h']; exact e0
    · rename_i h
      have h' := of_decide_eq_false (Bool.eq_false_iff.mpr h)
      rw [e0] at h'
      rw [if_neg h']
theorem argBest_min (is : List Int) (x : Int) : ∀ k, k ≤ is.length →
    at0 (x :: is) (argBest (fun i j => decide (at0 (x :: is) i < at0 (x :: is) j)) k) = (is.take k).foldl (fun a b => if b < a then b else a) x
  | 0, _ => by simp [argBest, at0]
  | k + 1, hk => by
    have ih := argBest_min is x k (by lia)
    have hlt : k < is.length := by lia
    rw [List.take_succ_eq_append_getElem hlt, List.foldl_append, ← ih]
    simp only [argBest, List.foldl_cons, List.foldl_nil]
    have e0 : at0 (x :: is) (k + 1) = is[k] := by simp [at0, hlt]
    split
    · rename_i h
      have h' := of_decide_eq_true h
      rw [e0] at h'
      rw [if_pos h']; exact e0
    · rename_i h
      have h' := of_decide_eq_false (Bool.eq_false_iff.mpr h)
      rw [e0] at h'
      rw [if_neg h']

set_option tactic.hygienic false in
theorem step_wr {h h' h2 : Heap} {wr : List Addr} (k1 : ∀ (a : Addr) (o : Obj), h.get? a = some o → h2.get? a = some o) (k : ∀ (b : Addr) (o : Obj), b ∉ wr → h2.get? b = some o → h'.get? b = some o) (hw : ∀ b ∈ wr, h.get? b = none) :
    ∀ (a : Addr) (o : Obj), h.get? a = some o → h'.get? a = some o := fun a o e => k a o (fun q => by rw [hw a q] at e; cases e) (k1 a o e)

set_option tactic.hygienic false in
theorem o_min {l : Nat} {x : Value} {is : List Int} {v : Int} (T : At g env as fr σ s) (hA : A.handled = none) (ha : RepV as s.heap (.ref l) x) (e1 : (getL σ l).bind intsOf = some is) (e2 : minL is = some v)
    (hQ : EPost g env as fr s (.int v) σ Q) : wpAny (model g.prog g.w) A (call (.builtin "min") [x]) Q X s := by
  obtain ⟨vs, e3, e4⟩ := Option.bind_eq_some_iff.mp e1
  obtain ⟨ad, items, m, rfl, hd, ho, hr, hz, hsz⟩ := rep_list T.R ha e3
  have hi := intsAre_of e4 hr
  cases is with
  | nil => cases e2
  | cons y ys =>
    cases e2
    have hlen := hi.length
    simp at hlen
    have hne : ad ≠ s.heap.objs.size := Nat.ne_of_lt (Heap.lt_size ho)
    refine call_min_walk (wpAny_pyIter_list ho.isList ?_)
    refine ⟨s.heap.objs.size, _, _, items.size, _, _, fun i j => decide (at0 (y :: ys) i < at0 (y :: ys) j), rfl, Walks.list (A := A.in1) hA s.heap.objs.size ad hne items, ⟨⟨_, Heap.get?_push_size _ rfl, rfl, rfl⟩, ho.isList.push _⟩, ?_, by lia, ?_, ?_⟩
    · intro b hb
      rcases List.mem_cons.mp hb with rfl | hb
      · rw [Heap.size_push]; exact Nat.lt_succ_self _
      · rw [List.mem_singleton.mp hb, Heap.size_push]; exact Nat.lt_succ_of_lt (Heap.lt_size ho)
    · intro i j vi vj s' Q' E' hvi hvj hq
      obtain ⟨t, rfl⟩ := ints_get hi i (by simpa using hvi)
      obtain ⟨u, rfl⟩ := ints_get hi j (by simpa using hvj)
      exact PyProof.Rows.lt_int hq
    · intro v h' tk hv hk
      obtain ⟨t, rfl⟩ := ints_get hi _ (by simpa using hv)
      have e5 := argBest_min ys y (items.size - 1) (by lia)
      rw [List.take_of_length_le (by lia)] at e5
      rw [e5]
      have kk := step_wr (h := s.heap) (keeps_push _ _) hk (by intro b hb; rw [List.mem_singleton.mp hb]; exact new_none _)
      exact hQ.use T (Step.of_ext kk) (T.R.ext kk) (by rw [RepV]; exact ⟨_, rfl⟩)
end
end Mine

set_option autoImplicit false
set_option maxRecDepth 100000
namespace Mine
open PySem PyProof.Rows PySem.W

section
variable {prog : Program} {w : World} {A : Around} {E : Value → Shared → Prop} {s : Shared} {r : Addr}
end

end Mine

set_option autoImplicit false
set_option maxRecDepth 100000
namespace Mine
open PySem PyProof.Rows

noncomputable def bltVal : BN → Value
  | .len => .builtin "len" | .max => .builtin "max" | .min => .builtin "min" | .all => .builtin "all"
  | .list => .type "list" | .tuple => .type "tuple" | .int => .type "int" | .range => .type "range"
  | _ => .none

section
variable {g : Cfg} {env : Env} {A : Around} {X : Value → Shared → Prop} {s : Shared} {as : List Addr} {fr : Fra} {σ σ' : Sto} {Q : Value → Shared → Prop}

set_option tactic.hygienic false in
theorem rng_size {lo hi : Int} (h : -1000000 ≤ lo ∧ lo ≤ 1000000 ∧ -1000000 ≤ hi ∧ hi ≤ 1000000) : Builtin.Range.rangeSize lo hi 1 = (((hi - lo).toNat : Nat) : Int) ∧ Builtin.Range.small lo hi 1 = true := by
  constructor
  · unfold Builtin.Range.rangeSize
    simp only [show (1 : Int) > 0 from by lia, if_true]
    split
    · rw [Int.toNat_of_nonneg (by lia)]; lia
    · rw [Int.toNat_of_nonpos (by lia)]; rfl
  · exact small_one (by lia) (by lia) (by lia) (by lia)

set_option tactic.hygienic false in
theorem rng_rep {h : Heap} {lo hi : Int} {acc : Array Value} (hacc : ItemsOf (fun i v => ∃ t, v = Value.int (lo + (i : Int) * 1) t) acc (hi - lo).toNat) : RepVs as h (rngL lo hi) acc.toList := by
  rw [RepVs.f2]
  have key : ∀ (n k : Nat) (xs : List Value), xs.length = n → (∀ j v, xs[j]? = some v → ∃ t, v = Value.int (lo + ((k + j : Nat) : Int)) t) → F2 (RepV as h) ((List.range' k n).map fun (k : Nat) => V.int (lo + (k : Int))) xs := by
    intro n
    induction n with
    | zero => intro k xs h1 _; simp at h1; subst h1; exact .nil
    | succ n ih =>
      intro k xs h1 h2
      cases xs with
      | nil => simp at h1
      | cons x xs =>
        rw [List.range'_succ, List.map_cons]
        refine .cons ?_ (ih (k + 1) xs (by simpa using h1) fun j v e => ?_)
        · obtain ⟨t, rfl⟩ := h2 0 x rfl
          rw [RepV]; exact ⟨t, by simp⟩
        · obtain ⟨t, rfl⟩ := h2 (j + 1) v (by simpa using e)
          exact ⟨t, by congr 2; lia⟩
  unfold rngL
  rw [List.range_eq_range']
  refine key _ 0 _ (by simpa using hacc.1) fun j v e => ?_
  obtain ⟨t, rfl⟩ := hacc.2 j v (by simpa using e)
  exact ⟨t, by simp⟩

set_option tactic.hygienic false in
theorem one_rep {h : Heap} {a : V} {xs : List Value} (r : RepVs as h [a] xs) : ∃ x, xs = [x] ∧ RepV as h a x := by
  rw [RepVs] at r; obtain ⟨y, ys, rfl, r1, r2⟩ := r; rw [RepVs] at r2; subst r2; exact ⟨y, rfl, r1⟩
set_option tactic.hygienic false in
theorem two_rep {h : Heap} {a c : V} {xs : List Value} (r : RepVs as h [a, c] xs) : ∃ x y, xs = [x, y] ∧ RepV as h a x ∧ RepV as h c y := by
  rw [RepVs] at r; obtain ⟨y, ys, rfl, r1, r2⟩ := r; obtain ⟨z, rfl, r3⟩ := one_rep r2; exact ⟨y, z, rfl, r1, r3⟩
set_option tactic.hygienic false in
theorem ofOpt_inv {o : Option V} {v : V} (e : ofOpt σ o = .ok v σ') : o = some v ∧ σ' = σ := by
  cases o with
  | none => exact bad_ok e
  | some w => cases e; exact ⟨rfl, rfl⟩
section
variable {vs : List V} {xs : List Value} {v : V} {n : Nat}
set_option tactic.hygienic false in
theorem b_len (G : Sys g) (T : At g env as fr σ s) (ha : RepVs as s.heap vs xs) (e : bLen vs σ = .ok v σ') (hQ : EPost g env as fr s v σ' Q) : wpAny (model g.prog g.w) A (call (.builtin "len") xs) Q X s := by
  rcases vs with _ | ⟨a, _ | ⟨b, vs⟩⟩ <;> first | exact bad_ok e | skip
  obtain ⟨h, rfl⟩ := ofOpt_inv e
  obtain ⟨x, rfl, r⟩ := one_rep ha
  obtain ⟨i, h1, rfl⟩ := map_inv h
  exact o_len G T r h1 hQ
set_option tactic.hygienic false in
theorem ints_inv {f : List Int → Option Int} (e : bInts f vs σ = .ok v σ') : ∃ l is i, vs = [.ref l] ∧ (getL σ l).bind intsOf = some is ∧ f is = some i ∧ v = .int i ∧ σ' = σ := by
  rcases vs with _ | ⟨a, _ | ⟨b, vs⟩⟩
  · exact bad_ok e
  · cases a <;> first | exact bad_ok e | skip
    obtain ⟨h, rfl⟩ := ofOpt_inv e
    obtain ⟨i, h1, rfl⟩ := map_inv h
    obtain ⟨is, h2, h3⟩ := bind_inv h1
    exact ⟨_, is, i, rfl, h2, h3, rfl, rfl⟩
  · cases a <;> exact bad_ok e
set_option tactic.hygienic false in
theorem b_min (T : At g env as fr σ s) (hA : A.handled = none) (ha : RepVs as s.heap vs xs) (e : bInts minL vs σ = .ok v σ') (hQ : EPost g env as fr s v σ' Q) : wpAny (model g.prog g.w) A (call (.builtin "min") xs) Q X s := by
  obtain ⟨l, is, i, rfl, h1, h2, rfl, rfl⟩ := ints_inv e
  obtain ⟨x, rfl, r⟩ := one_rep ha
  exact o_min T hA r h1 h2 hQ
theorem b_list (T : At g env as fr σ s) (hA : A.handled = none) (ha : RepVs as s.heap vs xs) (e : bList vs σ = .ok v σ') (hQ : EPost g env as fr s v σ' Q) : wpAny (model g.prog g.w) A (call (.type "list") xs) Q X s := by
  rcases vs with _ | ⟨a, _ | ⟨b, vs⟩⟩ <;> first | exact bad_ok e | skip
  obtain ⟨x, rfl, r⟩ := one_rep ha
  cases a <;> first | exact bad_ok e | skip
  · rename_i l
    obtain ⟨ys, h, e⟩ := gL_inv (o := getL σ l) (f := fun xs => newL xs σ) e
    obtain ⟨ad, items, m, rfl, hd, ho, hr, hz, hsz⟩ := rep_list T.R r h
    refine call_list_seq ad (T := "list") (.inl rfl) ho rfl rfl (fun h' c' k hn => ?_) (by show _ ≤ 2 ^ 24; lia)
    exact hQ.new (tk := s.toks) T k (new_none _) ⟨c', hn⟩ hr e
  · rw [RepV] at r
    obtain ⟨ad, t, u, v', rfl, ho, hb⟩ := r
    obtain ⟨h1, h2⟩ := rng_size hb
    refine call_list_range hA ho h2 h1 (by lia) fun h' tk acc c' k hn hacc => ?_
    exact hQ.new T k (new_none _) ⟨c', hn⟩ (rng_rep hacc) e
theorem rngV_inv {lo hi : Int} (e : rngV lo hi σ = .ok v σ') : (-1000000 ≤ lo ∧ lo ≤ 1000000 ∧ -1000000 ≤ hi ∧ hi ≤ 1000000) ∧ v = .rng lo hi ∧ σ' = σ := by
  unfold rngV at e
  split at e
  · rename_i h; cases e; exact ⟨h, rfl, rfl⟩
  · exact bad_ok e
set_option tactic.hygienic false in
theorem b_range (T : At g env as fr σ s) (ha : RepVs as s.heap vs xs) (e : bRange vs σ = .ok v σ') (hQ : EPost g env as fr s v σ' Q) : wpAny (model g.prog g.w) A (call (.type "range") xs) Q X s := by
  rcases vs with _ | ⟨a, _ | ⟨b, _ | ⟨c, vs⟩⟩⟩
  · exact bad_ok e
  · cases a <;> first | exact bad_ok e | skip
    obtain ⟨x, rfl, r⟩ := one_rep ha
    obtain ⟨hz, rfl, rfl⟩ := rngV_inv e
    rw [RepV] at r; obtain ⟨t, rfl⟩ := r
    refine call_range_1 ?_
    refine hQ.use T (Step.of_ext (keeps_push _ _)) (T.R.ext (keeps_push _ _)) ?_
    rw [RepV]; exact ⟨_, _, _, _, rfl, Heap.get?_push_size _ rfl, hz⟩
  · cases a <;> first | exact bad_ok e | skip
    cases b <;> first | exact bad_ok e | skip
    obtain ⟨x, y, rfl, r1, r2⟩ := two_rep ha
    obtain ⟨hz, rfl, rfl⟩ := rngV_inv e
    rw [RepV] at r1 r2; obtain ⟨t, rfl⟩ := r1; obtain ⟨u, rfl⟩ := r2
    refine call_range_2 ?_
    refine hQ.use T (Step.of_ext (keeps_push _ _)) (T.R.ext (keeps_push _ _)) ?_
    rw [RepV]; exact ⟨_, _, _, _, rfl, Heap.get?_push_size _ rfl, hz⟩
  · exact bad_ok e
end

set_option tactic.hygienic false in
theorem o_blt {b : BN} {vs : List V} {xs : List Value} {v : V} (G : Sys g) (T : At g env as fr σ s) (hA : A.handled = none) (ha : RepVs as s.heap vs xs) (hb : bOk b = true)
    (e : bltV b vs σ = .ok v σ') (hQ : EPost g env as fr s v σ' Q) : wpAny (model g.prog g.w) A (call (bltVal b) xs) Q X s := by
  cases b with
  | len => exact b_len G T ha e hQ
  | min => exact b_min T hA ha e hQ
  | list => exact b_list T hA ha e hQ
  | range => exact b_range T ha e hQ
  | _ => exact ft hb
end
end Mine

set_option autoImplicit false
set_option maxRecDepth 100000
set_option linter.unusedVariables false
namespace Mine
open PySem PyProof.Rows PySem.W

noncomputable def excK (K : Frag) (D : Addr) : Bool := (clsIn K D).isSome && (findIn K (.ref D) "__getattribute__" == some (some (.builtin "BaseException.__getattribute__")) && (findIn K (.ref D) "__getattr__" == some none && (subIn K (.ref D) (.type "BaseException") == some true &&
  (findIn K (.ref D) "__class__" == some (some (.builtin "object.__class__")) && (specialIn K (.builtin "object.__class__") "__get__" == some (some (.builtin "getset_descriptor.__get__")) && (takesIn K (.builtin "object.__class__") == some true && mroIn K D (.type "object") == some true))))))
section
variable {prog : Program} {w : World} {A : Around} {E : Value → Shared → Prop} {s : Shared} {K : Frag} {x D : Addr} {ox : Obj}
set_option tactic.hygienic false in
theorem exc_class {Q : Option Value → Shared → Prop} (X : K.In s.heap) (I : InstAt s.heap x ox D none) (e : excK K D = true) (h : Q (some (.ref D)) { s with toks := s.toks + 1 }) : wpAny (model prog w) A (getAttr? (.ref x) "__class__") Q E s := by
  obtain ⟨e0, e⟩ := and_inv e
  obtain ⟨e1, e⟩ := and_inv e
  obtain ⟨e2, e⟩ := and_inv e
  obtain ⟨e3, e⟩ := and_inv e
  obtain ⟨e4, e⟩ := and_inv e
  obtain ⟨e5, e⟩ := and_inv e
  obtain ⟨e6, e7⟩ := and_inv e
  have L0 := I.type (M := model prog w)
  have L1 := looks_findIn (M := model prog w) X (eq_of_beq e1)
  have L2 := looks_findIn (M := model prog w) X (eq_of_beq e2)
  have L3 : Looks (model prog w) s.heap (isInstance (.ref x) (.type "BaseException")) true := L0.andThen (looks_subIn X (eq_of_beq e3))
  have hf : findObj K D none "__class__" = some (.bind (.builtin "getset_descriptor.__get__") (.builtin "object.__class__")) := by
    obtain ⟨cd, hc⟩ := Option.isSome_iff_exists.mp e0
    unfold findObj
    rw [hc, Option.bind_some, eq_of_beq e4, Option.bind_some]
    simp [eq_of_beq e5, eq_of_beq e6]
  have L4 := looks_find (M := model prog w) X I hf
  obtain ⟨hh, g, d, t, os⟩ := s
  unfold getAttr? getAttrBy? getAttrBy
  refine wpAny_bind (wpAny_mkText (wpAny_bind (wpAny_attempt (wpAny_holding (wpAny_bind (L0.at (wpAny_bind (L1.at ?_))))))))
  show wpAny _ _ (getAttrByItsOwn _ _ _ _ _ _) _ _ _
  unfold getAttrByItsOwn hookBefore
  refine wpAny_bind (L2.at (wpAny_bind (wpAny_attempt (wpAny_holding ?_))))
  show wpAny _ _ (boundAndCalled _ _ _) _ _ _
  unfold boundAndCalled
  refine wpAny_bind (wpAny_of_eq (a := (Value.builtin "BaseException.__getattribute__", [Value.ref x])) (F.attr_ValueError.ga.bind (.ref x)) ?_)
  refine wpAny_call (codeAny_call_builtin F.attr_ValueError.ga.plain F.entry_bexc_ga ?_)
  have hk : builtinKind "BaseException.__getattribute__" = some .slot := by decide +kernel
  have hsplit : splitId "BaseException.__getattribute__" = some ("BaseException", "__getattribute__") := by decide +kernel
  have ha := F.args_bexc_ga (.ref x) (.str "__class__" t)
  simp only [checkBuiltinCall, hk, hsplit]
  refine wpAny_bind (L3.at ?_)
  simp only [Bool.not_true, Bool.false_eq_true, if_false]
  refine wpAny_of_eq (a := ()) ha ?_
  unfold Builtin.«object.__getattribute__»
  refine wpAny_bind (wpAny_pure ?_)
  refine wpAny_bind (wpAny_pure ?_)
  refine wpAny_bind (L0.at (wpAny_bind (L4.at ?_)))
  show wpAny _ _ (holding [.builtin "object.__class__"] (PySem.call (.builtin "getset_descriptor.__get__") [.builtin "object.__class__", .ref x, .ref D]) >>= ret) _ _ _
  refine wpAny_bind (wpAny_holding (wpAny_call (class_get (s := ⟨hh, g, d, t + 1, os⟩) (ox := ox) (od := none) X I (eq_of_beq e7) ?_)))
  exact wpAny_pure (handed_on rfl (wpAny_pure h))
theorem kitx_exc (e : excK K D = true) : KitX K (.ref x) (.ref D) (fun h => W.InstAt h x ox D none) where
  ty := fun _ _ _ I => I.type
  it := fun M h X I => by
    obtain ⟨cd, hc⟩ := Option.isSome_iff_exists.mp (and_inv e).1
    unfold clsIn at hc
    split at hc
    · rename_i ho
      intro A' Q' E' s' k q
      unfold isType loadHead
      exact wpAny_bind (wpAny_loadPart (k _ _ (X _ _ ho)) (wpAny_pure q))
    · cases hc
  ne := fun h tp dd its n sl X htp => by
    obtain ⟨cd, hc⟩ := Option.isSome_iff_exists.mp (and_inv e).1
    refine Bool.eq_false_iff.mpr fun q => ?_
    cases beq_iff_eq.mp q
    unfold clsIn at hc
    split at hc
    · rename_i ho
      rw [X _ _ ho] at htp; cases htp
    · cases hc
  ca := fun X I h => exc_class X I e h
end
end Mine

set_option autoImplicit false
set_option maxRecDepth 100000
namespace Mine
open PySem PyProof.Rows PySem.W

noncomputable def GV (g : Cfg) (x : Str) (v : Value) : Prop :=
  ∃ mg mb, g.b.Ns mainGlobals mg ∧ g.b.Ns builtinsNs mb ∧ (mg x = some v ∨ (mg x = none ∧ mb x = some v))

noncomputable def CallOk (g : Cfg) (fa : Nat → Option Addr) (call : Nat → List V → Sto → RE) (n : Nat) : Prop :=
  ∀ (k : Nat) (a : Addr) (vs : List V) (σ σ' : Sto) (v : V), fa k = some a → call k vs σ = .ok v σ' →
  ∀ (A : Around) (s : Shared) (as : List Addr) (xs : List Value) (R : Result → Shared → Prop), Room g A n → Rel g as σ s.heap → g.b.objs.size ≤ s.heap.objs.size → RepVs as s.heap vs xs →
    (∀ (val : Value) (as' : List Addr) (h' : Heap) (tk : Nat), Step [] as s.heap as' h' → Rel g as' σ' h' → RepV as' h' v val → R (.ok (.ret val)) { s with heap := h', toks := tk }) →
    codeAny (model g.prog g.w) A (.call (.ref a) ⟨xs, []⟩) R s

noncomputable def vMro : List Value := [.type "ValueError", .type "Exception", .type "BaseException", .type "object"]
noncomputable def catchIn (K : Frag) (P : Addr) (ds : List Nat) : Bool := (clsIn K P).isSome && (typeIn K (.ref P) == some (.type "type") && (subIn K (.type "type") (.type "tuple") == some false && (subIn K (.ref P) (.type "BaseException") == some true && ds.all (fun D => subIn K (.ref D) (.ref P) == some true))))
structure GlobE (g : Cfg) (K : Frag) (c : CE) : Prop where
  k : ∀ D ∈ c.excs.map (·.2), excK K D = true
  i : ∀ x C, c.excs.lookup x = some C → GV g x (.ref C)
  r : ∀ x C, c.excs.lookup x = some C → ∃ mg, OwnCls x C vMro "ValueError.__new__" mg g.b
  o : ∀ C ∈ c.excs.map (·.2), ∀ D ∈ c.excs.map (·.2), kitOne K (.ref D) (.ref C) = some (D == C)
  v : GV g "ValueError" (.type "ValueError")
  w : ∀ D ∈ c.excs.map (·.2), kitOne K (.ref D) (.type "ValueError") = some true
  p : ∀ x P, c.pe = some (x, P) → GV g x (.ref P) ∧ catchIn K P (c.excs.map (·.2)) = true
structure Glob (g : Cfg) (K : Frag) (c : CE) (fa : Nat → Option Addr) : Prop where
  sys : Sys g
  kin : K.In g.b
  const : ∀ x i, c.consts.lookup x = some i → ∃ t, GV g x (.int i t)
  fn : ∀ x k, c.fns.lookup x = some k → ∃ a, GV g x (.ref a) ∧ fa k = some a ∧ keepIn K (.ref a) = true
  cls : ∀ x k, c.clss.lookup x = some k → ∃ fI, GV g x (.ref g.C) ∧ fa k = some fI ∧ keepIn K (.ref g.C) = true ∧ makesIn K g.C = true ∧ findIn K (.ref g.C) "__init__" = some (some (.ref fI)) ∧ isFn K (.ref fI) = true
  clsO : ∀ x k, c.clss.lookup x = some k → isIn K (.ref g.C) g.C = true
  blt : ∀ x b, bltName.lookup x = some b → GV g x (bltVal b)
  typ : ∀ x t y, tyName.lookup x = some t → tyVal t = some y → GV g x y
  set : GV g "set" (.type "set")
  rev : GV g "reversed" (.type "reversed")
  sorted : GV g "sorted" (.builtin "sorted")
  hd : c.hnd = false → g.hd = none
  exc : GlobE g K c
  isi : GV g "isinstance" (.builtin "isinstance")
  att : ∀ x k, c.attrs.lookup x = some k → g.at'.lookup k = some x ∧ plainGet K g.C x = true ∧ ∃ at', findIn K (.ref g.C) x = some at' ∧ noGet K at' = true ∧ takerIn K g.C x = some none
  hasD : ∀ x k, c.attrs.lookup x = some k → hasDictIn K g.C = true
  setA : ∀ x k, c.attrs.lookup x = some k → findIn K (.ref g.C) "__setattr__" = some (some (.builtin "object.__setattr__")) ∧ plainOver K g.C = true
  lam : ∀ a, c.lam = some a → ∃ mg, g.b.Ns mainGlobals mg ∧ CodeHd g.b a g.tab ∧ g.b.NoLimit ∧ g.b.BuiltinsAt mg g.tab ∧ mainGlobals ≠ g.tab ∧ g.hd = none
  mth : ∀ x f, c.mths.lookup x = some f → ∃ a, fa f = some a ∧ plainGet K g.C x = true ∧ findIn K (.ref g.C) x = some (some (.ref a)) ∧ isFn K (.ref a) = true ∧ keepIn K (.ref a) = true ∧ ∀ k, g.at'.lookup k ≠ some x

structure NamesOk (c : CE) (env : Env) : Prop where
  f2 : F2 (fun (p q : Str × NameKind) => p.1 = q.1 ∧ (p.2 = q.2 ∨ (p.2 = .free ∧ q.2 = .cell))) c.names env.scope.names
  code : ∀ a, c.lam = some a → env.code = .ref a

set_option tactic.hygienic false in
theorem lookup_get {l : List (Str × NameKind)} {x : Str} {k : NameKind} (e : l.lookup x = some k) : ∃ i, l.findIdx? (fun p => p.1 == x) = some i ∧ l[i]? = some (x, k) := by
  induction l with
  | nil => cases e
  | cons p r ih =>
    obtain ⟨y, kk⟩ := p
    rw [List.lookup_cons] at e
    rw [List.findIdx?_cons]
    by_cases h : (x == y) = true
    · rw [h] at e; simp only [Option.some.injEq] at e; subst e
      have h' := eq_of_beq h; subst h'
      exact ⟨0, by simp, rfl⟩
    · simp only [h] at e
      obtain ⟨i, h1, h2⟩ := ih e
      have hb : (y == x) = false := by
        cases q : y == x with
        | false => rfl
        | true => exact absurd (by rw [eq_of_beq q]; simp) h
      exact ⟨i + 1, by simp only [hb]; simp [h1], by simpa using h2⟩

set_option tactic.hygienic false in
theorem nodup_lookup {l : List (Str × NameKind)} (nd : (l.map (·.1)).Nodup) {i : Nat} {x : Str} {k : NameKind} (e : l[i]? = some (x, k)) : l.lookup x = some k := by
  induction l generalizing i with
  | nil => simp at e
  | cons p r ih =>
    obtain ⟨y, kk⟩ := p
    rw [List.lookup_cons]
    cases i with
    | zero => simp at e; obtain ⟨rfl, rfl⟩ := e; simp
    | succ i =>
      simp at e nd
      have : (x == y) = false := by
        cases q : x == y with
        | false => rfl
        | true => have q' := eq_of_beq q; subst q'; exact absurd (List.mem_of_getElem? e) (nd.1 k)
      rw [this]
      exact ih nd.2 e

set_option tactic.hygienic false in
theorem NamesOk.get {c : CE} {env : Env} (N : NamesOk c env) {i : Nat} {x : Str} {k : NameKind} (e : c.names[i]? = some (x, k)) : ∃ k', env.scope.names[i]? = some (x, k') ∧ (k = k' ∨ (k = .free ∧ k' = .cell)) := by
  obtain ⟨⟨y, k'⟩, h1, h2, h3⟩ := F2.get N.f2 e
  have : x = y := h2
  subst this
  exact ⟨k', h1, h3⟩

set_option tactic.hygienic false in
theorem NamesOk.map {c : CE} {env : Env} (N : NamesOk c env) : c.names.map (·.1) = env.scope.names.map (·.1) := by
  have : ∀ {a b : List (Str × NameKind)}, F2 (fun (p q : Str × NameKind) => p.1 = q.1 ∧ (p.2 = q.2 ∨ (p.2 = .free ∧ q.2 = .cell))) a b → a.map (·.1) = b.map (·.1) := by
    intro a b h
    induction h with
    | nil => rfl
    | cons x _ ih => simp only [List.map_cons, ih]; rw [x.1]
  exact this N.f2

theorem loc_get {c : CE} {x : Str} {i : Nat} (e : c.loc? x = some i) : ∃ k, c.names[i]? = some (x, k) ∧ (k = .local ∨ k = .cell ∨ k = .free) := by
  unfold CE.loc? at e
  split at e
  · rename_i h; obtain ⟨j, h1, h2⟩ := lookup_get h; rw [h1] at e; cases e; exact ⟨_, h2, .inl rfl⟩
  · rename_i h; obtain ⟨j, h1, h2⟩ := lookup_get h; rw [h1] at e; cases e; exact ⟨_, h2, .inr (.inl rfl)⟩
  · rename_i h; obtain ⟨j, h1, h2⟩ := lookup_get h; rw [h1] at e; cases e; exact ⟨_, h2, .inr (.inr rfl)⟩
  · cases e

section
variable {g : Cfg} {K : Frag} {c : CE} {fa : Nat → Option Addr} {env : Env} {A : Around} {X : Value → Shared → Prop} {s : Shared} {as : List Addr} {fr : Fra} {σ σ' : Sto} {Q : Value → Shared → Prop}

set_option tactic.hygienic false in
theorem o_glob {x : Str} {v : Value} (T : At g env as fr σ s) (N : NamesOk c env) (hg : c.glob x = true) (hd : (x == ("__debug__" : Str)) = false) (G : GV g x v) (h : Q v s) {pos : Pos} : wpAny (model g.prog g.w) A (eval (.Name x pos) env) Q X s := by
  unfold CE.glob at hg
  have hl : c.names.lookup x = some .globalImplicit := eq_of_beq hg
  obtain ⟨i, _, h2⟩ := lookup_get hl
  obtain ⟨k', h3, h4⟩ := N.get h2
  have hk : k' = .globalImplicit := by
    rcases h4 with h4 | h4
    · exact h4.symm
    · cases h4.1
  subst hk
  have hx : env.kindOf x = some .globalImplicit := nodup_lookup T.F.nd h3
  obtain ⟨mg, mb, g1, g2, g3⟩ := G
  refine Calls.Name_function_global T.F.kind hx ?_ hd
  rcases g3 with g3 | ⟨g3, g4⟩
  · exact Calls.loadGlobal_global (by rw [T.F.glob]; exact g1.keeps T.R.base) g3 h
  · exact Calls.loadGlobal_builtin (by rw [T.F.glob]; exact g1.keeps T.R.base) g3 (by rw [T.F.blt]; exact g2.keeps T.R.base) g4 h

set_option tactic.hygienic false in
theorem o_loc {x : Str} {i : Nat} {v : V} (T : At g env as fr σ s) (N : NamesOk c env) (hl : c.loc? x = some i) (hd : (x == ("__debug__" : Str)) = false) (hc : (x == ("__classdict__" : Str)) = false) (e : fr[i]? = some (some v))
    (hQ : EPost g env as fr s v σ Q) {pos : Pos} : wpAny (model g.prog g.w) A (eval (.Name x pos) env) Q X s := by
  obtain ⟨k, h1, h2⟩ := loc_get hl
  obtain ⟨k', h3, h4⟩ := N.get h1
  have hx : env.kindOf x = some k' := nodup_lookup T.F.nd h3
  refine wpAny_Name ?_ hd
  have hk : k' = .local ∨ k' = .cell ∨ k' = .free := by
    rcases h4 with h4 | h4
    · subst h4; exact h2
    · exact .inr (.inl h4.2)
  rcases hk with rfl | rfl | rfl
  · obtain ⟨m, hm, hv⟩ := T.F.ns
    obtain ⟨val, e1, e2⟩ := hv i x v h3 e
    exact wpAny_loadName_local T.F.kind hx hm e1 (hQ.same' T e2)
  · obtain ⟨cc, cv, e1, e2, e3⟩ := T.F.cells i x _ h3 (.inl rfl)
    obtain ⟨val, rfl, e5⟩ := e3 v e
    exact wpAny_loadName_cell T.F.kind hx e1 e2 (hQ.same' T e5)
  · obtain ⟨cc, cv, e1, e2, e3⟩ := T.F.cells i x _ h3 (.inr rfl)
    obtain ⟨val, rfl, e5⟩ := e3 v e
    exact wpAny_loadName_free T.F.kind hx e1 e2 (hQ.same' T e5) hc
end
end Mine

set_option autoImplicit false
set_option maxRecDepth 100000
set_option linter.unusedVariables false
namespace Mine
open PySem PyProof.Rows PySem.W

noncomputable def SndE (g : Cfg) (c0 : CE) (call : Nat → List V → Sto → RE) (r n : Nat) : Prop :=
  ∀ (names : List (Str × NameKind)) (e : Expr) (e' : E), compE n (c0.sub names) e = some e' →
  ∀ (env : Env) (A : Around) (X : Value → Shared → Prop) (s : Shared) (as : List Addr) (fr : Fra) (σ σ' : Sto) (v : V) (Q : Value → Shared → Prop),
    NamesOk (c0.sub names) env → Room g A (r + 1) → At g env as fr σ s → evE call e' fr σ = .ok v σ' → EPost g env as fr s v σ' Q → wpAny (model g.prog g.w) A (eval e env) Q X s

noncomputable def BPost (g : Cfg) (env : Env) (as : List Addr) (fr : Fra) (s : Shared) (b : Bool) (σ' : Sto) (Q : Bool → Shared → Prop) : Prop :=
  ∀ (as' : List Addr) (h' : Heap) (tk : Nat), Step [env.locals] as s.heap as' h' → Rel g as' σ' h' → FrRel g env as' fr h' → Q b { s with heap := h', toks := tk }

noncomputable def SndT (g : Cfg) (c0 : CE) (call : Nat → List V → Sto → RE) (r n : Nat) : Prop :=
  ∀ (names : List (Str × NameKind)) (e : Expr) (e' : E), compE n (c0.sub names) e = some e' →
  ∀ (env : Env) (A : Around) (X : Value → Shared → Prop) (s : Shared) (as : List Addr) (fr : Fra) (σ σ' : Sto) (b : Bool) (Q : Bool → Shared → Prop),
    NamesOk (c0.sub names) env → Room g A (r + 1) → At g env as fr σ s → evE call e' fr σ = .ok (.bool b) σ' → BPost g env as fr s b σ' Q → wpAny (model g.prog g.w) A (isTrue e env (eval e env)) Q X s

set_option tactic.hygienic false in
theorem bind_ok {r : RE} {k : V → Sto → RE} {v : V} {σ' : Sto} (e : r.bind k = .ok v σ') : ∃ u τ, r = .ok u τ ∧ k u τ = .ok v σ' := by
  cases r with
  | ok u τ => exact ⟨u, τ, rfl, e⟩
  | ex x τ => cases e
  | bad => cases e
set_option tactic.hygienic false in
theorem binds_ok {r : RE} {k : V → Sto → REs} {v : List V} {σ' : Sto} (e : r.binds k = .ok v σ') : ∃ u τ, r = .ok u τ ∧ k u τ = .ok v σ' := by
  cases r with
  | ok u τ => exact ⟨u, τ, rfl, e⟩
  | ex x τ => cases e
  | bad => cases e
set_option tactic.hygienic false in
theorem sbind_ok {r : REs} {k : List V → Sto → RE} {v : V} {σ' : Sto} (e : r.bind k = .ok v σ') : ∃ u τ, r = .ok u τ ∧ k u τ = .ok v σ' := by
  cases r with
  | ok u τ => exact ⟨u, τ, rfl, e⟩
  | ex x τ => cases e
  | bad => cases e
set_option tactic.hygienic false in
theorem sbinds_ok {r : REs} {k : List V → Sto → REs} {v : List V} {σ' : Sto} (e : r.binds k = .ok v σ') : ∃ u τ, r = .ok u τ ∧ k u τ = .ok v σ' := by
  cases r with
  | ok u τ => exact ⟨u, τ, rfl, e⟩
  | ex x τ => cases e
  | bad => cases e

set_option tactic.hygienic false in
theorem bind_el {r : RE} {k : V → Sto → RE} {v : V} {σ' : Sto} {P : Prop} (e : r.bind k = .ok v σ') (h : ∀ u τ, r = .ok u τ → k u τ = .ok v σ' → P) : P := let ⟨u, τ, h1, h2⟩ := bind_ok e; h u τ h1 h2
set_option tactic.hygienic false in
theorem binds_el {r : RE} {k : V → Sto → REs} {v : List V} {σ' : Sto} {P : Prop} (e : r.binds k = .ok v σ') (h : ∀ u τ, r = .ok u τ → k u τ = .ok v σ' → P) : P := let ⟨u, τ, h1, h2⟩ := binds_ok e; h u τ h1 h2
set_option tactic.hygienic false in
theorem sbind_el {r : REs} {k : List V → Sto → RE} {v : V} {σ' : Sto} {P : Prop} (e : r.bind k = .ok v σ') (h : ∀ u τ, r = .ok u τ → k u τ = .ok v σ' → P) : P := let ⟨u, τ, h1, h2⟩ := sbind_ok e; h u τ h1 h2
set_option tactic.hygienic false in
theorem sbinds_el {r : REs} {k : List V → Sto → REs} {v : List V} {σ' : Sto} {P : Prop} (e : r.binds k = .ok v σ') (h : ∀ u τ, r = .ok u τ → k u τ = .ok v σ' → P) : P := let ⟨u, τ, h1, h2⟩ := sbinds_ok e; h u τ h1 h2

section
variable {g : Cfg} {K : Frag} {c0 : CE} {fa : Nat → Option Addr} {call : Nat → List V → Sto → RE} {env : Env} {A : Around} {X : Value → Shared → Prop} {s : Shared} {as : List Addr} {fr : Fra} {σ σ' : Sto} {r n : Nat}
  {names : List (Str × NameKind)}

set_option tactic.hygienic false in
theorem At.step (T : At g env as fr σ s) {as' : List Addr} {h' : Heap} {tk : Nat} {σ' : Sto} (R' : Rel g as' σ' h') (F' : FrRel g env as' fr h') : At g env as' fr σ' { s with heap := h', toks := tk } := ⟨F', R'⟩
set_option tactic.hygienic false in
theorem At.keep (T : At g env as fr σ s) {as' : List Addr} {h' : Heap} (x : Step [env.locals] as s.heap as' h') : Keep as s.heap as' h' := T.R.keep x T.F.notImm
set_option tactic.hygienic false in
theorem step_trans {as as1 as2 : List Addr} {h h1 h2 : Heap} {σ2 : Sto} (x : Step [env.locals] as h as1 h1) (y : Step [env.locals] as1 h1 as2 h2) (R2 : Rel g as2 σ2 h2) (F2' : FrRel g env as2 fr h2) : Step [env.locals] as h as2 h2 :=
  x.trans y R2.nd (by intro a ha; simp at ha; subst ha; exact F2'.off)

set_option tactic.hygienic false in
theorem two {e1 e2 : Expr} {a b : E} {u v : V} {τ : Sto} {Q : Value → Value → Shared → Prop} (IH : SndE g c0 call r n) (h1 : compE n (c0.sub names) e1 = some a) (h2 : compE n (c0.sub names) e2 = some b)
    (N : NamesOk (c0.sub names) env) (hA : Room g A (r + 1)) (T : At g env as fr σ s) (ev1 : evE call a fr σ = .ok u τ) (ev2 : evE call b fr τ = .ok v σ')
    (hQ : ∀ (x y : Value) (as' : List Addr) (h' : Heap) (tk : Nat), Step [env.locals] as s.heap as' h' → Rel g as' σ' h' → FrRel g env as' fr h' → RepV as' h' u x → RepV as' h' v y → Q x y { s with heap := h', toks := tk }) :
    wpAny (model g.prog g.w) A (eval e1 env) (fun x s1 => wpAny (model g.prog g.w) A (eval e2 env) (fun y s2 => Q x y s2) X s1) X s := by
  refine IH names e1 a h1 env A X s as fr σ τ u _ N hA T ev1 fun x as1 k1 tk1 st1 R1 F1 r1 => ?_
  refine IH names e2 b h2 env A X _ as1 fr τ σ' v _ N hA ⟨F1, R1⟩ ev2 fun y as2 k2 tk2 st2 R2 F2' r2 => ?_
  exact hQ x y as2 k2 tk2 (step_trans st1 st2 R2 F2') R2 F2' (RepV.keep (At.keep (s := { s with heap := k1, toks := tk1 }) ⟨F1, R1⟩ st2) _ _ r1) r2

set_option tactic.hygienic false in
theorem epost_of {v : V} {Q : Value → Shared → Prop} {as' : List Addr} {h' : Heap} {tk : Nat} {τ : Sto} (hQ : EPost g env as fr s v σ' Q) (x : Step [env.locals] as s.heap as' h') (R' : Rel g as' τ h') (F' : FrRel g env as' fr h') :
    EPost g env as' fr { s with heap := h', toks := tk } v σ' Q := fun val as2 h2 tk2 st2 R2 F2' r2 => hQ val as2 h2 tk2 (step_trans x st2 R2 F2') R2 F2' r2
set_option tactic.hygienic false in
theorem bpost_of {b : Bool} {Q : Bool → Shared → Prop} {as' : List Addr} {h' : Heap} {tk : Nat} {τ : Sto} (hQ : BPost g env as fr s b σ' Q) (x : Step [env.locals] as s.heap as' h') (R' : Rel g as' τ h') (F' : FrRel g env as' fr h') :
    BPost g env as' fr { s with heap := h', toks := tk } b σ' Q := fun as2 h2 tk2 st2 R2 F2' => hQ as2 h2 tk2 (step_trans x st2 R2 F2') R2 F2'

set_option tactic.hygienic false in
theorem notStarred {e : Expr} {e' : E} {c : CE} (h : compE n c e = some e') : ∀ rest env, starEach (e :: rest) env = (false, eval e env) :: starEach rest env := by
  intro rest env
  have hk := comp_kind h
  cases e <;> first | rfl | exact ft hk

set_option tactic.hygienic false in
theorem args_snd (IH : SndE g c0 call r n) {pos : Pos} : ∀ (es : List Expr) (es' : List E) (s : Shared) (as : List Addr) (σ σ' : Sto) (vs : List V) (Q : List Value → Shared → Prop),
    mapO (compE n (c0.sub names)) es = some es' → NamesOk (c0.sub names) env → Room g A (r + 1) → At g env as fr σ s → evEs call es' fr σ = .ok vs σ' →
    (∀ (xs : List Value) (as' : List Addr) (h' : Heap) (tk : Nat), Step [env.locals] as s.heap as' h' → Rel g as' σ' h' → FrRel g env as' fr h' → RepVs as' h' vs xs → Q xs { s with heap := h', toks := tk }) →
    wpAny (model g.prog g.w) A (spliced (backTo pos (starEach es env))) Q X s
  | [], es', s, as, σ, σ', vs, Q, h, N, hA, T, ev, hQ => by
    rw [mapO] at h; cases h; rw [evEs] at ev; cases ev
    exact wpAny_items_nil (hQ [] as s.heap s.toks (Step.refl _ _ _) T.R T.F (by rw [RepVs]))
  | e :: es, es', s, as, σ, σ', vs, Q, h, N, hA, T, ev, hQ => by
    obtain ⟨a, as', h1, h2, rfl⟩ := mapO_cons h
    rw [evEs] at ev
    refine binds_el ev fun u τ e1 e2 => ?_
    refine sbinds_el e2 fun us τ' e3 e4 => ?_
    cases e4
    refine wpAny_items_cons ?_ (notStarred h1 _ _)
    refine IH names e a h1 env A X s as fr σ τ u _ N hA T e1 fun x as1 k1 tk1 st1 R1 F1 r1 => ?_
    refine args_snd IH es as' _ as1 τ σ' us _ h2 N hA ⟨F1, R1⟩ e3 fun xs as2 k2 tk2 st2 R2 F2' r2 => ?_
    refine hQ (x :: xs) as2 k2 tk2 (step_trans st1 st2 R2 F2') R2 F2' ?_
    rw [RepVs]
    exact ⟨x, xs, rfl, RepV.keep (At.keep (s := { s with heap := k1, toks := tk1 }) ⟨F1, R1⟩ st2) _ _ r1, r2⟩

set_option tactic.hygienic false in
theorem boolOp_snd (IH : SndE g c0 call r n) {pos : Pos} {op : BoolOp} : ∀ (es : List Expr) (es' : List E) (b' : E) (s : Shared) (as : List Addr) (σ σ' : Sto) (v : V) (Q : Value → Shared → Prop),
    mapO (compE n (c0.sub names)) es = some es' → foldB op es' = some b' → NamesOk (c0.sub names) env → Room g A (r + 1) → At g env as fr σ s → evE call b' fr σ = .ok v σ' → EPost g env as fr s v σ' Q →
    wpAny (model g.prog g.w) A (boolOp pos op (evalEach es env)) Q X s
  | [], es', b', s, as, σ, σ', v, Q, h, hf, N, hA, T, ev, hQ => by rw [mapO] at h; cases h; cases hf
  | [e], es', b', s, as, σ, σ', v, Q, h, hf, N, hA, T, ev, hQ => by
    obtain ⟨a, as', h1, h2, rfl⟩ := mapO_cons h
    rw [mapO] at h2; cases h2
    simp only [foldB, Option.some.injEq] at hf; subst hf
    show wpAny _ A (eval e env) Q X s
    exact IH names e a h1 env A X s as fr σ σ' v _ N hA T ev hQ
  | e :: e2 :: es, es', b', s, as, σ, σ', v, Q, h, hf, N, hA, T, ev, hQ => by
    obtain ⟨a, as', h1, h2, rfl⟩ := mapO_cons h
    obtain ⟨a2, as2', h3, h4, rfl⟩ := mapO_cons h2
    have hf' : ∃ y, foldB op (a2 :: as2') = some y ∧ b' = mkB op a y := by
      have : foldB op (a :: a2 :: as2') = (foldB op (a2 :: as2')).map fun y => mkB op a y := rfl
      rw [this] at hf
      obtain ⟨y, q1, q2⟩ := Option.map_eq_some_iff.mp hf
      exact ⟨y, q1, q2.symm⟩
    obtain ⟨y, hy, rfl⟩ := hf'
    show wpAny _ A (do
      let v ← eval e env
      standAt pos
      let t ← holding [v] (truthy v)
      match op, t with
      | .And, false | .Or, true => pure v
      | _, _ => boolOp pos op (evalEach (e2 :: es) env)) Q X s
    cases op with
    | And =>
      dsimp only [mkB] at ev
      refine bind_el ev fun u τ e5 e6 => ?_
      refine wpAny_bind (IH names e a h1 env A X s as fr σ τ u _ N hA T e5 fun x as1 k1 tk1 st1 R1 F1 r1 => wpAny_bind (wpAny_standAt (wpAny_bind (wpAny_holding ?_))))
      split at e6
      · rw [RepV] at r1; subst r1
        refine wpAny_truthy_bool ?_
        exact boolOp_snd IH (e2 :: es) (a2 :: as2') y _ as1 τ σ' v Q h2 hy N hA ⟨F1, R1⟩ e6 (epost_of hQ st1 R1 F1)
      · cases e6
        rw [RepV] at r1; subst r1
        refine wpAny_truthy_bool (wpAny_pure ?_)
        exact hQ _ as1 k1 tk1 st1 R1 F1 (by rw [RepV])
      · cases e6
    | Or =>
      dsimp only [mkB] at ev
      refine bind_el ev fun u τ e5 e6 => ?_
      refine wpAny_bind (IH names e a h1 env A X s as fr σ τ u _ N hA T e5 fun x as1 k1 tk1 st1 R1 F1 r1 => wpAny_bind (wpAny_standAt (wpAny_bind (wpAny_holding ?_))))
      split at e6
      · rw [RepV] at r1; subst r1
        refine wpAny_truthy_bool ?_
        exact boolOp_snd IH (e2 :: es) (a2 :: as2') y _ as1 τ σ' v Q h2 hy N hA ⟨F1, R1⟩ e6 (epost_of hQ st1 R1 F1)
      · cases e6
        rw [RepV] at r1; subst r1
        refine wpAny_truthy_bool (wpAny_pure ?_)
        exact hQ _ as1 k1 tk1 st1 R1 F1 (by rw [RepV])
      · cases e6

set_option tactic.hygienic false in
theorem allTrue_snd (IH : SndT g c0 call r n) {op : BoolOp} : ∀ (es : List Expr) (es' : List E) (b' : E) (s : Shared) (as : List Addr) (σ σ' : Sto) (v : Bool) (Q : Bool → Shared → Prop),
    mapO (compE n (c0.sub names)) es = some es' → foldB op es' = some b' → NamesOk (c0.sub names) env → Room g A (r + 1) → At g env as fr σ s → evE call b' fr σ = .ok (.bool v) σ' → BPost g env as fr s v σ' Q →
    wpAny (model g.prog g.w) A (allTrue op es env) Q X s
  | [], es', b', s, as, σ, σ', v, Q, h, hf, N, hA, T, ev, hQ => by rw [mapO] at h; cases h; cases hf
  | [e], es', b', s, as, σ, σ', v, Q, h, hf, N, hA, T, ev, hQ => by
    obtain ⟨a, as', h1, h2, rfl⟩ := mapO_cons h
    rw [mapO] at h2; cases h2
    simp only [foldB, Option.some.injEq] at hf; subst hf
    show wpAny _ A (do
      match op, ← isTrue e env (eval e env) with
      | .And, false => pure false
      | .Or, true => pure true
      | _, _ => allTrue op [] env) Q X s
    refine wpAny_bind (IH names e a h1 env A X s as fr σ σ' v _ N hA T ev fun as1 k1 tk1 st1 R1 F1 => ?_)
    have hq := hQ as1 k1 tk1 st1 R1 F1
    cases op <;> cases v <;> exact wpAny_pure hq
  | e :: e2 :: es, es', b', s, as, σ, σ', v, Q, h, hf, N, hA, T, ev, hQ => by
    obtain ⟨a, as', h1, h2, rfl⟩ := mapO_cons h
    obtain ⟨a2, as2', h3, h4, rfl⟩ := mapO_cons h2
    have hf' : ∃ y, foldB op (a2 :: as2') = some y ∧ b' = mkB op a y := by
      have : foldB op (a :: a2 :: as2') = (foldB op (a2 :: as2')).map fun y => mkB op a y := rfl
      rw [this] at hf
      obtain ⟨y, q1, q2⟩ := Option.map_eq_some_iff.mp hf
      exact ⟨y, q1, q2.symm⟩
    obtain ⟨y, hy, rfl⟩ := hf'
    show wpAny _ A (do
      match op, ← isTrue e env (eval e env) with
      | .And, false => pure false
      | .Or, true => pure true
      | _, _ => allTrue op (e2 :: es) env) Q X s
    cases op with
    | And =>
      dsimp only [mkB] at ev
      refine bind_el ev fun u τ e5 e6 => ?_
      split at e6
      · refine wpAny_bind (IH names e a h1 env A X s as fr σ τ true _ N hA T e5 fun as1 k1 tk1 st1 R1 F1 => ?_)
        exact allTrue_snd IH (e2 :: es) (a2 :: as2') y _ as1 τ σ' v Q h2 hy N hA ⟨F1, R1⟩ e6 (bpost_of hQ st1 R1 F1)
      · cases e6
        refine wpAny_bind (IH names e a h1 env A X s as fr σ _ false _ N hA T e5 fun as1 k1 tk1 st1 R1 F1 => wpAny_pure ?_)
        exact hQ as1 k1 tk1 st1 R1 F1
      · cases e6
    | Or =>
      dsimp only [mkB] at ev
      refine bind_el ev fun u τ e5 e6 => ?_
      split at e6
      · refine wpAny_bind (IH names e a h1 env A X s as fr σ τ false _ N hA T e5 fun as1 k1 tk1 st1 R1 F1 => ?_)
        exact allTrue_snd IH (e2 :: es) (a2 :: as2') y _ as1 τ σ' v Q h2 hy N hA ⟨F1, R1⟩ e6 (bpost_of hQ st1 R1 F1)
      · cases e6
        refine wpAny_bind (IH names e a h1 env A X s as fr σ _ true _ N hA T e5 fun as1 k1 tk1 st1 R1 F1 => wpAny_pure ?_)
        exact hQ as1 k1 tk1 st1 R1 F1
      · cases e6
end
end Mine

set_option autoImplicit false
set_option maxRecDepth 100000
set_option linter.unusedVariables false
namespace Mine
open PySem PyProof.Rows PySem.W

noncomputable def methId : MN → String
  | .append => "list.append" | .pop => "list.pop" | .clear => "list.clear" | .extend => "list.extend" | .index => "list.index"

section
variable {g : Cfg} {K : Frag} {env : Env} {A : Around} {X : Value → Shared → Prop} {s : Shared} {as : List Addr} {fr : Fra} {σ σ' : Sto} {Q : Value → Shared → Prop}

set_option tactic.hygienic false in
theorem EPost.upd {v : V} {val : Value} {l : Nat} {a : Addr} {h' : Heap} {tk : Nat} {ys : List V} {items : Array Value} (hQ : EPost g env as fr s v (setL σ l ys) Q) (T : At g env as fr σ s) (hl : as[l]? = some a)
    (k : ∀ (b : Addr) (o : Obj), b ≠ a → s.heap.get? b = some o → h'.get? b = some o) (hp : h'.PlainList a items) (r : Keep as s.heap as h' → RepVs as h' ys items.toList) (hz : ys.length ≤ 16777216) (rv : Keep as s.heap as h' → RepV as h' v val) :
    Q val { s with heap := h', toks := tk } := by
  obtain ⟨K, R', x⟩ := T.R.upd (o := .lst ys) hl k fun K => ⟨items, hp, r K, hz⟩
  exact hQ.use T x R' (rv K)

set_option tactic.hygienic false in
theorem upd_keeps (h : Heap) (a : Addr) (f : Obj → Obj) : ∀ (b : Addr) (o : Obj), b ≠ a → h.get? b = some o → (h.update a f).get? b = some o := fun b o hb e => by rw [Heap.get?_update_other _ _ (Ne.symm hb)]; exact e
set_option tactic.hygienic false in
theorem upd_plain {h : Heap} {a : Addr} {items : Array Value} {n : Nat} (ho : IsL h a items n) (f : Array Value → Array Value) : (h.update a (Obj.mapSeq f)).PlainList a (f items) := ⟨_, ho.update f⟩

theorem lay_ints {is : List Int} (h1 : is.length ≤ 1000) (h2 : ∀ j ∈ is, j.natAbs < 1024) : PyData.layable0 (.list (is.map .int)) = true := by
  have key : ∀ is : List Int, (∀ j ∈ is, j.natAbs < 1024) → PyData.canLayAll0 (is.map .int) = true ∧ PyData.depthAll (is.map .int) = 0 ∧ PyData.weightAll (is.map .int) ≤ 11 * is.length := by
    intro is
    induction is with
    | nil => intro _; exact ⟨rfl, rfl, Nat.le_refl _⟩
    | cons j r ih =>
      intro h
      obtain ⟨a, b, c⟩ := ih fun k hk => h k (.tail _ hk)
      have hj := h j (.head _)
      refine ⟨by simp [PyData.canLayAll0, PyData.canLay0, a], by simp [PyData.depthAll, PyData.depth, b], ?_⟩
      simp only [List.map_cons, PyData.weightAll, PyData.weight, List.length_cons]
      have : (if (j == 0) = true then 0 else j.natAbs.log2 + 1) ≤ 10 := by
        split
        · lia
        · rename_i h0
          have h0' : j.natAbs ≠ 0 := by intro q; apply h0; simp; lia
          exact (Nat.log2_lt h0').mpr hj
      lia
  obtain ⟨a, b, c⟩ := key is h2
  unfold PyData.layable0
  simp only [PyData.canLay0, a, PyData.depth, b, PyData.weight, Bool.true_and, Bool.and_eq_true, decide_eq_true_eq]
  have h20 : (2 : Nat) ^ 20 = 1048576 := by decide +kernel
  refine ⟨by lia, decide_eq_true ?_⟩
  rw [h20]; lia

section
variable {l : Nat} {ys vs : List V} {x : Value} {xs : List Value} {v : V} {n : Nat}
set_option tactic.hygienic false in
theorem m_append (T : At g env as fr σ s) (L : RepL as s.heap l ys x) (hs : RepVs as s.heap vs xs) (e : methV .append l ys vs σ = .ok v σ') (hQ : EPost g env as fr s v σ' Q) : wpAny (model g.prog g.w) A (call (.builtin "list.append") (x :: xs)) Q X s := by
  rcases vs with _ | ⟨v0, _ | ⟨v1, vs⟩⟩ <;> first | exact bad_ok e | skip
  obtain ⟨hz, e⟩ := if_inv e
  obtain ⟨rfl, rfl⟩ := ok_inj e
  obtain ⟨y, rfl, r1⟩ := one_rep hs
  cases L with
  | mk ad items k hd ho hr hz' hsz =>
    refine wpAny_list_append_plain ⟨k, ho⟩ (fun h' hp hsb => ?_) (by show _ ≤ 2 ^ 24; lia)
    refine hQ.upd (tk := s.toks) T hd (fun b o hb e => hsb.extBut b o hb e) hp (fun K => ?_) (by rw [List.length_append]; exact hz) (fun K => by rw [RepV])
    rw [Array.toList_push]
    exact RepVs.f2.mpr ((RepVs.f2.mp (RepVs.keep K _ _ hr)).append (.cons (RepV.keep K _ _ r1) .nil))
set_option tactic.hygienic false in
theorem m_pop (T : At g env as fr σ s) (L : RepL as s.heap l ys x) (hs : RepVs as s.heap vs xs) (e : methV .pop l ys vs σ = .ok v σ') (hQ : EPost g env as fr s v σ' Q) : wpAny (model g.prog g.w) A (call (.builtin "list.pop") (x :: xs)) Q X s := by
  rcases vs with _ | ⟨v0, vs⟩ <;> first | exact bad_ok e | skip
  rw [RepVs] at hs; subst hs
  have e : (match ys.getLast? with | some v => RE.ok v (setL σ l ys.dropLast) | none => .bad) = .ok v σ' := e
  cases hv : ys.getLast? with
  | none => rw [hv] at e; exact bad_ok e
  | some v0 =>
    rw [hv] at e
    obtain ⟨rfl, rfl⟩ := ok_inj e
    cases L with
    | mk ad items k hd ho hr hz' hsz =>
      rw [List.getLast?_eq_getElem?] at hv
      obtain ⟨y, hy, ry⟩ := (RepVs.f2.mp hr).get hv
      have hy' : items[items.size - 1]? = some y := by rw [hsz, ← Array.getElem?_toList]; exact hy
      refine call_meets F.slot_list_pop ⟨_, ho, rfl⟩ F.entry_list_pop (F.args_list_pop_1 _) (MeetsSeq.list_pop_last ad items k y hy' (by show _ ≤ 2 ^ 24; lia)) ⟨ho, ?_⟩
      refine hQ.upd (tk := s.toks) T hd (upd_keeps _ _ _) (upd_plain ho _) (fun K => ?_) (by rw [List.length_dropLast]; lia) (fun K => RepV.keep K _ _ ry)
      have hlt : items.size - 1 < items.size := (Array.getElem?_eq_some_iff.mp hy').1
      have e1 : (items.eraseIdxIfInBounds (items.size - 1)).toList = items.toList.take (items.size - 1) := by
        rw [Array.eraseIdxIfInBounds, dif_pos hlt, Array.toList_eraseIdx, show items.size - 1 = items.toList.length - 1 from by rw [Array.length_toList], List.eraseIdx_length_sub_one, List.dropLast_eq_take]
      rw [e1, List.dropLast_eq_take, ← hsz]
      exact RepVs.f2.mpr ((RepVs.f2.mp (RepVs.keep K _ _ hr)).take _)
theorem m_index (T : At g env as fr σ s) (L : RepL as s.heap l ys x) (hs : RepVs as s.heap vs xs) (e : methV .index l ys vs σ = .ok v σ') (hQ : EPost g env as fr s v σ' Q) : wpAny (model g.prog g.w) A (call (.builtin "list.index") (x :: xs)) Q X s := by
  rcases vs with _ | ⟨v0, _ | ⟨v1, vs⟩⟩ <;> first | exact bad_ok e | skip
  obtain ⟨y, rfl, r1⟩ := one_rep hs
  cases v0 <;> first | exact bad_ok e | skip
  rename_i i
  have e : (match intsOf ys with | some is => if idxOk i is then RE.ok (.int (is.idxOf i)) σ else .bad | none => .bad) = .ok v σ' := e
  cases hi : intsOf ys with
  | none => rw [hi] at e; exact bad_ok e
  | some is =>
    rw [hi] at e
    obtain ⟨hz, e⟩ := if_inv e
    obtain ⟨rfl, rfl⟩ := ok_inj e
    obtain ⟨t, rfl⟩ := rep_int r1
    cases L with
    | mk ad items k hd ho hr hz' hsz => exact index_list_ints (vs := items.toList) (by simpa using ho.isList) (intsAre_of hi hr) (lay_ints hz.2.1 hz.2.2) hz.1 (hQ.int T)
set_option tactic.hygienic false in
theorem o_meth {m : MN} (hm : mOk m = true) (T : At g env as fr σ s) (L : RepL as s.heap l ys x) (hs : RepVs as s.heap vs xs) (e : methV m l ys vs σ = .ok v σ') (hQ : EPost g env as fr s v σ' Q) : wpAny (model g.prog g.w) A (call (.builtin (methId m)) (x :: xs)) Q X s := by
  cases m with
  | append => exact m_append T L hs e hQ
  | pop => exact m_pop T L hs e hQ
  | clear => exact ft hm
  | extend => exact ft hm
  | index => exact m_index T L hs e hQ
set_option tactic.hygienic false in
theorem meth_slot {x : Str} {m : MN} (h : methName.lookup x = some m) : Slot "list" x (methId m) ∧ typeOf (.builtin (methId m)) = pure (.type "method_descriptor") := by
  have := FrRel.keep.lookup_mem h
  rcases List.mem_cons.mp this with q | q
  · cases q; exact ⟨slot_list_append, rfl⟩
  rcases List.mem_cons.mp q with q | q
  · cases q; exact ⟨F.slot_list_pop, rfl⟩
  · cases List.mem_singleton.mp q; exact ⟨F.slot_list_index, rfl⟩
end
theorem lstV_inv {u v : V} {f : Nat → List V → RE} (e : lstV u σ f = .ok v σ') : ∃ l xs, u = .ref l ∧ getL σ l = some xs ∧ f l xs = .ok v σ' := by
  cases u <;> first | exact bad_ok e | skip
  rename_i l
  obtain ⟨xs, h1, h2⟩ := gL_inv (o := getL σ l) (f := f l) e
  exact ⟨l, xs, rfl, h1, h2⟩
theorem instV_inv {u v : V} {r : RE} (e : instV u σ r = .ok v σ') : ∃ l d ents, u = .ref l ∧ σ[l]? = some (.inst d) ∧ σ[d]? = some (.att ents) ∧ r = .ok v σ' := by
  cases u <;> first | exact bad_ok e | skip
  rename_i l
  have e : (match σ[l]? with | some o => (match o with | .inst d => (match σ[d]? with | some o => (match o with | .att _ => r | _ => .bad) | none => .bad) | _ => .bad) | none => .bad) = .ok v σ' := e
  cases h1 : σ[l]? with
  | none => rw [h1] at e; exact bad_ok e
  | some o =>
    rw [h1] at e
    cases o <;> first | exact bad_ok e | skip
    rename_i d
    have e : (match σ[d]? with | some o => (match o with | .att _ => r | _ => .bad) | none => .bad) = .ok v σ' := e
    cases h2 : σ[d]? with
    | none => rw [h2] at e; exact bad_ok e
    | some o =>
      rw [h2] at e
      cases o <;> first | exact bad_ok e | skip
      exact ⟨l, d, _, rfl, h1, h2, e⟩
end
end Mine

set_option autoImplicit false
set_option maxRecDepth 100000
set_option linter.unusedVariables false
namespace Mine
open PySem PyProof.Rows PySem.W

noncomputable def UPost (g : Cfg) (env : Env) (as : List Addr) (fr : Fra) (s : Shared) (σ' : Sto) (Q : Unit → Shared → Prop) : Prop :=
  ∀ (as' : List Addr) (h' : Heap) (tk : Nat), Step [env.locals] as s.heap as' h' → Rel g as' σ' h' → FrRel g env as' fr h' → Q () { s with heap := h', toks := tk }

section
variable {g : Cfg} {as : List Addr} {h h' : Heap}

set_option tactic.hygienic false in
theorem putI_rep {k : Int} {v : V} {y : Value} : ∀ {es : List (Int × V)} {kvs : List (Int × Value)}, F2 (fun (e : Int × V) (x : Int × Value) => e.1 = x.1 ∧ RepV as h e.2 x.2) es kvs → (kvs.map (·.1)).Nodup → RepV as h v y →
    F2 (fun (e : Int × V) (x : Int × Value) => e.1 = x.1 ∧ RepV as h e.2 x.2) (putI k v es) (stored kvs k y) := by
  intro es kvs f
  induction f with
  | nil => intro _ r; simp only [putI, stored, List.any_nil, Bool.false_eq_true, if_false, List.nil_append]; exact .cons ⟨rfl, r⟩ .nil
  | @cons a b as' bs x f' ih =>
    intro nd r
    obtain ⟨k1, v1⟩ := a
    obtain ⟨k2, y1⟩ := b
    have h1 : k1 = k2 := x.1
    subst h1
    simp only [List.map_cons, List.nodup_cons] at nd
    by_cases hk : k1 = k
    · subst hk
      have e1 : putI k1 v ((k1, v1) :: as') = (k1, v) :: as' := by simp [putI]
      have e2 : stored ((k1, y1) :: bs) k1 y = (k1, y) :: bs := by
        unfold stored
        rw [if_pos (by simp)]
        rw [List.map_cons, if_pos rfl]
        congr 1
        refine (List.map_congr_left fun p hp => ?_).trans (List.map_id _)
        rw [if_neg (fun (q : p.1 = k1) => nd.1 (q ▸ List.mem_map.mpr ⟨p, hp, rfl⟩))]; rfl
      rw [e1, e2]
      exact .cons ⟨rfl, r⟩ f'
    · have e1 : putI k v ((k1, v1) :: as') = (k1, v1) :: putI k v as' := by simp [putI, hk]
      have e2 : stored ((k1, y1) :: bs) k y = (k1, y1) :: stored bs k y := by
        unfold stored
        by_cases ha : bs.any (fun kv => decide (kv.1 = k)) = true
        · rw [if_pos (by rw [List.any_cons, ha]; simp), if_pos ha, List.map_cons, if_neg hk]
        · rw [if_neg (by rw [List.any_cons]; simp only [hk, decide_false, Bool.false_or]; exact ha), if_neg ha]; rfl
      rw [e1, e2]
      exact .cons x (ih nd.2 r)

end

set_option tactic.hygienic false in
theorem putI_len {k : Int} {v : V} : ∀ {es : List (Int × V)}, (putI k v es).length ≤ es.length + 1
  | [] => by simp [putI]
  | e :: r => by
    rw [putI]; split
    · simp
    · have := putI_len (k := k) (v := v) (es := r); simp; lia
section
variable {g : Cfg} {K : Frag} {env : Env} {A : Around} {X : Value → Shared → Prop} {s : Shared} {as : List Addr} {fr : Fra} {σ σ' : Sto}

set_option tactic.hygienic false in
theorem UPost.use {Q : Unit → Shared → Prop} (hQ : UPost g env as fr s σ' Q) (T : At g env as fr σ s) {as' : List Addr} {h' : Heap} {tk : Nat} (x : Step [] as s.heap as' h') (R' : Rel g as' σ' h') : Q () { s with heap := h', toks := tk } :=
  hQ as' h' tk (x.grow (by simp)) R' (T.frame x)

theorem o_setItem {a i v : V} {x y z : Value} {n : Nat} {Q : Unit → Shared → Prop} (T : At g env as fr σ s) (hA : Room g A n) (ha : RepV as s.heap a x) (hi : RepV as s.heap i y) (hv : RepV as s.heap v z)
    (e : setIdx a i v σ = some σ') (hQ : UPost g env as fr s σ' Q) : wpAny (model g.prog g.w) A (setItem x y z) Q X s := by
  unfold setIdx at e
  split at e
  · rename_i l k
    split at e
    · rename_i ys hl
      split at e
      case isFalse => cases e
      rename_i hz
      cases e
      obtain ⟨ad, items, m, rfl, hd, ho, hr, hz', hsz⟩ := rep_list T.R ha (getL_of hl)
      rw [RepV] at hi; obtain ⟨t, rfl⟩ := hi
      refine ki_setAt ho hz.1 (by lia) (by lia) ?_
      obtain ⟨K, R', xx⟩ := T.R.upd (o := .lst (ys.set k.toNat v)) (h' := s.heap.update ad (Obj.mapSeq (·.setIfInBounds k.toNat z))) hd (upd_keeps _ _ _) fun K => ⟨_, upd_plain ho _, by
        rw [Array.toList_setIfInBounds]
        exact RepVs.f2.mpr ((RepVs.f2.mp (RepVs.keep K _ _ hr)).set (RepV.keep K _ _ hv)), by simpa using hz'⟩
      exact hQ.use (tk := s.toks) T xx R'
    · rename_i es hl
      split at e
      case isFalse => cases e
      rename_i hz
      cases e
      rw [RepV] at ha; rw [RepV] at hi
      obtain ⟨t, rfl⟩ := hi
      obtain ⟨d, rfl, hd⟩ := ha
      obtain ⟨kvs, hk, hf, hle⟩ := T.R.obj _ _ _ hd hl
      have hnd : (kvs.map (·.1)).Nodup := by obtain ⟨_, _, _, _, _, _, _, _, q⟩ := hk; exact q
      refine wpAny_setItem_pairs (intKind_is _ _ k t) hk (fun h' hd' hsb => ?_) ?_
      · obtain ⟨K, R', xx⟩ := T.R.upd (o := .dI (putI k v es)) (h' := h') hd (fun b o hb e => hsb.extBut b o hb e) fun K => ⟨_, hd', putI_rep (hf.mono fun _ _ q => ⟨q.1, RepV.keep K _ _ q.2⟩) hnd (RepV.keep K _ _ hv), Nat.le_trans putI_len (by lia), hle.2⟩
        exact hQ.use T xx R'
      · have := hf.length; show _ ≤ 2 ^ 24; lia
    · cases e
  · cases e
end
end Mine

set_option autoImplicit false
set_option maxRecDepth 100000
set_option linter.unusedVariables false
namespace Mine
open PySem PyProof.Rows PySem.W

section
variable {g : Cfg} {K : Frag} {c0 : CE} {fa : Nat → Option Addr} {call : Nat → List V → Sto → RE} {env : Env} {A : Around} {X : Value → Shared → Prop} {s : Shared} {as : List Addr} {fr : Fra} {σ σ' : Sto} {Q : Value → Shared → Prop}

set_option tactic.hygienic false in
theorem handed {h : Heap} {v : V} {x : Value} (r : RepV as h v x) : handedIn x = true := by
  cases v with
  | none => rw [RepV] at r; subst r; rfl
  | bool b => rw [RepV] at r; subst r; rfl
  | int i => rw [RepV] at r; obtain ⟨t, rfl⟩ := r; rfl
  | str i => rw [RepV] at r; obtain ⟨t, rfl⟩ := r; rfl
  | tup i => rw [RepV] at r; obtain ⟨t, _, _, rfl, _⟩ := r; rfl
  | ref i => rw [RepV] at r; obtain ⟨t, rfl, _⟩ := r; rfl
  | rng i j => rw [RepV] at r; obtain ⟨t, _, _, _, rfl, _⟩ := r; rfl
  | exc c => rw [RepV] at r; obtain ⟨t, _, _, rfl, _⟩ := r; rfl

noncomputable def AttInj (g : Cfg) : Prop := ∀ k k' x, g.at'.lookup k = some x → g.at'.lookup k' = some x → k = k'

set_option tactic.hygienic false in
theorem ents_str {h : Heap} {es : List (Nat × V)} {ents : List DictEntry} (f : F2 (EntOk g as h) es ents) : ents.any (·.refKey) = false := by
  induction f with
  | nil => rfl
  | cons x _ ih =>
    obtain ⟨nm, t, _, e, _⟩ := x
    rw [List.any_cons, ih, Bool.or_false]
    unfold DictEntry.refKey
    rw [e]

set_option tactic.hygienic false in
theorem ents_get {h : Heap} {k : Nat} {x : Str} (I : AttInj g) (hx : g.at'.lookup k = some x) : ∀ {es : List (Nat × V)} {ents : List DictEntry}, F2 (EntOk g as h) es ents →
    (∀ v, es.lookup k = some v → ∃ y, W.getL x ents = some (some y) ∧ RepV as h v y) ∧ (W.getL x ents).isSome = true := by
  intro es ents f
  have hs := ents_str f
  refine ⟨?_, ?_⟩
  · intro v hv
    have key : ∃ d, ents.find? (·.key.isStr x) = some d ∧ RepV as h v d.val := by
      clear hs
      induction f with
      | nil => cases hv
      | @cons a b as' bs r f' ih =>
        obtain ⟨k1, v1⟩ := a
        obtain ⟨nm, t, e1, e2, e3⟩ := r
        rw [List.lookup_cons] at hv
        rw [List.find?_cons]
        by_cases hk : k = k1
        · subst hk
          simp at hv; subst hv
          have : nm = x := by rw [hx] at e1; exact (Option.some.inj e1).symm
          subst this
          have : b.key.isStr nm = true := by rw [e2]; simp [Value.isStr]
          rw [this]; exact ⟨b, rfl, e3⟩
        · have hb : (k == k1) = false := beq_eq_false_iff_ne.mpr hk
          rw [hb] at hv
          have : b.key.isStr x = false := by
            rw [e2]
            simp only [Value.isStr, beq_eq_false_iff_ne]
            intro q; subst q; exact hk (I k k1 nm hx e1)
          rw [this]; exact ih hv
    obtain ⟨d, h1, h2⟩ := key
    exact ⟨d.val, by unfold W.getL; rw [h1], h2⟩
  · unfold W.getL
    split
    · rfl
    · rw [hs]; rfl

set_option tactic.hygienic false in
theorem ents_none {h : Heap} {x : Str} (hx : ∀ k, g.at'.lookup k ≠ some x) : ∀ {es : List (Nat × V)} {ents : List DictEntry}, F2 (EntOk g as h) es ents → W.getL x ents = some none := by
  intro es ents f
  have hs := ents_str f
  have key : ents.find? (·.key.isStr x) = none := by
    clear hs
    induction f with
    | nil => rfl
    | @cons a b as' bs r f' ih =>
      obtain ⟨nm, t, e1, e2, e3⟩ := r
      rw [List.find?_cons]
      have : b.key.isStr x = false := by
        rw [e2]
        simp only [Value.isStr, beq_eq_false_iff_ne]
        intro q; subst q; exact hx _ e1
      rw [this]; exact ih
  unfold W.getL
  rw [key]
  simp only [hs]; rfl

set_option tactic.hygienic false in
theorem rep_inst {l d : Nat} {x : Value} (R : Rel g as σ s.heap) (r : RepV as s.heap (.ref l) x) (e : σ[l]? = some (.inst d)) :
    ∃ a dx, x = .ref a ∧ as[l]? = some a ∧ as[d]? = some dx ∧ s.heap.get? a = some (instObj g.C dx) := by
  rw [RepV] at r
  obtain ⟨a, rfl, ha⟩ := r
  obtain ⟨dx, h1, h2⟩ := R.obj l a _ ha e
  exact ⟨a, dx, rfl, ha, h1, h2⟩
set_option tactic.hygienic false in
theorem rep_att {d : Nat} {dx : Addr} {es : List (Nat × V)} (R : Rel g as σ s.heap) (hd : as[d]? = some dx) (e : σ[d]? = some (.att es)) :
    ∃ ents n, s.heap.get? dx = some (W.dictOf ents n) ∧ F2 (EntOk g as s.heap) es ents ∧ es.length ≤ 100 := R.obj d dx _ hd e

theorem o_attr {a v : V} {k : Nat} {x : Value} {nm : Str} {ex : Bool} (G : Glob g K c0 fa) (I : AttInj g) (T : At g env as fr σ s) (ha : RepV as s.heap a x) (hk : c0.attrs.lookup nm = some k) (e : attrV a k σ = some v) (hQ : EPost g env as fr s v σ Q) :
    wpAny (model g.prog g.w) A (getAttr x nm ex) Q X s := by
  unfold attrV at e
  split at e
  case h_2 => cases e
  rename_i l
  split at e
  case h_2 => cases e
  rename_i d hl
  split at e
  case h_2 => cases e
  rename_i es hd
  obtain ⟨ad, dx, rfl, h1, h2, h3⟩ := rep_inst T.R ha hl
  obtain ⟨ents, n, h4, h5, _⟩ := rep_att T.R h2 hd
  obtain ⟨q1, q2, at', q3, q4, _⟩ := G.att nm k hk
  obtain ⟨y, h6, h7⟩ := (ents_get I q1 h5).1 v e
  obtain ⟨m, hF, _⟩ := T.F.fr T.R
  exact get_own (X₀ := G.kin) hF (K := K) (C := g.C) (ox := instObj g.C dx) ⟨h3, rfl, rfl, h4⟩ q2 (G.hasD nm k hk) q3 q4 h6 (handed h7) (hQ.same T h7)

set_option tactic.hygienic false in
theorem upd_map {d : Addr} {o o' : Obj} : ∀ {l : List (Addr × Obj)}, (d, o) ∈ l → (l.map (·.1)).Nodup → Upd d o o' l (l.map fun p => if p.1 = d then (d, o') else p) := by
  intro l
  induction l with
  | nil => intro h _; cases h
  | cons p r ih =>
    intro hm nd
    simp only [List.map_cons, List.nodup_cons] at nd
    by_cases hp : p.1 = d
    · have hpo : p = (d, o) := by
        rcases List.mem_cons.mp hm with q | q
        · exact q.symm
        · exact absurd (List.mem_map.mpr ⟨_, q, rfl⟩) (by have := nd.1; rw [hp] at this; exact this)
      subst hpo
      have hr : ∀ q ∈ r, q.1 ≠ d := fun q hq e => nd.1 (List.mem_map.mpr ⟨q, hq, e⟩)
      have : r.map (fun p => if p.1 = d then (d, o') else p) = r := by
        refine (List.map_congr_left fun q hq => ?_).trans (List.map_id _)
        rw [if_neg (hr q hq)]; rfl
      rw [List.map_cons, this, if_pos rfl]
      exact .head hr
    · rw [List.map_cons, if_neg hp]
      refine .tail hp (ih ?_ nd.2)
      rcases List.mem_cons.mp hm with q | q
      · exact absurd (by rw [← q]) hp
      · exact q
theorem nodup_newsOf (b : Heap) (L : Addr) (h : Heap) : ((newsOf b L h).map (·.1)).Nodup := by
  unfold newsOf
  generalize hl : List.range h.objs.size = l
  have nd : l.Nodup := by rw [← hl]; exact List.nodup_range
  clear hl
  induction l with
  | nil => simp
  | cons a r ih =>
    rw [List.nodup_cons] at nd
    rw [List.filterMap_cons]
    split
    · exact ih nd.2
    · rename_i p hp
      rw [List.map_cons, List.nodup_cons]
      refine ⟨fun q => ?_, ih nd.2⟩
      obtain ⟨p', hp', e⟩ := List.mem_map.mp q
      obtain ⟨a', ha', e'⟩ := List.mem_filterMap.mp hp'
      have k1 : p.1 = a := by
        split at hp
        · obtain ⟨o, _, e2⟩ := Option.map_eq_some_iff.mp hp; rw [← e2]
        · cases hp
      have k2 : p'.1 = a' := by
        split at e'
        · obtain ⟨o, _, e2⟩ := Option.map_eq_some_iff.mp e'; rw [← e2]
        · cases e'
      exact nd.1 (by rw [← k1, ← e, k2]; exact ha')

set_option tactic.hygienic false in
theorem f2_putL {h : Heap} {k : Nat} {x : Str} {v : V} {y : Value} {hs : Int} {t : Tok} (I : AttInj g) (hx : g.at'.lookup k = some x) (r : RepV as h v y) : ∀ {es : List (Nat × V)} {ents : List DictEntry}, F2 (EntOk g as h) es ents →
    F2 (EntOk g as h) (putA k v es) (W.putL x hs (.str x t) y ents) := by
  intro es ents f
  induction f with
  | nil => exact .cons ⟨x, t, hx, rfl, r⟩ .nil
  | @cons a b as' bs q f' ih =>
    obtain ⟨k1, v1⟩ := a
    obtain ⟨nm, u, e1, e2, e3⟩ := q
    rw [W.putL, putA]
    by_cases hk : k1 = k
    · subst hk
      have : nm = x := by rw [hx] at e1; exact (Option.some.inj e1).symm
      subst this
      have h1 : b.key.isStr nm = true := by rw [e2]; simp [Value.isStr]
      rw [if_pos h1, if_pos (by simp)]
      exact .cons ⟨nm, u, hx, e2, r⟩ f'
    · have h1 : ¬ b.key.isStr x = true := by
        rw [e2]
        simp only [Value.isStr, beq_iff_eq]
        intro q; subst q; exact hk (I k1 k nm e1 hx)
      rw [if_neg h1, if_neg (by simpa using hk)]
      exact .cons ⟨nm, u, e1, e2, e3⟩ ih
set_option tactic.hygienic false in
theorem putA_len {k : Nat} {v : V} : ∀ {es : List (Nat × V)}, (putA k v es).length ≤ es.length + 1
  | [] => by simp [putA]
  | e :: r => by
    rw [putA]; split
    · simp
    · have := putA_len (k := k) (v := v) (es := r); simp; lia

set_option tactic.hygienic false in
theorem At.updN {h' : Heap} {m : Str → Option Value} {l : Nat} {a : Addr} {o : AO} {ob ob' : Obj} (T : At g env as fr σ s) (hm : s.heap.Ns env.locals m) (hl : as[l]? = some a) (ho : s.heap.get? a = some ob)
    (F' : Fr g.b env.locals h' m) (N' : News g.b env.locals h' ((newsOf g.b env.locals s.heap).map fun p => if p.1 = a then (a, ob') else p))
    (hr : Keep as s.heap as h' → h'.get? a = some ob' → RepO g as h' o a) : Keep as s.heap as h' ∧ Step [env.locals] as s.heap as h' ∧ Rel g as (σ.set l o) h' ∧ FrRel g env as fr h' := by
  have haL : a ≠ env.locals := fun q => T.F.off (q ▸ List.mem_of_getElem? hl)
  have hab : g.b.get? a = none := T.R.new a (List.mem_of_getElem? hl)
  have hin : (a, ob) ∈ newsOf g.b env.locals s.heap := mem_newsOf.mpr ⟨ho, haL, hab⟩
  have ha' : h'.get? a = some ob' := (N' (a, ob') (List.mem_map.mpr ⟨(a, ob), hin, by simp⟩)).1
  have ext : ∀ (b : Addr) (o : Obj), b ≠ env.locals → b ≠ a → s.heap.get? b = some o → h'.get? b = some o := fun b o hb hba e => by
    cases q : g.b.get? b with
    | none => exact (N' (b, o) (List.mem_map.mpr ⟨(b, o), mem_newsOf.mpr ⟨e, hb, q⟩, by rw [if_neg hba]⟩)).1
    | some o' =>
      have := T.R.base b o' q
      rw [e] at this; cases this
      exact F'.keep _ _ q
  have x : Step [env.locals] as s.heap as h' := ⟨⟨[], by simp, by simp⟩, fun b o e h1 h2 => ext b o (by simpa using h1) (fun q => h2 (q ▸ List.mem_of_getElem? hl)) e⟩
  have K := T.R.keep x T.F.notImm
  refine ⟨K, x, ⟨F'.keep, by simp [T.R.len], T.R.nd, T.R.new, fun i b oo h1 h2 => ?_, T.R.hnd.keep K⟩, ?_⟩
  · by_cases hi : i = l
    · subst hi
      rw [hl] at h1; cases h1
      have hlt : i < σ.length := by have := (List.getElem?_eq_some_iff.mp hl).1; rw [T.R.len] at this; exact this
      rw [List.getElem?_set_self hlt] at h2; cases h2
      exact hr K ha'
    · rw [List.getElem?_set_ne (Ne.symm hi)] at h2
      refine (T.R.obj i b oo h1 h2).keep K fun oc e => ext b oc (fun q => T.F.off (q ▸ List.mem_of_getElem? h1)) (fun q => hi ?_) e
      subst q
      obtain ⟨j1, j2⟩ := List.getElem?_eq_some_iff.mp h1
      obtain ⟨j3, j4⟩ := List.getElem?_eq_some_iff.mp hl
      exact (List.getElem_inj T.R.nd).mp (j2.trans j4.symm)
  · obtain ⟨m0, hm0, hv⟩ := T.F.ns
    have hmm : ∀ x, m0 x = m x := fun x => hm0.agree hm x
    have hca : ∀ x c, env.cells.lookup x = some c → c ≠ a := fun x c hc q => (T.F.offc x c hc).1 (q ▸ List.mem_of_getElem? hl)
    refine ⟨T.F.kind, T.F.above, T.F.glob, T.F.blt, T.F.len, T.F.nd, ⟨m, F'.ns, fun i x v h1 h2 => ?_⟩, fun i x k h1 h2 => ?_, T.F.off, fun x c hc => ⟨(T.F.offc _ _ hc).1, (T.F.offc _ _ hc).2.1, ?_⟩, T.F.apart, T.F.newc⟩
    · obtain ⟨val, e1, e2⟩ := hv i x v h1 h2
      exact ⟨val, by rw [← hmm]; exact e1, RepV.keep K _ _ e2⟩
    · obtain ⟨c, cv, e1, ⟨o, e2, e2'⟩, e3⟩ := T.F.cells i x k h1 h2
      refine ⟨c, cv, e1, ⟨o, ext _ _ (T.F.offc _ _ e1).2.1 (hca _ _ e1) e2, e2'⟩, fun v e => ?_⟩
      obtain ⟨val, e4, e5⟩ := e3 v e
      exact ⟨val, e4, RepV.keep K _ _ e5⟩
    · obtain ⟨cv, o, e, e'⟩ := (T.F.offc _ _ hc).2.2
      exact ⟨cv, o, ext _ _ (T.F.offc _ _ hc).2.1 (hca _ _ hc) e, e'⟩

theorem o_setAttr {a v : V} {k : Nat} {x z : Value} {nm : Str} {Q : Unit → Shared → Prop} (G : Glob g K c0 fa) (I : AttInj g) (T : At g env as fr σ s) (ha : RepV as s.heap a x) (hv : RepV as s.heap v z) (hk : c0.attrs.lookup nm = some k) (e : setAttrV a k v σ = some σ') (hQ : UPost g env as fr s σ' Q) :
    wpAny (model g.prog g.w) A (setAttr x nm z) Q X s := by
  unfold setAttrV at e
  split at e
  case h_2 => cases e
  rename_i l
  split at e
  case h_2 => cases e
  rename_i d hl
  split at e
  case h_2 => cases e
  rename_i es hd
  split at e
  case isFalse => cases e
  rename_i hz
  cases e
  obtain ⟨ad, dx, rfl, h1, h2, h3⟩ := rep_inst T.R ha hl
  obtain ⟨ents, n, h4, h5, _⟩ := rep_att T.R h2 hd
  obtain ⟨q1, q2, at', q3, q4, q5⟩ := G.att nm k hk
  obtain ⟨m, hF, _⟩ := T.F.fr T.R
  have haL : dx ≠ env.locals := fun q => T.F.off (q ▸ List.mem_of_getElem? h2)
  have hin : (dx, W.dictOf ents n) ∈ newsOf g.b env.locals s.heap := mem_newsOf.mpr ⟨h4, haL, T.R.new dx (List.mem_of_getElem? h2)⟩
  have f' := fun (h : Heap) (K : Keep as s.heap as h) => f2_putL (hs := PyData.keyHash g.w.params nm) (t := s.toks + 1) I q1 (RepV.keep K _ _ hv) (h5.mono fun _ _ ⟨x, t, y1, y2, y3⟩ => ⟨x, t, y1, y2, RepV.keep K _ _ y3⟩)
  have hlen : (W.putL nm (PyData.keyHash g.w.params nm) (.str nm (s.toks + 1)) z ents).length ≤ 1000 := by
    have := (f' s.heap ⟨fun _ _ e => e, fun _ _ e _ => e⟩).length
    have := putA_len (k := k) (v := v) (es := es)
    lia
  refine set_dict (X₀ := G.kin) hF (news_all _ _ _) (K := K) (C := g.C) (ox := instObj g.C dx) ⟨h3, rfl, rfl, h4⟩ rfl (G.setA nm k hk).1 (G.setA nm k hk).2 q5 (G.hasD nm k hk) (ents_get I q1 h5).2 rfl (upd_map hin (nodup_newsOf _ _ _)) hlen fun h' F' N' => ?_
  obtain ⟨K', x', R', FF⟩ := T.updN (o := .att (putA k v es)) hF.ns h2 h4 F' N' fun K' hob => ⟨_, _, hob, f' h' K', Nat.le_trans putA_len (by lia)⟩
  exact hQ as h' _ x' R' FF
end
end Mine

set_option autoImplicit false
set_option maxRecDepth 100000
set_option linter.unusedVariables false
namespace Mine
open PySem PyProof.Rows PySem.W

set_option tactic.hygienic false in
theorem args_maxd (a : Value) : argsOk "max" ⟨[a], [(Str.ofString "default", .none)]⟩ := by unfold argsOk; kernel_rfl

section
variable {prog : Program} {w : World} {A : Around} {R : Result → Shared → Prop} {I : Addr} {fp wr : List Addr} {n : Nat} {P : Nat → Value → Prop} {St : Nat → Heap → Prop} {kw : List (Str × Value)}

set_option tactic.hygienic false in
theorem maxd_loop (W : Walks prog w A.in1 I fp wr n P St) (bt : Nat → Nat → Bool) (hcmp : CmpOf prog w A.in1 .Gt P bt) (S : Addr) (hSf : S ∉ fp) :
    ∀ (k j : Nat) (s : Shared) (vb : Value) (c : Nat), n - (j + 1) = k → j + 1 ≤ n → St (j + 1) s.heap → P (argBest bt j) vb →
    s.heap.get? S = some { cls := .type "list", dict := none, data := .seq #[vb, vb] c, slots := #[] } →
    (∀ v h' tk, P (argBest bt (n - 1)) v → (∀ b o, b ∉ wr → b ≠ S → s.heap.get? b = some o → h'.get? b = some o) → R (.ok (.ret v)) { s with heap := h', toks := tk }) →
    codeAny (model prog w) A (.builtin "max.loop" ⟨[.ref I, .none, .ref S], kw⟩) R s := by
  have hSw : S ∉ wr := fun h => hSf (W.sub _ h)
  have hname : (toString "max" ++ toString ".loop" : String) = "max.loop" := by decide
  intro k
  induction k with
  | zero =>
    intro j s vb c hk hj hst hPb hS hR
    have hin : j + 1 = n := by lia
    refine codeAny_builtin F.entry_max_loop ?_
    rw [Around.under_plainId F.plain_max_loop _]
    show wpAny _ A.in1 (seqItems? (.ref S) >>= _) _ _ s
    refine wpAny_bind (wpAny_seqItems hS rfl ?_)
    show wpAny _ A.in1 (tryCatch (pyNext (.ref I)) _ >>= _) _ _ s
    refine wpAny_bind (wpAny_tryCatch (W.done s _ _ (hin ▸ hst) fun h' tk hk' => ?_))
    have hS' := hk' S _ hSw hS
    show wpAny _ A.in1 (updateSeq S (fun _ => #[]) >>= _) _ _ _
    refine wpAny_bind ?_
    refine wpAny_updateSeq hS' rfl (wpAny_bind (wpAny_letGo (wpAny_pure ?_)))
    refine hR vb _ tk (by rw [← hin]; exact hPb) fun b o hbw hbS e => (Heap.get?_update_other _ _ (Ne.symm hbS)).trans (hk' b o hbw e)
  | succ k ih =>
    intro j s vb c hk hj hst hPb hS hR
    have hlt : j + 1 < n := by lia
    refine codeAny_builtin F.entry_max_loop ?_
    rw [Around.under_plainId F.plain_max_loop _]
    show wpAny _ A.in1 (seqItems? (.ref S) >>= _) _ _ s
    refine wpAny_bind (wpAny_seqItems hS rfl ?_)
    show wpAny _ A.in1 (tryCatch (pyNext (.ref I)) _ >>= _) _ _ s
    refine wpAny_bind (wpAny_tryCatch (W.item (j + 1) s _ _ hlt hst fun v h' tk hP hst' hk' => ?_))
    have hS' := hk' S _ hSw hS
    show wpAny _ A.in1 (tryCatch (holding [v, v] (richCompare .Gt v vb >>= _)) _ >>= _) _ _ _
    refine wpAny_bind (wpAny_tryCatch (wpAny_holding (wpAny_bind (hcmp (j + 1) (argBest bt j) v vb _ _ _ hP hPb ?_))))
    refine wpAny_bind (wpAny_holding (wpAny_truthy_bool ?_))
    refine wpAny_bind (wpAny_letGo (wpAny_pure ?_))
    cases hb : bt (j + 1) (argBest bt j) with
    | true =>
      simp only [if_true]
      refine wpAny_bind ?_
      refine wpAny_updateSeq hS' rfl (wpAny_bind (wpAny_letGo ?_))
      rw [hname]
      refine wpAny_pure ⟨plainId_quiet F.plain_max_loop _, ih (j + 1) _ v _ (by lia) hlt (W.frame _ _ _ hst' fun b hbf o e => ?_) (by simp only [argBest, hb, if_true]; exact hP) (Heap.get?_update_self _ hS' rfl)
        fun v' h'' tk'' hP' hk'' => ?_⟩
      · exact (Heap.get?_update_other _ _ (fun h : S = b => hSf (by rw [h]; exact hbf))).trans e
      · exact hR v' h'' tk'' hP' fun b o hbw hbS e => hk'' b o hbw hbS ((Heap.get?_update_other _ _ (Ne.symm hbS)).trans (hk' b o hbw e))
    | false =>
      simp only [Bool.false_eq_true, if_false]
      refine wpAny_bind (wpAny_letGo ?_)
      rw [hname]
      refine wpAny_pure ⟨plainId_quiet F.plain_max_loop _, ih (j + 1) _ vb c (by lia) hlt hst' (by simp only [argBest, hb, Bool.false_eq_true, if_false]; exact hPb) hS' fun v' h'' tk'' hP' hk'' => ?_⟩
      exact hR v' h'' tk'' hP' fun b o hbw hbS e => hk'' b o hbw hbS (hk' b o hbw e)

set_option tactic.hygienic false in
theorem maxd_loop_first (W : Walks prog w A.in1 I fp wr n P St) (bt : Nat → Nat → Bool) (hcmp : CmpOf prog w A.in1 .Gt P bt) (S : Addr) (hSf : S ∉ fp) (hn : 0 < n) {s : Shared} {c : Nat} (hst : St 0 s.heap)
    (hS : s.heap.get? S = some { cls := .type "list", dict := none, data := .seq #[] c, slots := #[] })
    (hR : ∀ v h' tk, P (argBest bt (n - 1)) v → (∀ b o, b ∉ wr → b ≠ S → s.heap.get? b = some o → h'.get? b = some o) → R (.ok (.ret v)) { s with heap := h', toks := tk }) :
    codeAny (model prog w) A (.builtin "max.loop" ⟨[.ref I, .none, .ref S], kw⟩) R s := by
  have hSw : S ∉ wr := fun h => hSf (W.sub _ h)
  have hname : (toString "max" ++ toString ".loop" : String) = "max.loop" := by decide
  refine codeAny_builtin F.entry_max_loop ?_
  rw [Around.under_plainId F.plain_max_loop _]
  show wpAny _ A.in1 (seqItems? (.ref S) >>= _) _ _ s
  refine wpAny_bind (wpAny_seqItems hS rfl ?_)
  show wpAny _ A.in1 (tryCatch (pyNext (.ref I)) _ >>= _) _ _ s
  refine wpAny_bind (wpAny_tryCatch (W.item 0 s _ _ hn hst fun v h' tk hP hst' hk' => ?_))
  have hS' := hk' S _ hSw hS
  show wpAny _ A.in1 (updateSeq S (fun _ => #[v, v]) >>= _) _ _ _
  refine wpAny_bind ?_
  refine wpAny_updateSeq hS' rfl ?_
  rw [hname]
  refine wpAny_pure ⟨plainId_quiet F.plain_max_loop _, maxd_loop W bt hcmp S hSf _ 0 _ v _ rfl hn (W.frame _ _ _ hst' fun b hbf o e => ?_) hP (Heap.get?_update_self _ hS' rfl) fun v' h'' tk'' hP' hk'' => ?_⟩
  · exact (Heap.get?_update_other _ _ (fun h : S = b => hSf (by rw [h]; exact hbf))).trans e
  · exact hR v' h'' tk'' hP' fun b o hbw hbS e => hk'' b o hbw hbS ((Heap.get?_update_other _ _ (Ne.symm hbS)).trans (hk' b o hbw e))

set_option tactic.hygienic false in
theorem maxd_loop_none (W : Walks prog w A.in1 I fp wr 0 P St) (S : Addr) (hSf : S ∉ fp) {s : Shared} {c : Nat} (hst : St 0 s.heap)
    (hS : s.heap.get? S = some { cls := .type "list", dict := none, data := .seq #[] c, slots := #[] })
    (hR : ∀ h' tk, (∀ b o, b ∉ wr → b ≠ S → s.heap.get? b = some o → h'.get? b = some o) → R (.ok (.ret .none)) { s with heap := h', toks := tk }) :
    codeAny (model prog w) A (.builtin "max.loop" ⟨[.ref I, .none, .ref S], [("default", .none)]⟩) R s := by
  refine codeAny_builtin F.entry_max_loop ?_
  rw [Around.under_plainId F.plain_max_loop _]
  show wpAny _ A.in1 (seqItems? (.ref S) >>= _) _ _ s
  refine wpAny_bind (wpAny_seqItems hS rfl ?_)
  show wpAny _ A.in1 (tryCatch (pyNext (.ref I)) _ >>= _) _ _ s
  refine wpAny_bind (wpAny_tryCatch (W.done s _ _ hst fun h' tk hk' => ?_))
  show wpAny _ A.in1 (rule _ >>= _) _ _ _
  exact wpAny_bind (wpAny_rule (wpAny_pure (hR h' tk fun b o hbw _ e => hk' b o hbw e)))
end

section
variable {prog : Program} {w : World} {A : Around} {E : Value → Shared → Prop} {s : Shared}

set_option tactic.hygienic false in
theorem call_maxd_walk {x : Value} {Q : Value → Shared → Prop}
    (h : wpAny (model prog w) A.in1 (pyIter x) (fun it s₂ => ∃ I fp wr n P St bt, it = .ref I ∧ Walks prog w A.in1 I fp wr n P St ∧ St 0 s₂.heap ∧ (∀ b ∈ fp, b < s₂.heap.objs.size) ∧ CmpOf prog w A.in1 .Gt P bt ∧
      (∀ v h' tk, 0 < n → P (argBest bt (n - 1)) v → (∀ b o, b ∉ wr → s₂.heap.get? b = some o → h'.get? b = some o) → Q v { s₂ with heap := h', toks := tk }) ∧
      (∀ h' tk, n = 0 → (∀ b o, b ∉ wr → s₂.heap.get? b = some o → h'.get? b = some o) → Q .none { s₂ with heap := h', toks := tk })) E s) :
    wpAny (model prog w) A (call (.builtin "max") [x] [(Str.ofString "default", .none)]) Q E s := by
  have hname : (toString "max" ++ toString ".loop" : String) = "max.loop" := by decide
  refine kmk_tree F.kind_max F.plain_max F.entry_max (args_maxd _) ?_
  show wpAny _ A.in1 (Builtin.Builtins.bindParams "max" ["key", "default"] 0 ⟨[], [(Str.ofString "default", .none)]⟩ >>= _) _ _ s
  refine wpAny_bind (wpAny_of_eq (show Builtin.Builtins.bindParams "max" ["key", "default"] 0 ⟨[], [(Str.ofString "default", .none)]⟩ = pure [none, some .none] from rfl) ?_)
  refine wpAny_bind (wpAny_pure ?_)
  refine wpAny_bind (wpAny_mono h (fun it s₂ h₂ => ?_) fun _ _ e => e)
  obtain ⟨I, fp, wr, n, P, St, bt, rfl, W, hst, hfp, hcmp, hQ, hQ0⟩ := h₂
  refine wpAny_bind (wpAny_newObj_type ?_)
  have hSf : s₂.heap.objs.size ∉ fp := fun hm => Nat.lt_irrefl _ (hfp _ hm)
  rw [hname]
  refine wpAny_pure ⟨plainId_quiet F.plain_max_loop _, ?_⟩
  rcases Nat.eq_zero_or_pos n with hn | hn
  · subst hn
    refine maxd_loop_none W s₂.heap.objs.size hSf (W.frame _ _ _ hst fun b _ o e => Heap.get?_push_of_some _ e) (Heap.get?_push_size _ rfl) fun h' tk hk => ?_
    exact hQ0 h' tk rfl fun b o hbw e => hk b o hbw (Nat.ne_of_lt (Heap.lt_size e)) (Heap.get?_push_of_some _ e)
  · refine maxd_loop_first W bt hcmp s₂.heap.objs.size hSf hn (W.frame _ _ _ hst fun b _ o e => Heap.get?_push_of_some _ e) (Heap.get?_push_size _ rfl) fun v h' tk hP hk => ?_
    exact hQ v h' tk hn hP fun b o hbw e => hk b o hbw (Nat.ne_of_lt (Heap.lt_size e)) (Heap.get?_push_of_some _ e)
end

section
variable {g : Cfg} {env : Env} {A : Around} {X : Value → Shared → Prop} {s : Shared} {as : List Addr} {fr : Fra} {σ σ' : Sto} {Q : Value → Shared → Prop}

set_option tactic.hygienic false in
theorem o_maxd {l : Nat} {x : Value} {is : List Int} {v : V} (T : At g env as fr σ s) (hA : A.handled = none) (ha : RepV as s.heap (.ref l) x) (e1 : (getL σ l).bind intsOf = some is)
    (e2 : v = match maxL is with | some i => V.int i | none => V.none)
    (hQ : EPost g env as fr s v σ Q) : wpAny (model g.prog g.w) A (call (.builtin "max") [x] [(Str.ofString "default", .none)]) Q X s := by
  obtain ⟨vs, e3, e4⟩ := Option.bind_eq_some_iff.mp e1
  obtain ⟨ad, items, m, rfl, hd, ho, hr, hz, hsz⟩ := rep_list T.R ha e3
  have hi := intsAre_of e4 hr
  have hlen := hi.length
  have hne : ad ≠ s.heap.objs.size := Nat.ne_of_lt (Heap.lt_size ho)
  refine call_maxd_walk (wpAny_pyIter_list ho.isList ?_)
  refine ⟨s.heap.objs.size, _, _, items.size, _, _, fun i j => decide (at0 is j < at0 is i), rfl, Walks.list (A := A.in1) hA s.heap.objs.size ad hne items, ⟨⟨_, Heap.get?_push_size _ rfl, rfl, rfl⟩, ho.isList.push _⟩, ?_, ?_, ?_, ?_⟩
  · intro b hb
    rcases List.mem_cons.mp hb with rfl | hb
    · rw [Heap.size_push]; exact Nat.lt_succ_self _
    · rw [List.mem_singleton.mp hb, Heap.size_push]; exact Nat.lt_succ_of_lt (Heap.lt_size ho)
  · intro i j vi vj s' Q' E' hvi hvj hq
    obtain ⟨t, rfl⟩ := ints_get hi i (by simpa using hvi)
    obtain ⟨u, rfl⟩ := ints_get hi j (by simpa using hvj)
    exact PyProof.Rows.gt_int hq
  · intro v' h' tk hn hv hk
    obtain ⟨t, rfl⟩ := ints_get hi _ (by simpa using hv)
    cases is with
    | nil => rw [Array.length_toList] at hlen; rw [hlen] at hn; exact absurd hn (Nat.lt_irrefl _)
    | cons y ys =>
      simp at hlen
      have e5 := argBest_max ys y (items.size - 1) (by lia)
      rw [List.take_of_length_le (by lia)] at e5
      rw [e5]
      have kk := step_wr (h := s.heap) (keeps_push _ _) hk (by intro b hb; rw [List.mem_singleton.mp hb]; exact new_none _)
      exact hQ.use T (Step.of_ext kk) (T.R.ext kk) (by rw [e2]; show RepV _ _ (.int _) _; rw [RepV]; exact ⟨_, rfl⟩)
  · intro h' tk hn hk
    cases is with
    | nil =>
      have kk := step_wr (h := s.heap) (keeps_push _ _) hk (by intro b hb; rw [List.mem_singleton.mp hb]; exact new_none _)
      exact hQ.use T (Step.of_ext kk) (T.R.ext kk) (by rw [e2]; show RepV _ _ .none _; rw [RepV])
    | cons y ys => rw [Array.length_toList, hn] at hlen; cases hlen
end
end Mine

set_option autoImplicit false
set_option maxRecDepth 100000
set_option linter.unusedVariables false
namespace Mine
open PySem PyProof.Rows PySem.W

set_option tactic.hygienic false in
theorem ofOpt_ok {σ σ' : Sto} {o : Option V} {v : V} (e : ofOpt σ o = .ok v σ') : o = some v ∧ σ' = σ := by
  unfold ofOpt at e; split at e
  · cases e; exact ⟨rfl, rfl⟩
  · cases e
set_option tactic.hygienic false in
theorem ofOptB_ok {σ σ' : Sto} {o : Option Bool} {v : V} (e : ofOptB σ o = .ok v σ') : ∃ b, o = some b ∧ v = .bool b ∧ σ' = σ := by
  unfold ofOptB at e; split at e
  · cases e; exact ⟨_, rfl, rfl, rfl⟩
  · cases e

section
variable {g : Cfg} {K : Frag} {c0 : CE} {fa : Nat → Option Addr} {call : Nat → List V → Sto → RE} {env : Env} {A : Around} {X : Value → Shared → Prop} {s : Shared} {as : List Addr} {fr : Fra} {σ σ' : Sto} {r n : Nat}
  {names : List (Str × NameKind)} {Q : Value → Shared → Prop} {v : V}

set_option tactic.hygienic false in
theorem o_slice {l : Nat} {x : Value} {vs ys : List V} {sl : Addr} {vl vu vst : Value} {lo hi st : Option Int} {ve ie : Expr} (T : At g env as fr σ s) (ha : RepV as s.heap (.ref l) x) (e : getL σ l = some vs)
    (hs : s.heap.IsSliceOf sl vl vu vst) (pl : IsPart vl lo) (pu : IsPart vu hi) (ps : IsPart vst st) (h0 : st ≠ some 0)
    (hy : ∀ items : Array Value, RepVs as s.heap vs items.toList → RepVs as s.heap ys (slicePick items lo hi st).toList)
    (en : newL ys σ = .ok v σ')
    (hsub : ∀ o i, ∃ ops, subscripted ie false o i = operate ops (getItem o i)) (hQ : EPost g env as fr s v σ' Q) : wpAny (model g.prog g.w) A (subscriptTail ve ie x (.ref sl)) Q X s := by
  obtain ⟨a, items, m, rfl, ha', ho, hr, hz, hsz⟩ := rep_list T.R ha e
  refine tail_any (T := "list") ⟨_, ho, rfl⟩ slot_list_getitem.lookup ?_ (hsub _ _).choose_spec
  have hr' := hy items hr
  have hl : (slicePick items lo hi st).size = ys.length := by have := (RepVs.f2.mp hr').length; simpa using this.symm
  refine wpAny_getItem_list_slice ho.isList hs pl pu ps h0 ?_ ?_
  · exact hQ.newH (tk := s.toks) T hr' en
  · rw [hsz]; exact hz

noncomputable def NodeE (g : Cfg) (c0 : CE) (call : Nat → List V → Sto → RE) (r : Nat) (names : List (Str × NameKind)) (e : Expr) (e' : E) : Prop :=
  ∀ (env : Env) (A : Around) (X : Value → Shared → Prop) (s : Shared) (as : List Addr) (fr : Fra) (σ σ' : Sto) (v : V) (Q : Value → Shared → Prop),
    NamesOk (c0.sub names) env → Room g A (r + 1) → At g env as fr σ s → evE call e' fr σ = .ok v σ' → EPost g env as fr s v σ' Q → wpAny (model g.prog g.w) A (eval e env) Q X s
noncomputable def NodeT (g : Cfg) (c0 : CE) (call : Nat → List V → Sto → RE) (r : Nat) (names : List (Str × NameKind)) (e : Expr) (e' : E) : Prop :=
  ∀ (env : Env) (A : Around) (X : Value → Shared → Prop) (s : Shared) (as : List Addr) (fr : Fra) (σ σ' : Sto) (b : Bool) (Q : Bool → Shared → Prop),
    NamesOk (c0.sub names) env → Room g A (r + 1) → At g env as fr σ s → evE call e' fr σ = .ok (.bool b) σ' → BPost g env as fr s b σ' Q → wpAny (model g.prog g.w) A (isTrue e env (eval e env)) Q X s

set_option tactic.hygienic false in
theorem n_none {k p} : NodeE g c0 call r names (.Constant .none k p) .none := fun env A X s as fr σ σ' v Q N hA T ev hQ => by
  obtain ⟨rfl, rfl⟩ := ok_inj ev
  exact Constant_none (hQ.same' T (by rw [RepV]))
set_option tactic.hygienic false in
theorem n_bool {b k p} : NodeE g c0 call r names (.Constant (.bool b) k p) (.bool b) := fun env A X s as fr σ σ' v Q N hA T ev hQ => by
  obtain ⟨rfl, rfl⟩ := ok_inj ev
  exact Constant_bool (hQ.bool' T)
set_option tactic.hygienic false in
theorem n_int {b k p} : NodeE g c0 call r names (.Constant (.int b) k p) (.int b) := fun env A X s as fr σ σ' v Q N hA T ev hQ => by
  obtain ⟨rfl, rfl⟩ := ok_inj ev
  exact wpAny_Constant_int (hQ.int T)
set_option tactic.hygienic false in
theorem n_str {b k p} : NodeE g c0 call r names (.Constant (.str b) k p) (.str b) := fun env A X s as fr σ σ' v Q N hA T ev hQ => by
  obtain ⟨rfl, rfl⟩ := ok_inj ev
  exact wpAny_Constant_str (hQ.same T (by rw [RepV]; exact ⟨_, rfl⟩))
set_option tactic.hygienic false in
theorem n_loc {x : Str} {i p} (hl : (c0.sub names).loc? x = some i) (hd : (x == ("__debug__" : Str)) = false) (hc : (x == ("__classdict__" : Str)) = false) : NodeE g c0 call r names (.Name x p) (.loc i) := fun env A X s as fr σ σ' v Q N hA T ev hQ => by
  have ev : (match fr[i]? with | some (some v) => RE.ok v σ | _ => .bad) = .ok v σ' := ev
  rcases he : fr[i]? with _ | _ | v' <;> rw [he] at ev
  · exact bad_ok ev
  · exact bad_ok ev
  · obtain ⟨rfl, rfl⟩ := ok_inj ev
    exact o_loc T N hl hd hc he hQ
set_option tactic.hygienic false in
theorem n_const {x : Str} {i p} (G : Glob g K c0 fa) (hg : (c0.sub names).glob x = true) (hd : (x == ("__debug__" : Str)) = false) (hk : c0.consts.lookup x = some i) : NodeE g c0 call r names (.Name x p) (.int i) := fun env A X s as fr σ σ' v Q N hA T ev hQ => by
  obtain ⟨rfl, rfl⟩ := ok_inj ev
  obtain ⟨t, ht⟩ := G.const x i hk
  exact o_glob T N hg hd ht (hQ.same' T (by rw [RepV]; exact ⟨_, rfl⟩))
set_option tactic.hygienic false in
theorem n_bin {l rt op a b p} (IH : SndE g c0 call r n) (h1 : compE n (c0.sub names) l = some a) (h2 : compE n (c0.sub names) rt = some b) : NodeE g c0 call r names (.BinOp l op rt p) (.bin op a b) := fun env A X s as fr σ σ' v Q N hA T ev hQ => by
  refine bind_el ev fun u τ e1 e2 => ?_
  refine bind_el e2 fun w τ' e3 e4 => ?_
  exact wpAny_BinOp (two IH h1 h2 N hA T e1 e3 fun x y as' h' tk st R' F' r1 r2 => o_bin (T.step R' F') r1 r2 e4 (epost_of hQ st R' F'))
set_option tactic.hygienic false in
theorem n_pow {a b k1 p1 k2 p2 p} (ha : 0 ≤ a ∧ a ≤ 10 ∧ 0 ≤ b ∧ b ≤ 100) : NodeE g c0 call r names (.BinOp (.Constant (.int a) k1 p1) .Pow (.Constant (.int b) k2 p2) p) (.pow a.toNat b.toNat) := fun env A X s as fr σ σ' v Q N hA T ev hQ => by
  obtain ⟨rfl, rfl⟩ := ok_inj ev
  have h64 : a.natAbs < 2 ^ 64 := by
    have : (2:Nat)^64 = 18446744073709551616 := by decide +kernel
    lia
  refine wpAny_BinOp (wpAny_Constant_int (wpAny_Constant_int (pow_int_small ha.2.2.1 (by lia) h64 ?_)))
  have : ((a.toNat : Nat) : Int) = a := Int.toNat_of_nonneg ha.1
  rw [this] at hQ
  exact hQ.int T
set_option tactic.hygienic false in
theorem n_neg {x a p} (IH : SndE g c0 call r n) (h1 : compE n (c0.sub names) x = some a) : NodeE g c0 call r names (.UnaryOp .USub x p) (.neg a) := fun env A X s as fr σ σ' v Q N hA T ev hQ => by
  refine bind_el ev fun u τ e1 e2 => ?_
  refine UnaryOp_ (IH names x a h1 env A X s as fr σ τ u _ N hA T e1 fun val as' h' tk st R' F' r1 => ?_)
  split at e2
  · cases e2
    rw [RepV] at r1; obtain ⟨t, rfl⟩ := r1
    exact PyProof.Rows.neg_int ((epost_of (tk := tk) hQ st R' F').int (T.step R' F'))
  · cases e2
set_option tactic.hygienic false in
theorem n_not {x a p} (IH : SndE g c0 call r n) (h1 : compE n (c0.sub names) x = some a) : NodeE g c0 call r names (.UnaryOp .Not x p) (.not a) := fun env A X s as fr σ σ' v Q N hA T ev hQ => by
  refine bind_el ev fun u τ e1 e2 => ?_
  refine UnaryOp_ (IH names x a h1 env A X s as fr σ τ u _ N hA T e1 fun val as' h' tk st R' F' r1 => ?_)
  split at e2
  · cases e2
    rw [RepV] at r1; subst r1
    exact not_of (wpAny_truthy_bool ((epost_of (tk := tk) hQ st R' F').bool' (T.step R' F')))
  · cases e2
theorem t_not {x a p} (IH : SndT g c0 call r n) (h1 : compE n (c0.sub names) x = some a) : NodeT g c0 call r names (.UnaryOp .Not x p) (.not a) := fun env A X s as fr σ σ' v Q N hA T ev hQ => by
  refine bind_el ev fun u τ e1 e2 => ?_
  split at e2
  · rename_i b
    cases e2
    exact isTrue_not (IH names x a h1 env A X s as fr σ _ b _ N hA T e1 fun as' h' tk st R' F' => hQ as' h' tk st R' F')
  · cases e2
set_option tactic.hygienic false in
theorem n_boolop {op vs es b' p} (IH : SndE g c0 call r n) (h1 : mapO (compE n (c0.sub names)) vs = some es) (h2 : foldB op es = some b') : NodeE g c0 call r names (.BoolOp op vs p) b' := fun env A X s as fr σ σ' v Q N hA T ev hQ =>
  boolOp_snd IH vs es b' s as σ σ' v Q h1 h2 N hA T ev hQ
set_option tactic.hygienic false in
theorem t_boolop {op vs es b' p} (IH : SndT g c0 call r n) (h1 : mapO (compE n (c0.sub names)) vs = some es) (h2 : foldB op es = some b') : NodeT g c0 call r names (.BoolOp op vs p) b' := fun env A X s as fr σ σ' v Q N hA T ev hQ =>
  wpAny_isTrue_BoolOp (allTrue_snd IH vs es b' s as σ σ' v Q h1 h2 N hA T ev hQ)
set_option tactic.hygienic false in
theorem noMark_of {op : CmpOp} {rt : Expr} (h : noMark op rt = true) : behindInMarks op rt = false := by
  unfold noMark at h; simpa using h
set_option tactic.hygienic false in
theorem n_cmp {l rt op a b p} (G : Glob g K c0 fa) (IH : SndE g c0 call r n) (hm : noMark op rt = true) (h1 : compE n (c0.sub names) l = some a) (h2 : compE n (c0.sub names) rt = some b) : NodeE g c0 call r names (.Compare l [op] [rt] p) (.cmp op a b) := fun env A X s as fr σ σ' v Q N hA T ev hQ => by
  refine bind_el ev fun u τ e1 e2 => ?_
  refine bind_el e2 fun w τ' e3 e4 => ?_
  obtain ⟨b', e5, rfl, rfl⟩ := ofOptB_ok e4
  exact wpAny_Compare1 (two IH h1 h2 N hA T e1 e3 fun x y as' h' tk st R' F' r1 r2 => o_cmp G.sys (T.step R' F') hA r1 r2 e5 (epost_of hQ st R' F')) (noMark_of hm)
set_option tactic.hygienic false in
theorem t_cmp {l rt op a b p} (G : Glob g K c0 fa) (IH : SndE g c0 call r n) (hm : noMark op rt = true) (h1 : compE n (c0.sub names) l = some a) (h2 : compE n (c0.sub names) rt = some b) : NodeT g c0 call r names (.Compare l [op] [rt] p) (.cmp op a b) := fun env A X s as fr σ σ' v Q N hA T ev hQ => by
  refine bind_el ev fun u τ e1 e2 => ?_
  refine bind_el e2 fun w τ' e3 e4 => ?_
  obtain ⟨b', e5, e6, rfl⟩ := ofOptB_ok e4
  cases e6
  refine wpAny_isTrue_Compare1 (two IH h1 h2 N hA T e1 e3 fun x y as' h' tk st R' F' r1 r2 => ?_) (noMark_of hm)
  refine o_cmp G.sys (T.step (tk := tk) R' F') hA r1 r2 e5 fun val as2 h2 tk2 st2 R2 F2' r3 => ?_
  rw [RepV] at r3; subst r3
  exact wpAny_truthy_bool (hQ as2 h2 tk2 (step_trans st st2 R2 F2') R2 F2')
set_option tactic.hygienic false in
theorem lastMarks_of {o1 o2 : CmpOp} {m rt : Expr} (h : noMark o2 rt = true) : lastMarks [o1, o2] [m, rt] = false := by
  have := noMark_of h; simpa [lastMarks] using this
theorem n_cmp2 {l m rt o1 o2 a b d p} (G : Glob g K c0 fa) (IH : SndE g c0 call r n) (hm : noMark o2 rt = true) (h1 : compE n (c0.sub names) l = some a) (h2 : compE n (c0.sub names) m = some b) (h3 : compE n (c0.sub names) rt = some d) :
    NodeE g c0 call r names (.Compare l [o1, o2] [m, rt] p) (.cmp2 o1 o2 a b d) := fun env A X s as fr σ σ' v Q N hA T ev hQ => by
  refine bind_el ev fun u τ e1 e2 => ?_
  refine bind_el e2 fun w τ' e3 e4 => ?_
  refine Compare_chain (wpAny_mono (two (Q := fun x y s2 => wpAny (model g.prog g.w) A (compareOp o1 x y) (fun c s₂ => wpAny (model g.prog g.w) A (truthy c)
      (fun t s₃ => if t then wpAny (model g.prog g.w) A (compareChain p y [o2] [eval rt env]) Q X s₃ else Q c s₃) X s₂) X s2) IH h1 h2 N hA T e1 e3 fun x y as' h' tk st R' F' r1 r2 => ?_) (fun x s1 h => chain_link h) fun _ _ h => h) (lastMarks_of hm)
  split at e4
  · rename_i e5
    refine o_cmp G.sys (T.step (tk := tk) R' F') hA r1 r2 e5 fun val as2 h2' tk2 st2 R2 F2' r3 => ?_
    rw [RepV] at r3; subst r3
    refine wpAny_truthy_bool ?_
    refine bind_el e4 fun z τ2 e6 e7 => ?_
    obtain ⟨b', e8, rfl, rfl⟩ := ofOptB_ok e7
    refine chain_last (IH names rt d h3 env A X _ as2 fr τ' _ z _ N hA ⟨F2', R2⟩ e6 fun val as3 h3 tk3 st3 R3 F3 r4 => ?_)
    have kp := At.keep (s := { s with heap := h', toks := tk }) ⟨F', R'⟩ st2
    have kp2 := At.keep (s := { s with heap := h2', toks := tk2 }) ⟨F2', R2⟩ st3
    have st13 := step_trans st (step_trans st2 st3 R3 F3) R3 F3
    exact o_cmp G.sys (T.step (tk := tk3) R3 F3) hA (RepV.keep kp2 _ _ (RepV.keep kp _ _ r2)) r4 e8 (epost_of (s := s) (tk := tk3) hQ st13 R3 F3)
  · rename_i e5
    cases e4
    refine o_cmp G.sys (T.step (tk := tk) R' F') hA r1 r2 e5 fun val as2 h2' tk2 st2 R2 F2' r3 => ?_
    have r3' := r3
    rw [RepV] at r3; subst r3
    refine wpAny_truthy_bool ?_
    exact hQ _ as2 h2' tk2 (step_trans st st2 R2 F2') R2 F2' r3'
  · cases e4
theorem t_cmp2 {l m rt o1 o2 a b d p} (G : Glob g K c0 fa) (IH : SndE g c0 call r n) (hm : noMark o2 rt = true) (h1 : compE n (c0.sub names) l = some a) (h2 : compE n (c0.sub names) m = some b) (h3 : compE n (c0.sub names) rt = some d) :
    NodeT g c0 call r names (.Compare l [o1, o2] [m, rt] p) (.cmp2 o1 o2 a b d) := fun env A X s as fr σ σ' v Q N hA T ev hQ => by
  refine bind_el ev fun u τ e1 e2 => ?_
  refine bind_el e2 fun w τ' e3 e4 => ?_
  refine isTrue_chain (wpAny_mono (two (Q := fun x y s2 => wpAny (model g.prog g.w) A (compareOp o1 x y) (fun c s₂ => wpAny (model g.prog g.w) A (truthy c)
      (fun t s₃ => if t then wpAny (model g.prog g.w) A (testChain p y [o2] [eval rt env]) Q X s₃ else Q false s₃) X s₂) X s2) IH h1 h2 N hA T e1 e3 fun x y as' h' tk st R' F' r1 r2 => ?_) (fun x s1 h => test_link h) fun _ _ h => h) (lastMarks_of hm)
  split at e4
  · rename_i e5
    refine o_cmp G.sys (T.step (tk := tk) R' F') hA r1 r2 e5 fun val as2 h2' tk2 st2 R2 F2' r3 => ?_
    rw [RepV] at r3; subst r3
    refine wpAny_truthy_bool ?_
    refine bind_el e4 fun z τ2 e6 e7 => ?_
    obtain ⟨b', e8, e9, rfl⟩ := ofOptB_ok e7
    cases e9
    refine test_last (IH names rt d h3 env A X _ as2 fr τ' _ z _ N hA ⟨F2', R2⟩ e6 fun val as3 h3 tk3 st3 R3 F3 r4 => ?_)
    have kp := At.keep (s := { s with heap := h', toks := tk }) ⟨F', R'⟩ st2
    have kp2 := At.keep (s := { s with heap := h2', toks := tk2 }) ⟨F2', R2⟩ st3
    have st13 := step_trans st (step_trans st2 st3 R3 F3) R3 F3
    refine o_cmp G.sys (T.step (tk := tk3) R3 F3) hA (RepV.keep kp2 _ _ (RepV.keep kp _ _ r2)) r4 e8 fun val as4 h4 tk4 st4 R4 F4 r5 => ?_
    rw [RepV] at r5; subst r5
    exact wpAny_truthy_bool (hQ as4 h4 tk4 (step_trans st13 st4 R4 F4) R4 F4)
  · rename_i e5
    cases e4
    refine o_cmp G.sys (T.step (tk := tk) R' F') hA r1 r2 e5 fun val as2 h2' tk2 st2 R2 F2' r3 => ?_
    rw [RepV] at r3; subst r3
    exact wpAny_truthy_bool (hQ as2 h2' tk2 (step_trans st st2 R2 F2') R2 F2')
  · cases e4
set_option tactic.hygienic false in
theorem sub_plain {i : Expr} {b : E} {c : CE} (h : compE n c i = some b) : ∀ o x, subscripted i false o x = operate [o, x] (getItem o x) := by
  have hk := comp_kind h
  cases i <;> first | (intros; rfl) | exact ft hk
set_option tactic.hygienic false in
theorem n_sub {va i a b p} (IH : SndE g c0 call r n) (h1 : compE n (c0.sub names) va = some a) (h2 : compE n (c0.sub names) i = some b) : NodeE g c0 call r names (.Subscript va i p) (.sub a b) := fun env A X s as fr σ σ' v Q N hA T ev hQ => by
  refine bind_el ev fun u τ e1 e2 => ?_
  refine bind_el e2 fun w τ' e3 e4 => ?_
  obtain ⟨e5, rfl⟩ := ofOpt_ok e4
  exact Subscript_ (two IH h1 h2 N hA T e1 e3 fun x y as' h' tk st R' F' r1 r2 => o_sub (T.step R' F') hA r1 r2 (sub_plain h2) e5 (epost_of hQ st R' F'))
end
end Mine

set_option autoImplicit false
set_option maxRecDepth 100000
set_option linter.unusedVariables false
namespace Mine
open PySem PyProof.Rows PySem.W

set_option tactic.hygienic false in
theorem Rel.pushAt {g : Cfg} {as : List Addr} {σ : Sto} {h h' : Heap} {o : AO} {a : Addr} (R : Rel g as σ h) (k : ∀ (b : Addr) (o : Obj), b ≠ a → h.get? b = some o → h'.get? b = some o) (ha : a ∉ as) (hb : g.b.get? a = none)
    (hi : ∀ ob, h.get? a = some ob → ¬ Imm ob) (ho : Keep as h (as ++ [a]) h' → RepO g (as ++ [a]) h' o a) : Keep as h (as ++ [a]) h' ∧ Rel g (as ++ [a]) (σ ++ [o]) h' := by
  have K : Keep as h (as ++ [a]) h' := ⟨fun j c e => by rw [List.getElem?_append_left (List.getElem?_eq_some_iff.mp e).1]; exact e, fun b ob e im => k b ob (fun q => by subst q; exact hi ob e im) e⟩
  refine ⟨K, ⟨fun b ob e => k b ob (fun q => by subst q; rw [hb] at e; cases e) (R.base b ob e), by simp [R.len], ?_, fun b hb' => ?_, fun i b ob h1 h2 => ?_, R.hnd.keep K⟩⟩
  · exact List.nodup_append.mpr ⟨R.nd, by simp, fun x hx y hy e => by simp at hy; subst hy; subst e; exact ha hx⟩
  · rcases List.mem_append.mp hb' with q | q
    · exact R.new b q
    · simp at q; subst q; exact hb
  · rcases Nat.lt_trichotomy i as.length with hi' | hi' | hi'
    · rw [List.getElem?_append_left hi'] at h1
      rw [List.getElem?_append_left (R.len ▸ hi')] at h2
      exact (R.obj i b ob h1 h2).keep K fun oc e => k b oc (fun q => ha (q ▸ List.mem_of_getElem? h1)) e
    · subst hi'
      rw [R.len] at h2
      simp at h1 h2; subst h1; subst h2; exact ho K
    · rw [List.getElem?_eq_none (by simp; lia)] at h1; cases h1

section
variable {g : Cfg} {K : Frag} {c0 : CE} {fa : Nat → Option Addr} {call : Nat → List V → Sto → RE} {env : Env} {A : Around} {X : Value → Shared → Prop} {s : Shared} {as : List Addr} {fr : Fra} {σ σ' : Sto} {r n : Nat}
  {names : List (Str × NameKind)} {Q : Value → Shared → Prop} {v : V}

set_option tactic.hygienic false in
theorem FrRel.there {h : Heap} (F : FrRel g env as fr h) : ∃ o, h.get? env.locals = some o := by
  obtain ⟨m, ⟨o, es, ep, e, _⟩, _⟩ := F.ns; exact ⟨o, e⟩
set_option tactic.hygienic false in
theorem At.notNew (T : At g env as fr σ s) : s.heap.objs.size ≠ env.locals ∧ s.heap.objs.size ∉ as ∧ g.b.get? s.heap.objs.size = none := by
  refine ⟨fun q => ?_, fun q => ?_, ?_⟩
  · obtain ⟨o, e⟩ := T.F.there; have := Heap.lt_size e; rw [q] at this; exact Nat.lt_irrefl _ this
  · obtain ⟨o, e, _⟩ := T.R.there q; have := Heap.lt_size e; exact Nat.lt_irrefl _ this
  · cases e : g.b.get? s.heap.objs.size with
    | none => rfl
    | some o => have := T.R.base _ _ e; rw [new_none] at this; cases this
set_option tactic.hygienic false in
theorem At.push (T : At g env as fr σ s) (o : Obj) : At g env as fr σ { s with heap := s.heap.push o } :=
  have x : Step [] as s.heap as (s.heap.push o) := Step.of_ext (keeps_push _ _)
  ⟨T.frame x, T.R.ext (keeps_push _ _)⟩
set_option tactic.hygienic false in
theorem step_pushed (as : List Addr) (h : Heap) (o : Obj) (own : List Addr) : Step own as h as (h.push o) := Step.of_ext (keeps_push _ _)

set_option tactic.hygienic false in
theorem FrRel.alter {as' : List Addr} {h h' : Heap} {d : Addr} (F : FrRel g env as fr h) (K : Keep as h as' h') (hk : ∀ (b : Addr) (o : Obj), b ≠ d → h.get? b = some o → h'.get? b = some o) (hL : env.locals ≠ d) (hc : ∀ x c, env.cells.lookup x = some c → c ≠ d)
    (has : ∀ a ∈ as', a ∈ as ∨ a = d) : FrRel g env as' fr h' := by
  obtain ⟨m, hm, hv⟩ := F.ns
  refine ⟨F.kind, F.above, F.glob, F.blt, F.len, F.nd, ⟨m, hm.at' fun o e => hk _ o hL e, fun i x v h1 h2 => ?_⟩, fun i x k h1 h2 => ?_, fun q => ?_, fun x c hc' => ⟨fun q => ?_, (F.offc _ _ hc').2.1, ?_⟩, F.apart, F.newc⟩
  · obtain ⟨val, e1, e2⟩ := hv i x v h1 h2
    exact ⟨val, e1, RepV.keep K _ _ e2⟩
  · obtain ⟨c, cv, e1, ⟨o, e2, e2'⟩, e3⟩ := F.cells i x k h1 h2
    refine ⟨c, cv, e1, ⟨o, hk _ _ (hc _ _ e1) e2, e2'⟩, fun v e => ?_⟩
    obtain ⟨val, e4, e5⟩ := e3 v e
    exact ⟨val, e4, RepV.keep K _ _ e5⟩
  · rcases has _ q with q | q
    · exact F.off q
    · exact hL q
  · rcases has _ q with q | q
    · exact (F.offc _ _ hc').1 q
    · exact hc _ _ hc' q
  · obtain ⟨cv, o, e, e'⟩ := (F.offc _ _ hc').2.2
    exact ⟨cv, o, hk _ _ (hc _ _ hc') e, e'⟩
set_option tactic.hygienic false in
theorem At.cellNew (T : At g env as fr σ s) : ∀ x c, env.cells.lookup x = some c → c ≠ s.heap.objs.size := fun x c hc q => by
  obtain ⟨cv, o, e, _⟩ := (T.F.offc _ _ hc).2.2
  have := Heap.lt_size e; rw [q] at this; exact Nat.lt_irrefl _ this

set_option tactic.hygienic false in
theorem n_attr {va a x k p} (G : Glob g K c0 fa) (I : AttInj g) (IH : SndE g c0 call r n) (hb : baseOk va = true) (h1 : compE n (c0.sub names) va = some a) (hk : c0.attrs.lookup x = some k) : NodeE g c0 call r names (.Attribute va x p) (.attr a k) := fun env A X s as fr σ σ' v Q N hA T ev hQ => by
  refine bind_el ev fun u τ e1 e2 => ?_
  obtain ⟨e5, rfl⟩ := ofOpt_ok e2
  refine Attribute_any_ (IH names va a h1 env A X s as fr σ _ u _ N hA T e1 fun val as' h' tk st R' F' r1 => o_attr G I (T.step (tk := tk) R' F') r1 hk e5 (epost_of hQ st R' F')) ?_
  have := base_eq (x := x) (env := env) (act := eval va env) hb
  show (attributeBase va x env (eval va env) >>= _) = _
  rw [this]
set_option tactic.hygienic false in
theorem n_list {es es' p} (IH : SndE g c0 call r n) (h1 : mapO (compE n (c0.sub names)) es = some es') : NodeE g c0 call r names (.List es p) (.list es') := fun env A X s as fr σ σ' v Q N hA T ev hQ => by
  refine sbind_el ev fun u τ e1 e2 => ?_
  refine wpAny_List (args_snd IH es es' s as σ τ u _ h1 N hA T e1 fun xs as' h' tk st R' F' r1 => ?_)
  have hl := (RepVs.f2.mp r1).length
  refine ⟨by rw [← hl]; exact newL_len e2, ?_⟩
  exact (epost_of (tk := tk) hQ st R' F').newH (tk := tk) (T.step R' F') (xs := u) (items := xs.toArray) (by simpa using r1) e2
theorem n_tup {es es' k p} (IH : SndE g c0 call r n) (h1 : mapO (compE n (c0.sub names)) es = some es') : NodeE g c0 call r names (.Tuple es k p) (.tup es') := fun env A X s as fr σ σ' v Q N hA T ev hQ => by
  refine sbind_el ev fun u τ e1 e2 => ?_
  split at e2
  case isFalse => cases e2
  rename_i hlen
  cases e2
  refine wpAny_Tuple (args_snd IH es es' s as σ _ u _ h1 N hA T e1 fun xs as' h' tk st R' F' r1 => ?_)
  have hl := (RepVs.f2.mp r1).length
  refine ⟨by rw [← hl]; show _ ≤ 2 ^ 24; lia, ?_⟩
  have T' := T.step (tk := tk) R' F'
  have x : Step [] as' h' as' (h'.push { cls := .type "tuple", data := .seq xs.toArray }) := Step.of_ext (keeps_push _ _)
  refine (epost_of (tk := tk) hQ st R' F').use (tk := tk) T' x (R'.ext (keeps_push _ _)) ?_
  rw [RepV]
  exact ⟨_, xs.toArray, 0, rfl, Heap.get?_push_size _ rfl, by simp; lia, by simpa using RepVs.keep (R'.keep0 x) _ _ r1⟩

theorem n_slo {va lo a b p p'} (IH : SndE g c0 call r n) (h1 : compE n (c0.sub names) va = some a) (h2 : compE n (c0.sub names) lo = some b) : NodeE g c0 call r names (.Subscript va (.Slice (some lo) none none p') p) (.slo a b) := fun env A X s as fr σ σ' v Q N hA T ev hQ => by
  refine bind_el ev fun u τ e1 e2 => ?_
  refine bind_el e2 fun w τ' e3 e4 => ?_
  refine Subscript_ (IH names va a h1 env A X s as fr σ τ u _ N hA T e1 fun x as1 k1 tk1 st1 R1 F1 r1 => ?_)
  refine wpAny_Slice (wpAny_evalPart_some (IH names lo b h2 env A X _ as1 fr τ τ' w _ N hA ⟨F1, R1⟩ e3 fun y as2 k2 tk2 st2 R2 F2' r2 => ?_))
  refine wpAny_pure (wpAny_pure ?_)
  have r1' := RepV.keep (At.keep (s := { s with heap := k1, toks := tk1 }) ⟨F1, R1⟩ st2) _ _ r1
  split at e4
  case h_2 => cases e4
  rename_i l k
  split at e4
  case h_2 => cases e4
  rename_i xs hx
  split at e4
  case isFalse => cases e4
  rename_i hk
  have T2 : At g env as2 fr τ' { s with heap := k2, toks := tk2 } := ⟨F2', R2⟩
  have T3 := T2.push { cls := .type "slice", data := .fields #[y, .none, .none] }
  have kp := R2.keep0 (step_pushed as2 k2 { cls := .type "slice", data := .fields #[y, .none, .none] } [])
  refine o_slice (lo := some k) T3 (RepV.keep kp _ _ r1') hx (Heap.IsSliceOf.new k2 y .none .none) ?_ .none .none (by simp) (fun items hi => ?_) e4 (fun _ _ => ⟨_, rfl⟩) ?_
  · rw [RepV] at r2; obtain ⟨t, rfl⟩ := r2; exact .int _ _
  · obtain ⟨k', rfl⟩ := Int.eq_ofNat_of_zero_le hk
    show RepVs _ _ _ (slicePick items (some (k' : Int)) none none).toList
    rw [slicePick_from']
    simpa using RepVs.f2.mpr ((RepVs.f2.mp hi).drop k')
  · exact fun val as3 h3 tk3 st3 R3 F3 r3 => hQ val as3 h3 tk3 (step_trans st1 (step_trans st2 (step_trans (g := g) (fr := fr) (step_pushed as2 k2 _ _) st3 R3 F3) R3 F3) R3 F3) R3 F3 r3
theorem n_shi {va lo a b p p'} (IH : SndE g c0 call r n) (h1 : compE n (c0.sub names) va = some a) (h2 : compE n (c0.sub names) lo = some b) : NodeE g c0 call r names (.Subscript va (.Slice none (some lo) none p') p) (.shi a b) := fun env A X s as fr σ σ' v Q N hA T ev hQ => by
  refine bind_el ev fun u τ e1 e2 => ?_
  refine bind_el e2 fun w τ' e3 e4 => ?_
  refine Subscript_ (IH names va a h1 env A X s as fr σ τ u _ N hA T e1 fun x as1 k1 tk1 st1 R1 F1 r1 => ?_)
  refine wpAny_Slice (wpAny_pure (wpAny_evalPart_some (IH names lo b h2 env A X _ as1 fr τ τ' w _ N hA ⟨F1, R1⟩ e3 fun y as2 k2 tk2 st2 R2 F2' r2 => ?_)))
  refine wpAny_pure ?_
  have r1' := RepV.keep (At.keep (s := { s with heap := k1, toks := tk1 }) ⟨F1, R1⟩ st2) _ _ r1
  split at e4
  case h_2 => cases e4
  rename_i l k
  split at e4
  case h_2 => cases e4
  rename_i xs hx
  split at e4
  case isFalse => cases e4
  rename_i hk
  have T2 : At g env as2 fr τ' { s with heap := k2, toks := tk2 } := ⟨F2', R2⟩
  have T3 := T2.push { cls := .type "slice", data := .fields #[.none, y, .none] }
  have kp := R2.keep0 (step_pushed as2 k2 { cls := .type "slice", data := .fields #[.none, y, .none] } [])
  refine o_slice (hi := some k) T3 (RepV.keep kp _ _ r1') hx (Heap.IsSliceOf.new k2 .none y .none) .none ?_ .none (by simp) (fun items hi => ?_) e4 (fun _ _ => ⟨_, rfl⟩) ?_
  · rw [RepV] at r2; obtain ⟨t, rfl⟩ := r2; exact .int _ _
  · obtain ⟨k', rfl⟩ := Int.eq_ofNat_of_zero_le hk
    show RepVs _ _ _ (slicePick items none (some (k' : Int)) none).toList
    rw [slicePick_upto']
    simpa using RepVs.f2.mpr ((RepVs.f2.mp hi).take k')
  · exact fun val as3 h3 tk3 st3 R3 F3 r3 => hQ val as3 h3 tk3 (step_trans st1 (step_trans st2 (step_trans (g := g) (fr := fr) (step_pushed as2 k2 _ _) st3 R3 F3) R3 F3) R3 F3) R3 F3 r3
set_option tactic.hygienic false in
theorem At.notSys (G : Sys g) (T : At g env as fr σ s) : (s.heap.objs.size == sysModules) = false := by
  obtain ⟨o, e⟩ := T.F.there
  have h1 := Heap.lt_size e
  have h2 := T.F.above
  have h3 := G.sys
  cases q : s.heap.objs.size == sysModules with
  | false => rfl
  | true =>
    have := eq_of_beq q
    rw [this] at h1
    exact absurd (Nat.lt_of_lt_of_le h3 h2) (Nat.lt_asymm h1)

theorem n_dict1 {ke va a b p} (G : Glob g K c0 fa) (IH : SndE g c0 call r n) (h1 : compE n (c0.sub names) ke = some a) (h2 : compE n (c0.sub names) va = some b) : NodeE g c0 call r names (.Dict [some ke] [va] p) (.dict1 a b) := fun env A X s as fr σ σ' v Q N hA T ev hQ => by
  refine bind_el ev fun u τ e1 e2 => ?_
  refine bind_el e2 fun w τ' e3 e4 => ?_
  split at e4
  case h_2 => cases e4
  rename_i i
  cases e4
  have T1 := T.push { cls := .type "dict", data := .dict #[] }
  have nn := T.notNew
  have hd0 := Heap.DictOf.new (knd := intKind g.prog g.w) s.heap
  refine wpAny_Dict_walk (knd := intKind g.prog g.w) rfl rfl (by simp) (by simp) (pairTrees_cons_walk (two IH h1 h2 N hA T1 e1 e3 fun x y as' h' tk st R' F' r1 r2 => pairTrees_nil_walk ?_))
  rw [RepV] at r1; obtain ⟨t, rfl⟩ := r1
  have hda : s.heap.objs.size ∉ as' := by
    obtain ⟨⟨t', rfl, ht⟩, _⟩ := st
    intro q
    rcases List.mem_append.mp q with q | q
    · exact nn.2.1 q
    · have := ht _ q; rw [Heap.get?_push_size _ rfl] at this; cases this
  refine ⟨[(i, y)], ⟨intKind_is _ _ _ _, rfl, trivial⟩, ?_, fun h2' hd' hs' => ?_⟩
  · exact hd0.at fun o e => st.ext _ _ e (by simpa using nn.1) nn.2.1
  have hk : ∀ (b : Addr) (o : Obj), b ≠ s.heap.objs.size → h'.get? b = some o → h2'.get? b = some o := fun b o hb e => by rw [hs'.2 b hb]; exact e
  have hni : ∀ ob, h'.get? s.heap.objs.size = some ob → ¬ Imm ob := fun ob e hi => by
    have := st.ext _ _ (Heap.get?_push_size s.heap (o := { cls := .type "dict", data := .dict #[] }) rfl) (by simpa using nn.1) nn.2.1
    rw [e] at this; cases this
    exact hi.2.1 _ _ rfl
  obtain ⟨K', R2⟩ := R'.pushAt (o := .dI [(i, w)]) hk hda nn.2.2 hni fun kk => ⟨_, hd', by
    show F2 _ _ [(i, y)]
    exact .cons ⟨rfl, RepV.keep kk _ _ r2⟩ .nil, by simp, T.notSys G.sys⟩
  have st2 : Step [env.locals] as s.heap (as' ++ [s.heap.objs.size]) h2' := by
    obtain ⟨⟨t', rfl, ht⟩, hx⟩ := st
    refine ⟨⟨t' ++ [s.heap.objs.size], by simp, fun a ha => ?_⟩, fun b o e hb hb' => hk b o (fun q => by subst q; rw [new_none] at e; cases e) (hx b o (keeps_push _ _ _ _ e) hb hb')⟩
    rcases List.mem_append.mp ha with q | q
    · cases e : s.heap.get? a with
      | none => rfl
      | some o => have := ht a q; rw [keeps_push _ _ _ _ e] at this; cases this
    · simp at q; subst q; exact new_none _
  have F2' : FrRel g env (as' ++ [s.heap.objs.size]) fr h2' := F'.alter K' hk (Ne.symm nn.1) T.cellNew (by intro a ha; rcases List.mem_append.mp ha with q | q; exact .inl q; simp at q; exact .inr q)
  refine hQ _ _ h2' _ st2 R2 F2' ?_
  rw [RepV]
  exact ⟨_, rfl, by rw [← R'.len]; simp⟩
end
end Mine

set_option autoImplicit false
set_option maxRecDepth 100000
set_option linter.unusedVariables false
namespace Mine
open PySem PyProof.Rows PySem.W

section
variable {g : Cfg} {K : Frag} {c0 : CE} {fa : Nat → Option Addr} {call : Nat → List V → Sto → RE} {env : Env} {A : Around} {X : Value → Shared → Prop} {s : Shared} {as : List Addr} {fr : Fra} {σ σ' : Sto} {r n : Nat}
  {names : List (Str × NameKind)} {Q : Value → Shared → Prop} {v : V}

set_option tactic.hygienic false in
theorem noStar {pos : Pos} {c : CE} : ∀ {es : List Expr} {es' : List E}, mapO (compE n c) es = some es' → (backTo pos (starEach es env)).any (·.1) = false
  | [], _, _ => rfl
  | e :: es, es', h => by
    obtain ⟨a, as', h1, h2, rfl⟩ := mapO_cons h
    rw [notStarred h1]
    show (false || (backTo pos (starEach es env)).any (·.1)) = false
    rw [noStar h2]; rfl

set_option tactic.hygienic false in
theorem callWith_snd {pos : Pos} {f : Value} {first : List Value} (IH : SndE g c0 call r n) (hk : ∀ h : Heap, (∀ (a : Addr) (o : Obj), g.b.get? a = some o → h.get? a = some o) → ∃ k, (k = Keeper.frame ∨ k = Keeper.machine ∨ k = Keeper.boundFrame) ∧ Looks (model g.prog g.w) h (keeperOf f) k)
    {es : List Expr} {es' : List E} {vs : List V} (h1 : mapO (compE n (c0.sub names)) es = some es') (N : NamesOk (c0.sub names) env) (hA : Room g A (r + 1)) (T : At g env as fr σ s) (ev : evEs call es' fr σ = .ok vs σ')
    (hQ : ∀ (xs : List Value) (as' : List Addr) (h' : Heap) (tk : Nat), Step [env.locals] as s.heap as' h' → Rel g as' σ' h' → FrRel g env as' fr h' → RepVs as' h' vs xs → wpAny (model g.prog g.w) A (PySem.call f (first ++ xs)) Q X { s with heap := h', toks := tk }) :
    wpAny (model g.prog g.w) A (callWith pos f first (backTo pos (starEach es env)) []) Q X s := by
  refine callWith_of (P := fun h => ∀ (a : Addr) (o : Obj), g.b.get? a = some o → h.get? a = some o) (by rw [noStar h1]; rfl) hk ?_
  have fin : ∀ (xs : List Value) (as' : List Addr) (h' : Heap) (tk : Nat), Step [env.locals] as s.heap as' h' → Rel g as' σ' h' → FrRel g env as' fr h' → RepVs as' h' vs xs →
    (∀ (a : Addr) (o : Obj), g.b.get? a = some o → ({ s with heap := h', toks := tk } : Shared).heap.get? a = some o) ∧ wpAny (model g.prog g.w) A (PySem.call f (first ++ (⟨xs, []⟩ : Args).pos) (⟨xs, []⟩ : Args).kw) Q X { s with heap := h', toks := tk } :=
    fun xs as' h' tk st R' F' r' => ⟨R'.base, hQ xs as' h' tk st R' F' r'⟩
  cases es with
  | nil =>
    rw [mapO] at h1; cases h1; rw [evEs] at ev; cases ev
    exact PySem.evalArgs_none (fin [] as s.heap s.toks (Step.refl _ _ _) T.R T.F (by rw [RepVs]))
  | cons e es =>
    have key := args_snd (A := A) (X := X) (pos := pos) IH (e :: es) es' s as σ σ' vs (fun xs s' => (∀ (a : Addr) (o : Obj), g.b.get? a = some o → s'.heap.get? a = some o) ∧ wpAny (model g.prog g.w) A (PySem.call f (first ++ (⟨xs, []⟩ : Args).pos) (⟨xs, []⟩ : Args).kw) Q X s') h1 N hA T ev fin
    obtain ⟨a, as', h3, h4, rfl⟩ := mapO_cons h1
    rw [notStarred h3] at key ⊢
    exact Calls.evalArgs_plain key

set_option tactic.hygienic false in
theorem keeps_blt (id : String) : ∀ h : Heap, ∃ k, (k = Keeper.frame ∨ k = Keeper.machine ∨ k = Keeper.boundFrame) ∧ Looks (model g.prog g.w) h (keeperOf (.builtin id)) k := fun h => ⟨.machine, .inr (.inl rfl), .now⟩
set_option tactic.hygienic false in
theorem keeps_typ (id : String) : ∀ h : Heap, ∃ k, (k = Keeper.frame ∨ k = Keeper.machine ∨ k = Keeper.boundFrame) ∧ Looks (model g.prog g.w) h (keeperOf (.type id)) k := fun h => ⟨.machine, .inr (.inl rfl), .now⟩
set_option tactic.hygienic false in
theorem keeps_bv (b : BN) (hb : bOk b = true) : ∀ h : Heap, ∃ k, (k = Keeper.frame ∨ k = Keeper.machine ∨ k = Keeper.boundFrame) ∧ Looks (model g.prog g.w) h (keeperOf (bltVal b)) k := by
  cases b <;> first | exact ft hb | exact keeps_blt _ | exact keeps_typ _
set_option tactic.hygienic false in
theorem lookup_all {α : Type} {P : α → Bool} {x : Str} {b : α} : ∀ {l : List (Str × α)}, l.all (fun q => P q.2) = true → l.lookup x = some b → P b = true
  | [], _, e => nn e
  | q :: l, h, e => by
    obtain ⟨h1, h2⟩ := and_inv (show (P q.2 && l.all fun q => P q.2) = true from h)
    obtain ⟨y, c⟩ := q
    rw [List.lookup_cons] at e
    cases hq : x == y <;> rw [hq] at e
    · exact lookup_all h2 e
    · exact Option.some.inj e ▸ h1
set_option tactic.hygienic false in
theorem keeps_G {f : Value} (G : Glob g K c0 fa) (hk : keepIn K f = true) : ∀ h : Heap, (∀ (a : Addr) (o : Obj), g.b.get? a = some o → h.get? a = some o) → ∃ k, (k = Keeper.frame ∨ k = Keeper.machine ∨ k = Keeper.boundFrame) ∧ Looks (model g.prog g.w) h (keeperOf f) k :=
  fun h hb => keeps_K hk h (G.kin.keeps hb)

set_option tactic.hygienic false in
theorem n_blt {f : Str} {fp p : Pos} {b es es'} (G : Glob g K c0 fa) (IH : SndE g c0 call r n) (hg : (c0.sub names).glob f = true) (hd : (f == ("__debug__" : Str)) = false) (hb : bltName.lookup f = some b) (hne : bOk b = true) (hh : c0.hnd = false) (h1 : mapO (compE n (c0.sub names)) es = some es') :
    NodeE g c0 call r names (.Call (.Name f fp) es [] p) (.blt b es') := fun env A X s as fr σ σ' v Q N hA T ev hQ => by
  refine sbind_el ev fun us τ e1 e2 => ?_
  refine wpAny_Call_NameR (o_glob T N hg hd (G.blt f b hb) ?_)
  refine callWith_snd IH (fun h _ => ?_) h1 N hA T e1 fun xs as' h' tk st R' F' r' => ?_
  · exact keeps_bv b hne h
  · exact o_blt G.sys (T.step (tk := tk) R' F') (hA.none (G.hd hh)) r' hne e2 (epost_of hQ st R' F')
set_option tactic.hygienic false in
theorem Room.less {m k : Nat} (h : Room g A (m + k)) : Room g A m := by
  have h1 := h.units; have h2 := h.depth
  exact ⟨by lia, by lia, h.handled⟩

set_option tactic.hygienic false in
theorem FrRel.size {h : Heap} (F : FrRel g env as fr h) : g.b.objs.size ≤ h.objs.size := by
  obtain ⟨o, e⟩ := F.there
  exact Nat.le_trans F.above (Nat.le_of_lt (Heap.lt_size e))

set_option tactic.hygienic false in
theorem epost_grow {as' : List Addr} {h' : Heap} {tk : Nat} {τ : Sto} {val : Value} {as2 : List Addr} {h2 : Heap} {tk2 : Nat} (hQ : EPost g env as fr s v σ' Q) (st : Step [env.locals] as s.heap as' h') (R' : Rel g as' τ h') (F' : FrRel g env as' fr h')
    (st2 : Step [] as' h' as2 h2) (R2 : Rel g as2 σ' h2) (r2 : RepV as2 h2 v val) : Q val { s with heap := h2, toks := tk2 } :=
  (epost_of (tk := tk) hQ st R' F').use (tk := tk2) (s := { s with heap := h', toks := tk }) ⟨F', R'⟩ st2 R2 r2

set_option tactic.hygienic false in
theorem n_call {f : Str} {fp p : Pos} {k es es'} (G : Glob g K c0 fa) (C : CallOk g fa call r) (IH : SndE g c0 call r n) (hg : (c0.sub names).glob f = true) (hd : (f == ("__debug__" : Str)) = false) (hb : c0.fns.lookup f = some k) (h1 : mapO (compE n (c0.sub names)) es = some es') :
    NodeE g c0 call r names (.Call (.Name f fp) es [] p) (.call k es') := fun env A X s as fr σ σ' v Q N hA T ev hQ => by
  refine sbind_el ev fun us τ e1 e2 => ?_
  obtain ⟨a, hv, hfa, hkp⟩ := G.fn f k hb
  refine wpAny_Call_NameR (o_glob T N hg hd hv ?_)
  refine callWith_snd IH (keeps_G G hkp) h1 N hA T e1 fun xs as' h' tk st R' F' r' => ?_
  refine wpAny_call (C k a us τ σ' v hfa e2 A _ as' xs _ (hA.less (k := 1)) R' F'.size r' fun val as2 h2 tk2 st2 R2 r2 => ?_)
  exact epost_grow (s := s) (tk := tk) (tk2 := tk2) hQ st R' F' st2 R2 r2

theorem isi_exc {C : Nat} {ds : List Nat} {u : V} {b : Bool} (e : isiV (.exc C ds) u σ = some b) : ∃ D, u = .exc D ∧ D ∈ ds ∧ b = (D == C) := by
  cases u <;> first | exact nn e | skip
  rename_i D
  have e : (if ds.contains D then some (D == C) else none) = some b := e
  split at e
  · rename_i h; exact ⟨D, rfl, List.contains_iff_mem.mp h, (Option.some.inj e).symm⟩
  · exact nn e
theorem isi_val {ds : List Nat} {u : V} {b : Bool} (e : isiV (.val ds) u σ = some b) : ∃ D, u = .exc D ∧ D ∈ ds ∧ b = true := by
  cases u <;> first | exact nn e | skip
  rename_i D
  have e : (if ds.contains D then some true else none) = some b := e
  split at e
  · rename_i h; exact ⟨D, rfl, List.contains_iff_mem.mp h, (Option.some.inj e).symm⟩
  · exact nn e
set_option tactic.hygienic false in
theorem o_isiX {D : Addr} {cv val : Value} {b : Bool} (G : Glob g K c0 fa) (hD : D ∈ c0.excs.map (·.2)) (e : kitOne K (.ref D) cv = some b) (T : At g env as fr σ s) (r : RepV as s.heap (.exc D) val) (hQ : EPost g env as fr s (.bool b) σ Q) :
    wpAny (model g.prog g.w) A (PySem.call (.builtin "isinstance") [val, cv]) Q X s := by
  rw [RepV] at r
  obtain ⟨a, o, vs, rfl, ho, hn, hc, hd⟩ := r
  refine kia_one (kitx_exc (ox := o) (G.exc.k D hD)) (G.kin.keeps T.R.base) ⟨ho, hc, ?_, ?_⟩ e (by simp) fun tk => hQ.bool T
  · unfold notCls; rw [hd]
  · rw [hn]; trivial
theorem n_isi {a : Expr} {t : Str} {x ty p fp tp} (G : Glob g K c0 fa) (IH : SndE g c0 call r n) (hg : (c0.sub names).glob "isinstance" = true) (hgt : (c0.sub names).glob t = true) (ht : isiTy c0 t = some ty) (hdt : (t == ("__debug__" : Str)) = false) (h1 : compE n (c0.sub names) a = some x) :
    NodeE g c0 call r names (.Call (.Name "isinstance" fp) [a, .Name t tp] [] p) (.isi x ty) := fun env A X s as fr σ σ' v Q N hA T ev hQ => by
  refine bind_el ev fun u τ e1 e2 => ?_
  obtain ⟨b, e3, rfl, rfl⟩ := ofOptB_ok e2
  refine wpAny_Call_NameR (o_glob T N hg rfl G.isi ?_)
  refine Calls.callWith_builtin (by rw [notStarred h1]; rfl) ?_
  rw [notStarred h1]
  refine Calls.evalArgs_plain ?_
  have hrw : (false, eval a env) :: (backTo p (starEach [.Name t tp] env)) = backTo p (starEach (a :: [.Name t tp]) env) := by rw [notStarred h1]; rfl
  show wpAny _ A (spliced ((false, eval a env) :: (backTo p (starEach [.Name t tp] env)))) _ X s
  rw [hrw]
  refine wpAny_items_cons ?_ (notStarred h1 _ _)
  refine IH names a x h1 env A X s as fr σ _ u _ N hA T e1 fun val as' h' tk st R' F' r' => ?_
  have T' := T.step (tk := tk) R' F'
  unfold isiTy at ht
  cases hl : tyName.lookup t with
  | some ty' =>
    rw [hl] at ht
    cases Option.some.inj ht
    have hty : ∃ y, tyVal ty = some y := by
      have : ∀ q ∈ tyName, ∃ y, tyVal q.2 = some y := by
        intro q hq
        simp only [tyName, List.mem_cons, List.not_mem_nil, or_false] at hq
        rcases hq with rfl | rfl | rfl | rfl <;> exact ⟨_, rfl⟩
      exact this _ (FrRel.keep.lookup_mem hl)
    obtain ⟨y, hy⟩ := hty
    refine wpAny_items_cons (o_glob T' N hgt hdt (G.typ t ty y hl hy) (wpAny_items_nil ?_))
    exact o_isi T' r' e3 hy (epost_of hQ st R' F')
  | none =>
    rw [hl] at ht
    cases hc : c0.clss.lookup t with
    | some k =>
      rw [hc] at ht
      cases Option.some.inj ht
      obtain ⟨fI, hv, _⟩ := G.cls t k hc
      have hin := G.clsO t k hc
      refine wpAny_items_cons (o_glob T' N hgt hdt hv (wpAny_items_nil ?_))
      dsimp only [isiV] at e3
      split at e3
      case h_2 => cases e3
      split at e3
      case h_2 => cases e3
      rename_i l d hd
      cases e3
      obtain ⟨ad, dx, rfl, hl, hdd, ho'⟩ := rep_inst (s := { s with heap := h', toks := tk }) R' r' hd
      refine isi_call (K := K) (t := .ref g.C) (G.kin.keeps R'.base) (fun M => ?_) hin (by simp) ?_
      · obtain ⟨ob, hob, _⟩ := R'.there (List.mem_of_getElem? hdd)
        exact InstAt.type (od := some ob) (x := ad) (ox := instObj g.C dx) ⟨ho', rfl, rfl, hob⟩
      · exact (epost_of (tk := tk) hQ st R' F').bool' T'
    | none =>
      rw [hc] at ht
      cases hx : c0.excs.lookup t with
      | some C =>
        rw [hx] at ht
        cases Option.some.inj ht
        obtain ⟨D, rfl, hD, rfl⟩ := isi_exc e3
        exact wpAny_items_cons (o_glob T' N hgt hdt (G.exc.i t C hx) (wpAny_items_nil (o_isiX G hD (G.exc.o C (List.mem_map.mpr ⟨_, lookup_mem' hx, rfl⟩) D hD) T' r' (epost_of hQ st R' F'))))
      | none =>
        rw [hx] at ht
        obtain ⟨h0, ht⟩ := gd_inv ht
        cases Option.some.inj ht
        have h0 : t = _ := eq_of_beq h0
        subst h0
        obtain ⟨D, rfl, hD, rfl⟩ := isi_val e3
        exact wpAny_items_cons (o_glob T' N hgt hdt G.exc.v (wpAny_items_nil (o_isiX G hD (G.exc.w D hD) T' r' (epost_of hQ st R' F'))))

theorem n_maxd {a : Expr} {x p fp k p1 kp} (G : Glob g K c0 fa) (IH : SndE g c0 call r n) (hg : (c0.sub names).glob "max" = true) (hh : c0.hnd = false) (h1 : compE n (c0.sub names) a = some x) :
    NodeE g c0 call r names (.Call (.Name "max" fp) [a] [⟨some "default", .Constant .none k p1, kp⟩] p) (.maxd x) := fun env A X s as fr σ σ' v Q N hA T ev hQ => by
  refine bind_el ev fun u τ e1 e2 => ?_
  show wpAny _ A (eval (.Name "max" fp) env >>= fun f => callWith p f [] (backTo p (starEach [a] env)) (backToKw p (keywordEach [⟨some "default", .Constant .none k p1, kp⟩] env))) Q X s
  refine wpAny_bind (o_glob T N hg rfl (G.blt "max" .max rfl) ?_)
  refine callWith_kw ?_ (by rw [notStarred h1]; rfl) (by rw [notStarred h1]; rfl) rfl rfl
  refine wpAny_items_cons ?_ (notStarred h1 _ _)
  refine IH names a x h1 env A X s as fr σ τ u _ N hA T e1 fun val as' h' tk st R' F' r' => wpAny_items_nil ?_
  have T' := T.step (tk := tk) R' F'
  have fin : ∀ is l, u = .ref l → (getL τ l).bind intsOf = some is → (v = match maxL is with | some i => V.int i | none => V.none) → σ' = τ →
      wpAny (model g.prog g.w) A (PySem.call (.builtin "max") [val] [(Str.ofString "default", .none)]) Q X { s with heap := h', toks := tk } := fun is l hu hi hv hs => by
    subst hu; subst hs
    exact o_maxd T' (hA.none (G.hd hh)) r' hi hv (epost_of hQ st R' F')
  have fin' : ∀ is l, u = .ref l → (getL τ l).bind intsOf = some is → (v = match maxL is with | some i => V.int i | none => V.none) → σ' = τ →
      wpAny (model g.prog g.w) A (evalAll ((backToKw p (keywordEach [⟨some "default", .Constant .none k p1, kp⟩] env)).map (·.2)))
      (fun kvs s₂ => wpAny (model g.prog g.w) A (PySem.call (.builtin "max") [val] (((backToKw p (keywordEach [⟨some "default", .Constant .none k p1, kp⟩] env)).filterMap (·.1)).zip kvs)) Q X s₂) X { s with heap := h', toks := tk } := fun is l hu hi hv hs => by
    have := fin is l hu hi hv hs
    show wpAny _ A (do let v ← (do let v ← eval (.Constant .none k p1) env; standAt p; pure v); return v :: (← holding [v] (evalAll []))) _ X _
    refine wpAny_bind (wpAny_bind (Constant_none (wpAny_bind (wpAny_standAt (wpAny_pure (wpAny_bind (wpAny_holding (wpAny_pure (wpAny_pure ?_)))))))))
    exact this
  split at e2
  case h_2 => cases e2
  rename_i l
  split at e2
  · rename_i hi
    cases e2
    exact fin' [] l rfl hi rfl rfl
  · rename_i is hne hi
    obtain ⟨e3, rfl⟩ := ofOpt_ok e2
    obtain ⟨i, e4, rfl⟩ := Option.map_eq_some_iff.mp e3
    exact fin' is l rfl hi (by rw [e4]) rfl
  · cases e2
end
end Mine

set_option autoImplicit false
set_option maxRecDepth 100000
set_option linter.unusedVariables false
namespace Mine
open PySem PyProof.Rows PySem.W

section
variable {g : Cfg} {K : Frag} {c0 : CE} {fa : Nat → Option Addr} {call : Nat → List V → Sto → RE} {env : Env} {A : Around} {X : Value → Shared → Prop} {s : Shared} {as : List Addr} {fr : Fra} {σ σ' : Sto} {r n : Nat}
  {names : List (Str × NameKind)} {Q : Value → Shared → Prop} {v : V}

end
end Mine

set_option autoImplicit false
set_option maxRecDepth 100000
set_option linter.unusedVariables false
namespace Mine
open PySem PyProof.Rows PySem.W

section
variable {g : Cfg} {K : Frag} {c0 : CE} {fa : Nat → Option Addr} {call : Nat → List V → Sto → RE} {env : Env} {A : Around} {X : Value → Shared → Prop} {s : Shared} {as : List Addr} {fr : Fra} {σ σ' : Sto} {r n : Nat}
  {names : List (Str × NameKind)} {Q : Value → Shared → Prop} {v : V}

set_option tactic.hygienic false in
theorem At.pushN {h' : Heap} {a : Addr} {o : AO} (T : At g env as fr σ s) {as1 : List Addr} {σ1 : Sto} (x : Step [env.locals] as s.heap as1 h') (R' : Rel g as1 σ1 h') (F' : FrRel g env as1 fr h') (hn : s.heap.get? a = none) (ha : a ∉ as1)
    (hb : g.b.get? a = none) (hL : a ≠ env.locals) (hc : ∀ y c, env.cells.lookup y = some c → c ≠ a) (hi : ∀ ob, h'.get? a = some ob → ¬ Imm ob) (ho : RepO g (as1 ++ [a]) h' o a) :
    Step [env.locals] as s.heap (as1 ++ [a]) h' ∧ Rel g (as1 ++ [a]) (σ1 ++ [o]) h' ∧ FrRel g env (as1 ++ [a]) fr h' := by
  obtain ⟨K', R2⟩ := R'.pushAt (h' := h') (o := o) (a := a) (fun _ _ _ e => e) ha hb hi (fun _ => ho)
  refine ⟨?_, R2, F'.alter (d := a) K' (fun _ _ _ e => e) (Ne.symm hL) hc (by intro b hb'; rcases List.mem_append.mp hb' with q | q; exact .inl q; simp at q; exact .inr q)⟩
  obtain ⟨⟨t, rfl, ht⟩, hx⟩ := x
  refine ⟨⟨t ++ [a], by simp, fun b hb' => ?_⟩, hx⟩
  rcases List.mem_append.mp hb' with q | q
  · exact ht b q
  · simp at q; subst q; exact hn

set_option tactic.hygienic false in
theorem mk_enter {f : Str} {fp p : Pos} {k es es'} {us : List V} {τ : Sto} (G : Glob g K c0 fa) (IH : SndE g c0 call r n) (hg : (c0.sub names).glob f = true) (hd : (f == ("__debug__" : Str)) = false) (hb : c0.clss.lookup f = some k) (h1 : mapO (compE n (c0.sub names)) es = some es')
    (N : NamesOk (c0.sub names) env) (hA : Room g A (r + 1)) (T : At g env as fr σ s) (e1 : evEs call es' fr σ = .ok us τ)
    (H : ∀ (fI : Addr) (xs : List Value) (as' : List Addr) (h' : Heap) (tk : Nat) (dx x : Addr) (h2 : Heap), fa k = some fI → Step [env.locals] as s.heap as' h' → Rel g as' τ h' → Step [env.locals] as' h' (as' ++ [dx] ++ [x]) h2 → Rel g (as' ++ [dx] ++ [x]) (τ ++ [.att []] ++ [.inst τ.length]) h2 → FrRel g env (as' ++ [dx] ++ [x]) fr h2 →
      RepVs (as' ++ [dx] ++ [x]) h2 (.ref (τ.length + 1) :: us) (.ref x :: xs) → Room g (A.under (.builtin "type.__call__" ⟨.ref g.C :: xs, []⟩)) r →
      codeAny (model g.prog g.w) (A.under (.builtin "type.__call__" ⟨.ref g.C :: xs, []⟩)) (.call (.ref fI) ⟨.ref x :: xs, []⟩) (InitBack x fun r s' => match r with | .ok (.ret v) => Q v s' | .ok _ => False | .error e => X e s') { s with heap := h2, toks := tk }) :
    wpAny (model g.prog g.w) A (eval (.Call (.Name f fp) es [] p) env) Q X s := by
  obtain ⟨fI, hv, hfa, hkp, hmk, hin, hfn⟩ := G.cls f k hb
  refine wpAny_Call_NameR (o_glob T N hg hd hv ?_)
  refine callWith_snd IH (keeps_G G hkp) h1 N hA T e1 fun xs as' h' tk st R' F' r' => ?_
  have T' : At g env as' fr τ { s with heap := h', toks := tk } := ⟨F', R'⟩
  obtain ⟨m, hF, _⟩ := F'.fr R'
  refine call_cls (L := env.locals) (h₀ := g.b) (news := newsOf g.b env.locals h') hF G.kin (news_all _ _ _) hmk hin hfn fun x dx h2 F2 N2 hlt hlt2 => ?_
  obtain ⟨K1, st1, R1, F1⟩ := T'.byNews hF.ns F2 N2 (fun p hp => .tail _ (.tail _ hp))
  have nx := N2 _ (.head _)
  have nd := N2 _ (.tail _ (.head _))
  have fresh : ∀ b, dx ≤ b → b ≠ env.locals → g.b.get? b = none → h'.get? b = none := fun b hb hL hg' => by
    cases e : h'.get? b with
    | none => rfl
    | some o => exact absurd (Nat.lt_of_lt_of_le (hlt (b, o) (mem_newsOf.mpr ⟨e, hL, hg'⟩)) hb) (Nat.lt_irrefl _)
  have fd := fresh dx (Nat.le_refl _) nd.2.1 nd.2.2
  have fx := fresh x (Nat.le_of_lt hlt2) nx.2.1 nx.2.2
  have notin : ∀ b, h'.get? b = none → b ∉ as' := fun b hb q => by obtain ⟨o, e, _⟩ := R'.there q; rw [hb] at e; cases e
  have cellne : ∀ b, h'.get? b = none → ∀ y c, env.cells.lookup y = some c → c ≠ b := fun b hb y c hc q => by
    subst q; obtain ⟨cv, o, e, _⟩ := (F'.offc _ _ hc).2.2; rw [hb] at e; cases e
  obtain ⟨st2, R2, F2'⟩ := T'.pushN (a := dx) (o := .att []) st1 R1 F1 fd (notin _ fd) nd.2.2 nd.2.1 (cellne _ fd) (fun ob e hi => by rw [nd.1] at e; cases e; exact hi.2.1 _ _ rfl) ⟨[], 0, nd.1, .nil, by simp⟩
  have hlen : as'.length = τ.length := R'.len
  obtain ⟨st3, R3, F3⟩ := T'.pushN (a := x) (o := .inst τ.length) st2 R2 F2' fx (by
      intro q; rcases List.mem_append.mp q with q | q
      · exact notin _ fx q
      · simp at q; rw [q] at hlt2; exact Nat.lt_irrefl _ hlt2) nx.2.2 nx.2.1 (cellne _ fx) (fun ob e hi => by rw [nx.1] at e; cases e; rcases hi.1 with q | q <;> simp at q) ⟨dx, by rw [← hlen]; simp, nx.1⟩
  have hroom : Room g (A.under (.builtin "type.__call__" ⟨.ref g.C :: xs, []⟩)) r := ⟨by have := hA.units; rw [units_under_make]; lia, by have := hA.depth; rw [depth_under_make]; lia, hA.handled⟩
  have K3 : Keep as' h' (as' ++ [dx] ++ [x]) h2 := R'.keep st3 F'.notImm
  refine H fI xs as' h' tk dx x h2 hfa st R' st3 R3 F3 ?_ hroom
  rw [RepVs]
  exact ⟨_, _, rfl, by rw [RepV]; exact ⟨x, rfl, by rw [← hlen]; simp⟩, RepVs.keep K3 _ _ r'⟩
theorem n_mk {f : Str} {fp p : Pos} {k es es'} (G : Glob g K c0 fa) (C : CallOk g fa call r) (IH : SndE g c0 call r n) (hg : (c0.sub names).glob f = true) (hd : (f == ("__debug__" : Str)) = false) (hb : c0.clss.lookup f = some k) (h1 : mapO (compE n (c0.sub names)) es = some es') :
    NodeE g c0 call r names (.Call (.Name f fp) es [] p) (.mk k es') := fun env A X s as fr σ σ' v Q N hA T ev hQ => by
  refine sbind_el ev fun us τ e1 e2 => ?_
  have e2' : ∃ σ2, call k (.ref (τ.length + 1) :: us) (τ ++ [.att []] ++ [.inst τ.length]) = .ok .none σ2 ∧ v = .ref (τ.length + 1) ∧ σ' = σ2 := by
    rw [List.append_assoc]
    split at e2
    · rename_i σ2 hq; cases e2; exact ⟨_, hq, rfl, rfl⟩
    · cases e2
    · cases e2
    · cases e2
  obtain ⟨_, e3, rfl, rfl⟩ := e2'
  refine mk_enter G IH hg hd hb h1 N hA T e1 fun fI xs as' h' tk dx x h2 hfa st R' st3 R3 F3 href hroom => ?_
  refine C k fI _ _ σ' .none hfa e3 _ _ (as' ++ [dx] ++ [x]) (.ref x :: xs) _ hroom R3 F3.size href fun val as4 h4 tk4 st4 R4 r4 => ?_
  rw [RepV] at r4; subst r4
  refine ⟨rfl, ?_⟩
  have K4 := R3.keep0 st4
  have F4 := F3.keep K4 st4 (by simp)
  have st34 := step_trans st3 (st4.grow (own' := [env.locals]) (by simp)) R4 F4
  rw [RepVs] at href
  obtain ⟨_, _, hq, href, _⟩ := href
  cases hq
  exact hQ (.ref x) as4 h4 tk4 (step_trans st st34 R4 F4) R4 F4 (RepV.keep K4 _ _ href)

set_option tactic.hygienic false in
theorem meth_eq {o : Expr} {x : Str} {apos pos : Pos} {args : List Expr} {args' : List E} {c : CE} (e1 : attributeBase o x env (eval o env) = eval o env) (hl : args.length ≤ 8) (hp : (apos.endLine == pos.line) = true) (h1 : mapO (compE n c) args = some args') :
    eval (.Call (.Attribute o x apos) args [] pos) env = (do
      let ov ← eval o env
      standAt apos.atName
      let (f, first) ← holding [ov] (getMethod ov x (do return (← importBound o env).getD true))
      callWith pos f first (backTo pos (starEach args env)) []) := by
  have e2 : methodCallForm (args.length + ([] : List Keyword).length) (backTo pos (starEach args env)) (backToKw pos (keywordEach [] env)) = true := by
    show methodCallForm (args.length + 0) (backTo pos (starEach args env)) [] = true
    unfold methodCallForm
    have := noStar (env := env) (pos := pos) h1
    have ha : (backTo pos (starEach args env)).all (fun x => !x.1) = true := by
      rw [List.all_eq_true]; intro y hy
      rw [List.any_eq_false] at this
      simpa using this y hy
    rw [ha]
    have : args.length + 0 + 0 < 30 := by lia
    show (true && true && decide (args.length + 0 + 0 < 30)) = true
    rw [decide_eq_true this]; rfl
  show (attributeBase o x env (eval o env) >>= fun ov => standAt apos.atName >>= fun _ => methodCall o x apos pos env ov (args.length + ([] : List Keyword).length) (backTo pos (starEach args env)) (backToKw pos (keywordEach [] env))) = _
  rw [e1]
  unfold methodCall
  rw [e2]
  unfold methodCallPos calleeOf
  simp only [Bool.not_true, Bool.false_or, hp, if_true]
  rfl

set_option tactic.hygienic false in
theorem n_meth {o : Expr} {x : Str} {apos p : Pos} {a es es' m} (IH : SndE g c0 call r n) (hb : baseOk o = true) (hl : es.length ≤ 8) (hp : (apos.endLine == p.line) = true)
    (h0 : compE n (c0.sub names) o = some a) (h1 : mapO (compE n (c0.sub names)) es = some es') (hml : methName.lookup x = some m) :
    NodeE g c0 call r names (.Call (.Attribute o x apos) es [] p) (.meth a m es') := fun env A X s as fr σ σ' v Q N hA T ev hQ => by
  refine MethodCall_ (pl := do return (← importBound o env).getD true) ?_ (meth_eq (base_eq hb) hl hp h1)
  refine bind_el ev fun u τ e1 e2 => ?_
  obtain ⟨l, xs, rfl, hx, e2⟩ := lstV_inv e2
  refine sbind_el e2 fun us τ' e3 e4 => ?_
  obtain ⟨l', xs', hll, hx', e5⟩ := lstV_inv e4
  cases hll
  refine IH names o a h0 env A X s as fr σ τ _ _ N hA T e1 fun val as' h' tk st R' F' r' => ?_
  have T' : At g env as' fr τ { s with heap := h', toks := tk } := ⟨F', R'⟩
  obtain ⟨hslot, hty⟩ := meth_slot hml
  cases rep_lst R' r' hx with
  | mk ad items mm hd ho hr hz hsz =>
    refine getMethod_list_of hslot hty ho.isList ⟨_, ho, rfl⟩ ?_
    refine callWith_snd IH (fun h _ => keeps_blt _ h) h1 N hA T' e3 fun xs as2 h2 tk2 st2 R2 F2' r2 => ?_
    have T2 : At g env as2 fr τ' { s with heap := h2, toks := tk2 } := ⟨F2', R2⟩
    exact o_meth (lookup_all (P := mOk) (l := methName) rfl hml) T2 (rep_lst R2 (RepV.keep (T'.keep st2) _ _ r') hx') r2 e5 (epost_of (s := s) (tk := tk2) hQ (step_trans st st2 R2 F2') R2 F2')
set_option tactic.hygienic false in
theorem joinV_inv {xs : List V} {v : V} (e : joinV xs σ = .ok v σ') : ∃ x, xs = [.str x] ∧ v = .str x ∧ σ' = σ := by
  rcases xs with _ | ⟨a, _ | ⟨b, xs⟩⟩
  · exact bad_ok e
  · cases a <;> first | exact bad_ok e | skip
    obtain ⟨rfl, rfl⟩ := ok_inj e
    exact ⟨_, rfl, rfl, rfl⟩
  · cases a <;> exact bad_ok e
set_option tactic.hygienic false in
theorem n_join {sp : Str} {k : Nat} {p1 apos p : Pos} {e : Expr} {a : E} (IH : SndE g c0 call r n) (hp : (apos.endLine == p.line) = true) (h1 : compE n (c0.sub names) e = some a) :
    NodeE g c0 call r names (.Call (.Attribute (.Constant (.str sp) k p1) "join" apos) [e] [] p) (.join sp a) := fun env A X s as fr σ σ' v Q N hA T ev hQ => by
  refine bind_el ev fun u τ e1 e2 => ?_
  obtain ⟨l, xs, rfl, hx, e2⟩ := lstV_inv e2
  obtain ⟨x, rfl, rfl, rfl⟩ := joinV_inv e2
  have hm : mapO (compE n (c0.sub names)) [e] = some [a] := by rw [mapO, h1]; rfl
  have hes : evEs call [a] fr σ = .ok [.ref l] σ' := by show (evE call a fr σ).binds _ = _; rw [e1]; rfl
  refine MethodCall_ (pl := do return (← importBound (.Constant (.str sp) k p1) env).getD true) ?_ (meth_eq rfl (by decide : 1 ≤ 8) hp hm)
  refine wpAny_Constant_str (GM.join ?_)
  refine callWith_snd (s := { s with toks := s.toks + 1 }) (first := [.str sp s.toks]) IH (fun h _ => keeps_blt _ h) hm N hA ⟨T.F, T.R⟩ hes fun ys as' h' tk st R' F' r' => ?_
  rw [RepVs] at r'
  obtain ⟨y, ys, rfl, r1, r2⟩ := r'
  rw [RepVs] at r2; subst r2
  cases rep_lst R' r1 hx with
  | mk ad items mm hd ho hr hz hsz =>
    rw [RepVs] at hr
    obtain ⟨z, zs, hi, r3, r4⟩ := hr
    rw [RepVs] at r4; subst r4
    rw [RepV] at r3
    obtain ⟨t, rfl⟩ := r3
    have hi' : items = #[.str x t] := by apply Array.ext'; simpa using hi
    subst hi'
    refine wpAny_call_entry F.slot_str_join (typeIs_str _ _ _) F.entry_str_join ?_ (F.args_str_join_2 _ _)
    obtain ⟨other, hj⟩ := join_tree sp s.toks ad
    show wpAny _ _ (Builtin.«str.join» ⟨[.str sp s.toks, .ref ad], []⟩) _ _ _
    rw [hj]
    refine wpAny_bind (wpAny_typeOf (show ({ s with heap := h', toks := tk } : Shared).TypeIs (.ref ad) "list" from ⟨_, ho, rfl⟩) ?_)
    rw [if_pos (by decide)]
    refine wpAny_bind (wpAny_seqItems ho rfl ?_)
    show wpAny _ _ (do rule "str.join.same-object"; ret (Value.str x t)) _ _ _
    refine wpAny_bind (wpAny_rule (wpAny_pure ?_))
    exact ⟨_, rfl, hQ (.str x t) as' h' tk st R' F' (by rw [RepV]; exact ⟨t, rfl⟩)⟩
set_option tactic.hygienic false in
theorem n_umeth {o : Expr} {x : Str} {apos p : Pos} {a es es' f} (G : Glob g K c0 fa) (C : CallOk g fa call r) (IH : SndE g c0 call r n) (hb : baseOk o = true) (hl : es.length ≤ 8) (hp : (apos.endLine == p.line) = true)
    (h0 : compE n (c0.sub names) o = some a) (h1 : mapO (compE n (c0.sub names)) es = some es') (hf : c0.mths.lookup x = some f) :
    NodeE g c0 call r names (.Call (.Attribute o x apos) es [] p) (.umeth a f es') := fun env A X s as fr σ σ' v Q N hA T ev hQ => by
  refine MethodCall_ (pl := do return (← importBound o env).getD true) ?_ (meth_eq (base_eq hb) hl hp h1)
  refine bind_el ev fun u τ e1 e2 => ?_
  obtain ⟨l, d, ents, rfl, hd, he, e2⟩ := instV_inv e2
  refine sbind_el e2 fun us τ' e3 e4 => ?_
  refine IH names o a h0 env A X s as fr σ τ _ _ N hA T e1 fun val as' h' tk st R' F' r' => ?_
  have T' : At g env as' fr τ { s with heap := h', toks := tk } := ⟨F', R'⟩
  obtain ⟨fad, hfa, hpg, hfi, hfn, hkp, hna⟩ := G.mth x f hf
  obtain ⟨ad, dx, rfl, h2, h3, h4⟩ := rep_inst (s := { s with heap := h', toks := tk }) R' r' hd
  obtain ⟨es0, nn, h5, h6, _⟩ := rep_att (s := { s with heap := h', toks := tk }) R' h3 he
  obtain ⟨m, hF, _⟩ := F'.fr R'
  refine method_inst (L := env.locals) (h₀ := g.b) (m := m) (es := es0) (n := nn) (ox := instObj g.C dx) hF G.kin ⟨h4, rfl, rfl, h5⟩ hpg hfi hfn (ents_none hna h6) ?_
  refine callWith_snd (first := [.ref ad]) IH (keeps_G G hkp) h1 N hA T' e3 fun xs as2 h2' tk2 st2 R2 F2' r2 => ?_
  have r3 := RepV.keep (T'.keep st2) _ _ r'
  refine wpAny_call (C f fad _ τ' σ' v hfa e4 A _ as2 (.ref ad :: xs) _ (hA.less (k := 1)) R2 F2'.size (by rw [RepVs]; exact ⟨_, _, rfl, r3, r2⟩) fun val as3 h3' tk3 st3 R3 r4 => ?_)
  exact epost_grow (s := s) (tk := tk2) (tk2 := tk3) hQ (step_trans st st2 R2 F2') R2 F2' st3 R3 r4
end
end Mine

set_option autoImplicit false
set_option maxRecDepth 100000
set_option linter.unusedVariables false
namespace Mine
open PySem PyProof.Rows PySem.W

inductive Src where
  | live (l : Nat) | tup (vs : List V) | rng (lo hi : Int)

noncomputable def srcAt (σ : Sto) (i : Nat) : Src → Option (Option V)
  | .live l => (getL σ l).map fun xs => xs[i]?
  | .tup vs => some vs[i]?
  | .rng lo hi => some (rngL lo hi)[i]?

noncomputable def ItAt (src : Src) (I : Addr) (i : Nat) (as : List Addr) (h : Heap) : Prop := match src with
  | .live l => ∃ a, as[l]? = some a ∧ h.IsListIter I a i
  | .tup vs => ∃ a items n, h.get? a = some { cls := .type "tuple", data := .seq items n } ∧ RepVs as h vs items.toList ∧ h.IsTupleIter I a i
  | .rng lo hi => IsRangeIter h I (lo + (i : Int) * 1) (((hi - lo).toNat : Int) - (i : Nat)) 1

set_option tactic.hygienic false in
theorem ItAt.there {src : Src} {I : Addr} {i : Nat} {as : List Addr} {h : Heap} (it : ItAt src I i as h) : ∃ o, h.get? I = some o ∧ ¬ Imm o := by
  cases src with
  | live l =>
    obtain ⟨a, _, o, e, hc, _⟩ := it
    exact ⟨o, e, fun q => by rcases q.1 with q | q <;> rw [hc] at q <;> simp at q⟩
  | tup vs =>
    obtain ⟨a, _, _, _, _, o, e, hc, _⟩ := it
    exact ⟨o, e, fun q => by rcases q.1 with q | q <;> rw [hc] at q <;> simp at q⟩
  | rng lo hi => exact ⟨_, it, fun q => by rcases q.1 with q | q <;> simp at q⟩

set_option tactic.hygienic false in
theorem ItAt.keep {src : Src} {I : Addr} {i : Nat} {as as' : List Addr} {h h' : Heap} (it : ItAt src I i as h) (K : Keep as h as' h') (hI : ∀ o, h.get? I = some o → h'.get? I = some o) : ItAt src I i as' h' := by
  cases src with
  | live l =>
    obtain ⟨a, e1, o, e2, e3⟩ := it
    exact ⟨a, K.pre _ _ e1, o, hI _ e2, e3⟩
  | tup vs =>
    obtain ⟨a, items, n, e1, e2, o, e3, e4⟩ := it
    exact ⟨a, items, n, K.imm _ _ e1 imm_tuple, RepVs.keep K _ _ e2, o, hI _ e3, e4⟩
  | rng lo hi => exact hI _ it

set_option tactic.hygienic false in
theorem Rel.other {g : Cfg} {as : List Addr} {σ : Sto} {h h' : Heap} {I : Addr} (R : Rel g as σ h) (k : ∀ (b : Addr) (o : Obj), b ≠ I → h.get? b = some o → h'.get? b = some o) (hI : I ∉ as) (hb : g.b.get? I = none) (hi : ∀ o, h.get? I = some o → ¬ Imm o) :
    Keep as h as h' ∧ Rel g as σ h' := by
  have K : Keep as h as h' := ⟨fun _ _ e => e, fun b o e im => k b o (fun q => by subst q; exact hi o e im) e⟩
  exact ⟨K, ⟨fun b o e => k b o (fun q => by subst q; rw [hb] at e; cases e) (R.base b o e), R.len, R.nd, R.new, fun i b o h1 h2 => (R.obj i b o h1 h2).keep K fun ob e => k b ob (fun q => hI (q ▸ List.mem_of_getElem? h1)) e, R.hnd.keep K⟩⟩

section
variable {g : Cfg} {env : Env} {A : Around} {X : Value → Shared → Prop} {s : Shared} {as : List Addr} {fr : Fra} {σ σ' : Sto}

set_option tactic.hygienic false in
theorem it_next {src : Src} {I : Addr} {i : Nat} {v : V} {Q : Option Value → Shared → Prop} (R : Rel g as σ s.heap) (it : ItAt src I i as s.heap) (hI : I ∉ as) (hb : g.b.get? I = none) (e : srcAt σ i src = some (some v))
    (hQ : ∀ val h' tk, (∀ (b : Addr) (o : Obj), b ≠ I → s.heap.get? b = some o → h'.get? b = some o) → Keep as s.heap as h' → Rel g as σ h' → ItAt src I (i + 1) as h' → RepV as h' v val → Q (some val) { s with heap := h', toks := tk }) :
    wpAny (model g.prog g.w) A (pyNext (.ref I)) Q X s := by
  have hth := it.there
  have hni : ∀ o, s.heap.get? I = some o → ¬ Imm o := fun o e => by obtain ⟨o', e', n⟩ := hth; rw [e] at e'; cases e'; exact n
  cases src with
  | live l =>
    obtain ⟨a, e1, e2⟩ := it
    obtain ⟨xs, e3, e4⟩ := Option.map_eq_some_iff.mp e
    have r0 : RepV as s.heap (.ref l) (.ref a) := by rw [RepV]; exact ⟨a, rfl, e1⟩
    obtain ⟨a', items, n, q, hd, ho, hr, hz, hsz⟩ := rep_list R r0 e3
    cases q
    obtain ⟨val, h1, h2⟩ := (RepVs.f2.mp hr).get e4
    refine wpAny_pyNext_list_item e2 ho.isList (by simpa using h1) fun h' hit hs => ?_
    have k : ∀ (b : Addr) (o : Obj), b ≠ I → s.heap.get? b = some o → h'.get? b = some o := fun b o hb e => by rw [hs.2 b hb]; exact e
    obtain ⟨K, R'⟩ := R.other k hI hb hni
    exact hQ val h' s.toks k K R' ⟨a, e1, hit⟩ (RepV.keep K _ _ h2)
  | tup vs =>
    obtain ⟨a, items, n, e1, e2, e3⟩ := it
    simp only [srcAt, Option.some.injEq] at e
    obtain ⟨val, h1, h2⟩ := (RepVs.f2.mp e2).get e
    refine wpAny_pyNext_tuple_item e3 ⟨_, e1, rfl, n, rfl⟩ (by simpa using h1) fun h' hit hs => ?_
    have k : ∀ (b : Addr) (o : Obj), b ≠ I → s.heap.get? b = some o → h'.get? b = some o := fun b o hb e => by rw [hs.2 b hb]; exact e
    obtain ⟨K, R'⟩ := R.other k hI hb hni
    exact hQ val h' s.toks k K R' ⟨a, items, n, K.imm _ _ e1 imm_tuple, RepVs.keep K _ _ e2, hit⟩ (RepV.keep K _ _ h2)
  | rng lo hi =>
    simp only [srcAt, Option.some.injEq, rngL] at e
    have hlt : i < (hi - lo).toNat := by
      have := (List.getElem?_eq_some_iff.mp e).1; simpa using this
    have hv : v = .int (lo + (i : Int)) := by
      rw [List.getElem?_map, List.getElem?_range hlt] at e
      simpa using e.symm
    subst hv
    refine wpAny_pyNext_range_item it (by lia) fun h' hit hs => ?_
    have k : ∀ (b : Addr) (o : Obj), b ≠ I → s.heap.get? b = some o → h'.get? b = some o := fun b o hb e => by rw [hs.2 b hb]; exact e
    obtain ⟨K, R'⟩ := R.other k hI hb hni
    have e1 : lo + (i : Int) * 1 + 1 = lo + ((i + 1 : Nat) : Int) * 1 := by lia
    have e2 : ((hi - lo).toNat : Int) - (i : Nat) - 1 = ((hi - lo).toNat : Int) - ((i + 1 : Nat) : Int) := by lia
    rw [e1, e2] at hit
    exact hQ _ h' _ k K R' hit (by rw [RepV]; exact ⟨_, by rw [Int.mul_one]⟩)

set_option tactic.hygienic false in
theorem it_done {src : Src} {I : Addr} {i : Nat} {Q : Option Value → Shared → Prop} (hA : A.handled = g.hd.map .ref) (R : Rel g as σ s.heap) (it : ItAt src I i as s.heap) (hI : I ∉ as) (hb : g.b.get? I = none) (hsm : ∀ lo hi, src = .rng lo hi → i ≤ (hi - lo).toNat)
    (hst' : ∀ vs, src = .tup vs → i ≤ vs.length) (e : srcAt σ i src = some none)
    (hQ : ∀ h' tk, (∀ (b : Addr) (o : Obj), b ≠ I → s.heap.get? b = some o → h'.get? b = some o) → Keep as s.heap as h' → Rel g as σ h' → Q none { s with heap := h', toks := tk }) :
    wpAny (model g.prog g.w) A (pyNext (.ref I)) Q X s := by
  have hth := it.there
  have hni : ∀ o, s.heap.get? I = some o → ¬ Imm o := fun o e => by obtain ⟨o', e', n⟩ := hth; rw [e] at e'; cases e'; exact n
  have fin : ∀ h' tk, (∀ (b : Addr) (o : Obj), b ≠ I → s.heap.get? b = some o → h'.get? b = some o) → Q none { s with heap := h', toks := tk } := fun h' tk k => by
    obtain ⟨K, R'⟩ := R.other k hI hb hni
    exact hQ h' tk k K R'
  cases src with
  | live l =>
    obtain ⟨a, e1, e2⟩ := it
    obtain ⟨xs, e3, e4⟩ := Option.map_eq_some_iff.mp e
    have r0 : RepV as s.heap (.ref l) (.ref a) := by rw [RepV]; exact ⟨a, rfl, e1⟩
    obtain ⟨a', items, n, q, hd, ho, hr, hz, hsz⟩ := rep_list R r0 e3
    cases q
    refine list_end (hand_of hA R) e2 ho.isList ?_ fun h' hs => fin h' s.toks hs
    rw [Array.getElem?_eq_none_iff, hsz]
    exact List.getElem?_eq_none_iff.mp e4
  | tup vs =>
    obtain ⟨a, items, n, e1, e2, e3⟩ := it
    simp only [srcAt, Option.some.injEq] at e
    have h3 : vs.length = items.size := (RepVs.f2.mp e2).length
    refine tuple_end (hand_of hA R) e3 ⟨_, e1, rfl, n, rfl⟩ ?_ fun h' hs => fin h' s.toks hs
    rw [Array.getElem?_eq_none_iff, ← h3]
    exact List.getElem?_eq_none_iff.mp e
  | rng lo hi =>
    simp only [srcAt, Option.some.injEq, rngL] at e
    have h1 := List.getElem?_eq_none_iff.mp e
    rw [List.length_map, List.length_range] at h1
    have h2 := hsm lo hi rfl
    have : i = (hi - lo).toNat := by lia
    subst this
    exact range_end (hand_of hA R) it (by lia) fun h' hs => fin h' s.toks hs

noncomputable def srcOf : V → Option Src
  | .ref l => some (.live l) | .tup vs => some (.tup vs) | .rng lo hi => some (.rng lo hi) | _ => none

set_option tactic.hygienic false in
theorem it_iter {v : V} {x : Value} {src : Src} {Q : Value → Shared → Prop} (T : At g env as fr σ s) (r : RepV as s.heap v x) (hs : srcOf v = some src) (hl : ∀ l, src = .live l → ∃ xs, getL σ l = some xs)
    (hQ : ∀ o, At g env as fr σ { s with heap := s.heap.push o } → ItAt src s.heap.objs.size 0 as (s.heap.push o) → Q (.ref s.heap.objs.size) { s with heap := s.heap.push o }) : wpAny (model g.prog g.w) A (pyIter x) Q X s := by
  cases v with
  | ref l =>
    cases hs
    obtain ⟨xs, e⟩ := hl l rfl
    obtain ⟨a, items, n, rfl, hd, ho, hr, hz, hsz⟩ := rep_list T.R r e
    exact wpAny_pyIter_list ho.isList (hQ _ (T.push _) ⟨a, hd, ⟨_, Heap.get?_push_size _ rfl, rfl, rfl⟩⟩)
  | tup vs =>
    cases hs
    have r' := r
    rw [RepV] at r
    obtain ⟨a, items, n, rfl, ho, hz, hr⟩ := r
    refine wpAny_pyIter_tuple ⟨_, ho, rfl, n, rfl⟩ (hQ _ (T.push _) ⟨a, items, n, keeps_push _ _ _ _ ho, RepVs.keep (T.R.keep0 (step_pushed as s.heap _ [])) _ _ hr, ⟨_, Heap.get?_push_size _ rfl, rfl, rfl⟩⟩)
  | rng lo hi =>
    cases hs
    rw [RepV] at r
    obtain ⟨a, t, u, v, rfl, ho, hb⟩ := r
    obtain ⟨h1, h2⟩ := rng_size hb
    refine wpAny_pyIter_range ho h2 (hQ _ (T.push _) ?_)
    show IsRangeIter _ _ (lo + ((0 : Nat) : Int) * 1) (((hi - lo).toNat : Int) - ((0 : Nat) : Int)) 1
    rw [h1]
    have e1 : lo + ((0 : Nat) : Int) * 1 = lo := by simp
    have e2 : (((hi - lo).toNat : Int) - ((0 : Nat) : Int)) = ((hi - lo).toNat : Int) := by simp
    rw [e1, e2]
    exact Heap.get?_push_size _ rfl
  | _ => cases hs
end
end Mine

set_option autoImplicit false
set_option maxRecDepth 100000
set_option linter.unusedVariables false
namespace Mine
open PySem PyProof.Rows PySem.W

theorem locW_get {c : CE} {x : Str} {i : Nat} (e : c.locW? x = some i) : ∃ k, c.names[i]? = some (x, k) ∧ (k = .local ∨ k = .cell) := by
  unfold CE.locW? at e
  split at e
  · rename_i h; obtain ⟨j, h1, h2⟩ := lookup_get h; rw [h1] at e; cases e; exact ⟨_, h2, .inl rfl⟩
  · rename_i h; obtain ⟨j, h1, h2⟩ := lookup_get h; rw [h1] at e; cases e; exact ⟨_, h2, .inr rfl⟩
  · cases e

set_option tactic.hygienic false in
theorem nodup_idx {l : List (Str × NameKind)} (nd : (l.map (·.1)).Nodup) {i j : Nat} {x : Str} {k k' : NameKind} (e : l[i]? = some (x, k)) (e' : l[j]? = some (x, k')) : i = j := by
  obtain ⟨h1, h2⟩ := List.getElem?_eq_some_iff.mp e
  obtain ⟨h3, h4⟩ := List.getElem?_eq_some_iff.mp e'
  have e1 : (l.map (·.1))[i]'(by simpa using h1) = x := by simp [h2]
  have e2 : (l.map (·.1))[j]'(by simpa using h3) = x := by simp [h4]
  exact (List.getElem_inj nd).mp (e1.trans e2.symm)

section
variable {g : Cfg} {env : Env} {A : Around} {X : Value → Shared → Prop} {s : Shared} {as : List Addr} {fr : Fra} {σ σ' : Sto} {c : CE} {own : List Addr}

noncomputable def Owns (c : CE) (env : Env) (own : List Addr) : Prop := env.locals ∈ own ∧ (∀ (i : Nat) (x : Str), c.names[i]? = some (x, .cell) → ∀ a, env.cells.lookup x = some a → a ∈ own) ∧ ∀ a ∈ own, a ∈ ownOf env
set_option tactic.hygienic false in
theorem owns_all (c : CE) (env : Env) : Owns c env (ownOf env) := ⟨.head _, fun _ _ _ _ e => mem_own e, fun _ h => h⟩
set_option tactic.hygienic false in
theorem owns_loc {c : CE} {env : Env} (h : ∀ x ∈ c.names, x.2 ≠ .cell) : Owns c env [env.locals] := ⟨.head _, fun i x e => absurd rfl (h (x, .cell) (List.mem_of_getElem? e)), fun a ha => by simp at ha; subst ha; exact .head _⟩

noncomputable def FPost (g : Cfg) (env : Env) (own : List Addr) (as : List Addr) (σ : Sto) (s : Shared) (fr : Fra) (Q : Unit → Shared → Prop) : Prop :=
  ∀ (as' : List Addr) (h' : Heap) (tk : Nat), Step own as s.heap as' h' → Keep as s.heap as' h' → Rel g as' σ h' → FrRel g env as' fr h' → Q () { s with heap := h', toks := tk }

set_option tactic.hygienic false in
theorem o_store {x : Str} {i : Nat} {v : V} {val : Value} {Q : Unit → Shared → Prop} (T : At g env as fr σ s) (N : NamesOk c env) (O : Owns c env own) (hl : c.locW? x = some i) (r : RepV as s.heap v val)
    (hQ : FPost g env own as σ s (fr.set i (some v)) Q) : wpAny (model g.prog g.w) A (storeName env x val) Q X s := by
  obtain ⟨k, h1, h2⟩ := locW_get hl
  obtain ⟨k', h3, h4⟩ := N.get h1
  have hk : k' = k := by
    rcases h4 with h4 | h4
    · exact h4.symm
    · rcases h2 with q | q <;> rw [q] at h4 <;> cases h4.1
  subst hk
  have hx : env.kindOf x = some k' := nodup_lookup T.F.nd h3
  have hi : i < fr.length := by rw [T.F.len]; exact (List.getElem?_eq_some_iff.mp h3).1
  rcases h2 with rfl | rfl
  · obtain ⟨m, hm, hv⟩ := T.F.ns
    refine wpAny_storeName_local hx hm (fun h' hns hs => ?_) (hp := by rw [T.F.kind]; rfl)
    have k : ∀ (b : Addr) (o : Obj), b ≠ env.locals → s.heap.get? b = some o → h'.get? b = some o := fun b o hb e => by rw [hs.2 b hb]; exact e
    have x0 : Step [env.locals] as s.heap as h' := ⟨⟨[], by simp, by simp⟩, fun b o e hb _ => k b o (by simpa using hb) e⟩
    have K := T.R.keep x0 T.F.notImm
    have hLb : g.b.get? env.locals = none := by
      cases e : g.b.get? env.locals with
      | none => rfl
      | some o => exact absurd (Heap.lt_size e) (Nat.not_lt.mpr T.F.above)
    obtain ⟨_, R'⟩ := T.R.other k T.F.off hLb (fun o e => T.F.notImm _ (.head _) o e)
    refine hQ as h' _ (x0.grow (by intro a ha; simp at ha; subst ha; exact O.1)) K R' ?_
    refine ⟨T.F.kind, T.F.above, T.F.glob, T.F.blt, by rw [List.length_set]; exact T.F.len, T.F.nd, ⟨_, hns, fun j y w e1 e2 => ?_⟩, fun j y kk e1 e2 => ?_, T.F.off, fun y c' hc' => ⟨(T.F.offc _ _ hc').1, (T.F.offc _ _ hc').2.1, ?_⟩, T.F.apart, T.F.newc⟩
    · by_cases hy : y = x
      · subst hy
        have := nodup_idx T.F.nd h3 e1; subst this
        rw [List.getElem?_set_self hi] at e2
        simp only [Option.some.injEq] at e2; subst e2
        exact ⟨val, by simp, RepV.keep K _ _ r⟩
      · have hij : i ≠ j := fun q => by subst q; rw [h3] at e1; cases e1; exact hy rfl
        rw [List.getElem?_set_ne hij] at e2
        obtain ⟨val', q1, q2⟩ := hv j y w e1 e2
        exact ⟨val', by simp [hy, q1], RepV.keep K _ _ q2⟩
    · obtain ⟨cc, cv, q1, ⟨o, q2, q2'⟩, q3⟩ := T.F.cells j y kk e1 e2
      have hij : i ≠ j := fun q => by subst q; rw [h3] at e1; cases e1; rcases e2 with e2 | e2 <;> cases e2
      refine ⟨cc, cv, q1, ⟨o, k _ _ (T.F.offc _ _ q1).2.1 q2, q2'⟩, fun w e => ?_⟩
      rw [List.getElem?_set_ne hij] at e
      obtain ⟨val', q4, q5⟩ := q3 w e
      exact ⟨val', q4, RepV.keep K _ _ q5⟩
    · obtain ⟨cv, o, e, e'⟩ := (T.F.offc _ _ hc').2.2
      exact ⟨cv, o, k _ _ (T.F.offc _ _ hc').2.1 e, e'⟩
  · obtain ⟨cc, cv, q1, q2, q3⟩ := T.F.cells i x _ h3 (.inl rfl)
    refine wpAny_storeName_cell T.F.kind hx q1 q2 fun h' hc' hs => ?_
    have k : ∀ (b : Addr) (o : Obj), b ≠ cc → s.heap.get? b = some o → h'.get? b = some o := fun b o hb e => by rw [hs.2 b hb]; exact e
    have hni : ∀ o, s.heap.get? cc = some o → ¬ Imm o := fun o e hi => by
      obtain ⟨o', e', hd⟩ := q2
      rw [e] at e'; cases e'
      exact hi.2.2 _ hd
    have hoff := T.F.offc _ _ q1
    have hcb : g.b.get? cc = none := T.F.newc _ _ q1
    obtain ⟨K, R'⟩ := T.R.other k hoff.1 hcb hni
    have hmem : cc ∈ own := O.2.1 _ _ h1 _ q1
    refine hQ as h' s.toks ⟨⟨[], by simp, by simp⟩, fun b o e hb _ => k b o (fun q => hb (q ▸ hmem)) e⟩ K R' ?_
    obtain ⟨m, hm, hv⟩ := T.F.ns
    refine ⟨T.F.kind, T.F.above, T.F.glob, T.F.blt, by rw [List.length_set]; exact T.F.len, T.F.nd, ⟨m, hm.at' fun o e => k _ o (Ne.symm hoff.2.1) e, fun j y w e1 e2 => ?_⟩, fun j y kk e1 e2 => ?_, T.F.off, fun y c' hc' => ⟨(T.F.offc _ _ hc').1, (T.F.offc _ _ hc').2.1, ?_⟩, T.F.apart, T.F.newc⟩
    · have hij : i ≠ j := fun q => by subst q; rw [h3] at e1; cases e1
      rw [List.getElem?_set_ne hij] at e2
      obtain ⟨val', p1, p2⟩ := hv j y w e1 e2
      exact ⟨val', p1, RepV.keep K _ _ p2⟩
    · by_cases hy : y = x
      · subst hy
        have := nodup_idx T.F.nd h3 e1; subst this
        refine ⟨cc, some val, q1, hc', fun w e => ?_⟩
        rw [List.getElem?_set_self hi] at e
        simp only [Option.some.injEq] at e; subst e
        exact ⟨val, rfl, RepV.keep K _ _ r⟩
      · have hij : i ≠ j := fun q => by subst q; rw [h3] at e1; cases e1; exact hy rfl
        obtain ⟨c2, cv2, p1, ⟨o, p2, p2'⟩, p3⟩ := T.F.cells j y kk e1 e2
        have hcc : c2 ≠ cc := fun q => by subst q; exact hy (T.F.apart _ _ _ p1 q1)
        refine ⟨c2, cv2, p1, ⟨o, k _ _ hcc p2, p2'⟩, fun w e => ?_⟩
        rw [List.getElem?_set_ne hij] at e
        obtain ⟨val', p4, p5⟩ := p3 w e
        exact ⟨val', p4, RepV.keep K _ _ p5⟩
    · obtain ⟨cv2, o, e, e'⟩ := (T.F.offc _ _ hc').2.2
      by_cases hcc : c' = cc
      · subst hcc; exact ⟨_, hc'⟩
      · exact ⟨cv2, o, k _ _ hcc e, e'⟩
set_option tactic.hygienic false in
theorem FPost.of {fr' : Fra} {σ1 : Sto} {as' : List Addr} {h' : Heap} {tk : Nat} {Q : Unit → Shared → Prop} (O : ∀ a ∈ own, a ∈ ownOf env) (hQ : FPost g env own as σ' s fr' Q) (x : Step own as s.heap as' h') (K : Keep as s.heap as' h') :
    FPost g env own as' σ' { s with heap := h', toks := tk } fr' Q := fun as2 h2 tk2 x2 K2 R2 F2' =>
  hQ as2 h2 tk2 (x.trans x2 R2.nd fun a ha => F2'.offs a (O a ha)) ⟨fun i a e => K2.pre _ _ (K.pre _ _ e), fun a o e hi => K2.imm _ _ (K.imm _ _ e hi) hi⟩ R2 F2'

set_option tactic.hygienic false in
theorem each_plain {elts : List Expr} {is : List Nat} (h : nameIdxs c elts = some is) : (assignEach elts env).length = is.length ∧ (assignEach elts env).findIdx? (·.1) = none := by
  induction elts generalizing is with
  | nil => rw [nameIdxs] at h; cases h; exact ⟨rfl, rfl⟩
  | cons e r ih =>
    obtain ⟨i, js, h1, h2, rfl⟩ := opt2_inv (show opt2 List.cons ((name? e).bind c.locW?) (nameIdxs c r) = some is from h)
    obtain ⟨x, h3, h4⟩ := bind_inv h1
    obtain ⟨p, rfl⟩ := name?_inv h3
    obtain ⟨a, b⟩ := ih h2
    refine ⟨congrArg Nat.succ a, ?_⟩
    show List.findIdx? _ ((false, assign (.Name x p) env) :: assignEach r env) = none
    rw [List.findIdx?_cons, b]; rfl

set_option tactic.hygienic false in
theorem o_assigns (N : NamesOk c env) (O : Owns c env own) {Q : Unit → Shared → Prop} : ∀ (elts : List Expr) (is : List Nat) (vs : List V) (vals : List Value) (s : Shared) (fr : Fra) (as : List Addr), nameIdxs c elts = some is → At g env as fr σ s → RepVs as s.heap vs vals → vs.length = is.length →
    FPost g env own as σ s ((is.zip vs).foldl (fun f p => f.set p.1 (some p.2)) fr) Q → wpAny (model g.prog g.w) A (assignInOrder ((assignEach elts env).map (·.2)) vals) Q X s
  | [], is, vs, vals, s, fr, as, h, T, r, hl, hQ => by
    rw [nameIdxs] at h; cases h
    cases vs with
    | nil =>
      rw [RepVs] at r; subst r
      exact wpAny_pure (hQ as s.heap s.toks (Step.refl _ _ _) ⟨fun _ _ e => e, fun _ _ e _ => e⟩ T.R T.F)
    | cons a b => simp at hl
  | e :: elts, is, vs, vals, s, fr, as, h, T, r, hl, hQ => by
    obtain ⟨i, js, h1', h2, rfl⟩ := opt2_inv (show opt2 List.cons ((name? e).bind c.locW?) (nameIdxs c elts) = some is from h)
    obtain ⟨x, h3, h1⟩ := bind_inv h1'
    obtain ⟨p, rfl⟩ := name?_inv h3
    cases vs with
    | nil => exact nomatch hl
    | cons v vs =>
      rw [RepVs] at r
      obtain ⟨y, ys, rfl, r1, r2⟩ := r
      show wpAny _ A (do holding ys (assign (.Name x p) env y); assignInOrder ((assignEach elts env).map (·.2)) ys) Q X s
      refine wpAny_bind (wpAny_holding (wpAny_assign_Name (o_store T N O h1 r1 fun as' h' tk st K R' F' => ?_)))
      exact o_assigns N O elts js vs ys _ _ as' h2 ⟨F', R'⟩ (RepVs.keep K _ _ r2) (Nat.succ.inj hl) (FPost.of (σ1 := σ) O.2.2 hQ st K)

theorem o_assign {target : Expr} {tg : List Nat} {one : Bool} {v : V} {val : Value} {fr' : Fra} {Q : Unit → Shared → Prop} (hA : A.handled = g.hd.map .ref) (T : At g env as fr σ s) (N : NamesOk c env) (O : Owns c env own) (ht : tgt c target = some (tg, one)) (r : RepV as s.heap v val)
    (e : bindT tg one v fr = some fr') (hQ : FPost g env own as σ s fr' Q) : wpAny (model g.prog g.w) A (assign target env val) Q X s := by
  unfold tgt at ht
  cases hn : name? target with
  | some x =>
    rw [hn] at ht
    obtain ⟨i, h1, h2⟩ := map_inv ht
    obtain ⟨p, rfl⟩ := name?_inv hn
    cases h2
    have e' : (if i < fr.length then some (fr.set i (some v)) else none) = some fr' := e
    split at e'
    · cases e'
      exact wpAny_assign_Name (o_store T N O h1 r hQ)
    · exact nn e'
  | none =>
    rw [hn] at ht
    cases hv : vw target <;> rw [hv] at ht <;> first | exact nn ht | skip
    rename_i ts
    obtain ⟨is, h1, h2⟩ := map_inv ht
    obtain ⟨kk, tp, rfl⟩ := vw_of hv
    cases h2
    cases v <;> first | exact nn e | skip
    rename_i vs
    have e' : (if vs.length = tg.length ∧ tg.all (· < fr.length) then some ((tg.zip vs).foldl (fun f p => f.set p.1 (some p.2)) fr) else none) = some fr' := e
    split at e'
    · rename_i hc
      cases e'
      rw [RepV] at r
      obtain ⟨a, items, n, rfl, ho, hz, hr⟩ := r
      obtain ⟨q1, q2⟩ := each_plain (env := env) h1
      have hl := (RepVs.f2.mp hr).length
      refine assign_tuple (hand_of hA T.R) ⟨_, ho, rfl, n, rfl⟩ (by rw [q1, ← hc.1]; exact hl) q2 fun h' k => ?_
      have x0 : Step [] as s.heap as h' := Step.of_ext k
      have K := T.R.keep0 x0
      exact o_assigns N O _ _ vs items.toList { s with heap := h' } fr as h1 ⟨T.frame x0, T.R.ext k⟩ (RepVs.keep K _ _ hr) hc.1 (FPost.of (tk := s.toks) (σ1 := σ) O.2.2 hQ (x0.grow (fun _ h => nomatch h)) K)
    · exact nn e'

set_option tactic.hygienic false in
theorem o_go {src : Src} {I : Addr} {i : Nat} {target : Expr} {val : Value} {Q : Unit → Shared → Prop} (it : ItAt src I i as s.heap) (h : Q () s) : wpAny (model g.prog g.w) A (letOwnedTupleGo target (.ref I) val) Q X s := by
  have key : ∃ o n vs, s.heap.get? I = some o ∧ o.cls = .type n ∧ o.data = .fields vs ∧ (["enumerate", "zip", "dict_itemiterator", "dict_reverseitemiterator", "odict_iterator", "itertools.zip_longest", "itertools.pairwise"].contains n) = false := by
    cases src with
    | live l => obtain ⟨a, _, o, e, hc, hd⟩ := it; exact ⟨o, _, _, e, hc, hd, by decide⟩
    | tup vs => obtain ⟨a, _, _, _, _, o, e, hc, hd⟩ := it; exact ⟨o, _, _, e, hc, hd, by decide⟩
    | rng lo hi => exact ⟨_, _, _, it, rfl, rfl, by decide⟩
  obtain ⟨o, n, vs, h1, h2, h3, h4⟩ := key
  have main : wpAny (model g.prog g.w) A (do
    let (.ref r, .ref a) := (Value.ref I, val) | return
    let o ← load r
    match o.cls, o.data with
    | .type n, .fields vs =>
      if ["enumerate", "zip", "dict_itemiterator", "dict_reverseitemiterator", "odict_iterator", "itertools.zip_longest", "itertools.pairwise"].contains n && vs[0]? == some (rawInt a) then
        rule "for.unpacks-the-owned-tuple"
        updateField r 0 .none
    | _, _ => pure () : Sem Unit) Q X s := by
    cases val with
    | ref a =>
      refine wpAny_bind (wpAny_load h1 ?_)
      rw [h2, h3]
      simp only [h4, Bool.false_and, Bool.false_eq_true, if_false]
      exact wpAny_pure h
    | _ => exact wpAny_pure h
  cases target <;> first | exact wpAny_pure h | exact main
end

section
variable {prog : Program} {w : World} {A : Around} {R : Result → Shared → Prop} {s : Shared}
set_option tactic.hygienic false in
theorem for_loop {target it body orelse env} (I : Nat → Shared → Prop)
    (turn : ∀ n s, I n s → wpAny (model prog w) A (pyNext it) (fun r s₁ => match r with
      | none => wpAny (model prog w) A (execs orelse env) (fun f s₃ => R (.ok f) s₃) (notedBy (model prog w) A env fun e s' => R (.error e) s') s₁
      | some v => wpAny (model prog w) A (letOwnedTupleGo target it v) (fun _ s₁ => wpAny (model prog w) A (assign target env v) (fun _ s₂ => wpAny (model prog w) A (execs body env) (fun f s₃ => match f with
          | .next | .cont => ∃ m, m < n ∧ I m s₃
          | .brk => R (.ok .next) s₃
          | .ret v => R (.ok (.ret v)) s₃) (notedBy (model prog w) A env fun e s' => R (.error e) s') s₂) (notedBy (model prog w) A env fun e s' => R (.error e) s') s₁) (notedBy (model prog w) A env fun e s' => R (.error e) s') s₁) (notedBy (model prog w) A env fun e s' => R (.error e) s') s)
    (n : Nat) (h : I n s) : codeAny (model prog w) A (.forLoop target it body orelse env) R s := by
  refine codeAny_loop' rfl I (fun n s hI => ?_) n h
  show wpAny _ _ ((forTurn target it body orelse env).onRaise (fun x => do noteFrame x env; theTreesLotGoes x)) _ _ s
  refine wpAny_noted ?_
  simp only [forTurn]
  refine wpAny_bind (wpAny_standAt (wpAny_bind (wpAny_onRaise (wpAny_mono (turn n s hI) (fun r s₁ h₁ => ?_) fun _ _ h' => wpAny_standAt h'))))
  cases r with
  | none => exact wpAny_pure (.inr ⟨rfl, codeAny_block h₁⟩)
  | some v =>
    refine wpAny_bind (wpAny_mono h₁ (fun _ s₁ h₁ => ?_) fun _ _ h' => h')
    refine wpAny_bind (wpAny_mono h₁ (fun _ s₂ h₂ => wpAny_bind (wpAny_mono h₂ (fun f s₃ h₃ => ?_) fun _ _ h' => h')) fun _ _ h' => h')
    cases f with
    | next => exact wpAny_pure (.inl ⟨rfl, h₃⟩)
    | cont => exact wpAny_pure (.inl ⟨rfl, h₃⟩)
    | brk => exact wpAny_pure h₃
    | ret v => exact wpAny_pure h₃

set_option tactic.hygienic false in
theorem comp_loop {elt target iter : Expr} {ifs : List Expr} {scope : Scope} {pos : Pos} {it acc : Value} {env : Env} (I : Nat → Shared → Prop)
    (turn : ∀ n s, I n s → wpAny (model prog w) A (pyNext it) (fun r s₁ => match r with
      | none => R (.ok .next) s₁
      | some v => wpAny (model prog w) A (letOwnedTupleGo target it v) (fun _ s₁ => wpAny (model prog w) A (assign target env v) (fun _ s₂ =>
          wpAny (model prog w) A (forIn ifs true fun c r => if r = true then do let ok ← isTrue c env (eval c env); pure (ForInStep.yield ok) else pure (ForInStep.yield r)) (fun ok s₃ =>
            if ok = true then wpAny (model prog w) A (eval elt env) (fun x s₄ =>
              wpAny (model prog w) A (call (.builtin "list.append") [acc, x]) (fun _ s₅ => ∃ m, m < n ∧ I m s₅) (notedBy (model prog w) A env fun e s' => R (.error e) s') s₄) (notedBy (model prog w) A env fun e s' => R (.error e) s') s₃
            else ∃ m, m < n ∧ I m s₃) (notedBy (model prog w) A env fun e s' => R (.error e) s') s₂) (notedBy (model prog w) A env fun e s' => R (.error e) s') s₁) (notedBy (model prog w) A env fun e s' => R (.error e) s') s₁) (notedBy (model prog w) A env fun e s' => R (.error e) s') s)
    (n : Nat) (h : I n s) :
    codeAny (model prog w) A (.compLoop (.ListComp elt [⟨target, iter, ifs, 0⟩] scope pos) 0 it acc env) R s := by
  refine codeAny_loop rfl I (fun n s hI => ?_) n h
  show wpAny _ A ((compTurn (.ListComp elt [⟨target, iter, ifs, 0⟩] scope pos) 0 it acc env).onRaise (fun x => do noteFrame x env; theTreesLotGoes x)) _ _ s
  refine wpAny_noted ?_
  rw [compTurn_list]
  refine wpAny_bind (wpAny_standAt (wpAny_bind (wpAny_mono (turn n s hI) (fun r s₁ h₁ => ?_) fun _ _ h' => h')))
  cases r with
  | none => exact wpAny_pure h₁
  | some v =>
    refine wpAny_bind (wpAny_mono h₁ (fun _ s₁ h₁ => ?_) fun _ _ h' => h')
    refine wpAny_bind (wpAny_mono h₁ (fun _ s₂ h₂ => wpAny_bind (wpAny_mono h₂ (fun ok s₃ h₃ => ?_) fun _ _ h' => h')) fun _ _ h' => h')
    cases ok with
    | false => exact wpAny_pure ⟨rfl, h₃⟩
    | true =>
      exact wpAny_bind (wpAny_bind (wpAny_mono h₃ (fun x s₄ h₄ => wpAny_bind (wpAny_mono h₄ (fun _ s₅ h₅ => wpAny_pure (wpAny_pure ⟨rfl, h₅⟩)) fun _ _ h' => h')) fun _ _ h' => h'))
end
end Mine

set_option autoImplicit false
set_option maxRecDepth 100000
set_option linter.unusedVariables false
namespace Mine
open PySem PyProof.Rows PySem.W

noncomputable def srcLe (i : Nat) : Src → Prop
  | .live _ => True
  | .tup vs => i ≤ vs.length
  | .rng lo hi => i ≤ (hi - lo).toNat

set_option tactic.hygienic false in
theorem srcLe.tup {i : Nat} {src : Src} (h : srcLe i src) : ∀ vs, src = .tup vs → i ≤ vs.length := fun vs e => by subst e; exact h
set_option tactic.hygienic false in
theorem srcLe.rng {i : Nat} {src : Src} (h : srcLe i src) : ∀ lo hi, src = .rng lo hi → i ≤ (hi - lo).toNat := fun lo hi e => by subst e; exact h

inductive CRun (src : Src) (tg : List Nat) (one : Bool) (cond elt : Fra → Sto → RE) : Nat → Nat → Fra → Sto → List V → List V → Sto → Prop
  | done {i fr σ acc} : srcAt σ i src = some none → srcLe i src → CRun src tg one cond elt 0 i fr σ acc acc σ
  | step {k i fr σ acc v fr' acc' σ1 ys σ'} : srcAt σ i src = some (some v) → compF tg one cond elt v fr σ acc = .inl (some (fr', acc', σ1)) → CRun src tg one cond elt k (i + 1) fr' σ1 acc' ys σ' →
    CRun src tg one cond elt (k + 1) i fr σ acc ys σ'

section
variable {tg : List Nat} {one : Bool} {cond elt : Fra → Sto → RE}

theorem compF_inv {v : V} {fr fr' : Fra} {σ σ1 : Sto} {acc acc' : List V} (e : compF tg one cond elt v fr σ acc = .inl (some (fr', acc', σ1))) :
    bindT tg one v fr = some fr' ∧ ((∃ τ y, cond fr' σ = .ok (.bool true) τ ∧ elt fr' τ = .ok y σ1 ∧ acc' = acc ++ [y]) ∨ (cond fr' σ = .ok (.bool false) σ1 ∧ acc' = acc)) := by
  unfold compF at e
  split at e
  · cases e
  · rename_i f hb
    split at e
    · rename_i τ hc
      split at e
      · rename_i y τ' he
        cases e
        exact ⟨hb, .inl ⟨τ, y, hc, he, rfl⟩⟩
      · cases e
    · rename_i τ hc
      cases e
      exact ⟨hb, .inr ⟨hc, rfl⟩⟩
    · cases e

set_option tactic.hygienic false in
theorem CRun.len {src : Src} {k i : Nat} {fr : Fra} {σ σ' : Sto} {acc ys : List V} (h : CRun src tg one cond elt k i fr σ acc ys σ') : acc.length ≤ ys.length := by
  induction h with
  | done => exact Nat.le_refl _
  | step _ e _ ih =>
    obtain ⟨_, h | h⟩ := compF_inv e
    · obtain ⟨_, _, _, _, rfl⟩ := h; simp at ih; lia
    · obtain ⟨_, rfl⟩ := h; exact ih

theorem compL_run {l : Nat} : ∀ (n i : Nat) (fr : Fra) (σ σ' : Sto) (acc ys : List V), compL tg one cond elt l n i fr σ acc = .ok ys σ' → ∃ k, CRun (.live l) tg one cond elt k i fr σ acc ys σ'
  | 0, _, _, _, _, _, _, e => by rw [compL] at e; cases e
  | n + 1, i, fr, σ, σ', acc, ys, e => by
    rw [compL] at e
    split at e
    · cases e
    · rename_i xs hx
      split at e
      · rename_i hi
        cases e
        exact ⟨0, .done (by simp [srcAt, hx, hi]) trivial⟩
      · rename_i v hi
        split at e
        · rename_i f a τ hc
          obtain ⟨k, hk⟩ := compL_run n (i + 1) f τ σ' a ys e
          exact ⟨k + 1, .step (by simp [srcAt, hx, hi]) hc hk⟩
        · cases e
        · cases e

theorem compV_run {src : Src} {L : List V} (hs : ∀ σ i, srcAt σ i src = some L[i]?) (hl : ∀ i, i ≤ L.length → srcLe i src) : ∀ (vs : List V) (i : Nat) (fr : Fra) (σ σ' : Sto) (acc ys : List V), L.drop i = vs → i ≤ L.length →
    compV tg one cond elt vs fr σ acc = .ok ys σ' → ∃ k, CRun src tg one cond elt k i fr σ acc ys σ'
  | [], i, fr, σ, σ', acc, ys, hd, hi, e => by
    rw [compV] at e; cases e
    have : L[i]? = none := by rw [List.getElem?_eq_none_iff]; exact List.drop_eq_nil_iff.mp hd
    exact ⟨0, .done (by rw [hs, this]) (hl i hi)⟩
  | v :: vs, i, fr, σ, σ', acc, ys, hd, hi, e => by
    rw [compV] at e
    have hv : L[i]? = some v := by
      have := congrArg (fun l => l[0]?) hd
      simpa using this
    have hlt : i < L.length := (List.getElem?_eq_some_iff.mp hv).1
    split at e
    · rename_i f a τ hc
      obtain ⟨k, hk⟩ := compV_run hs hl vs (i + 1) f τ σ' a ys (by rw [← List.drop_drop, hd]; rfl) hlt e
      exact ⟨k + 1, .step (by rw [hs, hv]) hc hk⟩
    · cases e
    · cases e
end

structure CX (g : Cfg) (env cenv : Env) (s : Shared) (I D : Addr) : Prop where
  IL : I ≠ env.locals
  DL : D ≠ env.locals
  CL : cenv.locals ≠ env.locals
  IC : I ≠ cenv.locals
  DC : D ≠ cenv.locals
  ID : I ≠ D
  ce : ∀ x c, env.cells.lookup x = some c → c ≠ I ∧ c ≠ D ∧ c ≠ cenv.locals
  cc : ∀ x c, cenv.cells.lookup x = some c → c ≠ I ∧ c ≠ D
  Ib : g.b.get? I = none
  Db : g.b.get? D = none
  Cb : g.b.get? cenv.locals = none
  In : s.heap.get? I = none
  Dn : s.heap.get? D = none
  Cn : s.heap.get? cenv.locals = none

structure CI (g : Cfg) (env cenv : Env) (fr frc : Fra) (s : Shared) (as : List Addr) (src : Src) (I D : Addr) (i : Nat) (acc : List V) (as1 : List Addr) (σ : Sto) (h : Heap) : Prop where
  st : Step [env.locals] as s.heap as1 h
  R : Rel g as1 σ h
  F : FrRel g env as1 fr h
  Fc : FrRel g cenv as1 frc h
  it : ItAt src I i as1 h
  acc : ∃ items, h.PlainList D items ∧ RepVs as1 h acc items.toList
  offI : I ∉ as1
  offD : D ∉ as1

section
variable {g : Cfg} {K : Frag} {c0 : CE} {fa : Nat → Option Addr} {call : Nat → List V → Sto → RE} {env cenv : Env} {A : Around} {X : Value → Shared → Prop} {s : Shared} {as : List Addr} {fr frc : Fra} {σ σ' : Sto} {r n : Nat}
  {names : List (Str × NameKind)} {src : Src} {I D : Addr} {i : Nat} {acc : List V} {as1 : List Addr} {h : Heap}

set_option tactic.hygienic false in
theorem plain_notImm {items : Array Value} (p : h.PlainList D items) : ∀ o, h.get? D = some o → ¬ Imm o := fun o e hi => by
  obtain ⟨n, e'⟩ := p; rw [e] at e'; cases e'; rcases hi.1 with q | q <;> simp at q

set_option tactic.hygienic false in
theorem CI.step {frc' : Fra} {as2 : List Addr} {σ2 : Sto} {h2 : Heap} (Z : CX g env cenv s I D) (C : CI g env cenv fr frc s as src I D i acc as1 σ h) (x : Step [cenv.locals] as1 h as2 h2) (R2 : Rel g as2 σ2 h2) (Fc2 : FrRel g cenv as2 frc' h2) :
    CI g env cenv fr frc' s as src I D i acc as2 σ2 h2 := by
  have K2 : Keep as1 h as2 h2 := C.R.keep x C.Fc.notImm
  have F2 : FrRel g env as2 fr h2 := C.F.keep K2 x (by
    intro a ha q; simp at q; subst q
    rcases own_cases ha with q | ⟨y, q⟩
    · exact Z.CL q
    · exact (Z.ce _ _ q).2.2 rfl)
  obtain ⟨items, p1, p2⟩ := C.acc
  have there : ∀ b o, h.get? b = some o → b ∉ as1 → b ∉ as2 := fun b o e hb q => by
    obtain ⟨⟨t, rfl, ht⟩, _⟩ := x
    rcases List.mem_append.mp q with q | q
    · exact hb q
    · rw [ht b q] at e; cases e
  refine ⟨?_, R2, F2, Fc2, C.it.keep K2 fun o e => x.ext I o e (by simpa using Z.IC) C.offI, ⟨items, p1.at fun o e => x.ext D o e (by simpa using Z.DC) C.offD, RepVs.keep K2 _ _ p2⟩, ?_, ?_⟩
  · have a1 : Step [env.locals, cenv.locals] as s.heap as1 h := C.st.grow (by intro a ha; simp at ha; subst ha; simp)
    have a2 : Step [env.locals, cenv.locals] as1 h as2 h2 := x.grow (by intro a ha; simp at ha; subst ha; simp)
    exact (a1.trans a2 R2.nd (by intro a ha; simp at ha; rcases ha with rfl | rfl; exact F2.off; exact Fc2.off)).shrink (by
      intro a ha; simp at ha; rcases ha with rfl | rfl
      · exact .inl (by simp)
      · exact .inr Z.Cn)
  · obtain ⟨o, e, _⟩ := C.it.there; exact there _ _ e C.offI
  · obtain ⟨m, e⟩ := p1; exact there _ _ e C.offD

set_option tactic.hygienic false in
theorem CI.other {h2 : Heap} {d : Addr} {j : Nat} {acc' : List V} (Z : CX g env cenv s I D) (C : CI g env cenv fr frc s as src I D i acc as1 σ h) (hd : d = I ∨ d = D) (k : ∀ (b : Addr) (o : Obj), b ≠ d → h.get? b = some o → h2.get? b = some o)
    (hit : ItAt src I j as1 h2) (hacc : Keep as1 h as1 h2 → ∃ items, h2.PlainList D items ∧ RepVs as1 h2 acc' items.toList) : CI g env cenv fr frc s as src I D j acc' as1 σ h2 := by
  obtain ⟨items, p1, p2⟩ := C.acc
  have hoff : d ∉ as1 := by rcases hd with rfl | rfl; exact C.offI; exact C.offD
  have hb : g.b.get? d = none := by rcases hd with rfl | rfl; exact Z.Ib; exact Z.Db
  have hni : ∀ o, h.get? d = some o → ¬ Imm o := by
    rcases hd with rfl | rfl
    · intro o e; obtain ⟨o', e', q⟩ := C.it.there; rw [e] at e'; cases e'; exact q
    · exact plain_notImm p1
  obtain ⟨K2, R2⟩ := C.R.other k hoff hb hni
  have hL : env.locals ≠ d := by rcases hd with rfl | rfl; exact Ne.symm Z.IL; exact Ne.symm Z.DL
  have hC : cenv.locals ≠ d := by rcases hd with rfl | rfl; exact Ne.symm Z.IC; exact Ne.symm Z.DC
  have hn : s.heap.get? d = none := by rcases hd with rfl | rfl; exact Z.In; exact Z.Dn
  refine ⟨?_, R2, C.F.alter K2 k hL (fun y c q => ?_) (fun a ha => .inl ha), C.Fc.alter K2 k hC (fun y c q => ?_) (fun a ha => .inl ha), hit, hacc K2, C.offI, C.offD⟩
  · have a2 : Step [env.locals, d] as1 h as1 h2 := ⟨⟨[], by simp, by simp⟩, fun b o e hb _ => k b o (by intro q; subst q; simp at hb) e⟩
    have a1 : Step [env.locals, d] as s.heap as1 h := C.st.grow (by intro a ha; simp at ha; subst ha; simp)
    exact (a1.trans a2 R2.nd (by intro a ha; simp at ha; rcases ha with rfl | rfl; exact C.F.off; exact hoff)).shrink (by
      intro a ha; simp at ha; rcases ha with rfl | rfl
      · exact .inl (by simp)
      · exact .inr hn)
  · rcases hd with rfl | rfl
    · exact (Z.ce _ _ q).1
    · exact (Z.ce _ _ q).2.1
  · rcases hd with rfl | rfl
    · exact (Z.cc _ _ q).1
    · exact (Z.cc _ _ q).2

set_option tactic.hygienic false in
theorem tests_false {M : Model} {env : Env} {Q : Bool → Shared → Prop} : ∀ (ifs : List Expr), Q false s →
    wpAny M A (forIn ifs false fun c r => if r = true then do let ok ← isTrue c env (eval c env); pure (ForInStep.yield ok) else pure (ForInStep.yield r)) Q X s
  | [], h => wpAny_pure h
  | c :: ifs, h => by
    rw [List.forIn_cons]
    simp only [Bool.false_eq_true, if_false]
    exact wpAny_bind (wpAny_pure (tests_false ifs h))

set_option tactic.hygienic false in
theorem tests_snd (IT : SndT g c0 call r n) : ∀ (ifs : List Expr) (cs : List E) (s : Shared) (as : List Addr) (σ σ' : Sto) (b : Bool) (Q : Bool → Shared → Prop), mapO (compE n (c0.sub names)) ifs = some cs → NamesOk (c0.sub names) env → Room g A (r + 1) →
    At g env as fr σ s → testL (evTs call cs) fr σ = .ok (.bool b) σ' → BPost g env as fr s b σ' Q →
    wpAny (model g.prog g.w) A (forIn ifs true fun c r => if r = true then do let ok ← isTrue c env (eval c env); pure (ForInStep.yield ok) else pure (ForInStep.yield r)) Q X s
  | [], cs, s, as, σ, σ', b, Q, h, N, hA, T, ev, hQ => by
    rw [mapO] at h; cases h
    rw [evTs, testL] at ev; cases ev
    exact wpAny_pure (hQ as s.heap s.toks (Step.refl _ _ _) T.R T.F)
  | c :: ifs, cs, s, as, σ, σ', b, Q, h, N, hA, T, ev, hQ => by
    obtain ⟨a, cs', h1, h2, rfl⟩ := mapO_cons h
    rw [evTs, testL] at ev
    refine bind_el ev fun u τ e1 e2 => ?_
    rw [List.forIn_cons]
    simp only [if_true]
    split at e2
    · refine wpAny_bind (wpAny_bind (IT names c a h1 env A X s as fr σ τ true _ N hA T e1 fun as1 k1 tk1 st1 R1 F1 => wpAny_pure ?_))
      exact tests_snd IT ifs cs' _ as1 τ σ' b Q h2 N hA ⟨F1, R1⟩ e2 (bpost_of hQ st1 R1 F1)
    · cases e2
      refine wpAny_bind (wpAny_bind (IT names c a h1 env A X s as fr σ _ false _ N hA T e1 fun as1 k1 tk1 st1 R1 F1 => wpAny_pure ?_))
      exact tests_false ifs (hQ as1 k1 tk1 st1 R1 F1)
    · cases e2

inductive CompI (g : Cfg) (env cenv : Env) (fr : Fra) (s : Shared) (as : List Addr) (src : Src) (I D : Addr) (tg : List Nat) (one : Bool) (cd el : Fra → Sto → RE) (ys : List V) (σ' : Sto) : Nat → Shared → Prop
  | mk {k i : Nat} {frc : Fra} {σ : Sto} {acc : List V} {as1 : List Addr} {h : Heap} {tk : Nat} (run : CRun src tg one cd el k i frc σ acc ys σ') (C : CI g env cenv fr frc s as src I D i acc as1 σ h) : CompI g env cenv fr s as src I D tg one cd el ys σ' k { s with heap := h, toks := tk }
theorem comp_turns {elt target iter : Expr} {ifs : List Expr} {scope : Scope} {pos : Pos} {tg : List Nat} {one : Bool} {cs : List E} {x' : E} {ys : List V} {RR : Result → Shared → Prop}
    (IH : SndE g c0 call r n) (IT : SndT g c0 call r n) (Z : CX g env cenv s I D) (N : NamesOk (c0.sub names) cenv) (hA : Room g A (r + 1)) (hnc : ∀ x ∈ names, x.2 ≠ .cell) (hys : ys.length ≤ 16777216)
    (ht : tgt (c0.sub names) target = some (tg, one)) (h2 : mapO (compE n (c0.sub names)) ifs = some cs) (h3 : compE n (c0.sub names) elt = some x') {k : Nat} {h : Heap} {tk : Nat}
    (run : CRun src tg one (testL (evTs call cs)) (evE call x') k i frc σ acc ys σ') (C : CI g env cenv fr frc s as src I D i acc as1 σ h)
    (hR : ∀ frc' i' as2 h1 h' tk', CI g env cenv fr frc' s as src I D i' ys as2 σ' h1 → (∀ (b : Addr) (o : Obj), b ≠ I → h1.get? b = some o → h'.get? b = some o) → RR (.ok .next) { s with heap := h', toks := tk' }) :
    codeAny (model g.prog g.w) A (.compLoop (.ListComp elt [⟨target, iter, ifs, 0⟩] scope pos) 0 (.ref I) (.ref D) cenv) RR { s with heap := h, toks := tk } := by
  refine comp_loop (CompI g env cenv fr s as src I D tg one (testL (evTs call cs)) (evE call x') ys σ') ?_ k ⟨run, C⟩
  rintro k _ ⟨run, C⟩
  cases run with
  | done e hle =>
    exact it_done hA.handled C.R C.it C.offI Z.Ib hle.rng hle.tup e fun h' tk' kk K' R' => hR _ _ _ _ h' tk' C kk
  | step e ec run' =>
    rename_i acc as1 h tk k' v fr' acc' σ1
    refine it_next C.R C.it C.offI Z.Ib e fun val h1 tk1 kk1 K1 R1 it1 r1 => ?_
    have C1 := C.other (acc' := acc) Z (.inl rfl) kk1 it1 fun K => by
      obtain ⟨items, p1, p2⟩ := C.acc
      exact ⟨items, p1.at fun o e => kk1 _ _ (Ne.symm Z.ID) e, RepVs.keep K _ _ p2⟩
    obtain ⟨hb, hc⟩ := compF_inv ec
    refine o_go (s := { s with heap := h1, toks := tk1 }) it1 ?_
    refine o_assign (own := [cenv.locals]) (s := { s with heap := h1, toks := tk1 }) hA.handled ⟨C1.Fc, C1.R⟩ N (owns_loc hnc) ht r1 hb fun as2 h2' tk2 st2 K2 R2 F2 => ?_
    have C2 := C1.step Z st2 R2 F2
    rcases hc with ⟨τ, y, hc1, hc2, rfl⟩ | ⟨hc1, rfl⟩
    · refine tests_snd IT ifs cs { s with heap := h2', toks := tk2 } as2 _ τ true _ h2 N hA ⟨C2.Fc, C2.R⟩ hc1 fun as3 h3' tk3 st3 R3 F3 => ?_
      have C3 := C2.step Z st3 R3 F3
      rw [if_pos rfl]
      refine IH names elt x' h3 cenv A _ { s with heap := h3', toks := tk3 } as3 fr' τ σ1 y _ N hA ⟨C3.Fc, C3.R⟩ hc2 fun val2 as4 h4 tk4 st4 R4 F4 r4 => ?_
      have C4 := C3.step Z st4 R4 F4
      obtain ⟨items, p1, p2⟩ := C4.acc
      have hl := (RepVs.f2.mp p2).length
      have hl2 := run'.len
      rw [List.length_append] at hl2
      have hsz : items.size = acc.length := by rw [hl]; rfl
      refine wpAny_list_append_plain p1 (fun h5 hp5 hs5 => ?_) (by show _ ≤ 2 ^ 24; simp at hl2; lia)
      have k5 : ∀ (b : Addr) (o : Obj), b ≠ D → h4.get? b = some o → h5.get? b = some o := fun b o hb e => hs5.extBut b o hb e
      have kD : Keep as4 h4 as4 h5 := ⟨fun _ _ e => e, fun b o e im => k5 b o (fun q => by subst q; exact plain_notImm p1 o e im) e⟩
      have C5 := C4.other (acc' := acc ++ [y]) Z (.inr rfl) k5 (C4.it.keep kD fun o e => k5 _ _ Z.ID e) fun K => ⟨_, hp5, by
        rw [Array.toList_push]
        exact RepVs.f2.mpr ((RepVs.f2.mp (RepVs.keep K _ _ p2)).append (.cons (RepV.keep K _ _ r4) .nil))⟩
      exact ⟨k', Nat.lt_succ_self _, run', C5⟩
    · refine tests_snd IT ifs cs { s with heap := h2', toks := tk2 } as2 _ σ1 false _ h2 N hA ⟨C2.Fc, C2.R⟩ hc1 fun as3 h3' tk3 st3 R3 F3 => ?_
      have C3 := C2.step Z st3 R3 F3
      rw [if_neg Bool.false_ne_true]
      exact ⟨k', Nat.lt_succ_self _, run', C3⟩
end
end Mine

set_option autoImplicit false
set_option maxRecDepth 100000
set_option linter.unusedVariables false
namespace Mine
open PySem PyProof.Rows PySem.W

noncomputable def clOf (env : Env) : List (Str × NameKind) → List (Str × Addr) → List (Str × Addr)
  | [], acc => acc
  | p :: r, acc => clOf env r (if p.2 == .free then (match env.cells.lookup p.1 with | some c => (p.1, c) :: acc | none => acc) else acc)

noncomputable def clStep (env : Env) (x : Str × NameKind) (r : List (Str × Addr)) : Sem (ForInStep (List (Str × Addr))) :=
  if (x.2 == .free) = true then do let a ← cellOf env x.1; pure (ForInStep.yield ((x.1, a) :: r)) else pure (ForInStep.yield r)

set_option tactic.hygienic false in
theorem clos_loop {env : Env} : ∀ (names : List (Str × NameKind)) (acc : List (Str × Addr)), (∀ p ∈ names, p.2 = .free → ∃ c, env.cells.lookup p.1 = some c) →
    (forIn names acc (clStep env) : Sem (List (Str × Addr))) = pure (clOf env names acc)
  | [], acc, _ => rfl
  | p :: r, acc, h => by
    rw [List.forIn_cons]
    by_cases hp : (p.2 == NameKind.free) = true
    · obtain ⟨c, hc⟩ := h p (.head _) (eq_of_beq hp)
      have e1 : cellOf env p.1 = pure c := by unfold cellOf; rw [hc]
      have e2 : clStep env p acc = pure (ForInStep.yield ((p.1, c) :: acc)) := by
        unfold clStep; rw [if_pos hp, e1]; rfl
      rw [e2]
      have := clos_loop r ((p.1, c) :: acc) fun q hq => h q (.tail _ hq)
      rw [clOf, if_pos hp, hc]
      exact this
    · have e2 : clStep env p acc = pure (ForInStep.yield acc) := by
        unfold clStep; rw [if_neg hp]
      rw [e2]
      have := clos_loop r acc fun q hq => h q (.tail _ hq)
      rw [clOf, if_neg hp]
      exact this

set_option tactic.hygienic false in
theorem clos_eq {env : Env} {sc : Scope} (h : ∀ p ∈ sc.names, p.2 = .free → ∃ c, env.cells.lookup p.1 = some c) : closureFor sc env = pure (clOf env sc.names []) := by
  have := clos_loop sc.names [] h
  unfold closureFor
  show (forIn sc.names ([] : List (Str × Addr)) _ >>= fun cs => pure cs) = _
  exact (congrArg (· >>= fun cs => (pure cs : Sem (List (Str × Addr)))) this)

theorem clOf_sound {env : Env} : ∀ (names : List (Str × NameKind)) (acc : List (Str × Addr)), (∀ x c, acc.lookup x = some c → env.cells.lookup x = some c) → ∀ x c, (clOf env names acc).lookup x = some c → env.cells.lookup x = some c
  | [], acc, h, x, c, e => h x c e
  | p :: r, acc, h, x, c, e => by
    rw [clOf] at e
    refine clOf_sound r _ (fun y d e' => ?_) x c e
    split at e'
    · split at e'
      · rename_i c' hc
        rw [List.lookup_cons] at e'
        split at e'
        · rename_i q; cases e'; rw [eq_of_beq q]; exact hc
        · exact h y d e'
      · exact h y d e'
    · exact h y d e'

theorem clOf_there {env : Env} : ∀ (names : List (Str × NameKind)) (acc : List (Str × Addr)) (x : Str), (∀ p ∈ names, p.2 = .free → ∃ c, env.cells.lookup p.1 = some c) → ((x, NameKind.free) ∈ names ∨ ∃ c, acc.lookup x = some c) → ∃ c, (clOf env names acc).lookup x = some c
  | [], acc, x, _, h => h.elim (fun q => by cases q) id
  | p :: r, acc, x, hn, h => by
    rw [clOf]
    refine clOf_there r _ x (fun q hq => hn q (.tail _ hq)) ?_
    rcases h with h | ⟨c, hc⟩
    · rcases List.mem_cons.mp h with q | q
      · subst q
        obtain ⟨c, hc⟩ := hn _ (.head _) rfl
        refine .inr ⟨c, ?_⟩
        have hc' : env.cells.lookup x = some c := hc
        have hff : (NameKind.free == NameKind.free) = true := rfl
        simp only [hff, if_true, hc', List.lookup_cons]; simp
      · exact .inl q
    · refine .inr ?_
      split
      · split
        · rename_i c' _
          rw [List.lookup_cons]
          split
          · exact ⟨_, rfl⟩
          · exact ⟨c, hc⟩
        · exact ⟨c, hc⟩
      · exact ⟨c, hc⟩

theorem locC_get {c : CE} {x : Str} {i : Nat} (e : c.locC? x = some i) : ∃ k, c.names[i]? = some (x, k) ∧ (k = .cell ∨ k = .free) := by
  unfold CE.locC? at e
  split at e
  · rename_i h; obtain ⟨j, h1, h2⟩ := lookup_get h; rw [h1] at e; cases e; exact ⟨_, h2, .inl rfl⟩
  · rename_i h; obtain ⟨j, h1, h2⟩ := lookup_get h; rw [h1] at e; cases e; exact ⟨_, h2, .inr rfl⟩
  · cases e

set_option tactic.hygienic false in
theorem mapO_get {α β : Type} {f : α → Option β} : ∀ {l : List α} {l' : List β}, mapO f l = some l' → l.length = l'.length ∧ ∀ (i : Nat) (a : α), l[i]? = some a → ∃ b, l'[i]? = some b ∧ f a = some b
  | [], l', h => by rw [mapO] at h; cases h; exact ⟨rfl, fun i a e => by simp at e⟩
  | x :: r, l', h => by
    obtain ⟨y, ys, h1, h2, rfl⟩ := mapO_cons h
    obtain ⟨q1, q2⟩ := mapO_get h2
    refine ⟨by simp [q1], fun i a e => ?_⟩
    cases i with
    | zero => simp at e; subst e; exact ⟨y, rfl, h1⟩
    | succ i => simp at e; simpa using q2 i a e

section
variable {g : Cfg} {c : CE} {env : Env} {s : Shared} {as : List Addr} {fr : Fra} {σ : Sto} {frm : List (Option Nat)} {sc : Scope}

set_option tactic.hygienic false in
theorem frm_free (N : NamesOk c env) (F : FrRel g env as fr s.heap) (hf : frmOf c sc = some frm) : ∀ p ∈ sc.names, p.2 = .free → ∃ a, env.cells.lookup p.1 = some a := fun p hp hk => by
  obtain ⟨i, hi, rfl⟩ := List.getElem_of_mem hp
  obtain ⟨o, h1, h2⟩ := (mapO_get hf).2 i _ (List.getElem?_eq_getElem hi)
  unfold frm1 at h2
  rw [hk] at h2
  obtain ⟨j, h3, _⟩ := Option.map_eq_some_iff.mp h2
  obtain ⟨k, h4, h5⟩ := locC_get h3
  obtain ⟨k', h6, h7⟩ := N.get h4
  have hk' : k' = .cell ∨ k' = .free := by
    rcases h7 with q | q
    · subst q; exact h5
    · exact .inl q.2
  obtain ⟨a, cv, e, _⟩ := F.cells j _ k' h6 hk'
  exact ⟨a, e⟩

set_option tactic.hygienic false in
theorem frm_noCell (hf : frmOf c sc = some frm) : ∀ x ∈ sc.names, x.2 ≠ .cell := fun p hp hk => by
  obtain ⟨i, hi, rfl⟩ := List.getElem_of_mem hp
  obtain ⟨o, h1, h2⟩ := (mapO_get hf).2 i _ (List.getElem?_eq_getElem hi)
  unfold frm1 at h2
  rw [hk] at h2; cases h2

set_option tactic.hygienic false in
theorem scOk_iff (h : scOk sc = true) : sc.kind = .function ∧ (sc.names.map (·.1)).Nodup := by
  unfold scOk at h
  simp only [Bool.and_eq_true, decide_eq_true_eq] at h
  refine ⟨?_, h.2⟩
  have := h.1
  split at this
  · assumption
  · cases this

theorem relabel_names {env : Env} : ∀ names : List (Str × NameKind), F2 (fun (p q : Str × NameKind) => p.1 = q.1 ∧ (p.2 = q.2 ∨ (p.2 = .free ∧ q.2 = .cell))) names
    (names.map fun (n, k) => if (k == NameKind.free && env.scope.kind == .function && env.kindOf n == some .cell) = true then (n, NameKind.cell) else (n, k))
  | [] => .nil
  | (n, k) :: r => by
    rw [List.map_cons]
    refine .cons ?_ (relabel_names r)
    dsimp only
    split
    · rename_i h
      simp only [Bool.and_eq_true] at h
      exact ⟨rfl, .inr ⟨eq_of_beq h.1.1, rfl⟩⟩
    · exact ⟨rfl, .inl rfl⟩

set_option tactic.hygienic false in
theorem comp_frame {C : Addr} {h' : Heap} {m : Str → Option Value} (T : At g env as fr σ s) (N : NamesOk c env) (hf : frmOf c sc = some frm) (ho : scOk sc = true) (hC : s.heap.get? C = none) (hCb : g.b.objs.size ≤ C) (k : ∀ (a : Addr) (o : Obj), s.heap.get? a = some o → h'.get? a = some o) (hns : h'.Ns C m) :
    FrRel g (compEnvC sc (clOf env sc.names []) C env) as (subFr fr frm) h' ∧ NamesOk (c.sub sc.names) (compEnvC sc (clOf env sc.names []) C env) := by
  obtain ⟨hk, hnd⟩ := scOk_iff ho
  have hl := (mapO_get hf).1
  have free := frm_free N T.F hf
  have hcl : ∀ x a, (clOf env sc.names []).lookup x = some a → env.cells.lookup x = some a := clOf_sound sc.names [] (fun x a e => by cases e)
  have K : Keep as s.heap as h' := ⟨fun _ _ e => e, fun a o e _ => k a o e⟩
  have hN : NamesOk (c.sub sc.names) (compEnvC sc (clOf env sc.names []) C env) := ⟨relabel_names sc.names, fun a e => N.code a e⟩
  have hN' := hN.map
  have inv : ∀ (i : Nat) (x : Str) (kk : NameKind), (compEnvC sc (clOf env sc.names []) C env).scope.names[i]? = some (x, kk) → ∃ k0, sc.names[i]? = some (x, k0) ∧ (k0 = kk ∨ (k0 = .free ∧ kk = .cell)) := fun i x kk e => by
    have hlen := F2.length hN.f2
    have hi : i < sc.names.length := by
      have h1 := (List.getElem?_eq_some_iff.mp e).1
      have h2 : sc.names.length = (compEnvC sc (clOf env sc.names []) C env).scope.names.length := hlen
      lia
    obtain ⟨q, h1, h2, h3⟩ := F2.get hN.f2 (i := i) (a := sc.names[i]) (List.getElem?_eq_getElem hi)
    rw [e] at h1; cases h1
    refine ⟨sc.names[i].2, ?_, h3⟩
    rw [List.getElem?_eq_getElem hi]
    exact congrArg some (Prod.ext h2 rfl)
  refine ⟨⟨hk, hCb, T.F.glob, T.F.blt, ?_, ?_, ⟨m, hns, fun i x v e1 e2 => ?_⟩, fun i x kk e1 e2 => ?_, fun q => ?_, fun x a e => ⟨(T.F.offc _ _ (hcl _ _ e)).1, fun q => ?_, ?_⟩, fun x y a e1 e2 => T.F.apart x y a (hcl _ _ e1) (hcl _ _ e2), fun x a e => T.F.newc x a (hcl _ _ e)⟩, hN⟩
  · show (subFr fr frm).length = _
    rw [show (compEnvC sc (clOf env sc.names []) C env).scope.names.length = sc.names.length from (F2.length hN.f2).symm]
    simp [subFr, hl]
  · rw [← hN']; exact hnd
  · obtain ⟨k0, q1, q2⟩ := inv i x _ e1
    have : k0 = .local := by
      rcases q2 with q | q
      · exact q
      · cases q.2
    subst this
    obtain ⟨o, h1, h2⟩ := (mapO_get hf).2 i _ q1
    unfold frm1 at h2; cases h2
    unfold subFr at e2
    rw [List.getElem?_map, h1] at e2
    simp at e2
  · obtain ⟨k0, q1, q2⟩ := inv i x _ e1
    have hk0 : k0 = .free := by
      rcases q2 with q | q
      · subst q
        rcases e2 with e2 | e2
        · exact absurd e2 (frm_noCell hf _ (List.mem_of_getElem? q1))
        · exact e2
      · exact q.1
    subst hk0
    obtain ⟨o, h1, h2⟩ := (mapO_get hf).2 i _ q1
    unfold frm1 at h2
    obtain ⟨j, h3, rfl⟩ := Option.map_eq_some_iff.mp h2
    obtain ⟨k1, h4, h5⟩ := locC_get h3
    obtain ⟨k', h6, h7⟩ := N.get h4
    have hk' : k' = .cell ∨ k' = .free := by
      rcases h7 with q | q
      · subst q; exact h5
      · exact .inl q.2
    obtain ⟨a, cv, p1, ⟨ob, p2, p2'⟩, p3⟩ := T.F.cells j _ k' h6 hk'
    obtain ⟨a', ha'⟩ := clOf_there sc.names [] x free (.inl (List.mem_of_getElem? q1))
    have := hcl _ _ ha'
    rw [p1] at this; cases this
    refine ⟨a, cv, ha', ⟨ob, k _ _ p2, p2'⟩, fun v e => ?_⟩
    unfold subFr at e
    rw [List.getElem?_map, h1] at e
    simp only [Option.map_some, Option.some.injEq] at e
    have e' : fr[j]? = some (some v) := by
      cases q : fr[j]? with
      | none => rw [q] at e; cases e
      | some w => rw [q] at e; exact congrArg some e
    obtain ⟨val, p4, p5⟩ := p3 v e'
    exact ⟨val, p4, RepV.keep K _ _ p5⟩
  · obtain ⟨ob, e, _⟩ := T.R.there q
    have e' : s.heap.get? C = some ob := e
    rw [hC] at e'; cases e'
  · obtain ⟨cv, o, e', _⟩ := (T.F.offc _ _ (hcl _ _ e)).2.2
    have q' : a = C := q
    rw [q', hC] at e'; cases e'
  · obtain ⟨cv, o, e', e''⟩ := (T.F.offc _ _ (hcl _ _ e)).2.2
    exact ⟨cv, o, k _ _ e', e''⟩
end
end Mine

set_option autoImplicit false
set_option maxRecDepth 100000
set_option linter.unusedVariables false
namespace Mine
open PySem PyProof.Rows PySem.W

section
variable {g : Cfg} {K : Frag} {c0 : CE} {fa : Nat → Option Addr} {call : Nat → List V → Sto → RE} {env : Env} {A : Around} {X : Value → Shared → Prop} {s : Shared} {as : List Addr} {fr : Fra} {σ σ' : Sto} {r n : Nat}
  {names : List (Str × NameKind)} {Q : Value → Shared → Prop}

set_option tactic.hygienic false in
theorem it_self {src : Src} {I : Addr} {i : Nat} (R : Rel g as σ s.heap) (it : ItAt src I i as s.heap) (hQ : Q (.ref I) s) : wpAny (model g.prog g.w) A (pyIter (.ref I)) Q X s := by
  cases src with
  | live l =>
    obtain ⟨a, e1, e2⟩ := it
    exact wpAny_pyIter_listiter e2 hQ
  | tup vs =>
    obtain ⟨a, items, n, e1, e2, e3⟩ := it
    exact wpAny_pyIter_tupleiter e3 hQ
  | rng lo hi => exact wpAny_pyIter_rangeiter it hQ

set_option tactic.hygienic false in
theorem fold_set {iter : Expr} {a : E} {c : CE} (h : compE n c iter = some a) : ∀ x, foldedSetIterable iter env x = pure x := by
  intro x
  have hk := comp_kind h
  cases iter <;> first | rfl | exact ft hk

set_option tactic.hygienic false in
theorem comp_core {elt target iter : Expr} {ifs : List Expr} {scope : Scope} {pos pos' : Pos} {use : Option (Value → Sem Unit)} {tg : List Nat} {one : Bool} {cs : List E} {x' it' : E} {ys : List V} {frm : List (Option Nat)} {v : V} {src : Src} {τ : Sto} {k : Nat}
    (IH : SndE g c0 call r n) (IT : SndT g c0 call r n) (N : NamesOk (c0.sub names) env) (hA : Room g A (r + 1)) (T : At g env as fr σ s)
    (h1 : compE n (c0.sub names) iter = some it') (ht : tgt (c0.sub scope.names) target = some (tg, one)) (h2 : mapO (compE n (c0.sub scope.names)) ifs = some cs) (h3 : compE n (c0.sub scope.names) elt = some x')
    (hf : frmOf (c0.sub names) scope = some frm) (ho : scOk scope = true) (e1 : evE call it' fr σ = .ok v τ) (hs : srcOf v = some src) (hl : ∀ l, src = .live l → ∃ xs, getL τ l = some xs)
    (run : CRun src tg one (testL (evTs call cs)) (evE call x') k 0 (subFr fr frm) τ [] ys σ') (hys : ys.length ≤ 16777216)
    (fin : ∀ as' h' tk C D m, Step [env.locals] as s.heap (as' ++ [D]) h' → Rel g (as' ++ [D]) (σ' ++ [.lst ys]) h' → FrRel g env (as' ++ [D]) fr h' → as'.length = σ'.length → h'.Ns C m → C ∉ (as' ++ [D]) → C ≠ env.locals →
      (∀ x c, env.cells.lookup x = some c → c ≠ C) → g.b.get? C = none → s.heap.get? C = none → compPost (model g.prog g.w) A X use Q (.ref D) C (.ok .next) { s with heap := h', toks := tk }) :
    wpAny (model g.prog g.w) A (comprehension (.ListComp elt [⟨target, iter, ifs, 0⟩] scope pos) scope env pos' (newList []) false (eval iter env) use) Q X s := by
  obtain ⟨hk, hnd⟩ := scOk_iff ho
  have hclos := clos_eq (frm_free N T.F hf)
  refine wpAny_comprehension_free (gs := []) rfl (fold_set h1) hclos hk (fun x hx hx2 => ?_) ?_
  · obtain ⟨i, hi, rfl⟩ := List.getElem_of_mem hx
    refine nodup_lookup hnd (i := i) ?_
    rw [List.getElem?_eq_getElem hi]
    exact congrArg some (Prod.ext rfl hx2)
  refine IH names iter it' h1 env A X s as fr σ τ v _ N hA T e1 fun x as1 k1 tk1 st1 R1 F1 r1 => ?_
  have T1 : At g env as1 fr τ { s with heap := k1, toks := tk1 } := ⟨F1, R1⟩
  refine it_iter T1 r1 hs hl fun o T2 it0 => ?_
  refine wpAny_newObj_type (wpAny_newFunctionEnv (frm_noCell hf) (by simp) (fun h' hns hsb => ?_) hk)
  dsimp only at hns hsb ⊢
  generalize hH2 : (k1.push o).push { cls := .type "list", dict := none, data := .seq ([] : List Value).toArray } = H2 at hns hsb ⊢
  have sz1 : (k1.push o).objs.size = k1.objs.size + 1 := Heap.size_push ..
  have sz2 : H2.objs.size = k1.objs.size + 2 := by rw [← hH2, Heap.size_push, sz1]
  have kk : ∀ (b : Addr) (ob : Obj), k1.get? b = some ob → h'.get? b = some ob := fun b ob e =>
    hsb.extBut b ob (Nat.ne_of_lt (by have := Heap.lt_size e; rw [sz2]; exact Nat.lt_of_lt_of_le this (by lia))) (Heap.get?_push_of_some _ (hH2 ▸ Heap.get?_push_of_some _ (Heap.get?_push_of_some _ e)))
  have kI : ∀ ob, (k1.push o).get? k1.objs.size = some ob → h'.get? k1.objs.size = some ob := fun ob e =>
    hsb.extBut _ ob (by rw [sz2]; exact Nat.ne_of_lt (by lia)) (Heap.get?_push_of_some _ (hH2 ▸ Heap.get?_push_of_some _ e))
  have hD : h'.get? (k1.push o).objs.size = some { cls := .type "list", dict := none, data := .seq ([] : List Value).toArray } :=
    hsb.extBut _ _ (by rw [sz1, sz2]; exact Nat.ne_of_lt (by lia)) (Heap.get?_push_of_some _ (hH2 ▸ Heap.get?_push_size _ rfl))
  have freshK : ∀ b : Addr, k1.objs.size ≤ b → k1.get? b = none := fun b hb => by
    cases e : k1.get? b with
    | none => rfl
    | some ob => exact absurd (Heap.lt_size e) (Nat.not_lt.mpr hb)
  have fI := freshK k1.objs.size (Nat.le_refl _)
  have fD := freshK (k1.push o).objs.size (by rw [sz1]; exact Nat.le_succ _)
  have fC := freshK H2.objs.size (by rw [sz2]; exact Nat.le_add_right _ _)
  have bnone : ∀ b, k1.get? b = none → g.b.get? b = none := fun b hb => by
    cases e : g.b.get? b with
    | none => rfl
    | some ob => have := R1.base _ _ e; rw [hb] at this; cases this
  have Lne : ∀ b, k1.get? b = none → b ≠ env.locals := fun b hb q => by subst q; obtain ⟨ob, e⟩ := F1.there; rw [hb] at e; cases e
  have cne : ∀ b, k1.get? b = none → ∀ y c, env.cells.lookup y = some c → c ≠ b := fun b hb y c hc q => by
    subst q; obtain ⟨cv, ob, e, _⟩ := (F1.offc _ _ hc).2.2; rw [hb] at e; cases e
  have nin : ∀ b, k1.get? b = none → b ∉ as1 := fun b hb q => by obtain ⟨ob, e, _⟩ := R1.there q; rw [hb] at e; cases e
  have hCb : g.b.objs.size ≤ H2.objs.size := by
    obtain ⟨ob, e⟩ := F1.there
    have h4 := Heap.lt_size e
    have h5 := F1.above
    rw [sz2]
    exact Nat.le_trans h5 (Nat.le_trans (Nat.le_of_lt h4) (Nat.le_add_right _ _))
  obtain ⟨Fc, Nc⟩ := comp_frame (s := { s with heap := k1, toks := tk1 }) T1 N hf ho fC hCb kk hns
  have hcl : ∀ x a, (clOf env scope.names []).lookup x = some a → env.cells.lookup x = some a := clOf_sound scope.names [] (fun x a e => by cases e)
  have Z : CX g env (compEnvC scope (clOf env scope.names []) H2.objs.size env) { s with heap := k1, toks := tk1 } k1.objs.size (k1.push o).objs.size :=
    ⟨Lne _ fI, Lne _ fD, Lne _ fC, by show _ ≠ H2.objs.size; rw [sz2]; exact Nat.ne_of_lt (by lia), by show _ ≠ H2.objs.size; rw [sz1, sz2]; exact Nat.ne_of_lt (by lia), by rw [sz1]; exact Nat.ne_of_lt (Nat.lt_succ_self _),
     fun y c hc => ⟨cne _ fI y c hc, cne _ fD y c hc, cne _ fC y c hc⟩, fun y c hc => ⟨cne _ fI y c (hcl _ _ hc), cne _ fD y c (hcl _ _ hc)⟩, bnone _ fI, bnone _ fD, bnone _ fC, fI, fD, fC⟩
  have x0 : Step [] as1 k1 as1 h' := Step.of_ext kk
  have K0 := R1.keep0 x0
  have C0 : CI g env (compEnvC scope (clOf env scope.names []) H2.objs.size env) fr (subFr fr frm) { s with heap := k1, toks := tk1 } as1 src k1.objs.size (k1.push o).objs.size 0 [] as1 τ h' :=
    ⟨x0.grow (by simp), R1.ext kk, T1.frame x0, Fc, it0.keep ⟨fun _ _ e => e, fun b ob e im => by
      by_cases hb : b = k1.objs.size
      · subst hb; exact kI ob e
      · have : k1.get? b = some ob := by
          have hlt := Heap.lt_size e
          rw [sz1] at hlt
          have hlt' : b < k1.objs.size := Nat.lt_of_le_of_ne (Nat.le_of_lt_succ hlt) hb
          cases e' : k1.get? b with
          | some ob' => have := keeps_push k1 o b ob' e'; rw [e] at this; cases this; rfl
          | none => rw [Heap.get?_push_ne _ _ _ (Nat.ne_of_lt hlt')] at e; rw [e] at e'; cases e'
        exact kk b ob this⟩ kI, ⟨_, ⟨0, hD⟩, by rw [RepVs]⟩, nin _ fI, nin _ fD⟩
  have main : codeAny (model g.prog g.w) A (.compLoop (.ListComp elt [⟨target, iter, ifs, 0⟩] scope pos) 0 (.ref k1.objs.size) (.ref (k1.push o).objs.size) (compEnvC scope (clOf env scope.names []) H2.objs.size env))
      (compPost (model g.prog g.w) A X use Q (.ref (k1.push o).objs.size) H2.objs.size) { s with heap := h', toks := tk1 } := by
    refine comp_turns (s := { s with heap := k1, toks := tk1 }) IH IT Z Nc hA (frm_noCell hf) hys ht h2 h3 run C0 fun frc' i' as2 h3' h4' tk4 C kk4 => ?_
    have hth := C.it.there
    have hni : ∀ ob, h3'.get? k1.objs.size = some ob → ¬ Imm ob := fun ob e => by obtain ⟨o', e', q⟩ := hth; rw [e] at e'; cases e'; exact q
    obtain ⟨K4, R4⟩ := C.R.other kk4 C.offI Z.Ib hni
    have F4 := C.F.alter K4 kk4 (Ne.symm Z.IL) (fun y c q => (Z.ce _ _ q).1) (fun a ha => .inl ha)
    obtain ⟨items, p1, p2⟩ := C.acc
    have p1' := p1.at fun ob e => kk4 _ ob (Ne.symm Z.ID) e
    have p2' := RepVs.keep K4 _ _ p2
    have S4 : Step [env.locals] as1 k1 as2 h4' := by
      have a2 : Step [env.locals, k1.objs.size] as2 h3' as2 h4' := ⟨⟨[], by simp, by simp⟩, fun b ob e hb _ => kk4 b ob (by intro q; subst q; simp at hb) e⟩
      have a1 : Step [env.locals, k1.objs.size] as1 k1 as2 h3' := C.st.grow (by intro a ha; simp at ha; subst ha; simp)
      exact (a1.trans a2 R4.nd (by intro a ha; simp at ha; rcases ha with rfl | rfl; exact F4.off; exact C.offI)).shrink (by
        intro a ha; simp at ha; rcases ha with rfl | rfl
        · exact .inl (by simp)
        · exact .inr fI)
    obtain ⟨S5, R5, F5⟩ := T1.pushN (a := (k1.push o).objs.size) (o := .lst ys) S4 R4 F4 fD C.offD Z.Db Z.DL (fun y c q => (Z.ce _ _ q).2.1) (plain_notImm p1') ⟨items, p1', RepVs.keep ⟨fun j cc e => by rw [List.getElem?_append_left (List.getElem?_eq_some_iff.mp e).1]; exact e, fun _ _ e _ => e⟩ _ _ p2', hys⟩
    have hCns : ∃ m, h4'.Ns H2.objs.size m := by
      obtain ⟨m, hm, _⟩ := C.Fc.ns
      exact ⟨m, hm.at' fun ob e => kk4 _ ob (Ne.symm Z.IC) e⟩
    obtain ⟨m, hm⟩ := hCns
    refine fin as2 h4' tk4 H2.objs.size (k1.push o).objs.size m (step_trans st1 S5 R5 F5) R5 F5 R4.len hm ?_ Z.CL (fun y c q => (Z.ce _ _ q).2.2) Z.Cb ?_
    · intro q
      rcases List.mem_append.mp q with q | q
      · exact C.Fc.off q
      · exact Z.DC (List.mem_singleton.mp q).symm
    · cases e : s.heap.get? H2.objs.size with
      | none => rfl
      | some ob =>
        have := st1.ext _ _ e (by intro q; exact Z.CL (List.mem_singleton.mp q)) (fun q => nin _ fC (st1.mem q))
        rw [fC] at this; cases this
  exact codeAny_compStart_list main (it_self (s := { s with heap := h', toks := tk1 }) C0.R C0.it main)
theorem comp_inv {tg : List Nat} {one : Bool} {it' x' : E} {cs : List E} {frm : List (Option Nat)} {v : V} (ev : evE call (.comp tg one it' cs x' frm) fr σ = .ok v σ') :
    ∃ u τ src k ys σ2, evE call it' fr σ = .ok u τ ∧ srcOf u = some src ∧ (∀ l, src = .live l → ∃ xs, getL τ l = some xs) ∧ CRun src tg one (testL (evTs call cs)) (evE call x') k 0 (subFr fr frm) τ [] ys σ2 ∧ newL ys σ2 = .ok v σ' := by
  refine bind_el ev fun u τ e1 e2 => ?_
  cases u with
  | ref l =>
    simp only at e2
    split at e2
    · rename_i xs hx
      refine sbind_el e2 fun ys σ2 e3 e4 => ?_
      obtain ⟨k, hk⟩ := compL_run _ _ _ _ _ _ _ e3
      exact ⟨_, τ, .live l, k, ys, σ2, e1, rfl, fun l' q => by cases q; exact ⟨xs, hx⟩, hk, e4⟩
    · cases e2
  | tup vs =>
    simp only at e2
    refine sbind_el e2 fun ys σ2 e3 e4 => ?_
    obtain ⟨k, hk⟩ := compV_run (src := .tup vs) (L := vs) (fun _ _ => rfl) (fun i h => h) vs 0 _ _ _ _ _ rfl (Nat.zero_le _) e3
    exact ⟨_, τ, .tup vs, k, ys, σ2, e1, rfl, (fun l' q => (nomatch q)), hk, e4⟩
  | rng lo hi =>
    simp only at e2
    refine sbind_el e2 fun ys σ2 e3 e4 => ?_
    obtain ⟨k, hk⟩ := compV_run (src := .rng lo hi) (L := rngL lo hi) (fun _ _ => rfl) (fun i h => by show i ≤ _; simpa [rngL] using h) (rngL lo hi) 0 _ _ _ _ _ rfl (Nat.zero_le _) e3
    exact ⟨_, τ, .rng lo hi, k, ys, σ2, e1, rfl, (fun l' q => (nomatch q)), hk, e4⟩
  | _ => cases e2

set_option tactic.hygienic false in
theorem n_comp {elt target iter : Expr} {ifs : List Expr} {scope : Scope} {p : Pos} {tg : List Nat} {one : Bool} {cs : List E} {x' it' : E} {frm : List (Option Nat)} (IH : SndE g c0 call r n) (IT : SndT g c0 call r n)
    (h1 : compE n (c0.sub names) iter = some it') (ht : tgt (c0.sub scope.names) target = some (tg, one)) (h2 : mapO (compE n (c0.sub scope.names)) ifs = some cs) (h3 : compE n (c0.sub scope.names) elt = some x')
    (hf : frmOf (c0.sub names) scope = some frm) (ho : scOk scope = true) : NodeE g c0 call r names (.ListComp elt [⟨target, iter, ifs, 0⟩] scope p) (.comp tg one it' cs x' frm) := fun env A X s as fr σ σ' v Q N hA T ev hQ => by
  obtain ⟨u, τ, src, k, ys, σ2, e1, e2, e3, e4, e5⟩ := comp_inv ev
  have hlen := newL_len e5
  unfold newL at e5
  rw [if_pos hlen] at e5
  cases e5
  rw [eval_ListComp]
  refine comp_core (use := none) IH IT N hA T h1 ht h2 h3 hf ho e1 e2 e3 e4 hlen fun as' h' tk C D m st R' F' hl hm hC hCL hcc hCb hCn => ⟨m, hm, fun h2 hs2 => ?_⟩
  have kk : ∀ (b : Addr) (o : Obj), b ≠ C → h'.get? b = some o → h2.get? b = some o := fun b o hb e => by rw [hs2.2 b hb]; exact e
  have hni : ∀ o, h'.get? C = some o → ¬ Imm o := fun o e hi => by
    obtain ⟨o', es, ep, e', d, _⟩ := hm; rw [e] at e'; cases e'; exact hi.2.1 _ _ d
  obtain ⟨K2, R2⟩ := R'.other kk hC hCb hni
  have F2 := F'.alter K2 kk (Ne.symm hCL) hcc (fun a ha => .inl ha)
  have S2 : Step [env.locals] as s.heap (as' ++ [D]) h2 := by
    have a2 : Step [env.locals, C] (as' ++ [D]) h' (as' ++ [D]) h2 := ⟨⟨[], by simp, by simp⟩, fun b ob e hb _ => kk b ob (by intro q; subst q; simp at hb) e⟩
    have a1 : Step [env.locals, C] as s.heap (as' ++ [D]) h' := st.grow (by intro a ha; simp at ha; subst ha; simp)
    exact (a1.trans a2 R2.nd (by intro a ha; simp only [List.mem_cons, List.not_mem_nil, or_false] at ha; rcases ha with rfl | rfl; exact F2.off; exact hC)).shrink (by
      intro a ha; simp only [List.mem_cons, List.not_mem_nil, or_false] at ha; rcases ha with rfl | rfl
      · exact .inl (by simp)
      · exact .inr hCn)
  refine hQ _ _ h2 tk S2 R2 F2 ?_
  rw [RepV]; exact ⟨D, rfl, by rw [← hl]; simp⟩
end
end Mine

set_option autoImplicit false
set_option maxRecDepth 100000
set_option linter.unusedVariables false
namespace Mine
open PySem PyProof.Rows PySem.W

section
variable {prog : Program} {w : World} {A : Around} {E : Value → Shared → Prop} {s : Shared}

set_option tactic.hygienic false in
theorem collect_range {Q : List Value → Shared → Prop} {r : Addr} {a b c : Int} {t u v : Tok} {n : Nat} (hh : A.handled = none) (hr : IsRange s.heap r a b c t u v) (hsmall : Builtin.Range.small a b c = true)
    (hn : Builtin.Range.rangeSize a b c = n) (hlen : n ≤ 2 ^ 24)
    (hQ : ∀ h' tk acc, (∀ b o, s.heap.get? b = some o → h'.get? b = some o) → ItemsOf (fun i v => ∃ t, v = .int (a + i * c) t) acc n → Q acc.toList { s with heap := h', toks := tk }) :
    wpAny (model prog w) A (collect (.ref r)) Q E s := by
  unfold collect
  refine wpAny_bind (wpAny_runValue (codeAny_builtin F.entry_proto_collect ?_))
  rw [Around.under_plainId F.plain_proto_collect _]
  show wpAny _ A.in1 (newList [] >>= fun l => again (.builtin "list.__iadd__" ⟨[l, .ref r], []⟩)) _ _ s
  refine wpAny_bind (wpAny_newObj_type ?_)
  refine wpAny_pure ⟨plainId_quiet F.plain_list_iadd _, codeAny_builtin F.entry_list_iadd ?_⟩
  rw [Around.under_plainId F.plain_list_iadd _]
  show wpAny _ A.in1 (Builtin.List.listExtendWith (.ref s.heap.objs.size) (.ref r) (.ref s.heap.objs.size)) _ _ _
  refine wpAny_extend_range (R := fun r s' => match r with
      | .ok (.ret v) => wpAny (model prog w) A (match v with
        | .ref a => (do let o ← load a; match o.data with | .seq xs _ => pure xs.toList | _ => unsupported "internal:collect")
        | _ => unsupported "internal:collect") Q E s'
      | .ok _ => False
      | .error e => E e s') (s := { s with heap := s.heap.push { cls := .type "list", data := .seq #[] } }) hh (Heap.get?_push_of_some _ hr) hsmall hn hlen _ _ 0 (Heap.get?_push_size _ rfl) fun h' tk acc' c' hk hS' hacc => ?_
  show wpAny _ A (load s.heap.objs.size >>= _) _ _ _
  refine wpAny_bind (wpAny_load hS' ?_)
  exact wpAny_pure (hQ h' tk acc' (fun b o e => hk b o (Nat.ne_of_lt (Heap.lt_size e)) (Heap.get?_push_of_some _ e)) hacc)

variable {h₀ : Heap} {L : Addr} {m : Str → Option Value} {news : List (Addr × Obj)} {Q : Value → Shared → Prop}

set_option tactic.hygienic false in
theorem sorted_range {kz : List Int} {f r : Addr} {a b c : Int} {t u v : Tok} {n : Nat} (F : Fr h₀ L s.heap m) (N : News h₀ L s.heap news) (hh : A.handled = none) (hr : IsRange s.heap r a b c t u v) (hsmall : Builtin.Range.small a b c = true)
    (hn : Builtin.Range.rangeSize a b c = n) (h64 : n < 64) (hlen : kz.length = n)
    (turn : ∀ (i : Nat) (t : Tok) (k : Int), i < n → kz[i]? = some k → ∀ (h : Heap) (tk : Nat) (own : List (Addr × Obj)), Fr h₀ L h m → News h₀ L h (news ++ own) →
      wpAny (model prog w) A.in1.in1 (call (.ref f) [.int (a + i * c) t]) (KskEnd h₀ L m (news ++ own) k { s with heap := h, toks := tk }) (fun _ _ => False) { s with heap := h, toks := tk })
    (h : ∀ (D : Addr) (h' : Heap) (tk : Nat) (vs : List Value) (out : Array Value) (e : Nat), Fr h₀ L h' m → News h₀ L h' ((D, seqObj "list" out e) :: news) → s.heap.get? D = none → vs.length = n → (∀ (i : Nat) (x : Value), vs[i]? = some x → ∃ t, x = .int (a + i * c) t) → KskOut false kz vs out.toList → Q (.ref D) { s with heap := h', toks := tk }) :
    wpAny (model prog w) A (call (.builtin "sorted") [.ref r] [(Str.ofString "key", .ref f)]) Q E s := by
  refine call_function_entry_kw kind_sorted plain_sorted entry_sorted (ksk_s1 _ _) ?_
  unfold Builtin.«sorted»
  refine wpAny_bind (m := checkCount "sorted" 1 1 _) (wpAny_pure ?_)
  refine wpAny_bind (collect_range (A := A.in1) hh hr hsmall hn (by lia) fun h1 tk1 acc hk1 hacc => ?_)
  have hvl : acc.toList.length = n := by rw [Array.length_toList]; exact hacc.1
  refine wpAny_bind (wpAny_newList ?_ (by rw [hvl, sizeLine_eq]; lia))
  have keep : ∀ b o, s.heap.get? b = some o → (h1.push (seqObj "list" acc.toList.toArray 0)).get? b = some o := fun b o q => Heap.get?_push_of_some _ (hk1 b o q)
  have hoL : (h1.push (seqObj "list" acc.toList.toArray 0)).get? h1.objs.size = some (seqObj "list" acc.toList.toArray 0) := Heap.get?_push_size _ rfl
  have hL : L < h1.objs.size := by
    obtain ⟨o, es, ep, e, _⟩ := F.ns; exact Heap.lt_size (hk1 _ _ e)
  have hD : s.heap.get? h1.objs.size = none := by
    cases e : s.heap.get? h1.objs.size with
    | none => rfl
    | some o => exact absurd (Heap.lt_size (hk1 _ _ e)) (Nat.lt_irrefl _)
  refine wpAny_bind (wpAny_holding (wpAny_call_entry_kw slot_list_sort ⟨_, hoL, rfl⟩ entry_list_sort ?body (ksk_l1 _ _)))
  case body =>
    show wpAny (model prog w) A.in1.in1 (Builtin.«list.sort» ⟨[.ref h1.objs.size], [(Str.ofString "key", .ref f)]⟩) _ _ _
    rw [ksk_t1]
    refine ksk_sort (s := { s with heap := h1.push (seqObj "list" acc.toList.toArray 0), toks := tk1 }) (vs := acc.toList) (F.kept keep) (N.grown keep) hoL (Nat.ne_of_gt hL) (Heap.get?_none_of_le (Nat.le_trans F.above (Nat.le_of_lt hL)))
      (fun p hp q => by have := (N p hp).1; rw [q, hD] at this; cases this) (by rw [hlen, hvl]) (by rw [hvl]; exact h64) (fun i x k hx hk g tk own F' N' => ?_) fun h' tk out e F' N' k' => ⟨_, rfl, ?_⟩
    · obtain ⟨t', rfl⟩ := hacc.2 i x (by simpa using hx)
      exact turn i t' k (by have := (List.getElem?_eq_some_iff.mp hx).1; lia) hk g tk own F' N'
    · exact wpAny_pure ⟨_, rfl, h _ h' tk acc.toList out e F' N' hD hvl (fun i x hx => hacc.2 i x (by simpa using hx)) k'⟩
end

structure LX (c : CE) (env : Env) (p : Str) (x : Int) (fr : Fra) (h : Heap) : Prop where
  kind : env.scope.kind = .function
  par : ∃ m t, h.Ns env.locals m ∧ m p = some (.int x t) ∧ env.kindOf p = some .local
  var : ∀ y i v, c.locC? y = some i → env.scope.names.lookup y = some .free → fr[i]? = some (some (.int v)) → ∃ cc t, env.cells.lookup y = some cc ∧ h.IsCell cc (some (.int v t))

theorem kx_snd {prog : Program} {w : World} {A : Around} {X : Value → Shared → Prop} {env : Env} {c : CE} {p : Str} {x : Int} {fr : Fra} : ∀ (n : Nat) (e : Expr) (k : KX) (z : Int) (s : Shared) (Q : Value → Shared → Prop), cKey n c p env.scope e = some k → kxV fr x k = some z → LX c env p x fr s.heap →
    (∀ t tk, Q (.int z t) { s with toks := tk }) → wpAny (model prog w) A (eval e env) Q X s := by
  intro n
  induction n with
  | zero => intro e k z s Q h _ _ _; exact nn h
  | succ n ih =>
    intro e k z s Q h hz C hQ
    rw [cKey] at h
    cases q : vw e <;> rw [q] at h <;> first | exact nn h | skip
    · rename_i y
      obtain ⟨pp, rfl⟩ := vw_of q
      obtain ⟨hd, h⟩ := gd_inv h
      refine wpAny_Name ?_ (not_inv hd)
      unfold kxName at h
      cases hy : (y == p) <;> rw [hy] at h
      · obtain ⟨h0, h⟩ := gd_inv h
        obtain ⟨h1, h2⟩ := and_inv h0
        obtain ⟨i, h3, rfl⟩ := map_inv h
        have hf : env.scope.names.lookup y = some .free := eq_of_beq h1
        rw [kxV] at hz
        split at hz
        · rename_i v hv
          cases hz
          obtain ⟨cc, t, e1, e2⟩ := C.var y i _ h3 hf hv
          exact wpAny_loadName_free C.kind hf e1 e2 (hQ t s.toks) (not_inv h2)
        · exact nn hz
      · cases Option.some.inj h
        rw [kxV] at hz
        cases hz
        have := eq_of_beq hy
        subst this
        obtain ⟨m, t, e1, e2, e3⟩ := C.par
        exact wpAny_loadName_local C.kind e3 e1 e2 (hQ t s.toks)
    · rename_i v
      obtain ⟨a, pp, rfl⟩ := vw_of q
      cases v <;> first | exact nn h | skip
      cases Option.some.inj h
      rw [kxV] at hz
      cases hz
      exact wpAny_Constant_int (hQ _ _)
    · rename_i t
      obtain ⟨l, op, r⟩ := t
      obtain ⟨pp, rfl⟩ := vw_of q
      cases op <;> first | exact nn h | skip
      · obtain ⟨a, b, h1, h2, rfl⟩ := opt2_inv h
        rw [kxV] at hz
        obtain ⟨u, h3, hz⟩ := bind_inv hz
        obtain ⟨v, h4, rfl⟩ := map_inv hz
        exact wpAny_BinOp (ih l a u s _ h1 h3 C fun t tk => ih r b v { s with toks := tk } _ h2 h4 C fun t2 tk2 => PyProof.Rows.add_int (hQ _ _))
      · obtain ⟨a, b, h1, h2, rfl⟩ := opt2_inv h
        rw [kxV] at hz
        obtain ⟨u, h3, hz⟩ := bind_inv hz
        obtain ⟨v, h4, hz⟩ := bind_inv hz
        split at hz
        · rename_i hm
          cases hz
          exact wpAny_BinOp (ih l a u s _ h1 h3 C fun t tk => ih r b v { s with toks := tk } _ h2 h4 C fun t2 tk2 => PyProof.Rows.mul_int (hQ _ _) (mul_ok hm))
        · exact nn hz
      · obtain ⟨a, b, h1, h2, rfl⟩ := opt2_inv h
        rw [kxV] at hz
        obtain ⟨u, h3, hz⟩ := bind_inv hz
        obtain ⟨v, h4, hz⟩ := bind_inv hz
        split at hz
        · rename_i hm
          cases hz
          exact wpAny_BinOp (ih l a u s _ h1 h3 C fun t tk => ih r b v { s with toks := tk } _ h2 h4 C fun t2 tk2 => PyProof.Rows.mod_int hm (hQ _ _))
        · exact nn hz
end Mine

set_option autoImplicit false
set_option maxRecDepth 100000
set_option linter.unusedVariables false
namespace Mine
open PySem PyProof.Rows PySem.W

theorem lookup_zip_some : ∀ {ns : List Str} {xs : List Value} {n : Str}, n ∈ ns → ns.length = xs.length → ((ns.zip xs).lookup n).isNone = false
  | [], _, _, h, _ => by cases h
  | m :: ns, [], _, _, h => by cases h
  | m :: ns, x :: xs, n, h, hl => by
    rw [List.zip_cons_cons, List.lookup_cons]
    split
    · rfl
    · rename_i q
      rcases List.mem_cons.mp h with rfl | h
      · simp at q
      · exact lookup_zip_some h (by simpa using hl)

set_option tactic.hygienic false in
theorem lookup_app {α : Type} {n : Str} : ∀ {l r : List (Str × α)}, (∀ p ∈ l, p.1 ≠ n) → (l ++ r).lookup n = r.lookup n
  | [], _, _ => rfl
  | p :: l, r, h => by
    rw [List.cons_append]
    obtain ⟨a, b⟩ := p
    rw [List.lookup_cons]
    have : (n == a) = false := by
      cases q : n == a with
      | false => rfl
      | true => exact absurd (eq_of_beq q).symm (h _ (.head _))
    rw [this]
    exact lookup_app fun p hp => h p (.tail _ hp)

set_option tactic.hygienic false in
theorem zip_back : ∀ (ns pre : List Str) (xs pxs : List Value), (pre ++ ns).Nodup → ns.length = xs.length → pre.length = pxs.length → ns.filterMap (fun n => ((pre.zip pxs ++ ns.zip xs).lookup n).map fun v => (n, v)) = ns.zip xs
  | [], _, xs, _, _, _, _ => rfl
  | n :: ns, pre, [], _, _, hl, _ => by cases hl
  | n :: ns, pre, x :: xs, pxs, nd, hl, hp => by
    have h1 : ((pre.zip pxs ++ (n :: ns).zip (x :: xs)).lookup n) = some x := by
      rw [lookup_app, List.zip_cons_cons, List.lookup_cons]
      · simp
      · intro p hp' q
        have := (List.of_mem_zip hp').1
        rw [q] at this
        exact (List.nodup_append.mp nd).2.2 n this n (.head _) rfl
    rw [List.filterMap_cons, h1]
    simp only [Option.map_some, List.zip_cons_cons]
    have := zip_back ns (pre ++ [n]) xs (pxs ++ [x]) (by simpa using nd) (by simpa using hl) (by simp [hp])
    rw [List.zip_append hp] at this
    simp only [List.append_assoc] at this
    exact congrArg _ this

set_option tactic.hygienic false in
theorem bind_plain {fd : FuncData} {ns : List Arg} {d : List Expr} (hp : fd.params = ⟨[], ns, none, [], [], none, d⟩) (hd : fd.defaults = .none) (nd : (ns.map (·.arg)).Nodup) {xs : List Value} (hl : ns.length = xs.length) :
    bindArgs fd ⟨xs, []⟩ = pure ((ns.map (·.arg)).zip xs) := by
  have hl' : (ns.map (·.arg)).length = xs.length := by simpa using hl
  have hm : (ns.map (·.arg)).filter (fun n => (((ns.map (·.arg)).zip xs).lookup n).isNone) = [] := by
    rw [List.filter_eq_nil_iff]
    intro a ha
    rw [lookup_zip_some ha hl']; simp
  have hm' : ((ns.map (·.arg)).take (ns.map (·.arg)).length).filter (fun n => (((ns.map (·.arg)).zip xs).lookup n).isNone) = [] := by
    rw [List.take_length]; exact hm
  unfold bindArgs
  rw [hp, hd]
  have hgt : ¬ (xs.length > (ns.map (·.arg)).length) := by lia
  have hs : seqItems? Value.none = pure none := rfl
  have hdec : decide (xs.length > (ns.map (·.arg)).length) = false := decide_eq_false hgt
  simp only [List.map_nil, List.nil_append, List.forIn_nil, List.append_nil, hs, pure_bind, Option.getD_none, hdec, Bool.false_and, Bool.false_eq_true, if_false, List.length_nil, Nat.zero_sub, List.drop_nil, Nat.sub_zero, hm', List.isEmpty_nil, Bool.not_true, List.zip_nil_right]
  have hzz := zip_back (ns.map fun (x : Arg) => x.arg) [] xs [] (by simpa using nd) hl' rfl
  exact congrArg pure hzz

set_option tactic.hygienic false in
theorem insK_perm {α : Type} (p : Int × α) : ∀ l : List (Int × α), (insK p l).Perm (p :: l)
  | [] => .refl _
  | q :: r => by
    rw [insK]
    split
    · exact .refl _
    · exact ((insK_perm p r).cons q).trans (.swap p q r)
set_option tactic.hygienic false in
theorem sortK_perm {α : Type} : ∀ l : List (Int × α), (sortK l).Perm l
  | [] => .refl _
  | p :: r => (insK_perm p _).trans ((sortK_perm r).cons p)
theorem insK_sorted {α : Type} (p : Int × α) : ∀ l : List (Int × α), l.Pairwise (fun a b => a.1 ≤ b.1) → (insK p l).Pairwise (fun a b => a.1 ≤ b.1)
  | [], _ => List.pairwise_singleton _ _
  | q :: r, h => by
    rw [insK]
    have h' := List.pairwise_cons.mp h
    split
    · rename_i hlt
      refine List.pairwise_cons.mpr ⟨fun b hb => ?_, h⟩
      rcases List.mem_cons.mp hb with e | e
      · rw [e]; lia
      · have := h'.1 b e; lia
    · rename_i hge
      refine List.pairwise_cons.mpr ⟨fun b hb => ?_, insK_sorted p r h'.2⟩
      rcases List.mem_cons.mp ((insK_perm p r).mem_iff.mp hb) with e | e
      · rw [e]; lia
      · exact h'.1 b e
set_option tactic.hygienic false in
theorem sortK_sorted {α : Type} : ∀ l : List (Int × α), (sortK l).Pairwise (fun a b => a.1 ≤ b.1)
  | [] => .nil
  | p :: r => insK_sorted p _ (sortK_sorted r)
set_option tactic.hygienic false in
theorem sortK_uniq {α : Type} {l ps : List (Int × α)} (hn : (l.map (·.1)).Nodup) (hp : ps.Perm l) (hs : ps.Pairwise (fun a b => a.1 ≤ b.1)) : ps = sortK l := by
  refine List.Perm.eq_of_pairwise (le := fun a b => a.1 ≤ b.1) (fun a b ha hb h1 h2 => ?_) hs (sortK_sorted l) (hp.trans (sortK_perm l).symm)
  have ha' := hp.mem_iff.mp ha
  have hb' := (sortK_perm l).mem_iff.mp hb
  have e : a.1 = b.1 := Int.le_antisymm h1 h2
  obtain ⟨i, hi, rfl⟩ := List.getElem_of_mem ha'
  obtain ⟨j, hj, rfl⟩ := List.getElem_of_mem hb'
  have : i = j := (List.getElem_inj hn (h₀ := by simpa using hi) (h₁ := by simpa using hj)).mp (by simpa using e)
  subst this; rfl
set_option tactic.hygienic false in
theorem f2_ins {α β : Type} {R : Int × α → Int × β → Prop} (hR : ∀ a b, R a b → a.1 = b.1) {p : Int × α} {q : Int × β} (h : R p q) {l : List (Int × α)} {m : List (Int × β)} (f : F2 R l m) : F2 R (insK p l) (insK q m) := by
  induction f with
  | nil => exact .cons h .nil
  | @cons a b l m x r ih =>
    show F2 R (if p.1 < a.1 then p :: a :: l else a :: insK p l) (if q.1 < b.1 then q :: b :: m else b :: insK q m)
    rw [hR p q h, hR a b x]
    split
    · exact .cons h (.cons x r)
    · exact .cons x ih
set_option tactic.hygienic false in
theorem f2_sort {α β : Type} {R : Int × α → Int × β → Prop} (hR : ∀ a b, R a b → a.1 = b.1) {l : List (Int × α)} {m : List (Int × β)} (f : F2 R l m) : F2 R (sortK l) (sortK m) := by
  induction f with
  | nil => exact .nil
  | cons x _ ih => exact f2_ins hR x ih
set_option tactic.hygienic false in
theorem f2_zip {α β : Type} {R : α → β → Prop} (ks : List Int) {l : List α} {m : List β} (f : F2 R l m) : F2 (fun (a : Int × α) (b : Int × β) => a.1 = b.1 ∧ R a.2 b.2) (ks.zip l) (ks.zip m) := by
  induction f generalizing ks with
  | nil => rw [List.zip_nil_right, List.zip_nil_right]; exact .nil
  | cons x _ ih =>
    cases ks with
    | nil => exact .nil
    | cons k ks => exact .cons ⟨rfl, x⟩ (ih ks)
set_option tactic.hygienic false in
theorem f2_map {α β α' β' : Type} {R : α → β → Prop} {R' : α' → β' → Prop} {f : α → α'} {g : β → β'} (h : ∀ a b, R a b → R' (f a) (g b)) {l : List α} {m : List β} (r : F2 R l m) : F2 R' (l.map f) (m.map g) := by
  induction r with
  | nil => exact .nil
  | cons x _ ih => exact .cons (h _ _ x) ih

set_option tactic.hygienic false in
theorem par?_inv {ps : Arguments} {p : Str} (h : par? ps = some p) : ∃ a, ps = ⟨[], [a], none, [], [], none, []⟩ ∧ a.arg = p := by
  obtain ⟨p1, p2, p3, p4, p5, p6, p7⟩ := ps
  rcases p2 with _ | ⟨a, _ | ⟨b, p2⟩⟩
  · exact nn h
  · obtain ⟨h0, h⟩ := gd_inv h
    obtain ⟨h1, h0⟩ := and_inv h0
    obtain ⟨h2, h0⟩ := and_inv h0
    obtain ⟨h3, h0⟩ := and_inv h0
    obtain ⟨h4, h0⟩ := and_inv h0
    obtain ⟨h5, h6⟩ := and_inv h0
    have e1 : p1 = [] := List.isEmpty_iff.mp h1
    have e2 : p3 = none := Option.isNone_iff_eq_none.mp h2
    have e3 : p4 = [] := List.isEmpty_iff.mp h3
    have e4 : p5 = [] := List.isEmpty_iff.mp h4
    have e5 : p6 = none := Option.isNone_iff_eq_none.mp h5
    have e6 : p7 = [] := List.isEmpty_iff.mp h6
    subst e1 e2 e3 e4 e5 e6
    exact ⟨a, rfl, Option.some.inj h⟩
  · exact nn h

section
variable {g : Cfg} {K : Frag} {c0 : CE} {fa : Nat → Option Addr} {call : Nat → List V → Sto → RE} {env : Env} {A : Around} {X : Value → Shared → Prop} {s : Shared} {as : List Addr} {fr : Fra} {σ σ' : Sto} {r n : Nat}
  {names : List (Str × NameKind)} {Q : Value → Shared → Prop} {v : V} {sc : Scope} {body : Expr} {lp : Pos}

noncomputable def lamO (env : Env) (a : Arg) (body : Expr) (sc : Scope) (pm : Value) (c' : Addr) (ctv : Value) : Obj :=
  kla_obj "<lambda>" (env.qual ++ "<lambda>") ⟨[], [a], none, [], [], none, []⟩ body sc (clOf env sc.names []) pm c' ctv

set_option tactic.hygienic false in
theorem o_lam {a : Arg} {ca : Addr} {frm : List (Option Nat)} (G : Glob g K c0 fa) (N : NamesOk (c0.sub names) env) (T : At g env as fr σ s) (hl : c0.lam = some ca) (ht : σ[1]? = some (.tab false)) (hf : frmOf (c0.sub names) sc = some frm)
    (hQ : ∀ (f : Addr) (h' : Heap) (tk : Nat) (pm : Value) (c' : Addr) (ctv : Value), Step [env.locals] as s.heap as h' → Rel g as (σ.set 1 (.tab true)) h' → FrRel g env as fr h' → h'.get? f = some (lamO env a body sc pm c' ctv) → h'.CodeRec (.ref c') (env.qual ++ "<lambda>") → Q (.ref f) { s with heap := h', toks := tk }) :
    wpAny (model g.prog g.w) A (eval (.Lambda ⟨[], [a], none, [], [], none, []⟩ body sc lp) env) Q X s := by
  obtain ⟨mg, Tg, C, _, hB, hne, _⟩ := G.lam ca hl
  have h1l : 1 < as.length := by rw [T.R.len]; exact (List.getElem?_eq_some_iff.mp ht).1
  have ha1 : as[1]? = some as[1] := List.getElem?_eq_getElem h1l
  obtain ⟨hP1, ps, hps, hps0⟩ := T.R.obj 1 _ _ ha1 ht
  rw [hP1] at ha1 hps
  rw [hps0 rfl] at hps
  have hPas : g.tab ∈ as := List.mem_of_getElem? ha1
  refine kla_eval rfl (kla_makeFunction (mg := mg) (clos_eq (frm_free N T.F hf)) T.F.glob (Tg.keeps T.R.base) (N.code ca hl) (C.keeps T.R.base) hps trivial rfl hne (hB.keeps T.R.base) fun c' ctv h' tk hx hge hlt hrec htb => ?_)
  generalize hO : kla_obj "<lambda>" (env.qual ++ "<lambda>") ⟨[], [a], none, [], [], none, []⟩ body sc (clOf env sc.names []) ((mg "__name__").getD .none) c' ctv = ob
  have hk : ∀ (b : Addr) (o : Obj), b ≠ g.tab → s.heap.get? b = some o → (h'.push ob).get? b = some o := fun b o hb e => Heap.get?_push_of_some _ (hx b o hb e)
  have KK : Keep as s.heap as (h'.push ob) := ⟨fun _ _ e => e, fun b o e hi => hk b o (fun q => by
    subst q; rw [hps] at e; cases e; rcases hi.1 with q | q | ⟨_, _, q, _⟩ <;> cases q) e⟩
  have R' : Rel g as (σ.set 1 (.tab true)) (h'.push ob) := by
    refine ⟨fun b o e => hk b o (fun q => by subst q; rw [T.R.new _ hPas] at e; cases e) (T.R.base b o e), by rw [List.length_set]; exact T.R.len, T.R.nd, T.R.new, fun i b o e1 e2 => ?_, T.R.hnd.keep KK⟩
    by_cases hi : i = 1
    · subst hi
      rw [ha1] at e1; cases e1
      rw [List.getElem?_set_self (by rw [← T.R.len]; exact h1l)] at e2; cases e2
      exact ⟨rfl, _, Heap.get?_push_of_some _ htb, fun q => nomatch q⟩
    · rw [List.getElem?_set_ne (Ne.symm hi)] at e2
      refine (T.R.obj i b o e1 e2).keep KK fun oc e => hk b oc (fun q => ?_) e
      subst q
      obtain ⟨hi1, e3⟩ := List.getElem?_eq_some_iff.mp e1
      obtain ⟨hj1, e4⟩ := List.getElem?_eq_some_iff.mp ha1
      exact hi ((List.getElem_inj T.R.nd).mp (e3.trans e4.symm))
  have F' : FrRel g env as fr (h'.push ob) := T.F.alter KK hk (fun q => T.F.off (q ▸ hPas)) (fun x c hc q => (T.F.offc _ _ hc).1 (q ▸ hPas)) fun _ h => .inl h
  refine hQ _ _ tk _ c' ctv ⟨⟨[], by simp, by simp⟩, fun b o e _ hb => hk b o (fun q => hb (q ▸ hPas)) e⟩ R' F' (by rw [lamO, hO]; exact Heap.get?_push_size _ (by rw [← hO]; rfl)) ?_
  obtain ⟨c₂, oc, vs, t, e2, hoc, hd, hv⟩ := hrec
  exact ⟨c₂, oc, vs, t, e2, Heap.get?_push_of_some _ hoc, hd, hv⟩

set_option tactic.hygienic false in
theorem o_turn {a : Arg} {frm : List (Option Nat)} {key : KX} {x z : Int} {t : Tok} {f c' : Addr} {pm ctv : Value} {h : Heap} {tk : Nat} {m : Str → Option Value} {need : List (Addr × Obj)} {B : Around} (N : NamesOk (c0.sub names) env) (T : At g env as fr σ s) (lim : g.b.NoLimit) (hroom : B.depth < recursionLimit)
    (hf : frmOf (c0.sub names) sc = some frm) (hso : scOk sc = true) (hgen : sc.isGenerator = false) (hco : sc.isCoroutine = false) (hp : sc.names.lookup a.arg = some .local) (hkey : cKey 10 (c0.sub names) a.arg sc body = some key) (hz : kxV fr x key = some z)
    (ho : s.heap.get? f = some (lamO env a body sc pm c' ctv)) (hcd : s.heap.CodeRec (.ref c') (env.qual ++ "<lambda>"))
    (F' : Fr g.b env.locals h m) (N' : News g.b env.locals h need) (hs : ∀ p ∈ newsOf g.b env.locals s.heap, p ∈ need) :
    wpAny (model g.prog g.w) B (PySem.call (.ref f) [.int x t]) (KskEnd g.b env.locals m need z { s with heap := h, toks := tk }) (fun _ _ => False) { s with heap := h, toks := tk } := by
  have ext := ext_of_news F' N' hs T.R.base
  obtain ⟨mL, ⟨oL, esL, epL, eL, dL, _⟩, _⟩ := T.F.ns
  have hfL : f ≠ env.locals := fun q => by rw [q, eL] at ho; cases ho; cases dL
  have hcd' : h.CodeRec (.ref c') (env.qual ++ "<lambda>") := by
    obtain ⟨c₂, oc, vs, t2, e2, hoc, hd, hv⟩ := hcd
    exact ⟨c₂, oc, vs, t2, e2, ext _ _ (fun q => by rw [q, eL] at hoc; cases hoc; rw [dL] at hd; cases hd) hoc, hd, hv⟩
  obtain ⟨hk, hnd⟩ := scOk_iff hso
  refine wpAny_call (kla_callFunE (s := { s with heap := h, toks := tk }) hroom (ext _ _ hfL ho) rfl hco hgen rfl hcd' ?_)
  have hbind : bindArgs (kla_fn "<lambda>" (env.qual ++ "<lambda>") ⟨[], [a], none, [], [], none, []⟩ body sc (clOf env sc.names []) pm (.ref c') ctv) ⟨[.int x t], []⟩ = pure [(a.arg, .int x t)] :=
    bind_plain (ns := [a]) (d := []) rfl rfl (by simp) rfl
  rw [hbind]
  refine wpAny_pure (wpAny_newFunctionEnv (s := { s with heap := h, toks := tk }) (frm_noCell hf) (fun y hy => by rw [List.mem_singleton.mp hy]; exact hp) (fun h₁ hns hsb => ⟨((lim).keeps F'.keep).fresh _ hsb, ?_⟩) hk)
  have hk₁ : ∀ (b : Addr) (o : Obj), h.get? b = some o → h₁.get? b = some o := fun b o e => hsb.extBut b o (Nat.ne_of_lt (Heap.lt_size e)) (Heap.get?_push_of_some _ e)
  refine kla_codeExpr (kx_snd (fr := fr) (x := x) (p := a.arg) (c := c0.sub names) 10 body key z _ _ hkey hz ⟨hk, ⟨_, t, hns, by simp, hp⟩, fun y i v h1 h2 h3 => ?_⟩ fun t2 tk2 => ?_)
  · have hmem : (y, NameKind.free) ∈ sc.names := lookup_mem' h2
    obtain ⟨cc, hcc⟩ := clOf_there sc.names [] y (frm_free N T.F hf) (.inl hmem)
    have hce := clOf_sound sc.names [] (fun _ _ e => nomatch e) y cc hcc
    obtain ⟨k, h4, h5⟩ := locC_get h1
    obtain ⟨k', h6, h7⟩ := N.get h4
    have hk' : k' = .cell ∨ k' = .free := by
      rcases h7 with q | q
      · subst q; exact h5
      · exact .inl q.2
    obtain ⟨c2, cv, e1, ⟨oc, e2, e2'⟩, e3⟩ := T.F.cells i y k' h6 hk'
    rw [hce] at e1; cases e1
    obtain ⟨val, rfl, rv⟩ := e3 _ h3
    obtain ⟨tv, rfl⟩ := rep_int rv
    exact ⟨cc, tv, hcc, oc, hk₁ _ _ (ext _ _ (T.F.offc _ _ hce).2.1 e2), e2'⟩
  · exact ⟨h₁, tk2, t2, rfl, rfl, F'.kept hk₁, N'.grown hk₁⟩

theorem srtV_inv {key : KX} {u : V} (e : srtV key fr u σ = .ok v σ') : ∃ hi ks, u = .rng 0 hi ∧ hi < 60 ∧ σ[1]? = some (.tab false) ∧ mapO (fun (j : Nat) => kxV fr (j : Int) key) (List.range hi.toNat) = some ks ∧ ks.Nodup ∧ newL ((sortK (ks.zip (rngL 0 hi))).map (·.2)) (σ.set 1 (.tab true)) = .ok v σ' := by
  cases u <;> first | exact bad_ok e | skip
  rename_i lo hi
  obtain ⟨⟨rfl, hh⟩, e1⟩ := if_inv e
  have key2 : ∀ {o : Option AO} {q : RE}, srtT o q = .ok v σ' → o = some (.tab false) ∧ q = .ok v σ' := fun {o q} e => by
    cases o with
    | none => exact bad_ok e
    | some o => cases o with
      | tab b => cases b with
        | false => exact ⟨rfl, e⟩
        | true => exact bad_ok e
      | _ => exact bad_ok e
  obtain ⟨h1, e2⟩ := key2 e1
  cases hks : mapO (fun (j : Nat) => kxV fr (j : Int) key) (List.range hi.toNat) with
  | none => rw [hks] at e2; exact bad_ok e2
  | some ks =>
    rw [hks] at e2
    obtain ⟨h3, e3⟩ := if_inv e2
    exact ⟨hi, ks, rfl, hh, h1, hks, h3, e3⟩

set_option tactic.hygienic false in
theorem o_srt {a : Arg} {frm : List (Option Nat)} {key : KX} {hi : Int} {ks : List Int} {x : Value} {f c' : Addr} {pm ctv : Value} {B : Nat} (N : NamesOk (c0.sub names) env) (T : At g env as fr σ s) (lim : g.b.NoLimit) (hA : Room g A B) (hh : g.hd = none)
    (hf : frmOf (c0.sub names) sc = some frm) (hso : scOk sc = true) (hgen : sc.isGenerator = false) (hco : sc.isCoroutine = false) (hp : sc.names.lookup a.arg = some .local) (hkey : cKey 10 (c0.sub names) a.arg sc body = some key)
    (hks : mapO (fun (j : Nat) => kxV fr (j : Int) key) (List.range hi.toNat) = some ks) (hnd : ks.Nodup) (h60 : hi < 60) (hr : RepV as s.heap (.rng 0 hi) x) (e : newL ((sortK (ks.zip (rngL 0 hi))).map (·.2)) σ = .ok v σ')
    (ho : s.heap.get? f = some (lamO env a body sc pm c' ctv)) (hcd : s.heap.CodeRec (.ref c') (env.qual ++ "<lambda>")) (hQ : EPost g env as fr s v σ' Q) :
    wpAny (model g.prog g.w) A (PySem.call (.builtin "sorted") [x] [(Str.ofString "key", .ref f)]) Q X s := by
  rw [RepV] at hr
  obtain ⟨ra, t, u, w', rfl, hro, hrb⟩ := hr
  obtain ⟨z1, z2⟩ := rng_size hrb
  have hz0 : ((hi - 0).toNat) = hi.toNat := by rw [Int.sub_zero]
  rw [hz0] at z1
  obtain ⟨m, hF, _⟩ := T.F.fr T.R
  have hlen : ks.length = hi.toNat := by have := (mapO_get hks).1; rw [List.length_range] at this; exact this.symm
  have hdep : A.in1.in1.depth < recursionLimit := by have := hA.depth; show A.depth < 1000; lia
  refine sorted_range hF (news_all _ _ _) (hA.none hh) hro z2 z1 (by lia) hlen (fun i t' k hi' hk h tk own F' N' => ?_) fun D h' tk vs out ep F' N' hD hvl hvs ko => ?_
  · have e0 : (0 : Int) + (i : Int) * 1 = (i : Int) := by lia
    rw [e0]
    refine o_turn (tk := tk) N T lim hdep hf hso hgen hco hp hkey ?_ ho hcd F' N' fun p hp => List.mem_append_left _ hp
    obtain ⟨b, h1, h2⟩ := (mapO_get hks).2 i i (List.getElem?_range hi')
    rw [hk] at h1; cases h1
    exact h2
  · obtain ⟨ps, hpp, hout, hps⟩ := ko
    have hsd : ps = sortK (ks.zip vs) := sortK_uniq (by rw [List.map_fst_zip (by lia)]; exact hnd) hpp (by simpa using hps)
    refine hQ.newN (tk := tk) T hF.ns F' rfl N' (fun p hp => .tail _ hp) (.head _) hD ?_ e
    rw [hout, hsd]
    refine RepVs.f2.mpr (f2_map (R := fun (a : Int × V) (b : Int × Value) => a.1 = b.1 ∧ RepV as s.heap a.2 b.2) (fun _ _ h => h.2) (f2_sort (fun _ _ h => h.1) (f2_zip ks ?_)))
    have hacc : ItemsOf (fun i v => ∃ t, v = Value.int (0 + (i : Int) * 1) t) vs.toArray (hi - 0).toNat := ⟨by simpa [hz0] using hvl, fun i x hx => hvs i x (by simpa using hx)⟩
    simpa using RepVs.f2.mp (rng_rep (as := as) (h := s.heap) hacc)

set_option tactic.hygienic false in
theorem x_sort {x : Str} {e : Expr} {kw : Option Str} {ps : Arguments} {kp fp p : Pos} {e' : E} (G : Glob g K c0 fa) (IH : SndE g c0 call r n) (h : cSort (c0.sub names) (compE n (c0.sub names)) x e kw (ps, body, sc, lp) = some e') :
    NodeE g c0 call r names (.Call (.Name x fp) [e] [⟨kw, .Lambda ps body sc lp, kp⟩] p) e' := by
  obtain ⟨h0, h⟩ := gd_inv h
  obtain ⟨g1, h0⟩ := and_inv h0
  obtain ⟨g2, h0⟩ := and_inv h0
  obtain ⟨g3, h0⟩ := and_inv h0
  obtain ⟨g4, h0⟩ := and_inv h0
  obtain ⟨g5, h0⟩ := and_inv h0
  obtain ⟨g6, h0⟩ := and_inv h0
  obtain ⟨g7, g8⟩ := and_inv h0
  have e1 : kw = _ := eq_of_beq g1
  have e2 : x = _ := eq_of_beq g2
  obtain ⟨frm, hfr⟩ := Option.isSome_iff_exists.mp g8
  obtain ⟨ca, hca⟩ := Option.isSome_iff_exists.mp g4
  obtain ⟨pn, hpn, h⟩ := bind_inv h
  obtain ⟨hpl, h⟩ := gd_inv h
  obtain ⟨a', key, h1, hkey, rfl⟩ := opt2_inv h
  obtain ⟨a, rfl, rfl⟩ := par?_inv hpn
  subst e1; subst e2
  intro env A X s as fr σ σ' v Q N hA T ev hQ
  refine bind_el ev fun u τ e3 e4 => ?_
  obtain ⟨hi, ks, rfl, h60, htab, hks, hnd, enew⟩ := srtV_inv e4
  obtain ⟨_, _, _, lim, _, _, hh⟩ := G.lam ca hca
  show wpAny _ A (eval (.Name "sorted" fp) env >>= fun f => callWith p f [] (backTo p (starEach [e] env)) (backToKw p (keywordEach [⟨some "key", .Lambda ⟨[], [a], none, [], [], none, []⟩ body sc lp, kp⟩] env))) Q X s
  refine wpAny_bind (o_glob T N g3 rfl G.sorted ?_)
  refine callWith_kw ?_ (by rw [notStarred h1]; rfl) (by rw [notStarred h1]; rfl) rfl rfl
  refine wpAny_items_cons ?_ (notStarred h1 _ _)
  refine IH names e a' h1 env A X s as fr σ τ _ _ N hA T e3 fun val as' h' tk st R' F' r' => wpAny_items_nil ?_
  have T' : At g env as' fr τ { s with heap := h', toks := tk } := ⟨F', R'⟩
  show wpAny _ A (do let v ← (do let v ← eval (.Lambda ⟨[], [a], none, [], [], none, []⟩ body sc lp) env; standAt p; pure v); return v :: (← holding [v] (evalAll []))) _ X _
  refine wpAny_bind (wpAny_bind (o_lam G N T' hca htab hfr fun f h2 tk2 pm c' ctv st2 R2 F2 ho hcd => wpAny_bind (wpAny_standAt (wpAny_pure (wpAny_bind (wpAny_holding (wpAny_pure (wpAny_pure ?_))))))))
  have T2 : At g env as' fr (τ.set 1 (.tab true)) { s with heap := h2, toks := tk2 } := ⟨F2, R2⟩
  exact o_srt N T2 lim hA hh hfr g5 (not_inv g6) (not_inv g7) (eq_of_beq hpl) hkey hks hnd h60 (RepV.keep (T'.keep st2) _ _ r') enew ho hcd (epost_of (s := s) (tk := tk2) hQ (step_trans st st2 R2 F2) R2 F2)
end
end Mine

set_option autoImplicit false
set_option maxRecDepth 100000
set_option linter.unusedVariables false
namespace Mine
open PySem PyProof.Rows PySem.W

set_option tactic.hygienic false in
theorem ck2_inv {c : CE} {f : Str} {a : Expr} {t : Str} {k : CK} (h : ck2 c f a t = k) : (k = .isi a t ∧ f = "isinstance" ∧ c.glob "isinstance" = true ∧ c.glob t = true ∧ (t == ("__debug__" : Str)) = false) ∨ k = .plain := by
  unfold ck2 at h
  cases q : (f == ("isinstance" : Str) && (c.glob f && (c.glob t && !(t == ("__debug__" : Str))))) with
  | true =>
    rw [q] at h
    obtain ⟨q1, q2⟩ := and_inv q; obtain ⟨q2, q3⟩ := and_inv q2; obtain ⟨q3, q4⟩ := and_inv q3
    have e1 := eq_of_beq q1
    rw [e1] at q2
    exact .inl ⟨h.symm, e1, q2, q3, not_inv q4⟩
  | false => rw [q] at h; exact .inr h.symm
noncomputable def CkOk (c : CE) (f : Str) (args : List Expr) : CK → Prop
  | .setLen a => ∃ fp p, args = [.Call (.Name "set" fp) [a] [] p] ∧ f = "len" ∧ c.glob "len" = true ∧ c.glob "set" = true
  | .revl a => ∃ fp p, args = [.Call (.Name "reversed" fp) [a] [] p] ∧ f = "list" ∧ c.glob "list" = true ∧ c.glob "reversed" = true
  | .isi a t => ∃ tp, args = [a, .Name t tp] ∧ f = "isinstance" ∧ c.glob "isinstance" = true ∧ c.glob t = true ∧ (t == ("__debug__" : Str)) = false
  | .plain => True
set_option tactic.hygienic false in
theorem ck_ok (c : CE) (f : Str) (args : List Expr) : CkOk c f args (callKind c f args) := by
  rcases args with _ | ⟨a, _ | ⟨b, _ | ⟨d, args⟩⟩⟩
  · exact True.intro
  · exact True.intro
  · show CkOk c f [a, b] (match name? b with | some x => ck2 c f a x | none => .plain)
    cases q : name? b with
    | none => exact True.intro
    | some x =>
      obtain ⟨p, rfl⟩ := name?_inv q
      show CkOk c f _ (ck2 c f a x)
      rcases ck2_inv (c := c) (f := f) (a := a) (t := x) rfl with ⟨h, h1, h2, h3, h4⟩ | h <;> rw [h]
      · exact ⟨p, rfl, h1, h2, h3, h4⟩
      · exact True.intro
  · exact True.intro

section
variable {g : Cfg} {K : Frag} {c0 : CE} {fa : Nat → Option Addr} {call : Nat → List V → Sto → RE} {r n : Nat} {names : List (Str × NameKind)} {e' : E}

set_option tactic.hygienic false in
theorem x_const {k : Const} {a : Nat} {p : Pos} (h : cConst k = some e') : NodeE g c0 call r names (.Constant k a p) e' := by
  cases k with
  | none => exact si h n_none
  | bool b => exact si h n_bool
  | int b => exact si h n_int
  | str b => exact si h n_str
  | _ => exact nn h
set_option tactic.hygienic false in
theorem x_name {x : Str} {p : Pos} (G : Glob g K c0 fa) (h : cName (c0.sub names) x = some e') : NodeE g c0 call r names (.Name x p) e' := by
  obtain ⟨h1, h2⟩ := gd_inv h
  obtain ⟨hd, hc⟩ := and_inv h1
  cases q : (c0.sub names).loc? x with
  | some i => rw [q] at h2; exact si h2 (n_loc q (not_inv hd) (not_inv hc))
  | none =>
    rw [q] at h2
    obtain ⟨hg, h3⟩ := gd_inv h2
    obtain ⟨i, hi, rfl⟩ := map_inv h3
    exact n_const G hg (not_inv hd) hi
set_option tactic.hygienic false in
theorem x_bin {l rt : Expr} {op : Operator} {p : Pos} (IH : SndE g c0 call r n) (h : cBin (compE n (c0.sub names)) l op rt = some e') : NodeE g c0 call r names (.BinOp l op rt p) e' := by
  unfold cBin at h
  cases q : opOk op with
  | true =>
    rw [q] at h
    obtain ⟨a, b, h1, h2, rfl⟩ := opt2_inv h
    exact n_bin IH h1 h2
  | false =>
    rw [q] at h
    obtain ⟨h0, h⟩ := gd_inv h
    obtain ⟨a, h1, h⟩ := bind_inv h
    obtain ⟨b, h2, h⟩ := bind_inv h
    obtain ⟨h3, h9⟩ := gd_inv h
    obtain ⟨k1, p1, rfl⟩ := constI?_inv h1
    obtain ⟨k2, p2, rfl⟩ := constI?_inv h2
    cases op <;> first | exact ft h0 | skip
    exact si h9 (n_pow (of_decide_eq_true h3))
set_option tactic.hygienic false in
theorem x_un {op : UnaryOp} {x : Expr} {p : Pos} (IH : SndE g c0 call r n) (h : cUn (compE n (c0.sub names)) op x = some e') : NodeE g c0 call r names (.UnaryOp op x p) e' := by
  cases op with
  | Not => obtain ⟨a, h1, rfl⟩ := map_inv h; exact n_not IH h1
  | USub => obtain ⟨a, h1, rfl⟩ := map_inv h; exact n_neg IH h1
  | _ => exact nn h
set_option tactic.hygienic false in
theorem cmp_inv {f : Expr → Option E} {l : Expr} {ops : List CmpOp} {rs : List Expr} {P : List CmpOp → List Expr → E → Prop} (h : cCmp f l ops rs = some e')
    (H1 : ∀ op m a b, noMark op m = true → f l = some a → f m = some b → P [op] [m] (.cmp op a b)) (H2 : ∀ o1 o2 m rt a b d, noMark o2 rt = true → f l = some a → f m = some b → f rt = some d → P [o1, o2] [m, rt] (.cmp2 o1 o2 a b d)) : P ops rs e' := by
  rcases ops with _ | ⟨o1, _ | ⟨o2, _ | ⟨o3, os⟩⟩⟩
  · exact nn h
  · rcases rs with _ | ⟨m, _ | ⟨rt, rs⟩⟩
    · exact nn h
    · obtain ⟨h0, h⟩ := gd_inv h
      obtain ⟨a, b, h1, h2, rfl⟩ := opt2_inv h
      exact H1 _ _ _ _ h0 h1 h2
    · exact nn h
  · rcases rs with _ | ⟨m, _ | ⟨rt, _ | ⟨r3, rs⟩⟩⟩
    · exact nn h
    · exact nn h
    · obtain ⟨h0, h⟩ := gd_inv h
      obtain ⟨a, b, d, h1, h2, h3, rfl⟩ := opt3_inv h
      exact H2 _ _ _ _ _ _ _ h0 h1 h2 h3
    · exact nn h
  · exact nn h
set_option tactic.hygienic false in
theorem x_cmp {l : Expr} {ops : List CmpOp} {rs : List Expr} {p : Pos} (G : Glob g K c0 fa) (IH : SndE g c0 call r n) (h : cCmp (compE n (c0.sub names)) l ops rs = some e') : NodeE g c0 call r names (.Compare l ops rs p) e' :=
  cmp_inv (P := fun ops rs e' => NodeE g c0 call r names (.Compare l ops rs p) e') h (fun _ _ _ _ h0 h1 h2 => n_cmp G IH h0 h1 h2) fun _ _ _ _ _ _ _ h0 h1 h2 h3 => n_cmp2 G IH h0 h1 h2 h3
set_option tactic.hygienic false in
theorem x_slice {v : Expr} {a b d : Option Expr} {p1 p : Pos} (IH : SndE g c0 call r n) (h : cSlice (compE n (c0.sub names)) v a b d = some e') : NodeE g c0 call r names (.Subscript v (.Slice a b d p1) p) e' := by
  cases a with
  | some lo => cases b with
    | some => exact nn h
    | none => cases d with
      | some => exact nn h
      | none => obtain ⟨x, y, h1, h2, rfl⟩ := opt2_inv h; exact n_slo IH h1 h2
  | none => cases b with
    | some hi => cases d with
      | some => exact nn h
      | none => obtain ⟨x, y, h1, h2, rfl⟩ := opt2_inv h; exact n_shi IH h1 h2
    | none => cases d with
      | some st => exact nn h
      | none => exact nn h
set_option tactic.hygienic false in
theorem x_sub {v i : Expr} {p : Pos} (IH : SndE g c0 call r n) (h : cSub (compE n (c0.sub names)) v i = some e') : NodeE g c0 call r names (.Subscript v i p) e' := by
  have plain : opt2 E.sub (compE n (c0.sub names) v) (compE n (c0.sub names) i) = some e' → NodeE g c0 call r names (.Subscript v i p) e' := fun h => by
    obtain ⟨x, y, h1, h2, rfl⟩ := opt2_inv h; exact n_sub IH h1 h2
  unfold cSub at h
  cases q : vw i <;> rw [q] at h <;> first | exact plain h | skip
  obtain ⟨p1, rfl⟩ := vw_of q
  exact x_slice IH h
set_option tactic.hygienic false in
theorem x_dict {ks : List (Option Expr)} {vs : List Expr} {p : Pos} (G : Glob g K c0 fa) (IH : SndE g c0 call r n) (h : cDict (compE n (c0.sub names)) ks vs = some e') : NodeE g c0 call r names (.Dict ks vs p) e' := by
  rcases ks with _ | ⟨_ | k, _ | ⟨k2, ks⟩⟩
  · exact nn h
  · exact nn h
  · exact nn h
  · rcases vs with _ | ⟨v, _ | ⟨v2, vs⟩⟩
    · exact nn h
    · obtain ⟨x, y, h1, h2, rfl⟩ := opt2_inv h; exact n_dict1 G IH h1 h2
    · exact nn h
  · exact nn h
set_option tactic.hygienic false in
theorem x_callN {x : Str} {args : List Expr} {fp p : Pos} (G : Glob g K c0 fa) (C : CallOk g fa call r) (IH : SndE g c0 call r n) (h : cCallN (c0.sub names) (compE n (c0.sub names)) x args = some e') : NodeE g c0 call r names (.Call (.Name x fp) args [] p) e' := by
  have hk := ck_ok (c0.sub names) x args
  unfold cCallN at h
  cases q : callKind (c0.sub names) x args with
  | setLen a =>
    rw [q] at h hk
    exact nn h
  | revl a =>
    rw [q] at h hk
    exact nn h
  | isi a t =>
    rw [q] at h hk
    obtain ⟨y, ty, h1, h2, rfl⟩ := opt2_inv h
    obtain ⟨tp, rfl, rfl, g1, g2, g3⟩ := hk
    exact n_isi G IH g1 g2 h2 g3 h1
  | plain =>
    rw [q] at h
    obtain ⟨h0, h⟩ := gd_inv h
    obtain ⟨_, h0⟩ := and_inv h0
    obtain ⟨hg, hd⟩ := and_inv h0
    have hd := not_inv hd
    obtain ⟨es', h1, h2⟩ := bind_inv h
    unfold plainCall' at h2
    cases q1 : bltName.lookup x with
    | some b => rw [q1] at h2; obtain ⟨hk, h2⟩ := gd_inv h2; obtain ⟨hk, hh⟩ := and_inv hk; exact si h2 (n_blt G IH hg hd q1 hk (not_inv hh) h1)
    | none =>
      rw [q1] at h2
      cases q2 : (c0.sub names).fns.lookup x with
      | some k => rw [q2] at h2; exact si h2 (n_call G C IH hg hd q2 h1)
      | none =>
        rw [q2] at h2
        obtain ⟨k, h3, rfl⟩ := map_inv h2
        exact n_mk G C IH hg hd h3 h1
theorem x_callK {x : Str} {args : List Expr} {k : Keyword} {fp p : Pos} (G : Glob g K c0 fa) (IH : SndE g c0 call r n) (h : cCallK (c0.sub names) (compE n (c0.sub names)) x args k = some e') : NodeE g c0 call r names (.Call (.Name x fp) args [k] p) e' := by
  rcases args with _ | ⟨a, _ | ⟨b, args⟩⟩
  · exact nn h
  · obtain ⟨kw, kv, kp⟩ := k
    have h : (match vw kv with
      | .const v => (match v with | .none => gd (kw == some ("default" : Str) && (x == ("max" : Str) && ((c0.sub names).glob x && !(c0.sub names).hnd))) ((compE n (c0.sub names) a).map .maxd) | _ => none)
      | .lam t => cSort (c0.sub names) (compE n (c0.sub names)) x a kw t
      | _ => none) = some e' := h
    cases q : vw kv <;> rw [q] at h <;> first | exact nn h | skip
    · rename_i v
      cases v <;> first | exact nn h | skip
      obtain ⟨h0, h9⟩ := gd_inv h
      clear h
      obtain ⟨h1, h0⟩ := and_inv h0
      obtain ⟨h3, h8⟩ := and_inv h0
      obtain ⟨h8, hh⟩ := and_inv h8
      have e1 : kw = _ := eq_of_beq h1
      obtain ⟨k1, p1, e2⟩ := vw_of q
      have e3 := eq_of_beq h3
      subst e1; subst e2; subst e3
      obtain ⟨y, h4, rfl⟩ := map_inv h9
      exact n_maxd G IH h8 (not_inv hh) h4
    · rename_i t
      obtain ⟨ps, body, sc, lp⟩ := t
      have hv : kv = _ := vw_of q
      subst hv
      exact x_sort G IH h
  · exact nn h
set_option tactic.hygienic false in
theorem x_callM {o : Expr} {x : Str} {ap : Pos} {args : List Expr} {p : Pos} (G : Glob g K c0 fa) (C : CallOk g fa call r) (IH : SndE g c0 call r n) (h : cCallM (c0.sub names) (compE n (c0.sub names)) (o, x, ap) args p = some e') : NodeE g c0 call r names (.Call (.Attribute o x ap) args [] p) e' := by
  obtain ⟨h0, h⟩ := gd_inv h
  obtain ⟨h1, h0⟩ := and_inv h0
  obtain ⟨h2, h0⟩ := and_inv h0
  obtain ⟨a, h5, h⟩ := bind_inv h
  obtain ⟨as', h6, h⟩ := bind_inv h
  unfold methCall at h
  cases q : methName.lookup x with
  | some m => rw [q] at h; exact si h (n_meth IH h2 (of_decide_eq_true h1) h0 h5 h6 q)
  | none =>
    rw [q] at h
    obtain ⟨f, h7, rfl⟩ := map_inv h
    exact n_umeth G C IH h2 (of_decide_eq_true h1) h0 h5 h6 h7
set_option tactic.hygienic false in
theorem x_join {s : Str} {a : Nat} {p1 ap p : Pos} {x : Str} {args : List Expr} (IH : SndE g c0 call r n) (h : cJoin (compE n (c0.sub names)) s (.Constant (.str s) a p1, x, ap) args p = some e') : NodeE g c0 call r names (.Call (.Attribute (.Constant (.str s) a p1) x ap) args [] p) e' := by
  rcases args with _ | ⟨e, _ | ⟨e2, args⟩⟩
  · exact nn h
  · obtain ⟨h0, h⟩ := gd_inv h
    obtain ⟨h1, h2⟩ := and_inv h0
    obtain ⟨y, h3, rfl⟩ := map_inv h
    have e1 : x = _ := eq_of_beq h1
    subst e1
    exact n_join IH h2 h3
  · exact nn h
theorem x_call {fn : Expr} {args : List Expr} {ks : List Keyword} {p : Pos} (G : Glob g K c0 fa) (C : CallOk g fa call r) (IH : SndE g c0 call r n) (h : cCall (c0.sub names) (compE n (c0.sub names)) fn args ks p = some e') : NodeE g c0 call r names (.Call fn args ks p) e' := by
  unfold cCall at h
  cases q : name? fn with
  | some x =>
    rw [q] at h
    obtain ⟨fp, rfl⟩ := name?_inv q
    rcases ks with _ | ⟨k, _ | ⟨k2, ks⟩⟩
    · exact x_callN G C IH h
    · exact x_callK G IH h
    · exact nn h
  | none =>
    rw [q] at h
    cases ks with
    | cons => exact nn h
    | nil =>
      cases q : vw fn <;> rw [q] at h <;> first | exact nn h | skip
      rename_i t
      have hv : fn = _ := vw_of q
      obtain ⟨o, x, ap⟩ := t
      subst hv
      have h : (match vw o with | .const k => (match k with | .str s => cJoin (compE n (c0.sub names)) s (o, x, ap) args p | _ => none) | _ => cCallM (c0.sub names) (compE n (c0.sub names)) (o, x, ap) args p) = some e' := h
      cases q : vw o <;> rw [q] at h <;> first | exact x_callM G C IH h | skip
      rename_i k
      cases k <;> first | exact nn h | skip
      obtain ⟨a, p1, rfl⟩ := vw_of q
      exact x_join IH h
set_option tactic.hygienic false in
theorem comp_inv1 {gens : List Comprehension} {t : Expr × Expr × List Expr} (h : comp1? gens = some t) : gens = [⟨t.1, t.2.1, t.2.2, 0⟩] := by
  rcases gens with _ | ⟨⟨a, b, c, d⟩, _ | ⟨g2, gs⟩⟩
  · exact nn h
  · obtain ⟨h0, h⟩ := gd_inv h
    have e1 : d = 0 := eq_of_beq h0
    subst e1
    exact si (P := fun t => [(⟨a, b, c, 0⟩ : Comprehension)] = [⟨t.1, t.2.1, t.2.2, 0⟩]) h rfl
  · exact nn h
set_option tactic.hygienic false in
theorem comp_compile {elt : Expr} {gens : List Comprehension} {sc : Scope} (h : cComp (c0.sub names) (compE n) elt gens sc = some e') :
    ∃ target iter ifs it' tg one cs x' frm, gens = [⟨target, iter, ifs, 0⟩] ∧ e' = .comp tg one it' cs x' frm ∧ scOk sc = true ∧ compE n (c0.sub names) iter = some it' ∧ tgt (c0.sub sc.names) target = some (tg, one) ∧
          mapO (compE n (c0.sub sc.names)) ifs = some cs ∧ compE n (c0.sub sc.names) elt = some x' ∧ frmOf (c0.sub names) sc = some frm := by
  obtain ⟨h0, h⟩ := gd_inv h
  obtain ⟨t, h1, h⟩ := bind_inv h
  obtain ⟨it, h2, h⟩ := bind_inv h
  obtain ⟨tg, h3, h⟩ := bind_inv h
  obtain ⟨cs, h4, h⟩ := bind_inv h
  obtain ⟨x, h5, h⟩ := bind_inv h
  obtain ⟨fr, h6, h⟩ := map_inv h
  exact ⟨_, _, _, _, _, _, _, _, _, comp_inv1 h1, h.symm, h0, h2, h3, h4, h5, h6⟩
set_option tactic.hygienic false in
theorem x_comp {elt : Expr} {gens : List Comprehension} {sc : Scope} {p : Pos} (IH : SndE g c0 call r n) (IT : SndT g c0 call r n) (h : cComp (c0.sub names) (compE n) elt gens sc = some e') : NodeE g c0 call r names (.ListComp elt gens sc p) e' := by
  obtain ⟨target, iter, ifs, it', tg, one, cs, x', frm, rfl, rfl, ho, q1, q2, q3, q4, q5⟩ := comp_compile h
  exact n_comp IH IT q1 q2 q3 q4 q5 ho

set_option tactic.hygienic false in
theorem snd_step (G : Glob g K c0 fa) (I : AttInj g) (C : CallOk g fa call r) (IH : SndE g c0 call r n) (IT : SndT g c0 call r n) (e : Expr) (e' : E) (h : compE (n + 1) (c0.sub names) e = some e') : NodeE g c0 call r names e e' := by
  cases e with
  | Constant k a p => exact x_const h
  | Name x p => exact x_name G h
  | BoolOp op vs p => obtain ⟨es, h1, h2⟩ := bind_inv h; exact n_boolop IH h1 h2
  | BinOp l op rt p => exact x_bin IH h
  | UnaryOp op x p => exact x_un IH h
  | Compare l ops rs p => exact x_cmp G IH h
  | Subscript v i p => exact x_sub IH h
  | Attribute v x p => obtain ⟨h0, h⟩ := gd_inv h; obtain ⟨a, k, h1, h2, rfl⟩ := opt2_inv h; exact n_attr G I IH h0 h1 h2
  | List es p => obtain ⟨h0, h⟩ := gd_inv h; obtain ⟨a, h1, rfl⟩ := map_inv h; exact n_list IH h1
  | Tuple es k p => obtain ⟨h0, h⟩ := gd_inv h; obtain ⟨a, h1, rfl⟩ := map_inv h; exact n_tup IH h1
  | Dict ks vs p => exact x_dict G IH h
  | Call fn args ks p => exact x_call G C IH h
  | ListComp elt gens sc p => exact x_comp IH IT h
  | _ => exact nn h
end
end Mine

set_option autoImplicit false
set_option maxRecDepth 100000
set_option linter.unusedVariables false
namespace Mine
open PySem PyProof.Rows PySem.W

section
variable {g : Cfg} {K : Frag} {c0 : CE} {fa : Nat → Option Addr} {call : Nat → List V → Sto → RE} {r n : Nat} {names : List (Str × NameKind)}

set_option tactic.hygienic false in
theorem t_plain {e : Expr} {e' : E} (hE : NodeE g c0 call r names e e') (hi : ∀ (env : Env) (whole : Sem Value), isTrue e env whole = (do let v ← whole; standAt e.pos; holding [v] (truthy v))) : NodeT g c0 call r names e e' :=
  fun env A X s as fr σ σ' v Q N hA T ev hQ => by
    refine wpAny_isTrue_value (hE env A X s as fr σ σ' (.bool v) _ N hA T ev fun val as' h' tk st R' F' r' => ?_) (hi _ _)
    rw [RepV] at r'; subst r'
    exact wpAny_truthy_bool (hQ as' h' tk st R' F')
set_option tactic.hygienic false in
theorem x_cmpT {l : Expr} {ops : List CmpOp} {rs : List Expr} {p : Pos} {e' : E} (G : Glob g K c0 fa) (IH : SndE g c0 call r n) (h : cCmp (compE n (c0.sub names)) l ops rs = some e') : NodeT g c0 call r names (.Compare l ops rs p) e' :=
  cmp_inv (P := fun ops rs e' => NodeT g c0 call r names (.Compare l ops rs p) e') h (fun _ _ _ _ h0 h1 h2 => t_cmp G IH h0 h1 h2) fun _ _ _ _ _ _ _ h0 h1 h2 h3 => t_cmp2 G IH h0 h1 h2 h3
set_option tactic.hygienic false in
theorem t_step (G : Glob g K c0 fa) (I : AttInj g) (C : CallOk g fa call r) (IH : SndE g c0 call r n) (IT : SndT g c0 call r n) (e : Expr) (e' : E) (h : compE (n + 1) (c0.sub names) e = some e') : NodeT g c0 call r names e e' := by
  have hE := snd_step G I C IH IT e e' h
  have hk := comp_kind h
  cases e with
  | UnaryOp op x p =>
    cases op with
    | Not => obtain ⟨a, h1, rfl⟩ := map_inv h; exact t_not IT h1
    | _ => exact t_plain hE fun _ _ => rfl
  | BoolOp op vs p => obtain ⟨es, h1, h2⟩ := bind_inv h; exact t_boolop IT h1 h2
  | Compare l ops rs p => exact x_cmpT G IH h
  | _ => first | exact t_plain hE (fun _ _ => rfl) | exact ft hk
set_option tactic.hygienic false in
theorem snd_all (G : Glob g K c0 fa) (I : AttInj g) (C : CallOk g fa call r) : ∀ n, SndE g c0 call r n ∧ SndT g c0 call r n
  | 0 => ⟨fun names e e' h => nn h, fun names e e' h => nn h⟩
  | n + 1 => ⟨fun names e e' h => snd_step G I C (snd_all G I C n).1 (snd_all G I C n).2 e e' h, fun names e e' h => t_step G I C (snd_all G I C n).1 (snd_all G I C n).2 e e' h⟩
end
end Mine

set_option autoImplicit false
set_option maxRecDepth 100000
set_option linter.unusedVariables false
namespace Mine
open PySem PyProof.Rows PySem.W

noncomputable def FlRep (as : List Addr) (h : Heap) : Fl → Flow → Prop
  | .next, f => f = .next
  | .brk, f => f = .brk
  | .cont, f => f = .cont
  | .ret v, f => ∃ val, f = .ret val ∧ RepV as h v val

noncomputable def SPost (g : Cfg) (env : Env) (as : List Addr) (s : Shared) (fl : Fl) (fr' : Fra) (σ' : Sto) (Q : Flow → Shared → Prop) : Prop :=
  ∀ (f : Flow) (as' : List Addr) (h' : Heap) (tk : Nat), FlRep as' h' fl f → Step (ownOf env) as s.heap as' h' → Rel g as' σ' h' → FrRel g env as' fr' h' → Q f { s with heap := h', toks := tk }

noncomputable def SndS (g : Cfg) (c0 : CE) (call : Nat → List V → Sto → RE) (wf r n : Nat) : Prop :=
  ∀ (names : List (Str × NameKind)) (st : Stmt) (st' : S), compS n (c0.sub names) st = some st' →
  ∀ (env : Env) (A : Around) (X : Value → Shared → Prop) (s : Shared) (as : List Addr) (fr fr' : Fra) (σ σ' : Sto) (fl : Fl) (Q : Flow → Shared → Prop),
    NamesOk (c0.sub names) env → Room g A (r + 1) → At g env as fr σ s → evS call wf st' fr σ = .ok fl fr' σ' → SPost g env as s fl fr' σ' Q → wpAny (model g.prog g.w) A (exec st env) Q X s

inductive FRun (src : Src) (tg : List Nat) (one : Bool) (body : Fra → Sto → RS) : Nat → Nat → Fra → Sto → Fl → Fra → Sto → Prop
  | done {i fr σ} : srcAt σ i src = some none → srcLe i src → FRun src tg one body 0 i fr σ .next fr σ
  | step {k i fr σ v fr1 fl fr2 σ2 fl' fr' σ'} : srcAt σ i src = some (some v) → bindT tg one v fr = some fr1 → body fr1 σ = .ok fl fr2 σ2 → (fl = .next ∨ fl = .cont) → FRun src tg one body k (i + 1) fr2 σ2 fl' fr' σ' → FRun src tg one body (k + 1) i fr σ fl' fr' σ'
  | brk {i fr σ v fr1 fr2 σ2} : srcAt σ i src = some (some v) → bindT tg one v fr = some fr1 → body fr1 σ = .ok .brk fr2 σ2 → FRun src tg one body 0 i fr σ .next fr2 σ2
  | ret {i fr σ v fr1 fr2 σ2 w} : srcAt σ i src = some (some v) → bindT tg one v fr = some fr1 → body fr1 σ = .ok (.ret w) fr2 σ2 → FRun src tg one body 0 i fr σ (.ret w) fr2 σ2

theorem forL_run {tg : List Nat} {one : Bool} {body : Fra → Sto → RS} {l : Nat} : ∀ (n i : Nat) (fr fr' : Fra) (σ σ' : Sto) (fl : Fl), forL tg one body l n i fr σ = .ok fl fr' σ' → ∃ k, FRun (.live l) tg one body k i fr σ fl fr' σ'
  | 0, _, _, _, _, _, _, e => by rw [forL] at e; cases e
  | n + 1, i, fr, fr', σ, σ', fl, e => by
    rw [forL] at e
    split at e
    · cases e
    · rename_i xs hx
      split at e
      · rename_i hi
        cases e
        exact ⟨0, .done (by simp [srcAt, hx, hi]) trivial⟩
      · rename_i v hi
        have hs : srcAt σ i (.live l) = some (some v) := by simp [srcAt, hx, hi]
        split at e
        · cases e
        · rename_i f1 hb
          split at e
          · rename_i f2 σ2 hc
            obtain ⟨k, hk⟩ := forL_run n (i + 1) _ _ _ _ _ e
            exact ⟨k + 1, .step hs hb hc (.inl rfl) hk⟩
          · rename_i f2 σ2 hc
            obtain ⟨k, hk⟩ := forL_run n (i + 1) _ _ _ _ _ e
            exact ⟨k + 1, .step hs hb hc (.inr rfl) hk⟩
          · rename_i f2 σ2 hc
            cases e
            exact ⟨0, .brk hs hb hc⟩
          · rename_i h1 h2 h3
            cases fl with
            | next => exact absurd e (h1 _ _)
            | cont => exact absurd e (h2 _ _)
            | brk => exact absurd e (h3 _ _)
            | ret w => exact ⟨0, .ret hs hb e⟩

theorem forV_run {tg : List Nat} {one : Bool} {body : Fra → Sto → RS} {src : Src} {L : List V} (hs : ∀ σ i, srcAt σ i src = some L[i]?) (hl : ∀ i, i ≤ L.length → srcLe i src) : ∀ (vs : List V) (i : Nat) (fr fr' : Fra) (σ σ' : Sto) (fl : Fl), L.drop i = vs → i ≤ L.length →
    forV tg one body vs fr σ = .ok fl fr' σ' → ∃ k, FRun src tg one body k i fr σ fl fr' σ'
  | [], i, fr, fr', σ, σ', fl, hd, hi, e => by
    rw [forV] at e; cases e
    have : L[i]? = none := by rw [List.getElem?_eq_none_iff]; exact List.drop_eq_nil_iff.mp hd
    exact ⟨0, .done (by rw [hs, this]) (hl i hi)⟩
  | v :: vs, i, fr, fr', σ, σ', fl, hd, hi, e => by
    rw [forV] at e
    have hv : L[i]? = some v := by
      have := congrArg (fun l => l[0]?) hd
      simpa using this
    have hlt : i < L.length := (List.getElem?_eq_some_iff.mp hv).1
    have hs' : srcAt σ i src = some (some v) := by rw [hs, hv]
    have hd' : L.drop (i + 1) = vs := by rw [← List.drop_drop, hd]; rfl
    split at e
    · cases e
    · rename_i f1 hb
      split at e
      · rename_i f2 σ2 hc
        obtain ⟨k, hk⟩ := forV_run hs hl vs (i + 1) _ _ _ _ _ hd' hlt e
        exact ⟨k + 1, .step hs' hb hc (.inl rfl) hk⟩
      · rename_i f2 σ2 hc
        obtain ⟨k, hk⟩ := forV_run hs hl vs (i + 1) _ _ _ _ _ hd' hlt e
        exact ⟨k + 1, .step hs' hb hc (.inr rfl) hk⟩
      · rename_i f2 σ2 hc
        cases e
        exact ⟨0, .brk hs' hb hc⟩
      · rename_i h1 h2 h3
        cases fl with
        | next => exact absurd e (h1 _ _)
        | cont => exact absurd e (h2 _ _)
        | brk => exact absurd e (h3 _ _)
        | ret w => exact ⟨0, .ret hs' hb e⟩

set_option tactic.hygienic false in
theorem bindS_ok {r : RE} {fr : Fra} {k : V → Sto → RS} {fl : Fl} {fr' : Fra} {σ' : Sto} (e : r.bindS fr k = .ok fl fr' σ') : ∃ u τ, r = .ok u τ ∧ k u τ = .ok fl fr' σ' := by
  cases r with
  | ok u τ => exact ⟨u, τ, rfl, e⟩
  | ex x τ => cases e
  | bad => cases e

set_option tactic.hygienic false in
theorem bindS_el {r : RE} {fr : Fra} {k : V → Sto → RS} {fl : Fl} {fr' : Fra} {σ' : Sto} {P : Prop} (e : r.bindS fr k = .ok fl fr' σ') (h : ∀ u τ, r = .ok u τ → k u τ = .ok fl fr' σ' → P) : P := let ⟨u, τ, h1, h2⟩ := bindS_ok e; h u τ h1 h2

set_option tactic.hygienic false in
theorem bindX_ok {r : RE} {fr : Fra} {k : V → Sto → RS} {fl : Fl} {fr' : Fra} {σ' : Sto} {b : Bool} (e : r.bindX b fr k = .ok fl fr' σ') : ∃ u τ, r = .ok u τ ∧ k u τ = .ok fl fr' σ' := by
  cases r with
  | ok u τ => exact ⟨u, τ, rfl, e⟩
  | ex x τ => cases b <;> cases e
  | bad => cases e

set_option tactic.hygienic false in
theorem bindX_el {r : RE} {fr : Fra} {k : V → Sto → RS} {fl : Fl} {fr' : Fra} {σ' : Sto} {P : Prop} {b : Bool} (e : r.bindX b fr k = .ok fl fr' σ') (h : ∀ u τ, r = .ok u τ → k u τ = .ok fl fr' σ' → P) : P := let ⟨u, τ, h1, h2⟩ := bindX_ok e; h u τ h1 h2

section
variable {g : Cfg} {K : Frag} {c0 : CE} {fa : Nat → Option Addr} {call : Nat → List V → Sto → RE} {env : Env} {A : Around} {X : Value → Shared → Prop} {s : Shared} {as : List Addr} {fr fr' : Fra} {σ σ' : Sto} {wf r n : Nat}
  {names : List (Str × NameKind)} {fl : Fl} {Q : Flow → Shared → Prop}

set_option tactic.hygienic false in
theorem own_notImm {h : Heap} (F : FrRel g env as fr h) : ∀ a ∈ ownOf env, ∀ o, h.get? a = some o → ¬ Imm o := fun a ha o e hi => by
  rcases own_cases ha with rfl | ⟨x, hx⟩
  · exact F.notImm _ (.head _) o e hi
  · obtain ⟨cv, o', e', hd⟩ := (F.offc _ _ hx).2.2
    rw [e] at e'; cases e'; exact hi.2.2 _ hd

set_option tactic.hygienic false in
theorem spost_of {as' : List Addr} {h' : Heap} {tk : Nat} (hQ : SPost g env as s fl fr' σ' Q) (x : Step (ownOf env) as s.heap as' h') : SPost g env as' { s with heap := h', toks := tk } fl fr' σ' Q :=
  fun f as2 h2 tk2 hf st R2 F2 => hQ f as2 h2 tk2 hf (x.trans st R2.nd F2.offs) R2 F2
set_option tactic.hygienic false in
theorem up {as' : List Addr} {h h' : Heap} (x : Step [env.locals] as h as' h') : Step (ownOf env) as h as' h' := x.grow (by intro a ha; simp at ha; subst ha; exact .head _)

noncomputable def SndL (g : Cfg) (c0 : CE) (call : Nat → List V → Sto → RE) (wf r n : Nat) : Prop :=
  ∀ (names : List (Str × NameKind)) (sts : List Stmt) (sts' : List S), mapO (compS n (c0.sub names)) sts = some sts' →
  ∀ (env : Env) (A : Around) (X : Value → Shared → Prop) (s : Shared) (as : List Addr) (fr fr' : Fra) (σ σ' : Sto) (fl : Fl) (Q : Flow → Shared → Prop),
    NamesOk (c0.sub names) env → Room g A (r + 1) → At g env as fr σ s → evSs call wf sts' fr σ = .ok fl fr' σ' → SPost g env as s fl fr' σ' Q → wpAny (model g.prog g.w) A (execs sts env) Q X s

theorem snd_list (IS : SndS g c0 call wf r n) : SndL g c0 call wf r n := by
  intro names sts
  induction sts with
  | nil =>
    intro sts' h env A X s as fr fr' σ σ' fl Q N hA T ev hQ
    rw [mapO] at h; cases h
    rw [evSs] at ev; cases ev
    exact wpAny_execs_nil (hQ .next as s.heap s.toks rfl (Step.refl _ _ _) T.R T.F)
  | cons st sts ih =>
    intro sts' h env A X s as fr fr' σ σ' fl Q N hA T ev hQ
    obtain ⟨a, as', h1, h2, rfl⟩ := mapO_cons h
    rw [evSs] at ev
    dsimp only at ev
    refine wpAny_execs_cons ?_
    split at ev
    · rename_i f1 σ1 he
      refine IS names st a h1 env A X s as fr f1 σ σ1 .next _ N hA T he fun f as1 k1 tk1 hf st1 R1 F1 => ?_
      have hf' : f = .next := hf
      subst hf'
      exact ih as' h2 env A X _ as1 f1 fr' σ1 σ' fl Q N hA ⟨F1, R1⟩ ev (spost_of hQ st1)
    · rename_i hn
      refine IS names st a h1 env A X s as fr fr' σ σ' fl _ N hA T ev fun f as1 k1 tk1 hf st1 R1 F1 => ?_
      have hq := hQ f as1 k1 tk1 hf st1 R1 F1
      cases fl with
      | next => exact absurd ev (hn _ _)
      | brk => have : f = .brk := hf; subst this; exact hq
      | cont => have : f = .cont := hf; subst this; exact hq
      | ret v => obtain ⟨val, hv, _⟩ := hf; subst hv; exact hq

structure FI (g : Cfg) (env : Env) (fr : Fra) (s : Shared) (as : List Addr) (src : Src) (I : Addr) (i : Nat) (as1 : List Addr) (σ : Sto) (h : Heap) : Prop where
  st : Step (ownOf env) as s.heap as1 h
  R : Rel g as1 σ h
  F : FrRel g env as1 fr h
  it : ItAt src I i as1 h
  offI : I ∉ as1

structure FX (g : Cfg) (env : Env) (s : Shared) (I : Addr) : Prop where
  own : I ∉ ownOf env
  Ib : g.b.get? I = none
  In : s.heap.get? I = none

set_option tactic.hygienic false in
theorem FI.step {src : Src} {I : Addr} {i : Nat} {as1 as2 : List Addr} {h h2 : Heap} {σ2 : Sto} {fr2 : Fra} (Z : FX g env s I) (C : FI g env fr s as src I i as1 σ h) (x : Step (ownOf env) as1 h as2 h2) (R2 : Rel g as2 σ2 h2) (F2 : FrRel g env as2 fr2 h2) :
    FI g env fr2 s as src I i as2 σ2 h2 := by
  have K2 := C.R.keep x (own_notImm C.F)
  refine ⟨C.st.trans x R2.nd F2.offs, R2, F2, C.it.keep K2 fun o e => x.ext I o e Z.own C.offI, fun q => ?_⟩
  obtain ⟨⟨t, rfl, ht⟩, _⟩ := x
  rcases List.mem_append.mp q with q | q
  · exact C.offI q
  · obtain ⟨o, e, _⟩ := C.it.there; rw [ht I q] at e; cases e

set_option tactic.hygienic false in
theorem FI.next {src : Src} {I : Addr} {i j : Nat} {as1 : List Addr} {h h2 : Heap} (Z : FX g env s I) (C : FI g env fr s as src I i as1 σ h) (k : ∀ (b : Addr) (o : Obj), b ≠ I → h.get? b = some o → h2.get? b = some o) :
    Step (ownOf env) as s.heap as1 h2 ∧ Rel g as1 σ h2 ∧ FrRel g env as1 fr h2 := by
  have hni : ∀ o, h.get? I = some o → ¬ Imm o := fun o e => by obtain ⟨o', e', q⟩ := C.it.there; rw [e] at e'; cases e'; exact q
  obtain ⟨K2, R2⟩ := C.R.other k C.offI Z.Ib hni
  have hL : env.locals ≠ I := fun q => Z.own (by rw [← q]; exact .head _)
  have hc : ∀ x c, env.cells.lookup x = some c → c ≠ I := fun x c e q => Z.own (by rw [← q]; exact mem_own e)
  have F2 := C.F.alter K2 k hL hc (fun a ha => .inl ha)
  refine ⟨?_, R2, F2⟩
  have a2 : Step (I :: ownOf env) as1 h as1 h2 := ⟨⟨[], by simp, by simp⟩, fun b o e hb _ => k b o (by intro q; subst q; simp at hb) e⟩
  have a1 : Step (I :: ownOf env) as s.heap as1 h := C.st.grow (fun a ha => .tail _ ha)
  exact (a1.trans a2 R2.nd (by intro a ha; rcases List.mem_cons.mp ha with rfl | ha; exact C.offI; exact F2.offs a ha)).shrink (by
    intro a ha; rcases List.mem_cons.mp ha with rfl | ha
    · exact .inr Z.In
    · exact .inl ha)

set_option tactic.hygienic false in
theorem for_turnG {target : Expr} {tg : List Nat} {one : Bool} {src : Src} {I : Addr} {i : Nat} {as1 : List Addr} {h : Heap} {tk : Nat} {v : V} {fr1 : Fra} {Qn : Option Value → Shared → Prop} {Qb : Shared → Prop} {Y1 Y2 : Value → Shared → Prop}
    (Z : FX g env s I) (N : NamesOk (c0.sub names) env) (hA : Room g A (r + 1)) (ht : tgt (c0.sub names) target = some (tg, one)) (C : FI g env fr s as src I i as1 σ h) (e : srcAt σ i src = some (some v)) (hb : bindT tg one v fr = some fr1)
    (hn : ∀ v s₁, wpAny (model g.prog g.w) A (letOwnedTupleGo target (.ref I) v) (fun _ s₁ => wpAny (model g.prog g.w) A (assign target env v) (fun _ s₂ => Qb s₂) Y2 s₁) Y1 s₁ → Qn (some v) s₁)
    (hq : ∀ as4 h4 tk4, FI g env fr1 s as src I (i + 1) as4 σ h4 → Qb { s with heap := h4, toks := tk4 }) : wpAny (model g.prog g.w) A (pyNext (.ref I)) Qn X { s with heap := h, toks := tk } := by
  refine it_next C.R C.it C.offI Z.Ib e fun val h1 tk1 kk1 K1 R1 it1 r1 => hn _ _ ?_
  obtain ⟨st2, R2, F2⟩ := C.next (j := i) Z kk1
  have C1 : FI g env fr s as src I (i + 1) as1 σ h1 := ⟨st2, R2, F2, it1, C.offI⟩
  refine o_go (s := { s with heap := h1, toks := tk1 }) it1 ?_
  exact o_assign (own := ownOf env) (s := { s with heap := h1, toks := tk1 }) hA.handled ⟨C1.F, C1.R⟩ N (owns_all _ _) ht r1 hb fun as2 h2' tk2 st3 K3 R3 F3 => hq _ _ _ (C1.step Z st3 R3 F3)
set_option tactic.hygienic false in
theorem for_turn {target : Expr} {body : List Stmt} {body' : List S} {tg : List Nat} {one : Bool} {src : Src} {I : Addr} {i : Nat} {as1 : List Addr} {h : Heap} {tk : Nat} {v : V} {fr1 fr2 : Fra} {fl1 : Fl} {σ2 : Sto} {Qn : Option Value → Shared → Prop} {Q4 : Flow → Shared → Prop} {Y1 Y2 Y3 : Value → Shared → Prop}
    (IL : SndL g c0 call wf r n) (Z : FX g env s I) (N : NamesOk (c0.sub names) env) (hA : Room g A (r + 1)) (ht : tgt (c0.sub names) target = some (tg, one)) (h2 : mapO (compS n (c0.sub names)) body = some body')
    (C : FI g env fr s as src I i as1 σ h) (e : srcAt σ i src = some (some v)) (hb : bindT tg one v fr = some fr1) (hc : evSs call wf body' fr1 σ = .ok fl1 fr2 σ2)
    (hn : ∀ v s₁, wpAny (model g.prog g.w) A (letOwnedTupleGo target (.ref I) v) (fun _ s₁ => wpAny (model g.prog g.w) A (assign target env v) (fun _ s₂ => wpAny (model g.prog g.w) A (execs body env) Q4 Y3 s₂) Y2 s₁) Y1 s₁ → Qn (some v) s₁)
    (hq : ∀ f as4 h4 tk4, FlRep as4 h4 fl1 f → FI g env fr2 s as src I (i + 1) as4 σ2 h4 → Q4 f { s with heap := h4, toks := tk4 }) : wpAny (model g.prog g.w) A (pyNext (.ref I)) Qn X { s with heap := h, toks := tk } :=
  for_turnG Z N hA ht C e hb hn fun as2 h2' tk2 C2 =>
    IL names body body' h2 env A _ { s with heap := h2', toks := tk2 } as2 fr1 fr2 σ σ2 fl1 _ N hA ⟨C2.F, C2.R⟩ hc fun f as4 h4 tk4 hf st4 R4 F4 => hq f as4 h4 tk4 hf (C2.step Z st4 R4 F4)
inductive ForI (g : Cfg) (env : Env) (s : Shared) (as : List Addr) (src : Src) (I : Addr) (tg : List Nat) (one : Bool) (bd : Fra → Sto → RS) (fl : Fl) (fr' : Fra) (σ' : Sto) : Nat → Shared → Prop
  | mk {k i : Nat} {fr : Fra} {σ : Sto} {as1 : List Addr} {h : Heap} {tk : Nat} (run : FRun src tg one bd k i fr σ fl fr' σ') (C : FI g env fr s as src I i as1 σ h) : ForI g env s as src I tg one bd fl fr' σ' k { s with heap := h, toks := tk }
set_option tactic.hygienic false in
theorem for_turns {target : Expr} {body : List Stmt} {body' : List S} {tg : List Nat} {one : Bool} {src : Src} {I : Addr} {i k : Nat} {as1 : List Addr} {h : Heap} {tk : Nat}
    (IL : SndL g c0 call wf r n) (Z : FX g env s I) (N : NamesOk (c0.sub names) env) (hA : Room g A (r + 1)) (ht : tgt (c0.sub names) target = some (tg, one)) (h2 : mapO (compS n (c0.sub names)) body = some body')
    (run : FRun src tg one (evSs call wf body') k i fr σ fl fr' σ') (C : FI g env fr s as src I i as1 σ h) (hQ : SPost g env as s fl fr' σ' Q) :
    codeAny (model g.prog g.w) A (.forLoop target (.ref I) body [] env) (fun r s' => match r with | .ok f => Q f s' | .error e => cameBackBy (model g.prog g.w) A env X e s') { s with heap := h, toks := tk } := by
  refine for_loop (ForI g env s as src I tg one (evSs call wf body') fl fr' σ') ?_ k ⟨run, C⟩
  rintro k _ ⟨run, C⟩
  cases run with
  | done e hle =>
    refine it_done hA.handled C.R C.it C.offI Z.Ib hle.rng hle.tup e fun h' tk' kk K' R' => ?_
    obtain ⟨st2, R2, F2⟩ := C.next (j := 0) Z kk
    exact wpAny_execs_nil (hQ .next _ h' tk' rfl st2 R2 F2)
  | step e hb hc hfl run' =>
    refine for_turn IL Z N hA ht h2 C e hb hc (fun _ _ h => h) fun f as4 h4 tk4 hf C4 => ?_
    rcases hfl with rfl | rfl
    · have : f = .next := hf; subst this
      exact ⟨_, Nat.lt_succ_self _, run', C4⟩
    · have : f = .cont := hf; subst this
      exact ⟨_, Nat.lt_succ_self _, run', C4⟩
  | brk e hb hc =>
    refine for_turn IL Z N hA ht h2 C e hb hc (fun _ _ h => h) fun f as4 h4 tk4 hf C4 => ?_
    have : f = .brk := hf; subst this
    exact hQ .next as4 h4 tk4 rfl C4.st C4.R C4.F
  | ret e hb hc =>
    refine for_turn IL Z N hA ht h2 C e hb hc (fun _ _ h => h) fun f as4 h4 tk4 hf C4 => ?_
    obtain ⟨val', hv, rv⟩ := hf; subst hv
    exact hQ (.ret val') as4 h4 tk4 ⟨val', rfl, rv⟩ C4.st C4.R C4.F
end
end Mine

set_option autoImplicit false
set_option maxRecDepth 100000
set_option linter.unusedVariables false
namespace Mine
open PySem PyProof.Rows PySem.W

section
variable {g : Cfg} {K : Frag} {c0 : CE} {fa : Nat → Option Addr} {call : Nat → List V → Sto → RE} {env : Env} {A : Around} {X : Value → Shared → Prop} {s : Shared} {as : List Addr} {fr fr' : Fra} {σ σ' : Sto} {wf r n : Nat}
  {names : List (Str × NameKind)} {fl : Fl} {Q : Flow → Shared → Prop}

noncomputable def NodeS (g : Cfg) (c0 : CE) (call : Nat → List V → Sto → RE) (wf r : Nat) (names : List (Str × NameKind)) (st : Stmt) (st' : S) : Prop :=
  ∀ (env : Env) (A : Around) (X : Value → Shared → Prop) (s : Shared) (as : List Addr) (fr fr' : Fra) (σ σ' : Sto) (fl : Fl) (Q : Flow → Shared → Prop),
    NamesOk (c0.sub names) env → Room g A (r + 1) → At g env as fr σ s → evS call wf st' fr σ = .ok fl fr' σ' → SPost g env as s fl fr' σ' Q → wpAny (model g.prog g.w) A (exec st env) Q X s

set_option tactic.hygienic false in
theorem inter_false (F : FrRel g env as fr s.heap) : interactive env = false := by
  unfold interactive; rw [F.kind]; rfl
set_option tactic.hygienic false in
theorem swap_none {e : Expr} {line : Nat} (h : ∀ a b c d, e ≠ .ListComp a b c d) {e' : E} {c : CE} (hc : compE n c e = some e') : swapsWith e none line env = pure false := by
  have hk := comp_kind hc
  cases e <;> first | rfl | exact absurd rfl (h _ _ _ _) | exact ft hk
set_option tactic.hygienic false in
theorem swap_some {e : Expr} {line : Nat} {t : Expr} (h : ∀ a b c d, e ≠ .ListComp a b c d) {e' : E} {c : CE} (hc : compE n c e = some e') : swapsWith e (some t) line env = pure false := by
  have hk := comp_kind hc
  cases e <;> first | rfl | exact absurd rfl (h _ _ _ _) | exact ft hk
set_option tactic.hygienic false in
theorem swap_other {e : Expr} {line : Nat} {t : Expr} (ht : ∀ x p, t ≠ .Name x p) {e' : E} {c : CE} (hc : compE n c e = some e') : swapsWith e (some t) line env = pure false := by
  by_cases h : ∃ a b c d, e = .ListComp a b c d
  · obtain ⟨a, b, c', d, rfl⟩ := h
    cases t <;> first | rfl | exact absurd rfl (ht _ _)
  · exact swap_some (fun a b c d q => h ⟨a, b, c, d, q⟩) hc

set_option tactic.hygienic false in
theorem s_expr {e : Expr} {e' : E} {p : Pos} (IH : SndE g c0 call r n) (hn : ∀ a b c d, e ≠ .ListComp a b c d) (h : compE n (c0.sub names) e = some e') : NodeS g c0 call wf r names (.Expr e p) (.expr e') := fun env A X s as fr fr' σ σ' fl Q N hA T ev hQ => by
  refine bindX_el ev fun u τ e1 e2 => ?_
  cases e2
  exact wpAny_Expr_any (IH names e e' h env A X s as fr σ _ u _ N hA T e1 fun val as' h' tk st R' F' r' => hQ .next as' h' tk rfl (up st) R' F') (inter_false T.F) (swap_none hn h)
set_option tactic.hygienic false in
theorem s_ret {e : Expr} {e' : E} {p : Pos} (IH : SndE g c0 call r n) (h : compE n (c0.sub names) e = some e') : NodeS g c0 call wf r names (.Return (some e) p) (.ret e') := fun env A X s as fr fr' σ σ' fl Q N hA T ev hQ => by
  refine bindX_el ev fun u τ e1 e2 => ?_
  cases e2
  exact wpAny_Return_some (IH names e e' h env A X s as fr σ _ u _ N hA T e1 fun val as' h' tk st R' F' r' => hQ (.ret val) as' h' tk ⟨val, rfl, r'⟩ (up st) R' F')
set_option tactic.hygienic false in
theorem s_pass {p : Pos} : NodeS g c0 call wf r names (.Pass p) .pass := fun env A X s as fr fr' σ σ' fl Q N hA T ev hQ => by
  cases (show RS.ok .next fr σ = .ok fl fr' σ' from ev)
  exact wpAny_Pass (hQ .next as s.heap s.toks rfl (Step.refl _ _ _) T.R T.F)

set_option tactic.hygienic false in
theorem fpost_of {as' : List Addr} {h' : Heap} {tk : Nat} (hQ : SPost g env as s .next fr' σ' Q) (st : Step (ownOf env) as s.heap as' h') : FPost g env (ownOf env) as' σ' { s with heap := h', toks := tk } fr' (fun _ => Q .next) :=
  fun as2 h2 tk2 st2 K2 R2 F2 => hQ .next as2 h2 tk2 rfl (st.trans st2 R2.nd F2.offs) R2 F2

set_option tactic.hygienic false in
theorem evalThen_comp {elt : Expr} {gens : List Comprehension} {sc : Scope} {p : Pos} {u : Value → Sem Unit} : evalThenUse (.ListComp elt gens sc p) env u = (do
    let _ ← comprehension (.ListComp elt gens sc p) sc env (firstIterPos gens p) (newList []) (firstAsync gens) (firstIter gens env) (some u)) := rfl

theorem s_asg {x : Str} {i : Nat} {e : Expr} {e' : E} {p xp : Pos} (IH : SndE g c0 call r (n + 1)) (IH' : SndE g c0 call r n) (IT' : SndT g c0 call r n) (hx : (c0.sub names).locW? x = some i) (h : compE (n + 1) (c0.sub names) e = some e') : NodeS g c0 call wf r names (.Assign [.Name x xp] e p) (.asg i e') :=
  fun env A X s as fr fr' σ σ' fl Q N hA T ev hQ => by
  refine bindX_el ev fun u τ e1 e2 => ?_
  split at e2
  case isFalse => cases e2
  rename_i hi
  cases e2
  have plain : swapsWith e (some (.Name x xp)) p.line env = pure false → wpAny (model g.prog g.w) A (exec (.Assign [.Name x xp] e p) env) Q X s := fun hs =>
    wpAny_Assign_Name (IH names e e' h env A X s as fr σ _ u _ N hA T e1 fun val as' h' tk st R' F' r' => o_store (own := ownOf env) (s := { s with heap := h', toks := tk }) ⟨F', R'⟩ N (owns_all _ _) hx r' (fpost_of hQ (up st))) hs
  by_cases hc : ∃ a b c d, e = .ListComp a b c d
  · obtain ⟨elt, gens, sc, lp, rfl⟩ := hc
    have hb : ∃ b : Bool, swapsWith (.ListComp elt gens sc lp) (some (.Name x xp)) p.line env = pure b := ⟨_, rfl⟩
    obtain ⟨b, hb⟩ := hb
    cases b with
    | false => exact plain hb
    | true =>
      rw [exec_Assign_Name_used _ _ _ _ hb]
      refine wpAny_bind (wpAny_standAt (wpAny_bind ?_))
      have inv : ∃ target iter ifs it' tg one cs x' frm, gens = [⟨target, iter, ifs, 0⟩] ∧ e' = .comp tg one it' cs x' frm ∧ scOk sc = true ∧ compE n (c0.sub names) iter = some it' ∧ tgt (c0.sub sc.names) target = some (tg, one) ∧
          mapO (compE n (c0.sub sc.names)) ifs = some cs ∧ compE n (c0.sub sc.names) elt = some x' ∧ frmOf (c0.sub names) sc = some frm := by
        exact comp_compile h
      obtain ⟨target, iter, ifs, it', tg, one, cs, x', frm, rfl, rfl, ho, q1, q2, q3, q4, q5⟩ := inv
      obtain ⟨u', τ', src, k, ys, σ2, f1, f2, f3, f4, f5⟩ := comp_inv e1
      have hlen := newL_len f5
      unfold newL at f5
      rw [if_pos hlen] at f5
      cases f5
      rw [evalThen_comp]
      refine wpAny_bind (wpAny_mono (comp_core (use := some (assign (.Name x xp) env)) (Q := fun _ s' => Q .next s') IH' IT' N hA T q1 q2 q3 q4 q5 ho f1 f2 f3 f4 hlen fun as' h' tk C D m st R' F' hl hm hC hCL hcc hCb hCn => ?_) (fun _ s' hq => wpAny_pure (wpAny_pure hq)) fun _ _ e => e)
      show wpAny _ A (assign (.Name x xp) env (.ref D)) _ X _
      have rD : RepV (as' ++ [D]) h' (.ref σ2.length) (.ref D) := by rw [RepV]; exact ⟨D, rfl, by rw [← hl]; simp⟩
      refine wpAny_assign_Name (o_store (own := ownOf env) (s := { s with heap := h', toks := tk }) ⟨F', R'⟩ N (owns_all _ _) hx rD fun as2 h2 tk2 st2 K2 R2 F2 => ?_)
      have hCo : C ∉ ownOf env := fun q => by
        rcases own_cases q with q | ⟨y, q⟩
        · exact hCL q
        · exact hcc _ _ q rfl
      have hm2 : ∃ m2, h2.Ns C m2 := ⟨m, hm.at' fun o e => st2.ext _ o e hCo hC⟩
      obtain ⟨m2, hm2⟩ := hm2
      refine ⟨m2, hm2, fun h3 hs3 => ?_⟩
      have kk : ∀ (b : Addr) (o : Obj), b ≠ C → h2.get? b = some o → h3.get? b = some o := fun b o hb e => by rw [hs3.2 b hb]; exact e
      have hni : ∀ o, h2.get? C = some o → ¬ Imm o := fun o e hi => by
        obtain ⟨o', es, ep, e', d, _⟩ := hm2; rw [e] at e'; cases e'; exact hi.2.1 _ _ d
      have hC2 : C ∉ as2 := by
        obtain ⟨⟨t, rfl, ht⟩, _⟩ := st2
        intro q
        rcases List.mem_append.mp q with q | q
        · exact hC q
        · have h5 := ht C q
          obtain ⟨o', es, ep, e', _⟩ := hm
          have h5' : h'.get? C = none := h5
          rw [h5'] at e'; cases e'
      obtain ⟨K3, R3⟩ := R2.other kk hC2 hCb hni
      have F3 := F2.alter K3 kk (Ne.symm hCL) hcc (fun a ha => .inl ha)
      have S3 : Step (ownOf env) as s.heap as2 h3 := by
        have a3 : Step (C :: ownOf env) as2 h2 as2 h3 := ⟨⟨[], by simp, by simp⟩, fun b ob e hb _ => kk b ob (by intro q; subst q; simp at hb) e⟩
        have a2 : Step (C :: ownOf env) (as' ++ [D]) h' as2 h2 := st2.grow (fun a ha => .tail _ ha)
        have a1 : Step (C :: ownOf env) as s.heap (as' ++ [D]) h' := (up st).grow (fun a ha => .tail _ ha)
        have off : ∀ a ∈ C :: ownOf env, a ∉ as2 := by intro a ha; rcases List.mem_cons.mp ha with rfl | ha; exact hC2; exact F3.offs a ha
        exact ((a1.trans a2 R3.nd off).trans a3 R3.nd off).shrink (by
          intro a ha; rcases List.mem_cons.mp ha with rfl | ha
          · exact .inr hCn
          · exact .inl ha)
      exact hQ .next as2 h3 tk2 rfl S3 R3 F3
  · exact plain (swap_some (fun a b c d q => hc ⟨a, b, c, d, q⟩) h)
set_option tactic.hygienic false in
theorem swapped_none {ts : List Expr} {k : Nat} {tp : Pos} {e : Expr} (h : (∃ x p, e = .Name x p) ∨ (∃ f as ks p, e = .Call f as ks p) ∨ ∃ o i p, e = .Subscript o i p) : swappedStores [.Tuple ts k tp] e env = pure none := by
  rcases h with ⟨_, _, rfl⟩ | ⟨_, _, _, _, rfl⟩ | ⟨_, _, _, rfl⟩ <;> rfl

theorem s_asgT {ts : List Expr} {k : Nat} {tp p : Pos} {is : List Nat} {e : Expr} {e' : E} (IH : SndE g c0 call r n) (hx : nameIdxs (c0.sub names) ts = some is) (hn : (∃ x p, e = .Name x p) ∨ (∃ f as ks p, e = .Call f as ks p) ∨ ∃ o i p, e = .Subscript o i p) (h : compE n (c0.sub names) e = some e') :
    NodeS g c0 call wf r names (.Assign [.Tuple ts k tp] e p) (.asgT is e') := fun env A X s as fr fr' σ σ' fl Q N hA T ev hQ => by
  refine bindS_el (fr := fr) ev fun u τ e1 e2 => ?_
  split at e2
  case h_2 => cases e2
  rename_i f1 hb
  cases e2
  refine Assign_Tuple (IH names e e' h env A X s as fr σ _ u _ N hA T e1 fun val as' h' tk st R' F' r' => ?_) (show swapsWithSole [.Tuple ts k tp] e p.line env = pure false from swap_other (env := env) (line := p.line) (t := .Tuple ts k tp) (by simp) h) (swapped_none hn)
  exact o_assign (own := ownOf env) (s := { s with heap := h', toks := tk }) (target := .Tuple ts k tp) (tg := is) (one := false) hA.handled ⟨F', R'⟩ N (owns_all _ _) (by show (nameIdxs (c0.sub names) ts).map _ = _; rw [hx]; rfl) r' hb (fpost_of hQ (up st))

theorem s_asgA {o e : Expr} {x : Str} {k : Nat} {op p : Pos} {o' e' : E} (G : Glob g K c0 fa) (J : AttInj g) (IH : SndE g c0 call r n) (h0 : compE n (c0.sub names) o = some o') (hk : c0.attrs.lookup x = some k) (h : compE n (c0.sub names) e = some e') :
    NodeS g c0 call wf r names (.Assign [.Attribute o x op] e p) (.asgA o' k e') := fun env A X s as fr fr' σ σ' fl Q N hA T ev hQ => by
  refine bindS_el (fr := fr) ev fun u τ e1 e2 => ?_
  refine bindS_el (fr := fr) e2 fun w τ' e3 e4 => ?_
  split at e4
  case h_2 => cases e4
  rename_i σ1 hs
  cases e4
  refine plainObj_wpAny_Assign_Attribute (two IH h h0 N hA T e1 e3 fun x y as' h' tk st R' F' r1 r2 => ?_) (swap_other (by simp) h)
  exact o_setAttr G J (T.step (tk := tk) R' F') r2 r1 hk hs fun as2 h2 tk2 st2 R2 F2 => hQ .next as2 h2 tk2 rfl (up (step_trans st st2 R2 F2)) R2 F2

theorem s_asgI {o i e : Expr} {op p : Pos} {o' i' e' : E} (IH : SndE g c0 call r n) (h0 : compE n (c0.sub names) o = some o') (h1 : compE n (c0.sub names) i = some i') (h : compE n (c0.sub names) e = some e') :
    NodeS g c0 call wf r names (.Assign [.Subscript o i op] e p) (.asgI o' i' e') := fun env A X s as fr fr' σ σ' fl Q N hA T ev hQ => by
  refine bindS_el (fr := fr) ev fun u τ e1 e2 => ?_
  refine bindS_el (fr := fr) e2 fun w τ' e3 e4 => ?_
  refine bindS_el (fr := fr) e4 fun z τ2 e5 e6 => ?_
  split at e6
  case h_2 => cases e6
  rename_i σ1 hs
  cases e6
  refine wpAny_Assign_Subscript (two (Q := fun v ov s2 => wpAny (model g.prog g.w) A (eval i env) (fun iv s₃ => wpAny (model g.prog g.w) A (setItem ov iv v) (fun _ => Q .next) X s₃) X s2) IH h h0 N hA T e1 e3 fun x y as' h' tk st R' F' r1 r2 => ?_) (swap_other (by simp) h)
  refine IH names i i' h1 env A X _ as' fr τ' _ z _ N hA (T.step (tk := tk) R' F') e5 fun val as2 h2 tk2 st2 R2 F2 r3 => ?_
  have kp := At.keep (s := { s with heap := h', toks := tk }) ⟨F', R'⟩ st2
  refine o_setItem (s := { s with heap := h2, toks := tk2 }) ⟨F2, R2⟩ hA (RepV.keep kp _ _ r2) r3 (RepV.keep kp _ _ r1) hs fun as3 h3 tk3 st3 R3 F3 => ?_
  exact hQ .next as3 h3 tk3 rfl (up (step_trans (step_trans st st2 R2 F2) st3 R3 F3)) R3 F3

set_option tactic.hygienic false in
theorem s_if {t : Expr} {b o : List Stmt} {t' : E} {b' o' : List S} {p : Pos} (IT : SndT g c0 call r n) {m : Nat} (IL : SndL g c0 call wf r m) (h0 : compE n (c0.sub names) t = some t') (h1 : mapO (compS m (c0.sub names)) b = some b') (h2 : mapO (compS m (c0.sub names)) o = some o') :
    NodeS g c0 call wf r names (.If t b o p) (.ifS t' b' o') := fun env A X s as fr fr' σ σ' fl Q N hA T ev hQ => by
  refine bindS_el (fr := fr) ev fun u τ e1 e2 => ?_
  split at e2
  · refine wpAny_If (IT names t t' h0 env A X s as fr σ τ true _ N hA T e1 fun as' h' tk st R' F' => ?_)
    rw [if_pos rfl]
    exact IL names b b' h1 env A X _ as' fr fr' τ σ' fl Q N hA ⟨F', R'⟩ e2 (spost_of hQ (up st))
  · refine wpAny_If (IT names t t' h0 env A X s as fr σ τ false _ N hA T e1 fun as' h' tk st R' F' => ?_)
    rw [if_neg Bool.false_ne_true]
    exact IL names o o' h2 env A X _ as' fr fr' τ σ' fl Q N hA ⟨F', R'⟩ e2 (spost_of hQ (up st))
  · cases e2

inductive WI (g : Cfg) (call : Nat → List V → Sto → RE) (wf : Nat) (env : Env) (s : Shared) (as : List Addr) (t' : E) (b' : List S) (fl : Fl) (fr' : Fra) (σ' : Sto) (k : Nat) : Shared → Prop
  | mk (fr1 : Fra) (σ1 : Sto) (as1 : List Addr) (h1 : Heap) (tk1 : Nat) (ev : whileL (evE call t') (evSs call wf b') k fr1 σ1 = .ok fl fr' σ') (st : Step (ownOf env) as s.heap as1 h1) (R : Rel g as1 σ1 h1) (F : FrRel g env as1 fr1 h1) :
      WI g call wf env s as t' b' fl fr' σ' k { s with heap := h1, toks := tk1 }
set_option tactic.hygienic false in
theorem while_inv {test : Fra → Sto → RE} {body : Fra → Sto → RS} {k : Nat} {P : Prop} (e : whileL test body (k + 1) fr σ = .ok fl fr' σ') (H0 : ∀ τ, test fr σ = .ok (.bool false) τ → fl = .next → fr' = fr → σ' = τ → P)
    (H1 : ∀ τ f2 σ2 f, test fr σ = .ok (.bool true) τ → body fr τ = .ok f f2 σ2 → (f = .next ∨ f = .cont) → whileL test body k f2 σ2 = .ok fl fr' σ' → P)
    (H2 : ∀ τ, test fr σ = .ok (.bool true) τ → body fr τ = .ok .brk fr' σ' → fl = .next → P)
    (H3 : ∀ τ w, test fr σ = .ok (.bool true) τ → body fr τ = .ok fl fr' σ' → fl = .ret w → P) : P := by
  rw [whileL] at e
  refine bindS_el (fr := fr) e fun u τ e1 e2 => ?_
  cases u with
  | bool b => cases b with
    | false => cases e2; exact H0 _ e1 rfl rfl rfl
    | true =>
      cases hb : body fr τ with
      | bad => simp only [hb] at e2; cases e2
      | ex x f s => simp only [hb] at e2; cases e2
      | ok f f2 σ2 =>
        simp only [hb] at e2
        cases f with
        | next => exact H1 _ _ _ _ e1 hb (.inl rfl) e2
        | cont => exact H1 _ _ _ _ e1 hb (.inr rfl) e2
        | brk => cases e2; exact H2 _ e1 hb rfl
        | ret w => cases e2; exact H3 _ w e1 hb rfl
  | _ => cases e2
set_option tactic.hygienic false in
theorem s_while {t : Expr} {b : List Stmt} {t' : E} {b' : List S} {p : Pos} (IT : SndT g c0 call r n) {m : Nat} (IL : SndL g c0 call wf r m) (h0 : compE n (c0.sub names) t = some t') (h1 : mapO (compS m (c0.sub names)) b = some b') :
    NodeS g c0 call wf r names (.While t b [] p) (.whileS t' b') := fun env A X s as fr fr' σ σ' fl Q N hA T ev hQ => by
  refine wpAny_While (codeAny_whileLoop (WI g call wf env s as t' b' fl fr' σ') ?_ wf ⟨fr, σ, as, s.heap, s.toks, ev, Step.refl _ _ _, T.R, T.F⟩)
  intro k s1 I
  cases I with
  | mk fr1 σ1 as1 k1 tk1 ev st1 R1 F1 =>
    cases k with
    | zero => rw [whileL] at ev; cases ev
    | succ k =>
      refine while_inv ev (fun τ e1 hf hr hs => ?_) (fun τ f2 σ2 f0 e1 hb hf e2 => ?_) (fun τ e1 hb hf => ?_) fun τ w e1 hb hf => ?_
      · refine IT names t t' h0 env A _ { s with heap := k1, toks := tk1 } as1 _ σ1 _ false _ N hA ⟨F1, R1⟩ e1 fun as' h' tk st R' F' => ?_
        rw [if_neg Bool.false_ne_true]
        subst hf; subst hr; subst hs
        exact wpAny_execs_nil (hQ .next as' h' tk rfl (st1.trans (up st) R'.nd F'.offs) R' F')
      · refine IT names t t' h0 env A _ { s with heap := k1, toks := tk1 } as1 fr1 σ1 τ true _ N hA ⟨F1, R1⟩ e1 fun as' h' tk st R' F' => ?_
        rw [if_pos rfl]
        refine IL names b b' h1 env A _ { s with heap := h', toks := tk } as' fr1 f2 τ σ2 f0 _ N hA ⟨F', R'⟩ hb fun f as3 h3 tk3 hf3 st3 R3 F3 => ?_
        have fin : WI g call wf env s as t' b' fl fr' σ' k { s with heap := h3, toks := tk3 } := ⟨f2, σ2, as3, h3, tk3, e2, (st1.trans (up st) R'.nd F'.offs).trans st3 R3.nd F3.offs, R3, F3⟩
        rcases hf with rfl | rfl
        · have : f = .next := hf3
          subst this; exact ⟨k, Nat.lt_succ_self _, fin⟩
        · have : f = .cont := hf3
          subst this; exact ⟨k, Nat.lt_succ_self _, fin⟩
      · refine IT names t t' h0 env A _ { s with heap := k1, toks := tk1 } as1 fr1 σ1 τ true _ N hA ⟨F1, R1⟩ e1 fun as' h' tk st R' F' => ?_
        rw [if_pos rfl]
        refine IL names b b' h1 env A _ { s with heap := h', toks := tk } as' fr1 _ τ _ .brk _ N hA ⟨F', R'⟩ hb fun f as3 h3 tk3 hf3 st3 R3 F3 => ?_
        have : f = .brk := hf3
        subst this; subst hf
        exact hQ .next as3 h3 tk3 rfl ((st1.trans (up st) R'.nd F'.offs).trans st3 R3.nd F3.offs) R3 F3
      · refine IT names t t' h0 env A _ { s with heap := k1, toks := tk1 } as1 fr1 σ1 τ true _ N hA ⟨F1, R1⟩ e1 fun as' h' tk st R' F' => ?_
        rw [if_pos rfl]
        refine IL names b b' h1 env A _ { s with heap := h', toks := tk } as' fr1 fr' τ σ' fl _ N hA ⟨F', R'⟩ hb fun f as3 h3 tk3 hf3 st3 R3 F3 => ?_
        subst hf
        have hq := hQ f as3 h3 tk3 hf3 ((st1.trans (up st) R'.nd F'.offs).trans st3 R3.nd F3.offs) R3 F3
        obtain ⟨val, hv, rv⟩ := hf3
        subst hv
        exact hq

noncomputable def forE (tg : List Nat) (one : Bool) (body : Fra → Sto → RS) (fr : Fra) (v : V) (σ : Sto) : RS := match v with
  | .ref l => (match getL σ l with | some xs => forL tg one body l (xs.length + 1) 0 fr σ | none => .bad)
  | .tup vs => forV tg one body vs fr σ
  | .rng lo hi => forV tg one body (rngL lo hi) fr σ
  | _ => .bad
theorem for_run {tg : List Nat} {one : Bool} {bd : Fra → Sto → RS} {u : V} {τ : Sto} (e2 : forE tg one bd fr u τ = .ok fl fr' σ') : ∃ src k, srcOf u = some src ∧ (∀ l, src = .live l → ∃ xs, getL τ l = some xs) ∧ FRun src tg one bd k 0 fr τ fl fr' σ' := by
  unfold forE at e2
  cases u with
  | ref l =>
    simp only at e2
    split at e2
    · rename_i xs hx
      obtain ⟨k, hk⟩ := forL_run _ _ _ _ _ _ _ e2
      exact ⟨.live l, k, rfl, fun l' q => by cases q; exact ⟨xs, hx⟩, hk⟩
    · cases e2
  | tup vs =>
    simp only at e2
    obtain ⟨k, hk⟩ := forV_run (src := .tup vs) (L := vs) (fun _ _ => rfl) (fun i h => h) vs 0 _ _ _ _ _ rfl (Nat.zero_le _) e2
    exact ⟨.tup vs, k, rfl, (fun l' q => (nomatch q)), hk⟩
  | rng lo hi =>
    simp only at e2
    obtain ⟨k, hk⟩ := forV_run (src := .rng lo hi) (L := rngL lo hi) (fun _ _ => rfl) (fun i h => by show i ≤ _; simpa [rngL] using h) (rngL lo hi) 0 _ _ _ _ _ rfl (Nat.zero_le _) e2
    exact ⟨.rng lo hi, k, rfl, (fun l' q => (nomatch q)), hk⟩
  | _ => cases e2
set_option tactic.hygienic false in
theorem s_for {t it : Expr} {b : List Stmt} {it' : E} {b' : List S} {tg : List Nat} {one : Bool} {p : Pos} (IH : SndE g c0 call r n) {m : Nat} (IL : SndL g c0 call wf r m) (ht : tgt (c0.sub names) t = some (tg, one)) (h0 : compE n (c0.sub names) it = some it') (h1 : mapO (compS m (c0.sub names)) b = some b') :
    NodeS g c0 call wf r names (.For t it b [] p) (.forS tg one (.e it') b') := fun env A X s as fr fr' σ σ' fl Q N hA T ev hQ => by
  refine bindS_el (fr := fr) ev fun u τ e1 e2 => ?_
  obtain ⟨src, k, hs, hl, run⟩ := for_run e2
  refine wpAny_For (IH names it it' h0 env A X s as fr σ τ u _ N hA T e1 fun val as1 k1 tk1 st1 R1 F1 r1 => ?_) (fold_set h0)
  have T1 : At g env as1 fr τ { s with heap := k1, toks := tk1 } := ⟨F1, R1⟩
  refine it_iter T1 r1 hs hl fun o T2 it0 => ?_
  have nn := T1.notNew
  have Z : FX g env { s with heap := k1, toks := tk1 } k1.objs.size := ⟨fun q => by
    rcases own_cases q with q | ⟨y, q⟩
    · exact nn.1 q
    · exact T1.cellNew _ _ q rfl, nn.2.2, new_none _⟩
  exact for_turns (tk := tk1) IL Z N hA ht h1 run ⟨step_pushed _ _ _ _, T2.R, T2.F, it0, nn.2.1⟩ (spost_of hQ (up st1))

theorem x_asg {t e : Expr} {p : Pos} {st' : S} (G : Glob g K c0 fa) (J : AttInj g) (C : CallOk g fa call r) (h : cAsg (c0.sub names) t e = some st') : NodeS g c0 call wf r names (.Assign [t] e p) st' := by
  have IH := (snd_all G J C 30).1
  unfold cAsg at h
  cases q : vw t <;> rw [q] at h <;> first | exact nn h | skip
  · obtain ⟨i, a, h1, h2, rfl⟩ := opt2_inv h
    obtain ⟨xp, rfl⟩ := vw_of q
    exact s_asg (n := 29) IH (snd_all G J C 29).1 (snd_all G J C 29).2 h1 h2
  · obtain ⟨h0, h⟩ := gd_inv h
    obtain ⟨is, a, h1, h2, rfl⟩ := opt2_inv h
    obtain ⟨k, xp, rfl⟩ := vw_of q
    exact s_asgT IH h1 (isTup_inv (not_inv h0)) h2
  · rename_i u
    obtain ⟨o, k, a, h1, h2, h3, rfl⟩ := opt3_inv h
    have hv : t = _ := vw_of q
    subst hv
    exact s_asgA G J IH h1 h2 h3
  · rename_i u
    obtain ⟨o, k, a, h1, h2, h3, rfl⟩ := opt3_inv h
    obtain ⟨xp, rfl⟩ := vw_of q
    exact s_asgI IH h1 h2 h3
set_option tactic.hygienic false in
theorem isEmpty_inv {α : Type} {l : List α} : l.isEmpty = true → l = [] := List.casesOn l (fun _ => rfl) fun _ _ => ft
set_option tactic.hygienic false in
theorem sndS_step {m : Nat} (G : Glob g K c0 fa) (J : AttInj g) (C : CallOk g fa call r) (IL : SndL g c0 call wf r m) (st : Stmt) (st' : S) (h : compS (m + 1) (c0.sub names) st = some st') : NodeS g c0 call wf r names st st' := by
  have IH := (snd_all G J C 30).1
  have IT := (snd_all G J C 30).2
  cases st with
  | Expr e p => obtain ⟨h0, h⟩ := gd_inv h; obtain ⟨a, h1, rfl⟩ := map_inv h; exact s_expr IH (isLC_inv (not_inv h0)) h1
  | Return v p => obtain ⟨e, rfl, h⟩ := bind_inv h; obtain ⟨a, h1, rfl⟩ := map_inv h; exact s_ret IH h1
  | Assign ts e p =>
    rcases ts with _ | ⟨t, _ | ⟨t2, ts⟩⟩
    · exact nn h
    · exact x_asg G J C h
    · exact nn h
  | If t b o p => obtain ⟨x, y, z, h1, h2, h3, rfl⟩ := opt3_inv h; exact s_if IT IL h1 h2 h3
  | While t b o p => obtain ⟨h0, h⟩ := gd_inv h; obtain ⟨x, y, h1, h2, rfl⟩ := opt2_inv h; cases isEmpty_inv h0; exact s_while IT IL h1 h2
  | For t it b o p => obtain ⟨h0, h⟩ := gd_inv h; obtain ⟨x, y, z, h1, h2, h3, rfl⟩ := opt3_inv h; cases isEmpty_inv h0; exact s_for IH IL h1 h2 h3
  | Raise v cz p =>
    cases v with
    | none => cases cz <;> exact nn h
    | some v => cases cz with
      | some => exact nn h
      | none =>
        obtain ⟨x, h0, h⟩ := bind_inv h
        obtain ⟨h1, h⟩ := gd_inv h
        obtain ⟨a, h2, rfl⟩ := map_inv h
        intro env A X s as fr fr' σ σ' fl Q N hA T ev hQ
        cases (show RS.ex a fr σ = RS.ok fl fr' σ' from ev)
  | Pass p => exact si h s_pass
  | _ => exact nn h

set_option tactic.hygienic false in
theorem sndS_all (G : Glob g K c0 fa) (J : AttInj g) (C : CallOk g fa call r) : ∀ n, SndS g c0 call wf r n
  | 0 => fun names st st' h => nn h
  | n + 1 => fun names st st' h => sndS_step G J C (snd_list (sndS_all G J C n)) st st' h
end
end Mine

set_option autoImplicit false
set_option maxRecDepth 100000
set_option linter.unusedVariables false
namespace Mine
open PySem PyProof.Rows PySem.W

noncomputable def fnFits (K : Frag) (c : CE) (fd : FuncData) : Bool :=
  fd.globals == mainGlobals && fd.builtins == builtinsNs && fd.closure.isEmpty && codeIn K fd.code fd.qualname && !fd.scope.isCoroutine && !fd.scope.isGenerator && scOk fd.scope && fd.scope.names.all (fun p => !(p.2 == .free)) &&
  fd.params.posonlyargs.isEmpty && fd.params.vararg.isNone && fd.params.kwonlyargs.isEmpty && fd.params.kw_defaults.isEmpty && fd.params.kwarg.isNone && decide ((fd.params.args.map (·.arg)).Nodup) && fd.defaults == .none &&
  (match c.lam with | some a => fd.code == .ref a | none => true)

noncomputable def compBy (cs : CE → Stmt → Option S) (K : Frag) (c : CE) (a : Addr) : Option Fn := match K.lookup a with
  | some ⟨_, _, .func fd, _⟩ => if fnFits K c fd then
      (match fd.body with
      | .stmts body => (match mapO (fun x => (c.sub fd.scope.names).locW? x) (fd.params.args.map (·.arg)), mapO (cs (c.sub fd.scope.names)) body with
        | some ps, some b => some ⟨ps, fd.scope.names.length, b⟩
        | _, _ => none)
      | _ => none) else none
  | _ => none
noncomputable def compFn (K : Frag) (c : CE) (a : Addr) : Option Fn := compBy (compS 20) K c a

set_option tactic.hygienic false in
theorem putPs_len : ∀ (ps : List Nat) (vs : List V) (fr : Fra), (putPs ps vs fr).length = fr.length
  | [], _, _ => rfl
  | _ :: _, [], _ => rfl
  | p :: ps, v :: vs, fr => by rw [putPs, putPs_len]; simp

set_option tactic.hygienic false in
theorem putPs_get : ∀ (ps : List Nat) (vs : List V) (fr : Fra) (i : Nat) (v : V), (putPs ps vs fr)[i]? = some (some v) → fr[i]? = some (some v) ∨ ∃ j : Nat, ps[j]? = some i ∧ vs[j]? = some v
  | [], _, _, _, _, h => .inl h
  | _ :: _, [], _, _, _, h => .inl h
  | p :: ps, v :: vs, fr, i, w, h => by
    rw [putPs] at h
    rcases putPs_get ps vs _ i w h with h | ⟨j, h1, h2⟩
    · by_cases hp : p = i
      · subst hp
        by_cases hl : p < fr.length
        · rw [List.getElem?_set_self hl] at h
          simp only [Option.some.injEq] at h; subst h
          exact .inr ⟨0, rfl, rfl⟩
        · rw [List.getElem?_eq_none (by simp; lia)] at h; cases h
      · rw [List.getElem?_set_ne hp] at h; exact .inl h
    · exact .inr ⟨j + 1, by simpa using h1, by simpa using h2⟩

set_option tactic.hygienic false in
theorem bindL_get {kindOf : Str → Option NameKind} {x : Str} {v : Value} (hk : kindOf x = some .local) : ∀ (binds : List (Str × Value)) (m : Str → Option Value), (binds.map (·.1)).Nodup → ((x, v) ∈ binds ∨ (m x = some v ∧ x ∉ binds.map (·.1))) → bindL kindOf binds m x = some v
  | [], m, _, h => h.elim (fun q => by cases q) fun q => q.1
  | (n, w) :: r, m, nd, h => by
    rw [bindL]
    rw [List.map_cons, List.nodup_cons] at nd
    refine bindL_get hk r _ nd.2 ?_
    rcases h with h | ⟨h1, h2⟩
    · rcases List.mem_cons.mp h with q | q
      · cases q
        refine .inr ⟨?_, nd.1⟩
        rw [if_pos hk]; simp
      · exact .inl q
    · rw [List.map_cons, List.mem_cons, not_or] at h2
      refine .inr ⟨?_, h2.2⟩
      split
      · simp [h2.1, h1]
      · exact h1
set_option tactic.hygienic false in
theorem bindC_get {kindOf : Str → Option NameKind} {x : Str} {v : Value} (hk : kindOf x ≠ some .local) : ∀ (binds : List (Str × Value)) (m : Str → Option Value), (binds.map (·.1)).Nodup → ((x, v) ∈ binds ∨ (m x = some v ∧ x ∉ binds.map (·.1))) → bindC kindOf binds m x = some v
  | [], m, _, h => h.elim (fun q => by cases q) fun q => q.1
  | (n, w) :: r, m, nd, h => by
    rw [bindC]
    rw [List.map_cons, List.nodup_cons] at nd
    refine bindC_get hk r _ nd.2 ?_
    rcases h with h | ⟨h1, h2⟩
    · rcases List.mem_cons.mp h with q | q
      · cases q
        refine .inr ⟨?_, nd.1⟩
        rw [if_neg hk]; simp
      · exact .inl q
    · rw [List.map_cons, List.mem_cons, not_or] at h2
      refine .inr ⟨?_, h2.2⟩
      split
      · exact h1
      · simp [h2.1, h1]

structure Entered (g : Cfg) (cs : CE → Stmt → Option S) (c : CE) (fn : Fn) (A : Around) (as : List Addr) (σ : Sto) (s : Shared) (vs : List V) (n : Nat) (env : Env) (body : List Stmt) (h : Heap) : Prop where
  comp : mapO (cs (c.sub env.scope.names)) body = some fn.body
  N : NamesOk (c.sub env.scope.names) env
  F : FrRel g env as (frame0 fn vs) h
  R : Rel g as σ h
  ext : ∀ (b : Addr) (o : Obj), s.heap.get? b = some o → h.get? b = some o
  new : ∀ b ∈ ownOf env, s.heap.get? b = none
  fr : env.frame = some env.locals
  room : Room g (A.deeper env) (2 * n + 1)
section
variable {g : Cfg} {K : Frag} {fa : Nat → Option Addr} {P : Nat → Option Fn} {wf : Nat}

theorem enter_fn {cs : CE → Stmt → Option S} {c : CE} {a : Addr} {fn : Fn} {vs : List V} {σ : Sto} {n : Nat} {A : Around} {s : Shared} {as : List Addr} {xs : List Value} {R : Result → Shared → Prop} (kin : K.In g.b) (hlim : g.b.NoLimit) (hPk : compBy cs K c a = some fn) (hlen : vs.length = fn.ps.length)
    (hA : Room g A (2 * (n + 1))) (R0 : Rel g as σ s.heap) (hsz : g.b.objs.size ≤ s.heap.objs.size) (r0 : RepVs as s.heap vs xs)
    (k : ∀ (env : Env) (body : List Stmt) (h : Heap) (tk : Nat), Entered g cs c fn A as σ s vs n env body h → wpAny (model g.prog g.w) (A.deeper env) (execs body env) (fun f s' => R (.ok (.ret (match f with | .ret v => v | _ => .none))) s')
        (fun e s' => wpAny (model g.prog g.w) (A.deeper env) (leaving env e) (fun _ s'' => R (.error e) s'') (fun e' s'' => R (.error e') s'') s') { s with heap := h, toks := tk }) :
    codeAny (model g.prog g.w) A (.call (.ref a) ⟨xs, []⟩) R s := by
  unfold compBy at hPk
  split at hPk
  case h_2 => cases hPk
  rename_i oc od fd osl hK
  split at hPk
  case isFalse => cases hPk
  rename_i hfit
  split at hPk
  case h_2 => cases hPk
  rename_i body hbody
  split at hPk
  case h_2 => cases hPk
  rename_i ps b' hps hb'
  cases hPk
  simp only [fnFits, Bool.and_eq_true, beq_iff_eq, List.isEmpty_iff, Bool.not_eq_true', List.all_eq_true, decide_eq_true_eq, Option.isNone_iff_eq_none] at hfit
  obtain ⟨⟨⟨⟨⟨⟨⟨⟨⟨⟨⟨⟨⟨⟨⟨f1, f2⟩, f3⟩, f4⟩, f5⟩, f6⟩, f7⟩, f8⟩, f9⟩, f10⟩, f11⟩, f12⟩, f13⟩, f14⟩, f15⟩, f16⟩ := hfit
  obtain ⟨hkind, hnd⟩ := scOk_iff f7
  have hpar : fd.params = ⟨[], fd.params.args, none, [], [], none, fd.params.defaults⟩ := by
    rcases hq : fd.params with ⟨p1, p2, p3, p4, p5, p6, p7⟩
    rw [hq] at f9 f10 f11 f12 f13
    simp only at f9 f10 f11 f12 f13
    rw [f9, f10, f11, f12, f13]
  have hps' := mapO_get hps
  have hpl : fd.params.args.length = xs.length := by
    have h1 := (RepVs.f2.mp r0).length
    have h2 := hps'.1
    rw [List.length_map] at h2
    have h3 : vs.length = ps.length := hlen
    lia
  have hbind := bind_plain hpar f15 f14 hpl
  have keep0 := R0.base
  have ho : s.heap.get? a = some ⟨oc, od, .func fd, osl⟩ := R0.base _ _ (kin _ _ hK)
  have hnb : ((fd.params.args.map (·.arg)).zip xs).map (·.1) = fd.params.args.map (·.arg) := by
    rw [List.map_fst_zip]; rw [List.length_map]; lia
  have hpk : ∀ x ∈ fd.params.args.map (·.arg), fd.scope.names.lookup x = some .local ∨ fd.scope.names.lookup x = some .cell := fun x hx => by
    obtain ⟨i, hi, rfl⟩ := List.getElem_of_mem hx
    obtain ⟨j, h1, h2⟩ := hps'.2 i _ (List.getElem?_eq_getElem hi)
    obtain ⟨kk, h3, h4⟩ := locW_get h2
    have h5 : fd.scope.names.lookup ((fd.params.args.map (·.arg))[i]) = some kk := nodup_lookup hnd h3
    rcases h4 with rfl | rfl
    · exact .inl h5
    · exact .inr h5
  have hcellsome : ∀ x, fd.scope.names.lookup x = some .cell → ∃ cc, (cellsFrom (s.heap.objs.size + 1) fd.scope.names []).lookup x = some cc := fun x hx => Option.isSome_iff_exists.mp (cellsFrom_some _ _ _ (.inl hx))
  have hdepth : A.depth < recursionLimit := by have := hA.depth; show _ < 1000; lia
  refine codeAny_call_cells hdepth ho rfl (hlim.keeps keep0) (codeRec_of (kin.keeps keep0) f4) hbody hbind f3 (fun x hx => ?_) (fun s₁ U => ?_) f5 f6 hkind
  · have hx' : x.1 ∈ fd.params.args.map (·.arg) := (List.of_mem_zip hx).1
    rcases hpk _ hx' with q | q
    · exact .inl q
    · exact .inr ⟨q, cellsFrom_some _ _ _ (.inl q)⟩
  obtain ⟨⟨⟨h₁, tk₁, rfl⟩, uns, ukeep, ufresh⟩, ucell, uapart, uabove⟩ := U
  have hE : ∀ x, (callEnvC fd s.heap.objs.size a).kindOf x = fd.scope.names.lookup x := fun x => rfl
  have K1 : Keep as s.heap as h₁ := ⟨fun _ _ e => e, fun b o e _ => ukeep b o e⟩
  have R1 : Rel g as σ h₁ := R0.ext ukeep
  have lkm : ∀ x cc, (callEnvC fd s.heap.objs.size a).cells.lookup x = some cc → s.heap.objs.size < cc := fun x cc e => uabove x cc (lookup_mem' e)
  have fresh : ∀ b : Addr, s.heap.objs.size ≤ b → s.heap.get? b = none := fun b hb => by
    cases e : s.heap.get? b with
    | none => rfl
    | some o => exact absurd (Heap.lt_size e) (Nat.not_lt.mpr hb)
  have notas : ∀ b : Addr, s.heap.objs.size ≤ b → b ∉ as := fun b hb q => by
    obtain ⟨o, e, _⟩ := R0.there q; rw [fresh b hb] at e; cases e
  have notb : ∀ b : Addr, s.heap.objs.size ≤ b → g.b.get? b = none := fun b hb => by
    cases e : g.b.get? b with
    | none => rfl
    | some o => have := R0.base _ _ e; rw [fresh b hb] at this; cases this
  have rvs := RepVs.f2.mp (RepVs.keep K1 _ _ r0)
  have hval : ∀ (i : Nat) (x : Str) (kk : NameKind) (w : V), fd.scope.names[i]? = some (x, kk) → (frame0 ⟨ps, fd.scope.names.length, b'⟩ vs)[i]? = some (some w) → ∃ val, (x, val) ∈ (fd.params.args.map (·.arg)).zip xs ∧ RepV as h₁ w val := fun i x kk w e1 e2 => by
    unfold frame0 at e2
    rcases putPs_get _ _ _ _ _ e2 with h | ⟨j, h1, h2⟩
    · exfalso
      rw [List.getElem?_replicate] at h
      split at h <;> simp at h
    · obtain ⟨val, h3, h4⟩ := rvs.get h2
      have hj : j < (fd.params.args.map (·.arg)).length := by
        have h1' : ps[j]? = some i := h1
        have h9 := (List.getElem?_eq_some_iff.mp h1').1
        have h8 := hps'.1
        lia
      obtain ⟨i', h5, h6⟩ := hps'.2 j _ (List.getElem?_eq_getElem hj)
      have h1' : ps[j]? = some i := h1
      rw [h1'] at h5; cases h5
      obtain ⟨k2, h7, _⟩ := locW_get h6
      have h7' : fd.scope.names[i]? = some ((fd.params.args.map (·.arg))[j], k2) := h7
      rw [e1] at h7'; cases h7'
      refine ⟨val, ?_, h4⟩
      have : ((fd.params.args.map (·.arg)).zip xs)[j]? = some ((fd.params.args.map (·.arg))[j], val) := by
        rw [List.getElem?_zip_eq_some]
        exact ⟨List.getElem?_eq_getElem hj, h3⟩
      exact List.mem_of_getElem? this
  have F1 : FrRel g (callEnvC fd s.heap.objs.size a) as (frame0 ⟨ps, fd.scope.names.length, b'⟩ vs) h₁ := by
    refine ⟨hkind, hsz, f1, f2, ?_, hnd, ⟨_, uns, fun i x w e1 e2 => ?_⟩, fun i x kk e1 e2 => ?_, notas _ (Nat.le_refl _), fun x cc e => ⟨notas _ (Nat.le_of_lt (lkm x cc e)), Nat.ne_of_gt (lkm x cc e), ⟨_, ucell x cc e⟩⟩, fun x y cc e1 e2 => ?_, fun x cc e => notb _ (Nat.le_of_lt (lkm x cc e))⟩
    · show (frame0 _ vs).length = fd.scope.names.length
      unfold frame0; rw [putPs_len]; simp
    · obtain ⟨val, h1, h2⟩ := hval i x _ w e1 e2
      refine ⟨val, bindL_get ?_ _ _ (by rw [hnb]; exact f14) (.inl h1), h2⟩
      rw [hE]; exact nodup_lookup hnd e1
    · have hk2 : kk = .cell := by
        rcases e2 with e2 | e2
        · exact e2
        · have := f8 _ (List.mem_of_getElem? e1)
          rw [e2] at this; cases this
      subst hk2
      have hlk := nodup_lookup hnd e1
      obtain ⟨cc, hcc⟩ := hcellsome x hlk
      refine ⟨cc, _, hcc, ucell x cc hcc, fun w e => ?_⟩
      obtain ⟨val, h1, h2⟩ := hval i x _ w e1 e
      refine ⟨val, bindC_get ?_ _ _ (by rw [hnb]; exact f14) (.inl h1), h2⟩
      rw [hE, hlk]; simp
    · exact name_of_addr uapart (lookup_mem' e1) (lookup_mem' e2)
  have N1 : NamesOk (c.sub fd.scope.names) (callEnvC fd s.heap.objs.size a) := by
    refine ⟨?_, fun a' ha' => ?_⟩
    · show F2 _ fd.scope.names fd.scope.names
      generalize fd.scope.names = l
      induction l with
      | nil => exact .nil
      | cons p r ih => exact .cons ⟨rfl, .inl rfl⟩ ih
    · have ha'' : c.lam = some a' := ha'
      rw [ha''] at f16
      exact eq_of_beq f16
  have hroom : Room g (A.deeper (callEnvC fd s.heap.objs.size a)) (2 * n + 1) := by
    have h1 := hA.units; have h2 := hA.depth
    exact ⟨by rw [units_deeper]; lia, by rw [depth_deeper]; lia, hA.handled⟩
  exact k _ body h₁ tk₁ ⟨hb', N1, F1, R1, ukeep, fun b hb => by
    rcases own_cases hb with q | ⟨x, q⟩
    · rw [q]; exact fresh _ (Nat.le_refl _)
    · exact fresh _ (Nat.le_of_lt (lkm x b q)), rfl, hroom⟩

def RetOk (fl : Fl) (v : V) : Prop := fl = .ret v ∨ (fl = .next ∧ v = .none)
theorem evFn_inv {n k : Nat} {vs : List V} {σ σ' : Sto} {v : V} (ev : evFn P wf (n + 1) k vs σ = .ok v σ') : ∃ fn fl fr', P k = some fn ∧ vs.length = fn.ps.length ∧ evSs (evFn P wf n) wf fn.body (frame0 fn vs) σ = .ok fl fr' σ' ∧ RetOk fl v := by
  rw [evFn] at ev
  split at ev
  · cases ev
  rename_i fn hfn
  split at ev
  case isFalse => cases ev
  rename_i hlen
  split at ev
  · rename_i w fr' σ1 he
    cases ev
    exact ⟨fn, _, _, hfn, hlen, he, .inl rfl⟩
  · rename_i fr' σ1 he
    cases ev
    exact ⟨fn, _, _, hfn, hlen, he, .inr ⟨rfl, rfl⟩⟩
  · cases ev
  · cases ev
  · cases ev
noncomputable def retV : Flow → Value | .ret v => v | _ => .none
set_option tactic.hygienic false in
theorem ret_of {as : List Addr} {h : Heap} {fl : Fl} {v : V} {f : Flow} (hf : FlRep as h fl f) (hr : RetOk fl v) : RepV as h v (retV f) := by
  rcases hr with rfl | ⟨rfl, rfl⟩
  · obtain ⟨val, hv, rv⟩ := hf; subst hv; exact rv
  · have : f = .next := hf
    subst this; rw [RepV]; rfl
set_option tactic.hygienic false in
theorem call_step (c : Nat → CE) (G : ∀ k a, fa k = some a → Glob g K (c k) fa) (J : AttInj g) (hlim : g.b.NoLimit) (hP : ∀ k a, fa k = some a → P k = compFn K (c k) a) {n : Nat} (C : CallOk g fa (evFn P wf n) (2 * n)) : CallOk g fa (evFn P wf (n + 1)) (2 * (n + 1)) := by
  intro k a vs σ σ' v hfa ev A s as xs R hA R0 hsz r0 hR
  obtain ⟨fn, fl, fr', hfn, hlen, he, hr⟩ := evFn_inv ev
  have Gk := G k a hfa
  refine enter_fn Gk.kin hlim ((hP k a hfa).symm.trans hfn) hlen hA R0 hsz r0 fun env body h tk E => ?_
  refine snd_list (sndS_all Gk J C 20) _ body fn.body E.comp _ _ _ { s with heap := h, toks := tk } as _ fr' σ σ' fl _ E.N E.room ⟨E.F, E.R⟩ he fun f as2 h2 tk2 hf st2 R2 F2 => ?_
  have a1 : Step (ownOf env) as s.heap as h := Step.of_ext E.ext
  exact hR (retV f) as2 h2 tk2 ((a1.trans st2 R2.nd F2.offs).shrink fun b hb => .inr (E.new b hb)) R2 (ret_of hf hr)

set_option tactic.hygienic false in
theorem call_all (c : Nat → CE) (G : ∀ k a, fa k = some a → Glob g K (c k) fa) (J : AttInj g) (hlim : g.b.NoLimit) (hP : ∀ k a, fa k = some a → P k = compFn K (c k) a) : ∀ n, CallOk g fa (evFn P wf n) (2 * n)
  | 0 => fun k a vs σ σ' v hfa ev => by rw [evFn] at ev; cases ev
  | n + 1 => call_step c G J hlim hP (call_all c G J hlim hP n)
end
end Mine

set_option autoImplicit false
set_option linter.unusedVariables false
namespace Mine
open PySem PyProof.Rows PySem.W

section
variable {g : Cfg} {K : Frag} {fa : Nat → Option Addr} {env : Env} {A : Around} {X : Value → Shared → Prop} {s : Shared} {as : List Addr} {fr : Fra} {σ : Sto} {c0 : CE} {names : List (Str × NameKind)}
set_option tactic.hygienic false in
theorem x_raise {x : Str} {C : Addr} {np cpos pos p : Pos} {text : Str} {u : Nat} {Q : Flow → Shared → Prop} (G : Glob g K c0 fa) (hx : c0.excs.lookup x = some C) (T : At g env as fr σ s) (N : NamesOk (c0.sub names) env) (hA : A.handled = none) (hg : (c0.sub names).glob x = true) (hd : (x == ("__debug__" : Str)) = false)
    (hE : ∀ h' e t tk, Heap.MadeExcOf s.heap h' e (.ref C) [.str text t] → X (.ref e) { s with heap := h', toks := tk }) :
    wpAny (model g.prog g.w) A (exec (.Raise (some (.Call (.Name x np) [.Constant (.str text) u p] [] cpos)) none pos) env) Q X s := by
  obtain ⟨mg, O⟩ := G.exc.r x C hx
  obtain ⟨bm, Na, nm, q, bs, hdct, sn, sub, ab, col, dd, k0, k1, k2, k3, k5, mN, hC, hn, hni, OT⟩ := O.obj
  refine wpAny_Raise_call_subT (C := C) (nm := nm) (q := q) (N := Na) (bs := bs) (hdct := hdct) (sn := sn) (sub := sub) (ab := ab) (col := col) (dd := dd) (k0 := k0) (k1 := k1) (k2 := k2) (k3 := k3) (k5 := k5) F.excBase_ValueError (OT.hasType F.excBase_ValueError.hasBase) hA rfl hni (o_glob T N hg hd (G.exc.i x C hx) ⟨rfl, ?_⟩)
  refine PySem.Calls.evalArgs_plain (PySem.Calls.spliced_cons (wpAny_Constant_str (k := u) (pos := p) ?_))
  exact PySem.Calls.spliced_nil ⟨rfl, (by decide : 1 ≤ sizeLine), T.R.base _ _ hC, hn.keeps T.R.base, OT.keeps T.R.base, fun h' e hm => hE h' e _ _ hm⟩
end
end Mine

set_option autoImplicit false
set_option linter.unusedVariables false
namespace Mine
open PySem PyProof.Rows PySem.W

inductive FlyAt (base : Heap) (e : Addr) (h : Heap) (vs : Array Value) : Option Value → Prop
  | made (h1 : vs[1]? = some .none) : FlyAt base e h vs none
  | tb {f : Value} {T : Addr} {oT : Obj} {ts : Array Value} (h1 : vs[1]? = some (.ref T)) (hn : base.get? T = none) (hne : T ≠ e) (hT : h.get? T = some oT) (hd : oT.data = .fields ts) (h3 : ts[3]? = some f) : FlyAt base e h vs (some f)
structure Fly (base : Heap) (l : List Env) (e : Addr) (cls : Value) (fl : Option Value) (h : Heap) : Prop where
  stays : base.StaysIn h
  new : base.get? e = none
  frames : h.FunFrames base l
  st : ∃ oe vs, h.get? e = some oe ∧ oe.dict = none ∧ oe.cls = cls ∧ oe.data = .fields vs ∧ vs[2]? = some .none ∧ FlyAt base e h vs fl
section
variable {M : Model} {A : Around} {E : Value → Shared → Prop} {s : Shared} {base : Heap} {env : Env} {outer l : List Env} {L e : Addr} {cls : Value}
set_option tactic.hygienic false in
theorem dict_map (o : Obj) (f : Array Value → Array Value) : (Obj.mapFields f o).dict = o.dict := by
  obtain ⟨c, d, dt, sl⟩ := o; cases dt <;> rfl
set_option tactic.hygienic false in
theorem entry_ok {oe : Obj} {vs : Array Value} {head : Value} {hadNext : Bool} {Q : Unit → Shared → Prop} (hfr : A.frames = some (env :: outer)) (hl : s.heap.FunFrames base (env :: outer)) (hf : env.frame = some L)
    (he : s.heap.get? e = some oe) (hkb : base.StaysIn s.heap) (hen : base.get? e = none) (hn0 : oe.dict = none) (hd : oe.data = .fields vs) (hsz : 1 < vs.size) (h2 : vs[2]? = some .none)
    (h : ∀ h', Fly base (env :: outer) e oe.cls (some (rawInt L)) h' → s.heap.UpToSlots h' → Q () { s with heap := h' }) :
    wpAny M A (do let a ← frameOf env; let pl ← entryPlaceOf L hadNext; let b ← EntryCells.newEntry head a .none (rawInt L) .none pl; setField (.ref e) 1 b) Q E s := by
  have hene : e ∉ (env :: outer).filterMap (·.frame) := fun hm => by
    obtain ⟨_, o, ho, hnf⟩ := hl.mem hm
    rw [he] at ho; cases ho; exact hnf vs hd
  refine wpAny_bind (wpAny_frameOf_fun hfr hl hf fun h₁ hs₁ => ?_)
  refine wpAny_bind (wpAny_entryPlaceOf fun pl hpl => ?_)
  unfold EntryCells.newEntry newFields
  refine wpAny_bind (wpAny_newObj_type ?_ (hpl.sizeOk5 _ _ _ _ _))
  have he₁ : h₁.get? e = some oe := (hs₁.2.1 e hene).trans he
  have kb₁ : base.StaysIn h₁ := fun b o hbo => (hs₁.2.1 b fun hm => by rw [(hl.mem hm).1] at hbo; cases hbo).trans (hkb b o hbo)
  have he₂ := Heap.get?_push_of_some (h := h₁) { cls := .type "traceback", dict := none, data := .fields ([head, .ref L, .none, rawInt L, .none] ++ (if pl.isEmpty then List.replicate 6 Value.none else pl)).toArray } he₁
  have hTe : h₁.objs.size ≠ e := Nat.ne_of_gt (Heap.lt_size he₁)
  have hd₃ := Obj.data_mapFields hd (·.setIfInBounds 1 (Value.ref h₁.objs.size))
  have he₃ := Heap.get?_update_self (Obj.mapFields (·.setIfInBounds 1 (Value.ref h₁.objs.size))) he₂ (Obj.isFreed_of_fields hd₃)
  have noRecord : ∀ b o, s.heap.get? b = some o → (∀ vs, o.data ≠ .fields vs) → b ≠ e := fun b o hb hnf q => by
    rw [q, he] at hb; cases hb; exact hnf vs hd
  have hT₃ := (Heap.get?_update_other _ (Obj.mapFields (·.setIfInBounds 1 (Value.ref h₁.objs.size))) (Ne.symm hTe)).trans (Heap.get?_push_size h₁ (o := { cls := .type "traceback", dict := none, data := .fields ([head, .ref L, .none, rawInt L, .none] ++ (if pl.isEmpty then List.replicate 6 Value.none else pl)).toArray }) rfl)
  have keep : ∀ b o, b ≠ e → h₁.get? b = some o → ((h₁.push { cls := .type "traceback", dict := none, data := .fields ([head, .ref L, .none, rawInt L, .none] ++ (if pl.isEmpty then List.replicate 6 Value.none else pl)).toArray }).update e (Obj.mapFields (·.setIfInBounds 1 (Value.ref h₁.objs.size)))).get? b = some o := fun b o hbe hb => by
    rw [Heap.get?_update_other _ _ (Ne.symm hbe)]; exact Heap.get?_push_of_some _ hb
  refine wpAny_setField he₂ hd hsz (h _ ⟨fun b o hbo => keep b o (fun q => by rw [q, hen] at hbo; cases hbo) (kb₁ b o hbo), hen, hl.of_keeps fun b o hb hnf => ?_, _, _, he₃, (dict_map _ _).trans hn0, Obj.cls_mapFields _ _, hd₃, ?_, .tb (T := h₁.objs.size) (by simp [hsz]) kb₁.fresh hTe hT₃ rfl ?_⟩ fun b o hb hnf => ?_)
  · obtain ⟨sl, hs⟩ := hs₁.2.2 b o hb
    exact ⟨_, keep b _ (noRecord b o hb hnf) hs, rfl⟩
  · rw [Array.getElem?_setIfInBounds_ne (by decide)]; exact h2
  · first | (simp; done) | (rcases hpl with rfl | ⟨_, _, _, _, _, _, _, rfl⟩ <;> simp)
  · obtain ⟨sl, hs⟩ := hs₁.2.2 b o hb
    exact ⟨sl, keep b _ (noRecord b o hb hnf) hs⟩
theorem note_ok {fl : Option Value} {Q : Unit → Shared → Prop} (hfr : A.frames = some (env :: outer)) (hf : env.frame = some L) (F : Fly base (env :: outer) e cls fl s.heap) (hfl : fl = none ∨ fl = some .none ∨ fl = some (rawInt L))
    (h : ∀ h', Fly base (env :: outer) e cls (some (rawInt L)) h' → s.heap.UpToSlots h' → Q () { s with heap := h' }) : wpAny M A (noteFrame (.ref e) env) Q E s := by
  obtain ⟨oe, vs, he, hn0, hc, hd, h2, fa⟩ := F.st
  subst hc
  unfold noteFrame
  simp only [hf]
  cases fa with
  | made h1 =>
    refine wpAny_bind (wpAny_field he hd h1 ?_)
    rw [if_neg (by decide)]
    exact entry_ok hfr F.frames hf he F.stays F.new hn0 hd (Array.getElem?_eq_some_iff.mp h1).1 h2 h
  | tb h1 hn hne hT hdT h3 =>
    rename_i f T oT ts
    refine wpAny_bind (wpAny_field he hd h1 ?_)
    rw [if_pos (show (Value.ref T != Value.none) = true from by simp)]
    refine wpAny_bind (wpAny_field hT hdT h3 ?_)
    rcases hfl with q | q | q
    · cases q
    · cases q
      rw [if_neg (show ¬ ((Value.none == rawInt L) = true) from by simp [rawInt])]
      refine wpAny_bind (wpAny_setField hT hdT (Array.getElem?_eq_some_iff.mp h3).1 ?_)
      have other : ∀ b, b ≠ T → (s.heap.update T (Obj.mapFields (·.setIfInBounds 3 Value.none))).get? b = s.heap.get? b := fun b hb => Heap.get?_update_other _ _ (Ne.symm hb)
      have noRecord : ∀ b o, s.heap.get? b = some o → (∀ vs, o.data ≠ .fields vs) → b ≠ T := fun b o hb hnf q => by
        rw [q, hT] at hb; cases hb; exact hnf ts hdT
      exact entry_ok (s := { s with heap := s.heap.update T (Obj.mapFields (·.setIfInBounds 3 Value.none)) }) hfr (F.frames.of_keeps fun b o hb hnf => ⟨o, (other b (noRecord b o hb hnf)).trans hb, rfl⟩) hf ((other e (Ne.symm hne)).trans he)
        (fun b o hbo => (other b fun q => by rw [q, hn] at hbo; cases hbo).trans (F.stays b o hbo)) F.new hn0 hd (Array.getElem?_eq_some_iff.mp h1).1 h2
        fun h' x1 x2 => h h' x1 fun b o hb hnf => x2 b o ((other b (noRecord b o hb hnf)).trans hb) hnf
    · cases q
      rw [if_pos (show (rawInt L == rawInt L) = true from by simp)]
      exact wpAny_pure (h _ F (Heap.UpToSlots.refl _))
theorem flight_ok {f : Value} {o : Option Addr} {Q : Unit → Shared → Prop} (F : Fly base l e cls (some f) s.heap)
    (h : ∀ h', Fly base l e cls (some (o.elim .none fun a => rawInt a)) h' → s.heap.UpToSlots h' → Q () { s with heap := h' }) : wpAny M A (setFlight (.ref e) o) Q E s := by
  obtain ⟨oe, vs, he, hn0, hc, hd, h2, fa⟩ := F.st
  cases fa with
  | tb h1 hn hne hT hdT h3 =>
    rename_i T oT ts
    have hsz3 : 3 < ts.size := (Array.getElem?_eq_some_iff.mp h3).1
    have other : ∀ b, b ≠ T → (s.heap.update T (Obj.mapFields (·.setIfInBounds 3 (o.elim Value.none fun f => rawInt f)))).get? b = s.heap.get? b := fun b hb => Heap.get?_update_other _ _ (Ne.symm hb)
    have noRecord : ∀ b o, s.heap.get? b = some o → (∀ vs, o.data ≠ .fields vs) → b ≠ T := fun b o hb hnf q => by
      rw [q, hT] at hb; cases hb; exact hnf ts hdT
    unfold setFlight
    refine wpAny_bind (wpAny_field he hd h1 ?_)
    rw [if_pos (show (Value.ref T != Value.none) = true from by simp)]
    refine wpAny_setField hT hdT hsz3 (h _ ⟨fun b o hbo => (other b fun q => by rw [q, hn] at hbo; cases hbo).trans (F.stays b o hbo), F.new, F.frames.of_keeps fun b o hb hnf => ⟨o, (other b (noRecord b o hb hnf)).trans hb, rfl⟩, oe, vs, (other e (Ne.symm hne)).trans he, hn0, hc, hd, h2, .tb h1 hn hne (Heap.get?_update_self _ hT (Obj.isFreed_of_fields (Obj.data_mapFields hdT _))) (Obj.data_mapFields hdT _) (by simp [hsz3])⟩ fun b o hb hnf => ⟨o.slots, (other b (noRecord b o hb hnf)).trans hb⟩)
set_option tactic.hygienic false in
theorem leave_ok {fl : Option Value} {Q : Unit → Shared → Prop} (hfr : A.frames = some (env :: outer)) (hf : env.frame = some L) (F : Fly base (env :: outer) e cls fl s.heap) (hfl : fl = none ∨ fl = some .none ∨ fl = some (rawInt L))
    (h : ∀ h', Fly base outer e cls (some .none) h' → s.heap.UpToSlots h' → Q () { s with heap := h' }) : wpAny M A (leaving env (.ref e)) Q E s := by
  unfold leaving
  refine wpAny_bind (note_ok hfr hf F hfl fun h₁ F₁ u₁ => ?_)
  exact flight_ok (s := { s with heap := h₁ }) (o := none) F₁ fun h₂ F₂ u₂ => h h₂ ⟨F₂.stays, F₂.new, F₂.frames.2.2, F₂.st⟩ (u₁.trans u₂)
theorem came_ok {fl : Option Value} (hf : env.frame = some L) {f : Value} (F : Fly base (env :: outer) e cls (some f) s.heap)
    (h : ∀ h', Fly base (env :: outer) e cls (some (rawInt L)) h' → s.heap.UpToSlots h' → E (.ref e) { s with heap := h' }) : cameBackBy M A env E (.ref e) s := by
  have F0 := F
  obtain ⟨oe, vs, he, hn0, hc, hd, h2, fa⟩ := F.st
  cases fa with
  | tb h1 hn hne hT hdT h3 =>
    rename_i T oT ts
    unfold cameBackBy
    refine wpAny_bind (wpAny_field he hd h1 ?_)
    rw [if_neg (show ¬ ((Value.ref T == Value.none) = true) from by simp)]
    rw [hf]
    exact flight_ok (o := some L) F0 h
end
end Mine

set_option autoImplicit false
set_option linter.unusedVariables false
namespace Mine
open PySem PyProof.Rows PySem.W

noncomputable def Frs (l : List Env) : List Addr := l.filterMap (·.frame)
structure Stk (g : Cfg) (as : List Addr) (l : List Env) (h : Heap) : Prop where
  fr : h.FunFrames g.b l
  off : ∀ a ∈ Frs l, a ∉ as
  dict : ∀ a ∈ Frs l, ∀ o, h.get? a = some o → ¬ Imm o
structure FrX (g : Cfg) (env : Env) (as : List Addr) (fr : Fra) (B h : Heap) : Prop where
  kind : env.scope.kind = .function
  above : g.b.objs.size ≤ env.locals
  glob : env.globals = mainGlobals
  blt : env.builtins = builtinsNs
  len : fr.length = env.scope.names.length
  nd : (env.scope.names.map (·.1)).Nodup
  ns : ∃ m, h.Ns env.locals m ∧ ∀ (i : Nat) (x : Str) (v : V), env.scope.names[i]? = some (x, .local) → fr[i]? = some (some v) → ∃ val, m x = some val ∧ RepV as B v val
  cells : ∀ (i : Nat) (x : Str) (k : NameKind), env.scope.names[i]? = some (x, k) → (k = .cell ∨ k = .free) → ∃ c cv, env.cells.lookup x = some c ∧ B.IsCell c cv ∧ (∀ v, fr[i]? = some (some v) → ∃ val, cv = some val ∧ RepV as B v val)
  off : env.locals ∉ as
  offc : ∀ x c, env.cells.lookup x = some c → c ∉ as ∧ c ≠ env.locals ∧ ∃ cv, B.IsCell c cv
  apart : ∀ x y c, env.cells.lookup x = some c → env.cells.lookup y = some c → x = y
  newc : ∀ x c, env.cells.lookup x = some c → g.b.get? c = none
structure XEnd (g : Cfg) (env : Env) (l : List Env) (own as : List Addr) (h : Heap) (C : Addr) (fl : Option Value) (fr' : Fra) (σ' : Sto) (e : Addr) (as' : List Addr) (B h' : Heap) : Prop where
  pre : ∃ t, as' = as ++ t ∧ ∀ a ∈ t, h.get? a = none
  ext : ∀ (b : Addr) (o : Obj), h.get? b = some o → b ∉ own → b ∉ as → b ∉ Frs l → B.get? b = some o
  slots : ∀ (b : Addr) (o : Obj), h.get? b = some o → b ∈ Frs l → b ∉ own → ∃ sl, h'.get? b = some { o with slots := sl }
  R : Rel g as' σ' B
  F : FrX g env as' fr' B h'
  fly : Fly B l e (.ref C) fl h'
section
variable {g : Cfg} {env : Env} {A : Around} {X : Value → Shared → Prop} {s : Shared} {as own : List Addr} {fr : Fra} {σ : Sto} {c : CE} {l : List Env}
set_option tactic.hygienic false in
theorem Rel.sub {h B : Heap} (R : Rel g as σ h) (hb : ∀ (b : Addr) (o : Obj), h.get? b = some o → (g.b.get? b).isSome ∨ b ∈ as ∨ Imm o → B.get? b = some o) : Rel g as σ B :=
  have K : Keep as h as B := ⟨fun _ _ e => e, fun a o e im => hb a o e (.inr (.inr im))⟩
  ⟨fun a o e => hb a o (R.base a o e) (.inl (by rw [e]; rfl)), R.len, R.nd, R.new, fun i a o h1 h2 => (R.obj i a o h1 h2).keep K fun ob e => hb a ob e (.inr (.inl (List.mem_of_getElem? h1))), R.hnd.keep K⟩
set_option tactic.hygienic false in
theorem frs_mem {h base : Heap} {l : List Env} (F : h.FunFrames base l) {b : Addr} (hb : b ∈ Frs l) : base.get? b = none ∧ ∃ o, h.get? b = some o ∧ ∀ vs, o.data ≠ .fields vs := F.mem hb
set_option tactic.hygienic false in
theorem frames_hide {h base : Heap} : ∀ {l : List Env}, h.FunFrames base l → ∀ S : List Addr, (∀ a ∈ Frs l, a ∈ S) → h.FunFrames (hideAll h S) l
  | [], _, _, _ => trivial
  | env :: l, ⟨hk, ⟨L, o, hf, _, ho, hd⟩, hr⟩, S, hS => by
    refine ⟨hk, ⟨L, o, hf, hideAll_none _ (hS L ?_), ho, hd⟩, frames_hide hr S fun a ha => hS a ?_⟩
    · unfold Frs; rw [List.filterMap_cons, hf]; exact .head _
    · unfold Frs at *; rw [List.filterMap_cons, hf]; exact .tail _ ha
set_option tactic.hygienic false in
theorem cell_stays {B h : Heap} (k : B.StaysIn h) {c : Addr} {cv : Option Value} (x : B.IsCell c cv) : h.IsCell c cv := by
  obtain ⟨o, ho, r⟩ := x
  exact ⟨o, k _ _ ho, r⟩
set_option tactic.hygienic false in
theorem FrX.rel {B h : Heap} (F : FrX g env as fr B h) (k : B.StaysIn h) : FrRel g env as fr h := by
  have K : Keep as B as h := ⟨fun _ _ e => e, fun a o e _ => k a o e⟩
  obtain ⟨m, hm, hv⟩ := F.ns
  refine ⟨F.kind, F.above, F.glob, F.blt, F.len, F.nd, ⟨m, hm, fun i x v h1 h2 => ?_⟩, fun i x kk h1 h2 => ?_, F.off, fun x c hc => ?_, F.apart, F.newc⟩
  · obtain ⟨val, e1, e2⟩ := hv i x v h1 h2
    exact ⟨val, e1, RepV.keep K _ _ e2⟩
  · obtain ⟨c, cv, e1, e2, e3⟩ := F.cells i x kk h1 h2
    exact ⟨c, cv, e1, cell_stays k e2, fun v hv => by obtain ⟨val, q1, q2⟩ := e3 v hv; exact ⟨val, q1, RepV.keep K _ _ q2⟩⟩
  · obtain ⟨a, b, cv, d⟩ := F.offc x c hc
    exact ⟨a, b, cv, cell_stays k d⟩
set_option tactic.hygienic false in
theorem FrX.slots {B h h' : Heap} (F : FrX g env as fr B h) (u : h.UpToSlots h') : FrX g env as fr B h' := by
  obtain ⟨m, hm, hv⟩ := F.ns
  exact ⟨F.kind, F.above, F.glob, F.blt, F.len, F.nd, ⟨m, u.ns hm, hv⟩, F.cells, F.off, F.offc, F.apart, F.newc⟩
set_option tactic.hygienic false in
theorem FrX.offs {B h : Heap} (F : FrX g env as fr B h) : ∀ a ∈ ownOf env, a ∉ as := fun a ha => by
  rcases List.mem_cons.mp ha with rfl | ha
  · exact F.off
  · obtain ⟨p, hp, e⟩ := List.mem_filterMap.mp ha
    exact (F.offc _ _ e).1
set_option tactic.hygienic false in
theorem frx_of {h h' : Heap} (F : FrRel g env as fr h) (S : List Addr) (k : ∀ (a : Addr) (o : Obj), h.get? a = some o → h'.get? a = some o) (hi : ∀ a ∈ S, ∀ o, h.get? a = some o → ¬ Imm o) (hc : ∀ x c, env.cells.lookup x = some c → c ∉ S) : FrX g env as fr (hideAll h S) h' := by
  have K : Keep as h as (hideAll h S) := ⟨fun _ _ e => e, fun a o e im => hideAll_get _ e fun q => hi a q o e im⟩
  have cl : ∀ {x c cv}, env.cells.lookup x = some c → h.IsCell c cv → (hideAll h S).IsCell c cv := fun hx ⟨o, ho, r⟩ => ⟨o, hideAll_get _ ho (hc _ _ hx), r⟩
  obtain ⟨m, hm, hv⟩ := F.ns
  refine ⟨F.kind, F.above, F.glob, F.blt, F.len, F.nd, ⟨m, (Heap.UpToSlots.of_keeps k).ns hm, fun i x v h1 h2 => ?_⟩, fun i x kk h1 h2 => ?_, F.off, fun x c hx => ?_, F.apart, F.newc⟩
  · obtain ⟨val, e1, e2⟩ := hv i x v h1 h2
    exact ⟨val, e1, RepV.keep K _ _ e2⟩
  · obtain ⟨c, cv, e1, e2, e3⟩ := F.cells i x kk h1 h2
    exact ⟨c, cv, e1, cl e1 e2, fun v hv => by obtain ⟨val, q1, q2⟩ := e3 v hv; exact ⟨val, q1, RepV.keep K _ _ q2⟩⟩
  · obtain ⟨a, b, cv, d⟩ := F.offc x c hx
    exact ⟨a, b, cv, cl hx d⟩
set_option tactic.hygienic false in
theorem raise_end {e C : Addr} {args : List Value} {h' : Heap} (S : Stk g as l s.heap) (T : At g env as fr σ s) (hc : ∀ x c, env.cells.lookup x = some c → c ∉ Frs l) (hm : Heap.MadeExcOf s.heap h' e (.ref C) args) : XEnd g env l own as s.heap C none fr σ e as (hideAll s.heap (Frs l)) h' := by
  have hnew : (hideAll s.heap (Frs l)).get? e = none := by
    cases q : (hideAll s.heap (Frs l)).get? e with
    | none => rfl
    | some o => have := of_hideAll _ q; rw [hm.new] at this; cases this
  obtain ⟨t, ht, _, _⟩ := hm.there
  refine ⟨⟨[], (List.append_nil _).symm, fun _ h => nomatch h⟩, fun b o hb _ _ hl => hideAll_get _ hb hl, fun b o hb _ _ => ⟨o.slots, hm.keeps b o hb⟩, T.R.sub fun b o hb hx => hideAll_get _ hb fun hl => ?_, ?_, fun b o q => hm.keeps b o (of_hideAll _ q), hnew, (frames_hide S.fr (Frs l) fun _ h => h).of_keeps fun b o hb _ => ⟨o, hm.keeps b o hb, rfl⟩, _, _, ht, rfl, rfl, rfl, rfl, .made rfl⟩
  · rcases hx with hx | hx | hx
    · rw [(frs_mem S.fr hl).1] at hx; cases hx
    · exact S.off b hl hx
    · exact S.dict b hl o hb hx
  · exact frx_of T.F (Frs l) hm.keeps S.dict hc
set_option tactic.hygienic false in
theorem XEnd.after {as1 as' : List Addr} {h h1 h' B : Heap} {C e : Addr} {fl : Option Value} {fr' : Fra} {σ' : Sto} (x : Step own as h as1 h1) (ho : own = ownOf env) (off : ∀ a ∈ Frs l, a ∉ as) (E : XEnd g env l own as1 h1 C fl fr' σ' e as' B h') : XEnd g env l own as h C fl fr' σ' e as' B h' := by
  obtain ⟨⟨t1, rfl, f1⟩, ext⟩ := x
  obtain ⟨t2, q2, f2⟩ := E.pre
  have nd := E.R.nd
  have offs := E.F.offs
  rw [← ho] at offs
  have h1of : ∀ {b : Addr} {o : Obj}, h.get? b = some o → b ∉ t1 := fun e q => by rw [f1 _ q] at e; cases e
  refine ⟨⟨t1 ++ t2, by rw [q2, List.append_assoc], fun a ha => ?_⟩, fun b o hb n1 n2 n3 => E.ext b o (ext b o hb n1 n2) n1 (fun q => (List.mem_append.mp q).elim n2 (h1of hb)) n3, fun b o hb n1 n2 => E.slots b o (ext b o hb n2 (off b n1)) n1 n2, E.R, E.F, E.fly⟩
  rcases List.mem_append.mp ha with ha | ha
  · exact f1 a ha
  · cases q : h.get? a with
    | none => rfl
    | some o =>
      have hn : a ∉ as := fun hq => by
        rw [q2] at nd
        exact (List.nodup_append.mp nd).2.2 a (List.mem_append_left _ hq) a ha rfl
      have := ext a o q (fun hq => offs a hq (by rw [q2]; exact List.mem_append_right _ ha)) hn
      rw [f2 a ha] at this; cases this
set_option tactic.hygienic false in
theorem XEnd.fly' {as' : List Addr} {h h' h'' B : Heap} {C e : Addr} {fl fl' : Option Value} {fr' : Fra} {σ' : Sto} (E : XEnd g env l own as h C fl fr' σ' e as' B h') (F' : Fly B l e (.ref C) fl' h'') (u : h'.UpToSlots h'') (hs : ∀ (b : Addr) (o : Obj), h.get? b = some o → b ∈ Frs l → ∀ vs, o.data ≠ .fields vs) : XEnd g env l own as h C fl' fr' σ' e as' B h'' := by
  refine ⟨E.pre, E.ext, fun b o hb n1 n2 => ?_, E.R, E.F.slots u, F'⟩
  obtain ⟨sl, hsl⟩ := E.slots b o hb n1 n2
  obtain ⟨sl', h2⟩ := u b _ hsl (hs b o hb n1)
  exact ⟨sl', h2⟩
section
variable {M : Model} {outer : List Env} {L : Addr} {as' : List Addr} {h h' B : Heap} {C e : Addr} {fl : Option Value} {fr' : Fra} {σ' : Sto} {s' : Shared}
set_option tactic.hygienic false in
theorem noted_end (hfr : A.frames = some (env :: outer)) (hf : env.frame = some L) (hs : ∀ (b : Addr) (o : Obj), h.get? b = some o → b ∈ Frs (env :: outer) → ∀ vs, o.data ≠ .fields vs) (E : XEnd g env (env :: outer) own as h C fl fr' σ' e as' B s'.heap) (hfl : fl = none ∨ fl = some .none ∨ fl = some (rawInt L))
    (k : ∀ h'', XEnd g env (env :: outer) own as h C (some (rawInt L)) fr' σ' e as' B h'' → X (.ref e) { s' with heap := h'' }) : notedBy M A env X (.ref e) s' :=
  note_ok hfr hf E.fly hfl fun h'' F u => k h'' (E.fly' F u hs)
set_option tactic.hygienic false in
theorem came_end (hf : env.frame = some L) (hs : ∀ (b : Addr) (o : Obj), h.get? b = some o → b ∈ Frs (env :: outer) → ∀ vs, o.data ≠ .fields vs) {f : Value} (E : XEnd g env (env :: outer) own as h C (some f) fr' σ' e as' B s'.heap)
    (k : ∀ h'', XEnd g env (env :: outer) own as h C (some (rawInt L)) fr' σ' e as' B h'' → X (.ref e) { s' with heap := h'' }) : cameBackBy M A env X (.ref e) s' :=
  came_ok (fl := none) hf E.fly fun h'' F u => k h'' (E.fly' F u hs)
structure XCall (g : Cfg) (l : List Env) (as : List Addr) (h : Heap) (C : Addr) (σ' : Sto) (e : Addr) (as' : List Addr) (B h' : Heap) : Prop where
  pre : ∃ t, as' = as ++ t ∧ ∀ a ∈ t, h.get? a = none
  ext : ∀ (b : Addr) (o : Obj), h.get? b = some o → b ∉ as → b ∉ Frs l → B.get? b = some o
  slots : ∀ (b : Addr) (o : Obj), h.get? b = some o → b ∈ Frs l → ∃ sl, h'.get? b = some { o with slots := sl }
  R : Rel g as' σ' B
  fly : Fly B l e (.ref C) (some .none) h'
set_option tactic.hygienic false in
theorem leave_end {l : List Env} (hfr : A.frames = some (env :: l)) (hf : env.frame = some L) (hs : ∀ (b : Addr) (o : Obj), h.get? b = some o → b ∈ Frs (env :: l) → ∀ vs, o.data ≠ .fields vs) {h0 : Heap} (k0 : ∀ (b : Addr) (o : Obj), h0.get? b = some o → h.get? b = some o) (own0 : ∀ a ∈ own, h0.get? a = none) (hL : h0.get? L = none)
    (E : XEnd g env (env :: l) own as h C fl fr' σ' e as' B s'.heap) (hfl : fl = none ∨ fl = some .none ∨ fl = some (rawInt L)) {Q : Unit → Shared → Prop}
    (k : ∀ h'', XCall g l as h0 C σ' e as' B h'' → Q () { s' with heap := h'' }) : wpAny M A (leaving env (.ref e)) Q X s' := by
  have hfrs : ∀ b, b ∈ Frs (env :: l) ↔ b = L ∨ b ∈ Frs l := fun b => by
    unfold Frs; rw [List.filterMap_cons, hf]; exact List.mem_cons
  have nown : ∀ {b : Addr} {o : Obj}, h0.get? b = some o → b ∉ own := fun hb q => by rw [own0 _ q] at hb; cases hb
  have nL : ∀ {b : Addr} {o : Obj}, h0.get? b = some o → b ≠ L := fun hb q => by rw [q, hL] at hb; cases hb
  refine leave_ok hfr hf E.fly hfl fun h'' F u => k h'' ⟨?_, fun b o hb n1 n2 => E.ext b o (k0 b o hb) (nown hb) n1 fun q => ((hfrs b).mp q).elim (nL hb) n2, fun b o hb n1 => ?_, E.R, F⟩
  · obtain ⟨t, q, f⟩ := E.pre
    refine ⟨t, q, fun a ha => ?_⟩
    cases z : h0.get? a with
    | none => rfl
    | some o => have := k0 a o z; rw [f a ha] at this; cases this
  · obtain ⟨sl, h1⟩ := E.slots b o (k0 b o hb) ((hfrs b).mpr (.inr n1)) (nown hb)
    obtain ⟨sl', h2⟩ := u b _ h1 (hs b o (k0 b o hb) ((hfrs b).mpr (.inr n1)))
    exact ⟨sl', h2⟩
set_option tactic.hygienic false in
theorem XCall.here {l : List Env} (S : Stk g as l s.heap) (T : At g env as fr σ s) (hL : env.locals ∈ Frs l) (hc : ∀ x c, env.cells.lookup x = some c → c ∉ Frs l) (E : XCall g l as s.heap C σ' e as' B h') : XEnd g env l own as s.heap C (some .none) fr σ' e as' B h' := by
  obtain ⟨t, ht, hf⟩ := E.pre
  have K : Keep as s.heap as' B := ⟨fun i a hi => by rw [ht, List.getElem?_append_left (List.getElem?_eq_some_iff.mp hi).1]; exact hi, fun a o ea im => E.ext a o ea (fun q => by obtain ⟨ob, e', hn⟩ := T.R.there q; rw [ea] at e'; cases e'; exact hn im) fun q => S.dict a q o ea im⟩
  have cl : ∀ {x c cv}, env.cells.lookup x = some c → s.heap.IsCell c cv → B.IsCell c cv := fun hx ⟨o, ho, r⟩ => ⟨o, E.ext _ _ ho (T.F.offc _ _ hx).1 (hc _ _ hx), r⟩
  have fresh : ∀ {a : Addr} {o : Obj}, s.heap.get? a = some o → a ∉ as → a ∉ as' := fun ea n q => by
    rw [ht] at q
    rcases List.mem_append.mp q with q | q
    · exact n q
    · rw [hf _ q] at ea; cases ea
  obtain ⟨m, hm, hv⟩ := T.F.ns
  obtain ⟨oL, es, ep, hoL, hdL, rL⟩ := id hm
  obtain ⟨sl, hsl⟩ := E.slots _ _ hoL hL
  refine ⟨E.pre, fun b o hb _ n2 n3 => E.ext b o hb n2 n3, fun b o hb n1 _ => E.slots b o hb n1, E.R, ⟨T.F.kind, T.F.above, T.F.glob, T.F.blt, T.F.len, T.F.nd, ⟨m, ⟨_, es, ep, hsl, hdL, rL⟩, fun i x v h1 h2 => ?_⟩, fun i x kk h1 h2 => ?_, fresh hoL T.F.off, fun x c hx => ?_, T.F.apart, T.F.newc⟩, E.fly⟩
  · obtain ⟨val, e1, e2⟩ := hv i x v h1 h2
    exact ⟨val, e1, RepV.keep K _ _ e2⟩
  · obtain ⟨c, cv, e1, e2, e3⟩ := T.F.cells i x kk h1 h2
    exact ⟨c, cv, e1, cl e1 e2, fun v hv => by obtain ⟨val, q1, q2⟩ := e3 v hv; exact ⟨val, q1, RepV.keep K _ _ q2⟩⟩
  · obtain ⟨a, b, cv, d⟩ := T.F.offc x c hx
    obtain ⟨o, ho, r⟩ := id d
    exact ⟨fresh ho a, b, cv, cl hx d⟩
end
end
end Mine

set_option autoImplicit false
set_option linter.unusedVariables false
namespace Mine
open PySem PyProof.Rows PySem.W

section
variable {g : Cfg} {K : Frag} {fa : Nat → Option Addr} {env : Env} {A : Around} {X : Value → Shared → Prop} {s : Shared} {as as1 own : List Addr} {fr fr1 : Fra} {σ : Sto} {c : CE} {l : List Env} {h h1 : Heap}
set_option tactic.hygienic false in
theorem frames_map {base : Heap} (k : ∀ a ∈ Frs l, ∀ o, h.get? a = some o → (∀ vs, o.data ≠ .fields vs) → ∃ o', h1.get? a = some o' ∧ ∀ vs, o'.data ≠ .fields vs) : h.FunFrames base l → h1.FunFrames base l := by
  induction l with
  | nil => exact fun _ => trivial
  | cons e l ih =>
    rintro ⟨hk, ⟨L, o, hf, hn, ho, hd⟩, hr⟩
    have hm : ∀ a, a ∈ Frs (e :: l) ↔ a = L ∨ a ∈ Frs l := fun a => by unfold Frs; rw [List.filterMap_cons, hf]; exact List.mem_cons
    obtain ⟨o', h1, h2⟩ := k L ((hm L).mpr (.inl rfl)) o ho hd
    exact ⟨hk, ⟨L, o', hf, hn, h1, h2⟩, ih (fun a ha => k a ((hm a).mpr (.inr ha))) hr⟩
set_option tactic.hygienic false in
theorem Stk.step (S : Stk g as l h) (x : Step (ownOf env) as h as1 h1) (F : FrRel g env as1 fr1 h1) (hc : ∀ x c, env.cells.lookup x = some c → c ∉ Frs l) : Stk g as1 l h1 := by
  have far : ∀ a ∈ Frs l, a ≠ env.locals → a ∉ ownOf env := fun a ha hne q => by
    rcases List.mem_cons.mp q with q | q
    · exact hne q
    · obtain ⟨p, _, e⟩ := List.mem_filterMap.mp q
      exact hc _ _ e ha
  obtain ⟨m, hm, _⟩ := F.ns
  obtain ⟨oL, es, ep, hoL, hdL, _⟩ := id hm
  refine ⟨frames_map (fun a ha o ho hd => ?_) S.fr, fun a ha q => ?_, fun a ha o ho => ?_⟩
  · by_cases e : a = env.locals
    · exact ⟨oL, by rw [e]; exact hoL, fun vs q => by rw [hdL] at q; cases q⟩
    · exact ⟨o, x.ext a o ho (far a ha e) (S.off a ha), hd⟩
  · obtain ⟨t, rfl, ht⟩ := x.pre
    rcases List.mem_append.mp q with q | q
    · exact S.off a ha q
    · obtain ⟨_, o, ho, _⟩ := frs_mem S.fr ha
      rw [ht a q] at ho; cases ho
  · by_cases e : a = env.locals
    · subst e; exact F.notImm _ (.head _) o ho
    · obtain ⟨_, o', ho', _⟩ := frs_mem S.fr ha
      have := x.ext a o' ho' (far a ha e) (S.off a ha)
      rw [this] at ho; cases ho
      exact S.dict a ha o ho'
structure On (g : Cfg) (env : Env) (A : Around) (as : List Addr) (l : List Env) (h : Heap) : Prop where
  hfr : A.frames = some l
  top : ∃ outer, l = env :: outer
  hf : env.frame = some env.locals
  hc : ∀ x c, env.cells.lookup x = some c → c ∉ Frs l
  S : Stk g as l h
set_option tactic.hygienic false in
theorem On.step (O : On g env A as l h) (x : Step (ownOf env) as h as1 h1) (F : FrRel g env as1 fr1 h1) : On g env A as1 l h1 := ⟨O.hfr, O.top, O.hf, O.hc, O.S.step x F O.hc⟩
def FlOk (env : Env) (fl : Option Value) : Prop := fl = none ∨ fl = some .none ∨ fl = some (rawInt env.locals)
noncomputable def XPost (g : Cfg) (env : Env) (l : List Env) (as : List Addr) (s : Shared) (C : Addr) (fr' : Fra) (σ' : Sto) (X : Value → Shared → Prop) : Prop :=
  ∀ (fl : Option Value) (e : Addr) (as' : List Addr) (B h' : Heap) (tk : Nat), FlOk env fl → XEnd g env l (ownOf env) as s.heap C fl fr' σ' e as' B h' → X (.ref e) { s with heap := h', toks := tk }
set_option tactic.hygienic false in
theorem xpost_of {C : Addr} {fr' : Fra} {σ' : Sto} {tk : Nat} (hX : XPost g env l as s C fr' σ' X) (st : Step (ownOf env) as s.heap as1 h1) (off : ∀ a ∈ Frs l, a ∉ as) : XPost g env l as1 { s with heap := h1, toks := tk } C fr' σ' X :=
  fun fl e as' B h' tk' hfl E => hX fl e as' B h' tk' hfl (E.after st rfl off)
set_option tactic.hygienic false in
theorem On.mem (O : On g env A as l h) : env.locals ∈ Frs l := by
  obtain ⟨outer, rfl⟩ := O.top
  unfold Frs; rw [List.filterMap_cons, O.hf]; exact .head _
set_option tactic.hygienic false in
theorem xpost_call {C : Addr} {σ1 σ' : Sto} {tk : Nat} (hX : XPost g env l as s C fr σ' X) (O : On g env A as l s.heap) (st : Step [env.locals] as s.heap as1 h1) (R1 : Rel g as1 σ1 h1) (F1 : FrRel g env as1 fr h1) {e : Addr} {as2 : List Addr} {B h2 : Heap} (E : XCall g l as1 h1 C σ' e as2 B h2) : X (.ref e) { s with heap := h2, toks := tk } :=
  hX (some .none) e as2 B h2 tk (.inr (.inl rfl)) ((E.here (s := { s with heap := h1 }) (own := ownOf env) (O.step (up st) F1).S ⟨F1, R1⟩ O.mem O.hc).after (up st) rfl O.S.off)
end

noncomputable def CallX (g : Cfg) (fa : Nat → Option Addr) (call : Nat → List V → Sto → RE) (n : Nat) : Prop :=
  ∀ (k : Nat) (a : Addr) (vs : List V) (σ σ' : Sto) (x : Nat), fa k = some a → call k vs σ = .ex x σ' →
  ∀ (A : Around) (s : Shared) (as : List Addr) (xs : List Value) (l : List Env) (R : Result → Shared → Prop), Room g A n → A.frames = some l → Stk g as l s.heap → Rel g as σ s.heap → g.b.objs.size ≤ s.heap.objs.size → RepVs as s.heap vs xs →
    (∀ (e : Addr) (as' : List Addr) (B h' : Heap) (tk : Nat), XCall g l as s.heap x σ' e as' B h' → R (.error (.ref e)) { s with heap := h', toks := tk }) →
    codeAny (model g.prog g.w) A (.call (.ref a) ⟨xs, []⟩) R s
section
variable {g : Cfg} {K : Frag} {fa : Nat → Option Addr} {c0 : CE} {call : Nat → List V → Sto → RE} {wf r n : Nat} {names : List (Str × NameKind)}
noncomputable def NodeX (g : Cfg) (c0 : CE) (call : Nat → List V → Sto → RE) (r : Nat) (names : List (Str × NameKind)) (e : Expr) (e' : E) : Prop :=
  ∀ (env : Env) (A : Around) (X : Value → Shared → Prop) (s : Shared) (as : List Addr) (fr : Fra) (σ σ' : Sto) (x : Nat) (l : List Env) (Q : Value → Shared → Prop),
    NamesOk (c0.sub names) env → Room g A (r + 1) → On g env A as l s.heap → At g env as fr σ s → evE call e' fr σ = .ex x σ' → XPost g env l as s x fr σ' X → wpAny (model g.prog g.w) A (eval e env) Q X s
noncomputable def SndX (g : Cfg) (c0 : CE) (call : Nat → List V → Sto → RE) (r n : Nat) : Prop := ∀ (names : List (Str × NameKind)) (e : Expr) (e' : E), compE n (c0.sub names) e = some e' → isCallE e' = true → NodeX g c0 call r names e e'
set_option tactic.hygienic false in
theorem sbind_exel {r : REs} {k : List V → Sto → RE} {x : Nat} {σ' : Sto} {P : Prop} (e : r.bind k = .ex x σ') (h : ∀ u τ, r = .ok u τ → k u τ = .ex x σ' → P) : P := by
  cases r with
  | ok u τ => exact h u τ rfl e
  | ex x τ => cases e
  | bad => cases e
set_option tactic.hygienic false in
theorem bind_exel {r : RE} {k : V → Sto → RE} {x : Nat} {σ' : Sto} {P : Prop} (e : r.bind k = .ex x σ') (h : ∀ u τ, r = .ok u τ → k u τ = .ex x σ' → P) : P := by
  cases r with
  | ok u τ => exact h u τ rfl e
  | ex x τ => cases e
  | bad => cases e
set_option tactic.hygienic false in
theorem x_callX {f : Str} {fp p : Pos} {k es es'} (G : Glob g K c0 fa) (C : CallX g fa call r) (IH : SndE g c0 call r n) (hg : (c0.sub names).glob f = true) (hd : (f == ("__debug__" : Str)) = false) (hb : c0.fns.lookup f = some k) (h1 : mapO (compE n (c0.sub names)) es = some es') :
    NodeX g c0 call r names (.Call (.Name f fp) es [] p) (.call k es') := fun env A X s as fr σ σ' x l Q N hA O T ev hX => by
  refine sbind_exel ev fun us τ e1 e2 => ?_
  obtain ⟨a, hv, hfa, hkp⟩ := G.fn f k hb
  refine wpAny_Call_NameR (o_glob T N hg hd hv ?_)
  refine callWith_snd IH (keeps_G G hkp) h1 N hA T e1 fun xs as' h' tk st R' F' r' => ?_
  exact wpAny_call (C k a us τ σ' x hfa e2 A _ as' xs l _ (hA.less (k := 1)) O.hfr (O.step (up st) F').S R' F'.size r' fun e as2 B h2 tk2 E => xpost_call hX O st R' F' E)
set_option tactic.hygienic false in
theorem bad_ex {x : Nat} {σ' : Sto} {P : Prop} (h : RE.bad = .ex x σ') : P := nomatch h
theorem instV_ex {u : V} {τ σ' : Sto} {q : RE} {x : Nat} (e : instV u τ q = .ex x σ') : ∃ l d ents, u = .ref l ∧ τ[l]? = some (.inst d) ∧ τ[d]? = some (.att ents) ∧ q = .ex x σ' := by
  unfold instV at e
  cases u <;> first | exact bad_ex e | skip
  rename_i l
  dsimp only at e
  cases q1 : τ[l]? with
  | none => rw [q1] at e; exact bad_ex e
  | some ob =>
    rw [q1] at e
    cases ob <;> first | exact bad_ex e | skip
    rename_i d
    dsimp only at e
    cases q2 : τ[d]? with
    | none => rw [q2] at e; exact bad_ex e
    | some ob =>
      rw [q2] at e
      cases ob <;> first | exact bad_ex e | exact ⟨l, d, _, rfl, q1, q2, e⟩
set_option tactic.hygienic false in
theorem x_umethX {o : Expr} {x : Str} {apos p : Pos} {a es es' f} (G : Glob g K c0 fa) (C : CallX g fa call r) (IH : SndE g c0 call r n) (hb : baseOk o = true) (hl : es.length ≤ 8) (hp : (apos.endLine == p.line) = true)
    (h0 : compE n (c0.sub names) o = some a) (h1 : mapO (compE n (c0.sub names)) es = some es') (hf : c0.mths.lookup x = some f) :
    NodeX g c0 call r names (.Call (.Attribute o x apos) es [] p) (.umeth a f es') := fun env A X s as fr σ σ' x' l Q N hA O T ev hX => by
  refine MethodCall_ (pl := do return (← importBound o env).getD true) ?_ (meth_eq (base_eq hb) hl hp h1)
  refine bind_exel ev fun u τ e1 e2 => ?_
  obtain ⟨l', d, ents, rfl, hd, he, e2⟩ := instV_ex e2
  refine sbind_exel e2 fun us τ' e3 e4 => ?_
  refine IH names o a h0 env A X s as fr σ τ _ _ N hA T e1 fun val as' h' tk st R' F' r' => ?_
  have T' : At g env as' fr τ { s with heap := h', toks := tk } := ⟨F', R'⟩
  obtain ⟨fad, hfa, hpg, hfi, hfn, hkp, hna⟩ := G.mth x f hf
  obtain ⟨ad, dx, rfl, h2, h3, h4⟩ := rep_inst (s := { s with heap := h', toks := tk }) R' r' hd
  obtain ⟨es0, nn, h5, h6, _⟩ := rep_att (s := { s with heap := h', toks := tk }) R' h3 he
  obtain ⟨m, hF, _⟩ := F'.fr R'
  refine method_inst (L := env.locals) (h₀ := g.b) (m := m) (es := es0) (n := nn) (ox := instObj g.C dx) hF G.kin ⟨h4, rfl, rfl, h5⟩ hpg hfi hfn (ents_none hna h6) ?_
  refine callWith_snd (first := [.ref ad]) IH (keeps_G G hkp) h1 N hA T' e3 fun xs as2 h2' tk2 st2 R2 F2' r2 => ?_
  have r3 := RepV.keep (T'.keep st2) _ _ r'
  have st3 := step_trans st st2 R2 F2'
  exact wpAny_call (C f fad _ τ' σ' x' hfa e4 A _ as2 (.ref ad :: xs) l _ (hA.less (k := 1)) O.hfr (O.step (up st3) F2').S R2 F2'.size (by rw [RepVs]; exact ⟨_, _, rfl, r3, r2⟩) fun e as3 B h3' tk3 E => xpost_call hX O st3 R2 F2' E)
theorem x_mkX {f : Str} {fp p : Pos} {k es es'} (G : Glob g K c0 fa) (C : CallX g fa call r) (IH : SndE g c0 call r n) (hg : (c0.sub names).glob f = true) (hd : (f == ("__debug__" : Str)) = false) (hb : c0.clss.lookup f = some k) (h1 : mapO (compE n (c0.sub names)) es = some es') :
    NodeX g c0 call r names (.Call (.Name f fp) es [] p) (.mk k es') := fun env A X s as fr σ σ' x' l Q N hA O T ev hX => by
  refine sbind_exel ev fun us τ e1 e2 => ?_
  have e3 : call k (.ref (τ.length + 1) :: us) (τ ++ [.att []] ++ [.inst τ.length]) = .ex x' σ' := by
    rw [List.append_assoc]
    split at e2
    · cases e2
    · cases e2
    · rename_i hq; cases e2; exact hq
    · cases e2
  refine mk_enter G IH hg hd hb h1 N hA T e1 fun fI xs as' h' tk dx x h2 hfa st R' st3 R3 F3 href hroom => ?_
  exact C k fI _ _ σ' x' hfa e3 _ _ (as' ++ [dx] ++ [x]) (.ref x :: xs) l _ hroom O.hfr (O.step (up (step_trans st st3 R3 F3)) F3).S R3 F3.size href fun e as4 B h4 tk4 E => xpost_call hX O (step_trans st st3 R3 F3) R3 F3 E
end
end Mine

set_option autoImplicit false
set_option maxRecDepth 100000
set_option linter.unusedVariables false
namespace Mine
open PySem PyProof.Rows PySem.W

section
variable {g : Cfg} {K : Frag} {fa : Nat → Option Addr} {c0 : CE} {call : Nat → List V → Sto → RE} {wf r n : Nat} {names : List (Str × NameKind)} {e' : E}
set_option tactic.hygienic false in
theorem nc {e : E} {P : Prop} {f : Option E} (h : f = some e) (hc : isCallE e = true) (q : ∀ x, f = some x → isCallE x = false) : P := tf (hc.symm.trans (q _ h))
set_option tactic.hygienic false in
theorem mapI {α : Type} {a : Option α} {f : α → E} (hf : ∀ x, isCallE (f x) = false) : ∀ x, a.map f = some x → isCallE x = false := fun x h => by obtain ⟨y, _, rfl⟩ := map_inv h; exact hf y
set_option tactic.hygienic false in
theorem opt2I {α β : Type} {a : Option α} {b : Option β} {f : α → β → E} (hf : ∀ x y, isCallE (f x y) = false) : ∀ x, opt2 f a b = some x → isCallE x = false := fun x h => by obtain ⟨y, z, _, _, rfl⟩ := opt2_inv h; exact hf y z
set_option tactic.hygienic false in
theorem gdI {a : Option E} {b : Bool} (q : ∀ x, a = some x → isCallE x = false) : ∀ x, gd b a = some x → isCallE x = false := fun x h => q x (gd_inv h).2
set_option tactic.hygienic false in
theorem bindI {α : Type} {a : Option α} {f : α → Option E} (q : ∀ y x, f y = some x → isCallE x = false) : ∀ x, a.bind f = some x → isCallE x = false := fun x h => let ⟨y, _, h2⟩ := bind_inv h; q y x h2
set_option tactic.hygienic false in
theorem noI : ∀ x : E, (none : Option E) = some x → isCallE x = false := fun _ h => nn h
set_option tactic.hygienic false in
theorem someI {e : E} (h : isCallE e = false) : ∀ x : E, some e = some x → isCallE x = false := fun _ q => Option.some.inj q ▸ h
set_option tactic.hygienic false in
theorem cmpI {f : Expr → Option E} {l : Expr} {ops : List CmpOp} {rs : List Expr} : ∀ x, cCmp f l ops rs = some x → isCallE x = false := fun x h => cmp_inv (P := fun _ _ x => isCallE x = false) h (fun _ _ _ _ _ _ _ => rfl) fun _ _ _ _ _ _ _ _ _ _ _ => rfl
theorem subI {f : Expr → Option E} {v i : Expr} : ∀ x, cSub f v i = some x → isCallE x = false := by
  unfold cSub
  cases vw i <;> first | exact opt2I fun _ _ => rfl | skip
  rename_i t
  obtain ⟨a, b, d⟩ := t
  cases a <;> cases b <;> cases d <;> first | exact noI | exact opt2I fun _ _ => rfl
set_option tactic.hygienic false in
theorem dictI {f : Expr → Option E} {ks : List (Option Expr)} {vs : List Expr} : ∀ x, cDict f ks vs = some x → isCallE x = false := by
  rcases ks with _ | ⟨_ | k, _ | ⟨k2, ks⟩⟩ <;> first | exact noI | skip
  · rcases vs with _ | ⟨v, _ | ⟨v2, vs⟩⟩
    · exact noI
    · exact opt2I fun _ _ => rfl
    · exact noI
theorem callKI {c : CE} {f : Expr → Option E} {x : Str} {args : List Expr} {k : Keyword} : ∀ y, cCallK c f x args k = some y → isCallE y = false := by
  unfold cCallK
  rcases args with _ | ⟨a, _ | ⟨b, args⟩⟩
  · exact noI
  · dsimp only
    cases vw k.value <;> first | exact noI | skip
    · rename_i v; cases v <;> first | exact noI | exact gdI (mapI fun _ => rfl)
    · exact gdI (bindI fun _ => gdI (opt2I fun _ _ => rfl))
  · exact noI
theorem sndx_step (G : Glob g K c0 fa) (C : CallX g fa call r) (IH : SndE g c0 call r n) (IX : SndX g c0 call r n) : SndX g c0 call r (n + 1) := by
  intro names e e' h hc
  cases e with
  | Constant k a p => cases k <;> first | exact nn h | exact nc h hc (someI rfl)
  | Name x p =>
    refine nc (show cName (c0.sub names) x = some e' from h) hc (gdI ?_)
    cases (c0.sub names).loc? x with
    | some i => exact someI rfl
    | none => exact gdI (mapI fun _ => rfl)
  | BoolOp op vs p =>
    obtain ⟨es, h1, h2⟩ := bind_inv h
    rcases vs with _ | ⟨v, _ | ⟨v2, vs⟩⟩
    · rw [mapO] at h1; cases h1; exact nn h2
    · obtain ⟨a, as', h3, h4, rfl⟩ := mapO_cons h1
      rw [mapO] at h4; cases h4
      cases Option.some.inj h2
      exact IX names v _ h3 hc
    · obtain ⟨a, as', h3, h4, rfl⟩ := mapO_cons h1
      obtain ⟨a2, as2, h5, h6, rfl⟩ := mapO_cons h4
      exact nc (show (foldB op (a2 :: as2)).map (fun y => mkB op a y) = some e' from h2) hc (mapI fun y => by cases op <;> rfl)
  | BinOp l op rt p =>
    refine nc (show cBin _ l op rt = some e' from h) hc ?_
    unfold cBin
    cases opOk op with
    | true => exact opt2I fun _ _ => rfl
    | false => exact gdI (bindI fun _ => bindI fun _ => gdI (someI rfl))
  | UnaryOp op x p => cases op <;> first | exact nn h | exact nc h hc (mapI fun _ => rfl)
  | Compare l ops rs p => exact nc h hc cmpI
  | Subscript v i p => exact nc h hc subI
  | Attribute v x p => exact nc h hc (gdI (opt2I fun _ _ => rfl))
  | List es p => exact nc h hc (gdI (mapI fun _ => rfl))
  | Tuple es k p => exact nc h hc (gdI (mapI fun _ => rfl))
  | Dict ks vs p => exact nc h hc dictI
  | Call fn args ks p =>
    have h : cCall (c0.sub names) (compE n (c0.sub names)) fn args ks p = some e' := h
    unfold cCall at h
    cases q : name? fn with
    | some x =>
      rw [q] at h
      obtain ⟨fp, rfl⟩ := name?_inv q
      rcases ks with _ | ⟨k, _ | ⟨k2, ks⟩⟩
      · have h : cCallN (c0.sub names) (compE n (c0.sub names)) x args = some e' := h
        unfold cCallN at h
        cases q : callKind (c0.sub names) x args with
        | setLen a => rw [q] at h; exact nn h
        | revl a => rw [q] at h; exact nn h
        | isi a t => rw [q] at h; exact nc h hc (opt2I fun _ _ => rfl)
        | plain =>
          rw [q] at h
          obtain ⟨h0, h⟩ := gd_inv h
          obtain ⟨_, h0⟩ := and_inv h0
          obtain ⟨hg, hd⟩ := and_inv h0
          have hd := not_inv hd
          obtain ⟨es', h1, h2⟩ := bind_inv h
          unfold plainCall' at h2
          cases q1 : bltName.lookup x with
          | some b => rw [q1] at h2; exact nc h2 hc (gdI (someI rfl))
          | none =>
            rw [q1] at h2
            cases q2 : (c0.sub names).fns.lookup x with
            | some k => rw [q2] at h2; exact si h2 (x_callX G C IH hg hd q2 h1)
            | none =>
              rw [q2] at h2
              obtain ⟨k, h3, rfl⟩ := map_inv h2
              exact x_mkX G C IH hg hd h3 h1
      · exact nc h hc callKI
      · exact nn h
    | none =>
      rw [q] at h
      cases ks with
      | cons => exact nn h
      | nil =>
        cases q : vw fn <;> rw [q] at h <;> first | exact nn h | skip
        rename_i t
        have hv : fn = _ := vw_of q
        obtain ⟨o, x, ap⟩ := t
        subst hv
        have hM : cCallM (c0.sub names) (compE n (c0.sub names)) (o, x, ap) args p = some e' → NodeX g c0 call r names (.Call (.Attribute o x ap) args [] p) e' := fun h => by
          obtain ⟨h0, h⟩ := gd_inv h
          obtain ⟨h1, h0⟩ := and_inv h0
          obtain ⟨h2, h0⟩ := and_inv h0
          obtain ⟨a, h5, h⟩ := bind_inv h
          obtain ⟨as', h6, h⟩ := bind_inv h
          unfold methCall at h
          cases q : methName.lookup x with
          | some m => rw [q] at h; exact nc h hc (someI rfl)
          | none =>
            rw [q] at h
            obtain ⟨f, h7, rfl⟩ := map_inv h
            exact x_umethX G C IH h2 (of_decide_eq_true h1) h0 h5 h6 h7
        have h : (match vw o with | .const k => (match k with | .str s => cJoin (compE n (c0.sub names)) s (o, x, ap) args p | _ => none) | _ => cCallM (c0.sub names) (compE n (c0.sub names)) (o, x, ap) args p) = some e' := h
        cases q : vw o <;> rw [q] at h <;> first | exact hM h | skip
        rename_i k
        cases k <;> first | exact nn h | skip
        refine nc h hc ?_
        rcases args with _ | ⟨a, _ | ⟨b, args⟩⟩
        · exact noI
        · exact gdI (mapI fun _ => rfl)
        · exact noI
  | ListComp elt gens sc p => exact nc h hc (gdI (bindI fun _ => bindI fun _ => bindI fun _ => bindI fun _ => bindI fun _ => mapI fun _ => rfl))
  | _ => exact nn h
set_option tactic.hygienic false in
theorem sndx_all (G : Glob g K c0 fa) (I : AttInj g) (C : CallOk g fa call r) (CX : CallX g fa call r) : ∀ n, SndX g c0 call r n
  | 0 => fun names e e' h => nn h
  | n + 1 => sndx_step G CX (snd_all G I C n).1 (sndx_all G I C CX n)
end
end Mine

set_option autoImplicit false
set_option maxRecDepth 100000
set_option linter.unusedVariables false
namespace Mine
open PySem PyProof.Rows PySem.W

noncomputable def NodeSX (g : Cfg) (c0 : CE) (call : Nat → List V → Sto → RE) (wf r : Nat) (names : List (Str × NameKind)) (st : Stmt) (st' : S) : Prop :=
  ∀ (env : Env) (A : Around) (X : Value → Shared → Prop) (s : Shared) (as : List Addr) (fr fr' : Fra) (σ σ' : Sto) (x : Nat) (l : List Env) (Q : Flow → Shared → Prop),
    NamesOk (c0.sub names) env → Room g A (r + 1) → On g env A as l s.heap → At g env as fr σ s → evS call wf st' fr σ = .ex x fr' σ' → XPost g env l as s x fr' σ' X → wpAny (model g.prog g.w) A (exec st env) Q X s
noncomputable def SndSX (g : Cfg) (c0 : CE) (call : Nat → List V → Sto → RE) (wf r n : Nat) : Prop := ∀ (names : List (Str × NameKind)) (st : Stmt) (st' : S), compS n (c0.sub names) st = some st' → NodeSX g c0 call wf r names st st'
noncomputable def SndLX (g : Cfg) (c0 : CE) (call : Nat → List V → Sto → RE) (wf r n : Nat) : Prop :=
  ∀ (names : List (Str × NameKind)) (sts : List Stmt) (sts' : List S), mapO (compS n (c0.sub names)) sts = some sts' →
  ∀ (env : Env) (A : Around) (X : Value → Shared → Prop) (s : Shared) (as : List Addr) (fr fr' : Fra) (σ σ' : Sto) (x : Nat) (l : List Env) (Q : Flow → Shared → Prop),
    NamesOk (c0.sub names) env → Room g A (r + 1) → On g env A as l s.heap → At g env as fr σ s → evSs call wf sts' fr σ = .ex x fr' σ' → XPost g env l as s x fr' σ' X → wpAny (model g.prog g.w) A (execs sts env) Q X s

inductive FRunX (src : Src) (tg : List Nat) (one : Bool) (body : Fra → Sto → RS) : Nat → Nat → Fra → Sto → Nat → Fra → Sto → Prop
  | step {k i fr σ v fr1 fl fr2 σ2 x fr' σ'} : srcAt σ i src = some (some v) → bindT tg one v fr = some fr1 → body fr1 σ = .ok fl fr2 σ2 → (fl = .next ∨ fl = .cont) → FRunX src tg one body k (i + 1) fr2 σ2 x fr' σ' → FRunX src tg one body (k + 1) i fr σ x fr' σ'
  | ex {i fr σ v fr1 x fr2 σ2} : srcAt σ i src = some (some v) → bindT tg one v fr = some fr1 → body fr1 σ = .ex x fr2 σ2 → FRunX src tg one body 0 i fr σ x fr2 σ2
set_option tactic.hygienic false in
theorem turn_ex {body next : Fra → Sto → RS} {fr1 fr' : Fra} {σ σ' : Sto} {x : Nat} {P : Prop} (e : (match body fr1 σ with | .ok .next fr σ => next fr σ | .ok .cont fr σ => next fr σ | .ok .brk fr σ => .ok .next fr σ | r => r) = .ex x fr' σ')
    (H1 : ∀ fl fr2 σ2, body fr1 σ = .ok fl fr2 σ2 → (fl = .next ∨ fl = .cont) → next fr2 σ2 = .ex x fr' σ' → P) (H2 : body fr1 σ = .ex x fr' σ' → P) : P := by
  cases q : body fr1 σ with
  | bad => rw [q] at e; cases e
  | ex y f s => rw [q] at e; cases e; exact H2 q
  | ok f f2 s2 =>
    rw [q] at e
    cases f with
    | next => exact H1 _ _ _ q (.inl rfl) e
    | cont => exact H1 _ _ _ q (.inr rfl) e
    | brk => cases e
    | ret w => cases e
theorem forL_runX {tg : List Nat} {one : Bool} {body : Fra → Sto → RS} {l : Nat} : ∀ (n i : Nat) (fr fr' : Fra) (σ σ' : Sto) (x : Nat), forL tg one body l n i fr σ = .ex x fr' σ' → ∃ k, FRunX (.live l) tg one body k i fr σ x fr' σ'
  | 0, _, _, _, _, _, _, e => by rw [forL] at e; cases e
  | n + 1, i, fr, fr', σ, σ', x, e => by
    rw [forL] at e
    split at e
    · cases e
    · rename_i xs hx
      split at e
      · cases e
      · rename_i v hi
        have hs : srcAt σ i (.live l) = some (some v) := by simp [srcAt, hx, hi]
        split at e
        · cases e
        · rename_i f1 hb
          refine turn_ex e (fun fl f2 σ2 hc hfl e => ?_) fun hc => ⟨0, .ex hs hb hc⟩
          obtain ⟨k, hk⟩ := forL_runX n (i + 1) _ _ _ _ _ e
          exact ⟨k + 1, .step hs hb hc hfl hk⟩
theorem forV_runX {tg : List Nat} {one : Bool} {body : Fra → Sto → RS} {src : Src} {L : List V} (hs : ∀ σ i, srcAt σ i src = some L[i]?) : ∀ (vs : List V) (i : Nat) (fr fr' : Fra) (σ σ' : Sto) (x : Nat), L.drop i = vs → forV tg one body vs fr σ = .ex x fr' σ' → ∃ k, FRunX src tg one body k i fr σ x fr' σ'
  | [], _, _, _, _, _, _, _, e => by rw [forV] at e; cases e
  | v :: vs, i, fr, fr', σ, σ', x, hd, e => by
    rw [forV] at e
    have hv : L[i]? = some v := by
      have := congrArg (fun l => l[0]?) hd
      simpa using this
    have hs' : srcAt σ i src = some (some v) := by rw [hs, hv]
    split at e
    · cases e
    · rename_i f1 hb
      refine turn_ex e (fun fl f2 σ2 hc hfl e => ?_) fun hc => ⟨0, .ex hs' hb hc⟩
      obtain ⟨k, hk⟩ := forV_runX hs vs (i + 1) _ _ _ _ _ (by rw [← List.drop_drop, hd]; rfl) e
      exact ⟨k + 1, .step hs' hb hc hfl hk⟩
theorem for_runX {tg : List Nat} {one : Bool} {bd : Fra → Sto → RS} {u : V} {fr fr' : Fra} {τ σ' : Sto} {x : Nat} (e2 : forE tg one bd fr u τ = .ex x fr' σ') : ∃ src k, srcOf u = some src ∧ (∀ l, src = .live l → ∃ xs, getL τ l = some xs) ∧ FRunX src tg one bd k 0 fr τ x fr' σ' := by
  unfold forE at e2
  cases u with
  | ref l =>
    simp only at e2
    split at e2
    · rename_i xs hx
      obtain ⟨k, hk⟩ := forL_runX _ _ _ _ _ _ _ e2
      exact ⟨.live l, k, rfl, fun l' q => by cases q; exact ⟨xs, hx⟩, hk⟩
    · cases e2
  | tup vs =>
    obtain ⟨k, hk⟩ := forV_runX (src := .tup vs) (L := vs) (fun _ _ => rfl) vs 0 _ _ _ _ _ rfl e2
    exact ⟨.tup vs, k, rfl, (fun l' q => (nomatch q)), hk⟩
  | rng lo hi =>
    obtain ⟨k, hk⟩ := forV_runX (src := .rng lo hi) (L := rngL lo hi) (fun _ _ => rfl) (rngL lo hi) 0 _ _ _ _ _ rfl e2
    exact ⟨.rng lo hi, k, rfl, (fun l' q => (nomatch q)), hk⟩
  | _ => cases e2

section
variable {g : Cfg} {K : Frag} {fa : Nat → Option Addr} {c0 : CE} {call : Nat → List V → Sto → RE} {env : Env} {A : Around} {X : Value → Shared → Prop} {s : Shared} {as : List Addr} {fr fr' : Fra} {σ σ' : Sto} {wf r n x : Nat} {names : List (Str × NameKind)} {l : List Env}
theorem sndx_list (IS : SndS g c0 call wf r n) (IX : SndSX g c0 call wf r n) : SndLX g c0 call wf r n := by
  intro names sts
  induction sts with
  | nil =>
    intro sts' h env A X s as fr fr' σ σ' x l Q N hA O T ev hX
    rw [mapO] at h; cases h
    rw [evSs] at ev; cases ev
  | cons st sts ih =>
    intro sts' h env A X s as fr fr' σ σ' x l Q N hA O T ev hX
    obtain ⟨a, as', h1, h2, rfl⟩ := mapO_cons h
    rw [evSs] at ev
    dsimp only at ev
    refine wpAny_execs_cons ?_
    split at ev
    · rename_i f1 σ1 he
      refine IS names st a h1 env A X s as fr f1 σ σ1 .next _ N hA T he fun f as1 k1 tk1 hf st1 R1 F1 => ?_
      have hf' : f = .next := hf
      subst hf'
      exact ih as' h2 env A X _ as1 f1 fr' σ1 σ' x l Q N hA (O.step st1 F1) ⟨F1, R1⟩ ev (xpost_of hX st1 O.S.off)
    · exact IX names st a h1 env A X s as fr fr' σ σ' x l _ N hA O T ev hX
set_option tactic.hygienic false in
theorem bindS_exel {r : RE} {fr : Fra} {k : V → Sto → RS} {x : Nat} {fr' : Fra} {σ' : Sto} {P : Prop} (e : r.bindS fr k = .ex x fr' σ') (h : ∀ u τ, r = .ok u τ → k u τ = .ex x fr' σ' → P) : P := by
  cases r with
  | ok u τ => exact h u τ rfl e
  | ex x τ => cases e
  | bad => cases e
set_option tactic.hygienic false in
theorem bindX_exel {r : RE} {b : Bool} {fr : Fra} {k : V → Sto → RS} {x : Nat} {fr' : Fra} {σ' : Sto} {P : Prop} (e : r.bindX b fr k = .ex x fr' σ') (hk : ∀ u τ, k u τ ≠ .ex x fr' σ') (h : b = true → r = .ex x σ' → fr' = fr → P) : P := by
  cases r with
  | ok u τ => exact absurd e (hk u τ)
  | ex y τ =>
    cases b with
    | true => cases e; exact h rfl rfl rfl
    | false => cases e
  | bad => cases e
set_option tactic.hygienic false in
theorem sx_if {t : Expr} {b o : List Stmt} {t' : E} {b' o' : List S} {p : Pos} (IT : SndT g c0 call r n) {m : Nat} (IL : SndLX g c0 call wf r m) (h0 : compE n (c0.sub names) t = some t') (h1 : mapO (compS m (c0.sub names)) b = some b') (h2 : mapO (compS m (c0.sub names)) o = some o') :
    NodeSX g c0 call wf r names (.If t b o p) (.ifS t' b' o') := fun env A X s as fr fr' σ σ' x l Q N hA O T ev hX => by
  refine bindS_exel (fr := fr) ev fun u τ e1 e2 => ?_
  split at e2
  · refine wpAny_If (IT names t t' h0 env A X s as fr σ τ true _ N hA T e1 fun as' h' tk st R' F' => ?_)
    rw [if_pos rfl]
    exact IL names b b' h1 env A X _ as' fr fr' τ σ' x l Q N hA (O.step (up st) F') ⟨F', R'⟩ e2 (xpost_of hX (up st) O.S.off)
  · refine wpAny_If (IT names t t' h0 env A X s as fr σ τ false _ N hA T e1 fun as' h' tk st R' F' => ?_)
    rw [if_neg Bool.false_ne_true]
    exact IL names o o' h2 env A X _ as' fr fr' τ σ' x l Q N hA (O.step (up st) F') ⟨F', R'⟩ e2 (xpost_of hX (up st) O.S.off)
  · cases e2
set_option tactic.hygienic false in
theorem sx_expr {e : Expr} {e' : E} {p : Pos} (IX : SndX g c0 call r n) (hn : ∀ a b c d, e ≠ .ListComp a b c d) (h : compE n (c0.sub names) e = some e') : NodeSX g c0 call wf r names (.Expr e p) (.expr e') := fun env A X s as fr fr' σ σ' x l Q N hA O T ev hX =>
  bindX_exel (show (evE call e' fr σ).bindX (isCallE e') fr (fun _ σ => .ok .next fr σ) = _ from ev) (fun _ _ q => nomatch q) fun hc e1 hf => by
    subst hf
    exact wpAny_Expr_any (IX names e e' h hc env A X s as fr' σ σ' x l _ N hA O T e1 hX) (inter_false T.F) (swap_none hn h)
set_option tactic.hygienic false in
theorem sx_ret {e : Expr} {e' : E} {p : Pos} (IX : SndX g c0 call r n) (h : compE n (c0.sub names) e = some e') : NodeSX g c0 call wf r names (.Return (some e) p) (.ret e') := fun env A X s as fr fr' σ σ' x l Q N hA O T ev hX =>
  bindX_exel (show (evE call e' fr σ).bindX (isCallE e') fr (fun v σ => .ok (.ret v) fr σ) = _ from ev) (fun _ _ q => nomatch q) fun hc e1 hf => by
    subst hf
    exact wpAny_Return_some (IX names e e' h hc env A X s as fr' σ σ' x l _ N hA O T e1 hX)
set_option tactic.hygienic false in
theorem sx_asg {y : Str} {i : Nat} {e : Expr} {e' : E} {p xp : Pos} (IX : SndX g c0 call r n) (h : compE n (c0.sub names) e = some e') : NodeSX g c0 call wf r names (.Assign [.Name y xp] e p) (.asg i e') := fun env A X s as fr fr' σ σ' x l Q N hA O T ev hX =>
  bindX_exel (show (evE call e' fr σ).bindX (isCallE e') fr (fun v σ => if i < fr.length then .ok .next (fr.set i (some v)) σ else .bad) = _ from ev) (fun _ _ q => by split at q <;> exact nomatch q) fun hc e1 hf => by
    subst hf
    refine wpAny_Assign_Name (IX names e e' h hc env A X s as fr' σ σ' x l _ N hA O T e1 hX) (swap_some (fun a b c d q => ?_) h)
    subst q
    cases n with
    | zero => exact nn h
    | succ n => exact nc h hc (gdI (bindI fun _ => bindI fun _ => bindI fun _ => bindI fun _ => bindI fun _ => mapI fun _ => rfl))
set_option tactic.hygienic false in
theorem sx_raise {y : Str} {np cpos pos p : Pos} {text : Str} {u k : Nat} (G : Glob g K c0 fa) (hh : c0.hnd = false) (hx : c0.excs.lookup y = some k) (hg : (c0.sub names).glob y = true) (hd : (y == ("__debug__" : Str)) = false) :
    NodeSX g c0 call wf r names (.Raise (some (.Call (.Name y np) [.Constant (.str text) u p] [] cpos)) none pos) (.raise k) := fun env A X s as fr fr' σ σ' x l Q N hA O T ev hX => by
  cases (show RS.ex k fr σ = RS.ex x fr' σ' from ev)
  exact x_raise G hx T N (hA.none (G.hd hh)) hg hd fun h' e t tk hm => hX none e as _ h' tk (.inl rfl) (raise_end O.S T O.hc hm)
inductive ForX (g : Cfg) (env : Env) (s : Shared) (as : List Addr) (src : Src) (I : Addr) (tg : List Nat) (one : Bool) (bd : Fra → Sto → RS) (x : Nat) (fr' : Fra) (σ' : Sto) : Nat → Shared → Prop
  | mk {k i : Nat} {fr : Fra} {σ : Sto} {as1 : List Addr} {h : Heap} {tk : Nat} (run : FRunX src tg one bd k i fr σ x fr' σ') (C : FI g env fr s as src I i as1 σ h) : ForX g env s as src I tg one bd x fr' σ' k { s with heap := h, toks := tk }
set_option tactic.hygienic false in
theorem for_turnsX {target : Expr} {body : List Stmt} {body' : List S} {tg : List Nat} {one : Bool} {src : Src} {I : Addr} {i k : Nat} {as1 : List Addr} {h : Heap} {tk : Nat} {Q : Flow → Shared → Prop}
    (IL : SndL g c0 call wf r n) (IX : SndLX g c0 call wf r n) (Z : FX g env s I) (N : NamesOk (c0.sub names) env) (hA : Room g A (r + 1)) (O : On g env A as l s.heap) (ht : tgt (c0.sub names) target = some (tg, one)) (h2 : mapO (compS n (c0.sub names)) body = some body')
    (run : FRunX src tg one (evSs call wf body') k i fr σ x fr' σ') (C : FI g env fr s as src I i as1 σ h) (hX : XPost g env l as s x fr' σ' X) :
    codeAny (model g.prog g.w) A (.forLoop target (.ref I) body [] env) (fun r s' => match r with | .ok f => Q f s' | .error e => cameBackBy (model g.prog g.w) A env X e s') { s with heap := h, toks := tk } := by
  obtain ⟨outer, hl⟩ := O.top
  refine for_loop (ForX g env s as src I tg one (evSs call wf body') x fr' σ') ?_ k ⟨run, C⟩
  rintro k _ ⟨run, C⟩
  cases run with
  | step e hb hc hfl run' =>
    refine for_turn IL Z N hA ht h2 C e hb hc (fun _ _ h => h) fun f as4 h4 tk4 hf C4 => ?_
    rcases hfl with rfl | rfl
    · have : f = .next := hf; subst this
      exact ⟨_, Nat.lt_succ_self _, run', C4⟩
    · have : f = .cont := hf; subst this
      exact ⟨_, Nat.lt_succ_self _, run', C4⟩
  | ex e hb hc =>
    refine for_turnG Z N hA ht C e hb (fun _ _ h => h) fun as4 h4 tk4 C4 => ?_
    have O4 := O.step C4.st C4.F
    have nf : ∀ (b : Addr) (o : Obj), h4.get? b = some o → b ∈ Frs l → ∀ vs, o.data ≠ .fields vs := fun b o hb hm => by
      obtain ⟨_, o', ho', hn⟩ := frs_mem O4.S.fr hm
      rw [hb] at ho'; cases ho'; exact hn
    refine IX names body body' h2 env A _ { s with heap := h4, toks := tk4 } as4 _ fr' _ σ' x l _ N hA O4 ⟨C4.F, C4.R⟩ hc fun fl e as5 B h5 tk5 hfl E => ?_
    subst hl
    refine noted_end (s' := { s with heap := h5, toks := tk5 }) O.hfr O.hf nf E hfl fun h6 E6 => ?_
    exact came_end (s' := { s with heap := h6, toks := tk5 }) O.hf nf E6 fun h7 E7 => hX _ e as5 B h7 tk5 (.inr (.inr rfl)) (E7.after C4.st rfl O.S.off)
set_option tactic.hygienic false in
theorem sx_for {t it : Expr} {b : List Stmt} {it' : E} {b' : List S} {tg : List Nat} {one : Bool} {p : Pos} (IH : SndE g c0 call r n) {m : Nat} (IL : SndL g c0 call wf r m) (IX : SndLX g c0 call wf r m) (ht : tgt (c0.sub names) t = some (tg, one)) (h0 : compE n (c0.sub names) it = some it') (h1 : mapO (compS m (c0.sub names)) b = some b') :
    NodeSX g c0 call wf r names (.For t it b [] p) (.forS tg one (.e it') b') := fun env A X s as fr fr' σ σ' x l Q N hA O T ev hX => by
  refine bindS_exel (fr := fr) ev fun u τ e1 e2 => ?_
  obtain ⟨src, k, hs, hl, run⟩ := for_runX e2
  refine wpAny_For (IH names it it' h0 env A X s as fr σ τ u _ N hA T e1 fun val as1 k1 tk1 st1 R1 F1 r1 => ?_) (fold_set h0)
  have T1 : At g env as1 fr τ { s with heap := k1, toks := tk1 } := ⟨F1, R1⟩
  refine it_iter T1 r1 hs hl fun o T2 it0 => ?_
  have nn := T1.notNew
  have Z : FX g env { s with heap := k1, toks := tk1 } k1.objs.size := ⟨fun q => by
    rcases own_cases q with q | ⟨y, q⟩
    · exact nn.1 q
    · exact T1.cellNew _ _ q rfl, nn.2.2, new_none _⟩
  exact for_turnsX (tk := tk1) IL IX Z N hA (O.step (up st1) F1) ht h1 run ⟨step_pushed _ _ _ _, T2.R, T2.F, it0, nn.2.1⟩ (xpost_of hX (up st1) O.S.off)
theorem raise?_inv {e : Expr} {y : Str} (h : raise? e = some y) : ∃ np text u p cpos, e = .Call (.Name y np) [.Constant (.str text) u p] [] cpos := by
  unfold raise? at h
  cases q : vw e <;> rw [q] at h <;> first | exact nn h | skip
  obtain ⟨a, h1, h2⟩ := one?_inv h
  obtain ⟨h3, h4⟩ := gd_inv h2
  obtain ⟨cpos, hp⟩ := vw_of q
  obtain ⟨np, h5⟩ := name?_inv h4
  unfold isStrC at h3
  cases q2 : vw a <;> rw [q2] at h3 <;> first | exact ft h3 | skip
  rename_i k
  cases k <;> first | exact ft h3 | skip
  obtain ⟨u, p, h6⟩ := vw_of q2
  rw [h1, h5, h6] at hp
  exact ⟨np, _, u, p, cpos, hp⟩
end
end Mine

set_option autoImplicit false
set_option maxRecDepth 100000
set_option linter.unusedVariables false
namespace Mine
open PySem PyProof.Rows PySem.W

section
variable {g : Cfg} {K : Frag} {fa : Nat → Option Addr} {c0 : CE} {call : Nat → List V → Sto → RE} {wf r n : Nat} {names : List (Str × NameKind)}
set_option tactic.hygienic false in
theorem while_noX {test : Fra → Sto → RE} {body : Fra → Sto → RS} {x : Nat} {fr' : Fra} {σ' : Sto} {P : Prop} : ∀ (k : Nat) (fr : Fra) (σ : Sto), whileL test body k fr σ = .ex x fr' σ' → P
  | 0, _, _, e => by rw [whileL] at e; cases e
  | k + 1, fr, σ, e => by
    rw [whileL] at e
    refine bindS_exel (fr := fr) e fun u τ e1 e2 => ?_
    cases u with
    | bool b => cases b with
      | false => cases e2
      | true =>
        cases hb : body fr τ with
        | bad => simp only [hb] at e2; cases e2
        | ex x f s => simp only [hb] at e2; cases e2
        | ok f f2 σ2 =>
          simp only [hb] at e2
          cases f with
          | next => exact while_noX k _ _ e2
          | cont => exact while_noX k _ _ e2
          | brk => cases e2
          | ret w => cases e2
    | _ => cases e2
set_option tactic.hygienic false in
theorem x_asgX {t e : Expr} {p : Pos} {st' : S} (IX : SndX g c0 call r 30) (h : cAsg (c0.sub names) t e = some st') : NodeSX g c0 call wf r names (.Assign [t] e p) st' := by
  unfold cAsg at h
  cases q : vw t <;> rw [q] at h <;> first | exact nn h | skip
  · obtain ⟨i, a, h1, h2, rfl⟩ := opt2_inv h
    obtain ⟨xp, rfl⟩ := vw_of q
    exact sx_asg IX h2
  · obtain ⟨h0, h⟩ := gd_inv h
    obtain ⟨is, a, h1, h2, rfl⟩ := opt2_inv h
    intro env A X s as fr fr' σ σ' x l Q N hA O T ev hX
    refine bindS_exel (fr := fr) ev fun u τ e1 e2 => ?_
    split at e2 <;> cases e2
  · obtain ⟨o, k, a, h1, h2, h3, rfl⟩ := opt3_inv h
    intro env A X s as fr fr' σ σ' x l Q N hA O T ev hX
    refine bindS_exel (fr := fr) ev fun u τ e1 e2 => bindS_exel (fr := fr) e2 fun u τ e1 e2 => ?_
    split at e2 <;> cases e2
  · obtain ⟨o, k, a, h1, h2, h3, rfl⟩ := opt3_inv h
    intro env A X s as fr fr' σ σ' x l Q N hA O T ev hX
    refine bindS_exel (fr := fr) ev fun u τ e1 e2 => bindS_exel (fr := fr) e2 fun u τ e1 e2 => bindS_exel (fr := fr) e2 fun u τ e1 e2 => ?_
    split at e2 <;> cases e2
set_option tactic.hygienic false in
theorem sndSX_step {m : Nat} (G : Glob g K c0 fa) (J : AttInj g) (C : CallOk g fa call r) (CX : CallX g fa call r) (IL : SndL g c0 call wf r m) (IXL : SndLX g c0 call wf r m) : SndSX g c0 call wf r (m + 1) := by
  intro names st st' h
  have IH := (snd_all G J C 30).1
  have IT := (snd_all G J C 30).2
  have IX := sndx_all G J C CX 30
  cases st with
  | Expr e p => obtain ⟨h0, h⟩ := gd_inv h; obtain ⟨a, h1, rfl⟩ := map_inv h; exact sx_expr IX (isLC_inv (not_inv h0)) h1
  | Return v p => obtain ⟨e, rfl, h⟩ := bind_inv h; obtain ⟨a, h1, rfl⟩ := map_inv h; exact sx_ret IX h1
  | Assign ts e p =>
    rcases ts with _ | ⟨t, _ | ⟨t2, ts⟩⟩
    · exact nn h
    · exact x_asgX IX h
    · exact nn h
  | If t b o p => obtain ⟨x, y, z, h1, h2, h3, rfl⟩ := opt3_inv h; exact sx_if IT IXL h1 h2 h3
  | While t b o p =>
    obtain ⟨h0, h⟩ := gd_inv h; obtain ⟨x, y, h1, h2, rfl⟩ := opt2_inv h
    intro env A X s as fr fr' σ σ' x l Q N hA O T ev hX
    exact while_noX _ _ _ ev
  | For t it b o p => obtain ⟨h0, h⟩ := gd_inv h; obtain ⟨x, y, z, h1, h2, h3, rfl⟩ := opt3_inv h; cases isEmpty_inv h0; exact sx_for IH IL IXL h1 h2 h3
  | Raise v cz p =>
    cases v with
    | none => cases cz <;> exact nn h
    | some v => cases cz with
      | some => exact nn h
      | none =>
        obtain ⟨x, h0, h⟩ := bind_inv h
        obtain ⟨h1, h⟩ := gd_inv h
        obtain ⟨h1, h3⟩ := and_inv h1
        obtain ⟨h3, h4⟩ := and_inv h3
        obtain ⟨a, h2, rfl⟩ := map_inv h
        obtain ⟨np, text, u, p, cpos, rfl⟩ := raise?_inv h0
        exact sx_raise G (not_inv h4) h2 h1 (not_inv h3)
  | Pass p =>
    intro env A X s as fr fr' σ σ' x l Q N hA O T ev hX
    cases Option.some.inj h
    cases (show RS.ok .next fr σ = .ex x fr' σ' from ev)
  | _ => exact nn h
set_option tactic.hygienic false in
theorem sndSX_all (G : Glob g K c0 fa) (J : AttInj g) (C : CallOk g fa call r) (CX : CallX g fa call r) : ∀ n, SndSX g c0 call wf r n
  | 0 => fun names st st' h => nn h
  | n + 1 => sndSX_step G J C CX (snd_list (sndS_all G J C n)) (sndx_list (sndS_all G J C n) (sndSX_all G J C CX n))
end
section
variable {g : Cfg} {K : Frag} {fa : Nat → Option Addr} {P : Nat → Option Fn} {wf : Nat}
theorem evFn_ex {n k x : Nat} {vs : List V} {σ σ' : Sto} (ev : evFn P wf (n + 1) k vs σ = .ex x σ') : ∃ fn fr', P k = some fn ∧ vs.length = fn.ps.length ∧ evSs (evFn P wf n) wf fn.body (frame0 fn vs) σ = .ex x fr' σ' := by
  rw [evFn] at ev
  split at ev
  · cases ev
  rename_i fn hfn
  split at ev
  case isFalse => cases ev
  rename_i hlen
  split at ev
  · cases ev
  · cases ev
  · cases ev
  · rename_i he
    cases ev
    exact ⟨fn, _, hfn, hlen, he⟩
  · cases ev
set_option tactic.hygienic false in
theorem on_enter {cs : CE → Stmt → Option S} {c : CE} {fn : Fn} {A : Around} {as : List Addr} {σ : Sto} {s : Shared} {vs : List V} {n : Nat} {env : Env} {body : List Stmt} {h : Heap} {l : List Env} (E : Entered g cs c fn A as σ s vs n env body h) (hfr : A.frames = some l) (S : Stk g as l s.heap) : On g env (A.deeper env) as (env :: l) h := by
  have hm : ∀ a, a ∈ Frs (env :: l) ↔ a = env.locals ∨ a ∈ Frs l := fun a => by unfold Frs; rw [List.filterMap_cons, E.fr]; exact List.mem_cons
  obtain ⟨m, hm', _⟩ := E.F.ns
  obtain ⟨oL, es, ep, hoL, hdL, _⟩ := id hm'
  have old : ∀ a ∈ Frs l, ∃ o, s.heap.get? a = some o := fun a ha => let ⟨_, o, ho, _⟩ := frs_mem S.fr ha; ⟨o, ho⟩
  have fresh : ∀ a ∈ ownOf env, a ∉ Frs l := fun a ha q => by obtain ⟨o, ho⟩ := old a q; rw [E.new a ha] at ho; cases ho
  refine ⟨?_, ⟨l, rfl⟩, E.fr, fun x c hx q => ?_, ⟨⟨?_, ⟨env.locals, oL, E.fr, ?_, hoL, fun vs q => by rw [hdL] at q; cases q⟩, S.fr.of_keeps fun b o hb _ => ⟨o, E.ext b o hb, rfl⟩⟩, fun a ha => ?_, fun a ha o ho => ?_⟩⟩
  · show (A.frames.map (env :: ·)) = _
    rw [hfr]; rfl
  · rcases (hm c).mp q with q | q
    · exact (E.F.offc x c hx).2.1 q
    · exact fresh c (mem_own hx) q
  · rw [E.F.kind]; exact fun q => nomatch q
  · cases q : g.b.get? env.locals with
    | none => rfl
    | some o => exact absurd (Heap.lt_size q) (Nat.not_lt.mpr E.F.above)
  · rcases (hm a).mp ha with q | q
    · rw [q]; exact E.F.off
    · exact S.off a q
  · rcases (hm a).mp ha with q | q
    · rw [q] at ho; exact E.F.notImm _ (.head _) o ho
    · obtain ⟨o', ho'⟩ := old a q
      have := E.ext a o' ho'
      rw [ho] at this; cases this
      exact S.dict a q o ho'
set_option tactic.hygienic false in
theorem callX_step (c : Nat → CE) (G : ∀ k a, fa k = some a → Glob g K (c k) fa) (J : AttInj g) (hlim : g.b.NoLimit) (hP : ∀ k a, fa k = some a → P k = compFn K (c k) a) {n : Nat} (C : CallOk g fa (evFn P wf n) (2 * n)) (CX : CallX g fa (evFn P wf n) (2 * n)) : CallX g fa (evFn P wf (n + 1)) (2 * (n + 1)) := by
  intro k a vs σ σ' x hfa ev A s as xs l R hA hfr S R0 hsz r0 hR
  obtain ⟨fn, fr', hfn, hlen, he⟩ := evFn_ex ev
  have Gk := G k a hfa
  refine enter_fn Gk.kin hlim ((hP k a hfa).symm.trans hfn) hlen hA R0 hsz r0 fun env body h tk E => ?_
  have O := on_enter E hfr S
  have nf : ∀ (b : Addr) (o : Obj), h.get? b = some o → b ∈ Frs (env :: l) → ∀ vs, o.data ≠ .fields vs := fun b o hb hm => by
    obtain ⟨_, o', ho', hn⟩ := frs_mem O.S.fr hm
    rw [hb] at ho'; cases ho'; exact hn
  refine sndx_list (sndS_all Gk J C 20) (sndSX_all Gk J C CX 20) _ body fn.body E.comp _ _ _ { s with heap := h, toks := tk } as _ fr' σ σ' x _ _ E.N E.room O ⟨E.F, E.R⟩ he fun fl e as2 B h2 tk2 hfl XE => ?_
  exact leave_end (s' := { s with heap := h2, toks := tk2 }) O.hfr E.fr nf E.ext E.new (E.new _ (.head _)) XE hfl fun h3 XC => hR e as2 B h3 tk2 XC
set_option tactic.hygienic false in
theorem callX_all (c : Nat → CE) (G : ∀ k a, fa k = some a → Glob g K (c k) fa) (J : AttInj g) (hlim : g.b.NoLimit) (hP : ∀ k a, fa k = some a → P k = compFn K (c k) a) : ∀ n, CallX g fa (evFn P wf n) (2 * n)
  | 0 => fun k a vs σ σ' x hfa ev => by rw [evFn] at ev; cases ev
  | n + 1 => callX_step c G J hlim hP (call_all c G J hlim hP n) (callX_all c G J hlim hP n)
end
end Mine

set_option autoImplicit false
set_option maxRecDepth 100000
set_option linter.unusedVariables false
namespace Mine
open PySem PyProof.Rows PySem.W

section
variable {prog : Program} {w : World} {A : Around} {E : Value → Shared → Prop} {s : Shared} {K : Frag} {e D P : Addr} {ox : Obj}
theorem exc_match {ds : List Nat} {Q : Bool → Shared → Prop} (X : K.In s.heap) (ho : s.heap.get? e = some ox) (hc : ox.cls = .ref D) (hk : catchIn K P ds = true) (hD : D ∈ ds) (h : Q true s) : wpAny (model prog w) A (excMatches (.ref e) (.ref P)) Q E s := by
  obtain ⟨k0, hk⟩ := and_inv hk
  obtain ⟨k1, hk⟩ := and_inv hk
  obtain ⟨k2, hk⟩ := and_inv hk
  obtain ⟨k3, k4⟩ := and_inv hk
  have k5 := eq_of_beq (List.all_eq_true.mp k4 D hD)
  have L1 : Looks (model prog w) s.heap (isInstance (.ref P) (.type "tuple")) false := (looks_typeIn X (eq_of_beq k1)).andThen (looks_subIn X (eq_of_beq k2))
  have L2 : Looks (model prog w) s.heap (isType (.ref P)) true := by
    unfold clsIn at k0
    split at k0
    · rename_i ho
      intro A' Q' E' s' k q
      unfold isType loadHead
      exact wpAny_bind (wpAny_loadPart (k _ _ (X _ _ ho)) (wpAny_pure q))
    · cases k0
  have L3 : Looks (model prog w) s.heap (isSubtype (.ref P) (.type "BaseException")) true := looks_subIn X (eq_of_beq k3)
  have L4 : Looks (model prog w) s.heap (typeOf (.ref e)) (.ref D) := hc ▸ (Looks.ld ho).andThen .now
  have L5 : Looks (model prog w) s.heap (isSubtype (.ref D) (.ref P)) true := looks_subIn X k5
  obtain ⟨hh, g, d, t, os⟩ := s
  unfold excMatches
  refine wpAny_bind (L1.at ?_)
  rw [if_neg Bool.false_ne_true]
  refine wpAny_bind (wpAny_pure ?_)
  unfold isExcClass
  simp only [List.forIn_cons, List.forIn_nil]
  refine wpAny_bind (wpAny_bind (wpAny_bind (wpAny_bind (L2.at ?_))))
  rw [if_pos rfl]
  refine L3.at ?_
  simp only [Bool.not_true, Bool.false_eq_true, if_false]
  refine wpAny_pure (wpAny_pure (wpAny_bind (L4.at (wpAny_bind (wpAny_bind (wpAny_bind (L5.at ?_)))))))
  rw [if_pos rfl]
  exact wpAny_pure (wpAny_pure (wpAny_pure h))
end

section
variable {g : Cfg} {K : Frag} {fa : Nat → Option Addr} {c0 : CE} {call callH : Nat → List V → Sto → RE} {env : Env} {A : Around} {X : Value → Shared → Prop} {s : Shared} {as : List Addr} {fr fr' : Fra} {σ σ' : Sto} {wf r x : Nat} {names : List (Str × NameKind)} {l : List Env}
set_option tactic.hygienic false in
theorem o_gone {n : Str} {i : Nat} {pos : Pos} {Q : Unit → Shared → Prop} (T : At g env as fr σ s) (N : NamesOk (c0.sub names) env) (hl : names.lookup n = some .local) (hi : (c0.sub names).locW? n = some i) (hQ : FPost g env (ownOf env) as σ s (fr.set i none) Q) :
    wpAny (model g.prog g.w) A (do bindName env n .none; unbindBehindTheSuite env n pos) Q X s := by
  obtain ⟨k, h1, h2⟩ := locW_get hi
  obtain ⟨k', h3, h4⟩ := N.get h1
  have hkl : k = .local := by
    obtain ⟨j, j1, j2⟩ := lookup_get hl
    unfold CE.locW? at hi
    rw [show (c0.sub names).names.lookup n = some .local from hl] at hi
    have : names.findIdx? (fun p => p.1 == n) = some i := hi
    rw [j1] at this; cases this
    have h1 : names[i]? = some (n, k) := h1
    rw [j2] at h1; cases h1; rfl
  subst hkl
  have hk : k' = .local := by
    rcases h4 with h4 | h4
    · exact h4.symm
    · cases h4.1
  subst hk
  obtain ⟨m, hm, hv⟩ := T.F.ns
  refine wpAny_nameGoes_keeps (nodup_lookup T.F.nd h3) hm (by rw [T.F.kind]; rfl) fun h' v hns hs => ?_
  have kk : ∀ (b : Addr) (o : Obj), b ≠ env.locals → s.heap.get? b = some o → h'.get? b = some o := fun b o hb e => by rw [hs.2 b hb]; exact e
  have hLb : g.b.get? env.locals = none := by
    cases e : g.b.get? env.locals with
    | none => rfl
    | some o => exact absurd (Heap.lt_size e) (Nat.not_lt.mpr T.F.above)
  obtain ⟨KK, R'⟩ := T.R.other kk T.F.off hLb (fun o e => T.F.notImm _ (.head _) o e)
  refine hQ as h' _ ⟨⟨[], by simp, by simp⟩, fun b o e hb _ => kk b o (fun q => hb (by rw [q]; exact .head _)) e⟩ KK R' ?_
  refine ⟨T.F.kind, T.F.above, T.F.glob, T.F.blt, by rw [List.length_set]; exact T.F.len, T.F.nd, ⟨_, hns, fun j y w e1 e2 => ?_⟩, fun j y kd e1 e2 => ?_, T.F.off, fun y c' hc' => ⟨(T.F.offc _ _ hc').1, (T.F.offc _ _ hc').2.1, ?_⟩, T.F.apart, T.F.newc⟩
  · have hij : i ≠ j := fun q => by
      subst q
      by_cases hlt : i < fr.length
      · rw [List.getElem?_set_self hlt] at e2; cases e2
      · rw [List.getElem?_eq_none (by rw [List.length_set]; exact Nat.le_of_not_lt hlt)] at e2; cases e2
    rw [List.getElem?_set_ne hij] at e2
    obtain ⟨val, q1, q2⟩ := hv j y w e1 e2
    have hy : y ≠ n := fun q => by subst q; exact hij (nodup_idx T.F.nd h3 e1)
    exact ⟨val, by rw [if_neg hy]; exact q1, RepV.keep KK _ _ q2⟩
  · obtain ⟨cc, cv, q1, ⟨o, q2, q2'⟩, q3⟩ := T.F.cells j y kd e1 e2
    have hij : i ≠ j := fun q => by subst q; rw [h3] at e1; cases e1; rcases e2 with e2 | e2 <;> cases e2
    refine ⟨cc, cv, q1, ⟨o, kk _ _ (T.F.offc _ _ q1).2.1 q2, q2'⟩, fun w e => ?_⟩
    rw [List.getElem?_set_ne hij] at e
    obtain ⟨val', q4, q5⟩ := q3 w e
    exact ⟨val', q4, RepV.keep KK _ _ q5⟩
  · obtain ⟨cv, o, e, e'⟩ := (T.F.offc _ _ hc').2.2
    exact ⟨cv, o, kk _ _ (T.F.offc _ _ hc').2.1 e, e'⟩
set_option tactic.hygienic false in
theorem XEnd.stk {as' : List Addr} {h h' B : Heap} {C e : Addr} {fl : Option Value} {fr' : Fra} {σ' : Sto} (S : Stk g as l h) (E : XEnd g env l (ownOf env) as h C fl fr' σ' e as' B h') (hc : ∀ x c, env.cells.lookup x = some c → c ∉ Frs l) : Stk g as' l h' := by
  have F := E.F.rel E.fly.stays
  refine ⟨frames_map (fun a ha o ho hd => ?_) S.fr, fun a ha q => ?_, fun a ha o ho => ?_⟩
  · obtain ⟨_, o', ho', hd'⟩ := frs_mem E.fly.frames ha
    exact ⟨o', ho', hd'⟩
  · obtain ⟨t, rfl, ht⟩ := E.pre
    rcases List.mem_append.mp q with q | q
    · exact S.off a ha q
    · obtain ⟨_, o, ho, _⟩ := frs_mem S.fr ha
      rw [ht a q] at ho; cases ho
  · obtain ⟨_, o', ho', _⟩ := frs_mem S.fr ha
    by_cases hown : a ∈ ownOf env
    · rcases own_cases hown with q | ⟨x, q⟩
      · rw [q] at ho; exact F.notImm _ (.head _) o ho
      · exact absurd ha (hc x a q)
    · obtain ⟨sl, hsl⟩ := E.slots a o' ho' ha hown
      rw [hsl] at ho; cases ho
      exact fun im => S.dict a ha o' ho' im
noncomputable def Cfg.with (g : Cfg) (a : Addr) : Cfg := { g with hd := some a }
set_option tactic.hygienic false in
theorem FrRel.with {h : Heap} {a : Addr} (F : FrRel g env as fr h) : FrRel (g.with a) env as fr h := ⟨F.kind, F.above, F.glob, F.blt, F.len, F.nd, F.ns, F.cells, F.off, F.offc, F.apart, F.newc⟩
set_option tactic.hygienic false in
theorem FrRel.out {h : Heap} {a : Addr} (F : FrRel (g.with a) env as fr h) : FrRel g env as fr h := ⟨F.kind, F.above, F.glob, F.blt, F.len, F.nd, F.ns, F.cells, F.off, F.offc, F.apart, F.newc⟩
set_option tactic.hygienic false in
theorem Rel.with {h : Heap} {a : Addr} (R : Rel g as σ h) (H : Hnd (some a) h) : Rel (g.with a) as σ h := ⟨R.base, R.len, R.nd, R.new, fun i b o h1 h2 => R.obj i b o h1 h2, H⟩
set_option tactic.hygienic false in
theorem Rel.out {h : Heap} {a : Addr} (R : Rel (g.with a) as σ h) (hh : g.hd = none) : Rel g as σ h := ⟨R.base, R.len, R.nd, R.new, fun i b o h1 h2 => R.obj i b o h1 h2, fun b q => by rw [hh] at q; cases q⟩
set_option tactic.hygienic false in
theorem Glob.with {a : Addr} {c : CE} (G : Glob g K c fa) (h1 : c.hnd = true) (h2 : c.lam = none) : Glob (g.with a) K c fa :=
  ⟨⟨G.sys.1⟩, G.kin, G.const, G.fn, G.cls, G.clsO, G.blt, G.typ, G.set, G.rev, G.sorted, (fun q => by rw [h1] at q; cases q), ⟨G.exc.k, G.exc.i, G.exc.r, G.exc.o, G.exc.v, G.exc.w, G.exc.p⟩, G.isi, G.att, G.hasD, G.setA, (fun x q => by rw [h2] at q; cases q), G.mth⟩
noncomputable def TPost (g : Cfg) (env : Env) (l : List Env) (as : List Addr) (s : Shared) (fl : Fl) (fr' : Fra) (σ' : Sto) (Q : Flow → Shared → Prop) : Prop :=
  ∀ (f : Flow) (as' : List Addr) (h' : Heap) (tk : Nat), FlRep as' h' fl f → Step (ownOf env ++ Frs l) as s.heap as' h' → Rel g as' σ' h' → FrRel g env as' fr' h' → Stk g as' l h' → Q f { s with heap := h', toks := tk }
set_option tactic.hygienic false in
theorem flRep_keep {as as' : List Addr} {h h' : Heap} {fl : Fl} {f : Flow} (k : Keep as h as' h') (hf : FlRep as h fl f) : FlRep as' h' fl f := by
  cases fl with
  | ret v => obtain ⟨val, e, r⟩ := hf; exact ⟨val, e, RepV.keep k _ _ r⟩
  | _ => exact hf
set_option tactic.hygienic false in
theorem try_ex {b h : List Stmt} {h0 : Stmt} {b' h' : List S} {n pn : Str} {i : Nat} {P : Addr} {pp hp pos : Pos} {fr1 fr2 : Fra} {σ1 σ2 : Sto} {fl : Fl} {Q : Flow → Shared → Prop} (G : Glob g K c0 fa) (hh : g.hd = none) (IX : SndLX g c0 call wf r 20) (HL : ∀ a, SndL (g.with a) c0.hand callH wf r 20)
    (hpe : c0.pe = some (pn, P)) (hg : (c0.sub names).glob pn = true) (hd : (pn == ("__debug__" : Str)) = false) (hl : names.lookup n = some .local) (hi : (c0.sub names).locW? n = some i)
    (h1 : mapO (compS 20 (c0.sub names)) b = some b') (h2 : mapO (compS 20 (c0.hand.sub names)) (h0 :: h) = some h') (N : NamesOk (c0.sub names) env) (hA : Room g A (r + 1)) (O : On g env A as l s.heap) (T : At g env as fr σ s)
    (e1 : evSs call wf b' fr σ = .ex x fr1 σ1) (hx : x ∈ c0.excs.map (·.2)) (e2 : evSs callH wf h' (fr1.set i (some (.exc x))) σ1 = .ok fl fr2 σ2) (hQ : TPost g env l as s fl (fr2.set i none) σ2 Q) :
    wpAny (model g.prog g.w) A (exec (.Try b [.ExceptHandler (some (.Name pn pp)) (some n) (h0 :: h) hp] [] [] pos) env) Q X s := by
  obtain ⟨hPV, hcat⟩ := G.exc.p pn P hpe
  refine wpAny_Try_except (IX names b b' h1 env A _ s as fr fr1 σ σ1 x l _ N hA O T e1 fun fl0 e as1 B h1' tk1 hfl E => ?_)
  have nf : ∀ (b : Addr) (o : Obj), s.heap.get? b = some o → b ∈ Frs l → ∀ vs, o.data ≠ .fields vs := fun b o hb hm => by
    obtain ⟨_, o', ho', hn⟩ := frs_mem O.S.fr hm
    rw [hb] at ho'; cases ho'; exact hn
  have at_ : ∀ {fl : Option Value} {h' : Heap}, XEnd g env l (ownOf env) as s.heap x fl fr1 σ1 e as1 B h' → ∀ tk, At g env as1 fr1 σ1 { s with heap := h', toks := tk } := fun E tk => ⟨E.F.rel E.fly.stays, E.R.ext E.fly.stays⟩
  obtain ⟨outer, hlo⟩ := O.top
  have hfr := O.hfr
  have fly := E.fly
  rw [hlo] at hfr fly
  refine note_ok (s := { s with heap := h1', toks := tk1 }) hfr O.hf fly hfl fun h2' F2 u2 => ?_
  rw [← hlo] at F2
  have E2 := E.fly' F2 u2 nf
  refine flight_ok (s := { s with heap := h2', toks := tk1 }) (o := none) F2 fun h3' F3 u3 => ?_
  have E3 := E2.fly' F3 u3 nf
  have T3 := at_ E3 tk1
  obtain ⟨oe, vs, he, hn0, hc, hdt, hv2, _⟩ := F3.st
  refine wpAny_handleBy_cons (codeAny_handlers_test (o_glob T3 N hg hd hPV ?_)) (fun q => nomatch q)
  refine exc_match (s := { s with heap := h3', toks := tk1 }) (G.kin.keeps T3.R.base) he hc hcat hx ?_
  show codeAny _ _ (.handlers (.ref e) [.ExceptHandler none (some n) (h0 :: h) hp] env) _ _
  refine codeAny_handlers_suite_as (flight_ok (s := { s with heap := h3', toks := tk1 }) (o := none) F3 fun h4 F4 u4 => ?_)
  have E4 := E3.fly' F4 u4 nf
  have T4 := at_ E4 tk1
  obtain ⟨oe, vs, he, hn0, hc, hdt, hv2, _⟩ := F4.st
  have st4 : Step (ownOf env ++ Frs l) as s.heap as1 h4 := ⟨E4.pre, fun b o hb h1 h2 => F4.stays b o (E4.ext b o hb (fun q => h1 (List.mem_append_left _ q)) h2 fun q => h1 (List.mem_append_right _ q))⟩
  have O4 : On g env A as1 l h4 := ⟨O.hfr, O.top, O.hf, O.hc, E4.stk O.S O.hc⟩
  refine o_store (own := ownOf env) (s := { s with heap := h4, toks := tk1 }) T4 N (owns_all _ _) hi (v := .exc x) (by rw [RepV]; exact ⟨e, oe, vs, rfl, he, hn0, hc, hdt⟩) fun as5 h5 tk5 st5 K5 R5 F5 => ?_
  have H5 : Hnd (some e) h5 := fun a q => by
    cases q
    exact ⟨oe, x, vs, K5.imm _ _ he (imm_exc hc hdt), hc, hdt, hv2⟩
  have O5 := O4.step st5 F5
  refine HL e names (h0 :: h) h' h2 env _ _ { s with heap := h5, toks := tk5 } as5 _ fr2 σ1 σ2 fl _ ⟨N.f2, fun a q => nomatch q⟩ ⟨hA.units, hA.depth, rfl⟩ ⟨F5.with, R5.with H5⟩ e2 fun f as6 h6 tk6 hf st6 R6 F6 => ?_
  have R6' := R6.out hh
  have O6 := O5.step st6 F6.out
  refine o_gone (s := { s with heap := h6, toks := tk6 }) ⟨F6.out, R6'⟩ N hl hi fun as7 h7 tk7 st7 K7 R7 F7 => ?_
  have O7 := O6.step st7 F7
  have off : ∀ {as' : List Addr} {fr' : Fra} {h' : Heap}, FrRel g env as' fr' h' → On g env A as' l h' → ∀ a ∈ ownOf env ++ Frs l, a ∉ as' := fun F O a ha => (List.mem_append.mp ha).elim (F.offs a) (O.S.off a)
  have gr : ∀ {as as' : List Addr} {h h' : Heap}, Step (ownOf env) as h as' h' → Step (ownOf env ++ Frs l) as h as' h' := fun st => st.grow fun a ha => List.mem_append_left _ ha
  exact hQ f as7 h7 tk7 (flRep_keep K7 hf) (((st4.trans (gr st5) R5.nd (off F5 O5)).trans (gr st6) R6'.nd (off F6.out O6)).trans (gr st7) R7.nd (off F7 O7)) R7 F7 O7.S
end
end Mine

set_option autoImplicit false
set_option maxRecDepth 100000
set_option linter.unusedVariables false
namespace Mine
open PySem PyProof.Rows PySem.W

noncomputable def isTry : S → Bool | .tryS _ _ _ _ => true | _ => false
set_option tactic.hygienic false in
theorem noTry {n : Nat} {c : CE} {st : Stmt} {s : S} (h : compS n c st = some s) : isTry s = false := by
  cases n with
  | zero => exact nn h
  | succ n =>
    cases st with
    | Expr e p => obtain ⟨_, h⟩ := gd_inv h; obtain ⟨a, _, rfl⟩ := map_inv h; rfl
    | Return v p => obtain ⟨e, _, h⟩ := bind_inv h; obtain ⟨a, _, rfl⟩ := map_inv h; rfl
    | Assign ts e p =>
      rcases ts with _ | ⟨t, _ | ⟨t2, ts⟩⟩
      · exact nn h
      · have h : cAsg c t e = some s := h
        unfold cAsg at h
        cases q : vw t <;> rw [q] at h <;> first | exact nn h | skip
        · obtain ⟨_, _, _, _, rfl⟩ := opt2_inv h; rfl
        · obtain ⟨_, h⟩ := gd_inv h; obtain ⟨_, _, _, _, rfl⟩ := opt2_inv h; rfl
        · obtain ⟨_, _, _, _, _, _, rfl⟩ := opt3_inv h; rfl
        · obtain ⟨_, _, _, _, _, _, rfl⟩ := opt3_inv h; rfl
      · exact nn h
    | If t b o p => obtain ⟨_, _, _, _, _, _, rfl⟩ := opt3_inv h; rfl
    | While t b o p => obtain ⟨_, h⟩ := gd_inv h; obtain ⟨_, _, _, _, rfl⟩ := opt2_inv h; rfl
    | For t it b o p => obtain ⟨_, h⟩ := gd_inv h; obtain ⟨_, _, _, _, _, _, rfl⟩ := opt3_inv h; rfl
    | Raise v cz p =>
      cases v with
      | none => cases cz <;> exact nn h
      | some v => cases cz with
        | some => exact nn h
        | none =>
          obtain ⟨_, _, h⟩ := bind_inv h
          obtain ⟨_, h⟩ := gd_inv h
          obtain ⟨_, _, rfl⟩ := map_inv h; rfl
    | Pass p => exact si (P := fun s => isTry s = false) h rfl
    | _ => exact nn h

section
variable {g : Cfg} {K : Frag} {fa : Nat → Option Addr} {c0 : CE} {call callH : Nat → List V → Sto → RE} {env : Env} {A : Around} {X : Value → Shared → Prop} {s : Shared} {as as1 : List Addr} {fr fr1 fr' : Fra} {σ σ1 σ' : Sto} {wf r x : Nat} {names : List (Str × NameKind)} {l : List Env} {fl : Fl} {Q : Flow → Shared → Prop} {h1 : Heap}
set_option tactic.hygienic false in
theorem off_all (F : FrRel g env as fr h1) (S : Stk g as l h1) : ∀ a ∈ ownOf env ++ Frs l, a ∉ as := fun a ha => (List.mem_append.mp ha).elim (F.offs a) (S.off a)
set_option tactic.hygienic false in
theorem tpost_of {tk : Nat} (hQ : TPost g env l as s fl fr' σ' Q) (x : Step (ownOf env ++ Frs l) as s.heap as1 h1) : TPost g env l as1 { s with heap := h1, toks := tk } fl fr' σ' Q :=
  fun f as2 h2 tk2 hf st R2 F2 S2 => hQ f as2 h2 tk2 hf (x.trans st R2.nd (off_all F2 S2)) R2 F2 S2
noncomputable def SndB (g : Cfg) (c0 : CE) (call callH : Nat → List V → Sto → RE) (wf r : Nat) (names : List (Str × NameKind)) (sts : List Stmt) : Prop :=
  ∀ (sts' : List S), mapO (compT1 (c0.sub names)) sts = some sts' →
  ∀ (env : Env) (A : Around) (X : Value → Shared → Prop) (s : Shared) (as : List Addr) (fr fr' : Fra) (σ σ' : Sto) (fl : Fl) (l : List Env) (Q : Flow → Shared → Prop),
    NamesOk (c0.sub names) env → Room g A (r + 1) → On g env A as l s.heap → At g env as fr σ s → evT call callH wf sts' fr σ = .ok fl fr' σ' → TPost g env l as s fl fr' σ' Q → wpAny (model g.prog g.w) A (execs sts env) Q X s
set_option tactic.hygienic false in
theorem tail_ok {sts : List Stmt} {sts' : List S} {f0 : Fl} {f : Flow} {tk : Nat} (ih : SndB g c0 call callH wf r names sts) (h2 : mapO (compT1 (c0.sub names)) sts = some sts') (N : NamesOk (c0.sub names) env) (hA : Room g A (r + 1)) (O : On g env A as l s.heap)
    (e : (match f0 with | .next => evT call callH wf sts' fr1 σ1 | f => .ok f fr1 σ1) = RS.ok fl fr' σ') (hQ : TPost g env l as s fl fr' σ' Q) (hf : FlRep as1 h1 f0 f) (st : Step (ownOf env ++ Frs l) as s.heap as1 h1) (R1 : Rel g as1 σ1 h1) (F1 : FrRel g env as1 fr1 h1) (S1 : Stk g as1 l h1) :
    (match (generalizing := false) f with | .next => wpAny (model g.prog g.w) A (execs sts env) Q X { s with heap := h1, toks := tk } | f => Q f { s with heap := h1, toks := tk }) := by
  cases f0 with
  | next =>
    have : f = .next := hf
    subst this
    exact ih sts' h2 env A X { s with heap := h1, toks := tk } as1 fr1 fr' σ1 σ' fl l Q N hA ⟨O.hfr, O.top, O.hf, O.hc, S1⟩ ⟨F1, R1⟩ e (tpost_of hQ st)
  | brk => cases e; have : f = .brk := hf; subst this; exact hQ _ as1 h1 tk hf st R1 F1 S1
  | cont => cases e; have : f = .cont := hf; subst this; exact hQ _ as1 h1 tk hf st R1 F1 S1
  | ret v =>
    cases e
    have hf' := hf
    obtain ⟨val, hv, _⟩ := hf
    subst hv
    exact hQ _ as1 h1 tk hf' st R1 F1 S1
theorem sndB (G : Glob g K c0 fa) (hh : g.hd = none) (IS : SndS g c0 call wf r 20) (IX : SndLX g c0 call wf r 20) (HL : ∀ a, SndL (g.with a) c0.hand callH wf r 20) (sts : List Stmt) : SndB g c0 call callH wf r names sts := by
  induction sts with
  | nil =>
    intro sts' h env A X s as fr fr' σ σ' fl l Q N hA O T ev hQ
    rw [mapO] at h; cases h
    cases ev
    exact wpAny_execs_nil (hQ .next as s.heap s.toks rfl (Step.refl _ _ _) T.R T.F O.S)
  | cons st sts ih =>
    intro sts' h env A X s as fr fr' σ σ' fl l Q N hA O T ev hQ
    obtain ⟨a, as', h1, h2, rfl⟩ := mapO_cons h
    refine wpAny_execs_cons ?_
    have gr : ∀ {as as' : List Addr} {h h' : Heap}, Step (ownOf env) as h as' h' → Step (ownOf env ++ Frs l) as h as' h' := fun st => st.grow fun a ha => List.mem_append_left _ ha
    have plain : compS 20 (c0.sub names) st = some a → wpAny (model g.prog g.w) A (exec st env) (fun f s₁ => match f with | .next => wpAny (model g.prog g.w) A (execs sts env) Q X s₁ | f => Q f s₁) X s := fun h1 => by
      have key : evT call callH wf (a :: as') fr σ = (match evS call wf a fr σ with | .ok f fr σ => (match f with | .next => evT call callH wf as' fr σ | f => .ok f fr σ) | _ => .bad) := by
        have hs := noTry h1
        cases a <;> first | rfl | exact tf hs
      rw [key] at ev
      cases q : evS call wf a fr σ with
      | ok f0 fr1 σ1 =>
        rw [q] at ev
        exact IS names st a h1 env A X s as fr fr1 σ σ1 f0 _ N hA T q fun f as1 k1 tk1 hf st1 R1 F1 => tail_ok ih h2 N hA O ev hQ hf (gr st1) R1 F1 (O.step st1 F1).S
      | ex x f s => rw [q] at ev; cases ev
      | bad => rw [q] at ev; cases ev
    cases st with
    | Try b hs o fin p =>
      obtain ⟨h0, h1⟩ := gd_inv (show gd (o.isEmpty && fin.isEmpty) (cTry (c0.sub names) b hs) = some a from h1)
      obtain ⟨ho, hfin⟩ := and_inv h0
      cases isEmpty_inv ho; cases isEmpty_inv hfin
      rcases hs with _ | ⟨⟨t, nm, hb, hp⟩, _ | ⟨h3, hs⟩⟩
      · exact nn h1
      · cases t with
        | none => exact nn h1
        | some t => cases nm with
          | none => exact nn h1
          | some nm => cases hb with
            | nil => exact nn h1
            | cons s0 hb =>
              obtain ⟨pn, q1, h1⟩ := bind_inv h1
              obtain ⟨pp, q2, h1⟩ := bind_inv h1
              obtain ⟨q3, h1⟩ := gd_inv h1
              obtain ⟨q3, q4⟩ := and_inv q3
              obtain ⟨q4, q5⟩ := and_inv q4
              obtain ⟨q5, q6⟩ := and_inv q5
              obtain ⟨b', i, h', q7, q8, q9, rfl⟩ := opt3_inv h1
              obtain ⟨np, rfl⟩ := name?_inv q1
              obtain ⟨p1, P⟩ := pp
              have e1 : pn = p1 := eq_of_beq q3
              subst e1
              have ev : (match evSs call wf b' fr σ with
                | .ok f fr σ => (match f with | .next => evT call callH wf as' fr σ | f => .ok f fr σ)
                | .ex x fr σ => if (c0.excs.map (·.2)).contains x ∧ i < fr.length then (match evSs callH wf h' (fr.set i (some (.exc x))) σ with
                  | .ok f fr σ => (match f with | .next => evT call callH wf as' (fr.set i none) σ | f => .ok f (fr.set i none) σ)
                  | _ => .bad) else .bad
                | .bad => .bad) = RS.ok fl fr' σ' := ev
              cases q : evSs call wf b' fr σ with
              | ok f0 fr1 σ1 =>
                rw [q] at ev
                refine wpAny_Try_except (snd_list IS names b b' q7 env A _ s as fr fr1 σ σ1 f0 _ N hA T q fun f as1 k1 tk1 hf st1 R1 F1 => ?_)
                have k := tail_ok (tk := tk1) (X := X) ih h2 N hA O ev hQ hf (gr st1) R1 F1 (O.step st1 F1).S
                cases f with
                | next => exact wpAny_execs_nil k
                | _ => exact k
              | ex x fr1 σ1 =>
                rw [q] at ev
                dsimp only at ev
                split at ev
                case isFalse => cases ev
                rename_i hx
                cases q' : evSs callH wf h' (fr1.set i (some (.exc x))) σ1 with
                | ok f0 fr2 σ2 =>
                  rw [q'] at ev
                  exact try_ex G hh IX HL q2 q4 (not_inv q5) (eq_of_beq q6) q8 q7 q9 N hA O T q (List.contains_iff_mem.mp hx.1) q' fun f as1 k1 tk1 hf st1 R1 F1 S1 => tail_ok ih h2 N hA O ev hQ hf st1 R1 F1 S1
                | ex x f s => rw [q'] at ev; cases ev
                | bad => rw [q'] at ev; cases ev
              | bad => rw [q] at ev; cases ev
      · cases t <;> cases nm <;> cases hb <;> exact nn h1
    | _ => exact plain h1
end
section
variable {g : Cfg} {K : Frag} {fa : Nat → Option Addr} {call callH : Nat → List V → Sto → RE} {wf n : Nat}
noncomputable def compTn (K : Frag) (c : CE) (a : Addr) : Option Fn := compBy compT1 K c a
set_option tactic.hygienic false in
theorem callT {c : CE} {a : Addr} {fn : Fn} {vs : List V} {σ σ' : Sto} {A : Around} {s : Shared} {as : List Addr} {xs : List Value} {fl : Fl} {fr' : Fra} {v : V} {l : List Env} {R : Result → Shared → Prop} (G : Glob g K c fa) (hh : g.hd = none) (hlim : g.b.NoLimit) (IS : SndS g c call wf (2 * n) 20) (IX : SndLX g c call wf (2 * n) 20) (HL : ∀ a, SndL (g.with a) c.hand callH wf (2 * n) 20)
    (hfn : compTn K c a = some fn) (hlen : vs.length = fn.ps.length) (he : evT call callH wf fn.body (frame0 fn vs) σ = .ok fl fr' σ') (hr : RetOk fl v) (hA : Room g A (2 * (n + 1))) (hfr : A.frames = some l) (S : Stk g as l s.heap) (R0 : Rel g as σ s.heap) (hsz : g.b.objs.size ≤ s.heap.objs.size) (r0 : RepVs as s.heap vs xs)
    (hR : ∀ (val : Value) (as' : List Addr) (h' : Heap) (tk : Nat), Step (Frs l) as s.heap as' h' → Rel g as' σ' h' → Stk g as' l h' → RepV as' h' v val → R (.ok (.ret val)) { s with heap := h', toks := tk }) : codeAny (model g.prog g.w) A (.call (.ref a) ⟨xs, []⟩) R s := by
  refine enter_fn G.kin hlim hfn hlen hA R0 hsz r0 fun env body h tk E => ?_
  have O := on_enter E hfr S
  have hm : ∀ a, a ∈ Frs (env :: l) ↔ a = env.locals ∨ a ∈ Frs l := fun a => by unfold Frs; rw [List.filterMap_cons, E.fr]; exact List.mem_cons
  refine sndB G hh IS IX HL body fn.body E.comp _ _ _ { s with heap := h, toks := tk } as _ fr' σ σ' fl _ _ E.N E.room O ⟨E.F, E.R⟩ he fun f as2 h2 tk2 hf st2 R2 F2 S2 => ?_
  have a1 : Step (ownOf env ++ Frs (env :: l)) as s.heap as h := Step.of_ext E.ext
  refine hR (retV f) as2 h2 tk2 ((a1.trans st2 R2.nd (off_all F2 S2)).shrink fun b hb => ?_) R2 ⟨S2.fr.2.2, fun a ha => S2.off a ((hm a).mpr (.inr ha)), fun a ha => S2.dict a ((hm a).mpr (.inr ha))⟩ (ret_of hf hr)
  rcases List.mem_append.mp hb with hb | hb
  · exact .inr (E.new b hb)
  · rcases (hm b).mp hb with q | q
    · rw [q]; exact .inr (E.new _ (.head _))
    · exact .inl q
end
end Mine

set_option autoImplicit false
set_option maxRecDepth 100000
set_option linter.unusedVariables false
namespace Mine
open PySem PyProof.Rows PySem.W

noncomputable def noneIn (K : Frag) (x : Str) : Bool := nsIn K mainGlobals x == some none

noncomputable def chkG (K : Frag) (c : CE) (C : Addr) (at' : List (Nat × Str)) (fa : Nat → Option Addr) : Bool :=
  c.consts.all (fun p => match nsIn K mainGlobals p.1 with | some (some (.int j _)) => p.2 == j | _ => false) &&
  (c.fns.all (fun p => match fa p.2 with | some a => nsIn K mainGlobals p.1 == some (some (.ref a)) && keepIn K (.ref a) | none => false) &&
  (c.clss.all (fun p => match fa p.2 with | some fI => nsIn K mainGlobals p.1 == some (some (.ref C)) && (keepIn K (.ref C) && (makesIn K C && (findIn K (.ref C) "__init__" == some (some (.ref fI)) && (isFn K (.ref fI) && isIn K (.ref C) C)))) | none => false) &&
  (bltName.all (fun p => noneIn K p.1) && (tyName.all (fun p => noneIn K p.1) && (noneIn K "set" && (noneIn K "reversed" && (noneIn K "sorted" && (noneIn K "isinstance" &&
  (c.attrs.all (fun p => at'.lookup p.2 == some p.1 && (plainGet K C p.1 && ((match findIn K (.ref C) p.1 with | some at' => noGet K at' | none => false) && (takerIn K C p.1 == some none && (hasDictIn K C && (findIn K (.ref C) "__setattr__" == some (some (.builtin "object.__setattr__")) && plainOver K C)))))) &&
  c.mths.all (fun p => match fa p.2 with | some a => plainGet K C p.1 && (findIn K (.ref C) p.1 == some (some (.ref a)) && (isFn K (.ref a) && (keepIn K (.ref a) && at'.all (fun q => !(q.2 == p.1))))) | none => false))))))))))

set_option tactic.hygienic false in
theorem lookup_none_of_all {at' : List (Nat × Str)} {x : Str} (h : at'.all (fun q => !(q.2 == x)) = true) : ∀ k, at'.lookup k ≠ some x := fun k e => by
  have := List.all_eq_true.mp h _ (lookup_mem' e)
  simp at this

set_option tactic.hygienic false in
theorem boot_blt : ∀ p ∈ bltName, bootBuiltins p.1 = some (bltVal p.2) ∧ p.1 ≠ "__name__" := by
  intro p hp
  simp only [bltName, List.mem_cons, List.not_mem_nil, or_false] at hp
  rcases hp with rfl | rfl | rfl | rfl | rfl | rfl | rfl | rfl <;> exact ⟨by kernel_rfl, by decide⟩
set_option tactic.hygienic false in
theorem boot_ty : ∀ p ∈ tyName, (∀ y, tyVal p.2 = some y → bootBuiltins p.1 = some y) ∧ p.1 ≠ "__name__" := by
  intro p hp
  simp only [tyName, List.mem_cons, List.not_mem_nil, or_false] at hp
  rcases hp with rfl | rfl | rfl | rfl <;> exact ⟨fun y h => by cases h; kernel_rfl, by decide⟩

noncomputable def chkE (K : Frag) (c : CE) : Bool :=
  c.excs.all (fun p => excK K p.2 && (nsIn K mainGlobals p.1 == some (some (.ref p.2)) && (excIn K p.2 vMro "ValueError.__new__" && (kitOne K (.ref p.2) (.type "ValueError") == some true && c.excs.all (fun q => kitOne K (.ref q.2) (.ref p.2) == some (q.2 == p.2)))))) &&
  (noneIn K "ValueError" && (match c.pe with | none => true | some t => nsIn K mainGlobals t.1 == some (some (.ref t.2)) && catchIn K t.2 (c.excs.map (·.2))))
set_option tactic.hygienic false in
theorem globE_of {g : Cfg} {K : Frag} {c : CE} {mg mb : Str → Option Value} {p : Program} {loose : List Str} (KX : K.In g.b) (T : TopRead p loose mg mb g.b) (chk : chkE K c = true) : GlobE g K c := by
  obtain ⟨k1, chk⟩ := and_inv chk
  obtain ⟨k2, k3⟩ := and_inv chk
  have gl : ∀ (x : Str) (v : Value), nsIn K mainGlobals x = some (some v) → GV g x v := fun x v h => ⟨mg, mb, T.g, T.b, .inl (mg_of KX T.g h)⟩
  have all : ∀ q ∈ c.excs, excK K q.2 = true ∧ nsIn K mainGlobals q.1 = some (some (.ref q.2)) ∧ excIn K q.2 vMro "ValueError.__new__" = true ∧ kitOne K (.ref q.2) (.type "ValueError") = some true ∧ ∀ r ∈ c.excs, kitOne K (.ref r.2) (.ref q.2) = some (r.2 == q.2) := fun q hq => by
    obtain ⟨a, h⟩ := and_inv (List.all_eq_true.mp k1 q hq)
    obtain ⟨b, h⟩ := and_inv h
    obtain ⟨d, h⟩ := and_inv h
    obtain ⟨e, h⟩ := and_inv h
    exact ⟨a, eq_of_beq b, d, eq_of_beq e, fun r hr => eq_of_beq (List.all_eq_true.mp h r hr)⟩
  have mem : ∀ {D}, D ∈ c.excs.map (·.2) → ∃ q ∈ c.excs, q.2 = D := fun h => List.mem_map.mp h
  refine ⟨fun D hD => ?_, fun x C h => gl _ _ (all _ (lookup_mem' h)).2.1, fun x C h => ⟨mg, own_of_in KX T (all _ (lookup_mem' h)).2.1 (all _ (lookup_mem' h)).2.2.1⟩, fun C hC D hD => ?_, ?_, fun D hD => ?_, fun x P h => ?_⟩
  · obtain ⟨q, hq, rfl⟩ := mem hD; exact (all q hq).1
  · obtain ⟨q, hq, rfl⟩ := mem hC; obtain ⟨r, hr, rfl⟩ := mem hD; exact (all q hq).2.2.2.2 r hr
  · exact ⟨mg, mb, T.g, T.b, .inr ⟨ns_none_of KX T.g (eq_of_beq k2), by rw [T.builtins _ (by decide)]; kernel_rfl⟩⟩
  · obtain ⟨q, hq, rfl⟩ := mem hD; exact (all q hq).2.2.2.1
  · rw [h] at k3
    obtain ⟨a, b⟩ := and_inv k3
    exact ⟨gl _ _ (eq_of_beq a), b⟩
theorem glob_of {g : Cfg} {K : Frag} {c : CE} {fa : Nat → Option Addr} {mg mb : Str → Option Value} (KX : K.In g.b) (Tg : g.b.Ns mainGlobals mg) (Tb : g.b.Ns builtinsNs mb) (hb : ∀ x : Str, x ≠ "__name__" → mb x = bootBuiltins x) (chk : chkG K c g.C g.at' fa = true) (hh : g.hd = none)
    (hE : GlobE g K c)
    (hLam : ∀ a, c.lam = some a → ∃ mg, g.b.Ns mainGlobals mg ∧ CodeHd g.b a g.tab ∧ g.b.NoLimit ∧ g.b.BuiltinsAt mg g.tab ∧ mainGlobals ≠ g.tab ∧ g.hd = none) : Glob g K c fa := by
  simp only [chkG, Bool.and_eq_true, List.all_eq_true] at chk
  obtain ⟨k1, k2, k3, k4, k5, k6, k7, k8, k9, k10, k11⟩ := chk
  have bl : ∀ (x : Str) (v : Value), noneIn K x = true → bootBuiltins x = some v → x ≠ "__name__" → GV g x v := fun x v h1 h2 h3 =>
    ⟨mg, mb, Tg, Tb, .inr ⟨ns_none_of KX Tg (eq_of_beq h1), by rw [hb x h3, h2]⟩⟩
  have gl : ∀ (x : Str) (v : Value), nsIn K mainGlobals x = some (some v) → GV g x v := fun x v h => ⟨mg, mb, Tg, Tb, .inl (mg_of KX Tg h)⟩
  refine ⟨⟨?_⟩, KX, fun x i h => ?_, fun x k h => ?_, fun x k h => ?_, fun x k h => ?_, fun x b h => ?_, fun x t y h hy => ?_, bl _ _ k6 (by kernel_rfl) (by decide), bl _ _ k7 (by kernel_rfl) (by decide), bl _ _ k8 (by kernel_rfl) (by decide), fun _ => hh,
    hE,
    bl _ _ k9 (by kernel_rfl) (by decide), fun x k h => ?_, fun x k h => ?_, fun x k h => ?_, hLam, fun x f h => ?_⟩
  · have := Tg.lt
    exact Nat.lt_trans (by decide) this
  · have := k1 _ (lookup_mem' h)
    split at this
    · rename_i j t hq
      have e := eq_of_beq this
      simp only at e
      subst e
      exact ⟨t, gl _ _ hq⟩
    · cases this
  · have := k2 _ (lookup_mem' h)
    split at this
    · rename_i a ha
      simp only [Bool.and_eq_true] at this
      exact ⟨a, gl _ _ (eq_of_beq this.1), ha, this.2⟩
    · cases this
  · have := k3 _ (lookup_mem' h)
    split at this
    · rename_i a ha
      simp only [Bool.and_eq_true] at this
      obtain ⟨q1, q2, q3, q4, q5, q6⟩ := this
      exact ⟨a, gl _ _ (eq_of_beq q1), ha, q2, q3, eq_of_beq q4, q5⟩
    · cases this
  · have := k3 _ (lookup_mem' h)
    split at this
    · simp only [Bool.and_eq_true] at this
      exact this.2.2.2.2.2
    · cases this
  · have hm := lookup_mem' h
    obtain ⟨q1, q2⟩ := boot_blt _ hm
    exact bl _ _ (k4 _ hm) q1 q2
  · have hm := lookup_mem' h
    obtain ⟨q1, q2⟩ := boot_ty _ hm
    exact bl _ _ (k5 _ hm) (q1 y hy) q2
  · have := k10 _ (lookup_mem' h)
    simp only [Bool.and_eq_true] at this
    obtain ⟨q1, q2, q3, q4, q5, q6, q7⟩ := this
    refine ⟨eq_of_beq q1, q2, ?_⟩
    split at q3
    · rename_i at2 hq
      exact ⟨at2, hq, q3, eq_of_beq q4⟩
    · cases q3
  · have := k10 _ (lookup_mem' h)
    simp only [Bool.and_eq_true] at this
    exact this.2.2.2.2.1
  · have := k10 _ (lookup_mem' h)
    simp only [Bool.and_eq_true] at this
    exact ⟨eq_of_beq this.2.2.2.2.2.1, this.2.2.2.2.2.2⟩
  · have := k11 _ (lookup_mem' h)
    split at this
    · rename_i a ha
      simp only [Bool.and_eq_true] at this
      obtain ⟨q1, q2, q3, q4, q5⟩ := this
      exact ⟨a, ha, q1, eq_of_beq q2, q3, q4, lookup_none_of_all q5⟩
    · cases this

set_option tactic.hygienic false in
theorem attInj_of {g : Cfg} (h : (g.at'.map (·.2)).Nodup) (h' : (g.at'.map (·.1)).Nodup) : AttInj g := fun k k' x e1 e2 => by
  have m1 := lookup_mem' e1
  have m2 := lookup_mem' e2
  obtain ⟨i, hi, e3⟩ := List.getElem_of_mem m1
  obtain ⟨j, hj, e4⟩ := List.getElem_of_mem m2
  have : i = j := by
    apply (List.getElem_inj h (h₀ := by simpa using hi) (h₁ := by simpa using hj)).mp
    simp [e3, e4]
  subst this
  rw [e3] at e4; cases e4; rfl
end Mine

set_option autoImplicit false
set_option maxRecDepth 100000
set_option linter.unusedVariables false
namespace Mine
open PySem PyProof.Rows PySem.W

noncomputable def Pof (K : Frag) (c : Nat → CE) (fa : Nat → Option Addr) (k : Nat) : Option Fn := (fa k).bind fun a => compFn K (c k) a

set_option tactic.hygienic false in
theorem ints_rep {as : List Addr} {h : Heap} : ∀ {vs : List Value} {is : List Int}, IntsAre vs is → RepVs as h (is.map V.int) vs := by
  intro vs is hi
  induction hi with
  | nil => rw [List.map_nil, RepVs]
  | cons n t _ ih => rw [List.map_cons, RepVs]; exact ⟨_, _, rfl, by rw [RepV]; exact ⟨t, rfl⟩, ih⟩

set_option tactic.hygienic false in
theorem joinT {prog : Program} {w : World} {K : Frag} {c : Nat → CE} {C : Addr} {at' : List (Nat × Str)} {fa : Nat → Option Addr} {mg mb : Str → Option Value} {s₁ : Shared} {scr a ca P : Addr} {vs : List Value} {is : List Int} {wf n lawI : Nat} {σ' : Sto}
    (KX : K.In s₁.heap) (Tg : s₁.heap.Ns mainGlobals mg) (Tb : s₁.heap.Ns builtinsNs mb) (hb : ∀ x : Str, x ≠ "__name__" → mb x = bootBuiltins x) (lim : s₁.heap.NoLimit)
    (hl : s₁.heap.get? scr = some { cls := .type "list", data := .seq vs.toArray }) (hi : IntsAre vs is) (hlen : is.length ≤ 63)
    (hT : TabsAt [(ca, P)] s₁.heap) (hB : ∃ bm ob, mg "__builtins__" = some (.ref bm) ∧ bm ≠ builtinsNs ∧ s₁.heap.get? bm = some ob ∧ ob.cls = .type "module" ∧ ob.dict = some builtinsNs ∧ ob.data = .plain)
    (hK : K.all (fun p => !(p.2.cls == .type "list") && !(p.1 == P)) = true) (chk : ∀ k, chkG K (c k) C at' fa = true) (hat : (at'.map (·.2)).Nodup) (hat' : (at'.map (·.1)).Nodup) (hfa : fa lawI = some a) (hA1 : callerA.units + 20 * (2 * (n + 1)) + 60 ≤ 9900) (hA2 : callerA.depth + 4 * (2 * (n + 1)) + 20 ≤ 1000)
    (hl0 : ∀ k x, (c k).lam = some x → x = ca)
    {p : Program} {loose : List Str} (TR : TopRead p loose mg mb s₁.heap) (chkX : ∀ k, chkE K (c k) = true) {fh : Nat → Option Addr} (hfh : ∀ k a, fh k = some a → fa k = some a ∧ c k = (c lawI).hand) (chkH : chkG K (c lawI).hand C at' fh = true) {fnL : Fn} {frL : Fra} (hfn : compTn K (c lawI) a = some fnL) (hps : 1 = fnL.ps.length)
    (ev : evT (evFn (Pof K c fa) wf n) (evFn (Pof K c fa) wf n) wf fnL.body (frame0 fnL [.ref 0]) [.frz (is.map V.int), .tab false] = .ok (.ret (.bool true)) frL σ')
    (h0 : σ'[0]? = some (.frz (is.map V.int))) (h1 : ∃ b, σ'[1]? = some (.tab b))
    {R : Result → Shared → Prop} (hR : ∀ h' tk, (∀ (b : Addr) (o : Obj), (ghostOf s₁.heap [(ca, P)]).get? b = some o → h'.get? b = some o) → GrownAll [(ca, P)] h' → R (.ok (.ret (.bool true))) { s₁ with heap := h', toks := tk }) :
    codeAny (model prog w) callerA (.call (.ref a) ⟨[.ref scr], []⟩) R s₁ := by
  have lk : ∀ {α β : Type} [BEq α] [LawfulBEq α] {l : List (α × β)} {x : α} {y : β}, l.lookup x = some y → (x, y) ∈ l := fun e => lookup_mem' e
  have hPo : s₁.heap.get? P = some (tabObj #[]) := (hT (ca, P) (.head _)).2
  have hCo : CodeHd s₁.heap ca P := (hT (ca, P) (.head _)).1
  have nsne : ∀ (b : Addr) (m : Str → Option Value), s₁.heap.Ns b m → b ≠ scr ∧ b ≠ P := fun b m ⟨o, es, ep, e, d, _⟩ => ⟨fun q => (by rw [q, hl] at e; cases e; cases d), fun q => (by rw [q, hPo] at e; cases e; cases d)⟩
  have hide : ∀ (b : Addr) (o : Obj), b ≠ scr ∧ b ≠ P → s₁.heap.get? b = some o → (hideAll s₁.heap [scr, P]).get? b = some o := fun b o hb e => hideAll_get [scr, P] e (by simpa using hb)
  have hsP : scr ≠ P := fun q => by rw [q, hPo] at hl; cases hl
  let g : Cfg := { prog := prog, w := w, b := hideAll s₁.heap [scr, P], C := C, at' := at', scr := { cls := .type "list", data := .seq vs.toArray }, tab := P }
  have KX' : K.In g.b := fun b o e => by
    have e1 := KX b o e
    have h2 := List.all_eq_true.mp hK _ (lk e)
    obtain ⟨h3, h4⟩ := and_inv h2
    refine hide b o ⟨fun q => ?_, fun q => ?_⟩ e1
    · rw [q, hl] at e1; cases e1
      exact tf (not_inv h3)
    · rw [q] at h4
      simp at h4
  have Tg' : g.b.Ns mainGlobals mg := Tg.at' fun o e => hide _ o (nsne _ _ Tg) e
  have Tb' : g.b.Ns builtinsNs mb := Tb.at' fun o e => hide _ o (nsne _ _ Tb) e
  have lim' : g.b.NoLimit := lim.at fun o e => hide _ o (by obtain ⟨m, hm, _⟩ := lim; exact nsne _ _ hm) e
  have C' : CodeHd g.b ca P := by
    obtain ⟨o, vs', file, tf', flags, tg, inF, text, tt, e1, q1, q2, q3, q4, q5, q6, q7, q8, q9⟩ := hCo
    exact ⟨o, vs', file, tf', flags, tg, inF, text, tt, hide _ _ ⟨fun q => (by rw [q, hl] at e1; cases e1; exact absurd (show Value.type "list" = .type "code" from q1) (by decide)), q9⟩ e1, q1, q2, q3, q4, q5, q6, q7, q8, q9⟩
  have B' : g.b.BuiltinsAt mg P := by
    obtain ⟨bm, ob, b1, b2, b3, b4, b5, b6⟩ := hB
    have hP : bm ≠ P := fun q => by rw [q, hPo] at b3; cases b3; cases b4
    refine ⟨bm, ob, b1, b2, fun q => ?_, hP, hide _ _ ⟨fun q => (by rw [q, hl] at b3; cases b3; exact absurd (show Value.type "list" = .type "module" from b4) (by decide)), hP⟩ b3, b4, b5, b6⟩
    obtain ⟨o, es, ep, e, d, _⟩ := Tg
    rw [q, e] at b3; cases b3; rw [d] at b6; cases b6
  have TR' : TopRead p loose mg mb g.b := ⟨Tg', Tb', lim', hb, TR.free⟩
  have G : ∀ k (a : Addr), fa k = some a → Glob g K (c k) fa := fun k _ _ => glob_of KX' Tg' Tb' hb (chk k) rfl
    (globE_of KX' TR' (chkX k))
    fun x h => by
    rw [hl0 k x h]
    exact ⟨mg, Tg', C', lim', B', (nsne _ _ Tg).2, rfl⟩
  have J : AttInj g := attInj_of hat hat'
  have hP : ∀ k a', fa k = some a' → Pof K c fa k = compFn K (c k) a' := fun k a' h => by unfold Pof; rw [h]; rfl
  have CA := call_all (P := Pof K c fa) (wf := wf) c G J lim' hP n
  have CXA := callX_all (P := Pof K c fa) (wf := wf) c G J lim' hP n
  have GH : ∀ e, Glob (g.with e) K (c lawI).hand fh := fun e => (glob_of (fa := fh) (c := (c lawI).hand) KX' Tg' Tb' hb chkH rfl (globE_of KX' TR' (chkX lawI)) fun x h => nomatch h).with rfl rfl
  have IS := sndS_all (wf := wf) (G lawI a hfa) J CA 20
  have HL : ∀ e, SndL (g.with e) (c lawI).hand (evFn (Pof K c fa) wf n) wf (2 * n) 20 := fun e => snd_list (sndS_all (GH e) J (call_all (g := g.with e) (fa := fh) (P := Pof K c fa) (wf := wf) c (fun k a' h => by rw [(hfh k a' h).2]; exact GH e) J lim' (fun k a' h => hP k a' (hfh k a' h).1) n) 20)
  have R0 : Rel g [scr, P] [.frz (is.map V.int), .tab false] s₁.heap := by
    refine ⟨fun b o e => of_hideAll [scr, P] e, rfl, by simpa using hsP, fun b hb => ?_, fun i b o e1 e2 => ?_, fun a q => nomatch q⟩
    · exact hideAll_none [scr, P] hb
    · rcases i with _ | _ | i
      · simp at e1 e2; subst e1; subst e2
        exact ⟨vs.toArray, 0, hl, rfl, by simpa using ints_rep hi, by simp; lia⟩
      · simp at e1 e2; subst e1; subst e2
        exact ⟨rfl, #[], hPo, fun _ => rfl⟩
      · simp at e1
  refine callT (g := g) (l := []) (vs := [.ref 0]) (v := .bool true) (G lawI a hfa) rfl lim' IS (sndx_list IS (sndSX_all (G lawI a hfa) J CA CXA 20)) HL hfn hps ev (.inl rfl) ⟨hA1, hA2, rfl⟩ rfl ⟨trivial, (fun _ h => nomatch h), fun _ h => nomatch h⟩ R0 (by rw [hideAll_size]; exact Nat.le_refl _) (xs := [.ref scr]) (by rw [RepVs]; exact ⟨_, _, rfl, by rw [RepV]; exact ⟨scr, rfl, rfl⟩, by rw [RepVs]⟩) fun val as' h' tk st R' _ r' => ?_
  rw [RepV] at r'; subst r'
  refine hR h' tk (fun b o e => ?_) ⟨?_, trivial⟩
  · have e' : s₁.heap.get? b = some o := of_hideAll [P] e
    have hbP : b ≠ P := fun q => by
      subst q
      have := hideAll_none (h := s₁.heap) [b] (List.mem_singleton.mpr rfl)
      have e2 : (hideAll s₁.heap [b]).get? b = some o := e
      rw [this] at e2; cases e2
    by_cases hbs : b = scr
    · subst hbs
      obtain ⟨items, nn', q1, q2, _⟩ := R'.obj 0 b _ (st.get rfl) h0
      rw [hl] at e'; cases e'
      exact q1
    · exact R'.base b o (hide b o ⟨hbs, hbP⟩ e')
  · obtain ⟨b, h1⟩ := h1
    obtain ⟨_, ps, q, _⟩ := R'.obj 1 P _ (st.get rfl) h1
    exact ⟨ps, q⟩
set_option tactic.hygienic false in
theorem shape_true : WShape.has [] (WData.bool true) .bool = true := by first | rfl | decide +kernel | simp [WShape.has]
set_option tactic.hygienic false in
theorem same_true : same (WData.bool true) (WData.bool true) = true := by first | rfl | decide +kernel | simp [same]
set_option tactic.hygienic false in
theorem law_post (l : OpenLaw) (a b : List WData) : l.row.toRowW.claim.post a (.bool true) b = true := by
  show (WShape.has [] (WData.bool true) .bool && (WTm.eq .res (.lit (.bool true))).holds [] { args := a, res := some (.bool true), after := b }) = true
  rw [shape_true]
  simp only [WTm.holds, WTm.value, same_true]
  rfl

set_option tactic.hygienic false in
theorem list_obj {P : Params} {h : Heap} {l : Addr} {vs : List Value} {ds : List PyData} (w : Well P h (.ref l) (ofPy (.list ds))) (hL : h.IsList l vs.toArray) : h.get? l = some { cls := .type "list", data := .seq vs.toArray } := by
  unfold ofPy at w
  cases w with
  | list ho _ =>
    obtain ⟨o, ho', hc, n, hd⟩ := hL
    rw [ho] at ho'; cases ho'; cases hd
    exact ho
end Mine

set_option autoImplicit false
set_option linter.unusedVariables false
set_option linter.unusedSimpArgs false
namespace Mine
open PySem

section
variable {P : Nat → Option Fn} {call : Nat → List V → Sto → RE} {wf n : Nat} {fr fr' : Fra} {σ σ1 σ' : Sto} {ss : List S} {a t : E} {v : V} {r : RS}

end

section
variable {test : Fra → Sto → RE} {body : Fra → Sto → RS} {n : Nat} {fr fr2 : Fra} {σ σ1 σ2 : Sto} {r : RS}
end

end Mine

set_option autoImplicit false
set_option linter.unusedVariables false
namespace Mine

abbrev Way := Nat × Nat × Nat

noncomputable def upd {α : Type} (f : Nat → α) (e : Nat) (x : α) : Nat → α := fun v => if v = e then x else f v
structure St where
  S : Nat → Int
  B : Nat → Nat
  last : Option Nat
  T : Nat → Nat
  W : Nat → Nat

noncomputable def wanted (num div : Int) (S : Nat → Int) (w : Way) : Int := S w.1 + div * w.2.2 - num
def Settled (num div : Int) (S : Nat → Int) (w : Way) : Prop := wanted num div S w ≤ S w.2.1

end Mine

set_option autoImplicit false
set_option linter.unusedVariables false
namespace Mine

noncomputable def iter (B : Nat → Nat) : Nat → Nat → Nat
  | 0, v => v
  | n + 1, v => B (iter B n v)
set_option tactic.hygienic false in
theorem nodup_lt : ∀ (m : Nat) (l : List Nat), l.Nodup → (∀ x ∈ l, x < m) → l.length ≤ m
  | 0, [], _, _ => Nat.le_refl _
  | 0, x :: _, _, h => absurd (h x (.head _)) (Nat.not_lt_zero _)
  | m + 1, l, nd, h => by
    by_cases hm : m ∈ l
    · have h1 := nodup_lt m (l.erase m) (nd.erase m) fun x hx => by
        have h2 := (nd.mem_erase_iff.mp hx)
        have := h x h2.2
        have := h2.1
        lia
      rw [List.length_erase_of_mem hm] at h1
      lia
    · have := nodup_lt m l nd fun x hx => by
        have h1 := h x hx
        have : x ≠ m := fun q => hm (q ▸ hx)
        lia
      lia
end Mine

set_option autoImplicit false
set_option linter.unusedVariables false
namespace Mine
open PySem

noncomputable def xcs : List Nat := [44, 56, 68, 80, 92, 104]
noncomputable def xc (k : Nat) : Nat := xcs.getD k 0
set_option tactic.hygienic false in
theorem cps {A : Prop} (h : ∀ G : Prop, (A → G) → G) : A := h A id

section
variable {call : Nat → List V → Sto → RE} {wf : Nat} {fr fr1 fr2 fr' : Fra} {σ σ1 σ2 σ3 σ4 σ' : Sto} {a b c t : E} {es : List E} {v w x y z : V} {vs : List V} {i : Nat} {p q : Bool}

set_option tactic.hygienic false in
theorem e_bool : evE call (.bool p) fr σ = .ok (.bool p) σ := rfl
set_option tactic.hygienic false in
theorem e_int {n : Int} : evE call (.int n) fr σ = .ok (.int n) σ := rfl
set_option tactic.hygienic false in
theorem e_str {s : Str} : evE call (.str s) fr σ = .ok (.str s) σ := rfl
set_option tactic.hygienic false in
theorem e_pow {m n : Nat} : evE call (.pow m n) fr σ = .ok (.int ((m : Int) ^ n)) σ := rfl
set_option tactic.hygienic false in
theorem e_loc (h : fr[i]? = some (some v)) : evE call (.loc i) fr σ = .ok v σ := by
  show (match fr[i]? with | some (some v) => RE.ok v σ | _ => .bad) = _; rw [h]
set_option tactic.hygienic false in
theorem e_neg {n : Int} (h : evE call a fr σ = .ok (.int n) σ1) : evE call (.neg a) fr σ = .ok (.int (-n)) σ1 := by
  show (evE call a fr σ).bind _ = _; rw [h]; rfl
set_option tactic.hygienic false in
theorem e_not (h : evE call a fr σ = .ok (.bool p) σ1) : evE call (.not a) fr σ = .ok (.bool (!p)) σ1 := by
  show (evE call a fr σ).bind _ = _; rw [h]; rfl
set_option tactic.hygienic false in
theorem e_notF (h : evE call a fr σ = .ok (.bool false) σ1) : evE call (.not a) fr σ = .ok (.bool true) σ1 := e_not h
set_option tactic.hygienic false in
theorem e_notT (h : evE call a fr σ = .ok (.bool true) σ1) : evE call (.not a) fr σ = .ok (.bool false) σ1 := e_not h
set_option tactic.hygienic false in
theorem e_and_t {r : RE} (h : evE call a fr σ = .ok (.bool true) σ1) (h2 : evE call b fr σ1 = r) : evE call (.and a b) fr σ = r := by
  show (evE call a fr σ).bind _ = _; rw [h]; exact h2
set_option tactic.hygienic false in
theorem e_and_f (h : evE call a fr σ = .ok (.bool false) σ1) : evE call (.and a b) fr σ = .ok (.bool false) σ1 := by
  show (evE call a fr σ).bind _ = _; rw [h]; rfl
set_option tactic.hygienic false in
theorem e_or_f {r : RE} (h : evE call a fr σ = .ok (.bool false) σ1) (h2 : evE call b fr σ1 = r) : evE call (.or a b) fr σ = r := by
  show (evE call a fr σ).bind _ = _; rw [h]; exact h2
set_option tactic.hygienic false in
theorem e_or_t (h : evE call a fr σ = .ok (.bool true) σ1) : evE call (.or a b) fr σ = .ok (.bool true) σ1 := by
  show (evE call a fr σ).bind _ = _; rw [h]; rfl
set_option tactic.hygienic false in
theorem e_and (h : evE call a fr σ = .ok (.bool p) σ) (h2 : p = true → evE call b fr σ = .ok (.bool q) σ) : evE call (.and a b) fr σ = .ok (.bool (p && q)) σ := by
  cases p with
  | false => exact e_and_f h
  | true => exact e_and_t h (h2 rfl)
set_option tactic.hygienic false in
theorem e_or (h : evE call a fr σ = .ok (.bool p) σ) (h2 : p = false → evE call b fr σ = .ok (.bool q) σ) : evE call (.or a b) fr σ = .ok (.bool (p || q)) σ := by
  cases p with
  | true => exact e_or_t h
  | false => exact e_or_f h (h2 rfl)
set_option tactic.hygienic false in
theorem e_bin {op : Operator} {r : RE} (h1 : evE call a fr σ = .ok x σ1) (h2 : evE call b fr σ1 = .ok y σ2) (h3 : binV op x y σ2 = r) : evE call (.bin op a b) fr σ = r := by
  show (evE call a fr σ).bind _ = _; rw [h1]; show (evE call b fr σ1).bind _ = _; rw [h2]; exact h3
set_option tactic.hygienic false in
theorem e_cmp {op : CmpOp} (h1 : evE call a fr σ = .ok x σ1) (h2 : evE call b fr σ1 = .ok y σ2) (h3 : cmpV op x y σ2 = some p) : evE call (.cmp op a b) fr σ = .ok (.bool p) σ2 := by
  show (evE call a fr σ).bind _ = _; rw [h1]; show (evE call b fr σ1).bind _ = _; rw [h2]; show ofOptB σ2 (cmpV op x y σ2) = _; rw [h3]; rfl
set_option tactic.hygienic false in
theorem e_cmp2 {o1 o2 : CmpOp} (h1 : evE call a fr σ = .ok x σ) (h2 : evE call b fr σ = .ok y σ) (h3 : cmpV o1 x y σ = some p) (h4 : p = true → evE call c fr σ = .ok z σ) (h5 : p = true → cmpV o2 y z σ = some q) : evE call (.cmp2 o1 o2 a b c) fr σ = .ok (.bool (p && q)) σ := by
  show (evE call a fr σ).bind _ = _; rw [h1]; show (evE call b fr σ).bind _ = _; rw [h2]
  show (match cmpV o1 x y σ with | some true => (evE call c fr σ).bind fun z σ => ofOptB σ (cmpV o2 y z σ) | some false => .ok (.bool false) σ | none => .bad) = _
  rw [h3]
  cases p with
  | false => rfl
  | true => show (evE call c fr σ).bind _ = _; rw [h4 rfl]; show ofOptB σ (cmpV o2 y z σ) = _; rw [h5 rfl]; rfl
set_option tactic.hygienic false in
theorem e_sub (h1 : evE call a fr σ = .ok x σ1) (h2 : evE call b fr σ1 = .ok y σ2) (h3 : subV x y σ2 = some v) : evE call (.sub a b) fr σ = .ok v σ2 := by
  show (evE call a fr σ).bind _ = _; rw [h1]; show (evE call b fr σ1).bind _ = _; rw [h2]; show ofOpt σ2 (subV x y σ2) = _; rw [h3]; rfl
set_option tactic.hygienic false in
theorem e_slo {l k : Nat} {xs : List V} {r : RE} (h1 : evE call a fr σ = .ok (.ref l) σ1) (h2 : evE call b fr σ1 = .ok (.int k) σ2) (h3 : getL σ2 l = some xs) (h4 : newL (xs.drop k) σ2 = r) : evE call (.slo a b) fr σ = r := by
  show (evE call a fr σ).bind _ = _; rw [h1]; show (evE call b fr σ1).bind _ = _; rw [h2]
  show (match getL σ2 l with | some xs => if (0 : Int) ≤ (k : Int) then newL (xs.drop (k : Int).toNat) σ2 else .bad | none => .bad) = _
  rw [h3]; show (if (0 : Int) ≤ (k : Int) then newL (xs.drop (k : Int).toNat) σ2 else .bad) = _
  rw [if_pos (Int.natCast_nonneg k)]; exact h4
set_option tactic.hygienic false in
theorem e_shi {l k : Nat} {xs : List V} {r : RE} (h1 : evE call a fr σ = .ok (.ref l) σ1) (h2 : evE call b fr σ1 = .ok (.int k) σ2) (h3 : getL σ2 l = some xs) (h4 : newL (xs.take k) σ2 = r) : evE call (.shi a b) fr σ = r := by
  show (evE call a fr σ).bind _ = _; rw [h1]; show (evE call b fr σ1).bind _ = _; rw [h2]
  show (match getL σ2 l with | some xs => if (0 : Int) ≤ (k : Int) then newL (xs.take (k : Int).toNat) σ2 else .bad | none => .bad) = _
  rw [h3]; show (if (0 : Int) ≤ (k : Int) then newL (xs.take (k : Int).toNat) σ2 else .bad) = _
  rw [if_pos (Int.natCast_nonneg k)]; exact h4
set_option tactic.hygienic false in
theorem e_attr {k : Nat} (h1 : evE call a fr σ = .ok x σ1) (h2 : attrV x k σ1 = some v) : evE call (.attr a k) fr σ = .ok v σ1 := by
  show (evE call a fr σ).bind _ = _; rw [h1]; show ofOpt σ1 (attrV x k σ1) = _; rw [h2]; rfl
set_option tactic.hygienic false in
theorem e_list {r : RE} (h : evEs call es fr σ = .ok vs σ1) (h2 : newL vs σ1 = r) : evE call (.list es) fr σ = r := by
  show (evEs call es fr σ).bind _ = _; rw [h]; exact h2
set_option tactic.hygienic false in
theorem e_tup (h : evEs call es fr σ = .ok vs σ1) (h2 : vs.length ≤ 1000) : evE call (.tup es) fr σ = .ok (.tup vs) σ1 := by
  show (evEs call es fr σ).bind _ = _; rw [h]; exact if_pos h2
set_option tactic.hygienic false in
theorem e_dict1 {k : Int} (h1 : evE call a fr σ = .ok (.int k) σ1) (h2 : evE call b fr σ1 = .ok v σ2) : evE call (.dict1 a b) fr σ = .ok (.ref σ2.length) (σ2 ++ [.dI [(k, v)]]) := by
  show (evE call a fr σ).bind _ = _; rw [h1]; show (evE call b fr σ1).bind _ = _; rw [h2]; rfl
set_option tactic.hygienic false in
theorem e_call {k : Nat} {r : RE} (h : evEs call es fr σ = .ok vs σ1) (h2 : call k vs σ1 = r) : evE call (.call k es) fr σ = r := by
  show (evEs call es fr σ).bind _ = _; rw [h]; exact h2
set_option tactic.hygienic false in
theorem e_mk {k : Nat} (h : evEs call es fr σ = .ok vs σ1) (h2 : call k (.ref (σ1.length + 1) :: vs) (σ1 ++ [.att [], .inst σ1.length]) = .ok .none σ2) : evE call (.mk k es) fr σ = .ok (.ref (σ1.length + 1)) σ2 := by
  show (evEs call es fr σ).bind _ = _; rw [h]
  show (match call k (.ref (σ1.length + 1) :: vs) (σ1 ++ [.att [], .inst σ1.length]) with | .ok .none σ' => RE.ok (.ref (σ1.length + 1)) σ' | .ok _ _ => .bad | .ex x σ' => .ex x σ' | .bad => .bad) = _
  rw [h2]
set_option tactic.hygienic false in
theorem e_meth {m : MN} {l : Nat} {xs xs2 : List V} {r : RE} (h : evE call a fr σ = .ok (.ref l) σ1) (hl : getL σ1 l = some xs) (h2 : evEs call es fr σ1 = .ok vs σ2) (hl2 : getL σ2 l = some xs2) (h3 : methV m l xs2 vs σ2 = r) : evE call (.meth a m es) fr σ = r := by
  show (evE call a fr σ).bind _ = _; rw [h]
  show (match getL σ1 l with | some _ => (evEs call es fr σ1).bind _ | none => .bad) = _
  rw [hl]; show (evEs call es fr σ1).bind _ = _; rw [h2]
  show (match getL σ2 l with | some xs => methV m l xs vs σ2 | none => .bad) = _
  rw [hl2]; exact h3
set_option tactic.hygienic false in
theorem e_blt {n : BN} {r : RE} (h : evEs call es fr σ = .ok vs σ1) (h2 : bltV n vs σ1 = r) : evE call (.blt n es) fr σ = r := by
  show (evEs call es fr σ).bind _ = _; rw [h]; exact h2
set_option tactic.hygienic false in
theorem e_isi {ty : Ty} (h : evE call a fr σ = .ok x σ1) (h2 : isiV ty x σ1 = some p) : evE call (.isi a ty) fr σ = .ok (.bool p) σ1 := by
  show (evE call a fr σ).bind _ = _; rw [h]; show ofOptB σ1 (isiV ty x σ1) = _; rw [h2]; rfl
set_option tactic.hygienic false in
theorem e_srt {key : KX} {r : RE} (h : evE call a fr σ = .ok x σ1) (h2 : srtV key fr x σ1 = r) : evE call (.srt a key) fr σ = r := by
  show (evE call a fr σ).bind _ = _; rw [h]; exact h2

set_option tactic.hygienic false in
theorem es_nil : evEs call [] fr σ = .ok [] σ := rfl
set_option tactic.hygienic false in
theorem es_cons (h : evE call a fr σ = .ok v σ1) (h2 : evEs call es fr σ1 = .ok vs σ2) : evEs call (a :: es) fr σ = .ok (v :: vs) σ2 := by
  show (evE call a fr σ).binds _ = _; rw [h]; show (evEs call es fr σ1).binds _ = _; rw [h2]; rfl

variable {ss bs os : List S} {r : RS}
set_option tactic.hygienic false in
theorem s_nil : evSs call wf [] fr σ = .ok .next fr σ := rfl
set_option tactic.hygienic false in
theorem s_cons {s : S} (h : evS call wf s fr σ = .ok .next fr1 σ1) (h2 : evSs call wf ss fr1 σ1 = r) : evSs call wf (s :: ss) fr σ = r := by
  show (match evS call wf s fr σ with | .ok .next fr σ => evSs call wf ss fr σ | r => r) = _; rw [h]; exact h2
set_option tactic.hygienic false in
theorem s_ret1 {s : S} (h : evS call wf s fr σ = .ok (.ret v) fr1 σ1) : evSs call wf (s :: ss) fr σ = .ok (.ret v) fr1 σ1 := by
  show (match evS call wf s fr σ with | .ok .next fr σ => evSs call wf ss fr σ | r => r) = _; rw [h]
set_option tactic.hygienic false in
theorem s_expr' (h : evE call a fr σ = .ok v σ1) (h2 : evSs call wf ss fr σ1 = r) : evSs call wf (.expr a :: ss) fr σ = r :=
  s_cons (by show (evE call a fr σ).bindX _ fr _ = _; rw [h]; rfl) h2
set_option tactic.hygienic false in
theorem s_asg' (h : evE call a fr σ = .ok v σ1) (hi : i < fr.length) (h2 : evSs call wf ss (fr.set i (some v)) σ1 = r) : evSs call wf (.asg i a :: ss) fr σ = r :=
  s_cons (by show (evE call a fr σ).bindX _ fr _ = _; rw [h]; exact if_pos hi) h2
set_option tactic.hygienic false in
theorem s_asgT' {is : List Nat} (h : evE call a fr σ = .ok v σ1) (hb : bindT is false v fr = some fr1) (h2 : evSs call wf ss fr1 σ1 = r) : evSs call wf (.asgT is a :: ss) fr σ = r :=
  s_cons (by show (evE call a fr σ).bindS fr _ = _; rw [h]; show (match bindT is false v fr with | some fr => RS.ok .next fr σ1 | none => .bad) = _; rw [hb]) h2
set_option tactic.hygienic false in
theorem s_asgA' {k : Nat} (h : evE call a fr σ = .ok v σ1) (h1 : evE call b fr σ1 = .ok w σ2) (hs : setAttrV w k v σ2 = some σ3) (h2 : evSs call wf ss fr σ3 = r) : evSs call wf (.asgA b k a :: ss) fr σ = r :=
  s_cons (by
    show (evE call a fr σ).bindS fr _ = _; rw [h]; show (evE call b fr σ1).bindS fr _ = _; rw [h1]
    show (match setAttrV w k v σ2 with | some σ => RS.ok .next fr σ | none => .bad) = _; rw [hs]) h2
set_option tactic.hygienic false in
theorem s_asgI' (h : evE call a fr σ = .ok v σ1) (h1 : evE call b fr σ1 = .ok w σ2) (h0 : evE call c fr σ2 = .ok x σ3) (hs : setIdx w x v σ3 = some σ4) (h2 : evSs call wf ss fr σ4 = r) : evSs call wf (.asgI b c a :: ss) fr σ = r :=
  s_cons (by
    show (evE call a fr σ).bindS fr _ = _; rw [h]; show (evE call b fr σ1).bindS fr _ = _; rw [h1]; show (evE call c fr σ2).bindS fr _ = _; rw [h0]
    show (match setIdx w x v σ3 with | some σ => RS.ok .next fr σ | none => .bad) = _; rw [hs]) h2
set_option tactic.hygienic false in
theorem s_ret' (h : evE call a fr σ = .ok v σ1) : evSs call wf (.ret a :: ss) fr σ = .ok (.ret v) fr σ1 :=
  s_ret1 (by show (evE call a fr σ).bindX _ fr _ = _; rw [h]; rfl)
set_option tactic.hygienic false in
theorem if_t (h : evE call t fr σ = .ok (.bool true) σ1) : evS call wf (.ifS t bs os) fr σ = evSs call wf bs fr σ1 := by
  show (evE call t fr σ).bindS fr _ = _; rw [h]; rfl
set_option tactic.hygienic false in
theorem if_f (h : evE call t fr σ = .ok (.bool false) σ1) : evS call wf (.ifS t bs os) fr σ = evSs call wf os fr σ1 := by
  show (evE call t fr σ).bindS fr _ = _; rw [h]; rfl
set_option tactic.hygienic false in
theorem s_if_t (h : evE call t fr σ = .ok (.bool true) σ1) (h1 : evSs call wf bs fr σ1 = .ok .next fr1 σ2) (h2 : evSs call wf ss fr1 σ2 = r) : evSs call wf (.ifS t bs os :: ss) fr σ = r := s_cons ((if_t h).trans h1) h2
set_option tactic.hygienic false in
theorem s_if_f (h : evE call t fr σ = .ok (.bool false) σ1) (h1 : evSs call wf os fr σ1 = .ok .next fr1 σ2) (h2 : evSs call wf ss fr1 σ2 = r) : evSs call wf (.ifS t bs os :: ss) fr σ = r := s_cons ((if_f h).trans h1) h2
set_option tactic.hygienic false in
theorem s_skip (h : evE call t fr σ = .ok (.bool false) σ1) (h2 : evSs call wf ss fr σ1 = r) : evSs call wf (.ifS t bs [] :: ss) fr σ = r := s_if_f h s_nil h2
set_option tactic.hygienic false in
theorem s_if_ret (h : evE call t fr σ = .ok (.bool true) σ1) (h1 : evSs call wf bs fr σ1 = .ok (.ret v) fr1 σ2) : evSs call wf (.ifS t bs os :: ss) fr σ = .ok (.ret v) fr1 σ2 := s_ret1 ((if_t h).trans h1)
end

section
variable {P : Nat → Option Fn} {wf n : Nat} {fr' : Fra} {σ σ' : Sto} {v : V}
set_option tactic.hygienic false in
theorem f_ret {k : Nat} {fn : Fn} {vs : List V} (hP : P k = some fn) (hl : vs.length = fn.ps.length) (h : evSs (evFn P wf n) wf fn.body (frame0 fn vs) σ = .ok (.ret v) fr' σ') : evFn P wf (n + 1) k vs σ = .ok v σ' := by
  show (match P k with | none => RE.bad | some fn => if vs.length = fn.ps.length then (match evSs (evFn P wf n) wf fn.body (frame0 fn vs) σ with | .ok (.ret v) _ σ => .ok v σ | .ok .next _ σ => .ok .none σ | .ok _ _ _ => .bad | .ex x _ σ => .ex x σ | .bad => .bad) else .bad) = _
  rw [hP]
  show (if vs.length = fn.ps.length then (match evSs (evFn P wf n) wf fn.body (frame0 fn vs) σ with | .ok (.ret v) _ σ => RE.ok v σ | .ok .next _ σ => .ok .none σ | .ok _ _ _ => .bad | .ex x _ σ => .ex x σ | .bad => .bad) else .bad) = _
  rw [if_pos hl, h]
set_option tactic.hygienic false in
theorem f_next {k : Nat} {fn : Fn} {vs : List V} (hP : P k = some fn) (hl : vs.length = fn.ps.length) (h : evSs (evFn P wf n) wf fn.body (frame0 fn vs) σ = .ok .next fr' σ') : evFn P wf (n + 1) k vs σ = .ok .none σ' := by
  show (match P k with | none => RE.bad | some fn => if vs.length = fn.ps.length then (match evSs (evFn P wf n) wf fn.body (frame0 fn vs) σ with | .ok (.ret v) _ σ => .ok v σ | .ok .next _ σ => .ok .none σ | .ok _ _ _ => .bad | .ex x _ σ => .ex x σ | .bad => .bad) else .bad) = _
  rw [hP]
  show (if vs.length = fn.ps.length then (match evSs (evFn P wf n) wf fn.body (frame0 fn vs) σ with | .ok (.ret v) _ σ => RE.ok v σ | .ok .next _ σ => .ok .none σ | .ok _ _ _ => .bad | .ex x _ σ => .ex x σ | .bad => .bad) else .bad) = _
  rw [if_pos hl, h]
end
end Mine

set_option autoImplicit false
set_option linter.unusedVariables false
namespace Mine
open PySem

set_option tactic.hygienic false in
theorem ap {σ τ : Sto} {l : Nat} {o : AO} (h : σ[l]? = some o) : (σ ++ τ)[l]? = some o := by
  rw [List.getElem?_append_left (List.getElem?_eq_some_iff.mp h).1]; exact h
set_option tactic.hygienic false in
theorem ap_new {σ τ : Sto} {o : AO} : (σ ++ o :: τ)[σ.length]? = some o := by rw [List.getElem?_append_right (Nat.le_refl _), Nat.sub_self]; rfl
set_option tactic.hygienic false in
theorem getL_some {σ : Sto} {l : Nat} {xs : List V} (h : σ[l]? = some (.lst xs)) : getL σ l = some xs := by unfold getL; rw [h]
set_option tactic.hygienic false in
theorem newL_fits {xs : List V} {σ : Sto} (h : xs.length ≤ 16777216) : newL xs σ = .ok (.ref σ.length) (σ ++ [.lst xs]) := if_pos h

set_option tactic.hygienic false in
theorem set_off {fr : Fra} {v : Option V} {i j : Nat} (h : j ≠ i) : (fr.set i v)[j]? = fr[j]? := List.getElem?_set_ne (Ne.symm h)
set_option tactic.hygienic false in
theorem foldl_len : ∀ (l : List (Nat × V)) (fr : Fra), (l.foldl (fun f p => f.set p.1 (some p.2)) fr).length = fr.length
  | [], _ => rfl
  | p :: l, fr => by rw [List.foldl_cons, foldl_len l, List.length_set]
set_option tactic.hygienic false in
theorem foldl_off : ∀ (l : List (Nat × V)) (fr : Fra) (j : Nat), j ∉ l.map (·.1) → (l.foldl (fun f p => f.set p.1 (some p.2)) fr)[j]? = fr[j]?
  | [], _, _, _ => rfl
  | p :: l, fr, j, h => by
    rw [List.map_cons, List.mem_cons, not_or] at h
    rw [List.foldl_cons, foldl_off l _ j h.2, set_off h.1]
set_option tactic.hygienic false in
theorem foldl_same : ∀ (l : List (Nat × V)) (f1 f2 : Fra), f1.length = f2.length → (∀ j, j ∉ l.map (·.1) → f1[j]? = f2[j]?) → l.foldl (fun f p => f.set p.1 (some p.2)) f1 = l.foldl (fun f p => f.set p.1 (some p.2)) f2
  | [], f1, f2, _, h => List.ext_getElem? fun j => h j (nomatch ·)
  | p :: l, f1, f2, hl, h => by
    rw [List.foldl_cons, List.foldl_cons]
    refine foldl_same l _ _ (by rw [List.length_set, List.length_set]; exact hl) fun j hj => ?_
    by_cases hp : j = p.1
    · subst hp
      rw [List.getElem?_set, List.getElem?_set, if_pos rfl, if_pos rfl, hl]
    · rw [set_off hp, set_off hp]
      exact h j (by rw [List.map_cons, List.mem_cons, not_or]; exact ⟨hp, hj⟩)
set_option tactic.hygienic false in
theorem bindT_again {tg : List Nat} {one : Bool} {v v' : V} {fr fr1 : Fra} (h : bindT tg one v fr = some fr1) : bindT tg one v' fr1 = bindT tg one v' fr := by
  unfold bindT at h ⊢
  cases one with
  | true =>
    rcases tg with _ | ⟨i, _ | ⟨j, tg⟩⟩
    · rfl
    · have h : (if i < fr.length then some (fr.set i (some v)) else none) = some fr1 := h
      show (if i < fr1.length then some (fr1.set i (some v')) else none) = if i < fr.length then some (fr.set i (some v')) else none
      by_cases hi : i < fr.length
      · rw [if_pos hi] at h; cases h
        rw [List.length_set, if_pos hi, if_pos hi, List.set_set]
      · rw [if_neg hi] at h; cases h
    · rfl
  | false =>
    cases v with
    | tup vs =>
      have h : (if vs.length = tg.length ∧ tg.all (· < fr.length) then some ((tg.zip vs).foldl (fun f p => f.set p.1 (some p.2)) fr) else none) = some fr1 := h
      by_cases hc : vs.length = tg.length ∧ tg.all (· < fr.length)
      · rw [if_pos hc] at h; cases h
        cases v' with
        | tup ws =>
          show (if ws.length = tg.length ∧ tg.all (· < ((tg.zip vs).foldl (fun f p => f.set p.1 (some p.2)) fr).length) then some ((tg.zip ws).foldl (fun f p => f.set p.1 (some p.2)) ((tg.zip vs).foldl (fun f p => f.set p.1 (some p.2)) fr)) else none) = if ws.length = tg.length ∧ tg.all (· < fr.length) then some ((tg.zip ws).foldl (fun f p => f.set p.1 (some p.2)) fr) else none
          rw [foldl_len]
          by_cases hw : ws.length = tg.length ∧ tg.all (· < fr.length)
          · rw [if_pos hw, if_pos hw]
            refine congrArg some (foldl_same _ _ _ (foldl_len _ _) fun j hj => foldl_off _ _ j ?_)
            rw [List.map_fst_zip (by lia)] at hj ⊢
            exact hj
          · rw [if_neg hw, if_neg hw]
        | _ => rfl
      · rw [if_neg hc] at h; cases h
    | _ => exact absurd h (by intro q; cases q)

section
variable {call : Nat → List V → Sto → RE} {wf : Nat} {fr fr1 : Fra} {σ σ1 : Sto} {tg : List Nat} {one : Bool} {cond elt : Fra → Sto → RE} {α : Type}

set_option tactic.hygienic false in
theorem compF_pure {v y : V} {p : Bool} {acc : List V} (h1 : bindT tg one v fr = some fr1) (h2 : cond fr1 σ = .ok (.bool p) σ) (h3 : p = true → elt fr1 σ = .ok y σ) : compF tg one cond elt v fr σ acc = .inl (some (fr1, (if p then acc ++ [y] else acc), σ)) := by
  unfold compF
  rw [h1]
  show (match cond fr1 σ with
    | .ok (.bool true) σ => (match elt fr1 σ with | .ok y σ => Sum.inl (some (fr1, acc ++ [y], σ)) | _ => .inl none)
    | .ok (.bool false) σ => .inl (some (fr1, acc, σ)) | _ => .inl none) = _
  rw [h2]
  cases p with
  | false => rfl
  | true =>
    show (match elt fr1 σ with | .ok y σ => Sum.inl (some (fr1, acc ++ [y], σ)) | _ => .inl none) = _
    rw [h3 rfl]; rfl
def Turn1 (tg : List Nat) (one : Bool) (cond elt : Fra → Sto → RE) (fr : Fra) (σ : Sto) (v : V) (p : Bool) (y : V) : Prop := ∃ fr1, bindT tg one v fr = some fr1 ∧ cond fr1 σ = .ok (.bool p) σ ∧ (p = true → elt fr1 σ = .ok y σ)
set_option tactic.hygienic false in
theorem filt_cons {p : α → Bool} {f : α → V} {a : α} {ws : List α} {acc : List V} : (if p a then acc ++ [f a] else acc) ++ (ws.filter p).map f = acc ++ ((a :: ws).filter p).map f := by
  rw [List.filter_cons]
  cases p a with
  | true => simp
  | false => rfl
set_option tactic.hygienic false in
theorem compL_pure {g : α → V} {p : α → Bool} {f : α → V} {fr0 : Fra} {l : Nat} {xs : List V} (hl : getL σ l = some xs) : ∀ (ws : List α) (n i : Nat) (fr : Fra) (acc : List V), xs.drop i = ws.map g → ws.length < n → (∀ v, bindT tg one v fr = bindT tg one v fr0) →
    (∀ a ∈ ws, Turn1 tg one cond elt fr0 σ (g a) (p a) (f a)) → compL tg one cond elt l n i fr σ acc = .ok (acc ++ (ws.filter p).map f) σ
  | [], 0, i, fr, acc, hd, hn, hfr, h => absurd hn (Nat.not_lt_zero _)
  | [], n + 1, i, fr, acc, hd, hn, hfr, h => by
    have : xs[i]? = none := by rw [List.getElem?_eq_none_iff]; exact List.drop_eq_nil_iff.mp hd
    rw [compL, hl]
    show (match xs[i]? with | none => REs.ok acc σ | some v => _) = _
    rw [this]; simp
  | a :: ws, 0, i, fr, acc, hd, hn, hfr, h => absurd hn (Nat.not_lt_zero _)
  | a :: ws, n + 1, i, fr, acc, hd, hn, hfr, h => by
    have hv : xs[i]? = some (g a) := by
      have := congrArg (fun l => l[0]?) hd
      simpa using this
    obtain ⟨fr1, h1, h2, h3⟩ := h a (.head _)
    rw [compL, hl]
    show (match xs[i]? with | none => REs.ok acc σ | some v => (match compF tg one cond elt v fr σ acc with | .inl (some (fr, acc, σ)) => compL tg one cond elt l n (i + 1) fr σ acc | .inl none => .bad | .inr (x, σ) => .ex x σ)) = _
    rw [hv]
    show (match compF tg one cond elt (g a) fr σ acc with | .inl (some (fr, acc, σ)) => compL tg one cond elt l n (i + 1) fr σ acc | .inl none => .bad | .inr (x, σ) => .ex x σ) = _
    rw [compF_pure ((hfr _).trans h1) h2 h3]
    show compL tg one cond elt l n (i + 1) fr1 σ _ = _
    rw [compL_pure hl ws n (i + 1) fr1 _ (by rw [← List.drop_drop, hd]; rfl) (Nat.lt_of_succ_lt_succ hn) (fun v => bindT_again h1) fun b hb => h b (.tail _ hb), filt_cons]

variable {it el : E} {cs : List E} {frm : List (Option Nat)} {g : α → V} {p : α → Bool} {f : α → V} {ws : List α} {r : RE}
set_option tactic.hygienic false in
theorem e_comp {l : Nat} (h : evE call it fr σ = .ok (.ref l) σ1) (hl : getL σ1 l = some (ws.map g)) (hp : ∀ a ∈ ws, Turn1 tg one (testL (evTs call cs)) (evE call el) (subFr fr frm) σ1 (g a) (p a) (f a)) (hn : newL ((ws.filter p).map f) σ1 = r) :
    evE call (.comp tg one it cs el frm) fr σ = r := by
  show (evE call it fr σ).bind _ = _; rw [h]
  show (match getL σ1 l with | some xs => (compL tg one (testL (evTs call cs)) (evE call el) l (xs.length + 1) 0 (subFr fr frm) σ1 []).bind fun ys σ => newL ys σ | none => .bad) = _
  rw [hl]
  show (compL tg one (testL (evTs call cs)) (evE call el) l ((ws.map g).length + 1) 0 (subFr fr frm) σ1 []).bind _ = _
  rw [compL_pure hl ws _ 0 _ [] rfl (by rw [List.length_map]; exact Nat.lt_succ_self _) (fun _ => rfl) hp]
  exact hn
set_option tactic.hygienic false in
theorem t_nil : testL (evTs call []) fr σ = .ok (.bool true) σ := rfl
set_option tactic.hygienic false in
theorem t_one {c : E} {q : Bool} (h : evE call c fr σ = .ok (.bool q) σ) : testL (evTs call [c]) fr σ = .ok (.bool q) σ := by
  show (evE call c fr σ).bind _ = _; rw [h]
  cases q <;> rfl
end

section
variable {call : Nat → List V → Sto → RE} {wf : Nat} {fr : Fra} {σ σ1 : Sto} {tg : List Nat} {one : Bool} {body : Fra → Sto → RS} {α : Type} {g : α → V}

def Turn (tg : List Nat) (one : Bool) (body : Fra → Sto → RS) (v : V) (fr : Fra) (σ : Sto) (I : Fra → Sto → Prop) (Rt : V → Sto → Prop) : Prop :=
  ∃ fr1, bindT tg one v fr = some fr1 ∧ ((∃ fr2 σ2, body fr1 σ = .ok .next fr2 σ2 ∧ I fr2 σ2) ∨ ∃ w fr2 σ2, body fr1 σ = .ok (.ret w) fr2 σ2 ∧ Rt w σ2)
def Done (r : RS) (I : Fra → Sto → Prop) (Rt : V → Sto → Prop) : Prop := (∃ fr σ, r = .ok .next fr σ ∧ I fr σ) ∨ ∃ w fr σ, r = .ok (.ret w) fr σ ∧ Rt w σ
set_option tactic.hygienic false in
theorem forV_inv (I : Nat → Fra → Sto → Prop) (Rt : V → Sto → Prop) : ∀ (ws : List α) (k : Nat) (fr : Fra) (σ : Sto), (∀ i a fr σ, ws[i]? = some a → I (k + i) fr σ → Turn tg one body (g a) fr σ (I (k + i + 1)) Rt) → I k fr σ → Done (forV tg one body (ws.map g) fr σ) (I (k + ws.length)) Rt
  | [], k, fr, σ, _, h0 => .inl ⟨fr, σ, rfl, h0⟩
  | a :: ws, k, fr, σ, step, h0 => by
    obtain ⟨fr1, h1, h2⟩ := step 0 a fr σ rfl h0
    rw [List.map_cons]
    unfold Done
    rw [forV, h1]
    show Done (match body fr1 σ with | .ok .next fr σ => forV tg one body (ws.map g) fr σ | .ok .cont fr σ => forV tg one body (ws.map g) fr σ | .ok .brk fr σ => .ok .next fr σ | r => r) _ _
    rcases h2 with ⟨fr2, σ2, h2, h3⟩ | ⟨w, fr2, σ2, h2, h3⟩
    · rw [h2]
      have := forV_inv I Rt ws (k + 1) fr2 σ2 (fun i b fr σ hb hi => by
        have e : k + 1 + i = k + (i + 1) := by lia
        rw [e] at hi ⊢
        exact step (i + 1) b fr σ hb hi) h3
      have e : k + (a :: ws).length = k + 1 + ws.length := by rw [List.length_cons]; lia
      rw [e]
      exact this
    · rw [h2]; exact .inr ⟨w, fr2, σ2, rfl, h3⟩
set_option tactic.hygienic false in
theorem forL_inv {l : Nat} {ws : List α} (I : Nat → Fra → Sto → Prop) (Rt : V → Sto → Prop) (hI : ∀ i fr σ, I i fr σ → getL σ l = some (ws.map g)) (step : ∀ i a fr σ, ws[i]? = some a → I i fr σ → Turn tg one body (g a) fr σ (I (i + 1)) Rt) :
    ∀ (n i : Nat) (fr : Fra) (σ : Sto), ws.length < i + n → i ≤ ws.length → I i fr σ → Done (forL tg one body l n i fr σ) (I ws.length) Rt
  | 0, i, fr, σ, hn, hi, _ => by lia
  | n + 1, i, fr, σ, hn, hi, h0 => by
    unfold Done
    rw [forL, hI i fr σ h0]
    show Done (match (ws.map g)[i]? with | none => RS.ok .next fr σ | some v => (match bindT tg one v fr with | none => .bad | some fr => (match body fr σ with | .ok .next fr σ => forL tg one body l n (i + 1) fr σ | .ok .cont fr σ => forL tg one body l n (i + 1) fr σ | .ok .brk fr σ => .ok .next fr σ | r => r))) _ _
    rw [List.getElem?_map]
    cases ha : ws[i]? with
    | none =>
      have : i = ws.length := by have := List.getElem?_eq_none_iff.mp ha; lia
      subst this
      exact .inl ⟨fr, σ, rfl, h0⟩
    | some a =>
      obtain ⟨fr1, h1, h2⟩ := step i a fr σ ha h0
      have hlt := (List.getElem?_eq_some_iff.mp ha).1
      show Done (match bindT tg one (g a) fr with | none => RS.bad | some fr => (match body fr σ with | .ok .next fr σ => forL tg one body l n (i + 1) fr σ | .ok .cont fr σ => forL tg one body l n (i + 1) fr σ | .ok .brk fr σ => .ok .next fr σ | r => r)) _ _
      rw [h1]
      show Done (match body fr1 σ with | .ok .next fr σ => forL tg one body l n (i + 1) fr σ | .ok .cont fr σ => forL tg one body l n (i + 1) fr σ | .ok .brk fr σ => .ok .next fr σ | r => r) _ _
      rcases h2 with ⟨fr2, σ2, h2, h3⟩ | ⟨w, fr2, σ2, h2, h3⟩
      · rw [h2]
        exact forL_inv I Rt hI step n (i + 1) fr2 σ2 (by lia) hlt h3
      · rw [h2]; exact .inr ⟨w, fr2, σ2, rfl, h3⟩

variable {it : E} {bs : List S} {ws : List α}
set_option tactic.hygienic false in
theorem s_forL {l : Nat} (I : Nat → Fra → Sto → Prop) (Rt : V → Sto → Prop) (h : evE call it fr σ = .ok (.ref l) σ1) (hI : ∀ i fr σ, I i fr σ → getL σ l = some (ws.map g))
    (step : ∀ i a fr σ, ws[i]? = some a → I i fr σ → Turn tg one (evSs call wf bs) (g a) fr σ (I (i + 1)) Rt) (h0 : I 0 fr σ1) : Done (evS call wf (.forS tg one (.e it) bs) fr σ) (I ws.length) Rt := by
  have e : evS call wf (.forS tg one (.e it) bs) fr σ = forL tg one (evSs call wf bs) l ((ws.map g).length + 1) 0 fr σ1 := by
    show (evE call it fr σ).bindS fr _ = _; rw [h]
    show (match getL σ1 l with | some xs => forL tg one (evSs call wf bs) l (xs.length + 1) 0 fr σ1 | none => .bad) = _
    rw [hI 0 fr σ1 h0]
  rw [e, List.length_map]
  exact forL_inv I Rt hI step _ 0 fr σ1 (by lia) (Nat.zero_le _) h0
set_option tactic.hygienic false in
theorem s_forR {lo hi : Int} (I : Nat → Fra → Sto → Prop) (Rt : V → Sto → Prop) (h : evE call it fr σ = .ok (.rng lo hi) σ1) (hw : rngL lo hi = ws.map g)
    (step : ∀ i a fr σ, ws[i]? = some a → I i fr σ → Turn tg one (evSs call wf bs) (g a) fr σ (I (i + 1)) Rt) (h0 : I 0 fr σ1) : Done (evS call wf (.forS tg one (.e it) bs) fr σ) (I ws.length) Rt := by
  have e : evS call wf (.forS tg one (.e it) bs) fr σ = forV tg one (evSs call wf bs) (ws.map g) fr σ1 := by
    show (evE call it fr σ).bindS fr _ = _; rw [h, ← hw]; rfl
  rw [e]
  have := forV_inv (g := g) (tg := tg) (one := one) (body := evSs call wf bs) I Rt ws 0 fr σ1 (fun i a fr σ ha hi => by rw [Nat.zero_add] at hi ⊢; exact step i a fr σ ha hi) h0
  rw [Nat.zero_add] at this
  exact this
set_option tactic.hygienic false in
theorem Done.next {r : RS} {I : Fra → Sto → Prop} (h : Done r I (fun _ _ => False)) : ∃ fr σ, r = .ok .next fr σ ∧ I fr σ := h.elim id fun ⟨_, _, _, _, q⟩ => q.elim
set_option tactic.hygienic false in
theorem wh_step {test : Fra → Sto → RE} {n : Nat} {fr2 : Fra} {σ2 : Sto} {r : RS} (h1 : test fr σ = .ok (.bool true) σ1) (h2 : body fr σ1 = .ok .next fr2 σ2) (h3 : whileL test body n fr2 σ2 = r) : whileL test body (n + 1) fr σ = r := by
  rw [whileL, h1]
  show (match body fr σ1 with | .ok .next fr σ => whileL test body n fr σ | .ok .cont fr σ => whileL test body n fr σ | .ok .brk fr σ => .ok .next fr σ | .ok (.ret v) fr σ => .ok (.ret v) fr σ | _ => .bad) = _
  rw [h2]; exact h3
set_option tactic.hygienic false in
theorem wh_end {test : Fra → Sto → RE} {n : Nat} (h1 : test fr σ = .ok (.bool false) σ1) : whileL test body (n + 1) fr σ = .ok .next fr σ1 := by
  rw [whileL, h1]; rfl
end
end Mine

set_option autoImplicit false
set_option linter.unusedVariables false
namespace Mine
open PySem

noncomputable def fIsWhole : Fn := { ps := [0, 1, 2], size := 6, body := [S.ret (((E.loc 0).isi Ty.int).and (((E.loc 0).isi Ty.bool).not.and (E.cmp2 CmpOp.LtE CmpOp.LtE (E.loc 1) (E.loc 0) (E.loc 2))))] }
noncomputable def fNeed : Fn := { ps := [0, 1], size := 4, body := [S.ifS (E.call 8 [E.loc 1, E.int 0, E.bin Operator.Sub ((E.loc 0).attr 0) (E.int 1)]).not [S.raise (xc 1)] []] }
noncomputable def fDelay : Fn := { ps := [0, 1, 2], size := 4, body :=
  [S.expr ((E.loc 0).umeth 12 [E.loc 1]), S.expr ((E.loc 0).umeth 12 [E.loc 2]),
    S.ret (E.comp [1] true ((E.loc 0).attr 1) [(E.cmp CmpOp.Eq ((E.loc 1).sub (E.int 0)) (E.loc 2)).and (E.cmp CmpOp.Eq ((E.loc 1).sub (E.int 1)) (E.loc 3))] ((E.loc 1).sub (E.int 2)) [none, none, some 1, some 2]).maxd] }

noncomputable def wayV (w : Way) : V := .tup [.int w.1, .int w.2.1, .int w.2.2]
structure WebAt (σ : Sto) (l : Nat) (m : Nat) (ws : List Way) : Prop where
  at' : ∃ d lw, σ[l]? = some (.inst d) ∧ σ[d]? = some (.att [(0, .int m), (1, .ref lw)]) ∧ σ[lw]? = some (.lst (ws.map wayV))
set_option tactic.hygienic false in
theorem WebAt.app {σ τ : Sto} {l m : Nat} {ws : List Way} (h : WebAt σ l m ws) : WebAt (σ ++ τ) l m ws :=
  let ⟨d, lw, a, b, c⟩ := h.at'; ⟨d, lw, ap a, ap b, ap c⟩

section
variable {P : Nat → Option Fn} {wf n : Nat} {σ : Sto}

set_option tactic.hygienic false in
theorem is_whole_ok (hP : P 8 = some fIsWhole) (x lo hi : Int) : evFn P wf (n + 1) 8 [.int x, .int lo, .int hi] σ = .ok (.bool (decide (lo ≤ x) && decide (x ≤ hi))) σ :=
  f_ret hP rfl (s_ret' (e_and_t (e_isi (e_loc rfl) rfl) (e_and_t (e_notF (e_isi (e_loc rfl) rfl)) (e_cmp2 (e_loc rfl) (e_loc rfl) rfl (fun _ => e_loc rfl) fun _ => rfl))))
set_option tactic.hygienic false in
theorem is_whole_t (hP : P 8 = some fIsWhole) {x lo hi : Int} (h1 : lo ≤ x) (h2 : x ≤ hi) : evFn P wf (n + 1) 8 [.int x, .int lo, .int hi] σ = .ok (.bool true) σ := by
  rw [is_whole_ok hP, decide_eq_true h1, decide_eq_true h2]; rfl
set_option tactic.hygienic false in
theorem attr_many {l m d lw : Nat} (a : σ[l]? = some (.inst d)) (b : σ[d]? = some (.att [(0, .int m), (1, .ref lw)])) : attrV (.ref l) 0 σ = some (.int m) := by
  unfold attrV; dsimp only; rw [a]; dsimp only; rw [b]; rfl
set_option tactic.hygienic false in
theorem attr_ways {l m d lw : Nat} (a : σ[l]? = some (.inst d)) (b : σ[d]? = some (.att [(0, .int m), (1, .ref lw)])) : attrV (.ref l) 1 σ = some (.ref lw) := by
  unfold attrV; dsimp only; rw [a]; dsimp only; rw [b]; rfl
noncomputable def between (ws : List Way) (a b : Nat) : List Nat := (ws.filter fun w => w.1 == a && w.2.1 == b).map (·.2.2)
set_option tactic.hygienic false in
theorem nat_beq (x y : Nat) : ((x : Int) == (y : Int)) = (x == y) := by
  rw [Bool.eq_iff_iff, beq_iff_eq, beq_iff_eq]; lia
end
end Mine

set_option autoImplicit false
set_option linter.unusedVariables false
namespace Mine
open PySem

noncomputable def gcdBody : List S := [S.asg 2 (E.bin Operator.Mod (E.loc 0) (E.loc 1)), S.asg 0 (E.loc 1), S.asg 1 (E.loc 2)]
noncomputable def fCommon : Fn := { ps := [0, 1], size := 3, body := [S.whileS (E.cmp CmpOp.NotEq (E.loc 1) (E.int 0)) gcdBody, S.ret (E.loc 0)] }
noncomputable def fLowest : Fn := { ps := [0, 1], size := 4, body := [S.asg 2 (E.call 0 [E.loc 0, E.loc 1]), S.ret (E.tup [E.bin Operator.FloorDiv (E.loc 0) (E.loc 2), E.bin Operator.FloorDiv (E.loc 1) (E.loc 2)])] }

set_option tactic.hygienic false in
theorem fmodN (x y : Nat) : Int.fmod (x : Int) (y : Int) = ((x % y : Nat) : Int) := by
  rw [Int.fmod_eq_emod_of_nonneg _ (Int.natCast_nonneg y)]; rfl
set_option tactic.hygienic false in
theorem fdivN (x y : Nat) : Int.fdiv (x : Int) (y : Int) = ((x / y : Nat) : Int) := by
  rw [Int.fdiv_eq_ediv_of_nonneg _ (Int.natCast_nonneg y)]; rfl
set_option tactic.hygienic false in
theorem b_mod {x y : Nat} {σ : Sto} (h : y ≠ 0) : binV .Mod (.int x) (.int y) σ = .ok (.int (x % y : Nat)) σ := by
  show (if (y : Int) = 0 then RE.bad else .ok (.int (Int.fmod x y)) σ) = _
  rw [if_neg (by lia), fmodN]
set_option tactic.hygienic false in
theorem b_div {x y : Nat} {σ : Sto} (h : y ≠ 0) (h' : y < 10 ^ 100) : binV .FloorDiv (.int x) (.int y) σ = .ok (.int (x / y : Nat)) σ := by
  show (if (y : Int) ≠ 0 ∧ (y : Int).natAbs < 10 ^ 100 then RE.ok (.int (Int.fdiv x y)) σ else .bad) = _
  rw [if_pos ⟨by lia, h'⟩, fdivN]

section
variable {P : Nat → Option Fn} {wf n : Nat} {σ : Sto}
end
end Mine

set_option autoImplicit false
set_option linter.unusedVariables false
namespace Mine
open PySem

section
variable {σ : Sto} {l : Nat} {xs : List V}
set_option tactic.hygienic false in
theorem b_len' (h : σ[l]? = some (.lst xs)) : bltV .len [.ref l] σ = .ok (.int xs.length) σ := by
  show ofOpt σ ((lenV (.ref l) σ).map V.int) = _
  unfold lenV; dsimp only; rw [h]; rfl
set_option tactic.hygienic false in
theorem sub_lst {k : Nat} {v : V} (h : σ[l]? = some (.lst xs)) (hv : xs[k]? = some v) : subV (.ref l) (.int k) σ = some v := by
  unfold subV; dsimp only; rw [h]; dsimp only; unfold idxV; rw [if_pos (Int.natCast_nonneg k)]; exact hv
set_option tactic.hygienic false in
theorem rng_nat (k : Nat) : rngL 0 (k : Int) = (List.range k).map fun (i : Nat) => V.int i := by
  unfold rngL
  rw [show ((k : Int) - 0).toNat = k by lia]
  exact List.map_congr_left fun i _ => by rw [Int.zero_add]
set_option tactic.hygienic false in
theorem range_get {k i v : Nat} (h : (List.range k)[i]? = some v) : i < k ∧ i = v := by
  obtain ⟨h1, h2⟩ := List.getElem?_eq_some_iff.mp h
  rw [List.getElem_range] at h2; rw [List.length_range] at h1
  exact ⟨h1, h2⟩
set_option tactic.hygienic false in
theorem b_range' {k : Nat} (h : k ≤ 1000000) : bltV .range [.int k] σ = .ok (.rng 0 k) σ := if_pos ⟨by decide, by decide, by lia, by lia⟩
end

noncomputable def best (ws : List Way) (a b : Nat) : Nat := (between ws a b).foldl max 0
structure RingOk (ws : List Way) (m : Nat) (r : List Nat) : Prop where
  ne : r ≠ []
  nd : r.Nodup
  lt : ∀ v ∈ r, v < m
  way : ∀ i, i < r.length → between ws (r.getD i 0) (r.getD ((i + 1) % r.length) 0) ≠ []
noncomputable def rtot (ws : List Way) (r : List Nat) : Nat → Nat
  | 0 => 0
  | k + 1 => rtot ws r k + best ws (r.getD k 0) (r.getD ((k + 1) % r.length) 0)

noncomputable def fMean : Fn := { ps := [0, 1], size := 11, body :=
  [S.forS [2] true (It.e (E.loc 1)) [S.expr ((E.loc 0).umeth 12 [E.loc 2])],
    S.ifS ((E.cmp CmpOp.Eq (E.blt BN.len [E.loc 1]) (E.int 0)).or (E.cmp CmpOp.Lt (E.blt BN.setLen [E.loc 1]) (E.blt BN.len [E.loc 1]))) [S.raise (xc 4)] [],
    S.asg 3 (E.int 0),
    S.forS [4] true (It.e (E.blt BN.range [E.blt BN.len [E.loc 1]]))
      [S.asg 5 ((E.loc 0).umeth 13 [(E.loc 1).sub (E.loc 4), (E.loc 1).sub (E.bin Operator.Mod (E.bin Operator.Add (E.loc 4) (E.int 1)) (E.blt BN.len [E.loc 1]))]),
        S.ifS (E.cmp CmpOp.Is (E.loc 5) E.none) [S.raise (xc 4)] [], S.asg 3 (E.bin Operator.Add (E.loc 3) (E.loc 5))],
    S.ret (E.call 1 [E.loc 3, E.blt BN.len [E.loc 1]])] }

noncomputable def natsV (r : List Nat) : List V := r.map fun (v : Nat) => V.int v
set_option tactic.hygienic false in
theorem natsV_get {r : List Nat} {k : Nat} (h : k < r.length) : (natsV r)[k]? = some (V.int (r.getD k 0 : Nat)) := by
  unfold natsV; rw [List.getElem?_map, List.getElem?_eq_getElem h, List.getD_eq_getElem?_getD, List.getElem?_eq_getElem h]; rfl
set_option tactic.hygienic false in
theorem natsV_len {r : List Nat} : (natsV r).length = r.length := by unfold natsV; rw [List.length_map]

structure Defs1 (P : Nat → Option Fn) : Prop where
  h0 : P 0 = some fCommon
  h1 : P 1 = some fLowest
  h2 : P 2 = some fMean
  h8 : P 8 = some fIsWhole
  h12 : P 12 = some fNeed
  h13 : P 13 = some fDelay

section
variable {P : Nat → Option Fn} {wf n : Nat} {σ : Sto}
end
end Mine

set_option autoImplicit false
set_option linter.unusedVariables false
namespace Mine
open PySem

noncomputable def fLedOn : Fn := { ps := [0], size := 3, body := [S.asg 1 ((E.loc 0).meth MN.index [E.blt BN.min [E.loc 0]]), S.ret (E.bin Operator.Add ((E.loc 0).slo (E.loc 1)) ((E.loc 0).shi (E.loc 1)))] }
noncomputable def ringWhile : S := S.whileS (E.cmp CmpOp.NotEq ((E.loc 0).sub ((E.loc 4).sub (E.int 1).neg)) (E.loc 1)) [S.expr ((E.loc 4).meth MN.append [(E.loc 0).sub ((E.loc 4).sub (E.int 1).neg)])]
noncomputable def fRingBehind : Fn := { ps := [0, 1, 2], size := 9, body :=
  [S.forS [3] true (It.e (E.blt BN.range [E.loc 2])) [S.asg 1 ((E.loc 0).sub (E.loc 1))], S.asg 4 (E.list [E.loc 1]), ringWhile, S.ret (E.call 3 [E.blt BN.revl [E.loc 4]])] }

set_option tactic.hygienic false in
theorem add_lst {σ : Sto} {l k : Nat} {xs ys : List V} (h1 : σ[l]? = some (.lst xs)) (h2 : σ[k]? = some (.lst ys)) (hz : xs.length + ys.length ≤ 16777216) : binV .Add (.ref l) (.ref k) σ = .ok (.ref σ.length) (σ ++ [.lst (xs ++ ys)]) := by
  show (match getL σ l with | some xs => (match getL σ k with | some ys => newL (xs ++ ys) σ | none => .bad) | none => .bad) = _
  rw [getL_some h1]
  show (match getL σ k with | some ys => newL (xs ++ ys) σ | none => .bad) = _
  rw [getL_some h2]
  exact newL_fits (by rw [List.length_append]; exact hz)
set_option tactic.hygienic false in
theorem set_new {σ : Sto} {o o' : AO} {τ : Sto} : (σ ++ o :: τ).set σ.length o' = σ ++ o' :: τ := by
  rw [List.set_append_right _ _ (Nat.le_refl _), Nat.sub_self]; rfl
set_option tactic.hygienic false in
theorem m_app {σ : Sto} {l : Nat} {xs : List V} {v : V} (h : xs.length < 16777216) : methV .append l xs [v] σ = .ok .none (setL σ l (xs ++ [v])) := if_pos h
section
variable {P : Nat → Option Fn} {wf n : Nat} {σ : Sto}
end
end Mine

set_option autoImplicit false
set_option linter.unusedVariables false
namespace Mine
open PySem

set_option tactic.hygienic false in
theorem ne_int {x y : Nat} {σ : Sto} (h : x ≠ y) : cmpV .NotEq (.int x) (.int y) σ = some true := congrArg some (show ((x : Int) != (y : Int)) = true by simp; lia)
section
variable {P : Nat → Option Fn} {wf n : Nat} {σ : Sto}
end
end Mine

set_option autoImplicit false
set_option linter.unusedVariables false
namespace Mine

set_option tactic.hygienic false in
theorem getD_lt {l : List Nat} {i : Nat} (h : i < l.length) : l.getD i 0 = l[i] := by rw [List.getD_eq_getElem?_getD, List.getElem?_eq_getElem h]; rfl
set_option tactic.hygienic false in
theorem getD_mem {l : List Nat} {i : Nat} (h : i < l.length) : l.getD i 0 ∈ l := by rw [getD_lt h]; exact List.getElem_mem h

set_option tactic.hygienic false in
theorem rot_perm {α : Type} {R : List α} {k : Nat} : (R.drop k ++ R.take k).Perm R := List.perm_append_comm.trans (by rw [List.take_append_drop])
end Mine

set_option autoImplicit false
set_option linter.unusedVariables false
namespace Mine
open PySem

noncomputable def slowInner : List S :=
  [S.asg 10 (E.bin Operator.Sub (E.bin Operator.Add ((E.loc 3).sub (E.loc 7)) (E.bin Operator.Mult (E.loc 2) (E.loc 9))) (E.loc 1)),
    S.ifS (E.cmp CmpOp.Lt ((E.loc 3).sub (E.loc 8)) (E.loc 10)) [S.asgI (E.loc 3) (E.loc 8) (E.loc 10), S.asgI (E.loc 4) (E.loc 8) (E.loc 7), S.asg 6 (E.loc 8)] []]
noncomputable def slowPass : List S := [S.asg 6 E.none, S.forS [7, 8, 9] false (It.e ((E.loc 0).attr 1)) slowInner, S.ifS (E.cmp CmpOp.Is (E.loc 6) E.none) [S.ret (E.tup [E.none, E.loc 3])] []]
noncomputable def fSlower : Fn := { ps := [0, 1, 2], size := 14, body :=
  [S.ifS ((E.cmp CmpOp.Lt (E.loc 1) (E.int 0)).or (E.cmp CmpOp.Lt (E.loc 2) (E.int 1))) [S.raise (xc 5)] [],
    S.asg 3 (E.bin Operator.Mult (E.list [E.int 0]) ((E.loc 0).attr 0)), S.asg 4 (E.bin Operator.Mult (E.list [E.int 0]) ((E.loc 0).attr 0)),
    S.forS [5] true (It.e (E.blt BN.range [E.bin Operator.Add ((E.loc 0).attr 0) (E.int 1)])) slowPass,
    S.ret (E.tup [E.call 4 [E.loc 4, E.loc 6, (E.loc 0).attr 0], E.none])] }

noncomputable def intsV (m : Nat) (S : Nat → Int) : List V := (List.range m).map fun v => V.int (S v)
section
variable {σ : Sto} {m : Nat} {S : Nat → Int} {B : Nat → Nat}
end

section
variable {P : Nat → Option Fn} {wf n : Nat} {σ : Sto} {l m num div : Nat} {ws : List Way}
end
end Mine

set_option autoImplicit false
set_option linter.unusedVariables false
namespace Mine
open PySem

set_option tactic.hygienic false in
theorem Done.turn {tg : List Nat} {one : Bool} {body : Fra → Sto → RS} {v : V} {fr fr1 : Fra} {σ : Sto} {I J : Fra → Sto → Prop} {Rt : V → Sto → Prop} (h : bindT tg one v fr = some fr1) (d : Done (body fr1 σ) I Rt) (hIJ : ∀ fr σ, I fr σ → J fr σ) : Turn tg one body v fr σ J Rt :=
  ⟨fr1, h, d.elim (fun ⟨f, s, e, i⟩ => .inl ⟨f, s, e, hIJ _ _ i⟩) fun ⟨w, f, s, e, i⟩ => .inr ⟨w, f, s, e, i⟩⟩

section
variable {P : Nat → Option Fn} {wf n : Nat} {σ : Sto} {l m num div : Nat} {ws : List Way}
end
end Mine

set_option autoImplicit false
set_option linter.unusedVariables false
namespace Mine
open PySem

set_option tactic.hygienic false in
theorem ring_pos {ws : List Way} {m : Nat} {r : List Nat} (R : RingOk ws m r) : 1 ≤ r.length := Nat.pos_of_ne_zero fun e => R.ne (List.length_eq_zero_iff.mp e)
noncomputable def outs (ws : List Way) (a : Nat) : List Nat := (ws.filter fun w => w.1 == a).map (·.2.1)
noncomputable def nx (ws : List Way) (a : Nat) : Nat := (outs ws a).headD 0
def Outs (ws : List Way) (m : Nat) : Prop := ∀ a, a < m → ∃ w ∈ ws, w.1 = a
section
variable {ws : List Way} {m : Nat}
end

noncomputable def anyBody : List S :=
  [S.asg 2 ((E.comp [1] true ((E.loc 0).attr 1) [E.cmp CmpOp.Eq ((E.loc 1).sub (E.int 0)) ((E.loc 2).sub (E.int 1).neg)] ((E.loc 1).sub (E.int 1)) [none, none, some 1]).sub (E.int 0)),
    S.ifS (E.cmp CmpOp.In (E.loc 2) (E.loc 1)) [S.ret (E.call 3 [(E.loc 1).slo ((E.loc 1).meth MN.index [E.loc 2])])] [],
    S.expr ((E.loc 1).meth MN.append [E.loc 2])]
noncomputable def fAnyRing : Fn := { ps := [0], size := 4, body := [S.asg 1 (E.list [E.int 0]), S.whileS (E.bool true) anyBody] }

section
variable {P : Nat → Option Fn} {wf n : Nat} {σ : Sto} {l m : Nat} {ws : List Way}
end
end Mine

set_option autoImplicit false
set_option linter.unusedVariables false
namespace Mine

inductive Walk (ws : List Way) (a : Nat) : Nat → Nat → Nat → Prop
  | nil : Walk ws a a 0 0
  | step {b c d n t : Nat} (h : Walk ws a b n t) (hw : (b, c, d) ∈ ws) : Walk ws a c (n + 1) (t + d)

structure MaxMean (ws : List Way) (N D : Nat) : Prop where
  pos : 1 ≤ D
  att : ∃ a n t, 1 ≤ n ∧ Walk ws a a n t ∧ N * n = D * t
  bound : ∀ a n t, Walk ws a a n t → D * t ≤ N * n

set_option tactic.hygienic false in
theorem best_mem {ws : List Way} {a b : Nat} (h : between ws a b ≠ []) : (a, b, best ws a b) ∈ ws := by
  have key : ∀ (l : List Nat) (x : Nat), l.foldl max x = x ∨ l.foldl max x ∈ l := by
    intro l
    induction l with
    | nil => intro x; exact .inl rfl
    | cons y l ih =>
      intro x
      rw [List.foldl_cons]
      rcases ih (max x y) with e | e
      · rw [e]
        by_cases hxy : x ≤ y
        · rw [Nat.max_eq_right hxy]; exact .inr (.head _)
        · rw [Nat.max_eq_left (by lia)]; exact .inl rfl
      · exact .inr (.tail _ e)
  have hm : best ws a b ∈ between ws a b := by
    unfold best
    cases q : between ws a b with
    | nil => exact absurd q h
    | cons x l =>
      rw [List.foldl_cons, Nat.zero_max]
      rcases key l x with e | e
      · rw [e]; exact .head _
      · exact .tail _ e
  obtain ⟨w, hw, e⟩ := List.mem_map.mp hm
  obtain ⟨h1, h2⟩ := List.mem_filter.mp hw
  obtain ⟨wa, wb, wd⟩ := w
  have h2 : wa = a ∧ wb = b := by simpa using h2
  rw [← e, ← h2.1, ← h2.2]; exact h1

section
variable {ws : List Way} {m : Nat}
set_option tactic.hygienic false in
theorem ring_walk {r : List Nat} (R : RingOk ws m r) : ∀ k, k ≤ r.length → Walk ws (r.getD 0 0) (r.getD (k % r.length) 0) k (rtot ws r k)
  | 0, _ => by rw [Nat.zero_mod]; exact .nil
  | k + 1, h => by
    have h1 := ring_walk R k (by lia)
    rw [Nat.mod_eq_of_lt (by lia)] at h1
    exact .step h1 (best_mem (R.way k (by lia)))
theorem walk_pot {N D : Nat} {S : Nat → Int} (hs : ∀ w ∈ ws, Settled N D S w) {a b n t : Nat} (h : Walk ws a b n t) : S a + (D : Int) * t - (N : Int) * n ≤ S b := by
  induction h with
  | nil => rw [Int.natCast_zero, Int.mul_zero, Int.mul_zero]; lia
  | step h hw ih =>
    rename_i b c d n t
    have h1 : S b + (D : Int) * d - N ≤ S c := hs _ hw
    rw [Int.natCast_add, Int.natCast_add, Int.mul_add, Int.mul_add, Int.natCast_one, Int.mul_one]
    lia
set_option tactic.hygienic false in
theorem settled_bound {N D : Nat} {S : Nat → Int} (hs : ∀ w ∈ ws, Settled N D S w) {a n t : Nat} (h : Walk ws a a n t) : D * t ≤ N * n := by
  have := walk_pot hs h
  have h2 : ((D * t : Nat) : Int) ≤ ((N * n : Nat) : Int) := by rw [Int.natCast_mul, Int.natCast_mul]; lia
  exact Int.ofNat_le.mp h2

set_option tactic.hygienic false in
theorem low_eq {t n g : Nat} (hg : g = Nat.gcd t n) (hn : 1 ≤ n) : t / g * n = n / g * t ∧ 1 ≤ n / g ∧ Nat.gcd (t / g) (n / g) = 1 ∧ t = g * (t / g) ∧ n = g * (n / g) := by
  subst hg
  have gp : 0 < Nat.gcd t n := Nat.gcd_pos_of_pos_right _ hn
  have d1 : t = Nat.gcd t n * (t / Nat.gcd t n) := (Nat.mul_div_cancel' (Nat.gcd_dvd_left _ _)).symm
  have d2 : n = Nat.gcd t n * (n / Nat.gcd t n) := (Nat.mul_div_cancel' (Nat.gcd_dvd_right _ _)).symm
  refine ⟨?_, ?_, Nat.Coprime.gcd_eq_one (Nat.coprime_div_gcd_div_gcd gp), d1, d2⟩
  · generalize Nat.gcd t n = g at *
    generalize t / g = x at *
    generalize n / g = y at *
    rw [d1, d2, ← Nat.mul_assoc, ← Nat.mul_assoc, Nat.mul_comm x g, Nat.mul_comm y g, Nat.mul_right_comm]
  · exact Nat.div_pos (Nat.gcd_le_right _ hn) gp
set_option tactic.hygienic false in
theorem max_of {r : List Nat} {S : Nat → Int} {N D : Nat} (R : RingOk ws m r) (hN : N = rtot ws r r.length / Nat.gcd (rtot ws r r.length) r.length) (hD : D = r.length / Nat.gcd (rtot ws r r.length) r.length) (hs : ∀ w ∈ ws, Settled N D S w) : MaxMean ws N D ∧ Nat.gcd N D = 1 := by
  obtain ⟨h1, h2, h3, _⟩ := low_eq (t := rtot ws r r.length) rfl (ring_pos R)
  rw [← hN, ← hD] at h1 h3
  rw [← hD] at h2
  have hw := ring_walk R r.length (Nat.le_refl _)
  rw [Nat.mod_self] at hw
  exact ⟨⟨h2, ⟨_, _, _, ring_pos R, hw, h1⟩, fun a n t h => settled_bound hs h⟩, h3⟩

set_option tactic.hygienic false in
theorem grows {t n t' n' a a' N D : Nat} (hg : N * n = D * t) (hD : 1 ≤ D) (hn : 1 ≤ n) (h : N * n' < D * t') (e : n * a = n' * a') (ha : 1 ≤ n * a) : t * a < t' * a' := by
  -- t/n < t'/n'
  have h1 : t * n' < t' * n := by
    apply Decidable.byContradiction
    intro hn1
    have h2 : t' * n ≤ t * n' := by lia
    have h3 : D * (t' * n) ≤ D * (t * n') := Nat.mul_le_mul_left _ h2
    have h4 : D * (t * n') = N * n' * n := by rw [← Nat.mul_assoc, ← hg, Nat.mul_right_comm]
    have h5 : N * n' * n < D * t' * n := Nat.mul_lt_mul_of_pos_right h hn
    rw [h4, ← Nat.mul_assoc] at h3
    lia
  have a1 : 1 ≤ a' := Nat.pos_of_ne_zero fun q => by rw [q, Nat.mul_zero] at e; lia
  have a0 : 1 ≤ a := Nat.pos_of_ne_zero fun q => by rw [q, Nat.mul_zero] at ha; lia
  have h6 : t * n' * (a * a') < t' * n * (a * a') := Nat.mul_lt_mul_of_pos_right h1 (Nat.mul_pos a0 a1)
  have e1 : t * n' * (a * a') = t * a * (n * a) := by rw [e, Nat.mul_comm a a', Nat.mul_assoc, Nat.mul_assoc, ← Nat.mul_assoc n', Nat.mul_comm _ a]
  have e2 : t' * n * (a * a') = t' * a' * (n * a) := by rw [Nat.mul_assoc, Nat.mul_assoc, ← Nat.mul_assoc n, Nat.mul_comm _ a']
  rw [e1, e2] at h6
  exact Nat.lt_of_mul_lt_mul_right h6

end
end Mine

set_option autoImplicit false
set_option linter.unusedVariables false
namespace Mine
open PySem

noncomputable def paceBody : List S :=
  [S.asgT [2, 3] (E.call 2 [E.loc 0, E.loc 1]), S.asg 4 (E.call 5 [E.loc 0, E.loc 2, E.loc 3]),
    S.ifS (E.cmp CmpOp.Is ((E.loc 4).sub (E.int 0)) E.none) [S.ret (E.tup [E.loc 2, E.loc 3, E.loc 1, (E.loc 4).sub (E.int 1)])] [],
    S.asg 1 ((E.loc 4).sub (E.int 0))]
noncomputable def fPace : Fn := { ps := [0], size := 8, body := [S.asg 1 (E.call 6 [E.loc 0]), S.whileS (E.bool true) paceBody] }

structure WebOk (m : Nat) (ws : List Way) : Prop where
  m1 : 1 ≤ m
  m2 : m ≤ 12
  hz : ws.length ≤ 60
  hm : ∀ w ∈ ws, w.1 < m ∧ w.2.1 < m
  hd : ∀ w ∈ ws, w.2.2 ≤ 9999
  hO : Outs ws m
structure Defs2 (P : Nat → Option Fn) : Prop extends Defs1 P where
  h3 : P 3 = some fLedOn
  h4 : P 4 = some fRingBehind
  h5 : P 5 = some fSlower
  h6 : P 6 = some fAnyRing
  h7 : P 7 = some fPace

structure PaceRes (σ : Sto) (m : Nat) (ws : List Way) (N D lr : Nat) (r : List Nat) (ls : Nat) (S : Nat → Int) (τ : Sto) : Prop where
  ring : (σ ++ τ)[lr]? = some (.lst (natsV r))
  start : (σ ++ τ)[ls]? = some (.lst (intsV m S))
  ok : RingOk ws m r
  min : ∀ x ∈ r, r.getD 0 0 ≤ x
  hN : N = rtot ws r r.length / Nat.gcd (rtot ws r r.length) r.length
  hD : D = r.length / Nat.gcd (rtot ws r r.length) r.length
  set : ∀ w ∈ ws, Settled N D S w
  fresh : σ.length ≤ lr ∧ σ.length ≤ ls
set_option tactic.hygienic false in
theorem PaceRes.max {σ : Sto} {m : Nat} {ws : List Way} {N D lr : Nat} {r : List Nat} {ls : Nat} {S : Nat → Int} {τ : Sto} (h : PaceRes σ m ws N D lr r ls S τ) : MaxMean ws N D ∧ Nat.gcd N D = 1 := max_of h.ok h.hN h.hD h.set

section
variable {P : Nat → Option Fn} {wf n : Nat} {σ : Sto} {l m : Nat} {ws : List Way}
noncomputable def far (ws : List Way) (r : List Nat) : Nat := rtot ws r r.length * (27720 / r.length)
end
end Mine

set_option autoImplicit false
set_option linter.unusedVariables false
namespace Mine
open PySem

set_option tactic.hygienic false in
theorem mapO_map {α β γ : Type} {f : β → Option γ} {g : α → β} {h : α → γ} : ∀ {l : List α}, (∀ a ∈ l, f (g a) = some (h a)) → mapO f (l.map g) = some (l.map h)
  | [], _ => rfl
  | a :: l, H => by rw [List.map_cons, List.map_cons, mapO, H a (.head _), mapO_map fun b hb => H b (.tail _ hb)]
set_option tactic.hygienic false in
theorem toD_lst {σ : Sto} {l n : Nat} {xs : List V} {ds : List PyData} (h : σ[l]? = some (.lst xs)) (hd : mapO (toD n σ) xs = some ds) : toD (n + 1) σ (.ref l) = some (.list ds) := by
  show (match getL σ l with | some vs => (mapO (toD n σ) vs).map PyData.list | none => none) = _
  rw [getL_some h]
  show (mapO (toD n σ) xs).map PyData.list = _
  rw [hd]; rfl
set_option tactic.hygienic false in
theorem eqv_nil {ds : List PyData} : PyData.eqv (.list ds) (.list []) = ds.isEmpty := by
  cases ds with
  | nil => rfl
  | cons d ds => rfl
set_option tactic.hygienic false in
theorem eqV_nil {σ : Sto} {l k : Nat} {xs : List V} {ds : List PyData} (h : σ[l]? = some (.lst xs)) (hd : mapO (toD 4 σ) xs = some ds) (hk : σ[k]? = some (.lst [])) : eqV σ (.ref l) (.ref k) = some ds.isEmpty := by
  unfold eqV
  rw [toD_lst h hd, toD_lst (ds := []) hk rfl]
  exact congrArg some eqv_nil
noncomputable def natsD (r : List Nat) : List PyData := r.map fun (v : Nat) => .int v
noncomputable def wayD (w : Way) : PyData := .tuple [.int w.1, .int w.2.1, .int w.2.2]
set_option tactic.hygienic false in
theorem natsD_of {σ : Sto} {r : List Nat} : mapO (toD 4 σ) (natsV r) = some (natsD r) := mapO_map fun _ _ => rfl
set_option tactic.hygienic false in
theorem wayD_of {σ : Sto} {ws : List Way} : mapO (toD 4 σ) (ws.map wayV) = some (ws.map wayD) := mapO_map fun _ _ => rfl

noncomputable def comeIf : S := S.ifS ((E.cmp CmpOp.Eq ((E.loc 5).sub (E.int 0)) (E.loc 4)).and (E.cmp CmpOp.NotIn ((E.loc 5).sub (E.int 1)) (E.loc 2)))
  [S.asgI (E.loc 2) ((E.loc 5).sub (E.int 1)) (E.bool true), S.expr ((E.loc 3).meth MN.append [(E.loc 5).sub (E.int 1)])] []
noncomputable def comeBody : List S := [S.asg 4 ((E.loc 3).meth MN.pop []), S.forS [5] true (It.e (E.loc 1)) [comeIf]]
noncomputable def fComeTo : Fn := { ps := [0, 1], size := 6, body :=
  [S.asg 2 ((E.int 0).dict1 (E.bool true)), S.asg 3 (E.list [E.int 0]), S.whileS (E.cmp CmpOp.NotEq (E.loc 3) (E.list [])) comeBody, S.ret (E.loc 2)] }

noncomputable def keysV (F : List Nat) : List (Int × V) := F.map fun (v : Nat) => ((v : Int), V.bool true)
set_option tactic.hygienic false in
theorem keys_any {F : List Nat} {x : Nat} : ((keysV F).any fun e => e.1 == (x : Int)) = decide (x ∈ F) := by
  rw [Bool.eq_iff_iff, List.any_eq_true, decide_eq_true_eq]
  constructor
  · rintro ⟨e, he, q⟩
    obtain ⟨v, hv, rfl⟩ := List.mem_map.mp he
    have : (v : Int) = (x : Int) := eq_of_beq q
    rwa [← Int.ofNat.inj this]
  · intro h
    exact ⟨_, List.mem_map.mpr ⟨x, h, rfl⟩, beq_self_eq_true _⟩
set_option tactic.hygienic false in
theorem keys_put {x : Nat} : ∀ {F : List Nat}, x ∉ F → putI (x : Int) (.bool true) (keysV F) = keysV (F ++ [x])
  | [], _ => rfl
  | v :: F, h => by
    rw [List.mem_cons, not_or] at h
    show (if ((v : Int) == (x : Int)) then ((v : Int), V.bool true) :: keysV F else ((v : Int), V.bool true) :: putI (x : Int) (.bool true) (keysV F)) = _
    rw [nat_beq, if_neg (by simpa using Ne.symm h.1), keys_put h.2]; rfl

noncomputable def comeS (σ : Sto) (F Q : List Nat) (τ : Sto) : Sto := σ ++ .dI (keysV F) :: .lst (natsV Q) :: τ
section
variable {σ τ : Sto} {F Q : List Nat}
set_option tactic.hygienic false in
theorem come_d : (comeS σ F Q τ)[σ.length]? = some (.dI (keysV F)) := ap_new
set_option tactic.hygienic false in
theorem come_q : (comeS σ F Q τ)[σ.length + 1]? = some (.lst (natsV Q)) := by unfold comeS; rw [List.getElem?_append_right (by lia), show σ.length + 1 - σ.length = 1 by lia]; rfl
set_option tactic.hygienic false in
theorem come_setd {x : Nat} (h : x ∉ F) (hl : F.length ≤ 1000) : setIdx (.ref σ.length) (.int x) (.bool true) (comeS σ F Q τ) = some (comeS σ (F ++ [x]) Q τ) := by
  unfold setIdx; dsimp only; rw [come_d]; dsimp only
  rw [if_pos (by unfold keysV; rw [List.length_map]; lia), keys_put h]
  unfold comeS
  rw [set_new]
set_option tactic.hygienic false in
theorem come_setq {Q' : List Nat} : setL (comeS σ F Q τ) (σ.length + 1) (natsV Q') = comeS σ F Q' τ := by
  unfold setL comeS
  rw [List.set_append_right _ _ (by lia), show σ.length + 1 - σ.length = 1 by lia]; rfl
set_option tactic.hygienic false in
theorem come_notin {x : Nat} : cmpV .NotIn (.int x) (.ref σ.length) (comeS σ F Q τ) = some (decide (x ∉ F)) := by
  show notInV (comeS σ F Q τ) (.int x) (.ref σ.length) = _
  unfold notInV; dsimp only; rw [come_d]; dsimp only
  rw [keys_any]
  refine congrArg some ?_
  by_cases h : x ∈ F <;> simp [h]
set_option tactic.hygienic false in
theorem come_app {o : AO} : comeS σ F Q τ ++ [o] = comeS σ F Q (τ ++ [o]) := by unfold comeS; rw [List.append_assoc]; rfl
end

def Least (ws : List Way) (v : Nat) : Prop := ∀ G : Nat → Prop, G 0 → (∀ w ∈ ws, G w.1 → G w.2.1) → G v
structure Come (m : Nat) (F Q : List Nat) (ex : Nat → List Way) (ws : List Way) : Prop where
  nd : F.Nodup
  lt : ∀ v ∈ F, v < m
  mn : ∀ v ∈ F, Least ws v
  zero : 0 ∈ F
  sub : ∀ v ∈ Q, v ∈ F
  cl : ∀ w ∈ ws, w.1 ∈ F → w.1 ∉ Q → w ∉ ex w.1 → w.2.1 ∈ F

section
variable {P : Nat → Option Fn} {wf n : Nat} {σ : Sto} {lw m : Nat} {ws : List Way}
noncomputable def comeF (σ : Sto) (m lw : Nat) (x4 x5 : Option V) : Fra := [some (.int m), some (.ref lw), some (.ref σ.length), some (.ref (σ.length + 1)), x4, x5]
noncomputable def after (ws : List Way) (h i : Nat) (v : Nat) : List Way := if v = h then ws.drop i else []

inductive ComeI (σ : Sto) (m lw : Nat) (ws : List Way) (h c i : Nat) : Fra → Sto → Prop
  | mk (F Q : List Nat) (τ : Sto) (x5 : Option V) (C : Come m F Q (after ws h i) ws) (hF : h ∈ F) (hc : Q.length + c = F.length) : ComeI σ m lw ws h c i (comeF σ m lw (some (.int h)) x5) (comeS σ F Q τ)
theorem come_turn {call : Nat → List V → Sto → RE} {h i c : Nat} {w : Way} {F Q : List Nat} {τ : Sto} {x5 : Option V} (hm : ∀ w ∈ ws, w.1 < m ∧ w.2.1 < m) (m2 : m ≤ 12) (hw : ws[i]? = some w) (C : Come m F Q (after ws h i) ws) (hF : h ∈ F) (hc : Q.length + c = F.length) :
    Turn [5] true (evSs call wf [comeIf]) (wayV w) (comeF σ m lw (some (.int h)) x5) (comeS σ F Q τ)
      (ComeI σ m lw ws h c (i + 1)) (fun _ _ => False) := by
  have hmem := List.mem_of_getElem? hw
  have hlen := nodup_lt m F C.nd C.lt
  obtain ⟨a, b, d⟩ := w
  have hb : b < m := (hm _ hmem).2
  have hdrop : ws.drop i = (a, b, d) :: ws.drop (i + 1) := by
    obtain ⟨h1, h2⟩ := List.getElem?_eq_some_iff.mp hw
    rw [List.drop_eq_getElem_cons h1, h2]
  have next : ∀ u : Way, u ∉ after ws h (i + 1) u.1 → u ≠ (a, b, d) → u ∉ after ws h i u.1 := fun u hu hne => by
    unfold after at hu ⊢
    split at hu
    · rename_i e
      rw [if_pos e, hdrop, List.mem_cons, not_or]; exact ⟨hne, hu⟩
    · rename_i e
      rw [if_neg e]; exact hu
  have test1 : evE call (E.cmp CmpOp.Eq ((E.loc 5).sub (E.int 0)) (E.loc 4)) (comeF σ m lw (some (.int h)) (some (wayV (a, b, d)))) (comeS σ F Q τ) = .ok (.bool (a == h)) (comeS σ F Q τ) := e_cmp (e_sub (e_loc rfl) e_int rfl) (e_loc rfl) (congrArg some (nat_beq a h))
  refine ⟨comeF σ m lw (some (.int h)) (some (wayV (a, b, d))), rfl, .inl ?_⟩
  by_cases hn : a = h ∧ b ∉ F
  · obtain ⟨rfl, hn⟩ := hn
    refine ⟨_, _, s_if_t (e_and_t (test1.trans (by rw [beq_self_eq_true])) (e_cmp (p := true) (e_sub (e_loc rfl) e_int rfl) (e_loc rfl) (come_notin.trans (congrArg some (decide_eq_true hn)))))
      (s_asgI' e_bool (e_loc rfl) (e_sub (e_loc rfl) e_int rfl) (come_setd hn (by lia)) (s_expr' (e_meth (e_loc rfl) (getL_some come_q) (es_cons (e_sub (e_loc rfl) e_int rfl) es_nil) (getL_some come_q) (m_app ?_)) (?_ : _ = RS.ok Fl.next (comeF σ m lw (some (.int a)) (some (wayV (a, b, d)))) (comeS σ (F ++ [b]) (Q ++ [b]) τ)))) s_nil, F ++ [b], Q ++ [b], τ, some (wayV (a, b, d)), ⟨?_, ?_, ?_, ?_, ?_, ?_⟩, List.mem_append_left _ hF, ?_⟩
    · rw [natsV_len]
      lia
    · rw [show natsV Q ++ [V.int (b : Nat)] = natsV (Q ++ [b]) by unfold natsV; rw [List.map_append]; rfl, come_setq]; exact s_nil
    · rw [List.nodup_append]
      exact ⟨C.nd, by simp, fun x hx y hy e => hn (by rw [← List.mem_singleton.mp hy, ← e]; exact hx)⟩
    · intro v hv
      rcases List.mem_append.mp hv with hv | hv
      · exact C.lt v hv
      · rw [List.mem_singleton.mp hv]; exact hb
    · intro v hv
      rcases List.mem_append.mp hv with hv | hv
      · exact C.mn v hv
      · rw [List.mem_singleton.mp hv]; exact fun G g0 gs => gs _ hmem (C.mn a hF G g0 gs)
    · exact List.mem_append_left _ C.zero
    · intro v hv
      rcases List.mem_append.mp hv with hv | hv
      · exact List.mem_append_left _ (C.sub v hv)
      · exact List.mem_append_right _ hv
    · intro u hu h1 h2 h3
      by_cases e : u = (a, b, d)
      · rw [e]; exact List.mem_append_right _ (.head _)
      · rw [List.mem_append, not_or] at h2
        rcases List.mem_append.mp h1 with h1 | h1
        · exact List.mem_append_left _ (C.cl u hu h1 h2.1 (next u h3 e))
        · exact absurd h1 h2.2
    · rw [List.length_append, List.length_append]
      show Q.length + 1 + c = F.length + 1
      lia
  · refine ⟨_, _, s_skip ((e_and (p := a == h) (q := decide (b ∉ F)) test1 fun _ => e_cmp (e_sub (e_loc rfl) e_int rfl) (e_loc rfl) come_notin).trans ?_) s_nil, F, Q, τ, some (wayV (a, b, d)), ⟨C.nd, C.lt, C.mn, C.zero, C.sub, fun u hu h1 h2 h3 => ?_⟩, hF, hc⟩
    · have : (a == h && decide (b ∉ F)) = false := by
        rw [Bool.eq_false_iff]
        intro q
        rw [Bool.and_eq_true, beq_iff_eq, decide_eq_true_eq] at q
        exact hn q
      rw [this]
    · by_cases e : u = (a, b, d)
      · subst e
        by_cases ha : a = h
        · exact Decidable.byContradiction fun hb => hn ⟨ha, hb⟩
        · exact C.cl _ hu h1 h2 (by unfold after; rw [if_neg ha]; exact fun q => nomatch q)
      · exact C.cl u hu h1 h2 (next u h3 e)
end
end Mine

set_option autoImplicit false
set_option linter.unusedVariables false
namespace Mine
open PySem

def Reach (ws : List Way) (a b : Nat) : Prop := ∃ n t, Walk ws a b n t
section
variable {P : Nat → Option Fn} {wf n : Nat} {σ : Sto} {lw m : Nat} {ws : List Way}
set_option tactic.hygienic false in
theorem come_om {a b c q m d : Nat} (hd : a + 1 + m ≤ d + 1 + b) (hq : a + 1 ≤ b) (h2 : q + (b - a) = c) : q + m ≤ d + c ∧ q ≤ c := by lia
set_option tactic.hygienic false in
theorem come_om0 {q m f : Nat} (hd : q + m ≤ 0 + f) (hl : f ≤ m) : q = 0 := by lia
set_option tactic.hygienic false in
theorem come_loop {call : Nat → List V → Sto → RE} (hm : ∀ w ∈ ws, w.1 < m ∧ w.2.1 < m) (m2 : m ≤ 12) (hlw : σ[lw]? = some (.lst (ws.map wayV))) : ∀ (d f : Nat) (F Q : List Nat) (τ : Sto) (x4 x5 : Option V), Q.length + m ≤ d + F.length → d < f → Q.length ≤ F.length → Come m F Q (fun _ => []) ws →
    ∃ F' τ' y4 y5, whileL (evE call (E.cmp CmpOp.NotEq (E.loc 3) (E.list []))) (evSs call wf comeBody) f (comeF σ m lw x4 x5) (comeS σ F Q τ) = .ok .next (comeF σ m lw y4 y5) (comeS σ F' [] τ') ∧ Come m F' [] (fun _ => []) ws := by
  have ct : ∀ (F Q : List Nat) (τ : Sto) (x4 x5 : Option V), evE call (E.cmp CmpOp.NotEq (E.loc 3) (E.list [])) (comeF σ m lw x4 x5) (comeS σ F Q τ) = .ok (.bool (!(natsD Q).isEmpty)) (comeS σ F Q (τ ++ [.lst []])) := fun F Q τ x4 x5 => by
    refine e_cmp (e_loc rfl) (e_list es_nil (newL_fits (by decide : 0 ≤ 16777216))) ?_ |>.trans (by rw [come_app])
    show (eqV _ _ _).map _ = _
    rw [eqV_nil (ap come_q) natsD_of ap_new]; rfl
  have cf : ∀ (F : List Nat) (τ : Sto) (x4 x5 : Option V), evE call (E.cmp CmpOp.NotEq (E.loc 3) (E.list [])) (comeF σ m lw x4 x5) (comeS σ F [] τ) = .ok (.bool false) (comeS σ F [] (τ ++ [.lst []])) := fun F τ x4 x5 => (ct F [] τ x4 x5).trans rfl
  intro d
  induction d with
  | zero =>
    intro f F Q τ x4 x5 hd hf hq C
    obtain ⟨f, rfl⟩ := Nat.exists_eq_succ_of_ne_zero (Nat.ne_zero_of_lt hf)
    have : Q = [] := List.length_eq_zero_iff.mp (come_om0 hd (nodup_lt m F C.nd C.lt))
    subst this
    exact ⟨F, τ ++ [.lst []], x4, x5, wh_end (cf F τ x4 x5), C⟩
  | succ d ih =>
    intro f F Q τ x4 x5 hd hf hq C
    obtain ⟨f, rfl⟩ := Nat.exists_eq_succ_of_ne_zero (Nat.ne_zero_of_lt hf)
    rcases List.eq_nil_or_concat Q with rfl | ⟨Q0, h, rfl⟩
    · exact ⟨F, τ ++ [.lst []], x4, x5, wh_end (cf F τ x4 x5), C⟩
    · rw [List.concat_eq_append] at *
      have hQ : (Q0 ++ [h]).length = Q0.length + 1 := by rw [List.length_append]; rfl
      rw [hQ] at hd hq
      have hF : h ∈ F := C.sub h (List.mem_append_right _ (.head _))
      have C0 : Come m F Q0 (after ws h 0) ws := ⟨C.nd, C.lt, C.mn, C.zero, fun v hv => C.sub v (List.mem_append_left _ hv), fun w hw h1 h2 h3 => by
        by_cases e : w.1 = h
        · exact absurd (by unfold after; rw [if_pos e]; exact hw) h3
        · exact C.cl w hw h1 (fun q => (List.mem_append.mp q).elim h2 fun q => e (List.mem_singleton.mp q)) fun q => nomatch q⟩
      have lp := s_forL (call := call) (wf := wf) (tg := [5]) (one := true) (ws := ws) (g := wayV) (it := E.loc 1) (bs := [comeIf]) (fr := comeF σ m lw (some (.int h)) x5) (σ := comeS σ F Q0 (τ ++ [.lst []]))
        (ComeI σ m lw ws h (F.length - Q0.length)) (fun _ _ => False)
        (e_loc rfl) (by rintro i _ _ ⟨F', Q', τ', x5, _, _, _⟩; exact getL_some (ap hlw))
        (by
          rintro i w _ _ hw ⟨F', Q', τ', x5, C', h1, h2⟩
          exact come_turn hm m2 hw C' h1 h2) ⟨F, Q0, _, x5, C0, hF, Nat.add_sub_cancel' (Nat.le_of_lt hq)⟩
      refine cps fun G0 k0 => ?_
      obtain ⟨fr1, σ1, e1, F', Q', τ', y5, C', h1, h2⟩ := lp.next
      have C1 : Come m F' Q' (fun _ => []) ws := ⟨C'.nd, C'.lt, C'.mn, C'.zero, C'.sub, fun w hw a1 a2 a3 => C'.cl w hw a1 a2 (by unfold after; rw [List.drop_length, ite_self]; exact a3)⟩
      have om := come_om hd hq h2
      obtain ⟨F2, τ2, z4, z5, e2, C2⟩ := ih f F' Q' τ' (some (.int h)) y5 om.1 (Nat.lt_of_succ_lt_succ hf) om.2 C1
      refine k0 ⟨F2, τ2, z4, z5, wh_step (σ1 := comeS σ F (Q0 ++ [h]) (τ ++ [.lst []])) ((ct F (Q0 ++ [h]) τ x4 x5).trans ?_) (s_asg' (e_meth (e_loc rfl) (getL_some come_q) es_nil (getL_some come_q) (?_ : methV .pop _ _ _ _ = .ok (.int h) (comeS σ F Q0 (τ ++ [.lst []])))) (by decide : 4 < 6) (s_cons e1 s_nil)) e2, C2⟩
      · congr 2
        cases Q0 <;> rfl
      · have e3 : natsV (Q0 ++ [h]) = natsV Q0 ++ [V.int (h : Nat)] := by unfold natsV; rw [List.map_append]; rfl
        show (match (natsV (Q0 ++ [h])).getLast? with | some v => RE.ok v (setL _ _ (natsV (Q0 ++ [h])).dropLast) | none => .bad) = _
        rw [e3, List.getLast?_concat, List.dropLast_concat]
        show RE.ok _ (setL _ _ (natsV Q0)) = _
        rw [come_setq]

set_option tactic.hygienic false in
theorem come_all {F : List Nat} (C : Come m F [] (fun _ => []) ws) (hR : ∀ v, v < m → Reach ws 0 v) : F.length = m := by
  have h1 := nodup_lt m F C.nd C.lt
  have h2 : ∀ {b n t : Nat}, Walk ws 0 b n t → b ∈ F := by
    intro b n t h
    induction h with
    | nil => exact C.zero
    | step h hw ih => exact C.cl _ hw ih (fun q => nomatch q) fun q => nomatch q
  have h3 : (List.range m).length ≤ F.length := (List.nodup_range).length_le_of_subset fun v hv => by
    obtain ⟨n, t, hw⟩ := hR v (List.mem_range.mp hv)
    exact h2 hw
  rw [List.length_range] at h3
  lia
set_option tactic.hygienic false in
theorem come_to_F (h9 : P 9 = some fComeTo) (hlw : σ[lw]? = some (.lst (ws.map wayV))) (hm : ∀ w ∈ ws, w.1 < m ∧ w.2.1 < m) (m1 : 1 ≤ m) (m2 : m ≤ 12) (hw : 14 ≤ wf) :
    ∃ τ F, Come m F [] (fun _ => []) ws ∧ evFn P wf (n + 1) 9 [.int m, .ref lw] σ = .ok (.ref σ.length) (σ ++ τ) ∧ bltV .len [.ref σ.length] (σ ++ τ) = .ok (.int F.length) (σ ++ τ) := by
  obtain ⟨F, τ, y4, y5, e1, C⟩ := come_loop (call := evFn P wf n) (wf := wf) hm m2 hlw (m + 1) wf [0] [0] [] none none (by lia) (by lia) (Nat.le_refl _) ⟨by simp, fun v hv => by rw [List.mem_singleton.mp hv]; exact m1, fun v hv => by rw [List.mem_singleton.mp hv]; exact fun G g0 _ => g0, .head _, fun v hv => hv, fun w hw h1 h2 => absurd h1 h2⟩
  refine ⟨_, F, C, f_ret h9 rfl (s_asg' (e_dict1 e_int e_bool) (by decide : 2 < 6) (s_asg' (e_list (es_cons e_int es_nil) (newL_fits (by decide : 1 ≤ 16777216))) (by decide : 3 < 6) (s_cons (?_ : evS _ _ _ _ _ = .ok .next (comeF σ m lw y4 y5) (comeS σ F [] τ)) (s_ret' (e_loc rfl))))), ?_⟩
  · have e2 : σ ++ [AO.dI [(0, V.bool true)]] ++ [AO.lst [V.int 0]] = comeS σ [0] [0] [] := by rw [List.append_assoc]; rfl
    have e3 : (σ ++ [AO.dI [(0, V.bool true)]]).length = σ.length + 1 := by rw [List.length_append]; rfl
    rw [e2, e3]
    exact e1
  · show ofOpt _ ((lenV (.ref σ.length) _).map V.int) = _
    unfold lenV; dsimp only; rw [ap_new]; dsimp only
    show RE.ok (.int ((keysV F).length : Nat)) _ = _
    unfold keysV
    rw [List.length_map]
set_option tactic.hygienic false in
theorem come_to_ok (h9 : P 9 = some fComeTo) (hlw : σ[lw]? = some (.lst (ws.map wayV))) (hm : ∀ w ∈ ws, w.1 < m ∧ w.2.1 < m) (m1 : 1 ≤ m) (m2 : m ≤ 12) (hR : ∀ v, v < m → Reach ws 0 v) (hw : 14 ≤ wf) :
    ∃ τ, evFn P wf (n + 1) 9 [.int m, .ref lw] σ = .ok (.ref σ.length) (σ ++ τ) ∧ bltV .len [.ref σ.length] (σ ++ τ) = .ok (.int m) (σ ++ τ) := by
  obtain ⟨τ, F, C, h1, h2⟩ := come_to_F (n := n) h9 hlw hm m1 m2 hw
  rw [come_all C hR] at h2
  exact ⟨τ, h1, h2⟩
end
end Mine

set_option autoImplicit false
set_option linter.unusedVariables false
namespace Mine
open PySem

noncomputable def flipW (w : Way) : Way := (w.2.1, w.1, w.2.2)
noncomputable def flip (ws : List Way) : List Way := ws.map flipW
set_option tactic.hygienic false in
theorem mem_flip {ws : List Way} {a b d : Nat} : (a, b, d) ∈ flip ws ↔ (b, a, d) ∈ ws := by
  constructor
  · intro h
    obtain ⟨⟨x, y, z⟩, hw, e⟩ := List.mem_map.mp h
    unfold flipW at e
    cases e
    exact hw
  · exact fun h => List.mem_map.mpr ⟨_, h, rfl⟩
set_option tactic.hygienic false in
theorem Walk.app {ws : List Way} {a b c n t n' t' : Nat} (h : Walk ws a b n t) (h' : Walk ws b c n' t') : Walk ws a c (n + n') (t + t') := by
  induction h' with
  | nil => exact h
  | step _ hw ih => rw [← Nat.add_assoc t]; exact .step ih hw
set_option tactic.hygienic false in
theorem Walk.one {ws : List Way} {a b d : Nat} (h : (a, b, d) ∈ ws) : Walk ws a b 1 d := by
  have := Walk.step (Walk.nil (ws := ws) (a := a)) h
  rwa [Nat.zero_add, Nat.zero_add] at this
set_option tactic.hygienic false in
theorem Walk.flip {ws : List Way} {a b n t : Nat} (h : Walk ws a b n t) : Walk (Mine.flip ws) b a n t := by
  induction h with
  | nil => exact .nil
  | @step b c d n t _ hw ih =>
    have := (Walk.one (mem_flip.mpr hw)).app ih
    rwa [Nat.add_comm 1, Nat.add_comm d t] at this
set_option tactic.hygienic false in
theorem flip_flip {ws : List Way} : flip (flip ws) = ws := by
  unfold flip
  rw [List.map_map]
  exact List.map_id _

set_option tactic.hygienic false in
theorem Reach.trans {ws : List Way} {a b c : Nat} (h : Reach ws a b) (h' : Reach ws b c) : Reach ws a c :=
  let ⟨_, _, p⟩ := h; let ⟨_, _, q⟩ := h'; ⟨_, _, p.app q⟩
set_option tactic.hygienic false in
theorem Reach.one {ws : List Way} {a b d : Nat} (h : (a, b, d) ∈ ws) : Reach ws a b := ⟨_, _, Walk.one h⟩
set_option tactic.hygienic false in
theorem Reach.self {ws : List Way} {a : Nat} : Reach ws a a := ⟨_, _, Walk.nil⟩
set_option tactic.hygienic false in
theorem Reach.flip {ws : List Way} {a b : Nat} (h : Reach ws a b) : Reach (Mine.flip ws) b a := let ⟨_, _, p⟩ := h; ⟨_, _, p.flip⟩

structure WebGood (m : Nat) (ws : List Way) : Prop where
  m1 : 1 ≤ m
  m2 : m ≤ 12
  hz : ws.length ≤ 60
  hm : ∀ w ∈ ws, w.1 < m ∧ w.2.1 < m
  hd : ∀ w ∈ ws, w.2.2 ≤ 9999
  sc : ∀ a b, a < m → b < m → Reach ws a b
  ne : ws ≠ []
set_option tactic.hygienic false in
theorem out_of {ws : List Way} {a b n t : Nat} (h : Walk ws a b n t) : a = b ∨ ∃ w ∈ ws, w.1 = a := by
  induction h with
  | nil => exact .inl rfl
  | step _ hw ih =>
    rcases ih with rfl | ih
    · exact .inr ⟨_, hw, rfl⟩
    · exact .inr ih
set_option tactic.hygienic false in
theorem WebGood.ok {m : Nat} {ws : List Way} (G : WebGood m ws) : WebOk m ws := by
  refine ⟨G.m1, G.m2, G.hz, G.hm, G.hd, fun a ha => ?_⟩
  by_cases h : m = 1
  · cases q : ws with
    | nil => exact absurd q G.ne
    | cons w r =>
      refine ⟨w, .head _, ?_⟩
      have := (G.hm w (by rw [q]; exact .head _)).1
      lia
  · obtain ⟨b, hb, hab⟩ : ∃ b, b < m ∧ a ≠ b := by
      by_cases h0 : a = 0
      · exact ⟨1, by have := G.m1; lia, by lia⟩
      · exact ⟨0, G.m1, h0⟩
    obtain ⟨n, t, hw⟩ := G.sc a b ha hb
    rcases out_of hw with e | e
    · exact absurd e hab
    · exact e
set_option tactic.hygienic false in
theorem WebGood.flip {m : Nat} {ws : List Way} (G : WebGood m ws) : WebGood m (Mine.flip ws) := by
  refine ⟨G.m1, G.m2, ?_, fun w hw => ?_, fun w hw => ?_, fun a b ha hb => (G.sc b a hb ha).flip, fun q => ?_⟩
  · unfold Mine.flip; rw [List.length_map]; exact G.hz
  · obtain ⟨u, hu, rfl⟩ := List.mem_map.mp hw
    exact ⟨(G.hm u hu).2, (G.hm u hu).1⟩
  · obtain ⟨u, hu, rfl⟩ := List.mem_map.mp hw
    exact G.hd u hu
  · exact G.ne (List.map_eq_nil_iff.mp q)

noncomputable def fIsJoined : Fn := { ps := [0, 1], size := 5, body :=
  [S.ifS (E.cmp CmpOp.Eq (E.loc 1) (E.list [])) [S.ret (E.bool false)] [],
    S.asg 2 (E.comp [1] true (E.loc 1) [] (E.tup [(E.loc 1).sub (E.int 1), (E.loc 1).sub (E.int 0), (E.loc 1).sub (E.int 2)]) [none, none]),
    S.ret ((E.cmp CmpOp.Eq (E.blt BN.len [E.call 9 [E.loc 0, E.loc 1]]) (E.loc 0)).and (E.cmp CmpOp.Eq (E.blt BN.len [E.call 9 [E.loc 0, E.loc 2]]) (E.loc 0)))] }
noncomputable def fInit : Fn := { ps := [0, 1, 2], size := 15, body :=
  [S.ifS (E.call 8 [E.loc 1, E.int 1, E.int 12]).not [S.raise (xc 0)] [],
    S.ifS (E.cmp CmpOp.Gt (E.blt BN.len [E.loc 2]) (E.int 60)) [S.raise (xc 0)] [],
    S.forS [3] true (It.e (E.loc 2)) [S.ifS ((E.call 8 [(E.loc 3).sub (E.int 0), E.int 0, E.bin Operator.Sub (E.loc 1) (E.int 1)]).not.or (E.call 8 [(E.loc 3).sub (E.int 1), E.int 0, E.bin Operator.Sub (E.loc 1) (E.int 1)]).not) [S.raise (xc 1)] []],
    S.forS [3] true (It.e (E.loc 2)) [S.ifS (E.call 8 [(E.loc 3).sub (E.int 2), E.int 0, E.int 9999]).not [S.raise (xc 2)] []],
    S.ifS (E.call 10 [E.loc 1, E.loc 2]).not [S.raise (xc 3)] [], S.asgA (E.loc 0) 0 (E.loc 1), S.asgA (E.loc 0) 1 (E.blt BN.list [E.loc 2])] }
noncomputable def fTurned : Fn := { ps := [0], size := 2, body :=
  [S.ret (E.mk 11 [(E.loc 0).attr 0, E.comp [1] true ((E.loc 0).attr 1) [] (E.tup [(E.loc 1).sub (E.int 1), (E.loc 1).sub (E.int 0), (E.loc 1).sub (E.int 2)]) [none, none]])] }

section
variable {P : Nat → Option Fn} {wf n : Nat} {σ σ1 : Sto} {lw m : Nat} {ws : List Way}
set_option tactic.hygienic false in
theorem e_flip {call : Nat → List V → Sto → RE} {e : E} {fr : Fra} (h : evE call e fr σ = .ok (.ref lw) σ1) (hlw : σ1[lw]? = some (.lst (ws.map wayV))) (hz : ws.length ≤ 60) :
    evE call (E.comp [1] true e [] (E.tup [(E.loc 1).sub (E.int 1), (E.loc 1).sub (E.int 0), (E.loc 1).sub (E.int 2)]) [none, none]) fr σ = .ok (.ref σ1.length) (σ1 ++ [.lst ((flip ws).map wayV)]) := by
  refine e_comp (ws := ws) (g := wayV) (p := fun _ => true) (f := fun w => wayV (flipW w)) h (getL_some hlw) (fun w hw => ⟨_, rfl, t_nil, fun _ => e_tup (es_cons (e_sub (e_loc rfl) e_int rfl) (es_cons (e_sub (e_loc rfl) e_int rfl) (es_cons (e_sub (e_loc rfl) e_int rfl) es_nil))) (by decide : 3 ≤ 1000)⟩) ?_
  rw [List.filter_eq_self.mpr (fun _ _ => rfl), show (ws.map fun w => wayV (flipW w)) = (flip ws).map wayV by unfold flip; rw [List.map_map]; rfl]
  exact newL_fits (by unfold flip; rw [List.length_map, List.length_map]; lia)

set_option tactic.hygienic false in
theorem is_joined_ok (h9 : P 9 = some fComeTo) (h10 : P 10 = some fIsJoined) (hlw : σ[lw]? = some (.lst (ws.map wayV))) (G : WebGood m ws) (hw : 14 ≤ wf) : ∃ τ, evFn P wf (n + 2) 10 [.int m, .ref lw] σ = .ok (.bool true) (σ ++ τ) := by
  have F := G.flip
  obtain ⟨τ1, a1, a2⟩ := come_to_ok (wf := wf) (n := n) (σ := σ ++ [.lst []] ++ [.lst ((flip ws).map wayV)]) h9 (ap (ap hlw)) G.hm G.m1 G.m2 (fun v hv => G.sc 0 v G.m1 hv) hw
  obtain ⟨τ2, b1, b2⟩ := come_to_ok (wf := wf) (n := n) (σ := σ ++ [.lst []] ++ [.lst ((flip ws).map wayV)] ++ τ1) (lw := (σ ++ [AO.lst []]).length) h9 (ap ap_new) F.hm G.m1 G.m2 (fun v hv => F.sc 0 v G.m1 hv) hw
  refine ⟨[.lst []] ++ [.lst ((flip ws).map wayV)] ++ τ1 ++ τ2, f_ret h10 rfl (s_skip (e_cmp (p := false) (e_loc rfl) (e_list es_nil (newL_fits (by decide : 0 ≤ 16777216))) ?_) (s_asg' (e_flip (e_loc rfl) (ap hlw) G.hz) (by decide : 2 < 5) (s_ret' (e_and_t (e_cmp (e_blt (es_cons (e_call (es_cons (e_loc rfl) (es_cons (e_loc rfl) es_nil)) a1) es_nil) a2) (e_loc rfl) ?_) ((e_cmp (p := true) (e_blt (es_cons (e_call (es_cons (e_loc rfl) (es_cons (e_loc rfl) es_nil)) b1) es_nil) b2) (e_loc rfl) ?_).trans ?_)))))⟩
  · show eqV _ _ _ = _
    rw [eqV_nil (ap hlw) wayD_of ap_new]
    cases q : ws with
    | nil => exact absurd q G.ne
    | cons w r => rfl
  · exact congrArg some (beq_self_eq_true _)
  · exact congrArg some (beq_self_eq_true _)
  · rw [List.append_assoc, List.append_assoc, List.append_assoc, List.append_assoc, List.append_assoc]

structure DefsW (P : Nat → Option Fn) : Prop where
  h8 : P 8 = some fIsWhole
  h9 : P 9 = some fComeTo
  h10 : P 10 = some fIsJoined
  h11 : P 11 = some fInit

set_option tactic.hygienic false in
theorem b_list' {σ : Sto} {l : Nat} {xs : List V} (h : σ[l]? = some (.lst xs)) (hz : xs.length ≤ 16777216) : bltV .list [.ref l] σ = .ok (.ref σ.length) (σ ++ [.lst xs]) := by
  show (match getL σ l with | some xs => newL xs σ | none => .bad) = _
  rw [getL_some h]
  exact newL_fits hz
noncomputable def initS (σ : Sto) (o : List (Nat × V)) (τ : Sto) : Sto := σ ++ [.att o, .inst σ.length] ++ τ
set_option tactic.hygienic false in
theorem init_len {o : List (Nat × V)} {τ : Sto} : (initS σ o τ).length = σ.length + 2 + τ.length := by unfold initS; rw [List.length_append, List.length_append]; rfl
set_option tactic.hygienic false in
theorem init_i {o : List (Nat × V)} {τ : Sto} : (initS σ o τ)[σ.length + 1]? = some (.inst σ.length) := by unfold initS; rw [List.append_assoc, List.getElem?_append_right (by lia), show σ.length + 1 - σ.length = 1 by lia]; rfl
set_option tactic.hygienic false in
theorem init_a {o : List (Nat × V)} {τ : Sto} : (initS σ o τ)[σ.length]? = some (.att o) := by unfold initS; rw [List.append_assoc]; exact ap_new
set_option tactic.hygienic false in
theorem init_set {k : Nat} {v : V} {o : List (Nat × V)} {τ : Sto} (ho : o.length < 100) : setAttrV (.ref (σ.length + 1)) k v (initS σ o τ) = some (initS σ (putA k v o) τ) := by
  unfold setAttrV; dsimp only; rw [init_i]; dsimp only; rw [init_a]; dsimp only
  rw [if_pos ho]
  unfold initS
  rw [List.append_assoc]
  show some ((σ ++ _ :: _).set _ _) = _
  rw [set_new, List.append_assoc]; rfl

set_option tactic.hygienic false in
theorem init_ok (H : DefsW P) (hlw : σ[lw]? = some (.lst (ws.map wayV))) (G : WebGood m ws) (hw : 14 ≤ wf) :
    ∃ τ, evFn P wf (n + 3) 11 [.ref (σ.length + 1), .int m, .ref lw] (σ ++ [.att [], .inst σ.length]) = .ok .none (σ ++ τ) ∧ WebAt (σ ++ τ) (σ.length + 1) m ws := by
  have wh : ∀ {x lo hi : Int} (σ' : Sto), lo ≤ x → x ≤ hi → evFn P wf (n + 2) 8 [.int x, .int lo, .int hi] σ' = .ok (.bool true) σ' := fun σ' h1 h2 => is_whole_t H.h8 h1 h2
  obtain ⟨τ, ej⟩ := is_joined_ok (wf := wf) (n := n) H.h9 H.h10 (ap (τ := [.att [], .inst σ.length]) hlw) G hw
  obtain ⟨fr1, σ1, e1, x3, rfl, rfl⟩ := (s_forL (call := evFn P wf (n + 2)) (wf := wf) (tg := [3]) (one := true) (ws := ws) (g := wayV) (it := E.loc 2) (bs := [S.ifS ((E.call 8 [(E.loc 3).sub (E.int 0), E.int 0, E.bin Operator.Sub (E.loc 1) (E.int 1)]).not.or (E.call 8 [(E.loc 3).sub (E.int 1), E.int 0, E.bin Operator.Sub (E.loc 1) (E.int 1)]).not) [S.raise (xc 1)] []]) (fr := frame0 fInit [.ref (σ.length + 1), .int m, .ref lw]) (σ := σ ++ [.att [], .inst σ.length])
    (fun i fr σ' => ∃ x3 : Option V, fr = [some (.ref (σ.length + 1)), some (.int m), some (.ref lw), x3, none, none, none, none, none, none, none, none, none, none, none] ∧ σ' = σ ++ [.att [], .inst σ.length]) (fun _ _ => False) (e_loc rfl) (by rintro i _ _ ⟨x2, rfl, rfl⟩; exact getL_some (ap hlw))
    (by
      rintro i w _ _ hv ⟨x3, rfl, rfl⟩
      have hm := G.hm w (List.mem_of_getElem? hv)
      exact ⟨_, rfl, .inl ⟨_, _, s_skip (e_or_f (e_notT (e_call (es_cons (e_sub (e_loc rfl) e_int rfl) (es_cons e_int (es_cons (e_bin (e_loc rfl) e_int rfl) es_nil))) (wh _ (Int.natCast_nonneg w.1) (by lia)))) (e_notT (e_call (es_cons (e_sub (e_loc rfl) e_int rfl) (es_cons e_int (es_cons (e_bin (e_loc rfl) e_int rfl) es_nil))) (wh _ (Int.natCast_nonneg w.2.1) (by lia))))) s_nil, _, rfl, rfl⟩⟩) ⟨none, rfl, rfl⟩).next
  obtain ⟨fr2, σ2, e2, y3, rfl, rfl⟩ := (s_forL (call := evFn P wf (n + 2)) (wf := wf) (tg := [3]) (one := true) (ws := ws) (g := wayV) (it := E.loc 2) (bs := [S.ifS (E.call 8 [(E.loc 3).sub (E.int 2), E.int 0, E.int 9999]).not [S.raise (xc 2)] []]) (fr := [some (.ref (σ.length + 1)), some (.int m), some (.ref lw), x3, none, none, none, none, none, none, none, none, none, none, none]) (σ := σ ++ [.att [], .inst σ.length])
    (fun i fr σ' => ∃ x3 : Option V, fr = [some (.ref (σ.length + 1)), some (.int m), some (.ref lw), x3, none, none, none, none, none, none, none, none, none, none, none] ∧ σ' = σ ++ [.att [], .inst σ.length]) (fun _ _ => False) (e_loc rfl) (by rintro i _ _ ⟨x2, rfl, rfl⟩; exact getL_some (ap hlw))
    (by
      rintro i w _ _ hv ⟨x3, rfl, rfl⟩
      have hd := G.hd w (List.mem_of_getElem? hv)
      exact ⟨_, rfl, .inl ⟨_, _, s_skip (e_notT (e_call (es_cons (e_sub (e_loc rfl) e_int rfl) (es_cons e_int (es_cons e_int es_nil))) (wh _ (Int.natCast_nonneg w.2.2) (by lia)))) s_nil, _, rfl, rfl⟩⟩) ⟨x3, rfl, rfl⟩).next
  have hl1 : (initS σ [(0, .int m)] τ)[lw]? = some (.lst (ws.map wayV)) := ap (ap hlw)
  have e3 : evSs (evFn P wf (n + 2)) wf [S.asgA (E.loc 0) 0 (E.loc 1), S.asgA (E.loc 0) 1 (E.blt BN.list [E.loc 2])] [some (.ref (σ.length + 1)), some (.int m), some (.ref lw), y3, none, none, none, none, none, none, none, none, none, none, none] (initS σ [] τ) = .ok .next [some (.ref (σ.length + 1)), some (.int m), some (.ref lw), y3, none, none, none, none, none, none, none, none, none, none, none] (initS σ [(0, .int m), (1, .ref (σ.length + 2 + τ.length))] (τ ++ [.lst (ws.map wayV)])) := by
    refine s_asgA' (e_loc rfl) (e_loc rfl) (init_set (o := []) (show 0 < 100 by decide)) (s_asgA' (e_blt (es_cons (e_loc rfl) es_nil) ?_) (e_loc rfl) (init_set (o := [(0, .int m)]) (show 1 < 100 by decide)) s_nil)
    show (match getL (initS σ [(0, .int m)] τ) lw with | some xs => newL xs (initS σ [(0, .int m)] τ) | none => .bad) = _
    rw [getL_some hl1]
    refine (newL_fits (by rw [List.length_map]; have := G.hz; lia)).trans ?_
    rw [init_len]
    unfold initS
    rw [List.append_assoc (σ ++ _)]
  have e4 : ∀ o τ', initS σ o τ' = σ ++ ([.att o, .inst σ.length] ++ τ') := fun o τ' => List.append_assoc _ _ _
  refine ⟨[.att [(0, .int m), (1, .ref (σ.length + 2 + τ.length))], .inst σ.length] ++ (τ ++ [.lst (ws.map wayV)]), ?_, ?_⟩
  · rw [← e4]
    refine f_next H.h11 rfl (s_skip (e_notT (e_call (es_cons (e_loc rfl) (es_cons e_int (es_cons e_int es_nil))) (wh _ (by have := G.m1; lia) (by have := G.m2; lia)))) (s_skip (e_cmp (p := false) (e_blt (es_cons (e_loc rfl) es_nil) (b_len' (ap hlw))) e_int ?_) (s_cons e1 (s_cons e2 (s_skip (e_notT (e_call (es_cons (e_loc rfl) (es_cons (e_loc rfl) es_nil)) ej)) e3)))))
    rw [List.length_map]
    exact congrArg some (decide_eq_false (by have := G.hz; lia))
  · rw [← e4]
    refine ⟨σ.length, σ.length + 2 + τ.length, init_i, init_a, ?_⟩
    generalize he : [(0, V.int m), (1, V.ref (σ.length + 2 + τ.length))] = o
    rw [← init_len (σ := σ) (o := o)]
    unfold initS
    rw [← List.append_assoc]
    exact ap_new

end
end Mine

set_option autoImplicit false
set_option linter.unusedVariables false
namespace Mine
open PySem

structure Built (m M : Nat) (o : List Nat) (ring : Bool) (i : Nat) (ws : List Way) : Prop where
  len : ws.length ≤ 2 * i
  ends : ∀ w ∈ ws, w.1 < m ∧ w.2.1 < m
  del : ∀ w ∈ ws, w.2.2 < M
  r : ring = true → ∀ k, k < i → ∃ d, (o.getD k 0, o.getD ((k + 1) % m) 0, d) ∈ ws
  t : ring = false → ∀ k, 1 ≤ k → k < i → (∃ p d, p < k ∧ (o.getD p 0, o.getD k 0, d) ∈ ws) ∧ ∃ p d, p < k ∧ (o.getD k 0, o.getD p 0, d) ∈ ws

set_option tactic.hygienic false in
theorem mem_snoc {α : Type} {l : List α} {x y : α} (h : x ∈ l ++ [y]) : x ∈ l ∨ x = y := (List.mem_append.mp h).imp_right fun h => List.mem_singleton.mp h
section
variable {m M i : Nat} {o : List Nat} {ring : Bool} {ws : List Way}
set_option tactic.hygienic false in
theorem Built.start : Built m M o ring 0 [] := ⟨Nat.zero_le _, (fun _ h => nomatch h), (fun _ h => nomatch h), fun _ _ h => absurd h (Nat.not_lt_zero _), fun _ _ _ h => absurd h (Nat.not_lt_zero _)⟩
set_option tactic.hygienic false in
theorem Built.ring1 (B : Built m M o true i ws) (ho : ∀ k, k < m → o.getD k 0 < m) (hi : i < m) {d : Nat} (hd : d < M) : Built m M o true (i + 1) (ws ++ [(o.getD i 0, o.getD ((i + 1) % m) 0, d)]) := by
  refine ⟨?_, fun w hw => ?_, fun w hw => ?_, fun _ k hk => ?_, fun h => nomatch h⟩
  · rw [List.length_append]; have := B.len; show ws.length + 1 ≤ _; lia
  · rcases mem_snoc hw with hw | rfl
    · exact B.ends w hw
    · exact ⟨ho i hi, ho _ (Nat.mod_lt _ (by lia))⟩
  · rcases mem_snoc hw with hw | rfl
    · exact B.del w hw
    · exact hd
  · by_cases e : k = i
    · subst e; exact ⟨d, List.mem_append_right _ (.head _)⟩
    · obtain ⟨d, h⟩ := B.r rfl k (by lia)
      exact ⟨d, List.mem_append_left _ h⟩
set_option tactic.hygienic false in
theorem Built.tree0 (B : Built m M o false 0 ws) : Built m M o false 1 ws := ⟨Nat.le_trans B.len (by decide), B.ends, B.del, (fun h => nomatch h), fun _ k h1 h2 => by lia⟩
set_option tactic.hygienic false in
theorem Built.tree1 (B : Built m M o false i ws) (ho : ∀ k, k < m → o.getD k 0 < m) (hi : i < m) {p q d d' : Nat} (hp : p < i) (hq : q < i) (hd : d < M) (hd' : d' < M) : Built m M o false (i + 1) (ws ++ [(o.getD p 0, o.getD i 0, d)] ++ [(o.getD i 0, o.getD q 0, d')]) := by
  refine ⟨?_, fun w hw => ?_, fun w hw => ?_, (fun h => nomatch h), fun _ k h1 hk => ?_⟩
  · rw [List.length_append, List.length_append]; have := B.len; show ws.length + 1 + 1 ≤ _; lia
  · rcases mem_snoc hw with hw | rfl
    · rcases mem_snoc hw with hw | rfl
      · exact B.ends w hw
      · exact ⟨ho p (by lia), ho i hi⟩
    · exact ⟨ho i hi, ho q (by lia)⟩
  · rcases mem_snoc hw with hw | rfl
    · rcases mem_snoc hw with hw | rfl
      · exact B.del w hw
      · exact hd
    · exact hd'
  · by_cases e : k = i
    · subst e
      exact ⟨⟨p, d, hp, List.mem_append_left _ (List.mem_append_right _ (.head _))⟩, q, d', hq, List.mem_append_right _ (.head _)⟩
    · obtain ⟨⟨p, d, h1, h2⟩, q, d', h3, h4⟩ := B.t rfl k h1 (by lia)
      exact ⟨⟨p, d, h1, List.mem_append_left _ (List.mem_append_left _ h2)⟩, q, d', h3, List.mem_append_left _ (List.mem_append_left _ h4)⟩

structure LawWays (m M K : Nat) (ws : List Way) : Prop where
  len : ws.length ≤ K
  ends : ∀ w ∈ ws, w.1 < m ∧ w.2.1 < m
  del : ∀ w ∈ ws, w.2.2 < M
  sc : ∀ a b, a < m → b < m → Reach ws a b
  ne : ws ≠ []
set_option tactic.hygienic false in
theorem Reach.mono {ws' : List Way} (h : ∀ w ∈ ws, w ∈ ws') {a b : Nat} (r : Reach ws a b) : Reach ws' a b := by
  obtain ⟨n, t, w⟩ := r
  refine ⟨n, t, ?_⟩
  induction w with
  | nil => exact .nil
  | step _ hw ih => exact .step ih (h _ hw)
set_option tactic.hygienic false in
theorem LawWays.more (L : LawWays m M i ws) {w : Way} (h1 : w.1 < m) (h2 : w.2.1 < m) (h3 : w.2.2 < M) : LawWays m M (i + 1) (ws ++ [w]) := by
  refine ⟨?_, fun u hu => ?_, fun u hu => ?_, fun a b ha hb => (L.sc a b ha hb).mono fun w hw => List.mem_append_left _ hw, fun q => L.ne (List.append_eq_nil_iff.mp q).1⟩
  · rw [List.length_append]; exact Nat.succ_le_succ L.len
  · rcases mem_snoc hu with hu | rfl
    · exact L.ends u hu
    · exact ⟨h1, h2⟩
  · rcases mem_snoc hu with hu | rfl
    · exact L.del u hu
    · exact h3
set_option tactic.hygienic false in
theorem Built.good (B : Built m M o ring m ws) (hm : 1 ≤ m) (hr : m = 1 → ring = true) (hp : o.Perm (List.range m)) : LawWays m M (2 * m) ws := by
  have hl : o.length = m := by rw [hp.length_eq, List.length_range]
  have at' : ∀ a, a < m → ∃ k, k < m ∧ o.getD k 0 = a := fun a ha => by
    obtain ⟨k, hk, e⟩ := List.getElem_of_mem (hp.mem_iff.mpr (List.mem_range.mpr ha))
    exact ⟨k, by lia, by rw [getD_lt hk]; exact e⟩
  have sc : ∀ k k', k < m → k' < m → Reach ws (o.getD k 0) (o.getD k' 0) := by
    intro k k' hk hk'
    cases ring with
    | true =>
      have go : ∀ j, Reach ws (o.getD k 0) (o.getD ((k + j) % m) 0) := fun j => by
        induction j with
        | zero => rw [Nat.add_zero, Nat.mod_eq_of_lt hk]; exact Reach.self
        | succ j ih =>
          obtain ⟨d, h⟩ := B.r rfl ((k + j) % m) (Nat.mod_lt _ hm)
          rw [Nat.mod_add_mod] at h
          exact ih.trans (Reach.one h)
      have := go (m - k + k')
      rwa [show k + (m - k + k') = k' + m by lia, Nat.add_mod_right, Nat.mod_eq_of_lt hk'] at this
    | false =>
      have up : ∀ k, k < m → Reach ws (o.getD 0 0) (o.getD k 0) := fun k => by
        induction k using Nat.strongRecOn with
        | _ k ih =>
          intro hk
          by_cases h0 : k = 0
          · subst h0; exact Reach.self
          · obtain ⟨⟨p, d, h1, h2⟩, _⟩ := B.t rfl k (by lia) hk
            exact (ih p h1 (by lia)).trans (Reach.one h2)
      have down : ∀ k, k < m → Reach ws (o.getD k 0) (o.getD 0 0) := fun k => by
        induction k using Nat.strongRecOn with
        | _ k ih =>
          intro hk
          by_cases h0 : k = 0
          · subst h0; exact Reach.self
          · obtain ⟨_, p, d, h1, h2⟩ := B.t rfl k (by lia) hk
            exact (Reach.one h2).trans (ih p h1 (by lia))
      exact (down k hk).trans (up k' hk')
  refine ⟨B.len, B.ends, B.del, fun a b ha hb => ?_, fun q => ?_⟩
  · obtain ⟨k, hk, rfl⟩ := at' a ha
    obtain ⟨k', hk', rfl⟩ := at' b hb
    exact sc k k' hk hk'
  · cases ring with
    | true =>
      obtain ⟨d, h⟩ := B.r rfl 0 hm
      rw [q] at h; cases h
    | false =>
      have : m ≠ 1 := fun e => nomatch hr e
      obtain ⟨⟨p, d, _, h⟩, _⟩ := B.t rfl 1 (Nat.le_refl _) (by lia)
      rw [q] at h; cases h
set_option tactic.hygienic false in
theorem LawWays.good (L : LawWays m M i ws) (m1 : 1 ≤ m) (m2 : m ≤ 12) (hi : i ≤ 60) (hM : M ≤ 10000) : WebGood m ws :=
  ⟨m1, m2, Nat.le_trans L.len hi, L.ends, fun w hw => by have := L.del w hw; lia, L.sc, L.ne⟩
end

set_option tactic.hygienic false in
theorem ins_perm {α : Type} (p : Int × α) : ∀ l : List (Int × α), (insK p l).Perm (p :: l)
  | [] => .refl _
  | q :: r => by
    show (if p.1 < q.1 then p :: q :: r else q :: insK p r).Perm _
    split
    · exact .refl _
    · exact ((ins_perm p r).cons q).trans (.swap _ _ _)
set_option tactic.hygienic false in
theorem srt_perm {α : Type} : ∀ l : List (Int × α), (sortK l).Perm l
  | [] => .refl _
  | p :: r => (ins_perm p _).trans ((srt_perm r).cons p)
noncomputable def natOf (v : V) : Nat := match v with | .int i => i.toNat | _ => 0
set_option tactic.hygienic false in
theorem perm_nats {l : List V} {r : List Nat} (h : l.Perm (natsV r)) : ∃ o : List Nat, l = natsV o ∧ o.Perm r := by
  refine ⟨l.map natOf, ?_, ?_⟩
  · unfold natsV
    rw [List.map_map]
    refine Eq.trans (List.map_id _).symm (List.map_congr_left fun v hv => ?_)
    obtain ⟨x, _, rfl⟩ := List.mem_map.mp (h.mem_iff.mp hv)
    rfl
  · have := h.map natOf
    unfold natsV at this
    rw [List.map_map] at this
    have e : (natOf ∘ fun (v : Nat) => V.int v) = id := rfl
    rwa [e, List.map_id] at this
set_option tactic.hygienic false in
theorem keys_nodup : ∀ (c : Nat), 1 ≤ c → c ≤ 12 → ∀ j k : Nat, j < 12 → k < 12 → (j + 1) * c % 13 = (k + 1) * c % 13 → j = k := by
  intro c c1 c2 j k hj hk
  have : ∀ (c : Fin 13) (j k : Fin 12), 1 ≤ c.1 → (j.1 + 1) * c.1 % 13 = (k.1 + 1) * c.1 % 13 → j.1 = k.1 := by decide
  exact this ⟨c, by lia⟩ ⟨j, hj⟩ ⟨k, hk⟩ c1
end Mine

set_option autoImplicit false
set_option linter.unusedVariables false
namespace Mine
open PySem

noncomputable def fCellAt : Fn := { ps := [0, 1], size := 3, body := [S.ifS (E.cmp CmpOp.Lt (E.loc 1) (E.blt BN.len [E.loc 0])) [S.ret ((E.loc 0).sub (E.loc 1))] [], S.ret (E.int 0)] }
noncomputable def fMixed : Fn := { ps := [0, 1], size := 2, body := [S.ret (E.bin Operator.Mod (E.bin Operator.Mult (E.bin Operator.Add (E.bin Operator.Add (E.loc 0) (E.bin Operator.Mult (E.int 7919) (E.loc 1))) (E.int 1)) (E.int 48271)) (E.int 2147483647))] }
noncomputable def fDelayBy (M : Nat) : Fn := { ps := [0], size := 1, body :=
  [S.ret ((E.list [E.bin Operator.Mod (E.bin Operator.FloorDiv (E.loc 0) (E.int 3)) (E.int 5), E.bin Operator.Mod (E.bin Operator.FloorDiv (E.loc 0) (E.int 3)) (E.int 100), E.bin Operator.Mod (E.bin Operator.FloorDiv (E.loc 0) (E.int 3)) (E.int M)]).sub (E.bin Operator.Mod (E.loc 0) (E.int 3)))] }

set_option tactic.hygienic false in
theorem b_mulL {x y : Int} {σ : Sto} (h : x.natAbs < 2 ^ 64) : binV .Mult (.int x) (.int y) σ = .ok (.int (x * y)) σ := if_pos (.inl h)
set_option tactic.hygienic false in
theorem b_mulR {x y : Int} {σ : Sto} (h : y.natAbs < 2 ^ 64) : binV .Mult (.int x) (.int y) σ = .ok (.int (x * y)) σ := if_pos (.inr (.inl h))
set_option tactic.hygienic false in
theorem b_fmod {x y : Int} {σ : Sto} (h : y ≠ 0) : binV .Mod (.int x) (.int y) σ = .ok (.int (x.fmod y)) σ := if_neg h
set_option tactic.hygienic false in
theorem b_fdiv {x y : Int} {σ : Sto} (h : y ≠ 0) (h' : y.natAbs < 10 ^ 100) : binV .FloorDiv (.int x) (.int y) σ = .ok (.int (x.fdiv y)) σ := if_pos ⟨h, h'⟩

section
variable {P : Nat → Option Fn} {wf n : Nat} {σ : Sto}
def ScriptAt (σ : Sto) (sc : List Int) : Prop := σ[0]? = some (.frz (sc.map V.int))
set_option tactic.hygienic false in
theorem cell_ok (h : P 20 = some fCellAt) {sc : List Int} (hs : ScriptAt σ sc) (k : Nat) : evFn P wf (n + 1) 20 [.ref 0, .int k] σ = .ok (.int (sc.getD k 0)) σ := by
  have hl : bltV .len [.ref 0] σ = .ok (.int sc.length) σ := by
    show ofOpt σ ((lenV (.ref 0) σ).map V.int) = _
    unfold lenV; dsimp only; rw [hs]; dsimp only
    show RE.ok (.int ((sc.map V.int).length : Nat)) σ = _
    rw [List.length_map]
  by_cases hk : k < sc.length
  · refine f_ret h rfl (s_if_ret (e_cmp (e_loc rfl) (e_blt (es_cons (e_loc rfl) es_nil) hl) (congrArg some (decide_eq_true (Int.ofNat_lt.mpr hk)))) (s_ret' (e_sub (e_loc rfl) (e_loc rfl) ?_)))
    unfold subV; dsimp only; rw [hs]; dsimp only; unfold idxV
    rw [if_pos (Int.natCast_nonneg k)]
    show (sc.map V.int)[k]? = _
    rw [List.getElem?_map, List.getElem?_eq_getElem hk, List.getD_eq_getElem?_getD, List.getElem?_eq_getElem hk]; rfl
  · rw [List.getD_eq_getElem?_getD, List.getElem?_eq_none_iff.mpr (Nat.le_of_not_lt hk)]
    exact f_ret h rfl (s_skip (e_cmp (e_loc rfl) (e_blt (es_cons (e_loc rfl) es_nil) hl) (congrArg some (decide_eq_false (by lia)))) (s_ret' e_int))
noncomputable def mixN (c k : Int) : Nat := (Int.fmod ((c + 7919 * k + 1) * 48271) 2147483647).toNat
set_option tactic.hygienic false in
theorem mixed_ok (h : P 22 = some fMixed) {c k : Int} : evFn P wf (n + 1) 22 [.int c, .int k] σ = .ok (.int (mixN c k : Nat)) σ := by
  refine f_ret h rfl (s_ret' (e_bin (e_bin (e_bin (e_bin (e_loc rfl) (e_bin e_int (e_loc rfl) (b_mulL (by decide))) rfl) e_int rfl) e_int (b_mulR (by decide))) e_int ((b_fmod (by decide)).trans ?_)))
  unfold mixN
  rw [Int.toNat_of_nonneg (Int.fmod_nonneg_of_pos _ (by decide))]
set_option tactic.hygienic false in
theorem delay_by_ok {M : Nat} (h : P 23 = some (fDelayBy M)) (hM : 100 ≤ M) (N : Nat) : ∃ d o, d < M ∧ evFn P wf (n + 1) 23 [.int N] σ = .ok (.int (d : Nat)) (σ ++ [o]) := by
  have hb : ∀ q : Nat, q ≠ 0 → evE (evFn P wf n) (E.bin Operator.Mod (E.bin Operator.FloorDiv (E.loc 0) (E.int 3)) (E.int q)) (frame0 (fDelayBy M) [.int N]) σ = .ok (.int (N / 3 % q : Nat)) σ := fun q hq =>
    e_bin (e_bin (e_loc rfl) e_int (b_div (y := 3) (by decide) (by decide))) e_int (b_mod (x := N / 3) hq)
  have hl : N % 3 < 3 := Nat.mod_lt _ (by decide)
  obtain ⟨d, hd, he⟩ : ∃ d, d < M ∧ [V.int (N / 3 % 5 : Nat), V.int (N / 3 % 100 : Nat), V.int (N / 3 % M : Nat)][N % 3]? = some (V.int (d : Nat)) := by
    have h5 : N / 3 % 5 < 5 := Nat.mod_lt _ (by decide)
    have h6 : N / 3 % 100 < 100 := Nat.mod_lt _ (by decide)
    have h7 : N / 3 % M < M := Nat.mod_lt _ (by lia)
    match hr : N % 3, hl with
    | 0, _ => exact ⟨_, by lia, rfl⟩
    | 1, _ => exact ⟨_, by lia, rfl⟩
    | 2, _ => exact ⟨_, h7, rfl⟩
  refine ⟨d, .lst [V.int (N / 3 % 5 : Nat), V.int (N / 3 % 100 : Nat), V.int (N / 3 % M : Nat)], hd, f_ret h rfl (s_ret' (e_sub (e_list (es_cons (hb 5 (by decide)) (es_cons (hb 100 (by decide)) (es_cons (hb M (by lia)) es_nil))) (newL_fits (by decide : 3 ≤ 16777216))) (e_bin (e_loc rfl) e_int (b_mod (y := 3) (by decide))) ?_))⟩
  exact sub_lst ap_new he
end

noncomputable def sWay (a b d : E) : S := S.expr ((E.loc 3).meth MN.append [E.tup [a, b, d]])
noncomputable def ways1 (j : Nat) : List S :=
  [S.asg 5 (E.call 22 [E.call 20 [E.loc 0, E.int 2], E.loc 4]),
    S.ifS ((E.cmp CmpOp.Eq (E.loc 1) (E.int 1)).or (E.cmp CmpOp.Eq (E.bin Operator.Mod (E.bin Operator.FloorDiv (E.loc (j + 6)) (E.int 12)) (E.int 2)) (E.int 0)))
      [sWay ((E.loc 2).sub (E.loc 4)) ((E.loc 2).sub (E.bin Operator.Mod (E.bin Operator.Add (E.loc 4) (E.int 1)) (E.loc 1))) (E.call 23 [E.loc 5])]
      [S.ifS (E.cmp CmpOp.Gt (E.loc 4) (E.int 0))
        [sWay ((E.loc 2).sub (E.bin Operator.Mod (E.bin Operator.FloorDiv (E.loc 5) (E.int 7)) (E.loc 4))) ((E.loc 2).sub (E.loc 4)) (E.call 23 [E.bin Operator.FloorDiv (E.loc 5) (E.int 64)]),
          sWay ((E.loc 2).sub (E.loc 4)) ((E.loc 2).sub (E.bin Operator.Mod (E.bin Operator.FloorDiv (E.loc 5) (E.int 512)) (E.loc 4))) (E.call 23 [E.bin Operator.FloorDiv (E.loc 5) (E.int 4096)])] []]]
noncomputable def ways2 : List S :=
  [S.asg 5 (E.call 22 [E.call 20 [E.loc 0, E.bin Operator.Add (E.int 3) (E.bin Operator.Mod (E.loc 4) (E.int 6))], E.loc 4]),
    sWay (E.bin Operator.Mod (E.loc 5) (E.loc 1)) (E.bin Operator.Mod (E.bin Operator.FloorDiv (E.loc 5) (E.int 16)) (E.loc 1)) (E.call 23 [E.bin Operator.FloorDiv (E.loc 5) (E.int 256)])]
noncomputable def waysKey (j : Nat) : KX := ((KX.par.add (KX.num 1)).mul ((KX.num 1).add ((KX.var (j + 6)).mod (KX.num 12)))).mod (KX.num 13)
noncomputable def fWays (j size : Nat) (md : Int) (rest : List S) : Fn := { ps := [0, 1], size := size, body :=
  (S.asg (j + 6) (E.call 20 [E.loc 0, E.int 1]) :: S.asg 2 ((E.blt BN.range [E.loc 1]).srt (waysKey j)) :: S.asg 3 (E.list []) ::
    S.forS [4] true (It.e (E.blt BN.range [E.loc 1])) (ways1 j) ::
    S.forS [4] true (It.e (E.blt BN.range [E.bin Operator.Mod (E.bin Operator.FloorDiv (E.loc (j + 6)) (E.int 24)) (E.int md)])) ways2 :: rest) }

noncomputable def wayS (β : Sto) (ws : List Way) (τ : Sto) : Sto := β ++ .lst (ws.map wayV) :: τ
noncomputable def wayF (m lo lw : Nat) (x4 x5 : Option V) (rest : Fra) : Fra := some (.ref 0) :: some (.int m) :: some (.ref lo) :: some (.ref lw) :: x4 :: x5 :: rest
section
variable {call : Nat → List V → Sto → RE} {wf : Nat} {β τ τ' : Sto} {ws : List Way} {m lo : Nat} {x4 x5 : Option V} {rest : Fra}
set_option tactic.hygienic false in
theorem s_way {e1 e2 e3 : E} {ss : List S} {r : RS} {a b d : Nat} (h1 : evE call e1 (wayF m lo β.length x4 x5 rest) (wayS β ws τ) = .ok (.int a) (wayS β ws τ)) (h2 : evE call e2 (wayF m lo β.length x4 x5 rest) (wayS β ws τ) = .ok (.int b) (wayS β ws τ))
    (h3 : evE call e3 (wayF m lo β.length x4 x5 rest) (wayS β ws τ) = .ok (.int d) (wayS β ws τ')) (hz : ws.length ≤ 1000) (h : evSs call wf ss (wayF m lo β.length x4 x5 rest) (wayS β (ws ++ [(a, b, d)]) τ') = r) : evSs call wf (sWay e1 e2 e3 :: ss) (wayF m lo β.length x4 x5 rest) (wayS β ws τ) = r := by
  refine s_expr' (e_meth (e_loc rfl) (getL_some ap_new) (es_cons (e_tup (es_cons h1 (es_cons h2 (es_cons h3 es_nil))) (by decide : 3 ≤ 1000)) es_nil) (getL_some ap_new) (m_app ?_)) ?_
  · rw [List.length_map]; lia
  · have e : setL (wayS β ws τ') β.length (ws.map wayV ++ [.tup [.int a, .int b, .int d]]) = wayS β (ws ++ [(a, b, d)]) τ' := by
      unfold setL wayS
      rw [set_new, List.map_append]; rfl
    rw [e]; exact h
set_option tactic.hygienic false in
theorem wayS_app {o : AO} : wayS β ws τ ++ [o] = wayS β ws (τ ++ [o]) := by unfold wayS; rw [List.append_assoc]; rfl
end

structure DefsL (P : Nat → Option Fn) (M : Nat) : Prop where
  h20 : P 20 = some fCellAt
  h22 : P 22 = some fMixed
  h23 : P 23 = some (fDelayBy M)

section
variable {P : Nat → Option Fn} {wf n : Nat} {β : Sto} {sc : List Int} {m M lo j : Nat} {o : List Nat} {rest : Fra} {cell : Int}
set_option tactic.hygienic false in
theorem delay_e (H : DefsL P M) (hM : 100 ≤ M) {e : E} {fr : Fra} {ws : List Way} {τ : Sto} {N : Nat} (h : evE (evFn P wf (n + 1)) e fr (wayS β ws τ) = .ok (.int N) (wayS β ws τ)) : ∃ d τ', d < M ∧ evE (evFn P wf (n + 1)) (E.call 23 [e]) fr (wayS β ws τ) = .ok (.int (d : Nat)) (wayS β ws τ') := by
  obtain ⟨d, o, hd, hc⟩ := delay_by_ok (wf := wf) (n := n) (σ := wayS β ws τ) H.h23 hM N
  rw [wayS_app] at hc
  exact ⟨d, _, hd, e_call (es_cons h es_nil) hc⟩

inductive W1 (β : Sto) (m M lo : Nat) (o : List Nat) (rest : Fra) (ring : Bool) (i : Nat) : Fra → Sto → Prop
  | mk (ws : List Way) (τ : Sto) (x4 x5 : Option V) (B : Built m M o ring i ws) : W1 β m M lo o rest ring i (wayF m lo β.length x4 x5 rest) (wayS β ws τ)
noncomputable def ringB (m : Nat) (cell : Int) : Bool := (m : Int) == 1 || Int.fmod (Int.fdiv cell 12) 2 == 0

set_option tactic.hygienic false in
theorem ways1_turn (H : DefsL P M) (hM : 100 ≤ M) (hs : ScriptAt β sc) (hlo : β[lo]? = some (.lst (natsV o))) (hol : o.length = m) (ho : ∀ k, k < m → o.getD k 0 < m) (m2 : m ≤ 12) (hj : rest[j]? = some (some (.int cell))) {i : Nat} (hi : i < m) {fr : Fra} {σ : Sto} (I : W1 β m M lo o rest (ringB m cell) i fr σ) :
    Turn [4] true (evSs (evFn P wf (n + 1)) wf (ways1 j)) (.int i) fr σ (W1 β m M lo o rest (ringB m cell) (i + 1)) (fun _ _ => False) := by
  obtain ⟨ws, τ, x4, x5, B⟩ := I
  have hlen : ws.length ≤ 24 := by have := B.len; lia
  refine ⟨wayF m lo β.length (some (.int i)) x5 rest, rfl, .inl ?_⟩
  have hsc : ∀ ws τ, ScriptAt (wayS β ws τ) sc := fun ws τ => ap hs
  have hord : ∀ ws τ k, k < m → subV (.ref lo) (.int k) (wayS β ws τ) = some (.int (o.getD k 0 : Nat)) := fun ws τ k hk => sub_lst (ap hlo) (natsV_get (by lia))
  have e1 : evE (evFn P wf (n + 1)) (E.call 22 [E.call 20 [E.loc 0, E.int 2], E.loc 4]) (wayF m lo β.length (some (.int i)) x5 rest) (wayS β ws τ) = .ok (.int (mixN (sc.getD 2 0) i : Nat)) (wayS β ws τ) :=
    e_call (es_cons (e_call (es_cons (e_loc rfl) (es_cons e_int es_nil)) (cell_ok H.h20 (hsc _ _) 2)) (es_cons (e_loc rfl) es_nil)) (mixed_ok H.h22)
  generalize mixN (sc.getD 2 0) i = N at e1
  have et : evE (evFn P wf (n + 1)) ((E.cmp CmpOp.Eq (E.loc 1) (E.int 1)).or (E.cmp CmpOp.Eq (E.bin Operator.Mod (E.bin Operator.FloorDiv (E.loc (j + 6)) (E.int 12)) (E.int 2)) (E.int 0))) (wayF m lo β.length (some (.int i)) (some (.int N)) rest) (wayS β ws τ) = .ok (.bool (ringB m cell)) (wayS β ws τ) := by
    refine e_or (e_cmp (e_loc rfl) e_int rfl) fun _ => e_cmp (e_bin (e_bin (e_loc hj) e_int (b_fdiv (by decide) (by decide))) e_int (b_fmod (by decide))) e_int rfl
  have hmod : evE (evFn P wf (n + 1)) (E.bin Operator.Mod (E.bin Operator.Add (E.loc 4) (E.int 1)) (E.loc 1)) (wayF m lo β.length (some (.int i)) (some (.int N)) rest) (wayS β ws τ) = .ok (.int ((i + 1) % m : Nat)) (wayS β ws τ) := e_bin (e_bin (e_loc rfl) e_int rfl) (e_loc rfl) (b_mod (x := i + 1) (by lia))
  cases hr : ringB m cell with
  | true =>
    rw [hr] at B et
    obtain ⟨d, τ', hd, e2⟩ := delay_e (n := n) (wf := wf) H hM (e := E.loc 5) (fr := wayF m lo β.length (some (.int i)) (some (.int N)) rest) (ws := ws) (τ := τ) (N := N) (e_loc rfl)
    refine ⟨_, _, s_asg' e1 (show 5 < rest.length + 6 by lia) (s_if_t et (s_way (e_sub (e_loc rfl) (e_loc rfl) (hord _ _ i hi)) (e_sub (e_loc rfl) hmod (hord _ _ _ (Nat.mod_lt _ (by lia)))) e2 (by lia) s_nil) s_nil), ⟨_, _, _, _, B.ring1 ho hi hd⟩⟩
  | false =>
    rw [hr] at B et
    by_cases h0 : i = 0
    · subst h0
      exact ⟨_, _, s_asg' e1 (show 5 < rest.length + 6 by lia) (s_if_f et (s_skip (e_cmp (p := false) (e_loc rfl) e_int rfl) s_nil) s_nil), ⟨_, _, _, _, B.tree0⟩⟩
    · have hdv : ∀ (q : Nat) ws τ, q ≠ 0 → q < 10 ^ 100 → evE (evFn P wf (n + 1)) (E.bin Operator.FloorDiv (E.loc 5) (E.int q)) (wayF m lo β.length (some (.int i)) (some (.int N)) rest) (wayS β ws τ) = .ok (.int (N / q : Nat)) (wayS β ws τ) := fun q ws τ h1 h2 => e_bin (e_loc rfl) e_int (b_div h1 h2)
      obtain ⟨d, τ', hd, e2⟩ := delay_e (n := n) (wf := wf) H hM (ws := ws) (τ := τ) (hdv 64 ws τ (by decide) (by decide))
      obtain ⟨d', τ2, hd', e3⟩ := delay_e (n := n) (wf := wf) H hM (ws := ws ++ [(o.getD (N / 7 % i) 0, o.getD i 0, d)]) (τ := τ') (hdv 4096 _ τ' (by decide) (by decide))
      have b1 : N / 7 % i < i := Nat.mod_lt _ (by lia)
      have b2 : N / 512 % i < i := Nat.mod_lt _ (by lia)
      have hlen1 : (ws ++ [(o.getD (N / 7 % i) 0, o.getD i 0, d)]).length ≤ 1000 := by rw [List.length_append]; show ws.length + 1 ≤ _; lia
      refine ⟨_, _, s_asg' e1 (show 5 < rest.length + 6 by lia) (s_if_f et (s_if_t (e_cmp (p := true) (e_loc rfl) e_int (congrArg some (decide_eq_true (by lia)))) (s_way (e_sub (e_loc rfl) (e_bin (hdv 7 _ _ (by decide) (by decide)) (e_loc rfl) (b_mod h0)) (hord _ _ _ (by lia))) (e_sub (e_loc rfl) (e_loc rfl) (hord _ _ i hi)) e2 (by lia) (s_way (e_sub (e_loc rfl) (e_loc rfl) (hord _ _ i hi)) (e_sub (e_loc rfl) (e_bin (hdv 512 _ _ (by decide) (by decide)) (e_loc rfl) (b_mod h0)) (hord _ _ _ (by lia))) e3 hlen1 s_nil)) s_nil) s_nil), ⟨_, _, _, _, B.tree1 ho hi b1 b2 hd hd'⟩⟩
end
end Mine

set_option autoImplicit false
set_option linter.unusedVariables false
namespace Mine
open PySem

section
variable {P : Nat → Option Fn} {wf n : Nat} {σ β : Sto} {sc : List Int} {m M lo j : Nat} {o : List Nat} {rest : Fra} {cell : Int}
set_option tactic.hygienic false in
theorem cell_mod (q : Nat) (hq : 1 ≤ q) (c : Int) : ∃ k : Nat, k < q ∧ c.fmod q = (k : Int) := by
  have h1 := Int.fmod_nonneg_of_pos c (b := (q : Int)) (by lia)
  have h2 := Int.fmod_lt_of_pos c (b := (q : Int)) (by lia)
  exact ⟨(c.fmod q).toNat, by lia, by lia⟩

set_option tactic.hygienic false in
theorem order_ok {fr : Fra} {key : KX} (hk : key = waysKey j) (hc : fr[j + 6]? = some (some (.int cell))) (ht : σ[1]? = some (.tab false)) (m1 : 1 ≤ m) (m2 : m ≤ 12) :
    ∃ o : List Nat, o.Perm (List.range m) ∧ srtV key fr (.rng 0 m) σ = .ok (.ref σ.length) (σ.set 1 (AO.tab true) ++ [AO.lst (natsV o)]) := by
  obtain ⟨c, hc1, hc2⟩ := cell_mod 12 (by decide) cell
  have e1 : ∀ i : Nat, i < m → kxV fr (i : Int) (waysKey j) = some (((i + 1) * (c + 1) % 13 : Nat) : Int) := fun i hi => by
    unfold waysKey
    show (((some ((i : Int) + 1)).bind fun p => (((some (1 : Int)).bind fun p => ((kxV fr (i : Int) ((KX.var (j + 6)).mod (KX.num 12))).map fun q => p + q))).bind fun q => if mulOk p q then some (p * q) else none).bind fun p => (some (13 : Int)).bind fun q => if q ≠ 0 then some (p.fmod q) else none) = _
    have ev : kxV fr (i : Int) ((KX.var (j + 6)).mod (KX.num 12)) = some (c : Int) := by
      show ((match fr[j + 6]? with | some (some (.int v)) => some v | _ => none).bind fun p => (some (12 : Int)).bind fun q => if q ≠ 0 then some (p.fmod q) else none) = _
      rw [hc]
      show (if (12 : Int) ≠ 0 then some (cell.fmod 12) else none) = _
      rw [if_pos (by decide)]; exact congrArg some hc2
    rw [ev]
    show ((if mulOk ((i : Int) + 1) (1 + (c : Int)) then some (((i : Int) + 1) * (1 + (c : Int))) else none).bind fun p => if (13 : Int) ≠ 0 then some (p.fmod 13) else none) = _
    rw [if_pos (.inl (by lia))]
    show (if (13 : Int) ≠ 0 then some ((((i : Int) + 1) * (1 + (c : Int))).fmod 13) else none) = _
    rw [if_pos (by decide)]
    have : ((i : Int) + 1) * (1 + (c : Int)) = (((i + 1) * (c + 1) : Nat) : Int) := by rw [Int.natCast_mul, Int.add_comm 1]; rfl
    rw [this]
    exact congrArg some (fmodN _ 13)
  have e2 : mapO (fun (i : Nat) => kxV fr (i : Int) key) (List.range m) = some ((List.range m).map fun i => (((i + 1) * (c + 1) % 13 : Nat) : Int)) := by
    have := mapO_map (f := fun (i : Nat) => kxV fr (i : Int) key) (g := id) (h := fun i => (((i + 1) * (c + 1) % 13 : Nat) : Int)) (l := List.range m) fun i hi => by rw [hk]; exact e1 i (List.mem_range.mp hi)
    rwa [List.map_id] at this
  have nd : ((List.range m).map fun i => (((i + 1) * (c + 1) % 13 : Nat) : Int)).Nodup := by
    rw [List.Nodup, List.pairwise_iff_getElem]
    intro p q hp hq hpq e
    rw [List.length_map, List.length_range] at hp hq
    rw [List.getElem_map, List.getElem_map, List.getElem_range, List.getElem_range] at e
    have := keys_nodup (c + 1) (by lia) (by lia) p q (by lia) (by lia) (Int.ofNat.inj e)
    lia
  have hp : ((sortK (((List.range m).map fun i => (((i + 1) * (c + 1) % 13 : Nat) : Int)).zip (rngL 0 m))).map (·.2)).Perm (natsV (List.range m)) := by
    refine ((srt_perm _).map _).trans ?_
    have : (((List.range m).map fun i => (((i + 1) * (c + 1) % 13 : Nat) : Int)).zip (rngL 0 m)).map (·.2) = rngL 0 m := List.map_snd_zip (by rw [rng_nat, List.length_map, List.length_map]; exact Nat.le_refl _)
    rw [this, rng_nat]
    exact .refl _
  obtain ⟨o, ho, hperm⟩ := perm_nats hp
  refine ⟨o, hperm, ?_⟩
  show (if (0 : Int) = 0 ∧ (m : Int) < 60 then srtT σ[1]? (srtL (mapO (fun (i : Nat) => kxV fr (i : Int) key) (List.range (m : Int).toNat)) m σ) else .bad) = _
  rw [if_pos ⟨rfl, by lia⟩, ht]
  show srtL (mapO (fun (i : Nat) => kxV fr (i : Int) key) (List.range m)) m σ = _
  rw [e2]
  show (if ((List.range m).map fun i => (((i + 1) * (c + 1) % 13 : Nat) : Int)).Nodup then newL ((sortK (((List.range m).map fun i => (((i + 1) * (c + 1) % 13 : Nat) : Int)).zip (rngL 0 m))).map (·.2)) (σ.set 1 (.tab true)) else .bad) = _
  rw [if_pos nd, ho, newL_fits (by rw [natsV_len, hperm.length_eq, List.length_range]; lia), List.length_set]

inductive W2 (β : Sto) (m M lo K : Nat) (rest : Fra) (i : Nat) : Fra → Sto → Prop
  | mk (ws : List Way) (τ : Sto) (x4 x5 : Option V) (L : LawWays m M (K + i) ws) : W2 β m M lo K rest i (wayF m lo β.length x4 x5 rest) (wayS β ws τ)
set_option tactic.hygienic false in
theorem ways2_turn (H : DefsL P M) (hM : 100 ≤ M) (hs : ScriptAt β sc) (m1 : 1 ≤ m) {K i : Nat} (hK : K + i ≤ 1000) {fr : Fra} {σ : Sto} (I : W2 β m M lo K rest i fr σ) :
    Turn [4] true (evSs (evFn P wf (n + 1)) wf ways2) (.int i) fr σ (W2 β m M lo K rest (i + 1)) (fun _ _ => False) := by
  obtain ⟨ws, τ, x4, x5, L⟩ := I
  refine ⟨wayF m lo β.length (some (.int i)) x5 rest, rfl, .inl ?_⟩
  have e1 : evE (evFn P wf (n + 1)) (E.call 22 [E.call 20 [E.loc 0, E.bin Operator.Add (E.int 3) (E.bin Operator.Mod (E.loc 4) (E.int 6))], E.loc 4]) (wayF m lo β.length (some (.int i)) x5 rest) (wayS β ws τ) = .ok (.int (mixN (sc.getD (3 + i % 6) 0) i : Nat)) (wayS β ws τ) :=
    e_call (es_cons (e_call (es_cons (e_loc rfl) (es_cons (e_bin e_int (e_bin (e_loc rfl) e_int (b_mod (x := i) (y := 6) (by decide))) rfl) es_nil)) (cell_ok H.h20 (show ScriptAt (wayS β ws τ) sc from ap hs) (3 + i % 6))) (es_cons (e_loc rfl) es_nil)) (mixed_ok H.h22)
  generalize mixN (sc.getD (3 + i % 6) 0) i = N at e1
  obtain ⟨d, τ', hd, e2⟩ := delay_e (n := n) (wf := wf) H hM (e := E.bin Operator.FloorDiv (E.loc 5) (E.int 256)) (fr := wayF m lo β.length (some (.int i)) (some (.int N)) rest) (ws := ws) (τ := τ) (N := N / 256) (e_bin (e_loc rfl) e_int (b_div (y := 256) (by decide) (by decide)))
  have hlen := L.len
  exact ⟨_, _, s_asg' e1 (show 5 < rest.length + 6 by lia) (s_way (e_bin (e_loc rfl) (e_loc rfl) (b_mod (by lia))) (e_bin (e_bin (e_loc rfl) e_int (b_div (y := 16) (by decide) (by decide))) (e_loc rfl) (b_mod (by lia))) e2 (by lia) s_nil), ⟨_, _, _, _, L.more (Nat.mod_lt _ m1) (Nat.mod_lt _ m1) hd⟩⟩

set_option tactic.hygienic false in
theorem ways_front (H : DefsL P M) (hM : 100 ≤ M) (hs : ScriptAt σ sc) (ht : σ[1]? = some (.tab false)) (m1 : 1 ≤ m) (m2 : m ≤ 12) {size md : Nat} (hd1 : 1 ≤ md) (hd2 : md ≤ 100) {tail : List S} {rest0 : Fra} (hfr : frame0 (fWays j size md tail) [.ref 0, .int m] = some (.ref 0) :: some (.int m) :: none :: none :: none :: none :: rest0) (hj : j < rest0.length) :
    ∃ ws o τ x4 x5, LawWays m M (2 * m + (md - 1)) ws ∧ ∀ r, evSs (evFn P wf (n + 1)) wf tail (wayF m σ.length (σ.length + 1) x4 x5 (rest0.set j (some (.int (sc.getD 1 0))))) (wayS (σ.set 1 (.tab true) ++ [o]) ws τ) = r → evSs (evFn P wf (n + 1)) wf (fWays j size md tail).body (frame0 (fWays j size md tail) [.ref 0, .int m]) σ = r := by
  generalize hcell : sc.getD 1 0 = cell
  have hj' : (rest0.set j (some (V.int cell)))[j]? = some (some (.int cell)) := List.getElem?_set_self hj
  obtain ⟨o, hp, eo⟩ := order_ok (σ := σ) (m := m) (j := j) (cell := cell) (fr := some (.ref 0) :: some (.int m) :: none :: none :: none :: none :: rest0.set j (some (.int cell))) rfl hj' ht m1 m2
  have hol : o.length = m := by rw [hp.length_eq, List.length_range]
  have ho : ∀ k, k < m → o.getD k 0 < m := fun k hk => List.mem_range.mp (hp.mem_iff.mp (getD_mem (by lia)))
  have hlb : (σ.set 1 (AO.tab true) ++ [AO.lst (natsV o)]).length = σ.length + 1 := by rw [List.length_append, List.length_set]; rfl
  have hlo : (σ.set 1 (AO.tab true) ++ [AO.lst (natsV o)])[σ.length]? = some (.lst (natsV o)) := by
    have := ap_new (σ := σ.set 1 (.tab true)) (o := .lst (natsV o)) (τ := [])
    rwa [List.length_set] at this
  have hs' : ScriptAt (σ.set 1 (AO.tab true) ++ [AO.lst (natsV o)]) sc := ap (by rw [List.getElem?_set_ne (by decide)]; exact hs)
  obtain ⟨k, hk1, hk2⟩ := cell_mod md hd1 (Int.fdiv cell 24)
  generalize hβ : σ.set 1 (AO.tab true) ++ [AO.lst (natsV o)] = β at *
  obtain ⟨fr1, σ1, l1, ws1, τ1, y4, y5, B⟩ := (s_forR (call := evFn P wf (n + 1)) (wf := wf) (tg := [4]) (one := true) (ws := List.range m) (g := fun (v : Nat) => V.int v) (it := E.blt BN.range [E.loc 1]) (bs := ways1 j) (fr := wayF m σ.length β.length none none (rest0.set j (some (.int cell)))) (σ := wayS β [] [])
    (W1 β m M σ.length o (rest0.set j (some (.int cell))) (ringB m cell)) (fun _ _ => False) (e_blt (es_cons (e_loc rfl) es_nil) (b_range' (by lia))) (rng_nat m)
    (by
      intro i v fr σ' hv I
      obtain ⟨hi, rfl⟩ := range_get hv
      exact ways1_turn H hM hs' hlo hol ho m2 hj' hi I) ⟨[], [], none, none, Built.start⟩).next
  rw [List.length_range] at B
  have L := B.good m1 (fun e => by unfold ringB; rw [e]; rfl) hp
  obtain ⟨fr2, σ2, l2, ws2, τ2, z4, z5, L2⟩ := (s_forR (call := evFn P wf (n + 1)) (wf := wf) (tg := [4]) (one := true) (ws := List.range k) (g := fun (v : Nat) => V.int v) (it := E.blt BN.range [E.bin Operator.Mod (E.bin Operator.FloorDiv (E.loc (j + 6)) (E.int 24)) (E.int md)]) (bs := ways2) (fr := wayF m σ.length β.length y4 y5 (rest0.set j (some (.int cell)))) (σ := wayS β ws1 τ1)
    (W2 β m M σ.length (2 * m) (rest0.set j (some (.int cell)))) (fun _ _ => False) (e_blt (es_cons (e_bin (e_bin (e_loc hj') e_int (b_fdiv (by decide) (by decide))) e_int ((b_fmod (by lia)).trans (by rw [hk2]))) es_nil) (b_range' (k := k) (by lia))) (rng_nat k)
    (by
      intro i v fr σ' hv I
      obtain ⟨hi, rfl⟩ := range_get hv
      exact ways2_turn H hM hs' m1 (by lia) I) ⟨ws1, τ1, y4, y5, L⟩).next
  rw [List.length_range] at L2
  refine ⟨ws2, .lst (natsV o), τ2, z4, z5, ⟨Nat.le_trans L2.len (by lia), L2.ends, L2.del, L2.sc, L2.ne⟩, fun r h => ?_⟩
  rw [hfr]
  rw [hβ, ← hlb] at h
  refine s_asg' (e_call (es_cons (e_loc rfl) (es_cons e_int es_nil)) (cell_ok H.h20 hs 1)) (show j + 6 < rest0.length + 6 by lia) ?_
  rw [hcell]
  refine s_asg' (e_srt (e_blt (es_cons (e_loc rfl) es_nil) (b_range' (by lia))) eo) (show 2 < _ + 6 by lia) (s_asg' (e_list es_nil (newL_fits (by decide : 0 ≤ 16777216))) (show 3 < _ + 6 by lia) (s_cons l1 (s_cons l2 h)))
set_option tactic.hygienic false in
theorem cell_e (HL : P 20 = some fCellAt) {sc : List Int} (hs : ScriptAt σ sc) {fr : Fra} {e : E} {k q : Nat} (h0 : fr[0]? = some (some (.ref 0))) (he : evE (evFn P wf (n + 1)) e fr σ = .ok (.int q) σ) (hq : 1 ≤ q) :
    ∃ c : Nat, c < q ∧ evE (evFn P wf (n + 1)) (E.bin Operator.Mod (E.call 20 [E.loc 0, E.int k]) e) fr σ = .ok (.int c) σ := by
  obtain ⟨c, h1, h2⟩ := cell_mod q hq (sc.getD k 0)
  refine ⟨c, h1, e_bin (e_call (es_cons (e_loc h0) (es_cons e_int es_nil)) (cell_ok HL hs k)) he ((b_fmod (by lia)).trans ?_)⟩
  rw [h2]
end
end Mine

set_option autoImplicit false
set_option linter.unusedVariables false
namespace Mine
open PySem

section
variable {ws : List Way} {m : Nat} {x y S : Nat → Int} {c : Int}
end
end Mine

set_option autoImplicit false
set_option linter.unusedVariables false
namespace Mine
open PySem

noncomputable def fInto : Fn := { ps := [0, 1], size := 2, body :=
  [S.expr ((E.loc 0).umeth 12 [E.loc 1]), S.ret (E.comp [1] true ((E.loc 0).attr 1) [E.cmp CmpOp.Eq ((E.loc 1).sub (E.int 1)) (E.loc 2)] (E.tup [(E.loc 1).sub (E.int 0), (E.loc 1).sub (E.int 2)]) [none, none, some 1])] }
noncomputable def eAhead : E := E.comp [1, 2] false ((E.loc 0).umeth 15 [E.loc 3]) [] (E.bin Operator.Add ((E.loc 3).sub (E.loc 1)) (E.loc 2)) [none, none, none, some 1]
noncomputable def aheadB : List S := [S.expr ((E.loc 2).meth MN.append [E.blt BN.max [eAhead]])]
noncomputable def fAhead : Fn := { ps := [0, 1], size := 8, body :=
  [S.ifS (E.cmp CmpOp.NotEq (E.blt BN.len [E.loc 1]) ((E.loc 0).attr 0)) [S.raise (xc 0)] [], S.asg 2 (E.list []),
    S.forS [3] true (It.e (E.blt BN.range [(E.loc 0).attr 0])) aheadB, S.ret (E.loc 2)] }
noncomputable def turnsB : List S := [S.expr ((E.loc 3).meth MN.append [(E.loc 0).umeth 16 [(E.loc 3).sub (E.int 1).neg]])]
noncomputable def fTurns : Fn := { ps := [0, 1, 2], size := 9, body :=
  [S.ifS (E.cmp CmpOp.NotEq (E.blt BN.len [E.loc 1]) ((E.loc 0).attr 0)) [S.raise (xc 0)] [], S.asg 3 (E.list [E.blt BN.list [E.loc 1]]),
    S.forS [4] true (It.e (E.blt BN.range [E.loc 2])) turnsB, S.ret (E.loc 3)] }

noncomputable def accS (σ : Sto) (xs : List V) (τ : Sto) : Sto := σ ++ .lst xs :: τ
set_option tactic.hygienic false in
theorem accS_app {σ τ υ : Sto} {xs : List V} : accS σ xs τ ++ υ = accS σ xs (τ ++ υ) := List.append_assoc _ _ _
structure DefsT (P : Nat → Option Fn) : Prop where
  h8 : P 8 = some fIsWhole
  h12 : P 12 = some fNeed
  h15 : P 15 = some fInto
  h16 : P 16 = some fAhead
  h17 : P 17 = some fTurns
section
variable {P : Nat → Option Fn} {wf n : Nat} {σ : Sto} {l m lt : Nat} {ws : List Way} {x : Nat → Int}
end
end Mine

set_option autoImplicit false
set_option linter.unusedVariables false
namespace Mine
open PySem

noncomputable def eShape : E := E.blt BN.tuple [E.comp [1] true (E.loc 3) [] (E.bin Operator.Sub (E.loc 1) ((E.loc 2).sub (E.int 0))) [none, none, some 3]]
noncomputable def settleB : List S :=
  [S.asg 7 eShape,
    S.ifS (E.cmp CmpOp.In (E.loc 7) (E.loc 4)) [S.ret (E.tup [(E.loc 4).sub (E.loc 7), E.bin Operator.Sub (E.loc 6) ((E.loc 4).sub (E.loc 7)), E.bin Operator.Sub ((E.loc 3).sub (E.int 0)) ((E.loc 5).sub ((E.loc 4).sub (E.loc 7)))])] [],
    S.asgI (E.loc 4) (E.loc 7) (E.loc 6), S.expr ((E.loc 5).meth MN.append [(E.loc 3).sub (E.int 0)]), S.asg 3 ((E.loc 0).umeth 16 [E.loc 3])]
noncomputable def fSettled : Fn := { ps := [0, 1, 2], size := 10, body :=
  [S.asg 3 (((E.loc 0).umeth 17 [E.loc 1, E.int 0]).sub (E.int 0)), S.asg 4 E.dict0, S.asg 5 (E.list []),
    S.forS [6] true (It.e (E.blt BN.range [E.bin Operator.Add (E.loc 2) (E.int 1)])) settleB, S.ret E.none] }

section
variable {P : Nat → Option Fn} {wf n : Nat} {σ : Sto} {l m lt lh : Nat} {ws : List Way} {x : Nat → Int} {call : Nat → List V → Sto → RE}
end
end Mine

set_option autoImplicit false
set_option linter.unusedVariables false
namespace Mine
open PySem

section
variable {σ τ : Sto} {es es' : List (List Int × V)} {fs fs' : List V}
end

section
variable {P : Nat → Option Fn} {wf n : Nat} {σ σ0 : Sto} {l m lt : Nat} {ws : List Way} {x : Nat → Int}
end
end Mine

set_option autoImplicit false
set_option linter.unusedVariables false
namespace Mine
open PySem

section
variable {P : Nat → Option Fn} {wf n : Nat} {σ : Sto} {m l lt : Nat} {ws : List Way} {x : Nat → Int}
set_option tactic.hygienic false in
theorem accS_at {τ : Sto} {xs ys : List V} {k : Nat} (h : k ≠ σ.length) : (accS σ xs τ)[k]? = (accS σ ys τ)[k]? := by
  unfold accS
  by_cases hk : k < σ.length
  · rw [List.getElem?_append_left hk, List.getElem?_append_left hk]
  · obtain ⟨j, rfl⟩ : ∃ j, k = σ.length + (j + 1) := ⟨k - σ.length - 1, by lia⟩
    rw [List.getElem?_append_right (Nat.le_add_right _ _), List.getElem?_append_right (Nat.le_add_right _ _), Nat.add_sub_cancel_left]; rfl
set_option tactic.hygienic false in
theorem accS_len {τ : Sto} {xs : List V} : (accS σ xs τ).length = σ.length + (1 + τ.length) := by unfold accS; rw [List.length_append, List.length_cons, Nat.add_comm 1]
structure TRows (σ' : Sto) (p : Nat) (ls : List Nat) (X : Nat → Nat → Int) (m i : Nat) : Prop where
  len : ls.length = i
  row : ∀ k l, ls[k]? = some l → l ≠ p ∧ σ'[l]? = some (.lst (intsV m (X k)))
set_option tactic.hygienic false in
theorem TRows.last {σ' : Sto} {p i : Nat} {ls : List Nat} {X : Nat → Nat → Int} (R : TRows σ' p ls X m (i + 1)) : ∃ l, (ls.map V.ref).getLast? = some (V.ref l) ∧ σ'[l]? = some (.lst (intsV m (X i))) := by
  obtain ⟨l, hl⟩ : ∃ l, ls[i]? = some l := ⟨_, List.getElem?_eq_getElem (by rw [R.len]; exact Nat.lt_succ_self _)⟩
  exact ⟨l, by rw [List.getLast?_eq_getElem?, List.length_map, List.getElem?_map, R.len, Nat.add_sub_cancel, hl]; rfl, (R.row i l hl).2⟩
set_option tactic.hygienic false in
theorem TRows.push {τ υ : Sto} {i : Nat} {ls : List Nat} {X : Nat → Nat → Int} (R : TRows (accS σ (ls.map V.ref) τ) σ.length ls X m i) : TRows (accS σ ((ls ++ [(accS σ (ls.map V.ref) τ).length]).map V.ref) (τ ++ (.lst (intsV m (X i)) :: υ))) σ.length (ls ++ [(accS σ (ls.map V.ref) τ).length]) X m (i + 1) := by
  have hne : (accS σ (ls.map V.ref) τ).length ≠ σ.length := by rw [accS_len]; lia
  refine ⟨by rw [List.length_append, R.len]; rfl, fun k l' h => ?_⟩
  have e : ∀ {k}, k ≠ σ.length → (accS σ ((ls ++ [(accS σ (ls.map V.ref) τ).length]).map V.ref) (τ ++ (.lst (intsV m (X i)) :: υ)))[k]? = (accS σ (ls.map V.ref) τ ++ (.lst (intsV m (X i)) :: υ))[k]? := fun hk => by rw [accS_app]; exact accS_at hk
  by_cases hk : k < ls.length
  · rw [List.getElem?_append_left hk] at h
    obtain ⟨h1, h2⟩ := R.row k l' h
    exact ⟨h1, by rw [e h1]; exact ap h2⟩
  · have hk2 : k = ls.length := by
      have := (List.getElem?_eq_some_iff.mp h).1
      rw [List.length_append] at this
      exact Nat.le_antisymm (Nat.le_of_lt_succ this) (Nat.le_of_not_lt hk)
    subst hk2
    rw [List.getElem?_append_right (Nat.le_refl _), Nat.sub_self] at h
    have : (accS σ (ls.map V.ref) τ).length = l' := Option.some.inj h
    subst this
    refine ⟨hne, ?_⟩
    rw [e hne, R.len]; exact ap_new
end
end Mine

set_option autoImplicit false
set_option linter.unusedVariables false
namespace Mine
open PySem

noncomputable def eDiv (a b : Int) : E := E.bin Operator.Mod (E.bin Operator.FloorDiv (E.loc 2) (E.int a)) (E.int b)
noncomputable def eSlow : E := E.comp [1] true (E.call 5 [E.loc 0, eDiv 8 50, E.bin Operator.Add (E.int 1) (eDiv 400 5)]) [E.cmp CmpOp.IsNot (E.loc 1) E.none] (E.loc 1) [none, none]
noncomputable def stirB : List S := [S.ifS ((E.loc 5).isi Ty.list) [S.expr ((E.loc 5).meth MN.clear [])] []]
noncomputable def stirIf (k : Int) (b : S) : S := S.ifS (E.cmp CmpOp.Eq (E.loc 3) (E.int k)) [b] []
noncomputable def fStirred : Fn := { ps := [0, 1, 2], size := 12, body :=
  [S.asg 3 (E.bin Operator.Mod (E.loc 2) (E.int 8)), S.asg 4 (E.list []),
    stirIf 1 (S.asg 4 ((E.loc 0).umeth 16 [E.blt BN.list [E.loc 1]])),
    stirIf 2 (S.asg 4 ((E.loc 0).umeth 17 [E.blt BN.list [E.loc 1], E.bin Operator.Add (E.int 1) (eDiv 8 3)])),
    stirIf 3 (S.expr (E.call 18 [E.loc 0, E.blt BN.list [E.loc 1], eDiv 8 7])),
    stirIf 4 (S.asg 4 ((E.call 7 [E.loc 0]).sub (E.bin Operator.Add (E.int 2) (eDiv 8 2)))),
    stirIf 5 (S.asg 4 eSlow),
    stirIf 6 (S.asg 4 ((E.loc 0).umeth 15 [E.bin Operator.Mod (E.bin Operator.FloorDiv (E.loc 2) (E.int 8)) (E.blt BN.len [E.loc 1])])),
    stirIf 7 (S.asg 4 ((((E.loc 0).umeth 14 []).attr 1).shi (E.int 0))),
    S.forS [5] true (It.e (E.loc 4)) stirB, S.expr ((E.loc 4).meth MN.clear []), S.ret (E.bool true)] }

def ToldV (σ σ' : Sto) (p : Nat) (v : V) : Prop := (∃ i, v = .int i) ∨ (∃ ts, v = .tup ts) ∨ ∃ q xs, v = .ref q ∧ σ.length ≤ q ∧ q ≠ p ∧ σ'[q]? = some (.lst xs)
structure Told (σ σ' : Sto) (p : Nat) : Prop where
  pre : ∃ τ, σ' = σ ++ τ
  new : σ.length ≤ p
  lst : ∃ vs, σ'[p]? = some (.lst vs) ∧ ∀ v ∈ vs, ToldV σ σ' p v
section
variable {P : Nat → Option Fn} {wf n : Nat} {σ σ' : Sto} {l lt m p : Nat} {ws : List Way} {x : Nat → Int} {cell way : Int} {call : Nat → List V → Sto → RE}
set_option tactic.hygienic false in
theorem pre_le {τ : Sto} {q : Nat} (h : (σ ++ τ).length ≤ q) : σ.length ≤ q := Nat.le_trans (List.Sublist.length_le (List.sublist_append_left _ _)) h
set_option tactic.hygienic false in
theorem Told.app (T : Told σ σ' p) (τ : Sto) : Told σ (σ' ++ τ) p := by
  obtain ⟨⟨τ0, rfl⟩, h1, vs, h2, h3⟩ := T
  refine ⟨⟨_, List.append_assoc _ _ _⟩, h1, vs, ap h2, fun v hv => ?_⟩
  rcases h3 v hv with h | h | ⟨q, xs, a, b, c, d⟩
  · exact .inl h
  · exact .inr (.inl h)
  · exact .inr (.inr ⟨q, xs, a, b, c, ap d⟩)
set_option tactic.hygienic false in
theorem Told.of {vs : List V} (T : Told σ σ' p) {τ : Sto} {q : Nat} (hq : σ'.length ≤ q) (h : (σ' ++ τ)[q]? = some (.lst vs)) (hv : ∀ v ∈ vs, ToldV σ (σ' ++ τ) q v) : Told σ (σ' ++ τ) q := by
  obtain ⟨⟨τ0, rfl⟩, _⟩ := T
  exact ⟨⟨_, List.append_assoc _ _ _⟩, pre_le hq, vs, h, hv⟩
end
end Mine

set_option autoImplicit false
set_option linter.unusedVariables false
namespace Mine
open PySem

structure StirX (P : Nat → Option Fn) (wf : Nat) (σ : Sto) (l lt m : Nat) (ws : List Way) (x : Nat → Int) : Prop where
  T : DefsT P
  h18 : P 18 = some fSettled
  H : Defs2 P
  HW : DefsW P
  h14 : P 14 = some fTurned
  W : WebAt σ l m ws
  G : WebGood m ws
  ht : σ[lt]? = some (.lst (intsV m x))
  hw : 9999 * 27720 < wf
section
variable {P : Nat → Option Fn} {wf n : Nat} {σ σ' : Sto} {l lt m p : Nat} {ws : List Way} {x : Nat → Int} {cell way : Int}
set_option tactic.hygienic false in
theorem StirX.app (X : StirX P wf σ l lt m ws x) (T : Told σ σ' p) : StirX P wf σ' l lt m ws x := by
  obtain ⟨⟨τ, rfl⟩, _⟩ := T
  exact ⟨X.T, X.h18, X.H, X.HW, X.h14, X.W.app, X.G, ap X.ht, X.hw⟩
end
end Mine

set_option autoImplicit false
set_option linter.unusedVariables false
namespace Mine
open PySem

section
variable {P : Nat → Option Fn} {wf n : Nat} {σ : Sto} {m lw lr : Nat} {ws : List Way} {r : List Nat}
set_option tactic.hygienic false in
theorem eq_int {x : Int} : cmpV .Eq (.int x) (.int x) σ = some true := congrArg some (beq_self_eq_true x)

end
end Mine

set_option autoImplicit false
set_option linter.unusedVariables false
namespace Mine
open PySem

noncomputable def ext (m : Nat) (r : List Nat) (i : Nat) : List (List Nat) := ((List.range i).filter fun k => !decide (k ∈ r)).map fun k => r ++ [k]
noncomputable def rowO (r : List Nat) : Option AO := some (.lst (natsV r))
def RowsAt (σ : Sto) (ls : List Nat) (rs : List (List Nat)) : Prop := ls.map (fun l => σ[l]?) = rs.map rowO
set_option tactic.hygienic false in
theorem RowsAt.app {σ τ : Sto} : ∀ {ls : List Nat} {rs : List (List Nat)}, RowsAt σ ls rs → RowsAt (σ ++ τ) ls rs
  | [], [], _ => rfl
  | [], _ :: _, h => nomatch h
  | _ :: _, [], h => nomatch h
  | l :: ls, r :: rs, h => by
    unfold RowsAt at h ⊢
    rw [List.map_cons, List.map_cons] at h ⊢
    obtain ⟨h1, h2⟩ := List.cons.inj h
    have h3 := RowsAt.app (τ := τ) (ls := ls) (rs := rs) h2
    unfold RowsAt at h3
    rw [h3, ap (show σ[l]? = some (.lst (natsV r)) from h1)]; rfl
set_option tactic.hygienic false in
theorem RowsAt.add {σ : Sto} {ls ls' : List Nat} {rs rs' : List (List Nat)} (h : RowsAt σ ls rs) (h' : RowsAt σ ls' rs') : RowsAt σ (ls ++ ls') (rs ++ rs') := by
  unfold RowsAt at *; rw [List.map_append, List.map_append, h, h']
set_option tactic.hygienic false in
theorem RowsAt.len {σ : Sto} {ls : List Nat} {rs : List (List Nat)} (h : RowsAt σ ls rs) : ls.length = rs.length := by
  have := congrArg List.length h; rwa [List.length_map, List.length_map] at this
set_option tactic.hygienic false in
theorem RowsAt.get {σ : Sto} {ls : List Nat} {rs : List (List Nat)} (h : RowsAt σ ls rs) {i l : Nat} (hl : ls[i]? = some l) : ∃ r, rs[i]? = some r ∧ σ[l]? = some (.lst (natsV r)) := by
  have := congrArg (fun x => x[i]?) h
  simp only [List.getElem?_map, hl, Option.map_some] at this
  cases q : rs[i]? with
  | none => rw [q] at this; cases this
  | some r => rw [q] at this; exact ⟨r, rfl, Option.some.inj this⟩

section
variable {call : Nat → List V → Sto → RE} {fr fr1 : Fra} {σ σ1 : Sto} {tg : List Nat} {one : Bool} {cond elt : Fra → Sto → RE} {α : Type} {g : α → V}
end
end Mine

set_option autoImplicit false
set_option linter.unusedVariables false
namespace Mine
open PySem

noncomputable def fMany : Fn := { ps := [0], size := 3, body :=
  [S.asg 1 (E.call 20 [E.loc 0, E.int 0]), S.ifS (E.cmp CmpOp.Eq (E.bin Operator.Mod (E.bin Operator.FloorDiv (E.loc 1) (E.int 6)) (E.int 8)) (E.int 1)) [S.ret (E.bin Operator.Add (E.int 7) (E.bin Operator.Mod (E.bin Operator.FloorDiv (E.loc 1) (E.int 48)) (E.int 6)))] [],
    S.ret (E.bin Operator.Add (E.int 1) (E.bin Operator.Mod (E.loc 1) (E.int 6)))] }
noncomputable def waysTail : List S := [S.asg 6 (E.bin Operator.Mod (E.call 20 [E.loc 0, E.int 2]) (E.blt BN.len [E.loc 3])), S.ret (E.bin Operator.Add ((E.loc 3).slo (E.loc 6)) ((E.loc 3).shi (E.loc 6)))]
set_option tactic.hygienic false in
theorem LawWays.rot {m M K k : Nat} {ws : List Way} (L : LawWays m M K ws) : LawWays m M K (ws.drop k ++ ws.take k) := by
  have hm : ∀ {w}, w ∈ ws.drop k ++ ws.take k → w ∈ ws := fun h => rot_perm.mem_iff.mp h
  exact ⟨by rw [rot_perm.length_eq]; exact L.len, fun w hw => L.ends w (hm hw), fun w hw => L.del w (hm hw), fun a b ha hb => (L.sc a b ha hb).mono fun w hw => rot_perm.mem_iff.mpr hw, fun q => L.ne (List.length_eq_zero_iff.mp ((rot_perm (R := ws) (k := k)).length_eq.symm.trans (by rw [q]; rfl)))⟩
section
variable {P : Nat → Option Fn} {wf n : Nat} {σ : Sto} {m lw lr : Nat} {ws : List Way} {r : List Nat}
set_option tactic.hygienic false in
theorem many_ok (h20 : P 20 = some fCellAt) (h24 : P 24 = some fMany) {sc : List Int} (hs : ScriptAt σ sc) : ∃ m : Nat, 1 ≤ m ∧ m ≤ 12 ∧ evFn P wf (n + 2) 24 [.ref 0] σ = .ok (.int m) σ := by
  have ec : evE (evFn P wf (n + 1)) (E.call 20 [E.loc 0, E.int 0]) (frame0 fMany [.ref 0]) σ = .ok (.int (sc.getD 0 0)) σ := e_call (es_cons (e_loc rfl) (es_cons e_int es_nil)) (cell_ok h20 hs 0)
  generalize sc.getD 0 0 = c at ec
  obtain ⟨k, hk, ek⟩ := cell_mod 6 (by decide) (c.fdiv 48)
  obtain ⟨j, hj, ej⟩ := cell_mod 6 (by decide) c
  have e1 : ∀ b, (Int.fmod (c.fdiv 6) 8 == 1) = b → evE (evFn P wf (n + 1)) (E.cmp CmpOp.Eq (E.bin Operator.Mod (E.bin Operator.FloorDiv (E.loc 1) (E.int 6)) (E.int 8)) (E.int 1)) [some (.ref 0), some (.int c), none] σ = .ok (.bool b) σ := fun b hb => e_cmp (e_bin (e_bin (e_loc rfl) e_int (b_fdiv (by decide) (by decide))) e_int (b_fmod (by decide))) e_int (congrArg some hb)
  cases hb : (Int.fmod (c.fdiv 6) 8 == 1) with
  | true => exact ⟨7 + k, by lia, by lia, f_ret h24 rfl (s_asg' ec (by decide : 1 < 3) (s_if_ret (e1 _ hb) (s_ret' (e_bin e_int (e_bin (e_bin (e_loc rfl) e_int (b_fdiv (by decide) (by decide))) e_int ((b_fmod (by decide)).trans (congrArg (fun z => RE.ok (.int z) _) ek))) (rfl : _ = RE.ok (.int ((7 + k : Nat) : Int)) _)))))⟩
  | false => exact ⟨1 + j, by lia, by lia, f_ret h24 rfl (s_asg' ec (by decide : 1 < 3) (s_skip (e1 _ hb) (s_ret' (e_bin e_int (e_bin (e_loc rfl) e_int ((b_fmod (by decide)).trans (congrArg (fun z => RE.ok (.int z) _) ej))) (rfl : _ = RE.ok (.int ((1 + j : Nat) : Int)) _)))))⟩
end
end Mine

set_option autoImplicit false
set_option linter.unusedVariables false
namespace Mine
open PySem

set_option tactic.hygienic false in
theorem getD_ap {l l' : List Nat} {i : Nat} (h : i < l.length) : (l ++ l').getD i 0 = l.getD i 0 := by
  rw [List.getD_eq_getElem?_getD, List.getElem?_append_left h, List.getD_eq_getElem?_getD]
set_option tactic.hygienic false in
theorem getD_at {l l' : List Nat} {x i : Nat} (h : i = l.length) : (l ++ x :: l').getD i 0 = x := by
  subst h; rw [List.getD_eq_getElem?_getD, List.getElem?_append_right (Nat.le_refl _), Nat.sub_self]; rfl
set_option tactic.hygienic false in
theorem getD_drop {l : List Nat} {k i : Nat} : (l.drop k).getD i 0 = l.getD (k + i) 0 := by
  rw [List.getD_eq_getElem?_getD, List.getElem?_drop, List.getD_eq_getElem?_getD]
structure Gone (ws : List Way) (m : Nat) (r : List Nat) (h : Nat) : Prop where
  nd : r.Nodup
  lt : ∀ x ∈ r, x < m
  hl : h < m
  way : ∀ i, i < r.length → between ws ((r ++ [h]).getD i 0) ((r ++ [h]).getD (i + 1) 0) ≠ []
section
variable {m h : Nat} {ws : List Way} {r : List Nat}
set_option tactic.hygienic false in
theorem len_snoc {x : Nat} : (r ++ [x]).length = r.length + 1 := List.length_append
set_option tactic.hygienic false in
theorem Gone.on (g : Gone ws m r h) (hn : h ∉ r) {h' : Nat} (hl : h' < m) (hw : between ws h h' ≠ []) : Gone ws m (r ++ [h]) h' := by
  refine ⟨List.nodup_append.mpr ⟨g.nd, List.nodup_cons.mpr ⟨nofun, List.nodup_nil⟩, fun x hx y hy e => hn ?_⟩, fun x hx => ?_, hl, fun i hi => ?_⟩
  · rw [List.mem_singleton.mp hy] at e; rwa [← e]
  · rcases mem_snoc hx with hx | rfl
    · exact g.lt x hx
    · exact g.hl
  · rw [getD_ap hi]
    by_cases e : i = r.length
    · rw [getD_at e, getD_at (by rw [e, len_snoc])]; exact hw
    · rw [len_snoc] at hi
      have hi' : i < r.length := Nat.lt_of_le_of_ne (Nat.le_of_lt_succ hi) e
      rw [getD_ap (l := r ++ [h]) (by rw [len_snoc]; exact Nat.succ_lt_succ hi')]
      exact g.way i hi'
set_option tactic.hygienic false in
theorem Gone.ring (g : Gone ws m r h) {k : Nat} (hk : r[k]? = some h) : RingOk ws m (r.drop k) := by
  obtain ⟨hk1, hk2⟩ := List.getElem?_eq_some_iff.mp hk
  have hkd : r.getD k 0 = h := by rw [getD_lt hk1]; exact hk2
  have hl : (r.drop k).length = r.length - k := List.length_drop
  refine ⟨fun q => ?_, g.nd.sublist (List.drop_sublist _ _), fun x hx => g.lt x (List.mem_of_mem_drop hx), fun i hi => ?_⟩
  · rw [q] at hl; exact absurd hl (Nat.ne_of_lt (Nat.sub_pos_of_lt hk1))
  · rw [hl] at hi ⊢
    have hw := g.way (k + i) (Nat.add_lt_of_lt_sub' hi)
    rw [getD_ap (Nat.add_lt_of_lt_sub' hi)] at hw
    rw [getD_drop, getD_drop]
    by_cases e : i + 1 = r.length - k
    · rw [e, Nat.mod_self, Nat.add_zero, hkd]
      rwa [getD_at (by lia)] at hw
    · have hi' : i + 1 < r.length - k := Nat.lt_of_le_of_ne hi e
      rw [Nat.mod_eq_of_lt hi']
      rwa [Nat.add_assoc, getD_ap (Nat.add_lt_of_lt_sub' hi')] at hw
end
section
variable {P : Nat → Option Fn} {wf n : Nat} {σ : Sto} {m lw : Nat} {ws : List Way} {sc : List Int} {M : Nat}
end
end Mine

set_option autoImplicit false
set_option linter.unusedVariables false
namespace Mine
open PySem

section
variable {P : Nat → Option Fn} {wf n : Nat} {σ σ1 : Sto} {m lw : Nat} {ws : List Way} {sc : List Int}
structure StirG (P : Nat → Option Fn) (wf m : Nat) (ws : List Way) : Prop where
  T : DefsT P
  h18 : P 18 = some fSettled
  h19 : P 19 = some fStirred
  H : Defs2 P
  HW : DefsW P
  h14 : P 14 = some fTurned
  h20 : P 20 = some fCellAt
  G : WebGood m ws
  hw : 9999 * 27720 < wf
set_option tactic.hygienic false in
theorem StirG.fl (S : StirG P wf m ws) : StirG P wf m (flip ws) := ⟨S.T, S.h18, S.h19, S.H, S.HW, S.h14, S.h20, S.G.flip, S.hw⟩
set_option tactic.hygienic false in
theorem ways10_len (H : DefsL P 10000) (h25 : P 25 = some (fWays 1 14 13 waysTail)) (m1 : 1 ≤ m) (m2 : m ≤ 12) :
    ∃ ws l σ', ws.length ≤ 36 ∧ WebGood m ws ∧ evFn P wf (n + 2) 25 [.ref 0, .int m] [.frz (sc.map V.int), .tab false] = .ok (.ref l) σ' ∧ ScriptAt σ' sc ∧ σ'[1]? = some (.tab true) ∧ σ'[l]? = some (.lst (ws.map wayV)) := by
  obtain ⟨ws, o, τ, x4, x5, L, e2⟩ := ways_front (P := P) (wf := wf) (n := n) (j := 1) (size := 14) (md := 13) (tail := waysTail) (σ := [.frz (sc.map V.int), .tab false]) (sc := sc) (m := m) H (by decide) rfl rfl m1 m2 (by decide) (by decide) (rest0 := [none, none, none, none, none, none, none, none]) rfl (by decide : 1 < 8)
  have hl : (ws.map wayV).length ≤ 16777216 := by rw [List.length_map]; exact Nat.le_trans L.len (by lia)
  have h3 : (wayS ([.frz (sc.map V.int), .tab true] ++ [o]) ws τ)[3]? = some (.lst (ws.map wayV)) := rfl
  have hs : ScriptAt (wayS ([.frz (sc.map V.int), .tab true] ++ [o]) ws τ) sc := rfl
  have ht : (wayS ([.frz (sc.map V.int), .tab true] ++ [o]) ws τ)[1]? = some (.tab true) := rfl
  generalize hσ : wayS ([.frz (sc.map V.int), .tab true] ++ [o]) ws τ = σ at *
  have hlen : 1 ≤ (ws.map wayV).length := by rw [List.length_map]; exact Nat.pos_of_ne_zero fun e => L.ne (List.length_eq_zero_iff.mp e)
  obtain ⟨k, hk, e6⟩ := cell_e (wf := wf) (n := n) (P := P) H.h20 hs (fr := wayF m 2 3 x4 x5 [none, some (.int (sc.getD 1 0)), none, none, none, none, none, none]) (e := E.blt BN.len [E.loc 3]) (k := 2) rfl (e_blt (es_cons (e_loc rfl) es_nil) (b_len' h3)) hlen
  have hd : ((ws.map wayV).drop k).length + ((ws.map wayV).take k).length ≤ 16777216 := by rw [List.length_drop, List.length_take]; lia
  have hd1 := Nat.le_trans (Nat.le_add_right _ _) hd
  have hd2 := Nat.le_trans (Nat.le_add_left _ _) hd
  have c2 : evFn P wf (n + 2) 25 [.ref 0, .int m] [.frz (sc.map V.int), .tab false] = .ok (.ref _) (σ ++ [.lst ((ws.map wayV).drop k)] ++ [.lst ((ws.map wayV).take k)] ++ [.lst ((ws.map wayV).drop k ++ (ws.map wayV).take k)]) :=
    f_ret h25 rfl (e2 _ (by
      show evSs (evFn P wf (n + 1)) wf waysTail (wayF m 2 3 x4 x5 [none, some (.int (sc.getD 1 0)), none, none, none, none, none, none]) (wayS ([.frz (sc.map V.int), .tab true] ++ [o]) ws τ) = _
      rw [hσ]
      exact s_asg' e6 (by decide : 6 < 14) (s_ret' (e_bin (e_slo (e_loc rfl) (e_loc rfl) (getL_some h3) (newL_fits hd1)) (e_shi (e_loc rfl) (e_loc rfl) (getL_some (ap h3)) (newL_fits hd2)) (add_lst (ap ap_new) ap_new hd)))))
  rw [show (ws.map wayV).drop k ++ (ws.map wayV).take k = (ws.drop k ++ ws.take k).map wayV by rw [List.map_append, List.map_drop, List.map_take]] at c2
  exact ⟨_, _, _, Nat.le_trans L.rot.len (by lia), L.rot.good m1 m2 (by lia) (Nat.le_refl _), c2, ap (ap (ap hs)), ap (ap (ap ht)), ap_new⟩
set_option tactic.hygienic false in
theorem eqv_ways (us : List Way) : PyData.eqvAll (us.map wayD) (us.map wayD) = true := by
  induction us with
  | nil => rfl
  | cons w us ih =>
    show (((w.1 : Int) == (w.1 : Int) && ((w.2.1 : Int) == (w.2.1 : Int) && ((w.2.2 : Int) == (w.2.2 : Int) && true))) && PyData.eqvAll (us.map wayD) (us.map wayD)) = true
    rw [ih, beq_self_eq_true, beq_self_eq_true, beq_self_eq_true]; rfl
set_option tactic.hygienic false in
theorem ne_ways {l k : Nat} (h : σ[l]? = some (.lst (ws.map wayV))) (h' : σ[k]? = some (.lst (ws.map wayV))) : cmpV .NotEq (.ref l) (.ref k) σ = some false := by
  show (eqV σ (.ref l) (.ref k)).map (!·) = _
  unfold eqV
  rw [toD_lst h wayD_of, toD_lst h' wayD_of]
  show some (!PyData.eqvAll (ws.map wayD) (ws.map wayD)) = _
  rw [eqv_ways]; rfl
end
end Mine

set_option autoImplicit false
set_option linter.unusedVariables false
namespace Mine
open PySem

set_option tactic.hygienic false in
theorem tf' {P : Prop} (h : true = false) : P := nomatch h
set_option tactic.hygienic false in
theorem and_inv' {a b : Bool} : (a && b) = true → a = true ∧ b = true := Bool.casesOn a (fun h => nomatch h) fun h => ⟨rfl, h⟩
set_option tactic.hygienic false in
theorem not_inv' {a : Bool} : (!a) = true → a = false := Bool.casesOn a (fun _ => rfl) fun h => nomatch h
section
variable {call callH : Nat → List V → Sto → RE} {wf : Nat} {fr fr1 fr2 : Fra} {σ σ1 σ2 : Sto} {t a : E} {ss bs os : List S} {x c i : Nat} {es : List E} {vs : List V} {r : RS}
set_option tactic.hygienic false in
theorem s_raise : evSs call wf (.raise c :: ss) fr σ = .ex c fr σ := rfl
set_option tactic.hygienic false in
theorem s_ex {s : S} (h : evS call wf s fr σ = .ex x fr1 σ1) : evSs call wf (s :: ss) fr σ = .ex x fr1 σ1 := by
  show (match evS call wf s fr σ with | .ok .next fr σ => evSs call wf ss fr σ | r => r) = _; rw [h]
set_option tactic.hygienic false in
theorem s_if_ex (h : evE call t fr σ = .ok (.bool true) σ1) (h1 : evSs call wf bs fr σ1 = .ex x fr1 σ2) : evSs call wf (.ifS t bs os :: ss) fr σ = .ex x fr1 σ2 := s_ex ((if_t h).trans h1)
set_option tactic.hygienic false in
theorem s_asg_ex (hc : isCallE a = true) (h : evE call a fr σ = .ex x σ1) : evSs call wf (.asg i a :: ss) fr σ = .ex x fr σ1 := s_ex (by
  show (evE call a fr σ).bindX (isCallE a) fr _ = _; rw [h, hc]; rfl)
set_option tactic.hygienic false in
theorem e_mk_ex {k : Nat} (h : evEs call es fr σ = .ok vs σ1) (h2 : call k (.ref (σ1.length + 1) :: vs) (σ1 ++ [.att [], .inst σ1.length]) = .ex x σ2) : evE call (.mk k es) fr σ = .ex x σ2 := by
  show (evEs call es fr σ).bind _ = _; rw [h]
  show (match call k (.ref (σ1.length + 1) :: vs) (σ1 ++ [.att [], .inst σ1.length]) with | .ok .none σ' => RE.ok (.ref (σ1.length + 1)) σ' | .ok _ _ => .bad | .ex x σ' => .ex x σ' | .bad => .bad) = _
  rw [h2]
set_option tactic.hygienic false in
theorem f_ex {P : Nat → Option Fn} {n k : Nat} {fn : Fn} (hP : P k = some fn) (hl : vs.length = fn.ps.length) (h : evSs (evFn P wf n) wf fn.body (frame0 fn vs) σ = .ex x fr1 σ1) : evFn P wf (n + 1) k vs σ = .ex x σ1 := by
  rw [evFn, hP]; dsimp only; rw [if_pos hl, h]
set_option tactic.hygienic false in
theorem forL_chk {α : Type} {g : α → V} {bad : α → Bool} {F : Option V → Fra} {j l : Nat} {xs : List V} (hF : ∀ y v, bindT [j] true v (F y) = some (F (some v))) (hl : getL σ l = some xs) : ∀ (ws : List α) (n i : Nat) (y : Option V), xs.drop i = ws.map g → ws.length < n →
    (∀ w ∈ ws, evE call t (F (some (g w))) σ = .ok (.bool (bad w)) σ) → ∃ z, forL [j] true (evSs call wf [.ifS t [.raise c] []]) l n i (F y) σ = if ws.any bad then .ex c (F z) σ else .ok .next (F z) σ
  | [], n + 1, i, y, hd, hn, hb => by
    have hi : xs[i]? = none := List.getElem?_eq_none_iff.mpr (List.drop_eq_nil_iff.mp hd)
    exact ⟨y, by rw [forL, hl]; dsimp only; rw [hi]; rfl⟩
  | w :: ws, n + 1, i, y, hd, hn, hb => by
    have hi : xs[i]? = some (g w) := by
      have := congrArg (fun l => l[0]?) hd
      simpa using this
    have hd' : xs.drop (i + 1) = ws.map g := by rw [← List.drop_drop, hd]; rfl
    cases q : bad w with
    | true =>
      refine ⟨some (g w), ?_⟩
      have hr := s_if_ex (wf := wf) (ss := []) (os := []) ((hb w (.head _)).trans (by rw [q])) (s_raise (c := c) (ss := []))
      rw [forL, hl]; dsimp only; rw [hi]; dsimp only; rw [hF]; dsimp only; rw [hr, List.any_cons, q]; rfl
    | false =>
      obtain ⟨z, hz⟩ := forL_chk hF hl ws n (i + 1) (some (g w)) hd' (Nat.lt_of_succ_lt_succ hn) fun w hw => hb w (.tail _ hw)
      have hr := s_skip (wf := wf) (ss := []) (bs := [S.raise c]) ((hb w (.head _)).trans (by rw [q])) s_nil
      refine ⟨z, ?_⟩
      rw [forL, hl]; dsimp only; rw [hi]; dsimp only; rw [hF]; dsimp only; rw [hr, List.any_cons, q]; exact hz
set_option tactic.hygienic false in
theorem s_chk {α : Type} {g : α → V} {bad : α → Bool} {F : Option V → Fra} {j l : Nat} {y : Option V} {it : E} {ws : List α} (hit : evE call it (F y) σ = .ok (.ref l) σ) (hF : ∀ y v, bindT [j] true v (F y) = some (F (some v))) (hl : getL σ l = some (ws.map g)) (hb : ∀ w ∈ ws, evE call t (F (some (g w))) σ = .ok (.bool (bad w)) σ) :
    ∃ z, evS call wf (.forS [j] true (.e it) [.ifS t [.raise c] []]) (F y) σ = if ws.any bad then .ex c (F z) σ else .ok .next (F z) σ := by
  obtain ⟨z, h⟩ := forL_chk (call := call) (wf := wf) (c := c) hF hl ws ((ws.map g).length + 1) 0 y rfl (by rw [List.length_map]; exact Nat.lt_succ_self _) hb
  refine ⟨z, ?_⟩
  show (evE call it (F y) σ).bindS (F y) _ = _
  rw [hit]
  show (match getL σ l with | some xs => forL [j] true (evSs call wf [.ifS t [.raise c] []]) l (xs.length + 1) 0 (F y) σ | none => .bad) = _
  rw [hl]; exact h

noncomputable def isTry0 : S → Bool | .tryS _ _ _ _ => true | _ => false
set_option tactic.hygienic false in
theorem tr_one {s : S} (hs : isTry0 s = false) (h : evS call wf s fr σ = .ok .next fr1 σ1) (h2 : evT call callH wf ss fr1 σ1 = r) : evT call callH wf (s :: ss) fr σ = r := by
  have key : evT call callH wf (s :: ss) fr σ = (match evS call wf s fr σ with | .ok f fr σ => (match f with | .next => evT call callH wf ss fr σ | f => .ok f fr σ) | _ => .bad) := by
    cases s <;> first | rfl | exact tf' hs
  rw [key, h]; exact h2
set_option tactic.hygienic false in
theorem tr_end {s : S} {f : Fl} (hs : isTry0 s = false) (h : evS call wf s fr σ = .ok f fr1 σ1) (hf : f ≠ .next) : evT call callH wf (s :: ss) fr σ = .ok f fr1 σ1 := by
  have key : evT call callH wf (s :: ss) fr σ = (match evS call wf s fr σ with | .ok f fr σ => (match f with | .next => evT call callH wf ss fr σ | f => .ok f fr σ) | _ => .bad) := by
    cases s <;> first | rfl | exact tf' hs
  rw [key, h]
  cases f <;> first | rfl | exact absurd rfl hf
set_option tactic.hygienic false in
theorem tr_all {f : Fl} (hs : ss.all (fun s => !isTry0 s) = true) (h : evSs call wf ss fr σ = .ok f fr1 σ1) : evT call callH wf ss fr σ = .ok f fr1 σ1 := by
  induction ss generalizing fr σ with
  | nil => exact h
  | cons s ss ih =>
    have h1 := and_inv' (show (!isTry0 s && ss.all fun s => !isTry0 s) = true from hs)
    have h : (match evS call wf s fr σ with | .ok .next fr σ => evSs call wf ss fr σ | r => r) = .ok f fr1 σ1 := h
    cases q : evS call wf s fr σ with
    | ok f2 fr2 σ2 =>
      rw [q] at h
      cases f2 with
      | next => exact tr_one (not_inv' h1.1) q (ih h1.2 h)
      | _ => cases h; exact tr_end (not_inv' h1.1) q (fun e => nomatch e)
    | ex x fr2 σ2 => rw [q] at h; cases h
    | bad => rw [q] at h; cases h
set_option tactic.hygienic false in
theorem tr_pre {pre : List S} (hs : pre.all (fun s => !isTry0 s) = true) (h : evSs call wf pre fr σ = .ok .next fr1 σ1) (h2 : evT call callH wf ss fr1 σ1 = r) : evT call callH wf (pre ++ ss) fr σ = r := by
  induction pre generalizing fr σ with
  | nil => cases h; exact h2
  | cons s pre ih =>
    have h1 := and_inv' (show (!isTry0 s && pre.all fun s => !isTry0 s) = true from hs)
    have h : (match evS call wf s fr σ with | .ok .next fr σ => evSs call wf pre fr σ | r => r) = .ok .next fr1 σ1 := h
    cases q : evS call wf s fr σ with
    | ok f2 fr2 σ2 =>
      rw [q] at h
      cases f2 with
      | next => exact tr_one (not_inv' h1.1) q (ih h1.2 h)
      | _ => cases h
    | ex x fr2 σ2 => rw [q] at h; cases h
    | bad => rw [q] at h; cases h
set_option tactic.hygienic false in
theorem tr_try {b h : List S} {ds : List Nat} : evT call callH wf (.tryS b ds i h :: ss) fr σ = (match evSs call wf b fr σ with
      | .ok f fr σ => (match f with | .next => evT call callH wf ss fr σ | f => .ok f fr σ)
      | .ex x fr σ => if ds.contains x ∧ i < fr.length then (match evSs callH wf h (fr.set i (some (.exc x))) σ with
        | .ok f fr σ => (match f with | .next => evT call callH wf ss (fr.set i none) σ | f => .ok f (fr.set i none) σ)
        | _ => .bad) else .bad
      | .bad => .bad) := rfl
set_option tactic.hygienic false in
theorem tr_ok {b h : List S} {ds : List Nat} (hb : evSs call wf b fr σ = .ok .next fr1 σ1) (h2 : evT call callH wf ss fr1 σ1 = r) : evT call callH wf (.tryS b ds i h :: ss) fr σ = r := by
  rw [tr_try, hb]; exact h2
set_option tactic.hygienic false in
theorem tr_ex {b h : List S} {ds : List Nat} (hb : evSs call wf b fr σ = .ex x fr1 σ1) (hx : ds.contains x = true) (hi : i < fr1.length) (hh : evSs callH wf h (fr1.set i (some (.exc x))) σ1 = .ok .next fr2 σ2) (h2 : evT call callH wf ss (fr2.set i none) σ2 = r) : evT call callH wf (.tryS b ds i h :: ss) fr σ = r := by
  rw [tr_try, hb]; dsimp only; rw [if_pos ⟨hx, hi⟩, hh]; exact h2
end
end Mine

set_option autoImplicit false
set_option linter.unusedVariables false
namespace Mine
open PySem

noncomputable def metIf : List S := [S.ifS (E.cmp CmpOp.In (E.loc 4) (E.loc 2)) [S.asgI (E.loc 2) (E.loc 5) (E.bool true)] []]
noncomputable def fMet : Fn := { ps := [0, 1], size := 8, body :=
  [S.asg 2 ((E.int 0).dict1 (E.bool true)), S.forS [3] true (It.e (E.blt BN.range [E.loc 0])) [S.forS [4, 5] false (It.e (E.loc 1)) metIf], S.ret (E.blt BN.len [E.loc 2])] }
noncomputable def ppV (w : Way) : V := .tup [.int w.1, .int w.2.1]

noncomputable def stepM (F : List Nat) (w : Way) : List Nat := if w.1 ∈ F then (if w.2.1 ∈ F then F else F ++ [w.2.1]) else F
structure Met (m : Nat) (ws : List Way) (F : List Nat) : Prop where
  nd : F.Nodup
  lt : ∀ v ∈ F, v < m
  mn : ∀ v ∈ F, Least ws v
  zero : 0 ∈ F
def Closed (ws : List Way) (F : List Nat) : Prop := ∀ w ∈ ws, w.1 ∈ F → w.2.1 ∈ F
section
variable {m : Nat} {ws us : List Way} {F : List Nat} {w : Way}
set_option tactic.hygienic false in
theorem Met.step (M : Met m ws F) (hw : w ∈ ws) (hm : ∀ w ∈ ws, w.1 < m ∧ w.2.1 < m) : Met m ws (stepM F w) := by
  unfold stepM
  by_cases h1 : w.1 ∈ F
  · rw [if_pos h1]
    by_cases h2 : w.2.1 ∈ F
    · rw [if_pos h2]; exact M
    · rw [if_neg h2]
      refine ⟨List.nodup_append.mpr ⟨M.nd, by simp, fun x hx y hy e => h2 (by rw [← List.mem_singleton.mp hy, ← e]; exact hx)⟩, fun v hv => ?_, fun v hv => ?_, List.mem_append_left _ M.zero⟩
      · rcases List.mem_append.mp hv with hv | hv
        · exact M.lt v hv
        · rw [List.mem_singleton.mp hv]; exact (hm w hw).2
      · rcases List.mem_append.mp hv with hv | hv
        · exact M.mn v hv
        · rw [List.mem_singleton.mp hv]; exact fun G g0 gs => gs _ hw (M.mn _ h1 G g0 gs)
  · rw [if_neg h1]; exact M
set_option tactic.hygienic false in
theorem Met.fold (hm : ∀ w ∈ ws, w.1 < m ∧ w.2.1 < m) : ∀ {us : List Way} {F : List Nat}, Met m ws F → (∀ w ∈ us, w ∈ ws) → Met m ws (us.foldl stepM F)
  | [], _, M, _ => M
  | w :: us, F, M, h => Met.fold (us := us) (F := stepM F w) hm (M.step (h w (.head _)) hm) fun u hu => h u (.tail _ hu)
set_option tactic.hygienic false in
theorem step_le : F.length ≤ (stepM F w).length := by
  unfold stepM
  split
  · split
    · exact Nat.le_refl _
    · rw [List.length_append]; exact Nat.le_add_right _ _
  · exact Nat.le_refl _
set_option tactic.hygienic false in
theorem fold_le : ∀ {us : List Way} {F : List Nat}, F.length ≤ (us.foldl stepM F).length
  | [], _ => Nat.le_refl _
  | w :: us, F => Nat.le_trans step_le (fold_le (us := us))
set_option tactic.hygienic false in
theorem fold_cl : ∀ {us : List Way} {F : List Nat}, (us.foldl stepM F).length = F.length → Closed us F ∧ us.foldl stepM F = F
  | [], F, _ => ⟨fun _ h => (nomatch h), rfl⟩
  | w :: us, F, h => by
    have h0 : (us.foldl stepM (stepM F w)).length = F.length := h
    have h1 : (stepM F w).length = F.length := Nat.le_antisymm (h0 ▸ fold_le (us := us)) step_le
    have h2 : stepM F w = F ∧ (w.1 ∈ F → w.2.1 ∈ F) := by
      unfold stepM at h1 ⊢
      by_cases a : w.1 ∈ F
      · rw [if_pos a] at h1 ⊢
        by_cases b : w.2.1 ∈ F
        · rw [if_pos b]; exact ⟨rfl, fun _ => b⟩
        · rw [if_neg b, List.length_append] at h1; exact absurd h1 (Nat.succ_ne_self _)
      · rw [if_neg a]; exact ⟨rfl, fun q => absurd q a⟩
    rw [h2.1] at h0
    obtain ⟨c1, c2⟩ := fold_cl h0
    refine ⟨fun u hu => ?_, ?_⟩
    · rcases List.mem_cons.mp hu with rfl | hu
      · exact h2.2
      · exact c1 u hu
    · show us.foldl stepM (stepM F w) = F
      rw [h2.1]; exact c2
noncomputable def passes (ws : List Way) : Nat → List Nat → List Nat
  | 0, F => F
  | k + 1, F => ws.foldl stepM (passes ws k F)
theorem passes_ok (hm : ∀ w ∈ ws, w.1 < m ∧ w.2.1 < m) (M : Met m ws F) : ∀ k, Met m ws (passes ws k F) ∧ (Closed ws (passes ws k F) ∨ k + F.length ≤ (passes ws k F).length)
  | 0 => ⟨M, .inr (Nat.le_of_eq (Nat.zero_add _))⟩
  | k + 1 => by
    obtain ⟨h1, h2⟩ := passes_ok hm M k
    refine ⟨Met.fold hm h1 fun _ h => h, ?_⟩
    show Closed ws (ws.foldl stepM (passes ws k F)) ∨ k + 1 + F.length ≤ (ws.foldl stepM (passes ws k F)).length
    have h3 := fold_le (us := ws) (F := passes ws k F)
    by_cases e : (ws.foldl stepM (passes ws k F)).length = (passes ws k F).length
    · obtain ⟨c1, c2⟩ := fold_cl e
      rw [c2]; exact .inl c1
    · rcases h2 with h2 | h2
      · have : ws.foldl stepM (passes ws k F) = passes ws k F := fold_id h2
        rw [this] at e; exact absurd rfl e
      · right; lia
where
  fold_id {ws : List Way} {F : List Nat} (h : Closed ws F) : ws.foldl stepM F = F := by
    induction ws with
    | nil => rfl
    | cons w ws ih =>
      have : stepM F w = F := by
        unfold stepM
        split
        · rename_i a; rw [if_pos (h w (.head _) a)]
        · rfl
      show ws.foldl stepM (stepM F w) = F
      rw [this]; exact ih fun u hu => h u (.tail _ hu)
set_option tactic.hygienic false in
theorem met_start (m1 : 1 ≤ m) : Met m ws [0] := ⟨by simp, fun v hv => by rw [List.mem_singleton.mp hv]; exact m1, fun v hv => by rw [List.mem_singleton.mp hv]; exact fun G g0 _ => g0, .head _⟩
set_option tactic.hygienic false in
theorem passes_closed (hm : ∀ w ∈ ws, w.1 < m ∧ w.2.1 < m) (m1 : 1 ≤ m) : Met m ws (passes ws m [0]) ∧ Closed ws (passes ws m [0]) := by
  obtain ⟨h1, h2⟩ := passes_ok hm (met_start (ws := ws) m1) m
  refine ⟨h1, h2.resolve_right fun h => ?_⟩
  have := nodup_lt m _ h1.nd h1.lt
  have : [0].length = 1 := rfl
  lia
end

section
variable {P : Nat → Option Fn} {wf n : Nat} {σ : Sto} {lp m : Nat} {ws : List Way} {F : List Nat}
noncomputable def metF (m lp d : Nat) (x3 x4 x5 : Option V) : Fra := [some (.int m), some (.ref lp), some (.ref d), x3, x4, x5, none, none]
set_option tactic.hygienic false in
theorem keys_put_in {x : Nat} : ∀ {F : List Nat}, x ∈ F → putI (x : Int) (.bool true) (keysV F) = keysV F
  | [], h => nomatch h
  | v :: F, h => by
    show (if ((v : Int) == (x : Int)) then ((v : Int), V.bool true) :: keysV F else ((v : Int), V.bool true) :: putI (x : Int) (.bool true) (keysV F)) = _
    by_cases e : v = x
    · subst e; rw [beq_self_eq_true, if_pos rfl]; rfl
    · rw [nat_beq, if_neg (by simpa using e), keys_put_in ((List.mem_cons.mp h).resolve_left (Ne.symm e))]; rfl
set_option tactic.hygienic false in
theorem met_put {x : Nat} (hl : F.length ≤ 1000) : setIdx (.ref σ.length) (.int x) (.bool true) (σ ++ [.dI (keysV F)]) = some (σ ++ [.dI (keysV (if x ∈ F then F else F ++ [x]))]) := by
  unfold setIdx; dsimp only; rw [ap_new]; dsimp only
  rw [if_pos (by unfold keysV; rw [List.length_map]; lia), set_new]
  by_cases h : x ∈ F
  · rw [if_pos h, keys_put_in h]
  · rw [if_neg h, keys_put h]
set_option tactic.hygienic false in
theorem met_in {x : Nat} : cmpV .In (.int x) (.ref σ.length) (σ ++ [.dI (keysV F)]) = some (decide (x ∈ F)) := by
  show inV (σ ++ [.dI (keysV F)]) (.int x) (.ref σ.length) = _
  unfold inV; dsimp only; rw [ap_new]; dsimp only
  rw [keys_any]
inductive MetI (σ : Sto) (m lp : Nat) (x3 : Option V) (F : Nat → List Nat) (i : Nat) : Fra → Sto → Prop
  | mk (x4 x5 : Option V) : MetI σ m lp x3 F i (metF m lp σ.length x3 x4 x5) (σ ++ [.dI (keysV (F i))])
inductive MetJ (σ : Sto) (m lp : Nat) (F : Nat → List Nat) (i : Nat) : Fra → Sto → Prop
  | mk (x3 x4 x5 : Option V) : MetJ σ m lp F i (metF m lp σ.length x3 x4 x5) (σ ++ [.dI (keysV (F i))])
set_option tactic.hygienic false in
theorem take_step {i : Nat} {w : Way} (h : ws[i]? = some w) : (ws.take (i + 1)).foldl stepM F = stepM ((ws.take i).foldl stepM F) w := by
  rw [List.take_add_one, h, List.foldl_append]; rfl
set_option tactic.hygienic false in
theorem met_turn {call : Nat → List V → Sto → RE} {x3 x4 x5 : Option V} {i : Nat} {w : Way} (hw : ws[i]? = some w) (hl : ((ws.take i).foldl stepM F).length ≤ 1000) :
    Turn [4, 5] false (evSs call wf metIf) (ppV w) (metF m lp σ.length x3 x4 x5) (σ ++ [.dI (keysV ((ws.take i).foldl stepM F))]) (MetI σ m lp x3 (fun i => (ws.take i).foldl stepM F) (i + 1)) (fun _ _ => False) := by
  refine ⟨metF m lp σ.length x3 (some (.int w.1)) (some (.int w.2.1)), rfl, .inl ?_⟩
  have test := e_cmp (call := call) (op := .In) (fr := metF m lp σ.length x3 (some (.int w.1)) (some (.int w.2.1))) (e_loc (i := 4) rfl) (e_loc (i := 2) rfl) (met_in (σ := σ) (x := w.1) (F := (ws.take i).foldl stepM F))
  by_cases h : w.1 ∈ (ws.take i).foldl stepM F
  · refine ⟨_, _, s_if_t (test.trans (by rw [decide_eq_true h])) (s_asgI' e_bool (e_loc rfl) (e_loc rfl) (met_put hl) s_nil) s_nil, ?_⟩
    have : (ws.take (i + 1)).foldl stepM F = if w.2.1 ∈ (ws.take i).foldl stepM F then (ws.take i).foldl stepM F else (ws.take i).foldl stepM F ++ [w.2.1] := (take_step hw).trans (if_pos h)
    rw [← this]; exact ⟨_, _⟩
  · refine ⟨_, _, s_skip (test.trans (by rw [decide_eq_false h])) s_nil, ?_⟩
    have : (ws.take (i + 1)).foldl stepM F = (ws.take i).foldl stepM F := (take_step hw).trans (if_neg h)
    rw [← this]; exact ⟨_, _⟩
set_option tactic.hygienic false in
theorem met_ok (h27 : P 27 = some fMet) (hlp : σ[lp]? = some (.lst (ws.map ppV))) (hm : ∀ w ∈ ws, w.1 < m ∧ w.2.1 < m) (m1 : 1 ≤ m) (m2 : m ≤ 12) :
    ∃ τ F, Met m ws F ∧ Closed ws F ∧ evFn P wf (n + 1) 27 [.int m, .ref lp] σ = .ok (.int F.length) (σ ++ τ) := by
  obtain ⟨M, cl⟩ := passes_closed hm m1
  obtain ⟨fr1, σ1, e1, x3, x4, x5⟩ := (s_forR (call := evFn P wf n) (wf := wf) (tg := [3]) (one := true) (ws := List.range m) (g := fun (v : Nat) => V.int v) (it := E.blt BN.range [E.loc 0]) (bs := [S.forS [4, 5] false (It.e (E.loc 1)) metIf]) (fr := metF m lp σ.length none none none) (σ := σ ++ [.dI (keysV [0])])
    (MetJ σ m lp fun k => passes ws k [0]) (fun _ _ => False) (e_blt (es_cons (e_loc rfl) es_nil) (b_range' (by lia))) (rng_nat m)
    (by
      rintro k v _ _ hv ⟨x3, x4, x5⟩
      obtain ⟨_, rfl⟩ := range_get hv
      obtain ⟨Mk, _⟩ := passes_ok hm (met_start (ws := ws) m1) k
      obtain ⟨fr2, σ2, e2, y4, y5⟩ := (s_forL (call := evFn P wf n) (wf := wf) (tg := [4, 5]) (one := false) (ws := ws) (g := ppV) (it := E.loc 1) (bs := metIf) (fr := metF m lp σ.length (some (.int k)) x4 x5) (σ := σ ++ [.dI (keysV (passes ws k [0]))])
        (MetI σ m lp (some (.int k)) fun i => (ws.take i).foldl stepM (passes ws k [0])) (fun _ _ => False) (e_loc rfl) (by rintro i _ _ ⟨y4, y5⟩; exact getL_some (ap hlp))
        (by
          rintro i w _ _ hw ⟨y4, y5⟩
          refine met_turn hw ?_
          have Mi := Mk.fold hm (us := ws.take i) fun u hu => List.mem_of_mem_take hu
          have := nodup_lt m _ Mi.nd Mi.lt
          lia) (by exact ⟨_, _⟩)).next
      refine ⟨_, rfl, .inl ⟨_, _, s_cons e2 s_nil, ?_⟩⟩
      rw [List.take_length]
      exact ⟨_, _, _⟩) ⟨_, _, _⟩).next
  rw [List.length_range] at e1
  refine ⟨[.dI (keysV (passes ws m [0]))], passes ws m [0], M, cl, f_ret h27 rfl (s_asg' (e_dict1 e_int e_bool) (by decide : 2 < 8) (s_cons e1 (s_ret' (e_blt (es_cons (e_loc rfl) es_nil) ?_))))⟩
  show ofOpt _ ((lenV (.ref σ.length) _).map V.int) = _
  unfold lenV; dsimp only; rw [ap_new]; dsimp only
  show RE.ok (.int ((keysV (passes ws m [0])).length : Nat)) _ = _
  unfold keysV
  rw [List.length_map]
end
end Mine

set_option autoImplicit false
set_option linter.unusedVariables false
namespace Mine
open PySem

abbrev IWay := Int × Int × Int
noncomputable def wayI (w : IWay) : V := .tup [.int w.1, .int w.2.1, .int w.2.2]
noncomputable def toI (w : Way) : IWay := (w.1, w.2.1, w.2.2)
noncomputable def badEnd (m : Int) (w : IWay) : Bool := !(decide (0 ≤ w.1) && decide (w.1 ≤ m - 1)) || !(decide (0 ≤ w.2.1) && decide (w.2.1 ≤ m - 1))
noncomputable def badDel (w : IWay) : Bool := !(decide (0 ≤ w.2.2) && decide (w.2.2 ≤ 9999))
set_option tactic.hygienic false in
theorem to_ways (us : List Way) : (us.map toI).map wayI = us.map wayV := by rw [List.map_map]; rfl
structure Joined (m : Nat) (us : List Way) : Prop where
  ne : us ≠ []
  fw : ∀ v, v < m → Least us v
  bw : ∀ v, v < m → Least (flip us) v
structure Fits (m : Nat) (us : List Way) : Prop where
  m1 : 1 ≤ m
  m2 : m ≤ 12
  hz : us.length ≤ 60
  hm : ∀ w ∈ us, w.1 < m ∧ w.2.1 < m
  hd : ∀ w ∈ us, w.2.2 ≤ 9999
inductive Due : Int → List IWay → Option Nat → Prop
  | count {m : Int} {ws : List IWay} (h : m < 1 ∨ 12 < m ∨ 60 < ws.length) : Due m ws (some 0)
  | meeting {m : Int} {ws : List IWay} (h1 : 1 ≤ m) (h2 : m ≤ 12) (h3 : ws.length ≤ 60) (h : ws.any (badEnd m) = true) : Due m ws (some 1)
  | delay {m : Int} {ws : List IWay} (h1 : 1 ≤ m) (h2 : m ≤ 12) (h3 : ws.length ≤ 60) (h4 : ws.any (badEnd m) = false) (h : ws.any badDel = true) : Due m ws (some 2)
  | apart {m : Nat} {us : List Way} (F : Fits m us) (h : ¬ Joined m us) : Due m (us.map toI) (some 3)
  | fine {m : Nat} {us : List Way} (F : Fits m us) (h : Joined m us) : Due m (us.map toI) none
set_option tactic.hygienic false in
theorem nat_ways {m : Int} : ∀ {ws : List IWay}, ws.any (badEnd m) = false → ws.any badDel = false → ∃ us : List Way, ws = us.map toI ∧ (∀ w ∈ us, (w.1 : Int) < m ∧ (w.2.1 : Int) < m) ∧ ∀ w ∈ us, w.2.2 ≤ 9999
  | [], _, _ => ⟨[], rfl, (fun _ h => nomatch h), fun _ h => nomatch h⟩
  | w :: ws, h1, h2 => by
    rw [List.any_cons, Bool.or_eq_false_iff] at h1 h2
    obtain ⟨us, e, a, b⟩ := nat_ways h1.2 h2.2
    obtain ⟨x, y, z⟩ := w
    have h3 := h1.1; have h4 := h2.1
    simp only [badEnd, badDel, Bool.or_eq_false_iff, Bool.not_eq_false', Bool.and_eq_true, decide_eq_true_eq] at h3 h4
    refine ⟨(x.toNat, y.toNat, z.toNat) :: us, ?_, fun u hu => ?_, fun u hu => ?_⟩
    · rw [e, List.map_cons]
      unfold toI
      rw [Int.toNat_of_nonneg h3.1.1, Int.toNat_of_nonneg h3.2.1, Int.toNat_of_nonneg h4.1]
    · rcases List.mem_cons.mp hu with rfl | hu
      · constructor <;> dsimp only <;> lia
      · exact a u hu
    · rcases List.mem_cons.mp hu with rfl | hu
      · dsimp only; lia
      · exact b u hu
set_option tactic.hygienic false in
theorem due_ex (m : Int) (ws : List IWay) : ∃ k, Due m ws k := by
  by_cases h : m < 1 ∨ 12 < m ∨ 60 < ws.length
  · exact ⟨_, .count h⟩
  · rw [not_or, not_or] at h
    have h1 : 1 ≤ m := by lia
    have h2 : m ≤ 12 := by lia
    have h3 : ws.length ≤ 60 := by lia
    cases q1 : ws.any (badEnd m) with
    | true => exact ⟨_, .meeting h1 h2 h3 q1⟩
    | false =>
      cases q2 : ws.any badDel with
      | true => exact ⟨_, .delay h1 h2 h3 q1 q2⟩
      | false =>
        obtain ⟨us, rfl, a, b⟩ := nat_ways q1 q2
        obtain ⟨m', rfl⟩ : ∃ m' : Nat, m = m' := ⟨m.toNat, by lia⟩
        rw [List.length_map] at h3
        have F : Fits m' us := ⟨by lia, by lia, h3, fun w hw => by have := a w hw; lia, b⟩
        by_cases j : Joined m' us
        · exact ⟨_, .fine F j⟩
        · exact ⟨_, .apart F j⟩
set_option tactic.hygienic false in
theorem Least.reach {us : List Way} {v : Nat} (h : Least us v) : Reach us 0 v := h (Reach us 0) Reach.self fun w hw r => r.trans (Reach.one (d := w.2.2) hw)
set_option tactic.hygienic false in
theorem Joined.good {m : Nat} {us : List Way} (F : Fits m us) (J : Joined m us) : WebGood m us := by
  refine ⟨F.m1, F.m2, F.hz, F.hm, F.hd, fun a b ha hb => ?_, J.ne⟩
  have h1 := (J.bw a ha).reach.flip
  rw [flip_flip] at h1
  exact h1.trans (J.fw b hb).reach
set_option tactic.hygienic false in
theorem Fits.flip {m : Nat} {us : List Way} (F : Fits m us) : Fits m (Mine.flip us) := by
  refine ⟨F.m1, F.m2, ?_, fun w hw => ?_, fun w hw => ?_⟩
  · unfold Mine.flip; rw [List.length_map]; exact F.hz
  · obtain ⟨u, hu, rfl⟩ := List.mem_map.mp hw
    exact ⟨(F.hm u hu).2, (F.hm u hu).1⟩
  · obtain ⟨u, hu, rfl⟩ := List.mem_map.mp hw
    exact F.hd u hu
set_option tactic.hygienic false in
theorem come_iff {m : Nat} {us : List Way} {F : List Nat} (C : Come m F [] (fun _ => []) us) : F.length = m ↔ ∀ v, v < m → Least us v := by
  constructor
  · intro h v hv
    refine C.mn v ?_
    refine Decidable.byContradiction fun hn => ?_
    have := nodup_lt m (v :: F) (List.nodup_cons.mpr ⟨hn, C.nd⟩) fun x hx => (List.mem_cons.mp hx).elim (fun e => e ▸ hv) (C.lt x)
    rw [List.length_cons, h] at this
    exact Nat.not_succ_le_self _ this
  · intro h
    refine Nat.le_antisymm (nodup_lt m F C.nd C.lt) ?_
    have := (List.nodup_range (n := m)).length_le_of_subset (l₂ := F) fun v hv => h v (List.mem_range.mp hv) (· ∈ F) C.zero fun w hw h => C.cl w hw h (fun q => nomatch q) fun q => nomatch q
    rwa [List.length_range] at this

section
variable {P : Nat → Option Fn} {wf n : Nat} {σ : Sto} {lw m : Nat} {us : List Way}
set_option tactic.hygienic false in
theorem is_joined_f (h9 : P 9 = some fComeTo) (h10 : P 10 = some fIsJoined) (hlw : σ[lw]? = some (.lst (us.map wayV))) (F : Fits m us) (hJ : ¬ Joined m us) (hw : 14 ≤ wf) : ∃ τ, evFn P wf (n + 2) 10 [.int m, .ref lw] σ = .ok (.bool false) (σ ++ τ) := by
  have et : evE (evFn P wf (n + 1)) (E.cmp CmpOp.Eq (E.loc 1) (E.list [])) (frame0 fIsJoined [.int m, .ref lw]) σ = .ok (.bool (us.map wayD).isEmpty) (σ ++ [.lst []]) := by
    refine e_cmp (e_loc rfl) (e_list es_nil (newL_fits (by decide : 0 ≤ 16777216))) ?_
    exact eqV_nil (ap hlw) wayD_of ap_new
  by_cases hne : us = []
  · subst hne
    exact ⟨_, f_ret h10 rfl (s_if_ret et (s_ret' e_bool))⟩
  · have et' := et.trans (show _ = RE.ok (.bool false) (σ ++ [.lst []]) by
      cases us with
      | nil => exact absurd rfl hne
      | cons => rfl)
    obtain ⟨τ1, F1, C1, a1, a2⟩ := come_to_F (wf := wf) (n := n) (σ := σ ++ [.lst []] ++ [.lst ((flip us).map wayV)]) h9 (ap (ap hlw)) F.hm F.m1 F.m2 hw
    obtain ⟨τ2, F2, C2, b1, b2⟩ := come_to_F (wf := wf) (n := n) (σ := σ ++ [.lst []] ++ [.lst ((flip us).map wayV)] ++ τ1) (lw := (σ ++ [AO.lst []]).length) h9 (ap ap_new) F.flip.hm F.m1 F.m2 hw
    have e1 := e_cmp (op := .Eq) (fr := [some (.int m), some (.ref lw), some (.ref (σ ++ [AO.lst []]).length), none, none]) (e_blt (es_cons (e_call (es_cons (e_loc (i := 0) rfl) (es_cons (e_loc (i := 1) rfl) es_nil)) a1) es_nil) a2) (e_loc (i := 0) rfl) (congrArg some (nat_beq F1.length m))
    have e2 := e_cmp (op := .Eq) (fr := [some (.int m), some (.ref lw), some (.ref (σ ++ [AO.lst []]).length), none, none]) (e_blt (es_cons (e_call (es_cons (e_loc (i := 0) rfl) (es_cons (e_loc (i := 2) rfl) es_nil)) b1) es_nil) b2) (e_loc (i := 0) rfl) (congrArg some (nat_beq F2.length m))
    by_cases h1 : F1.length = m
    · have h2 : F2.length ≠ m := fun h2 => hJ ⟨hne, (come_iff C1).mp h1, (come_iff C2).mp h2⟩
      refine ⟨[.lst []] ++ [.lst ((flip us).map wayV)] ++ τ1 ++ τ2, f_ret h10 rfl (s_skip et' (s_asg' (e_flip (e_loc rfl) (ap hlw) F.hz) (by decide : 2 < 5) (s_ret' (e_and_t (e1.trans (by rw [h1, beq_self_eq_true])) (e2.trans ?_)))))⟩
      rw [show (F2.length == m) = false from beq_eq_false_iff_ne.mpr h2, List.append_assoc, List.append_assoc, List.append_assoc, List.append_assoc, List.append_assoc]
    · refine ⟨[.lst []] ++ [.lst ((flip us).map wayV)] ++ τ1, f_ret h10 rfl (s_skip et' (s_asg' (e_flip (e_loc rfl) (ap hlw) F.hz) (by decide : 2 < 5) (s_ret' (e_and_f (e1.trans ?_)))))⟩
      rw [show (F1.length == m) = false from beq_eq_false_iff_ne.mpr h1, List.append_assoc, List.append_assoc, List.append_assoc]
end
end Mine

set_option autoImplicit false
set_option linter.unusedVariables false
namespace Mine
open PySem

section
variable {P : Nat → Option Fn} {wf n : Nat} {σ : Sto} {lw : Nat} {m : Int} {ws : List IWay}
noncomputable def initF (σ : Sto) (m : Int) (lw : Nat) (x3 : Option V) : Fra := [some (.ref (σ.length + 1)), some (.int m), some (.ref lw), x3, none, none, none, none, none, none, none, none, none, none, none]
noncomputable def badE1 : E := (E.call 8 [(E.loc 3).sub (E.int 0), E.int 0, E.bin Operator.Sub (E.loc 1) (E.int 1)]).not.or (E.call 8 [(E.loc 3).sub (E.int 1), E.int 0, E.bin Operator.Sub (E.loc 1) (E.int 1)]).not
noncomputable def badE2 : E := (E.call 8 [(E.loc 3).sub (E.int 2), E.int 0, E.int 9999]).not
noncomputable def initRest : List S := [S.ifS (E.call 10 [E.loc 1, E.loc 2]).not [S.raise (xc 3)] [], S.asgA (E.loc 0) 0 (E.loc 1), S.asgA (E.loc 0) 1 (E.blt BN.list [E.loc 2])]
set_option tactic.hygienic false in
theorem init_ex (H : DefsW P) (hlw : σ[lw]? = some (.lst (ws.map wayI))) {k : Nat} (D : Due m ws (some k)) (hw : 14 ≤ wf) :
    ∃ τ, evFn P wf (n + 3) 11 [.ref (σ.length + 1), .int m, .ref lw] (σ ++ [.att [], .inst σ.length]) = .ex (xc k) (σ ++ τ) := by
  have hl := ap (τ := [.att [], .inst σ.length]) hlw
  have t1 : evE (evFn P wf (n + 2)) (E.call 8 [E.loc 1, E.int 1, E.int 12]).not (initF σ m lw none) (σ ++ [.att [], .inst σ.length]) = .ok (.bool (!(decide (1 ≤ m) && decide (m ≤ 12)))) (σ ++ [.att [], .inst σ.length]) := e_not (e_call (es_cons (e_loc rfl) (es_cons e_int (es_cons e_int es_nil))) (is_whole_ok H.h8 m 1 12))
  have t2 : evE (evFn P wf (n + 2)) (E.cmp CmpOp.Gt (E.blt BN.len [E.loc 2]) (E.int 60)) (initF σ m lw none) (σ ++ [.att [], .inst σ.length]) = .ok (.bool (decide ((60 : Int) < ws.length))) (σ ++ [.att [], .inst σ.length]) := by
    refine e_cmp (e_blt (es_cons (e_loc rfl) es_nil) (b_len' hl)) e_int ?_
    rw [List.length_map]; rfl
  have head : 1 ≤ m → m ≤ 12 → ws.length ≤ 60 → ∀ r, evSs (evFn P wf (n + 2)) wf (S.forS [3] true (It.e (E.loc 2)) [S.ifS badE1 [S.raise (xc 1)] []] :: S.forS [3] true (It.e (E.loc 2)) [S.ifS badE2 [S.raise (xc 2)] []] :: initRest) (initF σ m lw none) (σ ++ [.att [], .inst σ.length]) = r →
      evSs (evFn P wf (n + 2)) wf fInit.body (frame0 fInit [.ref (σ.length + 1), .int m, .ref lw]) (σ ++ [.att [], .inst σ.length]) = r := fun h1 h2 h3 r hr =>
    s_skip (t1.trans (by rw [decide_eq_true h1, decide_eq_true h2]; rfl)) (s_skip (t2.trans (by rw [decide_eq_false (by lia)])) hr)
  have wh : ∀ (x lo hi : Int), evFn P wf (n + 2) 8 [.int x, .int lo, .int hi] (σ ++ [.att [], .inst σ.length]) = .ok (.bool (decide (lo ≤ x) && decide (x ≤ hi))) (σ ++ [.att [], .inst σ.length]) := fun x lo hi => is_whole_ok H.h8 x lo hi
  have c1 : ∀ y, ∃ z, evS (evFn P wf (n + 2)) wf (S.forS [3] true (It.e (E.loc 2)) [S.ifS badE1 [S.raise (xc 1)] []]) (initF σ m lw y) (σ ++ [.att [], .inst σ.length]) = if ws.any (badEnd m) then .ex (xc 1) (initF σ m lw z) (σ ++ [.att [], .inst σ.length]) else .ok .next (initF σ m lw z) (σ ++ [.att [], .inst σ.length]) := fun y =>
    s_chk (F := initF σ m lw) (g := wayI) (bad := badEnd m) (e_loc rfl) (fun y v => rfl) (getL_some hl) fun w hw =>
      e_or (e_not (e_call (es_cons (e_sub (e_loc rfl) e_int rfl) (es_cons e_int (es_cons (e_bin (e_loc rfl) e_int rfl) es_nil))) (wh _ _ _))) fun _ => e_not (e_call (es_cons (e_sub (e_loc rfl) e_int rfl) (es_cons e_int (es_cons (e_bin (e_loc rfl) e_int rfl) es_nil))) (wh _ _ _))
  have c2 : ∀ y, ∃ z, evS (evFn P wf (n + 2)) wf (S.forS [3] true (It.e (E.loc 2)) [S.ifS badE2 [S.raise (xc 2)] []]) (initF σ m lw y) (σ ++ [.att [], .inst σ.length]) = if ws.any badDel then .ex (xc 2) (initF σ m lw z) (σ ++ [.att [], .inst σ.length]) else .ok .next (initF σ m lw z) (σ ++ [.att [], .inst σ.length]) := fun y =>
    s_chk (F := initF σ m lw) (g := wayI) (bad := badDel) (e_loc rfl) (fun y v => rfl) (getL_some hl) fun w hw => e_not (e_call (es_cons (e_sub (e_loc rfl) e_int rfl) (es_cons e_int (es_cons e_int es_nil))) (wh _ _ _))
  cases D with
  | count h =>
    refine ⟨[.att [], .inst σ.length], f_ex (fr1 := initF σ m lw none) H.h11 rfl ?_⟩
    by_cases h1 : 1 ≤ m ∧ m ≤ 12
    · exact s_skip (t1.trans (by rw [decide_eq_true h1.1, decide_eq_true h1.2]; rfl)) (s_if_ex (t2.trans (by rw [decide_eq_true (by lia)])) s_raise)
    · refine s_if_ex (t1.trans ?_) s_raise
      have : (decide (1 ≤ m) && decide (m ≤ 12)) = false := by rw [Bool.eq_false_iff]; intro q; rw [Bool.and_eq_true, decide_eq_true_eq, decide_eq_true_eq] at q; exact h1 q
      rw [this]; rfl
  | meeting h1 h2 h3 h =>
    obtain ⟨z, e⟩ := c1 none
    rw [if_pos h] at e
    exact ⟨_, f_ex H.h11 rfl (head h1 h2 h3 _ (s_ex e))⟩
  | delay h1 h2 h3 h4 h =>
    obtain ⟨z, e⟩ := c1 none
    rw [if_neg (by rw [h4]; decide)] at e
    obtain ⟨z2, e2⟩ := c2 z
    rw [if_pos h] at e2
    exact ⟨_, f_ex H.h11 rfl (head h1 h2 h3 _ (s_cons e (s_ex e2)))⟩
  | @apart m us F hJ =>
    rw [to_ways] at hl
    have h4 : (us.map toI).any (badEnd m) = false := by
      rw [List.any_map, List.any_eq_false]
      intro w hw
      have := F.hm w hw
      simp only [Function.comp, toI, badEnd, Bool.not_eq_true, Bool.or_eq_false_iff, Bool.not_eq_false', Bool.and_eq_true, decide_eq_true_eq]
      lia
    have h5 : (us.map toI).any badDel = false := by
      rw [List.any_map, List.any_eq_false]
      intro w hw
      have := F.hd w hw
      simp only [Function.comp, toI, badDel, Bool.not_eq_true, Bool.not_eq_false', Bool.and_eq_true, decide_eq_true_eq]
      lia
    obtain ⟨z, e⟩ := c1 none
    rw [if_neg (by rw [h4]; decide)] at e
    obtain ⟨z2, e2⟩ := c2 z
    rw [if_neg (by rw [h5]; decide)] at e2
    obtain ⟨τ, ej⟩ := is_joined_f (wf := wf) (n := n) H.h9 H.h10 hl F hJ hw
    rw [List.append_assoc] at ej
    have := F.m1; have := F.m2; have := F.hz
    exact ⟨_, f_ex H.h11 rfl (head (by lia) (by lia) (by rw [List.length_map]; exact F.hz) _ (s_cons e (s_cons e2 (s_if_ex (e_notF (e_call (es_cons (e_loc rfl) (es_cons (e_loc rfl) es_nil)) ej)) s_raise))))⟩
end
end Mine

set_option autoImplicit false
set_option linter.unusedVariables false
namespace Mine
open PySem

noncomputable def words : List Str := ["count", "meeting", "delay", "apart"]
noncomputable def wordOf : Option Nat → Str
  | none => ""
  | some k => words.getD k ""
noncomputable def eEnds : E := E.comp [1] true (E.loc 1) [(E.cmp2 CmpOp.LtE CmpOp.Lt (E.int 0) ((E.loc 1).sub (E.int 0)) (E.loc 2)).not.or (E.cmp2 CmpOp.LtE CmpOp.Lt (E.int 0) ((E.loc 1).sub (E.int 1)) (E.loc 2)).not] (E.loc 1) [none, none, some 0]
noncomputable def eDels : E := E.comp [1] true (E.loc 1) [(E.cmp2 CmpOp.LtE CmpOp.LtE (E.int 0) ((E.loc 1).sub (E.int 2)) (E.int 9999)).not] (E.loc 1) [none, none]
noncomputable def ePairs (i j : Int) : E := E.comp [1] true (E.loc 1) [] (E.tup [(E.loc 1).sub (E.int i), (E.loc 1).sub (E.int j)]) [none, none]
noncomputable def fDue : Fn := { ps := [0, 1], size := 4, body :=
  [S.ifS ((E.cmp CmpOp.Lt (E.loc 0) (E.int 1)).or ((E.cmp CmpOp.Gt (E.loc 0) (E.int 12)).or (E.cmp CmpOp.Gt (E.blt BN.len [E.loc 1]) (E.int 60)))) [S.ret (E.str "count")] [],
    S.ifS (E.cmp CmpOp.NotEq eEnds (E.list [])) [S.ret (E.str "meeting")] [],
    S.ifS (E.cmp CmpOp.NotEq eDels (E.list [])) [S.ret (E.str "delay")] [],
    S.ifS ((E.cmp CmpOp.Eq (E.loc 1) (E.list [])).or (E.cmp CmpOp.Lt (E.call 27 [E.loc 0, ePairs 0 1]) (E.loc 0))) [S.ret (E.str "apart")] [],
    S.ifS (E.cmp CmpOp.Lt (E.call 27 [E.loc 0, ePairs 1 0]) (E.loc 0)) [S.ret (E.str "apart")] [],
    S.ret (E.str "")] }

set_option tactic.hygienic false in
theorem any_filter {α : Type} {p : α → Bool} : ∀ (ws : List α), ws.any p = !(ws.filter p).isEmpty
  | [] => rfl
  | w :: ws => by
    rw [List.any_cons, List.filter_cons]
    cases p w with
    | true => rfl
    | false => exact any_filter ws
section
variable {P : Nat → Option Fn} {wf n : Nat} {σ : Sto} {lw : Nat} {m : Int} {ws : List IWay}
noncomputable def wayID (w : IWay) : PyData := .tuple [.int w.1, .int w.2.1, .int w.2.2]
set_option tactic.hygienic false in
theorem wayID_of {σ : Sto} {ws : List IWay} : mapO (toD 4 σ) (ws.map wayI) = some (ws.map wayID) := mapO_map fun _ _ => rfl
set_option tactic.hygienic false in
theorem ne_nilI {l k : Nat} {us : List IWay} (h : σ[l]? = some (.lst (us.map wayI))) (hk : σ[k]? = some (.lst [])) : cmpV .NotEq (.ref l) (.ref k) σ = some (!us.isEmpty) := by
  show (eqV σ (.ref l) (.ref k)).map (!·) = _
  rw [eqV_nil h wayID_of hk]
  cases us <;> rfl
noncomputable def dueF (m : Int) (lw : Nat) : Fra := [some (.int m), some (.ref lw), none, none]
set_option tactic.hygienic false in
theorem e_bads {call : Nat → List V → Sto → RE} {c el : E} {frm : List (Option Nat)} {bad : IWay → Bool} (hlw : σ[lw]? = some (.lst (ws.map wayI))) (hz : ws.length ≤ 100) (hp : ∀ w ∈ ws, Turn1 [1] true (testL (evTs call [c])) (evE call el) (subFr (dueF m lw) frm) σ (wayI w) (bad w) (wayI w)) :
    ∃ τ, evE call (E.cmp CmpOp.NotEq (E.comp [1] true (E.loc 1) [c] el frm) (E.list [])) (dueF m lw) σ = .ok (.bool (ws.any bad)) (σ ++ τ) := by
  have hl : ((ws.filter bad).map wayI).length ≤ 16777216 := by rw [List.length_map]; exact Nat.le_trans (List.length_filter_le _ _) (Nat.le_trans hz (by decide))
  refine ⟨[.lst ((ws.filter bad).map wayI)] ++ [.lst []], (e_cmp (e_comp (ws := ws) (g := wayI) (p := bad) (f := wayI) (e_loc rfl) (getL_some hlw) hp (newL_fits hl)) (e_list es_nil (newL_fits (by decide : 0 ≤ 16777216))) (ne_nilI (ap ap_new) ap_new)).trans ?_⟩
  rw [any_filter, List.append_assoc]
set_option tactic.hygienic false in
theorem e_pairs {call : Nat → List V → Sto → RE} {us : List Way} {lw m : Nat} {i j : Int} {f : Way → Way} (hlw : σ[lw]? = some (.lst (us.map wayV))) (hz : us.length ≤ 60) (hf : ∀ w, subV (wayV w) (.int i) σ = some (.int (f w).1) ∧ subV (wayV w) (.int j) σ = some (.int (f w).2.1)) :
    evE call (ePairs i j) (dueF m lw) σ = .ok (.ref σ.length) (σ ++ [.lst ((us.map f).map ppV)]) := by
  refine e_comp (ws := us) (g := wayV) (p := fun _ => true) (f := fun w => ppV (f w)) (e_loc rfl) (getL_some hlw) (fun w hw => ⟨_, rfl, t_nil, fun _ => e_tup (es_cons (e_sub (e_loc rfl) e_int (hf w).1) (es_cons (e_sub (e_loc rfl) e_int (hf w).2) es_nil)) (by decide : 2 ≤ 1000)⟩) ?_
  rw [List.filter_eq_self.mpr (fun _ _ => rfl), List.map_map]
  exact newL_fits (by rw [List.length_map]; exact Nat.le_trans hz (by decide))
set_option tactic.hygienic false in
theorem e_met (h27 : P 27 = some fMet) {us : List Way} {lw m : Nat} {i j : Int} {f : Way → Way} (hlw : σ[lw]? = some (.lst (us.map wayV))) (hz : us.length ≤ 60) (m1 : 1 ≤ m) (m2 : m ≤ 12) (hm : ∀ w ∈ us.map f, w.1 < m ∧ w.2.1 < m) (hf : ∀ w, subV (wayV w) (.int i) σ = some (.int (f w).1) ∧ subV (wayV w) (.int j) σ = some (.int (f w).2.1)) :
    ∃ τ b, evE (evFn P wf (n + 1)) (E.cmp CmpOp.Lt (E.call 27 [E.loc 0, ePairs i j]) (E.loc 0)) (dueF m lw) σ = .ok (.bool b) (σ ++ τ) ∧ (b = false ↔ ∀ v, v < m → Least (us.map f) v) := by
  obtain ⟨τ, F, M, cl, e⟩ := met_ok (wf := wf) (n := n) (σ := σ ++ [.lst ((us.map f).map ppV)]) h27 ap_new hm m1 m2
  refine ⟨[.lst ((us.map f).map ppV)] ++ τ, decide ((F.length : Int) < m), ?_, ?_⟩
  · rw [← List.append_assoc]
    exact e_cmp (e_call (es_cons (e_loc rfl) (es_cons (e_pairs hlw hz hf) es_nil)) e) (e_loc rfl) rfl
  · have hl := nodup_lt m F M.nd M.lt
    rw [decide_eq_false_iff_not]
    constructor
    · intro h v hv
      refine M.mn v ?_
      refine Decidable.byContradiction fun hn => ?_
      have := nodup_lt m (v :: F) (List.nodup_cons.mpr ⟨hn, M.nd⟩) fun x hx => (List.mem_cons.mp hx).elim (fun e => e ▸ hv) (M.lt x)
      rw [List.length_cons] at this
      lia
    · intro h
      have := (List.nodup_range (n := m)).length_le_of_subset (l₂ := F) fun v hv => h v (List.mem_range.mp hv) (· ∈ F) M.zero cl
      rw [List.length_range] at this
      lia
set_option tactic.hygienic false in
theorem due_ok (h27 : P 27 = some fMet) (h28 : P 28 = some fDue) (hlw : σ[lw]? = some (.lst (ws.map wayI))) (hz : ws.length ≤ 100) {k : Option Nat} (D : Due m ws k) : ∃ τ, evFn P wf (n + 2) 28 [.int m, .ref lw] σ = .ok (.str (wordOf k)) (σ ++ τ) := by
  have t1 : evE (evFn P wf (n + 1)) ((E.cmp CmpOp.Lt (E.loc 0) (E.int 1)).or ((E.cmp CmpOp.Gt (E.loc 0) (E.int 12)).or (E.cmp CmpOp.Gt (E.blt BN.len [E.loc 1]) (E.int 60)))) (dueF m lw) σ = .ok (.bool (decide (m < 1) || (decide (12 < m) || decide ((60 : Int) < ws.length)))) σ := by
    refine e_or (e_cmp (e_loc rfl) e_int rfl) fun _ => e_or (e_cmp (e_loc rfl) e_int rfl) fun _ => e_cmp (e_blt (es_cons (e_loc rfl) es_nil) (b_len' hlw)) e_int ?_
    rw [List.length_map]; rfl
  have t1f : 1 ≤ m → m ≤ 12 → ws.length ≤ 60 → (decide (m < 1) || (decide (12 < m) || decide ((60 : Int) < ws.length))) = false := fun h1 h2 h3 => by
    rw [decide_eq_false (by lia), decide_eq_false (by lia), decide_eq_false (by lia)]; rfl
  obtain ⟨τ2, t2⟩ := e_bads (call := evFn P wf (n + 1)) (m := m) (bad := badEnd m) (c := (E.cmp2 CmpOp.LtE CmpOp.Lt (E.int 0) ((E.loc 1).sub (E.int 0)) (E.loc 2)).not.or (E.cmp2 CmpOp.LtE CmpOp.Lt (E.int 0) ((E.loc 1).sub (E.int 1)) (E.loc 2)).not) (el := E.loc 1) (frm := [none, none, some 0]) hlw hz fun w hw => ⟨_, rfl, t_one (by
    have e1 : badEnd m w = (!(decide (0 ≤ w.1) && decide (w.1 < m)) || !(decide (0 ≤ w.2.1) && decide (w.2.1 < m))) := by
      unfold badEnd
      rw [show decide (w.1 ≤ m - 1) = decide (w.1 < m) from decide_eq_decide.mpr (by lia), show decide (w.2.1 ≤ m - 1) = decide (w.2.1 < m) from decide_eq_decide.mpr (by lia)]
    rw [e1]
    exact e_or (e_not (e_cmp2 e_int (e_sub (e_loc rfl) e_int rfl) rfl (fun _ => e_loc rfl) fun _ => rfl)) fun _ => e_not (e_cmp2 e_int (e_sub (e_loc rfl) e_int rfl) rfl (fun _ => e_loc rfl) fun _ => rfl)), fun _ => e_loc rfl⟩
  obtain ⟨τ3, t3⟩ := e_bads (call := evFn P wf (n + 1)) (m := m) (σ := σ ++ τ2) (bad := badDel) (c := (E.cmp2 CmpOp.LtE CmpOp.LtE (E.int 0) ((E.loc 1).sub (E.int 2)) (E.int 9999)).not) (el := E.loc 1) (frm := [none, none]) (ap hlw) hz fun w hw => ⟨_, rfl, t_one (e_not (e_cmp2 e_int (e_sub (e_loc rfl) e_int rfl) rfl (fun _ => e_int) fun _ => rfl)), fun _ => e_loc rfl⟩
  have nat : ∀ {m : Nat} {us : List Way}, Fits m us → (us.map toI).any (badEnd m) = false ∧ (us.map toI).any badDel = false := fun F => by
    refine ⟨?_, ?_⟩ <;> rw [List.any_map, List.any_eq_false] <;> intro w hw
    · have := F.hm w hw
      simp only [Function.comp, toI, badEnd, Bool.not_eq_true, Bool.or_eq_false_iff, Bool.not_eq_false', Bool.and_eq_true, decide_eq_true_eq]
      lia
    · have := F.hd w hw
      simp only [Function.comp, toI, badDel, Bool.not_eq_true, Bool.not_eq_false', Bool.and_eq_true, decide_eq_true_eq]
      lia
  have last : ∀ {m' : Nat} {us : List Way}, m = m' → ws = us.map toI → Fits m' us → ∃ τ b, evFn P wf (n + 2) 28 [.int m, .ref lw] σ = .ok (.str (if b then "" else "apart")) (σ ++ τ) ∧ (b = true ↔ Joined m' us) := fun {m' us} hm hws F => by
    subst hm; subst hws
    obtain ⟨n1, n2⟩ := nat F
    have f1 := t1f (by have := F.m1; lia) (by have := F.m2; lia) (by rw [List.length_map]; exact F.hz)
    rw [to_ways] at hlw
    have pre : ∀ r, evSs (evFn P wf (n + 1)) wf (fDue.body.drop 3) (dueF m' lw) (σ ++ τ2 ++ τ3) = r → evSs (evFn P wf (n + 1)) wf fDue.body (frame0 fDue [.int m', .ref lw]) σ = r := fun r hr =>
      s_skip (t1.trans (by rw [f1])) (s_skip (t2.trans (by rw [n1])) (s_skip (t3.trans (by rw [n2])) hr))
    have hl3 : (σ ++ τ2 ++ τ3)[lw]? = some (.lst (us.map wayV)) := ap (ap hlw)
    have en : evE (evFn P wf (n + 1)) (E.cmp CmpOp.Eq (E.loc 1) (E.list [])) (dueF m' lw) (σ ++ τ2 ++ τ3) = .ok (.bool (us.map wayD).isEmpty) (σ ++ τ2 ++ τ3 ++ [.lst []]) :=
      e_cmp (e_loc rfl) (e_list es_nil (newL_fits (by decide : 0 ≤ 16777216))) (eqV_nil (ap hl3) wayD_of ap_new)
    by_cases hne : us = []
    · subst hne
      refine ⟨τ2 ++ τ3 ++ [.lst []], false, ?_, ⟨(fun q => nomatch q), fun J => absurd rfl J.ne⟩⟩
      rw [← List.append_assoc, ← List.append_assoc]
      exact f_ret h28 rfl (pre _ (s_if_ret (e_or_t en) (s_ret' e_str)))
    · have en' := en.trans (show _ = RE.ok (.bool false) (σ ++ τ2 ++ τ3 ++ [.lst []]) by
        cases us with
        | nil => exact absurd rfl hne
        | cons => rfl)
      obtain ⟨τ4, b4, e4, i4⟩ := e_met (wf := wf) (n := n) (i := 0) (j := 1) (f := id) h27 (ap (τ := [.lst []]) hl3) F.hz F.m1 F.m2 (by rw [List.map_id]; exact F.hm) fun w => ⟨rfl, rfl⟩
      rw [List.map_id] at i4
      cases b4 with
      | true =>
        refine ⟨τ2 ++ τ3 ++ [.lst []] ++ τ4, false, ?_, ⟨(fun q => nomatch q), fun J => nomatch i4.mpr J.fw⟩⟩
        rw [← List.append_assoc, ← List.append_assoc, ← List.append_assoc]
        exact f_ret h28 rfl (pre _ (s_if_ret (e_or_f en' e4) (s_ret' e_str)))
      | false =>
        obtain ⟨τ5, b5, e5, i5⟩ := e_met (wf := wf) (n := n) (i := 1) (j := 0) (f := flipW) h27 (ap (τ := τ4) (ap (τ := [.lst []]) hl3)) F.hz F.m1 F.m2 F.flip.hm fun w => ⟨rfl, rfl⟩
        refine ⟨τ2 ++ τ3 ++ [.lst []] ++ τ4 ++ τ5, !b5, ?_, ?_⟩
        · rw [← List.append_assoc, ← List.append_assoc, ← List.append_assoc, ← List.append_assoc]
          cases b5 with
          | true => exact f_ret h28 rfl (pre _ (s_skip (e_or_f en' e4) (s_if_ret e5 (s_ret' e_str))))
          | false => exact f_ret h28 rfl (pre _ (s_skip (e_or_f en' e4) (s_skip e5 (s_ret' e_str))))
        · rw [Bool.not_eq_true', i5]
          exact ⟨fun h => ⟨hne, i4.mp rfl, h⟩, fun J => J.bw⟩
  cases D with
  | count h =>
    refine ⟨[], ?_⟩
    rw [List.append_nil]
    refine f_ret h28 rfl (s_if_ret (t1.trans ?_) (s_ret' e_str))
    congr 2
    simp only [Bool.or_eq_true, decide_eq_true_eq]
    lia
  | meeting h1 h2 h3 h => exact ⟨_, f_ret h28 rfl (s_skip (t1.trans (by rw [t1f h1 h2 h3])) (s_if_ret (t2.trans (by rw [h])) (s_ret' e_str)))⟩
  | delay h1 h2 h3 h4 h =>
    refine ⟨τ2 ++ τ3, ?_⟩
    rw [← List.append_assoc]
    exact f_ret h28 rfl (s_skip (t1.trans (by rw [t1f h1 h2 h3])) (s_skip (t2.trans (by rw [h4])) (s_if_ret (t3.trans (by rw [h])) (s_ret' e_str))))
  | apart F hJ =>
    obtain ⟨τ, b, e, i⟩ := last rfl rfl F
    cases b with
    | true => exact absurd (i.mp rfl) hJ
    | false => exact ⟨τ, e⟩
  | fine F hJ =>
    obtain ⟨τ, b, e, i⟩ := last rfl rfl F
    rw [i.mpr hJ] at e
    exact ⟨τ, e⟩
end
end Mine

set_option autoImplicit false
set_option linter.unusedVariables false
namespace Mine
open PySem

noncomputable def farE : List E := [(E.int 1).neg, E.loc 2, E.bin Operator.Add (E.loc 2) (E.loc 4), E.bin Operator.Sub (E.int 1).neg (E.loc 4)]
noncomputable def optS (j : Int) (i : Nat) (es : List E) : S := S.ifS (E.cmp CmpOp.Eq (E.bin Operator.Mod (E.loc 10) (E.int 4)) (E.int j)) [S.asg i ((E.list es).sub (E.bin Operator.Mod (E.bin Operator.FloorDiv (E.loc 10) (E.int 4)) (E.int 4)))] []
noncomputable def bentB : List S :=
  [S.asg 6 (E.bin Operator.Mod (E.call 20 [E.loc 0, E.bin Operator.Add (E.int 11) (E.loc 5)]) (E.blt BN.len [E.loc 3])),
    S.asgT [7, 8, 9] ((E.loc 3).sub (E.loc 6)),
    S.asg 10 (E.call 22 [E.call 20 [E.loc 0, E.bin Operator.Add (E.int 13) (E.loc 5)], E.loc 5]),
    optS 0 7 farE, optS 1 8 farE, optS 2 9 [(E.int 1).neg, E.int 10000, E.int 9999, E.bin Operator.Add (E.int 10000) (E.loc 4)],
    S.ifS (E.cmp CmpOp.Lt (E.bin Operator.Mod (E.loc 10) (E.int 4)) (E.int 3))
      [S.asg 3 (E.bin Operator.Add (E.bin Operator.Add ((E.loc 3).shi (E.loc 6)) (E.list [E.tup [E.loc 7, E.loc 8, E.loc 9]])) ((E.loc 3).slo (E.bin Operator.Add (E.loc 6) (E.int 1))))]
      [S.ifS (E.cmp CmpOp.Gt (E.blt BN.len [E.loc 3]) (E.int 1)) [S.asg 3 (E.bin Operator.Add ((E.loc 3).shi (E.loc 6)) ((E.loc 3).slo (E.bin Operator.Add (E.loc 6) (E.int 1))))] []]]
noncomputable def c15 (j : Int) : E := E.cmp CmpOp.Eq (E.bin Operator.Mod (E.call 20 [E.loc 0, E.int 15]) (E.int 6)) (E.int j)
noncomputable def q15 (e : E) : E := E.bin Operator.Mod (E.bin Operator.FloorDiv (E.call 20 [E.loc 0, E.int 15]) (E.int 6)) e
noncomputable def bentEnd : List S :=
  [S.ifS (c15 1) [S.asg 11 ((E.list [E.int 60, E.int 61, E.int 60, E.int 55, E.int 59, E.int 66]).sub (q15 (E.int 6))),
      S.asg 3 (E.bin Operator.Add (E.loc 3) (E.bin Operator.Mult (E.list [(E.loc 3).sub (E.int 0)]) (E.bin Operator.Sub (E.loc 11) (E.blt BN.len [E.loc 3]))))] [],
    S.ifS (c15 2) [S.asg 3 ((E.loc 3).shi (q15 (E.bin Operator.Add (E.blt BN.len [E.loc 3]) (E.int 1))))] [],
    S.ret (E.loc 3)]
noncomputable def fBent : Fn := { ps := [0, 1, 2], size := 17, body :=
  (S.asg 3 (E.blt BN.list [E.loc 1]) :: (S.asg 4 (E.bin Operator.Mod (E.call 20 [E.loc 0, E.int 9]) (E.pow 10 20)) :: (S.forS [5] true (It.e (E.blt BN.range [E.bin Operator.Mod (E.call 20 [E.loc 0, E.int 10]) (E.int 3)])) bentB :: bentEnd))) }

section
variable {P : Nat → Option Fn} {wf n : Nat} {σ : Sto} {sc : List Int}
noncomputable def bentF (lw : Nat) (m : Int) (lm : Nat) (far : Int) (x5 x6 x7 x8 x9 x10 x11 : Option V) : Fra := [some (.ref 0), some (.ref lw), some (.int m), some (.ref lm), some (.int far), x5, x6, x7, x8, x9, x10, x11, none, none, none, none, none]
set_option tactic.hygienic false in
theorem e_pickI {call : Nat → List V → Sto → RE} {fr : Fra} {es : List E} {zs : List Int} {e : E} {i : Nat} (h : evEs call es fr σ = .ok (zs.map V.int) σ) (he : ∀ τ, evE call e fr (σ ++ τ) = .ok (.int i) (σ ++ τ)) (hi : i < zs.length) (hz : zs.length ≤ 100) :
    evE call ((E.list es).sub e) fr σ = .ok (.int zs[i]) (σ ++ [.lst (zs.map V.int)]) := by
  refine e_sub (e_list h (newL_fits (by rw [List.length_map]; exact Nat.le_trans hz (by decide)))) (he _) (sub_lst ap_new ?_)
  rw [List.getElem?_map, List.getElem?_eq_getElem hi]; rfl
set_option tactic.hygienic false in
theorem set_same {fr : Fra} {k : Nat} {v : V} (h : fr[k]? = some (some v)) : fr.set k (some v) = fr := by
  obtain ⟨h1, h2⟩ := List.getElem?_eq_some_iff.mp h
  rw [← h2, List.set_getElem_self]
set_option tactic.hygienic false in
theorem s_opt {call : Nat → List V → Sto → RE} {fr : Fra} {N j k : Nat} {es : List E} {zs : List Int} {z : Int} (hz0 : fr[k]? = some (some (.int z))) (hN : fr[10]? = some (some (.int N))) (h4 : zs.length = 4) (h : evEs call es fr σ = .ok (zs.map V.int) σ) :
    ∃ z' τ, ∀ ss r, evSs call wf ss (fr.set k (some (.int z'))) (σ ++ τ) = r → evSs call wf (optS j k es :: ss) fr σ = r := by
  have et : evE call (E.cmp CmpOp.Eq (E.bin Operator.Mod (E.loc 10) (E.int 4)) (E.int j)) fr σ = .ok (.bool (N % 4 == j)) σ := e_cmp (e_bin (e_loc hN) e_int (b_mod (y := 4) (by decide))) e_int (congrArg some (nat_beq _ _))
  cases q : (N % 4 == j) with
  | true =>
    refine ⟨zs[N / 4 % 4]'(by rw [h4]; exact Nat.mod_lt _ (by decide)), [.lst (zs.map V.int)], fun ss r hr => s_if_t (et.trans (by rw [q])) (s_asg' (e_pickI h (fun τ => e_bin (e_bin (e_loc hN) e_int (b_div (y := 4) (by decide) (by decide))) e_int (b_mod (y := 4) (by decide))) _ (by rw [h4]; decide)) (List.getElem?_eq_some_iff.mp hz0).1 s_nil) hr⟩
  | false =>
    refine ⟨z, [], fun ss r hr => ?_⟩
    rw [set_same hz0, List.append_nil] at hr
    exact s_skip (et.trans (by rw [q])) hr
inductive BentI (σ : Sto) (lw : Nat) (m far : Int) (i : Nat) : Fra → Sto → Prop
  | mk (us : List IWay) (lm : Nat) (τ : Sto) (x5 x6 x7 x8 x9 x10 : Option V) (h : (σ ++ τ)[lm]? = some (.lst (us.map wayI))) (h1 : 1 ≤ us.length) (h2 : us.length ≤ 40) : BentI σ lw m far i (bentF lw m lm far x5 x6 x7 x8 x9 x10 none) (σ ++ τ)
set_option tactic.hygienic false in
theorem take_app {σ : Sto} {lm c : Nat} {us : List IWay} {call : Nat → List V → Sto → RE} {fr : Fra} (hm : σ[lm]? = some (.lst (us.map wayI))) (h3 : fr[3]? = some (some (.ref lm))) (h6 : fr[6]? = some (some (.int c))) (hz : us.length ≤ 1000) :
    evE call ((E.loc 3).shi (E.loc 6)) fr σ = .ok (.ref σ.length) (σ ++ [.lst ((us.take c).map wayI)]) ∧ evE call ((E.loc 3).slo (E.bin Operator.Add (E.loc 6) (E.int 1))) fr σ = .ok (.ref σ.length) (σ ++ [.lst ((us.drop (c + 1)).map wayI)]) := by
  refine ⟨e_shi (e_loc h3) (e_loc h6) (getL_some hm) ?_, e_slo (k := c + 1) (e_loc h3) (e_bin (e_loc h6) e_int rfl) (getL_some hm) ?_⟩
  · rw [← List.map_take]; exact newL_fits (by rw [List.length_map, List.length_take]; lia)
  · rw [← List.map_drop]; exact newL_fits (by rw [List.length_map, List.length_drop]; lia)
set_option tactic.hygienic false in
theorem bent_turn (HL : DefsL P 10000) (hs : ScriptAt σ sc) {lw : Nat} {m far : Int} {i : Nat} {fr : Fra} {σ' : Sto} (I : BentI σ lw m far i fr σ') : Turn [5] true (evSs (evFn P wf (n + 1)) wf bentB) (.int i) fr σ' (BentI σ lw m far (i + 1)) (fun _ _ => False) := by
  obtain ⟨us, lm, τ, x5, x6, x7, x8, x9, x10, hm, h1, h2⟩ := I
  refine ⟨bentF lw m lm far (some (.int i)) x6 x7 x8 x9 x10 none, rfl, .inl ?_⟩
  have hsc : ∀ τ, ScriptAt (σ ++ τ) sc := fun τ => ap hs
  have hlen : bltV .len [.ref lm] (σ ++ τ) = .ok (.int us.length) (σ ++ τ) := (b_len' hm).trans (by rw [List.length_map])
  obtain ⟨c, hc1, hc2⟩ := cell_mod us.length h1 (sc.getD (11 + i) 0)
  have e6 : evE (evFn P wf (n + 1)) (E.bin Operator.Mod (E.call 20 [E.loc 0, E.bin Operator.Add (E.int 11) (E.loc 5)]) (E.blt BN.len [E.loc 3])) (bentF lw m lm far (some (.int i)) x6 x7 x8 x9 x10 none) (σ ++ τ) = .ok (.int c) (σ ++ τ) :=
    e_bin (e_call (es_cons (e_loc rfl) (es_cons (e_bin e_int (e_loc rfl) (rfl : _ = RE.ok (.int ((11 + i : Nat) : Int)) _)) es_nil)) (cell_ok HL.h20 (hsc τ) (11 + i))) (e_blt (es_cons (e_loc rfl) es_nil) hlen) ((b_fmod (by lia)).trans (by rw [hc2]))
  obtain ⟨⟨a, b, d⟩, hw⟩ : ∃ w, us[c]? = some w := ⟨_, List.getElem?_eq_getElem hc1⟩
  have e7 : subV (.ref lm) (.int c) (σ ++ τ) = some (.tup [.int a, .int b, .int d]) := sub_lst hm (by rw [List.getElem?_map, hw]; rfl)
  have e10 : evE (evFn P wf (n + 1)) (E.call 22 [E.call 20 [E.loc 0, E.bin Operator.Add (E.int 13) (E.loc 5)], E.loc 5]) (bentF lw m lm far (some (.int i)) (some (.int c)) (some (.int a)) (some (.int b)) (some (.int d)) x10 none) (σ ++ τ) = .ok (.int (mixN (sc.getD (13 + i) 0) i : Nat)) (σ ++ τ) :=
    e_call (es_cons (e_call (es_cons (e_loc rfl) (es_cons (e_bin e_int (e_loc rfl) (rfl : _ = RE.ok (.int ((13 + i : Nat) : Int)) _)) es_nil)) (cell_ok HL.h20 (hsc τ) (13 + i))) (es_cons (e_loc rfl) es_nil)) (mixed_ok HL.h22)
  generalize mixN (sc.getD (13 + i) 0) i = N at e10
  have far4 : ∀ x7 x8 x9 τ, evEs (evFn P wf (n + 1)) farE (bentF lw m lm far (some (.int i)) (some (.int c)) x7 x8 x9 (some (.int N)) none) (σ ++ τ) = .ok ([-1, m, m + far, -1 - far].map V.int) (σ ++ τ) := fun x7 x8 x9 τ =>
    es_cons (e_neg e_int) (es_cons (e_loc rfl) (es_cons (e_bin (e_loc rfl) (e_loc rfl) rfl) (es_cons (e_bin (e_neg e_int) (e_loc rfl) rfl) es_nil)))
  have del4 : ∀ x7 x8 x9 τ, evEs (evFn P wf (n + 1)) [(E.int 1).neg, E.int 10000, E.int 9999, E.bin Operator.Add (E.int 10000) (E.loc 4)] (bentF lw m lm far (some (.int i)) (some (.int c)) x7 x8 x9 (some (.int N)) none) (σ ++ τ) = .ok ([-1, 10000, 9999, 10000 + far].map V.int) (σ ++ τ) := fun x7 x8 x9 τ =>
    es_cons (e_neg e_int) (es_cons e_int (es_cons e_int (es_cons (e_bin e_int (e_loc rfl) rfl) es_nil)))
  obtain ⟨a', τ1, k1⟩ := s_opt (wf := wf) (σ := σ ++ τ) (N := N) (j := 0) (k := 7) (z := a) rfl rfl rfl (far4 (some (.int a)) (some (.int b)) (some (.int d)) τ)
  have far4' := far4 (some (.int a')) (some (.int b)) (some (.int d)) (τ ++ τ1)
  rw [← List.append_assoc] at far4'
  obtain ⟨b', τ2, k2⟩ := s_opt (wf := wf) (σ := σ ++ τ ++ τ1) (N := N) (j := 1) (k := 8) (z := b) rfl rfl rfl far4'
  have del4' := del4 (some (.int a')) (some (.int b')) (some (.int d)) (τ ++ τ1 ++ τ2)
  rw [← List.append_assoc, ← List.append_assoc] at del4'
  obtain ⟨d', τ3, k3⟩ := s_opt (wf := wf) (σ := σ ++ τ ++ τ1 ++ τ2) (N := N) (j := 2) (k := 9) (z := d) rfl rfl rfl del4'
  have pre : ∀ ss r, evSs (evFn P wf (n + 1)) wf ss (bentF lw m lm far (some (.int i)) (some (.int c)) (some (.int a')) (some (.int b')) (some (.int d')) (some (.int N)) none) (σ ++ τ ++ τ1 ++ τ2 ++ τ3) = r → evSs (evFn P wf (n + 1)) wf (bentB.take 6 ++ ss) (bentF lw m lm far (some (.int i)) x6 x7 x8 x9 x10 none) (σ ++ τ) = r := fun ss r hr =>
    s_asg' e6 (by decide : 6 < 17) (s_asgT' (e_sub (e_loc rfl) (e_loc rfl) e7) rfl (s_asg' e10 (by decide : 10 < 17) (k1 _ _ (k2 _ _ (k3 _ _ hr)))))
  have hm3 : (σ ++ τ ++ τ1 ++ τ2 ++ τ3)[lm]? = some (.lst (us.map wayI)) := ap (ap (ap hm))
  have eσ : σ ++ τ ++ τ1 ++ τ2 ++ τ3 = σ ++ (τ ++ τ1 ++ τ2 ++ τ3) := by rw [List.append_assoc, List.append_assoc, List.append_assoc, List.append_assoc, List.append_assoc]
  rw [eσ] at pre hm3
  generalize τ ++ τ1 ++ τ2 ++ τ3 = τ4 at pre hm3
  have et : evE (evFn P wf (n + 1)) (E.cmp CmpOp.Lt (E.bin Operator.Mod (E.loc 10) (E.int 4)) (E.int 3)) (bentF lw m lm far (some (.int i)) (some (.int c)) (some (.int a')) (some (.int b')) (some (.int d')) (some (.int N)) none) (σ ++ τ4) = .ok (.bool (decide (((N % 4 : Nat) : Int) < 3))) (σ ++ τ4) := e_cmp (e_bin (e_loc rfl) e_int (b_mod (y := 4) (by decide))) e_int rfl
  obtain ⟨f1, _⟩ := take_app (call := evFn P wf (n + 1)) (c := c) (fr := bentF lw m lm far (some (.int i)) (some (.int c)) (some (.int a')) (some (.int b')) (some (.int d')) (some (.int N)) none) hm3 rfl rfl (by lia)
  cases q : decide (((N % 4 : Nat) : Int) < 3) with
  | true =>
    have hm5 := ap (τ := [.lst ([.tup [.int a', .int b', .int d']])]) (ap (τ := [.lst ((us.take c).map wayI)]) hm3)
    have g1 := ap (τ := [.lst ([.tup [.int a', .int b', .int d']])]) (ap_new (σ := σ ++ τ4) (o := .lst ((us.take c).map wayI)) (τ := []))
    have hl1 : ((us.take c).map wayI ++ [V.tup [.int a', .int b', .int d']]).length ≤ 100 := by rw [List.length_append, List.length_map, List.length_take]; show _ + 1 ≤ _; lia
    have e1 : evE (evFn P wf (n + 1)) (E.bin Operator.Add ((E.loc 3).shi (E.loc 6)) (E.list [E.tup [E.loc 7, E.loc 8, E.loc 9]])) (bentF lw m lm far (some (.int i)) (some (.int c)) (some (.int a')) (some (.int b')) (some (.int d')) (some (.int N)) none) (σ ++ τ4) = _ :=
      e_bin f1 (e_list (es_cons (e_tup (es_cons (e_loc rfl) (es_cons (e_loc rfl) (es_cons (e_loc rfl) es_nil))) (by decide : 3 ≤ 1000)) es_nil) (newL_fits (by decide : 1 ≤ 16777216))) (add_lst g1 ap_new (by rw [← List.length_append]; exact Nat.le_trans hl1 (by decide)))
    obtain ⟨_, f2⟩ := take_app (call := evFn P wf (n + 1)) (c := c) (fr := bentF lw m lm far (some (.int i)) (some (.int c)) (some (.int a')) (some (.int b')) (some (.int d')) (some (.int N)) none) (ap (τ := [.lst ((us.take c).map wayI ++ [.tup [.int a', .int b', .int d']])]) hm5) rfl rfl (by lia)
    have e2 := e_bin (op := .Add) e1 f2 (add_lst (ap ap_new) ap_new (by rw [List.length_map, List.length_drop]; lia))
    refine ⟨_, _, pre _ _ (s_if_t (et.trans (by rw [q])) (s_asg' e2 (by decide : 3 < 17) s_nil) s_nil), ?_⟩
    rw [List.append_assoc, List.append_assoc, List.append_assoc, List.append_assoc, List.append_assoc]
    have hlst : (us.take c).map wayI ++ [V.tup [.int a', .int b', .int d']] ++ (us.drop (c + 1)).map wayI = (us.take c ++ [(a', b', d')] ++ us.drop (c + 1)).map wayI := by rw [List.map_append, List.map_append]; rfl
    refine .mk (us.take c ++ [(a', b', d')] ++ us.drop (c + 1)) _ _ _ _ _ _ _ _ ?_ ?_ ?_
    · rw [← List.append_assoc, ← List.append_assoc, ← List.append_assoc, ← List.append_assoc, ← List.append_assoc, hlst]
      exact ap_new
    · rw [List.length_append, List.length_append]; show 1 ≤ _ + 1 + _; lia
    · rw [List.length_append, List.length_append, List.length_take, List.length_drop]; show _ + 1 + _ ≤ _; lia
  | false =>
    by_cases hu : 1 < us.length
    · obtain ⟨_, f2⟩ := take_app (call := evFn P wf (n + 1)) (c := c) (fr := bentF lw m lm far (some (.int i)) (some (.int c)) (some (.int a')) (some (.int b')) (some (.int d')) (some (.int N)) none) (ap (τ := [.lst ((us.take c).map wayI)]) hm3) rfl rfl (by lia)
      have e2 := e_bin (op := .Add) f1 f2 (add_lst (ap ap_new) ap_new (by rw [List.length_map, List.length_map, List.length_take, List.length_drop]; lia))
      refine ⟨_, _, pre _ _ (s_if_f (et.trans (by rw [q])) (s_if_t (e_cmp (p := true) (e_blt (es_cons (e_loc rfl) es_nil) (b_len' hm3)) e_int (congrArg some (decide_eq_true (by rw [List.length_map]; lia)))) (s_asg' e2 (by decide : 3 < 17) s_nil) s_nil) s_nil), ?_⟩
      rw [List.append_assoc, List.append_assoc, List.append_assoc]
      refine .mk (us.take c ++ us.drop (c + 1)) _ _ _ _ _ _ _ _ ?_ ?_ ?_
      · rw [← List.append_assoc, ← List.append_assoc, ← List.append_assoc, List.map_append]
        exact ap_new
      · rw [List.length_append, List.length_take, List.length_drop]; lia
      · rw [List.length_append, List.length_take, List.length_drop]; lia
    · exact ⟨_, _, pre _ _ (s_if_f (et.trans (by rw [q])) (s_skip (e_cmp (p := false) (e_blt (es_cons (e_loc rfl) es_nil) (b_len' hm3)) e_int (congrArg some (decide_eq_false (by rw [List.length_map]; lia)))) s_nil) s_nil), .mk us lm τ4 _ _ _ _ _ _ hm3 h1 h2⟩
end
end Mine

set_option autoImplicit false
set_option linter.unusedVariables false
namespace Mine
open PySem

noncomputable def excPair (s : Str) (k : Nat) : E := E.tup [E.str s, (E.loc 0).isi (Ty.exc (xc k) xcs)]
noncomputable def fWordOf : Fn := { ps := [0], size := 10, body :=
  [S.ifS ((E.loc 0).isi (Ty.val xcs)).not [S.ret (E.str "other")] [],
    S.asg 1 (E.list [excPair "count" 0, excPair "meeting" 1]),
    S.asg 1 (E.bin Operator.Add (E.loc 1) (E.list [excPair "delay" 2, excPair "apart" 3])),
    S.asg 1 (E.bin Operator.Add (E.loc 1) (E.list [excPair "ring" 4, excPair "pace" 5])),
    S.ret (E.bin Operator.Add (E.str "refused ") (E.join " " (E.comp [1, 2] false (E.loc 1) [E.loc 2] (E.loc 1) [none, none, none])))] }
noncomputable def lawPre : List S := [S.asg 1 (E.call 24 [E.loc 0]), S.asg 2 (E.call 26 [E.loc 0, E.call 25 [E.loc 0, E.loc 1], E.loc 1]),
  S.ifS (E.cmp CmpOp.Eq (E.bin Operator.Mod (E.call 20 [E.loc 0, E.int 16]) (E.int 5)) (E.int 1)) [S.asg 1 (E.bin Operator.Sub (E.bin Operator.Mod (E.bin Operator.FloorDiv (E.call 20 [E.loc 0, E.int 16]) (E.int 5)) (E.int 18)) (E.int 2))] [],
  S.asg 3 (E.blt BN.list [E.loc 2]), S.asg 4 (E.str "")]
noncomputable def lawTry : List S := [S.asg 5 (E.mk 11 [E.loc 1, E.loc 3]), S.ifS ((E.cmp CmpOp.NotEq ((E.loc 5).attr 0) (E.loc 1)).or (E.cmp CmpOp.NotEq ((E.loc 5).attr 1) (E.loc 2))) [S.ret (E.bool false)] []]
noncomputable def lawPost : List S := [S.asg 7 (E.call 28 [E.loc 1, E.loc 2]),
  S.ifS (E.cmp CmpOp.NotEq (E.loc 7) (E.str "")) [S.asg 7 (E.bin Operator.Add (E.str "refused ") (E.loc 7))] [],
  S.ret ((E.cmp CmpOp.Eq (E.loc 4) (E.loc 7)).and (E.cmp CmpOp.Eq (E.loc 3) (E.loc 2)))]
noncomputable def fLaw04 : Fn := { ps := [0], size := 17, body := lawPre ++ S.tryS lawTry xcs 6 [S.asg 4 (E.call 29 [E.loc 6])] :: lawPost }

section
variable {P : Nat → Option Fn} {wf n : Nat} {σ : Sto} {sc : List Int}
set_option tactic.hygienic false in
theorem bent_ok (HL : DefsL P 10000) (h26 : P 26 = some fBent) (hs : ScriptAt σ sc) {us : List Way} {lw : Nat} {m : Int} (hlw : σ[lw]? = some (.lst (us.map wayV))) (h1 : 1 ≤ us.length) (h2 : us.length ≤ 40) :
    ∃ (τ : Sto) (ws : List IWay) (l : Nat), evFn P wf (n + 2) 26 [.ref 0, .ref lw, .int m] σ = .ok (.ref l) (σ ++ τ) ∧ (σ ++ τ)[l]? = some (.lst (ws.map wayI)) ∧ ws.length ≤ 100 := by
  have hz : (us.map wayV).length ≤ 16777216 := by rw [List.length_map]; lia
  have e3 := e_blt (call := evFn P wf (n + 1)) (fr := frame0 fBent [.ref 0, .ref lw, .int m]) (es_cons (e_loc (i := 1) rfl) es_nil) (b_list' hlw hz)
  have hs1 : ScriptAt (σ ++ [.lst (us.map wayV)]) sc := ap hs
  have e4 : evE (evFn P wf (n + 1)) (E.bin Operator.Mod (E.call 20 [E.loc 0, E.int 9]) (E.pow 10 20)) ((frame0 fBent [.ref 0, .ref lw, .int m]).set 3 (some (.ref σ.length))) (σ ++ [.lst (us.map wayV)]) = .ok (.int ((sc.getD 9 0).fmod (((10 : Nat) : Int) ^ 20))) (σ ++ [.lst (us.map wayV)]) :=
    e_bin (e_call (es_cons (e_loc rfl) (es_cons e_int es_nil)) (cell_ok HL.h20 hs1 9)) e_pow (b_fmod (by decide))
  generalize (sc.getD 9 0).fmod (((10 : Nat) : Int) ^ 20) = far at e4
  obtain ⟨k, hk1, hk2⟩ := cell_mod 3 (by decide) (sc.getD 10 0)
  have er : evE (evFn P wf (n + 1)) (E.blt BN.range [E.bin Operator.Mod (E.call 20 [E.loc 0, E.int 10]) (E.int 3)]) (bentF lw m σ.length far none none none none none none none) (σ ++ [.lst (us.map wayV)]) = .ok (.rng 0 k) (σ ++ [.lst (us.map wayV)]) :=
    e_blt (es_cons (e_bin (e_call (es_cons (e_loc rfl) (es_cons e_int es_nil)) (cell_ok HL.h20 hs1 10)) e_int ((b_fmod (by decide)).trans (congrArg (fun z => RE.ok (.int z) _) hk2))) es_nil) (b_range' (by lia))
  obtain ⟨fr1, σ1, l1, vs, lm, τ, x5, x6, x7, x8, x9, x10, hm, hv1, hv2⟩ := (s_forR (call := evFn P wf (n + 1)) (wf := wf) (tg := [5]) (one := true) (ws := List.range k) (g := fun (v : Nat) => V.int v) (it := E.blt BN.range [E.bin Operator.Mod (E.call 20 [E.loc 0, E.int 10]) (E.int 3)]) (bs := bentB) (fr := bentF lw m σ.length far none none none none none none none) (σ := σ ++ [.lst (us.map wayV)])
    (BentI σ lw m far) (fun _ _ => False) er (rng_nat k)
    (by
      intro i v fr σ' hv I
      obtain ⟨hi, rfl⟩ := range_get hv
      exact bent_turn HL hs I) (.mk (us.map toI) _ _ _ _ _ _ _ _ (by rw [to_ways]; exact ap_new) (by rw [List.length_map]; exact h1) (by rw [List.length_map]; exact h2))).next
  have pre : ∀ r, evSs (evFn P wf (n + 1)) wf bentEnd (bentF lw m lm far x5 x6 x7 x8 x9 x10 none) (σ ++ τ) = r → evSs (evFn P wf (n + 1)) wf fBent.body (frame0 fBent [.ref 0, .ref lw, .int m]) σ = r := fun r hr =>
    s_asg' e3 (by decide : 3 < 17) (s_asg' e4 (by decide : 4 < 17) (s_cons l1 hr))
  have hsc : ∀ τ, ScriptAt (σ ++ τ) sc := fun τ => ap hs
  have ec : ∀ j fr τ, fr[0]? = some (some (.ref 0)) → evE (evFn P wf (n + 1)) (c15 j) fr (σ ++ τ) = .ok (.bool ((sc.getD 15 0).fmod 6 == j)) (σ ++ τ) := fun j fr τ h0 => e_cmp (e_bin (e_call (es_cons (e_loc h0) (es_cons e_int es_nil)) (cell_ok HL.h20 (hsc τ) 15)) e_int (b_fmod (by decide))) e_int rfl
  have eq : ∀ (q : Nat) e fr τ, 1 ≤ q → fr[0]? = some (some (.ref 0)) → evE (evFn P wf (n + 1)) e fr (σ ++ τ) = .ok (.int q) (σ ++ τ) → ∃ c : Nat, c < q ∧ evE (evFn P wf (n + 1)) (q15 e) fr (σ ++ τ) = .ok (.int c) (σ ++ τ) := fun q e fr τ hq h0 he => by
    obtain ⟨c, c1, c2⟩ := cell_mod q hq ((sc.getD 15 0).fdiv 6)
    exact ⟨c, c1, e_bin (e_bin (e_call (es_cons (e_loc h0) (es_cons e_int es_nil)) (cell_ok HL.h20 (hsc τ) 15)) e_int (b_fdiv (by decide) (by decide))) he ((b_fmod (by lia)).trans (by rw [c2]))⟩
  by_cases j1 : (sc.getD 15 0).fmod 6 = 1
  · have t1 : ((sc.getD 15 0).fmod 6 == 1) = true := beq_iff_eq.mpr j1
    have t2 : ((sc.getD 15 0).fmod 6 == 2) = false := beq_eq_false_iff_ne.mpr (by lia)
    obtain ⟨c, hc, e5⟩ : ∃ c : Nat, c < 6 ∧ ∀ τ', evE (evFn P wf (n + 1)) (q15 (E.int 6)) (bentF lw m lm far x5 x6 x7 x8 x9 x10 none) (σ ++ τ ++ τ') = .ok (.int c) (σ ++ τ ++ τ') := by
      obtain ⟨c, c1, c2⟩ := cell_mod 6 (by decide) ((sc.getD 15 0).fdiv 6)
      exact ⟨c, c1, fun τ' => e_bin (e_bin (e_call (es_cons (e_loc rfl) (es_cons e_int es_nil)) (cell_ok HL.h20 (ap (hsc τ)) 15)) e_int (b_fdiv (by decide) (by decide))) e_int ((b_fmod (by decide)).trans (congrArg (fun z => RE.ok (.int z) _) c2))⟩
    have e6 := e_pickI (zs := [60, 61, 60, 55, 59, 66]) (es_cons e_int (es_cons e_int (es_cons e_int (es_cons e_int (es_cons e_int (es_cons e_int es_nil)))))) e5 hc (by decide : 6 ≤ 100)
    obtain ⟨d, hd, ed⟩ : ∃ d : Nat, vs.length + d ≤ 66 ∧ ([60, 61, 60, 55, 59, 66] : List Int)[c] - (vs.length : Int) = (d : Int) := by
      have hz : 55 ≤ ([60, 61, 60, 55, 59, 66] : List Int)[c] ∧ ([60, 61, 60, 55, 59, 66] : List Int)[c] ≤ 66 := (by decide : ∀ z ∈ ([60, 61, 60, 55, 59, 66] : List Int), 55 ≤ z ∧ z ≤ 66) _ (List.getElem_mem _)
      exact ⟨(([60, 61, 60, 55, 59, 66] : List Int)[c] - (vs.length : Int)).toNat, by lia, by lia⟩
    obtain ⟨v, hv⟩ : ∃ v, vs[0]? = some v := ⟨_, List.getElem?_eq_getElem hv1⟩
    generalize AO.lst (([60, 61, 60, 55, 59, 66] : List Int).map V.int) = o at e6
    generalize ([60, 61, 60, 55, 59, 66] : List Int)[c] = z at e6 ed
    have hm1 : (σ ++ τ ++ [o])[lm]? = some (.lst (vs.map wayI)) := ap hm
    have e7 : subV (.ref lm) (.int 0) (σ ++ τ ++ [o]) = some (wayI v) := sub_lst (k := 0) hm1 (by rw [List.getElem?_map, hv]; rfl)
    have e8 : binV .Mult (.ref (σ ++ τ ++ [o]).length) (.int d) (σ ++ τ ++ [o] ++ [.lst [wayI v]]) = .ok (.ref (σ ++ τ ++ [o] ++ [AO.lst [wayI v]]).length) (σ ++ τ ++ [o] ++ [.lst [wayI v]] ++ [.lst ((List.replicate d v).map wayI)]) := by
      show repN (getL _ _) d _ = _
      rw [getL_some ap_new]
      show (if (-1000000 : Int) ≤ (d : Int) then newL (List.replicate (d : Int).toNat (wayI v)) _ else .bad) = _
      rw [if_pos (by lia), Int.toNat_natCast, List.map_replicate, newL_fits (by rw [List.length_replicate]; lia)]
    have el : bltV .len [.ref lm] (σ ++ τ ++ [o] ++ [.lst [wayI v]]) = .ok (.int vs.length) (σ ++ τ ++ [o] ++ [.lst [wayI v]]) := (b_len' (ap hm1)).trans (by rw [List.length_map])
    have e9 : evE (evFn P wf (n + 1)) (E.bin Operator.Add (E.loc 3) (E.bin Operator.Mult (E.list [(E.loc 3).sub (E.int 0)]) (E.bin Operator.Sub (E.loc 11) (E.blt BN.len [E.loc 3])))) (bentF lw m lm far x5 x6 x7 x8 x9 x10 (some (.int z))) (σ ++ τ ++ [o]) = _ :=
      e_bin (e_loc rfl) (e_bin (e_list (es_cons (e_sub (e_loc rfl) e_int e7) es_nil) (newL_fits (by decide : 1 ≤ 16777216))) (e_bin (e_loc rfl) (e_blt (es_cons (e_loc rfl) es_nil) el) (congrArg (fun z => RE.ok (V.int z) (σ ++ τ ++ [o] ++ [AO.lst [wayI v]])) ed)) e8) (add_lst (ap (ap hm1)) ap_new (by rw [List.length_map, List.length_map, List.length_replicate]; lia))
    rw [← List.map_append] at e9
    refine ⟨τ ++ [o] ++ [.lst [wayI v]] ++ [.lst ((List.replicate d v).map wayI)] ++ [.lst ((vs ++ List.replicate d v).map wayI)], vs ++ List.replicate d v, (σ ++ τ ++ [o] ++ [AO.lst [wayI v]] ++ [AO.lst ((List.replicate d v).map wayI)]).length, ?_, ?_, ?_⟩
    rotate_left
    · rw [← List.append_assoc, ← List.append_assoc, ← List.append_assoc, ← List.append_assoc]; exact ap_new
    · rw [List.length_append, List.length_replicate]; lia
    · rw [← List.append_assoc, ← List.append_assoc, ← List.append_assoc, ← List.append_assoc]
      exact f_ret h26 rfl (pre _ (s_if_t ((ec 1 _ τ rfl).trans (by rw [t1])) (s_asg' e6 (by decide : 11 < 17) (s_asg' e9 (by decide : 3 < 17) s_nil)) (s_skip (e_cmp (e_bin (e_call (es_cons (e_loc rfl) (es_cons e_int es_nil)) (cell_ok HL.h20 (ap (ap (ap (ap (hsc τ))))) 15)) e_int (b_fmod (by decide))) e_int (congrArg some t2)) (s_ret' (e_loc rfl)))))
  · have t1 : ((sc.getD 15 0).fmod 6 == 1) = false := beq_eq_false_iff_ne.mpr j1
    by_cases j2 : (sc.getD 15 0).fmod 6 = 2
    · have t2 : ((sc.getD 15 0).fmod 6 == 2) = true := beq_iff_eq.mpr j2
      have hlen : bltV .len [.ref lm] (σ ++ τ) = .ok (.int vs.length) (σ ++ τ) := (b_len' hm).trans (by rw [List.length_map])
      obtain ⟨c, hc, e5⟩ := eq (vs.length + 1) (E.bin Operator.Add (E.blt BN.len [E.loc 3]) (E.int 1)) (bentF lw m lm far x5 x6 x7 x8 x9 x10 none) τ (by lia) rfl (e_bin (e_blt (es_cons (e_loc rfl) es_nil) hlen) e_int rfl)
      refine ⟨τ ++ [.lst ((vs.take c).map wayI)], vs.take c, (σ ++ τ).length, ?_, ?_, ?_⟩
      · rw [← List.append_assoc]
        refine f_ret h26 rfl (pre _ (s_skip ((ec 1 _ τ rfl).trans (by rw [t1])) (s_if_t ((ec 2 _ τ rfl).trans (by rw [t2])) (s_asg' (e_shi (e_loc rfl) e5 (getL_some hm) ?_) (by decide : 3 < 17) s_nil) (s_ret' (e_loc rfl)))))
        rw [← List.map_take]; exact newL_fits (by rw [List.length_map, List.length_take]; lia)
      · rw [← List.append_assoc]; exact ap_new
      · rw [List.length_take]; lia
    · have t2 : ((sc.getD 15 0).fmod 6 == 2) = false := beq_eq_false_iff_ne.mpr j2
      exact ⟨τ, vs, lm, f_ret h26 rfl (pre _ (s_skip ((ec 1 _ τ rfl).trans (by rw [t1])) (s_skip ((ec 2 _ τ rfl).trans (by rw [t2])) (s_ret' (e_loc rfl))))), hm, by lia⟩
end
end Mine

set_option autoImplicit false
set_option linter.unusedVariables false
namespace Mine
open PySem

set_option tactic.hygienic false in
theorem e_join {call : Nat → List V → Sto → RE} {fr : Fra} {a : E} {σ σ1 : Sto} {s x : Str} {l : Nat} (h : evE call a fr σ = .ok (.ref l) σ1) (hl : getL σ1 l = some [.str x]) : evE call (.join s a) fr σ = .ok (.str x) σ1 := by
  show (evE call a fr σ).bind _ = _; rw [h]
  show (match getL σ1 l with | some xs => joinV xs σ1 | none => .bad) = _
  rw [hl]; rfl
set_option tactic.hygienic false in
theorem add_str {σ : Sto} {x y z : Str} (h : x.length + y.length ≤ 1000) (e : x ++ y = z) : binV .Add (.str x) (.str y) σ = .ok (.str z) σ := by
  show (if x.length + y.length ≤ 1000 then RE.ok (.str (x ++ y)) σ else .bad) = _
  rw [if_pos h, e]
noncomputable def allWords : List (Str × Nat) := [("count", 0), ("meeting", 1), ("delay", 2), ("apart", 3), ("ring", 4), ("pace", 5)]
noncomputable def pairW (k : Nat) (p : Str × Nat) : V := .tup [.str p.1, .bool (xc k == xc p.2)]
section
variable {P : Nat → Option Fn} {wf n : Nat} {σ : Sto} {sc : List Int}
set_option tactic.hygienic false in
theorem word_ok (h29 : P 29 = some fWordOf) {k : Nat} (hk : k < 4) :
    ∃ τ, evFn P wf (n + 1) 29 [.exc (xc k)] σ = .ok (.str ("refused " ++ wordOf (some k))) (σ ++ τ) := by
  have hin : xcs.contains (xc k) = true := by
    match k, hk with | 0, _ => rfl | 1, _ => rfl | 2, _ => rfl | 3, _ => rfl
  have ep : ∀ (fr : Fra) (σ' : Sto) s j, fr[0]? = some (some (.exc (xc k))) → evE (evFn P wf n) (excPair s j) fr σ' = .ok (pairW k (s, j)) σ' := fun fr σ' s j h0 =>
    e_tup (es_cons e_str (es_cons (e_isi (e_loc h0) (if_pos hin)) es_nil)) (by decide : 2 ≤ 1000)
  have hv : isiV (Ty.val xcs) (.exc (xc k)) σ = some true := if_pos hin
  have ev : evE (evFn P wf n) ((E.loc 0).isi (Ty.val xcs)).not (frame0 fWordOf [.exc (xc k)]) σ = .ok (.bool false) σ := e_not (p := true) (e_isi (e_loc rfl) hv)
  have l2 : ∀ (fr : Fra) (σ' : Sto) s j s' j', fr[0]? = some (some (.exc (xc k))) → evE (evFn P wf n) (E.list [excPair s j, excPair s' j']) fr σ' = .ok (.ref σ'.length) (σ' ++ [.lst ([(s, j), (s', j')].map (pairW k))]) := fun fr σ' s j s' j' h0 =>
    e_list (es_cons (ep fr σ' s j h0) (es_cons (ep fr σ' s' j' h0) es_nil)) (newL_fits (by decide : 2 ≤ 16777216))
  have hf : (allWords.filter fun p => xc k == xc p.2).map (fun p => V.str p.1) = [.str (wordOf (some k))] := by
    match k, hk with | 0, _ => rfl | 1, _ => rfl | 2, _ => rfl | 3, _ => rfl
  refine ⟨[.lst (allWords.take 2 |>.map (pairW k))] ++ [.lst (([("delay", 2), ("apart", 3)] : List (Str × Nat)).map (pairW k))] ++ [.lst ((allWords.take 4).map (pairW k))] ++ [.lst (([("ring", 4), ("pace", 5)] : List (Str × Nat)).map (pairW k))] ++ [.lst (allWords.map (pairW k))] ++ [.lst [.str (wordOf (some k))]], ?_⟩
  rw [← List.append_assoc, ← List.append_assoc, ← List.append_assoc, ← List.append_assoc, ← List.append_assoc]
  refine f_ret h29 rfl (s_skip ev (s_asg' (l2 _ _ _ _ _ _ rfl) (by decide : 1 < 10) (s_asg' (e_bin (e_loc rfl) (l2 _ _ _ _ _ _ rfl) (add_lst (ap ap_new) ap_new (by decide : 2 + 2 ≤ 16777216))) (by decide : 1 < 10) (s_asg' (e_bin (e_loc rfl) (l2 _ _ _ _ _ _ rfl) (add_lst (ap ap_new) ap_new (by decide : 4 + 2 ≤ 16777216))) (by decide : 1 < 10) (s_ret' (e_bin e_str (e_join (e_comp (ws := allWords) (g := pairW k) (p := fun p => xc k == xc p.2) (f := fun p => .str p.1) (e_loc rfl) (getL_some ap_new) (fun p hp => ⟨_, rfl, t_one (e_loc rfl), fun _ => e_loc rfl⟩) ((congrArg (fun l => newL l _) hf).trans (newL_fits (by decide : 1 ≤ 16777216)))) (getL_some ap_new)) (add_str ?_ rfl)))))))
  match k, hk with
  | 0, _ => exact (by decide +kernel : Str.length "refused " + Str.length "count" ≤ 1000)
  | 1, _ => exact (by decide +kernel : Str.length "refused " + Str.length "meeting" ≤ 1000)
  | 2, _ => exact (by decide +kernel : Str.length "refused " + Str.length "delay" ≤ 1000)
  | 3, _ => exact (by decide +kernel : Str.length "refused " + Str.length "apart" ≤ 1000)
set_option tactic.hygienic false in
theorem eqv_str {s t : Str} (hs : PyData.strOk s = true) (ht : PyData.strOk t = true) : eqV σ (.str s) (.str t) = some (s == t) := by
  have hd : ∀ s, PyData.strOk s = true → toD 5 σ (.str s) = some (.str s) := fun s hs => if_pos hs
  unfold eqV
  rw [hd s hs, hd t ht]; rfl
set_option tactic.hygienic false in
theorem ne_str {s t : Str} {b : Bool} (hs : PyData.strOk s = true) (ht : PyData.strOk t = true) (h : (s == t) = b) : cmpV .NotEq (.str s) (.str t) σ = some (!b) := by
  show (eqV σ (.str s) (.str t)).map (!·) = _
  rw [eqv_str hs ht, h]; rfl
noncomputable def said : Option Nat → Str
  | none => ""
  | some k => "refused " ++ wordOf (some k)
set_option tactic.hygienic false in
theorem eqv_wayI (us : List IWay) : PyData.eqvAll (us.map wayID) (us.map wayID) = true := by
  induction us with
  | nil => rfl
  | cons w us ih =>
    show ((w.1 == w.1 && (w.2.1 == w.2.1 && (w.2.2 == w.2.2 && true))) && PyData.eqvAll (us.map wayID) (us.map wayID)) = true
    rw [ih, beq_self_eq_true, beq_self_eq_true, beq_self_eq_true]; rfl
set_option tactic.hygienic false in
theorem eqI {l k : Nat} {ws : List IWay} (h : σ[l]? = some (.lst (ws.map wayI))) (h' : σ[k]? = some (.lst (ws.map wayI))) : cmpV .Eq (.ref l) (.ref k) σ = some true := by
  show eqV σ (.ref l) (.ref k) = _
  unfold eqV
  rw [toD_lst h wayID_of, toD_lst h' wayID_of]
  exact congrArg some (eqv_wayI ws)
noncomputable def lawF4 (m : Int) (lw lh : Nat) (s : Str) (x5 x6 x7 : Option V) : Fra := [some (.ref 0), some (.int m), some (.ref lw), some (.ref lh), some (.str s), x5, x6, x7, none, none, none, none, none, none, none, none, none]
set_option tactic.hygienic false in
theorem Due.lt {m : Int} {ws : List IWay} {k : Nat} (D : Due m ws (some k)) : k < 4 := by
  generalize hk : some k = o at D
  cases D <;> cases hk <;> decide
set_option tactic.hygienic false in
theorem post_ok (h27 : P 27 = some fMet) (h28 : P 28 = some fDue) {m : Int} {lw lh : Nat} {ws : List IWay} {x5 x6 x7 : Option V} (hw : σ[lw]? = some (.lst (ws.map wayI))) (hh : σ[lh]? = some (.lst (ws.map wayI))) (hz : ws.length ≤ 100) {k : Option Nat} (D : Due m ws k) :
    ∃ fr τ, evSs (evFn P wf (n + 2)) wf lawPost (lawF4 m lw lh (said k) x5 x6 x7) σ = .ok (.ret (.bool true)) fr (σ ++ τ) := by
  obtain ⟨τ, e⟩ := due_ok (wf := wf) (n := n) h27 h28 hw hz D
  refine ⟨lawF4 m lw lh (said k) x5 x6 (some (.str (said k))), τ, s_asg' (e_call (es_cons (e_loc rfl) (es_cons (e_loc rfl) es_nil)) e) (by decide : 7 < 17) ?_⟩
  have fin : ∀ s, s = said k → PyData.strOk s = true → evSs (evFn P wf (n + 2)) wf [S.ret ((E.cmp CmpOp.Eq (E.loc 4) (E.loc 7)).and (E.cmp CmpOp.Eq (E.loc 3) (E.loc 2)))] (lawF4 m lw lh s x5 x6 (some (.str s))) (σ ++ τ) = .ok (.ret (.bool true)) (lawF4 m lw lh s x5 x6 (some (.str s))) (σ ++ τ) := fun s _ hs =>
    s_ret' (e_and_t (e_cmp (e_loc rfl) (e_loc rfl) ((eqv_str hs hs).trans (congrArg some (beq_self_eq_true s)))) (e_cmp (e_loc rfl) (e_loc rfl) (eqI (ap hh) (ap hw))))
  cases k with
  | none => exact s_skip (e_cmp (p := false) (e_loc rfl) e_str (ne_str (b := true) (by decide +kernel) (by decide +kernel) (by decide +kernel))) (fin _ rfl (by decide +kernel))
  | some k =>
    have hk := D.lt
    have go : ∀ w : Str, cmpV .NotEq (.str w) (.str "") (σ ++ τ) = some true → Str.length "refused " + w.length ≤ 1000 → PyData.strOk ("refused " ++ w) = true → wordOf (some k) = w → evSs (evFn P wf (n + 2)) wf (lawPost.drop 1) (lawF4 m lw lh (said (some k)) x5 x6 (some (.str (wordOf (some k))))) (σ ++ τ) = .ok (.ret (.bool true)) (lawF4 m lw lh (said (some k)) x5 x6 (some (.str (said (some k))))) (σ ++ τ) := fun w h1 h2 h3 hw => by
      have hs : said (some k) = "refused " ++ w := congrArg (fun w => Str.ofString "refused " ++ w) hw
      rw [hs, hw]
      exact s_if_t (e_cmp (e_loc rfl) e_str h1) (s_asg' (e_bin e_str (e_loc rfl) (add_str h2 rfl)) (by decide : 7 < 17) s_nil) (fin _ hs.symm h3)
    match k, hk with
    | 0, _ => exact go "count" (ne_str (b := false) (by decide +kernel) (by decide +kernel) (by decide +kernel)) (by decide +kernel) (by decide +kernel) rfl
    | 1, _ => exact go "meeting" (ne_str (b := false) (by decide +kernel) (by decide +kernel) (by decide +kernel)) (by decide +kernel) (by decide +kernel) rfl
    | 2, _ => exact go "delay" (ne_str (b := false) (by decide +kernel) (by decide +kernel) (by decide +kernel)) (by decide +kernel) (by decide +kernel) rfl
    | 3, _ => exact go "apart" (ne_str (b := false) (by decide +kernel) (by decide +kernel) (by decide +kernel)) (by decide +kernel) (by decide +kernel) rfl
set_option tactic.hygienic false in
theorem pre_ok (HL : DefsL P 10000) (h24 : P 24 = some fMany) (h25 : P 25 = some (fWays 1 14 13 waysTail)) (h26 : P 26 = some fBent) :
    ∃ (m : Int) (ws : List IWay) (lw lh : Nat) (σ' : Sto), ws.length ≤ 100 ∧ evSs (evFn P wf (n + 3)) wf lawPre (frame0 fLaw04 [.ref 0]) [.frz (sc.map V.int), .tab false] = .ok .next (lawF4 m lw lh "" none none none) σ' ∧ ScriptAt σ' sc ∧ σ'[1]? = some (.tab true) ∧ σ'[lw]? = some (.lst (ws.map wayI)) ∧ σ'[lh]? = some (.lst (ws.map wayI)) := by
  obtain ⟨m, m1, m2, e1⟩ := many_ok (wf := wf) (n := n + 1) (σ := [.frz (sc.map V.int), .tab false]) (sc := sc) HL.h20 h24 rfl
  obtain ⟨us, lu, σ1, hz, G, e2, hs, ht, hu⟩ := ways10_len (wf := wf) (n := n + 1) (sc := sc) HL h25 m1 m2
  obtain ⟨τ, ws, lw, e3, hw, hl⟩ := bent_ok (wf := wf) (n := n + 1) (m := m) HL h26 hs hu (Nat.pos_of_ne_zero fun e => G.ne (List.length_eq_zero_iff.mp e)) (by lia)
  have hs' : ScriptAt (σ1 ++ τ) sc := ap hs
  have e4 : ∀ m', evE (evFn P wf (n + 3)) (E.cmp CmpOp.Eq (E.bin Operator.Mod (E.call 20 [E.loc 0, E.int 16]) (E.int 5)) (E.int 1)) (some (.ref 0) :: m' :: some (.ref lw) :: List.replicate 14 none) (σ1 ++ τ) = .ok (.bool ((sc.getD 16 0).fmod 5 == 1)) (σ1 ++ τ) := fun m' => e_cmp (e_bin (e_call (es_cons (e_loc rfl) (es_cons e_int es_nil)) (cell_ok HL.h20 hs' 16)) e_int (b_fmod (by decide))) e_int rfl
  have e5 := e_bin (op := .Sub) (e_bin (op := .Mod) (e_bin (op := .FloorDiv) (e_call (es_cons (e_loc (i := 0) rfl) (es_cons e_int es_nil)) (cell_ok (P := P) (wf := wf) (n := n + 2) HL.h20 hs' 16)) (e_int (n := 5)) (b_fdiv (by decide) (by decide))) (e_int (n := 18)) (b_fmod (by decide))) (e_int (fr := some (.ref 0) :: some (.int m) :: some (.ref lw) :: List.replicate 14 none) (n := 2)) rfl
  have hb : bltV .list [.ref lw] (σ1 ++ τ) = .ok (.ref (σ1 ++ τ).length) (σ1 ++ τ ++ [.lst (ws.map wayI)]) := b_list' hw (by rw [List.length_map]; lia)
  have tl : ∀ m', evSs (evFn P wf (n + 3)) wf [S.asg 3 (E.blt BN.list [E.loc 2]), S.asg 4 (E.str "")] (some (.ref 0) :: some (.int m') :: some (.ref lw) :: List.replicate 14 none) (σ1 ++ τ) = .ok .next (lawF4 m' lw (σ1 ++ τ).length "" none none none) (σ1 ++ τ ++ [.lst (ws.map wayI)]) := fun m' =>
    s_asg' (e_blt (es_cons (e_loc rfl) es_nil) hb) (by decide : 3 < 17) (s_asg' e_str (by decide : 4 < 17) s_nil)
  have hd : ∀ r, evSs (evFn P wf (n + 3)) wf (lawPre.drop 2) (some (.ref 0) :: some (.int m) :: some (.ref lw) :: List.replicate 14 none) (σ1 ++ τ) = r → evSs (evFn P wf (n + 3)) wf lawPre (frame0 fLaw04 [.ref 0]) [.frz (sc.map V.int), .tab false] = r := fun r hr =>
    s_asg' (e_call (es_cons (e_loc rfl) es_nil) e1) (by decide : 1 < 17) (s_asg' (e_call (es_cons (e_loc rfl) (es_cons (e_call (es_cons (e_loc rfl) (es_cons (e_loc rfl) es_nil)) e2) (es_cons (e_loc rfl) es_nil))) e3) (by decide : 2 < 17) hr)
  cases q : ((sc.getD 16 0).fmod 5 == 1) with
  | true => exact ⟨_, ws, lw, _, _, hl, hd _ (s_if_t ((e4 _).trans (by rw [q])) (s_asg' e5 (by decide : 1 < 17) s_nil) (tl _)), ap (ap hs), ap (ap ht), ap hw, ap_new⟩
  | false => exact ⟨_, ws, lw, _, _, hl, hd _ (s_skip ((e4 _).trans (by rw [q])) (tl _)), ap (ap hs), ap (ap ht), ap hw, ap_new⟩
set_option tactic.hygienic false in
theorem law04_ok (HL : DefsL P 10000) (HW : DefsW P) (h24 : P 24 = some fMany) (h25 : P 25 = some (fWays 1 14 13 waysTail)) (h26 : P 26 = some fBent) (h27 : P 27 = some fMet) (h28 : P 28 = some fDue) (h29 : P 29 = some fWordOf) (hwf : 14 ≤ wf) :
    ∃ fr' σ', evT (evFn P wf (n + 3)) (evFn P wf (n + 3)) wf fLaw04.body (frame0 fLaw04 [.ref 0]) [.frz (sc.map V.int), .tab false] = .ok (.ret (.bool true)) fr' σ' ∧ σ'[0]? = some (.frz (sc.map V.int)) ∧ ∃ b, σ'[1]? = some (.tab b) := by
  obtain ⟨m, ws, lw, lh, σ, hz, e, hs, ht, hw, hh⟩ := pre_ok (wf := wf) (n := n) (sc := sc) HL h24 h25 h26
  obtain ⟨k, D⟩ := due_ex m ws
  have fin : ∀ {τ : Sto} {x5 x6 : Option V}, evT (evFn P wf (n + 3)) (evFn P wf (n + 3)) wf (S.tryS lawTry xcs 6 [S.asg 4 (E.call 29 [E.loc 6])] :: lawPost) (lawF4 m lw lh "" none none none) σ = evSs (evFn P wf (n + 3)) wf lawPost (lawF4 m lw lh (said k) x5 x6 none) (σ ++ τ) → 
      ∃ fr' σ', evT (evFn P wf (n + 3)) (evFn P wf (n + 3)) wf fLaw04.body (frame0 fLaw04 [.ref 0]) [.frz (sc.map V.int), .tab false] = .ok (.ret (.bool true)) fr' σ' ∧ σ'[0]? = some (.frz (sc.map V.int)) ∧ ∃ b, σ'[1]? = some (.tab b) := fun {τ x5 x6} h => by
    obtain ⟨fr, τ2, e2⟩ := post_ok (wf := wf) (n := n + 1) (σ := σ ++ τ) (x5 := x5) (x6 := x6) (x7 := none) h27 h28 (ap hw) (ap hh) hz D
    exact ⟨fr, _, tr_pre rfl e (h.trans e2), ap (ap hs), true, ap (ap ht)⟩
  have post : ∀ {k : Option Nat} {τ : Sto} {x5 x6 : Option V}, Due m ws k → evT (evFn P wf (n + 3)) (evFn P wf (n + 3)) wf lawPost (lawF4 m lw lh (said k) x5 x6 none) (σ ++ τ) = evSs (evFn P wf (n + 3)) wf lawPost (lawF4 m lw lh (said k) x5 x6 none) (σ ++ τ) := fun {k τ x5 x6} D => by
    obtain ⟨fr, τ2, e2⟩ := post_ok (wf := wf) (n := n + 1) (σ := σ ++ τ) (x5 := x5) (x6 := x6) (x7 := none) h27 h28 (ap hw) (ap hh) hz D
    rw [e2]; exact tr_all rfl e2
  cases k with
  | some k =>
    obtain ⟨τ, ei⟩ := init_ex (wf := wf) (n := n) HW hh D hwf
    obtain ⟨τ2, ew⟩ := word_ok (P := P) (wf := wf) (n := n + 2) (σ := σ ++ τ) h29 D.lt
    have hin : xcs.contains (xc k) = true := by
      match k, D.lt with | 0, _ => rfl | 1, _ => rfl | 2, _ => rfl | 3, _ => rfl
    refine fin (τ := τ ++ τ2) (x5 := none) (x6 := none) ?_
    refine tr_ex (s_asg_ex rfl (e_mk_ex (es_cons (e_loc rfl) (es_cons (e_loc rfl) es_nil)) ei)) hin (by decide : 6 < 17) (s_asg' (e_call (es_cons (e_loc rfl) es_nil) ew) (by decide : 4 < 17) s_nil) ?_
    rw [List.append_assoc]
    exact post D
  | none =>
    generalize hko : (none : Option Nat) = ko at D
    cases D with
    | @fine m' us F J =>
      rw [to_ways] at hw hh
      obtain ⟨τ, ei, W⟩ := init_ok (wf := wf) (n := n) HW hh (J.good F) hwf
      obtain ⟨d, la, a, b, c⟩ := W.at'
      refine fin (τ := τ) (x5 := some (.ref (σ.length + 1))) (x6 := none) ?_
      refine tr_ok (s_asg' (e_mk (es_cons (e_loc rfl) (es_cons (e_loc rfl) es_nil)) ei) (by decide : 5 < 17) (s_skip (e_or_f (e_cmp (p := false) (e_attr (e_loc rfl) (attr_many a b)) (e_loc rfl) (congrArg (fun b => some (!b)) (beq_self_eq_true (m' : Int)))) (e_cmp (e_attr (e_loc rfl) (attr_ways a b)) (e_loc rfl) (ne_ways c (ap hw)))) s_nil)) (post (.fine F J))
    | _ => cases hko
end
end Mine

set_option autoImplicit false
set_option maxRecDepth 100000
namespace Mine
open PySem PyProof.Rows PySem.W

noncomputable def cA : CE := { names := [], fns := [("is_whole", 8), ("come_to", 9), ("is_joined", 10), ("_law_cell_at", 20), ("_law_mixed", 22), ("_law_delay_by", 23), ("_law_many", 24), ("_law_ways", 25), ("_law_bent", 26), ("_law_met", 27), ("_law_due", 28)], clss := [("Web", 11)], excs := [("BadCount", 44), ("NoMeeting", 56), ("BadDelay", 68), ("Apart", 80), ("NoRing", 92), ("BadPace", 104)], mths := [], attrs := [("many", 0), ("ways", 1)], consts := [("MOST_MEETINGS", 12), ("MOST_WAYS", 60), ("MOST_DELAY", 9999)], lam := none, hnd := false, hfns := [("_law_word_of", 29)], pe := some ("PaceError", 31) }
noncomputable def cL : CE := { cA with lam := some 220 }
noncomputable def cH : CE := cA.hand
noncomputable def cOf (k : Nat) : CE := if k = 25 then cL else if k = 29 then cH else cA
noncomputable def faOf (k : Nat) : Option Addr := ([none, none, none, none, none, none, none, none, some 113, some 120, some 125, some 139, none, none, none, none, none, none, none, none, some 193, none, some 200, some 207, some 214, some 221, some 228, some 235, some 240, some 245, some 252] : List (Option Addr))[k]?.join
noncomputable def fhOf (k : Nat) : Option Addr := if k = 29 then faOf k else none
structure CompN (K : Frag) : Prop where
  q8 : compFn K cA 113 = some fIsWhole
  q9 : compFn K cA 120 = some fComeTo
  q10 : compFn K cA 125 = some fIsJoined
  q11 : compFn K cA 139 = some fInit
  q20 : compFn K cA 193 = some fCellAt
  q22 : compFn K cA 200 = some fMixed
  q23 : compFn K cA 207 = some (fDelayBy 10000)
  q24 : compFn K cA 214 = some fMany
  q25 : compFn K cL 221 = some (fWays 1 14 13 waysTail)
  q26 : compFn K cA 228 = some fBent
  q27 : compFn K cA 235 = some fMet
  q28 : compFn K cA 240 = some fDue
  q29 : compFn K cH 245 = some fWordOf
  qL : compTn K cA 252 = some fLaw04
theorem joinN {prog : Program} {w : World} {K : Frag} {mg mb : Str → Option Value} {s₁ : Shared} {scr : Addr} {vs : List Value} {is : List Int}
    (KX : K.In s₁.heap) (Tg : s₁.heap.Ns mainGlobals mg) (Tb : s₁.heap.Ns builtinsNs mb) (hb : ∀ x : Str, x ≠ "__name__" → mb x = bootBuiltins x) (lim : s₁.heap.NoLimit)
    (hl : s₁.heap.get? scr = some { cls := .type "list", data := .seq vs.toArray }) (hi : IntsAre vs is) (hlen : is.length ≤ 63)
    (hT : TabsAt [(220, 216)] s₁.heap) (hB : ∃ bm ob, mg "__builtins__" = some (.ref bm) ∧ bm ≠ builtinsNs ∧ s₁.heap.get? bm = some ob ∧ ob.cls = .type "module" ∧ ob.dict = some builtinsNs ∧ ob.data = .plain)
    {p : Program} {loose : List Str} (TR : TopRead p loose mg mb s₁.heap)
    (hK : K.all (fun p => !(p.2.cls == .type "list") && !(p.1 == 216)) = true) (chk : chkG K cA 182 [(0, "many"), (1, "ways")] faOf = true) (chk' : chkG K cL 182 [(0, "many"), (1, "ways")] faOf = true) (chkh : chkG K cH 182 [(0, "many"), (1, "ways")] faOf = true) (chkh' : chkG K cH 182 [(0, "many"), (1, "ways")] fhOf = true) (chkx : chkE K cA = true) (Q : CompN K)
    {R : Result → Shared → Prop} (hR : ∀ h' tk, (∀ (b : Addr) (o : Obj), (ghostOf s₁.heap [(220, 216)]).get? b = some o → h'.get? b = some o) → GrownAll [(220, 216)] h' → R (.ok (.ret (.bool true))) { s₁ with heap := h', toks := tk }) :
    codeAny (model prog w) callerA (.call (.ref 252) ⟨[.ref scr], []⟩) R s₁ := by
  obtain ⟨frL, σ', ev, h0, h1⟩ := law04_ok (P := Pof K cOf faOf) (wf := 10 ^ 100) (n := 0) (sc := is) ⟨Q.q20, Q.q22, Q.q23⟩ ⟨Q.q8, Q.q9, Q.q10, Q.q11⟩ Q.q24 Q.q25 Q.q26 Q.q27 Q.q28 Q.q29 (by decide)
  refine joinT (c := cOf) (C := 182) (at' := [(0, "many"), (1, "ways")]) (fa := faOf) (n := 3) (lawI := 30) KX Tg Tb hb lim hl hi hlen hT hB hK (fun k => ?_) (by decide) (by decide) rfl (by decide) (by decide) (fun k x h => ?_) TR (fun k => ?_) (fh := fhOf) (fun k a h => ?_) chkh' Q.qL rfl ev h0 h1 hR
  · unfold cOf; split
    · exact chk'
    · split
      · exact chkh
      · exact chk
  · unfold cOf at h
    split at h
    · exact (Option.some.inj h).symm
    · split at h <;> cases h
  · unfold cOf; split
    · exact chkx
    · split <;> exact chkx
  · unfold fhOf at h
    split at h
    · rename_i hk
      subst hk
      exact ⟨h, rfl⟩
    · cases h
end Mine
open PySem PySem.W PyProof.Rows
set_option Elab.async false
set_option maxHeartbeats 8000000 in
theorem PySem.Challenge.cw_uf060017_04_holds : PySem.Challenge.rw_uf060017_04.Holds := by
  w_on
  refine holds_law Mine.ws04 fun said => ?_
  refine PySem.W.holds_open (q := Mine.q04) (loose := []) (Xt := Mine.xt04) (XP := XL Mine.q04 []) (Yf := Mine.hk04.obs) (Ya := Mine.hk04.val) (YP := Mine.hk04.says) (N := 4862) Mine.left04 Mine.hk04.of Mine.hk04.keeps (fun s e => xl_of s (Bool.and_eq_true_iff.mp e).1) XL.keeps (by rfl) (by rfl) (by rfl) (fun s e => recFacts_of (Bool.and_eq_true_iff.mp e).2) (by rfl) said (by decide +kernel) ⟨rfl, rfl, rfl, rfl, rfl, by decide +kernel⟩ ?hw ?hc
  case hw => w_witness2
  intro w s₀ s₁ mg mb G Y fa o pm cd doc dV kV ho hd hcd hD hmg hg args vals as hpre hlay hrd hwl hlo
  have KX : (Mine.K04 w.params).In s₁.heap := km_in_of Y
  have hT : TabsAt [(220, 216)] s₁.heap := fun q hq => by
    cases List.mem_singleton.mp hq
    exact ⟨codeHd_of_K KX (by kernel_rfl), km_tabs_of Y 216 (.head _)⟩
  refine Ground.open G ?_
  intro T B D TE TW
  clear hd hcd hD
  wrow_args hpre hlay hrd hwl hlo
  all_goals (first | refine callC_kw (enter_call ?_) | refine enter_call ?_)
  all_goals (w_top on)
  all_goals (refine kn_post hT (fun _ _ => rfl) ?_)
  rename Well _ _ _ _ => hW
  rename Heap.IsList _ _ _ => hL
  rename IntsAre _ _ => hI
  rename ¬ _ < _ => hcond
  have hfa : fa = 252 := by
    have h1 := mg_of (n := "law") (v := .ref 252) KX T.g (by kernel_rfl)
    have h2 : mg (Str.ofString "law") = some (.ref fa) := hmg
    rw [h2] at h1; cases h1; rfl
  subst hfa
  refine Mine.joinN KX T.g T.b T.builtins T.nolimit (Mine.list_obj hW hL) hI (by omega) hT T.bmain (topRead_of T) (by kernel_rfl) (by kernel_rfl) (by kernel_rfl) (by kernel_rfl) (by kernel_rfl) (by kernel_rfl) ⟨by kernel_rfl, by kernel_rfl, by kernel_rfl, by kernel_rfl, by kernel_rfl, by kernel_rfl, by kernel_rfl, by kernel_rfl, by kernel_rfl, by kernel_rfl, by kernel_rfl, by kernel_rfl, by kernel_rfl, by kernel_rfl⟩ fun h' tk hk hgr => ?_
  refine ⟨⟨.inl ⟨.bool true, .bool true, [], rfl, fun _ => rfl, .bool true, Mine.law_post _ _ _, fun _ => ⟨List.nodup_nil, fun a ha => nomatch ha⟩⟩, hk, rfl, hg⟩, hgr⟩
